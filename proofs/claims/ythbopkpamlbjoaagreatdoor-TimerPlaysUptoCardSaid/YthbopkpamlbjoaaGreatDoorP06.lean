/- What Go code of this program comes to on a small machine that its translation simulates (a part of the proof of a law of its timers). No condition. -/
import Derived.Test.YthbopkpamlbjoaaGreatDoorP05
set_option linter.unusedSimpArgs false
set_option linter.unusedVariables false
set_option linter.unusedSectionVars false
set_option maxHeartbeats 4000000
namespace Go.Ab
section
open Tb
def begF (kind st ac up dn:Int):Option Int:=if kind=2 then some ac else if kind=3 then some 0 else if kind=4 then some st else if kind=5 then some up else if kind=6 then some dn else none
def dueF (kind span st ac up dn sp:Int):Option Int:=match begF kind st ac up dn with
 | none=>none
 | some b=>if fits (b+span)=true/\0<=min b span/\span≠9223372036854775807/\sp<b+span then some (b+span) else none
theorem dueF_gt {kind span st ac up dn sp n:Int}(h:dueF kind span st ac up dn sp=some n):sp<n/\0<=n/\n<=9223372036854775807/\kind≠1:=by
 unfold dueF at h;split at h
 ·cases h
 ·rename_i b hb;split at h
  ·rename_i hc;cases h;obtain⟨c1,c2,c3,c4⟩:=hc;simp only[fits,decide_eq_true_eq] at c1;refine⟨c4,by omega,c1.2,fun e=>?_⟩;subst e;simp[begF] at hb
  ·cases h
def oi (o:Option Int):Int:=match o with
 | some n=>n
 | none=>0
variable {E:Env}(hE:EnvT E){lim:Nat}{h:Hp}
include hE
theorem c119_cal {s:SD}{z:Value}{base n:Int}{ok:Bool}(span st ac up dn sp:Int)(tx:ByteArray)
  (hA:∀l,evI E h.length (.func 21) [.agg #[.int .u8 s.days,s.yr.val,s.mo.val,s.dy.val,.bool s.en,s.hr.val,s.mi.val,s.se.val,.bool s.utc],z,.int .i64 base] (h++l)=some (.tuple #[.int .i64 n,.bool ok],h++l)) :
  evI E lim (.func 119) [.agg #[.int .u8 1,.int .i64 span,.string tx],.agg #[.int .u8 s.days,s.yr.val,s.mo.val,s.dy.val,.bool s.en,s.hr.val,s.mi.val,s.se.val,.bool s.utc],z,.agg #[.int .i64 st,.int .i64 ac,.int .i64 up,.int .i64 dn,.int .i64 base,.int .i64 sp]] h =
   some (.tuple #[.agg #[.bool ok,.int .i64 n],.bool ok],h):=by
 unfold PD.val at *;rw[hE.fn T119]; simp only[push_cast,ac119,hA,simprocAttr]
theorem c119_mono {s:SD}{z:Value}{kind span st ac up dn base sp:Int}(tx:ByteArray)(hk:kind≠1)(h1:-9223372036854775808<=st/\st<=9223372036854775807)(h2:-9223372036854775808<=ac/\ac<=9223372036854775807)(h3:-9223372036854775808<=up/\up<=9223372036854775807)(h4:-9223372036854775808<=dn/\dn<=9223372036854775807)
  (h5:-9223372036854775808<=span/\span<=9223372036854775807) :
  evI E lim (.func 119) [.agg #[.int .u8 kind,.int .i64 span,.string tx],.agg #[.int .u8 s.days,s.yr.val,s.mo.val,s.dy.val,.bool s.en,s.hr.val,s.mi.val,s.se.val,.bool s.utc],z,.agg #[.int .i64 st,.int .i64 ac,.int .i64 up,.int .i64 dn,.int .i64 base,.int .i64 sp]] h =
   some (.tuple #[.agg #[.bool false,.int .i64 (oi (dueF kind span st ac up dn sp))],.bool (dueF kind span st ac up dn sp).isSome],h):=by
 unfold PD.val;have k1:(kind==1)=false:=by simp[hk]
 by_cases e2:kind=2
 ·subst e2;have hb:begF 2 st ac up dn=some ac:=rfl;cases hf:fits (ac+span) with
  | false =>
   have hd:dueF 2 span st ac up dn sp=none:=by simp only[dueF,hb]; rw[if_neg (by rw[hf]; simp)]
   rw[hE.fn T119]; simp only[push_cast,ac119,mfind,keyEq,keyIs,mapOf,zeroVal,c183 hE ac span h2.1 h2.2 h5.1 h5.2,hf,hd,oi,Option.isSome_none,simprocAttr]
  | true =>
   by_cases c1:min ac span<0
   ·have hd:dueF 2 span st ac up dn sp=none:=by simp only[dueF,hb]; rw[if_neg (by omega)]
    rw[hE.fn T119]; simp only[push_cast,ac119,mfind,keyEq,keyIs,mapOf,zeroVal,c183 hE ac span h2.1 h2.2 h5.1 h5.2,hf,hd,c1,oi,Option.isSome_none,simprocAttr]
   ·by_cases c2:span=9223372036854775807
    ·have hd:dueF 2 span st ac up dn sp=none:=by simp only[dueF,hb]; rw[if_neg (by omega)]
     have c2':(span==9223372036854775807)=true:=by simp[c2]
     rw[hE.fn T119]; simp only[push_cast,ac119,mfind,keyEq,keyIs,mapOf,zeroVal,c183 hE ac span h2.1 h2.2 h5.1 h5.2,hf,hd,c1,c2',oi,Option.isSome_none,simprocAttr]
    ·have c2':(span==9223372036854775807)=false:=by simp[c2]
     by_cases c3:ac+span<=sp
     ·have hd:dueF 2 span st ac up dn sp=none:=by simp only[dueF,hb]; rw[if_neg (by omega)]
      rw[hE.fn T119]; simp only[push_cast,ac119,mfind,keyEq,keyIs,mapOf,zeroVal,c183 hE ac span h2.1 h2.2 h5.1 h5.2,hf,hd,c1,c2',c3,oi,Option.isSome_none,simprocAttr]
     ·have hd:dueF 2 span st ac up dn sp=some (ac+span):=by simp only[dueF,hb]; rw[if_pos ⟨hf,by omega,by omega,by omega⟩]
      rw[hE.fn T119]; simp only[push_cast,ac119,mfind,keyEq,keyIs,mapOf,zeroVal,c183 hE ac span h2.1 h2.2 h5.1 h5.2,hf,hd,c1,c2',c3,oi,Option.isSome_some,simprocAttr]
 by_cases e3:kind=3
 ·subst e3;have hb:begF 3 st ac up dn=some 0:=rfl;cases hf:fits (0+span) with
  | false =>
   have hd:dueF 3 span st ac up dn sp=none:=by simp only[dueF,hb]; rw[if_neg (by rw[hf]; simp)]
   rw[hE.fn T119]; simp only[push_cast,ac119,mfind,keyEq,keyIs,mapOf,zeroVal,c183 hE 0 span (by omega) (by omega) h5.1 h5.2,hf,hd,oi,Option.isSome_none,simprocAttr]
  | true =>
   by_cases c1:min 0 span<0
   ·have hd:dueF 3 span st ac up dn sp=none:=by simp only[dueF,hb]; rw[if_neg (by omega)]
    rw[hE.fn T119]; simp only[push_cast,ac119,mfind,keyEq,keyIs,mapOf,zeroVal,c183 hE 0 span (by omega) (by omega) h5.1 h5.2,hf,hd,c1,oi,Option.isSome_none,simprocAttr]
   ·by_cases c2:span=9223372036854775807
    ·have hd:dueF 3 span st ac up dn sp=none:=by simp only[dueF,hb]; rw[if_neg (by omega)]
     have c2':(span==9223372036854775807)=true:=by simp[c2]
     rw[hE.fn T119]; simp only[push_cast,ac119,mfind,keyEq,keyIs,mapOf,zeroVal,c183 hE 0 span (by omega) (by omega) h5.1 h5.2,hf,hd,c1,c2',oi,Option.isSome_none,simprocAttr]
    ·have c2':(span==9223372036854775807)=false:=by simp[c2]
     by_cases c3:0+span<=sp
     ·have hd:dueF 3 span st ac up dn sp=none:=by simp only[dueF,hb]; rw[if_neg (by omega)]
      rw[hE.fn T119]; simp only[push_cast,ac119,mfind,keyEq,keyIs,mapOf,zeroVal,c183 hE 0 span (by omega) (by omega) h5.1 h5.2,hf,hd,c1,c2',c3,oi,Option.isSome_none,simprocAttr]
     ·have hd:dueF 3 span st ac up dn sp=some (0+span):=by simp only[dueF,hb]; rw[if_pos ⟨hf,by omega,by omega,by omega⟩]
      rw[hE.fn T119]; simp only[push_cast,ac119,mfind,keyEq,keyIs,mapOf,zeroVal,c183 hE 0 span (by omega) (by omega) h5.1 h5.2,hf,hd,c1,c2',c3,oi,Option.isSome_some,simprocAttr]
 by_cases e4:kind=4
 ·subst e4;have hb:begF 4 st ac up dn=some st:=rfl;cases hf:fits (st+span) with
  | false =>
   have hd:dueF 4 span st ac up dn sp=none:=by simp only[dueF,hb]; rw[if_neg (by rw[hf]; simp)]
   rw[hE.fn T119]; simp only[push_cast,ac119,mfind,keyEq,keyIs,mapOf,zeroVal,c183 hE st span h1.1 h1.2 h5.1 h5.2,hf,hd,oi,Option.isSome_none,simprocAttr]
  | true =>
   by_cases c1:min st span<0
   ·have hd:dueF 4 span st ac up dn sp=none:=by simp only[dueF,hb]; rw[if_neg (by omega)]
    rw[hE.fn T119]; simp only[push_cast,ac119,mfind,keyEq,keyIs,mapOf,zeroVal,c183 hE st span h1.1 h1.2 h5.1 h5.2,hf,hd,c1,oi,Option.isSome_none,simprocAttr]
   ·by_cases c2:span=9223372036854775807
    ·have hd:dueF 4 span st ac up dn sp=none:=by simp only[dueF,hb]; rw[if_neg (by omega)]
     have c2':(span==9223372036854775807)=true:=by simp[c2]
     rw[hE.fn T119]; simp only[push_cast,ac119,mfind,keyEq,keyIs,mapOf,zeroVal,c183 hE st span h1.1 h1.2 h5.1 h5.2,hf,hd,c1,c2',oi,Option.isSome_none,simprocAttr]
    ·have c2':(span==9223372036854775807)=false:=by simp[c2]
     by_cases c3:st+span<=sp
     ·have hd:dueF 4 span st ac up dn sp=none:=by simp only[dueF,hb]; rw[if_neg (by omega)]
      rw[hE.fn T119]; simp only[push_cast,ac119,mfind,keyEq,keyIs,mapOf,zeroVal,c183 hE st span h1.1 h1.2 h5.1 h5.2,hf,hd,c1,c2',c3,oi,Option.isSome_none,simprocAttr]
     ·have hd:dueF 4 span st ac up dn sp=some (st+span):=by simp only[dueF,hb]; rw[if_pos ⟨hf,by omega,by omega,by omega⟩]
      rw[hE.fn T119]; simp only[push_cast,ac119,mfind,keyEq,keyIs,mapOf,zeroVal,c183 hE st span h1.1 h1.2 h5.1 h5.2,hf,hd,c1,c2',c3,oi,Option.isSome_some,simprocAttr]
 by_cases e5:kind=5
 ·subst e5;have hb:begF 5 st ac up dn=some up:=rfl;cases hf:fits (up+span) with
  | false =>
   have hd:dueF 5 span st ac up dn sp=none:=by simp only[dueF,hb]; rw[if_neg (by rw[hf]; simp)]
   rw[hE.fn T119]; simp only[push_cast,ac119,mfind,keyEq,keyIs,mapOf,zeroVal,c183 hE up span h3.1 h3.2 h5.1 h5.2,hf,hd,oi,Option.isSome_none,simprocAttr]
  | true =>
   by_cases c1:min up span<0
   ·have hd:dueF 5 span st ac up dn sp=none:=by simp only[dueF,hb]; rw[if_neg (by omega)]
    rw[hE.fn T119]; simp only[push_cast,ac119,mfind,keyEq,keyIs,mapOf,zeroVal,c183 hE up span h3.1 h3.2 h5.1 h5.2,hf,hd,c1,oi,Option.isSome_none,simprocAttr]
   ·by_cases c2:span=9223372036854775807
    ·have hd:dueF 5 span st ac up dn sp=none:=by simp only[dueF,hb]; rw[if_neg (by omega)]
     have c2':(span==9223372036854775807)=true:=by simp[c2]
     rw[hE.fn T119]; simp only[push_cast,ac119,mfind,keyEq,keyIs,mapOf,zeroVal,c183 hE up span h3.1 h3.2 h5.1 h5.2,hf,hd,c1,c2',oi,Option.isSome_none,simprocAttr]
    ·have c2':(span==9223372036854775807)=false:=by simp[c2]
     by_cases c3:up+span<=sp
     ·have hd:dueF 5 span st ac up dn sp=none:=by simp only[dueF,hb]; rw[if_neg (by omega)]
      rw[hE.fn T119]; simp only[push_cast,ac119,mfind,keyEq,keyIs,mapOf,zeroVal,c183 hE up span h3.1 h3.2 h5.1 h5.2,hf,hd,c1,c2',c3,oi,Option.isSome_none,simprocAttr]
     ·have hd:dueF 5 span st ac up dn sp=some (up+span):=by simp only[dueF,hb]; rw[if_pos ⟨hf,by omega,by omega,by omega⟩]
      rw[hE.fn T119]; simp only[push_cast,ac119,mfind,keyEq,keyIs,mapOf,zeroVal,c183 hE up span h3.1 h3.2 h5.1 h5.2,hf,hd,c1,c2',c3,oi,Option.isSome_some,simprocAttr]
 by_cases e6:kind=6
 ·subst e6;have hb:begF 6 st ac up dn=some dn:=rfl;cases hf:fits (dn+span) with
  | false =>
   have hd:dueF 6 span st ac up dn sp=none:=by simp only[dueF,hb]; rw[if_neg (by rw[hf]; simp)]
   rw[hE.fn T119]; simp only[push_cast,ac119,mfind,keyEq,keyIs,mapOf,zeroVal,c183 hE dn span h4.1 h4.2 h5.1 h5.2,hf,hd,oi,Option.isSome_none,simprocAttr]
  | true =>
   by_cases c1:min dn span<0
   ·have hd:dueF 6 span st ac up dn sp=none:=by simp only[dueF,hb]; rw[if_neg (by omega)]
    rw[hE.fn T119]; simp only[push_cast,ac119,mfind,keyEq,keyIs,mapOf,zeroVal,c183 hE dn span h4.1 h4.2 h5.1 h5.2,hf,hd,c1,oi,Option.isSome_none,simprocAttr]
   ·by_cases c2:span=9223372036854775807
    ·have hd:dueF 6 span st ac up dn sp=none:=by simp only[dueF,hb]; rw[if_neg (by omega)]
     have c2':(span==9223372036854775807)=true:=by simp[c2]
     rw[hE.fn T119]; simp only[push_cast,ac119,mfind,keyEq,keyIs,mapOf,zeroVal,c183 hE dn span h4.1 h4.2 h5.1 h5.2,hf,hd,c1,c2',oi,Option.isSome_none,simprocAttr]
    ·have c2':(span==9223372036854775807)=false:=by simp[c2]
     by_cases c3:dn+span<=sp
     ·have hd:dueF 6 span st ac up dn sp=none:=by simp only[dueF,hb]; rw[if_neg (by omega)]
      rw[hE.fn T119]; simp only[push_cast,ac119,mfind,keyEq,keyIs,mapOf,zeroVal,c183 hE dn span h4.1 h4.2 h5.1 h5.2,hf,hd,c1,c2',c3,oi,Option.isSome_none,simprocAttr]
     ·have hd:dueF 6 span st ac up dn sp=some (dn+span):=by simp only[dueF,hb]; rw[if_pos ⟨hf,by omega,by omega,by omega⟩]
      rw[hE.fn T119]; simp only[push_cast,ac119,mfind,keyEq,keyIs,mapOf,zeroVal,c183 hE dn span h4.1 h4.2 h5.1 h5.2,hf,hd,c1,c2',c3,oi,Option.isSome_some,simprocAttr]
 have n2:(kind==2)=false:=by simp[e2]
 have n3:(kind==3)=false:=by simp[e3]
 have n4:(kind==4)=false:=by simp[e4]
 have n5:(kind==5)=false:=by simp[e5]
 have n6:(kind==6)=false:=by simp[e6]
 have hd:dueF kind span st ac up dn sp=none:=by simp[dueF,begF,e2,e3,e4,e5,e6]
 have hf:fits (0+span)=true:=by simp[fits]; omega
 rw[hE.fn T119]; simp only[push_cast,ac119,mfind,keyEq,keyIs,mapOf,zeroVal,c183 hE 0 span (by omega) (by omega) h5.1 h5.2,hf,hd,k1,n2,n3,n4,n5,n6,List.getD_cons_zero,oi,Option.isSome_none,simprocAttr]
end
section
open Tb
def idxB (s:ByteArray)(c:UInt8):Int:=match s.data.toList.findIdx? (·==c) with
 | some i=>i
 | none=>-1
def cntB (s:ByteArray)(c:UInt8):Nat:=s.data.toList.count c
theorem idxB_lt {s:ByteArray}{c:UInt8}:-1<=idxB s c/\idxB s c<s.size:=by
 unfold idxB;split
 ·rename_i i hi;have:=(List.findIdx?_eq_some_iff_findIdx_eq.1 hi).1;simp at this;have e:s.data.size=s.size:=rfl;omega
 ·omega
theorem cnt_none {s:ByteArray}{c:UInt8}(h:idxB s c<0):cntB s c=0:=by
 unfold idxB at h;unfold cntB;split at h
 ·omega
 ·rename_i hi;rw[List.findIdx?_eq_none_iff] at hi;rw[List.count_eq_zero];intro hm;have:=hi c hm;simp at this
theorem cnt_le (s:ByteArray)(c:UInt8):cntB s c<=s.size:=by
 unfold cntB;have:=List.count_le_length (a:=c) (l:=s.data.toList);simpa using this
theorem cnt_cut {s:ByteArray}{c:UInt8}(h:0<=idxB s c):cntB (s.extract ((idxB s c).toNat+1) s.size) c+1=cntB s c:=by
 unfold idxB at h ⊢;unfold cntB;split at h
 ·rename_i i hi;obtain⟨h1,h2⟩:=List.findIdx?_eq_some_iff_findIdx_eq.1 hi
  have hs:(s.extract (i+1) s.size).data.toList=s.data.toList.drop (i+1):=by
   rw[ByteArray.data_extract,Array.toList_extract,List.extract_eq_take_drop];rw[List.take_of_length_le];have:s.data.size=s.size:=rfl;simp
  simp only[hi,Int.toNat_natCast,hs]
  conv=>rhs; rw[<- List.take_append_drop (i+1) s.data.toList,List.count_append]
  have e:s.data.toList.take (i+1)=s.data.toList.take i++[s.data.toList[i]]:=by rw[List.take_succ_eq_append_getElem h1]
  have hc:s.data.toList[i]=c:=by
   have:=List.findIdx_getElem (p:=(·==c)) (xs:=s.data.toList) (w:=by rw[h2]; exact h1);simp only[h2] at this;simpa using this
  have h0:(s.data.toList.take i).count c=0:=by
   rw[List.count_eq_zero];intro hm;obtain⟨j,hj,e⟩:=List.mem_take_iff_getElem.1 hm;have:=List.not_of_lt_findIdx (p:=(·==c)) (xs:=s.data.toList) (i:=j) (by omega);simp[e] at this
  rw[e,List.count_append,h0,hc];simp;omega
 ·omega
def IdxOk (E:Env):Prop:=∀(lim:Nat) (s p:ByteArray) (h:Hp),s.size<1000000->p.size<1000000->∃i:Int,evI E lim (.func 162) [.string s,.string p] h=some (.int .i64 i,h)/\-1<=i/\(0<=i->i+p.size<=s.size)/\∀c,p=⟨#[c]⟩->i=idxB s c
def CntOk (E:Env):Prop:=∀(lim:Nat) (s:ByteArray) (c:UInt8) (h:Hp),s.size<1000000->evI E lim (.func 164) [.string s,.string ⟨#[c]⟩] h=some (.int .i64 (cntB s c),h)
variable {E:Env}(hE:EnvT E){lim:Nat}{h:Hp}
include hE
theorem c101 (hI:IdxOk E)(s p:ByteArray)(hs:s.size<1000000)(hp:p.size<1000000):∃i:Int,evI E lim (.func 101) [.string s,.string p] h=some (.int .i64 i,h)/\-1<=i/\(0<=i->i+p.size<=s.size)/\∀c,p=⟨#[c]⟩->i=idxB s c:=by
 obtain⟨i,e,r⟩:=hI h.length s p h hs hp;exact⟨i,by rw[hE.fn T101]; simp +contextual only[push_cast,ac101,e,simprocAttr],r⟩
theorem c101b (hI:IdxOk E)(s:ByteArray)(c:UInt8)(hs:s.size<1000000):evI E lim (.func 101) [.string s,.string ⟨#[c]⟩] h=some (.int .i64 (idxB s c),h):=by
 obtain⟨i,e,-,-,r⟩:=c101 hE hI (lim:=lim) (h:=h) s ⟨#[c]⟩ hs (by show 1<1000000; omega);rw[e,r c rfl]
theorem c52 (hI:IdxOk E)(s p:ByteArray)(hs:s.size<1000000)(hp:p.size<1000000):∃b,evI E lim (.func 52) [.string s,.string p] h=some (.bool b,h):=by
 obtain⟨i,e,r⟩:=c101 hE hI (lim:=h.length) (h:=h) s p hs hp;exact⟨_,by rw[hE.fn T52]; simp +contextual only[push_cast,ac52,e,simprocAttr]; rfl⟩
theorem c159 (hI:IdxOk E)(s p:ByteArray)(hs:s.size<1000000)(hp:p.size<1000000):∃a b t,evI E lim (.func 159) [.string s,.string p] h=some (.tuple #[.string a,.string b,.bool t],h)/\a.size<=s.size/\b.size<=s.size:=by
 obtain⟨i,e,r1,r2,-⟩:=hI h.length s p h hs hp
 by_cases h0:0<=i
 ·have:=r2 h0;have w:=w64 (x:=i+p.size);have b1:(i<=(s.size:Int))=True:=by simp; omega
  have b2:(i+(p.size:Int)<=(s.size:Int))=True:=by simp; omega
  have b3:(0<=i+(p.size:Int))=True:=by simp; omega
  refine⟨s.extract 0 i.toNat,s.extract (i+p.size).toNat s.size,true,?_,ex_size _ _ _,ex_size _ _ _⟩;rw[hE.fn T159]; simp +contextual only[push_cast,ac159,e,h0,w,b1,b2,b3,bound,Option.map_none,simprocAttr]
 ·refine⟨s,⟨#[]⟩,false,?_,Nat.le_refl _,Nat.zero_le _⟩;rw[hE.fn T159]; simp +contextual only[push_cast,ac159,e,h0,simprocAttr]
theorem c99 (hI:IdxOk E)(s p:ByteArray)(hs:s.size<1000000)(hp:p.size<1000000):∃a b t,evI E lim (.func 99) [.string s,.string p] h=some (.tuple #[.string a,.string b,.bool t],h)/\a.size<=s.size/\b.size<=s.size:=by
 obtain⟨a,b,t,e,r⟩:=c159 hE hI (lim:=h.length) (h:=h) s p hs hp;exact⟨a,b,t,by rw[hE.fn T99]; simp +contextual only[push_cast,ac99,e,simprocAttr],r⟩
theorem c164 (hC:CntOk E)(s:ByteArray)(c:UInt8)(hs:s.size<1000000):evI E lim (.func 164) [.string s,.string ⟨#[c]⟩] h=some (.int .i64 (cntB s c),h):=hC lim s c h hs
end
section
open Tb
def strs (xs:List ByteArray):List Value:=xs.map Value.string
theorem strs_len (xs:List ByteArray):(strs xs).length=xs.length:=List.length_map _
theorem strs_get {xs:List ByteArray}{i:Nat}(h:i<xs.length):(strs xs)[i]?=some (.string (xs.getD i ⟨#[]⟩)):=by
 unfold strs;rw[List.getElem?_map,List.getElem?_eq_getElem h,List.getD_eq_getElem?_getD,List.getElem?_eq_getElem h]; rfl
theorem strs_set (xs:List ByteArray)(i:Nat)(x:ByteArray):(strs xs).set i (.string x)=strs (xs.set i x):=by simp[strs,List.map_set]
theorem strs_repl (n:Nat):repl n [Value.string ⟨#[]⟩]=strs (List.replicate n ⟨#[]⟩):=by
 induction n with
 | zero=>rfl
 | succ n ih=>simp_all [repl,List.replicate_succ,strs]
theorem sgetD_set {xs:List ByteArray}{i j:Nat}{x:ByteArray}(h:i<xs.length):(xs.set i x).getD j ⟨#[]⟩=if i=j then x else xs.getD j ⟨#[]⟩:=by
 rw[List.getD_eq_getElem?_getD,List.getElem?_set,List.getD_eq_getElem?_getD];split<;>simp_all
variable {E:Env}(hE:EnvT E){lim:Nat}{h:Hp}
include hE
theorem c102 (hI:IdxOk E)(hC:CntOk E)(s:ByteArray)(c:UInt8)(hs:s.size<1000000)(hlim:lim<=h.length):PostV (evI E lim (.func 102) [.string s,.string ⟨#[c]⟩,.int .i64 0,.int .i64 (-1)] h) fun v h'=>∃xs:List ByteArray,v=.slice (some ⟨h.length,0,none⟩) xs.length 1/\h'=h++[.cells true (strs xs)]/\1<=xs.length/\xs.length<=s.size+1/\∀j,(xs.getD j ⟨#[]⟩).size<=s.size:=by
 have e1:=c164 hE hC (lim:=lim) (h:=h) s c hs
 have z0:((⟨#[c]⟩:ByteArray).toList==(⟨#[]⟩:ByteArray).toList)=false:=by
  have e1:(⟨#[c]⟩:ByteArray).toList=[c]:=by
   unfold ByteArray.toList;rw[ByteArray.toList.loop,if_pos (by show 0<1; omega),ByteArray.toList.loop,if_neg (by show ¬ 1<1; omega)];rfl
  have e2:(⟨#[]⟩:ByteArray).toList=[]:=by
   unfold ByteArray.toList;rw[ByteArray.toList.loop,if_neg (by show ¬ 0<0; omega)];rfl
  rw[e1,e2];rfl
 have z1:(⟨#[c]⟩:ByteArray).size=1:=rfl;have hc:=cnt_le s c;have w1:IntKind.i64.wrap ((cntB s c:Int)+1)=cntB s c+1:=wrap64 (by omega) (by omega);have w2:IntKind.i64.wrap ((s.size:Int)+1)=s.size+1:=wrap64 (by omega) (by omega);have w3:min ((cntB s c:Int)+1) (s.size+1)=cntB s c+1:=by omega
 have w4:IntKind.i64.wrap ((cntB s c:Int)+1-1)=cntB s c:=by rw[show((cntB s c:Int)+1-1)=cntB s c by omega]; exact wrap64 (by omega) (by omega)
 have t1:((cntB s c:Int)+1).toNat=cntB s c+1:=by omega
 have t2:(0<=(cntB s c:Int)+1)=True:=by simp; omega
 have t3:(((cntB s c:Int)+1)*16<=140737488355328)=True:=by simp; omega
 have t4:((cntB s c:Int)+1<=9223372036854775807)=True:=by simp; omega
 have hlm:(lim<=h.length)=True:=by simp[hlim]
 rw[hE.fn T102]; simp(maxSteps:=3000000) only[push_cast,ac102,e1,z0,w1,w2,w3,w4,t1,t2,t3,t4,strs_repl,Int.le_refl,hE.mono,↓reduceIte,reduceCtorEq,Nat.reduceAdd,Nat.reduceSub,Nat.reduceMul,Nat.reduceLT,Nat.reduceLeDiff,Nat.reduceEqDiff,Nat.reduceBEq,Int.reduceEq,Int.reduceLT,Int.reduceLE,Int.reduceToNat,Int.reduceNeg,Int.reduceSub,Int.reduceAdd,Int.reduceMul,Int.reduceBEq,Int.reduceBNe,Int.reduceGT,Int.reduceGE]
 refine loop_post hE.mono (fun k f X=>∃(i:Nat) (r:ByteArray) (xs:List ByteArray),f.rd 0=.string r/\f.rd 1=.string ⟨#[c]⟩/\f.rd 2=.int .i64 0/\f.rd 3=.int .i64 (cntB s c)/\f.rd 9=.slice (some ⟨h.length,0,none⟩) (cntB s c+1) 1/\f.rd 10=.int .i64 i /\
  X=h++[.cells true (strs xs)]/\xs.length=cntB s c+1/\r.size<=s.size/\i+cntB r c=cntB s c/\(∀j,(xs.getD j ⟨#[]⟩).size<=s.size)/\cntB s c+1-i=k) ?_ (cntB s c+1) _ _ ?_
 ·rintro k f X ⟨i,r,xs,f0,f1,f2,f3,f9,f10,rfl,hl,hr,hi,hx,hk⟩;have ei:evI E lim (.func 101) [.string r,.string ⟨#[c]⟩] (h++[.cells true (strs xs)])=some (.int .i64 (idxB r c),h++[.cells true (strs xs)]):=c101b hE hI r c (by omega);have hic:i<=cntB s c:=by omega
  have x1:((i:Int)<(cntB s c:Int)+1)=True:=by simp; omega
  have x2:(i<cntB s c+1)=True:=by simp; omega
  have x3:(i<xs.length)=True:=by simp; omega
  have x4:IntKind.i64.wrap ((i:Int)+1)=i+1:=wrap64 (by omega) (by omega);have x5:((i:Int)+1).toNat=i+1:=by omega
  have x6:(0<=(i:Int)+1)=True:=by simp; omega
  have x7:((i:Int)+1<=(cntB s c:Int)+1)=True:=by simp; omega
  have x8:(i+1<=cntB s c+1)=True:=by simp; omega
  by_cases hlt:(i:Int)<cntB s c
  ·have hpos:0<=idxB r c:=by
    refine Classical.byContradiction fun hn=>?_;have:=cnt_none (s:=r) (c:=c) (by omega);omega
   have hb:=idxB_lt (s:=r) (c:=c);have hcut:=cnt_cut hpos;have y1:IntKind.i64.wrap (idxB r c+0)=idxB r c:=by rw[Int.add_zero]; exact wrap64 (by omega) (by omega)
   have y2:=w64 (x:=idxB r c+1);have y3:(idxB r c<=(r.size:Int))=True:=by simp; omega
   have y4:(idxB r c+1<=(r.size:Int))=True:=by simp; omega
   have y5:(0<=idxB r c+1)=True:=by simp; omega
   have y6:(idxB r c+1).toNat=(idxB r c).toNat+1:=by omega
   have y7:(idxB r c<0)=False:=by simp; omega
   have y8:(0<=idxB r c)=True:=by simp; omega
   simp(maxSteps:=3000000) only[push_cast,lp102_0,f0,f1,f2,f3,f9,f10,hlt,ei,z1,y1,y2,y3,y4,y5,y6,y7,y8,bound,Option.map_none,x1,x2,x3,x4,x8,strs_len,strs_set,hl,hlm,Int.natCast_nonneg,Nat.mul_one,hE.mono,↓reduceIte,reduceCtorEq,Nat.reduceAdd,Nat.reduceSub,Nat.reduceMul,Nat.reduceLT,Nat.reduceLeDiff,Nat.reduceEqDiff,Nat.reduceBEq,Int.reduceEq,Int.reduceLT,Int.reduceLE,Int.reduceToNat,Int.reduceNeg,Int.reduceSub,Int.reduceAdd,Int.reduceMul,Int.reduceBEq,Int.reduceBNe,Int.reduceGT,Int.reduceGE];refine⟨cntB s c+1-(i+1),by omega,i+1,_,xs.set i (r.extract 0 (idxB r c).toNat),rfl,?_,rfl,by rw[List.length_set]; exact hl,Nat.le_trans (ex_size _ _ _) hr,by omega,fun j=>?_,rfl⟩
   ·rfl
   ·rw[sgetD_set (by omega)];split
    ·exact Nat.le_trans (ex_size _ _ _) hr
    ·exact hx j
  ·have hii:i=cntB s c:=by omega
   simp(maxSteps:=3000000) only[push_cast,lp102_0,f0,f1,f2,f3,f9,f10,hlt,x1,x2,x3,x4,x5,x6,x7,x8,strs_len,strs_set,hl,hlm,Int.natCast_nonneg,Nat.mul_one,bound,Option.map_none,hE.mono,↓reduceIte,reduceCtorEq,Nat.reduceAdd,Nat.reduceSub,Nat.reduceMul,Nat.reduceLT,Nat.reduceLeDiff,Nat.reduceEqDiff,Nat.reduceBEq,Int.reduceEq,Int.reduceLT,Int.reduceLE,Int.reduceToNat,Int.reduceNeg,Int.reduceSub,Int.reduceAdd,Int.reduceMul,Int.reduceBEq,Int.reduceBNe,Int.reduceGT,Int.reduceGE];refine⟨xs.set i r,?_,rfl,by rw[List.length_set]; omega,by rw[List.length_set]; omega,fun j=>?_⟩
   ·rw[List.length_set,hl,hii]; rfl
   ·rw[sgetD_set (by omega)];split
    ·exact hr
    ·exact hx j
 ·refine⟨0,s,List.replicate (cntB s c+1) ⟨#[]⟩,rfl,rfl,rfl,rfl,rfl,rfl,rfl,by simp,Nat.le_refl _,by simp,fun j=>?_,by omega⟩;rw[List.getD_eq_getElem?_getD,List.getElem?_replicate];split<;>exact Nat.zero_le _
theorem c54 (hI:IdxOk E)(hC:CntOk E)(s:ByteArray)(c:UInt8)(hs:s.size<1000000)(hlim:lim<=h.length):PostV (evI E lim (.func 54) [.string s,.string ⟨#[c]⟩] h) fun v h'=>∃xs:List ByteArray,v=.slice (some ⟨h.length,0,none⟩) xs.length 1/\h'=h++[.cells true (strs xs)]/\1<=xs.length/\xs.length<=s.size+1/\∀j,(xs.getD j ⟨#[]⟩).size<=s.size:=by
 obtain⟨v,h',e,xs,rfl,rfl,r⟩:=(c102 hE hI hC (lim:=lim) s c hs hlim).out;rw[hE.fn T54]; simp(maxSteps:=3000000) only[push_cast,ac54,e,hE.mono,↓reduceIte,reduceCtorEq,Nat.reduceAdd,Nat.reduceSub,Nat.reduceMul,Nat.reduceLT,Nat.reduceLeDiff,Nat.reduceEqDiff,Nat.reduceBEq,Int.reduceEq,Int.reduceLT,Int.reduceLE,Int.reduceToNat,Int.reduceNeg,Int.reduceSub,Int.reduceAdd,Int.reduceMul,Int.reduceBEq,Int.reduceBNe,Int.reduceGT,Int.reduceGE];exact⟨xs,rfl,rfl,r⟩
end
section
open Tb
theorem dec_pos (s:ByteArray)(i:Nat):1<=(Utf8.decode s i).2:=by
 simp only[Utf8.decode]
 repeat' split
 all_goals simp
theorem dec_le (s:ByteArray)(i:Nat)(h:i<s.size):i+(Utf8.decode s i).2<=s.size:=by
 simp only[Utf8.decode]
 repeat' split
 all_goals simp_all
 all_goals omega
def DecOk (E:Env):Prop:=∀(lim:Nat) (s:ByteArray) (h:Hp),s.size<1000000->∃r n:Int,evI E lim (.func 266) [.string s] h=some (.tuple #[.int .i32 r,.int .i64 n],h)/\0<=n/\n<=s.size/\(0<s.size->1<=n)
theorem size_ne {s:ByteArray}(h:(s.toList==(⟨#[]⟩:ByteArray).toList)=false):0<s.size:=by
 rcases Nat.eq_zero_or_pos s.size with h0 | h0
 ·have:s=⟨#[]⟩:=by
   have h1:s.data.size=0:=h0;have h2:s.data=#[]:=Array.eq_empty_of_size_eq_zero h1;cases s; simp_all
  subst this;simp at h
 ·exact h0
variable {E:Env}(hE:EnvT E){lim:Nat}{h:Hp}
include hE
theorem c336 (n:Int):∃b,evI E lim (.func 336) [.int .u8 n] h=some (.bool b,h):=⟨_,by rw[hE.fn T336]; simp +contextual only[push_cast,ac336,simprocAttr]; rfl⟩
theorem c325 {p:Nat}{q:Int->Bool}(hp:∀lim h c,evI E lim (.func p) [.int .i32 c] h=some (.bool (q c),h))(s:ByteArray)(b:Bool)(hs:s.size<1000000):∃i:Int,evI E lim (.func 325) [.string s,.func (.func p) #[] #[],.bool b] h=some (.int .i64 i,h)/\-1<=i/\i<s.size:=by
 suffices hh:PostV (evI E lim (.func 325) [.string s,.func (.func p) #[] #[],.bool b] h) fun v h'=>h'=h/\∃i:Int,v=.int .i64 i/\-1<=i/\i<s.size by
  obtain⟨v,h',e,rfl,i,rfl,r⟩:=hh.out;exact⟨i,e,r⟩
 rw[hE.fn T325]; simp only[push_cast,ac325,simprocAttr];refine loop_post hE.mono (fun k f X=>∃pos,f.rd 1=.func (.func p) #[] #[]/\f.rd 2=.bool b/\f.rd 10=.pointer (some ⟨h.length,0,none⟩)/\X=h++[.iter s pos]/\s.size-pos=k) ?_ s.size _ _ ⟨0,rfl,rfl,rfl,rfl,by omega⟩;rintro k f X ⟨pos,f1,f2,f10,rfl,hk⟩
 by_cases hpos:pos<s.size
 ·have hw:=dec_pos s pos;simp only[push_cast,lp325_0,f1,f2,f10,hpos,hp,eqV,lksEq,lkEq,simprocAttr];cases hc:q (Utf8.decode s pos).1==b with
  | true =>
   simp only[push_cast,simprocAttr];exact⟨pos,rfl,by omega,by omega⟩
  | false =>
   simp only[push_cast,f1,f2,f10,simprocAttr];exact⟨s.size-(pos+(Utf8.decode s pos).2),by omega,_,rfl,rfl⟩
 ·simp only[push_cast,lp325_0,f1,f2,f10,hpos,simprocAttr];exact⟨-1,rfl,by omega,by omega⟩
theorem c216 (hD:DecOk E)(s:ByteArray)(hs:s.size<1000000):∃r n:Int,evI E lim (.func 216) [.string s] h=some (.tuple #[.int .i32 r,.int .i64 n],h)/\0<=n/\n<=s.size/\(0<s.size->1<=n):=by
 obtain⟨r,n,e,rest⟩:=hD h.length s h hs;cases h0:s.toList==(⟨#[]⟩:ByteArray).toList with
 | true =>
  refine⟨r,n,?_,rest⟩;rw[hE.fn T216]; simp +contextual only[push_cast,ac216,h0,e,simprocAttr]
 | false =>
  have hp:=size_ne h0;obtain⟨c,hc⟩:=byte_get hp
  by_cases hlt:(c.toNat:Int)<128
  ·refine⟨IntKind.i32.wrap c.toNat,1,?_,by omega,by omega,fun _=>by omega⟩;rw[hE.fn T216]; simp +contextual only[push_cast,ac216,h0,hc,hlt,simprocAttr]
  ·refine⟨r,n,?_,rest⟩;rw[hE.fn T216]; simp +contextual only[push_cast,ac216,h0,hc,hlt,e,simprocAttr]
theorem c332 (hD:DecOk E)(s:ByteArray)(hs:s.size<1000000)(h0:0<s.size):∃r n:Int,evI E lim (.func 332) [.string s] h=some (.tuple #[.int .i32 r,.int .i64 n],h)/\1<=n/\n<=s.size:=by
 suffices hh:PostV (evI E lim (.func 332) [.string s] h) fun v h'=>h'=h/\∃r n:Int,v=.tuple #[.int .i32 r,.int .i64 n]/\1<=n/\n<=s.size by
  obtain⟨v,h',e,rfl,r,n,rfl,rr⟩:=hh.out;exact⟨r,n,e,rr⟩
 have n0:((s.size:Int)==0)=false:=by rw[beq_eq_false_iff_ne]; omega
 have w1:IntKind.i64.wrap ((s.size:Int)-1)=s.size-1:=wrap64 (by omega) (by omega);have w2:IntKind.i64.wrap ((s.size:Int)-4)=s.size-4:=wrap64 (by omega) (by omega);have w3:IntKind.i64.wrap ((s.size:Int)-1-1)=s.size-2:=by rw[show((s.size:Int)-1-1)=s.size-2 by omega]; exact wrap64 (by omega) (by omega)
 have b1:(0<=(s.size:Int)-1)=True:=by simp; omega
 obtain⟨c,hc⟩:=byte_get (s:=s) (i:=s.size-1) (by omega);have t1:((s.size:Int)-1).toNat=s.size-1:=by omega
 cases hc8:decide (IntKind.i32.wrap (c.toNat:Int)<128) with
 | true =>
  rw[hE.fn T332]; simp only[push_cast,ac332,n0,w1,w2,w3,b1,t1,hc,hc8,simprocAttr];exact⟨_,1,rfl,by omega,by omega⟩
 | false =>
  rw[hE.fn T332]; simp only[push_cast,ac332,n0,w1,w2,w3,b1,t1,hc,hc8,simprocAttr];refine loop_post hE.mono (fun k f X=>∃x:Int,f.rd 0=.string s/\f.rd 4=.int .i64 s.size/\f.rd 5=.int .i64 x/\f.rd 6=.int .i64 (max ((s.size:Int)-4) 0)/\-1<=x/\x<=s.size-2/\X=h/\(x+1).toNat=k) ?_ _ _ _ ⟨(s.size:Int)-2,rfl,rfl,rfl,rfl,by omega,by omega,rfl,rfl⟩;rintro k f X ⟨x,f0,f4,f5,f6,x1,x2,rfl,hk⟩
  by_cases hx:max ((s.size:Int)-4) 0<=x
  ·have g1:(0<=x)=True:=by simp; omega
   have dx:decide (x<0)=false:=by simp; omega
   obtain⟨d,hd⟩:=byte_get (s:=s) (i:=x.toNat) (by omega);obtain⟨r,hr⟩:=c336 hE (lim:=X.length) (h:=X) d.toNat;have w4:=w64 (x:=x-1);cases r with
   | true =>
    have ha:0<=x/\x<s.size:=by omega
    have z:(s.extract (x).toNat s.size).size=s.size-(x).toNat:=by rw[ByteArray.size_extract]; omega
    obtain⟨r2,n2,e216,m1,m2,m3⟩:=c216 hE hD (lim:=X.length) (h:=X) (s.extract (x).toNat s.size) (by omega);rw[z] at m2 m3;have m4:=m3 (by omega);have y1:(0<=x)=True:=by simp; omega
    have y2:(x<=(s.size:Int))=True:=by simp; omega
    have y3:=w64 (x:=x+n2);cases hne:(x+n2==(s.size:Int)) with
    | true =>
     simp only[push_cast,lp332_0,f0,f4,f5,f6,hx,hd,hr,dx,bound,Int.natCast_nonneg,Int.le_refl,y1,y2,y3,e216,hne,simprocAttr];exact⟨r2,n2,rfl,by omega,by omega⟩
    | false =>
     simp only[push_cast,lp332_0,f0,f4,f5,f6,hx,hd,hr,dx,bound,Int.natCast_nonneg,Int.le_refl,y1,y2,y3,e216,hne,simprocAttr];exact⟨_,1,rfl,by omega,by omega⟩
   | false =>
    simp only[push_cast,lp332_0,f0,f4,f5,f6,hx,g1,hd,hr,w4,simprocAttr];exact⟨_,by omega,_,rfl,by omega,by omega,rfl⟩
  ·by_cases hx0:x<0
   ·have dx:decide (x<0)=true:=by simp; omega
    have ha:0<=(0:Int)/\(0:Int)<s.size:=by omega
    have z:(s.extract 0 s.size).size=s.size-0:=by rw[ByteArray.size_extract]; omega
    obtain⟨r2,n2,e216,m1,m2,m3⟩:=c216 hE hD (lim:=X.length) (h:=X) (s.extract 0 s.size) (by omega);rw[z] at m2 m3;have m4:=m3 (by omega);have y1:(0<=(0:Int))=True:=by simp
    have y2:((0:Int)<=(s.size:Int))=True:=by simp
    have y3:=w64 (x:=(0:Int)+n2);cases hne:((0:Int)+n2==(s.size:Int)) with
    | true =>
     simp only[push_cast,lp332_0,f0,f4,f5,f6,hx,dx,bound,Int.natCast_nonneg,Int.le_refl,y1,y2,y3,e216,hne,simprocAttr];exact⟨r2,n2,rfl,by omega,by omega⟩
    | false =>
     simp only[push_cast,lp332_0,f0,f4,f5,f6,hx,dx,bound,Int.natCast_nonneg,Int.le_refl,y1,y2,y3,e216,hne,simprocAttr];exact⟨_,1,rfl,by omega,by omega⟩
   ·have dx:decide (x<0)=false:=by simp; omega
    have ha:0<=x/\x<s.size:=by omega
    have z:(s.extract (x).toNat s.size).size=s.size-(x).toNat:=by rw[ByteArray.size_extract]; omega
    obtain⟨r2,n2,e216,m1,m2,m3⟩:=c216 hE hD (lim:=X.length) (h:=X) (s.extract (x).toNat s.size) (by omega);rw[z] at m2 m3;have m4:=m3 (by omega);have y1:(0<=x)=True:=by simp; omega
    have y2:(x<=(s.size:Int))=True:=by simp; omega
    have y3:=w64 (x:=x+n2);cases hne:(x+n2==(s.size:Int)) with
    | true =>
     simp only[push_cast,lp332_0,f0,f4,f5,f6,hx,dx,bound,Int.natCast_nonneg,Int.le_refl,y1,y2,y3,e216,hne,simprocAttr];exact⟨r2,n2,rfl,by omega,by omega⟩
    | false =>
     simp only[push_cast,lp332_0,f0,f4,f5,f6,hx,dx,bound,Int.natCast_nonneg,Int.le_refl,y1,y2,y3,e216,hne,simprocAttr];exact⟨_,1,rfl,by omega,by omega⟩
theorem c324 (hD:DecOk E){p:Nat}{q:Int->Bool}(hp:∀lim h c,evI E lim (.func p) [.int .i32 c] h=some (.bool (q c),h))(s:ByteArray)(b:Bool)(hs:s.size<1000000):∃i:Int,evI E lim (.func 324) [.string s,.func (.func p) #[] #[],.bool b] h=some (.int .i64 i,h)/\-1<=i/\i<s.size:=by
 suffices hh:PostV (evI E lim (.func 324) [.string s,.func (.func p) #[] #[],.bool b] h) fun v h'=>h'=h/\∃i:Int,v=.int .i64 i/\-1<=i/\i<s.size by
  obtain⟨v,h',e,rfl,i,rfl,r⟩:=hh.out;exact⟨i,e,r⟩
 rw[hE.fn T324]; simp only[push_cast,ac324,simprocAttr];refine loop_post hE.mono (fun k f X=>∃x:Nat,f.rd 0=.string s/\f.rd 1=.func (.func p) #[] #[]/\f.rd 2=.bool b/\f.rd 7=.int .i64 x/\x<=s.size/\X=h/\x=k) ?_ s.size _ _ ⟨_,rfl,rfl,rfl,rfl,Nat.le_refl _,rfl,rfl⟩;rintro k f X ⟨x,f0,f1,f2,f7,hx,rfl,rfl⟩
 by_cases h0:(x:Int)>0
 ·have z:(s.extract 0 x).size=x:=by rw[ByteArray.size_extract]; omega
  obtain⟨r,n,e332,n1,n2⟩:=c332 hE hD (lim:=X.length) (h:=X) (s.extract 0 x) (by omega) (by omega);rw[z] at n2;have y1:(x:Int)<=s.size:=by omega
  have w:IntKind.i64.wrap ((x:Int)-n)=x-n:=wrap64 (by omega) (by omega);cases hc:q r==b with
  | true =>
   simp only[push_cast,lp324_0,f0,f1,f2,f7,h0,bound,Int.natCast_nonneg,Int.le_refl,y1,e332,w,hp,eqV,lksEq,lkEq,hc,simprocAttr];exact⟨_,rfl,by omega,by omega⟩
  | false =>
   simp only[push_cast,lp324_0,f0,f1,f2,f7,h0,bound,Int.natCast_nonneg,Int.le_refl,y1,e332,w,hp,eqV,lksEq,lkEq,hc,simprocAttr];exact⟨(x-n).toNat,by omega,_,by rw[Int.toNat_of_nonneg (by omega)],by omega,rfl⟩
 ·simp only[push_cast,lp324_0,f0,f7,h0,simprocAttr];exact⟨-1,rfl,by omega,by omega⟩
theorem c309 {p:Nat}{q:Int->Bool}(hp:∀lim h c,evI E lim (.func p) [.int .i32 c] h=some (.bool (q c),h))(s:ByteArray)(hs:s.size<1000000):∃t,evI E lim (.func 309) [.string s,.func (.func p) #[] #[]] h=some (.string t,h)/\t.size<=s.size:=by
 obtain⟨i,e,i1,i2⟩:=c325 hE hp (lim:=h.length) (h:=h) s false hs
 by_cases hi:i=-1
 ·have hi':(i==-1)=true:=by simp[hi]
  exact⟨⟨#[]⟩,by rw[hE.fn T309]; simp +contextual only[push_cast,ac309,e,hi',simprocAttr],Nat.zero_le _⟩
 ·have hi':(i==-1)=false:=by simp[hi]
  have y1:(0<=i)=True:=by simp; omega
  have y2:(i<=(s.size:Int))=True:=by simp; omega
  exact⟨s.extract i.toNat s.size,by rw[hE.fn T309]; simp +contextual only[push_cast,ac309,e,hi',bound,Option.map_none,y1,y2,simprocAttr],ex_size _ _ _⟩
theorem c308 (hD:DecOk E){p:Nat}{q:Int->Bool}(hp:∀lim h c,evI E lim (.func p) [.int .i32 c] h=some (.bool (q c),h))(s:ByteArray)(hs:s.size<1000000):∃t,evI E lim (.func 308) [.string s,.func (.func p) #[] #[]] h=some (.string t,h)/\t.size<=s.size:=by
 obtain⟨i,e,i1,i2⟩:=c324 hE hD hp (lim:=h.length) (h:=h) s false hs
 by_cases hi:0<=i
 ·have z:(s.extract i.toNat s.size).size=s.size-i.toNat:=by rw[ByteArray.size_extract]; omega
  obtain⟨r,n,e216,n1,n2,n3⟩:=c216 hE hD (lim:=h.length) (h:=h) (s.extract i.toNat s.size) (by omega);rw[z] at n2;have y2:(i<=(s.size:Int))=True:=by simp; omega
  have y3:=w64 (x:=i+n);have y4:(0<=i+n)=True:=by simp; omega
  have y5:(i+n<=(s.size:Int))=True:=by simp; omega
  exact⟨s.extract 0 (i+n).toNat,by rw[hE.fn T308]; simp +contextual only[push_cast,ac308,e,hi,bound,Option.map_none,y2,y3,y4,y5,e216,Int.le_refl,simprocAttr],ex_size _ _ _⟩
 ·have y3:IntKind.i64.wrap (i+1)=0:=by rw[show i+1=0 by omega]; decide
  exact⟨s.extract 0 0,by rw[hE.fn T308]; simp +contextual only[push_cast,ac308,e,hi,bound,Option.map_none,y3,Int.natCast_nonneg,Int.le_refl,simprocAttr],ex_size _ _ _⟩
theorem c273 (hD:DecOk E){p:Nat}{q:Int->Bool}(hp:∀lim h c,evI E lim (.func p) [.int .i32 c] h=some (.bool (q c),h))(s:ByteArray)(hs:s.size<1000000):∃t,evI E lim (.func 273) [.string s,.func (.func p) #[] #[]] h=some (.string t,h)/\t.size<=s.size:=by
 obtain⟨t,e,h1⟩:=c309 hE hp (lim:=h.length) (h:=h) s hs;obtain⟨u,e2,h2⟩:=c308 hE hD hp (lim:=h.length) (h:=h) t (by omega);exact⟨u,by rw[hE.fn T273]; simp +contextual only[push_cast,ac273,e,e2,simprocAttr],by omega⟩
end
section
open Tb
def prs (l:List (Int×Int)):List Value:=l.flatMap fun p=>[.int .i64 p.1,.int .i64 p.2]
theorem prs_len (l:List (Int×Int)):(prs l).length=l.length*2:=by
 induction l with
 | nil=>rfl
 | cons p l ih=>simp only[prs,List.flatMap_cons,List.length_append,List.length_cons,List.length_nil] at ih ⊢; omega
theorem prs_app (l:List (Int×Int))(a b:Int):prs l++[.int .i64 a,.int .i64 b]=prs (l++[(a,b)]):=by simp[prs]
theorem prs_get:∀(l:List (Int×Int)) (j:Nat),j<l.length->((prs l).drop (j*2)).take 2=[.int .i64 (l.getD j (0,0)).1,.int .i64 (l.getD j (0,0)).2]
 | p::l,0,_=>by simp[prs]
 | p::l,j+1,h=>by
  have e:(j+1)*2=j*2+2:=by omega
  have:=prs_get l j (by simpa using h);simp only[prs,List.flatMap_cons,List.cons_append,List.nil_append,e,List.drop_succ_cons,List.getD_cons_succ] at this ⊢;exact this
theorem xorI {n:Int}(h0:0<=n)(h1:n<1000000):IntKind.i64.wrap ((BitVec.ofInt 64 (if IntKind.i64.signed=true then -1 else IntKind.i64.max) ^^^ BitVec.ofInt 64 n).toNat:Int)=-n-1:=by
 show IntKind.i64.wrap ((BitVec.ofInt 64 (-1) ^^^ BitVec.ofInt 64 n).toNat:Int)=-n-1;have e1:BitVec.ofInt 64 (-1)=BitVec.allOnes 64:=by decide
 have e2:BitVec.ofInt 64 n=BitVec.ofNat 64 n.toNat:=by
  obtain⟨m,rfl⟩:=Int.eq_ofNat_of_zero_le h0;simp
 have e3:(BitVec.allOnes 64 ^^^ BitVec.ofNat 64 n.toNat).toNat=18446744073709551615-n.toNat:=by
  rw[BitVec.allOnes_xor,BitVec.toNat_not,BitVec.toNat_ofNat,Nat.mod_eq_of_lt (by omega)]
 rw[e1,e2,e3];simp only[IntKind.wrap,IntKind.bits,IntKind.signed];simp;omega
variable {E:Env}(hE:EnvT E){lim:Nat}{h:Hp}
include hE
def Spans (s:ByteArray)(l:List (Int×Int)):Prop:=∀p,p∈l->0<=p.1/\p.1<=p.2/\p.2<=s.size
theorem loop96 {s:ByteArray}{sp:List (Int×Int)}(hsp:Spans s sp)(hn:sp.length<2000000){b ba:Nat}{f:Fr}{X:Hp}{xs:List ByteArray}(hb:X[b]?=some (.cells true (prs sp)))(hba:X[ba]?=some (.cells true (strs xs)))(hne:b≠ba)(hlba:lim<=ba)(hxl:xs.length=sp.length)(hx:∀j,(xs.getD j ⟨#[]⟩).size<=s.size)
  (f0:f.rd 0=.string s)(f9:f.rd 9=.slice (some ⟨ba,0,none⟩) sp.length 1)(f47:f.rd 47=.slice (some ⟨b,0,none⟩) sp.length 2)(f48:f.rd 48=.int .i64 sp.length)(f49:f.rd 49=.int .i64 0){P:AX->Fr->Hp->Prop}
  (hP:∀f' X' xs',X'[ba]?=some (.cells true (strs xs'))->xs'.length=sp.length->(∀j,(xs'.getD j ⟨#[]⟩).size<=s.size)->(∀j,j<X.length->j≠ba->X'[j]?=X[j]?)->f'.rd 9=.slice (some ⟨ba,0,none⟩) sp.length 1->P (.exit 2) f' X'):Post (evK E lim (.loop lp96_0) f X) P:=by
 have hbl:=lt_of_get hb;have hbal:=lt_of_get hba;refine loop_post hE.mono (fun k g W=>∃(i:Nat) (xs:List ByteArray),i<=sp.length/\W[ba]?=some (.cells true (strs xs))/\xs.length=sp.length/\(∀j,(xs.getD j ⟨#[]⟩).size<=s.size)/\(∀j,j<X.length->j≠ba->W[j]?=X[j]?)/\X.length<=W.length/\g.rd 0=.string s/\g.rd 9=.slice (some ⟨ba,0,none⟩) sp.length 1/\g.rd 47=.slice (some ⟨b,0,none⟩) sp.length 2/\g.rd 48=.int .i64 sp.length/\g.rd 49=.int .i64 i/\sp.length-i=k) ?_ sp.length _ _ ⟨0,xs,Nat.zero_le _,hba,hxl,hx,fun _ _ _=>rfl,Nat.le_refl _,f0,f9,f47,f48,f49,by omega⟩;rintro k g W ⟨i,xs,hi,wb,hxl,hx,wo,wl,g0,g9,g47,g48,g49,hk⟩
 by_cases hlt:(i:Int)<sp.length
 ·have hi':i<sp.length:=by omega
  have hWb:=(wo b hbl hne).trans hb;have hp:=prs_get sp i hi';obtain⟨q1,q2,q3⟩:=hsp (sp.getD i (0,0)) (by rw[List.getD_eq_getElem?_getD,List.getElem?_eq_getElem hi']; exact List.getElem_mem hi');generalize sp.getD i (0,0)=pr at *;have x1:(i<sp.length)=True:=by simp[hi']
  have x2:(i*2+2<=sp.length*2)=True:=by simp; omega
  have x3:(i+1<=sp.length)=True:=by simp; omega
  have x4:IntKind.i64.wrap ((i:Int)+1)=i+1:=wrap64 (by omega) (by omega);have y1:(0<=pr.1)=True:=by simp[q1]
  have y2:(0<=pr.2)=True:=by simp; omega
  have y3:(pr.1<=pr.2)=True:=by simp[q2]
  have y4:(pr.2<=(s.size:Int))=True:=by simp[q3]
  have hl1:∀q:Prop,(lim<=W.length\/q)=True:=fun q=>by simp; omega
  have hl2:∀q:Prop,(lim<=ba\/q)=True:=fun q=>by simp; omega
  have s1:∀l x,(W++l).set ba x=W.set ba x++l:=fun l x=>set_old (by omega);simp only[push_cast,lp96_0,g0,g9,g47,g48,g49,hlt,hWb,prs_len,x1,x2,hp,hl1,hl2,y1,y2,y3,y4,bound,Int.natCast_nonneg,Nat.mul_one,get_old wb,s1,strs_set,strs_len,hxl,x3,x4,simprocAttr];refine⟨sp.length-(i+1),by omega,i+1,xs.set i (s.extract pr.1.toNat pr.2.toNat),by omega,?_,by rw[List.length_set]; exact hxl,fun j=>?_,fun j j1 j2=>?_,by first | omega | (simp; omega),rfl,rfl⟩
  ·rw[get_lt (by simp; omega),set_get (by omega)]
  ·rw[sgetD_set (by omega)];split
   ·exact ex_size _ _ _
   ·exact hx j
  ·rw[get_lt (by simp; omega),set_ne (by omega)];exact wo j j1 j2
 ·simp only[push_cast,lp96_0,g48,g49,hlt,simprocAttr];exact hP _ _ xs wb hxl hx wo (by simp[g9])
theorem c96 {p:Nat}{q:Int->Bool}(hp:∀lim h c,evI E lim (.func p) [.int .i32 c] h=some (.bool (q c),h))(s:ByteArray)(hs:s.size<1000000)(hlim:lim<=h.length) :
  PostV (evI E lim (.func 96) [.string s,.func (.func p) #[] #[]] h) fun v h'=>∃(b:Nat) (xs:List ByteArray),Agr h h'/\h.length<=b/\v=.slice (some ⟨b,0,none⟩) xs.length 1/\h'[b]?=some (.cells true (strs xs))/\xs.length<=s.size+1/\∀j,(xs.getD j ⟨#[]⟩).size<=s.size:=by
 have hlm:(lim<=h.length)=True:=by simp[hlim]
 rw[hE.fn T96]; simp only[push_cast,ac96,Int.le_refl,repl,List.replicate_zero,List.flatten_nil,simprocAttr]
 refine loop_post hE.mono (fun k f X=>∃(pos b:Nat) (sp:List (Int×Int)) (st:Int),f.rd 0=.string s/\f.rd 1=.func (.func p) #[] #[]/\f.rd 14=.pointer (some ⟨h.length+1,0,none⟩)/\f.rd 5=.slice (some ⟨b,0,none⟩) sp.length 2/\f.rd 6=.int .i64 st /\
  X[h.length+1]?=some (.iter s pos)/\X[b]?=some (.cells true (prs sp))/\b≠h.length+1/\h.length<=b/\Agr h X/\Spans s sp/\sp.length<=pos/\pos<=s.size/\-1000000<=st/\st<=pos/\s.size-pos=k) ?_ s.size _ _ ⟨0,h.length,[],-1,rfl,rfl,rfl,rfl,rfl,get_app,get_app0,by omega,Nat.le_refl _,Agr.app _ _,(fun _ h=>nomatch h),Nat.le_refl _,Nat.zero_le _,by omega,by omega,by omega⟩
 rintro k f X ⟨pos,b,sp,st,f0,f1,f14,f5,f6,xi,xb,hne,hb,A,hsp,hl,hpos,s1,s2,hk⟩
 by_cases hlt:pos<s.size
 ·have hw:=dec_pos s pos;have hw2:=dec_le s pos hlt;have hi:=lt_of_get xi;have hbl:=lt_of_get xb;have k1:∀y,(X.set (h.length+1) y)[b]?=some (.cells true (prs sp)):=fun y=>by rw[set_ne (by omega)]; exact xb
  have k2:∀y l d,(X.set (h.length+1) y++l).set b d=(X.set (h.length+1) y).set b d++l:=fun y l d=>set_old (by simpa using hbl);have k3:(lim<=b)=True:=by simp; omega
  have k4:(((sp.length:Int)+1)*16<=140737488355328)=True:=by simp; omega
  have k5:((sp.length+1)*16<=140737488355328)=True:=by simp; omega
  have k6:∀y c,(X.set (h.length+1) y++[c])[X.length]?=some c:=fun y c=>get_appC0 (by simp);have AS:∀y d l,Agr h ((X.set (h.length+1) y).set b d++l):=fun y d l=>((A.set (by omega) _).set hb _).trans (Agr.app _ _);cases hq:q (Utf8.decode s pos).1 with
  | true =>
   by_cases hst:st>=0
   ·simp only[push_cast,lp96_1,f0,f1,f14,f5,f6,xi,hlt,hp,hq,hst,get_old (k1 _),k2,k3,k4,k5,prs_len,prs_app,srcOf,k6,simprocAttr];refine⟨_,?_,pos+(Utf8.decode s pos).2,X.length+1,sp++[(st,(pos:Int))],-st-1,by simp,congrArg _ (xorI hst (by omega)),?_,?_,by omega,by omega,AS _ _ _,?_,by simp; omega,by omega,by omega,by omega,rfl⟩
    ·omega
    ·rw[get_lt (by simp; omega),set_ne (by omega),set_get hi]
    ·exact get_appC (k:=1) (by simp)
    ·intro p hp';rcases List.mem_append.1 hp' with hp' | hp'
     ·exact hsp p hp'
     ·rw[List.mem_singleton.1 hp'];exact⟨hst,s2,by show(pos:Int)<=s.size; omega⟩
   ·simp only[push_cast,lp96_1,f0,f1,f14,f5,f6,xi,hlt,hp,hq,hst,simprocAttr];exact⟨_,by omega,pos+(Utf8.decode s pos).2,b,sp,st,rfl,rfl,set_get hi,k1 _,hne,hb,A.set (by omega) _,hsp,by omega,by omega,by omega,by omega,rfl⟩
  | false =>
   by_cases hst:st<0
   ·simp only[push_cast,lp96_1,f0,f1,f14,f5,f6,xi,hlt,hp,hq,hst,simprocAttr];exact⟨_,by omega,pos+(Utf8.decode s pos).2,b,sp,pos,rfl,rfl,set_get hi,k1 _,hne,hb,A.set (by omega) _,hsp,by omega,by omega,by omega,by omega,rfl⟩
   ·simp only[push_cast,lp96_1,f0,f1,f14,f5,f6,xi,hlt,hp,hq,hst,simprocAttr];exact⟨_,by omega,pos+(Utf8.decode s pos).2,b,sp,st,rfl,rfl,set_get hi,k1 _,hne,hb,A.set (by omega) _,hsp,by omega,by omega,by omega,by omega,rfl⟩
 ·have hi:=lt_of_get xi;have hbl:=lt_of_get xb
  by_cases hst:st>=0
  ·have k2:∀l d,(X++l).set b d=X.set b d++l:=fun l d=>set_old hbl;have k3:(lim<=b)=True:=by simp; omega
   have k5:((sp.length+1)*16<=140737488355328)=True:=by simp; omega
   have k7:(((sp.length:Int)+1)*16<=140737488355328)=True:=by simp; omega
   have k8:((sp.length:Int)+1).toNat=sp.length+1:=by omega
   have k9:((sp.length:Int)+1<=9223372036854775807)=True:=by simp; omega
   have k10:(0<=(sp.length:Int)+1)=True:=by simp; omega
   simp only[push_cast,lp96_1,f0,f1,f14,f5,f6,xi,hlt,hst,get_old xb,k2,k3,k5,k7,k8,k9,k10,prs_len,prs_app,srcOf,Int.le_refl,strs_repl,Int.natCast_add,Int.cast_ofNat_Int,simprocAttr]
   have hsp2:Spans s (sp++[(st,(s.size:Int))]):=fun p hp'=>by
    rcases List.mem_append.1 hp' with hp' | hp'
    ·exact hsp p hp'
    ·rw[List.mem_singleton.1 hp'];exact⟨hst,by show st<=(s.size:Int); omega,Int.le_refl _⟩
   refine loop96 hE hsp2 (by simp; omega) (b:=X.length+1) (ba:=X.length+2) (xs:=List.replicate (sp.length+1) ⟨#[]⟩) (get_appC (k:=1) (by simp)) (get_appC (k:=2) (by simp)) (by omega) (by omega) (by simp) (fun j=>?_) (by simp[f0]) (by simp only[push_cast,List.length_append,simprocAttr]) (by simp only[push_cast,List.length_append,simprocAttr]) (by simp only[push_cast,List.length_append,Int.natCast_add,Int.cast_ofNat_Int,simprocAttr]) (by simp) ?_
   ·rw[List.getD_eq_getElem?_getD,List.getElem?_replicate];split<;>exact Nat.zero_le _
   ·intro f' X' xs' e1 e2 e3 e4 e5;simp only[List.length_append,List.length_cons,List.length_nil] at e2 e5;simp only[push_cast,e5,simprocAttr];refine⟨X.length+2,xs',fun i k' e=>?_,by omega,by rw[e2],e1,by omega,e3⟩;have:=lt_of_get e;rw[e4 i (by simp; omega) (by omega),get_lt (by simp; omega),set_ne (by omega)];exact A i k' e
  ·have k7:((sp.length:Int)*16<=140737488355328)=True:=by simp; omega
   have k9:((sp.length:Int)<=9223372036854775807)=True:=by simp; omega
   simp only[push_cast,lp96_1,f0,f1,f14,f5,f6,xi,hlt,hst,k7,k9,Int.natCast_nonneg,Int.le_refl,strs_repl,simprocAttr];refine loop96 hE hsp (by omega) (b:=b) (ba:=X.length) (xs:=List.replicate sp.length ⟨#[]⟩) (get_old xb) get_app0 (by omega) (by omega) (by simp) (fun j=>?_) (by simp[f0]) (by simp) (by simp) (by simp) (by simp) ?_
   ·rw[List.getD_eq_getElem?_getD,List.getElem?_replicate];split<;>exact Nat.zero_le _
   ·intro f' X' xs' e1 e2 e3 e4 e5;simp only[push_cast,e5,simprocAttr];refine⟨X.length,xs',fun i k' e=>?_,by omega,by rw[e2],e1,by omega,e3⟩;have:=lt_of_get e;rw[e4 i (by simp; omega) (by omega),get_lt (by omega)];exact A i k' e
theorem c49 (s:ByteArray)(hs:s.size<1000000)(hlim:lim<=h.length) :
  PostV (evI E lim (.func 49) [.string s] h) fun v h'=>∃(b:Nat) (xs:List ByteArray),Agr h h'/\h.length<=b/\v=.slice (some ⟨b,0,none⟩) xs.length 1/\h'[b]?=some (.cells true (strs xs))/\xs.length<=s.size+1/\∀j,(xs.getD j ⟨#[]⟩).size<=s.size:=by
 obtain⟨v,h',e,b,xs,A,hb,rfl,r⟩:=(c96 hE (fun lim h c=>c97 hE (lim:=lim) (h:=h) c) (lim:=lim) s hs hlim).out;rw[hE.fn T49]; simp only[push_cast,ac49,e,simprocAttr];exact⟨b,xs,A,hb,rfl,r⟩
end
section
open Tb
def ParseOk (E:Env):Prop:=∀(lim:Nat) (s:ByteArray) (h:Hp),s.size<=6->PostV (evI E lim (.func 274) [.string s,.int .i64 10,.int .i64 64] h) fun v h'=>∃(n:Int) (e:Value) (l:Hp),v=.tuple #[.int .i64 n,e]/\h'=h++l/\-999999<=n/\n<=999999
def RNG (j r:Int):Prop:=(j=0/\-999999<=r/\r<=999999)\/(j=1/\-9999990<=r/\r<=9999990)\/(j=2/\-99999900<=r/\r<=99999900)\/(j=3/\-999999000<=r/\r<=999999000)\/(j=4/\-9999990000<=r/\r<=9999990000)\/(j=5/\-99999900000<=r/\r<=99999900000)\/(j=6/\-999999000000<=r/\r<=999999000000)
theorem RNG.b {j r:Int}(h:RNG j r):-1000000000000<=r/\r<=1000000000000:=by
 unfold RNG at h;omega
theorem RNG.step {j r:Int}(h:RNG j r)(h2:j<6):RNG (j+1) (r*10):=by
 unfold RNG at h ⊢;rcases h with h | h | h | h | h | h | h<;>omega
theorem RNG.zero {r:Int}(h1:-999999<=r)(h2:r<=999999):RNG 0 r:=.inl ⟨rfl,h1,h2⟩
def bB (b:Bool):Blk:=.cells true [.bool b]
variable {E:Env}(hE:EnvT E){lim:Nat}{h:Hp}
include hE
theorem c230 (hD:DecOk E)(hP:ParseOk E){br:Nat}{bad:Bool}(hb:h[br]?=some (bB bad))(s:ByteArray)(hs:s.size<1000000) :
  PostV (evI E lim (.func 230) [.pointer (some ⟨br,0,none⟩),.string s] h) fun v h'=>∃(n:Int) (b:Bool),v=.int .i64 n/\-999999<=n/\n<=999999/\h'=h.set br (bB b):=by
 have hbr:=lt_of_get hb;have e0:h.set br (bB bad)=h:=set_same hb;unfold bB at hb e0 ⊢
 by_cases h1:(s.size:Int)<1
 ·rw[hE.fn T230]; simp only[push_cast,ac230,h1,hb,simprocAttr];exact⟨0,true,rfl,by omega,by omega,by rw[take_set]⟩
 ·by_cases h6:(s.size:Int)>6
  ·rw[hE.fn T230]; simp only[push_cast,ac230,h1,h6,hb,simprocAttr];exact⟨0,true,rfl,by omega,by omega,by rw[take_set]⟩
  ·obtain⟨t,e273,ht⟩:=c273 hE hD (p:=272) (fun lim h c=>c272 hE (lim:=lim) (h:=h) c) (lim:=h.length) (h:=h) s hs;cases hz:t.toList==(⟨#[]⟩:ByteArray).toList with
   | false =>
    rw[hE.fn T230]; simp only[push_cast,ac230,h1,h6,e273,hz,hb,simprocAttr];exact⟨0,true,rfl,by omega,by omega,by rw[take_set]⟩
   | true =>
    obtain⟨v,h',e274,n,e,l,rfl,rfl,n1,n2⟩:=(hP h.length s h (by omega)).out;rw[hE.fn T230]; simp only[push_cast,ac230,h1,h6,e273,hz,e274,simprocAttr];exact⟨n,bad,rfl,n1,n2,e0.symm⟩
theorem c165 (hI:IdxOk E)(hD:DecOk E)(hP:ParseOk E){br:Nat}{bad:Bool}(hb:h[br]?=some (bB bad)){l m u d:Int}{q:Value}(hu:1<=u)(hu2:u<=1000000)(s:ByteArray)(hs:s.size<1000000) :
  PostV (evI E lim (.func 165) [.pointer (some ⟨br,0,none⟩),.agg #[.int .i64 l,.int .i64 m,.int .i64 u,.int .i64 d,q],.string s] h) fun v h'=>∃(n:Int) (b:Bool),v=.int .i64 n/\-2000000000000<=n/\n<=2000000000000/\h'=h.set br (bB b):=by
 have hbr:=lt_of_get hb;obtain⟨x,y,dot,e99,x1,x2⟩:=c99 hE hI (lim:=h.length) (h:=h++[.cells true [.int .i64 l,.int .i64 m,.int .i64 u,.int .i64 d,q]]) s ⟨#[46]⟩ hs (by show 1<1000000; omega);obtain⟨v,h',e230,n,b1,rfl,n1,n2,rfl⟩:=(c230 hE hD hP (lim:=h.length) (h:=h++[.cells true [.int .i64 l,.int .i64 m,.int .i64 u,.int .i64 d,q]]) (br:=br) (bad:=bad) (get_old hb) x (by omega)).out;rw[set_old hbr] at e230
 have k1:-999999*1000000<=n*u/\n*u<=999999*1000000:=by
  constructor
  ·have h1:-999999*u<=n*u:=Int.mul_le_mul_of_nonneg_right n1 (by omega);have h2:-999999*u>=-999999*1000000:=by omega
   omega
  ·have h1:n*u<=999999*u:=Int.mul_le_mul_of_nonneg_right n2 (by omega);omega
 have w1:=w64 (x:=n*u);have hb1:∀l b,(h.set br (bB b)++l)[br]?=some (bB b):=fun l b=>get_old (set_get hbr);have hb2:∀l b c,(h.set br (bB b)++l).set br c=h.set br c++l:=fun l b c=>by rw[set_old (by simpa using hbr),List.set_set]
 have hlen:∀b,(h.set br (bB b)).length=h.length:=fun b=>List.length_set;have htk:∀b l,(h.set br (bB b)++l).take h.length=h.set br (bB b):=fun b l=>take_appC (by simp);have gq:∀b,(h.set br (bB b)++[.cells true [.int .i64 l,.int .i64 m,.int .i64 u,.int .i64 d,q]])[h.length]?=some (.cells true [.int .i64 l,.int .i64 m,.int .i64 u,.int .i64 d,q]):=fun b=>get_appC0 (by simp);cases dot with
 | false =>
  rw[hE.fn T165]; simp only[push_cast,ac165,e99,e230,gq,w1,simprocAttr];exact⟨n*u,b1,rfl,by omega,by omega,htk _ _⟩
 | true =>
  have gb:∀l b,(h.set br (bB b)++l)[br]?=some (.cells true [.bool b]):=hb1;have hb2':∀l b c,(h.set br (bB b)++l).set br (.cells true [.bool c])=h.set br (bB c)++l:=fun l b c=>hb2 l b (bB c);have w6:=w64 (x:=6-min 6 (y.size:Int));cases b1 with
  | true =>
   obtain⟨v,h',e230',n',b3,rfl,m1,m2,rfl⟩:=(c230 hE hD hP (lim:=h.length) (h:=h.set br (bB true)++[.cells true [.int .i64 l,.int .i64 m,.int .i64 u,.int .i64 d,q]]) (br:=br) (bad:=true) (hb1 _ _) y (by omega)).out;rw[hb2] at e230';rw[hE.fn T165]; simp only[push_cast,ac165,e99,e230,e230',gq,gb,hb2',w1,w6,simprocAttr];refine loop_post hE.mono (fun k f X=>∃(j r:Int),f.rd 10=.int .i64 (n*u)/\f.rd 11=.int .i64 r/\f.rd 43=.int .i64 (6-min 6 (y.size:Int))/\f.rd 44=.int .i64 j/\X=h.set br (bB b3)++[.cells true [.int .i64 l,.int .i64 m,.int .i64 u,.int .i64 d,q]]/\0<=j/\j<=6-min 6 (y.size:Int)/\RNG j r/\(6-j).toNat=k) ?_ 6 _ _ ⟨0,n',rfl,rfl,rfl,rfl,rfl,by omega,by omega,RNG.zero m1 m2,rfl⟩;rintro k f X ⟨j,r,f10,f11,f43,f44,rfl,j1,j2,jr,hk⟩;have jb:=jr.b
   by_cases hj:j<6-min 6 (y.size:Int)
   ·have w7:=w64 (x:=r*10);have w8:=w64 (x:=j+1);simp only[push_cast,lp165_0,f10,f11,f43,f44,hj,w7,w8,simprocAttr];exact⟨_,by omega,j+1,r*10,rfl,rfl,by omega,by omega,jr.step (by omega),rfl⟩
   ·have w9:=w64 (x:=n*u+r);simp only[push_cast,lp165_0,f10,f11,f43,f44,hj,w9,simprocAttr];exact⟨n*u+r,b3,rfl,by omega,by omega,htk _ _⟩
  | false =>
   cases hu1:(u==1) with
   | true =>
    obtain⟨v,h',e230',n',b3,rfl,m1,m2,rfl⟩:=(c230 hE hD hP (lim:=h.length) (h:=h.set br (bB true)++[.cells true [.int .i64 l,.int .i64 m,.int .i64 u,.int .i64 d,q]]) (br:=br) (bad:=true) (hb1 _ _) y (by omega)).out;rw[hb2] at e230';rw[hE.fn T165]; simp only[push_cast,ac165,e99,e230,e230',gq,gb,hb2',w1,w6,hu1,simprocAttr];refine loop_post hE.mono (fun k f X=>∃(j r:Int),f.rd 10=.int .i64 (n*u)/\f.rd 11=.int .i64 r/\f.rd 43=.int .i64 (6-min 6 (y.size:Int))/\f.rd 44=.int .i64 j/\X=h.set br (bB b3)++[.cells true [.int .i64 l,.int .i64 m,.int .i64 u,.int .i64 d,q]]/\0<=j/\j<=6-min 6 (y.size:Int)/\RNG j r/\(6-j).toNat=k) ?_ 6 _ _ ⟨0,n',rfl,rfl,rfl,rfl,rfl,by omega,by omega,RNG.zero m1 m2,rfl⟩;rintro k f X ⟨j,r,f10,f11,f43,f44,rfl,j1,j2,jr,hk⟩;have jb:=jr.b
    by_cases hj:j<6-min 6 (y.size:Int)
    ·have w7:=w64 (x:=r*10);have w8:=w64 (x:=j+1);simp only[push_cast,lp165_0,f10,f11,f43,f44,hj,w7,w8,simprocAttr];exact⟨_,by omega,j+1,r*10,rfl,rfl,by omega,by omega,jr.step (by omega),rfl⟩
    ·have w9:=w64 (x:=n*u+r);simp only[push_cast,lp165_0,f10,f11,f43,f44,hj,w9,simprocAttr];exact⟨n*u+r,b3,rfl,by omega,by omega,htk _ _⟩
   | false =>
    obtain⟨v,h',e230',n',b3,rfl,m1,m2,rfl⟩:=(c230 hE hD hP (lim:=h.length) (h:=h.set br (bB false)++[.cells true [.int .i64 l,.int .i64 m,.int .i64 u,.int .i64 d,q]]) (br:=br) (bad:=false) (hb1 _ _) y (by omega)).out;rw[hb2] at e230';rw[hE.fn T165]; simp only[push_cast,ac165,e99,e230,e230',gq,gb,hb2',w1,w6,hu1,simprocAttr];refine loop_post hE.mono (fun k f X=>∃(j r:Int),f.rd 10=.int .i64 (n*u)/\f.rd 11=.int .i64 r/\f.rd 43=.int .i64 (6-min 6 (y.size:Int))/\f.rd 44=.int .i64 j/\X=h.set br (bB b3)++[.cells true [.int .i64 l,.int .i64 m,.int .i64 u,.int .i64 d,q]]/\0<=j/\j<=6-min 6 (y.size:Int)/\RNG j r/\(6-j).toNat=k) ?_ 6 _ _ ⟨0,n',rfl,rfl,rfl,rfl,rfl,by omega,by omega,RNG.zero m1 m2,rfl⟩;rintro k f X ⟨j,r,f10,f11,f43,f44,rfl,j1,j2,jr,hk⟩;have jb:=jr.b
    by_cases hj:j<6-min 6 (y.size:Int)
    ·have w7:=w64 (x:=r*10);have w8:=w64 (x:=j+1);simp only[push_cast,lp165_0,f10,f11,f43,f44,hj,w7,w8,simprocAttr];exact⟨_,by omega,j+1,r*10,rfl,rfl,by omega,by omega,jr.step (by omega),rfl⟩
    ·have w9:=w64 (x:=n*u+r);simp only[push_cast,lp165_0,f10,f11,f43,f44,hj,w9,simprocAttr];exact⟨n*u+r,b3,rfl,by omega,by omega,htk _ _⟩
end
section
open Tb
variable {E:Env}(hE:EnvT E){lim:Nat}{h:Hp}
include hE
theorem c104 (hI:IdxOk E)(hD:DecOk E)(hP:ParseOk E){br:Nat}{bad:Bool}(hb:h[br]?=some (bB bad)){l m u d:Int}{q:Option Addr}(hu:1<=u)(hu2:u<=1000000)(s:ByteArray)(hs:s.size<1000000) :
  PostV (evI E lim (.func 104) [.pointer (some ⟨br,0,none⟩),.agg #[.int .i64 l,.int .i64 m,.int .i64 u,.int .i64 d,.pointer q],.string s] h) fun v h'=>∃(x y z:Int) (b:Bool),v=.agg #[.int .i64 x,.int .i64 y,.int .i64 z]/\z<=10000000000000/\-10000000000000<=z/\h'=h.set br (bB b):=by
 obtain⟨g,rfl⟩:∃g:Hp,h=g.set br (bB bad):=⟨h,(set_same hb).symm⟩;have hbr:br<g.length:=by simpa using lt_of_get hb
 have hl0:∀b,(g.set br (bB b)).length=g.length:=fun b=>List.length_set;simp only[List.set_set];obtain⟨hd,st,ag,e99,x1,x2⟩:=c99 hE hI (lim:=g.length) (h:=g.set br (bB bad)++[.cells true [.int .i64 l,.int .i64 m,.int .i64 u,.int .i64 d,.pointer q],.cells true [.int .i64 0,.int .i64 0,.int .i64 0]]) s ⟨#[47]⟩ hs (by show 1<1000000; omega);obtain⟨fr,to,rg,e99b,x3,x4⟩:=c99 hE hI (lim:=g.length) (h:=g.set br (bB bad)++[.cells true [.int .i64 l,.int .i64 m,.int .i64 u,.int .i64 d,.pointer q],.cells true [.int .i64 0,.int .i64 0,.int .i64 0]]) hd ⟨#[46,46]⟩ (by omega) (by show 2<1000000; omega)
 have V:∀(b:Bool) (L:Hp) (s:ByteArray),s.size<1000000->∃(n:Int) (b':Bool),evI E g.length (.func 165) [.pointer (some ⟨br,0,none⟩),.agg #[.int .i64 l,.int .i64 m,.int .i64 u,.int .i64 d,.pointer q],.string s] (g.set br (bB b)++L)=some (.int .i64 n,g.set br (bB b')++L)/\-2000000000000<=n/\n<=2000000000000:=fun b L s hs=>by
  obtain⟨v,h',e,n,b',rfl,n1,n2,rfl⟩:=(c165 hE hI hD hP (lim:=g.length) (h:=g.set br (bB b)++L) (br:=br) (bad:=b) (get_old (set_get hbr)) (l:=l) (m:=m) (u:=u) (d:=d) (q:=.pointer q) hu hu2 s hs).out;rw[set_old (by simpa using hbr),List.set_set] at e;exact⟨n,b',e,n1,n2⟩
 have hl1:∀b L,(g.set br (bB b)++L).length=g.length+L.length:=fun b L=>by simp
 have g6:∀b B L,(g.set br (bB b)++B::L)[g.length]?=some B:=fun b B L=>get_appC0 (by simp);have g13:∀b k L,(g.set br (bB b)++L)[g.length+k]?=L[k]?:=fun b k L=>get_appC (by simp);have s6:∀b x L,(g.set br (bB b)++L).set g.length x=g.set br (bB b)++L.set 0 x:=fun b x L=>set_appC0 (by simp);have s13:∀b k x L,(g.set br (bB b)++L).set (g.length+k) x=g.set br (bB b)++L.set k x:=fun b k x L=>set_appC (by simp);have gb:∀b L,(g.set br (bB b)++L)[br]?=some (.cells true [.bool b]):=fun b L=>get_old (set_get hbr);have sb:∀b c L,(g.set br (bB b)++L).set br (.cells true [.bool c])=g.set br (bB c)++L:=fun b c L=>by rw[set_old (by simpa using hbr),List.set_set]; rfl
 have htk:∀b L,(g.set br (bB b)++L).take g.length=g.set br (bB b):=fun b L=>take_appC (by simp);cases hst:hd.toList==(⟨#[42]⟩:ByteArray).toList with
 | true =>
  cases ag with
  | true =>
   obtain⟨n1,b1,e1,r11,r12⟩:=V bad [.cells true [.int .i64 l,.int .i64 m,.int .i64 u,.int .i64 d,.pointer q],.cells true [.int .i64 0,.int .i64 0,.int .i64 0],.cells true [.int .i64 l,.int .i64 m,.int .i64 u]] st (by omega);cases b1 with
   | true =>
    rw[hE.fn T104]; simp only[push_cast,ac104,sureL,e99,e99b,g6,g13,s6,s13,gb,sb,hl1,hl0,le_app,hst,c105 hE,e1,simprocAttr];exact⟨_,_,n1,_,rfl,by omega,by omega,htk _ _⟩
   | false =>
    rw[hE.fn T104]; simp only[push_cast,ac104,sureL,e99,e99b,g6,g13,s6,s13,gb,sb,hl1,hl0,le_app,hst,c105 hE,e1,simprocAttr];exact⟨_,_,n1,_,rfl,by omega,by omega,htk _ _⟩
  | false =>
   cases rg with
   | true =>
    obtain⟨n1,b1,e1,r11,r12⟩:=V bad [.cells true [.int .i64 l,.int .i64 m,.int .i64 u,.int .i64 d,.pointer q],.cells true [.int .i64 0,.int .i64 0,.int .i64 0],.cells true [.int .i64 0,.int .i64 0,.int .i64 0]] fr (by omega);obtain⟨n2,b2,e2,r21,r22⟩:=V b1 [.cells true [.int .i64 l,.int .i64 m,.int .i64 u,.int .i64 d,.pointer q],.cells true [.int .i64 0,.int .i64 0,.int .i64 0],.cells true [.int .i64 0,.int .i64 0,.int .i64 0]] to (by omega);rw[hE.fn T104]; simp only[push_cast,ac104,sureL,e99,e99b,g6,g13,s6,s13,gb,sb,hl1,hl0,le_app,hst,e1,e2,simprocAttr];exact⟨_,_,u,_,rfl,by omega,by omega,htk _ _⟩
   | false =>
    obtain⟨n1,b1,e1,r11,r12⟩:=V bad [.cells true [.int .i64 l,.int .i64 m,.int .i64 u,.int .i64 d,.pointer q],.cells true [.int .i64 0,.int .i64 0,.int .i64 0],.cells true [.int .i64 0,.int .i64 0,.int .i64 0]] hd (by omega);rw[hE.fn T104]; simp only[push_cast,ac104,sureL,e99,e99b,g6,g13,s6,s13,gb,sb,hl1,hl0,le_app,hst,e1,simprocAttr];exact⟨_,_,0,_,rfl,by omega,by omega,htk _ _⟩
 | false =>
  cases ag with
  | true =>
   cases rg with
   | true =>
    obtain⟨n1,b1,e1,r11,r12⟩:=V bad [.cells true [.int .i64 l,.int .i64 m,.int .i64 u,.int .i64 d,.pointer q],.cells true [.int .i64 0,.int .i64 0,.int .i64 0],.cells true [.int .i64 0,.int .i64 0,.int .i64 0]] fr (by omega);obtain⟨n2,b2,e2,r21,r22⟩:=V b1 [.cells true [.int .i64 l,.int .i64 m,.int .i64 u,.int .i64 d,.pointer q],.cells true [.int .i64 0,.int .i64 0,.int .i64 0],.cells true [.int .i64 0,.int .i64 0,.int .i64 0]] to (by omega);obtain⟨n3,b3,e3,r31,r32⟩:=V b2 [.cells true [.int .i64 l,.int .i64 m,.int .i64 u,.int .i64 d,.pointer q],.cells true [.int .i64 0,.int .i64 0,.int .i64 0],.cells true [.int .i64 n1,.int .i64 n2,.int .i64 u]] st (by omega);cases b3 with
    | true =>
     rw[hE.fn T104]; simp only[push_cast,ac104,sureL,e99,e99b,g6,g13,s6,s13,gb,sb,hl1,hl0,le_app,hst,e1,e2,e3,simprocAttr];exact⟨_,_,n3,_,rfl,by omega,by omega,htk _ _⟩
    | false =>
     rw[hE.fn T104]; simp only[push_cast,ac104,sureL,e99,e99b,g6,g13,s6,s13,gb,sb,hl1,hl0,le_app,hst,e1,e2,e3,simprocAttr];exact⟨_,_,n3,_,rfl,by omega,by omega,htk _ _⟩
   | false =>
    obtain⟨n1,b1,e1,r11,r12⟩:=V bad [.cells true [.int .i64 l,.int .i64 m,.int .i64 u,.int .i64 d,.pointer q],.cells true [.int .i64 0,.int .i64 0,.int .i64 0],.cells true [.int .i64 0,.int .i64 0,.int .i64 0]] hd (by omega);obtain⟨n2,b2,e2,r21,r22⟩:=V b1 [.cells true [.int .i64 l,.int .i64 m,.int .i64 u,.int .i64 d,.pointer q],.cells true [.int .i64 0,.int .i64 0,.int .i64 0],.cells true [.int .i64 n1,.int .i64 m,.int .i64 0]] st (by omega);cases b2 with
    | true =>
     rw[hE.fn T104]; simp only[push_cast,ac104,sureL,e99,e99b,g6,g13,s6,s13,gb,sb,hl1,hl0,le_app,hst,e1,e2,simprocAttr];exact⟨_,_,n2,_,rfl,by omega,by omega,htk _ _⟩
    | false =>
     rw[hE.fn T104]; simp only[push_cast,ac104,sureL,e99,e99b,g6,g13,s6,s13,gb,sb,hl1,hl0,le_app,hst,e1,e2,simprocAttr];exact⟨_,_,n2,_,rfl,by omega,by omega,htk _ _⟩
  | false =>
   cases rg with
   | true =>
    obtain⟨n1,b1,e1,r11,r12⟩:=V bad [.cells true [.int .i64 l,.int .i64 m,.int .i64 u,.int .i64 d,.pointer q],.cells true [.int .i64 0,.int .i64 0,.int .i64 0],.cells true [.int .i64 0,.int .i64 0,.int .i64 0]] fr (by omega);obtain⟨n2,b2,e2,r21,r22⟩:=V b1 [.cells true [.int .i64 l,.int .i64 m,.int .i64 u,.int .i64 d,.pointer q],.cells true [.int .i64 0,.int .i64 0,.int .i64 0],.cells true [.int .i64 0,.int .i64 0,.int .i64 0]] to (by omega);rw[hE.fn T104]; simp only[push_cast,ac104,sureL,e99,e99b,g6,g13,s6,s13,gb,sb,hl1,hl0,le_app,hst,e1,e2,simprocAttr];exact⟨_,_,u,_,rfl,by omega,by omega,htk _ _⟩
   | false =>
    obtain⟨n1,b1,e1,r11,r12⟩:=V bad [.cells true [.int .i64 l,.int .i64 m,.int .i64 u,.int .i64 d,.pointer q],.cells true [.int .i64 0,.int .i64 0,.int .i64 0],.cells true [.int .i64 0,.int .i64 0,.int .i64 0]] hd (by omega);rw[hE.fn T104]; simp only[push_cast,ac104,sureL,e99,e99b,g6,g13,s6,s13,gb,sb,hl1,hl0,le_app,hst,e1,simprocAttr];exact⟨_,_,0,_,rfl,by omega,by omega,htk _ _⟩
end
section
open Tb
def prt (l:List (Int×Int×Int)):List Value:=l.flatMap fun p=>[.int .i64 p.1,.int .i64 p.2.1,.int .i64 p.2.2]
theorem prt_len (l:List (Int×Int×Int)):(prt l).length=l.length*3:=by
 induction l with
 | nil=>rfl
 | cons p l ih=>simp only[prt,List.flatMap_cons,List.length_append,List.length_cons,List.length_nil] at ih ⊢; omega
theorem prt_app (l:List (Int×Int×Int))(a b c:Int):prt l++[.int .i64 a,.int .i64 b,.int .i64 c]=prt (l++[(a,b,c)]):=by simp[prt]
theorem prt_get:∀(l:List (Int×Int×Int)) (j:Nat),j<l.length->((prt l).drop (j*3)).take 3=[.int .i64 (l.getD j (0,0,0)).1,.int .i64 (l.getD j (0,0,0)).2.1,.int .i64 (l.getD j (0,0,0)).2.2]
 | p::l,0,_=>by simp[prt]
 | p::l,j+1,h=>by
  have e:(j+1)*3=j*3+3:=by omega
  have:=prt_get l j (by simpa using h);simp only[prt,List.flatMap_cons,List.cons_append,List.nil_append,e,List.drop_succ_cons,List.getD_cons_succ] at this ⊢;exact this
def Stp (ps:List (Int×Int×Int)):Prop:=∀p,p∈ps->p.2.2<=10000000000000
def PRow (X:Hp)(n:Nat)(v:Value)(ps:List (Int×Int×Int)):Prop:=(v=.slice none 0 0/\ps=[])\/∃b,v=.slice (some ⟨b,0,none⟩) ps.length 3/\n<=b/\X[b]?=some (.cells true (prt ps))
def PR (X:Hp)(br bs:Nat)(v:Value)(ps:List (Int×Int×Int)):Prop:=(v=.slice none 0 0/\ps=[])\/∃c,v=.slice (some ⟨c,0,none⟩) ps.length 3/\c≠br/\c≠bs/\X[c]?=some (.cells true (prt ps))
theorem PR.of {X X':Hp}{br bs:Nat}{v:Value}{ps:List (Int×Int×Int)}(H:PR X br bs v ps)(ho:∀j,j<X.length->j≠bs->j≠br->X'[j]?=X[j]?):PR X' br bs v ps:=by
 rcases H with H | ⟨c,rfl,c1,c2,c3⟩
 ·exact .inl H
 ·exact .inr ⟨c,rfl,c1,c2,by rw[ho c (lt_of_get c3) c2 c1]; exact c3⟩
def FieldK (k:Nat):Prop:=k=1\/k=2\/k=3\/k=5\/k=6\/k=7
structure SBc (X:Hp)(br bs:Nat)(cs:List Value):Prop where
 len:cs.length=9
 c0:∃d,cs[0]?=some (.int .u8 d)
 c4:∃b,cs[4]?=some (.bool b)
 c8:∃b,cs[8]?=some (.bool b)
 row:∀k,FieldK k->∃v ps,cs[k]?=some v/\PR X br bs v ps/\Stp ps/\ps.length<1000000
structure SB (X:Hp)(br bs:Nat):Prop where
 cs:∃cs,X[bs]?=some (.cells true cs)/\SBc X br bs cs
 bad:∃b,X[br]?=some (bB b)
theorem SBc.of {X X':Hp}{br bs:Nat}{cs:List Value}(H:SBc X br bs cs)(ho:∀j,j<X.length->j≠bs->j≠br->X'[j]?=X[j]?):SBc X' br bs cs :=
 ⟨H.len,H.c0,H.c4,H.c8,fun k hk=>by
  obtain⟨v,ps,a,b,c⟩:=H.row k hk;exact⟨v,ps,a,b.of ho,c⟩⟩
theorem SBc.set {X:Hp}{br bs k:Nat}{cs:List Value}(H:SBc X br bs cs)(hk:FieldK k){v:Value}{ps:List (Int×Int×Int)}(hv:PR X br bs v ps)(hs:Stp ps)(hl:ps.length<1000000):SBc X br bs (cs.set k v):=by
 have hl9:=H.len;unfold FieldK at hk;refine⟨by rw[List.length_set]; exact H.len,?_,?_,?_,fun j hj=>?_⟩
 ·rw[List.getElem?_set_ne (by omega)]; exact H.c0
 ·rw[List.getElem?_set_ne (by omega)]; exact H.c4
 ·rw[List.getElem?_set_ne (by omega)]; exact H.c8
 ·by_cases e:k=j
  ·subst e;exact⟨v,ps,List.getElem?_set_self (by omega),hv,hs,hl⟩
  ·rw[List.getElem?_set_ne e];exact H.row j hj
variable {E:Env}(hE:EnvT E){lim:Nat}{h:Hp}
include hE
theorem loop56 (hI:IdxOk E)(hD:DecOk E)(hP:ParseOk E){br bs k b7 bt:Nat}{l m u d:Int}(hu:1<=u)(hu2:u<=1000000){cs:List Value}(hcs:cs.length=9)(hk:k<9){ts:List ByteArray}(hts:ts.length<2000000)(htz:∀j,(ts.getD j ⟨#[]⟩).size<1000000){f:Fr}{X:Hp}{bad:Bool}
  (hbr:X[br]?=some (bB bad))(hbs:X[bs]?=some (.cells true (cs.set k (.slice none 0 0))))(h7:X[b7]?=some (.cells true [.int .i64 l,.int .i64 m,.int .i64 u,.int .i64 d,.pointer (some ⟨bs,k,none⟩)]))(ht:X[bt]?=some (.cells true (strs ts)))(n1:br≠bs)(n2:b7≠bs)(n3:b7≠br)(n4:bt≠bs)(n5:bt≠br)(hlim:lim<=bs)
  (f0:f.rd 0=.pointer (some ⟨br,0,none⟩))(f7:f.rd 7=.pointer (some ⟨b7,0,none⟩))(f37:f.rd 37=.slice (some ⟨bt,0,none⟩) ts.length 1)(f38:f.rd 38=.int .i64 ts.length)(f39:f.rd 39=.int .i64 0){v2 v19 v20 v21:Value}(f2:f.rd 2=v2)(f19:f.rd 19=v19)(f20:f.rd 20=v20)(f21:f.rd 21=v21){P:AX->Fr->Hp->Prop}
  (hx:∀f' X' v ps b,f'.rd 0=.pointer (some ⟨br,0,none⟩)->f'.rd 2=v2->f'.rd 19=v19->f'.rd 20=v20->f'.rd 21=v21->X.length<=X'.length->X'[br]?=some (bB b)->X'[bs]?=some (.cells true (cs.set k v))->PRow X' X.length v ps->Stp ps->ps.length=ts.length->(∀j,j<X.length->j≠bs->j≠br->X'[j]?=X[j]?)->P (.exit 3) f' X'):Post (evK E lim (.loop lp56_0) f X) P:=by
 have l7:=lt_of_get h7;have lsX:=lt_of_get hbs;have lrX:=lt_of_get hbr;have lt:=lt_of_get ht
 refine loop_post hE.mono (fun q g W=>∃(i:Nat) (v:Value) (ps:List (Int×Int×Int)) (b:Bool),i<=ts.length/\ps.length=i/\W[br]?=some (bB b)/\W[bs]?=some (.cells true (cs.set k v))/\PRow W X.length v ps/\Stp ps/\(∀j,j<X.length->j≠bs->j≠br->W[j]?=X[j]?)/\X.length<=W.length /\
  g.rd 0=.pointer (some ⟨br,0,none⟩)/\g.rd 7=.pointer (some ⟨b7,0,none⟩)/\g.rd 37=.slice (some ⟨bt,0,none⟩) ts.length 1/\g.rd 38=.int .i64 ts.length/\g.rd 39=.int .i64 i/\g.rd 2=v2/\g.rd 19=v19/\g.rd 20=v20/\g.rd 21=v21/\ts.length-i=q) ?_ ts.length _ _ ⟨0,_,[],bad,Nat.zero_le _,rfl,hbr,hbs,.inl ⟨rfl,rfl⟩,(fun _ h=>nomatch h),fun _ _ _ _=>rfl,Nat.le_refl _,f0,f7,f37,f38,f39,f2,f19,f20,f21,by omega⟩
 rintro q g W ⟨i,v,ps,b,hi,hps,wr,ws,hv,hst,wo,wl,g0,g7,g37,g38,g39,g2,g19,g20,g21,hq⟩
 by_cases hlt:(i:Int)<ts.length
 ·have hi':i<ts.length:=by omega
  have hgt:=strs_get hi';have hsz:=htz i;generalize ts.getD i ⟨#[]⟩=tx at *;have w7:=(wo b7 l7 n2 n3).trans h7;have wt:=(wo bt lt n4 n5).trans ht;have lr:=lt_of_get wr;have ls:=lt_of_get ws;obtain⟨v',h',e104,x,y,z,b',rfl,z1,z2,rfl⟩:=(c104 hE hI hD hP (lim:=lim) (h:=W) wr (l:=l) (m:=m) (u:=u) (d:=d) (q:=some ⟨bs,k,none⟩) hu hu2 tx hsz).out;have ck:(cs.set k v)[k]?=some v:=by rw[List.getElem?_set_self (by omega)]
  have y7:(W.set br (bB b'))[b7]?=some (.cells true [.int .i64 l,.int .i64 m,.int .i64 u,.int .i64 d,.pointer (some ⟨bs,k,none⟩)]):=by rw[set_ne (by omega)]; exact w7
  have ys:(W.set br (bB b'))[bs]?=some (.cells true (cs.set k v)):=by rw[set_ne n1]; exact ws
  have x1:(i<ts.length)=True:=by simp[hi']
  have x4:IntKind.i64.wrap ((i:Int)+1)=i+1:=wrap64 (by omega) (by omega);have k6:∀c,(W.set br (bB b')++[c])[W.length]?=some c:=fun c=>get_appC0 (by simp);have k8:∀l c,(W.set br (bB b')++l).set bs c=(W.set br (bB b')).set bs c++l:=fun l c=>set_old (by simpa using ls);have k9:∀v',(k<(cs.set k v').length)=True:=fun v'=>by simp; omega
  have k10:(k<cs.length)=True:=by simp; omega
  have k11:(k+1<=cs.length)=True:=by simp; omega
  have hlm:∀q:Prop,(lim<=bs\/q)=True:=fun q=>by simp[hlim]
  have hstep:∀(X':Hp),X'=W.set br (bB b')->True:=fun _ _=>trivial;rcases hv with⟨rfl,rfl⟩ | ⟨c,rfl,hc,hcb⟩
  ·simp only[push_cast,lp56_0,g0,g2,g19,g20,g21,g7,g37,g38,g39,hlt,x1,x4,wt,w7,ws,ck,y7,ys,hgt,e104,Int.natCast_nonneg,Nat.mul_one,sureL,get_old y7,get_old ys,srcOf,k6,k8,hlm,k9,k10,k11,simprocAttr];refine⟨_,?_,i+1,.slice (some ⟨W.length+1,0,none⟩) 1 3,[(x,y,z)],b',by omega,by rw[<- hps]; rfl,?_,?_,.inr ⟨W.length+1,rfl,by omega,get_appC (n:=W.length) (k:=1) (by simp)⟩,?_,fun j j1 j2 j3=>?_,by omega,rfl,rfl⟩
   ·omega
   ·rw[get_lt (by simp; omega),set_ne (by omega),set_get lr]
   ·rw[get_lt (by simp; omega),set_get (by simpa using ls)]
   ·intro p hp;rw[List.mem_singleton.1 hp];exact z1
   ·rw[get_lt (by simp; omega),set_ne (by omega),set_ne (by omega)];exact wo j j1 j2 j3
  ·have lc:=lt_of_get hcb
   have c1:c≠br:=fun e=>by
    subst e;rw[wr] at hcb;unfold bB at hcb;cases ps with
    | nil=>simp[prt] at hcb
    | cons p l=>simp[prt] at hcb
   have c2:c≠bs:=fun e=>by omega
   have k12:∀l d,(W.set br (bB b')++l).set c d=(W.set br (bB b')).set c d++l:=fun l d=>set_old (by simpa using lc);have k13:((W.set br (bB b')).set c .dead).length=W.length:=by simp
   have k14:∀l c',((W.set br (bB b')).set c .dead++l).set bs c'=((W.set br (bB b')).set c .dead).set bs c'++l:=fun l c=>set_old (by simpa using ls);have k15:((W.set br (bB b')).set c .dead)[bs]?=some (.cells true (cs.set k (.slice (some ⟨c,0,none⟩) ps.length 3))):=by rw[set_ne (by omega)]; exact ys
   have k16:(W.set br (bB b'))[c]?=some (.cells true (prt ps)):=by rw[set_ne (by omega)]; exact hcb
   have k17:((ps.length+1)*24<=140737488355328)=True:=by simp; omega
   have k18:∀a b,((W.set br (bB b')).set c .dead++[a,b])[b7]?=some (.cells true [.int .i64 l,.int .i64 m,.int .i64 u,.int .i64 d,.pointer (some ⟨bs,k,none⟩)]):=fun a b=>by rw[get_lt (by simp; omega),set_ne (by omega)]; exact y7
   have hlc:(lim<=c)=True:=by simp; omega
   simp only[push_cast,lp56_0,g0,g2,g19,g20,g21,g7,g37,g38,g39,hlt,x1,x4,wt,w7,ws,ck,y7,ys,hgt,e104,Int.natCast_nonneg,Nat.mul_one,sureL,get_old y7,get_old ys,srcOf,k6,k8,hlm,k9,k10,k11,k12,k13,k14,k15,k17,get_old k16,get_old k15,prt_len,prt_app,hlc,k18,simprocAttr];refine⟨_,?_,i+1,.slice (some ⟨W.length+1,0,none⟩) (ps.length+1) 3,ps++[(x,y,z)],b',by omega,by simp; omega,?_,?_,.inr ⟨W.length+1,by simp,by omega,get_appC (n:=W.length) (k:=1) (by simp)⟩,?_,fun j j1 j2 j3=>?_,by omega,rfl,rfl⟩
   ·omega
   ·rw[get_lt (by simp; omega),set_ne (by omega),set_ne (by omega),set_get lr]
   ·rw[get_lt (by simp; omega),set_get (by simpa using ls)]
   ·intro p hp;rcases List.mem_append.1 hp with hp | hp
    ·exact hst p hp
    ·rw[List.mem_singleton.1 hp];exact z1
   ·rw[get_lt (by simp; omega),set_ne (by omega),set_ne (by omega),set_ne (by omega)];exact wo j j1 j2 j3
 ·simp only[push_cast,lp56_0,g38,g39,hlt,simprocAttr];refine hx _ _ v ps b ?_ ?_ ?_ ?_ ?_ wl wr ws hv hst (by omega) wo<;>simp only[push_cast,g0,g2,g19,g20,g21,simprocAttr]
structure F3 (fc:List Value)(o bs:Nat)(L M U D:Nat->Int)(K:Nat->Nat):Prop where
 get:∀i,i<3->o+i*5+5<=fc.length/\(fc.drop (o+i*5)).take 5=[.int .i64 (L i),.int .i64 (M i),.int .i64 (U i),.int .i64 (D i),.pointer (some ⟨bs,K i,none⟩)]
 k:∀i,i<3->FieldK (K i)
 u:∀i,i<3->1<=U i/\U i<=1000000
theorem c56 (hI:IdxOk E)(hC:CntOk E)(hD:DecOk E)(hP:ParseOk E){br bs bf bt o:Nat}{fc:List Value}{L M U D:Nat->Int}{K:Nat->Nat}(HF:F3 fc o bs L M U D K){xs:List ByteArray}(hxs:xs.length<900000)(hxz:∀j,(xs.getD j ⟨#[]⟩).size<900000)
  (hS:SB h br bs)(hf:h[bf]?=some (.cells true fc))(ht:h[bt]?=some (.cells true (strs xs)))(n1:br≠bs)(n2:bf≠bs)(n3:bf≠br)(n4:bt≠bs)(n5:bt≠br)(hlim:lim<=bs)(hlim2:lim<=br) :
  PostV (evI E lim (.func 56) [.pointer (some ⟨br,0,none⟩),.slice (some ⟨bf,o,none⟩) 3 5,.slice (some ⟨bt,0,none⟩) xs.length 1] h) fun v h'=>SB h' br bs/\(∀j,j<h.length->j≠bs->j≠br->h'[j]?=h[j]?)/\h.length<=h'.length:=by
 have lf:=lt_of_get hf;have lt:=lt_of_get ht
 by_cases hne:xs.length=3
 ·have e3:((3:Int)==(xs.length:Int))=true:=by simp[hne]
  rw[hE.fn T56]; simp only[push_cast,ac56,e3,simprocAttr];refine loop_post hE.mono (fun q g W=>∃i:Nat,i<=3/\SB W br bs/\(∀j,j<h.length->j≠bs->j≠br->W[j]?=h[j]?)/\h.length<=W.length/\g.rd 0=.pointer (some ⟨br,0,none⟩)/\g.rd 2=.slice (some ⟨bt,0,none⟩) xs.length 1/\g.rd 19=.slice (some ⟨bf,o,none⟩) 3 5/\g.rd 20=.int .i64 3/\g.rd 21=.int .i64 i/\3-i=q) ?_ 3 _ _ ⟨0,by omega,hS,fun _ _ _ _=>rfl,Nat.le_refl _,rfl,rfl,rfl,rfl,rfl,rfl⟩;rintro q g W ⟨i,hi,wS,wo,wl,g0,g2,g19,g20,g21,hq⟩
  by_cases hlt:(i:Int)<3
  ·have hi':i<3:=by omega
   obtain⟨f1,f2⟩:=HF.get i hi';obtain⟨u1,u2⟩:=HF.u i hi';have hk:=HF.k i hi';obtain⟨cs,ws,wc⟩:=wS.cs;obtain⟨bad,wr⟩:=wS.bad;have wf:=(wo bf lf n2 n3).trans hf;have wt:=(wo bt lt n4 n5).trans ht;have hgt:=strs_get (xs:=xs) (i:=i) (by omega);have hsz:=hxz i;generalize xs.getD i ⟨#[]⟩=tx at *;have ls:=lt_of_get ws;have lr:=lt_of_get wr;have k9:K i<9:=by unfold FieldK at hk; omega
   have hl9:=wc.len;have x1:(i<xs.length)=True:=by simp; omega
   have x2:(K i<cs.length)=True:=by simp; omega
   have x3:(K i+1<=cs.length)=True:=by simp; omega
   have x4:IntKind.i64.wrap ((i:Int)+1)=i+1:=wrap64 (by omega) (by omega);have x5:∀q:Prop,(lim<=bs\/q)=True:=fun q=>by simp[hlim]
   have x6:∀q:Prop,(lim<=W.length\/q)=True:=fun q=>by simp; omega
   have x7:(i<3)=True:=by simp[hi']
   have x8:(o+i*5+5<=fc.length)=True:=by simp[f1]
   have s1:∀l c,(W++l).set bs c=W.set bs c++l:=fun l c=>set_old ls;have s2:∀x l,(W.set bs x++l)[bt]?=some (.cells true (strs xs)):=fun x l=>get_old (by rw[set_ne (by omega)]; exact wt);have x0:((i:Int)<(xs.length:Int))=True:=by simp; omega
   have hset:∀X' v ps b,X'[br]?=some (bB b)->X'[bs]?=some (.cells true (cs.set (K i) v))->PR X' br bs v ps->Stp ps->ps.length<1000000->(∀j,j<W.length->j≠bs->j≠br->X'[j]?=W[j]?)->SB X' br bs:=fun X' v ps b e1 e2 e3 e4 e5 e6 =>
    ⟨⟨_,e2,(wc.of e6).set hk e3 e4 e5⟩,⟨b,e1⟩⟩
   cases hst:tx.toList==(⟨#[42]⟩:ByteArray).toList with
   | false =>
    have hXl:(W.set bs (Blk.cells true (cs.set (K i) (.slice none 0 0)))++[Blk.cells true [.int .i64 (L i),.int .i64 (M i),.int .i64 (U i),.int .i64 (D i),.pointer (some ⟨bs,K i,none⟩)]]).length=W.length+1:=by simp
    obtain⟨v,h',e54,ts,rfl,rfl,t1,t2,t3⟩:=(c54 hE hI hC (lim:=lim) (h:=W.set bs (.cells true (cs.set (K i) (.slice none 0 0)))++[.cells true [.int .i64 (L i),.int .i64 (M i),.int .i64 (U i),.int .i64 (D i),.pointer (some ⟨bs,K i,none⟩)]]) tx 44 (by omega) (by simp; omega)).out;rw[hXl] at e54;simp only[List.append_assoc,List.cons_append,List.nil_append] at e54;simp only[push_cast,lp56_1,g0,g2,g19,g20,g21,hlt,wf,x0,x1,x2,x3,x4,x5,x6,x7,x8,f2,get_old ws,s1,s2,hgt,hst,Int.natCast_nonneg,Nat.mul_one,e54,simprocAttr];refine loop56 hE hI hD hP (bs:=bs) (k:=K i) (b7:=W.length) (bt:=W.length+1) (br:=br) (l:=L i) (m:=M i) (u:=U i) (d:=D i) u1 u2 hl9 k9 (ts:=ts) (by omega) (fun j=>by have:=t3 j; omega) (bad:=bad) ?_ ?_ (get_appC0 (by simp)) (get_appC (k:=1) (by simp)) n1 (by omega) (by omega) (by omega) (by omega) hlim (by simp[g0]) (by simp) (by simp) (by simp) (by simp) (v2:=.slice (some ⟨bt,0,none⟩) xs.length 1) (v19:=.slice (some ⟨bf,o,none⟩) 3 5) (v20:=.int .i64 3) (v21:=.int .i64 i) (by simp[g2]) (by simp[g19]) (by simp[g20]) (by simp[g21]) ?_
    ·rw[get_lt (by simp; omega),set_ne (by omega)]; exact wr
    ·rw[get_lt (by simp; omega),set_get ls]
    ·intro f' X' v ps b q0 q2 q19 q20 q21 ql r1 r2 r3 r4 r5 r6;simp only[List.length_append,List.length_set,List.length_cons,List.length_nil] at ql r6
     have hW:∀j,j<W.length->j≠bs->j≠br->X'[j]?=W[j]?:=fun j j1 j2 j3=>by
      rw[r6 j (by omega) j2 j3,get_lt (by simp; omega),set_ne (by omega)]
     simp only[push_cast,q0,q2,q19,q20,q21,x4,simprocAttr];refine⟨3-(i+1),by omega,i+1,by omega,hset X' v ps b r1 r2 ?_ r4 (by omega) hW,fun j j1 j2 j3=>by rw[hW j (by omega) j2 j3]; exact wo j j1 j2 j3,by omega,rfl,rfl⟩;rcases r3 with r3 | ⟨c,e1,e2,e3⟩
     ·exact .inl r3
     ·simp only[List.length_append,List.length_set,List.length_cons,List.length_nil] at e2;exact .inr ⟨c,e1,by omega,by omega,e3⟩
   | true =>
    by_cases hu1:U i>1
    ·have s3:∀x l c,(W.set bs x++l).set bs c=W.set bs c++l:=fun x l c=>by rw[set_old (by simpa using ls),List.set_set]
     have s4:∀(x:Blk) (l:Hp),(W.set bs x++l)[bs]?=some x:=fun x l=>get_old (set_get ls);have s5:∀x c l,(W.set bs x++c::l)[W.length]?=some c:=fun x c l=>get_appC0 (by simp);simp only[push_cast,lp56_1,g0,g2,g19,g20,g21,hlt,wf,x0,x1,x2,x3,x4,x5,x6,x7,x8,f2,get_old ws,s1,s2,hgt,hst,Int.natCast_nonneg,Nat.mul_one,s3,s4,s5,hu1,c105 hE,sureL,simprocAttr];refine⟨3-(i+1),by omega,i+1,by omega,hset _ (.slice (some ⟨W.length+1,0,none⟩) 1 3) [(L i,M i,U i)] bad ?_ ?_ (.inr ⟨W.length+1,rfl,by omega,by omega,get_appC (n:=W.length) (k:=1) (by simp)⟩) (fun p hp=>by rw[List.mem_singleton.1 hp]; show U i<=10000000000000; omega) (by simp) (fun j j1 j2 j3=>by rw[get_lt (by simp; omega),set_ne (by omega)]),fun j j1 j2 j3=>?_,by omega,rfl,rfl⟩
     ·rw[get_lt (by simp; omega),set_ne (by omega)]; exact wr
     ·rw[get_lt (by simp; omega),set_get ls]
     ·rw[get_lt (by simp; omega),set_ne (by omega)];exact wo j j1 j2 j3
    ·have s5:∀x c l,(W.set bs x++c::l)[W.length]?=some c:=fun x c l=>get_appC0 (by simp);simp only[push_cast,lp56_1,g0,g2,g19,g20,g21,hlt,wf,x0,x1,x2,x3,x4,x5,x6,x7,x8,f2,get_old ws,s1,s2,hgt,hst,Int.natCast_nonneg,Nat.mul_one,s5,hu1,simprocAttr];refine⟨3-(i+1),by omega,i+1,by omega,hset _ (.slice none 0 0) [] bad ?_ ?_ (.inl ⟨rfl,rfl⟩) (fun p hp=>nomatch hp) (by simp) ?_,fun j j1 j2 j3=>?_,by first | omega | (simp; omega),rfl,rfl⟩
     ·rw[get_lt (by simp; omega),set_ne (by omega)]; exact wr
     ·rw[get_lt (by simp; omega),set_get ls]
     ·exact fun j j1 j2 j3=>by rw[get_lt (by simp; omega),set_ne (by omega)]
     ·rw[get_lt (by simp; omega),set_ne (by omega)];exact wo j j1 j2 j3
  ·simp only[push_cast,lp56_1,g20,g21,hlt,simprocAttr];exact⟨wS,wo,wl⟩
 ·have e3:((3:Int)==(xs.length:Int))=false:=by simp; omega
  obtain⟨bad,wr⟩:=hS.bad;obtain⟨cs,ws,wc⟩:=hS.cs;have lr:=lt_of_get wr;unfold bB at wr;have hl2:∀q:Prop,(lim<=br\/q)=True:=fun q=>by simp[hlim2]
  rw[hE.fn T56]; simp only[push_cast,ac56,e3,wr,hl2,simprocAttr];have ho:∀(j:Nat),j<h.length->j≠bs->j≠br->(h.set br (Blk.cells true [Value.bool true]))[j]?=h[j]?:=fun j j1 j2 j3=>set_ne (by omega);refine⟨⟨⟨cs,by rw[set_ne n1]; exact ws,wc.of ho⟩,⟨true,set_get lr⟩⟩,?_⟩
  first | exact ho | exact⟨ho,by simp⟩
end
section
open Tb
def LowOk (E:Env):Prop:=∀(lim:Nat) (s:ByteArray) (h:Hp),s.size<1000000->∃t,evI E lim (.func 98) [.string s] h=some (.string t,h)
def dayL:List ByteArray:=[⟨#[109,111,110,100,97,121]⟩,⟨#[116,117,101,115,100,97,121]⟩,⟨#[119,101,100,110,101,115,100,97,121]⟩,⟨#[116,104,117,114,115,100,97,121]⟩,⟨#[102,114,105,100,97,121]⟩,⟨#[115,97,116,117,114,100,97,121]⟩,⟨#[115,117,110,100,97,121]⟩]
variable {E:Env}(hE:EnvT E){lim:Nat}{h:Hp}
include hE
theorem c161 {b:Nat}{own:Bool}{s t:ByteArray}(hb:h[b]?=some (.cells own [.string s]))(ht:3<=t.size):∃r,evI E lim (.func 161) [.string t,.pointer (some ⟨b,0,none⟩)] h=some (.bool r,h):=by
 have h3:((3:Int)<=t.size)=True:=by simp; omega
 cases hc:s.toList==t.toList with
 | true=>exact⟨_,by rw[hE.fn T161]; simp +contextual only[push_cast,ac161,hb,hc,simprocAttr]; rfl⟩
 | false=>exact⟨_,by rw[hE.fn T161]; simp +contextual only[push_cast,ac161,hb,hc,bound,Option.map_none,h3,simprocAttr]; rfl⟩
theorem c100 (hL:LowOk E)(s:ByteArray)(hs:s.size<1000000):∃r:Int,evI E lim (.func 100) [.string s] h=some (.int .i64 r,h)/\-1<=r/\r<=6:=by
 obtain⟨t,e98⟩:=hL h.length s (h++[.cells true [.string s],.cells true (strs dayL)]) hs
 have hS:SlK 1 (h++[.cells true [.string t],.cells true (strs dayL)]) (some ⟨h.length+1,0,none⟩) 7 1 fun j=>[.string (dayL.getD j ⟨#[]⟩)]:=fun _=>⟨h.length+1,0,true,strs dayL,rfl,rfl,get_app,by decide,fun j hj=>by
  have:j=0\/j=1\/j=2\/j=3\/j=4\/j=5\/j=6:=by omega
  rcases this with rfl | rfl | rfl | rfl | rfl | rfl | rfl<;>rfl⟩
 obtain⟨Y,hY⟩:∃Y,Y=h++[Blk.cells true [.string t],.cells true (strs dayL)]:=⟨_,rfl⟩;rw[<- hY] at hS;have hb:Y[h.length]?=some (.cells true [.string t]):=by rw[hY]; exact get_app0
 have hq:∀j,∃r,j<7->evI E Y.length (.func 161) [.string (dayL.getD j ⟨#[]⟩),.pointer (some ⟨h.length,0,none⟩)] Y=some (.bool r,Y):=fun j=>by
  by_cases hj:j<7
  ·obtain⟨r,e⟩:=c161 hE (lim:=Y.length) (h:=Y) (b:=h.length) (own:=true) (s:=t) (t:=dayL.getD j ⟨#[]⟩) hb (by
    have:j=0\/j=1\/j=2\/j=3\/j=4\/j=5\/j=6:=by omega
    rcases this with rfl | rfl | rfl | rfl | rfl | rfl | rfl<;>decide)
   exact⟨r,fun _=>e⟩
  ·exact⟨true,fun h=>absurd h hj⟩
 obtain⟨r,e160,r1,r2⟩:∃r:Int,evI E h.length (.func 160) [.slice (some ⟨h.length+1,0,none⟩) 7 1,.func (.func 161) #[] #[.pointer (some ⟨h.length,0,none⟩)]] Y=some (.int .i64 r,Y)/\-1<=r/\r<=6:=by
  have:=findI_in (fun j=>(hq j).choose) 7 0;exact⟨_,c160 hE (lim:=h.length) (p:=161) (fa:=#[]) (fb:=#[.pointer (some ⟨h.length,0,none⟩)]) (q:=fun j=>(hq j).choose) hS (by omega) (fun j hj=>(hq j).choose_spec hj),this.1,by omega⟩
 rw[hY] at e160;simp only[strs,dayL,List.map_cons,List.map_nil] at e160 e98;refine⟨r,?_,r1,r2⟩;rw[hE.fn T100]; simp +contextual only[push_cast,ac100,e98,e160,bound,Option.map_none,Int.le_refl,simprocAttr]
theorem loop51 {a b x:Int}(a1:0<=a)(a2:a<=6)(b1:0<=b)(b2:b<=6){f:Fr}{X:Hp}{v13 v14 v15:Value}(f2:f.rd 2=.int .u8 x)(f3:f.rd 3=.bool false)(f10:f.rd 10=.int .i64 b)(f11:f.rd 11=.int .i64 a)(f13:f.rd 13=v13)(f14:f.rd 14=v14)(f15:f.rd 15=v15){P:AX->Fr->Hp->Prop}
  (hP:∀f' x',f'.rd 2=.int .u8 x'->f'.rd 3=.bool false->f'.rd 10=.int .i64 b->f'.rd 13=v13->f'.rd 14=v14->f'.rd 15=v15->P (.exit 2) f' X):Post (evK E lim (.loop lp51_0) f X) P:=by
 refine loop_post hE.mono (fun q g W=>∃(k x:Int),g.rd 2=.int .u8 x/\g.rd 3=.bool false/\g.rd 10=.int .i64 b/\g.rd 11=.int .i64 k/\g.rd 13=v13/\g.rd 14=v14/\g.rd 15=v15/\W=X/\0<=k/\k<=6/\((b-k+7)%7).toNat=q) ?_ _ _ _ ⟨a,x,f2,f3,f10,f11,f13,f14,f15,rfl,a1,a2,rfl⟩;rintro q g W ⟨k,x,g2,g3,g10,g11,g13,g14,g15,rfl,k1,k2,hq⟩;cases hkb:(k==b) with
 | false =>
  have hne:k≠b:=by simpa using hkb
  have w1:=w64 (x:=k+1);have w2:(k+1).tmod 7=(k+1)%7:=Int.tmod_eq_emod_of_nonneg (by omega);have w3:(k<0)=False:=by simp; omega
  simp only[push_cast,lp51_0,g2,g3,g10,g11,g13,g14,g15,hkb,w1,w2,w3,simprocAttr];exact⟨((b-(k+1)%7+7)%7).toNat,by omega,_,_,rfl,rfl,by omega,by omega,rfl⟩
 | true =>
  simp only[push_cast,lp51_0,g10,g11,hkb,simprocAttr];refine hP _ x ?_ ?_ ?_ ?_ ?_ ?_<;>simp only[push_cast,g2,g3,g10,g13,g14,g15,simprocAttr]
theorem c51 (hI:IdxOk E)(hC:CntOk E)(hL:LowOk E)(s:ByteArray)(hs:s.size<900000):∃(x:Int) (ok:Bool),evI E lim (.func 51) [.string s] h=some (.tuple #[.int .u8 x,.bool ok],h):=by
 suffices hh:PostV (evI E lim (.func 51) [.string s] h) fun v h'=>h'=h/\∃(x:Int) (ok:Bool),v=.tuple #[.int .u8 x,.bool ok] by
  obtain⟨v,h',e,rfl,x,ok,rfl⟩:=hh.out;exact⟨x,ok,e⟩
 obtain⟨v,h',e54,ts,rfl,rfl,t1,t2,t3⟩:=(c54 hE hI hC (lim:=h.length) (h:=h) s 44 (by omega) (Nat.le_refl _)).out;rw[hE.fn T51]; simp only[push_cast,ac51,e54,simprocAttr];refine loop_post hE.mono (fun q g W=>∃(i:Nat) (x:Int),i<=ts.length/\W=h++[.cells true (strs ts)]/\g.rd 2=.int .u8 x/\g.rd 3=.bool false/\g.rd 13=.slice (some ⟨h.length,0,none⟩) ts.length 1/\g.rd 14=.int .i64 ts.length/\g.rd 15=.int .i64 i/\ts.length-i=q) ?_ ts.length _ _ ⟨0,0,Nat.zero_le _,rfl,rfl,rfl,rfl,rfl,rfl,by omega⟩;rintro q g W ⟨i,x,hi,rfl,g2,g3,g13,g14,g15,hq⟩
 by_cases hlt:(i:Int)<ts.length
 ·have hi':i<ts.length:=by omega
  have hgt:=strs_get hi';have hsz:=t3 i;generalize ts.getD i ⟨#[]⟩=tx at *;have x1:(i<ts.length)=True:=by simp[hi']
  have x4:IntKind.i64.wrap ((i:Int)+1)=i+1:=wrap64 (by omega) (by omega);obtain⟨fr,to,rg,e99,y1,y2⟩:=c99 hE hI (lim:=h.length) (h:=h++[.cells true (strs ts)]) tx ⟨#[46,46]⟩ (by omega) (by show 2<1000000; omega);obtain⟨a,ea,a1,a2⟩:=c100 hE hL (lim:=h.length) (h:=h++[.cells true (strs ts)]) fr (by omega);cases rg with
  | true =>
   obtain⟨b,eb,b1,b2⟩:=c100 hE hL (lim:=h.length) (h:=h++[.cells true (strs ts)]) to (by omega)
   by_cases ha:a<0
   ·by_cases hb:b<0
    ·simp only[push_cast,lp51_1,g2,g3,g13,g14,g15,hlt,x1,x4,hgt,e99,ea,eb,ha,hb,Int.natCast_nonneg,Nat.mul_one,simprocAttr];exact⟨_,_,rfl⟩
    ·simp only[push_cast,lp51_1,g2,g3,g13,g14,g15,hlt,x1,x4,hgt,e99,ea,eb,ha,hb,Int.natCast_nonneg,Nat.mul_one,simprocAttr];exact⟨_,_,rfl⟩
   ·by_cases hb:b<0
    ·simp only[push_cast,lp51_1,g2,g3,g13,g14,g15,hlt,x1,x4,hgt,e99,ea,eb,ha,hb,Int.natCast_nonneg,Nat.mul_one,simprocAttr];exact⟨_,_,rfl⟩
    ·simp only[push_cast,lp51_1,g2,g3,g13,g14,g15,hlt,x1,x4,hgt,e99,ea,eb,ha,hb,Int.natCast_nonneg,Nat.mul_one,simprocAttr];refine loop51 hE (a:=a) (b:=b) (x:=x) (by omega) a2 (by omega) b2 (v13:=.slice (some ⟨h.length,0,none⟩) ts.length 1) (v14:=.int .i64 ts.length) (v15:=.int .i64 i) (by simp[g2]) (by simp[g3]) (by simp) (by simp) (by simp[g13]) (by simp[g14]) (by simp[g15]) ?_;intro f' x' q2 q3 q10 q13 q14 q15;have w3:(b<0)=False:=by simp; omega
     simp only[push_cast,q2,q3,q10,q13,q14,q15,w3,x4,simprocAttr];exact⟨ts.length-(i+1),by omega,i+1,_,by omega,rfl,rfl,rfl⟩
  | false =>
   by_cases ha:a<0
   ·simp only[push_cast,lp51_1,g2,g3,g13,g14,g15,hlt,x1,x4,hgt,e99,ea,ha,Int.natCast_nonneg,Nat.mul_one,simprocAttr];exact⟨_,_,rfl⟩
   ·simp only[push_cast,lp51_1,g2,g3,g13,g14,g15,hlt,x1,x4,hgt,e99,ea,ha,Int.natCast_nonneg,Nat.mul_one,simprocAttr];refine loop51 hE (a:=a) (b:=a) (x:=x) (by omega) a2 (by omega) a2 (v13:=.slice (some ⟨h.length,0,none⟩) ts.length 1) (v14:=.int .i64 ts.length) (v15:=.int .i64 i) (by simp[g2]) (by simp[g3]) (by simp) (by simp) (by simp[g13]) (by simp[g14]) (by simp[g15]) ?_;intro f' x' q2 q3 q10 q13 q14 q15;have w3:(a<0)=False:=by simp; omega
    simp only[push_cast,q2,q3,q10,q13,q14,q15,w3,x4,simprocAttr];exact⟨ts.length-(i+1),by omega,i+1,_,by omega,rfl,rfl,rfl⟩
 ·simp only[push_cast,lp51_1,g2,g14,g15,hlt,simprocAttr];exact⟨_,_,rfl⟩
def shortE:List (Value×Value):=[(.string ⟨#[109,105,110,117,116,101,108,121]⟩,.agg #[.string ⟨#[42,45,42,45,42,32,42,58,42,58,48,48]⟩]),(.string ⟨#[104,111,117,114,108,121]⟩,.agg #[.string ⟨#[42,45,42,45,42,32,42,58,48,48,58,48,48]⟩]),(.string ⟨#[100,97,105,108,121]⟩,.agg #[.string ⟨#[48,48,58,48,48,58,48,48]⟩]),(.string ⟨#[109,105,100,110,105,103,104,116]⟩,.agg #[.string ⟨#[48,48,58,48,48,58,48,48]⟩]),(.string ⟨#[119,101,101,107,108,121]⟩,.agg #[.string ⟨#[77,111,110,32,48,48,58,48,48,58,48,48]⟩]),(.string ⟨#[109,111,110,116,104,108,121]⟩,.agg #[.string ⟨#[42,45,42,45,48,49,32,48,48,58,48,48,58,48,48]⟩]),(.string ⟨#[113,117,97,114,116,101,114,108,121]⟩,.agg #[.string ⟨#[42,45,48,49,44,48,52,44,48,55,44,49,48,45,48,49,32,48,48,58,48,48,58,48,48]⟩]),(.string ⟨#[115,101,109,105,97,110,110,117,97,108,108,121]⟩,.agg #[.string ⟨#[42,45,48,49,44,48,55,45,48,49,32,48,48,58,48,48,58,48,48]⟩]),(.string ⟨#[121,101,97,114,108,121]⟩,.agg #[.string ⟨#[42,45,48,49,45,48,49,32,48,48,58,48,48,58,48,48]⟩]),(.string ⟨#[97,110,110,117,97,108,108,121]⟩,.agg #[.string ⟨#[42,45,48,49,45,48,49,32,48,48,58,48,48,58,48,48]⟩])]
omit hE in
theorem mfind_str (t:ByteArray):∀(es:List (Value×Value)) (i:Nat),(∀e,e∈es->∃k v,e=(.string k,.agg #[.string v])/\v.size<100)->∃r,mfind true (.string t) es i=some r/\(r=none\/∃j v,r=some (j,.agg #[.string v])/\v.size<100)
 | [],i,_=>⟨none,rfl,.inl rfl⟩
 | e::es,i,h=>by
  obtain⟨k,v,rfl,hv⟩:=h e (by simp);unfold mfind;simp only[keyEq];cases hk:(t==k) with
  | true=>exact⟨some (i,.agg #[.string v]),rfl,.inr ⟨i,v,rfl,hv⟩⟩
  | false=>exact mfind_str t es (i+1) fun e he=>h e (by simp[he])
omit hE in
theorem mf0:mfind true (.string ⟨#[109,105,110,117,116,101,108,121]⟩) [] 0=some none:=by rfl
omit hE in
theorem mf1:mfind true (.string ⟨#[104,111,117,114,108,121]⟩) [(.string ⟨#[109,105,110,117,116,101,108,121]⟩,.agg #[.string ⟨#[42,45,42,45,42,32,42,58,42,58,48,48]⟩])] 0=some none:=by rfl
omit hE in
theorem mf2:mfind true (.string ⟨#[100,97,105,108,121]⟩) [(.string ⟨#[109,105,110,117,116,101,108,121]⟩,.agg #[.string ⟨#[42,45,42,45,42,32,42,58,42,58,48,48]⟩]),(.string ⟨#[104,111,117,114,108,121]⟩,.agg #[.string ⟨#[42,45,42,45,42,32,42,58,48,48,58,48,48]⟩])] 0=some none:=by rfl
omit hE in
theorem mf3:mfind true (.string ⟨#[109,105,100,110,105,103,104,116]⟩) [(.string ⟨#[109,105,110,117,116,101,108,121]⟩,.agg #[.string ⟨#[42,45,42,45,42,32,42,58,42,58,48,48]⟩]),(.string ⟨#[104,111,117,114,108,121]⟩,.agg #[.string ⟨#[42,45,42,45,42,32,42,58,48,48,58,48,48]⟩]),(.string ⟨#[100,97,105,108,121]⟩,.agg #[.string ⟨#[48,48,58,48,48,58,48,48]⟩])] 0=some none:=by rfl
omit hE in
theorem mf4:mfind true (.string ⟨#[119,101,101,107,108,121]⟩) [(.string ⟨#[109,105,110,117,116,101,108,121]⟩,.agg #[.string ⟨#[42,45,42,45,42,32,42,58,42,58,48,48]⟩]),(.string ⟨#[104,111,117,114,108,121]⟩,.agg #[.string ⟨#[42,45,42,45,42,32,42,58,48,48,58,48,48]⟩]),(.string ⟨#[100,97,105,108,121]⟩,.agg #[.string ⟨#[48,48,58,48,48,58,48,48]⟩]),(.string ⟨#[109,105,100,110,105,103,104,116]⟩,.agg #[.string ⟨#[48,48,58,48,48,58,48,48]⟩])] 0=some none:=by rfl
omit hE in
theorem mf5:mfind true (.string ⟨#[109,111,110,116,104,108,121]⟩) [(.string ⟨#[109,105,110,117,116,101,108,121]⟩,.agg #[.string ⟨#[42,45,42,45,42,32,42,58,42,58,48,48]⟩]),(.string ⟨#[104,111,117,114,108,121]⟩,.agg #[.string ⟨#[42,45,42,45,42,32,42,58,48,48,58,48,48]⟩]),(.string ⟨#[100,97,105,108,121]⟩,.agg #[.string ⟨#[48,48,58,48,48,58,48,48]⟩]),(.string ⟨#[109,105,100,110,105,103,104,116]⟩,.agg #[.string ⟨#[48,48,58,48,48,58,48,48]⟩]),(.string ⟨#[119,101,101,107,108,121]⟩,.agg #[.string ⟨#[77,111,110,32,48,48,58,48,48,58,48,48]⟩])] 0=some none:=by rfl
omit hE in
theorem mf6:mfind true (.string ⟨#[113,117,97,114,116,101,114,108,121]⟩) [(.string ⟨#[109,105,110,117,116,101,108,121]⟩,.agg #[.string ⟨#[42,45,42,45,42,32,42,58,42,58,48,48]⟩]),(.string ⟨#[104,111,117,114,108,121]⟩,.agg #[.string ⟨#[42,45,42,45,42,32,42,58,48,48,58,48,48]⟩]),(.string ⟨#[100,97,105,108,121]⟩,.agg #[.string ⟨#[48,48,58,48,48,58,48,48]⟩]),(.string ⟨#[109,105,100,110,105,103,104,116]⟩,.agg #[.string ⟨#[48,48,58,48,48,58,48,48]⟩]),(.string ⟨#[119,101,101,107,108,121]⟩,.agg #[.string ⟨#[77,111,110,32,48,48,58,48,48,58,48,48]⟩]),(.string ⟨#[109,111,110,116,104,108,121]⟩,.agg #[.string ⟨#[42,45,42,45,48,49,32,48,48,58,48,48,58,48,48]⟩])] 0=some none:=by rfl
omit hE in
theorem mf7:mfind true (.string ⟨#[115,101,109,105,97,110,110,117,97,108,108,121]⟩) [(.string ⟨#[109,105,110,117,116,101,108,121]⟩,.agg #[.string ⟨#[42,45,42,45,42,32,42,58,42,58,48,48]⟩]),(.string ⟨#[104,111,117,114,108,121]⟩,.agg #[.string ⟨#[42,45,42,45,42,32,42,58,48,48,58,48,48]⟩]),(.string ⟨#[100,97,105,108,121]⟩,.agg #[.string ⟨#[48,48,58,48,48,58,48,48]⟩]),(.string ⟨#[109,105,100,110,105,103,104,116]⟩,.agg #[.string ⟨#[48,48,58,48,48,58,48,48]⟩]),(.string ⟨#[119,101,101,107,108,121]⟩,.agg #[.string ⟨#[77,111,110,32,48,48,58,48,48,58,48,48]⟩]),(.string ⟨#[109,111,110,116,104,108,121]⟩,.agg #[.string ⟨#[42,45,42,45,48,49,32,48,48,58,48,48,58,48,48]⟩]),(.string ⟨#[113,117,97,114,116,101,114,108,121]⟩,.agg #[.string ⟨#[42,45,48,49,44,48,52,44,48,55,44,49,48,45,48,49,32,48,48,58,48,48,58,48,48]⟩])] 0=some none:=by rfl
omit hE in
theorem mf8:mfind true (.string ⟨#[121,101,97,114,108,121]⟩) [(.string ⟨#[109,105,110,117,116,101,108,121]⟩,.agg #[.string ⟨#[42,45,42,45,42,32,42,58,42,58,48,48]⟩]),(.string ⟨#[104,111,117,114,108,121]⟩,.agg #[.string ⟨#[42,45,42,45,42,32,42,58,48,48,58,48,48]⟩]),(.string ⟨#[100,97,105,108,121]⟩,.agg #[.string ⟨#[48,48,58,48,48,58,48,48]⟩]),(.string ⟨#[109,105,100,110,105,103,104,116]⟩,.agg #[.string ⟨#[48,48,58,48,48,58,48,48]⟩]),(.string ⟨#[119,101,101,107,108,121]⟩,.agg #[.string ⟨#[77,111,110,32,48,48,58,48,48,58,48,48]⟩]),(.string ⟨#[109,111,110,116,104,108,121]⟩,.agg #[.string ⟨#[42,45,42,45,48,49,32,48,48,58,48,48,58,48,48]⟩]),(.string ⟨#[113,117,97,114,116,101,114,108,121]⟩,.agg #[.string ⟨#[42,45,48,49,44,48,52,44,48,55,44,49,48,45,48,49,32,48,48,58,48,48,58,48,48]⟩]),(.string ⟨#[115,101,109,105,97,110,110,117,97,108,108,121]⟩,.agg #[.string ⟨#[42,45,48,49,44,48,55,45,48,49,32,48,48,58,48,48,58,48,48]⟩])] 0=some none:=by rfl
omit hE in
theorem mf9:mfind true (.string ⟨#[97,110,110,117,97,108,108,121]⟩) [(.string ⟨#[109,105,110,117,116,101,108,121]⟩,.agg #[.string ⟨#[42,45,42,45,42,32,42,58,42,58,48,48]⟩]),(.string ⟨#[104,111,117,114,108,121]⟩,.agg #[.string ⟨#[42,45,42,45,42,32,42,58,48,48,58,48,48]⟩]),(.string ⟨#[100,97,105,108,121]⟩,.agg #[.string ⟨#[48,48,58,48,48,58,48,48]⟩]),(.string ⟨#[109,105,100,110,105,103,104,116]⟩,.agg #[.string ⟨#[48,48,58,48,48,58,48,48]⟩]),(.string ⟨#[119,101,101,107,108,121]⟩,.agg #[.string ⟨#[77,111,110,32,48,48,58,48,48,58,48,48]⟩]),(.string ⟨#[109,111,110,116,104,108,121]⟩,.agg #[.string ⟨#[42,45,42,45,48,49,32,48,48,58,48,48,58,48,48]⟩]),(.string ⟨#[113,117,97,114,116,101,114,108,121]⟩,.agg #[.string ⟨#[42,45,48,49,44,48,52,44,48,55,44,49,48,45,48,49,32,48,48,58,48,48,58,48,48]⟩]),(.string ⟨#[115,101,109,105,97,110,110,117,97,108,108,121]⟩,.agg #[.string ⟨#[42,45,48,49,44,48,55,45,48,49,32,48,48,58,48,48,58,48,48]⟩]),(.string ⟨#[121,101,97,114,108,121]⟩,.agg #[.string ⟨#[42,45,48,49,45,48,49,32,48,48,58,48,48,58,48,48]⟩])] 0=some none:=by rfl
theorem c50 (hL:LowOk E)(s:ByteArray)(hs:s.size<1000000):∃(t:ByteArray) (ok:Bool),evI E lim (.func 50) [.string s] h=some (.tuple #[.string t,.bool ok],h)/\t.size<100:=by
 obtain⟨t,e98⟩:=hL h.length s (h++[.map shortE]) hs
 obtain⟨r,em,hr⟩:=mfind_str t shortE 0 (fun e he=>by
  simp only[shortE,List.mem_cons,List.not_mem_nil,or_false] at he;rcases he with rfl | rfl | rfl | rfl | rfl | rfl | rfl | rfl | rfl | rfl<;>exact⟨_,_,rfl,by decide⟩)
 simp only[shortE] at e98 em;rcases hr with rfl | ⟨j,v,rfl,hv⟩
 ·refine⟨⟨#[]⟩,false,?_,by decide⟩;rw[hE.fn T50]; simp +contextual only[push_cast,ac50,mf0,mf1,mf2,mf3,mf4,mf5,mf6,mf7,mf8,mf9,e98,em,mapOf,zeroVal,simprocAttr]
 ·refine⟨v,true,?_,hv⟩;rw[hE.fn T50]; simp +contextual only[push_cast,ac50,mf0,mf1,mf2,mf3,mf4,mf5,mf6,mf7,mf8,mf9,e98,em,mapOf,zeroVal,simprocAttr]
end
end Go.Ab
