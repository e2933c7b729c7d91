/- TimerKnown: its row, the bounded one, holds with its card. No condition. -/
import Derived.Shelf.Abstract
import Derived.Lib.AtoiErrMem
import Derived.WalkKit
import Derived.Tactics2
import Derived.Test.YthbopkpamlbjoaaGreatDoorRows
import Derived.Lib.LaidU8
import Derived.PinnedBridge
import Derived.LaidMore
import Derived.JoinedOf
import Derived.JoinedCond
import Derived.KernelRfl
import Derived.Deep.DeepWitnessRowRef
import Derived.SevenTiedAt
import Derived.Lib.BitFns
import Derived.Lib.IndexBytes
import Derived.Lib.ParseIntB
import Derived.Lib.TrimU
import Derived.Test.YthbopkpamlbjoaaGreatDoorK08
import Derived.Test.YthbopkpamlbjoaaGreatDoorK09
set_option linter.unusedSimpArgs false
set_option linter.unusedVariables false
set_option linter.unusedSectionVars false
set_option maxHeartbeats 4000000
namespace Go.Ab
section
open Go.RowKit
open Go.Proofs (Tryz.prog Tryz.bits_Len Tryz.stringslite_Index Tryz.strings_Count_one Tryz.utf8_decodeRuneInStringSlow Tryz.strconv_ParseInt_10_at64_ok Tryz.strconv_ParseInt_10_at64_syntax Tryz.strconv_ParseInt_10_at64_range Tryz.strconv_Atoi_ok Tryz.strconv_Atoi_syntax Tryz.strconv_Atoi_range)
set_option maxRecDepth 100000
structure StartOk (W:World):Prop where
 max:∃m,W.cell? ⟨0,0,none⟩=some (.int .i64 m)
 tabs:Lib.Utf8Tabs 1 2 W
 dom:4<W.heap.size
 es:∃ev,W.cell? ⟨3,0,none⟩=some ev/\(ev=.nilIface\/∃te pe,ev=.iface te pe)
 er:∃ev,W.cell? ⟨4,0,none⟩=some ev/\(ev=.nilIface\/∃te pe,ev=.iface te pe)
section
variable [S:Start]
theorem gl_cell {w:World}(G:Gl (fun _=>none) w){c o:Nat}(hc:c<S.w.heap.size):w.cell? ⟨c,o,none⟩=S.w.cell? ⟨c,o,none⟩:=by
 simp[World.cell?,G.2.1 c hc]
theorem enters_bits:Go.Proofs.Enters Tryz.prog 167:=Go.Proofs.enters_of Go.Proofs.Tryz.func167 (by kernel_rfl) rfl
theorem fn_bits {lim:Nat}{n:Int}{h:Hp}(h0:0<=n)(h1:n<=18446744073709551615):FnOk Tryz.prog lim 167 [.int .u64 n] h (.int .i64 (Lib.bitLen n.toNat)) h :=
 fn_flat (fun m=>.int _ _) (fun args' w e _=>by
  obtain rfl:args'=#[.int .u64 n]:=by
   obtain⟨l⟩:=args';exact congrArg _ e.symm
  exact⟨enters_bits _,(Tryz.bits_Len n w h0 h1).mono fun e' w' ⟨h2,h3⟩=>⟨h2,by rw[h3]; exact Below.refl _ _⟩⟩) (fun x hx=>.inl ⟨_,_,List.mem_singleton.1 hx⟩)
theorem enters_index:Go.Proofs.Enters Tryz.prog 162:=Go.Proofs.enters_of Go.Proofs.Tryz.func162 (by kernel_rfl) rfl
theorem enters_dec:Go.Proofs.Enters Tryz.prog 266:=Go.Proofs.enters_of Go.Proofs.Tryz.func266 (by kernel_rfl) rfl
theorem fn_index (K:StartOk S.w){lim:Nat}{s p:ByteArray}{h:Hp}(hs:s.size<4294967281):FnOk Tryz.prog lim 162 [.string s,.string p] h (.int .i64 (Lib.index s.data.toList p.data.toList)) h :=
 fn_flat (fun m=>.int _ _) (fun args' w e G=>by
  obtain rfl:args'=#[.string s,.string p]:=by
   obtain⟨l⟩:=args';exact congrArg _ e.symm
  obtain⟨m,hm⟩:=K.max;have hd:=K.dom
  exact⟨enters_index _,(Tryz.stringslite_Index s p m w hs (by rw[gl_cell G (by omega)]; exact hm)).mono fun e' w' ⟨h2,h3⟩=>⟨h2,by rw[h3]; exact Below.refl _ _⟩⟩) (fun x hx=>by
   simp only[List.mem_cons,List.not_mem_nil,or_false] at hx;rcases hx with rfl | rfl<;>exact .inr ⟨_,rfl⟩)
theorem fn_dec (K:StartOk S.w){lim:Nat}{s:ByteArray}{h:Hp}:FnOk Tryz.prog lim 266 [.string s] h (.tuple #[.int .i32 (Lib.decodeGo s).1,.int .i64 (Lib.decodeGo s).2]) h :=
 fn_flat (fun m=>LR.tup (.cons (.int _ _) (.cons (.int _ _) .nil))) (fun args' w e G=>by
  obtain rfl:args'=#[.string s]:=by
   obtain⟨l⟩:=args';exact congrArg _ e.symm
  have hd:=K.dom;exact⟨enters_dec _,Tryz.utf8_decodeRuneInStringSlow s w ⟨fun c hc=>by rw[gl_cell G (by omega)]; exact K.tabs.1 c hc,fun i hi=>by rw[gl_cell G (by omega),gl_cell G (by omega)]; exact K.tabs.2 i hi⟩⟩) (fun x hx=>.inr ⟨_,List.mem_singleton.1 hx⟩)
theorem fn_err {lim:Nat}{g:FuncId}{args:List Value}{n:Int}{T:TypeId}{h:Hp}
  (hc:∀(args':Array Value) (w:World),args=args'.toList->Gl (fun _=>none) w->(∀W,(callFunc g args').run Tryz.prog W=.ok (.enter g args') W)/\Calls Tryz.prog g args' w fun e w'=>∃N,e=.returned (.tuple #[.int .i64 n,.iface T (.pointer (some ⟨N,0,none⟩))])/\w.heap.size<=N/\N<w'.heap.size/\Below w.heap.size w w')
  (ha:∀x∈args,(∃k n,x=.int k n)\/∃s,x=.string s):FnOk Tryz.prog lim g args h (.tuple #[.int .i64 n,.iface T (.pointer (some ⟨h.length,0,none⟩))]) (h++[.dead]):=by
 intro m w args' H hl hL;have e:=same_args hL ha;obtain⟨q1,q2⟩:=hc args' w e ⟨H.gl.1,H.gl.2.1,fun b p hb=>by cases hb⟩;refine⟨q1,callsIn_wide.2 (q2.mono fun e' w' ⟨N,he,n1,n2,B⟩=>?_)⟩;obtain⟨s1,s2⟩:=below_new (lim:=lim) (k:=.dead) (p:=⟨N,0,0,false⟩) H hl B n1 n2 trivial (fun hf=>by cases hf);refine⟨_,ins m h.length ⟨N,0,0,false⟩,he,LR.tup (.cons (.int _ _) (.cons (.iface T ?_) .nil)),s1,s2⟩;exact VR.ptr (p:=⟨N,0,0,false⟩) (ins_self _ _ _)
theorem enters_parse:Go.Proofs.Enters Tryz.prog 274:=Go.Proofs.enters_of Go.Proofs.Tryz.func274 (by kernel_rfl) rfl
theorem fn_parse_ok {lim:Nat}{s:ByteArray}{h:Hp}(hs:s.size<=281474976710656){v:Int}(hv:Lib.parseIntB 64 s.data.toList=.ok v):FnOk Tryz.prog lim 274 [.string s,.int .i64 10,.int .i64 64] h (.tuple #[.int .i64 v,.nilIface]) h :=
 fn_flat (fun m=>LR.tup (.cons (.int _ _) (.cons .inil .nil))) (fun args' w e G=>by
  obtain rfl:args'=#[.string s,.int .i64 10,.int .i64 64]:=by
   obtain⟨l⟩:=args';exact congrArg _ e.symm
  refine⟨enters_parse _,(Tryz.strconv_ParseInt_10_at64_ok s (by omega) v hv w).mono fun e' w' ⟨h2,h3⟩=>⟨h2,?_⟩⟩;rcases h3 with rfl | ⟨t,rfl⟩
  ·exact Below.refl _ _
  ·exact Lib.bytesWorld_below _ _ _) (fun x hx=>by
   simp only[List.mem_cons,List.not_mem_nil,or_false] at hx;rcases hx with rfl | rfl | rfl
   ·exact .inr ⟨_,rfl⟩
   ·exact .inl ⟨_,_,rfl⟩
   ·exact .inl ⟨_,_,rfl⟩)
theorem fn_parse_syntax (K:StartOk S.w){lim:Nat}{s:ByteArray}{h:Hp}(hs:s.size<=281474976710656)(hv:Lib.parseIntB 64 s.data.toList=Lib.parseIntB 64 []):FnOk Tryz.prog lim 274 [.string s,.int .i64 10,.int .i64 64] h (.tuple #[.int .i64 (0),.iface 407 (.pointer (some ⟨h.length,0,none⟩))]) (h++[.dead]) :=
 fn_err (fun args' w e G=>by
  obtain rfl:args'=#[.string s,.int .i64 10,.int .i64 64]:=by
   obtain⟨l⟩:=args';exact congrArg _ e.symm
  obtain⟨ev,h1,h2⟩:=K.es;have hd:=K.dom
  exact⟨enters_parse _,(Tryz.strconv_ParseInt_10_at64_syntax s hs hv ev w (by rw[gl_cell G (by omega)]; exact h1) h2).mono fun e' w' ⟨N,h3,h4,h5,h6⟩=>⟨N,h3,h4,(Array.getElem?_eq_some_iff.1 h5).1,h6⟩⟩) (fun x hx=>by
   simp only[List.mem_cons,List.not_mem_nil,or_false] at hx;rcases hx with rfl | rfl | rfl
   ·exact .inr ⟨_,rfl⟩
   ·exact .inl ⟨_,_,rfl⟩
   ·exact .inl ⟨_,_,rfl⟩)
theorem fn_parse_range (K:StartOk S.w){lim:Nat}{s:ByteArray}{h:Hp}(hs:s.size<=281474976710656)(hv:Lib.parseIntB 64 s.data.toList=.range):FnOk Tryz.prog lim 274 [.string s,.int .i64 10,.int .i64 64] h (.tuple #[.int .i64 (Lib.intSat 64 s.data.toList),.iface 407 (.pointer (some ⟨h.length,0,none⟩))]) (h++[.dead]) :=
 fn_err (fun args' w e G=>by
  obtain rfl:args'=#[.string s,.int .i64 10,.int .i64 64]:=by
   obtain⟨l⟩:=args';exact congrArg _ e.symm
  obtain⟨ev,h1,h2⟩:=K.er;have hd:=K.dom
  exact⟨enters_parse _,(Tryz.strconv_ParseInt_10_at64_range s hs hv ev w (by rw[gl_cell G (by omega)]; exact h1) h2).mono fun e' w' ⟨N,h3,h4,h5,h6⟩=>⟨N,h3,h4,(Array.getElem?_eq_some_iff.1 h5).1,h6⟩⟩) (fun x hx=>by
   simp only[List.mem_cons,List.not_mem_nil,or_false] at hx;rcases hx with rfl | rfl | rfl
   ·exact .inr ⟨_,rfl⟩
   ·exact .inl ⟨_,_,rfl⟩
   ·exact .inl ⟨_,_,rfl⟩)
theorem enters_count:Go.Proofs.Enters Tryz.prog 164:=Go.Proofs.enters_of Go.Proofs.Tryz.func164 (by kernel_rfl) rfl
theorem fn_count {lim:Nat}{s:ByteArray}{c:UInt8}{h:Hp}:FnOk Tryz.prog lim 164 [.string s,.string ⟨#[c]⟩] h (.int .i64 (Lib.countByte s.data.toList c)) h :=
 fn_flat (fun m=>.int _ _) (fun args' w e G=>by
  obtain rfl:args'=#[.string s,.string ⟨#[c]⟩]:=by
   obtain⟨l⟩:=args';exact congrArg _ e.symm
  exact⟨enters_count _,(Tryz.strings_Count_one s c w).mono fun e' w' ⟨h2,h3⟩=>⟨h2,by rw[h3]; exact Below.refl _ _⟩⟩) (fun x hx=>by
   simp only[List.mem_cons,List.not_mem_nil,or_false] at hx;rcases hx with rfl | rfl<;>exact .inr ⟨_,rfl⟩)
end
end
section
open Go.RowKit Go.Proofs
set_option maxRecDepth 100000
def lowF (c:Int):Int:=if c>=65/\c<=90 then c+97-65 else c
theorem low_fn (x:Nat)(hx:x<=1114111)(W:World):Calls Tryz.prog 158 #[.int .i32 x] W fun e w'=>e=.returned (.int .i32 (lowF x))/\∃q,w'=W.drewN q:=by
 go_enter Tryz.func158, Tryz.ntmps158
 go_wp2
 all_goals go_ret
 ·refine⟨?_,0,rfl⟩;unfold lowF;rw[if_pos ⟨by omega,by omega⟩];rfl
 ·refine⟨?_,0,rfl⟩;unfold lowF;rw[if_neg (by omega)];rfl
 ·refine⟨?_,0,rfl⟩;unfold lowF;rw[if_neg (by omega)];rfl
theorem low_map (W:World):MapAtRunes Tryz.prog 158 #[] lowF W:=fun W' x hx _=>low_fn x hx W'
theorem low_rg (x:Nat)(hx:x<=1114111):0<=lowF x/\lowF x<=2147483647:=by
 unfold lowF;split<;>omega
theorem enters_low1:Enters Tryz.prog 158:=enters_of Tryz.func158 (by kernel_rfl) rfl
theorem enters_low:Enters Tryz.prog 98:=enters_of Tryz.func98 (by kernel_rfl) rfl
theorem low_calls (s:ByteArray)(W:World)(hs:s.size<35184372088832)(hT:Lib.Utf8Tabs 1 2 W):Calls Tryz.prog 98 #[.string s] W fun e w'=>e=.returned (.string ⟨(Lib.mapD lowF s.data.toList).toArray⟩)/\Below W.heap.size W w':=by
 go_enter Tryz.func98, Tryz.ntmps98
 go_wp2_with (go_at_call 157; refine(Tryz.strings_Map_runes 158 #[] enters_low1 lowF s _ hs (low_map _) low_rg hT).mono ?_; rintro e w' ⟨rfl,hb⟩)
 all_goals go_ret
 all_goals exact⟨rfl,hb⟩
section
variable [S:Start]
theorem fn_low (K:StartOk S.w){lim:Nat}{s:ByteArray}{h:Hp}(hs:s.size<35184372088832):FnOk Tryz.prog lim 98 [.string s] h (.string ⟨(Lib.mapD lowF s.data.toList).toArray⟩) h :=
 fn_flat (fun m=>.str _) (fun args' w e G=>by
  obtain rfl:args'=#[.string s]:=by
   obtain⟨l⟩:=args';exact congrArg _ e.symm
  have hd:=K.dom;exact⟨enters_low _,low_calls s w hs ⟨fun c hc=>by rw[gl_cell G (by omega)]; exact K.tabs.1 c hc,fun i hi=>by rw[gl_cell G (by omega),gl_cell G (by omega)]; exact K.tabs.2 i hi⟩⟩) (fun x hx=>.inr ⟨_,List.mem_singleton.1 hx⟩)
end
end
section
open Go.Proofs Go.Proofs.YthbopkpamlbjoaaGreatDoor Go.RowKit
set_option maxRecDepth 100000
theorem u8x:U8Extra Tryz.prog Tryz.lays260_ren:=⟨by kernel_rfl,by kernel_rfl,by kernel_rfl,by kernel_rfl,by kernel_rfl,by kernel_rfl,by kernel_rfl⟩
theorem trod_ifc {H:Type}{enc:TypeId×Value->H}{P:Program}{w:World}{base:Nat}{spare:Nat->Bool}{held:Bool}{fuel:Nat}{t:TypeId}{cs:List Value}{x:DataW H×List MemPlace}{ms:Array (String×TypeId)}(ht:P.underlying t=some (.interface ms))(h:DataW.trod enc P w base spare held fuel t cs=some x):∃v,cs=[v]/\(v=.nilIface\/∃te pe,v=.iface te pe):=by
 cases fuel with
 | zero=>simp[DataW.trod] at h
 | succ n =>
  unfold DataW.trod at h;rw[ht] at h;split at h<;>simp_all
theorem ifc_cell {P:Program}{W:World}{n:String}{d:DataW Unit}{g:Nat}{t:TypeId}{ms:Array (String×TypeId)}(h:Lib.VarReads P W n d)(hg:P.globalNamed n=some g)(ht:(P.globals[g]?).map (·.type)=some t)(hu:P.underlying t=some (.interface ms)):∃ev,W.cell? ⟨g,0,none⟩=some ev/\(ev=.nilIface\/∃te pe,ev=.iface te pe):=by
 obtain⟨g',t',cs,fuel,p,h1,h2,h3,h4⟩:=h;obtain rfl:=Option.some.inj (hg.symm.trans h1);obtain rfl:=Option.some.inj (ht.symm.trans h2);obtain⟨v,h5,h6⟩:=trod_ifc hu h4;refine⟨v,?_,h6⟩;have:=World.var?_cell h1 h3 0;rw[Array.eq_one_of_toList h5] at this;simpa using this
theorem dom_of {W:World}{g:Nat}(h:∃ev,W.cell? ⟨g,0,none⟩=some ev/\(ev=.nilIface\/∃te pe,ev=.iface te pe)):g<W.heap.size:=by
 obtain⟨ev,h,-⟩:=h;unfold World.cell? at h;cases hq:W.heap[g]? with
 | none=>simp[hq] at h
 | some o=>exact(Array.getElem?_eq_some_iff.1 hq).1
theorem start_ok {W:World}(hL:laidMetH Tryz.prog Rows.timerNeverUptoRow.laid W)(hS:W.ShapedOpen Tryz.prog):StartOk W:=by
 rw[MakeChecks.laidMetH_plain _ _ _ (by kernel_rfl)] at hL;obtain⟨ps,hv,hsz⟩:=hL;have rd:=Lib.LaidVars_reads hv;have r1:=rd "unicode/utf8.first" Rows.laid_unicode_utf8_first (by simp[Rows.timerNeverUptoRow]);have r2:=rd "unicode/utf8.acceptRanges" Rows.laid_unicode_utf8_acceptRanges (by simp[Rows.timerNeverUptoRow]);have r3:=rd "strconv.ErrSyntax" Rows.laid_strconv_ErrSyntax (by simp[Rows.timerNeverUptoRow]);have r4:=rd "strconv.ErrRange" Rows.laid_strconv_ErrRange (by simp[Rows.timerNeverUptoRow]);rw[show Rows.laid_unicode_utf8_first=Go.Pinned.utf8First from rfl,Pinned.utf8First_eq] at r1;rw[show Rows.laid_unicode_utf8_acceptRanges=Lib.acceptData by kernel_rfl] at r2;have tabs:Lib.Utf8Tabs 1 2 W:=utf8Tabs_of_reads Tryz.lays260 u8x r1 r2;obtain⟨ev,c,cc⟩:=ifc_cell (g:=3) (t:=335) r3 (by kernel_rfl) (by kernel_rfl) Tryz.underlying335;exact⟨cell_of_shapedOpen_int (zero:=#[.int .i64 0]) (t:=3) hS (of_decide_eq_true (by kernel_rfl)) (by kernel_rfl) rfl (by kernel_rfl) (by kernel_rfl) Tryz.underlying3,tabs,dom_of (ifc_cell (g:=4) (t:=335) r4 (by kernel_rfl) (by kernel_rfl) Tryz.underlying335),⟨ev,c,cc⟩,ifc_cell (g:=4) (t:=335) r4 (by kernel_rfl) (by kernel_rfl) Tryz.underlying335⟩
end
section
theorem joined_of {P:Program}{f:FuncId}{fn:Func}{s:ChangeSpec}{c:OpenClaim}
  (h0:(c.wf (OpenSpec.ofChange s))=true)
  (h1:(laidOutB P)=true)
  (h2:(mapsRowed P)=true)
  (h3:(fn.params.all (P.readableRec ·))=true)
  (h4:(namedTie P c.named s.vars)=true)
  (h5:((c.stops==[]))=true)
  (h6:((P.stops==[]))=true)
  (h7:((c.knobs==[]))=true)
  (h8:((P.stopKnobs==[]))=true)
  (h9:((c.inPlace==P.inPlace f))=true)
  (h10:((c.unfollowed==P.unfollowed f))=true)
  (h11:((c.recurses==P.recurses f))=true)
  (h12:((c.named==P.varsNamed f))=true)
  (h13:((c.maps==(fn.params.toList++s.plain.varTypes P).any (P.mapsRec ·)))=true)
  (h14:((c.ifaces==(fn.params.toList++s.plain.varTypes P).any (P.ifacesRec ·)))=true)
  (h15:((c.mapsOut==P.mapsAmong fn.resultTypes.toList))=true)
  (h16:((c.loops==(fn.params.toList++s.plain.varTypes P).any (P.loopsFrom ·)))=true)
  (h17:((c.wideKeys==(fn.params.toList++s.plain.varTypes P++fn.resultTypes.toList).any (P.wideKeysFrom ·)))=true)
  (h18:(s.vars.all (P.varReadable ·))=true)
  (h19:(fn.resultTypes.all (fun t=>P.readableRec t&&decide (t<P.types.size)))=true)
  (h20:((c.ifacesOut==fn.resultTypes.toList.any (P.ifacesRec ·)))=true)
  (h21:((c.loopsOut==fn.resultTypes.toList.any (P.loopsFrom ·)))=true)
  (h22:((c.plainKeys==P.plainKeys))=true)
  (h23:(c.shortTexts.isNone)=true)
  (h24:(P.stopsHeard)=true)
  (h25:(P.mayEnter)=true)
  (h26:((c.lifted==P.liftsFinal))=true)
  (h27:((P.make==some c.make))=true)
  (h28:((c.kinds==(if c.domain.isEmpty then[] else fn.params.toList.map fun t=>match P.underlying t with | some (.int k)=>some k | _=>none)))=true)
  (h29:((c.pinned==c.pinnedBy))=true)
  (h30:((c.veiled==(fn.params.toList++s.plain.varTypes P++fn.resultTypes.toList).any (P.veiledRec ·)))=true)
  (h31:(c.veiledFits P fn.params.toList (fn.params.toList++s.plain.varTypes P++fn.resultTypes.toList))=true) :
  joinedFacts P f fn s c=true:=by
 unfold joinedFacts;simp only[Bool.and_eq_true];exact⟨⟨⟨⟨⟨⟨⟨⟨⟨⟨⟨⟨⟨⟨⟨⟨⟨⟨⟨⟨⟨⟨⟨⟨⟨⟨⟨⟨⟨⟨⟨h0,h1⟩,h2⟩,h3⟩,h4⟩,h5⟩,h6⟩,h7⟩,h8⟩,h9⟩,h10⟩,h11⟩,h12⟩,h13⟩,h14⟩,h15⟩,h16⟩,h17⟩,h18⟩,h19⟩,h20⟩,h21⟩,h22⟩,h23⟩,h24⟩,h25⟩,h26⟩,h27⟩,h28⟩,h29⟩,h30⟩,h31⟩
end
section
open Go.Proofs.YthbopkpamlbjoaaGreatDoor
open Go.Proofs (Tryz.prog Tryz.f8)
theorem fact8_0:(Rows.timerKnownUptoRow.wf (OpenSpec.ofChange Rows.timerKnownSpec))=true:=by kernel_rfl
theorem fact8_1:(laidOutB Tryz.prog)=true:=by kernel_rfl
theorem fact8_2:(mapsRowed Tryz.prog)=true:=by kernel_rfl
theorem fact8_3:(Tryz.f8.params.all (Tryz.prog.readableRec ·))=true:=by kernel_rfl
theorem fact8_4:(namedTie Tryz.prog Rows.timerKnownUptoRow.named Rows.timerKnownSpec.vars)=true:=by kernel_rfl
theorem fact8_5:((Rows.timerKnownUptoRow.stops==[]))=true:=by kernel_rfl
theorem fact8_6:((Tryz.prog.stops==[]))=true:=by kernel_rfl
theorem fact8_7:((Rows.timerKnownUptoRow.knobs==[]))=true:=by kernel_rfl
theorem fact8_8:((Tryz.prog.stopKnobs==[]))=true:=by kernel_rfl
theorem fact8_9:((Rows.timerKnownUptoRow.inPlace==Tryz.prog.inPlace 8))=true:=by kernel_rfl
theorem fact8_10:((Rows.timerKnownUptoRow.unfollowed==Tryz.prog.unfollowed 8))=true:=by kernel_rfl
theorem fact8_11:((Rows.timerKnownUptoRow.recurses==Tryz.prog.recurses 8))=true:=by kernel_rfl
theorem fact8_12:((Rows.timerKnownUptoRow.named==Tryz.prog.varsNamed 8))=true:=by kernel_rfl
theorem fact8_13:((Rows.timerKnownUptoRow.maps==(Tryz.f8.params.toList++Rows.timerKnownSpec.plain.varTypes Tryz.prog).any (Tryz.prog.mapsRec ·)))=true:=by kernel_rfl
theorem fact8_14:((Rows.timerKnownUptoRow.ifaces==(Tryz.f8.params.toList++Rows.timerKnownSpec.plain.varTypes Tryz.prog).any (Tryz.prog.ifacesRec ·)))=true:=by kernel_rfl
theorem fact8_15:((Rows.timerKnownUptoRow.mapsOut==Tryz.prog.mapsAmong Tryz.f8.resultTypes.toList))=true:=by kernel_rfl
theorem fact8_16:((Rows.timerKnownUptoRow.loops==(Tryz.f8.params.toList++Rows.timerKnownSpec.plain.varTypes Tryz.prog).any (Tryz.prog.loopsFrom ·)))=true:=by kernel_rfl
theorem fact8_17:((Rows.timerKnownUptoRow.wideKeys==(Tryz.f8.params.toList++Rows.timerKnownSpec.plain.varTypes Tryz.prog++Tryz.f8.resultTypes.toList).any (Tryz.prog.wideKeysFrom ·)))=true:=by kernel_rfl
theorem fact8_18:(Rows.timerKnownSpec.vars.all (Tryz.prog.varReadable ·))=true:=by kernel_rfl
theorem fact8_19:(Tryz.f8.resultTypes.all (fun t=>Tryz.prog.readableRec t&&decide (t<Tryz.prog.types.size)))=true:=by kernel_rfl
theorem fact8_20:((Rows.timerKnownUptoRow.ifacesOut==Tryz.f8.resultTypes.toList.any (Tryz.prog.ifacesRec ·)))=true:=by kernel_rfl
theorem fact8_21:((Rows.timerKnownUptoRow.loopsOut==Tryz.f8.resultTypes.toList.any (Tryz.prog.loopsFrom ·)))=true:=by kernel_rfl
theorem fact8_22:((Rows.timerKnownUptoRow.plainKeys==Tryz.prog.plainKeys))=true:=by kernel_rfl
theorem fact8_23:(Rows.timerKnownUptoRow.shortTexts.isNone)=true:=by kernel_rfl
theorem fact8_24:(Tryz.prog.stopsHeard)=true:=by kernel_rfl
theorem fact8_25:(Tryz.prog.mayEnter)=true:=by kernel_rfl
theorem fact8_26:((Rows.timerKnownUptoRow.lifted==Tryz.prog.liftsFinal))=true:=by kernel_rfl
theorem fact8_27:((Tryz.prog.make==some Rows.timerKnownUptoRow.make))=true:=by kernel_rfl
theorem fact8_28:((Rows.timerKnownUptoRow.kinds==(if Rows.timerKnownUptoRow.domain.isEmpty then[] else Tryz.f8.params.toList.map fun t=>match Tryz.prog.underlying t with | some (.int k)=>some k | _=>none)))=true:=by kernel_rfl
theorem fact8_29:((Rows.timerKnownUptoRow.pinned==Rows.timerKnownUptoRow.pinnedBy))=true:=by kernel_rfl
theorem fact8_30:((Rows.timerKnownUptoRow.veiled==(Tryz.f8.params.toList++Rows.timerKnownSpec.plain.varTypes Tryz.prog++Tryz.f8.resultTypes.toList).any (Tryz.prog.veiledRec ·)))=true:=by kernel_rfl
theorem fact8_31:(Rows.timerKnownUptoRow.veiledFits Tryz.prog Tryz.f8.params.toList (Tryz.f8.params.toList++Rows.timerKnownSpec.plain.varTypes Tryz.prog++Tryz.f8.resultTypes.toList))=true:=by kernel_rfl
end
section
open Go.Proofs.YthbopkpamlbjoaaGreatDoor
open Go.Joins Go.ChangeShapes Go.WideShapes Go.ChangeAt Go.RowKit Go.Deep
open Go.Proofs (Tryz.prog Tryz.checked Tryz.f8 Tryz.func8 Tryz.params8 Tryz.underlying2 Tryz.underlying4)
set_option maxRecDepth 100000
noncomputable def worldK (os:Os):World:=World.laidAll Tryz.prog os Rows.timerKnownUptoRow.laid
noncomputable def argsK:Array Value:=#[]
theorem laidK_met (os:Os):laidMet Tryz.prog Rows.timerKnownUptoRow.laid ((worldK os).forCall (fun _ _=>0) ⟨#[],argsK,[]⟩).memory :=
 laidMet_laidAll _ (by kernel_rfl) (by kernel_rfl)
theorem known_reads (os:Os){H:Type}(enc:TypeId×Value->H):∃places,DataW.whole enc Tryz.prog ((worldK os).forCall (fun _ _=>0) ⟨#[],argsK,[]⟩).memory Tryz.f8.params.toList Rows.timerKnownSpec.vars false argsK.toList 8 =
  some ([],[],places) :=
 ⟨[],by kernel_rfl⟩
theorem known_upto (hEnv:EnvGood Rows.timerKnownUptoRow.laid)(os:Os)(started:os.Started)(H:Type)(enc:TypeId×Value->H)(F:Stop.Interp) :
  ReturnsInHanded {} Tryz.checked os 8 .any ((Rows.OpenSpec.upto Rows.timerKnownSpec).preRow enc Tryz.prog Tryz.f8 Rows.timerKnownUptoRow.domain false Rows.timerKnownUptoRow.laid) (((Rows.OpenSpec.upto Rows.timerKnownSpec).at F).post enc Tryz.prog Tryz.f8 false true false false):=by
 obtain⟨places,hx⟩:=known_reads os enc
 refine returnsInHanded_of_row (C:=Tryz.checked) (s:=Rows.OpenSpec.upto Rows.timerKnownSpec) own started (by kernel_rfl) Tryz.func8
  (witness_row_atRef (enc:=enc) (C:=Tryz.checked) false (worldK os) argsK (World.laidAll_os _ _ _) (by kernel_rfl) (by kernel_rfl) (by kernel_rfl)
   (OpenSpec.preRow_of_cond 8 hx (by kernel_rfl) (fun k hk=>by cases hk; kernel_rfl) (by kernel_rfl) (laidK_met os))) ?_
 intro W base args ds gs before hval hW _ hcond _ hL hS _;exact known_contract hEnv H enc W base args ds gs before hval hW hL hS (of_decide_eq_true (hcond _ rfl))
theorem known_said (hEnv:EnvGood Rows.timerKnownUptoRow.laid):Rows.TimerKnownUptoSaid :=
 OpenClaim.holds_of_cond 8 Tryz.f8 rfl rfl rfl rfl rfl rfl rfl ⟨rfl,rfl,rfl,rfl,rfl⟩ rfl rfl rfl rfl rfl (by kernel_rfl) Tryz.func8 (joined_of fact8_0 fact8_1 fact8_2 fact8_3 fact8_4 fact8_5 fact8_6 fact8_7 fact8_8 fact8_9 fact8_10 fact8_11 fact8_12 fact8_13 fact8_14 fact8_15 fact8_16 fact8_17 fact8_18 fact8_19 fact8_20 fact8_21 fact8_22 fact8_23 fact8_24 fact8_25 fact8_26 fact8_27 fact8_28 fact8_29 fact8_30 fact8_31)
  (of_decide_eq_true (by kernel_rfl)) (by unfold Func.isWrapper; first | (rw[if_pos (by decide +kernel)]; kernel_rfl) | (rw[if_neg (by decide +kernel)]; exact⟨rfl,rfl⟩))
  (fun os started H enc _ F=>by rw[OpenClaim.pre_eq_preRow]; exact known_upto hEnv os started H enc F)
theorem known_plain (f:FuncId)(fn:Func)(hf:Tryz.pinned.checked.prog.funcNamed "clepsydra/clepsydralaw29.TimerKnown" = some f)(hfn:Tryz.pinned.checked.prog.funcs[f]?=some fn) :
  true=Tryz.pinned.checked.prog.looks []/\∀(j:Nat) t,fn.params[j]?=some t->Tryz.pinned.checked.prog.wantsStandIn t=false:=by
 obtain rfl:f=8:=Option.some.inj ((show Tryz.prog.funcNamed "clepsydra/clepsydralaw29.TimerKnown" = some 8 by kernel_rfl).symm.trans hf) |>.symm
 obtain rfl:fn=Tryz.f8:=(Option.some.inj (Tryz.func8.symm.trans hfn)).symm;refine⟨by kernel_rfl,fun j t ht=>?_⟩;rw[Tryz.params8] at ht;have hm:t∈([]:List TypeId):=by simpa using Array.mem_of_getElem? ht
 have hall:(([]:List TypeId).all fun u=>!Tryz.prog.wantsStandIn u)=true:=by kernel_rfl
 exact(show Tryz.prog.wantsStandIn t=false by simpa using List.all_eq_true.1 hall t hm)
theorem known_card (hEnv:EnvGood Rows.timerKnownUptoRow.laid):Rows.TimerKnownUptoCardSaid :=
 Claim7.holds_tied_plain_at .later [] _ _ _ _ (known_said hEnv) (fun _ h=>by cases h) (by kernel_rfl) (fun _ h=>by cases h) timerKnownUpto_row_tie rfl ⟨rfl,rfl⟩ (by kernel_rfl) rfl known_plain (by kernel_rfl)
end
section
theorem bl_zero:∀f,Lib.bitLenAux f 0=0
 | 0=>rfl
 | f+1=>by simp[Lib.bitLenAux]
theorem bl_pow:∀(f x:Nat),1<=x->2 ^ Lib.bitLenAux f x<=2*x
 | 0,x,h=>by simp[Lib.bitLenAux]; omega
 | f+1,x,h=>by
  unfold Lib.bitLenAux;rw[if_neg (by omega),Nat.pow_add];rcases Nat.eq_zero_or_pos (x/2) with h0 | h0
  ·rw[h0,bl_zero]; omega
  ·have:=bl_pow f (x/2) h0;generalize 2 ^ Lib.bitLenAux f (x/2)=q at *;omega
theorem bl_le {x:Nat}(h:x<1000000):Lib.bitLen x<=62:=by
 rcases Nat.eq_zero_or_pos x with rfl | h0
 ·exact Nat.le_trans (Nat.le_of_eq (bl_zero 64)) (Nat.zero_le _)
 ·have h1:=bl_pow 64 x h0;rcases Nat.lt_or_ge (Lib.bitLen x) 63 with h2 | h2
  ·omega
  ·have h3:2 ^ 63<=2 ^ Lib.bitLen x:=Nat.pow_le_pow_right (by omega) h2;have h4:2 ^ Lib.bitLen x<=2*x:=h1;omega
theorem index_fits:∀(s p:List UInt8),0<=Lib.index s p->Lib.index s p+p.length<=s.length
 | [],p,h=>by
  unfold Lib.index at h ⊢;split
  ·rename_i he;rw[List.isEmpty_iff.1 he]; simp
  ·rename_i he;rw[if_neg he] at h;omega
 | b::l,p,h=>by
  have ih:=index_fits l p;have hge:=Lib.index_ge l p;unfold Lib.index at h ⊢;split
  ·rename_i hp;have:=(List.isPrefixOf_iff_prefix.1 hp).length_le;simp at this ⊢;omega
  ·rename_i hp;rw[if_neg hp] at h;split
   ·rename_i hq;rw[if_pos hq] at h;omega
   ·rename_i hq;have:Lib.index l p≠-1:=by simpa using hq
    have:=ih (by omega);simp;omega
theorem index_byte (c:UInt8):∀(l:List UInt8),Lib.index l [c]=match l.findIdx? (·==c) with
  | some i=>(i:Int)
  | none=>-1
 | []=>by simp[Lib.index]
 | b::l=>by
  have ih:=index_byte c l;unfold Lib.index;rw[List.findIdx?_cons,ih]
  by_cases hb:b=c
  ·subst hb;simp[List.isPrefixOf]
  ·have h1:(c==b)=false:=by simpa using fun h=>hb h.symm
   have h2:(b==c)=false:=by simpa using hb
   simp only[List.isPrefixOf,h1,h2,Bool.false_and,Bool.false_eq_true,if_false];cases hq:l.findIdx? (·==c) with
   | none=>simp
   | some i =>
    have:((i:Int)==-1)=false:=by simp
    simp[this]
theorem decN_le (n b0 b1 b2 b3:Nat)(h:1<=n):(Lib.decodeN n b0 b1 b2 b3).2<=n:=by
 unfold Lib.decodeN
 repeat' split
 all_goals (simp only; omega)
theorem dec_fits (s:ByteArray):(Lib.decodeGoB s).2<=s.size/\(0<s.size->1<=(Lib.decodeGoB s).2):=by
 unfold Lib.decodeGoB;split
 ·rename_i h;exact⟨Nat.zero_le _,fun h'=>by omega⟩
 ·rename_i h;refine⟨?_,fun _=>Lib.width_pos _ _⟩;rw[Lib.decode_at];exact decN_le _ _ _ _ _ (by omega)
theorem pu_small (M:Nat)(hM:9999999<=M):∀(l:List UInt8) (acc k:Nat),acc<10 ^ k->k+l.length<=6->(∃u,Lib.parseUintM M acc l=.ok u/\u<=999999)\/Lib.parseUintM M acc l=Lib.parseUintB 64 []
 | [],acc,k,h,hk=>by
  have:10 ^ k<=10 ^ 6:=Nat.pow_le_pow_right (by omega) (by simpa using hk);exact .inl ⟨acc,rfl,by omega⟩
 | c::r,acc,k,h,hk=>by
  have h6:10 ^ (k+1)<=10 ^ 6:=Nat.pow_le_pow_right (by omega) (by simp only[List.length_cons] at hk; omega);have hp:10 ^ (k+1)=10 ^ k*10:=Nat.pow_succ ..;unfold Lib.parseUintM;split
  ·rename_i hc;rw[if_neg (by omega),if_neg (by omega)];exact pu_small M hM r _ (k+1) (by omega) (by simp at hk; omega)
  ·exact .inr rfl
theorem parse_small {l:List UInt8}(h:l.length<=6):(∃v,Lib.parseIntB 64 l=.ok v/\-999999<=v/\v<=999999)\/Lib.parseIntB 64 l=Lib.parseIntB 64 []:=by
 unfold Lib.parseIntB;split
 ·exact .inr rfl
 ·rename_i c r
  have hk:∀l':List UInt8,l'.length<=6->(∃u,Lib.parseUintB 64 l'=.ok u/\u<=999999)\/Lib.parseUintB 64 l'=Lib.parseUintB 64 []:=fun l' hl=>by
   unfold Lib.parseUintB;split
   ·exact .inr rfl
   ·exact pu_small _ (by decide) l' 0 0 (by decide) (by omega)
  have hl:(if c.toNat=43\/c.toNat=45 then r else c::r).length<=6:=by
   simp only[List.length_cons] at h;split
   ·omega
   ·simp only[List.length_cons]; omega
  rcases hk _ hl with⟨u,e,hu⟩ | e
  ·rw[e];simp only[];rw[if_neg (by omega),if_neg (by omega)];refine .inl ⟨_,rfl,?_⟩;split<;>omega
  ·rw[e]; exact .inr rfl
end
section
open Go.RowKit
open Go.Proofs (Tryz.prog)
set_option maxRecDepth 100000
noncomputable def oLen (args:List Value)(h:Hp):Option (Value×Hp):=match args with
 | [.int .u64 n]=>if 0<=n/\n<=18446744073709551615 then some (.int .i64 (Lib.bitLen n.toNat),h) else none
 | _=>none
noncomputable def oIdx (args:List Value)(h:Hp):Option (Value×Hp):=match args with
 | [.string s,.string p]=>if s.size<4294967281 then some (.int .i64 (Lib.index s.data.toList p.data.toList),h) else none
 | _=>none
noncomputable def oDec (args:List Value)(h:Hp):Option (Value×Hp):=match args with
 | [.string s]=>some (.tuple #[.int .i32 (Lib.decodeGo s).1,.int .i64 (Lib.decodeGo s).2],h)
 | _=>none
noncomputable def oLow (args:List Value)(h:Hp):Option (Value×Hp):=match args with
 | [.string s]=>if s.size<35184372088832 then some (.string ⟨(Lib.mapD lowF s.data.toList).toArray⟩,h) else none
 | _=>none
noncomputable def oCnt (args:List Value)(h:Hp):Option (Value×Hp):=match args with
 | [.string s,.string p]=>match p.data.toList with
  | [c]=>some (.int .i64 (Lib.countByte s.data.toList c),h)
  | _=>none
 | _=>none
def errV (h:Hp):Value:=.iface 407 (.pointer (some ⟨h.length,0,none⟩))
def numO (r:Lib.NumEnd Int)(sat:Int)(h:Hp):Option (Value×Hp):=match r with
 | .ok v=>some (.tuple #[.int .i64 v,.nilIface],h)
 | .range=>some (.tuple #[.int .i64 sat,errV h],h++[.dead])
 | _=>some (.tuple #[.int .i64 0,errV h],h++[.dead])
noncomputable def oParse (args:List Value)(h:Hp):Option (Value×Hp):=match args with
 | [.string s,.int .i64 b,.int .i64 w]=>if s.size<1000000/\b=10/\w=64 then numO (Lib.parseIntB 64 s.data.toList) (Lib.intSat 64 s.data.toList) h else none
 | _=>none
noncomputable def orcO (g:Nat)(args:List Value)(h:Hp):Option (Value×Hp) :=
 if g=167 then oLen args h else if g=162 then oIdx args h else if g=266 then oDec args h else if g=98 then oLow args h
 else if g=164 then oCnt args h else if g=274 then oParse args h else none
noncomputable def envO:Env:=⟨envT,fun _ _ g args h=>orcO g args h⟩
theorem envO_mono:EnvMono envO:=⟨fun _ _ _ _ _ _ _ _ h=>h⟩
theorem envO_t:EnvT envO:=⟨envO_mono,rfl⟩
theorem evI_orc {g:Nat}(hg:envT g=none){lim:Nat}{args:List Value}{h:Hp}{r:Value×Hp}(hr:orcO g args h=some r):evI envO lim (.func g) args h=some r:=(evI_iff envO_mono).2 ⟨1,by
 unfold evF;simp only[show envO.T g=none from hg];exact hr⟩
section
variable {args:List Value}{h h1:Hp}{v:Value}
theorem oLen_inv (hr:oLen args h=some (v,h1)):∃n,args=[.int .u64 n]/\0<=n/\n<=18446744073709551615/\v=.int .i64 (Lib.bitLen n.toNat)/\h1=h:=by
 unfold oLen at hr;split at hr
 ·split at hr
  ·rename_i n hn; cases hr; exact⟨n,rfl,hn.1,hn.2,rfl,rfl⟩
  ·cases hr
 ·cases hr
theorem oIdx_inv (hr:oIdx args h=some (v,h1)):∃s p,args=[.string s,.string p]/\s.size<4294967281/\v=.int .i64 (Lib.index s.data.toList p.data.toList)/\h1=h:=by
 unfold oIdx at hr;split at hr
 ·split at hr
  ·rename_i s p hn; cases hr; exact⟨s,p,rfl,hn,rfl,rfl⟩
  ·cases hr
 ·cases hr
theorem oDec_inv (hr:oDec args h=some (v,h1)):∃s,args=[.string s]/\v=.tuple #[.int .i32 (Lib.decodeGo s).1,.int .i64 (Lib.decodeGo s).2]/\h1=h:=by
 unfold oDec at hr;split at hr
 ·rename_i s; cases hr; exact⟨s,rfl,rfl,rfl⟩
 ·cases hr
theorem oLow_inv (hr:oLow args h=some (v,h1)):∃s,args=[.string s]/\s.size<35184372088832/\v=.string ⟨(Lib.mapD lowF s.data.toList).toArray⟩/\h1=h:=by
 unfold oLow at hr;split at hr
 ·split at hr
  ·rename_i s hn; cases hr; exact⟨s,rfl,hn,rfl,rfl⟩
  ·cases hr
 ·cases hr
theorem oCnt_inv (hr:oCnt args h=some (v,h1)):∃s c,args=[.string s,.string ⟨#[c]⟩]/\v=.int .i64 (Lib.countByte s.data.toList c)/\h1=h:=by
 unfold oCnt at hr;split at hr
 ·split at hr
  ·rename_i s p l c hc;cases hr;obtain⟨⟨q⟩⟩:=p;simp only at hc;subst hc;exact⟨s,c,rfl,rfl,rfl⟩
  ·cases hr
 ·cases hr
theorem oParse_inv (hr:oParse args h=some (v,h1)):∃s,args=[.string s,.int .i64 10,.int .i64 64]/\s.size<1000000/\numO (Lib.parseIntB 64 s.data.toList) (Lib.intSat 64 s.data.toList) h=some (v,h1):=by
 unfold oParse at hr;split at hr
 ·split at hr
  ·rename_i s b w hn;obtain⟨h1,rfl,rfl⟩:=hn;exact⟨s,rfl,h1,hr⟩
  ·cases hr
 ·cases hr
end
section
variable {lim:Nat}{m:Q.Mq}{args args':List Value}{h h' h1:Hp}{v:Value}
def QAns (lim:Nat)(m:Q.Mq)(h h':Hp)(v:Value)(h1:Hp)(r:Option (Value×Hp)):Prop:=∃v' h1' m1,r=some (v',h1')/\Q.VR m1 v v'/\Q.HR m1 h1 h1'/\Q.Step lim m h h' m1 h1 h1'
theorem QAns.same (H:Q.HR m h h'){r:Option (Value×Hp)}(hr:r=some (v,h'))(hv:Q.VR m v v):QAns lim m h h' v h r:=⟨v,h',m,hr,hv,H,Q.Step.refl _ _ _ _⟩
theorem num_q (H:Q.HR m h h'){r:Lib.NumEnd Int}{sat:Int}(hr:numO r sat h=some (v,h1)):QAns lim m h h' v h1 (numO r sat h'):=by
 obtain⟨a1,a2,a3⟩:=Q.alloc (lim:=lim) H (k:=.dead) (k':=.dead) .dead;cases r with
 | ok n =>
  cases hr;exact .same H rfl (Q.LR.tup (.cons (.int _ _) (.cons .inil .nil)))
 | _ =>
  cases hr;exact⟨_,_,_,rfl,Q.LR.tup (.cons (.int _ _) (.cons (.iface _ (.ptr a3)) .nil)),a1,a2⟩
theorem orc_q {g:Nat}(hA:Q.LR m args args')(H:Q.HR m h h')(hr:orcO g args h=some (v,h1)):QAns lim m h h' v h1 (orcO g args' h'):=by
 unfold orcO at hr ⊢
 by_cases e1:g=167
 ·rw[if_pos e1] at hr ⊢;obtain⟨n,rfl,n1,n2,rfl,rfl⟩:=oLen_inv hr;obtain⟨y,l,rfl,hy,hl⟩:=hA.cases_cons;obtain rfl:=hl.cases_nil;obtain rfl:=hy.int';exact .same H (by simp[oLen,n1,n2]) (.int _ _)
 rw[if_neg e1] at hr ⊢
 by_cases e2:g=162
 ·rw[if_pos e2] at hr ⊢;obtain⟨s,p,rfl,n1,rfl,rfl⟩:=oIdx_inv hr;obtain⟨y,l,rfl,hy,hl⟩:=hA.cases_cons;obtain⟨y2,l,rfl,hy2,hl⟩:=hl.cases_cons;obtain rfl:=hl.cases_nil;obtain rfl:=hy.str';obtain rfl:=hy2.str';exact .same H (by simp[oIdx,n1]) (.int _ _)
 rw[if_neg e2] at hr ⊢
 by_cases e3:g=266
 ·rw[if_pos e3] at hr ⊢;obtain⟨s,rfl,rfl,rfl⟩:=oDec_inv hr;obtain⟨y,l,rfl,hy,hl⟩:=hA.cases_cons;obtain rfl:=hl.cases_nil;obtain rfl:=hy.str';exact .same H (by simp[oDec]) (Q.LR.tup (.cons (.int _ _) (.cons (.int _ _) .nil)))
 rw[if_neg e3] at hr ⊢
 by_cases e4:g=98
 ·rw[if_pos e4] at hr ⊢;obtain⟨s,rfl,n1,rfl,rfl⟩:=oLow_inv hr;obtain⟨y,l,rfl,hy,hl⟩:=hA.cases_cons;obtain rfl:=hl.cases_nil;obtain rfl:=hy.str';exact .same H (by simp[oLow,n1]) (.str _)
 rw[if_neg e4] at hr ⊢
 by_cases e5:g=164
 ·rw[if_pos e5] at hr ⊢;obtain⟨s,c,rfl,rfl,rfl⟩:=oCnt_inv hr;obtain⟨y,l,rfl,hy,hl⟩:=hA.cases_cons;obtain⟨y2,l,rfl,hy2,hl⟩:=hl.cases_cons;obtain rfl:=hl.cases_nil;obtain rfl:=hy.str';obtain rfl:=hy2.str';exact .same H (by simp[oCnt]) (.int _ _)
 rw[if_neg e5] at hr ⊢
 by_cases e7:g=274
 ·rw[if_pos e7] at hr ⊢;obtain⟨s,rfl,n1,hn⟩:=oParse_inv hr;obtain⟨y,l,rfl,hy,hl⟩:=hA.cases_cons;obtain⟨y2,l,rfl,hy2,hl⟩:=hl.cases_cons;obtain⟨y3,l,rfl,hy3,hl⟩:=hl.cases_cons;obtain rfl:=hl.cases_nil;obtain rfl:=hy.str';obtain rfl:=hy2.int';obtain rfl:=hy3.int';rw[show oParse [.string s,.int .i64 10,.int .i64 64] h'=numO (Lib.parseIntB 64 s.data.toList) (Lib.intSat 64 s.data.toList) h' by simp[oParse,n1]];exact num_q H hn
 rw[if_neg e7] at hr;cases hr
end
theorem envO_q:Q.EnvQ envO:=⟨envT_okC,fun _ _ lim _ g args args' h h' m v h1 _ hA H _ hr=>orc_q (lim:=lim) hA H hr⟩
section
variable [S:Start](K:StartOk S.w)
include K
theorem orc_fn {lim g:Nat}{args:List Value}{h h1:Hp}{v:Value}(hr:orcO g args h=some (v,h1)):FnOk Tryz.prog lim g args h v h1:=by
 unfold orcO at hr;split at hr
 ·rename_i e; subst e;obtain⟨n,rfl,n1,n2,rfl,rfl⟩:=oLen_inv hr;exact fn_bits n1 n2
 split at hr
 ·rename_i e; subst e;obtain⟨s,p,rfl,n1,rfl,rfl⟩:=oIdx_inv hr;exact fn_index K n1
 split at hr
 ·rename_i e; subst e;obtain⟨s,rfl,rfl,rfl⟩:=oDec_inv hr;exact fn_dec K
 split at hr
 ·rename_i e; subst e;obtain⟨s,rfl,n1,rfl,rfl⟩:=oLow_inv hr;exact fn_low K n1
 split at hr
 ·rename_i e; subst e;obtain⟨s,c,rfl,rfl,rfl⟩:=oCnt_inv hr;exact fn_count
 split at hr
 ·rename_i e; subst e;obtain⟨s,rfl,n1,hn⟩:=oParse_inv hr;cases ha:Lib.parseIntB 64 s.data.toList with
  | ok n=>rw[ha] at hn; cases hn; exact fn_parse_ok (by omega) ha
  | range=>rw[ha] at hn; cases hn; exact fn_parse_range K (by omega) ha
  | _=>rw[ha] at hn; cases hn; exact fn_parse_syntax K (by omega) ha
 ·cases hr
theorem envO_ok:EnvOk Tryz.prog envO:=⟨rfl,by kernel_rfl,envT_ok,fun _ _ _ _ _ _ _ _ _ hr=>orc_fn K hr⟩
end
theorem envO_len:LenOk envO:=fun lim h n n0 n1=>⟨Lib.bitLen n.toNat,evI_orc (by kernel_rfl) (by simp[orcO,oLen,n0,show n<=18446744073709551615 by omega]),bl_le (by omega),fun h1=>by
 have:=bl_pow 64 n.toNat (by omega);show((2 ^ Lib.bitLenAux 64 n.toNat:Nat):Int)<=_;omega⟩
theorem envO_idx:IdxOk envO:=fun lim s p h n1 n2=>⟨Lib.index s.data.toList p.data.toList,evI_orc (by kernel_rfl) (by simp[orcO,oIdx,show s.size<4294967281 by omega]),Lib.index_ge _ _,fun h0=>by
 have:=index_fits _ _ h0;simpa using this,fun c hc=>by subst hc; exact index_byte c _⟩
theorem envO_cnt:CntOk envO:=fun lim s c h n1=>evI_orc (by kernel_rfl) (by simp[orcO,oCnt,Lib.countByte,cntB])
theorem envO_dec:DecOk envO:=fun lim s h n1=>⟨_,_,evI_orc (by kernel_rfl) (by simp[orcO,oDec]; exact⟨rfl,rfl⟩),by omega,by exact Int.ofNat_le.2 (dec_fits s).1,fun h0=>by exact Int.ofNat_le.2 ((dec_fits s).2 h0)⟩
theorem envO_low:LowOk envO:=fun lim s h n1=>⟨_,evI_orc (by kernel_rfl) (by simp[orcO,oLow,show s.size<35184372088832 by omega]; rfl)⟩
theorem envO_parse:ParseOk envO:=fun lim s h n1=>by
 have e:orcO 274 [.string s,.int .i64 10,.int .i64 64] h=numO (Lib.parseIntB 64 s.data.toList) (Lib.intSat 64 s.data.toList) h:=by simp[orcO,oParse,show s.size<1000000 by omega]
 rcases parse_small (l:=s.data.toList) (by simpa using n1) with⟨n,ha,h1,h2⟩ | ha
 ·rw[ha] at e; exact .of (evI_orc (by kernel_rfl) e) ⟨n,_,[],rfl,by simp,h1,h2⟩
 ·rw[ha] at e; exact .of (evI_orc (by kernel_rfl) e) ⟨0,_,[.dead],rfl,rfl,by omega,by omega⟩
theorem envO_conds:Conds envO:=⟨envO_t,envO_q,envO_idx,envO_cnt,envO_dec,envO_parse,envO_low,envO_len⟩
end
end Go.Ab
namespace Go.Proofs.YthbopkpamlbjoaaGreatDoor
open Go.Ab
theorem env_goodK:EnvGood Rows.timerKnownUptoRow.laid:=fun W hL hS=>⟨envO,envO_conds,@envO_ok ⟨W⟩ (start_ok hL hS)⟩
theorem known_holds:Rows.TimerKnownUptoCardSaid:=known_card env_goodK
end Go.Proofs.YthbopkpamlbjoaaGreatDoor
