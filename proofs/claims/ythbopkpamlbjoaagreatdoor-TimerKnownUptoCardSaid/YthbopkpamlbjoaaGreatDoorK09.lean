/- What Go code of this program comes to on a small machine that its translation simulates (a part of the proof of a law of its timers). No condition. -/
import Derived.Shelf.Small.Bits
import Derived.Shelf.LaysM
import Derived.Shelf.LaysC
import Derived.Shelf.Strconv.AtoiAll
import Derived.Shelf.Strconv.ParseIntPublic10
import Derived.Shelf.Strconv.ErrVarParseInt
import Derived.Shelf.Strings.Search2
import Derived.Shelf.Strings.Count
import Derived.Shelf.Strings.Shaped
import Derived.Shelf.Unicode.Decode
import Derived.Shelf.Unicode.DecodeSlow
import Derived.Shelf.Strings.MapAny
import Derived.KernelRfl
import Derived.Test.YthbopkpamlbjoaaGreatDoorProg
set_option linter.unusedSimpArgs false
set_option linter.unusedVariables false
set_option linter.unusedSectionVars false
set_option maxHeartbeats 4000000
namespace Go.Proofs
open Go.Shelf
def Tryz.lays125_ren:Go.Shelf.Ren:=⟨fun | 125=>167 | 128=>239 | 129=>240 | n=>n,fun | 46=>300 | 3=>3 | 51=>73 | 53=>159 | 4=>4 | 5=>5 | 9=>9 | n=>n,fun | n=>n⟩
theorem Tryz.lays125:Go.Proofs.Lays.n125 Tryz.prog Tryz.lays125_ren:={ 
 mixed:=by kernel_rfl
 f125:=Tryz.func167.trans (congrArg some (by kernel_rfl))
 f128:=Tryz.func239.trans (congrArg some (by kernel_rfl))
 f129:=Tryz.func240.trans (congrArg some (by kernel_rfl))
 t3:=Tryz.underlying3
 a3:=Tryz.isAgg3
 z3:=Tryz.sizeOf3
 v3:=Tryz.zeroValue3
 t4:=Tryz.underlying4
 a4:=Tryz.isAgg4
 z4:=Tryz.sizeOf4
 v4:=Tryz.zeroValue4
 t5:=Tryz.underlying5
 a5:=Tryz.isAgg5
 z5:=Tryz.sizeOf5
 v5:=Tryz.zeroValue5
 t9:=Tryz.underlying9
 a9:=Tryz.isAgg9
 z9:=Tryz.sizeOf9
 v9:=Tryz.zeroValue9
 t46:=Tryz.underlying300
 a46:=Tryz.isAgg300
 z46:=Tryz.sizeOf300
 v46:=Tryz.zeroValue300
 t51:=Tryz.underlying73
 a51:=Tryz.isAgg73
 z51:=Tryz.sizeOf73
 v51:=Tryz.zeroValue73
 t53:=Tryz.underlying159
 a53:=Tryz.isAgg159
 z53:=Tryz.sizeOf159
 v53:=Tryz.zeroValue159 }
theorem Tryz.bits_Len (x:Int)(w:World)(h0:0<=x)(h1:x<=18446744073709551615) :
  Calls Tryz.prog 167 #[.int .u64 x] w fun e w'=>e=.returned (.int .i64 (Lib.bitLen x.toNat))/\w'=w:=Any.bits_Len Tryz.lays125 x w h0 h1
def Tryz.laysC172_ren:Go.Shelf.Ren:=⟨fun | 172=>260 | 244=>303 | 245=>304 | 247=>310 | 279=>320 | 280=>321 | 281=>322 | 282=>323 | 287=>326 | 316=>329 | 171=>331 | 205=>330 | 321=>333 | 322=>334 | 243=>335 | 246=>337 | 283=>338 | 284=>339 | 285=>340 | 286=>341 | 129=>240 | 317=>342 | 318=>343 | 319=>344 | 320=>345 | 337=>346 | 338=>347 | n=>n,fun | 9=>9 | 3=>3 | 75=>335 | 76=>336 | 4=>4 | 5=>5 | 167=>406 | 37=>158 | 0=>0 | 85=>370 | 2=>2 | 168=>407 | 53=>159 | 175=>411 | 46=>300 | 210=>416 | 127=>366 | 145=>422 | 143=>420 | 21=>21 | 171=>424 | 173=>426 | 212=>429 | 51=>73 | 20=>20 | 213=>430 | 232=>431 | 233=>432 | 80=>256 | n=>n,fun | 15=>3 | 16=>4 | 17=>5 | 18=>6 | 19=>7 | n=>n⟩
theorem Tryz.laysC172:Go.Proofs.LaysC.n172 Tryz.prog Tryz.laysC172_ren:={ Tryz.lays125 with
 mixed:=by kernel_rfl
 f129:=Tryz.func240.trans (congrArg some (by kernel_rfl))
 f171:=Tryz.func331.trans (congrArg some (by kernel_rfl))
 f172:=Tryz.func260.trans (congrArg some (by kernel_rfl))
 f205:=Tryz.func330.trans (congrArg some (by kernel_rfl))
 f243:=Tryz.func335.trans (congrArg some (by kernel_rfl))
 f244:=Tryz.func303.trans (congrArg some (by kernel_rfl))
 f245:=Tryz.func304.trans (congrArg some (by kernel_rfl))
 f246:=Tryz.func337.trans (congrArg some (by kernel_rfl))
 f247:=Tryz.func310.trans (congrArg some (by kernel_rfl))
 f279:=Tryz.func320.trans (congrArg some (by kernel_rfl))
 f280:=Tryz.func321.trans (congrArg some (by kernel_rfl))
 f281:=Tryz.func322.trans (congrArg some (by kernel_rfl))
 f282:=Tryz.func323.trans (congrArg some (by kernel_rfl))
 f283:=Tryz.func338.trans (congrArg some (by kernel_rfl))
 f284:=Tryz.func339.trans (congrArg some (by kernel_rfl))
 f285:=Tryz.func340.trans (congrArg some (by kernel_rfl))
 f286:=Tryz.func341.trans (congrArg some (by kernel_rfl))
 f287:=Tryz.func326.trans (congrArg some (by kernel_rfl))
 f316:=Tryz.func329.trans (congrArg some (by kernel_rfl))
 f317:=Tryz.func342.trans (congrArg some (by kernel_rfl))
 f318:=Tryz.func343.trans (congrArg some (by kernel_rfl))
 f319:=Tryz.func344.trans (congrArg some (by kernel_rfl))
 f320:=Tryz.func345.trans (congrArg some (by kernel_rfl))
 f321:=Tryz.func333.trans (congrArg some (by kernel_rfl))
 f322:=Tryz.func334.trans (congrArg some (by kernel_rfl))
 f337:=Tryz.func346.trans (congrArg some (by kernel_rfl))
 f338:=Tryz.func347.trans (congrArg some (by kernel_rfl))
 t0:=Tryz.underlying0
 a0:=Tryz.isAgg0
 z0:=Tryz.sizeOf0
 v0:=Tryz.zeroValue0
 t2:=Tryz.underlying2
 a2:=Tryz.isAgg2
 z2:=Tryz.sizeOf2
 v2:=Tryz.zeroValue2
 t20:=Tryz.underlying20
 a20:=Tryz.isAgg20
 z20:=Tryz.sizeOf20
 v20:=Tryz.zeroValue20
 t21:=Tryz.underlying21
 a21:=Tryz.isAgg21
 z21:=Tryz.sizeOf21
 v21:=Tryz.zeroValue21
 t37:=Tryz.underlying158
 a37:=Tryz.isAgg158
 z37:=Tryz.sizeOf158
 v37:=Tryz.zeroValue158
 t75:=Tryz.underlying335
 a75:=Tryz.isAgg335
 z75:=Tryz.sizeOf335
 v75:=Tryz.zeroValue335
 t76:=Tryz.underlying336
 a76:=Tryz.isAgg336
 z76:=Tryz.sizeOf336
 v76:=Tryz.zeroValue336
 t85:=Tryz.underlying370
 a85:=Tryz.isAgg370
 z85:=Tryz.sizeOf370
 v85:=Tryz.zeroValue370
 t127:=Tryz.underlying366
 a127:=Tryz.isAgg366
 z127:=Tryz.sizeOf366
 v127:=Tryz.zeroValue366
 t143:=Tryz.underlying420
 a143:=Tryz.isAgg420
 z143:=Tryz.sizeOf420
 v143:=Tryz.zeroValue420
 t145:=Tryz.underlying422
 a145:=Tryz.isAgg422
 z145:=Tryz.sizeOf422
 v145:=Tryz.zeroValue422
 t167:=Tryz.underlying406
 a167:=Tryz.isAgg406
 z167:=Tryz.sizeOf406
 v167:=Tryz.zeroValue406
 t168:=Tryz.underlying407
 a168:=Tryz.isAgg407
 z168:=Tryz.sizeOf407
 v168:=Tryz.zeroValue407
 t171:=Tryz.underlying424
 a171:=Tryz.isAgg424
 z171:=Tryz.sizeOf424
 v171:=Tryz.zeroValue424
 t173:=Tryz.underlying426
 a173:=Tryz.isAgg426
 z173:=Tryz.sizeOf426
 v173:=Tryz.zeroValue426
 t175:=Tryz.underlying411
 a175:=Tryz.isAgg411
 z175:=Tryz.sizeOf411
 v175:=Tryz.zeroValue411
 t210:=Tryz.underlying416
 a210:=Tryz.isAgg416
 z210:=Tryz.sizeOf416
 v210:=Tryz.zeroValue416
 t212:=Tryz.underlying429
 a212:=Tryz.isAgg429
 z212:=Tryz.sizeOf429
 v212:=Tryz.zeroValue429
 t213:=Tryz.underlying430
 a213:=Tryz.isAgg430
 z213:=Tryz.sizeOf430
 t232:=Tryz.underlying431
 a232:=Tryz.isAgg431
 z232:=Tryz.sizeOf431
 v232:=Tryz.zeroValue431
 t233:=Tryz.underlying432
 a233:=Tryz.isAgg432
 z233:=Tryz.sizeOf432
 v233:=Tryz.zeroValue432
 g15:=by kernel_rfl
 g16:=by kernel_rfl
 g17:=by kernel_rfl
 g18:=by kernel_rfl
 g19:=by kernel_rfl
 t80:=Tryz.underlying256
 a80:=Tryz.isAgg256
 z80:=Tryz.sizeOf256
 v80:=Tryz.zeroValue256
 i0:=by kernel_rfl
 i2:=by kernel_rfl
 i3:=by kernel_rfl
 i4:=by kernel_rfl
 i5:=by kernel_rfl
 i9:=by kernel_rfl
 i20:=by kernel_rfl
 i21:=by kernel_rfl
 i37:=by kernel_rfl
 i46:=by kernel_rfl
 i51:=by kernel_rfl
 i53:=by kernel_rfl
 i75:=by kernel_rfl
 i76:=by kernel_rfl
 i80:=by kernel_rfl
 i85:=by kernel_rfl
 i127:=by kernel_rfl
 i143:=by kernel_rfl
 i145:=by kernel_rfl
 i167:=by kernel_rfl
 i168:=by kernel_rfl
 i171:=by kernel_rfl
 i173:=by kernel_rfl
 i175:=by kernel_rfl
 i210:=by kernel_rfl
 i212:=by kernel_rfl
 i232:=by kernel_rfl
 i233:=by kernel_rfl
 m15:=by kernel_rfl
 m16:=by kernel_rfl
 m17:=by kernel_rfl
 m18:=by kernel_rfl
 m19:=by kernel_rfl
 c0:=by kernel_rfl
 c2:=by kernel_rfl
 c3:=by kernel_rfl
 c4:=by kernel_rfl
 c5:=by kernel_rfl
 c9:=by kernel_rfl
 c20:=by kernel_rfl
 c21:=by kernel_rfl
 c37:=by kernel_rfl
 c46:=by kernel_rfl
 c51:=by kernel_rfl
 c53:=by kernel_rfl
 c75:=by kernel_rfl
 c76:=by kernel_rfl
 c80:=by kernel_rfl
 c85:=by kernel_rfl
 c127:=by kernel_rfl
 c143:=by kernel_rfl
 c145:=by kernel_rfl
 c167:=by kernel_rfl
 c168:=by kernel_rfl
 c171:=by kernel_rfl
 c173:=by kernel_rfl
 c175:=by kernel_rfl
 c210:=by kernel_rfl
 c212:=by kernel_rfl
 c213:=by kernel_rfl
 c232:=by kernel_rfl
 c233:=by kernel_rfl }
open Go.RowKit in
theorem Tryz.strconv_Atoi_ok (s:ByteArray) (hmax:s.size<=9223372036854775806) (v:Int) (h:Lib.atoiAll s.data.toList=.ok v) (w:World) :
  Calls Tryz.prog 260 #[.string s] w fun e w'=>e=.returned (.tuple #[.int .i64 v,.nilIface])/\(w'=w\/∃t,w'=Lib.bytesWorld w 5 t):=Any.strconv_Atoi_ok Tryz.laysC172 s hmax v h w
open Go.RowKit in
theorem Tryz.strconv_Atoi_syntax (s:ByteArray) (hlim:s.size<=281474976710656) (h:Lib.atoiAll s.data.toList=Lib.atoiAll []) (ev:Value) (w:World) (hv:w.cell? ⟨3,0,none⟩=some ev) (hev:ev=.nilIface\/∃te pe,ev=.iface te pe) :
  Calls Tryz.prog 260 #[.string s] w fun e w'=>∃N,e=.returned (.tuple #[.int .i64 (0),.iface 407 (.pointer (some ⟨N,0,none⟩))])/\w.heap.size<=N/\w'.heap[N]?=some (.cells #[.string ⟨#[65,116,111,105]⟩,.string s,ev] 416 (0,0))/\Below w.heap.size w w':=Any.strconv_Atoi_syntax Tryz.laysC172 s hlim h ev w hv hev
open Go.RowKit in
theorem Tryz.strconv_Atoi_range (s:ByteArray) (hlim:s.size<=281474976710656) (h:Lib.atoiAll s.data.toList=.range) (ev:Value) (w:World) (hv:w.cell? ⟨4,0,none⟩=some ev) (hev:ev=.nilIface\/∃te pe,ev=.iface te pe) :
  Calls Tryz.prog 260 #[.string s] w fun e w'=>∃N,e=.returned (.tuple #[.int .i64 (Lib.atoiSat s.data.toList),.iface 407 (.pointer (some ⟨N,0,none⟩))])/\w.heap.size<=N/\w'.heap[N]?=some (.cells #[.string ⟨#[65,116,111,105]⟩,.string s,ev] 416 (0,0))/\Below w.heap.size w w':=Any.strconv_Atoi_range Tryz.laysC172 s hlim h ev w hv hev
def Tryz.laysC174_ren:Go.Shelf.Ren:=⟨fun | 174=>274 | 247=>310 | 245=>304 | 287=>326 | 279=>320 | 280=>321 | 281=>322 | 282=>323 | 321=>333 | 322=>334 | 316=>329 | 171=>331 | 205=>330 | 243=>335 | 246=>337 | 283=>338 | 284=>339 | 285=>340 | 286=>341 | 129=>240 | 317=>342 | 318=>343 | 319=>344 | 320=>345 | 337=>346 | 338=>347 | n=>n,fun | 9=>9 | 3=>3 | 2=>2 | 75=>335 | 85=>370 | 4=>4 | 167=>406 | 5=>5 | 53=>159 | 175=>411 | 46=>300 | 168=>407 | 37=>158 | 0=>0 | 210=>416 | 21=>21 | 127=>366 | 145=>422 | 143=>420 | 171=>424 | 173=>426 | 212=>429 | 51=>73 | 20=>20 | 213=>430 | 232=>431 | 233=>432 | 80=>256 | n=>n,fun | 15=>3 | 16=>4 | 17=>5 | 18=>6 | 19=>7 | n=>n⟩
theorem Tryz.laysC174:Go.Proofs.LaysC.n174 Tryz.prog Tryz.laysC174_ren:={ Tryz.laysC172 with
 mixed:=by kernel_rfl
 f129:=Tryz.func240.trans (congrArg some (by kernel_rfl))
 f171:=Tryz.func331.trans (congrArg some (by kernel_rfl))
 f174:=Tryz.func274.trans (congrArg some (by kernel_rfl))
 f205:=Tryz.func330.trans (congrArg some (by kernel_rfl))
 f243:=Tryz.func335.trans (congrArg some (by kernel_rfl))
 f245:=Tryz.func304.trans (congrArg some (by kernel_rfl))
 f246:=Tryz.func337.trans (congrArg some (by kernel_rfl))
 f247:=Tryz.func310.trans (congrArg some (by kernel_rfl))
 f279:=Tryz.func320.trans (congrArg some (by kernel_rfl))
 f280:=Tryz.func321.trans (congrArg some (by kernel_rfl))
 f281:=Tryz.func322.trans (congrArg some (by kernel_rfl))
 f282:=Tryz.func323.trans (congrArg some (by kernel_rfl))
 f283:=Tryz.func338.trans (congrArg some (by kernel_rfl))
 f284:=Tryz.func339.trans (congrArg some (by kernel_rfl))
 f285:=Tryz.func340.trans (congrArg some (by kernel_rfl))
 f286:=Tryz.func341.trans (congrArg some (by kernel_rfl))
 f287:=Tryz.func326.trans (congrArg some (by kernel_rfl))
 f316:=Tryz.func329.trans (congrArg some (by kernel_rfl))
 f317:=Tryz.func342.trans (congrArg some (by kernel_rfl))
 f318:=Tryz.func343.trans (congrArg some (by kernel_rfl))
 f319:=Tryz.func344.trans (congrArg some (by kernel_rfl))
 f320:=Tryz.func345.trans (congrArg some (by kernel_rfl))
 f321:=Tryz.func333.trans (congrArg some (by kernel_rfl))
 f322:=Tryz.func334.trans (congrArg some (by kernel_rfl))
 f337:=Tryz.func346.trans (congrArg some (by kernel_rfl))
 f338:=Tryz.func347.trans (congrArg some (by kernel_rfl))
 g15:=by kernel_rfl
 g16:=by kernel_rfl
 g17:=by kernel_rfl
 g18:=by kernel_rfl
 g19:=by kernel_rfl
 i0:=by kernel_rfl
 i2:=by kernel_rfl
 i3:=by kernel_rfl
 i4:=by kernel_rfl
 i5:=by kernel_rfl
 i9:=by kernel_rfl
 i20:=by kernel_rfl
 i21:=by kernel_rfl
 i37:=by kernel_rfl
 i46:=by kernel_rfl
 i51:=by kernel_rfl
 i53:=by kernel_rfl
 i75:=by kernel_rfl
 i80:=by kernel_rfl
 i85:=by kernel_rfl
 i127:=by kernel_rfl
 i143:=by kernel_rfl
 i145:=by kernel_rfl
 i167:=by kernel_rfl
 i168:=by kernel_rfl
 i171:=by kernel_rfl
 i173:=by kernel_rfl
 i175:=by kernel_rfl
 i210:=by kernel_rfl
 i212:=by kernel_rfl
 i232:=by kernel_rfl
 i233:=by kernel_rfl
 m15:=by kernel_rfl
 m16:=by kernel_rfl
 m17:=by kernel_rfl
 m18:=by kernel_rfl
 m19:=by kernel_rfl
 c0:=by kernel_rfl
 c2:=by kernel_rfl
 c3:=by kernel_rfl
 c4:=by kernel_rfl
 c5:=by kernel_rfl
 c9:=by kernel_rfl
 c20:=by kernel_rfl
 c21:=by kernel_rfl
 c37:=by kernel_rfl
 c46:=by kernel_rfl
 c51:=by kernel_rfl
 c53:=by kernel_rfl
 c75:=by kernel_rfl
 c80:=by kernel_rfl
 c85:=by kernel_rfl
 c127:=by kernel_rfl
 c143:=by kernel_rfl
 c145:=by kernel_rfl
 c167:=by kernel_rfl
 c168:=by kernel_rfl
 c171:=by kernel_rfl
 c173:=by kernel_rfl
 c175:=by kernel_rfl
 c210:=by kernel_rfl
 c212:=by kernel_rfl
 c213:=by kernel_rfl
 c232:=by kernel_rfl
 c233:=by kernel_rfl }
open Go.RowKit in
theorem Tryz.strconv_ParseInt_10_at64_ok (s:ByteArray) (hmax:s.size<=9223372036854775806) (v:Int) (h:Lib.parseIntB 64 s.data.toList=.ok v) (w:World) :
  Calls Tryz.prog 274 #[.string s,.int .i64 10,.int .i64 64] w fun e w'=>e=.returned (.tuple #[.int .i64 v,.nilIface])/\(w'=w\/∃t,w'=Lib.bytesWorld w 5 t):=Any.strconv_ParseInt_10_at64_ok Tryz.laysC174 s hmax v h w
open Go.RowKit in
theorem Tryz.strconv_ParseInt_10_at64_syntax (s:ByteArray) (hlim:s.size<=281474976710656) (h:Lib.parseIntB 64 s.data.toList=Lib.parseIntB 64 []) (ev:Value) (w:World) (hv:w.cell? ⟨3,0,none⟩=some ev) (hev:ev=.nilIface\/∃te pe,ev=.iface te pe) :
  Calls Tryz.prog 274 #[.string s,.int .i64 10,.int .i64 64] w fun e w'=>∃N,e=.returned (.tuple #[.int .i64 (0),.iface 407 (.pointer (some ⟨N,0,none⟩))])/\w.heap.size<=N/\w'.heap[N]?=some (.cells #[.string ⟨#[80,97,114,115,101,73,110,116]⟩,.string s,ev] 416 (0,0))/\Below w.heap.size w w':=Any.strconv_ParseInt_10_at64_syntax Tryz.laysC174 s hlim h ev w hv hev
open Go.RowKit in
theorem Tryz.strconv_ParseInt_10_at64_range (s:ByteArray) (hlim:s.size<=281474976710656) (h:Lib.parseIntB 64 s.data.toList=.range) (ev:Value) (w:World) (hv:w.cell? ⟨4,0,none⟩=some ev) (hev:ev=.nilIface\/∃te pe,ev=.iface te pe) :
  Calls Tryz.prog 274 #[.string s,.int .i64 10,.int .i64 64] w fun e w'=>∃N,e=.returned (.tuple #[.int .i64 (Lib.intSat 64 s.data.toList),.iface 407 (.pointer (some ⟨N,0,none⟩))])/\w.heap.size<=N/\w'.heap[N]?=some (.cells #[.string ⟨#[80,97,114,115,101,73,110,116]⟩,.string s,ev] 416 (0,0))/\Below w.heap.size w w':=Any.strconv_ParseInt_10_at64_range Tryz.laysC174 s hlim h ev w hv hev
def Tryz.lays219_ren:Go.Shelf.Ren:=⟨fun | 219=>162 | 217=>224 | 225=>225 | 224=>226 | 267=>227 | 266=>270 | 314=>271 | n=>n,fun | 9=>9 | 3=>3 | 4=>4 | 5=>5 | 46=>300 | 146=>367 | 51=>73 | n=>n,fun | 1=>0 | n=>n⟩
theorem Tryz.lays219:Go.Proofs.Lays.n219 Tryz.prog Tryz.lays219_ren:={ Tryz.lays125 with
 mixed:=by kernel_rfl
 f217:=Tryz.func224.trans (congrArg some (by kernel_rfl))
 f219:=Tryz.func162.trans (congrArg some (by kernel_rfl))
 f224:=Tryz.func226.trans (congrArg some (by kernel_rfl))
 f225:=Tryz.func225.trans (congrArg some (by kernel_rfl))
 f266:=Tryz.func270.trans (congrArg some (by kernel_rfl))
 f267:=Tryz.func227.trans (congrArg some (by kernel_rfl))
 f314:=Tryz.func271.trans (congrArg some (by kernel_rfl))
 t146:=Tryz.underlying367
 a146:=Tryz.isAgg367
 z146:=Tryz.sizeOf367
 v146:=Tryz.zeroValue367
 g1:=by kernel_rfl }
open Go.RowKit Go.Lib in
theorem Tryz.stringslite_Index (s sub:ByteArray) (m:Int) (w:World) (hs:s.size<4294967281) (hm:w.cell? ⟨0,0,none⟩=some (.int .i64 m)) :
  Calls Tryz.prog 162 #[.string s,.string sub] w fun e w'=>e=.returned (.int .i64 (Lib.index s.data.toList sub.data.toList))/\w'=w:=Any.stringslite_Index Tryz.lays219 s sub m w hs hm
def Tryz.lays138_ren:Go.Shelf.Ren:=⟨fun | 138=>164 | 195=>228 | 218=>229 | 143=>101 | 219=>162 | 217=>224 | 225=>225 | 224=>226 | 267=>227 | 266=>270 | 314=>271 | n=>n,fun | 9=>9 | 3=>3 | 4=>4 | 5=>5 | 0=>0 | 46=>300 | 146=>367 | 51=>73 | n=>n,fun | 1=>0 | n=>n⟩
theorem Tryz.lays138:Go.Proofs.Lays.n138 Tryz.prog Tryz.lays138_ren:={ Tryz.laysC172,Tryz.lays219 with
 mixed:=by kernel_rfl
 f138:=Tryz.func164.trans (congrArg some (by kernel_rfl))
 f143:=Tryz.func101.trans (congrArg some (by kernel_rfl))
 f195:=Tryz.func228.trans (congrArg some (by kernel_rfl))
 f217:=Tryz.func224.trans (congrArg some (by kernel_rfl))
 f218:=Tryz.func229.trans (congrArg some (by kernel_rfl))
 f219:=Tryz.func162.trans (congrArg some (by kernel_rfl))
 f224:=Tryz.func226.trans (congrArg some (by kernel_rfl))
 f225:=Tryz.func225.trans (congrArg some (by kernel_rfl))
 f266:=Tryz.func270.trans (congrArg some (by kernel_rfl))
 f267:=Tryz.func227.trans (congrArg some (by kernel_rfl))
 f314:=Tryz.func271.trans (congrArg some (by kernel_rfl))
 g1:=by kernel_rfl }
open Go.RowKit Go.Lib in
theorem Tryz.strings_Count_one (s:ByteArray) (c:UInt8) (w:World) :
  Calls Tryz.prog 164 #[.string s,.string ⟨#[c]⟩] w fun e w'=>e=.returned (.int .i64 (Lib.countByte s.data.toList c))/\w'=w:=Any.strings_Count_one Tryz.lays138 s c w
def Tryz.lays260_ren:Go.Shelf.Ren:=⟨fun | 260=>266 | n=>n,fun | 9=>9 | 21=>21 | 3=>3 | 4=>4 | 5=>5 | 119=>391 | 0=>0 | 46=>300 | 139=>394 | 138=>393 | n=>n,fun | 3=>1 | 4=>2 | n=>n⟩
theorem Tryz.lays260:Go.Proofs.Lays.n260 Tryz.prog Tryz.lays260_ren:={ Tryz.laysC172 with
 mixed:=by kernel_rfl
 f260:=Tryz.func266.trans (congrArg some (by kernel_rfl))
 t119:=Tryz.underlying391
 a119:=Tryz.isAgg391
 z119:=Tryz.sizeOf391
 t138:=Tryz.underlying393
 a138:=Tryz.isAgg393
 z138:=Tryz.sizeOf393
 v138:=Tryz.zeroValue393
 t139:=Tryz.underlying394
 a139:=Tryz.isAgg394
 z139:=Tryz.sizeOf394
 v139:=Tryz.zeroValue394
 g3:=by kernel_rfl
 g4:=by kernel_rfl }
open Go.RowKit Go.Lib in
theorem Tryz.utf8_decodeRuneInStringSlow (s:ByteArray) (w:World) (hT:Lib.Utf8Tabs 1 2 w) :
  Calls Tryz.prog 266 #[.string s] w fun e w'=>e=.returned (.tuple #[.int .i32 (Lib.decodeGo s).1,.int .i64 (Lib.decodeGo s).2])/\Below w.heap.size w w':=Any.utf8_decodeRuneInStringSlow Tryz.lays260 s w hT
def Tryz.lays230_ren:Go.Shelf.Ren:=⟨fun | 230=>157 | 197=>216 | 118=>217 | 165=>218 | 166=>219 | 168=>220 | 270=>221 | 167=>222 | 169=>223 | 260=>266 | 240=>267 | 241=>268 | 242=>269 | 276=>305 | 277=>306 | 278=>307 | n=>n,fun | 107=>292 | 9=>9 | 72=>330 | 0=>0 | 4=>4 | 3=>3 | 21=>21 | 105=>331 | 76=>336 | 5=>5 | 75=>335 | 70=>328 | 20=>20 | 37=>158 | 127=>366 | 119=>391 | 46=>300 | 139=>394 | 138=>393 | 164=>395 | 51=>73 | 80=>256 | n=>n,fun | 3=>1 | 4=>2 | n=>n⟩
theorem Tryz.lays230:Go.Proofs.Lays.n230 Tryz.prog Tryz.lays230_ren:={ Tryz.laysC172,Tryz.lays260 with
 mixed:=by kernel_rfl
 f118:=Tryz.func217.trans (congrArg some (by kernel_rfl))
 f165:=Tryz.func218.trans (congrArg some (by kernel_rfl))
 f166:=Tryz.func219.trans (congrArg some (by kernel_rfl))
 f167:=Tryz.func222.trans (congrArg some (by kernel_rfl))
 f168:=Tryz.func220.trans (congrArg some (by kernel_rfl))
 f169:=Tryz.func223.trans (congrArg some (by kernel_rfl))
 f197:=Tryz.func216.trans (congrArg some (by kernel_rfl))
 f230:=Tryz.func157.trans (congrArg some (by kernel_rfl))
 f240:=Tryz.func267.trans (congrArg some (by kernel_rfl))
 f241:=Tryz.func268.trans (congrArg some (by kernel_rfl))
 f242:=Tryz.func269.trans (congrArg some (by kernel_rfl))
 f260:=Tryz.func266.trans (congrArg some (by kernel_rfl))
 f270:=Tryz.func221.trans (congrArg some (by kernel_rfl))
 f276:=Tryz.func305.trans (congrArg some (by kernel_rfl))
 f277:=Tryz.func306.trans (congrArg some (by kernel_rfl))
 f278:=Tryz.func307.trans (congrArg some (by kernel_rfl))
 t70:=Tryz.underlying328
 a70:=Tryz.isAgg328
 z70:=Tryz.sizeOf328
 v70:=Tryz.zeroValue328
 t72:=Tryz.underlying330
 a72:=Tryz.isAgg330
 z72:=Tryz.sizeOf330
 v72:=Tryz.zeroValue330
 t105:=Tryz.underlying331
 a105:=Tryz.isAgg331
 z105:=Tryz.sizeOf331
 v105:=Tryz.zeroValue331
 t107:=Tryz.underlying292
 a107:=Tryz.isAgg292
 z107:=Tryz.sizeOf292
 v107:=Tryz.zeroValue292
 t164:=Tryz.underlying395
 a164:=Tryz.isAgg395
 z164:=Tryz.sizeOf395
 v164:=Tryz.zeroValue395
 g3:=by kernel_rfl
 g4:=by kernel_rfl }
theorem Tryz.Builder_Extra_230:Builder.Extra Tryz.prog Tryz.lays230_ren:={
 sizeBuilder:=by kernel_rfl
 liesBuilder:=by kernel_rfl
 t5:=Tryz.underlying5
 a5:=Tryz.isAgg5
 z5:=Tryz.sizeOf5
 v5:=Tryz.zeroValue5
 infoByte:=by kernel_rfl
 cellsByte:=by kernel_rfl
 sizeByte:=by kernel_rfl
 neB5:=by decide }
open Go.RowKit Go.Lib in
theorem Tryz.strings_Map_runes (g:Nat) (lb:Array Value) (eg:∀args w,(callFunc g args).run Tryz.prog w=.ok (.enter g args) w) (f:Int->Int) (s:ByteArray) (w:World) (hs:s.size<35184372088832) (hf:MapAtRunes Tryz.prog g lb f w) (hnn:∀x:Nat,x<=1114111->0<=f x/\f x<=2147483647) (hT:Lib.Utf8Tabs 1 2 w) :
  Calls Tryz.prog 157 #[.func (.func g) #[] lb,.string s] w fun e w'=>e=.returned (.string ⟨(Lib.mapD f s.data.toList).toArray⟩)/\Below w.heap.size w w':=Any.strings_Map_runes Tryz.lays230 Tryz.Builder_Extra_230 g lb eg f s w hs hf hnn hT
end Go.Proofs
