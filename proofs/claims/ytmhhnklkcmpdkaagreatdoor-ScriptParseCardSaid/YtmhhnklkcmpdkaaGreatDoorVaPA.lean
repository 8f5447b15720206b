/- Walks of library functions. No condition. -/
import Derived.Test.YtmhhnklkcmpdkaaGreatDoorEcPA
import Derived.Test.YtmhhnklkcmpdkaaGreatDoorProg
import Derived.Ground.NamesProg
import Derived.Shelf.Strings.Builder1
import Derived.Shelf.Strings.BuilderF
import Derived.Shelf.Strings.BuilderK
import Derived.Shelf.Strings.OnBuilder
import Derived.Shelf.Strconv.AtoiAll
import Derived.Shelf.Strconv.Itoa2
import Derived.Lib.AtoiAll
import Derived.WalkKit
import Derived.Lib.Strings
import Derived.Laws.RangeString
import Derived.Laws.RangeAny
import Derived.LoopTactic
import Derived.KernelRfl
import Derived.BigCall
import Derived.Shelf.Strconv.Itoa0
import Derived.Shelf.Strconv.Itoa1
import Derived.Lib.ItoaWalk
import Derived.Lib.ItoaMem
import Derived.Shelf.Strings.SplitCore
import Derived.Lib.SplitLaws
open Array renaming getElem?_eq_some_iff -> dS, replicate -> ei
open Go.Instr renaming sliceAt -> CG
open Int renaming toNat_natCast -> fX
open List renaming all_eq_true -> aI, append_assoc -> ay, cons_append -> br, getD_eq_getElem?_getD -> aa, getElem?_eq_getElem -> ab, getElem?_map -> aN, getElem?_toArray -> kR, getElem_mem -> aU, getElem_of_mem -> bH, length_append -> ac, length_cons -> ah, length_eq_zero_iff -> bx, length_map -> aC, length_pos_iff -> nq, length_singleton -> aD, length_take -> av, map_cons -> aG, map_map -> wN, mem_append -> an, mem_cons -> al, mem_cons_of_mem -> af, mem_cons_self -> aq, mem_singleton -> bX, nil_append -> aR, take_length -> ba
open Nat renaming add_zero -> bW, le_refl -> bc, lt_or_ge -> bP, mul_one -> js, zero_le -> bC
open Option renaming map_eq_some_iff -> ae
open UInt8 renaming ofInt -> dQ, ofNat -> aQ
set_option linter.unusedSectionVars false
set_option linter.unusedSimpArgs false
set_option linter.unusedVariables false
namespace Go.Proofs.YtmhhnklkcmpdkaaGreatDoor
open Go.Sy
open Go.RowKit Go.Shelf
def xkR:Go.Shelf.Ren:=⟨fun|167=>36|240=>79|276=>149|n=>n,fun|70=>121|5=>5|75=>126|0=>0|72=>123|37=>23|4=>4|164=>287|80=>131|9=>9|n=>n,fun|n=>n⟩
theorem lyB:Go.Proofs.Lays.n167 Tryz.prog xkR:= {mixed:=by kernel_rfl,f167:=Tryz.func36.trans (congrArg some (by kernel_rfl)),f240:=Tryz.func79.trans (congrArg some (by kernel_rfl)),f276:=Tryz.func149.trans (congrArg some (by kernel_rfl)),t0:=Tryz.underlying0,a0:=Tryz.isAgg0,z0:=Tryz.sizeOf0,v0:=Tryz.zeroValue0,t4:=Tryz.underlying4,a4:=Tryz.isAgg4,z4:=Tryz.sizeOf4,v4:=Tryz.zeroValue4,t5:=Tryz.underlying5,a5:=Tryz.isAgg5,z5:=Tryz.sizeOf5,v5:=Tryz.zeroValue5,t9:=Tryz.underlying9,a9:=Tryz.isAgg9,z9:=Tryz.sizeOf9,v9:=Tryz.zeroValue9,t20:=Tryz.underlying20,a20:=Tryz.isAgg20,z20:=Tryz.sizeOf20,v20:=Tryz.zeroValue20,t37:=Tryz.underlying23,a37:=Tryz.isAgg23,z37:=Tryz.sizeOf23,v37:=Tryz.zeroValue23,t70:=Tryz.underlying121,a70:=Tryz.isAgg121,z70:=Tryz.sizeOf121,v70:=Tryz.zeroValue121,t72:=Tryz.underlying123,a72:=Tryz.isAgg123,z72:=Tryz.sizeOf123,v72:=Tryz.zeroValue123,t75:=Tryz.underlying126,a75:=Tryz.isAgg126,z75:=Tryz.sizeOf126,v75:=Tryz.zeroValue126,t164:=Tryz.underlying287,a164:=Tryz.isAgg287,z164:=Tryz.sizeOf287,v164:=Tryz.zeroValue287}
def xkP:Go.Shelf.Ren:=⟨fun|166=>34|240=>79|276=>149|n=>n,fun|70=>121|9=>9|3=>3|75=>126|0=>0|72=>123|37=>23|4=>4|164=>287|80=>131|5=>5|n=>n,fun|n=>n⟩
theorem lyS:Go.Proofs.Lays.n166 Tryz.prog xkP:= {mixed:=by kernel_rfl,f166:=Tryz.func34.trans (congrArg some (by kernel_rfl)),f240:=Tryz.func79.trans (congrArg some (by kernel_rfl)),f276:=Tryz.func149.trans (congrArg some (by kernel_rfl)),t0:=Tryz.underlying0,a0:=Tryz.isAgg0,z0:=Tryz.sizeOf0,v0:=Tryz.zeroValue0,t3:=Tryz.underlying3,a3:=Tryz.isAgg3,z3:=Tryz.sizeOf3,v3:=Tryz.zeroValue3,t4:=Tryz.underlying4,a4:=Tryz.isAgg4,z4:=Tryz.sizeOf4,v4:=Tryz.zeroValue4,t9:=Tryz.underlying9,a9:=Tryz.isAgg9,z9:=Tryz.sizeOf9,v9:=Tryz.zeroValue9,t20:=Tryz.underlying20,a20:=Tryz.isAgg20,z20:=Tryz.sizeOf20,v20:=Tryz.zeroValue20,t37:=Tryz.underlying23,a37:=Tryz.isAgg23,z37:=Tryz.sizeOf23,v37:=Tryz.zeroValue23,t70:=Tryz.underlying121,a70:=Tryz.isAgg121,z70:=Tryz.sizeOf121,v70:=Tryz.zeroValue121,t72:=Tryz.underlying123,a72:=Tryz.isAgg123,z72:=Tryz.sizeOf123,v72:=Tryz.zeroValue123,t75:=Tryz.underlying126,a75:=Tryz.isAgg126,z75:=Tryz.sizeOf126,v75:=Tryz.zeroValue126,t164:=Tryz.underlying287,a164:=Tryz.isAgg287,z164:=Tryz.sizeOf287,v164:=Tryz.zeroValue287}
def xkN:Go.Shelf.Ren:=⟨fun|169=>37|n=>n,fun|70=>121|9=>9|0=>0|72=>123|37=>23|127=>207|3=>3|5=>5|n=>n,fun|n=>n⟩
theorem lyT:Go.Proofs.Lays.n169 Tryz.prog xkN:= {mixed:=by kernel_rfl,f169:=Tryz.func37.trans (congrArg some (by kernel_rfl)),t0:=Tryz.underlying0,a0:=Tryz.isAgg0,z0:=Tryz.sizeOf0,v0:=Tryz.zeroValue0,t3:=Tryz.underlying3,a3:=Tryz.isAgg3,z3:=Tryz.sizeOf3,v3:=Tryz.zeroValue3,t9:=Tryz.underlying9,a9:=Tryz.isAgg9,z9:=Tryz.sizeOf9,v9:=Tryz.zeroValue9,t37:=Tryz.underlying23,a37:=Tryz.isAgg23,z37:=Tryz.sizeOf23,v37:=Tryz.zeroValue23,t70:=Tryz.underlying121,a70:=Tryz.isAgg121,z70:=Tryz.sizeOf121,v70:=Tryz.zeroValue121,t72:=Tryz.underlying123,a72:=Tryz.isAgg123,z72:=Tryz.sizeOf123,v72:=Tryz.zeroValue123,t127:=Tryz.underlying207,a127:=Tryz.isAgg207,z127:=Tryz.sizeOf207,v127:=Tryz.zeroValue207}
def xkQ:Go.Shelf.Ren:=⟨fun|156=>84|165=>153|166=>34|169=>37|240=>79|241=>217|276=>149|277=>278|n=>n,fun|31=>40|9=>9|3=>3|4=>4|0=>0|20=>20|72=>123|76=>127|70=>121|37=>23|75=>126|127=>207|164=>287|5=>5|80=>131|n=>n,fun|n=>n⟩
theorem lyJ:Go.Proofs.Lays.n156 Tryz.prog xkQ:= {mixed:=by kernel_rfl,f156:=Tryz.func84.trans (congrArg some (by kernel_rfl)),f165:=Tryz.func153.trans (congrArg some (by kernel_rfl)),f166:=Tryz.func34.trans (congrArg some (by kernel_rfl)),f169:=Tryz.func37.trans (congrArg some (by kernel_rfl)),f240:=Tryz.func79.trans (congrArg some (by kernel_rfl)),f241:=Tryz.func217.trans (congrArg some (by kernel_rfl)),f276:=Tryz.func149.trans (congrArg some (by kernel_rfl)),f277:=Tryz.func278.trans (congrArg some (by kernel_rfl)),t0:=Tryz.underlying0,a0:=Tryz.isAgg0,z0:=Tryz.sizeOf0,v0:=Tryz.zeroValue0,t3:=Tryz.underlying3,a3:=Tryz.isAgg3,z3:=Tryz.sizeOf3,v3:=Tryz.zeroValue3,t4:=Tryz.underlying4,a4:=Tryz.isAgg4,z4:=Tryz.sizeOf4,v4:=Tryz.zeroValue4,t9:=Tryz.underlying9,a9:=Tryz.isAgg9,z9:=Tryz.sizeOf9,v9:=Tryz.zeroValue9,t20:=Tryz.underlying20,a20:=Tryz.isAgg20,z20:=Tryz.sizeOf20,v20:=Tryz.zeroValue20,t31:=Tryz.underlying40,a31:=Tryz.isAgg40,z31:=Tryz.sizeOf40,v31:=Tryz.zeroValue40,t37:=Tryz.underlying23,a37:=Tryz.isAgg23,z37:=Tryz.sizeOf23,v37:=Tryz.zeroValue23,t70:=Tryz.underlying121,a70:=Tryz.isAgg121,z70:=Tryz.sizeOf121,v70:=Tryz.zeroValue121,t72:=Tryz.underlying123,a72:=Tryz.isAgg123,z72:=Tryz.sizeOf123,v72:=Tryz.zeroValue123,t75:=Tryz.underlying126,a75:=Tryz.isAgg126,z75:=Tryz.sizeOf126,v75:=Tryz.zeroValue126,t76:=Tryz.underlying127,a76:=Tryz.isAgg127,z76:=Tryz.sizeOf127,v76:=Tryz.zeroValue127,t127:=Tryz.underlying207,a127:=Tryz.isAgg207,z127:=Tryz.sizeOf207,v127:=Tryz.zeroValue207,t164:=Tryz.underlying287,a164:=Tryz.isAgg287,z164:=Tryz.sizeOf287,v164:=Tryz.zeroValue287}
def xl3:Go.Shelf.Ren:=⟨fun|285=>271|n=>n,fun|37=>23|53=>281|3=>3|4=>4|51=>300|9=>9|5=>5|0=>0|n=>n,fun|n=>n⟩
theorem lyF:Go.Proofs.Lays.n285 Tryz.prog xl3:= {mixed:=by kernel_rfl,f285:=Tryz.func271.trans (congrArg some (by kernel_rfl)),t0:=Tryz.underlying0,a0:=Tryz.isAgg0,z0:=Tryz.sizeOf0,v0:=Tryz.zeroValue0,t3:=Tryz.underlying3,a3:=Tryz.isAgg3,z3:=Tryz.sizeOf3,v3:=Tryz.zeroValue3,t4:=Tryz.underlying4,a4:=Tryz.isAgg4,z4:=Tryz.sizeOf4,v4:=Tryz.zeroValue4,t5:=Tryz.underlying5,a5:=Tryz.isAgg5,z5:=Tryz.sizeOf5,v5:=Tryz.zeroValue5,t9:=Tryz.underlying9,a9:=Tryz.isAgg9,z9:=Tryz.sizeOf9,v9:=Tryz.zeroValue9,t37:=Tryz.underlying23,a37:=Tryz.isAgg23,z37:=Tryz.sizeOf23,v37:=Tryz.zeroValue23,t51:=Tryz.underlying300,a51:=Tryz.isAgg300,z51:=Tryz.sizeOf300,v51:=Tryz.zeroValue300,t53:=Tryz.underlying281,a53:=Tryz.isAgg281,z53:=Tryz.sizeOf281,v53:=Tryz.zeroValue281}
def xl4:Go.Shelf.Ren:=⟨fun|172=>157|244=>225|245=>226|247=>284|279=>285|280=>286|281=>287|282=>288|287=>319|316=>320|171=>64|205=>321|321=>335|322=>336|243=>136|246=>207|283=>269|284=>270|285=>271|286=>272|129=>313|317=>312|318=>314|319=>315|320=>316|337=>333|338=>334|n=>n,fun|9=>9|3=>3|75=>126|76=>127|4=>4|5=>5|167=>409|37=>23|0=>0|85=>410|2=>2|168=>412|53=>281|175=>438|46=>39|210=>442|127=>207|145=>458|143=>456|21=>21|171=>397|173=>400|212=>435|51=>300|20=>20|213=>436|232=>464|233=>465|80=>131|n=>n,fun|15=>2|16=>3|17=>1|18=>6|19=>7|n=>n⟩
theorem lyA:Go.Proofs.LaysC.n172 Tryz.prog xl4:= {mixed:=by kernel_rfl,f129:=Tryz.func313.trans (congrArg some (by kernel_rfl)),f171:=Tryz.func64.trans (congrArg some (by kernel_rfl)),f172:=Tryz.func157.trans (congrArg some (by kernel_rfl)),f205:=Tryz.func321.trans (congrArg some (by kernel_rfl)),f243:=Tryz.func136.trans (congrArg some (by kernel_rfl)),f244:=Tryz.func225.trans (congrArg some (by kernel_rfl)),f245:=Tryz.func226.trans (congrArg some (by kernel_rfl)),f246:=Tryz.func207.trans (congrArg some (by kernel_rfl)),f247:=Tryz.func284.trans (congrArg some (by kernel_rfl)),f279:=Tryz.func285.trans (congrArg some (by kernel_rfl)),f280:=Tryz.func286.trans (congrArg some (by kernel_rfl)),f281:=Tryz.func287.trans (congrArg some (by kernel_rfl)),f282:=Tryz.func288.trans (congrArg some (by kernel_rfl)),f283:=Tryz.func269.trans (congrArg some (by kernel_rfl)),f284:=Tryz.func270.trans (congrArg some (by kernel_rfl)),f285:=Tryz.func271.trans (congrArg some (by kernel_rfl)),f286:=Tryz.func272.trans (congrArg some (by kernel_rfl)),f287:=Tryz.func319.trans (congrArg some (by kernel_rfl)),f316:=Tryz.func320.trans (congrArg some (by kernel_rfl)),f317:=Tryz.func312.trans (congrArg some (by kernel_rfl)),f318:=Tryz.func314.trans (congrArg some (by kernel_rfl)),f319:=Tryz.func315.trans (congrArg some (by kernel_rfl)),f320:=Tryz.func316.trans (congrArg some (by kernel_rfl)),f321:=Tryz.func335.trans (congrArg some (by kernel_rfl)),f322:=Tryz.func336.trans (congrArg some (by kernel_rfl)),f337:=Tryz.func333.trans (congrArg some (by kernel_rfl)),f338:=Tryz.func334.trans (congrArg some (by kernel_rfl)),t0:=Tryz.underlying0,a0:=Tryz.isAgg0,z0:=Tryz.sizeOf0,v0:=Tryz.zeroValue0,t2:=Tryz.underlying2,a2:=Tryz.isAgg2,z2:=Tryz.sizeOf2,v2:=Tryz.zeroValue2,t3:=Tryz.underlying3,a3:=Tryz.isAgg3,z3:=Tryz.sizeOf3,v3:=Tryz.zeroValue3,t4:=Tryz.underlying4,a4:=Tryz.isAgg4,z4:=Tryz.sizeOf4,v4:=Tryz.zeroValue4,t5:=Tryz.underlying5,a5:=Tryz.isAgg5,z5:=Tryz.sizeOf5,v5:=Tryz.zeroValue5,t9:=Tryz.underlying9,a9:=Tryz.isAgg9,z9:=Tryz.sizeOf9,v9:=Tryz.zeroValue9,t20:=Tryz.underlying20,a20:=Tryz.isAgg20,z20:=Tryz.sizeOf20,v20:=Tryz.zeroValue20,t21:=Tryz.underlying21,a21:=Tryz.isAgg21,z21:=Tryz.sizeOf21,v21:=Tryz.zeroValue21,t37:=Tryz.underlying23,a37:=Tryz.isAgg23,z37:=Tryz.sizeOf23,v37:=Tryz.zeroValue23,t46:=Tryz.underlying39,a46:=Tryz.isAgg39,z46:=Tryz.sizeOf39,v46:=Tryz.zeroValue39,t51:=Tryz.underlying300,a51:=Tryz.isAgg300,z51:=Tryz.sizeOf300,v51:=Tryz.zeroValue300,t53:=Tryz.underlying281,a53:=Tryz.isAgg281,z53:=Tryz.sizeOf281,v53:=Tryz.zeroValue281,t75:=Tryz.underlying126,a75:=Tryz.isAgg126,z75:=Tryz.sizeOf126,v75:=Tryz.zeroValue126,t76:=Tryz.underlying127,a76:=Tryz.isAgg127,z76:=Tryz.sizeOf127,v76:=Tryz.zeroValue127,t85:=Tryz.underlying410,a85:=Tryz.isAgg410,z85:=Tryz.sizeOf410,v85:=Tryz.zeroValue410,t127:=Tryz.underlying207,a127:=Tryz.isAgg207,z127:=Tryz.sizeOf207,v127:=Tryz.zeroValue207,t143:=Tryz.underlying456,a143:=Tryz.isAgg456,z143:=Tryz.sizeOf456,v143:=Tryz.zeroValue456,t145:=Tryz.underlying458,a145:=Tryz.isAgg458,z145:=Tryz.sizeOf458,v145:=Tryz.zeroValue458,t167:=Tryz.underlying409,a167:=Tryz.isAgg409,z167:=Tryz.sizeOf409,v167:=Tryz.zeroValue409,t168:=Tryz.underlying412,a168:=Tryz.isAgg412,z168:=Tryz.sizeOf412,v168:=Tryz.zeroValue412,t171:=Tryz.underlying397,a171:=Tryz.isAgg397,z171:=Tryz.sizeOf397,v171:=Tryz.zeroValue397,t173:=Tryz.underlying400,a173:=Tryz.isAgg400,z173:=Tryz.sizeOf400,v173:=Tryz.zeroValue400,t175:=Tryz.underlying438,a175:=Tryz.isAgg438,z175:=Tryz.sizeOf438,v175:=Tryz.zeroValue438,t210:=Tryz.underlying442,a210:=Tryz.isAgg442,z210:=Tryz.sizeOf442,v210:=Tryz.zeroValue442,t212:=Tryz.underlying435,a212:=Tryz.isAgg435,z212:=Tryz.sizeOf435,v212:=Tryz.zeroValue435,t213:=Tryz.underlying436,a213:=Tryz.isAgg436,z213:=Tryz.sizeOf436,t232:=Tryz.underlying464,a232:=Tryz.isAgg464,z232:=Tryz.sizeOf464,v232:=Tryz.zeroValue464,t233:=Tryz.underlying465,a233:=Tryz.isAgg465,z233:=Tryz.sizeOf465,v233:=Tryz.zeroValue465,g15:=by kernel_rfl,g16:=by kernel_rfl,g17:=by kernel_rfl,g18:=by kernel_rfl,g19:=by kernel_rfl,t80:=Tryz.underlying131,a80:=Tryz.isAgg131,z80:=Tryz.sizeOf131,v80:=Tryz.zeroValue131,i0:=by kernel_rfl,i2:=by kernel_rfl,i3:=by kernel_rfl,i4:=by kernel_rfl,i5:=by kernel_rfl,i9:=by kernel_rfl,i20:=by kernel_rfl,i21:=by kernel_rfl,i37:=by kernel_rfl,i46:=by kernel_rfl,i51:=by kernel_rfl,i53:=by kernel_rfl,i75:=by kernel_rfl,i76:=by kernel_rfl,i80:=by kernel_rfl,i85:=by kernel_rfl,i127:=by kernel_rfl,i143:=by kernel_rfl,i145:=by kernel_rfl,i167:=by kernel_rfl,i168:=by kernel_rfl,i171:=by kernel_rfl,i173:=by kernel_rfl,i175:=by kernel_rfl,i210:=by kernel_rfl,i212:=by kernel_rfl,i232:=by kernel_rfl,i233:=by kernel_rfl,m15:=by kernel_rfl,m16:=by kernel_rfl,m17:=by kernel_rfl,m18:=by kernel_rfl,m19:=by kernel_rfl,c0:=by kernel_rfl,c2:=by kernel_rfl,c3:=by kernel_rfl,c4:=by kernel_rfl,c5:=by kernel_rfl,c9:=by kernel_rfl,c20:=by kernel_rfl,c21:=by kernel_rfl,c37:=by kernel_rfl,c46:=by kernel_rfl,c51:=by kernel_rfl,c53:=by kernel_rfl,c75:=by kernel_rfl,c76:=by kernel_rfl,c80:=by kernel_rfl,c85:=by kernel_rfl,c127:=by kernel_rfl,c143:=by kernel_rfl,c145:=by kernel_rfl,c167:=by kernel_rfl,c168:=by kernel_rfl,c171:=by kernel_rfl,c173:=by kernel_rfl,c175:=by kernel_rfl,c210:=by kernel_rfl,c212:=by kernel_rfl,c213:=by kernel_rfl,c232:=by kernel_rfl,c233:=by kernel_rfl}
theorem xet:Builder.Extra Tryz.prog xkR:= {sizeBuilder:=by kernel_rfl,liesBuilder:=by kernel_rfl,t5:=Tryz.underlying5,a5:=Tryz.isAgg5,z5:=Tryz.sizeOf5,v5:=Tryz.zeroValue5,infoByte:=by kernel_rfl,cellsByte:=by kernel_rfl,sizeByte:=by kernel_rfl,neB5:=by decide}
theorem xkO:Builder.Extra Tryz.prog xkP:= {sizeBuilder:=by kernel_rfl,liesBuilder:=by kernel_rfl,t5:=Tryz.underlying5,a5:=Tryz.isAgg5,z5:=Tryz.sizeOf5,v5:=Tryz.zeroValue5,infoByte:=by kernel_rfl,cellsByte:=by kernel_rfl,sizeByte:=by kernel_rfl,neB5:=by decide}
theorem YK:Builder.Extra Tryz.prog xkN:= {sizeBuilder:=by kernel_rfl,liesBuilder:=by kernel_rfl,t5:=Tryz.underlying5,a5:=Tryz.isAgg5,z5:=Tryz.sizeOf5,v5:=Tryz.zeroValue5,infoByte:=by kernel_rfl,cellsByte:=by kernel_rfl,sizeByte:=by kernel_rfl,neB5:=by decide}
theorem xl1:Builder.Extra Tryz.prog xkQ:= {sizeBuilder:=by kernel_rfl,liesBuilder:=by kernel_rfl,t5:=Tryz.underlying5,a5:=Tryz.isAgg5,z5:=Tryz.sizeOf5,v5:=Tryz.zeroValue5,infoByte:=by kernel_rfl,cellsByte:=by kernel_rfl,sizeByte:=by kernel_rfl,neB5:=by decide}
end Go.Proofs.YtmhhnklkcmpdkaaGreatDoor
namespace Go.Proofs.YtmhhnklkcmpdkaaGreatDoor
open Go.Sy
open Go.Sy
def Ef:t6:=[.int .u64 1,.int .u64 10,.int .u64 100,.int .u64 1000,.int .u64 10000,.int .u64 100000,.int .u64 1000000,.int .u64 10000000,.int .u64 100000000,.int .u64 1000000000,.int .u64 10000000000,.int .u64 100000000000,.int .u64 1000000000000,.int .u64 10000000000000,.int .u64 100000000000000,.int .u64 1000000000000000,.int .u64 10000000000000000,.int .u64 100000000000000000,.int .u64 1000000000000000000,.int .u64 10000000000000000000]
def xg1:t6:=[.ife]
def xg0:t6:=[.ife]
instance:aW:=⟨fun
 |1=>some Ef
 |2=>some xg1
 |3=>some xg0
 |_=>none⟩
end Go.Proofs.YtmhhnklkcmpdkaaGreatDoor
namespace Go.Proofs.YtmhhnklkcmpdkaaGreatDoor
open Go.Sy
def fx:List d9->d9
 |[]=> []
 |[w]=>w
 |w::v::r=>w++32::fx (v::r)
def dY:d9->List d9
 |[]=> [[]]
 |c::r=>if c=32 then []::dY r else match dY r with
  |[]=> [[c]]
  |w::ws=>(c::w)::ws
theorem AD(l:d9):dY l≠ []:=by
 cases l with
 |nil=>simp[dY]
 |cons c r=>
  unfold dY;split
  ·simp
  ·split<;>simp
theorem qB(w r:d9)(h:32∉w):dY (w++32::r)=w::dY r:=by
 induction w with
 |nil=>simp[dY]
 |cons c w y=>
  have C:c≠32:=fun e=>h (by rw[e];exact aq)
  rw[br,dY,if_neg C,y (fun z=>h (af _ z))]
theorem qA(w:d9)(h:32∉w):dY w=[w]:=by
 induction w with
 |nil=>rfl
 |cons c w z=>
  have y:c≠32:=fun e=>h (by rw[e];exact aq)
  rw[dY,if_neg y,z (fun C=>h (af _ C))]
theorem rX:∀ws:List d9,ws≠ []->(∀w∈ws,32∉w)->dY (fx ws)=ws
 |[],h,_=>absurd rfl h
 |[w],_,h=>qA w (h w (by simp))
 |w::v::r,_,h=>by rw[fx,qB w _ (h w (by simp)),rX (v::r) (by simp) (fun x y=>h x (af _ y))]
theorem sx{c:UInt8}:∀ws:List d9,c∈fx ws->c=32\/∃w∈ws,c∈w
 |[],h=>by simp[fx]at h
 |[w],h=> .inr ⟨w,by simp,h⟩
 |w::v::r,h=>by
  rw[fx,an,al]at h;rcases h with h|h|h
  ·exact .inr ⟨w,by simp,h⟩
  ·exact .inl h
  ·rcases sx (v::r) h with h|⟨x,hx,hc⟩
   ·exact .inl h
   ·exact .inr ⟨x,af _ hx,hc⟩
def hd4(n:UInt8):UInt8:=if n<10 then 48+n else 87+n
def gZ:d9->d9
 |[]=> []
 |b::r=>hd4 (b>>>4)::hd4 (b&&&15)::gZ r
def iY(b:d9):d9:=if b=[]then [45]else gZ b
def hv(c:UInt8):UInt8:=if 48<=c/\c<=57 then c-48 else if 97<=c/\c<=102 then c-87 else 16
theorem xgZ:∀b:Fin 256,let c:=aQ b.val;hv (hd4 (c>>>4))=c>>>4/\hv (hd4 (c&&&15))=c&&&15/\((c>>>4)<<<4|||(c&&&15))=c/\hd4 (c>>>4)≠32/\hd4 (c&&&15)≠32/\hd4 (c>>>4)≠10/\hd4 (c&&&15)≠10/\hd4 (c>>>4)≠45:=by decide+kernel
theorem zJ(c:UInt8):hv (hd4 (c>>>4))=c>>>4/\hv (hd4 (c&&&15))=c&&&15/\((c>>>4)<<<4|||(c&&&15))=c/\hd4 (c>>>4)≠32/\hd4 (c&&&15)≠32/\hd4 (c>>>4)≠10/\hd4 (c&&&15)≠10/\hd4 (c>>>4)≠45:=by have:=xgZ ⟨c.toNat,c.toNat_lt⟩;simpa using this
def rf:d9->Option d9
 |[]=>some []
 |[_]=>none
 |a::b::r=>if hv a=16\/hv b=16 then none else match rf r with
  |some l=>some ((hv a<<<4|||hv b)::l)
  |none=>none
def nu(s:d9):Option d9:=if s=[45]then some []else rf s
def hv0(c:UInt8):UInt8:=if hv c=16 then 0 else hv c
def ip:d9->d9
 |[]=> []
 |[_]=> []
 |a::b::r=>(hv0 a<<<4|||hv0 b)::ip r
theorem YT(c:UInt8):¬(c>>>4=16)/\¬(c&&&15=16):=by
 have:∀b:Fin 256,¬(aQ b.val>>>4=16)/\¬(aQ b.val&&&15=16):=by decide+kernel
 simpa using this ⟨c.toNat,c.toNat_lt⟩
theorem rS:∀b:d9,rf (gZ b)=some b
 |[]=>rfl
 |b::r=>by obtain⟨y,h,z,_⟩:=zJ b;obtain⟨k1,k2⟩:=YT b;rw[gZ,rf,y,h,if_neg (by simp[k1,k2]),rS r,z]
theorem sP:∀b:d9,ip (gZ b)=b
 |[]=>rfl
 |b::r=>by obtain⟨y,h,z,_⟩:=zJ b;obtain⟨k1,k2⟩:=YT b;rw[gZ,ip,hv0,hv0,y,h,if_neg k1,if_neg k2,sP r,z]
theorem RZ(b:d9):gZ b≠ [45]:=by
 cases b with
 |nil=>simp[gZ]
 |cons b r=>simp[gZ]
theorem wu{x:UInt8}:∀b:d9,x∈gZ b->x≠32/\x≠10
 |[],h=>by simp[gZ]at h
 |b::r,h=>by
  obtain⟨_,_,_,z,E,y,C,_⟩:=zJ b;simp only[gZ,al]at h;rcases h with rfl|rfl|h
  ·exact⟨z,y⟩
  ·exact⟨E,C⟩
  ·exact wu r h
theorem nQ(b:d9):nu (iY b)=some b:=by
 unfold iY;split
 ·rename_i h;subst h;rfl
 ·unfold nu
  rw[if_neg (RZ b),rS]
theorem og(b:d9):ip (iY b)=b:=by
 unfold iY;split
 ·rename_i h;subst h;rfl
 ·exact sP b
theorem qN{x:UInt8}(b:d9)(h:x∈iY b):x≠32/\x≠10:=by
 unfold iY at h;split at h
 ·simp at h;subst h;decide
 ·exact wu b h
theorem qO:∀b:d9,(gZ b).length=2*b.length
 |[]=>rfl
 |b::r=>by simp[gZ,qO r];omega
theorem ek(b:d9):(iY b).length<=2*b.length+1:=by
 unfold iY;split
 ·simp
 ·rw[qO];omega
end Go.Proofs.YtmhhnklkcmpdkaaGreatDoor
namespace Go.Proofs.YtmhhnklkcmpdkaaGreatDoor
open Go.Sy
def dgC(d:Nat):UInt8:=dQ ((48+d:Nat):Int)
theorem oW:∀d,d<10->(dgC d).toNat=48+d/\¬dgC d<48/\¬57<dgC d/\(d≠0->dgC d≠48):=by decide
def dec(n:Nat):d9:=if h:n<10 then [dgC n]else dec (n/10)++ [dgC (n % 10)]
termination_by n
decreasing_by omega
theorem kA{n:Nat}(h:n<10):dec n=[dgC n]:=by rw[dec,dif_pos h]
theorem mH{n:Nat}(h:¬n<10):dec n=dec (n/10)++ [dgC (n % 10)]:=by rw[dec,dif_neg h]
theorem NQ(n:Nat):dec n≠ []:=by
 by_cases h:n<10
 ·rw[kA h];simp
 ·rw[mH h];simp
theorem qW:∀k n,n<10^(k+1)->(dec n).length<=k+1
 |0,n,h=>by rw[kA (by simpa using h)];simp
 |k+1,n,h=>by
  by_cases y:n<10
  ·rw[kA y];simp
  ·have:=qW k (n/10) (by rw[Nat.pow_succ]at h;omega)
   rw[mH y,ac,aD];omega
theorem tY:∀n,∀c∈dec n,48<=c.toNat/\c.toNat<=57:=by
 intro n;induction n using Nat.strongRecOn with
 |_ n z=>
  intro c y
  by_cases h:n<10
  ·rw[kA h]at y
   have:=(oW n h).1;simp at y;subst y;omega
  ·rw[mH h,an,bX]at y
   rcases y with y|rfl
   ·exact z (n/10) (by omega) c y
   ·have:=(oW (n % 10) (by omega)).1
    omega
open Go.Lib in
theorem zG:∀(l:d9)(a:Nat)(c:UInt8)(u:Nat),parseUint10 a l= .ok u->48<=c.toNat->c.toNat<=57->u*10+(c.toNat-48)<18446744073709551616->u<1844674407370955162->parseUint10 a (l++ [c])= .ok (u*10+(c.toNat-48))
 |[],a,c,u,h,h1,h2,h3,h4=>by
  simp only[parseUint10]at h;injection h with h;subst h
  simp only[aR,parseUint10];rw[if_pos ⟨h1,h2⟩,if_neg (by omega),if_neg (by omega)]
 |x::l,a,c,u,h,h1,h2,h3,h4=>by
  simp only[parseUint10]at h;simp only[br,parseUint10];split at h
  ·rename_i z
   rw[if_pos z];split at h
   ·cases h
   ·rename_i y
    rw[if_neg y];split at h
    ·cases h
    ·rename_i hz
     rw[if_neg hz];exact zG l _ c u h h1 h2 h3 h4
  ·cases h
open Go.Lib in
theorem xcb:∀n,n<10000000000000000000->parseUint10 0 (dec n)= .ok n:=by
 intro n;induction n using Nat.strongRecOn with
 |_ n z=>
  intro hn
  by_cases h:n<10
  ·have y:=(oW n h).1
   rw[kA h];have:=zG [] 0 (dgC n) 0 rfl (by omega) (by omega) (by omega) (by omega);rw[aR]at this;rw[this,y];congr 1;omega
  ·have y:=(oW (n % 10) (by omega)).1
   rw[mH h,zG _ 0 (dgC (n % 10)) (n/10) (z (n/10) (by omega) (by omega)) (by omega) (by omega) (by omega) (by omega),y]
   congr 1;omega
open Go.Lib in
theorem Gw(n:Nat)(hn:n<=9223372036854775807):atoiAll (dec n)= .ok (n:Int):=by
 have y:=xcb n (by omega);have z:=tY n;have h:=NQ n;generalize dec n=l at*;cases l with
 |nil=>exact absurd rfl h
 |cons c r=>
  have E:=z c aq;have k1:¬c.toNat=43:=by omega
  have k2:¬c.toNat=45:=by omega
  have C:¬9223372036854775808<=n:=by omega
  unfold atoiAll;simp only[k1,k2,or_self,if_false,parseMag,h,y,not_false_eq_true,true_and,false_and,C]
def vlN:Nat->d9->Nat
 |n,[]=>n
 |n,c::r=>if c<48\/57<c then 0 else vlN (10*n+(c.toNat-48)) r
def vlV(s:d9):Nat:=if s=[]then 0 else if 14<s.length then 0 else vlN 0 s
theorem Ar:∀(l:d9)(a:Nat)(c:UInt8),(∀x∈l,48<=x.toNat/\x.toNat<=57)->vlN a (l++ [c])=if c<48\/57<c then 0 else 10*vlN a l+(c.toNat-48)
 |[],a,c,_=>rfl
 |x::l,a,c,h=>by
  have F:=h x aq
  have k:¬(x<48\/57<x):=by simp only[UInt8.lt_iff_toNat_lt];have E:(48:UInt8).toNat=48:=rfl;have C:(57:UInt8).toNat=57:=rfl;omega
  rw[br,vlN,vlN,if_neg k,if_neg k,Ar l _ c (fun y z=>h y (af _ z))]
theorem PP:∀n,vlN 0 (dec n)=n:=by
 intro n;induction n using Nat.strongRecOn with
 |_ n E=>
  by_cases h:n<10
  ·obtain⟨C,z,y,_⟩:=oW n h
   rw[kA h];show(if dgC n<48\/57<dgC n then 0 else _)=n;rw[if_neg (by simp[z,y])];show 10*0+((dgC n).toNat-48)=n;omega
  ·obtain⟨C,z,y,_⟩:=oW (n % 10) (by omega)
   rw[mH h,Ar _ _ _ (tY _),if_neg (by simp[z,y]),E (n/10) (by omega),C];omega
theorem PO(n:Nat)(h:n<100000000000000):vlV (dec n)=n:=by unfold vlV;rw[if_neg (NQ n),if_neg (by have:=qW 13 n h;omega),PP]
end Go.Proofs.YtmhhnklkcmpdkaaGreatDoor
namespace Go.Proofs.YtmhhnklkcmpdkaaGreatDoor
open Go.Sy
open Go.Sy
open Go.RowKit Go.ChangeShapes Go.WideShapes
namespace Pr
variable [aW]
def okc(c:UInt8):Bool:=if c<97\/122<c then(if c<48\/57<c then decide (c=45)else true)else true
def nameB(s:d9):Bool:=if s.length<1\/12<s.length then false else s.all okc
set_option maxRecDepth 100000 in
theorem xlm(w:World)(a:d9)(c:UInt8)(u:Value)(h:p9 w a u):
 Calls Tryz.prog 276 #[u,.int .u8 c.toNat] w fun e w'=>e= .returned (.int .i64 (tQ a c))/\w'=w:=by
 go_enter Tryz.func276,Tryz.ntmps276
 go_wp2
 rw[run_callFunc_extern Tryz.func317 (by kernel_rfl) (by kernel_rfl) (by kernel_rfl) (e:=Extern.BytealgIndexByte.indexByte) (by kernel_rfl),vu h];simp only[Result.andThen];rw[Oper.upon_value]
 go_wp2
 go_ret
 exact⟨rfl,rfl⟩
def okn(c:Nat):Prop:=(97<=c/\c<=122)\/(48<=c/\c<=57)\/c=45
set_option maxRecDepth 100000 in
theorem tM(b:UInt8):okc b=true↔okn b.toNat:=by
 have h:∀n,n<256->(okc (aQ n)=true↔okn n):=by unfold okn;decide
 have:=h b.toNat b.toNat_lt;rwa[UInt8.ofNat_toNat]at this
theorem Gk(s:ByteArray)(h:Nat)(y:h<s.size):s.data.toList.getD h 0=s[h]'y:=by rw[aa,ab (by simpa using y)];rfl
theorem xef(s:ByteArray)(y c wd:Nat)(z:y<s.size)(h:Utf8.decode s y=(c,wd)):(okn c->wd=1/\okc (s.data.toList.getD y 0)=true)/\(¬okn c->okc (s.data.toList.getD y 0)=false):=by
 rw[Gk s y z]
 by_cases F:(s[y]'z).toNat<128
 ·rw[decode_ascii s y z F]at h
  cases h;refine⟨fun C=>⟨rfl,(tM _).2 C⟩,fun C=> ?_⟩;cases E:okc (s[y]'z)with
  |false=>rfl
  |true=>exact absurd ((tM _).1 E) C
 ·have E:=(decode_high s y z (by omega)).1
  rw[h]at E;simp only at E;refine⟨fun C=>by unfold okn at C;omega,fun _=> ?_⟩;cases h3:okc (s[y]'z)with
  |false=>rfl
  |true=>have:=(tM _).1 h3;unfold okn at this;omega
theorem qd(w:World)(s:ByteArray)(h:Nat):Below w.heap.size w (w.iter s h):=(Below.refl _ w).alloc (bc _) _
theorem lr(s:ByteArray):s.data.toList.length=s.size:=by simp
set_option maxRecDepth 100000 in
theorem xlp(w:World)(s:ByteArray):
 Calls Tryz.prog 215 #[.string s] w fun e w'=>e= .returned (.bool (nameB s.data.toList))/\Below w.heap.size w w':=by
 go_enter Tryz.func215,Tryz.ntmps215
 go_wp2
 ·go_ret
  refine⟨?_,Below.refl _ _⟩;have:s.data.toList.length<1\/12<s.data.toList.length:=by rw[lr];omega
  unfold nameB;rw[if_pos this];rfl
 ·go_loopw [] (
   fun w'=>∃h:Nat,w'=w.iter s h/\h<=s.size/\∀i,i<h->okc (s.data.toList.getD i 0)=true) (fun w'=>s.size-w'.iterPos w.heap.size)
  case atStart=>exact⟨0,rfl,bC _,fun i hi=>absurd hi (Nat.not_lt_zero i)⟩
  case round=>
   obtain⟨h,rfl,a1,z⟩:=hrel;have y:¬(s.data.toList.length<1\/12<s.data.toList.length):=by rw[lr];omega
   by_cases E:h<s.size
   ·have C:∀ty,(Instr.next (.pointer (some ⟨w.heap.size,0,none⟩)) true ty).run Tryz.prog (w.iter s h)=_:=fun ty=>run_next_any w s h ty E
    obtain⟨g1,F⟩:=xef s h (Utf8.decode s h).1 (Utf8.decode s h).2 E rfl;generalize Utf8.decode s h=Z at C g1 F;obtain⟨c,wd⟩:=Z;simp only at C g1 F;have H:Hid (okn c->wd=1/\okc (s.data.toList.getD h 0)=true):=g1;have J:Hid (¬okn c->okc (s.data.toList.getD h 0)=false):=F;have Q:Hid (¬(s.data.toList.length<1\/12<s.data.toList.length)):=y;have I:Hid (∀i,i<h->okc (s.data.toList.getD i 0)=true):=z;clear g1 F y z
    go_wp2
    all_goals (try simp only[bne_iff_ne,bne_eq_false_iff_eq,ne_eq]at*)
    all_goals first
     |(
      have L:okn c:=by unfold okn;omega
      obtain⟨rfl,O⟩:=H.out L
      go_roundw
      case rel=>
       refine⟨h+1,rfl,by omega,fun i hi=> ?_⟩;rcases bP i h with T|T
       ·exact I.out i T
       ·have:i=h:=by omega
        rw[this];exact O
      case measure=>simp;omega)
     |(
      have L:¬okn c:=by unfold okn;omega
      have O:=J.out L
      go_ret
      refine⟨?_,qd _ _ _⟩
      have:nameB s.data.toList=false:=by unfold nameB;rw[if_neg Q.out,List.all_eq_false];refine⟨s.data.toList.getD h 0, ?_,by rw[O];simp⟩;rw[aa,ab (by simpa using E)];exact aU _
      rw[this];rfl)
   ·have C:∀ty,(Instr.next (.pointer (some ⟨w.heap.size,0,none⟩)) true ty).run Tryz.prog (w.iter s h)=_:=fun ty=>run_next_end w s h ty E
    have Q:Hid (¬(s.data.toList.length<1\/12<s.data.toList.length)):=y;have I:Hid (∀i,i<h->okc (s.data.toList.getD i 0)=true):=z;clear y z
    go_wp2
    go_ret
    refine⟨?_,qd _ _ _⟩
    have:nameB s.data.toList=true:=by unfold nameB;rw[if_neg Q.out,aI];intro b W;obtain⟨i,hi,rfl⟩:=bH W;have:=I.out i (by have:=lr s;omega);rwa[aa,ab hi]at this
    rw[this];rfl
 ·go_ret
  refine⟨?_,Below.refl _ _⟩;have:s.data.toList.length<1\/12<s.data.toList.length:=by rw[lr];omega
  unfold nameB;rw[if_pos this];rfl
set_option maxRecDepth 100000 in
theorem xiV(w:World)(s:ByteArray)(c:Int):
 Calls Tryz.prog 218 #[.string s,.int .u8 c] w fun e w'=>e= .returned (.int .i64 (Lib.indexByte s.data.toList c.toNat.toUInt8))/\w'=w:=by
 go_enter Tryz.func218,Tryz.ntmps218
 go_wp2
 rw[run_callFunc_extern Tryz.func279 (by kernel_rfl) (by kernel_rfl) (by kernel_rfl) (e:=Extern.BytealgIndexByte.indexByte) (by kernel_rfl),Lib.run_indexByteString];simp only[Result.andThen];rw[Oper.upon_value]
 go_wp2
 go_ret
 exact⟨rfl,rfl⟩
set_option maxRecDepth 100000 in
theorem xiU(w:World)(s:ByteArray)(c:UInt8):
 Calls Tryz.prog 223 #[.string s,.string ⟨#[c]⟩] w fun e w'=>e= .returned (.int .i64 (Lib.countByte s.data.toList c))/\w'=w:=by
 go_enter Tryz.func223,Tryz.ntmps223
 go_wp2
 rw[run_callFunc_extern Tryz.func283 (by kernel_rfl) (by kernel_rfl) (by kernel_rfl) (e:=Extern.BytealgCount.count) (by kernel_rfl),Lib.run_countString];simp only[Result.andThen];rw[Oper.upon_value]
 go_wp2
 go_ret
 exact⟨rfl,rfl⟩
set_option maxHeartbeats 2000000 in
set_option maxRecDepth 100000 in
theorem xiW(w:World)(s:ByteArray)(c:UInt8):
 Calls Tryz.prog 155 #[.string s,.string ⟨#[c]⟩] w fun e w'=>e= .returned (.int .i64 (Lib.indexByte s.data.toList c))/\w'=w:=by
 go_enter Tryz.func155,Tryz.ntmps155
 go_wp2_with (first
  |(go_at_call 218;refine(xiV _ _ _).mono ?_;rintro e w' ⟨rfl,rfl⟩)
  |go_in)
 ·have h:([c]==s.toList)=true:=by assumption
  go_ret
  refine⟨?_,rfl⟩;have e:s.data.toList=[c]:=by rw[<-Lib.toList_data];exact(beq_iff_eq.1 h).symm
  rw[e];simp[Lib.indexByte]
 ·go_ret
  exact⟨rfl,rfl⟩
def p215:t6->List aB->Nat->Option eg
 |[.str a],[],0=>some ⟨.bool (nameB a),[],[]⟩
 |_,_,_=>none
def p276:t6->List aB->Nat->Option eg
 |[.byt a _,.u8 c],[],0=>some ⟨.int .i64 (tQ a c),[],[]⟩
 |_,_,_=>none
def p218:t6->List aB->Nat->Option eg
 |[.str a,.u8 c],[],0=>some ⟨.int .i64 (Lib.indexByte a c),[],[]⟩
 |_,_,_=>none
def p155:t6->List aB->Nat->Option eg
 |[.str a,.str [c]],[],0=>some ⟨.int .i64 (Lib.indexByte a c),[],[]⟩
 |_,_,_=>none
def p223:t6->List aB->Nat->Option eg
 |[.str a,.str [c]],[],0=>some ⟨.int .i64 (a.count c:Nat),[],[]⟩
 |_,_,_=>none
theorem uJ{x:Sit}{a b:SV}{vs:LAa}(h:cn x [a,b] vs):∃u v,vs=[u,v]/\Rep x a u/\Rep x b v:=by
 match vs,h with
 |[u,v],h=>exact⟨u,v,rfl,h.2 0 (by simp),h.2 1 (by simp)⟩
 |[],h=>simp[cn]at h
 |[_],h=>simp[cn]at h
 |_::_::_::_,h=>simp[cn]at h
theorem repL1{x:Sit}{a:SV}{vs:LAa}(h:cn x [a] vs):∃u,vs=[u]/\Rep x a u:=by
 match vs,h with
 |[u],h=>exact⟨u,rfl,h.2 0 (by simp)⟩
 |[],h=>simp[cn]at h
 |_::_::_,h=>simp[cn]at h
theorem p276_ok:∀y os k q,p276 y os k=some q->gk Tryz.prog 276 y os k (· =q):=by
 intro y os k q h;unfold p276 at h;split at h
 ·cases h
  refine gb (by kernel_rfl) fun x w vs C z=> ?_
  obtain⟨u,v,rfl,F,E⟩:=uJ C;obtain rfl:=Tc E;refine(xlm w _ _ u (p8 F z)).mono ?_;rintro e w' ⟨rfl,rfl⟩;exact⟨_,rfl,.dat _ _ (.int _ _) trivial,Below.refl _ _⟩
 ·cases h
theorem p215_ok:∀y os k q,p215 y os k=some q->gk Tryz.prog 215 y os k (· =q):=by
 intro y os k q h;unfold p215 at h;split at h
 ·cases h
  refine gb (by kernel_rfl) fun x w vs z F=> ?_
  obtain⟨u,rfl,E⟩:=repL1 z;obtain rfl:=jG E;refine(xlp w _).mono ?_;rintro e w' ⟨rfl,C⟩;exact⟨_,rfl,.dat _ _ (.bool _) trivial,C⟩
 ·cases h
theorem p218_ok:∀y os k q,p218 y os k=some q->gk Tryz.prog 218 y os k (· =q):=by
 intro y os k q h;unfold p218 at h;split at h
 ·rename_i a c
  cases h;refine gb (by kernel_rfl) fun x w vs E H=> ?_
  obtain⟨u,v,rfl,C,F⟩:=uJ E;obtain rfl:=jG C;obtain rfl:=Tc F;refine(xiV w _ _).mono ?_;rintro e w' ⟨rfl,rfl⟩;refine⟨_,rfl, ?_,Below.refl _ _⟩;have z:((c.toNat:Int).toNat).toUInt8=c:=by simp
  rw[z];exact .dat _ _ (.int _ _) trivial
 ·cases h
theorem p155_ok:∀y os k q,p155 y os k=some q->gk Tryz.prog 155 y os k (· =q):=by
 intro y os k q h;unfold p155 at h;split at h
 ·cases h
  refine gb (by kernel_rfl) fun x w vs z F=> ?_
  obtain⟨u,v,rfl,E,C⟩:=uJ z;obtain rfl:=jG E;obtain rfl:=jG C;refine(xiW w _ _).mono ?_;rintro e w' ⟨rfl,rfl⟩;exact⟨_,rfl,.dat _ _ (.int _ _) trivial,Below.refl _ _⟩
 ·cases h
theorem p223_ok:∀y os k q,p223 y os k=some q->gk Tryz.prog 223 y os k (· =q):=by
 intro y os k q h;unfold p223 at h;split at h
 ·cases h
  refine gb (by kernel_rfl) fun x w vs z F=> ?_
  obtain⟨u,v,rfl,E,C⟩:=uJ z;obtain rfl:=jG E;obtain rfl:=jG C;refine(xiU w _ _).mono ?_;rintro e w' ⟨rfl,rfl⟩;exact⟨_,rfl,.dat _ _ (.int _ _) trivial,Below.refl _ _⟩
 ·cases h
end Pr
end Go.Proofs.YtmhhnklkcmpdkaaGreatDoor
namespace Go.Proofs.YtmhhnklkcmpdkaaGreatDoor
open Go.Sy
open Go.Sy
open Go.RowKit Go.ChangeShapes Go.WideShapes
namespace Pr
variable [aW]
def SD:ByteArray:=⟨#[48,49,50,51,52,53,54,55,56,57,97,98,99,100,101,102]⟩
theorem NN:∀(n:Nat)(h:n<SD.size),SD[n]'h=hd4 (aQ n):=by
 intro n h;have y:n<16:=h;have:∀n:Fin 16,SD[n.val]'n.isLt=hd4 (aQ n.val):=by decide
 exact this ⟨n,y⟩
theorem nib:∀c:UInt8,aQ (c.toNat/16)=c>>>4/\aQ (c.toNat % 16)=c&&&15:=by
 intro c;have:∀b:Fin 256,aQ ((aQ b.val).toNat/16)=(aQ b.val)>>>4/\aQ ((aQ b.val).toNat % 16)=(aQ b.val)&&&15:=by decide+kernel
 simpa using this ⟨c.toNat,c.toNat_lt⟩
theorem xec(c:UInt8)(h:c.toNat/16<SD.size):(({data:= #[48,49,50,51,52,53,54,55,56,57,97,98,99,100,101,102]}:ByteArray)[c.toNat/16]'h)=hd4 (c>>>4):=by rw[<-(nib c).1];exact NN _ h
theorem xea(c:UInt8)(h:c.toNat % 16<SD.size):(({data:= #[48,49,50,51,52,53,54,55,56,57,97,98,99,100,101,102]}:ByteArray)[c.toNat % 16]'h)=hd4 (c&&&15):=by rw[<-(nib c).2];exact NN _ h
theorem wv:∀a b:d9,gZ (a++b)=gZ a++gZ b
 |[],b=>rfl
 |x::a,b=>by rw[br,gZ,gZ,wv a b];rfl
set_option maxHeartbeats 4000000 in
set_option maxRecDepth 1000000 in
theorem w82(w:World)(l:d9)(b off n cap:Nat)(hn:n=l.length)(hb:b<w.heap.size)(H:∀i,i<n->w.cell? ⟨b,off+i,none⟩=some (.int .u8 (l.getD i 0).toNat))(hp:0<n)(T:n<=1000000000):
 Calls Tryz.prog 82 #[.slice (some ⟨b,off,none⟩) n cap] w fun e w'=>e= .returned (.string ⟨(gZ l).toArray⟩)/\Below w.heap.size w w':=by
 subst hn;have a1:(((l.length:Nat):Int)==0)=false:=beq_eq_false_iff_ne.2 (by omega)
 go_enter Tryz.func82,Tryz.ntmps82
 go_wp2
 go_loopw [11] (fun i wr=>∃j:Nat,j<=l.length/\i= .int .i64 j/\Lib.IsBuilderF 123 5 w.heap.size w.heap.size (Lib.byteCells (gZ (l.take j))) wr/\Below w.heap.size w wr) (fun i _=>l.length-(intOf i).toNat)
 case atStart=>refine⟨0,bC _,rfl,Lib.IsBuilderF.of (Lib.fresh_isBuilder 123 5 w),(Below.refl _ w).alloc (bc _) _⟩
 case round=>
  obtain⟨j,hj,rfl,F,h⟩:=hrel;have I:=h.size;have Z:(gZ (l.take j)).length<=2000000000:=by rw[qO,av];omega
  by_cases O:j<l.length
  ·have a6:wr.cell? ⟨b,off+j,none⟩=some (.int .u8 (l.getD j 0).toNat):=by rw[<-H j O];exact h.cell (p:=⟨b,off+j,none⟩) hb
   have C:gZ (l.take (j+1))=gZ (l.take j)++ [hd4 (l.getD j 0>>>4),hd4 (l.getD j 0&&&15)]:=by rw[List.take_add_one,ab (by omega),wv,aa,ab (by omega)];rfl
   have HT:=Lib.hid C;clear C H;generalize l.getD j 0=c at*
   go_wp2_with (go_at_call 36;refine(Any.Builder_WriteByte_k lyB xet w.heap.size w.heap.size _ _ _ F (by rw[Lib.byteCells_length];omega) I).mono ?_;rintro e W1 ⟨rfl,h1,E,k1⟩;refine Hid.out ?_)
   rotate_left
   ·exfalso
    have:=c.toNat_lt;omega
   refine Lib.hid ?_;have Q:=E.size
   go_wp2_with (go_at_call 36;refine(Any.Builder_WriteByte_k lyB xet w.heap.size w.heap.size _ _ _ (Or.inr h1) (by rw[ac,Lib.byteCells_length];simp;omega) (by omega)).mono ?_;rintro e W2 ⟨rfl,h2,b2,k2⟩;refine Hid.out ?_)
   refine Lib.hid ?_
   go_wp2
   go_roundw
   case rel=>
    refine⟨j+1,by omega,by push_cast;rfl, ?_,(h.trans E).trans b2⟩;refine Or.inr ?_;rw[HT.out,show ∀x y z:UInt8,gZ (l.take j)++ [x,y]=(gZ (l.take j)++ [x])++ [y]from fun x y z=>by simp,Lib.byteCells_append,Lib.byteCells_append]
    ·refine(congrArg (fun L=>Lib.BuilderAtF 123 5 w.heap.size w.heap.size (Value.pointer (some ⟨w.heap.size,0,none⟩)) L W2) ?_).mp h2
     have e1:Lib.byteCells [hd4 (c>>>4)]=[Value.int .u8 ((hd4 (c>>>4)).toNat:Int)]:=rfl;have e2:Lib.byteCells [hd4 (c&&&15)]=[Value.int .u8 ((hd4 (c&&&15)).toNat:Int)]:=rfl;rw[e1,e2];refine congr (congrArg _ (congrArg _ ?_)) ?_
     ·exact congrArg (fun z:UInt8=> [Value.int .u8 (z.toNat:Int)]) (xec c _)
     ·exact congrArg (fun z:UInt8=> [Value.int .u8 (z.toNat:Int)]) (xea c _)
    ·exact 0
   case measure=>simp[intOf];omega
  ·have J:j=l.length:=by omega
   subst J;have W:l.take l.length=l:=ba;rw[W]at F;clear H W
   go_wp2_with (go_at_call 37;refine(Any.Builder_String_any_k lyT YK w.heap.size w.heap.size (gZ l) _ F (by omega)).mono ?_;rintro e W1 ⟨rfl,_,E,_⟩)
   go_ret
   exact⟨rfl,h.trans E⟩
end Pr
end Go.Proofs.YtmhhnklkcmpdkaaGreatDoor
namespace Go.Proofs.YtmhhnklkcmpdkaaGreatDoor
open Go.Sy
open Go.Sy
open Go.RowKit Go.ChangeShapes Go.WideShapes
namespace Pr
open Classical in
noncomputable def p82:t6->List aB->Nat->Option eg
 |[.byt l _],[],0=>if l.length<=1000000000 then some ⟨.str (iY l),[],[]⟩else none
 |_,_,_=>none
theorem tO{w:World}{b o:Nat}{v:Value}(h:w.cell? ⟨b,o,none⟩=some v):b<w.heap.size:=by
 unfold World.cell? at h;rcases bP b w.heap.size with y|y
 ·exact y
 ·rw[Array.getElem?_eq_none y]at h;cases h
set_option maxRecDepth 100000 in
theorem xe2(w:World)(a:Option Addr):Calls Tryz.prog 82 #[.slice a 0 0] w fun e w'=>e= .returned (.string ⟨#[45]⟩)/\w'=w:=by
 cases a<;>
 ·go_enter Tryz.func82,Tryz.ntmps82
  go_wp2
  go_ret
  exact⟨rfl,rfl⟩
set_option maxRecDepth 100000 in
theorem xe1(w:World)(a:Addr)(cap:Nat):Calls Tryz.prog 82 #[.slice (some a) 0 cap] w fun e w'=>e= .returned (.string ⟨#[45]⟩)/\w'=w:=by
 go_enter Tryz.func82,Tryz.ntmps82
 go_wp2
 go_ret
 exact⟨rfl,rfl⟩
theorem p82_ok:∀z os k q,p82 z os k=some q->gk Tryz.prog 82 z os k (· =q):=by
 intro z os k q h;unfold p82 at h;split at h
 ·rename_i l t
  split at h
  ·rename_i L
   cases h;refine gb (by kernel_rfl) fun x w vs F I=> ?_
   obtain⟨u,rfl,H⟩:=repL1 F;rcases p8 H I with⟨rfl,a,rfl⟩|⟨b,off,n,cap,rfl,hn,hc⟩
   ·refine(xe2 w a).mono ?_
    rintro e w' ⟨rfl,rfl⟩;exact⟨_,rfl,.dat _ _ (.str [45]) trivial,Below.refl _ _⟩
   ·subst hn
    by_cases E:l.length=0
    ·have y:l=[]:=bx.1 E
     subst y;refine(xe1 w ⟨b,off,none⟩ cap).mono ?_;rintro e w' ⟨rfl,rfl⟩;exact⟨_,rfl,.dat _ _ (.str [45]) trivial,Below.refl _ _⟩
    ·have J:=tO (hc 0 (by omega))
     refine(w82 w l b off l.length cap rfl J hc (by omega) L).mono ?_;rintro e w' ⟨rfl,C⟩;have hv:iY l=gZ l:=if_neg (fun e=>E (by rw[e];rfl));refine⟨_,rfl, ?_,C⟩;rw[hv];exact .dat _ _ (.str _) trivial
  ·cases h
 ·cases h
def oQ:d8->Option (List d9)
 |[]=>some []
 |[.str w]::r=>(oQ r).map (w:: ·)
 |_=>none
def wsv(l:List d9):d8:=l.map fun w=> [.str w]
theorem strsOf_wsv:∀l:List d9,oQ (wsv l)=some l
 |[]=>rfl
 |w::r=>by have h:=strsOf_wsv r;unfold wsv at h ⊢;rw[aG,oQ,h];rfl
theorem rW:∀{rows:d8}{l:List d9},oQ rows=some l->rows=wsv l
 |[],l,h=>by cases h;rfl
 |q::r,l,h=>by
  unfold oQ at h;split at h
  ·rename_i y;cases y
  ·rename_i w F y
   obtain⟨m,z,rfl⟩:=ae.1 h;injection y with E C
   subst E C;rw[rW z];rfl
  ·cases h
def joinB(ws:List d9)(h:d9):d9:=Lib.join ws h
def p84:t6->List aB->Nat->Option eg
 |[.lst 1 rows _,.str sep],[],0=>match oQ rows with
  |some ws=>if ws≠ []/\ws.length<=1000000000/\(joinB ws sep).length<=140737488355328 then some ⟨.str (joinB ws sep),[],[]⟩else none
  |none=>none
 |_,_,_=>none
theorem xlv{G:GM}{l:d9}{v:Value}(h:cy G (.str l) v):v= .string ⟨⟨l⟩⟩:=by cases h;rfl
theorem lst_inv{G:GM}{y:Nat}{rows:d8}{t:Tok}{v:Value}(h:cy G (.lst y rows t) v):
 rows=[]\/∃(b off cap:Nat)(val:Nat->Nat->Value),v= .slice (some ⟨b,off,none⟩) rows.length cap/\rows.length<=cap/\(∀i j,i<rows.length->j<y->G b (off+i*y+j)=some (val i j))/\∀i j,i<rows.length->j<y->cy G ((rows.getD i []).getD j .undef) (val i j):=by
 cases h with
 |lstN=>exact .inl rfl
 |lstE=>exact .inl rfl
 |lst _ _ _ b off cap n val hn C E z h=>subst hn;exact .inr ⟨b,off,cap,val,rfl,C,z,h⟩
theorem p84_ok:∀O os k q,p84 O os k=some q->gk Tryz.prog 84 O os k (· =q):=by
 intro O os k q h;unfold p84 at h;split at h
 ·rename_i rows t J
  split at h
  ·rename_i ws L
   split at h
   ·rename_i hc
    obtain⟨Z,h1,h2⟩:=hc;cases h;obtain rfl:=rW L;refine gb (by kernel_rfl) fun x w vs hr hp=> ?_
    obtain⟨u,v,rfl,r1,r2⟩:=uJ hr;obtain rfl:=jG r2;have F:(wsv ws).length=ws.length:=aC ..;rcases lst_inv (r1.data rfl)with he|⟨b,off,cap,val,rfl,hcap,hg,hrep⟩
    ·rw[he]at F
     exact absurd (bx.1 F.symm) Z
    ·rw[F]at hcap hg hrep ⊢
     have z:∀j,j<ws.length->w.cell? ⟨b,off+j,none⟩=some (.string ⟨⟨ws.getD j []⟩⟩):=fun j C=>by
      have g1:=hp _ _ _ (hg j 0 C (by decide));have W:=hrep j 0 C (by decide)
      have e1:((wsv ws).getD j []).getD 0 .undef= .str (ws.getD j []):=by simp[wsv,aa,C]
      rw[e1]at W;have e2:val j 0= .string ⟨⟨ws.getD j []⟩⟩:=xlv W;rw[e2,js,bW]at g1;exact g1
     have I:0<ws.length:=nq.2 Z;have hb:=tO (z 0 I)
     have E:(ws.map fun l=>(⟨⟨l⟩⟩:ByteArray)).map (·.data.toList)=ws:=by
      rw[wN]
      conv=>rhs;rw[<-List.map_id ws]
      rfl
     have C:=Any.strings_Join lyJ xl1 b off cap (ws.map fun l=>(⟨⟨l⟩⟩:ByteArray)) ⟨⟨J⟩⟩ w (fun j y T=>by rw[aN]at T;obtain⟨l,H,rfl⟩:=ae.1 T;have C:=(List.getElem?_eq_some_iff.1 H).1;rw[z j C,aa,H];rfl) hb (by rw[aC];omega) (by rw[aC];exact hcap) (by rw[E];exact h2)
     rw[E,aC]at C;refine C.mono ?_;rintro e w' ⟨rfl,Q⟩;exact⟨_,rfl,.dat _ _ (.str _) trivial,Q⟩
   ·cases h
  ·cases h
 ·cases h
def atoR(s:d9):SV:=match Lib.atoiAll s with
 | .ok v=> .tup [.int .i64 v,.nili]
 | .range=> .tup [.int .i64 (Lib.atoiSat s),.ife]
 |_=> .tup [.int .i64 0,.ife]
def p157:t6->List aB->Nat->Option eg
 |[.str s],[],0=>if s.length<=1000000000 then some ⟨atoR s,[],[]⟩else none
 |_,_,_=>none
theorem NH{G:GM}(z:Lay G){g:Nat}(h:aW.cells g=some [.ife]):∃t u,G g 0=some (.iface t u):=by obtain⟨v,C,y⟩:=z g _ h 0 (by decide);cases y;exact⟨_,_,C⟩
theorem qD{x:Sit}{a b:SV}{u v:Value}(y:Rep x a u)(h:Rep x b v):Rep x (.tup [a,b]) (.tuple #[u,v]):=
 .tup _ _ rfl fun i hi=>by
  match i,hi with
  |0,_=>exact y
  |1,_=>exact h
theorem p157_ok:∀C os k q,p157 C os k=some q->gk Tryz.prog 157 C os k (· =q):=by
 intro C os k q h;unfold p157 at h;split at h
 ·rename_i s
  split at h
  ·rename_i O
   cases h;refine jW (by kernel_rfl) fun x w vs L E F=> ?_
   obtain⟨u,rfl,I⟩:=repL1 L;obtain rfl:=jG I;have H:(⟨⟨s⟩⟩:ByteArray).size=s.length:=rfl;unfold atoR;cases ha:Lib.atoiAll s with
   |ok v=>
    refine(Any.strconv_Atoi_ok lyA ⟨⟨s⟩⟩ (by omega) v ha w).mono ?_;rintro e w' ⟨rfl,J⟩;refine⟨_,rfl,qD (.dat _ _ (.int _ _) trivial) (.dat _ _ .nili trivial), ?_⟩;rcases J with rfl|⟨t,rfl⟩
    ·exact Below.refl _ _
    ·exact Lib.bytesWorld_below _ _ _
   |range=>obtain⟨ty,pv,z⟩:=NH F (g:=3) rfl;refine(Any.strconv_Atoi_range lyA ⟨⟨s⟩⟩ (by omega) ha (.iface ty pv) w (E _ _ _ z) (.inr ⟨_,_,rfl⟩)).mono ?_;rintro e w' ⟨N,rfl,_,_,y⟩;exact⟨_,rfl,qD (.dat _ _ (.int _ _) trivial) (.dat _ _ (.ife _ _) trivial),y⟩
   |_=>obtain⟨ty,pv,z⟩:=NH F (g:=2) rfl;refine(Any.strconv_Atoi_syntax lyA ⟨⟨s⟩⟩ (by omega) ha (.iface ty pv) w (E _ _ _ z) (.inr ⟨_,_,rfl⟩)).mono ?_;rintro e w' ⟨N,rfl,_,_,y⟩;exact⟨_,rfl,qD (.dat _ _ (.int _ _) trivial) (.dat _ _ (.ife _ _) trivial),y⟩
  ·cases h
 ·cases h
end Pr
end Go.Proofs.YtmhhnklkcmpdkaaGreatDoor
namespace Go.Proofs.YtmhhnklkcmpdkaaGreatDoor
open Go.Sy
open Go.Sy
open Go.RowKit Go.ChangeShapes Go.WideShapes Go.Sort
namespace Pr
theorem Co:∀d,d<10->dgC d=aQ (48+d):=by decide
theorem SG:∀n:Nat,dec n=Lib.decDigits n:=by
 intro n;induction n using Nat.strongRecOn with
 |_ n y=>
  by_cases h:n<10
  ·rw[kA h,Lib.decDigits,dif_pos h,Co n h]
  ·rw[mH h,Lib.decDigits,dif_neg h,y (n/10) (by omega),Co (n % 10) (by omega)]
set_option maxHeartbeats 2000000 in
set_option maxRecDepth 100000 in
theorem xln(u:Nat)(L:1<=u)(F:u<18446744073709551616)(w:World)(I:∀i,i<20->w.cell? ⟨1,i,none⟩=some (.int .u64 ((10^i:Nat):Int))):
 Calls Tryz.prog 270 #[.int .u64 u] w fun e w'=>e= .returned (.int .i64 (Lib.nDigits u))/\w'=w:=by
 obtain⟨h,C⟩:=Lib.numDigits_eq u L F;have H:Lib.bitLen u<=64:=Lib.bitLen_le u 64 (bc _) F;have y:=I (Lib.l10 (Lib.bitLen u)) (by omega);have z:((u:Int)).toNat=u:=by omega
 clear I;generalize O:Lib.l10 (Lib.bitLen u)=q at h C y;generalize Q:10^q=T at h y;have J:q<20:=by omega
 have E:=Lib.hid h;clear h
 go_enter Tryz.func270,Tryz.ntmps270
 go_wp2_with (first
  |(go_at_call 313;refine(Any.bits_Len64 {lyA with} _ _ (by omega) (by omega)).mono ?_;rintro e w' ⟨rfl,rfl⟩)
  |(go_at_call 312;refine(Any.internal_strconv_log10Pow2 {lyA with} _ (by first|exact H|(rw[z];exact H)) _).mono ?_;rintro e w' ⟨rfl,rfl⟩)
  |(go_at_call 314;refine(Any.internal_strconv_bool2_int {lyA with} _ _).mono ?_;rintro e w' ⟨rfl,rfl⟩))
 all_goals go_ret
 all_goals (
  refine⟨?_,rfl⟩;have h:=E.out
  congr 2
  split at h<;>simp_all<;>omega)
theorem vB(w:World)(k:Nat)(os:Array Obj):Below w.heap.size w (grow (w.drewN k) os):=
 ⟨rfl,rfl,rfl,by simp[grow,World.drewN],fun b h=>by simp[grow,World.drewN,Array.getElem?_append,h]⟩
set_option maxHeartbeats 4000000 in
set_option maxRecDepth 100000 in
theorem xlq(u:Nat)(hu:u<9223372036854775808)(w:World)(Q:∀i,i<20->w.cell? ⟨1,i,none⟩=some (.int .u64 ((10^i:Nat):Int))):
 Calls Tryz.prog 207 #[.int .i64 u,.int .i64 10] w fun e w'=>e= .returned (.string ⟨(Lib.decDigits u).toArray⟩)/\Below w.heap.size w w':=by
 by_cases hs:u<100
 ·go_enter Tryz.func207,Tryz.ntmps207
  go_wp2_with (go_at_call 269;refine(Any.internal_strconv_small {lyA with} u hs _).mono ?_;rintro e w' ⟨rfl,rfl⟩)
  go_ret
  exact⟨rfl,Below.refl _ _⟩
 ·have F:1<=u:=by omega
  have y:u<18446744073709551616:=by omega
  have Z:Lib.nDigits u<=20:=by have:=Lib.numDigits_eq u F y;split at this<;>omega
  obtain⟨nd,T⟩:∃nd,nd=Lib.nDigits u:=⟨_,rfl⟩;have E:Tryz.prog.arrayLen 397=24:=by kernel_rfl
  have L:Tryz.prog.elem 397=5:=by kernel_rfl
  have z:=Lib.holds_zero w 397 (Lib.nDigits u) (by omega);have C:=Any.internal_strconv_formatBase10 lyF w.heap.size 1 23 u (ei (Lib.nDigits u) 0) (w.alloc (.cells Lib.zeros24 397)) z (by rw[Array.size_replicate];exact Lib.lt_pow_nDigits u) y (by rw[Array.size_replicate];omega);rw[Array.size_replicate]at C;have HR:=Lib.hid z
  have I:∀i,i<20->(w.alloc (.cells Lib.zeros24 397)).cell? ⟨1,i,none⟩=some (.int .u64 ((10^i:Nat):Int)):=fun i hi=>by have h1:(⟨1,i,none⟩:Addr).block<w.heap.size:=tO (Q i hi);rw[World.cell?_alloc_lt _ _ _ h1];exact Q i hi
  have a1:∀W,(CG 397 (.pointer (some ⟨w.heap.size,0,none⟩)) (some (.int .i64 1)) (some (.int .i64 (1+(Lib.nDigits u:Int)))) none).run Tryz.prog W= .ok (.slice (some ⟨w.heap.size,1,none⟩) (Lib.nDigits u) 23) W:=fun W=>by
   rw[run_sliceAt_array_lh W 397 ⟨w.heap.size,0,none⟩ (by kernel_rfl) .i64 .i64 1 (1+(Lib.nDigits u:Int)) (by omega) (by omega) (by rw[E];omega)]
   go_simp
   omega
  clear z E L Q
  go_enter Tryz.func207,Tryz.ntmps207
  go_wp2_with (first
   |(go_at_call 270;refine(xln u F y _ I).mono ?_;rintro e w' ⟨rfl,rfl⟩))
  go_at_call 271
  refine C.mono ?_;rintro e w' ⟨rfl,k,v',H,rfl,O⟩
  have a6:(convert 23 9 (.slice (some ⟨w.heap.size,1,none⟩) (Lib.nDigits u) 23)).run Tryz.prog ((putRow (fun(b:UInt8)=>Value.int .u8 (b.toNat:Int)) (w.alloc (.cells Lib.zeros24 397)) w.heap.size 1 H).drewN k)= .ok (.string ⟨(Lib.decDigits u).toArray⟩) ((putRow (fun(b:UInt8)=>Value.int .u8 (b.toNat:Int)) (w.alloc (.cells Lib.zeros24 397)) w.heap.size 1 H).drewN k):=by
   have h:=run_convert_bytes_back (P:=Tryz.prog) ((putRow (fun(b:UInt8)=>Value.int .u8 (b.toNat:Int)) (w.alloc (.cells Lib.zeros24 397)) w.heap.size 1 H).drewN k) 23 9 5 ⟨w.heap.size,1,none⟩ 23 (Lib.decDigits u) Tryz.underlying23 Tryz.underlying5 Tryz.underlying9 (fun j J=>by rw[Lib.row_is_numeral O j J,Lib.add_plain,World.cell?_drewN];exact cell?_putRow (fun(b:UInt8)=>Value.int .u8 (b.toNat:Int)) _ w.heap.size 1 _ H HR.out (by rw[O.size,Array.size_replicate]) j (by rw[O.size];rw[Lib.decDigits_length]at J;exact J))
   rw[Lib.decDigits_length]at h;exact h
  go_wp2
  go_ret
  obtain⟨os,eo⟩:=Lib.fin_pos w (.cells Lib.zeros24 397) H k;refine⟨rfl, ?_⟩;rw[eo];exact vB w k os
def p207:t6->List aB->Nat->Option eg
 |[.int .i64 n,.int .i64 b],[],0=>if 0<=n/\n<9223372036854775808/\b=10 then some ⟨.str (dec n.toNat),[],[]⟩else none
 |_,_,_=>none
theorem xcd{x:Sit}{w:World}(y:∀b o v,x.G b o=some v->w.cell? ⟨b,o,none⟩=some v)(z:Lay x.G):∀i,i<20->w.cell? ⟨1,i,none⟩=some (.int .u64 ((10^i:Nat):Int)):=fun i hi=>by
 obtain⟨v,C,h⟩:=z 1 Ef rfl i hi
 have e:∀i,i<20->Ef.getD i .undef= .int .u64 ((10^i:Nat):Int):=by
  intro i hi;have:i=0\/i=1\/i=2\/i=3\/i=4\/i=5\/i=6\/i=7\/i=8\/i=9\/i=10\/i=11\/i=12\/i=13\/i=14\/i=15\/i=16\/i=17\/i=18\/i=19:=by omega
  rcases this with rfl|rfl|rfl|rfl|rfl|rfl|rfl|rfl|rfl|rfl|rfl|rfl|rfl|rfl|rfl|rfl|rfl|rfl|rfl|rfl<;>rfl
 rw[e i hi]at h;cases h;exact y _ _ _ C
theorem NF{x:Sit}{k:IntKind}{n:Int}{v:Value}(h:Rep x (.int k n) v):v= .int k n:=by
 cases h with
 |dat _ _ h _=>cases h;rfl
theorem p207_ok:∀y os k q,p207 y os k=some q->gk Tryz.prog 207 y os k (· =q):=by
 intro y os k q h;unfold p207 at h;split at h
 ·rename_i n b
  split at h
  ·rename_i F
   obtain⟨L,O,rfl⟩:=F;cases h;refine jW (by kernel_rfl) fun x w vs I z J=> ?_
   obtain⟨u,v,rfl,H,C⟩:=uJ I;obtain rfl:=NF H;obtain rfl:=NF C;obtain⟨m,rfl⟩:∃m:Nat,n=m:=⟨n.toNat,by omega⟩;refine(xlq m (by omega) w (xcd z J)).mono ?_;rintro e w' ⟨rfl,E⟩;refine⟨_,rfl, ?_,E⟩;rw[fX,SG];exact .dat _ _ (.str _) trivial
  ·cases h
 ·cases h
end Pr
end Go.Proofs.YtmhhnklkcmpdkaaGreatDoor
namespace Go.Proofs.YtmhhnklkcmpdkaaGreatDoor
open Go.Sy
open Go.Sy
open Go.RowKit Go.ChangeShapes Go.WideShapes
namespace Pr
variable [aW]
theorem qc{t e:TypeId}{B b:Nat}{bs:LAa}{w w':World}(h:Lib.IsBuilderF t e B b bs w)(I:Below w.heap.size w w'):Lib.IsBuilderF t e B b bs w':=by
 have lt:∀k o,w.heap[k]? =some o->w'.heap[k]? =some o:=fun k o E=>by rw[I.block k (dS.1 E).1];exact E
 have z:∀p,Lib.BuilderAtF t e B b p bs w->Lib.BuilderAtF t e B b p bs w':=by
  rintro p ⟨F,v,H,y,C⟩;refine⟨F,v,lt _ _ H,⟨y.1, ?_⟩,C⟩;rcases y.2 with hn|⟨g,cap,cur,fz,hv,hbg,hg,rest⟩
  ·exact .inl hn
  ·exact .inr ⟨g,cap,cur,fz,hv,hbg,lt _ _ hg,rest⟩
 exact h.elim (fun x=> .inl (z _ x)) (fun x=> .inr (z _ x))
theorem mg{B:Nat}{w w1 y:World}(z:Below B w w1)(h:Below w1.heap.size w1 y)(C:B<=w1.heap.size):Below B w y:=
 z.trans ⟨h.os,h.tape,h.output,h.size,fun b E=>h.block b (by omega)⟩
theorem jT(w:World)(cs:LAb)(t:TypeId)(i:Nat)(v:Value)(h:cs[i]? =some v):(w.alloc (.cells cs t)).cell? ⟨w.heap.size,i,none⟩=some v:=by rw[World.cell?_alloc_new];exact h
set_option maxHeartbeats 4000000 in
set_option maxRecDepth 1000000 in
theorem w10(w:World)(n b off cap:Nat)(v0 v1 v2 v3:Nat->Int)(a4 a5 a6:Nat->Option Addr)(n4 n5 n6 c4 c5 c6:Nat->Nat)(I:Nat->Bool)(L F:Nat->d9)(R:d9)
 (hb:0<n->b<w.heap.size) (h0:∀i,i<n->w.cell? ⟨b,off+i*7,none⟩=some (.int .i64 (v0 i))) (h1:∀i,i<n->w.cell? ⟨b,off+i*7+1,none⟩=some (.int .i64 (v1 i)))
 (h2:∀i,i<n->w.cell? ⟨b,off+i*7+2,none⟩=some (.int .i64 (v2 i))) (h3:∀i,i<n->w.cell? ⟨b,off+i*7+3,none⟩=some (.int .i64 (v3 i)))
 (h4:∀i,i<n->w.cell? ⟨b,off+i*7+4,none⟩=some (.slice (a4 i) (n4 i) (c4 i))) (h5:∀i,i<n->w.cell? ⟨b,off+i*7+5,none⟩=some (.slice (a5 i) (n5 i) (c5 i))) (h6:∀i,i<n->w.cell? ⟨b,off+i*7+6,none⟩=some (.slice (a6 i) (n6 i) (c6 i))) (hn:n<=1000000)
 (d6:F 0=[]) (hF:∀i,i<n->F (i+1)=F i++(L i++ [10])) (T:(∀i,i<n->I i=true)->R=F n) (O:∀i,i<n->I i=false->R=[]) (hL:∀i,i<n->I i=true->(L i).length<=90000)
 (b3:∀i,i<=n->(∀k,k<i->I k=true)->(F i).length<=100000000000)
 (e0:∀i wr,i<n->Below w.heap.size w wr->Calls Tryz.prog 33 #[.agg #[.int .i64 (v0 i),.int .i64 (v1 i),.int .i64 (v2 i),.int .i64 (v3 i),.slice (a4 i) (n4 i) (c4 i),.slice (a5 i) (n5 i) (c5 i),.slice (a6 i) (n6 i) (c6 i)]] wr fun e w'=>e= .returned (.bool (I i))/\Below wr.heap.size wr w')
 (d7:∀i wr,i<n->I i=true->Below w.heap.size w wr->Calls Tryz.prog 35 #[.agg #[.int .i64 (v0 i),.int .i64 (v1 i),.int .i64 (v2 i),.int .i64 (v3 i),.slice (a4 i) (n4 i) (c4 i),.slice (a5 i) (n5 i) (c5 i),.slice (a6 i) (n6 i) (c6 i)]] wr fun e w'=>e= .returned (.string ⟨(L i).toArray⟩)/\Below wr.heap.size wr w'):
 Calls Tryz.prog 10 #[.slice (some ⟨b,off,none⟩) n cap] w fun e w'=>e= .returned (.string ⟨R.toArray⟩)/\Below w.heap.size w w':=by
 go_enter Tryz.func10,Tryz.ntmps10
 go_wp2
 go_loopw [8] (fun i wr=>∃j:Nat,j<=n/\i= .int .i64 j/\(∀k,k<j->I k=true)/\Lib.IsBuilderF 123 5 w.heap.size w.heap.size (Lib.byteCells (F j)) wr/\Below w.heap.size w wr/\w.heap.size<wr.heap.size) (fun i _=>n-(intOf i).toNat)
 case atStart=>exact⟨0,bC _,rfl,fun k hk=>absurd hk (Nat.not_lt_zero _),by rw[d6];exact Lib.IsBuilderF.of (Lib.fresh_isBuilder 123 5 w),(Below.refl _ w).alloc (bc _) _,by simp⟩
 case round=>
  obtain⟨j,hj,rfl,E,hI,W,i6⟩:=hrel
  by_cases y:j<n
  ·have e8:=hb (by omega)
   have old:∀k v,w.cell? ⟨b,k,none⟩=some v->wr.cell? ⟨b,k,none⟩=some v:=fun k v h=>by rw[<-h];exact W.cell (p:=⟨b,k,none⟩) e8
   have g0:=old _ _ (h0 j y);have g1:=old _ _ (h1 j y);have g2:=old _ _ (h2 j y);have g3:=old _ _ (h3 j y);have g4:=old _ _ (h4 j y);have g5:=old _ _ (h5 j y);have g6:=old _ _ (h6 j y);have f6:b<wr.heap.size:=by omega
   have Z:=e0 j;have Q:=d7 j;have b5:=hL j y;have e4:=b3 j (by omega) E;have b4:=hF j y;clear h0 h1 h2 h3 h4 h5 h6 d6 e0 d7 hb hL hF old;generalize v0 j=x0 at*;generalize v1 j=x1 at*;generalize v2 j=x2 at*;generalize v3 j=x3 at*;generalize a4 j=y4 at*;generalize a5 j=y5 at*;generalize a6 j=y6 at*;generalize n4 j=m4 at*;generalize n5 j=m5 at*;generalize n6 j=m6 at*;generalize c4 j=z4 at*;generalize c5 j=z5 at*;generalize c6 j=z6 at*;have J:Below w.heap.size w (wr.alloc (Obj.cells #[.int .i64 x0,.int .i64 x1,.int .i64 x2,.int .i64 x3,.slice y4 m4 z4,.slice y5 m5 z5,.slice y6 m6 z6] 109)):=W.alloc (by omega) _;have H:=Z _ y J;have a1:=hI.alloc (Obj.cells #[.int .i64 x0,.int .i64 x1,.int .i64 x2,.int .i64 x3,.slice y4 m4 z4,.slice y5 m5 z5,.slice y6 m6 z6] 109);have hr:∀k u,(#[.int .i64 x0,.int .i64 x1,.int .i64 x2,.int .i64 x3,.slice y4 m4 z4,.slice y5 m5 z5,.slice y6 m6 z6]:LAb)[k]? =some u->(wr.alloc (Obj.cells #[.int .i64 x0,.int .i64 x1,.int .i64 x2,.int .i64 x3,.slice y4 m4 z4,.slice y5 m5 z5,.slice y6 m6 z6] 109)).cell? ⟨wr.heap.size,k,none⟩=some u:=fun k u h=>jT wr _ 109 k u h
   have f1:(wr.alloc (Obj.cells #[.int .i64 x0,.int .i64 x1,.int .i64 x2,.int .i64 x3,.slice y4 m4 z4,.slice y5 m5 z5,.slice y6 m6 z6] 109)).heap.size=wr.heap.size+1:=by simp
   cases hW:I j with
   |false=>
    have HA:=Lib.hid (O j y hW);rw[hW]at H;clear O T b3 hr Z Q hI a1 b4 e4 b5
    go_wp2_with (go_at_call 33;refine H.mono ?_;rintro e W1 ⟨rfl,C⟩)
    go_ret
    rw[HA.out];exact⟨rfl,mg J C (by omega)⟩
   |true=>
    rw[hW]at H
    go_wp2_with (go_at_call 33;refine H.mono ?_;rintro e W1 ⟨rfl,C⟩;refine Hid.out ?_)
    have c7:=mg J C (by omega);have b2:=qc a1 C;have h7:=C.size
    have z:∀k u,(#[.int .i64 x0,.int .i64 x1,.int .i64 x2,.int .i64 x3,.slice y4 m4 z4,.slice y5 m5 z5,.slice y6 m6 z6]:LAb)[k]? =some u->W1.cell? ⟨wr.heap.size,k,none⟩=some u:=fun k u h=>by rw[<-hr k u h];exact C.cell (p:=⟨wr.heap.size,k,none⟩) (by rw[f1];exact Nat.lt_succ_self _)
    have r0:=z 0 _ rfl;have r1:=z 1 _ rfl;have r2:=z 2 _ rfl;have r3:=z 3 _ rfl;have r4:=z 4 _ rfl;have r5:=z 5 _ rfl;have r6:=z 6 _ rfl;have e1:=Q W1 y hW c7;have h9:wr.heap.size<W1.heap.size:=by omega
    clear hr z Z Q H hI a1;refine Lib.hid ?_
    go_wp2_with (go_at_call 35;refine e1.mono ?_;rintro e W2 ⟨rfl,a7⟩;refine Hid.out ?_)
    have f0:=mg c7 a7 (by omega);have f2:=qc b2 a7;have i7:=a7.size;clear r0 r1 r2 r3 r4 r5 r6 b2;have g9:=b5 hW
    have b6:(Lib.byteCells (F j)).length+(⟨(L j).toArray⟩:ByteArray).size<=140737488355328:=by rw[Lib.byteCells_length];show(F j).length+(L j).toArray.size<=_;rw[List.size_toArray];omega
    have d5:(Lib.byteCells (F j)++Lib.strCells (⟨(L j).toArray⟩:ByteArray)).length+1<=140737488355328:=by rw[ac,Lib.byteCells_length,Lib.strCells_length];show(F j).length+(L j).toArray.size+1<=_;rw[List.size_toArray];omega
    have e2:w.heap.size<=W2.heap.size:=by omega
    refine Lib.hid ?_
    go_wp2_with (go_at_call 34;refine(Any.Builder_WriteString_k lyS xkO w.heap.size w.heap.size _ _ _ f2 b6 e2).mono ?_;rintro e W3 ⟨rfl,e9,a8,g8⟩;refine Hid.out ?_)
    have i1:=a8.size;have e6:w.heap.size<=W3.heap.size:=by omega
    refine Lib.hid ?_
    go_wp2_with (go_at_call 36;refine(Any.Builder_WriteByte_k lyB xet w.heap.size w.heap.size _ _ _ (Or.inr e9) d5 e6).mono ?_;rintro e W4 ⟨rfl,e7,b7,g7⟩;refine Hid.out ?_)
    refine Lib.hid ?_;have h8:=b7.size
    go_wp2
    go_roundw
    case rel=>
     refine⟨j+1,by omega,by push_cast;rfl,fun k hk=> ?_, ?_,(f0.trans a8).trans b7,by omega⟩
     ·by_cases e:k=j
      ·rw[e];exact hW
      ·exact E k (by omega)
     ·refine Or.inr ?_
      rw[b4,Lib.byteCells_append,Lib.byteCells_append,<-ay];exact e7
    case measure=>simp[intOf];omega
  ·have e5:j=n:=by omega
   subst e5;have e3:=Lib.hid (T E);clear T O
   go_wp2_with (go_at_call 37;refine(Any.Builder_String_any_k lyT YK w.heap.size w.heap.size (F j) _ hI (by omega)).mono ?_;rintro e W1 ⟨rfl,_,b1,_⟩)
   go_ret
   rw[e3.out];exact⟨rfl,W.trans b1⟩
set_option maxHeartbeats 4000000 in
set_option maxRecDepth 1000000 in
theorem w10_0(w:World)(a:Option Addr)(cap:Nat):Calls Tryz.prog 10 #[.slice a 0 cap] w fun e w'=>e= .returned (.string ⟨#[]⟩)/\Below w.heap.size w w':=by
 go_enter Tryz.func10,Tryz.ntmps10
 go_wp2
 refine wp_loop_rounds 1 ?_;rw[rounds_succ]
 go_wp2_with (go_at_call 37;refine(Any.Builder_String_any_k lyT YK w.heap.size w.heap.size [] _ (Lib.IsBuilderF.of (Lib.fresh_isBuilder 123 5 w)) (by simp)).mono ?_;rintro e y ⟨rfl,_,h,_⟩)
 go_ret
 exact⟨rfl,((Below.refl _ w).alloc (bc _) _).trans h⟩
end Pr
end Go.Proofs.YtmhhnklkcmpdkaaGreatDoor
namespace Go.Proofs.YtmhhnklkcmpdkaaGreatDoor
open Go.Sy
open Go.Sy
open Go.RowKit Go.ChangeShapes Go.WideShapes
namespace Pr
variable [aW]
set_option maxHeartbeats 4000000 in
set_option maxRecDepth 1000000 in
theorem xbb(w:World):Calls Tryz.prog 207 #[.int .i64 0,.int .i64 10] w fun e w'=>e= .returned (.string ⟨#[48]⟩)/\w'=w:=by
 go_enter Tryz.func207,Tryz.ntmps207
 go_wp2_with (go_at_call 269;refine(Any.internal_strconv_small {lyA with} 0 (by decide) _).mono ?_;rintro e w' ⟨rfl,rfl⟩)
 go_ret
 refine⟨?_,rfl⟩;show Ending.returned (Value.string ⟨(Lib.decDigits 0).toArray⟩)=_;rw[Lib.decDigits,dif_pos (by decide)];rfl
theorem xbc(w:World):Calls Tryz.prog 136 #[.int .i64 0] w fun e w'=>e= .returned (.string ⟨#[48]⟩)/\w'=w:=by
 go_enter Tryz.func136,Tryz.ntmps136
 go_wp2_with (go_at_call 207;refine(xbb _).mono ?_;rintro e w' ⟨rfl,rfl⟩)
 go_ret
 exact⟨rfl,rfl⟩
theorem xe3(w:World):Calls Tryz.prog 64 #[.int .i64 0] w fun e w'=>e= .returned (.string ⟨#[48]⟩)/\w'=w:=by
 go_enter Tryz.func64,Tryz.ntmps64
 go_wp2_with (go_at_call 136;refine(xbc _).mono ?_;rintro e w' ⟨rfl,rfl⟩)
 go_ret
 exact⟨rfl,rfl⟩
set_option maxHeartbeats 4000000 in
set_option maxRecDepth 1000000 in
theorem w63(w:World)(B b:Nat)(C:Lib.IsBuilderF 123 5 B b [] w)(z:B<=w.heap.size):
 Calls Tryz.prog 63 #[.string ⟨#[99,108,111,99,107]⟩,.int .i64 0,.string ⟨#[]⟩,.pointer (some ⟨b,0,none⟩)] w
  fun e w'=>e= .returned (.tuple #[])/\Lib.IsBuilderF 123 5 B b (Lib.byteCells [99,108,111,99,107,32,48,10]) w'/\Below B w w':=by
 go_enter Tryz.func63,Tryz.ntmps63
 go_wp2_with (first
  |(go_at_call 64;refine(xe3 _).mono ?_;rintro e w' ⟨rfl,rfl⟩)
  |(go_at_call 34;refine(Any.Builder_WriteString_k lyS xkO B b [] _ _ C (by decide) z).mono ?_;rintro e F ⟨rfl,h,y,E⟩))
 go_end0
 exact⟨rfl,Or.inr h,y⟩
set_option maxHeartbeats 4000000 in
set_option maxRecDepth 1000000 in
theorem Ga(t e:TypeId)(B:Nat)(w:World)(h:B<=w.heap.size):Lib.IsBuilderF t e B w.heap.size [] (w.alloc (.cells #[.pointer none,.slice none 0 0] t)):=
 Lib.IsBuilderF.of (Or.inl ⟨h,.slice none 0 0,dN,World.ownsRow_nil _ _ _ _,by simp[Value.ownBlock]⟩)
set_option maxHeartbeats 4000000 in
set_option maxRecDepth 1000000 in
theorem w24(w:World)(x2 I:Int)(H a3 a4 a5 E F a9 b0 y z O:Option Addr)(c1 c3 c4 c5 L c8 c9 d0 d1 d2 d3:Nat):
 Calls Tryz.prog 24 #[.agg #[.int .i64 0,.slice H 0 c1,.int .i64 x2,.slice a3 0 c3,.slice a4 0 c4,.slice a5 0 c5,.int .i64 I,.slice E 0 L,.slice F 0 c8,.slice a9 0 c9,.slice b0 0 d0,.slice y 0 d1,.slice z 0 d2,.slice O 0 d3]] w
  fun e w'=>e= .returned (.string ⟨#[99,108,111,99,107,32,48,10]⟩)/\Below w.heap.size w w':=by
 go_enter Tryz.func24,Tryz.ntmps24
 have J:=Ga 123 5 (w.heap.size+1) (w.alloc (Obj.cells #[.int .i64 0,.slice H 0 c1,.int .i64 x2,.slice a3 0 c3,.slice a4 0 c4,.slice a5 0 c5,.int .i64 I,.slice E 0 L,.slice F 0 c8,.slice a9 0 c9,.slice b0 0 d0,.slice y 0 d1,.slice z 0 d2,.slice O 0 d3] 66)) (by simp);have W:(w.alloc (Obj.cells #[.int .i64 0,.slice H 0 c1,.int .i64 x2,.slice a3 0 c3,.slice a4 0 c4,.slice a5 0 c5,.int .i64 I,.slice E 0 L,.slice F 0 c8,.slice a9 0 c9,.slice b0 0 d0,.slice y 0 d1,.slice z 0 d2,.slice O 0 d3] 66)).heap.size=w.heap.size+1:=by simp
 rw[W]at J;have Q:Below w.heap.size w ((w.alloc (Obj.cells #[.int .i64 0,.slice H 0 c1,.int .i64 x2,.slice a3 0 c3,.slice a4 0 c4,.slice a5 0 c5,.int .i64 I,.slice E 0 L,.slice F 0 c8,.slice a9 0 c9,.slice b0 0 d0,.slice y 0 d1,.slice z 0 d2,.slice O 0 d3] 66)).alloc (Obj.cells #[Value.pointer none,Value.slice none 0 0] 123)):=((Below.refl _ w).alloc (bc _) _).alloc (by simp) _
 have f0:((w.alloc (Obj.cells #[.int .i64 0,.slice H 0 c1,.int .i64 x2,.slice a3 0 c3,.slice a4 0 c4,.slice a5 0 c5,.int .i64 I,.slice E 0 L,.slice F 0 c8,.slice a9 0 c9,.slice b0 0 d0,.slice y 0 d1,.slice z 0 d2,.slice O 0 d3] 66)).alloc (Obj.cells #[Value.pointer none,Value.slice none 0 0] 123)).cell? ⟨w.heap.size,10,none⟩=some (.slice b0 0 d0):=by rw[World.cell?_alloc_lt _ _ _ (by rw[W];exact Nat.lt_succ_self _)];exact jT w _ 66 10 _ rfl
 have f1:((w.alloc (Obj.cells #[.int .i64 0,.slice H 0 c1,.int .i64 x2,.slice a3 0 c3,.slice a4 0 c4,.slice a5 0 c5,.int .i64 I,.slice E 0 L,.slice F 0 c8,.slice a9 0 c9,.slice b0 0 d0,.slice y 0 d1,.slice z 0 d2,.slice O 0 d3] 66)).alloc (Obj.cells #[Value.pointer none,Value.slice none 0 0] 123)).cell? ⟨w.heap.size,12,none⟩=some (.slice z 0 d2):=by rw[World.cell?_alloc_lt _ _ _ (by rw[W];exact Nat.lt_succ_self _)];exact jT w _ 66 12 _ rfl
 have C:w.heap.size+1<=((w.alloc (Obj.cells #[.int .i64 0,.slice H 0 c1,.int .i64 x2,.slice a3 0 c3,.slice a4 0 c4,.slice a5 0 c5,.int .i64 I,.slice E 0 L,.slice F 0 c8,.slice a9 0 c9,.slice b0 0 d0,.slice y 0 d1,.slice z 0 d2,.slice O 0 d3] 66)).alloc (Obj.cells #[Value.pointer none,Value.slice none 0 0] 123)).heap.size:=by simp
 go_wp2_with (first
  |(go_at_call 63;refine(w63 _ (w.heap.size+1) _ J C).mono ?_;rintro e T ⟨rfl,h1,h⟩;refine Hid.out ?_))
 have g0:T.cell? ⟨w.heap.size,10,none⟩=some (.slice b0 0 d0):=by rw[<-f0];exact h.cell (p:=⟨w.heap.size,10,none⟩) (Nat.lt_succ_self _)
 have g1:T.cell? ⟨w.heap.size,12,none⟩=some (.slice z 0 d2):=by rw[<-f1];exact h.cell (p:=⟨w.heap.size,12,none⟩) (Nat.lt_succ_self _)
 have a6:=h.size;have Z:w.heap.size+1<=T.heap.size:=by omega
 have b4:Below w.heap.size w T:=Q.trans ⟨h.os,h.tape,h.output,h.size,fun b hb=>h.block b (by omega)⟩;have b5:w.heap.size<T.heap.size:=by omega
 clear J f0 f1 Q W C h a6;refine Lib.hid ?_
 go_wp2
 refine wp_loop_rounds 1 ?_;rw[rounds_succ]
 go_wp2
 refine wp_loop_rounds 1 ?_;rw[rounds_succ]
 go_wp2_with (go_at_call 37;refine(Any.Builder_String_any_k lyT YK (w.heap.size+1) (w.heap.size+1) [99,108,111,99,107,32,48,10] _ h1 Z).mono ?_;rintro e W2 ⟨rfl,_,y,_⟩)
 go_ret
 exact⟨rfl,b4.trans ⟨y.os,y.tape,y.output,y.size,fun b hb=>y.block b (by omega)⟩⟩
end Pr
end Go.Proofs.YtmhhnklkcmpdkaaGreatDoor
namespace Go.Proofs.YtmhhnklkcmpdkaaGreatDoor
open Go.Sy
open Go.Sy
open Go.RowKit Go.Shelf
namespace Pr
variable [aW]
def xl2:Go.Shelf.Ren:=⟨fun|221=>156|268=>222|138=>223|143=>224|195=>281|197=>282|218=>283|219=>155|260=>318|217=>218|225=>219|224=>220|267=>221|266=>279|314=>280|n=>n,fun|9=>9|3=>3|31=>40|4=>4|0=>0|105=>407|21=>21|5=>5|46=>39|119=>452|139=>455|138=>454|146=>405|51=>300|n=>n,fun|1=>0|3=>4|4=>5|n=>n⟩
theorem lyG:Go.Proofs.Lays.n221 Tryz.prog xl2:= {mixed:=by kernel_rfl,f138:=Tryz.func223.trans (congrArg some (by kernel_rfl)),f143:=Tryz.func224.trans (congrArg some (by kernel_rfl)),f195:=Tryz.func281.trans (congrArg some (by kernel_rfl)),f197:=Tryz.func282.trans (congrArg some (by kernel_rfl)),f217:=Tryz.func218.trans (congrArg some (by kernel_rfl)),f218:=Tryz.func283.trans (congrArg some (by kernel_rfl)),f219:=Tryz.func155.trans (congrArg some (by kernel_rfl)),f221:=Tryz.func156.trans (congrArg some (by kernel_rfl)),f224:=Tryz.func220.trans (congrArg some (by kernel_rfl)),f225:=Tryz.func219.trans (congrArg some (by kernel_rfl)),f260:=Tryz.func318.trans (congrArg some (by kernel_rfl)),f266:=Tryz.func279.trans (congrArg some (by kernel_rfl)),f267:=Tryz.func221.trans (congrArg some (by kernel_rfl)),f268:=Tryz.func222.trans (congrArg some (by kernel_rfl)),f314:=Tryz.func280.trans (congrArg some (by kernel_rfl)),t0:=Tryz.underlying0,a0:=Tryz.isAgg0,z0:=Tryz.sizeOf0,v0:=Tryz.zeroValue0,t3:=Tryz.underlying3,a3:=Tryz.isAgg3,z3:=Tryz.sizeOf3,v3:=Tryz.zeroValue3,t4:=Tryz.underlying4,a4:=Tryz.isAgg4,z4:=Tryz.sizeOf4,v4:=Tryz.zeroValue4,t5:=Tryz.underlying5,a5:=Tryz.isAgg5,z5:=Tryz.sizeOf5,v5:=Tryz.zeroValue5,t9:=Tryz.underlying9,a9:=Tryz.isAgg9,z9:=Tryz.sizeOf9,v9:=Tryz.zeroValue9,t21:=Tryz.underlying21,a21:=Tryz.isAgg21,z21:=Tryz.sizeOf21,v21:=Tryz.zeroValue21,t31:=Tryz.underlying40,a31:=Tryz.isAgg40,z31:=Tryz.sizeOf40,v31:=Tryz.zeroValue40,t46:=Tryz.underlying39,a46:=Tryz.isAgg39,z46:=Tryz.sizeOf39,v46:=Tryz.zeroValue39,t51:=Tryz.underlying300,a51:=Tryz.isAgg300,z51:=Tryz.sizeOf300,v51:=Tryz.zeroValue300,t105:=Tryz.underlying407,a105:=Tryz.isAgg407,z105:=Tryz.sizeOf407,v105:=Tryz.zeroValue407,t119:=Tryz.underlying452,a119:=Tryz.isAgg452,z119:=Tryz.sizeOf452,t138:=Tryz.underlying454,a138:=Tryz.isAgg454,z138:=Tryz.sizeOf454,v138:=Tryz.zeroValue454,t139:=Tryz.underlying455,a139:=Tryz.isAgg455,z139:=Tryz.sizeOf455,v139:=Tryz.zeroValue455,t146:=Tryz.underlying405,a146:=Tryz.isAgg405,z146:=Tryz.sizeOf405,v146:=Tryz.zeroValue405,g1:=by kernel_rfl,g3:=by kernel_rfl,g4:=by kernel_rfl}
theorem ixc(d c:UInt8)(r:d9):Lib.indexByte (d::r) c=if d=c then 0 else if Lib.indexByte r c= -1 then-1 else Lib.indexByte r c+1:=by
 rw[Lib.indexByte]
 by_cases h:d=c
 ·rw[if_pos h,if_pos (beq_iff_eq.2 h)]
 ·rw[if_neg h,if_neg (fun e=>h (beq_iff_eq.1 e))]
  by_cases y:Lib.indexByte r c= -1
  ·rw[if_pos y,if_pos (beq_iff_eq.2 y)]
  ·rw[if_neg y,if_neg (fun e=>y (beq_iff_eq.1 e))]
theorem ixa:∀(w r:d9)(c:UInt8),c∉w->Lib.indexByte (w++c::r) c=(w.length:Nat)
 |[],r,c,_=>by rw[aR,ixc,if_pos rfl];rfl
 |d::w,r,c,h=>by
  have z:¬d=c:=fun e=>h (by rw[e];exact aq)
  have C:=ixa w r c (fun y=>h (af _ y));rw[br,ixc,if_neg z,C,if_neg (by omega),ah];omega
theorem dca:∀(s:d9)(c:UInt8),c∈s->∃w r,s=w++c::r/\c∉w
 |d::t,c,h=>by
  by_cases e:d=c
  ·exact⟨[],t,by rw[e];rfl,by simp⟩
  ·rcases al.1 h with h|h
   ·exact absurd h.symm e
   ·obtain⟨w,r,C,z⟩:=dca t c h
    exact⟨d::w,r,by rw[C];rfl,fun y=>by
     rcases al.1 y with y|y
     ·exact e y.symm
     ·exact z y⟩
theorem xi0:∀(k:Nat)(s:d9),s.count 32=k->Lib.splitK [32] 0 k s=dY s
 |0,s,h=>by have hn:(32:UInt8)∉s:=List.count_eq_zero.1 h;rw[Lib.splitK,qA s hn]
 |k+1,s,h=>by
  have z:(32:UInt8)∈s:=List.count_pos_iff.1 (by omega);obtain⟨w,r,rfl,y⟩:=dca s 32 z
  have C:r.count 32=k:=by rw[List.count_append,List.count_cons_self,List.count_eq_zero.2 y]at h;omega
  have hi:Lib.index (w++32::r) [32]=((w.length:Nat):Int):=by rw[Lib.index_one,ixa w r 32 y]
  rw[Lib.splitK,hi,if_neg (fun e=>by have:=beq_iff_eq.1 e;omega),qB w r y];simp only[fX,bW,List.take_left,aD];rw[show w.length+1=(w++ [32]).length from by simp,show w++32::r=(w++ [32])++r from by simp,List.drop_left,xi0 k r C]
set_option maxRecDepth 100000 in
theorem xlo(w:World)(s:ByteArray)(c:UInt8):
 Calls Tryz.prog 224 #[.string s,.string ⟨#[c]⟩] w fun e w'=>e= .returned (.int .i64 (Lib.indexByte s.data.toList c))/\w'=w:=by
 go_enter Tryz.func224,Tryz.ntmps224
 go_wp2_with (first
  |(go_at_call 155;refine(xiW _ _ _).mono ?_;rintro e w' ⟨rfl,rfl⟩)
  |go_in)
 go_ret
 exact⟨rfl,rfl⟩
theorem xlr(w:World)(s:ByteArray)(I:s.size<4294967281):
 Calls Tryz.prog 156 #[.string s,.string ⟨#[32]⟩,.int .i64 0,.int .i64 (-1)] w fun e w'=>e= .returned (.slice (some ⟨w.heap.size,0,none⟩) (dY s.data.toList).length (dY s.data.toList).length)/\w'=w.alloc (.cells ((dY s.data.toList).map fun l=>Value.string ⟨⟨l⟩⟩).toArray 9):=by
 have C:1<=(⟨#[32]⟩:ByteArray).size:=by decide
 have z:Lib.countB s ⟨#[32]⟩=s.data.toList.count 32:=by show Lib.count s.data.toList [32]=_;rw[Lib.count_one]
 have E:=Lib.countB_le ⟨#[32]⟩ C s.size s (bc _);have h:=Lib.splitB_all ⟨#[32]⟩ C 0 _ s rfl;have y:=Lib.splitB_data ⟨#[32]⟩ 0 (Lib.countB s ⟨#[32]⟩) s;rw[show(⟨#[32]⟩:ByteArray).data.toList=[32]from rfl,xi0 (Lib.countB s ⟨#[32]⟩) _ z.symm]at y
 have c:=Any.strings_genSplit_core lyG (by kernel_rfl) s ⟨#[32]⟩ 0 (-1) (Lib.countB s ⟨#[32]⟩+1) w I C (bC _)
  (fun x c O=>by refine(xlo (w.alloc (.cells c 9)) x 32).mono ?_;rintro e w' ⟨rfl,rfl⟩;refine⟨?_,rfl⟩;show _=Ending.returned (Value.int .i64 (Lib.index x.data.toList [32]));rw[Lib.index_one])
  (by refine(xiU w s 32).mono ?_;rintro e w' ⟨rfl,rfl⟩;refine⟨?_,rfl⟩;rw[z];rfl)
  (by decide) (by decide) (by rw[if_pos (by decide)];omega)
 rw[Nat.add_sub_cancel,h]at c;generalize Lib.splitB ⟨#[32]⟩ 0 (Lib.countB s ⟨#[32]⟩) s=L at*;refine c.mono ?_;rintro e w' ⟨rfl,rfl⟩;have F:Lib.cellsOf L (Lib.countB s ⟨#[32]⟩+1)=(L.map Value.string).toArray:=by rw[<-h];exact Lib.cellsOf_full _
 have J:(L.map Value.string)=(dY s.data.toList).map fun l=>Value.string ⟨⟨l⟩⟩:=by rw[<-y,wN];apply List.map_congr_left;intro x _;show Value.string x=Value.string ⟨⟨x.data.toList⟩⟩;rfl
 have H:(dY s.data.toList).length=Lib.countB s ⟨#[32]⟩+1:=by rw[<-y,aC,h]
 rw[F,J,H];exact⟨rfl,rfl⟩
def p156:t6->List aB->Nat->Option eg
 |[.str s,.str [32],.int .i64 0,.int .i64 (-1)],[],0=>if s.length<=1000000000 then some ⟨.lst 1 (wsv (dY s)) .no,[],[]⟩else none
 |_,_,_=>none
theorem xfl{x:Sit}{a b c d:SV}{vs:LAa}(h:cn x [a,b,c,d] vs):∃u v z q,vs=[u,v,z,q]/\Rep x a u/\Rep x b v/\Rep x c z/\Rep x d q:=by
 match vs,h with
 |[u,v,z,q],h=>exact⟨u,v,z,q,rfl,h.2 0 (by simp),h.2 1 (by simp),h.2 2 (by simp),h.2 3 (by simp)⟩
 |[],h=>simp[cn]at h
 |[_],h=>simp[cn]at h
 |[_,_],h=>simp[cn]at h
 |[_,_,_],h=>simp[cn]at h
 |_::_::_::_::_::_,h=>simp[cn]at h
theorem xkU{x:Sit}{k:IntKind}{n:Int}{v:Value}(h:Rep x (.int k n) v):v= .int k n:=by
 cases h with
 |dat _ _ h _=>cases h;rfl
theorem p156_ok:∀I os k q,p156 I os k=some q->gk Tryz.prog 156 I os k (· =q):=by
 intro I os k q h;unfold p156 at h;split at h
 ·rename_i s
  split at h
  ·rename_i hl
   cases h;refine⟨by kernel_rfl,fun C x w vs hw hG hm W Z hH T=> ?_⟩;obtain⟨u1,u2,u3,u4,rfl,r1,J,O,L⟩:=xfl T;obtain rfl:=jG r1;obtain rfl:=jG J;obtain rfl:=xkU O;obtain rfl:=xkU L;have F:(⟨⟨s⟩⟩:ByteArray).size<4294967281:=by show s.length<_;omega
   refine(xlr w ⟨⟨s⟩⟩ F).mono ?_;rintro e w' ⟨rfl,rfl⟩;have hd:(⟨⟨s⟩⟩:ByteArray).data.toList=s:=rfl;rw[hd];have H:dq C (x.newD w.heap.size ((dY s).map fun l=>Value.string ⟨⟨l⟩⟩).toArray (dY s).length) (idx []) (tks 50 0) (w.alloc (.cells ((dY s).map fun l=>Value.string ⟨⟨l⟩⟩).toArray 9)):=hH.allocD _;refine⟨_,_,_,rfl,rfl, ?_,H,fun p hp=>by simp at hp,fun i hi=>rfl⟩;refine .dat _ _ ?_ trivial;have E:(wsv (dY s)).length=(dY s).length:=aC ..
   have z:∀i,i<(dY s).length->(wsv (dY s)).getD i []=[.str ((dY s).getD i [])]:=fun i h=>by unfold wsv;rw[aa,aN,ab h,aa,ab h];rfl
   refine .lst 1 (wsv (dY s)) .no w.heap.size 0 (dY s).length (dY s).length (fun i _=>Value.string ⟨⟨(dY s).getD i []⟩⟩) E.symm (bc _) (fun i hi=>by rw[z i hi];rfl) (fun i j hi Q=> ?_) (fun i j hi Q=> ?_)
   ·have y:j=0:=by omega
    subst y;simp only[Sit.newD];rw[if_pos (by constructor<;>first|trivial|omega),show 0+i*1+0=i from by omega];rw[kR,aN,ab hi,aa,ab hi];rfl
   ·have y:j=0:=by omega
    subst y;rw[z i hi];exact .str _
  ·cases h
 ·cases h
end Pr
end Go.Proofs.YtmhhnklkcmpdkaaGreatDoor
