/- Walks of library functions. No condition. -/
import Derived.Test.YtmhhnklkcmpdkaaGreatDoorEcPR
import Derived.Test.YtmhhnklkcmpdkaaGreatDoorProg
import Derived.Ground.NamesProg
import Derived.Shelf.Strings.Builder1
import Derived.Shelf.Strings.BuilderF
import Derived.Shelf.Strings.BuilderK
import Derived.Shelf.Strings.OnBuilder
import Derived.Shelf.Strconv.AtoiAll
import Derived.Shelf.Strconv.Itoa2
import Derived.Lib.AtoiAll
import Derived.WalkKit
import Derived.Lib.Strings
import Derived.Laws.RangeString
import Derived.Laws.RangeAny
import Derived.LoopTactic
import Derived.KernelRfl
import Derived.BigCall
import Derived.Shelf.Strconv.Itoa0
import Derived.Shelf.Strconv.Itoa1
import Derived.Lib.ItoaWalk
import Derived.Lib.ItoaMem
import Derived.Deep.RegionHeld3
import Derived.Deep.MidRow
import Derived.Deep.WholeRow
import Derived.Shelf.Strings.SplitCore
import Derived.Lib.SplitLaws
open Array renaming getElem?_eq_some_iff -> cz, replicate -> eE
open Int renaming toNat_natCast -> eS
open List renaming all_eq_true -> aZ, append_assoc -> aI, cons_append -> aL, getD_eq_getElem?_getD -> aa, getElem?_eq_getElem -> ac, getElem?_map -> aR, getElem?_toArray -> lZ, getElem_mem -> aF, getElem_of_mem -> cr, length_append -> af, length_cons -> ai, length_eq_zero_iff -> cD, length_map -> av, length_nil -> al, length_singleton -> aT, map_cons -> ax, mem_append -> am, mem_cons -> aq, mem_cons_of_mem -> an, mem_cons_self -> aD, mem_singleton -> bC, nil_append -> aA
open Nat renaming add_zero -> fJ, le_refl -> aM, lt_or_ge -> bq, lt_succ_self -> jR, mul_one -> gI, not_lt_zero -> ec, zero_le -> aC
open Option renaming map_eq_some_iff -> aj, some -> ay
open UInt8 renaming ofInt -> aO, ofNat -> eL
set_option linter.unusedSectionVars false
set_option linter.unusedSimpArgs false
set_option linter.unusedVariables false
namespace Go.Proofs.YtmhhnklkcmpdkaaGreatDoor
open Go.Sy
open Go.RowKit Go.Shelf
def xeq:Go.Shelf.Ren:=⟨fun|167=>36|240=>79|276=>149|n=>n,fun|70=>121|5=>5|75=>126|0=>0|72=>123|37=>23|4=>4|164=>287|80=>131|9=>9|n=>n,fun|n=>n⟩
theorem lyB:Go.Proofs.Lays.n167 Tryz.prog xeq:= {mixed:=by kernel_rfl,f167:=Tryz.func36.trans (congrArg some (by kernel_rfl)),f240:=Tryz.func79.trans (congrArg some (by kernel_rfl)),f276:=Tryz.func149.trans (congrArg some (by kernel_rfl)),t0:=Tryz.underlying0,a0:=Tryz.isAgg0,z0:=Tryz.sizeOf0,v0:=Tryz.zeroValue0,t4:=Tryz.underlying4,a4:=Tryz.isAgg4,z4:=Tryz.sizeOf4,v4:=Tryz.zeroValue4,t5:=Tryz.underlying5,a5:=Tryz.isAgg5,z5:=Tryz.sizeOf5,v5:=Tryz.zeroValue5,t9:=Tryz.underlying9,a9:=Tryz.isAgg9,z9:=Tryz.sizeOf9,v9:=Tryz.zeroValue9,t20:=Tryz.underlying20,a20:=Tryz.isAgg20,z20:=Tryz.sizeOf20,v20:=Tryz.zeroValue20,t37:=Tryz.underlying23,a37:=Tryz.isAgg23,z37:=Tryz.sizeOf23,v37:=Tryz.zeroValue23,t70:=Tryz.underlying121,a70:=Tryz.isAgg121,z70:=Tryz.sizeOf121,v70:=Tryz.zeroValue121,t72:=Tryz.underlying123,a72:=Tryz.isAgg123,z72:=Tryz.sizeOf123,v72:=Tryz.zeroValue123,t75:=Tryz.underlying126,a75:=Tryz.isAgg126,z75:=Tryz.sizeOf126,v75:=Tryz.zeroValue126,t164:=Tryz.underlying287,a164:=Tryz.isAgg287,z164:=Tryz.sizeOf287,v164:=Tryz.zeroValue287}
def xeo:Go.Shelf.Ren:=⟨fun|166=>34|240=>79|276=>149|n=>n,fun|70=>121|9=>9|3=>3|75=>126|0=>0|72=>123|37=>23|4=>4|164=>287|80=>131|5=>5|n=>n,fun|n=>n⟩
theorem lyS:Go.Proofs.Lays.n166 Tryz.prog xeo:= {mixed:=by kernel_rfl,f166:=Tryz.func34.trans (congrArg some (by kernel_rfl)),f240:=Tryz.func79.trans (congrArg some (by kernel_rfl)),f276:=Tryz.func149.trans (congrArg some (by kernel_rfl)),t0:=Tryz.underlying0,a0:=Tryz.isAgg0,z0:=Tryz.sizeOf0,v0:=Tryz.zeroValue0,t3:=Tryz.underlying3,a3:=Tryz.isAgg3,z3:=Tryz.sizeOf3,v3:=Tryz.zeroValue3,t4:=Tryz.underlying4,a4:=Tryz.isAgg4,z4:=Tryz.sizeOf4,v4:=Tryz.zeroValue4,t9:=Tryz.underlying9,a9:=Tryz.isAgg9,z9:=Tryz.sizeOf9,v9:=Tryz.zeroValue9,t20:=Tryz.underlying20,a20:=Tryz.isAgg20,z20:=Tryz.sizeOf20,v20:=Tryz.zeroValue20,t37:=Tryz.underlying23,a37:=Tryz.isAgg23,z37:=Tryz.sizeOf23,v37:=Tryz.zeroValue23,t70:=Tryz.underlying121,a70:=Tryz.isAgg121,z70:=Tryz.sizeOf121,v70:=Tryz.zeroValue121,t72:=Tryz.underlying123,a72:=Tryz.isAgg123,z72:=Tryz.sizeOf123,v72:=Tryz.zeroValue123,t75:=Tryz.underlying126,a75:=Tryz.isAgg126,z75:=Tryz.sizeOf126,v75:=Tryz.zeroValue126,t164:=Tryz.underlying287,a164:=Tryz.isAgg287,z164:=Tryz.sizeOf287,v164:=Tryz.zeroValue287}
def xen:Go.Shelf.Ren:=⟨fun|169=>37|n=>n,fun|70=>121|9=>9|0=>0|72=>123|37=>23|127=>207|3=>3|5=>5|n=>n,fun|n=>n⟩
theorem lyT:Go.Proofs.Lays.n169 Tryz.prog xen:= {mixed:=by kernel_rfl,f169:=Tryz.func37.trans (congrArg some (by kernel_rfl)),t0:=Tryz.underlying0,a0:=Tryz.isAgg0,z0:=Tryz.sizeOf0,v0:=Tryz.zeroValue0,t3:=Tryz.underlying3,a3:=Tryz.isAgg3,z3:=Tryz.sizeOf3,v3:=Tryz.zeroValue3,t9:=Tryz.underlying9,a9:=Tryz.isAgg9,z9:=Tryz.sizeOf9,v9:=Tryz.zeroValue9,t37:=Tryz.underlying23,a37:=Tryz.isAgg23,z37:=Tryz.sizeOf23,v37:=Tryz.zeroValue23,t70:=Tryz.underlying121,a70:=Tryz.isAgg121,z70:=Tryz.sizeOf121,v70:=Tryz.zeroValue121,t72:=Tryz.underlying123,a72:=Tryz.isAgg123,z72:=Tryz.sizeOf123,v72:=Tryz.zeroValue123,t127:=Tryz.underlying207,a127:=Tryz.isAgg207,z127:=Tryz.sizeOf207,v127:=Tryz.zeroValue207}
def xep:Go.Shelf.Ren:=⟨fun|156=>84|165=>153|166=>34|169=>37|240=>79|241=>217|276=>149|277=>278|n=>n,fun|31=>40|9=>9|3=>3|4=>4|0=>0|20=>20|72=>123|76=>127|70=>121|37=>23|75=>126|127=>207|164=>287|5=>5|80=>131|n=>n,fun|n=>n⟩
theorem lyJ:Go.Proofs.Lays.n156 Tryz.prog xep:= {mixed:=by kernel_rfl,f156:=Tryz.func84.trans (congrArg some (by kernel_rfl)),f165:=Tryz.func153.trans (congrArg some (by kernel_rfl)),f166:=Tryz.func34.trans (congrArg some (by kernel_rfl)),f169:=Tryz.func37.trans (congrArg some (by kernel_rfl)),f240:=Tryz.func79.trans (congrArg some (by kernel_rfl)),f241:=Tryz.func217.trans (congrArg some (by kernel_rfl)),f276:=Tryz.func149.trans (congrArg some (by kernel_rfl)),f277:=Tryz.func278.trans (congrArg some (by kernel_rfl)),t0:=Tryz.underlying0,a0:=Tryz.isAgg0,z0:=Tryz.sizeOf0,v0:=Tryz.zeroValue0,t3:=Tryz.underlying3,a3:=Tryz.isAgg3,z3:=Tryz.sizeOf3,v3:=Tryz.zeroValue3,t4:=Tryz.underlying4,a4:=Tryz.isAgg4,z4:=Tryz.sizeOf4,v4:=Tryz.zeroValue4,t9:=Tryz.underlying9,a9:=Tryz.isAgg9,z9:=Tryz.sizeOf9,v9:=Tryz.zeroValue9,t20:=Tryz.underlying20,a20:=Tryz.isAgg20,z20:=Tryz.sizeOf20,v20:=Tryz.zeroValue20,t31:=Tryz.underlying40,a31:=Tryz.isAgg40,z31:=Tryz.sizeOf40,v31:=Tryz.zeroValue40,t37:=Tryz.underlying23,a37:=Tryz.isAgg23,z37:=Tryz.sizeOf23,v37:=Tryz.zeroValue23,t70:=Tryz.underlying121,a70:=Tryz.isAgg121,z70:=Tryz.sizeOf121,v70:=Tryz.zeroValue121,t72:=Tryz.underlying123,a72:=Tryz.isAgg123,z72:=Tryz.sizeOf123,v72:=Tryz.zeroValue123,t75:=Tryz.underlying126,a75:=Tryz.isAgg126,z75:=Tryz.sizeOf126,v75:=Tryz.zeroValue126,t76:=Tryz.underlying127,a76:=Tryz.isAgg127,z76:=Tryz.sizeOf127,v76:=Tryz.zeroValue127,t127:=Tryz.underlying207,a127:=Tryz.isAgg207,z127:=Tryz.sizeOf207,v127:=Tryz.zeroValue207,t164:=Tryz.underlying287,a164:=Tryz.isAgg287,z164:=Tryz.sizeOf287,v164:=Tryz.zeroValue287}
def xga:Go.Shelf.Ren:=⟨fun|285=>271|n=>n,fun|37=>23|53=>281|3=>3|4=>4|51=>300|9=>9|5=>5|0=>0|n=>n,fun|n=>n⟩
theorem lyF:Go.Proofs.Lays.n285 Tryz.prog xga:= {mixed:=by kernel_rfl,f285:=Tryz.func271.trans (congrArg some (by kernel_rfl)),t0:=Tryz.underlying0,a0:=Tryz.isAgg0,z0:=Tryz.sizeOf0,v0:=Tryz.zeroValue0,t3:=Tryz.underlying3,a3:=Tryz.isAgg3,z3:=Tryz.sizeOf3,v3:=Tryz.zeroValue3,t4:=Tryz.underlying4,a4:=Tryz.isAgg4,z4:=Tryz.sizeOf4,v4:=Tryz.zeroValue4,t5:=Tryz.underlying5,a5:=Tryz.isAgg5,z5:=Tryz.sizeOf5,v5:=Tryz.zeroValue5,t9:=Tryz.underlying9,a9:=Tryz.isAgg9,z9:=Tryz.sizeOf9,v9:=Tryz.zeroValue9,t37:=Tryz.underlying23,a37:=Tryz.isAgg23,z37:=Tryz.sizeOf23,v37:=Tryz.zeroValue23,t51:=Tryz.underlying300,a51:=Tryz.isAgg300,z51:=Tryz.sizeOf300,v51:=Tryz.zeroValue300,t53:=Tryz.underlying281,a53:=Tryz.isAgg281,z53:=Tryz.sizeOf281,v53:=Tryz.zeroValue281}
def xgc:Go.Shelf.Ren:=⟨fun|172=>157|244=>225|245=>226|247=>284|279=>285|280=>286|281=>287|282=>288|287=>319|316=>320|171=>64|205=>321|321=>335|322=>336|243=>136|246=>207|283=>269|284=>270|285=>271|286=>272|129=>313|317=>312|318=>314|319=>315|320=>316|337=>333|338=>334|n=>n,fun|9=>9|3=>3|75=>126|76=>127|4=>4|5=>5|167=>409|37=>23|0=>0|85=>410|2=>2|168=>412|53=>281|175=>438|46=>39|210=>442|127=>207|145=>458|143=>456|21=>21|171=>397|173=>400|212=>435|51=>300|20=>20|213=>436|232=>464|233=>465|80=>131|n=>n,fun|15=>2|16=>3|17=>1|18=>6|19=>7|n=>n⟩
theorem lyA:Go.Proofs.LaysC.n172 Tryz.prog xgc:= {mixed:=by kernel_rfl,f129:=Tryz.func313.trans (congrArg some (by kernel_rfl)),f171:=Tryz.func64.trans (congrArg some (by kernel_rfl)),f172:=Tryz.func157.trans (congrArg some (by kernel_rfl)),f205:=Tryz.func321.trans (congrArg some (by kernel_rfl)),f243:=Tryz.func136.trans (congrArg some (by kernel_rfl)),f244:=Tryz.func225.trans (congrArg some (by kernel_rfl)),f245:=Tryz.func226.trans (congrArg some (by kernel_rfl)),f246:=Tryz.func207.trans (congrArg some (by kernel_rfl)),f247:=Tryz.func284.trans (congrArg some (by kernel_rfl)),f279:=Tryz.func285.trans (congrArg some (by kernel_rfl)),f280:=Tryz.func286.trans (congrArg some (by kernel_rfl)),f281:=Tryz.func287.trans (congrArg some (by kernel_rfl)),f282:=Tryz.func288.trans (congrArg some (by kernel_rfl)),f283:=Tryz.func269.trans (congrArg some (by kernel_rfl)),f284:=Tryz.func270.trans (congrArg some (by kernel_rfl)),f285:=Tryz.func271.trans (congrArg some (by kernel_rfl)),f286:=Tryz.func272.trans (congrArg some (by kernel_rfl)),f287:=Tryz.func319.trans (congrArg some (by kernel_rfl)),f316:=Tryz.func320.trans (congrArg some (by kernel_rfl)),f317:=Tryz.func312.trans (congrArg some (by kernel_rfl)),f318:=Tryz.func314.trans (congrArg some (by kernel_rfl)),f319:=Tryz.func315.trans (congrArg some (by kernel_rfl)),f320:=Tryz.func316.trans (congrArg some (by kernel_rfl)),f321:=Tryz.func335.trans (congrArg some (by kernel_rfl)),f322:=Tryz.func336.trans (congrArg some (by kernel_rfl)),f337:=Tryz.func333.trans (congrArg some (by kernel_rfl)),f338:=Tryz.func334.trans (congrArg some (by kernel_rfl)),t0:=Tryz.underlying0,a0:=Tryz.isAgg0,z0:=Tryz.sizeOf0,v0:=Tryz.zeroValue0,t2:=Tryz.underlying2,a2:=Tryz.isAgg2,z2:=Tryz.sizeOf2,v2:=Tryz.zeroValue2,t3:=Tryz.underlying3,a3:=Tryz.isAgg3,z3:=Tryz.sizeOf3,v3:=Tryz.zeroValue3,t4:=Tryz.underlying4,a4:=Tryz.isAgg4,z4:=Tryz.sizeOf4,v4:=Tryz.zeroValue4,t5:=Tryz.underlying5,a5:=Tryz.isAgg5,z5:=Tryz.sizeOf5,v5:=Tryz.zeroValue5,t9:=Tryz.underlying9,a9:=Tryz.isAgg9,z9:=Tryz.sizeOf9,v9:=Tryz.zeroValue9,t20:=Tryz.underlying20,a20:=Tryz.isAgg20,z20:=Tryz.sizeOf20,v20:=Tryz.zeroValue20,t21:=Tryz.underlying21,a21:=Tryz.isAgg21,z21:=Tryz.sizeOf21,v21:=Tryz.zeroValue21,t37:=Tryz.underlying23,a37:=Tryz.isAgg23,z37:=Tryz.sizeOf23,v37:=Tryz.zeroValue23,t46:=Tryz.underlying39,a46:=Tryz.isAgg39,z46:=Tryz.sizeOf39,v46:=Tryz.zeroValue39,t51:=Tryz.underlying300,a51:=Tryz.isAgg300,z51:=Tryz.sizeOf300,v51:=Tryz.zeroValue300,t53:=Tryz.underlying281,a53:=Tryz.isAgg281,z53:=Tryz.sizeOf281,v53:=Tryz.zeroValue281,t75:=Tryz.underlying126,a75:=Tryz.isAgg126,z75:=Tryz.sizeOf126,v75:=Tryz.zeroValue126,t76:=Tryz.underlying127,a76:=Tryz.isAgg127,z76:=Tryz.sizeOf127,v76:=Tryz.zeroValue127,t85:=Tryz.underlying410,a85:=Tryz.isAgg410,z85:=Tryz.sizeOf410,v85:=Tryz.zeroValue410,t127:=Tryz.underlying207,a127:=Tryz.isAgg207,z127:=Tryz.sizeOf207,v127:=Tryz.zeroValue207,t143:=Tryz.underlying456,a143:=Tryz.isAgg456,z143:=Tryz.sizeOf456,v143:=Tryz.zeroValue456,t145:=Tryz.underlying458,a145:=Tryz.isAgg458,z145:=Tryz.sizeOf458,v145:=Tryz.zeroValue458,t167:=Tryz.underlying409,a167:=Tryz.isAgg409,z167:=Tryz.sizeOf409,v167:=Tryz.zeroValue409,t168:=Tryz.underlying412,a168:=Tryz.isAgg412,z168:=Tryz.sizeOf412,v168:=Tryz.zeroValue412,t171:=Tryz.underlying397,a171:=Tryz.isAgg397,z171:=Tryz.sizeOf397,v171:=Tryz.zeroValue397,t173:=Tryz.underlying400,a173:=Tryz.isAgg400,z173:=Tryz.sizeOf400,v173:=Tryz.zeroValue400,t175:=Tryz.underlying438,a175:=Tryz.isAgg438,z175:=Tryz.sizeOf438,v175:=Tryz.zeroValue438,t210:=Tryz.underlying442,a210:=Tryz.isAgg442,z210:=Tryz.sizeOf442,v210:=Tryz.zeroValue442,t212:=Tryz.underlying435,a212:=Tryz.isAgg435,z212:=Tryz.sizeOf435,v212:=Tryz.zeroValue435,t213:=Tryz.underlying436,a213:=Tryz.isAgg436,z213:=Tryz.sizeOf436,t232:=Tryz.underlying464,a232:=Tryz.isAgg464,z232:=Tryz.sizeOf464,v232:=Tryz.zeroValue464,t233:=Tryz.underlying465,a233:=Tryz.isAgg465,z233:=Tryz.sizeOf465,v233:=Tryz.zeroValue465,g15:=by kernel_rfl,g16:=by kernel_rfl,g17:=by kernel_rfl,g18:=by kernel_rfl,g19:=by kernel_rfl,t80:=Tryz.underlying131,a80:=Tryz.isAgg131,z80:=Tryz.sizeOf131,v80:=Tryz.zeroValue131,i0:=by kernel_rfl,i2:=by kernel_rfl,i3:=by kernel_rfl,i4:=by kernel_rfl,i5:=by kernel_rfl,i9:=by kernel_rfl,i20:=by kernel_rfl,i21:=by kernel_rfl,i37:=by kernel_rfl,i46:=by kernel_rfl,i51:=by kernel_rfl,i53:=by kernel_rfl,i75:=by kernel_rfl,i76:=by kernel_rfl,i80:=by kernel_rfl,i85:=by kernel_rfl,i127:=by kernel_rfl,i143:=by kernel_rfl,i145:=by kernel_rfl,i167:=by kernel_rfl,i168:=by kernel_rfl,i171:=by kernel_rfl,i173:=by kernel_rfl,i175:=by kernel_rfl,i210:=by kernel_rfl,i212:=by kernel_rfl,i232:=by kernel_rfl,i233:=by kernel_rfl,m15:=by kernel_rfl,m16:=by kernel_rfl,m17:=by kernel_rfl,m18:=by kernel_rfl,m19:=by kernel_rfl,c0:=by kernel_rfl,c2:=by kernel_rfl,c3:=by kernel_rfl,c4:=by kernel_rfl,c5:=by kernel_rfl,c9:=by kernel_rfl,c20:=by kernel_rfl,c21:=by kernel_rfl,c37:=by kernel_rfl,c46:=by kernel_rfl,c51:=by kernel_rfl,c53:=by kernel_rfl,c75:=by kernel_rfl,c76:=by kernel_rfl,c80:=by kernel_rfl,c85:=by kernel_rfl,c127:=by kernel_rfl,c143:=by kernel_rfl,c145:=by kernel_rfl,c167:=by kernel_rfl,c168:=by kernel_rfl,c171:=by kernel_rfl,c173:=by kernel_rfl,c175:=by kernel_rfl,c210:=by kernel_rfl,c212:=by kernel_rfl,c213:=by kernel_rfl,c232:=by kernel_rfl,c233:=by kernel_rfl}
theorem xgb:Builder.Extra Tryz.prog xeq:= {sizeBuilder:=by kernel_rfl,liesBuilder:=by kernel_rfl,t5:=Tryz.underlying5,a5:=Tryz.isAgg5,z5:=Tryz.sizeOf5,v5:=Tryz.zeroValue5,infoByte:=by kernel_rfl,cellsByte:=by kernel_rfl,sizeByte:=by kernel_rfl,neB5:=by decide}
theorem Yh:Builder.Extra Tryz.prog xeo:= {sizeBuilder:=by kernel_rfl,liesBuilder:=by kernel_rfl,t5:=Tryz.underlying5,a5:=Tryz.isAgg5,z5:=Tryz.sizeOf5,v5:=Tryz.zeroValue5,infoByte:=by kernel_rfl,cellsByte:=by kernel_rfl,sizeByte:=by kernel_rfl,neB5:=by decide}
theorem Yg:Builder.Extra Tryz.prog xen:= {sizeBuilder:=by kernel_rfl,liesBuilder:=by kernel_rfl,t5:=Tryz.underlying5,a5:=Tryz.isAgg5,z5:=Tryz.sizeOf5,v5:=Tryz.zeroValue5,infoByte:=by kernel_rfl,cellsByte:=by kernel_rfl,sizeByte:=by kernel_rfl,neB5:=by decide}
theorem xf8:Builder.Extra Tryz.prog xep:= {sizeBuilder:=by kernel_rfl,liesBuilder:=by kernel_rfl,t5:=Tryz.underlying5,a5:=Tryz.isAgg5,z5:=Tryz.sizeOf5,v5:=Tryz.zeroValue5,infoByte:=by kernel_rfl,cellsByte:=by kernel_rfl,sizeByte:=by kernel_rfl,neB5:=by decide}
end Go.Proofs.YtmhhnklkcmpdkaaGreatDoor
namespace Go.Proofs.YtmhhnklkcmpdkaaGreatDoor
open Go.Sy
def J5:LAa:=[.int .u64 1,.int .u64 10,.int .u64 100,.int .u64 1000,.int .u64 10000,.int .u64 100000,.int .u64 1000000,.int .u64 10000000,.int .u64 100000000,.int .u64 1000000000,.int .u64 10000000000,.int .u64 100000000000,.int .u64 1000000000000,.int .u64 10000000000000,.int .u64 100000000000000,.int .u64 1000000000000000,.int .u64 10000000000000000,.int .u64 100000000000000000,.int .u64 1000000000000000000,.int .u64 10000000000000000000]
def xaT:LAa:=[.ife]
def xaS:LAa:=[.ife]
instance:bl:=⟨fun
 |1=>some J5
 |2=>some xaT
 |3=>some xaS
 |_=>none⟩
end Go.Proofs.YtmhhnklkcmpdkaaGreatDoor
namespace Go.Proofs.YtmhhnklkcmpdkaaGreatDoor
open Go.Sy
def vk:List t8->t8
 |[]=> []
 |[w]=>w
 |w::v::r=>w++32::vk (v::r)
def jx:t8->List t8
 |[]=> [[]]
 |c::r=>if c=32 then []::jx r else match jx r with
  |[]=> [[c]]
  |w::ws=>(c::w)::ws
theorem KF(w r:t8)(h:32∉w):jx (w++32::r)=w::jx r:=by
 induction w with
 |nil=>simp[jx]
 |cons c w z=>
  have C:c≠32:=fun e=>h (by rw[e];exact aD)
  rw[aL,jx,if_neg C,z (fun y=>h (an _ y))]
theorem KE(w:t8)(h:32∉w):jx w=[w]:=by
 induction w with
 |nil=>rfl
 |cons c w y=>
  have C:c≠32:=fun e=>h (by rw[e];exact aD)
  rw[jx,if_neg C,y (fun z=>h (an _ z))]
def hd4(n:UInt8):UInt8:=if n<10 then 48+n else 87+n
def MV:t8->t8
 |[]=> []
 |b::r=>hd4 (b>>>4)::hd4 (b&&&15)::MV r
def hv(c:UInt8):UInt8:=if 48<=c/\c<=57 then c-48 else if 97<=c/\c<=102 then c-87 else 16
def hv0(c:UInt8):UInt8:=if hv c=16 then 0 else hv c
end Go.Proofs.YtmhhnklkcmpdkaaGreatDoor
namespace Go.Proofs.YtmhhnklkcmpdkaaGreatDoor
open Go.Sy
def dgC(d:Nat):UInt8:=aO ((48+d:Nat):Int)
theorem M6:∀d,d<10->(dgC d).toNat=48+d/\¬dgC d<48/\¬57<dgC d/\(d≠0->dgC d≠48):=by decide
def dec(n:Nat):t8:=if h:n<10 then [dgC n]else dec (n/10)++ [dgC (n % 10)]
termination_by n
decreasing_by omega
theorem oq{n:Nat}(h:n<10):dec n=[dgC n]:=by rw[dec,dif_pos h]
theorem uP{n:Nat}(h:¬n<10):dec n=dec (n/10)++ [dgC (n % 10)]:=by rw[dec,dif_neg h]
theorem XY(n:Nat):dec n≠ []:=by
 by_cases h:n<10
 ·rw[oq h];simp
 ·rw[uP h];simp
theorem ue:∀k n,n<10^(k+1)->(dec n).length<=k+1
 |0,n,h=>by rw[oq (by simpa using h)];simp
 |k+1,n,h=>by
  by_cases h1:n<10
  ·rw[oq h1];simp
  ·have:=ue k (n/10) (by rw[Nat.pow_succ]at h;omega)
   rw[uP h1,af,aT];omega
theorem TF:∀n,∀c∈dec n,48<=c.toNat/\c.toNat<=57:=by
 intro n;induction n using Nat.strongRecOn with
 |_ n z=>
  intro c y
  by_cases h:n<10
  ·rw[oq h]at y
   have:=(M6 n h).1;simp at y;subst y;omega
  ·rw[uP h,am,bC]at y
   rcases y with y|rfl
   ·exact z (n/10) (by omega) c y
   ·have:=(M6 (n % 10) (by omega)).1
    omega
end Go.Proofs.YtmhhnklkcmpdkaaGreatDoor
namespace Go.Proofs.YtmhhnklkcmpdkaaGreatDoor
open Go.Sy
open Go.RowKit Go.ChangeShapes Go.WideShapes
namespace Pr
variable [bl]
def okc(c:UInt8):Bool:=if c<97\/122<c then(if c<48\/57<c then decide (c=45)else true)else true
def nameB(s:t8):Bool:=if s.length<1\/12<s.length then false else s.all okc
def okn(c:Nat):Prop:=(97<=c/\c<=122)\/(48<=c/\c<=57)\/c=45
set_option maxRecDepth 100000 in
theorem yz(b:UInt8):okc b=true↔okn b.toNat:=by
 have key:∀n,n<256->(okc (eL n)=true↔okn n):=by unfold okn;decide
 have:=key b.toNat b.toNat_lt;rwa[UInt8.ofNat_toNat]at this
theorem Mb(s:ByteArray)(y:Nat)(z:y<s.size):s.data.toList.getD y 0=s[y]'z:=by rw[aa,ac (by simpa using z)];rfl
theorem XX(s:ByteArray)(y c C:Nat)(z:y<s.size)(h:Utf8.decode s y=(c,C)):(okn c->C=1/\okc (s.data.toList.getD y 0)=true)/\(¬okn c->okc (s.data.toList.getD y 0)=false):=by
 rw[Mb s y z]
 by_cases F:(s[y]'z).toNat<128
 ·rw[decode_ascii s y z F]at h
  cases h;refine⟨fun h1=>⟨rfl,(yz _).2 h1⟩,fun h1=> ?_⟩;cases h2:okc (s[y]'z)with
  |false=>rfl
  |true=>exact absurd ((yz _).1 h2) h1
 ·have h2:=(decode_high s y z (by omega)).1
  rw[h]at h2;simp only at h2;refine⟨fun h1=>by unfold okn at h1;omega,fun _=> ?_⟩;cases h3:okc (s[y]'z)with
  |false=>rfl
  |true=>have:=(yz _).1 h3;unfold okn at this;omega
theorem tx(w:World)(s:ByteArray)(y:Nat):Below w.heap.size w (w.iter s y):=(Below.refl _ w).alloc (aM _) _
theorem mH(s:ByteArray):s.data.toList.length=s.size:=by simp
set_option maxRecDepth 100000 in
theorem w215(w:World)(s:ByteArray):
 Calls Tryz.prog 215 #[.string s] w fun e w'=>e= .returned (.bool (nameB s.data.toList))/\Below w.heap.size w w':=by
 go_enter Tryz.func215,Tryz.ntmps215
 go_wp2
 ·go_ret
  refine⟨?_,Below.refl _ _⟩;have:s.data.toList.length<1\/12<s.data.toList.length:=by rw[mH];omega
  unfold nameB;rw[if_pos this];rfl
 ·go_loopw [] (
   fun w'=>∃y:Nat,w'=w.iter s y/\y<=s.size/\∀i,i<y->okc (s.data.toList.getD i 0)=true) (fun w'=>s.size-w'.iterPos w.heap.size)
  case atStart=>exact⟨0,rfl,aC _,fun i hi=>absurd hi (ec i)⟩
  case round=>
   obtain⟨y,rfl,a1,C⟩:=hrel;have z:¬(s.data.toList.length<1\/12<s.data.toList.length):=by rw[mH];omega
   by_cases H:y<s.size
   ·have F:∀ty,(Instr.next (.pointer (some ⟨w.heap.size,0,none⟩)) true ty).run Tryz.prog (w.iter s y)=_:=fun ty=>run_next_any w s y ty H
    obtain⟨g1,I⟩:=XX s y (Utf8.decode s y).1 (Utf8.decode s y).2 H rfl;generalize Utf8.decode s y=dc at F g1 I;obtain⟨c,wd⟩:=dc;simp only at F g1 I;have Q:Hid (okn c->wd=1/\okc (s.data.toList.getD y 0)=true):=g1;have Z:Hid (¬okn c->okc (s.data.toList.getD y 0)=false):=I;have J:Hid (¬(s.data.toList.length<1\/12<s.data.toList.length)):=z;have HA:Hid (∀i,i<y->okc (s.data.toList.getD i 0)=true):=C;clear g1 I z C
    go_wp2
    all_goals (try simp only[bne_iff_ne,bne_eq_false_iff_eq,ne_eq]at*)
    all_goals first
     |(
      have K:okn c:=by unfold okn;omega
      obtain⟨rfl,h1⟩:=Q.out K
      go_roundw
      case rel=>
       refine⟨y+1,rfl,by omega,fun i hi=> ?_⟩;rcases bq i y with h2|h2
       ·exact HA.out i h2
       ·have:i=y:=by omega
        rw[this];exact h1
      case measure=>simp;omega)
     |(
      have K:¬okn c:=by unfold okn;omega
      have h1:=Z.out K
      go_ret
      refine⟨?_,tx _ _ _⟩
      have:nameB s.data.toList=false:=by unfold nameB;rw[if_neg J.out,List.all_eq_false];refine⟨s.data.toList.getD y 0, ?_,by rw[h1];simp⟩;rw[aa,ac (by simpa using H)];exact aF _
      rw[this];rfl)
   ·have F:∀ty,(Instr.next (.pointer (some ⟨w.heap.size,0,none⟩)) true ty).run Tryz.prog (w.iter s y)=_:=fun ty=>run_next_end w s y ty H
    have J:Hid (¬(s.data.toList.length<1\/12<s.data.toList.length)):=z;have HA:Hid (∀i,i<y->okc (s.data.toList.getD i 0)=true):=C;clear z C
    go_wp2
    go_ret
    refine⟨?_,tx _ _ _⟩
    have:nameB s.data.toList=true:=by unfold nameB;rw[if_neg J.out,aZ];intro b hb;obtain⟨i,hi,rfl⟩:=cr hb;have:=HA.out i (by have:=mH s;omega);rwa[aa,ac hi]at this
    rw[this];rfl
 ·go_ret
  refine⟨?_,Below.refl _ _⟩;have:s.data.toList.length<1\/12<s.data.toList.length:=by rw[mH];omega
  unfold nameB;rw[if_pos this];rfl
set_option maxRecDepth 100000 in
theorem xec(w:World)(s:ByteArray)(c:Int):
 Calls Tryz.prog 218 #[.string s,.int .u8 c] w fun e w'=>e= .returned (.int .i64 (Lib.indexByte s.data.toList c.toNat.toUInt8))/\w'=w:=by
 go_enter Tryz.func218,Tryz.ntmps218
 go_wp2
 rw[run_callFunc_extern Tryz.func279 (by kernel_rfl) (by kernel_rfl) (by kernel_rfl) (e:=Extern.BytealgIndexByte.indexByte) (by kernel_rfl),Lib.run_indexByteString];simp only[Result.andThen];rw[Oper.upon_value]
 go_wp2
 go_ret
 exact⟨rfl,rfl⟩
set_option maxRecDepth 100000 in
theorem xeb(w:World)(s:ByteArray)(c:UInt8):
 Calls Tryz.prog 223 #[.string s,.string ⟨#[c]⟩] w fun e w'=>e= .returned (.int .i64 (Lib.countByte s.data.toList c))/\w'=w:=by
 go_enter Tryz.func223,Tryz.ntmps223
 go_wp2
 rw[run_callFunc_extern Tryz.func283 (by kernel_rfl) (by kernel_rfl) (by kernel_rfl) (e:=Extern.BytealgCount.count) (by kernel_rfl),Lib.run_countString];simp only[Result.andThen];rw[Oper.upon_value]
 go_wp2
 go_ret
 exact⟨rfl,rfl⟩
set_option maxHeartbeats 2000000 in
set_option maxRecDepth 100000 in
theorem xed(w:World)(s:ByteArray)(c:UInt8):
 Calls Tryz.prog 155 #[.string s,.string ⟨#[c]⟩] w fun e w'=>e= .returned (.int .i64 (Lib.indexByte s.data.toList c))/\w'=w:=by
 go_enter Tryz.func155,Tryz.ntmps155
 go_wp2_with (first
  |(go_at_call 218;refine(xec _ _ _).mono ?_;rintro e w' ⟨rfl,rfl⟩)
  |go_in)
 ·have h:([c]==s.toList)=true:=by assumption
  go_ret
  refine⟨?_,rfl⟩;have e:s.data.toList=[c]:=by rw[<-Lib.toList_data];exact(beq_iff_eq.1 h).symm
  rw[e];simp[Lib.indexByte]
 ·go_ret
  exact⟨rfl,rfl⟩
def p218:LAa->List aG->Nat->Option eI
 |[.str a,.u8 c],[],0=>some ⟨.int .i64 (Lib.indexByte a c),[],[]⟩
 |_,_,_=>none
def p155:LAa->List aG->Nat->Option eI
 |[.str a,.str [c]],[],0=>some ⟨.int .i64 (Lib.indexByte a c),[],[]⟩
 |_,_,_=>none
def p223:LAa->List aG->Nat->Option eI
 |[.str a,.str [c]],[],0=>some ⟨.int .i64 (a.count c:Nat),[],[]⟩
 |_,_,_=>none
theorem BU{x:Sit}{a b:SV}{vs:LAd}(h:cB x [a,b] vs):∃u v,vs=[u,v]/\Rep x a u/\Rep x b v:=by
 match vs,h with
 |[u,v],h=>exact⟨u,v,rfl,h.2 0 (by simp),h.2 1 (by simp)⟩
 |[],h=>simp[cB]at h
 |[_],h=>simp[cB]at h
 |_::_::_::_,h=>simp[cB]at h
theorem repL1{x:Sit}{a:SV}{vs:LAd}(h:cB x [a] vs):∃u,vs=[u]/\Rep x a u:=by
 match vs,h with
 |[u],h=>exact⟨u,rfl,h.2 0 (by simp)⟩
 |[],h=>simp[cB]at h
 |_::_::_,h=>simp[cB]at h
theorem p218_ok:∀y os k q,p218 y os k=some q->gu Tryz.prog 218 y os k (· =q):=by
 intro y os k q h;unfold p218 at h;split at h
 ·rename_i a c
  cases h;refine kS (by kernel_rfl) fun x w vs z F=> ?_
  obtain⟨u,v,rfl,h1,h2⟩:=BU z;obtain rfl:=lA h1;obtain rfl:=Zq h2;refine(xec w _ _).mono ?_;rintro e w' ⟨rfl,rfl⟩;refine⟨_,rfl, ?_,Below.refl _ _⟩;have C:((c.toNat:Int).toNat).toUInt8=c:=by simp
  rw[C];exact .dat _ _ (.int _ _) trivial
 ·cases h
theorem p155_ok:∀y os k q,p155 y os k=some q->gu Tryz.prog 155 y os k (· =q):=by
 intro y os k q h;unfold p155 at h;split at h
 ·cases h
  refine kS (by kernel_rfl) fun x w vs z C=> ?_
  obtain⟨u,v,rfl,h1,h2⟩:=BU z;obtain rfl:=lA h1;obtain rfl:=lA h2;refine(xed w _ _).mono ?_;rintro e w' ⟨rfl,rfl⟩;exact⟨_,rfl,.dat _ _ (.int _ _) trivial,Below.refl _ _⟩
 ·cases h
theorem p223_ok:∀y os k q,p223 y os k=some q->gu Tryz.prog 223 y os k (· =q):=by
 intro y os k q h;unfold p223 at h;split at h
 ·cases h
  refine kS (by kernel_rfl) fun x w vs z C=> ?_
  obtain⟨u,v,rfl,h1,h2⟩:=BU z;obtain rfl:=lA h1;obtain rfl:=lA h2;refine(xeb w _ _).mono ?_;rintro e w' ⟨rfl,rfl⟩;exact⟨_,rfl,.dat _ _ (.int _ _) trivial,Below.refl _ _⟩
 ·cases h
end Pr
end Go.Proofs.YtmhhnklkcmpdkaaGreatDoor
namespace Go.Proofs.YtmhhnklkcmpdkaaGreatDoor
open Go.Sy
open Go.RowKit Go.ChangeShapes Go.WideShapes
namespace Pr
variable [bl]
theorem LN:∀a b:t8,MV (a++b)=MV a++MV b
 |[],b=>rfl
 |x::a,b=>by rw[aL,MV,MV,LN a b];rfl
end Pr
end Go.Proofs.YtmhhnklkcmpdkaaGreatDoor
namespace Go.Proofs.YtmhhnklkcmpdkaaGreatDoor
open Go.Sy
open Go.RowKit Go.ChangeShapes Go.WideShapes
namespace Pr
theorem HW{w:World}{b o:Nat}{v:Value}(h:w.cell? ⟨b,o,none⟩=some v):b<w.heap.size:=by
 unfold World.cell? at h;rcases bq b w.heap.size with h1|h1
 ·exact h1
 ·rw[Array.getElem?_eq_none h1]at h;cases h
def qU:f9->Option (List t8)
 |[]=>some []
 |[.str w]::r=>(qU r).map (w:: ·)
 |_=>none
def wsv(l:List t8):f9:=l.map fun w=> [.str w]
theorem strsOf_wsv:∀l:List t8,qU (wsv l)=some l
 |[]=>rfl
 |w::r=>by have h:=strsOf_wsv r;unfold wsv at h ⊢;rw[ax,qU,h];rfl
theorem vw:∀{rows:f9}{l:List t8},qU rows=some l->rows=wsv l
 |[],l,h=>by cases h;rfl
 |q::r,l,h=>by
  unfold qU at h;split at h
  ·rename_i y;cases y
  ·rename_i w C y
   obtain⟨m,z,rfl⟩:=aj.1 h;injection y with h1 h2
   subst h1 h2;rw[vw z];rfl
  ·cases h
def joinB(ws:List t8)(y:t8):t8:=Lib.join ws y
def p84:LAa->List aG->Nat->Option eI
 |[.lst 1 rows _,.str sep],[],0=>match qU rows with
  |some ws=>if ws≠ []/\ws.length<=1000000000/\(joinB ws sep).length<=140737488355328 then some ⟨.str (joinB ws sep),[],[]⟩else none
  |none=>none
 |_,_,_=>none
theorem xfC{G:GM}{l:t8}{v:Value}(h:bU G (.str l) v):v= .string ⟨⟨l⟩⟩:=by cases h;rfl
theorem lst_inv{G:GM}{sz:Nat}{rows:f9}{t:Tok}{v:Value}(h:bU G (.lst sz rows t) v):
 rows=[]\/∃(b off cap:Nat)(val:Nat->Nat->Value),v= .slice (some ⟨b,off,none⟩) rows.length cap/\rows.length<=cap/\(∀i j,i<rows.length->j<sz->G b (off+i*sz+j)=some (val i j))/\∀i j,i<rows.length->j<sz->bU G ((rows.getD i []).getD j .undef) (val i j):=by
 cases h with
 |lstN=>exact .inl rfl
 |lstE=>exact .inl rfl
 |lst _ _ _ b off cap n val z C F y h=>subst z;exact .inr ⟨b,off,cap,val,rfl,C,y,h⟩
theorem p84_ok:∀Q os k q,p84 Q os k=some q->gu Tryz.prog 84 Q os k (· =q):=by
 intro Q os k q h;unfold p84 at h;split at h
 ·rename_i rows t Z
  split at h
  ·rename_i ws K
   split at h
   ·rename_i hc
    obtain⟨h0,h1,h2⟩:=hc;cases h;obtain rfl:=vw K;refine kS (by kernel_rfl) fun x w vs hr hp=> ?_
    obtain⟨u,v,rfl,r1,r2⟩:=BU hr;obtain rfl:=lA r2;have H:(wsv ws).length=ws.length:=av ..;rcases lst_inv (r1.data rfl)with he|⟨b,off,cap,val,rfl,hcap,hg,hrep⟩
    ·rw[he]at H
     exact absurd (cD.1 H.symm) h0
    ·rw[H]at hcap hg hrep ⊢
     have z:∀j,j<ws.length->w.cell? ⟨b,off+j,none⟩=some (.string ⟨⟨ws.getD j []⟩⟩):=fun j F=>by
      have g1:=hp _ _ _ (hg j 0 F (by decide));have g2:=hrep j 0 F (by decide)
      have e1:((wsv ws).getD j []).getD 0 .undef= .str (ws.getD j []):=by simp[wsv,aa,F]
      rw[e1]at g2;have e2:val j 0= .string ⟨⟨ws.getD j []⟩⟩:=xfC g2;rw[e2,gI,fJ]at g1;exact g1
     have I:0<ws.length:=List.length_pos_iff.2 h0;have hb:=HW (z 0 I)
     have C:(ws.map fun l=>(⟨⟨l⟩⟩:ByteArray)).map (·.data.toList)=ws:=by
      rw[List.map_map]
      conv=>rhs;rw[<-List.map_id ws]
      rfl
     have F:=Any.strings_Join lyJ xf8 b off cap (ws.map fun l=>(⟨⟨l⟩⟩:ByteArray)) ⟨⟨Z⟩⟩ w (fun j y hy=>by rw[aR]at hy;obtain⟨l,J,rfl⟩:=aj.1 hy;have F:=(List.getElem?_eq_some_iff.1 J).1;rw[z j F,aa,J];rfl) hb (by rw[av];omega) (by rw[av];exact hcap) (by rw[C];exact h2)
     rw[C,av]at F;refine F.mono ?_;rintro e w' ⟨rfl,a1⟩;exact⟨_,rfl,.dat _ _ (.str _) trivial,a1⟩
   ·cases h
  ·cases h
 ·cases h
def atoR(s:t8):SV:=match Lib.atoiAll s with
 | .ok v=> .tup [.int .i64 v,.nili]
 | .range=> .tup [.int .i64 (Lib.atoiSat s),.ife]
 |_=> .tup [.int .i64 0,.ife]
def p157:LAa->List aG->Nat->Option eI
 |[.str s],[],0=>if s.length<=1000000000 then some ⟨atoR s,[],[]⟩else none
 |_,_,_=>none
theorem MU{G:GM}(y:Lay G){g:Nat}(h:bl.cells g=some [.ife]):∃t u,G g 0=some (.iface t u):=by obtain⟨v,h1,h2⟩:=y g _ h 0 (by decide);cases h2;exact⟨_,_,h1⟩
theorem tL{x:Sit}{a b:SV}{u v:Value}(h1:Rep x a u)(h2:Rep x b v):Rep x (.tup [a,b]) (.tuple #[u,v]):=
 .tup _ _ rfl fun i hi=>by
  match i,hi with
  |0,_=>exact h1
  |1,_=>exact h2
theorem p157_ok:∀y os k q,p157 y os k=some q->gu Tryz.prog 157 y os k (· =q):=by
 intro y os k q h;unfold p157 at h;split at h
 ·rename_i s
  split at h
  ·rename_i hs
   cases h;refine hU (by kernel_rfl) fun x w vs J F H=> ?_
   obtain⟨u,rfl,h1⟩:=repL1 J;obtain rfl:=lA h1;have K:(⟨⟨s⟩⟩:ByteArray).size=s.length:=rfl;unfold atoR;cases ha:Lib.atoiAll s with
   |ok v=>
    refine(Any.strconv_Atoi_ok lyA ⟨⟨s⟩⟩ (by omega) v ha w).mono ?_;rintro e w' ⟨rfl,I⟩;refine⟨_,rfl,tL (.dat _ _ (.int _ _) trivial) (.dat _ _ .nili trivial), ?_⟩;rcases I with rfl|⟨t,rfl⟩
    ·exact Below.refl _ _
    ·exact Lib.bytesWorld_below _ _ _
   |range=>obtain⟨ty,pv,C⟩:=MU H (g:=3) rfl;refine(Any.strconv_Atoi_range lyA ⟨⟨s⟩⟩ (by omega) ha (.iface ty pv) w (F _ _ _ C) (.inr ⟨_,_,rfl⟩)).mono ?_;rintro e w' ⟨N,rfl,_,_,z⟩;exact⟨_,rfl,tL (.dat _ _ (.int _ _) trivial) (.dat _ _ (.ife _ _) trivial),z⟩
   |_=>obtain⟨ty,pv,C⟩:=MU H (g:=2) rfl;refine(Any.strconv_Atoi_syntax lyA ⟨⟨s⟩⟩ (by omega) ha (.iface ty pv) w (F _ _ _ C) (.inr ⟨_,_,rfl⟩)).mono ?_;rintro e w' ⟨N,rfl,_,_,z⟩;exact⟨_,rfl,tL (.dat _ _ (.int _ _) trivial) (.dat _ _ (.ife _ _) trivial),z⟩
  ·cases h
 ·cases h
end Pr
end Go.Proofs.YtmhhnklkcmpdkaaGreatDoor
namespace Go.Proofs.YtmhhnklkcmpdkaaGreatDoor
open Go.Sy
open Go.RowKit Go.ChangeShapes Go.WideShapes Go.Sort
namespace Pr
theorem If:∀d,d<10->dgC d=eL (48+d):=by decide
theorem TG:∀n:Nat,dec n=Lib.decDigits n:=by
 intro n;induction n using Nat.strongRecOn with
 |_ n y=>
  by_cases h:n<10
  ·rw[oq h,Lib.decDigits,dif_pos h,If n h]
  ·rw[uP h,Lib.decDigits,dif_neg h,y (n/10) (by omega),If (n % 10) (by omega)]
set_option maxHeartbeats 2000000 in
set_option maxRecDepth 100000 in
theorem xfu(u:Nat)(h1:1<=u)(h2:u<18446744073709551616)(w:World)(I:∀i,i<20->w.cell? ⟨1,i,none⟩=some (.int .u64 ((10^i:Nat):Int))):
 Calls Tryz.prog 270 #[.int .u64 u] w fun e w'=>e= .returned (.int .i64 (Lib.nDigits u))/\w'=w:=by
 obtain⟨y,C⟩:=Lib.numDigits_eq u h1 h2;have J:Lib.bitLen u<=64:=Lib.bitLen_le u 64 (aM _) h2;have z:=I (Lib.l10 (Lib.bitLen u)) (by omega);have F:((u:Int)).toNat=u:=by omega
 clear I;generalize Q:Lib.l10 (Lib.bitLen u)=q at y C z;generalize Z:10^q=T at y z;have K:q<20:=by omega
 have H:=Lib.hid y;clear y
 go_enter Tryz.func270,Tryz.ntmps270
 go_wp2_with (first
  |(go_at_call 313;refine(Any.bits_Len64 {lyA with} _ _ (by omega) (by omega)).mono ?_;rintro e w' ⟨rfl,rfl⟩)
  |(go_at_call 312;refine(Any.internal_strconv_log10Pow2 {lyA with} _ (by first|exact J|(rw[F];exact J)) _).mono ?_;rintro e w' ⟨rfl,rfl⟩)
  |(go_at_call 314;refine(Any.internal_strconv_bool2_int {lyA with} _ _).mono ?_;rintro e w' ⟨rfl,rfl⟩))
 all_goals go_ret
 all_goals (
  refine⟨?_,rfl⟩;have y:=H.out
  congr 2
  split at y<;>simp_all<;>omega)
theorem Am(w:World)(k:Nat)(os:Array Obj):Below w.heap.size w (grow (w.drewN k) os):=
 ⟨rfl,rfl,rfl,by simp[grow,World.drewN],fun b y=>by simp[grow,World.drewN,Array.getElem?_append,y]⟩
set_option maxHeartbeats 4000000 in
set_option maxRecDepth 100000 in
theorem xfx(u:Nat)(hu:u<9223372036854775808)(w:World)(K:∀i,i<20->w.cell? ⟨1,i,none⟩=some (.int .u64 ((10^i:Nat):Int))):
 Calls Tryz.prog 207 #[.int .i64 u,.int .i64 10] w fun e w'=>e= .returned (.string ⟨(Lib.decDigits u).toArray⟩)/\Below w.heap.size w w':=by
 by_cases hs:u<100
 ·go_enter Tryz.func207,Tryz.ntmps207
  go_wp2_with (go_at_call 269;refine(Any.internal_strconv_small {lyA with} u hs _).mono ?_;rintro e w' ⟨rfl,rfl⟩)
  go_ret
  exact⟨rfl,Below.refl _ _⟩
 ·have H:1<=u:=by omega
  have y:u<18446744073709551616:=by omega
  have a6:Lib.nDigits u<=20:=by have:=Lib.numDigits_eq u H y;split at this<;>omega
  obtain⟨nd,a1⟩:∃nd,nd=Lib.nDigits u:=⟨_,rfl⟩;have I:Tryz.prog.arrayLen 397=24:=by kernel_rfl
  have Z:Tryz.prog.elem 397=5:=by kernel_rfl
  have z:=Lib.holds_zero w 397 (Lib.nDigits u) (by omega);have C:=Any.internal_strconv_formatBase10 lyF w.heap.size 1 23 u (eE (Lib.nDigits u) 0) (w.alloc (.cells Lib.zeros24 397)) z (by rw[Array.size_replicate];exact Lib.lt_pow_nDigits u) y (by rw[Array.size_replicate];omega);rw[Array.size_replicate]at C;have HR:=Lib.hid z
  have J:∀i,i<20->(w.alloc (.cells Lib.zeros24 397)).cell? ⟨1,i,none⟩=some (.int .u64 ((10^i:Nat):Int)):=fun i hi=>by have h1:(⟨1,i,none⟩:Addr).block<w.heap.size:=HW (K i hi);rw[World.cell?_alloc_lt _ _ _ h1];exact K i hi
  have a7:∀W,(Instr.sliceAt 397 (.pointer (some ⟨w.heap.size,0,none⟩)) (some (.int .i64 1)) (some (.int .i64 (1+(Lib.nDigits u:Int)))) none).run Tryz.prog W= .ok (.slice (some ⟨w.heap.size,1,none⟩) (Lib.nDigits u) 23) W:=fun W=>by
   rw[run_sliceAt_array_lh W 397 ⟨w.heap.size,0,none⟩ (by kernel_rfl) .i64 .i64 1 (1+(Lib.nDigits u:Int)) (by omega) (by omega) (by rw[I];omega)]
   go_simp
   omega
  clear z I Z K
  go_enter Tryz.func207,Tryz.ntmps207
  go_wp2_with (first
   |(go_at_call 270;refine(xfu u H y _ J).mono ?_;rintro e w' ⟨rfl,rfl⟩))
  go_at_call 271
  refine C.mono ?_;rintro e w' ⟨rfl,k,v',F,rfl,hF⟩
  have a8:(convert 23 9 (.slice (some ⟨w.heap.size,1,none⟩) (Lib.nDigits u) 23)).run Tryz.prog ((putRow (fun(b:UInt8)=>Value.int .u8 (b.toNat:Int)) (w.alloc (.cells Lib.zeros24 397)) w.heap.size 1 F).drewN k)= .ok (.string ⟨(Lib.decDigits u).toArray⟩) ((putRow (fun(b:UInt8)=>Value.int .u8 (b.toNat:Int)) (w.alloc (.cells Lib.zeros24 397)) w.heap.size 1 F).drewN k):=by
   have h:=run_convert_bytes_back (P:=Tryz.prog) ((putRow (fun(b:UInt8)=>Value.int .u8 (b.toNat:Int)) (w.alloc (.cells Lib.zeros24 397)) w.heap.size 1 F).drewN k) 23 9 5 ⟨w.heap.size,1,none⟩ 23 (Lib.decDigits u) Tryz.underlying23 Tryz.underlying5 Tryz.underlying9 (fun j Q=>by rw[Lib.row_is_numeral hF j Q,Lib.add_plain,World.cell?_drewN];exact cell?_putRow (fun(b:UInt8)=>Value.int .u8 (b.toNat:Int)) _ w.heap.size 1 _ F HR.out (by rw[hF.size,Array.size_replicate]) j (by rw[hF.size];rw[Lib.decDigits_length]at Q;exact Q))
   rw[Lib.decDigits_length]at h;exact h
  go_wp2
  go_ret
  obtain⟨os,eo⟩:=Lib.fin_pos w (.cells Lib.zeros24 397) F k;refine⟨rfl, ?_⟩;rw[eo];exact Am w k os
def p207:LAa->List aG->Nat->Option eI
 |[.int .i64 n,.int .i64 b],[],0=>if 0<=n/\n<9223372036854775808/\b=10 then some ⟨.str (dec n.toNat),[],[]⟩else none
 |_,_,_=>none
theorem WU{x:Sit}{w:World}(y:∀b o v,x.G b o=some v->w.cell? ⟨b,o,none⟩=some v)(z:Lay x.G):∀i,i<20->w.cell? ⟨1,i,none⟩=some (.int .u64 ((10^i:Nat):Int)):=fun i hi=>by
 obtain⟨v,h1,h2⟩:=z 1 J5 rfl i hi
 have e:∀i,i<20->J5.getD i .undef= .int .u64 ((10^i:Nat):Int):=by
  intro i hi;have:i=0\/i=1\/i=2\/i=3\/i=4\/i=5\/i=6\/i=7\/i=8\/i=9\/i=10\/i=11\/i=12\/i=13\/i=14\/i=15\/i=16\/i=17\/i=18\/i=19:=by omega
  rcases this with rfl|rfl|rfl|rfl|rfl|rfl|rfl|rfl|rfl|rfl|rfl|rfl|rfl|rfl|rfl|rfl|rfl|rfl|rfl|rfl<;>rfl
 rw[e i hi]at h2;cases h2;exact y _ _ _ h1
theorem MT{x:Sit}{k:IntKind}{n:Int}{v:Value}(h:Rep x (.int k n) v):v= .int k n:=by
 cases h with
 |dat _ _ h _=>cases h;rfl
theorem p207_ok:∀y os k q,p207 y os k=some q->gu Tryz.prog 207 y os k (· =q):=by
 intro y os k q h;unfold p207 at h;split at h
 ·rename_i n b
  split at h
  ·rename_i hs
   obtain⟨h0,h1,rfl⟩:=hs;cases h;refine hU (by kernel_rfl) fun x w vs C z H=> ?_
   obtain⟨u,v,rfl,r1,r2⟩:=BU C;obtain rfl:=MT r1;obtain rfl:=MT r2;obtain⟨m,rfl⟩:∃m:Nat,n=m:=⟨n.toNat,by omega⟩;refine(xfx m (by omega) w (WU z H)).mono ?_;rintro e w' ⟨rfl,F⟩;refine⟨_,rfl, ?_,F⟩;rw[eS,TG];exact .dat _ _ (.str _) trivial
  ·cases h
 ·cases h
end Pr
end Go.Proofs.YtmhhnklkcmpdkaaGreatDoor
namespace Go.Proofs.YtmhhnklkcmpdkaaGreatDoor
open Go.Sy
open Go.RowKit Go.ChangeShapes Go.WideShapes
namespace Pr
variable [bl]
theorem li{t e:TypeId}{B b:Nat}{bs:LAd}{w w':World}(h:Lib.IsBuilderF t e B b bs w)(F:Below w.heap.size w w'):Lib.IsBuilderF t e B b bs w':=by
 have lt:∀k o,w.heap[k]? =some o->w'.heap[k]? =some o:=fun k o C=>by rw[F.block k (cz.1 C).1];exact C
 have key:∀p,Lib.BuilderAtF t e B b p bs w->Lib.BuilderAtF t e B b p bs w':=by
  rintro p ⟨J,v,H,y,z⟩;refine⟨J,v,lt _ _ H,⟨y.1, ?_⟩,z⟩;rcases y.2 with I|⟨g,cap,cur,fz,hv,hbg,hg,rest⟩
  ·exact .inl I
  ·exact .inr ⟨g,cap,cur,fz,hv,hbg,lt _ _ hg,rest⟩
 exact h.elim (fun x=> .inl (key _ x)) (fun x=> .inr (key _ x))
theorem nQ{B:Nat}{w w1 y:World}(h1:Below B w w1)(h2:Below w1.heap.size w1 y)(z:B<=w1.heap.size):Below B w y:=
 h1.trans ⟨h2.os,h2.tape,h2.output,h2.size,fun b C=>h2.block b (by omega)⟩
theorem fR(w:World)(cs:LAe)(t:TypeId)(i:Nat)(v:Value)(h:cs[i]? =some v):(w.alloc (.cells cs t)).cell? ⟨w.heap.size,i,none⟩=some v:=by rw[World.cell?_alloc_new];exact h
set_option maxHeartbeats 4000000 in
set_option maxRecDepth 1000000 in
theorem w10(w:World)(n b off cap:Nat)(v0 v1 v2 v3:Nat->Int)(a4 a5 a6:Nat->Option Addr)(n4 n5 n6 c4 c5 c6:Nat->Nat)(J:Nat->Bool)(L F:Nat->t8)(R:t8)
 (hb:0<n->b<w.heap.size) (h0:∀i,i<n->w.cell? ⟨b,off+i*7,none⟩=some (.int .i64 (v0 i))) (h1:∀i,i<n->w.cell? ⟨b,off+i*7+1,none⟩=some (.int .i64 (v1 i)))
 (h2:∀i,i<n->w.cell? ⟨b,off+i*7+2,none⟩=some (.int .i64 (v2 i))) (h3:∀i,i<n->w.cell? ⟨b,off+i*7+3,none⟩=some (.int .i64 (v3 i)))
 (h4:∀i,i<n->w.cell? ⟨b,off+i*7+4,none⟩=some (.slice (a4 i) (n4 i) (c4 i))) (h5:∀i,i<n->w.cell? ⟨b,off+i*7+5,none⟩=some (.slice (a5 i) (n5 i) (c5 i))) (h6:∀i,i<n->w.cell? ⟨b,off+i*7+6,none⟩=some (.slice (a6 i) (n6 i) (c6 i))) (hn:n<=1000000)
 (b3:F 0=[]) (hF:∀i,i<n->F (i+1)=F i++(L i++ [10])) (a7:(∀i,i<n->J i=true)->R=F n) (b2:∀i,i<n->J i=false->R=[]) (hL:∀i,i<n->J i=true->(L i).length<=90000)
 (b6:∀i,i<=n->(∀k,k<i->J k=true)->(F i).length<=100000000000)
 (d5:∀i wr,i<n->Below w.heap.size w wr->Calls Tryz.prog 33 #[.agg #[.int .i64 (v0 i),.int .i64 (v1 i),.int .i64 (v2 i),.int .i64 (v3 i),.slice (a4 i) (n4 i) (c4 i),.slice (a5 i) (n5 i) (c5 i),.slice (a6 i) (n6 i) (c6 i)]] wr fun e w'=>e= .returned (.bool (J i))/\Below wr.heap.size wr w')
 (b5:∀i wr,i<n->J i=true->Below w.heap.size w wr->Calls Tryz.prog 35 #[.agg #[.int .i64 (v0 i),.int .i64 (v1 i),.int .i64 (v2 i),.int .i64 (v3 i),.slice (a4 i) (n4 i) (c4 i),.slice (a5 i) (n5 i) (c5 i),.slice (a6 i) (n6 i) (c6 i)]] wr fun e w'=>e= .returned (.string ⟨(L i).toArray⟩)/\Below wr.heap.size wr w'):
 Calls Tryz.prog 10 #[.slice (some ⟨b,off,none⟩) n cap] w fun e w'=>e= .returned (.string ⟨R.toArray⟩)/\Below w.heap.size w w':=by
 go_enter Tryz.func10,Tryz.ntmps10
 go_wp2
 go_loopw [8] (fun i wr=>∃j:Nat,j<=n/\i= .int .i64 j/\(∀k,k<j->J k=true)/\Lib.IsBuilderF 123 5 w.heap.size w.heap.size (Lib.byteCells (F j)) wr/\Below w.heap.size w wr/\w.heap.size<wr.heap.size) (fun i _=>n-(intOf i).toNat)
 case atStart=>exact⟨0,aC _,rfl,fun k hk=>absurd hk (ec _),by rw[b3];exact Lib.IsBuilderF.of (Lib.fresh_isBuilder 123 5 w),(Below.refl _ w).alloc (aM _) _,by simp⟩
 case round=>
  obtain⟨j,hj,rfl,H,hI,K,f2⟩:=hrel
  by_cases y:j<n
  ·have e7:=hb (by omega)
   have old:∀k v,w.cell? ⟨b,k,none⟩=some v->wr.cell? ⟨b,k,none⟩=some v:=fun k v h=>by rw[<-h];exact K.cell (p:=⟨b,k,none⟩) e7
   have g0:=old _ _ (h0 j y);have g1:=old _ _ (h1 j y);have g2:=old _ _ (h2 j y);have g3:=old _ _ (h3 j y);have g4:=old _ _ (h4 j y);have g5:=old _ _ (h5 j y);have g6:=old _ _ (h6 j y);have f0:b<wr.heap.size:=by omega
   have Q:=d5 j;have Z:=b5 j;have d3:=hL j y;have e0:=b6 j (by omega) H;have c7:=hF j y;clear h0 h1 h2 h3 h4 h5 h6 b3 d5 b5 hb hL hF old;generalize v0 j=x0 at*;generalize v1 j=x1 at*;generalize v2 j=x2 at*;generalize v3 j=x3 at*;generalize a4 j=y4 at*;generalize a5 j=y5 at*;generalize a6 j=y6 at*;generalize n4 j=m4 at*;generalize n5 j=m5 at*;generalize n6 j=m6 at*;generalize c4 j=z4 at*;generalize c5 j=z5 at*;generalize c6 j=z6 at*;have a1:Below w.heap.size w (wr.alloc (Obj.cells #[.int .i64 x0,.int .i64 x1,.int .i64 x2,.int .i64 x3,.slice y4 m4 z4,.slice y5 m5 z5,.slice y6 m6 z6] 109)):=K.alloc (by omega) _;have I:=Q _ y a1;have b0:=hI.alloc (Obj.cells #[.int .i64 x0,.int .i64 x1,.int .i64 x2,.int .i64 x3,.slice y4 m4 z4,.slice y5 m5 z5,.slice y6 m6 z6] 109);have hr:∀k u,(#[.int .i64 x0,.int .i64 x1,.int .i64 x2,.int .i64 x3,.slice y4 m4 z4,.slice y5 m5 z5,.slice y6 m6 z6]:LAe)[k]? =some u->(wr.alloc (Obj.cells #[.int .i64 x0,.int .i64 x1,.int .i64 x2,.int .i64 x3,.slice y4 m4 z4,.slice y5 m5 z5,.slice y6 m6 z6] 109)).cell? ⟨wr.heap.size,k,none⟩=some u:=fun k u h=>fR wr _ 109 k u h
   have e8:(wr.alloc (Obj.cells #[.int .i64 x0,.int .i64 x1,.int .i64 x2,.int .i64 x3,.slice y4 m4 z4,.slice y5 m5 z5,.slice y6 m6 z6] 109)).heap.size=wr.heap.size+1:=by simp
   cases hW:J j with
   |false=>
    have HA:=Lib.hid (b2 j y hW);rw[hW]at I;clear b2 a7 b6 hr Q Z hI b0 c7 e0 d3
    go_wp2_with (go_at_call 33;refine I.mono ?_;rintro e W1 ⟨rfl,C⟩)
    go_ret
    rw[HA.out];exact⟨rfl,nQ a1 C (by omega)⟩
   |true=>
    rw[hW]at I
    go_wp2_with (go_at_call 33;refine I.mono ?_;rintro e W1 ⟨rfl,C⟩;refine Hid.out ?_)
    have b7:=nQ a1 C (by omega);have d7:=li b0 C;have f3:=C.size
    have z:∀k u,(#[.int .i64 x0,.int .i64 x1,.int .i64 x2,.int .i64 x3,.slice y4 m4 z4,.slice y5 m5 z5,.slice y6 m6 z6]:LAe)[k]? =some u->W1.cell? ⟨wr.heap.size,k,none⟩=some u:=fun k u h=>by rw[<-hr k u h];exact C.cell (p:=⟨wr.heap.size,k,none⟩) (by rw[e8];exact jR _)
    have r0:=z 0 _ rfl;have r1:=z 1 _ rfl;have r2:=z 2 _ rfl;have r3:=z 3 _ rfl;have r4:=z 4 _ rfl;have r5:=z 5 _ rfl;have r6:=z 6 _ rfl;have e6:=Z W1 y hW b7;have f8:wr.heap.size<W1.heap.size:=by omega
    clear hr z Q Z I hI b0;refine Lib.hid ?_
    go_wp2_with (go_at_call 35;refine e6.mono ?_;rintro e W2 ⟨rfl,a8⟩;refine Hid.out ?_)
    have e2:=nQ b7 a8 (by omega);have e4:=li d7 a8;have f4:=a8.size;clear r0 r1 r2 r3 r4 r5 r6 d7;have g7:=d3 hW
    have b8:(Lib.byteCells (F j)).length+(⟨(L j).toArray⟩:ByteArray).size<=140737488355328:=by rw[Lib.byteCells_length];show(F j).length+(L j).toArray.size<=_;rw[List.size_toArray];omega
    have b4:(Lib.byteCells (F j)++Lib.strCells (⟨(L j).toArray⟩:ByteArray)).length+1<=140737488355328:=by rw[af,Lib.byteCells_length,Lib.strCells_length];show(F j).length+(L j).toArray.size+1<=_;rw[List.size_toArray];omega
    have d9:w.heap.size<=W2.heap.size:=by omega
    refine Lib.hid ?_
    go_wp2_with (go_at_call 34;refine(Any.Builder_WriteString_k lyS Yh w.heap.size w.heap.size _ _ _ e4 b8 d9).mono ?_;rintro e W3 ⟨rfl,e5,d6,f5⟩;refine Hid.out ?_)
    have hs3:=d6.size;have d8:w.heap.size<=W3.heap.size:=by omega
    refine Lib.hid ?_
    go_wp2_with (go_at_call 36;refine(Any.Builder_WriteByte_k lyB xgb w.heap.size w.heap.size _ _ _ (Or.inr e5) b4 d8).mono ?_;rintro e W4 ⟨rfl,e1,d4,g8⟩;refine Hid.out ?_)
    refine Lib.hid ?_;have f1:=d4.size
    go_wp2
    go_roundw
    case rel=>
     refine⟨j+1,by omega,by push_cast;rfl,fun k hk=> ?_, ?_,(e2.trans d6).trans d4,by omega⟩
     ·by_cases e:k=j
      ·rw[e];exact hW
      ·exact H k (by omega)
     ·refine Or.inr ?_
      rw[c7,Lib.byteCells_append,Lib.byteCells_append,<-aI];exact e1
    case measure=>simp[intOf];omega
  ·have e9:j=n:=by omega
   subst e9;have e3:=Lib.hid (a7 H);clear a7 b2
   go_wp2_with (go_at_call 37;refine(Any.Builder_String_any_k lyT Yg w.heap.size w.heap.size (F j) _ hI (by omega)).mono ?_;rintro e W1 ⟨rfl,_,b1,_⟩)
   go_ret
   rw[e3.out];exact⟨rfl,K.trans b1⟩
end Pr
end Go.Proofs.YtmhhnklkcmpdkaaGreatDoor
namespace Go.Proofs.YtmhhnklkcmpdkaaGreatDoor
open Go.Sy
open Go.RowKit Go.ChangeShapes Go.WideShapes
namespace Pr
variable [bl]
set_option maxHeartbeats 4000000 in
set_option maxRecDepth 1000000 in
theorem Va(w:World):Calls Tryz.prog 207 #[.int .i64 0,.int .i64 10] w fun e w'=>e= .returned (.string ⟨#[48]⟩)/\w'=w:=by
 go_enter Tryz.func207,Tryz.ntmps207
 go_wp2_with (go_at_call 269;refine(Any.internal_strconv_small {lyA with} 0 (by decide) _).mono ?_;rintro e w' ⟨rfl,rfl⟩)
 go_ret
 refine⟨?_,rfl⟩;show Ending.returned (Value.string ⟨(Lib.decDigits 0).toArray⟩)=_;rw[Lib.decDigits,dif_pos (by decide)];rfl
theorem Vb(w:World):Calls Tryz.prog 136 #[.int .i64 0] w fun e w'=>e= .returned (.string ⟨#[48]⟩)/\w'=w:=by
 go_enter Tryz.func136,Tryz.ntmps136
 go_wp2_with (go_at_call 207;refine(Va _).mono ?_;rintro e w' ⟨rfl,rfl⟩)
 go_ret
 exact⟨rfl,rfl⟩
theorem Zj(w:World):Calls Tryz.prog 64 #[.int .i64 0] w fun e w'=>e= .returned (.string ⟨#[48]⟩)/\w'=w:=by
 go_enter Tryz.func64,Tryz.ntmps64
 go_wp2_with (go_at_call 136;refine(Vb _).mono ?_;rintro e w' ⟨rfl,rfl⟩)
 go_ret
 exact⟨rfl,rfl⟩
set_option maxHeartbeats 4000000 in
set_option maxRecDepth 1000000 in
theorem w63(w:World)(B b:Nat)(C:Lib.IsBuilderF 123 5 B b [] w)(F:B<=w.heap.size):
 Calls Tryz.prog 63 #[.string ⟨#[99,108,111,99,107]⟩,.int .i64 0,.string ⟨#[]⟩,.pointer (some ⟨b,0,none⟩)] w
  fun e w'=>e= .returned (.tuple #[])/\Lib.IsBuilderF 123 5 B b (Lib.byteCells [99,108,111,99,107,32,48,10]) w'/\Below B w w':=by
 go_enter Tryz.func63,Tryz.ntmps63
 go_wp2_with (first
  |(go_at_call 64;refine(Zj _).mono ?_;rintro e w' ⟨rfl,rfl⟩)
  |(go_at_call 34;refine(Any.Builder_WriteString_k lyS Yh B b [] _ _ C (by decide) F).mono ?_;rintro e I ⟨rfl,y,z,H⟩))
 go_end0
 exact⟨rfl,Or.inr y,z⟩
set_option maxHeartbeats 4000000 in
set_option maxRecDepth 1000000 in
theorem tZ(t e:TypeId)(B:Nat)(w:World)(y:B<=w.heap.size):Lib.IsBuilderF t e B w.heap.size [] (w.alloc (.cells #[.pointer none,.slice none 0 0] t)):=
 Lib.IsBuilderF.of (Or.inl ⟨y,.slice none 0 0,(by show(w.heap.push _)[w.heap.size]? =_;simp),World.ownsRow_nil _ _ _ _,by simp[Value.ownBlock]⟩)
set_option maxHeartbeats 4000000 in
set_option maxRecDepth 1000000 in
theorem w24(w:World)(x2 x6:Int)(a1 a3 a4 a5 K I a9 C z F Q:Option Addr)(c1 c3 c4 c5 Z c8 c9 d0 d1 d2 J:Nat):
 Calls Tryz.prog 24 #[.agg #[.int .i64 0,.slice a1 0 c1,.int .i64 x2,.slice a3 0 c3,.slice a4 0 c4,.slice a5 0 c5,.int .i64 x6,.slice K 0 Z,.slice I 0 c8,.slice a9 0 c9,.slice C 0 d0,.slice z 0 d1,.slice F 0 d2,.slice Q 0 J]] w
  fun e w'=>e= .returned (.string ⟨#[99,108,111,99,107,32,48,10]⟩)/\Below w.heap.size w w':=by
 go_enter Tryz.func24,Tryz.ntmps24
 have a6:=tZ 123 5 (w.heap.size+1) (w.alloc (Obj.cells #[.int .i64 0,.slice a1 0 c1,.int .i64 x2,.slice a3 0 c3,.slice a4 0 c4,.slice a5 0 c5,.int .i64 x6,.slice K 0 Z,.slice I 0 c8,.slice a9 0 c9,.slice C 0 d0,.slice z 0 d1,.slice F 0 d2,.slice Q 0 J] 66)) (by simp);have e0:(w.alloc (Obj.cells #[.int .i64 0,.slice a1 0 c1,.int .i64 x2,.slice a3 0 c3,.slice a4 0 c4,.slice a5 0 c5,.int .i64 x6,.slice K 0 Z,.slice I 0 c8,.slice a9 0 c9,.slice C 0 d0,.slice z 0 d1,.slice F 0 d2,.slice Q 0 J] 66)).heap.size=w.heap.size+1:=by simp
 rw[e0]at a6;have b4:Below w.heap.size w ((w.alloc (Obj.cells #[.int .i64 0,.slice a1 0 c1,.int .i64 x2,.slice a3 0 c3,.slice a4 0 c4,.slice a5 0 c5,.int .i64 x6,.slice K 0 Z,.slice I 0 c8,.slice a9 0 c9,.slice C 0 d0,.slice z 0 d1,.slice F 0 d2,.slice Q 0 J] 66)).alloc (Obj.cells #[Value.pointer none,Value.slice none 0 0] 123)):=((Below.refl _ w).alloc (aM _) _).alloc (by simp) _
 have f0:((w.alloc (Obj.cells #[.int .i64 0,.slice a1 0 c1,.int .i64 x2,.slice a3 0 c3,.slice a4 0 c4,.slice a5 0 c5,.int .i64 x6,.slice K 0 Z,.slice I 0 c8,.slice a9 0 c9,.slice C 0 d0,.slice z 0 d1,.slice F 0 d2,.slice Q 0 J] 66)).alloc (Obj.cells #[Value.pointer none,Value.slice none 0 0] 123)).cell? ⟨w.heap.size,10,none⟩=some (.slice C 0 d0):=by rw[World.cell?_alloc_lt _ _ _ (by rw[e0];exact jR _)];exact fR w _ 66 10 _ rfl
 have f1:((w.alloc (Obj.cells #[.int .i64 0,.slice a1 0 c1,.int .i64 x2,.slice a3 0 c3,.slice a4 0 c4,.slice a5 0 c5,.int .i64 x6,.slice K 0 Z,.slice I 0 c8,.slice a9 0 c9,.slice C 0 d0,.slice z 0 d1,.slice F 0 d2,.slice Q 0 J] 66)).alloc (Obj.cells #[Value.pointer none,Value.slice none 0 0] 123)).cell? ⟨w.heap.size,12,none⟩=some (.slice F 0 d2):=by rw[World.cell?_alloc_lt _ _ _ (by rw[e0];exact jR _)];exact fR w _ 66 12 _ rfl
 have H:w.heap.size+1<=((w.alloc (Obj.cells #[.int .i64 0,.slice a1 0 c1,.int .i64 x2,.slice a3 0 c3,.slice a4 0 c4,.slice a5 0 c5,.int .i64 x6,.slice K 0 Z,.slice I 0 c8,.slice a9 0 c9,.slice C 0 d0,.slice z 0 d1,.slice F 0 d2,.slice Q 0 J] 66)).alloc (Obj.cells #[Value.pointer none,Value.slice none 0 0] 123)).heap.size:=by simp
 go_wp2_with (first
  |(go_at_call 63;refine(w63 _ (w.heap.size+1) _ a6 H).mono ?_;rintro e W1 ⟨rfl,h1,y⟩;refine Hid.out ?_))
 have g0:W1.cell? ⟨w.heap.size,10,none⟩=some (.slice C 0 d0):=by rw[<-f0];exact y.cell (p:=⟨w.heap.size,10,none⟩) (jR _)
 have g1:W1.cell? ⟨w.heap.size,12,none⟩=some (.slice F 0 d2):=by rw[<-f1];exact y.cell (p:=⟨w.heap.size,12,none⟩) (jR _)
 have b6:=y.size;have b7:w.heap.size+1<=W1.heap.size:=by omega
 have b5:Below w.heap.size w W1:=b4.trans ⟨y.os,y.tape,y.output,y.size,fun b hb=>y.block b (by omega)⟩;have b8:w.heap.size<W1.heap.size:=by omega
 clear a6 f0 f1 b4 e0 H y b6;refine Lib.hid ?_
 go_wp2
 refine wp_loop_rounds 1 ?_;rw[rounds_succ]
 go_wp2
 refine wp_loop_rounds 1 ?_;rw[rounds_succ]
 go_wp2_with (go_at_call 37;refine(Any.Builder_String_any_k lyT Yg (w.heap.size+1) (w.heap.size+1) [99,108,111,99,107,32,48,10] _ h1 b7).mono ?_;rintro e W2 ⟨rfl,_,z,_⟩)
 go_ret
 exact⟨rfl,b5.trans ⟨z.os,z.tape,z.output,z.size,fun b hb=>z.block b (by omega)⟩⟩
end Pr
end Go.Proofs.YtmhhnklkcmpdkaaGreatDoor
namespace Go.Proofs.YtmhhnklkcmpdkaaGreatDoor
open Go.Sy
open Go.RowKit Go.ChangeShapes Go.WideShapes
namespace Pr
variable [bl]
set_option maxHeartbeats 4000000 in
set_option maxRecDepth 1000000 in
theorem Yb(w:World)(B b:Nat)(bs:LAd)(nm rs D:t8)(n:Int)(hI:Lib.IsBuilderF 123 5 B b bs w)(hB:B<=w.heap.size)(h1:nm.length<=100)(h2:rs.length<=100)(h3:D.length<=100)(h4:bs.length<=1000000)
 (J:Calls Tryz.prog 64 #[.int .i64 n] w fun e w'=>e= .returned (.string ⟨D.toArray⟩)/\Below w.heap.size w w'):
 Calls Tryz.prog 63 #[.string ⟨nm.toArray⟩,.int .i64 n,.string ⟨rs.toArray⟩,.pointer (some ⟨b,0,none⟩)] w
  fun e w'=>e= .returned (.tuple #[])/\Lib.IsBuilderF 123 5 B b (bs++Lib.byteCells (nm++(32::(D++(rs++ [10]))))) w'/\Below B w w'/\Lib.OthersKept 5 (some b) w w':=by
 go_enter Tryz.func63,Tryz.ntmps63
 go_wp2_with (go_at_call 64;refine J.mono ?_;rintro e W1 ⟨rfl,y⟩;refine Hid.out ?_)
 have I:=li hI y;have a1:=y.size;have F:B<=W1.heap.size:=by omega
 have K:Below B w W1:=⟨y.os,y.tape,y.output,y.size,fun k hk=>y.block k (by omega)⟩
 have hS:({data:=nm.toArray}++ {data:= #[32]}++ {data:=D.toArray}++ {data:=rs.toArray}++ {data:= #[10]}:ByteArray)=⟨(nm++(32::(D++(rs++ [10])))).toArray⟩:=by refine ByteArray.ext ?_;simp[ByteArray.append,aI]
 have hc:Lib.strCells (⟨(nm++(32::(D++(rs++ [10])))).toArray⟩:ByteArray)=Lib.byteCells (nm++(32::(D++(rs++ [10])))):=rfl
 have hl:bs.length+(⟨(nm++(32::(D++(rs++ [10])))).toArray⟩:ByteArray).size<=140737488355328:=by show bs.length+(nm++(32::(D++(rs++ [10])))).toArray.size<=_;rw[List.size_toArray];simp only[af,ai,al];omega
 refine Lib.hid ?_
 go_wp2_with (go_at_call 34;refine(Any.Builder_WriteString_k lyS Yh B b bs _ _ I hl F).mono ?_;rintro e W3 ⟨rfl,z,Q,H⟩)
 go_end0
 exact⟨rfl,Or.inr z,K.trans Q,fun q o Z C ho=>H q o (by rw[y.block q (cz.1 Z).1];exact Z) C ho⟩
theorem fy(w:World)(o:Obj):(w.alloc o).heap[w.heap.size]? =some o:=by show(w.heap.push o)[w.heap.size]? =_;simp
theorem Uu(w:World)(o:Obj){r:Nat}(h:r<w.heap.size):(w.alloc o).heap[r]? =w.heap[r]? :=by show(w.heap.push o)[r]? =_;rw[Array.getElem?_push,if_neg (by omega)]
set_option maxHeartbeats 16000000 in
set_option maxRecDepth 1000000 in
theorem w24g(
 w:World)(k x2 x6:Int)(a1 a3 a4 a5 a7 a8 a9 K b2:Option Addr)(l1 l3 l4 l5 l7 l8 l9 Q a6 c1 c3 c4 c5 c7 c8 c9 Z b0 be oe C ce bh oh nh ch:Nat)
 (im:Nat->Int) (d8:Nat->Int) (e2 e3 e4 e5:Nat->Option Addr) (n2 n3 n4 n5 d2 d3 d4 d5:Nat->Nat) (e6 e7 e8:Nat->Int) (e9 d7:Nat->Option Addr) (n9 b8 d9 f1:Nat->Nat)
 (b3:be<w.heap.size) (u0:C<=10)
 (r0:∀i,i<C->w.cell? ⟨be,oe+i*11,none⟩=some (.int .i64 (im i))) (r1:∀i,i<C->w.cell? ⟨be,oe+i*11+1,none⟩=some (.int .i64 (d8 i)))
 (r2:∀i,i<C->w.cell? ⟨be,oe+i*11+2,none⟩=some (.slice (e2 i) (n2 i) (d2 i))) (r3:∀i,i<C->w.cell? ⟨be,oe+i*11+3,none⟩=some (.slice (e3 i) (n3 i) (d3 i)))
 (r4:∀i,i<C->w.cell? ⟨be,oe+i*11+4,none⟩=some (.slice (e4 i) (n4 i) (d4 i))) (r5:∀i,i<C->w.cell? ⟨be,oe+i*11+5,none⟩=some (.slice (e5 i) (n5 i) (d5 i)))
 (r6:∀i,i<C->w.cell? ⟨be,oe+i*11+6,none⟩=some (.int .i64 (e6 i))) (r7:∀i,i<C->w.cell? ⟨be,oe+i*11+7,none⟩=some (.int .i64 (e7 i))) (r8:∀i,i<C->w.cell? ⟨be,oe+i*11+8,none⟩=some (.int .i64 (e8 i)))
 (r9:∀i,i<C->w.cell? ⟨be,oe+i*11+9,none⟩=some (.slice (e9 i) (n9 i) (d9 i))) (j3:∀i,i<C->w.cell? ⟨be,oe+i*11+10,none⟩=some (.slice (d7 i) (b8 i) (f1 i)))
 (s8:bh<w.heap.size) (w3:nh<=10) (row:Nat->LAd) (ih:Nat->Int) (up:Nat->Bool) (f8:∀i,i<nh->w.rangeAt bh (oh+i*40) (row i)) (m0:∀i,i<nh->(row i).length=40)
 (f4:∀i,i<nh->((row i).toArray.all (·.oneCell'))=true) (j4:∀i,i<nh->(row i)[0]? =some (.int .i64 (ih i))) (f3:∀i,i<nh->(row i)[38]? =some (.bool (up i)))
 (nm:Int->t8) (St:Nat->t8) (F G:Nat->t8)
 (k4:F 0=[99,108,111,99,107,32]++(nm k++ [10])) (hF:∀i,i<C->F (i+1)=F i++([109,97,99,104,105,110,101]++(32::(nm (im i)++((32::St i)++ [10]))))) (n7:∀i,i<=C->(F i).length<=1000)
 (m7:G 0=F C) (hG:∀i,i<nh->G (i+1)=G i++([104,111,115,116]++(32::(nm (ih i)++((if up i=true then [32,117,112]else [32,100,111,119,110])++ [10]))))) (j8:∀i,i<=nh->(G i).length<=2000)
 (g5:(nm k).length<=13/\∀i,i<C->(nm (im i)).length<=13/\(St i).length<=30) (h9:∀i,i<nh->(nm (ih i)).length<=13)
 (f5:∀n wr,n=k\/(∃i,i<C/\n=im i)\/(∃i,i<nh/\n=ih i)->Below w.heap.size w wr->Calls Tryz.prog 64 #[.int .i64 n] wr fun e w'=>e= .returned (.string ⟨(nm n).toArray⟩)/\Below wr.heap.size wr w')
 (j6:∀i wr,i<C->Below w.heap.size w wr->Calls Tryz.prog 65 #[.agg #[.int .i64 k,.slice a1 l1 c1,.int .i64 x2,.slice a3 l3 c3,.slice a4 l4 c4,.slice a5 l5 c5,.int .i64 x6,.slice a7 l7 c7,.slice a8 l8 c8,.slice a9 l9 c9,.slice (some ⟨be,oe,none⟩) C ce,.slice K Q Z],.int .i64 (im i)] wr fun e w'=>e= .returned (.string ⟨(St i).toArray⟩)/\Below wr.heap.size wr w'):
 Calls Tryz.prog 24 #[.agg #[.int .i64 k,.slice a1 l1 c1,.int .i64 x2,.slice a3 l3 c3,.slice a4 l4 c4,.slice a5 l5 c5,.int .i64 x6,.slice a7 l7 c7,.slice a8 l8 c8,.slice a9 l9 c9,.slice (some ⟨be,oe,none⟩) C ce,.slice K Q Z,.slice (some ⟨bh,oh,none⟩) nh ch,.slice b2 a6 b0]] w fun e w'=>e= .returned (.string ⟨(G nh).toArray⟩)/\Below w.heap.size w w':=by
 have e0:(w.alloc (Obj.cells #[.int .i64 k,.slice a1 l1 c1,.int .i64 x2,.slice a3 l3 c3,.slice a4 l4 c4,.slice a5 l5 c5,.int .i64 x6,.slice a7 l7 c7,.slice a8 l8 c8,.slice a9 l9 c9,.slice (some ⟨be,oe,none⟩) C ce,.slice K Q Z,.slice (some ⟨bh,oh,none⟩) nh ch,.slice b2 a6 b0] 66)).heap.size=w.heap.size+1:=by simp
 have j2:=tZ 123 5 (w.heap.size+1) (w.alloc (Obj.cells #[.int .i64 k,.slice a1 l1 c1,.int .i64 x2,.slice a3 l3 c3,.slice a4 l4 c4,.slice a5 l5 c5,.int .i64 x6,.slice a7 l7 c7,.slice a8 l8 c8,.slice a9 l9 c9,.slice (some ⟨be,oe,none⟩) C ce,.slice K Q Z,.slice (some ⟨bh,oh,none⟩) nh ch,.slice b2 a6 b0] 66)) (by simp);rw[e0]at j2;have j5:Below w.heap.size w ((w.alloc (Obj.cells #[.int .i64 k,.slice a1 l1 c1,.int .i64 x2,.slice a3 l3 c3,.slice a4 l4 c4,.slice a5 l5 c5,.int .i64 x6,.slice a7 l7 c7,.slice a8 l8 c8,.slice a9 l9 c9,.slice (some ⟨be,oe,none⟩) C ce,.slice K Q Z,.slice (some ⟨bh,oh,none⟩) nh ch,.slice b2 a6 b0] 66)).alloc (Obj.cells #[Value.pointer none,Value.slice none 0 0] 123)):=((Below.refl _ w).alloc (aM _) _).alloc (by simp) _;have u6:((w.alloc (Obj.cells #[.int .i64 k,.slice a1 l1 c1,.int .i64 x2,.slice a3 l3 c3,.slice a4 l4 c4,.slice a5 l5 c5,.int .i64 x6,.slice a7 l7 c7,.slice a8 l8 c8,.slice a9 l9 c9,.slice (some ⟨be,oe,none⟩) C ce,.slice K Q Z,.slice (some ⟨bh,oh,none⟩) nh ch,.slice b2 a6 b0] 66)).alloc (Obj.cells #[Value.pointer none,Value.slice none 0 0] 123)).heap.size=w.heap.size+2:=by simp
 have b4:∀j v,(#[.int .i64 k,.slice a1 l1 c1,.int .i64 x2,.slice a3 l3 c3,.slice a4 l4 c4,.slice a5 l5 c5,.int .i64 x6,.slice a7 l7 c7,.slice a8 l8 c8,.slice a9 l9 c9,.slice (some ⟨be,oe,none⟩) C ce,.slice K Q Z,.slice (some ⟨bh,oh,none⟩) nh ch,.slice b2 a6 b0]:LAe)[j]? =some v->((w.alloc (Obj.cells #[.int .i64 k,.slice a1 l1 c1,.int .i64 x2,.slice a3 l3 c3,.slice a4 l4 c4,.slice a5 l5 c5,.int .i64 x6,.slice a7 l7 c7,.slice a8 l8 c8,.slice a9 l9 c9,.slice (some ⟨be,oe,none⟩) C ce,.slice K Q Z,.slice (some ⟨bh,oh,none⟩) nh ch,.slice b2 a6 b0] 66)).alloc (Obj.cells #[Value.pointer none,Value.slice none 0 0] 123)).cell? ⟨w.heap.size,j,none⟩=some v:=fun j v h=>by rw[World.cell?_alloc_lt _ _ _ (by rw[e0];exact jR _)];exact fR w _ 66 j _ h
 have h7:=Yb ((w.alloc (Obj.cells #[.int .i64 k,.slice a1 l1 c1,.int .i64 x2,.slice a3 l3 c3,.slice a4 l4 c4,.slice a5 l5 c5,.int .i64 x6,.slice a7 l7 c7,.slice a8 l8 c8,.slice a9 l9 c9,.slice (some ⟨be,oe,none⟩) C ce,.slice K Q Z,.slice (some ⟨bh,oh,none⟩) nh ch,.slice b2 a6 b0] 66)).alloc (Obj.cells #[Value.pointer none,Value.slice none 0 0] 123)) (w.heap.size+1) (w.heap.size+1) [] [99,108,111,99,107] [] (nm k) k j2 (by omega) (by decide) (by decide) (by have:=g5.1;omega) (by decide) (f5 k _ (.inl rfl) j5)
 go_enter Tryz.func24,Tryz.ntmps24
 go_wp2_with (first
  |(go_at_call 63;refine h7.mono ?_;rintro e W1 ⟨rfl,h1,g8,w2⟩;refine Hid.out ?_))
 generalize o8:((w.alloc (Obj.cells #[.int .i64 k,.slice a1 l1 c1,.int .i64 x2,.slice a3 l3 c3,.slice a4 l4 c4,.slice a5 l5 c5,.int .i64 x6,.slice a7 l7 c7,.slice a8 l8 c8,.slice a9 l9 c9,.slice (some ⟨be,oe,none⟩) C ce,.slice K Q Z,.slice (some ⟨bh,oh,none⟩) nh ch,.slice b2 a6 b0] 66)).alloc (Obj.cells #[Value.pointer none,Value.slice none 0 0] 123))=V0 at*
 have H:∀wr,Below (w.heap.size+1) V0 wr->∀j v,(#[.int .i64 k,.slice a1 l1 c1,.int .i64 x2,.slice a3 l3 c3,.slice a4 l4 c4,.slice a5 l5 c5,.int .i64 x6,.slice a7 l7 c7,.slice a8 l8 c8,.slice a9 l9 c9,.slice (some ⟨be,oe,none⟩) C ce,.slice K Q Z,.slice (some ⟨bh,oh,none⟩) nh ch,.slice b2 a6 b0]:LAe)[j]? =some v->wr.cell? ⟨w.heap.size,j,none⟩=some v:=fun wr z j v h=>by rw[<-b4 j v h];exact z.cell (p:=⟨w.heap.size,j,none⟩) (jR _)
 have f2:∀wr,Below (w.heap.size+1) V0 wr->Below w.heap.size w wr:=fun wr z=>j5.trans ⟨z.os,z.tape,z.output,z.size,fun q hq=>z.block q (by omega)⟩
 have y:∀wr,Below (w.heap.size+1) V0 wr->∀b o v,b<w.heap.size->w.cell? ⟨b,o,none⟩=some v->wr.cell? ⟨b,o,none⟩=some v:=fun wr z b o v k9 h=>by rw[<-h];exact(f2 wr z).cell (p:=⟨b,o,none⟩) k9
 have j0:Lib.IsBuilderF 123 5 (w.heap.size+1) (w.heap.size+1) (Lib.byteCells (F 0)) W1:=by rw[k4];exact h1
 have g9:=H W1 g8 10 _ rfl;have s3:=g8.size;have l0:w.heap.size<W1.heap.size:=by omega
 clear h7 h1 j2 e0;refine Lib.hid ?_
 go_wp2
 go_loopw [19] (fun i wr=>∃j:Nat,j<=C/\i= .int .i64 j/\Lib.IsBuilderF 123 5 (w.heap.size+1) (w.heap.size+1) (Lib.byteCells (F j)) wr/\Below (w.heap.size+1) V0 wr) (fun i _=>C-(intOf i).toNat)
 case atStart=>exact⟨0,aC _,rfl,j0,g8⟩
 case round=>
  obtain⟨j,hj,rfl,hI,z⟩:=hrel;have hs:=z.size
  by_cases J:j<C
  ·have q0:=y wr z _ _ _ b3 (r0 j J)
   have q1:=y wr z _ _ _ b3 (r1 j J);have q2:=y wr z _ _ _ b3 (r2 j J);have q3:=y wr z _ _ _ b3 (r3 j J);have q4:=y wr z _ _ _ b3 (r4 j J);have q5:=y wr z _ _ _ b3 (r5 j J);have q6:=y wr z _ _ _ b3 (r6 j J);have q7:=y wr z _ _ _ b3 (r7 j J);have q8:=y wr z _ _ _ b3 (r8 j J);have q9:=y wr z _ _ _ b3 (r9 j J);have t1:=y wr z _ _ _ b3 (j3 j J);have p0:=H wr z 0 _ rfl;have p1:=H wr z 1 _ rfl;have p2:=H wr z 2 _ rfl;have p3:=H wr z 3 _ rfl;have p4:=H wr z 4 _ rfl;have p5:=H wr z 5 _ rfl;have p6:=H wr z 6 _ rfl;have p7:=H wr z 7 _ rfl;have p8:=H wr z 8 _ rfl;have p9:=H wr z 9 _ rfl;have o5:=H wr z 10 _ rfl;have s6:=H wr z 11 _ rfl;have k8:w.heap.size<wr.heap.size:=by omega
   have t6:be<wr.heap.size:=by omega
   have o0:w.heap.size+1<wr.heap.size:=by omega
   clear r0 r1 r2 r3 r4 r5 r6 r7 r8 r9 j3 g9 j0 y H b4 j5 g8 s3 l0 k4
   have hV:∃fz,V0.heap[w.heap.size]? =some (.cells #[.int .i64 k,.slice a1 l1 c1,.int .i64 x2,.slice a3 l3 c3,.slice a4 l4 c4,.slice a5 l5 c5,.int .i64 x6,.slice a7 l7 c7,.slice a8 l8 c8,.slice a9 l9 c9,.slice (some ⟨be,oe,none⟩) C ce,.slice K Q Z,.slice (some ⟨bh,oh,none⟩) nh ch,.slice b2 a6 b0] 66 fz):=by rw[<-o8];exact⟨(0,0),by rw[Uu _ _ (by simp),fy]⟩
   obtain⟨fz,hV⟩:=hV;have o9:wr.heap[w.heap.size]? =some (.cells #[.int .i64 k,.slice a1 l1 c1,.int .i64 x2,.slice a3 l3 c3,.slice a4 l4 c4,.slice a5 l5 c5,.int .i64 x6,.slice a7 l7 c7,.slice a8 l8 c8,.slice a9 l9 c9,.slice (some ⟨be,oe,none⟩) C ce,.slice K Q Z,.slice (some ⟨bh,oh,none⟩) nh ch,.slice b2 a6 b0] 66 fz):=by rw[z.block _ (jR _)];exact hV
   have j7:(wr.alloc (Obj.cells #[.int .i64 (im j),.int .i64 (d8 j),.slice (e2 j) (n2 j) (d2 j),.slice (e3 j) (n3 j) (d3 j),.slice (e4 j) (n4 j) (d4 j),.slice (e5 j) (n5 j) (d5 j),.int .i64 (e6 j),.int .i64 (e7 j),.int .i64 (e8 j),.slice (e9 j) (n9 j) (d9 j),.slice (d7 j) (b8 j) (f1 j)] 162)).heap[w.heap.size]? =some (.cells #[.int .i64 k,.slice a1 l1 c1,.int .i64 x2,.slice a3 l3 c3,.slice a4 l4 c4,.slice a5 l5 c5,.int .i64 x6,.slice a7 l7 c7,.slice a8 l8 c8,.slice a9 l9 c9,.slice (some ⟨be,oe,none⟩) C ce,.slice K Q Z,.slice (some ⟨bh,oh,none⟩) nh ch,.slice b2 a6 b0] 66 fz):=by rw[<-o9];exact Uu _ _ k8
   have j9:(wr.alloc (Obj.cells #[.int .i64 (im j),.int .i64 (d8 j),.slice (e2 j) (n2 j) (d2 j),.slice (e3 j) (n3 j) (d3 j),.slice (e4 j) (n4 j) (d4 j),.slice (e5 j) (n5 j) (d5 j),.int .i64 (e6 j),.int .i64 (e7 j),.int .i64 (e8 j),.slice (e9 j) (n9 j) (d9 j),.slice (d7 j) (b8 j) (f1 j)] 162)).heap[wr.heap.size]? =some (.cells #[.int .i64 (im j),.int .i64 (d8 j),.slice (e2 j) (n2 j) (d2 j),.slice (e3 j) (n3 j) (d3 j),.slice (e4 j) (n4 j) (d4 j),.slice (e5 j) (n5 j) (d5 j),.int .i64 (e6 j),.int .i64 (e7 j),.int .i64 (e8 j),.slice (e9 j) (n9 j) (d9 j),.slice (d7 j) (b8 j) (f1 j)] 162 (0,0)):=fy _ _;have s5:(wr.alloc (Obj.cells #[.int .i64 (im j),.int .i64 (d8 j),.slice (e2 j) (n2 j) (d2 j),.slice (e3 j) (n3 j) (d3 j),.slice (e4 j) (n4 j) (d4 j),.slice (e5 j) (n5 j) (d5 j),.int .i64 (e6 j),.int .i64 (e7 j),.int .i64 (e8 j),.slice (e9 j) (n9 j) (d9 j),.slice (d7 j) (b8 j) (f1 j)] 162)).heap.size=wr.heap.size+1:=by simp
   have j1:=hI.alloc (Obj.cells #[.int .i64 (im j),.int .i64 (d8 j),.slice (e2 j) (n2 j) (d2 j),.slice (e3 j) (n3 j) (d3 j),.slice (e4 j) (n4 j) (d4 j),.slice (e5 j) (n5 j) (d5 j),.int .i64 (e6 j),.int .i64 (e7 j),.int .i64 (e8 j),.slice (e9 j) (n9 j) (d9 j),.slice (d7 j) (b8 j) (f1 j)] 162);have d6:Below (w.heap.size+1) V0 (wr.alloc (Obj.cells #[.int .i64 (im j),.int .i64 (d8 j),.slice (e2 j) (n2 j) (d2 j),.slice (e3 j) (n3 j) (d3 j),.slice (e4 j) (n4 j) (d4 j),.slice (e5 j) (n5 j) (d5 j),.int .i64 (e6 j),.int .i64 (e7 j),.int .i64 (e8 j),.slice (e9 j) (n9 j) (d9 j),.slice (d7 j) (b8 j) (f1 j)] 162)):=z.alloc (by omega) _
   go_wp2
   generalize v1:wr.alloc (Obj.cells #[.int .i64 (im j),.int .i64 (d8 j),.slice (e2 j) (n2 j) (d2 j),.slice (e3 j) (n3 j) (d3 j),.slice (e4 j) (n4 j) (d4 j),.slice (e5 j) (n5 j) (d5 j),.int .i64 (e6 j),.int .i64 (e7 j),.int .i64 (e8 j),.slice (e9 j) (n9 j) (d9 j),.slice (d7 j) (b8 j) (f1 j)] 162)=Wx at*
   have cX:∀wx:World,(∀q o,Wx.heap[q]? =some o->q=w.heap.size\/q=wr.heap.size->wx.heap[q]? =some o)->wx.cell? ⟨w.heap.size,0,none⟩=some (.int .i64 k)/\wx.cell? ⟨w.heap.size,1,none⟩=some (.slice a1 l1 c1)/\wx.cell? ⟨w.heap.size,2,none⟩=some (.int .i64 x2)/\wx.cell? ⟨w.heap.size,3,none⟩=some (.slice a3 l3 c3)/\wx.cell? ⟨w.heap.size,4,none⟩=some (.slice a4 l4 c4)/\wx.cell? ⟨w.heap.size,5,none⟩=some (.slice a5 l5 c5)/\wx.cell? ⟨w.heap.size,6,none⟩=some (.int .i64 x6)/\wx.cell? ⟨w.heap.size,7,none⟩=some (.slice a7 l7 c7)/\wx.cell? ⟨w.heap.size,8,none⟩=some (.slice a8 l8 c8)/\wx.cell? ⟨w.heap.size,9,none⟩=some (.slice a9 l9 c9)/\wx.cell? ⟨w.heap.size,10,none⟩=some (.slice (some ⟨be,oe,none⟩) C ce)/\wx.cell? ⟨w.heap.size,11,none⟩=some (.slice K Q Z)/\wx.cell? ⟨wr.heap.size,0,none⟩=some (.int .i64 (im j)):=fun wx h=>by have a:=h _ _ j7 (.inl rfl);have b:=h _ _ j9 (.inr rfl);simp only[World.cell?,a,b];simp
   have k3:∀wy,Below Wx.drew.heap.size Wx.drew wy->∀q o,Wx.heap[q]? =some o->q=w.heap.size\/q=wr.heap.size->wy.heap[q]? =some o:=fun wy hy q o h _=>by rw[hy.block q (cz.1 (show Wx.drew.heap[q]? =some o from h)).1];exact h
   have o7:∀wy wz,Below Wx.drew.heap.size Wx.drew wy->Lib.OthersKept 5 (some (w.heap.size+1)) wy wz->∀q o,Wx.heap[q]? =some o->q=w.heap.size\/q=wr.heap.size->wz.heap[q]? =some o:=fun wy wz hy hz q o h hq=>by
    refine hz q o (k3 wy hy q o h hq) (fun e=> ?_) (fun c u4 e=> ?_)
    ·have:=ay.inj e;omega
    ·subst e
     rcases hq with rfl|rfl
     ·rw[j7]at h;simp at h
     ·rw[j9]at h;simp at h
   obtain⟨z0,z1,z2,z3,z4,z5,z6,z7,z8,z9,u1,x3,w9⟩:=cX Wx (fun q o h _=>h);have h6:Below (w.heap.size+1) V0 Wx.drew:=⟨d6.os,d6.tape,d6.output,d6.size,d6.block⟩;have o4:=j6 j Wx.drew J (f2 _ h6);have x0:=(g5.2 j J).2;have u5:=(g5.2 j J).1
   have t7:({data:= #[32]}++ {data:=(St j).toArray}:ByteArray)=⟨(32::St j).toArray⟩:=by refine ByteArray.ext ?_;simp
   have w7:=n7 j hj
   have g6:∀b5,Below Wx.drew.heap.size Wx.drew b5->Calls Tryz.prog 63 #[.string ⟨#[109,97,99,104,105,110,101]⟩,.int .i64 (im j),.string ⟨(32::St j).toArray⟩,.pointer (some ⟨w.heap.size+1,0,none⟩)] b5
    fun e w'=>e= .returned (.tuple #[])/\Lib.IsBuilderF 123 5 (w.heap.size+1) (w.heap.size+1) (Lib.byteCells (F (j+1))) w'/\Below (w.heap.size+1) V0 w'/\Lib.OthersKept 5 (some (w.heap.size+1)) b5 w':=fun b5 I=>by
    have u2:=I.size;have v7:Wx.drew.heap.size=Wx.heap.size:=rfl;have k7:Below (w.heap.size+1) V0 b5:=h6.trans ⟨I.os,I.tape,I.output,I.size,fun q hq=>I.block q (by omega)⟩;refine(Yb b5 (w.heap.size+1) (w.heap.size+1) (Lib.byteCells (F j)) [109,97,99,104,105,110,101] (32::St j) (nm (im j)) (im j) (li (w:=Wx.drew) j1 I) (by omega) (by decide) (by rw[ai];omega) (by omega) (by rw[Lib.byteCells_length];omega) (f5 (im j) b5 (.inr (.inl ⟨j,J,rfl⟩)) (f2 b5 k7))).mono ?_;rintro e w' ⟨rfl,a,b,c⟩;rw[hF j J,Lib.byteCells_append];exact⟨rfl,a,k7.trans b,c⟩
   clear j6 q0 q1 q2 q3 q4 q5 q6 q7 q8 q9 t1 p0 p1 p2 p3 p4 p5 p6 p7 p8 p9 o5 s6;have v6:¬(9223372036854775807<1+(St j).length):=by omega
   have v8:¬(9223372036854775807<(St j).length+1):=by omega
   have w5:1+(St j).length<=9223372036854775807:=by omega
   go_region_held3 (fun wx=>wx.cell? ⟨w.heap.size,0,none⟩=some (.int .i64 k)/\wx.cell? ⟨w.heap.size,1,none⟩=some (.slice a1 l1 c1)/\wx.cell? ⟨w.heap.size,2,none⟩=some (.int .i64 x2)/\wx.cell? ⟨w.heap.size,3,none⟩=some (.slice a3 l3 c3)/\wx.cell? ⟨w.heap.size,4,none⟩=some (.slice a4 l4 c4)/\wx.cell? ⟨w.heap.size,5,none⟩=some (.slice a5 l5 c5)/\wx.cell? ⟨w.heap.size,6,none⟩=some (.int .i64 x6)/\wx.cell? ⟨w.heap.size,7,none⟩=some (.slice a7 l7 c7)/\wx.cell? ⟨w.heap.size,8,none⟩=some (.slice a8 l8 c8)/\wx.cell? ⟨w.heap.size,9,none⟩=some (.slice a9 l9 c9)/\wx.cell? ⟨w.heap.size,10,none⟩=some (.slice (some ⟨be,oe,none⟩) C ce)/\wx.cell? ⟨w.heap.size,11,none⟩=some (.slice K Q Z)/\wx.cell? ⟨wr.heap.size,0,none⟩=some (.int .i64 (im j))) (first|exact cX Wx.drew (fun q o h _=>h)|exact cX _ (k3 _ I)|exact cX _ (o7 _ _ I k6)) (first|(go_at_call 65;refine o4.mono ?_;rintro e b5 ⟨rfl,I⟩)|(go_at_call 63;refine(g6 _ I).mono ?_;rintro e k5 ⟨rfl,b7,b6,k6⟩))
   go_wp2
   go_roundw
   case rel=>exact⟨j+1,by omega,by push_cast;rfl,b7,b6⟩
   case measure=>simp[intOf];omega
  ·have o2:j=C:=by omega
   subst o2;have w8:=H wr z 12 _ rfl;have k8:w.heap.size<wr.heap.size:=by omega
   have m9:Lib.IsBuilderF 123 5 (w.heap.size+1) (w.heap.size+1) (Lib.byteCells (G 0)) wr:=by rw[m7];exact hI
   clear r0 r1 r2 r3 r4 r5 r6 r7 r8 r9 j3 g9 j0 j6 n7
   go_wp2
   generalize wr=wv at*
   go_loopw [37] (fun i wr=>∃q:Nat,q<=nh/\i= .int .i64 q/\Lib.IsBuilderF 123 5 (w.heap.size+1) (w.heap.size+1) (Lib.byteCells (G q)) wr/\Below (w.heap.size+1) V0 wr) (fun i _=>nh-(intOf i).toNat)
   case atStart=>exact⟨0,aC _,rfl,m9,z⟩
   case round=>
    obtain⟨i,hi,rfl,l2,g7⟩:=hrel;have hs3:=g7.size
    by_cases e1:i<nh
    ·have t6:bh<wr.heap.size:=by omega
     have m5:wr.rangeAt bh (oh+i*40) (row i):=fun q v hq=>y wr g7 _ _ _ s8 (f8 i e1 q v hq)
     have i1:=fun wx=>f5 (ih i) wx (.inr (.inr ⟨i,e1,rfl⟩))
     have s4:=hG i e1;have u3:=j8 i hi;have w6:=h9 i e1;have s9:=j4 i e1;have n6:=f3 i e1;have m6:=m0 i e1;have m2:=f4 i e1;have h8:(Tryz.prog.info? 102).map (·.size)=some (row i).length:=by rw[m6];kernel_rfl
     clear f8 f4 j4 f3 f5 hG j8 h9 g5 hF m7 m9 hI m0;generalize row i=f0 at*
     go_wp2_with (first
      |(refine wpList_load_mid rfl 102 _ rfl bh (oh+i*40) rfl f0 _ m5 Tryz.underlying102 rfl h8 ?_)
      |(refine wpList_store_row rfl 102 _ _ rfl wr.heap.size f0.toArray rfl rfl 102 _ (fy _ _) (by rw[h8];simp) (by simp[m6]) m2 ?_;refine Hid.out ?_))
     rw[World.setRow_alloc_new];have s5:(wr.alloc (Obj.cells f0.toArray 102)).heap.size=wr.heap.size+1:=by simp
     have j1:=l2.alloc (Obj.cells f0.toArray 102);have d6:Below (w.heap.size+1) V0 (wr.alloc (Obj.cells f0.toArray 102)):=g7.alloc (by omega) _;have j7:(wr.alloc (Obj.cells f0.toArray 102)).cell? ⟨wr.heap.size,0,none⟩=some (.int .i64 (ih i)):=fR _ _ 102 0 _ (by simpa using s9);have h5:(wr.alloc (Obj.cells f0.toArray 102)).cell? ⟨wr.heap.size,38,none⟩=some (.bool (up i)):=fR _ _ 102 38 _ (by simpa using n6);generalize wr.alloc (Obj.cells f0.toArray 102)=Wh at*;have k9:wr.heap.size<Wh.heap.size:=by omega
     have o0:w.heap.size+1<Wh.heap.size:=by omega
     have g6:∀rs,rs=(if up i=true then [32,117,112]else [32,100,111,119,110]:t8)->Calls Tryz.prog 63 #[.string ⟨#[104,111,115,116]⟩,.int .i64 (ih i),.string ⟨rs.toArray⟩,.pointer (some ⟨w.heap.size+1,0,none⟩)] Wh
      fun e w'=>e= .returned (.tuple #[])/\Lib.IsBuilderF 123 5 (w.heap.size+1) (w.heap.size+1) (Lib.byteCells (G (i+1))) w'/\Below (w.heap.size+1) V0 w':=fun rs o1=>by
      refine(Yb Wh (w.heap.size+1) (w.heap.size+1) (Lib.byteCells (G i)) [104,111,115,116] rs (nm (ih i)) (ih i) j1 (by omega) (by decide) (by rw[o1];split<;>decide) (by omega) (by rw[Lib.byteCells_length];omega) (i1 Wh (f2 Wh d6))).mono ?_;rintro e w' ⟨rfl,a,b,c⟩;rw[s4,<-o1,Lib.byteCells_append];exact⟨rfl,a,d6.trans b⟩
     clear H f2 y b4 i1 m5 m2;refine Lib.hid ?_;rcases hup:up i with _|_
     ·rw[hup]at h5
      have g2:=g6 [32,100,111,119,110] (by rw[hup];rfl)
      go_wp2_with (go_at_call 63;refine g2.mono ?_;rintro e k5 ⟨rfl,b7,b6⟩)
      go_roundw
      case rel=>exact⟨i+1,by omega,by push_cast;rfl,b7,b6⟩
      case measure=>simp[intOf];omega
     ·rw[hup]at h5
      have g2:=g6 [32,117,112] (by rw[hup];rfl)
      go_wp2_with (go_at_call 63;refine g2.mono ?_;rintro e k5 ⟨rfl,b7,b6⟩)
      go_roundw
      case rel=>exact⟨i+1,by omega,by push_cast;rfl,b7,b6⟩
      case measure=>simp[intOf];omega
    ·have o3:i=nh:=by omega
     subst o3;have o6:=f2 wr g7;clear H f2 y b4 f5 f8 f4 j4 f3 hG
     go_wp2_with (go_at_call 37;refine(Any.Builder_String_any_k lyT Yg (w.heap.size+1) (w.heap.size+1) (G i) _ l2 (by omega)).mono ?_;rintro e W3 ⟨rfl,_,b1,_⟩)
     go_ret
     exact⟨rfl,o6.trans ⟨b1.os,b1.tape,b1.output,b1.size,fun q hq=>b1.block q (by omega)⟩⟩
end Pr
end Go.Proofs.YtmhhnklkcmpdkaaGreatDoor
namespace Go.Proofs.YtmhhnklkcmpdkaaGreatDoor
open Go.Sy
open Go.RowKit Go.Shelf
namespace Pr
variable [bl]
def xf9:Go.Shelf.Ren:=⟨fun|221=>156|268=>222|138=>223|143=>224|195=>281|197=>282|218=>283|219=>155|260=>318|217=>218|225=>219|224=>220|267=>221|266=>279|314=>280|n=>n,fun|9=>9|3=>3|31=>40|4=>4|0=>0|105=>407|21=>21|5=>5|46=>39|119=>452|139=>455|138=>454|146=>405|51=>300|n=>n,fun|1=>0|3=>4|4=>5|n=>n⟩
theorem lyG:Go.Proofs.Lays.n221 Tryz.prog xf9:= {mixed:=by kernel_rfl,f138:=Tryz.func223.trans (congrArg some (by kernel_rfl)),f143:=Tryz.func224.trans (congrArg some (by kernel_rfl)),f195:=Tryz.func281.trans (congrArg some (by kernel_rfl)),f197:=Tryz.func282.trans (congrArg some (by kernel_rfl)),f217:=Tryz.func218.trans (congrArg some (by kernel_rfl)),f218:=Tryz.func283.trans (congrArg some (by kernel_rfl)),f219:=Tryz.func155.trans (congrArg some (by kernel_rfl)),f221:=Tryz.func156.trans (congrArg some (by kernel_rfl)),f224:=Tryz.func220.trans (congrArg some (by kernel_rfl)),f225:=Tryz.func219.trans (congrArg some (by kernel_rfl)),f260:=Tryz.func318.trans (congrArg some (by kernel_rfl)),f266:=Tryz.func279.trans (congrArg some (by kernel_rfl)),f267:=Tryz.func221.trans (congrArg some (by kernel_rfl)),f268:=Tryz.func222.trans (congrArg some (by kernel_rfl)),f314:=Tryz.func280.trans (congrArg some (by kernel_rfl)),t0:=Tryz.underlying0,a0:=Tryz.isAgg0,z0:=Tryz.sizeOf0,v0:=Tryz.zeroValue0,t3:=Tryz.underlying3,a3:=Tryz.isAgg3,z3:=Tryz.sizeOf3,v3:=Tryz.zeroValue3,t4:=Tryz.underlying4,a4:=Tryz.isAgg4,z4:=Tryz.sizeOf4,v4:=Tryz.zeroValue4,t5:=Tryz.underlying5,a5:=Tryz.isAgg5,z5:=Tryz.sizeOf5,v5:=Tryz.zeroValue5,t9:=Tryz.underlying9,a9:=Tryz.isAgg9,z9:=Tryz.sizeOf9,v9:=Tryz.zeroValue9,t21:=Tryz.underlying21,a21:=Tryz.isAgg21,z21:=Tryz.sizeOf21,v21:=Tryz.zeroValue21,t31:=Tryz.underlying40,a31:=Tryz.isAgg40,z31:=Tryz.sizeOf40,v31:=Tryz.zeroValue40,t46:=Tryz.underlying39,a46:=Tryz.isAgg39,z46:=Tryz.sizeOf39,v46:=Tryz.zeroValue39,t51:=Tryz.underlying300,a51:=Tryz.isAgg300,z51:=Tryz.sizeOf300,v51:=Tryz.zeroValue300,t105:=Tryz.underlying407,a105:=Tryz.isAgg407,z105:=Tryz.sizeOf407,v105:=Tryz.zeroValue407,t119:=Tryz.underlying452,a119:=Tryz.isAgg452,z119:=Tryz.sizeOf452,t138:=Tryz.underlying454,a138:=Tryz.isAgg454,z138:=Tryz.sizeOf454,v138:=Tryz.zeroValue454,t139:=Tryz.underlying455,a139:=Tryz.isAgg455,z139:=Tryz.sizeOf455,v139:=Tryz.zeroValue455,t146:=Tryz.underlying405,a146:=Tryz.isAgg405,z146:=Tryz.sizeOf405,v146:=Tryz.zeroValue405,g1:=by kernel_rfl,g3:=by kernel_rfl,g4:=by kernel_rfl}
theorem ixc(d c:UInt8)(r:t8):Lib.indexByte (d::r) c=if d=c then 0 else if Lib.indexByte r c= -1 then-1 else Lib.indexByte r c+1:=by
 rw[Lib.indexByte]
 by_cases h:d=c
 ·rw[if_pos h,if_pos (beq_iff_eq.2 h)]
 ·rw[if_neg h,if_neg (fun e=>h (beq_iff_eq.1 e))]
  by_cases h2:Lib.indexByte r c= -1
  ·rw[if_pos h2,if_pos (beq_iff_eq.2 h2)]
  ·rw[if_neg h2,if_neg (fun e=>h2 (beq_iff_eq.1 e))]
theorem ixa:∀(w r:t8)(c:UInt8),c∉w->Lib.indexByte (w++c::r) c=(w.length:Nat)
 |[],r,c,_=>by rw[aA,ixc,if_pos rfl];rfl
 |d::w,r,c,h=>by
  have h1:¬d=c:=fun e=>h (by rw[e];exact aD)
  have y:=ixa w r c (fun z=>h (an _ z));rw[aL,ixc,if_neg h1,y,if_neg (by omega),ai];omega
theorem dca:∀(s:t8)(c:UInt8),c∈s->∃w r,s=w++c::r/\c∉w
 |d::t,c,h=>by
  by_cases e:d=c
  ·exact⟨[],t,by rw[e];rfl,by simp⟩
  ·rcases aq.1 h with h|h
   ·exact absurd h.symm e
   ·obtain⟨w,r,h1,h2⟩:=dca t c h
    exact⟨d::w,r,by rw[h1];rfl,fun y=>by
     rcases aq.1 y with y|y
     ·exact e y.symm
     ·exact h2 y⟩
theorem xeg:∀(k:Nat)(s:t8),s.count 32=k->Lib.splitK [32] 0 k s=jx s
 |0,s,h=>by have F:(32:UInt8)∉s:=List.count_eq_zero.1 h;rw[Lib.splitK,KE s F]
 |k+1,s,h=>by
  have z:(32:UInt8)∈s:=List.count_pos_iff.1 (by omega);obtain⟨w,r,rfl,y⟩:=dca s 32 z
  have C:r.count 32=k:=by rw[List.count_append,List.count_cons_self,List.count_eq_zero.2 y]at h;omega
  have hi:Lib.index (w++32::r) [32]=((w.length:Nat):Int):=by rw[Lib.index_one,ixa w r 32 y]
  rw[Lib.splitK,hi,if_neg (fun e=>by have:=beq_iff_eq.1 e;omega),KF w r y];simp only[eS,fJ,List.take_left,aT];rw[show w.length+1=(w++ [32]).length from by simp,show w++32::r=(w++ [32])++r from by simp,List.drop_left,xeg k r C]
set_option maxRecDepth 100000 in
theorem xfw(w:World)(s:ByteArray)(c:UInt8):
 Calls Tryz.prog 224 #[.string s,.string ⟨#[c]⟩] w fun e w'=>e= .returned (.int .i64 (Lib.indexByte s.data.toList c))/\w'=w:=by
 go_enter Tryz.func224,Tryz.ntmps224
 go_wp2_with (first
  |(go_at_call 155;refine(xed _ _ _).mono ?_;rintro e w' ⟨rfl,rfl⟩)
  |go_in)
 go_ret
 exact⟨rfl,rfl⟩
theorem xfy(w:World)(s:ByteArray)(hs:s.size<4294967281):
 Calls Tryz.prog 156 #[.string s,.string ⟨#[32]⟩,.int .i64 0,.int .i64 (-1)] w fun e w'=>e= .returned (.slice (some ⟨w.heap.size,0,none⟩) (jx s.data.toList).length (jx s.data.toList).length)/\w'=w.alloc (.cells ((jx s.data.toList).map fun l=>Value.string ⟨⟨l⟩⟩).toArray 9):=by
 have h1:1<=(⟨#[32]⟩:ByteArray).size:=by decide
 have C:Lib.countB s ⟨#[32]⟩=s.data.toList.count 32:=by show Lib.count s.data.toList [32]=_;rw[Lib.count_one]
 have I:=Lib.countB_le ⟨#[32]⟩ h1 s.size s (aM _);have z:=Lib.splitB_all ⟨#[32]⟩ h1 0 _ s rfl;have y:=Lib.splitB_data ⟨#[32]⟩ 0 (Lib.countB s ⟨#[32]⟩) s;rw[show(⟨#[32]⟩:ByteArray).data.toList=[32]from rfl,xeg (Lib.countB s ⟨#[32]⟩) _ C.symm]at y
 have c:=Any.strings_genSplit_core lyG (by kernel_rfl) s ⟨#[32]⟩ 0 (-1) (Lib.countB s ⟨#[32]⟩+1) w hs h1 (aC _)
  (fun x c K=>by refine(xfw (w.alloc (.cells c 9)) x 32).mono ?_;rintro e w' ⟨rfl,rfl⟩;refine⟨?_,rfl⟩;show _=Ending.returned (Value.int .i64 (Lib.index x.data.toList [32]));rw[Lib.index_one])
  (by refine(xeb w s 32).mono ?_;rintro e w' ⟨rfl,rfl⟩;refine⟨?_,rfl⟩;rw[C];rfl)
  (by decide) (by decide) (by rw[if_pos (by decide)];omega)
 rw[Nat.add_sub_cancel,z]at c;generalize Lib.splitB ⟨#[32]⟩ 0 (Lib.countB s ⟨#[32]⟩) s=L at*;refine c.mono ?_;rintro e w' ⟨rfl,rfl⟩;have J:Lib.cellsOf L (Lib.countB s ⟨#[32]⟩+1)=(L.map Value.string).toArray:=by rw[<-z];exact Lib.cellsOf_full _
 have F:(L.map Value.string)=(jx s.data.toList).map fun l=>Value.string ⟨⟨l⟩⟩:=by rw[<-y,List.map_map];apply List.map_congr_left;intro x _;show Value.string x=Value.string ⟨⟨x.data.toList⟩⟩;rfl
 have H:(jx s.data.toList).length=Lib.countB s ⟨#[32]⟩+1:=by rw[<-y,av,z]
 rw[J,F,H];exact⟨rfl,rfl⟩
def p156:LAa->List aG->Nat->Option eI
 |[.str s,.str [32],.int .i64 0,.int .i64 (-1)],[],0=>if s.length<=1000000000 then some ⟨.lst 1 (wsv (jx s)) .no,[],[]⟩else none
 |_,_,_=>none
theorem repL4{x:Sit}{a b c d:SV}{vs:LAd}(h:cB x [a,b,c,d] vs):∃u v z q,vs=[u,v,z,q]/\Rep x a u/\Rep x b v/\Rep x c z/\Rep x d q:=by
 match vs,h with
 |[u,v,z,q],h=>exact⟨u,v,z,q,rfl,h.2 0 (by simp),h.2 1 (by simp),h.2 2 (by simp),h.2 3 (by simp)⟩
 |[],h=>simp[cB]at h
 |[_],h=>simp[cB]at h
 |[_,_],h=>simp[cB]at h
 |[_,_,_],h=>simp[cB]at h
 |_::_::_::_::_::_,h=>simp[cB]at h
theorem xet{x:Sit}{k:IntKind}{n:Int}{v:Value}(h:Rep x (.int k n) v):v= .int k n:=by
 cases h with
 |dat _ _ h _=>cases h;rfl
theorem p156_ok:∀F os k q,p156 F os k=some q->gu Tryz.prog 156 F os k (· =q):=by
 intro F os k q h;unfold p156 at h;split at h
 ·rename_i s
  split at h
  ·rename_i hl
   cases h;refine⟨by kernel_rfl,fun C x w vs hw hG hm a1 Z hH hr=> ?_⟩;obtain⟨u1,u2,u3,u4,rfl,r1,r2,Q,r4⟩:=repL4 hr;obtain rfl:=lA r1;obtain rfl:=lA r2;obtain rfl:=xet Q;obtain rfl:=xet r4;have I:(⟨⟨s⟩⟩:ByteArray).size<4294967281:=by show s.length<_;omega
   refine(xfy w ⟨⟨s⟩⟩ I).mono ?_;rintro e w' ⟨rfl,rfl⟩;have K:(⟨⟨s⟩⟩:ByteArray).data.toList=s:=rfl;rw[K];have J:dA C (x.newD w.heap.size ((jx s).map fun l=>Value.string ⟨⟨l⟩⟩).toArray (jx s).length) (idx []) (tks 50 0) (w.alloc (.cells ((jx s).map fun l=>Value.string ⟨⟨l⟩⟩).toArray 9)):=hH.allocD _;refine⟨_,_,_,rfl,rfl, ?_,J,fun p hp=>by simp at hp,fun i hi=>rfl⟩;refine .dat _ _ ?_ trivial;have H:(wsv (jx s)).length=(jx s).length:=av ..
   have z:∀i,i<(jx s).length->(wsv (jx s)).getD i []=[.str ((jx s).getD i [])]:=fun i h=>by unfold wsv;rw[aa,aR,ac h,aa,ac h];rfl
   refine .lst 1 (wsv (jx s)) .no w.heap.size 0 (jx s).length (jx s).length (fun i _=>Value.string ⟨⟨(jx s).getD i []⟩⟩) H.symm (aM _) (fun i hi=>by rw[z i hi];rfl) (fun i j hi hj=> ?_) (fun i j hi hj=> ?_)
   ·have y:j=0:=by omega
    subst y;simp only[Sit.newD];rw[if_pos (by constructor<;>first|trivial|omega),show 0+i*1+0=i from by omega];rw[lZ,aR,ac hi,aa,ac hi];rfl
   ·have y:j=0:=by omega
    subst y;rw[z i hi];exact .str _
  ·cases h
 ·cases h
end Pr
end Go.Proofs.YtmhhnklkcmpdkaaGreatDoor
