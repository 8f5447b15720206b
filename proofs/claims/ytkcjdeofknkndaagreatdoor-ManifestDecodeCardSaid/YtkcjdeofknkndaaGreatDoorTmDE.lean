/- Contracts. No condition. -/
import Derived.Test.YtkcjdeofknkndaaGreatDoorCoDE
import Derived.Deep.Slices
import Derived.KernelRfl
set_option maxRecDepth 100000
set_option maxHeartbeats 16000000
set_option linter.unusedSimpArgs false
set_option linter.unusedVariables false
namespace Go.Proofs.YtkcjdeofknkndaaGreatDoor
open Go.Sy
open UInt8 renaming reduceLT -> Q0, reduceLE -> Q1
open Int renaming reduceToNat -> Q2, reduceLE -> Q3, reduceLT -> Q4, reduceEq -> Q5, reduceNe -> Q6, reduceNeg -> Q7, reduceAdd -> Q8, reduceSub -> Q9, reduceMul -> Qa
open Nat renaming reducePow -> Qb, reduceDiv -> Qc, reduceMod -> Qd, reduceAdd -> Qe, reduceSub -> Qf, reduceMul -> Qg, reduceLT -> Qh, reduceLeDiff -> Qi, reduceEqDiff -> Qj, reduceBEq -> Qk
def Ih:List RI:=[oo 6 (.mov (.c (.byt [] .clip))) [6]]
def Ig:List RI:=[on 9 (.litB []),
omk 10 0,
.own (xs 11 (.app [(.u8 0)] 1 (.t 9) (.t 10))) [9,10],
omk 7 11]
def If:List RI:=[om 12 1,
oo 13 (.bin .lss (.t 12) (ci 1)) [12],
omk 14 13,
.grp 14 false [(xi 15 14 false (.mov (.t 1))),
(xi 16 14 false (.bin .gtr (.t 15) (ci 8)))] [15],
oo 17 (.pick (.t 14) (.c (.bool true)) (.t 16)) [14,16]]
def Ie:List RI:=[omk 18 7,
omk 6 18]
def Ic:List RI:=[omk 19 1,
oo 20 (.bin .sub (.t 19) (ci 1)) [19],
omk 8 20]
def Ib:List RI:=[om 21 8,
oo 22 (.bin .geq (.t 21) (ci 0)) [21]]
def H9:List RI:=[omk 25 7,
om 26 2,
oo 27 (.toInt .u64 (.t 26)) [26],
om 28 8,
oo 29 (.toInt .u64 (.t 28)) [28],
oo 30 (.bin .mul (.c (.int .u64 8)) (.t 29)) [29],
oo 31 (.bin .shr (.t 27) (.t 30)) [27,30],
oo 32 (.toInt .u8 (.t 31)) [31],
oo 33 (.litB [(.t 32)]) [32],
.own (xs 34 (.app [(.u8 0)] 1 (.t 25) (.t 33))) [25,33],
omk 7 34]
def H8:List RI:=[omk 23 8,
oo 24 (.bin .sub (.t 23) (ci 1)) [23],
omk 8 24]
def OX:RC:=(.post (.seq (.seq (.ops Ib) (.cond (.t 22) (.pre [.kill [22]] .skip) (.pre [.kill [2,8,22]] (.exit 0)))) (.seq (.block 1 (.ops H9)) (.ops H8))) [.obj 7 107,.tok 7 107])
def H7:RC:=OX
def H6:List RI:=[omk 35 7,
omk 6 35]
def xln:RC:=(.seq (.ops Ih) (.seq (.ops Ig) (.seq (.seq (.ops If) (.cond (.t 17) (.pre [.kill [1,2,17]] (.seq (.ops Ie) .ret)) (.pre [.kill [17]] .skip))) (.seq (.seq (.ops Ic) (.block 0 (.pre [.obj 7 107,.tok 7 107] (.loop H7)))) (.seq (.ops H6) .ret)))))
def xj9:RC:=xln
def xbd:FnC:=⟨xj9,36,[.tmp 6],[],[0]⟩
theorem Rg:((Tryz.f57).body).map (cu Tryz.prog)=some xj9.er:=by kernel_rfl
def Il:List RI:=[oo 4 (.mov (.c (.byt [] .clip))) [4]]
def Ik:List RI:=[om 5 1,
oo 6 (.len false (.t 5)) [5],
oo 7 (.bin .gtr (.t 6) (ci 65535)) [6]]
def Ij:List RI:=[omk 8 1,
oo 9 (.slcL 1 (.t 8) none (some (ci 65535)) none) [8],
omk 1 9]
def Ii:List RI:=[omk 10 0,
om 11 1,
oo 12 (.len false (.t 11)) [11],
oo 13 (.call (.f 57) [(.t 10),(ci 2),(.t 12)]) [10,12],
omk 14 1,
.own (xs 15 (.app [(.u8 0)] 1 (.t 13) (.t 14))) [13,14],
omk 4 15]
def xlo:RC:=(.seq (.ops Il) (.seq (.seq (.ops Ik) (.cond (.t 7) (.pre [.kill [7]] (.ops Ij)) (.pre [.kill [7]] .skip))) (.seq (.ops Ii) .ret)))
def xka:RC:=xlo
def xbe:FnC:=⟨xka,16,[.tmp 4],[],[0]⟩
theorem Rh:((Tryz.f56).body).map (cu Tryz.prog)=some xka.er:=by kernel_rfl
def JD:List RI:=[oo 1 (.box (.t 0)) [0],
oo 2 (.mov (.c (.byt [] .clip))) [2]]
def JC:List RI:=[on 8 (.load 7 true (.t 1)),
oo 9 (.call (.f 14) [(.t 8)]) [8],
oo 10 (.bin .neq (.t 9) (ci 0)) [9]]
def JB:List RI:=[on 2 (.mov (.c (.byt [] .clip)))]
def JA:List RI:=[on 11 (.litB [(.c (.u8 21))]),
on 12 (.faddr 0 (.t 1)),
oo 13 (.load 1 false (.t 12)) [12],
oo 14 (.s2b (.t 13)) [13],
oo 15 (.call (.f 56) [(.t 11),(.t 14)]) [11,14],
omk 3 15]
def Jz:List RI:=[omk 16 3,
on 17 (.faddr 1 (.t 1)),
oo 18 (.load 1 false (.t 17)) [17],
oo 19 (.call (.f 57) [(.t 16),(ci 4),(.t 18)]) [16,18],
omk 3 19]
def Jy:List RI:=[omk 20 3,
on 21 (.faddr 2 (.t 1)),
oo 22 (.load 1 false (.t 21)) [21],
oo 23 (.call (.f 57) [(.t 20),(ci 4),(.t 22)]) [20,22],
omk 3 23]
def Jx:List RI:=[omk 24 3,
on 25 (.faddr 3 (.t 1)),
oo 26 (.load 1 false (.t 25)) [25],
oo 27 (.call (.f 57) [(.t 24),(ci 6),(.t 26)]) [24,26],
omk 3 27]
def Jw:List RI:=[omk 28 3,
on 29 (.faddr 4 (.t 1)),
oo 30 (.load 1 false (.t 29)) [29],
oo 31 (.call (.f 57) [(.t 28),(ci 6),(.t 30)]) [28,30],
omk 3 31]
def Jv:List RI:=[omk 32 3,
on 33 (.faddr 5 (.t 1)),
oo 34 (.load 1 false (.t 33)) [33],
oo 35 (.len false (.t 34)) [34],
oo 36 (.toInt .u8 (.t 35)) [35],
oo 37 (.litB [(.t 36)]) [36],
.own (xs 38 (.app [(.u8 0)] 1 (.t 32) (.t 37))) [32,37],
omk 3 38]
def Ju:List RI:=[on 4 (.mov (ci 0))]
def Ab:List RI:=[om 39 4,
on 40 (.faddr 5 (.t 1)),
oo 41 (.load 1 false (.t 40)) [40],
oo 42 (.len false (.t 41)) [41],
oo 43 (.bin .lss (.t 39) (.t 42)) [39,42]]
def Aa:List RI:=[on 46 (.faddr 5 (.t 1)),
oo 47 (.load 1 false (.t 46)) [46],
om 48 4,
oo 49 (.iaddrL 4 (.t 47) (.t 48)) [47,48],
oo 50 (.load 4 true (.t 49)) [49],
on 5 (.new (.rc [(.int .i64 0),(.str []),(.int .i64 0),(.byt [] .clip)])),
.op ⟨none,none,.store 4 (.t 5) (.t 50)⟩ [50]]
def z9:List FI:=[⟨0,true,(xm 51 3)⟩,
⟨1,true,(xs 52 (.faddr 0 (.t 5)))⟩,
⟨2,true,(xs 53 (.load 1 false (.t 52)))⟩,
⟨3,true,(xs 54 (.toInt .u8 (.t 53)))⟩,
⟨4,true,(xs 55 (.litB [(.t 54)]))⟩,
⟨6,true,(xs 57 (.faddr 1 (.t 5)))⟩,
⟨7,true,(xs 58 (.load 1 false (.t 57)))⟩,
⟨8,true,(xs 59 (.s2b (.t 58)))⟩,
⟨5,false,(xs 56 (.appO [(.u8 0)] 1 (.t 51) (.t 55)))⟩,
⟨9,false,(xs 60 (.call (.f 56) [(.t 56),(.t 59)]))⟩,
⟨10,false,(xm 3 60)⟩]
def z7:List FI:=[⟨0,true,(xm 61 3)⟩,
⟨1,true,(xs 62 (.faddr 2 (.t 5)))⟩,
⟨2,true,(xs 63 (.load 1 false (.t 62)))⟩,
⟨4,true,(xs 65 (.faddr 3 (.t 5)))⟩,
⟨5,true,(xs 66 (.load 1 false (.t 65)))⟩,
⟨3,false,(xs 64 (.call (.f 57) [(.t 61),(ci 4),(.t 63)]))⟩,
⟨6,false,(xs 67 (.appO [(.u8 0)] 1 (.t 64) (.t 66)))⟩,
⟨7,false,(xm 3 67)⟩]
def zZ:List RI:=[omk 44 4,
oo 45 (.bin .add (.t 44) (ci 1)) [44],
omk 4 45]
def CF:RC:=(.post (.seq (.seq (.ops Ab) (.cond (.t 43) (.pre [.kill [43]] .skip) (.pre [.kill [4,43]] (.exit 0)))) (.seq (.block 1 (.seq (.ops Aa) (.seq (.flt [0,0,2,6,14,31,0,64,192,511,1023] [156] z9 [51,52,53,54,55,56,57,58,59,60]) (.flt [0,0,2,7,0,16,63,127] [167] z7 [5,61,62,63,64,65,66,67])))) (.ops zZ))) [.obj 3 103,.gc [105,156],.gcr 65000 66000,.tok 3 103])
def oA:RC:=CF
def zY:List RI:=[omk 68 3,
on 69 (.faddr 6 (.t 1)),
oo 70 (.load 1 false (.t 69)) [69],
oo 71 (.len false (.t 70)) [70],
oo 72 (.toInt .u8 (.t 71)) [71],
oo 73 (.litB [(.t 72)]) [72],
.own (xs 74 (.app [(.u8 0)] 1 (.t 68) (.t 73))) [68,73],
omk 3 74]
def zX:List RI:=[on 6 (.mov (ci 0))]
def zW:List RI:=[om 75 6,
on 76 (.faddr 6 (.t 1)),
oo 77 (.load 1 false (.t 76)) [76],
oo 78 (.len false (.t 77)) [77],
oo 79 (.bin .lss (.t 75) (.t 78)) [75,78]]
def zV:List RI:=[on 82 (.faddr 6 (.t 1)),
oo 83 (.load 1 false (.t 82)) [82],
om 84 6,
oo 85 (.iaddrL 4 (.t 83) (.t 84)) [83,84],
oo 86 (.load 4 true (.t 85)) [85],
on 7 (.new (.rc [(.int .i64 0),(.str []),(.int .i64 0),(.int .i64 0)])),
.op ⟨none,none,.store 4 (.t 7) (.t 86)⟩ [86]]
def zU:List FI:=[⟨0,true,(xm 87 3)⟩,
⟨1,true,(xs 88 (.faddr 0 (.t 7)))⟩,
⟨2,true,(xs 89 (.load 1 false (.t 88)))⟩,
⟨3,true,(xs 90 (.toInt .u8 (.t 89)))⟩,
⟨4,true,(xs 91 (.litB [(.t 90)]))⟩,
⟨6,true,(xs 93 (.faddr 1 (.t 7)))⟩,
⟨7,true,(xs 94 (.load 1 false (.t 93)))⟩,
⟨8,true,(xs 95 (.s2b (.t 94)))⟩,
⟨5,false,(xs 92 (.appO [(.u8 0)] 1 (.t 87) (.t 91)))⟩,
⟨9,false,(xs 96 (.call (.f 56) [(.t 92),(.t 95)]))⟩,
⟨10,false,(xm 3 96)⟩]
def zT:List FI:=[⟨0,true,(xm 97 3)⟩,
⟨1,true,(xs 98 (.faddr 2 (.t 7)))⟩,
⟨2,true,(xs 99 (.load 1 false (.t 98)))⟩,
⟨4,true,(xs 101 (.faddr 3 (.t 7)))⟩,
⟨5,true,(xs 102 (.load 1 false (.t 101)))⟩,
⟨3,false,(xs 100 (.call (.f 57) [(.t 97),(ci 4),(.t 99)]))⟩,
⟨6,false,(xs 103 (.call (.f 57) [(.t 100),(ci 4),(.t 102)]))⟩,
⟨7,false,(xm 3 103)⟩]
def zS:List RI:=[omk 80 6,
oo 81 (.bin .add (.t 80) (ci 1)) [80],
omk 6 81]
def CE:RC:=(.post (.seq (.seq (.ops zW) (.cond (.t 79) (.pre [.kill [79]] .skip) (.pre [.kill [1,6,79]] (.exit 2)))) (.seq (.block 3 (.seq (.ops zV) (.seq (.flt [0,0,2,6,14,31,0,64,192,511,1023] [192] zU [87,88,89,90,91,92,93,94,95,96]) (.flt [0,0,2,7,0,16,63,127] [] zT [7,97,98,99,100,101,102,103])))) (.ops zS))) [.obj 3 103,.gc [107,192],.gcr 101000 102000,.tok 3 103])
def oz:RC:=CE
def zQ:List RI:=[omk 104 3,
omk 2 104]
def xlp:RC:=(.seq (.ops JD) (.seq (.seq (.ops JC) (.cond (.t 10) (.pre [.kill [1,10]] (.seq (.ops JB) .ret)) (.pre [.kill [10]] .skip))) (.seq (.ops JA) (.seq (.ops Jz) (.seq (.ops Jy) (.seq (.ops Jx) (.seq (.ops Jw) (.seq (.ops Jv) (.seq (.seq (.ops Ju) (.block 0 (.pre [.obj 3 103,.tok 3 103] (.loop oA)))) (.seq (.ops zY) (.seq (.seq (.ops zX) (.block 2 (.pre [.obj 3 103,.tok 3 103] (.loop oz)))) (.seq (.ops zQ) .ret))))))))))))
def xkb:RC:=xlp
def xbf:FnC:=⟨xkb,105,[.tmp 2],[],[0]⟩
theorem Ri:((Tryz.f20).body).map (cu Tryz.prog)=some xkb.er:=by kernel_rfl
def VA:List RI:=[oo 12 (.mov (.c (.bool false))) [12]]
def Vz:List RI:=[on 21 (.call (.f 10) []),
oo 22 (.un .not (.t 21)) [21]]
def Vy:List RI:=[on 12 (.mov (.c (.bool false)))]
def Vx:List RI:=[omk 23 1,
omk 24 2,
oo 25 (.call (.f 12) [(.t 23),(.t 24)]) [23,24],
oo 26 (.call (.f 20) [(.t 25)]) [25],
omk 13 26]
def Vw:List RI:=[on 14 (.mov (ci 0))]
def Vv:List RI:=[om 27 14,
om 28 3,
oo 29 (.len false (.t 28)) [28],
oo 30 (.bin .lss (.t 27) (.t 29)) [27,29],
omk 31 30,
.grp 31 true [(xi 32 31 true (.mov (.t 14))),
(xi 33 31 true (.mov (.t 4))),
(xi 34 31 true (.len false (.t 33))),
(xi 35 31 true (.bin .lss (.t 32) (.t 34)))] [32,33,34],
oo 36 (.pick (.t 31) (.t 35) (.c (.bool false))) [31,35],
omk 37 36,
.grp 37 true [(xi 38 37 true (.mov (.t 14))),
(xi 39 37 true (.bin .lss (.t 38) (ci 2)))] [38],
oo 40 (.pick (.t 37) (.t 39) (.c (.bool false))) [37,39]]
def Vu:List FI:=[⟨0,true,(xm 43 13)⟩,
⟨1,true,(xm 44 3)⟩,
⟨2,true,(xm 45 14)⟩,
⟨3,true,(xs 46 (.iaddrL 1 (.t 44) (.t 45)))⟩,
⟨4,true,(xs 47 (.load 1 false (.t 46)))⟩,
⟨5,true,(xm 48 13)⟩,
⟨6,true,(xs 49 (.len false (.t 48)))⟩,
⟨8,true,(xm 51 4)⟩,
⟨9,true,(xm 52 14)⟩,
⟨10,true,(xs 53 (.iaddrL 1 (.t 51) (.t 52)))⟩,
⟨11,true,(xs 54 (.load 1 false (.t 53)))⟩,
⟨7,false,(xs 50 (.call (.f 15) [(.t 47),(.t 49)]))⟩,
⟨12,true,(xs 55 (.iaddrL 1 (.t 43) (.t 50)))⟩,
⟨13,false,⟨none,none,.store 1 (.t 55) (.t 54)⟩⟩]
def Vt:List RI:=[omk 41 14,
oo 42 (.bin .add (.t 41) (ci 1)) [41],
omk 14 42]
def xay:RC:=(.seq (.seq (.ops Vv) (.cond (.t 40) (.pre [.kill [40]] .skip) (.pre [.kill [3,4,14,40]] (.exit 0)))) (.seq (.block 1 (.flt [0,0,0,6,14,0,32,126,0,0,768,1792,4095,8191] [] Vu [43,44,45,46,47,48,49,50,51,52,53,54,55])) (.ops Vt)))
def Vs:RC:=xay
def Vr:List RI:=[om 56 5,
oo 57 (.bin .and (.t 56) (ci 1)) [56],
oo 58 (.bin .eql (.t 57) (ci 1)) [57]]
def H5:List RI:=[om 59 13,
omk 60 5,
oo 61 (.bin .shr (.t 60) (.c (.int .u64 1))) [60],
omk 62 13,
oo 63 (.len false (.t 62)) [62],
oo 64 (.bin .add (.t 63) (ci 1)) [63],
oo 65 (.call (.f 15) [(.t 61),(.t 64)]) [61,64],
oo 66 (.slcL 1 (.t 59) none (some (.t 65)) none) [59,65],
omk 13 66]
def H4:List RI:=[omk 67 0,
oo 68 (.call (.f 23) [(.t 67),(ci 600)]) [67],
omk 69 13,
.dir (.pub 69),
oo 70 (.lit 1 [(.t 68),(.t 69)]) [68,69],
on 71 (.len false (.t 70)),
on 72 (.mov (ci 0))]
def H3:List RI:=[on 73 (.bin .lss (.t 72) (.t 71))]
def H2:List RI:=[on 74 (.iaddrL 1 (.t 70) (.t 72)),
oo 75 (.load 1 false (.t 74)) [74],
omk 16 75]
def HZ:List RI:=[om 77 16,
oo 78 (.call (.f 17) [(.t 77)]) [77],
omk 76 78,
on 79 (.ext (.t 76) 0),
oo 80 (.ext (.t 76) 1) [76],
on 17 (.new (.rc [(.str []),(.int .i64 0),(.int .i64 0),(.int .i64 0),(.int .i64 0),(.lst 4 [] .clip),(.lst 4 [] .clip)])),
.op ⟨none,none,.store 7 (.t 17) (.t 79)⟩ [79],
omk 18 80]
def HY:List RI:=[om 82 16,
oo 83 (.call (.f 24) [(.t 82)]) [82],
omk 81 83,
on 84 (.ext (.t 81) 0),
oo 85 (.ext (.t 81) 1) [81],
on 19 (.new (.rc [(.str []),(.int .i64 0),(.int .i64 0),(.int .i64 0),(.int .i64 0),(.lst 4 [] .clip),(.lst 4 [] .clip)])),
.op ⟨none,none,.store 7 (.t 19) (.t 84)⟩ [84],
omk 20 85]
def HX:List RI:=[om 86 18,
omk 87 20,
oo 88 (.bin .neq (.t 86) (.t 87)) [86,87],
omk 89 88,
.grp 89 false [(xi 90 89 false (.load 7 true (.t 17))),
(xi 91 89 false (.load 7 true (.t 19))),
(xi 92 89 false (.call (.f 18) [(.t 90),(.t 91)])),
(xi 93 89 false (.un .not (.t 92)))] [19,90,91,92],
oo 94 (.pick (.t 89) (.c (.bool true)) (.t 93)) [89,93],
omk 95 94,
.grp 95 false [(xi 96 95 false (.mov (.t 18))),
(xi 97 95 false (.bin .eql (.t 96) (ci 0))),
(xi 98 95 false (.mov (.t 97)))] [18,96,97],
.grp 98 true [(xi 99 98 true (.load 7 true (.t 17))),
(xi 100 98 true (.call (.f 16) [(.t 99)])),
(xi 101 98 true (.mov (.t 16))),
(xi 102 98 true (.call (.f 19) [(.t 100),(.t 101)])),
(xi 103 98 true (.un .not (.t 102)))] [16,17,99,100,101,102],
.grp 95 false [(xi 104 95 false (.pick (.t 98) (.t 103) (.c (.bool false))))] [98,103],
oo 105 (.pick (.t 95) (.c (.bool true)) (.t 104)) [95,104]]
def HW:List RI:=[on 12 (.mov (.c (.bool false)))]
def HV:List RI:=[oo 106 (.bin .add (.t 72) (ci 1)) [72],
omk 72 106]
def OW:RC:=(.post (.seq (.ops H3) (.seq (.cond (.t 73) (.pre [.kill [73]] .skip) (.pre [.kill [70,71,72,73]] (.exit 2))) (.seq (.block 3 (.seq (.ops H2) (.seq (.ops HZ) (.seq (.ops HY) (.seq (.ops HX) (.cond (.t 105) (.pre [.kill [70,71,72,105]] (.seq (.ops HW) .ret)) (.pre [.kill [105]] .skip))))))) (.ops HV)))) [.gc [117,119]])
def xS:RC:=OW
def HU:List RI:=[on 12 (.mov (.c (.bool true)))]
def b5v:RC:=(.seq (.ops VA) (.seq (.seq (.ops Vz) (.cond (.t 22) (.pre [.kill [0,1,2,3,4,5,22]] (.seq (.ops Vy) .ret)) (.pre [.kill [22]] .skip))) (.seq (.ops Vx) (.seq (.seq (.ops Vw) (.block 0 (.loop Vs))) (.seq (.seq (.ops Vr) (.cond (.t 58) (.pre [.kill [58]] (.ops H5)) (.pre [.kill [5,58]] .skip))) (.seq (.seq (.ops H4) (.block 2 (.loop xS))) (.seq (.ops HU) .ret)))))))
def r5v:RC:=b5v
def F5v:FnC:=⟨r5v,107,[.tmp 12],[],[]⟩
theorem xcS:((Tryz.f5).body).map (cu Tryz.prog)=some r5v.er:=by kernel_rfl
def fv:Nat->Option FnB
 |57=>some (.code xbd)
 |56=>some (.code xbe)
 |20=>some (.code xbf)
 |5=>some (.code F5v)
 |_=>none
noncomputable def Tv:ix:=T.over fv
theorem xiS:Tv.fn 57=some (.code xbd):=km rfl
theorem xiT:Tv.fn 56=some (.code xbe):=km rfl
theorem xiU:Tv.fn 20=some (.code xbf):=km rfl
theorem xlr:Tv.fn 5=some (.code F5v):=km rfl
theorem xdJ:bN Tryz.prog 57 xbd:=mz Tryz.func57 Rg Tryz.ntmps57 (by kernel_rfl) (by kernel_rfl) (by kernel_rfl)
theorem xdK:bN Tryz.prog 56 xbe:=mz Tryz.func56 Rh Tryz.ntmps56 (by kernel_rfl) (by kernel_rfl) (by kernel_rfl)
theorem xdL:bN Tryz.prog 20 xbf:=mz Tryz.func20 Ri Tryz.ntmps20 (by kernel_rfl) (by kernel_rfl) (by kernel_rfl)
theorem xhh:bN Tryz.prog 5 F5v:=mz Tryz.func5 xcS Tryz.ntmps5 (by kernel_rfl) (by kernel_rfl) (by kernel_rfl)
theorem xiR:pm Tryz.prog Tv:=RG xcB (by
 intro k b h;unfold fv at h;split at h
 ·cases h;exact xdJ
 ·cases h;exact xdK
 ·cases h;exact xdL
 ·cases h;exact xhh
 ·cases h)
theorem upv{g:Nat}{a:LAa}{os:List aC}{k:Nat}{q:dZ}(h:call T g a os k=some q)(y:fv g=none:=by rfl):call Tv g a os k=some q:=upO y h
theorem q57v_8 c:run Tv H7 c=run Tv OX c:=rfl
theorem q57v c:run Tv xj9 c=run Tv xln c:=rfl
theorem q56v c:run Tv xka c=run Tv xlo c:=rfl
theorem q20v_15 c:run Tv oA c=run Tv CF c:=rfl
theorem q20v_23 c:run Tv oz c=run Tv CE c:=rfl
theorem q20v c:run Tv xkb c=run Tv xlp c:=rfl
theorem q5v_8 c:run Tv Vs c=run Tv xay c:=rfl
theorem q5v_19 c:run Tv xS c=run Tv OW c:=rfl
theorem q5v c:run Tv r5v c=run Tv b5v c:=rfl
attribute [go_sem] Ih Ig If Ie Ic Ib H9 H8 H6 OX xln xbd Il Ik Ij Ii xlo xbe JD JC JB JA Jz Jy Jx Jw Jv Ju Ab Aa z9 z7 zZ zY zX zW zV zU zT zS zQ CF CE xlp xbf VA Vz Vy Vx Vw Vv Vu Vt Vr H5 H4 H3 H2 HZ HY HX HW HV HU xay OW b5v F5v q57v_8 q57v q56v q20v_15 q20v_23 q20v q5v_8 q5v_19 q5v
end Go.Proofs.YtkcjdeofknkndaaGreatDoor
