/- The resolved code of the functions of this seat, with directions, checked by the kernel. No condition. -/
import Derived.Test.YtdafipacemgcoaaGreatDoorProg
import Derived.Test.YtdafipacemgcoaaGreatDoorVaR
import Derived.KernelRfl
open Bool renaming and_eq_true → an, false_and → E8, false_eq_true → aD, false_or → dh, not_true → lQ, true_or → fZ
open List renaming all_cons → iZ, append_assoc → aU, append_nil → bj, cons_append → bG, drop_zero → aY, getD_cons_succ → bw, getD_cons_zero → bm, length_append → ah, length_cons → ax, length_map → aQ, length_nil → bc, length_replicate → cd, map_append → bz, map_cons → aL, map_nil → bT, mem_cons → ao, nil_append → bp, not_mem_nil → dX, replicate → am
open Nat renaming add_zero → eP, le_refl → aZ, zero_add → cO, zero_le → cL
open Option renaming bind_some → cQ, getD_some → bg, map_some → bf, some → av
set_option maxRecDepth 100000
set_option linter.unusedVariables false
namespace Go.Proofs.YtdafipacemgcoaaGreatDoor
open Tryz
open Go.Sy
abbrev xm (d s:Nat):SI:=⟨some d,none,.mov (.t s)⟩
abbrev xs (d:Nat) (o:SOp):SI:=⟨some d,none,o⟩
abbrev xi (d g:Nat) (b:Bool) (o:SOp):SI:=⟨some d,some (g,b),o⟩
abbrev om (d s:Nat):RI:= .op (xm d s) []
abbrev omk (d s:Nat):RI:= .op (xm d s) [s]
abbrev on (d:Nat) (o:SOp):RI:= .op (xs d o) []
abbrev oo (d:Nat) (o:SOp) (k:List Nat):RI:= .op (xs d o) k
abbrev ci (n:Int):Arg:= .c (.int .i64 n)
abbrev Fm (n d s:Nat):FI:=⟨n,true,xm d s⟩
abbrev Fs (n d:Nat) (o:SOp):FI:=⟨n,true,xs d o⟩
abbrev Fz (n d:Nat) (o:SOp):FI:=⟨n,false,xs d o⟩
abbrev Fi (n d g:Nat) (b:Bool) (o:SOp):FI:=⟨n,true,xi d g b o⟩
abbrev Ld (s:Nat):SOp:= .load 1 false (.t s)
abbrev Fa (n s:Nat):SOp:= .faddr n (.t s)
abbrev Ln (s:Nat):SOp:= .len false (.t s)
abbrev Ia (n a b:Nat):SOp:= .iaddrL n (.t a) (.t b)
abbrev Mv (s:Nat):SOp:= .mov (.t s)
abbrev Bb (o:BinOp) (a b:Nat):SOp:= .bin o (.t a) (.t b)
abbrev Bc (o:BinOp) (a:Nat) (n:Int):SOp:= .bin o (.t a) (ci n)
abbrev Ca (f:Nat) (l:List Arg):SOp:= .call (.f f) l
abbrev Pf (a b:Nat):SOp:= .pick (.t a) (.t b) (.c (.bool false))
abbrev Pt (a b:Nat):SOp:= .pick (.t a) (.c (.bool true)) (.t b)
abbrev So (l:List RI) (x:RC):RC:= .seq (.ops l) x
abbrev Kk (l:List Nat) (x:RC):RC:= .pre [.kill l] x
abbrev Kc (n:Nat) (x y:RC):RC:= .cond (.t n) x y
abbrev Zq0:List SV:=[.int .i64 0,.int .i64 0,.lst 1 [] .clip,.byt [] .clip]
abbrev Zq1:List SV:=[.int .i64 0,.str [],.int .i64 0,.byt [] .clip]
abbrev Zq2:List SV:=[.int .i64 0,.int .i64 0,.lst 4 [] .clip]
abbrev Zq3:List SV:=[.str [],.int .i64 0,.int .i64 0,.int .i64 0,.int .i64 0,.lst 4 [] .clip,.lst 4 [] .clip]
abbrev Zq4:List SV:=[.int .i64 0,.str [],.int .i64 0,.int .i64 0]
def cs0:List UInt8:=[0,1,2,2,3,3,3,3,4,4,4,4,4,4,4,4,5,5,5,5,5,5,5,5,5,5,5,5,5,5,5,5,6,6,6,6,6,6,6,6,6,6,6,6,6,6,6,6,6,6,6,6,6,6,6,6,6,6,6,6,6,6,6,6,7,7,7,7,7,7,7,7,7,7,7,7,7,7,7,7,7,7,7,7,7,7,7,7,7,7,7,7,7,7,7,7,7,7,7,7,7,7,7,7,7,7,7,7,7,7,7,7,7,7,7,7,7,7,7,7,7,7,7,7,7,7,7,7,8,8,8,8,8,8,8,8,8,8,8,8,8,8,8,8,8,8,8,8,8,8,8,8,8,8,8,8,8,8,8,8,8,8,8,8,8,8,8,8,8,8,8,8,8,8,8,8,8,8,8,8,8,8,8,8,8,8,8,8,8,8,8,8,8,8,8,8,8,8,8,8,8,8,8,8,8,8,8,8,8,8,8,8,8,8,8,8,8,8,8,8,8,8,8,8,8,8,8,8,8,8,8,8,8,8,8,8,8,8,8,8,8,8,8,8,8,8,8,8,8,8,8,8,8,8,8,8]
def cs1:List UInt8:=[48,49,50,51,52,53,54,55,56,57,97,98,99,100,101,102,103,104,105,106,107,108,109,110,111,112,113,114,115,116,117,118,119,120,121,122]
def cs2:List UInt8:=[48,48,48,49,48,50,48,51,48,52,48,53,48,54,48,55,48,56,48,57,49,48,49,49,49,50,49,51,49,52,49,53,49,54,49,55,49,56,49,57,50,48,50,49,50,50,50,51,50,52,50,53,50,54,50,55,50,56,50,57,51,48,51,49,51,50,51,51,51,52,51,53,51,54,51,55,51,56,51,57,52,48,52,49,52,50,52,51,52,52,52,53,52,54,52,55,52,56,52,57,53,48,53,49,53,50,53,51,53,52,53,53,53,54,53,55,53,56,53,57,54,48,54,49,54,50,54,51,54,52,54,53,54,54,54,55,54,56,54,57,55,48,55,49,55,50,55,51,55,52,55,53,55,54,55,55,55,56,55,57,56,48,56,49,56,50,56,51,56,52,56,53,56,54,56,55,56,56,56,57,57,48,57,49,57,50,57,51,57,52,57,53,57,54,57,55,57,56,57,57]
def pY:List SV:=[.int .i64 (-1),.int .i64 0,.int .i64 4,.int .i64 8,.int .i64 9]
def jb:List SV:=[.int .u32 1116352408,.int .u32 1899447441,.int .u32 3049323471,.int .u32 3921009573,.int .u32 961987163,.int .u32 1508970993,.int .u32 2453635748,.int .u32 2870763221,.int .u32 3624381080,.int .u32 310598401,.int .u32 607225278,.int .u32 1426881987,.int .u32 1925078388,.int .u32 2162078206,.int .u32 2614888103,.int .u32 3248222580,.int .u32 3835390401,.int .u32 4022224774,.int .u32 264347078,.int .u32 604807628,.int .u32 770255983,.int .u32 1249150122,.int .u32 1555081692,.int .u32 1996064986,.int .u32 2554220882,.int .u32 2821834349,.int .u32 2952996808,.int .u32 3210313671,.int .u32 3336571891,.int .u32 3584528711,.int .u32 113926993,.int .u32 338241895,.int .u32 666307205,.int .u32 773529912,.int .u32 1294757372,.int .u32 1396182291,.int .u32 1695183700,.int .u32 1986661051,.int .u32 2177026350,.int .u32 2456956037,.int .u32 2730485921,.int .u32 2820302411,.int .u32 3259730800,.int .u32 3345764771,.int .u32 3516065817,.int .u32 3600352804,.int .u32 4094571909,.int .u32 275423344,.int .u32 430227734,.int .u32 506948616,.int .u32 659060556,.int .u32 883997877,.int .u32 958139571,.int .u32 1322822218,.int .u32 1537002063,.int .u32 1747873779,.int .u32 1955562222,.int .u32 2024104815,.int .u32 2227730452,.int .u32 2361852424,.int .u32 2428436474,.int .u32 2756734187,.int .u32 3204031479,.int .u32 3329325298]
def ja:List SV:=[.int .u64 1,.int .u64 10,.int .u64 100,.int .u64 1000,.int .u64 10000,.int .u64 100000,.int .u64 1000000,.int .u64 10000000,.int .u64 100000000,.int .u64 1000000000,.int .u64 10000000000,.int .u64 100000000000,.int .u64 1000000000000,.int .u64 10000000000000,.int .u64 100000000000000,.int .u64 1000000000000000,.int .u64 10000000000000000,.int .u64 100000000000000000,.int .u64 1000000000000000000,.int .u64 10000000000000000000]
instance:ba:=⟨fun
 |0=>some pY
 |2=>some jb
 |3=>some ja
 |_=>none⟩
def xn9:List RI:=[oo 8 (.mov (.c (.bool false))) [8]]
def xn8:List RI:=[on 17 (Ca 10 []),oo 18 (.un .not (.t 17)) [17]]
def xn7:List RI:=[on 8 (.mov (.c (.bool false)))]
def xn6:List RI:=[omk 20 0,omk 21 1,omk 22 2,omk 23 3,oo 24 (Ca 11 [.t 20,.t 21,.t 22,.t 23]) [20,21,22,23],omk 19 24,on 25 (.ext (.t 19) 0),oo 26 (.ext (.t 19) 1) [19],on 9 (.new (.rc Zq2)),.op ⟨none,none,.store 3 (.t 9) (.t 25)⟩ [25],omk 10 26]
def xn5:List RI:=[on 28 (.load 3 true (.t 9)),om 29 10,oo 30 (Ca 12 [.t 28,.t 29]) [28,29],omk 27 30,on 31 (.ext (.t 27) 0),on 32 (.ext (.t 27) 1),oo 33 (.ext (.t 27) 2) [27],omk 11 31,omk 12 32,omk 13 33]
def xn4:List RI:=[oo 35 (.load 3 true (.t 9)) [9],omk 36 10,oo 37 (Ca 13 [.t 35,.t 36]) [35,36],omk 34 37,on 38 (.ext (.t 34) 0),on 39 (.ext (.t 34) 1),oo 40 (.ext (.t 34) 2) [34],omk 14 38,omk 15 39,omk 16 40]
def xn3:List RI:=[omk 41 11,omk 42 14,oo 43 (Ca 14 [.t 41,.t 42]) [41,42],omk 44 43,.grp 44 true [(xi 45 44 true (Mv 12)),(xi 46 44 true (Mv 15)),(xi 47 44 true (Bb .eql 45 46))] [12,15,45,46],oo 48 (Pf 44 47) [44,47],omk 49 48,.grp 49 true [(xi 50 49 true (Mv 13)),(xi 51 49 true (Mv 16)),(xi 52 49 true (Bb .eql 50 51))] [13,16,50,51],oo 53 (Pf 49 52) [49,52],omk 8 53]
def r3:RC:=(So xn9 (.seq (So xn8 (Kc 18 (Kk [0,1,2,3,18] (So xn7 .ret)) (Kk [18] .skip))) (So xn6 (So xn5 (So xn4 (So xn3 .ret))))))
def F3:FnC:=⟨r3,54,[.tmp 8],[],[]⟩
def xn2:List RI:=[oo 8 (.mov (.c (.bool false))) [8]]
def xn1:List RI:=[on 17 (Ca 10 []),oo 18 (.un .not (.t 17)) [17]]
def xn0:List RI:=[on 8 (.mov (.c (.bool false)))]
def xnZ:List RI:=[omk 20 0,omk 21 1,omk 22 2,omk 23 3,oo 24 (Ca 11 [.t 20,.t 21,.t 22,.t 23]) [20,21,22,23],omk 19 24,on 25 (.ext (.t 19) 0),oo 26 (.ext (.t 19) 1) [19],on 9 (.new (.rc Zq2)),.op ⟨none,none,.store 3 (.t 9) (.t 25)⟩ [25],omk 10 26]
def xnY:List RI:=[on 28 (.load 3 true (.t 9)),om 29 10,oo 30 (Ca 12 [.t 28,.t 29]) [28,29],omk 27 30,on 31 (.ext (.t 27) 0),on 32 (.ext (.t 27) 1),oo 33 (.ext (.t 27) 2) [27],omk 11 31,omk 12 32,omk 13 33]
def xnX:List RI:=[om 34 12,oo 35 (Bc .lss 34 0) [34],omk 36 35,.grp 36 false [(xi 37 36 false (Mv 12)),(xi 38 36 false (Fa 2 9)),(xi 39 36 false (Ld 38)),(xi 40 36 false (Ln 39)),(xi 41 36 false (Bb .gtr 37 40))] [37,38,39,40],oo 42 (Pt 36 41) [36,41],omk 43 42,.grp 43 false [(xi 44 43 false (Mv 11)),(xi 45 43 false (Ln 44)),(xi 46 43 false (Mv 12)),(xi 47 43 false (Bb .neq 45 46))] [44,45,46],oo 48 (Pt 43 47) [43,47],omk 49 48,.grp 49 false [(xi 50 49 false (Mv 13)),(xi 51 49 false (Bc .eql 50 0)),(xi 52 49 false (Mv 51))] [13,50,51],.grp 52 true [(xi 53 52 true (Mv 12)),(xi 54 52 true (Fa 2 9)),(xi 55 52 true (Ld 54)),(xi 56 52 true (Ln 55)),(xi 57 52 true (Bb .neq 53 56))] [53,54,55,56],.grp 49 false [(xi 58 49 false (Pf 52 57))] [52,57],oo 59 (Pt 49 58) [49,58]]
def xnW:List RI:=[on 8 (.mov (.c (.bool false)))]
def xnV:List RI:=[on 14 (.mov (ci 0))]
def xnU:List RI:=[om 60 14,om 61 12,oo 62 (Bb .lss 60 61) [60,61]]
def xnT:List RI:=[on 65 (Fa 2 9),oo 66 (Ld 65) [65],om 67 14,oo 68 (Ia 4 66 67) [66,67],oo 69 (.load 4 true (.t 68)) [68],on 15 (.new (.rc Zq0)),.op ⟨none,none,.store 4 (.t 15) (.t 69)⟩ [69]]
def xan:List RI:=[on 70 (Fa 1 15),oo 71 (Ld 70) [70],oo 72 (Bc .eql 71 5) [71],omk 73 72,.grp 73 false [(xi 74 73 false (Fa 1 15)),(xi 75 73 false (Ld 74)),(xi 76 73 false (Bc .eql 75 2))] [74,75],oo 77 (Pt 73 76) [73,76]]
def xam:List RI:=[om 78 11,om 79 14,oo 80 (Ia 2 78 79) [78,79],oo 81 (Fa 0 80) [80],oo 82 (Ld 81) [81],oo 83 (Bc .neq 82 (-1)) [82],omk 84 83,.grp 84 false [(xi 85 84 false (Mv 11)),(xi 86 84 false (Mv 14)),(xi 87 84 false (Ia 2 85 86)),(xi 88 84 false (Fa 1 87)),(xi 89 84 false (Ld 88)),(xi 90 84 false (Bc .neq 89 (-1)))] [85,86,87,88,89],oo 91 (Pt 84 90) [84,90]]
def xal:List RI:=[on 8 (.mov (.c (.bool false)))]
def xak:List FI:=[Fm 0 92 11,Fm 1 93 14,Fs 2 94 (Ia 2 92 93),Fs 3 95 (Fa 0 94),Fs 4 96 (Ld 95),Fs 5 97 (Bc .lss 96 0),Fm 6 98 97,Fi 7 99 98 false (Mv 11),Fi 8 100 98 false (Mv 14),Fi 9 101 98 false (Ia 2 99 100),Fi 10 102 98 false (Fa 0 101),Fi 11 103 98 false (Ld 102),Fi 12 104 98 false (Mv 10),Fi 13 105 98 false (Ln 104),Fi 14 106 98 false (Bb .geq 103 105),Fs 15 107 (Pt 98 106),Fm 16 108 107,Fi 17 109 108 false (Mv 11),Fi 18 110 108 false (Mv 14),Fi 19 111 108 false (Ia 2 109 110),Fi 20 112 108 false (Fa 1 111),Fi 21 113 108 false (Ld 112),Fi 22 114 108 false (Bc .lss 113 0),Fs 23 115 (Pt 108 114),Fm 24 116 115,Fi 25 117 116 false (Mv 10),Fi 26 118 116 false (Mv 11),Fi 27 119 116 false (Mv 14),Fi 28 120 116 false (Ia 2 118 119),Fi 29 121 116 false (Fa 0 120),Fi 30 122 116 false (Ld 121),Fi 31 123 116 false (Ia 7 117 122),Fi 32 124 116 false (.load 7 true (.t 123)),Fi 33 125 116 false (.load 4 true (.t 15)),Fi 35 127 116 false (Mv 11),Fi 36 128 116 false (Mv 14),Fi 37 129 116 false (Ia 2 127 128),Fi 38 130 116 false (Fa 1 129),Fi 39 131 116 false (Ld 130),⟨34,false,(xi 126 116 false (Ca 15 [.t 124,.t 125]))⟩,Fi 40 132 116 false (Bb .neq 126 131),Fs 41 133 (Pt 116 132)]
def xaj:List RI:=[on 8 (.mov (.c (.bool false)))]
def xai:List RI:=[on 16 (.mov (ci 0))]
def xah:List RI:=[om 134 16,om 135 11,om 136 14,oo 137 (Ia 2 135 136) [135,136],oo 138 (Fa 0 137) [137],oo 139 (Ld 138) [138],oo 140 (Bb .lss 134 139) [134,139]]
def xag:List FI:=[Fm 0 143 10,Fm 1 144 16,Fs 2 145 (Ia 7 143 144),Fs 3 146 (.load 7 true (.t 145)),Fs 4 147 (.load 4 true (.t 15)),Fz 5 148 (Ca 15 [.t 146,.t 147]),Fs 6 149 (Bc .geq 148 0)]
def xaf:List RI:=[on 8 (.mov (.c (.bool false)))]
def xae:List RI:=[omk 141 16,oo 142 (Bc .add 141 1) [141],omk 16 142]
def RG:RC:=(.seq (So xah (Kc 140 (Kk [140] .skip) (Kk [15,16,140] (.exit 2)))) (.seq (.block 3 (.seq (.flt [0,0,3,7,0,31,63] [] xag [143,144,145,146,147,148]) (Kc 149 (Kk [9,10,11,12,14,15,16,149] (So xaf .ret)) (Kk [149] .skip)))) (.ops xae)))
def Rj:RC:=RG
def xad:List RI:=[omk 63 14,oo 64 (Bc .add 63 1) [63],omk 14 64]
def RF:RC:=(.post (.seq (So xnU (Kc 62 (Kk [62] .skip) (Kk [9,10,11,12,14,62] (.exit 0)))) (.seq (.block 1 (So xnT (.seq (So xan (Kc 77 (Kk [15,77] (.seq (So xam (Kc 91 (Kk [9,10,11,12,14,91] (So xal .ret)) (Kk [91] .skip))) (.exit 1))) (Kk [77] .skip))) (.seq (.seq (.flt [0,0,3,7,15,31,63,127,127,511,1023,2047,127,4223,16383,32767,65535,131071,131071,524287,1048575,2097151,4194303,8388607,16777215,33554431,33554431,33554431,234881023,503316479,1040187391,2147483647,4294967295,33554431,17179869183,33554431,33554431,103112769535,240551723007,515429629951,1099511627775,2199023255551] [] xak [92,93,94,95,96,97,98,99,100,101,102,103,104,105,106,107,108,109,110,111,112,113,114,115,116,117,118,119,120,121,122,123,124,125,126,127,128,129,130,131,132]) (Kc 133 (Kk [9,10,11,12,14,15,133] (So xaj .ret)) (Kk [133] .skip))) (So xai (.block 2 (.loop Rj))))))) (.ops xad))) [.gc [115]])
def Ri:RC:=RF
def xac:List RI:=[on 8 (.mov (.c (.bool true)))]
def r4:RC:=(So xn2 (.seq (So xn1 (Kc 18 (Kk [0,1,2,3,18] (So xn0 .ret)) (Kk [18] .skip))) (So xnZ (So xnY (.seq (So xnX (Kc 59 (Kk [9,10,11,12,59] (So xnW .ret)) (Kk [59] .skip))) (.seq (So xnV (.block 0 (.loop Ri))) (So xac .ret)))))))
def F4:FnC:=⟨r4,150,[.tmp 8],[],[]⟩
def xew:List RI:=[oo 0 (.mov (.c (.bool false))) [0]]
def xev:List RI:=[on 10 (.build Zq1 [(0,1,(ci 1)),(1,1,(.c (.str [102])))]),on 11 (.build Zq1 [(0,1,(ci 3)),(1,1,(.c (.str [107])))]),oo 12 (.lit 4 [.t 10,.t 11]) [10,11],omk 1 12]
def xeu:List RI:=[om 13 1,oo 14 (Ca 31 [.t 13,ci 2]) [13],oo 15 (.build Zq2 [(0,1,(ci 2)),(2,1,(.t 14))]) [14],on 2 (.new (.rc Zq2)),.op ⟨none,none,.store 3 (.t 2) (.t 15)⟩ [15]]
def xet:List RI:=[omk 16 1,oo 17 (Ca 34 [(.c (.str [118])),ci 1,.t 16]) [16],on 3 (.new (.rc Zq3)),.op ⟨none,none,.store 7 (.t 3) (.t 17)⟩ [17]]
def xes:List RI:=[on 19 (.load 3 true (.t 2)),on 20 (.load 7 true (.t 3)),oo 21 (.lit 7 [.t 20]) [20],oo 22 (Ca 12 [.t 19,.t 21]) [19,21],omk 18 22,on 23 (.ext (.t 18) 0),on 24 (.ext (.t 18) 1),oo 25 (.ext (.t 18) 2) [18],omk 4 23,omk 5 24,omk 6 25]
def xer:List RI:=[on 27 (.load 3 true (.t 2)),oo 28 (Ca 12 [.t 27,(.c (.lst 7 [] .clip))]) [27],omk 26 28,on 29 (.ext (.t 26) 0),on 30 (.ext (.t 26) 1),oo 31 (.ext (.t 26) 2) [26],.op (xm 7 29) [7,29],omk 8 30,omk 9 31]
def xeq:List RI:=[omk 32 6,oo 33 (Bc .eql 32 0) [32],omk 34 33,.grp 34 true [(xi 35 34 true (Mv 5)),(xi 36 34 true (Bc .eql 35 10))] [5,35],oo 37 (Pf 34 36) [34,36],omk 38 37,.grp 38 true [(xi 39 38 true (Mv 4)),(xi 40 38 true (Ln 39)),(xi 41 38 true (Bc .eql 40 10))] [39,40],oo 42 (Pf 38 41) [38,41],omk 43 42,.grp 43 true [(xi 44 43 true (Mv 4)),(xi 45 43 true (.iaddrL 2 (.t 44) (ci 9))),(xi 46 43 true (.load 2 true (.t 45))),(xi 47 43 true (.build [.int .i64 0,.int .i64 0] [(0,1,(ci 0)),(1,1,(ci 1))])),(xi 48 43 true (.eqS false [1,1] (.t 46) (.t 47)))] [44,45,46,47],oo 49 (Pf 43 48) [43,48],omk 50 49,.grp 50 true [(xi 51 50 true (Mv 9)),(xi 52 50 true (Bc .eql 51 47))] [9,51],oo 53 (Pf 50 52) [50,52],omk 54 53,.grp 54 true [(xi 55 54 true (Mv 8)),(xi 56 54 true (Bc .eql 55 0))] [8,55],oo 57 (Pf 54 56) [54,56],omk 58 57,.grp 58 true [(xi 59 58 true (.load 3 true (.t 2))),(xi 60 58 true (.load 7 true (.t 3))),(xi 61 58 true (.lit 7 [.t 60])),(xi 62 58 true (Mv 4)),(xi 63 58 true (Ca 16 [.t 59,.t 61,.t 62]))] [2,59,60,61,62],oo 64 (Pf 58 63) [58,63],omk 65 64,.grp 65 true [(xi 66 65 true (.load 7 true (.t 3))),(xi 67 65 true (.lit 7 [.t 66])),(xi 68 65 true (Mv 4)),(xi 69 65 true (Ca 21 [.t 67,.t 68])),(xi 70 65 true (Ln 69)),(xi 71 65 true (Bc .eql 70 1))] [3,4,66,67,68,69,70],oo 72 (Pf 65 71) [65,71],omk 0 72]
def r10:RC:=(So xew (So xev (So xeu (So xet (So xes (So xer (So xeq .ret)))))))
def F10:FnC:=⟨r10,73,[.tmp 0],[],[]⟩
def xep:List RI:=[on 8 (.new (.rc Zq2)),oo 9 (.mov (.c (.lst 7 [] .clip))) [9]]
def xeo:List RI:=[omk 15 1,oo 16 (Ca 24 [.t 15]) [15],omk 10 16]
def xen:List RI:=[om 17 0,oo 18 (Ca 35 [.t 17,ci 200]) [17],omk 11 18]
def xem:List RI:=[omk 19 0,omk 20 3,oo 21 (Ca 29 [.t 20]) [20],oo 22 (Ca 36 [.t 19,.t 21,ci 0]) [19,21],on 12 (.new (.rc Zq2)),.op ⟨none,none,.store 3 (.t 12) (.t 22)⟩ [22]]
def xel:List RI:=[om 23 11,oo 24 (Ca 37 [.t 23,ci 2]) [23],oo 25 (Bc .eql 24 0) [24]]
def xek:List FI:=[Fs 0 26 (Fa 0 12),Fs 1 27 (Ld 26),Fm 2 28 10,Fs 3 29 (Fa 0 12),Fs 4 30 (Ld 29),Fz 5 31 (Ca 31 [.t 28,.t 30]),Fs 6 32 (.build Zq2 [(0,1,(.t 27)),(2,1,(.t 31))]),⟨7,false,⟨none,none,.store 3 (.t 12) (.t 32)⟩⟩]
def xej:List RI:=[om 33 11,oo 34 (Ca 37 [.t 33,ci 3]) [33],omk 13 34]
def xei:List RI:=[om 35 13,oo 36 (Bc .gtr 35 0) [35]]
def xeh:List RI:=[om 39 11,on 40 (Fa 2 12),oo 41 (Ld 40) [40],oo 42 (Ln 41) [41],oo 43 (Bc .add 42 1) [42],oo 44 (Ca 37 [.t 39,.t 43]) [39,43],omk 14 44]
def xeg:List FI:=[Fs 0 45 (.lit 4 []),Fs 1 46 (Fa 2 12),Fs 2 47 (Ld 46),Fm 3 48 14,Fs 4 49 (.slcL 4 (.t 47) none (some (.t 48)) none),Fm 6 51 11,Fs 7 52 (Fa 0 12),Fs 8 53 (Ld 52),Fs 12 57 (Fa 2 12),Fs 13 58 (Ld 57),Fm 14 59 14,Fs 15 60 (.slcL 4 (.t 58) (some (.t 59)) none none),Fz 5 50 (.app Zq0 64 (.t 45) (.t 49)),Fz 9 54 (Ca 38 [.t 51,.t 53]),Fs 10 55 (.lit 4 [.t 54]),Fz 11 56 (.app Zq0 64 (.t 50) (.t 55)),Fz 16 61 (.app Zq0 64 (.t 56) (.t 60)),Fs 17 62 (Fa 2 12),⟨18,false,⟨none,none,.store 1 (.t 62) (.t 61)⟩⟩]
def OI:List RI:=[omk 37 13,oo 38 (Bc .sub 37 1) [37],omk 13 38]
def An:RC:=(.post (.seq (So xei (Kc 36 (Kk [36] .skip) (Kk [11,13,36] (.exit 0)))) (.seq (.block 1 (So xeh (.flt [0,0,2,0,14,31,0,0,128,511,1023,2047,0,4096,0,28672,65535,131071,262143] [150,156,161] xeg [14,45,46,47,48,49,50,51,52,53,54,55,56,57,58,59,60,61,62]))) (.ops OI))) [.gc [150,156,161]])
def zb:RC:=An
def OH:List FI:=[Fs 0 63 (.load 3 true (.t 12)),Fm 1 64 2,Fm 2 65 10,Fz 3 66 (Ca 23 [.t 64,.t 65]),⟨4,false,⟨none,none,.store 3 (.t 8) (.t 63)⟩⟩,Fm 5 9 66]
def r11:RC:=(So xep (So xeo (So xen (So xem (.seq (So xel (Kc 25 (Kk [25] (.seq (.flt [0,1,0,0,8,28,63,127] [] xek [26,27,28,29,30,31,32]) (So xej (.block 0 (.loop zb))))) (Kk [11,25] .skip))) (.seq (.flt [0,0,0,6,15,31] [] OH [2,10,12,63,64,65,66]) .ret))))))
def F11:FnC:=⟨r11,67,[.cell 8 3 true,.tmp 9],[],[]⟩
def xef:List RI:=[oo 2 (.box (.t 0)) [0],on 4 (.mov (.c (.lst 2 [] .clip))),oo 5 (.mov (ci 0)) [5],oo 6 (.mov (ci 0)) [6]]
def xee:List RI:=[on 7 (.new (.rc [.int .i64 0,.int .i64 0,.bool false,.bool false,.bool false,.bool false,.bool false,.bool false]))]
def xed:List RI:=[on 12 (Fa 2 2),oo 13 (Ld 12) [12],on 14 (Ln 13),on 15 (.mov (ci 0))]
def xec:List RI:=[on 16 (Bb .lss 15 14)]
def xeb:List RI:=[om 17 15,on 18 (Ia 4 13 15),oo 19 (.load 4 true (.t 18)) [18],on 9 (.new (.rc Zq0)),omk 8 17,.op ⟨none,none,.store 4 (.t 9) (.t 19)⟩ [19]]
def xea:List RI:=[on 20 (.load 4 true (.t 9)),oo 21 (Ca 39 [.t 7,.t 20]) [20],oo 22 (.un .not (.t 21)) [21]]
def xd9:List RI:=[omk 23 4,omk 24 8,omk 4 23,omk 5 24,on 6 (.mov (ci 41))]
def xd8:List RI:=[oo 26 (.load 4 true (.t 9)) [9],om 27 1,oo 28 (Ca 40 [.t 26,.t 27]) [26,27],omk 25 28,on 29 (.ext (.t 25) 0),oo 30 (.ext (.t 25) 1) [25],on 10 (.new (.rc [.int .i64 0,.int .i64 0])),.op ⟨none,none,.store 2 (.t 10) (.t 29)⟩ [29],omk 11 30]
def xd7:List RI:=[omk 31 11,oo 32 (.un .not (.t 31)) [31]]
def xd6:List RI:=[omk 33 4,omk 34 8,omk 4 33,omk 5 34,on 6 (.mov (ci 47))]
def NQ:List RI:=[omk 35 4,oo 36 (.load 2 true (.t 10)) [10],oo 37 (.lit 2 [.t 36]) [36],oo 38 (.app [.int .i64 0,.int .i64 0] 16 (.t 35) (.t 37)) [35,37],omk 4 38]
def NP:List RI:=[oo 39 (Bc .add 15 1) [15],omk 15 39]
def Aj:RC:=(.post (So xec (.seq (Kc 16 (Kk [16] .skip) (Kk [1,13,14,15,16] (.exit 0))) (.seq (.block 1 (So xeb (.seq (So xea (Kc 22 (Kk [1,2,7,9,13,14,15,22] (So xd9 .ret)) (Kk [22] .skip))) (So xd8 (.seq (So xd7 (Kc 32 (Kk [1,2,7,10,13,14,15,32] (So xd6 .ret)) (Kk [8,32] .skip))) (.ops NQ)))))) (.ops NP)))) [.gc [109,110],.tok 4 104])
def uK:RC:=Aj
def NO:List RI:=[oo 40 (Fa 2 7) [7],oo 41 (.iaddrA 6 1 (.t 40) (ci 4)) [40],oo 42 (Ld 41) [41],oo 43 (.un .not (.t 42)) [42]]
def NN:List FI:=[Fm 0 44 4,Fs 1 45 (Fa 2 2),Fs 2 46 (Ld 45),Fs 3 47 (Ln 46),⟨4,false,(xm 4 44)⟩,Fm 5 5 47,Fs 6 6 (.mov (ci 40))]
def NM:List FI:=[Fm 0 48 4,Fs 1 49 (Fa 2 2),Fs 2 50 (Ld 49),Fs 3 51 (Ln 50),⟨4,false,(xm 4 48)⟩,Fm 5 5 51,Fs 6 6 (.mov (ci 0))]
def r12:RC:=(So xef (So xee (.seq (So xed (.block 0 (.pre [.tok 4 104] (.loop uK)))) (.seq (So NO (Kc 43 (Kk [43] (.seq (.flt [0,0,2,6,1,31,63] [] NN [2,44,45,46,47]) .ret)) (Kk [43] .skip))) (.seq (.flt [0,0,2,6,1,31,63] [] NM [2,48,49,50,51]) .ret)))))
def F12:FnC:=⟨r12,52,[.tmp 4,.tmp 5,.tmp 6],[],[]⟩
def xd5:List RI:=[oo 2 (.box (.t 0)) [0],oo 4 (.mov (.c (.lst 2 [] .clip))) [4],oo 5 (.mov (ci 0)) [5],oo 6 (.mov (ci 0)) [6]]
def xd4:List RI:=[on 16 (.load 3 true (.t 2)),oo 17 (Ca 28 [.t 16]) [16],omk 15 17,on 18 (.ext (.t 15) 0),on 19 (.ext (.t 15) 1),oo 20 (.ext (.t 15) 2) [15],.op (xm 7 18) [7,18],omk 8 19,omk 9 20]
def xd3:List RI:=[on 10 (.mov (.c (.lst 2 [] .clip)))]
def xd2:List RI:=[on 11 (.mov (.c (.bool false)))]
def xd1:List RI:=[on 12 (.mov (ci 0))]
def xd0:List RI:=[om 21 12,on 22 (Fa 2 2),oo 23 (Ld 22) [22],oo 24 (Ln 23) [23],oo 25 (Bb .lss 21 24) [21,24]]
def xdZ:List RI:=[om 28 9,oo 29 (Bc .neq 28 0) [28],omk 30 29,.grp 30 true [(xi 31 30 true (Mv 12)),(xi 32 30 true (Mv 8)),(xi 33 30 true (Bb .eql 31 32))] [31,32],oo 34 (Pf 30 33) [30,33]]
def xdY:List RI:=[omk 35 10,omk 36 12,omk 4 35,omk 5 36,on 6 (.mov (ci 41))]
def xdX:List RI:=[on 38 (Fa 2 2),oo 39 (Ld 38) [38],om 40 12,oo 41 (Ia 4 39 40) [39,40],oo 42 (.load 4 true (.t 41)) [41],om 43 1,oo 44 (Ca 41 [.t 42,.t 43]) [42,43],omk 37 44,on 45 (.ext (.t 37) 0),oo 46 (.ext (.t 37) 1) [37],on 13 (.new (.rc [.int .i64 0,.int .i64 0])),.op ⟨none,none,.store 2 (.t 13) (.t 45)⟩ [45],omk 14 46]
def xdW:List RI:=[omk 47 14,oo 48 (.un .not (.t 47)) [47]]
def MO:List RI:=[omk 49 10,omk 50 12,omk 4 49,omk 5 50,on 6 (.mov (ci 47))]
def MN:List RI:=[omk 51 10,oo 52 (.load 2 true (.t 13)) [13],oo 53 (.lit 2 [.t 52]) [52],oo 54 (.app [.int .i64 0,.int .i64 0] 16 (.t 51) (.t 53)) [51,53],omk 10 54]
def MM:List RI:=[omk 55 11,omk 56 55,.grp 56 false [(xi 57 56 false (Fa 2 2)),(xi 58 56 false (Ld 57)),(xi 59 56 false (Mv 12)),(xi 60 56 false (Ia 4 58 59)),(xi 61 56 false (.load 4 true (.t 60))),(xi 62 56 false (Ca 42 [.t 61])),(xi 63 56 false (Bc .eql 62 4))] [57,58,59,60,61,62],oo 64 (Pt 56 63) [56,63],omk 11 64]
def ML:List RI:=[omk 26 12,oo 27 (Bc .add 26 1) [26],omk 12 27]
def Ag:RC:=(.post (.seq (So xd0 (Kc 25 (Kk [25] .skip) (Kk [1,2,8,9,12,25] (.exit 0)))) (.seq (.block 1 (.seq (So xdZ (Kc 34 (Kk [1,2,8,9,11,34] (So xdY .ret)) (Kk [34] .skip))) (So xdX (.seq (So xdW (Kc 48 (Kk [1,2,8,9,11,13,48] (So MO .ret)) (Kk [48] .skip))) (So MN (.ops MM)))))) (.ops ML))) [.gc [113],.tok 10 110])
def oY:RC:=Ag
def MK:List RI:=[omk 65 11,oo 66 (.un .not (.t 65)) [65]]
def MJ:List RI:=[om 67 10,omk 68 10,oo 69 (Ln 68) [68],omk 4 67,omk 5 69,on 6 (.mov (ci 40))]
def MI:List RI:=[om 70 10,omk 71 10,oo 72 (Ln 71) [71],omk 4 70,omk 5 72,on 6 (.mov (ci 0))]
def r13:RC:=(So xd5 (So xd4 (So xd3 (So xd2 (.seq (So xd1 (.block 0 (.pre [.tok 10 110] (.loop oY)))) (.seq (So MK (Kc 66 (Kk [66] (So MJ .ret)) (Kk [66] .skip))) (So MI .ret)))))))
def F13:FnC:=⟨r13,73,[.tmp 4,.tmp 5,.tmp 6],[],[]⟩
def xdV:List RI:=[oo 4 (.mov (.c (.bool false))) [4]]
def xdU:List RI:=[omk 5 0,omk 6 1,oo 7 (Ca 43 [.t 5,.t 6]) [5,6],omk 4 7]
def r14:RC:=(So xdV (So xdU .ret))
def F14:FnC:=⟨r14,8,[.tmp 4],[],[]⟩
def xdT:List RI:=[oo 2 (.box (.t 0)) [0],oo 3 (.box (.t 1)) [1],oo 4 (.mov (ci 0)) [4]]
def xdS:List RI:=[on 6 (.load 7 true (.t 2)),oo 7 (Ca 44 [.t 6]) [6],oo 8 (Bc .neq 7 0) [7]]
def xdR:List RI:=[on 4 (.mov (ci (-1)))]
def xdQ:List RI:=[on 9 (Fa 1 3),oo 10 (Ld 9) [9]]
def xdP:List RI:=[on 12 (Bc .eql 10 1),omk 11 12]
def xdO:List RI:=[oo 13 (Fa 5 2) [2],oo 14 (Ld 13) [13],oo 15 (.mkfn 46 [] [.t 3]) [3],oo 16 (Ca 45 [.t 14,.t 15]) [14,15],omk 4 16]
def xdN:List RI:=[oo 18 (Bc .eql 10 3) [10],omk 17 18]
def xdM:List FI:=[Fs 0 19 (Fa 0 3),Fs 1 20 (Ld 19),Fz 2 21 (Ca 47 [ci 4]),Fs 3 22 (Bb .neq 20 21),Fm 4 23 22,Fi 5 24 23 false (.load 4 true (.t 3)),⟨6,false,(xi 25 23 false (Ca 50 [.t 24]))⟩,Fi 7 26 23 false (.un .not (.t 25)),Fs 8 27 (Pt 23 26)]
def xdL:List RI:=[on 4 (.mov (ci (-1)))]
def xdK:List RI:=[on 28 (Fa 6 2),oo 29 (Ld 28) [28],oo 30 (.mkfn 52 [] [.t 3]) [3],oo 31 (Ca 51 [.t 29,.t 30]) [29,30],omk 5 31]
def L4:List RI:=[om 32 5,oo 33 (Bc .geq 32 0) [32]]
def L3:List RI:=[oo 34 (Fa 5 2) [2],oo 35 (Ld 34) [34],oo 36 (Ln 35) [35],omk 37 5,oo 38 (Bb .add 36 37) [36,37],omk 4 38]
def L2:List RI:=[on 4 (.mov (ci (-1)))]
def r15:RC:=(So xdT (.seq (So xdS (Kc 8 (Kk [2,3,8] (So xdR .ret)) (Kk [8] .skip))) (.seq (So xdQ (.block 0 (So xdP (Kc 11 (Kk [10,11] (So xdO .ret)) (Kk [11] (So xdN (Kc 17 (Kk [17] (.seq (.seq (.flt [0,1,0,7,15,31,63,127,255] [] xdM [19,20,21,22,23,24,25,26]) (Kc 27 (Kk [2,3,27] (So xdL .ret)) (Kk [27] .skip))) (So xdK (So L4 (Kc 33 (Kk [33] (So L3 .ret)) (Kk [2,5,33] .skip)))))) (Kk [2,3,17] .skip)))))))) (So L2 .ret))))
def F15:FnC:=⟨r15,39,[.tmp 4],[],[]⟩
def xdJ:List RI:=[oo 3 (.box (.t 0)) [0],oo 6 (.mov (.c (.bool false))) [6]]
def xdI:List RI:=[on 14 (.load 3 true (.t 3)),om 15 1,oo 16 (Ca 12 [.t 14,.t 15]) [14,15],omk 13 16,on 17 (.ext (.t 13) 0),on 18 (.ext (.t 13) 1),oo 19 (.ext (.t 13) 2) [13],.op (xm 7 17) [7,17],.op (xm 8 18) [8,18],omk 9 19]
def xdH:List RI:=[omk 20 9,oo 21 (Bc .neq 20 0) [20],omk 22 21,.grp 22 false [(xi 23 22 false (Mv 2)),(xi 24 22 false (Ln 23)),(xi 25 22 false (Fa 2 3)),(xi 26 22 false (Ld 25)),(xi 27 22 false (Ln 26)),(xi 28 22 false (Bb .neq 24 27))] [23,24,25,26,27],oo 29 (Pt 22 28) [22,28]]
def xdG:List RI:=[on 6 (.mov (.c (.bool false)))]
def xdF:List RI:=[oo 30 (Fa 2 3) [3],oo 31 (Ld 30) [30],on 32 (Ln 31),on 33 (.mov (ci 0))]
def xdE:List RI:=[on 34 (Bb .lss 33 32)]
def xdD:List RI:=[om 35 33,on 36 (Ia 4 31 33),oo 37 (.load 4 true (.t 36)) [36],on 11 (.new (.rc Zq0)),omk 10 35,.op ⟨none,none,.store 4 (.t 11) (.t 37)⟩ [37]]
def xdC:List RI:=[om 38 2,omk 39 10,oo 40 (Ia 2 38 39) [38,39],oo 41 (.load 2 true (.t 40)) [40],on 12 (.new (.rc [.int .i64 0,.int .i64 0])),.op ⟨none,none,.store 2 (.t 12) (.t 41)⟩ [41]]
def xdB:List RI:=[on 42 (Fa 1 11),oo 43 (Ld 42) [42],oo 44 (Bc .eql 43 5) [43],omk 45 44,.grp 45 false [(xi 46 45 false (Fa 1 11)),(xi 47 45 false (Ld 46)),(xi 48 45 false (Bc .eql 47 2))] [46,47],oo 49 (Pt 45 48) [45,48]]
def xdA:List RI:=[on 50 (Fa 0 12),oo 51 (Ld 50) [50],oo 52 (Bc .neq 51 (-1)) [51],omk 53 52,.grp 53 false [(xi 54 53 false (Fa 1 12)),(xi 55 53 false (Ld 54)),(xi 56 53 false (Bc .neq 55 (-1)))] [12,54,55],oo 57 (Pt 53 56) [53,56]]
def LI:List RI:=[on 6 (.mov (.c (.bool false)))]
def LH:List FI:=[Fs 0 58 (Fa 0 12),Fs 1 59 (Ld 58),Fs 2 60 (Bc .lss 59 0),Fm 3 61 60,Fi 4 62 61 false (Fa 0 12),Fi 5 63 61 false (Ld 62),Fi 6 64 61 false (Mv 1),Fi 7 65 61 false (Ln 64),Fi 8 66 61 false (Bb .geq 63 65),Fs 9 67 (Pt 61 66),Fm 10 68 67,Fi 11 69 68 false (Fa 1 12),Fi 12 70 68 false (Ld 69),Fi 13 71 68 false (Bc .lss 70 0),Fs 14 72 (Pt 68 71),Fm 15 73 72,Fi 16 74 73 false (Mv 1),Fi 17 75 73 false (Fa 0 12),Fi 18 76 73 false (Ld 75),Fi 19 77 73 false (Ia 7 74 76),Fi 20 78 73 false (.load 7 true (.t 77)),Fi 21 79 73 false (.load 4 true (.t 11)),Fi 23 81 73 false (Fa 1 12),Fi 24 82 73 false (Ld 81),⟨22,false,(xi 80 73 false (Ca 15 [.t 78,.t 79]))⟩,Fi 25 83 73 false (Bb .neq 80 82),Fs 26 84 (Pt 73 83)]
def LG:List RI:=[on 6 (.mov (.c (.bool false)))]
def LF:List RI:=[oo 85 (Bc .add 33 1) [33],omk 33 85]
def Ad:RC:=(.post (So xdE (.seq (Kc 34 (Kk [34] .skip) (Kk [1,2,31,32,33,34] (.exit 0))) (.seq (.block 1 (So xdD (So xdC (.seq (So xdB (Kc 49 (Kk [11,49] (.seq (So xdA (Kc 57 (Kk [1,2,31,32,33,57] (So LI .ret)) (Kk [57] .skip))) (.exit 1))) (Kk [49] .skip))) (.seq (.flt [0,1,3,7,15,31,15,79,255,511,1023,2047,4095,8191,16383,32767,65535,65535,196607,524287,1048575,65535,4194303,65535,8454143,33554431,67108863] [] LH [11,12,58,59,60,61,62,63,64,65,66,67,68,69,70,71,72,73,74,75,76,77,78,79,80,81,82,83]) (Kc 84 (Kk [1,2,31,32,33,84] (So LG .ret)) (Kk [84] .skip))))))) (.ops LF)))) [.gc [111,112]])
def mB:RC:=Ad
def LD:List RI:=[on 6 (.mov (.c (.bool true)))]
def r16:RC:=(So xdJ (.seq (So xdI (So xdH (Kc 29 (Kk [1,2,3,29] (So xdG .ret)) (Kk [29] .skip)))) (.seq (So xdF (.block 0 (.loop mB))) (So LD .ret))))
def F16:FnC:=⟨r16,86,[.tmp 6],[],[]⟩
def xdz:List RI:=[oo 4 (.mov (ci 0)) [4]]
def xdy:List RI:=[om 6 1,oo 7 (Bc .lss 6 1) [6]]
def xdx:List RI:=[on 4 (.mov (ci 0))]
def xdw:List RI:=[omk 8 0,om 9 1,oo 10 (Bb .rem 8 9) [8,9],omk 5 10]
def xdv:List RI:=[om 11 5,oo 12 (Bc .lss 11 0) [11]]
def xdu:List RI:=[omk 13 5,omk 14 1,oo 15 (Bb .add 13 14) [13,14],omk 5 15]
def xdt:List RI:=[omk 16 5,omk 4 16]
def r18:RC:=(So xdz (.seq (So xdy (Kc 7 (Kk [0,1,7] (So xdx .ret)) (Kk [7] .skip))) (So xdw (.seq (So xdv (Kc 12 (Kk [12] (.ops xdu)) (Kk [1,12] .skip))) (So xdt .ret)))))
def F18:FnC:=⟨r18,17,[.tmp 4],[],[]⟩
def xds:List RI:=[oo 2 (.box (.t 0)) [0],oo 3 (.box (.t 1)) [1],oo 4 (.mov (ci 0)) [4]]
def xdr:List RI:=[on 8 (.load 7 true (.t 2)),oo 9 (Ca 54 [.t 8]) [8],oo 10 (Bc .neq 9 0) [9],omk 11 10,.grp 11 false [(xi 12 11 false (Fa 2 3)),(xi 13 11 false (Ld 12)),(xi 14 11 false (Ln 13)),(xi 15 11 false (Bc .neq 14 2))] [12,13,14],oo 16 (Pt 11 15) [11,15]]
def xdq:List RI:=[on 4 (.mov (ci (-1)))]
def xdp:List RI:=[on 17 (Fa 1 3),oo 18 (Ld 17) [17],oo 19 (Bc .eql 18 1) [18]]
def xdo:List RI:=[on 5 (.mov (ci 0))]
def xdn:List RI:=[om 20 5,on 21 (Fa 5 2),oo 22 (Ld 21) [21],oo 23 (Ln 22) [22],oo 24 (Bb .lss 20 23) [20,23]]
def xdm:List RI:=[on 27 (Fa 5 2),oo 28 (Ld 27) [27],om 29 5,oo 30 (Ia 4 28 29) [28,29],oo 31 (.load 4 true (.t 30)) [30],on 6 (.new (.rc Zq1)),.op ⟨none,none,.store 4 (.t 6) (.t 31)⟩ [31]]
def xdl:List FI:=[Fs 0 32 (Fa 0 6),Fs 1 33 (Ld 32),Fs 3 35 (Fa 0 3),Fs 4 36 (Ld 35),Fz 2 34 (Ca 55 [.t 33]),Fs 5 37 (Bb .eql 34 36),Fm 6 38 37,Fi 7 39 38 true (Fa 3 6),Fi 8 40 38 true (Ld 39),Fi 9 41 38 true (Fa 2 3),Fi 10 42 38 true (Ld 41),Fi 11 43 38 true (.iaddrL 1 (.t 42) (ci 1)),Fi 12 44 38 true (Ld 43),⟨13,false,(xi 45 38 true (Ca 25 [.t 40,.t 44]))⟩,Fs 14 46 (Pf 38 45),Fm 15 47 46,Fi 16 48 47 true (Fa 3 3),Fi 17 49 47 true (Ld 48),Fi 18 50 47 true (Fa 1 6),Fi 19 51 47 true (Ld 50),Fi 20 52 47 true (Fa 2 6),Fi 21 53 47 true (Ld 52),⟨22,false,(xi 54 47 true (Ca 56 [.t 51,.t 53]))⟩,⟨23,false,(xi 55 47 true (Ca 25 [.t 49,.t 54]))⟩,Fs 24 56 (Pf 47 55)]
def xdk:List RI:=[omk 57 5,omk 4 57]
def xdj:List RI:=[omk 25 5,oo 26 (Bc .add 25 1) [25],omk 5 26]
def Ac:RC:=(.post (.seq (So xdn (Kc 24 (Kk [24] .skip) (Kk [5,24] (.exit 0)))) (.seq (.block 1 (So xdm (.seq (.flt [0,1,3,0,8,31,63,127,255,127,639,1663,3711,8191,16383,32767,65535,131071,65535,327679,65535,1114111,3997695,8388607,16777215] [] xdl [6,32,33,34,35,36,37,38,39,40,41,42,43,44,45,46,47,48,49,50,51,52,53,54,55]) (Kc 56 (Kk [2,3,56] (So xdk .ret)) (Kk [56] .skip))))) (.ops xdj))) [.gc [106]])
def uJ:RC:=Ac
def Lw:List RI:=[on 58 (Fa 1 3),oo 59 (Ld 58) [58],oo 60 (Bc .eql 59 3) [59],omk 61 60,.grp 61 true [(xi 62 61 true (Fa 0 3)),(xi 63 61 true (Ld 62)),(xi 64 61 true (Bc .eql 63 9))] [62,63],oo 65 (Pf 61 64) [61,64],omk 66 65,.grp 66 true [(xi 67 66 true (.load 4 true (.t 3))),(xi 68 66 true (Ca 57 [.t 67]))] [67],oo 69 (Pf 66 68) [66,68]]
def Lv:List RI:=[on 7 (.mov (ci 0))]
def Lu:List RI:=[om 70 7,on 71 (Fa 6 2),oo 72 (Ld 71) [71],oo 73 (Ln 72) [72],oo 74 (Bb .lss 70 73) [70,73]]
def Lt:List FI:=[Fs 0 77 (Fa 6 2),Fs 1 78 (Ld 77),Fm 2 79 7,Fs 3 80 (Ia 4 78 79),Fs 4 81 (.load 4 true (.t 80)),Fs 5 82 (Fa 3 3),Fs 6 83 (Ld 82),Fz 7 84 (Ca 58 [.t 81,.t 83])]
def Ls:List RI:=[oo 85 (Fa 5 2) [2],oo 86 (Ld 85) [85],oo 87 (Ln 86) [86],omk 88 7,oo 89 (Bb .add 87 88) [87,88],omk 4 89]
def Lr:List RI:=[omk 75 7,oo 76 (Bc .add 75 1) [75],omk 7 76]
def Ab:RC:=(.seq (So Lu (Kc 74 (Kk [74] .skip) (Kk [2,3,7,74] (.exit 2)))) (.seq (.block 3 (.seq (.flt [0,1,0,7,15,0,32,127] [] Lt [77,78,79,80,81,82,83]) (Kc 84 (Kk [3,84] (So Ls .ret)) (Kk [84] .skip)))) (.ops Lr)))
def uI:RC:=Ab
def Lq:List RI:=[on 4 (.mov (ci (-1)))]
def r19:RC:=(So xds (.seq (So xdr (Kc 16 (Kk [2,3,16] (So xdq .ret)) (Kk [16] .skip))) (.seq (So xdp (Kc 19 (Kk [19] (So xdo (.block 0 (.loop uJ)))) (Kk [19] .skip))) (.seq (So Lw (Kc 69 (Kk [69] (So Lv (.block 2 (.loop uI)))) (Kk [2,3,69] .skip))) (So Lq .ret)))))
def F19:FnC:=⟨r19,90,[.tmp 4],[],[]⟩
def xdi:List RI:=[oo 4 (.mov (.c (.lst 1 [] .clip))) [4]]
def xdh:List RI:=[on 5 (.mov (.c (.lst 1 [] .clip)))]
def xdg:List RI:=[omk 11 1,on 12 (Ln 11),on 13 (.mov (ci 0))]
def xdf:List RI:=[on 14 (Bb .lss 13 12)]
def xde:List RI:=[on 15 (Ia 2 11 13),oo 16 (.load 2 true (.t 15)) [15],on 7 (.new (.rc [.int .i64 0,.int .i64 0])),.op ⟨none,none,.store 2 (.t 7) (.t 16)⟩ [16]]
def xdd:List RI:=[on 17 (Fa 0 7),oo 18 (Ld 17) [17],oo 19 (Bc .lss 18 0) [18],omk 20 19,.grp 20 false [(xi 21 20 false (Fa 0 7)),(xi 22 20 false (Ld 21)),(xi 23 20 false (Mv 0)),(xi 24 20 false (Ln 23)),(xi 25 20 false (Bb .geq 22 24))] [21,22,23,24],oo 26 (Pt 20 25) [20,25]]
def xdc:List RI:=[om 27 0,oo 28 (Fa 0 7) [7],oo 29 (Ld 28) [28],oo 30 (Ia 7 27 29) [27,29],oo 31 (.load 7 true (.t 30)) [30],oo 32 (Ca 59 [.t 31]) [31],omk 8 32]
def xdb:List RI:=[om 34 5,om 35 8,oo 36 (Ca 60 [.t 34,.t 35,(.f 61)]) [34,35],omk 33 36,on 37 (.ext (.t 33) 0),oo 38 (.ext (.t 33) 1) [33],omk 9 37,omk 10 38]
def xda:List RI:=[omk 39 10,oo 40 (.un .not (.t 39)) [39]]
def xc9:List RI:=[omk 41 5,omk 42 9,omk 43 8,oo 44 (.lit 1 [.t 43]) [43],oo 45 (Ca 62 [.t 41,.t 42,.t 44]) [41,42,44],omk 5 45]
def Lp:List RI:=[oo 46 (Bc .add 13 1) [13],omk 13 46]
def Aa:RC:=(.post (So xdf (.seq (Kc 14 (Kk [14] .skip) (Kk [0,11,12,13,14] (.exit 0))) (.seq (.block 1 (So xde (.seq (So xdd (Kc 26 (Kk [7,26] (.exit 1)) (Kk [26] .skip))) (So xdc (So xdb (So xda (Kc 40 (Kk [40] (.ops xc9)) (Kk [8,9,40] .skip)))))))) (.ops Lp)))) [.gc [107]])
def uH:RC:=Aa
def Lo:List RI:=[omk 47 5,omk 4 47]
def r21:RC:=(So xdi (So xdh (.seq (So xdg (.block 0 (.loop uH))) (So Lo .ret))))
def F21:FnC:=⟨r21,48,[.tmp 4],[],[]⟩
def xc8:List RI:=[oo 4 (.mov (.c (.lst 7 [] .clip))) [4]]
def xc7:List RI:=[omk 8 0,oo 9 (Ca 35 [.t 8,ci 120]) [8],omk 5 9]
def xc6:List RI:=[on 6 (.mov (.c (.lst 7 [] .clip)))]
def xc5:List RI:=[om 10 5,oo 11 (Ca 37 [.t 10,ci 5]) [10],omk 7 11]
def xc4:List RI:=[om 12 7,oo 13 (Bc .gtr 12 0) [12]]
def xc3:List RI:=[omk 16 6,om 17 5,om 18 1,oo 19 (Ca 64 [.t 17,.t 18]) [17,18],oo 20 (.lit 7 [.t 19]) [19],oo 21 (.app Zq3 96 (.t 16) (.t 20)) [16,20],omk 6 21]
def xc2:List RI:=[omk 14 7,oo 15 (Bc .sub 14 1) [14],omk 7 15]
def RM:RC:=(.post (.seq (So xc4 (Kc 13 (Kk [13] .skip) (Kk [1,5,7,13] (.exit 0)))) (.seq (.block 1 (.ops xc3)) (.ops xc2))) [.tok 6 106])
def Rn:RC:=RM
def xc1:List RI:=[omk 22 6,omk 4 22]
def r23:RC:=(So xc8 (So xc7 (So xc6 (.seq (So xc5 (.block 0 (.pre [.tok 6 106] (.loop Rn)))) (So xc1 .ret)))))
def F23:FnC:=⟨r23,23,[.tmp 4],[],[]⟩
def xc0:List RI:=[oo 2 (.mov (.c (.lst 4 [] .clip))) [2]]
def xcZ:List RI:=[omk 10 0,oo 11 (Ca 35 [.t 10,ci 200]) [10],omk 3 11]
def xcY:List RI:=[on 4 (.mov (.c (.lst 4 [] .clip)))]
def xcX:List RI:=[on 5 (.mov (ci 1))]
def xcW:List RI:=[om 12 5,oo 13 (Bc .leq 12 4) [12]]
def xcV:List RI:=[om 16 3,oo 17 (Ca 37 [.t 16,ci 3]) [16],omk 6 17]
def xcU:List RI:=[om 18 5,oo 19 (Bc .eql 18 1) [18],omk 20 19,.grp 20 false [(xi 21 20 false (Mv 5)),(xi 22 20 false (Bc .eql 21 3))] [21],oo 23 (Pt 20 22) [20,22]]
def xcT:List RI:=[om 24 3,oo 25 (Ca 37 [.t 24,ci 2]) [24],oo 26 (.bin .add (ci 1) (.t 25)) [25],omk 6 26]
def xcS:List RI:=[om 27 6,oo 28 (Bc .gtr 27 0) [27]]
def xcR:List RI:=[om 31 3,om 32 5,oo 33 (Ca 65 [.t 31,.t 32]) [31,32],on 7 (.new (.rc Zq1)),.op ⟨none,none,.store 4 (.t 7) (.t 33)⟩ [33]]
def Lm:List RI:=[on 8 (.mov (.c (.bool false)))]
def Ll:List RI:=[on 9 (.mov (ci 0))]
def Lk:List RI:=[om 34 9,om 35 4,oo 36 (Ln 35) [35],oo 37 (Bb .lss 34 36) [34,36]]
def Lj:List FI:=[Fm 0 40 8,Fm 1 41 40,Fi 2 42 41 false (Mv 4),Fi 3 43 41 false (Mv 9),Fi 4 44 41 false (Ia 4 42 43),Fi 5 45 41 false (Fa 0 44),Fi 6 46 41 false (Ld 45),Fi 7 47 41 false (Fa 0 7),Fi 8 48 41 false (Ld 47),Fi 9 49 41 false (Bb .eql 46 48),Fi 10 50 41 false (Mv 49),Fi 11 51 50 true (Mv 4),Fi 12 52 50 true (Mv 9),Fi 13 53 50 true (Ia 4 51 52),Fi 14 54 50 true (Fa 1 53),Fi 15 55 50 true (Ld 54),Fi 16 56 50 true (Fa 1 7),Fi 17 57 50 true (Ld 56),Fi 18 58 50 true (Bb .eql 55 57),Fi 19 59 41 false (Pf 50 58),Fs 20 60 (Pt 41 59),⟨21,false,(xm 8 60)⟩]
def Li:List RI:=[omk 38 9,oo 39 (Bc .add 38 1) [38],omk 9 39]
def z9:RC:=(.seq (So Lk (Kc 37 (Kk [37] .skip) (Kk [9,37] (.exit 4)))) (.seq (.block 5 (.flt [0,1,3,3,15,31,63,3,131,511,1023,2047,2047,8191,16383,32767,2047,67583,262143,524287,1048575,2097151] [] Lj [40,41,42,43,44,45,46,47,48,49,50,51,52,53,54,55,56,57,58,59,60])) (.ops Li)))
def y6:RC:=z9
def Lh:List RI:=[omk 61 8,oo 62 (.un .not (.t 61)) [61]]
def Lg:List RI:=[omk 63 4,oo 64 (.load 4 true (.t 7)) [7],oo 65 (.lit 4 [.t 64]) [64],oo 66 (.app Zq1 56 (.t 63) (.t 65)) [63,65],omk 4 66]
def Lf:List RI:=[omk 29 6,oo 30 (Bc .sub 29 1) [29],omk 6 30]
def z8:RC:=(.post (.seq (So xcS (Kc 28 (Kk [28] .skip) (Kk [6,28] (.exit 2)))) (.seq (.block 3 (So xcR (So Lm (.seq (So Ll (.block 4 (.loop y6))) (So Lh (Kc 62 (Kk [62] (.ops Lg)) (Kk [7,62] .skip))))))) (.ops Lf))) [.gc [107],.tok 4 104])
def y5:RC:=z8
def Le:List RI:=[omk 14 5,oo 15 (Bc .add 14 1) [14],omk 5 15]
def z7:RC:=(.post (.seq (So xcW (Kc 13 (Kk [13] .skip) (Kk [3,5,13] (.exit 0)))) (.seq (.block 1 (So xcV (.seq (So xcU (Kc 23 (Kk [6,23] (.ops xcT)) (Kk [23] .skip))) (.block 2 (.pre [.tok 4 104] (.loop y5)))))) (.ops Le))) [.gc [107],.tok 4 104])
def rj:RC:=z7
def Lc:List RI:=[omk 67 4,omk 2 67]
def r24:RC:=(So xc0 (So xcZ (So xcY (.seq (So xcX (.block 0 (.pre [.tok 4 104] (.loop rj)))) (So Lc .ret)))))
def F24:FnC:=⟨r24,68,[.tmp 2],[],[]⟩
def xcQ:List RI:=[oo 4 (.mov (.c (.bool false))) [4]]
def xcP:List RI:=[om 6 0,oo 7 (Ln 6) [6],om 8 1,oo 9 (Ln 8) [8],oo 10 (Bb .neq 7 9) [7,9]]
def xcO:List RI:=[on 4 (.mov (.c (.bool false)))]
def xcN:List RI:=[on 5 (.mov (ci 0))]
def xcM:List RI:=[om 11 5,om 12 0,oo 13 (Ln 12) [12],oo 14 (Bb .lss 11 13) [11,13]]
def xcL:List FI:=[Fm 0 17 0,Fm 1 18 5,Fs 2 19 (Ia 1 17 18),Fs 3 20 (Ld 19),Fm 4 21 1,Fm 5 22 5,Fs 6 23 (Ia 1 21 22),Fs 7 24 (Ld 23),Fs 8 25 (Bb .neq 20 24)]
def xcK:List RI:=[on 4 (.mov (.c (.bool false)))]
def xcJ:List RI:=[omk 15 5,oo 16 (Bc .add 15 1) [15],omk 5 16]
def RL:RC:=(.seq (So xcM (Kc 14 (Kk [14] .skip) (Kk [0,1,5,14] (.exit 0)))) (.seq (.block 1 (.seq (.flt [0,0,3,7,0,0,48,112,255] [] xcL [17,18,19,20,21,22,23,24]) (Kc 25 (Kk [0,1,5,25] (So xcK .ret)) (Kk [25] .skip)))) (.ops xcJ)))
def Rm:RC:=RL
def xcI:List RI:=[on 4 (.mov (.c (.bool true)))]
def r25:RC:=(So xcQ (.seq (So xcP (Kc 10 (Kk [0,1,10] (So xcO .ret)) (Kk [10] .skip))) (.seq (So xcN (.block 0 (.loop Rm))) (So xcI .ret))))
def F25:FnC:=⟨r25,26,[.tmp 4],[],[]⟩
def xcH:List RI:=[oo 1 (.box (.t 0)) [0],oo 2 (.mov (ci 0)) [2],oo 3 (.mov (ci 0)) [3],oo 4 (.mov (ci 0)) [4]]
def xcG:List RI:=[on 5 (.mov (ci 0)),on 6 (.mov (ci 0))]
def xcF:List RI:=[on 7 (.mov (ci 0))]
def xcE:List RI:=[om 10 7,on 11 (Fa 2 1),oo 12 (Ld 11) [11],oo 13 (Ln 12) [12],oo 14 (Bb .lss 10 13) [10,13]]
def xcD:List RI:=[on 17 (Fa 2 1),oo 18 (Ld 17) [17],om 19 7,oo 20 (Ia 4 18 19) [18,19],oo 21 (.load 4 true (.t 20)) [20],oo 22 (Ca 42 [.t 21]) [21],omk 8 22]
def xcC:List RI:=[om 23 8,oo 24 (Bc .eql 23 0) [23]]
def xcB:List RI:=[om 25 8,om 26 5,oo 27 (Bb .geq 25 26) [25,26],omk 28 27,.grp 28 true [(xi 29 28 true (Mv 5)),(xi 30 28 true (Bc .gtr 29 0)),(xi 31 28 true (Mv 30))] [29,30],.grp 31 false [(xi 32 31 false (Mv 8)),(xi 33 31 false (Bc .eql 32 1))] [32],.grp 28 true [(xi 34 28 true (Pt 31 33))] [31,33],oo 35 (Pf 28 34) [28,34],omk 9 35]
def xcA:List RI:=[om 36 8,oo 37 (Bc .eql 36 3) [36]]
def xcz:List RI:=[omk 38 9,omk 39 38,.grp 39 true [(xi 40 39 true (Fa 2 1)),(xi 41 39 true (Ld 40)),(xi 42 39 true (Mv 7)),(xi 43 39 true (Ia 4 41 42)),(xi 44 39 true (Fa 0 43)),(xi 45 39 true (Ld 44)),(xi 46 39 true (Mv 6)),(xi 47 39 true (Bb .eql 45 46))] [40,41,42,43,44,45,46],oo 48 (Pf 39 47) [39,47],omk 9 48]
def xcy:List RI:=[om 49 8,oo 50 (Bc .gtr 49 3) [49]]
def Lb:List RI:=[omk 51 9,omk 52 51,.grp 52 true [(xi 53 52 true (Mv 6)),(xi 54 52 true (Bc .eql 53 8))] [53],oo 55 (Pf 52 54) [52,54],omk 9 55]
def La:List RI:=[omk 56 9,oo 57 (.un .not (.t 56)) [56]]
def K9:List RI:=[omk 58 5,omk 59 7,omk 2 58,omk 3 59,on 4 (.mov (ci 41))]
def K8:List RI:=[om 60 8,omk 5 60]
def K7:List RI:=[omk 61 8,oo 62 (Bc .eql 61 3) [61]]
def K6:List RI:=[omk 63 6,oo 64 (Bc .add 63 1) [63],omk 6 64]
def K5:List RI:=[omk 15 7,oo 16 (Bc .add 15 1) [15],omk 7 16]
def z6:RC:=(.seq (So xcE (Kc 14 (Kk [14] .skip) (Kk [6,7,14] (.exit 0)))) (.seq (.block 1 (So xcD (.seq (So xcC (Kc 24 (Kk [8,24] (.exit 1)) (Kk [24] .skip))) (So xcB (.seq (So xcA (Kc 37 (Kk [37] (.ops xcz)) (Kk [37] .skip))) (.seq (So xcy (Kc 50 (Kk [50] (.ops Lb)) (Kk [50] .skip))) (.seq (So La (Kc 57 (Kk [1,6,8,57] (So K9 .ret)) (Kk [5,57] .skip))) (So K8 (So K7 (Kc 62 (Kk [62] (.ops K6)) (Kk [62] .skip))))))))))) (.ops K5)))
def mA:RC:=z6
def K4:List FI:=[Fm 0 65 5,Fs 1 66 (Fa 2 1),Fs 2 67 (Ld 66),Fs 3 68 (Ln 67),Fm 4 2 65,Fm 5 3 68,Fs 6 4 (.mov (ci 0))]
def r28:RC:=(So xcH (So xcG (.seq (So xcF (.block 0 (.loop mA))) (.seq (.flt [0,0,2,6,1,31,63] [] K4 [1,5,65,66,67,68]) .ret))))
def F28:FnC:=⟨r28,69,[.tmp 2,.tmp 3,.tmp 4],[],[]⟩
def xcx:List RI:=[oo 2 (.mov (ci 0)) [2]]
def xcw:List RI:=[omk 3 0,oo 4 (Ca 18 [.t 3,ci 2]) [3],oo 5 (.bin .add (ci 2) (.t 4)) [4],omk 2 5]
def r29:RC:=(So xcx (So xcw .ret))
def F29:FnC:=⟨r29,6,[.tmp 2],[],[]⟩
def xcv:List RI:=[oo 4 (.mov (.c (.lst 4 [] .clip))) [4]]
def xcu:List RI:=[om 11 0,oo 12 (Ca 75 [.t 11]) [11],oo 13 (Bc .neq 12 0) [12],omk 14 13,.grp 14 false [(xi 15 14 false (Mv 1)),(xi 16 14 false (Bc .lss 15 1))] [15],oo 17 (Pt 14 16) [14,16],omk 18 17,.grp 18 false [(xi 19 18 false (Mv 1)),(xi 20 18 false (Bc .gtr 19 3))] [19],oo 21 (Pt 18 20) [18,20]]
def xct:List RI:=[on 4 (.mov (.c (.lst 4 [] .clip)))]
def xcs:List RI:=[on 5 (.mov (.c (.lst 4 [] .clip)))]
def xcr:List RI:=[on 6 (.mov (ci 1))]
def xcq:List RI:=[om 22 6,oo 23 (Bc .leq 22 4) [22]]
def xcp:List RI:=[om 26 6,oo 27 (Bc .eql 26 3) [26]]
def xco:List RI:=[on 7 (.mov (ci 0))]
def xcn:List RI:=[om 28 7,oo 29 (Bc .lss 28 8) [28]]
def xcm:List RI:=[omk 32 5,om 33 7,om 34 1,on 35 (Ca 77 []),oo 36 (Ca 76 [.t 33,ci 2,.t 34,.t 35]) [33,34,35],oo 37 (.lit 4 [.t 36]) [36],oo 38 (.app Zq0 64 (.t 32) (.t 37)) [32,37],omk 5 38]
def K3:List RI:=[omk 30 7,oo 31 (Bc .add 30 1) [30],omk 7 31]
def zZ:RC:=(.post (.seq (So xcn (Kc 29 (Kk [29] .skip) (Kk [7,29] (.exit 2)))) (.seq (.block 3 (.ops xcm)) (.ops K3))) [.tok 5 105])
def y0:RC:=zZ
def K2:List RI:=[on 8 (.mov (ci 0))]
def K1:List RI:=[om 39 8,om 40 0,oo 41 (Ln 40) [40],oo 42 (Bb .lss 39 41) [39,41]]
def K0:List RI:=[om 45 0,om 46 8,oo 47 (Ia 4 45 46) [45,46],oo 48 (Fa 0 47) [47],oo 49 (Ld 48) [48],om 50 6,oo 51 (Bb .neq 49 50) [49,50]]
def KZ:List RI:=[om 52 6,oo 53 (Bc .neq 52 4) [52]]
def KY:List RI:=[omk 54 5,om 55 0,om 56 8,oo 57 (Ia 4 55 56) [55,56],oo 58 (.load 4 true (.t 57)) [57],om 59 1,oo 60 (Ca 78 [.t 58,.t 59]) [58,59],oo 61 (.lit 4 [.t 60]) [60],oo 62 (.app Zq0 64 (.t 54) (.t 61)) [54,61],omk 5 62]
def KX:List RI:=[om 63 0,om 64 8,oo 65 (Ia 4 63 64) [63,64],oo 66 (.load 4 true (.t 65)) [65],oo 67 (Ca 79 [.t 66]) [66],omk 9 67]
def KW:List RI:=[on 10 (.mov (ci 0))]
def KV:List RI:=[om 68 10,om 69 9,oo 70 (Ln 69) [69],oo 71 (Bb .lss 68 70) [68,70]]
def KU:List RI:=[omk 74 5,om 75 1,om 76 9,om 77 10,oo 78 (Ia 1 76 77) [76,77],oo 79 (Ld 78) [78],oo 80 (Ca 76 [ci 9,ci 3,.t 75,.t 79]) [75,79],oo 81 (.lit 4 [.t 80]) [80],oo 82 (.app Zq0 64 (.t 74) (.t 81)) [74,81],omk 5 82]
def KT:List RI:=[omk 72 10,oo 73 (Bc .add 72 1) [72],omk 10 73]
def zY:RC:=(.post (.seq (So KV (Kc 71 (Kk [71] .skip) (Kk [9,10,71] (.exit 6)))) (.seq (.block 7 (.ops KU)) (.ops KT))) [.tok 5 105])
def yZ:RC:=zY
def KS:List RI:=[omk 43 8,oo 44 (Bc .add 43 1) [43],omk 8 44]
def zX:RC:=(.post (.seq (So K1 (Kc 42 (Kk [42] .skip) (Kk [8,42] (.exit 4)))) (.seq (.block 5 (.seq (So K0 (Kc 51 (Kk [51] (.exit 5)) (Kk [51] .skip))) (.seq (So KZ (Kc 53 (Kk [53] (So KY (.exit 5))) (Kk [53] .skip))) (So KX (So KW (.block 6 (.pre [.tok 5 105] (.loop yZ)))))))) (.ops KS))) [.tok 5 105])
def yY:RC:=zX
def KR:List RI:=[omk 24 6,oo 25 (Bc .add 24 1) [24],omk 6 25]
def zW:RC:=(.post (.seq (So xcq (Kc 23 (Kk [23] .skip) (Kk [0,1,6,23] (.exit 0)))) (.seq (.block 1 (.seq (So xcp (Kc 27 (Kk [27] (So xco (.block 2 (.pre [.tok 5 105] (.loop y0))))) (Kk [27] .skip))) (So K2 (.block 4 (.pre [.tok 5 105] (.loop yY)))))) (.ops KR))) [.tok 5 105])
def KQ:RC:=zW
def KP:List RI:=[omk 83 5,omk 4 83]
def r31:RC:=(So xcv (.seq (So xcu (Kc 21 (Kk [0,1,21] (So xct .ret)) (Kk [21] .skip))) (So xcs (.seq (So xcr (.block 0 (.pre [.tok 5 105] (.loop KQ)))) (So KP .ret)))))
def F31:FnC:=⟨r31,84,[.tmp 4],[],[]⟩
def xcl:List RI:=[oo 1 (.box (.t 0)) [0],oo 2 (.mov (.c (.byt [] .clip))) [2]]
def xck:List RI:=[on 4 (.load 4 true (.t 1)),oo 5 (Ca 81 [.t 4]) [4],oo 6 (Bc .neq 5 0) [5]]
def xcj:List RI:=[on 2 (.mov (.c (.byt [] .clip)))]
def xci:List RI:=[on 7 (Fa 0 1),oo 8 (Ld 7) [7],oo 9 (Ca 82 [(.c (.byt [] .clip)),ci 1,.t 8]) [8],omk 3 9]
def xch:List RI:=[omk 10 3,on 11 (Fa 2 1),oo 12 (Ld 11) [11],oo 13 (Ca 82 [.t 10,ci 4,.t 12]) [10,12],omk 3 13]
def xcg:List RI:=[omk 14 3,on 15 (Fa 1 1),oo 16 (Ld 15) [15],oo 17 (.s2b (.t 16)) [16],oo 18 (Ca 83 [.t 14,.t 17]) [14,17],omk 3 18]
def xcf:List RI:=[omk 19 3,oo 20 (Fa 3 1) [1],oo 21 (Ld 20) [20],oo 22 (Ca 83 [.t 19,.t 21]) [19,21],omk 2 22]
def r33:RC:=(So xcl (.seq (So xck (Kc 6 (Kk [1,6] (So xcj .ret)) (Kk [6] .skip))) (So xci (So xch (So xcg (So xcf .ret))))))
def F33:FnC:=⟨r33,23,[.tmp 2],[],[]⟩
def xce:List RI:=[on 6 (.new (.rc Zq3))]
def xcd:List RI:=[omk 12 0,omk 13 1,oo 14 (.build Zq3 [(0,1,(.t 12)),(1,1,(.t 13)),(4,1,(ci 1099511627776))]) [12,13],on 7 (.new (.rc Zq3)),.op ⟨none,none,.store 7 (.t 7) (.t 14)⟩ [14]]
def xcc:List RI:=[on 8 (.mov (ci 0))]
def xcb:List RI:=[om 15 8,om 16 2,oo 17 (Ln 16) [16],oo 18 (Bb .lss 15 17) [15,17]]
def xca:List RI:=[om 21 2,om 22 8,oo 23 (Ia 4 21 22) [21,22],oo 24 (.load 4 true (.t 23)) [23],oo 25 (Ca 33 [.t 24]) [24],omk 9 25]
def xb9:List RI:=[om 26 9,oo 27 (Ln 26) [26],oo 28 (Bc .eql 27 0) [27],omk 29 28,.grp 29 false [(xi 30 29 false (Mv 2)),(xi 31 29 false (Mv 8)),(xi 32 29 false (Ia 4 30 31)),(xi 33 29 false (Fa 0 32)),(xi 34 29 false (Ld 33)),(xi 35 29 false (Bc .eql 34 4))] [30,31,32,33,34],oo 36 (Pt 29 35) [29,35]]
def xb8:List SI:=[(xm 37 2),(xm 38 8),(xs 39 (Ia 4 37 38)),(xs 40 (Fa 0 39)),(xs 41 (Ld 40)),(xm 42 2),(xm 43 8),(xs 44 (Ia 4 42 43)),(xs 45 (Fa 1 44)),(xs 46 (Ld 45)),(xm 47 2),(xm 48 8),(xs 49 (Ia 4 47 48)),(xs 50 (Fa 2 49)),(xs 51 (Ld 50)),(xm 52 9),(xs 53 (Ca 80 [.t 52])),(xs 54 (.build Zq1 [(0,1,(.t 41)),(1,1,(.t 46)),(2,1,(.t 51)),(3,1,(.t 53))])),(xs 10 (.new (.rc Zq1))),⟨none,none,.store 4 (.t 10) (.t 54)⟩]
def xb7:List RI:=[on 11 (.mov (ci 0))]
def xb6:List FI:=[Fm 0 55 11,Fs 1 56 (Fa 5 7),Fs 2 57 (Ld 56),Fs 3 58 (Ln 57),Fs 4 59 (Bb .lss 55 58),Fm 5 60 59,Fi 6 61 60 true (Fa 5 7),Fi 7 62 60 true (Ld 61),Fi 8 63 60 true (Mv 11),Fi 9 64 60 true (Ia 4 62 63),Fi 10 65 60 true (.load 4 true (.t 64)),Fi 11 66 60 true (.load 4 true (.t 10)),⟨12,false,(xi 67 60 true (Ca 84 [.t 65,.t 66]))⟩,Fs 13 68 (Pf 60 67)]
def xb5:List RI:=[omk 69 11,oo 70 (Bc .add 69 1) [69],omk 11 70]
def zV:RC:=(.seq (.seq (.flt [0,0,2,6,15,31,63,127,63,511,1023,63,4095,8191] [] xb6 [55,56,57,58,59,60,61,62,63,64,65,66,67]) (Kc 68 (Kk [68] .skip) (Kk [68] (.exit 2)))) (.block 3 (.ops xb5)))
def yX:RC:=zV
def KO:List FI:=[Fm 0 71 11,Fs 1 72 (Fa 5 7),Fs 2 73 (Ld 72),Fs 3 74 (Ln 73),Fs 4 75 (Bb .lss 71 74),Fm 5 76 75,Fi 6 77 76 true (.load 4 true (.t 10)),Fi 7 78 76 true (Fa 5 7),Fi 8 79 76 true (Ld 78),Fi 9 80 76 true (Mv 11),Fi 10 81 76 true (Ia 4 79 80),Fi 11 82 76 true (.load 4 true (.t 81)),⟨12,false,(xi 83 76 true (Ca 84 [.t 77,.t 82]))⟩,Fi 13 84 76 true (.un .not (.t 83)),Fs 14 85 (Pf 76 84)]
def KN:List FI:=[Fs 0 86 (.lit 4 []),Fs 1 87 (Fa 5 7),Fs 2 88 (Ld 87),Fm 3 89 11,Fs 4 90 (.slcL 4 (.t 88) none (some (.t 89)) none),Fs 6 92 (.load 4 true (.t 10)),Fs 7 93 (.lit 4 [.t 92]),Fs 9 95 (Fa 5 7),Fs 10 96 (Ld 95),Fm 11 97 11,Fs 12 98 (.slcL 4 (.t 96) (some (.t 97)) none none),Fz 5 91 (.app Zq1 56 (.t 86) (.t 90)),Fz 8 94 (.app Zq1 56 (.t 91) (.t 93)),Fz 13 99 (.app Zq1 56 (.t 94) (.t 98)),Fs 14 100 (Fa 5 7),⟨15,false,⟨none,none,.store 1 (.t 100) (.t 99)⟩⟩]
def KM:List RI:=[omk 19 8,oo 20 (Bc .add 19 1) [19],omk 8 20]
def zU:RC:=(.post (.seq (So xcb (Kc 18 (Kk [18] .skip) (Kk [2,8,18] (.exit 0)))) (.seq (.block 1 (So xca (.seq (So xb9 (Kc 36 (Kk [9,36] (.exit 1)) (Kk [36] .skip))) (.seq (.drw [0,0,3,7,15,0,0,96,224,480,0,0,3072,7168,15360,0,32768,131071,0,524287] [110] xb8 [9,37,38,39,40,41,42,43,44,45,46,47,48,49,50,51,52,53,54]) (So xb7 (.seq (.block 2 (.loop yX)) (.seq (.seq (.flt [0,0,2,6,15,31,63,63,191,63,959,1983,4095,8191,16383] [] KO [71,72,73,74,75,76,77,78,79,80,81,82,83,84]) (Kc 85 (Kk [10,11,85] (.exit 1)) (Kk [85] .skip))) (.flt [0,0,2,0,14,31,0,64,255,0,512,0,3584,8191,16383,32767] [191,194,199] KN [10,11,86,87,88,89,90,91,92,93,94,95,96,97,98,99,100])))))))) (.ops KM))) [.gc [110,191,194,199]])
def mz:RC:=zU
def KL:List RI:=[oo 101 (.load 7 true (.t 7)) [7],.op ⟨none,none,.store 7 (.t 6) (.t 101)⟩ [101]]
def r34:RC:=(So xce (So xcd (.seq (So xcc (.block 0 (.loop mz))) (So KL .ret))))
def F34:FnC:=⟨r34,102,[.cell 6 7 true],[0],[]⟩
def xb4:List RI:=[oo 4 (.mov (.c .nilp)) [4]]
def xb3:List RI:=[om 5 0,oo 6 (Ln 5) [5],om 7 1,oo 8 (Bb .gtr 6 7) [6,7]]
def xb2:List RI:=[omk 9 0,omk 10 1,oo 11 (.slcL 1 (.t 9) none (some (.t 10)) none) [9,10],omk 0 11]
def xb1:List RI:=[omk 12 0,oo 13 (.build [.byt [] .clip,.int .i64 0] [(0,1,(.t 12))]) [12],oo 14 (.box (.t 13)) [13],omk 4 14]
def r35:RC:=(So xb4 (.seq (So xb3 (Kc 8 (Kk [8] (.ops xb2)) (Kk [1,8] .skip))) (So xb1 .ret)))
def F35:FnC:=⟨r35,15,[.tmp 4],[],[]⟩
def xb0:List RI:=[on 6 (.new (.rc Zq2))]
def xbZ:List RI:=[omk 13 0,oo 14 (Ca 35 [.t 13,ci 240]) [13],omk 7 14]
def xbY:List RI:=[om 15 1,omk 16 2,oo 17 (Ca 18 [.t 16,ci 1000]) [16],oo 18 (.build Zq2 [(0,1,(.t 15)),(1,1,(.t 17))]) [15,17],on 8 (.new (.rc Zq2)),.op ⟨none,none,.store 3 (.t 8) (.t 18)⟩ [18]]
def xbX:List RI:=[om 19 7,oo 20 (Ca 37 [.t 19,ci 3]) [19],oo 21 (Bc .eql 20 0) [20]]
def xbW:List RI:=[omk 22 7,omk 23 1,oo 24 (Ca 85 [.t 22,.t 23,ci 14]) [22,23],on 25 (Fa 2 8),.op ⟨none,none,.store 1 (.t 25) (.t 24)⟩ [24,25]]
def xbV:List RI:=[oo 26 (.load 3 true (.t 8)) [8],.op ⟨none,none,.store 3 (.t 6) (.t 26)⟩ [26]]
def xbU:List FI:=[Fm 0 27 7,Fs 1 28 (.nchk (.t 27)),Fs 2 29 (Fa 0 28),Fs 3 30 (Ld 29),Fm 4 31 7,Fs 5 32 (.nchk (.t 31)),Fs 6 33 (Fa 1 32),Fs 7 34 (Ld 33),Fs 8 35 (.slcL 1 (.t 30) (some (.t 34)) none none),Fz 9 36 (Ca 24 [.t 35]),Fm 10 9 36]
def xbT:List RI:=[omk 37 9,om 38 1,oo 39 (Ca 31 [.t 37,.t 38]) [37,38],on 40 (Fa 2 8),.op ⟨none,none,.store 1 (.t 40) (.t 39)⟩ [39,40]]
def xbS:List RI:=[om 41 7,oo 42 (Ca 37 [.t 41,ci 4]) [41],omk 10 42]
def xbR:List RI:=[om 43 10,oo 44 (Bc .gtr 43 0) [43]]
def KK:List RI:=[om 47 7,on 48 (Fa 2 8),oo 49 (Ld 48) [48],oo 50 (Ln 49) [49],oo 51 (Ca 37 [.t 47,.t 50]) [47,50],omk 11 51]
def KJ:List RI:=[om 52 7,oo 53 (Ca 37 [.t 52,ci 5]) [52]]
def KI:List RI:=[on 73 (Bc .eql 53 0),omk 72 73]
def KH:List FI:=[Fs 0 74 (.lit 4 []),Fs 1 75 (Fa 2 8),Fs 2 76 (Ld 75),Fm 3 77 11,Fs 4 78 (.slcL 4 (.t 76) none (some (.t 77)) none),Fs 6 80 (Fa 2 8),Fs 7 81 (Ld 80),Fm 8 82 11,Fs 9 83 (Bc .add 82 1),Fs 10 84 (.slcL 4 (.t 81) (some (.t 83)) none none),Fz 5 79 (.app Zq0 64 (.t 74) (.t 78)),Fz 11 85 (.app Zq0 64 (.t 79) (.t 84)),Fs 12 86 (Fa 2 8),⟨13,false,⟨none,none,.store 1 (.t 86) (.t 85)⟩⟩]
def KG:List RI:=[on 88 (Bc .eql 53 1),omk 87 88]
def KF:List FI:=[Fs 0 89 (.lit 4 []),Fs 1 90 (Fa 2 8),Fs 2 91 (Ld 90),Fm 3 92 11,Fs 4 93 (.slcL 4 (.t 91) none (some (.t 92)) none),Fs 6 95 (Fa 2 8),Fs 7 96 (Ld 95),Fm 8 97 11,Fs 9 98 (Ia 4 96 97),Fs 10 99 (.load 4 true (.t 98)),Fs 11 100 (.lit 4 [.t 99]),Fs 13 102 (Fa 2 8),Fs 14 103 (Ld 102),Fm 15 104 11,Fs 16 105 (.slcL 4 (.t 103) (some (.t 104)) none none),Fz 5 94 (.app Zq0 64 (.t 89) (.t 93)),Fz 12 101 (.app Zq0 64 (.t 94) (.t 100)),Fz 17 106 (.app Zq0 64 (.t 101) (.t 105)),Fs 18 107 (Fa 2 8),⟨19,false,⟨none,none,.store 1 (.t 107) (.t 106)⟩⟩]
def KE:List RI:=[on 109 (Bc .eql 53 2),omk 108 109]
def KD:List RI:=[om 110 7,on 111 (Fa 2 8),oo 112 (Ld 111) [111],oo 113 (Ln 112) [112],oo 114 (Ca 37 [.t 110,.t 113]) [110,113],omk 12 114]
def KC:List RI:=[on 115 (.lit 4 []),on 116 (Fa 2 8),oo 117 (Ld 116) [116],.own (xs 118 (.app Zq0 64 (.t 115) (.t 117))) [115,117],on 119 (Fa 2 8),.op ⟨none,none,.store 1 (.t 119) (.t 118)⟩ [118,119]]
def KB:List FI:=[Fs 0 120 (Fa 2 8),Fs 1 121 (Ld 120),Fm 2 122 11,Fs 3 123 (Fa 2 8),Fs 4 124 (Ld 123),Fm 5 125 12,Fs 6 126 (Fa 2 8),Fs 7 127 (Ld 126),Fm 8 128 12,Fs 9 129 (Ia 4 127 128),Fs 10 130 (.load 4 true (.t 129)),Fs 11 131 (Fa 2 8),Fs 12 132 (Ld 131),Fm 13 133 11,Fs 14 134 (Ia 4 132 133),Fs 15 135 (.load 4 true (.t 134)),Fs 16 136 (Ia 4 121 122),⟨17,false,⟨none,none,.store 4 (.t 136) (.t 130)⟩⟩,Fs 18 137 (Ia 4 124 125),⟨19,false,⟨none,none,.store 4 (.t 137) (.t 135)⟩⟩]
def KA:List RI:=[oo 139 (Bc .eql 53 3) [53],omk 138 139]
def Kz:List FI:=[Fs 0 140 (.lit 4 []),Fs 1 141 (Fa 2 8),Fs 2 142 (Ld 141),Fm 3 143 11,Fs 4 144 (.slcL 4 (.t 142) none (some (.t 143)) none),Fm 6 146 7,Fm 7 147 1,Fs 11 151 (Fa 2 8),Fs 12 152 (Ld 151),Fm 13 153 11,Fs 14 154 (.slcL 4 (.t 152) (some (.t 153)) none none),Fz 5 145 (.app Zq0 64 (.t 140) (.t 144)),Fz 8 148 (Ca 38 [.t 146,.t 147]),Fs 9 149 (.lit 4 [.t 148]),Fz 10 150 (.app Zq0 64 (.t 145) (.t 149)),Fz 15 155 (.app Zq0 64 (.t 150) (.t 154)),Fs 16 156 (Fa 2 8),⟨17,false,⟨none,none,.store 1 (.t 156) (.t 155)⟩⟩]
def Ky:List FI:=[Fs 0 54 (.lit 4 []),Fs 1 55 (Fa 2 8),Fs 2 56 (Ld 55),Fm 3 57 11,Fs 4 58 (.slcL 4 (.t 56) none (some (.t 57)) none),Fm 6 60 1,Fs 12 66 (Fa 2 8),Fs 13 67 (Ld 66),Fm 14 68 11,Fs 15 69 (.slcL 4 (.t 67) (some (.t 68)) none none),Fz 5 59 (.app Zq0 64 (.t 54) (.t 58)),Fz 7 61 (.newB [(.c (.u8 110)),(.c (.u8 111)),(.c (.u8 116)),(.c (.u8 101))]),Fz 8 62 (.slid (.t 61)),Fz 9 63 (Ca 76 [ci 3,ci 5,.t 60,.t 62]),Fs 10 64 (.lit 4 [.t 63]),Fz 11 65 (.app Zq0 64 (.t 59) (.t 64)),Fz 16 70 (.app Zq0 64 (.t 65) (.t 69)),Fs 17 71 (Fa 2 8),⟨18,false,⟨none,none,.store 1 (.t 71) (.t 70)⟩⟩]
def Kx:List RI:=[omk 45 10,oo 46 (Bc .sub 45 1) [45],omk 10 46]
def zT:RC:=(.post (.seq (So xbR (Kc 44 (Kk [44] .skip) (Kk [1,7,10,44] (.exit 0)))) (.seq (.block 1 (So KK (So KJ (.block 2 (So KI (Kc 72 (Kk [53,72] (.flt [0,0,2,0,14,31,0,64,0,256,960,2047,4095,8191] [179,185] KH [11,74,75,76,77,78,79,80,81,82,83,84,85,86])) (Kk [72] (So KG (Kc 87 (Kk [53,87] (.flt [0,0,2,0,14,31,0,64,0,448,960,1984,4095,0,8192,0,57344,131071,262143,524287] [194,201,206] KF [11,89,90,91,92,93,94,95,96,97,98,99,100,101,102,103,104,105,106,107])) (Kk [87] (So KE (Kc 108 (Kk [53,108] (So KD (So KC (.flt [0,1,0,0,8,0,0,64,0,448,960,0,2048,0,14336,30720,65479,131015,262143,524287] [] KB [11,12,120,121,122,123,124,125,126,127,128,129,130,131,132,133,134,135,136,137])))) (Kk [108] (So KA (Kc 138 (Kk [138] (.flt [0,0,2,0,14,31,0,0,255,511,1023,0,2048,0,14336,32767,65535,131071] [245,250,255] Kz [11,140,141,142,143,144,145,146,147,148,149,150,151,152,153,154,155,156])) (Kk [138] (.fla [0,0,2,0,14,31,0,0,128,511,1023,2047,0,4096,0,28672,65535,131071,262143] [159,161,165,170] Ky [[0,1,2,3,4,6,12,13,14,15,5,7,8,9,10,11,16,17,18],[0,1,2,3,4,6,12,13,14,15,7,5,8,9,10,11,16,17,18],[0,1,2,3,4,6,12,13,14,15,7,8,5,9,10,11,16,17,18]] [11,54,55,56,57,58,59,60,61,62,63,64,65,66,67,68,69,70,71]))))))))))))))))) (.ops Kx))) [.pubo 218,.gc [159,165,170,179,185,194,201,206,218,245,250,255]])
def yW:RC:=zT
def Kw:List RI:=[oo 157 (.load 3 true (.t 8)) [8],.op ⟨none,none,.store 3 (.t 6) (.t 157)⟩ [157]]
def r36:RC:=(So xb0 (So xbZ (So xbY (.seq (So xbX (Kc 21 (Kk [21] (So xbW (So xbV .ret))) (Kk [21] .skip))) (.seq (.flt [0,1,3,7,0,16,48,112,255,511,1023] [] xbU [27,28,29,30,31,32,33,34,35,36]) (So xbT (.seq (So xbS (.block 0 (.loop yW))) (So Kw .ret))))))))
def F36:FnC:=⟨r36,158,[.cell 6 3 true],[],[]⟩
def xbQ:List RI:=[oo 4 (.mov (ci 0)) [4]]
def xbP:List FI:=[Fm 0 5 0,Fs 1 6 (.nchk (.t 5)),Fs 2 7 (Fa 1 6),Fs 3 8 (Ld 7),Fm 4 9 0,Fs 5 10 (.nchk (.t 9)),Fs 6 11 (Fa 0 10),Fs 7 12 (Ld 11),Fs 8 13 (Ln 12),Fs 9 14 (Bb .geq 8 13)]
def xbO:List RI:=[on 4 (.mov (ci 0))]
def xbN:List RI:=[om 15 0,on 16 (.nchk (.t 15)),oo 17 (Fa 1 16) [16],oo 18 (Ld 17) [17],oo 19 (Bc .add 18 1) [18],oo 20 (.nchk (.t 15)) [15],oo 21 (Fa 1 20) [20],.op ⟨none,none,.store 1 (.t 21) (.t 19)⟩ [19,21]]
def xbM:List FI:=[Fm 0 22 0,Fs 1 23 (.nchk (.t 22)),Fs 2 24 (Fa 0 23),Fs 3 25 (Ld 24),Fm 4 26 0,Fs 5 27 (.nchk (.t 26)),Fs 6 28 (Fa 1 27),Fs 7 29 (Ld 28),Fs 8 30 (Bc .sub 29 1),Fs 9 31 (Ia 1 25 30),Fs 10 32 (Ld 31),Fs 11 33 (.toInt .i64 (.t 32)),Fm 12 34 1,Fs 13 35 (Bb .rem 33 34),Fm 14 4 35]
def r37:RC:=(So xbQ (.seq (.seq (.flt [0,1,3,7,0,16,48,112,240,511] [] xbP [5,6,7,8,9,10,11,12,13]) (Kc 14 (Kk [0,1,14] (So xbO .ret)) (Kk [14] .skip))) (So xbN (.seq (.flt [0,1,3,7,0,16,48,112,240,511,1023,2047,0,8191,16383] [] xbM [0,1,22,23,24,25,26,27,28,29,30,31,32,33,34,35]) .ret))))
def F37:FnC:=⟨r37,36,[.tmp 4],[],[]⟩
def xbL:List RI:=[on 4 (.new (.rc Zq0))]
def xbK:List RI:=[om 9 0,oo 10 (Ca 86 [.t 9]) [9],omk 5 10]
def xbJ:List RI:=[om 11 0,oo 12 (Ca 37 [.t 11,ci 4]) [11],oo 13 (Bc .eql 12 3) [12]]
def xbI:List RI:=[omk 14 5,om 15 0,oo 16 (Ca 37 [.t 15,ci 2]) [15],oo 17 (.slcL 1 (.t 14) none (some (.t 16)) none) [14,16],omk 5 17]
def xbH:List RI:=[om 18 0,oo 19 (Ca 37 [.t 18,ci 5]) [18],oo 20 (.bin .add (ci 1) (.t 19)) [19],omk 6 20]
def xbG:List RI:=[on 21 (.lit 1 [ci 0,ci 0,ci 4,ci 8,ci 9,ci 9,ci 1,ci 11]),om 22 0,oo 23 (Ca 37 [.t 22,ci 8]) [22],oo 24 (Ia 1 21 23) [21,23],oo 25 (Ld 24) [24],omk 7 25]
def xbF:List RI:=[om 26 6,oo 27 (Bc .eql 26 2) [26],omk 28 27,.grp 28 true [(xi 29 28 true (Mv 0)),(xi 30 28 true (Ca 37 [.t 29,ci 4])),(xi 31 28 true (Bc .gtr 30 0))] [29,30],oo 32 (Pf 28 31) [28,31]]
def xbE:List RI:=[on 33 (.litB [(.c (.u8 0)),(.c (.u8 0)),(.c (.u8 0)),(.c (.u8 0))]),omk 5 33]
def xbD:List RI:=[om 34 0,oo 35 (Ca 37 [.t 34,ci 8]) [34],omk 7 35]
def xbC:List RI:=[omk 36 7,om 37 6,om 38 1,omk 39 5,oo 40 (Ca 76 [.t 36,.t 37,.t 38,.t 39]) [36,37,38,39],on 8 (.new (.rc Zq0)),.op ⟨none,none,.store 4 (.t 8) (.t 40)⟩ [40]]
def Kv:List RI:=[om 41 6,oo 42 (Bc .neq 41 5) [41],omk 43 42,.grp 43 true [(xi 44 43 true (Mv 0)),(xi 45 43 true (Ca 37 [.t 44,ci 4])),(xi 46 43 true (Bc .eql 45 3))] [44,45],oo 47 (Pf 43 46) [43,46]]
def Ku:List RI:=[omk 48 1,omk 49 0,oo 50 (Ca 37 [.t 49,ci 4]) [49],oo 51 (.toInt .u8 (.t 50)) [50],omk 52 6,oo 53 (.toInt .u8 (.t 52)) [52],oo 54 (.litB [.t 51,.t 53]) [51,53],oo 55 (Ca 87 [.t 48,.t 54]) [48,54],on 56 (Fa 2 8),.op ⟨none,none,.store 1 (.t 56) (.t 55)⟩ [55,56]]
def Kt:List RI:=[oo 57 (.load 4 true (.t 8)) [8],.op ⟨none,none,.store 4 (.t 4) (.t 57)⟩ [57]]
def r38:RC:=(So xbL (So xbK (.seq (So xbJ (Kc 13 (Kk [13] (.ops xbI)) (Kk [13] .skip))) (So xbH (So xbG (.seq (So xbF (Kc 32 (Kk [5,7,32] (So xbE (.ops xbD))) (Kk [32] .skip))) (So xbC (.seq (So Kv (Kc 47 (Kk [47] (.ops Ku)) (Kk [0,1,6,47] .skip))) (So Kt .ret)))))))))
def F38:FnC:=⟨r38,58,[.cell 4 4 true],[],[]⟩
def xbB:List RI:=[oo 3 (.box (.t 1)) [1],oo 4 (.mov (.c (.bool false))) [4]]
def xbA:List RI:=[on 6 (Fa 1 3),oo 7 (Ld 6) [6],oo 8 (Bc .eql 7 5) [7]]
def xbz:List RI:=[on 4 (.mov (.c (.bool true)))]
def xby:List RI:=[on 9 (.load 4 true (.t 3)),oo 10 (Ca 88 [.t 9]) [9],omk 5 10]
def xbx:List RI:=[om 12 5,oo 13 (Bc .eql 12 0) [12],omk 14 13,.grp 14 false [(xi 15 14 false (Mv 5)),(xi 16 14 false (Mv 0)),(xi 17 14 false (.nchk (.t 16))),(xi 18 14 false (Fa 0 17)),(xi 19 14 false (Ld 18)),(xi 20 14 false (Bb .lss 15 19))] [15,16,17,18,19],oo 21 (Pt 14 20) [14,20],omk 22 21,.grp 22 false [(xi 23 22 false (Mv 5)),(xi 24 22 false (Bc .gtr 23 1)),(xi 25 22 false (Mv 24))] [23,24],.grp 25 true [(xi 26 25 true (Mv 0)),(xi 27 25 true (.nchk (.t 26))),(xi 28 25 true (Fa 2 27)),(xi 29 25 true (.iaddrA 6 1 (.t 28) (ci 1))),(xi 30 25 true (Ld 29)),(xi 31 25 true (.un .not (.t 30)))] [26,27,28,29,30],.grp 22 false [(xi 32 22 false (Pf 25 31))] [25,31],oo 33 (Pt 22 32) [22,32],omk 11 33]
def xbw:List RI:=[on 4 (.mov (.c (.bool false)))]
def xbv:List FI:=[Fm 0 35 5,Fs 1 36 (Bc .eql 35 3),Fm 2 37 36,Fi 3 38 37 true (Fa 0 3),Fi 4 39 37 true (Ld 38),Fi 5 40 37 true (Mv 0),Fi 6 41 37 true (.nchk (.t 40)),Fi 7 42 37 true (Fa 1 41),Fi 8 43 37 true (Ld 42),Fi 9 44 37 true (Bb .neq 39 43),Fs 10 45 (Pf 37 44),Fm 11 34 45]
def xbu:List RI:=[on 4 (.mov (.c (.bool false)))]
def xbt:List RI:=[om 47 5,oo 48 (Bc .gtr 47 3) [47],omk 49 48,.grp 49 true [(xi 50 49 true (Mv 0)),(xi 51 49 true (.nchk (.t 50))),(xi 52 49 true (Fa 1 51)),(xi 53 49 true (Ld 52)),(xi 54 49 true (Bc .neq 53 8))] [50,51,52,53],oo 55 (Pf 49 54) [49,54],omk 46 55]
def xbs:List RI:=[on 4 (.mov (.c (.bool false)))]
def Ks:List RI:=[om 56 5,oo 57 (Bc .eql 56 3) [56]]
def Kr:List RI:=[om 58 0,on 59 (.nchk (.t 58)),oo 60 (Fa 1 59) [59],oo 61 (Ld 60) [60],oo 62 (Bc .add 61 1) [61],oo 63 (.nchk (.t 58)) [58],oo 64 (Fa 1 63) [63],.op ⟨none,none,.store 1 (.t 64) (.t 62)⟩ [62,64]]
def Kq:List FI:=[Fm 0 65 0,Fm 1 66 0,Fm 2 67 5,Fm 3 68 5,Fs 4 69 (.nchk (.t 65)),Fs 5 70 (Fa 0 69),Fs 7 71 (.nchk (.t 66)),Fs 8 72 (Fa 2 71),⟨6,false,⟨none,none,.store 1 (.t 70) (.t 68)⟩⟩,Fs 9 73 (.iaddrA 6 1 (.t 72) (.t 67)),⟨10,false,⟨none,none,.store 1 (.t 73) (.c (.bool true))⟩⟩]
def Kp:List RI:=[on 4 (.mov (.c (.bool true)))]
def r39:RC:=(So xbB (.seq (So xbA (Kc 8 (Kk [0,3,8] (So xbz .ret)) (Kk [8] .skip))) (So xby (.seq (.block 0 (So xbx (Kc 11 (Kk [0,3,5,11] (So xbw .ret)) (Kk [11] (.seq (.flt [0,1,3,7,15,7,39,103,231,511,1023,2047] [] xbv [3,35,36,37,38,39,40,41,42,43,44,45]) (Kc 34 (Kk [0,5,34] (So xbu .ret)) (Kk [34] (So xbt (Kc 46 (Kk [0,5,46] (So xbs .ret)) (Kk [46] .skip)))))))))) (.seq (So Ks (Kc 57 (Kk [57] (.ops Kr)) (Kk [57] .skip))) (.seq (.flt [0,0,0,0,9,25,57,2,130,511,1023] [] Kq [0,5,65,66,67,68,69,70,71,72,73]) (So Kp .ret)))))))
def F39:FnC:=⟨r39,74,[.tmp 4],[],[]⟩
def xbr:List RI:=[oo 2 (.box (.t 0)) [0],on 4 (.new (.rc [.int .i64 0,.int .i64 0])),oo 5 (.mov (.c (.bool false))) [5]]
def xbq:List RI:=[on 9 (Fa 1 2),oo 10 (Ld 9) [9],oo 11 (Bc .eql 10 5) [10],omk 12 11,.grp 12 false [(xi 13 12 false (Fa 1 2)),(xi 14 12 false (Ld 13)),(xi 15 12 false (Bc .eql 14 2)),(xi 16 12 false (Mv 15))] [13,14,15],.grp 16 true [(xi 17 16 true (.load 4 true (.t 2))),(xi 18 16 true (Ca 50 [.t 17]))] [17],.grp 12 false [(xi 19 12 false (Pf 16 18))] [16,18],oo 20 (Pt 12 19) [12,19]]
def xbp:List RI:=[on 21 (.build [.int .i64 0,.int .i64 0] [(0,1,(ci (-1))),(1,1,(ci (-1)))]),.op ⟨none,none,.store 2 (.t 4) (.t 21)⟩ [21],on 5 (.mov (.c (.bool true)))]
def xbo:List RI:=[omk 22 1,on 23 (Ln 22),on 24 (.mov (ci 0))]
def xbn:List RI:=[on 25 (Bb .lss 24 23)]
def xbm:List RI:=[om 26 24,on 27 (Ia 7 22 24),oo 28 (.load 7 true (.t 27)) [27],on 7 (.new (.rc Zq3)),omk 6 26,.op ⟨none,none,.store 7 (.t 7) (.t 28)⟩ [28]]
def xbl:List RI:=[oo 29 (.load 7 true (.t 7)) [7],on 30 (.load 4 true (.t 2)),oo 31 (Ca 15 [.t 29,.t 30]) [29,30],omk 8 31]
def xbk:List RI:=[om 32 8,oo 33 (Bc .geq 32 0) [32]]
def xbj:List RI:=[omk 34 6,omk 35 8,oo 36 (.build [.int .i64 0,.int .i64 0] [(0,1,(.t 34)),(1,1,(.t 35))]) [34,35],.op ⟨none,none,.store 2 (.t 4) (.t 36)⟩ [36],on 5 (.mov (.c (.bool true)))]
def xbi:List RI:=[oo 37 (Bc .add 24 1) [24],omk 24 37]
def zS:RC:=(.post (So xbn (.seq (Kc 25 (Kk [25] .skip) (Kk [2,22,23,24,25] (.exit 0))) (.seq (.block 1 (So xbm (So xbl (So xbk (Kc 33 (Kk [2,22,23,24,33] (So xbj .ret)) (Kk [6,8,33] .skip)))))) (.ops xbi)))) [.gc [107]])
def uG:RC:=zS
def Ko:List RI:=[on 38 (.build [.int .i64 0,.int .i64 0] []),.op ⟨none,none,.store 2 (.t 4) (.t 38)⟩ [38],on 5 (.mov (.c (.bool false)))]
def r40:RC:=(So xbr (.seq (So xbq (Kc 20 (Kk [1,2,20] (So xbp .ret)) (Kk [20] .skip))) (.seq (So xbo (.block 0 (.loop uG))) (So Ko .ret))))
def F40:FnC:=⟨r40,39,[.cell 4 2 true,.tmp 5],[],[]⟩
def xbh:List RI:=[oo 2 (.box (.t 0)) [0],on 4 (.new (.rc [.int .i64 0,.int .i64 0])),oo 5 (.mov (.c (.bool false))) [5]]
def xbg:List RI:=[on 8 (Fa 1 2),oo 9 (Ld 8) [8],oo 10 (Bc .eql 9 5) [9],omk 11 10,.grp 11 false [(xi 12 11 false (Fa 1 2)),(xi 13 11 false (Ld 12)),(xi 14 11 false (Bc .eql 13 2)),(xi 15 11 false (Mv 14))] [12,13,14],.grp 15 true [(xi 16 15 true (.load 4 true (.t 2))),(xi 17 15 true (Ca 57 [.t 16]))] [16],.grp 11 false [(xi 18 11 false (Pf 15 17))] [15,17],oo 19 (Pt 11 18) [11,18]]
def xbf:List RI:=[on 20 (.build [.int .i64 0,.int .i64 0] [(0,1,(ci (-1))),(1,1,(ci (-1)))]),.op ⟨none,none,.store 2 (.t 4) (.t 20)⟩ [20],on 5 (.mov (.c (.bool true)))]
def xbe:List RI:=[on 6 (.mov (ci 0))]
def xbd:List RI:=[om 21 6,om 22 1,oo 23 (Ln 22) [22],oo 24 (Bb .lss 21 23) [21,23]]
def xbc:List FI:=[Fm 0 27 1,Fm 1 28 6,Fs 2 29 (Ia 7 27 28),Fs 3 30 (.load 7 true (.t 29)),Fs 4 31 (.load 4 true (.t 2)),Fz 5 32 (Ca 19 [.t 30,.t 31]),Fm 6 7 32]
def xbb:List RI:=[om 33 7,oo 34 (Bc .geq 33 0) [33]]
def xba:List RI:=[omk 35 6,omk 36 7,oo 37 (.build [.int .i64 0,.int .i64 0] [(0,1,(.t 35)),(1,1,(.t 36))]) [35,36],.op ⟨none,none,.store 2 (.t 4) (.t 37)⟩ [37],on 5 (.mov (.c (.bool true)))]
def xa9:List RI:=[omk 25 6,oo 26 (Bc .add 25 1) [25],omk 6 26]
def RK:RC:=(.seq (So xbd (Kc 24 (Kk [24] .skip) (Kk [1,2,6,24] (.exit 0)))) (.seq (.block 1 (.seq (.flt [0,0,3,7,0,31,63] [] xbc [27,28,29,30,31,32]) (So xbb (Kc 34 (Kk [1,2,34] (So xba .ret)) (Kk [7,34] .skip))))) (.ops xa9)))
def EV:RC:=RK
def Kn:List RI:=[on 38 (.build [.int .i64 0,.int .i64 0] []),.op ⟨none,none,.store 2 (.t 4) (.t 38)⟩ [38],on 5 (.mov (.c (.bool false)))]
def r41:RC:=(So xbh (.seq (So xbg (Kc 19 (Kk [1,2,19] (So xbf .ret)) (Kk [19] .skip))) (.seq (So xbe (.block 0 (.loop EV))) (So Kn .ret))))
def F41:FnC:=⟨r41,39,[.cell 4 2 true,.tmp 5],[],[]⟩
def xa8:List RI:=[oo 1 (.box (.t 0)) [0],oo 2 (.mov (ci 0)) [2]]
def xa7:List RI:=[on 4 (Fa 1 1),oo 5 (Ld 4) [4],oo 6 (Bc .eql 5 5) [5],omk 3 6]
def xa6:List RI:=[on 2 (.mov (ci 0))]
def xa5:List RI:=[on 8 (Fa 1 1),oo 9 (Ld 8) [8],oo 10 (Bc .eql 9 1) [9],omk 11 10,.grp 11 true [(xi 12 11 true (Fa 0 1)),(xi 13 11 true (Ld 12)),(xi 14 11 true (Bc .eql 13 0))] [12,13],oo 15 (Pf 11 14) [11,14],omk 7 15]
def xa4:List RI:=[on 2 (.mov (ci 1))]
def xa3:List RI:=[on 17 (Fa 1 1),oo 18 (Ld 17) [17],oo 19 (Bc .eql 18 1) [18],omk 20 19,.grp 20 true [(xi 21 20 true (Fa 0 1)),(xi 22 20 true (Ld 21)),(xi 23 20 true (Bc .eql 22 4))] [21,22],oo 24 (Pf 20 23) [20,23],omk 16 24]
def xa2:List RI:=[on 2 (.mov (ci 2))]
def xa1:List RI:=[on 26 (Fa 1 1),oo 27 (Ld 26) [26],oo 28 (Bc .eql 27 2) [27],omk 29 28,.grp 29 true [(xi 30 29 true (Fa 0 1)),(xi 31 29 true (Ld 30)),(xi 32 29 true (Bc .leq 31 7))] [30,31],oo 33 (Pf 29 32) [29,32],omk 25 33]
def xa0:List RI:=[on 2 (.mov (ci 3))]
def xaZ:List RI:=[on 35 (Fa 1 1),oo 36 (Ld 35) [35],oo 37 (Bc .eql 36 1) [36],omk 38 37,.grp 38 true [(xi 39 38 true (Fa 0 1)),(xi 40 38 true (Ld 39)),(xi 41 38 true (Bc .eql 40 8))] [39,40],oo 42 (Pf 38 41) [38,41],omk 34 42]
def Km:List RI:=[on 2 (.mov (ci 4))]
def Kj:List RI:=[on 44 (Fa 1 1),oo 45 (Ld 44) [44],oo 46 (Bc .eql 45 3) [45],omk 47 46,.grp 47 true [(xi 48 47 true (Fa 0 1)),(xi 49 47 true (Ld 48)),(xi 50 47 true (Bc .eql 49 9))] [1,48,49],oo 51 (Pf 47 50) [47,50],omk 43 51]
def Ki:List RI:=[on 2 (.mov (ci 5))]
def Kh:List RI:=[on 2 (.mov (ci (-1)))]
def r42:RC:=(So xa8 (.seq (.block 0 (So xa7 (Kc 3 (Kk [1,3] (So xa6 .ret)) (Kk [3] (So xa5 (Kc 7 (Kk [1,7] (So xa4 .ret)) (Kk [7] (So xa3 (Kc 16 (Kk [1,16] (So xa2 .ret)) (Kk [16] (So xa1 (Kc 25 (Kk [1,25] (So xa0 .ret)) (Kk [25] (So xaZ (Kc 34 (Kk [1,34] (So Km .ret)) (Kk [34] (So Kj (Kc 43 (Kk [43] (So Ki .ret)) (Kk [43] .skip))))))))))))))))))) (So Kh .ret)))
def F42:FnC:=⟨r42,52,[.tmp 2],[],[]⟩
def xaY:List RI:=[oo 4 (.mov (.c (.bool false))) [4]]
def xaX:List RI:=[om 6 0,oo 7 (Ln 6) [6],om 8 1,oo 9 (Ln 8) [8],oo 10 (Bb .neq 7 9) [7,9]]
def xaW:List RI:=[on 4 (.mov (.c (.bool false)))]
def xaV:List RI:=[on 5 (.mov (ci 0))]
def xaU:List RI:=[om 11 5,om 12 0,oo 13 (Ln 12) [12],oo 14 (Bb .lss 11 13) [11,13]]
def xaT:List FI:=[Fm 0 17 0,Fm 1 18 5,Fs 2 19 (Ia 2 17 18),Fs 3 20 (.load 2 true (.t 19)),Fm 4 21 1,Fm 5 22 5,Fs 6 23 (Ia 2 21 22),Fs 7 24 (.load 2 true (.t 23)),Fs 8 25 (.eqS true [1,1] (.t 20) (.t 24))]
def xaS:List RI:=[on 4 (.mov (.c (.bool false)))]
def xaR:List RI:=[omk 15 5,oo 16 (Bc .add 15 1) [15],omk 5 16]
def RJ:RC:=(.seq (So xaU (Kc 14 (Kk [14] .skip) (Kk [0,1,5,14] (.exit 0)))) (.seq (.block 1 (.seq (.flt [0,0,3,7,0,0,48,112,255] [] xaT [17,18,19,20,21,22,23,24]) (Kc 25 (Kk [0,1,5,25] (So xaS .ret)) (Kk [25] .skip)))) (.ops xaR)))
def Rl:RC:=RJ
def xaQ:List RI:=[on 4 (.mov (.c (.bool true)))]
def r43:RC:=(So xaY (.seq (So xaX (Kc 10 (Kk [0,1,10] (So xaW .ret)) (Kk [10] .skip))) (.seq (So xaV (.block 0 (.loop Rl))) (So xaQ .ret))))
def F43:FnC:=⟨r43,26,[.tmp 4],[],[]⟩
def xaP:List RI:=[oo 1 (.box (.t 0)) [0],oo 2 (.mov (ci 0)) [2]]
def xaO:List RI:=[on 9 (Fa 0 1),oo 10 (Ld 9) [9],oo 11 (Ca 89 [.t 10]) [10],oo 12 (.un .not (.t 11)) [11],omk 8 12]
def xaN:List RI:=[on 2 (.mov (ci 43))]
def xaM:List RI:=[on 14 (Fa 2 1),oo 15 (Ld 14) [14],oo 16 (Bc .lss 15 0) [15],omk 17 16,.grp 17 false [(xi 18 17 false (Fa 2 1)),(xi 19 17 false (Ld 18)),(xi 20 17 false (Fa 1 1)),(xi 21 17 false (Ld 20)),(xi 22 17 false (Bb .gtr 19 21))] [18,19,20,21],oo 23 (Pt 17 22) [17,22],omk 24 23,.grp 24 false [(xi 25 24 false (Fa 1 1)),(xi 26 24 false (Ld 25)),(xi 27 24 false (Bc .gtr 26 1000000))] [25,26],oo 28 (Pt 24 27) [24,27],omk 29 28,.grp 29 false [(xi 30 29 false (Fa 3 1)),(xi 31 29 false (Ld 30)),(xi 32 29 false (Bc .lss 31 0))] [30,31],oo 33 (Pt 29 32) [29,32],omk 34 33,.grp 34 false [(xi 35 34 false (Fa 3 1)),(xi 36 34 false (Ld 35)),(xi 37 34 false (Fa 4 1)),(xi 38 34 false (Ld 37)),(xi 39 34 false (Bb .geq 36 38))] [35,36,37,38],oo 40 (Pt 34 39) [34,39],omk 41 40,.grp 41 false [(xi 42 41 false (Fa 4 1)),(xi 43 41 false (Ld 42)),(xi 44 41 false (Bc .gtr 43 1099511627776))] [42,43],oo 45 (Pt 41 44) [41,44],omk 13 45]
def xaL:List RI:=[on 2 (.mov (ci 1))]
def xaK:List RI:=[on 47 (Fa 5 1),oo 48 (Ld 47) [47],oo 49 (Ln 48) [48],oo 50 (Bc .gtr 49 16) [49],omk 51 50,.grp 51 false [(xi 52 51 false (Fa 6 1)),(xi 53 51 false (Ld 52)),(xi 54 51 false (Ln 53)),(xi 55 51 false (Bc .gtr 54 8))] [52,53,54],oo 56 (Pt 51 55) [51,55],omk 46 56]
def xaJ:List RI:=[on 2 (.mov (ci 4))]
def xaI:List RI:=[on 57 (Fa 5 1),oo 58 (Ld 57) [57],on 59 (Ln 58),on 60 (.mov (ci 0))]
def xaH:List RI:=[on 61 (Bb .lss 60 59)]
def xaG:List RI:=[om 62 60,on 63 (Ia 4 58 60),oo 64 (.load 4 true (.t 63)) [63],on 4 (.new (.rc Zq1)),omk 3 62,.op ⟨none,none,.store 4 (.t 4) (.t 64)⟩ [64]]
def Kg:List RI:=[on 66 (Fa 0 4),oo 67 (Ld 66) [66],oo 68 (Bc .lss 67 1) [67],omk 69 68,.grp 69 false [(xi 70 69 false (Fa 0 4)),(xi 71 69 false (Ld 70)),(xi 72 69 false (Bc .gtr 71 3))] [70,71],oo 73 (Pt 69 72) [69,72],omk 74 73,.grp 74 false [(xi 75 74 false (Fa 2 4)),(xi 76 74 false (Ld 75)),(xi 77 74 false (Bc .lss 76 0))] [75,76],oo 78 (Pt 74 77) [74,77],omk 79 78,.grp 79 false [(xi 80 79 false (Fa 2 4)),(xi 81 79 false (Ld 80)),(xi 82 79 false (Bc .gtr 81 1000000))] [80,81],oo 83 (Pt 79 82) [79,82],omk 84 83,.grp 84 false [(xi 85 84 false (Fa 3 4)),(xi 86 84 false (Ld 85)),(xi 87 84 false (Ln 86)),(xi 88 84 false (Bc .neq 87 32))] [85,86,87],oo 89 (Pt 84 88) [84,88],omk 65 89]
def Kf:List RI:=[on 2 (.mov (ci 1))]
def Ke:List RI:=[on 91 (Fa 1 4),oo 92 (Ld 91) [91],oo 93 (Ca 89 [.t 92]) [92],oo 94 (.un .not (.t 93)) [93],omk 90 94]
def Kd:List RI:=[on 2 (.mov (ci 43))]
def Kb:List FI:=[Fm 0 96 3,Fs 1 97 (Bc .gtr 96 0),Fm 2 98 97,Fi 3 99 98 true (Fa 5 1),Fi 4 100 98 true (Ld 99),Fi 5 101 98 true (Mv 3),Fi 6 102 98 true (Bc .sub 101 1),Fi 7 103 98 true (Ia 4 100 102),Fi 8 104 98 true (.load 4 true (.t 103)),Fi 9 105 98 true (.load 4 true (.t 4)),⟨10,false,(xi 106 98 true (Ca 72 [.t 104,.t 105]))⟩,Fi 11 107 98 true (Bc .geq 106 0),Fs 12 108 (Pf 98 107),Fm 13 95 108]
def Ka:List RI:=[on 2 (.mov (ci 41))]
def J9:List RI:=[oo 109 (Bc .add 60 1) [60],omk 60 109]
def zR:RC:=(.post (So xaH (.seq (Kc 61 (Kk [61] .skip) (Kk [58,59,60,61] (.exit 1))) (.seq (.block 2 (So xaG (.block 3 (So Kg (Kc 65 (Kk [1,3,4,58,59,60,65] (So Kf .ret)) (Kk [65] (So Ke (Kc 90 (Kk [1,3,4,58,59,60,90] (So Kd .ret)) (Kk [90] (.seq (.flt [0,1,3,7,15,7,39,127,255,7,1023,2047,4095,8191] [] Kb [3,4,96,97,98,99,100,101,102,103,104,105,106,107,108]) (Kc 95 (Kk [1,58,59,60,95] (So Ka .ret)) (Kk [95] .skip)))))))))))) (.ops J9)))) [.gc [104]])
def my:RC:=zR
def J8:List RI:=[oo 110 (Fa 6 1) [1],oo 111 (Ld 110) [110],on 112 (Ln 111),on 113 (.mov (ci 0))]
def J7:List RI:=[on 114 (Bb .lss 113 112)]
def J6:List RI:=[on 115 (Ia 4 111 113),oo 116 (.load 4 true (.t 115)) [115],on 6 (.new (.rc Zq4)),.op ⟨none,none,.store 4 (.t 6) (.t 116)⟩ [116]]
def J5:List RI:=[oo 117 (.load 4 true (.t 6)) [6],oo 118 (Ca 90 [.t 117]) [117],omk 7 118]
def J4:List RI:=[om 119 7,oo 120 (Bc .neq 119 0) [119]]
def J3:List RI:=[omk 121 7,omk 2 121]
def J2:List RI:=[oo 122 (Bc .add 113 1) [113],omk 113 122]
def zQ:RC:=(.post (So J7 (.seq (Kc 114 (Kk [114] .skip) (Kk [111,112,113,114] (.exit 4))) (.seq (.block 5 (So J6 (So J5 (So J4 (Kc 120 (Kk [111,112,113,120] (So J3 .ret)) (Kk [7,120] .skip)))))) (.ops J2)))) [.gc [106]])
def uF:RC:=zQ
def J1:List RI:=[on 2 (.mov (ci 0))]
def r44:RC:=(So xaP (.seq (.block 0 (So xaO (Kc 8 (Kk [1,8] (So xaN .ret)) (Kk [8] (So xaM (Kc 13 (Kk [1,13] (So xaL .ret)) (Kk [13] (So xaK (Kc 46 (Kk [1,46] (So xaJ .ret)) (Kk [46] .skip)))))))))) (.seq (So xaI (.block 1 (.loop my))) (.seq (So J8 (.block 4 (.loop uF))) (So J1 .ret)))))
def F44:FnC:=⟨r44,123,[.tmp 2],[],[]⟩
def xaF:List RI:=[oo 4 (.mov (ci 0)) [4]]
def xaE:List RI:=[om 6 0,oo 7 (Ln 6) [6],on 8 (.mov (ci 0))]
def xaD:List RI:=[on 9 (Bb .lss 8 7)]
def xaC:List RI:=[om 10 8,omk 5 10]
def xaB:List RI:=[om 11 1,om 12 0,om 13 5,oo 14 (Ia 4 12 13) [12,13],oo 15 (.load 4 true (.t 14)) [14],oo 16 (.call (.t 11) [.t 15]) [11,15]]
def xaA:List RI:=[omk 17 5,omk 4 17]
def xaz:List RI:=[oo 18 (Bc .add 8 1) [8],omk 8 18]
def RH:RC:=(So xaD (.seq (Kc 9 (Kk [9] .skip) (Kk [0,1,7,8,9] (.exit 0))) (.seq (.block 1 (So xaC (So xaB (Kc 16 (Kk [0,1,7,8,16] (So xaA .ret)) (Kk [5,16] .skip))))) (.ops xaz))))
def Rk:RC:=RH
def xay:List RI:=[on 4 (.mov (ci (-1)))]
def r45:RC:=(So xaF (.seq (So xaE (.block 0 (.loop Rk))) (So xay .ret)))
def F45:FnC:=⟨r45,19,[.tmp 4],[],[]⟩
def xax:List RI:=[oo 2 (.box (.t 0)) [0],oo 3 (.mov (.c (.bool false))) [3]]
def xaw:List FI:=[Fs 0 4 (Fa 0 1),Fs 1 5 (Ld 4),Fs 2 6 (Fa 0 2),Fs 3 7 (Ld 6),Fz 4 8 (Ca 47 [.t 7]),Fs 5 9 (Bb .eql 5 8),Fm 6 10 9,Fi 7 11 10 true (Fa 2 1),Fi 8 12 10 true (Ld 11),Fi 9 13 10 true (Ln 12),Fi 10 14 10 true (Bc .gtr 13 1),Fs 11 15 (Pf 10 14),Fm 12 16 15,Fi 13 17 16 true (Fa 2 1),Fi 14 18 16 true (Ld 17),Fi 15 19 16 true (.iaddrL 1 (.t 18) (ci 1)),Fi 16 20 16 true (Ld 19),Fi 17 21 16 true (Fa 3 2),Fi 18 22 16 true (Ld 21),⟨19,false,(xi 23 16 true (Ca 48 [.t 20,.t 22]))⟩,Fs 20 24 (Pf 16 23),Fm 21 25 24,Fi 22 26 25 true (Fa 3 1),Fi 23 27 25 true (Ld 26),Fi 24 28 25 true (.b2s (.t 27)),Fi 25 29 25 true (Fa 1 2),Fi 26 30 25 true (Ld 29),Fi 27 31 25 true (.bin .add (.t 30) (.c (.str [32]))),Fi 28 32 25 true (Fa 2 2),Fi 29 33 25 true (Ld 32),⟨30,false,(xi 34 25 true (Ca 49 [.t 33]))⟩,Fi 31 35 25 true (Bb .add 31 34),Fi 32 36 25 true (Bb .eql 28 35),Fs 33 37 (Pf 25 36),Fm 34 3 37]
def r46:RC:=(So xax (.seq (.flt [0,1,0,4,12,31,63,127,255,511,1023,2047,4095,8191,16383,32767,65535,8191,139263,524287,1048575,2097151,4194303,8388607,16777215,4194303,37748735,104857599,4194303,272629759,809500671,2118123519,4294967295,8589934591,17179869183] [] xaw [1,2,4,5,6,7,8,9,10,11,12,13,14,15,16,17,18,19,20,21,22,23,24,25,26,27,28,29,30,31,32,33,34,35,36,37]) .ret))
def F46:FnC:=⟨r46,38,[.tmp 3],[],[]⟩
def xav:List RI:=[oo 2 (.mov (ci 0)) [2]]
def xau:List RI:=[om 3 0,oo 4 (Bc .lss 3 0) [3],omk 5 4,.grp 5 false [(xi 6 5 false (Mv 0)),(xi 7 5 false (Bc .geq 6 5))] [6],oo 8 (Pt 5 7) [5,7]]
def xat:List RI:=[on 2 (.mov (ci (-1)))]
def xas:List RI:=[omk 9 0,oo 10 (.iaddrA 5 1 (.c (.pp pY)) (.t 9)) [9],oo 11 (Ld 10) [10],omk 2 11]
def r47:RC:=(So xav (.seq (So xau (Kc 8 (Kk [0,8] (So xat .ret)) (Kk [8] .skip))) (So xas .ret)))
def F47:FnC:=⟨r47,12,[.tmp 2],[],[]⟩
def xar:List RI:=[oo 4 (.mov (.c (.bool false))) [4]]
def xaq:List RI:=[omk 5 0,oo 6 (.b2s (.t 5)) [5],omk 7 1,oo 8 (.b2s (.t 7)) [7],oo 9 (Bb .eql 6 8) [6,8],omk 4 9]
def r48:RC:=(So xar (So xaq .ret))
def F48:FnC:=⟨r48,10,[.tmp 4],[],[]⟩
def xap:List RI:=[oo 2 (.mov (.c (.str []))) [2]]
def xao:List RI:=[omk 3 0,oo 4 (Ca 91 [.t 3]) [3],omk 2 4]
def r49:RC:=(So xap (So xao .ret))
def F49:FnC:=⟨r49,5,[.tmp 2],[],[]⟩
def xab:List RI:=[oo 1 (.box (.t 0)) [0],oo 2 (.mov (.c (.bool false))) [2]]
def xaa:List RI:=[on 8 (Fa 1 1),oo 9 (Ld 8) [8],oo 10 (Bc .neq 9 1) [9],omk 11 10,.grp 11 true [(xi 12 11 true (Fa 1 1)),(xi 13 11 true (Ld 12)),(xi 14 11 true (Bc .neq 13 5))] [12,13],oo 15 (Pf 11 14) [11,14],omk 3 15]
def Z9:List RI:=[on 16 (Fa 1 1),oo 17 (Ld 16) [16]]
def Z8:List RI:=[on 19 (Bc .eql 17 1),omk 18 19]
def Z7:List RI:=[on 2 (.mov (.c (.bool true)))]
def Z6:List RI:=[on 21 (Bc .eql 17 2),omk 20 21]
def Z5:List FI:=[Fs 0 22 (Fa 3 1),Fs 1 23 (Ld 22),Fz 2 24 (.mkB (ci 4) (ci 4)),Fz 3 25 (Ca 48 [.t 23,.t 24]),Fs 4 26 (.un .not (.t 25))]
def Z4:List RI:=[on 2 (.mov (.c (.bool false)))]
def Z3:List RI:=[on 28 (Bc .eql 17 3),omk 27 28]
def Z2:List RI:=[on 29 (Fa 3 1),oo 30 (Ld 29) [29],oo 31 (Ln 30) [30],oo 32 (Bc .eql 31 0) [31]]
def J0:List RI:=[on 2 (.mov (.c (.bool false)))]
def JZ:List RI:=[on 33 (Fa 3 1),oo 34 (Ld 33) [33],on 35 (Ln 34),on 36 (.mov (ci 0))]
def JY:List RI:=[on 37 (Bb .lss 36 35)]
def JX:List RI:=[on 38 (Ia 1 34 36),oo 39 (Ld 38) [38],omk 5 39]
def JW:List RI:=[om 40 5,oo 41 (.bin .lss (.t 40) (.c (.u8 32))) [40],omk 42 41,.grp 42 false [(xi 43 42 false (Mv 5)),(xi 44 42 false (.bin .gtr (.t 43) (.c (.u8 126))))] [5,43],oo 45 (Pt 42 44) [42,44]]
def JV:List RI:=[on 2 (.mov (.c (.bool false)))]
def JU:List RI:=[oo 46 (Bc .add 36 1) [36],omk 36 46]
def zP:RC:=(So JY (.seq (Kc 37 (Kk [37] .skip) (Kk [34,35,36,37] (.exit 1))) (.seq (.block 2 (So JX (So JW (Kc 45 (Kk [1,3,34,35,36,45] (So JV .ret)) (Kk [45] .skip))))) (.ops JU))))
def yV:RC:=zP
def JT:List RI:=[on 48 (Bc .eql 17 4),omk 47 48]
def JS:List RI:=[oo 49 (Bc .eql 17 5) [17],omk 47 49]
def JR:List RI:=[on 2 (.mov (.c (.bool false)))]
def JQ:List RI:=[on 50 (Fa 2 1),oo 51 (Ld 50) [50],oo 52 (Ln 51) [51],oo 53 (.mini (.t 52) (ci 2)) [52],on 54 (.mov (ci 0))]
def JP:List RI:=[on 55 (Bb .lss 54 53)]
def JO:List RI:=[om 56 54,omk 6 56]
def JN:List RI:=[on 57 (Fa 2 1),oo 58 (Ld 57) [57],om 59 6,oo 60 (Ia 1 58 59) [58,59],oo 61 (Ld 60) [60],omk 7 61]
def JM:List RI:=[om 62 7,oo 63 (Ln 62) [62],oo 64 (Bc .gtr 63 0) [63],omk 65 64,.grp 65 true [(xi 66 65 true (Mv 3)),(xi 67 65 true (.un .not (.t 66))),(xi 68 65 true (Mv 67))] [66,67],.grp 68 false [(xi 69 68 false (Mv 7)),(xi 70 68 false (Mv 6)),(xi 71 68 false (Fa 3 1)),(xi 72 68 false (Ld 71)),(xi 73 68 false (Ca 69 [.t 70,.t 72])),(xi 74 68 false (Ca 48 [.t 69,.t 73])),(xi 75 68 false (.un .not (.t 74)))] [6,7,69,70,71,72,73,74],.grp 65 true [(xi 76 65 true (Pt 68 75))] [68,75],oo 77 (Pf 65 76) [65,76]]
def JL:List RI:=[on 2 (.mov (.c (.bool false)))]
def JK:List RI:=[oo 78 (Bc .add 54 1) [54],omk 54 78]
def zO:RC:=(So JP (.seq (Kc 55 (Kk [55] .skip) (Kk [1,3,53,54,55] (.exit 3))) (.seq (.block 4 (So JO (So JN (So JM (Kc 77 (Kk [1,3,53,54,77] (So JL .ret)) (Kk [77] .skip)))))) (.ops JK))))
def yU:RC:=zO
def JJ:List RI:=[on 2 (.mov (.c (.bool true)))]
def r50:RC:=(So xab (So xaa (.seq (So Z9 (.block 0 (So Z8 (Kc 18 (Kk [1,3,17,18] (So Z7 .ret)) (Kk [18] (So Z6 (Kc 20 (Kk [17,20] (.seq (.flt [0,1,0,7,15] [124] Z5 [22,23,24,25]) (Kc 26 (Kk [1,3,26] (So Z4 .ret)) (Kk [26] .skip)))) (Kk [20] (So Z3 (Kc 27 (Kk [17,27] (.seq (So Z2 (Kc 32 (Kk [1,3,32] (So J0 .ret)) (Kk [32] .skip))) (So JZ (.block 1 (.loop yV))))) (Kk [27] (.seq (So JT (Kc 47 (Kk [17] .skip) (Kk [47] (.ops JS)))) (Kc 47 (Kk [47] .skip) (Kk [1,3,47] (So JR .ret))))))))))))))) (.seq (So JQ (.block 3 (.loop yU))) (So JJ .ret)))))
def F50:FnC:=⟨r50,79,[.tmp 2],[],[]⟩
def Z1:List RI:=[oo 4 (.mov (ci 0)) [4]]
def Z0:List RI:=[om 6 0,oo 7 (Ln 6) [6],on 8 (.mov (ci 0))]
def ZZ:List RI:=[on 9 (Bb .lss 8 7)]
def ZY:List RI:=[om 10 8,omk 5 10]
def ZX:List RI:=[om 11 1,om 12 0,om 13 5,oo 14 (Ia 4 12 13) [12,13],oo 15 (.load 4 true (.t 14)) [14],oo 16 (.call (.t 11) [.t 15]) [11,15]]
def ZW:List RI:=[omk 17 5,omk 4 17]
def ZV:List RI:=[oo 18 (Bc .add 8 1) [8],omk 8 18]
def RE:RC:=(So ZZ (.seq (Kc 9 (Kk [9] .skip) (Kk [0,1,7,8,9] (.exit 0))) (.seq (.block 1 (So ZY (So ZX (Kc 16 (Kk [0,1,7,8,16] (So ZW .ret)) (Kk [5,16] .skip))))) (.ops ZV))))
def Rh:RC:=RE
def ZU:List RI:=[on 4 (.mov (ci (-1)))]
def r51:RC:=(So Z1 (.seq (So Z0 (.block 0 (.loop Rh))) (So ZU .ret)))
def F51:FnC:=⟨r51,19,[.tmp 4],[],[]⟩
def ZT:List RI:=[oo 2 (.box (.t 0)) [0],oo 3 (.mov (.c (.bool false))) [3]]
def ZS:List RI:=[oo 4 (.load 4 true (.t 2)) [2],oo 5 (Fa 3 1) [1],oo 6 (Ld 5) [5],oo 7 (Ca 53 [.t 4,.t 6]) [4,6],omk 3 7]
def r52:RC:=(So ZT (So ZS .ret))
def F52:FnC:=⟨r52,8,[.tmp 3],[],[]⟩
def ZR:List RI:=[oo 2 (.box (.t 0)) [0],oo 4 (.mov (.c (.bool false))) [4]]
def ZQ:List RI:=[on 8 (.load 4 true (.t 2)),oo 9 (Ca 90 [.t 8]) [8],oo 10 (Bc .neq 9 0) [9]]
def ZP:List RI:=[on 4 (.mov (.c (.bool false)))]
def ZO:List RI:=[on 11 (Fa 0 2),oo 12 (Ld 11) [11]]
def ZN:List RI:=[on 14 (Bc .eql 12 2),omk 13 14]
def ZM:List RI:=[omk 15 1,oo 16 (.b2s (.t 15)) [15],oo 17 (Fa 1 2) [2],oo 18 (Ld 17) [17],oo 19 (Bb .eql 16 18) [16,18],omk 4 19]
def ZL:List RI:=[on 21 (Bc .eql 12 3),omk 20 21]
def ZK:List RI:=[oo 22 (Fa 1 2) [2],oo 23 (Ld 22) [22],omk 24 1,oo 25 (Ca 92 [.t 23,.t 24]) [23,24],omk 4 25]
def ZJ:List RI:=[oo 27 (Bc .eql 12 4) [12],omk 26 27]
def ZI:List RI:=[omk 29 1,oo 30 (.b2s (.t 29)) [29],on 31 (Fa 1 2),oo 32 (Ld 31) [31],oo 33 (Ca 93 [.t 30,.t 32]) [30,32],omk 28 33,on 34 (.ext (.t 28) 0),oo 35 (.ext (.t 28) 1) [28],omk 5 34,omk 6 35]
def JI:List RI:=[omk 36 5,oo 37 (Ca 94 [.t 36]) [36],omk 7 37]
def JH:List RI:=[omk 38 6,omk 39 38,.grp 39 true [(xi 40 39 true (Mv 7)),(xi 41 39 true (Fa 2 2)),(xi 42 39 true (Ld 41)),(xi 43 39 true (Bb .geq 40 42))] [40,41,42],oo 44 (Pf 39 43) [39,43],omk 45 44,.grp 45 true [(xi 46 45 true (Mv 7)),(xi 47 45 true (Fa 3 2)),(xi 48 45 true (Ld 47)),(xi 49 45 true (Bb .leq 46 48))] [2,7,46,47,48],oo 50 (Pf 45 49) [45,49],omk 4 50]
def JG:List RI:=[on 4 (.mov (.c (.bool true)))]
def r53:RC:=(So ZR (.seq (So ZQ (Kc 10 (Kk [1,2,10] (So ZP .ret)) (Kk [10] .skip))) (.seq (So ZO (.block 0 (So ZN (Kc 13 (Kk [12,13] (So ZM .ret)) (Kk [13] (So ZL (Kc 20 (Kk [12,20] (So ZK .ret)) (Kk [20] (So ZJ (Kc 26 (Kk [26] (So ZI (So JI (So JH .ret)))) (Kk [1,2,26] .skip))))))))))) (So JG .ret))))
def F53:FnC:=⟨r53,51,[.tmp 4],[],[]⟩
def ZH:List RI:=[oo 1 (.box (.t 0)) [0],oo 2 (.mov (ci 0)) [2]]
def ZG:List RI:=[on 7 (Fa 0 1),oo 8 (Ld 7) [7],oo 9 (Ca 95 [.t 8]) [8],oo 10 (.un .not (.t 9)) [9]]
def ZF:List RI:=[on 2 (.mov (ci 43))]
def ZE:List RI:=[on 11 (Fa 2 1),oo 12 (Ld 11) [11],oo 13 (Bc .lss 12 0) [12],omk 14 13,.grp 14 false [(xi 15 14 false (Fa 2 1)),(xi 16 14 false (Ld 15)),(xi 17 14 false (Fa 1 1)),(xi 18 14 false (Ld 17)),(xi 19 14 false (Bb .gtr 16 18))] [15,16,17,18],oo 20 (Pt 14 19) [14,19],omk 21 20,.grp 21 false [(xi 22 21 false (Fa 1 1)),(xi 23 21 false (Ld 22)),(xi 24 21 false (Bc .gtr 23 1000000))] [22,23],oo 25 (Pt 21 24) [21,24],omk 26 25,.grp 26 false [(xi 27 26 false (Fa 3 1)),(xi 28 26 false (Ld 27)),(xi 29 26 false (Bc .lss 28 0))] [27,28],oo 30 (Pt 26 29) [26,29],omk 31 30,.grp 31 false [(xi 32 31 false (Fa 3 1)),(xi 33 31 false (Ld 32)),(xi 34 31 false (Fa 4 1)),(xi 35 31 false (Ld 34)),(xi 36 31 false (Bb .geq 33 35))] [32,33,34,35],oo 37 (Pt 31 36) [31,36],omk 38 37,.grp 38 false [(xi 39 38 false (Fa 4 1)),(xi 40 38 false (Ld 39)),(xi 41 38 false (Bc .gtr 40 1099511627776))] [39,40],oo 42 (Pt 38 41) [38,41]]
def ZD:List RI:=[on 2 (.mov (ci 1))]
def ZC:List RI:=[on 43 (Fa 5 1),oo 44 (Ld 43) [43],oo 45 (Ln 44) [44],oo 46 (Bc .gtr 45 16) [45],omk 47 46,.grp 47 false [(xi 48 47 false (Fa 6 1)),(xi 49 47 false (Ld 48)),(xi 50 47 false (Ln 49)),(xi 51 47 false (Bc .gtr 50 8))] [48,49,50],oo 52 (Pt 47 51) [47,51]]
def ZB:List RI:=[on 2 (.mov (ci 4))]
def ZA:List RI:=[on 3 (.mov (ci 0))]
def Zz:List RI:=[om 53 3,on 54 (Fa 5 1),oo 55 (Ld 54) [54],oo 56 (Ln 55) [55],oo 57 (Bb .lss 53 56) [53,56]]
def Zy:List RI:=[on 60 (Fa 5 1),oo 61 (Ld 60) [60],om 62 3,oo 63 (Ia 4 61 62) [61,62],oo 64 (.load 4 true (.t 63)) [63],on 4 (.new (.rc Zq1)),.op ⟨none,none,.store 4 (.t 4) (.t 64)⟩ [64]]
def JF:List RI:=[on 65 (Fa 0 4),oo 66 (Ld 65) [65],oo 67 (Bc .lss 66 1) [66],omk 68 67,.grp 68 false [(xi 69 68 false (Fa 0 4)),(xi 70 68 false (Ld 69)),(xi 71 68 false (Bc .gtr 70 3))] [69,70],oo 72 (Pt 68 71) [68,71],omk 73 72,.grp 73 false [(xi 74 73 false (Fa 2 4)),(xi 75 73 false (Ld 74)),(xi 76 73 false (Bc .lss 75 0))] [74,75],oo 77 (Pt 73 76) [73,76],omk 78 77,.grp 78 false [(xi 79 78 false (Fa 2 4)),(xi 80 78 false (Ld 79)),(xi 81 78 false (Bc .gtr 80 1000000))] [79,80],oo 82 (Pt 78 81) [78,81],omk 83 82,.grp 83 false [(xi 84 83 false (Fa 3 4)),(xi 85 83 false (Ld 84)),(xi 86 83 false (Ln 85)),(xi 87 83 false (Bc .neq 86 32))] [84,85,86],oo 88 (Pt 83 87) [83,87]]
def JE:List RI:=[on 2 (.mov (ci 1))]
def JD:List RI:=[on 89 (Fa 1 4),oo 90 (Ld 89) [89],oo 91 (Ca 95 [.t 90]) [90],oo 92 (.un .not (.t 91)) [91]]
def JC:List RI:=[on 2 (.mov (ci 43))]
def JB:List FI:=[Fm 0 93 3,Fs 1 94 (Bc .gtr 93 0),Fm 2 95 94,Fi 3 96 95 true (Fa 5 1),Fi 4 97 95 true (Ld 96),Fi 5 98 95 true (Mv 3),Fi 6 99 95 true (Bc .sub 98 1),Fi 7 100 95 true (Ia 4 97 99),Fi 8 101 95 true (.load 4 true (.t 100)),Fi 9 102 95 true (.load 4 true (.t 4)),⟨10,false,(xi 103 95 true (Ca 84 [.t 101,.t 102]))⟩,Fi 11 104 95 true (.un .not (.t 103)),Fs 12 105 (Pf 95 104)]
def JA:List RI:=[on 2 (.mov (ci 41))]
def Jz:List RI:=[omk 58 3,oo 59 (Bc .add 58 1) [58],omk 3 59]
def zN:RC:=(.post (.seq (So Zz (Kc 57 (Kk [57] .skip) (Kk [3,57] (.exit 0)))) (.seq (.block 1 (So Zy (.seq (So JF (Kc 88 (Kk [1,3,4,88] (So JE .ret)) (Kk [88] .skip))) (.seq (So JD (Kc 92 (Kk [1,3,4,92] (So JC .ret)) (Kk [92] .skip))) (.seq (.flt [0,1,3,7,15,7,39,127,255,7,1023,2047,4095] [] JB [4,93,94,95,96,97,98,99,100,101,102,103,104]) (Kc 105 (Kk [1,3,105] (So JA .ret)) (Kk [105] .skip))))))) (.ops Jz))) [.gc [104]])
def mw:RC:=zN
def Jy:List RI:=[on 5 (.mov (ci 0))]
def Jx:List RI:=[om 106 5,on 107 (Fa 6 1),oo 108 (Ld 107) [107],oo 109 (Ln 108) [108],oo 110 (Bb .lss 106 109) [106,109]]
def Jw:List RI:=[on 113 (Fa 6 1),oo 114 (Ld 113) [113],om 115 5,oo 116 (Ia 4 114 115) [114,115],oo 117 (.load 4 true (.t 116)) [116],oo 118 (Ca 96 [.t 117]) [117],omk 6 118]
def Jv:List RI:=[om 119 6,oo 120 (Bc .neq 119 0) [119]]
def Ju:List RI:=[omk 121 6,omk 2 121]
def Jt:List RI:=[omk 111 5,oo 112 (Bc .add 111 1) [111],omk 5 112]
def zM:RC:=(.seq (So Jx (Kc 110 (Kk [110] .skip) (Kk [1,5,110] (.exit 2)))) (.seq (.block 3 (So Jw (So Jv (Kc 120 (Kk [1,5,120] (So Ju .ret)) (Kk [6,120] .skip))))) (.ops Jt)))
def uE:RC:=zM
def Js:List RI:=[on 2 (.mov (ci 0))]
def r54:RC:=(So ZH (.seq (So ZG (Kc 10 (Kk [1,10] (So ZF .ret)) (Kk [10] .skip))) (.seq (So ZE (Kc 42 (Kk [1,42] (So ZD .ret)) (Kk [42] .skip))) (.seq (So ZC (Kc 52 (Kk [1,52] (So ZB .ret)) (Kk [52] .skip))) (.seq (So ZA (.block 0 (.loop mw))) (.seq (So Jy (.block 2 (.loop uE))) (So Js .ret)))))))
def F54:FnC:=⟨r54,122,[.tmp 2],[],[]⟩
def Zx:List RI:=[oo 2 (.mov (ci 0)) [2]]
def Zw:List RI:=[omk 3 0]
def Zv:List RI:=[on 5 (Bc .eql 3 1),omk 4 5]
def Zu:List RI:=[on 2 (.mov (ci 0))]
def Zt:List RI:=[on 7 (Bc .eql 3 2),omk 6 7]
def Zs:List RI:=[on 2 (.mov (ci 4))]
def Zr:List RI:=[on 9 (Bc .eql 3 3),omk 8 9]
def Zq:List RI:=[on 2 (.mov (ci 8))]
def Zp:List RI:=[oo 11 (Bc .eql 3 4) [3],omk 10 11]
def Zo:List RI:=[on 2 (.mov (ci 9))]
def Jr:List RI:=[on 2 (.mov (ci (-1)))]
def r55:RC:=(So Zx (.seq (So Zw (.block 0 (So Zv (Kc 4 (Kk [3,4] (So Zu .ret)) (Kk [4] (So Zt (Kc 6 (Kk [3,6] (So Zs .ret)) (Kk [6] (So Zr (Kc 8 (Kk [3,8] (So Zq .ret)) (Kk [8] (So Zp (Kc 10 (Kk [10] (So Zo .ret)) (Kk [10] .skip)))))))))))))) (So Jr .ret)))
def F55:FnC:=⟨r55,12,[.tmp 2],[],[]⟩
def Zn:List RI:=[oo 4 (.mov (.c (.byt [] .clip))) [4]]
def Zm:List RI:=[omk 5 0,.tks (xs 6 (.s2b (.t 5))) [5],on 7 (.litB [(.c (.u8 32))]),oo 8 (.app [.u8 0] 1 (.t 6) (.t 7)) [6,7],omk 9 1,oo 10 (Ca 97 [.t 9]) [9],oo 11 (.app [.u8 0] 1 (.t 8) (.t 10)) [8,10],omk 4 11]
def r56:RC:=(So Zn (So Zm .ret))
def F56:FnC:=⟨r56,12,[.tmp 4],[],[]⟩
def Zl:List RI:=[oo 1 (.box (.t 0)) [0],oo 2 (.mov (.c (.bool false))) [2]]
def Zk:List RI:=[on 4 (Fa 1 1),oo 5 (Ld 4) [4],oo 6 (Bc .eql 5 1) [5]]
def Zj:List RI:=[on 2 (.mov (.c (.bool true)))]
def Zi:List RI:=[on 7 (Fa 1 1),oo 8 (Ld 7) [7],oo 9 (Bc .lss 8 1) [8],omk 10 9,.grp 10 false [(xi 11 10 false (Fa 1 1)),(xi 12 10 false (Ld 11)),(xi 13 10 false (Bc .gtr 12 5))] [11,12],oo 14 (Pt 10 13) [10,13]]
def Zh:List RI:=[on 2 (.mov (.c (.bool false)))]
def Zg:List FI:=[Fs 0 15 (Fa 1 1),Fs 1 16 (Ld 15),Fs 2 17 (Bc .eql 16 2),Fm 3 18 17,Fi 4 19 18 true (Fa 3 1),Fi 5 20 18 true (Ld 19),⟨6,false,(xi 21 18 true (Ca 77 []))⟩,⟨7,false,(xi 22 18 true (Ca 25 [.t 20,.t 21]))⟩,Fi 8 23 18 true (.un .not (.t 22)),Fs 9 24 (Pf 18 23),Fm 10 25 24,Fi 11 26 25 false (Fa 1 1),Fi 12 27 25 false (Ld 26),Fi 13 28 25 false (Bc .eql 27 3),Fi 14 29 25 false (Mv 28),Fi 15 30 29 true (Fa 3 1),Fi 16 31 29 true (Ld 30),⟨17,false,(xi 32 29 true (Ca 98 [.t 31]))⟩,Fi 18 33 29 true (.un .not (.t 32)),Fi 19 34 25 false (Pf 29 33),Fs 20 35 (Pt 25 34)]
def Zf:List RI:=[on 2 (.mov (.c (.bool false)))]
def Ze:List RI:=[on 3 (.mov (ci 0))]
def Zd:List RI:=[om 36 3,oo 37 (Bc .lss 36 2) [36],omk 38 37,.grp 38 true [(xi 39 38 true (Mv 3)),(xi 40 38 true (Fa 2 1)),(xi 41 38 true (Ld 40)),(xi 42 38 true (Ln 41)),(xi 43 38 true (Bb .lss 39 42))] [39,40,41,42],oo 44 (Pf 38 43) [38,43]]
def Zc:List FI:=[Fs 0 47 (Fa 2 1),Fs 1 48 (Ld 47),Fm 2 49 3,Fs 3 50 (Ia 1 48 49),Fs 4 51 (Ld 50),Fs 5 52 (Ln 51),Fs 6 53 (Bc .gtr 52 0),Fm 7 54 53,Fi 8 55 54 true (Fa 1 1),Fi 9 56 54 true (Ld 55),Fi 10 57 54 true (Bc .eql 56 5),Fi 11 58 54 true (Mv 57),Fi 12 59 58 false (Fa 2 1),Fi 13 60 58 false (Ld 59),Fi 14 61 58 false (Mv 3),Fi 15 62 58 false (Ia 1 60 61),Fi 16 63 58 false (Ld 62),Fi 17 64 58 false (Mv 3),Fi 18 65 58 false (Fa 3 1),Fi 19 66 58 false (Ld 65),⟨20,false,(xi 67 58 false (Ca 99 [.t 64,.t 66]))⟩,⟨21,false,(xi 68 58 false (Ca 25 [.t 63,.t 67]))⟩,Fi 22 69 58 false (.un .not (.t 68)),Fi 23 70 54 true (Pt 58 69),Fs 24 71 (Pf 54 70)]
def Jq:List RI:=[on 2 (.mov (.c (.bool false)))]
def Jp:List RI:=[omk 45 3,oo 46 (Bc .add 45 1) [45],omk 3 46]
def zL:RC:=(.seq (So Zd (Kc 44 (Kk [44] .skip) (Kk [1,3,44] (.exit 0)))) (.seq (.block 1 (.seq (.flt [0,1,0,7,15,31,63,127,255,511,1023,2047,4095,8191,4095,32767,65535,4095,4095,266239,921599,2097151,4194303,8388607,16777215] [] Zc [47,48,49,50,51,52,53,54,55,56,57,58,59,60,61,62,63,64,65,66,67,68,69,70]) (Kc 71 (Kk [1,3,71] (So Jq .ret)) (Kk [71] .skip)))) (.ops Jp)))
def uD:RC:=zL
def Jo:List RI:=[on 2 (.mov (.c (.bool true)))]
def r57:RC:=(So Zl (.seq (So Zk (Kc 6 (Kk [1,6] (So Zj .ret)) (Kk [6] .skip))) (.seq (So Zi (Kc 14 (Kk [1,14] (So Zh .ret)) (Kk [14] .skip))) (.seq (.seq (.flt [0,1,3,7,15,31,15,127,255,511,1023,2047,4095,8191,16383,32767,65535,131071,262143,524287,1048575] [] Zg [15,16,17,18,19,20,21,22,23,24,25,26,27,28,29,30,31,32,33,34]) (Kc 35 (Kk [1,35] (So Zf .ret)) (Kk [35] .skip))) (.seq (So Ze (.block 0 (.loop uD))) (So Jo .ret))))))
def F57:FnC:=⟨r57,72,[.tmp 2],[],[]⟩
def Zb:List RI:=[oo 2 (.box (.t 0)) [0],oo 4 (.mov (.c (.bool false))) [4]]
def Za:List RI:=[on 8 (.load 4 true (.t 2)),oo 9 (Ca 96 [.t 8]) [8],oo 10 (Bc .neq 9 0) [9]]
def Y9:List RI:=[on 4 (.mov (.c (.bool false)))]
def Y8:List RI:=[on 11 (Fa 0 2),oo 12 (Ld 11) [11]]
def Y7:List RI:=[on 14 (Bc .eql 12 1),omk 13 14]
def Y6:List RI:=[on 4 (.mov (.c (.bool true)))]
def Y5:List RI:=[on 16 (Bc .eql 12 2),omk 15 16]
def Y4:List RI:=[oo 17 (Fa 1 2) [2],oo 18 (Ld 17) [17],oo 19 (.s2b (.t 18)) [18],omk 20 1,oo 21 (Ca 25 [.t 19,.t 20]) [19,20],omk 4 21]
def Y3:List RI:=[oo 23 (Bc .eql 12 3) [12],omk 22 23]
def Y2:List RI:=[oo 24 (Fa 1 2) [2],oo 25 (Ld 24) [24],omk 26 1,oo 27 (Ca 100 [.t 25,.t 26]) [25,26],omk 4 27]
def Jn:List RI:=[on 28 (Fa 1 2),oo 29 (Ld 28) [28],oo 30 (.len true (.t 29)) [29],omk 5 30]
def Jm:List FI:=[Fm 0 31 1,Fs 1 32 (Ln 31),Fm 2 33 5,Fs 3 34 (Bb .leq 32 33),Fm 4 35 34,Fi 5 36 35 false (Mv 1),Fi 6 37 35 false (Ln 36),Fi 7 38 35 false (Mv 5),Fi 8 39 35 false (Bc .add 38 10),Fi 9 40 35 false (Bb .gtr 37 39),Fs 10 41 (Pt 35 40),Fm 11 42 41,Fi 12 43 42 false (Fa 1 2),Fi 13 44 42 false (Ld 43),Fi 14 45 42 false (.s2b (.t 44)),Fi 15 46 42 false (Mv 1),Fi 16 47 42 false (Mv 5),Fi 17 48 42 false (.slcL 1 (.t 46) none (some (.t 47)) none),⟨18,false,(xi 49 42 false (Ca 25 [.t 45,.t 48]))⟩,Fi 19 50 42 false (.un .not (.t 49)),Fs 20 51 (Pt 42 50)]
def Jl:List RI:=[on 4 (.mov (.c (.bool false)))]
def Jk:List RI:=[on 6 (.mov (ci 0))]
def Jj:List RI:=[om 52 5,omk 7 52]
def Ji:List RI:=[om 53 7,om 54 1,oo 55 (Ln 54) [54],oo 56 (Bb .lss 53 55) [53,55]]
def Jh:List RI:=[om 59 1,om 60 7,oo 61 (Ia 1 59 60) [59,60],oo 62 (Ld 61) [61],oo 63 (.bin .lss (.t 62) (.c (.u8 48))) [62],omk 64 63,.grp 64 false [(xi 65 64 false (Mv 1)),(xi 66 64 false (Mv 7)),(xi 67 64 false (Ia 1 65 66)),(xi 68 64 false (Ld 67)),(xi 69 64 false (.bin .gtr (.t 68) (.c (.u8 57))))] [65,66,67,68],oo 70 (Pt 64 69) [64,69]]
def Jg:List RI:=[on 4 (.mov (.c (.bool false)))]
def Jf:List RI:=[omk 71 6,oo 72 (.bin .mul (ci 10) (.t 71)) [71],om 73 1,om 74 7,oo 75 (Ia 1 73 74) [73,74],oo 76 (Ld 75) [75],oo 77 (.bin .sub (.t 76) (.c (.u8 48))) [76],oo 78 (.toInt .i64 (.t 77)) [77],oo 79 (Bb .add 72 78) [72,78],omk 6 79]
def Je:List RI:=[omk 57 7,oo 58 (Bc .add 57 1) [57],omk 7 58]
def zK:RC:=(.seq (So Ji (Kc 56 (Kk [56] .skip) (Kk [7,56] (.exit 1)))) (.seq (.block 2 (.seq (So Jh (Kc 70 (Kk [1,2,5,6,7,70] (So Jg .ret)) (Kk [70] .skip))) (.ops Jf))) (.ops Je)))
def yT:RC:=zK
def Jd:List FI:=[Fm 0 80 6,Fm 2 82 1,Fm 3 83 5,Fs 4 84 (.slcL 1 (.t 82) (some (.t 83)) none none),Fz 1 81 (Ca 97 [.t 80]),Fz 5 85 (Ca 25 [.t 81,.t 84]),Fm 6 86 85,Fi 7 87 86 true (Mv 6),Fi 8 88 86 true (Fa 2 2),Fi 9 89 86 true (Ld 88),Fi 10 90 86 true (Bb .geq 87 89),Fs 11 91 (Pf 86 90),Fm 12 92 91,Fi 13 93 92 true (Mv 6),Fi 14 94 92 true (Fa 3 2),Fi 15 95 92 true (Ld 94),Fi 16 96 92 true (Bb .leq 93 95),Fs 17 97 (Pf 92 96),Fm 18 4 97]
def r58:RC:=(So Zb (.seq (So Za (Kc 10 (Kk [1,2,10] (So Y9 .ret)) (Kk [10] .skip))) (.seq (So Y8 (.block 0 (So Y7 (Kc 13 (Kk [1,2,12,13] (So Y6 .ret)) (Kk [13] (So Y5 (Kc 15 (Kk [12,15] (So Y4 .ret)) (Kk [15] (So Y3 (Kc 22 (Kk [22] (So Y2 .ret)) (Kk [22] .skip))))))))))) (So Jn (.seq (.seq (.flt [0,1,0,7,15,31,63,31,159,511,1023,2047,4095,8191,16383,4095,4095,102399,262143,524287,1048575] [] Jm [31,32,33,34,35,36,37,38,39,40,41,42,43,44,45,46,47,48,49,50]) (Kc 51 (Kk [1,2,5,51] (So Jl .ret)) (Kk [51] .skip))) (So Jk (.seq (So Jj (.block 1 (.loop yT))) (.seq (.flt [0,1,0,0,12,31,63,127,127,383,1023,2047,4095,8191,8191,24575,65535,131071,262143] [] Jd [1,2,5,6,80,81,82,83,84,85,86,87,88,89,90,91,92,93,94,95,96,97]) .ret))))))))
def F58:FnC:=⟨r58,98,[.tmp 4],[],[]⟩
def Y1:List RI:=[oo 1 (.box (.t 0)) [0],oo 2 (.mov (.c (.byt [] .clip))) [2]]
def Y0:List RI:=[oo 4 (.load 7 true (.t 1)) [1],oo 5 (Ca 101 [.t 4]) [4],omk 3 5]
def YZ:List RI:=[om 6 3,oo 7 (Ln 6) [6],oo 8 (Bc .eql 7 0) [7]]
def YY:List RI:=[on 2 (.mov (.c (.byt [] .clip)))]
def YX:List RI:=[omk 9 3,oo 10 (.lit 1 [.t 9]) [9],oo 11 (Ca 102 [ci 21,.t 10]) [10],omk 2 11]
def r59:RC:=(So Y1 (So Y0 (.seq (So YZ (Kc 8 (Kk [3,8] (So YY .ret)) (Kk [8] .skip))) (So YX .ret))))
def F59:FnC:=⟨r59,12,[.tmp 2],[],[]⟩
def YW:List RI:=[oo 6 (.mov (ci 0)) [6],oo 7 (.mov (.c (.bool false))) [7]]
def YV:List RI:=[om 12 0,oo 13 (Ln 12) [12],omk 8 13]
def YU:List RI:=[om 14 8,on 9 (.mov (ci 0)),omk 10 14]
def YT:List RI:=[om 15 9,om 16 10,oo 17 (Bb .lss 15 16) [15,16]]
def YS:List RI:=[om 18 9,om 19 10,oo 20 (Bb .add 18 19) [18,19],oo 21 (.toInt .u64 (.t 20)) [20],oo 22 (.bin .shr (.t 21) (.c (.int .u64 1))) [21],oo 23 (.toInt .i64 (.t 22)) [22],omk 11 23]
def YR:List RI:=[om 24 2,om 25 0,om 26 11,oo 27 (Ia 1 25 26) [25,26],oo 28 (Ld 27) [27],om 29 1,oo 30 (.call (.t 24) [.t 28,.t 29]) [24,28,29],oo 31 (Bc .lss 30 0) [30]]
def YQ:List RI:=[omk 32 11,oo 33 (Bc .add 32 1) [32],omk 9 33]
def YP:List RI:=[omk 34 11,omk 10 34]
def RD:RC:=(.seq (So YT (Kc 17 (Kk [17] .skip) (Kk [10,17] (.exit 0)))) (.block 1 (So YS (So YR (Kc 31 (Kk [9,31] (.ops YQ)) (Kk [10,31] (.ops YP)))))))
def YO:RC:=RD
def YN:List RI:=[om 35 9,om 36 9,omk 37 8,oo 38 (Bb .lss 36 37) [36,37],omk 39 38,.grp 39 true [(xi 40 39 true (Mv 2)),(xi 41 39 true (Mv 0)),(xi 42 39 true (Mv 9)),(xi 43 39 true (Ia 1 41 42)),(xi 44 39 true (Ld 43)),(xi 45 39 true (Mv 1)),(xi 46 39 true (.call (.t 40) [.t 44,.t 45])),(xi 47 39 true (Bc .eql 46 0))] [0,1,2,9,40,41,42,43,44,45,46],oo 48 (Pf 39 47) [39,47],omk 6 35,omk 7 48]
def r60:RC:=(So YW (So YV (So YU (.seq (.block 0 (.loop YO)) (So YN .ret)))))
def F60:FnC:=⟨r60,49,[.tmp 6,.tmp 7],[],[]⟩
def YM:List RI:=[oo 6 (.mov (.c (.lst 1 [] .clip))) [6]]
def YL:List RI:=[om 10 0,om 11 1,oo 12 (.slcL 1 (.t 10) (some (.t 11)) none none) [10,11,12]]
def YK:List RI:=[om 13 2,oo 14 (Ln 13) [13],omk 7 14]
def YJ:List RI:=[om 15 7,oo 16 (Bc .eql 15 0) [15]]
def YI:List RI:=[omk 17 0,omk 6 17]
def YH:List RI:=[om 18 0,oo 19 (Ln 18) [18],omk 8 19]
def YG:List RI:=[om 20 1,om 21 8,oo 22 (Bb .eql 20 21) [20,21]]
def YF:List RI:=[omk 23 0,omk 24 2,oo 25 (.app [.byt [] .clip] 24 (.t 23) (.t 24)) [23,24],omk 6 25]
def YE:List RI:=[om 26 8,om 27 7,oo 28 (Bb .add 26 27) [26,27],om 29 0,oo 30 (.cap (.t 29)) [29],oo 31 (Bb .gtr 28 30) [28,30]]
def YD:List RI:=[om 32 0,om 33 1,oo 34 (.slcL 1 (.t 32) none (some (.t 33)) none) [32,33],omk 35 8,om 36 7,oo 37 (Bb .add 35 36) [35,36],om 38 1,oo 39 (Bb .sub 37 38) [37,38],oo 40 (.appM [.byt [] .clip] 24 (.t 34) (.t 39)) [34,39],omk 9 40]
def Jc:List RI:=[om 41 9,om 42 1,oo 43 (.slcL 1 (.t 41) (some (.t 42)) none none) [41,42],omk 44 2,oo 45 (.cpy 1 (.t 43) (.t 44)) [43,44,45]]
def Jb:List FI:=[Fm 0 46 9,Fm 1 47 1,Fm 2 48 7,Fs 3 49 (Bb .add 47 48),Fs 4 50 (.slcL 1 (.t 46) (some (.t 49)) none none),Fm 5 51 0,Fm 6 52 1,Fs 7 53 (.slcL 1 (.t 51) (some (.t 52)) none none),Fz 8 54 (.cpy 1 (.t 50) (.t 53))]
def Ja:List RI:=[omk 55 9,omk 6 55]
def I9:List RI:=[omk 56 0,om 57 8,om 58 7,oo 59 (Bb .add 57 58) [57,58],oo 60 (.slcL 1 (.t 56) none (some (.t 59)) none) [56,59],omk 0 60]
def I8:List RI:=[om 61 2,om 62 0,om 63 1,om 64 7,oo 65 (Bb .add 63 64) [63,64],oo 66 (.slcL 1 (.t 62) (some (.t 65)) none none) [62,65],oo 67 (.ovl (.t 61) (.t 66)) [61,66],oo 68 (.un .not (.t 67)) [67]]
def I7:List FI:=[Fm 0 69 0,Fm 1 70 1,Fm 2 71 7,Fs 3 72 (Bb .add 70 71),Fs 4 73 (.slcL 1 (.t 69) (some (.t 72)) none none),Fm 5 74 0,Fm 6 75 1,Fs 7 76 (.slcL 1 (.t 74) (some (.t 75)) none none),Fz 8 77 (.cpy 1 (.t 73) (.t 76))]
def I6:List RI:=[om 78 0,omk 79 1,oo 80 (.slcL 1 (.t 78) (some (.t 79)) none none) [78,79],omk 81 2,oo 82 (.cpy 1 (.t 80) (.t 81)) [80,81,82]]
def I5:List RI:=[omk 83 0,omk 6 83]
def I4:List RI:=[om 84 0,omk 85 8,oo 86 (.slcL 1 (.t 84) (some (.t 85)) none none) [84,85],omk 87 2,oo 88 (.cpy 1 (.t 86) (.t 87)) [86,87,88]]
def I3:List RI:=[om 89 0,omk 90 1,oo 91 (.slcL 1 (.t 89) (some (.t 90)) none none) [89,90],omk 92 7,oo 93 (Ca 105 [.t 91,.t 92]) [91,92,93]]
def I2:List RI:=[omk 94 0,omk 6 94]
def r62:RC:=(So YM (So YL (So YK (.seq (So YJ (Kc 16 (Kk [1,2,7,16] (So YI .ret)) (Kk [16] .skip))) (So YH (.seq (So YG (Kc 22 (Kk [1,7,8,22] (So YF .ret)) (Kk [22] .skip))) (.seq (So YE (Kc 31 (Kk [31] (So YD (So Jc (.seq (.flt [0,0,0,6,15,0,0,96,255] [] Jb [0,1,7,46,47,48,49,50,51,52,53,54]) (So Ja .ret))))) (Kk [31] .skip))) (So I9 (.seq (So I8 (Kc 68 (Kk [8,68] (.seq (.flt [0,0,0,6,15,0,0,96,255] [] I7 [7,69,70,71,72,73,74,75,76,77]) (So I6 (So I5 .ret)))) (Kk [68] .skip))) (So I4 (So I3 (So I2 .ret))))))))))))
def F62:FnC:=⟨r62,95,[.tmp 6],[0],[]⟩
def YC:List RI:=[oo 4 (.mov (.c (.bool false))) [4]]
def YB:List RI:=[on 5 (.mov (ci 0))]
def YA:List RI:=[om 6 5,om 7 0,oo 8 (Ln 7) [7],oo 9 (Bb .lss 6 8) [6,8],omk 10 9,.grp 10 true [(xi 11 10 true (Mv 5)),(xi 12 10 true (Mv 1)),(xi 13 10 true (Ln 12)),(xi 14 10 true (Bb .lss 11 13))] [11,12,13],oo 15 (Pf 10 14) [10,14]]
def Yz:List FI:=[Fm 0 18 0,Fm 1 19 5,Fs 2 20 (Ia 1 18 19),Fs 3 21 (Ld 20),Fm 4 22 1,Fm 5 23 5,Fs 6 24 (Ia 1 22 23),Fs 7 25 (Ld 24),Fs 8 26 (Bb .neq 21 25)]
def Yy:List FI:=[Fm 0 27 0,Fm 1 28 5,Fs 2 29 (Ia 1 27 28),Fs 3 30 (Ld 29),Fm 4 31 1,Fm 5 32 5,Fs 6 33 (Ia 1 31 32),Fs 7 34 (Ld 33),Fs 8 35 (Bb .lss 30 34),Fm 9 4 35]
def Yx:List RI:=[omk 16 5,oo 17 (Bc .add 16 1) [16],omk 5 17]
def RB:RC:=(.seq (So YA (Kc 15 (Kk [15] .skip) (Kk [5,15] (.exit 0)))) (.seq (.block 1 (.seq (.flt [0,0,3,7,0,0,48,112,255] [] Yz [18,19,20,21,22,23,24,25]) (Kc 26 (Kk [26] (.seq (.flt [0,0,3,7,0,0,48,112,255,511] [] Yy [0,1,5,27,28,29,30,31,32,33,34,35]) .ret)) (Kk [26] .skip)))) (.ops Yx)))
def Rg:RC:=RB
def Yw:List RI:=[omk 36 0,oo 37 (Ln 36) [36],omk 38 1,oo 39 (Ln 38) [38],oo 40 (Bb .lss 37 39) [37,39],omk 4 40]
def r63:RC:=(So YC (.seq (So YB (.block 0 (.loop Rg))) (So Yw .ret)))
def F63:FnC:=⟨r63,41,[.tmp 4],[],[]⟩
def Yv:List RI:=[on 4 (.new (.rc Zq3))]
def Yu:List RI:=[om 8 0,oo 9 (Ca 37 [.t 8,ci 4]) [8],omk 5 9]
def Yt:List RI:=[on 10 (Ca 106 []),om 11 0,oo 12 (Ca 37 [.t 11,ci 3]) [11],oo 13 (.idxA 3 1 false (.t 10) (.t 12)) [10,12],om 14 5,omk 15 1,oo 16 (Ca 34 [.t 13,.t 14,.t 15]) [13,14,15],on 6 (.new (.rc Zq3)),.op ⟨none,none,.store 7 (.t 6) (.t 16)⟩ [16]]
def Ys:List RI:=[om 17 0,oo 18 (Ca 37 [.t 17,ci 3]) [17],oo 19 (Bc .eql 18 1) [18]]
def Yr:List FI:=[Fs 0 20 (Fa 5 6),Fs 1 21 (Ld 20),Fm 2 22 0,Fs 3 23 (Fa 5 6),Fs 4 24 (Ld 23),Fs 5 25 (Ln 24),Fs 6 26 (Bc .add 25 1),Fz 7 27 (Ca 37 [.t 22,.t 26]),Fs 8 28 (.slcL 4 (.t 21) none (some (.t 27)) none),Fs 9 29 (Fa 5 6),⟨10,false,⟨none,none,.store 1 (.t 29) (.t 28)⟩⟩]
def Yq:List RI:=[om 30 0,omk 31 5,oo 32 (Bc .add 31 1) [31],oo 33 (Ca 37 [.t 30,.t 32]) [30,32],on 34 (Fa 2 6),.op ⟨none,none,.store 1 (.t 34) (.t 33)⟩ [33,34]]
def Yp:List RI:=[om 35 0,oo 36 (Ca 37 [.t 35,ci 12]) [35],on 37 (Fa 3 6),.op ⟨none,none,.store 1 (.t 37) (.t 36)⟩ [36,37]]
def Yo:List FI:=[Fs 0 38 (Fa 3 6),Fs 1 39 (Ld 38),Fs 2 40 (Bc .add 39 1),Fm 3 41 0,Fz 4 42 (Ca 37 [.t 41,ci 30]),Fs 5 43 (Bb .add 40 42),Fs 6 44 (Fa 4 6),⟨7,false,⟨none,none,.store 1 (.t 44) (.t 43)⟩⟩]
def Yn:List RI:=[om 45 0,oo 46 (Ca 37 [.t 45,ci 2]) [45],oo 47 (Bc .eql 46 0) [46]]
def Ym:List RI:=[on 48 (Fa 4 6),.op ⟨none,none,.store 1 (.t 48) (ci 1099511627776)⟩ [48]]
def I1:List RI:=[om 49 0,oo 50 (Ca 37 [.t 49,ci 4]) [49],omk 7 50]
def I0:List RI:=[om 51 7,oo 52 (Bc .gtr 51 0) [51]]
def IZ:List FI:=[Fs 0 55 (Fa 6 6),Fs 1 56 (Ld 55),Fm 2 57 0,Fz 3 58 (Ca 107 [.t 57]),Fs 4 59 (.lit 4 [.t 58]),Fz 5 60 (.app Zq4 40 (.t 56) (.t 59)),Fs 6 61 (Fa 6 6),⟨7,false,⟨none,none,.store 1 (.t 61) (.t 60)⟩⟩]
def IY:List RI:=[omk 53 7,oo 54 (Bc .sub 53 1) [53],omk 7 54]
def zJ:RC:=(.seq (So I0 (Kc 52 (Kk [52] .skip) (Kk [0,7,52] (.exit 0)))) (.seq (.block 1 (.flt [0,1,0,4,12,31,63,127] [160] IZ [55,56,57,58,59,60,61])) (.ops IY)))
def yS:RC:=zJ
def IX:List RI:=[oo 62 (.load 7 true (.t 6)) [6],.op ⟨none,none,.store 7 (.t 4) (.t 62)⟩ [62]]
def r64:RC:=(So Yv (So Yu (So Yt (.seq (So Ys (Kc 19 (Kk [19] (.flt [0,1,0,0,8,24,56,124,255,511,1023] [] Yr [20,21,22,23,24,25,26,27,28,29])) (Kk [19] .skip))) (So Yq (So Yp (.seq (.flt [0,1,3,0,8,31,63,127] [] Yo [38,39,40,41,42,43,44]) (.seq (So Yn (Kc 47 (Kk [47] (.ops Ym)) (Kk [47] .skip))) (.seq (So I1 (.block 0 (.loop yS))) (So IX .ret))))))))))
def F64:FnC:=⟨r64,63,[.cell 4 7 true],[],[]⟩
def Yl:List RI:=[on 4 (.new (.rc Zq1))]
def Yk:List SI:=[(xm 7 1),(xs 8 (Ca 108 [])),(xm 9 0),(xs 10 (Ca 37 [.t 9,ci 5])),(xs 11 (.idxA 5 1 false (.t 8) (.t 10))),(xm 12 0),(xs 13 (Ca 37 [.t 12,ci 5])),(xs 14 (.build Zq1 [(0,1,(.t 7)),(1,1,(.t 11)),(2,1,(.t 13))])),(xs 5 (.new (.rc Zq1))),⟨none,none,.store 4 (.t 5) (.t 14)⟩]
def Yj:List RI:=[om 15 0,oo 16 (Ca 37 [.t 15,ci 9]) [15],oo 17 (Bc .eql 16 8) [16]]
def Yi:List RI:=[om 18 0,oo 19 (Ca 37 [.t 18,ci 3]) [18],oo 20 (.bin .sub (ci 1000000) (.t 19)) [19],on 21 (Fa 2 5),.op ⟨none,none,.store 1 (.t 21) (.t 20)⟩ [20,21]]
def Yh:List RI:=[omk 22 1,oo 23 (Bc .eql 22 4) [22]]
def Yg:List RI:=[omk 24 0,oo 25 (Ca 109 [.t 24]) [24],on 26 (Fa 3 5),.op ⟨none,none,.store 1 (.t 26) (.t 25)⟩ [25,26]]
def Yf:List RI:=[oo 27 (.load 4 true (.t 5)) [5],.op ⟨none,none,.store 4 (.t 4) (.t 27)⟩ [27]]
def Ye:List RI:=[om 28 0,oo 29 (Ca 37 [.t 28,ci 7]) [28],oo 30 (.mkB (.t 29) (.t 29)) [29],on 31 (Fa 3 5),.op ⟨none,none,.store 1 (.t 31) (.t 30)⟩ [30,31]]
def Yd:List RI:=[on 6 (.mov (ci 0))]
def Yc:List RI:=[om 32 6,on 33 (Fa 3 5),oo 34 (Ld 33) [33],oo 35 (Ln 34) [34],oo 36 (Bb .lss 32 35) [32,35]]
def IW:List FI:=[Fs 0 39 (Fa 3 5),Fs 1 40 (Ld 39),Fm 2 41 6,Fm 3 42 0,Fz 4 43 (Ca 37 [.t 42,ci 256]),Fs 5 44 (.toInt .u8 (.t 43)),Fs 6 45 (Ia 1 40 41),⟨7,false,⟨none,none,.store 1 (.t 45) (.t 44)⟩⟩]
def IV:List RI:=[omk 37 6,oo 38 (Bc .add 37 1) [37],omk 6 38]
def zI:RC:=(.seq (So Yc (Kc 36 (Kk [36] .skip) (Kk [0,6,36] (.exit 0)))) (.seq (.block 1 (.flt [0,1,0,0,8,24,63,127] [] IW [39,40,41,42,43,44,45])) (.ops IV)))
def uC:RC:=zI
def IU:List RI:=[oo 46 (.load 4 true (.t 5)) [5],.op ⟨none,none,.store 4 (.t 4) (.t 46)⟩ [46]]
def r65:RC:=(So Yl (.seq (.drw [0,0,0,6,14,0,46,127,0,511] [105] Yk [7,8,9,10,11,12,13,14]) (.seq (So Yj (Kc 17 (Kk [17] (.ops Yi)) (Kk [17] .skip))) (.seq (So Yh (Kc 23 (Kk [23] (So Yg (So Yf .ret))) (Kk [23] .skip))) (So Ye (.seq (So Yd (.block 0 (.loop uC))) (So IU .ret)))))))
def F65:FnC:=⟨r65,47,[.cell 4 4 true],[],[]⟩
def Yb:List RI:=[oo 1 (.box (.t 0)) [0],oo 2 (.mov (ci 0)) [2]]
def Ya:List RI:=[on 4 (Fa 0 1),oo 5 (Ld 4) [4],oo 6 (Bc .lss 5 1) [5],omk 7 6,.grp 7 false [(xi 8 7 false (Fa 0 1)),(xi 9 7 false (Ld 8)),(xi 10 7 false (Bc .gtr 9 4))] [8,9],oo 11 (Pt 7 10) [7,10],omk 12 11,.grp 12 false [(xi 13 12 false (Fa 2 1)),(xi 14 12 false (Ld 13)),(xi 15 12 false (Bc .lss 14 0))] [13,14],oo 16 (Pt 12 15) [12,15],omk 17 16,.grp 17 false [(xi 18 17 false (Fa 2 1)),(xi 19 17 false (Ld 18)),(xi 20 17 false (Bc .gtr 19 1000000))] [18,19],oo 21 (Pt 17 20) [17,20],omk 3 21]
def X9:List RI:=[on 2 (.mov (ci 1))]
def X8:List RI:=[on 23 (Fa 1 1),oo 24 (Ld 23) [23],oo 25 (Ca 111 [.t 24]) [24],oo 26 (.un .not (.t 25)) [25],omk 22 26]
def X7:List RI:=[on 2 (.mov (ci 43))]
def X6:List RI:=[on 28 (Fa 3 1),oo 29 (Ld 28) [28],oo 30 (Ln 29) [29],oo 31 (Bc .gtr 30 64) [30],omk 27 31]
def X5:List RI:=[on 2 (.mov (ci 4))]
def X4:List RI:=[on 33 (Fa 0 1),oo 34 (Ld 33) [33],oo 35 (Bc .eql 34 4) [34],omk 36 35,.grp 36 true [(xi 37 36 true (.load 4 true (.t 1))),(xi 38 36 true (Ca 112 [.t 37])),(xi 39 36 true (Ln 38)),(xi 40 36 true (Bc .eql 39 0))] [1,37,38,39],oo 41 (Pf 36 40) [36,40],omk 32 41]
def X3:List RI:=[on 2 (.mov (ci 40))]
def X2:List RI:=[on 2 (.mov (ci 0))]
def r68:RC:=(So Yb (.seq (.block 0 (So Ya (Kc 3 (Kk [1,3] (So X9 .ret)) (Kk [3] (So X8 (Kc 22 (Kk [1,22] (So X7 .ret)) (Kk [22] (So X6 (Kc 27 (Kk [1,27] (So X5 .ret)) (Kk [27] (So X4 (Kc 32 (Kk [32] (So X3 .ret)) (Kk [32] .skip))))))))))))) (So X2 .ret)))
def F68:FnC:=⟨r68,42,[.tmp 2],[],[]⟩
def X1:List RI:=[oo 4 (.mov (.c (.byt [] .clip))) [4]]
def X0:List RI:=[omk 9 0]
def XZ:List RI:=[on 11 (Bc .eql 9 0),omk 10 11]
def XY:List RI:=[on 12 (.build [.int .u32 0,.int .u32 0,.int .u32 0,.int .u32 0,.int .u32 0] [(0,1,(.c (.int .u32 1732584193))),(1,1,(.c (.int .u32 4023233417))),(2,1,(.c (.int .u32 2562383102))),(3,1,(.c (.int .u32 271733878))),(4,1,(.c (.int .u32 3285377520)))]),on 5 (.new (.arr 1 (am 5 [.int .u32 0]))),.op ⟨none,none,.store 5 (.t 5) (.t 12)⟩ [12]]
def XX:List RI:=[omk 13 1,oo 14 (Ca 113 [.t 13]) [13],omk 6 14]
def XW:List RI:=[om 15 6,oo 16 (Ln 15) [15],oo 17 (Bc .gtr 16 0) [16]]
def XV:List RI:=[om 20 6,oo 21 (.slcL 1 (.t 20) none (some (ci 64)) none) [20],oo 22 (Ca 114 [.t 5,.t 21]) [21,22]]
def XU:List RI:=[omk 18 6,oo 19 (.slcL 1 (.t 18) (some (ci 64)) none none) [18],omk 6 19]
def RA:RC:=(.seq (So XW (Kc 17 (Kk [17] .skip) (Kk [6,17] (.exit 1)))) (.seq (.block 2 (.ops XV)) (.ops XU)))
def Rf:RC:=RA
def XT:List RI:=[oo 23 (.slcA 5 1 (.t 5) none none none) [5],oo 24 (Ca 115 [.t 23]) [23],omk 4 24]
def IT:List RI:=[oo 26 (Bc .eql 9 1) [9],omk 25 26]
def IS:List RI:=[on 27 (.build [.int .u32 0,.int .u32 0,.int .u32 0,.int .u32 0,.int .u32 0,.int .u32 0,.int .u32 0,.int .u32 0] [(0,1,(.c (.int .u32 1779033703))),(1,1,(.c (.int .u32 3144134277))),(2,1,(.c (.int .u32 1013904242))),(3,1,(.c (.int .u32 2773480762))),(4,1,(.c (.int .u32 1359893119))),(5,1,(.c (.int .u32 2600822924))),(6,1,(.c (.int .u32 528734635))),(7,1,(.c (.int .u32 1541459225)))]),on 7 (.new (.arr 1 (am 8 [.int .u32 0]))),.op ⟨none,none,.store 8 (.t 7) (.t 27)⟩ [27]]
def IR:List RI:=[omk 28 1,oo 29 (Ca 113 [.t 28]) [28],omk 8 29]
def IQ:List RI:=[om 30 8,oo 31 (Ln 30) [30],oo 32 (Bc .gtr 31 0) [31]]
def IP:List RI:=[om 35 8,oo 36 (.slcL 1 (.t 35) none (some (ci 64)) none) [35],oo 37 (Ca 116 [.t 7,.t 36]) [36,37]]
def IN:List RI:=[omk 33 8,oo 34 (.slcL 1 (.t 33) (some (ci 64)) none none) [33],omk 8 34]
def zH:RC:=(.seq (So IQ (Kc 32 (Kk [32] .skip) (Kk [8,32] (.exit 3)))) (.seq (.block 4 (.ops IP)) (.ops IN)))
def yR:RC:=zH
def IM:List RI:=[oo 38 (.slcA 8 1 (.t 7) none none none) [7],oo 39 (Ca 115 [.t 38]) [38],omk 4 39]
def IL:List RI:=[on 4 (.mov (.c (.byt [] .clip)))]
def r69:RC:=(So X1 (.seq (So X0 (.block 0 (So XZ (Kc 10 (Kk [9,10] (So XY (.seq (So XX (.block 1 (.loop Rf))) (So XT .ret)))) (Kk [10] (So IT (Kc 25 (Kk [25] (So IS (.seq (So IR (.block 3 (.loop yR))) (So IM .ret)))) (Kk [1,25] .skip)))))))) (So IL .ret)))
def F69:FnC:=⟨r69,40,[.tmp 4],[],[]⟩
def XS:List RI:=[oo 2 (.box (.t 0)) [0],oo 3 (.box (.t 1)) [1],oo 4 (.mov (ci 0)) [4]]
def XR:List FI:=[Fs 0 5 (Fa 0 2),Fs 1 6 (Ld 5),Fs 2 7 (Fa 0 3),Fs 3 8 (Ld 7),Fs 5 10 (Fa 1 2),Fs 6 11 (Ld 10),Fs 7 12 (Fa 1 3),Fs 8 13 (Ld 12),Fs 10 15 (Fa 2 2),Fs 11 16 (Ld 15),Fs 12 17 (Fa 2 3),Fs 13 18 (Ld 17),Fs 15 20 (Fa 3 2),Fs 16 21 (Ld 20),Fs 17 22 (Fa 3 3),Fs 18 23 (Ld 22),Fz 4 9 (Ca 122 [.t 6,.t 8]),Fz 9 14 (Ca 123 [.t 11,.t 13]),Fz 14 19 (Ca 122 [.t 16,.t 18]),Fz 19 24 (Ca 61 [.t 21,.t 23]),Fs 20 25 (.lit 1 [.t 9,.t 14,.t 19,.t 24]),Fz 21 26 (Ca 121 [.t 25]),Fm 22 4 26]
def r72:RC:=(So XS (.seq (.flt [0,1,0,4,15,0,32,0,128,511,0,1024,0,4096,16383,0,32768,0,131072,524287,1048575,2097151,4194303] [] XR [2,3,5,6,7,8,9,10,11,12,13,14,15,16,17,18,19,20,21,22,23,24,25,26]) .ret))
def F72:FnC:=⟨r72,27,[.tmp 4],[],[]⟩
def XQ:List RI:=[oo 2 (.mov (ci 0)) [2]]
def XP:List RI:=[om 8 0,oo 9 (Ln 8) [8],oo 10 (Bc .eql 9 0) [9],omk 11 10,.grp 11 false [(xi 12 11 false (Mv 0)),(xi 13 11 false (Ln 12)),(xi 14 11 false (Bc .gtr 13 8))] [12,13],oo 15 (Pt 11 14) [11,14]]
def XO:List RI:=[on 2 (.mov (ci 1))]
def XN:List RI:=[on 3 (.mov (.c (.bool false))),on 4 (.mov (.c (.bool false)))]
def XM:List RI:=[on 5 (.mov (ci 0))]
def XL:List RI:=[om 16 5,om 17 0,oo 18 (Ln 17) [17],oo 19 (Bb .lss 16 18) [16,18]]
def XK:List RI:=[om 22 0,om 23 5,oo 24 (Ia 4 22 23) [22,23],oo 25 (.load 4 true (.t 24)) [24],oo 26 (Ca 81 [.t 25]) [25],omk 6 26]
def XJ:List RI:=[om 27 6,oo 28 (Bc .neq 27 0) [27]]
def XI:List RI:=[omk 29 6,omk 2 29]
def XH:List FI:=[Fm 0 30 5,Fs 1 31 (Bc .gtr 30 0),Fm 2 32 31,Fi 3 33 32 true (Mv 0),Fi 4 34 32 true (Mv 5),Fi 5 35 32 true (Ia 4 33 34),Fi 6 36 32 true (Fa 0 35),Fi 7 37 32 true (Ld 36),Fi 8 38 32 true (Mv 0),Fi 9 39 32 true (Mv 5),Fi 10 40 32 true (Bc .sub 39 1),Fi 11 41 32 true (Ia 4 38 40),Fi 12 42 32 true (Fa 0 41),Fi 13 43 32 true (Ld 42),Fi 14 44 32 true (Bb .lss 37 43),Fs 15 45 (Pf 32 44)]
def IK:List RI:=[on 2 (.mov (ci 41))]
def IJ:List RI:=[on 7 (.mov (ci 0))]
def II:List RI:=[om 46 7,om 47 5,oo 48 (Bb .lss 46 47) [46,47]]
def IH:List FI:=[Fm 0 51 0,Fm 1 52 7,Fs 2 53 (Ia 4 51 52),Fs 3 54 (Fa 0 53),Fs 4 55 (Ld 54),Fm 5 56 0,Fm 6 57 5,Fs 7 58 (Ia 4 56 57),Fs 8 59 (Fa 0 58),Fs 9 60 (Ld 59),Fs 10 61 (Bb .eql 55 60),Fm 11 62 61,Fi 12 63 62 true (Mv 0),Fi 13 64 62 true (Mv 7),Fi 14 65 62 true (Ia 4 63 64),Fi 15 66 62 true (Fa 1 65),Fi 16 67 62 true (Ld 66),Fi 17 68 62 true (Mv 0),Fi 18 69 62 true (Mv 5),Fi 19 70 62 true (Ia 4 68 69),Fi 20 71 62 true (Fa 1 70),Fi 21 72 62 true (Ld 71),Fi 22 73 62 true (Bb .eql 67 72),Fs 23 74 (Pf 62 73)]
def IG:List RI:=[on 2 (.mov (ci 42))]
def IF:List RI:=[omk 49 7,oo 50 (Bc .add 49 1) [49],omk 7 50]
def zG:RC:=(.seq (So II (Kc 48 (Kk [48] .skip) (Kk [7,48] (.exit 2)))) (.seq (.block 3 (.seq (.flt [0,0,3,7,15,0,0,96,224,480,1023,2047,4095,4095,16383,32767,65535,4095,4095,397311,921599,1970175,4194303,8388607] [] IH [51,52,53,54,55,56,57,58,59,60,61,62,63,64,65,66,67,68,69,70,71,72,73]) (Kc 74 (Kk [0,3,4,5,7,74] (So IG .ret)) (Kk [74] .skip)))) (.ops IF)))
def yQ:RC:=zG
def IE:List RI:=[omk 75 3,omk 76 75,.grp 76 false [(xi 77 76 false (Mv 0)),(xi 78 76 false (Mv 5)),(xi 79 76 false (Ia 4 77 78)),(xi 80 76 false (Fa 0 79)),(xi 81 76 false (Ld 80)),(xi 82 76 false (Bc .eql 81 1))] [77,78,79,80,81],oo 83 (Pt 76 82) [76,82],omk 3 83]
def ID:List RI:=[omk 84 4,omk 85 84,.grp 85 false [(xi 86 85 false (Mv 0)),(xi 87 85 false (Mv 5)),(xi 88 85 false (Ia 4 86 87)),(xi 89 85 false (Fa 0 88)),(xi 90 85 false (Ld 89)),(xi 91 85 false (Bc .eql 90 3))] [86,87,88,89,90],oo 92 (Pt 85 91) [85,91],omk 4 92]
def IC:List RI:=[omk 20 5,oo 21 (Bc .add 20 1) [20],omk 5 21]
def zF:RC:=(.seq (So XL (Kc 19 (Kk [19] .skip) (Kk [0,5,19] (.exit 0)))) (.seq (.block 1 (.seq (So XK (So XJ (Kc 28 (Kk [0,3,4,5,28] (So XI .ret)) (Kk [6,28] .skip)))) (.seq (.seq (.flt [0,1,3,7,7,31,63,127,7,7,519,1799,3847,7943,16383,32767] [] XH [30,31,32,33,34,35,36,37,38,39,40,41,42,43,44]) (Kc 45 (Kk [0,3,4,5,45] (So IK .ret)) (Kk [45] .skip))) (.seq (So IJ (.block 2 (.loop yQ))) (So IE (.ops ID)))))) (.ops IC)))
def uB:RC:=zF
def IB:List RI:=[omk 93 3,oo 94 (.un .not (.t 93)) [93],omk 95 94,.grp 95 false [(xi 96 95 false (Mv 4)),(xi 97 95 false (.un .not (.t 96)))] [4,96],oo 98 (Pt 95 97) [95,97]]
def IA:List RI:=[on 2 (.mov (ci 40))]
def Iz:List RI:=[on 2 (.mov (ci 0))]
def r75:RC:=(So XQ (.seq (So XP (Kc 15 (Kk [0,15] (So XO .ret)) (Kk [15] .skip))) (So XN (.seq (So XM (.block 0 (.loop uB))) (.seq (So IB (Kc 98 (Kk [98] (So IA .ret)) (Kk [98] .skip))) (So Iz .ret))))))
def F75:FnC:=⟨r75,99,[.tmp 2],[],[]⟩
def XG:List RI:=[on 8 (.new (.rc Zq0))]
def XF:List RI:=[omk 11 0,om 12 1,on 13 (.mk [(.byt [] .no)] 24 (ci 2) (ci 2)),om 14 3,oo 15 (.build Zq0 [(0,1,(.t 11)),(1,1,(.t 12)),(2,1,(.t 13)),(3,1,(.t 14))]) [11,12,13,14],on 9 (.new (.rc Zq0)),.op ⟨none,none,.store 4 (.t 9) (.t 15)⟩ [15]]
def XE:List RI:=[on 10 (.mov (ci 0))]
def XD:List RI:=[om 16 10,oo 17 (Bc .lss 16 2) [16]]
def XC:List RI:=[om 20 2,om 21 10,oo 22 (Ca 124 [.t 20,.t 21]) [20,21],omk 23 22,.grp 23 true [(xi 24 23 true (Mv 1)),(xi 25 23 true (Bc .neq 24 5))] [24],oo 26 (Pf 23 25) [23,25]]
def XB:List FI:=[Fs 0 27 (Fa 2 9),Fs 1 28 (Ld 27),Fm 2 29 10,Fm 3 30 10,Fm 4 31 3,Fz 5 32 (Ca 99 [.t 30,.t 31]),Fs 6 33 (Ia 1 28 29),⟨7,false,⟨none,none,.store 1 (.t 33) (.t 32)⟩⟩]
def XA:List RI:=[omk 18 10,oo 19 (Bc .add 18 1) [18],omk 10 19]
def Rz:RC:=(.seq (So XD (Kc 17 (Kk [17] .skip) (Kk [1,2,3,10,17] (.exit 0)))) (.seq (.block 1 (So XC (Kc 26 (Kk [26] (.flt [0,1,0,0,0,24,63,127] [] XB [27,28,29,30,31,32,33])) (Kk [26] .skip)))) (.ops XA)))
def Xz:RC:=Rz
def Xy:List RI:=[oo 34 (.load 4 true (.t 9)) [9],.op ⟨none,none,.store 4 (.t 8) (.t 34)⟩ [34]]
def r76:RC:=(So XG (So XF (.seq (So XE (.block 0 (.loop Xz))) (So Xy .ret))))
def F76:FnC:=⟨r76,35,[.cell 8 4 true],[],[]⟩
def Xx:List RI:=[oo 0 (.mov (.c (.byt [] .clip))) [0]]
def Xw:List RI:=[on 1 (.litB [(.c (.u8 0)),(.c (.u8 0)),(.c (.u8 0)),(.c (.u8 0))]),omk 0 1]
def r77:RC:=(So Xx (So Xw .ret))
def F77:FnC:=⟨r77,2,[.tmp 0],[],[]⟩
def Xv:List RI:=[oo 2 (.box (.t 0)) [0],on 4 (.new (.rc Zq0))]
def Xu:List RI:=[on 5 (.load 4 true (.t 2)),oo 6 (Ca 81 [.t 5]) [5],oo 7 (Bc .neq 6 0) [6],omk 8 7,.grp 8 false [(xi 9 8 false (Fa 0 2)),(xi 10 8 false (Ld 9)),(xi 11 8 false (Bc .eql 10 4))] [9,10],oo 12 (Pt 8 11) [8,11]]
def Xt:List RI:=[on 13 (.build Zq0 []),.op ⟨none,none,.store 4 (.t 4) (.t 13)⟩ [13]]
def Xs:List FI:=[Fs 0 14 (Fa 0 2),Fs 1 15 (Ld 14),Fs 3 17 (.load 4 true (.t 2)),Fm 4 18 1,Fs 6 20 (Fa 1 2),Fs 7 21 (Ld 20),Fs 8 22 (Fa 2 2),Fs 9 23 (Ld 22),Fz 2 16 (Ca 55 [.t 15]),Fz 5 19 (Ca 125 [.t 17,.t 18]),Fz 10 24 (Ca 56 [.t 21,.t 23]),Fs 11 25 (.build Zq0 [(0,1,(.t 16)),(1,1,(ci 1)),(2,1,(.t 19)),(3,1,(.t 24))]),⟨12,false,⟨none,none,.store 4 (.t 4) (.t 25)⟩⟩]
def r78:RC:=(So Xv (.seq (So Xu (Kc 12 (Kk [1,2,12] (So Xt .ret)) (Kk [12] .skip))) (.seq (.flt [0,1,3,0,0,31,0,64,0,256,1023,2047,4095] [] Xs [1,2,14,15,16,17,18,19,20,21,22,23,24,25]) .ret)))
def F78:FnC:=⟨r78,26,[.cell 4 4 true],[],[]⟩
def Xr:List RI:=[oo 1 (.box (.t 0)) [0],oo 2 (.mov (.c (.lst 1 [] .clip))) [2]]
def Xq:List RI:=[on 3 (.mov (.c (.lst 1 [] .clip)))]
def Xp:List RI:=[on 4 (.mov (.c (.byt [] .clip)))]
def Xo:List RI:=[on 5 (.mov (ci 0))]
def Xn:List RI:=[om 7 5,on 8 (Fa 3 1),oo 9 (Ld 8) [8],oo 10 (Ln 9) [9],oo 11 (Bb .lss 7 10) [7,10]]
def Xm:List RI:=[on 14 (Fa 3 1),oo 15 (Ld 14) [14],om 16 5,oo 17 (Ia 1 15 16) [15,16],oo 18 (Ld 17) [17],omk 6 18]
def Xl:List RI:=[om 19 6,oo 20 (.bin .eql (.t 19) (.c (.u8 10))) [19]]
def Xk:List RI:=[om 21 4,oo 22 (Ln 21) [21],oo 23 (Bc .eql 22 0) [22],omk 24 23,.grp 24 false [(xi 25 24 false (Mv 3)),(xi 26 24 false (Ln 25)),(xi 27 24 false (Bc .geq 26 4))] [25,26],oo 28 (Pt 24 27) [24,27]]
def Xj:List RI:=[on 2 (.mov (.c (.lst 1 [] .clip)))]
def Xi:List RI:=[omk 29 3,omk 30 4,oo 31 (.lit 1 [.t 30]) [30],oo 32 (.app [.byt [] .clip] 24 (.t 29) (.t 31)) [29,31],omk 3 32]
def Iy:List RI:=[on 4 (.mov (.c (.byt [] .clip)))]
def Ix:List RI:=[om 33 6,oo 34 (.bin .lss (.t 33) (.c (.u8 32))) [33],omk 35 34,.grp 35 false [(xi 36 35 false (Mv 6)),(xi 37 35 false (.bin .gtr (.t 36) (.c (.u8 126))))] [36],oo 38 (Pt 35 37) [35,37]]
def Iw:List RI:=[on 2 (.mov (.c (.lst 1 [] .clip)))]
def Iv:List RI:=[omk 39 4,omk 40 6,oo 41 (.litB [.t 40]) [40],oo 42 (.app [.u8 0] 1 (.t 39) (.t 41)) [39,41],omk 4 42]
def Iu:List RI:=[omk 12 5,oo 13 (Bc .add 12 1) [12],omk 5 13]
def zE:RC:=(.post (.seq (So Xn (Kc 11 (Kk [11] .skip) (Kk [1,5,11] (.exit 0)))) (.seq (.block 1 (So Xm (.seq (So Xl (Kc 20 (Kk [6,20] (.seq (So Xk (Kc 28 (Kk [1,3,4,5,28] (So Xj .ret)) (Kk [28] .skip))) (So Xi (So Iy (.exit 1))))) (Kk [20] .skip))) (.seq (So Ix (Kc 38 (Kk [1,3,4,5,6,38] (So Iw .ret)) (Kk [38] .skip))) (.ops Iv))))) (.ops Iu))) [.tok 3 103,.tok 4 104])
def yP:RC:=zE
def It:List RI:=[omk 43 4,oo 44 (Ln 43) [43],oo 45 (Bc .gtr 44 0) [44]]
def Is:List RI:=[on 2 (.mov (.c (.lst 1 [] .clip)))]
def Ir:List RI:=[omk 46 3,omk 2 46]
def r79:RC:=(So Xr (So Xq (So Xp (.seq (So Xo (.block 0 (.pre [.tok 3 103,.tok 4 104] (.loop yP)))) (.seq (So It (Kc 45 (Kk [3,45] (So Is .ret)) (Kk [45] .skip))) (So Ir .ret))))))
def F79:FnC:=⟨r79,47,[.tmp 2],[],[]⟩
def Xh:List RI:=[oo 2 (.mov (.c (.byt [] .clip))) [2]]
def Xg:List RI:=[on 18 (Ca 126 []),on 3 (.new (.arr 1 (am 64 [.int .u32 0]))),.op ⟨none,none,.store 64 (.t 3) (.t 18)⟩ [18]]
def Xf:List RI:=[.own (xs 19 (.lit 1 [(.c (.int .u32 1779033703)),(.c (.int .u32 3144134277)),(.c (.int .u32 1013904242)),(.c (.int .u32 2773480762)),(.c (.int .u32 1359893119)),(.c (.int .u32 2600822924)),(.c (.int .u32 528734635)),(.c (.int .u32 1541459225))])) [],omk 4 19]
def Xe:List RI:=[omk 20 0,oo 21 (Ca 127 [.t 20]) [20],omk 5 21]
def Xd:List RI:=[on 6 (.mov (ci 0))]
def Xc:List RI:=[om 22 6,om 23 5,oo 24 (Ln 23) [23],oo 25 (Bb .lss 22 24) [22,24]]
def Xb:List RI:=[on 7 (.new (.arr 1 (am 64 [.int .u32 0])))]
def Xa:List RI:=[on 8 (.mov (ci 0))]
def W9:List RI:=[om 28 8,oo 29 (Bc .lss 28 64) [28]]
def W8:List RI:=[om 32 8,oo 33 (Bc .lss 32 16) [32]]
def Iq:List RI:=[om 34 8,om 35 5,om 36 6,om 37 6,oo 38 (Bc .add 37 64) [37],oo 39 (.slcL 1 (.t 35) (some (.t 36)) (some (.t 38)) none) [35,36,38],om 40 8,oo 41 (Ca 128 [.t 39,.t 40]) [39,40],oo 42 (.iaddrA 64 1 (.t 7) (.t 34)) [34],.op ⟨none,none,.store 1 (.t 42) (.t 41)⟩ [41,42]]
def Ip:List FI:=[Fm 0 43 8,Fs 1 44 (Bc .sub 43 15),Fs 2 45 (.iaddrA 64 1 (.t 7) (.t 44)),Fs 3 46 (Ld 45),Fm 5 48 8,Fs 6 49 (Bc .sub 48 15),Fs 7 50 (.iaddrA 64 1 (.t 7) (.t 49)),Fs 8 51 (Ld 50),Fm 11 54 8,Fs 12 55 (Bc .sub 54 15),Fs 13 56 (.iaddrA 64 1 (.t 7) (.t 55)),Fs 14 57 (Ld 56),Fs 15 58 (.bin .shr (.t 57) (.c (.int .u64 3))),Fz 4 47 (Ca 129 [.t 46,(.c (.int .u64 7))]),Fz 9 52 (Ca 129 [.t 51,(.c (.int .u64 18))]),Fs 10 53 (Bb .xor 47 52),Fs 16 59 (Bb .xor 53 58),Fm 17 9 59]
def Io:List FI:=[Fm 0 60 8,Fs 1 61 (Bc .sub 60 2),Fs 2 62 (.iaddrA 64 1 (.t 7) (.t 61)),Fs 3 63 (Ld 62),Fm 5 65 8,Fs 6 66 (Bc .sub 65 2),Fs 7 67 (.iaddrA 64 1 (.t 7) (.t 66)),Fs 8 68 (Ld 67),Fm 11 71 8,Fs 12 72 (Bc .sub 71 2),Fs 13 73 (.iaddrA 64 1 (.t 7) (.t 72)),Fs 14 74 (Ld 73),Fs 15 75 (.bin .shr (.t 74) (.c (.int .u64 10))),Fz 4 64 (Ca 129 [.t 63,(.c (.int .u64 17))]),Fz 9 69 (Ca 129 [.t 68,(.c (.int .u64 19))]),Fs 10 70 (Bb .xor 64 69),Fs 16 76 (Bb .xor 70 75),Fm 17 10 76]
def In:List FI:=[Fm 0 77 8,Fm 1 78 10,Fm 2 79 8,Fs 3 80 (Bc .sub 79 7),Fs 4 81 (.iaddrA 64 1 (.t 7) (.t 80)),Fs 5 82 (Ld 81),Fs 6 83 (Bb .add 78 82),Fm 7 84 9,Fs 8 85 (Bb .add 83 84),Fm 9 86 8,Fs 10 87 (Bc .sub 86 16),Fs 11 88 (.iaddrA 64 1 (.t 7) (.t 87)),Fs 12 89 (Ld 88),Fs 13 90 (Bb .add 85 89),Fs 14 91 (.iaddrA 64 1 (.t 7) (.t 77)),⟨15,false,⟨none,none,.store 1 (.t 91) (.t 90)⟩⟩]
def Im:List RI:=[omk 30 8,oo 31 (Bc .add 30 1) [30],omk 8 31]
def zD:RC:=(.seq (So W9 (Kc 29 (Kk [29] .skip) (Kk [8,29] (.exit 2)))) (.seq (.block 3 (.seq (So W8 (Kc 33 (Kk [33] (So Iq (.exit 3))) (Kk [33] .skip))) (.seq (.flt [0,1,3,7,15,0,32,96,224,511,1023,0,2048,6144,14336,30720,65535,131071] [] Ip [43,44,45,46,47,48,49,50,51,52,53,54,55,56,57,58,59]) (.seq (.flt [0,1,3,7,15,0,32,96,224,511,1023,0,2048,6144,14336,30720,65535,131071] [] Io [60,61,62,63,64,65,66,67,68,69,70,71,72,73,74,75,76]) (.flt [0,0,0,4,12,28,62,0,254,0,512,1536,3584,8190,16383,32767] [] In [9,10,77,78,79,80,81,82,83,84,85,86,87,88,89,90,91]))))) (.ops Im)))
def yO:RC:=zD
def Il:List RI:=[on 92 (.lit 1 []),om 93 4,oo 94 (.app [.int .u32 0] 4 (.t 92) (.t 93)) [92,93],omk 11 94]
def Ik:List RI:=[on 12 (.mov (ci 0))]
def Ij:List RI:=[om 95 12,oo 96 (Bc .lss 95 64) [95]]
def Ii:List FI:=[Fm 0 99 11,Fs 1 100 (.iaddrL 1 (.t 99) (ci 0)),Fs 2 101 (Ld 100),Fm 3 102 11,Fs 4 103 (.iaddrL 1 (.t 102) (ci 4)),Fs 5 104 (Ld 103),Fm 6 13 101,Fm 7 14 104]
def Ih:List FI:=[Fm 0 105 11,Fs 1 106 (.iaddrL 1 (.t 105) (ci 7)),Fs 2 107 (Ld 106),Fm 3 108 14,Fm 5 110 14,Fm 8 113 14,Fm 12 117 14,Fm 13 118 11,Fs 14 119 (.iaddrL 1 (.t 118) (ci 5)),Fs 15 120 (Ld 119),Fs 16 121 (Bb .and 117 120),Fm 17 122 14,Fs 18 123 (.un .xor (.t 122)),Fm 19 124 11,Fs 20 125 (.iaddrL 1 (.t 124) (ci 6)),Fs 21 126 (Ld 125),Fs 22 127 (Bb .and 123 126),Fs 23 128 (Bb .xor 121 127),Fm 25 130 12,Fs 26 131 (.iaddrA 64 1 (.t 3) (.t 130)),Fs 27 132 (Ld 131),Fm 29 134 12,Fs 30 135 (.iaddrA 64 1 (.t 7) (.t 134)),Fs 31 136 (Ld 135),Fz 4 109 (Ca 129 [.t 108,(.c (.int .u64 6))]),Fz 6 111 (Ca 129 [.t 110,(.c (.int .u64 11))]),Fs 7 112 (Bb .xor 109 111),Fz 9 114 (Ca 129 [.t 113,(.c (.int .u64 25))]),Fs 10 115 (Bb .xor 112 114),Fs 11 116 (Bb .add 107 115),Fs 24 129 (Bb .add 116 128),Fs 28 133 (Bb .add 129 132),Fs 32 137 (Bb .add 133 136),Fm 33 15 137]
def Ig:List FI:=[Fm 0 138 13,Fm 2 140 13,Fm 5 143 13,Fm 8 146 13,Fm 9 147 11,Fs 10 148 (.iaddrL 1 (.t 147) (ci 1)),Fs 11 149 (Ld 148),Fs 12 150 (Bb .and 146 149),Fm 13 151 13,Fm 14 152 11,Fs 15 153 (.iaddrL 1 (.t 152) (ci 2)),Fs 16 154 (Ld 153),Fs 17 155 (Bb .and 151 154),Fs 18 156 (Bb .xor 150 155),Fm 19 157 11,Fs 20 158 (.iaddrL 1 (.t 157) (ci 1)),Fs 21 159 (Ld 158),Fm 22 160 11,Fs 23 161 (.iaddrL 1 (.t 160) (ci 2)),Fs 24 162 (Ld 161),Fs 25 163 (Bb .and 159 162),Fs 26 164 (Bb .xor 156 163),Fz 1 139 (Ca 129 [.t 138,(.c (.int .u64 2))]),Fz 3 141 (Ca 129 [.t 140,(.c (.int .u64 13))]),Fs 4 142 (Bb .xor 139 141),Fz 6 144 (Ca 129 [.t 143,(.c (.int .u64 22))]),Fs 7 145 (Bb .xor 142 144),Fs 27 165 (Bb .add 145 164),Fm 28 16 165]
def If:List FI:=[Fm 0 166 15,Fm 1 167 16,Fs 2 168 (Bb .add 166 167),Fm 3 169 13,Fm 4 170 11,Fs 5 171 (.iaddrL 1 (.t 170) (ci 1)),Fs 6 172 (Ld 171),Fm 7 173 11,Fs 8 174 (.iaddrL 1 (.t 173) (ci 2)),Fs 9 175 (Ld 174),Fm 10 176 11,Fs 11 177 (.iaddrL 1 (.t 176) (ci 3)),Fs 12 178 (Ld 177),Fm 13 179 15,Fs 14 180 (Bb .add 178 179),Fm 15 181 14,Fm 16 182 11,Fs 17 183 (.iaddrL 1 (.t 182) (ci 5)),Fs 18 184 (Ld 183),Fm 19 185 11,Fs 20 186 (.iaddrL 1 (.t 185) (ci 6)),Fs 21 187 (Ld 186),Fs 22 188 (.lit 1 [.t 168,.t 169,.t 172,.t 175,.t 180,.t 181,.t 184,.t 187]),⟨23,false,(xm 11 188)⟩]
def Ie:List RI:=[omk 97 12,oo 98 (Bc .add 97 1) [97],omk 12 98]
def zC:RC:=(.seq (So Ij (Kc 96 (Kk [96] .skip) (Kk [7,12,96] (.exit 4)))) (.seq (.block 5 (.seq (.flt [0,1,3,0,8,24,7,127] [] Ii [99,100,101,102,103,104]) (.seq (.flt [0,1,3,0,8,0,56,120,0,376,1016,2047,0,0,8192,24576,61440,0,131072,0,524288,1572864,4063232,8384512,16777215,0,33554432,100663296,268435455,0,536870912,1610612736,4294967295,8589934591] [] Ih [105,106,107,108,109,110,111,112,113,114,115,116,117,118,119,120,121,122,123,124,125,126,127,128,129,130,131,132,133,134,135,136,137]) (.seq (.flt [0,1,0,7,15,0,47,127,0,0,512,1536,3840,0,0,16384,49152,122880,261888,0,524288,1572864,0,4194304,12582912,33030144,67108608,134217727,268435455] [] Ig [138,139,140,141,142,143,144,145,146,147,148,149,150,151,152,153,154,155,156,157,158,159,160,161,162,163,164,165]) (.flt [0,0,3,0,0,16,48,0,128,384,0,1024,3072,0,15360,0,0,65536,196608,0,524288,1572864,4194303,8388607] [] If [13,14,15,16,166,167,168,169,170,171,172,173,174,175,176,177,178,179,180,181,182,183,184,185,186,187,188]))))) (.ops Ie)))
def yN:RC:=zC
def Ic:List RI:=[on 17 (.mov (ci 0))]
def Ib:List RI:=[om 189 17,oo 190 (Bc .lss 189 8) [189]]
def H9:List FI:=[Fm 0 193 4,Fm 1 194 17,Fs 2 195 (Ia 1 193 194),Fs 3 196 (Ld 195),Fm 4 197 11,Fm 5 198 17,Fs 6 199 (Ia 1 197 198),Fs 7 200 (Ld 199),Fs 8 201 (Bb .add 196 200),Fs 9 202 (Ia 1 193 194),⟨10,false,⟨none,none,.store 1 (.t 202) (.t 201)⟩⟩]
def H8:List RI:=[omk 191 17,oo 192 (Bc .add 191 1) [191],omk 17 192]
def zB:RC:=(.seq (So Ib (Kc 190 (Kk [190] .skip) (Kk [11,17,190] (.exit 6)))) (.seq (.block 7 (.flt [0,0,3,7,0,0,48,112,255,511,1023] [] H9 [193,194,195,196,197,198,199,200,201,202])) (.ops H8)))
def yM:RC:=zB
def H7:List RI:=[omk 26 6,oo 27 (Bc .add 26 64) [26],omk 6 27]
def zA:RC:=(.post (.seq (So Xc (Kc 25 (Kk [25] .skip) (Kk [3,5,6,25] (.exit 0)))) (.seq (.block 1 (So Xb (.seq (So Xa (.block 2 (.loop yO))) (So Il (.seq (So Ik (.block 4 (.loop yN))) (So Ic (.block 6 (.loop yM)))))))) (.ops H7))) [.gc [107,194]])
def yL:RC:=zA
def H6:List RI:=[omk 203 4,oo 204 (Ca 130 [.t 203]) [203],omk 2 204]
def r80:RC:=(So Xh (So Xg (So Xf (So Xe (.seq (So Xd (.block 0 (.loop yL))) (So H6 .ret))))))
def F80:FnC:=⟨r80,205,[.tmp 2],[],[]⟩
def W7:List RI:=[oo 1 (.box (.t 0)) [0],oo 2 (.mov (ci 0)) [2]]
def W6:List RI:=[on 3 (Fa 0 1),oo 4 (Ld 3) [3],oo 5 (Bc .lss 4 1) [4],omk 6 5,.grp 6 false [(xi 7 6 false (Fa 0 1)),(xi 8 6 false (Ld 7)),(xi 9 6 false (Bc .gtr 8 4))] [7,8],oo 10 (Pt 6 9) [6,9],omk 11 10,.grp 11 false [(xi 12 11 false (Fa 2 1)),(xi 13 11 false (Ld 12)),(xi 14 11 false (Bc .lss 13 0))] [12,13],oo 15 (Pt 11 14) [11,14],omk 16 15,.grp 16 false [(xi 17 16 false (Fa 2 1)),(xi 18 16 false (Ld 17)),(xi 19 16 false (Bc .gtr 18 1000000))] [17,18],oo 20 (Pt 16 19) [16,19]]
def W5:List RI:=[on 2 (.mov (ci 1))]
def W4:List RI:=[on 21 (Fa 1 1),oo 22 (Ld 21) [21],oo 23 (Ca 95 [.t 22]) [22],oo 24 (.un .not (.t 23)) [23]]
def W3:List RI:=[on 2 (.mov (ci 43))]
def W2:List RI:=[on 25 (Fa 3 1),oo 26 (Ld 25) [25],oo 27 (Ln 26) [26],oo 28 (Bc .gtr 27 64) [27]]
def W1:List RI:=[on 2 (.mov (ci 4))]
def W0:List RI:=[on 29 (Fa 0 1),oo 30 (Ld 29) [29],oo 31 (Bc .eql 30 4) [30],omk 32 31,.grp 32 true [(xi 33 32 true (.load 4 true (.t 1))),(xi 34 32 true (Ca 79 [.t 33])),(xi 35 32 true (Ln 34)),(xi 36 32 true (Bc .eql 35 0))] [1,33,34,35],oo 37 (Pf 32 36) [32,36]]
def WZ:List RI:=[on 2 (.mov (ci 40))]
def WY:List RI:=[on 2 (.mov (ci 0))]
def r81:RC:=(So W7 (.seq (So W6 (Kc 20 (Kk [1,20] (So W5 .ret)) (Kk [20] .skip))) (.seq (So W4 (Kc 24 (Kk [1,24] (So W3 .ret)) (Kk [24] .skip))) (.seq (So W2 (Kc 28 (Kk [1,28] (So W1 .ret)) (Kk [28] .skip))) (.seq (So W0 (Kc 37 (Kk [37] (So WZ .ret)) (Kk [37] .skip))) (So WY .ret))))))
def F81:FnC:=⟨r81,38,[.tmp 2],[],[]⟩
def WX:List RI:=[oo 6 (.mov (.c (.byt [] .clip))) [6]]
def WW:List RI:=[on 9 (.litB []),omk 10 0,oo 11 (.app [.u8 0] 1 (.t 9) (.t 10)) [9,10],omk 7 11]
def WV:List RI:=[om 12 1,oo 13 (Bc .lss 12 1) [12],omk 14 13,.grp 14 false [(xi 15 14 false (Mv 1)),(xi 16 14 false (Bc .gtr 15 8))] [15],oo 17 (Pt 14 16) [14,16]]
def WU:List RI:=[omk 18 7,omk 6 18]
def WT:List RI:=[omk 19 1,oo 20 (Bc .sub 19 1) [19],omk 8 20]
def WS:List RI:=[om 21 8,oo 22 (Bc .geq 21 0) [21]]
def WR:List RI:=[omk 25 7,om 26 2,oo 27 (.toInt .u64 (.t 26)) [26],om 28 8,oo 29 (.toInt .u64 (.t 28)) [28],oo 30 (.bin .mul (.c (.int .u64 8)) (.t 29)) [29],oo 31 (Bb .shr 27 30) [27,30],oo 32 (.toInt .u8 (.t 31)) [31],oo 33 (.litB [.t 32]) [32],oo 34 (.app [.u8 0] 1 (.t 25) (.t 33)) [25,33],omk 7 34]
def WQ:List RI:=[omk 23 8,oo 24 (Bc .sub 23 1) [23],omk 8 24]
def Ry:RC:=(.post (.seq (So WS (Kc 22 (Kk [22] .skip) (Kk [2,8,22] (.exit 0)))) (.seq (.block 1 (.ops WR)) (.ops WQ))) [.tok 7 107])
def Re:RC:=Ry
def WP:List RI:=[omk 35 7,omk 6 35]
def r82:RC:=(So WX (So WW (.seq (So WV (Kc 17 (Kk [1,2,17] (So WU .ret)) (Kk [17] .skip))) (.seq (So WT (.block 0 (.pre [.tok 7 107] (.loop Re)))) (So WP .ret)))))
def F82:FnC:=⟨r82,36,[.tmp 6],[0],[]⟩
def WO:List RI:=[oo 4 (.mov (.c (.byt [] .clip))) [4]]
def WN:List RI:=[om 5 1,oo 6 (Ln 5) [5],oo 7 (Bc .gtr 6 65535) [6]]
def WM:List RI:=[omk 8 1,oo 9 (.slcL 1 (.t 8) none (some (ci 65535)) none) [8],omk 1 9]
def WL:List RI:=[omk 10 0,om 11 1,oo 12 (Ln 11) [11],oo 13 (Ca 82 [.t 10,ci 2,.t 12]) [10,12],omk 14 1,oo 15 (.app [.u8 0] 1 (.t 13) (.t 14)) [13,14],omk 4 15]
def r83:RC:=(So WO (.seq (So WN (Kc 7 (Kk [7] (.ops WM)) (Kk [7] .skip))) (So WL .ret)))
def F83:FnC:=⟨r83,16,[.tmp 4],[0],[]⟩
def WK:List RI:=[oo 2 (.box (.t 0)) [0],oo 3 (.box (.t 1)) [1],oo 4 (.mov (.c (.bool false))) [4]]
def WJ:List RI:=[on 5 (Fa 0 2),oo 6 (Ld 5) [5],on 7 (Fa 0 3),oo 8 (Ld 7) [7],oo 9 (Bb .neq 6 8) [6,8]]
def WI:List RI:=[oo 10 (Fa 0 2) [2],oo 11 (Ld 10) [10],oo 12 (Fa 0 3) [3],oo 13 (Ld 12) [12],oo 14 (Bb .lss 11 13) [11,13],omk 4 14]
def WH:List RI:=[on 15 (Fa 1 2),oo 16 (Ld 15) [15],on 17 (Fa 1 3),oo 18 (Ld 17) [17],oo 19 (Bb .neq 16 18) [16,18]]
def WG:List RI:=[oo 20 (Fa 1 2) [2],oo 21 (Ld 20) [20],oo 22 (Fa 1 3) [3],oo 23 (Ld 22) [22],oo 24 (Bb .lss 21 23) [21,23],omk 4 24]
def WF:List RI:=[on 25 (Fa 2 2),oo 26 (Ld 25) [25],on 27 (Fa 2 3),oo 28 (Ld 27) [27],oo 29 (Bb .neq 26 28) [26,28]]
def WE:List RI:=[oo 30 (Fa 2 2) [2],oo 31 (Ld 30) [30],oo 32 (Fa 2 3) [3],oo 33 (Ld 32) [32],oo 34 (Bb .lss 31 33) [31,33],omk 4 34]
def WD:List RI:=[oo 35 (Fa 3 2) [2],oo 36 (Ld 35) [35],oo 37 (Fa 3 3) [3],oo 38 (Ld 37) [37],oo 39 (Ca 63 [.t 36,.t 38]) [36,38],omk 4 39]
def r84:RC:=(So WK (.seq (So WJ (Kc 9 (Kk [9] (So WI .ret)) (Kk [9] .skip))) (.seq (So WH (Kc 19 (Kk [19] (So WG .ret)) (Kk [19] .skip))) (.seq (So WF (Kc 29 (Kk [29] (So WE .ret)) (Kk [29] .skip))) (So WD .ret)))))
def F84:FnC:=⟨r84,40,[.tmp 4],[],[]⟩
def WC:List RI:=[oo 6 (.mov (.c (.lst 4 [] .clip))) [6]]
def WB:List RI:=[on 7 (.mov (.c (.lst 4 [] .clip)))]
def WA:List RI:=[om 8 0,oo 9 (Ca 131 [.t 8]) [8],omk 10 9,.grp 10 true [(xi 11 10 true (Mv 7)),(xi 12 10 true (Ln 11)),(xi 13 10 true (Mv 2)),(xi 14 10 true (Bb .lss 12 13))] [11,12,13],oo 15 (Pf 10 14) [10,14]]
def Wz:List RI:=[omk 16 7,om 17 0,om 18 1,oo 19 (Ca 38 [.t 17,.t 18]) [17,18],oo 20 (.lit 4 [.t 19]) [19],oo 21 (.app Zq0 64 (.t 16) (.t 20)) [16,20],omk 7 21]
def Rx:RC:=(.post (.seq (So WA (Kc 15 (Kk [15] .skip) (Kk [0,1,2,15] (.exit 0)))) (.block 1 (.ops Wz))) [.tok 7 107])
def Rd:RC:=Rx
def Wy:List RI:=[omk 22 7,omk 6 22]
def r85:RC:=(So WC (So WB (.seq (.block 0 (.pre [.tok 7 107] (.loop Rd))) (So Wy .ret))))
def F85:FnC:=⟨r85,23,[.tmp 6],[],[]⟩
def Wx:List RI:=[oo 2 (.mov (.c (.byt [] .clip))) [2]]
def Ww:List RI:=[on 4 (.build [.str [],.str [],.str [],.str [],.str [],.str []] [(0,1,(.c (.str [97,61,49]))),(1,1,(.c (.str [99,111,117,110,116,61,53]))),(2,1,(.c (.str [99,111,117,110,116,61,49,55]))),(3,1,(.c (.str [104,111,115,116,61,120]))),(4,1,(.c (.str [109,111,100,101,32,98]))),(5,1,(.c (.str [126])))]),on 3 (.new (.arr 1 (am 6 [.str []]))),.op ⟨none,none,.store 6 (.t 3) (.t 4)⟩ [4]]
def Wv:List RI:=[omk 5 0,oo 6 (Ca 37 [.t 5,ci 6]) [5],oo 7 (.iaddrA 6 1 (.t 3) (.t 6)) [3,6],oo 8 (Ld 7) [7],oo 9 (.s2b (.t 8)) [8],omk 2 9]
def r86:RC:=(So Wx (So Ww (So Wv .ret)))
def F86:FnC:=⟨r86,10,[.tmp 2],[],[]⟩
def Wu:List RI:=[oo 4 (.mov (.c (.lst 1 [] .clip))) [4]]
def Wt:List RI:=[on 8 (.mk [(.byt [] .no)] 24 (ci 2) (ci 2)),omk 5 8]
def Ws:List RI:=[on 6 (.mov (ci 0))]
def Wr:List RI:=[om 9 6,oo 10 (Bc .lss 9 2) [9]]
def Wq:List RI:=[om 13 0,om 14 6,oo 15 (.toInt .u64 (.t 14)) [14],oo 16 (Bb .shr 13 15) [13,15],oo 17 (Bc .and 16 1) [16],oo 18 (Bc .eql 17 1) [17]]
def Wp:List RI:=[om 19 6,oo 20 (.bin .mul (ci 12) (.t 19)) [19],oo 21 (.bin .add (ci 20) (.t 20)) [20],oo 22 (.mkB (.t 21) (.t 21)) [21],omk 7 22]
def Wo:List RI:=[om 23 7,om 24 1,oo 25 (.cpy 1 (.t 23) (.t 24)) [23,24,25]]
def Wn:List RI:=[om 26 7,oo 27 (Ln 26) [26],oo 28 (Bc .gtr 27 0) [27]]
def Wm:List RI:=[om 29 7,om 30 7,oo 31 (Ln 30) [30],oo 32 (Bc .sub 31 1) [31],on 33 (Ia 1 29 32),oo 34 (Ld 33) [33],om 35 6,oo 36 (.toInt .u8 (.t 35)) [35],oo 37 (Bb .xor 34 36) [34,36],oo 38 (Ia 1 29 32) [29,32],.op ⟨none,none,.store 1 (.t 38) (.t 37)⟩ [37,38]]
def Wj:List RI:=[om 39 5,om 40 6,omk 41 7,oo 42 (Ia 1 39 40) [39,40],.dir (.pub 41),.op ⟨none,none,.store 1 (.t 42) (.t 41)⟩ [41,42]]
def H5:List RI:=[omk 11 6,oo 12 (Bc .add 11 1) [11],omk 6 12]
def zy:RC:=(.seq (So Wr (Kc 10 (Kk [10] .skip) (Kk [0,1,6,10] (.exit 0)))) (.seq (.block 1 (So Wq (Kc 18 (Kk [18] (So Wp (So Wo (.seq (So Wn (Kc 28 (Kk [28] (.ops Wm)) (Kk [28] .skip))) (.ops Wj))))) (Kk [18] .skip)))) (.ops H5)))
def H4:RC:=zy
def H3:List RI:=[omk 43 5,omk 4 43]
def r87:RC:=(So Wu (So Wt (.seq (So Ws (.block 0 (.loop H4))) (So H3 .ret))))
def F87:FnC:=⟨r87,44,[.tmp 4],[],[]⟩
def Wi:List RI:=[oo 1 (.box (.t 0)) [0],oo 2 (.mov (ci 0)) [2]]
def Wh:List RI:=[on 4 (Fa 1 1),oo 5 (Ld 4) [4],oo 6 (Bc .eql 5 1) [5],omk 7 6,.grp 7 true [(xi 8 7 true (Fa 0 1)),(xi 9 7 true (Ld 8)),(xi 10 7 true (Bc .eql 9 0))] [8,9],oo 11 (Pf 7 10) [7,10],omk 3 11]
def Wg:List RI:=[on 2 (.mov (ci 1))]
def Wf:List RI:=[on 13 (Fa 1 1),oo 14 (Ld 13) [13],oo 15 (Bc .eql 14 1) [14],omk 16 15,.grp 16 true [(xi 17 16 true (Fa 0 1)),(xi 18 16 true (Ld 17)),(xi 19 16 true (Bc .eql 18 4))] [17,18],oo 20 (Pf 16 19) [16,19],omk 12 20]
def We:List RI:=[on 2 (.mov (ci 2))]
def Wd:List RI:=[on 22 (Fa 1 1),oo 23 (Ld 22) [22],oo 24 (Bc .eql 23 2) [23],omk 25 24,.grp 25 true [(xi 26 25 true (Fa 0 1)),(xi 27 25 true (Ld 26)),(xi 28 25 true (Bc .geq 27 0))] [26,27],oo 29 (Pf 25 28) [25,28],omk 30 29,.grp 30 true [(xi 31 30 true (Fa 0 1)),(xi 32 30 true (Ld 31)),(xi 33 30 true (Bc .lss 32 8))] [31,32],oo 34 (Pf 30 33) [30,33],omk 21 34]
def Wc:List RI:=[on 2 (.mov (ci 3))]
def Wb:List RI:=[on 36 (Fa 1 1),oo 37 (Ld 36) [36],oo 38 (Bc .eql 37 1) [37],omk 39 38,.grp 39 true [(xi 40 39 true (Fa 0 1)),(xi 41 39 true (Ld 40)),(xi 42 39 true (Bc .eql 41 8))] [40,41],oo 43 (Pf 39 42) [39,42],omk 35 43]
def Wa:List RI:=[on 2 (.mov (ci 4))]
def V9:List RI:=[on 45 (Fa 1 1),oo 46 (Ld 45) [45],oo 47 (Bc .eql 46 3) [46],omk 48 47,.grp 48 true [(xi 49 48 true (Fa 0 1)),(xi 50 48 true (Ld 49)),(xi 51 48 true (Bc .eql 50 9))] [1,49,50],oo 52 (Pf 48 51) [48,51],omk 44 52]
def H2:List RI:=[on 2 (.mov (ci 5))]
def HZ:List RI:=[on 2 (.mov (ci 0))]
def r88:RC:=(So Wi (.seq (.block 0 (So Wh (Kc 3 (Kk [1,3] (So Wg .ret)) (Kk [3] (So Wf (Kc 12 (Kk [1,12] (So We .ret)) (Kk [12] (So Wd (Kc 21 (Kk [1,21] (So Wc .ret)) (Kk [21] (So Wb (Kc 35 (Kk [1,35] (So Wa .ret)) (Kk [35] (So V9 (Kc 44 (Kk [44] (So H2 .ret)) (Kk [44] .skip)))))))))))))))) (So HZ .ret)))
def F88:FnC:=⟨r88,53,[.tmp 2],[],[]⟩
def V8:List RI:=[oo 2 (.mov (.c (.bool false))) [2]]
def V7:List RI:=[omk 3 0,oo 4 (.build Zq1 [(0,1,(ci 1)),(1,1,(.t 3))]) [3],oo 5 (Ca 68 [.t 4]) [4],oo 6 (Bc .eql 5 0) [5],omk 2 6]
def r89:RC:=(So V8 (So V7 .ret))
def F89:FnC:=⟨r89,7,[.tmp 2],[],[]⟩
def V6:List RI:=[oo 1 (.box (.t 0)) [0],oo 2 (.mov (ci 0)) [2]]
def V5:List RI:=[on 5 (Fa 0 1),oo 6 (Ld 5) [5],oo 7 (Bc .lss 6 1) [6],omk 8 7,.grp 8 false [(xi 9 8 false (Fa 0 1)),(xi 10 8 false (Ld 9)),(xi 11 8 false (Bc .gtr 10 4))] [9,10],oo 12 (Pt 8 11) [8,11]]
def V4:List RI:=[on 2 (.mov (ci 1))]
def V3:List RI:=[on 13 (Fa 1 1),oo 14 (Ld 13) [13],oo 15 (.len true (.t 14)) [14],on 16 (.mov (ci 0))]
def V2:List RI:=[on 17 (Bb .lss 16 15)]
def V1:List RI:=[om 18 16,omk 3 18]
def V0:List RI:=[on 19 (Fa 1 1),oo 20 (Ld 19) [19],omk 21 3,oo 22 (.idxS (.t 20) (.t 21)) [20,21],omk 4 22]
def VZ:List RI:=[om 23 4,oo 24 (.bin .lss (.t 23) (.c (.u8 32))) [23],omk 25 24,.grp 25 false [(xi 26 25 false (Mv 4)),(xi 27 25 false (.bin .gtr (.t 26) (.c (.u8 126))))] [4,26],oo 28 (Pt 25 27) [25,27]]
def VY:List RI:=[on 2 (.mov (ci 1))]
def VX:List RI:=[oo 29 (Bc .add 16 1) [16],omk 16 29]
def zx:RC:=(So V2 (.seq (Kc 17 (Kk [17] .skip) (Kk [15,16,17] (.exit 0))) (.seq (.block 1 (So V1 (So V0 (So VZ (Kc 28 (Kk [1,15,16,28] (So VY .ret)) (Kk [28] .skip)))))) (.ops VX))))
def yK:RC:=zx
def HY:List RI:=[on 31 (Fa 0 1),oo 32 (Ld 31) [31],oo 33 (Bc .eql 32 4) [32],omk 34 33,.grp 34 true [(xi 35 34 true (Fa 2 1)),(xi 36 34 true (Ld 35)),(xi 37 34 true (Bc .lss 36 0)),(xi 38 34 true (Mv 37))] [35,36,37],.grp 38 false [(xi 39 38 false (Fa 2 1)),(xi 40 38 false (Ld 39)),(xi 41 38 false (Fa 3 1)),(xi 42 38 false (Ld 41)),(xi 43 38 false (Bb .gtr 40 42))] [39,40,41,42],.grp 34 true [(xi 44 34 true (Pt 38 43)),(xi 45 34 true (Mv 44))] [38,43,44],.grp 45 false [(xi 46 45 false (Fa 3 1)),(xi 47 45 false (Ld 46)),(xi 48 45 false (Bc .gtr 47 1000000000))] [46,47],.grp 34 true [(xi 49 34 true (Pt 45 48))] [45,48],oo 50 (Pf 34 49) [34,49],omk 30 50]
def HX:List RI:=[on 2 (.mov (ci 1))]
def HW:List RI:=[on 52 (Fa 0 1),oo 53 (Ld 52) [52],oo 54 (Bc .neq 53 4) [53],omk 55 54,.grp 55 true [(xi 56 55 true (Fa 2 1)),(xi 57 55 true (Ld 56)),(xi 58 55 true (Bc .neq 57 0)),(xi 59 55 true (Mv 58))] [56,57,58],.grp 59 false [(xi 60 59 false (Fa 3 1)),(xi 61 59 false (Ld 60)),(xi 62 59 false (Bc .neq 61 0))] [60,61],.grp 55 true [(xi 63 55 true (Pt 59 62))] [59,62],oo 64 (Pf 55 63) [55,63],omk 51 64]
def HV:List RI:=[on 2 (.mov (ci 1))]
def HU:List RI:=[on 66 (Fa 0 1),oo 67 (Ld 66) [66],oo 68 (Bc .eql 67 1) [67],omk 69 68,.grp 69 true [(xi 70 69 true (Fa 1 1)),(xi 71 69 true (Ld 70)),(xi 72 69 true (.bin .neq (.t 71) (.c (.str []))))] [70,71],oo 73 (Pf 69 72) [69,72],omk 65 73]
def HT:List RI:=[on 2 (.mov (ci 1))]
def HS:List RI:=[oo 75 (Fa 1 1) [1],oo 76 (Ld 75) [75],oo 77 (.len true (.t 76)) [76],oo 78 (Bc .gtr 77 32) [77],omk 74 78]
def HR:List RI:=[on 2 (.mov (ci 4))]
def HQ:List RI:=[on 2 (.mov (ci 0))]
def r90:RC:=(So V6 (.seq (So V5 (Kc 12 (Kk [1,12] (So V4 .ret)) (Kk [12] .skip))) (.seq (So V3 (.block 0 (.loop yK))) (.seq (.block 2 (So HY (Kc 30 (Kk [1,30] (So HX .ret)) (Kk [30] (So HW (Kc 51 (Kk [1,51] (So HV .ret)) (Kk [51] (So HU (Kc 65 (Kk [1,65] (So HT .ret)) (Kk [65] (So HS (Kc 74 (Kk [74] (So HR .ret)) (Kk [74] .skip))))))))))))) (So HQ .ret)))))
def F90:FnC:=⟨r90,79,[.tmp 2],[],[]⟩
def VW:List RI:=[oo 2 (.mov (.c (.str []))) [2]]
def VV:List RI:=[omk 3 0,oo 4 (Ca 132 [.t 3,ci 10]) [3],omk 2 4]
def r91:RC:=(So VW (So VV .ret))
def F91:FnC:=⟨r91,5,[.tmp 2],[],[]⟩
def VU:List RI:=[oo 4 (.mov (.c (.bool false))) [4]]
def VT:List RI:=[on 5 (.mov (ci 0)),on 6 (.mov (ci 0)),on 7 (.mov (ci (-1))),on 8 (.mov (ci 0))]
def VS:List RI:=[om 9 6,om 10 1,oo 11 (Ln 10) [10],oo 12 (Bb .lss 9 11) [9,11]]
def VR:List RI:=[om 14 5,om 15 0,oo 16 (.len true (.t 15)) [15],oo 17 (Bb .lss 14 16) [14,16],omk 18 17,.grp 18 true [(xi 19 18 true (Mv 0)),(xi 20 18 true (Mv 5)),(xi 21 18 true (.idxS (.t 19) (.t 20))),(xi 22 18 true (.bin .eql (.t 21) (.c (.u8 42))))] [19,20,21],oo 23 (Pf 18 22) [18,22],omk 13 23]
def VQ:List RI:=[om 24 5,om 25 6,omk 26 5,oo 27 (Bc .add 26 1) [26],omk 7 24,omk 8 25,omk 5 27]
def VP:List FI:=[Fm 0 29 5,Fm 1 30 0,Fs 2 31 (.len true (.t 30)),Fs 3 32 (Bb .lss 29 31),Fm 4 33 32,Fi 5 34 33 true (Mv 0),Fi 6 35 33 true (Mv 5),Fi 7 36 33 true (.idxS (.t 34) (.t 35)),Fi 8 37 33 true (.bin .eql (.t 36) (.c (.u8 63))),Fi 9 38 33 true (Mv 37),Fi 10 39 38 false (Mv 0),Fi 11 40 38 false (Mv 5),Fi 12 41 38 false (.idxS (.t 39) (.t 40)),Fi 13 42 38 false (Mv 1),Fi 14 43 38 false (Mv 6),Fi 15 44 38 false (Ia 1 42 43),Fi 16 45 38 false (Ld 44),Fi 17 46 38 false (Bb .eql 41 45),Fi 18 47 33 true (Pt 38 46),Fs 19 48 (Pf 33 47),Fm 20 28 48]
def VO:List RI:=[omk 49 5,oo 50 (Bc .add 49 1) [49],omk 51 6,oo 52 (Bc .add 51 1) [51],omk 5 50,omk 6 52]
def VN:List RI:=[om 54 7,oo 55 (Bc .geq 54 0) [54],omk 53 55]
def VM:List RI:=[om 56 7,oo 57 (Bc .add 56 1) [56],om 58 8,oo 59 (Bc .add 58 1) [58],omk 60 8,oo 61 (Bc .add 60 1) [60],omk 5 57,omk 6 59,omk 8 61]
def VL:List RI:=[on 4 (.mov (.c (.bool false)))]
def zw:RC:=(.seq (So VS (Kc 12 (Kk [12] .skip) (Kk [1,6,7,8,12] (.exit 0)))) (.block 1 (.block 2 (So VR (Kc 13 (Kk [7,8,13] (.ops VQ)) (Kk [13] (.seq (.flt [0,0,2,7,15,31,31,127,255,511,1023,1023,4095,1023,1023,25599,58367,131071,262143,524287,1048575] [] VP [29,30,31,32,33,34,35,36,37,38,39,40,41,42,43,44,45,46,47,48]) (Kc 28 (Kk [28] (.ops VO)) (Kk [5,6,28] (So VN (Kc 53 (Kk [53] (.ops VM)) (Kk [0,1,7,8,53] (So VL .ret)))))))))))))
def yJ:RC:=zw
def HP:List RI:=[omk 62 0,omk 63 5,oo 64 (.slcS (.t 62) (some (.t 63)) none) [62,63],oo 65 (Ca 133 [.t 64,(.c (.str [42]))]) [64],oo 66 (.bin .eql (.t 65) (.c (.str []))) [65],omk 4 66]
def r92:RC:=(So VU (So VT (.seq (.block 0 (.loop yJ)) (So HP .ret))))
def F92:FnC:=⟨r92,67,[.tmp 4],[],[]⟩
def VK:List RI:=[oo 4 (.mov (.c (.str []))) [4],oo 5 (.mov (.c (.bool false))) [5]]
def VJ:List RI:=[omk 6 0,omk 7 1,oo 8 (Ca 134 [.t 6,.t 7]) [6,7],on 9 (.ext (.t 8) 0),oo 10 (.ext (.t 8) 1) [8],omk 4 9,omk 5 10]
def r93:RC:=(So VK (So VJ .ret))
def F93:FnC:=⟨r93,11,[.tmp 4,.tmp 5],[],[]⟩
def VI:List RI:=[oo 2 (.mov (ci 0)) [2]]
def VH:List RI:=[om 6 0,oo 7 (.bin .eql (.t 6) (.c (.str []))) [6],omk 8 7,.grp 8 false [(xi 9 8 false (Mv 0)),(xi 10 8 false (.len true (.t 9))),(xi 11 8 false (Bc .gtr 10 10))] [9,10],oo 12 (Pt 8 11) [8,11],omk 13 12,.grp 13 false [(xi 14 13 false (Mv 0)),(xi 15 13 false (.len true (.t 14))),(xi 16 13 false (Bc .gtr 15 1)),(xi 17 13 false (Mv 16))] [14,15,16],.grp 17 true [(xi 18 17 true (Mv 0)),(xi 19 17 true (.idxS (.t 18) (ci 0))),(xi 20 17 true (.bin .eql (.t 19) (.c (.u8 48))))] [18,19],.grp 13 false [(xi 21 13 false (Pf 17 20))] [17,20],oo 22 (Pt 13 21) [13,21]]
def VG:List RI:=[on 2 (.mov (ci (-1)))]
def VF:List RI:=[om 23 0,oo 24 (.len true (.t 23)) [23],on 25 (.mov (ci 0))]
def VE:List RI:=[on 26 (Bb .lss 25 24)]
def VD:List RI:=[om 27 25,omk 3 27]
def VC:List RI:=[om 28 0,om 29 3,oo 30 (.idxS (.t 28) (.t 29)) [28,29],oo 31 (.bin .lss (.t 30) (.c (.u8 48))) [30],omk 32 31,.grp 32 false [(xi 33 32 false (Mv 0)),(xi 34 32 false (Mv 3)),(xi 35 32 false (.idxS (.t 33) (.t 34))),(xi 36 32 false (.bin .gtr (.t 35) (.c (.u8 57))))] [3,33,34,35],oo 37 (Pt 32 36) [32,36]]
def VB:List RI:=[on 2 (.mov (ci (-1)))]
def VA:List RI:=[oo 38 (Bc .add 25 1) [25],omk 25 38]
def Rw:RC:=(So VE (.seq (Kc 26 (Kk [26] .skip) (Kk [24,25,26] (.exit 0))) (.seq (.block 1 (So VD (So VC (Kc 37 (Kk [0,24,25,37] (So VB .ret)) (Kk [37] .skip))))) (.ops VA))))
def Rc:RC:=Rw
def HO:List RI:=[omk 40 0,oo 41 (Ca 135 [.t 40]) [40],omk 39 41,on 42 (.ext (.t 39) 0),oo 43 (.ext (.t 39) 1) [39],omk 4 42,.op (xm 5 43) [5,43]]
def HN:List RI:=[omk 44 4,omk 2 44]
def r94:RC:=(So VI (.seq (So VH (Kc 22 (Kk [0,22] (So VG .ret)) (Kk [22] .skip))) (.seq (So VF (.block 0 (.loop Rc))) (So HO (So HN .ret)))))
def F94:FnC:=⟨r94,45,[.tmp 2],[],[]⟩
def Vz:List RI:=[oo 2 (.mov (.c (.bool false))) [2]]
def Vy:List RI:=[om 5 0,oo 6 (.len true (.t 5)) [5],oo 7 (Bc .lss 6 1) [6],omk 8 7,.grp 8 false [(xi 9 8 false (Mv 0)),(xi 10 8 false (.len true (.t 9))),(xi 11 8 false (Bc .gtr 10 12))] [9,10],oo 12 (Pt 8 11) [8,11]]
def Vx:List RI:=[on 2 (.mov (.c (.bool false)))]
def Vw:List RI:=[on 3 (.mov (ci 0))]
def Vv:List RI:=[om 13 3,om 14 0,oo 15 (.len true (.t 14)) [14],oo 16 (Bb .lss 13 15) [13,15]]
def Vu:List RI:=[om 19 0,om 20 3,oo 21 (.idxS (.t 19) (.t 20)) [19,20],omk 4 21]
def Vt:List RI:=[om 22 4,oo 23 (.bin .lss (.t 22) (.c (.u8 97))) [22],omk 24 23,.grp 24 false [(xi 25 24 false (Mv 4)),(xi 26 24 false (.bin .gtr (.t 25) (.c (.u8 122))))] [25],oo 27 (Pt 24 26) [24,26],omk 28 27,.grp 28 true [(xi 29 28 true (Mv 4)),(xi 30 28 true (.bin .lss (.t 29) (.c (.u8 48)))),(xi 31 28 true (Mv 30))] [29,30],.grp 31 false [(xi 32 31 false (Mv 4)),(xi 33 31 false (.bin .gtr (.t 32) (.c (.u8 57))))] [32],.grp 28 true [(xi 34 28 true (Pt 31 33))] [31,33],oo 35 (Pf 28 34) [28,34],omk 36 35,.grp 36 true [(xi 37 36 true (Mv 4)),(xi 38 36 true (.bin .neq (.t 37) (.c (.u8 45))))] [4,37],oo 39 (Pf 36 38) [36,38]]
def Vs:List RI:=[on 2 (.mov (.c (.bool false)))]
def Vr:List RI:=[omk 17 3,oo 18 (Bc .add 17 1) [17],omk 3 18]
def Rv:RC:=(.seq (So Vv (Kc 16 (Kk [16] .skip) (Kk [0,3,16] (.exit 0)))) (.seq (.block 1 (So Vu (So Vt (Kc 39 (Kk [0,3,39] (So Vs .ret)) (Kk [39] .skip))))) (.ops Vr)))
def Rb:RC:=Rv
def HM:List RI:=[on 2 (.mov (.c (.bool true)))]
def r95:RC:=(So Vz (.seq (So Vy (Kc 12 (Kk [0,12] (So Vx .ret)) (Kk [12] .skip))) (.seq (So Vw (.block 0 (.loop Rb))) (So HM .ret))))
def F95:FnC:=⟨r95,40,[.tmp 2],[],[]⟩
def Vq:List RI:=[oo 1 (.box (.t 0)) [0],oo 2 (.mov (ci 0)) [2]]
def Vp:List RI:=[on 4 (Fa 0 1),oo 5 (Ld 4) [4],oo 6 (Bc .lss 5 1) [5],omk 7 6,.grp 7 false [(xi 8 7 false (Fa 0 1)),(xi 9 7 false (Ld 8)),(xi 10 7 false (Bc .gtr 9 4))] [8,9],oo 11 (Pt 7 10) [7,10]]
def Vo:List RI:=[on 2 (.mov (ci 1))]
def Vn:List RI:=[on 3 (.mov (ci 0))]
def Vm:List RI:=[om 12 3,on 13 (Fa 1 1),oo 14 (Ld 13) [13],oo 15 (.len true (.t 14)) [14],oo 16 (Bb .lss 12 15) [12,15]]
def Vl:List RI:=[on 19 (Fa 1 1),oo 20 (Ld 19) [19],om 21 3,oo 22 (.idxS (.t 20) (.t 21)) [20,21],oo 23 (.bin .lss (.t 22) (.c (.u8 32))) [22],omk 24 23,.grp 24 false [(xi 25 24 false (Fa 1 1)),(xi 26 24 false (Ld 25)),(xi 27 24 false (Mv 3)),(xi 28 24 false (.idxS (.t 26) (.t 27))),(xi 29 24 false (.bin .gtr (.t 28) (.c (.u8 126))))] [25,26,27,28],oo 30 (Pt 24 29) [24,29]]
def Vk:List RI:=[on 2 (.mov (ci 1))]
def Vj:List RI:=[omk 17 3,oo 18 (Bc .add 17 1) [17],omk 3 18]
def Ru:RC:=(.seq (So Vm (Kc 16 (Kk [16] .skip) (Kk [3,16] (.exit 0)))) (.seq (.block 1 (So Vl (Kc 30 (Kk [1,3,30] (So Vk .ret)) (Kk [30] .skip)))) (.ops Vj)))
def Ra:RC:=Ru
def Vi:List RI:=[on 31 (Fa 0 1),oo 32 (Ld 31) [31],oo 33 (Bc .eql 32 4) [32]]
def HK:List RI:=[on 34 (Fa 2 1),oo 35 (Ld 34) [34],oo 36 (Bc .lss 35 0) [35],omk 37 36,.grp 37 false [(xi 38 37 false (Fa 2 1)),(xi 39 37 false (Ld 38)),(xi 40 37 false (Fa 3 1)),(xi 41 37 false (Ld 40)),(xi 42 37 false (Bb .gtr 39 41))] [38,39,40,41],oo 43 (Pt 37 42) [37,42],omk 44 43,.grp 44 false [(xi 45 44 false (Fa 3 1)),(xi 46 44 false (Ld 45)),(xi 47 44 false (Bc .gtr 46 1000000000))] [45,46],oo 48 (Pt 44 47) [44,47]]
def HJ:List RI:=[on 2 (.mov (ci 1))]
def HI:List RI:=[on 49 (Fa 2 1),oo 50 (Ld 49) [49],oo 51 (Bc .neq 50 0) [50],omk 52 51,.grp 52 false [(xi 53 52 false (Fa 3 1)),(xi 54 52 false (Ld 53)),(xi 55 52 false (Bc .neq 54 0))] [53,54],oo 56 (Pt 52 55) [52,55]]
def HH:List RI:=[on 2 (.mov (ci 1))]
def HG:List RI:=[on 57 (Fa 0 1),oo 58 (Ld 57) [57],oo 59 (Bc .eql 58 1) [58],omk 60 59,.grp 60 true [(xi 61 60 true (Fa 1 1)),(xi 62 60 true (Ld 61)),(xi 63 60 true (.bin .neq (.t 62) (.c (.str []))))] [61,62],oo 64 (Pf 60 63) [60,63]]
def HF:List RI:=[on 2 (.mov (ci 1))]
def HE:List RI:=[oo 65 (Fa 1 1) [1],oo 66 (Ld 65) [65],oo 67 (.len true (.t 66)) [66],oo 68 (Bc .gtr 67 32) [67]]
def HD:List RI:=[on 2 (.mov (ci 4))]
def HC:List RI:=[on 2 (.mov (ci 0))]
def r96:RC:=(So Vq (.seq (So Vp (Kc 11 (Kk [1,11] (So Vo .ret)) (Kk [11] .skip))) (.seq (So Vn (.block 0 (.loop Ra))) (.seq (So Vi (Kc 33 (Kk [33] (So HK (Kc 48 (Kk [1,48] (So HJ .ret)) (Kk [48] .skip)))) (Kk [33] (So HI (Kc 56 (Kk [1,56] (So HH .ret)) (Kk [56] .skip)))))) (.seq (So HG (Kc 64 (Kk [1,64] (So HF .ret)) (Kk [64] .skip))) (.seq (So HE (Kc 68 (Kk [68] (So HD .ret)) (Kk [68] .skip))) (So HC .ret)))))))
def F96:FnC:=⟨r96,69,[.tmp 2],[],[]⟩
def Vh:List RI:=[oo 2 (.mov (.c (.byt [] .clip))) [2]]
def Vg:List RI:=[om 3 0,oo 4 (Bc .lss 3 10) [3]]
def Vf:List RI:=[omk 5 0,oo 6 (.bin .add (ci 48) (.t 5)) [5],oo 7 (.toInt .u8 (.t 6)) [6],oo 8 (.litB [.t 7]) [7],omk 2 8]
def Ve:List RI:=[om 9 0,oo 10 (Bc .quo 9 10) [9],oo 11 (Ca 97 [.t 10]) [10],omk 12 0,oo 13 (Bc .rem 12 10) [12],oo 14 (.bin .add (ci 48) (.t 13)) [13],oo 15 (.toInt .u8 (.t 14)) [14],oo 16 (.litB [.t 15]) [15],oo 17 (.app [.u8 0] 1 (.t 11) (.t 16)) [11,16],omk 2 17]
def r97:RC:=(So Vh (.seq (So Vg (Kc 4 (Kk [4] (So Vf .ret)) (Kk [4] .skip))) (So Ve .ret)))
def F97:FnC:=⟨r97,18,[.tmp 2],[0],[]⟩
def Vd:List RI:=[oo 2 (.mov (.c (.bool false))) [2]]
def Vc:List RI:=[on 3 (.mov (ci 0))]
def Vb:List RI:=[om 4 3,om 5 0,oo 6 (Ln 5) [5],oo 7 (Bb .lss 4 6) [4,6]]
def Va:List RI:=[om 10 0,om 11 3,oo 12 (Ia 1 10 11) [10,11],oo 13 (Ld 12) [12],oo 14 (.bin .lss (.t 13) (.c (.u8 32))) [13],omk 15 14,.grp 15 false [(xi 16 15 false (Mv 0)),(xi 17 15 false (Mv 3)),(xi 18 15 false (Ia 1 16 17)),(xi 19 15 false (Ld 18)),(xi 20 15 false (.bin .gtr (.t 19) (.c (.u8 126))))] [16,17,18,19],oo 21 (Pt 15 20) [15,20]]
def U9:List RI:=[on 2 (.mov (.c (.bool false)))]
def U8:List RI:=[omk 8 3,oo 9 (Bc .add 8 1) [8],omk 3 9]
def Rt:RC:=(.seq (So Vb (Kc 7 (Kk [7] .skip) (Kk [3,7] (.exit 0)))) (.seq (.block 1 (So Va (Kc 21 (Kk [0,3,21] (So U9 .ret)) (Kk [21] .skip)))) (.ops U8)))
def QZ:RC:=Rt
def U7:List RI:=[omk 22 0,oo 23 (Ln 22) [22],oo 24 (Bc .gtr 23 0) [23],omk 2 24]
def r98:RC:=(So Vd (.seq (So Vc (.block 0 (.loop QZ))) (So U7 .ret)))
def F98:FnC:=⟨r98,25,[.tmp 2],[],[]⟩
def U6:List RI:=[oo 4 (.mov (.c (.byt [] .clip))) [4]]
def U5:List RI:=[omk 5 0]
def U4:List RI:=[on 7 (Bc .eql 5 0),omk 6 7]
def U3:List RI:=[omk 8 1,oo 9 (Ca 136 [.t 8]) [8],omk 4 9]
def U2:List RI:=[oo 11 (Bc .eql 5 1) [5],omk 10 11]
def U1:List RI:=[omk 12 1,oo 13 (Ca 80 [.t 12]) [12],omk 4 13]
def U0:List RI:=[on 4 (.mov (.c (.byt [] .clip)))]
def r99:RC:=(So U6 (.seq (So U5 (.block 0 (So U4 (Kc 6 (Kk [5,6] (So U3 .ret)) (Kk [6] (So U2 (Kc 10 (Kk [10] (So U1 .ret)) (Kk [1,10] .skip)))))))) (So U0 .ret)))
def F99:FnC:=⟨r99,14,[.tmp 4],[],[]⟩
def Qp:List RI:=[oo 4 (.mov (.c (.bool false))) [4]]
def Qo:List RI:=[om 9 1,oo 10 (Ln 9) [9],oo 11 (Bc .add 10 1) [10],oo 12 (.mk [.bool false] 1 (.t 11) (.t 11)) [11],omk 5 12]
def Qn:List RI:=[om 13 5,oo 14 (.iaddrL 1 (.t 13) (ci 0)) [13],.op ⟨none,none,.store 1 (.t 14) (.c (.bool true))⟩ [14]]
def Qm:List RI:=[on 6 (.mov (ci 0))]
def Ql:List RI:=[om 15 6,om 16 0,oo 17 (.len true (.t 16)) [16],oo 18 (Bb .lss 15 17) [15,17]]
def P9:List RI:=[om 21 1,oo 22 (Ln 21) [21],oo 23 (Bc .add 22 1) [22],oo 24 (.mk [.bool false] 1 (.t 23) (.t 23)) [23],omk 7 24]
def P8:List RI:=[on 8 (.mov (ci 0))]
def P7:List RI:=[om 25 8,om 26 1,oo 27 (Ln 26) [26],oo 28 (Bb .leq 25 27) [25,27]]
def P6:List RI:=[om 32 0,om 33 6,oo 34 (.idxS (.t 32) (.t 33)) [32,33],oo 35 (.bin .eql (.t 34) (.c (.u8 42))) [34],omk 31 35]
def P5:List RI:=[om 36 7,om 37 8,om 38 5,om 39 8,oo 40 (Ia 1 38 39) [38,39],oo 41 (Ld 40) [40],omk 42 41,.grp 42 false [(xi 43 42 false (Mv 8)),(xi 44 42 false (Bc .gtr 43 0)),(xi 45 42 false (Mv 44))] [43,44],.grp 45 true [(xi 46 45 true (Mv 7)),(xi 47 45 true (Mv 8)),(xi 48 45 true (Bc .sub 47 1)),(xi 49 45 true (Ia 1 46 48)),(xi 50 45 true (Ld 49))] [46,47,48,49],.grp 42 false [(xi 51 42 false (Pf 45 50))] [45,50],oo 52 (Pt 42 51) [42,51],oo 53 (Ia 1 36 37) [36,37],.op ⟨none,none,.store 1 (.t 53) (.t 52)⟩ [52,53]]
def CT:List RI:=[om 55 8,oo 56 (Bc .gtr 55 0) [55],omk 54 56]
def CS:List FI:=[Fm 0 57 7,Fm 1 58 8,Fm 2 59 5,Fm 3 60 8,Fs 4 61 (Bc .sub 60 1),Fs 5 62 (Ia 1 59 61),Fs 6 63 (Ld 62),Fm 7 64 63,Fi 8 65 64 true (Mv 0),Fi 9 66 64 true (Mv 6),Fi 10 67 64 true (.idxS (.t 65) (.t 66)),Fi 11 68 64 true (.bin .eql (.t 67) (.c (.u8 63))),Fi 12 69 64 true (Mv 68),Fi 13 70 69 false (Mv 0),Fi 14 71 69 false (Mv 6),Fi 15 72 69 false (.idxS (.t 70) (.t 71)),Fi 16 73 69 false (Mv 1),Fi 17 74 69 false (Mv 8),Fi 18 75 69 false (Bc .sub 74 1),Fi 19 76 69 false (Ia 1 73 75),Fi 20 77 69 false (Ld 76),Fi 21 78 69 false (Bb .eql 72 77),Fi 22 79 64 true (Pt 69 78),Fs 23 80 (Pf 64 79),Fs 24 81 (Ia 1 57 58),⟨25,false,⟨none,none,.store 1 (.t 81) (.t 80)⟩⟩]
def CR:List RI:=[omk 29 8,oo 30 (Bc .add 29 1) [29],omk 8 30]
def ur:RC:=(.seq (So P7 (Kc 28 (Kk [28] .skip) (Kk [5,8,28] (.exit 2)))) (.seq (.block 3 (.block 4 (So P6 (Kc 31 (Kk [31] (.ops P5)) (Kk [31] (So CT (Kc 54 (Kk [54] (.flt [0,0,0,0,8,28,60,124,252,252,1020,2044,4092,8188,8188,32764,8188,8188,139260,466940,991228,2097148,4194300,8388604,16777215,33554431] [] CS [57,58,59,60,61,62,63,64,65,66,67,68,69,70,71,72,73,74,75,76,77,78,79,80,81])) (Kk [54] .skip)))))))) (.ops CR)))
def tK:RC:=ur
def CQ:List RI:=[omk 82 7,omk 5 82]
def CP:List RI:=[omk 19 6,oo 20 (Bc .add 19 1) [19],omk 6 20]
def uq:RC:=(.post (.seq (So Ql (Kc 18 (Kk [18] .skip) (Kk [0,6,18] (.exit 0)))) (.seq (.block 1 (So P9 (.seq (So P8 (.block 2 (.loop tK))) (.ops CQ)))) (.ops CP))) [.pub 5])
def tJ:RC:=uq
def CO:List RI:=[omk 83 5,omk 84 1,oo 85 (Ln 84) [84],oo 86 (Ia 1 83 85) [83,85],oo 87 (Ld 86) [86],omk 4 87]
def xoS:RC:=(So Qp (So Qo (So Qn (.seq (So Qm (.block 0 (.pre [.pub 5] (.loop tJ)))) (So CO .ret)))))
def xfX:FnC:=⟨xoS,88,[.tmp 4],[],[]⟩
def P4:List RI:=[oo 1 (.box (.t 0)) [0],oo 2 (.mov (.c (.byt [] .clip))) [2]]
def P3:List RI:=[on 8 (.load 7 true (.t 1)),oo 9 (Ca 44 [.t 8]) [8],oo 10 (Bc .neq 9 0) [9]]
def P2:List RI:=[on 2 (.mov (.c (.byt [] .clip)))]
def P1:List RI:=[on 11 (Ca 117 [(.c (.byt [] .clip)),ci 1,ci 21]),omk 3 11]
def P0:List RI:=[omk 12 3,on 13 (Fa 0 1),oo 14 (Ld 13) [13],oo 15 (.s2b (.t 14)) [14],oo 16 (Ca 118 [.t 12,.t 15]) [12,15],omk 3 16]
def PZ:List FI:=[Fm 0 17 3,Fs 1 18 (Fa 1 1),Fs 2 19 (Ld 18),Fs 4 21 (Fa 2 1),Fs 5 22 (Ld 21),Fz 3 20 (Ca 117 [.t 17,ci 4,.t 19]),Fz 6 23 (Ca 117 [.t 20,ci 4,.t 22]),⟨7,false,(xm 3 23)⟩]
def PY:List FI:=[Fm 0 24 3,Fs 1 25 (Fa 3 1),Fs 2 26 (Ld 25),Fs 4 28 (Fa 4 1),Fs 5 29 (Ld 28),Fz 3 27 (Ca 117 [.t 24,ci 6,.t 26]),Fz 6 30 (Ca 117 [.t 27,ci 6,.t 29]),⟨7,false,(xm 3 30)⟩]
def PX:List RI:=[omk 31 3,on 32 (Fa 5 1),oo 33 (Ld 32) [32],oo 34 (Ln 33) [33],oo 35 (Ca 117 [.t 31,ci 1,.t 34]) [31,34],omk 3 35]
def PW:List RI:=[on 36 (Fa 5 1),oo 37 (Ld 36) [36],on 38 (Ln 37),on 39 (.mov (ci 0))]
def PV:List RI:=[on 40 (Bb .lss 39 38)]
def CN:List RI:=[on 41 (Ia 4 37 39),oo 42 (.load 4 true (.t 41)) [41],on 5 (.new (.rc Zq1)),.op ⟨none,none,.store 4 (.t 5) (.t 42)⟩ [42]]
def CM:List FI:=[Fm 0 43 3,Fs 1 44 (Fa 0 5),Fs 2 45 (Ld 44),Fs 4 47 (Fa 1 5),Fs 5 48 (Ld 47),Fs 6 49 (.s2b (.t 48)),Fz 3 46 (Ca 117 [.t 43,ci 1,.t 45]),Fz 7 50 (Ca 118 [.t 46,.t 49]),⟨8,false,(xm 3 50)⟩]
def CL:List FI:=[Fm 0 51 3,Fs 1 52 (Fa 2 5),Fs 2 53 (Ld 52),Fs 4 55 (Fa 3 5),Fs 5 56 (Ld 55),Fz 3 54 (Ca 117 [.t 51,ci 4,.t 53]),Fz 6 57 (.app [.u8 0] 1 (.t 54) (.t 56)),⟨7,false,(xm 3 57)⟩]
def CK:List RI:=[oo 58 (Bc .add 39 1) [39],omk 39 58]
def up:RC:=(.post (So PV (.seq (Kc 40 (Kk [40] .skip) (Kk [37,38,39,40] (.exit 0))) (.seq (.block 1 (So CN (.seq (.flt [0,0,2,7,0,16,48,127,255] [] CM [43,44,45,46,47,48,49,50]) (.flt [0,0,2,7,0,16,63,127] [157] CL [5,51,52,53,54,55,56,57])))) (.ops CK)))) [.gc [105],.gcr 47000 48000,.gcr 55000 56000,.tok 3 103])
def ng:RC:=up
def CJ:List RI:=[omk 59 3,on 60 (Fa 6 1),oo 61 (Ld 60) [60],oo 62 (Ln 61) [61],oo 63 (Ca 117 [.t 59,ci 1,.t 62]) [59,62],omk 3 63]
def CI:List RI:=[oo 64 (Fa 6 1) [1],oo 65 (Ld 64) [64],on 66 (Ln 65),on 67 (.mov (ci 0))]
def CH:List RI:=[on 68 (Bb .lss 67 66)]
def CG:List RI:=[on 69 (Ia 4 65 67),oo 70 (.load 4 true (.t 69)) [69],on 7 (.new (.rc Zq4)),.op ⟨none,none,.store 4 (.t 7) (.t 70)⟩ [70]]
def CF:List FI:=[Fm 0 71 3,Fs 1 72 (Fa 0 7),Fs 2 73 (Ld 72),Fs 4 75 (Fa 1 7),Fs 5 76 (Ld 75),Fs 6 77 (.s2b (.t 76)),Fz 3 74 (Ca 117 [.t 71,ci 1,.t 73]),Fz 7 78 (Ca 118 [.t 74,.t 77]),⟨8,false,(xm 3 78)⟩]
def CE:List FI:=[Fm 0 79 3,Fs 1 80 (Fa 2 7),Fs 2 81 (Ld 80),Fs 4 83 (Fa 3 7),Fs 5 84 (Ld 83),Fz 3 82 (Ca 117 [.t 79,ci 4,.t 81]),Fz 6 85 (Ca 117 [.t 82,ci 4,.t 84]),⟨7,false,(xm 3 85)⟩]
def CD:List RI:=[oo 86 (Bc .add 67 1) [67],omk 67 86]
def uo:RC:=(.post (So CH (.seq (Kc 68 (Kk [68] .skip) (Kk [65,66,67,68] (.exit 2))) (.seq (.block 3 (So CG (.seq (.flt [0,0,2,7,0,16,48,127,255] [] CF [71,72,73,74,75,76,77,78]) (.flt [0,0,2,7,0,16,63,127] [] CE [7,79,80,81,82,83,84,85])))) (.ops CD)))) [.gc [107],.gcr 75000 76000,.gcr 83000 84000])
def nf:RC:=uo
def CC:List RI:=[omk 87 3,omk 2 87]
def xoR:RC:=(So P4 (.seq (So P3 (Kc 10 (Kk [1,10] (So P2 .ret)) (Kk [10] .skip))) (So P1 (So P0 (.seq (.flt [0,0,2,7,0,16,63,127] [] PZ [17,18,19,20,21,22,23]) (.seq (.flt [0,0,2,7,0,16,63,127] [] PY [24,25,26,27,28,29,30]) (So PX (.seq (So PW (.block 0 (.pre [.tok 3 103] (.loop ng)))) (So CJ (.seq (So CI (.block 2 (.loop nf))) (So CC .ret)))))))))))
def xfW:FnC:=⟨xoR,88,[.tmp 2],[],[]⟩
def PU:List RI:=[oo 4 (.mov (.c (.byt [] .clip))) [4]]
def PT:List RI:=[omk 5 0,omk 6 1,oo 7 (Ca 137 [.t 5,.t 6]) [5,6],oo 8 (Ca 69 [ci 1,.t 7]) [7],omk 4 8]
def xoQ:RC:=(So PU (So PT .ret))
def xfV:FnC:=⟨xoQ,9,[.tmp 4],[],[]⟩
def PS:List RI:=[on 0 (.new (.arr 1 (am 3 [.str []])))]
def PR:List RI:=[on 1 (.build [.str [],.str [],.str []] [(0,1,(.c (.str [97,99,109,101]))),(1,1,(.c (.str [118,50]))),(2,1,(.c (.str [120,45,121])))]),.op ⟨none,none,.store 3 (.t 0) (.t 1)⟩ [1]]
def xoP:RC:=(So PS (So PR .ret))
def xfU:FnC:=⟨xoP,2,[.cell 0 3 true],[],[]⟩
def PQ:List RI:=[on 2 (.new (.rc Zq4))]
def PP:List RI:=[om 5 0,oo 6 (Ca 37 [.t 5,ci 5]) [5]]
def PO:List RI:=[on 8 (Bc .eql 6 0),omk 7 8]
def PN:List RI:=[on 9 (.build Zq4 [(0,1,(ci 1))]),.op ⟨none,none,.store 4 (.t 2) (.t 9)⟩ [9]]
def PM:List RI:=[on 11 (Bc .eql 6 1),omk 10 11]
def PL:List RI:=[omk 12 0,oo 13 (Ca 86 [.t 12]) [12],oo 14 (.b2s (.t 13)) [13],oo 15 (.build Zq4 [(0,1,(ci 2)),(1,1,(.t 14))]) [14],.op ⟨none,none,.store 4 (.t 2) (.t 15)⟩ [15]]
def PK:List RI:=[oo 17 (Bc .eql 6 2) [6],omk 16 17]
def PJ:List RI:=[on 18 (.build [.str [],.str [],.str [],.str [],.str [],.str [],.str []] [(0,1,(.c (.str []))),(1,1,(.c (.str [42]))),(2,1,(.c (.str [97,61,63]))),(3,1,(.c (.str [42,61,42]))),(4,1,(.c (.str [63,111,42,53]))),(5,1,(.c (.str [99,111,117,110,116,61,63,63]))),(6,1,(.c (.str [42,97,42,42,49,42])))]),on 3 (.new (.arr 1 (am 7 [.str []]))),.op ⟨none,none,.store 7 (.t 3) (.t 18)⟩ [18]]
def PI:List RI:=[omk 19 0,oo 20 (Ca 37 [.t 19,ci 7]) [19],oo 21 (.iaddrA 7 1 (.t 3) (.t 20)) [3,20],oo 22 (Ld 21) [21],oo 23 (.build Zq4 [(0,1,(ci 3)),(1,1,(.t 22))]) [22],.op ⟨none,none,.store 4 (.t 2) (.t 23)⟩ [23]]
def PH:List RI:=[om 24 0,oo 25 (Ca 37 [.t 24,ci 20]) [24],omk 4 25]
def CB:List FI:=[Fs 0 26 (.build [.str [],.str [],.str []] [(0,1,(.c (.str [99,111,117,110,116,61]))),(1,1,(.c (.str [97,61]))),(2,1,(.c (.str [])))]),Fm 1 27 0,Fm 4 30 4,Fm 5 31 4,Fm 6 32 0,Fz 2 28 (Ca 37 [.t 27,ci 3]),Fs 3 29 (.idxA 3 1 false (.t 26) (.t 28)),Fz 7 33 (Ca 37 [.t 32,ci 30]),Fs 8 34 (Bb .add 31 33),Fs 9 35 (.build Zq4 [(0,1,(ci 4)),(1,1,(.t 29)),(2,1,(.t 30)),(3,1,(.t 34))]),⟨10,false,⟨none,none,.store 4 (.t 2) (.t 35)⟩⟩]
def xoO:RC:=(So PQ (.seq (So PP (.block 0 (So PO (Kc 7 (Kk [0,6,7] (So PN .ret)) (Kk [7] (So PM (Kc 10 (Kk [6,10] (So PL .ret)) (Kk [10] (So PK (Kc 16 (Kk [16] (So PJ (So PI .ret))) (Kk [16] .skip))))))))))) (So PH (.seq (.flt [0,0,2,7,0,0,0,70,230,511,1023] [] CB [0,4,26,27,28,29,30,31,32,33,34,35]) .ret))))
def xfT:FnC:=⟨xoO,36,[.cell 2 4 true],[],[]⟩
def PG:List RI:=[on 0 (.new (.arr 1 (am 5 [.str []])))]
def PF:List RI:=[on 1 (.build [.str [],.str [],.str [],.str [],.str []] [(0,1,(.c (.str [97]))),(1,1,(.c (.str [103,114,117,98]))),(2,1,(.c (.str [108,105,110,117,120]))),(3,1,(.c (.str [110,101,116,45,48]))),(4,1,(.c (.str [116,119,101,108,118,101,45,98,121,116,101,115])))]),.op ⟨none,none,.store 5 (.t 0) (.t 1)⟩ [1]]
def xoN:RC:=(So PG (So PF .ret))
def xfS:FnC:=⟨xoN,2,[.cell 0 5 true],[],[]⟩
def PE:List RI:=[oo 2 (.mov (.c (.byt [] .clip))) [2]]
def PD:List RI:=[on 3 (.mov (.c (.byt [] .clip)))]
def PC:List RI:=[om 5 0,oo 6 (Ca 37 [.t 5,ci 4]) [5],oo 7 (.bin .add (ci 1) (.t 6)) [6],omk 4 7]
def PB:List RI:=[om 8 4,oo 9 (Bc .gtr 8 0) [8]]
def PA:List RI:=[omk 12 3,om 13 0,oo 14 (Ca 86 [.t 13]) [13],oo 15 (.app [.u8 0] 1 (.t 12) (.t 14)) [12,14],on 16 (.litB [(.c (.u8 10))]),oo 17 (.app [.u8 0] 1 (.t 15) (.t 16)) [15,16],omk 3 17]
def Pz:List RI:=[omk 10 4,oo 11 (Bc .sub 10 1) [10],omk 4 11]
def As:RC:=(.post (.seq (So PB (Kc 9 (Kk [9] .skip) (Kk [0,4,9] (.exit 0)))) (.seq (.block 1 (.ops PA)) (.ops Pz))) [.gc [115],.tok 3 103])
def zh:RC:=As
def Py:List RI:=[omk 18 3,omk 2 18]
def xoM:RC:=(So PE (So PD (.seq (So PC (.block 0 (.pre [.tok 3 103] (.loop zh)))) (So Py .ret))))
def xfR:FnC:=⟨xoM,19,[.tmp 2],[],[]⟩
def Px:List RI:=[oo 2 (.mov (.c (.byt [] .clip))) [2]]
def Pw:List RI:=[om 6 0,oo 7 (Ln 6) [6],oo 8 (Bc .add 7 72) [7],oo 9 (.mkB (ci 0) (.t 8)) [8],om 10 0,.dir (.tok 9 109),oo 11 (.app [.u8 0] 1 (.t 9) (.t 10)) [9,10],on 12 (.litB [(.c (.u8 128))]),oo 13 (.app [.u8 0] 1 (.t 11) (.t 12)) [11,12],omk 3 13]
def Pv:List RI:=[om 14 3,oo 15 (Ln 14) [14],oo 16 (Bc .rem 15 64) [15],oo 17 (Bc .neq 16 56) [16]]
def Pu:List RI:=[omk 18 3,on 19 (.litB [(.c (.u8 0))]),oo 20 (.app [.u8 0] 1 (.t 18) (.t 19)) [18,19],omk 3 20]
def Ar:RC:=(.post (.seq (So Pv (Kc 17 (Kk [17] .skip) (Kk [17] (.exit 0)))) (.block 1 (.ops Pu))) [.tok 3 103])
def zg:RC:=Ar
def Ps:List RI:=[omk 21 0,oo 22 (Ln 21) [21],oo 23 (.toInt .u64 (.t 22)) [22],oo 24 (.bin .mul (.t 23) (.c (.int .u64 8))) [23],omk 4 24]
def Pq:List RI:=[on 5 (.mov (ci 56))]
def Pp:List RI:=[om 25 5,oo 26 (Bc .geq 25 0) [25]]
def Po:List RI:=[omk 29 3,om 30 4,om 31 5,oo 32 (.toInt .u64 (.t 31)) [31],oo 33 (Bb .shr 30 32) [30,32],oo 34 (.toInt .u8 (.t 33)) [33],oo 35 (.litB [.t 34]) [34],oo 36 (.app [.u8 0] 1 (.t 29) (.t 35)) [29,35],omk 3 36]
def Pn:List RI:=[omk 27 5,oo 28 (Bc .sub 27 8) [27],omk 5 28]
def um:RC:=(.post (.seq (So Pp (Kc 26 (Kk [26] .skip) (Kk [4,5,26] (.exit 2)))) (.seq (.block 3 (.ops Po)) (.ops Pn))) [.tok 3 103])
def tI:RC:=um
def CA:List RI:=[omk 37 3,omk 2 37]
def xoL:RC:=(So Px (So Pw (.seq (.block 0 (.pre [.tok 3 103] (.loop zg))) (So Ps (.seq (So Pq (.block 2 (.pre [.tok 3 103] (.loop tI)))) (So CA .ret))))))
def xfQ:FnC:=⟨xoL,38,[.tmp 2],[],[]⟩
def Pm:List RI:=[on 4 (.new (.arr 1 (am 80 [.int .u32 0])))]
def Pl:List RI:=[on 14 (.mov (ci 0))]
def Pk:List RI:=[on 15 (Bc .lss 14 80)]
def Pj:List RI:=[om 16 14,omk 5 16]
def Pi:List RI:=[om 17 5,oo 18 (Bc .lss 17 16) [17]]
def Ph:List RI:=[om 19 5,om 20 1,omk 21 5,oo 22 (Ca 141 [.t 20,.t 21]) [20,21],oo 23 (.iaddrA 80 1 (.t 4) (.t 19)) [19],.op ⟨none,none,.store 1 (.t 23) (.t 22)⟩ [22,23]]
def Pg:List FI:=[Fm 0 24 5,Fm 1 25 5,Fs 2 26 (Bc .sub 25 3),Fs 3 27 (.iaddrA 80 1 (.t 4) (.t 26)),Fs 4 28 (Ld 27),Fm 5 29 5,Fs 6 30 (Bc .sub 29 8),Fs 7 31 (.iaddrA 80 1 (.t 4) (.t 30)),Fs 8 32 (Ld 31),Fs 9 33 (Bb .xor 28 32),Fm 10 34 5,Fs 11 35 (Bc .sub 34 14),Fs 12 36 (.iaddrA 80 1 (.t 4) (.t 35)),Fs 13 37 (Ld 36),Fs 14 38 (Bb .xor 33 37),Fm 15 39 5,Fs 16 40 (Bc .sub 39 16),Fs 17 41 (.iaddrA 80 1 (.t 4) (.t 40)),Fs 18 42 (Ld 41),Fs 19 43 (Bb .xor 38 42),Fz 20 44 (Ca 142 [.t 43,ci 1]),Fs 21 45 (.iaddrA 80 1 (.t 4) (.t 24)),⟨22,false,⟨none,none,.store 1 (.t 45) (.t 44)⟩⟩]
def Pe:List RI:=[oo 46 (Bc .add 14 1) [14],omk 14 46]
def Aq:RC:=(So Pk (.seq (Kc 15 (Kk [15] .skip) (Kk [1,14,15] (.exit 0))) (.seq (.block 1 (So Pj (So Pi (Kc 18 (Kk [18] (.ops Ph)) (Kk [18] (.flt [0,0,2,6,14,0,32,96,224,510,0,1024,3072,7168,16382,0,32768,98304,229376,524286,1048574,2097151,4194303] [] Pg [5,24,25,26,27,28,29,30,31,32,33,34,35,36,37,38,39,40,41,42,43,44,45])))))) (.ops Pe))))
def zf:RC:=Aq
def Pd:List FI:=[Fm 0 47 0,Fs 1 48 (.nchk (.t 47)),Fs 2 49 (.iaddrA 5 1 (.t 48) (ci 0)),Fs 3 50 (Ld 49),Fm 4 51 0,Fs 5 52 (.nchk (.t 51)),Fs 6 53 (.iaddrA 5 1 (.t 52) (ci 1)),Fs 7 54 (Ld 53),Fm 8 55 0,Fs 9 56 (.nchk (.t 55)),Fs 10 57 (.iaddrA 5 1 (.t 56) (ci 2)),Fs 11 58 (Ld 57),Fm 12 59 0,Fs 13 60 (.nchk (.t 59)),Fs 14 61 (.iaddrA 5 1 (.t 60) (ci 3)),Fs 15 62 (Ld 61),Fm 16 63 0,Fs 17 64 (.nchk (.t 63)),Fs 18 65 (.iaddrA 5 1 (.t 64) (ci 4)),Fs 19 66 (Ld 65),Fm 20 6 50,Fm 21 7 54,Fm 22 8 58,Fm 23 9 62,Fm 24 10 66]
def Cz:List RI:=[on 67 (.mov (ci 0))]
def Cy:List RI:=[on 68 (Bc .lss 67 80)]
def Cx:List RI:=[om 69 67,omk 11 69]
def Cw:List RI:=[oo 12 (.mov (.c (.int .u32 0))) [12],oo 13 (.mov (.c (.int .u32 0))) [13]]
def Cv:List RI:=[om 70 11,oo 71 (Bc .quo 70 20) [70]]
def Cu:List RI:=[on 78 (Bc .eql 71 0),omk 77 78]
def Ct:List RI:=[om 79 7,om 80 8,oo 81 (Bb .and 79 80) [79,80],om 82 7,oo 83 (.un .xor (.t 82)) [82],om 84 9,oo 85 (Bb .and 83 84) [83,84],oo 86 (Bb .xor 81 85) [81,85],omk 12 86,on 13 (.mov (.c (.int .u32 1518500249)))]
def Cs:List RI:=[on 88 (Bc .eql 71 1),omk 87 88]
def Cr:List RI:=[om 89 7,om 90 8,oo 91 (Bb .xor 89 90) [89,90],om 92 9,oo 93 (Bb .xor 91 92) [91,92],omk 12 93,on 13 (.mov (.c (.int .u32 1859775393)))]
def Cq:List RI:=[oo 95 (Bc .eql 71 2) [71],omk 94 95]
def Cp:List RI:=[om 96 7,om 97 8,oo 98 (Bb .and 96 97) [96,97],om 99 7,om 100 9,oo 101 (Bb .and 99 100) [99,100],oo 102 (Bb .xor 98 101) [98,101],om 103 8,om 104 9,oo 105 (Bb .and 103 104) [103,104],oo 106 (Bb .xor 102 105) [102,105],omk 12 106,on 13 (.mov (.c (.int .u32 2400959708)))]
def Co:List RI:=[om 72 7,om 73 8,oo 74 (Bb .xor 72 73) [72,73],om 75 9,oo 76 (Bb .xor 74 75) [74,75],omk 12 76,on 13 (.mov (.c (.int .u32 3395469782)))]
def Cn:List FI:=[Fm 0 107 6,Fm 2 109 12,Fm 4 111 10,Fm 6 113 13,Fm 8 115 11,Fs 9 116 (.iaddrA 80 1 (.t 4) (.t 115)),Fs 10 117 (Ld 116),Fm 12 119 6,Fm 13 120 7,Fm 15 122 8,Fm 16 123 9,Fz 1 108 (Ca 142 [.t 107,ci 5]),Fs 3 110 (Bb .add 108 109),Fs 5 112 (Bb .add 110 111),Fs 7 114 (Bb .add 112 113),Fs 11 118 (Bb .add 114 117),Fz 14 121 (Ca 142 [.t 120,ci 30]),⟨17,false,(xm 6 118)⟩,⟨18,false,(xm 7 119)⟩,⟨19,false,(xm 8 121)⟩,⟨20,false,(xm 9 122)⟩,⟨21,false,(xm 10 123)⟩]
def Cm:List RI:=[oo 124 (Bc .add 67 1) [67],omk 67 124]
def ul:RC:=(So Cy (.seq (Kc 68 (Kk [68] .skip) (Kk [4,67,68] (.exit 2))) (.seq (.block 3 (So Cx (So Cw (.seq (So Cv (.block 4 (So Cu (Kc 77 (Kk [71,77] (.ops Ct)) (Kk [77] (So Cs (Kc 87 (Kk [71,87] (.ops Cr)) (Kk [87] (So Cq (Kc 94 (Kk [94] (.ops Cp)) (Kk [94] (.ops Co)))))))))))) (.flt [0,1,0,7,0,31,0,127,0,256,768,2047,0,0,8195,0,0,131071,262143,524287,1048575,2097151] [] Cn [11,12,13,107,108,109,110,111,112,113,114,115,116,117,118,119,120,121,122,123]))))) (.ops Cm))))
def fY:RC:=ul
def Cl:List FI:=[Fm 0 125 0,Fs 1 126 (.nchk (.t 125)),Fs 2 127 (.iaddrA 5 1 (.t 126) (ci 0)),Fs 3 128 (Ld 127),Fm 4 129 6,Fs 5 130 (Bb .add 128 129),Fs 6 131 (.nchk (.t 125)),Fs 7 132 (.iaddrA 5 1 (.t 131) (ci 0)),⟨8,false,⟨none,none,.store 1 (.t 132) (.t 130)⟩⟩]
def Ck:List FI:=[Fm 0 133 0,Fs 1 134 (.nchk (.t 133)),Fs 2 135 (.iaddrA 5 1 (.t 134) (ci 1)),Fs 3 136 (Ld 135),Fm 4 137 7,Fs 5 138 (Bb .add 136 137),Fs 6 139 (.nchk (.t 133)),Fs 7 140 (.iaddrA 5 1 (.t 139) (ci 1)),⟨8,false,⟨none,none,.store 1 (.t 140) (.t 138)⟩⟩]
def Cj:List FI:=[Fm 0 141 0,Fs 1 142 (.nchk (.t 141)),Fs 2 143 (.iaddrA 5 1 (.t 142) (ci 2)),Fs 3 144 (Ld 143),Fm 4 145 8,Fs 5 146 (Bb .add 144 145),Fs 6 147 (.nchk (.t 141)),Fs 7 148 (.iaddrA 5 1 (.t 147) (ci 2)),⟨8,false,⟨none,none,.store 1 (.t 148) (.t 146)⟩⟩]
def Ci:List FI:=[Fm 0 149 0,Fs 1 150 (.nchk (.t 149)),Fs 2 151 (.iaddrA 5 1 (.t 150) (ci 3)),Fs 3 152 (Ld 151),Fm 4 153 9,Fs 5 154 (Bb .add 152 153),Fs 6 155 (.nchk (.t 149)),Fs 7 156 (.iaddrA 5 1 (.t 155) (ci 3)),⟨8,false,⟨none,none,.store 1 (.t 156) (.t 154)⟩⟩]
def Ch:List FI:=[Fm 0 157 0,Fs 1 158 (.nchk (.t 157)),Fs 2 159 (.iaddrA 5 1 (.t 158) (ci 4)),Fs 3 160 (Ld 159),Fm 4 161 10,Fs 5 162 (Bb .add 160 161),Fs 6 163 (.nchk (.t 157)),Fs 7 164 (.iaddrA 5 1 (.t 163) (ci 4)),⟨8,false,⟨none,none,.store 1 (.t 164) (.t 162)⟩⟩]
def xoK:RC:=(So Pm (.seq (So Pl (.block 0 (.loop zf))) (.seq (.flt [0,1,3,7,0,16,48,112,0,256,768,1792,0,4096,12288,28672,0,65536,196608,458752,15,1048831,3149823,7405567,16777215] [] Pd [47,48,49,50,51,52,53,54,55,56,57,58,59,60,61,62,63,64,65,66]) (.seq (So Cz (.block 2 (.loop fY))) (.seq (.flt [0,1,3,7,0,31,1,127,255] [] Cl [6,125,126,127,128,129,130,131,132]) (.seq (.flt [0,1,3,7,0,31,1,127,255] [] Ck [7,133,134,135,136,137,138,139,140]) (.seq (.flt [0,1,3,7,0,31,1,127,255] [] Cj [8,141,142,143,144,145,146,147,148]) (.seq (.flt [0,1,3,7,0,31,1,127,255] [] Ci [9,149,150,151,152,153,154,155,156]) (.flt [0,1,3,7,0,31,1,127,255] [] Ch [0,10,157,158,159,160,161,162,163,164])))))))))
def xfP:FnC:=⟨xoK,165,[],[],[]⟩
def Pc:List RI:=[oo 2 (.mov (.c (.byt [] .clip))) [2]]
def Pb:List RI:=[om 6 0,oo 7 (Ln 6) [6],oo 8 (.bin .mul (ci 4) (.t 7)) [7],oo 9 (.mkB (ci 0) (.t 8)) [8],omk 3 9]
def Pa:List RI:=[omk 10 0,on 11 (Ln 10),on 12 (.mov (ci 0))]
def O9:List RI:=[on 13 (Bb .lss 12 11)]
def O8:List RI:=[on 14 (Ia 1 10 12),oo 15 (Ld 14) [14],omk 5 15]
def O7:List RI:=[omk 16 3,om 17 5,oo 18 (.bin .shr (.t 17) (.c (.int .u64 24))) [17],oo 19 (.toInt .u8 (.t 18)) [18],om 20 5,oo 21 (.bin .shr (.t 20) (.c (.int .u64 16))) [20],oo 22 (.toInt .u8 (.t 21)) [21],om 23 5,oo 24 (.bin .shr (.t 23) (.c (.int .u64 8))) [23],oo 25 (.toInt .u8 (.t 24)) [24],omk 26 5,oo 27 (.toInt .u8 (.t 26)) [26],oo 28 (.litB [.t 19,.t 22,.t 25,.t 27]) [19,22,25,27],.dir (.tok 16 116),oo 29 (.app [.u8 0] 1 (.t 16) (.t 28)) [16,28],omk 3 29]
def O6:List RI:=[oo 30 (Bc .add 12 1) [12],omk 12 30]
def Ap:RC:=(.post (So O9 (.seq (Kc 13 (Kk [13] .skip) (Kk [10,11,12,13] (.exit 0))) (.seq (.block 1 (So O8 (.ops O7))) (.ops O6)))) [.tok 3 103])
def ze:RC:=Ap
def O5:List RI:=[omk 31 3,omk 2 31]
def xoJ:RC:=(So Pc (So Pb (.seq (So Pa (.block 0 (.pre [.tok 3 103] (.loop ze)))) (So O5 .ret))))
def xfO:FnC:=⟨xoJ,32,[.tmp 2],[],[]⟩
def O4:List RI:=[on 4 (.new (.arr 1 (am 64 [.int .u32 0])))]
def O3:List RI:=[on 17 (.mov (ci 0))]
def O2:List RI:=[on 18 (Bc .lss 17 64)]
def O1:List RI:=[om 19 17,omk 5 19]
def O0:List RI:=[om 20 5,oo 21 (Bc .lss 20 16) [20]]
def OZ:List RI:=[om 22 5,om 23 1,omk 24 5,oo 25 (Ca 141 [.t 23,.t 24]) [23,24],oo 26 (.iaddrA 64 1 (.t 4) (.t 22)) [22],.op ⟨none,none,.store 1 (.t 26) (.t 25)⟩ [25,26]]
def OY:List FI:=[Fm 0 27 5,Fs 1 28 (Bc .sub 27 15),Fs 2 29 (.iaddrA 64 1 (.t 4) (.t 28)),Fs 3 30 (Ld 29),Fm 4 31 5,Fs 5 32 (Bc .sub 31 2),Fs 6 33 (.iaddrA 64 1 (.t 4) (.t 32)),Fs 7 34 (Ld 33),Fm 8 6 30,Fm 9 7 34]
def OX:List RI:=[om 35 6,oo 36 (Ca 142 [.t 35,ci (-7)]) [35],om 37 6,oo 38 (Ca 142 [.t 37,ci (-18)]) [37],oo 39 (Bb .xor 36 38) [36,38],omk 40 6,oo 41 (.bin .shr (.t 40) (.c (.int .u64 3))) [40],oo 42 (Bb .xor 39 41) [39,41],omk 8 42]
def OW:List RI:=[om 43 7,oo 44 (Ca 142 [.t 43,ci (-17)]) [43],om 45 7,oo 46 (Ca 142 [.t 45,ci (-19)]) [45],oo 47 (Bb .xor 44 46) [44,46],omk 48 7,oo 49 (.bin .shr (.t 48) (.c (.int .u64 10))) [48],oo 50 (Bb .xor 47 49) [47,49],omk 9 50]
def OV:List FI:=[Fm 0 51 5,Fm 1 52 9,Fm 2 53 5,Fs 3 54 (Bc .sub 53 7),Fs 4 55 (.iaddrA 64 1 (.t 4) (.t 54)),Fs 5 56 (Ld 55),Fs 6 57 (Bb .add 52 56),Fm 7 58 8,Fs 8 59 (Bb .add 57 58),Fm 9 60 5,Fs 10 61 (Bc .sub 60 16),Fs 11 62 (.iaddrA 64 1 (.t 4) (.t 61)),Fs 12 63 (Ld 62),Fs 13 64 (Bb .add 59 63),Fs 14 65 (.iaddrA 64 1 (.t 4) (.t 51)),⟨15,false,⟨none,none,.store 1 (.t 65) (.t 64)⟩⟩]
def Cg:List RI:=[oo 66 (Bc .add 17 1) [17],omk 17 66]
def uk:RC:=(So O2 (.seq (Kc 18 (Kk [18] .skip) (Kk [1,17,18] (.exit 0))) (.seq (.block 1 (So O1 (.seq (So O0 (Kc 21 (Kk [21] (So OZ (.exit 1))) (Kk [21] .skip))) (.seq (.flt [0,1,3,7,0,16,48,112,15,511] [] OY [27,28,29,30,31,32,33,34]) (So OX (So OW (.flt [0,0,0,4,12,28,62,0,254,0,512,1536,3584,8190,16383,32767] [] OV [5,8,9,51,52,53,54,55,56,57,58,59,60,61,62,63,64,65]))))))) (.ops Cg))))
def tH:RC:=uk
def Cf:List RI:=[om 67 0,oo 68 (.nchk (.t 67)) [67],oo 69 (.load 8 true (.t 68)) [68],on 10 (.new (.arr 1 (am 8 [.int .u32 0]))),.op ⟨none,none,.store 8 (.t 10) (.t 69)⟩ [69]]
def Ce:List RI:=[on 70 (.mov (ci 0))]
def Cd:List RI:=[on 71 (Bc .lss 70 64)]
def Cc:List RI:=[om 72 70,omk 11 72]
def Cb:List FI:=[Fs 0 73 (.iaddrA 8 1 (.t 10) (ci 0)),Fs 1 74 (Ld 73),Fs 2 75 (.iaddrA 8 1 (.t 10) (ci 4)),Fs 3 76 (Ld 75),Fm 4 12 74,Fm 5 13 76]
def B0:List FI:=[Fs 0 77 (.iaddrA 8 1 (.t 10) (ci 7)),Fs 1 78 (Ld 77),Fm 2 79 13,Fm 4 81 13,Fm 7 84 13,Fm 11 88 13,Fs 12 89 (.iaddrA 8 1 (.t 10) (ci 5)),Fs 13 90 (Ld 89),Fs 14 91 (Bb .and 88 90),Fm 15 92 13,Fs 16 93 (.un .xor (.t 92)),Fs 17 94 (.iaddrA 8 1 (.t 10) (ci 6)),Fs 18 95 (Ld 94),Fs 19 96 (Bb .and 93 95),Fs 20 97 (Bb .xor 91 96),Fm 22 99 11,Fs 23 100 (.iaddrA 64 1 (.c (.pp jb)) (.t 99)),Fs 24 101 (Ld 100),Fm 26 103 11,Fs 27 104 (.iaddrA 64 1 (.t 4) (.t 103)),Fs 28 105 (Ld 104),Fz 3 80 (Ca 142 [.t 79,ci (-6)]),Fz 5 82 (Ca 142 [.t 81,ci (-11)]),Fs 6 83 (Bb .xor 80 82),Fz 8 85 (Ca 142 [.t 84,ci (-25)]),Fs 9 86 (Bb .xor 83 85),Fs 10 87 (Bb .add 78 86),Fs 21 98 (Bb .add 87 97),Fs 25 102 (Bb .add 98 101),Fs 29 106 (Bb .add 102 105),Fm 30 14 106]
def BZ:List FI:=[Fm 0 107 12,Fm 2 109 12,Fm 5 112 12,Fm 8 115 12,Fs 9 116 (.iaddrA 8 1 (.t 10) (ci 1)),Fs 10 117 (Ld 116),Fs 11 118 (Bb .and 115 117),Fm 12 119 12,Fs 13 120 (.iaddrA 8 1 (.t 10) (ci 2)),Fs 14 121 (Ld 120),Fs 15 122 (Bb .and 119 121),Fs 16 123 (Bb .xor 118 122),Fs 17 124 (.iaddrA 8 1 (.t 10) (ci 1)),Fs 18 125 (Ld 124),Fs 19 126 (.iaddrA 8 1 (.t 10) (ci 2)),Fs 20 127 (Ld 126),Fs 21 128 (Bb .and 125 127),Fs 22 129 (Bb .xor 123 128),Fz 1 108 (Ca 142 [.t 107,ci (-2)]),Fz 3 110 (Ca 142 [.t 109,ci (-13)]),Fs 4 111 (Bb .xor 108 110),Fz 6 113 (Ca 142 [.t 112,ci (-22)]),Fs 7 114 (Bb .xor 111 113),Fs 23 130 (Bb .add 114 129),Fm 24 15 130]
def BY:List RI:=[om 131 14,omk 132 15,oo 133 (Bb .add 131 132) [131,132],on 134 (.iaddrA 8 1 (.t 10) (ci 0)),oo 135 (Ld 134) [134],on 136 (.iaddrA 8 1 (.t 10) (ci 1)),oo 137 (Ld 136) [136],on 138 (.iaddrA 8 1 (.t 10) (ci 2)),oo 139 (Ld 138) [138],on 140 (.iaddrA 8 1 (.t 10) (ci 3)),oo 141 (Ld 140) [140],omk 142 14,oo 143 (Bb .add 141 142) [141,142],on 144 (.iaddrA 8 1 (.t 10) (ci 4)),oo 145 (Ld 144) [144],on 146 (.iaddrA 8 1 (.t 10) (ci 5)),oo 147 (Ld 146) [146],on 148 (.iaddrA 8 1 (.t 10) (ci 6)),oo 149 (Ld 148) [148],oo 150 (.build [.int .u32 0,.int .u32 0,.int .u32 0,.int .u32 0,.int .u32 0,.int .u32 0,.int .u32 0,.int .u32 0] [(0,1,(.t 133)),(1,1,(.t 135)),(2,1,(.t 137)),(3,1,(.t 139)),(4,1,(.t 143)),(5,1,(.t 145)),(6,1,(.t 147)),(7,1,(.t 149))]) [133,135,137,139,143,145,147,149],.op ⟨none,none,.store 8 (.t 10) (.t 150)⟩ [150]]
def BX:List RI:=[oo 151 (Bc .add 70 1) [70],omk 70 151]
def uj:RC:=(So Cd (.seq (Kc 71 (Kk [71] .skip) (Kk [4,70,71] (.exit 2))) (.seq (.block 3 (So Cc (.seq (.flt [0,1,0,4,3,31] [] Cb [73,74,75,76]) (.seq (.flt [0,1,0,4,0,28,60,0,188,508,1023,0,0,4096,14336,0,32768,0,131072,491520,1046528,2097151,0,4194304,12582912,33554431,0,67108864,201326592,536870911,1073741823] [] B0 [11,13,77,78,79,80,81,82,83,84,85,86,87,88,89,90,91,92,93,94,95,96,97,98,99,100,101,102,103,104,105,106]) (.seq (.flt [0,1,0,7,15,0,47,127,0,0,512,1792,0,0,8192,28672,65280,0,131072,0,524288,1966080,4194048,8388607,16777215] [] BZ [12,107,108,109,110,111,112,113,114,115,116,117,118,119,120,121,122,123,124,125,126,127,128,129,130]) (.ops BY)))))) (.ops BX))))
def tG:RC:=uj
def BW:List RI:=[on 152 (.mov (ci 0))]
def BV:List RI:=[on 153 (Bc .lss 152 8)]
def BU:List RI:=[om 154 152,omk 16 154]
def BT:List FI:=[Fm 0 155 0,Fm 1 156 16,Fs 2 157 (.nchk (.t 155)),Fs 3 158 (.iaddrA 8 1 (.t 157) (.t 156)),Fs 4 159 (Ld 158),Fm 5 160 16,Fs 6 161 (.iaddrA 8 1 (.t 10) (.t 160)),Fs 7 162 (Ld 161),Fs 8 163 (Bb .add 159 162),Fs 9 164 (.nchk (.t 155)),Fs 10 165 (.iaddrA 8 1 (.t 164) (.t 156)),⟨11,false,⟨none,none,.store 1 (.t 165) (.t 163)⟩⟩]
def BS:List RI:=[oo 166 (Bc .add 152 1) [152],omk 152 166]
def ui:RC:=(So BV (.seq (Kc 153 (Kk [153] .skip) (Kk [0,10,152,153] (.exit 4))) (.seq (.block 5 (So BU (.flt [0,0,1,7,15,0,32,96,255,1,1023,2047] [] BT [16,155,156,157,158,159,160,161,162,163,164,165]))) (.ops BS))))
def tF:RC:=ui
def xoI:RC:=(So O4 (.seq (So O3 (.block 0 (.loop tH))) (So Cf (.seq (So Ce (.block 2 (.loop tG))) (So BW (.block 4 (.loop tF)))))))
def xfN:FnC:=⟨xoI,167,[],[],[]⟩
def OU:List RI:=[oo 6 (.mov (.c (.byt [] .clip))) [6]]
def OT:List RI:=[omk 9 0,oo 10 (.app [.u8 0] 1 (.c (.byt [] .clip)) (.t 9)) [9],omk 7 10]
def OS:List RI:=[om 11 1,oo 12 (Bc .lss 11 1) [11],omk 13 12,.grp 13 false [(xi 14 13 false (Mv 1)),(xi 15 13 false (Bc .gtr 14 8))] [14],oo 16 (Pt 13 15) [13,15]]
def OR:List RI:=[omk 17 7,omk 6 17]
def OQ:List RI:=[omk 18 1,oo 19 (Bc .sub 18 1) [18],omk 8 19]
def OP:List RI:=[om 20 8,oo 21 (Bc .geq 20 0) [20]]
def OO:List RI:=[omk 24 7,om 25 2,oo 26 (.toInt .u64 (.t 25)) [25],om 27 8,oo 28 (.bin .mul (ci 8) (.t 27)) [27],oo 29 (.toInt .u64 (.t 28)) [28],oo 30 (Bb .shr 26 29) [26,29],oo 31 (.toInt .u8 (.t 30)) [30],oo 32 (.litB [.t 31]) [31],oo 33 (.app [.u8 0] 1 (.t 24) (.t 32)) [24,32],omk 7 33]
def ON:List RI:=[omk 22 8,oo 23 (Bc .sub 22 1) [22],omk 8 23]
def Ao:RC:=(.post (.seq (So OP (Kc 21 (Kk [21] .skip) (Kk [2,8,21] (.exit 0)))) (.seq (.block 1 (.ops OO)) (.ops ON))) [.tok 7 107])
def zd:RC:=Ao
def OM:List RI:=[omk 34 7,omk 6 34]
def xoH:RC:=(So OU (So OT (.seq (So OS (Kc 16 (Kk [1,2,16] (So OR .ret)) (Kk [16] .skip))) (.seq (So OQ (.block 0 (.pre [.tok 7 107] (.loop zd)))) (So OM .ret)))))
def xfM:FnC:=⟨xoH,35,[.tmp 6],[0],[]⟩
def OL:List RI:=[oo 4 (.mov (.c (.byt [] .clip))) [4]]
def OK:List RI:=[om 5 1,omk 6 1,oo 7 (Ln 6) [6],oo 8 (.mini (.t 7) (ci 65535)) [7],oo 9 (.slcL 1 (.t 5) none (some (.t 8)) none) [5,8],omk 1 9]
def OJ:List RI:=[omk 10 0,om 11 1,oo 12 (Ln 11) [11],oo 13 (Ca 117 [.t 10,ci 2,.t 12]) [10,12],omk 14 1,oo 15 (.app [.u8 0] 1 (.t 13) (.t 14)) [13,14],omk 4 15]
def xoG:RC:=(So OL (So OK (So OJ .ret)))
def xfL:FnC:=⟨xoG,16,[.tmp 4],[0],[]⟩
def OG:List RI:=[oo 2 (.mov (ci 0)) [2]]
def OF:List RI:=[on 3 (.mov (ci 0))]
def OE:List RI:=[omk 6 0,on 7 (Ln 6),on 8 (.mov (ci 0))]
def OD:List RI:=[on 9 (Bb .lss 8 7)]
def OC:List RI:=[on 10 (Ia 1 6 8),oo 11 (Ld 10) [10],omk 5 11]
def OB:List RI:=[om 12 5,om 13 3,oo 14 (Bb .neq 12 13) [12,13]]
def OA:List RI:=[omk 15 5,omk 2 15]
def Oz:List RI:=[oo 16 (Bc .add 8 1) [8],omk 8 16]
def Am:RC:=(So OD (.seq (Kc 9 (Kk [9] .skip) (Kk [6,7,8,9] (.exit 0))) (.seq (.block 1 (So OC (So OB (Kc 14 (Kk [3,6,7,8,14] (So OA .ret)) (Kk [5,14] .skip))))) (.ops Oz))))
def Oy:RC:=Am
def Ox:List RI:=[omk 17 3,omk 2 17]
def xoF:RC:=(So OG (So OF (.seq (So OE (.block 0 (.loop Oy))) (So Ox .ret))))
def xfK:FnC:=⟨xoF,18,[.tmp 2],[],[]⟩
def Ow:List RI:=[oo 4 (.mov (ci 0)) [4]]
def Ov:List RI:=[om 7 0,oo 8 (Ca 153 [.t 7]) [7],omk 5 8]
def Ou:List RI:=[om 9 1,oo 10 (Ca 153 [.t 9]) [9],omk 6 10]
def Ot:List RI:=[omk 11 5]
def Oq:List RI:=[omk 12 6]
def Oo:List RI:=[on 4 (.mov (ci 0))]
def On:List RI:=[on 4 (.mov (ci (-1)))]
def Om:List RI:=[omk 13 6]
def Ol:List RI:=[on 4 (.mov (ci 1))]
def Ok:List RI:=[om 14 0,om 15 1,oo 16 (Bb .lss 14 15) [14,15]]
def BR:List RI:=[on 4 (.mov (ci (-1)))]
def BQ:List RI:=[omk 17 0,omk 18 1,oo 19 (Bb .gtr 17 18) [17,18]]
def BP:List RI:=[on 4 (.mov (ci 1))]
def BO:List RI:=[on 4 (.mov (ci 0))]
def xoE:RC:=(So Ow (So Ov (So Ou (.seq (So Ot (Kc 11 (Kk [0,1,11] (.seq (So Oq (Kc 12 (Kk [12] (So Oo .ret)) (Kk [12] .skip))) (So On .ret))) (Kk [11] .skip))) (.seq (So Om (Kc 13 (Kk [0,1,13] (So Ol .ret)) (Kk [13] .skip))) (.seq (So Ok (Kc 16 (Kk [0,1,16] (So BR .ret)) (Kk [16] .skip))) (.seq (So BQ (Kc 19 (Kk [19] (So BP .ret)) (Kk [19] .skip))) (So BO .ret))))))))
def xfJ:FnC:=⟨xoE,20,[.tmp 4],[],[]⟩
def Oj:List RI:=[oo 4 (.mov (ci 0)) [4]]
def Oi:List RI:=[omk 5 0,omk 6 1,oo 7 (Ca 154 [.t 5,.t 6]) [5,6],omk 4 7]
def xoD:RC:=(So Oj (So Oi .ret))
def xfI:FnC:=⟨xoD,8,[.tmp 4],[],[]⟩
def Oh:List RI:=[oo 4 (.mov (.c (.bool false))) [4]]
def Og:List RI:=[omk 5 0,omk 6 1,oo 7 (.toInt .u64 (.t 6)) [6],oo 8 (Bb .shr 5 7) [5,7],oo 9 (Bc .and 8 1) [8],oo 10 (Bc .eql 9 1) [9],omk 4 10]
def xoC:RC:=(So Oh (So Og .ret))
def xfH:FnC:=⟨xoC,11,[.tmp 4],[],[]⟩
def Of:List RI:=[oo 2 (.box (.t 0)) [0],oo 4 (.mov (.c (.lst 1 [] .clip))) [4]]
def Oe:List RI:=[on 8 (.mk [(.byt [] .no)] 24 (ci 2) (ci 2)),omk 5 8]
def Od:List RI:=[oo 9 (.load 4 true (.t 2)) [2],oo 10 (Ca 33 [.t 9]) [9],omk 6 10]
def Oc:List RI:=[on 7 (.mov (ci 0))]
def Ob:List RI:=[om 11 7,oo 12 (Bc .lss 11 2) [11]]
def Oa:List RI:=[om 15 6,oo 16 (Ln 15) [15],oo 17 (Bc .gtr 16 0) [16],omk 18 17,.grp 18 true [(xi 19 18 true (Mv 1)),(xi 20 18 true (Mv 7)),(xi 21 18 true (Ca 124 [.t 19,.t 20]))] [19,20],oo 22 (Pf 18 21) [18,21]]
def N9:List RI:=[om 23 5,om 24 7,om 25 7,om 26 6,oo 27 (Ca 99 [.t 25,.t 26]) [25,26],oo 28 (Ia 1 23 24) [23,24],.op ⟨none,none,.store 1 (.t 28) (.t 27)⟩ [27,28]]
def N8:List RI:=[omk 13 7,oo 14 (Bc .add 13 1) [13],omk 7 14]
def Al:RC:=(.seq (So Ob (Kc 12 (Kk [12] .skip) (Kk [1,6,7,12] (.exit 0)))) (.seq (.block 1 (So Oa (Kc 22 (Kk [22] (.ops N9)) (Kk [22] .skip)))) (.ops N8)))
def N7:RC:=Al
def N6:List RI:=[omk 29 5,omk 4 29]
def xoB:RC:=(So Of (So Oe (So Od (.seq (So Oc (.block 0 (.loop N7))) (So N6 .ret)))))
def xfG:FnC:=⟨xoB,30,[.tmp 4],[],[]⟩
def N5:List RI:=[on 0 (.new (.arr 1 (am 64 [.int .u32 0])))]
def N4:List RI:=[on 1 (.build [.int .u32 0,.int .u32 0,.int .u32 0,.int .u32 0,.int .u32 0,.int .u32 0,.int .u32 0,.int .u32 0,.int .u32 0,.int .u32 0,.int .u32 0,.int .u32 0,.int .u32 0,.int .u32 0,.int .u32 0,.int .u32 0,.int .u32 0,.int .u32 0,.int .u32 0,.int .u32 0,.int .u32 0,.int .u32 0,.int .u32 0,.int .u32 0,.int .u32 0,.int .u32 0,.int .u32 0,.int .u32 0,.int .u32 0,.int .u32 0,.int .u32 0,.int .u32 0,.int .u32 0,.int .u32 0,.int .u32 0,.int .u32 0,.int .u32 0,.int .u32 0,.int .u32 0,.int .u32 0,.int .u32 0,.int .u32 0,.int .u32 0,.int .u32 0,.int .u32 0,.int .u32 0,.int .u32 0,.int .u32 0,.int .u32 0,.int .u32 0,.int .u32 0,.int .u32 0,.int .u32 0,.int .u32 0,.int .u32 0,.int .u32 0,.int .u32 0,.int .u32 0,.int .u32 0,.int .u32 0,.int .u32 0,.int .u32 0,.int .u32 0,.int .u32 0] [(0,1,(.c (.int .u32 1116352408))),(1,1,(.c (.int .u32 1899447441))),(2,1,(.c (.int .u32 3049323471))),(3,1,(.c (.int .u32 3921009573))),(4,1,(.c (.int .u32 961987163))),(5,1,(.c (.int .u32 1508970993))),(6,1,(.c (.int .u32 2453635748))),(7,1,(.c (.int .u32 2870763221))),(8,1,(.c (.int .u32 3624381080))),(9,1,(.c (.int .u32 310598401))),(10,1,(.c (.int .u32 607225278))),(11,1,(.c (.int .u32 1426881987))),(12,1,(.c (.int .u32 1925078388))),(13,1,(.c (.int .u32 2162078206))),(14,1,(.c (.int .u32 2614888103))),(15,1,(.c (.int .u32 3248222580))),(16,1,(.c (.int .u32 3835390401))),(17,1,(.c (.int .u32 4022224774))),(18,1,(.c (.int .u32 264347078))),(19,1,(.c (.int .u32 604807628))),(20,1,(.c (.int .u32 770255983))),(21,1,(.c (.int .u32 1249150122))),(22,1,(.c (.int .u32 1555081692))),(23,1,(.c (.int .u32 1996064986))),(24,1,(.c (.int .u32 2554220882))),(25,1,(.c (.int .u32 2821834349))),(26,1,(.c (.int .u32 2952996808))),(27,1,(.c (.int .u32 3210313671))),(28,1,(.c (.int .u32 3336571891))),(29,1,(.c (.int .u32 3584528711))),(30,1,(.c (.int .u32 113926993))),(31,1,(.c (.int .u32 338241895))),(32,1,(.c (.int .u32 666307205))),(33,1,(.c (.int .u32 773529912))),(34,1,(.c (.int .u32 1294757372))),(35,1,(.c (.int .u32 1396182291))),(36,1,(.c (.int .u32 1695183700))),(37,1,(.c (.int .u32 1986661051))),(38,1,(.c (.int .u32 2177026350))),(39,1,(.c (.int .u32 2456956037))),(40,1,(.c (.int .u32 2730485921))),(41,1,(.c (.int .u32 2820302411))),(42,1,(.c (.int .u32 3259730800))),(43,1,(.c (.int .u32 3345764771))),(44,1,(.c (.int .u32 3516065817))),(45,1,(.c (.int .u32 3600352804))),(46,1,(.c (.int .u32 4094571909))),(47,1,(.c (.int .u32 275423344))),(48,1,(.c (.int .u32 430227734))),(49,1,(.c (.int .u32 506948616))),(50,1,(.c (.int .u32 659060556))),(51,1,(.c (.int .u32 883997877))),(52,1,(.c (.int .u32 958139571))),(53,1,(.c (.int .u32 1322822218))),(54,1,(.c (.int .u32 1537002063))),(55,1,(.c (.int .u32 1747873779))),(56,1,(.c (.int .u32 1955562222))),(57,1,(.c (.int .u32 2024104815))),(58,1,(.c (.int .u32 2227730452))),(59,1,(.c (.int .u32 2361852424))),(60,1,(.c (.int .u32 2428436474))),(61,1,(.c (.int .u32 2756734187))),(62,1,(.c (.int .u32 3204031479))),(63,1,(.c (.int .u32 3329325298)))]),.op ⟨none,none,.store 64 (.t 0) (.t 1)⟩ [1]]
def xoA:RC:=(So N5 (So N4 .ret))
def xfF:FnC:=⟨xoA,2,[.cell 0 64 true],[],[]⟩
def N3:List RI:=[oo 2 (.mov (.c (.byt [] .clip))) [2]]
def N2:List RI:=[on 6 (.litB []),om 7 0,oo 8 (.app [.u8 0] 1 (.t 6) (.t 7)) [6,7],on 9 (.litB [(.c (.u8 128))]),oo 10 (.app [.u8 0] 1 (.t 8) (.t 9)) [8,9],omk 3 10]
def N1:List RI:=[om 11 3,oo 12 (Ln 11) [11],oo 13 (Bc .rem 12 64) [12],oo 14 (Bc .neq 13 56) [13]]
def N0:List RI:=[omk 15 3,on 16 (.litB [(.c (.u8 0))]),oo 17 (.app [.u8 0] 1 (.t 15) (.t 16)) [15,16],omk 3 17]
def Ak:RC:=(.post (.seq (So N1 (Kc 14 (Kk [14] .skip) (Kk [14] (.exit 0)))) (.block 1 (.ops N0))) [.tok 3 103])
def za:RC:=Ak
def NZ:List RI:=[omk 18 0,oo 19 (Ln 18) [18],oo 20 (.toInt .u64 (.t 19)) [19],oo 21 (.bin .mul (.t 20) (.c (.int .u64 8))) [20],omk 4 21]
def NY:List RI:=[on 5 (.mov (ci 7))]
def NX:List RI:=[om 22 5,oo 23 (Bc .geq 22 0) [22]]
def NW:List RI:=[omk 26 3,om 27 4,om 28 5,oo 29 (.toInt .u64 (.t 28)) [28],oo 30 (.bin .mul (.c (.int .u64 8)) (.t 29)) [29],oo 31 (Bb .shr 27 30) [27,30],oo 32 (.toInt .u8 (.t 31)) [31],oo 33 (.litB [.t 32]) [32],oo 34 (.app [.u8 0] 1 (.t 26) (.t 33)) [26,33],omk 3 34]
def NV:List RI:=[omk 24 5,oo 25 (Bc .sub 24 1) [24],omk 5 25]
def uh:RC:=(.post (.seq (So NX (Kc 23 (Kk [23] .skip) (Kk [4,5,23] (.exit 2)))) (.seq (.block 3 (.ops NW)) (.ops NV))) [.tok 3 103])
def tE:RC:=uh
def BN:List RI:=[omk 35 3,omk 2 35]
def xoz:RC:=(So N3 (So N2 (.seq (.block 0 (.pre [.tok 3 103] (.loop za))) (So NZ (.seq (So NY (.block 2 (.pre [.tok 3 103] (.loop tE)))) (So BN .ret))))))
def xfE:FnC:=⟨xoz,36,[.tmp 2],[],[]⟩
def NU:List RI:=[oo 4 (.mov (.c (.int .u32 0))) [4]]
def NT:List FI:=[Fm 0 5 0,Fm 1 6 1,Fs 2 7 (.bin .mul (ci 4) (.t 6)),Fs 3 8 (Ia 1 5 7),Fs 4 9 (Ld 8),Fs 5 10 (.toInt .u32 (.t 9)),Fs 6 11 (.bin .shl (.t 10) (.c (.int .u64 24))),Fm 7 12 0,Fm 8 13 1,Fs 9 14 (.bin .mul (ci 4) (.t 13)),Fs 10 15 (Bc .add 14 1),Fs 11 16 (Ia 1 12 15),Fs 12 17 (Ld 16),Fs 13 18 (.toInt .u32 (.t 17)),Fs 14 19 (.bin .shl (.t 18) (.c (.int .u64 16))),Fs 15 20 (Bb .or 11 19),Fm 16 21 0,Fm 17 22 1,Fs 18 23 (.bin .mul (ci 4) (.t 22)),Fs 19 24 (Bc .add 23 2),Fs 20 25 (Ia 1 21 24),Fs 21 26 (Ld 25),Fs 22 27 (.toInt .u32 (.t 26)),Fs 23 28 (.bin .shl (.t 27) (.c (.int .u64 8))),Fs 24 29 (Bb .or 20 28),Fm 25 30 0,Fm 26 31 1,Fs 27 32 (.bin .mul (ci 4) (.t 31)),Fs 28 33 (Bc .add 32 3),Fs 29 34 (Ia 1 30 33),Fs 30 35 (Ld 34),Fs 31 36 (.toInt .u32 (.t 35)),Fs 32 37 (Bb .or 29 36),Fm 33 4 37]
def xoy:RC:=(So NU (.seq (.flt [0,0,2,7,15,31,63,0,0,256,768,1920,3968,8064,16256,32767,0,0,131072,393216,983040,2031616,4128768,8323072,16777215,0,0,67108864,201326592,503316480,1040187392,2113929216,4294967295,8589934591] [] NT [0,1,5,6,7,8,9,10,11,12,13,14,15,16,17,18,19,20,21,22,23,24,25,26,27,28,29,30,31,32,33,34,35,36,37]) .ret))
def xfD:FnC:=⟨xoy,38,[.tmp 4],[],[]⟩
def NS:List RI:=[oo 4 (.mov (.c (.int .u32 0))) [4]]
def NR:List RI:=[om 5 0,om 6 1,oo 7 (Bb .shr 5 6) [5,6],omk 8 0,omk 9 1,oo 10 (.bin .sub (.c (.int .u64 32)) (.t 9)) [9],oo 11 (Bb .shl 8 10) [8,10],oo 12 (Bb .or 7 11) [7,11],omk 4 12]
def xox:RC:=(So NS (So NR .ret))
def xfC:FnC:=⟨xox,13,[.tmp 4],[],[]⟩
def NL:List RI:=[oo 2 (.mov (.c (.byt [] .clip))) [2]]
def NK:List RI:=[on 3 (.mov (.c (.byt [] .clip)))]
def NJ:List RI:=[on 4 (.mov (ci 0))]
def NI:List RI:=[om 5 4,om 6 0,oo 7 (Ln 6) [6],oo 8 (Bb .lss 5 7) [5,7]]
def NH:List FI:=[Fm 0 11 3,Fm 1 12 0,Fm 2 13 4,Fs 3 14 (Ia 1 12 13),Fs 4 15 (Ld 14),Fs 5 16 (.bin .shr (.t 15) (.c (.int .u64 24))),Fs 6 17 (.toInt .u8 (.t 16)),Fm 7 18 0,Fm 8 19 4,Fs 9 20 (Ia 1 18 19),Fs 10 21 (Ld 20),Fs 11 22 (.bin .shr (.t 21) (.c (.int .u64 16))),Fs 12 23 (.toInt .u8 (.t 22)),Fm 13 24 0,Fm 14 25 4,Fs 15 26 (Ia 1 24 25),Fs 16 27 (Ld 26),Fs 17 28 (.bin .shr (.t 27) (.c (.int .u64 8))),Fs 18 29 (.toInt .u8 (.t 28)),Fm 19 30 0,Fm 20 31 4,Fs 21 32 (Ia 1 30 31),Fs 22 33 (Ld 32),Fs 23 34 (.toInt .u8 (.t 33)),Fs 24 35 (.litB [.t 17,.t 23,.t 29,.t 34]),Fz 25 36 (.app [.u8 0] 1 (.t 11) (.t 35)),⟨26,false,(xm 3 36)⟩]
def NG:List RI:=[omk 9 4,oo 10 (Bc .add 9 1) [9],omk 4 10]
def Ai:RC:=(.post (.seq (So NI (Kc 8 (Kk [8] .skip) (Kk [0,4,8] (.exit 0)))) (.seq (.block 1 (.flt [0,0,0,6,14,30,62,0,0,384,896,1920,3968,0,0,24576,57344,122880,253952,0,0,1572864,3670016,7864320,16777214,33554431,67108863] [136] NH [11,12,13,14,15,16,17,18,19,20,21,22,23,24,25,26,27,28,29,30,31,32,33,34,35,36])) (.ops NG))) [.tok 3 103])
def y9:RC:=Ai
def NF:List RI:=[omk 37 3,omk 2 37]
def xow:RC:=(So NL (So NK (.seq (So NJ (.block 0 (.pre [.tok 3 103] (.loop y9)))) (So NF .ret))))
def xfB:FnC:=⟨xow,38,[.tmp 2],[],[]⟩
def NE:List RI:=[oo 2 (.mov (.c (.bool false))) [2]]
def ND:List FI:=[Fm 0 3 0,Fs 1 4 (.nchk (.t 3)),Fs 2 5 (Fa 1 4),Fs 3 6 (Ld 5),Fm 4 7 0,Fs 5 8 (.nchk (.t 7)),Fs 6 9 (Fa 0 8),Fs 7 10 (Ld 9),Fs 8 11 (Ln 10),Fs 9 12 (Bb .lss 6 11),Fm 10 2 12]
def xov:RC:=(So NE (.seq (.flt [0,1,3,7,0,16,48,112,240,511,1023] [] ND [0,3,4,5,6,7,8,9,10,11,12]) .ret))
def xfA:FnC:=⟨xov,13,[.tmp 2],[],[]⟩
def NC:List RI:=[oo 4 (.mov (.c (.str []))) [4]]
def NB:List RI:=[om 10 1,oo 11 (Bc .eql 10 10) [10]]
def NA:List RI:=[om 12 0,oo 13 (.bin .leq (ci 0) (.t 12)) [12],omk 14 13,.grp 14 true [(xi 15 14 true (Mv 0)),(xi 16 14 true (Bc .lss 15 100))] [15],oo 17 (Pf 14 16) [14,16]]
def Nz:List RI:=[omk 18 0,oo 19 (Ca 155 [.t 18]) [18],omk 4 19]
def Ny:List RI:=[on 5 (.new (.bar (am 24 0)))]
def Nw:List RI:=[om 20 0,oo 21 (.toInt .u64 (.t 20)) [20],omk 6 21]
def Nv:List RI:=[om 22 0,oo 23 (Bc .lss 22 0) [22]]
def Nu:List RI:=[omk 24 6,oo 25 (.un .neg (.t 24)) [24],omk 6 25]
def Nt:List RI:=[om 26 6,oo 27 (Ca 156 [.t 26]) [26],omk 7 27]
def Ns:List RI:=[om 28 7,oo 29 (.bin .add (ci 1) (.t 28)) [28],oo 30 (.slcA 24 1 (.t 5) (some (ci 1)) (some (.t 29)) none) [29],omk 31 6,oo 32 (Ca 157 [.t 30,.t 31]) [30,31,32]]
def BM:List RI:=[omk 33 0,oo 34 (Bc .lss 33 0) [33]]
def BL:List RI:=[on 35 (.iaddrA 24 1 (.t 5) (ci 0)),.op ⟨none,none,.store 1 (.t 35) (.c (.u8 45))⟩ [35]]
def BK:List RI:=[omk 36 7,oo 37 (.bin .add (ci 1) (.t 36)) [36],oo 38 (.slcA 24 1 (.t 5) none (some (.t 37)) none) [5,37],oo 39 (.b2s (.t 38)) [38],omk 4 39]
def BJ:List RI:=[omk 40 7,oo 41 (.bin .add (ci 1) (.t 40)) [40],oo 42 (.slcA 24 1 (.t 5) (some (ci 1)) (some (.t 41)) none) [5,41],oo 43 (.b2s (.t 42)) [42],omk 4 43]
def BI:List RI:=[om 45 0,oo 46 (.toInt .u64 (.t 45)) [45],omk 47 1,omk 48 0,oo 49 (Bc .lss 48 0) [48],oo 50 (Ca 158 [(.c (.byt [] .clip)),.t 46,.t 47,.t 49,(.c (.bool false))]) [46,47,49],omk 44 50,on 51 (.ext (.t 44) 0),oo 52 (.ext (.t 44) 1) [44],.op (xm 8 51) [8,51],omk 9 52]
def BH:List RI:=[omk 53 9,omk 4 53]
def xou:RC:=(So NC (.seq (So NB (Kc 11 (Kk [1,11] (.seq (So NA (Kc 17 (Kk [17] (So Nz .ret)) (Kk [17] .skip))) (So Ny (So Nw (.seq (So Nv (Kc 23 (Kk [23] (.ops Nu)) (Kk [23] .skip))) (So Nt (So Ns (.seq (So BM (Kc 34 (Kk [34] (So BL (So BK .ret))) (Kk [34] .skip))) (So BJ .ret))))))))) (Kk [11] .skip))) (So BI (So BH .ret))))
def xfz:FnC:=⟨xou,54,[.tmp 4],[],[]⟩
def Nr:List RI:=[oo 4 (.mov (.c (.str []))) [4]]
def Nq:List RI:=[om 7 0,oo 8 (.bin .eql (.t 7) (.c (.str []))) [7],omk 9 8,.grp 9 false [(xi 10 9 false (Mv 1)),(xi 11 9 false (.bin .eql (.t 10) (.c (.str []))))] [10],oo 12 (Pt 9 11) [9,11]]
def Np:List RI:=[omk 13 0,omk 4 13]
def No:List RI:=[om 14 1,oo 15 (.len true (.t 14)) [14],oo 16 (Bc .eql 15 1) [15],omk 17 16,.grp 17 true [(xi 18 17 true (Mv 1)),(xi 19 17 true (.idxS (.t 18) (ci 0))),(xi 20 17 true (.bin .lss (.t 19) (.c (.u8 128))))] [18,19],oo 21 (Pf 17 20) [17,20]]
def Nn:List FI:=[Fm 0 22 0,Fm 1 23 1,Fs 2 24 (.idxS (.t 23) (ci 0)),Fm 4 26 1,Fs 5 27 (.idxS (.t 26) (ci 0)),Fz 3 25 (Ca 160 [.t 22,.t 24]),Fz 6 28 (Ca 159 [.t 25,.t 27]),Fm 7 4 28]
def Nm:List RI:=[om 30 1,oo 31 (Ca 161 [.t 30]) [30],omk 29 31,on 32 (.ext (.t 29) 0),oo 33 (.ext (.t 29) 1) [29],on 5 (.new (.arr 1 (am 256 [.bool false]))),.op ⟨none,none,.store 256 (.t 5) (.t 32)⟩ [32],omk 6 33]
def Nl:List RI:=[omk 34 6]
def Nk:List RI:=[omk 35 0,oo 36 (Ca 163 [.t 35,.t 5]) [35],oo 37 (Ca 162 [.t 36,.t 5]) [5,36],omk 4 37]
def Nj:List RI:=[omk 38 0,om 39 1,oo 40 (Ca 165 [.t 38,.t 39]) [38,39],omk 41 1,oo 42 (Ca 164 [.t 40,.t 41]) [40,41],omk 4 42]
def xot:RC:=(So Nr (.seq (So Nq (Kc 12 (Kk [1,12] (So Np .ret)) (Kk [12] .skip))) (.seq (So No (Kc 21 (Kk [21] (.seq (.flt [0,0,2,7,0,16,63,127] [] Nn [0,1,22,23,24,25,26,27,28]) .ret)) (Kk [21] .skip))) (.seq (So Nm (So Nl (Kc 34 (Kk [1,34] (So Nk .ret)) (Kk [5,34] .skip)))) (So Nj .ret)))))
def xfy:FnC:=⟨xot,43,[.tmp 4],[],[]⟩
def Ni:List RI:=[oo 4 (.mov (.c (.str []))) [4],oo 5 (.mov (.c (.bool false))) [5]]
def Nh:List RI:=[om 6 0,om 7 1,oo 8 (Ca 166 [.t 6,.t 7]) [6,7],oo 9 (.un .not (.t 8)) [8]]
def Ng:List RI:=[omk 10 0,omk 4 10,on 5 (.mov (.c (.bool false)))]
def Nf:List RI:=[omk 11 0,omk 12 1,oo 13 (.len true (.t 12)) [12],oo 14 (.slcS (.t 11) (some (.t 13)) none) [11,13],omk 4 14,on 5 (.mov (.c (.bool true)))]
def xos:RC:=(So Ni (.seq (So Nh (Kc 9 (Kk [1,9] (So Ng .ret)) (Kk [9] .skip))) (So Nf .ret)))
def xfx:FnC:=⟨xos,15,[.tmp 4,.tmp 5],[],[]⟩
def Nd:List RI:=[oo 2 (.mov (ci 0)) [2],oo 3 (.mov (.c .nili)) [3]]
def Nc:List RI:=[om 7 0,oo 8 (Ca 167 [.t 7]) [7],omk 6 8,on 9 (.ext (.t 6) 0),oo 10 (.ext (.t 6) 1) [6],omk 4 9,omk 5 10]
def Nb:List RI:=[om 11 5,oo 12 (.isni true (.t 11)) [11]]
def Na:List RI:=[omk 13 4,omk 14 0,omk 15 5,oo 16 (Ca 168 [(.c (.str [65,116,111,105])),.t 14,ci 0,ci 0,.t 15]) [14,15],omk 2 13,omk 3 16]
def M9:List RI:=[omk 17 4,omk 2 17,on 3 (.mov (.c .nili))]
def xoq:RC:=(So Nd (So Nc (.seq (So Nb (Kc 12 (Kk [12] (So Na .ret)) (Kk [0,5,12] .skip))) (So M9 .ret))))
def xfw:FnC:=⟨xoq,18,[.tmp 2,.tmp 3],[],[]⟩
def M8:List RI:=[oo 2 (.mov (.c (.byt [] .clip))) [2]]
def M7:List RI:=[on 17 (.lit 1 [(.c (.int .u32 1732584193)),(.c (.int .u32 4023233417)),(.c (.int .u32 2562383102)),(.c (.int .u32 271733878)),(.c (.int .u32 3285377520))]),omk 3 17]
def M6:List RI:=[omk 18 0,oo 19 (Ca 127 [.t 18]) [18],omk 4 19]
def M5:List RI:=[on 5 (.mov (ci 0))]
def M4:List RI:=[om 20 5,om 21 4,oo 22 (Ln 21) [21],oo 23 (Bb .lss 20 22) [20,22]]
def M3:List RI:=[on 6 (.new (.arr 1 (am 80 [.int .u32 0])))]
def M2:List RI:=[on 7 (.mov (ci 0))]
def M1:List RI:=[om 26 7,oo 27 (Bc .lss 26 80) [26]]
def M0:List RI:=[om 30 7,oo 31 (Bc .lss 30 16) [30]]
def MZ:List RI:=[om 32 7,om 33 4,om 34 5,om 35 5,oo 36 (Bc .add 35 64) [35],oo 37 (.slcL 1 (.t 33) (some (.t 34)) (some (.t 36)) none) [33,34,36],om 38 7,oo 39 (Ca 128 [.t 37,.t 38]) [37,38],oo 40 (.iaddrA 80 1 (.t 6) (.t 32)) [32],.op ⟨none,none,.store 1 (.t 40) (.t 39)⟩ [39,40]]
def BG:List FI:=[Fm 0 41 7,Fm 1 42 7,Fs 2 43 (Bc .sub 42 3),Fs 3 44 (.iaddrA 80 1 (.t 6) (.t 43)),Fs 4 45 (Ld 44),Fm 5 46 7,Fs 6 47 (Bc .sub 46 8),Fs 7 48 (.iaddrA 80 1 (.t 6) (.t 47)),Fs 8 49 (Ld 48),Fs 9 50 (Bb .xor 45 49),Fm 10 51 7,Fs 11 52 (Bc .sub 51 14),Fs 12 53 (.iaddrA 80 1 (.t 6) (.t 52)),Fs 13 54 (Ld 53),Fs 14 55 (Bb .xor 50 54),Fm 15 56 7,Fs 16 57 (Bc .sub 56 16),Fs 17 58 (.iaddrA 80 1 (.t 6) (.t 57)),Fs 18 59 (Ld 58),Fs 19 60 (Bb .xor 55 59),Fz 20 61 (Ca 169 [.t 60,(.c (.int .u64 1))]),Fs 21 62 (.iaddrA 80 1 (.t 6) (.t 41)),⟨22,false,⟨none,none,.store 1 (.t 62) (.t 61)⟩⟩]
def BF:List RI:=[omk 28 7,oo 29 (Bc .add 28 1) [28],omk 7 29]
def ug:RC:=(.seq (So M1 (Kc 27 (Kk [27] .skip) (Kk [7,27] (.exit 2)))) (.seq (.block 3 (.seq (So M0 (Kc 31 (Kk [31] (So MZ (.exit 3))) (Kk [31] .skip))) (.flt [0,0,2,6,14,0,32,96,224,510,0,1024,3072,7168,16382,0,32768,98304,229376,524286,1048574,2097151,4194303] [] BG [41,42,43,44,45,46,47,48,49,50,51,52,53,54,55,56,57,58,59,60,61,62]))) (.ops BF)))
def tB:RC:=ug
def BE:List FI:=[Fm 0 63 3,Fs 1 64 (.iaddrL 1 (.t 63) (ci 0)),Fs 2 65 (Ld 64),Fm 3 66 3,Fs 4 67 (.iaddrL 1 (.t 66) (ci 1)),Fs 5 68 (Ld 67),Fm 6 69 3,Fs 7 70 (.iaddrL 1 (.t 69) (ci 2)),Fs 8 71 (Ld 70),Fm 9 72 3,Fs 10 73 (.iaddrL 1 (.t 72) (ci 3)),Fs 11 74 (Ld 73),Fm 12 75 3,Fs 13 76 (.iaddrL 1 (.t 75) (ci 4)),Fs 14 77 (Ld 76),Fm 15 8 65,Fm 16 9 68,Fm 17 10 71,Fm 18 11 74,Fm 19 12 77]
def BD:List RI:=[on 13 (.mov (ci 0))]
def BC:List RI:=[om 78 13,oo 79 (Bc .lss 78 80) [78]]
def BB:List RI:=[om 82 9,om 83 10,oo 84 (Bb .xor 82 83) [82,83],om 85 11,oo 86 (Bb .xor 84 85) [84,85],omk 14 86,on 15 (.mov (.c (.int .u32 3395469782)))]
def BA:List RI:=[om 88 13,oo 89 (Bc .lss 88 20) [88],omk 87 89]
def Bz:List RI:=[om 90 9,om 91 10,oo 92 (Bb .and 90 91) [90,91],om 93 9,oo 94 (.un .xor (.t 93)) [93],om 95 11,oo 96 (Bb .and 94 95) [94,95],oo 97 (Bb .xor 92 96) [92,96],omk 14 97,on 15 (.mov (.c (.int .u32 1518500249)))]
def By:List RI:=[om 99 13,oo 100 (Bc .lss 99 40) [99],omk 98 100]
def Bx:List RI:=[on 15 (.mov (.c (.int .u32 1859775393)))]
def Bw:List RI:=[om 102 13,oo 103 (Bc .lss 102 60) [102],omk 101 103]
def Bv:List RI:=[om 104 9,om 105 10,oo 106 (Bb .and 104 105) [104,105],om 107 9,om 108 11,oo 109 (Bb .and 107 108) [107,108],oo 110 (Bb .xor 106 109) [106,109],om 111 10,om 112 11,oo 113 (Bb .and 111 112) [111,112],oo 114 (Bb .xor 110 113) [110,113],omk 14 114,on 15 (.mov (.c (.int .u32 2400959708)))]
def Bu:List FI:=[Fm 0 115 8,Fm 2 117 14,Fm 4 119 12,Fm 6 121 15,Fm 8 123 13,Fs 9 124 (.iaddrA 80 1 (.t 6) (.t 123)),Fs 10 125 (Ld 124),Fz 1 116 (Ca 169 [.t 115,(.c (.int .u64 5))]),Fs 3 118 (Bb .add 116 117),Fs 5 120 (Bb .add 118 119),Fs 7 122 (Bb .add 120 121),Fs 11 126 (Bb .add 122 125),Fm 12 16 126]
def Bt:List RI:=[omk 127 16,omk 128 8,omk 129 9,oo 130 (Ca 169 [.t 129,(.c (.int .u64 30))]) [129],omk 131 10,omk 132 11,omk 8 127,omk 9 128,omk 10 130,omk 11 131,omk 12 132]
def Bs:List RI:=[omk 80 13,oo 81 (Bc .add 80 1) [80],omk 13 81]
def uf:RC:=(.seq (So BC (Kc 79 (Kk [79] .skip) (Kk [6,13,79] (.exit 4)))) (.seq (.block 5 (So BB (.seq (.block 6 (So BA (Kc 87 (Kk [14,15,87] (.ops Bz)) (Kk [87] (So By (Kc 98 (Kk [15,98] (.ops Bx)) (Kk [98] (So Bw (Kc 101 (Kk [14,15,101] (.ops Bv)) (Kk [101] .skip)))))))))) (.seq (.flt [0,1,0,7,0,31,0,127,0,256,768,2047,4095] [] Bu [12,14,15,115,116,117,118,119,120,121,122,123,124,125,126]) (.ops Bt))))) (.ops Bs)))
def fX:RC:=uf
def Br:List FI:=[Fm 0 133 3,Fs 1 134 (.iaddrL 1 (.t 133) (ci 0)),Fs 2 135 (Ld 134),Fm 3 136 8,Fs 4 137 (Bb .add 135 136),Fm 5 138 3,Fs 6 139 (.iaddrL 1 (.t 138) (ci 1)),Fs 7 140 (Ld 139),Fm 8 141 9,Fs 9 142 (Bb .add 140 141),Fm 10 143 3,Fs 11 144 (.iaddrL 1 (.t 143) (ci 2)),Fs 12 145 (Ld 144),Fm 13 146 10,Fs 14 147 (Bb .add 145 146),Fm 15 148 3,Fs 16 149 (.iaddrL 1 (.t 148) (ci 3)),Fs 17 150 (Ld 149),Fm 18 151 11,Fs 19 152 (Bb .add 150 151),Fm 20 153 3,Fs 21 154 (.iaddrL 1 (.t 153) (ci 4)),Fs 22 155 (Ld 154),Fm 23 156 12,Fs 24 157 (Bb .add 155 156),Fs 25 158 (.lit 1 [.t 137,.t 142,.t 147,.t 152,.t 157]),⟨26,false,(xm 3 158)⟩]
def Bq:List RI:=[omk 24 5,oo 25 (Bc .add 24 64) [24],omk 5 25]
def ue:RC:=(.post (.seq (So M4 (Kc 23 (Kk [23] .skip) (Kk [4,5,23] (.exit 0)))) (.seq (.block 1 (So M3 (.seq (So M2 (.block 2 (.loop tB))) (.seq (.flt [0,1,3,0,8,24,0,64,192,0,512,1536,0,4096,12288,7,32831,98815,233471,524287] [] BE [63,64,65,66,67,68,69,70,71,72,73,74,75,76,77]) (.seq (So BD (.block 4 (.loop fX))) (.flt [0,1,3,0,15,0,32,96,0,480,0,1024,3072,0,15360,0,32768,98304,0,491520,0,1048576,3145728,0,15728640,33554431,67108863] [] Br [8,9,10,11,12,133,134,135,136,137,138,139,140,141,142,143,144,145,146,147,148,149,150,151,152,153,154,155,156,157,158])))))) (.ops Bq))) [.gc [106]])
def tz:RC:=ue
def Bp:List RI:=[omk 159 3,oo 160 (Ca 130 [.t 159]) [159],omk 2 160]
def xop:RC:=(So M8 (So M7 (So M6 (.seq (So M5 (.block 0 (.loop tz))) (So Bp .ret)))))
def xfv:FnC:=⟨xop,161,[.tmp 2],[],[]⟩
def MY:List RI:=[oo 4 (.mov (.c (.byt [] .clip))) [4]]
def MX:List RI:=[omk 9 0,oo 10 (.toInt .u8 (.t 9)) [9],oo 11 (.litB [.t 10]) [10],omk 5 11]
def MW:List RI:=[omk 12 1,on 13 (Ln 12),on 14 (.mov (ci 0))]
def MV:List RI:=[on 15 (Bb .lss 14 13)]
def MU:List RI:=[on 16 (Ia 1 12 14),oo 17 (Ld 16) [16],omk 7 17]
def MT:List RI:=[om 18 7,oo 19 (Ln 18) [18],oo 20 (.toInt .u32 (.t 19)) [19],omk 8 20]
def MS:List RI:=[omk 21 5,om 22 8,oo 23 (.bin .shr (.t 22) (.c (.int .u64 24))) [22],oo 24 (.toInt .u8 (.t 23)) [23],om 25 8,oo 26 (.bin .shr (.t 25) (.c (.int .u64 16))) [25],oo 27 (.toInt .u8 (.t 26)) [26],om 28 8,oo 29 (.bin .shr (.t 28) (.c (.int .u64 8))) [28],oo 30 (.toInt .u8 (.t 29)) [29],omk 31 8,oo 32 (.toInt .u8 (.t 31)) [31],oo 33 (.litB [.t 24,.t 27,.t 30,.t 32]) [24,27,30,32],oo 34 (.app [.u8 0] 1 (.t 21) (.t 33)) [21,33],omk 5 34]
def MR:List RI:=[omk 35 5,omk 36 7,oo 37 (.app [.u8 0] 1 (.t 35) (.t 36)) [35,36],omk 5 37]
def MQ:List RI:=[oo 38 (Bc .add 14 1) [14],omk 14 38]
def Ah:RC:=(.post (So MV (.seq (Kc 15 (Kk [15] .skip) (Kk [12,13,14,15] (.exit 0))) (.seq (.block 1 (So MU (So MT (So MS (.ops MR))))) (.ops MQ)))) [.tok 5 105])
def MP:RC:=Ah
def Bo:List RI:=[omk 39 5,omk 4 39]
def xoo:RC:=(So MY (So MX (.seq (So MW (.block 0 (.pre [.tok 5 105] (.loop MP)))) (So Bo .ret))))
def xfu:FnC:=⟨xoo,40,[.tmp 4],[],[]⟩
def MH:List RI:=[oo 4 (.mov (.c (.int .u32 0))) [4]]
def MG:List FI:=[Fm 0 5 0,Fm 1 6 1,Fs 2 7 (.bin .mul (ci 4) (.t 6)),Fs 3 8 (Ia 1 5 7),Fs 4 9 (Ld 8),Fs 5 10 (.toInt .u32 (.t 9)),Fs 6 11 (.bin .shl (.t 10) (.c (.int .u64 24))),Fm 7 12 0,Fm 8 13 1,Fs 9 14 (.bin .mul (ci 4) (.t 13)),Fs 10 15 (Bc .add 14 1),Fs 11 16 (Ia 1 12 15),Fs 12 17 (Ld 16),Fs 13 18 (.toInt .u32 (.t 17)),Fs 14 19 (.bin .shl (.t 18) (.c (.int .u64 16))),Fs 15 20 (Bb .or 11 19),Fm 16 21 0,Fm 17 22 1,Fs 18 23 (.bin .mul (ci 4) (.t 22)),Fs 19 24 (Bc .add 23 2),Fs 20 25 (Ia 1 21 24),Fs 21 26 (Ld 25),Fs 22 27 (.toInt .u32 (.t 26)),Fs 23 28 (.bin .shl (.t 27) (.c (.int .u64 8))),Fs 24 29 (Bb .or 20 28),Fm 25 30 0,Fm 26 31 1,Fs 27 32 (.bin .mul (ci 4) (.t 31)),Fs 28 33 (Bc .add 32 3),Fs 29 34 (Ia 1 30 33),Fs 30 35 (Ld 34),Fs 31 36 (.toInt .u32 (.t 35)),Fs 32 37 (Bb .or 29 36),Fm 33 4 37]
def xon:RC:=(So MH (.seq (.flt [0,0,2,7,15,31,63,0,0,256,768,1920,3968,8064,16256,32767,0,0,131072,393216,983040,2031616,4128768,8323072,16777215,0,0,67108864,201326592,503316480,1040187392,2113929216,4294967295,8589934591] [] MG [0,1,5,6,7,8,9,10,11,12,13,14,15,16,17,18,19,20,21,22,23,24,25,26,27,28,29,30,31,32,33,34,35,36,37]) .ret))
def xft:FnC:=⟨xon,38,[.tmp 4],[],[]⟩
def MF:List RI:=[oo 4 (.mov (.c (.int .u32 0))) [4]]
def ME:List RI:=[omk 6 1,oo 7 (.toInt .u64 (.t 6)) [6],oo 8 (.bin .and (.t 7) (.c (.int .u64 31))) [7],omk 5 8]
def MD:List RI:=[om 9 0,om 10 5,oo 11 (Bb .shl 9 10) [9,10],omk 12 0,omk 13 5,oo 14 (.bin .sub (.c (.int .u64 32)) (.t 13)) [13],oo 15 (Bb .shr 12 14) [12,14],oo 16 (Bb .or 11 15) [11,15],omk 4 16]
def xom:RC:=(So MF (So ME (So MD .ret)))
def xfs:FnC:=⟨xom,17,[.tmp 4],[],[]⟩
def MC:List RI:=[on 2 (.mov (ci 0))]
def MB:List RI:=[om 3 0,oo 4 (.bin .geq (.t 3) (.c (.int .u64 4294967296))) [3]]
def MA:List RI:=[omk 5 0,oo 6 (.bin .shr (.t 5) (.c (.int .u64 32))) [5],omk 0 6]
def Mz:List RI:=[on 2 (.mov (ci 32))]
def My:List RI:=[om 7 0,oo 8 (.bin .geq (.t 7) (.c (.int .u64 65536))) [7]]
def Mx:List RI:=[omk 9 0,oo 10 (.bin .shr (.t 9) (.c (.int .u64 16))) [9],omk 0 10]
def Mw:List RI:=[omk 11 2,oo 12 (Bc .add 11 16) [11],omk 2 12]
def Mu:List RI:=[om 13 0,oo 14 (.bin .geq (.t 13) (.c (.int .u64 256))) [13]]
def Mt:List RI:=[omk 15 0,oo 16 (.bin .shr (.t 15) (.c (.int .u64 8))) [15],omk 0 16]
def Ms:List RI:=[omk 17 2,oo 18 (Bc .add 17 8) [17],omk 2 18]
def Bn:List RI:=[omk 19 2,omk 20 0,oo 21 (.toInt .u8 (.t 20)) [20],oo 22 (.idxS (.c (.str cs0)) (.t 21)) [21],oo 23 (.toInt .i64 (.t 22)) [22],oo 24 (Bb .add 19 23) [19,23],omk 2 24]
def xol:RC:=(So MC (.seq (So MB (Kc 4 (Kk [2,4] (So MA (.ops Mz))) (Kk [4] .skip))) (.seq (So My (Kc 8 (Kk [8] (So Mx (.ops Mw))) (Kk [8] .skip))) (.seq (So Mu (Kc 14 (Kk [14] (So Mt (.ops Ms))) (Kk [14] .skip))) (So Bn .ret)))))
def xfr:FnC:=⟨xol,25,[.tmp 2],[],[]⟩
def Mr:List RI:=[oo 2 (.mov (.c (.bool false))) [2]]
def Mq:List RI:=[om 3 0,omk 4 0,oo 5 (Bb .neq 3 4) [3,4],omk 2 5]
def xok:RC:=(So Mr (So Mq .ret))
def xfq:FnC:=⟨xok,6,[.tmp 2],[],[]⟩
def Mp:List RI:=[oo 2 (.mov (.c (.str []))) [2]]
def Mo:List RI:=[om 3 0,oo 4 (Bc .lss 3 10) [3]]
def Mn:List RI:=[om 5 0,omk 6 0,oo 7 (Bc .add 6 1) [6],oo 8 (.slcS (.c (.str cs1)) (some (.t 5)) (some (.t 7))) [5,7],omk 2 8]
def Mm:List RI:=[om 9 0,oo 10 (Bc .mul 9 2) [9],omk 11 0,oo 12 (Bc .mul 11 2) [11],oo 13 (Bc .add 12 2) [12],oo 14 (.slcS (.c (.str cs2)) (some (.t 10)) (some (.t 13))) [10,13],omk 2 14]
def xoj:RC:=(So Mp (.seq (So Mo (Kc 4 (Kk [4] (So Mn .ret)) (Kk [4] .skip))) (So Mm .ret)))
def xfp:FnC:=⟨xoj,15,[.tmp 2],[],[]⟩
def Ml:List RI:=[oo 2 (.mov (ci 0)) [2]]
def Mk:List RI:=[om 4 0,oo 5 (Ca 152 [.t 4]) [4],oo 6 (Ca 178 [.t 5]) [5],omk 3 6]
def Mj:List RI:=[om 7 3,omk 8 0,omk 9 3,oo 10 (.iaddrA 20 1 (.c (.pp ja)) (.t 9)) [9],oo 11 (Ld 10) [10],oo 12 (Bb .geq 8 11) [8,11],oo 13 (Ca 179 [.t 12]) [12],oo 14 (Bb .add 7 13) [7,13],omk 2 14]
def xoi:RC:=(So Ml (So Mk (So Mj .ret)))
def xfo:FnC:=⟨xoi,15,[.tmp 2],[],[]⟩
def Mi:List RI:=[om 17 0,oo 18 (Ln 17) [17],omk 4 18]
def Mh:List RI:=[om 19 4,oo 20 (Bc .geq 19 8) [19]]
def Mg:List RI:=[om 21 1,oo 22 (.bin .rem (.t 21) (.c (.int .u64 100000000))) [21],oo 23 (.toInt .u32 (.t 22)) [22],omk 5 23]
def Mf:List RI:=[omk 24 1,oo 25 (.bin .quo (.t 24) (.c (.int .u64 100000000))) [24],omk 1 25]
def Me:List RI:=[om 26 5,oo 27 (.bin .quo (.t 26) (.c (.int .u32 10000))) [26],omk 28 5,oo 29 (.bin .rem (.t 28) (.c (.int .u32 10000))) [28],omk 6 27,omk 7 29]
def Md:List RI:=[om 30 7,oo 31 (.bin .quo (.t 30) (.c (.int .u32 100))) [30],oo 32 (.bin .mul (.t 31) (.c (.int .u32 2))) [31],omk 33 7,oo 34 (.bin .rem (.t 33) (.c (.int .u32 100))) [33],oo 35 (.bin .mul (.t 34) (.c (.int .u32 2))) [34],omk 8 32,omk 9 35]
def Mc:List RI:=[om 36 6,oo 37 (.bin .quo (.t 36) (.c (.int .u32 100))) [36],oo 38 (.bin .mul (.t 37) (.c (.int .u32 2))) [37],omk 39 6,oo 40 (.bin .rem (.t 39) (.c (.int .u32 100))) [39],oo 41 (.bin .mul (.t 40) (.c (.int .u32 2))) [40],omk 10 38,omk 11 41]
def Mb:List FI:=[Fm 0 42 0,Fm 1 43 4,Fs 2 44 (Bc .sub 43 1),Fm 3 45 0,Fm 4 46 4,Fs 5 47 (Bc .sub 46 2),Fm 6 48 9,Fs 7 49 (.bin .add (.t 48) (.c (.int .u32 1))),Fs 8 50 (.idxS (.c (.str cs2)) (.t 49)),Fm 9 51 9,Fs 10 52 (.idxS (.c (.str cs2)) (.t 51)),Fs 11 53 (Ia 1 42 44),⟨12,false,⟨none,none,.store 1 (.t 53) (.t 50)⟩⟩,Fs 13 54 (Ia 1 45 47),⟨14,false,⟨none,none,.store 1 (.t 54) (.t 52)⟩⟩]
def Ma:List FI:=[Fm 0 55 0,Fm 1 56 4,Fs 2 57 (Bc .sub 56 3),Fm 3 58 0,Fm 4 59 4,Fs 5 60 (Bc .sub 59 4),Fm 6 61 8,Fs 7 62 (.bin .add (.t 61) (.c (.int .u32 1))),Fs 8 63 (.idxS (.c (.str cs2)) (.t 62)),Fm 9 64 8,Fs 10 65 (.idxS (.c (.str cs2)) (.t 64)),Fs 11 66 (Ia 1 55 57),⟨12,false,⟨none,none,.store 1 (.t 66) (.t 63)⟩⟩,Fs 13 67 (Ia 1 58 60),⟨14,false,⟨none,none,.store 1 (.t 67) (.t 65)⟩⟩]
def L9:List FI:=[Fm 0 68 0,Fm 1 69 4,Fs 2 70 (Bc .sub 69 5),Fm 3 71 0,Fm 4 72 4,Fs 5 73 (Bc .sub 72 6),Fm 6 74 11,Fs 7 75 (.bin .add (.t 74) (.c (.int .u32 1))),Fs 8 76 (.idxS (.c (.str cs2)) (.t 75)),Fm 9 77 11,Fs 10 78 (.idxS (.c (.str cs2)) (.t 77)),Fs 11 79 (Ia 1 68 70),⟨12,false,⟨none,none,.store 1 (.t 79) (.t 76)⟩⟩,Fs 13 80 (Ia 1 71 73),⟨14,false,⟨none,none,.store 1 (.t 80) (.t 78)⟩⟩]
def Bm:List FI:=[Fm 0 81 0,Fm 1 82 4,Fs 2 83 (Bc .sub 82 7),Fm 3 84 0,Fm 4 85 4,Fs 5 86 (Bc .sub 85 8),Fm 6 87 10,Fs 7 88 (.bin .add (.t 87) (.c (.int .u32 1))),Fs 8 89 (.idxS (.c (.str cs2)) (.t 88)),Fm 9 90 10,Fs 10 91 (.idxS (.c (.str cs2)) (.t 90)),Fs 11 92 (Ia 1 81 83),⟨12,false,⟨none,none,.store 1 (.t 92) (.t 89)⟩⟩,Fs 13 93 (Ia 1 84 86),⟨14,false,⟨none,none,.store 1 (.t 93) (.t 91)⟩⟩]
def Bl:List RI:=[omk 94 4,oo 95 (Bc .sub 94 8) [94],omk 4 95]
def ud:RC:=(.seq (So Mh (Kc 20 (Kk [20] .skip) (Kk [20] (.exit 0)))) (.block 1 (So Mg (So Mf (So Me (So Md (So Mc (.seq (.flt [0,0,2,0,0,16,0,64,192,0,512,455,2503,8191,16383] [] Mb [9,42,43,44,45,46,47,48,49,50,51,52,53,54]) (.seq (.flt [0,0,2,0,0,16,0,64,192,0,512,455,2503,8191,16383] [] Ma [8,55,56,57,58,59,60,61,62,63,64,65,66,67]) (.seq (.flt [0,0,2,0,0,16,0,64,192,0,512,455,2503,8191,16383] [] L9 [11,68,69,70,71,72,73,74,75,76,77,78,79,80]) (.seq (.flt [0,0,2,0,0,16,0,64,192,0,512,455,2503,8191,16383] [] Bm [10,81,82,83,84,85,86,87,88,89,90,91,92,93]) (.ops Bl))))))))))))
def Bk:RC:=ud
def Bj:List RI:=[omk 96 1,oo 97 (.toInt .u32 (.t 96)) [96],omk 12 97]
def Bi:List RI:=[om 98 4,oo 99 (Bc .geq 98 4) [98]]
def Bh:List RI:=[om 100 12,oo 101 (.bin .rem (.t 100) (.c (.int .u32 10000))) [100],omk 13 101]
def Bg:List RI:=[omk 102 12,oo 103 (.bin .quo (.t 102) (.c (.int .u32 10000))) [102],omk 12 103]
def Bf:List RI:=[om 104 13,oo 105 (.bin .quo (.t 104) (.c (.int .u32 100))) [104],oo 106 (.bin .mul (.t 105) (.c (.int .u32 2))) [105],omk 107 13,oo 108 (.bin .rem (.t 107) (.c (.int .u32 100))) [107],oo 109 (.bin .mul (.t 108) (.c (.int .u32 2))) [108],omk 14 106,omk 15 109]
def Be:List FI:=[Fm 0 110 0,Fm 1 111 4,Fs 2 112 (Bc .sub 111 1),Fm 3 113 0,Fm 4 114 4,Fs 5 115 (Bc .sub 114 2),Fm 6 116 15,Fs 7 117 (.bin .add (.t 116) (.c (.int .u32 1))),Fs 8 118 (.idxS (.c (.str cs2)) (.t 117)),Fm 9 119 15,Fs 10 120 (.idxS (.c (.str cs2)) (.t 119)),Fs 11 121 (Ia 1 110 112),⟨12,false,⟨none,none,.store 1 (.t 121) (.t 118)⟩⟩,Fs 13 122 (Ia 1 113 115),⟨14,false,⟨none,none,.store 1 (.t 122) (.t 120)⟩⟩]
def Bd:List FI:=[Fm 0 123 0,Fm 1 124 4,Fs 2 125 (Bc .sub 124 3),Fm 3 126 0,Fm 4 127 4,Fs 5 128 (Bc .sub 127 4),Fm 6 129 14,Fs 7 130 (.bin .add (.t 129) (.c (.int .u32 1))),Fs 8 131 (.idxS (.c (.str cs2)) (.t 130)),Fm 9 132 14,Fs 10 133 (.idxS (.c (.str cs2)) (.t 132)),Fs 11 134 (Ia 1 123 125),⟨12,false,⟨none,none,.store 1 (.t 134) (.t 131)⟩⟩,Fs 13 135 (Ia 1 126 128),⟨14,false,⟨none,none,.store 1 (.t 135) (.t 133)⟩⟩]
def Ba:List RI:=[omk 136 4,oo 137 (Bc .sub 136 4) [136],omk 4 137]
def A9:List RI:=[om 138 4,oo 139 (Bc .geq 138 2) [138]]
def A8:List RI:=[om 140 12,oo 141 (.bin .rem (.t 140) (.c (.int .u32 100))) [140],oo 142 (.bin .mul (.t 141) (.c (.int .u32 2))) [141],omk 16 142]
def A7:List RI:=[omk 143 12,oo 144 (.bin .quo (.t 143) (.c (.int .u32 100))) [143],omk 12 144]
def A6:List FI:=[Fm 0 145 0,Fm 1 146 4,Fs 2 147 (Bc .sub 146 1),Fm 3 148 0,Fm 4 149 4,Fs 5 150 (Bc .sub 149 2),Fm 6 151 16,Fs 7 152 (.bin .add (.t 151) (.c (.int .u32 1))),Fs 8 153 (.idxS (.c (.str cs2)) (.t 152)),Fm 9 154 16,Fs 10 155 (.idxS (.c (.str cs2)) (.t 154)),Fs 11 156 (Ia 1 145 147),⟨12,false,⟨none,none,.store 1 (.t 156) (.t 153)⟩⟩,Fs 13 157 (Ia 1 148 150),⟨14,false,⟨none,none,.store 1 (.t 157) (.t 155)⟩⟩]
def A5:List RI:=[omk 158 4,oo 159 (Bc .sub 158 2) [158],omk 4 159]
def A4:List RI:=[omk 160 4,oo 161 (Bc .gtr 160 0) [160]]
def A3:List RI:=[omk 162 0,omk 163 12,oo 164 (.bin .add (.c (.int .u32 48)) (.t 163)) [163],oo 165 (.toInt .u8 (.t 164)) [164],oo 166 (.iaddrL 1 (.t 162) (ci 0)) [162],.op ⟨none,none,.store 1 (.t 166) (.t 165)⟩ [165,166]]
def xoh:RC:=(So Mi (.seq (.block 0 (.loop Bk)) (So Bj (.seq (So Bi (Kc 99 (Kk [99] (So Bh (So Bg (So Bf (.seq (.flt [0,0,2,0,0,16,0,64,192,0,512,455,2503,8191,16383] [] Be [15,110,111,112,113,114,115,116,117,118,119,120,121,122]) (.seq (.flt [0,0,2,0,0,16,0,64,192,0,512,455,2503,8191,16383] [] Bd [14,123,124,125,126,127,128,129,130,131,132,133,134,135]) (.ops Ba))))))) (Kk [99] .skip))) (.seq (So A9 (Kc 139 (Kk [139] (So A8 (So A7 (.seq (.flt [0,0,2,0,0,16,0,64,192,0,512,455,2503,8191,16383] [] A6 [16,145,146,147,148,149,150,151,152,153,154,155,156,157]) (.ops A5))))) (Kk [139] .skip))) (So A4 (Kc 161 (Kk [161] (.ops A3)) (Kk [0,12,161] .skip))))))))
def xfn:FnC:=⟨xoh,167,[],[],[]⟩
def L8:List RI:=[oo 4 (.mov (.c (.str []))) [4]]
def L7:List RI:=[om 5 0,oo 6 (.len true (.t 5)) [5],oo 7 (Bc .gtr 6 0) [6],omk 8 7,.grp 8 true [(xi 9 8 true (Mv 0)),(xi 10 8 true (.idxS (.t 9) (ci 0))),(xi 11 8 true (Mv 1)),(xi 12 8 true (Bb .eql 10 11))] [9,10,11],oo 13 (Pf 8 12) [8,12]]
def L6:List RI:=[omk 14 0,oo 15 (.slcS (.t 14) (some (ci 1)) none) [14],omk 0 15]
def Af:RC:=(.seq (So L7 (Kc 13 (Kk [13] .skip) (Kk [1,13] (.exit 0)))) (.block 1 (.ops L6)))
def y8:RC:=Af
def L5:List RI:=[omk 16 0,omk 4 16]
def xog:RC:=(So L8 (.seq (.block 0 (.loop y8)) (So L5 .ret)))
def xfm:FnC:=⟨xog,17,[.tmp 4],[],[]⟩
def L1:List RI:=[oo 4 (.mov (.c (.str []))) [4]]
def L0:List RI:=[om 5 0,oo 6 (.len true (.t 5)) [5],oo 7 (Bc .gtr 6 0) [6],omk 8 7,.grp 8 true [(xi 9 8 true (Mv 0)),(xi 10 8 true (Mv 0)),(xi 11 8 true (.len true (.t 10))),(xi 12 8 true (Bc .sub 11 1)),(xi 13 8 true (.idxS (.t 9) (.t 12))),(xi 14 8 true (Mv 1)),(xi 15 8 true (Bb .eql 13 14))] [9,10,11,12,13,14],oo 16 (Pf 8 15) [8,15]]
def LZ:List RI:=[om 17 0,omk 18 0,oo 19 (.len true (.t 18)) [18],oo 20 (Bc .sub 19 1) [19],oo 21 (.slcS (.t 17) none (some (.t 20))) [17,20],omk 0 21]
def Ae:RC:=(.seq (So L0 (Kc 16 (Kk [16] .skip) (Kk [1,16] (.exit 0)))) (.block 1 (.ops LZ)))
def y7:RC:=Ae
def LY:List RI:=[omk 22 0,omk 4 22]
def xof:RC:=(So L1 (.seq (.block 0 (.loop y7)) (So LY .ret)))
def xfl:FnC:=⟨xof,23,[.tmp 4],[],[]⟩
def LX:List RI:=[oo 4 (.mov (.c (.bool false))) [4]]
def LW:List RI:=[om 5 0,oo 6 (.len true (.t 5)) [5],om 7 1,oo 8 (.len true (.t 7)) [7],oo 9 (Bb .geq 6 8) [6,8],omk 10 9,.grp 10 true [(xi 11 10 true (Mv 0)),(xi 12 10 true (Mv 1)),(xi 13 10 true (.len true (.t 12))),(xi 14 10 true (.slcS (.t 11) none (some (.t 13)))),(xi 15 10 true (Mv 1)),(xi 16 10 true (Bb .eql 14 15))] [0,1,11,12,13,14,15],oo 17 (Pf 10 16) [10,16],omk 4 17]
def xoe:RC:=(So LX (So LW .ret))
def xfk:FnC:=⟨xoe,18,[.tmp 4],[],[]⟩
def LV:List RI:=[oo 2 (.mov (ci 0)) [2],oo 3 (.mov (.c .nili)) [3]]
def LU:List RI:=[om 11 0,oo 12 (.len true (.t 11)) [11],omk 4 12]
def LS:List RI:=[on 13 (.mov (.c (.bool false))),.grp 13 true [(xi 14 13 true (Mv 4)),(xi 15 13 true (.bin .lss (ci 0) (.t 14))),(xi 16 13 true (Mv 15))] [14,15],.grp 16 true [(xi 17 16 true (Mv 4)),(xi 18 16 true (Bc .lss 17 10))] [17],.grp 13 true [(xi 19 13 true (Pf 16 18))] [16,18],oo 20 (Pf 13 19) [13,19],omk 21 20,.grp 21 false [(xi 22 21 false (.mov (.c (.bool true))))] [],.grp 22 true [(xi 23 22 true (Mv 4)),(xi 24 22 true (.bin .lss (ci 0) (.t 23))),(xi 25 22 true (Mv 24))] [23,24],.grp 25 true [(xi 26 25 true (Mv 4)),(xi 27 25 true (Bc .lss 26 19))] [4,26],.grp 22 true [(xi 28 22 true (Pf 25 27))] [25,27],.grp 21 false [(xi 29 21 false (Pf 22 28))] [22,28],oo 30 (Pt 21 29) [21,29]]
def LR:List RI:=[om 31 0,omk 5 31]
def LQ:List RI:=[om 32 0,oo 33 (.idxS (.t 32) (ci 0)) [32],oo 34 (.bin .eql (.t 33) (.c (.u8 45))) [33],omk 35 34,.grp 35 false [(xi 36 35 false (Mv 0)),(xi 37 35 false (.idxS (.t 36) (ci 0))),(xi 38 35 false (.bin .eql (.t 37) (.c (.u8 43))))] [36,37],oo 39 (Pt 35 38) [35,38]]
def LP:List RI:=[omk 40 0,oo 41 (.slcS (.t 40) (some (ci 1)) none) [40],omk 0 41]
def LO:List RI:=[om 42 0,oo 43 (.len true (.t 42)) [42],oo 44 (Bc .lss 43 1) [43]]
def LN:List RI:=[on 6 (.mov (ci 0))]
def LM:List RI:=[omk 46 0,oo 47 (.s2b (.t 46)) [46],on 48 (Ln 47),on 49 (.mov (ci 0))]
def LL:List RI:=[on 50 (Bb .lss 49 48)]
def A2:List RI:=[on 51 (Ia 1 47 49),oo 52 (Ld 51) [51],omk 8 52]
def A1:List RI:=[omk 53 8,oo 54 (.bin .sub (.t 53) (.c (.u8 48))) [53],omk 8 54]
def AZ:List RI:=[om 55 8,oo 56 (.bin .gtr (.t 55) (.c (.u8 9))) [55]]
def AY:List RI:=[omk 58 6,oo 59 (Bc .mul 58 10) [58],omk 60 8,oo 61 (.toInt .i64 (.t 60)) [60],oo 62 (Bb .add 59 61) [59,61],omk 6 62]
def AX:List RI:=[oo 63 (Bc .add 49 1) [49],omk 49 63]
def uc:RC:=(So LL (.seq (Kc 50 (Kk [50] .skip) (Kk [47,48,49,50] (.exit 0))) (.seq (.block 1 (So A2 (So A1 (.seq (So AZ (Kc 56 (Kk [5,6,8,47,48,49,56] (.seq .bad .ret)) (Kk [56] .skip))) (.ops AY))))) (.ops AX))))
def pE:RC:=uc
def AW:List RI:=[omk 64 5,oo 65 (.idxS (.t 64) (ci 0)) [64],oo 66 (.bin .eql (.t 65) (.c (.u8 45))) [65]]
def AV:List RI:=[omk 67 6,oo 68 (.un .neg (.t 67)) [67],omk 6 68]
def AU:List RI:=[omk 69 6,omk 2 69,on 3 (.mov (.c .nili))]
def AT:List RI:=[omk 71 0,oo 72 (Ca 186 [.t 71,ci 10,ci 0]) [71],omk 70 72,on 73 (.ext (.t 70) 0),oo 74 (.ext (.t 70) 1) [70],omk 9 73,omk 10 74]
def AS:List RI:=[omk 75 9,omk 76 10,omk 2 75,omk 3 76]
def xod:RC:=(So LV (So LU (.seq (So LS (Kc 30 (Kk [30] (So LR (.seq (So LQ (Kc 39 (Kk [39] (So LP (So LO (Kc 44 (Kk [0,5,44] (.seq .bad .ret)) (Kk [44] .skip))))) (Kk [39] .skip))) (So LN (.seq (So LM (.block 0 (.loop pE))) (.seq (So AW (Kc 66 (Kk [66] (.ops AV)) (Kk [66] .skip))) (So AU .ret))))))) (Kk [30] .skip))) (So AT (So AS .ret)))))
def xfj:FnC:=⟨xod,77,[.tmp 2,.tmp 3],[],[]⟩
def LK:List RI:=[oo 4 (.mov (.c (.int .u32 0))) [4]]
def LJ:List RI:=[om 5 0,om 6 1,oo 7 (Bb .shl 5 6) [5,6],omk 8 0,omk 9 1,oo 10 (.bin .sub (.c (.int .u64 32)) (.t 9)) [9],oo 11 (Bb .shr 8 10) [8,10],oo 12 (Bb .or 7 11) [7,11],omk 4 12]
def xoc:RC:=(So LK (So LJ .ret))
def xfi:FnC:=⟨xoc,13,[.tmp 4],[],[]⟩
def LC:List RI:=[oo 2 (.mov (ci 0)) [2]]
def LB:List RI:=[omk 3 0,oo 4 (Bc .mul 3 78913) [3],oo 5 (.bin .shr (.t 4) (.c (.int .u64 18))) [4],omk 2 5]
def xob:RC:=(So LC (So LB .ret))
def xfh:FnC:=⟨xob,6,[.tmp 2],[],[]⟩
def LA:List RI:=[oo 2 (.mov (ci 0)) [2]]
def Lz:List RI:=[omk 3 0]
def Ly:List RI:=[on 2 (.mov (ci 1))]
def Lx:List RI:=[on 2 (.mov (ci 0))]
def xoa:RC:=(So LA (.seq (So Lz (Kc 3 (Kk [3] (So Ly .ret)) (Kk [3] .skip))) (So Lx .ret)))
def xfg:FnC:=⟨xoa,4,[.tmp 2],[],[]⟩
theorem Fk {g:Nat} {F:FnC} {fn:Func} (h1:prog.funcs[g]? =some fn) (h3:fn.ntmps=F.n:=by kernel_rfl) (h2:fn.body.map (cx prog)=some F.code.er:=by kernel_rfl) (h4:(rf prog fn.results.toList F.rs&&eg prog g&&F.code.ok F.n)=true:=by kernel_rfl):bO prog g F:=by simp only [an]at h4;exact TN h1 h2 h3 h4.1.1 h4.1.2 h4.2
noncomputable def xnS:Nat→Option FnB
 |3=>some (.code F3)
 |4=>some (.code F4)
 |10=>some (.code F10)
 |11=>some (.code F11)
 |12=>some (.code F12)
 |13=>some (.code F13)
 |14=>some (.code F14)
 |15=>some (.code F15)
 |16=>some (.code F16)
 |18=>some (.code F18)
 |19=>some (.code F19)
 |21=>some (.code F21)
 |23=>some (.code F23)
 |24=>some (.code F24)
 |25=>some (.code F25)
 |28=>some (.code F28)
 |29=>some (.code F29)
 |31=>some (.code F31)
 |33=>some (.code F33)
 |34=>some (.code F34)
 |35=>some (.code F35)
 |36=>some (.code F36)
 |37=>some (.code F37)
 |38=>some (.code F38)
 |39=>some (.code F39)
 |40=>some (.code F40)
 |41=>some (.code F41)
 |42=>some (.code F42)
 |43=>some (.code F43)
 |44=>some (.code F44)
 |45=>some (.code F45)
 |46=>some (.code F46)
 |47=>some (.code F47)
 |48=>some (.code F48)
 |49=>some (.code F49)
 |50=>some (.code F50)
 |51=>some (.code F51)
 |52=>some (.code F52)
 |53=>some (.code F53)
 |54=>some (.code F54)
 |55=>some (.code F55)
 |56=>some (.code F56)
 |57=>some (.code F57)
 |58=>some (.code F58)
 |59=>some (.code F59)
 |60=>some (.code F60)
 |62=>some (.code F62)
 |63=>some (.code F63)
 |64=>some (.code F64)
 |65=>some (.code F65)
 |68=>some (.code F68)
 |69=>some (.code F69)
 |72=>some (.code F72)
 |75=>some (.code F75)
 |76=>some (.code F76)
 |77=>some (.code F77)
 |78=>some (.code F78)
 |79=>some (.code F79)
 |80=>some (.code F80)
 |81=>some (.code F81)
 |82=>some (.code F82)
 |83=>some (.code F83)
 |84=>some (.code F84)
 |85=>some (.code F85)
 |86=>some (.code F86)
 |87=>some (.code F87)
 |88=>some (.code F88)
 |89=>some (.code F89)
 |90=>some (.code F90)
 |91=>some (.code F91)
 |92=>some (.code F92)
 |93=>some (.code F93)
 |94=>some (.code F94)
 |95=>some (.code F95)
 |96=>some (.code F96)
 |97=>some (.code F97)
 |98=>some (.code F98)
 |99=>some (.code F99)
 |100=>some (.code xfX)
 |101=>some (.code xfW)
 |102=>some (.code xfV)
 |106=>some (.code xfU)
 |107=>some (.code xfT)
 |108=>some (.code xfS)
 |109=>some (.code xfR)
 |113=>some (.code xfQ)
 |114=>some (.code xfP)
 |115=>some (.code xfO)
 |116=>some (.code xfN)
 |117=>some (.code xfM)
 |118=>some (.code xfL)
 |121=>some (.code xfK)
 |122=>some (.code xfJ)
 |123=>some (.code xfI)
 |124=>some (.code xfH)
 |125=>some (.code xfG)
 |126=>some (.code xfF)
 |127=>some (.code xfE)
 |128=>some (.code xfD)
 |129=>some (.code xfC)
 |130=>some (.code xfB)
 |131=>some (.code xfA)
 |132=>some (.code xfz)
 |133=>some (.code xfy)
 |134=>some (.code xfx)
 |135=>some (.code xfw)
 |136=>some (.code xfv)
 |137=>some (.code xfu)
 |141=>some (.code xft)
 |142=>some (.code xfs)
 |152=>some (.code xfr)
 |153=>some (.code xfq)
 |155=>some (.code xfp)
 |156=>some (.code xfo)
 |157=>some (.code xfn)
 |159=>some (.code xfm)
 |160=>some (.code xfl)
 |166=>some (.code xfk)
 |167=>some (.code xfj)
 |169=>some (.code xfi)
 |178=>some (.code xfh)
 |179=>some (.code xfg)
 |61=>some (.prim Pr.p61)
 |111=>some (.prim Pr.p111)
 |154=>some (.prim Pr.p154)
 |_=>none
def xpE:Nat→Sig
 |62=>⟨[0],[]⟩
 |157=>⟨[],[0]⟩
 |_=> {}
noncomputable def T:oW:=⟨xnS,xpE⟩
abbrev tf (k:Nat) (F:FnC):Prop:=T.fn k=some (.code F)
theorem T_3:tf 3 F3:=rfl
theorem T_4:tf 4 F4:=rfl
theorem xsj:tf 10 F10:=rfl
theorem xpn:tf 11 F11:=rfl
theorem xsi:tf 12 F12:=rfl
theorem xsh:tf 13 F13:=rfl
theorem xsg:tf 14 F14:=rfl
theorem xsf:tf 15 F15:=rfl
theorem xse:tf 16 F16:=rfl
theorem xsd:tf 18 F18:=rfl
theorem xsc:tf 19 F19:=rfl
theorem xsb:tf 21 F21:=rfl
theorem xsa:tf 23 F23:=rfl
theorem xr9:tf 24 F24:=rfl
theorem xr8:tf 25 F25:=rfl
theorem xr7:tf 28 F28:=rfl
theorem xr6:tf 29 F29:=rfl
theorem xr5:tf 31 F31:=rfl
theorem xr4:tf 33 F33:=rfl
theorem xr3:tf 34 F34:=rfl
theorem xr2:tf 35 F35:=rfl
theorem xpm:tf 36 F36:=rfl
theorem xr1:tf 37 F37:=rfl
theorem qt:tf 38 F38:=rfl
theorem xr0:tf 39 F39:=rfl
theorem xrZ:tf 40 F40:=rfl
theorem xrY:tf 41 F41:=rfl
theorem xrX:tf 42 F42:=rfl
theorem xrW:tf 43 F43:=rfl
theorem xrV:tf 44 F44:=rfl
theorem xrU:tf 45 F45:=rfl
theorem xrT:tf 46 F46:=rfl
theorem xrS:tf 47 F47:=rfl
theorem xrR:tf 48 F48:=rfl
theorem xrQ:tf 49 F49:=rfl
theorem xrP:tf 50 F50:=rfl
theorem xrO:tf 51 F51:=rfl
theorem xrN:tf 52 F52:=rfl
theorem xrM:tf 53 F53:=rfl
theorem xrL:tf 54 F54:=rfl
theorem xrK:tf 55 F55:=rfl
theorem xrJ:tf 56 F56:=rfl
theorem xrI:tf 57 F57:=rfl
theorem xrH:tf 58 F58:=rfl
theorem xrG:tf 59 F59:=rfl
theorem xpl:tf 60 F60:=rfl
theorem xrE:tf 62 F62:=rfl
theorem xrD:tf 63 F63:=rfl
theorem xeV:tf 64 F64:=rfl
theorem xpk:tf 65 F65:=rfl
theorem xrC:tf 68 F68:=rfl
theorem xpj:tf 69 F69:=rfl
theorem xrB:tf 72 F72:=rfl
theorem xrA:tf 75 F75:=rfl
theorem xrz:tf 76 F76:=rfl
theorem xry:tf 77 F77:=rfl
theorem xrx:tf 78 F78:=rfl
theorem xrw:tf 79 F79:=rfl
theorem xrv:tf 80 F80:=rfl
theorem xru:tf 81 F81:=rfl
theorem xrt:tf 82 F82:=rfl
theorem xrs:tf 83 F83:=rfl
theorem xrr:tf 84 F84:=rfl
theorem xrq:tf 85 F85:=rfl
theorem xrp:tf 86 F86:=rfl
theorem xjC:tf 87 F87:=rfl
theorem xro:tf 88 F88:=rfl
theorem xrn:tf 89 F89:=rfl
theorem xrm:tf 90 F90:=rfl
theorem xrl:tf 91 F91:=rfl
theorem xrk:tf 92 F92:=rfl
theorem xrj:tf 93 F93:=rfl
theorem xri:tf 94 F94:=rfl
theorem xrh:tf 95 F95:=rfl
theorem xrg:tf 96 F96:=rfl
theorem xrf:tf 97 F97:=rfl
theorem xre:tf 98 F98:=rfl
theorem xpi:tf 99 F99:=rfl
theorem xnx:tf 100 xfX:=rfl
theorem xeX:tf 101 xfW:=rfl
theorem xnw:tf 102 xfV:=rfl
theorem xnv:tf 106 xfU:=rfl
theorem E4:tf 107 xfT:=rfl
theorem xnu:tf 108 xfS:=rfl
theorem xnt:tf 109 xfR:=rfl
theorem xnr:tf 113 xfQ:=rfl
theorem xnq:tf 114 xfP:=rfl
theorem xnp:tf 115 xfO:=rfl
theorem xno:tf 116 xfN:=rfl
theorem xnn:tf 117 xfM:=rfl
theorem xnm:tf 118 xfL:=rfl
theorem xnl:tf 121 xfK:=rfl
theorem xnk:tf 122 xfJ:=rfl
theorem xnj:tf 123 xfI:=rfl
theorem xeW:tf 124 xfH:=rfl
theorem xni:tf 125 xfG:=rfl
theorem xnh:tf 126 xfF:=rfl
theorem xng:tf 127 xfE:=rfl
theorem xnf:tf 128 xfD:=rfl
theorem xne:tf 129 xfC:=rfl
theorem xnd:tf 130 xfB:=rfl
theorem xnc:tf 131 xfA:=rfl
theorem xnb:tf 132 xfz:=rfl
theorem xna:tf 133 xfy:=rfl
theorem xm9:tf 134 xfx:=rfl
theorem xm8:tf 135 xfw:=rfl
theorem xm7:tf 136 xfv:=rfl
theorem xm6:tf 137 xfu:=rfl
theorem xm5:tf 141 xft:=rfl
theorem xm4:tf 142 xfs:=rfl
theorem xm3:tf 152 xfr:=rfl
theorem xm2:tf 153 xfq:=rfl
theorem xm0:tf 155 xfp:=rfl
theorem xmZ:tf 156 xfo:=rfl
theorem yo:tf 157 xfn:=rfl
theorem xmY:tf 159 xfm:=rfl
theorem xmX:tf 160 xfl:=rfl
theorem xmW:tf 166 xfk:=rfl
theorem xmV:tf 167 xfj:=rfl
theorem xmU:tf 169 xfi:=rfl
theorem xmT:tf 178 xfh:=rfl
theorem xmS:tf 179 xfg:=rfl
theorem xrF:T.fn 61=some (.prim Pr.p61):=rfl
theorem xns:T.fn 111=some (.prim Pr.p111):=rfl
theorem xm1:T.fn 154=some (.prim Pr.p154):=rfl
theorem xjK:T.sg 61= {}:=rfl
theorem xfa:T.sg 111= {}:=rfl
theorem xnC:T.sg 154= {}:=rfl
theorem S_3:T.sg 3= {}:=rfl
theorem S_4:T.sg 4= {}:=rfl
theorem xjU:T.sg 10= {}:=rfl
theorem xjT:T.sg 11= {}:=rfl
theorem Ds:T.sg 12= {}:=rfl
theorem xsA:T.sg 13= {}:=rfl
theorem xsz:T.sg 14= {}:=rfl
theorem Fl:T.sg 15= {}:=rfl
theorem xsy:T.sg 16= {}:=rfl
theorem xjS:T.sg 18= {}:=rfl
theorem xjR:T.sg 19= {}:=rfl
theorem xsx:T.sg 21= {}:=rfl
theorem xpy:T.sg 23= {}:=rfl
theorem xjQ:T.sg 24= {}:=rfl
theorem lO:T.sg 25= {}:=rfl
theorem xjP:T.sg 28= {}:=rfl
theorem xpx:T.sg 29= {}:=rfl
theorem xjO:T.sg 31= {}:=rfl
theorem Fj:T.sg 33= {}:=rfl
theorem yu:T.sg 34= {}:=rfl
theorem QR:T.sg 35= {}:=rfl
theorem xpw:T.sg 36= {}:=rfl
theorem ee:T.sg 37= {}:=rfl
theorem xjN:T.sg 38= {}:=rfl
theorem xeZ:T.sg 39= {}:=rfl
theorem xjM:T.sg 40= {}:=rfl
theorem yr:T.sg 41= {}:=rfl
theorem kg:T.sg 42= {}:=rfl
theorem xsw:T.sg 43= {}:=rfl
theorem sV:T.sg 44= {}:=rfl
theorem xsv:T.sg 45= {}:=rfl
theorem xpv:T.sg 46= {}:=rfl
theorem Fh:T.sg 47= {}:=rfl
theorem wL:T.sg 48= {}:=rfl
theorem xsu:T.sg 49= {}:=rfl
theorem QQ:T.sg 50= {}:=rfl
theorem xpu:T.sg 51= {}:=rfl
theorem xpt:T.sg 52= {}:=rfl
theorem xst:T.sg 53= {}:=rfl
theorem Dr:T.sg 54= {}:=rfl
theorem Dq:T.sg 55= {}:=rfl
theorem xeY:T.sg 56= {}:=rfl
theorem QP:T.sg 57= {}:=rfl
theorem xjL:T.sg 58= {}:=rfl
theorem xps:T.sg 59= {}:=rfl
theorem xpr:T.sg 60= {}:=rfl
theorem xss:T.sg 62=⟨[0],[]⟩:=rfl
theorem xsr:T.sg 63= {}:=rfl
theorem xsq:T.sg 64= {}:=rfl
theorem xpq:T.sg 65= {}:=rfl
theorem xpp:T.sg 68= {}:=rfl
theorem Fg:T.sg 69= {}:=rfl
theorem xpo:T.sg 72= {}:=rfl
theorem xsp:T.sg 75= {}:=rfl
theorem nE:T.sg 76= {}:=rfl
theorem xjJ:T.sg 77= {}:=rfl
theorem xso:T.sg 78= {}:=rfl
theorem xjI:T.sg 79= {}:=rfl
theorem UJ:T.sg 80= {}:=rfl
theorem yq:T.sg 81= {}:=rfl
theorem xjH:T.sg 82= {}:=rfl
theorem xsn:T.sg 83= {}:=rfl
theorem QO:T.sg 84= {}:=rfl
theorem xsm:T.sg 85= {}:=rfl
theorem oF:T.sg 86= {}:=rfl
theorem QN:T.sg 87= {}:=rfl
theorem nB:T.sg 88= {}:=rfl
theorem oE:T.sg 89= {}:=rfl
theorem ux:T.sg 90= {}:=rfl
theorem xsl:T.sg 91= {}:=rfl
theorem xsk:T.sg 92= {}:=rfl
theorem xjG:T.sg 93= {}:=rfl
theorem xjF:T.sg 94= {}:=rfl
theorem kO:T.sg 95= {}:=rfl
theorem nz:T.sg 96= {}:=rfl
theorem UI:T.sg 97= {}:=rfl
theorem xjE:T.sg 98= {}:=rfl
theorem Dp:T.sg 99= {}:=rfl
theorem xnP:T.sg 100= {}:=rfl
theorem xfd:T.sg 101= {}:=rfl
theorem xnO:T.sg 102= {}:=rfl
theorem qw:T.sg 106= {}:=rfl
theorem xfc:T.sg 107= {}:=rfl
theorem E6:T.sg 108= {}:=rfl
theorem xfb:T.sg 109= {}:=rfl
theorem xe9:T.sg 113= {}:=rfl
theorem xnN:T.sg 114= {}:=rfl
theorem xe8:T.sg 115= {}:=rfl
theorem xnM:T.sg 116= {}:=rfl
theorem ll:T.sg 117= {}:=rfl
theorem m9:T.sg 118= {}:=rfl
theorem xnL:T.sg 121= {}:=rfl
theorem xnK:T.sg 122= {}:=rfl
theorem xnJ:T.sg 123= {}:=rfl
theorem RP:T.sg 124= {}:=rfl
theorem xnI:T.sg 125= {}:=rfl
theorem xnH:T.sg 126= {}:=rfl
theorem xe7:T.sg 127= {}:=rfl
theorem xe6:T.sg 128= {}:=rfl
theorem xe5:T.sg 129= {}:=rfl
theorem xe4:T.sg 130= {}:=rfl
theorem E5:T.sg 131= {}:=rfl
theorem xnG:T.sg 132= {}:=rfl
theorem xnF:T.sg 133= {}:=rfl
theorem xe3:T.sg 134= {}:=rfl
theorem xe2:T.sg 135= {}:=rfl
theorem xnE:T.sg 136= {}:=rfl
theorem xnD:T.sg 137= {}:=rfl
theorem xe1:T.sg 141= {}:=rfl
theorem rN:T.sg 142= {}:=rfl
theorem lj:T.sg 152= {}:=rfl
theorem RO:T.sg 153= {}:=rfl
theorem xnB:T.sg 155= {}:=rfl
theorem yx:T.sg 156= {}:=rfl
theorem yw:T.sg 157=⟨[],[0]⟩:=rfl
theorem xnA:T.sg 159= {}:=rfl
theorem xnz:T.sg 160= {}:=rfl
theorem xe0:T.sg 166= {}:=rfl
theorem xny:T.sg 167= {}:=rfl
theorem yv:T.sg 169= {}:=rfl
theorem li:T.sg 178= {}:=rfl
theorem lh:T.sg 179= {}:=rfl
theorem xks (c:CSt):run T Rj c=run T RG c:=rfl
theorem xkr (c:CSt):run T Ri c=run T RF c:=rfl
theorem xhl (c:CSt):run T zb c=run T An c:=rfl
theorem xhh (c:CSt):run T uK c=run T Aj c:=rfl
theorem xhe (c:CSt):run T oY c=run T Ag c:=rfl
theorem xhb (c:CSt):run T mB c=run T Ad c:=rfl
theorem xha (c:CSt):run T uJ c=run T Ac c:=rfl
theorem xg9 (c:CSt):run T uI c=run T Ab c:=rfl
theorem xg8 (c:CSt):run T uH c=run T Aa c:=rfl
theorem xkx (c:CSt):run T Rn c=run T RM c:=rfl
theorem xg7 (c:CSt):run T y6 c=run T z9 c:=rfl
theorem xg6 (c:CSt):run T y5 c=run T z8 c:=rfl
theorem xg5 (c:CSt):run T rj c=run T z7 c:=rfl
theorem xkw (c:CSt):run T Rm c=run T RL c:=rfl
theorem xg4 (c:CSt):run T mA c=run T z6 c:=rfl
theorem xg3 (c:CSt):run T y0 c=run T zZ c:=rfl
theorem xg2 (c:CSt):run T yZ c=run T zY c:=rfl
theorem xg1 (c:CSt):run T yY c=run T zX c:=rfl
theorem xg0 (c:CSt):run T KQ c=run T zW c:=rfl
theorem xgZ (c:CSt):run T yX c=run T zV c:=rfl
theorem xgY (c:CSt):run T mz c=run T zU c:=rfl
theorem xgX (c:CSt):run T yW c=run T zT c:=rfl
theorem xgW (c:CSt):run T uG c=run T zS c:=rfl
theorem xkv (c:CSt):run T EV c=run T RK c:=rfl
theorem xku (c:CSt):run T Rl c=run T RJ c:=rfl
theorem xgV (c:CSt):run T my c=run T zR c:=rfl
theorem xgU (c:CSt):run T uF c=run T zQ c:=rfl
theorem xkt (c:CSt):run T Rk c=run T RH c:=rfl
theorem xgT (c:CSt):run T yV c=run T zP c:=rfl
theorem xgS (c:CSt):run T yU c=run T zO c:=rfl
theorem xkq (c:CSt):run T Rh c=run T RE c:=rfl
theorem xgR (c:CSt):run T mw c=run T zN c:=rfl
theorem xgQ (c:CSt):run T uE c=run T zM c:=rfl
theorem xgP (c:CSt):run T uD c=run T zL c:=rfl
theorem xgO (c:CSt):run T yT c=run T zK c:=rfl
theorem xkp (c:CSt):run T YO c=run T RD c:=rfl
theorem xko (c:CSt):run T Rg c=run T RB c:=rfl
theorem xgN (c:CSt):run T yS c=run T zJ c:=rfl
theorem xgM (c:CSt):run T uC c=run T zI c:=rfl
theorem xkn (c:CSt):run T Rf c=run T RA c:=rfl
theorem xgL (c:CSt):run T yR c=run T zH c:=rfl
theorem xgK (c:CSt):run T yQ c=run T zG c:=rfl
theorem xgJ (c:CSt):run T uB c=run T zF c:=rfl
theorem xkm (c:CSt):run T Xz c=run T Rz c:=rfl
theorem xgI (c:CSt):run T yP c=run T zE c:=rfl
theorem xgH (c:CSt):run T yO c=run T zD c:=rfl
theorem xgG (c:CSt):run T yN c=run T zC c:=rfl
theorem xgF (c:CSt):run T yM c=run T zB c:=rfl
theorem xgE (c:CSt):run T yL c=run T zA c:=rfl
theorem xkl (c:CSt):run T Re c=run T Ry c:=rfl
theorem xkk (c:CSt):run T Rd c=run T Rx c:=rfl
theorem xgD (c:CSt):run T H4 c=run T zy c:=rfl
theorem xgC (c:CSt):run T yK c=run T zx c:=rfl
theorem xgB (c:CSt):run T yJ c=run T zw c:=rfl
theorem xkj (c:CSt):run T Rc c=run T Rw c:=rfl
theorem xki (c:CSt):run T Rb c=run T Rv c:=rfl
theorem xkh (c:CSt):run T Ra c=run T Ru c:=rfl
theorem xkg (c:CSt):run T QZ c=run T Rt c:=rfl
theorem SX (c:CSt):run T tK c=run T ur c:=rfl
theorem SW (c:CSt):run T tJ c=run T uq c:=rfl
theorem SU (c:CSt):run T ng c=run T up c:=rfl
theorem SS (c:CSt):run T nf c=run T uo c:=rfl
theorem xhq (c:CSt):run T zh c=run T As c:=rfl
theorem xhp (c:CSt):run T zg c=run T Ar c:=rfl
theorem SR (c:CSt):run T tI c=run T um c:=rfl
theorem xho (c:CSt):run T zf c=run T Aq c:=rfl
theorem SQ (c:CSt):run T fY c=run T ul c:=rfl
theorem xhn (c:CSt):run T ze c=run T Ap c:=rfl
theorem SP (c:CSt):run T tH c=run T uk c:=rfl
theorem SO (c:CSt):run T tG c=run T uj c:=rfl
theorem SN (c:CSt):run T tF c=run T ui c:=rfl
theorem xhm (c:CSt):run T zd c=run T Ao c:=rfl
theorem xhk (c:CSt):run T Oy c=run T Am c:=rfl
theorem xhj (c:CSt):run T N7 c=run T Al c:=rfl
theorem xhi (c:CSt):run T za c=run T Ak c:=rfl
theorem SM (c:CSt):run T tE c=run T uh c:=rfl
theorem xhg (c:CSt):run T y9 c=run T Ai c:=rfl
theorem SL (c:CSt):run T tB c=run T ug c:=rfl
theorem SK (c:CSt):run T fX c=run T uf c:=rfl
theorem SJ (c:CSt):run T tz c=run T ue c:=rfl
theorem xhf (c:CSt):run T MP c=run T Ah c:=rfl
theorem SH (c:CSt):run T Bk c=run T ud c:=rfl
theorem xhd (c:CSt):run T y8 c=run T Af c:=rfl
theorem xhc (c:CSt):run T y7 c=run T Ae c:=rfl
theorem SG (c:CSt):run T pE c=run T uc c:=rfl
theorem xpX:bO prog 3 F3:=Fk func3
theorem xpW:bO prog 4 F4:=Fk func4
theorem xlQ:bO prog 10 F10:=Fk func10
theorem xlP:bO prog 11 F11:=Fk func11
theorem xlO:bO prog 12 F12:=Fk func12
theorem xlN:bO prog 13 F13:=Fk func13
theorem xlM:bO prog 14 F14:=Fk func14
theorem xlL:bO prog 15 F15:=Fk func15
theorem xlK:bO prog 16 F16:=Fk func16
theorem xlJ:bO prog 18 F18:=Fk func18
theorem xlI:bO prog 19 F19:=Fk func19
theorem xlH:bO prog 21 F21:=Fk func21
theorem xlG:bO prog 23 F23:=Fk func23
theorem xlF:bO prog 24 F24:=Fk func24
theorem xlE:bO prog 25 F25:=Fk func25
theorem xlD:bO prog 28 F28:=Fk func28
theorem xlC:bO prog 29 F29:=Fk func29
theorem xlB:bO prog 31 F31:=Fk func31
theorem xlA:bO prog 33 F33:=Fk func33
theorem xlz:bO prog 34 F34:=Fk func34
theorem xly:bO prog 35 F35:=Fk func35
theorem xlx:bO prog 36 F36:=Fk func36
theorem xlw:bO prog 37 F37:=Fk func37
theorem xlv:bO prog 38 F38:=Fk func38
theorem xlu:bO prog 39 F39:=Fk func39
theorem xlt:bO prog 40 F40:=Fk func40
theorem xls:bO prog 41 F41:=Fk func41
theorem xlr:bO prog 42 F42:=Fk func42
theorem xlq:bO prog 43 F43:=Fk func43
theorem xlp:bO prog 44 F44:=Fk func44
theorem xlo:bO prog 45 F45:=Fk func45
theorem xln:bO prog 46 F46:=Fk func46
theorem xlm:bO prog 47 F47:=Fk func47
theorem xll:bO prog 48 F48:=Fk func48
theorem xlk:bO prog 49 F49:=Fk func49
theorem xlj:bO prog 50 F50:=Fk func50
theorem xli:bO prog 51 F51:=Fk func51
theorem xlh:bO prog 52 F52:=Fk func52
theorem xlg:bO prog 53 F53:=Fk func53
theorem xlf:bO prog 54 F54:=Fk func54
theorem xle:bO prog 55 F55:=Fk func55
theorem xld:bO prog 56 F56:=Fk func56
theorem xlc:bO prog 57 F57:=Fk func57
theorem xlb:bO prog 58 F58:=Fk func58
theorem xla:bO prog 59 F59:=Fk func59
theorem xk9:bO prog 60 F60:=Fk func60
theorem xk8:bO prog 62 F62:=Fk func62
theorem xk7:bO prog 63 F63:=Fk func63
theorem xk6:bO prog 64 F64:=Fk func64
theorem xk5:bO prog 65 F65:=Fk func65
theorem xk4:bO prog 68 F68:=Fk func68
theorem xk3:bO prog 69 F69:=Fk func69
theorem xk2:bO prog 72 F72:=Fk func72
theorem xk1:bO prog 75 F75:=Fk func75
theorem xk0:bO prog 76 F76:=Fk func76
theorem xkZ:bO prog 77 F77:=Fk func77
theorem xkY:bO prog 78 F78:=Fk func78
theorem xkX:bO prog 79 F79:=Fk func79
theorem xkW:bO prog 80 F80:=Fk func80
theorem xkV:bO prog 81 F81:=Fk func81
theorem xkU:bO prog 82 F82:=Fk func82
theorem xkT:bO prog 83 F83:=Fk func83
theorem xkS:bO prog 84 F84:=Fk func84
theorem xkR:bO prog 85 F85:=Fk func85
theorem xkQ:bO prog 86 F86:=Fk func86
theorem xkP:bO prog 87 F87:=Fk func87
theorem xkO:bO prog 88 F88:=Fk func88
theorem xkN:bO prog 89 F89:=Fk func89
theorem xkM:bO prog 90 F90:=Fk func90
theorem xkL:bO prog 91 F91:=Fk func91
theorem xkK:bO prog 92 F92:=Fk func92
theorem xkJ:bO prog 93 F93:=Fk func93
theorem xkI:bO prog 94 F94:=Fk func94
theorem xkH:bO prog 95 F95:=Fk func95
theorem xkG:bO prog 96 F96:=Fk func96
theorem xkF:bO prog 97 F97:=Fk func97
theorem xkE:bO prog 98 F98:=Fk func98
theorem xkD:bO prog 99 F99:=Fk func99
theorem xib:bO prog 100 xfX:=Fk func100
theorem xia:bO prog 101 xfW:=Fk func101
theorem xh9:bO prog 102 xfV:=Fk func102
theorem xh8:bO prog 106 xfU:=Fk func106
theorem xh7:bO prog 107 xfT:=Fk func107
theorem xh6:bO prog 108 xfS:=Fk func108
theorem xh5:bO prog 109 xfR:=Fk func109
theorem xh4:bO prog 113 xfQ:=Fk func113
theorem xh3:bO prog 114 xfP:=Fk func114
theorem xh2:bO prog 115 xfO:=Fk func115
theorem xh1:bO prog 116 xfN:=Fk func116
theorem xh0:bO prog 117 xfM:=Fk func117
theorem xhZ:bO prog 118 xfL:=Fk func118
theorem xhY:bO prog 121 xfK:=Fk func121
theorem xhX:bO prog 122 xfJ:=Fk func122
theorem xhW:bO prog 123 xfI:=Fk func123
theorem xhV:bO prog 124 xfH:=Fk func124
theorem xhU:bO prog 125 xfG:=Fk func125
theorem xhT:bO prog 126 xfF:=Fk func126
theorem xhS:bO prog 127 xfE:=Fk func127
theorem xhR:bO prog 128 xfD:=Fk func128
theorem xhQ:bO prog 129 xfC:=Fk func129
theorem xhP:bO prog 130 xfB:=Fk func130
theorem xhO:bO prog 131 xfA:=Fk func131
theorem xhN:bO prog 132 xfz:=Fk func132
theorem xhM:bO prog 133 xfy:=Fk func133
theorem xhL:bO prog 134 xfx:=Fk func134
theorem xhK:bO prog 135 xfw:=Fk func135
theorem xhJ:bO prog 136 xfv:=Fk func136
theorem xhI:bO prog 137 xfu:=Fk func137
theorem xhH:bO prog 141 xft:=Fk func141
theorem xhG:bO prog 142 xfs:=Fk func142
theorem xhF:bO prog 152 xfr:=Fk func152
theorem xhE:bO prog 153 xfq:=Fk func153
theorem xhD:bO prog 155 xfp:=Fk func155
theorem xhC:bO prog 156 xfo:=Fk func156
theorem xhB:bO prog 157 xfn:=Fk func157
theorem xhA:bO prog 159 xfm:=Fk func159
theorem xhz:bO prog 160 xfl:=Fk func160
theorem xhy:bO prog 166 xfk:=Fk func166
theorem xhx:bO prog 167 xfj:=Fk func167
theorem xhw:bO prog 169 xfi:=Fk func169
theorem xhv:bO prog 178 xfh:=Fk func178
theorem xhu:bO prog 179 xfg:=Fk func179
theorem xgh:yn prog T:=by
 intro g b h;simp only [T]at h;unfold xnS at h;split at h
 ·cases h;exact xpX
 ·cases h;exact xpW
 ·cases h;exact xlQ
 ·cases h;exact xlP
 ·cases h;exact xlO
 ·cases h;exact xlN
 ·cases h;exact xlM
 ·cases h;exact xlL
 ·cases h;exact xlK
 ·cases h;exact xlJ
 ·cases h;exact xlI
 ·cases h;exact xlH
 ·cases h;exact xlG
 ·cases h;exact xlF
 ·cases h;exact xlE
 ·cases h;exact xlD
 ·cases h;exact xlC
 ·cases h;exact xlB
 ·cases h;exact xlA
 ·cases h;exact xlz
 ·cases h;exact xly
 ·cases h;exact xlx
 ·cases h;exact xlw
 ·cases h;exact xlv
 ·cases h;exact xlu
 ·cases h;exact xlt
 ·cases h;exact xls
 ·cases h;exact xlr
 ·cases h;exact xlq
 ·cases h;exact xlp
 ·cases h;exact xlo
 ·cases h;exact xln
 ·cases h;exact xlm
 ·cases h;exact xll
 ·cases h;exact xlk
 ·cases h;exact xlj
 ·cases h;exact xli
 ·cases h;exact xlh
 ·cases h;exact xlg
 ·cases h;exact xlf
 ·cases h;exact xle
 ·cases h;exact xld
 ·cases h;exact xlc
 ·cases h;exact xlb
 ·cases h;exact xla
 ·cases h;exact xk9
 ·cases h;exact xk8
 ·cases h;exact xk7
 ·cases h;exact xk6
 ·cases h;exact xk5
 ·cases h;exact xk4
 ·cases h;exact xk3
 ·cases h;exact xk2
 ·cases h;exact xk1
 ·cases h;exact xk0
 ·cases h;exact xkZ
 ·cases h;exact xkY
 ·cases h;exact xkX
 ·cases h;exact xkW
 ·cases h;exact xkV
 ·cases h;exact xkU
 ·cases h;exact xkT
 ·cases h;exact xkS
 ·cases h;exact xkR
 ·cases h;exact xkQ
 ·cases h;exact xkP
 ·cases h;exact xkO
 ·cases h;exact xkN
 ·cases h;exact xkM
 ·cases h;exact xkL
 ·cases h;exact xkK
 ·cases h;exact xkJ
 ·cases h;exact xkI
 ·cases h;exact xkH
 ·cases h;exact xkG
 ·cases h;exact xkF
 ·cases h;exact xkE
 ·cases h;exact xkD
 ·cases h;exact xib
 ·cases h;exact xia
 ·cases h;exact xh9
 ·cases h;exact xh8
 ·cases h;exact xh7
 ·cases h;exact xh6
 ·cases h;exact xh5
 ·cases h;exact xh4
 ·cases h;exact xh3
 ·cases h;exact xh2
 ·cases h;exact xh1
 ·cases h;exact xh0
 ·cases h;exact xhZ
 ·cases h;exact xhY
 ·cases h;exact xhX
 ·cases h;exact xhW
 ·cases h;exact xhV
 ·cases h;exact xhU
 ·cases h;exact xhT
 ·cases h;exact xhS
 ·cases h;exact xhR
 ·cases h;exact xhQ
 ·cases h;exact xhP
 ·cases h;exact xhO
 ·cases h;exact xhN
 ·cases h;exact xhM
 ·cases h;exact xhL
 ·cases h;exact xhK
 ·cases h;exact xhJ
 ·cases h;exact xhI
 ·cases h;exact xhH
 ·cases h;exact xhG
 ·cases h;exact xhF
 ·cases h;exact xhE
 ·cases h;exact xhD
 ·cases h;exact xhC
 ·cases h;exact xhB
 ·cases h;exact xhA
 ·cases h;exact xhz
 ·cases h;exact xhy
 ·cases h;exact xhx
 ·cases h;exact xhw
 ·cases h;exact xhv
 ·cases h;exact xhu
 ·cases h;exact Pr.p61_ok
 ·cases h;exact Pr.p111_ok
 ·cases h;exact Pr.p154_ok
 ·cases h
attribute [go_sem] SV.kclip Tok.kc SA xmR xmQ xrd iV uL R6 EW jC List.all_replicate CW CV R9 xgg S0 S2 S1 Gd S3 S5 S4 xjt xjs av.injEq xpU xj8 xmq xih xic xL DM DN xip xjk xgb xV DP ao dX bz aU xmy Uk xmA xji xjh xjd xmH xmI xmE xq8 Uh Ug xmw xmJ xje xi9 xja xjb Uj xmC GS GT xjm xjl xmD xmB xjj xmF xjf xjg xjc xmx xmG Ui apE xmK xq9 xmz xjn xgA SF SE xms Tl Tm UE UF xjp GD GF GE TJ SOp.blind GU Gk Eg DD DE eO.quiet fA SV.names aB.names ji Tok.ids SOp.args jR aQ ah cd Int.natCast_nonneg Int.ofNat_lt Int.ofNat_le Int.ofNat_inj FU Sv FY Sx SB Sz xjX RU xjY xf9 xf8 xf4 xj4 xj5 xj2 xpz RS RR xjW xj6 xf5 xf0 xf1 xf2 RT xj0 Fo Fp xgd xgc xj1 xjZ xga xj3 xf6 xf7 xf3 xpT xpS xpV xgo xj9 xiG xqu xqv xqs xqt xqw TH xiH TP Su FZ D4 Sw FW jW D7 D8 F5 F6 xiF Tr xq4 xq6 xq5 qM Ei xlU Tf xlW xin xim xii xl4 xl5 xl0 xpY Tb Ta xlS xl6 xij xid xie xif Te xlY Ge Gf xir xiq xlZ xlX xio xl2 xik xil xig Td xlT xl3 xpZ xlV Tc xl7 xl1 xis UH EP mkE Tn stC FB apS apB apL UG cpC cp2 cpB cpL xgp xht CX Qv CY CZ lz lC Qs C2 C3 xge R3 xmr xit xiB xiA Tx Gt Gs Em Tw Eo Gu Ty En xU Gh Gi Tk xpI xpG xpH Sb xgk xmL xmO xmN xmM Hc Uw xp5 xp3 xp4 Tq xiw F9 xkA xky xkz F8 SZ GN EL EM xmu xmt TQ xM UA T1 rb Sr UC Hu xf xg rz TO nq qN lF xY xX TW lenC Uo xN xO rC Ts xQ xE uN eE jI wB iW jd xjz nh dA evL CSt.purge xZ yF QX np Dk lZ kD oh eW i9 psC Tok.readyC aB.wf SV.bare SV.bareL jE kb tp jQ ed cB dO gF eB fL dB po ei rK rL mX rJ jZ i7 FK DQ Sl FF FL FJ DO xh Sm FG Sp FM DZ xo DW xl FN DS DX DV xj xk vi FO DT FQ DY DR FP DU FE Sn FH Rs G9 Ur Us TS TU TV TT UB FC Sc Si Sh Sg Sf Se Sd xiP xiI xiN xiO xiM xiL xiK xiJ S9 S8 S7 Ut G8 G6 G7 GZ Uq G4 G3 G2 G1 G5 TE TD TA Tz TC TB Uz xjo eV CSt.publish lx mf oO SV.pub SV.pubL xD gcC sJ R7 rZ lq gg gY tks oQ Fc rM dC Rr vu gJ jA SV.num mu ij toB rows uP gP fy gL Tok.eat SV.one SV.data SV.isData SV.cells SV.isDef SV.purge SV.purgeL aB.purge bC cK Tok.purge SV.ren SV.renL aB.ren Tok.ren SV.ids SV.idsL SV.toks SV.toksL aB.ids aB.toks fx gZ inR pD fk id_eq ax bc bG bp bj cO eP beq_self_eq_true bm bw List.getD_nil List.take_succ_cons List.take_zero List.take_nil aY List.drop_succ_cons List.drop_nil aL bT List.flatten_cons List.flatten_nil List.contains_nil List.contains_cons List.isEmpty_nil List.isEmpty_cons iZ List.all_nil List.set_cons_zero List.set_cons_succ bg Option.getD_none bf Option.map_none Option.toList_some Option.toList_none cQ Option.isNone_none Option.isNone_some Option.isSome_none Option.isSome_some Bool.or_false fZ Bool.or_true dh Bool.and_self Bool.and_true Bool.true_and Bool.and_false E8 lQ Bool.not_false aD Bool.true_eq_false Bool.not_eq_true Bool.not_eq_false decide_eq_true_eq decide_eq_false_iff_not and_true true_and and_self or_false false_or or_true true_or not_true_eq_false not_false_eq_true ne_eq Int.toNat_natCast true_implies false_implies implies_true decide_true decide_false Nat.lt_irrefl Nat.not_lt_zero aZ cL eq_self and_false false_and
attribute [go_sem] Fm Fs Fz Fi Ld Fa Ln Ia Mv Bb Bc Ca Pf Pt So Kk Kc Zq0 Zq1 Zq2 Zq3 Zq4 xm xs xi ci om omk on oo xn9 xn8 xn7 xn6 xn5 xn4 xn3 F3 r3 xn2 xn1 xn0 xnZ xnY xnX xnW xnV xnU xnT xan xam xal xak xaj xai xah xag xaf xae xad xac RG RF F4 xks xkr r4 xew xev xeu xet xes xer xeq F10 r10 xep xeo xen xem xel xek xej xei xeh xeg OI OH An F11 xhl r11 xef xee xed xec xeb xea xd9 xd8 xd7 xd6 NQ NP NO NN NM Aj F12 xhh r12 xd5 xd4 xd3 xd2 xd1 xd0 xdZ xdY xdX xdW MO MN MM ML MK MJ MI Ag F13 xhe r13 xdV xdU F14 r14 xdT xdS xdR xdQ xdP xdO xdN xdM xdL xdK L4 L3 L2 F15 r15 xdJ xdI xdH xdG xdF xdE xdD xdC xdB xdA LI LH LG LF LD Ad F16 xhb r16 xdz xdy xdx xdw xdv xdu xdt F18 r18 xds xdr xdq xdp xdo xdn xdm xdl xdk xdj Lw Lv Lu Lt Ls Lr Lq Ac Ab F19 xha xg9 r19 xdi xdh xdg xdf xde xdd xdc xdb xda xc9 Lp Lo Aa F21 xg8 r21 xc8 xc7 xc6 xc5 xc4 xc3 xc2 xc1 RM F23 xkx r23 xc0 xcZ xcY xcX xcW xcV xcU xcT xcS xcR Lm Ll Lk Lj Li Lh Lg Lf Le Lc z9 z8 z7 F24 xg7 xg6 xg5 r24 xcQ xcP xcO xcN xcM xcL xcK xcJ xcI RL F25 xkw r25 xcH xcG xcF xcE xcD xcC xcB xcA xcz xcy Lb La K9 K8 K7 K6 K5 K4 z6 F28 xg4 r28 xcx xcw F29 r29 xcv xcu xct xcs xcr xcq xcp xco xcn xcm K3 K2 K1 K0 KZ KY KX KW KV KU KT KS KR KP zZ zY zX zW F31 xg3 xg2 xg1 xg0 r31 xcl xck xcj xci xch xcg xcf F33 r33 xce xcd xcc xcb xca xb9 xb8 xb7 xb6 xb5 KO KN KM KL zV zU F34 xgZ xgY r34 xb4 xb3 xb2 xb1 F35 r35 xb0 xbZ xbY xbX xbW xbV xbU xbT xbS xbR KK KJ KI KH KG KF KE KD KC KB KA Kz Ky Kx Kw zT F36 xgX r36 xbQ xbP xbO xbN xbM F37 r37 xbL xbK xbJ xbI xbH xbG xbF xbE xbD xbC Kv Ku Kt F38 r38 xbB xbA xbz xby xbx xbw xbv xbu xbt xbs Ks Kr Kq Kp F39 r39 xbr xbq xbp xbo xbn xbm xbl xbk xbj xbi Ko zS F40 xgW r40 xbh xbg xbf xbe xbd xbc xbb xba xa9 Kn RK F41 xkv r41 xa8 xa7 xa6 xa5 xa4 xa3 xa2 xa1 xa0 xaZ Km Kj Ki Kh F42 r42 xaY xaX xaW xaV xaU xaT xaS xaR xaQ RJ F43 xku r43 xaP xaO xaN xaM xaL xaK xaJ xaI xaH xaG Kg Kf Ke Kd Kb Ka J9 J8 J7 J6 J5 J4 J3 J2 J1 zR zQ F44 xgV xgU r44 xaF xaE xaD xaC xaB xaA xaz xay RH F45 xkt r45 xax xaw F46 r46 xav xau xat xas F47 r47 xar xaq F48 r48 xap xao F49 r49 xab xaa Z9 Z8 Z7 Z6 Z5 Z4 Z3 Z2 J0 JZ JY JX JW JV JU JT JS JR JQ JP JO JN JM JL JK JJ zP zO F50 xgT xgS r50 Z1 Z0 ZZ ZY ZX ZW ZV ZU RE F51 xkq r51 ZT ZS F52 r52 ZR ZQ ZP ZO ZN ZM ZL ZK ZJ ZI JI JH JG F53 r53 ZH ZG ZF ZE ZD ZC ZB ZA Zz Zy JF JE JD JC JB JA Jz Jy Jx Jw Jv Ju Jt Js zN zM F54 xgR xgQ r54 Zx Zw Zv Zu Zt Zs Zr Zq Zp Zo Jr F55 r55 Zn Zm F56 r56 Zl Zk Zj Zi Zh Zg Zf Ze Zd Zc Jq Jp Jo zL F57 xgP r57 Zb Za Y9 Y8 Y7 Y6 Y5 Y4 Y3 Y2 Jn Jm Jl Jk Jj Ji Jh Jg Jf Je Jd zK F58 xgO r58 Y1 Y0 YZ YY YX F59 r59 YW YV YU YT YS YR YQ YP YN RD F60 xkp r60 YM YL YK YJ YI YH YG YF YE YD Jc Jb Ja I9 I8 I7 I6 I5 I4 I3 I2 F62 r62 YC YB YA Yz Yy Yx Yw RB F63 xko r63 Yv Yu Yt Ys Yr Yq Yp Yo Yn Ym I1 I0 IZ IY IX zJ F64 xgN r64 Yl Yk Yj Yi Yh Yg Yf Ye Yd Yc IW IV IU zI F65 xgM r65 Yb Ya X9 X8 X7 X6 X5 X4 X3 X2 F68 r68 X1 X0 XZ XY XX XW XV XU XT IT IS IR IQ IP IN IM IL RA zH F69 xkn xgL r69 XS XR F72 r72 XQ XP XO XN XM XL XK XJ XI XH IK IJ II IH IG IF IE ID IC IB IA Iz zG zF F75 xgK xgJ r75 XG XF XE XD XC XB XA Xy Rz F76 xkm r76 Xx Xw F77 r77 Xv Xu Xt Xs F78 r78 Xr Xq Xp Xo Xn Xm Xl Xk Xj Xi Iy Ix Iw Iv Iu It Is Ir zE F79 xgI r79 Xh Xg Xf Xe Xd Xc Xb Xa W9 W8 Iq Ip Io In Im Il Ik Ij Ii Ih Ig If Ie Ic Ib H9 H8 H7 H6 zD zC zB zA F80 xgH xgG xgF xgE r80 W7 W6 W5 W4 W3 W2 W1 W0 WZ WY F81 r81 WX WW WV WU WT WS WR WQ WP Ry F82 xkl r82 WO WN WM WL F83 r83 WK WJ WI WH WG WF WE WD F84 r84 WC WB WA Wz Wy Rx F85 xkk r85 Wx Ww Wv F86 r86 Wu Wt Ws Wr Wq Wp Wo Wn Wm Wj H5 H3 zy F87 xgD r87 Wi Wh Wg Wf We Wd Wc Wb Wa V9 H2 HZ F88 r88 V8 V7 F89 r89 V6 V5 V4 V3 V2 V1 V0 VZ VY VX HY HX HW HV HU HT HS HR HQ zx F90 xgC r90 VW VV F91 r91 VU VT VS VR VQ VP VO VN VM VL HP zw F92 xgB r92 VK VJ F93 r93 VI VH VG VF VE VD VC VB VA HO HN Rw F94 xkj r94 Vz Vy Vx Vw Vv Vu Vt Vs Vr HM Rv F95 xki r95 Vq Vp Vo Vn Vm Vl Vk Vj Vi HK HJ HI HH HG HF HE HD HC Ru F96 xkh r96 Vh Vg Vf Ve F97 r97 Vd Vc Vb Va U9 U8 U7 Rt F98 xkg r98 U6 U5 U4 U3 U2 U1 U0 F99 r99 Qp Qo Qn Qm Ql P9 P8 P7 P6 P5 CT CS CR CQ CP CO ur uq xfX SX SW xoS P4 P3 P2 P1 P0 PZ PY PX PW PV CN CM CL CK CJ CI CH CG CF CE CD CC up uo xfW SU SS xoR PU PT xfV xoQ PS PR xfU xoP PQ PP PO PN PM PL PK PJ PI PH CB xfT xoO PG PF xfS xoN PE PD PC PB PA Pz Py As xfR xhq xoM Px Pw Pv Pu Ps Pq Pp Po Pn CA Ar um xfQ xhp SR xoL Pm Pl Pk Pj Pi Ph Pg Pe Pd Cz Cy Cx Cw Cv Cu Ct Cs Cr Cq Cp Co Cn Cm Cl Ck Cj Ci Ch Aq ul xfP xho SQ xoK Pc Pb Pa O9 O8 O7 O6 O5 Ap xfO xhn xoJ O4 O3 O2 O1 O0 OZ OY OX OW OV Cg Cf Ce Cd Cc Cb B0 BZ BY BX BW BV BU BT BS uk uj ui xfN SP SO SN xoI OU OT OS OR OQ OP OO ON OM Ao xfM xhm xoH OL OK OJ xfL xoG OG OF OE OD OC OB OA Oz Ox Am xfK xhk xoF Ow Ov Ou Ot Oq Oo On Om Ol Ok BR BQ BP BO xfJ xoE Oj Oi xfI xoD Oh Og xfH xoC Of Oe Od Oc Ob Oa N9 N8 N6 Al xfG xhj xoB N5 N4 xfF xoA N3 N2 N1 N0 NZ NY NX NW NV BN Ak uh xfE xhi SM xoz NU NT xfD xoy NS NR xfC xox NL NK NJ NI NH NG NF Ai xfB xhg xow NE ND xfA xov NC NB NA Nz Ny Nw Nv Nu Nt Ns BM BL BK BJ BI BH xfz xou Nr Nq Np No Nn Nm Nl Nk Nj xfy xot Ni Nh Ng Nf xfx xos Nd Nc Nb Na M9 xfw xoq M8 M7 M6 M5 M4 M3 M2 M1 M0 MZ BG BF BE BD BC BB BA Bz By Bx Bw Bv Bu Bt Bs Br Bq Bp ug uf ue xfv SL SK SJ xop MY MX MW MV MU MT MS MR MQ Bo Ah xfu xhf xoo MH MG xft xon MF ME MD xfs xom MC MB MA Mz My Mx Mw Mu Mt Ms Bn xfr xol Mr Mq xfq xok Mp Mo Mn Mm xfp xoj Ml Mk Mj xfo xoi Mi Mh Mg Mf Me Md Mc Mb Ma L9 Bm Bl Bj Bi Bh Bg Bf Be Bd Ba A9 A8 A7 A6 A5 A4 A3 ud xfn SH xoh L8 L7 L6 L5 Af xfm xhd xog L1 L0 LZ LY Ae xfl xhc xof LX LW xfk xoe LV LU LS LR LQ LP LO LN LM LL A2 A1 AZ AY AX AW AV AU AT AS uc xfj SG xod LK LJ xfi xoc LC LB xfh xob LA Lz Ly Lx xfg xoa
end Go.Proofs.YtdafipacemgcoaaGreatDoor