/- The resolved code of the functions of this seat, with directions, checked by the kernel. No condition. -/
import Derived.Test.YtkcjdeofknkndaaGreatDoorProg
import Derived.Test.YtkcjdeofknkndaaGreatDoorVaZ2
import Derived.KernelRfl
open Bool renaming and_eq_true -> aD, false_eq_true -> aM
open List renaming all_cons -> iD, append_assoc -> ay, append_nil -> bZ, cons_append -> aH, drop_zero -> bh, flatten_cons -> dk, getD_cons_succ -> cJ, getD_cons_zero -> cn, length_append -> ac, length_cons -> aC, length_map -> au, length_nil -> az, length_replicate -> bY, map_append -> bU, map_cons -> aI, map_nil -> bi, mem_cons -> am, nil_append -> aF, not_mem_nil -> cK, replicate -> aq, take_nil -> b9
open Nat renaming add_zero -> eE, le_refl -> aO, zero_add -> cM, zero_le -> bW
open Option renaming bind_some -> da, getD_some -> bz, map_some -> bq, some -> av
set_option maxRecDepth 100000
set_option linter.unusedVariables false
namespace Go.Proofs.YtkcjdeofknkndaaGreatDoor
open Tryz
open Go.Sy
abbrev xm(d s:Nat):SI:=⟨some d,none,.mov (.t s)⟩
abbrev xs(d:Nat)(o:SOp):SI:=⟨some d,none,o⟩
abbrev xi(d g:Nat)(b:Bool)(o:SOp):SI:=⟨some d,some (g,b),o⟩
abbrev om(d s:Nat):RI:= .op (xm d s) []
abbrev omk(d s:Nat):RI:= .op (xm d s) [s]
abbrev on(d:Nat)(o:SOp):RI:= .op (xs d o) []
abbrev oo(d:Nat)(o:SOp)(k:List Nat):RI:= .op (xs d o) k
abbrev ci(n:Int):Arg:= .c (.int .i64 n)
abbrev Fm(n d s:Nat):FI:=⟨n,true,xm d s⟩
abbrev Fs(n d:Nat)(o:SOp):FI:=⟨n,true,xs d o⟩
abbrev Fz(n d:Nat)(o:SOp):FI:=⟨n,false,xs d o⟩
abbrev Fi(n d g:Nat)(b:Bool)(o:SOp):FI:=⟨n,true,xi d g b o⟩
abbrev Ld(s:Nat):SOp:= .load 1 false (.t s)
abbrev Fa(n s:Nat):SOp:= .faddr n (.t s)
abbrev Ln(s:Nat):SOp:= .len false (.t s)
abbrev Ia(n a b:Nat):SOp:= .iaddrL n (.t a) (.t b)
abbrev Mv(s:Nat):SOp:= .mov (.t s)
abbrev Bb(o:BinOp)(a b:Nat):SOp:= .bin o (.t a) (.t b)
abbrev Bc(o:BinOp)(a:Nat)(n:Int):SOp:= .bin o (.t a) (ci n)
abbrev Ca(f:Nat)(l:List Arg):SOp:= .call (.f f) l
abbrev Pf(a b:Nat):SOp:= .pick (.t a) (.t b) (.c (.bool false))
abbrev Pt(a b:Nat):SOp:= .pick (.t a) (.c (.bool true)) (.t b)
abbrev So(l:List RI)(x:RC):RC:= .seq (.ops l) x
abbrev Kk(l:List Nat)(x:RC):RC:= .pre [.kill l] x
abbrev Kc(n:Nat)(x y:RC):RC:= .cond (.t n) x y
abbrev Fy(n d g:Nat)(b:Bool)(o:SOp):FI:=⟨n,false,xi d g b o⟩
abbrev Fr(n k a x:Nat):FI:=⟨n,false,⟨none,none,.store k (.t a) (.t x)⟩⟩
abbrev Sr(n a x:Nat)(k:List Nat):RI:= .op ⟨none,none,.store n (.t a) (.t x)⟩ k
abbrev Lt(n s:Nat):SOp:= .load n true (.t s)
abbrev Mc(n:Int):SOp:= .mov (ci n)
abbrev Mb(b:Bool):SOp:= .mov (.c (.bool b))
abbrev Bk(n:Nat)(x:RC):RC:= .block n x
abbrev Sq(x y:RC):RC:= .seq x y
abbrev Zq0:List SV:=[.int .i64 0,.str [],.int .i64 0,.byt [] .clip]
abbrev Zq1:List SV:=[.str [],.int .i64 0,.int .i64 0,.int .i64 0,.int .i64 0,.lst 4 [] .clip,.lst 4 [] .clip]
abbrev Zq2:List SV:=[.int .i64 0,.str [],.int .i64 0,.int .i64 0]
def cs0:List UInt8:=[0,1,2,2,3,3,3,3,4,4,4,4,4,4,4,4,5,5,5,5,5,5,5,5,5,5,5,5,5,5,5,5,6,6,6,6,6,6,6,6,6,6,6,6,6,6,6,6,6,6,6,6,6,6,6,6,6,6,6,6,6,6,6,6,7,7,7,7,7,7,7,7,7,7,7,7,7,7,7,7,7,7,7,7,7,7,7,7,7,7,7,7,7,7,7,7,7,7,7,7,7,7,7,7,7,7,7,7,7,7,7,7,7,7,7,7,7,7,7,7,7,7,7,7,7,7,7,7,8,8,8,8,8,8,8,8,8,8,8,8,8,8,8,8,8,8,8,8,8,8,8,8,8,8,8,8,8,8,8,8,8,8,8,8,8,8,8,8,8,8,8,8,8,8,8,8,8,8,8,8,8,8,8,8,8,8,8,8,8,8,8,8,8,8,8,8,8,8,8,8,8,8,8,8,8,8,8,8,8,8,8,8,8,8,8,8,8,8,8,8,8,8,8,8,8,8,8,8,8,8,8,8,8,8,8,8,8,8,8,8,8,8,8,8,8,8,8,8,8,8,8,8,8,8,8,8]
def cs1:List UInt8:=[48,49,50,51,52,53,54,55,56,57,97,98,99,100,101,102,103,104,105,106,107,108,109,110,111,112,113,114,115,116,117,118,119,120,121,122]
def cs2:List UInt8:=[48,48,48,49,48,50,48,51,48,52,48,53,48,54,48,55,48,56,48,57,49,48,49,49,49,50,49,51,49,52,49,53,49,54,49,55,49,56,49,57,50,48,50,49,50,50,50,51,50,52,50,53,50,54,50,55,50,56,50,57,51,48,51,49,51,50,51,51,51,52,51,53,51,54,51,55,51,56,51,57,52,48,52,49,52,50,52,51,52,52,52,53,52,54,52,55,52,56,52,57,53,48,53,49,53,50,53,51,53,52,53,53,53,54,53,55,53,56,53,57,54,48,54,49,54,50,54,51,54,52,54,53,54,54,54,55,54,56,54,57,55,48,55,49,55,50,55,51,55,52,55,53,55,54,55,55,55,56,55,57,56,48,56,49,56,50,56,51,56,52,56,53,56,54,56,55,56,56,56,57,57,48,57,49,57,50,57,51,57,52,57,53,57,54,57,55,57,56,57,57]
def oY:List SV:=[.int .i64 (-1),.int .i64 0,.int .i64 4,.int .i64 8,.int .i64 9]
def iN:List SV:=[.int .u32 1116352408,.int .u32 1899447441,.int .u32 3049323471,.int .u32 3921009573,.int .u32 961987163,.int .u32 1508970993,.int .u32 2453635748,.int .u32 2870763221,.int .u32 3624381080,.int .u32 310598401,.int .u32 607225278,.int .u32 1426881987,.int .u32 1925078388,.int .u32 2162078206,.int .u32 2614888103,.int .u32 3248222580,.int .u32 3835390401,.int .u32 4022224774,.int .u32 264347078,.int .u32 604807628,.int .u32 770255983,.int .u32 1249150122,.int .u32 1555081692,.int .u32 1996064986,.int .u32 2554220882,.int .u32 2821834349,.int .u32 2952996808,.int .u32 3210313671,.int .u32 3336571891,.int .u32 3584528711,.int .u32 113926993,.int .u32 338241895,.int .u32 666307205,.int .u32 773529912,.int .u32 1294757372,.int .u32 1396182291,.int .u32 1695183700,.int .u32 1986661051,.int .u32 2177026350,.int .u32 2456956037,.int .u32 2730485921,.int .u32 2820302411,.int .u32 3259730800,.int .u32 3345764771,.int .u32 3516065817,.int .u32 3600352804,.int .u32 4094571909,.int .u32 275423344,.int .u32 430227734,.int .u32 506948616,.int .u32 659060556,.int .u32 883997877,.int .u32 958139571,.int .u32 1322822218,.int .u32 1537002063,.int .u32 1747873779,.int .u32 1955562222,.int .u32 2024104815,.int .u32 2227730452,.int .u32 2361852424,.int .u32 2428436474,.int .u32 2756734187,.int .u32 3204031479,.int .u32 3329325298]
def iM:List SV:=[.int .u64 1,.int .u64 10,.int .u64 100,.int .u64 1000,.int .u64 10000,.int .u64 100000,.int .u64 1000000,.int .u64 10000000,.int .u64 100000000,.int .u64 1000000000,.int .u64 10000000000,.int .u64 100000000000,.int .u64 1000000000000,.int .u64 10000000000000,.int .u64 100000000000000,.int .u64 1000000000000000,.int .u64 10000000000000000,.int .u64 100000000000000000,.int .u64 1000000000000000000,.int .u64 10000000000000000000]
instance:bc:=⟨fun
 |0=>some oY
 |1=>some iN
 |3=>some iM
 |_=>none⟩
def xhm:List RI:=[oo 6 (.box (.t 0)) [0],oo 12 (Mb false) [12]]
def xhl:List RI:=[on 17 (Ca 10 []),oo 18 (.un .not (.t 17)) [17]]
def xc2:List RI:=[on 12 (Mb false)]
def xhk:List RI:=[on 19 (Lt 7 6),oo 20 (Ca 11 [.t 19]) [19],Sr 7 6 20 [20]]
def xhj:List RI:=[omk 21 1,omk 22 2,oo 23 (Ca 12 [.t 21,.t 22]) [21,22],on 13 (.new (.rc Zq1)),Sr 7 13 23 [23]]
def xhi:List FI:=[Fs 0 24 (Lt 7 6),Fs 2 26 (Lt 7 6),Fz 1 25 (Ca 13 [.t 24]),Fz 3 27 (Ca 14 [.t 26]),Fs 4 28 (Bb .neq 25 27),Fm 5 29 28,Fi 6 30 29 false (Lt 7 13),Fy 7 31 29 false (Ca 13 [.t 30]),Fi 8 32 29 false (Bc .neq 31 0),Fs 9 33 (Pt 29 32)]
def xhh:List RI:=[on 34 (.lit 4 []),on 35 (Fa 5 13),oo 36 (Ld 35) [35],.own (xs 37 (.app Zq0 56 (.t 34) (.t 36))) [34,36],omk 14 37]
def xhg:List RI:=[omk 38 4,om 39 14,oo 40 (Ln 39) [39],oo 41 (Ca 15 [.t 38,.t 40]) [38,40],omk 15 41]
def xhf:List RI:=[omk 42 3,oo 43 (Ca 15 [.t 42,ci 11]) [42]]
def VS:List RI:=[on 55 (Bc .eql 43 0),omk 54 55]
def VR:List RI:=[oo 56 (Fa 0 6) [6],oo 57 (Ld 56) [56],on 58 (Fa 0 13),Sr 1 58 57 [57,58]]
def VQ:List RI:=[on 60 (Bc .eql 43 1),omk 59 60]
def VP:List RI:=[omk 61 5,on 62 (Fa 1 13),Sr 1 62 61 [61,62]]
def VO:List RI:=[on 64 (Bc .eql 43 2),omk 63 64]
def VN:List RI:=[omk 65 5,oo 66 (Ca 15 [.t 65,ci 8]) [65],oo 67 (Bc .sub 66 1) [66],on 68 (Fa 2 13),Sr 1 68 67 [67,68]]
def VM:List RI:=[on 70 (Bc .eql 43 3),omk 69 70]
def VL:List RI:=[omk 71 5,oo 72 (Ca 15 [.t 71,ci 50]) [71],oo 73 (Bc .sub 72 1) [72],on 74 (Fa 3 13),Sr 1 74 73 [73,74]]
def VK:List RI:=[on 76 (Bc .eql 43 4),omk 75 76]
def VJ:List RI:=[omk 77 5,on 78 (Fa 4 13),Sr 1 78 77 [77,78]]
def VI:List RI:=[on 80 (Bc .eql 43 5),omk 79 80]
def VH:List RI:=[oo 81 (Fa 6 6) [6],oo 82 (Ld 81) [81],on 83 (Fa 6 13),Sr 1 83 82 [82,83]]
def VG:List RI:=[on 85 (Bc .eql 43 6),omk 84 85]
def VF:List RI:=[oo 86 (Fa 5 6) [6],oo 87 (Ld 86) [86],on 88 (Fa 5 13),Sr 1 88 87 [87,88]]
def VE:List RI:=[on 90 (Bc .eql 43 7),omk 89 90]
def VD:List RI:=[om 91 14,oo 92 (Ln 91) [91],oo 93 (Bc .gtr 92 0) [92]]
def VC:List RI:=[om 94 14,omk 95 15,omk 96 5,oo 97 (Ca 15 [.t 96,ci 6]) [96],oo 98 (Ia 4 94 95) [94,95],oo 99 (Fa 0 98) [98],Sr 1 99 97 [97,99]]
def VB:List RI:=[omk 100 14,on 101 (Fa 5 13),Sr 1 101 100 [100,101]]
def VA:List RI:=[on 103 (Bc .eql 43 8),omk 102 103]
def Vz:List RI:=[om 104 14,oo 105 (Ln 104) [104],oo 106 (Bc .gtr 105 0) [105]]
def Vy:List RI:=[omk 107 5,om 108 14,oo 109 (Ln 108) [108],oo 110 (Ca 15 [.t 107,.t 109]) [107,109],omk 16 110]
def Vx:List FI:=[Fm 0 111 14,Fm 1 112 15,Fm 2 113 14,Fm 3 114 16,Fm 4 115 14,Fm 5 116 16,Fs 6 117 (Ia 4 115 116),Fs 7 118 (Lt 4 117),Fm 8 119 14,Fm 9 120 15,Fs 10 121 (Ia 4 119 120),Fs 11 122 (Lt 4 121),Fs 12 123 (Ia 4 111 112),Fr 13 4 123 118,Fs 14 124 (Ia 4 113 114),Fr 15 4 124 122]
def Vw:List RI:=[omk 125 14,on 126 (Fa 5 13),Sr 1 126 125 [125,126]]
def Vv:List RI:=[oo 128 (Bc .eql 43 9) [43],omk 127 128]
def Vu:List RI:=[om 129 14,oo 130 (Ln 129) [129],oo 131 (Bc .gtr 130 0) [130]]
def Vt:List FI:=[Fs 0 132 (.lit 4 []),Fm 1 133 14,Fm 2 134 15,Fs 3 135 (.slcL 4 (.t 133) none (some (.t 134)) none),Fm 5 137 14,Fm 6 138 15,Fs 7 139 (Ia 4 137 138),Fs 8 140 (Lt 4 139),Fs 9 141 (.lit 4 [.t 140]),Fm 11 143 14,Fm 12 144 15,Fs 13 145 (.slcL 4 (.t 143) (some (.t 144)) none none),Fz 4 136 (.app Zq0 56 (.t 132) (.t 135)),Fz 10 142 (.app Zq0 56 (.t 136) (.t 141)),Fz 14 146 (.app Zq0 56 (.t 142) (.t 145)),Fs 15 147 (Fa 5 13),Fr 16 1 147 146]
def Vs:List RI:=[om 44 14,oo 45 (Ln 44) [44],oo 46 (Bc .gtr 45 0) [45]]
def Vr:List RI:=[om 47 14,omk 48 15,omk 49 5,oo 50 (Ia 4 47 48) [47,48],oo 51 (Fa 2 50) [50],Sr 1 51 49 [49,51]]
def Vq:List RI:=[omk 52 14,on 53 (Fa 5 13),Sr 1 53 52 [52,53]]
def Vp:List FI:=[Fs 0 148 (Lt 7 13),Fs 2 150 (Lt 7 13),Fz 1 149 (Ca 13 [.t 148]),Fz 3 151 (Ca 14 [.t 150]),Fs 4 152 (Bb .eql 149 151),Fm 5 12 152]
def r3:RC:=(So xhm (Sq (So xhl (Kc 18 (Kk [1,2,3,4,5,6,18] (So xc2 .ret)) (Kk [18] .skip))) (So xhk (So xhj (Sq (Sq (.flt [0,1,0,7,15,31,63,127,255,511] [] xhi [24,25,26,27,28,29,30,31,32]) (Kc 33 (Kk [3,4,5,6,13,33] (So xc2 .ret)) (Kk [33] .skip))) (So xhh (So xhg (Sq (So xhf (Bk 0 (So VS (Kc 54 (Kk [5,14,15,43,54] (.ops VR)) (Kk [54] (So VQ (Kc 59 (Kk [6,14,15,43,59] (.ops VP)) (Kk [59] (So VO (Kc 63 (Kk [6,14,15,43,63] (.ops VN)) (Kk [63] (So VM (Kc 69 (Kk [6,14,15,43,69] (.ops VL)) (Kk [69] (So VK (Kc 75 (Kk [6,14,15,43,75] (.ops VJ)) (Kk [75] (So VI (Kc 79 (Kk [5,14,15,43,79] (.ops VH)) (Kk [79] (So VG (Kc 84 (Kk [5,14,15,43,84] (.ops VF)) (Kk [6,84] (So VE (Kc 89 (Kk [43,89] (So VD (Kc 93 (Kk [93] (So VC (.ops VB))) (Kk [5,14,15,93] .skip)))) (Kk [89] (So VA (Kc 102 (Kk [43,102] (So Vz (Kc 106 (Kk [106] (So Vy (Sq (.flt [0,0,0,0,0,0,48,112,0,0,768,1792,4083,8179,16383,32767] [] Vx [15,16,111,112,113,114,115,116,117,118,119,120,121,122,123,124]) (.ops Vw)))) (Kk [5,14,15,106] .skip)))) (Kk [102] (So Vv (Kc 127 (Kk [5,127] (So Vu (Kc 131 (Kk [131] (.flt [0,0,0,6,15,0,0,96,224,480,1023,0,0,6144,16383,32767,65535] [236,242,246] Vt [14,15,132,133,134,135,136,137,138,139,140,141,142,143,144,145,146,147])) (Kk [14,15,131] .skip)))) (Kk [127] (So Vs (Kc 46 (Kk [46] (So Vr (.ops Vq))) (Kk [5,14,15,46] .skip))))))))))))))))))))))))))))))))))) (Sq (.flt [0,1,0,7,15,31] [] Vp [13,148,149,150,151,152]) .ret)))))))))
def F3:FnC:=⟨r3,153,[.tmp 12],[],[]⟩
def xhe:List RI:=[oo 3 (.box (.t 0)) [0],oo 6 (Mb false) [6]]
def xhd:List RI:=[on 11 (Ca 10 []),oo 12 (.un .not (.t 11)) [11]]
def xhc:List RI:=[on 6 (Mb false)]
def xhb:List RI:=[on 13 (Lt 7 3),oo 14 (Ca 11 [.t 13]) [13],Sr 7 3 14 [14]]
def xha:List RI:=[omk 15 1,omk 16 2,oo 17 (Ca 12 [.t 15,.t 16]) [15,16],on 7 (.new (.rc Zq1)),Sr 7 7 17 [17]]
def xg9:List RI:=[on 18 (Lt 7 7),oo 19 (Ca 16 [.t 18]) [18],omk 8 19]
def xg8:List RI:=[om 21 8,oo 22 (Ca 17 [.t 21]) [21],omk 20 22,on 23 (.ext (.t 20) 0),oo 24 (.ext (.t 20) 1) [20],on 9 (.new (.rc Zq1)),Sr 7 9 23 [23],omk 10 24]
def xg7:List FI:=[Fm 0 25 10,Fs 1 26 (Bc .eql 25 0),Fm 2 27 26,Fi 3 28 27 true (Lt 7 7),Fi 4 29 27 true (Lt 7 9),Fy 5 30 27 true (Ca 18 [.t 28,.t 29]),Fs 6 31 (Pf 27 30),Fm 7 32 31,Fi 8 33 32 true (Mv 8),Fi 9 34 32 true (Lt 7 7),Fy 10 35 32 true (Ca 20 [.t 34]),Fy 11 36 32 true (Ca 19 [.t 33,.t 35]),Fs 12 37 (Pf 32 36),Fm 13 38 37,Fi 14 39 38 true (Lt 7 7),Fi 16 41 38 true (Lt 7 7),Fy 15 40 38 true (Ca 21 [.t 39]),Fy 17 42 38 true (Ca 22 [.t 41]),Fy 18 43 38 true (Ca 19 [.t 40,.t 42]),Fs 19 44 (Pf 38 43),Fm 20 45 44,Fi 21 46 45 true (Lt 7 3),Fi 23 48 45 true (Lt 7 3),Fy 22 47 45 true (Ca 16 [.t 46]),Fy 24 49 45 true (Ca 20 [.t 48]),Fy 25 50 45 true (Ca 19 [.t 47,.t 49]),Fs 26 51 (Pf 45 50),Fm 27 52 51,Fi 28 53 52 true (Lt 7 3),Fi 30 55 52 true (Lt 7 3),Fy 29 54 52 true (Ca 21 [.t 53]),Fy 31 56 52 true (Ca 22 [.t 55]),Fy 32 57 52 true (Ca 19 [.t 54,.t 56]),Fs 33 58 (Pf 52 57),Fm 34 6 58]
def r4:RC:=(So xhe (Sq (So xhd (Kc 12 (Kk [1,2,3,12] (So xhc .ret)) (Kk [12] .skip))) (So xhb (So xha (So xg9 (So xg8 (Sq (.flt [0,1,3,7,7,31,63,127,255,255,767,2047,4095,8191,16383,32767,16383,131071,262143,524287,1048575,2097151,4194303,2097151,16777215,33554431,67108863,134217727,268435455,536870911,268435455,2147483647,4294967295,8589934591,17179869183] [] xg7 [3,7,8,9,10,25,26,27,28,29,30,31,32,33,34,35,36,37,38,39,40,41,42,43,44,45,46,47,48,49,50,51,52,53,54,55,56,57,58]) .ret)))))))
def F4:FnC:=⟨r4,59,[.tmp 6],[],[]⟩
def XQ:List RI:=[oo 0 (Mb false) [0]]
def XP:List RI:=[on 6 (.newB [(.c (.u8 112))]),oo 7 (.slid (.t 6)) [6],oo 8 (.build Zq0 [(0,1,(ci 3)),(1,1,(.c (.str [107]))),(2,1,(ci 3)),(3,1,(.t 7))]) [7],on 1 (.new (.rc Zq0)),Sr 4 1 8 [8]]
def XO:List RI:=[on 9 (Lt 4 1),oo 10 (.lit 4 [.t 9]) [9],oo 11 (Ca 37 [(.c (.str [118])),ci 1,.t 10]) [10],on 2 (.new (.rc Zq1)),Sr 7 2 11 [11]]
def XN:List RI:=[on 12 (Lt 7 2),oo 13 (Ca 16 [.t 12]) [12],omk 3 13]
def XM:List RI:=[omk 15 3,oo 16 (Ca 17 [.t 15]) [15],omk 14 16,on 17 (.ext (.t 14) 0),oo 18 (.ext (.t 14) 1) [14],on 4 (.new (.rc Zq1)),Sr 7 4 17 [17],omk 5 18]
def XL:List FI:=[Fs 0 19 (Fa 5 2),Fs 1 20 (Ld 19),Fs 2 21 (Ln 20),Fs 3 22 (Bc .eql 21 1),Fm 4 23 22,Fi 5 24 23 true (Mv 5),Fi 6 25 23 true (Bc .eql 24 0),Fs 7 26 (Pf 23 25),Fm 8 27 26,Fi 9 28 27 true (Lt 7 2),Fi 10 29 27 true (Lt 7 4),Fy 11 30 27 true (Ca 18 [.t 28,.t 29]),Fs 12 31 (Pf 27 30),Fm 13 32 31,Fi 14 33 32 true (Lt 7 2),Fy 15 34 32 true (Ca 21 [.t 33]),Fi 16 35 32 true (Ln 34),Fi 17 36 32 true (Bc .eql 35 32),Fs 18 37 (Pf 32 36),Fm 19 38 37,Fi 20 39 38 true (Lt 7 2),Fi 21 40 38 true (Lt 4 1),Fy 22 41 38 true (Ca 40 [.t 40,ci 2]),Fy 23 42 38 true (Ca 31 [.t 39,.t 41]),Fi 24 43 38 true (Bc .eql 42 0),Fs 25 44 (Pf 38 43),Fm 26 45 44,Fi 27 46 45 true (.build Zq1 [(0,1,(.c (.str [118]))),(1,1,(ci 1)),(4,1,(ci 5))]),Fy 28 47 45 true (Ca 16 [.t 46]),Fi 29 48 45 true (Ln 47),Fi 30 49 45 true (Bc .eql 48 26),Fs 31 50 (Pf 45 49),Fm 32 0 50]
def r10:RC:=(So XQ (So XP (So XO (So XN (So XM (Sq (.flt [0,1,3,7,15,31,63,127,255,511,511,2047,4095,8191,16383,32767,65535,131071,262143,524287,1048575,1048575,3145727,8388607,16777215,33554431,67108863,134217727,268435455,536870911,1073741823,2147483647,4294967295] [] XL [1,2,4,5,19,20,21,22,23,24,25,26,27,28,29,30,31,32,33,34,35,36,37,38,39,40,41,42,43,44,45,46,47,48,49,50]) .ret))))))
def F10:FnC:=⟨r10,51,[.tmp 0],[],[]⟩
def XK:List RI:=[oo 1 (.box (.t 0)) [0],on 2 (.new (.rc Zq1))]
def XJ:List RI:=[on 7 (Fa 0 1),oo 8 (Ld 7) [7],oo 9 (.len true (.t 8)) [8],oo 10 (Bc .gtr 9 30) [9]]
def XI:List RI:=[on 11 (Fa 0 1),oo 12 (Ld 11) [11],oo 13 (.slcS (.t 12) none (some (ci 30))) [12],on 14 (Fa 0 1),Sr 1 14 13 [13,14]]
def XH:List RI:=[on 15 (Fa 5 1),oo 16 (Ld 15) [15],oo 17 (Ln 16) [16],oo 18 (Bc .gtr 17 20) [17]]
def XG:List RI:=[on 19 (Fa 5 1),oo 20 (Ld 19) [19],oo 21 (.slcL 4 (.t 20) none (some (ci 20)) none) [20],on 22 (Fa 5 1),Sr 1 22 21 [21,22]]
def XF:List RI:=[on 23 (Fa 6 1),oo 24 (Ld 23) [23],oo 25 (Ln 24) [24],oo 26 (Bc .gtr 25 12) [25]]
def XE:List RI:=[on 27 (Fa 6 1),oo 28 (Ld 27) [27],oo 29 (.slcL 4 (.t 28) none (some (ci 12)) none) [28],on 30 (Fa 6 1),Sr 1 30 29 [29,30]]
def XD:List RI:=[on 31 (.lit 4 []),on 32 (Fa 5 1),oo 33 (Ld 32) [32],.own (xs 34 (.app Zq0 56 (.t 31) (.t 33))) [31,33],omk 3 34]
def kK:List RI:=[on 4 (Mc 0)]
def XC:List RI:=[om 35 4,om 36 3,oo 37 (Ln 36) [36],oo 38 (Bb .lss 35 37) [35,37]]
def Mh:List RI:=[om 41 3,om 42 4,om 43 3,om 44 4,oo 45 (Ia 4 43 44) [43,44],oo 46 (Fa 3 45) [45],oo 47 (Ld 46) [46],oo 48 (Ca 23 [.t 47,ci 40]) [47],oo 49 (Ia 4 41 42) [41,42],oo 50 (Fa 3 49) [49],Sr 1 50 48 [48,50]]
def Mg:List RI:=[om 51 3,om 52 4,oo 53 (Ia 4 51 52) [51,52],oo 54 (Fa 1 53) [53],oo 55 (Ld 54) [54],oo 56 (.len true (.t 55)) [55],oo 57 (Bc .gtr 56 30) [56]]
def Mf:List RI:=[om 58 3,om 59 4,om 60 3,om 61 4,oo 62 (Ia 4 60 61) [60,61],oo 63 (Fa 1 62) [62],oo 64 (Ld 63) [63],oo 65 (.slcS (.t 64) none (some (ci 30))) [64],oo 66 (Ia 4 58 59) [58,59],oo 67 (Fa 1 66) [66],Sr 1 67 65 [65,67]]
def Me:List RI:=[omk 39 4,oo 40 (Bc .add 39 1) [39],omk 4 40]
def zw:RC:=(Sq (So XC (Kc 38 (Kk [38] .skip) (Kk [4,38] (.exit 0)))) (Sq (Bk 1 (So Mh (So Mg (Kc 57 (Kk [57] (.ops Mf)) (Kk [57] .skip))))) (.ops Me)))
def tY:RC:=zw
def Md:List RI:=[on 68 (.lit 4 []),on 69 (Fa 6 1),oo 70 (Ld 69) [69],.own (xs 71 (.app Zq2 40 (.t 68) (.t 70))) [68,70],omk 5 71]
def lU:List RI:=[on 6 (Mc 0)]
def Ma:List RI:=[om 72 6,om 73 5,oo 74 (Ln 73) [73],oo 75 (Bb .lss 72 74) [72,74]]
def L9:List RI:=[om 78 5,om 79 6,oo 80 (Ia 4 78 79) [78,79],oo 81 (Fa 1 80) [80],oo 82 (Ld 81) [81],oo 83 (.len true (.t 82)) [82],oo 84 (Bc .gtr 83 60) [83]]
def L8:List RI:=[om 85 5,om 86 6,om 87 5,om 88 6,oo 89 (Ia 4 87 88) [87,88],oo 90 (Fa 1 89) [89],oo 91 (Ld 90) [90],oo 92 (.slcS (.t 91) none (some (ci 60))) [91],oo 93 (Ia 4 85 86) [85,86],oo 94 (Fa 1 93) [93],Sr 1 94 92 [92,94]]
def L7:List RI:=[omk 76 6,oo 77 (Bc .add 76 1) [76],omk 6 77]
def zu:RC:=(Sq (So Ma (Kc 75 (Kk [75] .skip) (Kk [6,75] (.exit 2)))) (Sq (Bk 3 (So L9 (Kc 84 (Kk [84] (.ops L8)) (Kk [84] .skip)))) (.ops L7)))
def tX:RC:=zu
def L6:List RI:=[omk 95 3,omk 96 5,on 97 (Fa 5 1),Sr 1 97 95 [95,97],on 98 (Fa 6 1),Sr 1 98 96 [96,98]]
def L5:List RI:=[oo 99 (Lt 7 1) [1],Sr 7 2 99 [99]]
def r11:RC:=(So XK (Sq (So XJ (Kc 10 (Kk [10] (.ops XI)) (Kk [10] .skip))) (Sq (So XH (Kc 18 (Kk [18] (.ops XG)) (Kk [18] .skip))) (Sq (So XF (Kc 26 (Kk [26] (.ops XE)) (Kk [26] .skip))) (So XD (Sq (So kK (Bk 0 (.loop tY))) (So Md (Sq (So lU (Bk 2 (.loop tX))) (So L6 (So L5 .ret))))))))))
def F11:FnC:=⟨r11,100,[.cell 2 7 true],[],[]⟩
def Ow:List RI:=[on 4 (.new (.rc Zq1))]
def XB:List RI:=[omk 5 0,oo 6 (Ca 29 [.t 5,ci 60]) [5],omk 7 1,oo 8 (Ca 28 [.t 7]) [7],oo 9 (Ca 41 [.t 6,.t 8]) [6,8],Sr 7 4 9 [9]]
def r12:RC:=(So Ow (So XB .ret))
def F12:FnC:=⟨r12,10,[.cell 4 7 true],[],[]⟩
def qM:List RI:=[oo 1 (.box (.t 0)) [0],oo 2 (Mc 0) [2]]
def XA:List RI:=[on 9 (Fa 0 1),oo 10 (Ld 9) [9],oo 11 (Ca 42 [.t 10]) [10],oo 12 (.un .not (.t 11)) [11],omk 8 12]
def qL:List RI:=[on 2 (Mc 43)]
def Xz:List RI:=[on 14 (Fa 2 1),oo 15 (Ld 14) [14],oo 16 (Bc .lss 15 0) [15],omk 17 16,.grp 17 false [(xi 18 17 false (Fa 2 1)),(xi 19 17 false (Ld 18)),(xi 20 17 false (Fa 1 1)),(xi 21 17 false (Ld 20)),(xi 22 17 false (Bb .gtr 19 21))] [18,19,20,21],oo 23 (Pt 17 22) [17,22],omk 24 23,.grp 24 false [(xi 25 24 false (Fa 1 1)),(xi 26 24 false (Ld 25)),(xi 27 24 false (Bc .gtr 26 1000000))] [25,26],oo 28 (Pt 24 27) [24,27],omk 29 28,.grp 29 false [(xi 30 29 false (Fa 3 1)),(xi 31 29 false (Ld 30)),(xi 32 29 false (Bc .lss 31 0))] [30,31],oo 33 (Pt 29 32) [29,32],omk 34 33,.grp 34 false [(xi 35 34 false (Fa 3 1)),(xi 36 34 false (Ld 35)),(xi 37 34 false (Fa 4 1)),(xi 38 34 false (Ld 37)),(xi 39 34 false (Bb .geq 36 38))] [35,36,37,38],oo 40 (Pt 34 39) [34,39],omk 41 40,.grp 41 false [(xi 42 41 false (Fa 4 1)),(xi 43 41 false (Ld 42)),(xi 44 41 false (Bc .gtr 43 1099511627776))] [42,43],oo 45 (Pt 41 44) [41,44],omk 13 45]
def gO:List RI:=[on 2 (Mc 1)]
def Xy:List RI:=[on 47 (Fa 5 1),oo 48 (Ld 47) [47],oo 49 (Ln 48) [48],oo 50 (Bc .gtr 49 16) [49],omk 51 50,.grp 51 false [(xi 52 51 false (Fa 6 1)),(xi 53 51 false (Ld 52)),(xi 54 51 false (Ln 53)),(xi 55 51 false (Bc .gtr 54 8))] [52,53,54],oo 56 (Pt 51 55) [51,55],omk 46 56]
def oG:List RI:=[on 2 (Mc 4)]
def Xx:List RI:=[on 57 (Fa 5 1),oo 58 (Ld 57) [57],on 59 (Ln 58),on 60 (Mc 0)]
def Xw:List RI:=[on 61 (Bb .lss 60 59)]
def Xv:List RI:=[om 62 60,on 63 (Ia 4 58 60),oo 64 (Lt 4 63) [63],on 4 (.new (.rc Zq0)),omk 3 62,Sr 4 4 64 [64]]
def KH:List RI:=[on 66 (Fa 0 4),oo 67 (Ld 66) [66],oo 68 (Bc .lss 67 1) [67],omk 69 68,.grp 69 false [(xi 70 69 false (Fa 0 4)),(xi 71 69 false (Ld 70)),(xi 72 69 false (Bc .gtr 71 3))] [70,71],oo 73 (Pt 69 72) [69,72],omk 74 73,.grp 74 false [(xi 75 74 false (Fa 2 4)),(xi 76 74 false (Ld 75)),(xi 77 74 false (Bc .lss 76 0))] [75,76],oo 78 (Pt 74 77) [74,77],omk 79 78,.grp 79 false [(xi 80 79 false (Fa 2 4)),(xi 81 79 false (Ld 80)),(xi 82 79 false (Bc .gtr 81 1000000))] [80,81],oo 83 (Pt 79 82) [79,82],omk 84 83,.grp 84 false [(xi 85 84 false (Fa 3 4)),(xi 86 84 false (Ld 85)),(xi 87 84 false (Ln 86)),(xi 88 84 false (Bc .neq 87 32))] [85,86,87],oo 89 (Pt 84 88) [84,88],omk 65 89]
def KG:List RI:=[on 91 (Fa 1 4),oo 92 (Ld 91) [91],oo 93 (Ca 42 [.t 92]) [92],oo 94 (.un .not (.t 93)) [93],omk 90 94]
def KF:List FI:=[Fm 0 96 3,Fs 1 97 (Bc .gtr 96 0),Fm 2 98 97,Fi 3 99 98 true (Fa 5 1),Fi 4 100 98 true (Ld 99),Fi 5 101 98 true (Mv 3),Fi 6 102 98 true (Bc .sub 101 1),Fi 7 103 98 true (Ia 4 100 102),Fi 8 104 98 true (Lt 4 103),Fi 9 105 98 true (Lt 4 4),Fy 10 106 98 true (Ca 43 [.t 104,.t 105]),Fi 11 107 98 true (Bc .geq 106 0),Fs 12 108 (Pf 98 107),Fm 13 95 108]
def yf:List RI:=[on 2 (Mc 41)]
def KE:List RI:=[oo 109 (Bc .add 60 1) [60],omk 60 109]
def zm:RC:=(.post (So Xw (Sq (Kc 61 (Kk [61] .skip) (Kk [58,59,60,61] (.exit 1))) (Sq (Bk 2 (So Xv (Bk 3 (So KH (Kc 65 (Kk [1,3,4,58,59,60,65] (So gO .ret)) (Kk [65] (So KG (Kc 90 (Kk [1,3,4,58,59,60,90] (So qL .ret)) (Kk [90] (Sq (.flt [0,1,3,7,15,7,39,127,255,7,1023,2047,4095,8191] [] KF [3,4,96,97,98,99,100,101,102,103,104,105,106,107,108]) (Kc 95 (Kk [1,58,59,60,95] (So yf .ret)) (Kk [95] .skip)))))))))))) (.ops KE)))) [.gc [104]])
def lT:RC:=zm
def KD:List RI:=[oo 110 (Fa 6 1) [1],oo 111 (Ld 110) [110],on 112 (Ln 111),on 113 (Mc 0)]
def KC:List RI:=[on 114 (Bb .lss 113 112)]
def KB:List RI:=[on 115 (Ia 4 111 113),oo 116 (Lt 4 115) [115],on 6 (.new (.rc Zq2)),Sr 4 6 116 [116]]
def KA:List RI:=[oo 117 (Lt 4 6) [6],oo 118 (Ca 44 [.t 117]) [117],omk 7 118]
def Kz:List RI:=[om 119 7,oo 120 (Bc .neq 119 0) [119]]
def Ky:List RI:=[omk 121 7,omk 2 121]
def Kx:List RI:=[oo 122 (Bc .add 113 1) [113],omk 113 122]
def zl:RC:=(.post (So KC (Sq (Kc 114 (Kk [114] .skip) (Kk [111,112,113,114] (.exit 4))) (Sq (Bk 5 (So KB (So KA (So Kz (Kc 120 (Kk [111,112,113,120] (So Ky .ret)) (Kk [7,120] .skip)))))) (.ops Kx)))) [.gc [106]])
def tW:RC:=zl
def iU:List RI:=[on 2 (Mc 0)]
def r13:RC:=(So qM (Sq (Bk 0 (So XA (Kc 8 (Kk [1,8] (So qL .ret)) (Kk [8] (So Xz (Kc 13 (Kk [1,13] (So gO .ret)) (Kk [13] (So Xy (Kc 46 (Kk [1,46] (So oG .ret)) (Kk [46] .skip)))))))))) (Sq (So Xx (Bk 1 (.loop lT))) (Sq (So KD (Bk 4 (.loop tW))) (So iU .ret)))))
def F13:FnC:=⟨r13,123,[.tmp 2],[],[]⟩
def Xu:List RI:=[on 7 (Fa 0 1),oo 8 (Ld 7) [7],oo 9 (Ca 45 [.t 8]) [8],oo 10 (.un .not (.t 9)) [9]]
def Xt:List RI:=[on 11 (Fa 2 1),oo 12 (Ld 11) [11],oo 13 (Bc .lss 12 0) [12],omk 14 13,.grp 14 false [(xi 15 14 false (Fa 2 1)),(xi 16 14 false (Ld 15)),(xi 17 14 false (Fa 1 1)),(xi 18 14 false (Ld 17)),(xi 19 14 false (Bb .gtr 16 18))] [15,16,17,18],oo 20 (Pt 14 19) [14,19],omk 21 20,.grp 21 false [(xi 22 21 false (Fa 1 1)),(xi 23 21 false (Ld 22)),(xi 24 21 false (Bc .gtr 23 1000000))] [22,23],oo 25 (Pt 21 24) [21,24],omk 26 25,.grp 26 false [(xi 27 26 false (Fa 3 1)),(xi 28 26 false (Ld 27)),(xi 29 26 false (Bc .lss 28 0))] [27,28],oo 30 (Pt 26 29) [26,29],omk 31 30,.grp 31 false [(xi 32 31 false (Fa 3 1)),(xi 33 31 false (Ld 32)),(xi 34 31 false (Fa 4 1)),(xi 35 31 false (Ld 34)),(xi 36 31 false (Bb .geq 33 35))] [32,33,34,35],oo 37 (Pt 31 36) [31,36],omk 38 37,.grp 38 false [(xi 39 38 false (Fa 4 1)),(xi 40 38 false (Ld 39)),(xi 41 38 false (Bc .gtr 40 1099511627776))] [39,40],oo 42 (Pt 38 41) [38,41]]
def Xs:List RI:=[on 43 (Fa 5 1),oo 44 (Ld 43) [43],oo 45 (Ln 44) [44],oo 46 (Bc .gtr 45 16) [45],omk 47 46,.grp 47 false [(xi 48 47 false (Fa 6 1)),(xi 49 47 false (Ld 48)),(xi 50 47 false (Ln 49)),(xi 51 47 false (Bc .gtr 50 8))] [48,49,50],oo 52 (Pt 47 51) [47,51]]
def wC:List RI:=[on 3 (Mc 0)]
def Xr:List RI:=[om 53 3,on 54 (Fa 5 1),oo 55 (Ld 54) [54],oo 56 (Ln 55) [55],oo 57 (Bb .lss 53 56) [53,56]]
def Xq:List RI:=[on 60 (Fa 5 1),oo 61 (Ld 60) [60],om 62 3,oo 63 (Ia 4 61 62) [61,62],oo 64 (Lt 4 63) [63],on 4 (.new (.rc Zq0)),Sr 4 4 64 [64]]
def J6:List RI:=[on 65 (Fa 0 4),oo 66 (Ld 65) [65],oo 67 (Bc .lss 66 1) [66],omk 68 67,.grp 68 false [(xi 69 68 false (Fa 0 4)),(xi 70 68 false (Ld 69)),(xi 71 68 false (Bc .gtr 70 3))] [69,70],oo 72 (Pt 68 71) [68,71],omk 73 72,.grp 73 false [(xi 74 73 false (Fa 2 4)),(xi 75 73 false (Ld 74)),(xi 76 73 false (Bc .lss 75 0))] [74,75],oo 77 (Pt 73 76) [73,76],omk 78 77,.grp 78 false [(xi 79 78 false (Fa 2 4)),(xi 80 78 false (Ld 79)),(xi 81 78 false (Bc .gtr 80 1000000))] [79,80],oo 82 (Pt 78 81) [78,81],omk 83 82,.grp 83 false [(xi 84 83 false (Fa 3 4)),(xi 85 83 false (Ld 84)),(xi 86 83 false (Ln 85)),(xi 87 83 false (Bc .neq 86 32))] [84,85,86],oo 88 (Pt 83 87) [83,87]]
def J5:List RI:=[on 89 (Fa 1 4),oo 90 (Ld 89) [89],oo 91 (Ca 45 [.t 90]) [90],oo 92 (.un .not (.t 91)) [91]]
def J4:List FI:=[Fm 0 93 3,Fs 1 94 (Bc .gtr 93 0),Fm 2 95 94,Fi 3 96 95 true (Fa 5 1),Fi 4 97 95 true (Ld 96),Fi 5 98 95 true (Mv 3),Fi 6 99 95 true (Bc .sub 98 1),Fi 7 100 95 true (Ia 4 97 99),Fi 8 101 95 true (Lt 4 100),Fi 9 102 95 true (Lt 4 4),Fy 10 103 95 true (Ca 46 [.t 101,.t 102]),Fi 11 104 95 true (.un .not (.t 103)),Fs 12 105 (Pf 95 104)]
def J3:List RI:=[omk 58 3,oo 59 (Bc .add 58 1) [58],omk 3 59]
def zi:RC:=(.post (Sq (So Xr (Kc 57 (Kk [57] .skip) (Kk [3,57] (.exit 0)))) (Sq (Bk 1 (So Xq (Sq (So J6 (Kc 88 (Kk [1,3,4,88] (So gO .ret)) (Kk [88] .skip))) (Sq (So J5 (Kc 92 (Kk [1,3,4,92] (So qL .ret)) (Kk [92] .skip))) (Sq (.flt [0,1,3,7,15,7,39,127,255,7,1023,2047,4095] [] J4 [4,93,94,95,96,97,98,99,100,101,102,103,104]) (Kc 105 (Kk [1,3,105] (So yf .ret)) (Kk [105] .skip))))))) (.ops J3))) [.gc [104]])
def lS:RC:=zi
def lR:List RI:=[on 5 (Mc 0)]
def J2:List RI:=[om 106 5,on 107 (Fa 6 1),oo 108 (Ld 107) [107],oo 109 (Ln 108) [108],oo 110 (Bb .lss 106 109) [106,109]]
def J1:List RI:=[on 113 (Fa 6 1),oo 114 (Ld 113) [113],om 115 5,oo 116 (Ia 4 114 115) [114,115],oo 117 (Lt 4 116) [116],oo 118 (Ca 47 [.t 117]) [117],omk 6 118]
def J0:List RI:=[om 119 6,oo 120 (Bc .neq 119 0) [119]]
def JZ:List RI:=[omk 121 6,omk 2 121]
def JY:List RI:=[omk 111 5,oo 112 (Bc .add 111 1) [111],omk 5 112]
def zh:RC:=(Sq (So J2 (Kc 110 (Kk [110] .skip) (Kk [1,5,110] (.exit 2)))) (Sq (Bk 3 (So J1 (So J0 (Kc 120 (Kk [1,5,120] (So JZ .ret)) (Kk [6,120] .skip))))) (.ops JY)))
def tV:RC:=zh
def r14:RC:=(So qM (Sq (So Xu (Kc 10 (Kk [1,10] (So qL .ret)) (Kk [10] .skip))) (Sq (So Xt (Kc 42 (Kk [1,42] (So gO .ret)) (Kk [42] .skip))) (Sq (So Xs (Kc 52 (Kk [1,52] (So oG .ret)) (Kk [52] .skip))) (Sq (So wC (Bk 0 (.loop lS))) (Sq (So lR (Bk 2 (.loop tV))) (So iU .ret)))))))
def F14:FnC:=⟨r14,122,[.tmp 2],[],[]⟩
def oE:List RI:=[oo 4 (Mc 0) [4]]
def Xp:List RI:=[om 6 1,oo 7 (Bc .lss 6 1) [6]]
def Xo:List RI:=[omk 8 0,om 9 1,oo 10 (Bb .rem 8 9) [8,9],omk 5 10]
def Xn:List RI:=[om 11 5,oo 12 (Bc .lss 11 0) [11]]
def Xm:List RI:=[omk 13 5,omk 14 1,oo 15 (Bb .add 13 14) [13,14],omk 5 15]
def Xl:List RI:=[omk 16 5,omk 4 16]
def r15:RC:=(So oE (Sq (So Xp (Kc 7 (Kk [0,1,7] (So kK .ret)) (Kk [7] .skip))) (So Xo (Sq (So Xn (Kc 12 (Kk [12] (.ops Xm)) (Kk [1,12] .skip))) (So Xl .ret)))))
def F15:FnC:=⟨r15,17,[.tmp 4],[],[]⟩
def qK:List RI:=[oo 1 (.box (.t 0)) [0],oo 2 (.mov (.c (.byt [] .clip))) [2]]
def Xk:List RI:=[on 8 (Lt 7 1),oo 9 (Ca 13 [.t 8]) [8],oo 10 (Bc .neq 9 0) [9]]
def qJ:List RI:=[on 2 (.mov (.c (.byt [] .clip)))]
def Xj:List RI:=[on 11 (Ca 48 [(.c (.byt [] .clip)),ci 1,ci 21]),omk 3 11]
def Xi:List RI:=[omk 12 3,on 13 (Fa 0 1),oo 14 (Ld 13) [13],oo 15 (.s2b (.t 14)) [14],oo 16 (Ca 49 [.t 12,.t 15]) [12,15],omk 3 16]
def Xh:List FI:=[Fm 0 17 3,Fs 1 18 (Fa 1 1),Fs 2 19 (Ld 18),Fs 4 21 (Fa 2 1),Fs 5 22 (Ld 21),Fz 3 20 (Ca 48 [.t 17,ci 4,.t 19]),Fz 6 23 (Ca 48 [.t 20,ci 4,.t 22]),⟨7,false,(xm 3 23)⟩]
def Xg:List FI:=[Fm 0 24 3,Fs 1 25 (Fa 3 1),Fs 2 26 (Ld 25),Fs 4 28 (Fa 4 1),Fs 5 29 (Ld 28),Fz 3 27 (Ca 48 [.t 24,ci 6,.t 26]),Fz 6 30 (Ca 48 [.t 27,ci 6,.t 29]),⟨7,false,(xm 3 30)⟩]
def Xf:List RI:=[omk 31 3,on 32 (Fa 5 1),oo 33 (Ld 32) [32],oo 34 (Ln 33) [33],oo 35 (Ca 48 [.t 31,ci 1,.t 34]) [31,34],omk 3 35]
def Xe:List RI:=[on 36 (Fa 5 1),oo 37 (Ld 36) [36],on 38 (Ln 37),on 39 (Mc 0)]
def Xd:List RI:=[on 40 (Bb .lss 39 38)]
def Jw:List RI:=[on 41 (Ia 4 37 39),oo 42 (Lt 4 41) [41],on 5 (.new (.rc Zq0)),Sr 4 5 42 [42]]
def Jv:List FI:=[Fm 0 43 3,Fs 1 44 (Fa 0 5),Fs 2 45 (Ld 44),Fs 4 47 (Fa 1 5),Fs 5 48 (Ld 47),Fs 6 49 (.s2b (.t 48)),Fz 3 46 (Ca 48 [.t 43,ci 1,.t 45]),Fz 7 50 (Ca 49 [.t 46,.t 49]),⟨8,false,(xm 3 50)⟩]
def Ju:List FI:=[Fm 0 51 3,Fs 1 52 (Fa 2 5),Fs 2 53 (Ld 52),Fs 4 55 (Fa 3 5),Fs 5 56 (Ld 55),Fz 3 54 (Ca 48 [.t 51,ci 4,.t 53]),Fz 6 57 (.app [.u8 0] 1 (.t 54) (.t 56)),⟨7,false,(xm 3 57)⟩]
def Jt:List RI:=[oo 58 (Bc .add 39 1) [39],omk 39 58]
def ze:RC:=(.post (So Xd (Sq (Kc 40 (Kk [40] .skip) (Kk [37,38,39,40] (.exit 0))) (Sq (Bk 1 (So Jw (Sq (.flt [0,0,2,7,0,16,48,127,255] [] Jv [43,44,45,46,47,48,49,50]) (.flt [0,0,2,7,0,16,63,127] [157] Ju [5,51,52,53,54,55,56,57])))) (.ops Jt)))) [.gc [105],.gcr 47000 48000,.gcr 55000 56000,.tok 3 103])
def ql:RC:=ze
def Js:List RI:=[omk 59 3,on 60 (Fa 6 1),oo 61 (Ld 60) [60],oo 62 (Ln 61) [61],oo 63 (Ca 48 [.t 59,ci 1,.t 62]) [59,62],omk 3 63]
def Jr:List RI:=[oo 64 (Fa 6 1) [1],oo 65 (Ld 64) [64],on 66 (Ln 65),on 67 (Mc 0)]
def Jq:List RI:=[on 68 (Bb .lss 67 66)]
def Jp:List RI:=[on 69 (Ia 4 65 67),oo 70 (Lt 4 69) [69],on 7 (.new (.rc Zq2)),Sr 4 7 70 [70]]
def Jo:List FI:=[Fm 0 71 3,Fs 1 72 (Fa 0 7),Fs 2 73 (Ld 72),Fs 4 75 (Fa 1 7),Fs 5 76 (Ld 75),Fs 6 77 (.s2b (.t 76)),Fz 3 74 (Ca 48 [.t 71,ci 1,.t 73]),Fz 7 78 (Ca 49 [.t 74,.t 77]),⟨8,false,(xm 3 78)⟩]
def Jn:List FI:=[Fm 0 79 3,Fs 1 80 (Fa 2 7),Fs 2 81 (Ld 80),Fs 4 83 (Fa 3 7),Fs 5 84 (Ld 83),Fz 3 82 (Ca 48 [.t 79,ci 4,.t 81]),Fz 6 85 (Ca 48 [.t 82,ci 4,.t 84]),⟨7,false,(xm 3 85)⟩]
def Jm:List RI:=[oo 86 (Bc .add 67 1) [67],omk 67 86]
def zd:RC:=(.post (So Jq (Sq (Kc 68 (Kk [68] .skip) (Kk [65,66,67,68] (.exit 2))) (Sq (Bk 3 (So Jp (Sq (.flt [0,0,2,7,0,16,48,127,255] [] Jo [71,72,73,74,75,76,77,78]) (.flt [0,0,2,7,0,16,63,127] [] Jn [7,79,80,81,82,83,84,85])))) (.ops Jm)))) [.gc [107],.gcr 75000 76000,.gcr 83000 84000])
def qk:RC:=zd
def Jl:List RI:=[omk 87 3,omk 2 87]
def r16:RC:=(So qK (Sq (So Xk (Kc 10 (Kk [1,10] (So qJ .ret)) (Kk [10] .skip))) (So Xj (So Xi (Sq (.flt [0,0,2,7,0,16,63,127] [] Xh [17,18,19,20,21,22,23]) (Sq (.flt [0,0,2,7,0,16,63,127] [] Xg [24,25,26,27,28,29,30]) (So Xf (Sq (So Xe (Bk 0 (.pre [.tok 3 103] (.loop ql)))) (So Js (Sq (So Jr (Bk 2 (.loop qk))) (So Jl .ret)))))))))))
def F16:FnC:=⟨r16,88,[.tmp 2],[],[]⟩
def Xc:List RI:=[on 2 (.new (.rc Zq1)),oo 3 (Mc 0) [3]]
def Xb:List RI:=[omk 10 0,oo 11 (Ca 50 [.t 10]) [10],omk 4 11]
def Xa:List RI:=[on 5 (.new (.rc Zq1))]
def W9:List RI:=[om 12 4,oo 13 (Ca 51 [.t 12,ci 1]) [12],oo 14 (Bc .neq 13 21) [13]]
def W8:List RI:=[on 15 (.build Zq1 []),Sr 7 2 15 [15],on 3 (Mc 30)]
def W7:List RI:=[om 16 4,oo 17 (Ca 52 [.t 16,ci 12]) [16],oo 18 (.b2s (.t 17)) [17],on 19 (Fa 0 5),Sr 1 19 18 [18,19]]
def W6:List RI:=[om 20 4,oo 21 (Ca 51 [.t 20,ci 4]) [20],on 22 (Fa 1 5),Sr 1 22 21 [21,22]]
def W5:List RI:=[om 23 4,oo 24 (Ca 51 [.t 23,ci 4]) [23],on 25 (Fa 2 5),Sr 1 25 24 [24,25]]
def W4:List RI:=[om 26 4,oo 27 (Ca 51 [.t 26,ci 6]) [26],on 28 (Fa 3 5),Sr 1 28 27 [27,28]]
def W3:List RI:=[om 29 4,oo 30 (Ca 51 [.t 29,ci 6]) [29],on 31 (Fa 4 5),Sr 1 31 30 [30,31]]
def I5:List RI:=[om 32 4,oo 33 (Ca 51 [.t 32,ci 1]) [32],omk 6 33]
def I4:List RI:=[om 34 6,oo 35 (Bc .gtr 34 0) [34],omk 36 35,.grp 36 true [(xi 37 36 true (Mv 4)),(xi 38 36 true (Ca 53 [.t 37])),(xi 39 36 true (Bc .eql 38 0))] [37,38],oo 40 (Pf 36 39) [36,39]]
def I3:List RI:=[on 7 (.new (.rc Zq0))]
def I2:List RI:=[om 43 4,oo 44 (Ca 51 [.t 43,ci 1]) [43],on 45 (Fa 0 7),Sr 1 45 44 [44,45]]
def I1:List RI:=[om 46 4,oo 47 (Ca 52 [.t 46,ci 12]) [46],oo 48 (.b2s (.t 47)) [47],on 49 (Fa 1 7),Sr 1 49 48 [48,49]]
def I0:List RI:=[om 50 4,oo 51 (Ca 51 [.t 50,ci 4]) [50],on 52 (Fa 2 7),Sr 1 52 51 [51,52]]
def IZ:List RI:=[om 53 4,oo 54 (Ca 54 [.t 53,ci 32]) [53],on 55 (Fa 3 7),Sr 1 55 54 [54,55]]
def IY:List RI:=[on 56 (Fa 5 5),oo 57 (Ld 56) [56],oo 58 (Lt 4 7) [7],oo 59 (.lit 4 [.t 58]) [58],oo 60 (.app Zq0 56 (.t 57) (.t 59)) [57,59],on 61 (Fa 5 5),Sr 1 61 60 [60,61]]
def IX:List RI:=[omk 41 6,oo 42 (Bc .sub 41 1) [41],omk 6 42]
def zb:RC:=(.post (Sq (So I4 (Kc 40 (Kk [40] .skip) (Kk [6,40] (.exit 0)))) (Sq (Bk 1 (So I3 (So I2 (So I1 (So I0 (So IZ (.ops IY))))))) (.ops IX))) [.gc [107]])
def x9:RC:=zb
def qj:List RI:=[om 62 4,oo 63 (Ca 51 [.t 62,ci 1]) [62],omk 8 63]
def IW:List RI:=[om 64 8,oo 65 (Bc .gtr 64 0) [64],omk 66 65,.grp 66 true [(xi 67 66 true (Mv 4)),(xi 68 66 true (Ca 53 [.t 67])),(xi 69 66 true (Bc .eql 68 0))] [67,68],oo 70 (Pf 66 69) [66,69]]
def IV:List RI:=[on 9 (.new (.rc Zq2))]
def IU:List RI:=[om 73 4,oo 74 (Ca 51 [.t 73,ci 1]) [73],on 75 (Fa 0 9),Sr 1 75 74 [74,75]]
def IT:List RI:=[om 76 4,oo 77 (Ca 52 [.t 76,ci 32]) [76],oo 78 (.b2s (.t 77)) [77],on 79 (Fa 1 9),Sr 1 79 78 [78,79]]
def IS:List RI:=[om 80 4,oo 81 (Ca 51 [.t 80,ci 4]) [80],on 82 (Fa 2 9),Sr 1 82 81 [81,82]]
def IR:List RI:=[om 83 4,oo 84 (Ca 51 [.t 83,ci 4]) [83],on 85 (Fa 3 9),Sr 1 85 84 [84,85]]
def IQ:List RI:=[on 86 (Fa 6 5),oo 87 (Ld 86) [86],oo 88 (Lt 4 9) [9],oo 89 (.lit 4 [.t 88]) [88],oo 90 (.app Zq2 40 (.t 87) (.t 89)) [87,89],on 91 (Fa 6 5),Sr 1 91 90 [90,91]]
def IP:List RI:=[omk 71 8,oo 72 (Bc .sub 71 1) [71],omk 8 72]
def za:RC:=(.post (Sq (So IW (Kc 70 (Kk [70] .skip) (Kk [8,70] (.exit 2)))) (Sq (Bk 3 (So IV (So IU (So IT (So IS (So IR (.ops IQ))))))) (.ops IP))) [.gc [109]])
def x8:RC:=za
def qh:List RI:=[omk 92 4,oo 93 (Ca 55 [.t 92]) [92],oo 94 (Bc .neq 93 0) [93],omk 95 94,.grp 95 false [(xi 96 95 false (Lt 7 5)),(xi 97 95 false (Ca 13 [.t 96])),(xi 98 95 false (Bc .neq 97 0))] [96,97],oo 99 (Pt 95 98) [95,98]]
def IN:List RI:=[on 100 (.build Zq1 []),Sr 7 2 100 [100],on 3 (Mc 30)]
def IM:List RI:=[oo 101 (Lt 7 5) [5],Sr 7 2 101 [101],on 3 (Mc 0)]
def r17:RC:=(So Xc (So Xb (So Xa (Sq (So W9 (Kc 14 (Kk [4,5,14] (So W8 .ret)) (Kk [14] .skip))) (So W7 (So W6 (So W5 (So W4 (So W3 (Sq (So I5 (Bk 0 (.loop x9))) (Sq (So qj (Bk 2 (.loop x8))) (Sq (So qh (Kc 99 (Kk [5,99] (So IN .ret)) (Kk [99] .skip))) (So IM .ret)))))))))))))
def F17:FnC:=⟨r17,102,[.cell 2 7 true,.tmp 3],[],[]⟩
def D1:List RI:=[oo 2 (.box (.t 0)) [0],oo 3 (.box (.t 1)) [1],oo 4 (Mb false) [4]]
def W2:List RI:=[on 9 (Fa 0 2),oo 10 (Ld 9) [9],on 11 (Fa 0 3),oo 12 (Ld 11) [11],oo 13 (Bb .neq 10 12) [10,12],omk 14 13,.grp 14 false [(xi 15 14 false (Fa 1 2)),(xi 16 14 false (Ld 15)),(xi 17 14 false (Fa 1 3)),(xi 18 14 false (Ld 17)),(xi 19 14 false (Bb .neq 16 18))] [15,16,17,18],oo 20 (Pt 14 19) [14,19],omk 21 20,.grp 21 false [(xi 22 21 false (Fa 2 2)),(xi 23 21 false (Ld 22)),(xi 24 21 false (Fa 2 3)),(xi 25 21 false (Ld 24)),(xi 26 21 false (Bb .neq 23 25))] [22,23,24,25],oo 27 (Pt 21 26) [21,26],omk 28 27,.grp 28 false [(xi 29 28 false (Fa 3 2)),(xi 30 28 false (Ld 29)),(xi 31 28 false (Fa 3 3)),(xi 32 28 false (Ld 31)),(xi 33 28 false (Bb .neq 30 32))] [29,30,31,32],oo 34 (Pt 28 33) [28,33],omk 35 34,.grp 35 false [(xi 36 35 false (Fa 4 2)),(xi 37 35 false (Ld 36)),(xi 38 35 false (Fa 4 3)),(xi 39 35 false (Ld 38)),(xi 40 35 false (Bb .neq 37 39))] [36,37,38,39],oo 41 (Pt 35 40) [35,40],omk 42 41,.grp 42 false [(xi 43 42 false (Fa 5 2)),(xi 44 42 false (Ld 43)),(xi 45 42 false (Ln 44)),(xi 46 42 false (Fa 5 3)),(xi 47 42 false (Ld 46)),(xi 48 42 false (Ln 47)),(xi 49 42 false (Bb .neq 45 48))] [43,44,45,46,47,48],oo 50 (Pt 42 49) [42,49],omk 51 50,.grp 51 false [(xi 52 51 false (Fa 6 2)),(xi 53 51 false (Ld 52)),(xi 54 51 false (Ln 53)),(xi 55 51 false (Fa 6 3)),(xi 56 51 false (Ld 55)),(xi 57 51 false (Ln 56)),(xi 58 51 false (Bb .neq 54 57))] [52,53,54,55,56,57],oo 59 (Pt 51 58) [51,58]]
def oD:List RI:=[on 4 (Mb false)]
def W1:List RI:=[om 60 5,on 61 (Fa 5 2),oo 62 (Ld 61) [61],oo 63 (Ln 62) [62],oo 64 (Bb .lss 60 63) [60,63]]
def W0:List FI:=[Fs 0 67 (Fa 5 2),Fs 1 68 (Ld 67),Fm 2 69 5,Fs 3 70 (Ia 4 68 69),Fs 4 71 (Lt 4 70),Fs 5 72 (Fa 5 3),Fs 6 73 (Ld 72),Fm 7 74 5,Fs 8 75 (Ia 4 73 74),Fs 9 76 (Lt 4 75),Fz 10 6 (.new (.rc Zq0)),Fz 11 7 (.new (.rc Zq0)),Fr 12 4 6 71,Fr 13 4 7 76]
def WZ:List RI:=[on 77 (Fa 0 6),oo 78 (Ld 77) [77],on 79 (Fa 0 7),oo 80 (Ld 79) [79],oo 81 (Bb .neq 78 80) [78,80],omk 82 81,.grp 82 false [(xi 83 82 false (Fa 1 6)),(xi 84 82 false (Ld 83)),(xi 85 82 false (Fa 1 7)),(xi 86 82 false (Ld 85)),(xi 87 82 false (Bb .neq 84 86))] [83,84,85,86],oo 88 (Pt 82 87) [82,87],omk 89 88,.grp 89 false [(xi 90 89 false (Fa 2 6)),(xi 91 89 false (Ld 90)),(xi 92 89 false (Fa 2 7)),(xi 93 89 false (Ld 92)),(xi 94 89 false (Bb .neq 91 93))] [90,91,92,93],oo 95 (Pt 89 94) [89,94],omk 96 95,.grp 96 false [(xi 97 96 false (Fa 3 6)),(xi 98 96 false (Ld 97)),(xi 99 96 false (Fa 3 7)),(xi 100 96 false (Ld 99)),(xi 101 96 false (Ca 19 [.t 98,.t 100])),(xi 102 96 false (.un .not (.t 101)))] [6,7,97,98,99,100,101],oo 103 (Pt 96 102) [96,102]]
def WY:List RI:=[omk 65 5,oo 66 (Bc .add 65 1) [65],omk 5 66]
def OT:RC:=(.post (Sq (So W1 (Kc 64 (Kk [64] .skip) (Kk [5,64] (.exit 0)))) (Sq (Bk 1 (Sq (.fla [0,1,0,7,15,0,32,0,224,480,0,0,3103,8191] [106,107] W0 [[0,1,2,3,4,5,6,7,8,9,10,11,12,13],[0,1,2,3,4,5,6,7,8,9,11,10,12,13]] [67,68,69,70,71,72,73,74,75,76]) (So WZ (Kc 103 (Kk [2,3,5,103] (So oD .ret)) (Kk [103] .skip))))) (.ops WY))) [.gc [106,107]])
def D0:RC:=OT
def tU:List RI:=[on 8 (Mc 0)]
def IK:List RI:=[om 104 8,on 105 (Fa 6 2),oo 106 (Ld 105) [105],oo 107 (Ln 106) [106],oo 108 (Bb .lss 104 107) [104,107]]
def IJ:List FI:=[Fs 0 111 (Fa 6 2),Fs 1 112 (Ld 111),Fm 2 113 8,Fs 3 114 (Ia 4 112 113),Fs 4 115 (Lt 4 114),Fs 5 116 (Fa 6 3),Fs 6 117 (Ld 116),Fm 7 118 8,Fs 8 119 (Ia 4 117 118),Fs 9 120 (Lt 4 119),Fs 10 121 (.eqS true [1,2,1,1] (.t 115) (.t 120))]
def II:List RI:=[omk 109 8,oo 110 (Bc .add 109 1) [109],omk 8 110]
def y9:RC:=(Sq (So IK (Kc 108 (Kk [108] .skip) (Kk [2,3,8,108] (.exit 2)))) (Sq (Bk 3 (Sq (.flt [0,1,0,7,15,0,32,0,224,480,1023] [] IJ [111,112,113,114,115,116,117,118,119,120]) (Kc 121 (Kk [2,3,8,121] (So oD .ret)) (Kk [121] .skip)))) (.ops II)))
def tT:RC:=y9
def tR:List RI:=[on 4 (Mb true)]
def r18:RC:=(So D1 (Sq (So W2 (Kc 59 (Kk [2,3,59] (So oD .ret)) (Kk [59] .skip))) (Sq (So lR (Bk 0 (.loop D0))) (Sq (So tU (Bk 2 (.loop tT))) (So tR .ret)))))
def F18:FnC:=⟨r18,122,[.tmp 4],[],[]⟩
def qI:List RI:=[oo 4 (Mb false) [4]]
def WX:List RI:=[om 6 0,oo 7 (Ln 6) [6],om 8 1,oo 9 (Ln 8) [8],oo 10 (Bb .neq 7 9) [7,9]]
def WW:List RI:=[om 11 5,om 12 0,oo 13 (Ln 12) [12],oo 14 (Bb .lss 11 13) [11,13]]
def WV:List FI:=[Fm 0 17 0,Fm 1 18 5,Fs 2 19 (Ia 1 17 18),Fs 3 20 (Ld 19),Fm 4 21 1,Fm 5 22 5,Fs 6 23 (Ia 1 21 22),Fs 7 24 (Ld 23),Fs 8 25 (Bb .neq 20 24)]
def WU:List RI:=[omk 15 5,oo 16 (Bc .add 15 1) [15],omk 5 16]
def OS:RC:=(Sq (So WW (Kc 14 (Kk [14] .skip) (Kk [0,1,5,14] (.exit 0)))) (Sq (Bk 1 (Sq (.flt [0,0,3,7,0,0,48,112,255] [] WV [17,18,19,20,21,22,23,24]) (Kc 25 (Kk [0,1,5,25] (So oD .ret)) (Kk [25] .skip)))) (.ops WU)))
def Ov:RC:=OS
def r19:RC:=(So qI (Sq (So WX (Kc 10 (Kk [0,1,10] (So oD .ret)) (Kk [10] .skip))) (Sq (So lR (Bk 0 (.loop Ov))) (So tR .ret))))
def F19:FnC:=⟨r19,26,[.tmp 4],[],[]⟩
def WT:List RI:=[on 8 (Lt 7 1),oo 9 (Ca 14 [.t 8]) [8],oo 10 (Bc .neq 9 0) [9]]
def WS:List RI:=[on 11 (.litB [(.c (.u8 21))]),on 12 (Fa 0 1),oo 13 (Ld 12) [12],oo 14 (.s2b (.t 13)) [13],oo 15 (Ca 56 [.t 11,.t 14]) [11,14],omk 3 15]
def WR:List RI:=[omk 16 3,on 17 (Fa 1 1),oo 18 (Ld 17) [17],oo 19 (Ca 57 [.t 16,ci 4,.t 18]) [16,18],omk 3 19]
def WQ:List RI:=[omk 20 3,on 21 (Fa 2 1),oo 22 (Ld 21) [21],oo 23 (Ca 57 [.t 20,ci 4,.t 22]) [20,22],omk 3 23]
def WP:List RI:=[omk 24 3,on 25 (Fa 3 1),oo 26 (Ld 25) [25],oo 27 (Ca 57 [.t 24,ci 6,.t 26]) [24,26],omk 3 27]
def WO:List RI:=[omk 28 3,on 29 (Fa 4 1),oo 30 (Ld 29) [29],oo 31 (Ca 57 [.t 28,ci 6,.t 30]) [28,30],omk 3 31]
def WN:List RI:=[omk 32 3,on 33 (Fa 5 1),oo 34 (Ld 33) [33],oo 35 (Ln 34) [34],oo 36 (.toInt .u8 (.t 35)) [35],oo 37 (.litB [.t 36]) [36],oo 38 (.app [.u8 0] 1 (.t 32) (.t 37)) [32,37],omk 3 38]
def IH:List RI:=[om 39 4,on 40 (Fa 5 1),oo 41 (Ld 40) [40],oo 42 (Ln 41) [41],oo 43 (Bb .lss 39 42) [39,42]]
def IG:List RI:=[on 46 (Fa 5 1),oo 47 (Ld 46) [46],om 48 4,oo 49 (Ia 4 47 48) [47,48],oo 50 (Lt 4 49) [49],on 5 (.new (.rc Zq0)),Sr 4 5 50 [50]]
def IF:List FI:=[Fm 0 51 3,Fs 1 52 (Fa 0 5),Fs 2 53 (Ld 52),Fs 3 54 (.toInt .u8 (.t 53)),Fs 4 55 (.litB [.t 54]),Fs 6 57 (Fa 1 5),Fs 7 58 (Ld 57),Fs 8 59 (.s2b (.t 58)),Fz 5 56 (.app [.u8 0] 1 (.t 51) (.t 55)),Fz 9 60 (Ca 56 [.t 56,.t 59]),⟨10,false,(xm 3 60)⟩]
def IE:List FI:=[Fm 0 61 3,Fs 1 62 (Fa 2 5),Fs 2 63 (Ld 62),Fs 4 65 (Fa 3 5),Fs 5 66 (Ld 65),Fz 3 64 (Ca 57 [.t 61,ci 4,.t 63]),Fz 6 67 (.app [.u8 0] 1 (.t 64) (.t 66)),⟨7,false,(xm 3 67)⟩]
def ID:List RI:=[omk 44 4,oo 45 (Bc .add 44 1) [44],omk 4 45]
def y8:RC:=(.post (Sq (So IH (Kc 43 (Kk [43] .skip) (Kk [4,43] (.exit 0)))) (Sq (Bk 1 (So IG (Sq (.flt [0,0,2,6,14,31,0,64,192,511,1023] [156] IF [51,52,53,54,55,56,57,58,59,60]) (.flt [0,0,2,7,0,16,63,127] [167] IE [5,61,62,63,64,65,66,67])))) (.ops ID))) [.gc [105,156],.gcr 65000 66000,.tok 3 103])
def qf:RC:=y8
def IC:List RI:=[omk 68 3,on 69 (Fa 6 1),oo 70 (Ld 69) [69],oo 71 (Ln 70) [70],oo 72 (.toInt .u8 (.t 71)) [71],oo 73 (.litB [.t 72]) [72],oo 74 (.app [.u8 0] 1 (.t 68) (.t 73)) [68,73],omk 3 74]
def IB:List RI:=[om 75 6,on 76 (Fa 6 1),oo 77 (Ld 76) [76],oo 78 (Ln 77) [77],oo 79 (Bb .lss 75 78) [75,78]]
def IA:List RI:=[on 82 (Fa 6 1),oo 83 (Ld 82) [82],om 84 6,oo 85 (Ia 4 83 84) [83,84],oo 86 (Lt 4 85) [85],on 7 (.new (.rc Zq2)),Sr 4 7 86 [86]]
def Iz:List FI:=[Fm 0 87 3,Fs 1 88 (Fa 0 7),Fs 2 89 (Ld 88),Fs 3 90 (.toInt .u8 (.t 89)),Fs 4 91 (.litB [.t 90]),Fs 6 93 (Fa 1 7),Fs 7 94 (Ld 93),Fs 8 95 (.s2b (.t 94)),Fz 5 92 (.app [.u8 0] 1 (.t 87) (.t 91)),Fz 9 96 (Ca 56 [.t 92,.t 95]),⟨10,false,(xm 3 96)⟩]
def Iy:List FI:=[Fm 0 97 3,Fs 1 98 (Fa 2 7),Fs 2 99 (Ld 98),Fs 4 101 (Fa 3 7),Fs 5 102 (Ld 101),Fz 3 100 (Ca 57 [.t 97,ci 4,.t 99]),Fz 6 103 (Ca 57 [.t 100,ci 4,.t 102]),⟨7,false,(xm 3 103)⟩]
def Ix:List RI:=[omk 80 6,oo 81 (Bc .add 80 1) [80],omk 6 81]
def y7:RC:=(.post (Sq (So IB (Kc 79 (Kk [79] .skip) (Kk [1,6,79] (.exit 2)))) (Sq (Bk 3 (So IA (Sq (.flt [0,0,2,6,14,31,0,64,192,511,1023] [192] Iz [87,88,89,90,91,92,93,94,95,96]) (.flt [0,0,2,7,0,16,63,127] [] Iy [7,97,98,99,100,101,102,103])))) (.ops Ix))) [.gc [107,192],.gcr 101000 102000,.tok 3 103])
def qe:RC:=y7
def Iw:List RI:=[omk 104 3,omk 2 104]
def r20:RC:=(So qK (Sq (So WT (Kc 10 (Kk [1,10] (So qJ .ret)) (Kk [10] .skip))) (So WS (So WR (So WQ (So WP (So WO (So WN (Sq (So kK (Bk 0 (.pre [.tok 3 103] (.loop qf)))) (So IC (Sq (So lU (Bk 2 (.pre [.tok 3 103] (.loop qe)))) (So Iw .ret))))))))))))
def F20:FnC:=⟨r20,105,[.tmp 2],[],[]⟩
def WM:List RI:=[oo 4 (Lt 7 1) [1],oo 5 (Ca 16 [.t 4]) [4],omk 3 5]
def Ou:List RI:=[om 6 3,oo 7 (Ln 6) [6],oo 8 (Bc .eql 7 0) [7]]
def WL:List RI:=[omk 9 3,oo 10 (.lit 1 [.t 9]) [9],oo 11 (Ca 58 [ci 21,.t 10]) [10],omk 2 11]
def r21:RC:=(So qK (So WM (Sq (So Ou (Kc 8 (Kk [3,8] (So qJ .ret)) (Kk [8] .skip))) (So WL .ret))))
def F21:FnC:=⟨r21,12,[.tmp 2],[],[]⟩
def WK:List RI:=[oo 4 (Lt 7 1) [1],oo 5 (Ca 20 [.t 4]) [4],omk 3 5]
def WJ:List RI:=[omk 9 3,oo 10 (.lit 1 [.t 9]) [9],oo 11 (Ca 59 [ci 21,.t 10]) [10],omk 2 11]
def r22:RC:=(So qK (So WK (Sq (So Ou (Kc 8 (Kk [3,8] (So qJ .ret)) (Kk [8] .skip))) (So WJ .ret))))
def F22:FnC:=⟨r22,12,[.tmp 2],[],[]⟩
def jH:List RI:=[oo 4 (.mov (.c (.byt [] .clip))) [4]]
def Ot:List RI:=[om 5 0,oo 6 (Ln 5) [5],om 7 1,oo 8 (Bb .gtr 6 7) [6,7]]
def WI:List RI:=[omk 9 0,omk 10 1,oo 11 (.slcL 1 (.t 9) none (some (.t 10)) none) [9,10],omk 4 11]
def WH:List RI:=[omk 12 0,omk 4 12]
def r23:RC:=(So jH (Sq (So Ot (Kc 8 (Kk [8] (So WI .ret)) (Kk [1,8] .skip))) (So WH .ret)))
def F23:FnC:=⟨r23,13,[.tmp 4],[],[]⟩
def WG:List RI:=[oo 2 (.mov (.c (.lst 4 [] .clip))) [2]]
def WF:List RI:=[omk 10 0,oo 11 (Ca 29 [.t 10,ci 200]) [10],omk 3 11]
def WE:List RI:=[on 4 (.mov (.c (.lst 4 [] .clip)))]
def Oq:List RI:=[on 5 (Mc 1)]
def WD:List RI:=[om 12 5,oo 13 (Bc .leq 12 4) [12]]
def WC:List RI:=[om 16 3,oo 17 (Ca 71 [.t 16,ci 3]) [16],omk 6 17]
def WB:List RI:=[om 18 5,oo 19 (Bc .eql 18 1) [18],omk 20 19,.grp 20 false [(xi 21 20 false (Mv 5)),(xi 22 20 false (Bc .eql 21 3))] [21],oo 23 (Pt 20 22) [20,22]]
def WA:List RI:=[om 24 3,oo 25 (Ca 71 [.t 24,ci 2]) [24],oo 26 (.bin .add (ci 1) (.t 25)) [25],omk 6 26]
def Wz:List RI:=[om 27 6,oo 28 (Bc .gtr 27 0) [27]]
def Wy:List RI:=[om 31 3,om 32 5,oo 33 (Ca 72 [.t 31,.t 32]) [31,32],on 7 (.new (.rc Zq0)),Sr 4 7 33 [33]]
def Iv:List RI:=[on 8 (Mb false)]
def Iu:List RI:=[on 9 (Mc 0)]
def It:List RI:=[om 34 9,om 35 4,oo 36 (Ln 35) [35],oo 37 (Bb .lss 34 36) [34,36]]
def Is:List FI:=[Fm 0 40 8,Fm 1 41 40,Fi 2 42 41 false (Mv 4),Fi 3 43 41 false (Mv 9),Fi 4 44 41 false (Ia 4 42 43),Fi 5 45 41 false (Fa 0 44),Fi 6 46 41 false (Ld 45),Fi 7 47 41 false (Fa 0 7),Fi 8 48 41 false (Ld 47),Fi 9 49 41 false (Bb .eql 46 48),Fi 10 50 41 false (Mv 49),Fi 11 51 50 true (Mv 4),Fi 12 52 50 true (Mv 9),Fi 13 53 50 true (Ia 4 51 52),Fi 14 54 50 true (Fa 1 53),Fi 15 55 50 true (Ld 54),Fi 16 56 50 true (Fa 1 7),Fi 17 57 50 true (Ld 56),Fi 18 58 50 true (Bb .eql 55 57),Fi 19 59 41 false (Pf 50 58),Fs 20 60 (Pt 41 59),⟨21,false,(xm 8 60)⟩]
def Ir:List RI:=[omk 38 9,oo 39 (Bc .add 38 1) [38],omk 9 39]
def yZ:RC:=(Sq (So It (Kc 37 (Kk [37] .skip) (Kk [9,37] (.exit 4)))) (Sq (Bk 5 (.flt [0,1,3,3,15,31,63,3,131,511,1023,2047,2047,8191,16383,32767,2047,67583,262143,524287,1048575,2097151] [] Is [40,41,42,43,44,45,46,47,48,49,50,51,52,53,54,55,56,57,58,59,60])) (.ops Ir)))
def x7:RC:=yZ
def Iq:List RI:=[omk 61 8,oo 62 (.un .not (.t 61)) [61]]
def Ip:List RI:=[omk 63 4,oo 64 (Lt 4 7) [7],oo 65 (.lit 4 [.t 64]) [64],oo 66 (.app Zq0 56 (.t 63) (.t 65)) [63,65],omk 4 66]
def Io:List RI:=[omk 29 6,oo 30 (Bc .sub 29 1) [29],omk 6 30]
def yY:RC:=(.post (Sq (So Wz (Kc 28 (Kk [28] .skip) (Kk [6,28] (.exit 2)))) (Sq (Bk 3 (So Wy (So Iv (Sq (So Iu (Bk 4 (.loop x7))) (So Iq (Kc 62 (Kk [62] (.ops Ip)) (Kk [7,62] .skip))))))) (.ops Io))) [.gc [107],.tok 4 104])
def x6:RC:=yY
def In:List RI:=[omk 14 5,oo 15 (Bc .add 14 1) [14],omk 5 15]
def yX:RC:=(.post (Sq (So WD (Kc 13 (Kk [13] .skip) (Kk [3,5,13] (.exit 0)))) (Sq (Bk 1 (So WC (Sq (So WB (Kc 23 (Kk [6,23] (.ops WA)) (Kk [23] .skip))) (Bk 2 (.pre [.tok 4 104] (.loop x6)))))) (.ops In))) [.gc [107],.tok 4 104])
def qd:RC:=yX
def Im:List RI:=[omk 67 4,omk 2 67]
def r28:RC:=(So WG (So WF (So WE (Sq (So Oq (Bk 0 (.pre [.tok 4 104] (.loop qd)))) (So Im .ret)))))
def F28:FnC:=⟨r28,68,[.tmp 2],[],[]⟩
def Wx:List RI:=[oo 4 (.mov (.c .nilp)) [4]]
def Ww:List RI:=[omk 9 0,omk 10 1,oo 11 (.slcL 1 (.t 9) none (some (.t 10)) none) [9,10],omk 0 11]
def Wv:List RI:=[omk 12 0,oo 13 (.build [.byt [] .clip,.int .i64 0] [(0,1,(.t 12))]) [12],oo 14 (.box (.t 13)) [13],omk 4 14]
def r29:RC:=(So Wx (Sq (So Ot (Kc 8 (Kk [8] (.ops Ww)) (Kk [1,8] .skip))) (So Wv .ret)))
def F29:FnC:=⟨r29,15,[.tmp 4],[],[]⟩
def Oo:List RI:=[oo 2 (.box (.t 0)) [0],oo 3 (.box (.t 1)) [1],oo 4 (Mc 0) [4]]
def Wu:List RI:=[on 6 (Lt 7 2),oo 7 (Ca 13 [.t 6]) [6],oo 8 (Bc .neq 7 0) [7]]
def oC:List RI:=[on 4 (Mc (-1))]
def Wt:List RI:=[on 9 (Fa 1 3),oo 10 (Ld 9) [9]]
def Ws:List RI:=[on 12 (Bc .eql 10 1),omk 11 12]
def Wr:List RI:=[oo 13 (Fa 5 2) [2],oo 14 (Ld 13) [13],oo 15 (.mkfn 76 [] [.t 3]) [3],oo 16 (Ca 75 [.t 14,.t 15]) [14,15],omk 4 16]
def Wq:List RI:=[oo 18 (Bc .eql 10 3) [10],omk 17 18]
def Wp:List FI:=[Fs 0 19 (Fa 0 3),Fs 1 20 (Ld 19),Fz 2 21 (Ca 33 [ci 4]),Fs 3 22 (Bb .neq 20 21),Fm 4 23 22,Fi 5 24 23 false (Lt 4 3),Fy 6 25 23 false (Ca 79 [.t 24]),Fi 7 26 23 false (.un .not (.t 25)),Fs 8 27 (Pt 23 26)]
def Wo:List RI:=[on 28 (Fa 6 2),oo 29 (Ld 28) [28],oo 30 (.mkfn 81 [] [.t 3]) [3],oo 31 (Ca 80 [.t 29,.t 30]) [29,30],omk 5 31]
def Il:List RI:=[om 32 5,oo 33 (Bc .geq 32 0) [32]]
def Ik:List RI:=[oo 34 (Fa 5 2) [2],oo 35 (Ld 34) [34],oo 36 (Ln 35) [35],omk 37 5,oo 38 (Bb .add 36 37) [36,37],omk 4 38]
def r31:RC:=(So Oo (Sq (So Wu (Kc 8 (Kk [2,3,8] (So oC .ret)) (Kk [8] .skip))) (Sq (So Wt (Bk 0 (So Ws (Kc 11 (Kk [10,11] (So Wr .ret)) (Kk [11] (So Wq (Kc 17 (Kk [17] (Sq (Sq (.flt [0,1,0,7,15,31,63,127,255] [] Wp [19,20,21,22,23,24,25,26]) (Kc 27 (Kk [2,3,27] (So oC .ret)) (Kk [27] .skip))) (So Wo (So Il (Kc 33 (Kk [33] (So Ik .ret)) (Kk [2,5,33] .skip)))))) (Kk [2,3,17] .skip)))))))) (So oC .ret))))
def F31:FnC:=⟨r31,39,[.tmp 4],[],[]⟩
def kJ:List RI:=[oo 2 (Mc 0) [2]]
def Wn:List RI:=[om 3 0,oo 4 (Bc .lss 3 0) [3],omk 5 4,.grp 5 false [(xi 6 5 false (Mv 0)),(xi 7 5 false (Bc .geq 6 5))] [6],oo 8 (Pt 5 7) [5,7]]
def wB:List RI:=[on 2 (Mc (-1))]
def Wm:List RI:=[omk 9 0,oo 10 (.iaddrA 5 1 (.c (.pp oY)) (.t 9)) [9],oo 11 (Ld 10) [10],omk 2 11]
def r33:RC:=(So kJ (Sq (So Wn (Kc 8 (Kk [0,8] (So wB .ret)) (Kk [8] .skip))) (So Wm .ret)))
def F33:FnC:=⟨r33,12,[.tmp 2],[],[]⟩
def Wj:List RI:=[omk 5 0,.tks (xs 6 (.s2b (.t 5))) [5],on 7 (.litB [(.c (.u8 32))]),oo 8 (.app [.u8 0] 1 (.t 6) (.t 7)) [6,7],omk 9 1,oo 10 (Ca 85 [.t 9]) [9],oo 11 (.app [.u8 0] 1 (.t 8) (.t 10)) [8,10],omk 4 11]
def r34:RC:=(So jH (So Wj .ret))
def F34:FnC:=⟨r34,12,[.tmp 4],[],[]⟩
def Wi:List RI:=[oo 2 (.box (.t 0)) [0],oo 4 (Mb false) [4]]
def Wh:List RI:=[on 8 (Lt 4 2),oo 9 (Ca 44 [.t 8]) [8],oo 10 (Bc .neq 9 0) [9]]
def Wg:List RI:=[on 11 (Fa 0 2),oo 12 (Ld 11) [11]]
def Wf:List RI:=[on 14 (Bc .eql 12 2),omk 13 14]
def We:List RI:=[omk 15 1,oo 16 (.b2s (.t 15)) [15],oo 17 (Fa 1 2) [2],oo 18 (Ld 17) [17],oo 19 (Bb .eql 16 18) [16,18],omk 4 19]
def Wd:List RI:=[on 21 (Bc .eql 12 3),omk 20 21]
def Wc:List RI:=[oo 22 (Fa 1 2) [2],oo 23 (Ld 22) [22],omk 24 1,oo 25 (Ca 86 [.t 23,.t 24]) [23,24],omk 4 25]
def Wb:List RI:=[oo 27 (Bc .eql 12 4) [12],omk 26 27]
def Wa:List RI:=[omk 29 1,oo 30 (.b2s (.t 29)) [29],on 31 (Fa 1 2),oo 32 (Ld 31) [31],oo 33 (Ca 87 [.t 30,.t 32]) [30,32],omk 28 33,on 34 (.ext (.t 28) 0),oo 35 (.ext (.t 28) 1) [28],omk 5 34,omk 6 35]
def Ij:List RI:=[omk 36 5,oo 37 (Ca 88 [.t 36]) [36],omk 7 37]
def Ii:List RI:=[omk 38 6,omk 39 38,.grp 39 true [(xi 40 39 true (Mv 7)),(xi 41 39 true (Fa 2 2)),(xi 42 39 true (Ld 41)),(xi 43 39 true (Bb .geq 40 42))] [40,41,42],oo 44 (Pf 39 43) [39,43],omk 45 44,.grp 45 true [(xi 46 45 true (Mv 7)),(xi 47 45 true (Fa 3 2)),(xi 48 45 true (Ld 47)),(xi 49 45 true (Bb .leq 46 48))] [2,7,46,47,48],oo 50 (Pf 45 49) [45,49],omk 4 50]
def r35:RC:=(So Wi (Sq (So Wh (Kc 10 (Kk [1,2,10] (So oD .ret)) (Kk [10] .skip))) (Sq (So Wg (Bk 0 (So Wf (Kc 13 (Kk [12,13] (So We .ret)) (Kk [13] (So Wd (Kc 20 (Kk [12,20] (So Wc .ret)) (Kk [20] (So Wb (Kc 26 (Kk [26] (So Wa (So Ij (So Ii .ret)))) (Kk [1,2,26] .skip))))))))))) (So tR .ret))))
def F35:FnC:=⟨r35,51,[.tmp 4],[],[]⟩
def On:List RI:=[on 6 (.new (.rc Zq1))]
def V9:List RI:=[omk 10 0,omk 11 1,oo 12 (.build Zq1 [(0,1,(.t 10)),(1,1,(.t 11)),(4,1,(ci 1099511627776))]) [10,11],on 7 (.new (.rc Zq1)),Sr 7 7 12 [12]]
def V8:List RI:=[omk 13 2,on 14 (Ln 13),on 15 (Mc 0)]
def V7:List RI:=[on 16 (Bb .lss 15 14)]
def V6:List RI:=[on 17 (Ia 4 13 15),oo 18 (Lt 4 17) [17],on 9 (.new (.rc Zq0)),Sr 4 9 18 [18]]
def V5:List RI:=[on 19 (Lt 4 9),oo 20 (Ca 89 [.t 19]) [19],oo 21 (Bc .eql 20 0) [20],omk 22 21,.grp 22 true [(xi 23 22 true (Fa 0 9)),(xi 24 22 true (Ld 23)),(xi 25 22 true (Bc .neq 24 4))] [23,24],oo 26 (Pf 22 25) [22,25]]
def V4:List FI:=[Fs 0 27 (Fa 5 7),Fs 1 28 (Ld 27),Fs 2 29 (Fa 0 9),Fs 3 30 (Ld 29),Fs 4 31 (Fa 1 9),Fs 5 32 (Ld 31),Fs 6 33 (Fa 2 9),Fs 7 34 (Ld 33),Fs 8 35 (Lt 4 9),Fz 9 36 (Ca 91 [.t 35]),Fz 10 37 (Ca 90 [ci 1,.t 36]),Fs 11 38 (.build Zq0 [(0,1,(.t 30)),(1,1,(.t 32)),(2,1,(.t 34)),(3,1,(.t 37))]),Fs 12 39 (.lit 4 [.t 38]),Fz 13 40 (.appO Zq0 56 (.t 28) (.t 39)),Fs 14 41 (Fa 5 7),Fr 15 1 41 40]
def V2:List RI:=[oo 42 (Bc .add 15 1) [15],omk 15 42]
def OR:RC:=(.post (So V7 (Sq (Kc 16 (Kk [16] .skip) (Kk [13,14,15,16] (.exit 0))) (Sq (Bk 1 (So V6 (So V5 (Kc 26 (Kk [26] (.flt [0,1,0,4,0,16,0,64,0,256,768,2044,4092,8191,16383,32767] [140] V4 [9,27,28,29,30,31,32,33,34,35,36,37,38,39,40,41])) (Kk [9,26] .skip))))) (.ops V2)))) [.gc [109]])
def Om:RC:=OR
def V1:List RI:=[on 43 (Fa 5 7),oo 44 (Ld 43) [43],oo 45 (Ca 92 [.t 44,(.f 43)]) [44,45]]
def Ih:List RI:=[on 46 (Fa 5 7),oo 47 (Ld 46) [46],oo 48 (Ca 93 [.t 47,(.f 94)]) [47],on 49 (Fa 5 7),Sr 1 49 48 [48,49]]
def Ig:List RI:=[oo 50 (Lt 7 7) [7],Sr 7 6 50 [50]]
def r37:RC:=(So On (So V9 (Sq (So V8 (Bk 0 (.loop Om))) (So V1 (So Ih (So Ig .ret))))))
def F37:FnC:=⟨r37,51,[.cell 6 7 true],[0],[]⟩
def V0:List RI:=[omk 12 0,omk 13 1,oo 14 (.build Zq1 [(0,1,(.t 12)),(1,1,(.t 13)),(4,1,(ci 1099511627776))]) [12,13],on 7 (.new (.rc Zq1)),Sr 7 7 14 [14]]
def VZ:List RI:=[om 15 8,om 16 2,oo 17 (Ln 16) [16],oo 18 (Bb .lss 15 17) [15,17]]
def VY:List RI:=[om 21 2,om 22 8,oo 23 (Ia 4 21 22) [21,22],oo 24 (Lt 4 23) [23],oo 25 (Ca 95 [.t 24]) [24],omk 9 25]
def VX:List RI:=[om 26 9,oo 27 (Ln 26) [26],oo 28 (Bc .eql 27 0) [27],omk 29 28,.grp 29 false [(xi 30 29 false (Mv 2)),(xi 31 29 false (Mv 8)),(xi 32 29 false (Ia 4 30 31)),(xi 33 29 false (Fa 0 32)),(xi 34 29 false (Ld 33)),(xi 35 29 false (Bc .eql 34 4))] [30,31,32,33,34],oo 36 (Pt 29 35) [29,35]]
def VW:List FI:=[Fm 0 37 2,Fm 1 38 8,Fs 2 39 (Ia 4 37 38),Fs 3 40 (Fa 0 39),Fs 4 41 (Ld 40),Fm 5 42 2,Fm 6 43 8,Fs 7 44 (Ia 4 42 43),Fs 8 45 (Fa 1 44),Fs 9 46 (Ld 45),Fm 10 47 2,Fm 11 48 8,Fs 12 49 (Ia 4 47 48),Fs 13 50 (Fa 2 49),Fs 14 51 (Ld 50),Fm 15 52 9,Fz 16 53 (Ca 65 [.t 52]),Fs 17 54 (.build Zq0 [(0,1,(.t 41)),(1,1,(.t 46)),(2,1,(.t 51)),(3,1,(.t 53))]),Fz 18 10 (.new (.rc Zq0)),Fr 19 4 10 54]
def VV:List RI:=[on 11 (Mc 0)]
def VU:List FI:=[Fm 0 55 11,Fs 1 56 (Fa 5 7),Fs 2 57 (Ld 56),Fs 3 58 (Ln 57),Fs 4 59 (Bb .lss 55 58),Fm 5 60 59,Fi 6 61 60 true (Fa 5 7),Fi 7 62 60 true (Ld 61),Fi 8 63 60 true (Mv 11),Fi 9 64 60 true (Ia 4 62 63),Fi 10 65 60 true (Lt 4 64),Fi 11 66 60 true (Lt 4 10),Fy 12 67 60 true (Ca 46 [.t 65,.t 66]),Fs 13 68 (Pf 60 67)]
def VT:List RI:=[omk 69 11,oo 70 (Bc .add 69 1) [69],omk 11 70]
def yW:RC:=(Sq (Sq (.flt [0,0,2,6,15,31,63,127,63,511,1023,63,4095,8191] [] VU [55,56,57,58,59,60,61,62,63,64,65,66,67]) (Kc 68 (Kk [68] .skip) (Kk [68] (.exit 2)))) (Bk 3 (.ops VT)))
def x5:RC:=yW
def If:List FI:=[Fm 0 71 11,Fs 1 72 (Fa 5 7),Fs 2 73 (Ld 72),Fs 3 74 (Ln 73),Fs 4 75 (Bb .lss 71 74),Fm 5 76 75,Fi 6 77 76 true (Lt 4 10),Fi 7 78 76 true (Fa 5 7),Fi 8 79 76 true (Ld 78),Fi 9 80 76 true (Mv 11),Fi 10 81 76 true (Ia 4 79 80),Fi 11 82 76 true (Lt 4 81),Fy 12 83 76 true (Ca 46 [.t 77,.t 82]),Fi 13 84 76 true (.un .not (.t 83)),Fs 14 85 (Pf 76 84)]
def Ie:List FI:=[Fs 0 86 (.lit 4 []),Fs 1 87 (Fa 5 7),Fs 2 88 (Ld 87),Fm 3 89 11,Fs 4 90 (.slcL 4 (.t 88) none (some (.t 89)) none),Fs 6 92 (Lt 4 10),Fs 7 93 (.lit 4 [.t 92]),Fs 9 95 (Fa 5 7),Fs 10 96 (Ld 95),Fm 11 97 11,Fs 12 98 (.slcL 4 (.t 96) (some (.t 97)) none none),Fz 5 91 (.app Zq0 56 (.t 86) (.t 90)),Fz 8 94 (.app Zq0 56 (.t 91) (.t 93)),Fz 13 99 (.app Zq0 56 (.t 94) (.t 98)),Fs 14 100 (Fa 5 7),Fr 15 1 100 99]
def Ic:List RI:=[omk 19 8,oo 20 (Bc .add 19 1) [19],omk 8 20]
def yV:RC:=(.post (Sq (So VZ (Kc 18 (Kk [18] .skip) (Kk [2,8,18] (.exit 0)))) (Sq (Bk 1 (So VY (Sq (So VX (Kc 36 (Kk [9,36] (.exit 1)) (Kk [36] .skip))) (Sq (.fla [0,0,3,7,15,0,0,96,224,480,0,0,3072,7168,15360,0,32768,131071,0,524287] [110] VW [[0,1,2,3,4,5,6,7,8,9,10,11,12,13,14,15,16,17,18,19],[0,1,2,3,4,5,6,7,8,9,10,11,12,13,14,15,18,16,17,19]] [9,37,38,39,40,41,42,43,44,45,46,47,48,49,50,51,52,53,54]) (So VV (Sq (Bk 2 (.loop x5)) (Sq (Sq (.flt [0,0,2,6,15,31,63,63,191,63,959,1983,4095,8191,16383] [] If [71,72,73,74,75,76,77,78,79,80,81,82,83,84]) (Kc 85 (Kk [10,11,85] (.exit 1)) (Kk [85] .skip))) (.flt [0,0,2,0,14,31,0,64,255,0,512,0,3584,8191,16383,32767] [191,194,199] Ie [10,11,86,87,88,89,90,91,92,93,94,95,96,97,98,99,100])))))))) (.ops Ic))) [.gc [110,191,194,199]])
def lQ:RC:=yV
def Ib:List RI:=[oo 101 (Lt 7 7) [7],Sr 7 6 101 [101]]
def r38:RC:=(So On (So V0 (Sq (So tU (Bk 0 (.loop lQ))) (So Ib .ret))))
def F38:FnC:=⟨r38,102,[.cell 6 7 true],[0],[]⟩
def Vo:List RI:=[oo 2 (.box (.t 0)) [0],on 4 (.new (.rc [.int .i64 0,.int .i64 0,.lst 1 [] .clip,.byt [] .clip]))]
def Vn:List RI:=[on 5 (Lt 4 2),oo 6 (Ca 100 [.t 5]) [5],oo 7 (Bc .neq 6 0) [6],omk 8 7,.grp 8 false [(xi 9 8 false (Fa 0 2)),(xi 10 8 false (Ld 9)),(xi 11 8 false (Bc .eql 10 4))] [9,10],oo 12 (Pt 8 11) [8,11]]
def Vm:List RI:=[on 13 (.build [.int .i64 0,.int .i64 0,.lst 1 [] .clip,.byt [] .clip] []),Sr 4 4 13 [13]]
def Vl:List FI:=[Fs 0 14 (Fa 0 2),Fs 1 15 (Ld 14),Fs 3 17 (Lt 4 2),Fm 4 18 1,Fs 6 20 (Fa 1 2),Fs 7 21 (Ld 20),Fs 8 22 (Fa 2 2),Fs 9 23 (Ld 22),Fz 2 16 (Ca 82 [.t 15]),Fz 5 19 (Ca 101 [.t 17,.t 18]),Fz 10 24 (Ca 34 [.t 21,.t 23]),Fs 11 25 (.build [.int .i64 0,.int .i64 0,.lst 1 [] .clip,.byt [] .clip] [(0,1,(.t 16)),(1,1,(ci 1)),(2,1,(.t 19)),(3,1,(.t 24))]),Fr 12 4 4 25]
def r40:RC:=(So Vo (Sq (So Vn (Kc 12 (Kk [1,2,12] (So Vm .ret)) (Kk [12] .skip))) (Sq (.flt [0,1,3,0,0,31,0,64,0,256,1023,2047,4095] [] Vl [1,2,14,15,16,17,18,19,20,21,22,23,24,25]) .ret)))
def F40:FnC:=⟨r40,26,[.cell 4 4 true],[],[]⟩
def Vk:List RI:=[om 8 0,oo 9 (Ca 71 [.t 8,ci 4]) [8],omk 5 9]
def Vj:List RI:=[on 10 (Ca 102 []),om 11 0,oo 12 (Ca 71 [.t 11,ci 3]) [11],oo 13 (.idxA 3 1 false (.t 10) (.t 12)) [10,12],om 14 5,omk 15 1,oo 16 (Ca 38 [.t 13,.t 14,.t 15]) [13,14,15],on 6 (.new (.rc Zq1)),Sr 7 6 16 [16]]
def Vi:List RI:=[om 17 0,oo 18 (Ca 71 [.t 17,ci 3]) [17],oo 19 (Bc .eql 18 1) [18]]
def Vh:List FI:=[Fs 0 20 (Fa 5 6),Fs 1 21 (Ld 20),Fm 2 22 0,Fs 3 23 (Fa 5 6),Fs 4 24 (Ld 23),Fs 5 25 (Ln 24),Fs 6 26 (Bc .add 25 1),Fz 7 27 (Ca 71 [.t 22,.t 26]),Fs 8 28 (.slcL 4 (.t 21) none (some (.t 27)) none),Fs 9 29 (Fa 5 6),Fr 10 1 29 28]
def Vg:List RI:=[om 30 0,omk 31 5,oo 32 (Bc .add 31 1) [31],oo 33 (Ca 71 [.t 30,.t 32]) [30,32],on 34 (Fa 2 6),Sr 1 34 33 [33,34]]
def Vf:List RI:=[om 35 0,oo 36 (Ca 71 [.t 35,ci 12]) [35],on 37 (Fa 3 6),Sr 1 37 36 [36,37]]
def Ve:List FI:=[Fs 0 38 (Fa 3 6),Fs 1 39 (Ld 38),Fs 2 40 (Bc .add 39 1),Fm 3 41 0,Fz 4 42 (Ca 71 [.t 41,ci 30]),Fs 5 43 (Bb .add 40 42),Fs 6 44 (Fa 4 6),Fr 7 1 44 43]
def Vd:List RI:=[om 45 0,oo 46 (Ca 71 [.t 45,ci 2]) [45],oo 47 (Bc .eql 46 0) [46]]
def Vc:List RI:=[on 48 (Fa 4 6),.op ⟨none,none,.store 1 (.t 48) (ci 1099511627776)⟩ [48]]
def H9:List RI:=[om 49 0,oo 50 (Ca 71 [.t 49,ci 4]) [49],omk 7 50]
def H8:List RI:=[om 51 7,oo 52 (Bc .gtr 51 0) [51]]
def H7:List FI:=[Fs 0 55 (Fa 6 6),Fs 1 56 (Ld 55),Fm 2 57 0,Fz 3 58 (Ca 103 [.t 57]),Fs 4 59 (.lit 4 [.t 58]),Fz 5 60 (.app Zq2 40 (.t 56) (.t 59)),Fs 6 61 (Fa 6 6),Fr 7 1 61 60]
def H6:List RI:=[omk 53 7,oo 54 (Bc .sub 53 1) [53],omk 7 54]
def yU:RC:=(Sq (So H8 (Kc 52 (Kk [52] .skip) (Kk [0,7,52] (.exit 0)))) (Sq (Bk 1 (.flt [0,1,0,4,12,31,63,127] [160] H7 [55,56,57,58,59,60,61])) (.ops H6)))
def x0:RC:=yU
def H5:List RI:=[oo 62 (Lt 7 6) [6],Sr 7 4 62 [62]]
def r41:RC:=(So Ow (So Vk (So Vj (Sq (So Vi (Kc 19 (Kk [19] (.flt [0,1,0,0,8,24,56,124,255,511,1023] [] Vh [20,21,22,23,24,25,26,27,28,29])) (Kk [19] .skip))) (So Vg (So Vf (Sq (.flt [0,1,3,0,8,31,63,127] [] Ve [38,39,40,41,42,43,44]) (Sq (So Vd (Kc 47 (Kk [47] (.ops Vc)) (Kk [47] .skip))) (Sq (So H9 (Bk 0 (.loop x0))) (So H5 .ret))))))))))
def F41:FnC:=⟨r41,63,[.cell 4 7 true],[],[]⟩
def wA:List RI:=[oo 2 (Mb false) [2]]
def Vb:List RI:=[omk 3 0,oo 4 (.build Zq0 [(0,1,(ci 1)),(1,1,(.t 3))]) [3],oo 5 (Ca 89 [.t 4]) [4],oo 6 (Bc .eql 5 0) [5],omk 2 6]
def r42:RC:=(So wA (So Vb .ret))
def F42:FnC:=⟨r42,7,[.tmp 2],[],[]⟩
def Va:List FI:=[Fs 0 5 (Fa 0 2),Fs 1 6 (Ld 5),Fs 2 7 (Fa 0 3),Fs 3 8 (Ld 7),Fs 5 10 (Fa 1 2),Fs 6 11 (Ld 10),Fs 7 12 (Fa 1 3),Fs 8 13 (Ld 12),Fs 10 15 (Fa 2 2),Fs 11 16 (Ld 15),Fs 12 17 (Fa 2 3),Fs 13 18 (Ld 17),Fs 15 20 (Fa 3 2),Fs 16 21 (Ld 20),Fs 17 22 (Fa 3 3),Fs 18 23 (Ld 22),Fz 4 9 (Ca 105 [.t 6,.t 8]),Fz 9 14 (Ca 106 [.t 11,.t 13]),Fz 14 19 (Ca 105 [.t 16,.t 18]),Fz 19 24 (Ca 107 [.t 21,.t 23]),Fs 20 25 (.lit 1 [.t 9,.t 14,.t 19,.t 24]),Fz 21 26 (Ca 104 [.t 25]),Fm 22 4 26]
def r43:RC:=(So Oo (Sq (.flt [0,1,0,4,15,0,32,0,128,511,0,1024,0,4096,16383,0,32768,0,131072,524287,1048575,2097151,4194303] [] Va [2,3,5,6,7,8,9,10,11,12,13,14,15,16,17,18,19,20,21,22,23,24,25,26]) .ret))
def F43:FnC:=⟨r43,27,[.tmp 4],[],[]⟩
def U9:List RI:=[on 5 (Fa 0 1),oo 6 (Ld 5) [5],oo 7 (Bc .lss 6 1) [6],omk 8 7,.grp 8 false [(xi 9 8 false (Fa 0 1)),(xi 10 8 false (Ld 9)),(xi 11 8 false (Bc .gtr 10 4))] [9,10],oo 12 (Pt 8 11) [8,11]]
def U8:List RI:=[on 13 (Fa 1 1),oo 14 (Ld 13) [13],oo 15 (.len true (.t 14)) [14],on 16 (Mc 0)]
def U7:List RI:=[on 17 (Bb .lss 16 15)]
def U6:List RI:=[om 18 16,omk 3 18]
def U5:List RI:=[on 19 (Fa 1 1),oo 20 (Ld 19) [19],omk 21 3,oo 22 (.idxS (.t 20) (.t 21)) [20,21],omk 4 22]
def U4:List RI:=[om 23 4,oo 24 (.bin .lss (.t 23) (.c (.u8 32))) [23],omk 25 24,.grp 25 false [(xi 26 25 false (Mv 4)),(xi 27 25 false (.bin .gtr (.t 26) (.c (.u8 126))))] [4,26],oo 28 (Pt 25 27) [25,27]]
def U3:List RI:=[oo 29 (Bc .add 16 1) [16],omk 16 29]
def yT:RC:=(So U7 (Sq (Kc 17 (Kk [17] .skip) (Kk [15,16,17] (.exit 0))) (Sq (Bk 1 (So U6 (So U5 (So U4 (Kc 28 (Kk [1,15,16,28] (So gO .ret)) (Kk [28] .skip)))))) (.ops U3))))
def xZ:RC:=yT
def H4:List RI:=[on 31 (Fa 0 1),oo 32 (Ld 31) [31],oo 33 (Bc .eql 32 4) [32],omk 34 33,.grp 34 true [(xi 35 34 true (Fa 2 1)),(xi 36 34 true (Ld 35)),(xi 37 34 true (Bc .lss 36 0)),(xi 38 34 true (Mv 37))] [35,36,37],.grp 38 false [(xi 39 38 false (Fa 2 1)),(xi 40 38 false (Ld 39)),(xi 41 38 false (Fa 3 1)),(xi 42 38 false (Ld 41)),(xi 43 38 false (Bb .gtr 40 42))] [39,40,41,42],.grp 34 true [(xi 44 34 true (Pt 38 43)),(xi 45 34 true (Mv 44))] [38,43,44],.grp 45 false [(xi 46 45 false (Fa 3 1)),(xi 47 45 false (Ld 46)),(xi 48 45 false (Bc .gtr 47 1000000000))] [46,47],.grp 34 true [(xi 49 34 true (Pt 45 48))] [45,48],oo 50 (Pf 34 49) [34,49],omk 30 50]
def H3:List RI:=[on 52 (Fa 0 1),oo 53 (Ld 52) [52],oo 54 (Bc .neq 53 4) [53],omk 55 54,.grp 55 true [(xi 56 55 true (Fa 2 1)),(xi 57 55 true (Ld 56)),(xi 58 55 true (Bc .neq 57 0)),(xi 59 55 true (Mv 58))] [56,57,58],.grp 59 false [(xi 60 59 false (Fa 3 1)),(xi 61 59 false (Ld 60)),(xi 62 59 false (Bc .neq 61 0))] [60,61],.grp 55 true [(xi 63 55 true (Pt 59 62))] [59,62],oo 64 (Pf 55 63) [55,63],omk 51 64]
def H2:List RI:=[on 66 (Fa 0 1),oo 67 (Ld 66) [66],oo 68 (Bc .eql 67 1) [67],omk 69 68,.grp 69 true [(xi 70 69 true (Fa 1 1)),(xi 71 69 true (Ld 70)),(xi 72 69 true (.bin .neq (.t 71) (.c (.str []))))] [70,71],oo 73 (Pf 69 72) [69,72],omk 65 73]
def HZ:List RI:=[oo 75 (Fa 1 1) [1],oo 76 (Ld 75) [75],oo 77 (.len true (.t 76)) [76],oo 78 (Bc .gtr 77 32) [77],omk 74 78]
def r44:RC:=(So qM (Sq (So U9 (Kc 12 (Kk [1,12] (So gO .ret)) (Kk [12] .skip))) (Sq (So U8 (Bk 0 (.loop xZ))) (Sq (Bk 2 (So H4 (Kc 30 (Kk [1,30] (So gO .ret)) (Kk [30] (So H3 (Kc 51 (Kk [1,51] (So gO .ret)) (Kk [51] (So H2 (Kc 65 (Kk [1,65] (So gO .ret)) (Kk [65] (So HZ (Kc 74 (Kk [74] (So oG .ret)) (Kk [74] .skip))))))))))))) (So iU .ret)))))
def F44:FnC:=⟨r44,79,[.tmp 2],[],[]⟩
def U2:List RI:=[om 5 0,oo 6 (.len true (.t 5)) [5],oo 7 (Bc .lss 6 1) [6],omk 8 7,.grp 8 false [(xi 9 8 false (Mv 0)),(xi 10 8 false (.len true (.t 9))),(xi 11 8 false (Bc .gtr 10 12))] [9,10],oo 12 (Pt 8 11) [8,11]]
def nH:List RI:=[on 2 (Mb false)]
def U1:List RI:=[om 13 3,om 14 0,oo 15 (.len true (.t 14)) [14],oo 16 (Bb .lss 13 15) [13,15]]
def U0:List RI:=[om 19 0,om 20 3,oo 21 (.idxS (.t 19) (.t 20)) [19,20],omk 4 21]
def UZ:List RI:=[om 22 4,oo 23 (.bin .lss (.t 22) (.c (.u8 97))) [22],omk 24 23,.grp 24 false [(xi 25 24 false (Mv 4)),(xi 26 24 false (.bin .gtr (.t 25) (.c (.u8 122))))] [25],oo 27 (Pt 24 26) [24,26],omk 28 27,.grp 28 true [(xi 29 28 true (Mv 4)),(xi 30 28 true (.bin .lss (.t 29) (.c (.u8 48)))),(xi 31 28 true (Mv 30))] [29,30],.grp 31 false [(xi 32 31 false (Mv 4)),(xi 33 31 false (.bin .gtr (.t 32) (.c (.u8 57))))] [32],.grp 28 true [(xi 34 28 true (Pt 31 33))] [31,33],oo 35 (Pf 28 34) [28,34],omk 36 35,.grp 36 true [(xi 37 36 true (Mv 4)),(xi 38 36 true (.bin .neq (.t 37) (.c (.u8 45))))] [4,37],oo 39 (Pf 36 38) [36,38]]
def Ol:List RI:=[omk 17 3,oo 18 (Bc .add 17 1) [17],omk 3 18]
def OQ:RC:=(Sq (So U1 (Kc 16 (Kk [16] .skip) (Kk [0,3,16] (.exit 0)))) (Sq (Bk 1 (So U0 (So UZ (Kc 39 (Kk [0,3,39] (So nH .ret)) (Kk [39] .skip))))) (.ops Ol)))
def Ok:RC:=OQ
def qc:List RI:=[on 2 (Mb true)]
def r45:RC:=(So wA (Sq (So U2 (Kc 12 (Kk [0,12] (So nH .ret)) (Kk [12] .skip))) (Sq (So wC (Bk 0 (.loop Ok))) (So qc .ret))))
def F45:FnC:=⟨r45,40,[.tmp 2],[],[]⟩
def UY:List RI:=[on 5 (Fa 0 2),oo 6 (Ld 5) [5],on 7 (Fa 0 3),oo 8 (Ld 7) [7],oo 9 (Bb .neq 6 8) [6,8]]
def UX:List RI:=[oo 10 (Fa 0 2) [2],oo 11 (Ld 10) [10],oo 12 (Fa 0 3) [3],oo 13 (Ld 12) [12],oo 14 (Bb .lss 11 13) [11,13],omk 4 14]
def UW:List RI:=[on 15 (Fa 1 2),oo 16 (Ld 15) [15],on 17 (Fa 1 3),oo 18 (Ld 17) [17],oo 19 (Bb .neq 16 18) [16,18]]
def UV:List RI:=[oo 20 (Fa 1 2) [2],oo 21 (Ld 20) [20],oo 22 (Fa 1 3) [3],oo 23 (Ld 22) [22],oo 24 (Bb .lss 21 23) [21,23],omk 4 24]
def UU:List RI:=[on 25 (Fa 2 2),oo 26 (Ld 25) [25],on 27 (Fa 2 3),oo 28 (Ld 27) [27],oo 29 (Bb .neq 26 28) [26,28]]
def UT:List RI:=[oo 30 (Fa 2 2) [2],oo 31 (Ld 30) [30],oo 32 (Fa 2 3) [3],oo 33 (Ld 32) [32],oo 34 (Bb .lss 31 33) [31,33],omk 4 34]
def US:List RI:=[oo 35 (Fa 3 2) [2],oo 36 (Ld 35) [35],oo 37 (Fa 3 3) [3],oo 38 (Ld 37) [37],oo 39 (Ca 108 [.t 36,.t 38]) [36,38],omk 4 39]
def r46:RC:=(So D1 (Sq (So UY (Kc 9 (Kk [9] (So UX .ret)) (Kk [9] .skip))) (Sq (So UW (Kc 19 (Kk [19] (So UV .ret)) (Kk [19] .skip))) (Sq (So UU (Kc 29 (Kk [29] (So UT .ret)) (Kk [29] .skip))) (So US .ret)))))
def F46:FnC:=⟨r46,40,[.tmp 4],[],[]⟩
def UR:List RI:=[on 4 (Fa 0 1),oo 5 (Ld 4) [4],oo 6 (Bc .lss 5 1) [5],omk 7 6,.grp 7 false [(xi 8 7 false (Fa 0 1)),(xi 9 7 false (Ld 8)),(xi 10 7 false (Bc .gtr 9 4))] [8,9],oo 11 (Pt 7 10) [7,10]]
def UQ:List RI:=[om 12 3,on 13 (Fa 1 1),oo 14 (Ld 13) [13],oo 15 (.len true (.t 14)) [14],oo 16 (Bb .lss 12 15) [12,15]]
def UP:List RI:=[on 19 (Fa 1 1),oo 20 (Ld 19) [19],om 21 3,oo 22 (.idxS (.t 20) (.t 21)) [20,21],oo 23 (.bin .lss (.t 22) (.c (.u8 32))) [22],omk 24 23,.grp 24 false [(xi 25 24 false (Fa 1 1)),(xi 26 24 false (Ld 25)),(xi 27 24 false (Mv 3)),(xi 28 24 false (.idxS (.t 26) (.t 27))),(xi 29 24 false (.bin .gtr (.t 28) (.c (.u8 126))))] [25,26,27,28],oo 30 (Pt 24 29) [24,29]]
def OP:RC:=(Sq (So UQ (Kc 16 (Kk [16] .skip) (Kk [3,16] (.exit 0)))) (Sq (Bk 1 (So UP (Kc 30 (Kk [1,3,30] (So gO .ret)) (Kk [30] .skip)))) (.ops Ol)))
def Oj:RC:=OP
def UO:List RI:=[on 31 (Fa 0 1),oo 32 (Ld 31) [31],oo 33 (Bc .eql 32 4) [32]]
def HY:List RI:=[on 34 (Fa 2 1),oo 35 (Ld 34) [34],oo 36 (Bc .lss 35 0) [35],omk 37 36,.grp 37 false [(xi 38 37 false (Fa 2 1)),(xi 39 37 false (Ld 38)),(xi 40 37 false (Fa 3 1)),(xi 41 37 false (Ld 40)),(xi 42 37 false (Bb .gtr 39 41))] [38,39,40,41],oo 43 (Pt 37 42) [37,42],omk 44 43,.grp 44 false [(xi 45 44 false (Fa 3 1)),(xi 46 44 false (Ld 45)),(xi 47 44 false (Bc .gtr 46 1000000000))] [45,46],oo 48 (Pt 44 47) [44,47]]
def HX:List RI:=[on 49 (Fa 2 1),oo 50 (Ld 49) [49],oo 51 (Bc .neq 50 0) [50],omk 52 51,.grp 52 false [(xi 53 52 false (Fa 3 1)),(xi 54 52 false (Ld 53)),(xi 55 52 false (Bc .neq 54 0))] [53,54],oo 56 (Pt 52 55) [52,55]]
def HW:List RI:=[on 57 (Fa 0 1),oo 58 (Ld 57) [57],oo 59 (Bc .eql 58 1) [58],omk 60 59,.grp 60 true [(xi 61 60 true (Fa 1 1)),(xi 62 60 true (Ld 61)),(xi 63 60 true (.bin .neq (.t 62) (.c (.str []))))] [61,62],oo 64 (Pf 60 63) [60,63]]
def HV:List RI:=[oo 65 (Fa 1 1) [1],oo 66 (Ld 65) [65],oo 67 (.len true (.t 66)) [66],oo 68 (Bc .gtr 67 32) [67]]
def r47:RC:=(So qM (Sq (So UR (Kc 11 (Kk [1,11] (So gO .ret)) (Kk [11] .skip))) (Sq (So wC (Bk 0 (.loop Oj))) (Sq (So UO (Kc 33 (Kk [33] (So HY (Kc 48 (Kk [1,48] (So gO .ret)) (Kk [48] .skip)))) (Kk [33] (So HX (Kc 56 (Kk [1,56] (So gO .ret)) (Kk [56] .skip)))))) (Sq (So HW (Kc 64 (Kk [1,64] (So gO .ret)) (Kk [64] .skip))) (Sq (So HV (Kc 68 (Kk [68] (So oG .ret)) (Kk [68] .skip))) (So iU .ret)))))))
def F47:FnC:=⟨r47,69,[.tmp 2],[],[]⟩
def Oi:List RI:=[oo 6 (.mov (.c (.byt [] .clip))) [6]]
def UN:List RI:=[omk 9 0,oo 10 (.app [.u8 0] 1 (.c (.byt [] .clip)) (.t 9)) [9],omk 7 10]
def UM:List RI:=[om 11 1,oo 12 (Bc .lss 11 1) [11],omk 13 12,.grp 13 false [(xi 14 13 false (Mv 1)),(xi 15 13 false (Bc .gtr 14 8))] [14],oo 16 (Pt 13 15) [13,15]]
def UL:List RI:=[omk 17 7,omk 6 17]
def UK:List RI:=[omk 18 1,oo 19 (Bc .sub 18 1) [18],omk 8 19]
def UJ:List RI:=[om 20 8,oo 21 (Bc .geq 20 0) [20]]
def UI:List RI:=[omk 24 7,om 25 2,oo 26 (.toInt .u64 (.t 25)) [25],om 27 8,oo 28 (.bin .mul (ci 8) (.t 27)) [27],oo 29 (.toInt .u64 (.t 28)) [28],oo 30 (Bb .shr 26 29) [26,29],oo 31 (.toInt .u8 (.t 30)) [30],oo 32 (.litB [.t 31]) [31],oo 33 (.app [.u8 0] 1 (.t 24) (.t 32)) [24,32],omk 7 33]
def UH:List RI:=[omk 22 8,oo 23 (Bc .sub 22 1) [22],omk 8 23]
def OO:RC:=(.post (Sq (So UJ (Kc 21 (Kk [21] .skip) (Kk [2,8,21] (.exit 0)))) (Sq (Bk 1 (.ops UI)) (.ops UH))) [.tok 7 107])
def Oh:RC:=OO
def UG:List RI:=[omk 34 7,omk 6 34]
def r48:RC:=(So Oi (So UN (Sq (So UM (Kc 16 (Kk [1,2,16] (So UL .ret)) (Kk [16] .skip))) (Sq (So UK (Bk 0 (.pre [.tok 7 107] (.loop Oh)))) (So UG .ret)))))
def F48:FnC:=⟨r48,35,[.tmp 6],[0],[]⟩
def UF:List RI:=[om 5 1,omk 6 1,oo 7 (Ln 6) [6],oo 8 (.mini (.t 7) (ci 65535)) [7],oo 9 (.slcL 1 (.t 5) none (some (.t 8)) none) [5,8],omk 1 9]
def UE:List RI:=[omk 10 0,om 11 1,oo 12 (Ln 11) [11],oo 13 (Ca 48 [.t 10,ci 2,.t 12]) [10,12],omk 14 1,oo 15 (.app [.u8 0] 1 (.t 13) (.t 14)) [13,14],omk 4 15]
def r49:RC:=(So jH (So UF (So UE .ret)))
def F49:FnC:=⟨r49,16,[.tmp 4],[0],[]⟩
def UD:List RI:=[oo 2 (.mov (.c .nilp)) [2]]
def UC:List RI:=[omk 3 0,oo 4 (.app [.u8 0] 1 (.c (.byt [] .clip)) (.t 3)) [3],oo 5 (.build [.byt [] .clip,.int .i64 0,.int .i64 0] [(0,1,(.t 4))]) [4],oo 6 (.box (.t 5)) [5],omk 2 6]
def r50:RC:=(So UD (So UC .ret))
def F50:FnC:=⟨r50,7,[.tmp 2],[],[]⟩
def Og:List RI:=[om 10 0,oo 11 (.nchk (.t 10)) [10],oo 12 (Fa 2 11) [11],oo 13 (Ld 12) [12],oo 14 (Bc .neq 13 0) [13]]
def UB:List RI:=[om 15 1,oo 16 (Bc .lss 15 1) [15],omk 17 16,.grp 17 false [(xi 18 17 false (Mv 1)),(xi 19 17 false (Bc .gtr 18 8))] [18],oo 20 (Pt 17 19) [17,19]]
def UA:List RI:=[omk 21 0,oo 22 (Ca 109 [.t 21,ci 1]) [21,22]]
def Uz:List RI:=[om 24 0,om 25 0,oo 26 (.nchk (.t 25)) [25],oo 27 (Fa 1 26) [26],oo 28 (Ld 27) [27],om 29 1,oo 30 (Ca 110 [.t 24,.t 28,.t 29]) [24,28,29],omk 23 30,on 31 (.ext (.t 23) 0),oo 32 (.ext (.t 23) 1) [23],omk 5 31,omk 6 32]
def Uy:List RI:=[om 33 6,oo 34 (Bc .neq 33 0) [33]]
def Ux:List RI:=[omk 35 0,omk 36 6,oo 37 (Ca 109 [.t 35,.t 36]) [35,36,37]]
def HU:List RI:=[on 7 (.mov (.c (.int .u64 0)))]
def HT:List RI:=[omk 38 5,on 39 (Ln 38),on 40 (Mc 0)]
def HS:List RI:=[on 41 (Bb .lss 40 39)]
def HR:List RI:=[on 42 (Ia 1 38 40),oo 43 (Ld 42) [42],omk 9 43]
def HQ:List RI:=[omk 44 7,oo 45 (.bin .shl (.t 44) (.c (.int .u64 8))) [44],omk 46 9,oo 47 (.toInt .u64 (.t 46)) [46],oo 48 (Bb .or 45 47) [45,47],omk 7 48]
def HP:List RI:=[oo 49 (Bc .add 40 1) [40],omk 40 49]
def yS:RC:=(So HS (Sq (Kc 41 (Kk [41] .skip) (Kk [38,39,40,41] (.exit 0))) (Sq (Bk 1 (So HR (.ops HQ))) (.ops HP))))
def xY:RC:=yS
def HO:List RI:=[om 50 7,oo 51 (.bin .gtr (.t 50) (.c (.int .u64 9223372036854775807))) [50]]
def HN:List RI:=[omk 52 0,oo 53 (Ca 109 [.t 52,ci 4]) [52,53]]
def HM:List RI:=[omk 54 0,on 55 (.nchk (.t 54)),oo 56 (Fa 1 55) [55],oo 57 (Ld 56) [56],omk 58 1,oo 59 (Bb .add 57 58) [57,58],oo 60 (.nchk (.t 54)) [54],oo 61 (Fa 1 60) [60],Sr 1 61 59 [59,61]]
def HK:List RI:=[omk 62 7,oo 63 (.toInt .i64 (.t 62)) [62],omk 4 63]
def r51:RC:=(So oE (Sq (So Og (Kc 14 (Kk [0,1,14] (So kK .ret)) (Kk [14] .skip))) (Sq (So UB (Kc 20 (Kk [1,20] (So UA (So kK .ret))) (Kk [20] .skip))) (So Uz (Sq (So Uy (Kc 34 (Kk [1,5,34] (So Ux (So kK .ret))) (Kk [6,34] .skip))) (So HU (Sq (So HT (Bk 0 (.loop xY))) (Sq (So HO (Kc 51 (Kk [1,7,51] (So HN (So kK .ret))) (Kk [51] .skip))) (So HM (So HK .ret))))))))))
def F51:FnC:=⟨r51,64,[.tmp 4],[],[]⟩
def kI:List RI:=[on 4 (.mov (.c (.byt [] .clip)))]
def Uw:List RI:=[om 15 0,oo 16 (.mkfn 110 [.t 15] []) [15],omk 5 16]
def Uv:List RI:=[om 18 5,om 19 0,oo 20 (.nchk (.t 19)) [19],oo 21 (Fa 1 20) [20],oo 22 (Ld 21) [21],oo 23 (.call (.t 18) [.t 22,ci 2]) [18,22],omk 17 23,on 24 (.ext (.t 17) 0),oo 25 (.ext (.t 17) 1) [17],omk 6 24,omk 7 25]
def Uu:List RI:=[om 26 7,oo 27 (Bc .neq 26 0) [26]]
def Ut:List RI:=[omk 28 0,omk 29 7,oo 30 (Ca 109 [.t 28,.t 29]) [28,29,30]]
def Us:List FI:=[Fm 0 31 6,Fs 1 32 (.iaddrL 1 (.t 31) (ci 0)),Fs 2 33 (Ld 32),Fs 3 34 (.toInt .i64 (.t 33)),Fs 4 35 (.bin .shl (.t 34) (.c (.int .u64 8))),Fm 5 36 6,Fs 6 37 (.iaddrL 1 (.t 36) (ci 1)),Fs 7 38 (Ld 37),Fs 8 39 (.toInt .i64 (.t 38)),Fs 9 40 (Bb .or 35 39),Fm 10 8 40]
def Ur:List RI:=[om 41 8,omk 42 1,oo 43 (Bb .gtr 41 42) [41,42]]
def HJ:List RI:=[omk 44 0,oo 45 (Ca 109 [.t 44,ci 4]) [44,45]]
def HI:List RI:=[omk 47 5,om 48 0,oo 49 (.nchk (.t 48)) [48],oo 50 (Fa 1 49) [49],oo 51 (Ld 50) [50],oo 52 (Bc .add 51 2) [51],om 53 8,oo 54 (.call (.t 47) [.t 52,.t 53]) [47,52,53],omk 46 54,on 55 (.ext (.t 46) 0),oo 56 (.ext (.t 46) 1) [46],omk 9 55,omk 7 56]
def HH:List RI:=[om 57 7,oo 58 (Bc .neq 57 0) [57]]
def HG:List RI:=[omk 59 0,omk 60 7,oo 61 (Ca 109 [.t 59,.t 60]) [59,60,61]]
def HF:List RI:=[omk 62 0,on 63 (.nchk (.t 62)),oo 64 (Fa 1 63) [63],oo 65 (Ld 64) [64],omk 66 8,oo 67 (.bin .add (ci 2) (.t 66)) [66],oo 68 (Bb .add 65 67) [65,67],oo 69 (.nchk (.t 62)) [62],oo 70 (Fa 1 69) [69],Sr 1 70 68 [68,70]]
def HE:List RI:=[omk 71 9,oo 72 (.app [.u8 0] 1 (.c (.byt [] .clip)) (.t 71)) [71],omk 4 72]
def r52:RC:=(So jH (Sq (So Og (Kc 14 (Kk [0,1,14] (So kI .ret)) (Kk [14] .skip))) (So Uw (So Uv (Sq (So Uu (Kc 27 (Kk [1,5,6,27] (So Ut (So kI .ret))) (Kk [7,27] .skip))) (Sq (.flt [0,1,3,7,15,0,32,96,224,511,1023] [] Us [6,31,32,33,34,35,36,37,38,39,40]) (Sq (So Ur (Kc 43 (Kk [5,8,43] (So HJ (So kI .ret))) (Kk [43] .skip))) (So HI (Sq (So HH (Kc 58 (Kk [8,9,58] (So HG (So kI .ret))) (Kk [7,58] .skip))) (So HF (So HE .ret)))))))))))
def F52:FnC:=⟨r52,73,[.tmp 4],[],[]⟩
def Uq:List RI:=[omk 3 0,oo 4 (.nchk (.t 3)) [3],oo 5 (Fa 2 4) [4],oo 6 (Ld 5) [5],omk 2 6]
def r53:RC:=(So kJ (So Uq .ret))
def F53:FnC:=⟨r53,7,[.tmp 2],[],[]⟩
def Up:List RI:=[om 7 0,oo 8 (.nchk (.t 7)) [7],oo 9 (Fa 2 8) [8],oo 10 (Ld 9) [9],oo 11 (Bc .neq 10 0) [10]]
def Uo:List RI:=[om 12 1,oo 13 (Bc .lss 12 0) [12]]
def Un:List RI:=[omk 14 0,oo 15 (Ca 109 [.t 14,ci 1]) [14,15]]
def Um:List RI:=[om 17 0,om 18 0,oo 19 (.nchk (.t 18)) [18],oo 20 (Fa 1 19) [19],oo 21 (Ld 20) [20],om 22 1,oo 23 (Ca 110 [.t 17,.t 21,.t 22]) [17,21,22],omk 16 23,on 24 (.ext (.t 16) 0),oo 25 (.ext (.t 16) 1) [16],omk 5 24,omk 6 25]
def Ul:List RI:=[om 26 6,oo 27 (Bc .neq 26 0) [26]]
def Uk:List RI:=[omk 28 0,omk 29 6,oo 30 (Ca 109 [.t 28,.t 29]) [28,29,30]]
def HD:List RI:=[omk 31 0,on 32 (.nchk (.t 31)),oo 33 (Fa 1 32) [32],oo 34 (Ld 33) [33],omk 35 1,oo 36 (Bb .add 34 35) [34,35],oo 37 (.nchk (.t 31)) [31],oo 38 (Fa 1 37) [37],Sr 1 38 36 [36,38]]
def HC:List RI:=[omk 39 5,oo 40 (.app [.u8 0] 1 (.c (.byt [] .clip)) (.t 39)) [39],omk 4 40]
def r54:RC:=(So jH (Sq (So Up (Kc 11 (Kk [0,1,11] (So kI .ret)) (Kk [11] .skip))) (Sq (So Uo (Kc 13 (Kk [1,13] (So Un (So kI .ret))) (Kk [13] .skip))) (So Um (Sq (So Ul (Kc 27 (Kk [1,5,27] (So Uk (So kI .ret))) (Kk [6,27] .skip))) (So HD (So HC .ret)))))))
def F54:FnC:=⟨r54,41,[.tmp 4],[],[]⟩
def Uj:List RI:=[om 3 0,oo 4 (.nchk (.t 3)) [3],oo 5 (Fa 2 4) [4],oo 6 (Ld 5) [5],oo 7 (Bc .eql 6 0) [6],omk 8 7,.grp 8 true [(xi 9 8 true (Mv 0)),(xi 10 8 true (Ca 111 [.t 9])),(xi 11 8 true (Bc .gtr 10 0))] [9,10],oo 12 (Pf 8 11) [8,11]]
def Ui:List RI:=[on 2 (Mc 3)]
def Uh:List RI:=[omk 13 0,oo 14 (.nchk (.t 13)) [13],oo 15 (Fa 2 14) [14],oo 16 (Ld 15) [15],omk 2 16]
def r55:RC:=(So kJ (Sq (So Uj (Kc 12 (Kk [0,12] (So Ui .ret)) (Kk [12] .skip))) (So Uh .ret)))
def F55:FnC:=⟨r55,17,[.tmp 2],[],[]⟩
def Ug:List RI:=[om 5 1,oo 6 (Ln 5) [5],oo 7 (Bc .gtr 6 65535) [6]]
def Uf:List RI:=[omk 8 1,oo 9 (.slcL 1 (.t 8) none (some (ci 65535)) none) [8],omk 1 9]
def Ue:List RI:=[omk 10 0,om 11 1,oo 12 (Ln 11) [11],oo 13 (Ca 57 [.t 10,ci 2,.t 12]) [10,12],omk 14 1,oo 15 (.app [.u8 0] 1 (.t 13) (.t 14)) [13,14],omk 4 15]
def r56:RC:=(So jH (Sq (So Ug (Kc 7 (Kk [7] (.ops Uf)) (Kk [7] .skip))) (So Ue .ret)))
def F56:FnC:=⟨r56,16,[.tmp 4],[0],[]⟩
def Ud:List RI:=[on 9 (.litB []),omk 10 0,oo 11 (.app [.u8 0] 1 (.t 9) (.t 10)) [9,10],omk 7 11]
def Uc:List RI:=[om 12 1,oo 13 (Bc .lss 12 1) [12],omk 14 13,.grp 14 false [(xi 15 14 false (Mv 1)),(xi 16 14 false (Bc .gtr 15 8))] [15],oo 17 (Pt 14 16) [14,16]]
def Ub:List RI:=[omk 18 7,omk 6 18]
def Ua:List RI:=[omk 19 1,oo 20 (Bc .sub 19 1) [19],omk 8 20]
def T9:List RI:=[om 21 8,oo 22 (Bc .geq 21 0) [21]]
def T8:List RI:=[omk 25 7,om 26 2,oo 27 (.toInt .u64 (.t 26)) [26],om 28 8,oo 29 (.toInt .u64 (.t 28)) [28],oo 30 (.bin .mul (.c (.int .u64 8)) (.t 29)) [29],oo 31 (Bb .shr 27 30) [27,30],oo 32 (.toInt .u8 (.t 31)) [31],oo 33 (.litB [.t 32]) [32],oo 34 (.app [.u8 0] 1 (.t 25) (.t 33)) [25,33],omk 7 34]
def T7:List RI:=[omk 23 8,oo 24 (Bc .sub 23 1) [23],omk 8 24]
def ON:RC:=(.post (Sq (So T9 (Kc 22 (Kk [22] .skip) (Kk [2,8,22] (.exit 0)))) (Sq (Bk 1 (.ops T8)) (.ops T7))) [.tok 7 107])
def Of:RC:=ON
def T6:List RI:=[omk 35 7,omk 6 35]
def r57:RC:=(So Oi (So Ud (Sq (So Uc (Kc 17 (Kk [1,2,17] (So Ub .ret)) (Kk [17] .skip))) (Sq (So Ua (Bk 0 (.pre [.tok 7 107] (.loop Of)))) (So T6 .ret)))))
def F57:FnC:=⟨r57,36,[.tmp 6],[0],[]⟩
def T5:List RI:=[omk 5 0,omk 6 1,oo 7 (Ca 112 [.t 5,.t 6]) [5,6],oo 8 (Ca 90 [ci 1,.t 7]) [7],omk 4 8]
def r58:RC:=(So jH (So T5 .ret))
def F58:FnC:=⟨r58,9,[.tmp 4],[],[]⟩
def T4:List RI:=[omk 5 0,omk 6 1,oo 7 (Ca 66 [.t 5,.t 6]) [5,6],oo 8 (Ca 65 [.t 7]) [7],omk 4 8]
def r59:RC:=(So jH (So T4 .ret))
def F59:FnC:=⟨r59,9,[.tmp 4],[],[]⟩
def l7:List RI:=[oo 2 (.mov (.c (.byt [] .clip))) [2]]
def T3:List RI:=[on 18 (Ca 115 []),on 3 (.new (.arr 1 (aq 64 [.int .u32 0]))),Sr 64 3 18 [18]]
def T2:List RI:=[.own (xs 19 (.lit 1 [(.c (.int .u32 1779033703)),(.c (.int .u32 3144134277)),(.c (.int .u32 1013904242)),(.c (.int .u32 2773480762)),(.c (.int .u32 1359893119)),(.c (.int .u32 2600822924)),(.c (.int .u32 528734635)),(.c (.int .u32 1541459225))])) [],omk 4 19]
def T1:List RI:=[omk 20 0,oo 21 (Ca 116 [.t 20]) [20],omk 5 21]
def T0:List RI:=[om 22 6,om 23 5,oo 24 (Ln 23) [23],oo 25 (Bb .lss 22 24) [22,24]]
def TZ:List RI:=[on 7 (.new (.arr 1 (aq 64 [.int .u32 0])))]
def TY:List RI:=[om 28 8,oo 29 (Bc .lss 28 64) [28]]
def TX:List RI:=[om 32 8,oo 33 (Bc .lss 32 16) [32]]
def HB:List RI:=[om 34 8,om 35 5,om 36 6,om 37 6,oo 38 (Bc .add 37 64) [37],oo 39 (.slcL 1 (.t 35) (some (.t 36)) (some (.t 38)) none) [35,36,38],om 40 8,oo 41 (Ca 117 [.t 39,.t 40]) [39,40],oo 42 (.iaddrA 64 1 (.t 7) (.t 34)) [34],Sr 1 42 41 [41,42]]
def Hz:List FI:=[Fm 0 43 8,Fs 1 44 (Bc .sub 43 15),Fs 2 45 (.iaddrA 64 1 (.t 7) (.t 44)),Fs 3 46 (Ld 45),Fm 5 48 8,Fs 6 49 (Bc .sub 48 15),Fs 7 50 (.iaddrA 64 1 (.t 7) (.t 49)),Fs 8 51 (Ld 50),Fm 11 54 8,Fs 12 55 (Bc .sub 54 15),Fs 13 56 (.iaddrA 64 1 (.t 7) (.t 55)),Fs 14 57 (Ld 56),Fs 15 58 (.bin .shr (.t 57) (.c (.int .u64 3))),Fz 4 47 (Ca 118 [.t 46,(.c (.int .u64 7))]),Fz 9 52 (Ca 118 [.t 51,(.c (.int .u64 18))]),Fs 10 53 (Bb .xor 47 52),Fs 16 59 (Bb .xor 53 58),Fm 17 9 59]
def Hy:List FI:=[Fm 0 60 8,Fs 1 61 (Bc .sub 60 2),Fs 2 62 (.iaddrA 64 1 (.t 7) (.t 61)),Fs 3 63 (Ld 62),Fm 5 65 8,Fs 6 66 (Bc .sub 65 2),Fs 7 67 (.iaddrA 64 1 (.t 7) (.t 66)),Fs 8 68 (Ld 67),Fm 11 71 8,Fs 12 72 (Bc .sub 71 2),Fs 13 73 (.iaddrA 64 1 (.t 7) (.t 72)),Fs 14 74 (Ld 73),Fs 15 75 (.bin .shr (.t 74) (.c (.int .u64 10))),Fz 4 64 (Ca 118 [.t 63,(.c (.int .u64 17))]),Fz 9 69 (Ca 118 [.t 68,(.c (.int .u64 19))]),Fs 10 70 (Bb .xor 64 69),Fs 16 76 (Bb .xor 70 75),Fm 17 10 76]
def Hx:List FI:=[Fm 0 77 8,Fm 1 78 10,Fm 2 79 8,Fs 3 80 (Bc .sub 79 7),Fs 4 81 (.iaddrA 64 1 (.t 7) (.t 80)),Fs 5 82 (Ld 81),Fs 6 83 (Bb .add 78 82),Fm 7 84 9,Fs 8 85 (Bb .add 83 84),Fm 9 86 8,Fs 10 87 (Bc .sub 86 16),Fs 11 88 (.iaddrA 64 1 (.t 7) (.t 87)),Fs 12 89 (Ld 88),Fs 13 90 (Bb .add 85 89),Fs 14 91 (.iaddrA 64 1 (.t 7) (.t 77)),Fr 15 1 91 90]
def Hw:List RI:=[omk 30 8,oo 31 (Bc .add 30 1) [30],omk 8 31]
def yR:RC:=(Sq (So TY (Kc 29 (Kk [29] .skip) (Kk [8,29] (.exit 2)))) (Sq (Bk 3 (Sq (So TX (Kc 33 (Kk [33] (So HB (.exit 3))) (Kk [33] .skip))) (Sq (.flt [0,1,3,7,15,0,32,96,224,511,1023,0,2048,6144,14336,30720,65535,131071] [] Hz [43,44,45,46,47,48,49,50,51,52,53,54,55,56,57,58,59]) (Sq (.flt [0,1,3,7,15,0,32,96,224,511,1023,0,2048,6144,14336,30720,65535,131071] [] Hy [60,61,62,63,64,65,66,67,68,69,70,71,72,73,74,75,76]) (.flt [0,0,0,4,12,28,62,0,254,0,512,1536,3584,8190,16383,32767] [] Hx [9,10,77,78,79,80,81,82,83,84,85,86,87,88,89,90,91]))))) (.ops Hw)))
def xX:RC:=yR
def Hv:List RI:=[on 92 (.lit 1 []),om 93 4,oo 94 (.app [.int .u32 0] 4 (.t 92) (.t 93)) [92,93],omk 11 94]
def Hu:List RI:=[on 12 (Mc 0)]
def Ht:List RI:=[om 95 12,oo 96 (Bc .lss 95 64) [95]]
def Hs:List FI:=[Fm 0 99 11,Fs 1 100 (.iaddrL 1 (.t 99) (ci 0)),Fs 2 101 (Ld 100),Fm 3 102 11,Fs 4 103 (.iaddrL 1 (.t 102) (ci 4)),Fs 5 104 (Ld 103),Fm 6 13 101,Fm 7 14 104]
def Hr:List FI:=[Fm 0 105 11,Fs 1 106 (.iaddrL 1 (.t 105) (ci 7)),Fs 2 107 (Ld 106),Fm 3 108 14,Fm 5 110 14,Fm 8 113 14,Fm 12 117 14,Fm 13 118 11,Fs 14 119 (.iaddrL 1 (.t 118) (ci 5)),Fs 15 120 (Ld 119),Fs 16 121 (Bb .and 117 120),Fm 17 122 14,Fs 18 123 (.un .xor (.t 122)),Fm 19 124 11,Fs 20 125 (.iaddrL 1 (.t 124) (ci 6)),Fs 21 126 (Ld 125),Fs 22 127 (Bb .and 123 126),Fs 23 128 (Bb .xor 121 127),Fm 25 130 12,Fs 26 131 (.iaddrA 64 1 (.t 3) (.t 130)),Fs 27 132 (Ld 131),Fm 29 134 12,Fs 30 135 (.iaddrA 64 1 (.t 7) (.t 134)),Fs 31 136 (Ld 135),Fz 4 109 (Ca 118 [.t 108,(.c (.int .u64 6))]),Fz 6 111 (Ca 118 [.t 110,(.c (.int .u64 11))]),Fs 7 112 (Bb .xor 109 111),Fz 9 114 (Ca 118 [.t 113,(.c (.int .u64 25))]),Fs 10 115 (Bb .xor 112 114),Fs 11 116 (Bb .add 107 115),Fs 24 129 (Bb .add 116 128),Fs 28 133 (Bb .add 129 132),Fs 32 137 (Bb .add 133 136),Fm 33 15 137]
def Hq:List FI:=[Fm 0 138 13,Fm 2 140 13,Fm 5 143 13,Fm 8 146 13,Fm 9 147 11,Fs 10 148 (.iaddrL 1 (.t 147) (ci 1)),Fs 11 149 (Ld 148),Fs 12 150 (Bb .and 146 149),Fm 13 151 13,Fm 14 152 11,Fs 15 153 (.iaddrL 1 (.t 152) (ci 2)),Fs 16 154 (Ld 153),Fs 17 155 (Bb .and 151 154),Fs 18 156 (Bb .xor 150 155),Fm 19 157 11,Fs 20 158 (.iaddrL 1 (.t 157) (ci 1)),Fs 21 159 (Ld 158),Fm 22 160 11,Fs 23 161 (.iaddrL 1 (.t 160) (ci 2)),Fs 24 162 (Ld 161),Fs 25 163 (Bb .and 159 162),Fs 26 164 (Bb .xor 156 163),Fz 1 139 (Ca 118 [.t 138,(.c (.int .u64 2))]),Fz 3 141 (Ca 118 [.t 140,(.c (.int .u64 13))]),Fs 4 142 (Bb .xor 139 141),Fz 6 144 (Ca 118 [.t 143,(.c (.int .u64 22))]),Fs 7 145 (Bb .xor 142 144),Fs 27 165 (Bb .add 145 164),Fm 28 16 165]
def Hp:List FI:=[Fm 0 166 15,Fm 1 167 16,Fs 2 168 (Bb .add 166 167),Fm 3 169 13,Fm 4 170 11,Fs 5 171 (.iaddrL 1 (.t 170) (ci 1)),Fs 6 172 (Ld 171),Fm 7 173 11,Fs 8 174 (.iaddrL 1 (.t 173) (ci 2)),Fs 9 175 (Ld 174),Fm 10 176 11,Fs 11 177 (.iaddrL 1 (.t 176) (ci 3)),Fs 12 178 (Ld 177),Fm 13 179 15,Fs 14 180 (Bb .add 178 179),Fm 15 181 14,Fm 16 182 11,Fs 17 183 (.iaddrL 1 (.t 182) (ci 5)),Fs 18 184 (Ld 183),Fm 19 185 11,Fs 20 186 (.iaddrL 1 (.t 185) (ci 6)),Fs 21 187 (Ld 186),Fs 22 188 (.lit 1 [.t 168,.t 169,.t 172,.t 175,.t 180,.t 181,.t 184,.t 187]),⟨23,false,(xm 11 188)⟩]
def Ho:List RI:=[omk 97 12,oo 98 (Bc .add 97 1) [97],omk 12 98]
def yQ:RC:=(Sq (So Ht (Kc 96 (Kk [96] .skip) (Kk [7,12,96] (.exit 4)))) (Sq (Bk 5 (Sq (.flt [0,1,3,0,8,24,7,127] [] Hs [99,100,101,102,103,104]) (Sq (.flt [0,1,3,0,8,0,56,120,0,376,1016,2047,0,0,8192,24576,61440,0,131072,0,524288,1572864,4063232,8384512,16777215,0,33554432,100663296,268435455,0,536870912,1610612736,4294967295,8589934591] [] Hr [105,106,107,108,109,110,111,112,113,114,115,116,117,118,119,120,121,122,123,124,125,126,127,128,129,130,131,132,133,134,135,136,137]) (Sq (.flt [0,1,0,7,15,0,47,127,0,0,512,1536,3840,0,0,16384,49152,122880,261888,0,524288,1572864,0,4194304,12582912,33030144,67108608,134217727,268435455] [] Hq [138,139,140,141,142,143,144,145,146,147,148,149,150,151,152,153,154,155,156,157,158,159,160,161,162,163,164,165]) (.flt [0,0,3,0,0,16,48,0,128,384,0,1024,3072,0,15360,0,0,65536,196608,0,524288,1572864,4194303,8388607] [] Hp [13,14,15,16,166,167,168,169,170,171,172,173,174,175,176,177,178,179,180,181,182,183,184,185,186,187,188]))))) (.ops Ho)))
def xW:RC:=yQ
def xV:List RI:=[on 17 (Mc 0)]
def Hn:List RI:=[om 189 17,oo 190 (Bc .lss 189 8) [189]]
def Hm:List FI:=[Fm 0 193 4,Fm 1 194 17,Fs 2 195 (Ia 1 193 194),Fs 3 196 (Ld 195),Fm 4 197 11,Fm 5 198 17,Fs 6 199 (Ia 1 197 198),Fs 7 200 (Ld 199),Fs 8 201 (Bb .add 196 200),Fs 9 202 (Ia 1 193 194),Fr 10 1 202 201]
def Hl:List RI:=[omk 191 17,oo 192 (Bc .add 191 1) [191],omk 17 192]
def yP:RC:=(Sq (So Hn (Kc 190 (Kk [190] .skip) (Kk [11,17,190] (.exit 6)))) (Sq (Bk 7 (.flt [0,0,3,7,0,0,48,112,255,511,1023] [] Hm [193,194,195,196,197,198,199,200,201,202])) (.ops Hl)))
def xU:RC:=yP
def Hk:List RI:=[omk 26 6,oo 27 (Bc .add 26 64) [26],omk 6 27]
def yO:RC:=(.post (Sq (So T0 (Kc 25 (Kk [25] .skip) (Kk [3,5,6,25] (.exit 0)))) (Sq (Bk 1 (So TZ (Sq (So tU (Bk 2 (.loop xX))) (So Hv (Sq (So Hu (Bk 4 (.loop xW))) (So xV (Bk 6 (.loop xU)))))))) (.ops Hk))) [.gc [107,194]])
def xT:RC:=yO
def Hj:List RI:=[omk 203 4,oo 204 (Ca 119 [.t 203]) [203],omk 2 204]
def r65:RC:=(So l7 (So T3 (So T2 (So T1 (Sq (So lU (Bk 0 (.loop xT))) (So Hj .ret))))))
def F65:FnC:=⟨r65,205,[.tmp 2],[],[]⟩
def TW:List RI:=[omk 8 0,oo 9 (.toInt .u8 (.t 8)) [8],oo 10 (.litB [.t 9]) [9],omk 5 10]
def TV:List RI:=[om 11 6,om 12 1,oo 13 (Ln 12) [12],oo 14 (Bb .lss 11 13) [11,13]]
def TU:List RI:=[om 17 1,om 18 6,oo 19 (Ia 1 17 18) [17,18],oo 20 (Ld 19) [19],oo 21 (Ln 20) [20],omk 7 21]
def TT:List RI:=[omk 22 5,om 23 7,oo 24 (.bin .shr (.t 23) (.c (.int .u64 24))) [23],oo 25 (.toInt .u8 (.t 24)) [24],om 26 7,oo 27 (.bin .shr (.t 26) (.c (.int .u64 16))) [26],oo 28 (.toInt .u8 (.t 27)) [27],om 29 7,oo 30 (.bin .shr (.t 29) (.c (.int .u64 8))) [29],oo 31 (.toInt .u8 (.t 30)) [30],omk 32 7,oo 33 (.toInt .u8 (.t 32)) [32],oo 34 (.litB [.t 25,.t 28,.t 31,.t 33]) [25,28,31,33],oo 35 (.app [.u8 0] 1 (.t 22) (.t 34)) [22,34],omk 5 35]
def TS:List RI:=[omk 36 5,om 37 1,om 38 6,oo 39 (Ia 1 37 38) [37,38],oo 40 (Ld 39) [39],oo 41 (.app [.u8 0] 1 (.t 36) (.t 40)) [36,40],omk 5 41]
def TR:List RI:=[omk 15 6,oo 16 (Bc .add 15 1) [15],omk 6 16]
def OM:RC:=(.post (Sq (So TV (Kc 14 (Kk [14] .skip) (Kk [1,6,14] (.exit 0)))) (Sq (Bk 1 (So TU (So TT (.ops TS)))) (.ops TR))) [.tok 5 105])
def TQ:RC:=OM
def TP:List RI:=[omk 42 5,omk 4 42]
def r66:RC:=(So jH (So TW (Sq (So lU (Bk 0 (.pre [.tok 5 105] (.loop TQ)))) (So TP .ret))))
def F66:FnC:=⟨r66,43,[.tmp 4],[],[]⟩
def Oe:List RI:=[oo 1 (.box (.t 0)) [0],oo 2 (.mov (.c (.lst 1 [] .clip))) [2]]
def Od:List RI:=[on 3 (.mov (.c (.lst 1 [] .clip)))]
def TO:List RI:=[om 7 5,on 8 (Fa 3 1),oo 9 (Ld 8) [8],oo 10 (Ln 9) [9],oo 11 (Bb .lss 7 10) [7,10]]
def TN:List RI:=[on 14 (Fa 3 1),oo 15 (Ld 14) [14],om 16 5,oo 17 (Ia 1 15 16) [15,16],oo 18 (Ld 17) [17],omk 6 18]
def TL:List RI:=[om 19 6,oo 20 (.bin .eql (.t 19) (.c (.u8 10))) [19]]
def TK:List RI:=[om 21 4,oo 22 (Ln 21) [21],oo 23 (Bc .eql 22 0) [22],omk 24 23,.grp 24 false [(xi 25 24 false (Mv 3)),(xi 26 24 false (Ln 25)),(xi 27 24 false (Bc .geq 26 4))] [25,26],oo 28 (Pt 24 27) [24,27]]
def wz:List RI:=[on 2 (.mov (.c (.lst 1 [] .clip)))]
def TJ:List RI:=[omk 29 3,omk 30 4,oo 31 (.lit 1 [.t 30]) [30],oo 32 (.app [.byt [] .clip] 24 (.t 29) (.t 31)) [29,31],omk 3 32]
def Hi:List RI:=[om 33 6,oo 34 (.bin .lss (.t 33) (.c (.u8 32))) [33],omk 35 34,.grp 35 false [(xi 36 35 false (Mv 6)),(xi 37 35 false (.bin .gtr (.t 36) (.c (.u8 126))))] [36],oo 38 (Pt 35 37) [35,37]]
def Hh:List RI:=[omk 39 4,omk 40 6,oo 41 (.litB [.t 40]) [40],oo 42 (.app [.u8 0] 1 (.t 39) (.t 41)) [39,41],omk 4 42]
def Hg:List RI:=[omk 12 5,oo 13 (Bc .add 12 1) [12],omk 5 13]
def yN:RC:=(.post (Sq (So TO (Kc 11 (Kk [11] .skip) (Kk [1,5,11] (.exit 0)))) (Sq (Bk 1 (So TN (Sq (So TL (Kc 20 (Kk [6,20] (Sq (So TK (Kc 28 (Kk [1,3,4,5,28] (So wz .ret)) (Kk [28] .skip))) (So TJ (So kI (.exit 1))))) (Kk [20] .skip))) (Sq (So Hi (Kc 38 (Kk [1,3,4,5,6,38] (So wz .ret)) (Kk [38] .skip))) (.ops Hh))))) (.ops Hg))) [.tok 3 103,.tok 4 104])
def xS:RC:=yN
def Hf:List RI:=[omk 43 4,oo 44 (Ln 43) [43],oo 45 (Bc .gtr 44 0) [44]]
def He:List RI:=[omk 46 3,omk 2 46]
def r70:RC:=(So Oe (So Od (So kI (Sq (So lR (Bk 0 (.pre [.tok 3 103,.tok 4 104] (.loop xS)))) (Sq (So Hf (Kc 45 (Kk [3,45] (So wz .ret)) (Kk [45] .skip))) (So He .ret))))))
def F70:FnC:=⟨r70,47,[.tmp 2],[],[]⟩
def TI:List FI:=[Fm 0 5 0,Fs 1 6 (.nchk (.t 5)),Fs 2 7 (Fa 1 6),Fs 3 8 (Ld 7),Fm 4 9 0,Fs 5 10 (.nchk (.t 9)),Fs 6 11 (Fa 0 10),Fs 7 12 (Ld 11),Fs 8 13 (Ln 12),Fs 9 14 (Bb .geq 8 13)]
def TH:List RI:=[om 15 0,on 16 (.nchk (.t 15)),oo 17 (Fa 1 16) [16],oo 18 (Ld 17) [17],oo 19 (Bc .add 18 1) [18],oo 20 (.nchk (.t 15)) [15],oo 21 (Fa 1 20) [20],Sr 1 21 19 [19,21]]
def TG:List FI:=[Fm 0 22 0,Fs 1 23 (.nchk (.t 22)),Fs 2 24 (Fa 0 23),Fs 3 25 (Ld 24),Fm 4 26 0,Fs 5 27 (.nchk (.t 26)),Fs 6 28 (Fa 1 27),Fs 7 29 (Ld 28),Fs 8 30 (Bc .sub 29 1),Fs 9 31 (Ia 1 25 30),Fs 10 32 (Ld 31),Fs 11 33 (.toInt .i64 (.t 32)),Fm 12 34 1,Fs 13 35 (Bb .rem 33 34),Fm 14 4 35]
def r71:RC:=(So oE (Sq (Sq (.flt [0,1,3,7,0,16,48,112,240,511] [] TI [5,6,7,8,9,10,11,12,13]) (Kc 14 (Kk [0,1,14] (So kK .ret)) (Kk [14] .skip))) (So TH (Sq (.flt [0,1,3,7,0,16,48,112,240,511,1023,2047,0,8191,16383] [] TG [0,1,22,23,24,25,26,27,28,29,30,31,32,33,34,35]) .ret))))
def F71:FnC:=⟨r71,36,[.tmp 4],[],[]⟩
def TF:List RI:=[on 4 (.new (.rc Zq0))]
def TE:List FI:=[Fm 0 7 1,Fm 2 9 0,Fm 5 12 0,Fz 1 8 (Ca 122 []),Fz 3 10 (Ca 71 [.t 9,ci 5]),Fs 4 11 (.idxA 5 1 false (.t 8) (.t 10)),Fz 6 13 (Ca 71 [.t 12,ci 5]),Fs 7 14 (.build Zq0 [(0,1,(.t 7)),(1,1,(.t 11)),(2,1,(.t 13))]),Fz 8 5 (.new (.rc Zq0)),Fr 9 4 5 14]
def TD:List RI:=[om 15 0,oo 16 (Ca 71 [.t 15,ci 9]) [15],oo 17 (Bc .eql 16 8) [16]]
def TC:List RI:=[om 18 0,oo 19 (Ca 71 [.t 18,ci 3]) [18],oo 20 (.bin .sub (ci 1000000) (.t 19)) [19],on 21 (Fa 2 5),Sr 1 21 20 [20,21]]
def TB:List RI:=[omk 22 1,oo 23 (Bc .eql 22 4) [22]]
def TA:List RI:=[omk 24 0,oo 25 (Ca 123 [.t 24]) [24],on 26 (Fa 3 5),Sr 1 26 25 [25,26]]
def Tz:List RI:=[oo 27 (Lt 4 5) [5],Sr 4 4 27 [27]]
def Ty:List RI:=[om 28 0,oo 29 (Ca 71 [.t 28,ci 7]) [28],oo 30 (.mkB (.t 29) (.t 29)) [29],on 31 (Fa 3 5),Sr 1 31 30 [30,31]]
def Tx:List RI:=[om 32 6,on 33 (Fa 3 5),oo 34 (Ld 33) [33],oo 35 (Ln 34) [34],oo 36 (Bb .lss 32 35) [32,35]]
def Hd:List FI:=[Fs 0 39 (Fa 3 5),Fs 1 40 (Ld 39),Fm 2 41 6,Fm 3 42 0,Fz 4 43 (Ca 71 [.t 42,ci 256]),Fs 5 44 (.toInt .u8 (.t 43)),Fs 6 45 (Ia 1 40 41),Fr 7 1 45 44]
def Hc:List RI:=[omk 37 6,oo 38 (Bc .add 37 1) [37],omk 6 38]
def yM:RC:=(Sq (So Tx (Kc 36 (Kk [36] .skip) (Kk [0,6,36] (.exit 0)))) (Sq (Bk 1 (.flt [0,1,0,0,8,24,63,127] [] Hd [39,40,41,42,43,44,45])) (.ops Hc)))
def tQ:RC:=yM
def Hb:List RI:=[oo 46 (Lt 4 5) [5],Sr 4 4 46 [46]]
def r72:RC:=(So TF (Sq (.fla [0,0,0,6,14,0,46,127,0,511] [105] TE [[0,2,5,1,3,4,6,7,8,9],[0,2,5,1,3,4,8,6,7,9],[0,2,5,1,8,3,4,6,7,9],[0,2,5,8,1,3,4,6,7,9]] [7,8,9,10,11,12,13,14]) (Sq (So TD (Kc 17 (Kk [17] (.ops TC)) (Kk [17] .skip))) (Sq (So TB (Kc 23 (Kk [23] (So TA (So Tz .ret))) (Kk [23] .skip))) (So Ty (Sq (So lU (Bk 0 (.loop tQ))) (So Hb .ret)))))))
def F72:FnC:=⟨r72,47,[.cell 4 4 true],[],[]⟩
def Tw:List RI:=[on 4 (.build [.str [],.str [],.str [],.str [],.str [],.str []] [(0,1,(.c (.str [97,61,49]))),(1,1,(.c (.str [99,111,117,110,116,61,53]))),(2,1,(.c (.str [99,111,117,110,116,61,49,55]))),(3,1,(.c (.str [104,111,115,116,61,120]))),(4,1,(.c (.str [109,111,100,101,32,98]))),(5,1,(.c (.str [126])))]),on 3 (.new (.arr 1 (aq 6 [.str []]))),Sr 6 3 4 [4]]
def Tv:List RI:=[omk 5 0,oo 6 (Ca 71 [.t 5,ci 6]) [5],oo 7 (.iaddrA 6 1 (.t 3) (.t 6)) [3,6],oo 8 (Ld 7) [7],oo 9 (.s2b (.t 8)) [8],omk 2 9]
def r73:RC:=(So l7 (So Tw (So Tv .ret)))
def F73:FnC:=⟨r73,10,[.tmp 2],[],[]⟩
def Oc:List RI:=[om 6 0,oo 7 (Ln 6) [6],on 8 (Mc 0)]
def DZ:List RI:=[on 9 (Bb .lss 8 7)]
def Ob:List RI:=[om 10 8,omk 5 10]
def Oa:List RI:=[om 11 1,om 12 0,om 13 5,oo 14 (Ia 4 12 13) [12,13],oo 15 (Lt 4 14) [14],oo 16 (.call (.t 11) [.t 15]) [11,15]]
def N9:List RI:=[omk 17 5,omk 4 17]
def N8:List RI:=[oo 18 (Bc .add 8 1) [8],omk 8 18]
def OL:RC:=(So DZ (Sq (Kc 9 (Kk [9] .skip) (Kk [0,1,7,8,9] (.exit 0))) (Sq (Bk 1 (So Ob (So Oa (Kc 16 (Kk [0,1,7,8,16] (So N9 .ret)) (Kk [5,16] .skip))))) (.ops N8))))
def N7:RC:=OL
def r75:RC:=(So oE (Sq (So Oc (Bk 0 (.loop N7))) (So oC .ret)))
def F75:FnC:=⟨r75,19,[.tmp 4],[],[]⟩
def N6:List RI:=[oo 2 (.box (.t 0)) [0],oo 3 (Mb false) [3]]
def Tu:List FI:=[Fs 0 4 (Fa 0 1),Fs 1 5 (Ld 4),Fs 2 6 (Fa 0 2),Fs 3 7 (Ld 6),Fz 4 8 (Ca 33 [.t 7]),Fs 5 9 (Bb .eql 5 8),Fm 6 10 9,Fi 7 11 10 true (Fa 2 1),Fi 8 12 10 true (Ld 11),Fi 9 13 10 true (Ln 12),Fi 10 14 10 true (Bc .gtr 13 1),Fs 11 15 (Pf 10 14),Fm 12 16 15,Fi 13 17 16 true (Fa 2 1),Fi 14 18 16 true (Ld 17),Fi 15 19 16 true (.iaddrL 1 (.t 18) (ci 1)),Fi 16 20 16 true (Ld 19),Fi 17 21 16 true (Fa 3 2),Fi 18 22 16 true (Ld 21),Fy 19 23 16 true (Ca 77 [.t 20,.t 22]),Fs 20 24 (Pf 16 23),Fm 21 25 24,Fi 22 26 25 true (Fa 3 1),Fi 23 27 25 true (Ld 26),Fi 24 28 25 true (.b2s (.t 27)),Fi 25 29 25 true (Fa 1 2),Fi 26 30 25 true (Ld 29),Fi 27 31 25 true (.bin .add (.t 30) (.c (.str [32]))),Fi 28 32 25 true (Fa 2 2),Fi 29 33 25 true (Ld 32),Fy 30 34 25 true (Ca 78 [.t 33]),Fi 31 35 25 true (Bb .add 31 34),Fi 32 36 25 true (Bb .eql 28 35),Fs 33 37 (Pf 25 36),Fm 34 3 37]
def r76:RC:=(So N6 (Sq (.flt [0,1,0,4,12,31,63,127,255,511,1023,2047,4095,8191,16383,32767,65535,8191,139263,524287,1048575,2097151,4194303,8388607,16777215,4194303,37748735,104857599,4194303,272629759,809500671,2118123519,4294967295,8589934591,17179869183] [] Tu [1,2,4,5,6,7,8,9,10,11,12,13,14,15,16,17,18,19,20,21,22,23,24,25,26,27,28,29,30,31,32,33,34,35,36,37]) .ret))
def F76:FnC:=⟨r76,38,[.tmp 3],[],[]⟩
def Tt:List RI:=[omk 5 0,oo 6 (.b2s (.t 5)) [5],omk 7 1,oo 8 (.b2s (.t 7)) [7],oo 9 (Bb .eql 6 8) [6,8],omk 4 9]
def r77:RC:=(So qI (So Tt .ret))
def F77:FnC:=⟨r77,10,[.tmp 4],[],[]⟩
def DY:List RI:=[oo 2 (.mov (.c (.str []))) [2]]
def Ts:List RI:=[omk 3 0,oo 4 (Ca 124 [.t 3]) [3],omk 2 4]
def r78:RC:=(So DY (So Ts .ret))
def F78:FnC:=⟨r78,5,[.tmp 2],[],[]⟩
def Tr:List RI:=[oo 1 (.box (.t 0)) [0],oo 2 (Mb false) [2]]
def Tq:List RI:=[on 8 (Fa 1 1),oo 9 (Ld 8) [8],oo 10 (Bc .neq 9 1) [9],omk 11 10,.grp 11 true [(xi 12 11 true (Fa 1 1)),(xi 13 11 true (Ld 12)),(xi 14 11 true (Bc .neq 13 5))] [12,13],oo 15 (Pf 11 14) [11,14],omk 3 15]
def Tp:List RI:=[on 16 (Fa 1 1),oo 17 (Ld 16) [16]]
def To:List RI:=[on 19 (Bc .eql 17 1),omk 18 19]
def Tn:List RI:=[on 21 (Bc .eql 17 2),omk 20 21]
def Tm:List FI:=[Fs 0 22 (Fa 3 1),Fs 1 23 (Ld 22),Fz 2 24 (.mkB (ci 4) (ci 4)),Fz 3 25 (Ca 77 [.t 23,.t 24]),Fs 4 26 (.un .not (.t 25))]
def Tl:List RI:=[on 28 (Bc .eql 17 3),omk 27 28]
def Tk:List RI:=[on 29 (Fa 3 1),oo 30 (Ld 29) [29],oo 31 (Ln 30) [30],oo 32 (Bc .eql 31 0) [31]]
def Ha:List RI:=[on 33 (Fa 3 1),oo 34 (Ld 33) [33],on 35 (Ln 34),on 36 (Mc 0)]
def G9:List RI:=[on 37 (Bb .lss 36 35)]
def G8:List RI:=[on 38 (Ia 1 34 36),oo 39 (Ld 38) [38],omk 5 39]
def G7:List RI:=[om 40 5,oo 41 (.bin .lss (.t 40) (.c (.u8 32))) [40],omk 42 41,.grp 42 false [(xi 43 42 false (Mv 5)),(xi 44 42 false (.bin .gtr (.t 43) (.c (.u8 126))))] [5,43],oo 45 (Pt 42 44) [42,44]]
def G6:List RI:=[oo 46 (Bc .add 36 1) [36],omk 36 46]
def yL:RC:=(So G9 (Sq (Kc 37 (Kk [37] .skip) (Kk [34,35,36,37] (.exit 1))) (Sq (Bk 2 (So G8 (So G7 (Kc 45 (Kk [1,3,34,35,36,45] (So nH .ret)) (Kk [45] .skip))))) (.ops G6))))
def xR:RC:=yL
def G5:List RI:=[on 48 (Bc .eql 17 4),omk 47 48]
def G4:List RI:=[oo 49 (Bc .eql 17 5) [17],omk 47 49]
def G3:List RI:=[on 50 (Fa 2 1),oo 51 (Ld 50) [50],oo 52 (Ln 51) [51],oo 53 (.mini (.t 52) (ci 2)) [52],on 54 (Mc 0)]
def G2:List RI:=[on 55 (Bb .lss 54 53)]
def G1:List RI:=[om 56 54,omk 6 56]
def GZ:List RI:=[on 57 (Fa 2 1),oo 58 (Ld 57) [57],om 59 6,oo 60 (Ia 1 58 59) [58,59],oo 61 (Ld 60) [60],omk 7 61]
def GY:List RI:=[om 62 7,oo 63 (Ln 62) [62],oo 64 (Bc .gtr 63 0) [63],omk 65 64,.grp 65 true [(xi 66 65 true (Mv 3)),(xi 67 65 true (.un .not (.t 66))),(xi 68 65 true (Mv 67))] [66,67],.grp 68 false [(xi 69 68 false (Mv 7)),(xi 70 68 false (Mv 6)),(xi 71 68 false (Fa 3 1)),(xi 72 68 false (Ld 71)),(xi 73 68 false (Ca 90 [.t 70,.t 72])),(xi 74 68 false (Ca 77 [.t 69,.t 73])),(xi 75 68 false (.un .not (.t 74)))] [6,7,69,70,71,72,73,74],.grp 65 true [(xi 76 65 true (Pt 68 75))] [68,75],oo 77 (Pf 65 76) [65,76]]
def GX:List RI:=[oo 78 (Bc .add 54 1) [54],omk 54 78]
def yK:RC:=(So G2 (Sq (Kc 55 (Kk [55] .skip) (Kk [1,3,53,54,55] (.exit 3))) (Sq (Bk 4 (So G1 (So GZ (So GY (Kc 77 (Kk [1,3,53,54,77] (So nH .ret)) (Kk [77] .skip)))))) (.ops GX))))
def xQ:RC:=yK
def r79:RC:=(So Tr (So Tq (Sq (So Tp (Bk 0 (So To (Kc 18 (Kk [1,3,17,18] (So qc .ret)) (Kk [18] (So Tn (Kc 20 (Kk [17,20] (Sq (.flt [0,1,0,7,15] [124] Tm [22,23,24,25]) (Kc 26 (Kk [1,3,26] (So nH .ret)) (Kk [26] .skip)))) (Kk [20] (So Tl (Kc 27 (Kk [17,27] (Sq (So Tk (Kc 32 (Kk [1,3,32] (So nH .ret)) (Kk [32] .skip))) (So Ha (Bk 1 (.loop xR))))) (Kk [27] (Sq (So G5 (Kc 47 (Kk [17] .skip) (Kk [47] (.ops G4)))) (Kc 47 (Kk [47] .skip) (Kk [1,3,47] (So nH .ret))))))))))))))) (Sq (So G3 (Bk 3 (.loop xQ))) (So qc .ret)))))
def F79:FnC:=⟨r79,79,[.tmp 2],[],[]⟩
def OK:RC:=(So DZ (Sq (Kc 9 (Kk [9] .skip) (Kk [0,1,7,8,9] (.exit 0))) (Sq (Bk 1 (So Ob (So Oa (Kc 16 (Kk [0,1,7,8,16] (So N9 .ret)) (Kk [5,16] .skip))))) (.ops N8))))
def N5:RC:=OK
def r80:RC:=(So oE (Sq (So Oc (Bk 0 (.loop N5))) (So oC .ret)))
def F80:FnC:=⟨r80,19,[.tmp 4],[],[]⟩
def Tj:List RI:=[oo 4 (Lt 4 2) [2],oo 5 (Fa 3 1) [1],oo 6 (Ld 5) [5],oo 7 (Ca 35 [.t 4,.t 6]) [4,6],omk 3 7]
def r81:RC:=(So N6 (So Tj .ret))
def F81:FnC:=⟨r81,8,[.tmp 3],[],[]⟩
def N4:List RI:=[omk 3 0]
def Ti:List RI:=[on 5 (Bc .eql 3 1),omk 4 5]
def Th:List RI:=[on 7 (Bc .eql 3 2),omk 6 7]
def Tg:List RI:=[on 9 (Bc .eql 3 3),omk 8 9]
def Tf:List RI:=[on 2 (Mc 8)]
def Te:List RI:=[oo 11 (Bc .eql 3 4) [3],omk 10 11]
def Td:List RI:=[on 2 (Mc 9)]
def r82:RC:=(So kJ (Sq (So N4 (Bk 0 (So Ti (Kc 4 (Kk [3,4] (So iU .ret)) (Kk [4] (So Th (Kc 6 (Kk [3,6] (So oG .ret)) (Kk [6] (So Tg (Kc 8 (Kk [3,8] (So Tf .ret)) (Kk [8] (So Te (Kc 10 (Kk [10] (So Td .ret)) (Kk [10] .skip)))))))))))))) (So wB .ret)))
def F82:FnC:=⟨r82,12,[.tmp 2],[],[]⟩
def N3:List RI:=[om 3 0,oo 4 (Bc .lss 3 10) [3]]
def Tc:List RI:=[omk 5 0,oo 6 (.bin .add (ci 48) (.t 5)) [5],oo 7 (.toInt .u8 (.t 6)) [6],oo 8 (.litB [.t 7]) [7],omk 2 8]
def Tb:List RI:=[om 9 0,oo 10 (Bc .quo 9 10) [9],oo 11 (Ca 85 [.t 10]) [10],omk 12 0,oo 13 (Bc .rem 12 10) [12],oo 14 (.bin .add (ci 48) (.t 13)) [13],oo 15 (.toInt .u8 (.t 14)) [14],oo 16 (.litB [.t 15]) [15],oo 17 (.app [.u8 0] 1 (.t 11) (.t 16)) [11,16],omk 2 17]
def r85:RC:=(So l7 (Sq (So N3 (Kc 4 (Kk [4] (So Tc .ret)) (Kk [4] .skip))) (So Tb .ret)))
def F85:FnC:=⟨r85,18,[.tmp 2],[0],[]⟩
def Ta:List RI:=[on 5 (Mc 0),on 6 (Mc 0),on 7 (Mc (-1)),on 8 (Mc 0)]
def S9:List RI:=[om 9 6,om 10 1,oo 11 (Ln 10) [10],oo 12 (Bb .lss 9 11) [9,11]]
def S8:List RI:=[om 14 5,om 15 0,oo 16 (.len true (.t 15)) [15],oo 17 (Bb .lss 14 16) [14,16],omk 18 17,.grp 18 true [(xi 19 18 true (Mv 0)),(xi 20 18 true (Mv 5)),(xi 21 18 true (.idxS (.t 19) (.t 20))),(xi 22 18 true (.bin .eql (.t 21) (.c (.u8 42))))] [19,20,21],oo 23 (Pf 18 22) [18,22],omk 13 23]
def S7:List RI:=[om 24 5,om 25 6,omk 26 5,oo 27 (Bc .add 26 1) [26],omk 7 24,omk 8 25,omk 5 27]
def S6:List FI:=[Fm 0 29 5,Fm 1 30 0,Fs 2 31 (.len true (.t 30)),Fs 3 32 (Bb .lss 29 31),Fm 4 33 32,Fi 5 34 33 true (Mv 0),Fi 6 35 33 true (Mv 5),Fi 7 36 33 true (.idxS (.t 34) (.t 35)),Fi 8 37 33 true (.bin .eql (.t 36) (.c (.u8 63))),Fi 9 38 33 true (Mv 37),Fi 10 39 38 false (Mv 0),Fi 11 40 38 false (Mv 5),Fi 12 41 38 false (.idxS (.t 39) (.t 40)),Fi 13 42 38 false (Mv 1),Fi 14 43 38 false (Mv 6),Fi 15 44 38 false (Ia 1 42 43),Fi 16 45 38 false (Ld 44),Fi 17 46 38 false (Bb .eql 41 45),Fi 18 47 33 true (Pt 38 46),Fs 19 48 (Pf 33 47),Fm 20 28 48]
def S5:List RI:=[omk 49 5,oo 50 (Bc .add 49 1) [49],omk 51 6,oo 52 (Bc .add 51 1) [51],omk 5 50,omk 6 52]
def S4:List RI:=[om 54 7,oo 55 (Bc .geq 54 0) [54],omk 53 55]
def S3:List RI:=[om 56 7,oo 57 (Bc .add 56 1) [56],om 58 8,oo 59 (Bc .add 58 1) [58],omk 60 8,oo 61 (Bc .add 60 1) [60],omk 5 57,omk 6 59,omk 8 61]
def yJ:RC:=(Sq (So S9 (Kc 12 (Kk [12] .skip) (Kk [1,6,7,8,12] (.exit 0)))) (Bk 1 (Bk 2 (So S8 (Kc 13 (Kk [7,8,13] (.ops S7)) (Kk [13] (Sq (.flt [0,0,2,7,15,31,31,127,255,511,1023,1023,4095,1023,1023,25599,58367,131071,262143,524287,1048575] [] S6 [29,30,31,32,33,34,35,36,37,38,39,40,41,42,43,44,45,46,47,48]) (Kc 28 (Kk [28] (.ops S5)) (Kk [5,6,28] (So S4 (Kc 53 (Kk [53] (.ops S3)) (Kk [0,1,7,8,53] (So oD .ret)))))))))))))
def xP:RC:=yJ
def GV:List RI:=[omk 62 0,omk 63 5,oo 64 (.slcS (.t 62) (some (.t 63)) none) [62,63],oo 65 (Ca 127 [.t 64,(.c (.str [42]))]) [64],oo 66 (.bin .eql (.t 65) (.c (.str []))) [65],omk 4 66]
def r86:RC:=(So qI (So Ta (Sq (Bk 0 (.loop xP)) (So GV .ret))))
def F86:FnC:=⟨r86,67,[.tmp 4],[],[]⟩
def N2:List RI:=[oo 4 (.mov (.c (.str []))) [4],oo 5 (Mb false) [5]]
def S2:List RI:=[omk 6 0,omk 7 1,oo 8 (Ca 128 [.t 6,.t 7]) [6,7],on 9 (.ext (.t 8) 0),oo 10 (.ext (.t 8) 1) [8],omk 4 9,omk 5 10]
def r87:RC:=(So N2 (So S2 .ret))
def F87:FnC:=⟨r87,11,[.tmp 4,.tmp 5],[],[]⟩
def S1:List RI:=[om 6 0,oo 7 (.bin .eql (.t 6) (.c (.str []))) [6],omk 8 7,.grp 8 false [(xi 9 8 false (Mv 0)),(xi 10 8 false (.len true (.t 9))),(xi 11 8 false (Bc .gtr 10 10))] [9,10],oo 12 (Pt 8 11) [8,11],omk 13 12,.grp 13 false [(xi 14 13 false (Mv 0)),(xi 15 13 false (.len true (.t 14))),(xi 16 13 false (Bc .gtr 15 1)),(xi 17 13 false (Mv 16))] [14,15,16],.grp 17 true [(xi 18 17 true (Mv 0)),(xi 19 17 true (.idxS (.t 18) (ci 0))),(xi 20 17 true (.bin .eql (.t 19) (.c (.u8 48))))] [18,19],.grp 13 false [(xi 21 13 false (Pf 17 20))] [17,20],oo 22 (Pt 13 21) [13,21]]
def S0:List RI:=[om 23 0,oo 24 (.len true (.t 23)) [23],on 25 (Mc 0)]
def SZ:List RI:=[on 26 (Bb .lss 25 24)]
def SY:List RI:=[om 27 25,omk 3 27]
def SX:List RI:=[om 28 0,om 29 3,oo 30 (.idxS (.t 28) (.t 29)) [28,29],oo 31 (.bin .lss (.t 30) (.c (.u8 48))) [30],omk 32 31,.grp 32 false [(xi 33 32 false (Mv 0)),(xi 34 32 false (Mv 3)),(xi 35 32 false (.idxS (.t 33) (.t 34))),(xi 36 32 false (.bin .gtr (.t 35) (.c (.u8 57))))] [3,33,34,35],oo 37 (Pt 32 36) [32,36]]
def SW:List RI:=[oo 38 (Bc .add 25 1) [25],omk 25 38]
def OJ:RC:=(So SZ (Sq (Kc 26 (Kk [26] .skip) (Kk [24,25,26] (.exit 0))) (Sq (Bk 1 (So SY (So SX (Kc 37 (Kk [0,24,25,37] (So wB .ret)) (Kk [37] .skip))))) (.ops SW))))
def N1:RC:=OJ
def GU:List RI:=[omk 40 0,oo 41 (Ca 129 [.t 40]) [40],omk 39 41,on 42 (.ext (.t 39) 0),oo 43 (.ext (.t 39) 1) [39],omk 4 42,.op (xm 5 43) [5,43]]
def GT:List RI:=[omk 44 4,omk 2 44]
def r88:RC:=(So kJ (Sq (So S1 (Kc 22 (Kk [0,22] (So wB .ret)) (Kk [22] .skip))) (Sq (So S0 (Bk 0 (.loop N1))) (So GU (So GT .ret)))))
def F88:FnC:=⟨r88,45,[.tmp 2],[],[]⟩
def SU:List RI:=[on 4 (Fa 0 1),oo 5 (Ld 4) [4],oo 6 (Bc .lss 5 1) [5],omk 7 6,.grp 7 false [(xi 8 7 false (Fa 0 1)),(xi 9 7 false (Ld 8)),(xi 10 7 false (Bc .gtr 9 4))] [8,9],oo 11 (Pt 7 10) [7,10],omk 12 11,.grp 12 false [(xi 13 12 false (Fa 2 1)),(xi 14 12 false (Ld 13)),(xi 15 12 false (Bc .lss 14 0))] [13,14],oo 16 (Pt 12 15) [12,15],omk 17 16,.grp 17 false [(xi 18 17 false (Fa 2 1)),(xi 19 17 false (Ld 18)),(xi 20 17 false (Bc .gtr 19 1000000))] [18,19],oo 21 (Pt 17 20) [17,20],omk 3 21]
def SS:List RI:=[on 23 (Fa 1 1),oo 24 (Ld 23) [23],oo 25 (Ca 130 [.t 24]) [24],oo 26 (.un .not (.t 25)) [25],omk 22 26]
def SR:List RI:=[on 28 (Fa 3 1),oo 29 (Ld 28) [28],oo 30 (Ln 29) [29],oo 31 (Bc .gtr 30 64) [30],omk 27 31]
def SQ:List RI:=[on 33 (Fa 0 1),oo 34 (Ld 33) [33],oo 35 (Bc .eql 34 4) [34],omk 36 35,.grp 36 true [(xi 37 36 true (Lt 4 1)),(xi 38 36 true (Ca 98 [.t 37])),(xi 39 36 true (Ln 38)),(xi 40 36 true (Bc .eql 39 0))] [1,37,38,39],oo 41 (Pf 36 40) [36,40],omk 32 41]
def N0:List RI:=[on 2 (Mc 40)]
def r89:RC:=(So qM (Sq (Bk 0 (So SU (Kc 3 (Kk [1,3] (So gO .ret)) (Kk [3] (So SS (Kc 22 (Kk [1,22] (So qL .ret)) (Kk [22] (So SR (Kc 27 (Kk [1,27] (So oG .ret)) (Kk [27] (So SQ (Kc 32 (Kk [32] (So N0 .ret)) (Kk [32] .skip))))))))))))) (So iU .ret)))
def F89:FnC:=⟨r89,42,[.tmp 2],[],[]⟩
def SP:List RI:=[omk 9 0]
def SN:List RI:=[on 11 (Bc .eql 9 0),omk 10 11]
def SM:List RI:=[on 12 (.build [.int .u32 0,.int .u32 0,.int .u32 0,.int .u32 0,.int .u32 0] [(0,1,(.c (.int .u32 1732584193))),(1,1,(.c (.int .u32 4023233417))),(2,1,(.c (.int .u32 2562383102))),(3,1,(.c (.int .u32 271733878))),(4,1,(.c (.int .u32 3285377520)))]),on 5 (.new (.arr 1 (aq 5 [.int .u32 0]))),Sr 5 5 12 [12]]
def SL:List RI:=[omk 13 1,oo 14 (Ca 131 [.t 13]) [13],omk 6 14]
def SK:List RI:=[om 15 6,oo 16 (Ln 15) [15],oo 17 (Bc .gtr 16 0) [16]]
def SJ:List RI:=[om 20 6,oo 21 (.slcL 1 (.t 20) none (some (ci 64)) none) [20],oo 22 (Ca 132 [.t 5,.t 21]) [21,22]]
def SH:List RI:=[omk 18 6,oo 19 (.slcL 1 (.t 18) (some (ci 64)) none none) [18],omk 6 19]
def OI:RC:=(Sq (So SK (Kc 17 (Kk [17] .skip) (Kk [6,17] (.exit 1)))) (Sq (Bk 2 (.ops SJ)) (.ops SH)))
def NZ:RC:=OI
def SG:List RI:=[oo 23 (.slcA 5 1 (.t 5) none none none) [5],oo 24 (Ca 133 [.t 23]) [23],omk 4 24]
def GS:List RI:=[oo 26 (Bc .eql 9 1) [9],omk 25 26]
def GR:List RI:=[on 27 (.build [.int .u32 0,.int .u32 0,.int .u32 0,.int .u32 0,.int .u32 0,.int .u32 0,.int .u32 0,.int .u32 0] [(0,1,(.c (.int .u32 1779033703))),(1,1,(.c (.int .u32 3144134277))),(2,1,(.c (.int .u32 1013904242))),(3,1,(.c (.int .u32 2773480762))),(4,1,(.c (.int .u32 1359893119))),(5,1,(.c (.int .u32 2600822924))),(6,1,(.c (.int .u32 528734635))),(7,1,(.c (.int .u32 1541459225)))]),on 7 (.new (.arr 1 (aq 8 [.int .u32 0]))),Sr 8 7 27 [27]]
def GQ:List RI:=[omk 28 1,oo 29 (Ca 131 [.t 28]) [28],omk 8 29]
def GP:List RI:=[om 30 8,oo 31 (Ln 30) [30],oo 32 (Bc .gtr 31 0) [31]]
def GO:List RI:=[om 35 8,oo 36 (.slcL 1 (.t 35) none (some (ci 64)) none) [35],oo 37 (Ca 134 [.t 7,.t 36]) [36,37]]
def GN:List RI:=[omk 33 8,oo 34 (.slcL 1 (.t 33) (some (ci 64)) none none) [33],omk 8 34]
def yI:RC:=(Sq (So GP (Kc 32 (Kk [32] .skip) (Kk [8,32] (.exit 3)))) (Sq (Bk 4 (.ops GO)) (.ops GN)))
def xO:RC:=yI
def GL:List RI:=[oo 38 (.slcA 8 1 (.t 7) none none none) [7],oo 39 (Ca 133 [.t 38]) [38],omk 4 39]
def r90:RC:=(So jH (Sq (So SP (Bk 0 (So SN (Kc 10 (Kk [9,10] (So SM (Sq (So SL (Bk 1 (.loop NZ))) (So SG .ret)))) (Kk [10] (So GS (Kc 25 (Kk [25] (So GR (Sq (So GQ (Bk 3 (.loop xO))) (So GL .ret)))) (Kk [1,25] .skip)))))))) (So kI .ret)))
def F90:FnC:=⟨r90,40,[.tmp 4],[],[]⟩
def SF:List RI:=[on 4 (Lt 4 1),oo 5 (Ca 89 [.t 4]) [4],oo 6 (Bc .neq 5 0) [5]]
def SE:List RI:=[on 7 (Fa 0 1),oo 8 (Ld 7) [7],oo 9 (Ca 48 [(.c (.byt [] .clip)),ci 1,.t 8]) [8],omk 3 9]
def SD:List RI:=[omk 10 3,on 11 (Fa 2 1),oo 12 (Ld 11) [11],oo 13 (Ca 48 [.t 10,ci 4,.t 12]) [10,12],omk 3 13]
def SC:List RI:=[omk 14 3,on 15 (Fa 1 1),oo 16 (Ld 15) [15],oo 17 (.s2b (.t 16)) [16],oo 18 (Ca 49 [.t 14,.t 17]) [14,17],omk 3 18]
def SB:List RI:=[omk 19 3,oo 20 (Fa 3 1) [1],oo 21 (Ld 20) [20],oo 22 (Ca 49 [.t 19,.t 21]) [19,21],omk 2 22]
def r91:RC:=(So qK (Sq (So SF (Kc 6 (Kk [1,6] (So qJ .ret)) (Kk [6] .skip))) (So SE (So SD (So SC (So SB .ret))))))
def F91:FnC:=⟨r91,23,[.tmp 2],[],[]⟩
def SA:List RI:=[om 5 0,oo 6 (Ln 5) [5],omk 4 6]
def Sz:List RI:=[omk 7 0,om 8 4,omk 9 4,oo 10 (.toInt .u64 (.t 9)) [9],oo 11 (Ca 136 [.t 10]) [10],omk 12 1,oo 13 (Ca 135 [.t 7,ci 0,.t 8,.t 11,.t 12]) [7,8,11,12,13]]
def r92:RC:=(So SA (.ops Sz))
def F92:FnC:=⟨r92,14,[],[],[]⟩
def Sx:List RI:=[oo 4 (.mov (.c (.lst 4 [] .clip))) [4]]
def Sw:List RI:=[om 8 0,oo 9 (Ln 8) [8],oo 10 (Bc .lss 9 2) [9]]
def Sv:List RI:=[omk 11 0,omk 4 11]
def Su:List RI:=[om 12 5,om 13 0,oo 14 (Ln 13) [13],oo 15 (Bb .lss 12 14) [12,14]]
def Ss:List FI:=[Fm 0 18 1,Fm 1 19 0,Fm 2 20 5,Fs 3 21 (Ia 4 19 20),Fs 4 22 (Lt 4 21),Fm 5 23 0,Fm 6 24 5,Fs 7 25 (Bc .sub 24 1),Fs 8 26 (Ia 4 23 25),Fs 9 27 (Lt 4 26),Fz 10 28 (.call (.t 18) [.t 22,.t 27])]
def Sp:List RI:=[om 29 0,om 30 5,oo 31 (.slcL 4 (.t 29) (some (.t 30)) none none) [29,30],omk 6 31]
def Sn:List RI:=[on 7 (Mc 1)]
def Sm:List RI:=[om 32 7,om 33 6,oo 34 (Ln 33) [33],oo 35 (Bb .lss 32 34) [32,34]]
def Sl:List FI:=[Fm 0 38 1,Fm 1 39 6,Fm 2 40 7,Fs 3 41 (Ia 4 39 40),Fs 4 42 (Lt 4 41),Fm 5 43 6,Fm 6 44 7,Fs 7 45 (Bc .sub 44 1),Fs 8 46 (Ia 4 43 45),Fs 9 47 (Lt 4 46),Fz 10 48 (.call (.t 38) [.t 42,.t 47]),Fs 11 49 (.un .not (.t 48))]
def GK:List RI:=[om 50 0,om 51 5,om 52 6,om 53 7,oo 54 (Ia 4 52 53) [52,53],oo 55 (Lt 4 54) [54],oo 56 (Ia 4 50 51) [50,51],Sr 4 56 55 [55,56]]
def GJ:List RI:=[omk 57 5,oo 58 (Bc .add 57 1) [57],omk 5 58]
def GI:List RI:=[omk 36 7,oo 37 (Bc .add 36 1) [36],omk 7 37]
def yH:RC:=(Sq (So Sm (Kc 35 (Kk [35] .skip) (Kk [1,6,7,35] (.exit 2)))) (Sq (Bk 3 (Sq (.flt [0,0,0,6,14,0,0,64,224,480,1023,2047] [] Sl [38,39,40,41,42,43,44,45,46,47,48]) (Kc 49 (Kk [49] (So GK (.ops GJ))) (Kk [49] .skip)))) (.ops GI)))
def xN:RC:=yH
def GH:List RI:=[om 59 0,om 60 5,oo 61 (.slcL 4 (.t 59) (some (.t 60)) none none) [59,60],.op ⟨none,none,.clr [.int .i64 0,.str [],.int .i64 0,(.byt [] .no)] (.t 61)⟩ [61]]
def GG:List RI:=[omk 62 0,omk 63 5,oo 64 (.slcL 4 (.t 62) none (some (.t 63)) none) [62,63],omk 4 64]
def xM:List RI:=[omk 16 5,oo 17 (Bc .add 16 1) [16],omk 5 17]
def yG:RC:=(Sq (So Su (Kc 15 (Kk [15] .skip) (Kk [1,5,15] (.exit 0)))) (Sq (Bk 1 (Sq (.flt [0,0,0,6,14,0,0,64,224,480,1023] [] Ss [18,19,20,21,22,23,24,25,26,27]) (Kc 28 (Kk [28] (So Sp (Sq (So Sn (Bk 2 (.loop xN))) (So GH (So GG .ret))))) (Kk [28] .skip)))) (.ops xM)))
def tP:RC:=yG
def GF:List RI:=[omk 65 0,omk 4 65]
def r93:RC:=(So Sx (Sq (So Sw (Kc 10 (Kk [1,10] (So Sv .ret)) (Kk [10] .skip))) (Sq (So Oq (Bk 0 (.loop tP))) (So GF .ret))))
def F93:FnC:=⟨r93,66,[.tmp 4],[],[0]⟩
def Sk:List RI:=[oo 5 (Lt 4 2) [2],oo 6 (Lt 4 3) [3],oo 7 (Ca 43 [.t 5,.t 6]) [5,6],oo 8 (Bc .eql 7 0) [7],omk 4 8]
def r94:RC:=(So D1 (So Sk .ret))
def F94:FnC:=⟨r94,9,[.tmp 4],[],[]⟩
def Sj:List RI:=[on 4 (Lt 4 1),oo 5 (Ca 100 [.t 4]) [4],oo 6 (Bc .neq 5 0) [5]]
def Si:List RI:=[on 7 (Fa 0 1),oo 8 (Ld 7) [7],oo 9 (Ca 57 [(.c (.byt [] .clip)),ci 1,.t 8]) [8],omk 3 9]
def Sh:List RI:=[omk 10 3,on 11 (Fa 2 1),oo 12 (Ld 11) [11],oo 13 (Ca 57 [.t 10,ci 4,.t 12]) [10,12],omk 3 13]
def Sg:List RI:=[omk 14 3,on 15 (Fa 1 1),oo 16 (Ld 15) [15],oo 17 (.s2b (.t 16)) [16],oo 18 (Ca 56 [.t 14,.t 17]) [14,17],omk 3 18]
def Sf:List RI:=[omk 19 3,oo 20 (Fa 3 1) [1],oo 21 (Ld 20) [20],oo 22 (Ca 56 [.t 19,.t 21]) [19,21],omk 2 22]
def r95:RC:=(So qK (Sq (So Sj (Kc 6 (Kk [1,6] (So qJ .ret)) (Kk [6] .skip))) (So Si (So Sh (So Sg (So Sf .ret))))))
def F95:FnC:=⟨r95,23,[.tmp 2],[],[]⟩
def Se:List RI:=[oo 6 (Fa 3 1) [1],oo 7 (Ld 6) [6],omk 4 7]
def Sd:List RI:=[om 8 4,oo 9 (Ln 8) [8],oo 10 (Bc .gtr 9 0) [9]]
def Sc:List RI:=[om 11 4,oo 12 (Ca 138 [.t 11,(.c (.u8 10))]) [11],omk 5 12]
def Sb:List RI:=[om 13 5,oo 14 (Bc .lss 13 1) [13],omk 15 14,.grp 15 false [(xi 16 15 false (Mv 3)),(xi 17 15 false (Ln 16)),(xi 18 15 false (Bc .eql 17 4))] [16,17],oo 19 (Pt 15 18) [15,18],omk 20 19,.grp 20 false [(xi 21 20 false (Mv 4)),(xi 22 20 false (Mv 5)),(xi 23 20 false (.slcL 1 (.t 21) none (some (.t 22)) none)),(xi 24 20 false (Ca 139 [.t 23])),(xi 25 20 false (.un .not (.t 24)))] [21,22,23,24],oo 26 (Pt 20 25) [20,25]]
def Sa:List RI:=[omk 27 3,om 28 4,om 29 5,om 30 5,oo 31 (.slcL 1 (.t 28) none (some (.t 29)) (some (.t 30))) [28,29,30],oo 32 (.lit 1 [.t 31]) [31],oo 33 (.app [.byt [] .clip] 24 (.t 27) (.t 32)) [27,32],omk 3 33]
def R9:List RI:=[omk 34 4,omk 35 5,oo 36 (Bc .add 35 1) [35],oo 37 (.slcL 1 (.t 34) (some (.t 36)) none none) [34,36],omk 4 37]
def OH:RC:=(.post (Sq (So Sd (Kc 10 (Kk [10] .skip) (Kk [4,10] (.exit 0)))) (Bk 1 (So Sc (Sq (So Sb (Kc 26 (Kk [3,4,5,26] (So wz .ret)) (Kk [26] .skip))) (So Sa (.ops R9)))))) [.tok 3 103])
def DX:RC:=OH
def GE:List RI:=[omk 38 3,omk 2 38]
def r98:RC:=(So Oe (So Od (Sq (So Se (Bk 0 (.pre [.tok 3 103] (.loop DX)))) (So GE .ret))))
def F98:FnC:=⟨r98,39,[.tmp 2],[],[]⟩
def Nt:List RI:=[on 3 (Fa 0 1),oo 4 (Ld 3) [3],oo 5 (Bc .lss 4 1) [4],omk 6 5,.grp 6 false [(xi 7 6 false (Fa 0 1)),(xi 8 6 false (Ld 7)),(xi 9 6 false (Bc .gtr 8 4))] [7,8],oo 10 (Pt 6 9) [6,9],omk 11 10,.grp 11 false [(xi 12 11 false (Fa 2 1)),(xi 13 11 false (Ld 12)),(xi 14 11 false (Bc .lss 13 0))] [12,13],oo 15 (Pt 11 14) [11,14],omk 16 15,.grp 16 false [(xi 17 16 false (Fa 2 1)),(xi 18 16 false (Ld 17)),(xi 19 16 false (Bc .gtr 18 1000000))] [17,18],oo 20 (Pt 16 19) [16,19]]
def Ns:List RI:=[on 21 (Fa 1 1),oo 22 (Ld 21) [21],oo 23 (Ca 45 [.t 22]) [22],oo 24 (.un .not (.t 23)) [23]]
def Nr:List RI:=[on 25 (Fa 3 1),oo 26 (Ld 25) [25],oo 27 (Ln 26) [26],oo 28 (Bc .gtr 27 64) [27]]
def Nq:List RI:=[on 29 (Fa 0 1),oo 30 (Ld 29) [29],oo 31 (Bc .eql 30 4) [30],omk 32 31,.grp 32 true [(xi 33 32 true (Lt 4 1)),(xi 34 32 true (Ca 70 [.t 33])),(xi 35 32 true (Ln 34)),(xi 36 32 true (Bc .eql 35 0))] [1,33,34,35],oo 37 (Pf 32 36) [32,36]]
def xh9:RC:=(So qM (Sq (So Nt (Kc 20 (Kk [1,20] (So gO .ret)) (Kk [20] .skip))) (Sq (So Ns (Kc 24 (Kk [1,24] (So qL .ret)) (Kk [24] .skip))) (Sq (So Nr (Kc 28 (Kk [1,28] (So oG .ret)) (Kk [28] .skip))) (Sq (So Nq (Kc 37 (Kk [37] (So N0 .ret)) (Kk [37] .skip))) (So iU .ret))))))
def ZB:FnC:=⟨xh9,38,[.tmp 2],[],[]⟩
def Np:List RI:=[oo 2 (.box (.t 0)) [0],oo 4 (.mov (.c (.lst 1 [] .clip))) [4]]
def No:List RI:=[on 8 (.mk [(.byt [] .no)] 24 (ci 2) (ci 2)),omk 5 8]
def Nn:List RI:=[oo 9 (Lt 4 2) [2],oo 10 (Ca 95 [.t 9]) [9],omk 6 10]
def yy:List RI:=[on 7 (Mc 0)]
def Nm:List RI:=[om 11 7,oo 12 (Bc .lss 11 2) [11]]
def Nl:List RI:=[om 15 6,oo 16 (Ln 15) [15],oo 17 (Bc .gtr 16 0) [16],omk 18 17,.grp 18 true [(xi 19 18 true (Mv 1)),(xi 20 18 true (Mv 7)),(xi 21 18 true (Ca 120 [.t 19,.t 20]))] [19,20],oo 22 (Pf 18 21) [18,21]]
def Nk:List RI:=[om 23 5,om 24 7,om 25 7,om 26 6,oo 27 (Ca 121 [.t 25,.t 26]) [25,26],oo 28 (Ia 1 23 24) [23,24],Sr 1 28 27 [27,28]]
def Nj:List RI:=[omk 13 7,oo 14 (Bc .add 13 1) [13],omk 7 14]
def zD:RC:=(Sq (So Nm (Kc 12 (Kk [12] .skip) (Kk [1,6,7,12] (.exit 0)))) (Sq (Bk 1 (So Nl (Kc 22 (Kk [22] (.ops Nk)) (Kk [22] .skip)))) (.ops Nj)))
def Ni:RC:=zD
def Nh:List RI:=[omk 29 5,omk 4 29]
def xh8:RC:=(So Np (So No (So Nn (Sq (So yy (Bk 0 (.loop Ni))) (So Nh .ret)))))
def ZA:FnC:=⟨xh8,30,[.tmp 4],[],[]⟩
def Ng:List RI:=[on 0 (.new (.arr 1 (aq 3 [.str []])))]
def Nf:List RI:=[on 1 (.build [.str [],.str [],.str []] [(0,1,(.c (.str [97,99,109,101]))),(1,1,(.c (.str [118,50]))),(2,1,(.c (.str [120,45,121])))]),Sr 3 0 1 [1]]
def xh7:RC:=(So Ng (So Nf .ret))
def Zz:FnC:=⟨xh7,2,[.cell 0 3 true],[],[]⟩
def Nd:List RI:=[on 2 (.new (.rc Zq2))]
def Nc:List RI:=[om 5 0,oo 6 (Ca 71 [.t 5,ci 5]) [5]]
def Nb:List RI:=[on 8 (Bc .eql 6 0),omk 7 8]
def Na:List RI:=[on 9 (.build Zq2 [(0,1,(ci 1))]),Sr 4 2 9 [9]]
def M9:List RI:=[on 11 (Bc .eql 6 1),omk 10 11]
def M8:List RI:=[omk 12 0,oo 13 (Ca 73 [.t 12]) [12],oo 14 (.b2s (.t 13)) [13],oo 15 (.build Zq2 [(0,1,(ci 2)),(1,1,(.t 14))]) [14],Sr 4 2 15 [15]]
def M7:List RI:=[oo 17 (Bc .eql 6 2) [6],omk 16 17]
def M6:List RI:=[on 18 (.build [.str [],.str [],.str [],.str [],.str [],.str [],.str []] [(0,1,(.c (.str []))),(1,1,(.c (.str [42]))),(2,1,(.c (.str [97,61,63]))),(3,1,(.c (.str [42,61,42]))),(4,1,(.c (.str [63,111,42,53]))),(5,1,(.c (.str [99,111,117,110,116,61,63,63]))),(6,1,(.c (.str [42,97,42,42,49,42])))]),on 3 (.new (.arr 1 (aq 7 [.str []]))),Sr 7 3 18 [18]]
def M5:List RI:=[omk 19 0,oo 20 (Ca 71 [.t 19,ci 7]) [19],oo 21 (.iaddrA 7 1 (.t 3) (.t 20)) [3,20],oo 22 (Ld 21) [21],oo 23 (.build Zq2 [(0,1,(ci 3)),(1,1,(.t 22))]) [22],Sr 4 2 23 [23]]
def M4:List RI:=[om 24 0,oo 25 (Ca 71 [.t 24,ci 20]) [24],omk 4 25]
def BZ:List FI:=[Fs 0 26 (.build [.str [],.str [],.str []] [(0,1,(.c (.str [99,111,117,110,116,61]))),(1,1,(.c (.str [97,61]))),(2,1,(.c (.str [])))]),Fm 1 27 0,Fm 4 30 4,Fm 5 31 4,Fm 6 32 0,Fz 2 28 (Ca 71 [.t 27,ci 3]),Fs 3 29 (.idxA 3 1 false (.t 26) (.t 28)),Fz 7 33 (Ca 71 [.t 32,ci 30]),Fs 8 34 (Bb .add 31 33),Fs 9 35 (.build Zq2 [(0,1,(ci 4)),(1,1,(.t 29)),(2,1,(.t 30)),(3,1,(.t 34))]),Fr 10 4 2 35]
def xh6:RC:=(So Nd (Sq (So Nc (Bk 0 (So Nb (Kc 7 (Kk [0,6,7] (So Na .ret)) (Kk [7] (So M9 (Kc 10 (Kk [6,10] (So M8 .ret)) (Kk [10] (So M7 (Kc 16 (Kk [16] (So M6 (So M5 .ret))) (Kk [16] .skip))))))))))) (So M4 (Sq (.flt [0,0,2,7,0,0,0,70,230,511,1023] [] BZ [0,4,26,27,28,29,30,31,32,33,34,35]) .ret))))
def Zy:FnC:=⟨xh6,36,[.cell 2 4 true],[],[]⟩
def M3:List RI:=[omk 6 0,on 7 (Ln 6),on 8 (Mc 0)]
def M2:List RI:=[on 10 (Ia 1 6 8),oo 11 (Ld 10) [10],omk 5 11]
def M1:List RI:=[om 12 5,om 13 3,oo 14 (Bb .neq 12 13) [12,13]]
def M0:List RI:=[omk 15 5,omk 2 15]
def MZ:List RI:=[oo 16 (Bc .add 8 1) [8],omk 8 16]
def zC:RC:=(So DZ (Sq (Kc 9 (Kk [9] .skip) (Kk [6,7,8,9] (.exit 0))) (Sq (Bk 1 (So M2 (So M1 (Kc 14 (Kk [3,6,7,8,14] (So M0 .ret)) (Kk [5,14] .skip))))) (.ops MZ))))
def MY:RC:=zC
def MX:List RI:=[omk 17 3,omk 2 17]
def xh5:RC:=(So kJ (So wC (Sq (So M3 (Bk 0 (.loop MY))) (So MX .ret))))
def Zx:FnC:=⟨xh5,18,[.tmp 2],[],[]⟩
def MW:List RI:=[om 7 0,oo 8 (Ca 141 [.t 7]) [7],omk 5 8]
def MV:List RI:=[om 9 1,oo 10 (Ca 141 [.t 9]) [9],omk 6 10]
def MU:List RI:=[omk 11 5]
def MT:List RI:=[omk 12 6]
def MS:List RI:=[omk 13 6]
def yx:List RI:=[on 4 (Mc 1)]
def MR:List RI:=[om 14 0,om 15 1,oo 16 (Bb .lss 14 15) [14,15]]
def BY:List RI:=[omk 17 0,omk 18 1,oo 19 (Bb .gtr 17 18) [17,18]]
def xh4:RC:=(So oE (So MW (So MV (Sq (So MU (Kc 11 (Kk [0,1,11] (Sq (So MT (Kc 12 (Kk [12] (So kK .ret)) (Kk [12] .skip))) (So oC .ret))) (Kk [11] .skip))) (Sq (So MS (Kc 13 (Kk [0,1,13] (So yx .ret)) (Kk [13] .skip))) (Sq (So MR (Kc 16 (Kk [0,1,16] (So oC .ret)) (Kk [16] .skip))) (Sq (So BY (Kc 19 (Kk [19] (So yx .ret)) (Kk [19] .skip))) (So kK .ret))))))))
def Zw:FnC:=⟨xh4,20,[.tmp 4],[],[]⟩
def MQ:List RI:=[omk 5 0,omk 6 1,oo 7 (Ca 142 [.t 5,.t 6]) [5,6],omk 4 7]
def xh3:RC:=(So oE (So MQ .ret))
def Zv:FnC:=⟨xh3,8,[.tmp 4],[],[]⟩
def MP:List RI:=[om 6 5,om 7 0,oo 8 (Ln 7) [7],oo 9 (Bb .lss 6 8) [6,8],omk 10 9,.grp 10 true [(xi 11 10 true (Mv 5)),(xi 12 10 true (Mv 1)),(xi 13 10 true (Ln 12)),(xi 14 10 true (Bb .lss 11 13))] [11,12,13],oo 15 (Pf 10 14) [10,14]]
def MO:List FI:=[Fm 0 18 0,Fm 1 19 5,Fs 2 20 (Ia 1 18 19),Fs 3 21 (Ld 20),Fm 4 22 1,Fm 5 23 5,Fs 6 24 (Ia 1 22 23),Fs 7 25 (Ld 24),Fs 8 26 (Bb .neq 21 25)]
def MN:List FI:=[Fm 0 27 0,Fm 1 28 5,Fs 2 29 (Ia 1 27 28),Fs 3 30 (Ld 29),Fm 4 31 1,Fm 5 32 5,Fs 6 33 (Ia 1 31 32),Fs 7 34 (Ld 33),Fs 8 35 (Bb .lss 30 34),Fm 9 4 35]
def zB:RC:=(Sq (So MP (Kc 15 (Kk [15] .skip) (Kk [5,15] (.exit 0)))) (Sq (Bk 1 (Sq (.flt [0,0,3,7,0,0,48,112,255] [] MO [18,19,20,21,22,23,24,25]) (Kc 26 (Kk [26] (Sq (.flt [0,0,3,7,0,0,48,112,255,511] [] MN [0,1,5,27,28,29,30,31,32,33,34,35]) .ret)) (Kk [26] .skip)))) (.ops xM)))
def yw:RC:=zB
def MM:List RI:=[omk 36 0,oo 37 (Ln 36) [36],omk 38 1,oo 39 (Ln 38) [38],oo 40 (Bb .lss 37 39) [37,39],omk 4 40]
def xh2:RC:=(So qI (Sq (So lR (Bk 0 (.loop yw))) (So MM .ret)))
def Zu:FnC:=⟨xh2,41,[.tmp 4],[],[]⟩
def ML:List RI:=[omk 4 0,omk 5 1,oo 6 (.nchk (.t 4)) [4],oo 7 (Fa 2 6) [6],Sr 1 7 5 [5,7]]
def xh1:RC:=(.ops ML)
def Zt:FnC:=⟨xh1,8,[],[],[]⟩
def MK:List RI:=[oo 6 (.mov (.c (.byt [] .clip))) [6],oo 7 (Mc 0) [7]]
def MJ:List RI:=[om 8 2,om 9 0,oo 10 (.nchk (.t 9)) [9],oo 11 (Fa 0 10) [10],oo 12 (Ld 11) [11],oo 13 (Ln 12) [12],om 14 1,oo 15 (Bb .sub 13 14) [13,14],oo 16 (Bb .gtr 8 15) [8,15]]
def MI:List RI:=[on 6 (.mov (.c (.byt [] .clip))),on 7 (Mc 2)]
def MH:List RI:=[omk 17 0,oo 18 (.nchk (.t 17)) [17],oo 19 (Fa 0 18) [18],oo 20 (Ld 19) [19],om 21 1,omk 22 1,omk 23 2,oo 24 (Bb .add 22 23) [22,23],oo 25 (.slcL 1 (.t 20) (some (.t 21)) (some (.t 24)) none) [20,21,24],omk 6 25,on 7 (Mc 0)]
def xh0:RC:=(So MK (Sq (So MJ (Kc 16 (Kk [0,1,2,16] (So MI .ret)) (Kk [16] .skip))) (So MH .ret)))
def Zs:FnC:=⟨xh0,26,[.tmp 6,.tmp 7],[],[]⟩
def MG:List FI:=[Fm 0 3 0,Fs 1 4 (.nchk (.t 3)),Fs 2 5 (Fa 0 4),Fs 3 6 (Ld 5),Fs 4 7 (Ln 6),Fm 5 8 0,Fs 6 9 (.nchk (.t 8)),Fs 7 10 (Fa 1 9),Fs 8 11 (Ld 10),Fs 9 12 (Bb .sub 7 11),Fm 10 2 12]
def xhZ:RC:=(So kJ (Sq (.flt [0,1,3,7,15,0,32,96,224,511,1023] [] MG [0,3,4,5,6,7,8,9,10,11,12]) .ret))
def Zr:FnC:=⟨xhZ,13,[.tmp 2],[],[]⟩
def MF:List RI:=[omk 9 0,oo 10 (.toInt .u8 (.t 9)) [9],oo 11 (.litB [.t 10]) [10],omk 5 11]
def ME:List RI:=[omk 12 1,on 13 (Ln 12),on 14 (Mc 0)]
def MD:List RI:=[on 15 (Bb .lss 14 13)]
def MC:List RI:=[on 16 (Ia 1 12 14),oo 17 (Ld 16) [16],omk 7 17]
def MB:List RI:=[om 18 7,oo 19 (Ln 18) [18],oo 20 (.toInt .u32 (.t 19)) [19],omk 8 20]
def MA:List RI:=[omk 21 5,om 22 8,oo 23 (.bin .shr (.t 22) (.c (.int .u64 24))) [22],oo 24 (.toInt .u8 (.t 23)) [23],om 25 8,oo 26 (.bin .shr (.t 25) (.c (.int .u64 16))) [25],oo 27 (.toInt .u8 (.t 26)) [26],om 28 8,oo 29 (.bin .shr (.t 28) (.c (.int .u64 8))) [28],oo 30 (.toInt .u8 (.t 29)) [29],omk 31 8,oo 32 (.toInt .u8 (.t 31)) [31],oo 33 (.litB [.t 24,.t 27,.t 30,.t 32]) [24,27,30,32],oo 34 (.app [.u8 0] 1 (.t 21) (.t 33)) [21,33],omk 5 34]
def Mz:List RI:=[omk 35 5,omk 36 7,oo 37 (.app [.u8 0] 1 (.t 35) (.t 36)) [35,36],omk 5 37]
def My:List RI:=[oo 38 (Bc .add 14 1) [14],omk 14 38]
def zA:RC:=(.post (So MD (Sq (Kc 15 (Kk [15] .skip) (Kk [12,13,14,15] (.exit 0))) (Sq (Bk 1 (So MC (So MB (So MA (.ops Mz))))) (.ops My)))) [.tok 5 105])
def Mx:RC:=zA
def BX:List RI:=[omk 39 5,omk 4 39]
def xhY:RC:=(So jH (So MF (Sq (So ME (Bk 0 (.pre [.tok 5 105] (.loop Mx)))) (So BX .ret))))
def Zq:FnC:=⟨xhY,40,[.tmp 4],[],[]⟩
def Mw:List RI:=[on 0 (.new (.arr 1 (aq 64 [.int .u32 0])))]
def Mu:List RI:=[on 1 (.build [.int .u32 0,.int .u32 0,.int .u32 0,.int .u32 0,.int .u32 0,.int .u32 0,.int .u32 0,.int .u32 0,.int .u32 0,.int .u32 0,.int .u32 0,.int .u32 0,.int .u32 0,.int .u32 0,.int .u32 0,.int .u32 0,.int .u32 0,.int .u32 0,.int .u32 0,.int .u32 0,.int .u32 0,.int .u32 0,.int .u32 0,.int .u32 0,.int .u32 0,.int .u32 0,.int .u32 0,.int .u32 0,.int .u32 0,.int .u32 0,.int .u32 0,.int .u32 0,.int .u32 0,.int .u32 0,.int .u32 0,.int .u32 0,.int .u32 0,.int .u32 0,.int .u32 0,.int .u32 0,.int .u32 0,.int .u32 0,.int .u32 0,.int .u32 0,.int .u32 0,.int .u32 0,.int .u32 0,.int .u32 0,.int .u32 0,.int .u32 0,.int .u32 0,.int .u32 0,.int .u32 0,.int .u32 0,.int .u32 0,.int .u32 0,.int .u32 0,.int .u32 0,.int .u32 0,.int .u32 0,.int .u32 0,.int .u32 0,.int .u32 0,.int .u32 0] [(0,1,(.c (.int .u32 1116352408))),(1,1,(.c (.int .u32 1899447441))),(2,1,(.c (.int .u32 3049323471))),(3,1,(.c (.int .u32 3921009573))),(4,1,(.c (.int .u32 961987163))),(5,1,(.c (.int .u32 1508970993))),(6,1,(.c (.int .u32 2453635748))),(7,1,(.c (.int .u32 2870763221))),(8,1,(.c (.int .u32 3624381080))),(9,1,(.c (.int .u32 310598401))),(10,1,(.c (.int .u32 607225278))),(11,1,(.c (.int .u32 1426881987))),(12,1,(.c (.int .u32 1925078388))),(13,1,(.c (.int .u32 2162078206))),(14,1,(.c (.int .u32 2614888103))),(15,1,(.c (.int .u32 3248222580))),(16,1,(.c (.int .u32 3835390401))),(17,1,(.c (.int .u32 4022224774))),(18,1,(.c (.int .u32 264347078))),(19,1,(.c (.int .u32 604807628))),(20,1,(.c (.int .u32 770255983))),(21,1,(.c (.int .u32 1249150122))),(22,1,(.c (.int .u32 1555081692))),(23,1,(.c (.int .u32 1996064986))),(24,1,(.c (.int .u32 2554220882))),(25,1,(.c (.int .u32 2821834349))),(26,1,(.c (.int .u32 2952996808))),(27,1,(.c (.int .u32 3210313671))),(28,1,(.c (.int .u32 3336571891))),(29,1,(.c (.int .u32 3584528711))),(30,1,(.c (.int .u32 113926993))),(31,1,(.c (.int .u32 338241895))),(32,1,(.c (.int .u32 666307205))),(33,1,(.c (.int .u32 773529912))),(34,1,(.c (.int .u32 1294757372))),(35,1,(.c (.int .u32 1396182291))),(36,1,(.c (.int .u32 1695183700))),(37,1,(.c (.int .u32 1986661051))),(38,1,(.c (.int .u32 2177026350))),(39,1,(.c (.int .u32 2456956037))),(40,1,(.c (.int .u32 2730485921))),(41,1,(.c (.int .u32 2820302411))),(42,1,(.c (.int .u32 3259730800))),(43,1,(.c (.int .u32 3345764771))),(44,1,(.c (.int .u32 3516065817))),(45,1,(.c (.int .u32 3600352804))),(46,1,(.c (.int .u32 4094571909))),(47,1,(.c (.int .u32 275423344))),(48,1,(.c (.int .u32 430227734))),(49,1,(.c (.int .u32 506948616))),(50,1,(.c (.int .u32 659060556))),(51,1,(.c (.int .u32 883997877))),(52,1,(.c (.int .u32 958139571))),(53,1,(.c (.int .u32 1322822218))),(54,1,(.c (.int .u32 1537002063))),(55,1,(.c (.int .u32 1747873779))),(56,1,(.c (.int .u32 1955562222))),(57,1,(.c (.int .u32 2024104815))),(58,1,(.c (.int .u32 2227730452))),(59,1,(.c (.int .u32 2361852424))),(60,1,(.c (.int .u32 2428436474))),(61,1,(.c (.int .u32 2756734187))),(62,1,(.c (.int .u32 3204031479))),(63,1,(.c (.int .u32 3329325298)))]),Sr 64 0 1 [1]]
def xhX:RC:=(So Mw (So Mu .ret))
def Zp:FnC:=⟨xhX,2,[.cell 0 64 true],[],[]⟩
def Mt:List RI:=[on 6 (.litB []),om 7 0,oo 8 (.app [.u8 0] 1 (.t 6) (.t 7)) [6,7],on 9 (.litB [(.c (.u8 128))]),oo 10 (.app [.u8 0] 1 (.t 8) (.t 9)) [8,9],omk 3 10]
def Ms:List RI:=[om 11 3,oo 12 (Ln 11) [11],oo 13 (Bc .rem 12 64) [12],oo 14 (Bc .neq 13 56) [13]]
def Mr:List RI:=[omk 15 3,on 16 (.litB [(.c (.u8 0))]),oo 17 (.app [.u8 0] 1 (.t 15) (.t 16)) [15,16],omk 3 17]
def zy:RC:=(.post (Sq (So Ms (Kc 14 (Kk [14] .skip) (Kk [14] (.exit 0)))) (Bk 1 (.ops Mr))) [.tok 3 103])
def yu:RC:=zy
def Mq:List RI:=[omk 18 0,oo 19 (Ln 18) [18],oo 20 (.toInt .u64 (.t 19)) [19],oo 21 (.bin .mul (.t 20) (.c (.int .u64 8))) [20],omk 4 21]
def Mp:List RI:=[on 5 (Mc 7)]
def Mo:List RI:=[om 22 5,oo 23 (Bc .geq 22 0) [22]]
def Mn:List RI:=[omk 26 3,om 27 4,om 28 5,oo 29 (.toInt .u64 (.t 28)) [28],oo 30 (.bin .mul (.c (.int .u64 8)) (.t 29)) [29],oo 31 (Bb .shr 27 30) [27,30],oo 32 (.toInt .u8 (.t 31)) [31],oo 33 (.litB [.t 32]) [32],oo 34 (.app [.u8 0] 1 (.t 26) (.t 33)) [26,33],omk 3 34]
def Mm:List RI:=[omk 24 5,oo 25 (Bc .sub 24 1) [24],omk 5 25]
def tB:RC:=(.post (Sq (So Mo (Kc 23 (Kk [23] .skip) (Kk [4,5,23] (.exit 2)))) (Sq (Bk 3 (.ops Mn)) (.ops Mm))) [.tok 3 103])
def sH:RC:=tB
def BW:List RI:=[omk 35 3,omk 2 35]
def xhW:RC:=(So l7 (So Mt (Sq (Bk 0 (.pre [.tok 3 103] (.loop yu))) (So Mq (Sq (So Mp (Bk 2 (.pre [.tok 3 103] (.loop sH)))) (So BW .ret))))))
def Zo:FnC:=⟨xhW,36,[.tmp 2],[],[]⟩
def nR:List RI:=[oo 4 (.mov (.c (.int .u32 0))) [4]]
def yq:List FI:=[Fm 0 5 0,Fm 1 6 1,Fs 2 7 (.bin .mul (ci 4) (.t 6)),Fs 3 8 (Ia 1 5 7),Fs 4 9 (Ld 8),Fs 5 10 (.toInt .u32 (.t 9)),Fs 6 11 (.bin .shl (.t 10) (.c (.int .u64 24))),Fm 7 12 0,Fm 8 13 1,Fs 9 14 (.bin .mul (ci 4) (.t 13)),Fs 10 15 (Bc .add 14 1),Fs 11 16 (Ia 1 12 15),Fs 12 17 (Ld 16),Fs 13 18 (.toInt .u32 (.t 17)),Fs 14 19 (.bin .shl (.t 18) (.c (.int .u64 16))),Fs 15 20 (Bb .or 11 19),Fm 16 21 0,Fm 17 22 1,Fs 18 23 (.bin .mul (ci 4) (.t 22)),Fs 19 24 (Bc .add 23 2),Fs 20 25 (Ia 1 21 24),Fs 21 26 (Ld 25),Fs 22 27 (.toInt .u32 (.t 26)),Fs 23 28 (.bin .shl (.t 27) (.c (.int .u64 8))),Fs 24 29 (Bb .or 20 28),Fm 25 30 0,Fm 26 31 1,Fs 27 32 (.bin .mul (ci 4) (.t 31)),Fs 28 33 (Bc .add 32 3),Fs 29 34 (Ia 1 30 33),Fs 30 35 (Ld 34),Fs 31 36 (.toInt .u32 (.t 35)),Fs 32 37 (Bb .or 29 36),Fm 33 4 37]
def xhV:RC:=(So nR (Sq (.flt [0,0,2,7,15,31,63,0,0,256,768,1920,3968,8064,16256,32767,0,0,131072,393216,983040,2031616,4128768,8323072,16777215,0,0,67108864,201326592,503316480,1040187392,2113929216,4294967295,8589934591] [] yq [0,1,5,6,7,8,9,10,11,12,13,14,15,16,17,18,19,20,21,22,23,24,25,26,27,28,29,30,31,32,33,34,35,36,37]) .ret))
def Zn:FnC:=⟨xhV,38,[.tmp 4],[],[]⟩
def Ml:List RI:=[om 5 0,om 6 1,oo 7 (Bb .shr 5 6) [5,6],omk 8 0,omk 9 1,oo 10 (.bin .sub (.c (.int .u64 32)) (.t 9)) [9],oo 11 (Bb .shl 8 10) [8,10],oo 12 (Bb .or 7 11) [7,11],omk 4 12]
def xhU:RC:=(So nR (So Ml .ret))
def Zm:FnC:=⟨xhU,13,[.tmp 4],[],[]⟩
def yp:List RI:=[on 3 (.mov (.c (.byt [] .clip)))]
def Mk:List RI:=[om 5 4,om 6 0,oo 7 (Ln 6) [6],oo 8 (Bb .lss 5 7) [5,7]]
def Mj:List FI:=[Fm 0 11 3,Fm 1 12 0,Fm 2 13 4,Fs 3 14 (Ia 1 12 13),Fs 4 15 (Ld 14),Fs 5 16 (.bin .shr (.t 15) (.c (.int .u64 24))),Fs 6 17 (.toInt .u8 (.t 16)),Fm 7 18 0,Fm 8 19 4,Fs 9 20 (Ia 1 18 19),Fs 10 21 (Ld 20),Fs 11 22 (.bin .shr (.t 21) (.c (.int .u64 16))),Fs 12 23 (.toInt .u8 (.t 22)),Fm 13 24 0,Fm 14 25 4,Fs 15 26 (Ia 1 24 25),Fs 16 27 (Ld 26),Fs 17 28 (.bin .shr (.t 27) (.c (.int .u64 8))),Fs 18 29 (.toInt .u8 (.t 28)),Fm 19 30 0,Fm 20 31 4,Fs 21 32 (Ia 1 30 31),Fs 22 33 (Ld 32),Fs 23 34 (.toInt .u8 (.t 33)),Fs 24 35 (.litB [.t 17,.t 23,.t 29,.t 34]),Fz 25 36 (.app [.u8 0] 1 (.t 11) (.t 35)),⟨26,false,(xm 3 36)⟩]
def Mi:List RI:=[omk 9 4,oo 10 (Bc .add 9 1) [9],omk 4 10]
def zx:RC:=(.post (Sq (So Mk (Kc 8 (Kk [8] .skip) (Kk [0,4,8] (.exit 0)))) (Sq (Bk 1 (.flt [0,0,0,6,14,30,62,0,0,384,896,1920,3968,0,0,24576,57344,122880,253952,0,0,1572864,3670016,7864320,16777214,33554431,67108863] [136] Mj [11,12,13,14,15,16,17,18,19,20,21,22,23,24,25,26,27,28,29,30,31,32,33,34,35,36])) (.ops Mi))) [.tok 3 103])
def yo:RC:=zx
def ym:List RI:=[omk 37 3,omk 2 37]
def xhT:RC:=(So l7 (So yp (Sq (So kK (Bk 0 (.pre [.tok 3 103] (.loop yo)))) (So ym .ret))))
def Zl:FnC:=⟨xhT,38,[.tmp 2],[],[]⟩
def L4:List RI:=[omk 5 0,omk 6 1,oo 7 (.toInt .u64 (.t 6)) [6],oo 8 (Bb .shr 5 7) [5,7],oo 9 (Bc .and 8 1) [8],oo 10 (Bc .eql 9 1) [9],omk 4 10]
def xhS:RC:=(So qI (So L4 .ret))
def Zk:FnC:=⟨xhS,11,[.tmp 4],[],[]⟩
def L3:List RI:=[omk 5 0]
def L2:List RI:=[on 7 (Bc .eql 5 0),omk 6 7]
def L1:List RI:=[omk 8 1,oo 9 (Ca 144 [.t 8]) [8],omk 4 9]
def L0:List RI:=[oo 11 (Bc .eql 5 1) [5],omk 10 11]
def LZ:List RI:=[omk 12 1,oo 13 (Ca 65 [.t 12]) [12],omk 4 13]
def xhR:RC:=(So jH (Sq (So L3 (Bk 0 (So L2 (Kc 6 (Kk [5,6] (So L1 .ret)) (Kk [6] (So L0 (Kc 10 (Kk [10] (So LZ .ret)) (Kk [1,10] .skip)))))))) (So kI .ret)))
def Zj:FnC:=⟨xhR,14,[.tmp 4],[],[]⟩
def LY:List RI:=[on 0 (.new (.arr 1 (aq 5 [.str []])))]
def LX:List RI:=[on 1 (.build [.str [],.str [],.str [],.str [],.str []] [(0,1,(.c (.str [97]))),(1,1,(.c (.str [103,114,117,98]))),(2,1,(.c (.str [108,105,110,117,120]))),(3,1,(.c (.str [110,101,116,45,48]))),(4,1,(.c (.str [116,119,101,108,118,101,45,98,121,116,101,115])))]),Sr 5 0 1 [1]]
def xhQ:RC:=(So LY (So LX .ret))
def Zi:FnC:=⟨xhQ,2,[.cell 0 5 true],[],[]⟩
def LW:List RI:=[om 5 0,oo 6 (Ca 71 [.t 5,ci 4]) [5],oo 7 (.bin .add (ci 1) (.t 6)) [6],omk 4 7]
def LV:List RI:=[om 8 4,oo 9 (Bc .gtr 8 0) [8]]
def LU:List RI:=[omk 12 3,om 13 0,oo 14 (Ca 73 [.t 13]) [13],oo 15 (.app [.u8 0] 1 (.t 12) (.t 14)) [12,14],on 16 (.litB [(.c (.u8 10))]),oo 17 (.app [.u8 0] 1 (.t 15) (.t 16)) [15,16],omk 3 17]
def LS:List RI:=[omk 10 4,oo 11 (Bc .sub 10 1) [10],omk 4 11]
def zt:RC:=(.post (Sq (So LV (Kc 9 (Kk [9] .skip) (Kk [0,4,9] (.exit 0)))) (Sq (Bk 1 (.ops LU)) (.ops LS))) [.gc [115],.tok 3 103])
def yl:RC:=zt
def LR:List RI:=[omk 18 3,omk 2 18]
def xhP:RC:=(So l7 (So yp (Sq (So LW (Bk 0 (.pre [.tok 3 103] (.loop yl)))) (So LR .ret))))
def Zh:FnC:=⟨xhP,19,[.tmp 2],[],[]⟩
def LQ:List RI:=[omk 3 0,oo 4 (Ca 145 [.t 3,ci 10]) [3],omk 2 4]
def xhO:RC:=(So DY (So LQ .ret))
def Zg:FnC:=⟨xhO,5,[.tmp 2],[],[]⟩
def qm:List RI:=[oo 4 (.mov (.c (.str []))) [4]]
def LP:List RI:=[om 7 0,oo 8 (.bin .eql (.t 7) (.c (.str []))) [7],omk 9 8,.grp 9 false [(xi 10 9 false (Mv 1)),(xi 11 9 false (.bin .eql (.t 10) (.c (.str []))))] [10],oo 12 (Pt 9 11) [9,11]]
def LO:List RI:=[omk 13 0,omk 4 13]
def LN:List RI:=[om 14 1,oo 15 (.len true (.t 14)) [14],oo 16 (Bc .eql 15 1) [15],omk 17 16,.grp 17 true [(xi 18 17 true (Mv 1)),(xi 19 17 true (.idxS (.t 18) (ci 0))),(xi 20 17 true (.bin .lss (.t 19) (.c (.u8 128))))] [18,19],oo 21 (Pf 17 20) [17,20]]
def LM:List FI:=[Fm 0 22 0,Fm 1 23 1,Fs 2 24 (.idxS (.t 23) (ci 0)),Fm 4 26 1,Fs 5 27 (.idxS (.t 26) (ci 0)),Fz 3 25 (Ca 147 [.t 22,.t 24]),Fz 6 28 (Ca 146 [.t 25,.t 27]),Fm 7 4 28]
def LL:List RI:=[om 30 1,oo 31 (Ca 148 [.t 30]) [30],omk 29 31,on 32 (.ext (.t 29) 0),oo 33 (.ext (.t 29) 1) [29],on 5 (.new (.arr 1 (aq 256 [.bool false]))),Sr 256 5 32 [32],omk 6 33]
def LK:List RI:=[omk 34 6]
def LJ:List RI:=[omk 35 0,oo 36 (Ca 150 [.t 35,.t 5]) [35],oo 37 (Ca 149 [.t 36,.t 5]) [5,36],omk 4 37]
def LI:List RI:=[omk 38 0,om 39 1,oo 40 (Ca 152 [.t 38,.t 39]) [38,39],omk 41 1,oo 42 (Ca 151 [.t 40,.t 41]) [40,41],omk 4 42]
def xhN:RC:=(So qm (Sq (So LP (Kc 12 (Kk [1,12] (So LO .ret)) (Kk [12] .skip))) (Sq (So LN (Kc 21 (Kk [21] (Sq (.flt [0,0,2,7,0,16,63,127] [] LM [0,1,22,23,24,25,26,27,28]) .ret)) (Kk [21] .skip))) (Sq (So LL (So LK (Kc 34 (Kk [1,34] (So LJ .ret)) (Kk [5,34] .skip)))) (So LI .ret)))))
def Zf:FnC:=⟨xhN,43,[.tmp 4],[],[]⟩
def LH:List RI:=[om 6 0,om 7 1,oo 8 (Ca 153 [.t 6,.t 7]) [6,7],oo 9 (.un .not (.t 8)) [8]]
def LG:List RI:=[omk 10 0,omk 4 10,on 5 (Mb false)]
def LF:List RI:=[omk 11 0,omk 12 1,oo 13 (.len true (.t 12)) [12],oo 14 (.slcS (.t 11) (some (.t 13)) none) [11,13],omk 4 14,on 5 (Mb true)]
def xhM:RC:=(So N2 (Sq (So LH (Kc 9 (Kk [1,9] (So LG .ret)) (Kk [9] .skip))) (So LF .ret)))
def Ze:FnC:=⟨xhM,15,[.tmp 4,.tmp 5],[],[]⟩
def yk:List RI:=[oo 2 (Mc 0) [2],oo 3 (.mov (.c .nili)) [3]]
def LD:List RI:=[om 7 0,oo 8 (Ca 154 [.t 7]) [7],omk 6 8,on 9 (.ext (.t 6) 0),oo 10 (.ext (.t 6) 1) [6],omk 4 9,omk 5 10]
def LC:List RI:=[om 11 5,oo 12 (.isni true (.t 11)) [11]]
def LA:List RI:=[omk 13 4,omk 14 0,omk 15 5,oo 16 (Ca 155 [(.c (.str [65,116,111,105])),.t 14,ci 0,ci 0,.t 15]) [14,15],omk 2 13,omk 3 16]
def Lz:List RI:=[omk 17 4,omk 2 17,on 3 (.mov (.c .nili))]
def xhL:RC:=(So yk (So LD (Sq (So LC (Kc 12 (Kk [12] (So LA .ret)) (Kk [0,5,12] .skip))) (So Lz .ret))))
def Zd:FnC:=⟨xhL,18,[.tmp 2,.tmp 3],[],[]⟩
def Ly:List RI:=[om 6 0,oo 7 (Ln 6) [6],oo 8 (Bc .add 7 72) [7],oo 9 (.mkB (ci 0) (.t 8)) [8],om 10 0,.dir (.tok 9 109),oo 11 (.app [.u8 0] 1 (.t 9) (.t 10)) [9,10],on 12 (.litB [(.c (.u8 128))]),oo 13 (.app [.u8 0] 1 (.t 11) (.t 12)) [11,12],omk 3 13]
def Lx:List RI:=[om 14 3,oo 15 (Ln 14) [14],oo 16 (Bc .rem 15 64) [15],oo 17 (Bc .neq 16 56) [16]]
def Lw:List RI:=[omk 18 3,on 19 (.litB [(.c (.u8 0))]),oo 20 (.app [.u8 0] 1 (.t 18) (.t 19)) [18,19],omk 3 20]
def zr:RC:=(.post (Sq (So Lx (Kc 17 (Kk [17] .skip) (Kk [17] (.exit 0)))) (Bk 1 (.ops Lw))) [.tok 3 103])
def yj:RC:=zr
def Lv:List RI:=[omk 21 0,oo 22 (Ln 21) [21],oo 23 (.toInt .u64 (.t 22)) [22],oo 24 (.bin .mul (.t 23) (.c (.int .u64 8))) [23],omk 4 24]
def Lu:List RI:=[on 5 (Mc 56)]
def Ls:List RI:=[om 25 5,oo 26 (Bc .geq 25 0) [25]]
def Lr:List RI:=[omk 29 3,om 30 4,om 31 5,oo 32 (.toInt .u64 (.t 31)) [31],oo 33 (Bb .shr 30 32) [30,32],oo 34 (.toInt .u8 (.t 33)) [33],oo 35 (.litB [.t 34]) [34],oo 36 (.app [.u8 0] 1 (.t 29) (.t 35)) [29,35],omk 3 36]
def Lq:List RI:=[omk 27 5,oo 28 (Bc .sub 27 8) [27],omk 5 28]
def tz:RC:=(.post (Sq (So Ls (Kc 26 (Kk [26] .skip) (Kk [4,5,26] (.exit 2)))) (Sq (Bk 3 (.ops Lr)) (.ops Lq))) [.tok 3 103])
def sG:RC:=tz
def xhK:RC:=(So l7 (So Ly (Sq (Bk 0 (.pre [.tok 3 103] (.loop yj))) (So Lv (Sq (So Lu (Bk 2 (.pre [.tok 3 103] (.loop sG)))) (So ym .ret))))))
def Zc:FnC:=⟨xhK,38,[.tmp 2],[],[]⟩
def Lp:List RI:=[on 4 (.new (.arr 1 (aq 80 [.int .u32 0])))]
def Lo:List RI:=[on 14 (Mc 0)]
def Lm:List RI:=[on 15 (Bc .lss 14 80)]
def Ll:List RI:=[om 16 14,omk 5 16]
def Lk:List RI:=[om 17 5,oo 18 (Bc .lss 17 16) [17]]
def Lj:List RI:=[om 19 5,om 20 1,omk 21 5,oo 22 (Ca 156 [.t 20,.t 21]) [20,21],oo 23 (.iaddrA 80 1 (.t 4) (.t 19)) [19],Sr 1 23 22 [22,23]]
def Li:List FI:=[Fm 0 24 5,Fm 1 25 5,Fs 2 26 (Bc .sub 25 3),Fs 3 27 (.iaddrA 80 1 (.t 4) (.t 26)),Fs 4 28 (Ld 27),Fm 5 29 5,Fs 6 30 (Bc .sub 29 8),Fs 7 31 (.iaddrA 80 1 (.t 4) (.t 30)),Fs 8 32 (Ld 31),Fs 9 33 (Bb .xor 28 32),Fm 10 34 5,Fs 11 35 (Bc .sub 34 14),Fs 12 36 (.iaddrA 80 1 (.t 4) (.t 35)),Fs 13 37 (Ld 36),Fs 14 38 (Bb .xor 33 37),Fm 15 39 5,Fs 16 40 (Bc .sub 39 16),Fs 17 41 (.iaddrA 80 1 (.t 4) (.t 40)),Fs 18 42 (Ld 41),Fs 19 43 (Bb .xor 38 42),Fz 20 44 (Ca 157 [.t 43,ci 1]),Fs 21 45 (.iaddrA 80 1 (.t 4) (.t 24)),Fr 22 1 45 44]
def Lh:List RI:=[oo 46 (Bc .add 14 1) [14],omk 14 46]
def zq:RC:=(So Lm (Sq (Kc 15 (Kk [15] .skip) (Kk [1,14,15] (.exit 0))) (Sq (Bk 1 (So Ll (So Lk (Kc 18 (Kk [18] (.ops Lj)) (Kk [18] (.flt [0,0,2,6,14,0,32,96,224,510,0,1024,3072,7168,16382,0,32768,98304,229376,524286,1048574,2097151,4194303] [] Li [5,24,25,26,27,28,29,30,31,32,33,34,35,36,37,38,39,40,41,42,43,44,45])))))) (.ops Lh))))
def yi:RC:=zq
def Lg:List FI:=[Fm 0 47 0,Fs 1 48 (.nchk (.t 47)),Fs 2 49 (.iaddrA 5 1 (.t 48) (ci 0)),Fs 3 50 (Ld 49),Fm 4 51 0,Fs 5 52 (.nchk (.t 51)),Fs 6 53 (.iaddrA 5 1 (.t 52) (ci 1)),Fs 7 54 (Ld 53),Fm 8 55 0,Fs 9 56 (.nchk (.t 55)),Fs 10 57 (.iaddrA 5 1 (.t 56) (ci 2)),Fs 11 58 (Ld 57),Fm 12 59 0,Fs 13 60 (.nchk (.t 59)),Fs 14 61 (.iaddrA 5 1 (.t 60) (ci 3)),Fs 15 62 (Ld 61),Fm 16 63 0,Fs 17 64 (.nchk (.t 63)),Fs 18 65 (.iaddrA 5 1 (.t 64) (ci 4)),Fs 19 66 (Ld 65),Fm 20 6 50,Fm 21 7 54,Fm 22 8 58,Fm 23 9 62,Fm 24 10 66]
def BV:List RI:=[on 67 (Mc 0)]
def BU:List RI:=[on 68 (Bc .lss 67 80)]
def BT:List RI:=[om 69 67,omk 11 69]
def BS:List RI:=[oo 12 (.mov (.c (.int .u32 0))) [12],oo 13 (.mov (.c (.int .u32 0))) [13]]
def BR:List RI:=[om 70 11,oo 71 (Bc .quo 70 20) [70]]
def BQ:List RI:=[on 78 (Bc .eql 71 0),omk 77 78]
def BP:List RI:=[om 79 7,om 80 8,oo 81 (Bb .and 79 80) [79,80],om 82 7,oo 83 (.un .xor (.t 82)) [82],om 84 9,oo 85 (Bb .and 83 84) [83,84],oo 86 (Bb .xor 81 85) [81,85],omk 12 86,on 13 (.mov (.c (.int .u32 1518500249)))]
def BO:List RI:=[on 88 (Bc .eql 71 1),omk 87 88]
def BN:List RI:=[om 89 7,om 90 8,oo 91 (Bb .xor 89 90) [89,90],om 92 9,oo 93 (Bb .xor 91 92) [91,92],omk 12 93,on 13 (.mov (.c (.int .u32 1859775393)))]
def BM:List RI:=[oo 95 (Bc .eql 71 2) [71],omk 94 95]
def BL:List RI:=[om 96 7,om 97 8,oo 98 (Bb .and 96 97) [96,97],om 99 7,om 100 9,oo 101 (Bb .and 99 100) [99,100],oo 102 (Bb .xor 98 101) [98,101],om 103 8,om 104 9,oo 105 (Bb .and 103 104) [103,104],oo 106 (Bb .xor 102 105) [102,105],omk 12 106,on 13 (.mov (.c (.int .u32 2400959708)))]
def BK:List RI:=[om 72 7,om 73 8,oo 74 (Bb .xor 72 73) [72,73],om 75 9,oo 76 (Bb .xor 74 75) [74,75],omk 12 76,on 13 (.mov (.c (.int .u32 3395469782)))]
def BJ:List FI:=[Fm 0 107 6,Fm 2 109 12,Fm 4 111 10,Fm 6 113 13,Fm 8 115 11,Fs 9 116 (.iaddrA 80 1 (.t 4) (.t 115)),Fs 10 117 (Ld 116),Fm 12 119 6,Fm 13 120 7,Fm 15 122 8,Fm 16 123 9,Fz 1 108 (Ca 157 [.t 107,ci 5]),Fs 3 110 (Bb .add 108 109),Fs 5 112 (Bb .add 110 111),Fs 7 114 (Bb .add 112 113),Fs 11 118 (Bb .add 114 117),Fz 14 121 (Ca 157 [.t 120,ci 30]),⟨17,false,(xm 6 118)⟩,⟨18,false,(xm 7 119)⟩,⟨19,false,(xm 8 121)⟩,⟨20,false,(xm 9 122)⟩,⟨21,false,(xm 10 123)⟩]
def BI:List RI:=[oo 124 (Bc .add 67 1) [67],omk 67 124]
def tx:RC:=(So BU (Sq (Kc 68 (Kk [68] .skip) (Kk [4,67,68] (.exit 2))) (Sq (Bk 3 (So BT (So BS (Sq (So BR (Bk 4 (So BQ (Kc 77 (Kk [71,77] (.ops BP)) (Kk [77] (So BO (Kc 87 (Kk [71,87] (.ops BN)) (Kk [87] (So BM (Kc 94 (Kk [94] (.ops BL)) (Kk [94] (.ops BK)))))))))))) (.flt [0,1,0,7,0,31,0,127,0,256,768,2047,0,0,8195,0,0,131071,262143,524287,1048575,2097151] [] BJ [11,12,13,107,108,109,110,111,112,113,114,115,116,117,118,119,120,121,122,123]))))) (.ops BI))))
def fJ:RC:=tx
def BH:List FI:=[Fm 0 125 0,Fs 1 126 (.nchk (.t 125)),Fs 2 127 (.iaddrA 5 1 (.t 126) (ci 0)),Fs 3 128 (Ld 127),Fm 4 129 6,Fs 5 130 (Bb .add 128 129),Fs 6 131 (.nchk (.t 125)),Fs 7 132 (.iaddrA 5 1 (.t 131) (ci 0)),Fr 8 1 132 130]
def BG:List FI:=[Fm 0 133 0,Fs 1 134 (.nchk (.t 133)),Fs 2 135 (.iaddrA 5 1 (.t 134) (ci 1)),Fs 3 136 (Ld 135),Fm 4 137 7,Fs 5 138 (Bb .add 136 137),Fs 6 139 (.nchk (.t 133)),Fs 7 140 (.iaddrA 5 1 (.t 139) (ci 1)),Fr 8 1 140 138]
def BF:List FI:=[Fm 0 141 0,Fs 1 142 (.nchk (.t 141)),Fs 2 143 (.iaddrA 5 1 (.t 142) (ci 2)),Fs 3 144 (Ld 143),Fm 4 145 8,Fs 5 146 (Bb .add 144 145),Fs 6 147 (.nchk (.t 141)),Fs 7 148 (.iaddrA 5 1 (.t 147) (ci 2)),Fr 8 1 148 146]
def BE:List FI:=[Fm 0 149 0,Fs 1 150 (.nchk (.t 149)),Fs 2 151 (.iaddrA 5 1 (.t 150) (ci 3)),Fs 3 152 (Ld 151),Fm 4 153 9,Fs 5 154 (Bb .add 152 153),Fs 6 155 (.nchk (.t 149)),Fs 7 156 (.iaddrA 5 1 (.t 155) (ci 3)),Fr 8 1 156 154]
def BD:List FI:=[Fm 0 157 0,Fs 1 158 (.nchk (.t 157)),Fs 2 159 (.iaddrA 5 1 (.t 158) (ci 4)),Fs 3 160 (Ld 159),Fm 4 161 10,Fs 5 162 (Bb .add 160 161),Fs 6 163 (.nchk (.t 157)),Fs 7 164 (.iaddrA 5 1 (.t 163) (ci 4)),Fr 8 1 164 162]
def xhJ:RC:=(So Lp (Sq (So Lo (Bk 0 (.loop yi))) (Sq (.flt [0,1,3,7,0,16,48,112,0,256,768,1792,0,4096,12288,28672,0,65536,196608,458752,15,1048831,3149823,7405567,16777215] [] Lg [47,48,49,50,51,52,53,54,55,56,57,58,59,60,61,62,63,64,65,66]) (Sq (So BV (Bk 2 (.loop fJ))) (Sq (.flt [0,1,3,7,0,31,1,127,255] [] BH [6,125,126,127,128,129,130,131,132]) (Sq (.flt [0,1,3,7,0,31,1,127,255] [] BG [7,133,134,135,136,137,138,139,140]) (Sq (.flt [0,1,3,7,0,31,1,127,255] [] BF [8,141,142,143,144,145,146,147,148]) (Sq (.flt [0,1,3,7,0,31,1,127,255] [] BE [9,149,150,151,152,153,154,155,156]) (.flt [0,1,3,7,0,31,1,127,255] [] BD [0,10,157,158,159,160,161,162,163,164])))))))))
def Zb:FnC:=⟨xhJ,165,[],[],[]⟩
def Lf:List RI:=[om 6 0,oo 7 (Ln 6) [6],oo 8 (.bin .mul (ci 4) (.t 7)) [7],oo 9 (.mkB (ci 0) (.t 8)) [8],omk 3 9]
def Le:List RI:=[omk 10 0,on 11 (Ln 10),on 12 (Mc 0)]
def Lc:List RI:=[on 13 (Bb .lss 12 11)]
def Lb:List RI:=[on 14 (Ia 1 10 12),oo 15 (Ld 14) [14],omk 5 15]
def La:List RI:=[omk 16 3,om 17 5,oo 18 (.bin .shr (.t 17) (.c (.int .u64 24))) [17],oo 19 (.toInt .u8 (.t 18)) [18],om 20 5,oo 21 (.bin .shr (.t 20) (.c (.int .u64 16))) [20],oo 22 (.toInt .u8 (.t 21)) [21],om 23 5,oo 24 (.bin .shr (.t 23) (.c (.int .u64 8))) [23],oo 25 (.toInt .u8 (.t 24)) [24],omk 26 5,oo 27 (.toInt .u8 (.t 26)) [26],oo 28 (.litB [.t 19,.t 22,.t 25,.t 27]) [19,22,25,27],.dir (.tok 16 116),oo 29 (.app [.u8 0] 1 (.t 16) (.t 28)) [16,28],omk 3 29]
def K9:List RI:=[oo 30 (Bc .add 12 1) [12],omk 12 30]
def zp:RC:=(.post (So Lc (Sq (Kc 13 (Kk [13] .skip) (Kk [10,11,12,13] (.exit 0))) (Sq (Bk 1 (So Lb (.ops La))) (.ops K9)))) [.tok 3 103])
def yh:RC:=zp
def K8:List RI:=[omk 31 3,omk 2 31]
def xhI:RC:=(So l7 (So Lf (Sq (So Le (Bk 0 (.pre [.tok 3 103] (.loop yh)))) (So K8 .ret))))
def Za:FnC:=⟨xhI,32,[.tmp 2],[],[]⟩
def K7:List RI:=[on 4 (.new (.arr 1 (aq 64 [.int .u32 0])))]
def K6:List RI:=[on 18 (Bc .lss 17 64)]
def K5:List RI:=[om 19 17,omk 5 19]
def K4:List RI:=[om 20 5,oo 21 (Bc .lss 20 16) [20]]
def K3:List RI:=[om 22 5,om 23 1,omk 24 5,oo 25 (Ca 156 [.t 23,.t 24]) [23,24],oo 26 (.iaddrA 64 1 (.t 4) (.t 22)) [22],Sr 1 26 25 [25,26]]
def K2:List FI:=[Fm 0 27 5,Fs 1 28 (Bc .sub 27 15),Fs 2 29 (.iaddrA 64 1 (.t 4) (.t 28)),Fs 3 30 (Ld 29),Fm 4 31 5,Fs 5 32 (Bc .sub 31 2),Fs 6 33 (.iaddrA 64 1 (.t 4) (.t 32)),Fs 7 34 (Ld 33),Fm 8 6 30,Fm 9 7 34]
def K1:List RI:=[om 35 6,oo 36 (Ca 157 [.t 35,ci (-7)]) [35],om 37 6,oo 38 (Ca 157 [.t 37,ci (-18)]) [37],oo 39 (Bb .xor 36 38) [36,38],omk 40 6,oo 41 (.bin .shr (.t 40) (.c (.int .u64 3))) [40],oo 42 (Bb .xor 39 41) [39,41],omk 8 42]
def K0:List RI:=[om 43 7,oo 44 (Ca 157 [.t 43,ci (-17)]) [43],om 45 7,oo 46 (Ca 157 [.t 45,ci (-19)]) [45],oo 47 (Bb .xor 44 46) [44,46],omk 48 7,oo 49 (.bin .shr (.t 48) (.c (.int .u64 10))) [48],oo 50 (Bb .xor 47 49) [47,49],omk 9 50]
def KZ:List FI:=[Fm 0 51 5,Fm 1 52 9,Fm 2 53 5,Fs 3 54 (Bc .sub 53 7),Fs 4 55 (.iaddrA 64 1 (.t 4) (.t 54)),Fs 5 56 (Ld 55),Fs 6 57 (Bb .add 52 56),Fm 7 58 8,Fs 8 59 (Bb .add 57 58),Fm 9 60 5,Fs 10 61 (Bc .sub 60 16),Fs 11 62 (.iaddrA 64 1 (.t 4) (.t 61)),Fs 12 63 (Ld 62),Fs 13 64 (Bb .add 59 63),Fs 14 65 (.iaddrA 64 1 (.t 4) (.t 51)),Fr 15 1 65 64]
def BC:List RI:=[oo 66 (Bc .add 17 1) [17],omk 17 66]
def tw:RC:=(So K6 (Sq (Kc 18 (Kk [18] .skip) (Kk [1,17,18] (.exit 0))) (Sq (Bk 1 (So K5 (Sq (So K4 (Kc 21 (Kk [21] (So K3 (.exit 1))) (Kk [21] .skip))) (Sq (.flt [0,1,3,7,0,16,48,112,15,511] [] K2 [27,28,29,30,31,32,33,34]) (So K1 (So K0 (.flt [0,0,0,4,12,28,62,0,254,0,512,1536,3584,8190,16383,32767] [] KZ [5,8,9,51,52,53,54,55,56,57,58,59,60,61,62,63,64,65]))))))) (.ops BC))))
def sF:RC:=tw
def BB:List RI:=[om 67 0,oo 68 (.nchk (.t 67)) [67],oo 69 (Lt 8 68) [68],on 10 (.new (.arr 1 (aq 8 [.int .u32 0]))),Sr 8 10 69 [69]]
def BA:List RI:=[on 70 (Mc 0)]
def Bz:List RI:=[on 71 (Bc .lss 70 64)]
def By:List RI:=[om 72 70,omk 11 72]
def Bx:List FI:=[Fs 0 73 (.iaddrA 8 1 (.t 10) (ci 0)),Fs 1 74 (Ld 73),Fs 2 75 (.iaddrA 8 1 (.t 10) (ci 4)),Fs 3 76 (Ld 75),Fm 4 12 74,Fm 5 13 76]
def Bw:List FI:=[Fs 0 77 (.iaddrA 8 1 (.t 10) (ci 7)),Fs 1 78 (Ld 77),Fm 2 79 13,Fm 4 81 13,Fm 7 84 13,Fm 11 88 13,Fs 12 89 (.iaddrA 8 1 (.t 10) (ci 5)),Fs 13 90 (Ld 89),Fs 14 91 (Bb .and 88 90),Fm 15 92 13,Fs 16 93 (.un .xor (.t 92)),Fs 17 94 (.iaddrA 8 1 (.t 10) (ci 6)),Fs 18 95 (Ld 94),Fs 19 96 (Bb .and 93 95),Fs 20 97 (Bb .xor 91 96),Fm 22 99 11,Fs 23 100 (.iaddrA 64 1 (.c (.pp iN)) (.t 99)),Fs 24 101 (Ld 100),Fm 26 103 11,Fs 27 104 (.iaddrA 64 1 (.t 4) (.t 103)),Fs 28 105 (Ld 104),Fz 3 80 (Ca 157 [.t 79,ci (-6)]),Fz 5 82 (Ca 157 [.t 81,ci (-11)]),Fs 6 83 (Bb .xor 80 82),Fz 8 85 (Ca 157 [.t 84,ci (-25)]),Fs 9 86 (Bb .xor 83 85),Fs 10 87 (Bb .add 78 86),Fs 21 98 (Bb .add 87 97),Fs 25 102 (Bb .add 98 101),Fs 29 106 (Bb .add 102 105),Fm 30 14 106]
def Bv:List FI:=[Fm 0 107 12,Fm 2 109 12,Fm 5 112 12,Fm 8 115 12,Fs 9 116 (.iaddrA 8 1 (.t 10) (ci 1)),Fs 10 117 (Ld 116),Fs 11 118 (Bb .and 115 117),Fm 12 119 12,Fs 13 120 (.iaddrA 8 1 (.t 10) (ci 2)),Fs 14 121 (Ld 120),Fs 15 122 (Bb .and 119 121),Fs 16 123 (Bb .xor 118 122),Fs 17 124 (.iaddrA 8 1 (.t 10) (ci 1)),Fs 18 125 (Ld 124),Fs 19 126 (.iaddrA 8 1 (.t 10) (ci 2)),Fs 20 127 (Ld 126),Fs 21 128 (Bb .and 125 127),Fs 22 129 (Bb .xor 123 128),Fz 1 108 (Ca 157 [.t 107,ci (-2)]),Fz 3 110 (Ca 157 [.t 109,ci (-13)]),Fs 4 111 (Bb .xor 108 110),Fz 6 113 (Ca 157 [.t 112,ci (-22)]),Fs 7 114 (Bb .xor 111 113),Fs 23 130 (Bb .add 114 129),Fm 24 15 130]
def Bu:List RI:=[om 131 14,omk 132 15,oo 133 (Bb .add 131 132) [131,132],on 134 (.iaddrA 8 1 (.t 10) (ci 0)),oo 135 (Ld 134) [134],on 136 (.iaddrA 8 1 (.t 10) (ci 1)),oo 137 (Ld 136) [136],on 138 (.iaddrA 8 1 (.t 10) (ci 2)),oo 139 (Ld 138) [138],on 140 (.iaddrA 8 1 (.t 10) (ci 3)),oo 141 (Ld 140) [140],omk 142 14,oo 143 (Bb .add 141 142) [141,142],on 144 (.iaddrA 8 1 (.t 10) (ci 4)),oo 145 (Ld 144) [144],on 146 (.iaddrA 8 1 (.t 10) (ci 5)),oo 147 (Ld 146) [146],on 148 (.iaddrA 8 1 (.t 10) (ci 6)),oo 149 (Ld 148) [148],oo 150 (.build [.int .u32 0,.int .u32 0,.int .u32 0,.int .u32 0,.int .u32 0,.int .u32 0,.int .u32 0,.int .u32 0] [(0,1,(.t 133)),(1,1,(.t 135)),(2,1,(.t 137)),(3,1,(.t 139)),(4,1,(.t 143)),(5,1,(.t 145)),(6,1,(.t 147)),(7,1,(.t 149))]) [133,135,137,139,143,145,147,149],Sr 8 10 150 [150]]
def Bt:List RI:=[oo 151 (Bc .add 70 1) [70],omk 70 151]
def tv:RC:=(So Bz (Sq (Kc 71 (Kk [71] .skip) (Kk [4,70,71] (.exit 2))) (Sq (Bk 3 (So By (Sq (.flt [0,1,0,4,3,31] [] Bx [73,74,75,76]) (Sq (.flt [0,1,0,4,0,28,60,0,188,508,1023,0,0,4096,14336,0,32768,0,131072,491520,1046528,2097151,0,4194304,12582912,33554431,0,67108864,201326592,536870911,1073741823] [] Bw [11,13,77,78,79,80,81,82,83,84,85,86,87,88,89,90,91,92,93,94,95,96,97,98,99,100,101,102,103,104,105,106]) (Sq (.flt [0,1,0,7,15,0,47,127,0,0,512,1792,0,0,8192,28672,65280,0,131072,0,524288,1966080,4194048,8388607,16777215] [] Bv [12,107,108,109,110,111,112,113,114,115,116,117,118,119,120,121,122,123,124,125,126,127,128,129,130]) (.ops Bu)))))) (.ops Bt))))
def sE:RC:=tv
def Bs:List RI:=[on 152 (Mc 0)]
def Br:List RI:=[on 153 (Bc .lss 152 8)]
def Bq:List RI:=[om 154 152,omk 16 154]
def Bp:List FI:=[Fm 0 155 0,Fm 1 156 16,Fs 2 157 (.nchk (.t 155)),Fs 3 158 (.iaddrA 8 1 (.t 157) (.t 156)),Fs 4 159 (Ld 158),Fm 5 160 16,Fs 6 161 (.iaddrA 8 1 (.t 10) (.t 160)),Fs 7 162 (Ld 161),Fs 8 163 (Bb .add 159 162),Fs 9 164 (.nchk (.t 155)),Fs 10 165 (.iaddrA 8 1 (.t 164) (.t 156)),Fr 11 1 165 163]
def Bo:List RI:=[oo 166 (Bc .add 152 1) [152],omk 152 166]
def tu:RC:=(So Br (Sq (Kc 153 (Kk [153] .skip) (Kk [0,10,152,153] (.exit 4))) (Sq (Bk 5 (So Bq (.flt [0,0,1,7,15,0,32,96,255,1,1023,2047] [] Bp [16,155,156,157,158,159,160,161,162,163,164,165]))) (.ops Bo))))
def sD:RC:=tu
def xhH:RC:=(So K7 (Sq (So xV (Bk 0 (.loop sF))) (So BB (Sq (So BA (Bk 2 (.loop sE))) (So Bs (Bk 4 (.loop sD)))))))
def Y9:FnC:=⟨xhH,167,[],[],[]⟩
def KY:List RI:=[on 10 (Mb true)]
def KX:List RI:=[on 11 (Mb true)]
def KW:List RI:=[om 21 2,om 22 1,oo 23 (Bb .sub 21 22) [21,22],omk 12 23]
def KV:List RI:=[om 24 12,oo 25 (Bc .leq 24 12) [24]]
def KU:List RI:=[omk 26 0,omk 27 1,omk 28 2,omk 29 4,oo 30 (Ca 158 [.t 26,.t 27,.t 28,.t 29]) [26,27,28,29,30]]
def KT:List RI:=[om 31 3,oo 32 (Bc .eql 31 0) [31]]
def KS:List RI:=[omk 33 0,omk 34 1,omk 35 2,omk 36 4,oo 37 (Ca 159 [.t 33,.t 34,.t 35,.t 36]) [33,34,35,36,37]]
def KR:List RI:=[om 38 10,oo 39 (.un .not (.t 38)) [38]]
def KQ:List RI:=[om 40 0,om 41 1,om 42 2,om 43 4,oo 44 (Ca 160 [.t 40,.t 41,.t 42,.t 43]) [40,41,42,43,44]]
def KP:List RI:=[omk 45 3,oo 46 (Bc .sub 45 1) [45],omk 3 46]
def Bn:List RI:=[om 48 0,om 49 1,om 50 2,om 51 4,oo 52 (Ca 161 [.t 48,.t 49,.t 50,.t 51]) [48,49,50,51],omk 47 52,on 53 (.ext (.t 47) 0),oo 54 (.ext (.t 47) 1) [47],omk 13 53,omk 14 54]
def Bm:List RI:=[om 55 14,oo 56 (Bc .eql 55 2) [55]]
def Bl:List RI:=[om 57 0,om 58 1,om 59 2,om 60 4,oo 61 (Ca 162 [.t 57,.t 58,.t 59,.t 60]) [57,58,59,60,61]]
def Bj:List RI:=[om 62 2,oo 63 (Bc .sub 62 1) [62],omk 64 13,om 65 1,oo 66 (Bb .sub 64 65) [64,65],oo 67 (Bb .sub 63 66) [63,66],omk 13 67]
def Bi:List RI:=[on 14 (Mc 1)]
def Bh:List RI:=[om 68 10,omk 69 68,.grp 69 true [(xi 70 69 true (Mv 11))] [],oo 71 (Pf 69 70) [69,70],omk 72 71,.grp 72 true [(xi 73 72 true (Mv 14)),(xi 74 72 true (Bc .eql 73 1))] [14,73],oo 75 (Pf 72 74) [72,74]]
def Bg:List RI:=[om 76 0,om 77 1,om 78 2,om 79 4,oo 80 (Ca 163 [.t 76,.t 77,.t 78,.t 79]) [76,77,78,79]]
def Bf:List FI:=[Fm 0 81 1,Fs 1 82 (Bc .gtr 81 0),Fm 2 83 82,Fi 3 84 83 true (Mv 4),Fi 4 85 83 true (Mv 0),Fi 5 86 83 true (Mv 1),Fi 6 87 83 true (Bc .sub 86 1),Fi 7 88 83 true (Ia 4 85 87),Fi 8 89 83 true (Lt 4 88),Fi 9 90 83 true (Mv 0),Fi 10 91 83 true (Mv 13),Fi 11 92 83 true (Ia 4 90 91),Fi 12 93 83 true (Lt 4 92),Fy 13 94 83 true (.call (.t 84) [.t 89,.t 93]),Fi 14 95 83 true (Bc .lss 94 0),Fi 15 96 83 true (.un .not (.t 95)),Fs 16 97 (Pf 83 96)]
def Be:List RI:=[om 98 0,omk 99 1,om 100 2,omk 101 13,om 102 4,oo 103 (Ca 164 [.t 98,.t 99,.t 100,.t 101,.t 102]) [98,99,100,101,102],omk 15 103]
def Bd:List RI:=[omk 104 15,omk 1 104]
def Ba:List RI:=[om 106 0,om 107 1,om 108 2,omk 109 13,om 110 4,oo 111 (Ca 165 [.t 106,.t 107,.t 108,.t 109,.t 110]) [106,107,108,109,110],omk 105 111,on 112 (.ext (.t 105) 0),oo 113 (.ext (.t 105) 1) [105],omk 16 112,omk 17 113]
def A9:List RI:=[omk 114 17,omk 11 114]
def A8:List RI:=[om 115 16,om 116 1,oo 117 (Bb .sub 115 116) [115,116],om 118 2,om 119 16,oo 120 (Bb .sub 118 119) [118,119],omk 18 117,omk 19 120]
def A7:List RI:=[omk 121 12,oo 122 (Bc .quo 121 8) [121],omk 20 122]
def A6:List RI:=[om 123 18,om 124 19,oo 125 (Bb .lss 123 124) [123,124]]
def A5:List RI:=[omk 126 18,omk 127 20,oo 128 (Bb .geq 126 127) [126,127],omk 10 128]
def A4:List RI:=[om 129 0,omk 130 1,om 131 16,om 132 3,om 133 4,oo 134 (Ca 135 [.t 129,.t 130,.t 131,.t 132,.t 133]) [129,130,131,132,133,134]]
def A3:List RI:=[omk 135 16,oo 136 (Bc .add 135 1) [135],omk 1 136]
def A1:List RI:=[omk 137 19,omk 138 20,oo 139 (Bb .geq 137 138) [137,138],omk 10 139]
def AZ:List RI:=[om 140 0,om 141 16,oo 142 (Bc .add 141 1) [141],omk 143 2,om 144 3,om 145 4,oo 146 (Ca 135 [.t 140,.t 142,.t 143,.t 144,.t 145]) [140,142,143,144,145,146]]
def AY:List RI:=[omk 147 16,omk 2 147]
def tq:RC:=(Bk 1 (So KW (Sq (So KV (Kc 25 (Kk [3,10,11,12,25] (So KU .ret)) (Kk [25] .skip))) (Sq (So KT (Kc 32 (Kk [3,10,11,12,32] (So KS .ret)) (Kk [32] .skip))) (Sq (So KR (Kc 39 (Kk [39] (So KQ (.ops KP))) (Kk [39] .skip))) (So Bn (Sq (So Bm (Kc 56 (Kk [14,56] (So Bl (So Bj (.ops Bi)))) (Kk [56] .skip))) (Sq (So Bh (Kc 75 (Kk [75] (So Bg (Kc 80 (Kk [0,1,2,3,4,10,11,12,13,80] .ret) (Kk [80] .skip)))) (Kk [75] .skip))) (Sq (Sq (.flt [0,1,3,7,7,7,39,119,247,7,7,1543,3591,8191,16383,32767,65535] [] Bf [81,82,83,84,85,86,87,88,89,90,91,92,93,94,95,96]) (Kc 97 (Kk [12,97] (So Be (So Bd (.exit 1)))) (Kk [10,11,97] .skip))) (So Ba (So A9 (So A8 (So A7 (So A6 (Kc 125 (Kk [19,125] (So A5 (So A4 (.ops A3)))) (Kk [18,125] (So A1 (So AZ (.ops AY)))))))))))))))))))
def AX:RC:=tq
def xhG:RC:=(So KY (So KX (Bk 0 (.loop AX))))
def Y8:FnC:=⟨xhG,148,[],[],[]⟩
def KO:List RI:=[omk 3 0,oo 4 (.toInt .u32 (.t 3)) [3],oo 5 (Ca 166 [.t 4]) [4],omk 2 5]
def KN:List RI:=[omk 6 0,oo 7 (Ca 167 [.t 6]) [6],omk 2 7]
def xhF:RC:=(So kJ (Sq (.cond (.c (.bool false)) (So KO .ret) .skip) (So KN .ret)))
def Y7:FnC:=⟨xhF,8,[.tmp 2],[],[]⟩
def KM:List RI:=[omk 5 0,on 6 (Ln 5),on 7 (Mc 0)]
def KL:List RI:=[on 8 (Bb .lss 7 6)]
def KK:List RI:=[on 9 (Ia 1 5 7),oo 10 (Ld 9) [9],omk 4 10]
def KJ:List RI:=[om 11 4,oo 12 (.bin .lss (.t 11) (.c (.u8 32))) [11],omk 13 12,.grp 13 false [(xi 14 13 false (Mv 4)),(xi 15 13 false (.bin .gtr (.t 14) (.c (.u8 126))))] [4,14],oo 16 (Pt 13 15) [13,15]]
def KI:List RI:=[oo 17 (Bc .add 7 1) [7],omk 7 17]
def zo:RC:=(So KL (Sq (Kc 8 (Kk [8] .skip) (Kk [5,6,7,8] (.exit 0))) (Sq (Bk 1 (So KK (So KJ (Kc 16 (Kk [5,6,7,16] (So nH .ret)) (Kk [16] .skip))))) (.ops KI))))
def yg:RC:=zo
def xhE:RC:=(So wA (Sq (So KM (Bk 0 (.loop yg))) (So qc .ret)))
def Y6:FnC:=⟨xhE,18,[.tmp 2],[],[]⟩
def Kw:List RI:=[om 3 0,omk 4 0,oo 5 (Bb .neq 3 4) [3,4],omk 2 5]
def xhD:RC:=(So wA (So Kw .ret))
def Y5:FnC:=⟨xhD,6,[.tmp 2],[],[]⟩
def Kv:List RI:=[on 17 (.lit 1 [(.c (.int .u32 1732584193)),(.c (.int .u32 4023233417)),(.c (.int .u32 2562383102)),(.c (.int .u32 271733878)),(.c (.int .u32 3285377520))]),omk 3 17]
def Ku:List RI:=[omk 18 0,oo 19 (Ca 116 [.t 18]) [18],omk 4 19]
def Kt:List RI:=[om 20 5,om 21 4,oo 22 (Ln 21) [21],oo 23 (Bb .lss 20 22) [20,22]]
def Ks:List RI:=[on 6 (.new (.arr 1 (aq 80 [.int .u32 0])))]
def Kr:List RI:=[om 26 7,oo 27 (Bc .lss 26 80) [26]]
def Kq:List RI:=[om 30 7,oo 31 (Bc .lss 30 16) [30]]
def Kp:List RI:=[om 32 7,om 33 4,om 34 5,om 35 5,oo 36 (Bc .add 35 64) [35],oo 37 (.slcL 1 (.t 33) (some (.t 34)) (some (.t 36)) none) [33,34,36],om 38 7,oo 39 (Ca 117 [.t 37,.t 38]) [37,38],oo 40 (.iaddrA 80 1 (.t 6) (.t 32)) [32],Sr 1 40 39 [39,40]]
def AW:List FI:=[Fm 0 41 7,Fm 1 42 7,Fs 2 43 (Bc .sub 42 3),Fs 3 44 (.iaddrA 80 1 (.t 6) (.t 43)),Fs 4 45 (Ld 44),Fm 5 46 7,Fs 6 47 (Bc .sub 46 8),Fs 7 48 (.iaddrA 80 1 (.t 6) (.t 47)),Fs 8 49 (Ld 48),Fs 9 50 (Bb .xor 45 49),Fm 10 51 7,Fs 11 52 (Bc .sub 51 14),Fs 12 53 (.iaddrA 80 1 (.t 6) (.t 52)),Fs 13 54 (Ld 53),Fs 14 55 (Bb .xor 50 54),Fm 15 56 7,Fs 16 57 (Bc .sub 56 16),Fs 17 58 (.iaddrA 80 1 (.t 6) (.t 57)),Fs 18 59 (Ld 58),Fs 19 60 (Bb .xor 55 59),Fz 20 61 (Ca 170 [.t 60,(.c (.int .u64 1))]),Fs 21 62 (.iaddrA 80 1 (.t 6) (.t 41)),Fr 22 1 62 61]
def AV:List RI:=[omk 28 7,oo 29 (Bc .add 28 1) [28],omk 7 29]
def tp:RC:=(Sq (So Kr (Kc 27 (Kk [27] .skip) (Kk [7,27] (.exit 2)))) (Sq (Bk 3 (Sq (So Kq (Kc 31 (Kk [31] (So Kp (.exit 3))) (Kk [31] .skip))) (.flt [0,0,2,6,14,0,32,96,224,510,0,1024,3072,7168,16382,0,32768,98304,229376,524286,1048574,2097151,4194303] [] AW [41,42,43,44,45,46,47,48,49,50,51,52,53,54,55,56,57,58,59,60,61,62]))) (.ops AV)))
def sC:RC:=tp
def AU:List FI:=[Fm 0 63 3,Fs 1 64 (.iaddrL 1 (.t 63) (ci 0)),Fs 2 65 (Ld 64),Fm 3 66 3,Fs 4 67 (.iaddrL 1 (.t 66) (ci 1)),Fs 5 68 (Ld 67),Fm 6 69 3,Fs 7 70 (.iaddrL 1 (.t 69) (ci 2)),Fs 8 71 (Ld 70),Fm 9 72 3,Fs 10 73 (.iaddrL 1 (.t 72) (ci 3)),Fs 11 74 (Ld 73),Fm 12 75 3,Fs 13 76 (.iaddrL 1 (.t 75) (ci 4)),Fs 14 77 (Ld 76),Fm 15 8 65,Fm 16 9 68,Fm 17 10 71,Fm 18 11 74,Fm 19 12 77]
def AT:List RI:=[on 13 (Mc 0)]
def AS:List RI:=[om 78 13,oo 79 (Bc .lss 78 80) [78]]
def AR:List RI:=[om 82 9,om 83 10,oo 84 (Bb .xor 82 83) [82,83],om 85 11,oo 86 (Bb .xor 84 85) [84,85],omk 14 86,on 15 (.mov (.c (.int .u32 3395469782)))]
def AQ:List RI:=[om 88 13,oo 89 (Bc .lss 88 20) [88],omk 87 89]
def AP:List RI:=[om 90 9,om 91 10,oo 92 (Bb .and 90 91) [90,91],om 93 9,oo 94 (.un .xor (.t 93)) [93],om 95 11,oo 96 (Bb .and 94 95) [94,95],oo 97 (Bb .xor 92 96) [92,96],omk 14 97,on 15 (.mov (.c (.int .u32 1518500249)))]
def AO:List RI:=[om 99 13,oo 100 (Bc .lss 99 40) [99],omk 98 100]
def AN:List RI:=[on 15 (.mov (.c (.int .u32 1859775393)))]
def AM:List RI:=[om 102 13,oo 103 (Bc .lss 102 60) [102],omk 101 103]
def AL:List RI:=[om 104 9,om 105 10,oo 106 (Bb .and 104 105) [104,105],om 107 9,om 108 11,oo 109 (Bb .and 107 108) [107,108],oo 110 (Bb .xor 106 109) [106,109],om 111 10,om 112 11,oo 113 (Bb .and 111 112) [111,112],oo 114 (Bb .xor 110 113) [110,113],omk 14 114,on 15 (.mov (.c (.int .u32 2400959708)))]
def AK:List FI:=[Fm 0 115 8,Fm 2 117 14,Fm 4 119 12,Fm 6 121 15,Fm 8 123 13,Fs 9 124 (.iaddrA 80 1 (.t 6) (.t 123)),Fs 10 125 (Ld 124),Fz 1 116 (Ca 170 [.t 115,(.c (.int .u64 5))]),Fs 3 118 (Bb .add 116 117),Fs 5 120 (Bb .add 118 119),Fs 7 122 (Bb .add 120 121),Fs 11 126 (Bb .add 122 125),Fm 12 16 126]
def AJ:List RI:=[omk 127 16,omk 128 8,omk 129 9,oo 130 (Ca 170 [.t 129,(.c (.int .u64 30))]) [129],omk 131 10,omk 132 11,omk 8 127,omk 9 128,omk 10 130,omk 11 131,omk 12 132]
def AI:List RI:=[omk 80 13,oo 81 (Bc .add 80 1) [80],omk 13 81]
def tn:RC:=(Sq (So AS (Kc 79 (Kk [79] .skip) (Kk [6,13,79] (.exit 4)))) (Sq (Bk 5 (So AR (Sq (Bk 6 (So AQ (Kc 87 (Kk [14,15,87] (.ops AP)) (Kk [87] (So AO (Kc 98 (Kk [15,98] (.ops AN)) (Kk [98] (So AM (Kc 101 (Kk [14,15,101] (.ops AL)) (Kk [101] .skip)))))))))) (Sq (.flt [0,1,0,7,0,31,0,127,0,256,768,2047,4095] [] AK [12,14,15,115,116,117,118,119,120,121,122,123,124,125,126]) (.ops AJ))))) (.ops AI)))
def fI:RC:=tn
def AH:List FI:=[Fm 0 133 3,Fs 1 134 (.iaddrL 1 (.t 133) (ci 0)),Fs 2 135 (Ld 134),Fm 3 136 8,Fs 4 137 (Bb .add 135 136),Fm 5 138 3,Fs 6 139 (.iaddrL 1 (.t 138) (ci 1)),Fs 7 140 (Ld 139),Fm 8 141 9,Fs 9 142 (Bb .add 140 141),Fm 10 143 3,Fs 11 144 (.iaddrL 1 (.t 143) (ci 2)),Fs 12 145 (Ld 144),Fm 13 146 10,Fs 14 147 (Bb .add 145 146),Fm 15 148 3,Fs 16 149 (.iaddrL 1 (.t 148) (ci 3)),Fs 17 150 (Ld 149),Fm 18 151 11,Fs 19 152 (Bb .add 150 151),Fm 20 153 3,Fs 21 154 (.iaddrL 1 (.t 153) (ci 4)),Fs 22 155 (Ld 154),Fm 23 156 12,Fs 24 157 (Bb .add 155 156),Fs 25 158 (.lit 1 [.t 137,.t 142,.t 147,.t 152,.t 157]),⟨26,false,(xm 3 158)⟩]
def AG:List RI:=[omk 24 5,oo 25 (Bc .add 24 64) [24],omk 5 25]
def tj:RC:=(.post (Sq (So Kt (Kc 23 (Kk [23] .skip) (Kk [4,5,23] (.exit 0)))) (Sq (Bk 1 (So Ks (Sq (So yy (Bk 2 (.loop sC))) (Sq (.flt [0,1,3,0,8,24,0,64,192,0,512,1536,0,4096,12288,7,32831,98815,233471,524287] [] AU [63,64,65,66,67,68,69,70,71,72,73,74,75,76,77]) (Sq (So AT (Bk 4 (.loop fI))) (.flt [0,1,3,0,15,0,32,96,0,480,0,1024,3072,0,15360,0,32768,98304,0,491520,0,1048576,3145728,0,15728640,33554431,67108863] [] AH [8,9,10,11,12,133,134,135,136,137,138,139,140,141,142,143,144,145,146,147,148,149,150,151,152,153,154,155,156,157,158])))))) (.ops AG))) [.gc [106]])
def sB:RC:=tj
def AF:List RI:=[omk 159 3,oo 160 (Ca 119 [.t 159]) [159],omk 2 160]
def xhC:RC:=(So l7 (So Kv (So Ku (Sq (So lR (Bk 0 (.loop sB))) (So AF .ret)))))
def Y4:FnC:=⟨xhC,161,[.tmp 2],[],[]⟩
def Ko:List RI:=[om 10 1,oo 11 (Bc .eql 10 10) [10]]
def Kn:List RI:=[om 12 0,oo 13 (.bin .leq (ci 0) (.t 12)) [12],omk 14 13,.grp 14 true [(xi 15 14 true (Mv 0)),(xi 16 14 true (Bc .lss 15 100))] [15],oo 17 (Pf 14 16) [14,16]]
def Km:List RI:=[omk 18 0,oo 19 (Ca 171 [.t 18]) [18],omk 4 19]
def Kj:List RI:=[on 5 (.new (.bar (aq 24 0)))]
def Ki:List RI:=[om 20 0,oo 21 (.toInt .u64 (.t 20)) [20],omk 6 21]
def Kh:List RI:=[om 22 0,oo 23 (Bc .lss 22 0) [22]]
def Kg:List RI:=[omk 24 6,oo 25 (.un .neg (.t 24)) [24],omk 6 25]
def Kf:List RI:=[om 26 6,oo 27 (Ca 172 [.t 26]) [26],omk 7 27]
def Ke:List RI:=[om 28 7,oo 29 (.bin .add (ci 1) (.t 28)) [28],oo 30 (.slcA 24 1 (.t 5) (some (ci 1)) (some (.t 29)) none) [29],omk 31 6,oo 32 (Ca 173 [.t 30,.t 31]) [30,31,32]]
def AE:List RI:=[omk 33 0,oo 34 (Bc .lss 33 0) [33]]
def AD:List RI:=[on 35 (.iaddrA 24 1 (.t 5) (ci 0)),.op ⟨none,none,.store 1 (.t 35) (.c (.u8 45))⟩ [35]]
def AC:List RI:=[omk 36 7,oo 37 (.bin .add (ci 1) (.t 36)) [36],oo 38 (.slcA 24 1 (.t 5) none (some (.t 37)) none) [5,37],oo 39 (.b2s (.t 38)) [38],omk 4 39]
def AB:List RI:=[omk 40 7,oo 41 (.bin .add (ci 1) (.t 40)) [40],oo 42 (.slcA 24 1 (.t 5) (some (ci 1)) (some (.t 41)) none) [5,41],oo 43 (.b2s (.t 42)) [42],omk 4 43]
def AA:List RI:=[om 45 0,oo 46 (.toInt .u64 (.t 45)) [45],omk 47 1,omk 48 0,oo 49 (Bc .lss 48 0) [48],oo 50 (Ca 174 [(.c (.byt [] .clip)),.t 46,.t 47,.t 49,(.c (.bool false))]) [46,47,49],omk 44 50,on 51 (.ext (.t 44) 0),oo 52 (.ext (.t 44) 1) [44],.op (xm 8 51) [8,51],omk 9 52]
def Az:List RI:=[omk 53 9,omk 4 53]
def xhB:RC:=(So qm (Sq (So Ko (Kc 11 (Kk [1,11] (Sq (So Kn (Kc 17 (Kk [17] (So Km .ret)) (Kk [17] .skip))) (So Kj (So Ki (Sq (So Kh (Kc 23 (Kk [23] (.ops Kg)) (Kk [23] .skip))) (So Kf (So Ke (Sq (So AE (Kc 34 (Kk [34] (So AD (So AC .ret))) (Kk [34] .skip))) (So AB .ret))))))))) (Kk [11] .skip))) (So AA (So Az .ret))))
def Y3:FnC:=⟨xhB,54,[.tmp 4],[],[]⟩
def Kd:List RI:=[om 5 0,oo 6 (.len true (.t 5)) [5],oo 7 (Bc .gtr 6 0) [6],omk 8 7,.grp 8 true [(xi 9 8 true (Mv 0)),(xi 10 8 true (.idxS (.t 9) (ci 0))),(xi 11 8 true (Mv 1)),(xi 12 8 true (Bb .eql 10 11))] [9,10,11],oo 13 (Pf 8 12) [8,12]]
def Kb:List RI:=[omk 14 0,oo 15 (.slcS (.t 14) (some (ci 1)) none) [14],omk 0 15]
def zk:RC:=(Sq (So Kd (Kc 13 (Kk [13] .skip) (Kk [1,13] (.exit 0)))) (Bk 1 (.ops Kb)))
def ye:RC:=zk
def Ka:List RI:=[omk 16 0,omk 4 16]
def xhA:RC:=(So qm (Sq (Bk 0 (.loop ye)) (So Ka .ret)))
def Y2:FnC:=⟨xhA,17,[.tmp 4],[],[]⟩
def J9:List RI:=[om 5 0,oo 6 (.len true (.t 5)) [5],oo 7 (Bc .gtr 6 0) [6],omk 8 7,.grp 8 true [(xi 9 8 true (Mv 0)),(xi 10 8 true (Mv 0)),(xi 11 8 true (.len true (.t 10))),(xi 12 8 true (Bc .sub 11 1)),(xi 13 8 true (.idxS (.t 9) (.t 12))),(xi 14 8 true (Mv 1)),(xi 15 8 true (Bb .eql 13 14))] [9,10,11,12,13,14],oo 16 (Pf 8 15) [8,15]]
def J8:List RI:=[om 17 0,omk 18 0,oo 19 (.len true (.t 18)) [18],oo 20 (Bc .sub 19 1) [19],oo 21 (.slcS (.t 17) none (some (.t 20))) [17,20],omk 0 21]
def zj:RC:=(Sq (So J9 (Kc 16 (Kk [16] .skip) (Kk [1,16] (.exit 0)))) (Bk 1 (.ops J8)))
def yc:RC:=zj
def J7:List RI:=[omk 22 0,omk 4 22]
def xhz:RC:=(So qm (Sq (Bk 0 (.loop yc)) (So J7 .ret)))
def Y1:FnC:=⟨xhz,23,[.tmp 4],[],[]⟩
def JX:List RI:=[om 5 0,oo 6 (.len true (.t 5)) [5],om 7 1,oo 8 (.len true (.t 7)) [7],oo 9 (Bb .geq 6 8) [6,8],omk 10 9,.grp 10 true [(xi 11 10 true (Mv 0)),(xi 12 10 true (Mv 1)),(xi 13 10 true (.len true (.t 12))),(xi 14 10 true (.slcS (.t 11) none (some (.t 13)))),(xi 15 10 true (Mv 1)),(xi 16 10 true (Bb .eql 14 15))] [0,1,11,12,13,14,15],oo 17 (Pf 10 16) [10,16],omk 4 17]
def xhy:RC:=(So qI (So JX .ret))
def Y0:FnC:=⟨xhy,18,[.tmp 4],[],[]⟩
def JW:List RI:=[om 11 0,oo 12 (.len true (.t 11)) [11],omk 4 12]
def JV:List RI:=[on 13 (Mb false),.grp 13 true [(xi 14 13 true (Mv 4)),(xi 15 13 true (.bin .lss (ci 0) (.t 14))),(xi 16 13 true (Mv 15))] [14,15],.grp 16 true [(xi 17 16 true (Mv 4)),(xi 18 16 true (Bc .lss 17 10))] [17],.grp 13 true [(xi 19 13 true (Pf 16 18))] [16,18],oo 20 (Pf 13 19) [13,19],omk 21 20,.grp 21 false [(xi 22 21 false (Mb true))] [],.grp 22 true [(xi 23 22 true (Mv 4)),(xi 24 22 true (.bin .lss (ci 0) (.t 23))),(xi 25 22 true (Mv 24))] [23,24],.grp 25 true [(xi 26 25 true (Mv 4)),(xi 27 25 true (Bc .lss 26 19))] [4,26],.grp 22 true [(xi 28 22 true (Pf 25 27))] [25,27],.grp 21 false [(xi 29 21 false (Pf 22 28))] [22,28],oo 30 (Pt 21 29) [21,29]]
def JU:List RI:=[om 31 0,omk 5 31]
def JT:List RI:=[om 32 0,oo 33 (.idxS (.t 32) (ci 0)) [32],oo 34 (.bin .eql (.t 33) (.c (.u8 45))) [33],omk 35 34,.grp 35 false [(xi 36 35 false (Mv 0)),(xi 37 35 false (.idxS (.t 36) (ci 0))),(xi 38 35 false (.bin .eql (.t 37) (.c (.u8 43))))] [36,37],oo 39 (Pt 35 38) [35,38]]
def JS:List RI:=[omk 40 0,oo 41 (.slcS (.t 40) (some (ci 1)) none) [40],omk 0 41]
def JR:List RI:=[om 42 0,oo 43 (.len true (.t 42)) [42],oo 44 (Bc .lss 43 1) [43]]
def JQ:List RI:=[omk 46 0,oo 47 (.s2b (.t 46)) [46],on 48 (Ln 47),on 49 (Mc 0)]
def JP:List RI:=[on 50 (Bb .lss 49 48)]
def Ay:List RI:=[on 51 (Ia 1 47 49),oo 52 (Ld 51) [51],omk 8 52]
def Ax:List RI:=[omk 53 8,oo 54 (.bin .sub (.t 53) (.c (.u8 48))) [53],omk 8 54]
def Aw:List RI:=[om 55 8,oo 56 (.bin .gtr (.t 55) (.c (.u8 9))) [55]]
def Av:List RI:=[omk 58 6,oo 59 (Bc .mul 58 10) [58],omk 60 8,oo 61 (.toInt .i64 (.t 60)) [60],oo 62 (Bb .add 59 61) [59,61],omk 6 62]
def Au:List RI:=[oo 63 (Bc .add 49 1) [49],omk 49 63]
def th:RC:=(So JP (Sq (Kc 50 (Kk [50] .skip) (Kk [47,48,49,50] (.exit 0))) (Sq (Bk 1 (So Ay (So Ax (Sq (So Aw (Kc 56 (Kk [5,6,8,47,48,49,56] (Sq .bad .ret)) (Kk [56] .skip))) (.ops Av))))) (.ops Au))))
def oF:RC:=th
def At:List RI:=[omk 64 5,oo 65 (.idxS (.t 64) (ci 0)) [64],oo 66 (.bin .eql (.t 65) (.c (.u8 45))) [65]]
def As:List RI:=[omk 67 6,oo 68 (.un .neg (.t 67)) [67],omk 6 68]
def Ar:List RI:=[omk 69 6,omk 2 69,on 3 (.mov (.c .nili))]
def Aq:List RI:=[omk 71 0,oo 72 (Ca 179 [.t 71,ci 10,ci 0]) [71],omk 70 72,on 73 (.ext (.t 70) 0),oo 74 (.ext (.t 70) 1) [70],omk 9 73,omk 10 74]
def Ap:List RI:=[omk 75 9,omk 76 10,omk 2 75,omk 3 76]
def xhx:RC:=(So yk (So JW (Sq (So JV (Kc 30 (Kk [30] (So JU (Sq (So JT (Kc 39 (Kk [39] (So JS (So JR (Kc 44 (Kk [0,5,44] (Sq .bad .ret)) (Kk [44] .skip))))) (Kk [39] .skip))) (So lU (Sq (So JQ (Bk 0 (.loop oF))) (Sq (So At (Kc 66 (Kk [66] (.ops As)) (Kk [66] .skip))) (So Ar .ret))))))) (Kk [30] .skip))) (So Aq (So Ap .ret)))))
def YZ:FnC:=⟨xhx,77,[.tmp 2,.tmp 3],[],[]⟩
def xhw:RC:=(So nR (Sq (.flt [0,0,2,7,15,31,63,0,0,256,768,1920,3968,8064,16256,32767,0,0,131072,393216,983040,2031616,4128768,8323072,16777215,0,0,67108864,201326592,503316480,1040187392,2113929216,4294967295,8589934591] [] yq [0,1,5,6,7,8,9,10,11,12,13,14,15,16,17,18,19,20,21,22,23,24,25,26,27,28,29,30,31,32,33,34,35,36,37]) .ret))
def YY:FnC:=⟨xhw,38,[.tmp 4],[],[]⟩
def JO:List RI:=[omk 6 1,oo 7 (.toInt .u64 (.t 6)) [6],oo 8 (.bin .and (.t 7) (.c (.int .u64 31))) [7],omk 5 8]
def JN:List RI:=[om 9 0,om 10 5,oo 11 (Bb .shl 9 10) [9,10],omk 12 0,omk 13 5,oo 14 (.bin .sub (.c (.int .u64 32)) (.t 13)) [13],oo 15 (Bb .shr 12 14) [12,14],oo 16 (Bb .or 11 15) [11,15],omk 4 16]
def xhv:RC:=(So nR (So JO (So JN .ret)))
def YX:FnC:=⟨xhv,17,[.tmp 4],[],[]⟩
def JM:List RI:=[om 10 1,oo 11 (Bc .add 10 1) [10],omk 8 11]
def JL:List RI:=[om 12 8,om 13 2,oo 14 (Bb .lss 12 13) [12,13]]
def JK:List RI:=[om 17 8,omk 9 17]
def JJ:List FI:=[Fm 0 18 9,Fm 1 19 1,Fs 2 20 (Bb .gtr 18 19),Fm 3 21 20,Fi 4 22 21 true (Mv 3),Fi 5 23 21 true (Mv 0),Fi 6 24 21 true (Mv 9),Fi 7 25 21 true (Ia 4 23 24),Fi 8 26 21 true (Lt 4 25),Fi 9 27 21 true (Mv 0),Fi 10 28 21 true (Mv 9),Fi 11 29 21 true (Bc .sub 28 1),Fi 12 30 21 true (Ia 4 27 29),Fi 13 31 21 true (Lt 4 30),Fy 14 32 21 true (.call (.t 22) [.t 26,.t 31]),Fi 15 33 21 true (Bc .lss 32 0),Fs 16 34 (Pf 21 33)]
def JI:List FI:=[Fm 0 37 0,Fm 1 38 9,Fm 2 39 0,Fm 3 40 9,Fs 4 41 (Bc .sub 40 1),Fm 5 42 0,Fm 6 43 9,Fs 7 44 (Bc .sub 43 1),Fs 8 45 (Ia 4 42 44),Fs 9 46 (Lt 4 45),Fm 10 47 0,Fm 11 48 9,Fs 12 49 (Ia 4 47 48),Fs 13 50 (Lt 4 49),Fs 14 51 (Ia 4 37 38),Fr 15 4 51 46,Fs 16 52 (Ia 4 39 41),Fr 17 4 52 50]
def JH:List RI:=[omk 35 9,oo 36 (Bc .sub 35 1) [35],omk 9 36]
def zg:RC:=(Sq (Sq (.flt [0,0,3,7,15,15,15,111,239,15,15,1039,3599,7695,16383,32767,65535] [] JJ [18,19,20,21,22,23,24,25,26,27,28,29,30,31,32,33]) (Kc 34 (Kk [34] .skip) (Kk [9,34] (.exit 2)))) (Sq (Bk 3 (.flt [0,0,0,0,8,0,0,64,224,480,0,0,3072,7168,16355,32739,65535,131071] [] JI [37,38,39,40,41,42,43,44,45,46,47,48,49,50,51,52])) (.ops JH)))
def yb:RC:=zg
def JG:List RI:=[omk 15 8,oo 16 (Bc .add 15 1) [15],omk 8 16]
def zf:RC:=(Sq (So JL (Kc 14 (Kk [14] .skip) (Kk [0,1,2,3,8,14] (.exit 0)))) (Sq (Bk 1 (So JK (Bk 2 (.loop yb)))) (.ops JG)))
def ya:RC:=zf
def xhu:RC:=(So JM (Bk 0 (.loop ya)))
def YW:FnC:=⟨xhu,53,[],[],[]⟩
def JF:List RI:=[om 3 0,oo 4 (.bin .geq (.t 3) (.c (.int .u64 4294967296))) [3]]
def JE:List RI:=[omk 5 0,oo 6 (.bin .shr (.t 5) (.c (.int .u64 32))) [5],omk 0 6]
def JD:List RI:=[on 2 (Mc 32)]
def JC:List RI:=[om 7 0,oo 8 (.bin .geq (.t 7) (.c (.int .u64 65536))) [7]]
def JB:List RI:=[omk 9 0,oo 10 (.bin .shr (.t 9) (.c (.int .u64 16))) [9],omk 0 10]
def JA:List RI:=[omk 11 2,oo 12 (Bc .add 11 16) [11],omk 2 12]
def Jz:List RI:=[om 13 0,oo 14 (.bin .geq (.t 13) (.c (.int .u64 256))) [13]]
def Jy:List RI:=[omk 15 0,oo 16 (.bin .shr (.t 15) (.c (.int .u64 8))) [15],omk 0 16]
def Jx:List RI:=[omk 17 2,oo 18 (Bc .add 17 8) [17],omk 2 18]
def Ao:List RI:=[omk 19 2,omk 20 0,oo 21 (.toInt .u8 (.t 20)) [20],oo 22 (.idxS (.c (.str cs0)) (.t 21)) [21],oo 23 (.toInt .i64 (.t 22)) [22],oo 24 (Bb .add 19 23) [19,23],omk 2 24]
def xht:RC:=(So iU (Sq (So JF (Kc 4 (Kk [2,4] (So JE (.ops JD))) (Kk [4] .skip))) (Sq (So JC (Kc 8 (Kk [8] (So JB (.ops JA))) (Kk [8] .skip))) (Sq (So Jz (Kc 14 (Kk [14] (So Jy (.ops Jx))) (Kk [14] .skip))) (So Ao .ret)))))
def YV:FnC:=⟨xht,25,[.tmp 2],[],[]⟩
def Jk:List RI:=[om 5 0,om 6 1,oo 7 (Bb .shl 5 6) [5,6],omk 8 0,omk 9 1,oo 10 (.bin .sub (.c (.int .u64 32)) (.t 9)) [9],oo 11 (Bb .shr 8 10) [8,10],oo 12 (Bb .or 7 11) [7,11],omk 4 12]
def xhs:RC:=(So nR (So Jk .ret))
def YU:FnC:=⟨xhs,13,[.tmp 4],[],[]⟩
def Jj:List RI:=[om 5 0,omk 6 0,oo 7 (Bc .add 6 1) [6],oo 8 (.slcS (.c (.str cs1)) (some (.t 5)) (some (.t 7))) [5,7],omk 2 8]
def Ji:List RI:=[om 9 0,oo 10 (Bc .mul 9 2) [9],omk 11 0,oo 12 (Bc .mul 11 2) [11],oo 13 (Bc .add 12 2) [12],oo 14 (.slcS (.c (.str cs2)) (some (.t 10)) (some (.t 13))) [10,13],omk 2 14]
def xhr:RC:=(So DY (Sq (So N3 (Kc 4 (Kk [4] (So Jj .ret)) (Kk [4] .skip))) (So Ji .ret)))
def YT:FnC:=⟨xhr,15,[.tmp 2],[],[]⟩
def Jh:List RI:=[om 4 0,oo 5 (Ca 167 [.t 4]) [4],oo 6 (Ca 189 [.t 5]) [5],omk 3 6]
def Jg:List RI:=[om 7 3,omk 8 0,omk 9 3,oo 10 (.iaddrA 20 1 (.c (.pp iM)) (.t 9)) [9],oo 11 (Ld 10) [10],oo 12 (Bb .geq 8 11) [8,11],oo 13 (Ca 190 [.t 12]) [12],oo 14 (Bb .add 7 13) [7,13],omk 2 14]
def xhq:RC:=(So kJ (So Jh (So Jg .ret)))
def YS:FnC:=⟨xhq,15,[.tmp 2],[],[]⟩
def Jf:List RI:=[om 17 0,oo 18 (Ln 17) [17],omk 4 18]
def Je:List RI:=[om 19 4,oo 20 (Bc .geq 19 8) [19]]
def Jd:List RI:=[om 21 1,oo 22 (.bin .rem (.t 21) (.c (.int .u64 100000000))) [21],oo 23 (.toInt .u32 (.t 22)) [22],omk 5 23]
def Jc:List RI:=[omk 24 1,oo 25 (.bin .quo (.t 24) (.c (.int .u64 100000000))) [24],omk 1 25]
def Jb:List RI:=[om 26 5,oo 27 (.bin .quo (.t 26) (.c (.int .u32 10000))) [26],omk 28 5,oo 29 (.bin .rem (.t 28) (.c (.int .u32 10000))) [28],omk 6 27,omk 7 29]
def Ja:List RI:=[om 30 7,oo 31 (.bin .quo (.t 30) (.c (.int .u32 100))) [30],oo 32 (.bin .mul (.t 31) (.c (.int .u32 2))) [31],omk 33 7,oo 34 (.bin .rem (.t 33) (.c (.int .u32 100))) [33],oo 35 (.bin .mul (.t 34) (.c (.int .u32 2))) [34],omk 8 32,omk 9 35]
def I9:List RI:=[om 36 6,oo 37 (.bin .quo (.t 36) (.c (.int .u32 100))) [36],oo 38 (.bin .mul (.t 37) (.c (.int .u32 2))) [37],omk 39 6,oo 40 (.bin .rem (.t 39) (.c (.int .u32 100))) [39],oo 41 (.bin .mul (.t 40) (.c (.int .u32 2))) [40],omk 10 38,omk 11 41]
def I8:List FI:=[Fm 0 42 0,Fm 1 43 4,Fs 2 44 (Bc .sub 43 1),Fm 3 45 0,Fm 4 46 4,Fs 5 47 (Bc .sub 46 2),Fm 6 48 9,Fs 7 49 (.bin .add (.t 48) (.c (.int .u32 1))),Fs 8 50 (.idxS (.c (.str cs2)) (.t 49)),Fm 9 51 9,Fs 10 52 (.idxS (.c (.str cs2)) (.t 51)),Fs 11 53 (Ia 1 42 44),Fr 12 1 53 50,Fs 13 54 (Ia 1 45 47),Fr 14 1 54 52]
def I7:List FI:=[Fm 0 55 0,Fm 1 56 4,Fs 2 57 (Bc .sub 56 3),Fm 3 58 0,Fm 4 59 4,Fs 5 60 (Bc .sub 59 4),Fm 6 61 8,Fs 7 62 (.bin .add (.t 61) (.c (.int .u32 1))),Fs 8 63 (.idxS (.c (.str cs2)) (.t 62)),Fm 9 64 8,Fs 10 65 (.idxS (.c (.str cs2)) (.t 64)),Fs 11 66 (Ia 1 55 57),Fr 12 1 66 63,Fs 13 67 (Ia 1 58 60),Fr 14 1 67 65]
def I6:List FI:=[Fm 0 68 0,Fm 1 69 4,Fs 2 70 (Bc .sub 69 5),Fm 3 71 0,Fm 4 72 4,Fs 5 73 (Bc .sub 72 6),Fm 6 74 11,Fs 7 75 (.bin .add (.t 74) (.c (.int .u32 1))),Fs 8 76 (.idxS (.c (.str cs2)) (.t 75)),Fm 9 77 11,Fs 10 78 (.idxS (.c (.str cs2)) (.t 77)),Fs 11 79 (Ia 1 68 70),Fr 12 1 79 76,Fs 13 80 (Ia 1 71 73),Fr 14 1 80 78]
def An:List FI:=[Fm 0 81 0,Fm 1 82 4,Fs 2 83 (Bc .sub 82 7),Fm 3 84 0,Fm 4 85 4,Fs 5 86 (Bc .sub 85 8),Fm 6 87 10,Fs 7 88 (.bin .add (.t 87) (.c (.int .u32 1))),Fs 8 89 (.idxS (.c (.str cs2)) (.t 88)),Fm 9 90 10,Fs 10 91 (.idxS (.c (.str cs2)) (.t 90)),Fs 11 92 (Ia 1 81 83),Fr 12 1 92 89,Fs 13 93 (Ia 1 84 86),Fr 14 1 93 91]
def Am:List RI:=[omk 94 4,oo 95 (Bc .sub 94 8) [94],omk 4 95]
def tg:RC:=(Sq (So Je (Kc 20 (Kk [20] .skip) (Kk [20] (.exit 0)))) (Bk 1 (So Jd (So Jc (So Jb (So Ja (So I9 (Sq (.flt [0,0,2,0,0,16,0,64,192,0,512,455,2503,8191,16383] [] I8 [9,42,43,44,45,46,47,48,49,50,51,52,53,54]) (Sq (.flt [0,0,2,0,0,16,0,64,192,0,512,455,2503,8191,16383] [] I7 [8,55,56,57,58,59,60,61,62,63,64,65,66,67]) (Sq (.flt [0,0,2,0,0,16,0,64,192,0,512,455,2503,8191,16383] [] I6 [11,68,69,70,71,72,73,74,75,76,77,78,79,80]) (Sq (.flt [0,0,2,0,0,16,0,64,192,0,512,455,2503,8191,16383] [] An [10,81,82,83,84,85,86,87,88,89,90,91,92,93]) (.ops Am))))))))))))
def Al:RC:=tg
def Ak:List RI:=[omk 96 1,oo 97 (.toInt .u32 (.t 96)) [96],omk 12 97]
def Aj:List RI:=[om 98 4,oo 99 (Bc .geq 98 4) [98]]
def Ai:List RI:=[om 100 12,oo 101 (.bin .rem (.t 100) (.c (.int .u32 10000))) [100],omk 13 101]
def Ah:List RI:=[omk 102 12,oo 103 (.bin .quo (.t 102) (.c (.int .u32 10000))) [102],omk 12 103]
def Ag:List RI:=[om 104 13,oo 105 (.bin .quo (.t 104) (.c (.int .u32 100))) [104],oo 106 (.bin .mul (.t 105) (.c (.int .u32 2))) [105],omk 107 13,oo 108 (.bin .rem (.t 107) (.c (.int .u32 100))) [107],oo 109 (.bin .mul (.t 108) (.c (.int .u32 2))) [108],omk 14 106,omk 15 109]
def Af:List FI:=[Fm 0 110 0,Fm 1 111 4,Fs 2 112 (Bc .sub 111 1),Fm 3 113 0,Fm 4 114 4,Fs 5 115 (Bc .sub 114 2),Fm 6 116 15,Fs 7 117 (.bin .add (.t 116) (.c (.int .u32 1))),Fs 8 118 (.idxS (.c (.str cs2)) (.t 117)),Fm 9 119 15,Fs 10 120 (.idxS (.c (.str cs2)) (.t 119)),Fs 11 121 (Ia 1 110 112),Fr 12 1 121 118,Fs 13 122 (Ia 1 113 115),Fr 14 1 122 120]
def Ae:List FI:=[Fm 0 123 0,Fm 1 124 4,Fs 2 125 (Bc .sub 124 3),Fm 3 126 0,Fm 4 127 4,Fs 5 128 (Bc .sub 127 4),Fm 6 129 14,Fs 7 130 (.bin .add (.t 129) (.c (.int .u32 1))),Fs 8 131 (.idxS (.c (.str cs2)) (.t 130)),Fm 9 132 14,Fs 10 133 (.idxS (.c (.str cs2)) (.t 132)),Fs 11 134 (Ia 1 123 125),Fr 12 1 134 131,Fs 13 135 (Ia 1 126 128),Fr 14 1 135 133]
def Ad:List RI:=[omk 136 4,oo 137 (Bc .sub 136 4) [136],omk 4 137]
def Ac:List RI:=[om 138 4,oo 139 (Bc .geq 138 2) [138]]
def Ab:List RI:=[om 140 12,oo 141 (.bin .rem (.t 140) (.c (.int .u32 100))) [140],oo 142 (.bin .mul (.t 141) (.c (.int .u32 2))) [141],omk 16 142]
def Aa:List RI:=[omk 143 12,oo 144 (.bin .quo (.t 143) (.c (.int .u32 100))) [143],omk 12 144]
def z9:List FI:=[Fm 0 145 0,Fm 1 146 4,Fs 2 147 (Bc .sub 146 1),Fm 3 148 0,Fm 4 149 4,Fs 5 150 (Bc .sub 149 2),Fm 6 151 16,Fs 7 152 (.bin .add (.t 151) (.c (.int .u32 1))),Fs 8 153 (.idxS (.c (.str cs2)) (.t 152)),Fm 9 154 16,Fs 10 155 (.idxS (.c (.str cs2)) (.t 154)),Fs 11 156 (Ia 1 145 147),Fr 12 1 156 153,Fs 13 157 (Ia 1 148 150),Fr 14 1 157 155]
def z8:List RI:=[omk 158 4,oo 159 (Bc .sub 158 2) [158],omk 4 159]
def z7:List RI:=[omk 160 4,oo 161 (Bc .gtr 160 0) [160]]
def z6:List RI:=[omk 162 0,omk 163 12,oo 164 (.bin .add (.c (.int .u32 48)) (.t 163)) [163],oo 165 (.toInt .u8 (.t 164)) [164],oo 166 (.iaddrL 1 (.t 162) (ci 0)) [162],Sr 1 166 165 [165,166]]
def xhp:RC:=(So Jf (Sq (Bk 0 (.loop Al)) (So Ak (Sq (So Aj (Kc 99 (Kk [99] (So Ai (So Ah (So Ag (Sq (.flt [0,0,2,0,0,16,0,64,192,0,512,455,2503,8191,16383] [] Af [15,110,111,112,113,114,115,116,117,118,119,120,121,122]) (Sq (.flt [0,0,2,0,0,16,0,64,192,0,512,455,2503,8191,16383] [] Ae [14,123,124,125,126,127,128,129,130,131,132,133,134,135]) (.ops Ad))))))) (Kk [99] .skip))) (Sq (So Ac (Kc 139 (Kk [139] (So Ab (So Aa (Sq (.flt [0,0,2,0,0,16,0,64,192,0,512,455,2503,8191,16383] [] z9 [16,145,146,147,148,149,150,151,152,153,154,155,156,157]) (.ops z8))))) (Kk [139] .skip))) (So z7 (Kc 161 (Kk [161] (.ops z6)) (Kk [0,12,161] .skip))))))))
def YR:FnC:=⟨xhp,167,[],[],[]⟩
def IL:List RI:=[omk 3 0,oo 4 (Bc .mul 3 78913) [3],oo 5 (.bin .shr (.t 4) (.c (.int .u64 18))) [4],omk 2 5]
def xho:RC:=(So kJ (So IL .ret))
def YQ:FnC:=⟨xho,6,[.tmp 2],[],[]⟩
def xhn:RC:=(So kJ (Sq (So N4 (Kc 3 (Kk [3] (So gO .ret)) (Kk [3] .skip))) (So iU .ret)))
def YP:FnC:=⟨xhn,4,[.tmp 2],[],[]⟩
theorem Fk{g:Nat}{F:FnC}{fn:Func}(h1:prog.funcs[g]? =some fn)(h3:fn.ntmps=F.n:=by kernel_rfl)(h2:fn.body.map (cH prog)=some F.code.er:=by kernel_rfl)(h4:(p7 prog fn.results.toList F.rs&&eB prog g&&F.code.ok F.n)=true:=by kernel_rfl):bX prog g F:=by simp only[aD]at h4;exact QT h1 h2 h3 h4.1.1 h4.1.2 h4.2
noncomputable def xg6:Nat->Option FnB
 |3=>some (.code F3)
 |4=>some (.code F4)
 |10=>some (.code F10)
 |11=>some (.code F11)
 |12=>some (.code F12)
 |13=>some (.code F13)
 |14=>some (.code F14)
 |15=>some (.code F15)
 |16=>some (.code F16)
 |17=>some (.code F17)
 |18=>some (.code F18)
 |19=>some (.code F19)
 |20=>some (.code F20)
 |21=>some (.code F21)
 |22=>some (.code F22)
 |23=>some (.code F23)
 |28=>some (.code F28)
 |29=>some (.code F29)
 |31=>some (.code F31)
 |33=>some (.code F33)
 |34=>some (.code F34)
 |35=>some (.code F35)
 |37=>some (.code F37)
 |38=>some (.code F38)
 |40=>some (.code F40)
 |41=>some (.code F41)
 |42=>some (.code F42)
 |43=>some (.code F43)
 |44=>some (.code F44)
 |45=>some (.code F45)
 |46=>some (.code F46)
 |47=>some (.code F47)
 |48=>some (.code F48)
 |49=>some (.code F49)
 |50=>some (.code F50)
 |51=>some (.code F51)
 |52=>some (.code F52)
 |53=>some (.code F53)
 |54=>some (.code F54)
 |55=>some (.code F55)
 |56=>some (.code F56)
 |57=>some (.code F57)
 |58=>some (.code F58)
 |59=>some (.code F59)
 |65=>some (.code F65)
 |66=>some (.code F66)
 |70=>some (.code F70)
 |71=>some (.code F71)
 |72=>some (.code F72)
 |73=>some (.code F73)
 |75=>some (.code F75)
 |76=>some (.code F76)
 |77=>some (.code F77)
 |78=>some (.code F78)
 |79=>some (.code F79)
 |80=>some (.code F80)
 |81=>some (.code F81)
 |82=>some (.code F82)
 |85=>some (.code F85)
 |86=>some (.code F86)
 |87=>some (.code F87)
 |88=>some (.code F88)
 |89=>some (.code F89)
 |90=>some (.code F90)
 |91=>some (.code F91)
 |92=>some (.code F92)
 |93=>some (.code F93)
 |94=>some (.code F94)
 |95=>some (.code F95)
 |98=>some (.code F98)
 |100=>some (.code ZB)
 |101=>some (.code ZA)
 |102=>some (.code Zz)
 |103=>some (.code Zy)
 |104=>some (.code Zx)
 |105=>some (.code Zw)
 |106=>some (.code Zv)
 |108=>some (.code Zu)
 |109=>some (.code Zt)
 |110=>some (.code Zs)
 |111=>some (.code Zr)
 |112=>some (.code Zq)
 |115=>some (.code Zp)
 |116=>some (.code Zo)
 |117=>some (.code Zn)
 |118=>some (.code Zm)
 |119=>some (.code Zl)
 |120=>some (.code Zk)
 |121=>some (.code Zj)
 |122=>some (.code Zi)
 |123=>some (.code Zh)
 |124=>some (.code Zg)
 |127=>some (.code Zf)
 |128=>some (.code Ze)
 |129=>some (.code Zd)
 |131=>some (.code Zc)
 |132=>some (.code Zb)
 |133=>some (.code Za)
 |134=>some (.code Y9)
 |135=>some (.code Y8)
 |136=>some (.code Y7)
 |139=>some (.code Y6)
 |141=>some (.code Y5)
 |144=>some (.code Y4)
 |145=>some (.code Y3)
 |146=>some (.code Y2)
 |147=>some (.code Y1)
 |153=>some (.code Y0)
 |154=>some (.code YZ)
 |156=>some (.code YY)
 |157=>some (.code YX)
 |158=>some (.code YW)
 |167=>some (.code YV)
 |170=>some (.code YU)
 |171=>some (.code YT)
 |172=>some (.code YS)
 |173=>some (.code YR)
 |189=>some (.code YQ)
 |190=>some (.code YP)
 |130=>some (.prim Pr.p130)
 |107=>some (.prim Pr.p107)
 |142=>some (.prim Pr.p142)
 |138=>some (.prim Pr.p138)
 |_=>none
def xi1:Nat->Sig
 |92=>⟨[],[0]⟩
 |93=>⟨[],[0]⟩
 |135=>⟨[],[0]⟩
 |158=>⟨[],[0]⟩
 |173=>⟨[],[0]⟩
 |_=> {}
noncomputable def T:jN:=⟨xg6,xi1⟩
abbrev tf(k:Nat)(F:FnC):Prop:=T.fn k=some (.code F)
theorem T_3:tf 3 F3:=rfl
theorem T_4:tf 4 F4:=rfl
theorem xlO:tf 10 F10:=rfl
theorem xlN:tf 11 F11:=rfl
theorem xlM:tf 12 F12:=rfl
theorem xlL:tf 13 F13:=rfl
theorem xlK:tf 14 F14:=rfl
theorem xlJ:tf 15 F15:=rfl
theorem xiC:tf 16 F16:=rfl
theorem xlI:tf 17 F17:=rfl
theorem xlH:tf 18 F18:=rfl
theorem xlG:tf 19 F19:=rfl
theorem xiB:tf 20 F20:=rfl
theorem xlF:tf 21 F21:=rfl
theorem xlE:tf 22 F22:=rfl
theorem xlD:tf 23 F23:=rfl
theorem xlC:tf 28 F28:=rfl
theorem xlB:tf 29 F29:=rfl
theorem xlA:tf 31 F31:=rfl
theorem xlz:tf 33 F33:=rfl
theorem xly:tf 34 F34:=rfl
theorem xlx:tf 35 F35:=rfl
theorem xlw:tf 37 F37:=rfl
theorem xlv:tf 38 F38:=rfl
theorem xlu:tf 40 F40:=rfl
theorem Yn:tf 41 F41:=rfl
theorem xlt:tf 42 F42:=rfl
theorem xls:tf 43 F43:=rfl
theorem xlr:tf 44 F44:=rfl
theorem xlq:tf 45 F45:=rfl
theorem xlp:tf 46 F46:=rfl
theorem xlo:tf 47 F47:=rfl
theorem xln:tf 48 F48:=rfl
theorem xlm:tf 49 F49:=rfl
theorem xll:tf 50 F50:=rfl
theorem xlk:tf 51 F51:=rfl
theorem xlj:tf 52 F52:=rfl
theorem xli:tf 53 F53:=rfl
theorem xlh:tf 54 F54:=rfl
theorem xlg:tf 55 F55:=rfl
theorem xlf:tf 56 F56:=rfl
theorem xle:tf 57 F57:=rfl
theorem xld:tf 58 F58:=rfl
theorem xlc:tf 59 F59:=rfl
theorem xlb:tf 65 F65:=rfl
theorem xla:tf 66 F66:=rfl
theorem xk9:tf 70 F70:=rfl
theorem xk8:tf 71 F71:=rfl
theorem xiA:tf 72 F72:=rfl
theorem xk7:tf 73 F73:=rfl
theorem xk6:tf 75 F75:=rfl
theorem xk5:tf 76 F76:=rfl
theorem xk4:tf 77 F77:=rfl
theorem xk3:tf 78 F78:=rfl
theorem xk2:tf 79 F79:=rfl
theorem xk1:tf 80 F80:=rfl
theorem xk0:tf 81 F81:=rfl
theorem xkZ:tf 82 F82:=rfl
theorem xkY:tf 85 F85:=rfl
theorem xkX:tf 86 F86:=rfl
theorem xkW:tf 87 F87:=rfl
theorem xkV:tf 88 F88:=rfl
theorem xiz:tf 89 F89:=rfl
theorem xiy:tf 90 F90:=rfl
theorem xkU:tf 91 F91:=rfl
theorem xix:tf 92 F92:=rfl
theorem Ym:tf 93 F93:=rfl
theorem xkT:tf 94 F94:=rfl
theorem xkS:tf 95 F95:=rfl
theorem xkR:tf 98 F98:=rfl
theorem xgH:tf 100 ZB:=rfl
theorem xgG:tf 101 ZA:=rfl
theorem xgF:tf 102 Zz:=rfl
theorem Ei:tf 103 Zy:=rfl
theorem xgE:tf 104 Zx:=rfl
theorem xgD:tf 105 Zw:=rfl
theorem xgC:tf 106 Zv:=rfl
theorem xgA:tf 108 Zu:=rfl
theorem xgz:tf 109 Zt:=rfl
theorem xgy:tf 110 Zs:=rfl
theorem xgx:tf 111 Zr:=rfl
theorem xgw:tf 112 Zq:=rfl
theorem xgv:tf 115 Zp:=rfl
theorem xgu:tf 116 Zo:=rfl
theorem xgt:tf 117 Zn:=rfl
theorem xgs:tf 118 Zm:=rfl
theorem xgr:tf 119 Zl:=rfl
theorem Ys:tf 120 Zk:=rfl
theorem Yr:tf 121 Zj:=rfl
theorem xgq:tf 122 Zi:=rfl
theorem xgp:tf 123 Zh:=rfl
theorem xgo:tf 124 Zg:=rfl
theorem xgn:tf 127 Zf:=rfl
theorem xgm:tf 128 Ze:=rfl
theorem xgl:tf 129 Zd:=rfl
theorem xgj:tf 131 Zc:=rfl
theorem xgi:tf 132 Zb:=rfl
theorem xgh:tf 133 Za:=rfl
theorem xgg:tf 134 Y9:=rfl
theorem Yq:tf 135 Y8:=rfl
theorem xgf:tf 136 Y7:=rfl
theorem xgd:tf 139 Y6:=rfl
theorem xgc:tf 141 Y5:=rfl
theorem xga:tf 144 Y4:=rfl
theorem xf9:tf 145 Y3:=rfl
theorem xf8:tf 146 Y2:=rfl
theorem xf7:tf 147 Y1:=rfl
theorem xf6:tf 153 Y0:=rfl
theorem xf5:tf 154 YZ:=rfl
theorem xf4:tf 156 YY:=rfl
theorem xf3:tf 157 YX:=rfl
theorem Yp:tf 158 YW:=rfl
theorem Yo:tf 167 YV:=rfl
theorem xf2:tf 170 YU:=rfl
theorem xf1:tf 171 YT:=rfl
theorem xf0:tf 172 YS:=rfl
theorem xu:tf 173 YR:=rfl
theorem xfZ:tf 189 YQ:=rfl
theorem xfY:tf 190 YP:=rfl
theorem xgk:T.fn 130=some (.prim Pr.p130):=rfl
theorem xgB:T.fn 107=some (.prim Pr.p107):=rfl
theorem xgb:T.fn 142=some (.prim Pr.p142):=rfl
theorem xge:T.fn 138=some (.prim Pr.p138):=rfl
theorem qS:T.sg 130= {}:=rfl
theorem xgY:T.sg 107= {}:=rfl
theorem xgO:T.sg 142= {}:=rfl
theorem up:T.sg 138= {}:=rfl
theorem S_3:T.sg 3= {}:=rfl
theorem S_4:T.sg 4= {}:=rfl
theorem jz:T.sg 10= {}:=rfl
theorem jy:T.sg 11= {}:=rfl
theorem jx:T.sg 12= {}:=rfl
theorem fD:T.sg 13= {}:=rfl
theorem jp:T.sg 14= {}:=rfl
theorem jU:T.sg 15= {}:=rfl
theorem Yv:T.sg 16= {}:=rfl
theorem xiS:T.sg 17= {}:=rfl
theorem xiR:T.sg 18= {}:=rfl
theorem Yu:T.sg 19= {}:=rfl
theorem xdc:T.sg 20= {}:=rfl
theorem xiQ:T.sg 21= {}:=rfl
theorem xl4:T.sg 22= {}:=rfl
theorem xiP:T.sg 23= {}:=rfl
theorem xl3:T.sg 28= {}:=rfl
theorem xiO:T.sg 29= {}:=rfl
theorem xl2:T.sg 31= {}:=rfl
theorem EB:T.sg 33= {}:=rfl
theorem xl1:T.sg 34= {}:=rfl
theorem xl0:T.sg 35= {}:=rfl
theorem xlZ:T.sg 37= {}:=rfl
theorem CD:T.sg 38= {}:=rfl
theorem xlY:T.sg 40= {}:=rfl
theorem xlX:T.sg 41= {}:=rfl
theorem nt:T.sg 42= {}:=rfl
theorem RZ:T.sg 43= {}:=rfl
theorem tH:T.sg 44= {}:=rfl
theorem kA:T.sg 45= {}:=rfl
theorem NS:T.sg 46= {}:=rfl
theorem xdb:T.sg 47= {}:=rfl
theorem qF:T.sg 48= {}:=rfl
theorem tG:T.sg 49= {}:=rfl
theorem xda:T.sg 50= {}:=rfl
theorem xy:T.sg 51= {}:=rfl
theorem EA:T.sg 52= {}:=rfl
theorem Ez:T.sg 53= {}:=rfl
theorem Yt:T.sg 54= {}:=rfl
theorem xc9:T.sg 55= {}:=rfl
theorem RY:T.sg 56= {}:=rfl
theorem Ey:T.sg 57= {}:=rfl
theorem xlW:T.sg 58= {}:=rfl
theorem xlV:T.sg 59= {}:=rfl
theorem Ew:T.sg 65= {}:=rfl
theorem xlU:T.sg 66= {}:=rfl
theorem xiN:T.sg 70= {}:=rfl
theorem jw:T.sg 71= {}:=rfl
theorem xiM:T.sg 72= {}:=rfl
theorem xiL:T.sg 73= {}:=rfl
theorem xlT:T.sg 75= {}:=rfl
theorem xiK:T.sg 76= {}:=rfl
theorem vN:T.sg 77= {}:=rfl
theorem xlS:T.sg 78= {}:=rfl
theorem xc8:T.sg 79= {}:=rfl
theorem xiJ:T.sg 80= {}:=rfl
theorem xiI:T.sg 81= {}:=rfl
theorem xlR:T.sg 82= {}:=rfl
theorem xiH:T.sg 85= {}:=rfl
theorem xlQ:T.sg 86= {}:=rfl
theorem xc7:T.sg 87= {}:=rfl
theorem xc6:T.sg 88= {}:=rfl
theorem vM:T.sg 89= {}:=rfl
theorem xx:T.sg 90= {}:=rfl
theorem xiG:T.sg 91= {}:=rfl
theorem xiF:T.sg 92=⟨[],[0]⟩:=rfl
theorem xiE:T.sg 93=⟨[],[0]⟩:=rfl
theorem RX:T.sg 94= {}:=rfl
theorem CC:T.sg 95= {}:=rfl
theorem xiD:T.sg 98= {}:=rfl
theorem OX:T.sg 100= {}:=rfl
theorem xg2:T.sg 101= {}:=rfl
theorem pr:T.sg 102= {}:=rfl
theorem YL:T.sg 103= {}:=rfl
theorem xg1:T.sg 104= {}:=rfl
theorem xg0:T.sg 105= {}:=rfl
theorem xgZ:T.sg 106= {}:=rfl
theorem xgX:T.sg 108= {}:=rfl
theorem xC:T.sg 109= {}:=rfl
theorem pq:T.sg 110= {}:=rfl
theorem YK:T.sg 111= {}:=rfl
theorem xgW:T.sg 112= {}:=rfl
theorem xgV:T.sg 115= {}:=rfl
theorem YJ:T.sg 116= {}:=rfl
theorem YI:T.sg 117= {}:=rfl
theorem YH:T.sg 118= {}:=rfl
theorem YG:T.sg 119= {}:=rfl
theorem xgU:T.sg 120= {}:=rfl
theorem xgT:T.sg 121= {}:=rfl
theorem Ej:T.sg 122= {}:=rfl
theorem YF:T.sg 123= {}:=rfl
theorem xgS:T.sg 124= {}:=rfl
theorem xgR:T.sg 127= {}:=rfl
theorem YE:T.sg 128= {}:=rfl
theorem YD:T.sg 129= {}:=rfl
theorem YC:T.sg 131= {}:=rfl
theorem xgQ:T.sg 132= {}:=rfl
theorem YB:T.sg 133= {}:=rfl
theorem xgP:T.sg 134= {}:=rfl
theorem YA:T.sg 135=⟨[],[0]⟩:=rfl
theorem Yz:T.sg 136= {}:=rfl
theorem OW:T.sg 139= {}:=rfl
theorem OV:T.sg 141= {}:=rfl
theorem xgN:T.sg 144= {}:=rfl
theorem xgM:T.sg 145= {}:=rfl
theorem xgL:T.sg 146= {}:=rfl
theorem xgK:T.sg 147= {}:=rfl
theorem Yy:T.sg 153= {}:=rfl
theorem xgJ:T.sg 154= {}:=rfl
theorem Yx:T.sg 156= {}:=rfl
theorem qR:T.sg 157= {}:=rfl
theorem Yw:T.sg 158=⟨[],[0]⟩:=rfl
theorem jO:T.sg 167= {}:=rfl
theorem xB:T.sg 170= {}:=rfl
theorem xgI:T.sg 171= {}:=rfl
theorem xA:T.sg 172= {}:=rfl
theorem xz:T.sg 173=⟨[],[0]⟩:=rfl
theorem kV:T.sg 189= {}:=rfl
theorem kU:T.sg 190= {}:=rfl
theorem xa0(c:CSt):run T tY c=run T zw c:=rfl
theorem xaZ(c:CSt):run T tX c=run T zu c:=rfl
theorem xaT(c:CSt):run T lT c=run T zm c:=rfl
theorem xaS(c:CSt):run T tW c=run T zl c:=rfl
theorem xaP(c:CSt):run T lS c=run T zi c:=rfl
theorem xaO(c:CSt):run T tV c=run T zh c:=rfl
theorem xaL(c:CSt):run T ql c=run T ze c:=rfl
theorem xaK(c:CSt):run T qk c=run T zd c:=rfl
theorem xaJ(c:CSt):run T x9 c=run T zb c:=rfl
theorem xaI(c:CSt):run T x8 c=run T za c:=rfl
theorem xdU(c:CSt):run T D0 c=run T OT c:=rfl
theorem xaH(c:CSt):run T tT c=run T y9 c:=rfl
theorem xdT(c:CSt):run T Ov c=run T OS c:=rfl
theorem xaG(c:CSt):run T qf c=run T y8 c:=rfl
theorem xaF(c:CSt):run T qe c=run T y7 c:=rfl
theorem xaE(c:CSt):run T x7 c=run T yZ c:=rfl
theorem xaD(c:CSt):run T x6 c=run T yY c:=rfl
theorem xaC(c:CSt):run T qd c=run T yX c:=rfl
theorem xdS(c:CSt):run T Om c=run T OR c:=rfl
theorem xaB(c:CSt):run T x5 c=run T yW c:=rfl
theorem xaA(c:CSt):run T lQ c=run T yV c:=rfl
theorem xaz(c:CSt):run T x0 c=run T yU c:=rfl
theorem xay(c:CSt):run T xZ c=run T yT c:=rfl
theorem xdR(c:CSt):run T Ok c=run T OQ c:=rfl
theorem xdQ(c:CSt):run T Oj c=run T OP c:=rfl
theorem xdP(c:CSt):run T Oh c=run T OO c:=rfl
theorem xax(c:CSt):run T xY c=run T yS c:=rfl
theorem xdO(c:CSt):run T Of c=run T ON c:=rfl
theorem xaw(c:CSt):run T xX c=run T yR c:=rfl
theorem xav(c:CSt):run T xW c=run T yQ c:=rfl
theorem xau(c:CSt):run T xU c=run T yP c:=rfl
theorem xat(c:CSt):run T xT c=run T yO c:=rfl
theorem xdN(c:CSt):run T TQ c=run T OM c:=rfl
theorem xas(c:CSt):run T xS c=run T yN c:=rfl
theorem xar(c:CSt):run T tQ c=run T yM c:=rfl
theorem xdM(c:CSt):run T N7 c=run T OL c:=rfl
theorem xaq(c:CSt):run T xR c=run T yL c:=rfl
theorem xap(c:CSt):run T xQ c=run T yK c:=rfl
theorem xdL(c:CSt):run T N5 c=run T OK c:=rfl
theorem xao(c:CSt):run T xP c=run T yJ c:=rfl
theorem xdK(c:CSt):run T N1 c=run T OJ c:=rfl
theorem xdJ(c:CSt):run T NZ c=run T OI c:=rfl
theorem xan(c:CSt):run T xO c=run T yI c:=rfl
theorem xam(c:CSt):run T xN c=run T yH c:=rfl
theorem xal(c:CSt):run T tP c=run T yG c:=rfl
theorem xdI(c:CSt):run T DX c=run T OH c:=rfl
theorem xa6(c:CSt):run T Ni c=run T zD c:=rfl
theorem xa5(c:CSt):run T MY c=run T zC c:=rfl
theorem xa4(c:CSt):run T yw c=run T zB c:=rfl
theorem xa3(c:CSt):run T Mx c=run T zA c:=rfl
theorem xa2(c:CSt):run T yu c=run T zy c:=rfl
theorem P5(c:CSt):run T sH c=run T tB c:=rfl
theorem xa1(c:CSt):run T yo c=run T zx c:=rfl
theorem xaY(c:CSt):run T yl c=run T zt c:=rfl
theorem xaX(c:CSt):run T yj c=run T zr c:=rfl
theorem P4(c:CSt):run T sG c=run T tz c:=rfl
theorem xaW(c:CSt):run T yi c=run T zq c:=rfl
theorem P3(c:CSt):run T fJ c=run T tx c:=rfl
theorem xaV(c:CSt):run T yh c=run T zp c:=rfl
theorem P2(c:CSt):run T sF c=run T tw c:=rfl
theorem P1(c:CSt):run T sE c=run T tv c:=rfl
theorem P0(c:CSt):run T sD c=run T tu c:=rfl
theorem PZ(c:CSt):run T AX c=run T tq c:=rfl
theorem xaU(c:CSt):run T yg c=run T zo c:=rfl
theorem PY(c:CSt):run T sC c=run T tp c:=rfl
theorem PX(c:CSt):run T fI c=run T tn c:=rfl
theorem PW(c:CSt):run T sB c=run T tj c:=rfl
theorem xaR(c:CSt):run T ye c=run T zk c:=rfl
theorem xaQ(c:CSt):run T yc c=run T zj c:=rfl
theorem PV(c:CSt):run T oF c=run T th c:=rfl
theorem xaN(c:CSt):run T yb c=run T zg c:=rfl
theorem xaM(c:CSt):run T ya c=run T zf c:=rfl
theorem PU(c:CSt):run T Al c=run T tg c:=rfl
theorem xjm:bX prog 3 F3:=Fk func3
theorem xjl:bX prog 4 F4:=Fk func4
theorem xe4:bX prog 10 F10:=Fk func10
theorem xe3:bX prog 11 F11:=Fk func11
theorem xe2:bX prog 12 F12:=Fk func12
theorem xe1:bX prog 13 F13:=Fk func13
theorem xe0:bX prog 14 F14:=Fk func14
theorem xeZ:bX prog 15 F15:=Fk func15
theorem xeY:bX prog 16 F16:=Fk func16
theorem xeX:bX prog 17 F17:=Fk func17
theorem xeW:bX prog 18 F18:=Fk func18
theorem xeV:bX prog 19 F19:=Fk func19
theorem xeU:bX prog 20 F20:=Fk func20
theorem xeT:bX prog 21 F21:=Fk func21
theorem xeS:bX prog 22 F22:=Fk func22
theorem xeR:bX prog 23 F23:=Fk func23
theorem xeQ:bX prog 28 F28:=Fk func28
theorem xeP:bX prog 29 F29:=Fk func29
theorem xeO:bX prog 31 F31:=Fk func31
theorem xeN:bX prog 33 F33:=Fk func33
theorem xeM:bX prog 34 F34:=Fk func34
theorem xeL:bX prog 35 F35:=Fk func35
theorem xeK:bX prog 37 F37:=Fk func37
theorem xeJ:bX prog 38 F38:=Fk func38
theorem xeI:bX prog 40 F40:=Fk func40
theorem xeH:bX prog 41 F41:=Fk func41
theorem xeG:bX prog 42 F42:=Fk func42
theorem xeF:bX prog 43 F43:=Fk func43
theorem xeE:bX prog 44 F44:=Fk func44
theorem xeD:bX prog 45 F45:=Fk func45
theorem xeC:bX prog 46 F46:=Fk func46
theorem xeB:bX prog 47 F47:=Fk func47
theorem xeA:bX prog 48 F48:=Fk func48
theorem xez:bX prog 49 F49:=Fk func49
theorem xey:bX prog 50 F50:=Fk func50
theorem xex:bX prog 51 F51:=Fk func51
theorem xew:bX prog 52 F52:=Fk func52
theorem xev:bX prog 53 F53:=Fk func53
theorem xeu:bX prog 54 F54:=Fk func54
theorem xet:bX prog 55 F55:=Fk func55
theorem xes:bX prog 56 F56:=Fk func56
theorem xer:bX prog 57 F57:=Fk func57
theorem xeq:bX prog 58 F58:=Fk func58
theorem xep:bX prog 59 F59:=Fk func59
theorem xeo:bX prog 65 F65:=Fk func65
theorem xen:bX prog 66 F66:=Fk func66
theorem xem:bX prog 70 F70:=Fk func70
theorem xel:bX prog 71 F71:=Fk func71
theorem xek:bX prog 72 F72:=Fk func72
theorem xej:bX prog 73 F73:=Fk func73
theorem xei:bX prog 75 F75:=Fk func75
theorem xeh:bX prog 76 F76:=Fk func76
theorem xeg:bX prog 77 F77:=Fk func77
theorem xef:bX prog 78 F78:=Fk func78
theorem xee:bX prog 79 F79:=Fk func79
theorem xed:bX prog 80 F80:=Fk func80
theorem xec:bX prog 81 F81:=Fk func81
theorem xeb:bX prog 82 F82:=Fk func82
theorem xea:bX prog 85 F85:=Fk func85
theorem xd9:bX prog 86 F86:=Fk func86
theorem xd8:bX prog 87 F87:=Fk func87
theorem xd7:bX prog 88 F88:=Fk func88
theorem xd6:bX prog 89 F89:=Fk func89
theorem xd5:bX prog 90 F90:=Fk func90
theorem xd4:bX prog 91 F91:=Fk func91
theorem xd3:bX prog 92 F92:=Fk func92
theorem xd2:bX prog 93 F93:=Fk func93
theorem xd1:bX prog 94 F94:=Fk func94
theorem xd0:bX prog 95 F95:=Fk func95
theorem xdZ:bX prog 98 F98:=Fk func98
theorem xbV:bX prog 100 ZB:=Fk func100
theorem xbU:bX prog 101 ZA:=Fk func101
theorem xbT:bX prog 102 Zz:=Fk func102
theorem xbS:bX prog 103 Zy:=Fk func103
theorem xbR:bX prog 104 Zx:=Fk func104
theorem xbQ:bX prog 105 Zw:=Fk func105
theorem xbP:bX prog 106 Zv:=Fk func106
theorem xbO:bX prog 108 Zu:=Fk func108
theorem xbN:bX prog 109 Zt:=Fk func109
theorem xbM:bX prog 110 Zs:=Fk func110
theorem xbL:bX prog 111 Zr:=Fk func111
theorem xbK:bX prog 112 Zq:=Fk func112
theorem xbJ:bX prog 115 Zp:=Fk func115
theorem xbI:bX prog 116 Zo:=Fk func116
theorem xbH:bX prog 117 Zn:=Fk func117
theorem xbG:bX prog 118 Zm:=Fk func118
theorem xbF:bX prog 119 Zl:=Fk func119
theorem xbE:bX prog 120 Zk:=Fk func120
theorem xbD:bX prog 121 Zj:=Fk func121
theorem xbC:bX prog 122 Zi:=Fk func122
theorem xbB:bX prog 123 Zh:=Fk func123
theorem xbA:bX prog 124 Zg:=Fk func124
theorem xbz:bX prog 127 Zf:=Fk func127
theorem xby:bX prog 128 Ze:=Fk func128
theorem xbx:bX prog 129 Zd:=Fk func129
theorem xbw:bX prog 131 Zc:=Fk func131
theorem xbv:bX prog 132 Zb:=Fk func132
theorem xbu:bX prog 133 Za:=Fk func133
theorem xbt:bX prog 134 Y9:=Fk func134
theorem xbs:bX prog 135 Y8:=Fk func135
theorem xbr:bX prog 136 Y7:=Fk func136
theorem xbq:bX prog 139 Y6:=Fk func139
theorem xbp:bX prog 141 Y5:=Fk func141
theorem xbo:bX prog 144 Y4:=Fk func144
theorem xbn:bX prog 145 Y3:=Fk func145
theorem xbm:bX prog 146 Y2:=Fk func146
theorem xbl:bX prog 147 Y1:=Fk func147
theorem xbk:bX prog 153 Y0:=Fk func153
theorem xbj:bX prog 154 YZ:=Fk func154
theorem xbi:bX prog 156 YY:=Fk func156
theorem xbh:bX prog 157 YX:=Fk func157
theorem xbg:bX prog 158 YW:=Fk func158
theorem xbf:bX prog 167 YV:=Fk func167
theorem xbe:bX prog 170 YU:=Fk func170
theorem xbd:bX prog 171 YT:=Fk func171
theorem xbc:bX prog 172 YS:=Fk func172
theorem xbb:bX prog 173 YR:=Fk func173
theorem xba:bX prog 189 YQ:=Fk func189
theorem xa9:bX prog 190 YP:=Fk func190
theorem Gx:xq prog T:=by
 intro g b h;simp only[T]at h;unfold xg6 at h;split at h
 ·cases h;exact xjm
 ·cases h;exact xjl
 ·cases h;exact xe4
 ·cases h;exact xe3
 ·cases h;exact xe2
 ·cases h;exact xe1
 ·cases h;exact xe0
 ·cases h;exact xeZ
 ·cases h;exact xeY
 ·cases h;exact xeX
 ·cases h;exact xeW
 ·cases h;exact xeV
 ·cases h;exact xeU
 ·cases h;exact xeT
 ·cases h;exact xeS
 ·cases h;exact xeR
 ·cases h;exact xeQ
 ·cases h;exact xeP
 ·cases h;exact xeO
 ·cases h;exact xeN
 ·cases h;exact xeM
 ·cases h;exact xeL
 ·cases h;exact xeK
 ·cases h;exact xeJ
 ·cases h;exact xeI
 ·cases h;exact xeH
 ·cases h;exact xeG
 ·cases h;exact xeF
 ·cases h;exact xeE
 ·cases h;exact xeD
 ·cases h;exact xeC
 ·cases h;exact xeB
 ·cases h;exact xeA
 ·cases h;exact xez
 ·cases h;exact xey
 ·cases h;exact xex
 ·cases h;exact xew
 ·cases h;exact xev
 ·cases h;exact xeu
 ·cases h;exact xet
 ·cases h;exact xes
 ·cases h;exact xer
 ·cases h;exact xeq
 ·cases h;exact xep
 ·cases h;exact xeo
 ·cases h;exact xen
 ·cases h;exact xem
 ·cases h;exact xel
 ·cases h;exact xek
 ·cases h;exact xej
 ·cases h;exact xei
 ·cases h;exact xeh
 ·cases h;exact xeg
 ·cases h;exact xef
 ·cases h;exact xee
 ·cases h;exact xed
 ·cases h;exact xec
 ·cases h;exact xeb
 ·cases h;exact xea
 ·cases h;exact xd9
 ·cases h;exact xd8
 ·cases h;exact xd7
 ·cases h;exact xd6
 ·cases h;exact xd5
 ·cases h;exact xd4
 ·cases h;exact xd3
 ·cases h;exact xd2
 ·cases h;exact xd1
 ·cases h;exact xd0
 ·cases h;exact xdZ
 ·cases h;exact xbV
 ·cases h;exact xbU
 ·cases h;exact xbT
 ·cases h;exact xbS
 ·cases h;exact xbR
 ·cases h;exact xbQ
 ·cases h;exact xbP
 ·cases h;exact xbO
 ·cases h;exact xbN
 ·cases h;exact xbM
 ·cases h;exact xbL
 ·cases h;exact xbK
 ·cases h;exact xbJ
 ·cases h;exact xbI
 ·cases h;exact xbH
 ·cases h;exact xbG
 ·cases h;exact xbF
 ·cases h;exact xbE
 ·cases h;exact xbD
 ·cases h;exact xbC
 ·cases h;exact xbB
 ·cases h;exact xbA
 ·cases h;exact xbz
 ·cases h;exact xby
 ·cases h;exact xbx
 ·cases h;exact xbw
 ·cases h;exact xbv
 ·cases h;exact xbu
 ·cases h;exact xbt
 ·cases h;exact xbs
 ·cases h;exact xbr
 ·cases h;exact xbq
 ·cases h;exact xbp
 ·cases h;exact xbo
 ·cases h;exact xbn
 ·cases h;exact xbm
 ·cases h;exact xbl
 ·cases h;exact xbk
 ·cases h;exact xbj
 ·cases h;exact xbi
 ·cases h;exact xbh
 ·cases h;exact xbg
 ·cases h;exact xbf
 ·cases h;exact xbe
 ·cases h;exact xbd
 ·cases h;exact xbc
 ·cases h;exact xbb
 ·cases h;exact xba
 ·cases h;exact xa9
 ·cases h;exact Pr.p130_ok
 ·cases h;exact Pr.p107_ok
 ·cases h;exact Pr.p142_ok
 ·cases h;exact Pr.p138_ok
 ·cases h
attribute [go_sem] SV.kclip Tok.kc PL xfX xfW xkQ iv tZ Ph D3 jo List.all_replicate Cc Cb Pk Z5 P8 Ql P9 Fw Qm Qp rh Qo Qn av.injEq xji xdD xfF xb1 xbW wK CT CU xb9 ZP Ec CW am cK bU ay RR RS xcZ Gg FG Dl CM CN Tok.ids lc au ac bY Int.natCast_nonneg Int.ofNat_lt Int.ofNat_le Int.ofNat_inj E6 PH Fb PJ PK xdh O3 xdi ZN ZM ZI xdo xdp xdm xiU OZ OY xdg xdq ZJ ZE ZF ZG O0 xdk ED EE ZR ZQ xdl xdj ZO xdn ZK ZL ZH xjh xjg xjj xaa xdE xct xjX xjY xjV xjW xjZ QR xcu QU PG Fc Da PI E8 xcs Dd De Fh Fj xcr QD xky xkA xkz pF Dm xe8 Qy xfa xb7 xb6 xb2 xfj xfk xfe xjn Qu Qt xe6 xfl xb3 xbX xbY xbZ Qx xfc FA FB xcb xca xfd xfb xb8 xfh xb4 xb5 xb0 Qw xe7 xfi xjo xe9 Qv xfm xff xcc RW DQ mkE xc3 stC EN apS apB apL RU cpC cp2 cpB cpL xab xa8 Cd NA Ce Cf lj lk Nw Ch Ci Z4 Pc xfG xce xcl xck QI FQ FP Dr QH Dt FR QJ Ds wS FC FD QA xi4 xi2 xi3 Pp Z6 xfR xfV xfU xfT Gp RM xjt xjr xjs QC xci Fq xdX xdV xdW Fp P6 Gc DK DL xfI xfH QV D6 Yi Ya tM R6 Yj Gz DU DV ug X2 oX pH mE Ef Ee X9 lenC Yf D7 D8 uj XW D9 D4 ud ey jd vE iy iF xc5 mq dm evL CSt.purge wT xH NW mB Es md kq nT eC fE psC Tok.readyC aG.wf SV.bare SV.bareL jP jQ ss jD dY cD dI gj gA fz dy oj ed qN qO ml qH jM iL EX CX PC ET EY EW CV wi PD EU PF EZ C6 wo C3 wm E0 CZ C4 C2 wj wk uz E1 C0 E3 C5 CY E2 C1 ES PE EV OF Gk RJ RK QX QZ Ra QY RQ EP Ps Pz Py Px Pw Pv Pu xcC xcv xcA xcB xcz xcy xcx xcw Qs Qr Qq QP QO QL QK QN QM RP xcY eI CSt.publish li lH nI SV.pub SV.pubL wD gcC qC Pi rf kY fL gP tks nK Em qP dz OE vP gY jK SV.num lP iA toB rows uh gD iu gr Tok.eat SV.one SV.data SV.isData SV.cells SV.isDef SV.purge SV.purgeL aG.purge bG cG Tok.purge SV.ren SV.renL aG.ren Tok.ren SV.ids SV.idsL SV.toks SV.toksL aG.ids aG.toks iE km inR oB eZ id_eq aC az aH aF bZ cM eE beq_self_eq_true cn cJ List.getD_nil List.take_succ_cons List.take_zero b9 bh List.drop_succ_cons List.drop_nil aI bi dk List.flatten_nil List.contains_nil List.contains_cons List.isEmpty_nil List.isEmpty_cons iD List.all_nil List.set_cons_zero List.set_cons_succ bz Option.getD_none bq Option.map_none Option.toList_some Option.toList_none da Option.isNone_none Option.isNone_some Option.isSome_none Option.isSome_some Bool.or_false Bool.true_or Bool.or_true Bool.false_or Bool.and_self Bool.and_true Bool.true_and Bool.and_false Bool.false_and Bool.not_true Bool.not_false aM Bool.true_eq_false Bool.not_eq_true Bool.not_eq_false decide_eq_true_eq decide_eq_false_iff_not and_true true_and and_self or_false false_or or_true true_or not_true_eq_false not_false_eq_true ne_eq Int.toNat_natCast true_implies false_implies implies_true decide_true decide_false Nat.lt_irrefl Nat.not_lt_zero aO bW eq_self and_false false_and Nz mvC xib XT xcd xfg clA cl2 clC
attribute [go_sem] Fm Fs Fz Fi Ld Fa Ln Ia Mv Bb Bc Ca Pf Pt So Kk Kc Fy Fr Sr Lt Mc Mb Bk Sq Zq0 Zq1 Zq2 xm xs xi ci om omk on oo xhm xhl xc2 xhk xhj xhi xhh xhg xhf VS VR VQ VP VO VN VM VL VK VJ VI VH VG VF VE VD VC VB VA Vz Vy Vx Vw Vv Vu Vt Vs Vr Vq Vp F3 r3 xhe xhd xhc xhb xha xg9 xg8 xg7 F4 r4 XQ XP XO XN XM XL F10 r10 XK XJ XI XH XG XF XE XD kK XC Mh Mg Mf Me Md lU Ma L9 L8 L7 L6 L5 zw zu F11 xa0 xaZ r11 Ow XB F12 r12 qM XA qL Xz gO Xy oG Xx Xw Xv KH KG KF yf KE KD KC KB KA Kz Ky Kx iU zm zl F13 xaT xaS r13 Xu Xt Xs wC Xr Xq J6 J5 J4 J3 lR J2 J1 J0 JZ JY zi zh F14 xaP xaO r14 oE Xp Xo Xn Xm Xl F15 r15 qK Xk qJ Xj Xi Xh Xg Xf Xe Xd Jw Jv Ju Jt Js Jr Jq Jp Jo Jn Jm Jl ze zd F16 xaL xaK r16 Xc Xb Xa W9 W8 W7 W6 W5 W4 W3 I5 I4 I3 I2 I1 I0 IZ IY IX qj IW IV IU IT IS IR IQ IP qh IN IM zb za F17 xaJ xaI r17 D1 W2 oD W1 W0 WZ WY tU IK IJ II tR OT y9 F18 xdU xaH r18 qI WX WW WV WU OS F19 xdT r19 WT WS WR WQ WP WO WN IH IG IF IE ID IC IB IA Iz Iy Ix Iw y8 y7 F20 xaG xaF r20 WM Ou WL F21 r21 WK WJ F22 r22 jH Ot WI WH F23 r23 WG WF WE Oq WD WC WB WA Wz Wy Iv Iu It Is Ir Iq Ip Io In Im yZ yY yX F28 xaE xaD xaC r28 Wx Ww Wv F29 r29 Oo Wu oC Wt Ws Wr Wq Wp Wo Il Ik F31 r31 kJ Wn wB Wm F33 r33 Wj F34 r34 Wi Wh Wg Wf We Wd Wc Wb Wa Ij Ii F35 r35 On V9 V8 V7 V6 V5 V4 V2 V1 Ih Ig OR F37 xdS r37 V0 VZ VY VX VW VV VU VT If Ie Ic Ib yW yV F38 xaB xaA r38 Vo Vn Vm Vl F40 r40 Vk Vj Vi Vh Vg Vf Ve Vd Vc H9 H8 H7 H6 H5 yU F41 xaz r41 wA Vb F42 r42 Va F43 r43 U9 U8 U7 U6 U5 U4 U3 H4 H3 H2 HZ yT F44 xay r44 U2 nH U1 U0 UZ Ol qc OQ F45 xdR r45 UY UX UW UV UU UT US F46 r46 UR UQ UP UO HY HX HW HV OP F47 xdQ r47 Oi UN UM UL UK UJ UI UH UG OO F48 xdP r48 UF UE F49 r49 UD UC F50 r50 Og UB UA Uz Uy Ux HU HT HS HR HQ HP HO HN HM HK yS F51 xax r51 kI Uw Uv Uu Ut Us Ur HJ HI HH HG HF HE F52 r52 Uq F53 r53 Up Uo Un Um Ul Uk HD HC F54 r54 Uj Ui Uh F55 r55 Ug Uf Ue F56 r56 Ud Uc Ub Ua T9 T8 T7 T6 ON F57 xdO r57 T5 F58 r58 T4 F59 r59 l7 T3 T2 T1 T0 TZ TY TX HB Hz Hy Hx Hw Hv Hu Ht Hs Hr Hq Hp Ho xV Hn Hm Hl Hk Hj yR yQ yP yO F65 xaw xav xau xat r65 TW TV TU TT TS TR TP OM F66 xdN r66 Oe Od TO TN TL TK wz TJ Hi Hh Hg Hf He yN F70 xas r70 TI TH TG F71 r71 TF TE TD TC TB TA Tz Ty Tx Hd Hc Hb yM F72 xar r72 Tw Tv F73 r73 Oc DZ Ob Oa N9 N8 OL F75 xdM r75 N6 Tu F76 r76 Tt F77 r77 DY Ts F78 r78 Tr Tq Tp To Tn Tm Tl Tk Ha G9 G8 G7 G6 G5 G4 G3 G2 G1 GZ GY GX yL yK F79 xaq xap r79 OK F80 xdL r80 Tj F81 r81 N4 Ti Th Tg Tf Te Td F82 r82 N3 Tc Tb F85 r85 Ta S9 S8 S7 S6 S5 S4 S3 GV yJ F86 xao r86 N2 S2 F87 r87 S1 S0 SZ SY SX SW GU GT OJ F88 xdK r88 SU SS SR SQ N0 F89 r89 SP SN SM SL SK SJ SH SG GS GR GQ GP GO GN GL OI yI F90 xdJ xan r90 SF SE SD SC SB F91 r91 SA Sz F92 r92 Sx Sw Sv Su Ss Sp Sn Sm Sl GK GJ GI GH GG xM GF yH yG F93 xam xal r93 Sk F94 r94 Sj Si Sh Sg Sf F95 r95 Se Sd Sc Sb Sa R9 GE OH F98 xdI r98 Nt Ns Nr Nq ZB xh9 Np No Nn yy Nm Nl Nk Nj Nh zD ZA xa6 xh8 Ng Nf Zz xh7 Nd Nc Nb Na M9 M8 M7 M6 M5 M4 BZ Zy xh6 M3 M2 M1 M0 MZ MX zC Zx xa5 xh5 MW MV MU MT MS yx MR BY Zw xh4 MQ Zv xh3 MP MO MN MM zB Zu xa4 xh2 ML Zt xh1 MK MJ MI MH Zs xh0 MG Zr xhZ MF ME MD MC MB MA Mz My BX zA Zq xa3 xhY Mw Mu Zp xhX Mt Ms Mr Mq Mp Mo Mn Mm BW zy tB Zo xa2 P5 xhW nR yq Zn xhV Ml Zm xhU yp Mk Mj Mi ym zx Zl xa1 xhT L4 Zk xhS L3 L2 L1 L0 LZ Zj xhR LY LX Zi xhQ LW LV LU LS LR zt Zh xaY xhP LQ Zg xhO qm LP LO LN LM LL LK LJ LI Zf xhN LH LG LF Ze xhM yk LD LC LA Lz Zd xhL Ly Lx Lw Lv Lu Ls Lr Lq zr tz Zc xaX P4 xhK Lp Lo Lm Ll Lk Lj Li Lh Lg BV BU BT BS BR BQ BP BO BN BM BL BK BJ BI BH BG BF BE BD zq tx Zb xaW P3 xhJ Lf Le Lc Lb La K9 K8 zp Za xaV xhI K7 K6 K5 K4 K3 K2 K1 K0 KZ BC BB BA Bz By Bx Bw Bv Bu Bt Bs Br Bq Bp Bo tw tv tu Y9 P2 P1 P0 xhH KY KX KW KV KU KT KS KR KQ KP Bn Bm Bl Bj Bi Bh Bg Bf Be Bd Ba A9 A8 A7 A6 A5 A4 A3 A1 AZ AY tq Y8 PZ xhG KO KN Y7 xhF KM KL KK KJ KI zo Y6 xaU xhE Kw Y5 xhD Kv Ku Kt Ks Kr Kq Kp AW AV AU AT AS AR AQ AP AO AN AM AL AK AJ AI AH AG AF tp tn tj Y4 PY PX PW xhC Ko Kn Km Kj Ki Kh Kg Kf Ke AE AD AC AB AA Az Y3 xhB Kd Kb Ka zk Y2 xaR xhA J9 J8 J7 zj Y1 xaQ xhz JX Y0 xhy JW JV JU JT JS JR JQ JP Ay Ax Aw Av Au At As Ar Aq Ap th YZ PV xhx YY xhw JO JN YX xhv JM JL JK JJ JI JH JG zg zf YW xaN xaM xhu JF JE JD JC JB JA Jz Jy Jx Ao YV xht Jk YU xhs Jj Ji YT xhr Jh Jg YS xhq Jf Je Jd Jc Jb Ja I9 I8 I7 I6 An Am Ak Aj Ai Ah Ag Af Ae Ad Ac Ab Aa z9 z8 z7 z6 tg YR PU xhp IL YQ xho YP xhn
end Go.Proofs.YtkcjdeofknkndaaGreatDoor