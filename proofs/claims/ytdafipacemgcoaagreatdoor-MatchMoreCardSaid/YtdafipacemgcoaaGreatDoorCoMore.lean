/- The resolved code of the functions of this seat, with directions, checked by the kernel. No condition. -/
import Derived.Test.YtdafipacemgcoaaGreatDoorProg
import Derived.Test.YtdafipacemgcoaaGreatDoorVbMore
import Derived.KernelRfl
open Bool renaming and_eq_true -> az, false_and -> Fl, false_eq_true -> aH, false_or -> dq, true_or -> fU
open Int renaming toNat_natCast -> eE
open List renaming all_cons -> lD, append_assoc -> aZ, append_nil -> bH, cons_append -> bK, drop_zero -> aR, getD_cons_succ -> bh, getD_cons_zero -> bc, length_append -> ah, length_cons -> av, length_map -> aX, length_nil -> aQ, length_replicate -> cQ, map_append -> bx, map_cons -> aP, map_nil -> df, mem_cons -> au, nil_append -> bw, not_mem_nil -> dX, replicate -> aq
open Nat renaming add_zero -> fz, le_refl -> aM, zero_add -> bB, zero_le -> bL
open Option renaming bind_some -> cU, getD_some -> bq, map_some -> bt, some -> ax
set_option maxRecDepth 100000
set_option linter.unusedVariables false
namespace Go.Proofs.YtdafipacemgcoaaGreatDoor
open Tryz
open Go.Sy
abbrev xm(d s:Nat):SI:=⟨some d,none,.mov (.t s)⟩
abbrev xs(d:Nat)(o:SOp):SI:=⟨some d,none,o⟩
abbrev xi(d g:Nat)(b:Bool)(o:SOp):SI:=⟨some d,some (g,b),o⟩
abbrev om(d s:Nat):RI:= .op (xm d s) []
abbrev omk(d s:Nat):RI:= .op (xm d s) [s]
abbrev on(d:Nat)(o:SOp):RI:= .op (xs d o) []
abbrev oo(d:Nat)(o:SOp)(k:List Nat):RI:= .op (xs d o) k
abbrev ci(n:Int):Arg:= .c (.int .i64 n)
abbrev Fm(n d s:Nat):FI:=⟨n,true,xm d s⟩
abbrev Fs(n d:Nat)(o:SOp):FI:=⟨n,true,xs d o⟩
abbrev Fz(n d:Nat)(o:SOp):FI:=⟨n,false,xs d o⟩
abbrev Fi(n d g:Nat)(b:Bool)(o:SOp):FI:=⟨n,true,xi d g b o⟩
abbrev Ld(s:Nat):SOp:= .load 1 false (.t s)
abbrev Fa(n s:Nat):SOp:= .faddr n (.t s)
abbrev Ln(s:Nat):SOp:= .len false (.t s)
abbrev Ia(n a b:Nat):SOp:= .iaddrL n (.t a) (.t b)
abbrev Mv(s:Nat):SOp:= .mov (.t s)
abbrev Bb(o:BinOp)(a b:Nat):SOp:= .bin o (.t a) (.t b)
abbrev Bc(o:BinOp)(a:Nat)(n:Int):SOp:= .bin o (.t a) (ci n)
abbrev Ca(f:Nat)(l:List Arg):SOp:= .call (.f f) l
abbrev Pf(a b:Nat):SOp:= .pick (.t a) (.t b) (.c (.bool false))
abbrev Pt(a b:Nat):SOp:= .pick (.t a) (.c (.bool true)) (.t b)
abbrev So(l:List RI)(x:RC):RC:= .seq (.ops l) x
abbrev Kk(l:List Nat)(x:RC):RC:= .pre [.kill l] x
abbrev Kc(n:Nat)(x y:RC):RC:= .cond (.t n) x y
abbrev Fy(n d g:Nat)(b:Bool)(o:SOp):FI:=⟨n,false,xi d g b o⟩
abbrev Fr(n k a x:Nat):FI:=⟨n,false,⟨none,none,.store k (.t a) (.t x)⟩⟩
abbrev Sr(n a x:Nat)(k:List Nat):RI:= .op ⟨none,none,.store n (.t a) (.t x)⟩ k
abbrev Lt(n s:Nat):SOp:= .load n true (.t s)
abbrev Mc(n:Int):SOp:= .mov (ci n)
abbrev Mb(b:Bool):SOp:= .mov (.c (.bool b))
abbrev Bk(n:Nat)(x:RC):RC:= .block n x
abbrev Sq(x y:RC):RC:= .seq x y
abbrev Zq0:List SV:=[.int .i64 0,.int .i64 0,.lst 1 [] .clip,.byt [] .clip]
abbrev Zq1:List SV:=[.int .i64 0,.str [],.int .i64 0,.byt [] .clip]
abbrev Zq2:List SV:=[.str [],.int .i64 0,.int .i64 0,.int .i64 0,.int .i64 0,.lst 4 [] .clip,.lst 4 [] .clip]
abbrev Zq3:List SV:=[.int .i64 0,.int .i64 0,.lst 4 [] .clip]
abbrev Zq4:List SV:=[.int .i64 0,.str [],.int .i64 0,.int .i64 0]
def cs0:List UInt8:=[0,1,2,2,3,3,3,3,4,4,4,4,4,4,4,4,5,5,5,5,5,5,5,5,5,5,5,5,5,5,5,5,6,6,6,6,6,6,6,6,6,6,6,6,6,6,6,6,6,6,6,6,6,6,6,6,6,6,6,6,6,6,6,6,7,7,7,7,7,7,7,7,7,7,7,7,7,7,7,7,7,7,7,7,7,7,7,7,7,7,7,7,7,7,7,7,7,7,7,7,7,7,7,7,7,7,7,7,7,7,7,7,7,7,7,7,7,7,7,7,7,7,7,7,7,7,7,7,8,8,8,8,8,8,8,8,8,8,8,8,8,8,8,8,8,8,8,8,8,8,8,8,8,8,8,8,8,8,8,8,8,8,8,8,8,8,8,8,8,8,8,8,8,8,8,8,8,8,8,8,8,8,8,8,8,8,8,8,8,8,8,8,8,8,8,8,8,8,8,8,8,8,8,8,8,8,8,8,8,8,8,8,8,8,8,8,8,8,8,8,8,8,8,8,8,8,8,8,8,8,8,8,8,8,8,8,8,8,8,8,8,8,8,8,8,8,8,8,8,8,8,8,8,8,8,8]
def cs1:List UInt8:=[48,49,50,51,52,53,54,55,56,57,97,98,99,100,101,102,103,104,105,106,107,108,109,110,111,112,113,114,115,116,117,118,119,120,121,122]
def cs2:List UInt8:=[48,48,48,49,48,50,48,51,48,52,48,53,48,54,48,55,48,56,48,57,49,48,49,49,49,50,49,51,49,52,49,53,49,54,49,55,49,56,49,57,50,48,50,49,50,50,50,51,50,52,50,53,50,54,50,55,50,56,50,57,51,48,51,49,51,50,51,51,51,52,51,53,51,54,51,55,51,56,51,57,52,48,52,49,52,50,52,51,52,52,52,53,52,54,52,55,52,56,52,57,53,48,53,49,53,50,53,51,53,52,53,53,53,54,53,55,53,56,53,57,54,48,54,49,54,50,54,51,54,52,54,53,54,54,54,55,54,56,54,57,55,48,55,49,55,50,55,51,55,52,55,53,55,54,55,55,55,56,55,57,56,48,56,49,56,50,56,51,56,52,56,53,56,54,56,55,56,56,56,57,57,48,57,49,57,50,57,51,57,52,57,53,57,54,57,55,57,56,57,57]
def pD:List SV:=[.int .i64 (-1),.int .i64 0,.int .i64 4,.int .i64 8,.int .i64 9]
def iX:List SV:=[.int .u32 1116352408,.int .u32 1899447441,.int .u32 3049323471,.int .u32 3921009573,.int .u32 961987163,.int .u32 1508970993,.int .u32 2453635748,.int .u32 2870763221,.int .u32 3624381080,.int .u32 310598401,.int .u32 607225278,.int .u32 1426881987,.int .u32 1925078388,.int .u32 2162078206,.int .u32 2614888103,.int .u32 3248222580,.int .u32 3835390401,.int .u32 4022224774,.int .u32 264347078,.int .u32 604807628,.int .u32 770255983,.int .u32 1249150122,.int .u32 1555081692,.int .u32 1996064986,.int .u32 2554220882,.int .u32 2821834349,.int .u32 2952996808,.int .u32 3210313671,.int .u32 3336571891,.int .u32 3584528711,.int .u32 113926993,.int .u32 338241895,.int .u32 666307205,.int .u32 773529912,.int .u32 1294757372,.int .u32 1396182291,.int .u32 1695183700,.int .u32 1986661051,.int .u32 2177026350,.int .u32 2456956037,.int .u32 2730485921,.int .u32 2820302411,.int .u32 3259730800,.int .u32 3345764771,.int .u32 3516065817,.int .u32 3600352804,.int .u32 4094571909,.int .u32 275423344,.int .u32 430227734,.int .u32 506948616,.int .u32 659060556,.int .u32 883997877,.int .u32 958139571,.int .u32 1322822218,.int .u32 1537002063,.int .u32 1747873779,.int .u32 1955562222,.int .u32 2024104815,.int .u32 2227730452,.int .u32 2361852424,.int .u32 2428436474,.int .u32 2756734187,.int .u32 3204031479,.int .u32 3329325298]
def iW:List SV:=[.int .u64 1,.int .u64 10,.int .u64 100,.int .u64 1000,.int .u64 10000,.int .u64 100000,.int .u64 1000000,.int .u64 10000000,.int .u64 100000000,.int .u64 1000000000,.int .u64 10000000000,.int .u64 100000000000,.int .u64 1000000000000,.int .u64 10000000000000,.int .u64 100000000000000,.int .u64 1000000000000000,.int .u64 10000000000000000,.int .u64 100000000000000000,.int .u64 1000000000000000000,.int .u64 10000000000000000000]
instance:bg:=⟨fun
 |0=>some pD
 |2=>some iX
 |3=>some iW
 |_=>none⟩
def xlg:List RI:=[oo 8 (Mb false) [8]]
def xlf:List RI:=[on 17 (Ca 10 []),oo 18 (.un .not (.t 17)) [17]]
def xgn:List RI:=[on 8 (Mb false)]
def xle:List RI:=[omk 20 0,omk 21 1,omk 22 2,omk 23 3,oo 24 (Ca 11 [.t 20,.t 21,.t 22,.t 23]) [20,21,22,23],omk 19 24,on 25 (.ext (.t 19) 0),oo 26 (.ext (.t 19) 1) [19],on 9 (.new (.rc Zq3)),Sr 3 9 25 [25],omk 10 26]
def xld:List RI:=[on 28 (Lt 3 9),om 29 10,oo 30 (Ca 12 [.t 28,.t 29]) [28,29],omk 27 30,on 31 (.ext (.t 27) 0),on 32 (.ext (.t 27) 1),oo 33 (.ext (.t 27) 2) [27],omk 11 31,omk 12 32,omk 13 33]
def xlc:List RI:=[oo 35 (Lt 3 9) [9],omk 36 10,oo 37 (Ca 13 [.t 35,.t 36]) [35,36],omk 34 37,on 38 (.ext (.t 34) 0),on 39 (.ext (.t 34) 1),oo 40 (.ext (.t 34) 2) [34],omk 14 38,omk 15 39,omk 16 40]
def xlb:List RI:=[omk 41 11,omk 42 14,oo 43 (Ca 14 [.t 41,.t 42]) [41,42],omk 44 43,.grp 44 true [(xi 45 44 true (Mv 12)),(xi 46 44 true (Mv 15)),(xi 47 44 true (Bb .eql 45 46))] [12,15,45,46],oo 48 (Pf 44 47) [44,47],omk 49 48,.grp 49 true [(xi 50 49 true (Mv 13)),(xi 51 49 true (Mv 16)),(xi 52 49 true (Bb .eql 50 51))] [13,16,50,51],oo 53 (Pf 49 52) [49,52],omk 8 53]
def r3:RC:=(So xlg (Sq (So xlf (Kc 18 (Kk [0,1,2,3,18] (So xgn .ret)) (Kk [18] .skip))) (So xle (So xld (So xlc (So xlb .ret))))))
def F3:FnC:=⟨r3,54,[.tmp 8],[],[]⟩
def xla:List RI:=[oo 16 (Mb false) [16]]
def xk9:List RI:=[on 24 (Ca 10 []),oo 25 (.un .not (.t 24)) [24]]
def W2:List RI:=[on 16 (Mb false)]
def xk8:List RI:=[omk 27 0,omk 28 1,omk 29 2,omk 30 3,oo 31 (Ca 11 [.t 27,.t 28,.t 29,.t 30]) [27,28,29,30],omk 26 31,on 32 (.ext (.t 26) 0),oo 33 (.ext (.t 26) 1) [26],on 17 (.new (.rc Zq3)),Sr 3 17 32 [32],omk 18 33]
def xk7:List RI:=[on 35 (Lt 3 17),om 36 18,oo 37 (Ca 12 [.t 35,.t 36]) [35,36],omk 34 37,on 38 (.ext (.t 34) 0),on 39 (.ext (.t 34) 1),oo 40 (.ext (.t 34) 2) [34],omk 19 38,.op (xm 20 39) [20,39],omk 21 40]
def xk6:List RI:=[on 41 (Lt 3 17),om 42 18,om 43 19,oo 44 (Ca 16 [.t 41,.t 42,.t 43]) [41,42,43],omk 45 21,oo 46 (Bc .eql 45 0) [45],oo 47 (.beq true (.t 44) (.t 46)) [44,46]]
def xk5:List FI:=[Fm 0 48 4,Fs 1 49 (Ln 48),Fs 2 50 (Bc .lss 49 60),Fm 3 51 50,Fi 4 52 51 true (Lt 3 17),Fi 5 53 51 true (Mv 18),Fi 6 54 51 true (Mv 4),Fi 8 56 51 true (Lt 3 17),Fi 9 57 51 true (Mv 18),Fi 10 58 51 true (Mv 4),Fy 7 55 51 true (Ca 16 [.t 52,.t 53,.t 54]),Fy 11 59 51 true (Ca 17 [.t 56,.t 57,.t 58]),Fi 12 60 51 true (.beq true (.t 55) (.t 59)),Fs 13 61 (Pf 51 60)]
def xk4:List RI:=[on 62 (.lit 2 []),omk 63 19,.own (xs 64 (.app [.int .i64 0,.int .i64 0] 16 (.t 62) (.t 63))) [62,63],omk 22 64]
def Xc:List RI:=[om 65 22,oo 66 (Ln 65) [65],oo 67 (Bc .eql 66 0) [66]]
def Xb:List RI:=[on 16 (Mb true)]
def Xa:List RI:=[omk 68 5,om 69 22,oo 70 (Ln 69) [69],oo 71 (Ca 18 [.t 68,.t 70]) [68,70],omk 23 71]
def W9:List RI:=[omk 72 6,oo 73 (Ca 18 [.t 72,ci 4]) [72]]
def W8:List RI:=[on 82 (Bc .eql 73 0),omk 81 82]
def W7:List RI:=[om 83 22,om 84 23,omk 85 7,om 86 18,oo 87 (Ln 86) [86],oo 88 (Bc .add 87 2) [87],oo 89 (Ca 18 [.t 85,.t 88]) [85,88],oo 90 (Bc .sub 89 1) [89],oo 91 (Ia 2 83 84) [83,84],oo 92 (Fa 0 91) [91],Sr 1 92 90 [90,92]]
def W6:List RI:=[om 93 22,om 94 23,oo 95 (Ia 2 93 94) [93,94],oo 96 (Fa 0 95) [95],oo 97 (Ld 96) [96],oo 98 (Bc .geq 97 0) [97],omk 99 98,.grp 99 true [(xi 100 99 true (Mv 22)),(xi 101 99 true (Mv 23)),(xi 102 99 true (Ia 2 100 101)),(xi 103 99 true (Fa 0 102)),(xi 104 99 true (Ld 103)),(xi 105 99 true (Mv 18)),(xi 106 99 true (Ln 105)),(xi 107 99 true (Bb .lss 104 106))] [100,101,102,103,104,105,106],oo 108 (Pf 99 107) [99,107]]
def W5:List FI:=[Fm 0 109 22,Fm 1 110 23,Fm 2 111 18,Fm 3 112 22,Fm 4 113 23,Fs 5 114 (Ia 2 112 113),Fs 6 115 (Fa 0 114),Fs 7 116 (Ld 115),Fs 8 117 (Ia 7 111 116),Fs 9 118 (Lt 7 117),Fs 10 119 (Fa 2 17),Fs 11 120 (Ld 119),Fm 12 121 23,Fs 13 122 (Ia 4 120 121),Fs 14 123 (Lt 4 122),Fz 15 124 (Ca 19 [.t 118,.t 123]),Fs 16 125 (Ia 2 109 110),Fs 17 126 (Fa 1 125),Fr 18 1 126 124]
def W4:List RI:=[on 128 (Bc .eql 73 1),omk 127 128]
def W3:List RI:=[om 129 22,omk 130 23,omk 131 7,oo 132 (Ca 18 [.t 131,ci 9]) [131],oo 133 (Bc .sub 132 1) [132],oo 134 (Ia 2 129 130) [129,130],oo 135 (Fa 1 134) [134],Sr 1 135 133 [133,135]]
def W0:List RI:=[oo 137 (Bc .eql 73 2) [73],omk 136 137]
def WZ:List RI:=[omk 138 22,omk 139 23,oo 140 (.slcL 2 (.t 138) none (some (.t 139)) none) [138,139],omk 22 140]
def WY:List RI:=[om 74 22,omk 75 22,omk 76 23,oo 77 (Ia 2 75 76) [75,76],oo 78 (Lt 2 77) [77],oo 79 (.lit 2 [.t 78]) [78],.own (xs 80 (.app [.int .i64 0,.int .i64 0] 16 (.t 74) (.t 79))) [74,79],omk 22 80]
def WX:List FI:=[Fs 0 141 (Lt 3 17),Fm 1 142 18,Fm 2 143 22,Fs 4 145 (Lt 3 17),Fm 5 146 18,Fm 6 147 22,Fz 3 144 (Ca 16 [.t 141,.t 142,.t 143]),Fz 7 148 (Ca 17 [.t 145,.t 146,.t 147]),Fs 8 149 (.beq false (.t 144) (.t 148)),Fm 9 16 149]
def r5:RC:=(So xla (Sq (So xk9 (Kc 25 (Kk [0,1,2,3,4,5,6,7,25] (So W2 .ret)) (Kk [25] .skip))) (So xk8 (So xk7 (Sq (So xk6 (Kc 47 (Kk [4,5,6,7,17,18,19,47] (So W2 .ret)) (Kk [47] .skip))) (Sq (Sq (.flt [0,1,3,7,15,15,15,127,15,15,15,2047,4095,8191] [] xk5 [4,48,49,50,51,52,53,54,55,56,57,58,59,60]) (Kc 61 (Kk [5,6,7,17,18,19,61] (So W2 .ret)) (Kk [61] .skip))) (So xk4 (Sq (So Xc (Kc 67 (Kk [5,6,7,17,18,22,67] (So Xb .ret)) (Kk [67] .skip))) (So Xa (Sq (So W9 (Bk 0 (So W8 (Kc 81 (Kk [73,81] (So W7 (So W6 (Kc 108 (Kk [108] (.flt [0,0,0,0,0,24,56,120,252,508,0,1024,0,7168,15360,32764,65535,131071,262143] [] W5 [23,109,110,111,112,113,114,115,116,117,118,119,120,121,122,123,124,125,126])) (Kk [23,108] .skip))))) (Kk [81] (So W4 (Kc 127 (Kk [73,127] (.ops W3)) (Kk [7,127] (So W0 (Kc 136 (Kk [136] (.ops WZ)) (Kk [136] (.ops WY)))))))))))) (Sq (.flt [0,0,0,7,0,0,0,127,255,511] [] WX [17,18,22,141,142,143,144,145,146,147,148,149]) .ret)))))))))))
def F5:FnC:=⟨r5,150,[.tmp 16],[],[]⟩
def xk3:List RI:=[oo 10 (Mb false) [10]]
def xk2:List RI:=[on 16 (Ca 10 []),oo 17 (.un .not (.t 16)) [16]]
def xk1:List RI:=[on 10 (Mb false)]
def xk0:List RI:=[om 18 4,oo 19 (Ln 18) [18],oo 20 (Bc .gtr 19 60) [19]]
def xkZ:List RI:=[omk 21 4,oo 22 (.slcL 2 (.t 21) none (some (ci 60)) none) [21],omk 4 22]
def xkY:List RI:=[omk 24 0,omk 25 1,omk 26 2,omk 27 3,oo 28 (Ca 11 [.t 24,.t 25,.t 26,.t 27]) [24,25,26,27],omk 23 28,on 29 (.ext (.t 23) 0),oo 30 (.ext (.t 23) 1) [23],on 11 (.new (.rc Zq3)),Sr 3 11 29 [29],omk 12 30]
def xkX:List RI:=[oo 32 (Lt 3 11) [11],om 33 12,oo 34 (Ca 12 [.t 32,.t 33]) [32,33],omk 31 34,on 35 (.ext (.t 31) 0),on 36 (.ext (.t 31) 1),oo 37 (.ext (.t 31) 2) [31],omk 13 35,.op (xm 14 36) [14,36],.op (xm 15 37) [15,37]]
def xkW:List RI:=[om 38 12,om 39 13,oo 40 (Ca 21 [.t 38,.t 39]) [38,39],om 41 12,omk 42 13,oo 43 (Ca 22 [.t 41,.t 42]) [41,42],oo 44 (Ca 20 [.t 40,.t 43]) [40,43],omk 45 44,.grp 45 true [(xi 46 45 true (Mv 12)),(xi 47 45 true (Mv 4)),(xi 48 45 true (Ca 21 [.t 46,.t 47])),(xi 49 45 true (Mv 12)),(xi 50 45 true (Mv 4)),(xi 51 45 true (Ca 22 [.t 49,.t 50])),(xi 52 45 true (Ca 20 [.t 48,.t 51]))] [4,12,46,47,48,49,50,51],oo 53 (Pf 45 52) [45,52],omk 10 53]
def r6:RC:=(So xk3 (Sq (So xk2 (Kc 17 (Kk [0,1,2,3,4,17] (So xk1 .ret)) (Kk [17] .skip))) (Sq (So xk0 (Kc 20 (Kk [20] (.ops xkZ)) (Kk [20] .skip))) (So xkY (So xkX (So xkW .ret))))))
def F6:FnC:=⟨r6,54,[.tmp 10],[],[]⟩
def xkV:List RI:=[oo 12 (Mb false) [12]]
def xkU:List RI:=[on 30 (Ca 10 []),oo 31 (.un .not (.t 30)) [30]]
def xkT:List RI:=[on 12 (Mb false)]
def xkS:List RI:=[omk 33 0,om 34 1,omk 35 2,omk 36 4,oo 37 (Ca 11 [.t 33,.t 34,.t 35,.t 36]) [33,34,35,36],omk 32 37,on 38 (.ext (.t 32) 0),oo 39 (.ext (.t 32) 1) [32],on 13 (.new (.rc Zq3)),Sr 3 13 38 [38],omk 14 39]
def xkR:List RI:=[on 41 (Lt 3 13),om 42 14,oo 43 (Ca 12 [.t 41,.t 42]) [41,42],omk 40 43,on 44 (.ext (.t 40) 0),on 45 (.ext (.t 40) 1),oo 46 (.ext (.t 40) 2) [40],omk 15 44,.op (xm 16 45) [16,45],omk 17 46]
def xkQ:List RI:=[omk 47 3,omk 48 1,oo 49 (Ca 24 [.t 48]) [48],oo 50 (Ca 23 [.t 47,.t 49]) [47,49],omk 18 50]
def xkP:List RI:=[on 51 (.lit 7 []),om 52 14,oo 53 (.app Zq2 96 (.t 51) (.t 52)) [51,52],om 54 18,oo 55 (.app Zq2 96 (.t 53) (.t 54)) [53,54],omk 19 55]
def xkO:List RI:=[omk 56 5]
def xkN:List RI:=[on 57 (.lit 7 []),omk 58 18,oo 59 (.app Zq2 96 (.t 57) (.t 58)) [57,58],om 60 14,oo 61 (.app Zq2 96 (.t 59) (.t 60)) [59,60],omk 19 61]
def xkM:List RI:=[omk 62 17,oo 63 (Bc .neq 62 0) [62]]
def VA:List RI:=[on 12 (Mb true)]
def Vz:List RI:=[on 65 (Lt 3 13),omk 66 19,oo 67 (Ca 12 [.t 65,.t 66]) [65,66],omk 64 67,on 68 (.ext (.t 64) 0),on 69 (.ext (.t 64) 1),oo 70 (.ext (.t 64) 2) [64],.op (xm 20 68) [20,68],.op (xm 21 69) [21,69],omk 22 70]
def Vy:List RI:=[om 71 14,omk 72 15,oo 73 (Ca 21 [.t 71,.t 72]) [71,72],omk 23 73]
def Vx:List RI:=[on 24 (.mov (.c (.lst 7 [] .clip)))]
def Vw:List RI:=[on 25 (Mc 0)]
def Vv:List RI:=[om 74 25,om 75 14,oo 76 (Ln 75) [75],oo 77 (Bb .lss 74 76) [74,76]]
def Vu:List RI:=[on 26 (Mc 0)]
def Vt:List RI:=[om 80 26,om 81 23,oo 82 (Ln 81) [81],oo 83 (Bb .lss 80 82) [80,82]]
def Vs:List FI:=[Fm 0 86 23,Fm 1 87 26,Fs 2 88 (Ia 1 86 87),Fs 3 89 (Ld 88),Fm 4 90 14,Fm 5 91 25,Fs 6 92 (Ia 7 90 91),Fs 7 93 (Lt 7 92),Fz 8 94 (Ca 26 [.t 93]),Fz 9 95 (Ca 25 [.t 89,.t 94])]
def Vr:List RI:=[omk 96 24,om 97 14,om 98 25,oo 99 (Ia 7 97 98) [97,98],oo 100 (Lt 7 99) [99],oo 101 (.lit 7 [.t 100]) [100],oo 102 (.app Zq2 96 (.t 96) (.t 101)) [96,101],omk 24 102]
def Vq:List RI:=[omk 84 26,oo 85 (Bc .add 84 1) [84],omk 26 85]
def Qs:RC:=(.post (Sq (So Vt (Kc 83 (Kk [83] .skip) (Kk [26,83] (.exit 2)))) (Sq (Bk 3 (Sq (.flt [0,0,3,7,0,0,48,112,240,511] [] Vs [86,87,88,89,90,91,92,93,94]) (Kc 95 (Kk [26,95] (So Vr (.exit 2))) (Kk [95] .skip)))) (.ops Vq))) [.tok 24 124])
def EJ:RC:=Qs
def Vp:List RI:=[omk 78 25,oo 79 (Bc .add 78 1) [78],omk 25 79]
def Qr:RC:=(.post (Sq (So Vv (Kc 77 (Kk [77] .skip) (Kk [14,23,25,77] (.exit 0)))) (Sq (Bk 1 (So Vu (Bk 2 (.pre [.tok 24 124] (.loop EJ))))) (.ops Vp))) [.tok 24 124])
def PC:RC:=Qr
def Vo:List RI:=[oo 104 (Lt 3 13) [13],omk 105 24,oo 106 (Ca 12 [.t 104,.t 105]) [104,105],omk 103 106,on 107 (.ext (.t 103) 0),on 108 (.ext (.t 103) 1),oo 109 (.ext (.t 103) 2) [103],.op (xm 27 107) [27,107],.op (xm 28 108) [28,108],omk 29 109]
def Vn:List RI:=[omk 110 22,oo 111 (Bc .eql 110 0) [110],omk 112 111,.grp 112 true [(xi 113 112 true (Mv 29)),(xi 114 112 true (Bc .eql 113 0))] [29,113],oo 115 (Pf 112 114) [112,114],omk 12 115]
def r7:RC:=(So xkV (Sq (So xkU (Kc 31 (Kk [0,1,2,3,4,5,31] (So xkT .ret)) (Kk [31] .skip))) (So xkS (So xkR (So xkQ (So xkP (Sq (So xkO (Kc 56 (Kk [19,56] (.ops xkN)) (Kk [18,56] .skip))) (Sq (So xkM (Kc 63 (Kk [13,14,15,19,63] (So VA .ret)) (Kk [63] .skip))) (So Vz (So Vy (So Vx (Sq (So Vw (Bk 0 (.pre [.tok 24 124] (.loop PC)))) (So Vo (So Vn .ret))))))))))))))
def F7:FnC:=⟨r7,116,[.tmp 12],[],[]⟩
def xa4:List RI:=[oo 0 (Mb false) [0]]
def xa3:List RI:=[on 10 (.build Zq1 [(0,1,(ci 1)),(1,1,(.c (.str [102])))]),on 11 (.build Zq1 [(0,1,(ci 3)),(1,1,(.c (.str [107])))]),oo 12 (.lit 4 [.t 10,.t 11]) [10,11],omk 1 12]
def xa2:List RI:=[om 13 1,oo 14 (Ca 31 [.t 13,ci 2]) [13],oo 15 (.build Zq3 [(0,1,(ci 2)),(2,1,(.t 14))]) [14],on 2 (.new (.rc Zq3)),Sr 3 2 15 [15]]
def xa1:List RI:=[omk 16 1,oo 17 (Ca 34 [(.c (.str [118])),ci 1,.t 16]) [16],on 3 (.new (.rc Zq2)),Sr 7 3 17 [17]]
def xa0:List RI:=[on 19 (Lt 3 2),on 20 (Lt 7 3),oo 21 (.lit 7 [.t 20]) [20],oo 22 (Ca 12 [.t 19,.t 21]) [19,21],omk 18 22,on 23 (.ext (.t 18) 0),on 24 (.ext (.t 18) 1),oo 25 (.ext (.t 18) 2) [18],omk 4 23,omk 5 24,omk 6 25]
def xaZ:List RI:=[on 27 (Lt 3 2),oo 28 (Ca 12 [.t 27,(.c (.lst 7 [] .clip))]) [27],omk 26 28,on 29 (.ext (.t 26) 0),on 30 (.ext (.t 26) 1),oo 31 (.ext (.t 26) 2) [26],.op (xm 7 29) [7,29],omk 8 30,omk 9 31]
def xaY:List RI:=[omk 32 6,oo 33 (Bc .eql 32 0) [32],omk 34 33,.grp 34 true [(xi 35 34 true (Mv 5)),(xi 36 34 true (Bc .eql 35 10))] [5,35],oo 37 (Pf 34 36) [34,36],omk 38 37,.grp 38 true [(xi 39 38 true (Mv 4)),(xi 40 38 true (Ln 39)),(xi 41 38 true (Bc .eql 40 10))] [39,40],oo 42 (Pf 38 41) [38,41],omk 43 42,.grp 43 true [(xi 44 43 true (Mv 4)),(xi 45 43 true (.iaddrL 2 (.t 44) (ci 9))),(xi 46 43 true (Lt 2 45)),(xi 47 43 true (.build [.int .i64 0,.int .i64 0] [(0,1,(ci 0)),(1,1,(ci 1))])),(xi 48 43 true (.eqS false [1,1] (.t 46) (.t 47)))] [44,45,46,47],oo 49 (Pf 43 48) [43,48],omk 50 49,.grp 50 true [(xi 51 50 true (Mv 9)),(xi 52 50 true (Bc .eql 51 47))] [9,51],oo 53 (Pf 50 52) [50,52],omk 54 53,.grp 54 true [(xi 55 54 true (Mv 8)),(xi 56 54 true (Bc .eql 55 0))] [8,55],oo 57 (Pf 54 56) [54,56],omk 58 57,.grp 58 true [(xi 59 58 true (Lt 3 2)),(xi 60 58 true (Lt 7 3)),(xi 61 58 true (.lit 7 [.t 60])),(xi 62 58 true (Mv 4)),(xi 63 58 true (Ca 16 [.t 59,.t 61,.t 62]))] [2,59,60,61,62],oo 64 (Pf 58 63) [58,63],omk 65 64,.grp 65 true [(xi 66 65 true (Lt 7 3)),(xi 67 65 true (.lit 7 [.t 66])),(xi 68 65 true (Mv 4)),(xi 69 65 true (Ca 21 [.t 67,.t 68])),(xi 70 65 true (Ln 69)),(xi 71 65 true (Bc .eql 70 1))] [3,4,66,67,68,69,70],oo 72 (Pf 65 71) [65,71],omk 0 72]
def r10:RC:=(So xa4 (So xa3 (So xa2 (So xa1 (So xa0 (So xaZ (So xaY .ret)))))))
def F10:FnC:=⟨r10,73,[.tmp 0],[],[]⟩
def xaX:List RI:=[on 8 (.new (.rc Zq3)),oo 9 (.mov (.c (.lst 7 [] .clip))) [9]]
def xaW:List RI:=[omk 15 1,oo 16 (Ca 24 [.t 15]) [15],omk 10 16]
def xaV:List RI:=[om 17 0,oo 18 (Ca 35 [.t 17,ci 200]) [17],omk 11 18]
def xaU:List RI:=[omk 19 0,omk 20 3,oo 21 (Ca 29 [.t 20]) [20],oo 22 (Ca 36 [.t 19,.t 21,ci 0]) [19,21],on 12 (.new (.rc Zq3)),Sr 3 12 22 [22]]
def xaT:List RI:=[om 23 11,oo 24 (Ca 37 [.t 23,ci 2]) [23],oo 25 (Bc .eql 24 0) [24]]
def xaS:List FI:=[Fs 0 26 (Fa 0 12),Fs 1 27 (Ld 26),Fm 2 28 10,Fs 3 29 (Fa 0 12),Fs 4 30 (Ld 29),Fz 5 31 (Ca 31 [.t 28,.t 30]),Fs 6 32 (.build Zq3 [(0,1,(.t 27)),(2,1,(.t 31))]),Fr 7 3 12 32]
def xaR:List RI:=[om 33 11,oo 34 (Ca 37 [.t 33,ci 3]) [33],omk 13 34]
def xaQ:List RI:=[om 35 13,oo 36 (Bc .gtr 35 0) [35]]
def xaP:List RI:=[om 39 11,on 40 (Fa 2 12),oo 41 (Ld 40) [40],oo 42 (Ln 41) [41],oo 43 (Bc .add 42 1) [42],oo 44 (Ca 37 [.t 39,.t 43]) [39,43],omk 14 44]
def xaO:List FI:=[Fs 0 45 (.lit 4 []),Fs 1 46 (Fa 2 12),Fs 2 47 (Ld 46),Fm 3 48 14,Fs 4 49 (.slcL 4 (.t 47) none (some (.t 48)) none),Fm 6 51 11,Fs 7 52 (Fa 0 12),Fs 8 53 (Ld 52),Fs 12 57 (Fa 2 12),Fs 13 58 (Ld 57),Fm 14 59 14,Fs 15 60 (.slcL 4 (.t 58) (some (.t 59)) none none),Fz 5 50 (.app Zq0 64 (.t 45) (.t 49)),Fz 9 54 (Ca 38 [.t 51,.t 53]),Fs 10 55 (.lit 4 [.t 54]),Fz 11 56 (.app Zq0 64 (.t 50) (.t 55)),Fz 16 61 (.app Zq0 64 (.t 56) (.t 60)),Fs 17 62 (Fa 2 12),Fr 18 1 62 61]
def Ng:List RI:=[omk 37 13,oo 38 (Bc .sub 37 1) [37],omk 13 38]
def Al:RC:=(.post (Sq (So xaQ (Kc 36 (Kk [36] .skip) (Kk [11,13,36] (.exit 0)))) (Sq (Bk 1 (So xaP (.flt [0,0,2,0,14,31,0,0,128,511,1023,2047,0,4096,0,28672,65535,131071,262143] [150,156,161] xaO [14,45,46,47,48,49,50,51,52,53,54,55,56,57,58,59,60,61,62]))) (.ops Ng))) [.gc [150,156,161]])
def y6:RC:=Al
def Nf:List FI:=[Fs 0 63 (Lt 3 12),Fm 1 64 2,Fm 2 65 10,Fz 3 66 (Ca 23 [.t 64,.t 65]),Fr 4 3 8 63,Fm 5 9 66]
def r11:RC:=(So xaX (So xaW (So xaV (So xaU (Sq (So xaT (Kc 25 (Kk [25] (Sq (.flt [0,1,0,0,8,28,63,127] [] xaS [26,27,28,29,30,31,32]) (So xaR (Bk 0 (.loop y6))))) (Kk [11,25] .skip))) (Sq (.flt [0,0,0,6,15,31] [] Nf [2,10,12,63,64,65,66]) .ret))))))
def F11:FnC:=⟨r11,67,[.cell 8 3 true,.tmp 9],[],[]⟩
def xaN:List RI:=[oo 2 (.box (.t 0)) [0],on 4 (.mov (.c (.lst 2 [] .clip))),oo 5 (Mc 0) [5],oo 6 (Mc 0) [6]]
def xaM:List RI:=[on 7 (.new (.rc [.int .i64 0,.int .i64 0,.bool false,.bool false,.bool false,.bool false,.bool false,.bool false]))]
def xaL:List RI:=[on 12 (Fa 2 2),oo 13 (Ld 12) [12],on 14 (Ln 13),on 15 (Mc 0)]
def xaK:List RI:=[on 16 (Bb .lss 15 14)]
def xaJ:List RI:=[om 17 15,on 18 (Ia 4 13 15),oo 19 (Lt 4 18) [18],on 9 (.new (.rc Zq0)),omk 8 17,Sr 4 9 19 [19]]
def xaI:List RI:=[on 20 (Lt 4 9),oo 21 (Ca 39 [.t 7,.t 20]) [20],oo 22 (.un .not (.t 21)) [21]]
def xaH:List RI:=[omk 23 4,omk 24 8,omk 4 23,omk 5 24,on 6 (Mc 41)]
def xaG:List RI:=[oo 26 (Lt 4 9) [9],om 27 1,oo 28 (Ca 40 [.t 26,.t 27]) [26,27],omk 25 28,on 29 (.ext (.t 25) 0),oo 30 (.ext (.t 25) 1) [25],on 10 (.new (.rc [.int .i64 0,.int .i64 0])),Sr 2 10 29 [29],omk 11 30]
def xaF:List RI:=[omk 31 11,oo 32 (.un .not (.t 31)) [31]]
def xaE:List RI:=[omk 33 4,omk 34 8,omk 4 33,omk 5 34,on 6 (Mc 47)]
def MF:List RI:=[omk 35 4,oo 36 (Lt 2 10) [10],oo 37 (.lit 2 [.t 36]) [36],oo 38 (.app [.int .i64 0,.int .i64 0] 16 (.t 35) (.t 37)) [35,37],omk 4 38]
def ME:List RI:=[oo 39 (Bc .add 15 1) [15],omk 15 39]
def Ah:RC:=(.post (So xaK (Sq (Kc 16 (Kk [16] .skip) (Kk [1,13,14,15,16] (.exit 0))) (Sq (Bk 1 (So xaJ (Sq (So xaI (Kc 22 (Kk [1,2,7,9,13,14,15,22] (So xaH .ret)) (Kk [22] .skip))) (So xaG (Sq (So xaF (Kc 32 (Kk [1,2,7,10,13,14,15,32] (So xaE .ret)) (Kk [8,32] .skip))) (.ops MF)))))) (.ops ME)))) [.gc [109,110],.tok 4 104])
def uv:RC:=Ah
def MD:List RI:=[oo 40 (Fa 2 7) [7],oo 41 (.iaddrA 6 1 (.t 40) (ci 4)) [40],oo 42 (Ld 41) [41],oo 43 (.un .not (.t 42)) [42]]
def MC:List FI:=[Fm 0 44 4,Fs 1 45 (Fa 2 2),Fs 2 46 (Ld 45),Fs 3 47 (Ln 46),⟨4,false,(xm 4 44)⟩,Fm 5 5 47,Fs 6 6 (Mc 40)]
def MB:List FI:=[Fm 0 48 4,Fs 1 49 (Fa 2 2),Fs 2 50 (Ld 49),Fs 3 51 (Ln 50),⟨4,false,(xm 4 48)⟩,Fm 5 5 51,Fs 6 6 (Mc 0)]
def r12:RC:=(So xaN (So xaM (Sq (So xaL (Bk 0 (.pre [.tok 4 104] (.loop uv)))) (Sq (So MD (Kc 43 (Kk [43] (Sq (.flt [0,0,2,6,1,31,63] [] MC [2,44,45,46,47]) .ret)) (Kk [43] .skip))) (Sq (.flt [0,0,2,6,1,31,63] [] MB [2,48,49,50,51]) .ret)))))
def F12:FnC:=⟨r12,52,[.tmp 4,.tmp 5,.tmp 6],[],[]⟩
def xaD:List RI:=[oo 2 (.box (.t 0)) [0],oo 4 (.mov (.c (.lst 2 [] .clip))) [4],oo 5 (Mc 0) [5],oo 6 (Mc 0) [6]]
def xaC:List RI:=[on 16 (Lt 3 2),oo 17 (Ca 28 [.t 16]) [16],omk 15 17,on 18 (.ext (.t 15) 0),on 19 (.ext (.t 15) 1),oo 20 (.ext (.t 15) 2) [15],.op (xm 7 18) [7,18],omk 8 19,omk 9 20]
def xaB:List RI:=[on 10 (.mov (.c (.lst 2 [] .clip)))]
def xaA:List RI:=[on 11 (Mb false)]
def P6:List RI:=[on 12 (Mc 0)]
def xaz:List RI:=[om 21 12,on 22 (Fa 2 2),oo 23 (Ld 22) [22],oo 24 (Ln 23) [23],oo 25 (Bb .lss 21 24) [21,24]]
def xay:List RI:=[om 28 9,oo 29 (Bc .neq 28 0) [28],omk 30 29,.grp 30 true [(xi 31 30 true (Mv 12)),(xi 32 30 true (Mv 8)),(xi 33 30 true (Bb .eql 31 32))] [31,32],oo 34 (Pf 30 33) [30,33]]
def xax:List RI:=[omk 35 10,omk 36 12,omk 4 35,omk 5 36,on 6 (Mc 41)]
def xaw:List RI:=[on 38 (Fa 2 2),oo 39 (Ld 38) [38],om 40 12,oo 41 (Ia 4 39 40) [39,40],oo 42 (Lt 4 41) [41],om 43 1,oo 44 (Ca 41 [.t 42,.t 43]) [42,43],omk 37 44,on 45 (.ext (.t 37) 0),oo 46 (.ext (.t 37) 1) [37],on 13 (.new (.rc [.int .i64 0,.int .i64 0])),Sr 2 13 45 [45],omk 14 46]
def xav:List RI:=[omk 47 14,oo 48 (.un .not (.t 47)) [47]]
def LO:List RI:=[omk 49 10,omk 50 12,omk 4 49,omk 5 50,on 6 (Mc 47)]
def LN:List RI:=[omk 51 10,oo 52 (Lt 2 13) [13],oo 53 (.lit 2 [.t 52]) [52],oo 54 (.app [.int .i64 0,.int .i64 0] 16 (.t 51) (.t 53)) [51,53],omk 10 54]
def LM:List RI:=[omk 55 11,omk 56 55,.grp 56 false [(xi 57 56 false (Fa 2 2)),(xi 58 56 false (Ld 57)),(xi 59 56 false (Mv 12)),(xi 60 56 false (Ia 4 58 59)),(xi 61 56 false (Lt 4 60)),(xi 62 56 false (Ca 42 [.t 61])),(xi 63 56 false (Bc .eql 62 4))] [57,58,59,60,61,62],oo 64 (Pt 56 63) [56,63],omk 11 64]
def LK:List RI:=[omk 26 12,oo 27 (Bc .add 26 1) [26],omk 12 27]
def Ae:RC:=(.post (Sq (So xaz (Kc 25 (Kk [25] .skip) (Kk [1,2,8,9,12,25] (.exit 0)))) (Sq (Bk 1 (Sq (So xay (Kc 34 (Kk [1,2,8,9,11,34] (So xax .ret)) (Kk [34] .skip))) (So xaw (Sq (So xav (Kc 48 (Kk [1,2,8,9,11,13,48] (So LO .ret)) (Kk [48] .skip))) (So LN (.ops LM)))))) (.ops LK))) [.gc [113],.tok 10 110])
def oI:RC:=Ae
def LJ:List RI:=[omk 65 11,oo 66 (.un .not (.t 65)) [65]]
def LI:List RI:=[om 67 10,omk 68 10,oo 69 (Ln 68) [68],omk 4 67,omk 5 69,on 6 (Mc 40)]
def LH:List RI:=[om 70 10,omk 71 10,oo 72 (Ln 71) [71],omk 4 70,omk 5 72,on 6 (Mc 0)]
def r13:RC:=(So xaD (So xaC (So xaB (So xaA (Sq (So P6 (Bk 0 (.pre [.tok 10 110] (.loop oI)))) (Sq (So LJ (Kc 66 (Kk [66] (So LI .ret)) (Kk [66] .skip))) (So LH .ret)))))))
def F13:FnC:=⟨r13,73,[.tmp 4,.tmp 5,.tmp 6],[],[]⟩
def lJ:List RI:=[oo 4 (Mb false) [4]]
def xau:List RI:=[omk 5 0,omk 6 1,oo 7 (Ca 43 [.t 5,.t 6]) [5,6],omk 4 7]
def r14:RC:=(So lJ (So xau .ret))
def F14:FnC:=⟨r14,8,[.tmp 4],[],[]⟩
def EV:List RI:=[oo 2 (.box (.t 0)) [0],oo 3 (.box (.t 1)) [1],oo 4 (Mc 0) [4]]
def xat:List RI:=[on 6 (Lt 7 2),oo 7 (Ca 44 [.t 6]) [6],oo 8 (Bc .neq 7 0) [7]]
def mC:List RI:=[on 4 (Mc (-1))]
def xas:List RI:=[on 9 (Fa 1 3),oo 10 (Ld 9) [9]]
def xar:List RI:=[on 12 (Bc .eql 10 1),omk 11 12]
def xaq:List RI:=[oo 13 (Fa 5 2) [2],oo 14 (Ld 13) [13],oo 15 (.mkfn 46 [] [.t 3]) [3],oo 16 (Ca 45 [.t 14,.t 15]) [14,15],omk 4 16]
def xap:List RI:=[oo 18 (Bc .eql 10 3) [10],omk 17 18]
def xao:List FI:=[Fs 0 19 (Fa 0 3),Fs 1 20 (Ld 19),Fz 2 21 (Ca 47 [ci 4]),Fs 3 22 (Bb .neq 20 21),Fm 4 23 22,Fi 5 24 23 false (Lt 4 3),Fy 6 25 23 false (Ca 50 [.t 24]),Fi 7 26 23 false (.un .not (.t 25)),Fs 8 27 (Pt 23 26)]
def xan:List RI:=[on 28 (Fa 6 2),oo 29 (Ld 28) [28],oo 30 (.mkfn 52 [] [.t 3]) [3],oo 31 (Ca 51 [.t 29,.t 30]) [29,30],omk 5 31]
def K9:List RI:=[om 32 5,oo 33 (Bc .geq 32 0) [32]]
def K8:List RI:=[oo 34 (Fa 5 2) [2],oo 35 (Ld 34) [34],oo 36 (Ln 35) [35],omk 37 5,oo 38 (Bb .add 36 37) [36,37],omk 4 38]
def r15:RC:=(So EV (Sq (So xat (Kc 8 (Kk [2,3,8] (So mC .ret)) (Kk [8] .skip))) (Sq (So xas (Bk 0 (So xar (Kc 11 (Kk [10,11] (So xaq .ret)) (Kk [11] (So xap (Kc 17 (Kk [17] (Sq (Sq (.flt [0,1,0,7,15,31,63,127,255] [] xao [19,20,21,22,23,24,25,26]) (Kc 27 (Kk [2,3,27] (So mC .ret)) (Kk [27] .skip))) (So xan (So K9 (Kc 33 (Kk [33] (So K8 .ret)) (Kk [2,5,33] .skip)))))) (Kk [2,3,17] .skip)))))))) (So mC .ret))))
def F15:FnC:=⟨r15,39,[.tmp 4],[],[]⟩
def P5:List RI:=[oo 3 (.box (.t 0)) [0],oo 6 (Mb false) [6]]
def xam:List RI:=[on 14 (Lt 3 3),om 15 1,oo 16 (Ca 12 [.t 14,.t 15]) [14,15],omk 13 16,on 17 (.ext (.t 13) 0),on 18 (.ext (.t 13) 1),oo 19 (.ext (.t 13) 2) [13],.op (xm 7 17) [7,17],.op (xm 8 18) [8,18],omk 9 19]
def P4:List RI:=[omk 20 9,oo 21 (Bc .neq 20 0) [20],omk 22 21,.grp 22 false [(xi 23 22 false (Mv 2)),(xi 24 22 false (Ln 23)),(xi 25 22 false (Fa 2 3)),(xi 26 22 false (Ld 25)),(xi 27 22 false (Ln 26)),(xi 28 22 false (Bb .neq 24 27))] [23,24,25,26,27],oo 29 (Pt 22 28) [22,28]]
def ru:List RI:=[on 6 (Mb false)]
def xal:List RI:=[oo 30 (Fa 2 3) [3],oo 31 (Ld 30) [30],on 32 (Ln 31),on 33 (Mc 0)]
def xak:List RI:=[on 34 (Bb .lss 33 32)]
def xaj:List RI:=[om 35 33,on 36 (Ia 4 31 33),oo 37 (Lt 4 36) [36],on 11 (.new (.rc Zq0)),omk 10 35,Sr 4 11 37 [37]]
def xai:List RI:=[om 38 2,omk 39 10,oo 40 (Ia 2 38 39) [38,39],oo 41 (Lt 2 40) [40],on 12 (.new (.rc [.int .i64 0,.int .i64 0])),Sr 2 12 41 [41]]
def xah:List RI:=[on 42 (Fa 1 11),oo 43 (Ld 42) [42],oo 44 (Bc .eql 43 5) [43],omk 45 44,.grp 45 false [(xi 46 45 false (Fa 1 11)),(xi 47 45 false (Ld 46)),(xi 48 45 false (Bc .eql 47 2))] [46,47],oo 49 (Pt 45 48) [45,48]]
def xag:List RI:=[on 50 (Fa 0 12),oo 51 (Ld 50) [50],oo 52 (Bc .neq 51 (-1)) [51],omk 53 52,.grp 53 false [(xi 54 53 false (Fa 1 12)),(xi 55 53 false (Ld 54)),(xi 56 53 false (Bc .neq 55 (-1)))] [12,54,55],oo 57 (Pt 53 56) [53,56]]
def KU:List FI:=[Fs 0 58 (Fa 0 12),Fs 1 59 (Ld 58),Fs 2 60 (Bc .lss 59 0),Fm 3 61 60,Fi 4 62 61 false (Fa 0 12),Fi 5 63 61 false (Ld 62),Fi 6 64 61 false (Mv 1),Fi 7 65 61 false (Ln 64),Fi 8 66 61 false (Bb .geq 63 65),Fs 9 67 (Pt 61 66),Fm 10 68 67,Fi 11 69 68 false (Fa 1 12),Fi 12 70 68 false (Ld 69),Fi 13 71 68 false (Bc .lss 70 0),Fs 14 72 (Pt 68 71),Fm 15 73 72,Fi 16 74 73 false (Mv 1),Fi 17 75 73 false (Fa 0 12),Fi 18 76 73 false (Ld 75),Fi 19 77 73 false (Ia 7 74 76),Fi 20 78 73 false (Lt 7 77),Fi 21 79 73 false (Lt 4 11),Fi 23 81 73 false (Fa 1 12),Fi 24 82 73 false (Ld 81),Fy 22 80 73 false (Ca 15 [.t 78,.t 79]),Fi 25 83 73 false (Bb .neq 80 82),Fs 26 84 (Pt 73 83)]
def KT:List RI:=[oo 85 (Bc .add 33 1) [33],omk 33 85]
def Ab:RC:=(.post (So xak (Sq (Kc 34 (Kk [34] .skip) (Kk [1,2,31,32,33,34] (.exit 0))) (Sq (Bk 1 (So xaj (So xai (Sq (So xah (Kc 49 (Kk [11,49] (Sq (So xag (Kc 57 (Kk [1,2,31,32,33,57] (So ru .ret)) (Kk [57] .skip))) (.exit 1))) (Kk [49] .skip))) (Sq (.flt [0,1,3,7,15,31,15,79,255,511,1023,2047,4095,8191,16383,32767,65535,65535,196607,524287,1048575,65535,4194303,65535,8454143,33554431,67108863] [] KU [11,12,58,59,60,61,62,63,64,65,66,67,68,69,70,71,72,73,74,75,76,77,78,79,80,81,82,83]) (Kc 84 (Kk [1,2,31,32,33,84] (So ru .ret)) (Kk [84] .skip))))))) (.ops KT)))) [.gc [111,112]])
def mf:RC:=Ab
def yU:List RI:=[on 6 (Mb true)]
def r16:RC:=(So P5 (Sq (So xam (So P4 (Kc 29 (Kk [1,2,3,29] (So ru .ret)) (Kk [29] .skip)))) (Sq (So xal (Bk 0 (.loop mf))) (So yU .ret))))
def F16:FnC:=⟨r16,86,[.tmp 6],[],[]⟩
def xaf:List RI:=[on 14 (Lt 3 3),om 15 1,oo 16 (Ca 13 [.t 14,.t 15]) [14,15],omk 13 16,on 17 (.ext (.t 13) 0),on 18 (.ext (.t 13) 1),oo 19 (.ext (.t 13) 2) [13],.op (xm 7 17) [7,17],.op (xm 8 18) [8,18],omk 9 19]
def EU:List RI:=[on 10 (Mc 0)]
def xae:List RI:=[om 30 10,om 31 2,oo 32 (Ln 31) [31],oo 33 (Bb .lss 30 32) [30,32]]
def xad:List RI:=[om 36 2,om 37 10,oo 38 (Ia 2 36 37) [36,37],oo 39 (Lt 2 38) [38],on 11 (.new (.rc [.int .i64 0,.int .i64 0])),Sr 2 11 39 [39]]
def xac:List RI:=[on 40 (Fa 2 3),oo 41 (Ld 40) [40],om 42 10,oo 43 (Ia 4 41 42) [41,42],oo 44 (Fa 1 43) [43],oo 45 (Ld 44) [44],omk 12 45]
def xab:List RI:=[om 46 12,oo 47 (Bc .eql 46 5) [46],omk 48 47,.grp 48 false [(xi 49 48 false (Mv 12)),(xi 50 48 false (Bc .eql 49 2))] [12,49],oo 51 (Pt 48 50) [48,50]]
def xaa:List RI:=[on 52 (Fa 0 11),oo 53 (Ld 52) [52],oo 54 (Bc .neq 53 (-1)) [53],omk 55 54,.grp 55 false [(xi 56 55 false (Fa 1 11)),(xi 57 55 false (Ld 56)),(xi 58 55 false (Bc .neq 57 (-1)))] [11,56,57],oo 59 (Pt 55 58) [55,58]]
def KR:List FI:=[Fs 0 60 (Fa 0 11),Fs 1 61 (Ld 60),Fs 2 62 (Bc .lss 61 0),Fm 3 63 62,Fi 4 64 63 false (Fa 0 11),Fi 5 65 63 false (Ld 64),Fi 6 66 63 false (Mv 1),Fi 7 67 63 false (Ln 66),Fi 8 68 63 false (Bb .geq 65 67),Fs 9 69 (Pt 63 68),Fm 10 70 69,Fi 11 71 70 false (Fa 1 11),Fi 12 72 70 false (Ld 71),Fi 13 73 70 false (Bc .lss 72 0),Fs 14 74 (Pt 70 73),Fm 15 75 74,Fi 16 76 75 false (Mv 1),Fi 17 77 75 false (Fa 0 11),Fi 18 78 75 false (Ld 77),Fi 19 79 75 false (Ia 7 76 78),Fi 20 80 75 false (Lt 7 79),Fi 21 81 75 false (Fa 2 3),Fi 22 82 75 false (Ld 81),Fi 23 83 75 false (Mv 10),Fi 24 84 75 false (Ia 4 82 83),Fi 25 85 75 false (Lt 4 84),Fi 27 87 75 false (Fa 1 11),Fi 28 88 75 false (Ld 87),Fy 26 86 75 false (Ca 19 [.t 80,.t 85]),Fi 29 89 75 false (Bb .neq 86 88),Fs 30 90 (Pt 75 89)]
def KQ:List RI:=[omk 34 10,oo 35 (Bc .add 34 1) [34],omk 10 35]
def Aa:RC:=(.post (Sq (So xae (Kc 33 (Kk [33] .skip) (Kk [1,2,3,10,33] (.exit 0)))) (Sq (Bk 1 (So xad (Sq (So xac (So xab (Kc 51 (Kk [51] (Sq (So xaa (Kc 59 (Kk [1,2,3,10,59] (So ru .ret)) (Kk [59] .skip))) (.exit 1))) (Kk [51] .skip)))) (Sq (.flt [0,1,3,7,15,31,15,79,255,511,1023,2047,4095,8191,16383,32767,65535,65535,196607,524287,1048575,65535,2162687,65535,14745599,31522815,67108863,65535,134283263,536870911,1073741823] [] KR [11,60,61,62,63,64,65,66,67,68,69,70,71,72,73,74,75,76,77,78,79,80,81,82,83,84,85,86,87,88,89]) (Kc 90 (Kk [1,2,3,10,90] (So ru .ret)) (Kk [90] .skip)))))) (.ops KQ))) [.gc [111]])
def me:RC:=Aa
def r17:RC:=(So P5 (Sq (So xaf (So P4 (Kc 29 (Kk [1,2,3,29] (So ru .ret)) (Kk [29] .skip)))) (Sq (So EU (Bk 0 (.loop me))) (So yU .ret))))
def F17:FnC:=⟨r17,91,[.tmp 6],[],[]⟩
def rt:List RI:=[oo 4 (Mc 0) [4]]
def Z9:List RI:=[om 6 1,oo 7 (Bc .lss 6 1) [6]]
def rq:List RI:=[on 4 (Mc 0)]
def Z8:List RI:=[omk 8 0,om 9 1,oo 10 (Bb .rem 8 9) [8,9],omk 5 10]
def Z7:List RI:=[om 11 5,oo 12 (Bc .lss 11 0) [11]]
def Z6:List RI:=[omk 13 5,omk 14 1,oo 15 (Bb .add 13 14) [13,14],omk 5 15]
def Z5:List RI:=[omk 16 5,omk 4 16]
def r18:RC:=(So rt (Sq (So Z9 (Kc 7 (Kk [0,1,7] (So rq .ret)) (Kk [7] .skip))) (So Z8 (Sq (So Z7 (Kc 12 (Kk [12] (.ops Z6)) (Kk [1,12] .skip))) (So Z5 .ret)))))
def F18:FnC:=⟨r18,17,[.tmp 4],[],[]⟩
def Z4:List RI:=[on 8 (Lt 7 2),oo 9 (Ca 54 [.t 8]) [8],oo 10 (Bc .neq 9 0) [9],omk 11 10,.grp 11 false [(xi 12 11 false (Fa 2 3)),(xi 13 11 false (Ld 12)),(xi 14 11 false (Ln 13)),(xi 15 11 false (Bc .neq 14 2))] [12,13,14],oo 16 (Pt 11 15) [11,15]]
def Z3:List RI:=[on 17 (Fa 1 3),oo 18 (Ld 17) [17],oo 19 (Bc .eql 18 1) [18]]
def mz:List RI:=[on 5 (Mc 0)]
def Z2:List RI:=[om 20 5,on 21 (Fa 5 2),oo 22 (Ld 21) [21],oo 23 (Ln 22) [22],oo 24 (Bb .lss 20 23) [20,23]]
def Z1:List RI:=[on 27 (Fa 5 2),oo 28 (Ld 27) [27],om 29 5,oo 30 (Ia 4 28 29) [28,29],oo 31 (Lt 4 30) [30],on 6 (.new (.rc Zq1)),Sr 4 6 31 [31]]
def Z0:List FI:=[Fs 0 32 (Fa 0 6),Fs 1 33 (Ld 32),Fs 3 35 (Fa 0 3),Fs 4 36 (Ld 35),Fz 2 34 (Ca 55 [.t 33]),Fs 5 37 (Bb .eql 34 36),Fm 6 38 37,Fi 7 39 38 true (Fa 3 6),Fi 8 40 38 true (Ld 39),Fi 9 41 38 true (Fa 2 3),Fi 10 42 38 true (Ld 41),Fi 11 43 38 true (.iaddrL 1 (.t 42) (ci 1)),Fi 12 44 38 true (Ld 43),Fy 13 45 38 true (Ca 25 [.t 40,.t 44]),Fs 14 46 (Pf 38 45),Fm 15 47 46,Fi 16 48 47 true (Fa 3 3),Fi 17 49 47 true (Ld 48),Fi 18 50 47 true (Fa 1 6),Fi 19 51 47 true (Ld 50),Fi 20 52 47 true (Fa 2 6),Fi 21 53 47 true (Ld 52),Fy 22 54 47 true (Ca 56 [.t 51,.t 53]),Fy 23 55 47 true (Ca 25 [.t 49,.t 54]),Fs 24 56 (Pf 47 55)]
def ZZ:List RI:=[omk 57 5,omk 4 57]
def ZY:List RI:=[omk 25 5,oo 26 (Bc .add 25 1) [25],omk 5 26]
def z8:RC:=(.post (Sq (So Z2 (Kc 24 (Kk [24] .skip) (Kk [5,24] (.exit 0)))) (Sq (Bk 1 (So Z1 (Sq (.flt [0,1,3,0,8,31,63,127,255,127,639,1663,3711,8191,16383,32767,65535,131071,65535,327679,65535,1114111,3997695,8388607,16777215] [] Z0 [6,32,33,34,35,36,37,38,39,40,41,42,43,44,45,46,47,48,49,50,51,52,53,54,55]) (Kc 56 (Kk [2,3,56] (So ZZ .ret)) (Kk [56] .skip))))) (.ops ZY))) [.gc [106]])
def uu:RC:=z8
def KP:List RI:=[on 58 (Fa 1 3),oo 59 (Ld 58) [58],oo 60 (Bc .eql 59 3) [59],omk 61 60,.grp 61 true [(xi 62 61 true (Fa 0 3)),(xi 63 61 true (Ld 62)),(xi 64 61 true (Bc .eql 63 9))] [62,63],oo 65 (Pf 61 64) [61,64],omk 66 65,.grp 66 true [(xi 67 66 true (Lt 4 3)),(xi 68 66 true (Ca 57 [.t 67]))] [67],oo 69 (Pf 66 68) [66,68]]
def md:List RI:=[on 7 (Mc 0)]
def KO:List RI:=[om 70 7,on 71 (Fa 6 2),oo 72 (Ld 71) [71],oo 73 (Ln 72) [72],oo 74 (Bb .lss 70 73) [70,73]]
def KN:List FI:=[Fs 0 77 (Fa 6 2),Fs 1 78 (Ld 77),Fm 2 79 7,Fs 3 80 (Ia 4 78 79),Fs 4 81 (Lt 4 80),Fs 5 82 (Fa 3 3),Fs 6 83 (Ld 82),Fz 7 84 (Ca 58 [.t 81,.t 83])]
def KM:List RI:=[oo 85 (Fa 5 2) [2],oo 86 (Ld 85) [85],oo 87 (Ln 86) [86],omk 88 7,oo 89 (Bb .add 87 88) [87,88],omk 4 89]
def KL:List RI:=[omk 75 7,oo 76 (Bc .add 75 1) [75],omk 7 76]
def z7:RC:=(Sq (So KO (Kc 74 (Kk [74] .skip) (Kk [2,3,7,74] (.exit 2)))) (Sq (Bk 3 (Sq (.flt [0,1,0,7,15,0,32,127] [] KN [77,78,79,80,81,82,83]) (Kc 84 (Kk [3,84] (So KM .ret)) (Kk [84] .skip)))) (.ops KL)))
def ut:RC:=z7
def r19:RC:=(So EV (Sq (So Z4 (Kc 16 (Kk [2,3,16] (So mC .ret)) (Kk [16] .skip))) (Sq (So Z3 (Kc 19 (Kk [19] (So mz (Bk 0 (.loop uu)))) (Kk [19] .skip))) (Sq (So KP (Kc 69 (Kk [69] (So md (Bk 2 (.loop ut)))) (Kk [2,3,69] .skip))) (So mC .ret)))))
def F19:FnC:=⟨r19,90,[.tmp 4],[],[]⟩
def ET:List RI:=[om 6 0,oo 7 (Ln 6) [6],om 8 1,oo 9 (Ln 8) [8],oo 10 (Bb .neq 7 9) [7,9]]
def iV:List RI:=[on 4 (Mb false)]
def ES:List RI:=[om 11 5,om 12 0,oo 13 (Ln 12) [12],oo 14 (Bb .lss 11 13) [11,13]]
def ZX:List FI:=[Fm 0 17 0,Fm 1 18 5,Fs 2 19 (Ia 1 17 18),Fs 3 20 (Ld 19),Fm 4 21 1,Fm 5 22 5,Fs 6 23 (Ia 1 21 22),Fs 7 24 (Ld 23),Fz 8 25 (Ca 25 [.t 20,.t 24]),Fs 9 26 (.un .not (.t 25))]
def ER:List RI:=[omk 15 5,oo 16 (Bc .add 15 1) [15],omk 5 16]
def QE:RC:=(Sq (So ES (Kc 14 (Kk [14] .skip) (Kk [0,1,5,14] (.exit 0)))) (Sq (Bk 1 (Sq (.flt [0,0,3,7,0,0,48,112,255,511] [] ZX [17,18,19,20,21,22,23,24,25]) (Kc 26 (Kk [0,1,5,26] (So iV .ret)) (Kk [26] .skip)))) (.ops ER)))
def P3:RC:=QE
def pd:List RI:=[on 4 (Mb true)]
def r20:RC:=(So lJ (Sq (So ET (Kc 10 (Kk [0,1,10] (So iV .ret)) (Kk [10] .skip))) (Sq (So mz (Bk 0 (.loop P3))) (So pd .ret))))
def F20:FnC:=⟨r20,27,[.tmp 4],[],[]⟩
def EP:List RI:=[oo 4 (.mov (.c (.lst 1 [] .clip))) [4]]
def P2:List RI:=[on 5 (.mov (.c (.lst 1 [] .clip)))]
def ZW:List RI:=[omk 11 1,on 12 (Ln 11),on 13 (Mc 0)]
def ZV:List RI:=[on 14 (Bb .lss 13 12)]
def ZU:List RI:=[on 15 (Ia 2 11 13),oo 16 (Lt 2 15) [15],on 7 (.new (.rc [.int .i64 0,.int .i64 0])),Sr 2 7 16 [16]]
def ZT:List RI:=[on 17 (Fa 0 7),oo 18 (Ld 17) [17],oo 19 (Bc .lss 18 0) [18],omk 20 19,.grp 20 false [(xi 21 20 false (Fa 0 7)),(xi 22 20 false (Ld 21)),(xi 23 20 false (Mv 0)),(xi 24 20 false (Ln 23)),(xi 25 20 false (Bb .geq 22 24))] [21,22,23,24],oo 26 (Pt 20 25) [20,25]]
def ZS:List RI:=[om 27 0,oo 28 (Fa 0 7) [7],oo 29 (Ld 28) [28],oo 30 (Ia 7 27 29) [27,29],oo 31 (Lt 7 30) [30],oo 32 (Ca 59 [.t 31]) [31],omk 8 32]
def ZR:List RI:=[om 34 5,om 35 8,oo 36 (Ca 60 [.t 34,.t 35,(.f 61)]) [34,35],omk 33 36,on 37 (.ext (.t 33) 0),oo 38 (.ext (.t 33) 1) [33],omk 9 37,omk 10 38]
def ZQ:List RI:=[omk 39 10,oo 40 (.un .not (.t 39)) [39]]
def ZP:List RI:=[omk 41 5,omk 42 9,omk 43 8,oo 44 (.lit 1 [.t 43]) [43],oo 45 (Ca 62 [.t 41,.t 42,.t 44]) [41,42,44],omk 5 45]
def KK:List RI:=[oo 46 (Bc .add 13 1) [13],omk 13 46]
def z6:RC:=(.post (So ZV (Sq (Kc 14 (Kk [14] .skip) (Kk [0,11,12,13,14] (.exit 0))) (Sq (Bk 1 (So ZU (Sq (So ZT (Kc 26 (Kk [7,26] (.exit 1)) (Kk [26] .skip))) (So ZS (So ZR (So ZQ (Kc 40 (Kk [40] (.ops ZP)) (Kk [8,9,40] .skip)))))))) (.ops KK)))) [.obj 5 105,.gc [107]])
def yT:RC:=z6
def KJ:List RI:=[omk 47 5,omk 4 47]
def r21:RC:=(So EP (So P2 (Sq (So ZW (Bk 0 (.loop yT))) (So KJ .ret))))
def F21:FnC:=⟨r21,48,[.tmp 4],[],[]⟩
def lI:List RI:=[on 6 (Mc 0)]
def P1:List RI:=[om 9 6,om 10 1,oo 11 (Ln 10) [10],oo 12 (Bb .lss 9 11) [9,11]]
def ZO:List RI:=[om 15 1,om 16 6,oo 17 (Ia 2 15 16) [15,16],oo 18 (Fa 0 17) [17],oo 19 (Ld 18) [18],oo 20 (Bc .lss 19 0) [19],omk 21 20,.grp 21 false [(xi 22 21 false (Mv 1)),(xi 23 21 false (Mv 6)),(xi 24 21 false (Ia 2 22 23)),(xi 25 21 false (Fa 0 24)),(xi 26 21 false (Ld 25)),(xi 27 21 false (Mv 0)),(xi 28 21 false (Ln 27)),(xi 29 21 false (Bb .geq 26 28))] [22,23,24,25,26,27,28],oo 30 (Pt 21 29) [21,29]]
def ZN:List RI:=[om 31 0,om 32 1,om 33 6,oo 34 (Ia 2 32 33) [32,33],oo 35 (Fa 0 34) [34],oo 36 (Ld 35) [35],oo 37 (Ia 7 31 36) [31,36],oo 38 (Lt 7 37) [37],oo 39 (Ca 26 [.t 38]) [38],omk 7 39]
def ur:List RI:=[on 8 (Mc 0)]
def ZM:List RI:=[om 40 8,om 41 5,oo 42 (Ln 41) [41],oo 43 (Bb .lss 40 42) [40,42],omk 44 43,.grp 44 true [(xi 45 44 true (Mv 5)),(xi 46 44 true (Mv 8)),(xi 47 44 true (Ia 1 45 46)),(xi 48 44 true (Ld 47)),(xi 49 44 true (Mv 7)),(xi 50 44 true (Ca 63 [.t 48,.t 49]))] [45,46,47,48,49],oo 51 (Pf 44 50) [44,50]]
def ZL:List RI:=[omk 52 8,oo 53 (Bc .add 52 1) [52],omk 8 53]
def QD:RC:=(Sq (So ZM (Kc 51 (Kk [51] .skip) (Kk [51] (.exit 2)))) (Bk 3 (.ops ZL)))
def P0:RC:=QD
def KI:List RI:=[om 54 8,om 55 5,oo 56 (Ln 55) [55],oo 57 (Bb .lss 54 56) [54,56],omk 58 57,.grp 58 true [(xi 59 58 true (Mv 5)),(xi 60 58 true (Mv 8)),(xi 61 58 true (Ia 1 59 60)),(xi 62 58 true (Ld 61)),(xi 63 58 true (Mv 7)),(xi 64 58 true (Ca 25 [.t 62,.t 63]))] [59,60,61,62,63],oo 65 (Pf 58 64) [58,64]]
def KH:List FI:=[Fs 0 66 (.lit 1 []),Fm 1 67 5,Fm 2 68 8,Fs 3 69 (.slcL 1 (.t 67) none (some (.t 68)) none),Fm 5 71 7,Fs 6 72 (.lit 1 [.t 71]),Fm 8 74 5,Fm 9 75 8,Fs 10 76 (.slcL 1 (.t 74) (some (.t 75)) none none),Fz 4 70 (.app [.byt [] .clip] 24 (.t 66) (.t 69)),Fz 7 73 (.app [.byt [] .clip] 24 (.t 70) (.t 72)),Fz 11 77 (.app [.byt [] .clip] 24 (.t 73) (.t 76)),⟨12,false,(xm 5 77)⟩]
def KG:List RI:=[omk 13 6,oo 14 (Bc .add 13 1) [13],omk 6 14]
def zZ:RC:=(.post (Sq (So P1 (Kc 12 (Kk [12] .skip) (Kk [0,1,6,12] (.exit 0)))) (Sq (Bk 1 (Sq (So ZO (Kc 30 (Kk [30] (.exit 1)) (Kk [30] .skip))) (So ZN (So ur (Sq (Bk 2 (.loop P0)) (Sq (So KI (Kc 65 (Kk [7,8,65] (.exit 1)) (Kk [65] .skip))) (.flt [0,0,0,6,15,0,32,127,0,0,768,2047,4095] [170,173,177] KH [7,8,66,67,68,69,70,71,72,73,74,75,76,77]))))))) (.ops KG))) [.gc [170,173],.tok 5 105])
def yS:RC:=zZ
def KF:List RI:=[omk 78 5,omk 4 78]
def r22:RC:=(So EP (So P2 (Sq (So lI (Bk 0 (.pre [.tok 5 105] (.loop yS)))) (So KF .ret))))
def F22:FnC:=⟨r22,79,[.tmp 4],[],[]⟩
def ZK:List RI:=[oo 4 (.mov (.c (.lst 7 [] .clip))) [4]]
def ZJ:List RI:=[omk 8 0,oo 9 (Ca 35 [.t 8,ci 120]) [8],omk 5 9]
def ZI:List RI:=[on 6 (.mov (.c (.lst 7 [] .clip)))]
def ZH:List RI:=[om 10 5,oo 11 (Ca 37 [.t 10,ci 5]) [10],omk 7 11]
def ZG:List RI:=[om 12 7,oo 13 (Bc .gtr 12 0) [12]]
def ZF:List RI:=[omk 16 6,om 17 5,om 18 1,oo 19 (Ca 64 [.t 17,.t 18]) [17,18],oo 20 (.lit 7 [.t 19]) [19],oo 21 (.app Zq2 96 (.t 16) (.t 20)) [16,20],omk 6 21]
def ZE:List RI:=[omk 14 7,oo 15 (Bc .sub 14 1) [14],omk 7 15]
def QC:RC:=(.post (Sq (So ZG (Kc 13 (Kk [13] .skip) (Kk [1,5,7,13] (.exit 0)))) (Sq (Bk 1 (.ops ZF)) (.ops ZE))) [.tok 6 106])
def PZ:RC:=QC
def ZD:List RI:=[omk 22 6,omk 4 22]
def r23:RC:=(So ZK (So ZJ (So ZI (Sq (So ZH (Bk 0 (.pre [.tok 6 106] (.loop PZ)))) (So ZD .ret)))))
def F23:FnC:=⟨r23,23,[.tmp 4],[],[]⟩
def ZC:List RI:=[oo 2 (.mov (.c (.lst 4 [] .clip))) [2]]
def ZB:List RI:=[omk 10 0,oo 11 (Ca 35 [.t 10,ci 200]) [10],omk 3 11]
def PY:List RI:=[on 4 (.mov (.c (.lst 4 [] .clip)))]
def ZA:List RI:=[on 5 (Mc 1)]
def Zz:List RI:=[om 12 5,oo 13 (Bc .leq 12 4) [12]]
def Zy:List RI:=[om 16 3,oo 17 (Ca 37 [.t 16,ci 3]) [16],omk 6 17]
def Zx:List RI:=[om 18 5,oo 19 (Bc .eql 18 1) [18],omk 20 19,.grp 20 false [(xi 21 20 false (Mv 5)),(xi 22 20 false (Bc .eql 21 3))] [21],oo 23 (Pt 20 22) [20,22]]
def Zw:List RI:=[om 24 3,oo 25 (Ca 37 [.t 24,ci 2]) [24],oo 26 (.bin .add (ci 1) (.t 25)) [25],omk 6 26]
def Zv:List RI:=[om 27 6,oo 28 (Bc .gtr 27 0) [27]]
def Zu:List RI:=[om 31 3,om 32 5,oo 33 (Ca 65 [.t 31,.t 32]) [31,32],on 7 (.new (.rc Zq1)),Sr 4 7 33 [33]]
def KE:List RI:=[on 9 (Mc 0)]
def KD:List RI:=[om 34 9,om 35 4,oo 36 (Ln 35) [35],oo 37 (Bb .lss 34 36) [34,36]]
def KC:List FI:=[Fm 0 40 8,Fm 1 41 40,Fi 2 42 41 false (Mv 4),Fi 3 43 41 false (Mv 9),Fi 4 44 41 false (Ia 4 42 43),Fi 5 45 41 false (Fa 0 44),Fi 6 46 41 false (Ld 45),Fi 7 47 41 false (Fa 0 7),Fi 8 48 41 false (Ld 47),Fi 9 49 41 false (Bb .eql 46 48),Fi 10 50 41 false (Mv 49),Fi 11 51 50 true (Mv 4),Fi 12 52 50 true (Mv 9),Fi 13 53 50 true (Ia 4 51 52),Fi 14 54 50 true (Fa 1 53),Fi 15 55 50 true (Ld 54),Fi 16 56 50 true (Fa 1 7),Fi 17 57 50 true (Ld 56),Fi 18 58 50 true (Bb .eql 55 57),Fi 19 59 41 false (Pf 50 58),Fs 20 60 (Pt 41 59),⟨21,false,(xm 8 60)⟩]
def KB:List RI:=[omk 38 9,oo 39 (Bc .add 38 1) [38],omk 9 39]
def zY:RC:=(Sq (So KD (Kc 37 (Kk [37] .skip) (Kk [9,37] (.exit 4)))) (Sq (Bk 5 (.flt [0,1,3,3,15,31,63,3,131,511,1023,2047,2047,8191,16383,32767,2047,67583,262143,524287,1048575,2097151] [] KC [40,41,42,43,44,45,46,47,48,49,50,51,52,53,54,55,56,57,58,59,60])) (.ops KB)))
def yR:RC:=zY
def KA:List RI:=[omk 61 8,oo 62 (.un .not (.t 61)) [61]]
def Kz:List RI:=[omk 63 4,oo 64 (Lt 4 7) [7],oo 65 (.lit 4 [.t 64]) [64],oo 66 (.app Zq1 56 (.t 63) (.t 65)) [63,65],omk 4 66]
def Ky:List RI:=[omk 29 6,oo 30 (Bc .sub 29 1) [29],omk 6 30]
def zX:RC:=(.post (Sq (So Zv (Kc 28 (Kk [28] .skip) (Kk [6,28] (.exit 2)))) (Sq (Bk 3 (So Zu (So xgn (Sq (So KE (Bk 4 (.loop yR))) (So KA (Kc 62 (Kk [62] (.ops Kz)) (Kk [7,62] .skip))))))) (.ops Ky))) [.gc [107],.tok 4 104])
def yQ:RC:=zX
def Kx:List RI:=[omk 14 5,oo 15 (Bc .add 14 1) [14],omk 5 15]
def zW:RC:=(.post (Sq (So Zz (Kc 13 (Kk [13] .skip) (Kk [3,5,13] (.exit 0)))) (Sq (Bk 1 (So Zy (Sq (So Zx (Kc 23 (Kk [6,23] (.ops Zw)) (Kk [23] .skip))) (Bk 2 (.pre [.tok 4 104] (.loop yQ)))))) (.ops Kx))) [.gc [107],.tok 4 104])
def qP:RC:=zW
def Kw:List RI:=[omk 67 4,omk 2 67]
def r24:RC:=(So ZC (So ZB (So PY (Sq (So ZA (Bk 0 (.pre [.tok 4 104] (.loop qP)))) (So Kw .ret)))))
def F24:FnC:=⟨r24,68,[.tmp 2],[],[]⟩
def Zt:List FI:=[Fm 0 17 0,Fm 1 18 5,Fs 2 19 (Ia 1 17 18),Fs 3 20 (Ld 19),Fm 4 21 1,Fm 5 22 5,Fs 6 23 (Ia 1 21 22),Fs 7 24 (Ld 23),Fs 8 25 (Bb .neq 20 24)]
def QB:RC:=(Sq (So ES (Kc 14 (Kk [14] .skip) (Kk [0,1,5,14] (.exit 0)))) (Sq (Bk 1 (Sq (.flt [0,0,3,7,0,0,48,112,255] [] Zt [17,18,19,20,21,22,23,24]) (Kc 25 (Kk [0,1,5,25] (So iV .ret)) (Kk [25] .skip)))) (.ops ER)))
def PX:RC:=QB
def r25:RC:=(So lJ (Sq (So ET (Kc 10 (Kk [0,1,10] (So iV .ret)) (Kk [10] .skip))) (Sq (So mz (Bk 0 (.loop PX))) (So pd .ret))))
def F25:FnC:=⟨r25,26,[.tmp 4],[],[]⟩
def uq:List RI:=[oo 1 (.box (.t 0)) [0],oo 2 (.mov (.c (.byt [] .clip))) [2]]
def Zs:List RI:=[oo 4 (Lt 7 1) [1],oo 5 (Ca 66 [.t 4]) [4],omk 3 5]
def PW:List RI:=[om 6 3,oo 7 (Ln 6) [6],oo 8 (Bc .eql 7 0) [7]]
def up:List RI:=[on 2 (.mov (.c (.byt [] .clip)))]
def Zr:List RI:=[omk 9 3,oo 10 (.lit 1 [.t 9]) [9],oo 11 (Ca 67 [ci 21,.t 10]) [10],omk 2 11]
def r26:RC:=(So uq (So Zs (Sq (So PW (Kc 8 (Kk [3,8] (So up .ret)) (Kk [8] .skip))) (So Zr .ret))))
def F26:FnC:=⟨r26,12,[.tmp 2],[],[]⟩
def Zq:List RI:=[oo 1 (.box (.t 0)) [0],oo 2 (Mc 0) [2],oo 3 (Mc 0) [3],oo 4 (Mc 0) [4]]
def Zp:List RI:=[on 5 (Mc 0),on 6 (Mc 0)]
def Zo:List RI:=[om 10 7,on 11 (Fa 2 1),oo 12 (Ld 11) [11],oo 13 (Ln 12) [12],oo 14 (Bb .lss 10 13) [10,13]]
def Zn:List RI:=[on 17 (Fa 2 1),oo 18 (Ld 17) [17],om 19 7,oo 20 (Ia 4 18 19) [18,19],oo 21 (Lt 4 20) [20],oo 22 (Ca 42 [.t 21]) [21],omk 8 22]
def Zm:List RI:=[om 23 8,oo 24 (Bc .eql 23 0) [23]]
def Zl:List RI:=[om 25 8,om 26 5,oo 27 (Bb .geq 25 26) [25,26],omk 28 27,.grp 28 true [(xi 29 28 true (Mv 5)),(xi 30 28 true (Bc .gtr 29 0)),(xi 31 28 true (Mv 30))] [29,30],.grp 31 false [(xi 32 31 false (Mv 8)),(xi 33 31 false (Bc .eql 32 1))] [32],.grp 28 true [(xi 34 28 true (Pt 31 33))] [31,33],oo 35 (Pf 28 34) [28,34],omk 9 35]
def Zk:List RI:=[om 36 8,oo 37 (Bc .eql 36 3) [36]]
def Zj:List RI:=[omk 38 9,omk 39 38,.grp 39 true [(xi 40 39 true (Fa 2 1)),(xi 41 39 true (Ld 40)),(xi 42 39 true (Mv 7)),(xi 43 39 true (Ia 4 41 42)),(xi 44 39 true (Fa 0 43)),(xi 45 39 true (Ld 44)),(xi 46 39 true (Mv 6)),(xi 47 39 true (Bb .eql 45 46))] [40,41,42,43,44,45,46],oo 48 (Pf 39 47) [39,47],omk 9 48]
def Zi:List RI:=[om 49 8,oo 50 (Bc .gtr 49 3) [49]]
def Kv:List RI:=[omk 51 9,omk 52 51,.grp 52 true [(xi 53 52 true (Mv 6)),(xi 54 52 true (Bc .eql 53 8))] [53],oo 55 (Pf 52 54) [52,54],omk 9 55]
def Ku:List RI:=[omk 56 9,oo 57 (.un .not (.t 56)) [56]]
def Kt:List RI:=[omk 58 5,omk 59 7,omk 2 58,omk 3 59,on 4 (Mc 41)]
def Ks:List RI:=[om 60 8,omk 5 60]
def Kr:List RI:=[omk 61 8,oo 62 (Bc .eql 61 3) [61]]
def Kq:List RI:=[omk 63 6,oo 64 (Bc .add 63 1) [63],omk 6 64]
def Kp:List RI:=[omk 15 7,oo 16 (Bc .add 15 1) [15],omk 7 16]
def zV:RC:=(Sq (So Zo (Kc 14 (Kk [14] .skip) (Kk [6,7,14] (.exit 0)))) (Sq (Bk 1 (So Zn (Sq (So Zm (Kc 24 (Kk [8,24] (.exit 1)) (Kk [24] .skip))) (So Zl (Sq (So Zk (Kc 37 (Kk [37] (.ops Zj)) (Kk [37] .skip))) (Sq (So Zi (Kc 50 (Kk [50] (.ops Kv)) (Kk [50] .skip))) (Sq (So Ku (Kc 57 (Kk [1,6,8,57] (So Kt .ret)) (Kk [5,57] .skip))) (So Ks (So Kr (Kc 62 (Kk [62] (.ops Kq)) (Kk [62] .skip))))))))))) (.ops Kp)))
def mc:RC:=zV
def Ko:List FI:=[Fm 0 65 5,Fs 1 66 (Fa 2 1),Fs 2 67 (Ld 66),Fs 3 68 (Ln 67),Fm 4 2 65,Fm 5 3 68,Fs 6 4 (Mc 0)]
def r28:RC:=(So Zq (So Zp (Sq (So md (Bk 0 (.loop mc))) (Sq (.flt [0,0,2,6,1,31,63] [] Ko [1,5,65,66,67,68]) .ret))))
def F28:FnC:=⟨r28,69,[.tmp 2,.tmp 3,.tmp 4],[],[]⟩
def my:List RI:=[oo 2 (Mc 0) [2]]
def Zh:List RI:=[omk 3 0,oo 4 (Ca 18 [.t 3,ci 2]) [3],oo 5 (.bin .add (ci 2) (.t 4)) [4],omk 2 5]
def r29:RC:=(So my (So Zh .ret))
def F29:FnC:=⟨r29,6,[.tmp 2],[],[]⟩
def Zg:List RI:=[oo 4 (.mov (.c (.lst 4 [] .clip))) [4]]
def Zf:List RI:=[om 11 0,oo 12 (Ca 75 [.t 11]) [11],oo 13 (Bc .neq 12 0) [12],omk 14 13,.grp 14 false [(xi 15 14 false (Mv 1)),(xi 16 14 false (Bc .lss 15 1))] [15],oo 17 (Pt 14 16) [14,16],omk 18 17,.grp 18 false [(xi 19 18 false (Mv 1)),(xi 20 18 false (Bc .gtr 19 3))] [19],oo 21 (Pt 18 20) [18,20]]
def Ze:List RI:=[on 5 (.mov (.c (.lst 4 [] .clip)))]
def Zd:List RI:=[on 6 (Mc 1)]
def Zc:List RI:=[om 22 6,oo 23 (Bc .leq 22 4) [22]]
def Zb:List RI:=[om 26 6,oo 27 (Bc .eql 26 3) [26]]
def Za:List RI:=[om 28 7,oo 29 (Bc .lss 28 8) [28]]
def Y9:List RI:=[omk 32 5,om 33 7,om 34 1,on 35 (Ca 77 []),oo 36 (Ca 76 [.t 33,ci 2,.t 34,.t 35]) [33,34,35],oo 37 (.lit 4 [.t 36]) [36],oo 38 (.app Zq0 64 (.t 32) (.t 37)) [32,37],omk 5 38]
def Kn:List RI:=[omk 30 7,oo 31 (Bc .add 30 1) [30],omk 7 31]
def zU:RC:=(.post (Sq (So Za (Kc 29 (Kk [29] .skip) (Kk [7,29] (.exit 2)))) (Sq (Bk 3 (.ops Y9)) (.ops Kn))) [.tok 5 105])
def yP:RC:=zU
def Km:List RI:=[om 39 8,om 40 0,oo 41 (Ln 40) [40],oo 42 (Bb .lss 39 41) [39,41]]
def Kj:List RI:=[om 45 0,om 46 8,oo 47 (Ia 4 45 46) [45,46],oo 48 (Fa 0 47) [47],oo 49 (Ld 48) [48],om 50 6,oo 51 (Bb .neq 49 50) [49,50]]
def Ki:List RI:=[om 52 6,oo 53 (Bc .neq 52 4) [52]]
def Kh:List RI:=[omk 54 5,om 55 0,om 56 8,oo 57 (Ia 4 55 56) [55,56],oo 58 (Lt 4 57) [57],om 59 1,oo 60 (Ca 78 [.t 58,.t 59]) [58,59],oo 61 (.lit 4 [.t 60]) [60],oo 62 (.app Zq0 64 (.t 54) (.t 61)) [54,61],omk 5 62]
def Kg:List RI:=[om 63 0,om 64 8,oo 65 (Ia 4 63 64) [63,64],oo 66 (Lt 4 65) [65],oo 67 (Ca 79 [.t 66]) [66],omk 9 67]
def Kf:List RI:=[om 68 10,om 69 9,oo 70 (Ln 69) [69],oo 71 (Bb .lss 68 70) [68,70]]
def Ke:List RI:=[omk 74 5,om 75 1,om 76 9,om 77 10,oo 78 (Ia 1 76 77) [76,77],oo 79 (Ld 78) [78],oo 80 (Ca 76 [ci 9,ci 3,.t 75,.t 79]) [75,79],oo 81 (.lit 4 [.t 80]) [80],oo 82 (.app Zq0 64 (.t 74) (.t 81)) [74,81],omk 5 82]
def Kd:List RI:=[omk 72 10,oo 73 (Bc .add 72 1) [72],omk 10 73]
def zT:RC:=(.post (Sq (So Kf (Kc 71 (Kk [71] .skip) (Kk [9,10,71] (.exit 6)))) (Sq (Bk 7 (.ops Ke)) (.ops Kd))) [.tok 5 105])
def yO:RC:=zT
def Kb:List RI:=[omk 43 8,oo 44 (Bc .add 43 1) [43],omk 8 44]
def zS:RC:=(.post (Sq (So Km (Kc 42 (Kk [42] .skip) (Kk [8,42] (.exit 4)))) (Sq (Bk 5 (Sq (So Kj (Kc 51 (Kk [51] (.exit 5)) (Kk [51] .skip))) (Sq (So Ki (Kc 53 (Kk [53] (So Kh (.exit 5))) (Kk [53] .skip))) (So Kg (So EU (Bk 6 (.pre [.tok 5 105] (.loop yO)))))))) (.ops Kb))) [.tok 5 105])
def yN:RC:=zS
def Ka:List RI:=[omk 24 6,oo 25 (Bc .add 24 1) [24],omk 6 25]
def zR:RC:=(.post (Sq (So Zc (Kc 23 (Kk [23] .skip) (Kk [0,1,6,23] (.exit 0)))) (Sq (Bk 1 (Sq (So Zb (Kc 27 (Kk [27] (So md (Bk 2 (.pre [.tok 5 105] (.loop yP))))) (Kk [27] .skip))) (So ur (Bk 4 (.pre [.tok 5 105] (.loop yN)))))) (.ops Ka))) [.tok 5 105])
def J9:RC:=zR
def J8:List RI:=[omk 83 5,omk 4 83]
def r31:RC:=(So Zg (Sq (So Zf (Kc 21 (Kk [0,1,21] (So PY .ret)) (Kk [21] .skip))) (So Ze (Sq (So Zd (Bk 0 (.pre [.tok 5 105] (.loop J9)))) (So J8 .ret)))))
def F31:FnC:=⟨r31,84,[.tmp 4],[],[]⟩
def Y8:List RI:=[on 4 (Lt 4 1),oo 5 (Ca 81 [.t 4]) [4],oo 6 (Bc .neq 5 0) [5]]
def Y7:List RI:=[on 7 (Fa 0 1),oo 8 (Ld 7) [7],oo 9 (Ca 82 [(.c (.byt [] .clip)),ci 1,.t 8]) [8],omk 3 9]
def Y6:List RI:=[omk 10 3,on 11 (Fa 2 1),oo 12 (Ld 11) [11],oo 13 (Ca 82 [.t 10,ci 4,.t 12]) [10,12],omk 3 13]
def Y5:List RI:=[omk 14 3,on 15 (Fa 1 1),oo 16 (Ld 15) [15],oo 17 (.s2b (.t 16)) [16],oo 18 (Ca 83 [.t 14,.t 17]) [14,17],omk 3 18]
def Y4:List RI:=[omk 19 3,oo 20 (Fa 3 1) [1],oo 21 (Ld 20) [20],oo 22 (Ca 83 [.t 19,.t 21]) [19,21],omk 2 22]
def r33:RC:=(So uq (Sq (So Y8 (Kc 6 (Kk [1,6] (So up .ret)) (Kk [6] .skip))) (So Y7 (So Y6 (So Y5 (So Y4 .ret))))))
def F33:FnC:=⟨r33,23,[.tmp 2],[],[]⟩
def Y3:List RI:=[on 6 (.new (.rc Zq2))]
def Y2:List RI:=[omk 12 0,omk 13 1,oo 14 (.build Zq2 [(0,1,(.t 12)),(1,1,(.t 13)),(4,1,(ci 1099511627776))]) [12,13],on 7 (.new (.rc Zq2)),Sr 7 7 14 [14]]
def Y1:List RI:=[om 15 8,om 16 2,oo 17 (Ln 16) [16],oo 18 (Bb .lss 15 17) [15,17]]
def Y0:List RI:=[om 21 2,om 22 8,oo 23 (Ia 4 21 22) [21,22],oo 24 (Lt 4 23) [23],oo 25 (Ca 33 [.t 24]) [24],omk 9 25]
def YZ:List RI:=[om 26 9,oo 27 (Ln 26) [26],oo 28 (Bc .eql 27 0) [27],omk 29 28,.grp 29 false [(xi 30 29 false (Mv 2)),(xi 31 29 false (Mv 8)),(xi 32 29 false (Ia 4 30 31)),(xi 33 29 false (Fa 0 32)),(xi 34 29 false (Ld 33)),(xi 35 29 false (Bc .eql 34 4))] [30,31,32,33,34],oo 36 (Pt 29 35) [29,35]]
def YY:List FI:=[Fm 0 37 2,Fm 1 38 8,Fs 2 39 (Ia 4 37 38),Fs 3 40 (Fa 0 39),Fs 4 41 (Ld 40),Fm 5 42 2,Fm 6 43 8,Fs 7 44 (Ia 4 42 43),Fs 8 45 (Fa 1 44),Fs 9 46 (Ld 45),Fm 10 47 2,Fm 11 48 8,Fs 12 49 (Ia 4 47 48),Fs 13 50 (Fa 2 49),Fs 14 51 (Ld 50),Fm 15 52 9,Fz 16 53 (Ca 80 [.t 52]),Fs 17 54 (.build Zq1 [(0,1,(.t 41)),(1,1,(.t 46)),(2,1,(.t 51)),(3,1,(.t 53))]),Fz 18 10 (.new (.rc Zq1)),Fr 19 4 10 54]
def YX:List RI:=[on 11 (Mc 0)]
def YW:List FI:=[Fm 0 55 11,Fs 1 56 (Fa 5 7),Fs 2 57 (Ld 56),Fs 3 58 (Ln 57),Fs 4 59 (Bb .lss 55 58),Fm 5 60 59,Fi 6 61 60 true (Fa 5 7),Fi 7 62 60 true (Ld 61),Fi 8 63 60 true (Mv 11),Fi 9 64 60 true (Ia 4 62 63),Fi 10 65 60 true (Lt 4 64),Fi 11 66 60 true (Lt 4 10),Fy 12 67 60 true (Ca 84 [.t 65,.t 66]),Fs 13 68 (Pf 60 67)]
def YV:List RI:=[omk 69 11,oo 70 (Bc .add 69 1) [69],omk 11 70]
def zQ:RC:=(Sq (Sq (.flt [0,0,2,6,15,31,63,127,63,511,1023,63,4095,8191] [] YW [55,56,57,58,59,60,61,62,63,64,65,66,67]) (Kc 68 (Kk [68] .skip) (Kk [68] (.exit 2)))) (Bk 3 (.ops YV)))
def yM:RC:=zQ
def J7:List FI:=[Fm 0 71 11,Fs 1 72 (Fa 5 7),Fs 2 73 (Ld 72),Fs 3 74 (Ln 73),Fs 4 75 (Bb .lss 71 74),Fm 5 76 75,Fi 6 77 76 true (Lt 4 10),Fi 7 78 76 true (Fa 5 7),Fi 8 79 76 true (Ld 78),Fi 9 80 76 true (Mv 11),Fi 10 81 76 true (Ia 4 79 80),Fi 11 82 76 true (Lt 4 81),Fy 12 83 76 true (Ca 84 [.t 77,.t 82]),Fi 13 84 76 true (.un .not (.t 83)),Fs 14 85 (Pf 76 84)]
def J6:List FI:=[Fs 0 86 (.lit 4 []),Fs 1 87 (Fa 5 7),Fs 2 88 (Ld 87),Fm 3 89 11,Fs 4 90 (.slcL 4 (.t 88) none (some (.t 89)) none),Fs 6 92 (Lt 4 10),Fs 7 93 (.lit 4 [.t 92]),Fs 9 95 (Fa 5 7),Fs 10 96 (Ld 95),Fm 11 97 11,Fs 12 98 (.slcL 4 (.t 96) (some (.t 97)) none none),Fz 5 91 (.app Zq1 56 (.t 86) (.t 90)),Fz 8 94 (.app Zq1 56 (.t 91) (.t 93)),Fz 13 99 (.app Zq1 56 (.t 94) (.t 98)),Fs 14 100 (Fa 5 7),Fr 15 1 100 99]
def J5:List RI:=[omk 19 8,oo 20 (Bc .add 19 1) [19],omk 8 20]
def zP:RC:=(.post (Sq (So Y1 (Kc 18 (Kk [18] .skip) (Kk [2,8,18] (.exit 0)))) (Sq (Bk 1 (So Y0 (Sq (So YZ (Kc 36 (Kk [9,36] (.exit 1)) (Kk [36] .skip))) (Sq (.fla [0,0,3,7,15,0,0,96,224,480,0,0,3072,7168,15360,0,32768,131071,0,524287] [110] YY [[0,1,2,3,4,5,6,7,8,9,10,11,12,13,14,15,16,17,18,19],[0,1,2,3,4,5,6,7,8,9,10,11,12,13,14,15,18,16,17,19]] [9,37,38,39,40,41,42,43,44,45,46,47,48,49,50,51,52,53,54]) (So YX (Sq (Bk 2 (.loop yM)) (Sq (Sq (.flt [0,0,2,6,15,31,63,63,191,63,959,1983,4095,8191,16383] [] J7 [71,72,73,74,75,76,77,78,79,80,81,82,83,84]) (Kc 85 (Kk [10,11,85] (.exit 1)) (Kk [85] .skip))) (.flt [0,0,2,0,14,31,0,64,255,0,512,0,3584,8191,16383,32767] [191,194,199] J6 [10,11,86,87,88,89,90,91,92,93,94,95,96,97,98,99,100])))))))) (.ops J5))) [.gc [110,191,194,199]])
def l8:RC:=zP
def J4:List RI:=[oo 101 (Lt 7 7) [7],Sr 7 6 101 [101]]
def r34:RC:=(So Y3 (So Y2 (Sq (So ur (Bk 0 (.loop l8))) (So J4 .ret))))
def F34:FnC:=⟨r34,102,[.cell 6 7 true],[0],[]⟩
def YU:List RI:=[oo 4 (.mov (.c .nilp)) [4]]
def YT:List RI:=[om 5 0,oo 6 (Ln 5) [5],om 7 1,oo 8 (Bb .gtr 6 7) [6,7]]
def YS:List RI:=[omk 9 0,omk 10 1,oo 11 (.slcL 1 (.t 9) none (some (.t 10)) none) [9,10],omk 0 11]
def YR:List RI:=[omk 12 0,oo 13 (.build [.byt [] .clip,.int .i64 0] [(0,1,(.t 12))]) [12],oo 14 (.box (.t 13)) [13],omk 4 14]
def r35:RC:=(So YU (Sq (So YT (Kc 8 (Kk [8] (.ops YS)) (Kk [1,8] .skip))) (So YR .ret)))
def F35:FnC:=⟨r35,15,[.tmp 4],[],[]⟩
def YQ:List RI:=[on 6 (.new (.rc Zq3))]
def YP:List RI:=[omk 13 0,oo 14 (Ca 35 [.t 13,ci 240]) [13],omk 7 14]
def YO:List RI:=[om 15 1,omk 16 2,oo 17 (Ca 18 [.t 16,ci 1000]) [16],oo 18 (.build Zq3 [(0,1,(.t 15)),(1,1,(.t 17))]) [15,17],on 8 (.new (.rc Zq3)),Sr 3 8 18 [18]]
def YN:List RI:=[om 19 7,oo 20 (Ca 37 [.t 19,ci 3]) [19],oo 21 (Bc .eql 20 0) [20]]
def YM:List RI:=[omk 22 7,omk 23 1,oo 24 (Ca 85 [.t 22,.t 23,ci 14]) [22,23],on 25 (Fa 2 8),Sr 1 25 24 [24,25]]
def YL:List RI:=[oo 26 (Lt 3 8) [8],Sr 3 6 26 [26]]
def YK:List FI:=[Fm 0 27 7,Fs 1 28 (.nchk (.t 27)),Fs 2 29 (Fa 0 28),Fs 3 30 (Ld 29),Fm 4 31 7,Fs 5 32 (.nchk (.t 31)),Fs 6 33 (Fa 1 32),Fs 7 34 (Ld 33),Fs 8 35 (.slcL 1 (.t 30) (some (.t 34)) none none),Fz 9 36 (Ca 24 [.t 35]),Fm 10 9 36]
def YJ:List RI:=[omk 37 9,om 38 1,oo 39 (Ca 31 [.t 37,.t 38]) [37,38],on 40 (Fa 2 8),Sr 1 40 39 [39,40]]
def YI:List RI:=[om 41 7,oo 42 (Ca 37 [.t 41,ci 4]) [41],omk 10 42]
def YH:List RI:=[om 43 10,oo 44 (Bc .gtr 43 0) [43]]
def J3:List RI:=[om 47 7,on 48 (Fa 2 8),oo 49 (Ld 48) [48],oo 50 (Ln 49) [49],oo 51 (Ca 37 [.t 47,.t 50]) [47,50],omk 11 51]
def J2:List RI:=[om 52 7,oo 53 (Ca 37 [.t 52,ci 5]) [52]]
def J1:List RI:=[on 73 (Bc .eql 53 0),omk 72 73]
def J0:List FI:=[Fs 0 74 (.lit 4 []),Fs 1 75 (Fa 2 8),Fs 2 76 (Ld 75),Fm 3 77 11,Fs 4 78 (.slcL 4 (.t 76) none (some (.t 77)) none),Fs 6 80 (Fa 2 8),Fs 7 81 (Ld 80),Fm 8 82 11,Fs 9 83 (Bc .add 82 1),Fs 10 84 (.slcL 4 (.t 81) (some (.t 83)) none none),Fz 5 79 (.app Zq0 64 (.t 74) (.t 78)),Fz 11 85 (.app Zq0 64 (.t 79) (.t 84)),Fs 12 86 (Fa 2 8),Fr 13 1 86 85]
def JZ:List RI:=[on 88 (Bc .eql 53 1),omk 87 88]
def JY:List FI:=[Fs 0 89 (.lit 4 []),Fs 1 90 (Fa 2 8),Fs 2 91 (Ld 90),Fm 3 92 11,Fs 4 93 (.slcL 4 (.t 91) none (some (.t 92)) none),Fs 6 95 (Fa 2 8),Fs 7 96 (Ld 95),Fm 8 97 11,Fs 9 98 (Ia 4 96 97),Fs 10 99 (Lt 4 98),Fs 11 100 (.lit 4 [.t 99]),Fs 13 102 (Fa 2 8),Fs 14 103 (Ld 102),Fm 15 104 11,Fs 16 105 (.slcL 4 (.t 103) (some (.t 104)) none none),Fz 5 94 (.app Zq0 64 (.t 89) (.t 93)),Fz 12 101 (.app Zq0 64 (.t 94) (.t 100)),Fz 17 106 (.app Zq0 64 (.t 101) (.t 105)),Fs 18 107 (Fa 2 8),Fr 19 1 107 106]
def JX:List RI:=[on 109 (Bc .eql 53 2),omk 108 109]
def JW:List RI:=[om 110 7,on 111 (Fa 2 8),oo 112 (Ld 111) [111],oo 113 (Ln 112) [112],oo 114 (Ca 37 [.t 110,.t 113]) [110,113],omk 12 114]
def JV:List RI:=[on 115 (.lit 4 []),on 116 (Fa 2 8),oo 117 (Ld 116) [116],.own (xs 118 (.app Zq0 64 (.t 115) (.t 117))) [115,117],on 119 (Fa 2 8),Sr 1 119 118 [118,119]]
def JU:List FI:=[Fs 0 120 (Fa 2 8),Fs 1 121 (Ld 120),Fm 2 122 11,Fs 3 123 (Fa 2 8),Fs 4 124 (Ld 123),Fm 5 125 12,Fs 6 126 (Fa 2 8),Fs 7 127 (Ld 126),Fm 8 128 12,Fs 9 129 (Ia 4 127 128),Fs 10 130 (Lt 4 129),Fs 11 131 (Fa 2 8),Fs 12 132 (Ld 131),Fm 13 133 11,Fs 14 134 (Ia 4 132 133),Fs 15 135 (Lt 4 134),Fs 16 136 (Ia 4 121 122),Fr 17 4 136 130,Fs 18 137 (Ia 4 124 125),Fr 19 4 137 135]
def JT:List RI:=[oo 139 (Bc .eql 53 3) [53],omk 138 139]
def JS:List FI:=[Fs 0 140 (.lit 4 []),Fs 1 141 (Fa 2 8),Fs 2 142 (Ld 141),Fm 3 143 11,Fs 4 144 (.slcL 4 (.t 142) none (some (.t 143)) none),Fm 6 146 7,Fm 7 147 1,Fs 11 151 (Fa 2 8),Fs 12 152 (Ld 151),Fm 13 153 11,Fs 14 154 (.slcL 4 (.t 152) (some (.t 153)) none none),Fz 5 145 (.app Zq0 64 (.t 140) (.t 144)),Fz 8 148 (Ca 38 [.t 146,.t 147]),Fs 9 149 (.lit 4 [.t 148]),Fz 10 150 (.app Zq0 64 (.t 145) (.t 149)),Fz 15 155 (.app Zq0 64 (.t 150) (.t 154)),Fs 16 156 (Fa 2 8),Fr 17 1 156 155]
def JR:List FI:=[Fs 0 54 (.lit 4 []),Fs 1 55 (Fa 2 8),Fs 2 56 (Ld 55),Fm 3 57 11,Fs 4 58 (.slcL 4 (.t 56) none (some (.t 57)) none),Fm 6 60 1,Fs 12 66 (Fa 2 8),Fs 13 67 (Ld 66),Fm 14 68 11,Fs 15 69 (.slcL 4 (.t 67) (some (.t 68)) none none),Fz 5 59 (.app Zq0 64 (.t 54) (.t 58)),Fz 7 61 (.newB [(.c (.u8 110)),(.c (.u8 111)),(.c (.u8 116)),(.c (.u8 101))]),Fz 8 62 (.slid (.t 61)),Fz 9 63 (Ca 76 [ci 3,ci 5,.t 60,.t 62]),Fs 10 64 (.lit 4 [.t 63]),Fz 11 65 (.app Zq0 64 (.t 59) (.t 64)),Fz 16 70 (.app Zq0 64 (.t 65) (.t 69)),Fs 17 71 (Fa 2 8),Fr 18 1 71 70]
def JQ:List RI:=[omk 45 10,oo 46 (Bc .sub 45 1) [45],omk 10 46]
def zO:RC:=(.post (Sq (So YH (Kc 44 (Kk [44] .skip) (Kk [1,7,10,44] (.exit 0)))) (Sq (Bk 1 (So J3 (So J2 (Bk 2 (So J1 (Kc 72 (Kk [53,72] (.flt [0,0,2,0,14,31,0,64,0,256,960,2047,4095,8191] [179,185] J0 [11,74,75,76,77,78,79,80,81,82,83,84,85,86])) (Kk [72] (So JZ (Kc 87 (Kk [53,87] (.flt [0,0,2,0,14,31,0,64,0,448,960,1984,4095,0,8192,0,57344,131071,262143,524287] [194,201,206] JY [11,89,90,91,92,93,94,95,96,97,98,99,100,101,102,103,104,105,106,107])) (Kk [87] (So JX (Kc 108 (Kk [53,108] (So JW (So JV (.flt [0,1,0,0,8,0,0,64,0,448,960,0,2048,0,14336,30720,65479,131015,262143,524287] [] JU [11,12,120,121,122,123,124,125,126,127,128,129,130,131,132,133,134,135,136,137])))) (Kk [108] (So JT (Kc 138 (Kk [138] (.flt [0,0,2,0,14,31,0,0,255,511,1023,0,2048,0,14336,32767,65535,131071] [245,250,255] JS [11,140,141,142,143,144,145,146,147,148,149,150,151,152,153,154,155,156])) (Kk [138] (.fla [0,0,2,0,14,31,0,0,128,511,1023,2047,0,4096,0,28672,65535,131071,262143] [159,161,165,170] JR [[0,1,2,3,4,6,12,13,14,15,5,7,8,9,10,11,16,17,18],[0,1,2,3,4,6,12,13,14,15,7,5,8,9,10,11,16,17,18],[0,1,2,3,4,6,12,13,14,15,7,8,5,9,10,11,16,17,18]] [11,54,55,56,57,58,59,60,61,62,63,64,65,66,67,68,69,70,71]))))))))))))))))) (.ops JQ))) [.pubo 218,.gc [159,165,170,179,185,194,201,206,218,245,250,255]])
def yL:RC:=zO
def JP:List RI:=[oo 157 (Lt 3 8) [8],Sr 3 6 157 [157]]
def r36:RC:=(So YQ (So YP (So YO (Sq (So YN (Kc 21 (Kk [21] (So YM (So YL .ret))) (Kk [21] .skip))) (Sq (.flt [0,1,3,7,0,16,48,112,255,511,1023] [] YK [27,28,29,30,31,32,33,34,35,36]) (So YJ (Sq (So YI (Bk 0 (.loop yL))) (So JP .ret))))))))
def F36:FnC:=⟨r36,158,[.cell 6 3 true],[],[]⟩
def YG:List FI:=[Fm 0 5 0,Fs 1 6 (.nchk (.t 5)),Fs 2 7 (Fa 1 6),Fs 3 8 (Ld 7),Fm 4 9 0,Fs 5 10 (.nchk (.t 9)),Fs 6 11 (Fa 0 10),Fs 7 12 (Ld 11),Fs 8 13 (Ln 12),Fs 9 14 (Bb .geq 8 13)]
def YF:List RI:=[om 15 0,on 16 (.nchk (.t 15)),oo 17 (Fa 1 16) [16],oo 18 (Ld 17) [17],oo 19 (Bc .add 18 1) [18],oo 20 (.nchk (.t 15)) [15],oo 21 (Fa 1 20) [20],Sr 1 21 19 [19,21]]
def YE:List FI:=[Fm 0 22 0,Fs 1 23 (.nchk (.t 22)),Fs 2 24 (Fa 0 23),Fs 3 25 (Ld 24),Fm 4 26 0,Fs 5 27 (.nchk (.t 26)),Fs 6 28 (Fa 1 27),Fs 7 29 (Ld 28),Fs 8 30 (Bc .sub 29 1),Fs 9 31 (Ia 1 25 30),Fs 10 32 (Ld 31),Fs 11 33 (.toInt .i64 (.t 32)),Fm 12 34 1,Fs 13 35 (Bb .rem 33 34),Fm 14 4 35]
def r37:RC:=(So rt (Sq (Sq (.flt [0,1,3,7,0,16,48,112,240,511] [] YG [5,6,7,8,9,10,11,12,13]) (Kc 14 (Kk [0,1,14] (So rq .ret)) (Kk [14] .skip))) (So YF (Sq (.flt [0,1,3,7,0,16,48,112,240,511,1023,2047,0,8191,16383] [] YE [0,1,22,23,24,25,26,27,28,29,30,31,32,33,34,35]) .ret))))
def F37:FnC:=⟨r37,36,[.tmp 4],[],[]⟩
def YD:List RI:=[on 4 (.new (.rc Zq0))]
def YC:List RI:=[om 9 0,oo 10 (Ca 86 [.t 9]) [9],omk 5 10]
def YB:List RI:=[om 11 0,oo 12 (Ca 37 [.t 11,ci 4]) [11],oo 13 (Bc .eql 12 3) [12]]
def YA:List RI:=[omk 14 5,om 15 0,oo 16 (Ca 37 [.t 15,ci 2]) [15],oo 17 (.slcL 1 (.t 14) none (some (.t 16)) none) [14,16],omk 5 17]
def Yz:List RI:=[om 18 0,oo 19 (Ca 37 [.t 18,ci 5]) [18],oo 20 (.bin .add (ci 1) (.t 19)) [19],omk 6 20]
def Yy:List RI:=[on 21 (.lit 1 [ci 0,ci 0,ci 4,ci 8,ci 9,ci 9,ci 1,ci 11]),om 22 0,oo 23 (Ca 37 [.t 22,ci 8]) [22],oo 24 (Ia 1 21 23) [21,23],oo 25 (Ld 24) [24],omk 7 25]
def Yx:List RI:=[om 26 6,oo 27 (Bc .eql 26 2) [26],omk 28 27,.grp 28 true [(xi 29 28 true (Mv 0)),(xi 30 28 true (Ca 37 [.t 29,ci 4])),(xi 31 28 true (Bc .gtr 30 0))] [29,30],oo 32 (Pf 28 31) [28,31]]
def Yw:List RI:=[on 33 (.litB [(.c (.u8 0)),(.c (.u8 0)),(.c (.u8 0)),(.c (.u8 0))]),omk 5 33]
def Yv:List RI:=[om 34 0,oo 35 (Ca 37 [.t 34,ci 8]) [34],omk 7 35]
def Yu:List RI:=[omk 36 7,om 37 6,om 38 1,omk 39 5,oo 40 (Ca 76 [.t 36,.t 37,.t 38,.t 39]) [36,37,38,39],on 8 (.new (.rc Zq0)),Sr 4 8 40 [40]]
def JO:List RI:=[om 41 6,oo 42 (Bc .neq 41 5) [41],omk 43 42,.grp 43 true [(xi 44 43 true (Mv 0)),(xi 45 43 true (Ca 37 [.t 44,ci 4])),(xi 46 43 true (Bc .eql 45 3))] [44,45],oo 47 (Pf 43 46) [43,46]]
def JN:List RI:=[omk 48 1,omk 49 0,oo 50 (Ca 37 [.t 49,ci 4]) [49],oo 51 (.toInt .u8 (.t 50)) [50],omk 52 6,oo 53 (.toInt .u8 (.t 52)) [52],oo 54 (.litB [.t 51,.t 53]) [51,53],oo 55 (Ca 87 [.t 48,.t 54]) [48,54],on 56 (Fa 2 8),Sr 1 56 55 [55,56]]
def JM:List RI:=[oo 57 (Lt 4 8) [8],Sr 4 4 57 [57]]
def r38:RC:=(So YD (So YC (Sq (So YB (Kc 13 (Kk [13] (.ops YA)) (Kk [13] .skip))) (So Yz (So Yy (Sq (So Yx (Kc 32 (Kk [5,7,32] (So Yw (.ops Yv))) (Kk [32] .skip))) (So Yu (Sq (So JO (Kc 47 (Kk [47] (.ops JN)) (Kk [0,1,6,47] .skip))) (So JM .ret)))))))))
def F38:FnC:=⟨r38,58,[.cell 4 4 true],[],[]⟩
def Yt:List RI:=[oo 3 (.box (.t 1)) [1],oo 4 (Mb false) [4]]
def Ys:List RI:=[on 6 (Fa 1 3),oo 7 (Ld 6) [6],oo 8 (Bc .eql 7 5) [7]]
def Yr:List RI:=[on 9 (Lt 4 3),oo 10 (Ca 88 [.t 9]) [9],omk 5 10]
def Yq:List RI:=[om 12 5,oo 13 (Bc .eql 12 0) [12],omk 14 13,.grp 14 false [(xi 15 14 false (Mv 5)),(xi 16 14 false (Mv 0)),(xi 17 14 false (.nchk (.t 16))),(xi 18 14 false (Fa 0 17)),(xi 19 14 false (Ld 18)),(xi 20 14 false (Bb .lss 15 19))] [15,16,17,18,19],oo 21 (Pt 14 20) [14,20],omk 22 21,.grp 22 false [(xi 23 22 false (Mv 5)),(xi 24 22 false (Bc .gtr 23 1)),(xi 25 22 false (Mv 24))] [23,24],.grp 25 true [(xi 26 25 true (Mv 0)),(xi 27 25 true (.nchk (.t 26))),(xi 28 25 true (Fa 2 27)),(xi 29 25 true (.iaddrA 6 1 (.t 28) (ci 1))),(xi 30 25 true (Ld 29)),(xi 31 25 true (.un .not (.t 30)))] [26,27,28,29,30],.grp 22 false [(xi 32 22 false (Pf 25 31))] [25,31],oo 33 (Pt 22 32) [22,32],omk 11 33]
def Yp:List FI:=[Fm 0 35 5,Fs 1 36 (Bc .eql 35 3),Fm 2 37 36,Fi 3 38 37 true (Fa 0 3),Fi 4 39 37 true (Ld 38),Fi 5 40 37 true (Mv 0),Fi 6 41 37 true (.nchk (.t 40)),Fi 7 42 37 true (Fa 1 41),Fi 8 43 37 true (Ld 42),Fi 9 44 37 true (Bb .neq 39 43),Fs 10 45 (Pf 37 44),Fm 11 34 45]
def Yo:List RI:=[om 47 5,oo 48 (Bc .gtr 47 3) [47],omk 49 48,.grp 49 true [(xi 50 49 true (Mv 0)),(xi 51 49 true (.nchk (.t 50))),(xi 52 49 true (Fa 1 51)),(xi 53 49 true (Ld 52)),(xi 54 49 true (Bc .neq 53 8))] [50,51,52,53],oo 55 (Pf 49 54) [49,54],omk 46 55]
def JL:List RI:=[om 56 5,oo 57 (Bc .eql 56 3) [56]]
def JK:List RI:=[om 58 0,on 59 (.nchk (.t 58)),oo 60 (Fa 1 59) [59],oo 61 (Ld 60) [60],oo 62 (Bc .add 61 1) [61],oo 63 (.nchk (.t 58)) [58],oo 64 (Fa 1 63) [63],Sr 1 64 62 [62,64]]
def JJ:List FI:=[Fm 0 65 0,Fm 1 66 0,Fm 2 67 5,Fm 3 68 5,Fs 4 69 (.nchk (.t 65)),Fs 5 70 (Fa 0 69),Fs 7 71 (.nchk (.t 66)),Fs 8 72 (Fa 2 71),Fr 6 1 70 68,Fs 9 73 (.iaddrA 6 1 (.t 72) (.t 67)),⟨10,false,⟨none,none,.store 1 (.t 73) (.c (.bool true))⟩⟩]
def r39:RC:=(So Yt (Sq (So Ys (Kc 8 (Kk [0,3,8] (So pd .ret)) (Kk [8] .skip))) (So Yr (Sq (Bk 0 (So Yq (Kc 11 (Kk [0,3,5,11] (So iV .ret)) (Kk [11] (Sq (.flt [0,1,3,7,15,7,39,103,231,511,1023,2047] [] Yp [3,35,36,37,38,39,40,41,42,43,44,45]) (Kc 34 (Kk [0,5,34] (So iV .ret)) (Kk [34] (So Yo (Kc 46 (Kk [0,5,46] (So iV .ret)) (Kk [46] .skip)))))))))) (Sq (So JL (Kc 57 (Kk [57] (.ops JK)) (Kk [57] .skip))) (Sq (.flt [0,0,0,0,9,25,57,2,130,511,1023] [] JJ [0,5,65,66,67,68,69,70,71,72,73]) (So pd .ret)))))))
def F39:FnC:=⟨r39,74,[.tmp 4],[],[]⟩
def PV:List RI:=[oo 2 (.box (.t 0)) [0],on 4 (.new (.rc [.int .i64 0,.int .i64 0])),oo 5 (Mb false) [5]]
def Yn:List RI:=[on 9 (Fa 1 2),oo 10 (Ld 9) [9],oo 11 (Bc .eql 10 5) [10],omk 12 11,.grp 12 false [(xi 13 12 false (Fa 1 2)),(xi 14 12 false (Ld 13)),(xi 15 12 false (Bc .eql 14 2)),(xi 16 12 false (Mv 15))] [13,14,15],.grp 16 true [(xi 17 16 true (Lt 4 2)),(xi 18 16 true (Ca 50 [.t 17]))] [17],.grp 12 false [(xi 19 12 false (Pf 16 18))] [16,18],oo 20 (Pt 12 19) [12,19]]
def Ym:List RI:=[on 21 (.build [.int .i64 0,.int .i64 0] [(0,1,(ci (-1))),(1,1,(ci (-1)))]),Sr 2 4 21 [21],on 5 (Mb true)]
def Yl:List RI:=[omk 22 1,on 23 (Ln 22),on 24 (Mc 0)]
def Yk:List RI:=[on 25 (Bb .lss 24 23)]
def Yj:List RI:=[om 26 24,on 27 (Ia 7 22 24),oo 28 (Lt 7 27) [27],on 7 (.new (.rc Zq2)),omk 6 26,Sr 7 7 28 [28]]
def Yi:List RI:=[oo 29 (Lt 7 7) [7],on 30 (Lt 4 2),oo 31 (Ca 15 [.t 29,.t 30]) [29,30],omk 8 31]
def Yh:List RI:=[om 32 8,oo 33 (Bc .geq 32 0) [32]]
def Yg:List RI:=[omk 34 6,omk 35 8,oo 36 (.build [.int .i64 0,.int .i64 0] [(0,1,(.t 34)),(1,1,(.t 35))]) [34,35],Sr 2 4 36 [36],on 5 (Mb true)]
def Yf:List RI:=[oo 37 (Bc .add 24 1) [24],omk 24 37]
def zN:RC:=(.post (So Yk (Sq (Kc 25 (Kk [25] .skip) (Kk [2,22,23,24,25] (.exit 0))) (Sq (Bk 1 (So Yj (So Yi (So Yh (Kc 33 (Kk [2,22,23,24,33] (So Yg .ret)) (Kk [6,8,33] .skip)))))) (.ops Yf)))) [.gc [107]])
def uo:RC:=zN
def yK:List RI:=[on 38 (.build [.int .i64 0,.int .i64 0] []),Sr 2 4 38 [38],on 5 (Mb false)]
def r40:RC:=(So PV (Sq (So Yn (Kc 20 (Kk [1,2,20] (So Ym .ret)) (Kk [20] .skip))) (Sq (So Yl (Bk 0 (.loop uo))) (So yK .ret))))
def F40:FnC:=⟨r40,39,[.cell 4 2 true,.tmp 5],[],[]⟩
def Ye:List RI:=[on 8 (Fa 1 2),oo 9 (Ld 8) [8],oo 10 (Bc .eql 9 5) [9],omk 11 10,.grp 11 false [(xi 12 11 false (Fa 1 2)),(xi 13 11 false (Ld 12)),(xi 14 11 false (Bc .eql 13 2)),(xi 15 11 false (Mv 14))] [12,13,14],.grp 15 true [(xi 16 15 true (Lt 4 2)),(xi 17 15 true (Ca 57 [.t 16]))] [16],.grp 11 false [(xi 18 11 false (Pf 15 17))] [15,17],oo 19 (Pt 11 18) [11,18]]
def Yd:List RI:=[on 20 (.build [.int .i64 0,.int .i64 0] [(0,1,(ci (-1))),(1,1,(ci (-1)))]),Sr 2 4 20 [20],on 5 (Mb true)]
def Yc:List RI:=[om 21 6,om 22 1,oo 23 (Ln 22) [22],oo 24 (Bb .lss 21 23) [21,23]]
def Yb:List FI:=[Fm 0 27 1,Fm 1 28 6,Fs 2 29 (Ia 7 27 28),Fs 3 30 (Lt 7 29),Fs 4 31 (Lt 4 2),Fz 5 32 (Ca 19 [.t 30,.t 31]),Fm 6 7 32]
def Ya:List RI:=[om 33 7,oo 34 (Bc .geq 33 0) [33]]
def X9:List RI:=[omk 35 6,omk 36 7,oo 37 (.build [.int .i64 0,.int .i64 0] [(0,1,(.t 35)),(1,1,(.t 36))]) [35,36],Sr 2 4 37 [37],on 5 (Mb true)]
def X8:List RI:=[omk 25 6,oo 26 (Bc .add 25 1) [25],omk 6 26]
def QA:RC:=(Sq (So Yc (Kc 24 (Kk [24] .skip) (Kk [1,2,6,24] (.exit 0)))) (Sq (Bk 1 (Sq (.flt [0,0,3,7,0,31,63] [] Yb [27,28,29,30,31,32]) (So Ya (Kc 34 (Kk [1,2,34] (So X9 .ret)) (Kk [7,34] .skip))))) (.ops X8)))
def EO:RC:=QA
def r41:RC:=(So PV (Sq (So Ye (Kc 19 (Kk [1,2,19] (So Yd .ret)) (Kk [19] .skip))) (Sq (So lI (Bk 0 (.loop EO))) (So yK .ret))))
def F41:FnC:=⟨r41,39,[.cell 4 2 true,.tmp 5],[],[]⟩
def oy:List RI:=[oo 1 (.box (.t 0)) [0],oo 2 (Mc 0) [2]]
def X7:List RI:=[on 4 (Fa 1 1),oo 5 (Ld 4) [4],oo 6 (Bc .eql 5 5) [5],omk 3 6]
def jM:List RI:=[on 2 (Mc 0)]
def X6:List RI:=[on 8 (Fa 1 1),oo 9 (Ld 8) [8],oo 10 (Bc .eql 9 1) [9],omk 11 10,.grp 11 true [(xi 12 11 true (Fa 0 1)),(xi 13 11 true (Ld 12)),(xi 14 11 true (Bc .eql 13 0))] [12,13],oo 15 (Pf 11 14) [11,14],omk 7 15]
def fL:List RI:=[on 2 (Mc 1)]
def X5:List RI:=[on 17 (Fa 1 1),oo 18 (Ld 17) [17],oo 19 (Bc .eql 18 1) [18],omk 20 19,.grp 20 true [(xi 21 20 true (Fa 0 1)),(xi 22 20 true (Ld 21)),(xi 23 20 true (Bc .eql 22 4))] [21,22],oo 24 (Pf 20 23) [20,23],omk 16 24]
def PU:List RI:=[on 2 (Mc 2)]
def X4:List RI:=[on 26 (Fa 1 1),oo 27 (Ld 26) [26],oo 28 (Bc .eql 27 2) [27],omk 29 28,.grp 29 true [(xi 30 29 true (Fa 0 1)),(xi 31 29 true (Ld 30)),(xi 32 29 true (Bc .leq 31 7))] [30,31],oo 33 (Pf 29 32) [29,32],omk 25 33]
def PT:List RI:=[on 2 (Mc 3)]
def X3:List RI:=[on 35 (Fa 1 1),oo 36 (Ld 35) [35],oo 37 (Bc .eql 36 1) [36],omk 38 37,.grp 38 true [(xi 39 38 true (Fa 0 1)),(xi 40 38 true (Ld 39)),(xi 41 38 true (Bc .eql 40 8))] [39,40],oo 42 (Pf 38 41) [38,41],omk 34 42]
def jb:List RI:=[on 2 (Mc 4)]
def JI:List RI:=[on 44 (Fa 1 1),oo 45 (Ld 44) [44],oo 46 (Bc .eql 45 3) [45],omk 47 46,.grp 47 true [(xi 48 47 true (Fa 0 1)),(xi 49 47 true (Ld 48)),(xi 50 47 true (Bc .eql 49 9))] [1,48,49],oo 51 (Pf 47 50) [47,50],omk 43 51]
def yJ:List RI:=[on 2 (Mc 5)]
def oH:List RI:=[on 2 (Mc (-1))]
def r42:RC:=(So oy (Sq (Bk 0 (So X7 (Kc 3 (Kk [1,3] (So jM .ret)) (Kk [3] (So X6 (Kc 7 (Kk [1,7] (So fL .ret)) (Kk [7] (So X5 (Kc 16 (Kk [1,16] (So PU .ret)) (Kk [16] (So X4 (Kc 25 (Kk [1,25] (So PT .ret)) (Kk [25] (So X3 (Kc 34 (Kk [1,34] (So jb .ret)) (Kk [34] (So JI (Kc 43 (Kk [43] (So yJ .ret)) (Kk [43] .skip))))))))))))))))))) (So oH .ret)))
def F42:FnC:=⟨r42,52,[.tmp 2],[],[]⟩
def X2:List FI:=[Fm 0 17 0,Fm 1 18 5,Fs 2 19 (Ia 2 17 18),Fs 3 20 (Lt 2 19),Fm 4 21 1,Fm 5 22 5,Fs 6 23 (Ia 2 21 22),Fs 7 24 (Lt 2 23),Fs 8 25 (.eqS true [1,1] (.t 20) (.t 24))]
def Qz:RC:=(Sq (So ES (Kc 14 (Kk [14] .skip) (Kk [0,1,5,14] (.exit 0)))) (Sq (Bk 1 (Sq (.flt [0,0,3,7,0,0,48,112,255] [] X2 [17,18,19,20,21,22,23,24]) (Kc 25 (Kk [0,1,5,25] (So iV .ret)) (Kk [25] .skip)))) (.ops ER)))
def PS:RC:=Qz
def r43:RC:=(So lJ (Sq (So ET (Kc 10 (Kk [0,1,10] (So iV .ret)) (Kk [10] .skip))) (Sq (So mz (Bk 0 (.loop PS))) (So pd .ret))))
def F43:FnC:=⟨r43,26,[.tmp 4],[],[]⟩
def X1:List RI:=[on 9 (Fa 0 1),oo 10 (Ld 9) [9],oo 11 (Ca 89 [.t 10]) [10],oo 12 (.un .not (.t 11)) [11],omk 8 12]
def rp:List RI:=[on 2 (Mc 43)]
def X0:List RI:=[on 14 (Fa 2 1),oo 15 (Ld 14) [14],oo 16 (Bc .lss 15 0) [15],omk 17 16,.grp 17 false [(xi 18 17 false (Fa 2 1)),(xi 19 17 false (Ld 18)),(xi 20 17 false (Fa 1 1)),(xi 21 17 false (Ld 20)),(xi 22 17 false (Bb .gtr 19 21))] [18,19,20,21],oo 23 (Pt 17 22) [17,22],omk 24 23,.grp 24 false [(xi 25 24 false (Fa 1 1)),(xi 26 24 false (Ld 25)),(xi 27 24 false (Bc .gtr 26 1000000))] [25,26],oo 28 (Pt 24 27) [24,27],omk 29 28,.grp 29 false [(xi 30 29 false (Fa 3 1)),(xi 31 29 false (Ld 30)),(xi 32 29 false (Bc .lss 31 0))] [30,31],oo 33 (Pt 29 32) [29,32],omk 34 33,.grp 34 false [(xi 35 34 false (Fa 3 1)),(xi 36 34 false (Ld 35)),(xi 37 34 false (Fa 4 1)),(xi 38 34 false (Ld 37)),(xi 39 34 false (Bb .geq 36 38))] [35,36,37,38],oo 40 (Pt 34 39) [34,39],omk 41 40,.grp 41 false [(xi 42 41 false (Fa 4 1)),(xi 43 41 false (Ld 42)),(xi 44 41 false (Bc .gtr 43 1099511627776))] [42,43],oo 45 (Pt 41 44) [41,44],omk 13 45]
def XZ:List RI:=[on 47 (Fa 5 1),oo 48 (Ld 47) [47],oo 49 (Ln 48) [48],oo 50 (Bc .gtr 49 16) [49],omk 51 50,.grp 51 false [(xi 52 51 false (Fa 6 1)),(xi 53 51 false (Ld 52)),(xi 54 51 false (Ln 53)),(xi 55 51 false (Bc .gtr 54 8))] [52,53,54],oo 56 (Pt 51 55) [51,55],omk 46 56]
def XY:List RI:=[on 57 (Fa 5 1),oo 58 (Ld 57) [57],on 59 (Ln 58),on 60 (Mc 0)]
def XX:List RI:=[on 61 (Bb .lss 60 59)]
def XW:List RI:=[om 62 60,on 63 (Ia 4 58 60),oo 64 (Lt 4 63) [63],on 4 (.new (.rc Zq1)),omk 3 62,Sr 4 4 64 [64]]
def JH:List RI:=[on 66 (Fa 0 4),oo 67 (Ld 66) [66],oo 68 (Bc .lss 67 1) [67],omk 69 68,.grp 69 false [(xi 70 69 false (Fa 0 4)),(xi 71 69 false (Ld 70)),(xi 72 69 false (Bc .gtr 71 3))] [70,71],oo 73 (Pt 69 72) [69,72],omk 74 73,.grp 74 false [(xi 75 74 false (Fa 2 4)),(xi 76 74 false (Ld 75)),(xi 77 74 false (Bc .lss 76 0))] [75,76],oo 78 (Pt 74 77) [74,77],omk 79 78,.grp 79 false [(xi 80 79 false (Fa 2 4)),(xi 81 79 false (Ld 80)),(xi 82 79 false (Bc .gtr 81 1000000))] [80,81],oo 83 (Pt 79 82) [79,82],omk 84 83,.grp 84 false [(xi 85 84 false (Fa 3 4)),(xi 86 84 false (Ld 85)),(xi 87 84 false (Ln 86)),(xi 88 84 false (Bc .neq 87 32))] [85,86,87],oo 89 (Pt 84 88) [84,88],omk 65 89]
def JG:List RI:=[on 91 (Fa 1 4),oo 92 (Ld 91) [91],oo 93 (Ca 89 [.t 92]) [92],oo 94 (.un .not (.t 93)) [93],omk 90 94]
def JF:List FI:=[Fm 0 96 3,Fs 1 97 (Bc .gtr 96 0),Fm 2 98 97,Fi 3 99 98 true (Fa 5 1),Fi 4 100 98 true (Ld 99),Fi 5 101 98 true (Mv 3),Fi 6 102 98 true (Bc .sub 101 1),Fi 7 103 98 true (Ia 4 100 102),Fi 8 104 98 true (Lt 4 103),Fi 9 105 98 true (Lt 4 4),Fy 10 106 98 true (Ca 72 [.t 104,.t 105]),Fi 11 107 98 true (Bc .geq 106 0),Fs 12 108 (Pf 98 107),Fm 13 95 108]
def um:List RI:=[on 2 (Mc 41)]
def JE:List RI:=[oo 109 (Bc .add 60 1) [60],omk 60 109]
def zM:RC:=(.post (So XX (Sq (Kc 61 (Kk [61] .skip) (Kk [58,59,60,61] (.exit 1))) (Sq (Bk 2 (So XW (Bk 3 (So JH (Kc 65 (Kk [1,3,4,58,59,60,65] (So fL .ret)) (Kk [65] (So JG (Kc 90 (Kk [1,3,4,58,59,60,90] (So rp .ret)) (Kk [90] (Sq (.flt [0,1,3,7,15,7,39,127,255,7,1023,2047,4095,8191] [] JF [3,4,96,97,98,99,100,101,102,103,104,105,106,107,108]) (Kc 95 (Kk [1,58,59,60,95] (So um .ret)) (Kk [95] .skip)))))))))))) (.ops JE)))) [.gc [104]])
def l6:RC:=zM
def JD:List RI:=[oo 110 (Fa 6 1) [1],oo 111 (Ld 110) [110],on 112 (Ln 111),on 113 (Mc 0)]
def JC:List RI:=[on 114 (Bb .lss 113 112)]
def JB:List RI:=[on 115 (Ia 4 111 113),oo 116 (Lt 4 115) [115],on 6 (.new (.rc Zq4)),Sr 4 6 116 [116]]
def JA:List RI:=[oo 117 (Lt 4 6) [6],oo 118 (Ca 90 [.t 117]) [117],omk 7 118]
def Jz:List RI:=[om 119 7,oo 120 (Bc .neq 119 0) [119]]
def Jy:List RI:=[omk 121 7,omk 2 121]
def Jx:List RI:=[oo 122 (Bc .add 113 1) [113],omk 113 122]
def zL:RC:=(.post (So JC (Sq (Kc 114 (Kk [114] .skip) (Kk [111,112,113,114] (.exit 4))) (Sq (Bk 5 (So JB (So JA (So Jz (Kc 120 (Kk [111,112,113,120] (So Jy .ret)) (Kk [7,120] .skip)))))) (.ops Jx)))) [.gc [106]])
def ul:RC:=zL
def r44:RC:=(So oy (Sq (Bk 0 (So X1 (Kc 8 (Kk [1,8] (So rp .ret)) (Kk [8] (So X0 (Kc 13 (Kk [1,13] (So fL .ret)) (Kk [13] (So XZ (Kc 46 (Kk [1,46] (So jb .ret)) (Kk [46] .skip)))))))))) (Sq (So XY (Bk 1 (.loop l6))) (Sq (So JD (Bk 4 (.loop ul))) (So jM .ret)))))
def F44:FnC:=⟨r44,123,[.tmp 2],[],[]⟩
def PR:List RI:=[om 6 0,oo 7 (Ln 6) [6],on 8 (Mc 0)]
def EN:List RI:=[on 9 (Bb .lss 8 7)]
def PQ:List RI:=[om 10 8,omk 5 10]
def PP:List RI:=[om 11 1,om 12 0,om 13 5,oo 14 (Ia 4 12 13) [12,13],oo 15 (Lt 4 14) [14],oo 16 (.call (.t 11) [.t 15]) [11,15]]
def PO:List RI:=[omk 17 5,omk 4 17]
def PN:List RI:=[oo 18 (Bc .add 8 1) [8],omk 8 18]
def Qy:RC:=(So EN (Sq (Kc 9 (Kk [9] .skip) (Kk [0,1,7,8,9] (.exit 0))) (Sq (Bk 1 (So PQ (So PP (Kc 16 (Kk [0,1,7,8,16] (So PO .ret)) (Kk [5,16] .skip))))) (.ops PN))))
def PM:RC:=Qy
def r45:RC:=(So rt (Sq (So PR (Bk 0 (.loop PM))) (So mC .ret)))
def F45:FnC:=⟨r45,19,[.tmp 4],[],[]⟩
def PL:List RI:=[oo 2 (.box (.t 0)) [0],oo 3 (Mb false) [3]]
def XV:List FI:=[Fs 0 4 (Fa 0 1),Fs 1 5 (Ld 4),Fs 2 6 (Fa 0 2),Fs 3 7 (Ld 6),Fz 4 8 (Ca 47 [.t 7]),Fs 5 9 (Bb .eql 5 8),Fm 6 10 9,Fi 7 11 10 true (Fa 2 1),Fi 8 12 10 true (Ld 11),Fi 9 13 10 true (Ln 12),Fi 10 14 10 true (Bc .gtr 13 1),Fs 11 15 (Pf 10 14),Fm 12 16 15,Fi 13 17 16 true (Fa 2 1),Fi 14 18 16 true (Ld 17),Fi 15 19 16 true (.iaddrL 1 (.t 18) (ci 1)),Fi 16 20 16 true (Ld 19),Fi 17 21 16 true (Fa 3 2),Fi 18 22 16 true (Ld 21),Fy 19 23 16 true (Ca 48 [.t 20,.t 22]),Fs 20 24 (Pf 16 23),Fm 21 25 24,Fi 22 26 25 true (Fa 3 1),Fi 23 27 25 true (Ld 26),Fi 24 28 25 true (.b2s (.t 27)),Fi 25 29 25 true (Fa 1 2),Fi 26 30 25 true (Ld 29),Fi 27 31 25 true (.bin .add (.t 30) (.c (.str [32]))),Fi 28 32 25 true (Fa 2 2),Fi 29 33 25 true (Ld 32),Fy 30 34 25 true (Ca 49 [.t 33]),Fi 31 35 25 true (Bb .add 31 34),Fi 32 36 25 true (Bb .eql 28 35),Fs 33 37 (Pf 25 36),Fm 34 3 37]
def r46:RC:=(So PL (Sq (.flt [0,1,0,4,12,31,63,127,255,511,1023,2047,4095,8191,16383,32767,65535,8191,139263,524287,1048575,2097151,4194303,8388607,16777215,4194303,37748735,104857599,4194303,272629759,809500671,2118123519,4294967295,8589934591,17179869183] [] XV [1,2,4,5,6,7,8,9,10,11,12,13,14,15,16,17,18,19,20,21,22,23,24,25,26,27,28,29,30,31,32,33,34,35,36,37]) .ret))
def F46:FnC:=⟨r46,38,[.tmp 3],[],[]⟩
def XU:List RI:=[om 3 0,oo 4 (Bc .lss 3 0) [3],omk 5 4,.grp 5 false [(xi 6 5 false (Mv 0)),(xi 7 5 false (Bc .geq 6 5))] [6],oo 8 (Pt 5 7) [5,7]]
def XT:List RI:=[omk 9 0,oo 10 (.iaddrA 5 1 (.c (.pp pD)) (.t 9)) [9],oo 11 (Ld 10) [10],omk 2 11]
def r47:RC:=(So my (Sq (So XU (Kc 8 (Kk [0,8] (So oH .ret)) (Kk [8] .skip))) (So XT .ret)))
def F47:FnC:=⟨r47,12,[.tmp 2],[],[]⟩
def XS:List RI:=[omk 5 0,oo 6 (.b2s (.t 5)) [5],omk 7 1,oo 8 (.b2s (.t 7)) [7],oo 9 (Bb .eql 6 8) [6,8],omk 4 9]
def r48:RC:=(So lJ (So XS .ret))
def F48:FnC:=⟨r48,10,[.tmp 4],[],[]⟩
def EM:List RI:=[oo 2 (.mov (.c (.str []))) [2]]
def XR:List RI:=[omk 3 0,oo 4 (Ca 91 [.t 3]) [3],omk 2 4]
def r49:RC:=(So EM (So XR .ret))
def F49:FnC:=⟨r49,5,[.tmp 2],[],[]⟩
def PK:List RI:=[oo 1 (.box (.t 0)) [0],oo 2 (Mb false) [2]]
def XQ:List RI:=[on 8 (Fa 1 1),oo 9 (Ld 8) [8],oo 10 (Bc .neq 9 1) [9],omk 11 10,.grp 11 true [(xi 12 11 true (Fa 1 1)),(xi 13 11 true (Ld 12)),(xi 14 11 true (Bc .neq 13 5))] [12,13],oo 15 (Pf 11 14) [11,14],omk 3 15]
def XP:List RI:=[on 16 (Fa 1 1),oo 17 (Ld 16) [16]]
def XO:List RI:=[on 19 (Bc .eql 17 1),omk 18 19]
def uk:List RI:=[on 2 (Mb true)]
def XN:List RI:=[on 21 (Bc .eql 17 2),omk 20 21]
def XM:List FI:=[Fs 0 22 (Fa 3 1),Fs 1 23 (Ld 22),Fz 2 24 (.mkB (ci 4) (ci 4)),Fz 3 25 (Ca 48 [.t 23,.t 24]),Fs 4 26 (.un .not (.t 25))]
def kL:List RI:=[on 2 (Mb false)]
def XL:List RI:=[on 28 (Bc .eql 17 3),omk 27 28]
def XK:List RI:=[on 29 (Fa 3 1),oo 30 (Ld 29) [29],oo 31 (Ln 30) [30],oo 32 (Bc .eql 31 0) [31]]
def Jw:List RI:=[on 33 (Fa 3 1),oo 34 (Ld 33) [33],on 35 (Ln 34),on 36 (Mc 0)]
def Jv:List RI:=[on 37 (Bb .lss 36 35)]
def Ju:List RI:=[on 38 (Ia 1 34 36),oo 39 (Ld 38) [38],omk 5 39]
def Jt:List RI:=[om 40 5,oo 41 (.bin .lss (.t 40) (.c (.u8 32))) [40],omk 42 41,.grp 42 false [(xi 43 42 false (Mv 5)),(xi 44 42 false (.bin .gtr (.t 43) (.c (.u8 126))))] [5,43],oo 45 (Pt 42 44) [42,44]]
def Js:List RI:=[oo 46 (Bc .add 36 1) [36],omk 36 46]
def zK:RC:=(So Jv (Sq (Kc 37 (Kk [37] .skip) (Kk [34,35,36,37] (.exit 1))) (Sq (Bk 2 (So Ju (So Jt (Kc 45 (Kk [1,3,34,35,36,45] (So kL .ret)) (Kk [45] .skip))))) (.ops Js))))
def yI:RC:=zK
def Jr:List RI:=[on 48 (Bc .eql 17 4),omk 47 48]
def Jq:List RI:=[oo 49 (Bc .eql 17 5) [17],omk 47 49]
def Jp:List RI:=[on 50 (Fa 2 1),oo 51 (Ld 50) [50],oo 52 (Ln 51) [51],oo 53 (.mini (.t 52) (ci 2)) [52],on 54 (Mc 0)]
def Jo:List RI:=[on 55 (Bb .lss 54 53)]
def Jn:List RI:=[om 56 54,omk 6 56]
def Jm:List RI:=[on 57 (Fa 2 1),oo 58 (Ld 57) [57],om 59 6,oo 60 (Ia 1 58 59) [58,59],oo 61 (Ld 60) [60],omk 7 61]
def Jl:List RI:=[om 62 7,oo 63 (Ln 62) [62],oo 64 (Bc .gtr 63 0) [63],omk 65 64,.grp 65 true [(xi 66 65 true (Mv 3)),(xi 67 65 true (.un .not (.t 66))),(xi 68 65 true (Mv 67))] [66,67],.grp 68 false [(xi 69 68 false (Mv 7)),(xi 70 68 false (Mv 6)),(xi 71 68 false (Fa 3 1)),(xi 72 68 false (Ld 71)),(xi 73 68 false (Ca 69 [.t 70,.t 72])),(xi 74 68 false (Ca 48 [.t 69,.t 73])),(xi 75 68 false (.un .not (.t 74)))] [6,7,69,70,71,72,73,74],.grp 65 true [(xi 76 65 true (Pt 68 75))] [68,75],oo 77 (Pf 65 76) [65,76]]
def Jk:List RI:=[oo 78 (Bc .add 54 1) [54],omk 54 78]
def zJ:RC:=(So Jo (Sq (Kc 55 (Kk [55] .skip) (Kk [1,3,53,54,55] (.exit 3))) (Sq (Bk 4 (So Jn (So Jm (So Jl (Kc 77 (Kk [1,3,53,54,77] (So kL .ret)) (Kk [77] .skip)))))) (.ops Jk))))
def yH:RC:=zJ
def r50:RC:=(So PK (So XQ (Sq (So XP (Bk 0 (So XO (Kc 18 (Kk [1,3,17,18] (So uk .ret)) (Kk [18] (So XN (Kc 20 (Kk [17,20] (Sq (.flt [0,1,0,7,15] [124] XM [22,23,24,25]) (Kc 26 (Kk [1,3,26] (So kL .ret)) (Kk [26] .skip)))) (Kk [20] (So XL (Kc 27 (Kk [17,27] (Sq (So XK (Kc 32 (Kk [1,3,32] (So kL .ret)) (Kk [32] .skip))) (So Jw (Bk 1 (.loop yI))))) (Kk [27] (Sq (So Jr (Kc 47 (Kk [17] .skip) (Kk [47] (.ops Jq)))) (Kc 47 (Kk [47] .skip) (Kk [1,3,47] (So kL .ret))))))))))))))) (Sq (So Jp (Bk 3 (.loop yH))) (So uk .ret)))))
def F50:FnC:=⟨r50,79,[.tmp 2],[],[]⟩
def Qx:RC:=(So EN (Sq (Kc 9 (Kk [9] .skip) (Kk [0,1,7,8,9] (.exit 0))) (Sq (Bk 1 (So PQ (So PP (Kc 16 (Kk [0,1,7,8,16] (So PO .ret)) (Kk [5,16] .skip))))) (.ops PN))))
def PJ:RC:=Qx
def r51:RC:=(So rt (Sq (So PR (Bk 0 (.loop PJ))) (So mC .ret)))
def F51:FnC:=⟨r51,19,[.tmp 4],[],[]⟩
def XJ:List RI:=[oo 4 (Lt 4 2) [2],oo 5 (Fa 3 1) [1],oo 6 (Ld 5) [5],oo 7 (Ca 53 [.t 4,.t 6]) [4,6],omk 3 7]
def r52:RC:=(So PL (So XJ .ret))
def F52:FnC:=⟨r52,8,[.tmp 3],[],[]⟩
def PI:List RI:=[oo 2 (.box (.t 0)) [0],oo 4 (Mb false) [4]]
def XI:List RI:=[on 8 (Lt 4 2),oo 9 (Ca 90 [.t 8]) [8],oo 10 (Bc .neq 9 0) [9]]
def PH:List RI:=[on 11 (Fa 0 2),oo 12 (Ld 11) [11]]
def XH:List RI:=[on 14 (Bc .eql 12 2),omk 13 14]
def XG:List RI:=[omk 15 1,oo 16 (.b2s (.t 15)) [15],oo 17 (Fa 1 2) [2],oo 18 (Ld 17) [17],oo 19 (Bb .eql 16 18) [16,18],omk 4 19]
def XF:List RI:=[on 21 (Bc .eql 12 3),omk 20 21]
def XE:List RI:=[oo 22 (Fa 1 2) [2],oo 23 (Ld 22) [22],omk 24 1,oo 25 (Ca 92 [.t 23,.t 24]) [23,24],omk 4 25]
def XD:List RI:=[oo 27 (Bc .eql 12 4) [12],omk 26 27]
def XC:List RI:=[omk 29 1,oo 30 (.b2s (.t 29)) [29],on 31 (Fa 1 2),oo 32 (Ld 31) [31],oo 33 (Ca 93 [.t 30,.t 32]) [30,32],omk 28 33,on 34 (.ext (.t 28) 0),oo 35 (.ext (.t 28) 1) [28],omk 5 34,omk 6 35]
def Jj:List RI:=[omk 36 5,oo 37 (Ca 94 [.t 36]) [36],omk 7 37]
def Ji:List RI:=[omk 38 6,omk 39 38,.grp 39 true [(xi 40 39 true (Mv 7)),(xi 41 39 true (Fa 2 2)),(xi 42 39 true (Ld 41)),(xi 43 39 true (Bb .geq 40 42))] [40,41,42],oo 44 (Pf 39 43) [39,43],omk 45 44,.grp 45 true [(xi 46 45 true (Mv 7)),(xi 47 45 true (Fa 3 2)),(xi 48 45 true (Ld 47)),(xi 49 45 true (Bb .leq 46 48))] [2,7,46,47,48],oo 50 (Pf 45 49) [45,49],omk 4 50]
def r53:RC:=(So PI (Sq (So XI (Kc 10 (Kk [1,2,10] (So iV .ret)) (Kk [10] .skip))) (Sq (So PH (Bk 0 (So XH (Kc 13 (Kk [12,13] (So XG .ret)) (Kk [13] (So XF (Kc 20 (Kk [12,20] (So XE .ret)) (Kk [20] (So XD (Kc 26 (Kk [26] (So XC (So Jj (So Ji .ret)))) (Kk [1,2,26] .skip))))))))))) (So pd .ret))))
def F53:FnC:=⟨r53,51,[.tmp 4],[],[]⟩
def XB:List RI:=[on 7 (Fa 0 1),oo 8 (Ld 7) [7],oo 9 (Ca 95 [.t 8]) [8],oo 10 (.un .not (.t 9)) [9]]
def XA:List RI:=[on 11 (Fa 2 1),oo 12 (Ld 11) [11],oo 13 (Bc .lss 12 0) [12],omk 14 13,.grp 14 false [(xi 15 14 false (Fa 2 1)),(xi 16 14 false (Ld 15)),(xi 17 14 false (Fa 1 1)),(xi 18 14 false (Ld 17)),(xi 19 14 false (Bb .gtr 16 18))] [15,16,17,18],oo 20 (Pt 14 19) [14,19],omk 21 20,.grp 21 false [(xi 22 21 false (Fa 1 1)),(xi 23 21 false (Ld 22)),(xi 24 21 false (Bc .gtr 23 1000000))] [22,23],oo 25 (Pt 21 24) [21,24],omk 26 25,.grp 26 false [(xi 27 26 false (Fa 3 1)),(xi 28 26 false (Ld 27)),(xi 29 26 false (Bc .lss 28 0))] [27,28],oo 30 (Pt 26 29) [26,29],omk 31 30,.grp 31 false [(xi 32 31 false (Fa 3 1)),(xi 33 31 false (Ld 32)),(xi 34 31 false (Fa 4 1)),(xi 35 31 false (Ld 34)),(xi 36 31 false (Bb .geq 33 35))] [32,33,34,35],oo 37 (Pt 31 36) [31,36],omk 38 37,.grp 38 false [(xi 39 38 false (Fa 4 1)),(xi 40 38 false (Ld 39)),(xi 41 38 false (Bc .gtr 40 1099511627776))] [39,40],oo 42 (Pt 38 41) [38,41]]
def Xz:List RI:=[on 43 (Fa 5 1),oo 44 (Ld 43) [43],oo 45 (Ln 44) [44],oo 46 (Bc .gtr 45 16) [45],omk 47 46,.grp 47 false [(xi 48 47 false (Fa 6 1)),(xi 49 47 false (Ld 48)),(xi 50 47 false (Ln 49)),(xi 51 47 false (Bc .gtr 50 8))] [48,49,50],oo 52 (Pt 47 51) [47,51]]
def rm:List RI:=[on 3 (Mc 0)]
def Xy:List RI:=[om 53 3,on 54 (Fa 5 1),oo 55 (Ld 54) [54],oo 56 (Ln 55) [55],oo 57 (Bb .lss 53 56) [53,56]]
def Xx:List RI:=[on 60 (Fa 5 1),oo 61 (Ld 60) [60],om 62 3,oo 63 (Ia 4 61 62) [61,62],oo 64 (Lt 4 63) [63],on 4 (.new (.rc Zq1)),Sr 4 4 64 [64]]
def Jh:List RI:=[on 65 (Fa 0 4),oo 66 (Ld 65) [65],oo 67 (Bc .lss 66 1) [66],omk 68 67,.grp 68 false [(xi 69 68 false (Fa 0 4)),(xi 70 68 false (Ld 69)),(xi 71 68 false (Bc .gtr 70 3))] [69,70],oo 72 (Pt 68 71) [68,71],omk 73 72,.grp 73 false [(xi 74 73 false (Fa 2 4)),(xi 75 73 false (Ld 74)),(xi 76 73 false (Bc .lss 75 0))] [74,75],oo 77 (Pt 73 76) [73,76],omk 78 77,.grp 78 false [(xi 79 78 false (Fa 2 4)),(xi 80 78 false (Ld 79)),(xi 81 78 false (Bc .gtr 80 1000000))] [79,80],oo 82 (Pt 78 81) [78,81],omk 83 82,.grp 83 false [(xi 84 83 false (Fa 3 4)),(xi 85 83 false (Ld 84)),(xi 86 83 false (Ln 85)),(xi 87 83 false (Bc .neq 86 32))] [84,85,86],oo 88 (Pt 83 87) [83,87]]
def Jg:List RI:=[on 89 (Fa 1 4),oo 90 (Ld 89) [89],oo 91 (Ca 95 [.t 90]) [90],oo 92 (.un .not (.t 91)) [91]]
def Jf:List FI:=[Fm 0 93 3,Fs 1 94 (Bc .gtr 93 0),Fm 2 95 94,Fi 3 96 95 true (Fa 5 1),Fi 4 97 95 true (Ld 96),Fi 5 98 95 true (Mv 3),Fi 6 99 95 true (Bc .sub 98 1),Fi 7 100 95 true (Ia 4 97 99),Fi 8 101 95 true (Lt 4 100),Fi 9 102 95 true (Lt 4 4),Fy 10 103 95 true (Ca 84 [.t 101,.t 102]),Fi 11 104 95 true (.un .not (.t 103)),Fs 12 105 (Pf 95 104)]
def Je:List RI:=[omk 58 3,oo 59 (Bc .add 58 1) [58],omk 3 59]
def zI:RC:=(.post (Sq (So Xy (Kc 57 (Kk [57] .skip) (Kk [3,57] (.exit 0)))) (Sq (Bk 1 (So Xx (Sq (So Jh (Kc 88 (Kk [1,3,4,88] (So fL .ret)) (Kk [88] .skip))) (Sq (So Jg (Kc 92 (Kk [1,3,4,92] (So rp .ret)) (Kk [92] .skip))) (Sq (.flt [0,1,3,7,15,7,39,127,255,7,1023,2047,4095] [] Jf [4,93,94,95,96,97,98,99,100,101,102,103,104]) (Kc 105 (Kk [1,3,105] (So um .ret)) (Kk [105] .skip))))))) (.ops Je))) [.gc [104]])
def l5:RC:=zI
def Jd:List RI:=[om 106 5,on 107 (Fa 6 1),oo 108 (Ld 107) [107],oo 109 (Ln 108) [108],oo 110 (Bb .lss 106 109) [106,109]]
def Jc:List RI:=[on 113 (Fa 6 1),oo 114 (Ld 113) [113],om 115 5,oo 116 (Ia 4 114 115) [114,115],oo 117 (Lt 4 116) [116],oo 118 (Ca 96 [.t 117]) [117],omk 6 118]
def Jb:List RI:=[om 119 6,oo 120 (Bc .neq 119 0) [119]]
def Ja:List RI:=[omk 121 6,omk 2 121]
def I9:List RI:=[omk 111 5,oo 112 (Bc .add 111 1) [111],omk 5 112]
def zH:RC:=(Sq (So Jd (Kc 110 (Kk [110] .skip) (Kk [1,5,110] (.exit 2)))) (Sq (Bk 3 (So Jc (So Jb (Kc 120 (Kk [1,5,120] (So Ja .ret)) (Kk [6,120] .skip))))) (.ops I9)))
def uj:RC:=zH
def r54:RC:=(So oy (Sq (So XB (Kc 10 (Kk [1,10] (So rp .ret)) (Kk [10] .skip))) (Sq (So XA (Kc 42 (Kk [1,42] (So fL .ret)) (Kk [42] .skip))) (Sq (So Xz (Kc 52 (Kk [1,52] (So jb .ret)) (Kk [52] .skip))) (Sq (So rm (Bk 0 (.loop l5))) (Sq (So mz (Bk 2 (.loop uj))) (So jM .ret)))))))
def F54:FnC:=⟨r54,122,[.tmp 2],[],[]⟩
def PG:List RI:=[omk 3 0]
def Xw:List RI:=[on 5 (Bc .eql 3 1),omk 4 5]
def Xv:List RI:=[on 7 (Bc .eql 3 2),omk 6 7]
def Xu:List RI:=[on 9 (Bc .eql 3 3),omk 8 9]
def Xt:List RI:=[on 2 (Mc 8)]
def Xs:List RI:=[oo 11 (Bc .eql 3 4) [3],omk 10 11]
def Xr:List RI:=[on 2 (Mc 9)]
def r55:RC:=(So my (Sq (So PG (Bk 0 (So Xw (Kc 4 (Kk [3,4] (So jM .ret)) (Kk [4] (So Xv (Kc 6 (Kk [3,6] (So jb .ret)) (Kk [6] (So Xu (Kc 8 (Kk [3,8] (So Xt .ret)) (Kk [8] (So Xs (Kc 10 (Kk [10] (So Xr .ret)) (Kk [10] .skip)))))))))))))) (So oH .ret)))
def F55:FnC:=⟨r55,12,[.tmp 2],[],[]⟩
def mw:List RI:=[oo 4 (.mov (.c (.byt [] .clip))) [4]]
def Xq:List RI:=[omk 5 0,.tks (xs 6 (.s2b (.t 5))) [5],on 7 (.litB [(.c (.u8 32))]),oo 8 (.app [.u8 0] 1 (.t 6) (.t 7)) [6,7],omk 9 1,oo 10 (Ca 97 [.t 9]) [9],oo 11 (.app [.u8 0] 1 (.t 8) (.t 10)) [8,10],omk 4 11]
def r56:RC:=(So mw (So Xq .ret))
def F56:FnC:=⟨r56,12,[.tmp 4],[],[]⟩
def Xp:List RI:=[on 4 (Fa 1 1),oo 5 (Ld 4) [4],oo 6 (Bc .eql 5 1) [5]]
def Xo:List RI:=[on 7 (Fa 1 1),oo 8 (Ld 7) [7],oo 9 (Bc .lss 8 1) [8],omk 10 9,.grp 10 false [(xi 11 10 false (Fa 1 1)),(xi 12 10 false (Ld 11)),(xi 13 10 false (Bc .gtr 12 5))] [11,12],oo 14 (Pt 10 13) [10,13]]
def Xn:List FI:=[Fs 0 15 (Fa 1 1),Fs 1 16 (Ld 15),Fs 2 17 (Bc .eql 16 2),Fm 3 18 17,Fi 4 19 18 true (Fa 3 1),Fi 5 20 18 true (Ld 19),Fy 6 21 18 true (Ca 77 []),Fy 7 22 18 true (Ca 25 [.t 20,.t 21]),Fi 8 23 18 true (.un .not (.t 22)),Fs 9 24 (Pf 18 23),Fm 10 25 24,Fi 11 26 25 false (Fa 1 1),Fi 12 27 25 false (Ld 26),Fi 13 28 25 false (Bc .eql 27 3),Fi 14 29 25 false (Mv 28),Fi 15 30 29 true (Fa 3 1),Fi 16 31 29 true (Ld 30),Fy 17 32 29 true (Ca 98 [.t 31]),Fi 18 33 29 true (.un .not (.t 32)),Fi 19 34 25 false (Pf 29 33),Fs 20 35 (Pt 25 34)]
def Xm:List RI:=[om 36 3,oo 37 (Bc .lss 36 2) [36],omk 38 37,.grp 38 true [(xi 39 38 true (Mv 3)),(xi 40 38 true (Fa 2 1)),(xi 41 38 true (Ld 40)),(xi 42 38 true (Ln 41)),(xi 43 38 true (Bb .lss 39 42))] [39,40,41,42],oo 44 (Pf 38 43) [38,43]]
def Xl:List FI:=[Fs 0 47 (Fa 2 1),Fs 1 48 (Ld 47),Fm 2 49 3,Fs 3 50 (Ia 1 48 49),Fs 4 51 (Ld 50),Fs 5 52 (Ln 51),Fs 6 53 (Bc .gtr 52 0),Fm 7 54 53,Fi 8 55 54 true (Fa 1 1),Fi 9 56 54 true (Ld 55),Fi 10 57 54 true (Bc .eql 56 5),Fi 11 58 54 true (Mv 57),Fi 12 59 58 false (Fa 2 1),Fi 13 60 58 false (Ld 59),Fi 14 61 58 false (Mv 3),Fi 15 62 58 false (Ia 1 60 61),Fi 16 63 58 false (Ld 62),Fi 17 64 58 false (Mv 3),Fi 18 65 58 false (Fa 3 1),Fi 19 66 58 false (Ld 65),Fy 20 67 58 false (Ca 99 [.t 64,.t 66]),Fy 21 68 58 false (Ca 25 [.t 63,.t 67]),Fi 22 69 58 false (.un .not (.t 68)),Fi 23 70 54 true (Pt 58 69),Fs 24 71 (Pf 54 70)]
def I8:List RI:=[omk 45 3,oo 46 (Bc .add 45 1) [45],omk 3 46]
def zG:RC:=(Sq (So Xm (Kc 44 (Kk [44] .skip) (Kk [1,3,44] (.exit 0)))) (Sq (Bk 1 (Sq (.flt [0,1,0,7,15,31,63,127,255,511,1023,2047,4095,8191,4095,32767,65535,4095,4095,266239,921599,2097151,4194303,8388607,16777215] [] Xl [47,48,49,50,51,52,53,54,55,56,57,58,59,60,61,62,63,64,65,66,67,68,69,70]) (Kc 71 (Kk [1,3,71] (So kL .ret)) (Kk [71] .skip)))) (.ops I8)))
def ui:RC:=zG
def r57:RC:=(So PK (Sq (So Xp (Kc 6 (Kk [1,6] (So uk .ret)) (Kk [6] .skip))) (Sq (So Xo (Kc 14 (Kk [1,14] (So kL .ret)) (Kk [14] .skip))) (Sq (Sq (.flt [0,1,3,7,15,31,15,127,255,511,1023,2047,4095,8191,16383,32767,65535,131071,262143,524287,1048575] [] Xn [15,16,17,18,19,20,21,22,23,24,25,26,27,28,29,30,31,32,33,34]) (Kc 35 (Kk [1,35] (So kL .ret)) (Kk [35] .skip))) (Sq (So rm (Bk 0 (.loop ui))) (So uk .ret))))))
def F57:FnC:=⟨r57,72,[.tmp 2],[],[]⟩
def Xk:List RI:=[on 8 (Lt 4 2),oo 9 (Ca 96 [.t 8]) [8],oo 10 (Bc .neq 9 0) [9]]
def Xj:List RI:=[on 14 (Bc .eql 12 1),omk 13 14]
def Xi:List RI:=[on 16 (Bc .eql 12 2),omk 15 16]
def Xh:List RI:=[oo 17 (Fa 1 2) [2],oo 18 (Ld 17) [17],oo 19 (.s2b (.t 18)) [18],omk 20 1,oo 21 (Ca 25 [.t 19,.t 20]) [19,20],omk 4 21]
def Xg:List RI:=[oo 23 (Bc .eql 12 3) [12],omk 22 23]
def Xf:List RI:=[oo 24 (Fa 1 2) [2],oo 25 (Ld 24) [24],omk 26 1,oo 27 (Ca 100 [.t 25,.t 26]) [25,26],omk 4 27]
def I7:List RI:=[on 28 (Fa 1 2),oo 29 (Ld 28) [28],oo 30 (.len true (.t 29)) [29],omk 5 30]
def I6:List FI:=[Fm 0 31 1,Fs 1 32 (Ln 31),Fm 2 33 5,Fs 3 34 (Bb .leq 32 33),Fm 4 35 34,Fi 5 36 35 false (Mv 1),Fi 6 37 35 false (Ln 36),Fi 7 38 35 false (Mv 5),Fi 8 39 35 false (Bc .add 38 10),Fi 9 40 35 false (Bb .gtr 37 39),Fs 10 41 (Pt 35 40),Fm 11 42 41,Fi 12 43 42 false (Fa 1 2),Fi 13 44 42 false (Ld 43),Fi 14 45 42 false (.s2b (.t 44)),Fi 15 46 42 false (Mv 1),Fi 16 47 42 false (Mv 5),Fi 17 48 42 false (.slcL 1 (.t 46) none (some (.t 47)) none),Fy 18 49 42 false (Ca 25 [.t 45,.t 48]),Fi 19 50 42 false (.un .not (.t 49)),Fs 20 51 (Pt 42 50)]
def I5:List RI:=[om 52 5,omk 7 52]
def I4:List RI:=[om 53 7,om 54 1,oo 55 (Ln 54) [54],oo 56 (Bb .lss 53 55) [53,55]]
def I3:List RI:=[om 59 1,om 60 7,oo 61 (Ia 1 59 60) [59,60],oo 62 (Ld 61) [61],oo 63 (.bin .lss (.t 62) (.c (.u8 48))) [62],omk 64 63,.grp 64 false [(xi 65 64 false (Mv 1)),(xi 66 64 false (Mv 7)),(xi 67 64 false (Ia 1 65 66)),(xi 68 64 false (Ld 67)),(xi 69 64 false (.bin .gtr (.t 68) (.c (.u8 57))))] [65,66,67,68],oo 70 (Pt 64 69) [64,69]]
def I2:List RI:=[omk 71 6,oo 72 (.bin .mul (ci 10) (.t 71)) [71],om 73 1,om 74 7,oo 75 (Ia 1 73 74) [73,74],oo 76 (Ld 75) [75],oo 77 (.bin .sub (.t 76) (.c (.u8 48))) [76],oo 78 (.toInt .i64 (.t 77)) [77],oo 79 (Bb .add 72 78) [72,78],omk 6 79]
def I1:List RI:=[omk 57 7,oo 58 (Bc .add 57 1) [57],omk 7 58]
def zF:RC:=(Sq (So I4 (Kc 56 (Kk [56] .skip) (Kk [7,56] (.exit 1)))) (Sq (Bk 2 (Sq (So I3 (Kc 70 (Kk [1,2,5,6,7,70] (So iV .ret)) (Kk [70] .skip))) (.ops I2))) (.ops I1)))
def yG:RC:=zF
def I0:List FI:=[Fm 0 80 6,Fm 2 82 1,Fm 3 83 5,Fs 4 84 (.slcL 1 (.t 82) (some (.t 83)) none none),Fz 1 81 (Ca 97 [.t 80]),Fz 5 85 (Ca 25 [.t 81,.t 84]),Fm 6 86 85,Fi 7 87 86 true (Mv 6),Fi 8 88 86 true (Fa 2 2),Fi 9 89 86 true (Ld 88),Fi 10 90 86 true (Bb .geq 87 89),Fs 11 91 (Pf 86 90),Fm 12 92 91,Fi 13 93 92 true (Mv 6),Fi 14 94 92 true (Fa 3 2),Fi 15 95 92 true (Ld 94),Fi 16 96 92 true (Bb .leq 93 95),Fs 17 97 (Pf 92 96),Fm 18 4 97]
def r58:RC:=(So PI (Sq (So Xk (Kc 10 (Kk [1,2,10] (So iV .ret)) (Kk [10] .skip))) (Sq (So PH (Bk 0 (So Xj (Kc 13 (Kk [1,2,12,13] (So pd .ret)) (Kk [13] (So Xi (Kc 15 (Kk [12,15] (So Xh .ret)) (Kk [15] (So Xg (Kc 22 (Kk [22] (So Xf .ret)) (Kk [22] .skip))))))))))) (So I7 (Sq (Sq (.flt [0,1,0,7,15,31,63,31,159,511,1023,2047,4095,8191,16383,4095,4095,102399,262143,524287,1048575] [] I6 [31,32,33,34,35,36,37,38,39,40,41,42,43,44,45,46,47,48,49,50]) (Kc 51 (Kk [1,2,5,51] (So iV .ret)) (Kk [51] .skip))) (So lI (Sq (So I5 (Bk 1 (.loop yG))) (Sq (.flt [0,1,0,0,12,31,63,127,127,383,1023,2047,4095,8191,8191,24575,65535,131071,262143] [] I0 [1,2,5,6,80,81,82,83,84,85,86,87,88,89,90,91,92,93,94,95,96,97]) .ret))))))))
def F58:FnC:=⟨r58,98,[.tmp 4],[],[]⟩
def Xe:List RI:=[oo 4 (Lt 7 1) [1],oo 5 (Ca 101 [.t 4]) [4],omk 3 5]
def Xd:List RI:=[omk 9 3,oo 10 (.lit 1 [.t 9]) [9],oo 11 (Ca 102 [ci 21,.t 10]) [10],omk 2 11]
def r59:RC:=(So uq (So Xe (Sq (So PW (Kc 8 (Kk [3,8] (So up .ret)) (Kk [8] .skip))) (So Xd .ret))))
def F59:FnC:=⟨r59,12,[.tmp 2],[],[]⟩
def WW:List RI:=[oo 6 (Mc 0) [6],oo 7 (Mb false) [7]]
def WV:List RI:=[om 12 0,oo 13 (Ln 12) [12],omk 8 13]
def WU:List RI:=[om 14 8,on 9 (Mc 0),omk 10 14]
def WT:List RI:=[om 15 9,om 16 10,oo 17 (Bb .lss 15 16) [15,16]]
def WS:List RI:=[om 18 9,om 19 10,oo 20 (Bb .add 18 19) [18,19],oo 21 (.toInt .u64 (.t 20)) [20],oo 22 (.bin .shr (.t 21) (.c (.int .u64 1))) [21],oo 23 (.toInt .i64 (.t 22)) [22],omk 11 23]
def WR:List RI:=[om 24 2,om 25 0,om 26 11,oo 27 (Ia 1 25 26) [25,26],oo 28 (Ld 27) [27],om 29 1,oo 30 (.call (.t 24) [.t 28,.t 29]) [24,28,29],oo 31 (Bc .lss 30 0) [30]]
def WQ:List RI:=[omk 32 11,oo 33 (Bc .add 32 1) [32],omk 9 33]
def WP:List RI:=[omk 34 11,omk 10 34]
def Qw:RC:=(Sq (So WT (Kc 17 (Kk [17] .skip) (Kk [10,17] (.exit 0)))) (Bk 1 (So WS (So WR (Kc 31 (Kk [9,31] (.ops WQ)) (Kk [10,31] (.ops WP)))))))
def PF:RC:=Qw
def WO:List RI:=[om 35 9,om 36 9,omk 37 8,oo 38 (Bb .lss 36 37) [36,37],omk 39 38,.grp 39 true [(xi 40 39 true (Mv 2)),(xi 41 39 true (Mv 0)),(xi 42 39 true (Mv 9)),(xi 43 39 true (Ia 1 41 42)),(xi 44 39 true (Ld 43)),(xi 45 39 true (Mv 1)),(xi 46 39 true (.call (.t 40) [.t 44,.t 45])),(xi 47 39 true (Bc .eql 46 0))] [0,1,2,9,40,41,42,43,44,45,46],oo 48 (Pf 39 47) [39,47],omk 6 35,omk 7 48]
def r60:RC:=(So WW (So WV (So WU (Sq (Bk 0 (.loop PF)) (So WO .ret)))))
def F60:FnC:=⟨r60,49,[.tmp 6,.tmp 7],[],[]⟩
def WN:List RI:=[om 6 5,om 7 0,oo 8 (Ln 7) [7],oo 9 (Bb .lss 6 8) [6,8],omk 10 9,.grp 10 true [(xi 11 10 true (Mv 5)),(xi 12 10 true (Mv 1)),(xi 13 10 true (Ln 12)),(xi 14 10 true (Bb .lss 11 13))] [11,12,13],oo 15 (Pf 10 14) [10,14]]
def WM:List FI:=[Fm 0 18 0,Fm 1 19 5,Fs 2 20 (Ia 1 18 19),Fs 3 21 (Ld 20),Fm 4 22 1,Fm 5 23 5,Fs 6 24 (Ia 1 22 23),Fs 7 25 (Ld 24),Fs 8 26 (Bb .neq 21 25)]
def WL:List FI:=[Fm 0 27 0,Fm 1 28 5,Fs 2 29 (Ia 1 27 28),Fs 3 30 (Ld 29),Fm 4 31 1,Fm 5 32 5,Fs 6 33 (Ia 1 31 32),Fs 7 34 (Ld 33),Fs 8 35 (Bb .lss 30 34),Fm 9 4 35]
def WK:List RI:=[omk 16 5,oo 17 (Bc .add 16 1) [16],omk 5 17]
def Qv:RC:=(Sq (So WN (Kc 15 (Kk [15] .skip) (Kk [5,15] (.exit 0)))) (Sq (Bk 1 (Sq (.flt [0,0,3,7,0,0,48,112,255] [] WM [18,19,20,21,22,23,24,25]) (Kc 26 (Kk [26] (Sq (.flt [0,0,3,7,0,0,48,112,255,511] [] WL [0,1,5,27,28,29,30,31,32,33,34,35]) .ret)) (Kk [26] .skip)))) (.ops WK)))
def PE:RC:=Qv
def WJ:List RI:=[omk 36 0,oo 37 (Ln 36) [36],omk 38 1,oo 39 (Ln 38) [38],oo 40 (Bb .lss 37 39) [37,39],omk 4 40]
def r63:RC:=(So lJ (Sq (So mz (Bk 0 (.loop PE))) (So WJ .ret)))
def F63:FnC:=⟨r63,41,[.tmp 4],[],[]⟩
def WI:List RI:=[on 4 (.new (.rc Zq2))]
def WH:List RI:=[om 8 0,oo 9 (Ca 37 [.t 8,ci 4]) [8],omk 5 9]
def WG:List RI:=[on 10 (Ca 106 []),om 11 0,oo 12 (Ca 37 [.t 11,ci 3]) [11],oo 13 (.idxA 3 1 false (.t 10) (.t 12)) [10,12],om 14 5,omk 15 1,oo 16 (Ca 34 [.t 13,.t 14,.t 15]) [13,14,15],on 6 (.new (.rc Zq2)),Sr 7 6 16 [16]]
def WF:List RI:=[om 17 0,oo 18 (Ca 37 [.t 17,ci 3]) [17],oo 19 (Bc .eql 18 1) [18]]
def WE:List FI:=[Fs 0 20 (Fa 5 6),Fs 1 21 (Ld 20),Fm 2 22 0,Fs 3 23 (Fa 5 6),Fs 4 24 (Ld 23),Fs 5 25 (Ln 24),Fs 6 26 (Bc .add 25 1),Fz 7 27 (Ca 37 [.t 22,.t 26]),Fs 8 28 (.slcL 4 (.t 21) none (some (.t 27)) none),Fs 9 29 (Fa 5 6),Fr 10 1 29 28]
def WD:List RI:=[om 30 0,omk 31 5,oo 32 (Bc .add 31 1) [31],oo 33 (Ca 37 [.t 30,.t 32]) [30,32],on 34 (Fa 2 6),Sr 1 34 33 [33,34]]
def WC:List RI:=[om 35 0,oo 36 (Ca 37 [.t 35,ci 12]) [35],on 37 (Fa 3 6),Sr 1 37 36 [36,37]]
def WB:List FI:=[Fs 0 38 (Fa 3 6),Fs 1 39 (Ld 38),Fs 2 40 (Bc .add 39 1),Fm 3 41 0,Fz 4 42 (Ca 37 [.t 41,ci 30]),Fs 5 43 (Bb .add 40 42),Fs 6 44 (Fa 4 6),Fr 7 1 44 43]
def WA:List RI:=[om 45 0,oo 46 (Ca 37 [.t 45,ci 2]) [45],oo 47 (Bc .eql 46 0) [46]]
def Wz:List RI:=[on 48 (Fa 4 6),.op ⟨none,none,.store 1 (.t 48) (ci 1099511627776)⟩ [48]]
def IZ:List RI:=[om 49 0,oo 50 (Ca 37 [.t 49,ci 4]) [49],omk 7 50]
def IY:List RI:=[om 51 7,oo 52 (Bc .gtr 51 0) [51]]
def IX:List FI:=[Fs 0 55 (Fa 6 6),Fs 1 56 (Ld 55),Fm 2 57 0,Fz 3 58 (Ca 107 [.t 57]),Fs 4 59 (.lit 4 [.t 58]),Fz 5 60 (.app Zq4 40 (.t 56) (.t 59)),Fs 6 61 (Fa 6 6),Fr 7 1 61 60]
def IW:List RI:=[omk 53 7,oo 54 (Bc .sub 53 1) [53],omk 7 54]
def zE:RC:=(Sq (So IY (Kc 52 (Kk [52] .skip) (Kk [0,7,52] (.exit 0)))) (Sq (Bk 1 (.flt [0,1,0,4,12,31,63,127] [160] IX [55,56,57,58,59,60,61])) (.ops IW)))
def yF:RC:=zE
def IV:List RI:=[oo 62 (Lt 7 6) [6],Sr 7 4 62 [62]]
def r64:RC:=(So WI (So WH (So WG (Sq (So WF (Kc 19 (Kk [19] (.flt [0,1,0,0,8,24,56,124,255,511,1023] [] WE [20,21,22,23,24,25,26,27,28,29])) (Kk [19] .skip))) (So WD (So WC (Sq (.flt [0,1,3,0,8,31,63,127] [] WB [38,39,40,41,42,43,44]) (Sq (So WA (Kc 47 (Kk [47] (.ops Wz)) (Kk [47] .skip))) (Sq (So IZ (Bk 0 (.loop yF))) (So IV .ret))))))))))
def F64:FnC:=⟨r64,63,[.cell 4 7 true],[],[]⟩
def Wy:List RI:=[on 4 (.new (.rc Zq1))]
def Wx:List FI:=[Fm 0 7 1,Fm 2 9 0,Fm 5 12 0,Fz 1 8 (Ca 108 []),Fz 3 10 (Ca 37 [.t 9,ci 5]),Fs 4 11 (.idxA 5 1 false (.t 8) (.t 10)),Fz 6 13 (Ca 37 [.t 12,ci 5]),Fs 7 14 (.build Zq1 [(0,1,(.t 7)),(1,1,(.t 11)),(2,1,(.t 13))]),Fz 8 5 (.new (.rc Zq1)),Fr 9 4 5 14]
def Ww:List RI:=[om 15 0,oo 16 (Ca 37 [.t 15,ci 9]) [15],oo 17 (Bc .eql 16 8) [16]]
def Wv:List RI:=[om 18 0,oo 19 (Ca 37 [.t 18,ci 3]) [18],oo 20 (.bin .sub (ci 1000000) (.t 19)) [19],on 21 (Fa 2 5),Sr 1 21 20 [20,21]]
def Wu:List RI:=[omk 22 1,oo 23 (Bc .eql 22 4) [22]]
def Wt:List RI:=[omk 24 0,oo 25 (Ca 109 [.t 24]) [24],on 26 (Fa 3 5),Sr 1 26 25 [25,26]]
def Ws:List RI:=[oo 27 (Lt 4 5) [5],Sr 4 4 27 [27]]
def Wr:List RI:=[om 28 0,oo 29 (Ca 37 [.t 28,ci 7]) [28],oo 30 (.mkB (.t 29) (.t 29)) [29],on 31 (Fa 3 5),Sr 1 31 30 [30,31]]
def Wq:List RI:=[om 32 6,on 33 (Fa 3 5),oo 34 (Ld 33) [33],oo 35 (Ln 34) [34],oo 36 (Bb .lss 32 35) [32,35]]
def IU:List FI:=[Fs 0 39 (Fa 3 5),Fs 1 40 (Ld 39),Fm 2 41 6,Fm 3 42 0,Fz 4 43 (Ca 37 [.t 42,ci 256]),Fs 5 44 (.toInt .u8 (.t 43)),Fs 6 45 (Ia 1 40 41),Fr 7 1 45 44]
def IS:List RI:=[omk 37 6,oo 38 (Bc .add 37 1) [37],omk 6 38]
def zD:RC:=(Sq (So Wq (Kc 36 (Kk [36] .skip) (Kk [0,6,36] (.exit 0)))) (Sq (Bk 1 (.flt [0,1,0,0,8,24,63,127] [] IU [39,40,41,42,43,44,45])) (.ops IS)))
def uh:RC:=zD
def IR:List RI:=[oo 46 (Lt 4 5) [5],Sr 4 4 46 [46]]
def r65:RC:=(So Wy (Sq (.fla [0,0,0,6,14,0,46,127,0,511] [105] Wx [[0,2,5,1,3,4,6,7,8,9],[0,2,5,1,3,4,8,6,7,9],[0,2,5,1,8,3,4,6,7,9],[0,2,5,8,1,3,4,6,7,9]] [7,8,9,10,11,12,13,14]) (Sq (So Ww (Kc 17 (Kk [17] (.ops Wv)) (Kk [17] .skip))) (Sq (So Wu (Kc 23 (Kk [23] (So Wt (So Ws .ret))) (Kk [23] .skip))) (So Wr (Sq (So lI (Bk 0 (.loop uh))) (So IR .ret)))))))
def F65:FnC:=⟨r65,47,[.cell 4 4 true],[],[]⟩
def Wp:List RI:=[on 8 (Lt 7 1),oo 9 (Ca 54 [.t 8]) [8],oo 10 (Bc .neq 9 0) [9]]
def Wo:List RI:=[on 11 (.litB [(.c (.u8 21))]),on 12 (Fa 0 1),oo 13 (Ld 12) [12],oo 14 (.s2b (.t 13)) [13],oo 15 (Ca 83 [.t 11,.t 14]) [11,14],omk 3 15]
def Wn:List RI:=[omk 16 3,on 17 (Fa 1 1),oo 18 (Ld 17) [17],oo 19 (Ca 82 [.t 16,ci 4,.t 18]) [16,18],omk 3 19]
def Wm:List RI:=[omk 20 3,on 21 (Fa 2 1),oo 22 (Ld 21) [21],oo 23 (Ca 82 [.t 20,ci 4,.t 22]) [20,22],omk 3 23]
def Wj:List RI:=[omk 24 3,on 25 (Fa 3 1),oo 26 (Ld 25) [25],oo 27 (Ca 82 [.t 24,ci 6,.t 26]) [24,26],omk 3 27]
def Wi:List RI:=[omk 28 3,on 29 (Fa 4 1),oo 30 (Ld 29) [29],oo 31 (Ca 82 [.t 28,ci 6,.t 30]) [28,30],omk 3 31]
def Wh:List RI:=[omk 32 3,on 33 (Fa 5 1),oo 34 (Ld 33) [33],oo 35 (Ln 34) [34],oo 36 (.toInt .u8 (.t 35)) [35],oo 37 (.litB [.t 36]) [36],oo 38 (.app [.u8 0] 1 (.t 32) (.t 37)) [32,37],omk 3 38]
def IQ:List RI:=[om 39 4,on 40 (Fa 5 1),oo 41 (Ld 40) [40],oo 42 (Ln 41) [41],oo 43 (Bb .lss 39 42) [39,42]]
def IP:List RI:=[on 46 (Fa 5 1),oo 47 (Ld 46) [46],om 48 4,oo 49 (Ia 4 47 48) [47,48],oo 50 (Lt 4 49) [49],on 5 (.new (.rc Zq1)),Sr 4 5 50 [50]]
def IN:List FI:=[Fm 0 51 3,Fs 1 52 (Fa 0 5),Fs 2 53 (Ld 52),Fs 3 54 (.toInt .u8 (.t 53)),Fs 4 55 (.litB [.t 54]),Fs 6 57 (Fa 1 5),Fs 7 58 (Ld 57),Fs 8 59 (.s2b (.t 58)),Fz 5 56 (.app [.u8 0] 1 (.t 51) (.t 55)),Fz 9 60 (Ca 83 [.t 56,.t 59]),⟨10,false,(xm 3 60)⟩]
def IM:List FI:=[Fm 0 61 3,Fs 1 62 (Fa 2 5),Fs 2 63 (Ld 62),Fs 4 65 (Fa 3 5),Fs 5 66 (Ld 65),Fz 3 64 (Ca 82 [.t 61,ci 4,.t 63]),Fz 6 67 (.app [.u8 0] 1 (.t 64) (.t 66)),⟨7,false,(xm 3 67)⟩]
def IL:List RI:=[omk 44 4,oo 45 (Bc .add 44 1) [44],omk 4 45]
def zC:RC:=(.post (Sq (So IQ (Kc 43 (Kk [43] .skip) (Kk [4,43] (.exit 0)))) (Sq (Bk 1 (So IP (Sq (.flt [0,0,2,6,14,31,0,64,192,511,1023] [156] IN [51,52,53,54,55,56,57,58,59,60]) (.flt [0,0,2,7,0,16,63,127] [167] IM [5,61,62,63,64,65,66,67])))) (.ops IL))) [.gc [105,156],.gcr 65000 66000,.tok 3 103])
def qO:RC:=zC
def IK:List RI:=[omk 68 3,on 69 (Fa 6 1),oo 70 (Ld 69) [69],oo 71 (Ln 70) [70],oo 72 (.toInt .u8 (.t 71)) [71],oo 73 (.litB [.t 72]) [72],oo 74 (.app [.u8 0] 1 (.t 68) (.t 73)) [68,73],omk 3 74]
def IJ:List RI:=[om 75 6,on 76 (Fa 6 1),oo 77 (Ld 76) [76],oo 78 (Ln 77) [77],oo 79 (Bb .lss 75 78) [75,78]]
def II:List RI:=[on 82 (Fa 6 1),oo 83 (Ld 82) [82],om 84 6,oo 85 (Ia 4 83 84) [83,84],oo 86 (Lt 4 85) [85],on 7 (.new (.rc Zq4)),Sr 4 7 86 [86]]
def IH:List FI:=[Fm 0 87 3,Fs 1 88 (Fa 0 7),Fs 2 89 (Ld 88),Fs 3 90 (.toInt .u8 (.t 89)),Fs 4 91 (.litB [.t 90]),Fs 6 93 (Fa 1 7),Fs 7 94 (Ld 93),Fs 8 95 (.s2b (.t 94)),Fz 5 92 (.app [.u8 0] 1 (.t 87) (.t 91)),Fz 9 96 (Ca 83 [.t 92,.t 95]),⟨10,false,(xm 3 96)⟩]
def IG:List FI:=[Fm 0 97 3,Fs 1 98 (Fa 2 7),Fs 2 99 (Ld 98),Fs 4 101 (Fa 3 7),Fs 5 102 (Ld 101),Fz 3 100 (Ca 82 [.t 97,ci 4,.t 99]),Fz 6 103 (Ca 82 [.t 100,ci 4,.t 102]),⟨7,false,(xm 3 103)⟩]
def IF:List RI:=[omk 80 6,oo 81 (Bc .add 80 1) [80],omk 6 81]
def zB:RC:=(.post (Sq (So IJ (Kc 79 (Kk [79] .skip) (Kk [1,6,79] (.exit 2)))) (Sq (Bk 3 (So II (Sq (.flt [0,0,2,6,14,31,0,64,192,511,1023] [192] IH [87,88,89,90,91,92,93,94,95,96]) (.flt [0,0,2,7,0,16,63,127] [] IG [7,97,98,99,100,101,102,103])))) (.ops IF))) [.gc [107,192],.gcr 101000 102000,.tok 3 103])
def qN:RC:=zB
def IE:List RI:=[omk 104 3,omk 2 104]
def r66:RC:=(So uq (Sq (So Wp (Kc 10 (Kk [1,10] (So up .ret)) (Kk [10] .skip))) (So Wo (So Wn (So Wm (So Wj (So Wi (So Wh (Sq (So rq (Bk 0 (.pre [.tok 3 103] (.loop qO)))) (So IK (Sq (So lI (Bk 2 (.pre [.tok 3 103] (.loop qN)))) (So IE .ret))))))))))))
def F66:FnC:=⟨r66,105,[.tmp 2],[],[]⟩
def Wg:List RI:=[omk 5 0,omk 6 1,oo 7 (Ca 110 [.t 5,.t 6]) [5,6],oo 8 (Ca 80 [.t 7]) [7],omk 4 8]
def r67:RC:=(So mw (So Wg .ret))
def F67:FnC:=⟨r67,9,[.tmp 4],[],[]⟩
def Wf:List RI:=[on 4 (Fa 0 1),oo 5 (Ld 4) [4],oo 6 (Bc .lss 5 1) [5],omk 7 6,.grp 7 false [(xi 8 7 false (Fa 0 1)),(xi 9 7 false (Ld 8)),(xi 10 7 false (Bc .gtr 9 4))] [8,9],oo 11 (Pt 7 10) [7,10],omk 12 11,.grp 12 false [(xi 13 12 false (Fa 2 1)),(xi 14 12 false (Ld 13)),(xi 15 12 false (Bc .lss 14 0))] [13,14],oo 16 (Pt 12 15) [12,15],omk 17 16,.grp 17 false [(xi 18 17 false (Fa 2 1)),(xi 19 17 false (Ld 18)),(xi 20 17 false (Bc .gtr 19 1000000))] [18,19],oo 21 (Pt 17 20) [17,20],omk 3 21]
def We:List RI:=[on 23 (Fa 1 1),oo 24 (Ld 23) [23],oo 25 (Ca 111 [.t 24]) [24],oo 26 (.un .not (.t 25)) [25],omk 22 26]
def Wd:List RI:=[on 28 (Fa 3 1),oo 29 (Ld 28) [28],oo 30 (Ln 29) [29],oo 31 (Bc .gtr 30 64) [30],omk 27 31]
def Wc:List RI:=[on 33 (Fa 0 1),oo 34 (Ld 33) [33],oo 35 (Bc .eql 34 4) [34],omk 36 35,.grp 36 true [(xi 37 36 true (Lt 4 1)),(xi 38 36 true (Ca 112 [.t 37])),(xi 39 36 true (Ln 38)),(xi 40 36 true (Bc .eql 39 0))] [1,37,38,39],oo 41 (Pf 36 40) [36,40],omk 32 41]
def EL:List RI:=[on 2 (Mc 40)]
def r68:RC:=(So oy (Sq (Bk 0 (So Wf (Kc 3 (Kk [1,3] (So fL .ret)) (Kk [3] (So We (Kc 22 (Kk [1,22] (So rp .ret)) (Kk [22] (So Wd (Kc 27 (Kk [1,27] (So jb .ret)) (Kk [27] (So Wc (Kc 32 (Kk [32] (So EL .ret)) (Kk [32] .skip))))))))))))) (So jM .ret)))
def F68:FnC:=⟨r68,42,[.tmp 2],[],[]⟩
def Wb:List RI:=[omk 9 0]
def Wa:List RI:=[on 11 (Bc .eql 9 0),omk 10 11]
def V9:List RI:=[on 12 (.build [.int .u32 0,.int .u32 0,.int .u32 0,.int .u32 0,.int .u32 0] [(0,1,(.c (.int .u32 1732584193))),(1,1,(.c (.int .u32 4023233417))),(2,1,(.c (.int .u32 2562383102))),(3,1,(.c (.int .u32 271733878))),(4,1,(.c (.int .u32 3285377520)))]),on 5 (.new (.arr 1 (aq 5 [.int .u32 0]))),Sr 5 5 12 [12]]
def V8:List RI:=[omk 13 1,oo 14 (Ca 113 [.t 13]) [13],omk 6 14]
def V7:List RI:=[om 15 6,oo 16 (Ln 15) [15],oo 17 (Bc .gtr 16 0) [16]]
def V6:List RI:=[om 20 6,oo 21 (.slcL 1 (.t 20) none (some (ci 64)) none) [20],oo 22 (Ca 114 [.t 5,.t 21]) [21,22]]
def V5:List RI:=[omk 18 6,oo 19 (.slcL 1 (.t 18) (some (ci 64)) none none) [18],omk 6 19]
def Qu:RC:=(Sq (So V7 (Kc 17 (Kk [17] .skip) (Kk [6,17] (.exit 1)))) (Sq (Bk 2 (.ops V6)) (.ops V5)))
def PD:RC:=Qu
def V4:List RI:=[oo 23 (.slcA 5 1 (.t 5) none none none) [5],oo 24 (Ca 115 [.t 23]) [23],omk 4 24]
def ID:List RI:=[oo 26 (Bc .eql 9 1) [9],omk 25 26]
def IC:List RI:=[on 27 (.build [.int .u32 0,.int .u32 0,.int .u32 0,.int .u32 0,.int .u32 0,.int .u32 0,.int .u32 0,.int .u32 0] [(0,1,(.c (.int .u32 1779033703))),(1,1,(.c (.int .u32 3144134277))),(2,1,(.c (.int .u32 1013904242))),(3,1,(.c (.int .u32 2773480762))),(4,1,(.c (.int .u32 1359893119))),(5,1,(.c (.int .u32 2600822924))),(6,1,(.c (.int .u32 528734635))),(7,1,(.c (.int .u32 1541459225)))]),on 7 (.new (.arr 1 (aq 8 [.int .u32 0]))),Sr 8 7 27 [27]]
def IB:List RI:=[omk 28 1,oo 29 (Ca 113 [.t 28]) [28],omk 8 29]
def IA:List RI:=[om 30 8,oo 31 (Ln 30) [30],oo 32 (Bc .gtr 31 0) [31]]
def Iz:List RI:=[om 35 8,oo 36 (.slcL 1 (.t 35) none (some (ci 64)) none) [35],oo 37 (Ca 116 [.t 7,.t 36]) [36,37]]
def Iy:List RI:=[omk 33 8,oo 34 (.slcL 1 (.t 33) (some (ci 64)) none none) [33],omk 8 34]
def zA:RC:=(Sq (So IA (Kc 32 (Kk [32] .skip) (Kk [8,32] (.exit 3)))) (Sq (Bk 4 (.ops Iz)) (.ops Iy)))
def yE:RC:=zA
def Ix:List RI:=[oo 38 (.slcA 8 1 (.t 7) none none none) [7],oo 39 (Ca 115 [.t 38]) [38],omk 4 39]
def qM:List RI:=[on 4 (.mov (.c (.byt [] .clip)))]
def r69:RC:=(So mw (Sq (So Wb (Bk 0 (So Wa (Kc 10 (Kk [9,10] (So V9 (Sq (So V8 (Bk 1 (.loop PD))) (So V4 .ret)))) (Kk [10] (So ID (Kc 25 (Kk [25] (So IC (Sq (So IB (Bk 3 (.loop yE))) (So Ix .ret)))) (Kk [1,25] .skip)))))))) (So qM .ret)))
def F69:FnC:=⟨r69,40,[.tmp 4],[],[]⟩
def V3:List FI:=[Fs 0 5 (Fa 0 2),Fs 1 6 (Ld 5),Fs 2 7 (Fa 0 3),Fs 3 8 (Ld 7),Fs 5 10 (Fa 1 2),Fs 6 11 (Ld 10),Fs 7 12 (Fa 1 3),Fs 8 13 (Ld 12),Fs 10 15 (Fa 2 2),Fs 11 16 (Ld 15),Fs 12 17 (Fa 2 3),Fs 13 18 (Ld 17),Fs 15 20 (Fa 3 2),Fs 16 21 (Ld 20),Fs 17 22 (Fa 3 3),Fs 18 23 (Ld 22),Fz 4 9 (Ca 122 [.t 6,.t 8]),Fz 9 14 (Ca 123 [.t 11,.t 13]),Fz 14 19 (Ca 122 [.t 16,.t 18]),Fz 19 24 (Ca 61 [.t 21,.t 23]),Fs 20 25 (.lit 1 [.t 9,.t 14,.t 19,.t 24]),Fz 21 26 (Ca 121 [.t 25]),Fm 22 4 26]
def r72:RC:=(So EV (Sq (.flt [0,1,0,4,15,0,32,0,128,511,0,1024,0,4096,16383,0,32768,0,131072,524287,1048575,2097151,4194303] [] V3 [2,3,5,6,7,8,9,10,11,12,13,14,15,16,17,18,19,20,21,22,23,24,25,26]) .ret))
def F72:FnC:=⟨r72,27,[.tmp 4],[],[]⟩
def V2:List RI:=[om 8 0,oo 9 (Ln 8) [8],oo 10 (Bc .eql 9 0) [9],omk 11 10,.grp 11 false [(xi 12 11 false (Mv 0)),(xi 13 11 false (Ln 12)),(xi 14 11 false (Bc .gtr 13 8))] [12,13],oo 15 (Pt 11 14) [11,14]]
def V1:List RI:=[on 3 (Mb false),on 4 (Mb false)]
def V0:List RI:=[om 16 5,om 17 0,oo 18 (Ln 17) [17],oo 19 (Bb .lss 16 18) [16,18]]
def VZ:List RI:=[om 22 0,om 23 5,oo 24 (Ia 4 22 23) [22,23],oo 25 (Lt 4 24) [24],oo 26 (Ca 81 [.t 25]) [25],omk 6 26]
def VY:List RI:=[om 27 6,oo 28 (Bc .neq 27 0) [27]]
def VX:List RI:=[omk 29 6,omk 2 29]
def VW:List FI:=[Fm 0 30 5,Fs 1 31 (Bc .gtr 30 0),Fm 2 32 31,Fi 3 33 32 true (Mv 0),Fi 4 34 32 true (Mv 5),Fi 5 35 32 true (Ia 4 33 34),Fi 6 36 32 true (Fa 0 35),Fi 7 37 32 true (Ld 36),Fi 8 38 32 true (Mv 0),Fi 9 39 32 true (Mv 5),Fi 10 40 32 true (Bc .sub 39 1),Fi 11 41 32 true (Ia 4 38 40),Fi 12 42 32 true (Fa 0 41),Fi 13 43 32 true (Ld 42),Fi 14 44 32 true (Bb .lss 37 43),Fs 15 45 (Pf 32 44)]
def Iw:List RI:=[om 46 7,om 47 5,oo 48 (Bb .lss 46 47) [46,47]]
def Iv:List FI:=[Fm 0 51 0,Fm 1 52 7,Fs 2 53 (Ia 4 51 52),Fs 3 54 (Fa 0 53),Fs 4 55 (Ld 54),Fm 5 56 0,Fm 6 57 5,Fs 7 58 (Ia 4 56 57),Fs 8 59 (Fa 0 58),Fs 9 60 (Ld 59),Fs 10 61 (Bb .eql 55 60),Fm 11 62 61,Fi 12 63 62 true (Mv 0),Fi 13 64 62 true (Mv 7),Fi 14 65 62 true (Ia 4 63 64),Fi 15 66 62 true (Fa 1 65),Fi 16 67 62 true (Ld 66),Fi 17 68 62 true (Mv 0),Fi 18 69 62 true (Mv 5),Fi 19 70 62 true (Ia 4 68 69),Fi 20 71 62 true (Fa 1 70),Fi 21 72 62 true (Ld 71),Fi 22 73 62 true (Bb .eql 67 72),Fs 23 74 (Pf 62 73)]
def Iu:List RI:=[on 2 (Mc 42)]
def It:List RI:=[omk 49 7,oo 50 (Bc .add 49 1) [49],omk 7 50]
def zy:RC:=(Sq (So Iw (Kc 48 (Kk [48] .skip) (Kk [7,48] (.exit 2)))) (Sq (Bk 3 (Sq (.flt [0,0,3,7,15,0,0,96,224,480,1023,2047,4095,4095,16383,32767,65535,4095,4095,397311,921599,1970175,4194303,8388607] [] Iv [51,52,53,54,55,56,57,58,59,60,61,62,63,64,65,66,67,68,69,70,71,72,73]) (Kc 74 (Kk [0,3,4,5,7,74] (So Iu .ret)) (Kk [74] .skip)))) (.ops It)))
def yD:RC:=zy
def Is:List RI:=[omk 75 3,omk 76 75,.grp 76 false [(xi 77 76 false (Mv 0)),(xi 78 76 false (Mv 5)),(xi 79 76 false (Ia 4 77 78)),(xi 80 76 false (Fa 0 79)),(xi 81 76 false (Ld 80)),(xi 82 76 false (Bc .eql 81 1))] [77,78,79,80,81],oo 83 (Pt 76 82) [76,82],omk 3 83]
def Ir:List RI:=[omk 84 4,omk 85 84,.grp 85 false [(xi 86 85 false (Mv 0)),(xi 87 85 false (Mv 5)),(xi 88 85 false (Ia 4 86 87)),(xi 89 85 false (Fa 0 88)),(xi 90 85 false (Ld 89)),(xi 91 85 false (Bc .eql 90 3))] [86,87,88,89,90],oo 92 (Pt 85 91) [85,91],omk 4 92]
def Iq:List RI:=[omk 20 5,oo 21 (Bc .add 20 1) [20],omk 5 21]
def zx:RC:=(Sq (So V0 (Kc 19 (Kk [19] .skip) (Kk [0,5,19] (.exit 0)))) (Sq (Bk 1 (Sq (So VZ (So VY (Kc 28 (Kk [0,3,4,5,28] (So VX .ret)) (Kk [6,28] .skip)))) (Sq (Sq (.flt [0,1,3,7,7,31,63,127,7,7,519,1799,3847,7943,16383,32767] [] VW [30,31,32,33,34,35,36,37,38,39,40,41,42,43,44]) (Kc 45 (Kk [0,3,4,5,45] (So um .ret)) (Kk [45] .skip))) (Sq (So md (Bk 2 (.loop yD))) (So Is (.ops Ir)))))) (.ops Iq)))
def ug:RC:=zx
def Ip:List RI:=[omk 93 3,oo 94 (.un .not (.t 93)) [93],omk 95 94,.grp 95 false [(xi 96 95 false (Mv 4)),(xi 97 95 false (.un .not (.t 96)))] [4,96],oo 98 (Pt 95 97) [95,97]]
def r75:RC:=(So my (Sq (So V2 (Kc 15 (Kk [0,15] (So fL .ret)) (Kk [15] .skip))) (So V1 (Sq (So mz (Bk 0 (.loop ug))) (Sq (So Ip (Kc 98 (Kk [98] (So EL .ret)) (Kk [98] .skip))) (So jM .ret))))))
def F75:FnC:=⟨r75,99,[.tmp 2],[],[]⟩
def VV:List RI:=[on 8 (.new (.rc Zq0))]
def VU:List RI:=[omk 11 0,om 12 1,on 13 (.mk [(.byt [] .no)] 24 (ci 2) (ci 2)),om 14 3,oo 15 (.build Zq0 [(0,1,(.t 11)),(1,1,(.t 12)),(2,1,(.t 13)),(3,1,(.t 14))]) [11,12,13,14],on 9 (.new (.rc Zq0)),Sr 4 9 15 [15]]
def VT:List RI:=[om 16 10,oo 17 (Bc .lss 16 2) [16]]
def VS:List RI:=[om 20 2,om 21 10,oo 22 (Ca 124 [.t 20,.t 21]) [20,21],omk 23 22,.grp 23 true [(xi 24 23 true (Mv 1)),(xi 25 23 true (Bc .neq 24 5))] [24],oo 26 (Pf 23 25) [23,25]]
def VR:List FI:=[Fs 0 27 (Fa 2 9),Fs 1 28 (Ld 27),Fm 2 29 10,Fm 3 30 10,Fm 4 31 3,Fz 5 32 (Ca 99 [.t 30,.t 31]),Fs 6 33 (Ia 1 28 29),Fr 7 1 33 32]
def VQ:List RI:=[omk 18 10,oo 19 (Bc .add 18 1) [18],omk 10 19]
def Qt:RC:=(Sq (So VT (Kc 17 (Kk [17] .skip) (Kk [1,2,3,10,17] (.exit 0)))) (Sq (Bk 1 (So VS (Kc 26 (Kk [26] (.flt [0,1,0,0,0,24,63,127] [] VR [27,28,29,30,31,32,33])) (Kk [26] .skip)))) (.ops VQ)))
def VP:RC:=Qt
def VO:List RI:=[oo 34 (Lt 4 9) [9],Sr 4 8 34 [34]]
def r76:RC:=(So VV (So VU (Sq (So EU (Bk 0 (.loop VP))) (So VO .ret))))
def F76:FnC:=⟨r76,35,[.cell 8 4 true],[],[]⟩
def VN:List RI:=[oo 0 (.mov (.c (.byt [] .clip))) [0]]
def VM:List RI:=[on 1 (.litB [(.c (.u8 0)),(.c (.u8 0)),(.c (.u8 0)),(.c (.u8 0))]),omk 0 1]
def r77:RC:=(So VN (So VM .ret))
def F77:FnC:=⟨r77,2,[.tmp 0],[],[]⟩
def VL:List RI:=[oo 2 (.box (.t 0)) [0],on 4 (.new (.rc Zq0))]
def VK:List RI:=[on 5 (Lt 4 2),oo 6 (Ca 81 [.t 5]) [5],oo 7 (Bc .neq 6 0) [6],omk 8 7,.grp 8 false [(xi 9 8 false (Fa 0 2)),(xi 10 8 false (Ld 9)),(xi 11 8 false (Bc .eql 10 4))] [9,10],oo 12 (Pt 8 11) [8,11]]
def VJ:List RI:=[on 13 (.build Zq0 []),Sr 4 4 13 [13]]
def VI:List FI:=[Fs 0 14 (Fa 0 2),Fs 1 15 (Ld 14),Fs 3 17 (Lt 4 2),Fm 4 18 1,Fs 6 20 (Fa 1 2),Fs 7 21 (Ld 20),Fs 8 22 (Fa 2 2),Fs 9 23 (Ld 22),Fz 2 16 (Ca 55 [.t 15]),Fz 5 19 (Ca 125 [.t 17,.t 18]),Fz 10 24 (Ca 56 [.t 21,.t 23]),Fs 11 25 (.build Zq0 [(0,1,(.t 16)),(1,1,(ci 1)),(2,1,(.t 19)),(3,1,(.t 24))]),Fr 12 4 4 25]
def r78:RC:=(So VL (Sq (So VK (Kc 12 (Kk [1,2,12] (So VJ .ret)) (Kk [12] .skip))) (Sq (.flt [0,1,3,0,0,31,0,64,0,256,1023,2047,4095] [] VI [1,2,14,15,16,17,18,19,20,21,22,23,24,25]) .ret)))
def F78:FnC:=⟨r78,26,[.cell 4 4 true],[],[]⟩
def VH:List RI:=[oo 1 (.box (.t 0)) [0],oo 2 (.mov (.c (.lst 1 [] .clip))) [2]]
def VG:List RI:=[on 3 (.mov (.c (.lst 1 [] .clip)))]
def VF:List RI:=[om 7 5,on 8 (Fa 3 1),oo 9 (Ld 8) [8],oo 10 (Ln 9) [9],oo 11 (Bb .lss 7 10) [7,10]]
def VE:List RI:=[on 14 (Fa 3 1),oo 15 (Ld 14) [14],om 16 5,oo 17 (Ia 1 15 16) [15,16],oo 18 (Ld 17) [17],omk 6 18]
def VD:List RI:=[om 19 6,oo 20 (.bin .eql (.t 19) (.c (.u8 10))) [19]]
def VC:List RI:=[om 21 4,oo 22 (Ln 21) [21],oo 23 (Bc .eql 22 0) [22],omk 24 23,.grp 24 false [(xi 25 24 false (Mv 3)),(xi 26 24 false (Ln 25)),(xi 27 24 false (Bc .geq 26 4))] [25,26],oo 28 (Pt 24 27) [24,27]]
def EK:List RI:=[on 2 (.mov (.c (.lst 1 [] .clip)))]
def VB:List RI:=[omk 29 3,omk 30 4,oo 31 (.lit 1 [.t 30]) [30],oo 32 (.app [.byt [] .clip] 24 (.t 29) (.t 31)) [29,31],omk 3 32]
def Io:List RI:=[om 33 6,oo 34 (.bin .lss (.t 33) (.c (.u8 32))) [33],omk 35 34,.grp 35 false [(xi 36 35 false (Mv 6)),(xi 37 35 false (.bin .gtr (.t 36) (.c (.u8 126))))] [36],oo 38 (Pt 35 37) [35,37]]
def In:List RI:=[omk 39 4,omk 40 6,oo 41 (.litB [.t 40]) [40],oo 42 (.app [.u8 0] 1 (.t 39) (.t 41)) [39,41],omk 4 42]
def Im:List RI:=[omk 12 5,oo 13 (Bc .add 12 1) [12],omk 5 13]
def zw:RC:=(.post (Sq (So VF (Kc 11 (Kk [11] .skip) (Kk [1,5,11] (.exit 0)))) (Sq (Bk 1 (So VE (Sq (So VD (Kc 20 (Kk [6,20] (Sq (So VC (Kc 28 (Kk [1,3,4,5,28] (So EK .ret)) (Kk [28] .skip))) (So VB (So qM (.exit 1))))) (Kk [20] .skip))) (Sq (So Io (Kc 38 (Kk [1,3,4,5,6,38] (So EK .ret)) (Kk [38] .skip))) (.ops In))))) (.ops Im))) [.tok 3 103,.tok 4 104])
def yC:RC:=zw
def Il:List RI:=[omk 43 4,oo 44 (Ln 43) [43],oo 45 (Bc .gtr 44 0) [44]]
def Ik:List RI:=[omk 46 3,omk 2 46]
def r79:RC:=(So VH (So VG (So qM (Sq (So mz (Bk 0 (.pre [.tok 3 103,.tok 4 104] (.loop yC)))) (Sq (So Il (Kc 45 (Kk [3,45] (So EK .ret)) (Kk [45] .skip))) (So Ik .ret))))))
def F79:FnC:=⟨r79,47,[.tmp 2],[],[]⟩
def mu:List RI:=[oo 2 (.mov (.c (.byt [] .clip))) [2]]
def Vm:List RI:=[on 18 (Ca 126 []),on 3 (.new (.arr 1 (aq 64 [.int .u32 0]))),Sr 64 3 18 [18]]
def Vl:List RI:=[.own (xs 19 (.lit 1 [(.c (.int .u32 1779033703)),(.c (.int .u32 3144134277)),(.c (.int .u32 1013904242)),(.c (.int .u32 2773480762)),(.c (.int .u32 1359893119)),(.c (.int .u32 2600822924)),(.c (.int .u32 528734635)),(.c (.int .u32 1541459225))])) [],omk 4 19]
def Vk:List RI:=[omk 20 0,oo 21 (Ca 127 [.t 20]) [20],omk 5 21]
def Vj:List RI:=[om 22 6,om 23 5,oo 24 (Ln 23) [23],oo 25 (Bb .lss 22 24) [22,24]]
def Vi:List RI:=[on 7 (.new (.arr 1 (aq 64 [.int .u32 0])))]
def Vh:List RI:=[om 28 8,oo 29 (Bc .lss 28 64) [28]]
def Vg:List RI:=[om 32 8,oo 33 (Bc .lss 32 16) [32]]
def Ij:List RI:=[om 34 8,om 35 5,om 36 6,om 37 6,oo 38 (Bc .add 37 64) [37],oo 39 (.slcL 1 (.t 35) (some (.t 36)) (some (.t 38)) none) [35,36,38],om 40 8,oo 41 (Ca 128 [.t 39,.t 40]) [39,40],oo 42 (.iaddrA 64 1 (.t 7) (.t 34)) [34],Sr 1 42 41 [41,42]]
def Ii:List FI:=[Fm 0 43 8,Fs 1 44 (Bc .sub 43 15),Fs 2 45 (.iaddrA 64 1 (.t 7) (.t 44)),Fs 3 46 (Ld 45),Fm 5 48 8,Fs 6 49 (Bc .sub 48 15),Fs 7 50 (.iaddrA 64 1 (.t 7) (.t 49)),Fs 8 51 (Ld 50),Fm 11 54 8,Fs 12 55 (Bc .sub 54 15),Fs 13 56 (.iaddrA 64 1 (.t 7) (.t 55)),Fs 14 57 (Ld 56),Fs 15 58 (.bin .shr (.t 57) (.c (.int .u64 3))),Fz 4 47 (Ca 129 [.t 46,(.c (.int .u64 7))]),Fz 9 52 (Ca 129 [.t 51,(.c (.int .u64 18))]),Fs 10 53 (Bb .xor 47 52),Fs 16 59 (Bb .xor 53 58),Fm 17 9 59]
def Ih:List FI:=[Fm 0 60 8,Fs 1 61 (Bc .sub 60 2),Fs 2 62 (.iaddrA 64 1 (.t 7) (.t 61)),Fs 3 63 (Ld 62),Fm 5 65 8,Fs 6 66 (Bc .sub 65 2),Fs 7 67 (.iaddrA 64 1 (.t 7) (.t 66)),Fs 8 68 (Ld 67),Fm 11 71 8,Fs 12 72 (Bc .sub 71 2),Fs 13 73 (.iaddrA 64 1 (.t 7) (.t 72)),Fs 14 74 (Ld 73),Fs 15 75 (.bin .shr (.t 74) (.c (.int .u64 10))),Fz 4 64 (Ca 129 [.t 63,(.c (.int .u64 17))]),Fz 9 69 (Ca 129 [.t 68,(.c (.int .u64 19))]),Fs 10 70 (Bb .xor 64 69),Fs 16 76 (Bb .xor 70 75),Fm 17 10 76]
def Ig:List FI:=[Fm 0 77 8,Fm 1 78 10,Fm 2 79 8,Fs 3 80 (Bc .sub 79 7),Fs 4 81 (.iaddrA 64 1 (.t 7) (.t 80)),Fs 5 82 (Ld 81),Fs 6 83 (Bb .add 78 82),Fm 7 84 9,Fs 8 85 (Bb .add 83 84),Fm 9 86 8,Fs 10 87 (Bc .sub 86 16),Fs 11 88 (.iaddrA 64 1 (.t 7) (.t 87)),Fs 12 89 (Ld 88),Fs 13 90 (Bb .add 85 89),Fs 14 91 (.iaddrA 64 1 (.t 7) (.t 77)),Fr 15 1 91 90]
def If:List RI:=[omk 30 8,oo 31 (Bc .add 30 1) [30],omk 8 31]
def zu:RC:=(Sq (So Vh (Kc 29 (Kk [29] .skip) (Kk [8,29] (.exit 2)))) (Sq (Bk 3 (Sq (So Vg (Kc 33 (Kk [33] (So Ij (.exit 3))) (Kk [33] .skip))) (Sq (.flt [0,1,3,7,15,0,32,96,224,511,1023,0,2048,6144,14336,30720,65535,131071] [] Ii [43,44,45,46,47,48,49,50,51,52,53,54,55,56,57,58,59]) (Sq (.flt [0,1,3,7,15,0,32,96,224,511,1023,0,2048,6144,14336,30720,65535,131071] [] Ih [60,61,62,63,64,65,66,67,68,69,70,71,72,73,74,75,76]) (.flt [0,0,0,4,12,28,62,0,254,0,512,1536,3584,8190,16383,32767] [] Ig [9,10,77,78,79,80,81,82,83,84,85,86,87,88,89,90,91]))))) (.ops If)))
def yB:RC:=zu
def Ie:List RI:=[on 92 (.lit 1 []),om 93 4,oo 94 (.app [.int .u32 0] 4 (.t 92) (.t 93)) [92,93],omk 11 94]
def Ic:List RI:=[om 95 12,oo 96 (Bc .lss 95 64) [95]]
def Ib:List FI:=[Fm 0 99 11,Fs 1 100 (.iaddrL 1 (.t 99) (ci 0)),Fs 2 101 (Ld 100),Fm 3 102 11,Fs 4 103 (.iaddrL 1 (.t 102) (ci 4)),Fs 5 104 (Ld 103),Fm 6 13 101,Fm 7 14 104]
def H9:List FI:=[Fm 0 105 11,Fs 1 106 (.iaddrL 1 (.t 105) (ci 7)),Fs 2 107 (Ld 106),Fm 3 108 14,Fm 5 110 14,Fm 8 113 14,Fm 12 117 14,Fm 13 118 11,Fs 14 119 (.iaddrL 1 (.t 118) (ci 5)),Fs 15 120 (Ld 119),Fs 16 121 (Bb .and 117 120),Fm 17 122 14,Fs 18 123 (.un .xor (.t 122)),Fm 19 124 11,Fs 20 125 (.iaddrL 1 (.t 124) (ci 6)),Fs 21 126 (Ld 125),Fs 22 127 (Bb .and 123 126),Fs 23 128 (Bb .xor 121 127),Fm 25 130 12,Fs 26 131 (.iaddrA 64 1 (.t 3) (.t 130)),Fs 27 132 (Ld 131),Fm 29 134 12,Fs 30 135 (.iaddrA 64 1 (.t 7) (.t 134)),Fs 31 136 (Ld 135),Fz 4 109 (Ca 129 [.t 108,(.c (.int .u64 6))]),Fz 6 111 (Ca 129 [.t 110,(.c (.int .u64 11))]),Fs 7 112 (Bb .xor 109 111),Fz 9 114 (Ca 129 [.t 113,(.c (.int .u64 25))]),Fs 10 115 (Bb .xor 112 114),Fs 11 116 (Bb .add 107 115),Fs 24 129 (Bb .add 116 128),Fs 28 133 (Bb .add 129 132),Fs 32 137 (Bb .add 133 136),Fm 33 15 137]
def H8:List FI:=[Fm 0 138 13,Fm 2 140 13,Fm 5 143 13,Fm 8 146 13,Fm 9 147 11,Fs 10 148 (.iaddrL 1 (.t 147) (ci 1)),Fs 11 149 (Ld 148),Fs 12 150 (Bb .and 146 149),Fm 13 151 13,Fm 14 152 11,Fs 15 153 (.iaddrL 1 (.t 152) (ci 2)),Fs 16 154 (Ld 153),Fs 17 155 (Bb .and 151 154),Fs 18 156 (Bb .xor 150 155),Fm 19 157 11,Fs 20 158 (.iaddrL 1 (.t 157) (ci 1)),Fs 21 159 (Ld 158),Fm 22 160 11,Fs 23 161 (.iaddrL 1 (.t 160) (ci 2)),Fs 24 162 (Ld 161),Fs 25 163 (Bb .and 159 162),Fs 26 164 (Bb .xor 156 163),Fz 1 139 (Ca 129 [.t 138,(.c (.int .u64 2))]),Fz 3 141 (Ca 129 [.t 140,(.c (.int .u64 13))]),Fs 4 142 (Bb .xor 139 141),Fz 6 144 (Ca 129 [.t 143,(.c (.int .u64 22))]),Fs 7 145 (Bb .xor 142 144),Fs 27 165 (Bb .add 145 164),Fm 28 16 165]
def H7:List FI:=[Fm 0 166 15,Fm 1 167 16,Fs 2 168 (Bb .add 166 167),Fm 3 169 13,Fm 4 170 11,Fs 5 171 (.iaddrL 1 (.t 170) (ci 1)),Fs 6 172 (Ld 171),Fm 7 173 11,Fs 8 174 (.iaddrL 1 (.t 173) (ci 2)),Fs 9 175 (Ld 174),Fm 10 176 11,Fs 11 177 (.iaddrL 1 (.t 176) (ci 3)),Fs 12 178 (Ld 177),Fm 13 179 15,Fs 14 180 (Bb .add 178 179),Fm 15 181 14,Fm 16 182 11,Fs 17 183 (.iaddrL 1 (.t 182) (ci 5)),Fs 18 184 (Ld 183),Fm 19 185 11,Fs 20 186 (.iaddrL 1 (.t 185) (ci 6)),Fs 21 187 (Ld 186),Fs 22 188 (.lit 1 [.t 168,.t 169,.t 172,.t 175,.t 180,.t 181,.t 184,.t 187]),⟨23,false,(xm 11 188)⟩]
def H6:List RI:=[omk 97 12,oo 98 (Bc .add 97 1) [97],omk 12 98]
def zt:RC:=(Sq (So Ic (Kc 96 (Kk [96] .skip) (Kk [7,12,96] (.exit 4)))) (Sq (Bk 5 (Sq (.flt [0,1,3,0,8,24,7,127] [] Ib [99,100,101,102,103,104]) (Sq (.flt [0,1,3,0,8,0,56,120,0,376,1016,2047,0,0,8192,24576,61440,0,131072,0,524288,1572864,4063232,8384512,16777215,0,33554432,100663296,268435455,0,536870912,1610612736,4294967295,8589934591] [] H9 [105,106,107,108,109,110,111,112,113,114,115,116,117,118,119,120,121,122,123,124,125,126,127,128,129,130,131,132,133,134,135,136,137]) (Sq (.flt [0,1,0,7,15,0,47,127,0,0,512,1536,3840,0,0,16384,49152,122880,261888,0,524288,1572864,0,4194304,12582912,33030144,67108608,134217727,268435455] [] H8 [138,139,140,141,142,143,144,145,146,147,148,149,150,151,152,153,154,155,156,157,158,159,160,161,162,163,164,165]) (.flt [0,0,3,0,0,16,48,0,128,384,0,1024,3072,0,15360,0,0,65536,196608,0,524288,1572864,4194303,8388607] [] H7 [13,14,15,16,166,167,168,169,170,171,172,173,174,175,176,177,178,179,180,181,182,183,184,185,186,187,188]))))) (.ops H6)))
def yA:RC:=zt
def yz:List RI:=[on 17 (Mc 0)]
def H5:List RI:=[om 189 17,oo 190 (Bc .lss 189 8) [189]]
def H4:List FI:=[Fm 0 193 4,Fm 1 194 17,Fs 2 195 (Ia 1 193 194),Fs 3 196 (Ld 195),Fm 4 197 11,Fm 5 198 17,Fs 6 199 (Ia 1 197 198),Fs 7 200 (Ld 199),Fs 8 201 (Bb .add 196 200),Fs 9 202 (Ia 1 193 194),Fr 10 1 202 201]
def H3:List RI:=[omk 191 17,oo 192 (Bc .add 191 1) [191],omk 17 192]
def zr:RC:=(Sq (So H5 (Kc 190 (Kk [190] .skip) (Kk [11,17,190] (.exit 6)))) (Sq (Bk 7 (.flt [0,0,3,7,0,0,48,112,255,511,1023] [] H4 [193,194,195,196,197,198,199,200,201,202])) (.ops H3)))
def yy:RC:=zr
def H2:List RI:=[omk 26 6,oo 27 (Bc .add 26 64) [26],omk 6 27]
def zq:RC:=(.post (Sq (So Vj (Kc 25 (Kk [25] .skip) (Kk [3,5,6,25] (.exit 0)))) (Sq (Bk 1 (So Vi (Sq (So ur (Bk 2 (.loop yB))) (So Ie (Sq (So P6 (Bk 4 (.loop yA))) (So yz (Bk 6 (.loop yy)))))))) (.ops H2))) [.gc [107,194]])
def yx:RC:=zq
def HZ:List RI:=[omk 203 4,oo 204 (Ca 130 [.t 203]) [203],omk 2 204]
def r80:RC:=(So mu (So Vm (So Vl (So Vk (Sq (So lI (Bk 0 (.loop yx))) (So HZ .ret))))))
def F80:FnC:=⟨r80,205,[.tmp 2],[],[]⟩
def Vf:List RI:=[on 3 (Fa 0 1),oo 4 (Ld 3) [3],oo 5 (Bc .lss 4 1) [4],omk 6 5,.grp 6 false [(xi 7 6 false (Fa 0 1)),(xi 8 6 false (Ld 7)),(xi 9 6 false (Bc .gtr 8 4))] [7,8],oo 10 (Pt 6 9) [6,9],omk 11 10,.grp 11 false [(xi 12 11 false (Fa 2 1)),(xi 13 11 false (Ld 12)),(xi 14 11 false (Bc .lss 13 0))] [12,13],oo 15 (Pt 11 14) [11,14],omk 16 15,.grp 16 false [(xi 17 16 false (Fa 2 1)),(xi 18 16 false (Ld 17)),(xi 19 16 false (Bc .gtr 18 1000000))] [17,18],oo 20 (Pt 16 19) [16,19]]
def Ve:List RI:=[on 21 (Fa 1 1),oo 22 (Ld 21) [21],oo 23 (Ca 95 [.t 22]) [22],oo 24 (.un .not (.t 23)) [23]]
def Vd:List RI:=[on 25 (Fa 3 1),oo 26 (Ld 25) [25],oo 27 (Ln 26) [26],oo 28 (Bc .gtr 27 64) [27]]
def Vc:List RI:=[on 29 (Fa 0 1),oo 30 (Ld 29) [29],oo 31 (Bc .eql 30 4) [30],omk 32 31,.grp 32 true [(xi 33 32 true (Lt 4 1)),(xi 34 32 true (Ca 79 [.t 33])),(xi 35 32 true (Ln 34)),(xi 36 32 true (Bc .eql 35 0))] [1,33,34,35],oo 37 (Pf 32 36) [32,36]]
def r81:RC:=(So oy (Sq (So Vf (Kc 20 (Kk [1,20] (So fL .ret)) (Kk [20] .skip))) (Sq (So Ve (Kc 24 (Kk [1,24] (So rp .ret)) (Kk [24] .skip))) (Sq (So Vd (Kc 28 (Kk [1,28] (So jb .ret)) (Kk [28] .skip))) (Sq (So Vc (Kc 37 (Kk [37] (So EL .ret)) (Kk [37] .skip))) (So jM .ret))))))
def F81:FnC:=⟨r81,38,[.tmp 2],[],[]⟩
def PB:List RI:=[oo 6 (.mov (.c (.byt [] .clip))) [6]]
def Vb:List RI:=[on 9 (.litB []),omk 10 0,oo 11 (.app [.u8 0] 1 (.t 9) (.t 10)) [9,10],omk 7 11]
def Va:List RI:=[om 12 1,oo 13 (Bc .lss 12 1) [12],omk 14 13,.grp 14 false [(xi 15 14 false (Mv 1)),(xi 16 14 false (Bc .gtr 15 8))] [15],oo 17 (Pt 14 16) [14,16]]
def U9:List RI:=[omk 18 7,omk 6 18]
def U8:List RI:=[omk 19 1,oo 20 (Bc .sub 19 1) [19],omk 8 20]
def U7:List RI:=[om 21 8,oo 22 (Bc .geq 21 0) [21]]
def U6:List RI:=[omk 25 7,om 26 2,oo 27 (.toInt .u64 (.t 26)) [26],om 28 8,oo 29 (.toInt .u64 (.t 28)) [28],oo 30 (.bin .mul (.c (.int .u64 8)) (.t 29)) [29],oo 31 (Bb .shr 27 30) [27,30],oo 32 (.toInt .u8 (.t 31)) [31],oo 33 (.litB [.t 32]) [32],oo 34 (.app [.u8 0] 1 (.t 25) (.t 33)) [25,33],omk 7 34]
def U5:List RI:=[omk 23 8,oo 24 (Bc .sub 23 1) [23],omk 8 24]
def Qq:RC:=(.post (Sq (So U7 (Kc 22 (Kk [22] .skip) (Kk [2,8,22] (.exit 0)))) (Sq (Bk 1 (.ops U6)) (.ops U5))) [.tok 7 107])
def PA:RC:=Qq
def U4:List RI:=[omk 35 7,omk 6 35]
def r82:RC:=(So PB (So Vb (Sq (So Va (Kc 17 (Kk [1,2,17] (So U9 .ret)) (Kk [17] .skip))) (Sq (So U8 (Bk 0 (.pre [.tok 7 107] (.loop PA)))) (So U4 .ret)))))
def F82:FnC:=⟨r82,36,[.tmp 6],[0],[]⟩
def U3:List RI:=[om 5 1,oo 6 (Ln 5) [5],oo 7 (Bc .gtr 6 65535) [6]]
def U2:List RI:=[omk 8 1,oo 9 (.slcL 1 (.t 8) none (some (ci 65535)) none) [8],omk 1 9]
def U1:List RI:=[omk 10 0,om 11 1,oo 12 (Ln 11) [11],oo 13 (Ca 82 [.t 10,ci 2,.t 12]) [10,12],omk 14 1,oo 15 (.app [.u8 0] 1 (.t 13) (.t 14)) [13,14],omk 4 15]
def r83:RC:=(So mw (Sq (So U3 (Kc 7 (Kk [7] (.ops U2)) (Kk [7] .skip))) (So U1 .ret)))
def F83:FnC:=⟨r83,16,[.tmp 4],[0],[]⟩
def U0:List RI:=[oo 2 (.box (.t 0)) [0],oo 3 (.box (.t 1)) [1],oo 4 (Mb false) [4]]
def UZ:List RI:=[on 5 (Fa 0 2),oo 6 (Ld 5) [5],on 7 (Fa 0 3),oo 8 (Ld 7) [7],oo 9 (Bb .neq 6 8) [6,8]]
def UY:List RI:=[oo 10 (Fa 0 2) [2],oo 11 (Ld 10) [10],oo 12 (Fa 0 3) [3],oo 13 (Ld 12) [12],oo 14 (Bb .lss 11 13) [11,13],omk 4 14]
def UX:List RI:=[on 15 (Fa 1 2),oo 16 (Ld 15) [15],on 17 (Fa 1 3),oo 18 (Ld 17) [17],oo 19 (Bb .neq 16 18) [16,18]]
def UW:List RI:=[oo 20 (Fa 1 2) [2],oo 21 (Ld 20) [20],oo 22 (Fa 1 3) [3],oo 23 (Ld 22) [22],oo 24 (Bb .lss 21 23) [21,23],omk 4 24]
def UV:List RI:=[on 25 (Fa 2 2),oo 26 (Ld 25) [25],on 27 (Fa 2 3),oo 28 (Ld 27) [27],oo 29 (Bb .neq 26 28) [26,28]]
def UU:List RI:=[oo 30 (Fa 2 2) [2],oo 31 (Ld 30) [30],oo 32 (Fa 2 3) [3],oo 33 (Ld 32) [32],oo 34 (Bb .lss 31 33) [31,33],omk 4 34]
def UT:List RI:=[oo 35 (Fa 3 2) [2],oo 36 (Ld 35) [35],oo 37 (Fa 3 3) [3],oo 38 (Ld 37) [37],oo 39 (Ca 63 [.t 36,.t 38]) [36,38],omk 4 39]
def r84:RC:=(So U0 (Sq (So UZ (Kc 9 (Kk [9] (So UY .ret)) (Kk [9] .skip))) (Sq (So UX (Kc 19 (Kk [19] (So UW .ret)) (Kk [19] .skip))) (Sq (So UV (Kc 29 (Kk [29] (So UU .ret)) (Kk [29] .skip))) (So UT .ret)))))
def F84:FnC:=⟨r84,40,[.tmp 4],[],[]⟩
def US:List RI:=[oo 6 (.mov (.c (.lst 4 [] .clip))) [6]]
def UR:List RI:=[on 7 (.mov (.c (.lst 4 [] .clip)))]
def UQ:List RI:=[om 8 0,oo 9 (Ca 131 [.t 8]) [8],omk 10 9,.grp 10 true [(xi 11 10 true (Mv 7)),(xi 12 10 true (Ln 11)),(xi 13 10 true (Mv 2)),(xi 14 10 true (Bb .lss 12 13))] [11,12,13],oo 15 (Pf 10 14) [10,14]]
def UP:List RI:=[omk 16 7,om 17 0,om 18 1,oo 19 (Ca 38 [.t 17,.t 18]) [17,18],oo 20 (.lit 4 [.t 19]) [19],oo 21 (.app Zq0 64 (.t 16) (.t 20)) [16,20],omk 7 21]
def Qp:RC:=(.post (Sq (So UQ (Kc 15 (Kk [15] .skip) (Kk [0,1,2,15] (.exit 0)))) (Bk 1 (.ops UP))) [.tok 7 107])
def Pz:RC:=Qp
def UO:List RI:=[omk 22 7,omk 6 22]
def r85:RC:=(So US (So UR (Sq (Bk 0 (.pre [.tok 7 107] (.loop Pz))) (So UO .ret))))
def F85:FnC:=⟨r85,23,[.tmp 6],[],[]⟩
def UN:List RI:=[on 4 (.build [.str [],.str [],.str [],.str [],.str [],.str []] [(0,1,(.c (.str [97,61,49]))),(1,1,(.c (.str [99,111,117,110,116,61,53]))),(2,1,(.c (.str [99,111,117,110,116,61,49,55]))),(3,1,(.c (.str [104,111,115,116,61,120]))),(4,1,(.c (.str [109,111,100,101,32,98]))),(5,1,(.c (.str [126])))]),on 3 (.new (.arr 1 (aq 6 [.str []]))),Sr 6 3 4 [4]]
def UM:List RI:=[omk 5 0,oo 6 (Ca 37 [.t 5,ci 6]) [5],oo 7 (.iaddrA 6 1 (.t 3) (.t 6)) [3,6],oo 8 (Ld 7) [7],oo 9 (.s2b (.t 8)) [8],omk 2 9]
def r86:RC:=(So mu (So UN (So UM .ret)))
def F86:FnC:=⟨r86,10,[.tmp 2],[],[]⟩
def Py:List RI:=[on 8 (.mk [(.byt [] .no)] 24 (ci 2) (ci 2)),omk 5 8]
def UL:List RI:=[om 9 6,oo 10 (Bc .lss 9 2) [9]]
def UK:List RI:=[om 13 0,om 14 6,oo 15 (.toInt .u64 (.t 14)) [14],oo 16 (Bb .shr 13 15) [13,15],oo 17 (Bc .and 16 1) [16],oo 18 (Bc .eql 17 1) [17]]
def UJ:List RI:=[om 19 6,oo 20 (.bin .mul (ci 12) (.t 19)) [19],oo 21 (.bin .add (ci 20) (.t 20)) [20],oo 22 (.mkB (.t 21) (.t 21)) [21],omk 7 22]
def UI:List RI:=[om 23 7,om 24 1,oo 25 (.cpy 1 (.t 23) (.t 24)) [23,24,25]]
def UH:List RI:=[om 26 7,oo 27 (Ln 26) [26],oo 28 (Bc .gtr 27 0) [27]]
def UG:List RI:=[om 29 7,om 30 7,oo 31 (Ln 30) [30],oo 32 (Bc .sub 31 1) [31],on 33 (Ia 1 29 32),oo 34 (Ld 33) [33],om 35 6,oo 36 (.toInt .u8 (.t 35)) [35],oo 37 (Bb .xor 34 36) [34,36],oo 38 (Ia 1 29 32) [29,32],Sr 1 38 37 [37,38]]
def UF:List RI:=[om 39 5,om 40 6,omk 41 7,oo 42 (Ia 1 39 40) [39,40],.dir (.pub 41),Sr 1 42 41 [41,42]]
def HY:List RI:=[omk 11 6,oo 12 (Bc .add 11 1) [11],omk 6 12]
def zp:RC:=(Sq (So UL (Kc 10 (Kk [10] .skip) (Kk [0,1,6,10] (.exit 0)))) (Sq (Bk 1 (So UK (Kc 18 (Kk [18] (So UJ (So UI (Sq (So UH (Kc 28 (Kk [28] (.ops UG)) (Kk [28] .skip))) (.ops UF))))) (Kk [18] .skip)))) (.ops HY)))
def HX:RC:=zp
def HW:List RI:=[omk 43 5,omk 4 43]
def r87:RC:=(So EP (So Py (Sq (So lI (Bk 0 (.loop HX))) (So HW .ret))))
def F87:FnC:=⟨r87,44,[.tmp 4],[],[]⟩
def UE:List RI:=[on 4 (Fa 1 1),oo 5 (Ld 4) [4],oo 6 (Bc .eql 5 1) [5],omk 7 6,.grp 7 true [(xi 8 7 true (Fa 0 1)),(xi 9 7 true (Ld 8)),(xi 10 7 true (Bc .eql 9 0))] [8,9],oo 11 (Pf 7 10) [7,10],omk 3 11]
def UD:List RI:=[on 13 (Fa 1 1),oo 14 (Ld 13) [13],oo 15 (Bc .eql 14 1) [14],omk 16 15,.grp 16 true [(xi 17 16 true (Fa 0 1)),(xi 18 16 true (Ld 17)),(xi 19 16 true (Bc .eql 18 4))] [17,18],oo 20 (Pf 16 19) [16,19],omk 12 20]
def UC:List RI:=[on 22 (Fa 1 1),oo 23 (Ld 22) [22],oo 24 (Bc .eql 23 2) [23],omk 25 24,.grp 25 true [(xi 26 25 true (Fa 0 1)),(xi 27 25 true (Ld 26)),(xi 28 25 true (Bc .geq 27 0))] [26,27],oo 29 (Pf 25 28) [25,28],omk 30 29,.grp 30 true [(xi 31 30 true (Fa 0 1)),(xi 32 30 true (Ld 31)),(xi 33 30 true (Bc .lss 32 8))] [31,32],oo 34 (Pf 30 33) [30,33],omk 21 34]
def UB:List RI:=[on 36 (Fa 1 1),oo 37 (Ld 36) [36],oo 38 (Bc .eql 37 1) [37],omk 39 38,.grp 39 true [(xi 40 39 true (Fa 0 1)),(xi 41 39 true (Ld 40)),(xi 42 39 true (Bc .eql 41 8))] [40,41],oo 43 (Pf 39 42) [39,42],omk 35 43]
def UA:List RI:=[on 45 (Fa 1 1),oo 46 (Ld 45) [45],oo 47 (Bc .eql 46 3) [46],omk 48 47,.grp 48 true [(xi 49 48 true (Fa 0 1)),(xi 50 48 true (Ld 49)),(xi 51 48 true (Bc .eql 50 9))] [1,49,50],oo 52 (Pf 48 51) [48,51],omk 44 52]
def r88:RC:=(So oy (Sq (Bk 0 (So UE (Kc 3 (Kk [1,3] (So fL .ret)) (Kk [3] (So UD (Kc 12 (Kk [1,12] (So PU .ret)) (Kk [12] (So UC (Kc 21 (Kk [1,21] (So PT .ret)) (Kk [21] (So UB (Kc 35 (Kk [1,35] (So jb .ret)) (Kk [35] (So UA (Kc 44 (Kk [44] (So yJ .ret)) (Kk [44] .skip)))))))))))))))) (So jM .ret)))
def F88:FnC:=⟨r88,53,[.tmp 2],[],[]⟩
def uf:List RI:=[oo 2 (Mb false) [2]]
def Uz:List RI:=[omk 3 0,oo 4 (.build Zq1 [(0,1,(ci 1)),(1,1,(.t 3))]) [3],oo 5 (Ca 68 [.t 4]) [4],oo 6 (Bc .eql 5 0) [5],omk 2 6]
def r89:RC:=(So uf (So Uz .ret))
def F89:FnC:=⟨r89,7,[.tmp 2],[],[]⟩
def Uy:List RI:=[on 5 (Fa 0 1),oo 6 (Ld 5) [5],oo 7 (Bc .lss 6 1) [6],omk 8 7,.grp 8 false [(xi 9 8 false (Fa 0 1)),(xi 10 8 false (Ld 9)),(xi 11 8 false (Bc .gtr 10 4))] [9,10],oo 12 (Pt 8 11) [8,11]]
def Ux:List RI:=[on 13 (Fa 1 1),oo 14 (Ld 13) [13],oo 15 (.len true (.t 14)) [14],on 16 (Mc 0)]
def Uw:List RI:=[on 17 (Bb .lss 16 15)]
def Uv:List RI:=[om 18 16,omk 3 18]
def Uu:List RI:=[on 19 (Fa 1 1),oo 20 (Ld 19) [19],omk 21 3,oo 22 (.idxS (.t 20) (.t 21)) [20,21],omk 4 22]
def Ut:List RI:=[om 23 4,oo 24 (.bin .lss (.t 23) (.c (.u8 32))) [23],omk 25 24,.grp 25 false [(xi 26 25 false (Mv 4)),(xi 27 25 false (.bin .gtr (.t 26) (.c (.u8 126))))] [4,26],oo 28 (Pt 25 27) [25,27]]
def Us:List RI:=[oo 29 (Bc .add 16 1) [16],omk 16 29]
def zo:RC:=(So Uw (Sq (Kc 17 (Kk [17] .skip) (Kk [15,16,17] (.exit 0))) (Sq (Bk 1 (So Uv (So Uu (So Ut (Kc 28 (Kk [1,15,16,28] (So fL .ret)) (Kk [28] .skip)))))) (.ops Us))))
def yw:RC:=zo
def HV:List RI:=[on 31 (Fa 0 1),oo 32 (Ld 31) [31],oo 33 (Bc .eql 32 4) [32],omk 34 33,.grp 34 true [(xi 35 34 true (Fa 2 1)),(xi 36 34 true (Ld 35)),(xi 37 34 true (Bc .lss 36 0)),(xi 38 34 true (Mv 37))] [35,36,37],.grp 38 false [(xi 39 38 false (Fa 2 1)),(xi 40 38 false (Ld 39)),(xi 41 38 false (Fa 3 1)),(xi 42 38 false (Ld 41)),(xi 43 38 false (Bb .gtr 40 42))] [39,40,41,42],.grp 34 true [(xi 44 34 true (Pt 38 43)),(xi 45 34 true (Mv 44))] [38,43,44],.grp 45 false [(xi 46 45 false (Fa 3 1)),(xi 47 45 false (Ld 46)),(xi 48 45 false (Bc .gtr 47 1000000000))] [46,47],.grp 34 true [(xi 49 34 true (Pt 45 48))] [45,48],oo 50 (Pf 34 49) [34,49],omk 30 50]
def HU:List RI:=[on 52 (Fa 0 1),oo 53 (Ld 52) [52],oo 54 (Bc .neq 53 4) [53],omk 55 54,.grp 55 true [(xi 56 55 true (Fa 2 1)),(xi 57 55 true (Ld 56)),(xi 58 55 true (Bc .neq 57 0)),(xi 59 55 true (Mv 58))] [56,57,58],.grp 59 false [(xi 60 59 false (Fa 3 1)),(xi 61 59 false (Ld 60)),(xi 62 59 false (Bc .neq 61 0))] [60,61],.grp 55 true [(xi 63 55 true (Pt 59 62))] [59,62],oo 64 (Pf 55 63) [55,63],omk 51 64]
def HT:List RI:=[on 66 (Fa 0 1),oo 67 (Ld 66) [66],oo 68 (Bc .eql 67 1) [67],omk 69 68,.grp 69 true [(xi 70 69 true (Fa 1 1)),(xi 71 69 true (Ld 70)),(xi 72 69 true (.bin .neq (.t 71) (.c (.str []))))] [70,71],oo 73 (Pf 69 72) [69,72],omk 65 73]
def HS:List RI:=[oo 75 (Fa 1 1) [1],oo 76 (Ld 75) [75],oo 77 (.len true (.t 76)) [76],oo 78 (Bc .gtr 77 32) [77],omk 74 78]
def r90:RC:=(So oy (Sq (So Uy (Kc 12 (Kk [1,12] (So fL .ret)) (Kk [12] .skip))) (Sq (So Ux (Bk 0 (.loop yw))) (Sq (Bk 2 (So HV (Kc 30 (Kk [1,30] (So fL .ret)) (Kk [30] (So HU (Kc 51 (Kk [1,51] (So fL .ret)) (Kk [51] (So HT (Kc 65 (Kk [1,65] (So fL .ret)) (Kk [65] (So HS (Kc 74 (Kk [74] (So jb .ret)) (Kk [74] .skip))))))))))))) (So jM .ret)))))
def F90:FnC:=⟨r90,79,[.tmp 2],[],[]⟩
def Ur:List RI:=[omk 3 0,oo 4 (Ca 132 [.t 3,ci 10]) [3],omk 2 4]
def r91:RC:=(So EM (So Ur .ret))
def F91:FnC:=⟨r91,5,[.tmp 2],[],[]⟩
def Uq:List RI:=[on 5 (Mc 0),on 6 (Mc 0),on 7 (Mc (-1)),on 8 (Mc 0)]
def Up:List RI:=[om 14 5,om 15 0,oo 16 (.len true (.t 15)) [15],oo 17 (Bb .lss 14 16) [14,16],omk 18 17,.grp 18 true [(xi 19 18 true (Mv 0)),(xi 20 18 true (Mv 5)),(xi 21 18 true (.idxS (.t 19) (.t 20))),(xi 22 18 true (.bin .eql (.t 21) (.c (.u8 42))))] [19,20,21],oo 23 (Pf 18 22) [18,22],omk 13 23]
def Uo:List RI:=[om 24 5,om 25 6,omk 26 5,oo 27 (Bc .add 26 1) [26],omk 7 24,omk 8 25,omk 5 27]
def Un:List FI:=[Fm 0 29 5,Fm 1 30 0,Fs 2 31 (.len true (.t 30)),Fs 3 32 (Bb .lss 29 31),Fm 4 33 32,Fi 5 34 33 true (Mv 0),Fi 6 35 33 true (Mv 5),Fi 7 36 33 true (.idxS (.t 34) (.t 35)),Fi 8 37 33 true (.bin .eql (.t 36) (.c (.u8 63))),Fi 9 38 33 true (Mv 37),Fi 10 39 38 false (Mv 0),Fi 11 40 38 false (Mv 5),Fi 12 41 38 false (.idxS (.t 39) (.t 40)),Fi 13 42 38 false (Mv 1),Fi 14 43 38 false (Mv 6),Fi 15 44 38 false (Ia 1 42 43),Fi 16 45 38 false (Ld 44),Fi 17 46 38 false (Bb .eql 41 45),Fi 18 47 33 true (Pt 38 46),Fs 19 48 (Pf 33 47),Fm 20 28 48]
def Um:List RI:=[omk 49 5,oo 50 (Bc .add 49 1) [49],omk 51 6,oo 52 (Bc .add 51 1) [51],omk 5 50,omk 6 52]
def Ul:List RI:=[om 54 7,oo 55 (Bc .geq 54 0) [54],omk 53 55]
def Uk:List RI:=[om 56 7,oo 57 (Bc .add 56 1) [56],om 58 8,oo 59 (Bc .add 58 1) [58],omk 60 8,oo 61 (Bc .add 60 1) [60],omk 5 57,omk 6 59,omk 8 61]
def zm:RC:=(Sq (So P1 (Kc 12 (Kk [12] .skip) (Kk [1,6,7,8,12] (.exit 0)))) (Bk 1 (Bk 2 (So Up (Kc 13 (Kk [7,8,13] (.ops Uo)) (Kk [13] (Sq (.flt [0,0,2,7,15,31,31,127,255,511,1023,1023,4095,1023,1023,25599,58367,131071,262143,524287,1048575] [] Un [29,30,31,32,33,34,35,36,37,38,39,40,41,42,43,44,45,46,47,48]) (Kc 28 (Kk [28] (.ops Um)) (Kk [5,6,28] (So Ul (Kc 53 (Kk [53] (.ops Uk)) (Kk [0,1,7,8,53] (So iV .ret)))))))))))))
def yv:RC:=zm
def HR:List RI:=[omk 62 0,omk 63 5,oo 64 (.slcS (.t 62) (some (.t 63)) none) [62,63],oo 65 (Ca 133 [.t 64,(.c (.str [42]))]) [64],oo 66 (.bin .eql (.t 65) (.c (.str []))) [65],omk 4 66]
def r92:RC:=(So lJ (So Uq (Sq (Bk 0 (.loop yv)) (So HR .ret))))
def F92:FnC:=⟨r92,67,[.tmp 4],[],[]⟩
def Px:List RI:=[oo 4 (.mov (.c (.str []))) [4],oo 5 (Mb false) [5]]
def Uj:List RI:=[omk 6 0,omk 7 1,oo 8 (Ca 134 [.t 6,.t 7]) [6,7],on 9 (.ext (.t 8) 0),oo 10 (.ext (.t 8) 1) [8],omk 4 9,omk 5 10]
def r93:RC:=(So Px (So Uj .ret))
def F93:FnC:=⟨r93,11,[.tmp 4,.tmp 5],[],[]⟩
def Ui:List RI:=[om 6 0,oo 7 (.bin .eql (.t 6) (.c (.str []))) [6],omk 8 7,.grp 8 false [(xi 9 8 false (Mv 0)),(xi 10 8 false (.len true (.t 9))),(xi 11 8 false (Bc .gtr 10 10))] [9,10],oo 12 (Pt 8 11) [8,11],omk 13 12,.grp 13 false [(xi 14 13 false (Mv 0)),(xi 15 13 false (.len true (.t 14))),(xi 16 13 false (Bc .gtr 15 1)),(xi 17 13 false (Mv 16))] [14,15,16],.grp 17 true [(xi 18 17 true (Mv 0)),(xi 19 17 true (.idxS (.t 18) (ci 0))),(xi 20 17 true (.bin .eql (.t 19) (.c (.u8 48))))] [18,19],.grp 13 false [(xi 21 13 false (Pf 17 20))] [17,20],oo 22 (Pt 13 21) [13,21]]
def Uh:List RI:=[om 23 0,oo 24 (.len true (.t 23)) [23],on 25 (Mc 0)]
def Ug:List RI:=[on 26 (Bb .lss 25 24)]
def Uf:List RI:=[om 27 25,omk 3 27]
def Ue:List RI:=[om 28 0,om 29 3,oo 30 (.idxS (.t 28) (.t 29)) [28,29],oo 31 (.bin .lss (.t 30) (.c (.u8 48))) [30],omk 32 31,.grp 32 false [(xi 33 32 false (Mv 0)),(xi 34 32 false (Mv 3)),(xi 35 32 false (.idxS (.t 33) (.t 34))),(xi 36 32 false (.bin .gtr (.t 35) (.c (.u8 57))))] [3,33,34,35],oo 37 (Pt 32 36) [32,36]]
def Ud:List RI:=[oo 38 (Bc .add 25 1) [25],omk 25 38]
def Qo:RC:=(So Ug (Sq (Kc 26 (Kk [26] .skip) (Kk [24,25,26] (.exit 0))) (Sq (Bk 1 (So Uf (So Ue (Kc 37 (Kk [0,24,25,37] (So oH .ret)) (Kk [37] .skip))))) (.ops Ud))))
def Pw:RC:=Qo
def HQ:List RI:=[omk 40 0,oo 41 (Ca 135 [.t 40]) [40],omk 39 41,on 42 (.ext (.t 39) 0),oo 43 (.ext (.t 39) 1) [39],omk 4 42,.op (xm 5 43) [5,43]]
def HP:List RI:=[omk 44 4,omk 2 44]
def r94:RC:=(So my (Sq (So Ui (Kc 22 (Kk [0,22] (So oH .ret)) (Kk [22] .skip))) (Sq (So Uh (Bk 0 (.loop Pw))) (So HQ (So HP .ret)))))
def F94:FnC:=⟨r94,45,[.tmp 2],[],[]⟩
def Uc:List RI:=[om 5 0,oo 6 (.len true (.t 5)) [5],oo 7 (Bc .lss 6 1) [6],omk 8 7,.grp 8 false [(xi 9 8 false (Mv 0)),(xi 10 8 false (.len true (.t 9))),(xi 11 8 false (Bc .gtr 10 12))] [9,10],oo 12 (Pt 8 11) [8,11]]
def Ub:List RI:=[om 13 3,om 14 0,oo 15 (.len true (.t 14)) [14],oo 16 (Bb .lss 13 15) [13,15]]
def Ua:List RI:=[om 19 0,om 20 3,oo 21 (.idxS (.t 19) (.t 20)) [19,20],omk 4 21]
def T9:List RI:=[om 22 4,oo 23 (.bin .lss (.t 22) (.c (.u8 97))) [22],omk 24 23,.grp 24 false [(xi 25 24 false (Mv 4)),(xi 26 24 false (.bin .gtr (.t 25) (.c (.u8 122))))] [25],oo 27 (Pt 24 26) [24,26],omk 28 27,.grp 28 true [(xi 29 28 true (Mv 4)),(xi 30 28 true (.bin .lss (.t 29) (.c (.u8 48)))),(xi 31 28 true (Mv 30))] [29,30],.grp 31 false [(xi 32 31 false (Mv 4)),(xi 33 31 false (.bin .gtr (.t 32) (.c (.u8 57))))] [32],.grp 28 true [(xi 34 28 true (Pt 31 33))] [31,33],oo 35 (Pf 28 34) [28,34],omk 36 35,.grp 36 true [(xi 37 36 true (Mv 4)),(xi 38 36 true (.bin .neq (.t 37) (.c (.u8 45))))] [4,37],oo 39 (Pf 36 38) [36,38]]
def Pv:List RI:=[omk 17 3,oo 18 (Bc .add 17 1) [17],omk 3 18]
def Qn:RC:=(Sq (So Ub (Kc 16 (Kk [16] .skip) (Kk [0,3,16] (.exit 0)))) (Sq (Bk 1 (So Ua (So T9 (Kc 39 (Kk [0,3,39] (So kL .ret)) (Kk [39] .skip))))) (.ops Pv)))
def Pu:RC:=Qn
def r95:RC:=(So uf (Sq (So Uc (Kc 12 (Kk [0,12] (So kL .ret)) (Kk [12] .skip))) (Sq (So rm (Bk 0 (.loop Pu))) (So uk .ret))))
def F95:FnC:=⟨r95,40,[.tmp 2],[],[]⟩
def T8:List RI:=[on 4 (Fa 0 1),oo 5 (Ld 4) [4],oo 6 (Bc .lss 5 1) [5],omk 7 6,.grp 7 false [(xi 8 7 false (Fa 0 1)),(xi 9 7 false (Ld 8)),(xi 10 7 false (Bc .gtr 9 4))] [8,9],oo 11 (Pt 7 10) [7,10]]
def T7:List RI:=[om 12 3,on 13 (Fa 1 1),oo 14 (Ld 13) [13],oo 15 (.len true (.t 14)) [14],oo 16 (Bb .lss 12 15) [12,15]]
def T6:List RI:=[on 19 (Fa 1 1),oo 20 (Ld 19) [19],om 21 3,oo 22 (.idxS (.t 20) (.t 21)) [20,21],oo 23 (.bin .lss (.t 22) (.c (.u8 32))) [22],omk 24 23,.grp 24 false [(xi 25 24 false (Fa 1 1)),(xi 26 24 false (Ld 25)),(xi 27 24 false (Mv 3)),(xi 28 24 false (.idxS (.t 26) (.t 27))),(xi 29 24 false (.bin .gtr (.t 28) (.c (.u8 126))))] [25,26,27,28],oo 30 (Pt 24 29) [24,29]]
def Qm:RC:=(Sq (So T7 (Kc 16 (Kk [16] .skip) (Kk [3,16] (.exit 0)))) (Sq (Bk 1 (So T6 (Kc 30 (Kk [1,3,30] (So fL .ret)) (Kk [30] .skip)))) (.ops Pv)))
def Ps:RC:=Qm
def T5:List RI:=[on 31 (Fa 0 1),oo 32 (Ld 31) [31],oo 33 (Bc .eql 32 4) [32]]
def HO:List RI:=[on 34 (Fa 2 1),oo 35 (Ld 34) [34],oo 36 (Bc .lss 35 0) [35],omk 37 36,.grp 37 false [(xi 38 37 false (Fa 2 1)),(xi 39 37 false (Ld 38)),(xi 40 37 false (Fa 3 1)),(xi 41 37 false (Ld 40)),(xi 42 37 false (Bb .gtr 39 41))] [38,39,40,41],oo 43 (Pt 37 42) [37,42],omk 44 43,.grp 44 false [(xi 45 44 false (Fa 3 1)),(xi 46 44 false (Ld 45)),(xi 47 44 false (Bc .gtr 46 1000000000))] [45,46],oo 48 (Pt 44 47) [44,47]]
def HN:List RI:=[on 49 (Fa 2 1),oo 50 (Ld 49) [49],oo 51 (Bc .neq 50 0) [50],omk 52 51,.grp 52 false [(xi 53 52 false (Fa 3 1)),(xi 54 52 false (Ld 53)),(xi 55 52 false (Bc .neq 54 0))] [53,54],oo 56 (Pt 52 55) [52,55]]
def HM:List RI:=[on 57 (Fa 0 1),oo 58 (Ld 57) [57],oo 59 (Bc .eql 58 1) [58],omk 60 59,.grp 60 true [(xi 61 60 true (Fa 1 1)),(xi 62 60 true (Ld 61)),(xi 63 60 true (.bin .neq (.t 62) (.c (.str []))))] [61,62],oo 64 (Pf 60 63) [60,63]]
def HK:List RI:=[oo 65 (Fa 1 1) [1],oo 66 (Ld 65) [65],oo 67 (.len true (.t 66)) [66],oo 68 (Bc .gtr 67 32) [67]]
def r96:RC:=(So oy (Sq (So T8 (Kc 11 (Kk [1,11] (So fL .ret)) (Kk [11] .skip))) (Sq (So rm (Bk 0 (.loop Ps))) (Sq (So T5 (Kc 33 (Kk [33] (So HO (Kc 48 (Kk [1,48] (So fL .ret)) (Kk [48] .skip)))) (Kk [33] (So HN (Kc 56 (Kk [1,56] (So fL .ret)) (Kk [56] .skip)))))) (Sq (So HM (Kc 64 (Kk [1,64] (So fL .ret)) (Kk [64] .skip))) (Sq (So HK (Kc 68 (Kk [68] (So jb .ret)) (Kk [68] .skip))) (So jM .ret)))))))
def F96:FnC:=⟨r96,69,[.tmp 2],[],[]⟩
def Pq:List RI:=[om 3 0,oo 4 (Bc .lss 3 10) [3]]
def T4:List RI:=[omk 5 0,oo 6 (.bin .add (ci 48) (.t 5)) [5],oo 7 (.toInt .u8 (.t 6)) [6],oo 8 (.litB [.t 7]) [7],omk 2 8]
def T3:List RI:=[om 9 0,oo 10 (Bc .quo 9 10) [9],oo 11 (Ca 97 [.t 10]) [10],omk 12 0,oo 13 (Bc .rem 12 10) [12],oo 14 (.bin .add (ci 48) (.t 13)) [13],oo 15 (.toInt .u8 (.t 14)) [14],oo 16 (.litB [.t 15]) [15],oo 17 (.app [.u8 0] 1 (.t 11) (.t 16)) [11,16],omk 2 17]
def r97:RC:=(So mu (Sq (So Pq (Kc 4 (Kk [4] (So T4 .ret)) (Kk [4] .skip))) (So T3 .ret)))
def F97:FnC:=⟨r97,18,[.tmp 2],[0],[]⟩
def T2:List RI:=[om 4 3,om 5 0,oo 6 (Ln 5) [5],oo 7 (Bb .lss 4 6) [4,6]]
def T1:List RI:=[om 10 0,om 11 3,oo 12 (Ia 1 10 11) [10,11],oo 13 (Ld 12) [12],oo 14 (.bin .lss (.t 13) (.c (.u8 32))) [13],omk 15 14,.grp 15 false [(xi 16 15 false (Mv 0)),(xi 17 15 false (Mv 3)),(xi 18 15 false (Ia 1 16 17)),(xi 19 15 false (Ld 18)),(xi 20 15 false (.bin .gtr (.t 19) (.c (.u8 126))))] [16,17,18,19],oo 21 (Pt 15 20) [15,20]]
def T0:List RI:=[omk 8 3,oo 9 (Bc .add 8 1) [8],omk 3 9]
def Ql:RC:=(Sq (So T2 (Kc 7 (Kk [7] .skip) (Kk [3,7] (.exit 0)))) (Sq (Bk 1 (So T1 (Kc 21 (Kk [0,3,21] (So kL .ret)) (Kk [21] .skip)))) (.ops T0)))
def Pp:RC:=Ql
def TZ:List RI:=[omk 22 0,oo 23 (Ln 22) [22],oo 24 (Bc .gtr 23 0) [23],omk 2 24]
def r98:RC:=(So uf (Sq (So rm (Bk 0 (.loop Pp))) (So TZ .ret)))
def F98:FnC:=⟨r98,25,[.tmp 2],[],[]⟩
def TY:List RI:=[omk 5 0]
def TX:List RI:=[on 7 (Bc .eql 5 0),omk 6 7]
def TW:List RI:=[omk 8 1,oo 9 (Ca 136 [.t 8]) [8],omk 4 9]
def TV:List RI:=[oo 11 (Bc .eql 5 1) [5],omk 10 11]
def TU:List RI:=[omk 12 1,oo 13 (Ca 80 [.t 12]) [12],omk 4 13]
def r99:RC:=(So mw (Sq (So TY (Bk 0 (So TX (Kc 6 (Kk [5,6] (So TW .ret)) (Kk [6] (So TV (Kc 10 (Kk [10] (So TU .ret)) (Kk [1,10] .skip)))))))) (So qM .ret)))
def F99:FnC:=⟨r99,14,[.tmp 4],[],[]⟩
def OI:List RI:=[om 9 1,oo 10 (Ln 9) [9],oo 11 (Bc .add 10 1) [10],oo 12 (.mk [.bool false] 1 (.t 11) (.t 11)) [11],omk 5 12]
def OH:List RI:=[om 13 5,oo 14 (.iaddrL 1 (.t 13) (ci 0)) [13],.op ⟨none,none,.store 1 (.t 14) (.c (.bool true))⟩ [14]]
def OG:List RI:=[om 15 6,om 16 0,oo 17 (.len true (.t 16)) [16],oo 18 (Bb .lss 15 17) [15,17]]
def OF:List RI:=[om 21 1,oo 22 (Ln 21) [21],oo 23 (Bc .add 22 1) [22],oo 24 (.mk [.bool false] 1 (.t 23) (.t 23)) [23],omk 7 24]
def OE:List RI:=[om 25 8,om 26 1,oo 27 (Ln 26) [26],oo 28 (Bb .leq 25 27) [25,27]]
def OD:List RI:=[om 32 0,om 33 6,oo 34 (.idxS (.t 32) (.t 33)) [32,33],oo 35 (.bin .eql (.t 34) (.c (.u8 42))) [34],omk 31 35]
def OC:List RI:=[om 36 7,om 37 8,om 38 5,om 39 8,oo 40 (Ia 1 38 39) [38,39],oo 41 (Ld 40) [40],omk 42 41,.grp 42 false [(xi 43 42 false (Mv 8)),(xi 44 42 false (Bc .gtr 43 0)),(xi 45 42 false (Mv 44))] [43,44],.grp 45 true [(xi 46 45 true (Mv 7)),(xi 47 45 true (Mv 8)),(xi 48 45 true (Bc .sub 47 1)),(xi 49 45 true (Ia 1 46 48)),(xi 50 45 true (Ld 49))] [46,47,48,49],.grp 42 false [(xi 51 42 false (Pf 45 50))] [45,50],oo 52 (Pt 42 51) [42,51],oo 53 (Ia 1 36 37) [36,37],Sr 1 53 52 [52,53]]
def CO:List RI:=[om 55 8,oo 56 (Bc .gtr 55 0) [55],omk 54 56]
def CN:List FI:=[Fm 0 57 7,Fm 1 58 8,Fm 2 59 5,Fm 3 60 8,Fs 4 61 (Bc .sub 60 1),Fs 5 62 (Ia 1 59 61),Fs 6 63 (Ld 62),Fm 7 64 63,Fi 8 65 64 true (Mv 0),Fi 9 66 64 true (Mv 6),Fi 10 67 64 true (.idxS (.t 65) (.t 66)),Fi 11 68 64 true (.bin .eql (.t 67) (.c (.u8 63))),Fi 12 69 64 true (Mv 68),Fi 13 70 69 false (Mv 0),Fi 14 71 69 false (Mv 6),Fi 15 72 69 false (.idxS (.t 70) (.t 71)),Fi 16 73 69 false (Mv 1),Fi 17 74 69 false (Mv 8),Fi 18 75 69 false (Bc .sub 74 1),Fi 19 76 69 false (Ia 1 73 75),Fi 20 77 69 false (Ld 76),Fi 21 78 69 false (Bb .eql 72 77),Fi 22 79 64 true (Pt 69 78),Fs 23 80 (Pf 64 79),Fs 24 81 (Ia 1 57 58),Fr 25 1 81 80]
def CM:List RI:=[omk 29 8,oo 30 (Bc .add 29 1) [29],omk 8 30]
def tT:RC:=(Sq (So OE (Kc 28 (Kk [28] .skip) (Kk [5,8,28] (.exit 2)))) (Sq (Bk 3 (Bk 4 (So OD (Kc 31 (Kk [31] (.ops OC)) (Kk [31] (So CO (Kc 54 (Kk [54] (.flt [0,0,0,0,8,28,60,124,252,252,1020,2044,4092,8188,8188,32764,8188,8188,139260,466940,991228,2097148,4194300,8388604,16777215,33554431] [] CN [57,58,59,60,61,62,63,64,65,66,67,68,69,70,71,72,73,74,75,76,77,78,79,80,81])) (Kk [54] .skip)))))))) (.ops CM)))
def s8:RC:=tT
def CL:List RI:=[omk 82 7,omk 5 82]
def CJ:List RI:=[omk 19 6,oo 20 (Bc .add 19 1) [19],omk 6 20]
def tQ:RC:=(.post (Sq (So OG (Kc 18 (Kk [18] .skip) (Kk [0,6,18] (.exit 0)))) (Sq (Bk 1 (So OF (Sq (So ur (Bk 2 (.loop s8))) (.ops CL)))) (.ops CJ))) [.pub 5])
def s7:RC:=tQ
def CI:List RI:=[omk 83 5,omk 84 1,oo 85 (Ln 84) [84],oo 86 (Ia 1 83 85) [83,85],oo 87 (Ld 86) [86],omk 4 87]
def xlZ:RC:=(So lJ (So OI (So OH (Sq (So lI (Bk 0 (.pre [.pub 5] (.loop s7)))) (So CI .ret)))))
def xcK:FnC:=⟨xlZ,88,[.tmp 4],[],[]⟩
def OB:List RI:=[on 8 (Lt 7 1),oo 9 (Ca 44 [.t 8]) [8],oo 10 (Bc .neq 9 0) [9]]
def OA:List RI:=[on 11 (Ca 117 [(.c (.byt [] .clip)),ci 1,ci 21]),omk 3 11]
def Oz:List RI:=[omk 12 3,on 13 (Fa 0 1),oo 14 (Ld 13) [13],oo 15 (.s2b (.t 14)) [14],oo 16 (Ca 118 [.t 12,.t 15]) [12,15],omk 3 16]
def Oy:List FI:=[Fm 0 17 3,Fs 1 18 (Fa 1 1),Fs 2 19 (Ld 18),Fs 4 21 (Fa 2 1),Fs 5 22 (Ld 21),Fz 3 20 (Ca 117 [.t 17,ci 4,.t 19]),Fz 6 23 (Ca 117 [.t 20,ci 4,.t 22]),⟨7,false,(xm 3 23)⟩]
def Ox:List FI:=[Fm 0 24 3,Fs 1 25 (Fa 3 1),Fs 2 26 (Ld 25),Fs 4 28 (Fa 4 1),Fs 5 29 (Ld 28),Fz 3 27 (Ca 117 [.t 24,ci 6,.t 26]),Fz 6 30 (Ca 117 [.t 27,ci 6,.t 29]),⟨7,false,(xm 3 30)⟩]
def Ow:List RI:=[omk 31 3,on 32 (Fa 5 1),oo 33 (Ld 32) [32],oo 34 (Ln 33) [33],oo 35 (Ca 117 [.t 31,ci 1,.t 34]) [31,34],omk 3 35]
def Ov:List RI:=[on 36 (Fa 5 1),oo 37 (Ld 36) [36],on 38 (Ln 37),on 39 (Mc 0)]
def Ou:List RI:=[on 40 (Bb .lss 39 38)]
def CG:List RI:=[on 41 (Ia 4 37 39),oo 42 (Lt 4 41) [41],on 5 (.new (.rc Zq1)),Sr 4 5 42 [42]]
def CF:List FI:=[Fm 0 43 3,Fs 1 44 (Fa 0 5),Fs 2 45 (Ld 44),Fs 4 47 (Fa 1 5),Fs 5 48 (Ld 47),Fs 6 49 (.s2b (.t 48)),Fz 3 46 (Ca 117 [.t 43,ci 1,.t 45]),Fz 7 50 (Ca 118 [.t 46,.t 49]),⟨8,false,(xm 3 50)⟩]
def CE:List FI:=[Fm 0 51 3,Fs 1 52 (Fa 2 5),Fs 2 53 (Ld 52),Fs 4 55 (Fa 3 5),Fs 5 56 (Ld 55),Fz 3 54 (Ca 117 [.t 51,ci 4,.t 53]),Fz 6 57 (.app [.u8 0] 1 (.t 54) (.t 56)),⟨7,false,(xm 3 57)⟩]
def CD:List RI:=[oo 58 (Bc .add 39 1) [39],omk 39 58]
def tP:RC:=(.post (So Ou (Sq (Kc 40 (Kk [40] .skip) (Kk [37,38,39,40] (.exit 0))) (Sq (Bk 1 (So CG (Sq (.flt [0,0,2,7,0,16,48,127,255] [] CF [43,44,45,46,47,48,49,50]) (.flt [0,0,2,7,0,16,63,127] [157] CE [5,51,52,53,54,55,56,57])))) (.ops CD)))) [.gc [105],.gcr 47000 48000,.gcr 55000 56000,.tok 3 103])
def mW:RC:=tP
def CC:List RI:=[omk 59 3,on 60 (Fa 6 1),oo 61 (Ld 60) [60],oo 62 (Ln 61) [61],oo 63 (Ca 117 [.t 59,ci 1,.t 62]) [59,62],omk 3 63]
def CB:List RI:=[oo 64 (Fa 6 1) [1],oo 65 (Ld 64) [64],on 66 (Ln 65),on 67 (Mc 0)]
def CA:List RI:=[on 68 (Bb .lss 67 66)]
def Cz:List RI:=[on 69 (Ia 4 65 67),oo 70 (Lt 4 69) [69],on 7 (.new (.rc Zq4)),Sr 4 7 70 [70]]
def Cy:List FI:=[Fm 0 71 3,Fs 1 72 (Fa 0 7),Fs 2 73 (Ld 72),Fs 4 75 (Fa 1 7),Fs 5 76 (Ld 75),Fs 6 77 (.s2b (.t 76)),Fz 3 74 (Ca 117 [.t 71,ci 1,.t 73]),Fz 7 78 (Ca 118 [.t 74,.t 77]),⟨8,false,(xm 3 78)⟩]
def Cx:List FI:=[Fm 0 79 3,Fs 1 80 (Fa 2 7),Fs 2 81 (Ld 80),Fs 4 83 (Fa 3 7),Fs 5 84 (Ld 83),Fz 3 82 (Ca 117 [.t 79,ci 4,.t 81]),Fz 6 85 (Ca 117 [.t 82,ci 4,.t 84]),⟨7,false,(xm 3 85)⟩]
def Cw:List RI:=[oo 86 (Bc .add 67 1) [67],omk 67 86]
def tO:RC:=(.post (So CA (Sq (Kc 68 (Kk [68] .skip) (Kk [65,66,67,68] (.exit 2))) (Sq (Bk 3 (So Cz (Sq (.flt [0,0,2,7,0,16,48,127,255] [] Cy [71,72,73,74,75,76,77,78]) (.flt [0,0,2,7,0,16,63,127] [] Cx [7,79,80,81,82,83,84,85])))) (.ops Cw)))) [.gc [107],.gcr 75000 76000,.gcr 83000 84000])
def mV:RC:=tO
def Cv:List RI:=[omk 87 3,omk 2 87]
def xlY:RC:=(So uq (Sq (So OB (Kc 10 (Kk [1,10] (So up .ret)) (Kk [10] .skip))) (So OA (So Oz (Sq (.flt [0,0,2,7,0,16,63,127] [] Oy [17,18,19,20,21,22,23]) (Sq (.flt [0,0,2,7,0,16,63,127] [] Ox [24,25,26,27,28,29,30]) (So Ow (Sq (So Ov (Bk 0 (.pre [.tok 3 103] (.loop mW)))) (So CC (Sq (So CB (Bk 2 (.loop mV))) (So Cv .ret)))))))))))
def xcJ:FnC:=⟨xlY,88,[.tmp 2],[],[]⟩
def Ot:List RI:=[omk 5 0,omk 6 1,oo 7 (Ca 137 [.t 5,.t 6]) [5,6],oo 8 (Ca 69 [ci 1,.t 7]) [7],omk 4 8]
def xlX:RC:=(So mw (So Ot .ret))
def xcI:FnC:=⟨xlX,9,[.tmp 4],[],[]⟩
def Oq:List RI:=[on 0 (.new (.arr 1 (aq 3 [.str []])))]
def Oo:List RI:=[on 1 (.build [.str [],.str [],.str []] [(0,1,(.c (.str [97,99,109,101]))),(1,1,(.c (.str [118,50]))),(2,1,(.c (.str [120,45,121])))]),Sr 3 0 1 [1]]
def xlW:RC:=(So Oq (So Oo .ret))
def xcH:FnC:=⟨xlW,2,[.cell 0 3 true],[],[]⟩
def On:List RI:=[on 2 (.new (.rc Zq4))]
def Om:List RI:=[om 5 0,oo 6 (Ca 37 [.t 5,ci 5]) [5]]
def Ol:List RI:=[on 8 (Bc .eql 6 0),omk 7 8]
def Ok:List RI:=[on 9 (.build Zq4 [(0,1,(ci 1))]),Sr 4 2 9 [9]]
def Oj:List RI:=[on 11 (Bc .eql 6 1),omk 10 11]
def Oi:List RI:=[omk 12 0,oo 13 (Ca 86 [.t 12]) [12],oo 14 (.b2s (.t 13)) [13],oo 15 (.build Zq4 [(0,1,(ci 2)),(1,1,(.t 14))]) [14],Sr 4 2 15 [15]]
def Oh:List RI:=[oo 17 (Bc .eql 6 2) [6],omk 16 17]
def Og:List RI:=[on 18 (.build [.str [],.str [],.str [],.str [],.str [],.str [],.str []] [(0,1,(.c (.str []))),(1,1,(.c (.str [42]))),(2,1,(.c (.str [97,61,63]))),(3,1,(.c (.str [42,61,42]))),(4,1,(.c (.str [63,111,42,53]))),(5,1,(.c (.str [99,111,117,110,116,61,63,63]))),(6,1,(.c (.str [42,97,42,42,49,42])))]),on 3 (.new (.arr 1 (aq 7 [.str []]))),Sr 7 3 18 [18]]
def Of:List RI:=[omk 19 0,oo 20 (Ca 37 [.t 19,ci 7]) [19],oo 21 (.iaddrA 7 1 (.t 3) (.t 20)) [3,20],oo 22 (Ld 21) [21],oo 23 (.build Zq4 [(0,1,(ci 3)),(1,1,(.t 22))]) [22],Sr 4 2 23 [23]]
def Oe:List RI:=[om 24 0,oo 25 (Ca 37 [.t 24,ci 20]) [24],omk 4 25]
def Cu:List FI:=[Fs 0 26 (.build [.str [],.str [],.str []] [(0,1,(.c (.str [99,111,117,110,116,61]))),(1,1,(.c (.str [97,61]))),(2,1,(.c (.str [])))]),Fm 1 27 0,Fm 4 30 4,Fm 5 31 4,Fm 6 32 0,Fz 2 28 (Ca 37 [.t 27,ci 3]),Fs 3 29 (.idxA 3 1 false (.t 26) (.t 28)),Fz 7 33 (Ca 37 [.t 32,ci 30]),Fs 8 34 (Bb .add 31 33),Fs 9 35 (.build Zq4 [(0,1,(ci 4)),(1,1,(.t 29)),(2,1,(.t 30)),(3,1,(.t 34))]),Fr 10 4 2 35]
def xlV:RC:=(So On (Sq (So Om (Bk 0 (So Ol (Kc 7 (Kk [0,6,7] (So Ok .ret)) (Kk [7] (So Oj (Kc 10 (Kk [6,10] (So Oi .ret)) (Kk [10] (So Oh (Kc 16 (Kk [16] (So Og (So Of .ret))) (Kk [16] .skip))))))))))) (So Oe (Sq (.flt [0,0,2,7,0,0,0,70,230,511,1023] [] Cu [0,4,26,27,28,29,30,31,32,33,34,35]) .ret))))
def xcG:FnC:=⟨xlV,36,[.cell 2 4 true],[],[]⟩
def Od:List RI:=[on 0 (.new (.arr 1 (aq 5 [.str []])))]
def Oc:List RI:=[on 1 (.build [.str [],.str [],.str [],.str [],.str []] [(0,1,(.c (.str [97]))),(1,1,(.c (.str [103,114,117,98]))),(2,1,(.c (.str [108,105,110,117,120]))),(3,1,(.c (.str [110,101,116,45,48]))),(4,1,(.c (.str [116,119,101,108,118,101,45,98,121,116,101,115])))]),Sr 5 0 1 [1]]
def xlU:RC:=(So Od (So Oc .ret))
def xcF:FnC:=⟨xlU,2,[.cell 0 5 true],[],[]⟩
def zc:List RI:=[on 3 (.mov (.c (.byt [] .clip)))]
def Ob:List RI:=[om 5 0,oo 6 (Ca 37 [.t 5,ci 4]) [5],oo 7 (.bin .add (ci 1) (.t 6)) [6],omk 4 7]
def Oa:List RI:=[om 8 4,oo 9 (Bc .gtr 8 0) [8]]
def N9:List RI:=[omk 12 3,om 13 0,oo 14 (Ca 86 [.t 13]) [13],oo 15 (.app [.u8 0] 1 (.t 12) (.t 14)) [12,14],on 16 (.litB [(.c (.u8 10))]),oo 17 (.app [.u8 0] 1 (.t 15) (.t 16)) [15,16],omk 3 17]
def N8:List RI:=[omk 10 4,oo 11 (Bc .sub 10 1) [10],omk 4 11]
def Ar:RC:=(.post (Sq (So Oa (Kc 9 (Kk [9] .skip) (Kk [0,4,9] (.exit 0)))) (Sq (Bk 1 (.ops N9)) (.ops N8))) [.gc [115],.tok 3 103])
def zb:RC:=Ar
def N7:List RI:=[omk 18 3,omk 2 18]
def xlT:RC:=(So mu (So zc (Sq (So Ob (Bk 0 (.pre [.tok 3 103] (.loop zb)))) (So N7 .ret))))
def xcE:FnC:=⟨xlT,19,[.tmp 2],[],[]⟩
def N6:List RI:=[omk 8 0,oo 9 (.toInt .u8 (.t 8)) [8],oo 10 (.litB [.t 9]) [9],omk 5 10]
def N5:List RI:=[om 11 6,om 12 1,oo 13 (Ln 12) [12],oo 14 (Bb .lss 11 13) [11,13]]
def N4:List RI:=[om 17 1,om 18 6,oo 19 (Ia 1 17 18) [17,18],oo 20 (Ld 19) [19],oo 21 (Ln 20) [20],omk 7 21]
def N3:List RI:=[omk 22 5,om 23 7,oo 24 (.bin .shr (.t 23) (.c (.int .u64 24))) [23],oo 25 (.toInt .u8 (.t 24)) [24],om 26 7,oo 27 (.bin .shr (.t 26) (.c (.int .u64 16))) [26],oo 28 (.toInt .u8 (.t 27)) [27],om 29 7,oo 30 (.bin .shr (.t 29) (.c (.int .u64 8))) [29],oo 31 (.toInt .u8 (.t 30)) [30],omk 32 7,oo 33 (.toInt .u8 (.t 32)) [32],oo 34 (.litB [.t 25,.t 28,.t 31,.t 33]) [25,28,31,33],oo 35 (.app [.u8 0] 1 (.t 22) (.t 34)) [22,34],omk 5 35]
def N2:List RI:=[omk 36 5,om 37 1,om 38 6,oo 39 (Ia 1 37 38) [37,38],oo 40 (Ld 39) [39],oo 41 (.app [.u8 0] 1 (.t 36) (.t 40)) [36,40],omk 5 41]
def N1:List RI:=[omk 15 6,oo 16 (Bc .add 15 1) [15],omk 6 16]
def Aq:RC:=(.post (Sq (So N5 (Kc 14 (Kk [14] .skip) (Kk [1,6,14] (.exit 0)))) (Sq (Bk 1 (So N4 (So N3 (.ops N2)))) (.ops N1))) [.tok 5 105])
def N0:RC:=Aq
def NZ:List RI:=[omk 42 5,omk 4 42]
def xlS:RC:=(So mw (So N6 (Sq (So lI (Bk 0 (.pre [.tok 5 105] (.loop N0)))) (So NZ .ret))))
def xcD:FnC:=⟨xlS,43,[.tmp 4],[],[]⟩
def NY:List RI:=[om 6 0,oo 7 (Ln 6) [6],oo 8 (Bc .add 7 72) [7],oo 9 (.mkB (ci 0) (.t 8)) [8],om 10 0,.dir (.tok 9 109),oo 11 (.app [.u8 0] 1 (.t 9) (.t 10)) [9,10],on 12 (.litB [(.c (.u8 128))]),oo 13 (.app [.u8 0] 1 (.t 11) (.t 12)) [11,12],omk 3 13]
def NX:List RI:=[om 14 3,oo 15 (Ln 14) [14],oo 16 (Bc .rem 15 64) [15],oo 17 (Bc .neq 16 56) [16]]
def NW:List RI:=[omk 18 3,on 19 (.litB [(.c (.u8 0))]),oo 20 (.app [.u8 0] 1 (.t 18) (.t 19)) [18,19],omk 3 20]
def Ap:RC:=(.post (Sq (So NX (Kc 17 (Kk [17] .skip) (Kk [17] (.exit 0)))) (Bk 1 (.ops NW))) [.tok 3 103])
def za:RC:=Ap
def NV:List RI:=[omk 21 0,oo 22 (Ln 21) [21],oo 23 (.toInt .u64 (.t 22)) [22],oo 24 (.bin .mul (.t 23) (.c (.int .u64 8))) [23],omk 4 24]
def NU:List RI:=[on 5 (Mc 56)]
def NT:List RI:=[om 25 5,oo 26 (Bc .geq 25 0) [25]]
def NS:List RI:=[omk 29 3,om 30 4,om 31 5,oo 32 (.toInt .u64 (.t 31)) [31],oo 33 (Bb .shr 30 32) [30,32],oo 34 (.toInt .u8 (.t 33)) [33],oo 35 (.litB [.t 34]) [34],oo 36 (.app [.u8 0] 1 (.t 29) (.t 35)) [29,35],omk 3 36]
def NR:List RI:=[omk 27 5,oo 28 (Bc .sub 27 8) [27],omk 5 28]
def tN:RC:=(.post (Sq (So NT (Kc 26 (Kk [26] .skip) (Kk [4,5,26] (.exit 2)))) (Sq (Bk 3 (.ops NS)) (.ops NR))) [.tok 3 103])
def s6:RC:=tN
def sZ:List RI:=[omk 37 3,omk 2 37]
def xlR:RC:=(So mu (So NY (Sq (Bk 0 (.pre [.tok 3 103] (.loop za))) (So NV (Sq (So NU (Bk 2 (.pre [.tok 3 103] (.loop s6)))) (So sZ .ret))))))
def xcC:FnC:=⟨xlR,38,[.tmp 2],[],[]⟩
def NQ:List RI:=[on 4 (.new (.arr 1 (aq 80 [.int .u32 0])))]
def NP:List RI:=[on 14 (Mc 0)]
def NO:List RI:=[on 15 (Bc .lss 14 80)]
def NN:List RI:=[om 16 14,omk 5 16]
def NM:List RI:=[om 17 5,oo 18 (Bc .lss 17 16) [17]]
def NL:List RI:=[om 19 5,om 20 1,omk 21 5,oo 22 (Ca 141 [.t 20,.t 21]) [20,21],oo 23 (.iaddrA 80 1 (.t 4) (.t 19)) [19],Sr 1 23 22 [22,23]]
def NK:List FI:=[Fm 0 24 5,Fm 1 25 5,Fs 2 26 (Bc .sub 25 3),Fs 3 27 (.iaddrA 80 1 (.t 4) (.t 26)),Fs 4 28 (Ld 27),Fm 5 29 5,Fs 6 30 (Bc .sub 29 8),Fs 7 31 (.iaddrA 80 1 (.t 4) (.t 30)),Fs 8 32 (Ld 31),Fs 9 33 (Bb .xor 28 32),Fm 10 34 5,Fs 11 35 (Bc .sub 34 14),Fs 12 36 (.iaddrA 80 1 (.t 4) (.t 35)),Fs 13 37 (Ld 36),Fs 14 38 (Bb .xor 33 37),Fm 15 39 5,Fs 16 40 (Bc .sub 39 16),Fs 17 41 (.iaddrA 80 1 (.t 4) (.t 40)),Fs 18 42 (Ld 41),Fs 19 43 (Bb .xor 38 42),Fz 20 44 (Ca 142 [.t 43,ci 1]),Fs 21 45 (.iaddrA 80 1 (.t 4) (.t 24)),Fr 22 1 45 44]
def NJ:List RI:=[oo 46 (Bc .add 14 1) [14],omk 14 46]
def Ao:RC:=(So NO (Sq (Kc 15 (Kk [15] .skip) (Kk [1,14,15] (.exit 0))) (Sq (Bk 1 (So NN (So NM (Kc 18 (Kk [18] (.ops NL)) (Kk [18] (.flt [0,0,2,6,14,0,32,96,224,510,0,1024,3072,7168,16382,0,32768,98304,229376,524286,1048574,2097151,4194303] [] NK [5,24,25,26,27,28,29,30,31,32,33,34,35,36,37,38,39,40,41,42,43,44,45])))))) (.ops NJ))))
def y9:RC:=Ao
def NI:List FI:=[Fm 0 47 0,Fs 1 48 (.nchk (.t 47)),Fs 2 49 (.iaddrA 5 1 (.t 48) (ci 0)),Fs 3 50 (Ld 49),Fm 4 51 0,Fs 5 52 (.nchk (.t 51)),Fs 6 53 (.iaddrA 5 1 (.t 52) (ci 1)),Fs 7 54 (Ld 53),Fm 8 55 0,Fs 9 56 (.nchk (.t 55)),Fs 10 57 (.iaddrA 5 1 (.t 56) (ci 2)),Fs 11 58 (Ld 57),Fm 12 59 0,Fs 13 60 (.nchk (.t 59)),Fs 14 61 (.iaddrA 5 1 (.t 60) (ci 3)),Fs 15 62 (Ld 61),Fm 16 63 0,Fs 17 64 (.nchk (.t 63)),Fs 18 65 (.iaddrA 5 1 (.t 64) (ci 4)),Fs 19 66 (Ld 65),Fm 20 6 50,Fm 21 7 54,Fm 22 8 58,Fm 23 9 62,Fm 24 10 66]
def Ct:List RI:=[on 67 (Mc 0)]
def Cs:List RI:=[on 68 (Bc .lss 67 80)]
def Cr:List RI:=[om 69 67,omk 11 69]
def Cq:List RI:=[oo 12 (.mov (.c (.int .u32 0))) [12],oo 13 (.mov (.c (.int .u32 0))) [13]]
def Cp:List RI:=[om 70 11,oo 71 (Bc .quo 70 20) [70]]
def Co:List RI:=[on 78 (Bc .eql 71 0),omk 77 78]
def Cn:List RI:=[om 79 7,om 80 8,oo 81 (Bb .and 79 80) [79,80],om 82 7,oo 83 (.un .xor (.t 82)) [82],om 84 9,oo 85 (Bb .and 83 84) [83,84],oo 86 (Bb .xor 81 85) [81,85],omk 12 86,on 13 (.mov (.c (.int .u32 1518500249)))]
def Cm:List RI:=[on 88 (Bc .eql 71 1),omk 87 88]
def Cl:List RI:=[om 89 7,om 90 8,oo 91 (Bb .xor 89 90) [89,90],om 92 9,oo 93 (Bb .xor 91 92) [91,92],omk 12 93,on 13 (.mov (.c (.int .u32 1859775393)))]
def Ck:List RI:=[oo 95 (Bc .eql 71 2) [71],omk 94 95]
def Cj:List RI:=[om 96 7,om 97 8,oo 98 (Bb .and 96 97) [96,97],om 99 7,om 100 9,oo 101 (Bb .and 99 100) [99,100],oo 102 (Bb .xor 98 101) [98,101],om 103 8,om 104 9,oo 105 (Bb .and 103 104) [103,104],oo 106 (Bb .xor 102 105) [102,105],omk 12 106,on 13 (.mov (.c (.int .u32 2400959708)))]
def Ci:List RI:=[om 72 7,om 73 8,oo 74 (Bb .xor 72 73) [72,73],om 75 9,oo 76 (Bb .xor 74 75) [74,75],omk 12 76,on 13 (.mov (.c (.int .u32 3395469782)))]
def Ch:List FI:=[Fm 0 107 6,Fm 2 109 12,Fm 4 111 10,Fm 6 113 13,Fm 8 115 11,Fs 9 116 (.iaddrA 80 1 (.t 4) (.t 115)),Fs 10 117 (Ld 116),Fm 12 119 6,Fm 13 120 7,Fm 15 122 8,Fm 16 123 9,Fz 1 108 (Ca 142 [.t 107,ci 5]),Fs 3 110 (Bb .add 108 109),Fs 5 112 (Bb .add 110 111),Fs 7 114 (Bb .add 112 113),Fs 11 118 (Bb .add 114 117),Fz 14 121 (Ca 142 [.t 120,ci 30]),⟨17,false,(xm 6 118)⟩,⟨18,false,(xm 7 119)⟩,⟨19,false,(xm 8 121)⟩,⟨20,false,(xm 9 122)⟩,⟨21,false,(xm 10 123)⟩]
def Cg:List RI:=[oo 124 (Bc .add 67 1) [67],omk 67 124]
def tM:RC:=(So Cs (Sq (Kc 68 (Kk [68] .skip) (Kk [4,67,68] (.exit 2))) (Sq (Bk 3 (So Cr (So Cq (Sq (So Cp (Bk 4 (So Co (Kc 77 (Kk [71,77] (.ops Cn)) (Kk [77] (So Cm (Kc 87 (Kk [71,87] (.ops Cl)) (Kk [87] (So Ck (Kc 94 (Kk [94] (.ops Cj)) (Kk [94] (.ops Ci)))))))))))) (.flt [0,1,0,7,0,31,0,127,0,256,768,2047,0,0,8195,0,0,131071,262143,524287,1048575,2097151] [] Ch [11,12,13,107,108,109,110,111,112,113,114,115,116,117,118,119,120,121,122,123]))))) (.ops Cg))))
def fS:RC:=tM
def Cf:List FI:=[Fm 0 125 0,Fs 1 126 (.nchk (.t 125)),Fs 2 127 (.iaddrA 5 1 (.t 126) (ci 0)),Fs 3 128 (Ld 127),Fm 4 129 6,Fs 5 130 (Bb .add 128 129),Fs 6 131 (.nchk (.t 125)),Fs 7 132 (.iaddrA 5 1 (.t 131) (ci 0)),Fr 8 1 132 130]
def Ce:List FI:=[Fm 0 133 0,Fs 1 134 (.nchk (.t 133)),Fs 2 135 (.iaddrA 5 1 (.t 134) (ci 1)),Fs 3 136 (Ld 135),Fm 4 137 7,Fs 5 138 (Bb .add 136 137),Fs 6 139 (.nchk (.t 133)),Fs 7 140 (.iaddrA 5 1 (.t 139) (ci 1)),Fr 8 1 140 138]
def Cd:List FI:=[Fm 0 141 0,Fs 1 142 (.nchk (.t 141)),Fs 2 143 (.iaddrA 5 1 (.t 142) (ci 2)),Fs 3 144 (Ld 143),Fm 4 145 8,Fs 5 146 (Bb .add 144 145),Fs 6 147 (.nchk (.t 141)),Fs 7 148 (.iaddrA 5 1 (.t 147) (ci 2)),Fr 8 1 148 146]
def Cc:List FI:=[Fm 0 149 0,Fs 1 150 (.nchk (.t 149)),Fs 2 151 (.iaddrA 5 1 (.t 150) (ci 3)),Fs 3 152 (Ld 151),Fm 4 153 9,Fs 5 154 (Bb .add 152 153),Fs 6 155 (.nchk (.t 149)),Fs 7 156 (.iaddrA 5 1 (.t 155) (ci 3)),Fr 8 1 156 154]
def Cb:List FI:=[Fm 0 157 0,Fs 1 158 (.nchk (.t 157)),Fs 2 159 (.iaddrA 5 1 (.t 158) (ci 4)),Fs 3 160 (Ld 159),Fm 4 161 10,Fs 5 162 (Bb .add 160 161),Fs 6 163 (.nchk (.t 157)),Fs 7 164 (.iaddrA 5 1 (.t 163) (ci 4)),Fr 8 1 164 162]
def xlQ:RC:=(So NQ (Sq (So NP (Bk 0 (.loop y9))) (Sq (.flt [0,1,3,7,0,16,48,112,0,256,768,1792,0,4096,12288,28672,0,65536,196608,458752,15,1048831,3149823,7405567,16777215] [] NI [47,48,49,50,51,52,53,54,55,56,57,58,59,60,61,62,63,64,65,66]) (Sq (So Ct (Bk 2 (.loop fS))) (Sq (.flt [0,1,3,7,0,31,1,127,255] [] Cf [6,125,126,127,128,129,130,131,132]) (Sq (.flt [0,1,3,7,0,31,1,127,255] [] Ce [7,133,134,135,136,137,138,139,140]) (Sq (.flt [0,1,3,7,0,31,1,127,255] [] Cd [8,141,142,143,144,145,146,147,148]) (Sq (.flt [0,1,3,7,0,31,1,127,255] [] Cc [9,149,150,151,152,153,154,155,156]) (.flt [0,1,3,7,0,31,1,127,255] [] Cb [0,10,157,158,159,160,161,162,163,164])))))))))
def xcB:FnC:=⟨xlQ,165,[],[],[]⟩
def NH:List RI:=[om 6 0,oo 7 (Ln 6) [6],oo 8 (.bin .mul (ci 4) (.t 7)) [7],oo 9 (.mkB (ci 0) (.t 8)) [8],omk 3 9]
def NG:List RI:=[omk 10 0,on 11 (Ln 10),on 12 (Mc 0)]
def NF:List RI:=[on 13 (Bb .lss 12 11)]
def NE:List RI:=[on 14 (Ia 1 10 12),oo 15 (Ld 14) [14],omk 5 15]
def ND:List RI:=[omk 16 3,om 17 5,oo 18 (.bin .shr (.t 17) (.c (.int .u64 24))) [17],oo 19 (.toInt .u8 (.t 18)) [18],om 20 5,oo 21 (.bin .shr (.t 20) (.c (.int .u64 16))) [20],oo 22 (.toInt .u8 (.t 21)) [21],om 23 5,oo 24 (.bin .shr (.t 23) (.c (.int .u64 8))) [23],oo 25 (.toInt .u8 (.t 24)) [24],omk 26 5,oo 27 (.toInt .u8 (.t 26)) [26],oo 28 (.litB [.t 19,.t 22,.t 25,.t 27]) [19,22,25,27],.dir (.tok 16 116),oo 29 (.app [.u8 0] 1 (.t 16) (.t 28)) [16,28],omk 3 29]
def NC:List RI:=[oo 30 (Bc .add 12 1) [12],omk 12 30]
def An:RC:=(.post (So NF (Sq (Kc 13 (Kk [13] .skip) (Kk [10,11,12,13] (.exit 0))) (Sq (Bk 1 (So NE (.ops ND))) (.ops NC)))) [.tok 3 103])
def y8:RC:=An
def NB:List RI:=[omk 31 3,omk 2 31]
def xlP:RC:=(So mu (So NH (Sq (So NG (Bk 0 (.pre [.tok 3 103] (.loop y8)))) (So NB .ret))))
def xcA:FnC:=⟨xlP,32,[.tmp 2],[],[]⟩
def NA:List RI:=[on 4 (.new (.arr 1 (aq 64 [.int .u32 0])))]
def Nz:List RI:=[on 18 (Bc .lss 17 64)]
def Ny:List RI:=[om 19 17,omk 5 19]
def Nw:List RI:=[om 20 5,oo 21 (Bc .lss 20 16) [20]]
def Nv:List RI:=[om 22 5,om 23 1,omk 24 5,oo 25 (Ca 141 [.t 23,.t 24]) [23,24],oo 26 (.iaddrA 64 1 (.t 4) (.t 22)) [22],Sr 1 26 25 [25,26]]
def Nu:List FI:=[Fm 0 27 5,Fs 1 28 (Bc .sub 27 15),Fs 2 29 (.iaddrA 64 1 (.t 4) (.t 28)),Fs 3 30 (Ld 29),Fm 4 31 5,Fs 5 32 (Bc .sub 31 2),Fs 6 33 (.iaddrA 64 1 (.t 4) (.t 32)),Fs 7 34 (Ld 33),Fm 8 6 30,Fm 9 7 34]
def Nt:List RI:=[om 35 6,oo 36 (Ca 142 [.t 35,ci (-7)]) [35],om 37 6,oo 38 (Ca 142 [.t 37,ci (-18)]) [37],oo 39 (Bb .xor 36 38) [36,38],omk 40 6,oo 41 (.bin .shr (.t 40) (.c (.int .u64 3))) [40],oo 42 (Bb .xor 39 41) [39,41],omk 8 42]
def Ns:List RI:=[om 43 7,oo 44 (Ca 142 [.t 43,ci (-17)]) [43],om 45 7,oo 46 (Ca 142 [.t 45,ci (-19)]) [45],oo 47 (Bb .xor 44 46) [44,46],omk 48 7,oo 49 (.bin .shr (.t 48) (.c (.int .u64 10))) [48],oo 50 (Bb .xor 47 49) [47,49],omk 9 50]
def Nr:List FI:=[Fm 0 51 5,Fm 1 52 9,Fm 2 53 5,Fs 3 54 (Bc .sub 53 7),Fs 4 55 (.iaddrA 64 1 (.t 4) (.t 54)),Fs 5 56 (Ld 55),Fs 6 57 (Bb .add 52 56),Fm 7 58 8,Fs 8 59 (Bb .add 57 58),Fm 9 60 5,Fs 10 61 (Bc .sub 60 16),Fs 11 62 (.iaddrA 64 1 (.t 4) (.t 61)),Fs 12 63 (Ld 62),Fs 13 64 (Bb .add 59 63),Fs 14 65 (.iaddrA 64 1 (.t 4) (.t 51)),Fr 15 1 65 64]
def B0:List RI:=[oo 66 (Bc .add 17 1) [17],omk 17 66]
def tK:RC:=(So Nz (Sq (Kc 18 (Kk [18] .skip) (Kk [1,17,18] (.exit 0))) (Sq (Bk 1 (So Ny (Sq (So Nw (Kc 21 (Kk [21] (So Nv (.exit 1))) (Kk [21] .skip))) (Sq (.flt [0,1,3,7,0,16,48,112,15,511] [] Nu [27,28,29,30,31,32,33,34]) (So Nt (So Ns (.flt [0,0,0,4,12,28,62,0,254,0,512,1536,3584,8190,16383,32767] [] Nr [5,8,9,51,52,53,54,55,56,57,58,59,60,61,62,63,64,65]))))))) (.ops B0))))
def sY:RC:=tK
def BZ:List RI:=[om 67 0,oo 68 (.nchk (.t 67)) [67],oo 69 (Lt 8 68) [68],on 10 (.new (.arr 1 (aq 8 [.int .u32 0]))),Sr 8 10 69 [69]]
def BY:List RI:=[on 70 (Mc 0)]
def BX:List RI:=[on 71 (Bc .lss 70 64)]
def BW:List RI:=[om 72 70,omk 11 72]
def BV:List FI:=[Fs 0 73 (.iaddrA 8 1 (.t 10) (ci 0)),Fs 1 74 (Ld 73),Fs 2 75 (.iaddrA 8 1 (.t 10) (ci 4)),Fs 3 76 (Ld 75),Fm 4 12 74,Fm 5 13 76]
def BU:List FI:=[Fs 0 77 (.iaddrA 8 1 (.t 10) (ci 7)),Fs 1 78 (Ld 77),Fm 2 79 13,Fm 4 81 13,Fm 7 84 13,Fm 11 88 13,Fs 12 89 (.iaddrA 8 1 (.t 10) (ci 5)),Fs 13 90 (Ld 89),Fs 14 91 (Bb .and 88 90),Fm 15 92 13,Fs 16 93 (.un .xor (.t 92)),Fs 17 94 (.iaddrA 8 1 (.t 10) (ci 6)),Fs 18 95 (Ld 94),Fs 19 96 (Bb .and 93 95),Fs 20 97 (Bb .xor 91 96),Fm 22 99 11,Fs 23 100 (.iaddrA 64 1 (.c (.pp iX)) (.t 99)),Fs 24 101 (Ld 100),Fm 26 103 11,Fs 27 104 (.iaddrA 64 1 (.t 4) (.t 103)),Fs 28 105 (Ld 104),Fz 3 80 (Ca 142 [.t 79,ci (-6)]),Fz 5 82 (Ca 142 [.t 81,ci (-11)]),Fs 6 83 (Bb .xor 80 82),Fz 8 85 (Ca 142 [.t 84,ci (-25)]),Fs 9 86 (Bb .xor 83 85),Fs 10 87 (Bb .add 78 86),Fs 21 98 (Bb .add 87 97),Fs 25 102 (Bb .add 98 101),Fs 29 106 (Bb .add 102 105),Fm 30 14 106]
def BT:List FI:=[Fm 0 107 12,Fm 2 109 12,Fm 5 112 12,Fm 8 115 12,Fs 9 116 (.iaddrA 8 1 (.t 10) (ci 1)),Fs 10 117 (Ld 116),Fs 11 118 (Bb .and 115 117),Fm 12 119 12,Fs 13 120 (.iaddrA 8 1 (.t 10) (ci 2)),Fs 14 121 (Ld 120),Fs 15 122 (Bb .and 119 121),Fs 16 123 (Bb .xor 118 122),Fs 17 124 (.iaddrA 8 1 (.t 10) (ci 1)),Fs 18 125 (Ld 124),Fs 19 126 (.iaddrA 8 1 (.t 10) (ci 2)),Fs 20 127 (Ld 126),Fs 21 128 (Bb .and 125 127),Fs 22 129 (Bb .xor 123 128),Fz 1 108 (Ca 142 [.t 107,ci (-2)]),Fz 3 110 (Ca 142 [.t 109,ci (-13)]),Fs 4 111 (Bb .xor 108 110),Fz 6 113 (Ca 142 [.t 112,ci (-22)]),Fs 7 114 (Bb .xor 111 113),Fs 23 130 (Bb .add 114 129),Fm 24 15 130]
def BS:List RI:=[om 131 14,omk 132 15,oo 133 (Bb .add 131 132) [131,132],on 134 (.iaddrA 8 1 (.t 10) (ci 0)),oo 135 (Ld 134) [134],on 136 (.iaddrA 8 1 (.t 10) (ci 1)),oo 137 (Ld 136) [136],on 138 (.iaddrA 8 1 (.t 10) (ci 2)),oo 139 (Ld 138) [138],on 140 (.iaddrA 8 1 (.t 10) (ci 3)),oo 141 (Ld 140) [140],omk 142 14,oo 143 (Bb .add 141 142) [141,142],on 144 (.iaddrA 8 1 (.t 10) (ci 4)),oo 145 (Ld 144) [144],on 146 (.iaddrA 8 1 (.t 10) (ci 5)),oo 147 (Ld 146) [146],on 148 (.iaddrA 8 1 (.t 10) (ci 6)),oo 149 (Ld 148) [148],oo 150 (.build [.int .u32 0,.int .u32 0,.int .u32 0,.int .u32 0,.int .u32 0,.int .u32 0,.int .u32 0,.int .u32 0] [(0,1,(.t 133)),(1,1,(.t 135)),(2,1,(.t 137)),(3,1,(.t 139)),(4,1,(.t 143)),(5,1,(.t 145)),(6,1,(.t 147)),(7,1,(.t 149))]) [133,135,137,139,143,145,147,149],Sr 8 10 150 [150]]
def BR:List RI:=[oo 151 (Bc .add 70 1) [70],omk 70 151]
def tJ:RC:=(So BX (Sq (Kc 71 (Kk [71] .skip) (Kk [4,70,71] (.exit 2))) (Sq (Bk 3 (So BW (Sq (.flt [0,1,0,4,3,31] [] BV [73,74,75,76]) (Sq (.flt [0,1,0,4,0,28,60,0,188,508,1023,0,0,4096,14336,0,32768,0,131072,491520,1046528,2097151,0,4194304,12582912,33554431,0,67108864,201326592,536870911,1073741823] [] BU [11,13,77,78,79,80,81,82,83,84,85,86,87,88,89,90,91,92,93,94,95,96,97,98,99,100,101,102,103,104,105,106]) (Sq (.flt [0,1,0,7,15,0,47,127,0,0,512,1792,0,0,8192,28672,65280,0,131072,0,524288,1966080,4194048,8388607,16777215] [] BT [12,107,108,109,110,111,112,113,114,115,116,117,118,119,120,121,122,123,124,125,126,127,128,129,130]) (.ops BS)))))) (.ops BR))))
def sX:RC:=tJ
def BQ:List RI:=[on 152 (Mc 0)]
def BP:List RI:=[on 153 (Bc .lss 152 8)]
def BO:List RI:=[om 154 152,omk 16 154]
def BN:List FI:=[Fm 0 155 0,Fm 1 156 16,Fs 2 157 (.nchk (.t 155)),Fs 3 158 (.iaddrA 8 1 (.t 157) (.t 156)),Fs 4 159 (Ld 158),Fm 5 160 16,Fs 6 161 (.iaddrA 8 1 (.t 10) (.t 160)),Fs 7 162 (Ld 161),Fs 8 163 (Bb .add 159 162),Fs 9 164 (.nchk (.t 155)),Fs 10 165 (.iaddrA 8 1 (.t 164) (.t 156)),Fr 11 1 165 163]
def BM:List RI:=[oo 166 (Bc .add 152 1) [152],omk 152 166]
def tI:RC:=(So BP (Sq (Kc 153 (Kk [153] .skip) (Kk [0,10,152,153] (.exit 4))) (Sq (Bk 5 (So BO (.flt [0,0,1,7,15,0,32,96,255,1,1023,2047] [] BN [16,155,156,157,158,159,160,161,162,163,164,165]))) (.ops BM))))
def sW:RC:=tI
def xlO:RC:=(So NA (Sq (So yz (Bk 0 (.loop sY))) (So BZ (Sq (So BY (Bk 2 (.loop sX))) (So BQ (Bk 4 (.loop sW)))))))
def xcz:FnC:=⟨xlO,167,[],[],[]⟩
def Nq:List RI:=[omk 9 0,oo 10 (.app [.u8 0] 1 (.c (.byt [] .clip)) (.t 9)) [9],omk 7 10]
def Np:List RI:=[om 11 1,oo 12 (Bc .lss 11 1) [11],omk 13 12,.grp 13 false [(xi 14 13 false (Mv 1)),(xi 15 13 false (Bc .gtr 14 8))] [14],oo 16 (Pt 13 15) [13,15]]
def No:List RI:=[omk 17 7,omk 6 17]
def Nn:List RI:=[omk 18 1,oo 19 (Bc .sub 18 1) [18],omk 8 19]
def Nm:List RI:=[om 20 8,oo 21 (Bc .geq 20 0) [20]]
def Nl:List RI:=[omk 24 7,om 25 2,oo 26 (.toInt .u64 (.t 25)) [25],om 27 8,oo 28 (.bin .mul (ci 8) (.t 27)) [27],oo 29 (.toInt .u64 (.t 28)) [28],oo 30 (Bb .shr 26 29) [26,29],oo 31 (.toInt .u8 (.t 30)) [30],oo 32 (.litB [.t 31]) [31],oo 33 (.app [.u8 0] 1 (.t 24) (.t 32)) [24,32],omk 7 33]
def Nk:List RI:=[omk 22 8,oo 23 (Bc .sub 22 1) [22],omk 8 23]
def Am:RC:=(.post (Sq (So Nm (Kc 21 (Kk [21] .skip) (Kk [2,8,21] (.exit 0)))) (Sq (Bk 1 (.ops Nl)) (.ops Nk))) [.tok 7 107])
def y7:RC:=Am
def Nj:List RI:=[omk 34 7,omk 6 34]
def xlN:RC:=(So PB (So Nq (Sq (So Np (Kc 16 (Kk [1,2,16] (So No .ret)) (Kk [16] .skip))) (Sq (So Nn (Bk 0 (.pre [.tok 7 107] (.loop y7)))) (So Nj .ret)))))
def xcy:FnC:=⟨xlN,35,[.tmp 6],[0],[]⟩
def Ni:List RI:=[om 5 1,omk 6 1,oo 7 (Ln 6) [6],oo 8 (.mini (.t 7) (ci 65535)) [7],oo 9 (.slcL 1 (.t 5) none (some (.t 8)) none) [5,8],omk 1 9]
def Nh:List RI:=[omk 10 0,om 11 1,oo 12 (Ln 11) [11],oo 13 (Ca 117 [.t 10,ci 2,.t 12]) [10,12],omk 14 1,oo 15 (.app [.u8 0] 1 (.t 13) (.t 14)) [13,14],omk 4 15]
def xlM:RC:=(So mw (So Ni (So Nh .ret)))
def xcx:FnC:=⟨xlM,16,[.tmp 4],[0],[]⟩
def Nd:List RI:=[omk 6 0,on 7 (Ln 6),on 8 (Mc 0)]
def Nc:List RI:=[on 10 (Ia 1 6 8),oo 11 (Ld 10) [10],omk 5 11]
def Nb:List RI:=[om 12 5,om 13 3,oo 14 (Bb .neq 12 13) [12,13]]
def Na:List RI:=[omk 15 5,omk 2 15]
def M9:List RI:=[oo 16 (Bc .add 8 1) [8],omk 8 16]
def Ak:RC:=(So EN (Sq (Kc 9 (Kk [9] .skip) (Kk [6,7,8,9] (.exit 0))) (Sq (Bk 1 (So Nc (So Nb (Kc 14 (Kk [3,6,7,8,14] (So Na .ret)) (Kk [5,14] .skip))))) (.ops M9))))
def M8:RC:=Ak
def M7:List RI:=[omk 17 3,omk 2 17]
def xlL:RC:=(So my (So rm (Sq (So Nd (Bk 0 (.loop M8))) (So M7 .ret))))
def xcw:FnC:=⟨xlL,18,[.tmp 2],[],[]⟩
def M6:List RI:=[om 7 0,oo 8 (Ca 153 [.t 7]) [7],omk 5 8]
def M5:List RI:=[om 9 1,oo 10 (Ca 153 [.t 9]) [9],omk 6 10]
def M4:List RI:=[omk 11 5]
def M3:List RI:=[omk 12 6]
def M2:List RI:=[omk 13 6]
def y5:List RI:=[on 4 (Mc 1)]
def M1:List RI:=[om 14 0,om 15 1,oo 16 (Bb .lss 14 15) [14,15]]
def BL:List RI:=[omk 17 0,omk 18 1,oo 19 (Bb .gtr 17 18) [17,18]]
def xlK:RC:=(So rt (So M6 (So M5 (Sq (So M4 (Kc 11 (Kk [0,1,11] (Sq (So M3 (Kc 12 (Kk [12] (So rq .ret)) (Kk [12] .skip))) (So mC .ret))) (Kk [11] .skip))) (Sq (So M2 (Kc 13 (Kk [0,1,13] (So y5 .ret)) (Kk [13] .skip))) (Sq (So M1 (Kc 16 (Kk [0,1,16] (So mC .ret)) (Kk [16] .skip))) (Sq (So BL (Kc 19 (Kk [19] (So y5 .ret)) (Kk [19] .skip))) (So rq .ret))))))))
def xcv:FnC:=⟨xlK,20,[.tmp 4],[],[]⟩
def M0:List RI:=[omk 5 0,omk 6 1,oo 7 (Ca 154 [.t 5,.t 6]) [5,6],omk 4 7]
def xlJ:RC:=(So rt (So M0 .ret))
def xcu:FnC:=⟨xlJ,8,[.tmp 4],[],[]⟩
def MZ:List RI:=[omk 5 0,omk 6 1,oo 7 (.toInt .u64 (.t 6)) [6],oo 8 (Bb .shr 5 7) [5,7],oo 9 (Bc .and 8 1) [8],oo 10 (Bc .eql 9 1) [9],omk 4 10]
def xlI:RC:=(So lJ (So MZ .ret))
def xct:FnC:=⟨xlI,11,[.tmp 4],[],[]⟩
def MY:List RI:=[oo 2 (.box (.t 0)) [0],oo 4 (.mov (.c (.lst 1 [] .clip))) [4]]
def MX:List RI:=[oo 9 (Lt 4 2) [2],oo 10 (Ca 33 [.t 9]) [9],omk 6 10]
def MW:List RI:=[om 11 7,oo 12 (Bc .lss 11 2) [11]]
def MV:List RI:=[om 15 6,oo 16 (Ln 15) [15],oo 17 (Bc .gtr 16 0) [16],omk 18 17,.grp 18 true [(xi 19 18 true (Mv 1)),(xi 20 18 true (Mv 7)),(xi 21 18 true (Ca 124 [.t 19,.t 20]))] [19,20],oo 22 (Pf 18 21) [18,21]]
def MU:List RI:=[om 23 5,om 24 7,om 25 7,om 26 6,oo 27 (Ca 99 [.t 25,.t 26]) [25,26],oo 28 (Ia 1 23 24) [23,24],Sr 1 28 27 [27,28]]
def MT:List RI:=[omk 13 7,oo 14 (Bc .add 13 1) [13],omk 7 14]
def Aj:RC:=(Sq (So MW (Kc 12 (Kk [12] .skip) (Kk [1,6,7,12] (.exit 0)))) (Sq (Bk 1 (So MV (Kc 22 (Kk [22] (.ops MU)) (Kk [22] .skip)))) (.ops MT)))
def MS:RC:=Aj
def MR:List RI:=[omk 29 5,omk 4 29]
def xlH:RC:=(So MY (So Py (So MX (Sq (So md (Bk 0 (.loop MS))) (So MR .ret)))))
def xcs:FnC:=⟨xlH,30,[.tmp 4],[],[]⟩
def MQ:List RI:=[on 0 (.new (.arr 1 (aq 64 [.int .u32 0])))]
def MP:List RI:=[on 1 (.build [.int .u32 0,.int .u32 0,.int .u32 0,.int .u32 0,.int .u32 0,.int .u32 0,.int .u32 0,.int .u32 0,.int .u32 0,.int .u32 0,.int .u32 0,.int .u32 0,.int .u32 0,.int .u32 0,.int .u32 0,.int .u32 0,.int .u32 0,.int .u32 0,.int .u32 0,.int .u32 0,.int .u32 0,.int .u32 0,.int .u32 0,.int .u32 0,.int .u32 0,.int .u32 0,.int .u32 0,.int .u32 0,.int .u32 0,.int .u32 0,.int .u32 0,.int .u32 0,.int .u32 0,.int .u32 0,.int .u32 0,.int .u32 0,.int .u32 0,.int .u32 0,.int .u32 0,.int .u32 0,.int .u32 0,.int .u32 0,.int .u32 0,.int .u32 0,.int .u32 0,.int .u32 0,.int .u32 0,.int .u32 0,.int .u32 0,.int .u32 0,.int .u32 0,.int .u32 0,.int .u32 0,.int .u32 0,.int .u32 0,.int .u32 0,.int .u32 0,.int .u32 0,.int .u32 0,.int .u32 0,.int .u32 0,.int .u32 0,.int .u32 0,.int .u32 0] [(0,1,(.c (.int .u32 1116352408))),(1,1,(.c (.int .u32 1899447441))),(2,1,(.c (.int .u32 3049323471))),(3,1,(.c (.int .u32 3921009573))),(4,1,(.c (.int .u32 961987163))),(5,1,(.c (.int .u32 1508970993))),(6,1,(.c (.int .u32 2453635748))),(7,1,(.c (.int .u32 2870763221))),(8,1,(.c (.int .u32 3624381080))),(9,1,(.c (.int .u32 310598401))),(10,1,(.c (.int .u32 607225278))),(11,1,(.c (.int .u32 1426881987))),(12,1,(.c (.int .u32 1925078388))),(13,1,(.c (.int .u32 2162078206))),(14,1,(.c (.int .u32 2614888103))),(15,1,(.c (.int .u32 3248222580))),(16,1,(.c (.int .u32 3835390401))),(17,1,(.c (.int .u32 4022224774))),(18,1,(.c (.int .u32 264347078))),(19,1,(.c (.int .u32 604807628))),(20,1,(.c (.int .u32 770255983))),(21,1,(.c (.int .u32 1249150122))),(22,1,(.c (.int .u32 1555081692))),(23,1,(.c (.int .u32 1996064986))),(24,1,(.c (.int .u32 2554220882))),(25,1,(.c (.int .u32 2821834349))),(26,1,(.c (.int .u32 2952996808))),(27,1,(.c (.int .u32 3210313671))),(28,1,(.c (.int .u32 3336571891))),(29,1,(.c (.int .u32 3584528711))),(30,1,(.c (.int .u32 113926993))),(31,1,(.c (.int .u32 338241895))),(32,1,(.c (.int .u32 666307205))),(33,1,(.c (.int .u32 773529912))),(34,1,(.c (.int .u32 1294757372))),(35,1,(.c (.int .u32 1396182291))),(36,1,(.c (.int .u32 1695183700))),(37,1,(.c (.int .u32 1986661051))),(38,1,(.c (.int .u32 2177026350))),(39,1,(.c (.int .u32 2456956037))),(40,1,(.c (.int .u32 2730485921))),(41,1,(.c (.int .u32 2820302411))),(42,1,(.c (.int .u32 3259730800))),(43,1,(.c (.int .u32 3345764771))),(44,1,(.c (.int .u32 3516065817))),(45,1,(.c (.int .u32 3600352804))),(46,1,(.c (.int .u32 4094571909))),(47,1,(.c (.int .u32 275423344))),(48,1,(.c (.int .u32 430227734))),(49,1,(.c (.int .u32 506948616))),(50,1,(.c (.int .u32 659060556))),(51,1,(.c (.int .u32 883997877))),(52,1,(.c (.int .u32 958139571))),(53,1,(.c (.int .u32 1322822218))),(54,1,(.c (.int .u32 1537002063))),(55,1,(.c (.int .u32 1747873779))),(56,1,(.c (.int .u32 1955562222))),(57,1,(.c (.int .u32 2024104815))),(58,1,(.c (.int .u32 2227730452))),(59,1,(.c (.int .u32 2361852424))),(60,1,(.c (.int .u32 2428436474))),(61,1,(.c (.int .u32 2756734187))),(62,1,(.c (.int .u32 3204031479))),(63,1,(.c (.int .u32 3329325298)))]),Sr 64 0 1 [1]]
def xlG:RC:=(So MQ (So MP .ret))
def xcr:FnC:=⟨xlG,2,[.cell 0 64 true],[],[]⟩
def MO:List RI:=[on 6 (.litB []),om 7 0,oo 8 (.app [.u8 0] 1 (.t 6) (.t 7)) [6,7],on 9 (.litB [(.c (.u8 128))]),oo 10 (.app [.u8 0] 1 (.t 8) (.t 9)) [8,9],omk 3 10]
def MN:List RI:=[om 11 3,oo 12 (Ln 11) [11],oo 13 (Bc .rem 12 64) [12],oo 14 (Bc .neq 13 56) [13]]
def MM:List RI:=[omk 15 3,on 16 (.litB [(.c (.u8 0))]),oo 17 (.app [.u8 0] 1 (.t 15) (.t 16)) [15,16],omk 3 17]
def Ai:RC:=(.post (Sq (So MN (Kc 14 (Kk [14] .skip) (Kk [14] (.exit 0)))) (Bk 1 (.ops MM))) [.tok 3 103])
def y0:RC:=Ai
def ML:List RI:=[omk 18 0,oo 19 (Ln 18) [18],oo 20 (.toInt .u64 (.t 19)) [19],oo 21 (.bin .mul (.t 20) (.c (.int .u64 8))) [20],omk 4 21]
def MK:List RI:=[on 5 (Mc 7)]
def MJ:List RI:=[om 22 5,oo 23 (Bc .geq 22 0) [22]]
def MI:List RI:=[omk 26 3,om 27 4,om 28 5,oo 29 (.toInt .u64 (.t 28)) [28],oo 30 (.bin .mul (.c (.int .u64 8)) (.t 29)) [29],oo 31 (Bb .shr 27 30) [27,30],oo 32 (.toInt .u8 (.t 31)) [31],oo 33 (.litB [.t 32]) [32],oo 34 (.app [.u8 0] 1 (.t 26) (.t 33)) [26,33],omk 3 34]
def MH:List RI:=[omk 24 5,oo 25 (Bc .sub 24 1) [24],omk 5 25]
def tH:RC:=(.post (Sq (So MJ (Kc 23 (Kk [23] .skip) (Kk [4,5,23] (.exit 2)))) (Sq (Bk 3 (.ops MI)) (.ops MH))) [.tok 3 103])
def sV:RC:=tH
def BK:List RI:=[omk 35 3,omk 2 35]
def xlF:RC:=(So mu (So MO (Sq (Bk 0 (.pre [.tok 3 103] (.loop y0))) (So ML (Sq (So MK (Bk 2 (.pre [.tok 3 103] (.loop sV)))) (So BK .ret))))))
def xcq:FnC:=⟨xlF,36,[.tmp 2],[],[]⟩
def oJ:List RI:=[oo 4 (.mov (.c (.int .u32 0))) [4]]
def yZ:List FI:=[Fm 0 5 0,Fm 1 6 1,Fs 2 7 (.bin .mul (ci 4) (.t 6)),Fs 3 8 (Ia 1 5 7),Fs 4 9 (Ld 8),Fs 5 10 (.toInt .u32 (.t 9)),Fs 6 11 (.bin .shl (.t 10) (.c (.int .u64 24))),Fm 7 12 0,Fm 8 13 1,Fs 9 14 (.bin .mul (ci 4) (.t 13)),Fs 10 15 (Bc .add 14 1),Fs 11 16 (Ia 1 12 15),Fs 12 17 (Ld 16),Fs 13 18 (.toInt .u32 (.t 17)),Fs 14 19 (.bin .shl (.t 18) (.c (.int .u64 16))),Fs 15 20 (Bb .or 11 19),Fm 16 21 0,Fm 17 22 1,Fs 18 23 (.bin .mul (ci 4) (.t 22)),Fs 19 24 (Bc .add 23 2),Fs 20 25 (Ia 1 21 24),Fs 21 26 (Ld 25),Fs 22 27 (.toInt .u32 (.t 26)),Fs 23 28 (.bin .shl (.t 27) (.c (.int .u64 8))),Fs 24 29 (Bb .or 20 28),Fm 25 30 0,Fm 26 31 1,Fs 27 32 (.bin .mul (ci 4) (.t 31)),Fs 28 33 (Bc .add 32 3),Fs 29 34 (Ia 1 30 33),Fs 30 35 (Ld 34),Fs 31 36 (.toInt .u32 (.t 35)),Fs 32 37 (Bb .or 29 36),Fm 33 4 37]
def xlE:RC:=(So oJ (Sq (.flt [0,0,2,7,15,31,63,0,0,256,768,1920,3968,8064,16256,32767,0,0,131072,393216,983040,2031616,4128768,8323072,16777215,0,0,67108864,201326592,503316480,1040187392,2113929216,4294967295,8589934591] [] yZ [0,1,5,6,7,8,9,10,11,12,13,14,15,16,17,18,19,20,21,22,23,24,25,26,27,28,29,30,31,32,33,34,35,36,37]) .ret))
def xcp:FnC:=⟨xlE,38,[.tmp 4],[],[]⟩
def MG:List RI:=[om 5 0,om 6 1,oo 7 (Bb .shr 5 6) [5,6],omk 8 0,omk 9 1,oo 10 (.bin .sub (.c (.int .u64 32)) (.t 9)) [9],oo 11 (Bb .shl 8 10) [8,10],oo 12 (Bb .or 7 11) [7,11],omk 4 12]
def xlD:RC:=(So oJ (So MG .ret))
def xco:FnC:=⟨xlD,13,[.tmp 4],[],[]⟩
def MA:List RI:=[om 5 4,om 6 0,oo 7 (Ln 6) [6],oo 8 (Bb .lss 5 7) [5,7]]
def Mz:List FI:=[Fm 0 11 3,Fm 1 12 0,Fm 2 13 4,Fs 3 14 (Ia 1 12 13),Fs 4 15 (Ld 14),Fs 5 16 (.bin .shr (.t 15) (.c (.int .u64 24))),Fs 6 17 (.toInt .u8 (.t 16)),Fm 7 18 0,Fm 8 19 4,Fs 9 20 (Ia 1 18 19),Fs 10 21 (Ld 20),Fs 11 22 (.bin .shr (.t 21) (.c (.int .u64 16))),Fs 12 23 (.toInt .u8 (.t 22)),Fm 13 24 0,Fm 14 25 4,Fs 15 26 (Ia 1 24 25),Fs 16 27 (Ld 26),Fs 17 28 (.bin .shr (.t 27) (.c (.int .u64 8))),Fs 18 29 (.toInt .u8 (.t 28)),Fm 19 30 0,Fm 20 31 4,Fs 21 32 (Ia 1 30 31),Fs 22 33 (Ld 32),Fs 23 34 (.toInt .u8 (.t 33)),Fs 24 35 (.litB [.t 17,.t 23,.t 29,.t 34]),Fz 25 36 (.app [.u8 0] 1 (.t 11) (.t 35)),⟨26,false,(xm 3 36)⟩]
def My:List RI:=[omk 9 4,oo 10 (Bc .add 9 1) [9],omk 4 10]
def Ag:RC:=(.post (Sq (So MA (Kc 8 (Kk [8] .skip) (Kk [0,4,8] (.exit 0)))) (Sq (Bk 1 (.flt [0,0,0,6,14,30,62,0,0,384,896,1920,3968,0,0,24576,57344,122880,253952,0,0,1572864,3670016,7864320,16777214,33554431,67108863] [136] Mz [11,12,13,14,15,16,17,18,19,20,21,22,23,24,25,26,27,28,29,30,31,32,33,34,35,36])) (.ops My))) [.tok 3 103])
def yY:RC:=Ag
def xlC:RC:=(So mu (So zc (Sq (So rq (Bk 0 (.pre [.tok 3 103] (.loop yY)))) (So sZ .ret))))
def xcn:FnC:=⟨xlC,38,[.tmp 2],[],[]⟩
def Mx:List FI:=[Fm 0 3 0,Fs 1 4 (.nchk (.t 3)),Fs 2 5 (Fa 1 4),Fs 3 6 (Ld 5),Fm 4 7 0,Fs 5 8 (.nchk (.t 7)),Fs 6 9 (Fa 0 8),Fs 7 10 (Ld 9),Fs 8 11 (Ln 10),Fs 9 12 (Bb .lss 6 11),Fm 10 2 12]
def xlB:RC:=(So uf (Sq (.flt [0,1,3,7,0,16,48,112,240,511,1023] [] Mx [0,3,4,5,6,7,8,9,10,11,12]) .ret))
def xcm:FnC:=⟨xlB,13,[.tmp 2],[],[]⟩
def qQ:List RI:=[oo 4 (.mov (.c (.str []))) [4]]
def Mw:List RI:=[om 10 1,oo 11 (Bc .eql 10 10) [10]]
def Mu:List RI:=[om 12 0,oo 13 (.bin .leq (ci 0) (.t 12)) [12],omk 14 13,.grp 14 true [(xi 15 14 true (Mv 0)),(xi 16 14 true (Bc .lss 15 100))] [15],oo 17 (Pf 14 16) [14,16]]
def Mt:List RI:=[omk 18 0,oo 19 (Ca 155 [.t 18]) [18],omk 4 19]
def Ms:List RI:=[on 5 (.new (.bar (aq 24 0)))]
def Mr:List RI:=[om 20 0,oo 21 (.toInt .u64 (.t 20)) [20],omk 6 21]
def Mq:List RI:=[om 22 0,oo 23 (Bc .lss 22 0) [22]]
def Mp:List RI:=[omk 24 6,oo 25 (.un .neg (.t 24)) [24],omk 6 25]
def Mo:List RI:=[om 26 6,oo 27 (Ca 156 [.t 26]) [26],omk 7 27]
def Mn:List RI:=[om 28 7,oo 29 (.bin .add (ci 1) (.t 28)) [28],oo 30 (.slcA 24 1 (.t 5) (some (ci 1)) (some (.t 29)) none) [29],omk 31 6,oo 32 (Ca 157 [.t 30,.t 31]) [30,31,32]]
def BJ:List RI:=[omk 33 0,oo 34 (Bc .lss 33 0) [33]]
def BI:List RI:=[on 35 (.iaddrA 24 1 (.t 5) (ci 0)),.op ⟨none,none,.store 1 (.t 35) (.c (.u8 45))⟩ [35]]
def BH:List RI:=[omk 36 7,oo 37 (.bin .add (ci 1) (.t 36)) [36],oo 38 (.slcA 24 1 (.t 5) none (some (.t 37)) none) [5,37],oo 39 (.b2s (.t 38)) [38],omk 4 39]
def BG:List RI:=[omk 40 7,oo 41 (.bin .add (ci 1) (.t 40)) [40],oo 42 (.slcA 24 1 (.t 5) (some (ci 1)) (some (.t 41)) none) [5,41],oo 43 (.b2s (.t 42)) [42],omk 4 43]
def BF:List RI:=[om 45 0,oo 46 (.toInt .u64 (.t 45)) [45],omk 47 1,omk 48 0,oo 49 (Bc .lss 48 0) [48],oo 50 (Ca 158 [(.c (.byt [] .clip)),.t 46,.t 47,.t 49,(.c (.bool false))]) [46,47,49],omk 44 50,on 51 (.ext (.t 44) 0),oo 52 (.ext (.t 44) 1) [44],.op (xm 8 51) [8,51],omk 9 52]
def BE:List RI:=[omk 53 9,omk 4 53]
def xlA:RC:=(So qQ (Sq (So Mw (Kc 11 (Kk [1,11] (Sq (So Mu (Kc 17 (Kk [17] (So Mt .ret)) (Kk [17] .skip))) (So Ms (So Mr (Sq (So Mq (Kc 23 (Kk [23] (.ops Mp)) (Kk [23] .skip))) (So Mo (So Mn (Sq (So BJ (Kc 34 (Kk [34] (So BI (So BH .ret))) (Kk [34] .skip))) (So BG .ret))))))))) (Kk [11] .skip))) (So BF (So BE .ret))))
def xcl:FnC:=⟨xlA,54,[.tmp 4],[],[]⟩
def Mm:List RI:=[om 7 0,oo 8 (.bin .eql (.t 7) (.c (.str []))) [7],omk 9 8,.grp 9 false [(xi 10 9 false (Mv 1)),(xi 11 9 false (.bin .eql (.t 10) (.c (.str []))))] [10],oo 12 (Pt 9 11) [9,11]]
def Ml:List RI:=[omk 13 0,omk 4 13]
def Mk:List RI:=[om 14 1,oo 15 (.len true (.t 14)) [14],oo 16 (Bc .eql 15 1) [15],omk 17 16,.grp 17 true [(xi 18 17 true (Mv 1)),(xi 19 17 true (.idxS (.t 18) (ci 0))),(xi 20 17 true (.bin .lss (.t 19) (.c (.u8 128))))] [18,19],oo 21 (Pf 17 20) [17,20]]
def Mj:List FI:=[Fm 0 22 0,Fm 1 23 1,Fs 2 24 (.idxS (.t 23) (ci 0)),Fm 4 26 1,Fs 5 27 (.idxS (.t 26) (ci 0)),Fz 3 25 (Ca 160 [.t 22,.t 24]),Fz 6 28 (Ca 159 [.t 25,.t 27]),Fm 7 4 28]
def Mi:List RI:=[om 30 1,oo 31 (Ca 161 [.t 30]) [30],omk 29 31,on 32 (.ext (.t 29) 0),oo 33 (.ext (.t 29) 1) [29],on 5 (.new (.arr 1 (aq 256 [.bool false]))),Sr 256 5 32 [32],omk 6 33]
def Mh:List RI:=[omk 34 6]
def Mg:List RI:=[omk 35 0,oo 36 (Ca 163 [.t 35,.t 5]) [35],oo 37 (Ca 162 [.t 36,.t 5]) [5,36],omk 4 37]
def Mf:List RI:=[omk 38 0,om 39 1,oo 40 (Ca 165 [.t 38,.t 39]) [38,39],omk 41 1,oo 42 (Ca 164 [.t 40,.t 41]) [40,41],omk 4 42]
def xlz:RC:=(So qQ (Sq (So Mm (Kc 12 (Kk [1,12] (So Ml .ret)) (Kk [12] .skip))) (Sq (So Mk (Kc 21 (Kk [21] (Sq (.flt [0,0,2,7,0,16,63,127] [] Mj [0,1,22,23,24,25,26,27,28]) .ret)) (Kk [21] .skip))) (Sq (So Mi (So Mh (Kc 34 (Kk [1,34] (So Mg .ret)) (Kk [5,34] .skip)))) (So Mf .ret)))))
def xck:FnC:=⟨xlz,43,[.tmp 4],[],[]⟩
def Me:List RI:=[om 6 0,om 7 1,oo 8 (Ca 166 [.t 6,.t 7]) [6,7],oo 9 (.un .not (.t 8)) [8]]
def Md:List RI:=[omk 10 0,omk 4 10,on 5 (Mb false)]
def Ma:List RI:=[omk 11 0,omk 12 1,oo 13 (.len true (.t 12)) [12],oo 14 (.slcS (.t 11) (some (.t 13)) none) [11,13],omk 4 14,on 5 (Mb true)]
def xly:RC:=(So Px (Sq (So Me (Kc 9 (Kk [1,9] (So Md .ret)) (Kk [9] .skip))) (So Ma .ret)))
def xcj:FnC:=⟨xly,15,[.tmp 4,.tmp 5],[],[]⟩
def yX:List RI:=[oo 2 (Mc 0) [2],oo 3 (.mov (.c .nili)) [3]]
def L9:List RI:=[om 7 0,oo 8 (Ca 167 [.t 7]) [7],omk 6 8,on 9 (.ext (.t 6) 0),oo 10 (.ext (.t 6) 1) [6],omk 4 9,omk 5 10]
def L8:List RI:=[om 11 5,oo 12 (.isni true (.t 11)) [11]]
def L7:List RI:=[omk 13 4,omk 14 0,omk 15 5,oo 16 (Ca 168 [(.c (.str [65,116,111,105])),.t 14,ci 0,ci 0,.t 15]) [14,15],omk 2 13,omk 3 16]
def L6:List RI:=[omk 17 4,omk 2 17,on 3 (.mov (.c .nili))]
def xlx:RC:=(So yX (So L9 (Sq (So L8 (Kc 12 (Kk [12] (So L7 .ret)) (Kk [0,5,12] .skip))) (So L6 .ret))))
def xci:FnC:=⟨xlx,18,[.tmp 2,.tmp 3],[],[]⟩
def L5:List RI:=[on 17 (.lit 1 [(.c (.int .u32 1732584193)),(.c (.int .u32 4023233417)),(.c (.int .u32 2562383102)),(.c (.int .u32 271733878)),(.c (.int .u32 3285377520))]),omk 3 17]
def L4:List RI:=[omk 18 0,oo 19 (Ca 127 [.t 18]) [18],omk 4 19]
def L3:List RI:=[om 20 5,om 21 4,oo 22 (Ln 21) [21],oo 23 (Bb .lss 20 22) [20,22]]
def L2:List RI:=[on 6 (.new (.arr 1 (aq 80 [.int .u32 0])))]
def L1:List RI:=[om 26 7,oo 27 (Bc .lss 26 80) [26]]
def L0:List RI:=[om 30 7,oo 31 (Bc .lss 30 16) [30]]
def LZ:List RI:=[om 32 7,om 33 4,om 34 5,om 35 5,oo 36 (Bc .add 35 64) [35],oo 37 (.slcL 1 (.t 33) (some (.t 34)) (some (.t 36)) none) [33,34,36],om 38 7,oo 39 (Ca 128 [.t 37,.t 38]) [37,38],oo 40 (.iaddrA 80 1 (.t 6) (.t 32)) [32],Sr 1 40 39 [39,40]]
def BD:List FI:=[Fm 0 41 7,Fm 1 42 7,Fs 2 43 (Bc .sub 42 3),Fs 3 44 (.iaddrA 80 1 (.t 6) (.t 43)),Fs 4 45 (Ld 44),Fm 5 46 7,Fs 6 47 (Bc .sub 46 8),Fs 7 48 (.iaddrA 80 1 (.t 6) (.t 47)),Fs 8 49 (Ld 48),Fs 9 50 (Bb .xor 45 49),Fm 10 51 7,Fs 11 52 (Bc .sub 51 14),Fs 12 53 (.iaddrA 80 1 (.t 6) (.t 52)),Fs 13 54 (Ld 53),Fs 14 55 (Bb .xor 50 54),Fm 15 56 7,Fs 16 57 (Bc .sub 56 16),Fs 17 58 (.iaddrA 80 1 (.t 6) (.t 57)),Fs 18 59 (Ld 58),Fs 19 60 (Bb .xor 55 59),Fz 20 61 (Ca 169 [.t 60,(.c (.int .u64 1))]),Fs 21 62 (.iaddrA 80 1 (.t 6) (.t 41)),Fr 22 1 62 61]
def BC:List RI:=[omk 28 7,oo 29 (Bc .add 28 1) [28],omk 7 29]
def tG:RC:=(Sq (So L1 (Kc 27 (Kk [27] .skip) (Kk [7,27] (.exit 2)))) (Sq (Bk 3 (Sq (So L0 (Kc 31 (Kk [31] (So LZ (.exit 3))) (Kk [31] .skip))) (.flt [0,0,2,6,14,0,32,96,224,510,0,1024,3072,7168,16382,0,32768,98304,229376,524286,1048574,2097151,4194303] [] BD [41,42,43,44,45,46,47,48,49,50,51,52,53,54,55,56,57,58,59,60,61,62]))) (.ops BC)))
def sU:RC:=tG
def BB:List FI:=[Fm 0 63 3,Fs 1 64 (.iaddrL 1 (.t 63) (ci 0)),Fs 2 65 (Ld 64),Fm 3 66 3,Fs 4 67 (.iaddrL 1 (.t 66) (ci 1)),Fs 5 68 (Ld 67),Fm 6 69 3,Fs 7 70 (.iaddrL 1 (.t 69) (ci 2)),Fs 8 71 (Ld 70),Fm 9 72 3,Fs 10 73 (.iaddrL 1 (.t 72) (ci 3)),Fs 11 74 (Ld 73),Fm 12 75 3,Fs 13 76 (.iaddrL 1 (.t 75) (ci 4)),Fs 14 77 (Ld 76),Fm 15 8 65,Fm 16 9 68,Fm 17 10 71,Fm 18 11 74,Fm 19 12 77]
def BA:List RI:=[on 13 (Mc 0)]
def Bz:List RI:=[om 78 13,oo 79 (Bc .lss 78 80) [78]]
def By:List RI:=[om 82 9,om 83 10,oo 84 (Bb .xor 82 83) [82,83],om 85 11,oo 86 (Bb .xor 84 85) [84,85],omk 14 86,on 15 (.mov (.c (.int .u32 3395469782)))]
def Bx:List RI:=[om 88 13,oo 89 (Bc .lss 88 20) [88],omk 87 89]
def Bw:List RI:=[om 90 9,om 91 10,oo 92 (Bb .and 90 91) [90,91],om 93 9,oo 94 (.un .xor (.t 93)) [93],om 95 11,oo 96 (Bb .and 94 95) [94,95],oo 97 (Bb .xor 92 96) [92,96],omk 14 97,on 15 (.mov (.c (.int .u32 1518500249)))]
def Bv:List RI:=[om 99 13,oo 100 (Bc .lss 99 40) [99],omk 98 100]
def Bu:List RI:=[on 15 (.mov (.c (.int .u32 1859775393)))]
def Bt:List RI:=[om 102 13,oo 103 (Bc .lss 102 60) [102],omk 101 103]
def Bs:List RI:=[om 104 9,om 105 10,oo 106 (Bb .and 104 105) [104,105],om 107 9,om 108 11,oo 109 (Bb .and 107 108) [107,108],oo 110 (Bb .xor 106 109) [106,109],om 111 10,om 112 11,oo 113 (Bb .and 111 112) [111,112],oo 114 (Bb .xor 110 113) [110,113],omk 14 114,on 15 (.mov (.c (.int .u32 2400959708)))]
def Br:List FI:=[Fm 0 115 8,Fm 2 117 14,Fm 4 119 12,Fm 6 121 15,Fm 8 123 13,Fs 9 124 (.iaddrA 80 1 (.t 6) (.t 123)),Fs 10 125 (Ld 124),Fz 1 116 (Ca 169 [.t 115,(.c (.int .u64 5))]),Fs 3 118 (Bb .add 116 117),Fs 5 120 (Bb .add 118 119),Fs 7 122 (Bb .add 120 121),Fs 11 126 (Bb .add 122 125),Fm 12 16 126]
def Bq:List RI:=[omk 127 16,omk 128 8,omk 129 9,oo 130 (Ca 169 [.t 129,(.c (.int .u64 30))]) [129],omk 131 10,omk 132 11,omk 8 127,omk 9 128,omk 10 130,omk 11 131,omk 12 132]
def Bp:List RI:=[omk 80 13,oo 81 (Bc .add 80 1) [80],omk 13 81]
def tF:RC:=(Sq (So Bz (Kc 79 (Kk [79] .skip) (Kk [6,13,79] (.exit 4)))) (Sq (Bk 5 (So By (Sq (Bk 6 (So Bx (Kc 87 (Kk [14,15,87] (.ops Bw)) (Kk [87] (So Bv (Kc 98 (Kk [15,98] (.ops Bu)) (Kk [98] (So Bt (Kc 101 (Kk [14,15,101] (.ops Bs)) (Kk [101] .skip)))))))))) (Sq (.flt [0,1,0,7,0,31,0,127,0,256,768,2047,4095] [] Br [12,14,15,115,116,117,118,119,120,121,122,123,124,125,126]) (.ops Bq))))) (.ops Bp)))
def fR:RC:=tF
def Bo:List FI:=[Fm 0 133 3,Fs 1 134 (.iaddrL 1 (.t 133) (ci 0)),Fs 2 135 (Ld 134),Fm 3 136 8,Fs 4 137 (Bb .add 135 136),Fm 5 138 3,Fs 6 139 (.iaddrL 1 (.t 138) (ci 1)),Fs 7 140 (Ld 139),Fm 8 141 9,Fs 9 142 (Bb .add 140 141),Fm 10 143 3,Fs 11 144 (.iaddrL 1 (.t 143) (ci 2)),Fs 12 145 (Ld 144),Fm 13 146 10,Fs 14 147 (Bb .add 145 146),Fm 15 148 3,Fs 16 149 (.iaddrL 1 (.t 148) (ci 3)),Fs 17 150 (Ld 149),Fm 18 151 11,Fs 19 152 (Bb .add 150 151),Fm 20 153 3,Fs 21 154 (.iaddrL 1 (.t 153) (ci 4)),Fs 22 155 (Ld 154),Fm 23 156 12,Fs 24 157 (Bb .add 155 156),Fs 25 158 (.lit 1 [.t 137,.t 142,.t 147,.t 152,.t 157]),⟨26,false,(xm 3 158)⟩]
def Bn:List RI:=[omk 24 5,oo 25 (Bc .add 24 64) [24],omk 5 25]
def tE:RC:=(.post (Sq (So L3 (Kc 23 (Kk [23] .skip) (Kk [4,5,23] (.exit 0)))) (Sq (Bk 1 (So L2 (Sq (So md (Bk 2 (.loop sU))) (Sq (.flt [0,1,3,0,8,24,0,64,192,0,512,1536,0,4096,12288,7,32831,98815,233471,524287] [] BB [63,64,65,66,67,68,69,70,71,72,73,74,75,76,77]) (Sq (So BA (Bk 4 (.loop fR))) (.flt [0,1,3,0,15,0,32,96,0,480,0,1024,3072,0,15360,0,32768,98304,0,491520,0,1048576,3145728,0,15728640,33554431,67108863] [] Bo [8,9,10,11,12,133,134,135,136,137,138,139,140,141,142,143,144,145,146,147,148,149,150,151,152,153,154,155,156,157,158])))))) (.ops Bn))) [.gc [106]])
def sT:RC:=tE
def Bm:List RI:=[omk 159 3,oo 160 (Ca 130 [.t 159]) [159],omk 2 160]
def xlw:RC:=(So mu (So L5 (So L4 (Sq (So mz (Bk 0 (.loop sT))) (So Bm .ret)))))
def xch:FnC:=⟨xlw,161,[.tmp 2],[],[]⟩
def LY:List RI:=[omk 9 0,oo 10 (.toInt .u8 (.t 9)) [9],oo 11 (.litB [.t 10]) [10],omk 5 11]
def LX:List RI:=[omk 12 1,on 13 (Ln 12),on 14 (Mc 0)]
def LW:List RI:=[on 15 (Bb .lss 14 13)]
def LV:List RI:=[on 16 (Ia 1 12 14),oo 17 (Ld 16) [16],omk 7 17]
def LU:List RI:=[om 18 7,oo 19 (Ln 18) [18],oo 20 (.toInt .u32 (.t 19)) [19],omk 8 20]
def LS:List RI:=[omk 21 5,om 22 8,oo 23 (.bin .shr (.t 22) (.c (.int .u64 24))) [22],oo 24 (.toInt .u8 (.t 23)) [23],om 25 8,oo 26 (.bin .shr (.t 25) (.c (.int .u64 16))) [25],oo 27 (.toInt .u8 (.t 26)) [26],om 28 8,oo 29 (.bin .shr (.t 28) (.c (.int .u64 8))) [28],oo 30 (.toInt .u8 (.t 29)) [29],omk 31 8,oo 32 (.toInt .u8 (.t 31)) [31],oo 33 (.litB [.t 24,.t 27,.t 30,.t 32]) [24,27,30,32],oo 34 (.app [.u8 0] 1 (.t 21) (.t 33)) [21,33],omk 5 34]
def LR:List RI:=[omk 35 5,omk 36 7,oo 37 (.app [.u8 0] 1 (.t 35) (.t 36)) [35,36],omk 5 37]
def LQ:List RI:=[oo 38 (Bc .add 14 1) [14],omk 14 38]
def Af:RC:=(.post (So LW (Sq (Kc 15 (Kk [15] .skip) (Kk [12,13,14,15] (.exit 0))) (Sq (Bk 1 (So LV (So LU (So LS (.ops LR))))) (.ops LQ)))) [.tok 5 105])
def LP:RC:=Af
def Bl:List RI:=[omk 39 5,omk 4 39]
def xlv:RC:=(So mw (So LY (Sq (So LX (Bk 0 (.pre [.tok 5 105] (.loop LP)))) (So Bl .ret))))
def xcg:FnC:=⟨xlv,40,[.tmp 4],[],[]⟩
def xlu:RC:=(So oJ (Sq (.flt [0,0,2,7,15,31,63,0,0,256,768,1920,3968,8064,16256,32767,0,0,131072,393216,983040,2031616,4128768,8323072,16777215,0,0,67108864,201326592,503316480,1040187392,2113929216,4294967295,8589934591] [] yZ [0,1,5,6,7,8,9,10,11,12,13,14,15,16,17,18,19,20,21,22,23,24,25,26,27,28,29,30,31,32,33,34,35,36,37]) .ret))
def xcf:FnC:=⟨xlu,38,[.tmp 4],[],[]⟩
def LG:List RI:=[omk 6 1,oo 7 (.toInt .u64 (.t 6)) [6],oo 8 (.bin .and (.t 7) (.c (.int .u64 31))) [7],omk 5 8]
def LF:List RI:=[om 9 0,om 10 5,oo 11 (Bb .shl 9 10) [9,10],omk 12 0,omk 13 5,oo 14 (.bin .sub (.c (.int .u64 32)) (.t 13)) [13],oo 15 (Bb .shr 12 14) [12,14],oo 16 (Bb .or 11 15) [11,15],omk 4 16]
def xlt:RC:=(So oJ (So LG (So LF .ret)))
def xce:FnC:=⟨xlt,17,[.tmp 4],[],[]⟩
def LD:List RI:=[om 3 0,oo 4 (.bin .geq (.t 3) (.c (.int .u64 4294967296))) [3]]
def LC:List RI:=[omk 5 0,oo 6 (.bin .shr (.t 5) (.c (.int .u64 32))) [5],omk 0 6]
def LB:List RI:=[on 2 (Mc 32)]
def LA:List RI:=[om 7 0,oo 8 (.bin .geq (.t 7) (.c (.int .u64 65536))) [7]]
def Lz:List RI:=[omk 9 0,oo 10 (.bin .shr (.t 9) (.c (.int .u64 16))) [9],omk 0 10]
def Ly:List RI:=[omk 11 2,oo 12 (Bc .add 11 16) [11],omk 2 12]
def Lx:List RI:=[om 13 0,oo 14 (.bin .geq (.t 13) (.c (.int .u64 256))) [13]]
def Lw:List RI:=[omk 15 0,oo 16 (.bin .shr (.t 15) (.c (.int .u64 8))) [15],omk 0 16]
def Lv:List RI:=[omk 17 2,oo 18 (Bc .add 17 8) [17],omk 2 18]
def Bj:List RI:=[omk 19 2,omk 20 0,oo 21 (.toInt .u8 (.t 20)) [20],oo 22 (.idxS (.c (.str cs0)) (.t 21)) [21],oo 23 (.toInt .i64 (.t 22)) [22],oo 24 (Bb .add 19 23) [19,23],omk 2 24]
def xls:RC:=(So jM (Sq (So LD (Kc 4 (Kk [2,4] (So LC (.ops LB))) (Kk [4] .skip))) (Sq (So LA (Kc 8 (Kk [8] (So Lz (.ops Ly))) (Kk [8] .skip))) (Sq (So Lx (Kc 14 (Kk [14] (So Lw (.ops Lv))) (Kk [14] .skip))) (So Bj .ret)))))
def xcd:FnC:=⟨xls,25,[.tmp 2],[],[]⟩
def Lu:List RI:=[om 3 0,omk 4 0,oo 5 (Bb .neq 3 4) [3,4],omk 2 5]
def xlr:RC:=(So uf (So Lu .ret))
def xcc:FnC:=⟨xlr,6,[.tmp 2],[],[]⟩
def Ls:List RI:=[om 5 0,omk 6 0,oo 7 (Bc .add 6 1) [6],oo 8 (.slcS (.c (.str cs1)) (some (.t 5)) (some (.t 7))) [5,7],omk 2 8]
def Lr:List RI:=[om 9 0,oo 10 (Bc .mul 9 2) [9],omk 11 0,oo 12 (Bc .mul 11 2) [11],oo 13 (Bc .add 12 2) [12],oo 14 (.slcS (.c (.str cs2)) (some (.t 10)) (some (.t 13))) [10,13],omk 2 14]
def xlq:RC:=(So EM (Sq (So Pq (Kc 4 (Kk [4] (So Ls .ret)) (Kk [4] .skip))) (So Lr .ret)))
def xcb:FnC:=⟨xlq,15,[.tmp 2],[],[]⟩
def Lq:List RI:=[om 4 0,oo 5 (Ca 152 [.t 4]) [4],oo 6 (Ca 178 [.t 5]) [5],omk 3 6]
def Lp:List RI:=[om 7 3,omk 8 0,omk 9 3,oo 10 (.iaddrA 20 1 (.c (.pp iW)) (.t 9)) [9],oo 11 (Ld 10) [10],oo 12 (Bb .geq 8 11) [8,11],oo 13 (Ca 179 [.t 12]) [12],oo 14 (Bb .add 7 13) [7,13],omk 2 14]
def xlp:RC:=(So my (So Lq (So Lp .ret)))
def xca:FnC:=⟨xlp,15,[.tmp 2],[],[]⟩
def Lo:List RI:=[om 17 0,oo 18 (Ln 17) [17],omk 4 18]
def Lm:List RI:=[om 19 4,oo 20 (Bc .geq 19 8) [19]]
def Ll:List RI:=[om 21 1,oo 22 (.bin .rem (.t 21) (.c (.int .u64 100000000))) [21],oo 23 (.toInt .u32 (.t 22)) [22],omk 5 23]
def Lk:List RI:=[omk 24 1,oo 25 (.bin .quo (.t 24) (.c (.int .u64 100000000))) [24],omk 1 25]
def Lj:List RI:=[om 26 5,oo 27 (.bin .quo (.t 26) (.c (.int .u32 10000))) [26],omk 28 5,oo 29 (.bin .rem (.t 28) (.c (.int .u32 10000))) [28],omk 6 27,omk 7 29]
def Li:List RI:=[om 30 7,oo 31 (.bin .quo (.t 30) (.c (.int .u32 100))) [30],oo 32 (.bin .mul (.t 31) (.c (.int .u32 2))) [31],omk 33 7,oo 34 (.bin .rem (.t 33) (.c (.int .u32 100))) [33],oo 35 (.bin .mul (.t 34) (.c (.int .u32 2))) [34],omk 8 32,omk 9 35]
def Lh:List RI:=[om 36 6,oo 37 (.bin .quo (.t 36) (.c (.int .u32 100))) [36],oo 38 (.bin .mul (.t 37) (.c (.int .u32 2))) [37],omk 39 6,oo 40 (.bin .rem (.t 39) (.c (.int .u32 100))) [39],oo 41 (.bin .mul (.t 40) (.c (.int .u32 2))) [40],omk 10 38,omk 11 41]
def Lg:List FI:=[Fm 0 42 0,Fm 1 43 4,Fs 2 44 (Bc .sub 43 1),Fm 3 45 0,Fm 4 46 4,Fs 5 47 (Bc .sub 46 2),Fm 6 48 9,Fs 7 49 (.bin .add (.t 48) (.c (.int .u32 1))),Fs 8 50 (.idxS (.c (.str cs2)) (.t 49)),Fm 9 51 9,Fs 10 52 (.idxS (.c (.str cs2)) (.t 51)),Fs 11 53 (Ia 1 42 44),Fr 12 1 53 50,Fs 13 54 (Ia 1 45 47),Fr 14 1 54 52]
def Lf:List FI:=[Fm 0 55 0,Fm 1 56 4,Fs 2 57 (Bc .sub 56 3),Fm 3 58 0,Fm 4 59 4,Fs 5 60 (Bc .sub 59 4),Fm 6 61 8,Fs 7 62 (.bin .add (.t 61) (.c (.int .u32 1))),Fs 8 63 (.idxS (.c (.str cs2)) (.t 62)),Fm 9 64 8,Fs 10 65 (.idxS (.c (.str cs2)) (.t 64)),Fs 11 66 (Ia 1 55 57),Fr 12 1 66 63,Fs 13 67 (Ia 1 58 60),Fr 14 1 67 65]
def Le:List FI:=[Fm 0 68 0,Fm 1 69 4,Fs 2 70 (Bc .sub 69 5),Fm 3 71 0,Fm 4 72 4,Fs 5 73 (Bc .sub 72 6),Fm 6 74 11,Fs 7 75 (.bin .add (.t 74) (.c (.int .u32 1))),Fs 8 76 (.idxS (.c (.str cs2)) (.t 75)),Fm 9 77 11,Fs 10 78 (.idxS (.c (.str cs2)) (.t 77)),Fs 11 79 (Ia 1 68 70),Fr 12 1 79 76,Fs 13 80 (Ia 1 71 73),Fr 14 1 80 78]
def Bi:List FI:=[Fm 0 81 0,Fm 1 82 4,Fs 2 83 (Bc .sub 82 7),Fm 3 84 0,Fm 4 85 4,Fs 5 86 (Bc .sub 85 8),Fm 6 87 10,Fs 7 88 (.bin .add (.t 87) (.c (.int .u32 1))),Fs 8 89 (.idxS (.c (.str cs2)) (.t 88)),Fm 9 90 10,Fs 10 91 (.idxS (.c (.str cs2)) (.t 90)),Fs 11 92 (Ia 1 81 83),Fr 12 1 92 89,Fs 13 93 (Ia 1 84 86),Fr 14 1 93 91]
def Bh:List RI:=[omk 94 4,oo 95 (Bc .sub 94 8) [94],omk 4 95]
def tz:RC:=(Sq (So Lm (Kc 20 (Kk [20] .skip) (Kk [20] (.exit 0)))) (Bk 1 (So Ll (So Lk (So Lj (So Li (So Lh (Sq (.flt [0,0,2,0,0,16,0,64,192,0,512,455,2503,8191,16383] [] Lg [9,42,43,44,45,46,47,48,49,50,51,52,53,54]) (Sq (.flt [0,0,2,0,0,16,0,64,192,0,512,455,2503,8191,16383] [] Lf [8,55,56,57,58,59,60,61,62,63,64,65,66,67]) (Sq (.flt [0,0,2,0,0,16,0,64,192,0,512,455,2503,8191,16383] [] Le [11,68,69,70,71,72,73,74,75,76,77,78,79,80]) (Sq (.flt [0,0,2,0,0,16,0,64,192,0,512,455,2503,8191,16383] [] Bi [10,81,82,83,84,85,86,87,88,89,90,91,92,93]) (.ops Bh))))))))))))
def Bg:RC:=tz
def Bf:List RI:=[omk 96 1,oo 97 (.toInt .u32 (.t 96)) [96],omk 12 97]
def Be:List RI:=[om 98 4,oo 99 (Bc .geq 98 4) [98]]
def Bd:List RI:=[om 100 12,oo 101 (.bin .rem (.t 100) (.c (.int .u32 10000))) [100],omk 13 101]
def Ba:List RI:=[omk 102 12,oo 103 (.bin .quo (.t 102) (.c (.int .u32 10000))) [102],omk 12 103]
def A9:List RI:=[om 104 13,oo 105 (.bin .quo (.t 104) (.c (.int .u32 100))) [104],oo 106 (.bin .mul (.t 105) (.c (.int .u32 2))) [105],omk 107 13,oo 108 (.bin .rem (.t 107) (.c (.int .u32 100))) [107],oo 109 (.bin .mul (.t 108) (.c (.int .u32 2))) [108],omk 14 106,omk 15 109]
def A8:List FI:=[Fm 0 110 0,Fm 1 111 4,Fs 2 112 (Bc .sub 111 1),Fm 3 113 0,Fm 4 114 4,Fs 5 115 (Bc .sub 114 2),Fm 6 116 15,Fs 7 117 (.bin .add (.t 116) (.c (.int .u32 1))),Fs 8 118 (.idxS (.c (.str cs2)) (.t 117)),Fm 9 119 15,Fs 10 120 (.idxS (.c (.str cs2)) (.t 119)),Fs 11 121 (Ia 1 110 112),Fr 12 1 121 118,Fs 13 122 (Ia 1 113 115),Fr 14 1 122 120]
def A7:List FI:=[Fm 0 123 0,Fm 1 124 4,Fs 2 125 (Bc .sub 124 3),Fm 3 126 0,Fm 4 127 4,Fs 5 128 (Bc .sub 127 4),Fm 6 129 14,Fs 7 130 (.bin .add (.t 129) (.c (.int .u32 1))),Fs 8 131 (.idxS (.c (.str cs2)) (.t 130)),Fm 9 132 14,Fs 10 133 (.idxS (.c (.str cs2)) (.t 132)),Fs 11 134 (Ia 1 123 125),Fr 12 1 134 131,Fs 13 135 (Ia 1 126 128),Fr 14 1 135 133]
def A6:List RI:=[omk 136 4,oo 137 (Bc .sub 136 4) [136],omk 4 137]
def A5:List RI:=[om 138 4,oo 139 (Bc .geq 138 2) [138]]
def A4:List RI:=[om 140 12,oo 141 (.bin .rem (.t 140) (.c (.int .u32 100))) [140],oo 142 (.bin .mul (.t 141) (.c (.int .u32 2))) [141],omk 16 142]
def A3:List RI:=[omk 143 12,oo 144 (.bin .quo (.t 143) (.c (.int .u32 100))) [143],omk 12 144]
def A2:List FI:=[Fm 0 145 0,Fm 1 146 4,Fs 2 147 (Bc .sub 146 1),Fm 3 148 0,Fm 4 149 4,Fs 5 150 (Bc .sub 149 2),Fm 6 151 16,Fs 7 152 (.bin .add (.t 151) (.c (.int .u32 1))),Fs 8 153 (.idxS (.c (.str cs2)) (.t 152)),Fm 9 154 16,Fs 10 155 (.idxS (.c (.str cs2)) (.t 154)),Fs 11 156 (Ia 1 145 147),Fr 12 1 156 153,Fs 13 157 (Ia 1 148 150),Fr 14 1 157 155]
def A1:List RI:=[omk 158 4,oo 159 (Bc .sub 158 2) [158],omk 4 159]
def AZ:List RI:=[omk 160 4,oo 161 (Bc .gtr 160 0) [160]]
def AY:List RI:=[omk 162 0,omk 163 12,oo 164 (.bin .add (.c (.int .u32 48)) (.t 163)) [163],oo 165 (.toInt .u8 (.t 164)) [164],oo 166 (.iaddrL 1 (.t 162) (ci 0)) [162],Sr 1 166 165 [165,166]]
def xlo:RC:=(So Lo (Sq (Bk 0 (.loop Bg)) (So Bf (Sq (So Be (Kc 99 (Kk [99] (So Bd (So Ba (So A9 (Sq (.flt [0,0,2,0,0,16,0,64,192,0,512,455,2503,8191,16383] [] A8 [15,110,111,112,113,114,115,116,117,118,119,120,121,122]) (Sq (.flt [0,0,2,0,0,16,0,64,192,0,512,455,2503,8191,16383] [] A7 [14,123,124,125,126,127,128,129,130,131,132,133,134,135]) (.ops A6))))))) (Kk [99] .skip))) (Sq (So A5 (Kc 139 (Kk [139] (So A4 (So A3 (Sq (.flt [0,0,2,0,0,16,0,64,192,0,512,455,2503,8191,16383] [] A2 [16,145,146,147,148,149,150,151,152,153,154,155,156,157]) (.ops A1))))) (Kk [139] .skip))) (So AZ (Kc 161 (Kk [161] (.ops AY)) (Kk [0,12,161] .skip))))))))
def xb9:FnC:=⟨xlo,167,[],[],[]⟩
def Lc:List RI:=[om 5 0,oo 6 (.len true (.t 5)) [5],oo 7 (Bc .gtr 6 0) [6],omk 8 7,.grp 8 true [(xi 9 8 true (Mv 0)),(xi 10 8 true (.idxS (.t 9) (ci 0))),(xi 11 8 true (Mv 1)),(xi 12 8 true (Bb .eql 10 11))] [9,10,11],oo 13 (Pf 8 12) [8,12]]
def Lb:List RI:=[omk 14 0,oo 15 (.slcS (.t 14) (some (ci 1)) none) [14],omk 0 15]
def Ad:RC:=(Sq (So Lc (Kc 13 (Kk [13] .skip) (Kk [1,13] (.exit 0)))) (Bk 1 (.ops Lb)))
def yW:RC:=Ad
def La:List RI:=[omk 16 0,omk 4 16]
def xln:RC:=(So qQ (Sq (Bk 0 (.loop yW)) (So La .ret)))
def xb8:FnC:=⟨xln,17,[.tmp 4],[],[]⟩
def K7:List RI:=[om 5 0,oo 6 (.len true (.t 5)) [5],oo 7 (Bc .gtr 6 0) [6],omk 8 7,.grp 8 true [(xi 9 8 true (Mv 0)),(xi 10 8 true (Mv 0)),(xi 11 8 true (.len true (.t 10))),(xi 12 8 true (Bc .sub 11 1)),(xi 13 8 true (.idxS (.t 9) (.t 12))),(xi 14 8 true (Mv 1)),(xi 15 8 true (Bb .eql 13 14))] [9,10,11,12,13,14],oo 16 (Pf 8 15) [8,15]]
def K6:List RI:=[om 17 0,omk 18 0,oo 19 (.len true (.t 18)) [18],oo 20 (Bc .sub 19 1) [19],oo 21 (.slcS (.t 17) none (some (.t 20))) [17,20],omk 0 21]
def Ac:RC:=(Sq (So K7 (Kc 16 (Kk [16] .skip) (Kk [1,16] (.exit 0)))) (Bk 1 (.ops K6)))
def yV:RC:=Ac
def K5:List RI:=[omk 22 0,omk 4 22]
def xlm:RC:=(So qQ (Sq (Bk 0 (.loop yV)) (So K5 .ret)))
def xb7:FnC:=⟨xlm,23,[.tmp 4],[],[]⟩
def K4:List RI:=[om 5 0,oo 6 (.len true (.t 5)) [5],om 7 1,oo 8 (.len true (.t 7)) [7],oo 9 (Bb .geq 6 8) [6,8],omk 10 9,.grp 10 true [(xi 11 10 true (Mv 0)),(xi 12 10 true (Mv 1)),(xi 13 10 true (.len true (.t 12))),(xi 14 10 true (.slcS (.t 11) none (some (.t 13)))),(xi 15 10 true (Mv 1)),(xi 16 10 true (Bb .eql 14 15))] [0,1,11,12,13,14,15],oo 17 (Pf 10 16) [10,16],omk 4 17]
def xll:RC:=(So lJ (So K4 .ret))
def xb6:FnC:=⟨xll,18,[.tmp 4],[],[]⟩
def K3:List RI:=[om 11 0,oo 12 (.len true (.t 11)) [11],omk 4 12]
def K2:List RI:=[on 13 (Mb false),.grp 13 true [(xi 14 13 true (Mv 4)),(xi 15 13 true (.bin .lss (ci 0) (.t 14))),(xi 16 13 true (Mv 15))] [14,15],.grp 16 true [(xi 17 16 true (Mv 4)),(xi 18 16 true (Bc .lss 17 10))] [17],.grp 13 true [(xi 19 13 true (Pf 16 18))] [16,18],oo 20 (Pf 13 19) [13,19],omk 21 20,.grp 21 false [(xi 22 21 false (Mb true))] [],.grp 22 true [(xi 23 22 true (Mv 4)),(xi 24 22 true (.bin .lss (ci 0) (.t 23))),(xi 25 22 true (Mv 24))] [23,24],.grp 25 true [(xi 26 25 true (Mv 4)),(xi 27 25 true (Bc .lss 26 19))] [4,26],.grp 22 true [(xi 28 22 true (Pf 25 27))] [25,27],.grp 21 false [(xi 29 21 false (Pf 22 28))] [22,28],oo 30 (Pt 21 29) [21,29]]
def K1:List RI:=[om 31 0,omk 5 31]
def K0:List RI:=[om 32 0,oo 33 (.idxS (.t 32) (ci 0)) [32],oo 34 (.bin .eql (.t 33) (.c (.u8 45))) [33],omk 35 34,.grp 35 false [(xi 36 35 false (Mv 0)),(xi 37 35 false (.idxS (.t 36) (ci 0))),(xi 38 35 false (.bin .eql (.t 37) (.c (.u8 43))))] [36,37],oo 39 (Pt 35 38) [35,38]]
def KZ:List RI:=[omk 40 0,oo 41 (.slcS (.t 40) (some (ci 1)) none) [40],omk 0 41]
def KY:List RI:=[om 42 0,oo 43 (.len true (.t 42)) [42],oo 44 (Bc .lss 43 1) [43]]
def KX:List RI:=[omk 46 0,oo 47 (.s2b (.t 46)) [46],on 48 (Ln 47),on 49 (Mc 0)]
def KW:List RI:=[on 50 (Bb .lss 49 48)]
def AX:List RI:=[on 51 (Ia 1 47 49),oo 52 (Ld 51) [51],omk 8 52]
def AW:List RI:=[omk 53 8,oo 54 (.bin .sub (.t 53) (.c (.u8 48))) [53],omk 8 54]
def AV:List RI:=[om 55 8,oo 56 (.bin .gtr (.t 55) (.c (.u8 9))) [55]]
def AU:List RI:=[omk 58 6,oo 59 (Bc .mul 58 10) [58],omk 60 8,oo 61 (.toInt .i64 (.t 60)) [60],oo 62 (Bb .add 59 61) [59,61],omk 6 62]
def AS:List RI:=[oo 63 (Bc .add 49 1) [49],omk 49 63]
def tx:RC:=(So KW (Sq (Kc 50 (Kk [50] .skip) (Kk [47,48,49,50] (.exit 0))) (Sq (Bk 1 (So AX (So AW (Sq (So AV (Kc 56 (Kk [5,6,8,47,48,49,56] (Sq .bad .ret)) (Kk [56] .skip))) (.ops AU))))) (.ops AS))))
def pe:RC:=tx
def AR:List RI:=[omk 64 5,oo 65 (.idxS (.t 64) (ci 0)) [64],oo 66 (.bin .eql (.t 65) (.c (.u8 45))) [65]]
def AQ:List RI:=[omk 67 6,oo 68 (.un .neg (.t 67)) [67],omk 6 68]
def AP:List RI:=[omk 69 6,omk 2 69,on 3 (.mov (.c .nili))]
def AO:List RI:=[omk 71 0,oo 72 (Ca 186 [.t 71,ci 10,ci 0]) [71],omk 70 72,on 73 (.ext (.t 70) 0),oo 74 (.ext (.t 70) 1) [70],omk 9 73,omk 10 74]
def AN:List RI:=[omk 75 9,omk 76 10,omk 2 75,omk 3 76]
def xlk:RC:=(So yX (So K3 (Sq (So K2 (Kc 30 (Kk [30] (So K1 (Sq (So K0 (Kc 39 (Kk [39] (So KZ (So KY (Kc 44 (Kk [0,5,44] (Sq .bad .ret)) (Kk [44] .skip))))) (Kk [39] .skip))) (So lI (Sq (So KX (Bk 0 (.loop pe))) (Sq (So AR (Kc 66 (Kk [66] (.ops AQ)) (Kk [66] .skip))) (So AP .ret))))))) (Kk [30] .skip))) (So AO (So AN .ret)))))
def xb5:FnC:=⟨xlk,77,[.tmp 2,.tmp 3],[],[]⟩
def KV:List RI:=[om 5 0,om 6 1,oo 7 (Bb .shl 5 6) [5,6],omk 8 0,omk 9 1,oo 10 (.bin .sub (.c (.int .u64 32)) (.t 9)) [9],oo 11 (Bb .shr 8 10) [8,10],oo 12 (Bb .or 7 11) [7,11],omk 4 12]
def xlj:RC:=(So oJ (So KV .ret))
def xb4:FnC:=⟨xlj,13,[.tmp 4],[],[]⟩
def KS:List RI:=[omk 3 0,oo 4 (Bc .mul 3 78913) [3],oo 5 (.bin .shr (.t 4) (.c (.int .u64 18))) [4],omk 2 5]
def xli:RC:=(So my (So KS .ret))
def xb3:FnC:=⟨xli,6,[.tmp 2],[],[]⟩
def xlh:RC:=(So my (Sq (So PG (Kc 3 (Kk [3] (So fL .ret)) (Kk [3] .skip))) (So jM .ret)))
def xb2:FnC:=⟨xlh,4,[.tmp 2],[],[]⟩
theorem Fk{g:Nat}{F:FnC}{fn:Func}(h1:prog.funcs[g]? =some fn)(h3:fn.ntmps=F.n:=by kernel_rfl)(h2:fn.body.map (cD prog)=some F.code.er:=by kernel_rfl)(h4:(qI prog fn.results.toList F.rs&&ej prog g&&F.code.ok F.n)=true:=by kernel_rfl):bT prog g F:=by simp only[az]at h4;exact SN h1 h2 h3 h4.1.1 h4.1.2 h4.2
noncomputable def xkL:Nat->Option FnB
 |3=>some (.code F3)
 |5=>some (.code F5)
 |6=>some (.code F6)
 |7=>some (.code F7)
 |10=>some (.code F10)
 |11=>some (.code F11)
 |12=>some (.code F12)
 |13=>some (.code F13)
 |14=>some (.code F14)
 |15=>some (.code F15)
 |16=>some (.code F16)
 |17=>some (.code F17)
 |18=>some (.code F18)
 |19=>some (.code F19)
 |20=>some (.code F20)
 |21=>some (.code F21)
 |22=>some (.code F22)
 |23=>some (.code F23)
 |24=>some (.code F24)
 |25=>some (.code F25)
 |26=>some (.code F26)
 |28=>some (.code F28)
 |29=>some (.code F29)
 |31=>some (.code F31)
 |33=>some (.code F33)
 |34=>some (.code F34)
 |35=>some (.code F35)
 |36=>some (.code F36)
 |37=>some (.code F37)
 |38=>some (.code F38)
 |39=>some (.code F39)
 |40=>some (.code F40)
 |41=>some (.code F41)
 |42=>some (.code F42)
 |43=>some (.code F43)
 |44=>some (.code F44)
 |45=>some (.code F45)
 |46=>some (.code F46)
 |47=>some (.code F47)
 |48=>some (.code F48)
 |49=>some (.code F49)
 |50=>some (.code F50)
 |51=>some (.code F51)
 |52=>some (.code F52)
 |53=>some (.code F53)
 |54=>some (.code F54)
 |55=>some (.code F55)
 |56=>some (.code F56)
 |57=>some (.code F57)
 |58=>some (.code F58)
 |59=>some (.code F59)
 |60=>some (.code F60)
 |63=>some (.code F63)
 |64=>some (.code F64)
 |65=>some (.code F65)
 |66=>some (.code F66)
 |67=>some (.code F67)
 |68=>some (.code F68)
 |69=>some (.code F69)
 |72=>some (.code F72)
 |75=>some (.code F75)
 |76=>some (.code F76)
 |77=>some (.code F77)
 |78=>some (.code F78)
 |79=>some (.code F79)
 |80=>some (.code F80)
 |81=>some (.code F81)
 |82=>some (.code F82)
 |83=>some (.code F83)
 |84=>some (.code F84)
 |85=>some (.code F85)
 |86=>some (.code F86)
 |87=>some (.code F87)
 |88=>some (.code F88)
 |89=>some (.code F89)
 |90=>some (.code F90)
 |91=>some (.code F91)
 |92=>some (.code F92)
 |93=>some (.code F93)
 |94=>some (.code F94)
 |95=>some (.code F95)
 |96=>some (.code F96)
 |97=>some (.code F97)
 |98=>some (.code F98)
 |99=>some (.code F99)
 |100=>some (.code xcK)
 |101=>some (.code xcJ)
 |102=>some (.code xcI)
 |106=>some (.code xcH)
 |107=>some (.code xcG)
 |108=>some (.code xcF)
 |109=>some (.code xcE)
 |110=>some (.code xcD)
 |113=>some (.code xcC)
 |114=>some (.code xcB)
 |115=>some (.code xcA)
 |116=>some (.code xcz)
 |117=>some (.code xcy)
 |118=>some (.code xcx)
 |121=>some (.code xcw)
 |122=>some (.code xcv)
 |123=>some (.code xcu)
 |124=>some (.code xct)
 |125=>some (.code xcs)
 |126=>some (.code xcr)
 |127=>some (.code xcq)
 |128=>some (.code xcp)
 |129=>some (.code xco)
 |130=>some (.code xcn)
 |131=>some (.code xcm)
 |132=>some (.code xcl)
 |133=>some (.code xck)
 |134=>some (.code xcj)
 |135=>some (.code xci)
 |136=>some (.code xch)
 |137=>some (.code xcg)
 |141=>some (.code xcf)
 |142=>some (.code xce)
 |152=>some (.code xcd)
 |153=>some (.code xcc)
 |155=>some (.code xcb)
 |156=>some (.code xca)
 |157=>some (.code xb9)
 |159=>some (.code xb8)
 |160=>some (.code xb7)
 |166=>some (.code xb6)
 |167=>some (.code xb5)
 |169=>some (.code xb4)
 |178=>some (.code xb3)
 |179=>some (.code xb2)
 |61=>some (.prim Pr.p61)
 |62=>some (.prim Pr.p62)
 |111=>some (.prim Pr.p111)
 |154=>some (.prim Pr.p154)
 |_=>none
def xmQ:Nat->Sig
 |60=>⟨[],[0]⟩
 |157=>⟨[],[0]⟩
 |62=>⟨[0],[0]⟩
 |_=> {}
noncomputable def T:jR:=⟨xkL,xmQ⟩
abbrev tf(k:Nat)(F:FnC):Prop:=T.fn k=some (.code F)
theorem T_3:tf 3 F3:=rfl
theorem T_5:tf 5 F5:=rfl
theorem T_6:tf 6 F6:=rfl
theorem T_7:tf 7 F7:=rfl
theorem xpM:tf 10 F10:=rfl
theorem xmy:tf 11 F11:=rfl
theorem xpL:tf 12 F12:=rfl
theorem xpK:tf 13 F13:=rfl
theorem xpJ:tf 14 F14:=rfl
theorem xpI:tf 15 F15:=rfl
theorem xpH:tf 16 F16:=rfl
theorem xpG:tf 17 F17:=rfl
theorem xpF:tf 18 F18:=rfl
theorem xpE:tf 19 F19:=rfl
theorem xpD:tf 20 F20:=rfl
theorem xpC:tf 21 F21:=rfl
theorem xpB:tf 22 F22:=rfl
theorem xpA:tf 23 F23:=rfl
theorem xpz:tf 24 F24:=rfl
theorem xpy:tf 25 F25:=rfl
theorem xpx:tf 26 F26:=rfl
theorem xpw:tf 28 F28:=rfl
theorem xpv:tf 29 F29:=rfl
theorem xpu:tf 31 F31:=rfl
theorem xpt:tf 33 F33:=rfl
theorem xps:tf 34 F34:=rfl
theorem xpr:tf 35 F35:=rfl
theorem xmx:tf 36 F36:=rfl
theorem xpq:tf 37 F37:=rfl
theorem pS:tf 38 F38:=rfl
theorem xpp:tf 39 F39:=rfl
theorem xpo:tf 40 F40:=rfl
theorem xpn:tf 41 F41:=rfl
theorem xpm:tf 42 F42:=rfl
theorem xpl:tf 43 F43:=rfl
theorem xpk:tf 44 F44:=rfl
theorem xpj:tf 45 F45:=rfl
theorem xpi:tf 46 F46:=rfl
theorem xph:tf 47 F47:=rfl
theorem xpg:tf 48 F48:=rfl
theorem xpf:tf 49 F49:=rfl
theorem xpe:tf 50 F50:=rfl
theorem xpd:tf 51 F51:=rfl
theorem xpc:tf 52 F52:=rfl
theorem xpb:tf 53 F53:=rfl
theorem xpa:tf 54 F54:=rfl
theorem xo9:tf 55 F55:=rfl
theorem xo8:tf 56 F56:=rfl
theorem xo7:tf 57 F57:=rfl
theorem xo6:tf 58 F58:=rfl
theorem xo5:tf 59 F59:=rfl
theorem xmw:tf 60 F60:=rfl
theorem xo3:tf 63 F63:=rfl
theorem xbI:tf 64 F64:=rfl
theorem xmu:tf 65 F65:=rfl
theorem xmt:tf 66 F66:=rfl
theorem xo2:tf 67 F67:=rfl
theorem xo1:tf 68 F68:=rfl
theorem xms:tf 69 F69:=rfl
theorem xo0:tf 72 F72:=rfl
theorem xoZ:tf 75 F75:=rfl
theorem xoY:tf 76 F76:=rfl
theorem xoX:tf 77 F77:=rfl
theorem xoW:tf 78 F78:=rfl
theorem xoV:tf 79 F79:=rfl
theorem xoU:tf 80 F80:=rfl
theorem xoT:tf 81 F81:=rfl
theorem xoS:tf 82 F82:=rfl
theorem xoR:tf 83 F83:=rfl
theorem xoQ:tf 84 F84:=rfl
theorem xoP:tf 85 F85:=rfl
theorem xoO:tf 86 F86:=rfl
theorem xgw:tf 87 F87:=rfl
theorem xoN:tf 88 F88:=rfl
theorem xoM:tf 89 F89:=rfl
theorem xoL:tf 90 F90:=rfl
theorem xoK:tf 91 F91:=rfl
theorem xoJ:tf 92 F92:=rfl
theorem xoI:tf 93 F93:=rfl
theorem xoH:tf 94 F94:=rfl
theorem xoG:tf 95 F95:=rfl
theorem xoF:tf 96 F96:=rfl
theorem xoE:tf 97 F97:=rfl
theorem xoD:tf 98 F98:=rfl
theorem xmr:tf 99 F99:=rfl
theorem xko:tf 100 xcK:=rfl
theorem xbK:tf 101 xcJ:=rfl
theorem xkn:tf 102 xcI:=rfl
theorem xkm:tf 106 xcH:=rfl
theorem Fc:tf 107 xcG:=rfl
theorem xkl:tf 108 xcF:=rfl
theorem xkk:tf 109 xcE:=rfl
theorem xkj:tf 110 xcD:=rfl
theorem xkh:tf 113 xcC:=rfl
theorem xkg:tf 114 xcB:=rfl
theorem xkf:tf 115 xcA:=rfl
theorem xke:tf 116 xcz:=rfl
theorem xkd:tf 117 xcy:=rfl
theorem xkc:tf 118 xcx:=rfl
theorem xkb:tf 121 xcw:=rfl
theorem xka:tf 122 xcv:=rfl
theorem xj9:tf 123 xcu:=rfl
theorem xbJ:tf 124 xct:=rfl
theorem xj8:tf 125 xcs:=rfl
theorem xj7:tf 126 xcr:=rfl
theorem xj6:tf 127 xcq:=rfl
theorem xj5:tf 128 xcp:=rfl
theorem xj4:tf 129 xco:=rfl
theorem xj3:tf 130 xcn:=rfl
theorem xj2:tf 131 xcm:=rfl
theorem xj1:tf 132 xcl:=rfl
theorem xj0:tf 133 xck:=rfl
theorem xjZ:tf 134 xcj:=rfl
theorem xjY:tf 135 xci:=rfl
theorem xjX:tf 136 xch:=rfl
theorem xjW:tf 137 xcg:=rfl
theorem xjV:tf 141 xcf:=rfl
theorem xjU:tf 142 xce:=rfl
theorem xjT:tf 152 xcd:=rfl
theorem xjS:tf 153 xcc:=rfl
theorem xjQ:tf 155 xcb:=rfl
theorem xjP:tf 156 xca:=rfl
theorem yc:tf 157 xb9:=rfl
theorem xjO:tf 159 xb8:=rfl
theorem xjN:tf 160 xb7:=rfl
theorem xjM:tf 166 xb6:=rfl
theorem xjL:tf 167 xb5:=rfl
theorem xjK:tf 169 xb4:=rfl
theorem xjJ:tf 178 xb3:=rfl
theorem xjI:tf 179 xb2:=rfl
theorem xo4:T.fn 61=some (.prim Pr.p61):=rfl
theorem xmv:T.fn 62=some (.prim Pr.p62):=rfl
theorem xki:T.fn 111=some (.prim Pr.p111):=rfl
theorem xjR:T.fn 154=some (.prim Pr.p154):=rfl
theorem Ty:T.sg 61= {}:=rfl
theorem xmD:T.sg 62=⟨[0],[0]⟩:=rfl
theorem xbX:T.sg 111= {}:=rfl
theorem xkt:T.sg 154= {}:=rfl
theorem S_3:T.sg 3= {}:=rfl
theorem S_5:T.sg 5= {}:=rfl
theorem S_6:T.sg 6= {}:=rfl
theorem S_7:T.sg 7= {}:=rfl
theorem nB:T.sg 10= {}:=rfl
theorem nz:T.sg 11= {}:=rfl
theorem jZ:T.sg 12= {}:=rfl
theorem TB:T.sg 13= {}:=rfl
theorem xpY:T.sg 14= {}:=rfl
theorem TA:T.sg 15= {}:=rfl
theorem tY:T.sg 16= {}:=rfl
theorem wC:T.sg 17= {}:=rfl
theorem yh:T.sg 18= {}:=rfl
theorem Pi:T.sg 19= {}:=rfl
theorem xmK:T.sg 20= {}:=rfl
theorem Tz:T.sg 21= {}:=rfl
theorem xmJ:T.sg 22= {}:=rfl
theorem Ph:T.sg 23= {}:=rfl
theorem FD:T.sg 24= {}:=rfl
theorem iS:T.sg 25= {}:=rfl
theorem Pg:T.sg 26= {}:=rfl
theorem xgK:T.sg 28= {}:=rfl
theorem xmI:T.sg 29= {}:=rfl
theorem xgJ:T.sg 31= {}:=rfl
theorem FC:T.sg 33= {}:=rfl
theorem yg:T.sg 34= {}:=rfl
theorem Pe:T.sg 35= {}:=rfl
theorem xmH:T.sg 36= {}:=rfl
theorem eI:T.sg 37= {}:=rfl
theorem xgI:T.sg 38= {}:=rfl
theorem xbM:T.sg 39= {}:=rfl
theorem xgH:T.sg 40= {}:=rfl
theorem yf:T.sg 41= {}:=rfl
theorem jY:T.sg 42= {}:=rfl
theorem xpX:T.sg 43= {}:=rfl
theorem sm:T.sg 44= {}:=rfl
theorem xpW:T.sg 45= {}:=rfl
theorem xmG:T.sg 46= {}:=rfl
theorem FB:T.sg 47= {}:=rfl
theorem wB:T.sg 48= {}:=rfl
theorem xpV:T.sg 49= {}:=rfl
theorem Pd:T.sg 50= {}:=rfl
theorem xmF:T.sg 51= {}:=rfl
theorem xmE:T.sg 52= {}:=rfl
theorem xpU:T.sg 53= {}:=rfl
theorem wA:T.sg 54= {}:=rfl
theorem Dj:T.sg 55= {}:=rfl
theorem xbL:T.sg 56= {}:=rfl
theorem Pc:T.sg 57= {}:=rfl
theorem xgG:T.sg 58= {}:=rfl
theorem xgF:T.sg 59= {}:=rfl
theorem xgE:T.sg 60=⟨[],[0]⟩:=rfl
theorem xgD:T.sg 63= {}:=rfl
theorem xpT:T.sg 64= {}:=rfl
theorem xmC:T.sg 65= {}:=rfl
theorem xmB:T.sg 66= {}:=rfl
theorem xpS:T.sg 67= {}:=rfl
theorem xmA:T.sg 68= {}:=rfl
theorem FA:T.sg 69= {}:=rfl
theorem xmz:T.sg 72= {}:=rfl
theorem xpR:T.sg 75= {}:=rfl
theorem ny:T.sg 76= {}:=rfl
theorem xgC:T.sg 77= {}:=rfl
theorem xpQ:T.sg 78= {}:=rfl
theorem xgB:T.sg 79= {}:=rfl
theorem Pb:T.sg 80= {}:=rfl
theorem ye:T.sg 81= {}:=rfl
theorem Fx:T.sg 82= {}:=rfl
theorem Tx:T.sg 83= {}:=rfl
theorem Pa:T.sg 84= {}:=rfl
theorem xpP:T.sg 85= {}:=rfl
theorem oi:T.sg 86= {}:=rfl
theorem O9:T.sg 87= {}:=rfl
theorem nu:T.sg 88= {}:=rfl
theorem oh:T.sg 89= {}:=rfl
theorem tX:T.sg 90= {}:=rfl
theorem xpO:T.sg 91= {}:=rfl
theorem xpN:T.sg 92= {}:=rfl
theorem xgA:T.sg 93= {}:=rfl
theorem xgz:T.sg 94= {}:=rfl
theorem kG:T.sg 95= {}:=rfl
theorem nt:T.sg 96= {}:=rfl
theorem Tw:T.sg 97= {}:=rfl
theorem xgy:T.sg 98= {}:=rfl
theorem Di:T.sg 99= {}:=rfl
theorem xkH:T.sg 100= {}:=rfl
theorem xb0:T.sg 101= {}:=rfl
theorem xkG:T.sg 102= {}:=rfl
theorem pU:T.sg 106= {}:=rfl
theorem xbZ:T.sg 107= {}:=rfl
theorem Ff:T.sg 108= {}:=rfl
theorem xbY:T.sg 109= {}:=rfl
theorem xkF:T.sg 110= {}:=rfl
theorem xbW:T.sg 113= {}:=rfl
theorem xkE:T.sg 114= {}:=rfl
theorem xbV:T.sg 115= {}:=rfl
theorem xkD:T.sg 116= {}:=rfl
theorem lc:T.sg 117= {}:=rfl
theorem mR:T.sg 118= {}:=rfl
theorem xkC:T.sg 121= {}:=rfl
theorem xkB:T.sg 122= {}:=rfl
theorem xkA:T.sg 123= {}:=rfl
theorem QH:T.sg 124= {}:=rfl
theorem xkz:T.sg 125= {}:=rfl
theorem xky:T.sg 126= {}:=rfl
theorem xbU:T.sg 127= {}:=rfl
theorem xbT:T.sg 128= {}:=rfl
theorem xbS:T.sg 129= {}:=rfl
theorem xbR:T.sg 130= {}:=rfl
theorem Fe:T.sg 131= {}:=rfl
theorem xkx:T.sg 132= {}:=rfl
theorem xkw:T.sg 133= {}:=rfl
theorem xbQ:T.sg 134= {}:=rfl
theorem xbP:T.sg 135= {}:=rfl
theorem xkv:T.sg 136= {}:=rfl
theorem xku:T.sg 137= {}:=rfl
theorem xbO:T.sg 141= {}:=rfl
theorem rB:T.sg 142= {}:=rfl
theorem kZ:T.sg 152= {}:=rfl
theorem QG:T.sg 153= {}:=rfl
theorem xks:T.sg 155= {}:=rfl
theorem yk:T.sg 156= {}:=rfl
theorem yj:T.sg 157=⟨[],[0]⟩:=rfl
theorem xkr:T.sg 159= {}:=rfl
theorem xkq:T.sg 160= {}:=rfl
theorem xbN:T.sg 166= {}:=rfl
theorem xkp:T.sg 167= {}:=rfl
theorem yi:T.sg 169= {}:=rfl
theorem kY:T.sg 178= {}:=rfl
theorem kX:T.sg 179= {}:=rfl
theorem xhl(c:CSt):run T EJ c=run T Qs c:=rfl
theorem xhk(c:CSt):run T PC c=run T Qr c:=rfl
theorem xen(c:CSt):run T y6 c=run T Al c:=rfl
theorem xej(c:CSt):run T uv c=run T Ah c:=rfl
theorem xeg(c:CSt):run T oI c=run T Ae c:=rfl
theorem xed(c:CSt):run T mf c=run T Ab c:=rfl
theorem xec(c:CSt):run T me c=run T Aa c:=rfl
theorem xeb(c:CSt):run T uu c=run T z8 c:=rfl
theorem xea(c:CSt):run T ut c=run T z7 c:=rfl
theorem xhx(c:CSt):run T P3 c=run T QE c:=rfl
theorem xd9(c:CSt):run T yT c=run T z6 c:=rfl
theorem xhw(c:CSt):run T P0 c=run T QD c:=rfl
theorem xd8(c:CSt):run T yS c=run T zZ c:=rfl
theorem xhv(c:CSt):run T PZ c=run T QC c:=rfl
theorem xd7(c:CSt):run T yR c=run T zY c:=rfl
theorem xd6(c:CSt):run T yQ c=run T zX c:=rfl
theorem xd5(c:CSt):run T qP c=run T zW c:=rfl
theorem xhu(c:CSt):run T PX c=run T QB c:=rfl
theorem xd4(c:CSt):run T mc c=run T zV c:=rfl
theorem xd3(c:CSt):run T yP c=run T zU c:=rfl
theorem xd2(c:CSt):run T yO c=run T zT c:=rfl
theorem xd1(c:CSt):run T yN c=run T zS c:=rfl
theorem xd0(c:CSt):run T J9 c=run T zR c:=rfl
theorem xdZ(c:CSt):run T yM c=run T zQ c:=rfl
theorem xdY(c:CSt):run T l8 c=run T zP c:=rfl
theorem xdX(c:CSt):run T yL c=run T zO c:=rfl
theorem xdW(c:CSt):run T uo c=run T zN c:=rfl
theorem xht(c:CSt):run T EO c=run T QA c:=rfl
theorem xhs(c:CSt):run T PS c=run T Qz c:=rfl
theorem xdV(c:CSt):run T l6 c=run T zM c:=rfl
theorem xdU(c:CSt):run T ul c=run T zL c:=rfl
theorem xhr(c:CSt):run T PM c=run T Qy c:=rfl
theorem xdT(c:CSt):run T yI c=run T zK c:=rfl
theorem xdS(c:CSt):run T yH c=run T zJ c:=rfl
theorem xhq(c:CSt):run T PJ c=run T Qx c:=rfl
theorem xdR(c:CSt):run T l5 c=run T zI c:=rfl
theorem xdQ(c:CSt):run T uj c=run T zH c:=rfl
theorem xdP(c:CSt):run T ui c=run T zG c:=rfl
theorem xdO(c:CSt):run T yG c=run T zF c:=rfl
theorem xhp(c:CSt):run T PF c=run T Qw c:=rfl
theorem xho(c:CSt):run T PE c=run T Qv c:=rfl
theorem xdN(c:CSt):run T yF c=run T zE c:=rfl
theorem xdM(c:CSt):run T uh c=run T zD c:=rfl
theorem xdL(c:CSt):run T qO c=run T zC c:=rfl
theorem xdK(c:CSt):run T qN c=run T zB c:=rfl
theorem xhn(c:CSt):run T PD c=run T Qu c:=rfl
theorem xdJ(c:CSt):run T yE c=run T zA c:=rfl
theorem xdI(c:CSt):run T yD c=run T zy c:=rfl
theorem xdH(c:CSt):run T ug c=run T zx c:=rfl
theorem xhm(c:CSt):run T VP c=run T Qt c:=rfl
theorem xdG(c:CSt):run T yC c=run T zw c:=rfl
theorem xdF(c:CSt):run T yB c=run T zu c:=rfl
theorem xdE(c:CSt):run T yA c=run T zt c:=rfl
theorem xdD(c:CSt):run T yy c=run T zr c:=rfl
theorem xdC(c:CSt):run T yx c=run T zq c:=rfl
theorem xhj(c:CSt):run T PA c=run T Qq c:=rfl
theorem xhi(c:CSt):run T Pz c=run T Qp c:=rfl
theorem xdB(c:CSt):run T HX c=run T zp c:=rfl
theorem xdA(c:CSt):run T yw c=run T zo c:=rfl
theorem xdz(c:CSt):run T yv c=run T zm c:=rfl
theorem xhh(c:CSt):run T Pw c=run T Qo c:=rfl
theorem xhg(c:CSt):run T Pu c=run T Qn c:=rfl
theorem xhf(c:CSt):run T Ps c=run T Qm c:=rfl
theorem xhe(c:CSt):run T Pp c=run T Ql c:=rfl
theorem RX(c:CSt):run T s8 c=run T tT c:=rfl
theorem RW(c:CSt):run T s7 c=run T tQ c:=rfl
theorem RU(c:CSt):run T mW c=run T tP c:=rfl
theorem RT(c:CSt):run T mV c=run T tO c:=rfl
theorem xet(c:CSt):run T zb c=run T Ar c:=rfl
theorem xes(c:CSt):run T N0 c=run T Aq c:=rfl
theorem xer(c:CSt):run T za c=run T Ap c:=rfl
theorem RR(c:CSt):run T s6 c=run T tN c:=rfl
theorem xeq(c:CSt):run T y9 c=run T Ao c:=rfl
theorem RQ(c:CSt):run T fS c=run T tM c:=rfl
theorem xep(c:CSt):run T y8 c=run T An c:=rfl
theorem RP(c:CSt):run T sY c=run T tK c:=rfl
theorem RO(c:CSt):run T sX c=run T tJ c:=rfl
theorem RN(c:CSt):run T sW c=run T tI c:=rfl
theorem xeo(c:CSt):run T y7 c=run T Am c:=rfl
theorem xem(c:CSt):run T M8 c=run T Ak c:=rfl
theorem xel(c:CSt):run T MS c=run T Aj c:=rfl
theorem xek(c:CSt):run T y0 c=run T Ai c:=rfl
theorem RM(c:CSt):run T sV c=run T tH c:=rfl
theorem xei(c:CSt):run T yY c=run T Ag c:=rfl
theorem RL(c:CSt):run T sU c=run T tG c:=rfl
theorem RK(c:CSt):run T fR c=run T tF c:=rfl
theorem RJ(c:CSt):run T sT c=run T tE c:=rfl
theorem xeh(c:CSt):run T LP c=run T Af c:=rfl
theorem RH(c:CSt):run T Bg c=run T tz c:=rfl
theorem xef(c:CSt):run T yW c=run T Ad c:=rfl
theorem xee(c:CSt):run T yV c=run T Ac c:=rfl
theorem RG(c:CSt):run T pe c=run T tx c:=rfl
theorem xnc:bT prog 3 F3:=Fk func3
theorem xnb:bT prog 5 F5:=Fk func5
theorem xna:bT prog 6 F6:=Fk func6
theorem xm9:bT prog 7 F7:=Fk func7
theorem xiU:bT prog 10 F10:=Fk func10
theorem xiT:bT prog 11 F11:=Fk func11
theorem xiS:bT prog 12 F12:=Fk func12
theorem xiR:bT prog 13 F13:=Fk func13
theorem xiQ:bT prog 14 F14:=Fk func14
theorem xiP:bT prog 15 F15:=Fk func15
theorem xiO:bT prog 16 F16:=Fk func16
theorem xiN:bT prog 17 F17:=Fk func17
theorem xiM:bT prog 18 F18:=Fk func18
theorem xiL:bT prog 19 F19:=Fk func19
theorem xiK:bT prog 20 F20:=Fk func20
theorem xiJ:bT prog 21 F21:=Fk func21
theorem xiI:bT prog 22 F22:=Fk func22
theorem xiH:bT prog 23 F23:=Fk func23
theorem xiG:bT prog 24 F24:=Fk func24
theorem xiF:bT prog 25 F25:=Fk func25
theorem xiE:bT prog 26 F26:=Fk func26
theorem xiD:bT prog 28 F28:=Fk func28
theorem xiC:bT prog 29 F29:=Fk func29
theorem xiB:bT prog 31 F31:=Fk func31
theorem xiA:bT prog 33 F33:=Fk func33
theorem xiz:bT prog 34 F34:=Fk func34
theorem xiy:bT prog 35 F35:=Fk func35
theorem xix:bT prog 36 F36:=Fk func36
theorem xiw:bT prog 37 F37:=Fk func37
theorem xiv:bT prog 38 F38:=Fk func38
theorem xiu:bT prog 39 F39:=Fk func39
theorem xit:bT prog 40 F40:=Fk func40
theorem xis:bT prog 41 F41:=Fk func41
theorem xir:bT prog 42 F42:=Fk func42
theorem xiq:bT prog 43 F43:=Fk func43
theorem xip:bT prog 44 F44:=Fk func44
theorem xio:bT prog 45 F45:=Fk func45
theorem xin:bT prog 46 F46:=Fk func46
theorem xim:bT prog 47 F47:=Fk func47
theorem xil:bT prog 48 F48:=Fk func48
theorem xik:bT prog 49 F49:=Fk func49
theorem xij:bT prog 50 F50:=Fk func50
theorem xii:bT prog 51 F51:=Fk func51
theorem xih:bT prog 52 F52:=Fk func52
theorem xig:bT prog 53 F53:=Fk func53
theorem xif:bT prog 54 F54:=Fk func54
theorem xie:bT prog 55 F55:=Fk func55
theorem xid:bT prog 56 F56:=Fk func56
theorem xic:bT prog 57 F57:=Fk func57
theorem xib:bT prog 58 F58:=Fk func58
theorem xia:bT prog 59 F59:=Fk func59
theorem xh9:bT prog 60 F60:=Fk func60
theorem xh8:bT prog 63 F63:=Fk func63
theorem xh7:bT prog 64 F64:=Fk func64
theorem xh6:bT prog 65 F65:=Fk func65
theorem xh5:bT prog 66 F66:=Fk func66
theorem xh4:bT prog 67 F67:=Fk func67
theorem xh3:bT prog 68 F68:=Fk func68
theorem xh2:bT prog 69 F69:=Fk func69
theorem xh1:bT prog 72 F72:=Fk func72
theorem xh0:bT prog 75 F75:=Fk func75
theorem xhZ:bT prog 76 F76:=Fk func76
theorem xhY:bT prog 77 F77:=Fk func77
theorem xhX:bT prog 78 F78:=Fk func78
theorem xhW:bT prog 79 F79:=Fk func79
theorem xhV:bT prog 80 F80:=Fk func80
theorem xhU:bT prog 81 F81:=Fk func81
theorem xhT:bT prog 82 F82:=Fk func82
theorem xhS:bT prog 83 F83:=Fk func83
theorem xhR:bT prog 84 F84:=Fk func84
theorem xhQ:bT prog 85 F85:=Fk func85
theorem xhP:bT prog 86 F86:=Fk func86
theorem xhO:bT prog 87 F87:=Fk func87
theorem xhN:bT prog 88 F88:=Fk func88
theorem xhM:bT prog 89 F89:=Fk func89
theorem xhL:bT prog 90 F90:=Fk func90
theorem xhK:bT prog 91 F91:=Fk func91
theorem xhJ:bT prog 92 F92:=Fk func92
theorem xhI:bT prog 93 F93:=Fk func93
theorem xhH:bT prog 94 F94:=Fk func94
theorem xhG:bT prog 95 F95:=Fk func95
theorem xhF:bT prog 96 F96:=Fk func96
theorem xhE:bT prog 97 F97:=Fk func97
theorem xhD:bT prog 98 F98:=Fk func98
theorem xhC:bT prog 99 F99:=Fk func99
theorem xff:bT prog 100 xcK:=Fk func100
theorem xfe:bT prog 101 xcJ:=Fk func101
theorem xfd:bT prog 102 xcI:=Fk func102
theorem xfc:bT prog 106 xcH:=Fk func106
theorem xfb:bT prog 107 xcG:=Fk func107
theorem xfa:bT prog 108 xcF:=Fk func108
theorem xe9:bT prog 109 xcE:=Fk func109
theorem xe8:bT prog 110 xcD:=Fk func110
theorem xe7:bT prog 113 xcC:=Fk func113
theorem xe6:bT prog 114 xcB:=Fk func114
theorem xe5:bT prog 115 xcA:=Fk func115
theorem xe4:bT prog 116 xcz:=Fk func116
theorem xe3:bT prog 117 xcy:=Fk func117
theorem xe2:bT prog 118 xcx:=Fk func118
theorem xe1:bT prog 121 xcw:=Fk func121
theorem xe0:bT prog 122 xcv:=Fk func122
theorem xeZ:bT prog 123 xcu:=Fk func123
theorem xeY:bT prog 124 xct:=Fk func124
theorem xeX:bT prog 125 xcs:=Fk func125
theorem xeW:bT prog 126 xcr:=Fk func126
theorem xeV:bT prog 127 xcq:=Fk func127
theorem xeU:bT prog 128 xcp:=Fk func128
theorem xeT:bT prog 129 xco:=Fk func129
theorem xeS:bT prog 130 xcn:=Fk func130
theorem xeR:bT prog 131 xcm:=Fk func131
theorem xeQ:bT prog 132 xcl:=Fk func132
theorem xeP:bT prog 133 xck:=Fk func133
theorem xeO:bT prog 134 xcj:=Fk func134
theorem xeN:bT prog 135 xci:=Fk func135
theorem xeM:bT prog 136 xch:=Fk func136
theorem xeL:bT prog 137 xcg:=Fk func137
theorem xeK:bT prog 141 xcf:=Fk func141
theorem xeJ:bT prog 142 xce:=Fk func142
theorem xeI:bT prog 152 xcd:=Fk func152
theorem xeH:bT prog 153 xcc:=Fk func153
theorem xeG:bT prog 155 xcb:=Fk func155
theorem xeF:bT prog 156 xca:=Fk func156
theorem xeE:bT prog 157 xb9:=Fk func157
theorem xeD:bT prog 159 xb8:=Fk func159
theorem xeC:bT prog 160 xb7:=Fk func160
theorem xeB:bT prog 166 xb6:=Fk func166
theorem xeA:bT prog 167 xb5:=Fk func167
theorem xez:bT prog 169 xb4:=Fk func169
theorem xey:bT prog 178 xb3:=Fk func178
theorem xex:bT prog 179 xb2:=Fk func179
theorem xdf:yb prog T:=by
 intro g b h;simp only[T]at h;unfold xkL at h;split at h
 ·cases h;exact xnc
 ·cases h;exact xnb
 ·cases h;exact xna
 ·cases h;exact xm9
 ·cases h;exact xiU
 ·cases h;exact xiT
 ·cases h;exact xiS
 ·cases h;exact xiR
 ·cases h;exact xiQ
 ·cases h;exact xiP
 ·cases h;exact xiO
 ·cases h;exact xiN
 ·cases h;exact xiM
 ·cases h;exact xiL
 ·cases h;exact xiK
 ·cases h;exact xiJ
 ·cases h;exact xiI
 ·cases h;exact xiH
 ·cases h;exact xiG
 ·cases h;exact xiF
 ·cases h;exact xiE
 ·cases h;exact xiD
 ·cases h;exact xiC
 ·cases h;exact xiB
 ·cases h;exact xiA
 ·cases h;exact xiz
 ·cases h;exact xiy
 ·cases h;exact xix
 ·cases h;exact xiw
 ·cases h;exact xiv
 ·cases h;exact xiu
 ·cases h;exact xit
 ·cases h;exact xis
 ·cases h;exact xir
 ·cases h;exact xiq
 ·cases h;exact xip
 ·cases h;exact xio
 ·cases h;exact xin
 ·cases h;exact xim
 ·cases h;exact xil
 ·cases h;exact xik
 ·cases h;exact xij
 ·cases h;exact xii
 ·cases h;exact xih
 ·cases h;exact xig
 ·cases h;exact xif
 ·cases h;exact xie
 ·cases h;exact xid
 ·cases h;exact xic
 ·cases h;exact xib
 ·cases h;exact xia
 ·cases h;exact xh9
 ·cases h;exact xh8
 ·cases h;exact xh7
 ·cases h;exact xh6
 ·cases h;exact xh5
 ·cases h;exact xh4
 ·cases h;exact xh3
 ·cases h;exact xh2
 ·cases h;exact xh1
 ·cases h;exact xh0
 ·cases h;exact xhZ
 ·cases h;exact xhY
 ·cases h;exact xhX
 ·cases h;exact xhW
 ·cases h;exact xhV
 ·cases h;exact xhU
 ·cases h;exact xhT
 ·cases h;exact xhS
 ·cases h;exact xhR
 ·cases h;exact xhQ
 ·cases h;exact xhP
 ·cases h;exact xhO
 ·cases h;exact xhN
 ·cases h;exact xhM
 ·cases h;exact xhL
 ·cases h;exact xhK
 ·cases h;exact xhJ
 ·cases h;exact xhI
 ·cases h;exact xhH
 ·cases h;exact xhG
 ·cases h;exact xhF
 ·cases h;exact xhE
 ·cases h;exact xhD
 ·cases h;exact xhC
 ·cases h;exact xff
 ·cases h;exact xfe
 ·cases h;exact xfd
 ·cases h;exact xfc
 ·cases h;exact xfb
 ·cases h;exact xfa
 ·cases h;exact xe9
 ·cases h;exact xe8
 ·cases h;exact xe7
 ·cases h;exact xe6
 ·cases h;exact xe5
 ·cases h;exact xe4
 ·cases h;exact xe3
 ·cases h;exact xe2
 ·cases h;exact xe1
 ·cases h;exact xe0
 ·cases h;exact xeZ
 ·cases h;exact xeY
 ·cases h;exact xeX
 ·cases h;exact xeW
 ·cases h;exact xeV
 ·cases h;exact xeU
 ·cases h;exact xeT
 ·cases h;exact xeS
 ·cases h;exact xeR
 ·cases h;exact xeQ
 ·cases h;exact xeP
 ·cases h;exact xeO
 ·cases h;exact xeN
 ·cases h;exact xeM
 ·cases h;exact xeL
 ·cases h;exact xeK
 ·cases h;exact xeJ
 ·cases h;exact xeI
 ·cases h;exact xeH
 ·cases h;exact xeG
 ·cases h;exact xeF
 ·cases h;exact xeE
 ·cases h;exact xeD
 ·cases h;exact xeC
 ·cases h;exact xeB
 ·cases h;exact xeA
 ·cases h;exact xez
 ·cases h;exact xey
 ·cases h;exact xex
 ·cases h;exact Pr.p61_ok
 ·cases h;exact Pr.p62_ok
 ·cases h;exact Pr.p111_ok
 ·cases h;exact Pr.p154_ok
 ·cases h
attribute [go_sem] SV.kclip Tok.kc RD xjH xjG xoC iE uw Ra EW jv List.all_replicate CR CQ Rd xde RZ R3 R2 Gy R4 R6 R5 xgp xgo ax.injEq xm7 xg6 xjv xfl xfg xD DA DB xft xcY E5 DD au dX bx aZ Tr Ts xgk Hi GG D5 Dt Du Tok.ids lg aX ah cQ Int.natCast_nonneg Int.ofNat_lt Int.ofNat_le Int.ofNat_inj Ge Rx Gi Rz RB xgM QN xgN xcW xcV xcR xgT xgU xgR xmL QL QK xgL xgV xcS xcN xcO xcP QM xgP FF FG xc0 xcZ xgQ xgO xcX xgS xcT xcU xcQ xm6 xm5 xm8 xdn xg7 xfM xnM xnN xnK xnL xnP SK xfN SO Rw Gj DT Ry Gg xfK DW DX Gp Gq xfJ Sp xos xou xot qh D7 xiY Sg xi0 xfr xfq xfm xi8 xi9 xi4 xnd Sc Sb xiW xja xfn xfh xfi xfj Sf xi2 Gz GA xfv xfu xi3 xi1 xfs xi6 xfo xfp xfk Se xiX xi7 xne xiZ Sd xjb xi5 xfw Tv EC mkE xgq stC FR apS apB apL Tu cpC cp2 cpB cpL xdo xew CS OO CT CU lm ln OL CY CZ xdc QW xjw xfx xfF xfE Sx GQ GP Eb Sw Ed GR Sz Ec xK GC GD Sl xmT xmR xmS Rg xdj xjA xjE xjD xjC Hq Tl xnk xni xnj Sn xfA Gu xhA xhy xhz Gt RY Hd Ew Ey xjy xjx SP E0 xbD xbx uc TO xbE HC EG EH uD xbn pC qj ni E8 E7 xbv lenC xbB E1 E2 uH xbd E3 EX uz eK jo wo iH iL xgv mX dv evL CSt.purge xN yp Pn nh Fu mK ku oO fp gA psC Tok.readyC aF.wf SV.bare SV.bareL jS jT sM jI eh cz dL gB gI fG dE oZ ey rx ry mP rk jQ iU FZ DE Rq FV F0 FY DC wY Rr FW Rt F1 DN xc DK xb F2 DG DL DJ w9 xa uW F4 DH F9 DM DF F8 DI FU Rs FX P9 Hn Ti Tj SR SU SW SS Tp FS Rh Rn Rm Rl Rk Rj Ri xfV xfO xfT xfU xfS xfR xfQ xfP Sa R9 R8 SF SE SB SA SD SC To xgj eZ CSt.publish ll lS oz SV.pub SV.pubL xo gcC ra Rb rH km fV gV tks oB Fp rA dF P8 wF ig jO SV.num lZ iJ toB rows uF gM eH setCells Tok.eat SV.one SV.data SV.isData SV.cells SV.isDef SV.purge SV.purgeL aF.purge bF cA Tok.purge SV.ren SV.renL aF.ren Tok.ren SV.ids SV.idsL SV.toks SV.toksL aF.ids aF.toks iv jz inR pb fo id_eq av aQ bK bw bH bB fz beq_self_eq_true bc bh List.getD_nil List.take_succ_cons List.take_zero List.take_nil aR List.drop_succ_cons List.drop_nil aP df List.flatten_cons List.flatten_nil List.contains_nil List.contains_cons List.isEmpty_nil List.isEmpty_cons lD List.all_nil List.set_cons_zero List.set_cons_succ bq Option.getD_none bt Option.map_none Option.toList_some Option.toList_none cU Option.isNone_none Option.isNone_some Option.isSome_none Option.isSome_some Bool.or_false fU Bool.or_true dq Bool.and_self Bool.and_true Bool.true_and Bool.and_false Fl Bool.not_true Bool.not_false aH Bool.true_eq_false Bool.not_eq_true Bool.not_eq_false decide_eq_true_eq decide_eq_false_iff_not and_true true_and and_self or_false false_or or_true true_or not_true_eq_false not_false_eq_true ne_eq eE true_implies false_implies implies_true decide_true decide_false Nat.lt_irrefl Nat.not_lt_zero aM bL eq_self and_false false_and xa6 mvC xl1 xa8
attribute [go_sem] Fm Fs Fz Fi Ld Fa Ln Ia Mv Bb Bc Ca Pf Pt So Kk Kc Fy Fr Sr Lt Mc Mb Bk Sq Zq0 Zq1 Zq2 Zq3 Zq4 xm xs xi ci om omk on oo xlg xlf xgn xle xld xlc xlb F3 r3 xla xk9 W2 xk8 xk7 xk6 xk5 xk4 Xc Xb Xa W9 W8 W7 W6 W5 W4 W3 W0 WZ WY WX F5 r5 xk3 xk2 xk1 xk0 xkZ xkY xkX xkW F6 r6 xkV xkU xkT xkS xkR xkQ xkP xkO xkN xkM VA Vz Vy Vx Vw Vv Vu Vt Vs Vr Vq Vp Vo Vn Qs Qr F7 xhl xhk r7 xa4 xa3 xa2 xa1 xa0 xaZ xaY F10 r10 xaX xaW xaV xaU xaT xaS xaR xaQ xaP xaO Ng Nf Al F11 xen r11 xaN xaM xaL xaK xaJ xaI xaH xaG xaF xaE MF ME MD MC MB Ah F12 xej r12 xaD xaC xaB xaA P6 xaz xay xax xaw xav LO LN LM LK LJ LI LH Ae F13 xeg r13 lJ xau F14 r14 EV xat mC xas xar xaq xap xao xan K9 K8 F15 r15 P5 xam P4 ru xal xak xaj xai xah xag KU KT yU Ab F16 xed r16 xaf EU xae xad xac xab xaa KR KQ Aa F17 xec r17 rt Z9 rq Z8 Z7 Z6 Z5 F18 r18 Z4 Z3 mz Z2 Z1 Z0 ZZ ZY KP md KO KN KM KL z8 z7 F19 xeb xea r19 ET iV ES ZX ER pd QE F20 xhx r20 EP P2 ZW ZV ZU ZT ZS ZR ZQ ZP KK KJ z6 F21 xd9 r21 lI P1 ZO ZN ur ZM ZL KI KH KG KF QD zZ F22 xhw xd8 r22 ZK ZJ ZI ZH ZG ZF ZE ZD QC F23 xhv r23 ZC ZB PY ZA Zz Zy Zx Zw Zv Zu KE KD KC KB KA Kz Ky Kx Kw zY zX zW F24 xd7 xd6 xd5 r24 Zt QB F25 xhu r25 uq Zs PW up Zr F26 r26 Zq Zp Zo Zn Zm Zl Zk Zj Zi Kv Ku Kt Ks Kr Kq Kp Ko zV F28 xd4 r28 my Zh F29 r29 Zg Zf Ze Zd Zc Zb Za Y9 Kn Km Kj Ki Kh Kg Kf Ke Kd Kb Ka J8 zU zT zS zR F31 xd3 xd2 xd1 xd0 r31 Y8 Y7 Y6 Y5 Y4 F33 r33 Y3 Y2 Y1 Y0 YZ YY YX YW YV J7 J6 J5 J4 zQ zP F34 xdZ xdY r34 YU YT YS YR F35 r35 YQ YP YO YN YM YL YK YJ YI YH J3 J2 J1 J0 JZ JY JX JW JV JU JT JS JR JQ JP zO F36 xdX r36 YG YF YE F37 r37 YD YC YB YA Yz Yy Yx Yw Yv Yu JO JN JM F38 r38 Yt Ys Yr Yq Yp Yo JL JK JJ F39 r39 PV Yn Ym Yl Yk Yj Yi Yh Yg Yf yK zN F40 xdW r40 Ye Yd Yc Yb Ya X9 X8 QA F41 xht r41 oy X7 jM X6 fL X5 PU X4 PT X3 jb JI yJ oH F42 r42 X2 Qz F43 xhs r43 X1 rp X0 XZ XY XX XW JH JG JF um JE JD JC JB JA Jz Jy Jx zM zL F44 xdV xdU r44 PR EN PQ PP PO PN Qy F45 xhr r45 PL XV F46 r46 XU XT F47 r47 XS F48 r48 EM XR F49 r49 PK XQ XP XO uk XN XM kL XL XK Jw Jv Ju Jt Js Jr Jq Jp Jo Jn Jm Jl Jk zK zJ F50 xdT xdS r50 Qx F51 xhq r51 XJ F52 r52 PI XI PH XH XG XF XE XD XC Jj Ji F53 r53 XB XA Xz rm Xy Xx Jh Jg Jf Je Jd Jc Jb Ja I9 zI zH F54 xdR xdQ r54 PG Xw Xv Xu Xt Xs Xr F55 r55 mw Xq F56 r56 Xp Xo Xn Xm Xl I8 zG F57 xdP r57 Xk Xj Xi Xh Xg Xf I7 I6 I5 I4 I3 I2 I1 I0 zF F58 xdO r58 Xe Xd F59 r59 WW WV WU WT WS WR WQ WP WO Qw F60 xhp r60 WN WM WL WK WJ Qv F63 xho r63 WI WH WG WF WE WD WC WB WA Wz IZ IY IX IW IV zE F64 xdN r64 Wy Wx Ww Wv Wu Wt Ws Wr Wq IU IS IR zD F65 xdM r65 Wp Wo Wn Wm Wj Wi Wh IQ IP IN IM IL IK IJ II IH IG IF IE zC zB F66 xdL xdK r66 Wg F67 r67 Wf We Wd Wc EL F68 r68 Wb Wa V9 V8 V7 V6 V5 V4 ID IC IB IA Iz Iy Ix qM Qu zA F69 xhn xdJ r69 V3 F72 r72 V2 V1 V0 VZ VY VX VW Iw Iv Iu It Is Ir Iq Ip zy zx F75 xdI xdH r75 VV VU VT VS VR VQ VO Qt F76 xhm r76 VN VM F77 r77 VL VK VJ VI F78 r78 VH VG VF VE VD VC EK VB Io In Im Il Ik zw F79 xdG r79 mu Vm Vl Vk Vj Vi Vh Vg Ij Ii Ih Ig If Ie Ic Ib H9 H8 H7 H6 yz H5 H4 H3 H2 HZ zu zt zr zq F80 xdF xdE xdD xdC r80 Vf Ve Vd Vc F81 r81 PB Vb Va U9 U8 U7 U6 U5 U4 Qq F82 xhj r82 U3 U2 U1 F83 r83 U0 UZ UY UX UW UV UU UT F84 r84 US UR UQ UP UO Qp F85 xhi r85 UN UM F86 r86 Py UL UK UJ UI UH UG UF HY HW zp F87 xdB r87 UE UD UC UB UA F88 r88 uf Uz F89 r89 Uy Ux Uw Uv Uu Ut Us HV HU HT HS zo F90 xdA r90 Ur F91 r91 Uq Up Uo Un Um Ul Uk HR zm F92 xdz r92 Px Uj F93 r93 Ui Uh Ug Uf Ue Ud HQ HP Qo F94 xhh r94 Uc Ub Ua T9 Pv Qn F95 xhg r95 T8 T7 T6 T5 HO HN HM HK Qm F96 xhf r96 Pq T4 T3 F97 r97 T2 T1 T0 TZ Ql F98 xhe r98 TY TX TW TV TU F99 r99 OI OH OG OF OE OD OC CO CN CM CL CJ CI tT tQ xcK RX RW xlZ OB OA Oz Oy Ox Ow Ov Ou CG CF CE CD CC CB CA Cz Cy Cx Cw Cv tP tO xcJ RU RT xlY Ot xcI xlX Oq Oo xcH xlW On Om Ol Ok Oj Oi Oh Og Of Oe Cu xcG xlV Od Oc xcF xlU zc Ob Oa N9 N8 N7 Ar xcE xet xlT N6 N5 N4 N3 N2 N1 NZ Aq xcD xes xlS NY NX NW NV NU NT NS NR sZ Ap tN xcC xer RR xlR NQ NP NO NN NM NL NK NJ NI Ct Cs Cr Cq Cp Co Cn Cm Cl Ck Cj Ci Ch Cg Cf Ce Cd Cc Cb Ao tM xcB xeq RQ xlQ NH NG NF NE ND NC NB An xcA xep xlP NA Nz Ny Nw Nv Nu Nt Ns Nr B0 BZ BY BX BW BV BU BT BS BR BQ BP BO BN BM tK tJ tI xcz RP RO RN xlO Nq Np No Nn Nm Nl Nk Nj Am xcy xeo xlN Ni Nh xcx xlM Nd Nc Nb Na M9 M7 Ak xcw xem xlL M6 M5 M4 M3 M2 y5 M1 BL xcv xlK M0 xcu xlJ MZ xct xlI MY MX MW MV MU MT MR Aj xcs xel xlH MQ MP xcr xlG MO MN MM ML MK MJ MI MH BK Ai tH xcq xek RM xlF oJ yZ xcp xlE MG xco xlD MA Mz My Ag xcn xei xlC Mx xcm xlB qQ Mw Mu Mt Ms Mr Mq Mp Mo Mn BJ BI BH BG BF BE xcl xlA Mm Ml Mk Mj Mi Mh Mg Mf xck xlz Me Md Ma xcj xly yX L9 L8 L7 L6 xci xlx L5 L4 L3 L2 L1 L0 LZ BD BC BB BA Bz By Bx Bw Bv Bu Bt Bs Br Bq Bp Bo Bn Bm tG tF tE xch RL RK RJ xlw LY LX LW LV LU LS LR LQ Bl Af xcg xeh xlv xcf xlu LG LF xce xlt LD LC LB LA Lz Ly Lx Lw Lv Bj xcd xls Lu xcc xlr Ls Lr xcb xlq Lq Lp xca xlp Lo Lm Ll Lk Lj Li Lh Lg Lf Le Bi Bh Bf Be Bd Ba A9 A8 A7 A6 A5 A4 A3 A2 A1 AZ AY tz xb9 RH xlo Lc Lb La Ad xb8 xef xln K7 K6 K5 Ac xb7 xee xlm K4 xb6 xll K3 K2 K1 K0 KZ KY KX KW AX AW AV AU AS AR AQ AP AO AN tx xb5 RG xlk KV xb4 xlj KS xb3 xli xb2 xlh
end Go.Proofs.YtdafipacemgcoaaGreatDoor