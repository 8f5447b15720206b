/- The resolved code of the functions of this seat, with directions, checked by the kernel. No condition. -/
import Derived.Test.YtdafipacemgcoaaGreatDoorProg
import Derived.Test.YtdafipacemgcoaaGreatDoorVbGround
import Derived.KernelRfl
open Bool renaming and_eq_true -> ay, false_and -> EU, false_eq_true -> aG, false_or -> dp, true_or -> fQ
open Int renaming toNat_natCast -> fq
open List renaming all_cons -> ly, append_assoc -> ba, append_nil -> bJ, cons_append -> bO, drop_zero -> aV, getD_cons_succ -> bj, getD_cons_zero -> bf, length_append -> ah, length_cons -> au, length_map -> aX, length_nil -> aQ, length_replicate -> cQ, map_append -> bD, map_cons -> aP, map_nil -> df, mem_cons -> av, nil_append -> bC, not_mem_nil -> dT, replicate -> aq
open Nat renaming add_zero -> fx, le_refl -> aN, zero_add -> bF, zero_le -> bP
open Option renaming bind_some -> cT, getD_some -> bq, map_some -> bt, some -> aw
set_option maxRecDepth 100000
set_option linter.unusedVariables false
namespace Go.Proofs.YtdafipacemgcoaaGreatDoor
open Tryz
open Go.Sy
abbrev xm(d s:Nat):SI:=⟨some d,none,.mov (.t s)⟩
abbrev xs(d:Nat)(o:SOp):SI:=⟨some d,none,o⟩
abbrev xi(d g:Nat)(b:Bool)(o:SOp):SI:=⟨some d,some (g,b),o⟩
abbrev om(d s:Nat):RI:= .op (xm d s) []
abbrev omk(d s:Nat):RI:= .op (xm d s) [s]
abbrev on(d:Nat)(o:SOp):RI:= .op (xs d o) []
abbrev oo(d:Nat)(o:SOp)(k:List Nat):RI:= .op (xs d o) k
abbrev ci(n:Int):Arg:= .c (.int .i64 n)
abbrev Fm(n d s:Nat):FI:=⟨n,true,xm d s⟩
abbrev Fs(n d:Nat)(o:SOp):FI:=⟨n,true,xs d o⟩
abbrev Fz(n d:Nat)(o:SOp):FI:=⟨n,false,xs d o⟩
abbrev Fi(n d g:Nat)(b:Bool)(o:SOp):FI:=⟨n,true,xi d g b o⟩
abbrev Ld(s:Nat):SOp:= .load 1 false (.t s)
abbrev Fa(n s:Nat):SOp:= .faddr n (.t s)
abbrev Ln(s:Nat):SOp:= .len false (.t s)
abbrev Ia(n a b:Nat):SOp:= .iaddrL n (.t a) (.t b)
abbrev Mv(s:Nat):SOp:= .mov (.t s)
abbrev Bb(o:BinOp)(a b:Nat):SOp:= .bin o (.t a) (.t b)
abbrev Bc(o:BinOp)(a:Nat)(n:Int):SOp:= .bin o (.t a) (ci n)
abbrev Ca(f:Nat)(l:List Arg):SOp:= .call (.f f) l
abbrev Pf(a b:Nat):SOp:= .pick (.t a) (.t b) (.c (.bool false))
abbrev Pt(a b:Nat):SOp:= .pick (.t a) (.c (.bool true)) (.t b)
abbrev So(l:List RI)(x:RC):RC:= .seq (.ops l) x
abbrev Kk(l:List Nat)(x:RC):RC:= .pre [.kill l] x
abbrev Kc(n:Nat)(x y:RC):RC:= .cond (.t n) x y
abbrev Fy(n d g:Nat)(b:Bool)(o:SOp):FI:=⟨n,false,xi d g b o⟩
abbrev Fr(n k a x:Nat):FI:=⟨n,false,⟨none,none,.store k (.t a) (.t x)⟩⟩
abbrev Sr(n a x:Nat)(k:List Nat):RI:= .op ⟨none,none,.store n (.t a) (.t x)⟩ k
abbrev Lt(n s:Nat):SOp:= .load n true (.t s)
abbrev Mc(n:Int):SOp:= .mov (ci n)
abbrev Mb(b:Bool):SOp:= .mov (.c (.bool b))
abbrev Bk(n:Nat)(x:RC):RC:= .block n x
abbrev Sq(x y:RC):RC:= .seq x y
abbrev Zq0:List SV:=[.int .i64 0,.int .i64 0,.lst 1 [] .clip,.byt [] .clip]
abbrev Zq1:List SV:=[.int .i64 0,.str [],.int .i64 0,.byt [] .clip]
abbrev Zq2:List SV:=[.int .i64 0,.int .i64 0,.lst 4 [] .clip]
abbrev Zq3:List SV:=[.int .i64 0,.str [],.int .i64 0,.int .i64 0]
abbrev Zq4:List SV:=[.str [],.int .i64 0,.int .i64 0,.int .i64 0,.int .i64 0,.lst 4 [] .clip,.lst 4 [] .clip]
def cs0:List UInt8:=[0,1,2,2,3,3,3,3,4,4,4,4,4,4,4,4,5,5,5,5,5,5,5,5,5,5,5,5,5,5,5,5,6,6,6,6,6,6,6,6,6,6,6,6,6,6,6,6,6,6,6,6,6,6,6,6,6,6,6,6,6,6,6,6,7,7,7,7,7,7,7,7,7,7,7,7,7,7,7,7,7,7,7,7,7,7,7,7,7,7,7,7,7,7,7,7,7,7,7,7,7,7,7,7,7,7,7,7,7,7,7,7,7,7,7,7,7,7,7,7,7,7,7,7,7,7,7,7,8,8,8,8,8,8,8,8,8,8,8,8,8,8,8,8,8,8,8,8,8,8,8,8,8,8,8,8,8,8,8,8,8,8,8,8,8,8,8,8,8,8,8,8,8,8,8,8,8,8,8,8,8,8,8,8,8,8,8,8,8,8,8,8,8,8,8,8,8,8,8,8,8,8,8,8,8,8,8,8,8,8,8,8,8,8,8,8,8,8,8,8,8,8,8,8,8,8,8,8,8,8,8,8,8,8,8,8,8,8,8,8,8,8,8,8,8,8,8,8,8,8,8,8,8,8,8,8]
def cs1:List UInt8:=[48,49,50,51,52,53,54,55,56,57,97,98,99,100,101,102,103,104,105,106,107,108,109,110,111,112,113,114,115,116,117,118,119,120,121,122]
def cs2:List UInt8:=[48,48,48,49,48,50,48,51,48,52,48,53,48,54,48,55,48,56,48,57,49,48,49,49,49,50,49,51,49,52,49,53,49,54,49,55,49,56,49,57,50,48,50,49,50,50,50,51,50,52,50,53,50,54,50,55,50,56,50,57,51,48,51,49,51,50,51,51,51,52,51,53,51,54,51,55,51,56,51,57,52,48,52,49,52,50,52,51,52,52,52,53,52,54,52,55,52,56,52,57,53,48,53,49,53,50,53,51,53,52,53,53,53,54,53,55,53,56,53,57,54,48,54,49,54,50,54,51,54,52,54,53,54,54,54,55,54,56,54,57,55,48,55,49,55,50,55,51,55,52,55,53,55,54,55,55,55,56,55,57,56,48,56,49,56,50,56,51,56,52,56,53,56,54,56,55,56,56,56,57,57,48,57,49,57,50,57,51,57,52,57,53,57,54,57,55,57,56,57,57]
def pu:List SV:=[.int .i64 (-1),.int .i64 0,.int .i64 4,.int .i64 8,.int .i64 9]
def iQ:List SV:=[.int .u32 1116352408,.int .u32 1899447441,.int .u32 3049323471,.int .u32 3921009573,.int .u32 961987163,.int .u32 1508970993,.int .u32 2453635748,.int .u32 2870763221,.int .u32 3624381080,.int .u32 310598401,.int .u32 607225278,.int .u32 1426881987,.int .u32 1925078388,.int .u32 2162078206,.int .u32 2614888103,.int .u32 3248222580,.int .u32 3835390401,.int .u32 4022224774,.int .u32 264347078,.int .u32 604807628,.int .u32 770255983,.int .u32 1249150122,.int .u32 1555081692,.int .u32 1996064986,.int .u32 2554220882,.int .u32 2821834349,.int .u32 2952996808,.int .u32 3210313671,.int .u32 3336571891,.int .u32 3584528711,.int .u32 113926993,.int .u32 338241895,.int .u32 666307205,.int .u32 773529912,.int .u32 1294757372,.int .u32 1396182291,.int .u32 1695183700,.int .u32 1986661051,.int .u32 2177026350,.int .u32 2456956037,.int .u32 2730485921,.int .u32 2820302411,.int .u32 3259730800,.int .u32 3345764771,.int .u32 3516065817,.int .u32 3600352804,.int .u32 4094571909,.int .u32 275423344,.int .u32 430227734,.int .u32 506948616,.int .u32 659060556,.int .u32 883997877,.int .u32 958139571,.int .u32 1322822218,.int .u32 1537002063,.int .u32 1747873779,.int .u32 1955562222,.int .u32 2024104815,.int .u32 2227730452,.int .u32 2361852424,.int .u32 2428436474,.int .u32 2756734187,.int .u32 3204031479,.int .u32 3329325298]
def iP:List SV:=[.int .u64 1,.int .u64 10,.int .u64 100,.int .u64 1000,.int .u64 10000,.int .u64 100000,.int .u64 1000000,.int .u64 10000000,.int .u64 100000000,.int .u64 1000000000,.int .u64 10000000000,.int .u64 100000000000,.int .u64 1000000000000,.int .u64 10000000000000,.int .u64 100000000000000,.int .u64 1000000000000000,.int .u64 10000000000000000,.int .u64 100000000000000000,.int .u64 1000000000000000000,.int .u64 10000000000000000000]
instance:bg:=⟨fun
 |0=>some pu
 |2=>some iQ
 |3=>some iP
 |_=>none⟩
def xko:List RI:=[oo 8 (Mb false) [8]]
def xkn:List RI:=[on 17 (Ca 10 []),oo 18 (.un .not (.t 17)) [17]]
def xfD:List RI:=[on 8 (Mb false)]
def xkm:List RI:=[omk 20 0,omk 21 1,omk 22 2,omk 23 3,oo 24 (Ca 11 [.t 20,.t 21,.t 22,.t 23]) [20,21,22,23],omk 19 24,on 25 (.ext (.t 19) 0),oo 26 (.ext (.t 19) 1) [19],on 9 (.new (.rc Zq2)),Sr 3 9 25 [25],omk 10 26]
def xkl:List RI:=[on 28 (Lt 3 9),om 29 10,oo 30 (Ca 12 [.t 28,.t 29]) [28,29],omk 27 30,on 31 (.ext (.t 27) 0),on 32 (.ext (.t 27) 1),oo 33 (.ext (.t 27) 2) [27],omk 11 31,omk 12 32,omk 13 33]
def xkk:List RI:=[oo 35 (Lt 3 9) [9],omk 36 10,oo 37 (Ca 13 [.t 35,.t 36]) [35,36],omk 34 37,on 38 (.ext (.t 34) 0),on 39 (.ext (.t 34) 1),oo 40 (.ext (.t 34) 2) [34],omk 14 38,omk 15 39,omk 16 40]
def xkj:List RI:=[omk 41 11,omk 42 14,oo 43 (Ca 14 [.t 41,.t 42]) [41,42],omk 44 43,.grp 44 true [(xi 45 44 true (Mv 12)),(xi 46 44 true (Mv 15)),(xi 47 44 true (Bb .eql 45 46))] [12,15,45,46],oo 48 (Pf 44 47) [44,47],omk 49 48,.grp 49 true [(xi 50 49 true (Mv 13)),(xi 51 49 true (Mv 16)),(xi 52 49 true (Bb .eql 50 51))] [13,16,50,51],oo 53 (Pf 49 52) [49,52],omk 8 53]
def r3:RC:=(So xko (Sq (So xkn (Kc 18 (Kk [0,1,2,3,18] (So xfD .ret)) (Kk [18] .skip))) (So xkm (So xkl (So xkk (So xkj .ret))))))
def F3:FnC:=⟨r3,54,[.tmp 8],[],[]⟩
def xki:List RI:=[oo 16 (Mb false) [16]]
def xkh:List RI:=[on 24 (Ca 10 []),oo 25 (.un .not (.t 24)) [24]]
def Wg:List RI:=[on 16 (Mb false)]
def xkg:List RI:=[omk 27 0,omk 28 1,omk 29 2,omk 30 3,oo 31 (Ca 11 [.t 27,.t 28,.t 29,.t 30]) [27,28,29,30],omk 26 31,on 32 (.ext (.t 26) 0),oo 33 (.ext (.t 26) 1) [26],on 17 (.new (.rc Zq2)),Sr 3 17 32 [32],omk 18 33]
def xkf:List RI:=[on 35 (Lt 3 17),om 36 18,oo 37 (Ca 12 [.t 35,.t 36]) [35,36],omk 34 37,on 38 (.ext (.t 34) 0),on 39 (.ext (.t 34) 1),oo 40 (.ext (.t 34) 2) [34],omk 19 38,.op (xm 20 39) [20,39],omk 21 40]
def xke:List RI:=[on 41 (Lt 3 17),om 42 18,om 43 19,oo 44 (Ca 16 [.t 41,.t 42,.t 43]) [41,42,43],omk 45 21,oo 46 (Bc .eql 45 0) [45],oo 47 (.beq true (.t 44) (.t 46)) [44,46]]
def xkd:List FI:=[Fm 0 48 4,Fs 1 49 (Ln 48),Fs 2 50 (Bc .lss 49 60),Fm 3 51 50,Fi 4 52 51 true (Lt 3 17),Fi 5 53 51 true (Mv 18),Fi 6 54 51 true (Mv 4),Fi 8 56 51 true (Lt 3 17),Fi 9 57 51 true (Mv 18),Fi 10 58 51 true (Mv 4),Fy 7 55 51 true (Ca 16 [.t 52,.t 53,.t 54]),Fy 11 59 51 true (Ca 17 [.t 56,.t 57,.t 58]),Fi 12 60 51 true (.beq true (.t 55) (.t 59)),Fs 13 61 (Pf 51 60)]
def xkc:List RI:=[on 62 (.lit 2 []),omk 63 19,.own (xs 64 (.app [.int .i64 0,.int .i64 0] 16 (.t 62) (.t 63))) [62,63],omk 22 64]
def Ws:List RI:=[om 65 22,oo 66 (Ln 65) [65],oo 67 (Bc .eql 66 0) [66]]
def Wr:List RI:=[on 16 (Mb true)]
def Wq:List RI:=[omk 68 5,om 69 22,oo 70 (Ln 69) [69],oo 71 (Ca 18 [.t 68,.t 70]) [68,70],omk 23 71]
def Wp:List RI:=[omk 72 6,oo 73 (Ca 18 [.t 72,ci 4]) [72]]
def Wo:List RI:=[on 82 (Bc .eql 73 0),omk 81 82]
def Wn:List RI:=[om 83 22,om 84 23,omk 85 7,om 86 18,oo 87 (Ln 86) [86],oo 88 (Bc .add 87 2) [87],oo 89 (Ca 18 [.t 85,.t 88]) [85,88],oo 90 (Bc .sub 89 1) [89],oo 91 (Ia 2 83 84) [83,84],oo 92 (Fa 0 91) [91],Sr 1 92 90 [90,92]]
def Wm:List RI:=[om 93 22,om 94 23,oo 95 (Ia 2 93 94) [93,94],oo 96 (Fa 0 95) [95],oo 97 (Ld 96) [96],oo 98 (Bc .geq 97 0) [97],omk 99 98,.grp 99 true [(xi 100 99 true (Mv 22)),(xi 101 99 true (Mv 23)),(xi 102 99 true (Ia 2 100 101)),(xi 103 99 true (Fa 0 102)),(xi 104 99 true (Ld 103)),(xi 105 99 true (Mv 18)),(xi 106 99 true (Ln 105)),(xi 107 99 true (Bb .lss 104 106))] [100,101,102,103,104,105,106],oo 108 (Pf 99 107) [99,107]]
def Wj:List FI:=[Fm 0 109 22,Fm 1 110 23,Fm 2 111 18,Fm 3 112 22,Fm 4 113 23,Fs 5 114 (Ia 2 112 113),Fs 6 115 (Fa 0 114),Fs 7 116 (Ld 115),Fs 8 117 (Ia 7 111 116),Fs 9 118 (Lt 7 117),Fs 10 119 (Fa 2 17),Fs 11 120 (Ld 119),Fm 12 121 23,Fs 13 122 (Ia 4 120 121),Fs 14 123 (Lt 4 122),Fz 15 124 (Ca 19 [.t 118,.t 123]),Fs 16 125 (Ia 2 109 110),Fs 17 126 (Fa 1 125),Fr 18 1 126 124]
def Wi:List RI:=[on 128 (Bc .eql 73 1),omk 127 128]
def Wh:List RI:=[om 129 22,omk 130 23,omk 131 7,oo 132 (Ca 18 [.t 131,ci 9]) [131],oo 133 (Bc .sub 132 1) [132],oo 134 (Ia 2 129 130) [129,130],oo 135 (Fa 1 134) [134],Sr 1 135 133 [133,135]]
def Wf:List RI:=[oo 137 (Bc .eql 73 2) [73],omk 136 137]
def We:List RI:=[omk 138 22,omk 139 23,oo 140 (.slcL 2 (.t 138) none (some (.t 139)) none) [138,139],omk 22 140]
def Wd:List RI:=[om 74 22,omk 75 22,omk 76 23,oo 77 (Ia 2 75 76) [75,76],oo 78 (Lt 2 77) [77],oo 79 (.lit 2 [.t 78]) [78],.own (xs 80 (.app [.int .i64 0,.int .i64 0] 16 (.t 74) (.t 79))) [74,79],omk 22 80]
def Wc:List FI:=[Fs 0 141 (Lt 3 17),Fm 1 142 18,Fm 2 143 22,Fs 4 145 (Lt 3 17),Fm 5 146 18,Fm 6 147 22,Fz 3 144 (Ca 16 [.t 141,.t 142,.t 143]),Fz 7 148 (Ca 17 [.t 145,.t 146,.t 147]),Fs 8 149 (.beq false (.t 144) (.t 148)),Fm 9 16 149]
def r5:RC:=(So xki (Sq (So xkh (Kc 25 (Kk [0,1,2,3,4,5,6,7,25] (So Wg .ret)) (Kk [25] .skip))) (So xkg (So xkf (Sq (So xke (Kc 47 (Kk [4,5,6,7,17,18,19,47] (So Wg .ret)) (Kk [47] .skip))) (Sq (Sq (.flt [0,1,3,7,15,15,15,127,15,15,15,2047,4095,8191] [] xkd [4,48,49,50,51,52,53,54,55,56,57,58,59,60]) (Kc 61 (Kk [5,6,7,17,18,19,61] (So Wg .ret)) (Kk [61] .skip))) (So xkc (Sq (So Ws (Kc 67 (Kk [5,6,7,17,18,22,67] (So Wr .ret)) (Kk [67] .skip))) (So Wq (Sq (So Wp (Bk 0 (So Wo (Kc 81 (Kk [73,81] (So Wn (So Wm (Kc 108 (Kk [108] (.flt [0,0,0,0,0,24,56,120,252,508,0,1024,0,7168,15360,32764,65535,131071,262143] [] Wj [23,109,110,111,112,113,114,115,116,117,118,119,120,121,122,123,124,125,126])) (Kk [23,108] .skip))))) (Kk [81] (So Wi (Kc 127 (Kk [73,127] (.ops Wh)) (Kk [7,127] (So Wf (Kc 136 (Kk [136] (.ops We)) (Kk [136] (.ops Wd)))))))))))) (Sq (.flt [0,0,0,7,0,0,0,127,255,511] [] Wc [17,18,22,141,142,143,144,145,146,147,148,149]) .ret)))))))))))
def F5:FnC:=⟨r5,150,[.tmp 16],[],[]⟩
def xkb:List RI:=[oo 10 (Mb false) [10]]
def xka:List RI:=[on 16 (Ca 10 []),oo 17 (.un .not (.t 16)) [16]]
def xj9:List RI:=[on 10 (Mb false)]
def xj8:List RI:=[om 18 4,oo 19 (Ln 18) [18],oo 20 (Bc .gtr 19 60) [19]]
def xj7:List RI:=[omk 21 4,oo 22 (.slcL 2 (.t 21) none (some (ci 60)) none) [21],omk 4 22]
def xj6:List RI:=[omk 24 0,omk 25 1,omk 26 2,omk 27 3,oo 28 (Ca 11 [.t 24,.t 25,.t 26,.t 27]) [24,25,26,27],omk 23 28,on 29 (.ext (.t 23) 0),oo 30 (.ext (.t 23) 1) [23],on 11 (.new (.rc Zq2)),Sr 3 11 29 [29],omk 12 30]
def xj5:List RI:=[oo 32 (Lt 3 11) [11],om 33 12,oo 34 (Ca 12 [.t 32,.t 33]) [32,33],omk 31 34,on 35 (.ext (.t 31) 0),on 36 (.ext (.t 31) 1),oo 37 (.ext (.t 31) 2) [31],omk 13 35,.op (xm 14 36) [14,36],.op (xm 15 37) [15,37]]
def xj4:List RI:=[om 38 12,om 39 13,oo 40 (Ca 21 [.t 38,.t 39]) [38,39],om 41 12,omk 42 13,oo 43 (Ca 22 [.t 41,.t 42]) [41,42],oo 44 (Ca 20 [.t 40,.t 43]) [40,43],omk 45 44,.grp 45 true [(xi 46 45 true (Mv 12)),(xi 47 45 true (Mv 4)),(xi 48 45 true (Ca 21 [.t 46,.t 47])),(xi 49 45 true (Mv 12)),(xi 50 45 true (Mv 4)),(xi 51 45 true (Ca 22 [.t 49,.t 50])),(xi 52 45 true (Ca 20 [.t 48,.t 51]))] [4,12,46,47,48,49,50,51],oo 53 (Pf 45 52) [45,52],omk 10 53]
def r6:RC:=(So xkb (Sq (So xka (Kc 17 (Kk [0,1,2,3,4,17] (So xj9 .ret)) (Kk [17] .skip))) (Sq (So xj8 (Kc 20 (Kk [20] (.ops xj7)) (Kk [20] .skip))) (So xj6 (So xj5 (So xj4 .ret))))))
def F6:FnC:=⟨r6,54,[.tmp 10],[],[]⟩
def xal:List RI:=[oo 0 (Mb false) [0]]
def xak:List RI:=[on 10 (.build Zq1 [(0,1,(ci 1)),(1,1,(.c (.str [102])))]),on 11 (.build Zq1 [(0,1,(ci 3)),(1,1,(.c (.str [107])))]),oo 12 (.lit 4 [.t 10,.t 11]) [10,11],omk 1 12]
def xaj:List RI:=[om 13 1,oo 14 (Ca 31 [.t 13,ci 2]) [13],oo 15 (.build Zq2 [(0,1,(ci 2)),(2,1,(.t 14))]) [14],on 2 (.new (.rc Zq2)),Sr 3 2 15 [15]]
def xai:List RI:=[omk 16 1,oo 17 (Ca 34 [(.c (.str [118])),ci 1,.t 16]) [16],on 3 (.new (.rc Zq4)),Sr 7 3 17 [17]]
def xah:List RI:=[on 19 (Lt 3 2),on 20 (Lt 7 3),oo 21 (.lit 7 [.t 20]) [20],oo 22 (Ca 12 [.t 19,.t 21]) [19,21],omk 18 22,on 23 (.ext (.t 18) 0),on 24 (.ext (.t 18) 1),oo 25 (.ext (.t 18) 2) [18],omk 4 23,omk 5 24,omk 6 25]
def xag:List RI:=[on 27 (Lt 3 2),oo 28 (Ca 12 [.t 27,(.c (.lst 7 [] .clip))]) [27],omk 26 28,on 29 (.ext (.t 26) 0),on 30 (.ext (.t 26) 1),oo 31 (.ext (.t 26) 2) [26],.op (xm 7 29) [7,29],omk 8 30,omk 9 31]
def xaf:List RI:=[omk 32 6,oo 33 (Bc .eql 32 0) [32],omk 34 33,.grp 34 true [(xi 35 34 true (Mv 5)),(xi 36 34 true (Bc .eql 35 10))] [5,35],oo 37 (Pf 34 36) [34,36],omk 38 37,.grp 38 true [(xi 39 38 true (Mv 4)),(xi 40 38 true (Ln 39)),(xi 41 38 true (Bc .eql 40 10))] [39,40],oo 42 (Pf 38 41) [38,41],omk 43 42,.grp 43 true [(xi 44 43 true (Mv 4)),(xi 45 43 true (.iaddrL 2 (.t 44) (ci 9))),(xi 46 43 true (Lt 2 45)),(xi 47 43 true (.build [.int .i64 0,.int .i64 0] [(0,1,(ci 0)),(1,1,(ci 1))])),(xi 48 43 true (.eqS false [1,1] (.t 46) (.t 47)))] [44,45,46,47],oo 49 (Pf 43 48) [43,48],omk 50 49,.grp 50 true [(xi 51 50 true (Mv 9)),(xi 52 50 true (Bc .eql 51 47))] [9,51],oo 53 (Pf 50 52) [50,52],omk 54 53,.grp 54 true [(xi 55 54 true (Mv 8)),(xi 56 54 true (Bc .eql 55 0))] [8,55],oo 57 (Pf 54 56) [54,56],omk 58 57,.grp 58 true [(xi 59 58 true (Lt 3 2)),(xi 60 58 true (Lt 7 3)),(xi 61 58 true (.lit 7 [.t 60])),(xi 62 58 true (Mv 4)),(xi 63 58 true (Ca 16 [.t 59,.t 61,.t 62]))] [2,59,60,61,62],oo 64 (Pf 58 63) [58,63],omk 65 64,.grp 65 true [(xi 66 65 true (Lt 7 3)),(xi 67 65 true (.lit 7 [.t 66])),(xi 68 65 true (Mv 4)),(xi 69 65 true (Ca 21 [.t 67,.t 68])),(xi 70 65 true (Ln 69)),(xi 71 65 true (Bc .eql 70 1))] [3,4,66,67,68,69,70],oo 72 (Pf 65 71) [65,71],omk 0 72]
def r10:RC:=(So xal (So xak (So xaj (So xai (So xah (So xag (So xaf .ret)))))))
def F10:FnC:=⟨r10,73,[.tmp 0],[],[]⟩
def xae:List RI:=[on 8 (.new (.rc Zq2)),oo 9 (.mov (.c (.lst 7 [] .clip))) [9]]
def xad:List RI:=[omk 15 1,oo 16 (Ca 24 [.t 15]) [15],omk 10 16]
def xac:List RI:=[om 17 0,oo 18 (Ca 35 [.t 17,ci 200]) [17],omk 11 18]
def xab:List RI:=[omk 19 0,omk 20 3,oo 21 (Ca 29 [.t 20]) [20],oo 22 (Ca 36 [.t 19,.t 21,ci 0]) [19,21],on 12 (.new (.rc Zq2)),Sr 3 12 22 [22]]
def xaa:List RI:=[om 23 11,oo 24 (Ca 37 [.t 23,ci 2]) [23],oo 25 (Bc .eql 24 0) [24]]
def Z9:List FI:=[Fs 0 26 (Fa 0 12),Fs 1 27 (Ld 26),Fm 2 28 10,Fs 3 29 (Fa 0 12),Fs 4 30 (Ld 29),Fz 5 31 (Ca 31 [.t 28,.t 30]),Fs 6 32 (.build Zq2 [(0,1,(.t 27)),(2,1,(.t 31))]),Fr 7 3 12 32]
def Z8:List RI:=[om 33 11,oo 34 (Ca 37 [.t 33,ci 3]) [33],omk 13 34]
def Z7:List RI:=[om 35 13,oo 36 (Bc .gtr 35 0) [35]]
def Z6:List RI:=[om 39 11,on 40 (Fa 2 12),oo 41 (Ld 40) [40],oo 42 (Ln 41) [41],oo 43 (Bc .add 42 1) [42],oo 44 (Ca 37 [.t 39,.t 43]) [39,43],omk 14 44]
def Z5:List FI:=[Fs 0 45 (.lit 4 []),Fs 1 46 (Fa 2 12),Fs 2 47 (Ld 46),Fm 3 48 14,Fs 4 49 (.slcL 4 (.t 47) none (some (.t 48)) none),Fm 6 51 11,Fs 7 52 (Fa 0 12),Fs 8 53 (Ld 52),Fs 12 57 (Fa 2 12),Fs 13 58 (Ld 57),Fm 14 59 14,Fs 15 60 (.slcL 4 (.t 58) (some (.t 59)) none none),Fz 5 50 (.app Zq0 64 (.t 45) (.t 49)),Fz 9 54 (Ca 38 [.t 51,.t 53]),Fs 10 55 (.lit 4 [.t 54]),Fz 11 56 (.app Zq0 64 (.t 50) (.t 55)),Fz 16 61 (.app Zq0 64 (.t 56) (.t 60)),Fs 17 62 (Fa 2 12),Fr 18 1 62 61]
def MO:List RI:=[omk 37 13,oo 38 (Bc .sub 37 1) [37],omk 13 38]
def zS:RC:=(.post (Sq (So Z7 (Kc 36 (Kk [36] .skip) (Kk [11,13,36] (.exit 0)))) (Sq (Bk 1 (So Z6 (.flt [0,0,2,0,14,31,0,0,128,511,1023,2047,0,4096,0,28672,65535,131071,262143] [150,156,161] Z5 [14,45,46,47,48,49,50,51,52,53,54,55,56,57,58,59,60,61,62]))) (.ops MO))) [.gc [150,156,161]])
def yE:RC:=zS
def MN:List FI:=[Fs 0 63 (Lt 3 12),Fm 1 64 2,Fm 2 65 10,Fz 3 66 (Ca 23 [.t 64,.t 65]),Fr 4 3 8 63,Fm 5 9 66]
def r11:RC:=(So xae (So xad (So xac (So xab (Sq (So xaa (Kc 25 (Kk [25] (Sq (.flt [0,1,0,0,8,28,63,127] [] Z9 [26,27,28,29,30,31,32]) (So Z8 (Bk 0 (.loop yE))))) (Kk [11,25] .skip))) (Sq (.flt [0,0,0,6,15,31] [] MN [2,10,12,63,64,65,66]) .ret))))))
def F11:FnC:=⟨r11,67,[.cell 8 3 true,.tmp 9],[],[]⟩
def Z4:List RI:=[oo 2 (.box (.t 0)) [0],on 4 (.mov (.c (.lst 2 [] .clip))),oo 5 (Mc 0) [5],oo 6 (Mc 0) [6]]
def Z3:List RI:=[on 7 (.new (.rc [.int .i64 0,.int .i64 0,.bool false,.bool false,.bool false,.bool false,.bool false,.bool false]))]
def Z2:List RI:=[on 12 (Fa 2 2),oo 13 (Ld 12) [12],on 14 (Ln 13),on 15 (Mc 0)]
def Z1:List RI:=[on 16 (Bb .lss 15 14)]
def Z0:List RI:=[om 17 15,on 18 (Ia 4 13 15),oo 19 (Lt 4 18) [18],on 9 (.new (.rc Zq0)),omk 8 17,Sr 4 9 19 [19]]
def ZZ:List RI:=[on 20 (Lt 4 9),oo 21 (Ca 39 [.t 7,.t 20]) [20],oo 22 (.un .not (.t 21)) [21]]
def ZY:List RI:=[omk 23 4,omk 24 8,omk 4 23,omk 5 24,on 6 (Mc 41)]
def ZX:List RI:=[oo 26 (Lt 4 9) [9],om 27 1,oo 28 (Ca 40 [.t 26,.t 27]) [26,27],omk 25 28,on 29 (.ext (.t 25) 0),oo 30 (.ext (.t 25) 1) [25],on 10 (.new (.rc [.int .i64 0,.int .i64 0])),Sr 2 10 29 [29],omk 11 30]
def ZW:List RI:=[omk 31 11,oo 32 (.un .not (.t 31)) [31]]
def ZV:List RI:=[omk 33 4,omk 34 8,omk 4 33,omk 5 34,on 6 (Mc 47)]
def Md:List RI:=[omk 35 4,oo 36 (Lt 2 10) [10],oo 37 (.lit 2 [.t 36]) [36],oo 38 (.app [.int .i64 0,.int .i64 0] 16 (.t 35) (.t 37)) [35,37],omk 4 38]
def Ma:List RI:=[oo 39 (Bc .add 15 1) [15],omk 15 39]
def zO:RC:=(.post (So Z1 (Sq (Kc 16 (Kk [16] .skip) (Kk [1,13,14,15,16] (.exit 0))) (Sq (Bk 1 (So Z0 (Sq (So ZZ (Kc 22 (Kk [1,2,7,9,13,14,15,22] (So ZY .ret)) (Kk [22] .skip))) (So ZX (Sq (So ZW (Kc 32 (Kk [1,2,7,10,13,14,15,32] (So ZV .ret)) (Kk [8,32] .skip))) (.ops Md)))))) (.ops Ma)))) [.gc [109,110],.tok 4 104])
def uj:RC:=zO
def L9:List RI:=[oo 40 (Fa 2 7) [7],oo 41 (.iaddrA 6 1 (.t 40) (ci 4)) [40],oo 42 (Ld 41) [41],oo 43 (.un .not (.t 42)) [42]]
def L8:List FI:=[Fm 0 44 4,Fs 1 45 (Fa 2 2),Fs 2 46 (Ld 45),Fs 3 47 (Ln 46),⟨4,false,(xm 4 44)⟩,Fm 5 5 47,Fs 6 6 (Mc 40)]
def L7:List FI:=[Fm 0 48 4,Fs 1 49 (Fa 2 2),Fs 2 50 (Ld 49),Fs 3 51 (Ln 50),⟨4,false,(xm 4 48)⟩,Fm 5 5 51,Fs 6 6 (Mc 0)]
def r12:RC:=(So Z4 (So Z3 (Sq (So Z2 (Bk 0 (.pre [.tok 4 104] (.loop uj)))) (Sq (So L9 (Kc 43 (Kk [43] (Sq (.flt [0,0,2,6,1,31,63] [] L8 [2,44,45,46,47]) .ret)) (Kk [43] .skip))) (Sq (.flt [0,0,2,6,1,31,63] [] L7 [2,48,49,50,51]) .ret)))))
def F12:FnC:=⟨r12,52,[.tmp 4,.tmp 5,.tmp 6],[],[]⟩
def ZU:List RI:=[oo 2 (.box (.t 0)) [0],oo 4 (.mov (.c (.lst 2 [] .clip))) [4],oo 5 (Mc 0) [5],oo 6 (Mc 0) [6]]
def ZT:List RI:=[on 16 (Lt 3 2),oo 17 (Ca 28 [.t 16]) [16],omk 15 17,on 18 (.ext (.t 15) 0),on 19 (.ext (.t 15) 1),oo 20 (.ext (.t 15) 2) [15],.op (xm 7 18) [7,18],omk 8 19,omk 9 20]
def ZS:List RI:=[on 10 (.mov (.c (.lst 2 [] .clip)))]
def ZR:List RI:=[on 11 (Mb false)]
def PA:List RI:=[on 12 (Mc 0)]
def ZQ:List RI:=[om 21 12,on 22 (Fa 2 2),oo 23 (Ld 22) [22],oo 24 (Ln 23) [23],oo 25 (Bb .lss 21 24) [21,24]]
def ZP:List RI:=[om 28 9,oo 29 (Bc .neq 28 0) [28],omk 30 29,.grp 30 true [(xi 31 30 true (Mv 12)),(xi 32 30 true (Mv 8)),(xi 33 30 true (Bb .eql 31 32))] [31,32],oo 34 (Pf 30 33) [30,33]]
def ZO:List RI:=[omk 35 10,omk 36 12,omk 4 35,omk 5 36,on 6 (Mc 41)]
def ZN:List RI:=[on 38 (Fa 2 2),oo 39 (Ld 38) [38],om 40 12,oo 41 (Ia 4 39 40) [39,40],oo 42 (Lt 4 41) [41],om 43 1,oo 44 (Ca 41 [.t 42,.t 43]) [42,43],omk 37 44,on 45 (.ext (.t 37) 0),oo 46 (.ext (.t 37) 1) [37],on 13 (.new (.rc [.int .i64 0,.int .i64 0])),Sr 2 13 45 [45],omk 14 46]
def ZM:List RI:=[omk 47 14,oo 48 (.un .not (.t 47)) [47]]
def Lj:List RI:=[omk 49 10,omk 50 12,omk 4 49,omk 5 50,on 6 (Mc 47)]
def Li:List RI:=[omk 51 10,oo 52 (Lt 2 13) [13],oo 53 (.lit 2 [.t 52]) [52],oo 54 (.app [.int .i64 0,.int .i64 0] 16 (.t 51) (.t 53)) [51,53],omk 10 54]
def Lh:List RI:=[omk 55 11,omk 56 55,.grp 56 false [(xi 57 56 false (Fa 2 2)),(xi 58 56 false (Ld 57)),(xi 59 56 false (Mv 12)),(xi 60 56 false (Ia 4 58 59)),(xi 61 56 false (Lt 4 60)),(xi 62 56 false (Ca 42 [.t 61])),(xi 63 56 false (Bc .eql 62 4))] [57,58,59,60,61,62],oo 64 (Pt 56 63) [56,63],omk 11 64]
def Lg:List RI:=[omk 26 12,oo 27 (Bc .add 26 1) [26],omk 12 27]
def zL:RC:=(.post (Sq (So ZQ (Kc 25 (Kk [25] .skip) (Kk [1,2,8,9,12,25] (.exit 0)))) (Sq (Bk 1 (Sq (So ZP (Kc 34 (Kk [1,2,8,9,11,34] (So ZO .ret)) (Kk [34] .skip))) (So ZN (Sq (So ZM (Kc 48 (Kk [1,2,8,9,11,13,48] (So Lj .ret)) (Kk [48] .skip))) (So Li (.ops Lh)))))) (.ops Lg))) [.gc [113],.tok 10 110])
def ox:RC:=zL
def Lf:List RI:=[omk 65 11,oo 66 (.un .not (.t 65)) [65]]
def Le:List RI:=[om 67 10,omk 68 10,oo 69 (Ln 68) [68],omk 4 67,omk 5 69,on 6 (Mc 40)]
def Lc:List RI:=[om 70 10,omk 71 10,oo 72 (Ln 71) [71],omk 4 70,omk 5 72,on 6 (Mc 0)]
def r13:RC:=(So ZU (So ZT (So ZS (So ZR (Sq (So PA (Bk 0 (.pre [.tok 10 110] (.loop ox)))) (Sq (So Lf (Kc 66 (Kk [66] (So Le .ret)) (Kk [66] .skip))) (So Lc .ret)))))))
def F13:FnC:=⟨r13,73,[.tmp 4,.tmp 5,.tmp 6],[],[]⟩
def lE:List RI:=[oo 4 (Mb false) [4]]
def ZL:List RI:=[omk 5 0,omk 6 1,oo 7 (Ca 43 [.t 5,.t 6]) [5,6],omk 4 7]
def r14:RC:=(So lE (So ZL .ret))
def F14:FnC:=⟨r14,8,[.tmp 4],[],[]⟩
def Ew:List RI:=[oo 2 (.box (.t 0)) [0],oo 3 (.box (.t 1)) [1],oo 4 (Mc 0) [4]]
def ZK:List RI:=[on 6 (Lt 7 2),oo 7 (Ca 44 [.t 6]) [6],oo 8 (Bc .neq 7 0) [7]]
def mn:List RI:=[on 4 (Mc (-1))]
def ZJ:List RI:=[on 9 (Fa 1 3),oo 10 (Ld 9) [9]]
def ZI:List RI:=[on 12 (Bc .eql 10 1),omk 11 12]
def ZH:List RI:=[oo 13 (Fa 5 2) [2],oo 14 (Ld 13) [13],oo 15 (.mkfn 46 [] [.t 3]) [3],oo 16 (Ca 45 [.t 14,.t 15]) [14,15],omk 4 16]
def ZG:List RI:=[oo 18 (Bc .eql 10 3) [10],omk 17 18]
def ZF:List FI:=[Fs 0 19 (Fa 0 3),Fs 1 20 (Ld 19),Fz 2 21 (Ca 47 [ci 4]),Fs 3 22 (Bb .neq 20 21),Fm 4 23 22,Fi 5 24 23 false (Lt 4 3),Fy 6 25 23 false (Ca 50 [.t 24]),Fi 7 26 23 false (.un .not (.t 25)),Fs 8 27 (Pt 23 26)]
def ZE:List RI:=[on 28 (Fa 6 2),oo 29 (Ld 28) [28],oo 30 (.mkfn 52 [] [.t 3]) [3],oo 31 (Ca 51 [.t 29,.t 30]) [29,30],omk 5 31]
def KI:List RI:=[om 32 5,oo 33 (Bc .geq 32 0) [32]]
def KH:List RI:=[oo 34 (Fa 5 2) [2],oo 35 (Ld 34) [34],oo 36 (Ln 35) [35],omk 37 5,oo 38 (Bb .add 36 37) [36,37],omk 4 38]
def r15:RC:=(So Ew (Sq (So ZK (Kc 8 (Kk [2,3,8] (So mn .ret)) (Kk [8] .skip))) (Sq (So ZJ (Bk 0 (So ZI (Kc 11 (Kk [10,11] (So ZH .ret)) (Kk [11] (So ZG (Kc 17 (Kk [17] (Sq (Sq (.flt [0,1,0,7,15,31,63,127,255] [] ZF [19,20,21,22,23,24,25,26]) (Kc 27 (Kk [2,3,27] (So mn .ret)) (Kk [27] .skip))) (So ZE (So KI (Kc 33 (Kk [33] (So KH .ret)) (Kk [2,5,33] .skip)))))) (Kk [2,3,17] .skip)))))))) (So mn .ret))))
def F15:FnC:=⟨r15,39,[.tmp 4],[],[]⟩
def Pz:List RI:=[oo 3 (.box (.t 0)) [0],oo 6 (Mb false) [6]]
def ZD:List RI:=[on 14 (Lt 3 3),om 15 1,oo 16 (Ca 12 [.t 14,.t 15]) [14,15],omk 13 16,on 17 (.ext (.t 13) 0),on 18 (.ext (.t 13) 1),oo 19 (.ext (.t 13) 2) [13],.op (xm 7 17) [7,17],.op (xm 8 18) [8,18],omk 9 19]
def Py:List RI:=[omk 20 9,oo 21 (Bc .neq 20 0) [20],omk 22 21,.grp 22 false [(xi 23 22 false (Mv 2)),(xi 24 22 false (Ln 23)),(xi 25 22 false (Fa 2 3)),(xi 26 22 false (Ld 25)),(xi 27 22 false (Ln 26)),(xi 28 22 false (Bb .neq 24 27))] [23,24,25,26,27],oo 29 (Pt 22 28) [22,28]]
def re:List RI:=[on 6 (Mb false)]
def ZC:List RI:=[oo 30 (Fa 2 3) [3],oo 31 (Ld 30) [30],on 32 (Ln 31),on 33 (Mc 0)]
def ZB:List RI:=[on 34 (Bb .lss 33 32)]
def ZA:List RI:=[om 35 33,on 36 (Ia 4 31 33),oo 37 (Lt 4 36) [36],on 11 (.new (.rc Zq0)),omk 10 35,Sr 4 11 37 [37]]
def Zz:List RI:=[om 38 2,omk 39 10,oo 40 (Ia 2 38 39) [38,39],oo 41 (Lt 2 40) [40],on 12 (.new (.rc [.int .i64 0,.int .i64 0])),Sr 2 12 41 [41]]
def Zy:List RI:=[on 42 (Fa 1 11),oo 43 (Ld 42) [42],oo 44 (Bc .eql 43 5) [43],omk 45 44,.grp 45 false [(xi 46 45 false (Fa 1 11)),(xi 47 45 false (Ld 46)),(xi 48 45 false (Bc .eql 47 2))] [46,47],oo 49 (Pt 45 48) [45,48]]
def Zx:List RI:=[on 50 (Fa 0 12),oo 51 (Ld 50) [50],oo 52 (Bc .neq 51 (-1)) [51],omk 53 52,.grp 53 false [(xi 54 53 false (Fa 1 12)),(xi 55 53 false (Ld 54)),(xi 56 53 false (Bc .neq 55 (-1)))] [12,54,55],oo 57 (Pt 53 56) [53,56]]
def Kt:List FI:=[Fs 0 58 (Fa 0 12),Fs 1 59 (Ld 58),Fs 2 60 (Bc .lss 59 0),Fm 3 61 60,Fi 4 62 61 false (Fa 0 12),Fi 5 63 61 false (Ld 62),Fi 6 64 61 false (Mv 1),Fi 7 65 61 false (Ln 64),Fi 8 66 61 false (Bb .geq 63 65),Fs 9 67 (Pt 61 66),Fm 10 68 67,Fi 11 69 68 false (Fa 1 12),Fi 12 70 68 false (Ld 69),Fi 13 71 68 false (Bc .lss 70 0),Fs 14 72 (Pt 68 71),Fm 15 73 72,Fi 16 74 73 false (Mv 1),Fi 17 75 73 false (Fa 0 12),Fi 18 76 73 false (Ld 75),Fi 19 77 73 false (Ia 7 74 76),Fi 20 78 73 false (Lt 7 77),Fi 21 79 73 false (Lt 4 11),Fi 23 81 73 false (Fa 1 12),Fi 24 82 73 false (Ld 81),Fy 22 80 73 false (Ca 15 [.t 78,.t 79]),Fi 25 83 73 false (Bb .neq 80 82),Fs 26 84 (Pt 73 83)]
def Ks:List RI:=[oo 85 (Bc .add 33 1) [33],omk 33 85]
def zI:RC:=(.post (So ZB (Sq (Kc 34 (Kk [34] .skip) (Kk [1,2,31,32,33,34] (.exit 0))) (Sq (Bk 1 (So ZA (So Zz (Sq (So Zy (Kc 49 (Kk [11,49] (Sq (So Zx (Kc 57 (Kk [1,2,31,32,33,57] (So re .ret)) (Kk [57] .skip))) (.exit 1))) (Kk [49] .skip))) (Sq (.flt [0,1,3,7,15,31,15,79,255,511,1023,2047,4095,8191,16383,32767,65535,65535,196607,524287,1048575,65535,4194303,65535,8454143,33554431,67108863] [] Kt [11,12,58,59,60,61,62,63,64,65,66,67,68,69,70,71,72,73,74,75,76,77,78,79,80,81,82,83]) (Kc 84 (Kk [1,2,31,32,33,84] (So re .ret)) (Kk [84] .skip))))))) (.ops Ks)))) [.gc [111,112]])
def l6:RC:=zI
def yw:List RI:=[on 6 (Mb true)]
def r16:RC:=(So Pz (Sq (So ZD (So Py (Kc 29 (Kk [1,2,3,29] (So re .ret)) (Kk [29] .skip)))) (Sq (So ZC (Bk 0 (.loop l6))) (So yw .ret))))
def F16:FnC:=⟨r16,86,[.tmp 6],[],[]⟩
def Zw:List RI:=[on 14 (Lt 3 3),om 15 1,oo 16 (Ca 13 [.t 14,.t 15]) [14,15],omk 13 16,on 17 (.ext (.t 13) 0),on 18 (.ext (.t 13) 1),oo 19 (.ext (.t 13) 2) [13],.op (xm 7 17) [7,17],.op (xm 8 18) [8,18],omk 9 19]
def Eu:List RI:=[on 10 (Mc 0)]
def Zv:List RI:=[om 30 10,om 31 2,oo 32 (Ln 31) [31],oo 33 (Bb .lss 30 32) [30,32]]
def Zu:List RI:=[om 36 2,om 37 10,oo 38 (Ia 2 36 37) [36,37],oo 39 (Lt 2 38) [38],on 11 (.new (.rc [.int .i64 0,.int .i64 0])),Sr 2 11 39 [39]]
def Zt:List RI:=[on 40 (Fa 2 3),oo 41 (Ld 40) [40],om 42 10,oo 43 (Ia 4 41 42) [41,42],oo 44 (Fa 1 43) [43],oo 45 (Ld 44) [44],omk 12 45]
def Zs:List RI:=[om 46 12,oo 47 (Bc .eql 46 5) [46],omk 48 47,.grp 48 false [(xi 49 48 false (Mv 12)),(xi 50 48 false (Bc .eql 49 2))] [12,49],oo 51 (Pt 48 50) [48,50]]
def Zr:List RI:=[on 52 (Fa 0 11),oo 53 (Ld 52) [52],oo 54 (Bc .neq 53 (-1)) [53],omk 55 54,.grp 55 false [(xi 56 55 false (Fa 1 11)),(xi 57 55 false (Ld 56)),(xi 58 55 false (Bc .neq 57 (-1)))] [11,56,57],oo 59 (Pt 55 58) [55,58]]
def Kq:List FI:=[Fs 0 60 (Fa 0 11),Fs 1 61 (Ld 60),Fs 2 62 (Bc .lss 61 0),Fm 3 63 62,Fi 4 64 63 false (Fa 0 11),Fi 5 65 63 false (Ld 64),Fi 6 66 63 false (Mv 1),Fi 7 67 63 false (Ln 66),Fi 8 68 63 false (Bb .geq 65 67),Fs 9 69 (Pt 63 68),Fm 10 70 69,Fi 11 71 70 false (Fa 1 11),Fi 12 72 70 false (Ld 71),Fi 13 73 70 false (Bc .lss 72 0),Fs 14 74 (Pt 70 73),Fm 15 75 74,Fi 16 76 75 false (Mv 1),Fi 17 77 75 false (Fa 0 11),Fi 18 78 75 false (Ld 77),Fi 19 79 75 false (Ia 7 76 78),Fi 20 80 75 false (Lt 7 79),Fi 21 81 75 false (Fa 2 3),Fi 22 82 75 false (Ld 81),Fi 23 83 75 false (Mv 10),Fi 24 84 75 false (Ia 4 82 83),Fi 25 85 75 false (Lt 4 84),Fi 27 87 75 false (Fa 1 11),Fi 28 88 75 false (Ld 87),Fy 26 86 75 false (Ca 19 [.t 80,.t 85]),Fi 29 89 75 false (Bb .neq 86 88),Fs 30 90 (Pt 75 89)]
def Kp:List RI:=[omk 34 10,oo 35 (Bc .add 34 1) [34],omk 10 35]
def zH:RC:=(.post (Sq (So Zv (Kc 33 (Kk [33] .skip) (Kk [1,2,3,10,33] (.exit 0)))) (Sq (Bk 1 (So Zu (Sq (So Zt (So Zs (Kc 51 (Kk [51] (Sq (So Zr (Kc 59 (Kk [1,2,3,10,59] (So re .ret)) (Kk [59] .skip))) (.exit 1))) (Kk [51] .skip)))) (Sq (.flt [0,1,3,7,15,31,15,79,255,511,1023,2047,4095,8191,16383,32767,65535,65535,196607,524287,1048575,65535,2162687,65535,14745599,31522815,67108863,65535,134283263,536870911,1073741823] [] Kq [11,60,61,62,63,64,65,66,67,68,69,70,71,72,73,74,75,76,77,78,79,80,81,82,83,84,85,86,87,88,89]) (Kc 90 (Kk [1,2,3,10,90] (So re .ret)) (Kk [90] .skip)))))) (.ops Kp))) [.gc [111]])
def l5:RC:=zH
def r17:RC:=(So Pz (Sq (So Zw (So Py (Kc 29 (Kk [1,2,3,29] (So re .ret)) (Kk [29] .skip)))) (Sq (So Eu (Bk 0 (.loop l5))) (So yw .ret))))
def F17:FnC:=⟨r17,91,[.tmp 6],[],[]⟩
def rb:List RI:=[oo 4 (Mc 0) [4]]
def Zq:List RI:=[om 6 1,oo 7 (Bc .lss 6 1) [6]]
def ra:List RI:=[on 4 (Mc 0)]
def Zp:List RI:=[omk 8 0,om 9 1,oo 10 (Bb .rem 8 9) [8,9],omk 5 10]
def Zo:List RI:=[om 11 5,oo 12 (Bc .lss 11 0) [11]]
def Zn:List RI:=[omk 13 5,omk 14 1,oo 15 (Bb .add 13 14) [13,14],omk 5 15]
def Zm:List RI:=[omk 16 5,omk 4 16]
def r18:RC:=(So rb (Sq (So Zq (Kc 7 (Kk [0,1,7] (So ra .ret)) (Kk [7] .skip))) (So Zp (Sq (So Zo (Kc 12 (Kk [12] (.ops Zn)) (Kk [1,12] .skip))) (So Zm .ret)))))
def F18:FnC:=⟨r18,17,[.tmp 4],[],[]⟩
def Zl:List RI:=[on 8 (Lt 7 2),oo 9 (Ca 54 [.t 8]) [8],oo 10 (Bc .neq 9 0) [9],omk 11 10,.grp 11 false [(xi 12 11 false (Fa 2 3)),(xi 13 11 false (Ld 12)),(xi 14 11 false (Ln 13)),(xi 15 11 false (Bc .neq 14 2))] [12,13,14],oo 16 (Pt 11 15) [11,15]]
def Zk:List RI:=[on 17 (Fa 1 3),oo 18 (Ld 17) [17],oo 19 (Bc .eql 18 1) [18]]
def ml:List RI:=[on 5 (Mc 0)]
def Zj:List RI:=[om 20 5,on 21 (Fa 5 2),oo 22 (Ld 21) [21],oo 23 (Ln 22) [22],oo 24 (Bb .lss 20 23) [20,23]]
def Zi:List RI:=[on 27 (Fa 5 2),oo 28 (Ld 27) [27],om 29 5,oo 30 (Ia 4 28 29) [28,29],oo 31 (Lt 4 30) [30],on 6 (.new (.rc Zq1)),Sr 4 6 31 [31]]
def Zh:List FI:=[Fs 0 32 (Fa 0 6),Fs 1 33 (Ld 32),Fs 3 35 (Fa 0 3),Fs 4 36 (Ld 35),Fz 2 34 (Ca 55 [.t 33]),Fs 5 37 (Bb .eql 34 36),Fm 6 38 37,Fi 7 39 38 true (Fa 3 6),Fi 8 40 38 true (Ld 39),Fi 9 41 38 true (Fa 2 3),Fi 10 42 38 true (Ld 41),Fi 11 43 38 true (.iaddrL 1 (.t 42) (ci 1)),Fi 12 44 38 true (Ld 43),Fy 13 45 38 true (Ca 25 [.t 40,.t 44]),Fs 14 46 (Pf 38 45),Fm 15 47 46,Fi 16 48 47 true (Fa 3 3),Fi 17 49 47 true (Ld 48),Fi 18 50 47 true (Fa 1 6),Fi 19 51 47 true (Ld 50),Fi 20 52 47 true (Fa 2 6),Fi 21 53 47 true (Ld 52),Fy 22 54 47 true (Ca 56 [.t 51,.t 53]),Fy 23 55 47 true (Ca 25 [.t 49,.t 54]),Fs 24 56 (Pf 47 55)]
def Zg:List RI:=[omk 57 5,omk 4 57]
def Zf:List RI:=[omk 25 5,oo 26 (Bc .add 25 1) [25],omk 5 26]
def zG:RC:=(.post (Sq (So Zj (Kc 24 (Kk [24] .skip) (Kk [5,24] (.exit 0)))) (Sq (Bk 1 (So Zi (Sq (.flt [0,1,3,0,8,31,63,127,255,127,639,1663,3711,8191,16383,32767,65535,131071,65535,327679,65535,1114111,3997695,8388607,16777215] [] Zh [6,32,33,34,35,36,37,38,39,40,41,42,43,44,45,46,47,48,49,50,51,52,53,54,55]) (Kc 56 (Kk [2,3,56] (So Zg .ret)) (Kk [56] .skip))))) (.ops Zf))) [.gc [106]])
def ui:RC:=zG
def Ko:List RI:=[on 58 (Fa 1 3),oo 59 (Ld 58) [58],oo 60 (Bc .eql 59 3) [59],omk 61 60,.grp 61 true [(xi 62 61 true (Fa 0 3)),(xi 63 61 true (Ld 62)),(xi 64 61 true (Bc .eql 63 9))] [62,63],oo 65 (Pf 61 64) [61,64],omk 66 65,.grp 66 true [(xi 67 66 true (Lt 4 3)),(xi 68 66 true (Ca 57 [.t 67]))] [67],oo 69 (Pf 66 68) [66,68]]
def l3:List RI:=[on 7 (Mc 0)]
def Kn:List RI:=[om 70 7,on 71 (Fa 6 2),oo 72 (Ld 71) [71],oo 73 (Ln 72) [72],oo 74 (Bb .lss 70 73) [70,73]]
def Km:List FI:=[Fs 0 77 (Fa 6 2),Fs 1 78 (Ld 77),Fm 2 79 7,Fs 3 80 (Ia 4 78 79),Fs 4 81 (Lt 4 80),Fs 5 82 (Fa 3 3),Fs 6 83 (Ld 82),Fz 7 84 (Ca 58 [.t 81,.t 83])]
def Kj:List RI:=[oo 85 (Fa 5 2) [2],oo 86 (Ld 85) [85],oo 87 (Ln 86) [86],omk 88 7,oo 89 (Bb .add 87 88) [87,88],omk 4 89]
def Ki:List RI:=[omk 75 7,oo 76 (Bc .add 75 1) [75],omk 7 76]
def zF:RC:=(Sq (So Kn (Kc 74 (Kk [74] .skip) (Kk [2,3,7,74] (.exit 2)))) (Sq (Bk 3 (Sq (.flt [0,1,0,7,15,0,32,127] [] Km [77,78,79,80,81,82,83]) (Kc 84 (Kk [3,84] (So Kj .ret)) (Kk [84] .skip)))) (.ops Ki)))
def uh:RC:=zF
def r19:RC:=(So Ew (Sq (So Zl (Kc 16 (Kk [2,3,16] (So mn .ret)) (Kk [16] .skip))) (Sq (So Zk (Kc 19 (Kk [19] (So ml (Bk 0 (.loop ui)))) (Kk [19] .skip))) (Sq (So Ko (Kc 69 (Kk [69] (So l3 (Bk 2 (.loop uh)))) (Kk [2,3,69] .skip))) (So mn .ret)))))
def F19:FnC:=⟨r19,90,[.tmp 4],[],[]⟩
def Et:List RI:=[om 6 0,oo 7 (Ln 6) [6],om 8 1,oo 9 (Ln 8) [8],oo 10 (Bb .neq 7 9) [7,9]]
def iO:List RI:=[on 4 (Mb false)]
def Es:List RI:=[om 11 5,om 12 0,oo 13 (Ln 12) [12],oo 14 (Bb .lss 11 13) [11,13]]
def Ze:List FI:=[Fm 0 17 0,Fm 1 18 5,Fs 2 19 (Ia 1 17 18),Fs 3 20 (Ld 19),Fm 4 21 1,Fm 5 22 5,Fs 6 23 (Ia 1 21 22),Fs 7 24 (Ld 23),Fz 8 25 (Ca 25 [.t 20,.t 24]),Fs 9 26 (.un .not (.t 25))]
def Er:List RI:=[omk 15 5,oo 16 (Bc .add 15 1) [15],omk 5 16]
def PV:RC:=(Sq (So Es (Kc 14 (Kk [14] .skip) (Kk [0,1,5,14] (.exit 0)))) (Sq (Bk 1 (Sq (.flt [0,0,3,7,0,0,48,112,255,511] [] Ze [17,18,19,20,21,22,23,24,25]) (Kc 26 (Kk [0,1,5,26] (So iO .ret)) (Kk [26] .skip)))) (.ops Er)))
def Px:RC:=PV
def o3:List RI:=[on 4 (Mb true)]
def r20:RC:=(So lE (Sq (So Et (Kc 10 (Kk [0,1,10] (So iO .ret)) (Kk [10] .skip))) (Sq (So ml (Bk 0 (.loop Px))) (So o3 .ret))))
def F20:FnC:=⟨r20,27,[.tmp 4],[],[]⟩
def Ep:List RI:=[oo 4 (.mov (.c (.lst 1 [] .clip))) [4]]
def Pw:List RI:=[on 5 (.mov (.c (.lst 1 [] .clip)))]
def Zd:List RI:=[omk 11 1,on 12 (Ln 11),on 13 (Mc 0)]
def Zc:List RI:=[on 14 (Bb .lss 13 12)]
def Zb:List RI:=[on 15 (Ia 2 11 13),oo 16 (Lt 2 15) [15],on 7 (.new (.rc [.int .i64 0,.int .i64 0])),Sr 2 7 16 [16]]
def Za:List RI:=[on 17 (Fa 0 7),oo 18 (Ld 17) [17],oo 19 (Bc .lss 18 0) [18],omk 20 19,.grp 20 false [(xi 21 20 false (Fa 0 7)),(xi 22 20 false (Ld 21)),(xi 23 20 false (Mv 0)),(xi 24 20 false (Ln 23)),(xi 25 20 false (Bb .geq 22 24))] [21,22,23,24],oo 26 (Pt 20 25) [20,25]]
def Y9:List RI:=[om 27 0,oo 28 (Fa 0 7) [7],oo 29 (Ld 28) [28],oo 30 (Ia 7 27 29) [27,29],oo 31 (Lt 7 30) [30],oo 32 (Ca 59 [.t 31]) [31],omk 8 32]
def Y8:List RI:=[om 34 5,om 35 8,oo 36 (Ca 60 [.t 34,.t 35,(.f 61)]) [34,35],omk 33 36,on 37 (.ext (.t 33) 0),oo 38 (.ext (.t 33) 1) [33],omk 9 37,omk 10 38]
def Y7:List RI:=[omk 39 10,oo 40 (.un .not (.t 39)) [39]]
def Y6:List RI:=[omk 41 5,omk 42 9,omk 43 8,oo 44 (.lit 1 [.t 43]) [43],oo 45 (Ca 62 [.t 41,.t 42,.t 44]) [41,42,44],omk 5 45]
def Kh:List RI:=[oo 46 (Bc .add 13 1) [13],omk 13 46]
def zE:RC:=(.post (So Zc (Sq (Kc 14 (Kk [14] .skip) (Kk [0,11,12,13,14] (.exit 0))) (Sq (Bk 1 (So Zb (Sq (So Za (Kc 26 (Kk [7,26] (.exit 1)) (Kk [26] .skip))) (So Y9 (So Y8 (So Y7 (Kc 40 (Kk [40] (.ops Y6)) (Kk [8,9,40] .skip)))))))) (.ops Kh)))) [.obj 5 105,.gc [107]])
def yv:RC:=zE
def Kg:List RI:=[omk 47 5,omk 4 47]
def r21:RC:=(So Ep (So Pw (Sq (So Zd (Bk 0 (.loop yv))) (So Kg .ret))))
def F21:FnC:=⟨r21,48,[.tmp 4],[],[]⟩
def lD:List RI:=[on 6 (Mc 0)]
def Pv:List RI:=[om 9 6,om 10 1,oo 11 (Ln 10) [10],oo 12 (Bb .lss 9 11) [9,11]]
def Y5:List RI:=[om 15 1,om 16 6,oo 17 (Ia 2 15 16) [15,16],oo 18 (Fa 0 17) [17],oo 19 (Ld 18) [18],oo 20 (Bc .lss 19 0) [19],omk 21 20,.grp 21 false [(xi 22 21 false (Mv 1)),(xi 23 21 false (Mv 6)),(xi 24 21 false (Ia 2 22 23)),(xi 25 21 false (Fa 0 24)),(xi 26 21 false (Ld 25)),(xi 27 21 false (Mv 0)),(xi 28 21 false (Ln 27)),(xi 29 21 false (Bb .geq 26 28))] [22,23,24,25,26,27,28],oo 30 (Pt 21 29) [21,29]]
def Y4:List RI:=[om 31 0,om 32 1,om 33 6,oo 34 (Ia 2 32 33) [32,33],oo 35 (Fa 0 34) [34],oo 36 (Ld 35) [35],oo 37 (Ia 7 31 36) [31,36],oo 38 (Lt 7 37) [37],oo 39 (Ca 26 [.t 38]) [38],omk 7 39]
def ug:List RI:=[on 8 (Mc 0)]
def Y3:List RI:=[om 40 8,om 41 5,oo 42 (Ln 41) [41],oo 43 (Bb .lss 40 42) [40,42],omk 44 43,.grp 44 true [(xi 45 44 true (Mv 5)),(xi 46 44 true (Mv 8)),(xi 47 44 true (Ia 1 45 46)),(xi 48 44 true (Ld 47)),(xi 49 44 true (Mv 7)),(xi 50 44 true (Ca 63 [.t 48,.t 49]))] [45,46,47,48,49],oo 51 (Pf 44 50) [44,50]]
def Y2:List RI:=[omk 52 8,oo 53 (Bc .add 52 1) [52],omk 8 53]
def PU:RC:=(Sq (So Y3 (Kc 51 (Kk [51] .skip) (Kk [51] (.exit 2)))) (Bk 3 (.ops Y2)))
def Pu:RC:=PU
def Kf:List RI:=[om 54 8,om 55 5,oo 56 (Ln 55) [55],oo 57 (Bb .lss 54 56) [54,56],omk 58 57,.grp 58 true [(xi 59 58 true (Mv 5)),(xi 60 58 true (Mv 8)),(xi 61 58 true (Ia 1 59 60)),(xi 62 58 true (Ld 61)),(xi 63 58 true (Mv 7)),(xi 64 58 true (Ca 25 [.t 62,.t 63]))] [59,60,61,62,63],oo 65 (Pf 58 64) [58,64]]
def Ke:List FI:=[Fs 0 66 (.lit 1 []),Fm 1 67 5,Fm 2 68 8,Fs 3 69 (.slcL 1 (.t 67) none (some (.t 68)) none),Fm 5 71 7,Fs 6 72 (.lit 1 [.t 71]),Fm 8 74 5,Fm 9 75 8,Fs 10 76 (.slcL 1 (.t 74) (some (.t 75)) none none),Fz 4 70 (.app [.byt [] .clip] 24 (.t 66) (.t 69)),Fz 7 73 (.app [.byt [] .clip] 24 (.t 70) (.t 72)),Fz 11 77 (.app [.byt [] .clip] 24 (.t 73) (.t 76)),⟨12,false,(xm 5 77)⟩]
def Kd:List RI:=[omk 13 6,oo 14 (Bc .add 13 1) [13],omk 6 14]
def zD:RC:=(.post (Sq (So Pv (Kc 12 (Kk [12] .skip) (Kk [0,1,6,12] (.exit 0)))) (Sq (Bk 1 (Sq (So Y5 (Kc 30 (Kk [30] (.exit 1)) (Kk [30] .skip))) (So Y4 (So ug (Sq (Bk 2 (.loop Pu)) (Sq (So Kf (Kc 65 (Kk [7,8,65] (.exit 1)) (Kk [65] .skip))) (.flt [0,0,0,6,15,0,32,127,0,0,768,2047,4095] [170,173,177] Ke [7,8,66,67,68,69,70,71,72,73,74,75,76,77]))))))) (.ops Kd))) [.gc [170,173],.tok 5 105])
def yu:RC:=zD
def Kb:List RI:=[omk 78 5,omk 4 78]
def r22:RC:=(So Ep (So Pw (Sq (So lD (Bk 0 (.pre [.tok 5 105] (.loop yu)))) (So Kb .ret))))
def F22:FnC:=⟨r22,79,[.tmp 4],[],[]⟩
def Y1:List RI:=[oo 4 (.mov (.c (.lst 7 [] .clip))) [4]]
def Y0:List RI:=[omk 8 0,oo 9 (Ca 35 [.t 8,ci 120]) [8],omk 5 9]
def YZ:List RI:=[on 6 (.mov (.c (.lst 7 [] .clip)))]
def YY:List RI:=[om 10 5,oo 11 (Ca 37 [.t 10,ci 5]) [10],omk 7 11]
def YX:List RI:=[om 12 7,oo 13 (Bc .gtr 12 0) [12]]
def YW:List RI:=[omk 16 6,om 17 5,om 18 1,oo 19 (Ca 64 [.t 17,.t 18]) [17,18],oo 20 (.lit 7 [.t 19]) [19],oo 21 (.app Zq4 96 (.t 16) (.t 20)) [16,20],omk 6 21]
def YV:List RI:=[omk 14 7,oo 15 (Bc .sub 14 1) [14],omk 7 15]
def PT:RC:=(.post (Sq (So YX (Kc 13 (Kk [13] .skip) (Kk [1,5,7,13] (.exit 0)))) (Sq (Bk 1 (.ops YW)) (.ops YV))) [.tok 6 106])
def Ps:RC:=PT
def YU:List RI:=[omk 22 6,omk 4 22]
def r23:RC:=(So Y1 (So Y0 (So YZ (Sq (So YY (Bk 0 (.pre [.tok 6 106] (.loop Ps)))) (So YU .ret)))))
def F23:FnC:=⟨r23,23,[.tmp 4],[],[]⟩
def YT:List RI:=[oo 2 (.mov (.c (.lst 4 [] .clip))) [2]]
def YS:List RI:=[omk 10 0,oo 11 (Ca 35 [.t 10,ci 200]) [10],omk 3 11]
def Pq:List RI:=[on 4 (.mov (.c (.lst 4 [] .clip)))]
def YR:List RI:=[on 5 (Mc 1)]
def YQ:List RI:=[om 12 5,oo 13 (Bc .leq 12 4) [12]]
def YP:List RI:=[om 16 3,oo 17 (Ca 37 [.t 16,ci 3]) [16],omk 6 17]
def YO:List RI:=[om 18 5,oo 19 (Bc .eql 18 1) [18],omk 20 19,.grp 20 false [(xi 21 20 false (Mv 5)),(xi 22 20 false (Bc .eql 21 3))] [21],oo 23 (Pt 20 22) [20,22]]
def YN:List RI:=[om 24 3,oo 25 (Ca 37 [.t 24,ci 2]) [24],oo 26 (.bin .add (ci 1) (.t 25)) [25],omk 6 26]
def YM:List RI:=[om 27 6,oo 28 (Bc .gtr 27 0) [27]]
def YL:List RI:=[om 31 3,om 32 5,oo 33 (Ca 65 [.t 31,.t 32]) [31,32],on 7 (.new (.rc Zq1)),Sr 4 7 33 [33]]
def Ka:List RI:=[on 9 (Mc 0)]
def J9:List RI:=[om 34 9,om 35 4,oo 36 (Ln 35) [35],oo 37 (Bb .lss 34 36) [34,36]]
def J8:List FI:=[Fm 0 40 8,Fm 1 41 40,Fi 2 42 41 false (Mv 4),Fi 3 43 41 false (Mv 9),Fi 4 44 41 false (Ia 4 42 43),Fi 5 45 41 false (Fa 0 44),Fi 6 46 41 false (Ld 45),Fi 7 47 41 false (Fa 0 7),Fi 8 48 41 false (Ld 47),Fi 9 49 41 false (Bb .eql 46 48),Fi 10 50 41 false (Mv 49),Fi 11 51 50 true (Mv 4),Fi 12 52 50 true (Mv 9),Fi 13 53 50 true (Ia 4 51 52),Fi 14 54 50 true (Fa 1 53),Fi 15 55 50 true (Ld 54),Fi 16 56 50 true (Fa 1 7),Fi 17 57 50 true (Ld 56),Fi 18 58 50 true (Bb .eql 55 57),Fi 19 59 41 false (Pf 50 58),Fs 20 60 (Pt 41 59),⟨21,false,(xm 8 60)⟩]
def J7:List RI:=[omk 38 9,oo 39 (Bc .add 38 1) [38],omk 9 39]
def zC:RC:=(Sq (So J9 (Kc 37 (Kk [37] .skip) (Kk [9,37] (.exit 4)))) (Sq (Bk 5 (.flt [0,1,3,3,15,31,63,3,131,511,1023,2047,2047,8191,16383,32767,2047,67583,262143,524287,1048575,2097151] [] J8 [40,41,42,43,44,45,46,47,48,49,50,51,52,53,54,55,56,57,58,59,60])) (.ops J7)))
def yr:RC:=zC
def J6:List RI:=[omk 61 8,oo 62 (.un .not (.t 61)) [61]]
def J5:List RI:=[omk 63 4,oo 64 (Lt 4 7) [7],oo 65 (.lit 4 [.t 64]) [64],oo 66 (.app Zq1 56 (.t 63) (.t 65)) [63,65],omk 4 66]
def J4:List RI:=[omk 29 6,oo 30 (Bc .sub 29 1) [29],omk 6 30]
def zB:RC:=(.post (Sq (So YM (Kc 28 (Kk [28] .skip) (Kk [6,28] (.exit 2)))) (Sq (Bk 3 (So YL (So xfD (Sq (So Ka (Bk 4 (.loop yr))) (So J6 (Kc 62 (Kk [62] (.ops J5)) (Kk [7,62] .skip))))))) (.ops J4))) [.gc [107],.tok 4 104])
def yq:RC:=zB
def J3:List RI:=[omk 14 5,oo 15 (Bc .add 14 1) [14],omk 5 15]
def zA:RC:=(.post (Sq (So YQ (Kc 13 (Kk [13] .skip) (Kk [3,5,13] (.exit 0)))) (Sq (Bk 1 (So YP (Sq (So YO (Kc 23 (Kk [6,23] (.ops YN)) (Kk [23] .skip))) (Bk 2 (.pre [.tok 4 104] (.loop yq)))))) (.ops J3))) [.gc [107],.tok 4 104])
def qE:RC:=zA
def J2:List RI:=[omk 67 4,omk 2 67]
def r24:RC:=(So YT (So YS (So Pq (Sq (So YR (Bk 0 (.pre [.tok 4 104] (.loop qE)))) (So J2 .ret)))))
def F24:FnC:=⟨r24,68,[.tmp 2],[],[]⟩
def YK:List FI:=[Fm 0 17 0,Fm 1 18 5,Fs 2 19 (Ia 1 17 18),Fs 3 20 (Ld 19),Fm 4 21 1,Fm 5 22 5,Fs 6 23 (Ia 1 21 22),Fs 7 24 (Ld 23),Fs 8 25 (Bb .neq 20 24)]
def PS:RC:=(Sq (So Es (Kc 14 (Kk [14] .skip) (Kk [0,1,5,14] (.exit 0)))) (Sq (Bk 1 (Sq (.flt [0,0,3,7,0,0,48,112,255] [] YK [17,18,19,20,21,22,23,24]) (Kc 25 (Kk [0,1,5,25] (So iO .ret)) (Kk [25] .skip)))) (.ops Er)))
def Pp:RC:=PS
def r25:RC:=(So lE (Sq (So Et (Kc 10 (Kk [0,1,10] (So iO .ret)) (Kk [10] .skip))) (Sq (So ml (Bk 0 (.loop Pp))) (So o3 .ret))))
def F25:FnC:=⟨r25,26,[.tmp 4],[],[]⟩
def uf:List RI:=[oo 1 (.box (.t 0)) [0],oo 2 (.mov (.c (.byt [] .clip))) [2]]
def YJ:List RI:=[oo 4 (Lt 7 1) [1],oo 5 (Ca 66 [.t 4]) [4],omk 3 5]
def Po:List RI:=[om 6 3,oo 7 (Ln 6) [6],oo 8 (Bc .eql 7 0) [7]]
def ue:List RI:=[on 2 (.mov (.c (.byt [] .clip)))]
def YI:List RI:=[omk 9 3,oo 10 (.lit 1 [.t 9]) [9],oo 11 (Ca 67 [ci 21,.t 10]) [10],omk 2 11]
def r26:RC:=(So uf (So YJ (Sq (So Po (Kc 8 (Kk [3,8] (So ue .ret)) (Kk [8] .skip))) (So YI .ret))))
def F26:FnC:=⟨r26,12,[.tmp 2],[],[]⟩
def YH:List RI:=[oo 1 (.box (.t 0)) [0],oo 2 (Mc 0) [2],oo 3 (Mc 0) [3],oo 4 (Mc 0) [4]]
def YG:List RI:=[on 5 (Mc 0),on 6 (Mc 0)]
def YF:List RI:=[om 10 7,on 11 (Fa 2 1),oo 12 (Ld 11) [11],oo 13 (Ln 12) [12],oo 14 (Bb .lss 10 13) [10,13]]
def YE:List RI:=[on 17 (Fa 2 1),oo 18 (Ld 17) [17],om 19 7,oo 20 (Ia 4 18 19) [18,19],oo 21 (Lt 4 20) [20],oo 22 (Ca 42 [.t 21]) [21],omk 8 22]
def YD:List RI:=[om 23 8,oo 24 (Bc .eql 23 0) [23]]
def YC:List RI:=[om 25 8,om 26 5,oo 27 (Bb .geq 25 26) [25,26],omk 28 27,.grp 28 true [(xi 29 28 true (Mv 5)),(xi 30 28 true (Bc .gtr 29 0)),(xi 31 28 true (Mv 30))] [29,30],.grp 31 false [(xi 32 31 false (Mv 8)),(xi 33 31 false (Bc .eql 32 1))] [32],.grp 28 true [(xi 34 28 true (Pt 31 33))] [31,33],oo 35 (Pf 28 34) [28,34],omk 9 35]
def YB:List RI:=[om 36 8,oo 37 (Bc .eql 36 3) [36]]
def YA:List RI:=[omk 38 9,omk 39 38,.grp 39 true [(xi 40 39 true (Fa 2 1)),(xi 41 39 true (Ld 40)),(xi 42 39 true (Mv 7)),(xi 43 39 true (Ia 4 41 42)),(xi 44 39 true (Fa 0 43)),(xi 45 39 true (Ld 44)),(xi 46 39 true (Mv 6)),(xi 47 39 true (Bb .eql 45 46))] [40,41,42,43,44,45,46],oo 48 (Pf 39 47) [39,47],omk 9 48]
def Yz:List RI:=[om 49 8,oo 50 (Bc .gtr 49 3) [49]]
def J1:List RI:=[omk 51 9,omk 52 51,.grp 52 true [(xi 53 52 true (Mv 6)),(xi 54 52 true (Bc .eql 53 8))] [53],oo 55 (Pf 52 54) [52,54],omk 9 55]
def J0:List RI:=[omk 56 9,oo 57 (.un .not (.t 56)) [56]]
def JZ:List RI:=[omk 58 5,omk 59 7,omk 2 58,omk 3 59,on 4 (Mc 41)]
def JY:List RI:=[om 60 8,omk 5 60]
def JX:List RI:=[omk 61 8,oo 62 (Bc .eql 61 3) [61]]
def JW:List RI:=[omk 63 6,oo 64 (Bc .add 63 1) [63],omk 6 64]
def JV:List RI:=[omk 15 7,oo 16 (Bc .add 15 1) [15],omk 7 16]
def zy:RC:=(Sq (So YF (Kc 14 (Kk [14] .skip) (Kk [6,7,14] (.exit 0)))) (Sq (Bk 1 (So YE (Sq (So YD (Kc 24 (Kk [8,24] (.exit 1)) (Kk [24] .skip))) (So YC (Sq (So YB (Kc 37 (Kk [37] (.ops YA)) (Kk [37] .skip))) (Sq (So Yz (Kc 50 (Kk [50] (.ops J1)) (Kk [50] .skip))) (Sq (So J0 (Kc 57 (Kk [1,6,8,57] (So JZ .ret)) (Kk [5,57] .skip))) (So JY (So JX (Kc 62 (Kk [62] (.ops JW)) (Kk [62] .skip))))))))))) (.ops JV)))
def lZ:RC:=zy
def JU:List FI:=[Fm 0 65 5,Fs 1 66 (Fa 2 1),Fs 2 67 (Ld 66),Fs 3 68 (Ln 67),Fm 4 2 65,Fm 5 3 68,Fs 6 4 (Mc 0)]
def r28:RC:=(So YH (So YG (Sq (So l3 (Bk 0 (.loop lZ))) (Sq (.flt [0,0,2,6,1,31,63] [] JU [1,5,65,66,67,68]) .ret))))
def F28:FnC:=⟨r28,69,[.tmp 2,.tmp 3,.tmp 4],[],[]⟩
def mj:List RI:=[oo 2 (Mc 0) [2]]
def Yy:List RI:=[omk 3 0,oo 4 (Ca 18 [.t 3,ci 2]) [3],oo 5 (.bin .add (ci 2) (.t 4)) [4],omk 2 5]
def r29:RC:=(So mj (So Yy .ret))
def F29:FnC:=⟨r29,6,[.tmp 2],[],[]⟩
def Yx:List RI:=[oo 4 (.mov (.c (.lst 4 [] .clip))) [4]]
def Yw:List RI:=[om 11 0,oo 12 (Ca 75 [.t 11]) [11],oo 13 (Bc .neq 12 0) [12],omk 14 13,.grp 14 false [(xi 15 14 false (Mv 1)),(xi 16 14 false (Bc .lss 15 1))] [15],oo 17 (Pt 14 16) [14,16],omk 18 17,.grp 18 false [(xi 19 18 false (Mv 1)),(xi 20 18 false (Bc .gtr 19 3))] [19],oo 21 (Pt 18 20) [18,20]]
def Yv:List RI:=[on 5 (.mov (.c (.lst 4 [] .clip)))]
def Yu:List RI:=[on 6 (Mc 1)]
def Yt:List RI:=[om 22 6,oo 23 (Bc .leq 22 4) [22]]
def Ys:List RI:=[om 26 6,oo 27 (Bc .eql 26 3) [26]]
def Yr:List RI:=[om 28 7,oo 29 (Bc .lss 28 8) [28]]
def Yq:List RI:=[omk 32 5,om 33 7,om 34 1,on 35 (Ca 77 []),oo 36 (Ca 76 [.t 33,ci 2,.t 34,.t 35]) [33,34,35],oo 37 (.lit 4 [.t 36]) [36],oo 38 (.app Zq0 64 (.t 32) (.t 37)) [32,37],omk 5 38]
def JT:List RI:=[omk 30 7,oo 31 (Bc .add 30 1) [30],omk 7 31]
def zx:RC:=(.post (Sq (So Yr (Kc 29 (Kk [29] .skip) (Kk [7,29] (.exit 2)))) (Sq (Bk 3 (.ops Yq)) (.ops JT))) [.tok 5 105])
def yp:RC:=zx
def JS:List RI:=[om 39 8,om 40 0,oo 41 (Ln 40) [40],oo 42 (Bb .lss 39 41) [39,41]]
def JR:List RI:=[om 45 0,om 46 8,oo 47 (Ia 4 45 46) [45,46],oo 48 (Fa 0 47) [47],oo 49 (Ld 48) [48],om 50 6,oo 51 (Bb .neq 49 50) [49,50]]
def JQ:List RI:=[om 52 6,oo 53 (Bc .neq 52 4) [52]]
def JP:List RI:=[omk 54 5,om 55 0,om 56 8,oo 57 (Ia 4 55 56) [55,56],oo 58 (Lt 4 57) [57],om 59 1,oo 60 (Ca 78 [.t 58,.t 59]) [58,59],oo 61 (.lit 4 [.t 60]) [60],oo 62 (.app Zq0 64 (.t 54) (.t 61)) [54,61],omk 5 62]
def JO:List RI:=[om 63 0,om 64 8,oo 65 (Ia 4 63 64) [63,64],oo 66 (Lt 4 65) [65],oo 67 (Ca 79 [.t 66]) [66],omk 9 67]
def JN:List RI:=[om 68 10,om 69 9,oo 70 (Ln 69) [69],oo 71 (Bb .lss 68 70) [68,70]]
def JM:List RI:=[omk 74 5,om 75 1,om 76 9,om 77 10,oo 78 (Ia 1 76 77) [76,77],oo 79 (Ld 78) [78],oo 80 (Ca 76 [ci 9,ci 3,.t 75,.t 79]) [75,79],oo 81 (.lit 4 [.t 80]) [80],oo 82 (.app Zq0 64 (.t 74) (.t 81)) [74,81],omk 5 82]
def JL:List RI:=[omk 72 10,oo 73 (Bc .add 72 1) [72],omk 10 73]
def zw:RC:=(.post (Sq (So JN (Kc 71 (Kk [71] .skip) (Kk [9,10,71] (.exit 6)))) (Sq (Bk 7 (.ops JM)) (.ops JL))) [.tok 5 105])
def yo:RC:=zw
def JK:List RI:=[omk 43 8,oo 44 (Bc .add 43 1) [43],omk 8 44]
def zu:RC:=(.post (Sq (So JS (Kc 42 (Kk [42] .skip) (Kk [8,42] (.exit 4)))) (Sq (Bk 5 (Sq (So JR (Kc 51 (Kk [51] (.exit 5)) (Kk [51] .skip))) (Sq (So JQ (Kc 53 (Kk [53] (So JP (.exit 5))) (Kk [53] .skip))) (So JO (So Eu (Bk 6 (.pre [.tok 5 105] (.loop yo)))))))) (.ops JK))) [.tok 5 105])
def yn:RC:=zu
def JJ:List RI:=[omk 24 6,oo 25 (Bc .add 24 1) [24],omk 6 25]
def zt:RC:=(.post (Sq (So Yt (Kc 23 (Kk [23] .skip) (Kk [0,1,6,23] (.exit 0)))) (Sq (Bk 1 (Sq (So Ys (Kc 27 (Kk [27] (So l3 (Bk 2 (.pre [.tok 5 105] (.loop yp))))) (Kk [27] .skip))) (So ug (Bk 4 (.pre [.tok 5 105] (.loop yn)))))) (.ops JJ))) [.tok 5 105])
def JI:RC:=zt
def JH:List RI:=[omk 83 5,omk 4 83]
def r31:RC:=(So Yx (Sq (So Yw (Kc 21 (Kk [0,1,21] (So Pq .ret)) (Kk [21] .skip))) (So Yv (Sq (So Yu (Bk 0 (.pre [.tok 5 105] (.loop JI)))) (So JH .ret)))))
def F31:FnC:=⟨r31,84,[.tmp 4],[],[]⟩
def Yp:List RI:=[on 4 (Lt 4 1),oo 5 (Ca 81 [.t 4]) [4],oo 6 (Bc .neq 5 0) [5]]
def Yo:List RI:=[on 7 (Fa 0 1),oo 8 (Ld 7) [7],oo 9 (Ca 82 [(.c (.byt [] .clip)),ci 1,.t 8]) [8],omk 3 9]
def Yn:List RI:=[omk 10 3,on 11 (Fa 2 1),oo 12 (Ld 11) [11],oo 13 (Ca 82 [.t 10,ci 4,.t 12]) [10,12],omk 3 13]
def Ym:List RI:=[omk 14 3,on 15 (Fa 1 1),oo 16 (Ld 15) [15],oo 17 (.s2b (.t 16)) [16],oo 18 (Ca 83 [.t 14,.t 17]) [14,17],omk 3 18]
def Yl:List RI:=[omk 19 3,oo 20 (Fa 3 1) [1],oo 21 (Ld 20) [20],oo 22 (Ca 83 [.t 19,.t 21]) [19,21],omk 2 22]
def r33:RC:=(So uf (Sq (So Yp (Kc 6 (Kk [1,6] (So ue .ret)) (Kk [6] .skip))) (So Yo (So Yn (So Ym (So Yl .ret))))))
def F33:FnC:=⟨r33,23,[.tmp 2],[],[]⟩
def Yk:List RI:=[on 6 (.new (.rc Zq4))]
def Yj:List RI:=[omk 12 0,omk 13 1,oo 14 (.build Zq4 [(0,1,(.t 12)),(1,1,(.t 13)),(4,1,(ci 1099511627776))]) [12,13],on 7 (.new (.rc Zq4)),Sr 7 7 14 [14]]
def Yi:List RI:=[om 15 8,om 16 2,oo 17 (Ln 16) [16],oo 18 (Bb .lss 15 17) [15,17]]
def Yh:List RI:=[om 21 2,om 22 8,oo 23 (Ia 4 21 22) [21,22],oo 24 (Lt 4 23) [23],oo 25 (Ca 33 [.t 24]) [24],omk 9 25]
def Yg:List RI:=[om 26 9,oo 27 (Ln 26) [26],oo 28 (Bc .eql 27 0) [27],omk 29 28,.grp 29 false [(xi 30 29 false (Mv 2)),(xi 31 29 false (Mv 8)),(xi 32 29 false (Ia 4 30 31)),(xi 33 29 false (Fa 0 32)),(xi 34 29 false (Ld 33)),(xi 35 29 false (Bc .eql 34 4))] [30,31,32,33,34],oo 36 (Pt 29 35) [29,35]]
def Yf:List FI:=[Fm 0 37 2,Fm 1 38 8,Fs 2 39 (Ia 4 37 38),Fs 3 40 (Fa 0 39),Fs 4 41 (Ld 40),Fm 5 42 2,Fm 6 43 8,Fs 7 44 (Ia 4 42 43),Fs 8 45 (Fa 1 44),Fs 9 46 (Ld 45),Fm 10 47 2,Fm 11 48 8,Fs 12 49 (Ia 4 47 48),Fs 13 50 (Fa 2 49),Fs 14 51 (Ld 50),Fm 15 52 9,Fz 16 53 (Ca 80 [.t 52]),Fs 17 54 (.build Zq1 [(0,1,(.t 41)),(1,1,(.t 46)),(2,1,(.t 51)),(3,1,(.t 53))]),Fz 18 10 (.new (.rc Zq1)),Fr 19 4 10 54]
def Ye:List RI:=[on 11 (Mc 0)]
def Yd:List FI:=[Fm 0 55 11,Fs 1 56 (Fa 5 7),Fs 2 57 (Ld 56),Fs 3 58 (Ln 57),Fs 4 59 (Bb .lss 55 58),Fm 5 60 59,Fi 6 61 60 true (Fa 5 7),Fi 7 62 60 true (Ld 61),Fi 8 63 60 true (Mv 11),Fi 9 64 60 true (Ia 4 62 63),Fi 10 65 60 true (Lt 4 64),Fi 11 66 60 true (Lt 4 10),Fy 12 67 60 true (Ca 84 [.t 65,.t 66]),Fs 13 68 (Pf 60 67)]
def Yc:List RI:=[omk 69 11,oo 70 (Bc .add 69 1) [69],omk 11 70]
def zr:RC:=(Sq (Sq (.flt [0,0,2,6,15,31,63,127,63,511,1023,63,4095,8191] [] Yd [55,56,57,58,59,60,61,62,63,64,65,66,67]) (Kc 68 (Kk [68] .skip) (Kk [68] (.exit 2)))) (Bk 3 (.ops Yc)))
def ym:RC:=zr
def JG:List FI:=[Fm 0 71 11,Fs 1 72 (Fa 5 7),Fs 2 73 (Ld 72),Fs 3 74 (Ln 73),Fs 4 75 (Bb .lss 71 74),Fm 5 76 75,Fi 6 77 76 true (Lt 4 10),Fi 7 78 76 true (Fa 5 7),Fi 8 79 76 true (Ld 78),Fi 9 80 76 true (Mv 11),Fi 10 81 76 true (Ia 4 79 80),Fi 11 82 76 true (Lt 4 81),Fy 12 83 76 true (Ca 84 [.t 77,.t 82]),Fi 13 84 76 true (.un .not (.t 83)),Fs 14 85 (Pf 76 84)]
def JF:List FI:=[Fs 0 86 (.lit 4 []),Fs 1 87 (Fa 5 7),Fs 2 88 (Ld 87),Fm 3 89 11,Fs 4 90 (.slcL 4 (.t 88) none (some (.t 89)) none),Fs 6 92 (Lt 4 10),Fs 7 93 (.lit 4 [.t 92]),Fs 9 95 (Fa 5 7),Fs 10 96 (Ld 95),Fm 11 97 11,Fs 12 98 (.slcL 4 (.t 96) (some (.t 97)) none none),Fz 5 91 (.app Zq1 56 (.t 86) (.t 90)),Fz 8 94 (.app Zq1 56 (.t 91) (.t 93)),Fz 13 99 (.app Zq1 56 (.t 94) (.t 98)),Fs 14 100 (Fa 5 7),Fr 15 1 100 99]
def JE:List RI:=[omk 19 8,oo 20 (Bc .add 19 1) [19],omk 8 20]
def zq:RC:=(.post (Sq (So Yi (Kc 18 (Kk [18] .skip) (Kk [2,8,18] (.exit 0)))) (Sq (Bk 1 (So Yh (Sq (So Yg (Kc 36 (Kk [9,36] (.exit 1)) (Kk [36] .skip))) (Sq (.fla [0,0,3,7,15,0,0,96,224,480,0,0,3072,7168,15360,0,32768,131071,0,524287] [110] Yf [[0,1,2,3,4,5,6,7,8,9,10,11,12,13,14,15,16,17,18,19],[0,1,2,3,4,5,6,7,8,9,10,11,12,13,14,15,18,16,17,19]] [9,37,38,39,40,41,42,43,44,45,46,47,48,49,50,51,52,53,54]) (So Ye (Sq (Bk 2 (.loop ym)) (Sq (Sq (.flt [0,0,2,6,15,31,63,63,191,63,959,1983,4095,8191,16383] [] JG [71,72,73,74,75,76,77,78,79,80,81,82,83,84]) (Kc 85 (Kk [10,11,85] (.exit 1)) (Kk [85] .skip))) (.flt [0,0,2,0,14,31,0,64,255,0,512,0,3584,8191,16383,32767] [191,194,199] JF [10,11,86,87,88,89,90,91,92,93,94,95,96,97,98,99,100])))))))) (.ops JE))) [.gc [110,191,194,199]])
def lY:RC:=zq
def JD:List RI:=[oo 101 (Lt 7 7) [7],Sr 7 6 101 [101]]
def r34:RC:=(So Yk (So Yj (Sq (So ug (Bk 0 (.loop lY))) (So JD .ret))))
def F34:FnC:=⟨r34,102,[.cell 6 7 true],[0],[]⟩
def Yb:List RI:=[oo 4 (.mov (.c .nilp)) [4]]
def Ya:List RI:=[om 5 0,oo 6 (Ln 5) [5],om 7 1,oo 8 (Bb .gtr 6 7) [6,7]]
def X9:List RI:=[omk 9 0,omk 10 1,oo 11 (.slcL 1 (.t 9) none (some (.t 10)) none) [9,10],omk 0 11]
def X8:List RI:=[omk 12 0,oo 13 (.build [.byt [] .clip,.int .i64 0] [(0,1,(.t 12))]) [12],oo 14 (.box (.t 13)) [13],omk 4 14]
def r35:RC:=(So Yb (Sq (So Ya (Kc 8 (Kk [8] (.ops X9)) (Kk [1,8] .skip))) (So X8 .ret)))
def F35:FnC:=⟨r35,15,[.tmp 4],[],[]⟩
def X7:List RI:=[on 6 (.new (.rc Zq2))]
def X6:List RI:=[omk 13 0,oo 14 (Ca 35 [.t 13,ci 240]) [13],omk 7 14]
def X5:List RI:=[om 15 1,omk 16 2,oo 17 (Ca 18 [.t 16,ci 1000]) [16],oo 18 (.build Zq2 [(0,1,(.t 15)),(1,1,(.t 17))]) [15,17],on 8 (.new (.rc Zq2)),Sr 3 8 18 [18]]
def X4:List RI:=[om 19 7,oo 20 (Ca 37 [.t 19,ci 3]) [19],oo 21 (Bc .eql 20 0) [20]]
def X3:List RI:=[omk 22 7,omk 23 1,oo 24 (Ca 85 [.t 22,.t 23,ci 14]) [22,23],on 25 (Fa 2 8),Sr 1 25 24 [24,25]]
def X2:List RI:=[oo 26 (Lt 3 8) [8],Sr 3 6 26 [26]]
def X1:List FI:=[Fm 0 27 7,Fs 1 28 (.nchk (.t 27)),Fs 2 29 (Fa 0 28),Fs 3 30 (Ld 29),Fm 4 31 7,Fs 5 32 (.nchk (.t 31)),Fs 6 33 (Fa 1 32),Fs 7 34 (Ld 33),Fs 8 35 (.slcL 1 (.t 30) (some (.t 34)) none none),Fz 9 36 (Ca 24 [.t 35]),Fm 10 9 36]
def X0:List RI:=[omk 37 9,om 38 1,oo 39 (Ca 31 [.t 37,.t 38]) [37,38],on 40 (Fa 2 8),Sr 1 40 39 [39,40]]
def XZ:List RI:=[om 41 7,oo 42 (Ca 37 [.t 41,ci 4]) [41],omk 10 42]
def XY:List RI:=[om 43 10,oo 44 (Bc .gtr 43 0) [43]]
def JC:List RI:=[om 47 7,on 48 (Fa 2 8),oo 49 (Ld 48) [48],oo 50 (Ln 49) [49],oo 51 (Ca 37 [.t 47,.t 50]) [47,50],omk 11 51]
def JB:List RI:=[om 52 7,oo 53 (Ca 37 [.t 52,ci 5]) [52]]
def JA:List RI:=[on 73 (Bc .eql 53 0),omk 72 73]
def Jz:List FI:=[Fs 0 74 (.lit 4 []),Fs 1 75 (Fa 2 8),Fs 2 76 (Ld 75),Fm 3 77 11,Fs 4 78 (.slcL 4 (.t 76) none (some (.t 77)) none),Fs 6 80 (Fa 2 8),Fs 7 81 (Ld 80),Fm 8 82 11,Fs 9 83 (Bc .add 82 1),Fs 10 84 (.slcL 4 (.t 81) (some (.t 83)) none none),Fz 5 79 (.app Zq0 64 (.t 74) (.t 78)),Fz 11 85 (.app Zq0 64 (.t 79) (.t 84)),Fs 12 86 (Fa 2 8),Fr 13 1 86 85]
def Jy:List RI:=[on 88 (Bc .eql 53 1),omk 87 88]
def Jx:List FI:=[Fs 0 89 (.lit 4 []),Fs 1 90 (Fa 2 8),Fs 2 91 (Ld 90),Fm 3 92 11,Fs 4 93 (.slcL 4 (.t 91) none (some (.t 92)) none),Fs 6 95 (Fa 2 8),Fs 7 96 (Ld 95),Fm 8 97 11,Fs 9 98 (Ia 4 96 97),Fs 10 99 (Lt 4 98),Fs 11 100 (.lit 4 [.t 99]),Fs 13 102 (Fa 2 8),Fs 14 103 (Ld 102),Fm 15 104 11,Fs 16 105 (.slcL 4 (.t 103) (some (.t 104)) none none),Fz 5 94 (.app Zq0 64 (.t 89) (.t 93)),Fz 12 101 (.app Zq0 64 (.t 94) (.t 100)),Fz 17 106 (.app Zq0 64 (.t 101) (.t 105)),Fs 18 107 (Fa 2 8),Fr 19 1 107 106]
def Jw:List RI:=[on 109 (Bc .eql 53 2),omk 108 109]
def Jv:List RI:=[om 110 7,on 111 (Fa 2 8),oo 112 (Ld 111) [111],oo 113 (Ln 112) [112],oo 114 (Ca 37 [.t 110,.t 113]) [110,113],omk 12 114]
def Ju:List RI:=[on 115 (.lit 4 []),on 116 (Fa 2 8),oo 117 (Ld 116) [116],.own (xs 118 (.app Zq0 64 (.t 115) (.t 117))) [115,117],on 119 (Fa 2 8),Sr 1 119 118 [118,119]]
def Jt:List FI:=[Fs 0 120 (Fa 2 8),Fs 1 121 (Ld 120),Fm 2 122 11,Fs 3 123 (Fa 2 8),Fs 4 124 (Ld 123),Fm 5 125 12,Fs 6 126 (Fa 2 8),Fs 7 127 (Ld 126),Fm 8 128 12,Fs 9 129 (Ia 4 127 128),Fs 10 130 (Lt 4 129),Fs 11 131 (Fa 2 8),Fs 12 132 (Ld 131),Fm 13 133 11,Fs 14 134 (Ia 4 132 133),Fs 15 135 (Lt 4 134),Fs 16 136 (Ia 4 121 122),Fr 17 4 136 130,Fs 18 137 (Ia 4 124 125),Fr 19 4 137 135]
def Js:List RI:=[oo 139 (Bc .eql 53 3) [53],omk 138 139]
def Jr:List FI:=[Fs 0 140 (.lit 4 []),Fs 1 141 (Fa 2 8),Fs 2 142 (Ld 141),Fm 3 143 11,Fs 4 144 (.slcL 4 (.t 142) none (some (.t 143)) none),Fm 6 146 7,Fm 7 147 1,Fs 11 151 (Fa 2 8),Fs 12 152 (Ld 151),Fm 13 153 11,Fs 14 154 (.slcL 4 (.t 152) (some (.t 153)) none none),Fz 5 145 (.app Zq0 64 (.t 140) (.t 144)),Fz 8 148 (Ca 38 [.t 146,.t 147]),Fs 9 149 (.lit 4 [.t 148]),Fz 10 150 (.app Zq0 64 (.t 145) (.t 149)),Fz 15 155 (.app Zq0 64 (.t 150) (.t 154)),Fs 16 156 (Fa 2 8),Fr 17 1 156 155]
def Jq:List FI:=[Fs 0 54 (.lit 4 []),Fs 1 55 (Fa 2 8),Fs 2 56 (Ld 55),Fm 3 57 11,Fs 4 58 (.slcL 4 (.t 56) none (some (.t 57)) none),Fm 6 60 1,Fs 12 66 (Fa 2 8),Fs 13 67 (Ld 66),Fm 14 68 11,Fs 15 69 (.slcL 4 (.t 67) (some (.t 68)) none none),Fz 5 59 (.app Zq0 64 (.t 54) (.t 58)),Fz 7 61 (.newB [(.c (.u8 110)),(.c (.u8 111)),(.c (.u8 116)),(.c (.u8 101))]),Fz 8 62 (.slid (.t 61)),Fz 9 63 (Ca 76 [ci 3,ci 5,.t 60,.t 62]),Fs 10 64 (.lit 4 [.t 63]),Fz 11 65 (.app Zq0 64 (.t 59) (.t 64)),Fz 16 70 (.app Zq0 64 (.t 65) (.t 69)),Fs 17 71 (Fa 2 8),Fr 18 1 71 70]
def Jp:List RI:=[omk 45 10,oo 46 (Bc .sub 45 1) [45],omk 10 46]
def zp:RC:=(.post (Sq (So XY (Kc 44 (Kk [44] .skip) (Kk [1,7,10,44] (.exit 0)))) (Sq (Bk 1 (So JC (So JB (Bk 2 (So JA (Kc 72 (Kk [53,72] (.flt [0,0,2,0,14,31,0,64,0,256,960,2047,4095,8191] [179,185] Jz [11,74,75,76,77,78,79,80,81,82,83,84,85,86])) (Kk [72] (So Jy (Kc 87 (Kk [53,87] (.flt [0,0,2,0,14,31,0,64,0,448,960,1984,4095,0,8192,0,57344,131071,262143,524287] [194,201,206] Jx [11,89,90,91,92,93,94,95,96,97,98,99,100,101,102,103,104,105,106,107])) (Kk [87] (So Jw (Kc 108 (Kk [53,108] (So Jv (So Ju (.flt [0,1,0,0,8,0,0,64,0,448,960,0,2048,0,14336,30720,65479,131015,262143,524287] [] Jt [11,12,120,121,122,123,124,125,126,127,128,129,130,131,132,133,134,135,136,137])))) (Kk [108] (So Js (Kc 138 (Kk [138] (.flt [0,0,2,0,14,31,0,0,255,511,1023,0,2048,0,14336,32767,65535,131071] [245,250,255] Jr [11,140,141,142,143,144,145,146,147,148,149,150,151,152,153,154,155,156])) (Kk [138] (.fla [0,0,2,0,14,31,0,0,128,511,1023,2047,0,4096,0,28672,65535,131071,262143] [159,161,165,170] Jq [[0,1,2,3,4,6,12,13,14,15,5,7,8,9,10,11,16,17,18],[0,1,2,3,4,6,12,13,14,15,7,5,8,9,10,11,16,17,18],[0,1,2,3,4,6,12,13,14,15,7,8,5,9,10,11,16,17,18]] [11,54,55,56,57,58,59,60,61,62,63,64,65,66,67,68,69,70,71]))))))))))))))))) (.ops Jp))) [.pubo 218,.gc [159,165,170,179,185,194,201,206,218,245,250,255]])
def yl:RC:=zp
def Jo:List RI:=[oo 157 (Lt 3 8) [8],Sr 3 6 157 [157]]
def r36:RC:=(So X7 (So X6 (So X5 (Sq (So X4 (Kc 21 (Kk [21] (So X3 (So X2 .ret))) (Kk [21] .skip))) (Sq (.flt [0,1,3,7,0,16,48,112,255,511,1023] [] X1 [27,28,29,30,31,32,33,34,35,36]) (So X0 (Sq (So XZ (Bk 0 (.loop yl))) (So Jo .ret))))))))
def F36:FnC:=⟨r36,158,[.cell 6 3 true],[],[]⟩
def XX:List FI:=[Fm 0 5 0,Fs 1 6 (.nchk (.t 5)),Fs 2 7 (Fa 1 6),Fs 3 8 (Ld 7),Fm 4 9 0,Fs 5 10 (.nchk (.t 9)),Fs 6 11 (Fa 0 10),Fs 7 12 (Ld 11),Fs 8 13 (Ln 12),Fs 9 14 (Bb .geq 8 13)]
def XW:List RI:=[om 15 0,on 16 (.nchk (.t 15)),oo 17 (Fa 1 16) [16],oo 18 (Ld 17) [17],oo 19 (Bc .add 18 1) [18],oo 20 (.nchk (.t 15)) [15],oo 21 (Fa 1 20) [20],Sr 1 21 19 [19,21]]
def XV:List FI:=[Fm 0 22 0,Fs 1 23 (.nchk (.t 22)),Fs 2 24 (Fa 0 23),Fs 3 25 (Ld 24),Fm 4 26 0,Fs 5 27 (.nchk (.t 26)),Fs 6 28 (Fa 1 27),Fs 7 29 (Ld 28),Fs 8 30 (Bc .sub 29 1),Fs 9 31 (Ia 1 25 30),Fs 10 32 (Ld 31),Fs 11 33 (.toInt .i64 (.t 32)),Fm 12 34 1,Fs 13 35 (Bb .rem 33 34),Fm 14 4 35]
def r37:RC:=(So rb (Sq (Sq (.flt [0,1,3,7,0,16,48,112,240,511] [] XX [5,6,7,8,9,10,11,12,13]) (Kc 14 (Kk [0,1,14] (So ra .ret)) (Kk [14] .skip))) (So XW (Sq (.flt [0,1,3,7,0,16,48,112,240,511,1023,2047,0,8191,16383] [] XV [0,1,22,23,24,25,26,27,28,29,30,31,32,33,34,35]) .ret))))
def F37:FnC:=⟨r37,36,[.tmp 4],[],[]⟩
def XU:List RI:=[on 4 (.new (.rc Zq0))]
def XT:List RI:=[om 9 0,oo 10 (Ca 86 [.t 9]) [9],omk 5 10]
def XS:List RI:=[om 11 0,oo 12 (Ca 37 [.t 11,ci 4]) [11],oo 13 (Bc .eql 12 3) [12]]
def XR:List RI:=[omk 14 5,om 15 0,oo 16 (Ca 37 [.t 15,ci 2]) [15],oo 17 (.slcL 1 (.t 14) none (some (.t 16)) none) [14,16],omk 5 17]
def XQ:List RI:=[om 18 0,oo 19 (Ca 37 [.t 18,ci 5]) [18],oo 20 (.bin .add (ci 1) (.t 19)) [19],omk 6 20]
def XP:List RI:=[on 21 (.lit 1 [ci 0,ci 0,ci 4,ci 8,ci 9,ci 9,ci 1,ci 11]),om 22 0,oo 23 (Ca 37 [.t 22,ci 8]) [22],oo 24 (Ia 1 21 23) [21,23],oo 25 (Ld 24) [24],omk 7 25]
def XO:List RI:=[om 26 6,oo 27 (Bc .eql 26 2) [26],omk 28 27,.grp 28 true [(xi 29 28 true (Mv 0)),(xi 30 28 true (Ca 37 [.t 29,ci 4])),(xi 31 28 true (Bc .gtr 30 0))] [29,30],oo 32 (Pf 28 31) [28,31]]
def XN:List RI:=[on 33 (.litB [(.c (.u8 0)),(.c (.u8 0)),(.c (.u8 0)),(.c (.u8 0))]),omk 5 33]
def XM:List RI:=[om 34 0,oo 35 (Ca 37 [.t 34,ci 8]) [34],omk 7 35]
def XL:List RI:=[omk 36 7,om 37 6,om 38 1,omk 39 5,oo 40 (Ca 76 [.t 36,.t 37,.t 38,.t 39]) [36,37,38,39],on 8 (.new (.rc Zq0)),Sr 4 8 40 [40]]
def Jn:List RI:=[om 41 6,oo 42 (Bc .neq 41 5) [41],omk 43 42,.grp 43 true [(xi 44 43 true (Mv 0)),(xi 45 43 true (Ca 37 [.t 44,ci 4])),(xi 46 43 true (Bc .eql 45 3))] [44,45],oo 47 (Pf 43 46) [43,46]]
def Jm:List RI:=[omk 48 1,omk 49 0,oo 50 (Ca 37 [.t 49,ci 4]) [49],oo 51 (.toInt .u8 (.t 50)) [50],omk 52 6,oo 53 (.toInt .u8 (.t 52)) [52],oo 54 (.litB [.t 51,.t 53]) [51,53],oo 55 (Ca 87 [.t 48,.t 54]) [48,54],on 56 (Fa 2 8),Sr 1 56 55 [55,56]]
def Jl:List RI:=[oo 57 (Lt 4 8) [8],Sr 4 4 57 [57]]
def r38:RC:=(So XU (So XT (Sq (So XS (Kc 13 (Kk [13] (.ops XR)) (Kk [13] .skip))) (So XQ (So XP (Sq (So XO (Kc 32 (Kk [5,7,32] (So XN (.ops XM))) (Kk [32] .skip))) (So XL (Sq (So Jn (Kc 47 (Kk [47] (.ops Jm)) (Kk [0,1,6,47] .skip))) (So Jl .ret)))))))))
def F38:FnC:=⟨r38,58,[.cell 4 4 true],[],[]⟩
def XK:List RI:=[oo 3 (.box (.t 1)) [1],oo 4 (Mb false) [4]]
def XJ:List RI:=[on 6 (Fa 1 3),oo 7 (Ld 6) [6],oo 8 (Bc .eql 7 5) [7]]
def XI:List RI:=[on 9 (Lt 4 3),oo 10 (Ca 88 [.t 9]) [9],omk 5 10]
def XH:List RI:=[om 12 5,oo 13 (Bc .eql 12 0) [12],omk 14 13,.grp 14 false [(xi 15 14 false (Mv 5)),(xi 16 14 false (Mv 0)),(xi 17 14 false (.nchk (.t 16))),(xi 18 14 false (Fa 0 17)),(xi 19 14 false (Ld 18)),(xi 20 14 false (Bb .lss 15 19))] [15,16,17,18,19],oo 21 (Pt 14 20) [14,20],omk 22 21,.grp 22 false [(xi 23 22 false (Mv 5)),(xi 24 22 false (Bc .gtr 23 1)),(xi 25 22 false (Mv 24))] [23,24],.grp 25 true [(xi 26 25 true (Mv 0)),(xi 27 25 true (.nchk (.t 26))),(xi 28 25 true (Fa 2 27)),(xi 29 25 true (.iaddrA 6 1 (.t 28) (ci 1))),(xi 30 25 true (Ld 29)),(xi 31 25 true (.un .not (.t 30)))] [26,27,28,29,30],.grp 22 false [(xi 32 22 false (Pf 25 31))] [25,31],oo 33 (Pt 22 32) [22,32],omk 11 33]
def XG:List FI:=[Fm 0 35 5,Fs 1 36 (Bc .eql 35 3),Fm 2 37 36,Fi 3 38 37 true (Fa 0 3),Fi 4 39 37 true (Ld 38),Fi 5 40 37 true (Mv 0),Fi 6 41 37 true (.nchk (.t 40)),Fi 7 42 37 true (Fa 1 41),Fi 8 43 37 true (Ld 42),Fi 9 44 37 true (Bb .neq 39 43),Fs 10 45 (Pf 37 44),Fm 11 34 45]
def XF:List RI:=[om 47 5,oo 48 (Bc .gtr 47 3) [47],omk 49 48,.grp 49 true [(xi 50 49 true (Mv 0)),(xi 51 49 true (.nchk (.t 50))),(xi 52 49 true (Fa 1 51)),(xi 53 49 true (Ld 52)),(xi 54 49 true (Bc .neq 53 8))] [50,51,52,53],oo 55 (Pf 49 54) [49,54],omk 46 55]
def Jk:List RI:=[om 56 5,oo 57 (Bc .eql 56 3) [56]]
def Jj:List RI:=[om 58 0,on 59 (.nchk (.t 58)),oo 60 (Fa 1 59) [59],oo 61 (Ld 60) [60],oo 62 (Bc .add 61 1) [61],oo 63 (.nchk (.t 58)) [58],oo 64 (Fa 1 63) [63],Sr 1 64 62 [62,64]]
def Ji:List FI:=[Fm 0 65 0,Fm 1 66 0,Fm 2 67 5,Fm 3 68 5,Fs 4 69 (.nchk (.t 65)),Fs 5 70 (Fa 0 69),Fs 7 71 (.nchk (.t 66)),Fs 8 72 (Fa 2 71),Fr 6 1 70 68,Fs 9 73 (.iaddrA 6 1 (.t 72) (.t 67)),⟨10,false,⟨none,none,.store 1 (.t 73) (.c (.bool true))⟩⟩]
def r39:RC:=(So XK (Sq (So XJ (Kc 8 (Kk [0,3,8] (So o3 .ret)) (Kk [8] .skip))) (So XI (Sq (Bk 0 (So XH (Kc 11 (Kk [0,3,5,11] (So iO .ret)) (Kk [11] (Sq (.flt [0,1,3,7,15,7,39,103,231,511,1023,2047] [] XG [3,35,36,37,38,39,40,41,42,43,44,45]) (Kc 34 (Kk [0,5,34] (So iO .ret)) (Kk [34] (So XF (Kc 46 (Kk [0,5,46] (So iO .ret)) (Kk [46] .skip)))))))))) (Sq (So Jk (Kc 57 (Kk [57] (.ops Jj)) (Kk [57] .skip))) (Sq (.flt [0,0,0,0,9,25,57,2,130,511,1023] [] Ji [0,5,65,66,67,68,69,70,71,72,73]) (So o3 .ret)))))))
def F39:FnC:=⟨r39,74,[.tmp 4],[],[]⟩
def Pn:List RI:=[oo 2 (.box (.t 0)) [0],on 4 (.new (.rc [.int .i64 0,.int .i64 0])),oo 5 (Mb false) [5]]
def XE:List RI:=[on 9 (Fa 1 2),oo 10 (Ld 9) [9],oo 11 (Bc .eql 10 5) [10],omk 12 11,.grp 12 false [(xi 13 12 false (Fa 1 2)),(xi 14 12 false (Ld 13)),(xi 15 12 false (Bc .eql 14 2)),(xi 16 12 false (Mv 15))] [13,14,15],.grp 16 true [(xi 17 16 true (Lt 4 2)),(xi 18 16 true (Ca 50 [.t 17]))] [17],.grp 12 false [(xi 19 12 false (Pf 16 18))] [16,18],oo 20 (Pt 12 19) [12,19]]
def XD:List RI:=[on 21 (.build [.int .i64 0,.int .i64 0] [(0,1,(ci (-1))),(1,1,(ci (-1)))]),Sr 2 4 21 [21],on 5 (Mb true)]
def XC:List RI:=[omk 22 1,on 23 (Ln 22),on 24 (Mc 0)]
def XB:List RI:=[on 25 (Bb .lss 24 23)]
def XA:List RI:=[om 26 24,on 27 (Ia 7 22 24),oo 28 (Lt 7 27) [27],on 7 (.new (.rc Zq4)),omk 6 26,Sr 7 7 28 [28]]
def Xz:List RI:=[oo 29 (Lt 7 7) [7],on 30 (Lt 4 2),oo 31 (Ca 15 [.t 29,.t 30]) [29,30],omk 8 31]
def Xy:List RI:=[om 32 8,oo 33 (Bc .geq 32 0) [32]]
def Xx:List RI:=[omk 34 6,omk 35 8,oo 36 (.build [.int .i64 0,.int .i64 0] [(0,1,(.t 34)),(1,1,(.t 35))]) [34,35],Sr 2 4 36 [36],on 5 (Mb true)]
def Xw:List RI:=[oo 37 (Bc .add 24 1) [24],omk 24 37]
def zo:RC:=(.post (So XB (Sq (Kc 25 (Kk [25] .skip) (Kk [2,22,23,24,25] (.exit 0))) (Sq (Bk 1 (So XA (So Xz (So Xy (Kc 33 (Kk [2,22,23,24,33] (So Xx .ret)) (Kk [6,8,33] .skip)))))) (.ops Xw)))) [.gc [107]])
def ud:RC:=zo
def yk:List RI:=[on 38 (.build [.int .i64 0,.int .i64 0] []),Sr 2 4 38 [38],on 5 (Mb false)]
def r40:RC:=(So Pn (Sq (So XE (Kc 20 (Kk [1,2,20] (So XD .ret)) (Kk [20] .skip))) (Sq (So XC (Bk 0 (.loop ud))) (So yk .ret))))
def F40:FnC:=⟨r40,39,[.cell 4 2 true,.tmp 5],[],[]⟩
def Xv:List RI:=[on 8 (Fa 1 2),oo 9 (Ld 8) [8],oo 10 (Bc .eql 9 5) [9],omk 11 10,.grp 11 false [(xi 12 11 false (Fa 1 2)),(xi 13 11 false (Ld 12)),(xi 14 11 false (Bc .eql 13 2)),(xi 15 11 false (Mv 14))] [12,13,14],.grp 15 true [(xi 16 15 true (Lt 4 2)),(xi 17 15 true (Ca 57 [.t 16]))] [16],.grp 11 false [(xi 18 11 false (Pf 15 17))] [15,17],oo 19 (Pt 11 18) [11,18]]
def Xu:List RI:=[on 20 (.build [.int .i64 0,.int .i64 0] [(0,1,(ci (-1))),(1,1,(ci (-1)))]),Sr 2 4 20 [20],on 5 (Mb true)]
def Xt:List RI:=[om 21 6,om 22 1,oo 23 (Ln 22) [22],oo 24 (Bb .lss 21 23) [21,23]]
def Xs:List FI:=[Fm 0 27 1,Fm 1 28 6,Fs 2 29 (Ia 7 27 28),Fs 3 30 (Lt 7 29),Fs 4 31 (Lt 4 2),Fz 5 32 (Ca 19 [.t 30,.t 31]),Fm 6 7 32]
def Xr:List RI:=[om 33 7,oo 34 (Bc .geq 33 0) [33]]
def Xq:List RI:=[omk 35 6,omk 36 7,oo 37 (.build [.int .i64 0,.int .i64 0] [(0,1,(.t 35)),(1,1,(.t 36))]) [35,36],Sr 2 4 37 [37],on 5 (Mb true)]
def Xp:List RI:=[omk 25 6,oo 26 (Bc .add 25 1) [25],omk 6 26]
def PR:RC:=(Sq (So Xt (Kc 24 (Kk [24] .skip) (Kk [1,2,6,24] (.exit 0)))) (Sq (Bk 1 (Sq (.flt [0,0,3,7,0,31,63] [] Xs [27,28,29,30,31,32]) (So Xr (Kc 34 (Kk [1,2,34] (So Xq .ret)) (Kk [7,34] .skip))))) (.ops Xp)))
def Eo:RC:=PR
def r41:RC:=(So Pn (Sq (So Xv (Kc 19 (Kk [1,2,19] (So Xu .ret)) (Kk [19] .skip))) (Sq (So lD (Bk 0 (.loop Eo))) (So yk .ret))))
def F41:FnC:=⟨r41,39,[.cell 4 2 true,.tmp 5],[],[]⟩
def og:List RI:=[oo 1 (.box (.t 0)) [0],oo 2 (Mc 0) [2]]
def Xo:List RI:=[on 4 (Fa 1 1),oo 5 (Ld 4) [4],oo 6 (Bc .eql 5 5) [5],omk 3 6]
def jH:List RI:=[on 2 (Mc 0)]
def Xn:List RI:=[on 8 (Fa 1 1),oo 9 (Ld 8) [8],oo 10 (Bc .eql 9 1) [9],omk 11 10,.grp 11 true [(xi 12 11 true (Fa 0 1)),(xi 13 11 true (Ld 12)),(xi 14 11 true (Bc .eql 13 0))] [12,13],oo 15 (Pf 11 14) [11,14],omk 7 15]
def fI:List RI:=[on 2 (Mc 1)]
def Xm:List RI:=[on 17 (Fa 1 1),oo 18 (Ld 17) [17],oo 19 (Bc .eql 18 1) [18],omk 20 19,.grp 20 true [(xi 21 20 true (Fa 0 1)),(xi 22 20 true (Ld 21)),(xi 23 20 true (Bc .eql 22 4))] [21,22],oo 24 (Pf 20 23) [20,23],omk 16 24]
def Pm:List RI:=[on 2 (Mc 2)]
def Xl:List RI:=[on 26 (Fa 1 1),oo 27 (Ld 26) [26],oo 28 (Bc .eql 27 2) [27],omk 29 28,.grp 29 true [(xi 30 29 true (Fa 0 1)),(xi 31 29 true (Ld 30)),(xi 32 29 true (Bc .leq 31 7))] [30,31],oo 33 (Pf 29 32) [29,32],omk 25 33]
def Pl:List RI:=[on 2 (Mc 3)]
def Xk:List RI:=[on 35 (Fa 1 1),oo 36 (Ld 35) [35],oo 37 (Bc .eql 36 1) [36],omk 38 37,.grp 38 true [(xi 39 38 true (Fa 0 1)),(xi 40 38 true (Ld 39)),(xi 41 38 true (Bc .eql 40 8))] [39,40],oo 42 (Pf 38 41) [38,41],omk 34 42]
def iY:List RI:=[on 2 (Mc 4)]
def Jh:List RI:=[on 44 (Fa 1 1),oo 45 (Ld 44) [44],oo 46 (Bc .eql 45 3) [45],omk 47 46,.grp 47 true [(xi 48 47 true (Fa 0 1)),(xi 49 47 true (Ld 48)),(xi 50 47 true (Bc .eql 49 9))] [1,48,49],oo 51 (Pf 47 50) [47,50],omk 43 51]
def yj:List RI:=[on 2 (Mc 5)]
def ow:List RI:=[on 2 (Mc (-1))]
def r42:RC:=(So og (Sq (Bk 0 (So Xo (Kc 3 (Kk [1,3] (So jH .ret)) (Kk [3] (So Xn (Kc 7 (Kk [1,7] (So fI .ret)) (Kk [7] (So Xm (Kc 16 (Kk [1,16] (So Pm .ret)) (Kk [16] (So Xl (Kc 25 (Kk [1,25] (So Pl .ret)) (Kk [25] (So Xk (Kc 34 (Kk [1,34] (So iY .ret)) (Kk [34] (So Jh (Kc 43 (Kk [43] (So yj .ret)) (Kk [43] .skip))))))))))))))))))) (So ow .ret)))
def F42:FnC:=⟨r42,52,[.tmp 2],[],[]⟩
def Xj:List FI:=[Fm 0 17 0,Fm 1 18 5,Fs 2 19 (Ia 2 17 18),Fs 3 20 (Lt 2 19),Fm 4 21 1,Fm 5 22 5,Fs 6 23 (Ia 2 21 22),Fs 7 24 (Lt 2 23),Fs 8 25 (.eqS true [1,1] (.t 20) (.t 24))]
def PQ:RC:=(Sq (So Es (Kc 14 (Kk [14] .skip) (Kk [0,1,5,14] (.exit 0)))) (Sq (Bk 1 (Sq (.flt [0,0,3,7,0,0,48,112,255] [] Xj [17,18,19,20,21,22,23,24]) (Kc 25 (Kk [0,1,5,25] (So iO .ret)) (Kk [25] .skip)))) (.ops Er)))
def Pk:RC:=PQ
def r43:RC:=(So lE (Sq (So Et (Kc 10 (Kk [0,1,10] (So iO .ret)) (Kk [10] .skip))) (Sq (So ml (Bk 0 (.loop Pk))) (So o3 .ret))))
def F43:FnC:=⟨r43,26,[.tmp 4],[],[]⟩
def Xi:List RI:=[on 9 (Fa 0 1),oo 10 (Ld 9) [9],oo 11 (Ca 89 [.t 10]) [10],oo 12 (.un .not (.t 11)) [11],omk 8 12]
def q9:List RI:=[on 2 (Mc 43)]
def Xh:List RI:=[on 14 (Fa 2 1),oo 15 (Ld 14) [14],oo 16 (Bc .lss 15 0) [15],omk 17 16,.grp 17 false [(xi 18 17 false (Fa 2 1)),(xi 19 17 false (Ld 18)),(xi 20 17 false (Fa 1 1)),(xi 21 17 false (Ld 20)),(xi 22 17 false (Bb .gtr 19 21))] [18,19,20,21],oo 23 (Pt 17 22) [17,22],omk 24 23,.grp 24 false [(xi 25 24 false (Fa 1 1)),(xi 26 24 false (Ld 25)),(xi 27 24 false (Bc .gtr 26 1000000))] [25,26],oo 28 (Pt 24 27) [24,27],omk 29 28,.grp 29 false [(xi 30 29 false (Fa 3 1)),(xi 31 29 false (Ld 30)),(xi 32 29 false (Bc .lss 31 0))] [30,31],oo 33 (Pt 29 32) [29,32],omk 34 33,.grp 34 false [(xi 35 34 false (Fa 3 1)),(xi 36 34 false (Ld 35)),(xi 37 34 false (Fa 4 1)),(xi 38 34 false (Ld 37)),(xi 39 34 false (Bb .geq 36 38))] [35,36,37,38],oo 40 (Pt 34 39) [34,39],omk 41 40,.grp 41 false [(xi 42 41 false (Fa 4 1)),(xi 43 41 false (Ld 42)),(xi 44 41 false (Bc .gtr 43 1099511627776))] [42,43],oo 45 (Pt 41 44) [41,44],omk 13 45]
def Xg:List RI:=[on 47 (Fa 5 1),oo 48 (Ld 47) [47],oo 49 (Ln 48) [48],oo 50 (Bc .gtr 49 16) [49],omk 51 50,.grp 51 false [(xi 52 51 false (Fa 6 1)),(xi 53 51 false (Ld 52)),(xi 54 51 false (Ln 53)),(xi 55 51 false (Bc .gtr 54 8))] [52,53,54],oo 56 (Pt 51 55) [51,55],omk 46 56]
def Xf:List RI:=[on 57 (Fa 5 1),oo 58 (Ld 57) [57],on 59 (Ln 58),on 60 (Mc 0)]
def Xe:List RI:=[on 61 (Bb .lss 60 59)]
def Xd:List RI:=[om 62 60,on 63 (Ia 4 58 60),oo 64 (Lt 4 63) [63],on 4 (.new (.rc Zq1)),omk 3 62,Sr 4 4 64 [64]]
def Jg:List RI:=[on 66 (Fa 0 4),oo 67 (Ld 66) [66],oo 68 (Bc .lss 67 1) [67],omk 69 68,.grp 69 false [(xi 70 69 false (Fa 0 4)),(xi 71 69 false (Ld 70)),(xi 72 69 false (Bc .gtr 71 3))] [70,71],oo 73 (Pt 69 72) [69,72],omk 74 73,.grp 74 false [(xi 75 74 false (Fa 2 4)),(xi 76 74 false (Ld 75)),(xi 77 74 false (Bc .lss 76 0))] [75,76],oo 78 (Pt 74 77) [74,77],omk 79 78,.grp 79 false [(xi 80 79 false (Fa 2 4)),(xi 81 79 false (Ld 80)),(xi 82 79 false (Bc .gtr 81 1000000))] [80,81],oo 83 (Pt 79 82) [79,82],omk 84 83,.grp 84 false [(xi 85 84 false (Fa 3 4)),(xi 86 84 false (Ld 85)),(xi 87 84 false (Ln 86)),(xi 88 84 false (Bc .neq 87 32))] [85,86,87],oo 89 (Pt 84 88) [84,88],omk 65 89]
def Jf:List RI:=[on 91 (Fa 1 4),oo 92 (Ld 91) [91],oo 93 (Ca 89 [.t 92]) [92],oo 94 (.un .not (.t 93)) [93],omk 90 94]
def Je:List FI:=[Fm 0 96 3,Fs 1 97 (Bc .gtr 96 0),Fm 2 98 97,Fi 3 99 98 true (Fa 5 1),Fi 4 100 98 true (Ld 99),Fi 5 101 98 true (Mv 3),Fi 6 102 98 true (Bc .sub 101 1),Fi 7 103 98 true (Ia 4 100 102),Fi 8 104 98 true (Lt 4 103),Fi 9 105 98 true (Lt 4 4),Fy 10 106 98 true (Ca 72 [.t 104,.t 105]),Fi 11 107 98 true (Bc .geq 106 0),Fs 12 108 (Pf 98 107),Fm 13 95 108]
def uc:List RI:=[on 2 (Mc 41)]
def Jd:List RI:=[oo 109 (Bc .add 60 1) [60],omk 60 109]
def zm:RC:=(.post (So Xe (Sq (Kc 61 (Kk [61] .skip) (Kk [58,59,60,61] (.exit 1))) (Sq (Bk 2 (So Xd (Bk 3 (So Jg (Kc 65 (Kk [1,3,4,58,59,60,65] (So fI .ret)) (Kk [65] (So Jf (Kc 90 (Kk [1,3,4,58,59,60,90] (So q9 .ret)) (Kk [90] (Sq (.flt [0,1,3,7,15,7,39,127,255,7,1023,2047,4095,8191] [] Je [3,4,96,97,98,99,100,101,102,103,104,105,106,107,108]) (Kc 95 (Kk [1,58,59,60,95] (So uc .ret)) (Kk [95] .skip)))))))))))) (.ops Jd)))) [.gc [104]])
def lX:RC:=zm
def Jc:List RI:=[oo 110 (Fa 6 1) [1],oo 111 (Ld 110) [110],on 112 (Ln 111),on 113 (Mc 0)]
def Jb:List RI:=[on 114 (Bb .lss 113 112)]
def Ja:List RI:=[on 115 (Ia 4 111 113),oo 116 (Lt 4 115) [115],on 6 (.new (.rc Zq3)),Sr 4 6 116 [116]]
def I9:List RI:=[oo 117 (Lt 4 6) [6],oo 118 (Ca 90 [.t 117]) [117],omk 7 118]
def I8:List RI:=[om 119 7,oo 120 (Bc .neq 119 0) [119]]
def I7:List RI:=[omk 121 7,omk 2 121]
def I6:List RI:=[oo 122 (Bc .add 113 1) [113],omk 113 122]
def zl:RC:=(.post (So Jb (Sq (Kc 114 (Kk [114] .skip) (Kk [111,112,113,114] (.exit 4))) (Sq (Bk 5 (So Ja (So I9 (So I8 (Kc 120 (Kk [111,112,113,120] (So I7 .ret)) (Kk [7,120] .skip)))))) (.ops I6)))) [.gc [106]])
def ub:RC:=zl
def r44:RC:=(So og (Sq (Bk 0 (So Xi (Kc 8 (Kk [1,8] (So q9 .ret)) (Kk [8] (So Xh (Kc 13 (Kk [1,13] (So fI .ret)) (Kk [13] (So Xg (Kc 46 (Kk [1,46] (So iY .ret)) (Kk [46] .skip)))))))))) (Sq (So Xf (Bk 1 (.loop lX))) (Sq (So Jc (Bk 4 (.loop ub))) (So jH .ret)))))
def F44:FnC:=⟨r44,123,[.tmp 2],[],[]⟩
def Pj:List RI:=[om 6 0,oo 7 (Ln 6) [6],on 8 (Mc 0)]
def En:List RI:=[on 9 (Bb .lss 8 7)]
def Pi:List RI:=[om 10 8,omk 5 10]
def Ph:List RI:=[om 11 1,om 12 0,om 13 5,oo 14 (Ia 4 12 13) [12,13],oo 15 (Lt 4 14) [14],oo 16 (.call (.t 11) [.t 15]) [11,15]]
def Pg:List RI:=[omk 17 5,omk 4 17]
def Pe:List RI:=[oo 18 (Bc .add 8 1) [8],omk 8 18]
def PP:RC:=(So En (Sq (Kc 9 (Kk [9] .skip) (Kk [0,1,7,8,9] (.exit 0))) (Sq (Bk 1 (So Pi (So Ph (Kc 16 (Kk [0,1,7,8,16] (So Pg .ret)) (Kk [5,16] .skip))))) (.ops Pe))))
def Pd:RC:=PP
def r45:RC:=(So rb (Sq (So Pj (Bk 0 (.loop Pd))) (So mn .ret)))
def F45:FnC:=⟨r45,19,[.tmp 4],[],[]⟩
def Pc:List RI:=[oo 2 (.box (.t 0)) [0],oo 3 (Mb false) [3]]
def Xc:List FI:=[Fs 0 4 (Fa 0 1),Fs 1 5 (Ld 4),Fs 2 6 (Fa 0 2),Fs 3 7 (Ld 6),Fz 4 8 (Ca 47 [.t 7]),Fs 5 9 (Bb .eql 5 8),Fm 6 10 9,Fi 7 11 10 true (Fa 2 1),Fi 8 12 10 true (Ld 11),Fi 9 13 10 true (Ln 12),Fi 10 14 10 true (Bc .gtr 13 1),Fs 11 15 (Pf 10 14),Fm 12 16 15,Fi 13 17 16 true (Fa 2 1),Fi 14 18 16 true (Ld 17),Fi 15 19 16 true (.iaddrL 1 (.t 18) (ci 1)),Fi 16 20 16 true (Ld 19),Fi 17 21 16 true (Fa 3 2),Fi 18 22 16 true (Ld 21),Fy 19 23 16 true (Ca 48 [.t 20,.t 22]),Fs 20 24 (Pf 16 23),Fm 21 25 24,Fi 22 26 25 true (Fa 3 1),Fi 23 27 25 true (Ld 26),Fi 24 28 25 true (.b2s (.t 27)),Fi 25 29 25 true (Fa 1 2),Fi 26 30 25 true (Ld 29),Fi 27 31 25 true (.bin .add (.t 30) (.c (.str [32]))),Fi 28 32 25 true (Fa 2 2),Fi 29 33 25 true (Ld 32),Fy 30 34 25 true (Ca 49 [.t 33]),Fi 31 35 25 true (Bb .add 31 34),Fi 32 36 25 true (Bb .eql 28 35),Fs 33 37 (Pf 25 36),Fm 34 3 37]
def r46:RC:=(So Pc (Sq (.flt [0,1,0,4,12,31,63,127,255,511,1023,2047,4095,8191,16383,32767,65535,8191,139263,524287,1048575,2097151,4194303,8388607,16777215,4194303,37748735,104857599,4194303,272629759,809500671,2118123519,4294967295,8589934591,17179869183] [] Xc [1,2,4,5,6,7,8,9,10,11,12,13,14,15,16,17,18,19,20,21,22,23,24,25,26,27,28,29,30,31,32,33,34,35,36,37]) .ret))
def F46:FnC:=⟨r46,38,[.tmp 3],[],[]⟩
def Xb:List RI:=[om 3 0,oo 4 (Bc .lss 3 0) [3],omk 5 4,.grp 5 false [(xi 6 5 false (Mv 0)),(xi 7 5 false (Bc .geq 6 5))] [6],oo 8 (Pt 5 7) [5,7]]
def Xa:List RI:=[omk 9 0,oo 10 (.iaddrA 5 1 (.c (.pp pu)) (.t 9)) [9],oo 11 (Ld 10) [10],omk 2 11]
def r47:RC:=(So mj (Sq (So Xb (Kc 8 (Kk [0,8] (So ow .ret)) (Kk [8] .skip))) (So Xa .ret)))
def F47:FnC:=⟨r47,12,[.tmp 2],[],[]⟩
def W9:List RI:=[omk 5 0,oo 6 (.b2s (.t 5)) [5],omk 7 1,oo 8 (.b2s (.t 7)) [7],oo 9 (Bb .eql 6 8) [6,8],omk 4 9]
def r48:RC:=(So lE (So W9 .ret))
def F48:FnC:=⟨r48,10,[.tmp 4],[],[]⟩
def Em:List RI:=[oo 2 (.mov (.c (.str []))) [2]]
def W8:List RI:=[omk 3 0,oo 4 (Ca 91 [.t 3]) [3],omk 2 4]
def r49:RC:=(So Em (So W8 .ret))
def F49:FnC:=⟨r49,5,[.tmp 2],[],[]⟩
def Pb:List RI:=[oo 1 (.box (.t 0)) [0],oo 2 (Mb false) [2]]
def W7:List RI:=[on 8 (Fa 1 1),oo 9 (Ld 8) [8],oo 10 (Bc .neq 9 1) [9],omk 11 10,.grp 11 true [(xi 12 11 true (Fa 1 1)),(xi 13 11 true (Ld 12)),(xi 14 11 true (Bc .neq 13 5))] [12,13],oo 15 (Pf 11 14) [11,14],omk 3 15]
def W6:List RI:=[on 16 (Fa 1 1),oo 17 (Ld 16) [16]]
def W5:List RI:=[on 19 (Bc .eql 17 1),omk 18 19]
def ua:List RI:=[on 2 (Mb true)]
def W4:List RI:=[on 21 (Bc .eql 17 2),omk 20 21]
def W3:List FI:=[Fs 0 22 (Fa 3 1),Fs 1 23 (Ld 22),Fz 2 24 (.mkB (ci 4) (ci 4)),Fz 3 25 (Ca 48 [.t 23,.t 24]),Fs 4 26 (.un .not (.t 25))]
def kE:List RI:=[on 2 (Mb false)]
def W2:List RI:=[on 28 (Bc .eql 17 3),omk 27 28]
def W0:List RI:=[on 29 (Fa 3 1),oo 30 (Ld 29) [29],oo 31 (Ln 30) [30],oo 32 (Bc .eql 31 0) [31]]
def I5:List RI:=[on 33 (Fa 3 1),oo 34 (Ld 33) [33],on 35 (Ln 34),on 36 (Mc 0)]
def I4:List RI:=[on 37 (Bb .lss 36 35)]
def I3:List RI:=[on 38 (Ia 1 34 36),oo 39 (Ld 38) [38],omk 5 39]
def I2:List RI:=[om 40 5,oo 41 (.bin .lss (.t 40) (.c (.u8 32))) [40],omk 42 41,.grp 42 false [(xi 43 42 false (Mv 5)),(xi 44 42 false (.bin .gtr (.t 43) (.c (.u8 126))))] [5,43],oo 45 (Pt 42 44) [42,44]]
def I1:List RI:=[oo 46 (Bc .add 36 1) [36],omk 36 46]
def zk:RC:=(So I4 (Sq (Kc 37 (Kk [37] .skip) (Kk [34,35,36,37] (.exit 1))) (Sq (Bk 2 (So I3 (So I2 (Kc 45 (Kk [1,3,34,35,36,45] (So kE .ret)) (Kk [45] .skip))))) (.ops I1))))
def yi:RC:=zk
def I0:List RI:=[on 48 (Bc .eql 17 4),omk 47 48]
def IZ:List RI:=[oo 49 (Bc .eql 17 5) [17],omk 47 49]
def IY:List RI:=[on 50 (Fa 2 1),oo 51 (Ld 50) [50],oo 52 (Ln 51) [51],oo 53 (.mini (.t 52) (ci 2)) [52],on 54 (Mc 0)]
def IX:List RI:=[on 55 (Bb .lss 54 53)]
def IW:List RI:=[om 56 54,omk 6 56]
def IV:List RI:=[on 57 (Fa 2 1),oo 58 (Ld 57) [57],om 59 6,oo 60 (Ia 1 58 59) [58,59],oo 61 (Ld 60) [60],omk 7 61]
def IU:List RI:=[om 62 7,oo 63 (Ln 62) [62],oo 64 (Bc .gtr 63 0) [63],omk 65 64,.grp 65 true [(xi 66 65 true (Mv 3)),(xi 67 65 true (.un .not (.t 66))),(xi 68 65 true (Mv 67))] [66,67],.grp 68 false [(xi 69 68 false (Mv 7)),(xi 70 68 false (Mv 6)),(xi 71 68 false (Fa 3 1)),(xi 72 68 false (Ld 71)),(xi 73 68 false (Ca 69 [.t 70,.t 72])),(xi 74 68 false (Ca 48 [.t 69,.t 73])),(xi 75 68 false (.un .not (.t 74)))] [6,7,69,70,71,72,73,74],.grp 65 true [(xi 76 65 true (Pt 68 75))] [68,75],oo 77 (Pf 65 76) [65,76]]
def IS:List RI:=[oo 78 (Bc .add 54 1) [54],omk 54 78]
def zj:RC:=(So IX (Sq (Kc 55 (Kk [55] .skip) (Kk [1,3,53,54,55] (.exit 3))) (Sq (Bk 4 (So IW (So IV (So IU (Kc 77 (Kk [1,3,53,54,77] (So kE .ret)) (Kk [77] .skip)))))) (.ops IS))))
def yh:RC:=zj
def r50:RC:=(So Pb (So W7 (Sq (So W6 (Bk 0 (So W5 (Kc 18 (Kk [1,3,17,18] (So ua .ret)) (Kk [18] (So W4 (Kc 20 (Kk [17,20] (Sq (.flt [0,1,0,7,15] [124] W3 [22,23,24,25]) (Kc 26 (Kk [1,3,26] (So kE .ret)) (Kk [26] .skip)))) (Kk [20] (So W2 (Kc 27 (Kk [17,27] (Sq (So W0 (Kc 32 (Kk [1,3,32] (So kE .ret)) (Kk [32] .skip))) (So I5 (Bk 1 (.loop yi))))) (Kk [27] (Sq (So I0 (Kc 47 (Kk [17] .skip) (Kk [47] (.ops IZ)))) (Kc 47 (Kk [47] .skip) (Kk [1,3,47] (So kE .ret))))))))))))))) (Sq (So IY (Bk 3 (.loop yh))) (So ua .ret)))))
def F50:FnC:=⟨r50,79,[.tmp 2],[],[]⟩
def PO:RC:=(So En (Sq (Kc 9 (Kk [9] .skip) (Kk [0,1,7,8,9] (.exit 0))) (Sq (Bk 1 (So Pi (So Ph (Kc 16 (Kk [0,1,7,8,16] (So Pg .ret)) (Kk [5,16] .skip))))) (.ops Pe))))
def Pa:RC:=PO
def r51:RC:=(So rb (Sq (So Pj (Bk 0 (.loop Pa))) (So mn .ret)))
def F51:FnC:=⟨r51,19,[.tmp 4],[],[]⟩
def WZ:List RI:=[oo 4 (Lt 4 2) [2],oo 5 (Fa 3 1) [1],oo 6 (Ld 5) [5],oo 7 (Ca 53 [.t 4,.t 6]) [4,6],omk 3 7]
def r52:RC:=(So Pc (So WZ .ret))
def F52:FnC:=⟨r52,8,[.tmp 3],[],[]⟩
def O9:List RI:=[oo 2 (.box (.t 0)) [0],oo 4 (Mb false) [4]]
def WY:List RI:=[on 8 (Lt 4 2),oo 9 (Ca 90 [.t 8]) [8],oo 10 (Bc .neq 9 0) [9]]
def O8:List RI:=[on 11 (Fa 0 2),oo 12 (Ld 11) [11]]
def WX:List RI:=[on 14 (Bc .eql 12 2),omk 13 14]
def WW:List RI:=[omk 15 1,oo 16 (.b2s (.t 15)) [15],oo 17 (Fa 1 2) [2],oo 18 (Ld 17) [17],oo 19 (Bb .eql 16 18) [16,18],omk 4 19]
def WV:List RI:=[on 21 (Bc .eql 12 3),omk 20 21]
def WU:List RI:=[oo 22 (Fa 1 2) [2],oo 23 (Ld 22) [22],omk 24 1,oo 25 (Ca 92 [.t 23,.t 24]) [23,24],omk 4 25]
def WT:List RI:=[oo 27 (Bc .eql 12 4) [12],omk 26 27]
def WS:List RI:=[omk 29 1,oo 30 (.b2s (.t 29)) [29],on 31 (Fa 1 2),oo 32 (Ld 31) [31],oo 33 (Ca 93 [.t 30,.t 32]) [30,32],omk 28 33,on 34 (.ext (.t 28) 0),oo 35 (.ext (.t 28) 1) [28],omk 5 34,omk 6 35]
def IR:List RI:=[omk 36 5,oo 37 (Ca 94 [.t 36]) [36],omk 7 37]
def IQ:List RI:=[omk 38 6,omk 39 38,.grp 39 true [(xi 40 39 true (Mv 7)),(xi 41 39 true (Fa 2 2)),(xi 42 39 true (Ld 41)),(xi 43 39 true (Bb .geq 40 42))] [40,41,42],oo 44 (Pf 39 43) [39,43],omk 45 44,.grp 45 true [(xi 46 45 true (Mv 7)),(xi 47 45 true (Fa 3 2)),(xi 48 45 true (Ld 47)),(xi 49 45 true (Bb .leq 46 48))] [2,7,46,47,48],oo 50 (Pf 45 49) [45,49],omk 4 50]
def r53:RC:=(So O9 (Sq (So WY (Kc 10 (Kk [1,2,10] (So iO .ret)) (Kk [10] .skip))) (Sq (So O8 (Bk 0 (So WX (Kc 13 (Kk [12,13] (So WW .ret)) (Kk [13] (So WV (Kc 20 (Kk [12,20] (So WU .ret)) (Kk [20] (So WT (Kc 26 (Kk [26] (So WS (So IR (So IQ .ret)))) (Kk [1,2,26] .skip))))))))))) (So o3 .ret))))
def F53:FnC:=⟨r53,51,[.tmp 4],[],[]⟩
def WR:List RI:=[on 7 (Fa 0 1),oo 8 (Ld 7) [7],oo 9 (Ca 95 [.t 8]) [8],oo 10 (.un .not (.t 9)) [9]]
def WQ:List RI:=[on 11 (Fa 2 1),oo 12 (Ld 11) [11],oo 13 (Bc .lss 12 0) [12],omk 14 13,.grp 14 false [(xi 15 14 false (Fa 2 1)),(xi 16 14 false (Ld 15)),(xi 17 14 false (Fa 1 1)),(xi 18 14 false (Ld 17)),(xi 19 14 false (Bb .gtr 16 18))] [15,16,17,18],oo 20 (Pt 14 19) [14,19],omk 21 20,.grp 21 false [(xi 22 21 false (Fa 1 1)),(xi 23 21 false (Ld 22)),(xi 24 21 false (Bc .gtr 23 1000000))] [22,23],oo 25 (Pt 21 24) [21,24],omk 26 25,.grp 26 false [(xi 27 26 false (Fa 3 1)),(xi 28 26 false (Ld 27)),(xi 29 26 false (Bc .lss 28 0))] [27,28],oo 30 (Pt 26 29) [26,29],omk 31 30,.grp 31 false [(xi 32 31 false (Fa 3 1)),(xi 33 31 false (Ld 32)),(xi 34 31 false (Fa 4 1)),(xi 35 31 false (Ld 34)),(xi 36 31 false (Bb .geq 33 35))] [32,33,34,35],oo 37 (Pt 31 36) [31,36],omk 38 37,.grp 38 false [(xi 39 38 false (Fa 4 1)),(xi 40 38 false (Ld 39)),(xi 41 38 false (Bc .gtr 40 1099511627776))] [39,40],oo 42 (Pt 38 41) [38,41]]
def WP:List RI:=[on 43 (Fa 5 1),oo 44 (Ld 43) [43],oo 45 (Ln 44) [44],oo 46 (Bc .gtr 45 16) [45],omk 47 46,.grp 47 false [(xi 48 47 false (Fa 6 1)),(xi 49 47 false (Ld 48)),(xi 50 47 false (Ln 49)),(xi 51 47 false (Bc .gtr 50 8))] [48,49,50],oo 52 (Pt 47 51) [47,51]]
def q8:List RI:=[on 3 (Mc 0)]
def WO:List RI:=[om 53 3,on 54 (Fa 5 1),oo 55 (Ld 54) [54],oo 56 (Ln 55) [55],oo 57 (Bb .lss 53 56) [53,56]]
def WN:List RI:=[on 60 (Fa 5 1),oo 61 (Ld 60) [60],om 62 3,oo 63 (Ia 4 61 62) [61,62],oo 64 (Lt 4 63) [63],on 4 (.new (.rc Zq1)),Sr 4 4 64 [64]]
def IP:List RI:=[on 65 (Fa 0 4),oo 66 (Ld 65) [65],oo 67 (Bc .lss 66 1) [66],omk 68 67,.grp 68 false [(xi 69 68 false (Fa 0 4)),(xi 70 68 false (Ld 69)),(xi 71 68 false (Bc .gtr 70 3))] [69,70],oo 72 (Pt 68 71) [68,71],omk 73 72,.grp 73 false [(xi 74 73 false (Fa 2 4)),(xi 75 73 false (Ld 74)),(xi 76 73 false (Bc .lss 75 0))] [74,75],oo 77 (Pt 73 76) [73,76],omk 78 77,.grp 78 false [(xi 79 78 false (Fa 2 4)),(xi 80 78 false (Ld 79)),(xi 81 78 false (Bc .gtr 80 1000000))] [79,80],oo 82 (Pt 78 81) [78,81],omk 83 82,.grp 83 false [(xi 84 83 false (Fa 3 4)),(xi 85 83 false (Ld 84)),(xi 86 83 false (Ln 85)),(xi 87 83 false (Bc .neq 86 32))] [84,85,86],oo 88 (Pt 83 87) [83,87]]
def IN:List RI:=[on 89 (Fa 1 4),oo 90 (Ld 89) [89],oo 91 (Ca 95 [.t 90]) [90],oo 92 (.un .not (.t 91)) [91]]
def IM:List FI:=[Fm 0 93 3,Fs 1 94 (Bc .gtr 93 0),Fm 2 95 94,Fi 3 96 95 true (Fa 5 1),Fi 4 97 95 true (Ld 96),Fi 5 98 95 true (Mv 3),Fi 6 99 95 true (Bc .sub 98 1),Fi 7 100 95 true (Ia 4 97 99),Fi 8 101 95 true (Lt 4 100),Fi 9 102 95 true (Lt 4 4),Fy 10 103 95 true (Ca 84 [.t 101,.t 102]),Fi 11 104 95 true (.un .not (.t 103)),Fs 12 105 (Pf 95 104)]
def IL:List RI:=[omk 58 3,oo 59 (Bc .add 58 1) [58],omk 3 59]
def zi:RC:=(.post (Sq (So WO (Kc 57 (Kk [57] .skip) (Kk [3,57] (.exit 0)))) (Sq (Bk 1 (So WN (Sq (So IP (Kc 88 (Kk [1,3,4,88] (So fI .ret)) (Kk [88] .skip))) (Sq (So IN (Kc 92 (Kk [1,3,4,92] (So q9 .ret)) (Kk [92] .skip))) (Sq (.flt [0,1,3,7,15,7,39,127,255,7,1023,2047,4095] [] IM [4,93,94,95,96,97,98,99,100,101,102,103,104]) (Kc 105 (Kk [1,3,105] (So uc .ret)) (Kk [105] .skip))))))) (.ops IL))) [.gc [104]])
def lW:RC:=zi
def IK:List RI:=[om 106 5,on 107 (Fa 6 1),oo 108 (Ld 107) [107],oo 109 (Ln 108) [108],oo 110 (Bb .lss 106 109) [106,109]]
def IJ:List RI:=[on 113 (Fa 6 1),oo 114 (Ld 113) [113],om 115 5,oo 116 (Ia 4 114 115) [114,115],oo 117 (Lt 4 116) [116],oo 118 (Ca 96 [.t 117]) [117],omk 6 118]
def II:List RI:=[om 119 6,oo 120 (Bc .neq 119 0) [119]]
def IH:List RI:=[omk 121 6,omk 2 121]
def IG:List RI:=[omk 111 5,oo 112 (Bc .add 111 1) [111],omk 5 112]
def zh:RC:=(Sq (So IK (Kc 110 (Kk [110] .skip) (Kk [1,5,110] (.exit 2)))) (Sq (Bk 3 (So IJ (So II (Kc 120 (Kk [1,5,120] (So IH .ret)) (Kk [6,120] .skip))))) (.ops IG)))
def tZ:RC:=zh
def r54:RC:=(So og (Sq (So WR (Kc 10 (Kk [1,10] (So q9 .ret)) (Kk [10] .skip))) (Sq (So WQ (Kc 42 (Kk [1,42] (So fI .ret)) (Kk [42] .skip))) (Sq (So WP (Kc 52 (Kk [1,52] (So iY .ret)) (Kk [52] .skip))) (Sq (So q8 (Bk 0 (.loop lW))) (Sq (So ml (Bk 2 (.loop tZ))) (So jH .ret)))))))
def F54:FnC:=⟨r54,122,[.tmp 2],[],[]⟩
def O7:List RI:=[omk 3 0]
def WM:List RI:=[on 5 (Bc .eql 3 1),omk 4 5]
def WL:List RI:=[on 7 (Bc .eql 3 2),omk 6 7]
def WK:List RI:=[on 9 (Bc .eql 3 3),omk 8 9]
def WJ:List RI:=[on 2 (Mc 8)]
def WI:List RI:=[oo 11 (Bc .eql 3 4) [3],omk 10 11]
def WH:List RI:=[on 2 (Mc 9)]
def r55:RC:=(So mj (Sq (So O7 (Bk 0 (So WM (Kc 4 (Kk [3,4] (So jH .ret)) (Kk [4] (So WL (Kc 6 (Kk [3,6] (So iY .ret)) (Kk [6] (So WK (Kc 8 (Kk [3,8] (So WJ .ret)) (Kk [8] (So WI (Kc 10 (Kk [10] (So WH .ret)) (Kk [10] .skip)))))))))))))) (So ow .ret)))
def F55:FnC:=⟨r55,12,[.tmp 2],[],[]⟩
def mi:List RI:=[oo 4 (.mov (.c (.byt [] .clip))) [4]]
def WG:List RI:=[omk 5 0,.tks (xs 6 (.s2b (.t 5))) [5],on 7 (.litB [(.c (.u8 32))]),oo 8 (.app [.u8 0] 1 (.t 6) (.t 7)) [6,7],omk 9 1,oo 10 (Ca 97 [.t 9]) [9],oo 11 (.app [.u8 0] 1 (.t 8) (.t 10)) [8,10],omk 4 11]
def r56:RC:=(So mi (So WG .ret))
def F56:FnC:=⟨r56,12,[.tmp 4],[],[]⟩
def WF:List RI:=[on 4 (Fa 1 1),oo 5 (Ld 4) [4],oo 6 (Bc .eql 5 1) [5]]
def WE:List RI:=[on 7 (Fa 1 1),oo 8 (Ld 7) [7],oo 9 (Bc .lss 8 1) [8],omk 10 9,.grp 10 false [(xi 11 10 false (Fa 1 1)),(xi 12 10 false (Ld 11)),(xi 13 10 false (Bc .gtr 12 5))] [11,12],oo 14 (Pt 10 13) [10,13]]
def WD:List FI:=[Fs 0 15 (Fa 1 1),Fs 1 16 (Ld 15),Fs 2 17 (Bc .eql 16 2),Fm 3 18 17,Fi 4 19 18 true (Fa 3 1),Fi 5 20 18 true (Ld 19),Fy 6 21 18 true (Ca 77 []),Fy 7 22 18 true (Ca 25 [.t 20,.t 21]),Fi 8 23 18 true (.un .not (.t 22)),Fs 9 24 (Pf 18 23),Fm 10 25 24,Fi 11 26 25 false (Fa 1 1),Fi 12 27 25 false (Ld 26),Fi 13 28 25 false (Bc .eql 27 3),Fi 14 29 25 false (Mv 28),Fi 15 30 29 true (Fa 3 1),Fi 16 31 29 true (Ld 30),Fy 17 32 29 true (Ca 98 [.t 31]),Fi 18 33 29 true (.un .not (.t 32)),Fi 19 34 25 false (Pf 29 33),Fs 20 35 (Pt 25 34)]
def WC:List RI:=[om 36 3,oo 37 (Bc .lss 36 2) [36],omk 38 37,.grp 38 true [(xi 39 38 true (Mv 3)),(xi 40 38 true (Fa 2 1)),(xi 41 38 true (Ld 40)),(xi 42 38 true (Ln 41)),(xi 43 38 true (Bb .lss 39 42))] [39,40,41,42],oo 44 (Pf 38 43) [38,43]]
def WB:List FI:=[Fs 0 47 (Fa 2 1),Fs 1 48 (Ld 47),Fm 2 49 3,Fs 3 50 (Ia 1 48 49),Fs 4 51 (Ld 50),Fs 5 52 (Ln 51),Fs 6 53 (Bc .gtr 52 0),Fm 7 54 53,Fi 8 55 54 true (Fa 1 1),Fi 9 56 54 true (Ld 55),Fi 10 57 54 true (Bc .eql 56 5),Fi 11 58 54 true (Mv 57),Fi 12 59 58 false (Fa 2 1),Fi 13 60 58 false (Ld 59),Fi 14 61 58 false (Mv 3),Fi 15 62 58 false (Ia 1 60 61),Fi 16 63 58 false (Ld 62),Fi 17 64 58 false (Mv 3),Fi 18 65 58 false (Fa 3 1),Fi 19 66 58 false (Ld 65),Fy 20 67 58 false (Ca 99 [.t 64,.t 66]),Fy 21 68 58 false (Ca 25 [.t 63,.t 67]),Fi 22 69 58 false (.un .not (.t 68)),Fi 23 70 54 true (Pt 58 69),Fs 24 71 (Pf 54 70)]
def IF:List RI:=[omk 45 3,oo 46 (Bc .add 45 1) [45],omk 3 46]
def zg:RC:=(Sq (So WC (Kc 44 (Kk [44] .skip) (Kk [1,3,44] (.exit 0)))) (Sq (Bk 1 (Sq (.flt [0,1,0,7,15,31,63,127,255,511,1023,2047,4095,8191,4095,32767,65535,4095,4095,266239,921599,2097151,4194303,8388607,16777215] [] WB [47,48,49,50,51,52,53,54,55,56,57,58,59,60,61,62,63,64,65,66,67,68,69,70]) (Kc 71 (Kk [1,3,71] (So kE .ret)) (Kk [71] .skip)))) (.ops IF)))
def tY:RC:=zg
def r57:RC:=(So Pb (Sq (So WF (Kc 6 (Kk [1,6] (So ua .ret)) (Kk [6] .skip))) (Sq (So WE (Kc 14 (Kk [1,14] (So kE .ret)) (Kk [14] .skip))) (Sq (Sq (.flt [0,1,3,7,15,31,15,127,255,511,1023,2047,4095,8191,16383,32767,65535,131071,262143,524287,1048575] [] WD [15,16,17,18,19,20,21,22,23,24,25,26,27,28,29,30,31,32,33,34]) (Kc 35 (Kk [1,35] (So kE .ret)) (Kk [35] .skip))) (Sq (So q8 (Bk 0 (.loop tY))) (So ua .ret))))))
def F57:FnC:=⟨r57,72,[.tmp 2],[],[]⟩
def WA:List RI:=[on 8 (Lt 4 2),oo 9 (Ca 96 [.t 8]) [8],oo 10 (Bc .neq 9 0) [9]]
def Wz:List RI:=[on 14 (Bc .eql 12 1),omk 13 14]
def Wy:List RI:=[on 16 (Bc .eql 12 2),omk 15 16]
def Wx:List RI:=[oo 17 (Fa 1 2) [2],oo 18 (Ld 17) [17],oo 19 (.s2b (.t 18)) [18],omk 20 1,oo 21 (Ca 25 [.t 19,.t 20]) [19,20],omk 4 21]
def Ww:List RI:=[oo 23 (Bc .eql 12 3) [12],omk 22 23]
def Wv:List RI:=[oo 24 (Fa 1 2) [2],oo 25 (Ld 24) [24],omk 26 1,oo 27 (Ca 100 [.t 25,.t 26]) [25,26],omk 4 27]
def IE:List RI:=[on 28 (Fa 1 2),oo 29 (Ld 28) [28],oo 30 (.len true (.t 29)) [29],omk 5 30]
def ID:List FI:=[Fm 0 31 1,Fs 1 32 (Ln 31),Fm 2 33 5,Fs 3 34 (Bb .leq 32 33),Fm 4 35 34,Fi 5 36 35 false (Mv 1),Fi 6 37 35 false (Ln 36),Fi 7 38 35 false (Mv 5),Fi 8 39 35 false (Bc .add 38 10),Fi 9 40 35 false (Bb .gtr 37 39),Fs 10 41 (Pt 35 40),Fm 11 42 41,Fi 12 43 42 false (Fa 1 2),Fi 13 44 42 false (Ld 43),Fi 14 45 42 false (.s2b (.t 44)),Fi 15 46 42 false (Mv 1),Fi 16 47 42 false (Mv 5),Fi 17 48 42 false (.slcL 1 (.t 46) none (some (.t 47)) none),Fy 18 49 42 false (Ca 25 [.t 45,.t 48]),Fi 19 50 42 false (.un .not (.t 49)),Fs 20 51 (Pt 42 50)]
def IC:List RI:=[om 52 5,omk 7 52]
def IB:List RI:=[om 53 7,om 54 1,oo 55 (Ln 54) [54],oo 56 (Bb .lss 53 55) [53,55]]
def IA:List RI:=[om 59 1,om 60 7,oo 61 (Ia 1 59 60) [59,60],oo 62 (Ld 61) [61],oo 63 (.bin .lss (.t 62) (.c (.u8 48))) [62],omk 64 63,.grp 64 false [(xi 65 64 false (Mv 1)),(xi 66 64 false (Mv 7)),(xi 67 64 false (Ia 1 65 66)),(xi 68 64 false (Ld 67)),(xi 69 64 false (.bin .gtr (.t 68) (.c (.u8 57))))] [65,66,67,68],oo 70 (Pt 64 69) [64,69]]
def Iz:List RI:=[omk 71 6,oo 72 (.bin .mul (ci 10) (.t 71)) [71],om 73 1,om 74 7,oo 75 (Ia 1 73 74) [73,74],oo 76 (Ld 75) [75],oo 77 (.bin .sub (.t 76) (.c (.u8 48))) [76],oo 78 (.toInt .i64 (.t 77)) [77],oo 79 (Bb .add 72 78) [72,78],omk 6 79]
def Iy:List RI:=[omk 57 7,oo 58 (Bc .add 57 1) [57],omk 7 58]
def zf:RC:=(Sq (So IB (Kc 56 (Kk [56] .skip) (Kk [7,56] (.exit 1)))) (Sq (Bk 2 (Sq (So IA (Kc 70 (Kk [1,2,5,6,7,70] (So iO .ret)) (Kk [70] .skip))) (.ops Iz))) (.ops Iy)))
def yg:RC:=zf
def Ix:List FI:=[Fm 0 80 6,Fm 2 82 1,Fm 3 83 5,Fs 4 84 (.slcL 1 (.t 82) (some (.t 83)) none none),Fz 1 81 (Ca 97 [.t 80]),Fz 5 85 (Ca 25 [.t 81,.t 84]),Fm 6 86 85,Fi 7 87 86 true (Mv 6),Fi 8 88 86 true (Fa 2 2),Fi 9 89 86 true (Ld 88),Fi 10 90 86 true (Bb .geq 87 89),Fs 11 91 (Pf 86 90),Fm 12 92 91,Fi 13 93 92 true (Mv 6),Fi 14 94 92 true (Fa 3 2),Fi 15 95 92 true (Ld 94),Fi 16 96 92 true (Bb .leq 93 95),Fs 17 97 (Pf 92 96),Fm 18 4 97]
def r58:RC:=(So O9 (Sq (So WA (Kc 10 (Kk [1,2,10] (So iO .ret)) (Kk [10] .skip))) (Sq (So O8 (Bk 0 (So Wz (Kc 13 (Kk [1,2,12,13] (So o3 .ret)) (Kk [13] (So Wy (Kc 15 (Kk [12,15] (So Wx .ret)) (Kk [15] (So Ww (Kc 22 (Kk [22] (So Wv .ret)) (Kk [22] .skip))))))))))) (So IE (Sq (Sq (.flt [0,1,0,7,15,31,63,31,159,511,1023,2047,4095,8191,16383,4095,4095,102399,262143,524287,1048575] [] ID [31,32,33,34,35,36,37,38,39,40,41,42,43,44,45,46,47,48,49,50]) (Kc 51 (Kk [1,2,5,51] (So iO .ret)) (Kk [51] .skip))) (So lD (Sq (So IC (Bk 1 (.loop yg))) (Sq (.flt [0,1,0,0,12,31,63,127,127,383,1023,2047,4095,8191,8191,24575,65535,131071,262143] [] Ix [1,2,5,6,80,81,82,83,84,85,86,87,88,89,90,91,92,93,94,95,96,97]) .ret))))))))
def F58:FnC:=⟨r58,98,[.tmp 4],[],[]⟩
def Wu:List RI:=[oo 4 (Lt 7 1) [1],oo 5 (Ca 101 [.t 4]) [4],omk 3 5]
def Wt:List RI:=[omk 9 3,oo 10 (.lit 1 [.t 9]) [9],oo 11 (Ca 102 [ci 21,.t 10]) [10],omk 2 11]
def r59:RC:=(So uf (So Wu (Sq (So Po (Kc 8 (Kk [3,8] (So ue .ret)) (Kk [8] .skip))) (So Wt .ret))))
def F59:FnC:=⟨r59,12,[.tmp 2],[],[]⟩
def Wb:List RI:=[oo 6 (Mc 0) [6],oo 7 (Mb false) [7]]
def Wa:List RI:=[om 12 0,oo 13 (Ln 12) [12],omk 8 13]
def V9:List RI:=[om 14 8,on 9 (Mc 0),omk 10 14]
def V8:List RI:=[om 15 9,om 16 10,oo 17 (Bb .lss 15 16) [15,16]]
def V7:List RI:=[om 18 9,om 19 10,oo 20 (Bb .add 18 19) [18,19],oo 21 (.toInt .u64 (.t 20)) [20],oo 22 (.bin .shr (.t 21) (.c (.int .u64 1))) [21],oo 23 (.toInt .i64 (.t 22)) [22],omk 11 23]
def V6:List RI:=[om 24 2,om 25 0,om 26 11,oo 27 (Ia 1 25 26) [25,26],oo 28 (Ld 27) [27],om 29 1,oo 30 (.call (.t 24) [.t 28,.t 29]) [24,28,29],oo 31 (Bc .lss 30 0) [30]]
def V5:List RI:=[omk 32 11,oo 33 (Bc .add 32 1) [32],omk 9 33]
def V4:List RI:=[omk 34 11,omk 10 34]
def PN:RC:=(Sq (So V8 (Kc 17 (Kk [17] .skip) (Kk [10,17] (.exit 0)))) (Bk 1 (So V7 (So V6 (Kc 31 (Kk [9,31] (.ops V5)) (Kk [10,31] (.ops V4)))))))
def O6:RC:=PN
def V3:List RI:=[om 35 9,om 36 9,omk 37 8,oo 38 (Bb .lss 36 37) [36,37],omk 39 38,.grp 39 true [(xi 40 39 true (Mv 2)),(xi 41 39 true (Mv 0)),(xi 42 39 true (Mv 9)),(xi 43 39 true (Ia 1 41 42)),(xi 44 39 true (Ld 43)),(xi 45 39 true (Mv 1)),(xi 46 39 true (.call (.t 40) [.t 44,.t 45])),(xi 47 39 true (Bc .eql 46 0))] [0,1,2,9,40,41,42,43,44,45,46],oo 48 (Pf 39 47) [39,47],omk 6 35,omk 7 48]
def r60:RC:=(So Wb (So Wa (So V9 (Sq (Bk 0 (.loop O6)) (So V3 .ret)))))
def F60:FnC:=⟨r60,49,[.tmp 6,.tmp 7],[],[]⟩
def V2:List RI:=[om 6 5,om 7 0,oo 8 (Ln 7) [7],oo 9 (Bb .lss 6 8) [6,8],omk 10 9,.grp 10 true [(xi 11 10 true (Mv 5)),(xi 12 10 true (Mv 1)),(xi 13 10 true (Ln 12)),(xi 14 10 true (Bb .lss 11 13))] [11,12,13],oo 15 (Pf 10 14) [10,14]]
def VZ:List FI:=[Fm 0 18 0,Fm 1 19 5,Fs 2 20 (Ia 1 18 19),Fs 3 21 (Ld 20),Fm 4 22 1,Fm 5 23 5,Fs 6 24 (Ia 1 22 23),Fs 7 25 (Ld 24),Fs 8 26 (Bb .neq 21 25)]
def VY:List FI:=[Fm 0 27 0,Fm 1 28 5,Fs 2 29 (Ia 1 27 28),Fs 3 30 (Ld 29),Fm 4 31 1,Fm 5 32 5,Fs 6 33 (Ia 1 31 32),Fs 7 34 (Ld 33),Fs 8 35 (Bb .lss 30 34),Fm 9 4 35]
def VX:List RI:=[omk 16 5,oo 17 (Bc .add 16 1) [16],omk 5 17]
def PM:RC:=(Sq (So V2 (Kc 15 (Kk [15] .skip) (Kk [5,15] (.exit 0)))) (Sq (Bk 1 (Sq (.flt [0,0,3,7,0,0,48,112,255] [] VZ [18,19,20,21,22,23,24,25]) (Kc 26 (Kk [26] (Sq (.flt [0,0,3,7,0,0,48,112,255,511] [] VY [0,1,5,27,28,29,30,31,32,33,34,35]) .ret)) (Kk [26] .skip)))) (.ops VX)))
def O5:RC:=PM
def VW:List RI:=[omk 36 0,oo 37 (Ln 36) [36],omk 38 1,oo 39 (Ln 38) [38],oo 40 (Bb .lss 37 39) [37,39],omk 4 40]
def r63:RC:=(So lE (Sq (So ml (Bk 0 (.loop O5))) (So VW .ret)))
def F63:FnC:=⟨r63,41,[.tmp 4],[],[]⟩
def VV:List RI:=[on 4 (.new (.rc Zq4))]
def VU:List RI:=[om 8 0,oo 9 (Ca 37 [.t 8,ci 4]) [8],omk 5 9]
def VT:List RI:=[on 10 (Ca 106 []),om 11 0,oo 12 (Ca 37 [.t 11,ci 3]) [11],oo 13 (.idxA 3 1 false (.t 10) (.t 12)) [10,12],om 14 5,omk 15 1,oo 16 (Ca 34 [.t 13,.t 14,.t 15]) [13,14,15],on 6 (.new (.rc Zq4)),Sr 7 6 16 [16]]
def VS:List RI:=[om 17 0,oo 18 (Ca 37 [.t 17,ci 3]) [17],oo 19 (Bc .eql 18 1) [18]]
def VR:List FI:=[Fs 0 20 (Fa 5 6),Fs 1 21 (Ld 20),Fm 2 22 0,Fs 3 23 (Fa 5 6),Fs 4 24 (Ld 23),Fs 5 25 (Ln 24),Fs 6 26 (Bc .add 25 1),Fz 7 27 (Ca 37 [.t 22,.t 26]),Fs 8 28 (.slcL 4 (.t 21) none (some (.t 27)) none),Fs 9 29 (Fa 5 6),Fr 10 1 29 28]
def VQ:List RI:=[om 30 0,omk 31 5,oo 32 (Bc .add 31 1) [31],oo 33 (Ca 37 [.t 30,.t 32]) [30,32],on 34 (Fa 2 6),Sr 1 34 33 [33,34]]
def VP:List RI:=[om 35 0,oo 36 (Ca 37 [.t 35,ci 12]) [35],on 37 (Fa 3 6),Sr 1 37 36 [36,37]]
def VO:List FI:=[Fs 0 38 (Fa 3 6),Fs 1 39 (Ld 38),Fs 2 40 (Bc .add 39 1),Fm 3 41 0,Fz 4 42 (Ca 37 [.t 41,ci 30]),Fs 5 43 (Bb .add 40 42),Fs 6 44 (Fa 4 6),Fr 7 1 44 43]
def VN:List RI:=[om 45 0,oo 46 (Ca 37 [.t 45,ci 2]) [45],oo 47 (Bc .eql 46 0) [46]]
def VM:List RI:=[on 48 (Fa 4 6),.op ⟨none,none,.store 1 (.t 48) (ci 1099511627776)⟩ [48]]
def Iw:List RI:=[om 49 0,oo 50 (Ca 37 [.t 49,ci 4]) [49],omk 7 50]
def Iv:List RI:=[om 51 7,oo 52 (Bc .gtr 51 0) [51]]
def Iu:List FI:=[Fs 0 55 (Fa 6 6),Fs 1 56 (Ld 55),Fm 2 57 0,Fz 3 58 (Ca 107 [.t 57]),Fs 4 59 (.lit 4 [.t 58]),Fz 5 60 (.app Zq3 40 (.t 56) (.t 59)),Fs 6 61 (Fa 6 6),Fr 7 1 61 60]
def It:List RI:=[omk 53 7,oo 54 (Bc .sub 53 1) [53],omk 7 54]
def ze:RC:=(Sq (So Iv (Kc 52 (Kk [52] .skip) (Kk [0,7,52] (.exit 0)))) (Sq (Bk 1 (.flt [0,1,0,4,12,31,63,127] [160] Iu [55,56,57,58,59,60,61])) (.ops It)))
def yf:RC:=ze
def Is:List RI:=[oo 62 (Lt 7 6) [6],Sr 7 4 62 [62]]
def r64:RC:=(So VV (So VU (So VT (Sq (So VS (Kc 19 (Kk [19] (.flt [0,1,0,0,8,24,56,124,255,511,1023] [] VR [20,21,22,23,24,25,26,27,28,29])) (Kk [19] .skip))) (So VQ (So VP (Sq (.flt [0,1,3,0,8,31,63,127] [] VO [38,39,40,41,42,43,44]) (Sq (So VN (Kc 47 (Kk [47] (.ops VM)) (Kk [47] .skip))) (Sq (So Iw (Bk 0 (.loop yf))) (So Is .ret))))))))))
def F64:FnC:=⟨r64,63,[.cell 4 7 true],[],[]⟩
def VL:List RI:=[on 4 (.new (.rc Zq1))]
def VK:List FI:=[Fm 0 7 1,Fm 2 9 0,Fm 5 12 0,Fz 1 8 (Ca 108 []),Fz 3 10 (Ca 37 [.t 9,ci 5]),Fs 4 11 (.idxA 5 1 false (.t 8) (.t 10)),Fz 6 13 (Ca 37 [.t 12,ci 5]),Fs 7 14 (.build Zq1 [(0,1,(.t 7)),(1,1,(.t 11)),(2,1,(.t 13))]),Fz 8 5 (.new (.rc Zq1)),Fr 9 4 5 14]
def VJ:List RI:=[om 15 0,oo 16 (Ca 37 [.t 15,ci 9]) [15],oo 17 (Bc .eql 16 8) [16]]
def VI:List RI:=[om 18 0,oo 19 (Ca 37 [.t 18,ci 3]) [18],oo 20 (.bin .sub (ci 1000000) (.t 19)) [19],on 21 (Fa 2 5),Sr 1 21 20 [20,21]]
def VH:List RI:=[omk 22 1,oo 23 (Bc .eql 22 4) [22]]
def VG:List RI:=[omk 24 0,oo 25 (Ca 109 [.t 24]) [24],on 26 (Fa 3 5),Sr 1 26 25 [25,26]]
def VF:List RI:=[oo 27 (Lt 4 5) [5],Sr 4 4 27 [27]]
def VE:List RI:=[om 28 0,oo 29 (Ca 37 [.t 28,ci 7]) [28],oo 30 (.mkB (.t 29) (.t 29)) [29],on 31 (Fa 3 5),Sr 1 31 30 [30,31]]
def VD:List RI:=[om 32 6,on 33 (Fa 3 5),oo 34 (Ld 33) [33],oo 35 (Ln 34) [34],oo 36 (Bb .lss 32 35) [32,35]]
def Ir:List FI:=[Fs 0 39 (Fa 3 5),Fs 1 40 (Ld 39),Fm 2 41 6,Fm 3 42 0,Fz 4 43 (Ca 37 [.t 42,ci 256]),Fs 5 44 (.toInt .u8 (.t 43)),Fs 6 45 (Ia 1 40 41),Fr 7 1 45 44]
def Iq:List RI:=[omk 37 6,oo 38 (Bc .add 37 1) [37],omk 6 38]
def zd:RC:=(Sq (So VD (Kc 36 (Kk [36] .skip) (Kk [0,6,36] (.exit 0)))) (Sq (Bk 1 (.flt [0,1,0,0,8,24,63,127] [] Ir [39,40,41,42,43,44,45])) (.ops Iq)))
def tX:RC:=zd
def Ip:List RI:=[oo 46 (Lt 4 5) [5],Sr 4 4 46 [46]]
def r65:RC:=(So VL (Sq (.fla [0,0,0,6,14,0,46,127,0,511] [105] VK [[0,2,5,1,3,4,6,7,8,9],[0,2,5,1,3,4,8,6,7,9],[0,2,5,1,8,3,4,6,7,9],[0,2,5,8,1,3,4,6,7,9]] [7,8,9,10,11,12,13,14]) (Sq (So VJ (Kc 17 (Kk [17] (.ops VI)) (Kk [17] .skip))) (Sq (So VH (Kc 23 (Kk [23] (So VG (So VF .ret))) (Kk [23] .skip))) (So VE (Sq (So lD (Bk 0 (.loop tX))) (So Ip .ret)))))))
def F65:FnC:=⟨r65,47,[.cell 4 4 true],[],[]⟩
def VC:List RI:=[on 8 (Lt 7 1),oo 9 (Ca 54 [.t 8]) [8],oo 10 (Bc .neq 9 0) [9]]
def VB:List RI:=[on 11 (.litB [(.c (.u8 21))]),on 12 (Fa 0 1),oo 13 (Ld 12) [12],oo 14 (.s2b (.t 13)) [13],oo 15 (Ca 83 [.t 11,.t 14]) [11,14],omk 3 15]
def VA:List RI:=[omk 16 3,on 17 (Fa 1 1),oo 18 (Ld 17) [17],oo 19 (Ca 82 [.t 16,ci 4,.t 18]) [16,18],omk 3 19]
def Vz:List RI:=[omk 20 3,on 21 (Fa 2 1),oo 22 (Ld 21) [21],oo 23 (Ca 82 [.t 20,ci 4,.t 22]) [20,22],omk 3 23]
def Vy:List RI:=[omk 24 3,on 25 (Fa 3 1),oo 26 (Ld 25) [25],oo 27 (Ca 82 [.t 24,ci 6,.t 26]) [24,26],omk 3 27]
def Vx:List RI:=[omk 28 3,on 29 (Fa 4 1),oo 30 (Ld 29) [29],oo 31 (Ca 82 [.t 28,ci 6,.t 30]) [28,30],omk 3 31]
def Vw:List RI:=[omk 32 3,on 33 (Fa 5 1),oo 34 (Ld 33) [33],oo 35 (Ln 34) [34],oo 36 (.toInt .u8 (.t 35)) [35],oo 37 (.litB [.t 36]) [36],oo 38 (.app [.u8 0] 1 (.t 32) (.t 37)) [32,37],omk 3 38]
def Io:List RI:=[om 39 4,on 40 (Fa 5 1),oo 41 (Ld 40) [40],oo 42 (Ln 41) [41],oo 43 (Bb .lss 39 42) [39,42]]
def In:List RI:=[on 46 (Fa 5 1),oo 47 (Ld 46) [46],om 48 4,oo 49 (Ia 4 47 48) [47,48],oo 50 (Lt 4 49) [49],on 5 (.new (.rc Zq1)),Sr 4 5 50 [50]]
def Im:List FI:=[Fm 0 51 3,Fs 1 52 (Fa 0 5),Fs 2 53 (Ld 52),Fs 3 54 (.toInt .u8 (.t 53)),Fs 4 55 (.litB [.t 54]),Fs 6 57 (Fa 1 5),Fs 7 58 (Ld 57),Fs 8 59 (.s2b (.t 58)),Fz 5 56 (.app [.u8 0] 1 (.t 51) (.t 55)),Fz 9 60 (Ca 83 [.t 56,.t 59]),⟨10,false,(xm 3 60)⟩]
def Il:List FI:=[Fm 0 61 3,Fs 1 62 (Fa 2 5),Fs 2 63 (Ld 62),Fs 4 65 (Fa 3 5),Fs 5 66 (Ld 65),Fz 3 64 (Ca 82 [.t 61,ci 4,.t 63]),Fz 6 67 (.app [.u8 0] 1 (.t 64) (.t 66)),⟨7,false,(xm 3 67)⟩]
def Ik:List RI:=[omk 44 4,oo 45 (Bc .add 44 1) [44],omk 4 45]
def zc:RC:=(.post (Sq (So Io (Kc 43 (Kk [43] .skip) (Kk [4,43] (.exit 0)))) (Sq (Bk 1 (So In (Sq (.flt [0,0,2,6,14,31,0,64,192,511,1023] [156] Im [51,52,53,54,55,56,57,58,59,60]) (.flt [0,0,2,7,0,16,63,127] [167] Il [5,61,62,63,64,65,66,67])))) (.ops Ik))) [.gc [105,156],.gcr 65000 66000,.tok 3 103])
def qD:RC:=zc
def Ij:List RI:=[omk 68 3,on 69 (Fa 6 1),oo 70 (Ld 69) [69],oo 71 (Ln 70) [70],oo 72 (.toInt .u8 (.t 71)) [71],oo 73 (.litB [.t 72]) [72],oo 74 (.app [.u8 0] 1 (.t 68) (.t 73)) [68,73],omk 3 74]
def Ii:List RI:=[om 75 6,on 76 (Fa 6 1),oo 77 (Ld 76) [76],oo 78 (Ln 77) [77],oo 79 (Bb .lss 75 78) [75,78]]
def Ih:List RI:=[on 82 (Fa 6 1),oo 83 (Ld 82) [82],om 84 6,oo 85 (Ia 4 83 84) [83,84],oo 86 (Lt 4 85) [85],on 7 (.new (.rc Zq3)),Sr 4 7 86 [86]]
def Ig:List FI:=[Fm 0 87 3,Fs 1 88 (Fa 0 7),Fs 2 89 (Ld 88),Fs 3 90 (.toInt .u8 (.t 89)),Fs 4 91 (.litB [.t 90]),Fs 6 93 (Fa 1 7),Fs 7 94 (Ld 93),Fs 8 95 (.s2b (.t 94)),Fz 5 92 (.app [.u8 0] 1 (.t 87) (.t 91)),Fz 9 96 (Ca 83 [.t 92,.t 95]),⟨10,false,(xm 3 96)⟩]
def If:List FI:=[Fm 0 97 3,Fs 1 98 (Fa 2 7),Fs 2 99 (Ld 98),Fs 4 101 (Fa 3 7),Fs 5 102 (Ld 101),Fz 3 100 (Ca 82 [.t 97,ci 4,.t 99]),Fz 6 103 (Ca 82 [.t 100,ci 4,.t 102]),⟨7,false,(xm 3 103)⟩]
def Ie:List RI:=[omk 80 6,oo 81 (Bc .add 80 1) [80],omk 6 81]
def zb:RC:=(.post (Sq (So Ii (Kc 79 (Kk [79] .skip) (Kk [1,6,79] (.exit 2)))) (Sq (Bk 3 (So Ih (Sq (.flt [0,0,2,6,14,31,0,64,192,511,1023] [192] Ig [87,88,89,90,91,92,93,94,95,96]) (.flt [0,0,2,7,0,16,63,127] [] If [7,97,98,99,100,101,102,103])))) (.ops Ie))) [.gc [107,192],.gcr 101000 102000,.tok 3 103])
def qC:RC:=zb
def Ic:List RI:=[omk 104 3,omk 2 104]
def r66:RC:=(So uf (Sq (So VC (Kc 10 (Kk [1,10] (So ue .ret)) (Kk [10] .skip))) (So VB (So VA (So Vz (So Vy (So Vx (So Vw (Sq (So ra (Bk 0 (.pre [.tok 3 103] (.loop qD)))) (So Ij (Sq (So lD (Bk 2 (.pre [.tok 3 103] (.loop qC)))) (So Ic .ret))))))))))))
def F66:FnC:=⟨r66,105,[.tmp 2],[],[]⟩
def Vv:List RI:=[omk 5 0,omk 6 1,oo 7 (Ca 110 [.t 5,.t 6]) [5,6],oo 8 (Ca 80 [.t 7]) [7],omk 4 8]
def r67:RC:=(So mi (So Vv .ret))
def F67:FnC:=⟨r67,9,[.tmp 4],[],[]⟩
def Vu:List RI:=[on 4 (Fa 0 1),oo 5 (Ld 4) [4],oo 6 (Bc .lss 5 1) [5],omk 7 6,.grp 7 false [(xi 8 7 false (Fa 0 1)),(xi 9 7 false (Ld 8)),(xi 10 7 false (Bc .gtr 9 4))] [8,9],oo 11 (Pt 7 10) [7,10],omk 12 11,.grp 12 false [(xi 13 12 false (Fa 2 1)),(xi 14 12 false (Ld 13)),(xi 15 12 false (Bc .lss 14 0))] [13,14],oo 16 (Pt 12 15) [12,15],omk 17 16,.grp 17 false [(xi 18 17 false (Fa 2 1)),(xi 19 17 false (Ld 18)),(xi 20 17 false (Bc .gtr 19 1000000))] [18,19],oo 21 (Pt 17 20) [17,20],omk 3 21]
def Vt:List RI:=[on 23 (Fa 1 1),oo 24 (Ld 23) [23],oo 25 (Ca 111 [.t 24]) [24],oo 26 (.un .not (.t 25)) [25],omk 22 26]
def Vs:List RI:=[on 28 (Fa 3 1),oo 29 (Ld 28) [28],oo 30 (Ln 29) [29],oo 31 (Bc .gtr 30 64) [30],omk 27 31]
def Vr:List RI:=[on 33 (Fa 0 1),oo 34 (Ld 33) [33],oo 35 (Bc .eql 34 4) [34],omk 36 35,.grp 36 true [(xi 37 36 true (Lt 4 1)),(xi 38 36 true (Ca 112 [.t 37])),(xi 39 36 true (Ln 38)),(xi 40 36 true (Bc .eql 39 0))] [1,37,38,39],oo 41 (Pf 36 40) [36,40],omk 32 41]
def El:List RI:=[on 2 (Mc 40)]
def r68:RC:=(So og (Sq (Bk 0 (So Vu (Kc 3 (Kk [1,3] (So fI .ret)) (Kk [3] (So Vt (Kc 22 (Kk [1,22] (So q9 .ret)) (Kk [22] (So Vs (Kc 27 (Kk [1,27] (So iY .ret)) (Kk [27] (So Vr (Kc 32 (Kk [32] (So El .ret)) (Kk [32] .skip))))))))))))) (So jH .ret)))
def F68:FnC:=⟨r68,42,[.tmp 2],[],[]⟩
def Vq:List RI:=[omk 9 0]
def Vp:List RI:=[on 11 (Bc .eql 9 0),omk 10 11]
def Vo:List RI:=[on 12 (.build [.int .u32 0,.int .u32 0,.int .u32 0,.int .u32 0,.int .u32 0] [(0,1,(.c (.int .u32 1732584193))),(1,1,(.c (.int .u32 4023233417))),(2,1,(.c (.int .u32 2562383102))),(3,1,(.c (.int .u32 271733878))),(4,1,(.c (.int .u32 3285377520)))]),on 5 (.new (.arr 1 (aq 5 [.int .u32 0]))),Sr 5 5 12 [12]]
def Vn:List RI:=[omk 13 1,oo 14 (Ca 113 [.t 13]) [13],omk 6 14]
def Vm:List RI:=[om 15 6,oo 16 (Ln 15) [15],oo 17 (Bc .gtr 16 0) [16]]
def Vl:List RI:=[om 20 6,oo 21 (.slcL 1 (.t 20) none (some (ci 64)) none) [20],oo 22 (Ca 114 [.t 5,.t 21]) [21,22]]
def Vk:List RI:=[omk 18 6,oo 19 (.slcL 1 (.t 18) (some (ci 64)) none none) [18],omk 6 19]
def PL:RC:=(Sq (So Vm (Kc 17 (Kk [17] .skip) (Kk [6,17] (.exit 1)))) (Sq (Bk 2 (.ops Vl)) (.ops Vk)))
def O4:RC:=PL
def Vj:List RI:=[oo 23 (.slcA 5 1 (.t 5) none none none) [5],oo 24 (Ca 115 [.t 23]) [23],omk 4 24]
def Ib:List RI:=[oo 26 (Bc .eql 9 1) [9],omk 25 26]
def H9:List RI:=[on 27 (.build [.int .u32 0,.int .u32 0,.int .u32 0,.int .u32 0,.int .u32 0,.int .u32 0,.int .u32 0,.int .u32 0] [(0,1,(.c (.int .u32 1779033703))),(1,1,(.c (.int .u32 3144134277))),(2,1,(.c (.int .u32 1013904242))),(3,1,(.c (.int .u32 2773480762))),(4,1,(.c (.int .u32 1359893119))),(5,1,(.c (.int .u32 2600822924))),(6,1,(.c (.int .u32 528734635))),(7,1,(.c (.int .u32 1541459225)))]),on 7 (.new (.arr 1 (aq 8 [.int .u32 0]))),Sr 8 7 27 [27]]
def H8:List RI:=[omk 28 1,oo 29 (Ca 113 [.t 28]) [28],omk 8 29]
def H7:List RI:=[om 30 8,oo 31 (Ln 30) [30],oo 32 (Bc .gtr 31 0) [31]]
def H6:List RI:=[om 35 8,oo 36 (.slcL 1 (.t 35) none (some (ci 64)) none) [35],oo 37 (Ca 116 [.t 7,.t 36]) [36,37]]
def H5:List RI:=[omk 33 8,oo 34 (.slcL 1 (.t 33) (some (ci 64)) none none) [33],omk 8 34]
def za:RC:=(Sq (So H7 (Kc 32 (Kk [32] .skip) (Kk [8,32] (.exit 3)))) (Sq (Bk 4 (.ops H6)) (.ops H5)))
def ye:RC:=za
def H4:List RI:=[oo 38 (.slcA 8 1 (.t 7) none none none) [7],oo 39 (Ca 115 [.t 38]) [38],omk 4 39]
def qB:List RI:=[on 4 (.mov (.c (.byt [] .clip)))]
def r69:RC:=(So mi (Sq (So Vq (Bk 0 (So Vp (Kc 10 (Kk [9,10] (So Vo (Sq (So Vn (Bk 1 (.loop O4))) (So Vj .ret)))) (Kk [10] (So Ib (Kc 25 (Kk [25] (So H9 (Sq (So H8 (Bk 3 (.loop ye))) (So H4 .ret)))) (Kk [1,25] .skip)))))))) (So qB .ret)))
def F69:FnC:=⟨r69,40,[.tmp 4],[],[]⟩
def Vi:List FI:=[Fs 0 5 (Fa 0 2),Fs 1 6 (Ld 5),Fs 2 7 (Fa 0 3),Fs 3 8 (Ld 7),Fs 5 10 (Fa 1 2),Fs 6 11 (Ld 10),Fs 7 12 (Fa 1 3),Fs 8 13 (Ld 12),Fs 10 15 (Fa 2 2),Fs 11 16 (Ld 15),Fs 12 17 (Fa 2 3),Fs 13 18 (Ld 17),Fs 15 20 (Fa 3 2),Fs 16 21 (Ld 20),Fs 17 22 (Fa 3 3),Fs 18 23 (Ld 22),Fz 4 9 (Ca 122 [.t 6,.t 8]),Fz 9 14 (Ca 123 [.t 11,.t 13]),Fz 14 19 (Ca 122 [.t 16,.t 18]),Fz 19 24 (Ca 61 [.t 21,.t 23]),Fs 20 25 (.lit 1 [.t 9,.t 14,.t 19,.t 24]),Fz 21 26 (Ca 121 [.t 25]),Fm 22 4 26]
def r72:RC:=(So Ew (Sq (.flt [0,1,0,4,15,0,32,0,128,511,0,1024,0,4096,16383,0,32768,0,131072,524287,1048575,2097151,4194303] [] Vi [2,3,5,6,7,8,9,10,11,12,13,14,15,16,17,18,19,20,21,22,23,24,25,26]) .ret))
def F72:FnC:=⟨r72,27,[.tmp 4],[],[]⟩
def Vh:List RI:=[om 8 0,oo 9 (Ln 8) [8],oo 10 (Bc .eql 9 0) [9],omk 11 10,.grp 11 false [(xi 12 11 false (Mv 0)),(xi 13 11 false (Ln 12)),(xi 14 11 false (Bc .gtr 13 8))] [12,13],oo 15 (Pt 11 14) [11,14]]
def Vg:List RI:=[on 3 (Mb false),on 4 (Mb false)]
def Vf:List RI:=[om 16 5,om 17 0,oo 18 (Ln 17) [17],oo 19 (Bb .lss 16 18) [16,18]]
def Ve:List RI:=[om 22 0,om 23 5,oo 24 (Ia 4 22 23) [22,23],oo 25 (Lt 4 24) [24],oo 26 (Ca 81 [.t 25]) [25],omk 6 26]
def Vd:List RI:=[om 27 6,oo 28 (Bc .neq 27 0) [27]]
def Vc:List RI:=[omk 29 6,omk 2 29]
def Vb:List FI:=[Fm 0 30 5,Fs 1 31 (Bc .gtr 30 0),Fm 2 32 31,Fi 3 33 32 true (Mv 0),Fi 4 34 32 true (Mv 5),Fi 5 35 32 true (Ia 4 33 34),Fi 6 36 32 true (Fa 0 35),Fi 7 37 32 true (Ld 36),Fi 8 38 32 true (Mv 0),Fi 9 39 32 true (Mv 5),Fi 10 40 32 true (Bc .sub 39 1),Fi 11 41 32 true (Ia 4 38 40),Fi 12 42 32 true (Fa 0 41),Fi 13 43 32 true (Ld 42),Fi 14 44 32 true (Bb .lss 37 43),Fs 15 45 (Pf 32 44)]
def H3:List RI:=[om 46 7,om 47 5,oo 48 (Bb .lss 46 47) [46,47]]
def H2:List FI:=[Fm 0 51 0,Fm 1 52 7,Fs 2 53 (Ia 4 51 52),Fs 3 54 (Fa 0 53),Fs 4 55 (Ld 54),Fm 5 56 0,Fm 6 57 5,Fs 7 58 (Ia 4 56 57),Fs 8 59 (Fa 0 58),Fs 9 60 (Ld 59),Fs 10 61 (Bb .eql 55 60),Fm 11 62 61,Fi 12 63 62 true (Mv 0),Fi 13 64 62 true (Mv 7),Fi 14 65 62 true (Ia 4 63 64),Fi 15 66 62 true (Fa 1 65),Fi 16 67 62 true (Ld 66),Fi 17 68 62 true (Mv 0),Fi 18 69 62 true (Mv 5),Fi 19 70 62 true (Ia 4 68 69),Fi 20 71 62 true (Fa 1 70),Fi 21 72 62 true (Ld 71),Fi 22 73 62 true (Bb .eql 67 72),Fs 23 74 (Pf 62 73)]
def HZ:List RI:=[on 2 (Mc 42)]
def HY:List RI:=[omk 49 7,oo 50 (Bc .add 49 1) [49],omk 7 50]
def y9:RC:=(Sq (So H3 (Kc 48 (Kk [48] .skip) (Kk [7,48] (.exit 2)))) (Sq (Bk 3 (Sq (.flt [0,0,3,7,15,0,0,96,224,480,1023,2047,4095,4095,16383,32767,65535,4095,4095,397311,921599,1970175,4194303,8388607] [] H2 [51,52,53,54,55,56,57,58,59,60,61,62,63,64,65,66,67,68,69,70,71,72,73]) (Kc 74 (Kk [0,3,4,5,7,74] (So HZ .ret)) (Kk [74] .skip)))) (.ops HY)))
def yd:RC:=y9
def HX:List RI:=[omk 75 3,omk 76 75,.grp 76 false [(xi 77 76 false (Mv 0)),(xi 78 76 false (Mv 5)),(xi 79 76 false (Ia 4 77 78)),(xi 80 76 false (Fa 0 79)),(xi 81 76 false (Ld 80)),(xi 82 76 false (Bc .eql 81 1))] [77,78,79,80,81],oo 83 (Pt 76 82) [76,82],omk 3 83]
def HW:List RI:=[omk 84 4,omk 85 84,.grp 85 false [(xi 86 85 false (Mv 0)),(xi 87 85 false (Mv 5)),(xi 88 85 false (Ia 4 86 87)),(xi 89 85 false (Fa 0 88)),(xi 90 85 false (Ld 89)),(xi 91 85 false (Bc .eql 90 3))] [86,87,88,89,90],oo 92 (Pt 85 91) [85,91],omk 4 92]
def HV:List RI:=[omk 20 5,oo 21 (Bc .add 20 1) [20],omk 5 21]
def y8:RC:=(Sq (So Vf (Kc 19 (Kk [19] .skip) (Kk [0,5,19] (.exit 0)))) (Sq (Bk 1 (Sq (So Ve (So Vd (Kc 28 (Kk [0,3,4,5,28] (So Vc .ret)) (Kk [6,28] .skip)))) (Sq (Sq (.flt [0,1,3,7,7,31,63,127,7,7,519,1799,3847,7943,16383,32767] [] Vb [30,31,32,33,34,35,36,37,38,39,40,41,42,43,44]) (Kc 45 (Kk [0,3,4,5,45] (So uc .ret)) (Kk [45] .skip))) (Sq (So l3 (Bk 2 (.loop yd))) (So HX (.ops HW)))))) (.ops HV)))
def tW:RC:=y8
def HU:List RI:=[omk 93 3,oo 94 (.un .not (.t 93)) [93],omk 95 94,.grp 95 false [(xi 96 95 false (Mv 4)),(xi 97 95 false (.un .not (.t 96)))] [4,96],oo 98 (Pt 95 97) [95,97]]
def r75:RC:=(So mj (Sq (So Vh (Kc 15 (Kk [0,15] (So fI .ret)) (Kk [15] .skip))) (So Vg (Sq (So ml (Bk 0 (.loop tW))) (Sq (So HU (Kc 98 (Kk [98] (So El .ret)) (Kk [98] .skip))) (So jH .ret))))))
def F75:FnC:=⟨r75,99,[.tmp 2],[],[]⟩
def Va:List RI:=[on 8 (.new (.rc Zq0))]
def U9:List RI:=[omk 11 0,om 12 1,on 13 (.mk [(.byt [] .no)] 24 (ci 2) (ci 2)),om 14 3,oo 15 (.build Zq0 [(0,1,(.t 11)),(1,1,(.t 12)),(2,1,(.t 13)),(3,1,(.t 14))]) [11,12,13,14],on 9 (.new (.rc Zq0)),Sr 4 9 15 [15]]
def U8:List RI:=[om 16 10,oo 17 (Bc .lss 16 2) [16]]
def U7:List RI:=[om 20 2,om 21 10,oo 22 (Ca 124 [.t 20,.t 21]) [20,21],omk 23 22,.grp 23 true [(xi 24 23 true (Mv 1)),(xi 25 23 true (Bc .neq 24 5))] [24],oo 26 (Pf 23 25) [23,25]]
def U6:List FI:=[Fs 0 27 (Fa 2 9),Fs 1 28 (Ld 27),Fm 2 29 10,Fm 3 30 10,Fm 4 31 3,Fz 5 32 (Ca 99 [.t 30,.t 31]),Fs 6 33 (Ia 1 28 29),Fr 7 1 33 32]
def U5:List RI:=[omk 18 10,oo 19 (Bc .add 18 1) [18],omk 10 19]
def PK:RC:=(Sq (So U8 (Kc 17 (Kk [17] .skip) (Kk [1,2,3,10,17] (.exit 0)))) (Sq (Bk 1 (So U7 (Kc 26 (Kk [26] (.flt [0,1,0,0,0,24,63,127] [] U6 [27,28,29,30,31,32,33])) (Kk [26] .skip)))) (.ops U5)))
def U4:RC:=PK
def U3:List RI:=[oo 34 (Lt 4 9) [9],Sr 4 8 34 [34]]
def r76:RC:=(So Va (So U9 (Sq (So Eu (Bk 0 (.loop U4))) (So U3 .ret))))
def F76:FnC:=⟨r76,35,[.cell 8 4 true],[],[]⟩
def U2:List RI:=[oo 0 (.mov (.c (.byt [] .clip))) [0]]
def U1:List RI:=[on 1 (.litB [(.c (.u8 0)),(.c (.u8 0)),(.c (.u8 0)),(.c (.u8 0))]),omk 0 1]
def r77:RC:=(So U2 (So U1 .ret))
def F77:FnC:=⟨r77,2,[.tmp 0],[],[]⟩
def U0:List RI:=[oo 2 (.box (.t 0)) [0],on 4 (.new (.rc Zq0))]
def UZ:List RI:=[on 5 (Lt 4 2),oo 6 (Ca 81 [.t 5]) [5],oo 7 (Bc .neq 6 0) [6],omk 8 7,.grp 8 false [(xi 9 8 false (Fa 0 2)),(xi 10 8 false (Ld 9)),(xi 11 8 false (Bc .eql 10 4))] [9,10],oo 12 (Pt 8 11) [8,11]]
def UY:List RI:=[on 13 (.build Zq0 []),Sr 4 4 13 [13]]
def UX:List FI:=[Fs 0 14 (Fa 0 2),Fs 1 15 (Ld 14),Fs 3 17 (Lt 4 2),Fm 4 18 1,Fs 6 20 (Fa 1 2),Fs 7 21 (Ld 20),Fs 8 22 (Fa 2 2),Fs 9 23 (Ld 22),Fz 2 16 (Ca 55 [.t 15]),Fz 5 19 (Ca 125 [.t 17,.t 18]),Fz 10 24 (Ca 56 [.t 21,.t 23]),Fs 11 25 (.build Zq0 [(0,1,(.t 16)),(1,1,(ci 1)),(2,1,(.t 19)),(3,1,(.t 24))]),Fr 12 4 4 25]
def r78:RC:=(So U0 (Sq (So UZ (Kc 12 (Kk [1,2,12] (So UY .ret)) (Kk [12] .skip))) (Sq (.flt [0,1,3,0,0,31,0,64,0,256,1023,2047,4095] [] UX [1,2,14,15,16,17,18,19,20,21,22,23,24,25]) .ret)))
def F78:FnC:=⟨r78,26,[.cell 4 4 true],[],[]⟩
def UW:List RI:=[oo 1 (.box (.t 0)) [0],oo 2 (.mov (.c (.lst 1 [] .clip))) [2]]
def UV:List RI:=[on 3 (.mov (.c (.lst 1 [] .clip)))]
def UU:List RI:=[om 7 5,on 8 (Fa 3 1),oo 9 (Ld 8) [8],oo 10 (Ln 9) [9],oo 11 (Bb .lss 7 10) [7,10]]
def UT:List RI:=[on 14 (Fa 3 1),oo 15 (Ld 14) [14],om 16 5,oo 17 (Ia 1 15 16) [15,16],oo 18 (Ld 17) [17],omk 6 18]
def US:List RI:=[om 19 6,oo 20 (.bin .eql (.t 19) (.c (.u8 10))) [19]]
def UR:List RI:=[om 21 4,oo 22 (Ln 21) [21],oo 23 (Bc .eql 22 0) [22],omk 24 23,.grp 24 false [(xi 25 24 false (Mv 3)),(xi 26 24 false (Ln 25)),(xi 27 24 false (Bc .geq 26 4))] [25,26],oo 28 (Pt 24 27) [24,27]]
def Ek:List RI:=[on 2 (.mov (.c (.lst 1 [] .clip)))]
def UQ:List RI:=[omk 29 3,omk 30 4,oo 31 (.lit 1 [.t 30]) [30],oo 32 (.app [.byt [] .clip] 24 (.t 29) (.t 31)) [29,31],omk 3 32]
def HT:List RI:=[om 33 6,oo 34 (.bin .lss (.t 33) (.c (.u8 32))) [33],omk 35 34,.grp 35 false [(xi 36 35 false (Mv 6)),(xi 37 35 false (.bin .gtr (.t 36) (.c (.u8 126))))] [36],oo 38 (Pt 35 37) [35,37]]
def HS:List RI:=[omk 39 4,omk 40 6,oo 41 (.litB [.t 40]) [40],oo 42 (.app [.u8 0] 1 (.t 39) (.t 41)) [39,41],omk 4 42]
def HR:List RI:=[omk 12 5,oo 13 (Bc .add 12 1) [12],omk 5 13]
def y7:RC:=(.post (Sq (So UU (Kc 11 (Kk [11] .skip) (Kk [1,5,11] (.exit 0)))) (Sq (Bk 1 (So UT (Sq (So US (Kc 20 (Kk [6,20] (Sq (So UR (Kc 28 (Kk [1,3,4,5,28] (So Ek .ret)) (Kk [28] .skip))) (So UQ (So qB (.exit 1))))) (Kk [20] .skip))) (Sq (So HT (Kc 38 (Kk [1,3,4,5,6,38] (So Ek .ret)) (Kk [38] .skip))) (.ops HS))))) (.ops HR))) [.tok 3 103,.tok 4 104])
def yc:RC:=y7
def HQ:List RI:=[omk 43 4,oo 44 (Ln 43) [43],oo 45 (Bc .gtr 44 0) [44]]
def HP:List RI:=[omk 46 3,omk 2 46]
def r79:RC:=(So UW (So UV (So qB (Sq (So ml (Bk 0 (.pre [.tok 3 103,.tok 4 104] (.loop yc)))) (Sq (So HQ (Kc 45 (Kk [3,45] (So Ek .ret)) (Kk [45] .skip))) (So HP .ret))))))
def F79:FnC:=⟨r79,47,[.tmp 2],[],[]⟩
def mh:List RI:=[oo 2 (.mov (.c (.byt [] .clip))) [2]]
def UP:List RI:=[on 18 (Ca 126 []),on 3 (.new (.arr 1 (aq 64 [.int .u32 0]))),Sr 64 3 18 [18]]
def UO:List RI:=[.own (xs 19 (.lit 1 [(.c (.int .u32 1779033703)),(.c (.int .u32 3144134277)),(.c (.int .u32 1013904242)),(.c (.int .u32 2773480762)),(.c (.int .u32 1359893119)),(.c (.int .u32 2600822924)),(.c (.int .u32 528734635)),(.c (.int .u32 1541459225))])) [],omk 4 19]
def UN:List RI:=[omk 20 0,oo 21 (Ca 127 [.t 20]) [20],omk 5 21]
def UM:List RI:=[om 22 6,om 23 5,oo 24 (Ln 23) [23],oo 25 (Bb .lss 22 24) [22,24]]
def UL:List RI:=[on 7 (.new (.arr 1 (aq 64 [.int .u32 0])))]
def UK:List RI:=[om 28 8,oo 29 (Bc .lss 28 64) [28]]
def UJ:List RI:=[om 32 8,oo 33 (Bc .lss 32 16) [32]]
def HO:List RI:=[om 34 8,om 35 5,om 36 6,om 37 6,oo 38 (Bc .add 37 64) [37],oo 39 (.slcL 1 (.t 35) (some (.t 36)) (some (.t 38)) none) [35,36,38],om 40 8,oo 41 (Ca 128 [.t 39,.t 40]) [39,40],oo 42 (.iaddrA 64 1 (.t 7) (.t 34)) [34],Sr 1 42 41 [41,42]]
def HN:List FI:=[Fm 0 43 8,Fs 1 44 (Bc .sub 43 15),Fs 2 45 (.iaddrA 64 1 (.t 7) (.t 44)),Fs 3 46 (Ld 45),Fm 5 48 8,Fs 6 49 (Bc .sub 48 15),Fs 7 50 (.iaddrA 64 1 (.t 7) (.t 49)),Fs 8 51 (Ld 50),Fm 11 54 8,Fs 12 55 (Bc .sub 54 15),Fs 13 56 (.iaddrA 64 1 (.t 7) (.t 55)),Fs 14 57 (Ld 56),Fs 15 58 (.bin .shr (.t 57) (.c (.int .u64 3))),Fz 4 47 (Ca 129 [.t 46,(.c (.int .u64 7))]),Fz 9 52 (Ca 129 [.t 51,(.c (.int .u64 18))]),Fs 10 53 (Bb .xor 47 52),Fs 16 59 (Bb .xor 53 58),Fm 17 9 59]
def HM:List FI:=[Fm 0 60 8,Fs 1 61 (Bc .sub 60 2),Fs 2 62 (.iaddrA 64 1 (.t 7) (.t 61)),Fs 3 63 (Ld 62),Fm 5 65 8,Fs 6 66 (Bc .sub 65 2),Fs 7 67 (.iaddrA 64 1 (.t 7) (.t 66)),Fs 8 68 (Ld 67),Fm 11 71 8,Fs 12 72 (Bc .sub 71 2),Fs 13 73 (.iaddrA 64 1 (.t 7) (.t 72)),Fs 14 74 (Ld 73),Fs 15 75 (.bin .shr (.t 74) (.c (.int .u64 10))),Fz 4 64 (Ca 129 [.t 63,(.c (.int .u64 17))]),Fz 9 69 (Ca 129 [.t 68,(.c (.int .u64 19))]),Fs 10 70 (Bb .xor 64 69),Fs 16 76 (Bb .xor 70 75),Fm 17 10 76]
def HK:List FI:=[Fm 0 77 8,Fm 1 78 10,Fm 2 79 8,Fs 3 80 (Bc .sub 79 7),Fs 4 81 (.iaddrA 64 1 (.t 7) (.t 80)),Fs 5 82 (Ld 81),Fs 6 83 (Bb .add 78 82),Fm 7 84 9,Fs 8 85 (Bb .add 83 84),Fm 9 86 8,Fs 10 87 (Bc .sub 86 16),Fs 11 88 (.iaddrA 64 1 (.t 7) (.t 87)),Fs 12 89 (Ld 88),Fs 13 90 (Bb .add 85 89),Fs 14 91 (.iaddrA 64 1 (.t 7) (.t 77)),Fr 15 1 91 90]
def HJ:List RI:=[omk 30 8,oo 31 (Bc .add 30 1) [30],omk 8 31]
def y6:RC:=(Sq (So UK (Kc 29 (Kk [29] .skip) (Kk [8,29] (.exit 2)))) (Sq (Bk 3 (Sq (So UJ (Kc 33 (Kk [33] (So HO (.exit 3))) (Kk [33] .skip))) (Sq (.flt [0,1,3,7,15,0,32,96,224,511,1023,0,2048,6144,14336,30720,65535,131071] [] HN [43,44,45,46,47,48,49,50,51,52,53,54,55,56,57,58,59]) (Sq (.flt [0,1,3,7,15,0,32,96,224,511,1023,0,2048,6144,14336,30720,65535,131071] [] HM [60,61,62,63,64,65,66,67,68,69,70,71,72,73,74,75,76]) (.flt [0,0,0,4,12,28,62,0,254,0,512,1536,3584,8190,16383,32767] [] HK [9,10,77,78,79,80,81,82,83,84,85,86,87,88,89,90,91]))))) (.ops HJ)))
def yb:RC:=y6
def HI:List RI:=[on 92 (.lit 1 []),om 93 4,oo 94 (.app [.int .u32 0] 4 (.t 92) (.t 93)) [92,93],omk 11 94]
def HH:List RI:=[om 95 12,oo 96 (Bc .lss 95 64) [95]]
def HG:List FI:=[Fm 0 99 11,Fs 1 100 (.iaddrL 1 (.t 99) (ci 0)),Fs 2 101 (Ld 100),Fm 3 102 11,Fs 4 103 (.iaddrL 1 (.t 102) (ci 4)),Fs 5 104 (Ld 103),Fm 6 13 101,Fm 7 14 104]
def HF:List FI:=[Fm 0 105 11,Fs 1 106 (.iaddrL 1 (.t 105) (ci 7)),Fs 2 107 (Ld 106),Fm 3 108 14,Fm 5 110 14,Fm 8 113 14,Fm 12 117 14,Fm 13 118 11,Fs 14 119 (.iaddrL 1 (.t 118) (ci 5)),Fs 15 120 (Ld 119),Fs 16 121 (Bb .and 117 120),Fm 17 122 14,Fs 18 123 (.un .xor (.t 122)),Fm 19 124 11,Fs 20 125 (.iaddrL 1 (.t 124) (ci 6)),Fs 21 126 (Ld 125),Fs 22 127 (Bb .and 123 126),Fs 23 128 (Bb .xor 121 127),Fm 25 130 12,Fs 26 131 (.iaddrA 64 1 (.t 3) (.t 130)),Fs 27 132 (Ld 131),Fm 29 134 12,Fs 30 135 (.iaddrA 64 1 (.t 7) (.t 134)),Fs 31 136 (Ld 135),Fz 4 109 (Ca 129 [.t 108,(.c (.int .u64 6))]),Fz 6 111 (Ca 129 [.t 110,(.c (.int .u64 11))]),Fs 7 112 (Bb .xor 109 111),Fz 9 114 (Ca 129 [.t 113,(.c (.int .u64 25))]),Fs 10 115 (Bb .xor 112 114),Fs 11 116 (Bb .add 107 115),Fs 24 129 (Bb .add 116 128),Fs 28 133 (Bb .add 129 132),Fs 32 137 (Bb .add 133 136),Fm 33 15 137]
def HE:List FI:=[Fm 0 138 13,Fm 2 140 13,Fm 5 143 13,Fm 8 146 13,Fm 9 147 11,Fs 10 148 (.iaddrL 1 (.t 147) (ci 1)),Fs 11 149 (Ld 148),Fs 12 150 (Bb .and 146 149),Fm 13 151 13,Fm 14 152 11,Fs 15 153 (.iaddrL 1 (.t 152) (ci 2)),Fs 16 154 (Ld 153),Fs 17 155 (Bb .and 151 154),Fs 18 156 (Bb .xor 150 155),Fm 19 157 11,Fs 20 158 (.iaddrL 1 (.t 157) (ci 1)),Fs 21 159 (Ld 158),Fm 22 160 11,Fs 23 161 (.iaddrL 1 (.t 160) (ci 2)),Fs 24 162 (Ld 161),Fs 25 163 (Bb .and 159 162),Fs 26 164 (Bb .xor 156 163),Fz 1 139 (Ca 129 [.t 138,(.c (.int .u64 2))]),Fz 3 141 (Ca 129 [.t 140,(.c (.int .u64 13))]),Fs 4 142 (Bb .xor 139 141),Fz 6 144 (Ca 129 [.t 143,(.c (.int .u64 22))]),Fs 7 145 (Bb .xor 142 144),Fs 27 165 (Bb .add 145 164),Fm 28 16 165]
def HD:List FI:=[Fm 0 166 15,Fm 1 167 16,Fs 2 168 (Bb .add 166 167),Fm 3 169 13,Fm 4 170 11,Fs 5 171 (.iaddrL 1 (.t 170) (ci 1)),Fs 6 172 (Ld 171),Fm 7 173 11,Fs 8 174 (.iaddrL 1 (.t 173) (ci 2)),Fs 9 175 (Ld 174),Fm 10 176 11,Fs 11 177 (.iaddrL 1 (.t 176) (ci 3)),Fs 12 178 (Ld 177),Fm 13 179 15,Fs 14 180 (Bb .add 178 179),Fm 15 181 14,Fm 16 182 11,Fs 17 183 (.iaddrL 1 (.t 182) (ci 5)),Fs 18 184 (Ld 183),Fm 19 185 11,Fs 20 186 (.iaddrL 1 (.t 185) (ci 6)),Fs 21 187 (Ld 186),Fs 22 188 (.lit 1 [.t 168,.t 169,.t 172,.t 175,.t 180,.t 181,.t 184,.t 187]),⟨23,false,(xm 11 188)⟩]
def HC:List RI:=[omk 97 12,oo 98 (Bc .add 97 1) [97],omk 12 98]
def y5:RC:=(Sq (So HH (Kc 96 (Kk [96] .skip) (Kk [7,12,96] (.exit 4)))) (Sq (Bk 5 (Sq (.flt [0,1,3,0,8,24,7,127] [] HG [99,100,101,102,103,104]) (Sq (.flt [0,1,3,0,8,0,56,120,0,376,1016,2047,0,0,8192,24576,61440,0,131072,0,524288,1572864,4063232,8384512,16777215,0,33554432,100663296,268435455,0,536870912,1610612736,4294967295,8589934591] [] HF [105,106,107,108,109,110,111,112,113,114,115,116,117,118,119,120,121,122,123,124,125,126,127,128,129,130,131,132,133,134,135,136,137]) (Sq (.flt [0,1,0,7,15,0,47,127,0,0,512,1536,3840,0,0,16384,49152,122880,261888,0,524288,1572864,0,4194304,12582912,33030144,67108608,134217727,268435455] [] HE [138,139,140,141,142,143,144,145,146,147,148,149,150,151,152,153,154,155,156,157,158,159,160,161,162,163,164,165]) (.flt [0,0,3,0,0,16,48,0,128,384,0,1024,3072,0,15360,0,0,65536,196608,0,524288,1572864,4194303,8388607] [] HD [13,14,15,16,166,167,168,169,170,171,172,173,174,175,176,177,178,179,180,181,182,183,184,185,186,187,188]))))) (.ops HC)))
def ya:RC:=y5
def x9:List RI:=[on 17 (Mc 0)]
def HB:List RI:=[om 189 17,oo 190 (Bc .lss 189 8) [189]]
def Hz:List FI:=[Fm 0 193 4,Fm 1 194 17,Fs 2 195 (Ia 1 193 194),Fs 3 196 (Ld 195),Fm 4 197 11,Fm 5 198 17,Fs 6 199 (Ia 1 197 198),Fs 7 200 (Ld 199),Fs 8 201 (Bb .add 196 200),Fs 9 202 (Ia 1 193 194),Fr 10 1 202 201]
def Hy:List RI:=[omk 191 17,oo 192 (Bc .add 191 1) [191],omk 17 192]
def y0:RC:=(Sq (So HB (Kc 190 (Kk [190] .skip) (Kk [11,17,190] (.exit 6)))) (Sq (Bk 7 (.flt [0,0,3,7,0,0,48,112,255,511,1023] [] Hz [193,194,195,196,197,198,199,200,201,202])) (.ops Hy)))
def x8:RC:=y0
def Hx:List RI:=[omk 26 6,oo 27 (Bc .add 26 64) [26],omk 6 27]
def yZ:RC:=(.post (Sq (So UM (Kc 25 (Kk [25] .skip) (Kk [3,5,6,25] (.exit 0)))) (Sq (Bk 1 (So UL (Sq (So ug (Bk 2 (.loop yb))) (So HI (Sq (So PA (Bk 4 (.loop ya))) (So x9 (Bk 6 (.loop x8)))))))) (.ops Hx))) [.gc [107,194]])
def x7:RC:=yZ
def Hw:List RI:=[omk 203 4,oo 204 (Ca 130 [.t 203]) [203],omk 2 204]
def r80:RC:=(So mh (So UP (So UO (So UN (Sq (So lD (Bk 0 (.loop x7))) (So Hw .ret))))))
def F80:FnC:=⟨r80,205,[.tmp 2],[],[]⟩
def UI:List RI:=[on 3 (Fa 0 1),oo 4 (Ld 3) [3],oo 5 (Bc .lss 4 1) [4],omk 6 5,.grp 6 false [(xi 7 6 false (Fa 0 1)),(xi 8 6 false (Ld 7)),(xi 9 6 false (Bc .gtr 8 4))] [7,8],oo 10 (Pt 6 9) [6,9],omk 11 10,.grp 11 false [(xi 12 11 false (Fa 2 1)),(xi 13 11 false (Ld 12)),(xi 14 11 false (Bc .lss 13 0))] [12,13],oo 15 (Pt 11 14) [11,14],omk 16 15,.grp 16 false [(xi 17 16 false (Fa 2 1)),(xi 18 16 false (Ld 17)),(xi 19 16 false (Bc .gtr 18 1000000))] [17,18],oo 20 (Pt 16 19) [16,19]]
def UH:List RI:=[on 21 (Fa 1 1),oo 22 (Ld 21) [21],oo 23 (Ca 95 [.t 22]) [22],oo 24 (.un .not (.t 23)) [23]]
def UG:List RI:=[on 25 (Fa 3 1),oo 26 (Ld 25) [25],oo 27 (Ln 26) [26],oo 28 (Bc .gtr 27 64) [27]]
def UF:List RI:=[on 29 (Fa 0 1),oo 30 (Ld 29) [29],oo 31 (Bc .eql 30 4) [30],omk 32 31,.grp 32 true [(xi 33 32 true (Lt 4 1)),(xi 34 32 true (Ca 79 [.t 33])),(xi 35 32 true (Ln 34)),(xi 36 32 true (Bc .eql 35 0))] [1,33,34,35],oo 37 (Pf 32 36) [32,36]]
def r81:RC:=(So og (Sq (So UI (Kc 20 (Kk [1,20] (So fI .ret)) (Kk [20] .skip))) (Sq (So UH (Kc 24 (Kk [1,24] (So q9 .ret)) (Kk [24] .skip))) (Sq (So UG (Kc 28 (Kk [1,28] (So iY .ret)) (Kk [28] .skip))) (Sq (So UF (Kc 37 (Kk [37] (So El .ret)) (Kk [37] .skip))) (So jH .ret))))))
def F81:FnC:=⟨r81,38,[.tmp 2],[],[]⟩
def O3:List RI:=[oo 6 (.mov (.c (.byt [] .clip))) [6]]
def UE:List RI:=[on 9 (.litB []),omk 10 0,oo 11 (.app [.u8 0] 1 (.t 9) (.t 10)) [9,10],omk 7 11]
def UD:List RI:=[om 12 1,oo 13 (Bc .lss 12 1) [12],omk 14 13,.grp 14 false [(xi 15 14 false (Mv 1)),(xi 16 14 false (Bc .gtr 15 8))] [15],oo 17 (Pt 14 16) [14,16]]
def UC:List RI:=[omk 18 7,omk 6 18]
def UB:List RI:=[omk 19 1,oo 20 (Bc .sub 19 1) [19],omk 8 20]
def UA:List RI:=[om 21 8,oo 22 (Bc .geq 21 0) [21]]
def Uz:List RI:=[omk 25 7,om 26 2,oo 27 (.toInt .u64 (.t 26)) [26],om 28 8,oo 29 (.toInt .u64 (.t 28)) [28],oo 30 (.bin .mul (.c (.int .u64 8)) (.t 29)) [29],oo 31 (Bb .shr 27 30) [27,30],oo 32 (.toInt .u8 (.t 31)) [31],oo 33 (.litB [.t 32]) [32],oo 34 (.app [.u8 0] 1 (.t 25) (.t 33)) [25,33],omk 7 34]
def Uy:List RI:=[omk 23 8,oo 24 (Bc .sub 23 1) [23],omk 8 24]
def PJ:RC:=(.post (Sq (So UA (Kc 22 (Kk [22] .skip) (Kk [2,8,22] (.exit 0)))) (Sq (Bk 1 (.ops Uz)) (.ops Uy))) [.tok 7 107])
def O2:RC:=PJ
def Ux:List RI:=[omk 35 7,omk 6 35]
def r82:RC:=(So O3 (So UE (Sq (So UD (Kc 17 (Kk [1,2,17] (So UC .ret)) (Kk [17] .skip))) (Sq (So UB (Bk 0 (.pre [.tok 7 107] (.loop O2)))) (So Ux .ret)))))
def F82:FnC:=⟨r82,36,[.tmp 6],[0],[]⟩
def Uw:List RI:=[om 5 1,oo 6 (Ln 5) [5],oo 7 (Bc .gtr 6 65535) [6]]
def Uv:List RI:=[omk 8 1,oo 9 (.slcL 1 (.t 8) none (some (ci 65535)) none) [8],omk 1 9]
def Uu:List RI:=[omk 10 0,om 11 1,oo 12 (Ln 11) [11],oo 13 (Ca 82 [.t 10,ci 2,.t 12]) [10,12],omk 14 1,oo 15 (.app [.u8 0] 1 (.t 13) (.t 14)) [13,14],omk 4 15]
def r83:RC:=(So mi (Sq (So Uw (Kc 7 (Kk [7] (.ops Uv)) (Kk [7] .skip))) (So Uu .ret)))
def F83:FnC:=⟨r83,16,[.tmp 4],[0],[]⟩
def Ut:List RI:=[oo 2 (.box (.t 0)) [0],oo 3 (.box (.t 1)) [1],oo 4 (Mb false) [4]]
def Us:List RI:=[on 5 (Fa 0 2),oo 6 (Ld 5) [5],on 7 (Fa 0 3),oo 8 (Ld 7) [7],oo 9 (Bb .neq 6 8) [6,8]]
def Ur:List RI:=[oo 10 (Fa 0 2) [2],oo 11 (Ld 10) [10],oo 12 (Fa 0 3) [3],oo 13 (Ld 12) [12],oo 14 (Bb .lss 11 13) [11,13],omk 4 14]
def Uq:List RI:=[on 15 (Fa 1 2),oo 16 (Ld 15) [15],on 17 (Fa 1 3),oo 18 (Ld 17) [17],oo 19 (Bb .neq 16 18) [16,18]]
def Up:List RI:=[oo 20 (Fa 1 2) [2],oo 21 (Ld 20) [20],oo 22 (Fa 1 3) [3],oo 23 (Ld 22) [22],oo 24 (Bb .lss 21 23) [21,23],omk 4 24]
def Uo:List RI:=[on 25 (Fa 2 2),oo 26 (Ld 25) [25],on 27 (Fa 2 3),oo 28 (Ld 27) [27],oo 29 (Bb .neq 26 28) [26,28]]
def Un:List RI:=[oo 30 (Fa 2 2) [2],oo 31 (Ld 30) [30],oo 32 (Fa 2 3) [3],oo 33 (Ld 32) [32],oo 34 (Bb .lss 31 33) [31,33],omk 4 34]
def Um:List RI:=[oo 35 (Fa 3 2) [2],oo 36 (Ld 35) [35],oo 37 (Fa 3 3) [3],oo 38 (Ld 37) [37],oo 39 (Ca 63 [.t 36,.t 38]) [36,38],omk 4 39]
def r84:RC:=(So Ut (Sq (So Us (Kc 9 (Kk [9] (So Ur .ret)) (Kk [9] .skip))) (Sq (So Uq (Kc 19 (Kk [19] (So Up .ret)) (Kk [19] .skip))) (Sq (So Uo (Kc 29 (Kk [29] (So Un .ret)) (Kk [29] .skip))) (So Um .ret)))))
def F84:FnC:=⟨r84,40,[.tmp 4],[],[]⟩
def Ul:List RI:=[oo 6 (.mov (.c (.lst 4 [] .clip))) [6]]
def Uk:List RI:=[on 7 (.mov (.c (.lst 4 [] .clip)))]
def Uj:List RI:=[om 8 0,oo 9 (Ca 131 [.t 8]) [8],omk 10 9,.grp 10 true [(xi 11 10 true (Mv 7)),(xi 12 10 true (Ln 11)),(xi 13 10 true (Mv 2)),(xi 14 10 true (Bb .lss 12 13))] [11,12,13],oo 15 (Pf 10 14) [10,14]]
def Ui:List RI:=[omk 16 7,om 17 0,om 18 1,oo 19 (Ca 38 [.t 17,.t 18]) [17,18],oo 20 (.lit 4 [.t 19]) [19],oo 21 (.app Zq0 64 (.t 16) (.t 20)) [16,20],omk 7 21]
def PI:RC:=(.post (Sq (So Uj (Kc 15 (Kk [15] .skip) (Kk [0,1,2,15] (.exit 0)))) (Bk 1 (.ops Ui))) [.tok 7 107])
def O1:RC:=PI
def Uh:List RI:=[omk 22 7,omk 6 22]
def r85:RC:=(So Ul (So Uk (Sq (Bk 0 (.pre [.tok 7 107] (.loop O1))) (So Uh .ret))))
def F85:FnC:=⟨r85,23,[.tmp 6],[],[]⟩
def Ug:List RI:=[on 4 (.build [.str [],.str [],.str [],.str [],.str [],.str []] [(0,1,(.c (.str [97,61,49]))),(1,1,(.c (.str [99,111,117,110,116,61,53]))),(2,1,(.c (.str [99,111,117,110,116,61,49,55]))),(3,1,(.c (.str [104,111,115,116,61,120]))),(4,1,(.c (.str [109,111,100,101,32,98]))),(5,1,(.c (.str [126])))]),on 3 (.new (.arr 1 (aq 6 [.str []]))),Sr 6 3 4 [4]]
def Uf:List RI:=[omk 5 0,oo 6 (Ca 37 [.t 5,ci 6]) [5],oo 7 (.iaddrA 6 1 (.t 3) (.t 6)) [3,6],oo 8 (Ld 7) [7],oo 9 (.s2b (.t 8)) [8],omk 2 9]
def r86:RC:=(So mh (So Ug (So Uf .ret)))
def F86:FnC:=⟨r86,10,[.tmp 2],[],[]⟩
def O0:List RI:=[on 8 (.mk [(.byt [] .no)] 24 (ci 2) (ci 2)),omk 5 8]
def Ue:List RI:=[om 9 6,oo 10 (Bc .lss 9 2) [9]]
def Ud:List RI:=[om 13 0,om 14 6,oo 15 (.toInt .u64 (.t 14)) [14],oo 16 (Bb .shr 13 15) [13,15],oo 17 (Bc .and 16 1) [16],oo 18 (Bc .eql 17 1) [17]]
def Uc:List RI:=[om 19 6,oo 20 (.bin .mul (ci 12) (.t 19)) [19],oo 21 (.bin .add (ci 20) (.t 20)) [20],oo 22 (.mkB (.t 21) (.t 21)) [21],omk 7 22]
def Ub:List RI:=[om 23 7,om 24 1,oo 25 (.cpy 1 (.t 23) (.t 24)) [23,24,25]]
def Ua:List RI:=[om 26 7,oo 27 (Ln 26) [26],oo 28 (Bc .gtr 27 0) [27]]
def T9:List RI:=[om 29 7,om 30 7,oo 31 (Ln 30) [30],oo 32 (Bc .sub 31 1) [31],on 33 (Ia 1 29 32),oo 34 (Ld 33) [33],om 35 6,oo 36 (.toInt .u8 (.t 35)) [35],oo 37 (Bb .xor 34 36) [34,36],oo 38 (Ia 1 29 32) [29,32],Sr 1 38 37 [37,38]]
def T8:List RI:=[om 39 5,om 40 6,omk 41 7,oo 42 (Ia 1 39 40) [39,40],.dir (.pub 41),Sr 1 42 41 [41,42]]
def Hv:List RI:=[omk 11 6,oo 12 (Bc .add 11 1) [11],omk 6 12]
def yY:RC:=(Sq (So Ue (Kc 10 (Kk [10] .skip) (Kk [0,1,6,10] (.exit 0)))) (Sq (Bk 1 (So Ud (Kc 18 (Kk [18] (So Uc (So Ub (Sq (So Ua (Kc 28 (Kk [28] (.ops T9)) (Kk [28] .skip))) (.ops T8))))) (Kk [18] .skip)))) (.ops Hv)))
def Hu:RC:=yY
def Ht:List RI:=[omk 43 5,omk 4 43]
def r87:RC:=(So Ep (So O0 (Sq (So lD (Bk 0 (.loop Hu))) (So Ht .ret))))
def F87:FnC:=⟨r87,44,[.tmp 4],[],[]⟩
def T7:List RI:=[on 4 (Fa 1 1),oo 5 (Ld 4) [4],oo 6 (Bc .eql 5 1) [5],omk 7 6,.grp 7 true [(xi 8 7 true (Fa 0 1)),(xi 9 7 true (Ld 8)),(xi 10 7 true (Bc .eql 9 0))] [8,9],oo 11 (Pf 7 10) [7,10],omk 3 11]
def T6:List RI:=[on 13 (Fa 1 1),oo 14 (Ld 13) [13],oo 15 (Bc .eql 14 1) [14],omk 16 15,.grp 16 true [(xi 17 16 true (Fa 0 1)),(xi 18 16 true (Ld 17)),(xi 19 16 true (Bc .eql 18 4))] [17,18],oo 20 (Pf 16 19) [16,19],omk 12 20]
def T5:List RI:=[on 22 (Fa 1 1),oo 23 (Ld 22) [22],oo 24 (Bc .eql 23 2) [23],omk 25 24,.grp 25 true [(xi 26 25 true (Fa 0 1)),(xi 27 25 true (Ld 26)),(xi 28 25 true (Bc .geq 27 0))] [26,27],oo 29 (Pf 25 28) [25,28],omk 30 29,.grp 30 true [(xi 31 30 true (Fa 0 1)),(xi 32 30 true (Ld 31)),(xi 33 30 true (Bc .lss 32 8))] [31,32],oo 34 (Pf 30 33) [30,33],omk 21 34]
def T4:List RI:=[on 36 (Fa 1 1),oo 37 (Ld 36) [36],oo 38 (Bc .eql 37 1) [37],omk 39 38,.grp 39 true [(xi 40 39 true (Fa 0 1)),(xi 41 39 true (Ld 40)),(xi 42 39 true (Bc .eql 41 8))] [40,41],oo 43 (Pf 39 42) [39,42],omk 35 43]
def T3:List RI:=[on 45 (Fa 1 1),oo 46 (Ld 45) [45],oo 47 (Bc .eql 46 3) [46],omk 48 47,.grp 48 true [(xi 49 48 true (Fa 0 1)),(xi 50 48 true (Ld 49)),(xi 51 48 true (Bc .eql 50 9))] [1,49,50],oo 52 (Pf 48 51) [48,51],omk 44 52]
def r88:RC:=(So og (Sq (Bk 0 (So T7 (Kc 3 (Kk [1,3] (So fI .ret)) (Kk [3] (So T6 (Kc 12 (Kk [1,12] (So Pm .ret)) (Kk [12] (So T5 (Kc 21 (Kk [1,21] (So Pl .ret)) (Kk [21] (So T4 (Kc 35 (Kk [1,35] (So iY .ret)) (Kk [35] (So T3 (Kc 44 (Kk [44] (So yj .ret)) (Kk [44] .skip)))))))))))))))) (So jH .ret)))
def F88:FnC:=⟨r88,53,[.tmp 2],[],[]⟩
def tV:List RI:=[oo 2 (Mb false) [2]]
def T2:List RI:=[omk 3 0,oo 4 (.build Zq1 [(0,1,(ci 1)),(1,1,(.t 3))]) [3],oo 5 (Ca 68 [.t 4]) [4],oo 6 (Bc .eql 5 0) [5],omk 2 6]
def r89:RC:=(So tV (So T2 .ret))
def F89:FnC:=⟨r89,7,[.tmp 2],[],[]⟩
def T1:List RI:=[on 5 (Fa 0 1),oo 6 (Ld 5) [5],oo 7 (Bc .lss 6 1) [6],omk 8 7,.grp 8 false [(xi 9 8 false (Fa 0 1)),(xi 10 8 false (Ld 9)),(xi 11 8 false (Bc .gtr 10 4))] [9,10],oo 12 (Pt 8 11) [8,11]]
def T0:List RI:=[on 13 (Fa 1 1),oo 14 (Ld 13) [13],oo 15 (.len true (.t 14)) [14],on 16 (Mc 0)]
def TZ:List RI:=[on 17 (Bb .lss 16 15)]
def TY:List RI:=[om 18 16,omk 3 18]
def TX:List RI:=[on 19 (Fa 1 1),oo 20 (Ld 19) [19],omk 21 3,oo 22 (.idxS (.t 20) (.t 21)) [20,21],omk 4 22]
def TW:List RI:=[om 23 4,oo 24 (.bin .lss (.t 23) (.c (.u8 32))) [23],omk 25 24,.grp 25 false [(xi 26 25 false (Mv 4)),(xi 27 25 false (.bin .gtr (.t 26) (.c (.u8 126))))] [4,26],oo 28 (Pt 25 27) [25,27]]
def TV:List RI:=[oo 29 (Bc .add 16 1) [16],omk 16 29]
def yX:RC:=(So TZ (Sq (Kc 17 (Kk [17] .skip) (Kk [15,16,17] (.exit 0))) (Sq (Bk 1 (So TY (So TX (So TW (Kc 28 (Kk [1,15,16,28] (So fI .ret)) (Kk [28] .skip)))))) (.ops TV))))
def x6:RC:=yX
def Hs:List RI:=[on 31 (Fa 0 1),oo 32 (Ld 31) [31],oo 33 (Bc .eql 32 4) [32],omk 34 33,.grp 34 true [(xi 35 34 true (Fa 2 1)),(xi 36 34 true (Ld 35)),(xi 37 34 true (Bc .lss 36 0)),(xi 38 34 true (Mv 37))] [35,36,37],.grp 38 false [(xi 39 38 false (Fa 2 1)),(xi 40 38 false (Ld 39)),(xi 41 38 false (Fa 3 1)),(xi 42 38 false (Ld 41)),(xi 43 38 false (Bb .gtr 40 42))] [39,40,41,42],.grp 34 true [(xi 44 34 true (Pt 38 43)),(xi 45 34 true (Mv 44))] [38,43,44],.grp 45 false [(xi 46 45 false (Fa 3 1)),(xi 47 45 false (Ld 46)),(xi 48 45 false (Bc .gtr 47 1000000000))] [46,47],.grp 34 true [(xi 49 34 true (Pt 45 48))] [45,48],oo 50 (Pf 34 49) [34,49],omk 30 50]
def Hr:List RI:=[on 52 (Fa 0 1),oo 53 (Ld 52) [52],oo 54 (Bc .neq 53 4) [53],omk 55 54,.grp 55 true [(xi 56 55 true (Fa 2 1)),(xi 57 55 true (Ld 56)),(xi 58 55 true (Bc .neq 57 0)),(xi 59 55 true (Mv 58))] [56,57,58],.grp 59 false [(xi 60 59 false (Fa 3 1)),(xi 61 59 false (Ld 60)),(xi 62 59 false (Bc .neq 61 0))] [60,61],.grp 55 true [(xi 63 55 true (Pt 59 62))] [59,62],oo 64 (Pf 55 63) [55,63],omk 51 64]
def Hq:List RI:=[on 66 (Fa 0 1),oo 67 (Ld 66) [66],oo 68 (Bc .eql 67 1) [67],omk 69 68,.grp 69 true [(xi 70 69 true (Fa 1 1)),(xi 71 69 true (Ld 70)),(xi 72 69 true (.bin .neq (.t 71) (.c (.str []))))] [70,71],oo 73 (Pf 69 72) [69,72],omk 65 73]
def Hp:List RI:=[oo 75 (Fa 1 1) [1],oo 76 (Ld 75) [75],oo 77 (.len true (.t 76)) [76],oo 78 (Bc .gtr 77 32) [77],omk 74 78]
def r90:RC:=(So og (Sq (So T1 (Kc 12 (Kk [1,12] (So fI .ret)) (Kk [12] .skip))) (Sq (So T0 (Bk 0 (.loop x6))) (Sq (Bk 2 (So Hs (Kc 30 (Kk [1,30] (So fI .ret)) (Kk [30] (So Hr (Kc 51 (Kk [1,51] (So fI .ret)) (Kk [51] (So Hq (Kc 65 (Kk [1,65] (So fI .ret)) (Kk [65] (So Hp (Kc 74 (Kk [74] (So iY .ret)) (Kk [74] .skip))))))))))))) (So jH .ret)))))
def F90:FnC:=⟨r90,79,[.tmp 2],[],[]⟩
def TU:List RI:=[omk 3 0,oo 4 (Ca 132 [.t 3,ci 10]) [3],omk 2 4]
def r91:RC:=(So Em (So TU .ret))
def F91:FnC:=⟨r91,5,[.tmp 2],[],[]⟩
def TT:List RI:=[on 5 (Mc 0),on 6 (Mc 0),on 7 (Mc (-1)),on 8 (Mc 0)]
def TS:List RI:=[om 14 5,om 15 0,oo 16 (.len true (.t 15)) [15],oo 17 (Bb .lss 14 16) [14,16],omk 18 17,.grp 18 true [(xi 19 18 true (Mv 0)),(xi 20 18 true (Mv 5)),(xi 21 18 true (.idxS (.t 19) (.t 20))),(xi 22 18 true (.bin .eql (.t 21) (.c (.u8 42))))] [19,20,21],oo 23 (Pf 18 22) [18,22],omk 13 23]
def TR:List RI:=[om 24 5,om 25 6,omk 26 5,oo 27 (Bc .add 26 1) [26],omk 7 24,omk 8 25,omk 5 27]
def TQ:List FI:=[Fm 0 29 5,Fm 1 30 0,Fs 2 31 (.len true (.t 30)),Fs 3 32 (Bb .lss 29 31),Fm 4 33 32,Fi 5 34 33 true (Mv 0),Fi 6 35 33 true (Mv 5),Fi 7 36 33 true (.idxS (.t 34) (.t 35)),Fi 8 37 33 true (.bin .eql (.t 36) (.c (.u8 63))),Fi 9 38 33 true (Mv 37),Fi 10 39 38 false (Mv 0),Fi 11 40 38 false (Mv 5),Fi 12 41 38 false (.idxS (.t 39) (.t 40)),Fi 13 42 38 false (Mv 1),Fi 14 43 38 false (Mv 6),Fi 15 44 38 false (Ia 1 42 43),Fi 16 45 38 false (Ld 44),Fi 17 46 38 false (Bb .eql 41 45),Fi 18 47 33 true (Pt 38 46),Fs 19 48 (Pf 33 47),Fm 20 28 48]
def TP:List RI:=[omk 49 5,oo 50 (Bc .add 49 1) [49],omk 51 6,oo 52 (Bc .add 51 1) [51],omk 5 50,omk 6 52]
def TO:List RI:=[om 54 7,oo 55 (Bc .geq 54 0) [54],omk 53 55]
def TN:List RI:=[om 56 7,oo 57 (Bc .add 56 1) [56],om 58 8,oo 59 (Bc .add 58 1) [58],omk 60 8,oo 61 (Bc .add 60 1) [60],omk 5 57,omk 6 59,omk 8 61]
def yW:RC:=(Sq (So Pv (Kc 12 (Kk [12] .skip) (Kk [1,6,7,8,12] (.exit 0)))) (Bk 1 (Bk 2 (So TS (Kc 13 (Kk [7,8,13] (.ops TR)) (Kk [13] (Sq (.flt [0,0,2,7,15,31,31,127,255,511,1023,1023,4095,1023,1023,25599,58367,131071,262143,524287,1048575] [] TQ [29,30,31,32,33,34,35,36,37,38,39,40,41,42,43,44,45,46,47,48]) (Kc 28 (Kk [28] (.ops TP)) (Kk [5,6,28] (So TO (Kc 53 (Kk [53] (.ops TN)) (Kk [0,1,7,8,53] (So iO .ret)))))))))))))
def x5:RC:=yW
def Ho:List RI:=[omk 62 0,omk 63 5,oo 64 (.slcS (.t 62) (some (.t 63)) none) [62,63],oo 65 (Ca 133 [.t 64,(.c (.str [42]))]) [64],oo 66 (.bin .eql (.t 65) (.c (.str []))) [65],omk 4 66]
def r92:RC:=(So lE (So TT (Sq (Bk 0 (.loop x5)) (So Ho .ret))))
def F92:FnC:=⟨r92,67,[.tmp 4],[],[]⟩
def OZ:List RI:=[oo 4 (.mov (.c (.str []))) [4],oo 5 (Mb false) [5]]
def TL:List RI:=[omk 6 0,omk 7 1,oo 8 (Ca 134 [.t 6,.t 7]) [6,7],on 9 (.ext (.t 8) 0),oo 10 (.ext (.t 8) 1) [8],omk 4 9,omk 5 10]
def r93:RC:=(So OZ (So TL .ret))
def F93:FnC:=⟨r93,11,[.tmp 4,.tmp 5],[],[]⟩
def TK:List RI:=[om 6 0,oo 7 (.bin .eql (.t 6) (.c (.str []))) [6],omk 8 7,.grp 8 false [(xi 9 8 false (Mv 0)),(xi 10 8 false (.len true (.t 9))),(xi 11 8 false (Bc .gtr 10 10))] [9,10],oo 12 (Pt 8 11) [8,11],omk 13 12,.grp 13 false [(xi 14 13 false (Mv 0)),(xi 15 13 false (.len true (.t 14))),(xi 16 13 false (Bc .gtr 15 1)),(xi 17 13 false (Mv 16))] [14,15,16],.grp 17 true [(xi 18 17 true (Mv 0)),(xi 19 17 true (.idxS (.t 18) (ci 0))),(xi 20 17 true (.bin .eql (.t 19) (.c (.u8 48))))] [18,19],.grp 13 false [(xi 21 13 false (Pf 17 20))] [17,20],oo 22 (Pt 13 21) [13,21]]
def TJ:List RI:=[om 23 0,oo 24 (.len true (.t 23)) [23],on 25 (Mc 0)]
def TI:List RI:=[on 26 (Bb .lss 25 24)]
def TH:List RI:=[om 27 25,omk 3 27]
def TG:List RI:=[om 28 0,om 29 3,oo 30 (.idxS (.t 28) (.t 29)) [28,29],oo 31 (.bin .lss (.t 30) (.c (.u8 48))) [30],omk 32 31,.grp 32 false [(xi 33 32 false (Mv 0)),(xi 34 32 false (Mv 3)),(xi 35 32 false (.idxS (.t 33) (.t 34))),(xi 36 32 false (.bin .gtr (.t 35) (.c (.u8 57))))] [3,33,34,35],oo 37 (Pt 32 36) [32,36]]
def TF:List RI:=[oo 38 (Bc .add 25 1) [25],omk 25 38]
def PH:RC:=(So TI (Sq (Kc 26 (Kk [26] .skip) (Kk [24,25,26] (.exit 0))) (Sq (Bk 1 (So TH (So TG (Kc 37 (Kk [0,24,25,37] (So ow .ret)) (Kk [37] .skip))))) (.ops TF))))
def OY:RC:=PH
def Hn:List RI:=[omk 40 0,oo 41 (Ca 135 [.t 40]) [40],omk 39 41,on 42 (.ext (.t 39) 0),oo 43 (.ext (.t 39) 1) [39],omk 4 42,.op (xm 5 43) [5,43]]
def Hm:List RI:=[omk 44 4,omk 2 44]
def r94:RC:=(So mj (Sq (So TK (Kc 22 (Kk [0,22] (So ow .ret)) (Kk [22] .skip))) (Sq (So TJ (Bk 0 (.loop OY))) (So Hn (So Hm .ret)))))
def F94:FnC:=⟨r94,45,[.tmp 2],[],[]⟩
def TE:List RI:=[om 5 0,oo 6 (.len true (.t 5)) [5],oo 7 (Bc .lss 6 1) [6],omk 8 7,.grp 8 false [(xi 9 8 false (Mv 0)),(xi 10 8 false (.len true (.t 9))),(xi 11 8 false (Bc .gtr 10 12))] [9,10],oo 12 (Pt 8 11) [8,11]]
def TD:List RI:=[om 13 3,om 14 0,oo 15 (.len true (.t 14)) [14],oo 16 (Bb .lss 13 15) [13,15]]
def TC:List RI:=[om 19 0,om 20 3,oo 21 (.idxS (.t 19) (.t 20)) [19,20],omk 4 21]
def TB:List RI:=[om 22 4,oo 23 (.bin .lss (.t 22) (.c (.u8 97))) [22],omk 24 23,.grp 24 false [(xi 25 24 false (Mv 4)),(xi 26 24 false (.bin .gtr (.t 25) (.c (.u8 122))))] [25],oo 27 (Pt 24 26) [24,26],omk 28 27,.grp 28 true [(xi 29 28 true (Mv 4)),(xi 30 28 true (.bin .lss (.t 29) (.c (.u8 48)))),(xi 31 28 true (Mv 30))] [29,30],.grp 31 false [(xi 32 31 false (Mv 4)),(xi 33 31 false (.bin .gtr (.t 32) (.c (.u8 57))))] [32],.grp 28 true [(xi 34 28 true (Pt 31 33))] [31,33],oo 35 (Pf 28 34) [28,34],omk 36 35,.grp 36 true [(xi 37 36 true (Mv 4)),(xi 38 36 true (.bin .neq (.t 37) (.c (.u8 45))))] [4,37],oo 39 (Pf 36 38) [36,38]]
def OX:List RI:=[omk 17 3,oo 18 (Bc .add 17 1) [17],omk 3 18]
def PG:RC:=(Sq (So TD (Kc 16 (Kk [16] .skip) (Kk [0,3,16] (.exit 0)))) (Sq (Bk 1 (So TC (So TB (Kc 39 (Kk [0,3,39] (So kE .ret)) (Kk [39] .skip))))) (.ops OX)))
def OW:RC:=PG
def r95:RC:=(So tV (Sq (So TE (Kc 12 (Kk [0,12] (So kE .ret)) (Kk [12] .skip))) (Sq (So q8 (Bk 0 (.loop OW))) (So ua .ret))))
def F95:FnC:=⟨r95,40,[.tmp 2],[],[]⟩
def TA:List RI:=[on 4 (Fa 0 1),oo 5 (Ld 4) [4],oo 6 (Bc .lss 5 1) [5],omk 7 6,.grp 7 false [(xi 8 7 false (Fa 0 1)),(xi 9 7 false (Ld 8)),(xi 10 7 false (Bc .gtr 9 4))] [8,9],oo 11 (Pt 7 10) [7,10]]
def Tz:List RI:=[om 12 3,on 13 (Fa 1 1),oo 14 (Ld 13) [13],oo 15 (.len true (.t 14)) [14],oo 16 (Bb .lss 12 15) [12,15]]
def Ty:List RI:=[on 19 (Fa 1 1),oo 20 (Ld 19) [19],om 21 3,oo 22 (.idxS (.t 20) (.t 21)) [20,21],oo 23 (.bin .lss (.t 22) (.c (.u8 32))) [22],omk 24 23,.grp 24 false [(xi 25 24 false (Fa 1 1)),(xi 26 24 false (Ld 25)),(xi 27 24 false (Mv 3)),(xi 28 24 false (.idxS (.t 26) (.t 27))),(xi 29 24 false (.bin .gtr (.t 28) (.c (.u8 126))))] [25,26,27,28],oo 30 (Pt 24 29) [24,29]]
def PF:RC:=(Sq (So Tz (Kc 16 (Kk [16] .skip) (Kk [3,16] (.exit 0)))) (Sq (Bk 1 (So Ty (Kc 30 (Kk [1,3,30] (So fI .ret)) (Kk [30] .skip)))) (.ops OX)))
def OV:RC:=PF
def Tx:List RI:=[on 31 (Fa 0 1),oo 32 (Ld 31) [31],oo 33 (Bc .eql 32 4) [32]]
def Hl:List RI:=[on 34 (Fa 2 1),oo 35 (Ld 34) [34],oo 36 (Bc .lss 35 0) [35],omk 37 36,.grp 37 false [(xi 38 37 false (Fa 2 1)),(xi 39 37 false (Ld 38)),(xi 40 37 false (Fa 3 1)),(xi 41 37 false (Ld 40)),(xi 42 37 false (Bb .gtr 39 41))] [38,39,40,41],oo 43 (Pt 37 42) [37,42],omk 44 43,.grp 44 false [(xi 45 44 false (Fa 3 1)),(xi 46 44 false (Ld 45)),(xi 47 44 false (Bc .gtr 46 1000000000))] [45,46],oo 48 (Pt 44 47) [44,47]]
def Hk:List RI:=[on 49 (Fa 2 1),oo 50 (Ld 49) [49],oo 51 (Bc .neq 50 0) [50],omk 52 51,.grp 52 false [(xi 53 52 false (Fa 3 1)),(xi 54 52 false (Ld 53)),(xi 55 52 false (Bc .neq 54 0))] [53,54],oo 56 (Pt 52 55) [52,55]]
def Hj:List RI:=[on 57 (Fa 0 1),oo 58 (Ld 57) [57],oo 59 (Bc .eql 58 1) [58],omk 60 59,.grp 60 true [(xi 61 60 true (Fa 1 1)),(xi 62 60 true (Ld 61)),(xi 63 60 true (.bin .neq (.t 62) (.c (.str []))))] [61,62],oo 64 (Pf 60 63) [60,63]]
def Hi:List RI:=[oo 65 (Fa 1 1) [1],oo 66 (Ld 65) [65],oo 67 (.len true (.t 66)) [66],oo 68 (Bc .gtr 67 32) [67]]
def r96:RC:=(So og (Sq (So TA (Kc 11 (Kk [1,11] (So fI .ret)) (Kk [11] .skip))) (Sq (So q8 (Bk 0 (.loop OV))) (Sq (So Tx (Kc 33 (Kk [33] (So Hl (Kc 48 (Kk [1,48] (So fI .ret)) (Kk [48] .skip)))) (Kk [33] (So Hk (Kc 56 (Kk [1,56] (So fI .ret)) (Kk [56] .skip)))))) (Sq (So Hj (Kc 64 (Kk [1,64] (So fI .ret)) (Kk [64] .skip))) (Sq (So Hi (Kc 68 (Kk [68] (So iY .ret)) (Kk [68] .skip))) (So jH .ret)))))))
def F96:FnC:=⟨r96,69,[.tmp 2],[],[]⟩
def OU:List RI:=[om 3 0,oo 4 (Bc .lss 3 10) [3]]
def Tw:List RI:=[omk 5 0,oo 6 (.bin .add (ci 48) (.t 5)) [5],oo 7 (.toInt .u8 (.t 6)) [6],oo 8 (.litB [.t 7]) [7],omk 2 8]
def Tv:List RI:=[om 9 0,oo 10 (Bc .quo 9 10) [9],oo 11 (Ca 97 [.t 10]) [10],omk 12 0,oo 13 (Bc .rem 12 10) [12],oo 14 (.bin .add (ci 48) (.t 13)) [13],oo 15 (.toInt .u8 (.t 14)) [14],oo 16 (.litB [.t 15]) [15],oo 17 (.app [.u8 0] 1 (.t 11) (.t 16)) [11,16],omk 2 17]
def r97:RC:=(So mh (Sq (So OU (Kc 4 (Kk [4] (So Tw .ret)) (Kk [4] .skip))) (So Tv .ret)))
def F97:FnC:=⟨r97,18,[.tmp 2],[0],[]⟩
def Tu:List RI:=[om 4 3,om 5 0,oo 6 (Ln 5) [5],oo 7 (Bb .lss 4 6) [4,6]]
def Tt:List RI:=[om 10 0,om 11 3,oo 12 (Ia 1 10 11) [10,11],oo 13 (Ld 12) [12],oo 14 (.bin .lss (.t 13) (.c (.u8 32))) [13],omk 15 14,.grp 15 false [(xi 16 15 false (Mv 0)),(xi 17 15 false (Mv 3)),(xi 18 15 false (Ia 1 16 17)),(xi 19 15 false (Ld 18)),(xi 20 15 false (.bin .gtr (.t 19) (.c (.u8 126))))] [16,17,18,19],oo 21 (Pt 15 20) [15,20]]
def Ts:List RI:=[omk 8 3,oo 9 (Bc .add 8 1) [8],omk 3 9]
def PE:RC:=(Sq (So Tu (Kc 7 (Kk [7] .skip) (Kk [3,7] (.exit 0)))) (Sq (Bk 1 (So Tt (Kc 21 (Kk [0,3,21] (So kE .ret)) (Kk [21] .skip)))) (.ops Ts)))
def OT:RC:=PE
def Tr:List RI:=[omk 22 0,oo 23 (Ln 22) [22],oo 24 (Bc .gtr 23 0) [23],omk 2 24]
def r98:RC:=(So tV (Sq (So q8 (Bk 0 (.loop OT))) (So Tr .ret)))
def F98:FnC:=⟨r98,25,[.tmp 2],[],[]⟩
def Tq:List RI:=[omk 5 0]
def Tp:List RI:=[on 7 (Bc .eql 5 0),omk 6 7]
def To:List RI:=[omk 8 1,oo 9 (Ca 136 [.t 8]) [8],omk 4 9]
def Tn:List RI:=[oo 11 (Bc .eql 5 1) [5],omk 10 11]
def Tm:List RI:=[omk 12 1,oo 13 (Ca 80 [.t 12]) [12],omk 4 13]
def r99:RC:=(So mi (Sq (So Tq (Bk 0 (So Tp (Kc 6 (Kk [5,6] (So To .ret)) (Kk [6] (So Tn (Kc 10 (Kk [10] (So Tm .ret)) (Kk [1,10] .skip)))))))) (So qB .ret)))
def F99:FnC:=⟨r99,14,[.tmp 4],[],[]⟩
def Oe:List RI:=[om 9 1,oo 10 (Ln 9) [9],oo 11 (Bc .add 10 1) [10],oo 12 (.mk [.bool false] 1 (.t 11) (.t 11)) [11],omk 5 12]
def Od:List RI:=[om 13 5,oo 14 (.iaddrL 1 (.t 13) (ci 0)) [13],.op ⟨none,none,.store 1 (.t 14) (.c (.bool true))⟩ [14]]
def Oc:List RI:=[om 15 6,om 16 0,oo 17 (.len true (.t 16)) [16],oo 18 (Bb .lss 15 17) [15,17]]
def Ob:List RI:=[om 21 1,oo 22 (Ln 21) [21],oo 23 (Bc .add 22 1) [22],oo 24 (.mk [.bool false] 1 (.t 23) (.t 23)) [23],omk 7 24]
def Oa:List RI:=[om 25 8,om 26 1,oo 27 (Ln 26) [26],oo 28 (Bb .leq 25 27) [25,27]]
def N9:List RI:=[om 32 0,om 33 6,oo 34 (.idxS (.t 32) (.t 33)) [32,33],oo 35 (.bin .eql (.t 34) (.c (.u8 42))) [34],omk 31 35]
def N8:List RI:=[om 36 7,om 37 8,om 38 5,om 39 8,oo 40 (Ia 1 38 39) [38,39],oo 41 (Ld 40) [40],omk 42 41,.grp 42 false [(xi 43 42 false (Mv 8)),(xi 44 42 false (Bc .gtr 43 0)),(xi 45 42 false (Mv 44))] [43,44],.grp 45 true [(xi 46 45 true (Mv 7)),(xi 47 45 true (Mv 8)),(xi 48 45 true (Bc .sub 47 1)),(xi 49 45 true (Ia 1 46 48)),(xi 50 45 true (Ld 49))] [46,47,48,49],.grp 42 false [(xi 51 42 false (Pf 45 50))] [45,50],oo 52 (Pt 42 51) [42,51],oo 53 (Ia 1 36 37) [36,37],Sr 1 53 52 [52,53]]
def Cq:List RI:=[om 55 8,oo 56 (Bc .gtr 55 0) [55],omk 54 56]
def Cp:List FI:=[Fm 0 57 7,Fm 1 58 8,Fm 2 59 5,Fm 3 60 8,Fs 4 61 (Bc .sub 60 1),Fs 5 62 (Ia 1 59 61),Fs 6 63 (Ld 62),Fm 7 64 63,Fi 8 65 64 true (Mv 0),Fi 9 66 64 true (Mv 6),Fi 10 67 64 true (.idxS (.t 65) (.t 66)),Fi 11 68 64 true (.bin .eql (.t 67) (.c (.u8 63))),Fi 12 69 64 true (Mv 68),Fi 13 70 69 false (Mv 0),Fi 14 71 69 false (Mv 6),Fi 15 72 69 false (.idxS (.t 70) (.t 71)),Fi 16 73 69 false (Mv 1),Fi 17 74 69 false (Mv 8),Fi 18 75 69 false (Bc .sub 74 1),Fi 19 76 69 false (Ia 1 73 75),Fi 20 77 69 false (Ld 76),Fi 21 78 69 false (Bb .eql 72 77),Fi 22 79 64 true (Pt 69 78),Fs 23 80 (Pf 64 79),Fs 24 81 (Ia 1 57 58),Fr 25 1 81 80]
def Co:List RI:=[omk 29 8,oo 30 (Bc .add 29 1) [29],omk 8 30]
def tG:RC:=(Sq (So Oa (Kc 28 (Kk [28] .skip) (Kk [5,8,28] (.exit 2)))) (Sq (Bk 3 (Bk 4 (So N9 (Kc 31 (Kk [31] (.ops N8)) (Kk [31] (So Cq (Kc 54 (Kk [54] (.flt [0,0,0,0,8,28,60,124,252,252,1020,2044,4092,8188,8188,32764,8188,8188,139260,466940,991228,2097148,4194300,8388604,16777215,33554431] [] Cp [57,58,59,60,61,62,63,64,65,66,67,68,69,70,71,72,73,74,75,76,77,78,79,80,81])) (Kk [54] .skip)))))))) (.ops Co)))
def sR:RC:=tG
def Cn:List RI:=[omk 82 7,omk 5 82]
def Cm:List RI:=[omk 19 6,oo 20 (Bc .add 19 1) [19],omk 6 20]
def tF:RC:=(.post (Sq (So Oc (Kc 18 (Kk [18] .skip) (Kk [0,6,18] (.exit 0)))) (Sq (Bk 1 (So Ob (Sq (So ug (Bk 2 (.loop sR))) (.ops Cn)))) (.ops Cm))) [.pub 5])
def sQ:RC:=tF
def Cl:List RI:=[omk 83 5,omk 84 1,oo 85 (Ln 84) [84],oo 86 (Ia 1 83 85) [83,85],oo 87 (Ld 86) [86],omk 4 87]
def xk7:RC:=(So lE (So Oe (So Od (Sq (So lD (Bk 0 (.pre [.pub 5] (.loop sQ)))) (So Cl .ret)))))
def xb0:FnC:=⟨xk7,88,[.tmp 4],[],[]⟩
def N7:List RI:=[on 8 (Lt 7 1),oo 9 (Ca 44 [.t 8]) [8],oo 10 (Bc .neq 9 0) [9]]
def N6:List RI:=[on 11 (Ca 117 [(.c (.byt [] .clip)),ci 1,ci 21]),omk 3 11]
def N5:List RI:=[omk 12 3,on 13 (Fa 0 1),oo 14 (Ld 13) [13],oo 15 (.s2b (.t 14)) [14],oo 16 (Ca 118 [.t 12,.t 15]) [12,15],omk 3 16]
def N4:List FI:=[Fm 0 17 3,Fs 1 18 (Fa 1 1),Fs 2 19 (Ld 18),Fs 4 21 (Fa 2 1),Fs 5 22 (Ld 21),Fz 3 20 (Ca 117 [.t 17,ci 4,.t 19]),Fz 6 23 (Ca 117 [.t 20,ci 4,.t 22]),⟨7,false,(xm 3 23)⟩]
def N3:List FI:=[Fm 0 24 3,Fs 1 25 (Fa 3 1),Fs 2 26 (Ld 25),Fs 4 28 (Fa 4 1),Fs 5 29 (Ld 28),Fz 3 27 (Ca 117 [.t 24,ci 6,.t 26]),Fz 6 30 (Ca 117 [.t 27,ci 6,.t 29]),⟨7,false,(xm 3 30)⟩]
def N2:List RI:=[omk 31 3,on 32 (Fa 5 1),oo 33 (Ld 32) [32],oo 34 (Ln 33) [33],oo 35 (Ca 117 [.t 31,ci 1,.t 34]) [31,34],omk 3 35]
def N1:List RI:=[on 36 (Fa 5 1),oo 37 (Ld 36) [36],on 38 (Ln 37),on 39 (Mc 0)]
def N0:List RI:=[on 40 (Bb .lss 39 38)]
def Ck:List RI:=[on 41 (Ia 4 37 39),oo 42 (Lt 4 41) [41],on 5 (.new (.rc Zq1)),Sr 4 5 42 [42]]
def Cj:List FI:=[Fm 0 43 3,Fs 1 44 (Fa 0 5),Fs 2 45 (Ld 44),Fs 4 47 (Fa 1 5),Fs 5 48 (Ld 47),Fs 6 49 (.s2b (.t 48)),Fz 3 46 (Ca 117 [.t 43,ci 1,.t 45]),Fz 7 50 (Ca 118 [.t 46,.t 49]),⟨8,false,(xm 3 50)⟩]
def Ci:List FI:=[Fm 0 51 3,Fs 1 52 (Fa 2 5),Fs 2 53 (Ld 52),Fs 4 55 (Fa 3 5),Fs 5 56 (Ld 55),Fz 3 54 (Ca 117 [.t 51,ci 4,.t 53]),Fz 6 57 (.app [.u8 0] 1 (.t 54) (.t 56)),⟨7,false,(xm 3 57)⟩]
def Ch:List RI:=[oo 58 (Bc .add 39 1) [39],omk 39 58]
def tE:RC:=(.post (So N0 (Sq (Kc 40 (Kk [40] .skip) (Kk [37,38,39,40] (.exit 0))) (Sq (Bk 1 (So Ck (Sq (.flt [0,0,2,7,0,16,48,127,255] [] Cj [43,44,45,46,47,48,49,50]) (.flt [0,0,2,7,0,16,63,127] [157] Ci [5,51,52,53,54,55,56,57])))) (.ops Ch)))) [.gc [105],.gcr 47000 48000,.gcr 55000 56000,.tok 3 103])
def mM:RC:=tE
def Cg:List RI:=[omk 59 3,on 60 (Fa 6 1),oo 61 (Ld 60) [60],oo 62 (Ln 61) [61],oo 63 (Ca 117 [.t 59,ci 1,.t 62]) [59,62],omk 3 63]
def Cf:List RI:=[oo 64 (Fa 6 1) [1],oo 65 (Ld 64) [64],on 66 (Ln 65),on 67 (Mc 0)]
def Ce:List RI:=[on 68 (Bb .lss 67 66)]
def Cd:List RI:=[on 69 (Ia 4 65 67),oo 70 (Lt 4 69) [69],on 7 (.new (.rc Zq3)),Sr 4 7 70 [70]]
def Cc:List FI:=[Fm 0 71 3,Fs 1 72 (Fa 0 7),Fs 2 73 (Ld 72),Fs 4 75 (Fa 1 7),Fs 5 76 (Ld 75),Fs 6 77 (.s2b (.t 76)),Fz 3 74 (Ca 117 [.t 71,ci 1,.t 73]),Fz 7 78 (Ca 118 [.t 74,.t 77]),⟨8,false,(xm 3 78)⟩]
def Cb:List FI:=[Fm 0 79 3,Fs 1 80 (Fa 2 7),Fs 2 81 (Ld 80),Fs 4 83 (Fa 3 7),Fs 5 84 (Ld 83),Fz 3 82 (Ca 117 [.t 79,ci 4,.t 81]),Fz 6 85 (Ca 117 [.t 82,ci 4,.t 84]),⟨7,false,(xm 3 85)⟩]
def B0:List RI:=[oo 86 (Bc .add 67 1) [67],omk 67 86]
def tz:RC:=(.post (So Ce (Sq (Kc 68 (Kk [68] .skip) (Kk [65,66,67,68] (.exit 2))) (Sq (Bk 3 (So Cd (Sq (.flt [0,0,2,7,0,16,48,127,255] [] Cc [71,72,73,74,75,76,77,78]) (.flt [0,0,2,7,0,16,63,127] [] Cb [7,79,80,81,82,83,84,85])))) (.ops B0)))) [.gc [107],.gcr 75000 76000,.gcr 83000 84000])
def mL:RC:=tz
def BZ:List RI:=[omk 87 3,omk 2 87]
def xk6:RC:=(So uf (Sq (So N7 (Kc 10 (Kk [1,10] (So ue .ret)) (Kk [10] .skip))) (So N6 (So N5 (Sq (.flt [0,0,2,7,0,16,63,127] [] N4 [17,18,19,20,21,22,23]) (Sq (.flt [0,0,2,7,0,16,63,127] [] N3 [24,25,26,27,28,29,30]) (So N2 (Sq (So N1 (Bk 0 (.pre [.tok 3 103] (.loop mM)))) (So Cg (Sq (So Cf (Bk 2 (.loop mL))) (So BZ .ret)))))))))))
def xbZ:FnC:=⟨xk6,88,[.tmp 2],[],[]⟩
def NZ:List RI:=[omk 5 0,omk 6 1,oo 7 (Ca 137 [.t 5,.t 6]) [5,6],oo 8 (Ca 69 [ci 1,.t 7]) [7],omk 4 8]
def xk5:RC:=(So mi (So NZ .ret))
def xbY:FnC:=⟨xk5,9,[.tmp 4],[],[]⟩
def NY:List RI:=[on 0 (.new (.arr 1 (aq 3 [.str []])))]
def NX:List RI:=[on 1 (.build [.str [],.str [],.str []] [(0,1,(.c (.str [97,99,109,101]))),(1,1,(.c (.str [118,50]))),(2,1,(.c (.str [120,45,121])))]),Sr 3 0 1 [1]]
def xk4:RC:=(So NY (So NX .ret))
def xbX:FnC:=⟨xk4,2,[.cell 0 3 true],[],[]⟩
def NW:List RI:=[on 2 (.new (.rc Zq3))]
def NV:List RI:=[om 5 0,oo 6 (Ca 37 [.t 5,ci 5]) [5]]
def NU:List RI:=[on 8 (Bc .eql 6 0),omk 7 8]
def NT:List RI:=[on 9 (.build Zq3 [(0,1,(ci 1))]),Sr 4 2 9 [9]]
def NS:List RI:=[on 11 (Bc .eql 6 1),omk 10 11]
def NR:List RI:=[omk 12 0,oo 13 (Ca 86 [.t 12]) [12],oo 14 (.b2s (.t 13)) [13],oo 15 (.build Zq3 [(0,1,(ci 2)),(1,1,(.t 14))]) [14],Sr 4 2 15 [15]]
def NQ:List RI:=[oo 17 (Bc .eql 6 2) [6],omk 16 17]
def NP:List RI:=[on 18 (.build [.str [],.str [],.str [],.str [],.str [],.str [],.str []] [(0,1,(.c (.str []))),(1,1,(.c (.str [42]))),(2,1,(.c (.str [97,61,63]))),(3,1,(.c (.str [42,61,42]))),(4,1,(.c (.str [63,111,42,53]))),(5,1,(.c (.str [99,111,117,110,116,61,63,63]))),(6,1,(.c (.str [42,97,42,42,49,42])))]),on 3 (.new (.arr 1 (aq 7 [.str []]))),Sr 7 3 18 [18]]
def NO:List RI:=[omk 19 0,oo 20 (Ca 37 [.t 19,ci 7]) [19],oo 21 (.iaddrA 7 1 (.t 3) (.t 20)) [3,20],oo 22 (Ld 21) [21],oo 23 (.build Zq3 [(0,1,(ci 3)),(1,1,(.t 22))]) [22],Sr 4 2 23 [23]]
def NN:List RI:=[om 24 0,oo 25 (Ca 37 [.t 24,ci 20]) [24],omk 4 25]
def BY:List FI:=[Fs 0 26 (.build [.str [],.str [],.str []] [(0,1,(.c (.str [99,111,117,110,116,61]))),(1,1,(.c (.str [97,61]))),(2,1,(.c (.str [])))]),Fm 1 27 0,Fm 4 30 4,Fm 5 31 4,Fm 6 32 0,Fz 2 28 (Ca 37 [.t 27,ci 3]),Fs 3 29 (.idxA 3 1 false (.t 26) (.t 28)),Fz 7 33 (Ca 37 [.t 32,ci 30]),Fs 8 34 (Bb .add 31 33),Fs 9 35 (.build Zq3 [(0,1,(ci 4)),(1,1,(.t 29)),(2,1,(.t 30)),(3,1,(.t 34))]),Fr 10 4 2 35]
def xk3:RC:=(So NW (Sq (So NV (Bk 0 (So NU (Kc 7 (Kk [0,6,7] (So NT .ret)) (Kk [7] (So NS (Kc 10 (Kk [6,10] (So NR .ret)) (Kk [10] (So NQ (Kc 16 (Kk [16] (So NP (So NO .ret))) (Kk [16] .skip))))))))))) (So NN (Sq (.flt [0,0,2,7,0,0,0,70,230,511,1023] [] BY [0,4,26,27,28,29,30,31,32,33,34,35]) .ret))))
def xbW:FnC:=⟨xk3,36,[.cell 2 4 true],[],[]⟩
def NM:List RI:=[on 0 (.new (.arr 1 (aq 5 [.str []])))]
def NL:List RI:=[on 1 (.build [.str [],.str [],.str [],.str [],.str []] [(0,1,(.c (.str [97]))),(1,1,(.c (.str [103,114,117,98]))),(2,1,(.c (.str [108,105,110,117,120]))),(3,1,(.c (.str [110,101,116,45,48]))),(4,1,(.c (.str [116,119,101,108,118,101,45,98,121,116,101,115])))]),Sr 5 0 1 [1]]
def xk2:RC:=(So NM (So NL .ret))
def xbV:FnC:=⟨xk2,2,[.cell 0 5 true],[],[]⟩
def yK:List RI:=[on 3 (.mov (.c (.byt [] .clip)))]
def NK:List RI:=[om 5 0,oo 6 (Ca 37 [.t 5,ci 4]) [5],oo 7 (.bin .add (ci 1) (.t 6)) [6],omk 4 7]
def NJ:List RI:=[om 8 4,oo 9 (Bc .gtr 8 0) [8]]
def NI:List RI:=[omk 12 3,om 13 0,oo 14 (Ca 86 [.t 13]) [13],oo 15 (.app [.u8 0] 1 (.t 12) (.t 14)) [12,14],on 16 (.litB [(.c (.u8 10))]),oo 17 (.app [.u8 0] 1 (.t 15) (.t 16)) [15,16],omk 3 17]
def NH:List RI:=[omk 10 4,oo 11 (Bc .sub 10 1) [10],omk 4 11]
def zY:RC:=(.post (Sq (So NJ (Kc 9 (Kk [9] .skip) (Kk [0,4,9] (.exit 0)))) (Sq (Bk 1 (.ops NI)) (.ops NH))) [.gc [115],.tok 3 103])
def yJ:RC:=zY
def NG:List RI:=[omk 18 3,omk 2 18]
def xk1:RC:=(So mh (So yK (Sq (So NK (Bk 0 (.pre [.tok 3 103] (.loop yJ)))) (So NG .ret))))
def xbU:FnC:=⟨xk1,19,[.tmp 2],[],[]⟩
def NF:List RI:=[omk 8 0,oo 9 (.toInt .u8 (.t 8)) [8],oo 10 (.litB [.t 9]) [9],omk 5 10]
def NE:List RI:=[om 11 6,om 12 1,oo 13 (Ln 12) [12],oo 14 (Bb .lss 11 13) [11,13]]
def ND:List RI:=[om 17 1,om 18 6,oo 19 (Ia 1 17 18) [17,18],oo 20 (Ld 19) [19],oo 21 (Ln 20) [20],omk 7 21]
def NC:List RI:=[omk 22 5,om 23 7,oo 24 (.bin .shr (.t 23) (.c (.int .u64 24))) [23],oo 25 (.toInt .u8 (.t 24)) [24],om 26 7,oo 27 (.bin .shr (.t 26) (.c (.int .u64 16))) [26],oo 28 (.toInt .u8 (.t 27)) [27],om 29 7,oo 30 (.bin .shr (.t 29) (.c (.int .u64 8))) [29],oo 31 (.toInt .u8 (.t 30)) [30],omk 32 7,oo 33 (.toInt .u8 (.t 32)) [32],oo 34 (.litB [.t 25,.t 28,.t 31,.t 33]) [25,28,31,33],oo 35 (.app [.u8 0] 1 (.t 22) (.t 34)) [22,34],omk 5 35]
def NB:List RI:=[omk 36 5,om 37 1,om 38 6,oo 39 (Ia 1 37 38) [37,38],oo 40 (Ld 39) [39],oo 41 (.app [.u8 0] 1 (.t 36) (.t 40)) [36,40],omk 5 41]
def NA:List RI:=[omk 15 6,oo 16 (Bc .add 15 1) [15],omk 6 16]
def zX:RC:=(.post (Sq (So NE (Kc 14 (Kk [14] .skip) (Kk [1,6,14] (.exit 0)))) (Sq (Bk 1 (So ND (So NC (.ops NB)))) (.ops NA))) [.tok 5 105])
def Nz:RC:=zX
def Ny:List RI:=[omk 42 5,omk 4 42]
def xk0:RC:=(So mi (So NF (Sq (So lD (Bk 0 (.pre [.tok 5 105] (.loop Nz)))) (So Ny .ret))))
def xbT:FnC:=⟨xk0,43,[.tmp 4],[],[]⟩
def Nw:List RI:=[om 6 0,oo 7 (Ln 6) [6],oo 8 (Bc .add 7 72) [7],oo 9 (.mkB (ci 0) (.t 8)) [8],om 10 0,.dir (.tok 9 109),oo 11 (.app [.u8 0] 1 (.t 9) (.t 10)) [9,10],on 12 (.litB [(.c (.u8 128))]),oo 13 (.app [.u8 0] 1 (.t 11) (.t 12)) [11,12],omk 3 13]
def Nv:List RI:=[om 14 3,oo 15 (Ln 14) [14],oo 16 (Bc .rem 15 64) [15],oo 17 (Bc .neq 16 56) [16]]
def Nu:List RI:=[omk 18 3,on 19 (.litB [(.c (.u8 0))]),oo 20 (.app [.u8 0] 1 (.t 18) (.t 19)) [18,19],omk 3 20]
def zW:RC:=(.post (Sq (So Nv (Kc 17 (Kk [17] .skip) (Kk [17] (.exit 0)))) (Bk 1 (.ops Nu))) [.tok 3 103])
def yI:RC:=zW
def Nt:List RI:=[omk 21 0,oo 22 (Ln 21) [21],oo 23 (.toInt .u64 (.t 22)) [22],oo 24 (.bin .mul (.t 23) (.c (.int .u64 8))) [23],omk 4 24]
def Ns:List RI:=[on 5 (Mc 56)]
def Nr:List RI:=[om 25 5,oo 26 (Bc .geq 25 0) [25]]
def Nq:List RI:=[omk 29 3,om 30 4,om 31 5,oo 32 (.toInt .u64 (.t 31)) [31],oo 33 (Bb .shr 30 32) [30,32],oo 34 (.toInt .u8 (.t 33)) [33],oo 35 (.litB [.t 34]) [34],oo 36 (.app [.u8 0] 1 (.t 29) (.t 35)) [29,35],omk 3 36]
def Np:List RI:=[omk 27 5,oo 28 (Bc .sub 27 8) [27],omk 5 28]
def tx:RC:=(.post (Sq (So Nr (Kc 26 (Kk [26] .skip) (Kk [4,5,26] (.exit 2)))) (Sq (Bk 3 (.ops Nq)) (.ops Np))) [.tok 3 103])
def sP:RC:=tx
def sO:List RI:=[omk 37 3,omk 2 37]
def xkZ:RC:=(So mh (So Nw (Sq (Bk 0 (.pre [.tok 3 103] (.loop yI))) (So Nt (Sq (So Ns (Bk 2 (.pre [.tok 3 103] (.loop sP)))) (So sO .ret))))))
def xbS:FnC:=⟨xkZ,38,[.tmp 2],[],[]⟩
def No:List RI:=[on 4 (.new (.arr 1 (aq 80 [.int .u32 0])))]
def Nn:List RI:=[on 14 (Mc 0)]
def Nm:List RI:=[on 15 (Bc .lss 14 80)]
def Nl:List RI:=[om 16 14,omk 5 16]
def Nk:List RI:=[om 17 5,oo 18 (Bc .lss 17 16) [17]]
def Nj:List RI:=[om 19 5,om 20 1,omk 21 5,oo 22 (Ca 141 [.t 20,.t 21]) [20,21],oo 23 (.iaddrA 80 1 (.t 4) (.t 19)) [19],Sr 1 23 22 [22,23]]
def Ni:List FI:=[Fm 0 24 5,Fm 1 25 5,Fs 2 26 (Bc .sub 25 3),Fs 3 27 (.iaddrA 80 1 (.t 4) (.t 26)),Fs 4 28 (Ld 27),Fm 5 29 5,Fs 6 30 (Bc .sub 29 8),Fs 7 31 (.iaddrA 80 1 (.t 4) (.t 30)),Fs 8 32 (Ld 31),Fs 9 33 (Bb .xor 28 32),Fm 10 34 5,Fs 11 35 (Bc .sub 34 14),Fs 12 36 (.iaddrA 80 1 (.t 4) (.t 35)),Fs 13 37 (Ld 36),Fs 14 38 (Bb .xor 33 37),Fm 15 39 5,Fs 16 40 (Bc .sub 39 16),Fs 17 41 (.iaddrA 80 1 (.t 4) (.t 40)),Fs 18 42 (Ld 41),Fs 19 43 (Bb .xor 38 42),Fz 20 44 (Ca 142 [.t 43,ci 1]),Fs 21 45 (.iaddrA 80 1 (.t 4) (.t 24)),Fr 22 1 45 44]
def Nh:List RI:=[oo 46 (Bc .add 14 1) [14],omk 14 46]
def zV:RC:=(So Nm (Sq (Kc 15 (Kk [15] .skip) (Kk [1,14,15] (.exit 0))) (Sq (Bk 1 (So Nl (So Nk (Kc 18 (Kk [18] (.ops Nj)) (Kk [18] (.flt [0,0,2,6,14,0,32,96,224,510,0,1024,3072,7168,16382,0,32768,98304,229376,524286,1048574,2097151,4194303] [] Ni [5,24,25,26,27,28,29,30,31,32,33,34,35,36,37,38,39,40,41,42,43,44,45])))))) (.ops Nh))))
def yH:RC:=zV
def Ng:List FI:=[Fm 0 47 0,Fs 1 48 (.nchk (.t 47)),Fs 2 49 (.iaddrA 5 1 (.t 48) (ci 0)),Fs 3 50 (Ld 49),Fm 4 51 0,Fs 5 52 (.nchk (.t 51)),Fs 6 53 (.iaddrA 5 1 (.t 52) (ci 1)),Fs 7 54 (Ld 53),Fm 8 55 0,Fs 9 56 (.nchk (.t 55)),Fs 10 57 (.iaddrA 5 1 (.t 56) (ci 2)),Fs 11 58 (Ld 57),Fm 12 59 0,Fs 13 60 (.nchk (.t 59)),Fs 14 61 (.iaddrA 5 1 (.t 60) (ci 3)),Fs 15 62 (Ld 61),Fm 16 63 0,Fs 17 64 (.nchk (.t 63)),Fs 18 65 (.iaddrA 5 1 (.t 64) (ci 4)),Fs 19 66 (Ld 65),Fm 20 6 50,Fm 21 7 54,Fm 22 8 58,Fm 23 9 62,Fm 24 10 66]
def BX:List RI:=[on 67 (Mc 0)]
def BW:List RI:=[on 68 (Bc .lss 67 80)]
def BV:List RI:=[om 69 67,omk 11 69]
def BU:List RI:=[oo 12 (.mov (.c (.int .u32 0))) [12],oo 13 (.mov (.c (.int .u32 0))) [13]]
def BT:List RI:=[om 70 11,oo 71 (Bc .quo 70 20) [70]]
def BS:List RI:=[on 78 (Bc .eql 71 0),omk 77 78]
def BR:List RI:=[om 79 7,om 80 8,oo 81 (Bb .and 79 80) [79,80],om 82 7,oo 83 (.un .xor (.t 82)) [82],om 84 9,oo 85 (Bb .and 83 84) [83,84],oo 86 (Bb .xor 81 85) [81,85],omk 12 86,on 13 (.mov (.c (.int .u32 1518500249)))]
def BQ:List RI:=[on 88 (Bc .eql 71 1),omk 87 88]
def BP:List RI:=[om 89 7,om 90 8,oo 91 (Bb .xor 89 90) [89,90],om 92 9,oo 93 (Bb .xor 91 92) [91,92],omk 12 93,on 13 (.mov (.c (.int .u32 1859775393)))]
def BO:List RI:=[oo 95 (Bc .eql 71 2) [71],omk 94 95]
def BN:List RI:=[om 96 7,om 97 8,oo 98 (Bb .and 96 97) [96,97],om 99 7,om 100 9,oo 101 (Bb .and 99 100) [99,100],oo 102 (Bb .xor 98 101) [98,101],om 103 8,om 104 9,oo 105 (Bb .and 103 104) [103,104],oo 106 (Bb .xor 102 105) [102,105],omk 12 106,on 13 (.mov (.c (.int .u32 2400959708)))]
def BM:List RI:=[om 72 7,om 73 8,oo 74 (Bb .xor 72 73) [72,73],om 75 9,oo 76 (Bb .xor 74 75) [74,75],omk 12 76,on 13 (.mov (.c (.int .u32 3395469782)))]
def BL:List FI:=[Fm 0 107 6,Fm 2 109 12,Fm 4 111 10,Fm 6 113 13,Fm 8 115 11,Fs 9 116 (.iaddrA 80 1 (.t 4) (.t 115)),Fs 10 117 (Ld 116),Fm 12 119 6,Fm 13 120 7,Fm 15 122 8,Fm 16 123 9,Fz 1 108 (Ca 142 [.t 107,ci 5]),Fs 3 110 (Bb .add 108 109),Fs 5 112 (Bb .add 110 111),Fs 7 114 (Bb .add 112 113),Fs 11 118 (Bb .add 114 117),Fz 14 121 (Ca 142 [.t 120,ci 30]),⟨17,false,(xm 6 118)⟩,⟨18,false,(xm 7 119)⟩,⟨19,false,(xm 8 121)⟩,⟨20,false,(xm 9 122)⟩,⟨21,false,(xm 10 123)⟩]
def BK:List RI:=[oo 124 (Bc .add 67 1) [67],omk 67 124]
def tw:RC:=(So BW (Sq (Kc 68 (Kk [68] .skip) (Kk [4,67,68] (.exit 2))) (Sq (Bk 3 (So BV (So BU (Sq (So BT (Bk 4 (So BS (Kc 77 (Kk [71,77] (.ops BR)) (Kk [77] (So BQ (Kc 87 (Kk [71,87] (.ops BP)) (Kk [87] (So BO (Kc 94 (Kk [94] (.ops BN)) (Kk [94] (.ops BM)))))))))))) (.flt [0,1,0,7,0,31,0,127,0,256,768,2047,0,0,8195,0,0,131071,262143,524287,1048575,2097151] [] BL [11,12,13,107,108,109,110,111,112,113,114,115,116,117,118,119,120,121,122,123]))))) (.ops BK))))
def fP:RC:=tw
def BJ:List FI:=[Fm 0 125 0,Fs 1 126 (.nchk (.t 125)),Fs 2 127 (.iaddrA 5 1 (.t 126) (ci 0)),Fs 3 128 (Ld 127),Fm 4 129 6,Fs 5 130 (Bb .add 128 129),Fs 6 131 (.nchk (.t 125)),Fs 7 132 (.iaddrA 5 1 (.t 131) (ci 0)),Fr 8 1 132 130]
def BI:List FI:=[Fm 0 133 0,Fs 1 134 (.nchk (.t 133)),Fs 2 135 (.iaddrA 5 1 (.t 134) (ci 1)),Fs 3 136 (Ld 135),Fm 4 137 7,Fs 5 138 (Bb .add 136 137),Fs 6 139 (.nchk (.t 133)),Fs 7 140 (.iaddrA 5 1 (.t 139) (ci 1)),Fr 8 1 140 138]
def BH:List FI:=[Fm 0 141 0,Fs 1 142 (.nchk (.t 141)),Fs 2 143 (.iaddrA 5 1 (.t 142) (ci 2)),Fs 3 144 (Ld 143),Fm 4 145 8,Fs 5 146 (Bb .add 144 145),Fs 6 147 (.nchk (.t 141)),Fs 7 148 (.iaddrA 5 1 (.t 147) (ci 2)),Fr 8 1 148 146]
def BG:List FI:=[Fm 0 149 0,Fs 1 150 (.nchk (.t 149)),Fs 2 151 (.iaddrA 5 1 (.t 150) (ci 3)),Fs 3 152 (Ld 151),Fm 4 153 9,Fs 5 154 (Bb .add 152 153),Fs 6 155 (.nchk (.t 149)),Fs 7 156 (.iaddrA 5 1 (.t 155) (ci 3)),Fr 8 1 156 154]
def BF:List FI:=[Fm 0 157 0,Fs 1 158 (.nchk (.t 157)),Fs 2 159 (.iaddrA 5 1 (.t 158) (ci 4)),Fs 3 160 (Ld 159),Fm 4 161 10,Fs 5 162 (Bb .add 160 161),Fs 6 163 (.nchk (.t 157)),Fs 7 164 (.iaddrA 5 1 (.t 163) (ci 4)),Fr 8 1 164 162]
def xkY:RC:=(So No (Sq (So Nn (Bk 0 (.loop yH))) (Sq (.flt [0,1,3,7,0,16,48,112,0,256,768,1792,0,4096,12288,28672,0,65536,196608,458752,15,1048831,3149823,7405567,16777215] [] Ng [47,48,49,50,51,52,53,54,55,56,57,58,59,60,61,62,63,64,65,66]) (Sq (So BX (Bk 2 (.loop fP))) (Sq (.flt [0,1,3,7,0,31,1,127,255] [] BJ [6,125,126,127,128,129,130,131,132]) (Sq (.flt [0,1,3,7,0,31,1,127,255] [] BI [7,133,134,135,136,137,138,139,140]) (Sq (.flt [0,1,3,7,0,31,1,127,255] [] BH [8,141,142,143,144,145,146,147,148]) (Sq (.flt [0,1,3,7,0,31,1,127,255] [] BG [9,149,150,151,152,153,154,155,156]) (.flt [0,1,3,7,0,31,1,127,255] [] BF [0,10,157,158,159,160,161,162,163,164])))))))))
def xbR:FnC:=⟨xkY,165,[],[],[]⟩
def Nf:List RI:=[om 6 0,oo 7 (Ln 6) [6],oo 8 (.bin .mul (ci 4) (.t 7)) [7],oo 9 (.mkB (ci 0) (.t 8)) [8],omk 3 9]
def Nd:List RI:=[omk 10 0,on 11 (Ln 10),on 12 (Mc 0)]
def Nc:List RI:=[on 13 (Bb .lss 12 11)]
def Nb:List RI:=[on 14 (Ia 1 10 12),oo 15 (Ld 14) [14],omk 5 15]
def Na:List RI:=[omk 16 3,om 17 5,oo 18 (.bin .shr (.t 17) (.c (.int .u64 24))) [17],oo 19 (.toInt .u8 (.t 18)) [18],om 20 5,oo 21 (.bin .shr (.t 20) (.c (.int .u64 16))) [20],oo 22 (.toInt .u8 (.t 21)) [21],om 23 5,oo 24 (.bin .shr (.t 23) (.c (.int .u64 8))) [23],oo 25 (.toInt .u8 (.t 24)) [24],omk 26 5,oo 27 (.toInt .u8 (.t 26)) [26],oo 28 (.litB [.t 19,.t 22,.t 25,.t 27]) [19,22,25,27],.dir (.tok 16 116),oo 29 (.app [.u8 0] 1 (.t 16) (.t 28)) [16,28],omk 3 29]
def M9:List RI:=[oo 30 (Bc .add 12 1) [12],omk 12 30]
def zU:RC:=(.post (So Nc (Sq (Kc 13 (Kk [13] .skip) (Kk [10,11,12,13] (.exit 0))) (Sq (Bk 1 (So Nb (.ops Na))) (.ops M9)))) [.tok 3 103])
def yG:RC:=zU
def M8:List RI:=[omk 31 3,omk 2 31]
def xkX:RC:=(So mh (So Nf (Sq (So Nd (Bk 0 (.pre [.tok 3 103] (.loop yG)))) (So M8 .ret))))
def xbQ:FnC:=⟨xkX,32,[.tmp 2],[],[]⟩
def M7:List RI:=[on 4 (.new (.arr 1 (aq 64 [.int .u32 0])))]
def M6:List RI:=[on 18 (Bc .lss 17 64)]
def M5:List RI:=[om 19 17,omk 5 19]
def M4:List RI:=[om 20 5,oo 21 (Bc .lss 20 16) [20]]
def M3:List RI:=[om 22 5,om 23 1,omk 24 5,oo 25 (Ca 141 [.t 23,.t 24]) [23,24],oo 26 (.iaddrA 64 1 (.t 4) (.t 22)) [22],Sr 1 26 25 [25,26]]
def M2:List FI:=[Fm 0 27 5,Fs 1 28 (Bc .sub 27 15),Fs 2 29 (.iaddrA 64 1 (.t 4) (.t 28)),Fs 3 30 (Ld 29),Fm 4 31 5,Fs 5 32 (Bc .sub 31 2),Fs 6 33 (.iaddrA 64 1 (.t 4) (.t 32)),Fs 7 34 (Ld 33),Fm 8 6 30,Fm 9 7 34]
def M1:List RI:=[om 35 6,oo 36 (Ca 142 [.t 35,ci (-7)]) [35],om 37 6,oo 38 (Ca 142 [.t 37,ci (-18)]) [37],oo 39 (Bb .xor 36 38) [36,38],omk 40 6,oo 41 (.bin .shr (.t 40) (.c (.int .u64 3))) [40],oo 42 (Bb .xor 39 41) [39,41],omk 8 42]
def M0:List RI:=[om 43 7,oo 44 (Ca 142 [.t 43,ci (-17)]) [43],om 45 7,oo 46 (Ca 142 [.t 45,ci (-19)]) [45],oo 47 (Bb .xor 44 46) [44,46],omk 48 7,oo 49 (.bin .shr (.t 48) (.c (.int .u64 10))) [48],oo 50 (Bb .xor 47 49) [47,49],omk 9 50]
def MZ:List FI:=[Fm 0 51 5,Fm 1 52 9,Fm 2 53 5,Fs 3 54 (Bc .sub 53 7),Fs 4 55 (.iaddrA 64 1 (.t 4) (.t 54)),Fs 5 56 (Ld 55),Fs 6 57 (Bb .add 52 56),Fm 7 58 8,Fs 8 59 (Bb .add 57 58),Fm 9 60 5,Fs 10 61 (Bc .sub 60 16),Fs 11 62 (.iaddrA 64 1 (.t 4) (.t 61)),Fs 12 63 (Ld 62),Fs 13 64 (Bb .add 59 63),Fs 14 65 (.iaddrA 64 1 (.t 4) (.t 51)),Fr 15 1 65 64]
def BE:List RI:=[oo 66 (Bc .add 17 1) [17],omk 17 66]
def tv:RC:=(So M6 (Sq (Kc 18 (Kk [18] .skip) (Kk [1,17,18] (.exit 0))) (Sq (Bk 1 (So M5 (Sq (So M4 (Kc 21 (Kk [21] (So M3 (.exit 1))) (Kk [21] .skip))) (Sq (.flt [0,1,3,7,0,16,48,112,15,511] [] M2 [27,28,29,30,31,32,33,34]) (So M1 (So M0 (.flt [0,0,0,4,12,28,62,0,254,0,512,1536,3584,8190,16383,32767] [] MZ [5,8,9,51,52,53,54,55,56,57,58,59,60,61,62,63,64,65]))))))) (.ops BE))))
def sN:RC:=tv
def BD:List RI:=[om 67 0,oo 68 (.nchk (.t 67)) [67],oo 69 (Lt 8 68) [68],on 10 (.new (.arr 1 (aq 8 [.int .u32 0]))),Sr 8 10 69 [69]]
def BC:List RI:=[on 70 (Mc 0)]
def BB:List RI:=[on 71 (Bc .lss 70 64)]
def BA:List RI:=[om 72 70,omk 11 72]
def Bz:List FI:=[Fs 0 73 (.iaddrA 8 1 (.t 10) (ci 0)),Fs 1 74 (Ld 73),Fs 2 75 (.iaddrA 8 1 (.t 10) (ci 4)),Fs 3 76 (Ld 75),Fm 4 12 74,Fm 5 13 76]
def By:List FI:=[Fs 0 77 (.iaddrA 8 1 (.t 10) (ci 7)),Fs 1 78 (Ld 77),Fm 2 79 13,Fm 4 81 13,Fm 7 84 13,Fm 11 88 13,Fs 12 89 (.iaddrA 8 1 (.t 10) (ci 5)),Fs 13 90 (Ld 89),Fs 14 91 (Bb .and 88 90),Fm 15 92 13,Fs 16 93 (.un .xor (.t 92)),Fs 17 94 (.iaddrA 8 1 (.t 10) (ci 6)),Fs 18 95 (Ld 94),Fs 19 96 (Bb .and 93 95),Fs 20 97 (Bb .xor 91 96),Fm 22 99 11,Fs 23 100 (.iaddrA 64 1 (.c (.pp iQ)) (.t 99)),Fs 24 101 (Ld 100),Fm 26 103 11,Fs 27 104 (.iaddrA 64 1 (.t 4) (.t 103)),Fs 28 105 (Ld 104),Fz 3 80 (Ca 142 [.t 79,ci (-6)]),Fz 5 82 (Ca 142 [.t 81,ci (-11)]),Fs 6 83 (Bb .xor 80 82),Fz 8 85 (Ca 142 [.t 84,ci (-25)]),Fs 9 86 (Bb .xor 83 85),Fs 10 87 (Bb .add 78 86),Fs 21 98 (Bb .add 87 97),Fs 25 102 (Bb .add 98 101),Fs 29 106 (Bb .add 102 105),Fm 30 14 106]
def Bx:List FI:=[Fm 0 107 12,Fm 2 109 12,Fm 5 112 12,Fm 8 115 12,Fs 9 116 (.iaddrA 8 1 (.t 10) (ci 1)),Fs 10 117 (Ld 116),Fs 11 118 (Bb .and 115 117),Fm 12 119 12,Fs 13 120 (.iaddrA 8 1 (.t 10) (ci 2)),Fs 14 121 (Ld 120),Fs 15 122 (Bb .and 119 121),Fs 16 123 (Bb .xor 118 122),Fs 17 124 (.iaddrA 8 1 (.t 10) (ci 1)),Fs 18 125 (Ld 124),Fs 19 126 (.iaddrA 8 1 (.t 10) (ci 2)),Fs 20 127 (Ld 126),Fs 21 128 (Bb .and 125 127),Fs 22 129 (Bb .xor 123 128),Fz 1 108 (Ca 142 [.t 107,ci (-2)]),Fz 3 110 (Ca 142 [.t 109,ci (-13)]),Fs 4 111 (Bb .xor 108 110),Fz 6 113 (Ca 142 [.t 112,ci (-22)]),Fs 7 114 (Bb .xor 111 113),Fs 23 130 (Bb .add 114 129),Fm 24 15 130]
def Bw:List RI:=[om 131 14,omk 132 15,oo 133 (Bb .add 131 132) [131,132],on 134 (.iaddrA 8 1 (.t 10) (ci 0)),oo 135 (Ld 134) [134],on 136 (.iaddrA 8 1 (.t 10) (ci 1)),oo 137 (Ld 136) [136],on 138 (.iaddrA 8 1 (.t 10) (ci 2)),oo 139 (Ld 138) [138],on 140 (.iaddrA 8 1 (.t 10) (ci 3)),oo 141 (Ld 140) [140],omk 142 14,oo 143 (Bb .add 141 142) [141,142],on 144 (.iaddrA 8 1 (.t 10) (ci 4)),oo 145 (Ld 144) [144],on 146 (.iaddrA 8 1 (.t 10) (ci 5)),oo 147 (Ld 146) [146],on 148 (.iaddrA 8 1 (.t 10) (ci 6)),oo 149 (Ld 148) [148],oo 150 (.build [.int .u32 0,.int .u32 0,.int .u32 0,.int .u32 0,.int .u32 0,.int .u32 0,.int .u32 0,.int .u32 0] [(0,1,(.t 133)),(1,1,(.t 135)),(2,1,(.t 137)),(3,1,(.t 139)),(4,1,(.t 143)),(5,1,(.t 145)),(6,1,(.t 147)),(7,1,(.t 149))]) [133,135,137,139,143,145,147,149],Sr 8 10 150 [150]]
def Bv:List RI:=[oo 151 (Bc .add 70 1) [70],omk 70 151]
def tu:RC:=(So BB (Sq (Kc 71 (Kk [71] .skip) (Kk [4,70,71] (.exit 2))) (Sq (Bk 3 (So BA (Sq (.flt [0,1,0,4,3,31] [] Bz [73,74,75,76]) (Sq (.flt [0,1,0,4,0,28,60,0,188,508,1023,0,0,4096,14336,0,32768,0,131072,491520,1046528,2097151,0,4194304,12582912,33554431,0,67108864,201326592,536870911,1073741823] [] By [11,13,77,78,79,80,81,82,83,84,85,86,87,88,89,90,91,92,93,94,95,96,97,98,99,100,101,102,103,104,105,106]) (Sq (.flt [0,1,0,7,15,0,47,127,0,0,512,1792,0,0,8192,28672,65280,0,131072,0,524288,1966080,4194048,8388607,16777215] [] Bx [12,107,108,109,110,111,112,113,114,115,116,117,118,119,120,121,122,123,124,125,126,127,128,129,130]) (.ops Bw)))))) (.ops Bv))))
def sM:RC:=tu
def Bu:List RI:=[on 152 (Mc 0)]
def Bt:List RI:=[on 153 (Bc .lss 152 8)]
def Bs:List RI:=[om 154 152,omk 16 154]
def Br:List FI:=[Fm 0 155 0,Fm 1 156 16,Fs 2 157 (.nchk (.t 155)),Fs 3 158 (.iaddrA 8 1 (.t 157) (.t 156)),Fs 4 159 (Ld 158),Fm 5 160 16,Fs 6 161 (.iaddrA 8 1 (.t 10) (.t 160)),Fs 7 162 (Ld 161),Fs 8 163 (Bb .add 159 162),Fs 9 164 (.nchk (.t 155)),Fs 10 165 (.iaddrA 8 1 (.t 164) (.t 156)),Fr 11 1 165 163]
def Bq:List RI:=[oo 166 (Bc .add 152 1) [152],omk 152 166]
def tt:RC:=(So Bt (Sq (Kc 153 (Kk [153] .skip) (Kk [0,10,152,153] (.exit 4))) (Sq (Bk 5 (So Bs (.flt [0,0,1,7,15,0,32,96,255,1,1023,2047] [] Br [16,155,156,157,158,159,160,161,162,163,164,165]))) (.ops Bq))))
def sL:RC:=tt
def xkW:RC:=(So M7 (Sq (So x9 (Bk 0 (.loop sN))) (So BD (Sq (So BC (Bk 2 (.loop sM))) (So Bu (Bk 4 (.loop sL)))))))
def xbP:FnC:=⟨xkW,167,[],[],[]⟩
def MY:List RI:=[omk 9 0,oo 10 (.app [.u8 0] 1 (.c (.byt [] .clip)) (.t 9)) [9],omk 7 10]
def MX:List RI:=[om 11 1,oo 12 (Bc .lss 11 1) [11],omk 13 12,.grp 13 false [(xi 14 13 false (Mv 1)),(xi 15 13 false (Bc .gtr 14 8))] [14],oo 16 (Pt 13 15) [13,15]]
def MW:List RI:=[omk 17 7,omk 6 17]
def MV:List RI:=[omk 18 1,oo 19 (Bc .sub 18 1) [18],omk 8 19]
def MU:List RI:=[om 20 8,oo 21 (Bc .geq 20 0) [20]]
def MT:List RI:=[omk 24 7,om 25 2,oo 26 (.toInt .u64 (.t 25)) [25],om 27 8,oo 28 (.bin .mul (ci 8) (.t 27)) [27],oo 29 (.toInt .u64 (.t 28)) [28],oo 30 (Bb .shr 26 29) [26,29],oo 31 (.toInt .u8 (.t 30)) [30],oo 32 (.litB [.t 31]) [31],oo 33 (.app [.u8 0] 1 (.t 24) (.t 32)) [24,32],omk 7 33]
def MS:List RI:=[omk 22 8,oo 23 (Bc .sub 22 1) [22],omk 8 23]
def zT:RC:=(.post (Sq (So MU (Kc 21 (Kk [21] .skip) (Kk [2,8,21] (.exit 0)))) (Sq (Bk 1 (.ops MT)) (.ops MS))) [.tok 7 107])
def yF:RC:=zT
def MR:List RI:=[omk 34 7,omk 6 34]
def xkV:RC:=(So O3 (So MY (Sq (So MX (Kc 16 (Kk [1,2,16] (So MW .ret)) (Kk [16] .skip))) (Sq (So MV (Bk 0 (.pre [.tok 7 107] (.loop yF)))) (So MR .ret)))))
def xbO:FnC:=⟨xkV,35,[.tmp 6],[0],[]⟩
def MQ:List RI:=[om 5 1,omk 6 1,oo 7 (Ln 6) [6],oo 8 (.mini (.t 7) (ci 65535)) [7],oo 9 (.slcL 1 (.t 5) none (some (.t 8)) none) [5,8],omk 1 9]
def MP:List RI:=[omk 10 0,om 11 1,oo 12 (Ln 11) [11],oo 13 (Ca 117 [.t 10,ci 2,.t 12]) [10,12],omk 14 1,oo 15 (.app [.u8 0] 1 (.t 13) (.t 14)) [13,14],omk 4 15]
def xkU:RC:=(So mi (So MQ (So MP .ret)))
def xbN:FnC:=⟨xkU,16,[.tmp 4],[0],[]⟩
def MM:List RI:=[omk 6 0,on 7 (Ln 6),on 8 (Mc 0)]
def ML:List RI:=[on 10 (Ia 1 6 8),oo 11 (Ld 10) [10],omk 5 11]
def MK:List RI:=[om 12 5,om 13 3,oo 14 (Bb .neq 12 13) [12,13]]
def MJ:List RI:=[omk 15 5,omk 2 15]
def MI:List RI:=[oo 16 (Bc .add 8 1) [8],omk 8 16]
def zR:RC:=(So En (Sq (Kc 9 (Kk [9] .skip) (Kk [6,7,8,9] (.exit 0))) (Sq (Bk 1 (So ML (So MK (Kc 14 (Kk [3,6,7,8,14] (So MJ .ret)) (Kk [5,14] .skip))))) (.ops MI))))
def MH:RC:=zR
def MG:List RI:=[omk 17 3,omk 2 17]
def xkT:RC:=(So mj (So q8 (Sq (So MM (Bk 0 (.loop MH))) (So MG .ret))))
def xbM:FnC:=⟨xkT,18,[.tmp 2],[],[]⟩
def MF:List RI:=[om 7 0,oo 8 (Ca 153 [.t 7]) [7],omk 5 8]
def ME:List RI:=[om 9 1,oo 10 (Ca 153 [.t 9]) [9],omk 6 10]
def MD:List RI:=[omk 11 5]
def MC:List RI:=[omk 12 6]
def MB:List RI:=[omk 13 6]
def yD:List RI:=[on 4 (Mc 1)]
def MA:List RI:=[om 14 0,om 15 1,oo 16 (Bb .lss 14 15) [14,15]]
def Bp:List RI:=[omk 17 0,omk 18 1,oo 19 (Bb .gtr 17 18) [17,18]]
def xkS:RC:=(So rb (So MF (So ME (Sq (So MD (Kc 11 (Kk [0,1,11] (Sq (So MC (Kc 12 (Kk [12] (So ra .ret)) (Kk [12] .skip))) (So mn .ret))) (Kk [11] .skip))) (Sq (So MB (Kc 13 (Kk [0,1,13] (So yD .ret)) (Kk [13] .skip))) (Sq (So MA (Kc 16 (Kk [0,1,16] (So mn .ret)) (Kk [16] .skip))) (Sq (So Bp (Kc 19 (Kk [19] (So yD .ret)) (Kk [19] .skip))) (So ra .ret))))))))
def xbL:FnC:=⟨xkS,20,[.tmp 4],[],[]⟩
def Mz:List RI:=[omk 5 0,omk 6 1,oo 7 (Ca 154 [.t 5,.t 6]) [5,6],omk 4 7]
def xkR:RC:=(So rb (So Mz .ret))
def xbK:FnC:=⟨xkR,8,[.tmp 4],[],[]⟩
def My:List RI:=[omk 5 0,omk 6 1,oo 7 (.toInt .u64 (.t 6)) [6],oo 8 (Bb .shr 5 7) [5,7],oo 9 (Bc .and 8 1) [8],oo 10 (Bc .eql 9 1) [9],omk 4 10]
def xkQ:RC:=(So lE (So My .ret))
def xbJ:FnC:=⟨xkQ,11,[.tmp 4],[],[]⟩
def Mx:List RI:=[oo 2 (.box (.t 0)) [0],oo 4 (.mov (.c (.lst 1 [] .clip))) [4]]
def Mw:List RI:=[oo 9 (Lt 4 2) [2],oo 10 (Ca 33 [.t 9]) [9],omk 6 10]
def Mu:List RI:=[om 11 7,oo 12 (Bc .lss 11 2) [11]]
def Mt:List RI:=[om 15 6,oo 16 (Ln 15) [15],oo 17 (Bc .gtr 16 0) [16],omk 18 17,.grp 18 true [(xi 19 18 true (Mv 1)),(xi 20 18 true (Mv 7)),(xi 21 18 true (Ca 124 [.t 19,.t 20]))] [19,20],oo 22 (Pf 18 21) [18,21]]
def Ms:List RI:=[om 23 5,om 24 7,om 25 7,om 26 6,oo 27 (Ca 99 [.t 25,.t 26]) [25,26],oo 28 (Ia 1 23 24) [23,24],Sr 1 28 27 [27,28]]
def Mr:List RI:=[omk 13 7,oo 14 (Bc .add 13 1) [13],omk 7 14]
def zQ:RC:=(Sq (So Mu (Kc 12 (Kk [12] .skip) (Kk [1,6,7,12] (.exit 0)))) (Sq (Bk 1 (So Mt (Kc 22 (Kk [22] (.ops Ms)) (Kk [22] .skip)))) (.ops Mr)))
def Mq:RC:=zQ
def Mp:List RI:=[omk 29 5,omk 4 29]
def xkP:RC:=(So Mx (So O0 (So Mw (Sq (So l3 (Bk 0 (.loop Mq))) (So Mp .ret)))))
def xbI:FnC:=⟨xkP,30,[.tmp 4],[],[]⟩
def Mo:List RI:=[on 0 (.new (.arr 1 (aq 64 [.int .u32 0])))]
def Mn:List RI:=[on 1 (.build [.int .u32 0,.int .u32 0,.int .u32 0,.int .u32 0,.int .u32 0,.int .u32 0,.int .u32 0,.int .u32 0,.int .u32 0,.int .u32 0,.int .u32 0,.int .u32 0,.int .u32 0,.int .u32 0,.int .u32 0,.int .u32 0,.int .u32 0,.int .u32 0,.int .u32 0,.int .u32 0,.int .u32 0,.int .u32 0,.int .u32 0,.int .u32 0,.int .u32 0,.int .u32 0,.int .u32 0,.int .u32 0,.int .u32 0,.int .u32 0,.int .u32 0,.int .u32 0,.int .u32 0,.int .u32 0,.int .u32 0,.int .u32 0,.int .u32 0,.int .u32 0,.int .u32 0,.int .u32 0,.int .u32 0,.int .u32 0,.int .u32 0,.int .u32 0,.int .u32 0,.int .u32 0,.int .u32 0,.int .u32 0,.int .u32 0,.int .u32 0,.int .u32 0,.int .u32 0,.int .u32 0,.int .u32 0,.int .u32 0,.int .u32 0,.int .u32 0,.int .u32 0,.int .u32 0,.int .u32 0,.int .u32 0,.int .u32 0,.int .u32 0,.int .u32 0] [(0,1,(.c (.int .u32 1116352408))),(1,1,(.c (.int .u32 1899447441))),(2,1,(.c (.int .u32 3049323471))),(3,1,(.c (.int .u32 3921009573))),(4,1,(.c (.int .u32 961987163))),(5,1,(.c (.int .u32 1508970993))),(6,1,(.c (.int .u32 2453635748))),(7,1,(.c (.int .u32 2870763221))),(8,1,(.c (.int .u32 3624381080))),(9,1,(.c (.int .u32 310598401))),(10,1,(.c (.int .u32 607225278))),(11,1,(.c (.int .u32 1426881987))),(12,1,(.c (.int .u32 1925078388))),(13,1,(.c (.int .u32 2162078206))),(14,1,(.c (.int .u32 2614888103))),(15,1,(.c (.int .u32 3248222580))),(16,1,(.c (.int .u32 3835390401))),(17,1,(.c (.int .u32 4022224774))),(18,1,(.c (.int .u32 264347078))),(19,1,(.c (.int .u32 604807628))),(20,1,(.c (.int .u32 770255983))),(21,1,(.c (.int .u32 1249150122))),(22,1,(.c (.int .u32 1555081692))),(23,1,(.c (.int .u32 1996064986))),(24,1,(.c (.int .u32 2554220882))),(25,1,(.c (.int .u32 2821834349))),(26,1,(.c (.int .u32 2952996808))),(27,1,(.c (.int .u32 3210313671))),(28,1,(.c (.int .u32 3336571891))),(29,1,(.c (.int .u32 3584528711))),(30,1,(.c (.int .u32 113926993))),(31,1,(.c (.int .u32 338241895))),(32,1,(.c (.int .u32 666307205))),(33,1,(.c (.int .u32 773529912))),(34,1,(.c (.int .u32 1294757372))),(35,1,(.c (.int .u32 1396182291))),(36,1,(.c (.int .u32 1695183700))),(37,1,(.c (.int .u32 1986661051))),(38,1,(.c (.int .u32 2177026350))),(39,1,(.c (.int .u32 2456956037))),(40,1,(.c (.int .u32 2730485921))),(41,1,(.c (.int .u32 2820302411))),(42,1,(.c (.int .u32 3259730800))),(43,1,(.c (.int .u32 3345764771))),(44,1,(.c (.int .u32 3516065817))),(45,1,(.c (.int .u32 3600352804))),(46,1,(.c (.int .u32 4094571909))),(47,1,(.c (.int .u32 275423344))),(48,1,(.c (.int .u32 430227734))),(49,1,(.c (.int .u32 506948616))),(50,1,(.c (.int .u32 659060556))),(51,1,(.c (.int .u32 883997877))),(52,1,(.c (.int .u32 958139571))),(53,1,(.c (.int .u32 1322822218))),(54,1,(.c (.int .u32 1537002063))),(55,1,(.c (.int .u32 1747873779))),(56,1,(.c (.int .u32 1955562222))),(57,1,(.c (.int .u32 2024104815))),(58,1,(.c (.int .u32 2227730452))),(59,1,(.c (.int .u32 2361852424))),(60,1,(.c (.int .u32 2428436474))),(61,1,(.c (.int .u32 2756734187))),(62,1,(.c (.int .u32 3204031479))),(63,1,(.c (.int .u32 3329325298)))]),Sr 64 0 1 [1]]
def xkO:RC:=(So Mo (So Mn .ret))
def xbH:FnC:=⟨xkO,2,[.cell 0 64 true],[],[]⟩
def Mm:List RI:=[on 6 (.litB []),om 7 0,oo 8 (.app [.u8 0] 1 (.t 6) (.t 7)) [6,7],on 9 (.litB [(.c (.u8 128))]),oo 10 (.app [.u8 0] 1 (.t 8) (.t 9)) [8,9],omk 3 10]
def Ml:List RI:=[om 11 3,oo 12 (Ln 11) [11],oo 13 (Bc .rem 12 64) [12],oo 14 (Bc .neq 13 56) [13]]
def Mk:List RI:=[omk 15 3,on 16 (.litB [(.c (.u8 0))]),oo 17 (.app [.u8 0] 1 (.t 15) (.t 16)) [15,16],omk 3 17]
def zP:RC:=(.post (Sq (So Ml (Kc 14 (Kk [14] .skip) (Kk [14] (.exit 0)))) (Bk 1 (.ops Mk))) [.tok 3 103])
def yC:RC:=zP
def Mj:List RI:=[omk 18 0,oo 19 (Ln 18) [18],oo 20 (.toInt .u64 (.t 19)) [19],oo 21 (.bin .mul (.t 20) (.c (.int .u64 8))) [20],omk 4 21]
def Mi:List RI:=[on 5 (Mc 7)]
def Mh:List RI:=[om 22 5,oo 23 (Bc .geq 22 0) [22]]
def Mg:List RI:=[omk 26 3,om 27 4,om 28 5,oo 29 (.toInt .u64 (.t 28)) [28],oo 30 (.bin .mul (.c (.int .u64 8)) (.t 29)) [29],oo 31 (Bb .shr 27 30) [27,30],oo 32 (.toInt .u8 (.t 31)) [31],oo 33 (.litB [.t 32]) [32],oo 34 (.app [.u8 0] 1 (.t 26) (.t 33)) [26,33],omk 3 34]
def Mf:List RI:=[omk 24 5,oo 25 (Bc .sub 24 1) [24],omk 5 25]
def tr:RC:=(.post (Sq (So Mh (Kc 23 (Kk [23] .skip) (Kk [4,5,23] (.exit 2)))) (Sq (Bk 3 (.ops Mg)) (.ops Mf))) [.tok 3 103])
def sK:RC:=tr
def Bo:List RI:=[omk 35 3,omk 2 35]
def xkN:RC:=(So mh (So Mm (Sq (Bk 0 (.pre [.tok 3 103] (.loop yC))) (So Mj (Sq (So Mi (Bk 2 (.pre [.tok 3 103] (.loop sK)))) (So Bo .ret))))))
def xbG:FnC:=⟨xkN,36,[.tmp 2],[],[]⟩
def oy:List RI:=[oo 4 (.mov (.c (.int .u32 0))) [4]]
def yB:List FI:=[Fm 0 5 0,Fm 1 6 1,Fs 2 7 (.bin .mul (ci 4) (.t 6)),Fs 3 8 (Ia 1 5 7),Fs 4 9 (Ld 8),Fs 5 10 (.toInt .u32 (.t 9)),Fs 6 11 (.bin .shl (.t 10) (.c (.int .u64 24))),Fm 7 12 0,Fm 8 13 1,Fs 9 14 (.bin .mul (ci 4) (.t 13)),Fs 10 15 (Bc .add 14 1),Fs 11 16 (Ia 1 12 15),Fs 12 17 (Ld 16),Fs 13 18 (.toInt .u32 (.t 17)),Fs 14 19 (.bin .shl (.t 18) (.c (.int .u64 16))),Fs 15 20 (Bb .or 11 19),Fm 16 21 0,Fm 17 22 1,Fs 18 23 (.bin .mul (ci 4) (.t 22)),Fs 19 24 (Bc .add 23 2),Fs 20 25 (Ia 1 21 24),Fs 21 26 (Ld 25),Fs 22 27 (.toInt .u32 (.t 26)),Fs 23 28 (.bin .shl (.t 27) (.c (.int .u64 8))),Fs 24 29 (Bb .or 20 28),Fm 25 30 0,Fm 26 31 1,Fs 27 32 (.bin .mul (ci 4) (.t 31)),Fs 28 33 (Bc .add 32 3),Fs 29 34 (Ia 1 30 33),Fs 30 35 (Ld 34),Fs 31 36 (.toInt .u32 (.t 35)),Fs 32 37 (Bb .or 29 36),Fm 33 4 37]
def xkM:RC:=(So oy (Sq (.flt [0,0,2,7,15,31,63,0,0,256,768,1920,3968,8064,16256,32767,0,0,131072,393216,983040,2031616,4128768,8323072,16777215,0,0,67108864,201326592,503316480,1040187392,2113929216,4294967295,8589934591] [] yB [0,1,5,6,7,8,9,10,11,12,13,14,15,16,17,18,19,20,21,22,23,24,25,26,27,28,29,30,31,32,33,34,35,36,37]) .ret))
def xbF:FnC:=⟨xkM,38,[.tmp 4],[],[]⟩
def Me:List RI:=[om 5 0,om 6 1,oo 7 (Bb .shr 5 6) [5,6],omk 8 0,omk 9 1,oo 10 (.bin .sub (.c (.int .u64 32)) (.t 9)) [9],oo 11 (Bb .shl 8 10) [8,10],oo 12 (Bb .or 7 11) [7,11],omk 4 12]
def xkL:RC:=(So oy (So Me .ret))
def xbE:FnC:=⟨xkL,13,[.tmp 4],[],[]⟩
def L6:List RI:=[om 5 4,om 6 0,oo 7 (Ln 6) [6],oo 8 (Bb .lss 5 7) [5,7]]
def L5:List FI:=[Fm 0 11 3,Fm 1 12 0,Fm 2 13 4,Fs 3 14 (Ia 1 12 13),Fs 4 15 (Ld 14),Fs 5 16 (.bin .shr (.t 15) (.c (.int .u64 24))),Fs 6 17 (.toInt .u8 (.t 16)),Fm 7 18 0,Fm 8 19 4,Fs 9 20 (Ia 1 18 19),Fs 10 21 (Ld 20),Fs 11 22 (.bin .shr (.t 21) (.c (.int .u64 16))),Fs 12 23 (.toInt .u8 (.t 22)),Fm 13 24 0,Fm 14 25 4,Fs 15 26 (Ia 1 24 25),Fs 16 27 (Ld 26),Fs 17 28 (.bin .shr (.t 27) (.c (.int .u64 8))),Fs 18 29 (.toInt .u8 (.t 28)),Fm 19 30 0,Fm 20 31 4,Fs 21 32 (Ia 1 30 31),Fs 22 33 (Ld 32),Fs 23 34 (.toInt .u8 (.t 33)),Fs 24 35 (.litB [.t 17,.t 23,.t 29,.t 34]),Fz 25 36 (.app [.u8 0] 1 (.t 11) (.t 35)),⟨26,false,(xm 3 36)⟩]
def L4:List RI:=[omk 9 4,oo 10 (Bc .add 9 1) [9],omk 4 10]
def zN:RC:=(.post (Sq (So L6 (Kc 8 (Kk [8] .skip) (Kk [0,4,8] (.exit 0)))) (Sq (Bk 1 (.flt [0,0,0,6,14,30,62,0,0,384,896,1920,3968,0,0,24576,57344,122880,253952,0,0,1572864,3670016,7864320,16777214,33554431,67108863] [136] L5 [11,12,13,14,15,16,17,18,19,20,21,22,23,24,25,26,27,28,29,30,31,32,33,34,35,36])) (.ops L4))) [.tok 3 103])
def yA:RC:=zN
def xkK:RC:=(So mh (So yK (Sq (So ra (Bk 0 (.pre [.tok 3 103] (.loop yA)))) (So sO .ret))))
def xbD:FnC:=⟨xkK,38,[.tmp 2],[],[]⟩
def L3:List FI:=[Fm 0 3 0,Fs 1 4 (.nchk (.t 3)),Fs 2 5 (Fa 1 4),Fs 3 6 (Ld 5),Fm 4 7 0,Fs 5 8 (.nchk (.t 7)),Fs 6 9 (Fa 0 8),Fs 7 10 (Ld 9),Fs 8 11 (Ln 10),Fs 9 12 (Bb .lss 6 11),Fm 10 2 12]
def xkJ:RC:=(So tV (Sq (.flt [0,1,3,7,0,16,48,112,240,511,1023] [] L3 [0,3,4,5,6,7,8,9,10,11,12]) .ret))
def xbC:FnC:=⟨xkJ,13,[.tmp 2],[],[]⟩
def qF:List RI:=[oo 4 (.mov (.c (.str []))) [4]]
def L2:List RI:=[om 10 1,oo 11 (Bc .eql 10 10) [10]]
def L1:List RI:=[om 12 0,oo 13 (.bin .leq (ci 0) (.t 12)) [12],omk 14 13,.grp 14 true [(xi 15 14 true (Mv 0)),(xi 16 14 true (Bc .lss 15 100))] [15],oo 17 (Pf 14 16) [14,16]]
def L0:List RI:=[omk 18 0,oo 19 (Ca 155 [.t 18]) [18],omk 4 19]
def LZ:List RI:=[on 5 (.new (.bar (aq 24 0)))]
def LY:List RI:=[om 20 0,oo 21 (.toInt .u64 (.t 20)) [20],omk 6 21]
def LX:List RI:=[om 22 0,oo 23 (Bc .lss 22 0) [22]]
def LW:List RI:=[omk 24 6,oo 25 (.un .neg (.t 24)) [24],omk 6 25]
def LV:List RI:=[om 26 6,oo 27 (Ca 156 [.t 26]) [26],omk 7 27]
def LU:List RI:=[om 28 7,oo 29 (.bin .add (ci 1) (.t 28)) [28],oo 30 (.slcA 24 1 (.t 5) (some (ci 1)) (some (.t 29)) none) [29],omk 31 6,oo 32 (Ca 157 [.t 30,.t 31]) [30,31,32]]
def Bn:List RI:=[omk 33 0,oo 34 (Bc .lss 33 0) [33]]
def Bm:List RI:=[on 35 (.iaddrA 24 1 (.t 5) (ci 0)),.op ⟨none,none,.store 1 (.t 35) (.c (.u8 45))⟩ [35]]
def Bl:List RI:=[omk 36 7,oo 37 (.bin .add (ci 1) (.t 36)) [36],oo 38 (.slcA 24 1 (.t 5) none (some (.t 37)) none) [5,37],oo 39 (.b2s (.t 38)) [38],omk 4 39]
def Bj:List RI:=[omk 40 7,oo 41 (.bin .add (ci 1) (.t 40)) [40],oo 42 (.slcA 24 1 (.t 5) (some (ci 1)) (some (.t 41)) none) [5,41],oo 43 (.b2s (.t 42)) [42],omk 4 43]
def Bi:List RI:=[om 45 0,oo 46 (.toInt .u64 (.t 45)) [45],omk 47 1,omk 48 0,oo 49 (Bc .lss 48 0) [48],oo 50 (Ca 158 [(.c (.byt [] .clip)),.t 46,.t 47,.t 49,(.c (.bool false))]) [46,47,49],omk 44 50,on 51 (.ext (.t 44) 0),oo 52 (.ext (.t 44) 1) [44],.op (xm 8 51) [8,51],omk 9 52]
def Bh:List RI:=[omk 53 9,omk 4 53]
def xkI:RC:=(So qF (Sq (So L2 (Kc 11 (Kk [1,11] (Sq (So L1 (Kc 17 (Kk [17] (So L0 .ret)) (Kk [17] .skip))) (So LZ (So LY (Sq (So LX (Kc 23 (Kk [23] (.ops LW)) (Kk [23] .skip))) (So LV (So LU (Sq (So Bn (Kc 34 (Kk [34] (So Bm (So Bl .ret))) (Kk [34] .skip))) (So Bj .ret))))))))) (Kk [11] .skip))) (So Bi (So Bh .ret))))
def xbB:FnC:=⟨xkI,54,[.tmp 4],[],[]⟩
def LS:List RI:=[om 7 0,oo 8 (.bin .eql (.t 7) (.c (.str []))) [7],omk 9 8,.grp 9 false [(xi 10 9 false (Mv 1)),(xi 11 9 false (.bin .eql (.t 10) (.c (.str []))))] [10],oo 12 (Pt 9 11) [9,11]]
def LR:List RI:=[omk 13 0,omk 4 13]
def LQ:List RI:=[om 14 1,oo 15 (.len true (.t 14)) [14],oo 16 (Bc .eql 15 1) [15],omk 17 16,.grp 17 true [(xi 18 17 true (Mv 1)),(xi 19 17 true (.idxS (.t 18) (ci 0))),(xi 20 17 true (.bin .lss (.t 19) (.c (.u8 128))))] [18,19],oo 21 (Pf 17 20) [17,20]]
def LP:List FI:=[Fm 0 22 0,Fm 1 23 1,Fs 2 24 (.idxS (.t 23) (ci 0)),Fm 4 26 1,Fs 5 27 (.idxS (.t 26) (ci 0)),Fz 3 25 (Ca 160 [.t 22,.t 24]),Fz 6 28 (Ca 159 [.t 25,.t 27]),Fm 7 4 28]
def LO:List RI:=[om 30 1,oo 31 (Ca 161 [.t 30]) [30],omk 29 31,on 32 (.ext (.t 29) 0),oo 33 (.ext (.t 29) 1) [29],on 5 (.new (.arr 1 (aq 256 [.bool false]))),Sr 256 5 32 [32],omk 6 33]
def LN:List RI:=[omk 34 6]
def LM:List RI:=[omk 35 0,oo 36 (Ca 163 [.t 35,.t 5]) [35],oo 37 (Ca 162 [.t 36,.t 5]) [5,36],omk 4 37]
def LK:List RI:=[omk 38 0,om 39 1,oo 40 (Ca 165 [.t 38,.t 39]) [38,39],omk 41 1,oo 42 (Ca 164 [.t 40,.t 41]) [40,41],omk 4 42]
def xkH:RC:=(So qF (Sq (So LS (Kc 12 (Kk [1,12] (So LR .ret)) (Kk [12] .skip))) (Sq (So LQ (Kc 21 (Kk [21] (Sq (.flt [0,0,2,7,0,16,63,127] [] LP [0,1,22,23,24,25,26,27,28]) .ret)) (Kk [21] .skip))) (Sq (So LO (So LN (Kc 34 (Kk [1,34] (So LM .ret)) (Kk [5,34] .skip)))) (So LK .ret)))))
def xbA:FnC:=⟨xkH,43,[.tmp 4],[],[]⟩
def LJ:List RI:=[om 6 0,om 7 1,oo 8 (Ca 166 [.t 6,.t 7]) [6,7],oo 9 (.un .not (.t 8)) [8]]
def LI:List RI:=[omk 10 0,omk 4 10,on 5 (Mb false)]
def LH:List RI:=[omk 11 0,omk 12 1,oo 13 (.len true (.t 12)) [12],oo 14 (.slcS (.t 11) (some (.t 13)) none) [11,13],omk 4 14,on 5 (Mb true)]
def xkG:RC:=(So OZ (Sq (So LJ (Kc 9 (Kk [1,9] (So LI .ret)) (Kk [9] .skip))) (So LH .ret)))
def xbz:FnC:=⟨xkG,15,[.tmp 4,.tmp 5],[],[]⟩
def yz:List RI:=[oo 2 (Mc 0) [2],oo 3 (.mov (.c .nili)) [3]]
def LG:List RI:=[om 7 0,oo 8 (Ca 167 [.t 7]) [7],omk 6 8,on 9 (.ext (.t 6) 0),oo 10 (.ext (.t 6) 1) [6],omk 4 9,omk 5 10]
def LF:List RI:=[om 11 5,oo 12 (.isni true (.t 11)) [11]]
def LD:List RI:=[omk 13 4,omk 14 0,omk 15 5,oo 16 (Ca 168 [(.c (.str [65,116,111,105])),.t 14,ci 0,ci 0,.t 15]) [14,15],omk 2 13,omk 3 16]
def LC:List RI:=[omk 17 4,omk 2 17,on 3 (.mov (.c .nili))]
def xkF:RC:=(So yz (So LG (Sq (So LF (Kc 12 (Kk [12] (So LD .ret)) (Kk [0,5,12] .skip))) (So LC .ret))))
def xby:FnC:=⟨xkF,18,[.tmp 2,.tmp 3],[],[]⟩
def LB:List RI:=[on 17 (.lit 1 [(.c (.int .u32 1732584193)),(.c (.int .u32 4023233417)),(.c (.int .u32 2562383102)),(.c (.int .u32 271733878)),(.c (.int .u32 3285377520))]),omk 3 17]
def LA:List RI:=[omk 18 0,oo 19 (Ca 127 [.t 18]) [18],omk 4 19]
def Lz:List RI:=[om 20 5,om 21 4,oo 22 (Ln 21) [21],oo 23 (Bb .lss 20 22) [20,22]]
def Ly:List RI:=[on 6 (.new (.arr 1 (aq 80 [.int .u32 0])))]
def Lx:List RI:=[om 26 7,oo 27 (Bc .lss 26 80) [26]]
def Lw:List RI:=[om 30 7,oo 31 (Bc .lss 30 16) [30]]
def Lv:List RI:=[om 32 7,om 33 4,om 34 5,om 35 5,oo 36 (Bc .add 35 64) [35],oo 37 (.slcL 1 (.t 33) (some (.t 34)) (some (.t 36)) none) [33,34,36],om 38 7,oo 39 (Ca 128 [.t 37,.t 38]) [37,38],oo 40 (.iaddrA 80 1 (.t 6) (.t 32)) [32],Sr 1 40 39 [39,40]]
def Bg:List FI:=[Fm 0 41 7,Fm 1 42 7,Fs 2 43 (Bc .sub 42 3),Fs 3 44 (.iaddrA 80 1 (.t 6) (.t 43)),Fs 4 45 (Ld 44),Fm 5 46 7,Fs 6 47 (Bc .sub 46 8),Fs 7 48 (.iaddrA 80 1 (.t 6) (.t 47)),Fs 8 49 (Ld 48),Fs 9 50 (Bb .xor 45 49),Fm 10 51 7,Fs 11 52 (Bc .sub 51 14),Fs 12 53 (.iaddrA 80 1 (.t 6) (.t 52)),Fs 13 54 (Ld 53),Fs 14 55 (Bb .xor 50 54),Fm 15 56 7,Fs 16 57 (Bc .sub 56 16),Fs 17 58 (.iaddrA 80 1 (.t 6) (.t 57)),Fs 18 59 (Ld 58),Fs 19 60 (Bb .xor 55 59),Fz 20 61 (Ca 169 [.t 60,(.c (.int .u64 1))]),Fs 21 62 (.iaddrA 80 1 (.t 6) (.t 41)),Fr 22 1 62 61]
def Bf:List RI:=[omk 28 7,oo 29 (Bc .add 28 1) [28],omk 7 29]
def tq:RC:=(Sq (So Lx (Kc 27 (Kk [27] .skip) (Kk [7,27] (.exit 2)))) (Sq (Bk 3 (Sq (So Lw (Kc 31 (Kk [31] (So Lv (.exit 3))) (Kk [31] .skip))) (.flt [0,0,2,6,14,0,32,96,224,510,0,1024,3072,7168,16382,0,32768,98304,229376,524286,1048574,2097151,4194303] [] Bg [41,42,43,44,45,46,47,48,49,50,51,52,53,54,55,56,57,58,59,60,61,62]))) (.ops Bf)))
def sJ:RC:=tq
def Be:List FI:=[Fm 0 63 3,Fs 1 64 (.iaddrL 1 (.t 63) (ci 0)),Fs 2 65 (Ld 64),Fm 3 66 3,Fs 4 67 (.iaddrL 1 (.t 66) (ci 1)),Fs 5 68 (Ld 67),Fm 6 69 3,Fs 7 70 (.iaddrL 1 (.t 69) (ci 2)),Fs 8 71 (Ld 70),Fm 9 72 3,Fs 10 73 (.iaddrL 1 (.t 72) (ci 3)),Fs 11 74 (Ld 73),Fm 12 75 3,Fs 13 76 (.iaddrL 1 (.t 75) (ci 4)),Fs 14 77 (Ld 76),Fm 15 8 65,Fm 16 9 68,Fm 17 10 71,Fm 18 11 74,Fm 19 12 77]
def Bd:List RI:=[on 13 (Mc 0)]
def Ba:List RI:=[om 78 13,oo 79 (Bc .lss 78 80) [78]]
def A9:List RI:=[om 82 9,om 83 10,oo 84 (Bb .xor 82 83) [82,83],om 85 11,oo 86 (Bb .xor 84 85) [84,85],omk 14 86,on 15 (.mov (.c (.int .u32 3395469782)))]
def A8:List RI:=[om 88 13,oo 89 (Bc .lss 88 20) [88],omk 87 89]
def A7:List RI:=[om 90 9,om 91 10,oo 92 (Bb .and 90 91) [90,91],om 93 9,oo 94 (.un .xor (.t 93)) [93],om 95 11,oo 96 (Bb .and 94 95) [94,95],oo 97 (Bb .xor 92 96) [92,96],omk 14 97,on 15 (.mov (.c (.int .u32 1518500249)))]
def A6:List RI:=[om 99 13,oo 100 (Bc .lss 99 40) [99],omk 98 100]
def A5:List RI:=[on 15 (.mov (.c (.int .u32 1859775393)))]
def A4:List RI:=[om 102 13,oo 103 (Bc .lss 102 60) [102],omk 101 103]
def A3:List RI:=[om 104 9,om 105 10,oo 106 (Bb .and 104 105) [104,105],om 107 9,om 108 11,oo 109 (Bb .and 107 108) [107,108],oo 110 (Bb .xor 106 109) [106,109],om 111 10,om 112 11,oo 113 (Bb .and 111 112) [111,112],oo 114 (Bb .xor 110 113) [110,113],omk 14 114,on 15 (.mov (.c (.int .u32 2400959708)))]
def A2:List FI:=[Fm 0 115 8,Fm 2 117 14,Fm 4 119 12,Fm 6 121 15,Fm 8 123 13,Fs 9 124 (.iaddrA 80 1 (.t 6) (.t 123)),Fs 10 125 (Ld 124),Fz 1 116 (Ca 169 [.t 115,(.c (.int .u64 5))]),Fs 3 118 (Bb .add 116 117),Fs 5 120 (Bb .add 118 119),Fs 7 122 (Bb .add 120 121),Fs 11 126 (Bb .add 122 125),Fm 12 16 126]
def A1:List RI:=[omk 127 16,omk 128 8,omk 129 9,oo 130 (Ca 169 [.t 129,(.c (.int .u64 30))]) [129],omk 131 10,omk 132 11,omk 8 127,omk 9 128,omk 10 130,omk 11 131,omk 12 132]
def AZ:List RI:=[omk 80 13,oo 81 (Bc .add 80 1) [80],omk 13 81]
def tp:RC:=(Sq (So Ba (Kc 79 (Kk [79] .skip) (Kk [6,13,79] (.exit 4)))) (Sq (Bk 5 (So A9 (Sq (Bk 6 (So A8 (Kc 87 (Kk [14,15,87] (.ops A7)) (Kk [87] (So A6 (Kc 98 (Kk [15,98] (.ops A5)) (Kk [98] (So A4 (Kc 101 (Kk [14,15,101] (.ops A3)) (Kk [101] .skip)))))))))) (Sq (.flt [0,1,0,7,0,31,0,127,0,256,768,2047,4095] [] A2 [12,14,15,115,116,117,118,119,120,121,122,123,124,125,126]) (.ops A1))))) (.ops AZ)))
def fO:RC:=tp
def AY:List FI:=[Fm 0 133 3,Fs 1 134 (.iaddrL 1 (.t 133) (ci 0)),Fs 2 135 (Ld 134),Fm 3 136 8,Fs 4 137 (Bb .add 135 136),Fm 5 138 3,Fs 6 139 (.iaddrL 1 (.t 138) (ci 1)),Fs 7 140 (Ld 139),Fm 8 141 9,Fs 9 142 (Bb .add 140 141),Fm 10 143 3,Fs 11 144 (.iaddrL 1 (.t 143) (ci 2)),Fs 12 145 (Ld 144),Fm 13 146 10,Fs 14 147 (Bb .add 145 146),Fm 15 148 3,Fs 16 149 (.iaddrL 1 (.t 148) (ci 3)),Fs 17 150 (Ld 149),Fm 18 151 11,Fs 19 152 (Bb .add 150 151),Fm 20 153 3,Fs 21 154 (.iaddrL 1 (.t 153) (ci 4)),Fs 22 155 (Ld 154),Fm 23 156 12,Fs 24 157 (Bb .add 155 156),Fs 25 158 (.lit 1 [.t 137,.t 142,.t 147,.t 152,.t 157]),⟨26,false,(xm 3 158)⟩]
def AX:List RI:=[omk 24 5,oo 25 (Bc .add 24 64) [24],omk 5 25]
def tn:RC:=(.post (Sq (So Lz (Kc 23 (Kk [23] .skip) (Kk [4,5,23] (.exit 0)))) (Sq (Bk 1 (So Ly (Sq (So l3 (Bk 2 (.loop sJ))) (Sq (.flt [0,1,3,0,8,24,0,64,192,0,512,1536,0,4096,12288,7,32831,98815,233471,524287] [] Be [63,64,65,66,67,68,69,70,71,72,73,74,75,76,77]) (Sq (So Bd (Bk 4 (.loop fO))) (.flt [0,1,3,0,15,0,32,96,0,480,0,1024,3072,0,15360,0,32768,98304,0,491520,0,1048576,3145728,0,15728640,33554431,67108863] [] AY [8,9,10,11,12,133,134,135,136,137,138,139,140,141,142,143,144,145,146,147,148,149,150,151,152,153,154,155,156,157,158])))))) (.ops AX))) [.gc [106]])
def sI:RC:=tn
def AW:List RI:=[omk 159 3,oo 160 (Ca 130 [.t 159]) [159],omk 2 160]
def xkE:RC:=(So mh (So LB (So LA (Sq (So ml (Bk 0 (.loop sI))) (So AW .ret)))))
def xbx:FnC:=⟨xkE,161,[.tmp 2],[],[]⟩
def Lu:List RI:=[omk 9 0,oo 10 (.toInt .u8 (.t 9)) [9],oo 11 (.litB [.t 10]) [10],omk 5 11]
def Ls:List RI:=[omk 12 1,on 13 (Ln 12),on 14 (Mc 0)]
def Lr:List RI:=[on 15 (Bb .lss 14 13)]
def Lq:List RI:=[on 16 (Ia 1 12 14),oo 17 (Ld 16) [16],omk 7 17]
def Lp:List RI:=[om 18 7,oo 19 (Ln 18) [18],oo 20 (.toInt .u32 (.t 19)) [19],omk 8 20]
def Lo:List RI:=[omk 21 5,om 22 8,oo 23 (.bin .shr (.t 22) (.c (.int .u64 24))) [22],oo 24 (.toInt .u8 (.t 23)) [23],om 25 8,oo 26 (.bin .shr (.t 25) (.c (.int .u64 16))) [25],oo 27 (.toInt .u8 (.t 26)) [26],om 28 8,oo 29 (.bin .shr (.t 28) (.c (.int .u64 8))) [28],oo 30 (.toInt .u8 (.t 29)) [29],omk 31 8,oo 32 (.toInt .u8 (.t 31)) [31],oo 33 (.litB [.t 24,.t 27,.t 30,.t 32]) [24,27,30,32],oo 34 (.app [.u8 0] 1 (.t 21) (.t 33)) [21,33],omk 5 34]
def Lm:List RI:=[omk 35 5,omk 36 7,oo 37 (.app [.u8 0] 1 (.t 35) (.t 36)) [35,36],omk 5 37]
def Ll:List RI:=[oo 38 (Bc .add 14 1) [14],omk 14 38]
def zM:RC:=(.post (So Lr (Sq (Kc 15 (Kk [15] .skip) (Kk [12,13,14,15] (.exit 0))) (Sq (Bk 1 (So Lq (So Lp (So Lo (.ops Lm))))) (.ops Ll)))) [.tok 5 105])
def Lk:RC:=zM
def AV:List RI:=[omk 39 5,omk 4 39]
def xkD:RC:=(So mi (So Lu (Sq (So Ls (Bk 0 (.pre [.tok 5 105] (.loop Lk)))) (So AV .ret))))
def xbw:FnC:=⟨xkD,40,[.tmp 4],[],[]⟩
def xkC:RC:=(So oy (Sq (.flt [0,0,2,7,15,31,63,0,0,256,768,1920,3968,8064,16256,32767,0,0,131072,393216,983040,2031616,4128768,8323072,16777215,0,0,67108864,201326592,503316480,1040187392,2113929216,4294967295,8589934591] [] yB [0,1,5,6,7,8,9,10,11,12,13,14,15,16,17,18,19,20,21,22,23,24,25,26,27,28,29,30,31,32,33,34,35,36,37]) .ret))
def xbv:FnC:=⟨xkC,38,[.tmp 4],[],[]⟩
def Lb:List RI:=[omk 6 1,oo 7 (.toInt .u64 (.t 6)) [6],oo 8 (.bin .and (.t 7) (.c (.int .u64 31))) [7],omk 5 8]
def La:List RI:=[om 9 0,om 10 5,oo 11 (Bb .shl 9 10) [9,10],omk 12 0,omk 13 5,oo 14 (.bin .sub (.c (.int .u64 32)) (.t 13)) [13],oo 15 (Bb .shr 12 14) [12,14],oo 16 (Bb .or 11 15) [11,15],omk 4 16]
def xkB:RC:=(So oy (So Lb (So La .ret)))
def xbu:FnC:=⟨xkB,17,[.tmp 4],[],[]⟩
def K9:List RI:=[om 3 0,oo 4 (.bin .geq (.t 3) (.c (.int .u64 4294967296))) [3]]
def K8:List RI:=[omk 5 0,oo 6 (.bin .shr (.t 5) (.c (.int .u64 32))) [5],omk 0 6]
def K7:List RI:=[on 2 (Mc 32)]
def K6:List RI:=[om 7 0,oo 8 (.bin .geq (.t 7) (.c (.int .u64 65536))) [7]]
def K5:List RI:=[omk 9 0,oo 10 (.bin .shr (.t 9) (.c (.int .u64 16))) [9],omk 0 10]
def K4:List RI:=[omk 11 2,oo 12 (Bc .add 11 16) [11],omk 2 12]
def K3:List RI:=[om 13 0,oo 14 (.bin .geq (.t 13) (.c (.int .u64 256))) [13]]
def K2:List RI:=[omk 15 0,oo 16 (.bin .shr (.t 15) (.c (.int .u64 8))) [15],omk 0 16]
def K1:List RI:=[omk 17 2,oo 18 (Bc .add 17 8) [17],omk 2 18]
def AU:List RI:=[omk 19 2,omk 20 0,oo 21 (.toInt .u8 (.t 20)) [20],oo 22 (.idxS (.c (.str cs0)) (.t 21)) [21],oo 23 (.toInt .i64 (.t 22)) [22],oo 24 (Bb .add 19 23) [19,23],omk 2 24]
def xkA:RC:=(So jH (Sq (So K9 (Kc 4 (Kk [2,4] (So K8 (.ops K7))) (Kk [4] .skip))) (Sq (So K6 (Kc 8 (Kk [8] (So K5 (.ops K4))) (Kk [8] .skip))) (Sq (So K3 (Kc 14 (Kk [14] (So K2 (.ops K1))) (Kk [14] .skip))) (So AU .ret)))))
def xbt:FnC:=⟨xkA,25,[.tmp 2],[],[]⟩
def K0:List RI:=[om 3 0,omk 4 0,oo 5 (Bb .neq 3 4) [3,4],omk 2 5]
def xkz:RC:=(So tV (So K0 .ret))
def xbs:FnC:=⟨xkz,6,[.tmp 2],[],[]⟩
def KZ:List RI:=[om 5 0,omk 6 0,oo 7 (Bc .add 6 1) [6],oo 8 (.slcS (.c (.str cs1)) (some (.t 5)) (some (.t 7))) [5,7],omk 2 8]
def KY:List RI:=[om 9 0,oo 10 (Bc .mul 9 2) [9],omk 11 0,oo 12 (Bc .mul 11 2) [11],oo 13 (Bc .add 12 2) [12],oo 14 (.slcS (.c (.str cs2)) (some (.t 10)) (some (.t 13))) [10,13],omk 2 14]
def xky:RC:=(So Em (Sq (So OU (Kc 4 (Kk [4] (So KZ .ret)) (Kk [4] .skip))) (So KY .ret)))
def xbr:FnC:=⟨xky,15,[.tmp 2],[],[]⟩
def KX:List RI:=[om 4 0,oo 5 (Ca 152 [.t 4]) [4],oo 6 (Ca 178 [.t 5]) [5],omk 3 6]
def KW:List RI:=[om 7 3,omk 8 0,omk 9 3,oo 10 (.iaddrA 20 1 (.c (.pp iP)) (.t 9)) [9],oo 11 (Ld 10) [10],oo 12 (Bb .geq 8 11) [8,11],oo 13 (Ca 179 [.t 12]) [12],oo 14 (Bb .add 7 13) [7,13],omk 2 14]
def xkx:RC:=(So mj (So KX (So KW .ret)))
def xbq:FnC:=⟨xkx,15,[.tmp 2],[],[]⟩
def KV:List RI:=[om 17 0,oo 18 (Ln 17) [17],omk 4 18]
def KU:List RI:=[om 19 4,oo 20 (Bc .geq 19 8) [19]]
def KT:List RI:=[om 21 1,oo 22 (.bin .rem (.t 21) (.c (.int .u64 100000000))) [21],oo 23 (.toInt .u32 (.t 22)) [22],omk 5 23]
def KS:List RI:=[omk 24 1,oo 25 (.bin .quo (.t 24) (.c (.int .u64 100000000))) [24],omk 1 25]
def KR:List RI:=[om 26 5,oo 27 (.bin .quo (.t 26) (.c (.int .u32 10000))) [26],omk 28 5,oo 29 (.bin .rem (.t 28) (.c (.int .u32 10000))) [28],omk 6 27,omk 7 29]
def KQ:List RI:=[om 30 7,oo 31 (.bin .quo (.t 30) (.c (.int .u32 100))) [30],oo 32 (.bin .mul (.t 31) (.c (.int .u32 2))) [31],omk 33 7,oo 34 (.bin .rem (.t 33) (.c (.int .u32 100))) [33],oo 35 (.bin .mul (.t 34) (.c (.int .u32 2))) [34],omk 8 32,omk 9 35]
def KP:List RI:=[om 36 6,oo 37 (.bin .quo (.t 36) (.c (.int .u32 100))) [36],oo 38 (.bin .mul (.t 37) (.c (.int .u32 2))) [37],omk 39 6,oo 40 (.bin .rem (.t 39) (.c (.int .u32 100))) [39],oo 41 (.bin .mul (.t 40) (.c (.int .u32 2))) [40],omk 10 38,omk 11 41]
def KO:List FI:=[Fm 0 42 0,Fm 1 43 4,Fs 2 44 (Bc .sub 43 1),Fm 3 45 0,Fm 4 46 4,Fs 5 47 (Bc .sub 46 2),Fm 6 48 9,Fs 7 49 (.bin .add (.t 48) (.c (.int .u32 1))),Fs 8 50 (.idxS (.c (.str cs2)) (.t 49)),Fm 9 51 9,Fs 10 52 (.idxS (.c (.str cs2)) (.t 51)),Fs 11 53 (Ia 1 42 44),Fr 12 1 53 50,Fs 13 54 (Ia 1 45 47),Fr 14 1 54 52]
def KN:List FI:=[Fm 0 55 0,Fm 1 56 4,Fs 2 57 (Bc .sub 56 3),Fm 3 58 0,Fm 4 59 4,Fs 5 60 (Bc .sub 59 4),Fm 6 61 8,Fs 7 62 (.bin .add (.t 61) (.c (.int .u32 1))),Fs 8 63 (.idxS (.c (.str cs2)) (.t 62)),Fm 9 64 8,Fs 10 65 (.idxS (.c (.str cs2)) (.t 64)),Fs 11 66 (Ia 1 55 57),Fr 12 1 66 63,Fs 13 67 (Ia 1 58 60),Fr 14 1 67 65]
def KM:List FI:=[Fm 0 68 0,Fm 1 69 4,Fs 2 70 (Bc .sub 69 5),Fm 3 71 0,Fm 4 72 4,Fs 5 73 (Bc .sub 72 6),Fm 6 74 11,Fs 7 75 (.bin .add (.t 74) (.c (.int .u32 1))),Fs 8 76 (.idxS (.c (.str cs2)) (.t 75)),Fm 9 77 11,Fs 10 78 (.idxS (.c (.str cs2)) (.t 77)),Fs 11 79 (Ia 1 68 70),Fr 12 1 79 76,Fs 13 80 (Ia 1 71 73),Fr 14 1 80 78]
def AS:List FI:=[Fm 0 81 0,Fm 1 82 4,Fs 2 83 (Bc .sub 82 7),Fm 3 84 0,Fm 4 85 4,Fs 5 86 (Bc .sub 85 8),Fm 6 87 10,Fs 7 88 (.bin .add (.t 87) (.c (.int .u32 1))),Fs 8 89 (.idxS (.c (.str cs2)) (.t 88)),Fm 9 90 10,Fs 10 91 (.idxS (.c (.str cs2)) (.t 90)),Fs 11 92 (Ia 1 81 83),Fr 12 1 92 89,Fs 13 93 (Ia 1 84 86),Fr 14 1 93 91]
def AR:List RI:=[omk 94 4,oo 95 (Bc .sub 94 8) [94],omk 4 95]
def tj:RC:=(Sq (So KU (Kc 20 (Kk [20] .skip) (Kk [20] (.exit 0)))) (Bk 1 (So KT (So KS (So KR (So KQ (So KP (Sq (.flt [0,0,2,0,0,16,0,64,192,0,512,455,2503,8191,16383] [] KO [9,42,43,44,45,46,47,48,49,50,51,52,53,54]) (Sq (.flt [0,0,2,0,0,16,0,64,192,0,512,455,2503,8191,16383] [] KN [8,55,56,57,58,59,60,61,62,63,64,65,66,67]) (Sq (.flt [0,0,2,0,0,16,0,64,192,0,512,455,2503,8191,16383] [] KM [11,68,69,70,71,72,73,74,75,76,77,78,79,80]) (Sq (.flt [0,0,2,0,0,16,0,64,192,0,512,455,2503,8191,16383] [] AS [10,81,82,83,84,85,86,87,88,89,90,91,92,93]) (.ops AR))))))))))))
def AQ:RC:=tj
def AP:List RI:=[omk 96 1,oo 97 (.toInt .u32 (.t 96)) [96],omk 12 97]
def AO:List RI:=[om 98 4,oo 99 (Bc .geq 98 4) [98]]
def AN:List RI:=[om 100 12,oo 101 (.bin .rem (.t 100) (.c (.int .u32 10000))) [100],omk 13 101]
def AM:List RI:=[omk 102 12,oo 103 (.bin .quo (.t 102) (.c (.int .u32 10000))) [102],omk 12 103]
def AL:List RI:=[om 104 13,oo 105 (.bin .quo (.t 104) (.c (.int .u32 100))) [104],oo 106 (.bin .mul (.t 105) (.c (.int .u32 2))) [105],omk 107 13,oo 108 (.bin .rem (.t 107) (.c (.int .u32 100))) [107],oo 109 (.bin .mul (.t 108) (.c (.int .u32 2))) [108],omk 14 106,omk 15 109]
def AK:List FI:=[Fm 0 110 0,Fm 1 111 4,Fs 2 112 (Bc .sub 111 1),Fm 3 113 0,Fm 4 114 4,Fs 5 115 (Bc .sub 114 2),Fm 6 116 15,Fs 7 117 (.bin .add (.t 116) (.c (.int .u32 1))),Fs 8 118 (.idxS (.c (.str cs2)) (.t 117)),Fm 9 119 15,Fs 10 120 (.idxS (.c (.str cs2)) (.t 119)),Fs 11 121 (Ia 1 110 112),Fr 12 1 121 118,Fs 13 122 (Ia 1 113 115),Fr 14 1 122 120]
def AJ:List FI:=[Fm 0 123 0,Fm 1 124 4,Fs 2 125 (Bc .sub 124 3),Fm 3 126 0,Fm 4 127 4,Fs 5 128 (Bc .sub 127 4),Fm 6 129 14,Fs 7 130 (.bin .add (.t 129) (.c (.int .u32 1))),Fs 8 131 (.idxS (.c (.str cs2)) (.t 130)),Fm 9 132 14,Fs 10 133 (.idxS (.c (.str cs2)) (.t 132)),Fs 11 134 (Ia 1 123 125),Fr 12 1 134 131,Fs 13 135 (Ia 1 126 128),Fr 14 1 135 133]
def AI:List RI:=[omk 136 4,oo 137 (Bc .sub 136 4) [136],omk 4 137]
def AH:List RI:=[om 138 4,oo 139 (Bc .geq 138 2) [138]]
def AG:List RI:=[om 140 12,oo 141 (.bin .rem (.t 140) (.c (.int .u32 100))) [140],oo 142 (.bin .mul (.t 141) (.c (.int .u32 2))) [141],omk 16 142]
def AF:List RI:=[omk 143 12,oo 144 (.bin .quo (.t 143) (.c (.int .u32 100))) [143],omk 12 144]
def AE:List FI:=[Fm 0 145 0,Fm 1 146 4,Fs 2 147 (Bc .sub 146 1),Fm 3 148 0,Fm 4 149 4,Fs 5 150 (Bc .sub 149 2),Fm 6 151 16,Fs 7 152 (.bin .add (.t 151) (.c (.int .u32 1))),Fs 8 153 (.idxS (.c (.str cs2)) (.t 152)),Fm 9 154 16,Fs 10 155 (.idxS (.c (.str cs2)) (.t 154)),Fs 11 156 (Ia 1 145 147),Fr 12 1 156 153,Fs 13 157 (Ia 1 148 150),Fr 14 1 157 155]
def AD:List RI:=[omk 158 4,oo 159 (Bc .sub 158 2) [158],omk 4 159]
def AC:List RI:=[omk 160 4,oo 161 (Bc .gtr 160 0) [160]]
def AB:List RI:=[omk 162 0,omk 163 12,oo 164 (.bin .add (.c (.int .u32 48)) (.t 163)) [163],oo 165 (.toInt .u8 (.t 164)) [164],oo 166 (.iaddrL 1 (.t 162) (ci 0)) [162],Sr 1 166 165 [165,166]]
def xkw:RC:=(So KV (Sq (Bk 0 (.loop AQ)) (So AP (Sq (So AO (Kc 99 (Kk [99] (So AN (So AM (So AL (Sq (.flt [0,0,2,0,0,16,0,64,192,0,512,455,2503,8191,16383] [] AK [15,110,111,112,113,114,115,116,117,118,119,120,121,122]) (Sq (.flt [0,0,2,0,0,16,0,64,192,0,512,455,2503,8191,16383] [] AJ [14,123,124,125,126,127,128,129,130,131,132,133,134,135]) (.ops AI))))))) (Kk [99] .skip))) (Sq (So AH (Kc 139 (Kk [139] (So AG (So AF (Sq (.flt [0,0,2,0,0,16,0,64,192,0,512,455,2503,8191,16383] [] AE [16,145,146,147,148,149,150,151,152,153,154,155,156,157]) (.ops AD))))) (Kk [139] .skip))) (So AC (Kc 161 (Kk [161] (.ops AB)) (Kk [0,12,161] .skip))))))))
def xbp:FnC:=⟨xkw,167,[],[],[]⟩
def KL:List RI:=[om 5 0,oo 6 (.len true (.t 5)) [5],oo 7 (Bc .gtr 6 0) [6],omk 8 7,.grp 8 true [(xi 9 8 true (Mv 0)),(xi 10 8 true (.idxS (.t 9) (ci 0))),(xi 11 8 true (Mv 1)),(xi 12 8 true (Bb .eql 10 11))] [9,10,11],oo 13 (Pf 8 12) [8,12]]
def KK:List RI:=[omk 14 0,oo 15 (.slcS (.t 14) (some (ci 1)) none) [14],omk 0 15]
def zK:RC:=(Sq (So KL (Kc 13 (Kk [13] .skip) (Kk [1,13] (.exit 0)))) (Bk 1 (.ops KK)))
def yy:RC:=zK
def KJ:List RI:=[omk 16 0,omk 4 16]
def xkv:RC:=(So qF (Sq (Bk 0 (.loop yy)) (So KJ .ret)))
def xbo:FnC:=⟨xkv,17,[.tmp 4],[],[]⟩
def KG:List RI:=[om 5 0,oo 6 (.len true (.t 5)) [5],oo 7 (Bc .gtr 6 0) [6],omk 8 7,.grp 8 true [(xi 9 8 true (Mv 0)),(xi 10 8 true (Mv 0)),(xi 11 8 true (.len true (.t 10))),(xi 12 8 true (Bc .sub 11 1)),(xi 13 8 true (.idxS (.t 9) (.t 12))),(xi 14 8 true (Mv 1)),(xi 15 8 true (Bb .eql 13 14))] [9,10,11,12,13,14],oo 16 (Pf 8 15) [8,15]]
def KF:List RI:=[om 17 0,omk 18 0,oo 19 (.len true (.t 18)) [18],oo 20 (Bc .sub 19 1) [19],oo 21 (.slcS (.t 17) none (some (.t 20))) [17,20],omk 0 21]
def zJ:RC:=(Sq (So KG (Kc 16 (Kk [16] .skip) (Kk [1,16] (.exit 0)))) (Bk 1 (.ops KF)))
def yx:RC:=zJ
def KE:List RI:=[omk 22 0,omk 4 22]
def xku:RC:=(So qF (Sq (Bk 0 (.loop yx)) (So KE .ret)))
def xbn:FnC:=⟨xku,23,[.tmp 4],[],[]⟩
def KD:List RI:=[om 5 0,oo 6 (.len true (.t 5)) [5],om 7 1,oo 8 (.len true (.t 7)) [7],oo 9 (Bb .geq 6 8) [6,8],omk 10 9,.grp 10 true [(xi 11 10 true (Mv 0)),(xi 12 10 true (Mv 1)),(xi 13 10 true (.len true (.t 12))),(xi 14 10 true (.slcS (.t 11) none (some (.t 13)))),(xi 15 10 true (Mv 1)),(xi 16 10 true (Bb .eql 14 15))] [0,1,11,12,13,14,15],oo 17 (Pf 10 16) [10,16],omk 4 17]
def xkt:RC:=(So lE (So KD .ret))
def xbm:FnC:=⟨xkt,18,[.tmp 4],[],[]⟩
def KC:List RI:=[om 11 0,oo 12 (.len true (.t 11)) [11],omk 4 12]
def KB:List RI:=[on 13 (Mb false),.grp 13 true [(xi 14 13 true (Mv 4)),(xi 15 13 true (.bin .lss (ci 0) (.t 14))),(xi 16 13 true (Mv 15))] [14,15],.grp 16 true [(xi 17 16 true (Mv 4)),(xi 18 16 true (Bc .lss 17 10))] [17],.grp 13 true [(xi 19 13 true (Pf 16 18))] [16,18],oo 20 (Pf 13 19) [13,19],omk 21 20,.grp 21 false [(xi 22 21 false (Mb true))] [],.grp 22 true [(xi 23 22 true (Mv 4)),(xi 24 22 true (.bin .lss (ci 0) (.t 23))),(xi 25 22 true (Mv 24))] [23,24],.grp 25 true [(xi 26 25 true (Mv 4)),(xi 27 25 true (Bc .lss 26 19))] [4,26],.grp 22 true [(xi 28 22 true (Pf 25 27))] [25,27],.grp 21 false [(xi 29 21 false (Pf 22 28))] [22,28],oo 30 (Pt 21 29) [21,29]]
def KA:List RI:=[om 31 0,omk 5 31]
def Kz:List RI:=[om 32 0,oo 33 (.idxS (.t 32) (ci 0)) [32],oo 34 (.bin .eql (.t 33) (.c (.u8 45))) [33],omk 35 34,.grp 35 false [(xi 36 35 false (Mv 0)),(xi 37 35 false (.idxS (.t 36) (ci 0))),(xi 38 35 false (.bin .eql (.t 37) (.c (.u8 43))))] [36,37],oo 39 (Pt 35 38) [35,38]]
def Ky:List RI:=[omk 40 0,oo 41 (.slcS (.t 40) (some (ci 1)) none) [40],omk 0 41]
def Kx:List RI:=[om 42 0,oo 43 (.len true (.t 42)) [42],oo 44 (Bc .lss 43 1) [43]]
def Kw:List RI:=[omk 46 0,oo 47 (.s2b (.t 46)) [46],on 48 (Ln 47),on 49 (Mc 0)]
def Kv:List RI:=[on 50 (Bb .lss 49 48)]
def AA:List RI:=[on 51 (Ia 1 47 49),oo 52 (Ld 51) [51],omk 8 52]
def Az:List RI:=[omk 53 8,oo 54 (.bin .sub (.t 53) (.c (.u8 48))) [53],omk 8 54]
def Ay:List RI:=[om 55 8,oo 56 (.bin .gtr (.t 55) (.c (.u8 9))) [55]]
def Ax:List RI:=[omk 58 6,oo 59 (Bc .mul 58 10) [58],omk 60 8,oo 61 (.toInt .i64 (.t 60)) [60],oo 62 (Bb .add 59 61) [59,61],omk 6 62]
def Aw:List RI:=[oo 63 (Bc .add 49 1) [49],omk 49 63]
def ti:RC:=(So Kv (Sq (Kc 50 (Kk [50] .skip) (Kk [47,48,49,50] (.exit 0))) (Sq (Bk 1 (So AA (So Az (Sq (So Ay (Kc 56 (Kk [5,6,8,47,48,49,56] (Sq .bad .ret)) (Kk [56] .skip))) (.ops Ax))))) (.ops Aw))))
def o4:RC:=ti
def Av:List RI:=[omk 64 5,oo 65 (.idxS (.t 64) (ci 0)) [64],oo 66 (.bin .eql (.t 65) (.c (.u8 45))) [65]]
def Au:List RI:=[omk 67 6,oo 68 (.un .neg (.t 67)) [67],omk 6 68]
def At:List RI:=[omk 69 6,omk 2 69,on 3 (.mov (.c .nili))]
def As:List RI:=[omk 71 0,oo 72 (Ca 186 [.t 71,ci 10,ci 0]) [71],omk 70 72,on 73 (.ext (.t 70) 0),oo 74 (.ext (.t 70) 1) [70],omk 9 73,omk 10 74]
def Ar:List RI:=[omk 75 9,omk 76 10,omk 2 75,omk 3 76]
def xks:RC:=(So yz (So KC (Sq (So KB (Kc 30 (Kk [30] (So KA (Sq (So Kz (Kc 39 (Kk [39] (So Ky (So Kx (Kc 44 (Kk [0,5,44] (Sq .bad .ret)) (Kk [44] .skip))))) (Kk [39] .skip))) (So lD (Sq (So Kw (Bk 0 (.loop o4))) (Sq (So Av (Kc 66 (Kk [66] (.ops Au)) (Kk [66] .skip))) (So At .ret))))))) (Kk [30] .skip))) (So As (So Ar .ret)))))
def xbl:FnC:=⟨xks,77,[.tmp 2,.tmp 3],[],[]⟩
def Ku:List RI:=[om 5 0,om 6 1,oo 7 (Bb .shl 5 6) [5,6],omk 8 0,omk 9 1,oo 10 (.bin .sub (.c (.int .u64 32)) (.t 9)) [9],oo 11 (Bb .shr 8 10) [8,10],oo 12 (Bb .or 7 11) [7,11],omk 4 12]
def xkr:RC:=(So oy (So Ku .ret))
def xbk:FnC:=⟨xkr,13,[.tmp 4],[],[]⟩
def Kr:List RI:=[omk 3 0,oo 4 (Bc .mul 3 78913) [3],oo 5 (.bin .shr (.t 4) (.c (.int .u64 18))) [4],omk 2 5]
def xkq:RC:=(So mj (So Kr .ret))
def xbj:FnC:=⟨xkq,6,[.tmp 2],[],[]⟩
def xkp:RC:=(So mj (Sq (So O7 (Kc 3 (Kk [3] (So fI .ret)) (Kk [3] .skip))) (So jH .ret)))
def xbi:FnC:=⟨xkp,4,[.tmp 2],[],[]⟩
theorem Fk{g:Nat}{F:FnC}{fn:Func}(h1:prog.funcs[g]? =some fn)(h3:fn.ntmps=F.n:=by kernel_rfl)(h2:fn.body.map (cE prog)=some F.code.er:=by kernel_rfl)(h4:(qw prog fn.results.toList F.rs&&ei prog g&&F.code.ok F.n)=true:=by kernel_rfl):bT prog g F:=by simp only[ay]at h4;exact Sb h1 h2 h3 h4.1.1 h4.1.2 h4.2
noncomputable def xj3:Nat->Option FnB
 |3=>some (.code F3)
 |5=>some (.code F5)
 |6=>some (.code F6)
 |10=>some (.code F10)
 |11=>some (.code F11)
 |12=>some (.code F12)
 |13=>some (.code F13)
 |14=>some (.code F14)
 |15=>some (.code F15)
 |16=>some (.code F16)
 |17=>some (.code F17)
 |18=>some (.code F18)
 |19=>some (.code F19)
 |20=>some (.code F20)
 |21=>some (.code F21)
 |22=>some (.code F22)
 |23=>some (.code F23)
 |24=>some (.code F24)
 |25=>some (.code F25)
 |26=>some (.code F26)
 |28=>some (.code F28)
 |29=>some (.code F29)
 |31=>some (.code F31)
 |33=>some (.code F33)
 |34=>some (.code F34)
 |35=>some (.code F35)
 |36=>some (.code F36)
 |37=>some (.code F37)
 |38=>some (.code F38)
 |39=>some (.code F39)
 |40=>some (.code F40)
 |41=>some (.code F41)
 |42=>some (.code F42)
 |43=>some (.code F43)
 |44=>some (.code F44)
 |45=>some (.code F45)
 |46=>some (.code F46)
 |47=>some (.code F47)
 |48=>some (.code F48)
 |49=>some (.code F49)
 |50=>some (.code F50)
 |51=>some (.code F51)
 |52=>some (.code F52)
 |53=>some (.code F53)
 |54=>some (.code F54)
 |55=>some (.code F55)
 |56=>some (.code F56)
 |57=>some (.code F57)
 |58=>some (.code F58)
 |59=>some (.code F59)
 |60=>some (.code F60)
 |63=>some (.code F63)
 |64=>some (.code F64)
 |65=>some (.code F65)
 |66=>some (.code F66)
 |67=>some (.code F67)
 |68=>some (.code F68)
 |69=>some (.code F69)
 |72=>some (.code F72)
 |75=>some (.code F75)
 |76=>some (.code F76)
 |77=>some (.code F77)
 |78=>some (.code F78)
 |79=>some (.code F79)
 |80=>some (.code F80)
 |81=>some (.code F81)
 |82=>some (.code F82)
 |83=>some (.code F83)
 |84=>some (.code F84)
 |85=>some (.code F85)
 |86=>some (.code F86)
 |87=>some (.code F87)
 |88=>some (.code F88)
 |89=>some (.code F89)
 |90=>some (.code F90)
 |91=>some (.code F91)
 |92=>some (.code F92)
 |93=>some (.code F93)
 |94=>some (.code F94)
 |95=>some (.code F95)
 |96=>some (.code F96)
 |97=>some (.code F97)
 |98=>some (.code F98)
 |99=>some (.code F99)
 |100=>some (.code xb0)
 |101=>some (.code xbZ)
 |102=>some (.code xbY)
 |106=>some (.code xbX)
 |107=>some (.code xbW)
 |108=>some (.code xbV)
 |109=>some (.code xbU)
 |110=>some (.code xbT)
 |113=>some (.code xbS)
 |114=>some (.code xbR)
 |115=>some (.code xbQ)
 |116=>some (.code xbP)
 |117=>some (.code xbO)
 |118=>some (.code xbN)
 |121=>some (.code xbM)
 |122=>some (.code xbL)
 |123=>some (.code xbK)
 |124=>some (.code xbJ)
 |125=>some (.code xbI)
 |126=>some (.code xbH)
 |127=>some (.code xbG)
 |128=>some (.code xbF)
 |129=>some (.code xbE)
 |130=>some (.code xbD)
 |131=>some (.code xbC)
 |132=>some (.code xbB)
 |133=>some (.code xbA)
 |134=>some (.code xbz)
 |135=>some (.code xby)
 |136=>some (.code xbx)
 |137=>some (.code xbw)
 |141=>some (.code xbv)
 |142=>some (.code xbu)
 |152=>some (.code xbt)
 |153=>some (.code xbs)
 |155=>some (.code xbr)
 |156=>some (.code xbq)
 |157=>some (.code xbp)
 |159=>some (.code xbo)
 |160=>some (.code xbn)
 |166=>some (.code xbm)
 |167=>some (.code xbl)
 |169=>some (.code xbk)
 |178=>some (.code xbj)
 |179=>some (.code xbi)
 |61=>some (.prim Pr.p61)
 |62=>some (.prim Pr.p62)
 |111=>some (.prim Pr.p111)
 |154=>some (.prim Pr.p154)
 |_=>none
def xlZ:Nat->Sig
 |60=>⟨[],[0]⟩
 |157=>⟨[],[0]⟩
 |62=>⟨[0],[0]⟩
 |_=> {}
noncomputable def T:jM:=⟨xj3,xlZ⟩
abbrev tf(k:Nat)(F:FnC):Prop:=T.fn k=some (.code F)
theorem T_3:tf 3 F3:=rfl
theorem T_5:tf 5 F5:=rfl
theorem T_6:tf 6 F6:=rfl
theorem xoU:tf 10 F10:=rfl
theorem xlG:tf 11 F11:=rfl
theorem xoT:tf 12 F12:=rfl
theorem xoS:tf 13 F13:=rfl
theorem xoR:tf 14 F14:=rfl
theorem xoQ:tf 15 F15:=rfl
theorem xoP:tf 16 F16:=rfl
theorem xoO:tf 17 F17:=rfl
theorem xoN:tf 18 F18:=rfl
theorem xoM:tf 19 F19:=rfl
theorem xoL:tf 20 F20:=rfl
theorem xoK:tf 21 F21:=rfl
theorem xoJ:tf 22 F22:=rfl
theorem xoI:tf 23 F23:=rfl
theorem xoH:tf 24 F24:=rfl
theorem xoG:tf 25 F25:=rfl
theorem xoF:tf 26 F26:=rfl
theorem xoE:tf 28 F28:=rfl
theorem xoD:tf 29 F29:=rfl
theorem xoC:tf 31 F31:=rfl
theorem xoB:tf 33 F33:=rfl
theorem xoA:tf 34 F34:=rfl
theorem xoz:tf 35 F35:=rfl
theorem xlF:tf 36 F36:=rfl
theorem xoy:tf 37 F37:=rfl
theorem pH:tf 38 F38:=rfl
theorem xox:tf 39 F39:=rfl
theorem xow:tf 40 F40:=rfl
theorem xov:tf 41 F41:=rfl
theorem xou:tf 42 F42:=rfl
theorem xot:tf 43 F43:=rfl
theorem xos:tf 44 F44:=rfl
theorem xoq:tf 45 F45:=rfl
theorem xop:tf 46 F46:=rfl
theorem xoo:tf 47 F47:=rfl
theorem xon:tf 48 F48:=rfl
theorem xom:tf 49 F49:=rfl
theorem xol:tf 50 F50:=rfl
theorem xok:tf 51 F51:=rfl
theorem xoj:tf 52 F52:=rfl
theorem xoi:tf 53 F53:=rfl
theorem xoh:tf 54 F54:=rfl
theorem xog:tf 55 F55:=rfl
theorem xof:tf 56 F56:=rfl
theorem xoe:tf 57 F57:=rfl
theorem xod:tf 58 F58:=rfl
theorem xoc:tf 59 F59:=rfl
theorem xlE:tf 60 F60:=rfl
theorem xoa:tf 63 F63:=rfl
theorem xaY:tf 64 F64:=rfl
theorem xlC:tf 65 F65:=rfl
theorem xlB:tf 66 F66:=rfl
theorem xn9:tf 67 F67:=rfl
theorem xn8:tf 68 F68:=rfl
theorem xlA:tf 69 F69:=rfl
theorem xn7:tf 72 F72:=rfl
theorem xn6:tf 75 F75:=rfl
theorem xn5:tf 76 F76:=rfl
theorem xn4:tf 77 F77:=rfl
theorem xn3:tf 78 F78:=rfl
theorem xn2:tf 79 F79:=rfl
theorem xn1:tf 80 F80:=rfl
theorem xn0:tf 81 F81:=rfl
theorem xnZ:tf 82 F82:=rfl
theorem xnY:tf 83 F83:=rfl
theorem xnX:tf 84 F84:=rfl
theorem xnW:tf 85 F85:=rfl
theorem xnV:tf 86 F86:=rfl
theorem xfN:tf 87 F87:=rfl
theorem xnU:tf 88 F88:=rfl
theorem xnT:tf 89 F89:=rfl
theorem xnS:tf 90 F90:=rfl
theorem xnR:tf 91 F91:=rfl
theorem xnQ:tf 92 F92:=rfl
theorem xnP:tf 93 F93:=rfl
theorem xnO:tf 94 F94:=rfl
theorem xnN:tf 95 F95:=rfl
theorem xnM:tf 96 F96:=rfl
theorem xnL:tf 97 F97:=rfl
theorem xnK:tf 98 F98:=rfl
theorem xlz:tf 99 F99:=rfl
theorem xjG:tf 100 xb0:=rfl
theorem xa0:tf 101 xbZ:=rfl
theorem xjF:tf 102 xbY:=rfl
theorem xjE:tf 106 xbX:=rfl
theorem EN:tf 107 xbW:=rfl
theorem xjD:tf 108 xbV:=rfl
theorem xjC:tf 109 xbU:=rfl
theorem xjB:tf 110 xbT:=rfl
theorem xjz:tf 113 xbS:=rfl
theorem xjy:tf 114 xbR:=rfl
theorem xjx:tf 115 xbQ:=rfl
theorem xjw:tf 116 xbP:=rfl
theorem xjv:tf 117 xbO:=rfl
theorem xju:tf 118 xbN:=rfl
theorem xjt:tf 121 xbM:=rfl
theorem xjs:tf 122 xbL:=rfl
theorem xjr:tf 123 xbK:=rfl
theorem xaZ:tf 124 xbJ:=rfl
theorem xjq:tf 125 xbI:=rfl
theorem xjp:tf 126 xbH:=rfl
theorem xjo:tf 127 xbG:=rfl
theorem xjn:tf 128 xbF:=rfl
theorem xjm:tf 129 xbE:=rfl
theorem xjl:tf 130 xbD:=rfl
theorem xjk:tf 131 xbC:=rfl
theorem xjj:tf 132 xbB:=rfl
theorem xji:tf 133 xbA:=rfl
theorem xjh:tf 134 xbz:=rfl
theorem xjg:tf 135 xby:=rfl
theorem xjf:tf 136 xbx:=rfl
theorem xje:tf 137 xbw:=rfl
theorem xjd:tf 141 xbv:=rfl
theorem xjc:tf 142 xbu:=rfl
theorem xjb:tf 152 xbt:=rfl
theorem xja:tf 153 xbs:=rfl
theorem xi8:tf 155 xbr:=rfl
theorem xi7:tf 156 xbq:=rfl
theorem xK:tf 157 xbp:=rfl
theorem xi6:tf 159 xbo:=rfl
theorem xi5:tf 160 xbn:=rfl
theorem xi4:tf 166 xbm:=rfl
theorem xi3:tf 167 xbl:=rfl
theorem xi2:tf 169 xbk:=rfl
theorem xi1:tf 178 xbj:=rfl
theorem xi0:tf 179 xbi:=rfl
theorem xob:T.fn 61=some (.prim Pr.p61):=rfl
theorem xlD:T.fn 62=some (.prim Pr.p62):=rfl
theorem xjA:T.fn 111=some (.prim Pr.p111):=rfl
theorem xi9:T.fn 154=some (.prim Pr.p154):=rfl
theorem S2:T.sg 61= {}:=rfl
theorem xlL:T.sg 62=⟨[0],[0]⟩:=rfl
theorem xbd:T.sg 111= {}:=rfl
theorem xjL:T.sg 154= {}:=rfl
theorem S_3:T.sg 3= {}:=rfl
theorem S_5:T.sg 5= {}:=rfl
theorem S_6:T.sg 6= {}:=rfl
theorem qV:T.sg 10= {}:=rfl
theorem qU:T.sg 11= {}:=rfl
theorem lT:T.sg 12= {}:=rfl
theorem S4:T.sg 13= {}:=rfl
theorem xo6:T.sg 14= {}:=rfl
theorem S3:T.sg 15= {}:=rfl
theorem tM:T.sg 16= {}:=rfl
theorem wi:T.sg 17= {}:=rfl
theorem xP:T.sg 18= {}:=rfl
theorem OM:T.sg 19= {}:=rfl
theorem xlT:T.sg 20= {}:=rfl
theorem xf4:T.sg 21= {}:=rfl
theorem xlS:T.sg 22= {}:=rfl
theorem xlR:T.sg 23= {}:=rfl
theorem xf3:T.sg 24= {}:=rfl
theorem jy:T.sg 25= {}:=rfl
theorem xf2:T.sg 26= {}:=rfl
theorem xf1:T.sg 28= {}:=rfl
theorem xlQ:T.sg 29= {}:=rfl
theorem xf0:T.sg 31= {}:=rfl
theorem E5:T.sg 33= {}:=rfl
theorem xO:T.sg 34= {}:=rfl
theorem OL:T.sg 35= {}:=rfl
theorem xlP:T.sg 36= {}:=rfl
theorem eE:T.sg 37= {}:=rfl
theorem xfZ:T.sg 38= {}:=rfl
theorem xa2:T.sg 39= {}:=rfl
theorem xfY:T.sg 40= {}:=rfl
theorem xN:T.sg 41= {}:=rfl
theorem jS:T.sg 42= {}:=rfl
theorem xo5:T.sg 43= {}:=rfl
theorem rZ:T.sg 44= {}:=rfl
theorem xo4:T.sg 45= {}:=rfl
theorem xlO:T.sg 46= {}:=rfl
theorem E4:T.sg 47= {}:=rfl
theorem wh:T.sg 48= {}:=rfl
theorem xo3:T.sg 49= {}:=rfl
theorem OK:T.sg 50= {}:=rfl
theorem xlN:T.sg 51= {}:=rfl
theorem xlM:T.sg 52= {}:=rfl
theorem xo2:T.sg 53= {}:=rfl
theorem wg:T.sg 54= {}:=rfl
theorem CW:T.sg 55= {}:=rfl
theorem xa1:T.sg 56= {}:=rfl
theorem OJ:T.sg 57= {}:=rfl
theorem xfX:T.sg 58= {}:=rfl
theorem xfW:T.sg 59= {}:=rfl
theorem xfV:T.sg 60=⟨[],[0]⟩:=rfl
theorem xfU:T.sg 63= {}:=rfl
theorem xo1:T.sg 64= {}:=rfl
theorem xlK:T.sg 65= {}:=rfl
theorem xlJ:T.sg 66= {}:=rfl
theorem xo0:T.sg 67= {}:=rfl
theorem xlI:T.sg 68= {}:=rfl
theorem E3:T.sg 69= {}:=rfl
theorem xlH:T.sg 72= {}:=rfl
theorem xoZ:T.sg 75= {}:=rfl
theorem nf:T.sg 76= {}:=rfl
theorem xfT:T.sg 77= {}:=rfl
theorem xoY:T.sg 78= {}:=rfl
theorem xfS:T.sg 79= {}:=rfl
theorem OI:T.sg 80= {}:=rfl
theorem xM:T.sg 81= {}:=rfl
theorem E2:T.sg 82= {}:=rfl
theorem S1:T.sg 83= {}:=rfl
theorem OH:T.sg 84= {}:=rfl
theorem xoX:T.sg 85= {}:=rfl
theorem nV:T.sg 86= {}:=rfl
theorem OG:T.sg 87= {}:=rfl
theorem nb:T.sg 88= {}:=rfl
theorem nU:T.sg 89= {}:=rfl
theorem tK:T.sg 90= {}:=rfl
theorem xoW:T.sg 91= {}:=rfl
theorem xoV:T.sg 92= {}:=rfl
theorem xfR:T.sg 93= {}:=rfl
theorem xfQ:T.sg 94= {}:=rfl
theorem kx:T.sg 95= {}:=rfl
theorem m9:T.sg 96= {}:=rfl
theorem S0:T.sg 97= {}:=rfl
theorem xfP:T.sg 98= {}:=rfl
theorem CV:T.sg 99= {}:=rfl
theorem xjZ:T.sg 100= {}:=rfl
theorem xbg:T.sg 101= {}:=rfl
theorem xjY:T.sg 102= {}:=rfl
theorem pJ:T.sg 106= {}:=rfl
theorem xbf:T.sg 107= {}:=rfl
theorem EP:T.sg 108= {}:=rfl
theorem xbe:T.sg 109= {}:=rfl
theorem xjX:T.sg 110= {}:=rfl
theorem xbc:T.sg 113= {}:=rfl
theorem xjW:T.sg 114= {}:=rfl
theorem xbb:T.sg 115= {}:=rfl
theorem xjV:T.sg 116= {}:=rfl
theorem kS:T.sg 117= {}:=rfl
theorem mH:T.sg 118= {}:=rfl
theorem xjU:T.sg 121= {}:=rfl
theorem xjT:T.sg 122= {}:=rfl
theorem xjS:T.sg 123= {}:=rfl
theorem PY:T.sg 124= {}:=rfl
theorem xjR:T.sg 125= {}:=rfl
theorem xjQ:T.sg 126= {}:=rfl
theorem xba:T.sg 127= {}:=rfl
theorem xa9:T.sg 128= {}:=rfl
theorem xa8:T.sg 129= {}:=rfl
theorem xa7:T.sg 130= {}:=rfl
theorem EO:T.sg 131= {}:=rfl
theorem xjP:T.sg 132= {}:=rfl
theorem xjO:T.sg 133= {}:=rfl
theorem xa6:T.sg 134= {}:=rfl
theorem xa5:T.sg 135= {}:=rfl
theorem xjN:T.sg 136= {}:=rfl
theorem xjM:T.sg 137= {}:=rfl
theorem xa4:T.sg 141= {}:=rfl
theorem rj:T.sg 142= {}:=rfl
theorem kR:T.sg 152= {}:=rfl
theorem PX:T.sg 153= {}:=rfl
theorem xjK:T.sg 155= {}:=rfl
theorem xS:T.sg 156= {}:=rfl
theorem xR:T.sg 157=⟨[],[0]⟩:=rfl
theorem xjJ:T.sg 159= {}:=rfl
theorem xjI:T.sg 160= {}:=rfl
theorem xa3:T.sg 166= {}:=rfl
theorem xjH:T.sg 167= {}:=rfl
theorem xQ:T.sg 169= {}:=rfl
theorem kQ:T.sg 178= {}:=rfl
theorem kP:T.sg 179= {}:=rfl
theorem xdD(c:CSt):run T yE c=run T zS c:=rfl
theorem xdz(c:CSt):run T uj c=run T zO c:=rfl
theorem xdw(c:CSt):run T ox c=run T zL c:=rfl
theorem xdt(c:CSt):run T l6 c=run T zI c:=rfl
theorem xds(c:CSt):run T l5 c=run T zH c:=rfl
theorem xdr(c:CSt):run T ui c=run T zG c:=rfl
theorem xdq(c:CSt):run T uh c=run T zF c:=rfl
theorem xgP(c:CSt):run T Px c=run T PV c:=rfl
theorem xdp(c:CSt):run T yv c=run T zE c:=rfl
theorem xgO(c:CSt):run T Pu c=run T PU c:=rfl
theorem xdo(c:CSt):run T yu c=run T zD c:=rfl
theorem xgN(c:CSt):run T Ps c=run T PT c:=rfl
theorem xdn(c:CSt):run T yr c=run T zC c:=rfl
theorem xdm(c:CSt):run T yq c=run T zB c:=rfl
theorem xdl(c:CSt):run T qE c=run T zA c:=rfl
theorem xgM(c:CSt):run T Pp c=run T PS c:=rfl
theorem xdk(c:CSt):run T lZ c=run T zy c:=rfl
theorem xdj(c:CSt):run T yp c=run T zx c:=rfl
theorem xdi(c:CSt):run T yo c=run T zw c:=rfl
theorem xdh(c:CSt):run T yn c=run T zu c:=rfl
theorem xdg(c:CSt):run T JI c=run T zt c:=rfl
theorem xdf(c:CSt):run T ym c=run T zr c:=rfl
theorem xde(c:CSt):run T lY c=run T zq c:=rfl
theorem xdd(c:CSt):run T yl c=run T zp c:=rfl
theorem xdc(c:CSt):run T ud c=run T zo c:=rfl
theorem xgL(c:CSt):run T Eo c=run T PR c:=rfl
theorem xgK(c:CSt):run T Pk c=run T PQ c:=rfl
theorem xdb(c:CSt):run T lX c=run T zm c:=rfl
theorem xda(c:CSt):run T ub c=run T zl c:=rfl
theorem xgJ(c:CSt):run T Pd c=run T PP c:=rfl
theorem xc9(c:CSt):run T yi c=run T zk c:=rfl
theorem xc8(c:CSt):run T yh c=run T zj c:=rfl
theorem xgI(c:CSt):run T Pa c=run T PO c:=rfl
theorem xc7(c:CSt):run T lW c=run T zi c:=rfl
theorem xc6(c:CSt):run T tZ c=run T zh c:=rfl
theorem xc5(c:CSt):run T tY c=run T zg c:=rfl
theorem xc4(c:CSt):run T yg c=run T zf c:=rfl
theorem xgH(c:CSt):run T O6 c=run T PN c:=rfl
theorem xgG(c:CSt):run T O5 c=run T PM c:=rfl
theorem xc3(c:CSt):run T yf c=run T ze c:=rfl
theorem xc2(c:CSt):run T tX c=run T zd c:=rfl
theorem xc1(c:CSt):run T qD c=run T zc c:=rfl
theorem xc0(c:CSt):run T qC c=run T zb c:=rfl
theorem xgF(c:CSt):run T O4 c=run T PL c:=rfl
theorem xcZ(c:CSt):run T ye c=run T za c:=rfl
theorem xcY(c:CSt):run T yd c=run T y9 c:=rfl
theorem xcX(c:CSt):run T tW c=run T y8 c:=rfl
theorem xgE(c:CSt):run T U4 c=run T PK c:=rfl
theorem xcW(c:CSt):run T yc c=run T y7 c:=rfl
theorem xcV(c:CSt):run T yb c=run T y6 c:=rfl
theorem xcU(c:CSt):run T ya c=run T y5 c:=rfl
theorem xcT(c:CSt):run T x8 c=run T y0 c:=rfl
theorem xcS(c:CSt):run T x7 c=run T yZ c:=rfl
theorem xgD(c:CSt):run T O2 c=run T PJ c:=rfl
theorem xgC(c:CSt):run T O1 c=run T PI c:=rfl
theorem xcR(c:CSt):run T Hu c=run T yY c:=rfl
theorem xcQ(c:CSt):run T x6 c=run T yX c:=rfl
theorem xcP(c:CSt):run T x5 c=run T yW c:=rfl
theorem xgB(c:CSt):run T OY c=run T PH c:=rfl
theorem xgA(c:CSt):run T OW c=run T PG c:=rfl
theorem xgz(c:CSt):run T OV c=run T PF c:=rfl
theorem xgy(c:CSt):run T OT c=run T PE c:=rfl
theorem Rm(c:CSt):run T sR c=run T tG c:=rfl
theorem Rl(c:CSt):run T sQ c=run T tF c:=rfl
theorem Rk(c:CSt):run T mM c=run T tE c:=rfl
theorem Rj(c:CSt):run T mL c=run T tz c:=rfl
theorem xdJ(c:CSt):run T yJ c=run T zY c:=rfl
theorem xdI(c:CSt):run T Nz c=run T zX c:=rfl
theorem xdH(c:CSt):run T yI c=run T zW c:=rfl
theorem Ri(c:CSt):run T sP c=run T tx c:=rfl
theorem xdG(c:CSt):run T yH c=run T zV c:=rfl
theorem Rh(c:CSt):run T fP c=run T tw c:=rfl
theorem xdF(c:CSt):run T yG c=run T zU c:=rfl
theorem Rg(c:CSt):run T sN c=run T tv c:=rfl
theorem Rf(c:CSt):run T sM c=run T tu c:=rfl
theorem Re(c:CSt):run T sL c=run T tt c:=rfl
theorem xdE(c:CSt):run T yF c=run T zT c:=rfl
theorem xdC(c:CSt):run T MH c=run T zR c:=rfl
theorem xdB(c:CSt):run T Mq c=run T zQ c:=rfl
theorem xdA(c:CSt):run T yC c=run T zP c:=rfl
theorem Rd(c:CSt):run T sK c=run T tr c:=rfl
theorem xdy(c:CSt):run T yA c=run T zN c:=rfl
theorem Rc(c:CSt):run T sJ c=run T tq c:=rfl
theorem Rb(c:CSt):run T fO c=run T tp c:=rfl
theorem Ra(c:CSt):run T sI c=run T tn c:=rfl
theorem xdx(c:CSt):run T Lk c=run T zM c:=rfl
theorem QZ(c:CSt):run T AQ c=run T tj c:=rfl
theorem xdv(c:CSt):run T yy c=run T zK c:=rfl
theorem xdu(c:CSt):run T yx c=run T zJ c:=rfl
theorem QY(c:CSt):run T o4 c=run T ti c:=rfl
theorem xmk:bT prog 3 F3:=Fk func3
theorem xmj:bT prog 5 F5:=Fk func5
theorem xmi:bT prog 6 F6:=Fk func6
theorem xic:bT prog 10 F10:=Fk func10
theorem xib:bT prog 11 F11:=Fk func11
theorem xia:bT prog 12 F12:=Fk func12
theorem xh9:bT prog 13 F13:=Fk func13
theorem xh8:bT prog 14 F14:=Fk func14
theorem xh7:bT prog 15 F15:=Fk func15
theorem xh6:bT prog 16 F16:=Fk func16
theorem xh5:bT prog 17 F17:=Fk func17
theorem xh4:bT prog 18 F18:=Fk func18
theorem xh3:bT prog 19 F19:=Fk func19
theorem xh2:bT prog 20 F20:=Fk func20
theorem xh1:bT prog 21 F21:=Fk func21
theorem xh0:bT prog 22 F22:=Fk func22
theorem xhZ:bT prog 23 F23:=Fk func23
theorem xhY:bT prog 24 F24:=Fk func24
theorem xhX:bT prog 25 F25:=Fk func25
theorem xhW:bT prog 26 F26:=Fk func26
theorem xhV:bT prog 28 F28:=Fk func28
theorem xhU:bT prog 29 F29:=Fk func29
theorem xhT:bT prog 31 F31:=Fk func31
theorem xhS:bT prog 33 F33:=Fk func33
theorem xhR:bT prog 34 F34:=Fk func34
theorem xhQ:bT prog 35 F35:=Fk func35
theorem xhP:bT prog 36 F36:=Fk func36
theorem xhO:bT prog 37 F37:=Fk func37
theorem xhN:bT prog 38 F38:=Fk func38
theorem xhM:bT prog 39 F39:=Fk func39
theorem xhL:bT prog 40 F40:=Fk func40
theorem xhK:bT prog 41 F41:=Fk func41
theorem xhJ:bT prog 42 F42:=Fk func42
theorem xhI:bT prog 43 F43:=Fk func43
theorem xhH:bT prog 44 F44:=Fk func44
theorem xhG:bT prog 45 F45:=Fk func45
theorem xhF:bT prog 46 F46:=Fk func46
theorem xhE:bT prog 47 F47:=Fk func47
theorem xhD:bT prog 48 F48:=Fk func48
theorem xhC:bT prog 49 F49:=Fk func49
theorem xhB:bT prog 50 F50:=Fk func50
theorem xhA:bT prog 51 F51:=Fk func51
theorem xhz:bT prog 52 F52:=Fk func52
theorem xhy:bT prog 53 F53:=Fk func53
theorem xhx:bT prog 54 F54:=Fk func54
theorem xhw:bT prog 55 F55:=Fk func55
theorem xhv:bT prog 56 F56:=Fk func56
theorem xhu:bT prog 57 F57:=Fk func57
theorem xht:bT prog 58 F58:=Fk func58
theorem xhs:bT prog 59 F59:=Fk func59
theorem xhr:bT prog 60 F60:=Fk func60
theorem xhq:bT prog 63 F63:=Fk func63
theorem xhp:bT prog 64 F64:=Fk func64
theorem xho:bT prog 65 F65:=Fk func65
theorem xhn:bT prog 66 F66:=Fk func66
theorem xhm:bT prog 67 F67:=Fk func67
theorem xhl:bT prog 68 F68:=Fk func68
theorem xhk:bT prog 69 F69:=Fk func69
theorem xhj:bT prog 72 F72:=Fk func72
theorem xhi:bT prog 75 F75:=Fk func75
theorem xhh:bT prog 76 F76:=Fk func76
theorem xhg:bT prog 77 F77:=Fk func77
theorem xhf:bT prog 78 F78:=Fk func78
theorem xhe:bT prog 79 F79:=Fk func79
theorem xhd:bT prog 80 F80:=Fk func80
theorem xhc:bT prog 81 F81:=Fk func81
theorem xhb:bT prog 82 F82:=Fk func82
theorem xha:bT prog 83 F83:=Fk func83
theorem xg9:bT prog 84 F84:=Fk func84
theorem xg8:bT prog 85 F85:=Fk func85
theorem xg7:bT prog 86 F86:=Fk func86
theorem xg6:bT prog 87 F87:=Fk func87
theorem xg5:bT prog 88 F88:=Fk func88
theorem xg4:bT prog 89 F89:=Fk func89
theorem xg3:bT prog 90 F90:=Fk func90
theorem xg2:bT prog 91 F91:=Fk func91
theorem xg1:bT prog 92 F92:=Fk func92
theorem xg0:bT prog 93 F93:=Fk func93
theorem xgZ:bT prog 94 F94:=Fk func94
theorem xgY:bT prog 95 F95:=Fk func95
theorem xgX:bT prog 96 F96:=Fk func96
theorem xgW:bT prog 97 F97:=Fk func97
theorem xgV:bT prog 98 F98:=Fk func98
theorem xgU:bT prog 99 F99:=Fk func99
theorem xev:bT prog 100 xb0:=Fk func100
theorem xeu:bT prog 101 xbZ:=Fk func101
theorem xet:bT prog 102 xbY:=Fk func102
theorem xes:bT prog 106 xbX:=Fk func106
theorem xer:bT prog 107 xbW:=Fk func107
theorem xeq:bT prog 108 xbV:=Fk func108
theorem xep:bT prog 109 xbU:=Fk func109
theorem xeo:bT prog 110 xbT:=Fk func110
theorem xen:bT prog 113 xbS:=Fk func113
theorem xem:bT prog 114 xbR:=Fk func114
theorem xel:bT prog 115 xbQ:=Fk func115
theorem xek:bT prog 116 xbP:=Fk func116
theorem xej:bT prog 117 xbO:=Fk func117
theorem xei:bT prog 118 xbN:=Fk func118
theorem xeh:bT prog 121 xbM:=Fk func121
theorem xeg:bT prog 122 xbL:=Fk func122
theorem xef:bT prog 123 xbK:=Fk func123
theorem xee:bT prog 124 xbJ:=Fk func124
theorem xed:bT prog 125 xbI:=Fk func125
theorem xec:bT prog 126 xbH:=Fk func126
theorem xeb:bT prog 127 xbG:=Fk func127
theorem xea:bT prog 128 xbF:=Fk func128
theorem xd9:bT prog 129 xbE:=Fk func129
theorem xd8:bT prog 130 xbD:=Fk func130
theorem xd7:bT prog 131 xbC:=Fk func131
theorem xd6:bT prog 132 xbB:=Fk func132
theorem xd5:bT prog 133 xbA:=Fk func133
theorem xd4:bT prog 134 xbz:=Fk func134
theorem xd3:bT prog 135 xby:=Fk func135
theorem xd2:bT prog 136 xbx:=Fk func136
theorem xd1:bT prog 137 xbw:=Fk func137
theorem xd0:bT prog 141 xbv:=Fk func141
theorem xdZ:bT prog 142 xbu:=Fk func142
theorem xdY:bT prog 152 xbt:=Fk func152
theorem xdX:bT prog 153 xbs:=Fk func153
theorem xdW:bT prog 155 xbr:=Fk func155
theorem xdV:bT prog 156 xbq:=Fk func156
theorem xdU:bT prog 157 xbp:=Fk func157
theorem xdT:bT prog 159 xbo:=Fk func159
theorem xdS:bT prog 160 xbn:=Fk func160
theorem xdR:bT prog 166 xbm:=Fk func166
theorem xdQ:bT prog 167 xbl:=Fk func167
theorem xdP:bT prog 169 xbk:=Fk func169
theorem xdO:bT prog 178 xbj:=Fk func178
theorem xdN:bT prog 179 xbi:=Fk func179
theorem xcv:xJ prog T:=by
 intro g b h;simp only[T]at h;unfold xj3 at h;split at h
 ·cases h;exact xmk
 ·cases h;exact xmj
 ·cases h;exact xmi
 ·cases h;exact xic
 ·cases h;exact xib
 ·cases h;exact xia
 ·cases h;exact xh9
 ·cases h;exact xh8
 ·cases h;exact xh7
 ·cases h;exact xh6
 ·cases h;exact xh5
 ·cases h;exact xh4
 ·cases h;exact xh3
 ·cases h;exact xh2
 ·cases h;exact xh1
 ·cases h;exact xh0
 ·cases h;exact xhZ
 ·cases h;exact xhY
 ·cases h;exact xhX
 ·cases h;exact xhW
 ·cases h;exact xhV
 ·cases h;exact xhU
 ·cases h;exact xhT
 ·cases h;exact xhS
 ·cases h;exact xhR
 ·cases h;exact xhQ
 ·cases h;exact xhP
 ·cases h;exact xhO
 ·cases h;exact xhN
 ·cases h;exact xhM
 ·cases h;exact xhL
 ·cases h;exact xhK
 ·cases h;exact xhJ
 ·cases h;exact xhI
 ·cases h;exact xhH
 ·cases h;exact xhG
 ·cases h;exact xhF
 ·cases h;exact xhE
 ·cases h;exact xhD
 ·cases h;exact xhC
 ·cases h;exact xhB
 ·cases h;exact xhA
 ·cases h;exact xhz
 ·cases h;exact xhy
 ·cases h;exact xhx
 ·cases h;exact xhw
 ·cases h;exact xhv
 ·cases h;exact xhu
 ·cases h;exact xht
 ·cases h;exact xhs
 ·cases h;exact xhr
 ·cases h;exact xhq
 ·cases h;exact xhp
 ·cases h;exact xho
 ·cases h;exact xhn
 ·cases h;exact xhm
 ·cases h;exact xhl
 ·cases h;exact xhk
 ·cases h;exact xhj
 ·cases h;exact xhi
 ·cases h;exact xhh
 ·cases h;exact xhg
 ·cases h;exact xhf
 ·cases h;exact xhe
 ·cases h;exact xhd
 ·cases h;exact xhc
 ·cases h;exact xhb
 ·cases h;exact xha
 ·cases h;exact xg9
 ·cases h;exact xg8
 ·cases h;exact xg7
 ·cases h;exact xg6
 ·cases h;exact xg5
 ·cases h;exact xg4
 ·cases h;exact xg3
 ·cases h;exact xg2
 ·cases h;exact xg1
 ·cases h;exact xg0
 ·cases h;exact xgZ
 ·cases h;exact xgY
 ·cases h;exact xgX
 ·cases h;exact xgW
 ·cases h;exact xgV
 ·cases h;exact xgU
 ·cases h;exact xev
 ·cases h;exact xeu
 ·cases h;exact xet
 ·cases h;exact xes
 ·cases h;exact xer
 ·cases h;exact xeq
 ·cases h;exact xep
 ·cases h;exact xeo
 ·cases h;exact xen
 ·cases h;exact xem
 ·cases h;exact xel
 ·cases h;exact xek
 ·cases h;exact xej
 ·cases h;exact xei
 ·cases h;exact xeh
 ·cases h;exact xeg
 ·cases h;exact xef
 ·cases h;exact xee
 ·cases h;exact xed
 ·cases h;exact xec
 ·cases h;exact xeb
 ·cases h;exact xea
 ·cases h;exact xd9
 ·cases h;exact xd8
 ·cases h;exact xd7
 ·cases h;exact xd6
 ·cases h;exact xd5
 ·cases h;exact xd4
 ·cases h;exact xd3
 ·cases h;exact xd2
 ·cases h;exact xd1
 ·cases h;exact xd0
 ·cases h;exact xdZ
 ·cases h;exact xdY
 ·cases h;exact xdX
 ·cases h;exact xdW
 ·cases h;exact xdV
 ·cases h;exact xdU
 ·cases h;exact xdT
 ·cases h;exact xdS
 ·cases h;exact xdR
 ·cases h;exact xdQ
 ·cases h;exact xdP
 ·cases h;exact xdO
 ·cases h;exact xdN
 ·cases h;exact Pr.p61_ok
 ·cases h;exact Pr.p62_ok
 ·cases h;exact Pr.p111_ok
 ·cases h;exact Pr.p154_ok
 ·cases h
attribute [go_sem] SV.kclip Tok.kc QV xiZ xiY xnJ iz uk Qu Ey jo List.all_replicate Ct Cs Qx xcu Ro Rq Rp F8 Rr Rt Rs xfF xfE aw.injEq xmg xgq xiN xeB xew xb Dd De xeJ xce EH Dg av dT bD ba SU SW xfA GQ Gf DH C6 C7 Tok.ids kW aX ah cQ Int.natCast_nonneg Int.ofNat_lt Int.ofNat_le Int.ofNat_inj FM QR FQ QT QU xf6 P6 xf7 xcc xcb xb7 xgd xge xgb xlU P4 P3 xf5 xgf xb8 xb3 xb4 xb5 P5 xf9 E7 E8 xcg xcf xga xf8 xcd xgc xb9 xca xb6 xmf xme xmh xcD xgr xe2 xmU xmV xmS xmT xmX R8 xe3 Sc QQ FR Dw QS FO xe0 Dy Dz FW FX xeZ RO xnz xnB xnA pY DJ xig RF xii xeH xeG xeC xiq xir xim xml Rz Ry xie xis xeD xex xey xez RE xik F9 Ga xeL xeK xil xij xeI xio xeE xeF xeA RD xif xip xmm xih RB xit xin xeM SZ Ee mkE xfG stC Fo apS apB apL SY cpC cp2 cpB cpL xcE xdM Cu Ok Cv Cw ld lf Oh CA CB xcs Qq xiO xeN xeV xeU RU Gp Gn DN RT DP Gq RW DO xh Gc Gd RL xl2 xl0 xl1 QA xcz xiS xiW xiV xiU GZ SN xms xmq xmr RN xeQ F1 xgS xgQ xgR F0 Rn GK D8 D9 xiQ xiP Sd EC xaT xaN tQ Tg xaU Ha Eh Ei ur xaE pt pZ mU EK EJ xaL lenC xaR ED EE uw xau EF Ez uo eH jg vU iC iH xfM mN du evL CSt.purge xl xW OR mT EZ mB kl oD fi gu psC Tok.readyC aF.wf SV.bare SV.bareL jN jO su jD ec cz dJ gw gC fE dD oP eu rf rg mF q7 jL iN FA Dh QK Fu FB Fx Df wH QL Fv QN FC Dq wL Dn wK FD Dj Do Dm wI wJ uL FE Dk FG Dp Di FF Dl Ft QM Fw PD GV SK SL Sf Sh Si Sg SR Fp QB QH QG QF QE QD QC xfb xe4 xe9 xfa xe8 xe7 xe6 xe5 Rx Rw Rv R4 R3 RY RX R2 RZ SQ xfz eW CSt.publish lc lN oh SV.pub SV.pubL wT gcC qQ Qv ru ke fR gP tks oj EW ri dE PC wm hJ jJ SV.num lV iE toB rows uu gG eD setCells Tok.eat SV.one SV.data SV.isData SV.cells SV.isDef SV.purge SV.purgeL aF.purge bE cA Tok.purge SV.ren SV.renL aF.ren Tok.ren SV.ids SV.idsL SV.toks SV.toksL aF.ids aF.toks io js inR oZ fg id_eq au aQ bO bC bJ bF fx beq_self_eq_true bf bj List.getD_nil List.take_succ_cons List.take_zero List.take_nil aV List.drop_succ_cons List.drop_nil aP df List.flatten_cons List.flatten_nil List.contains_nil List.contains_cons List.isEmpty_nil List.isEmpty_cons ly List.all_nil List.set_cons_zero List.set_cons_succ bq Option.getD_none bt Option.map_none Option.toList_some Option.toList_none cT Option.isNone_none Option.isNone_some Option.isSome_none Option.isSome_some Bool.or_false fQ Bool.or_true dp Bool.and_self Bool.and_true Bool.true_and Bool.and_false EU Bool.not_true Bool.not_false aG Bool.true_eq_false Bool.not_eq_true Bool.not_eq_false decide_eq_true_eq decide_eq_false_iff_not and_true true_and and_self or_false false_or or_true true_or not_true_eq_false not_false_eq_true ne_eq fq true_implies false_implies implies_true decide_true decide_false Nat.lt_irrefl Nat.not_lt_zero aN bP eq_self and_false false_and xan mvC xk9 xap
attribute [go_sem] Fm Fs Fz Fi Ld Fa Ln Ia Mv Bb Bc Ca Pf Pt So Kk Kc Fy Fr Sr Lt Mc Mb Bk Sq Zq0 Zq1 Zq2 Zq3 Zq4 xm xs xi ci om omk on oo xko xkn xfD xkm xkl xkk xkj F3 r3 xki xkh Wg xkg xkf xke xkd xkc Ws Wr Wq Wp Wo Wn Wm Wj Wi Wh Wf We Wd Wc F5 r5 xkb xka xj9 xj8 xj7 xj6 xj5 xj4 F6 r6 xal xak xaj xai xah xag xaf F10 r10 xae xad xac xab xaa Z9 Z8 Z7 Z6 Z5 MO MN zS F11 xdD r11 Z4 Z3 Z2 Z1 Z0 ZZ ZY ZX ZW ZV Md Ma L9 L8 L7 zO F12 xdz r12 ZU ZT ZS ZR PA ZQ ZP ZO ZN ZM Lj Li Lh Lg Lf Le Lc zL F13 xdw r13 lE ZL F14 r14 Ew ZK mn ZJ ZI ZH ZG ZF ZE KI KH F15 r15 Pz ZD Py re ZC ZB ZA Zz Zy Zx Kt Ks yw zI F16 xdt r16 Zw Eu Zv Zu Zt Zs Zr Kq Kp zH F17 xds r17 rb Zq ra Zp Zo Zn Zm F18 r18 Zl Zk ml Zj Zi Zh Zg Zf Ko l3 Kn Km Kj Ki zG zF F19 xdr xdq r19 Et iO Es Ze Er o3 PV F20 xgP r20 Ep Pw Zd Zc Zb Za Y9 Y8 Y7 Y6 Kh Kg zE F21 xdp r21 lD Pv Y5 Y4 ug Y3 Y2 Kf Ke Kd Kb PU zD F22 xgO xdo r22 Y1 Y0 YZ YY YX YW YV YU PT F23 xgN r23 YT YS Pq YR YQ YP YO YN YM YL Ka J9 J8 J7 J6 J5 J4 J3 J2 zC zB zA F24 xdn xdm xdl r24 YK PS F25 xgM r25 uf YJ Po ue YI F26 r26 YH YG YF YE YD YC YB YA Yz J1 J0 JZ JY JX JW JV JU zy F28 xdk r28 mj Yy F29 r29 Yx Yw Yv Yu Yt Ys Yr Yq JT JS JR JQ JP JO JN JM JL JK JJ JH zx zw zu zt F31 xdj xdi xdh xdg r31 Yp Yo Yn Ym Yl F33 r33 Yk Yj Yi Yh Yg Yf Ye Yd Yc JG JF JE JD zr zq F34 xdf xde r34 Yb Ya X9 X8 F35 r35 X7 X6 X5 X4 X3 X2 X1 X0 XZ XY JC JB JA Jz Jy Jx Jw Jv Ju Jt Js Jr Jq Jp Jo zp F36 xdd r36 XX XW XV F37 r37 XU XT XS XR XQ XP XO XN XM XL Jn Jm Jl F38 r38 XK XJ XI XH XG XF Jk Jj Ji F39 r39 Pn XE XD XC XB XA Xz Xy Xx Xw yk zo F40 xdc r40 Xv Xu Xt Xs Xr Xq Xp PR F41 xgL r41 og Xo jH Xn fI Xm Pm Xl Pl Xk iY Jh yj ow F42 r42 Xj PQ F43 xgK r43 Xi q9 Xh Xg Xf Xe Xd Jg Jf Je uc Jd Jc Jb Ja I9 I8 I7 I6 zm zl F44 xdb xda r44 Pj En Pi Ph Pg Pe PP F45 xgJ r45 Pc Xc F46 r46 Xb Xa F47 r47 W9 F48 r48 Em W8 F49 r49 Pb W7 W6 W5 ua W4 W3 kE W2 W0 I5 I4 I3 I2 I1 I0 IZ IY IX IW IV IU IS zk zj F50 xc9 xc8 r50 PO F51 xgI r51 WZ F52 r52 O9 WY O8 WX WW WV WU WT WS IR IQ F53 r53 WR WQ WP q8 WO WN IP IN IM IL IK IJ II IH IG zi zh F54 xc7 xc6 r54 O7 WM WL WK WJ WI WH F55 r55 mi WG F56 r56 WF WE WD WC WB IF zg F57 xc5 r57 WA Wz Wy Wx Ww Wv IE ID IC IB IA Iz Iy Ix zf F58 xc4 r58 Wu Wt F59 r59 Wb Wa V9 V8 V7 V6 V5 V4 V3 PN F60 xgH r60 V2 VZ VY VX VW PM F63 xgG r63 VV VU VT VS VR VQ VP VO VN VM Iw Iv Iu It Is ze F64 xc3 r64 VL VK VJ VI VH VG VF VE VD Ir Iq Ip zd F65 xc2 r65 VC VB VA Vz Vy Vx Vw Io In Im Il Ik Ij Ii Ih Ig If Ie Ic zc zb F66 xc1 xc0 r66 Vv F67 r67 Vu Vt Vs Vr El F68 r68 Vq Vp Vo Vn Vm Vl Vk Vj Ib H9 H8 H7 H6 H5 H4 qB PL za F69 xgF xcZ r69 Vi F72 r72 Vh Vg Vf Ve Vd Vc Vb H3 H2 HZ HY HX HW HV HU y9 y8 F75 xcY xcX r75 Va U9 U8 U7 U6 U5 U3 PK F76 xgE r76 U2 U1 F77 r77 U0 UZ UY UX F78 r78 UW UV UU UT US UR Ek UQ HT HS HR HQ HP y7 F79 xcW r79 mh UP UO UN UM UL UK UJ HO HN HM HK HJ HI HH HG HF HE HD HC x9 HB Hz Hy Hx Hw y6 y5 y0 yZ F80 xcV xcU xcT xcS r80 UI UH UG UF F81 r81 O3 UE UD UC UB UA Uz Uy Ux PJ F82 xgD r82 Uw Uv Uu F83 r83 Ut Us Ur Uq Up Uo Un Um F84 r84 Ul Uk Uj Ui Uh PI F85 xgC r85 Ug Uf F86 r86 O0 Ue Ud Uc Ub Ua T9 T8 Hv Ht yY F87 xcR r87 T7 T6 T5 T4 T3 F88 r88 tV T2 F89 r89 T1 T0 TZ TY TX TW TV Hs Hr Hq Hp yX F90 xcQ r90 TU F91 r91 TT TS TR TQ TP TO TN Ho yW F92 xcP r92 OZ TL F93 r93 TK TJ TI TH TG TF Hn Hm PH F94 xgB r94 TE TD TC TB OX PG F95 xgA r95 TA Tz Ty Tx Hl Hk Hj Hi PF F96 xgz r96 OU Tw Tv F97 r97 Tu Tt Ts Tr PE F98 xgy r98 Tq Tp To Tn Tm F99 r99 Oe Od Oc Ob Oa N9 N8 Cq Cp Co Cn Cm Cl tG tF xb0 Rm Rl xk7 N7 N6 N5 N4 N3 N2 N1 N0 Ck Cj Ci Ch Cg Cf Ce Cd Cc Cb B0 BZ tE tz xbZ Rk Rj xk6 NZ xbY xk5 NY NX xbX xk4 NW NV NU NT NS NR NQ NP NO NN BY xbW xk3 NM NL xbV xk2 yK NK NJ NI NH NG zY xbU xdJ xk1 NF NE ND NC NB NA Ny zX xbT xdI xk0 Nw Nv Nu Nt Ns Nr Nq Np sO zW tx xbS xdH Ri xkZ No Nn Nm Nl Nk Nj Ni Nh Ng BX BW BV BU BT BS BR BQ BP BO BN BM BL BK BJ BI BH BG BF zV tw xbR xdG Rh xkY Nf Nd Nc Nb Na M9 M8 zU xbQ xdF xkX M7 M6 M5 M4 M3 M2 M1 M0 MZ BE BD BC BB BA Bz By Bx Bw Bv Bu Bt Bs Br Bq tv tu tt xbP Rg Rf Re xkW MY MX MW MV MU MT MS MR zT xbO xdE xkV MQ MP xbN xkU MM ML MK MJ MI MG zR xbM xdC xkT MF ME MD MC MB yD MA Bp xbL xkS Mz xbK xkR My xbJ xkQ Mx Mw Mu Mt Ms Mr Mp zQ xbI xdB xkP Mo Mn xbH xkO Mm Ml Mk Mj Mi Mh Mg Mf Bo zP tr xbG xdA Rd xkN oy yB xbF xkM Me xbE xkL L6 L5 L4 zN xbD xdy xkK L3 xbC xkJ qF L2 L1 L0 LZ LY LX LW LV LU Bn Bm Bl Bj Bi Bh xbB xkI LS LR LQ LP LO LN LM LK xbA xkH LJ LI LH xbz xkG yz LG LF LD LC xby xkF LB LA Lz Ly Lx Lw Lv Bg Bf Be Bd Ba A9 A8 A7 A6 A5 A4 A3 A2 A1 AZ AY AX AW tq tp tn xbx Rc Rb Ra xkE Lu Ls Lr Lq Lp Lo Lm Ll AV zM xbw xdx xkD xbv xkC Lb La xbu xkB K9 K8 K7 K6 K5 K4 K3 K2 K1 AU xbt xkA K0 xbs xkz KZ KY xbr xky KX KW xbq xkx KV KU KT KS KR KQ KP KO KN KM AS AR AP AO AN AM AL AK AJ AI AH AG AF AE AD AC AB tj xbp QZ xkw KL KK KJ zK xbo xdv xkv KG KF KE zJ xbn xdu xku KD xbm xkt KC KB KA Kz Ky Kx Kw Kv AA Az Ay Ax Aw Av Au At As Ar ti xbl QY xks Ku xbk xkr Kr xbj xkq xbi xkp
end Go.Proofs.YtdafipacemgcoaaGreatDoor