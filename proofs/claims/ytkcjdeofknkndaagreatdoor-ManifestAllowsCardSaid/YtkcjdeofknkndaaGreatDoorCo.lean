/- The resolved code of the functions of this seat, with directions, checked by the kernel. No condition. -/
import Derived.Test.YtkcjdeofknkndaaGreatDoorProg
import Derived.Test.YtkcjdeofknkndaaGreatDoorVa
import Derived.KernelRfl
open Bool renaming and_eq_true -> ay, false_eq_true -> aI, false_or -> ez, true_or -> mY
open List renaming all_cons -> iy, append_assoc -> aw, append_nil -> bC, cons_append -> bv, drop_zero -> bh, flatten_cons -> db, getD_cons_succ -> b9, getD_cons_zero -> bO, length_append -> af, length_cons -> ax, length_map -> aY, length_nil -> aV, length_replicate -> bS, map_append -> cV, map_cons -> aE, map_nil -> cQ, mem_cons -> am, nil_append -> aQ, not_mem_nil -> cz, replicate -> al
open Nat renaming add_zero -> fj, le_refl -> aL, zero_add -> bW, zero_le -> bM
open Option renaming bind_some -> cP, getD_some -> bf, map_some -> bo, some -> aq
set_option maxRecDepth 100000
set_option linter.unusedVariables false
namespace Go.Proofs.YtkcjdeofknkndaaGreatDoor
open Tryz
open Go.Sy
abbrev xm(d s:Nat):SI:=⟨some d,none,.mov (.t s)⟩
abbrev xs(d:Nat)(o:SOp):SI:=⟨some d,none,o⟩
abbrev xi(d g:Nat)(b:Bool)(o:SOp):SI:=⟨some d,some (g,b),o⟩
abbrev om(d s:Nat):RI:= .op (xm d s) []
abbrev omk(d s:Nat):RI:= .op (xm d s) [s]
abbrev on(d:Nat)(o:SOp):RI:= .op (xs d o) []
abbrev oo(d:Nat)(o:SOp)(k:List Nat):RI:= .op (xs d o) k
abbrev ci(n:Int):Arg:= .c (.int .i64 n)
abbrev Fm(n d s:Nat):FI:=⟨n,true,xm d s⟩
abbrev Fs(n d:Nat)(o:SOp):FI:=⟨n,true,xs d o⟩
abbrev Fz(n d:Nat)(o:SOp):FI:=⟨n,false,xs d o⟩
abbrev Fi(n d g:Nat)(b:Bool)(o:SOp):FI:=⟨n,true,xi d g b o⟩
abbrev Ld(s:Nat):SOp:= .load 1 false (.t s)
abbrev Fa(n s:Nat):SOp:= .faddr n (.t s)
abbrev Ln(s:Nat):SOp:= .len false (.t s)
abbrev Ia(n a b:Nat):SOp:= .iaddrL n (.t a) (.t b)
abbrev Mv(s:Nat):SOp:= .mov (.t s)
abbrev Bb(o:BinOp)(a b:Nat):SOp:= .bin o (.t a) (.t b)
abbrev Bc(o:BinOp)(a:Nat)(n:Int):SOp:= .bin o (.t a) (ci n)
abbrev Ca(f:Nat)(l:List Arg):SOp:= .call (.f f) l
abbrev Pf(a b:Nat):SOp:= .pick (.t a) (.t b) (.c (.bool false))
abbrev Pt(a b:Nat):SOp:= .pick (.t a) (.c (.bool true)) (.t b)
abbrev So(l:List RI)(x:RC):RC:= .seq (.ops l) x
abbrev Kk(l:List Nat)(x:RC):RC:= .pre [.kill l] x
abbrev Kc(n:Nat)(x y:RC):RC:= .cond (.t n) x y
abbrev Fy(n d g:Nat)(b:Bool)(o:SOp):FI:=⟨n,false,xi d g b o⟩
abbrev Fr(n k a x:Nat):FI:=⟨n,false,⟨none,none,.store k (.t a) (.t x)⟩⟩
abbrev Sr(n a x:Nat)(k:List Nat):RI:= .op ⟨none,none,.store n (.t a) (.t x)⟩ k
abbrev Lt(n s:Nat):SOp:= .load n true (.t s)
abbrev Mc(n:Int):SOp:= .mov (ci n)
abbrev Mb(b:Bool):SOp:= .mov (.c (.bool b))
abbrev Bk(n:Nat)(x:RC):RC:= .block n x
abbrev Sq(x y:RC):RC:= .seq x y
abbrev Zq0:List SV:=[.int .i64 0,.str [],.int .i64 0,.byt [] .clip]
abbrev Zq1:List SV:=[.str [],.int .i64 0,.int .i64 0,.int .i64 0,.int .i64 0,.lst 4 [] .clip,.lst 4 [] .clip]
abbrev Zq2:List SV:=[.int .i64 0,.int .i64 0,.lst 1 [] .clip,.byt [] .clip]
abbrev Zq3:List SV:=[.int .i64 0,.str [],.int .i64 0,.int .i64 0]
def cs0:List UInt8:=[0,1,2,2,3,3,3,3,4,4,4,4,4,4,4,4,5,5,5,5,5,5,5,5,5,5,5,5,5,5,5,5,6,6,6,6,6,6,6,6,6,6,6,6,6,6,6,6,6,6,6,6,6,6,6,6,6,6,6,6,6,6,6,6,7,7,7,7,7,7,7,7,7,7,7,7,7,7,7,7,7,7,7,7,7,7,7,7,7,7,7,7,7,7,7,7,7,7,7,7,7,7,7,7,7,7,7,7,7,7,7,7,7,7,7,7,7,7,7,7,7,7,7,7,7,7,7,7,8,8,8,8,8,8,8,8,8,8,8,8,8,8,8,8,8,8,8,8,8,8,8,8,8,8,8,8,8,8,8,8,8,8,8,8,8,8,8,8,8,8,8,8,8,8,8,8,8,8,8,8,8,8,8,8,8,8,8,8,8,8,8,8,8,8,8,8,8,8,8,8,8,8,8,8,8,8,8,8,8,8,8,8,8,8,8,8,8,8,8,8,8,8,8,8,8,8,8,8,8,8,8,8,8,8,8,8,8,8,8,8,8,8,8,8,8,8,8,8,8,8,8,8,8,8,8,8]
def cs1:List UInt8:=[48,49,50,51,52,53,54,55,56,57,97,98,99,100,101,102,103,104,105,106,107,108,109,110,111,112,113,114,115,116,117,118,119,120,121,122]
def cs2:List UInt8:=[48,48,48,49,48,50,48,51,48,52,48,53,48,54,48,55,48,56,48,57,49,48,49,49,49,50,49,51,49,52,49,53,49,54,49,55,49,56,49,57,50,48,50,49,50,50,50,51,50,52,50,53,50,54,50,55,50,56,50,57,51,48,51,49,51,50,51,51,51,52,51,53,51,54,51,55,51,56,51,57,52,48,52,49,52,50,52,51,52,52,52,53,52,54,52,55,52,56,52,57,53,48,53,49,53,50,53,51,53,52,53,53,53,54,53,55,53,56,53,57,54,48,54,49,54,50,54,51,54,52,54,53,54,54,54,55,54,56,54,57,55,48,55,49,55,50,55,51,55,52,55,53,55,54,55,55,55,56,55,57,56,48,56,49,56,50,56,51,56,52,56,53,56,54,56,55,56,56,56,57,57,48,57,49,57,50,57,51,57,52,57,53,57,54,57,55,57,56,57,57]
def oH:List SV:=[.int .i64 (-1),.int .i64 0,.int .i64 4,.int .i64 8,.int .i64 9]
def iJ:List SV:=[.int .u32 1116352408,.int .u32 1899447441,.int .u32 3049323471,.int .u32 3921009573,.int .u32 961987163,.int .u32 1508970993,.int .u32 2453635748,.int .u32 2870763221,.int .u32 3624381080,.int .u32 310598401,.int .u32 607225278,.int .u32 1426881987,.int .u32 1925078388,.int .u32 2162078206,.int .u32 2614888103,.int .u32 3248222580,.int .u32 3835390401,.int .u32 4022224774,.int .u32 264347078,.int .u32 604807628,.int .u32 770255983,.int .u32 1249150122,.int .u32 1555081692,.int .u32 1996064986,.int .u32 2554220882,.int .u32 2821834349,.int .u32 2952996808,.int .u32 3210313671,.int .u32 3336571891,.int .u32 3584528711,.int .u32 113926993,.int .u32 338241895,.int .u32 666307205,.int .u32 773529912,.int .u32 1294757372,.int .u32 1396182291,.int .u32 1695183700,.int .u32 1986661051,.int .u32 2177026350,.int .u32 2456956037,.int .u32 2730485921,.int .u32 2820302411,.int .u32 3259730800,.int .u32 3345764771,.int .u32 3516065817,.int .u32 3600352804,.int .u32 4094571909,.int .u32 275423344,.int .u32 430227734,.int .u32 506948616,.int .u32 659060556,.int .u32 883997877,.int .u32 958139571,.int .u32 1322822218,.int .u32 1537002063,.int .u32 1747873779,.int .u32 1955562222,.int .u32 2024104815,.int .u32 2227730452,.int .u32 2361852424,.int .u32 2428436474,.int .u32 2756734187,.int .u32 3204031479,.int .u32 3329325298]
def iI:List SV:=[.int .u64 1,.int .u64 10,.int .u64 100,.int .u64 1000,.int .u64 10000,.int .u64 100000,.int .u64 1000000,.int .u64 10000000,.int .u64 100000000,.int .u64 1000000000,.int .u64 10000000000,.int .u64 100000000000,.int .u64 1000000000000,.int .u64 10000000000000,.int .u64 100000000000000,.int .u64 1000000000000000,.int .u64 10000000000000000,.int .u64 100000000000000000,.int .u64 1000000000000000000,.int .u64 10000000000000000000]
instance:aZ:=⟨fun
 |0=>some oH
 |1=>some iJ
 |3=>some iI
 |_=>none⟩
def xhl:List RI:=[oo 8 (Mb false) [8]]
def xhk:List RI:=[on 14 (Ca 10 []),oo 15 (.un .not (.t 14)) [14]]
def TS:List RI:=[on 8 (Mb false)]
def xhj:List RI:=[omk 16 0,omk 17 2,oo 18 (Ca 12 [.t 16,.t 17]) [16,17],omk 19 1,omk 20 3,oo 21 (Ca 12 [.t 19,.t 20]) [19,20],on 9 (.new (.rc Zq1)),on 10 (.new (.rc Zq1)),Sr 7 9 18 [18],Sr 7 10 21 [21]]
def xhi:List FI:=[Fs 0 22 (Lt 7 9),Fs 2 24 (Lt 7 10),Fz 1 23 (Ca 16 [.t 22]),Fz 3 25 (Ca 16 [.t 24]),Fm 4 11 23,Fm 5 12 25]
def xhh:List FI:=[Fm 0 26 11,Fm 1 27 12,Fs 3 29 (Lt 7 9),Fs 4 30 (Lt 7 10),Fz 2 28 (Ca 19 [.t 26,.t 27]),Fz 5 31 (Ca 18 [.t 29,.t 30]),Fs 6 32 (.beq true (.t 28) (.t 31))]
def xhg:List FI:=[Fs 0 33 (Lt 7 9),Fs 2 35 (Lt 7 10),Fz 1 34 (Ca 21 [.t 33]),Fz 3 36 (Ca 21 [.t 35]),Fz 4 37 (Ca 19 [.t 34,.t 36]),Fm 5 13 37]
def xhf:List RI:=[omk 38 13,oo 39 (Lt 7 9) [9],oo 40 (Lt 7 10) [10],oo 41 (Ca 18 [.t 39,.t 40]) [39,40],oo 42 (.beq false (.t 38) (.t 41)) [38,41],omk 43 42,.grp 43 false [(xi 44 43 false (Mv 11)),(xi 45 43 false (Ca 26 [.t 44])),(xi 46 43 false (Mv 12)),(xi 47 43 false (Ca 26 [.t 46])),(xi 48 43 false (Ca 25 [.t 45,.t 47,ci 32]))] [11,12,44,45,46,47],oo 49 (Pt 43 48) [43,48],omk 8 49]
def r6:RC:=(So xhl (Sq (So xhk (Kc 15 (Kk [0,1,2,3,15] (So TS .ret)) (Kk [15] .skip))) (So xhj (Sq (.flt [0,1,0,7,15,31] [] xhi [22,23,24,25]) (Sq (Sq (.flt [0,0,3,0,0,31,63] [] xhh [26,27,28,29,30,31]) (Kc 32 (Kk [9,10,11,12,32] (So TS .ret)) (Kk [32] .skip))) (Sq (.flt [0,1,0,7,15,31] [] xhg [33,34,35,36,37]) (So xhf .ret)))))))
def F6:FnC:=⟨r6,50,[.tmp 8],[],[]⟩
def xhe:List RI:=[oo 10 (Mb false) [10]]
def xhd:List RI:=[on 16 (Ca 10 []),oo 17 (.un .not (.t 16)) [16]]
def xc0:List RI:=[on 10 (Mb false)]
def xhc:List RI:=[omk 18 0,om 19 1,oo 20 (Ca 12 [.t 18,.t 19]) [18,19],on 11 (.new (.rc Zq1)),Sr 7 11 20 [20]]
def xhb:List RI:=[omk 21 1,oo 22 (Ca 28 [.t 21]) [21],oo 23 (Ca 27 [.t 22,ci 2]) [22],omk 12 23]
def xha:List RI:=[om 24 12,omk 25 3,omk 26 12,oo 27 (Ln 26) [26],oo 28 (Ca 15 [.t 25,.t 27]) [25,27],oo 29 (Ia 4 24 28) [24,28],oo 30 (Lt 4 29) [29],on 13 (.new (.rc Zq2)),Sr 4 13 30 [30]]
def xg9:List RI:=[omk 31 4]
def xg8:List RI:=[omk 32 2,oo 33 (Ca 29 [.t 32,ci 20]) [32],oo 34 (Ca 30 [.t 33,ci 2]) [33],Sr 4 13 34 [34]]
def xg7:List RI:=[on 35 (Lt 7 11),on 36 (Lt 4 13),oo 37 (Ca 31 [.t 35,.t 36]) [35,36],omk 14 37]
def xg6:List RI:=[om 38 14,oo 39 (Bc .lss 38 (-1)) [38],omk 40 39,.grp 40 false [(xi 41 40 false (Mv 14)),(xi 42 40 false (Fa 5 11)),(xi 43 40 false (Ld 42)),(xi 44 40 false (Ln 43)),(xi 45 40 false (Fa 6 11)),(xi 46 40 false (Ld 45)),(xi 47 40 false (Ln 46)),(xi 48 40 false (Bb .add 44 47)),(xi 49 40 false (Bb .geq 41 48))] [41,42,43,44,45,46,47,48],oo 50 (Pt 40 49) [40,49]]
def SJ:List RI:=[om 51 14,oo 52 (Bc .lss 51 0) [51]]
def NR:List RI:=[on 10 (Mb true)]
def SH:List RI:=[om 53 14,on 54 (Fa 5 11),oo 55 (Ld 54) [54],oo 56 (Ln 55) [55],oo 57 (Bb .lss 53 56) [53,56]]
def SG:List RI:=[oo 58 (Fa 5 11) [11],oo 59 (Ld 58) [58],omk 60 14,oo 61 (Ia 4 59 60) [59,60],oo 62 (Lt 4 61) [61],on 15 (.new (.rc Zq0)),Sr 4 15 62 [62]]
def SF:List FI:=[Fs 0 63 (Fa 1 13),Fs 1 64 (Ld 63),Fs 2 65 (Bc .eql 64 1),Fm 3 66 65,Fi 4 67 66 true (Fa 0 13),Fi 5 68 66 true (Ld 67),Fi 6 69 66 true (Fa 0 15),Fi 7 70 66 true (Ld 69),Fy 8 71 66 true (Ca 33 [.t 70]),Fi 9 72 66 true (Bb .eql 68 71),Fs 10 73 (Pf 66 72),Fm 11 74 73,Fi 12 75 74 true (Fa 3 15),Fi 13 76 74 true (Ld 75),Fi 14 77 74 true (Fa 2 13),Fi 15 78 74 true (Ld 77),Fi 16 79 74 true (.iaddrL 1 (.t 78) (ci 1)),Fi 17 80 74 true (Ld 79),Fy 18 81 74 true (Ca 19 [.t 76,.t 80]),Fs 19 82 (Pf 74 81),Fm 20 83 82,Fi 21 84 83 true (Fa 3 13),Fi 22 85 83 true (Ld 84),Fi 23 86 83 true (Fa 1 15),Fi 24 87 83 true (Ld 86),Fi 25 88 83 true (Fa 2 15),Fi 26 89 83 true (Ld 88),Fy 27 90 83 true (Ca 34 [.t 87,.t 89]),Fy 28 91 83 true (Ca 19 [.t 85,.t 90]),Fs 29 92 (Pf 83 91),Fm 30 10 92]
def SE:List FI:=[Fs 0 93 (Fa 1 13),Fs 1 94 (Ld 93),Fs 2 95 (Bc .eql 94 3),Fm 3 96 95,Fi 4 97 96 true (Fa 0 13),Fi 5 98 96 true (Ld 97),Fi 6 99 96 true (Bc .eql 98 9),Fs 7 100 (Pf 96 99),Fm 8 101 100,Fi 9 102 101 true (Fa 6 11),Fi 10 103 101 true (Ld 102),Fi 11 104 101 true (Mv 14),Fi 12 105 101 true (Fa 5 11),Fi 13 106 101 true (Ld 105),Fi 14 107 101 true (Ln 106),Fi 15 108 101 true (Bb .sub 104 107),Fi 16 109 101 true (Ia 4 103 108),Fi 17 110 101 true (Lt 4 109),Fi 18 111 101 true (Fa 3 13),Fi 19 112 101 true (Ld 111),Fy 20 113 101 true (Ca 35 [.t 110,.t 112]),Fs 21 114 (Pf 101 113),Fm 22 10 114]
def r8:RC:=(So xhe (Sq (So xhd (Kc 17 (Kk [0,1,2,3,4,17] (So xc0 .ret)) (Kk [17] .skip))) (So xhc (So xhb (So xha (Sq (So xg9 (Kc 31 (Kk [31] (.ops xg8)) (Kk [2,31] .skip))) (So xg7 (Sq (So xg6 (Kc 50 (Kk [11,13,14,50] (So xc0 .ret)) (Kk [50] .skip))) (Sq (So SJ (Kc 52 (Kk [11,13,14,52] (So NR .ret)) (Kk [52] .skip))) (Sq (So SH (Kc 57 (Kk [57] (So SG (Sq (.flt [0,1,3,7,15,31,15,79,207,511,1023,2047,4095,8191,4095,20479,53247,118783,262143,524287,1048575,2097151,4194303,2097151,10485759,2097151,35651583,127926271,268435455,536870911,1073741823] [] SF [13,15,63,64,65,66,67,68,69,70,71,72,73,74,75,76,77,78,79,80,81,82,83,84,85,86,87,88,89,90,91,92]) .ret))) (Kk [57] .skip))) (Sq (.flt [0,1,3,7,15,31,63,127,255,511,1023,511,511,4607,12799,31231,65535,131071,511,262655,1048575,2097151,4194303] [] SE [11,13,14,93,94,95,96,97,98,99,100,101,102,103,104,105,106,107,108,109,110,111,112,113,114]) .ret)))))))))))
def F8:FnC:=⟨r8,115,[.tmp 10],[],[]⟩
def Xy:List RI:=[oo 0 (Mb false) [0]]
def Xx:List RI:=[on 6 (.newB [(.c (.u8 112))]),oo 7 (.slid (.t 6)) [6],oo 8 (.build Zq0 [(0,1,(ci 3)),(1,1,(.c (.str [107]))),(2,1,(ci 3)),(3,1,(.t 7))]) [7],on 1 (.new (.rc Zq0)),Sr 4 1 8 [8]]
def Xw:List RI:=[on 9 (Lt 4 1),oo 10 (.lit 4 [.t 9]) [9],oo 11 (Ca 37 [(.c (.str [118])),ci 1,.t 10]) [10],on 2 (.new (.rc Zq1)),Sr 7 2 11 [11]]
def Xv:List RI:=[on 12 (Lt 7 2),oo 13 (Ca 16 [.t 12]) [12],omk 3 13]
def Xu:List RI:=[omk 15 3,oo 16 (Ca 17 [.t 15]) [15],omk 14 16,on 17 (.ext (.t 14) 0),oo 18 (.ext (.t 14) 1) [14],on 4 (.new (.rc Zq1)),Sr 7 4 17 [17],omk 5 18]
def Xt:List FI:=[Fs 0 19 (Fa 5 2),Fs 1 20 (Ld 19),Fs 2 21 (Ln 20),Fs 3 22 (Bc .eql 21 1),Fm 4 23 22,Fi 5 24 23 true (Mv 5),Fi 6 25 23 true (Bc .eql 24 0),Fs 7 26 (Pf 23 25),Fm 8 27 26,Fi 9 28 27 true (Lt 7 2),Fi 10 29 27 true (Lt 7 4),Fy 11 30 27 true (Ca 18 [.t 28,.t 29]),Fs 12 31 (Pf 27 30),Fm 13 32 31,Fi 14 33 32 true (Lt 7 2),Fy 15 34 32 true (Ca 21 [.t 33]),Fi 16 35 32 true (Ln 34),Fi 17 36 32 true (Bc .eql 35 32),Fs 18 37 (Pf 32 36),Fm 19 38 37,Fi 20 39 38 true (Lt 7 2),Fi 21 40 38 true (Lt 4 1),Fy 22 41 38 true (Ca 40 [.t 40,ci 2]),Fy 23 42 38 true (Ca 31 [.t 39,.t 41]),Fi 24 43 38 true (Bc .eql 42 0),Fs 25 44 (Pf 38 43),Fm 26 45 44,Fi 27 46 45 true (.build Zq1 [(0,1,(.c (.str [118]))),(1,1,(ci 1)),(4,1,(ci 5))]),Fy 28 47 45 true (Ca 16 [.t 46]),Fi 29 48 45 true (Ln 47),Fi 30 49 45 true (Bc .eql 48 26),Fs 31 50 (Pf 45 49),Fm 32 0 50]
def r10:RC:=(So Xy (So Xx (So Xw (So Xv (So Xu (Sq (.flt [0,1,3,7,15,31,63,127,255,511,511,2047,4095,8191,16383,32767,65535,131071,262143,524287,1048575,1048575,3145727,8388607,16777215,33554431,67108863,134217727,268435455,536870911,1073741823,2147483647,4294967295] [] Xt [1,2,4,5,19,20,21,22,23,24,25,26,27,28,29,30,31,32,33,34,35,36,37,38,39,40,41,42,43,44,45,46,47,48,49,50]) .ret))))))
def F10:FnC:=⟨r10,51,[.tmp 0],[],[]⟩
def Ok:List RI:=[on 4 (.new (.rc Zq1))]
def Xs:List RI:=[omk 5 0,oo 6 (Ca 29 [.t 5,ci 60]) [5],omk 7 1,oo 8 (Ca 28 [.t 7]) [7],oo 9 (Ca 41 [.t 6,.t 8]) [6,8],Sr 7 4 9 [9]]
def r12:RC:=(So Ok (So Xs .ret))
def F12:FnC:=⟨r12,10,[.cell 4 7 true],[],[]⟩
def wv:List RI:=[oo 1 (.box (.t 0)) [0],oo 2 (Mc 0) [2]]
def Xr:List RI:=[on 9 (Fa 0 1),oo 10 (Ld 9) [9],oo 11 (Ca 42 [.t 10]) [10],oo 12 (.un .not (.t 11)) [11],omk 8 12]
def wu:List RI:=[on 2 (Mc 43)]
def Xq:List RI:=[on 14 (Fa 2 1),oo 15 (Ld 14) [14],oo 16 (Bc .lss 15 0) [15],omk 17 16,.grp 17 false [(xi 18 17 false (Fa 2 1)),(xi 19 17 false (Ld 18)),(xi 20 17 false (Fa 1 1)),(xi 21 17 false (Ld 20)),(xi 22 17 false (Bb .gtr 19 21))] [18,19,20,21],oo 23 (Pt 17 22) [17,22],omk 24 23,.grp 24 false [(xi 25 24 false (Fa 1 1)),(xi 26 24 false (Ld 25)),(xi 27 24 false (Bc .gtr 26 1000000))] [25,26],oo 28 (Pt 24 27) [24,27],omk 29 28,.grp 29 false [(xi 30 29 false (Fa 3 1)),(xi 31 29 false (Ld 30)),(xi 32 29 false (Bc .lss 31 0))] [30,31],oo 33 (Pt 29 32) [29,32],omk 34 33,.grp 34 false [(xi 35 34 false (Fa 3 1)),(xi 36 34 false (Ld 35)),(xi 37 34 false (Fa 4 1)),(xi 38 34 false (Ld 37)),(xi 39 34 false (Bb .geq 36 38))] [35,36,37,38],oo 40 (Pt 34 39) [34,39],omk 41 40,.grp 41 false [(xi 42 41 false (Fa 4 1)),(xi 43 41 false (Ld 42)),(xi 44 41 false (Bc .gtr 43 1099511627776))] [42,43],oo 45 (Pt 41 44) [41,44],omk 13 45]
def ks:List RI:=[on 2 (Mc 1)]
def Xp:List RI:=[on 47 (Fa 5 1),oo 48 (Ld 47) [47],oo 49 (Ln 48) [48],oo 50 (Bc .gtr 49 16) [49],omk 51 50,.grp 51 false [(xi 52 51 false (Fa 6 1)),(xi 53 51 false (Ld 52)),(xi 54 51 false (Ln 53)),(xi 55 51 false (Bc .gtr 54 8))] [52,53,54],oo 56 (Pt 51 55) [51,55],omk 46 56]
def tC:List RI:=[on 2 (Mc 4)]
def Xo:List RI:=[on 57 (Fa 5 1),oo 58 (Ld 57) [57],on 59 (Ln 58),on 60 (Mc 0)]
def Xn:List RI:=[on 61 (Bb .lss 60 59)]
def Xm:List RI:=[om 62 60,on 63 (Ia 4 58 60),oo 64 (Lt 4 63) [63],on 4 (.new (.rc Zq0)),omk 3 62,Sr 4 4 64 [64]]
def KK:List RI:=[on 66 (Fa 0 4),oo 67 (Ld 66) [66],oo 68 (Bc .lss 67 1) [67],omk 69 68,.grp 69 false [(xi 70 69 false (Fa 0 4)),(xi 71 69 false (Ld 70)),(xi 72 69 false (Bc .gtr 71 3))] [70,71],oo 73 (Pt 69 72) [69,72],omk 74 73,.grp 74 false [(xi 75 74 false (Fa 2 4)),(xi 76 74 false (Ld 75)),(xi 77 74 false (Bc .lss 76 0))] [75,76],oo 78 (Pt 74 77) [74,77],omk 79 78,.grp 79 false [(xi 80 79 false (Fa 2 4)),(xi 81 79 false (Ld 80)),(xi 82 79 false (Bc .gtr 81 1000000))] [80,81],oo 83 (Pt 79 82) [79,82],omk 84 83,.grp 84 false [(xi 85 84 false (Fa 3 4)),(xi 86 84 false (Ld 85)),(xi 87 84 false (Ln 86)),(xi 88 84 false (Bc .neq 87 32))] [85,86,87],oo 89 (Pt 84 88) [84,88],omk 65 89]
def KJ:List RI:=[on 91 (Fa 1 4),oo 92 (Ld 91) [91],oo 93 (Ca 42 [.t 92]) [92],oo 94 (.un .not (.t 93)) [93],omk 90 94]
def KI:List FI:=[Fm 0 96 3,Fs 1 97 (Bc .gtr 96 0),Fm 2 98 97,Fi 3 99 98 true (Fa 5 1),Fi 4 100 98 true (Ld 99),Fi 5 101 98 true (Mv 3),Fi 6 102 98 true (Bc .sub 101 1),Fi 7 103 98 true (Ia 4 100 102),Fi 8 104 98 true (Lt 4 103),Fi 9 105 98 true (Lt 4 4),Fy 10 106 98 true (Ca 43 [.t 104,.t 105]),Fi 11 107 98 true (Bc .geq 106 0),Fs 12 108 (Pf 98 107),Fm 13 95 108]
def yg:List RI:=[on 2 (Mc 41)]
def KH:List RI:=[oo 109 (Bc .add 60 1) [60],omk 60 109]
def zl:RC:=(.post (So Xn (Sq (Kc 61 (Kk [61] .skip) (Kk [58,59,60,61] (.exit 1))) (Sq (Bk 2 (So Xm (Bk 3 (So KK (Kc 65 (Kk [1,3,4,58,59,60,65] (So ks .ret)) (Kk [65] (So KJ (Kc 90 (Kk [1,3,4,58,59,60,90] (So wu .ret)) (Kk [90] (Sq (.flt [0,1,3,7,15,7,39,127,255,7,1023,2047,4095,8191] [] KI [3,4,96,97,98,99,100,101,102,103,104,105,106,107,108]) (Kc 95 (Kk [1,58,59,60,95] (So yg .ret)) (Kk [95] .skip)))))))))))) (.ops KH)))) [.gc [104]])
def lx:RC:=zl
def KG:List RI:=[oo 110 (Fa 6 1) [1],oo 111 (Ld 110) [110],on 112 (Ln 111),on 113 (Mc 0)]
def KF:List RI:=[on 114 (Bb .lss 113 112)]
def KE:List RI:=[on 115 (Ia 4 111 113),oo 116 (Lt 4 115) [115],on 6 (.new (.rc Zq3)),Sr 4 6 116 [116]]
def KD:List RI:=[oo 117 (Lt 4 6) [6],oo 118 (Ca 44 [.t 117]) [117],omk 7 118]
def KC:List RI:=[om 119 7,oo 120 (Bc .neq 119 0) [119]]
def KB:List RI:=[omk 121 7,omk 2 121]
def KA:List RI:=[oo 122 (Bc .add 113 1) [113],omk 113 122]
def zk:RC:=(.post (So KF (Sq (Kc 114 (Kk [114] .skip) (Kk [111,112,113,114] (.exit 4))) (Sq (Bk 5 (So KE (So KD (So KC (Kc 120 (Kk [111,112,113,120] (So KB .ret)) (Kk [7,120] .skip)))))) (.ops KA)))) [.gc [106]])
def tD:RC:=zk
def jt:List RI:=[on 2 (Mc 0)]
def r13:RC:=(So wv (Sq (Bk 0 (So Xr (Kc 8 (Kk [1,8] (So wu .ret)) (Kk [8] (So Xq (Kc 13 (Kk [1,13] (So ks .ret)) (Kk [13] (So Xp (Kc 46 (Kk [1,46] (So tC .ret)) (Kk [46] .skip)))))))))) (Sq (So Xo (Bk 1 (.loop lx))) (Sq (So KG (Bk 4 (.loop tD))) (So jt .ret)))))
def F13:FnC:=⟨r13,123,[.tmp 2],[],[]⟩
def oi:List RI:=[oo 4 (Mc 0) [4]]
def Xl:List RI:=[om 6 1,oo 7 (Bc .lss 6 1) [6]]
def lF:List RI:=[on 4 (Mc 0)]
def Xk:List RI:=[omk 8 0,om 9 1,oo 10 (Bb .rem 8 9) [8,9],omk 5 10]
def Xj:List RI:=[om 11 5,oo 12 (Bc .lss 11 0) [11]]
def Xi:List RI:=[omk 13 5,omk 14 1,oo 15 (Bb .add 13 14) [13,14],omk 5 15]
def Xh:List RI:=[omk 16 5,omk 4 16]
def r15:RC:=(So oi (Sq (So Xl (Kc 7 (Kk [0,1,7] (So lF .ret)) (Kk [7] .skip))) (So Xk (Sq (So Xj (Kc 12 (Kk [12] (.ops Xi)) (Kk [1,12] .skip))) (So Xh .ret)))))
def F15:FnC:=⟨r15,17,[.tmp 4],[],[]⟩
def wt:List RI:=[oo 1 (.box (.t 0)) [0],oo 2 (.mov (.c (.byt [] .clip))) [2]]
def Xg:List RI:=[on 8 (Lt 7 1),oo 9 (Ca 13 [.t 8]) [8],oo 10 (Bc .neq 9 0) [9]]
def wq:List RI:=[on 2 (.mov (.c (.byt [] .clip)))]
def Xf:List RI:=[on 11 (Ca 48 [(.c (.byt [] .clip)),ci 1,ci 21]),omk 3 11]
def Xe:List RI:=[omk 12 3,on 13 (Fa 0 1),oo 14 (Ld 13) [13],oo 15 (.s2b (.t 14)) [14],oo 16 (Ca 49 [.t 12,.t 15]) [12,15],omk 3 16]
def Xd:List FI:=[Fm 0 17 3,Fs 1 18 (Fa 1 1),Fs 2 19 (Ld 18),Fs 4 21 (Fa 2 1),Fs 5 22 (Ld 21),Fz 3 20 (Ca 48 [.t 17,ci 4,.t 19]),Fz 6 23 (Ca 48 [.t 20,ci 4,.t 22]),⟨7,false,(xm 3 23)⟩]
def Xc:List FI:=[Fm 0 24 3,Fs 1 25 (Fa 3 1),Fs 2 26 (Ld 25),Fs 4 28 (Fa 4 1),Fs 5 29 (Ld 28),Fz 3 27 (Ca 48 [.t 24,ci 6,.t 26]),Fz 6 30 (Ca 48 [.t 27,ci 6,.t 29]),⟨7,false,(xm 3 30)⟩]
def Xb:List RI:=[omk 31 3,on 32 (Fa 5 1),oo 33 (Ld 32) [32],oo 34 (Ln 33) [33],oo 35 (Ca 48 [.t 31,ci 1,.t 34]) [31,34],omk 3 35]
def Xa:List RI:=[on 36 (Fa 5 1),oo 37 (Ld 36) [36],on 38 (Ln 37),on 39 (Mc 0)]
def W9:List RI:=[on 40 (Bb .lss 39 38)]
def JI:List RI:=[on 41 (Ia 4 37 39),oo 42 (Lt 4 41) [41],on 5 (.new (.rc Zq0)),Sr 4 5 42 [42]]
def JH:List FI:=[Fm 0 43 3,Fs 1 44 (Fa 0 5),Fs 2 45 (Ld 44),Fs 4 47 (Fa 1 5),Fs 5 48 (Ld 47),Fs 6 49 (.s2b (.t 48)),Fz 3 46 (Ca 48 [.t 43,ci 1,.t 45]),Fz 7 50 (Ca 49 [.t 46,.t 49]),⟨8,false,(xm 3 50)⟩]
def JG:List FI:=[Fm 0 51 3,Fs 1 52 (Fa 2 5),Fs 2 53 (Ld 52),Fs 4 55 (Fa 3 5),Fs 5 56 (Ld 55),Fz 3 54 (Ca 48 [.t 51,ci 4,.t 53]),Fz 6 57 (.app [.u8 0] 1 (.t 54) (.t 56)),⟨7,false,(xm 3 57)⟩]
def JF:List RI:=[oo 58 (Bc .add 39 1) [39],omk 39 58]
def zf:RC:=(.post (So W9 (Sq (Kc 40 (Kk [40] .skip) (Kk [37,38,39,40] (.exit 0))) (Sq (Bk 1 (So JI (Sq (.flt [0,0,2,7,0,16,48,127,255] [] JH [43,44,45,46,47,48,49,50]) (.flt [0,0,2,7,0,16,63,127] [157] JG [5,51,52,53,54,55,56,57])))) (.ops JF)))) [.gc [105],.gcr 47000 48000,.gcr 55000 56000,.tok 3 103])
def pW:RC:=zf
def JE:List RI:=[omk 59 3,on 60 (Fa 6 1),oo 61 (Ld 60) [60],oo 62 (Ln 61) [61],oo 63 (Ca 48 [.t 59,ci 1,.t 62]) [59,62],omk 3 63]
def JD:List RI:=[oo 64 (Fa 6 1) [1],oo 65 (Ld 64) [64],on 66 (Ln 65),on 67 (Mc 0)]
def JC:List RI:=[on 68 (Bb .lss 67 66)]
def JB:List RI:=[on 69 (Ia 4 65 67),oo 70 (Lt 4 69) [69],on 7 (.new (.rc Zq3)),Sr 4 7 70 [70]]
def JA:List FI:=[Fm 0 71 3,Fs 1 72 (Fa 0 7),Fs 2 73 (Ld 72),Fs 4 75 (Fa 1 7),Fs 5 76 (Ld 75),Fs 6 77 (.s2b (.t 76)),Fz 3 74 (Ca 48 [.t 71,ci 1,.t 73]),Fz 7 78 (Ca 49 [.t 74,.t 77]),⟨8,false,(xm 3 78)⟩]
def Jz:List FI:=[Fm 0 79 3,Fs 1 80 (Fa 2 7),Fs 2 81 (Ld 80),Fs 4 83 (Fa 3 7),Fs 5 84 (Ld 83),Fz 3 82 (Ca 48 [.t 79,ci 4,.t 81]),Fz 6 85 (Ca 48 [.t 82,ci 4,.t 84]),⟨7,false,(xm 3 85)⟩]
def Jy:List RI:=[oo 86 (Bc .add 67 1) [67],omk 67 86]
def ze:RC:=(.post (So JC (Sq (Kc 68 (Kk [68] .skip) (Kk [65,66,67,68] (.exit 2))) (Sq (Bk 3 (So JB (Sq (.flt [0,0,2,7,0,16,48,127,255] [] JA [71,72,73,74,75,76,77,78]) (.flt [0,0,2,7,0,16,63,127] [] Jz [7,79,80,81,82,83,84,85])))) (.ops Jy)))) [.gc [107],.gcr 75000 76000,.gcr 83000 84000])
def pV:RC:=ze
def Jx:List RI:=[omk 87 3,omk 2 87]
def r16:RC:=(So wt (Sq (So Xg (Kc 10 (Kk [1,10] (So wq .ret)) (Kk [10] .skip))) (So Xf (So Xe (Sq (.flt [0,0,2,7,0,16,63,127] [] Xd [17,18,19,20,21,22,23]) (Sq (.flt [0,0,2,7,0,16,63,127] [] Xc [24,25,26,27,28,29,30]) (So Xb (Sq (So Xa (Bk 0 (.pre [.tok 3 103] (.loop pW)))) (So JE (Sq (So JD (Bk 2 (.loop pV))) (So Jx .ret)))))))))))
def F16:FnC:=⟨r16,88,[.tmp 2],[],[]⟩
def W8:List RI:=[on 2 (.new (.rc Zq1)),oo 3 (Mc 0) [3]]
def W7:List RI:=[omk 10 0,oo 11 (Ca 50 [.t 10]) [10],omk 4 11]
def W6:List RI:=[on 5 (.new (.rc Zq1))]
def W5:List RI:=[om 12 4,oo 13 (Ca 51 [.t 12,ci 1]) [12],oo 14 (Bc .neq 13 21) [13]]
def W4:List RI:=[on 15 (.build Zq1 []),Sr 7 2 15 [15],on 3 (Mc 30)]
def W3:List RI:=[om 16 4,oo 17 (Ca 52 [.t 16,ci 12]) [16],oo 18 (.b2s (.t 17)) [17],on 19 (Fa 0 5),Sr 1 19 18 [18,19]]
def W2:List RI:=[om 20 4,oo 21 (Ca 51 [.t 20,ci 4]) [20],on 22 (Fa 1 5),Sr 1 22 21 [21,22]]
def W1:List RI:=[om 23 4,oo 24 (Ca 51 [.t 23,ci 4]) [23],on 25 (Fa 2 5),Sr 1 25 24 [24,25]]
def W0:List RI:=[om 26 4,oo 27 (Ca 51 [.t 26,ci 6]) [26],on 28 (Fa 3 5),Sr 1 28 27 [27,28]]
def WZ:List RI:=[om 29 4,oo 30 (Ca 51 [.t 29,ci 6]) [29],on 31 (Fa 4 5),Sr 1 31 30 [30,31]]
def Jh:List RI:=[om 32 4,oo 33 (Ca 51 [.t 32,ci 1]) [32],omk 6 33]
def Jg:List RI:=[om 34 6,oo 35 (Bc .gtr 34 0) [34],omk 36 35,.grp 36 true [(xi 37 36 true (Mv 4)),(xi 38 36 true (Ca 53 [.t 37])),(xi 39 36 true (Bc .eql 38 0))] [37,38],oo 40 (Pf 36 39) [36,39]]
def Jf:List RI:=[on 7 (.new (.rc Zq0))]
def Je:List RI:=[om 43 4,oo 44 (Ca 51 [.t 43,ci 1]) [43],on 45 (Fa 0 7),Sr 1 45 44 [44,45]]
def Jd:List RI:=[om 46 4,oo 47 (Ca 52 [.t 46,ci 12]) [46],oo 48 (.b2s (.t 47)) [47],on 49 (Fa 1 7),Sr 1 49 48 [48,49]]
def Jc:List RI:=[om 50 4,oo 51 (Ca 51 [.t 50,ci 4]) [50],on 52 (Fa 2 7),Sr 1 52 51 [51,52]]
def Jb:List RI:=[om 53 4,oo 54 (Ca 54 [.t 53,ci 32]) [53],on 55 (Fa 3 7),Sr 1 55 54 [54,55]]
def Ja:List RI:=[on 56 (Fa 5 5),oo 57 (Ld 56) [56],oo 58 (Lt 4 7) [7],oo 59 (.lit 4 [.t 58]) [58],oo 60 (.app Zq0 56 (.t 57) (.t 59)) [57,59],on 61 (Fa 5 5),Sr 1 61 60 [60,61]]
def I9:List RI:=[omk 41 6,oo 42 (Bc .sub 41 1) [41],omk 6 42]
def zd:RC:=(.post (Sq (So Jg (Kc 40 (Kk [40] .skip) (Kk [6,40] (.exit 0)))) (Sq (Bk 1 (So Jf (So Je (So Jd (So Jc (So Jb (.ops Ja))))))) (.ops I9))) [.gc [107]])
def yb:RC:=zd
def pU:List RI:=[om 62 4,oo 63 (Ca 51 [.t 62,ci 1]) [62],omk 8 63]
def I8:List RI:=[om 64 8,oo 65 (Bc .gtr 64 0) [64],omk 66 65,.grp 66 true [(xi 67 66 true (Mv 4)),(xi 68 66 true (Ca 53 [.t 67])),(xi 69 66 true (Bc .eql 68 0))] [67,68],oo 70 (Pf 66 69) [66,69]]
def I7:List RI:=[on 9 (.new (.rc Zq3))]
def I6:List RI:=[om 73 4,oo 74 (Ca 51 [.t 73,ci 1]) [73],on 75 (Fa 0 9),Sr 1 75 74 [74,75]]
def I5:List RI:=[om 76 4,oo 77 (Ca 52 [.t 76,ci 32]) [76],oo 78 (.b2s (.t 77)) [77],on 79 (Fa 1 9),Sr 1 79 78 [78,79]]
def I4:List RI:=[om 80 4,oo 81 (Ca 51 [.t 80,ci 4]) [80],on 82 (Fa 2 9),Sr 1 82 81 [81,82]]
def I3:List RI:=[om 83 4,oo 84 (Ca 51 [.t 83,ci 4]) [83],on 85 (Fa 3 9),Sr 1 85 84 [84,85]]
def I2:List RI:=[on 86 (Fa 6 5),oo 87 (Ld 86) [86],oo 88 (Lt 4 9) [9],oo 89 (.lit 4 [.t 88]) [88],oo 90 (.app Zq3 40 (.t 87) (.t 89)) [87,89],on 91 (Fa 6 5),Sr 1 91 90 [90,91]]
def I1:List RI:=[omk 71 8,oo 72 (Bc .sub 71 1) [71],omk 8 72]
def zb:RC:=(.post (Sq (So I8 (Kc 70 (Kk [70] .skip) (Kk [8,70] (.exit 2)))) (Sq (Bk 3 (So I7 (So I6 (So I5 (So I4 (So I3 (.ops I2))))))) (.ops I1))) [.gc [109]])
def ya:RC:=zb
def pT:List RI:=[omk 92 4,oo 93 (Ca 55 [.t 92]) [92],oo 94 (Bc .neq 93 0) [93],omk 95 94,.grp 95 false [(xi 96 95 false (Lt 7 5)),(xi 97 95 false (Ca 13 [.t 96])),(xi 98 95 false (Bc .neq 97 0))] [96,97],oo 99 (Pt 95 98) [95,98]]
def I0:List RI:=[on 100 (.build Zq1 []),Sr 7 2 100 [100],on 3 (Mc 30)]
def IZ:List RI:=[oo 101 (Lt 7 5) [5],Sr 7 2 101 [101],on 3 (Mc 0)]
def r17:RC:=(So W8 (So W7 (So W6 (Sq (So W5 (Kc 14 (Kk [4,5,14] (So W4 .ret)) (Kk [14] .skip))) (So W3 (So W2 (So W1 (So W0 (So WZ (Sq (So Jh (Bk 0 (.loop yb))) (Sq (So pU (Bk 2 (.loop ya))) (Sq (So pT (Kc 99 (Kk [5,99] (So I0 .ret)) (Kk [99] .skip))) (So IZ .ret)))))))))))))
def F17:FnC:=⟨r17,102,[.cell 2 7 true,.tmp 3],[],[]⟩
def DX:List RI:=[oo 2 (.box (.t 0)) [0],oo 3 (.box (.t 1)) [1],oo 4 (Mb false) [4]]
def WY:List RI:=[on 9 (Fa 0 2),oo 10 (Ld 9) [9],on 11 (Fa 0 3),oo 12 (Ld 11) [11],oo 13 (Bb .neq 10 12) [10,12],omk 14 13,.grp 14 false [(xi 15 14 false (Fa 1 2)),(xi 16 14 false (Ld 15)),(xi 17 14 false (Fa 1 3)),(xi 18 14 false (Ld 17)),(xi 19 14 false (Bb .neq 16 18))] [15,16,17,18],oo 20 (Pt 14 19) [14,19],omk 21 20,.grp 21 false [(xi 22 21 false (Fa 2 2)),(xi 23 21 false (Ld 22)),(xi 24 21 false (Fa 2 3)),(xi 25 21 false (Ld 24)),(xi 26 21 false (Bb .neq 23 25))] [22,23,24,25],oo 27 (Pt 21 26) [21,26],omk 28 27,.grp 28 false [(xi 29 28 false (Fa 3 2)),(xi 30 28 false (Ld 29)),(xi 31 28 false (Fa 3 3)),(xi 32 28 false (Ld 31)),(xi 33 28 false (Bb .neq 30 32))] [29,30,31,32],oo 34 (Pt 28 33) [28,33],omk 35 34,.grp 35 false [(xi 36 35 false (Fa 4 2)),(xi 37 35 false (Ld 36)),(xi 38 35 false (Fa 4 3)),(xi 39 35 false (Ld 38)),(xi 40 35 false (Bb .neq 37 39))] [36,37,38,39],oo 41 (Pt 35 40) [35,40],omk 42 41,.grp 42 false [(xi 43 42 false (Fa 5 2)),(xi 44 42 false (Ld 43)),(xi 45 42 false (Ln 44)),(xi 46 42 false (Fa 5 3)),(xi 47 42 false (Ld 46)),(xi 48 42 false (Ln 47)),(xi 49 42 false (Bb .neq 45 48))] [43,44,45,46,47,48],oo 50 (Pt 42 49) [42,49],omk 51 50,.grp 51 false [(xi 52 51 false (Fa 6 2)),(xi 53 51 false (Ld 52)),(xi 54 51 false (Ln 53)),(xi 55 51 false (Fa 6 3)),(xi 56 51 false (Ld 55)),(xi 57 51 false (Ln 56)),(xi 58 51 false (Bb .neq 54 57))] [52,53,54,55,56,57],oo 59 (Pt 51 58) [51,58]]
def oh:List RI:=[on 4 (Mb false)]
def qx:List RI:=[on 5 (Mc 0)]
def WX:List RI:=[om 60 5,on 61 (Fa 5 2),oo 62 (Ld 61) [61],oo 63 (Ln 62) [62],oo 64 (Bb .lss 60 63) [60,63]]
def WW:List FI:=[Fs 0 67 (Fa 5 2),Fs 1 68 (Ld 67),Fm 2 69 5,Fs 3 70 (Ia 4 68 69),Fs 4 71 (Lt 4 70),Fs 5 72 (Fa 5 3),Fs 6 73 (Ld 72),Fm 7 74 5,Fs 8 75 (Ia 4 73 74),Fs 9 76 (Lt 4 75),Fz 10 6 (.new (.rc Zq0)),Fz 11 7 (.new (.rc Zq0)),Fr 12 4 6 71,Fr 13 4 7 76]
def WV:List RI:=[on 77 (Fa 0 6),oo 78 (Ld 77) [77],on 79 (Fa 0 7),oo 80 (Ld 79) [79],oo 81 (Bb .neq 78 80) [78,80],omk 82 81,.grp 82 false [(xi 83 82 false (Fa 1 6)),(xi 84 82 false (Ld 83)),(xi 85 82 false (Fa 1 7)),(xi 86 82 false (Ld 85)),(xi 87 82 false (Bb .neq 84 86))] [83,84,85,86],oo 88 (Pt 82 87) [82,87],omk 89 88,.grp 89 false [(xi 90 89 false (Fa 2 6)),(xi 91 89 false (Ld 90)),(xi 92 89 false (Fa 2 7)),(xi 93 89 false (Ld 92)),(xi 94 89 false (Bb .neq 91 93))] [90,91,92,93],oo 95 (Pt 89 94) [89,94],omk 96 95,.grp 96 false [(xi 97 96 false (Fa 3 6)),(xi 98 96 false (Ld 97)),(xi 99 96 false (Fa 3 7)),(xi 100 96 false (Ld 99)),(xi 101 96 false (Ca 19 [.t 98,.t 100])),(xi 102 96 false (.un .not (.t 101)))] [6,7,97,98,99,100,101],oo 103 (Pt 96 102) [96,102]]
def WU:List RI:=[omk 65 5,oo 66 (Bc .add 65 1) [65],omk 5 66]
def OH:RC:=(.post (Sq (So WX (Kc 64 (Kk [64] .skip) (Kk [5,64] (.exit 0)))) (Sq (Bk 1 (Sq (.fla [0,1,0,7,15,0,32,0,224,480,0,0,3103,8191] [106,107] WW [[0,1,2,3,4,5,6,7,8,9,10,11,12,13],[0,1,2,3,4,5,6,7,8,9,11,10,12,13]] [67,68,69,70,71,72,73,74,75,76]) (So WV (Kc 103 (Kk [2,3,5,103] (So oh .ret)) (Kk [103] .skip))))) (.ops WU))) [.gc [106,107]])
def DW:RC:=OH
def pS:List RI:=[on 8 (Mc 0)]
def IX:List RI:=[om 104 8,on 105 (Fa 6 2),oo 106 (Ld 105) [105],oo 107 (Ln 106) [106],oo 108 (Bb .lss 104 107) [104,107]]
def IW:List FI:=[Fs 0 111 (Fa 6 2),Fs 1 112 (Ld 111),Fm 2 113 8,Fs 3 114 (Ia 4 112 113),Fs 4 115 (Lt 4 114),Fs 5 116 (Fa 6 3),Fs 6 117 (Ld 116),Fm 7 118 8,Fs 8 119 (Ia 4 117 118),Fs 9 120 (Lt 4 119),Fs 10 121 (.eqS true [1,2,1,1] (.t 115) (.t 120))]
def IV:List RI:=[omk 109 8,oo 110 (Bc .add 109 1) [109],omk 8 110]
def za:RC:=(Sq (So IX (Kc 108 (Kk [108] .skip) (Kk [2,3,8,108] (.exit 2)))) (Sq (Bk 3 (Sq (.flt [0,1,0,7,15,0,32,0,224,480,1023] [] IW [111,112,113,114,115,116,117,118,119,120]) (Kc 121 (Kk [2,3,8,121] (So oh .ret)) (Kk [121] .skip)))) (.ops IV)))
def tz:RC:=za
def tx:List RI:=[on 4 (Mb true)]
def r18:RC:=(So DX (Sq (So WY (Kc 59 (Kk [2,3,59] (So oh .ret)) (Kk [59] .skip))) (Sq (So qx (Bk 0 (.loop DW))) (Sq (So pS (Bk 2 (.loop tz))) (So tx .ret)))))
def F18:FnC:=⟨r18,122,[.tmp 4],[],[]⟩
def qw:List RI:=[oo 4 (Mb false) [4]]
def WT:List RI:=[om 6 0,oo 7 (Ln 6) [6],om 8 1,oo 9 (Ln 8) [8],oo 10 (Bb .neq 7 9) [7,9]]
def WS:List RI:=[om 11 5,om 12 0,oo 13 (Ln 12) [12],oo 14 (Bb .lss 11 13) [11,13]]
def WR:List FI:=[Fm 0 17 0,Fm 1 18 5,Fs 2 19 (Ia 1 17 18),Fs 3 20 (Ld 19),Fm 4 21 1,Fm 5 22 5,Fs 6 23 (Ia 1 21 22),Fs 7 24 (Ld 23),Fs 8 25 (Bb .neq 20 24)]
def WQ:List RI:=[omk 15 5,oo 16 (Bc .add 15 1) [15],omk 5 16]
def OG:RC:=(Sq (So WS (Kc 14 (Kk [14] .skip) (Kk [0,1,5,14] (.exit 0)))) (Sq (Bk 1 (Sq (.flt [0,0,3,7,0,0,48,112,255] [] WR [17,18,19,20,21,22,23,24]) (Kc 25 (Kk [0,1,5,25] (So oh .ret)) (Kk [25] .skip)))) (.ops WQ)))
def Oj:RC:=OG
def r19:RC:=(So qw (Sq (So WT (Kc 10 (Kk [0,1,10] (So oh .ret)) (Kk [10] .skip))) (Sq (So qx (Bk 0 (.loop Oj))) (So tx .ret))))
def F19:FnC:=⟨r19,26,[.tmp 4],[],[]⟩
def WP:List RI:=[oo 4 (Lt 7 1) [1],oo 5 (Ca 16 [.t 4]) [4],omk 3 5]
def WO:List RI:=[om 6 3,oo 7 (Ln 6) [6],oo 8 (Bc .eql 7 0) [7]]
def WN:List RI:=[omk 9 3,oo 10 (.lit 1 [.t 9]) [9],oo 11 (Ca 58 [ci 21,.t 10]) [10],omk 2 11]
def r21:RC:=(So wt (So WP (Sq (So WO (Kc 8 (Kk [3,8] (So wq .ret)) (Kk [8] .skip))) (So WN .ret))))
def F21:FnC:=⟨r21,12,[.tmp 2],[],[]⟩
def WM:List RI:=[oo 6 (Mb false) [6]]
def WL:List FI:=[Fm 0 7 2,Fs 1 8 (Bc .geq 7 0),Fm 2 9 8,Fi 3 10 9 true (Mv 2),Fi 4 11 9 true (Bc .leq 10 32),Fs 5 12 (Pf 9 11),Fm 6 13 12,Fi 7 14 13 true (Mv 0),Fi 8 15 13 true (Mv 1),Fy 9 16 13 true (Ca 19 [.t 14,.t 15]),Fi 10 17 13 true (.un .not (.t 16)),Fs 11 18 (Pf 13 17),Fm 12 19 18,Fi 13 20 19 true (Mv 0),Fi 15 22 19 true (Mv 2),Fi 17 24 19 true (Mv 1),Fi 19 26 19 true (Mv 2),Fy 14 21 19 true (Ca 65 [.t 20]),Fi 16 23 19 true (.slcL 1 (.t 21) none (some (.t 22)) none),Fy 18 25 19 true (Ca 65 [.t 24]),Fi 20 27 19 true (.slcL 1 (.t 25) none (some (.t 26)) none),Fy 21 28 19 true (Ca 19 [.t 23,.t 27]),Fs 22 29 (Pf 19 28),Fm 23 6 29]
def r25:RC:=(So WM (Sq (.flt [0,1,3,7,15,31,63,127,127,511,1023,2047,4095,8191,16383,8191,65535,8191,163839,8191,950271,2097151,4194303,8388607] [] WL [0,1,2,7,8,9,10,11,12,13,14,15,16,17,18,19,20,21,22,23,24,25,26,27,28,29]) .ret))
def F25:FnC:=⟨r25,30,[.tmp 6],[],[]⟩
def kZ:List RI:=[oo 2 (.mov (.c (.byt [] .clip))) [2]]
def WK:List RI:=[omk 3 0,oo 4 (.lit 1 [.t 3]) [3],oo 5 (Ca 66 [ci 21,.t 4]) [4],omk 2 5]
def r26:RC:=(So kZ (So WK .ret))
def F26:FnC:=⟨r26,6,[.tmp 2],[],[]⟩
def Oi:List RI:=[oo 4 (.mov (.c (.lst 4 [] .clip))) [4]]
def WJ:List RI:=[om 11 0,oo 12 (Ca 67 [.t 11]) [11],oo 13 (Bc .neq 12 0) [12],omk 14 13,.grp 14 false [(xi 15 14 false (Mv 1)),(xi 16 14 false (Bc .lss 15 1))] [15],oo 17 (Pt 14 16) [14,16],omk 18 17,.grp 18 false [(xi 19 18 false (Mv 1)),(xi 20 18 false (Bc .gtr 19 3))] [19],oo 21 (Pt 18 20) [18,20]]
def Oh:List RI:=[on 4 (.mov (.c (.lst 4 [] .clip)))]
def WI:List RI:=[on 5 (.mov (.c (.lst 4 [] .clip)))]
def WH:List RI:=[on 6 (Mc 1)]
def WG:List RI:=[om 22 6,oo 23 (Bc .leq 22 4) [22]]
def WF:List RI:=[om 26 6,oo 27 (Bc .eql 26 3) [26]]
def wo:List RI:=[on 7 (Mc 0)]
def WE:List RI:=[om 28 7,oo 29 (Bc .lss 28 8) [28]]
def WD:List RI:=[omk 32 5,om 33 7,om 34 1,on 35 (Ca 69 []),oo 36 (Ca 68 [.t 33,ci 2,.t 34,.t 35]) [33,34,35],oo 37 (.lit 4 [.t 36]) [36],oo 38 (.app Zq2 64 (.t 32) (.t 37)) [32,37],omk 5 38]
def IU:List RI:=[omk 30 7,oo 31 (Bc .add 30 1) [30],omk 7 31]
def y9:RC:=(.post (Sq (So WE (Kc 29 (Kk [29] .skip) (Kk [7,29] (.exit 2)))) (Sq (Bk 3 (.ops WD)) (.ops IU))) [.tok 5 105])
def x9:RC:=y9
def IT:List RI:=[om 39 8,om 40 0,oo 41 (Ln 40) [40],oo 42 (Bb .lss 39 41) [39,41]]
def IS:List RI:=[om 45 0,om 46 8,oo 47 (Ia 4 45 46) [45,46],oo 48 (Fa 0 47) [47],oo 49 (Ld 48) [48],om 50 6,oo 51 (Bb .neq 49 50) [49,50]]
def IR:List RI:=[om 52 6,oo 53 (Bc .neq 52 4) [52]]
def IQ:List RI:=[omk 54 5,om 55 0,om 56 8,oo 57 (Ia 4 55 56) [55,56],oo 58 (Lt 4 57) [57],om 59 1,oo 60 (Ca 40 [.t 58,.t 59]) [58,59],oo 61 (.lit 4 [.t 60]) [60],oo 62 (.app Zq2 64 (.t 54) (.t 61)) [54,61],omk 5 62]
def IP:List RI:=[om 63 0,om 64 8,oo 65 (Ia 4 63 64) [63,64],oo 66 (Lt 4 65) [65],oo 67 (Ca 70 [.t 66]) [66],omk 9 67]
def x8:List RI:=[on 10 (Mc 0)]
def IN:List RI:=[om 68 10,om 69 9,oo 70 (Ln 69) [69],oo 71 (Bb .lss 68 70) [68,70]]
def IM:List RI:=[omk 74 5,om 75 1,om 76 9,om 77 10,oo 78 (Ia 1 76 77) [76,77],oo 79 (Ld 78) [78],oo 80 (Ca 68 [ci 9,ci 3,.t 75,.t 79]) [75,79],oo 81 (.lit 4 [.t 80]) [80],oo 82 (.app Zq2 64 (.t 74) (.t 81)) [74,81],omk 5 82]
def IL:List RI:=[omk 72 10,oo 73 (Bc .add 72 1) [72],omk 10 73]
def y8:RC:=(.post (Sq (So IN (Kc 71 (Kk [71] .skip) (Kk [9,10,71] (.exit 6)))) (Sq (Bk 7 (.ops IM)) (.ops IL))) [.tok 5 105])
def x7:RC:=y8
def IK:List RI:=[omk 43 8,oo 44 (Bc .add 43 1) [43],omk 8 44]
def y7:RC:=(.post (Sq (So IT (Kc 42 (Kk [42] .skip) (Kk [8,42] (.exit 4)))) (Sq (Bk 5 (Sq (So IS (Kc 51 (Kk [51] (.exit 5)) (Kk [51] .skip))) (Sq (So IR (Kc 53 (Kk [53] (So IQ (.exit 5))) (Kk [53] .skip))) (So IP (So x8 (Bk 6 (.pre [.tok 5 105] (.loop x7)))))))) (.ops IK))) [.tok 5 105])
def x6:RC:=y7
def IJ:List RI:=[omk 24 6,oo 25 (Bc .add 24 1) [24],omk 6 25]
def y6:RC:=(.post (Sq (So WG (Kc 23 (Kk [23] .skip) (Kk [0,1,6,23] (.exit 0)))) (Sq (Bk 1 (Sq (So WF (Kc 27 (Kk [27] (So wo (Bk 2 (.pre [.tok 5 105] (.loop x9))))) (Kk [27] .skip))) (So pS (Bk 4 (.pre [.tok 5 105] (.loop x6)))))) (.ops IJ))) [.tok 5 105])
def II:RC:=y6
def IH:List RI:=[omk 83 5,omk 4 83]
def r27:RC:=(So Oi (Sq (So WJ (Kc 21 (Kk [0,1,21] (So Oh .ret)) (Kk [21] .skip))) (So WI (Sq (So WH (Bk 0 (.pre [.tok 5 105] (.loop II)))) (So IH .ret)))))
def F27:FnC:=⟨r27,84,[.tmp 4],[],[]⟩
def WC:List RI:=[oo 2 (.mov (.c (.lst 4 [] .clip))) [2]]
def WB:List RI:=[omk 10 0,oo 11 (Ca 29 [.t 10,ci 200]) [10],omk 3 11]
def Og:List RI:=[on 5 (Mc 1)]
def WA:List RI:=[om 12 5,oo 13 (Bc .leq 12 4) [12]]
def Wz:List RI:=[om 16 3,oo 17 (Ca 71 [.t 16,ci 3]) [16],omk 6 17]
def Wy:List RI:=[om 18 5,oo 19 (Bc .eql 18 1) [18],omk 20 19,.grp 20 false [(xi 21 20 false (Mv 5)),(xi 22 20 false (Bc .eql 21 3))] [21],oo 23 (Pt 20 22) [20,22]]
def Wx:List RI:=[om 24 3,oo 25 (Ca 71 [.t 24,ci 2]) [24],oo 26 (.bin .add (ci 1) (.t 25)) [25],omk 6 26]
def Ww:List RI:=[om 27 6,oo 28 (Bc .gtr 27 0) [27]]
def Wv:List RI:=[om 31 3,om 32 5,oo 33 (Ca 72 [.t 31,.t 32]) [31,32],on 7 (.new (.rc Zq0)),Sr 4 7 33 [33]]
def IG:List RI:=[on 9 (Mc 0)]
def IF:List RI:=[om 34 9,om 35 4,oo 36 (Ln 35) [35],oo 37 (Bb .lss 34 36) [34,36]]
def IE:List FI:=[Fm 0 40 8,Fm 1 41 40,Fi 2 42 41 false (Mv 4),Fi 3 43 41 false (Mv 9),Fi 4 44 41 false (Ia 4 42 43),Fi 5 45 41 false (Fa 0 44),Fi 6 46 41 false (Ld 45),Fi 7 47 41 false (Fa 0 7),Fi 8 48 41 false (Ld 47),Fi 9 49 41 false (Bb .eql 46 48),Fi 10 50 41 false (Mv 49),Fi 11 51 50 true (Mv 4),Fi 12 52 50 true (Mv 9),Fi 13 53 50 true (Ia 4 51 52),Fi 14 54 50 true (Fa 1 53),Fi 15 55 50 true (Ld 54),Fi 16 56 50 true (Fa 1 7),Fi 17 57 50 true (Ld 56),Fi 18 58 50 true (Bb .eql 55 57),Fi 19 59 41 false (Pf 50 58),Fs 20 60 (Pt 41 59),⟨21,false,(xm 8 60)⟩]
def ID:List RI:=[omk 38 9,oo 39 (Bc .add 38 1) [38],omk 9 39]
def y5:RC:=(Sq (So IF (Kc 37 (Kk [37] .skip) (Kk [9,37] (.exit 4)))) (Sq (Bk 5 (.flt [0,1,3,3,15,31,63,3,131,511,1023,2047,2047,8191,16383,32767,2047,67583,262143,524287,1048575,2097151] [] IE [40,41,42,43,44,45,46,47,48,49,50,51,52,53,54,55,56,57,58,59,60])) (.ops ID)))
def x5:RC:=y5
def IC:List RI:=[omk 61 8,oo 62 (.un .not (.t 61)) [61]]
def IB:List RI:=[omk 63 4,oo 64 (Lt 4 7) [7],oo 65 (.lit 4 [.t 64]) [64],oo 66 (.app Zq0 56 (.t 63) (.t 65)) [63,65],omk 4 66]
def IA:List RI:=[omk 29 6,oo 30 (Bc .sub 29 1) [29],omk 6 30]
def y0:RC:=(.post (Sq (So Ww (Kc 28 (Kk [28] .skip) (Kk [6,28] (.exit 2)))) (Sq (Bk 3 (So Wv (So TS (Sq (So IG (Bk 4 (.loop x5))) (So IC (Kc 62 (Kk [62] (.ops IB)) (Kk [7,62] .skip))))))) (.ops IA))) [.gc [107],.tok 4 104])
def xZ:RC:=y0
def Iz:List RI:=[omk 14 5,oo 15 (Bc .add 14 1) [14],omk 5 15]
def yZ:RC:=(.post (Sq (So WA (Kc 13 (Kk [13] .skip) (Kk [3,5,13] (.exit 0)))) (Sq (Bk 1 (So Wz (Sq (So Wy (Kc 23 (Kk [6,23] (.ops Wx)) (Kk [23] .skip))) (Bk 2 (.pre [.tok 4 104] (.loop xZ)))))) (.ops Iz))) [.gc [107],.tok 4 104])
def pR:RC:=yZ
def Iy:List RI:=[omk 67 4,omk 2 67]
def r28:RC:=(So WC (So WB (So Oh (Sq (So Og (Bk 0 (.pre [.tok 4 104] (.loop pR)))) (So Iy .ret)))))
def F28:FnC:=⟨r28,68,[.tmp 2],[],[]⟩
def Wu:List RI:=[oo 4 (.mov (.c .nilp)) [4]]
def Wt:List RI:=[om 5 0,oo 6 (Ln 5) [5],om 7 1,oo 8 (Bb .gtr 6 7) [6,7]]
def Ws:List RI:=[omk 9 0,omk 10 1,oo 11 (.slcL 1 (.t 9) none (some (.t 10)) none) [9,10],omk 0 11]
def Wr:List RI:=[omk 12 0,oo 13 (.build [.byt [] .clip,.int .i64 0] [(0,1,(.t 12))]) [12],oo 14 (.box (.t 13)) [13],omk 4 14]
def r29:RC:=(So Wu (Sq (So Wt (Kc 8 (Kk [8] (.ops Ws)) (Kk [1,8] .skip))) (So Wr .ret)))
def F29:FnC:=⟨r29,15,[.tmp 4],[],[]⟩
def Wq:List RI:=[on 4 (.new (.rc Zq2))]
def Wp:List RI:=[om 9 0,oo 10 (Ca 73 [.t 9]) [9],omk 5 10]
def Wo:List RI:=[om 11 0,oo 12 (Ca 71 [.t 11,ci 4]) [11],oo 13 (Bc .eql 12 3) [12]]
def Wn:List RI:=[omk 14 5,om 15 0,oo 16 (Ca 71 [.t 15,ci 2]) [15],oo 17 (.slcL 1 (.t 14) none (some (.t 16)) none) [14,16],omk 5 17]
def Wm:List RI:=[om 18 0,oo 19 (Ca 71 [.t 18,ci 5]) [18],oo 20 (.bin .add (ci 1) (.t 19)) [19],omk 6 20]
def Wj:List RI:=[on 21 (.lit 1 [ci 0,ci 0,ci 4,ci 8,ci 9,ci 9,ci 1,ci 11]),om 22 0,oo 23 (Ca 71 [.t 22,ci 8]) [22],oo 24 (Ia 1 21 23) [21,23],oo 25 (Ld 24) [24],omk 7 25]
def Wi:List RI:=[om 26 6,oo 27 (Bc .eql 26 2) [26],omk 28 27,.grp 28 true [(xi 29 28 true (Mv 0)),(xi 30 28 true (Ca 71 [.t 29,ci 4])),(xi 31 28 true (Bc .gtr 30 0))] [29,30],oo 32 (Pf 28 31) [28,31]]
def Wh:List RI:=[on 33 (.litB [(.c (.u8 0)),(.c (.u8 0)),(.c (.u8 0)),(.c (.u8 0))]),omk 5 33]
def Wg:List RI:=[om 34 0,oo 35 (Ca 71 [.t 34,ci 8]) [34],omk 7 35]
def Wf:List RI:=[omk 36 7,om 37 6,om 38 1,omk 39 5,oo 40 (Ca 68 [.t 36,.t 37,.t 38,.t 39]) [36,37,38,39],on 8 (.new (.rc Zq2)),Sr 4 8 40 [40]]
def Ix:List RI:=[om 41 6,oo 42 (Bc .neq 41 5) [41],omk 43 42,.grp 43 true [(xi 44 43 true (Mv 0)),(xi 45 43 true (Ca 71 [.t 44,ci 4])),(xi 46 43 true (Bc .eql 45 3))] [44,45],oo 47 (Pf 43 46) [43,46]]
def Iw:List RI:=[omk 48 1,omk 49 0,oo 50 (Ca 71 [.t 49,ci 4]) [49],oo 51 (.toInt .u8 (.t 50)) [50],omk 52 6,oo 53 (.toInt .u8 (.t 52)) [52],oo 54 (.litB [.t 51,.t 53]) [51,53],oo 55 (Ca 74 [.t 48,.t 54]) [48,54],on 56 (Fa 2 8),Sr 1 56 55 [55,56]]
def Iv:List RI:=[oo 57 (Lt 4 8) [8],Sr 4 4 57 [57]]
def r30:RC:=(So Wq (So Wp (Sq (So Wo (Kc 13 (Kk [13] (.ops Wn)) (Kk [13] .skip))) (So Wm (So Wj (Sq (So Wi (Kc 32 (Kk [5,7,32] (So Wh (.ops Wg))) (Kk [32] .skip))) (So Wf (Sq (So Ix (Kc 47 (Kk [47] (.ops Iw)) (Kk [0,1,6,47] .skip))) (So Iv .ret)))))))))
def F30:FnC:=⟨r30,58,[.cell 4 4 true],[],[]⟩
def Of:List RI:=[oo 2 (.box (.t 0)) [0],oo 3 (.box (.t 1)) [1],oo 4 (Mc 0) [4]]
def We:List RI:=[on 6 (Lt 7 2),oo 7 (Ca 13 [.t 6]) [6],oo 8 (Bc .neq 7 0) [7]]
def og:List RI:=[on 4 (Mc (-1))]
def Wd:List RI:=[on 9 (Fa 1 3),oo 10 (Ld 9) [9]]
def Wc:List RI:=[on 12 (Bc .eql 10 1),omk 11 12]
def Wb:List RI:=[oo 13 (Fa 5 2) [2],oo 14 (Ld 13) [13],oo 15 (.mkfn 76 [] [.t 3]) [3],oo 16 (Ca 75 [.t 14,.t 15]) [14,15],omk 4 16]
def Wa:List RI:=[oo 18 (Bc .eql 10 3) [10],omk 17 18]
def V9:List FI:=[Fs 0 19 (Fa 0 3),Fs 1 20 (Ld 19),Fz 2 21 (Ca 33 [ci 4]),Fs 3 22 (Bb .neq 20 21),Fm 4 23 22,Fi 5 24 23 false (Lt 4 3),Fy 6 25 23 false (Ca 79 [.t 24]),Fi 7 26 23 false (.un .not (.t 25)),Fs 8 27 (Pt 23 26)]
def V8:List RI:=[on 28 (Fa 6 2),oo 29 (Ld 28) [28],oo 30 (.mkfn 81 [] [.t 3]) [3],oo 31 (Ca 80 [.t 29,.t 30]) [29,30],omk 5 31]
def Iu:List RI:=[om 32 5,oo 33 (Bc .geq 32 0) [32]]
def It:List RI:=[oo 34 (Fa 5 2) [2],oo 35 (Ld 34) [34],oo 36 (Ln 35) [35],omk 37 5,oo 38 (Bb .add 36 37) [36,37],omk 4 38]
def r31:RC:=(So Of (Sq (So We (Kc 8 (Kk [2,3,8] (So og .ret)) (Kk [8] .skip))) (Sq (So Wd (Bk 0 (So Wc (Kc 11 (Kk [10,11] (So Wb .ret)) (Kk [11] (So Wa (Kc 17 (Kk [17] (Sq (Sq (.flt [0,1,0,7,15,31,63,127,255] [] V9 [19,20,21,22,23,24,25,26]) (Kc 27 (Kk [2,3,27] (So og .ret)) (Kk [27] .skip))) (So V8 (So Iu (Kc 33 (Kk [33] (So It .ret)) (Kk [2,5,33] .skip)))))) (Kk [2,3,17] .skip)))))))) (So og .ret))))
def F31:FnC:=⟨r31,39,[.tmp 4],[],[]⟩
def js:List RI:=[oo 2 (Mc 0) [2]]
def V7:List RI:=[om 3 0,oo 4 (Bc .lss 3 0) [3],omk 5 4,.grp 5 false [(xi 6 5 false (Mv 0)),(xi 7 5 false (Bc .geq 6 5))] [6],oo 8 (Pt 5 7) [5,7]]
def wn:List RI:=[on 2 (Mc (-1))]
def V6:List RI:=[omk 9 0,oo 10 (.iaddrA 5 1 (.c (.pp oH)) (.t 9)) [9],oo 11 (Ld 10) [10],omk 2 11]
def r33:RC:=(So js (Sq (So V7 (Kc 8 (Kk [0,8] (So wn .ret)) (Kk [8] .skip))) (So V6 .ret)))
def F33:FnC:=⟨r33,12,[.tmp 2],[],[]⟩
def kY:List RI:=[oo 4 (.mov (.c (.byt [] .clip))) [4]]
def V5:List RI:=[omk 5 0,.tks (xs 6 (.s2b (.t 5))) [5],on 7 (.litB [(.c (.u8 32))]),oo 8 (.app [.u8 0] 1 (.t 6) (.t 7)) [6,7],omk 9 1,oo 10 (Ca 85 [.t 9]) [9],oo 11 (.app [.u8 0] 1 (.t 8) (.t 10)) [8,10],omk 4 11]
def r34:RC:=(So kY (So V5 .ret))
def F34:FnC:=⟨r34,12,[.tmp 4],[],[]⟩
def V4:List RI:=[oo 2 (.box (.t 0)) [0],oo 4 (Mb false) [4]]
def V3:List RI:=[on 8 (Lt 4 2),oo 9 (Ca 44 [.t 8]) [8],oo 10 (Bc .neq 9 0) [9]]
def V2:List RI:=[on 11 (Fa 0 2),oo 12 (Ld 11) [11]]
def V1:List RI:=[on 14 (Bc .eql 12 2),omk 13 14]
def V0:List RI:=[omk 15 1,oo 16 (.b2s (.t 15)) [15],oo 17 (Fa 1 2) [2],oo 18 (Ld 17) [17],oo 19 (Bb .eql 16 18) [16,18],omk 4 19]
def VZ:List RI:=[on 21 (Bc .eql 12 3),omk 20 21]
def VY:List RI:=[oo 22 (Fa 1 2) [2],oo 23 (Ld 22) [22],omk 24 1,oo 25 (Ca 86 [.t 23,.t 24]) [23,24],omk 4 25]
def VX:List RI:=[oo 27 (Bc .eql 12 4) [12],omk 26 27]
def VW:List RI:=[omk 29 1,oo 30 (.b2s (.t 29)) [29],on 31 (Fa 1 2),oo 32 (Ld 31) [31],oo 33 (Ca 87 [.t 30,.t 32]) [30,32],omk 28 33,on 34 (.ext (.t 28) 0),oo 35 (.ext (.t 28) 1) [28],omk 5 34,omk 6 35]
def Is:List RI:=[omk 36 5,oo 37 (Ca 88 [.t 36]) [36],omk 7 37]
def Ir:List RI:=[omk 38 6,omk 39 38,.grp 39 true [(xi 40 39 true (Mv 7)),(xi 41 39 true (Fa 2 2)),(xi 42 39 true (Ld 41)),(xi 43 39 true (Bb .geq 40 42))] [40,41,42],oo 44 (Pf 39 43) [39,43],omk 45 44,.grp 45 true [(xi 46 45 true (Mv 7)),(xi 47 45 true (Fa 3 2)),(xi 48 45 true (Ld 47)),(xi 49 45 true (Bb .leq 46 48))] [2,7,46,47,48],oo 50 (Pf 45 49) [45,49],omk 4 50]
def r35:RC:=(So V4 (Sq (So V3 (Kc 10 (Kk [1,2,10] (So oh .ret)) (Kk [10] .skip))) (Sq (So V2 (Bk 0 (So V1 (Kc 13 (Kk [12,13] (So V0 .ret)) (Kk [13] (So VZ (Kc 20 (Kk [12,20] (So VY .ret)) (Kk [20] (So VX (Kc 26 (Kk [26] (So VW (So Is (So Ir .ret)))) (Kk [1,2,26] .skip))))))))))) (So tx .ret))))
def F35:FnC:=⟨r35,51,[.tmp 4],[],[]⟩
def Oe:List RI:=[on 6 (.new (.rc Zq1))]
def VV:List RI:=[omk 10 0,omk 11 1,oo 12 (.build Zq1 [(0,1,(.t 10)),(1,1,(.t 11)),(4,1,(ci 1099511627776))]) [10,11],on 7 (.new (.rc Zq1)),Sr 7 7 12 [12]]
def VU:List RI:=[omk 13 2,on 14 (Ln 13),on 15 (Mc 0)]
def VT:List RI:=[on 16 (Bb .lss 15 14)]
def VS:List RI:=[on 17 (Ia 4 13 15),oo 18 (Lt 4 17) [17],on 9 (.new (.rc Zq0)),Sr 4 9 18 [18]]
def VR:List RI:=[on 19 (Lt 4 9),oo 20 (Ca 89 [.t 19]) [19],oo 21 (Bc .eql 20 0) [20],omk 22 21,.grp 22 true [(xi 23 22 true (Fa 0 9)),(xi 24 22 true (Ld 23)),(xi 25 22 true (Bc .neq 24 4))] [23,24],oo 26 (Pf 22 25) [22,25]]
def VQ:List FI:=[Fs 0 27 (Fa 5 7),Fs 1 28 (Ld 27),Fs 2 29 (Fa 0 9),Fs 3 30 (Ld 29),Fs 4 31 (Fa 1 9),Fs 5 32 (Ld 31),Fs 6 33 (Fa 2 9),Fs 7 34 (Ld 33),Fs 8 35 (Lt 4 9),Fz 9 36 (Ca 91 [.t 35]),Fz 10 37 (Ca 90 [ci 1,.t 36]),Fs 11 38 (.build Zq0 [(0,1,(.t 30)),(1,1,(.t 32)),(2,1,(.t 34)),(3,1,(.t 37))]),Fs 12 39 (.lit 4 [.t 38]),Fz 13 40 (.appO Zq0 56 (.t 28) (.t 39)),Fs 14 41 (Fa 5 7),Fr 15 1 41 40]
def VP:List RI:=[oo 42 (Bc .add 15 1) [15],omk 15 42]
def OF:RC:=(.post (So VT (Sq (Kc 16 (Kk [16] .skip) (Kk [13,14,15,16] (.exit 0))) (Sq (Bk 1 (So VS (So VR (Kc 26 (Kk [26] (.flt [0,1,0,4,0,16,0,64,0,256,768,2044,4092,8191,16383,32767] [140] VQ [9,27,28,29,30,31,32,33,34,35,36,37,38,39,40,41])) (Kk [9,26] .skip))))) (.ops VP)))) [.gc [109]])
def Od:RC:=OF
def VO:List RI:=[on 43 (Fa 5 7),oo 44 (Ld 43) [43],oo 45 (Ca 92 [.t 44,(.f 43)]) [44,45]]
def Iq:List RI:=[on 46 (Fa 5 7),oo 47 (Ld 46) [46],oo 48 (Ca 93 [.t 47,(.f 94)]) [47],on 49 (Fa 5 7),Sr 1 49 48 [48,49]]
def Ip:List RI:=[oo 50 (Lt 7 7) [7],Sr 7 6 50 [50]]
def r37:RC:=(So Oe (So VV (Sq (So VU (Bk 0 (.loop Od))) (So VO (So Iq (So Ip .ret))))))
def F37:FnC:=⟨r37,51,[.cell 6 7 true],[0],[]⟩
def VN:List RI:=[omk 12 0,omk 13 1,oo 14 (.build Zq1 [(0,1,(.t 12)),(1,1,(.t 13)),(4,1,(ci 1099511627776))]) [12,13],on 7 (.new (.rc Zq1)),Sr 7 7 14 [14]]
def VM:List RI:=[om 15 8,om 16 2,oo 17 (Ln 16) [16],oo 18 (Bb .lss 15 17) [15,17]]
def VL:List RI:=[om 21 2,om 22 8,oo 23 (Ia 4 21 22) [21,22],oo 24 (Lt 4 23) [23],oo 25 (Ca 95 [.t 24]) [24],omk 9 25]
def VK:List RI:=[om 26 9,oo 27 (Ln 26) [26],oo 28 (Bc .eql 27 0) [27],omk 29 28,.grp 29 false [(xi 30 29 false (Mv 2)),(xi 31 29 false (Mv 8)),(xi 32 29 false (Ia 4 30 31)),(xi 33 29 false (Fa 0 32)),(xi 34 29 false (Ld 33)),(xi 35 29 false (Bc .eql 34 4))] [30,31,32,33,34],oo 36 (Pt 29 35) [29,35]]
def VJ:List FI:=[Fm 0 37 2,Fm 1 38 8,Fs 2 39 (Ia 4 37 38),Fs 3 40 (Fa 0 39),Fs 4 41 (Ld 40),Fm 5 42 2,Fm 6 43 8,Fs 7 44 (Ia 4 42 43),Fs 8 45 (Fa 1 44),Fs 9 46 (Ld 45),Fm 10 47 2,Fm 11 48 8,Fs 12 49 (Ia 4 47 48),Fs 13 50 (Fa 2 49),Fs 14 51 (Ld 50),Fm 15 52 9,Fz 16 53 (Ca 65 [.t 52]),Fs 17 54 (.build Zq0 [(0,1,(.t 41)),(1,1,(.t 46)),(2,1,(.t 51)),(3,1,(.t 53))]),Fz 18 10 (.new (.rc Zq0)),Fr 19 4 10 54]
def VI:List RI:=[on 11 (Mc 0)]
def VH:List FI:=[Fm 0 55 11,Fs 1 56 (Fa 5 7),Fs 2 57 (Ld 56),Fs 3 58 (Ln 57),Fs 4 59 (Bb .lss 55 58),Fm 5 60 59,Fi 6 61 60 true (Fa 5 7),Fi 7 62 60 true (Ld 61),Fi 8 63 60 true (Mv 11),Fi 9 64 60 true (Ia 4 62 63),Fi 10 65 60 true (Lt 4 64),Fi 11 66 60 true (Lt 4 10),Fy 12 67 60 true (Ca 46 [.t 65,.t 66]),Fs 13 68 (Pf 60 67)]
def VG:List RI:=[omk 69 11,oo 70 (Bc .add 69 1) [69],omk 11 70]
def yY:RC:=(Sq (Sq (.flt [0,0,2,6,15,31,63,127,63,511,1023,63,4095,8191] [] VH [55,56,57,58,59,60,61,62,63,64,65,66,67]) (Kc 68 (Kk [68] .skip) (Kk [68] (.exit 2)))) (Bk 3 (.ops VG)))
def xY:RC:=yY
def Io:List FI:=[Fm 0 71 11,Fs 1 72 (Fa 5 7),Fs 2 73 (Ld 72),Fs 3 74 (Ln 73),Fs 4 75 (Bb .lss 71 74),Fm 5 76 75,Fi 6 77 76 true (Lt 4 10),Fi 7 78 76 true (Fa 5 7),Fi 8 79 76 true (Ld 78),Fi 9 80 76 true (Mv 11),Fi 10 81 76 true (Ia 4 79 80),Fi 11 82 76 true (Lt 4 81),Fy 12 83 76 true (Ca 46 [.t 77,.t 82]),Fi 13 84 76 true (.un .not (.t 83)),Fs 14 85 (Pf 76 84)]
def In:List FI:=[Fs 0 86 (.lit 4 []),Fs 1 87 (Fa 5 7),Fs 2 88 (Ld 87),Fm 3 89 11,Fs 4 90 (.slcL 4 (.t 88) none (some (.t 89)) none),Fs 6 92 (Lt 4 10),Fs 7 93 (.lit 4 [.t 92]),Fs 9 95 (Fa 5 7),Fs 10 96 (Ld 95),Fm 11 97 11,Fs 12 98 (.slcL 4 (.t 96) (some (.t 97)) none none),Fz 5 91 (.app Zq0 56 (.t 86) (.t 90)),Fz 8 94 (.app Zq0 56 (.t 91) (.t 93)),Fz 13 99 (.app Zq0 56 (.t 94) (.t 98)),Fs 14 100 (Fa 5 7),Fr 15 1 100 99]
def Im:List RI:=[omk 19 8,oo 20 (Bc .add 19 1) [19],omk 8 20]
def yX:RC:=(.post (Sq (So VM (Kc 18 (Kk [18] .skip) (Kk [2,8,18] (.exit 0)))) (Sq (Bk 1 (So VL (Sq (So VK (Kc 36 (Kk [9,36] (.exit 1)) (Kk [36] .skip))) (Sq (.fla [0,0,3,7,15,0,0,96,224,480,0,0,3072,7168,15360,0,32768,131071,0,524287] [110] VJ [[0,1,2,3,4,5,6,7,8,9,10,11,12,13,14,15,16,17,18,19],[0,1,2,3,4,5,6,7,8,9,10,11,12,13,14,15,18,16,17,19]] [9,37,38,39,40,41,42,43,44,45,46,47,48,49,50,51,52,53,54]) (So VI (Sq (Bk 2 (.loop xY)) (Sq (Sq (.flt [0,0,2,6,15,31,63,63,191,63,959,1983,4095,8191,16383] [] Io [71,72,73,74,75,76,77,78,79,80,81,82,83,84]) (Kc 85 (Kk [10,11,85] (.exit 1)) (Kk [85] .skip))) (.flt [0,0,2,0,14,31,0,64,255,0,512,0,3584,8191,16383,32767] [191,194,199] In [10,11,86,87,88,89,90,91,92,93,94,95,96,97,98,99,100])))))))) (.ops Im))) [.gc [110,191,194,199]])
def lw:RC:=yX
def Il:List RI:=[oo 101 (Lt 7 7) [7],Sr 7 6 101 [101]]
def r38:RC:=(So Oe (So VN (Sq (So pS (Bk 0 (.loop lw))) (So Il .ret))))
def F38:FnC:=⟨r38,102,[.cell 6 7 true],[0],[]⟩
def VF:List RI:=[oo 2 (.box (.t 0)) [0],on 4 (.new (.rc Zq2))]
def VE:List RI:=[on 5 (Lt 4 2),oo 6 (Ca 100 [.t 5]) [5],oo 7 (Bc .neq 6 0) [6],omk 8 7,.grp 8 false [(xi 9 8 false (Fa 0 2)),(xi 10 8 false (Ld 9)),(xi 11 8 false (Bc .eql 10 4))] [9,10],oo 12 (Pt 8 11) [8,11]]
def VD:List RI:=[on 13 (.build Zq2 []),Sr 4 4 13 [13]]
def VC:List FI:=[Fs 0 14 (Fa 0 2),Fs 1 15 (Ld 14),Fs 3 17 (Lt 4 2),Fm 4 18 1,Fs 6 20 (Fa 1 2),Fs 7 21 (Ld 20),Fs 8 22 (Fa 2 2),Fs 9 23 (Ld 22),Fz 2 16 (Ca 82 [.t 15]),Fz 5 19 (Ca 101 [.t 17,.t 18]),Fz 10 24 (Ca 34 [.t 21,.t 23]),Fs 11 25 (.build Zq2 [(0,1,(.t 16)),(1,1,(ci 1)),(2,1,(.t 19)),(3,1,(.t 24))]),Fr 12 4 4 25]
def r40:RC:=(So VF (Sq (So VE (Kc 12 (Kk [1,2,12] (So VD .ret)) (Kk [12] .skip))) (Sq (.flt [0,1,3,0,0,31,0,64,0,256,1023,2047,4095] [] VC [1,2,14,15,16,17,18,19,20,21,22,23,24,25]) .ret)))
def F40:FnC:=⟨r40,26,[.cell 4 4 true],[],[]⟩
def VB:List RI:=[om 8 0,oo 9 (Ca 71 [.t 8,ci 4]) [8],omk 5 9]
def VA:List RI:=[on 10 (Ca 102 []),om 11 0,oo 12 (Ca 71 [.t 11,ci 3]) [11],oo 13 (.idxA 3 1 false (.t 10) (.t 12)) [10,12],om 14 5,omk 15 1,oo 16 (Ca 38 [.t 13,.t 14,.t 15]) [13,14,15],on 6 (.new (.rc Zq1)),Sr 7 6 16 [16]]
def Vz:List RI:=[om 17 0,oo 18 (Ca 71 [.t 17,ci 3]) [17],oo 19 (Bc .eql 18 1) [18]]
def Vy:List FI:=[Fs 0 20 (Fa 5 6),Fs 1 21 (Ld 20),Fm 2 22 0,Fs 3 23 (Fa 5 6),Fs 4 24 (Ld 23),Fs 5 25 (Ln 24),Fs 6 26 (Bc .add 25 1),Fz 7 27 (Ca 71 [.t 22,.t 26]),Fs 8 28 (.slcL 4 (.t 21) none (some (.t 27)) none),Fs 9 29 (Fa 5 6),Fr 10 1 29 28]
def Vx:List RI:=[om 30 0,omk 31 5,oo 32 (Bc .add 31 1) [31],oo 33 (Ca 71 [.t 30,.t 32]) [30,32],on 34 (Fa 2 6),Sr 1 34 33 [33,34]]
def Vw:List RI:=[om 35 0,oo 36 (Ca 71 [.t 35,ci 12]) [35],on 37 (Fa 3 6),Sr 1 37 36 [36,37]]
def Vv:List FI:=[Fs 0 38 (Fa 3 6),Fs 1 39 (Ld 38),Fs 2 40 (Bc .add 39 1),Fm 3 41 0,Fz 4 42 (Ca 71 [.t 41,ci 30]),Fs 5 43 (Bb .add 40 42),Fs 6 44 (Fa 4 6),Fr 7 1 44 43]
def Vu:List RI:=[om 45 0,oo 46 (Ca 71 [.t 45,ci 2]) [45],oo 47 (Bc .eql 46 0) [46]]
def Vt:List RI:=[on 48 (Fa 4 6),.op ⟨none,none,.store 1 (.t 48) (ci 1099511627776)⟩ [48]]
def Ik:List RI:=[om 49 0,oo 50 (Ca 71 [.t 49,ci 4]) [49],omk 7 50]
def Ij:List RI:=[om 51 7,oo 52 (Bc .gtr 51 0) [51]]
def Ii:List FI:=[Fs 0 55 (Fa 6 6),Fs 1 56 (Ld 55),Fm 2 57 0,Fz 3 58 (Ca 103 [.t 57]),Fs 4 59 (.lit 4 [.t 58]),Fz 5 60 (.app Zq3 40 (.t 56) (.t 59)),Fs 6 61 (Fa 6 6),Fr 7 1 61 60]
def Ih:List RI:=[omk 53 7,oo 54 (Bc .sub 53 1) [53],omk 7 54]
def yW:RC:=(Sq (So Ij (Kc 52 (Kk [52] .skip) (Kk [0,7,52] (.exit 0)))) (Sq (Bk 1 (.flt [0,1,0,4,12,31,63,127] [160] Ii [55,56,57,58,59,60,61])) (.ops Ih)))
def xX:RC:=yW
def Ig:List RI:=[oo 62 (Lt 7 6) [6],Sr 7 4 62 [62]]
def r41:RC:=(So Ok (So VB (So VA (Sq (So Vz (Kc 19 (Kk [19] (.flt [0,1,0,0,8,24,56,124,255,511,1023] [] Vy [20,21,22,23,24,25,26,27,28,29])) (Kk [19] .skip))) (So Vx (So Vw (Sq (.flt [0,1,3,0,8,31,63,127] [] Vv [38,39,40,41,42,43,44]) (Sq (So Vu (Kc 47 (Kk [47] (.ops Vt)) (Kk [47] .skip))) (Sq (So Ik (Bk 0 (.loop xX))) (So Ig .ret))))))))))
def F41:FnC:=⟨r41,63,[.cell 4 7 true],[],[]⟩
def wm:List RI:=[oo 2 (Mb false) [2]]
def Vs:List RI:=[omk 3 0,oo 4 (.build Zq0 [(0,1,(ci 1)),(1,1,(.t 3))]) [3],oo 5 (Ca 89 [.t 4]) [4],oo 6 (Bc .eql 5 0) [5],omk 2 6]
def r42:RC:=(So wm (So Vs .ret))
def F42:FnC:=⟨r42,7,[.tmp 2],[],[]⟩
def Vr:List FI:=[Fs 0 5 (Fa 0 2),Fs 1 6 (Ld 5),Fs 2 7 (Fa 0 3),Fs 3 8 (Ld 7),Fs 5 10 (Fa 1 2),Fs 6 11 (Ld 10),Fs 7 12 (Fa 1 3),Fs 8 13 (Ld 12),Fs 10 15 (Fa 2 2),Fs 11 16 (Ld 15),Fs 12 17 (Fa 2 3),Fs 13 18 (Ld 17),Fs 15 20 (Fa 3 2),Fs 16 21 (Ld 20),Fs 17 22 (Fa 3 3),Fs 18 23 (Ld 22),Fz 4 9 (Ca 105 [.t 6,.t 8]),Fz 9 14 (Ca 106 [.t 11,.t 13]),Fz 14 19 (Ca 105 [.t 16,.t 18]),Fz 19 24 (Ca 107 [.t 21,.t 23]),Fs 20 25 (.lit 1 [.t 9,.t 14,.t 19,.t 24]),Fz 21 26 (Ca 104 [.t 25]),Fm 22 4 26]
def r43:RC:=(So Of (Sq (.flt [0,1,0,4,15,0,32,0,128,511,0,1024,0,4096,16383,0,32768,0,131072,524287,1048575,2097151,4194303] [] Vr [2,3,5,6,7,8,9,10,11,12,13,14,15,16,17,18,19,20,21,22,23,24,25,26]) .ret))
def F43:FnC:=⟨r43,27,[.tmp 4],[],[]⟩
def Vq:List RI:=[on 5 (Fa 0 1),oo 6 (Ld 5) [5],oo 7 (Bc .lss 6 1) [6],omk 8 7,.grp 8 false [(xi 9 8 false (Fa 0 1)),(xi 10 8 false (Ld 9)),(xi 11 8 false (Bc .gtr 10 4))] [9,10],oo 12 (Pt 8 11) [8,11]]
def Vp:List RI:=[on 13 (Fa 1 1),oo 14 (Ld 13) [13],oo 15 (.len true (.t 14)) [14],on 16 (Mc 0)]
def Vo:List RI:=[on 17 (Bb .lss 16 15)]
def Vn:List RI:=[om 18 16,omk 3 18]
def Vm:List RI:=[on 19 (Fa 1 1),oo 20 (Ld 19) [19],omk 21 3,oo 22 (.idxS (.t 20) (.t 21)) [20,21],omk 4 22]
def Vl:List RI:=[om 23 4,oo 24 (.bin .lss (.t 23) (.c (.u8 32))) [23],omk 25 24,.grp 25 false [(xi 26 25 false (Mv 4)),(xi 27 25 false (.bin .gtr (.t 26) (.c (.u8 126))))] [4,26],oo 28 (Pt 25 27) [25,27]]
def Vk:List RI:=[oo 29 (Bc .add 16 1) [16],omk 16 29]
def yV:RC:=(So Vo (Sq (Kc 17 (Kk [17] .skip) (Kk [15,16,17] (.exit 0))) (Sq (Bk 1 (So Vn (So Vm (So Vl (Kc 28 (Kk [1,15,16,28] (So ks .ret)) (Kk [28] .skip)))))) (.ops Vk))))
def xW:RC:=yV
def If:List RI:=[on 31 (Fa 0 1),oo 32 (Ld 31) [31],oo 33 (Bc .eql 32 4) [32],omk 34 33,.grp 34 true [(xi 35 34 true (Fa 2 1)),(xi 36 34 true (Ld 35)),(xi 37 34 true (Bc .lss 36 0)),(xi 38 34 true (Mv 37))] [35,36,37],.grp 38 false [(xi 39 38 false (Fa 2 1)),(xi 40 38 false (Ld 39)),(xi 41 38 false (Fa 3 1)),(xi 42 38 false (Ld 41)),(xi 43 38 false (Bb .gtr 40 42))] [39,40,41,42],.grp 34 true [(xi 44 34 true (Pt 38 43)),(xi 45 34 true (Mv 44))] [38,43,44],.grp 45 false [(xi 46 45 false (Fa 3 1)),(xi 47 45 false (Ld 46)),(xi 48 45 false (Bc .gtr 47 1000000000))] [46,47],.grp 34 true [(xi 49 34 true (Pt 45 48))] [45,48],oo 50 (Pf 34 49) [34,49],omk 30 50]
def Ie:List RI:=[on 52 (Fa 0 1),oo 53 (Ld 52) [52],oo 54 (Bc .neq 53 4) [53],omk 55 54,.grp 55 true [(xi 56 55 true (Fa 2 1)),(xi 57 55 true (Ld 56)),(xi 58 55 true (Bc .neq 57 0)),(xi 59 55 true (Mv 58))] [56,57,58],.grp 59 false [(xi 60 59 false (Fa 3 1)),(xi 61 59 false (Ld 60)),(xi 62 59 false (Bc .neq 61 0))] [60,61],.grp 55 true [(xi 63 55 true (Pt 59 62))] [59,62],oo 64 (Pf 55 63) [55,63],omk 51 64]
def Ic:List RI:=[on 66 (Fa 0 1),oo 67 (Ld 66) [66],oo 68 (Bc .eql 67 1) [67],omk 69 68,.grp 69 true [(xi 70 69 true (Fa 1 1)),(xi 71 69 true (Ld 70)),(xi 72 69 true (.bin .neq (.t 71) (.c (.str []))))] [70,71],oo 73 (Pf 69 72) [69,72],omk 65 73]
def Ib:List RI:=[oo 75 (Fa 1 1) [1],oo 76 (Ld 75) [75],oo 77 (.len true (.t 76)) [76],oo 78 (Bc .gtr 77 32) [77],omk 74 78]
def r44:RC:=(So wv (Sq (So Vq (Kc 12 (Kk [1,12] (So ks .ret)) (Kk [12] .skip))) (Sq (So Vp (Bk 0 (.loop xW))) (Sq (Bk 2 (So If (Kc 30 (Kk [1,30] (So ks .ret)) (Kk [30] (So Ie (Kc 51 (Kk [1,51] (So ks .ret)) (Kk [51] (So Ic (Kc 65 (Kk [1,65] (So ks .ret)) (Kk [65] (So Ib (Kc 74 (Kk [74] (So tC .ret)) (Kk [74] .skip))))))))))))) (So jt .ret)))))
def F44:FnC:=⟨r44,79,[.tmp 2],[],[]⟩
def Vj:List RI:=[om 5 0,oo 6 (.len true (.t 5)) [5],oo 7 (Bc .lss 6 1) [6],omk 8 7,.grp 8 false [(xi 9 8 false (Mv 0)),(xi 10 8 false (.len true (.t 9))),(xi 11 8 false (Bc .gtr 10 12))] [9,10],oo 12 (Pt 8 11) [8,11]]
def ni:List RI:=[on 2 (Mb false)]
def Oc:List RI:=[on 3 (Mc 0)]
def Vi:List RI:=[om 13 3,om 14 0,oo 15 (.len true (.t 14)) [14],oo 16 (Bb .lss 13 15) [13,15]]
def Vh:List RI:=[om 19 0,om 20 3,oo 21 (.idxS (.t 19) (.t 20)) [19,20],omk 4 21]
def Vg:List RI:=[om 22 4,oo 23 (.bin .lss (.t 22) (.c (.u8 97))) [22],omk 24 23,.grp 24 false [(xi 25 24 false (Mv 4)),(xi 26 24 false (.bin .gtr (.t 25) (.c (.u8 122))))] [25],oo 27 (Pt 24 26) [24,26],omk 28 27,.grp 28 true [(xi 29 28 true (Mv 4)),(xi 30 28 true (.bin .lss (.t 29) (.c (.u8 48)))),(xi 31 28 true (Mv 30))] [29,30],.grp 31 false [(xi 32 31 false (Mv 4)),(xi 33 31 false (.bin .gtr (.t 32) (.c (.u8 57))))] [32],.grp 28 true [(xi 34 28 true (Pt 31 33))] [31,33],oo 35 (Pf 28 34) [28,34],omk 36 35,.grp 36 true [(xi 37 36 true (Mv 4)),(xi 38 36 true (.bin .neq (.t 37) (.c (.u8 45))))] [4,37],oo 39 (Pf 36 38) [36,38]]
def Vf:List RI:=[omk 17 3,oo 18 (Bc .add 17 1) [17],omk 3 18]
def OE:RC:=(Sq (So Vi (Kc 16 (Kk [16] .skip) (Kk [0,3,16] (.exit 0)))) (Sq (Bk 1 (So Vh (So Vg (Kc 39 (Kk [0,3,39] (So ni .ret)) (Kk [39] .skip))))) (.ops Vf)))
def Ob:RC:=OE
def pQ:List RI:=[on 2 (Mb true)]
def r45:RC:=(So wm (Sq (So Vj (Kc 12 (Kk [0,12] (So ni .ret)) (Kk [12] .skip))) (Sq (So Oc (Bk 0 (.loop Ob))) (So pQ .ret))))
def F45:FnC:=⟨r45,40,[.tmp 2],[],[]⟩
def Ve:List RI:=[on 5 (Fa 0 2),oo 6 (Ld 5) [5],on 7 (Fa 0 3),oo 8 (Ld 7) [7],oo 9 (Bb .neq 6 8) [6,8]]
def Vd:List RI:=[oo 10 (Fa 0 2) [2],oo 11 (Ld 10) [10],oo 12 (Fa 0 3) [3],oo 13 (Ld 12) [12],oo 14 (Bb .lss 11 13) [11,13],omk 4 14]
def Vc:List RI:=[on 15 (Fa 1 2),oo 16 (Ld 15) [15],on 17 (Fa 1 3),oo 18 (Ld 17) [17],oo 19 (Bb .neq 16 18) [16,18]]
def Vb:List RI:=[oo 20 (Fa 1 2) [2],oo 21 (Ld 20) [20],oo 22 (Fa 1 3) [3],oo 23 (Ld 22) [22],oo 24 (Bb .lss 21 23) [21,23],omk 4 24]
def Va:List RI:=[on 25 (Fa 2 2),oo 26 (Ld 25) [25],on 27 (Fa 2 3),oo 28 (Ld 27) [27],oo 29 (Bb .neq 26 28) [26,28]]
def U9:List RI:=[oo 30 (Fa 2 2) [2],oo 31 (Ld 30) [30],oo 32 (Fa 2 3) [3],oo 33 (Ld 32) [32],oo 34 (Bb .lss 31 33) [31,33],omk 4 34]
def U8:List RI:=[oo 35 (Fa 3 2) [2],oo 36 (Ld 35) [35],oo 37 (Fa 3 3) [3],oo 38 (Ld 37) [37],oo 39 (Ca 108 [.t 36,.t 38]) [36,38],omk 4 39]
def r46:RC:=(So DX (Sq (So Ve (Kc 9 (Kk [9] (So Vd .ret)) (Kk [9] .skip))) (Sq (So Vc (Kc 19 (Kk [19] (So Vb .ret)) (Kk [19] .skip))) (Sq (So Va (Kc 29 (Kk [29] (So U9 .ret)) (Kk [29] .skip))) (So U8 .ret)))))
def F46:FnC:=⟨r46,40,[.tmp 4],[],[]⟩
def Oa:List RI:=[oo 6 (.mov (.c (.byt [] .clip))) [6]]
def U7:List RI:=[omk 9 0,oo 10 (.app [.u8 0] 1 (.c (.byt [] .clip)) (.t 9)) [9],omk 7 10]
def U6:List RI:=[om 11 1,oo 12 (Bc .lss 11 1) [11],omk 13 12,.grp 13 false [(xi 14 13 false (Mv 1)),(xi 15 13 false (Bc .gtr 14 8))] [14],oo 16 (Pt 13 15) [13,15]]
def U5:List RI:=[omk 17 7,omk 6 17]
def U4:List RI:=[omk 18 1,oo 19 (Bc .sub 18 1) [18],omk 8 19]
def U3:List RI:=[om 20 8,oo 21 (Bc .geq 20 0) [20]]
def U2:List RI:=[omk 24 7,om 25 2,oo 26 (.toInt .u64 (.t 25)) [25],om 27 8,oo 28 (.bin .mul (ci 8) (.t 27)) [27],oo 29 (.toInt .u64 (.t 28)) [28],oo 30 (Bb .shr 26 29) [26,29],oo 31 (.toInt .u8 (.t 30)) [30],oo 32 (.litB [.t 31]) [31],oo 33 (.app [.u8 0] 1 (.t 24) (.t 32)) [24,32],omk 7 33]
def U1:List RI:=[omk 22 8,oo 23 (Bc .sub 22 1) [22],omk 8 23]
def OD:RC:=(.post (Sq (So U3 (Kc 21 (Kk [21] .skip) (Kk [2,8,21] (.exit 0)))) (Sq (Bk 1 (.ops U2)) (.ops U1))) [.tok 7 107])
def N9:RC:=OD
def U0:List RI:=[omk 34 7,omk 6 34]
def r48:RC:=(So Oa (So U7 (Sq (So U6 (Kc 16 (Kk [1,2,16] (So U5 .ret)) (Kk [16] .skip))) (Sq (So U4 (Bk 0 (.pre [.tok 7 107] (.loop N9)))) (So U0 .ret)))))
def F48:FnC:=⟨r48,35,[.tmp 6],[0],[]⟩
def UZ:List RI:=[om 5 1,omk 6 1,oo 7 (Ln 6) [6],oo 8 (.mini (.t 7) (ci 65535)) [7],oo 9 (.slcL 1 (.t 5) none (some (.t 8)) none) [5,8],omk 1 9]
def UY:List RI:=[omk 10 0,om 11 1,oo 12 (Ln 11) [11],oo 13 (Ca 48 [.t 10,ci 2,.t 12]) [10,12],omk 14 1,oo 15 (.app [.u8 0] 1 (.t 13) (.t 14)) [13,14],omk 4 15]
def r49:RC:=(So kY (So UZ (So UY .ret)))
def F49:FnC:=⟨r49,16,[.tmp 4],[0],[]⟩
def UX:List RI:=[oo 2 (.mov (.c .nilp)) [2]]
def UW:List RI:=[omk 3 0,oo 4 (.app [.u8 0] 1 (.c (.byt [] .clip)) (.t 3)) [3],oo 5 (.build [.byt [] .clip,.int .i64 0,.int .i64 0] [(0,1,(.t 4))]) [4],oo 6 (.box (.t 5)) [5],omk 2 6]
def r50:RC:=(So UX (So UW .ret))
def F50:FnC:=⟨r50,7,[.tmp 2],[],[]⟩
def N8:List RI:=[om 10 0,oo 11 (.nchk (.t 10)) [10],oo 12 (Fa 2 11) [11],oo 13 (Ld 12) [12],oo 14 (Bc .neq 13 0) [13]]
def UV:List RI:=[om 15 1,oo 16 (Bc .lss 15 1) [15],omk 17 16,.grp 17 false [(xi 18 17 false (Mv 1)),(xi 19 17 false (Bc .gtr 18 8))] [18],oo 20 (Pt 17 19) [17,19]]
def UU:List RI:=[omk 21 0,oo 22 (Ca 109 [.t 21,ci 1]) [21,22]]
def UT:List RI:=[om 24 0,om 25 0,oo 26 (.nchk (.t 25)) [25],oo 27 (Fa 1 26) [26],oo 28 (Ld 27) [27],om 29 1,oo 30 (Ca 110 [.t 24,.t 28,.t 29]) [24,28,29],omk 23 30,on 31 (.ext (.t 23) 0),oo 32 (.ext (.t 23) 1) [23],omk 5 31,omk 6 32]
def US:List RI:=[om 33 6,oo 34 (Bc .neq 33 0) [33]]
def UR:List RI:=[omk 35 0,omk 36 6,oo 37 (Ca 109 [.t 35,.t 36]) [35,36,37]]
def H9:List RI:=[on 7 (.mov (.c (.int .u64 0)))]
def H8:List RI:=[omk 38 5,on 39 (Ln 38),on 40 (Mc 0)]
def H7:List RI:=[on 41 (Bb .lss 40 39)]
def H6:List RI:=[on 42 (Ia 1 38 40),oo 43 (Ld 42) [42],omk 9 43]
def H5:List RI:=[omk 44 7,oo 45 (.bin .shl (.t 44) (.c (.int .u64 8))) [44],omk 46 9,oo 47 (.toInt .u64 (.t 46)) [46],oo 48 (Bb .or 45 47) [45,47],omk 7 48]
def H4:List RI:=[oo 49 (Bc .add 40 1) [40],omk 40 49]
def yU:RC:=(So H7 (Sq (Kc 41 (Kk [41] .skip) (Kk [38,39,40,41] (.exit 0))) (Sq (Bk 1 (So H6 (.ops H5))) (.ops H4))))
def xV:RC:=yU
def H3:List RI:=[om 50 7,oo 51 (.bin .gtr (.t 50) (.c (.int .u64 9223372036854775807))) [50]]
def H2:List RI:=[omk 52 0,oo 53 (Ca 109 [.t 52,ci 4]) [52,53]]
def HZ:List RI:=[omk 54 0,on 55 (.nchk (.t 54)),oo 56 (Fa 1 55) [55],oo 57 (Ld 56) [56],omk 58 1,oo 59 (Bb .add 57 58) [57,58],oo 60 (.nchk (.t 54)) [54],oo 61 (Fa 1 60) [60],Sr 1 61 59 [59,61]]
def HY:List RI:=[omk 62 7,oo 63 (.toInt .i64 (.t 62)) [62],omk 4 63]
def r51:RC:=(So oi (Sq (So N8 (Kc 14 (Kk [0,1,14] (So lF .ret)) (Kk [14] .skip))) (Sq (So UV (Kc 20 (Kk [1,20] (So UU (So lF .ret))) (Kk [20] .skip))) (So UT (Sq (So US (Kc 34 (Kk [1,5,34] (So UR (So lF .ret))) (Kk [6,34] .skip))) (So H9 (Sq (So H8 (Bk 0 (.loop xV))) (Sq (So H3 (Kc 51 (Kk [1,7,51] (So H2 (So lF .ret))) (Kk [51] .skip))) (So HZ (So HY .ret))))))))))
def F51:FnC:=⟨r51,64,[.tmp 4],[],[]⟩
def kr:List RI:=[on 4 (.mov (.c (.byt [] .clip)))]
def UQ:List RI:=[om 15 0,oo 16 (.mkfn 110 [.t 15] []) [15],omk 5 16]
def UP:List RI:=[om 18 5,om 19 0,oo 20 (.nchk (.t 19)) [19],oo 21 (Fa 1 20) [20],oo 22 (Ld 21) [21],oo 23 (.call (.t 18) [.t 22,ci 2]) [18,22],omk 17 23,on 24 (.ext (.t 17) 0),oo 25 (.ext (.t 17) 1) [17],omk 6 24,omk 7 25]
def UO:List RI:=[om 26 7,oo 27 (Bc .neq 26 0) [26]]
def UN:List RI:=[omk 28 0,omk 29 7,oo 30 (Ca 109 [.t 28,.t 29]) [28,29,30]]
def UM:List FI:=[Fm 0 31 6,Fs 1 32 (.iaddrL 1 (.t 31) (ci 0)),Fs 2 33 (Ld 32),Fs 3 34 (.toInt .i64 (.t 33)),Fs 4 35 (.bin .shl (.t 34) (.c (.int .u64 8))),Fm 5 36 6,Fs 6 37 (.iaddrL 1 (.t 36) (ci 1)),Fs 7 38 (Ld 37),Fs 8 39 (.toInt .i64 (.t 38)),Fs 9 40 (Bb .or 35 39),Fm 10 8 40]
def UL:List RI:=[om 41 8,omk 42 1,oo 43 (Bb .gtr 41 42) [41,42]]
def HX:List RI:=[omk 44 0,oo 45 (Ca 109 [.t 44,ci 4]) [44,45]]
def HW:List RI:=[omk 47 5,om 48 0,oo 49 (.nchk (.t 48)) [48],oo 50 (Fa 1 49) [49],oo 51 (Ld 50) [50],oo 52 (Bc .add 51 2) [51],om 53 8,oo 54 (.call (.t 47) [.t 52,.t 53]) [47,52,53],omk 46 54,on 55 (.ext (.t 46) 0),oo 56 (.ext (.t 46) 1) [46],omk 9 55,omk 7 56]
def HV:List RI:=[om 57 7,oo 58 (Bc .neq 57 0) [57]]
def HU:List RI:=[omk 59 0,omk 60 7,oo 61 (Ca 109 [.t 59,.t 60]) [59,60,61]]
def HT:List RI:=[omk 62 0,on 63 (.nchk (.t 62)),oo 64 (Fa 1 63) [63],oo 65 (Ld 64) [64],omk 66 8,oo 67 (.bin .add (ci 2) (.t 66)) [66],oo 68 (Bb .add 65 67) [65,67],oo 69 (.nchk (.t 62)) [62],oo 70 (Fa 1 69) [69],Sr 1 70 68 [68,70]]
def HS:List RI:=[omk 71 9,oo 72 (.app [.u8 0] 1 (.c (.byt [] .clip)) (.t 71)) [71],omk 4 72]
def r52:RC:=(So kY (Sq (So N8 (Kc 14 (Kk [0,1,14] (So kr .ret)) (Kk [14] .skip))) (So UQ (So UP (Sq (So UO (Kc 27 (Kk [1,5,6,27] (So UN (So kr .ret))) (Kk [7,27] .skip))) (Sq (.flt [0,1,3,7,15,0,32,96,224,511,1023] [] UM [6,31,32,33,34,35,36,37,38,39,40]) (Sq (So UL (Kc 43 (Kk [5,8,43] (So HX (So kr .ret))) (Kk [43] .skip))) (So HW (Sq (So HV (Kc 58 (Kk [8,9,58] (So HU (So kr .ret))) (Kk [7,58] .skip))) (So HT (So HS .ret)))))))))))
def F52:FnC:=⟨r52,73,[.tmp 4],[],[]⟩
def UK:List RI:=[omk 3 0,oo 4 (.nchk (.t 3)) [3],oo 5 (Fa 2 4) [4],oo 6 (Ld 5) [5],omk 2 6]
def r53:RC:=(So js (So UK .ret))
def F53:FnC:=⟨r53,7,[.tmp 2],[],[]⟩
def UJ:List RI:=[om 7 0,oo 8 (.nchk (.t 7)) [7],oo 9 (Fa 2 8) [8],oo 10 (Ld 9) [9],oo 11 (Bc .neq 10 0) [10]]
def UI:List RI:=[om 12 1,oo 13 (Bc .lss 12 0) [12]]
def UH:List RI:=[omk 14 0,oo 15 (Ca 109 [.t 14,ci 1]) [14,15]]
def UG:List RI:=[om 17 0,om 18 0,oo 19 (.nchk (.t 18)) [18],oo 20 (Fa 1 19) [19],oo 21 (Ld 20) [20],om 22 1,oo 23 (Ca 110 [.t 17,.t 21,.t 22]) [17,21,22],omk 16 23,on 24 (.ext (.t 16) 0),oo 25 (.ext (.t 16) 1) [16],omk 5 24,omk 6 25]
def UF:List RI:=[om 26 6,oo 27 (Bc .neq 26 0) [26]]
def UE:List RI:=[omk 28 0,omk 29 6,oo 30 (Ca 109 [.t 28,.t 29]) [28,29,30]]
def HR:List RI:=[omk 31 0,on 32 (.nchk (.t 31)),oo 33 (Fa 1 32) [32],oo 34 (Ld 33) [33],omk 35 1,oo 36 (Bb .add 34 35) [34,35],oo 37 (.nchk (.t 31)) [31],oo 38 (Fa 1 37) [37],Sr 1 38 36 [36,38]]
def HQ:List RI:=[omk 39 5,oo 40 (.app [.u8 0] 1 (.c (.byt [] .clip)) (.t 39)) [39],omk 4 40]
def r54:RC:=(So kY (Sq (So UJ (Kc 11 (Kk [0,1,11] (So kr .ret)) (Kk [11] .skip))) (Sq (So UI (Kc 13 (Kk [1,13] (So UH (So kr .ret))) (Kk [13] .skip))) (So UG (Sq (So UF (Kc 27 (Kk [1,5,27] (So UE (So kr .ret))) (Kk [6,27] .skip))) (So HR (So HQ .ret)))))))
def F54:FnC:=⟨r54,41,[.tmp 4],[],[]⟩
def UD:List RI:=[om 3 0,oo 4 (.nchk (.t 3)) [3],oo 5 (Fa 2 4) [4],oo 6 (Ld 5) [5],oo 7 (Bc .eql 6 0) [6],omk 8 7,.grp 8 true [(xi 9 8 true (Mv 0)),(xi 10 8 true (Ca 111 [.t 9])),(xi 11 8 true (Bc .gtr 10 0))] [9,10],oo 12 (Pf 8 11) [8,11]]
def UC:List RI:=[on 2 (Mc 3)]
def UB:List RI:=[omk 13 0,oo 14 (.nchk (.t 13)) [13],oo 15 (Fa 2 14) [14],oo 16 (Ld 15) [15],omk 2 16]
def r55:RC:=(So js (Sq (So UD (Kc 12 (Kk [0,12] (So UC .ret)) (Kk [12] .skip))) (So UB .ret)))
def F55:FnC:=⟨r55,17,[.tmp 2],[],[]⟩
def UA:List RI:=[om 5 1,oo 6 (Ln 5) [5],oo 7 (Bc .gtr 6 65535) [6]]
def Uz:List RI:=[omk 8 1,oo 9 (.slcL 1 (.t 8) none (some (ci 65535)) none) [8],omk 1 9]
def Uy:List RI:=[omk 10 0,om 11 1,oo 12 (Ln 11) [11],oo 13 (Ca 57 [.t 10,ci 2,.t 12]) [10,12],omk 14 1,oo 15 (.app [.u8 0] 1 (.t 13) (.t 14)) [13,14],omk 4 15]
def r56:RC:=(So kY (Sq (So UA (Kc 7 (Kk [7] (.ops Uz)) (Kk [7] .skip))) (So Uy .ret)))
def F56:FnC:=⟨r56,16,[.tmp 4],[0],[]⟩
def Ux:List RI:=[on 9 (.litB []),omk 10 0,oo 11 (.app [.u8 0] 1 (.t 9) (.t 10)) [9,10],omk 7 11]
def Uw:List RI:=[om 12 1,oo 13 (Bc .lss 12 1) [12],omk 14 13,.grp 14 false [(xi 15 14 false (Mv 1)),(xi 16 14 false (Bc .gtr 15 8))] [15],oo 17 (Pt 14 16) [14,16]]
def Uv:List RI:=[omk 18 7,omk 6 18]
def Uu:List RI:=[omk 19 1,oo 20 (Bc .sub 19 1) [19],omk 8 20]
def Ut:List RI:=[om 21 8,oo 22 (Bc .geq 21 0) [21]]
def Us:List RI:=[omk 25 7,om 26 2,oo 27 (.toInt .u64 (.t 26)) [26],om 28 8,oo 29 (.toInt .u64 (.t 28)) [28],oo 30 (.bin .mul (.c (.int .u64 8)) (.t 29)) [29],oo 31 (Bb .shr 27 30) [27,30],oo 32 (.toInt .u8 (.t 31)) [31],oo 33 (.litB [.t 32]) [32],oo 34 (.app [.u8 0] 1 (.t 25) (.t 33)) [25,33],omk 7 34]
def Ur:List RI:=[omk 23 8,oo 24 (Bc .sub 23 1) [23],omk 8 24]
def OC:RC:=(.post (Sq (So Ut (Kc 22 (Kk [22] .skip) (Kk [2,8,22] (.exit 0)))) (Sq (Bk 1 (.ops Us)) (.ops Ur))) [.tok 7 107])
def N7:RC:=OC
def Uq:List RI:=[omk 35 7,omk 6 35]
def r57:RC:=(So Oa (So Ux (Sq (So Uw (Kc 17 (Kk [1,2,17] (So Uv .ret)) (Kk [17] .skip))) (Sq (So Uu (Bk 0 (.pre [.tok 7 107] (.loop N7)))) (So Uq .ret)))))
def F57:FnC:=⟨r57,36,[.tmp 6],[0],[]⟩
def Up:List RI:=[omk 5 0,omk 6 1,oo 7 (Ca 112 [.t 5,.t 6]) [5,6],oo 8 (Ca 90 [ci 1,.t 7]) [7],omk 4 8]
def r58:RC:=(So kY (So Up .ret))
def F58:FnC:=⟨r58,9,[.tmp 4],[],[]⟩
def Uo:List RI:=[on 18 (Ca 115 []),on 3 (.new (.arr 1 (al 64 [.int .u32 0]))),Sr 64 3 18 [18]]
def Un:List RI:=[.own (xs 19 (.lit 1 [(.c (.int .u32 1779033703)),(.c (.int .u32 3144134277)),(.c (.int .u32 1013904242)),(.c (.int .u32 2773480762)),(.c (.int .u32 1359893119)),(.c (.int .u32 2600822924)),(.c (.int .u32 528734635)),(.c (.int .u32 1541459225))])) [],omk 4 19]
def Um:List RI:=[omk 20 0,oo 21 (Ca 116 [.t 20]) [20],omk 5 21]
def tw:List RI:=[on 6 (Mc 0)]
def Ul:List RI:=[om 22 6,om 23 5,oo 24 (Ln 23) [23],oo 25 (Bb .lss 22 24) [22,24]]
def Uk:List RI:=[on 7 (.new (.arr 1 (al 64 [.int .u32 0])))]
def Uj:List RI:=[om 28 8,oo 29 (Bc .lss 28 64) [28]]
def Ui:List RI:=[om 32 8,oo 33 (Bc .lss 32 16) [32]]
def HP:List RI:=[om 34 8,om 35 5,om 36 6,om 37 6,oo 38 (Bc .add 37 64) [37],oo 39 (.slcL 1 (.t 35) (some (.t 36)) (some (.t 38)) none) [35,36,38],om 40 8,oo 41 (Ca 117 [.t 39,.t 40]) [39,40],oo 42 (.iaddrA 64 1 (.t 7) (.t 34)) [34],Sr 1 42 41 [41,42]]
def HO:List FI:=[Fm 0 43 8,Fs 1 44 (Bc .sub 43 15),Fs 2 45 (.iaddrA 64 1 (.t 7) (.t 44)),Fs 3 46 (Ld 45),Fm 5 48 8,Fs 6 49 (Bc .sub 48 15),Fs 7 50 (.iaddrA 64 1 (.t 7) (.t 49)),Fs 8 51 (Ld 50),Fm 11 54 8,Fs 12 55 (Bc .sub 54 15),Fs 13 56 (.iaddrA 64 1 (.t 7) (.t 55)),Fs 14 57 (Ld 56),Fs 15 58 (.bin .shr (.t 57) (.c (.int .u64 3))),Fz 4 47 (Ca 118 [.t 46,(.c (.int .u64 7))]),Fz 9 52 (Ca 118 [.t 51,(.c (.int .u64 18))]),Fs 10 53 (Bb .xor 47 52),Fs 16 59 (Bb .xor 53 58),Fm 17 9 59]
def HN:List FI:=[Fm 0 60 8,Fs 1 61 (Bc .sub 60 2),Fs 2 62 (.iaddrA 64 1 (.t 7) (.t 61)),Fs 3 63 (Ld 62),Fm 5 65 8,Fs 6 66 (Bc .sub 65 2),Fs 7 67 (.iaddrA 64 1 (.t 7) (.t 66)),Fs 8 68 (Ld 67),Fm 11 71 8,Fs 12 72 (Bc .sub 71 2),Fs 13 73 (.iaddrA 64 1 (.t 7) (.t 72)),Fs 14 74 (Ld 73),Fs 15 75 (.bin .shr (.t 74) (.c (.int .u64 10))),Fz 4 64 (Ca 118 [.t 63,(.c (.int .u64 17))]),Fz 9 69 (Ca 118 [.t 68,(.c (.int .u64 19))]),Fs 10 70 (Bb .xor 64 69),Fs 16 76 (Bb .xor 70 75),Fm 17 10 76]
def HM:List FI:=[Fm 0 77 8,Fm 1 78 10,Fm 2 79 8,Fs 3 80 (Bc .sub 79 7),Fs 4 81 (.iaddrA 64 1 (.t 7) (.t 80)),Fs 5 82 (Ld 81),Fs 6 83 (Bb .add 78 82),Fm 7 84 9,Fs 8 85 (Bb .add 83 84),Fm 9 86 8,Fs 10 87 (Bc .sub 86 16),Fs 11 88 (.iaddrA 64 1 (.t 7) (.t 87)),Fs 12 89 (Ld 88),Fs 13 90 (Bb .add 85 89),Fs 14 91 (.iaddrA 64 1 (.t 7) (.t 77)),Fr 15 1 91 90]
def HK:List RI:=[omk 30 8,oo 31 (Bc .add 30 1) [30],omk 8 31]
def yT:RC:=(Sq (So Uj (Kc 29 (Kk [29] .skip) (Kk [8,29] (.exit 2)))) (Sq (Bk 3 (Sq (So Ui (Kc 33 (Kk [33] (So HP (.exit 3))) (Kk [33] .skip))) (Sq (.flt [0,1,3,7,15,0,32,96,224,511,1023,0,2048,6144,14336,30720,65535,131071] [] HO [43,44,45,46,47,48,49,50,51,52,53,54,55,56,57,58,59]) (Sq (.flt [0,1,3,7,15,0,32,96,224,511,1023,0,2048,6144,14336,30720,65535,131071] [] HN [60,61,62,63,64,65,66,67,68,69,70,71,72,73,74,75,76]) (.flt [0,0,0,4,12,28,62,0,254,0,512,1536,3584,8190,16383,32767] [] HM [9,10,77,78,79,80,81,82,83,84,85,86,87,88,89,90,91]))))) (.ops HK)))
def xU:RC:=yT
def HJ:List RI:=[on 92 (.lit 1 []),om 93 4,oo 94 (.app [.int .u32 0] 4 (.t 92) (.t 93)) [92,93],omk 11 94]
def HI:List RI:=[on 12 (Mc 0)]
def HH:List RI:=[om 95 12,oo 96 (Bc .lss 95 64) [95]]
def HG:List FI:=[Fm 0 99 11,Fs 1 100 (.iaddrL 1 (.t 99) (ci 0)),Fs 2 101 (Ld 100),Fm 3 102 11,Fs 4 103 (.iaddrL 1 (.t 102) (ci 4)),Fs 5 104 (Ld 103),Fm 6 13 101,Fm 7 14 104]
def HF:List FI:=[Fm 0 105 11,Fs 1 106 (.iaddrL 1 (.t 105) (ci 7)),Fs 2 107 (Ld 106),Fm 3 108 14,Fm 5 110 14,Fm 8 113 14,Fm 12 117 14,Fm 13 118 11,Fs 14 119 (.iaddrL 1 (.t 118) (ci 5)),Fs 15 120 (Ld 119),Fs 16 121 (Bb .and 117 120),Fm 17 122 14,Fs 18 123 (.un .xor (.t 122)),Fm 19 124 11,Fs 20 125 (.iaddrL 1 (.t 124) (ci 6)),Fs 21 126 (Ld 125),Fs 22 127 (Bb .and 123 126),Fs 23 128 (Bb .xor 121 127),Fm 25 130 12,Fs 26 131 (.iaddrA 64 1 (.t 3) (.t 130)),Fs 27 132 (Ld 131),Fm 29 134 12,Fs 30 135 (.iaddrA 64 1 (.t 7) (.t 134)),Fs 31 136 (Ld 135),Fz 4 109 (Ca 118 [.t 108,(.c (.int .u64 6))]),Fz 6 111 (Ca 118 [.t 110,(.c (.int .u64 11))]),Fs 7 112 (Bb .xor 109 111),Fz 9 114 (Ca 118 [.t 113,(.c (.int .u64 25))]),Fs 10 115 (Bb .xor 112 114),Fs 11 116 (Bb .add 107 115),Fs 24 129 (Bb .add 116 128),Fs 28 133 (Bb .add 129 132),Fs 32 137 (Bb .add 133 136),Fm 33 15 137]
def HE:List FI:=[Fm 0 138 13,Fm 2 140 13,Fm 5 143 13,Fm 8 146 13,Fm 9 147 11,Fs 10 148 (.iaddrL 1 (.t 147) (ci 1)),Fs 11 149 (Ld 148),Fs 12 150 (Bb .and 146 149),Fm 13 151 13,Fm 14 152 11,Fs 15 153 (.iaddrL 1 (.t 152) (ci 2)),Fs 16 154 (Ld 153),Fs 17 155 (Bb .and 151 154),Fs 18 156 (Bb .xor 150 155),Fm 19 157 11,Fs 20 158 (.iaddrL 1 (.t 157) (ci 1)),Fs 21 159 (Ld 158),Fm 22 160 11,Fs 23 161 (.iaddrL 1 (.t 160) (ci 2)),Fs 24 162 (Ld 161),Fs 25 163 (Bb .and 159 162),Fs 26 164 (Bb .xor 156 163),Fz 1 139 (Ca 118 [.t 138,(.c (.int .u64 2))]),Fz 3 141 (Ca 118 [.t 140,(.c (.int .u64 13))]),Fs 4 142 (Bb .xor 139 141),Fz 6 144 (Ca 118 [.t 143,(.c (.int .u64 22))]),Fs 7 145 (Bb .xor 142 144),Fs 27 165 (Bb .add 145 164),Fm 28 16 165]
def HD:List FI:=[Fm 0 166 15,Fm 1 167 16,Fs 2 168 (Bb .add 166 167),Fm 3 169 13,Fm 4 170 11,Fs 5 171 (.iaddrL 1 (.t 170) (ci 1)),Fs 6 172 (Ld 171),Fm 7 173 11,Fs 8 174 (.iaddrL 1 (.t 173) (ci 2)),Fs 9 175 (Ld 174),Fm 10 176 11,Fs 11 177 (.iaddrL 1 (.t 176) (ci 3)),Fs 12 178 (Ld 177),Fm 13 179 15,Fs 14 180 (Bb .add 178 179),Fm 15 181 14,Fm 16 182 11,Fs 17 183 (.iaddrL 1 (.t 182) (ci 5)),Fs 18 184 (Ld 183),Fm 19 185 11,Fs 20 186 (.iaddrL 1 (.t 185) (ci 6)),Fs 21 187 (Ld 186),Fs 22 188 (.lit 1 [.t 168,.t 169,.t 172,.t 175,.t 180,.t 181,.t 184,.t 187]),⟨23,false,(xm 11 188)⟩]
def HC:List RI:=[omk 97 12,oo 98 (Bc .add 97 1) [97],omk 12 98]
def yS:RC:=(Sq (So HH (Kc 96 (Kk [96] .skip) (Kk [7,12,96] (.exit 4)))) (Sq (Bk 5 (Sq (.flt [0,1,3,0,8,24,7,127] [] HG [99,100,101,102,103,104]) (Sq (.flt [0,1,3,0,8,0,56,120,0,376,1016,2047,0,0,8192,24576,61440,0,131072,0,524288,1572864,4063232,8384512,16777215,0,33554432,100663296,268435455,0,536870912,1610612736,4294967295,8589934591] [] HF [105,106,107,108,109,110,111,112,113,114,115,116,117,118,119,120,121,122,123,124,125,126,127,128,129,130,131,132,133,134,135,136,137]) (Sq (.flt [0,1,0,7,15,0,47,127,0,0,512,1536,3840,0,0,16384,49152,122880,261888,0,524288,1572864,0,4194304,12582912,33030144,67108608,134217727,268435455] [] HE [138,139,140,141,142,143,144,145,146,147,148,149,150,151,152,153,154,155,156,157,158,159,160,161,162,163,164,165]) (.flt [0,0,3,0,0,16,48,0,128,384,0,1024,3072,0,15360,0,0,65536,196608,0,524288,1572864,4194303,8388607] [] HD [13,14,15,16,166,167,168,169,170,171,172,173,174,175,176,177,178,179,180,181,182,183,184,185,186,187,188]))))) (.ops HC)))
def xT:RC:=yS
def xS:List RI:=[on 17 (Mc 0)]
def HB:List RI:=[om 189 17,oo 190 (Bc .lss 189 8) [189]]
def Hz:List FI:=[Fm 0 193 4,Fm 1 194 17,Fs 2 195 (Ia 1 193 194),Fs 3 196 (Ld 195),Fm 4 197 11,Fm 5 198 17,Fs 6 199 (Ia 1 197 198),Fs 7 200 (Ld 199),Fs 8 201 (Bb .add 196 200),Fs 9 202 (Ia 1 193 194),Fr 10 1 202 201]
def Hy:List RI:=[omk 191 17,oo 192 (Bc .add 191 1) [191],omk 17 192]
def yR:RC:=(Sq (So HB (Kc 190 (Kk [190] .skip) (Kk [11,17,190] (.exit 6)))) (Sq (Bk 7 (.flt [0,0,3,7,0,0,48,112,255,511,1023] [] Hz [193,194,195,196,197,198,199,200,201,202])) (.ops Hy)))
def xR:RC:=yR
def Hx:List RI:=[omk 26 6,oo 27 (Bc .add 26 64) [26],omk 6 27]
def yQ:RC:=(.post (Sq (So Ul (Kc 25 (Kk [25] .skip) (Kk [3,5,6,25] (.exit 0)))) (Sq (Bk 1 (So Uk (Sq (So pS (Bk 2 (.loop xU))) (So HJ (Sq (So HI (Bk 4 (.loop xT))) (So xS (Bk 6 (.loop xR)))))))) (.ops Hx))) [.gc [107,194]])
def xQ:RC:=yQ
def Hw:List RI:=[omk 203 4,oo 204 (Ca 119 [.t 203]) [203],omk 2 204]
def r65:RC:=(So kZ (So Uo (So Un (So Um (Sq (So tw (Bk 0 (.loop xQ))) (So Hw .ret))))))
def F65:FnC:=⟨r65,205,[.tmp 2],[],[]⟩
def Uh:List RI:=[omk 8 0,oo 9 (.toInt .u8 (.t 8)) [8],oo 10 (.litB [.t 9]) [9],omk 5 10]
def Ug:List RI:=[om 11 6,om 12 1,oo 13 (Ln 12) [12],oo 14 (Bb .lss 11 13) [11,13]]
def Uf:List RI:=[om 17 1,om 18 6,oo 19 (Ia 1 17 18) [17,18],oo 20 (Ld 19) [19],oo 21 (Ln 20) [20],omk 7 21]
def Ue:List RI:=[omk 22 5,om 23 7,oo 24 (.bin .shr (.t 23) (.c (.int .u64 24))) [23],oo 25 (.toInt .u8 (.t 24)) [24],om 26 7,oo 27 (.bin .shr (.t 26) (.c (.int .u64 16))) [26],oo 28 (.toInt .u8 (.t 27)) [27],om 29 7,oo 30 (.bin .shr (.t 29) (.c (.int .u64 8))) [29],oo 31 (.toInt .u8 (.t 30)) [30],omk 32 7,oo 33 (.toInt .u8 (.t 32)) [32],oo 34 (.litB [.t 25,.t 28,.t 31,.t 33]) [25,28,31,33],oo 35 (.app [.u8 0] 1 (.t 22) (.t 34)) [22,34],omk 5 35]
def Ud:List RI:=[omk 36 5,om 37 1,om 38 6,oo 39 (Ia 1 37 38) [37,38],oo 40 (Ld 39) [39],oo 41 (.app [.u8 0] 1 (.t 36) (.t 40)) [36,40],omk 5 41]
def Uc:List RI:=[omk 15 6,oo 16 (Bc .add 15 1) [15],omk 6 16]
def OB:RC:=(.post (Sq (So Ug (Kc 14 (Kk [14] .skip) (Kk [1,6,14] (.exit 0)))) (Sq (Bk 1 (So Uf (So Ue (.ops Ud)))) (.ops Uc))) [.tok 5 105])
def Ub:RC:=OB
def Ua:List RI:=[omk 42 5,omk 4 42]
def r66:RC:=(So kY (So Uh (Sq (So tw (Bk 0 (.pre [.tok 5 105] (.loop Ub)))) (So Ua .ret))))
def F66:FnC:=⟨r66,43,[.tmp 4],[],[]⟩
def T9:List RI:=[om 8 0,oo 9 (Ln 8) [8],oo 10 (Bc .eql 9 0) [9],omk 11 10,.grp 11 false [(xi 12 11 false (Mv 0)),(xi 13 11 false (Ln 12)),(xi 14 11 false (Bc .gtr 13 8))] [12,13],oo 15 (Pt 11 14) [11,14]]
def T8:List RI:=[on 3 (Mb false),on 4 (Mb false)]
def T7:List RI:=[om 16 5,om 17 0,oo 18 (Ln 17) [17],oo 19 (Bb .lss 16 18) [16,18]]
def T6:List RI:=[om 22 0,om 23 5,oo 24 (Ia 4 22 23) [22,23],oo 25 (Lt 4 24) [24],oo 26 (Ca 100 [.t 25]) [25],omk 6 26]
def T5:List RI:=[om 27 6,oo 28 (Bc .neq 27 0) [27]]
def T4:List RI:=[omk 29 6,omk 2 29]
def T3:List FI:=[Fm 0 30 5,Fs 1 31 (Bc .gtr 30 0),Fm 2 32 31,Fi 3 33 32 true (Mv 0),Fi 4 34 32 true (Mv 5),Fi 5 35 32 true (Ia 4 33 34),Fi 6 36 32 true (Fa 0 35),Fi 7 37 32 true (Ld 36),Fi 8 38 32 true (Mv 0),Fi 9 39 32 true (Mv 5),Fi 10 40 32 true (Bc .sub 39 1),Fi 11 41 32 true (Ia 4 38 40),Fi 12 42 32 true (Fa 0 41),Fi 13 43 32 true (Ld 42),Fi 14 44 32 true (Bb .lss 37 43),Fs 15 45 (Pf 32 44)]
def Hv:List RI:=[om 46 7,om 47 5,oo 48 (Bb .lss 46 47) [46,47]]
def Hu:List FI:=[Fm 0 51 0,Fm 1 52 7,Fs 2 53 (Ia 4 51 52),Fs 3 54 (Fa 0 53),Fs 4 55 (Ld 54),Fm 5 56 0,Fm 6 57 5,Fs 7 58 (Ia 4 56 57),Fs 8 59 (Fa 0 58),Fs 9 60 (Ld 59),Fs 10 61 (Bb .eql 55 60),Fm 11 62 61,Fi 12 63 62 true (Mv 0),Fi 13 64 62 true (Mv 7),Fi 14 65 62 true (Ia 4 63 64),Fi 15 66 62 true (Fa 1 65),Fi 16 67 62 true (Ld 66),Fi 17 68 62 true (Mv 0),Fi 18 69 62 true (Mv 5),Fi 19 70 62 true (Ia 4 68 69),Fi 20 71 62 true (Fa 1 70),Fi 21 72 62 true (Ld 71),Fi 22 73 62 true (Bb .eql 67 72),Fs 23 74 (Pf 62 73)]
def Ht:List RI:=[on 2 (Mc 42)]
def Hs:List RI:=[omk 49 7,oo 50 (Bc .add 49 1) [49],omk 7 50]
def yP:RC:=(Sq (So Hv (Kc 48 (Kk [48] .skip) (Kk [7,48] (.exit 2)))) (Sq (Bk 3 (Sq (.flt [0,0,3,7,15,0,0,96,224,480,1023,2047,4095,4095,16383,32767,65535,4095,4095,397311,921599,1970175,4194303,8388607] [] Hu [51,52,53,54,55,56,57,58,59,60,61,62,63,64,65,66,67,68,69,70,71,72,73]) (Kc 74 (Kk [0,3,4,5,7,74] (So Ht .ret)) (Kk [74] .skip)))) (.ops Hs)))
def xP:RC:=yP
def Hr:List RI:=[omk 75 3,omk 76 75,.grp 76 false [(xi 77 76 false (Mv 0)),(xi 78 76 false (Mv 5)),(xi 79 76 false (Ia 4 77 78)),(xi 80 76 false (Fa 0 79)),(xi 81 76 false (Ld 80)),(xi 82 76 false (Bc .eql 81 1))] [77,78,79,80,81],oo 83 (Pt 76 82) [76,82],omk 3 83]
def Hq:List RI:=[omk 84 4,omk 85 84,.grp 85 false [(xi 86 85 false (Mv 0)),(xi 87 85 false (Mv 5)),(xi 88 85 false (Ia 4 86 87)),(xi 89 85 false (Fa 0 88)),(xi 90 85 false (Ld 89)),(xi 91 85 false (Bc .eql 90 3))] [86,87,88,89,90],oo 92 (Pt 85 91) [85,91],omk 4 92]
def Hp:List RI:=[omk 20 5,oo 21 (Bc .add 20 1) [20],omk 5 21]
def yO:RC:=(Sq (So T7 (Kc 19 (Kk [19] .skip) (Kk [0,5,19] (.exit 0)))) (Sq (Bk 1 (Sq (So T6 (So T5 (Kc 28 (Kk [0,3,4,5,28] (So T4 .ret)) (Kk [6,28] .skip)))) (Sq (Sq (.flt [0,1,3,7,7,31,63,127,7,7,519,1799,3847,7943,16383,32767] [] T3 [30,31,32,33,34,35,36,37,38,39,40,41,42,43,44]) (Kc 45 (Kk [0,3,4,5,45] (So yg .ret)) (Kk [45] .skip))) (Sq (So wo (Bk 2 (.loop xP))) (So Hr (.ops Hq)))))) (.ops Hp)))
def tv:RC:=yO
def Ho:List RI:=[omk 93 3,oo 94 (.un .not (.t 93)) [93],omk 95 94,.grp 95 false [(xi 96 95 false (Mv 4)),(xi 97 95 false (.un .not (.t 96)))] [4,96],oo 98 (Pt 95 97) [95,97]]
def tu:List RI:=[on 2 (Mc 40)]
def r67:RC:=(So js (Sq (So T9 (Kc 15 (Kk [0,15] (So ks .ret)) (Kk [15] .skip))) (So T8 (Sq (So qx (Bk 0 (.loop tv))) (Sq (So Ho (Kc 98 (Kk [98] (So tu .ret)) (Kk [98] .skip))) (So jt .ret))))))
def F67:FnC:=⟨r67,99,[.tmp 2],[],[]⟩
def T2:List RI:=[on 8 (.new (.rc Zq2))]
def T1:List RI:=[omk 11 0,om 12 1,on 13 (.mk [(.byt [] .no)] 24 (ci 2) (ci 2)),om 14 3,oo 15 (.build Zq2 [(0,1,(.t 11)),(1,1,(.t 12)),(2,1,(.t 13)),(3,1,(.t 14))]) [11,12,13,14],on 9 (.new (.rc Zq2)),Sr 4 9 15 [15]]
def T0:List RI:=[om 16 10,oo 17 (Bc .lss 16 2) [16]]
def TZ:List RI:=[om 20 2,om 21 10,oo 22 (Ca 120 [.t 20,.t 21]) [20,21],omk 23 22,.grp 23 true [(xi 24 23 true (Mv 1)),(xi 25 23 true (Bc .neq 24 5))] [24],oo 26 (Pf 23 25) [23,25]]
def TY:List FI:=[Fs 0 27 (Fa 2 9),Fs 1 28 (Ld 27),Fm 2 29 10,Fm 3 30 10,Fm 4 31 3,Fz 5 32 (Ca 121 [.t 30,.t 31]),Fs 6 33 (Ia 1 28 29),Fr 7 1 33 32]
def TX:List RI:=[omk 18 10,oo 19 (Bc .add 18 1) [18],omk 10 19]
def OA:RC:=(Sq (So T0 (Kc 17 (Kk [17] .skip) (Kk [1,2,3,10,17] (.exit 0)))) (Sq (Bk 1 (So TZ (Kc 26 (Kk [26] (.flt [0,1,0,0,0,24,63,127] [] TY [27,28,29,30,31,32,33])) (Kk [26] .skip)))) (.ops TX)))
def TW:RC:=OA
def TV:List RI:=[oo 34 (Lt 4 9) [9],Sr 4 8 34 [34]]
def r68:RC:=(So T2 (So T1 (Sq (So x8 (Bk 0 (.loop TW))) (So TV .ret))))
def F68:FnC:=⟨r68,35,[.cell 8 4 true],[],[]⟩
def TU:List RI:=[oo 0 (.mov (.c (.byt [] .clip))) [0]]
def TT:List RI:=[on 1 (.litB [(.c (.u8 0)),(.c (.u8 0)),(.c (.u8 0)),(.c (.u8 0))]),omk 0 1]
def r69:RC:=(So TU (So TT .ret))
def F69:FnC:=⟨r69,2,[.tmp 0],[],[]⟩
def N6:List RI:=[oo 1 (.box (.t 0)) [0],oo 2 (.mov (.c (.lst 1 [] .clip))) [2]]
def N5:List RI:=[on 3 (.mov (.c (.lst 1 [] .clip)))]
def TR:List RI:=[om 7 5,on 8 (Fa 3 1),oo 9 (Ld 8) [8],oo 10 (Ln 9) [9],oo 11 (Bb .lss 7 10) [7,10]]
def TQ:List RI:=[on 14 (Fa 3 1),oo 15 (Ld 14) [14],om 16 5,oo 17 (Ia 1 15 16) [15,16],oo 18 (Ld 17) [17],omk 6 18]
def TP:List RI:=[om 19 6,oo 20 (.bin .eql (.t 19) (.c (.u8 10))) [19]]
def TO:List RI:=[om 21 4,oo 22 (Ln 21) [21],oo 23 (Bc .eql 22 0) [22],omk 24 23,.grp 24 false [(xi 25 24 false (Mv 3)),(xi 26 24 false (Ln 25)),(xi 27 24 false (Bc .geq 26 4))] [25,26],oo 28 (Pt 24 27) [24,27]]
def wk:List RI:=[on 2 (.mov (.c (.lst 1 [] .clip)))]
def TN:List RI:=[omk 29 3,omk 30 4,oo 31 (.lit 1 [.t 30]) [30],oo 32 (.app [.byt [] .clip] 24 (.t 29) (.t 31)) [29,31],omk 3 32]
def Hn:List RI:=[om 33 6,oo 34 (.bin .lss (.t 33) (.c (.u8 32))) [33],omk 35 34,.grp 35 false [(xi 36 35 false (Mv 6)),(xi 37 35 false (.bin .gtr (.t 36) (.c (.u8 126))))] [36],oo 38 (Pt 35 37) [35,37]]
def Hm:List RI:=[omk 39 4,omk 40 6,oo 41 (.litB [.t 40]) [40],oo 42 (.app [.u8 0] 1 (.t 39) (.t 41)) [39,41],omk 4 42]
def Hl:List RI:=[omk 12 5,oo 13 (Bc .add 12 1) [12],omk 5 13]
def yN:RC:=(.post (Sq (So TR (Kc 11 (Kk [11] .skip) (Kk [1,5,11] (.exit 0)))) (Sq (Bk 1 (So TQ (Sq (So TP (Kc 20 (Kk [6,20] (Sq (So TO (Kc 28 (Kk [1,3,4,5,28] (So wk .ret)) (Kk [28] .skip))) (So TN (So kr (.exit 1))))) (Kk [20] .skip))) (Sq (So Hn (Kc 38 (Kk [1,3,4,5,6,38] (So wk .ret)) (Kk [38] .skip))) (.ops Hm))))) (.ops Hl))) [.tok 3 103,.tok 4 104])
def xO:RC:=yN
def Hk:List RI:=[omk 43 4,oo 44 (Ln 43) [43],oo 45 (Bc .gtr 44 0) [44]]
def Hj:List RI:=[omk 46 3,omk 2 46]
def r70:RC:=(So N6 (So N5 (So kr (Sq (So qx (Bk 0 (.pre [.tok 3 103,.tok 4 104] (.loop xO)))) (Sq (So Hk (Kc 45 (Kk [3,45] (So wk .ret)) (Kk [45] .skip))) (So Hj .ret))))))
def F70:FnC:=⟨r70,47,[.tmp 2],[],[]⟩
def TL:List FI:=[Fm 0 5 0,Fs 1 6 (.nchk (.t 5)),Fs 2 7 (Fa 1 6),Fs 3 8 (Ld 7),Fm 4 9 0,Fs 5 10 (.nchk (.t 9)),Fs 6 11 (Fa 0 10),Fs 7 12 (Ld 11),Fs 8 13 (Ln 12),Fs 9 14 (Bb .geq 8 13)]
def TK:List RI:=[om 15 0,on 16 (.nchk (.t 15)),oo 17 (Fa 1 16) [16],oo 18 (Ld 17) [17],oo 19 (Bc .add 18 1) [18],oo 20 (.nchk (.t 15)) [15],oo 21 (Fa 1 20) [20],Sr 1 21 19 [19,21]]
def TJ:List FI:=[Fm 0 22 0,Fs 1 23 (.nchk (.t 22)),Fs 2 24 (Fa 0 23),Fs 3 25 (Ld 24),Fm 4 26 0,Fs 5 27 (.nchk (.t 26)),Fs 6 28 (Fa 1 27),Fs 7 29 (Ld 28),Fs 8 30 (Bc .sub 29 1),Fs 9 31 (Ia 1 25 30),Fs 10 32 (Ld 31),Fs 11 33 (.toInt .i64 (.t 32)),Fm 12 34 1,Fs 13 35 (Bb .rem 33 34),Fm 14 4 35]
def r71:RC:=(So oi (Sq (Sq (.flt [0,1,3,7,0,16,48,112,240,511] [] TL [5,6,7,8,9,10,11,12,13]) (Kc 14 (Kk [0,1,14] (So lF .ret)) (Kk [14] .skip))) (So TK (Sq (.flt [0,1,3,7,0,16,48,112,240,511,1023,2047,0,8191,16383] [] TJ [0,1,22,23,24,25,26,27,28,29,30,31,32,33,34,35]) .ret))))
def F71:FnC:=⟨r71,36,[.tmp 4],[],[]⟩
def TI:List RI:=[on 4 (.new (.rc Zq0))]
def TH:List FI:=[Fm 0 7 1,Fm 2 9 0,Fm 5 12 0,Fz 1 8 (Ca 122 []),Fz 3 10 (Ca 71 [.t 9,ci 5]),Fs 4 11 (.idxA 5 1 false (.t 8) (.t 10)),Fz 6 13 (Ca 71 [.t 12,ci 5]),Fs 7 14 (.build Zq0 [(0,1,(.t 7)),(1,1,(.t 11)),(2,1,(.t 13))]),Fz 8 5 (.new (.rc Zq0)),Fr 9 4 5 14]
def TG:List RI:=[om 15 0,oo 16 (Ca 71 [.t 15,ci 9]) [15],oo 17 (Bc .eql 16 8) [16]]
def TF:List RI:=[om 18 0,oo 19 (Ca 71 [.t 18,ci 3]) [18],oo 20 (.bin .sub (ci 1000000) (.t 19)) [19],on 21 (Fa 2 5),Sr 1 21 20 [20,21]]
def TE:List RI:=[omk 22 1,oo 23 (Bc .eql 22 4) [22]]
def TD:List RI:=[omk 24 0,oo 25 (Ca 123 [.t 24]) [24],on 26 (Fa 3 5),Sr 1 26 25 [25,26]]
def TC:List RI:=[oo 27 (Lt 4 5) [5],Sr 4 4 27 [27]]
def TB:List RI:=[om 28 0,oo 29 (Ca 71 [.t 28,ci 7]) [28],oo 30 (.mkB (.t 29) (.t 29)) [29],on 31 (Fa 3 5),Sr 1 31 30 [30,31]]
def TA:List RI:=[om 32 6,on 33 (Fa 3 5),oo 34 (Ld 33) [33],oo 35 (Ln 34) [34],oo 36 (Bb .lss 32 35) [32,35]]
def Hi:List FI:=[Fs 0 39 (Fa 3 5),Fs 1 40 (Ld 39),Fm 2 41 6,Fm 3 42 0,Fz 4 43 (Ca 71 [.t 42,ci 256]),Fs 5 44 (.toInt .u8 (.t 43)),Fs 6 45 (Ia 1 40 41),Fr 7 1 45 44]
def Hh:List RI:=[omk 37 6,oo 38 (Bc .add 37 1) [37],omk 6 38]
def yM:RC:=(Sq (So TA (Kc 36 (Kk [36] .skip) (Kk [0,6,36] (.exit 0)))) (Sq (Bk 1 (.flt [0,1,0,0,8,24,63,127] [] Hi [39,40,41,42,43,44,45])) (.ops Hh)))
def tt:RC:=yM
def Hg:List RI:=[oo 46 (Lt 4 5) [5],Sr 4 4 46 [46]]
def r72:RC:=(So TI (Sq (.fla [0,0,0,6,14,0,46,127,0,511] [105] TH [[0,2,5,1,3,4,6,7,8,9],[0,2,5,1,3,4,8,6,7,9],[0,2,5,1,8,3,4,6,7,9],[0,2,5,8,1,3,4,6,7,9]] [7,8,9,10,11,12,13,14]) (Sq (So TG (Kc 17 (Kk [17] (.ops TF)) (Kk [17] .skip))) (Sq (So TE (Kc 23 (Kk [23] (So TD (So TC .ret))) (Kk [23] .skip))) (So TB (Sq (So tw (Bk 0 (.loop tt))) (So Hg .ret)))))))
def F72:FnC:=⟨r72,47,[.cell 4 4 true],[],[]⟩
def Tz:List RI:=[on 4 (.build [.str [],.str [],.str [],.str [],.str [],.str []] [(0,1,(.c (.str [97,61,49]))),(1,1,(.c (.str [99,111,117,110,116,61,53]))),(2,1,(.c (.str [99,111,117,110,116,61,49,55]))),(3,1,(.c (.str [104,111,115,116,61,120]))),(4,1,(.c (.str [109,111,100,101,32,98]))),(5,1,(.c (.str [126])))]),on 3 (.new (.arr 1 (al 6 [.str []]))),Sr 6 3 4 [4]]
def Ty:List RI:=[omk 5 0,oo 6 (Ca 71 [.t 5,ci 6]) [5],oo 7 (.iaddrA 6 1 (.t 3) (.t 6)) [3,6],oo 8 (Ld 7) [7],oo 9 (.s2b (.t 8)) [8],omk 2 9]
def r73:RC:=(So kZ (So Tz (So Ty .ret)))
def F73:FnC:=⟨r73,10,[.tmp 2],[],[]⟩
def Tx:List RI:=[oo 4 (.mov (.c (.lst 1 [] .clip))) [4]]
def N4:List RI:=[on 8 (.mk [(.byt [] .no)] 24 (ci 2) (ci 2)),omk 5 8]
def Tw:List RI:=[om 9 6,oo 10 (Bc .lss 9 2) [9]]
def Tv:List RI:=[om 13 0,om 14 6,oo 15 (.toInt .u64 (.t 14)) [14],oo 16 (Bb .shr 13 15) [13,15],oo 17 (Bc .and 16 1) [16],oo 18 (Bc .eql 17 1) [17]]
def Tu:List RI:=[om 19 6,oo 20 (.bin .mul (ci 12) (.t 19)) [19],oo 21 (.bin .add (ci 20) (.t 20)) [20],oo 22 (.mkB (.t 21) (.t 21)) [21],omk 7 22]
def Tt:List RI:=[om 23 7,om 24 1,oo 25 (.cpy 1 (.t 23) (.t 24)) [23,24,25]]
def Ts:List RI:=[om 26 7,oo 27 (Ln 26) [26],oo 28 (Bc .gtr 27 0) [27]]
def Tr:List RI:=[om 29 7,om 30 7,oo 31 (Ln 30) [30],oo 32 (Bc .sub 31 1) [31],on 33 (Ia 1 29 32),oo 34 (Ld 33) [33],om 35 6,oo 36 (.toInt .u8 (.t 35)) [35],oo 37 (Bb .xor 34 36) [34,36],oo 38 (Ia 1 29 32) [29,32],Sr 1 38 37 [37,38]]
def Tq:List RI:=[om 39 5,om 40 6,omk 41 7,oo 42 (Ia 1 39 40) [39,40],.dir (.pub 41),Sr 1 42 41 [41,42]]
def Hf:List RI:=[omk 11 6,oo 12 (Bc .add 11 1) [11],omk 6 12]
def yL:RC:=(Sq (So Tw (Kc 10 (Kk [10] .skip) (Kk [0,1,6,10] (.exit 0)))) (Sq (Bk 1 (So Tv (Kc 18 (Kk [18] (So Tu (So Tt (Sq (So Ts (Kc 28 (Kk [28] (.ops Tr)) (Kk [28] .skip))) (.ops Tq))))) (Kk [18] .skip)))) (.ops Hf)))
def He:RC:=yL
def Hd:List RI:=[omk 43 5,omk 4 43]
def r74:RC:=(So Tx (So N4 (Sq (So tw (Bk 0 (.loop He))) (So Hd .ret))))
def F74:FnC:=⟨r74,44,[.tmp 4],[],[]⟩
def N3:List RI:=[om 6 0,oo 7 (Ln 6) [6],on 8 (Mc 0)]
def DV:List RI:=[on 9 (Bb .lss 8 7)]
def N2:List RI:=[om 10 8,omk 5 10]
def N1:List RI:=[om 11 1,om 12 0,om 13 5,oo 14 (Ia 4 12 13) [12,13],oo 15 (Lt 4 14) [14],oo 16 (.call (.t 11) [.t 15]) [11,15]]
def N0:List RI:=[omk 17 5,omk 4 17]
def NZ:List RI:=[oo 18 (Bc .add 8 1) [8],omk 8 18]
def Oz:RC:=(So DV (Sq (Kc 9 (Kk [9] .skip) (Kk [0,1,7,8,9] (.exit 0))) (Sq (Bk 1 (So N2 (So N1 (Kc 16 (Kk [0,1,7,8,16] (So N0 .ret)) (Kk [5,16] .skip))))) (.ops NZ))))
def NY:RC:=Oz
def r75:RC:=(So oi (Sq (So N3 (Bk 0 (.loop NY))) (So og .ret)))
def F75:FnC:=⟨r75,19,[.tmp 4],[],[]⟩
def NX:List RI:=[oo 2 (.box (.t 0)) [0],oo 3 (Mb false) [3]]
def Tp:List FI:=[Fs 0 4 (Fa 0 1),Fs 1 5 (Ld 4),Fs 2 6 (Fa 0 2),Fs 3 7 (Ld 6),Fz 4 8 (Ca 33 [.t 7]),Fs 5 9 (Bb .eql 5 8),Fm 6 10 9,Fi 7 11 10 true (Fa 2 1),Fi 8 12 10 true (Ld 11),Fi 9 13 10 true (Ln 12),Fi 10 14 10 true (Bc .gtr 13 1),Fs 11 15 (Pf 10 14),Fm 12 16 15,Fi 13 17 16 true (Fa 2 1),Fi 14 18 16 true (Ld 17),Fi 15 19 16 true (.iaddrL 1 (.t 18) (ci 1)),Fi 16 20 16 true (Ld 19),Fi 17 21 16 true (Fa 3 2),Fi 18 22 16 true (Ld 21),Fy 19 23 16 true (Ca 77 [.t 20,.t 22]),Fs 20 24 (Pf 16 23),Fm 21 25 24,Fi 22 26 25 true (Fa 3 1),Fi 23 27 25 true (Ld 26),Fi 24 28 25 true (.b2s (.t 27)),Fi 25 29 25 true (Fa 1 2),Fi 26 30 25 true (Ld 29),Fi 27 31 25 true (.bin .add (.t 30) (.c (.str [32]))),Fi 28 32 25 true (Fa 2 2),Fi 29 33 25 true (Ld 32),Fy 30 34 25 true (Ca 78 [.t 33]),Fi 31 35 25 true (Bb .add 31 34),Fi 32 36 25 true (Bb .eql 28 35),Fs 33 37 (Pf 25 36),Fm 34 3 37]
def r76:RC:=(So NX (Sq (.flt [0,1,0,4,12,31,63,127,255,511,1023,2047,4095,8191,16383,32767,65535,8191,139263,524287,1048575,2097151,4194303,8388607,16777215,4194303,37748735,104857599,4194303,272629759,809500671,2118123519,4294967295,8589934591,17179869183] [] Tp [1,2,4,5,6,7,8,9,10,11,12,13,14,15,16,17,18,19,20,21,22,23,24,25,26,27,28,29,30,31,32,33,34,35,36,37]) .ret))
def F76:FnC:=⟨r76,38,[.tmp 3],[],[]⟩
def To:List RI:=[omk 5 0,oo 6 (.b2s (.t 5)) [5],omk 7 1,oo 8 (.b2s (.t 7)) [7],oo 9 (Bb .eql 6 8) [6,8],omk 4 9]
def r77:RC:=(So qw (So To .ret))
def F77:FnC:=⟨r77,10,[.tmp 4],[],[]⟩
def DU:List RI:=[oo 2 (.mov (.c (.str []))) [2]]
def Tn:List RI:=[omk 3 0,oo 4 (Ca 124 [.t 3]) [3],omk 2 4]
def r78:RC:=(So DU (So Tn .ret))
def F78:FnC:=⟨r78,5,[.tmp 2],[],[]⟩
def Tm:List RI:=[oo 1 (.box (.t 0)) [0],oo 2 (Mb false) [2]]
def Tl:List RI:=[on 8 (Fa 1 1),oo 9 (Ld 8) [8],oo 10 (Bc .neq 9 1) [9],omk 11 10,.grp 11 true [(xi 12 11 true (Fa 1 1)),(xi 13 11 true (Ld 12)),(xi 14 11 true (Bc .neq 13 5))] [12,13],oo 15 (Pf 11 14) [11,14],omk 3 15]
def Tk:List RI:=[on 16 (Fa 1 1),oo 17 (Ld 16) [16]]
def Tj:List RI:=[on 19 (Bc .eql 17 1),omk 18 19]
def Ti:List RI:=[on 21 (Bc .eql 17 2),omk 20 21]
def Th:List FI:=[Fs 0 22 (Fa 3 1),Fs 1 23 (Ld 22),Fz 2 24 (.mkB (ci 4) (ci 4)),Fz 3 25 (Ca 77 [.t 23,.t 24]),Fs 4 26 (.un .not (.t 25))]
def Tg:List RI:=[on 28 (Bc .eql 17 3),omk 27 28]
def Tf:List RI:=[on 29 (Fa 3 1),oo 30 (Ld 29) [29],oo 31 (Ln 30) [30],oo 32 (Bc .eql 31 0) [31]]
def Hc:List RI:=[on 33 (Fa 3 1),oo 34 (Ld 33) [33],on 35 (Ln 34),on 36 (Mc 0)]
def Hb:List RI:=[on 37 (Bb .lss 36 35)]
def Ha:List RI:=[on 38 (Ia 1 34 36),oo 39 (Ld 38) [38],omk 5 39]
def G9:List RI:=[om 40 5,oo 41 (.bin .lss (.t 40) (.c (.u8 32))) [40],omk 42 41,.grp 42 false [(xi 43 42 false (Mv 5)),(xi 44 42 false (.bin .gtr (.t 43) (.c (.u8 126))))] [5,43],oo 45 (Pt 42 44) [42,44]]
def G8:List RI:=[oo 46 (Bc .add 36 1) [36],omk 36 46]
def yK:RC:=(So Hb (Sq (Kc 37 (Kk [37] .skip) (Kk [34,35,36,37] (.exit 1))) (Sq (Bk 2 (So Ha (So G9 (Kc 45 (Kk [1,3,34,35,36,45] (So ni .ret)) (Kk [45] .skip))))) (.ops G8))))
def xN:RC:=yK
def G7:List RI:=[on 48 (Bc .eql 17 4),omk 47 48]
def G6:List RI:=[oo 49 (Bc .eql 17 5) [17],omk 47 49]
def G5:List RI:=[on 50 (Fa 2 1),oo 51 (Ld 50) [50],oo 52 (Ln 51) [51],oo 53 (.mini (.t 52) (ci 2)) [52],on 54 (Mc 0)]
def G4:List RI:=[on 55 (Bb .lss 54 53)]
def G3:List RI:=[om 56 54,omk 6 56]
def G2:List RI:=[on 57 (Fa 2 1),oo 58 (Ld 57) [57],om 59 6,oo 60 (Ia 1 58 59) [58,59],oo 61 (Ld 60) [60],omk 7 61]
def G1:List RI:=[om 62 7,oo 63 (Ln 62) [62],oo 64 (Bc .gtr 63 0) [63],omk 65 64,.grp 65 true [(xi 66 65 true (Mv 3)),(xi 67 65 true (.un .not (.t 66))),(xi 68 65 true (Mv 67))] [66,67],.grp 68 false [(xi 69 68 false (Mv 7)),(xi 70 68 false (Mv 6)),(xi 71 68 false (Fa 3 1)),(xi 72 68 false (Ld 71)),(xi 73 68 false (Ca 90 [.t 70,.t 72])),(xi 74 68 false (Ca 77 [.t 69,.t 73])),(xi 75 68 false (.un .not (.t 74)))] [6,7,69,70,71,72,73,74],.grp 65 true [(xi 76 65 true (Pt 68 75))] [68,75],oo 77 (Pf 65 76) [65,76]]
def GZ:List RI:=[oo 78 (Bc .add 54 1) [54],omk 54 78]
def yJ:RC:=(So G4 (Sq (Kc 55 (Kk [55] .skip) (Kk [1,3,53,54,55] (.exit 3))) (Sq (Bk 4 (So G3 (So G2 (So G1 (Kc 77 (Kk [1,3,53,54,77] (So ni .ret)) (Kk [77] .skip)))))) (.ops GZ))))
def xM:RC:=yJ
def r79:RC:=(So Tm (So Tl (Sq (So Tk (Bk 0 (So Tj (Kc 18 (Kk [1,3,17,18] (So pQ .ret)) (Kk [18] (So Ti (Kc 20 (Kk [17,20] (Sq (.flt [0,1,0,7,15] [124] Th [22,23,24,25]) (Kc 26 (Kk [1,3,26] (So ni .ret)) (Kk [26] .skip)))) (Kk [20] (So Tg (Kc 27 (Kk [17,27] (Sq (So Tf (Kc 32 (Kk [1,3,32] (So ni .ret)) (Kk [32] .skip))) (So Hc (Bk 1 (.loop xN))))) (Kk [27] (Sq (So G7 (Kc 47 (Kk [17] .skip) (Kk [47] (.ops G6)))) (Kc 47 (Kk [47] .skip) (Kk [1,3,47] (So ni .ret))))))))))))))) (Sq (So G5 (Bk 3 (.loop xM))) (So pQ .ret)))))
def F79:FnC:=⟨r79,79,[.tmp 2],[],[]⟩
def Oy:RC:=(So DV (Sq (Kc 9 (Kk [9] .skip) (Kk [0,1,7,8,9] (.exit 0))) (Sq (Bk 1 (So N2 (So N1 (Kc 16 (Kk [0,1,7,8,16] (So N0 .ret)) (Kk [5,16] .skip))))) (.ops NZ))))
def NW:RC:=Oy
def r80:RC:=(So oi (Sq (So N3 (Bk 0 (.loop NW))) (So og .ret)))
def F80:FnC:=⟨r80,19,[.tmp 4],[],[]⟩
def Te:List RI:=[oo 4 (Lt 4 2) [2],oo 5 (Fa 3 1) [1],oo 6 (Ld 5) [5],oo 7 (Ca 35 [.t 4,.t 6]) [4,6],omk 3 7]
def r81:RC:=(So NX (So Te .ret))
def F81:FnC:=⟨r81,8,[.tmp 3],[],[]⟩
def NV:List RI:=[omk 3 0]
def Td:List RI:=[on 5 (Bc .eql 3 1),omk 4 5]
def Tc:List RI:=[on 7 (Bc .eql 3 2),omk 6 7]
def Tb:List RI:=[on 9 (Bc .eql 3 3),omk 8 9]
def Ta:List RI:=[on 2 (Mc 8)]
def S9:List RI:=[oo 11 (Bc .eql 3 4) [3],omk 10 11]
def S8:List RI:=[on 2 (Mc 9)]
def r82:RC:=(So js (Sq (So NV (Bk 0 (So Td (Kc 4 (Kk [3,4] (So jt .ret)) (Kk [4] (So Tc (Kc 6 (Kk [3,6] (So tC .ret)) (Kk [6] (So Tb (Kc 8 (Kk [3,8] (So Ta .ret)) (Kk [8] (So S9 (Kc 10 (Kk [10] (So S8 .ret)) (Kk [10] .skip)))))))))))))) (So wn .ret)))
def F82:FnC:=⟨r82,12,[.tmp 2],[],[]⟩
def NU:List RI:=[om 3 0,oo 4 (Bc .lss 3 10) [3]]
def S7:List RI:=[omk 5 0,oo 6 (.bin .add (ci 48) (.t 5)) [5],oo 7 (.toInt .u8 (.t 6)) [6],oo 8 (.litB [.t 7]) [7],omk 2 8]
def S6:List RI:=[om 9 0,oo 10 (Bc .quo 9 10) [9],oo 11 (Ca 85 [.t 10]) [10],omk 12 0,oo 13 (Bc .rem 12 10) [12],oo 14 (.bin .add (ci 48) (.t 13)) [13],oo 15 (.toInt .u8 (.t 14)) [14],oo 16 (.litB [.t 15]) [15],oo 17 (.app [.u8 0] 1 (.t 11) (.t 16)) [11,16],omk 2 17]
def r85:RC:=(So kZ (Sq (So NU (Kc 4 (Kk [4] (So S7 .ret)) (Kk [4] .skip))) (So S6 .ret)))
def F85:FnC:=⟨r85,18,[.tmp 2],[0],[]⟩
def S5:List RI:=[on 5 (Mc 0),on 6 (Mc 0),on 7 (Mc (-1)),on 8 (Mc 0)]
def S4:List RI:=[om 9 6,om 10 1,oo 11 (Ln 10) [10],oo 12 (Bb .lss 9 11) [9,11]]
def S3:List RI:=[om 14 5,om 15 0,oo 16 (.len true (.t 15)) [15],oo 17 (Bb .lss 14 16) [14,16],omk 18 17,.grp 18 true [(xi 19 18 true (Mv 0)),(xi 20 18 true (Mv 5)),(xi 21 18 true (.idxS (.t 19) (.t 20))),(xi 22 18 true (.bin .eql (.t 21) (.c (.u8 42))))] [19,20,21],oo 23 (Pf 18 22) [18,22],omk 13 23]
def S2:List RI:=[om 24 5,om 25 6,omk 26 5,oo 27 (Bc .add 26 1) [26],omk 7 24,omk 8 25,omk 5 27]
def S1:List FI:=[Fm 0 29 5,Fm 1 30 0,Fs 2 31 (.len true (.t 30)),Fs 3 32 (Bb .lss 29 31),Fm 4 33 32,Fi 5 34 33 true (Mv 0),Fi 6 35 33 true (Mv 5),Fi 7 36 33 true (.idxS (.t 34) (.t 35)),Fi 8 37 33 true (.bin .eql (.t 36) (.c (.u8 63))),Fi 9 38 33 true (Mv 37),Fi 10 39 38 false (Mv 0),Fi 11 40 38 false (Mv 5),Fi 12 41 38 false (.idxS (.t 39) (.t 40)),Fi 13 42 38 false (Mv 1),Fi 14 43 38 false (Mv 6),Fi 15 44 38 false (Ia 1 42 43),Fi 16 45 38 false (Ld 44),Fi 17 46 38 false (Bb .eql 41 45),Fi 18 47 33 true (Pt 38 46),Fs 19 48 (Pf 33 47),Fm 20 28 48]
def S0:List RI:=[omk 49 5,oo 50 (Bc .add 49 1) [49],omk 51 6,oo 52 (Bc .add 51 1) [51],omk 5 50,omk 6 52]
def SZ:List RI:=[om 54 7,oo 55 (Bc .geq 54 0) [54],omk 53 55]
def SY:List RI:=[om 56 7,oo 57 (Bc .add 56 1) [56],om 58 8,oo 59 (Bc .add 58 1) [58],omk 60 8,oo 61 (Bc .add 60 1) [60],omk 5 57,omk 6 59,omk 8 61]
def yI:RC:=(Sq (So S4 (Kc 12 (Kk [12] .skip) (Kk [1,6,7,8,12] (.exit 0)))) (Bk 1 (Bk 2 (So S3 (Kc 13 (Kk [7,8,13] (.ops S2)) (Kk [13] (Sq (.flt [0,0,2,7,15,31,31,127,255,511,1023,1023,4095,1023,1023,25599,58367,131071,262143,524287,1048575] [] S1 [29,30,31,32,33,34,35,36,37,38,39,40,41,42,43,44,45,46,47,48]) (Kc 28 (Kk [28] (.ops S0)) (Kk [5,6,28] (So SZ (Kc 53 (Kk [53] (.ops SY)) (Kk [0,1,7,8,53] (So oh .ret)))))))))))))
def xL:RC:=yI
def GY:List RI:=[omk 62 0,omk 63 5,oo 64 (.slcS (.t 62) (some (.t 63)) none) [62,63],oo 65 (Ca 127 [.t 64,(.c (.str [42]))]) [64],oo 66 (.bin .eql (.t 65) (.c (.str []))) [65],omk 4 66]
def r86:RC:=(So qw (So S5 (Sq (Bk 0 (.loop xL)) (So GY .ret))))
def F86:FnC:=⟨r86,67,[.tmp 4],[],[]⟩
def NT:List RI:=[oo 4 (.mov (.c (.str []))) [4],oo 5 (Mb false) [5]]
def SX:List RI:=[omk 6 0,omk 7 1,oo 8 (Ca 128 [.t 6,.t 7]) [6,7],on 9 (.ext (.t 8) 0),oo 10 (.ext (.t 8) 1) [8],omk 4 9,omk 5 10]
def r87:RC:=(So NT (So SX .ret))
def F87:FnC:=⟨r87,11,[.tmp 4,.tmp 5],[],[]⟩
def SW:List RI:=[om 6 0,oo 7 (.bin .eql (.t 6) (.c (.str []))) [6],omk 8 7,.grp 8 false [(xi 9 8 false (Mv 0)),(xi 10 8 false (.len true (.t 9))),(xi 11 8 false (Bc .gtr 10 10))] [9,10],oo 12 (Pt 8 11) [8,11],omk 13 12,.grp 13 false [(xi 14 13 false (Mv 0)),(xi 15 13 false (.len true (.t 14))),(xi 16 13 false (Bc .gtr 15 1)),(xi 17 13 false (Mv 16))] [14,15,16],.grp 17 true [(xi 18 17 true (Mv 0)),(xi 19 17 true (.idxS (.t 18) (ci 0))),(xi 20 17 true (.bin .eql (.t 19) (.c (.u8 48))))] [18,19],.grp 13 false [(xi 21 13 false (Pf 17 20))] [17,20],oo 22 (Pt 13 21) [13,21]]
def SU:List RI:=[om 23 0,oo 24 (.len true (.t 23)) [23],on 25 (Mc 0)]
def SS:List RI:=[on 26 (Bb .lss 25 24)]
def SR:List RI:=[om 27 25,omk 3 27]
def SQ:List RI:=[om 28 0,om 29 3,oo 30 (.idxS (.t 28) (.t 29)) [28,29],oo 31 (.bin .lss (.t 30) (.c (.u8 48))) [30],omk 32 31,.grp 32 false [(xi 33 32 false (Mv 0)),(xi 34 32 false (Mv 3)),(xi 35 32 false (.idxS (.t 33) (.t 34))),(xi 36 32 false (.bin .gtr (.t 35) (.c (.u8 57))))] [3,33,34,35],oo 37 (Pt 32 36) [32,36]]
def SP:List RI:=[oo 38 (Bc .add 25 1) [25],omk 25 38]
def Ox:RC:=(So SS (Sq (Kc 26 (Kk [26] .skip) (Kk [24,25,26] (.exit 0))) (Sq (Bk 1 (So SR (So SQ (Kc 37 (Kk [0,24,25,37] (So wn .ret)) (Kk [37] .skip))))) (.ops SP))))
def NS:RC:=Ox
def GX:List RI:=[omk 40 0,oo 41 (Ca 129 [.t 40]) [40],omk 39 41,on 42 (.ext (.t 39) 0),oo 43 (.ext (.t 39) 1) [39],omk 4 42,.op (xm 5 43) [5,43]]
def GV:List RI:=[omk 44 4,omk 2 44]
def r88:RC:=(So js (Sq (So SW (Kc 22 (Kk [0,22] (So wn .ret)) (Kk [22] .skip))) (Sq (So SU (Bk 0 (.loop NS))) (So GX (So GV .ret)))))
def F88:FnC:=⟨r88,45,[.tmp 2],[],[]⟩
def SN:List RI:=[on 4 (Fa 0 1),oo 5 (Ld 4) [4],oo 6 (Bc .lss 5 1) [5],omk 7 6,.grp 7 false [(xi 8 7 false (Fa 0 1)),(xi 9 7 false (Ld 8)),(xi 10 7 false (Bc .gtr 9 4))] [8,9],oo 11 (Pt 7 10) [7,10],omk 12 11,.grp 12 false [(xi 13 12 false (Fa 2 1)),(xi 14 12 false (Ld 13)),(xi 15 12 false (Bc .lss 14 0))] [13,14],oo 16 (Pt 12 15) [12,15],omk 17 16,.grp 17 false [(xi 18 17 false (Fa 2 1)),(xi 19 17 false (Ld 18)),(xi 20 17 false (Bc .gtr 19 1000000))] [18,19],oo 21 (Pt 17 20) [17,20],omk 3 21]
def SM:List RI:=[on 23 (Fa 1 1),oo 24 (Ld 23) [23],oo 25 (Ca 130 [.t 24]) [24],oo 26 (.un .not (.t 25)) [25],omk 22 26]
def SL:List RI:=[on 28 (Fa 3 1),oo 29 (Ld 28) [28],oo 30 (Ln 29) [29],oo 31 (Bc .gtr 30 64) [30],omk 27 31]
def SK:List RI:=[on 33 (Fa 0 1),oo 34 (Ld 33) [33],oo 35 (Bc .eql 34 4) [34],omk 36 35,.grp 36 true [(xi 37 36 true (Lt 4 1)),(xi 38 36 true (Ca 98 [.t 37])),(xi 39 36 true (Ln 38)),(xi 40 36 true (Bc .eql 39 0))] [1,37,38,39],oo 41 (Pf 36 40) [36,40],omk 32 41]
def r89:RC:=(So wv (Sq (Bk 0 (So SN (Kc 3 (Kk [1,3] (So ks .ret)) (Kk [3] (So SM (Kc 22 (Kk [1,22] (So wu .ret)) (Kk [22] (So SL (Kc 27 (Kk [1,27] (So tC .ret)) (Kk [27] (So SK (Kc 32 (Kk [32] (So tu .ret)) (Kk [32] .skip))))))))))))) (So jt .ret)))
def F89:FnC:=⟨r89,42,[.tmp 2],[],[]⟩
def SD:List RI:=[omk 9 0]
def SC:List RI:=[on 11 (Bc .eql 9 0),omk 10 11]
def SB:List RI:=[on 12 (.build [.int .u32 0,.int .u32 0,.int .u32 0,.int .u32 0,.int .u32 0] [(0,1,(.c (.int .u32 1732584193))),(1,1,(.c (.int .u32 4023233417))),(2,1,(.c (.int .u32 2562383102))),(3,1,(.c (.int .u32 271733878))),(4,1,(.c (.int .u32 3285377520)))]),on 5 (.new (.arr 1 (al 5 [.int .u32 0]))),Sr 5 5 12 [12]]
def SA:List RI:=[omk 13 1,oo 14 (Ca 131 [.t 13]) [13],omk 6 14]
def Sz:List RI:=[om 15 6,oo 16 (Ln 15) [15],oo 17 (Bc .gtr 16 0) [16]]
def Sx:List RI:=[om 20 6,oo 21 (.slcL 1 (.t 20) none (some (ci 64)) none) [20],oo 22 (Ca 132 [.t 5,.t 21]) [21,22]]
def Sw:List RI:=[omk 18 6,oo 19 (.slcL 1 (.t 18) (some (ci 64)) none none) [18],omk 6 19]
def Ow:RC:=(Sq (So Sz (Kc 17 (Kk [17] .skip) (Kk [6,17] (.exit 1)))) (Sq (Bk 2 (.ops Sx)) (.ops Sw)))
def NQ:RC:=Ow
def Sv:List RI:=[oo 23 (.slcA 5 1 (.t 5) none none none) [5],oo 24 (Ca 133 [.t 23]) [23],omk 4 24]
def GU:List RI:=[oo 26 (Bc .eql 9 1) [9],omk 25 26]
def GT:List RI:=[on 27 (.build [.int .u32 0,.int .u32 0,.int .u32 0,.int .u32 0,.int .u32 0,.int .u32 0,.int .u32 0,.int .u32 0] [(0,1,(.c (.int .u32 1779033703))),(1,1,(.c (.int .u32 3144134277))),(2,1,(.c (.int .u32 1013904242))),(3,1,(.c (.int .u32 2773480762))),(4,1,(.c (.int .u32 1359893119))),(5,1,(.c (.int .u32 2600822924))),(6,1,(.c (.int .u32 528734635))),(7,1,(.c (.int .u32 1541459225)))]),on 7 (.new (.arr 1 (al 8 [.int .u32 0]))),Sr 8 7 27 [27]]
def GS:List RI:=[omk 28 1,oo 29 (Ca 131 [.t 28]) [28],omk 8 29]
def GR:List RI:=[om 30 8,oo 31 (Ln 30) [30],oo 32 (Bc .gtr 31 0) [31]]
def GQ:List RI:=[om 35 8,oo 36 (.slcL 1 (.t 35) none (some (ci 64)) none) [35],oo 37 (Ca 134 [.t 7,.t 36]) [36,37]]
def GP:List RI:=[omk 33 8,oo 34 (.slcL 1 (.t 33) (some (ci 64)) none none) [33],omk 8 34]
def yH:RC:=(Sq (So GR (Kc 32 (Kk [32] .skip) (Kk [8,32] (.exit 3)))) (Sq (Bk 4 (.ops GQ)) (.ops GP)))
def xK:RC:=yH
def GO:List RI:=[oo 38 (.slcA 8 1 (.t 7) none none none) [7],oo 39 (Ca 133 [.t 38]) [38],omk 4 39]
def r90:RC:=(So kY (Sq (So SD (Bk 0 (So SC (Kc 10 (Kk [9,10] (So SB (Sq (So SA (Bk 1 (.loop NQ))) (So Sv .ret)))) (Kk [10] (So GU (Kc 25 (Kk [25] (So GT (Sq (So GS (Bk 3 (.loop xK))) (So GO .ret)))) (Kk [1,25] .skip)))))))) (So kr .ret)))
def F90:FnC:=⟨r90,40,[.tmp 4],[],[]⟩
def Su:List RI:=[on 4 (Lt 4 1),oo 5 (Ca 89 [.t 4]) [4],oo 6 (Bc .neq 5 0) [5]]
def Ss:List RI:=[on 7 (Fa 0 1),oo 8 (Ld 7) [7],oo 9 (Ca 48 [(.c (.byt [] .clip)),ci 1,.t 8]) [8],omk 3 9]
def Sp:List RI:=[omk 10 3,on 11 (Fa 2 1),oo 12 (Ld 11) [11],oo 13 (Ca 48 [.t 10,ci 4,.t 12]) [10,12],omk 3 13]
def Sn:List RI:=[omk 14 3,on 15 (Fa 1 1),oo 16 (Ld 15) [15],oo 17 (.s2b (.t 16)) [16],oo 18 (Ca 49 [.t 14,.t 17]) [14,17],omk 3 18]
def Sm:List RI:=[omk 19 3,oo 20 (Fa 3 1) [1],oo 21 (Ld 20) [20],oo 22 (Ca 49 [.t 19,.t 21]) [19,21],omk 2 22]
def r91:RC:=(So wt (Sq (So Su (Kc 6 (Kk [1,6] (So wq .ret)) (Kk [6] .skip))) (So Ss (So Sp (So Sn (So Sm .ret))))))
def F91:FnC:=⟨r91,23,[.tmp 2],[],[]⟩
def Sl:List RI:=[om 5 0,oo 6 (Ln 5) [5],omk 4 6]
def Sk:List RI:=[omk 7 0,om 8 4,omk 9 4,oo 10 (.toInt .u64 (.t 9)) [9],oo 11 (Ca 136 [.t 10]) [10],omk 12 1,oo 13 (Ca 135 [.t 7,ci 0,.t 8,.t 11,.t 12]) [7,8,11,12,13]]
def r92:RC:=(So Sl (.ops Sk))
def F92:FnC:=⟨r92,14,[],[],[]⟩
def Sj:List RI:=[om 8 0,oo 9 (Ln 8) [8],oo 10 (Bc .lss 9 2) [9]]
def Si:List RI:=[omk 11 0,omk 4 11]
def Sh:List RI:=[om 12 5,om 13 0,oo 14 (Ln 13) [13],oo 15 (Bb .lss 12 14) [12,14]]
def Sg:List FI:=[Fm 0 18 1,Fm 1 19 0,Fm 2 20 5,Fs 3 21 (Ia 4 19 20),Fs 4 22 (Lt 4 21),Fm 5 23 0,Fm 6 24 5,Fs 7 25 (Bc .sub 24 1),Fs 8 26 (Ia 4 23 25),Fs 9 27 (Lt 4 26),Fz 10 28 (.call (.t 18) [.t 22,.t 27])]
def Sf:List RI:=[om 29 0,om 30 5,oo 31 (.slcL 4 (.t 29) (some (.t 30)) none none) [29,30],omk 6 31]
def Se:List RI:=[on 7 (Mc 1)]
def Sd:List RI:=[om 32 7,om 33 6,oo 34 (Ln 33) [33],oo 35 (Bb .lss 32 34) [32,34]]
def Sc:List FI:=[Fm 0 38 1,Fm 1 39 6,Fm 2 40 7,Fs 3 41 (Ia 4 39 40),Fs 4 42 (Lt 4 41),Fm 5 43 6,Fm 6 44 7,Fs 7 45 (Bc .sub 44 1),Fs 8 46 (Ia 4 43 45),Fs 9 47 (Lt 4 46),Fz 10 48 (.call (.t 38) [.t 42,.t 47]),Fs 11 49 (.un .not (.t 48))]
def GN:List RI:=[om 50 0,om 51 5,om 52 6,om 53 7,oo 54 (Ia 4 52 53) [52,53],oo 55 (Lt 4 54) [54],oo 56 (Ia 4 50 51) [50,51],Sr 4 56 55 [55,56]]
def GL:List RI:=[omk 57 5,oo 58 (Bc .add 57 1) [57],omk 5 58]
def GK:List RI:=[omk 36 7,oo 37 (Bc .add 36 1) [36],omk 7 37]
def yG:RC:=(Sq (So Sd (Kc 35 (Kk [35] .skip) (Kk [1,6,7,35] (.exit 2)))) (Sq (Bk 3 (Sq (.flt [0,0,0,6,14,0,0,64,224,480,1023,2047] [] Sc [38,39,40,41,42,43,44,45,46,47,48]) (Kc 49 (Kk [49] (So GN (.ops GL))) (Kk [49] .skip)))) (.ops GK)))
def xJ:RC:=yG
def GJ:List RI:=[om 59 0,om 60 5,oo 61 (.slcL 4 (.t 59) (some (.t 60)) none none) [59,60],.op ⟨none,none,.clr [.int .i64 0,.str [],.int .i64 0,(.byt [] .no)] (.t 61)⟩ [61]]
def GI:List RI:=[omk 62 0,omk 63 5,oo 64 (.slcL 4 (.t 62) none (some (.t 63)) none) [62,63],omk 4 64]
def xI:List RI:=[omk 16 5,oo 17 (Bc .add 16 1) [16],omk 5 17]
def yF:RC:=(Sq (So Sh (Kc 15 (Kk [15] .skip) (Kk [1,5,15] (.exit 0)))) (Sq (Bk 1 (Sq (.flt [0,0,0,6,14,0,0,64,224,480,1023] [] Sg [18,19,20,21,22,23,24,25,26,27]) (Kc 28 (Kk [28] (So Sf (Sq (So Se (Bk 2 (.loop xJ))) (So GJ (So GI .ret))))) (Kk [28] .skip)))) (.ops xI)))
def tq:RC:=yF
def GH:List RI:=[omk 65 0,omk 4 65]
def r93:RC:=(So Oi (Sq (So Sj (Kc 10 (Kk [1,10] (So Si .ret)) (Kk [10] .skip))) (Sq (So Og (Bk 0 (.loop tq))) (So GH .ret))))
def F93:FnC:=⟨r93,66,[.tmp 4],[],[0]⟩
def Sb:List RI:=[oo 5 (Lt 4 2) [2],oo 6 (Lt 4 3) [3],oo 7 (Ca 43 [.t 5,.t 6]) [5,6],oo 8 (Bc .eql 7 0) [7],omk 4 8]
def r94:RC:=(So DX (So Sb .ret))
def F94:FnC:=⟨r94,9,[.tmp 4],[],[]⟩
def Sa:List RI:=[on 4 (Lt 4 1),oo 5 (Ca 100 [.t 4]) [4],oo 6 (Bc .neq 5 0) [5]]
def R9:List RI:=[on 7 (Fa 0 1),oo 8 (Ld 7) [7],oo 9 (Ca 57 [(.c (.byt [] .clip)),ci 1,.t 8]) [8],omk 3 9]
def R8:List RI:=[omk 10 3,on 11 (Fa 2 1),oo 12 (Ld 11) [11],oo 13 (Ca 57 [.t 10,ci 4,.t 12]) [10,12],omk 3 13]
def R7:List RI:=[omk 14 3,on 15 (Fa 1 1),oo 16 (Ld 15) [15],oo 17 (.s2b (.t 16)) [16],oo 18 (Ca 56 [.t 14,.t 17]) [14,17],omk 3 18]
def R6:List RI:=[omk 19 3,oo 20 (Fa 3 1) [1],oo 21 (Ld 20) [20],oo 22 (Ca 56 [.t 19,.t 21]) [19,21],omk 2 22]
def r95:RC:=(So wt (Sq (So Sa (Kc 6 (Kk [1,6] (So wq .ret)) (Kk [6] .skip))) (So R9 (So R8 (So R7 (So R6 .ret))))))
def F95:FnC:=⟨r95,23,[.tmp 2],[],[]⟩
def R5:List RI:=[oo 6 (Fa 3 1) [1],oo 7 (Ld 6) [6],omk 4 7]
def R4:List RI:=[om 8 4,oo 9 (Ln 8) [8],oo 10 (Bc .gtr 9 0) [9]]
def R3:List RI:=[om 11 4,oo 12 (Ca 138 [.t 11,(.c (.u8 10))]) [11],omk 5 12]
def R2:List RI:=[om 13 5,oo 14 (Bc .lss 13 1) [13],omk 15 14,.grp 15 false [(xi 16 15 false (Mv 3)),(xi 17 15 false (Ln 16)),(xi 18 15 false (Bc .eql 17 4))] [16,17],oo 19 (Pt 15 18) [15,18],omk 20 19,.grp 20 false [(xi 21 20 false (Mv 4)),(xi 22 20 false (Mv 5)),(xi 23 20 false (.slcL 1 (.t 21) none (some (.t 22)) none)),(xi 24 20 false (Ca 139 [.t 23])),(xi 25 20 false (.un .not (.t 24)))] [21,22,23,24],oo 26 (Pt 20 25) [20,25]]
def RZ:List RI:=[omk 27 3,om 28 4,om 29 5,om 30 5,oo 31 (.slcL 1 (.t 28) none (some (.t 29)) (some (.t 30))) [28,29,30],oo 32 (.lit 1 [.t 31]) [31],oo 33 (.app [.byt [] .clip] 24 (.t 27) (.t 32)) [27,32],omk 3 33]
def RY:List RI:=[omk 34 4,omk 35 5,oo 36 (Bc .add 35 1) [35],oo 37 (.slcL 1 (.t 34) (some (.t 36)) none none) [34,36],omk 4 37]
def Ov:RC:=(.post (Sq (So R4 (Kc 10 (Kk [10] .skip) (Kk [4,10] (.exit 0)))) (Bk 1 (So R3 (Sq (So R2 (Kc 26 (Kk [3,4,5,26] (So wk .ret)) (Kk [26] .skip))) (So RZ (.ops RY)))))) [.tok 3 103])
def DT:RC:=Ov
def GG:List RI:=[omk 38 3,omk 2 38]
def r98:RC:=(So N6 (So N5 (Sq (So R5 (Bk 0 (.pre [.tok 3 103] (.loop DT)))) (So GG .ret))))
def F98:FnC:=⟨r98,39,[.tmp 2],[],[]⟩
def Nj:List RI:=[on 3 (Fa 0 1),oo 4 (Ld 3) [3],oo 5 (Bc .lss 4 1) [4],omk 6 5,.grp 6 false [(xi 7 6 false (Fa 0 1)),(xi 8 6 false (Ld 7)),(xi 9 6 false (Bc .gtr 8 4))] [7,8],oo 10 (Pt 6 9) [6,9],omk 11 10,.grp 11 false [(xi 12 11 false (Fa 2 1)),(xi 13 11 false (Ld 12)),(xi 14 11 false (Bc .lss 13 0))] [12,13],oo 15 (Pt 11 14) [11,14],omk 16 15,.grp 16 false [(xi 17 16 false (Fa 2 1)),(xi 18 16 false (Ld 17)),(xi 19 16 false (Bc .gtr 18 1000000))] [17,18],oo 20 (Pt 16 19) [16,19]]
def Ni:List RI:=[on 21 (Fa 1 1),oo 22 (Ld 21) [21],oo 23 (Ca 45 [.t 22]) [22],oo 24 (.un .not (.t 23)) [23]]
def Nh:List RI:=[on 25 (Fa 3 1),oo 26 (Ld 25) [25],oo 27 (Ln 26) [26],oo 28 (Bc .gtr 27 64) [27]]
def Ng:List RI:=[on 29 (Fa 0 1),oo 30 (Ld 29) [29],oo 31 (Bc .eql 30 4) [30],omk 32 31,.grp 32 true [(xi 33 32 true (Lt 4 1)),(xi 34 32 true (Ca 70 [.t 33])),(xi 35 32 true (Ln 34)),(xi 36 32 true (Bc .eql 35 0))] [1,33,34,35],oo 37 (Pf 32 36) [32,36]]
def xh8:RC:=(So wv (Sq (So Nj (Kc 20 (Kk [1,20] (So ks .ret)) (Kk [20] .skip))) (Sq (So Ni (Kc 24 (Kk [1,24] (So wu .ret)) (Kk [24] .skip))) (Sq (So Nh (Kc 28 (Kk [1,28] (So tC .ret)) (Kk [28] .skip))) (Sq (So Ng (Kc 37 (Kk [37] (So tu .ret)) (Kk [37] .skip))) (So jt .ret))))))
def Zr:FnC:=⟨xh8,38,[.tmp 2],[],[]⟩
def Nf:List RI:=[oo 2 (.box (.t 0)) [0],oo 4 (.mov (.c (.lst 1 [] .clip))) [4]]
def Nd:List RI:=[oo 9 (Lt 4 2) [2],oo 10 (Ca 95 [.t 9]) [9],omk 6 10]
def Nc:List RI:=[om 11 7,oo 12 (Bc .lss 11 2) [11]]
def Nb:List RI:=[om 15 6,oo 16 (Ln 15) [15],oo 17 (Bc .gtr 16 0) [16],omk 18 17,.grp 18 true [(xi 19 18 true (Mv 1)),(xi 20 18 true (Mv 7)),(xi 21 18 true (Ca 120 [.t 19,.t 20]))] [19,20],oo 22 (Pf 18 21) [18,21]]
def Na:List RI:=[om 23 5,om 24 7,om 25 7,om 26 6,oo 27 (Ca 121 [.t 25,.t 26]) [25,26],oo 28 (Ia 1 23 24) [23,24],Sr 1 28 27 [27,28]]
def M9:List RI:=[omk 13 7,oo 14 (Bc .add 13 1) [13],omk 7 14]
def zA:RC:=(Sq (So Nc (Kc 12 (Kk [12] .skip) (Kk [1,6,7,12] (.exit 0)))) (Sq (Bk 1 (So Nb (Kc 22 (Kk [22] (.ops Na)) (Kk [22] .skip)))) (.ops M9)))
def M8:RC:=zA
def M7:List RI:=[omk 29 5,omk 4 29]
def xh7:RC:=(So Nf (So N4 (So Nd (Sq (So wo (Bk 0 (.loop M8))) (So M7 .ret)))))
def Zq:FnC:=⟨xh7,30,[.tmp 4],[],[]⟩
def M6:List RI:=[on 0 (.new (.arr 1 (al 3 [.str []])))]
def M5:List RI:=[on 1 (.build [.str [],.str [],.str []] [(0,1,(.c (.str [97,99,109,101]))),(1,1,(.c (.str [118,50]))),(2,1,(.c (.str [120,45,121])))]),Sr 3 0 1 [1]]
def xh6:RC:=(So M6 (So M5 .ret))
def Zp:FnC:=⟨xh6,2,[.cell 0 3 true],[],[]⟩
def M4:List RI:=[on 2 (.new (.rc Zq3))]
def M3:List RI:=[om 5 0,oo 6 (Ca 71 [.t 5,ci 5]) [5]]
def M2:List RI:=[on 8 (Bc .eql 6 0),omk 7 8]
def M1:List RI:=[on 9 (.build Zq3 [(0,1,(ci 1))]),Sr 4 2 9 [9]]
def M0:List RI:=[on 11 (Bc .eql 6 1),omk 10 11]
def MZ:List RI:=[omk 12 0,oo 13 (Ca 73 [.t 12]) [12],oo 14 (.b2s (.t 13)) [13],oo 15 (.build Zq3 [(0,1,(ci 2)),(1,1,(.t 14))]) [14],Sr 4 2 15 [15]]
def MY:List RI:=[oo 17 (Bc .eql 6 2) [6],omk 16 17]
def MX:List RI:=[on 18 (.build [.str [],.str [],.str [],.str [],.str [],.str [],.str []] [(0,1,(.c (.str []))),(1,1,(.c (.str [42]))),(2,1,(.c (.str [97,61,63]))),(3,1,(.c (.str [42,61,42]))),(4,1,(.c (.str [63,111,42,53]))),(5,1,(.c (.str [99,111,117,110,116,61,63,63]))),(6,1,(.c (.str [42,97,42,42,49,42])))]),on 3 (.new (.arr 1 (al 7 [.str []]))),Sr 7 3 18 [18]]
def MW:List RI:=[omk 19 0,oo 20 (Ca 71 [.t 19,ci 7]) [19],oo 21 (.iaddrA 7 1 (.t 3) (.t 20)) [3,20],oo 22 (Ld 21) [21],oo 23 (.build Zq3 [(0,1,(ci 3)),(1,1,(.t 22))]) [22],Sr 4 2 23 [23]]
def MV:List RI:=[om 24 0,oo 25 (Ca 71 [.t 24,ci 20]) [24],omk 4 25]
def BV:List FI:=[Fs 0 26 (.build [.str [],.str [],.str []] [(0,1,(.c (.str [99,111,117,110,116,61]))),(1,1,(.c (.str [97,61]))),(2,1,(.c (.str [])))]),Fm 1 27 0,Fm 4 30 4,Fm 5 31 4,Fm 6 32 0,Fz 2 28 (Ca 71 [.t 27,ci 3]),Fs 3 29 (.idxA 3 1 false (.t 26) (.t 28)),Fz 7 33 (Ca 71 [.t 32,ci 30]),Fs 8 34 (Bb .add 31 33),Fs 9 35 (.build Zq3 [(0,1,(ci 4)),(1,1,(.t 29)),(2,1,(.t 30)),(3,1,(.t 34))]),Fr 10 4 2 35]
def xh5:RC:=(So M4 (Sq (So M3 (Bk 0 (So M2 (Kc 7 (Kk [0,6,7] (So M1 .ret)) (Kk [7] (So M0 (Kc 10 (Kk [6,10] (So MZ .ret)) (Kk [10] (So MY (Kc 16 (Kk [16] (So MX (So MW .ret))) (Kk [16] .skip))))))))))) (So MV (Sq (.flt [0,0,2,7,0,0,0,70,230,511,1023] [] BV [0,4,26,27,28,29,30,31,32,33,34,35]) .ret))))
def Zo:FnC:=⟨xh5,36,[.cell 2 4 true],[],[]⟩
def MU:List RI:=[omk 6 0,on 7 (Ln 6),on 8 (Mc 0)]
def MT:List RI:=[on 10 (Ia 1 6 8),oo 11 (Ld 10) [10],omk 5 11]
def MS:List RI:=[om 12 5,om 13 3,oo 14 (Bb .neq 12 13) [12,13]]
def MR:List RI:=[omk 15 5,omk 2 15]
def MQ:List RI:=[oo 16 (Bc .add 8 1) [8],omk 8 16]
def zy:RC:=(So DV (Sq (Kc 9 (Kk [9] .skip) (Kk [6,7,8,9] (.exit 0))) (Sq (Bk 1 (So MT (So MS (Kc 14 (Kk [3,6,7,8,14] (So MR .ret)) (Kk [5,14] .skip))))) (.ops MQ))))
def MP:RC:=zy
def MO:List RI:=[omk 17 3,omk 2 17]
def xh4:RC:=(So js (So Oc (Sq (So MU (Bk 0 (.loop MP))) (So MO .ret))))
def Zn:FnC:=⟨xh4,18,[.tmp 2],[],[]⟩
def MN:List RI:=[om 7 0,oo 8 (Ca 141 [.t 7]) [7],omk 5 8]
def MM:List RI:=[om 9 1,oo 10 (Ca 141 [.t 9]) [9],omk 6 10]
def ML:List RI:=[omk 11 5]
def MK:List RI:=[omk 12 6]
def MJ:List RI:=[omk 13 6]
def yv:List RI:=[on 4 (Mc 1)]
def MI:List RI:=[om 14 0,om 15 1,oo 16 (Bb .lss 14 15) [14,15]]
def BU:List RI:=[omk 17 0,omk 18 1,oo 19 (Bb .gtr 17 18) [17,18]]
def xh3:RC:=(So oi (So MN (So MM (Sq (So ML (Kc 11 (Kk [0,1,11] (Sq (So MK (Kc 12 (Kk [12] (So lF .ret)) (Kk [12] .skip))) (So og .ret))) (Kk [11] .skip))) (Sq (So MJ (Kc 13 (Kk [0,1,13] (So yv .ret)) (Kk [13] .skip))) (Sq (So MI (Kc 16 (Kk [0,1,16] (So og .ret)) (Kk [16] .skip))) (Sq (So BU (Kc 19 (Kk [19] (So yv .ret)) (Kk [19] .skip))) (So lF .ret))))))))
def Zm:FnC:=⟨xh3,20,[.tmp 4],[],[]⟩
def MH:List RI:=[omk 5 0,omk 6 1,oo 7 (Ca 142 [.t 5,.t 6]) [5,6],omk 4 7]
def xh2:RC:=(So oi (So MH .ret))
def Zl:FnC:=⟨xh2,8,[.tmp 4],[],[]⟩
def MG:List RI:=[om 6 5,om 7 0,oo 8 (Ln 7) [7],oo 9 (Bb .lss 6 8) [6,8],omk 10 9,.grp 10 true [(xi 11 10 true (Mv 5)),(xi 12 10 true (Mv 1)),(xi 13 10 true (Ln 12)),(xi 14 10 true (Bb .lss 11 13))] [11,12,13],oo 15 (Pf 10 14) [10,14]]
def MF:List FI:=[Fm 0 18 0,Fm 1 19 5,Fs 2 20 (Ia 1 18 19),Fs 3 21 (Ld 20),Fm 4 22 1,Fm 5 23 5,Fs 6 24 (Ia 1 22 23),Fs 7 25 (Ld 24),Fs 8 26 (Bb .neq 21 25)]
def ME:List FI:=[Fm 0 27 0,Fm 1 28 5,Fs 2 29 (Ia 1 27 28),Fs 3 30 (Ld 29),Fm 4 31 1,Fm 5 32 5,Fs 6 33 (Ia 1 31 32),Fs 7 34 (Ld 33),Fs 8 35 (Bb .lss 30 34),Fm 9 4 35]
def zx:RC:=(Sq (So MG (Kc 15 (Kk [15] .skip) (Kk [5,15] (.exit 0)))) (Sq (Bk 1 (Sq (.flt [0,0,3,7,0,0,48,112,255] [] MF [18,19,20,21,22,23,24,25]) (Kc 26 (Kk [26] (Sq (.flt [0,0,3,7,0,0,48,112,255,511] [] ME [0,1,5,27,28,29,30,31,32,33,34,35]) .ret)) (Kk [26] .skip)))) (.ops xI)))
def yu:RC:=zx
def MD:List RI:=[omk 36 0,oo 37 (Ln 36) [36],omk 38 1,oo 39 (Ln 38) [38],oo 40 (Bb .lss 37 39) [37,39],omk 4 40]
def xh1:RC:=(So qw (Sq (So qx (Bk 0 (.loop yu))) (So MD .ret)))
def Zk:FnC:=⟨xh1,41,[.tmp 4],[],[]⟩
def MC:List RI:=[omk 4 0,omk 5 1,oo 6 (.nchk (.t 4)) [4],oo 7 (Fa 2 6) [6],Sr 1 7 5 [5,7]]
def xh0:RC:=(.ops MC)
def Zj:FnC:=⟨xh0,8,[],[],[]⟩
def MB:List RI:=[oo 6 (.mov (.c (.byt [] .clip))) [6],oo 7 (Mc 0) [7]]
def MA:List RI:=[om 8 2,om 9 0,oo 10 (.nchk (.t 9)) [9],oo 11 (Fa 0 10) [10],oo 12 (Ld 11) [11],oo 13 (Ln 12) [12],om 14 1,oo 15 (Bb .sub 13 14) [13,14],oo 16 (Bb .gtr 8 15) [8,15]]
def Mz:List RI:=[on 6 (.mov (.c (.byt [] .clip))),on 7 (Mc 2)]
def My:List RI:=[omk 17 0,oo 18 (.nchk (.t 17)) [17],oo 19 (Fa 0 18) [18],oo 20 (Ld 19) [19],om 21 1,omk 22 1,omk 23 2,oo 24 (Bb .add 22 23) [22,23],oo 25 (.slcL 1 (.t 20) (some (.t 21)) (some (.t 24)) none) [20,21,24],omk 6 25,on 7 (Mc 0)]
def xhZ:RC:=(So MB (Sq (So MA (Kc 16 (Kk [0,1,2,16] (So Mz .ret)) (Kk [16] .skip))) (So My .ret)))
def Zi:FnC:=⟨xhZ,26,[.tmp 6,.tmp 7],[],[]⟩
def Mx:List FI:=[Fm 0 3 0,Fs 1 4 (.nchk (.t 3)),Fs 2 5 (Fa 0 4),Fs 3 6 (Ld 5),Fs 4 7 (Ln 6),Fm 5 8 0,Fs 6 9 (.nchk (.t 8)),Fs 7 10 (Fa 1 9),Fs 8 11 (Ld 10),Fs 9 12 (Bb .sub 7 11),Fm 10 2 12]
def xhY:RC:=(So js (Sq (.flt [0,1,3,7,15,0,32,96,224,511,1023] [] Mx [0,3,4,5,6,7,8,9,10,11,12]) .ret))
def Zh:FnC:=⟨xhY,13,[.tmp 2],[],[]⟩
def Mw:List RI:=[omk 9 0,oo 10 (.toInt .u8 (.t 9)) [9],oo 11 (.litB [.t 10]) [10],omk 5 11]
def Mu:List RI:=[omk 12 1,on 13 (Ln 12),on 14 (Mc 0)]
def Mt:List RI:=[on 15 (Bb .lss 14 13)]
def Ms:List RI:=[on 16 (Ia 1 12 14),oo 17 (Ld 16) [16],omk 7 17]
def Mr:List RI:=[om 18 7,oo 19 (Ln 18) [18],oo 20 (.toInt .u32 (.t 19)) [19],omk 8 20]
def Mq:List RI:=[omk 21 5,om 22 8,oo 23 (.bin .shr (.t 22) (.c (.int .u64 24))) [22],oo 24 (.toInt .u8 (.t 23)) [23],om 25 8,oo 26 (.bin .shr (.t 25) (.c (.int .u64 16))) [25],oo 27 (.toInt .u8 (.t 26)) [26],om 28 8,oo 29 (.bin .shr (.t 28) (.c (.int .u64 8))) [28],oo 30 (.toInt .u8 (.t 29)) [29],omk 31 8,oo 32 (.toInt .u8 (.t 31)) [31],oo 33 (.litB [.t 24,.t 27,.t 30,.t 32]) [24,27,30,32],oo 34 (.app [.u8 0] 1 (.t 21) (.t 33)) [21,33],omk 5 34]
def Mp:List RI:=[omk 35 5,omk 36 7,oo 37 (.app [.u8 0] 1 (.t 35) (.t 36)) [35,36],omk 5 37]
def Mo:List RI:=[oo 38 (Bc .add 14 1) [14],omk 14 38]
def zw:RC:=(.post (So Mt (Sq (Kc 15 (Kk [15] .skip) (Kk [12,13,14,15] (.exit 0))) (Sq (Bk 1 (So Ms (So Mr (So Mq (.ops Mp))))) (.ops Mo)))) [.tok 5 105])
def Mn:RC:=zw
def BT:List RI:=[omk 39 5,omk 4 39]
def xhX:RC:=(So kY (So Mw (Sq (So Mu (Bk 0 (.pre [.tok 5 105] (.loop Mn)))) (So BT .ret))))
def Zg:FnC:=⟨xhX,40,[.tmp 4],[],[]⟩
def Mm:List RI:=[on 0 (.new (.arr 1 (al 64 [.int .u32 0])))]
def Ml:List RI:=[on 1 (.build [.int .u32 0,.int .u32 0,.int .u32 0,.int .u32 0,.int .u32 0,.int .u32 0,.int .u32 0,.int .u32 0,.int .u32 0,.int .u32 0,.int .u32 0,.int .u32 0,.int .u32 0,.int .u32 0,.int .u32 0,.int .u32 0,.int .u32 0,.int .u32 0,.int .u32 0,.int .u32 0,.int .u32 0,.int .u32 0,.int .u32 0,.int .u32 0,.int .u32 0,.int .u32 0,.int .u32 0,.int .u32 0,.int .u32 0,.int .u32 0,.int .u32 0,.int .u32 0,.int .u32 0,.int .u32 0,.int .u32 0,.int .u32 0,.int .u32 0,.int .u32 0,.int .u32 0,.int .u32 0,.int .u32 0,.int .u32 0,.int .u32 0,.int .u32 0,.int .u32 0,.int .u32 0,.int .u32 0,.int .u32 0,.int .u32 0,.int .u32 0,.int .u32 0,.int .u32 0,.int .u32 0,.int .u32 0,.int .u32 0,.int .u32 0,.int .u32 0,.int .u32 0,.int .u32 0,.int .u32 0,.int .u32 0,.int .u32 0,.int .u32 0,.int .u32 0] [(0,1,(.c (.int .u32 1116352408))),(1,1,(.c (.int .u32 1899447441))),(2,1,(.c (.int .u32 3049323471))),(3,1,(.c (.int .u32 3921009573))),(4,1,(.c (.int .u32 961987163))),(5,1,(.c (.int .u32 1508970993))),(6,1,(.c (.int .u32 2453635748))),(7,1,(.c (.int .u32 2870763221))),(8,1,(.c (.int .u32 3624381080))),(9,1,(.c (.int .u32 310598401))),(10,1,(.c (.int .u32 607225278))),(11,1,(.c (.int .u32 1426881987))),(12,1,(.c (.int .u32 1925078388))),(13,1,(.c (.int .u32 2162078206))),(14,1,(.c (.int .u32 2614888103))),(15,1,(.c (.int .u32 3248222580))),(16,1,(.c (.int .u32 3835390401))),(17,1,(.c (.int .u32 4022224774))),(18,1,(.c (.int .u32 264347078))),(19,1,(.c (.int .u32 604807628))),(20,1,(.c (.int .u32 770255983))),(21,1,(.c (.int .u32 1249150122))),(22,1,(.c (.int .u32 1555081692))),(23,1,(.c (.int .u32 1996064986))),(24,1,(.c (.int .u32 2554220882))),(25,1,(.c (.int .u32 2821834349))),(26,1,(.c (.int .u32 2952996808))),(27,1,(.c (.int .u32 3210313671))),(28,1,(.c (.int .u32 3336571891))),(29,1,(.c (.int .u32 3584528711))),(30,1,(.c (.int .u32 113926993))),(31,1,(.c (.int .u32 338241895))),(32,1,(.c (.int .u32 666307205))),(33,1,(.c (.int .u32 773529912))),(34,1,(.c (.int .u32 1294757372))),(35,1,(.c (.int .u32 1396182291))),(36,1,(.c (.int .u32 1695183700))),(37,1,(.c (.int .u32 1986661051))),(38,1,(.c (.int .u32 2177026350))),(39,1,(.c (.int .u32 2456956037))),(40,1,(.c (.int .u32 2730485921))),(41,1,(.c (.int .u32 2820302411))),(42,1,(.c (.int .u32 3259730800))),(43,1,(.c (.int .u32 3345764771))),(44,1,(.c (.int .u32 3516065817))),(45,1,(.c (.int .u32 3600352804))),(46,1,(.c (.int .u32 4094571909))),(47,1,(.c (.int .u32 275423344))),(48,1,(.c (.int .u32 430227734))),(49,1,(.c (.int .u32 506948616))),(50,1,(.c (.int .u32 659060556))),(51,1,(.c (.int .u32 883997877))),(52,1,(.c (.int .u32 958139571))),(53,1,(.c (.int .u32 1322822218))),(54,1,(.c (.int .u32 1537002063))),(55,1,(.c (.int .u32 1747873779))),(56,1,(.c (.int .u32 1955562222))),(57,1,(.c (.int .u32 2024104815))),(58,1,(.c (.int .u32 2227730452))),(59,1,(.c (.int .u32 2361852424))),(60,1,(.c (.int .u32 2428436474))),(61,1,(.c (.int .u32 2756734187))),(62,1,(.c (.int .u32 3204031479))),(63,1,(.c (.int .u32 3329325298)))]),Sr 64 0 1 [1]]
def xhW:RC:=(So Mm (So Ml .ret))
def Zf:FnC:=⟨xhW,2,[.cell 0 64 true],[],[]⟩
def Mk:List RI:=[on 6 (.litB []),om 7 0,oo 8 (.app [.u8 0] 1 (.t 6) (.t 7)) [6,7],on 9 (.litB [(.c (.u8 128))]),oo 10 (.app [.u8 0] 1 (.t 8) (.t 9)) [8,9],omk 3 10]
def Mj:List RI:=[om 11 3,oo 12 (Ln 11) [11],oo 13 (Bc .rem 12 64) [12],oo 14 (Bc .neq 13 56) [13]]
def Mi:List RI:=[omk 15 3,on 16 (.litB [(.c (.u8 0))]),oo 17 (.app [.u8 0] 1 (.t 15) (.t 16)) [15,16],omk 3 17]
def zu:RC:=(.post (Sq (So Mj (Kc 14 (Kk [14] .skip) (Kk [14] (.exit 0)))) (Bk 1 (.ops Mi))) [.tok 3 103])
def yr:RC:=zu
def Mh:List RI:=[omk 18 0,oo 19 (Ln 18) [18],oo 20 (.toInt .u64 (.t 19)) [19],oo 21 (.bin .mul (.t 20) (.c (.int .u64 8))) [20],omk 4 21]
def Mg:List RI:=[on 5 (Mc 7)]
def Mf:List RI:=[om 22 5,oo 23 (Bc .geq 22 0) [22]]
def Me:List RI:=[omk 26 3,om 27 4,om 28 5,oo 29 (.toInt .u64 (.t 28)) [28],oo 30 (.bin .mul (.c (.int .u64 8)) (.t 29)) [29],oo 31 (Bb .shr 27 30) [27,30],oo 32 (.toInt .u8 (.t 31)) [31],oo 33 (.litB [.t 32]) [32],oo 34 (.app [.u8 0] 1 (.t 26) (.t 33)) [26,33],omk 3 34]
def Md:List RI:=[omk 24 5,oo 25 (Bc .sub 24 1) [24],omk 5 25]
def s6:RC:=(.post (Sq (So Mf (Kc 23 (Kk [23] .skip) (Kk [4,5,23] (.exit 2)))) (Sq (Bk 3 (.ops Me)) (.ops Md))) [.tok 3 103])
def sa:RC:=s6
def BS:List RI:=[omk 35 3,omk 2 35]
def xhV:RC:=(So kZ (So Mk (Sq (Bk 0 (.pre [.tok 3 103] (.loop yr))) (So Mh (Sq (So Mg (Bk 2 (.pre [.tok 3 103] (.loop sa)))) (So BS .ret))))))
def Ze:FnC:=⟨xhV,36,[.tmp 2],[],[]⟩
def nA:List RI:=[oo 4 (.mov (.c (.int .u32 0))) [4]]
def yq:List FI:=[Fm 0 5 0,Fm 1 6 1,Fs 2 7 (.bin .mul (ci 4) (.t 6)),Fs 3 8 (Ia 1 5 7),Fs 4 9 (Ld 8),Fs 5 10 (.toInt .u32 (.t 9)),Fs 6 11 (.bin .shl (.t 10) (.c (.int .u64 24))),Fm 7 12 0,Fm 8 13 1,Fs 9 14 (.bin .mul (ci 4) (.t 13)),Fs 10 15 (Bc .add 14 1),Fs 11 16 (Ia 1 12 15),Fs 12 17 (Ld 16),Fs 13 18 (.toInt .u32 (.t 17)),Fs 14 19 (.bin .shl (.t 18) (.c (.int .u64 16))),Fs 15 20 (Bb .or 11 19),Fm 16 21 0,Fm 17 22 1,Fs 18 23 (.bin .mul (ci 4) (.t 22)),Fs 19 24 (Bc .add 23 2),Fs 20 25 (Ia 1 21 24),Fs 21 26 (Ld 25),Fs 22 27 (.toInt .u32 (.t 26)),Fs 23 28 (.bin .shl (.t 27) (.c (.int .u64 8))),Fs 24 29 (Bb .or 20 28),Fm 25 30 0,Fm 26 31 1,Fs 27 32 (.bin .mul (ci 4) (.t 31)),Fs 28 33 (Bc .add 32 3),Fs 29 34 (Ia 1 30 33),Fs 30 35 (Ld 34),Fs 31 36 (.toInt .u32 (.t 35)),Fs 32 37 (Bb .or 29 36),Fm 33 4 37]
def xhU:RC:=(So nA (Sq (.flt [0,0,2,7,15,31,63,0,0,256,768,1920,3968,8064,16256,32767,0,0,131072,393216,983040,2031616,4128768,8323072,16777215,0,0,67108864,201326592,503316480,1040187392,2113929216,4294967295,8589934591] [] yq [0,1,5,6,7,8,9,10,11,12,13,14,15,16,17,18,19,20,21,22,23,24,25,26,27,28,29,30,31,32,33,34,35,36,37]) .ret))
def Zd:FnC:=⟨xhU,38,[.tmp 4],[],[]⟩
def Ma:List RI:=[om 5 0,om 6 1,oo 7 (Bb .shr 5 6) [5,6],omk 8 0,omk 9 1,oo 10 (.bin .sub (.c (.int .u64 32)) (.t 9)) [9],oo 11 (Bb .shl 8 10) [8,10],oo 12 (Bb .or 7 11) [7,11],omk 4 12]
def xhT:RC:=(So nA (So Ma .ret))
def Zc:FnC:=⟨xhT,13,[.tmp 4],[],[]⟩
def yp:List RI:=[on 3 (.mov (.c (.byt [] .clip)))]
def L9:List RI:=[om 5 4,om 6 0,oo 7 (Ln 6) [6],oo 8 (Bb .lss 5 7) [5,7]]
def L8:List FI:=[Fm 0 11 3,Fm 1 12 0,Fm 2 13 4,Fs 3 14 (Ia 1 12 13),Fs 4 15 (Ld 14),Fs 5 16 (.bin .shr (.t 15) (.c (.int .u64 24))),Fs 6 17 (.toInt .u8 (.t 16)),Fm 7 18 0,Fm 8 19 4,Fs 9 20 (Ia 1 18 19),Fs 10 21 (Ld 20),Fs 11 22 (.bin .shr (.t 21) (.c (.int .u64 16))),Fs 12 23 (.toInt .u8 (.t 22)),Fm 13 24 0,Fm 14 25 4,Fs 15 26 (Ia 1 24 25),Fs 16 27 (Ld 26),Fs 17 28 (.bin .shr (.t 27) (.c (.int .u64 8))),Fs 18 29 (.toInt .u8 (.t 28)),Fm 19 30 0,Fm 20 31 4,Fs 21 32 (Ia 1 30 31),Fs 22 33 (Ld 32),Fs 23 34 (.toInt .u8 (.t 33)),Fs 24 35 (.litB [.t 17,.t 23,.t 29,.t 34]),Fz 25 36 (.app [.u8 0] 1 (.t 11) (.t 35)),⟨26,false,(xm 3 36)⟩]
def L7:List RI:=[omk 9 4,oo 10 (Bc .add 9 1) [9],omk 4 10]
def zt:RC:=(.post (Sq (So L9 (Kc 8 (Kk [8] .skip) (Kk [0,4,8] (.exit 0)))) (Sq (Bk 1 (.flt [0,0,0,6,14,30,62,0,0,384,896,1920,3968,0,0,24576,57344,122880,253952,0,0,1572864,3670016,7864320,16777214,33554431,67108863] [136] L8 [11,12,13,14,15,16,17,18,19,20,21,22,23,24,25,26,27,28,29,30,31,32,33,34,35,36])) (.ops L7))) [.tok 3 103])
def yo:RC:=zt
def yn:List RI:=[omk 37 3,omk 2 37]
def xhS:RC:=(So kZ (So yp (Sq (So lF (Bk 0 (.pre [.tok 3 103] (.loop yo)))) (So yn .ret))))
def Zb:FnC:=⟨xhS,38,[.tmp 2],[],[]⟩
def L6:List RI:=[omk 5 0,omk 6 1,oo 7 (.toInt .u64 (.t 6)) [6],oo 8 (Bb .shr 5 7) [5,7],oo 9 (Bc .and 8 1) [8],oo 10 (Bc .eql 9 1) [9],omk 4 10]
def xhR:RC:=(So qw (So L6 .ret))
def Za:FnC:=⟨xhR,11,[.tmp 4],[],[]⟩
def L5:List RI:=[omk 5 0]
def L4:List RI:=[on 7 (Bc .eql 5 0),omk 6 7]
def L3:List RI:=[omk 8 1,oo 9 (Ca 144 [.t 8]) [8],omk 4 9]
def L2:List RI:=[oo 11 (Bc .eql 5 1) [5],omk 10 11]
def L1:List RI:=[omk 12 1,oo 13 (Ca 65 [.t 12]) [12],omk 4 13]
def xhQ:RC:=(So kY (Sq (So L5 (Bk 0 (So L4 (Kc 6 (Kk [5,6] (So L3 .ret)) (Kk [6] (So L2 (Kc 10 (Kk [10] (So L1 .ret)) (Kk [1,10] .skip)))))))) (So kr .ret)))
def Y9:FnC:=⟨xhQ,14,[.tmp 4],[],[]⟩
def L0:List RI:=[on 0 (.new (.arr 1 (al 5 [.str []])))]
def LZ:List RI:=[on 1 (.build [.str [],.str [],.str [],.str [],.str []] [(0,1,(.c (.str [97]))),(1,1,(.c (.str [103,114,117,98]))),(2,1,(.c (.str [108,105,110,117,120]))),(3,1,(.c (.str [110,101,116,45,48]))),(4,1,(.c (.str [116,119,101,108,118,101,45,98,121,116,101,115])))]),Sr 5 0 1 [1]]
def xhP:RC:=(So L0 (So LZ .ret))
def Y8:FnC:=⟨xhP,2,[.cell 0 5 true],[],[]⟩
def LY:List RI:=[om 5 0,oo 6 (Ca 71 [.t 5,ci 4]) [5],oo 7 (.bin .add (ci 1) (.t 6)) [6],omk 4 7]
def LX:List RI:=[om 8 4,oo 9 (Bc .gtr 8 0) [8]]
def LW:List RI:=[omk 12 3,om 13 0,oo 14 (Ca 73 [.t 13]) [13],oo 15 (.app [.u8 0] 1 (.t 12) (.t 14)) [12,14],on 16 (.litB [(.c (.u8 10))]),oo 17 (.app [.u8 0] 1 (.t 15) (.t 16)) [15,16],omk 3 17]
def LV:List RI:=[omk 10 4,oo 11 (Bc .sub 10 1) [10],omk 4 11]
def zr:RC:=(.post (Sq (So LX (Kc 9 (Kk [9] .skip) (Kk [0,4,9] (.exit 0)))) (Sq (Bk 1 (.ops LW)) (.ops LV))) [.gc [115],.tok 3 103])
def ym:RC:=zr
def LU:List RI:=[omk 18 3,omk 2 18]
def xhO:RC:=(So kZ (So yp (Sq (So LY (Bk 0 (.pre [.tok 3 103] (.loop ym)))) (So LU .ret))))
def Y7:FnC:=⟨xhO,19,[.tmp 2],[],[]⟩
def LS:List RI:=[omk 3 0,oo 4 (Ca 145 [.t 3,ci 10]) [3],omk 2 4]
def xhN:RC:=(So DU (So LS .ret))
def Y6:FnC:=⟨xhN,5,[.tmp 2],[],[]⟩
def pX:List RI:=[oo 4 (.mov (.c (.str []))) [4]]
def LR:List RI:=[om 7 0,oo 8 (.bin .eql (.t 7) (.c (.str []))) [7],omk 9 8,.grp 9 false [(xi 10 9 false (Mv 1)),(xi 11 9 false (.bin .eql (.t 10) (.c (.str []))))] [10],oo 12 (Pt 9 11) [9,11]]
def LQ:List RI:=[omk 13 0,omk 4 13]
def LP:List RI:=[om 14 1,oo 15 (.len true (.t 14)) [14],oo 16 (Bc .eql 15 1) [15],omk 17 16,.grp 17 true [(xi 18 17 true (Mv 1)),(xi 19 17 true (.idxS (.t 18) (ci 0))),(xi 20 17 true (.bin .lss (.t 19) (.c (.u8 128))))] [18,19],oo 21 (Pf 17 20) [17,20]]
def LO:List FI:=[Fm 0 22 0,Fm 1 23 1,Fs 2 24 (.idxS (.t 23) (ci 0)),Fm 4 26 1,Fs 5 27 (.idxS (.t 26) (ci 0)),Fz 3 25 (Ca 147 [.t 22,.t 24]),Fz 6 28 (Ca 146 [.t 25,.t 27]),Fm 7 4 28]
def LN:List RI:=[om 30 1,oo 31 (Ca 148 [.t 30]) [30],omk 29 31,on 32 (.ext (.t 29) 0),oo 33 (.ext (.t 29) 1) [29],on 5 (.new (.arr 1 (al 256 [.bool false]))),Sr 256 5 32 [32],omk 6 33]
def LM:List RI:=[omk 34 6]
def LL:List RI:=[omk 35 0,oo 36 (Ca 150 [.t 35,.t 5]) [35],oo 37 (Ca 149 [.t 36,.t 5]) [5,36],omk 4 37]
def LK:List RI:=[omk 38 0,om 39 1,oo 40 (Ca 152 [.t 38,.t 39]) [38,39],omk 41 1,oo 42 (Ca 151 [.t 40,.t 41]) [40,41],omk 4 42]
def xhM:RC:=(So pX (Sq (So LR (Kc 12 (Kk [1,12] (So LQ .ret)) (Kk [12] .skip))) (Sq (So LP (Kc 21 (Kk [21] (Sq (.flt [0,0,2,7,0,16,63,127] [] LO [0,1,22,23,24,25,26,27,28]) .ret)) (Kk [21] .skip))) (Sq (So LN (So LM (Kc 34 (Kk [1,34] (So LL .ret)) (Kk [5,34] .skip)))) (So LK .ret)))))
def Y5:FnC:=⟨xhM,43,[.tmp 4],[],[]⟩
def LJ:List RI:=[om 6 0,om 7 1,oo 8 (Ca 153 [.t 6,.t 7]) [6,7],oo 9 (.un .not (.t 8)) [8]]
def LI:List RI:=[omk 10 0,omk 4 10,on 5 (Mb false)]
def LH:List RI:=[omk 11 0,omk 12 1,oo 13 (.len true (.t 12)) [12],oo 14 (.slcS (.t 11) (some (.t 13)) none) [11,13],omk 4 14,on 5 (Mb true)]
def xhL:RC:=(So NT (Sq (So LJ (Kc 9 (Kk [1,9] (So LI .ret)) (Kk [9] .skip))) (So LH .ret)))
def Y4:FnC:=⟨xhL,15,[.tmp 4,.tmp 5],[],[]⟩
def yl:List RI:=[oo 2 (Mc 0) [2],oo 3 (.mov (.c .nili)) [3]]
def LG:List RI:=[om 7 0,oo 8 (Ca 154 [.t 7]) [7],omk 6 8,on 9 (.ext (.t 6) 0),oo 10 (.ext (.t 6) 1) [6],omk 4 9,omk 5 10]
def LF:List RI:=[om 11 5,oo 12 (.isni true (.t 11)) [11]]
def LD:List RI:=[omk 13 4,omk 14 0,omk 15 5,oo 16 (Ca 155 [(.c (.str [65,116,111,105])),.t 14,ci 0,ci 0,.t 15]) [14,15],omk 2 13,omk 3 16]
def LC:List RI:=[omk 17 4,omk 2 17,on 3 (.mov (.c .nili))]
def xhK:RC:=(So yl (So LG (Sq (So LF (Kc 12 (Kk [12] (So LD .ret)) (Kk [0,5,12] .skip))) (So LC .ret))))
def Y3:FnC:=⟨xhK,18,[.tmp 2,.tmp 3],[],[]⟩
def LA:List RI:=[om 6 0,oo 7 (Ln 6) [6],oo 8 (Bc .add 7 72) [7],oo 9 (.mkB (ci 0) (.t 8)) [8],om 10 0,.dir (.tok 9 109),oo 11 (.app [.u8 0] 1 (.t 9) (.t 10)) [9,10],on 12 (.litB [(.c (.u8 128))]),oo 13 (.app [.u8 0] 1 (.t 11) (.t 12)) [11,12],omk 3 13]
def Lz:List RI:=[om 14 3,oo 15 (Ln 14) [14],oo 16 (Bc .rem 15 64) [15],oo 17 (Bc .neq 16 56) [16]]
def Ly:List RI:=[omk 18 3,on 19 (.litB [(.c (.u8 0))]),oo 20 (.app [.u8 0] 1 (.t 18) (.t 19)) [18,19],omk 3 20]
def zq:RC:=(.post (Sq (So Lz (Kc 17 (Kk [17] .skip) (Kk [17] (.exit 0)))) (Bk 1 (.ops Ly))) [.tok 3 103])
def yk:RC:=zq
def Lx:List RI:=[omk 21 0,oo 22 (Ln 21) [21],oo 23 (.toInt .u64 (.t 22)) [22],oo 24 (.bin .mul (.t 23) (.c (.int .u64 8))) [23],omk 4 24]
def Lw:List RI:=[on 5 (Mc 56)]
def Lv:List RI:=[om 25 5,oo 26 (Bc .geq 25 0) [25]]
def Lu:List RI:=[omk 29 3,om 30 4,om 31 5,oo 32 (.toInt .u64 (.t 31)) [31],oo 33 (Bb .shr 30 32) [30,32],oo 34 (.toInt .u8 (.t 33)) [33],oo 35 (.litB [.t 34]) [34],oo 36 (.app [.u8 0] 1 (.t 29) (.t 35)) [29,35],omk 3 36]
def Ls:List RI:=[omk 27 5,oo 28 (Bc .sub 27 8) [27],omk 5 28]
def sZ:RC:=(.post (Sq (So Lv (Kc 26 (Kk [26] .skip) (Kk [4,5,26] (.exit 2)))) (Sq (Bk 3 (.ops Lu)) (.ops Ls))) [.tok 3 103])
def r9:RC:=sZ
def xhJ:RC:=(So kZ (So LA (Sq (Bk 0 (.pre [.tok 3 103] (.loop yk))) (So Lx (Sq (So Lw (Bk 2 (.pre [.tok 3 103] (.loop r9)))) (So yn .ret))))))
def Y2:FnC:=⟨xhJ,38,[.tmp 2],[],[]⟩
def Lr:List RI:=[on 4 (.new (.arr 1 (al 80 [.int .u32 0])))]
def Lq:List RI:=[on 14 (Mc 0)]
def Lp:List RI:=[on 15 (Bc .lss 14 80)]
def Lo:List RI:=[om 16 14,omk 5 16]
def Lm:List RI:=[om 17 5,oo 18 (Bc .lss 17 16) [17]]
def Ll:List RI:=[om 19 5,om 20 1,omk 21 5,oo 22 (Ca 156 [.t 20,.t 21]) [20,21],oo 23 (.iaddrA 80 1 (.t 4) (.t 19)) [19],Sr 1 23 22 [22,23]]
def Lk:List FI:=[Fm 0 24 5,Fm 1 25 5,Fs 2 26 (Bc .sub 25 3),Fs 3 27 (.iaddrA 80 1 (.t 4) (.t 26)),Fs 4 28 (Ld 27),Fm 5 29 5,Fs 6 30 (Bc .sub 29 8),Fs 7 31 (.iaddrA 80 1 (.t 4) (.t 30)),Fs 8 32 (Ld 31),Fs 9 33 (Bb .xor 28 32),Fm 10 34 5,Fs 11 35 (Bc .sub 34 14),Fs 12 36 (.iaddrA 80 1 (.t 4) (.t 35)),Fs 13 37 (Ld 36),Fs 14 38 (Bb .xor 33 37),Fm 15 39 5,Fs 16 40 (Bc .sub 39 16),Fs 17 41 (.iaddrA 80 1 (.t 4) (.t 40)),Fs 18 42 (Ld 41),Fs 19 43 (Bb .xor 38 42),Fz 20 44 (Ca 157 [.t 43,ci 1]),Fs 21 45 (.iaddrA 80 1 (.t 4) (.t 24)),Fr 22 1 45 44]
def Lj:List RI:=[oo 46 (Bc .add 14 1) [14],omk 14 46]
def zp:RC:=(So Lp (Sq (Kc 15 (Kk [15] .skip) (Kk [1,14,15] (.exit 0))) (Sq (Bk 1 (So Lo (So Lm (Kc 18 (Kk [18] (.ops Ll)) (Kk [18] (.flt [0,0,2,6,14,0,32,96,224,510,0,1024,3072,7168,16382,0,32768,98304,229376,524286,1048574,2097151,4194303] [] Lk [5,24,25,26,27,28,29,30,31,32,33,34,35,36,37,38,39,40,41,42,43,44,45])))))) (.ops Lj))))
def yj:RC:=zp
def Li:List FI:=[Fm 0 47 0,Fs 1 48 (.nchk (.t 47)),Fs 2 49 (.iaddrA 5 1 (.t 48) (ci 0)),Fs 3 50 (Ld 49),Fm 4 51 0,Fs 5 52 (.nchk (.t 51)),Fs 6 53 (.iaddrA 5 1 (.t 52) (ci 1)),Fs 7 54 (Ld 53),Fm 8 55 0,Fs 9 56 (.nchk (.t 55)),Fs 10 57 (.iaddrA 5 1 (.t 56) (ci 2)),Fs 11 58 (Ld 57),Fm 12 59 0,Fs 13 60 (.nchk (.t 59)),Fs 14 61 (.iaddrA 5 1 (.t 60) (ci 3)),Fs 15 62 (Ld 61),Fm 16 63 0,Fs 17 64 (.nchk (.t 63)),Fs 18 65 (.iaddrA 5 1 (.t 64) (ci 4)),Fs 19 66 (Ld 65),Fm 20 6 50,Fm 21 7 54,Fm 22 8 58,Fm 23 9 62,Fm 24 10 66]
def BR:List RI:=[on 67 (Mc 0)]
def BQ:List RI:=[on 68 (Bc .lss 67 80)]
def BP:List RI:=[om 69 67,omk 11 69]
def BO:List RI:=[oo 12 (.mov (.c (.int .u32 0))) [12],oo 13 (.mov (.c (.int .u32 0))) [13]]
def BN:List RI:=[om 70 11,oo 71 (Bc .quo 70 20) [70]]
def BM:List RI:=[on 78 (Bc .eql 71 0),omk 77 78]
def BL:List RI:=[om 79 7,om 80 8,oo 81 (Bb .and 79 80) [79,80],om 82 7,oo 83 (.un .xor (.t 82)) [82],om 84 9,oo 85 (Bb .and 83 84) [83,84],oo 86 (Bb .xor 81 85) [81,85],omk 12 86,on 13 (.mov (.c (.int .u32 1518500249)))]
def BK:List RI:=[on 88 (Bc .eql 71 1),omk 87 88]
def BJ:List RI:=[om 89 7,om 90 8,oo 91 (Bb .xor 89 90) [89,90],om 92 9,oo 93 (Bb .xor 91 92) [91,92],omk 12 93,on 13 (.mov (.c (.int .u32 1859775393)))]
def BI:List RI:=[oo 95 (Bc .eql 71 2) [71],omk 94 95]
def BH:List RI:=[om 96 7,om 97 8,oo 98 (Bb .and 96 97) [96,97],om 99 7,om 100 9,oo 101 (Bb .and 99 100) [99,100],oo 102 (Bb .xor 98 101) [98,101],om 103 8,om 104 9,oo 105 (Bb .and 103 104) [103,104],oo 106 (Bb .xor 102 105) [102,105],omk 12 106,on 13 (.mov (.c (.int .u32 2400959708)))]
def BG:List RI:=[om 72 7,om 73 8,oo 74 (Bb .xor 72 73) [72,73],om 75 9,oo 76 (Bb .xor 74 75) [74,75],omk 12 76,on 13 (.mov (.c (.int .u32 3395469782)))]
def BF:List FI:=[Fm 0 107 6,Fm 2 109 12,Fm 4 111 10,Fm 6 113 13,Fm 8 115 11,Fs 9 116 (.iaddrA 80 1 (.t 4) (.t 115)),Fs 10 117 (Ld 116),Fm 12 119 6,Fm 13 120 7,Fm 15 122 8,Fm 16 123 9,Fz 1 108 (Ca 157 [.t 107,ci 5]),Fs 3 110 (Bb .add 108 109),Fs 5 112 (Bb .add 110 111),Fs 7 114 (Bb .add 112 113),Fs 11 118 (Bb .add 114 117),Fz 14 121 (Ca 157 [.t 120,ci 30]),⟨17,false,(xm 6 118)⟩,⟨18,false,(xm 7 119)⟩,⟨19,false,(xm 8 121)⟩,⟨20,false,(xm 9 122)⟩,⟨21,false,(xm 10 123)⟩]
def BE:List RI:=[oo 124 (Bc .add 67 1) [67],omk 67 124]
def sY:RC:=(So BQ (Sq (Kc 68 (Kk [68] .skip) (Kk [4,67,68] (.exit 2))) (Sq (Bk 3 (So BP (So BO (Sq (So BN (Bk 4 (So BM (Kc 77 (Kk [71,77] (.ops BL)) (Kk [77] (So BK (Kc 87 (Kk [71,87] (.ops BJ)) (Kk [87] (So BI (Kc 94 (Kk [94] (.ops BH)) (Kk [94] (.ops BG)))))))))))) (.flt [0,1,0,7,0,31,0,127,0,256,768,2047,0,0,8195,0,0,131071,262143,524287,1048575,2097151] [] BF [11,12,13,107,108,109,110,111,112,113,114,115,116,117,118,119,120,121,122,123]))))) (.ops BE))))
def fO:RC:=sY
def BD:List FI:=[Fm 0 125 0,Fs 1 126 (.nchk (.t 125)),Fs 2 127 (.iaddrA 5 1 (.t 126) (ci 0)),Fs 3 128 (Ld 127),Fm 4 129 6,Fs 5 130 (Bb .add 128 129),Fs 6 131 (.nchk (.t 125)),Fs 7 132 (.iaddrA 5 1 (.t 131) (ci 0)),Fr 8 1 132 130]
def BC:List FI:=[Fm 0 133 0,Fs 1 134 (.nchk (.t 133)),Fs 2 135 (.iaddrA 5 1 (.t 134) (ci 1)),Fs 3 136 (Ld 135),Fm 4 137 7,Fs 5 138 (Bb .add 136 137),Fs 6 139 (.nchk (.t 133)),Fs 7 140 (.iaddrA 5 1 (.t 139) (ci 1)),Fr 8 1 140 138]
def BB:List FI:=[Fm 0 141 0,Fs 1 142 (.nchk (.t 141)),Fs 2 143 (.iaddrA 5 1 (.t 142) (ci 2)),Fs 3 144 (Ld 143),Fm 4 145 8,Fs 5 146 (Bb .add 144 145),Fs 6 147 (.nchk (.t 141)),Fs 7 148 (.iaddrA 5 1 (.t 147) (ci 2)),Fr 8 1 148 146]
def BA:List FI:=[Fm 0 149 0,Fs 1 150 (.nchk (.t 149)),Fs 2 151 (.iaddrA 5 1 (.t 150) (ci 3)),Fs 3 152 (Ld 151),Fm 4 153 9,Fs 5 154 (Bb .add 152 153),Fs 6 155 (.nchk (.t 149)),Fs 7 156 (.iaddrA 5 1 (.t 155) (ci 3)),Fr 8 1 156 154]
def Bz:List FI:=[Fm 0 157 0,Fs 1 158 (.nchk (.t 157)),Fs 2 159 (.iaddrA 5 1 (.t 158) (ci 4)),Fs 3 160 (Ld 159),Fm 4 161 10,Fs 5 162 (Bb .add 160 161),Fs 6 163 (.nchk (.t 157)),Fs 7 164 (.iaddrA 5 1 (.t 163) (ci 4)),Fr 8 1 164 162]
def xhI:RC:=(So Lr (Sq (So Lq (Bk 0 (.loop yj))) (Sq (.flt [0,1,3,7,0,16,48,112,0,256,768,1792,0,4096,12288,28672,0,65536,196608,458752,15,1048831,3149823,7405567,16777215] [] Li [47,48,49,50,51,52,53,54,55,56,57,58,59,60,61,62,63,64,65,66]) (Sq (So BR (Bk 2 (.loop fO))) (Sq (.flt [0,1,3,7,0,31,1,127,255] [] BD [6,125,126,127,128,129,130,131,132]) (Sq (.flt [0,1,3,7,0,31,1,127,255] [] BC [7,133,134,135,136,137,138,139,140]) (Sq (.flt [0,1,3,7,0,31,1,127,255] [] BB [8,141,142,143,144,145,146,147,148]) (Sq (.flt [0,1,3,7,0,31,1,127,255] [] BA [9,149,150,151,152,153,154,155,156]) (.flt [0,1,3,7,0,31,1,127,255] [] Bz [0,10,157,158,159,160,161,162,163,164])))))))))
def Y1:FnC:=⟨xhI,165,[],[],[]⟩
def Lh:List RI:=[om 6 0,oo 7 (Ln 6) [6],oo 8 (.bin .mul (ci 4) (.t 7)) [7],oo 9 (.mkB (ci 0) (.t 8)) [8],omk 3 9]
def Lg:List RI:=[omk 10 0,on 11 (Ln 10),on 12 (Mc 0)]
def Lf:List RI:=[on 13 (Bb .lss 12 11)]
def Le:List RI:=[on 14 (Ia 1 10 12),oo 15 (Ld 14) [14],omk 5 15]
def Lc:List RI:=[omk 16 3,om 17 5,oo 18 (.bin .shr (.t 17) (.c (.int .u64 24))) [17],oo 19 (.toInt .u8 (.t 18)) [18],om 20 5,oo 21 (.bin .shr (.t 20) (.c (.int .u64 16))) [20],oo 22 (.toInt .u8 (.t 21)) [21],om 23 5,oo 24 (.bin .shr (.t 23) (.c (.int .u64 8))) [23],oo 25 (.toInt .u8 (.t 24)) [24],omk 26 5,oo 27 (.toInt .u8 (.t 26)) [26],oo 28 (.litB [.t 19,.t 22,.t 25,.t 27]) [19,22,25,27],.dir (.tok 16 116),oo 29 (.app [.u8 0] 1 (.t 16) (.t 28)) [16,28],omk 3 29]
def Lb:List RI:=[oo 30 (Bc .add 12 1) [12],omk 12 30]
def zo:RC:=(.post (So Lf (Sq (Kc 13 (Kk [13] .skip) (Kk [10,11,12,13] (.exit 0))) (Sq (Bk 1 (So Le (.ops Lc))) (.ops Lb)))) [.tok 3 103])
def yi:RC:=zo
def La:List RI:=[omk 31 3,omk 2 31]
def xhH:RC:=(So kZ (So Lh (Sq (So Lg (Bk 0 (.pre [.tok 3 103] (.loop yi)))) (So La .ret))))
def Y0:FnC:=⟨xhH,32,[.tmp 2],[],[]⟩
def K9:List RI:=[on 4 (.new (.arr 1 (al 64 [.int .u32 0])))]
def K8:List RI:=[on 18 (Bc .lss 17 64)]
def K7:List RI:=[om 19 17,omk 5 19]
def K6:List RI:=[om 20 5,oo 21 (Bc .lss 20 16) [20]]
def K5:List RI:=[om 22 5,om 23 1,omk 24 5,oo 25 (Ca 156 [.t 23,.t 24]) [23,24],oo 26 (.iaddrA 64 1 (.t 4) (.t 22)) [22],Sr 1 26 25 [25,26]]
def K4:List FI:=[Fm 0 27 5,Fs 1 28 (Bc .sub 27 15),Fs 2 29 (.iaddrA 64 1 (.t 4) (.t 28)),Fs 3 30 (Ld 29),Fm 4 31 5,Fs 5 32 (Bc .sub 31 2),Fs 6 33 (.iaddrA 64 1 (.t 4) (.t 32)),Fs 7 34 (Ld 33),Fm 8 6 30,Fm 9 7 34]
def K3:List RI:=[om 35 6,oo 36 (Ca 157 [.t 35,ci (-7)]) [35],om 37 6,oo 38 (Ca 157 [.t 37,ci (-18)]) [37],oo 39 (Bb .xor 36 38) [36,38],omk 40 6,oo 41 (.bin .shr (.t 40) (.c (.int .u64 3))) [40],oo 42 (Bb .xor 39 41) [39,41],omk 8 42]
def K2:List RI:=[om 43 7,oo 44 (Ca 157 [.t 43,ci (-17)]) [43],om 45 7,oo 46 (Ca 157 [.t 45,ci (-19)]) [45],oo 47 (Bb .xor 44 46) [44,46],omk 48 7,oo 49 (.bin .shr (.t 48) (.c (.int .u64 10))) [48],oo 50 (Bb .xor 47 49) [47,49],omk 9 50]
def K1:List FI:=[Fm 0 51 5,Fm 1 52 9,Fm 2 53 5,Fs 3 54 (Bc .sub 53 7),Fs 4 55 (.iaddrA 64 1 (.t 4) (.t 54)),Fs 5 56 (Ld 55),Fs 6 57 (Bb .add 52 56),Fm 7 58 8,Fs 8 59 (Bb .add 57 58),Fm 9 60 5,Fs 10 61 (Bc .sub 60 16),Fs 11 62 (.iaddrA 64 1 (.t 4) (.t 61)),Fs 12 63 (Ld 62),Fs 13 64 (Bb .add 59 63),Fs 14 65 (.iaddrA 64 1 (.t 4) (.t 51)),Fr 15 1 65 64]
def By:List RI:=[oo 66 (Bc .add 17 1) [17],omk 17 66]
def sX:RC:=(So K8 (Sq (Kc 18 (Kk [18] .skip) (Kk [1,17,18] (.exit 0))) (Sq (Bk 1 (So K7 (Sq (So K6 (Kc 21 (Kk [21] (So K5 (.exit 1))) (Kk [21] .skip))) (Sq (.flt [0,1,3,7,0,16,48,112,15,511] [] K4 [27,28,29,30,31,32,33,34]) (So K3 (So K2 (.flt [0,0,0,4,12,28,62,0,254,0,512,1536,3584,8190,16383,32767] [] K1 [5,8,9,51,52,53,54,55,56,57,58,59,60,61,62,63,64,65]))))))) (.ops By))))
def r5:RC:=sX
def Bx:List RI:=[om 67 0,oo 68 (.nchk (.t 67)) [67],oo 69 (Lt 8 68) [68],on 10 (.new (.arr 1 (al 8 [.int .u32 0]))),Sr 8 10 69 [69]]
def Bw:List RI:=[on 70 (Mc 0)]
def Bv:List RI:=[on 71 (Bc .lss 70 64)]
def Bu:List RI:=[om 72 70,omk 11 72]
def Bt:List FI:=[Fs 0 73 (.iaddrA 8 1 (.t 10) (ci 0)),Fs 1 74 (Ld 73),Fs 2 75 (.iaddrA 8 1 (.t 10) (ci 4)),Fs 3 76 (Ld 75),Fm 4 12 74,Fm 5 13 76]
def Bs:List FI:=[Fs 0 77 (.iaddrA 8 1 (.t 10) (ci 7)),Fs 1 78 (Ld 77),Fm 2 79 13,Fm 4 81 13,Fm 7 84 13,Fm 11 88 13,Fs 12 89 (.iaddrA 8 1 (.t 10) (ci 5)),Fs 13 90 (Ld 89),Fs 14 91 (Bb .and 88 90),Fm 15 92 13,Fs 16 93 (.un .xor (.t 92)),Fs 17 94 (.iaddrA 8 1 (.t 10) (ci 6)),Fs 18 95 (Ld 94),Fs 19 96 (Bb .and 93 95),Fs 20 97 (Bb .xor 91 96),Fm 22 99 11,Fs 23 100 (.iaddrA 64 1 (.c (.pp iJ)) (.t 99)),Fs 24 101 (Ld 100),Fm 26 103 11,Fs 27 104 (.iaddrA 64 1 (.t 4) (.t 103)),Fs 28 105 (Ld 104),Fz 3 80 (Ca 157 [.t 79,ci (-6)]),Fz 5 82 (Ca 157 [.t 81,ci (-11)]),Fs 6 83 (Bb .xor 80 82),Fz 8 85 (Ca 157 [.t 84,ci (-25)]),Fs 9 86 (Bb .xor 83 85),Fs 10 87 (Bb .add 78 86),Fs 21 98 (Bb .add 87 97),Fs 25 102 (Bb .add 98 101),Fs 29 106 (Bb .add 102 105),Fm 30 14 106]
def Br:List FI:=[Fm 0 107 12,Fm 2 109 12,Fm 5 112 12,Fm 8 115 12,Fs 9 116 (.iaddrA 8 1 (.t 10) (ci 1)),Fs 10 117 (Ld 116),Fs 11 118 (Bb .and 115 117),Fm 12 119 12,Fs 13 120 (.iaddrA 8 1 (.t 10) (ci 2)),Fs 14 121 (Ld 120),Fs 15 122 (Bb .and 119 121),Fs 16 123 (Bb .xor 118 122),Fs 17 124 (.iaddrA 8 1 (.t 10) (ci 1)),Fs 18 125 (Ld 124),Fs 19 126 (.iaddrA 8 1 (.t 10) (ci 2)),Fs 20 127 (Ld 126),Fs 21 128 (Bb .and 125 127),Fs 22 129 (Bb .xor 123 128),Fz 1 108 (Ca 157 [.t 107,ci (-2)]),Fz 3 110 (Ca 157 [.t 109,ci (-13)]),Fs 4 111 (Bb .xor 108 110),Fz 6 113 (Ca 157 [.t 112,ci (-22)]),Fs 7 114 (Bb .xor 111 113),Fs 23 130 (Bb .add 114 129),Fm 24 15 130]
def Bq:List RI:=[om 131 14,omk 132 15,oo 133 (Bb .add 131 132) [131,132],on 134 (.iaddrA 8 1 (.t 10) (ci 0)),oo 135 (Ld 134) [134],on 136 (.iaddrA 8 1 (.t 10) (ci 1)),oo 137 (Ld 136) [136],on 138 (.iaddrA 8 1 (.t 10) (ci 2)),oo 139 (Ld 138) [138],on 140 (.iaddrA 8 1 (.t 10) (ci 3)),oo 141 (Ld 140) [140],omk 142 14,oo 143 (Bb .add 141 142) [141,142],on 144 (.iaddrA 8 1 (.t 10) (ci 4)),oo 145 (Ld 144) [144],on 146 (.iaddrA 8 1 (.t 10) (ci 5)),oo 147 (Ld 146) [146],on 148 (.iaddrA 8 1 (.t 10) (ci 6)),oo 149 (Ld 148) [148],oo 150 (.build [.int .u32 0,.int .u32 0,.int .u32 0,.int .u32 0,.int .u32 0,.int .u32 0,.int .u32 0,.int .u32 0] [(0,1,(.t 133)),(1,1,(.t 135)),(2,1,(.t 137)),(3,1,(.t 139)),(4,1,(.t 143)),(5,1,(.t 145)),(6,1,(.t 147)),(7,1,(.t 149))]) [133,135,137,139,143,145,147,149],Sr 8 10 150 [150]]
def Bp:List RI:=[oo 151 (Bc .add 70 1) [70],omk 70 151]
def sW:RC:=(So Bv (Sq (Kc 71 (Kk [71] .skip) (Kk [4,70,71] (.exit 2))) (Sq (Bk 3 (So Bu (Sq (.flt [0,1,0,4,3,31] [] Bt [73,74,75,76]) (Sq (.flt [0,1,0,4,0,28,60,0,188,508,1023,0,0,4096,14336,0,32768,0,131072,491520,1046528,2097151,0,4194304,12582912,33554431,0,67108864,201326592,536870911,1073741823] [] Bs [11,13,77,78,79,80,81,82,83,84,85,86,87,88,89,90,91,92,93,94,95,96,97,98,99,100,101,102,103,104,105,106]) (Sq (.flt [0,1,0,7,15,0,47,127,0,0,512,1792,0,0,8192,28672,65280,0,131072,0,524288,1966080,4194048,8388607,16777215] [] Br [12,107,108,109,110,111,112,113,114,115,116,117,118,119,120,121,122,123,124,125,126,127,128,129,130]) (.ops Bq)))))) (.ops Bp))))
def rZ:RC:=sW
def Bo:List RI:=[on 152 (Mc 0)]
def Bn:List RI:=[on 153 (Bc .lss 152 8)]
def Bm:List RI:=[om 154 152,omk 16 154]
def Bl:List FI:=[Fm 0 155 0,Fm 1 156 16,Fs 2 157 (.nchk (.t 155)),Fs 3 158 (.iaddrA 8 1 (.t 157) (.t 156)),Fs 4 159 (Ld 158),Fm 5 160 16,Fs 6 161 (.iaddrA 8 1 (.t 10) (.t 160)),Fs 7 162 (Ld 161),Fs 8 163 (Bb .add 159 162),Fs 9 164 (.nchk (.t 155)),Fs 10 165 (.iaddrA 8 1 (.t 164) (.t 156)),Fr 11 1 165 163]
def Bj:List RI:=[oo 166 (Bc .add 152 1) [152],omk 152 166]
def sV:RC:=(So Bn (Sq (Kc 153 (Kk [153] .skip) (Kk [0,10,152,153] (.exit 4))) (Sq (Bk 5 (So Bm (.flt [0,0,1,7,15,0,32,96,255,1,1023,2047] [] Bl [16,155,156,157,158,159,160,161,162,163,164,165]))) (.ops Bj))))
def rY:RC:=sV
def xhG:RC:=(So K9 (Sq (So xS (Bk 0 (.loop r5))) (So Bx (Sq (So Bw (Bk 2 (.loop rZ))) (So Bo (Bk 4 (.loop rY)))))))
def YZ:FnC:=⟨xhG,167,[],[],[]⟩
def K0:List RI:=[on 11 (Mb true)]
def KZ:List RI:=[om 21 2,om 22 1,oo 23 (Bb .sub 21 22) [21,22],omk 12 23]
def KY:List RI:=[om 24 12,oo 25 (Bc .leq 24 12) [24]]
def KX:List RI:=[omk 26 0,omk 27 1,omk 28 2,omk 29 4,oo 30 (Ca 158 [.t 26,.t 27,.t 28,.t 29]) [26,27,28,29,30]]
def KW:List RI:=[om 31 3,oo 32 (Bc .eql 31 0) [31]]
def KV:List RI:=[omk 33 0,omk 34 1,omk 35 2,omk 36 4,oo 37 (Ca 159 [.t 33,.t 34,.t 35,.t 36]) [33,34,35,36,37]]
def KU:List RI:=[om 38 10,oo 39 (.un .not (.t 38)) [38]]
def KT:List RI:=[om 40 0,om 41 1,om 42 2,om 43 4,oo 44 (Ca 160 [.t 40,.t 41,.t 42,.t 43]) [40,41,42,43,44]]
def KS:List RI:=[omk 45 3,oo 46 (Bc .sub 45 1) [45],omk 3 46]
def Bi:List RI:=[om 48 0,om 49 1,om 50 2,om 51 4,oo 52 (Ca 161 [.t 48,.t 49,.t 50,.t 51]) [48,49,50,51],omk 47 52,on 53 (.ext (.t 47) 0),oo 54 (.ext (.t 47) 1) [47],omk 13 53,omk 14 54]
def Bh:List RI:=[om 55 14,oo 56 (Bc .eql 55 2) [55]]
def Bg:List RI:=[om 57 0,om 58 1,om 59 2,om 60 4,oo 61 (Ca 162 [.t 57,.t 58,.t 59,.t 60]) [57,58,59,60,61]]
def Bf:List RI:=[om 62 2,oo 63 (Bc .sub 62 1) [62],omk 64 13,om 65 1,oo 66 (Bb .sub 64 65) [64,65],oo 67 (Bb .sub 63 66) [63,66],omk 13 67]
def Be:List RI:=[on 14 (Mc 1)]
def Bd:List RI:=[om 68 10,omk 69 68,.grp 69 true [(xi 70 69 true (Mv 11))] [],oo 71 (Pf 69 70) [69,70],omk 72 71,.grp 72 true [(xi 73 72 true (Mv 14)),(xi 74 72 true (Bc .eql 73 1))] [14,73],oo 75 (Pf 72 74) [72,74]]
def Ba:List RI:=[om 76 0,om 77 1,om 78 2,om 79 4,oo 80 (Ca 163 [.t 76,.t 77,.t 78,.t 79]) [76,77,78,79]]
def A9:List FI:=[Fm 0 81 1,Fs 1 82 (Bc .gtr 81 0),Fm 2 83 82,Fi 3 84 83 true (Mv 4),Fi 4 85 83 true (Mv 0),Fi 5 86 83 true (Mv 1),Fi 6 87 83 true (Bc .sub 86 1),Fi 7 88 83 true (Ia 4 85 87),Fi 8 89 83 true (Lt 4 88),Fi 9 90 83 true (Mv 0),Fi 10 91 83 true (Mv 13),Fi 11 92 83 true (Ia 4 90 91),Fi 12 93 83 true (Lt 4 92),Fy 13 94 83 true (.call (.t 84) [.t 89,.t 93]),Fi 14 95 83 true (Bc .lss 94 0),Fi 15 96 83 true (.un .not (.t 95)),Fs 16 97 (Pf 83 96)]
def A8:List RI:=[om 98 0,omk 99 1,om 100 2,omk 101 13,om 102 4,oo 103 (Ca 164 [.t 98,.t 99,.t 100,.t 101,.t 102]) [98,99,100,101,102],omk 15 103]
def A7:List RI:=[omk 104 15,omk 1 104]
def A6:List RI:=[om 106 0,om 107 1,om 108 2,omk 109 13,om 110 4,oo 111 (Ca 165 [.t 106,.t 107,.t 108,.t 109,.t 110]) [106,107,108,109,110],omk 105 111,on 112 (.ext (.t 105) 0),oo 113 (.ext (.t 105) 1) [105],omk 16 112,omk 17 113]
def A5:List RI:=[omk 114 17,omk 11 114]
def A4:List RI:=[om 115 16,om 116 1,oo 117 (Bb .sub 115 116) [115,116],om 118 2,om 119 16,oo 120 (Bb .sub 118 119) [118,119],omk 18 117,omk 19 120]
def A3:List RI:=[omk 121 12,oo 122 (Bc .quo 121 8) [121],omk 20 122]
def A1:List RI:=[om 123 18,om 124 19,oo 125 (Bb .lss 123 124) [123,124]]
def AZ:List RI:=[omk 126 18,omk 127 20,oo 128 (Bb .geq 126 127) [126,127],omk 10 128]
def AY:List RI:=[om 129 0,omk 130 1,om 131 16,om 132 3,om 133 4,oo 134 (Ca 135 [.t 129,.t 130,.t 131,.t 132,.t 133]) [129,130,131,132,133,134]]
def AX:List RI:=[omk 135 16,oo 136 (Bc .add 135 1) [135],omk 1 136]
def AW:List RI:=[omk 137 19,omk 138 20,oo 139 (Bb .geq 137 138) [137,138],omk 10 139]
def AV:List RI:=[om 140 0,om 141 16,oo 142 (Bc .add 141 1) [141],omk 143 2,om 144 3,om 145 4,oo 146 (Ca 135 [.t 140,.t 142,.t 143,.t 144,.t 145]) [140,142,143,144,145,146]]
def AU:List RI:=[omk 147 16,omk 2 147]
def sU:RC:=(Bk 1 (So KZ (Sq (So KY (Kc 25 (Kk [3,10,11,12,25] (So KX .ret)) (Kk [25] .skip))) (Sq (So KW (Kc 32 (Kk [3,10,11,12,32] (So KV .ret)) (Kk [32] .skip))) (Sq (So KU (Kc 39 (Kk [39] (So KT (.ops KS))) (Kk [39] .skip))) (So Bi (Sq (So Bh (Kc 56 (Kk [14,56] (So Bg (So Bf (.ops Be)))) (Kk [56] .skip))) (Sq (So Bd (Kc 75 (Kk [75] (So Ba (Kc 80 (Kk [0,1,2,3,4,10,11,12,13,80] .ret) (Kk [80] .skip)))) (Kk [75] .skip))) (Sq (Sq (.flt [0,1,3,7,7,7,39,119,247,7,7,1543,3591,8191,16383,32767,65535] [] A9 [81,82,83,84,85,86,87,88,89,90,91,92,93,94,95,96]) (Kc 97 (Kk [12,97] (So A8 (So A7 (.exit 1)))) (Kk [10,11,97] .skip))) (So A6 (So A5 (So A4 (So A3 (So A1 (Kc 125 (Kk [19,125] (So AZ (So AY (.ops AX)))) (Kk [18,125] (So AW (So AV (.ops AU)))))))))))))))))))
def AT:RC:=sU
def xhF:RC:=(So NR (So K0 (Bk 0 (.loop AT))))
def YY:FnC:=⟨xhF,148,[],[],[]⟩
def KR:List RI:=[omk 3 0,oo 4 (.toInt .u32 (.t 3)) [3],oo 5 (Ca 166 [.t 4]) [4],omk 2 5]
def KQ:List RI:=[omk 6 0,oo 7 (Ca 167 [.t 6]) [6],omk 2 7]
def xhE:RC:=(So js (Sq (.cond (.c (.bool false)) (So KR .ret) .skip) (So KQ .ret)))
def YX:FnC:=⟨xhE,8,[.tmp 2],[],[]⟩
def KP:List RI:=[omk 5 0,on 6 (Ln 5),on 7 (Mc 0)]
def KO:List RI:=[on 8 (Bb .lss 7 6)]
def KN:List RI:=[on 9 (Ia 1 5 7),oo 10 (Ld 9) [9],omk 4 10]
def KM:List RI:=[om 11 4,oo 12 (.bin .lss (.t 11) (.c (.u8 32))) [11],omk 13 12,.grp 13 false [(xi 14 13 false (Mv 4)),(xi 15 13 false (.bin .gtr (.t 14) (.c (.u8 126))))] [4,14],oo 16 (Pt 13 15) [13,15]]
def KL:List RI:=[oo 17 (Bc .add 7 1) [7],omk 7 17]
def zm:RC:=(So KO (Sq (Kc 8 (Kk [8] .skip) (Kk [5,6,7,8] (.exit 0))) (Sq (Bk 1 (So KN (So KM (Kc 16 (Kk [5,6,7,16] (So ni .ret)) (Kk [16] .skip))))) (.ops KL))))
def yh:RC:=zm
def xhD:RC:=(So wm (Sq (So KP (Bk 0 (.loop yh))) (So pQ .ret)))
def YW:FnC:=⟨xhD,18,[.tmp 2],[],[]⟩
def Kz:List RI:=[om 3 0,omk 4 0,oo 5 (Bb .neq 3 4) [3,4],omk 2 5]
def xhC:RC:=(So wm (So Kz .ret))
def YV:FnC:=⟨xhC,6,[.tmp 2],[],[]⟩
def Ky:List RI:=[on 17 (.lit 1 [(.c (.int .u32 1732584193)),(.c (.int .u32 4023233417)),(.c (.int .u32 2562383102)),(.c (.int .u32 271733878)),(.c (.int .u32 3285377520))]),omk 3 17]
def Kx:List RI:=[omk 18 0,oo 19 (Ca 116 [.t 18]) [18],omk 4 19]
def Kw:List RI:=[om 20 5,om 21 4,oo 22 (Ln 21) [21],oo 23 (Bb .lss 20 22) [20,22]]
def Kv:List RI:=[on 6 (.new (.arr 1 (al 80 [.int .u32 0])))]
def Ku:List RI:=[om 26 7,oo 27 (Bc .lss 26 80) [26]]
def Kt:List RI:=[om 30 7,oo 31 (Bc .lss 30 16) [30]]
def Ks:List RI:=[om 32 7,om 33 4,om 34 5,om 35 5,oo 36 (Bc .add 35 64) [35],oo 37 (.slcL 1 (.t 33) (some (.t 34)) (some (.t 36)) none) [33,34,36],om 38 7,oo 39 (Ca 117 [.t 37,.t 38]) [37,38],oo 40 (.iaddrA 80 1 (.t 6) (.t 32)) [32],Sr 1 40 39 [39,40]]
def AS:List FI:=[Fm 0 41 7,Fm 1 42 7,Fs 2 43 (Bc .sub 42 3),Fs 3 44 (.iaddrA 80 1 (.t 6) (.t 43)),Fs 4 45 (Ld 44),Fm 5 46 7,Fs 6 47 (Bc .sub 46 8),Fs 7 48 (.iaddrA 80 1 (.t 6) (.t 47)),Fs 8 49 (Ld 48),Fs 9 50 (Bb .xor 45 49),Fm 10 51 7,Fs 11 52 (Bc .sub 51 14),Fs 12 53 (.iaddrA 80 1 (.t 6) (.t 52)),Fs 13 54 (Ld 53),Fs 14 55 (Bb .xor 50 54),Fm 15 56 7,Fs 16 57 (Bc .sub 56 16),Fs 17 58 (.iaddrA 80 1 (.t 6) (.t 57)),Fs 18 59 (Ld 58),Fs 19 60 (Bb .xor 55 59),Fz 20 61 (Ca 170 [.t 60,(.c (.int .u64 1))]),Fs 21 62 (.iaddrA 80 1 (.t 6) (.t 41)),Fr 22 1 62 61]
def AR:List RI:=[omk 28 7,oo 29 (Bc .add 28 1) [28],omk 7 29]
def sT:RC:=(Sq (So Ku (Kc 27 (Kk [27] .skip) (Kk [7,27] (.exit 2)))) (Sq (Bk 3 (Sq (So Kt (Kc 31 (Kk [31] (So Ks (.exit 3))) (Kk [31] .skip))) (.flt [0,0,2,6,14,0,32,96,224,510,0,1024,3072,7168,16382,0,32768,98304,229376,524286,1048574,2097151,4194303] [] AS [41,42,43,44,45,46,47,48,49,50,51,52,53,54,55,56,57,58,59,60,61,62]))) (.ops AR)))
def rX:RC:=sT
def AQ:List FI:=[Fm 0 63 3,Fs 1 64 (.iaddrL 1 (.t 63) (ci 0)),Fs 2 65 (Ld 64),Fm 3 66 3,Fs 4 67 (.iaddrL 1 (.t 66) (ci 1)),Fs 5 68 (Ld 67),Fm 6 69 3,Fs 7 70 (.iaddrL 1 (.t 69) (ci 2)),Fs 8 71 (Ld 70),Fm 9 72 3,Fs 10 73 (.iaddrL 1 (.t 72) (ci 3)),Fs 11 74 (Ld 73),Fm 12 75 3,Fs 13 76 (.iaddrL 1 (.t 75) (ci 4)),Fs 14 77 (Ld 76),Fm 15 8 65,Fm 16 9 68,Fm 17 10 71,Fm 18 11 74,Fm 19 12 77]
def AP:List RI:=[on 13 (Mc 0)]
def AO:List RI:=[om 78 13,oo 79 (Bc .lss 78 80) [78]]
def AN:List RI:=[om 82 9,om 83 10,oo 84 (Bb .xor 82 83) [82,83],om 85 11,oo 86 (Bb .xor 84 85) [84,85],omk 14 86,on 15 (.mov (.c (.int .u32 3395469782)))]
def AM:List RI:=[om 88 13,oo 89 (Bc .lss 88 20) [88],omk 87 89]
def AL:List RI:=[om 90 9,om 91 10,oo 92 (Bb .and 90 91) [90,91],om 93 9,oo 94 (.un .xor (.t 93)) [93],om 95 11,oo 96 (Bb .and 94 95) [94,95],oo 97 (Bb .xor 92 96) [92,96],omk 14 97,on 15 (.mov (.c (.int .u32 1518500249)))]
def AK:List RI:=[om 99 13,oo 100 (Bc .lss 99 40) [99],omk 98 100]
def AJ:List RI:=[on 15 (.mov (.c (.int .u32 1859775393)))]
def AI:List RI:=[om 102 13,oo 103 (Bc .lss 102 60) [102],omk 101 103]
def AH:List RI:=[om 104 9,om 105 10,oo 106 (Bb .and 104 105) [104,105],om 107 9,om 108 11,oo 109 (Bb .and 107 108) [107,108],oo 110 (Bb .xor 106 109) [106,109],om 111 10,om 112 11,oo 113 (Bb .and 111 112) [111,112],oo 114 (Bb .xor 110 113) [110,113],omk 14 114,on 15 (.mov (.c (.int .u32 2400959708)))]
def AG:List FI:=[Fm 0 115 8,Fm 2 117 14,Fm 4 119 12,Fm 6 121 15,Fm 8 123 13,Fs 9 124 (.iaddrA 80 1 (.t 6) (.t 123)),Fs 10 125 (Ld 124),Fz 1 116 (Ca 170 [.t 115,(.c (.int .u64 5))]),Fs 3 118 (Bb .add 116 117),Fs 5 120 (Bb .add 118 119),Fs 7 122 (Bb .add 120 121),Fs 11 126 (Bb .add 122 125),Fm 12 16 126]
def AF:List RI:=[omk 127 16,omk 128 8,omk 129 9,oo 130 (Ca 170 [.t 129,(.c (.int .u64 30))]) [129],omk 131 10,omk 132 11,omk 8 127,omk 9 128,omk 10 130,omk 11 131,omk 12 132]
def AE:List RI:=[omk 80 13,oo 81 (Bc .add 80 1) [80],omk 13 81]
def sS:RC:=(Sq (So AO (Kc 79 (Kk [79] .skip) (Kk [6,13,79] (.exit 4)))) (Sq (Bk 5 (So AN (Sq (Bk 6 (So AM (Kc 87 (Kk [14,15,87] (.ops AL)) (Kk [87] (So AK (Kc 98 (Kk [15,98] (.ops AJ)) (Kk [98] (So AI (Kc 101 (Kk [14,15,101] (.ops AH)) (Kk [101] .skip)))))))))) (Sq (.flt [0,1,0,7,0,31,0,127,0,256,768,2047,4095] [] AG [12,14,15,115,116,117,118,119,120,121,122,123,124,125,126]) (.ops AF))))) (.ops AE)))
def fN:RC:=sS
def AD:List FI:=[Fm 0 133 3,Fs 1 134 (.iaddrL 1 (.t 133) (ci 0)),Fs 2 135 (Ld 134),Fm 3 136 8,Fs 4 137 (Bb .add 135 136),Fm 5 138 3,Fs 6 139 (.iaddrL 1 (.t 138) (ci 1)),Fs 7 140 (Ld 139),Fm 8 141 9,Fs 9 142 (Bb .add 140 141),Fm 10 143 3,Fs 11 144 (.iaddrL 1 (.t 143) (ci 2)),Fs 12 145 (Ld 144),Fm 13 146 10,Fs 14 147 (Bb .add 145 146),Fm 15 148 3,Fs 16 149 (.iaddrL 1 (.t 148) (ci 3)),Fs 17 150 (Ld 149),Fm 18 151 11,Fs 19 152 (Bb .add 150 151),Fm 20 153 3,Fs 21 154 (.iaddrL 1 (.t 153) (ci 4)),Fs 22 155 (Ld 154),Fm 23 156 12,Fs 24 157 (Bb .add 155 156),Fs 25 158 (.lit 1 [.t 137,.t 142,.t 147,.t 152,.t 157]),⟨26,false,(xm 3 158)⟩]
def AC:List RI:=[omk 24 5,oo 25 (Bc .add 24 64) [24],omk 5 25]
def sR:RC:=(.post (Sq (So Kw (Kc 23 (Kk [23] .skip) (Kk [4,5,23] (.exit 0)))) (Sq (Bk 1 (So Kv (Sq (So wo (Bk 2 (.loop rX))) (Sq (.flt [0,1,3,0,8,24,0,64,192,0,512,1536,0,4096,12288,7,32831,98815,233471,524287] [] AQ [63,64,65,66,67,68,69,70,71,72,73,74,75,76,77]) (Sq (So AP (Bk 4 (.loop fN))) (.flt [0,1,3,0,15,0,32,96,0,480,0,1024,3072,0,15360,0,32768,98304,0,491520,0,1048576,3145728,0,15728640,33554431,67108863] [] AD [8,9,10,11,12,133,134,135,136,137,138,139,140,141,142,143,144,145,146,147,148,149,150,151,152,153,154,155,156,157,158])))))) (.ops AC))) [.gc [106]])
def rW:RC:=sR
def AB:List RI:=[omk 159 3,oo 160 (Ca 119 [.t 159]) [159],omk 2 160]
def xhB:RC:=(So kZ (So Ky (So Kx (Sq (So qx (Bk 0 (.loop rW))) (So AB .ret)))))
def YU:FnC:=⟨xhB,161,[.tmp 2],[],[]⟩
def Kr:List RI:=[om 10 1,oo 11 (Bc .eql 10 10) [10]]
def Kq:List RI:=[om 12 0,oo 13 (.bin .leq (ci 0) (.t 12)) [12],omk 14 13,.grp 14 true [(xi 15 14 true (Mv 0)),(xi 16 14 true (Bc .lss 15 100))] [15],oo 17 (Pf 14 16) [14,16]]
def Kp:List RI:=[omk 18 0,oo 19 (Ca 171 [.t 18]) [18],omk 4 19]
def Ko:List RI:=[on 5 (.new (.bar (al 24 0)))]
def Kn:List RI:=[om 20 0,oo 21 (.toInt .u64 (.t 20)) [20],omk 6 21]
def Km:List RI:=[om 22 0,oo 23 (Bc .lss 22 0) [22]]
def Kj:List RI:=[omk 24 6,oo 25 (.un .neg (.t 24)) [24],omk 6 25]
def Ki:List RI:=[om 26 6,oo 27 (Ca 172 [.t 26]) [26],omk 7 27]
def Kh:List RI:=[om 28 7,oo 29 (.bin .add (ci 1) (.t 28)) [28],oo 30 (.slcA 24 1 (.t 5) (some (ci 1)) (some (.t 29)) none) [29],omk 31 6,oo 32 (Ca 173 [.t 30,.t 31]) [30,31,32]]
def AA:List RI:=[omk 33 0,oo 34 (Bc .lss 33 0) [33]]
def Az:List RI:=[on 35 (.iaddrA 24 1 (.t 5) (ci 0)),.op ⟨none,none,.store 1 (.t 35) (.c (.u8 45))⟩ [35]]
def Ay:List RI:=[omk 36 7,oo 37 (.bin .add (ci 1) (.t 36)) [36],oo 38 (.slcA 24 1 (.t 5) none (some (.t 37)) none) [5,37],oo 39 (.b2s (.t 38)) [38],omk 4 39]
def Ax:List RI:=[omk 40 7,oo 41 (.bin .add (ci 1) (.t 40)) [40],oo 42 (.slcA 24 1 (.t 5) (some (ci 1)) (some (.t 41)) none) [5,41],oo 43 (.b2s (.t 42)) [42],omk 4 43]
def Aw:List RI:=[om 45 0,oo 46 (.toInt .u64 (.t 45)) [45],omk 47 1,omk 48 0,oo 49 (Bc .lss 48 0) [48],oo 50 (Ca 174 [(.c (.byt [] .clip)),.t 46,.t 47,.t 49,(.c (.bool false))]) [46,47,49],omk 44 50,on 51 (.ext (.t 44) 0),oo 52 (.ext (.t 44) 1) [44],.op (xm 8 51) [8,51],omk 9 52]
def Av:List RI:=[omk 53 9,omk 4 53]
def xhA:RC:=(So pX (Sq (So Kr (Kc 11 (Kk [1,11] (Sq (So Kq (Kc 17 (Kk [17] (So Kp .ret)) (Kk [17] .skip))) (So Ko (So Kn (Sq (So Km (Kc 23 (Kk [23] (.ops Kj)) (Kk [23] .skip))) (So Ki (So Kh (Sq (So AA (Kc 34 (Kk [34] (So Az (So Ay .ret))) (Kk [34] .skip))) (So Ax .ret))))))))) (Kk [11] .skip))) (So Aw (So Av .ret))))
def YT:FnC:=⟨xhA,54,[.tmp 4],[],[]⟩
def Kg:List RI:=[om 5 0,oo 6 (.len true (.t 5)) [5],oo 7 (Bc .gtr 6 0) [6],omk 8 7,.grp 8 true [(xi 9 8 true (Mv 0)),(xi 10 8 true (.idxS (.t 9) (ci 0))),(xi 11 8 true (Mv 1)),(xi 12 8 true (Bb .eql 10 11))] [9,10,11],oo 13 (Pf 8 12) [8,12]]
def Kf:List RI:=[omk 14 0,oo 15 (.slcS (.t 14) (some (ci 1)) none) [14],omk 0 15]
def zj:RC:=(Sq (So Kg (Kc 13 (Kk [13] .skip) (Kk [1,13] (.exit 0)))) (Bk 1 (.ops Kf)))
def yf:RC:=zj
def Ke:List RI:=[omk 16 0,omk 4 16]
def xhz:RC:=(So pX (Sq (Bk 0 (.loop yf)) (So Ke .ret)))
def YS:FnC:=⟨xhz,17,[.tmp 4],[],[]⟩
def Kd:List RI:=[om 5 0,oo 6 (.len true (.t 5)) [5],oo 7 (Bc .gtr 6 0) [6],omk 8 7,.grp 8 true [(xi 9 8 true (Mv 0)),(xi 10 8 true (Mv 0)),(xi 11 8 true (.len true (.t 10))),(xi 12 8 true (Bc .sub 11 1)),(xi 13 8 true (.idxS (.t 9) (.t 12))),(xi 14 8 true (Mv 1)),(xi 15 8 true (Bb .eql 13 14))] [9,10,11,12,13,14],oo 16 (Pf 8 15) [8,15]]
def Kb:List RI:=[om 17 0,omk 18 0,oo 19 (.len true (.t 18)) [18],oo 20 (Bc .sub 19 1) [19],oo 21 (.slcS (.t 17) none (some (.t 20))) [17,20],omk 0 21]
def zi:RC:=(Sq (So Kd (Kc 16 (Kk [16] .skip) (Kk [1,16] (.exit 0)))) (Bk 1 (.ops Kb)))
def ye:RC:=zi
def Ka:List RI:=[omk 22 0,omk 4 22]
def xhy:RC:=(So pX (Sq (Bk 0 (.loop ye)) (So Ka .ret)))
def YR:FnC:=⟨xhy,23,[.tmp 4],[],[]⟩
def J9:List RI:=[om 5 0,oo 6 (.len true (.t 5)) [5],om 7 1,oo 8 (.len true (.t 7)) [7],oo 9 (Bb .geq 6 8) [6,8],omk 10 9,.grp 10 true [(xi 11 10 true (Mv 0)),(xi 12 10 true (Mv 1)),(xi 13 10 true (.len true (.t 12))),(xi 14 10 true (.slcS (.t 11) none (some (.t 13)))),(xi 15 10 true (Mv 1)),(xi 16 10 true (Bb .eql 14 15))] [0,1,11,12,13,14,15],oo 17 (Pf 10 16) [10,16],omk 4 17]
def xhx:RC:=(So qw (So J9 .ret))
def YQ:FnC:=⟨xhx,18,[.tmp 4],[],[]⟩
def J8:List RI:=[om 11 0,oo 12 (.len true (.t 11)) [11],omk 4 12]
def J7:List RI:=[on 13 (Mb false),.grp 13 true [(xi 14 13 true (Mv 4)),(xi 15 13 true (.bin .lss (ci 0) (.t 14))),(xi 16 13 true (Mv 15))] [14,15],.grp 16 true [(xi 17 16 true (Mv 4)),(xi 18 16 true (Bc .lss 17 10))] [17],.grp 13 true [(xi 19 13 true (Pf 16 18))] [16,18],oo 20 (Pf 13 19) [13,19],omk 21 20,.grp 21 false [(xi 22 21 false (Mb true))] [],.grp 22 true [(xi 23 22 true (Mv 4)),(xi 24 22 true (.bin .lss (ci 0) (.t 23))),(xi 25 22 true (Mv 24))] [23,24],.grp 25 true [(xi 26 25 true (Mv 4)),(xi 27 25 true (Bc .lss 26 19))] [4,26],.grp 22 true [(xi 28 22 true (Pf 25 27))] [25,27],.grp 21 false [(xi 29 21 false (Pf 22 28))] [22,28],oo 30 (Pt 21 29) [21,29]]
def J6:List RI:=[om 31 0,omk 5 31]
def J5:List RI:=[om 32 0,oo 33 (.idxS (.t 32) (ci 0)) [32],oo 34 (.bin .eql (.t 33) (.c (.u8 45))) [33],omk 35 34,.grp 35 false [(xi 36 35 false (Mv 0)),(xi 37 35 false (.idxS (.t 36) (ci 0))),(xi 38 35 false (.bin .eql (.t 37) (.c (.u8 43))))] [36,37],oo 39 (Pt 35 38) [35,38]]
def J4:List RI:=[omk 40 0,oo 41 (.slcS (.t 40) (some (ci 1)) none) [40],omk 0 41]
def J3:List RI:=[om 42 0,oo 43 (.len true (.t 42)) [42],oo 44 (Bc .lss 43 1) [43]]
def J2:List RI:=[omk 46 0,oo 47 (.s2b (.t 46)) [46],on 48 (Ln 47),on 49 (Mc 0)]
def J1:List RI:=[on 50 (Bb .lss 49 48)]
def Au:List RI:=[on 51 (Ia 1 47 49),oo 52 (Ld 51) [51],omk 8 52]
def At:List RI:=[omk 53 8,oo 54 (.bin .sub (.t 53) (.c (.u8 48))) [53],omk 8 54]
def As:List RI:=[om 55 8,oo 56 (.bin .gtr (.t 55) (.c (.u8 9))) [55]]
def Ar:List RI:=[omk 58 6,oo 59 (Bc .mul 58 10) [58],omk 60 8,oo 61 (.toInt .i64 (.t 60)) [60],oo 62 (Bb .add 59 61) [59,61],omk 6 62]
def Aq:List RI:=[oo 63 (Bc .add 49 1) [49],omk 49 63]
def sQ:RC:=(So J1 (Sq (Kc 50 (Kk [50] .skip) (Kk [47,48,49,50] (.exit 0))) (Sq (Bk 1 (So Au (So At (Sq (So As (Kc 56 (Kk [5,6,8,47,48,49,56] (Sq .bad .ret)) (Kk [56] .skip))) (.ops Ar))))) (.ops Aq))))
def oj:RC:=sQ
def Ap:List RI:=[omk 64 5,oo 65 (.idxS (.t 64) (ci 0)) [64],oo 66 (.bin .eql (.t 65) (.c (.u8 45))) [65]]
def Ao:List RI:=[omk 67 6,oo 68 (.un .neg (.t 67)) [67],omk 6 68]
def An:List RI:=[omk 69 6,omk 2 69,on 3 (.mov (.c .nili))]
def Am:List RI:=[omk 71 0,oo 72 (Ca 179 [.t 71,ci 10,ci 0]) [71],omk 70 72,on 73 (.ext (.t 70) 0),oo 74 (.ext (.t 70) 1) [70],omk 9 73,omk 10 74]
def Al:List RI:=[omk 75 9,omk 76 10,omk 2 75,omk 3 76]
def xhw:RC:=(So yl (So J8 (Sq (So J7 (Kc 30 (Kk [30] (So J6 (Sq (So J5 (Kc 39 (Kk [39] (So J4 (So J3 (Kc 44 (Kk [0,5,44] (Sq .bad .ret)) (Kk [44] .skip))))) (Kk [39] .skip))) (So tw (Sq (So J2 (Bk 0 (.loop oj))) (Sq (So Ap (Kc 66 (Kk [66] (.ops Ao)) (Kk [66] .skip))) (So An .ret))))))) (Kk [30] .skip))) (So Am (So Al .ret)))))
def YP:FnC:=⟨xhw,77,[.tmp 2,.tmp 3],[],[]⟩
def xhv:RC:=(So nA (Sq (.flt [0,0,2,7,15,31,63,0,0,256,768,1920,3968,8064,16256,32767,0,0,131072,393216,983040,2031616,4128768,8323072,16777215,0,0,67108864,201326592,503316480,1040187392,2113929216,4294967295,8589934591] [] yq [0,1,5,6,7,8,9,10,11,12,13,14,15,16,17,18,19,20,21,22,23,24,25,26,27,28,29,30,31,32,33,34,35,36,37]) .ret))
def YO:FnC:=⟨xhv,38,[.tmp 4],[],[]⟩
def J0:List RI:=[omk 6 1,oo 7 (.toInt .u64 (.t 6)) [6],oo 8 (.bin .and (.t 7) (.c (.int .u64 31))) [7],omk 5 8]
def JZ:List RI:=[om 9 0,om 10 5,oo 11 (Bb .shl 9 10) [9,10],omk 12 0,omk 13 5,oo 14 (.bin .sub (.c (.int .u64 32)) (.t 13)) [13],oo 15 (Bb .shr 12 14) [12,14],oo 16 (Bb .or 11 15) [11,15],omk 4 16]
def xhu:RC:=(So nA (So J0 (So JZ .ret)))
def YN:FnC:=⟨xhu,17,[.tmp 4],[],[]⟩
def JY:List RI:=[om 10 1,oo 11 (Bc .add 10 1) [10],omk 8 11]
def JX:List RI:=[om 12 8,om 13 2,oo 14 (Bb .lss 12 13) [12,13]]
def JW:List RI:=[om 17 8,omk 9 17]
def JV:List FI:=[Fm 0 18 9,Fm 1 19 1,Fs 2 20 (Bb .gtr 18 19),Fm 3 21 20,Fi 4 22 21 true (Mv 3),Fi 5 23 21 true (Mv 0),Fi 6 24 21 true (Mv 9),Fi 7 25 21 true (Ia 4 23 24),Fi 8 26 21 true (Lt 4 25),Fi 9 27 21 true (Mv 0),Fi 10 28 21 true (Mv 9),Fi 11 29 21 true (Bc .sub 28 1),Fi 12 30 21 true (Ia 4 27 29),Fi 13 31 21 true (Lt 4 30),Fy 14 32 21 true (.call (.t 22) [.t 26,.t 31]),Fi 15 33 21 true (Bc .lss 32 0),Fs 16 34 (Pf 21 33)]
def JU:List FI:=[Fm 0 37 0,Fm 1 38 9,Fm 2 39 0,Fm 3 40 9,Fs 4 41 (Bc .sub 40 1),Fm 5 42 0,Fm 6 43 9,Fs 7 44 (Bc .sub 43 1),Fs 8 45 (Ia 4 42 44),Fs 9 46 (Lt 4 45),Fm 10 47 0,Fm 11 48 9,Fs 12 49 (Ia 4 47 48),Fs 13 50 (Lt 4 49),Fs 14 51 (Ia 4 37 38),Fr 15 4 51 46,Fs 16 52 (Ia 4 39 41),Fr 17 4 52 50]
def JT:List RI:=[omk 35 9,oo 36 (Bc .sub 35 1) [35],omk 9 36]
def zh:RC:=(Sq (Sq (.flt [0,0,3,7,15,15,15,111,239,15,15,1039,3599,7695,16383,32767,65535] [] JV [18,19,20,21,22,23,24,25,26,27,28,29,30,31,32,33]) (Kc 34 (Kk [34] .skip) (Kk [9,34] (.exit 2)))) (Sq (Bk 3 (.flt [0,0,0,0,8,0,0,64,224,480,0,0,3072,7168,16355,32739,65535,131071] [] JU [37,38,39,40,41,42,43,44,45,46,47,48,49,50,51,52])) (.ops JT)))
def yd:RC:=zh
def JS:List RI:=[omk 15 8,oo 16 (Bc .add 15 1) [15],omk 8 16]
def zg:RC:=(Sq (So JX (Kc 14 (Kk [14] .skip) (Kk [0,1,2,3,8,14] (.exit 0)))) (Sq (Bk 1 (So JW (Bk 2 (.loop yd)))) (.ops JS)))
def yc:RC:=zg
def xht:RC:=(So JY (Bk 0 (.loop yc)))
def YM:FnC:=⟨xht,53,[],[],[]⟩
def JR:List RI:=[om 3 0,oo 4 (.bin .geq (.t 3) (.c (.int .u64 4294967296))) [3]]
def JQ:List RI:=[omk 5 0,oo 6 (.bin .shr (.t 5) (.c (.int .u64 32))) [5],omk 0 6]
def JP:List RI:=[on 2 (Mc 32)]
def JO:List RI:=[om 7 0,oo 8 (.bin .geq (.t 7) (.c (.int .u64 65536))) [7]]
def JN:List RI:=[omk 9 0,oo 10 (.bin .shr (.t 9) (.c (.int .u64 16))) [9],omk 0 10]
def JM:List RI:=[omk 11 2,oo 12 (Bc .add 11 16) [11],omk 2 12]
def JL:List RI:=[om 13 0,oo 14 (.bin .geq (.t 13) (.c (.int .u64 256))) [13]]
def JK:List RI:=[omk 15 0,oo 16 (.bin .shr (.t 15) (.c (.int .u64 8))) [15],omk 0 16]
def JJ:List RI:=[omk 17 2,oo 18 (Bc .add 17 8) [17],omk 2 18]
def Ak:List RI:=[omk 19 2,omk 20 0,oo 21 (.toInt .u8 (.t 20)) [20],oo 22 (.idxS (.c (.str cs0)) (.t 21)) [21],oo 23 (.toInt .i64 (.t 22)) [22],oo 24 (Bb .add 19 23) [19,23],omk 2 24]
def xhs:RC:=(So jt (Sq (So JR (Kc 4 (Kk [2,4] (So JQ (.ops JP))) (Kk [4] .skip))) (Sq (So JO (Kc 8 (Kk [8] (So JN (.ops JM))) (Kk [8] .skip))) (Sq (So JL (Kc 14 (Kk [14] (So JK (.ops JJ))) (Kk [14] .skip))) (So Ak .ret)))))
def YL:FnC:=⟨xhs,25,[.tmp 2],[],[]⟩
def Jw:List RI:=[om 5 0,om 6 1,oo 7 (Bb .shl 5 6) [5,6],omk 8 0,omk 9 1,oo 10 (.bin .sub (.c (.int .u64 32)) (.t 9)) [9],oo 11 (Bb .shr 8 10) [8,10],oo 12 (Bb .or 7 11) [7,11],omk 4 12]
def xhr:RC:=(So nA (So Jw .ret))
def YK:FnC:=⟨xhr,13,[.tmp 4],[],[]⟩
def Jv:List RI:=[om 5 0,omk 6 0,oo 7 (Bc .add 6 1) [6],oo 8 (.slcS (.c (.str cs1)) (some (.t 5)) (some (.t 7))) [5,7],omk 2 8]
def Ju:List RI:=[om 9 0,oo 10 (Bc .mul 9 2) [9],omk 11 0,oo 12 (Bc .mul 11 2) [11],oo 13 (Bc .add 12 2) [12],oo 14 (.slcS (.c (.str cs2)) (some (.t 10)) (some (.t 13))) [10,13],omk 2 14]
def xhq:RC:=(So DU (Sq (So NU (Kc 4 (Kk [4] (So Jv .ret)) (Kk [4] .skip))) (So Ju .ret)))
def YJ:FnC:=⟨xhq,15,[.tmp 2],[],[]⟩
def Jt:List RI:=[om 4 0,oo 5 (Ca 167 [.t 4]) [4],oo 6 (Ca 189 [.t 5]) [5],omk 3 6]
def Js:List RI:=[om 7 3,omk 8 0,omk 9 3,oo 10 (.iaddrA 20 1 (.c (.pp iI)) (.t 9)) [9],oo 11 (Ld 10) [10],oo 12 (Bb .geq 8 11) [8,11],oo 13 (Ca 190 [.t 12]) [12],oo 14 (Bb .add 7 13) [7,13],omk 2 14]
def xhp:RC:=(So js (So Jt (So Js .ret)))
def YI:FnC:=⟨xhp,15,[.tmp 2],[],[]⟩
def Jr:List RI:=[om 17 0,oo 18 (Ln 17) [17],omk 4 18]
def Jq:List RI:=[om 19 4,oo 20 (Bc .geq 19 8) [19]]
def Jp:List RI:=[om 21 1,oo 22 (.bin .rem (.t 21) (.c (.int .u64 100000000))) [21],oo 23 (.toInt .u32 (.t 22)) [22],omk 5 23]
def Jo:List RI:=[omk 24 1,oo 25 (.bin .quo (.t 24) (.c (.int .u64 100000000))) [24],omk 1 25]
def Jn:List RI:=[om 26 5,oo 27 (.bin .quo (.t 26) (.c (.int .u32 10000))) [26],omk 28 5,oo 29 (.bin .rem (.t 28) (.c (.int .u32 10000))) [28],omk 6 27,omk 7 29]
def Jm:List RI:=[om 30 7,oo 31 (.bin .quo (.t 30) (.c (.int .u32 100))) [30],oo 32 (.bin .mul (.t 31) (.c (.int .u32 2))) [31],omk 33 7,oo 34 (.bin .rem (.t 33) (.c (.int .u32 100))) [33],oo 35 (.bin .mul (.t 34) (.c (.int .u32 2))) [34],omk 8 32,omk 9 35]
def Jl:List RI:=[om 36 6,oo 37 (.bin .quo (.t 36) (.c (.int .u32 100))) [36],oo 38 (.bin .mul (.t 37) (.c (.int .u32 2))) [37],omk 39 6,oo 40 (.bin .rem (.t 39) (.c (.int .u32 100))) [39],oo 41 (.bin .mul (.t 40) (.c (.int .u32 2))) [40],omk 10 38,omk 11 41]
def Jk:List FI:=[Fm 0 42 0,Fm 1 43 4,Fs 2 44 (Bc .sub 43 1),Fm 3 45 0,Fm 4 46 4,Fs 5 47 (Bc .sub 46 2),Fm 6 48 9,Fs 7 49 (.bin .add (.t 48) (.c (.int .u32 1))),Fs 8 50 (.idxS (.c (.str cs2)) (.t 49)),Fm 9 51 9,Fs 10 52 (.idxS (.c (.str cs2)) (.t 51)),Fs 11 53 (Ia 1 42 44),Fr 12 1 53 50,Fs 13 54 (Ia 1 45 47),Fr 14 1 54 52]
def Jj:List FI:=[Fm 0 55 0,Fm 1 56 4,Fs 2 57 (Bc .sub 56 3),Fm 3 58 0,Fm 4 59 4,Fs 5 60 (Bc .sub 59 4),Fm 6 61 8,Fs 7 62 (.bin .add (.t 61) (.c (.int .u32 1))),Fs 8 63 (.idxS (.c (.str cs2)) (.t 62)),Fm 9 64 8,Fs 10 65 (.idxS (.c (.str cs2)) (.t 64)),Fs 11 66 (Ia 1 55 57),Fr 12 1 66 63,Fs 13 67 (Ia 1 58 60),Fr 14 1 67 65]
def Ji:List FI:=[Fm 0 68 0,Fm 1 69 4,Fs 2 70 (Bc .sub 69 5),Fm 3 71 0,Fm 4 72 4,Fs 5 73 (Bc .sub 72 6),Fm 6 74 11,Fs 7 75 (.bin .add (.t 74) (.c (.int .u32 1))),Fs 8 76 (.idxS (.c (.str cs2)) (.t 75)),Fm 9 77 11,Fs 10 78 (.idxS (.c (.str cs2)) (.t 77)),Fs 11 79 (Ia 1 68 70),Fr 12 1 79 76,Fs 13 80 (Ia 1 71 73),Fr 14 1 80 78]
def Aj:List FI:=[Fm 0 81 0,Fm 1 82 4,Fs 2 83 (Bc .sub 82 7),Fm 3 84 0,Fm 4 85 4,Fs 5 86 (Bc .sub 85 8),Fm 6 87 10,Fs 7 88 (.bin .add (.t 87) (.c (.int .u32 1))),Fs 8 89 (.idxS (.c (.str cs2)) (.t 88)),Fm 9 90 10,Fs 10 91 (.idxS (.c (.str cs2)) (.t 90)),Fs 11 92 (Ia 1 81 83),Fr 12 1 92 89,Fs 13 93 (Ia 1 84 86),Fr 14 1 93 91]
def Ai:List RI:=[omk 94 4,oo 95 (Bc .sub 94 8) [94],omk 4 95]
def sP:RC:=(Sq (So Jq (Kc 20 (Kk [20] .skip) (Kk [20] (.exit 0)))) (Bk 1 (So Jp (So Jo (So Jn (So Jm (So Jl (Sq (.flt [0,0,2,0,0,16,0,64,192,0,512,455,2503,8191,16383] [] Jk [9,42,43,44,45,46,47,48,49,50,51,52,53,54]) (Sq (.flt [0,0,2,0,0,16,0,64,192,0,512,455,2503,8191,16383] [] Jj [8,55,56,57,58,59,60,61,62,63,64,65,66,67]) (Sq (.flt [0,0,2,0,0,16,0,64,192,0,512,455,2503,8191,16383] [] Ji [11,68,69,70,71,72,73,74,75,76,77,78,79,80]) (Sq (.flt [0,0,2,0,0,16,0,64,192,0,512,455,2503,8191,16383] [] Aj [10,81,82,83,84,85,86,87,88,89,90,91,92,93]) (.ops Ai))))))))))))
def Ah:RC:=sP
def Ag:List RI:=[omk 96 1,oo 97 (.toInt .u32 (.t 96)) [96],omk 12 97]
def Af:List RI:=[om 98 4,oo 99 (Bc .geq 98 4) [98]]
def Ae:List RI:=[om 100 12,oo 101 (.bin .rem (.t 100) (.c (.int .u32 10000))) [100],omk 13 101]
def Ad:List RI:=[omk 102 12,oo 103 (.bin .quo (.t 102) (.c (.int .u32 10000))) [102],omk 12 103]
def Ac:List RI:=[om 104 13,oo 105 (.bin .quo (.t 104) (.c (.int .u32 100))) [104],oo 106 (.bin .mul (.t 105) (.c (.int .u32 2))) [105],omk 107 13,oo 108 (.bin .rem (.t 107) (.c (.int .u32 100))) [107],oo 109 (.bin .mul (.t 108) (.c (.int .u32 2))) [108],omk 14 106,omk 15 109]
def Ab:List FI:=[Fm 0 110 0,Fm 1 111 4,Fs 2 112 (Bc .sub 111 1),Fm 3 113 0,Fm 4 114 4,Fs 5 115 (Bc .sub 114 2),Fm 6 116 15,Fs 7 117 (.bin .add (.t 116) (.c (.int .u32 1))),Fs 8 118 (.idxS (.c (.str cs2)) (.t 117)),Fm 9 119 15,Fs 10 120 (.idxS (.c (.str cs2)) (.t 119)),Fs 11 121 (Ia 1 110 112),Fr 12 1 121 118,Fs 13 122 (Ia 1 113 115),Fr 14 1 122 120]
def Aa:List FI:=[Fm 0 123 0,Fm 1 124 4,Fs 2 125 (Bc .sub 124 3),Fm 3 126 0,Fm 4 127 4,Fs 5 128 (Bc .sub 127 4),Fm 6 129 14,Fs 7 130 (.bin .add (.t 129) (.c (.int .u32 1))),Fs 8 131 (.idxS (.c (.str cs2)) (.t 130)),Fm 9 132 14,Fs 10 133 (.idxS (.c (.str cs2)) (.t 132)),Fs 11 134 (Ia 1 123 125),Fr 12 1 134 131,Fs 13 135 (Ia 1 126 128),Fr 14 1 135 133]
def z9:List RI:=[omk 136 4,oo 137 (Bc .sub 136 4) [136],omk 4 137]
def z8:List RI:=[om 138 4,oo 139 (Bc .geq 138 2) [138]]
def z7:List RI:=[om 140 12,oo 141 (.bin .rem (.t 140) (.c (.int .u32 100))) [140],oo 142 (.bin .mul (.t 141) (.c (.int .u32 2))) [141],omk 16 142]
def z6:List RI:=[omk 143 12,oo 144 (.bin .quo (.t 143) (.c (.int .u32 100))) [143],omk 12 144]
def zZ:List FI:=[Fm 0 145 0,Fm 1 146 4,Fs 2 147 (Bc .sub 146 1),Fm 3 148 0,Fm 4 149 4,Fs 5 150 (Bc .sub 149 2),Fm 6 151 16,Fs 7 152 (.bin .add (.t 151) (.c (.int .u32 1))),Fs 8 153 (.idxS (.c (.str cs2)) (.t 152)),Fm 9 154 16,Fs 10 155 (.idxS (.c (.str cs2)) (.t 154)),Fs 11 156 (Ia 1 145 147),Fr 12 1 156 153,Fs 13 157 (Ia 1 148 150),Fr 14 1 157 155]
def zY:List RI:=[omk 158 4,oo 159 (Bc .sub 158 2) [158],omk 4 159]
def zX:List RI:=[omk 160 4,oo 161 (Bc .gtr 160 0) [160]]
def zW:List RI:=[omk 162 0,omk 163 12,oo 164 (.bin .add (.c (.int .u32 48)) (.t 163)) [163],oo 165 (.toInt .u8 (.t 164)) [164],oo 166 (.iaddrL 1 (.t 162) (ci 0)) [162],Sr 1 166 165 [165,166]]
def xho:RC:=(So Jr (Sq (Bk 0 (.loop Ah)) (So Ag (Sq (So Af (Kc 99 (Kk [99] (So Ae (So Ad (So Ac (Sq (.flt [0,0,2,0,0,16,0,64,192,0,512,455,2503,8191,16383] [] Ab [15,110,111,112,113,114,115,116,117,118,119,120,121,122]) (Sq (.flt [0,0,2,0,0,16,0,64,192,0,512,455,2503,8191,16383] [] Aa [14,123,124,125,126,127,128,129,130,131,132,133,134,135]) (.ops z9))))))) (Kk [99] .skip))) (Sq (So z8 (Kc 139 (Kk [139] (So z7 (So z6 (Sq (.flt [0,0,2,0,0,16,0,64,192,0,512,455,2503,8191,16383] [] zZ [16,145,146,147,148,149,150,151,152,153,154,155,156,157]) (.ops zY))))) (Kk [139] .skip))) (So zX (Kc 161 (Kk [161] (.ops zW)) (Kk [0,12,161] .skip))))))))
def YH:FnC:=⟨xho,167,[],[],[]⟩
def IY:List RI:=[omk 3 0,oo 4 (Bc .mul 3 78913) [3],oo 5 (.bin .shr (.t 4) (.c (.int .u64 18))) [4],omk 2 5]
def xhn:RC:=(So js (So IY .ret))
def YG:FnC:=⟨xhn,6,[.tmp 2],[],[]⟩
def xhm:RC:=(So js (Sq (So NV (Kc 3 (Kk [3] (So ks .ret)) (Kk [3] .skip))) (So jt .ret)))
def YF:FnC:=⟨xhm,4,[.tmp 2],[],[]⟩
theorem Fk{g:Nat}{F:FnC}{fn:Func}(h1:prog.funcs[g]? =some fn)(h3:fn.ntmps=F.n:=by kernel_rfl)(h2:fn.body.map (cx prog)=some F.code.er:=by kernel_rfl)(h4:(pL prog fn.results.toList F.rs&&ec prog g&&F.code.ok F.n)=true:=by kernel_rfl):bQ prog g F:=by simp only[ay]at h4;exact QB h1 h2 h3 h4.1.1 h4.1.2 h4.2
noncomputable def xg5:Nat->Option FnB
 |6=>some (.code F6)
 |8=>some (.code F8)
 |10=>some (.code F10)
 |12=>some (.code F12)
 |13=>some (.code F13)
 |15=>some (.code F15)
 |16=>some (.code F16)
 |17=>some (.code F17)
 |18=>some (.code F18)
 |19=>some (.code F19)
 |21=>some (.code F21)
 |25=>some (.code F25)
 |26=>some (.code F26)
 |27=>some (.code F27)
 |28=>some (.code F28)
 |29=>some (.code F29)
 |30=>some (.code F30)
 |31=>some (.code F31)
 |33=>some (.code F33)
 |34=>some (.code F34)
 |35=>some (.code F35)
 |37=>some (.code F37)
 |38=>some (.code F38)
 |40=>some (.code F40)
 |41=>some (.code F41)
 |42=>some (.code F42)
 |43=>some (.code F43)
 |44=>some (.code F44)
 |45=>some (.code F45)
 |46=>some (.code F46)
 |48=>some (.code F48)
 |49=>some (.code F49)
 |50=>some (.code F50)
 |51=>some (.code F51)
 |52=>some (.code F52)
 |53=>some (.code F53)
 |54=>some (.code F54)
 |55=>some (.code F55)
 |56=>some (.code F56)
 |57=>some (.code F57)
 |58=>some (.code F58)
 |65=>some (.code F65)
 |66=>some (.code F66)
 |67=>some (.code F67)
 |68=>some (.code F68)
 |69=>some (.code F69)
 |70=>some (.code F70)
 |71=>some (.code F71)
 |72=>some (.code F72)
 |73=>some (.code F73)
 |74=>some (.code F74)
 |75=>some (.code F75)
 |76=>some (.code F76)
 |77=>some (.code F77)
 |78=>some (.code F78)
 |79=>some (.code F79)
 |80=>some (.code F80)
 |81=>some (.code F81)
 |82=>some (.code F82)
 |85=>some (.code F85)
 |86=>some (.code F86)
 |87=>some (.code F87)
 |88=>some (.code F88)
 |89=>some (.code F89)
 |90=>some (.code F90)
 |91=>some (.code F91)
 |92=>some (.code F92)
 |93=>some (.code F93)
 |94=>some (.code F94)
 |95=>some (.code F95)
 |98=>some (.code F98)
 |100=>some (.code Zr)
 |101=>some (.code Zq)
 |102=>some (.code Zp)
 |103=>some (.code Zo)
 |104=>some (.code Zn)
 |105=>some (.code Zm)
 |106=>some (.code Zl)
 |108=>some (.code Zk)
 |109=>some (.code Zj)
 |110=>some (.code Zi)
 |111=>some (.code Zh)
 |112=>some (.code Zg)
 |115=>some (.code Zf)
 |116=>some (.code Ze)
 |117=>some (.code Zd)
 |118=>some (.code Zc)
 |119=>some (.code Zb)
 |120=>some (.code Za)
 |121=>some (.code Y9)
 |122=>some (.code Y8)
 |123=>some (.code Y7)
 |124=>some (.code Y6)
 |127=>some (.code Y5)
 |128=>some (.code Y4)
 |129=>some (.code Y3)
 |131=>some (.code Y2)
 |132=>some (.code Y1)
 |133=>some (.code Y0)
 |134=>some (.code YZ)
 |135=>some (.code YY)
 |136=>some (.code YX)
 |139=>some (.code YW)
 |141=>some (.code YV)
 |144=>some (.code YU)
 |145=>some (.code YT)
 |146=>some (.code YS)
 |147=>some (.code YR)
 |153=>some (.code YQ)
 |154=>some (.code YP)
 |156=>some (.code YO)
 |157=>some (.code YN)
 |158=>some (.code YM)
 |167=>some (.code YL)
 |170=>some (.code YK)
 |171=>some (.code YJ)
 |172=>some (.code YI)
 |173=>some (.code YH)
 |189=>some (.code YG)
 |190=>some (.code YF)
 |130=>some (.prim Pr.p130)
 |107=>some (.prim Pr.p107)
 |142=>some (.prim Pr.p142)
 |138=>some (.prim Pr.p138)
 |_=>none
def xiT:Nat->Sig
 |92=>⟨[],[0]⟩
 |93=>⟨[],[0]⟩
 |135=>⟨[],[0]⟩
 |158=>⟨[],[0]⟩
 |173=>⟨[],[0]⟩
 |_=> {}
noncomputable def T:jA:=⟨xg5,xiT⟩
abbrev tf(k:Nat)(F:FnC):Prop:=T.fn k=some (.code F)
theorem T_6:tf 6 F6:=rfl
theorem T_8:tf 8 F8:=rfl
theorem xly:tf 10 F10:=rfl
theorem xlx:tf 12 F12:=rfl
theorem xlw:tf 13 F13:=rfl
theorem xlv:tf 15 F15:=rfl
theorem xiA:tf 16 F16:=rfl
theorem xlu:tf 17 F17:=rfl
theorem xlt:tf 18 F18:=rfl
theorem xls:tf 19 F19:=rfl
theorem xlr:tf 21 F21:=rfl
theorem xlq:tf 25 F25:=rfl
theorem xlp:tf 26 F26:=rfl
theorem xlo:tf 27 F27:=rfl
theorem xln:tf 28 F28:=rfl
theorem xlm:tf 29 F29:=rfl
theorem oY:tf 30 F30:=rfl
theorem xll:tf 31 F31:=rfl
theorem xlk:tf 33 F33:=rfl
theorem xlj:tf 34 F34:=rfl
theorem xli:tf 35 F35:=rfl
theorem xlh:tf 37 F37:=rfl
theorem xlg:tf 38 F38:=rfl
theorem xlf:tf 40 F40:=rfl
theorem Yb:tf 41 F41:=rfl
theorem xle:tf 42 F42:=rfl
theorem xld:tf 43 F43:=rfl
theorem xlc:tf 44 F44:=rfl
theorem xlb:tf 45 F45:=rfl
theorem xla:tf 46 F46:=rfl
theorem xk9:tf 48 F48:=rfl
theorem xk8:tf 49 F49:=rfl
theorem xk7:tf 50 F50:=rfl
theorem xk6:tf 51 F51:=rfl
theorem xk5:tf 52 F52:=rfl
theorem xk4:tf 53 F53:=rfl
theorem xk3:tf 54 F54:=rfl
theorem xk2:tf 55 F55:=rfl
theorem xk1:tf 56 F56:=rfl
theorem xk0:tf 57 F57:=rfl
theorem xkZ:tf 58 F58:=rfl
theorem xkY:tf 65 F65:=rfl
theorem xkX:tf 66 F66:=rfl
theorem xkW:tf 67 F67:=rfl
theorem xkV:tf 68 F68:=rfl
theorem xkU:tf 69 F69:=rfl
theorem xkT:tf 70 F70:=rfl
theorem xkS:tf 71 F71:=rfl
theorem xiz:tf 72 F72:=rfl
theorem xkR:tf 73 F73:=rfl
theorem xc7:tf 74 F74:=rfl
theorem xkQ:tf 75 F75:=rfl
theorem xkP:tf 76 F76:=rfl
theorem xkO:tf 77 F77:=rfl
theorem xkN:tf 78 F78:=rfl
theorem xkM:tf 79 F79:=rfl
theorem xkL:tf 80 F80:=rfl
theorem xkK:tf 81 F81:=rfl
theorem xkJ:tf 82 F82:=rfl
theorem xkI:tf 85 F85:=rfl
theorem xkH:tf 86 F86:=rfl
theorem xkG:tf 87 F87:=rfl
theorem xkF:tf 88 F88:=rfl
theorem xiy:tf 89 F89:=rfl
theorem xix:tf 90 F90:=rfl
theorem xkE:tf 91 F91:=rfl
theorem xiw:tf 92 F92:=rfl
theorem Ya:tf 93 F93:=rfl
theorem xkD:tf 94 F94:=rfl
theorem xkC:tf 95 F95:=rfl
theorem xkB:tf 98 F98:=rfl
theorem xgI:tf 100 Zr:=rfl
theorem xgH:tf 101 Zq:=rfl
theorem xgG:tf 102 Zp:=rfl
theorem Ed:tf 103 Zo:=rfl
theorem xgF:tf 104 Zn:=rfl
theorem xgE:tf 105 Zm:=rfl
theorem xgD:tf 106 Zl:=rfl
theorem xgB:tf 108 Zk:=rfl
theorem xgA:tf 109 Zj:=rfl
theorem xgz:tf 110 Zi:=rfl
theorem xgy:tf 111 Zh:=rfl
theorem xgx:tf 112 Zg:=rfl
theorem xgw:tf 115 Zf:=rfl
theorem xgv:tf 116 Ze:=rfl
theorem xgu:tf 117 Zd:=rfl
theorem xgt:tf 118 Zc:=rfl
theorem xgs:tf 119 Zb:=rfl
theorem Yg:tf 120 Za:=rfl
theorem Yf:tf 121 Y9:=rfl
theorem xgr:tf 122 Y8:=rfl
theorem xgq:tf 123 Y7:=rfl
theorem xgp:tf 124 Y6:=rfl
theorem xgo:tf 127 Y5:=rfl
theorem xgn:tf 128 Y4:=rfl
theorem xgm:tf 129 Y3:=rfl
theorem xgk:tf 131 Y2:=rfl
theorem xgj:tf 132 Y1:=rfl
theorem xgi:tf 133 Y0:=rfl
theorem xgh:tf 134 YZ:=rfl
theorem Ye:tf 135 YY:=rfl
theorem xgg:tf 136 YX:=rfl
theorem xge:tf 139 YW:=rfl
theorem xgd:tf 141 YV:=rfl
theorem xgb:tf 144 YU:=rfl
theorem xga:tf 145 YT:=rfl
theorem xf9:tf 146 YS:=rfl
theorem xf8:tf 147 YR:=rfl
theorem xf7:tf 153 YQ:=rfl
theorem xf6:tf 154 YP:=rfl
theorem xf5:tf 156 YO:=rfl
theorem xf4:tf 157 YN:=rfl
theorem Yd:tf 158 YM:=rfl
theorem Yc:tf 167 YL:=rfl
theorem xf3:tf 170 YK:=rfl
theorem xf2:tf 171 YJ:=rfl
theorem xf1:tf 172 YI:=rfl
theorem xg:tf 173 YH:=rfl
theorem xf0:tf 189 YG:=rfl
theorem xfZ:tf 190 YF:=rfl
theorem xgl:T.fn 130=some (.prim Pr.p130):=rfl
theorem xgC:T.fn 107=some (.prim Pr.p107):=rfl
theorem xgc:T.fn 142=some (.prim Pr.p142):=rfl
theorem xgf:T.fn 138=some (.prim Pr.p138):=rfl
theorem qE:T.sg 130= {}:=rfl
theorem xgX:T.sg 107= {}:=rfl
theorem xgP:T.sg 142= {}:=rfl
theorem tQ:T.sg 138= {}:=rfl
theorem S_6:T.sg 6= {}:=rfl
theorem S_8:T.sg 8= {}:=rfl
theorem xy:T.sg 10= {}:=rfl
theorem xw:T.sg 12= {}:=rfl
theorem o3:T.sg 13= {}:=rfl
theorem NI:T.sg 15= {}:=rfl
theorem NH:T.sg 16= {}:=rfl
theorem xlM:T.sg 17= {}:=rfl
theorem Yk:T.sg 18= {}:=rfl
theorem vz:T.sg 19= {}:=rfl
theorem Yj:T.sg 21= {}:=rfl
theorem xlL:T.sg 25= {}:=rfl
theorem xlK:T.sg 26= {}:=rfl
theorem NG:T.sg 27= {}:=rfl
theorem Et:T.sg 28= {}:=rfl
theorem RK:T.sg 29= {}:=rfl
theorem xdi:T.sg 30= {}:=rfl
theorem Es:T.sg 31= {}:=rfl
theorem xl:T.sg 33= {}:=rfl
theorem xdh:T.sg 34= {}:=rfl
theorem xdg:T.sg 35= {}:=rfl
theorem xlJ:T.sg 37= {}:=rfl
theorem Cw:T.sg 38= {}:=rfl
theorem xiK:T.sg 40= {}:=rfl
theorem xlI:T.sg 41= {}:=rfl
theorem mW:T.sg 42= {}:=rfl
theorem RJ:T.sg 43= {}:=rfl
theorem tc:T.sg 44= {}:=rfl
theorem RH:T.sg 45= {}:=rfl
theorem Yi:T.sg 46= {}:=rfl
theorem qp:T.sg 48= {}:=rfl
theorem ta:T.sg 49= {}:=rfl
theorem xdf:T.sg 50= {}:=rfl
theorem xk:T.sg 51= {}:=rfl
theorem Er:T.sg 52= {}:=rfl
theorem Ep:T.sg 53= {}:=rfl
theorem Yh:T.sg 54= {}:=rfl
theorem xde:T.sg 55= {}:=rfl
theorem xlH:T.sg 56= {}:=rfl
theorem xdd:T.sg 57= {}:=rfl
theorem xlG:T.sg 58= {}:=rfl
theorem Eo:T.sg 65= {}:=rfl
theorem xlF:T.sg 66= {}:=rfl
theorem xlE:T.sg 67= {}:=rfl
theorem mV:T.sg 68= {}:=rfl
theorem xlD:T.sg 69= {}:=rfl
theorem xdc:T.sg 70= {}:=rfl
theorem fB:T.sg 71= {}:=rfl
theorem xiJ:T.sg 72= {}:=rfl
theorem mU:T.sg 73= {}:=rfl
theorem o0:T.sg 74= {}:=rfl
theorem xlC:T.sg 75= {}:=rfl
theorem xiI:T.sg 76= {}:=rfl
theorem vy:T.sg 77= {}:=rfl
theorem xlB:T.sg 78= {}:=rfl
theorem xdb:T.sg 79= {}:=rfl
theorem xiH:T.sg 80= {}:=rfl
theorem xiG:T.sg 81= {}:=rfl
theorem xlA:T.sg 82= {}:=rfl
theorem xiF:T.sg 85= {}:=rfl
theorem xlz:T.sg 86= {}:=rfl
theorem xda:T.sg 87= {}:=rfl
theorem xc9:T.sg 88= {}:=rfl
theorem vx:T.sg 89= {}:=rfl
theorem xj:T.sg 90= {}:=rfl
theorem xiE:T.sg 91= {}:=rfl
theorem xiD:T.sg 92=⟨[],[0]⟩:=rfl
theorem xiC:T.sg 93=⟨[],[0]⟩:=rfl
theorem RG:T.sg 94= {}:=rfl
theorem Cv:T.sg 95= {}:=rfl
theorem xiB:T.sg 98= {}:=rfl
theorem nz:T.sg 100= {}:=rfl
theorem xg1:T.sg 101= {}:=rfl
theorem o6:T.sg 102= {}:=rfl
theorem YB:T.sg 103= {}:=rfl
theorem xg0:T.sg 104= {}:=rfl
theorem xgZ:T.sg 105= {}:=rfl
theorem xgY:T.sg 106= {}:=rfl
theorem xgW:T.sg 108= {}:=rfl
theorem xx:T.sg 109= {}:=rfl
theorem o5:T.sg 110= {}:=rfl
theorem YA:T.sg 111= {}:=rfl
theorem xgV:T.sg 112= {}:=rfl
theorem xgU:T.sg 115= {}:=rfl
theorem Yz:T.sg 116= {}:=rfl
theorem Yy:T.sg 117= {}:=rfl
theorem Yx:T.sg 118= {}:=rfl
theorem Yw:T.sg 119= {}:=rfl
theorem OL:T.sg 120= {}:=rfl
theorem Yv:T.sg 121= {}:=rfl
theorem Ee:T.sg 122= {}:=rfl
theorem Yu:T.sg 123= {}:=rfl
theorem xgT:T.sg 124= {}:=rfl
theorem xgS:T.sg 127= {}:=rfl
theorem Yt:T.sg 128= {}:=rfl
theorem Ys:T.sg 129= {}:=rfl
theorem Yr:T.sg 131= {}:=rfl
theorem xgR:T.sg 132= {}:=rfl
theorem Yq:T.sg 133= {}:=rfl
theorem xgQ:T.sg 134= {}:=rfl
theorem Yp:T.sg 135=⟨[],[0]⟩:=rfl
theorem Yo:T.sg 136= {}:=rfl
theorem OK:T.sg 139= {}:=rfl
theorem OJ:T.sg 141= {}:=rfl
theorem xgO:T.sg 144= {}:=rfl
theorem xgN:T.sg 145= {}:=rfl
theorem xgM:T.sg 146= {}:=rfl
theorem xgL:T.sg 147= {}:=rfl
theorem Yn:T.sg 153= {}:=rfl
theorem xgK:T.sg 154= {}:=rfl
theorem Ym:T.sg 156= {}:=rfl
theorem qD:T.sg 157= {}:=rfl
theorem Yl:T.sg 158=⟨[],[0]⟩:=rfl
theorem jB:T.sg 167= {}:=rfl
theorem xu:T.sg 170= {}:=rfl
theorem xgJ:T.sg 171= {}:=rfl
theorem xq:T.sg 172= {}:=rfl
theorem xo:T.sg 173=⟨[],[0]⟩:=rfl
theorem kD:T.sg 189= {}:=rfl
theorem kC:T.sg 190= {}:=rfl
theorem xaO(c:CSt):run T lx c=run T zl c:=rfl
theorem xaN(c:CSt):run T tD c=run T zk c:=rfl
theorem xaI(c:CSt):run T pW c=run T zf c:=rfl
theorem xaH(c:CSt):run T pV c=run T ze c:=rfl
theorem xaG(c:CSt):run T yb c=run T zd c:=rfl
theorem xaF(c:CSt):run T ya c=run T zb c:=rfl
theorem xdZ(c:CSt):run T DW c=run T OH c:=rfl
theorem xaE(c:CSt):run T tz c=run T za c:=rfl
theorem xdY(c:CSt):run T Oj c=run T OG c:=rfl
theorem xaD(c:CSt):run T x9 c=run T y9 c:=rfl
theorem xaC(c:CSt):run T x7 c=run T y8 c:=rfl
theorem xaB(c:CSt):run T x6 c=run T y7 c:=rfl
theorem xaA(c:CSt):run T II c=run T y6 c:=rfl
theorem xaz(c:CSt):run T x5 c=run T y5 c:=rfl
theorem xay(c:CSt):run T xZ c=run T y0 c:=rfl
theorem xax(c:CSt):run T pR c=run T yZ c:=rfl
theorem xdX(c:CSt):run T Od c=run T OF c:=rfl
theorem xaw(c:CSt):run T xY c=run T yY c:=rfl
theorem xav(c:CSt):run T lw c=run T yX c:=rfl
theorem xau(c:CSt):run T xX c=run T yW c:=rfl
theorem xat(c:CSt):run T xW c=run T yV c:=rfl
theorem xdW(c:CSt):run T Ob c=run T OE c:=rfl
theorem xdV(c:CSt):run T N9 c=run T OD c:=rfl
theorem xas(c:CSt):run T xV c=run T yU c:=rfl
theorem xdU(c:CSt):run T N7 c=run T OC c:=rfl
theorem xar(c:CSt):run T xU c=run T yT c:=rfl
theorem xaq(c:CSt):run T xT c=run T yS c:=rfl
theorem xap(c:CSt):run T xR c=run T yR c:=rfl
theorem xao(c:CSt):run T xQ c=run T yQ c:=rfl
theorem xdT(c:CSt):run T Ub c=run T OB c:=rfl
theorem xan(c:CSt):run T xP c=run T yP c:=rfl
theorem xam(c:CSt):run T tv c=run T yO c:=rfl
theorem xdS(c:CSt):run T TW c=run T OA c:=rfl
theorem xal(c:CSt):run T xO c=run T yN c:=rfl
theorem xak(c:CSt):run T tt c=run T yM c:=rfl
theorem xaj(c:CSt):run T He c=run T yL c:=rfl
theorem xdR(c:CSt):run T NY c=run T Oz c:=rfl
theorem xai(c:CSt):run T xN c=run T yK c:=rfl
theorem xah(c:CSt):run T xM c=run T yJ c:=rfl
theorem xdQ(c:CSt):run T NW c=run T Oy c:=rfl
theorem xag(c:CSt):run T xL c=run T yI c:=rfl
theorem xdP(c:CSt):run T NS c=run T Ox c:=rfl
theorem xdO(c:CSt):run T NQ c=run T Ow c:=rfl
theorem xaf(c:CSt):run T xK c=run T yH c:=rfl
theorem xae(c:CSt):run T xJ c=run T yG c:=rfl
theorem xad(c:CSt):run T tq c=run T yF c:=rfl
theorem xdN(c:CSt):run T DT c=run T Ov c:=rfl
theorem xaZ(c:CSt):run T M8 c=run T zA c:=rfl
theorem xaY(c:CSt):run T MP c=run T zy c:=rfl
theorem xaX(c:CSt):run T yu c=run T zx c:=rfl
theorem xaW(c:CSt):run T Mn c=run T zw c:=rfl
theorem xaV(c:CSt):run T yr c=run T zu c:=rfl
theorem PM(c:CSt):run T sa c=run T s6 c:=rfl
theorem xaU(c:CSt):run T yo c=run T zt c:=rfl
theorem xaT(c:CSt):run T ym c=run T zr c:=rfl
theorem xaS(c:CSt):run T yk c=run T zq c:=rfl
theorem PL(c:CSt):run T r9 c=run T sZ c:=rfl
theorem xaR(c:CSt):run T yj c=run T zp c:=rfl
theorem PK(c:CSt):run T fO c=run T sY c:=rfl
theorem xaQ(c:CSt):run T yi c=run T zo c:=rfl
theorem PJ(c:CSt):run T r5 c=run T sX c:=rfl
theorem PI(c:CSt):run T rZ c=run T sW c:=rfl
theorem PH(c:CSt):run T rY c=run T sV c:=rfl
theorem PG(c:CSt):run T AT c=run T sU c:=rfl
theorem xaP(c:CSt):run T yh c=run T zm c:=rfl
theorem PF(c:CSt):run T rX c=run T sT c:=rfl
theorem PE(c:CSt):run T fN c=run T sS c:=rfl
theorem PD(c:CSt):run T rW c=run T sR c:=rfl
theorem xaM(c:CSt):run T yf c=run T zj c:=rfl
theorem xaL(c:CSt):run T ye c=run T zi c:=rfl
theorem PC(c:CSt):run T oj c=run T sQ c:=rfl
theorem xaK(c:CSt):run T yd c=run T zh c:=rfl
theorem xaJ(c:CSt):run T yc c=run T zg c:=rfl
theorem PB(c:CSt):run T Ah c=run T sP c:=rfl
theorem xjc:bQ prog 6 F6:=Fk func6
theorem xjb:bQ prog 8 F8:=Fk func8
theorem xfa:bQ prog 10 F10:=Fk func10
theorem xe9:bQ prog 12 F12:=Fk func12
theorem xe8:bQ prog 13 F13:=Fk func13
theorem xe7:bQ prog 15 F15:=Fk func15
theorem xe6:bQ prog 16 F16:=Fk func16
theorem xe5:bQ prog 17 F17:=Fk func17
theorem xe4:bQ prog 18 F18:=Fk func18
theorem xe3:bQ prog 19 F19:=Fk func19
theorem xe2:bQ prog 21 F21:=Fk func21
theorem xe1:bQ prog 25 F25:=Fk func25
theorem xe0:bQ prog 26 F26:=Fk func26
theorem xeZ:bQ prog 27 F27:=Fk func27
theorem xeY:bQ prog 28 F28:=Fk func28
theorem xeX:bQ prog 29 F29:=Fk func29
theorem xeW:bQ prog 30 F30:=Fk func30
theorem xeV:bQ prog 31 F31:=Fk func31
theorem xeU:bQ prog 33 F33:=Fk func33
theorem xeT:bQ prog 34 F34:=Fk func34
theorem xeS:bQ prog 35 F35:=Fk func35
theorem xeR:bQ prog 37 F37:=Fk func37
theorem xeQ:bQ prog 38 F38:=Fk func38
theorem xeP:bQ prog 40 F40:=Fk func40
theorem xeO:bQ prog 41 F41:=Fk func41
theorem xeN:bQ prog 42 F42:=Fk func42
theorem xeM:bQ prog 43 F43:=Fk func43
theorem xeL:bQ prog 44 F44:=Fk func44
theorem xeK:bQ prog 45 F45:=Fk func45
theorem xeJ:bQ prog 46 F46:=Fk func46
theorem xeI:bQ prog 48 F48:=Fk func48
theorem xeH:bQ prog 49 F49:=Fk func49
theorem xeG:bQ prog 50 F50:=Fk func50
theorem xeF:bQ prog 51 F51:=Fk func51
theorem xeE:bQ prog 52 F52:=Fk func52
theorem xeD:bQ prog 53 F53:=Fk func53
theorem xeC:bQ prog 54 F54:=Fk func54
theorem xeB:bQ prog 55 F55:=Fk func55
theorem xeA:bQ prog 56 F56:=Fk func56
theorem xez:bQ prog 57 F57:=Fk func57
theorem xey:bQ prog 58 F58:=Fk func58
theorem xex:bQ prog 65 F65:=Fk func65
theorem xew:bQ prog 66 F66:=Fk func66
theorem xev:bQ prog 67 F67:=Fk func67
theorem xeu:bQ prog 68 F68:=Fk func68
theorem xet:bQ prog 69 F69:=Fk func69
theorem xes:bQ prog 70 F70:=Fk func70
theorem xer:bQ prog 71 F71:=Fk func71
theorem xeq:bQ prog 72 F72:=Fk func72
theorem xep:bQ prog 73 F73:=Fk func73
theorem xeo:bQ prog 74 F74:=Fk func74
theorem xen:bQ prog 75 F75:=Fk func75
theorem xem:bQ prog 76 F76:=Fk func76
theorem xel:bQ prog 77 F77:=Fk func77
theorem xek:bQ prog 78 F78:=Fk func78
theorem xej:bQ prog 79 F79:=Fk func79
theorem xei:bQ prog 80 F80:=Fk func80
theorem xeh:bQ prog 81 F81:=Fk func81
theorem xeg:bQ prog 82 F82:=Fk func82
theorem xef:bQ prog 85 F85:=Fk func85
theorem xee:bQ prog 86 F86:=Fk func86
theorem xed:bQ prog 87 F87:=Fk func87
theorem xec:bQ prog 88 F88:=Fk func88
theorem xeb:bQ prog 89 F89:=Fk func89
theorem xea:bQ prog 90 F90:=Fk func90
theorem xd9:bQ prog 91 F91:=Fk func91
theorem xd8:bQ prog 92 F92:=Fk func92
theorem xd7:bQ prog 93 F93:=Fk func93
theorem xd6:bQ prog 94 F94:=Fk func94
theorem xd5:bQ prog 95 F95:=Fk func95
theorem xd4:bQ prog 98 F98:=Fk func98
theorem xbO:bQ prog 100 Zr:=Fk func100
theorem xbN:bQ prog 101 Zq:=Fk func101
theorem xbM:bQ prog 102 Zp:=Fk func102
theorem xbL:bQ prog 103 Zo:=Fk func103
theorem xbK:bQ prog 104 Zn:=Fk func104
theorem xbJ:bQ prog 105 Zm:=Fk func105
theorem xbI:bQ prog 106 Zl:=Fk func106
theorem xbH:bQ prog 108 Zk:=Fk func108
theorem xbG:bQ prog 109 Zj:=Fk func109
theorem xbF:bQ prog 110 Zi:=Fk func110
theorem xbE:bQ prog 111 Zh:=Fk func111
theorem xbD:bQ prog 112 Zg:=Fk func112
theorem xbC:bQ prog 115 Zf:=Fk func115
theorem xbB:bQ prog 116 Ze:=Fk func116
theorem xbA:bQ prog 117 Zd:=Fk func117
theorem xbz:bQ prog 118 Zc:=Fk func118
theorem xby:bQ prog 119 Zb:=Fk func119
theorem xbx:bQ prog 120 Za:=Fk func120
theorem xbw:bQ prog 121 Y9:=Fk func121
theorem xbv:bQ prog 122 Y8:=Fk func122
theorem xbu:bQ prog 123 Y7:=Fk func123
theorem xbt:bQ prog 124 Y6:=Fk func124
theorem xbs:bQ prog 127 Y5:=Fk func127
theorem xbr:bQ prog 128 Y4:=Fk func128
theorem xbq:bQ prog 129 Y3:=Fk func129
theorem xbp:bQ prog 131 Y2:=Fk func131
theorem xbo:bQ prog 132 Y1:=Fk func132
theorem xbn:bQ prog 133 Y0:=Fk func133
theorem xbm:bQ prog 134 YZ:=Fk func134
theorem xbl:bQ prog 135 YY:=Fk func135
theorem xbk:bQ prog 136 YX:=Fk func136
theorem xbj:bQ prog 139 YW:=Fk func139
theorem xbi:bQ prog 141 YV:=Fk func141
theorem xbh:bQ prog 144 YU:=Fk func144
theorem xbg:bQ prog 145 YT:=Fk func145
theorem xbf:bQ prog 146 YS:=Fk func146
theorem xbe:bQ prog 147 YR:=Fk func147
theorem xbd:bQ prog 153 YQ:=Fk func153
theorem xbc:bQ prog 154 YP:=Fk func154
theorem xbb:bQ prog 156 YO:=Fk func156
theorem xba:bQ prog 157 YN:=Fk func157
theorem xa9:bQ prog 158 YM:=Fk func158
theorem xa8:bQ prog 167 YL:=Fk func167
theorem xa7:bQ prog 170 YK:=Fk func170
theorem xa6:bQ prog 171 YJ:=Fk func171
theorem xa5:bQ prog 172 YI:=Fk func172
theorem xa4:bQ prog 173 YH:=Fk func173
theorem xa3:bQ prog 189 YG:=Fk func189
theorem xa2:bQ prog 190 YF:=Fk func190
theorem Gw:xf prog T:=by
 intro g b h;simp only[T]at h;unfold xg5 at h;split at h
 ·cases h;exact xjc
 ·cases h;exact xjb
 ·cases h;exact xfa
 ·cases h;exact xe9
 ·cases h;exact xe8
 ·cases h;exact xe7
 ·cases h;exact xe6
 ·cases h;exact xe5
 ·cases h;exact xe4
 ·cases h;exact xe3
 ·cases h;exact xe2
 ·cases h;exact xe1
 ·cases h;exact xe0
 ·cases h;exact xeZ
 ·cases h;exact xeY
 ·cases h;exact xeX
 ·cases h;exact xeW
 ·cases h;exact xeV
 ·cases h;exact xeU
 ·cases h;exact xeT
 ·cases h;exact xeS
 ·cases h;exact xeR
 ·cases h;exact xeQ
 ·cases h;exact xeP
 ·cases h;exact xeO
 ·cases h;exact xeN
 ·cases h;exact xeM
 ·cases h;exact xeL
 ·cases h;exact xeK
 ·cases h;exact xeJ
 ·cases h;exact xeI
 ·cases h;exact xeH
 ·cases h;exact xeG
 ·cases h;exact xeF
 ·cases h;exact xeE
 ·cases h;exact xeD
 ·cases h;exact xeC
 ·cases h;exact xeB
 ·cases h;exact xeA
 ·cases h;exact xez
 ·cases h;exact xey
 ·cases h;exact xex
 ·cases h;exact xew
 ·cases h;exact xev
 ·cases h;exact xeu
 ·cases h;exact xet
 ·cases h;exact xes
 ·cases h;exact xer
 ·cases h;exact xeq
 ·cases h;exact xep
 ·cases h;exact xeo
 ·cases h;exact xen
 ·cases h;exact xem
 ·cases h;exact xel
 ·cases h;exact xek
 ·cases h;exact xej
 ·cases h;exact xei
 ·cases h;exact xeh
 ·cases h;exact xeg
 ·cases h;exact xef
 ·cases h;exact xee
 ·cases h;exact xed
 ·cases h;exact xec
 ·cases h;exact xeb
 ·cases h;exact xea
 ·cases h;exact xd9
 ·cases h;exact xd8
 ·cases h;exact xd7
 ·cases h;exact xd6
 ·cases h;exact xd5
 ·cases h;exact xd4
 ·cases h;exact xbO
 ·cases h;exact xbN
 ·cases h;exact xbM
 ·cases h;exact xbL
 ·cases h;exact xbK
 ·cases h;exact xbJ
 ·cases h;exact xbI
 ·cases h;exact xbH
 ·cases h;exact xbG
 ·cases h;exact xbF
 ·cases h;exact xbE
 ·cases h;exact xbD
 ·cases h;exact xbC
 ·cases h;exact xbB
 ·cases h;exact xbA
 ·cases h;exact xbz
 ·cases h;exact xby
 ·cases h;exact xbx
 ·cases h;exact xbw
 ·cases h;exact xbv
 ·cases h;exact xbu
 ·cases h;exact xbt
 ·cases h;exact xbs
 ·cases h;exact xbr
 ·cases h;exact xbq
 ·cases h;exact xbp
 ·cases h;exact xbo
 ·cases h;exact xbn
 ·cases h;exact xbm
 ·cases h;exact xbl
 ·cases h;exact xbk
 ·cases h;exact xbj
 ·cases h;exact xbi
 ·cases h;exact xbh
 ·cases h;exact xbg
 ·cases h;exact xbf
 ·cases h;exact xbe
 ·cases h;exact xbd
 ·cases h;exact xbc
 ·cases h;exact xbb
 ·cases h;exact xba
 ·cases h;exact xa9
 ·cases h;exact xa8
 ·cases h;exact xa7
 ·cases h;exact xa6
 ·cases h;exact xa5
 ·cases h;exact xa4
 ·cases h;exact xa3
 ·cases h;exact xa2
 ·cases h;exact Pr.p130_ok
 ·cases h;exact Pr.p107_ok
 ·cases h;exact Pr.p142_ok
 ·cases h;exact Pr.p138_ok
 ·cases h
attribute [go_sem] SV.kclip Tok.kc Pw xfY xfX xkA ip tE O2 DY jg List.all_replicate BY BX O5 ZW PP PR PQ Fl PS PV qP PU PT aq.injEq xi8 xdI xfJ xbU xbP wD CM CN xb2 ZF D7 CP am cz cV aw RA RB xcW Gf FD Df CF CG Tok.ids kH aY af bS Int.natCast_nonneg Int.ofNat_lt Int.ofNat_le Int.ofNat_inj EZ Pq E3 Pu Pv xdm OP xdn ZD ZC Zy xdt xdu xdr xiM ON OM xdl xdv Zz Zu Zv Zw OO xdp Ew Ey ZH ZG xdq xdo ZE xds ZA ZB Zx xi7 xi6 xi9 Z2 xdJ xcn xjP xjQ xjN xjO xjS Qz xco QC Pp E4 C4 Ps E1 xcl C7 C8 E8 E9 xck P9 xkr xkt xks pn Dg xfd P4 xff xb0 xbZ xbV xfo xfp xfj xjd P0 PZ xfb xfq xbW xbQ xbR xbS P3 xfh Fp Fq xb4 xb3 xfi xfg xb1 xfm xbX xbY xbT P2 xfc xfn xje xfe P1 xfr xfk xb5 RF DM mkE xc1 stC EH apS apB apL RE cpC cp2 cpB cpL Z3 xa1 BZ Np B0 Cb kM kN Nm Ce Cf ZU OY xfK xb7 xce xcd Qp FO FN Dl Qo Dn FP Qq Dm wJ Ft Fu P6 xiW xiU xiV O9 ZY xfS xfW xfV xfU Gn Ru xjl xjj xjk P8 xcb Ff xd2 xd0 xd1 Fe PN Gc DF DH xfM xfL QD D1 X7 X0 tj RT X8 Gy DQ DR tJ XO oG pq mb Ea D9 XZ lenC X4 D2 D3 tM XG D4 DZ tG eA i5 vn iu iz xc4 lX df evL CSt.purge wK xD NN ma El lM jZ nE eD fH psC Tok.readyC aB.wf SV.bare SV.bareL jC jD rP jp dX cu dG gx gC fD dx nT ee qz qA lU qu jz iH ER CQ Pl EM ES EP CO vU Pm EN Po ET CZ vY CW vX EU CS CX CV vV vW tZ EV CT EX CY CR EW CU EL Pn EO Ot Gj Rp Rq QF QH QI QG Ry EJ Pb Pi Ph Pg Pe Pd Pc xcw xcp xcu xcv xct xcs xcr xcq PY PX PW Qw Qv Qs Qr Qu Qt Rx xcV eJ CSt.publish kL li nj SV.pub SV.pubL ww gcC qk O3 qN jU fQ gM tks nm Eh qC dy Oq vE gU jw SV.num lv iw toB rows tK gE fC setCells Tok.eat SV.one SV.data SV.isData SV.cells SV.isDef SV.purge SV.purgeL aB.purge bx cw Tok.purge SV.ren SV.renL aB.ren Tok.ren SV.ids SV.idsL SV.toks SV.toksL aB.ids aB.toks ic jl inR oe eZ id_eq ax aV bv aQ bC bW fj beq_self_eq_true bO b9 List.getD_nil List.take_succ_cons List.take_zero List.take_nil bh List.drop_succ_cons List.drop_nil aE cQ db List.flatten_nil List.contains_nil List.contains_cons List.isEmpty_nil List.isEmpty_cons iy List.all_nil List.set_cons_zero List.set_cons_succ bf Option.getD_none bo Option.map_none Option.toList_some Option.toList_none cP Option.isNone_none Option.isNone_some Option.isSome_none Option.isSome_some Bool.or_false mY Bool.or_true ez Bool.and_self Bool.and_true Bool.true_and Bool.and_false Bool.false_and Bool.not_true Bool.not_false aI Bool.true_eq_false Bool.not_eq_true Bool.not_eq_false decide_eq_true_eq decide_eq_false_iff_not and_true true_and and_self or_false false_or or_true true_or not_true_eq_false not_false_eq_true ne_eq Int.toNat_natCast true_implies false_implies implies_true decide_true decide_false Nat.lt_irrefl Nat.not_lt_zero aL bM eq_self and_false false_and No mvC xia XC xb6 xfl clA cl2 clC
attribute [go_sem] Fm Fs Fz Fi Ld Fa Ln Ia Mv Bb Bc Ca Pf Pt So Kk Kc Fy Fr Sr Lt Mc Mb Bk Sq Zq0 Zq1 Zq2 Zq3 xm xs xi ci om omk on oo xhl xhk TS xhj xhi xhh xhg xhf F6 r6 xhe xhd xc0 xhc xhb xha xg9 xg8 xg7 xg6 SJ NR SH SG SF SE F8 r8 Xy Xx Xw Xv Xu Xt F10 r10 Ok Xs F12 r12 wv Xr wu Xq ks Xp tC Xo Xn Xm KK KJ KI yg KH KG KF KE KD KC KB KA jt zl zk F13 xaO xaN r13 oi Xl lF Xk Xj Xi Xh F15 r15 wt Xg wq Xf Xe Xd Xc Xb Xa W9 JI JH JG JF JE JD JC JB JA Jz Jy Jx zf ze F16 xaI xaH r16 W8 W7 W6 W5 W4 W3 W2 W1 W0 WZ Jh Jg Jf Je Jd Jc Jb Ja I9 pU I8 I7 I6 I5 I4 I3 I2 I1 pT I0 IZ zd zb F17 xaG xaF r17 DX WY oh qx WX WW WV WU pS IX IW IV tx OH za F18 xdZ xaE r18 qw WT WS WR WQ OG F19 xdY r19 WP WO WN F21 r21 WM WL F25 r25 kZ WK F26 r26 Oi WJ Oh WI WH WG WF wo WE WD IU IT IS IR IQ IP x8 IN IM IL IK IJ IH y9 y8 y7 y6 F27 xaD xaC xaB xaA r27 WC WB Og WA Wz Wy Wx Ww Wv IG IF IE ID IC IB IA Iz Iy y5 y0 yZ F28 xaz xay xax r28 Wu Wt Ws Wr F29 r29 Wq Wp Wo Wn Wm Wj Wi Wh Wg Wf Ix Iw Iv F30 r30 Of We og Wd Wc Wb Wa V9 V8 Iu It F31 r31 js V7 wn V6 F33 r33 kY V5 F34 r34 V4 V3 V2 V1 V0 VZ VY VX VW Is Ir F35 r35 Oe VV VU VT VS VR VQ VP VO Iq Ip OF F37 xdX r37 VN VM VL VK VJ VI VH VG Io In Im Il yY yX F38 xaw xav r38 VF VE VD VC F40 r40 VB VA Vz Vy Vx Vw Vv Vu Vt Ik Ij Ii Ih Ig yW F41 xau r41 wm Vs F42 r42 Vr F43 r43 Vq Vp Vo Vn Vm Vl Vk If Ie Ic Ib yV F44 xat r44 Vj ni Oc Vi Vh Vg Vf pQ OE F45 xdW r45 Ve Vd Vc Vb Va U9 U8 F46 r46 Oa U7 U6 U5 U4 U3 U2 U1 U0 OD F48 xdV r48 UZ UY F49 r49 UX UW F50 r50 N8 UV UU UT US UR H9 H8 H7 H6 H5 H4 H3 H2 HZ HY yU F51 xas r51 kr UQ UP UO UN UM UL HX HW HV HU HT HS F52 r52 UK F53 r53 UJ UI UH UG UF UE HR HQ F54 r54 UD UC UB F55 r55 UA Uz Uy F56 r56 Ux Uw Uv Uu Ut Us Ur Uq OC F57 xdU r57 Up F58 r58 Uo Un Um tw Ul Uk Uj Ui HP HO HN HM HK HJ HI HH HG HF HE HD HC xS HB Hz Hy Hx Hw yT yS yR yQ F65 xar xaq xap xao r65 Uh Ug Uf Ue Ud Uc Ua OB F66 xdT r66 T9 T8 T7 T6 T5 T4 T3 Hv Hu Ht Hs Hr Hq Hp Ho tu yP yO F67 xan xam r67 T2 T1 T0 TZ TY TX TV OA F68 xdS r68 TU TT F69 r69 N6 N5 TR TQ TP TO wk TN Hn Hm Hl Hk Hj yN F70 xal r70 TL TK TJ F71 r71 TI TH TG TF TE TD TC TB TA Hi Hh Hg yM F72 xak r72 Tz Ty F73 r73 Tx N4 Tw Tv Tu Tt Ts Tr Tq Hf Hd yL F74 xaj r74 N3 DV N2 N1 N0 NZ Oz F75 xdR r75 NX Tp F76 r76 To F77 r77 DU Tn F78 r78 Tm Tl Tk Tj Ti Th Tg Tf Hc Hb Ha G9 G8 G7 G6 G5 G4 G3 G2 G1 GZ yK yJ F79 xai xah r79 Oy F80 xdQ r80 Te F81 r81 NV Td Tc Tb Ta S9 S8 F82 r82 NU S7 S6 F85 r85 S5 S4 S3 S2 S1 S0 SZ SY GY yI F86 xag r86 NT SX F87 r87 SW SU SS SR SQ SP GX GV Ox F88 xdP r88 SN SM SL SK F89 r89 SD SC SB SA Sz Sx Sw Sv GU GT GS GR GQ GP GO Ow yH F90 xdO xaf r90 Su Ss Sp Sn Sm F91 r91 Sl Sk F92 r92 Sj Si Sh Sg Sf Se Sd Sc GN GL GK GJ GI xI GH yG yF F93 xae xad r93 Sb F94 r94 Sa R9 R8 R7 R6 F95 r95 R5 R4 R3 R2 RZ RY GG Ov F98 xdN r98 Nj Ni Nh Ng Zr xh8 Nf Nd Nc Nb Na M9 M7 zA Zq xaZ xh7 M6 M5 Zp xh6 M4 M3 M2 M1 M0 MZ MY MX MW MV BV Zo xh5 MU MT MS MR MQ MO zy Zn xaY xh4 MN MM ML MK MJ yv MI BU Zm xh3 MH Zl xh2 MG MF ME MD zx Zk xaX xh1 MC Zj xh0 MB MA Mz My Zi xhZ Mx Zh xhY Mw Mu Mt Ms Mr Mq Mp Mo BT zw Zg xaW xhX Mm Ml Zf xhW Mk Mj Mi Mh Mg Mf Me Md BS zu s6 Ze xaV PM xhV nA yq Zd xhU Ma Zc xhT yp L9 L8 L7 yn zt Zb xaU xhS L6 Za xhR L5 L4 L3 L2 L1 Y9 xhQ L0 LZ Y8 xhP LY LX LW LV LU zr Y7 xaT xhO LS Y6 xhN pX LR LQ LP LO LN LM LL LK Y5 xhM LJ LI LH Y4 xhL yl LG LF LD LC Y3 xhK LA Lz Ly Lx Lw Lv Lu Ls zq sZ Y2 xaS PL xhJ Lr Lq Lp Lo Lm Ll Lk Lj Li BR BQ BP BO BN BM BL BK BJ BI BH BG BF BE BD BC BB BA Bz zp sY Y1 xaR PK xhI Lh Lg Lf Le Lc Lb La zo Y0 xaQ xhH K9 K8 K7 K6 K5 K4 K3 K2 K1 By Bx Bw Bv Bu Bt Bs Br Bq Bp Bo Bn Bm Bl Bj sX sW sV YZ PJ PI PH xhG K0 KZ KY KX KW KV KU KT KS Bi Bh Bg Bf Be Bd Ba A9 A8 A7 A6 A5 A4 A3 A1 AZ AY AX AW AV AU sU YY PG xhF KR KQ YX xhE KP KO KN KM KL zm YW xaP xhD Kz YV xhC Ky Kx Kw Kv Ku Kt Ks AS AR AQ AP AO AN AM AL AK AJ AI AH AG AF AE AD AC AB sT sS sR YU PF PE PD xhB Kr Kq Kp Ko Kn Km Kj Ki Kh AA Az Ay Ax Aw Av YT xhA Kg Kf Ke zj YS xaM xhz Kd Kb Ka zi YR xaL xhy J9 YQ xhx J8 J7 J6 J5 J4 J3 J2 J1 Au At As Ar Aq Ap Ao An Am Al sQ YP PC xhw YO xhv J0 JZ YN xhu JY JX JW JV JU JT JS zh zg YM xaK xaJ xht JR JQ JP JO JN JM JL JK JJ Ak YL xhs Jw YK xhr Jv Ju YJ xhq Jt Js YI xhp Jr Jq Jp Jo Jn Jm Jl Jk Jj Ji Aj Ai Ag Af Ae Ad Ac Ab Aa z9 z8 z7 z6 zZ zY zX zW sP YH PB xho IY YG xhn YF xhm
end Go.Proofs.YtkcjdeofknkndaaGreatDoor