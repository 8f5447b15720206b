/- The resolved code of the functions of this seat, with directions, checked by the kernel. No condition. -/
import Derived.Test.YtkcjdeofknkndaaGreatDoorProg
import Derived.Test.YtkcjdeofknkndaaGreatDoorVaIt
import Derived.KernelRfl
open Bool renaming and_eq_true -> az, false_and -> Fb, false_eq_true -> aK, false_or -> dD, true_or -> im
open List renaming all_cons -> gx, append_assoc -> aA, append_nil -> bJ, cons_append -> aJ, drop_zero -> bh, flatten_cons -> dj, getD_cons_succ -> bY, getD_cons_zero -> bL, length_append -> af, length_cons -> aC, length_map -> au, length_nil -> aB, length_replicate -> ca, map_append -> cn, map_cons -> aI, map_nil -> bn, mem_cons -> an, nil_append -> aF, not_mem_nil -> cz, replicate -> am, take_nil -> b9, take_succ_cons -> mz
open Nat renaming add_zero -> eK, le_refl -> aQ, zero_add -> cK, zero_le -> bU
open Option renaming bind_some -> cZ, getD_some -> bB, map_some -> bx, some -> aw
set_option maxRecDepth 100000
set_option linter.unusedVariables false
namespace Go.Proofs.YtkcjdeofknkndaaGreatDoor
open Tryz
open Go.Sy
abbrev xm(d s:Nat):SI:=⟨some d,none,.mov (.t s)⟩
abbrev xs(d:Nat)(o:SOp):SI:=⟨some d,none,o⟩
abbrev xi(d g:Nat)(b:Bool)(o:SOp):SI:=⟨some d,some (g,b),o⟩
abbrev om(d s:Nat):RI:= .op (xm d s) []
abbrev omk(d s:Nat):RI:= .op (xm d s) [s]
abbrev on(d:Nat)(o:SOp):RI:= .op (xs d o) []
abbrev oo(d:Nat)(o:SOp)(k:List Nat):RI:= .op (xs d o) k
abbrev ci(n:Int):Arg:= .c (.int .i64 n)
abbrev Fm(n d s:Nat):FI:=⟨n,true,xm d s⟩
abbrev Fs(n d:Nat)(o:SOp):FI:=⟨n,true,xs d o⟩
abbrev Fz(n d:Nat)(o:SOp):FI:=⟨n,false,xs d o⟩
abbrev Fi(n d g:Nat)(b:Bool)(o:SOp):FI:=⟨n,true,xi d g b o⟩
abbrev Ld(s:Nat):SOp:= .load 1 false (.t s)
abbrev Fa(n s:Nat):SOp:= .faddr n (.t s)
abbrev Ln(s:Nat):SOp:= .len false (.t s)
abbrev Ia(n a b:Nat):SOp:= .iaddrL n (.t a) (.t b)
abbrev Mv(s:Nat):SOp:= .mov (.t s)
abbrev Bb(o:BinOp)(a b:Nat):SOp:= .bin o (.t a) (.t b)
abbrev Bc(o:BinOp)(a:Nat)(n:Int):SOp:= .bin o (.t a) (ci n)
abbrev Ca(f:Nat)(l:List Arg):SOp:= .call (.f f) l
abbrev Pf(a b:Nat):SOp:= .pick (.t a) (.t b) (.c (.bool false))
abbrev Pt(a b:Nat):SOp:= .pick (.t a) (.c (.bool true)) (.t b)
abbrev So(l:List RI)(x:RC):RC:= .seq (.ops l) x
abbrev Kk(l:List Nat)(x:RC):RC:= .pre [.kill l] x
abbrev Kc(n:Nat)(x y:RC):RC:= .cond (.t n) x y
abbrev Fy(n d g:Nat)(b:Bool)(o:SOp):FI:=⟨n,false,xi d g b o⟩
abbrev Fr(n k a x:Nat):FI:=⟨n,false,⟨none,none,.store k (.t a) (.t x)⟩⟩
abbrev Sr(n a x:Nat)(k:List Nat):RI:= .op ⟨none,none,.store n (.t a) (.t x)⟩ k
abbrev Lt(n s:Nat):SOp:= .load n true (.t s)
abbrev Mc(n:Int):SOp:= .mov (ci n)
abbrev Mb(b:Bool):SOp:= .mov (.c (.bool b))
abbrev Bk(n:Nat)(x:RC):RC:= .block n x
abbrev Sq(x y:RC):RC:= .seq x y
abbrev Zq0:List SV:=[.int .i64 0,.str [],.int .i64 0,.byt [] .clip]
abbrev Zq1:List SV:=[.str [],.int .i64 0,.int .i64 0,.int .i64 0,.int .i64 0,.lst 4 [] .clip,.lst 4 [] .clip]
abbrev Zq2:List SV:=[.int .i64 0,.int .i64 0,.lst 1 [] .clip,.byt [] .clip]
abbrev Zq3:List SV:=[.int .i64 0,.str [],.int .i64 0,.int .i64 0]
def cs0:List UInt8:=[0,1,2,2,3,3,3,3,4,4,4,4,4,4,4,4,5,5,5,5,5,5,5,5,5,5,5,5,5,5,5,5,6,6,6,6,6,6,6,6,6,6,6,6,6,6,6,6,6,6,6,6,6,6,6,6,6,6,6,6,6,6,6,6,7,7,7,7,7,7,7,7,7,7,7,7,7,7,7,7,7,7,7,7,7,7,7,7,7,7,7,7,7,7,7,7,7,7,7,7,7,7,7,7,7,7,7,7,7,7,7,7,7,7,7,7,7,7,7,7,7,7,7,7,7,7,7,7,8,8,8,8,8,8,8,8,8,8,8,8,8,8,8,8,8,8,8,8,8,8,8,8,8,8,8,8,8,8,8,8,8,8,8,8,8,8,8,8,8,8,8,8,8,8,8,8,8,8,8,8,8,8,8,8,8,8,8,8,8,8,8,8,8,8,8,8,8,8,8,8,8,8,8,8,8,8,8,8,8,8,8,8,8,8,8,8,8,8,8,8,8,8,8,8,8,8,8,8,8,8,8,8,8,8,8,8,8,8,8,8,8,8,8,8,8,8,8,8,8,8,8,8,8,8,8,8]
def cs1:List UInt8:=[48,49,50,51,52,53,54,55,56,57,97,98,99,100,101,102,103,104,105,106,107,108,109,110,111,112,113,114,115,116,117,118,119,120,121,122]
def cs2:List UInt8:=[48,48,48,49,48,50,48,51,48,52,48,53,48,54,48,55,48,56,48,57,49,48,49,49,49,50,49,51,49,52,49,53,49,54,49,55,49,56,49,57,50,48,50,49,50,50,50,51,50,52,50,53,50,54,50,55,50,56,50,57,51,48,51,49,51,50,51,51,51,52,51,53,51,54,51,55,51,56,51,57,52,48,52,49,52,50,52,51,52,52,52,53,52,54,52,55,52,56,52,57,53,48,53,49,53,50,53,51,53,52,53,53,53,54,53,55,53,56,53,57,54,48,54,49,54,50,54,51,54,52,54,53,54,54,54,55,54,56,54,57,55,48,55,49,55,50,55,51,55,52,55,53,55,54,55,55,55,56,55,57,56,48,56,49,56,50,56,51,56,52,56,53,56,54,56,55,56,56,56,57,57,48,57,49,57,50,57,51,57,52,57,53,57,54,57,55,57,56,57,57]
def pk:List SV:=[.int .i64 (-1),.int .i64 0,.int .i64 4,.int .i64 8,.int .i64 9]
def iU:List SV:=[.int .u32 1116352408,.int .u32 1899447441,.int .u32 3049323471,.int .u32 3921009573,.int .u32 961987163,.int .u32 1508970993,.int .u32 2453635748,.int .u32 2870763221,.int .u32 3624381080,.int .u32 310598401,.int .u32 607225278,.int .u32 1426881987,.int .u32 1925078388,.int .u32 2162078206,.int .u32 2614888103,.int .u32 3248222580,.int .u32 3835390401,.int .u32 4022224774,.int .u32 264347078,.int .u32 604807628,.int .u32 770255983,.int .u32 1249150122,.int .u32 1555081692,.int .u32 1996064986,.int .u32 2554220882,.int .u32 2821834349,.int .u32 2952996808,.int .u32 3210313671,.int .u32 3336571891,.int .u32 3584528711,.int .u32 113926993,.int .u32 338241895,.int .u32 666307205,.int .u32 773529912,.int .u32 1294757372,.int .u32 1396182291,.int .u32 1695183700,.int .u32 1986661051,.int .u32 2177026350,.int .u32 2456956037,.int .u32 2730485921,.int .u32 2820302411,.int .u32 3259730800,.int .u32 3345764771,.int .u32 3516065817,.int .u32 3600352804,.int .u32 4094571909,.int .u32 275423344,.int .u32 430227734,.int .u32 506948616,.int .u32 659060556,.int .u32 883997877,.int .u32 958139571,.int .u32 1322822218,.int .u32 1537002063,.int .u32 1747873779,.int .u32 1955562222,.int .u32 2024104815,.int .u32 2227730452,.int .u32 2361852424,.int .u32 2428436474,.int .u32 2756734187,.int .u32 3204031479,.int .u32 3329325298]
def iT:List SV:=[.int .u64 1,.int .u64 10,.int .u64 100,.int .u64 1000,.int .u64 10000,.int .u64 100000,.int .u64 1000000,.int .u64 10000000,.int .u64 100000000,.int .u64 1000000000,.int .u64 10000000000,.int .u64 100000000000,.int .u64 1000000000000,.int .u64 10000000000000,.int .u64 100000000000000,.int .u64 1000000000000000,.int .u64 10000000000000000,.int .u64 100000000000000000,.int .u64 1000000000000000000,.int .u64 10000000000000000000]
instance:bg:=⟨fun
 |0=>some pk
 |1=>some iU
 |3=>some iT
 |_=>none⟩
def xjS:List RI:=[oo 5 (.box (.t 0)) [0],oo 10 (Mb false) [10]]
def xjR:List RI:=[on 15 (Ca 10 []),oo 16 (.un .not (.t 15)) [15]]
def xfs:List RI:=[on 10 (Mb false)]
def xjQ:List RI:=[on 17 (Lt 7 5),oo 18 (Ca 11 [.t 17]) [17],Sr 7 5 18 [18]]
def xjP:List RI:=[omk 19 1,om 20 2,oo 21 (Ca 12 [.t 19,.t 20]) [19,20],on 11 (.new (.rc Zq1)),Sr 7 11 21 [21]]
def xjO:List RI:=[omk 22 2,oo 23 (Ca 28 [.t 22]) [22],oo 24 (Ca 27 [.t 23,ci 3]) [23],omk 12 24]
def xjN:List RI:=[om 25 3,oo 26 (Ca 29 [.t 25,ci 20]) [25],oo 27 (Ca 30 [.t 26,ci 3]) [26],omk 28 3,oo 29 (Ca 29 [.t 28,ci 20]) [28],oo 30 (Ca 30 [.t 29,ci 1]) [29],om 31 12,omk 32 4,omk 33 12,oo 34 (Ln 33) [33],oo 35 (Ca 15 [.t 32,.t 34]) [32,34],oo 36 (Ia 4 31 35) [31,35],oo 37 (Lt 4 36) [36],oo 38 (.lit 4 [.t 27,.t 30,.t 37]) [27,30,37],on 39 (Ln 38),on 40 (Mc 0)]
def xfr:List RI:=[on 41 (Bb .lss 40 39)]
def xjM:List RI:=[on 42 (Ia 4 38 40),oo 43 (Lt 4 42) [42],on 14 (.new (.rc Zq2)),Sr 4 14 43 [43]]
def xjL:List FI:=[Fs 0 44 (Lt 7 11),Fs 1 45 (Lt 4 14),Fs 3 47 (Lt 7 11),Fs 4 48 (Lt 4 14),Fz 2 46 (Ca 31 [.t 44,.t 45]),Fz 5 49 (Ca 32 [.t 47,.t 48]),Fs 6 50 (Bb .neq 46 49),Fm 7 51 50,Fi 8 52 51 false (Lt 7 5),Fi 9 53 51 false (Lt 4 14),Fi 11 55 51 false (Lt 7 5),Fi 12 56 51 false (Lt 4 14),Fy 10 54 51 false (Ca 31 [.t 52,.t 53]),Fy 13 57 51 false (Ca 32 [.t 55,.t 56]),Fi 14 58 51 false (Bb .neq 54 57),Fs 15 59 (Pt 51 58)]
def Vm:List RI:=[oo 60 (Bc .add 40 1) [40],omk 40 60]
def QE:RC:=(.post (So xfr (Sq (Kc 41 (Kk [41] .skip) (Kk [5,11,38,39,40,41] (.exit 0))) (Sq (Bk 1 (So xjM (Sq (.flt [0,0,3,0,0,31,63,127,255,255,1023,255,255,8191,16383,32767] [] xjL [14,44,45,46,47,48,49,50,51,52,53,54,55,56,57,58]) (Kc 59 (Kk [5,11,38,39,40,59] (So xfs .ret)) (Kk [59] .skip))))) (.ops Vm)))) [.gc [114]])
def PM:RC:=QE
def PL:List RI:=[on 10 (Mb true)]
def r7:RC:=(So xjS (Sq (So xjR (Kc 16 (Kk [1,2,3,4,5,16] (So xfs .ret)) (Kk [16] .skip))) (So xjQ (So xjP (So xjO (Sq (So xjN (Bk 0 (.loop PM))) (So PL .ret)))))))
def F7:FnC:=⟨r7,61,[.tmp 10],[],[]⟩
def ZQ:List RI:=[oo 0 (Mb false) [0]]
def ZP:List RI:=[on 6 (.newB [(.c (.u8 112))]),oo 7 (.slid (.t 6)) [6],oo 8 (.build Zq0 [(0,1,(ci 3)),(1,1,(.c (.str [107]))),(2,1,(ci 3)),(3,1,(.t 7))]) [7],on 1 (.new (.rc Zq0)),Sr 4 1 8 [8]]
def ZO:List RI:=[on 9 (Lt 4 1),oo 10 (.lit 4 [.t 9]) [9],oo 11 (Ca 37 [(.c (.str [118])),ci 1,.t 10]) [10],on 2 (.new (.rc Zq1)),Sr 7 2 11 [11]]
def ZN:List RI:=[on 12 (Lt 7 2),oo 13 (Ca 16 [.t 12]) [12],omk 3 13]
def ZM:List RI:=[omk 15 3,oo 16 (Ca 17 [.t 15]) [15],omk 14 16,on 17 (.ext (.t 14) 0),oo 18 (.ext (.t 14) 1) [14],on 4 (.new (.rc Zq1)),Sr 7 4 17 [17],omk 5 18]
def ZL:List FI:=[Fs 0 19 (Fa 5 2),Fs 1 20 (Ld 19),Fs 2 21 (Ln 20),Fs 3 22 (Bc .eql 21 1),Fm 4 23 22,Fi 5 24 23 true (Mv 5),Fi 6 25 23 true (Bc .eql 24 0),Fs 7 26 (Pf 23 25),Fm 8 27 26,Fi 9 28 27 true (Lt 7 2),Fi 10 29 27 true (Lt 7 4),Fy 11 30 27 true (Ca 18 [.t 28,.t 29]),Fs 12 31 (Pf 27 30),Fm 13 32 31,Fi 14 33 32 true (Lt 7 2),Fy 15 34 32 true (Ca 21 [.t 33]),Fi 16 35 32 true (Ln 34),Fi 17 36 32 true (Bc .eql 35 32),Fs 18 37 (Pf 32 36),Fm 19 38 37,Fi 20 39 38 true (Lt 7 2),Fi 21 40 38 true (Lt 4 1),Fy 22 41 38 true (Ca 40 [.t 40,ci 2]),Fy 23 42 38 true (Ca 31 [.t 39,.t 41]),Fi 24 43 38 true (Bc .eql 42 0),Fs 25 44 (Pf 38 43),Fm 26 45 44,Fi 27 46 45 true (.build Zq1 [(0,1,(.c (.str [118]))),(1,1,(ci 1)),(4,1,(ci 5))]),Fy 28 47 45 true (Ca 16 [.t 46]),Fi 29 48 45 true (Ln 47),Fi 30 49 45 true (Bc .eql 48 26),Fs 31 50 (Pf 45 49),Fm 32 0 50]
def r10:RC:=(So ZQ (So ZP (So ZO (So ZN (So ZM (Sq (.flt [0,1,3,7,15,31,63,127,255,511,511,2047,4095,8191,16383,32767,65535,131071,262143,524287,1048575,1048575,3145727,8388607,16777215,33554431,67108863,134217727,268435455,536870911,1073741823,2147483647,4294967295] [] ZL [1,2,4,5,19,20,21,22,23,24,25,26,27,28,29,30,31,32,33,34,35,36,37,38,39,40,41,42,43,44,45,46,47,48,49,50]) .ret))))))
def F10:FnC:=⟨r10,51,[.tmp 0],[],[]⟩
def ZK:List RI:=[oo 1 (.box (.t 0)) [0],on 2 (.new (.rc Zq1))]
def ZJ:List RI:=[on 7 (Fa 0 1),oo 8 (Ld 7) [7],oo 9 (.len true (.t 8)) [8],oo 10 (Bc .gtr 9 30) [9]]
def ZI:List RI:=[on 11 (Fa 0 1),oo 12 (Ld 11) [11],oo 13 (.slcS (.t 12) none (some (ci 30))) [12],on 14 (Fa 0 1),Sr 1 14 13 [13,14]]
def ZH:List RI:=[on 15 (Fa 5 1),oo 16 (Ld 15) [15],oo 17 (Ln 16) [16],oo 18 (Bc .gtr 17 20) [17]]
def ZG:List RI:=[on 19 (Fa 5 1),oo 20 (Ld 19) [19],oo 21 (.slcL 4 (.t 20) none (some (ci 20)) none) [20],on 22 (Fa 5 1),Sr 1 22 21 [21,22]]
def ZF:List RI:=[on 23 (Fa 6 1),oo 24 (Ld 23) [23],oo 25 (Ln 24) [24],oo 26 (Bc .gtr 25 12) [25]]
def ZE:List RI:=[on 27 (Fa 6 1),oo 28 (Ld 27) [27],oo 29 (.slcL 4 (.t 28) none (some (ci 12)) none) [28],on 30 (Fa 6 1),Sr 1 30 29 [29,30]]
def ZD:List RI:=[on 31 (.lit 4 []),on 32 (Fa 5 1),oo 33 (Ld 32) [32],.own (xs 34 (.app Zq0 56 (.t 31) (.t 33))) [31,33],omk 3 34]
def lD:List RI:=[on 4 (Mc 0)]
def ZC:List RI:=[om 35 4,om 36 3,oo 37 (Ln 36) [36],oo 38 (Bb .lss 35 37) [35,37]]
def NQ:List RI:=[om 41 3,om 42 4,om 43 3,om 44 4,oo 45 (Ia 4 43 44) [43,44],oo 46 (Fa 3 45) [45],oo 47 (Ld 46) [46],oo 48 (Ca 23 [.t 47,ci 40]) [47],oo 49 (Ia 4 41 42) [41,42],oo 50 (Fa 3 49) [49],Sr 1 50 48 [48,50]]
def NP:List RI:=[om 51 3,om 52 4,oo 53 (Ia 4 51 52) [51,52],oo 54 (Fa 1 53) [53],oo 55 (Ld 54) [54],oo 56 (.len true (.t 55)) [55],oo 57 (Bc .gtr 56 30) [56]]
def NO:List RI:=[om 58 3,om 59 4,om 60 3,om 61 4,oo 62 (Ia 4 60 61) [60,61],oo 63 (Fa 1 62) [62],oo 64 (Ld 63) [63],oo 65 (.slcS (.t 64) none (some (ci 30))) [64],oo 66 (Ia 4 58 59) [58,59],oo 67 (Fa 1 66) [66],Sr 1 67 65 [65,67]]
def NN:List RI:=[omk 39 4,oo 40 (Bc .add 39 1) [39],omk 4 40]
def Af:RC:=(Sq (So ZC (Kc 38 (Kk [38] .skip) (Kk [4,38] (.exit 0)))) (Sq (Bk 1 (So NQ (So NP (Kc 57 (Kk [57] (.ops NO)) (Kk [57] .skip))))) (.ops NN)))
def uv:RC:=Af
def NM:List RI:=[on 68 (.lit 4 []),on 69 (Fa 6 1),oo 70 (Ld 69) [69],.own (xs 71 (.app Zq3 40 (.t 68) (.t 70))) [68,70],omk 5 71]
def lh:List RI:=[on 6 (Mc 0)]
def NL:List RI:=[om 72 6,om 73 5,oo 74 (Ln 73) [73],oo 75 (Bb .lss 72 74) [72,74]]
def NK:List RI:=[om 78 5,om 79 6,oo 80 (Ia 4 78 79) [78,79],oo 81 (Fa 1 80) [80],oo 82 (Ld 81) [81],oo 83 (.len true (.t 82)) [82],oo 84 (Bc .gtr 83 60) [83]]
def NJ:List RI:=[om 85 5,om 86 6,om 87 5,om 88 6,oo 89 (Ia 4 87 88) [87,88],oo 90 (Fa 1 89) [89],oo 91 (Ld 90) [90],oo 92 (.slcS (.t 91) none (some (ci 60))) [91],oo 93 (Ia 4 85 86) [85,86],oo 94 (Fa 1 93) [93],Sr 1 94 92 [92,94]]
def NI:List RI:=[omk 76 6,oo 77 (Bc .add 76 1) [76],omk 6 77]
def Ae:RC:=(Sq (So NL (Kc 75 (Kk [75] .skip) (Kk [6,75] (.exit 2)))) (Sq (Bk 3 (So NK (Kc 84 (Kk [84] (.ops NJ)) (Kk [84] .skip)))) (.ops NI)))
def uu:RC:=Ae
def NH:List RI:=[omk 95 3,omk 96 5,on 97 (Fa 5 1),Sr 1 97 95 [95,97],on 98 (Fa 6 1),Sr 1 98 96 [96,98]]
def NG:List RI:=[oo 99 (Lt 7 1) [1],Sr 7 2 99 [99]]
def r11:RC:=(So ZK (Sq (So ZJ (Kc 10 (Kk [10] (.ops ZI)) (Kk [10] .skip))) (Sq (So ZH (Kc 18 (Kk [18] (.ops ZG)) (Kk [18] .skip))) (Sq (So ZF (Kc 26 (Kk [26] (.ops ZE)) (Kk [26] .skip))) (So ZD (Sq (So lD (Bk 0 (.loop uv))) (So NM (Sq (So lh (Bk 2 (.loop uu))) (So NH (So NG .ret))))))))))
def F11:FnC:=⟨r11,100,[.cell 2 7 true],[],[]⟩
def Qp:List RI:=[on 4 (.new (.rc Zq1))]
def ZB:List RI:=[omk 5 0,oo 6 (Ca 29 [.t 5,ci 60]) [5],omk 7 1,oo 8 (Ca 28 [.t 7]) [7],oo 9 (Ca 41 [.t 6,.t 8]) [6,8],Sr 7 4 9 [9]]
def r12:RC:=(So Qp (So ZB .ret))
def F12:FnC:=⟨r12,10,[.cell 4 7 true],[],[]⟩
def ra:List RI:=[oo 1 (.box (.t 0)) [0],oo 2 (Mc 0) [2]]
def ZA:List RI:=[on 9 (Fa 0 1),oo 10 (Ld 9) [9],oo 11 (Ca 42 [.t 10]) [10],oo 12 (.un .not (.t 11)) [11],omk 8 12]
def qZ:List RI:=[on 2 (Mc 43)]
def Zz:List RI:=[on 14 (Fa 2 1),oo 15 (Ld 14) [14],oo 16 (Bc .lss 15 0) [15],omk 17 16,.grp 17 false [(xi 18 17 false (Fa 2 1)),(xi 19 17 false (Ld 18)),(xi 20 17 false (Fa 1 1)),(xi 21 17 false (Ld 20)),(xi 22 17 false (Bb .gtr 19 21))] [18,19,20,21],oo 23 (Pt 17 22) [17,22],omk 24 23,.grp 24 false [(xi 25 24 false (Fa 1 1)),(xi 26 24 false (Ld 25)),(xi 27 24 false (Bc .gtr 26 1000000))] [25,26],oo 28 (Pt 24 27) [24,27],omk 29 28,.grp 29 false [(xi 30 29 false (Fa 3 1)),(xi 31 29 false (Ld 30)),(xi 32 29 false (Bc .lss 31 0))] [30,31],oo 33 (Pt 29 32) [29,32],omk 34 33,.grp 34 false [(xi 35 34 false (Fa 3 1)),(xi 36 34 false (Ld 35)),(xi 37 34 false (Fa 4 1)),(xi 38 34 false (Ld 37)),(xi 39 34 false (Bb .geq 36 38))] [35,36,37,38],oo 40 (Pt 34 39) [34,39],omk 41 40,.grp 41 false [(xi 42 41 false (Fa 4 1)),(xi 43 41 false (Ld 42)),(xi 44 41 false (Bc .gtr 43 1099511627776))] [42,43],oo 45 (Pt 41 44) [41,44],omk 13 45]
def gE:List RI:=[on 2 (Mc 1)]
def Zy:List RI:=[on 47 (Fa 5 1),oo 48 (Ld 47) [47],oo 49 (Ln 48) [48],oo 50 (Bc .gtr 49 16) [49],omk 51 50,.grp 51 false [(xi 52 51 false (Fa 6 1)),(xi 53 51 false (Ld 52)),(xi 54 51 false (Ln 53)),(xi 55 51 false (Bc .gtr 54 8))] [52,53,54],oo 56 (Pt 51 55) [51,55],omk 46 56]
def oR:List RI:=[on 2 (Mc 4)]
def Zx:List RI:=[on 57 (Fa 5 1),oo 58 (Ld 57) [57],on 59 (Ln 58),on 60 (Mc 0)]
def Zw:List RI:=[on 61 (Bb .lss 60 59)]
def Zv:List RI:=[om 62 60,on 63 (Ia 4 58 60),oo 64 (Lt 4 63) [63],on 4 (.new (.rc Zq0)),omk 3 62,Sr 4 4 64 [64]]
def L9:List RI:=[on 66 (Fa 0 4),oo 67 (Ld 66) [66],oo 68 (Bc .lss 67 1) [67],omk 69 68,.grp 69 false [(xi 70 69 false (Fa 0 4)),(xi 71 69 false (Ld 70)),(xi 72 69 false (Bc .gtr 71 3))] [70,71],oo 73 (Pt 69 72) [69,72],omk 74 73,.grp 74 false [(xi 75 74 false (Fa 2 4)),(xi 76 74 false (Ld 75)),(xi 77 74 false (Bc .lss 76 0))] [75,76],oo 78 (Pt 74 77) [74,77],omk 79 78,.grp 79 false [(xi 80 79 false (Fa 2 4)),(xi 81 79 false (Ld 80)),(xi 82 79 false (Bc .gtr 81 1000000))] [80,81],oo 83 (Pt 79 82) [79,82],omk 84 83,.grp 84 false [(xi 85 84 false (Fa 3 4)),(xi 86 84 false (Ld 85)),(xi 87 84 false (Ln 86)),(xi 88 84 false (Bc .neq 87 32))] [85,86,87],oo 89 (Pt 84 88) [84,88],omk 65 89]
def L8:List RI:=[on 91 (Fa 1 4),oo 92 (Ld 91) [91],oo 93 (Ca 42 [.t 92]) [92],oo 94 (.un .not (.t 93)) [93],omk 90 94]
def L7:List FI:=[Fm 0 96 3,Fs 1 97 (Bc .gtr 96 0),Fm 2 98 97,Fi 3 99 98 true (Fa 5 1),Fi 4 100 98 true (Ld 99),Fi 5 101 98 true (Mv 3),Fi 6 102 98 true (Bc .sub 101 1),Fi 7 103 98 true (Ia 4 100 102),Fi 8 104 98 true (Lt 4 103),Fi 9 105 98 true (Lt 4 4),Fy 10 106 98 true (Ca 43 [.t 104,.t 105]),Fi 11 107 98 true (Bc .geq 106 0),Fs 12 108 (Pf 98 107),Fm 13 95 108]
def ut:List RI:=[on 2 (Mc 41)]
def L6:List RI:=[oo 109 (Bc .add 60 1) [60],omk 60 109]
def z7:RC:=(.post (So Zw (Sq (Kc 61 (Kk [61] .skip) (Kk [58,59,60,61] (.exit 1))) (Sq (Bk 2 (So Zv (Bk 3 (So L9 (Kc 65 (Kk [1,3,4,58,59,60,65] (So gE .ret)) (Kk [65] (So L8 (Kc 90 (Kk [1,3,4,58,59,60,90] (So qZ .ret)) (Kk [90] (Sq (.flt [0,1,3,7,15,7,39,127,255,7,1023,2047,4095,8191] [] L7 [3,4,96,97,98,99,100,101,102,103,104,105,106,107,108]) (Kc 95 (Kk [1,58,59,60,95] (So ut .ret)) (Kk [95] .skip)))))))))))) (.ops L6)))) [.gc [104]])
def lX:RC:=z7
def L5:List RI:=[oo 110 (Fa 6 1) [1],oo 111 (Ld 110) [110],on 112 (Ln 111),on 113 (Mc 0)]
def L4:List RI:=[on 114 (Bb .lss 113 112)]
def L3:List RI:=[on 115 (Ia 4 111 113),oo 116 (Lt 4 115) [115],on 6 (.new (.rc Zq3)),Sr 4 6 116 [116]]
def L2:List RI:=[oo 117 (Lt 4 6) [6],oo 118 (Ca 44 [.t 117]) [117],omk 7 118]
def L1:List RI:=[om 119 7,oo 120 (Bc .neq 119 0) [119]]
def L0:List RI:=[omk 121 7,omk 2 121]
def LZ:List RI:=[oo 122 (Bc .add 113 1) [113],omk 113 122]
def z6:RC:=(.post (So L4 (Sq (Kc 114 (Kk [114] .skip) (Kk [111,112,113,114] (.exit 4))) (Sq (Bk 5 (So L3 (So L2 (So L1 (Kc 120 (Kk [111,112,113,120] (So L0 .ret)) (Kk [7,120] .skip)))))) (.ops LZ)))) [.gc [106]])
def ur:RC:=z6
def iC:List RI:=[on 2 (Mc 0)]
def r13:RC:=(So ra (Sq (Bk 0 (So ZA (Kc 8 (Kk [1,8] (So qZ .ret)) (Kk [8] (So Zz (Kc 13 (Kk [1,13] (So gE .ret)) (Kk [13] (So Zy (Kc 46 (Kk [1,46] (So oR .ret)) (Kk [46] .skip)))))))))) (Sq (So Zx (Bk 1 (.loop lX))) (Sq (So L5 (Bk 4 (.loop ur))) (So iC .ret)))))
def F13:FnC:=⟨r13,123,[.tmp 2],[],[]⟩
def Zu:List RI:=[on 7 (Fa 0 1),oo 8 (Ld 7) [7],oo 9 (Ca 45 [.t 8]) [8],oo 10 (.un .not (.t 9)) [9]]
def Zt:List RI:=[on 11 (Fa 2 1),oo 12 (Ld 11) [11],oo 13 (Bc .lss 12 0) [12],omk 14 13,.grp 14 false [(xi 15 14 false (Fa 2 1)),(xi 16 14 false (Ld 15)),(xi 17 14 false (Fa 1 1)),(xi 18 14 false (Ld 17)),(xi 19 14 false (Bb .gtr 16 18))] [15,16,17,18],oo 20 (Pt 14 19) [14,19],omk 21 20,.grp 21 false [(xi 22 21 false (Fa 1 1)),(xi 23 21 false (Ld 22)),(xi 24 21 false (Bc .gtr 23 1000000))] [22,23],oo 25 (Pt 21 24) [21,24],omk 26 25,.grp 26 false [(xi 27 26 false (Fa 3 1)),(xi 28 26 false (Ld 27)),(xi 29 26 false (Bc .lss 28 0))] [27,28],oo 30 (Pt 26 29) [26,29],omk 31 30,.grp 31 false [(xi 32 31 false (Fa 3 1)),(xi 33 31 false (Ld 32)),(xi 34 31 false (Fa 4 1)),(xi 35 31 false (Ld 34)),(xi 36 31 false (Bb .geq 33 35))] [32,33,34,35],oo 37 (Pt 31 36) [31,36],omk 38 37,.grp 38 false [(xi 39 38 false (Fa 4 1)),(xi 40 38 false (Ld 39)),(xi 41 38 false (Bc .gtr 40 1099511627776))] [39,40],oo 42 (Pt 38 41) [38,41]]
def Zs:List RI:=[on 43 (Fa 5 1),oo 44 (Ld 43) [43],oo 45 (Ln 44) [44],oo 46 (Bc .gtr 45 16) [45],omk 47 46,.grp 47 false [(xi 48 47 false (Fa 6 1)),(xi 49 47 false (Ld 48)),(xi 50 47 false (Ln 49)),(xi 51 47 false (Bc .gtr 50 8))] [48,49,50],oo 52 (Pt 47 51) [47,51]]
def qY:List RI:=[on 3 (Mc 0)]
def Zr:List RI:=[om 53 3,on 54 (Fa 5 1),oo 55 (Ld 54) [54],oo 56 (Ln 55) [55],oo 57 (Bb .lss 53 56) [53,56]]
def Zq:List RI:=[on 60 (Fa 5 1),oo 61 (Ld 60) [60],om 62 3,oo 63 (Ia 4 61 62) [61,62],oo 64 (Lt 4 63) [63],on 4 (.new (.rc Zq0)),Sr 4 4 64 [64]]
def Ly:List RI:=[on 65 (Fa 0 4),oo 66 (Ld 65) [65],oo 67 (Bc .lss 66 1) [66],omk 68 67,.grp 68 false [(xi 69 68 false (Fa 0 4)),(xi 70 68 false (Ld 69)),(xi 71 68 false (Bc .gtr 70 3))] [69,70],oo 72 (Pt 68 71) [68,71],omk 73 72,.grp 73 false [(xi 74 73 false (Fa 2 4)),(xi 75 73 false (Ld 74)),(xi 76 73 false (Bc .lss 75 0))] [74,75],oo 77 (Pt 73 76) [73,76],omk 78 77,.grp 78 false [(xi 79 78 false (Fa 2 4)),(xi 80 78 false (Ld 79)),(xi 81 78 false (Bc .gtr 80 1000000))] [79,80],oo 82 (Pt 78 81) [78,81],omk 83 82,.grp 83 false [(xi 84 83 false (Fa 3 4)),(xi 85 83 false (Ld 84)),(xi 86 83 false (Ln 85)),(xi 87 83 false (Bc .neq 86 32))] [84,85,86],oo 88 (Pt 83 87) [83,87]]
def Lx:List RI:=[on 89 (Fa 1 4),oo 90 (Ld 89) [89],oo 91 (Ca 45 [.t 90]) [90],oo 92 (.un .not (.t 91)) [91]]
def Lw:List FI:=[Fm 0 93 3,Fs 1 94 (Bc .gtr 93 0),Fm 2 95 94,Fi 3 96 95 true (Fa 5 1),Fi 4 97 95 true (Ld 96),Fi 5 98 95 true (Mv 3),Fi 6 99 95 true (Bc .sub 98 1),Fi 7 100 95 true (Ia 4 97 99),Fi 8 101 95 true (Lt 4 100),Fi 9 102 95 true (Lt 4 4),Fy 10 103 95 true (Ca 46 [.t 101,.t 102]),Fi 11 104 95 true (.un .not (.t 103)),Fs 12 105 (Pf 95 104)]
def Lv:List RI:=[omk 58 3,oo 59 (Bc .add 58 1) [58],omk 3 59]
def zX:RC:=(.post (Sq (So Zr (Kc 57 (Kk [57] .skip) (Kk [3,57] (.exit 0)))) (Sq (Bk 1 (So Zq (Sq (So Ly (Kc 88 (Kk [1,3,4,88] (So gE .ret)) (Kk [88] .skip))) (Sq (So Lx (Kc 92 (Kk [1,3,4,92] (So qZ .ret)) (Kk [92] .skip))) (Sq (.flt [0,1,3,7,15,7,39,127,255,7,1023,2047,4095] [] Lw [4,93,94,95,96,97,98,99,100,101,102,103,104]) (Kc 105 (Kk [1,3,105] (So ut .ret)) (Kk [105] .skip))))))) (.ops Lv))) [.gc [104]])
def lW:RC:=zX
def jK:List RI:=[on 5 (Mc 0)]
def Lu:List RI:=[om 106 5,on 107 (Fa 6 1),oo 108 (Ld 107) [107],oo 109 (Ln 108) [108],oo 110 (Bb .lss 106 109) [106,109]]
def Ls:List RI:=[on 113 (Fa 6 1),oo 114 (Ld 113) [113],om 115 5,oo 116 (Ia 4 114 115) [114,115],oo 117 (Lt 4 116) [116],oo 118 (Ca 47 [.t 117]) [117],omk 6 118]
def Lr:List RI:=[om 119 6,oo 120 (Bc .neq 119 0) [119]]
def Lq:List RI:=[omk 121 6,omk 2 121]
def Lp:List RI:=[omk 111 5,oo 112 (Bc .add 111 1) [111],omk 5 112]
def zW:RC:=(Sq (So Lu (Kc 110 (Kk [110] .skip) (Kk [1,5,110] (.exit 2)))) (Sq (Bk 3 (So Ls (So Lr (Kc 120 (Kk [1,5,120] (So Lq .ret)) (Kk [6,120] .skip))))) (.ops Lp)))
def uq:RC:=zW
def r14:RC:=(So ra (Sq (So Zu (Kc 10 (Kk [1,10] (So qZ .ret)) (Kk [10] .skip))) (Sq (So Zt (Kc 42 (Kk [1,42] (So gE .ret)) (Kk [42] .skip))) (Sq (So Zs (Kc 52 (Kk [1,52] (So oR .ret)) (Kk [52] .skip))) (Sq (So qY (Bk 0 (.loop lW))) (Sq (So jK (Bk 2 (.loop uq))) (So iC .ret)))))))
def F14:FnC:=⟨r14,122,[.tmp 2],[],[]⟩
def oP:List RI:=[oo 4 (Mc 0) [4]]
def Zp:List RI:=[om 6 1,oo 7 (Bc .lss 6 1) [6]]
def Zo:List RI:=[omk 8 0,om 9 1,oo 10 (Bb .rem 8 9) [8,9],omk 5 10]
def Zn:List RI:=[om 11 5,oo 12 (Bc .lss 11 0) [11]]
def Zm:List RI:=[omk 13 5,omk 14 1,oo 15 (Bb .add 13 14) [13,14],omk 5 15]
def Zl:List RI:=[omk 16 5,omk 4 16]
def r15:RC:=(So oP (Sq (So Zp (Kc 7 (Kk [0,1,7] (So lD .ret)) (Kk [7] .skip))) (So Zo (Sq (So Zn (Kc 12 (Kk [12] (.ops Zm)) (Kk [1,12] .skip))) (So Zl .ret)))))
def F15:FnC:=⟨r15,17,[.tmp 4],[],[]⟩
def xd:List RI:=[oo 1 (.box (.t 0)) [0],oo 2 (.mov (.c (.byt [] .clip))) [2]]
def Zk:List RI:=[on 8 (Lt 7 1),oo 9 (Ca 13 [.t 8]) [8],oo 10 (Bc .neq 9 0) [9]]
def xc:List RI:=[on 2 (.mov (.c (.byt [] .clip)))]
def Zj:List RI:=[on 11 (Ca 48 [(.c (.byt [] .clip)),ci 1,ci 21]),omk 3 11]
def Zi:List RI:=[omk 12 3,on 13 (Fa 0 1),oo 14 (Ld 13) [13],oo 15 (.s2b (.t 14)) [14],oo 16 (Ca 49 [.t 12,.t 15]) [12,15],omk 3 16]
def Zh:List FI:=[Fm 0 17 3,Fs 1 18 (Fa 1 1),Fs 2 19 (Ld 18),Fs 4 21 (Fa 2 1),Fs 5 22 (Ld 21),Fz 3 20 (Ca 48 [.t 17,ci 4,.t 19]),Fz 6 23 (Ca 48 [.t 20,ci 4,.t 22]),⟨7,false,(xm 3 23)⟩]
def Zg:List FI:=[Fm 0 24 3,Fs 1 25 (Fa 3 1),Fs 2 26 (Ld 25),Fs 4 28 (Fa 4 1),Fs 5 29 (Ld 28),Fz 3 27 (Ca 48 [.t 24,ci 6,.t 26]),Fz 6 30 (Ca 48 [.t 27,ci 6,.t 29]),⟨7,false,(xm 3 30)⟩]
def Zf:List RI:=[omk 31 3,on 32 (Fa 5 1),oo 33 (Ld 32) [32],oo 34 (Ln 33) [33],oo 35 (Ca 48 [.t 31,ci 1,.t 34]) [31,34],omk 3 35]
def Ze:List RI:=[on 36 (Fa 5 1),oo 37 (Ld 36) [36],on 38 (Ln 37),on 39 (Mc 0)]
def Zd:List RI:=[on 40 (Bb .lss 39 38)]
def KV:List RI:=[on 41 (Ia 4 37 39),oo 42 (Lt 4 41) [41],on 5 (.new (.rc Zq0)),Sr 4 5 42 [42]]
def KU:List FI:=[Fm 0 43 3,Fs 1 44 (Fa 0 5),Fs 2 45 (Ld 44),Fs 4 47 (Fa 1 5),Fs 5 48 (Ld 47),Fs 6 49 (.s2b (.t 48)),Fz 3 46 (Ca 48 [.t 43,ci 1,.t 45]),Fz 7 50 (Ca 49 [.t 46,.t 49]),⟨8,false,(xm 3 50)⟩]
def KT:List FI:=[Fm 0 51 3,Fs 1 52 (Fa 2 5),Fs 2 53 (Ld 52),Fs 4 55 (Fa 3 5),Fs 5 56 (Ld 55),Fz 3 54 (Ca 48 [.t 51,ci 4,.t 53]),Fz 6 57 (.app [.u8 0] 1 (.t 54) (.t 56)),⟨7,false,(xm 3 57)⟩]
def KS:List RI:=[oo 58 (Bc .add 39 1) [39],omk 39 58]
def zT:RC:=(.post (So Zd (Sq (Kc 40 (Kk [40] .skip) (Kk [37,38,39,40] (.exit 0))) (Sq (Bk 1 (So KV (Sq (.flt [0,0,2,7,0,16,48,127,255] [] KU [43,44,45,46,47,48,49,50]) (.flt [0,0,2,7,0,16,63,127] [157] KT [5,51,52,53,54,55,56,57])))) (.ops KS)))) [.gc [105],.gcr 47000 48000,.gcr 55000 56000,.tok 3 103])
def qD:RC:=zT
def KR:List RI:=[omk 59 3,on 60 (Fa 6 1),oo 61 (Ld 60) [60],oo 62 (Ln 61) [61],oo 63 (Ca 48 [.t 59,ci 1,.t 62]) [59,62],omk 3 63]
def KQ:List RI:=[oo 64 (Fa 6 1) [1],oo 65 (Ld 64) [64],on 66 (Ln 65),on 67 (Mc 0)]
def KP:List RI:=[on 68 (Bb .lss 67 66)]
def KO:List RI:=[on 69 (Ia 4 65 67),oo 70 (Lt 4 69) [69],on 7 (.new (.rc Zq3)),Sr 4 7 70 [70]]
def KN:List FI:=[Fm 0 71 3,Fs 1 72 (Fa 0 7),Fs 2 73 (Ld 72),Fs 4 75 (Fa 1 7),Fs 5 76 (Ld 75),Fs 6 77 (.s2b (.t 76)),Fz 3 74 (Ca 48 [.t 71,ci 1,.t 73]),Fz 7 78 (Ca 49 [.t 74,.t 77]),⟨8,false,(xm 3 78)⟩]
def KM:List FI:=[Fm 0 79 3,Fs 1 80 (Fa 2 7),Fs 2 81 (Ld 80),Fs 4 83 (Fa 3 7),Fs 5 84 (Ld 83),Fz 3 82 (Ca 48 [.t 79,ci 4,.t 81]),Fz 6 85 (Ca 48 [.t 82,ci 4,.t 84]),⟨7,false,(xm 3 85)⟩]
def KL:List RI:=[oo 86 (Bc .add 67 1) [67],omk 67 86]
def zS:RC:=(.post (So KP (Sq (Kc 68 (Kk [68] .skip) (Kk [65,66,67,68] (.exit 2))) (Sq (Bk 3 (So KO (Sq (.flt [0,0,2,7,0,16,48,127,255] [] KN [71,72,73,74,75,76,77,78]) (.flt [0,0,2,7,0,16,63,127] [] KM [7,79,80,81,82,83,84,85])))) (.ops KL)))) [.gc [107],.gcr 75000 76000,.gcr 83000 84000])
def qC:RC:=zS
def KK:List RI:=[omk 87 3,omk 2 87]
def r16:RC:=(So xd (Sq (So Zk (Kc 10 (Kk [1,10] (So xc .ret)) (Kk [10] .skip))) (So Zj (So Zi (Sq (.flt [0,0,2,7,0,16,63,127] [] Zh [17,18,19,20,21,22,23]) (Sq (.flt [0,0,2,7,0,16,63,127] [] Zg [24,25,26,27,28,29,30]) (So Zf (Sq (So Ze (Bk 0 (.pre [.tok 3 103] (.loop qD)))) (So KR (Sq (So KQ (Bk 2 (.loop qC))) (So KK .ret)))))))))))
def F16:FnC:=⟨r16,88,[.tmp 2],[],[]⟩
def Zc:List RI:=[on 2 (.new (.rc Zq1)),oo 3 (Mc 0) [3]]
def Zb:List RI:=[omk 10 0,oo 11 (Ca 50 [.t 10]) [10],omk 4 11]
def Za:List RI:=[on 5 (.new (.rc Zq1))]
def Y9:List RI:=[om 12 4,oo 13 (Ca 51 [.t 12,ci 1]) [12],oo 14 (Bc .neq 13 21) [13]]
def Y8:List RI:=[on 15 (.build Zq1 []),Sr 7 2 15 [15],on 3 (Mc 30)]
def Y7:List RI:=[om 16 4,oo 17 (Ca 52 [.t 16,ci 12]) [16],oo 18 (.b2s (.t 17)) [17],on 19 (Fa 0 5),Sr 1 19 18 [18,19]]
def Y6:List RI:=[om 20 4,oo 21 (Ca 51 [.t 20,ci 4]) [20],on 22 (Fa 1 5),Sr 1 22 21 [21,22]]
def Y5:List RI:=[om 23 4,oo 24 (Ca 51 [.t 23,ci 4]) [23],on 25 (Fa 2 5),Sr 1 25 24 [24,25]]
def Y4:List RI:=[om 26 4,oo 27 (Ca 51 [.t 26,ci 6]) [26],on 28 (Fa 3 5),Sr 1 28 27 [27,28]]
def Y3:List RI:=[om 29 4,oo 30 (Ca 51 [.t 29,ci 6]) [29],on 31 (Fa 4 5),Sr 1 31 30 [30,31]]
def Ku:List RI:=[om 32 4,oo 33 (Ca 51 [.t 32,ci 1]) [32],omk 6 33]
def Kt:List RI:=[om 34 6,oo 35 (Bc .gtr 34 0) [34],omk 36 35,.grp 36 true [(xi 37 36 true (Mv 4)),(xi 38 36 true (Ca 53 [.t 37])),(xi 39 36 true (Bc .eql 38 0))] [37,38],oo 40 (Pf 36 39) [36,39]]
def Ks:List RI:=[on 7 (.new (.rc Zq0))]
def Kr:List RI:=[om 43 4,oo 44 (Ca 51 [.t 43,ci 1]) [43],on 45 (Fa 0 7),Sr 1 45 44 [44,45]]
def Kq:List RI:=[om 46 4,oo 47 (Ca 52 [.t 46,ci 12]) [46],oo 48 (.b2s (.t 47)) [47],on 49 (Fa 1 7),Sr 1 49 48 [48,49]]
def Kp:List RI:=[om 50 4,oo 51 (Ca 51 [.t 50,ci 4]) [50],on 52 (Fa 2 7),Sr 1 52 51 [51,52]]
def Ko:List RI:=[om 53 4,oo 54 (Ca 54 [.t 53,ci 32]) [53],on 55 (Fa 3 7),Sr 1 55 54 [54,55]]
def Kn:List RI:=[on 56 (Fa 5 5),oo 57 (Ld 56) [56],oo 58 (Lt 4 7) [7],oo 59 (.lit 4 [.t 58]) [58],oo 60 (.app Zq0 56 (.t 57) (.t 59)) [57,59],on 61 (Fa 5 5),Sr 1 61 60 [60,61]]
def Km:List RI:=[omk 41 6,oo 42 (Bc .sub 41 1) [41],omk 6 42]
def zQ:RC:=(.post (Sq (So Kt (Kc 40 (Kk [40] .skip) (Kk [6,40] (.exit 0)))) (Sq (Bk 1 (So Ks (So Kr (So Kq (So Kp (So Ko (.ops Kn))))))) (.ops Km))) [.gc [107]])
def yG:RC:=zQ
def qB:List RI:=[om 62 4,oo 63 (Ca 51 [.t 62,ci 1]) [62],omk 8 63]
def Kj:List RI:=[om 64 8,oo 65 (Bc .gtr 64 0) [64],omk 66 65,.grp 66 true [(xi 67 66 true (Mv 4)),(xi 68 66 true (Ca 53 [.t 67])),(xi 69 66 true (Bc .eql 68 0))] [67,68],oo 70 (Pf 66 69) [66,69]]
def Ki:List RI:=[on 9 (.new (.rc Zq3))]
def Kh:List RI:=[om 73 4,oo 74 (Ca 51 [.t 73,ci 1]) [73],on 75 (Fa 0 9),Sr 1 75 74 [74,75]]
def Kg:List RI:=[om 76 4,oo 77 (Ca 52 [.t 76,ci 32]) [76],oo 78 (.b2s (.t 77)) [77],on 79 (Fa 1 9),Sr 1 79 78 [78,79]]
def Kf:List RI:=[om 80 4,oo 81 (Ca 51 [.t 80,ci 4]) [80],on 82 (Fa 2 9),Sr 1 82 81 [81,82]]
def Ke:List RI:=[om 83 4,oo 84 (Ca 51 [.t 83,ci 4]) [83],on 85 (Fa 3 9),Sr 1 85 84 [84,85]]
def Kd:List RI:=[on 86 (Fa 6 5),oo 87 (Ld 86) [86],oo 88 (Lt 4 9) [9],oo 89 (.lit 4 [.t 88]) [88],oo 90 (.app Zq3 40 (.t 87) (.t 89)) [87,89],on 91 (Fa 6 5),Sr 1 91 90 [90,91]]
def Kb:List RI:=[omk 71 8,oo 72 (Bc .sub 71 1) [71],omk 8 72]
def zP:RC:=(.post (Sq (So Kj (Kc 70 (Kk [70] .skip) (Kk [8,70] (.exit 2)))) (Sq (Bk 3 (So Ki (So Kh (So Kg (So Kf (So Ke (.ops Kd))))))) (.ops Kb))) [.gc [109]])
def yF:RC:=zP
def qA:List RI:=[omk 92 4,oo 93 (Ca 55 [.t 92]) [92],oo 94 (Bc .neq 93 0) [93],omk 95 94,.grp 95 false [(xi 96 95 false (Lt 7 5)),(xi 97 95 false (Ca 13 [.t 96])),(xi 98 95 false (Bc .neq 97 0))] [96,97],oo 99 (Pt 95 98) [95,98]]
def Ka:List RI:=[on 100 (.build Zq1 []),Sr 7 2 100 [100],on 3 (Mc 30)]
def J9:List RI:=[oo 101 (Lt 7 5) [5],Sr 7 2 101 [101],on 3 (Mc 0)]
def r17:RC:=(So Zc (So Zb (So Za (Sq (So Y9 (Kc 14 (Kk [4,5,14] (So Y8 .ret)) (Kk [14] .skip))) (So Y7 (So Y6 (So Y5 (So Y4 (So Y3 (Sq (So Ku (Bk 0 (.loop yG))) (Sq (So qB (Bk 2 (.loop yF))) (Sq (So qA (Kc 99 (Kk [5,99] (So Ka .ret)) (Kk [99] .skip))) (So J9 .ret)))))))))))))
def F17:FnC:=⟨r17,102,[.cell 2 7 true,.tmp 3],[],[]⟩
def EP:List RI:=[oo 2 (.box (.t 0)) [0],oo 3 (.box (.t 1)) [1],oo 4 (Mb false) [4]]
def Y2:List RI:=[on 9 (Fa 0 2),oo 10 (Ld 9) [9],on 11 (Fa 0 3),oo 12 (Ld 11) [11],oo 13 (Bb .neq 10 12) [10,12],omk 14 13,.grp 14 false [(xi 15 14 false (Fa 1 2)),(xi 16 14 false (Ld 15)),(xi 17 14 false (Fa 1 3)),(xi 18 14 false (Ld 17)),(xi 19 14 false (Bb .neq 16 18))] [15,16,17,18],oo 20 (Pt 14 19) [14,19],omk 21 20,.grp 21 false [(xi 22 21 false (Fa 2 2)),(xi 23 21 false (Ld 22)),(xi 24 21 false (Fa 2 3)),(xi 25 21 false (Ld 24)),(xi 26 21 false (Bb .neq 23 25))] [22,23,24,25],oo 27 (Pt 21 26) [21,26],omk 28 27,.grp 28 false [(xi 29 28 false (Fa 3 2)),(xi 30 28 false (Ld 29)),(xi 31 28 false (Fa 3 3)),(xi 32 28 false (Ld 31)),(xi 33 28 false (Bb .neq 30 32))] [29,30,31,32],oo 34 (Pt 28 33) [28,33],omk 35 34,.grp 35 false [(xi 36 35 false (Fa 4 2)),(xi 37 35 false (Ld 36)),(xi 38 35 false (Fa 4 3)),(xi 39 35 false (Ld 38)),(xi 40 35 false (Bb .neq 37 39))] [36,37,38,39],oo 41 (Pt 35 40) [35,40],omk 42 41,.grp 42 false [(xi 43 42 false (Fa 5 2)),(xi 44 42 false (Ld 43)),(xi 45 42 false (Ln 44)),(xi 46 42 false (Fa 5 3)),(xi 47 42 false (Ld 46)),(xi 48 42 false (Ln 47)),(xi 49 42 false (Bb .neq 45 48))] [43,44,45,46,47,48],oo 50 (Pt 42 49) [42,49],omk 51 50,.grp 51 false [(xi 52 51 false (Fa 6 2)),(xi 53 51 false (Ld 52)),(xi 54 51 false (Ln 53)),(xi 55 51 false (Fa 6 3)),(xi 56 51 false (Ld 55)),(xi 57 51 false (Ln 56)),(xi 58 51 false (Bb .neq 54 57))] [52,53,54,55,56,57],oo 59 (Pt 51 58) [51,58]]
def lC:List RI:=[on 4 (Mb false)]
def Y1:List RI:=[om 60 5,on 61 (Fa 5 2),oo 62 (Ld 61) [61],oo 63 (Ln 62) [62],oo 64 (Bb .lss 60 63) [60,63]]
def Y0:List FI:=[Fs 0 67 (Fa 5 2),Fs 1 68 (Ld 67),Fm 2 69 5,Fs 3 70 (Ia 4 68 69),Fs 4 71 (Lt 4 70),Fs 5 72 (Fa 5 3),Fs 6 73 (Ld 72),Fm 7 74 5,Fs 8 75 (Ia 4 73 74),Fs 9 76 (Lt 4 75),Fz 10 6 (.new (.rc Zq0)),Fz 11 7 (.new (.rc Zq0)),Fr 12 4 6 71,Fr 13 4 7 76]
def YZ:List RI:=[on 77 (Fa 0 6),oo 78 (Ld 77) [77],on 79 (Fa 0 7),oo 80 (Ld 79) [79],oo 81 (Bb .neq 78 80) [78,80],omk 82 81,.grp 82 false [(xi 83 82 false (Fa 1 6)),(xi 84 82 false (Ld 83)),(xi 85 82 false (Fa 1 7)),(xi 86 82 false (Ld 85)),(xi 87 82 false (Bb .neq 84 86))] [83,84,85,86],oo 88 (Pt 82 87) [82,87],omk 89 88,.grp 89 false [(xi 90 89 false (Fa 2 6)),(xi 91 89 false (Ld 90)),(xi 92 89 false (Fa 2 7)),(xi 93 89 false (Ld 92)),(xi 94 89 false (Bb .neq 91 93))] [90,91,92,93],oo 95 (Pt 89 94) [89,94],omk 96 95,.grp 96 false [(xi 97 96 false (Fa 3 6)),(xi 98 96 false (Ld 97)),(xi 99 96 false (Fa 3 7)),(xi 100 96 false (Ld 99)),(xi 101 96 false (Ca 19 [.t 98,.t 100])),(xi 102 96 false (.un .not (.t 101)))] [6,7,97,98,99,100,101],oo 103 (Pt 96 102) [96,102]]
def YY:List RI:=[omk 65 5,oo 66 (Bc .add 65 1) [65],omk 5 66]
def QN:RC:=(.post (Sq (So Y1 (Kc 64 (Kk [64] .skip) (Kk [5,64] (.exit 0)))) (Sq (Bk 1 (Sq (.fla [0,1,0,7,15,0,32,0,224,480,0,0,3103,8191] [106,107] Y0 [[0,1,2,3,4,5,6,7,8,9,10,11,12,13],[0,1,2,3,4,5,6,7,8,9,11,10,12,13]] [67,68,69,70,71,72,73,74,75,76]) (So YZ (Kc 103 (Kk [2,3,5,103] (So lC .ret)) (Kk [103] .skip))))) (.ops YY))) [.gc [106,107]])
def EO:RC:=QN
def oc:List RI:=[on 8 (Mc 0)]
def J7:List RI:=[om 104 8,on 105 (Fa 6 2),oo 106 (Ld 105) [105],oo 107 (Ln 106) [106],oo 108 (Bb .lss 104 107) [104,107]]
def J6:List FI:=[Fs 0 111 (Fa 6 2),Fs 1 112 (Ld 111),Fm 2 113 8,Fs 3 114 (Ia 4 112 113),Fs 4 115 (Lt 4 114),Fs 5 116 (Fa 6 3),Fs 6 117 (Ld 116),Fm 7 118 8,Fs 8 119 (Ia 4 117 118),Fs 9 120 (Lt 4 119),Fs 10 121 (.eqS true [1,2,1,1] (.t 115) (.t 120))]
def J5:List RI:=[omk 109 8,oo 110 (Bc .add 109 1) [109],omk 8 110]
def zO:RC:=(Sq (So J7 (Kc 108 (Kk [108] .skip) (Kk [2,3,8,108] (.exit 2)))) (Sq (Bk 3 (Sq (.flt [0,1,0,7,15,0,32,0,224,480,1023] [] J6 [111,112,113,114,115,116,117,118,119,120]) (Kc 121 (Kk [2,3,8,121] (So lC .ret)) (Kk [121] .skip)))) (.ops J5)))
def up:RC:=zO
def qz:List RI:=[on 4 (Mb true)]
def r18:RC:=(So EP (Sq (So Y2 (Kc 59 (Kk [2,3,59] (So lC .ret)) (Kk [59] .skip))) (Sq (So jK (Bk 0 (.loop EO))) (Sq (So oc (Bk 2 (.loop up))) (So qz .ret)))))
def F18:FnC:=⟨r18,122,[.tmp 4],[],[]⟩
def oO:List RI:=[oo 4 (Mb false) [4]]
def YX:List RI:=[om 6 0,oo 7 (Ln 6) [6],om 8 1,oo 9 (Ln 8) [8],oo 10 (Bb .neq 7 9) [7,9]]
def YW:List RI:=[om 11 5,om 12 0,oo 13 (Ln 12) [12],oo 14 (Bb .lss 11 13) [11,13]]
def YV:List FI:=[Fm 0 17 0,Fm 1 18 5,Fs 2 19 (Ia 1 17 18),Fs 3 20 (Ld 19),Fm 4 21 1,Fm 5 22 5,Fs 6 23 (Ia 1 21 22),Fs 7 24 (Ld 23),Fs 8 25 (Bb .neq 20 24)]
def YU:List RI:=[omk 15 5,oo 16 (Bc .add 15 1) [15],omk 5 16]
def QM:RC:=(Sq (So YW (Kc 14 (Kk [14] .skip) (Kk [0,1,5,14] (.exit 0)))) (Sq (Bk 1 (Sq (.flt [0,0,3,7,0,0,48,112,255] [] YV [17,18,19,20,21,22,23,24]) (Kc 25 (Kk [0,1,5,25] (So lC .ret)) (Kk [25] .skip)))) (.ops YU)))
def Qo:RC:=QM
def r19:RC:=(So oO (Sq (So YX (Kc 10 (Kk [0,1,10] (So lC .ret)) (Kk [10] .skip))) (Sq (So jK (Bk 0 (.loop Qo))) (So qz .ret))))
def F19:FnC:=⟨r19,26,[.tmp 4],[],[]⟩
def YT:List RI:=[oo 4 (Lt 7 1) [1],oo 5 (Ca 16 [.t 4]) [4],omk 3 5]
def YS:List RI:=[om 6 3,oo 7 (Ln 6) [6],oo 8 (Bc .eql 7 0) [7]]
def YR:List RI:=[omk 9 3,oo 10 (.lit 1 [.t 9]) [9],oo 11 (Ca 58 [ci 21,.t 10]) [10],omk 2 11]
def r21:RC:=(So xd (So YT (Sq (So YS (Kc 8 (Kk [3,8] (So xc .ret)) (Kk [8] .skip))) (So YR .ret))))
def F21:FnC:=⟨r21,12,[.tmp 2],[],[]⟩
def lB:List RI:=[oo 4 (.mov (.c (.byt [] .clip))) [4]]
def Qn:List RI:=[om 5 0,oo 6 (Ln 5) [5],om 7 1,oo 8 (Bb .gtr 6 7) [6,7]]
def YQ:List RI:=[omk 9 0,omk 10 1,oo 11 (.slcL 1 (.t 9) none (some (.t 10)) none) [9,10],omk 4 11]
def YP:List RI:=[omk 12 0,omk 4 12]
def r23:RC:=(So lB (Sq (So Qn (Kc 8 (Kk [8] (So YQ .ret)) (Kk [1,8] .skip))) (So YP .ret)))
def F23:FnC:=⟨r23,13,[.tmp 4],[],[]⟩
def Qm:List RI:=[oo 4 (.mov (.c (.lst 4 [] .clip))) [4]]
def YO:List RI:=[om 11 0,oo 12 (Ca 67 [.t 11]) [11],oo 13 (Bc .neq 12 0) [12],omk 14 13,.grp 14 false [(xi 15 14 false (Mv 1)),(xi 16 14 false (Bc .lss 15 1))] [15],oo 17 (Pt 14 16) [14,16],omk 18 17,.grp 18 false [(xi 19 18 false (Mv 1)),(xi 20 18 false (Bc .gtr 19 3))] [19],oo 21 (Pt 18 20) [18,20]]
def Ql:List RI:=[on 4 (.mov (.c (.lst 4 [] .clip)))]
def YN:List RI:=[on 5 (.mov (.c (.lst 4 [] .clip)))]
def YM:List RI:=[on 6 (Mc 1)]
def YL:List RI:=[om 22 6,oo 23 (Bc .leq 22 4) [22]]
def YK:List RI:=[om 26 6,oo 27 (Bc .eql 26 3) [26]]
def uo:List RI:=[on 7 (Mc 0)]
def YJ:List RI:=[om 28 7,oo 29 (Bc .lss 28 8) [28]]
def YI:List RI:=[omk 32 5,om 33 7,om 34 1,on 35 (Ca 69 []),oo 36 (Ca 68 [.t 33,ci 2,.t 34,.t 35]) [33,34,35],oo 37 (.lit 4 [.t 36]) [36],oo 38 (.app Zq2 64 (.t 32) (.t 37)) [32,37],omk 5 38]
def J4:List RI:=[omk 30 7,oo 31 (Bc .add 30 1) [30],omk 7 31]
def zN:RC:=(.post (Sq (So YJ (Kc 29 (Kk [29] .skip) (Kk [7,29] (.exit 2)))) (Sq (Bk 3 (.ops YI)) (.ops J4))) [.tok 5 105])
def yE:RC:=zN
def J3:List RI:=[om 39 8,om 40 0,oo 41 (Ln 40) [40],oo 42 (Bb .lss 39 41) [39,41]]
def J2:List RI:=[om 45 0,om 46 8,oo 47 (Ia 4 45 46) [45,46],oo 48 (Fa 0 47) [47],oo 49 (Ld 48) [48],om 50 6,oo 51 (Bb .neq 49 50) [49,50]]
def J1:List RI:=[om 52 6,oo 53 (Bc .neq 52 4) [52]]
def J0:List RI:=[omk 54 5,om 55 0,om 56 8,oo 57 (Ia 4 55 56) [55,56],oo 58 (Lt 4 57) [57],om 59 1,oo 60 (Ca 40 [.t 58,.t 59]) [58,59],oo 61 (.lit 4 [.t 60]) [60],oo 62 (.app Zq2 64 (.t 54) (.t 61)) [54,61],omk 5 62]
def JZ:List RI:=[om 63 0,om 64 8,oo 65 (Ia 4 63 64) [63,64],oo 66 (Lt 4 65) [65],oo 67 (Ca 70 [.t 66]) [66],omk 9 67]
def yD:List RI:=[on 10 (Mc 0)]
def JY:List RI:=[om 68 10,om 69 9,oo 70 (Ln 69) [69],oo 71 (Bb .lss 68 70) [68,70]]
def JX:List RI:=[omk 74 5,om 75 1,om 76 9,om 77 10,oo 78 (Ia 1 76 77) [76,77],oo 79 (Ld 78) [78],oo 80 (Ca 68 [ci 9,ci 3,.t 75,.t 79]) [75,79],oo 81 (.lit 4 [.t 80]) [80],oo 82 (.app Zq2 64 (.t 74) (.t 81)) [74,81],omk 5 82]
def JW:List RI:=[omk 72 10,oo 73 (Bc .add 72 1) [72],omk 10 73]
def zM:RC:=(.post (Sq (So JY (Kc 71 (Kk [71] .skip) (Kk [9,10,71] (.exit 6)))) (Sq (Bk 7 (.ops JX)) (.ops JW))) [.tok 5 105])
def yC:RC:=zM
def JV:List RI:=[omk 43 8,oo 44 (Bc .add 43 1) [43],omk 8 44]
def zL:RC:=(.post (Sq (So J3 (Kc 42 (Kk [42] .skip) (Kk [8,42] (.exit 4)))) (Sq (Bk 5 (Sq (So J2 (Kc 51 (Kk [51] (.exit 5)) (Kk [51] .skip))) (Sq (So J1 (Kc 53 (Kk [53] (So J0 (.exit 5))) (Kk [53] .skip))) (So JZ (So yD (Bk 6 (.pre [.tok 5 105] (.loop yC)))))))) (.ops JV))) [.tok 5 105])
def yB:RC:=zL
def JU:List RI:=[omk 24 6,oo 25 (Bc .add 24 1) [24],omk 6 25]
def zK:RC:=(.post (Sq (So YL (Kc 23 (Kk [23] .skip) (Kk [0,1,6,23] (.exit 0)))) (Sq (Bk 1 (Sq (So YK (Kc 27 (Kk [27] (So uo (Bk 2 (.pre [.tok 5 105] (.loop yE))))) (Kk [27] .skip))) (So oc (Bk 4 (.pre [.tok 5 105] (.loop yB)))))) (.ops JU))) [.tok 5 105])
def JT:RC:=zK
def JS:List RI:=[omk 83 5,omk 4 83]
def r27:RC:=(So Qm (Sq (So YO (Kc 21 (Kk [0,1,21] (So Ql .ret)) (Kk [21] .skip))) (So YN (Sq (So YM (Bk 0 (.pre [.tok 5 105] (.loop JT)))) (So JS .ret)))))
def F27:FnC:=⟨r27,84,[.tmp 4],[],[]⟩
def YH:List RI:=[oo 2 (.mov (.c (.lst 4 [] .clip))) [2]]
def YG:List RI:=[omk 10 0,oo 11 (Ca 29 [.t 10,ci 200]) [10],omk 3 11]
def P9:List RI:=[on 5 (Mc 1)]
def YF:List RI:=[om 12 5,oo 13 (Bc .leq 12 4) [12]]
def YE:List RI:=[om 16 3,oo 17 (Ca 71 [.t 16,ci 3]) [16],omk 6 17]
def YD:List RI:=[om 18 5,oo 19 (Bc .eql 18 1) [18],omk 20 19,.grp 20 false [(xi 21 20 false (Mv 5)),(xi 22 20 false (Bc .eql 21 3))] [21],oo 23 (Pt 20 22) [20,22]]
def YC:List RI:=[om 24 3,oo 25 (Ca 71 [.t 24,ci 2]) [24],oo 26 (.bin .add (ci 1) (.t 25)) [25],omk 6 26]
def YB:List RI:=[om 27 6,oo 28 (Bc .gtr 27 0) [27]]
def YA:List RI:=[om 31 3,om 32 5,oo 33 (Ca 72 [.t 31,.t 32]) [31,32],on 7 (.new (.rc Zq0)),Sr 4 7 33 [33]]
def JR:List RI:=[on 8 (Mb false)]
def JQ:List RI:=[on 9 (Mc 0)]
def JP:List RI:=[om 34 9,om 35 4,oo 36 (Ln 35) [35],oo 37 (Bb .lss 34 36) [34,36]]
def JO:List FI:=[Fm 0 40 8,Fm 1 41 40,Fi 2 42 41 false (Mv 4),Fi 3 43 41 false (Mv 9),Fi 4 44 41 false (Ia 4 42 43),Fi 5 45 41 false (Fa 0 44),Fi 6 46 41 false (Ld 45),Fi 7 47 41 false (Fa 0 7),Fi 8 48 41 false (Ld 47),Fi 9 49 41 false (Bb .eql 46 48),Fi 10 50 41 false (Mv 49),Fi 11 51 50 true (Mv 4),Fi 12 52 50 true (Mv 9),Fi 13 53 50 true (Ia 4 51 52),Fi 14 54 50 true (Fa 1 53),Fi 15 55 50 true (Ld 54),Fi 16 56 50 true (Fa 1 7),Fi 17 57 50 true (Ld 56),Fi 18 58 50 true (Bb .eql 55 57),Fi 19 59 41 false (Pf 50 58),Fs 20 60 (Pt 41 59),⟨21,false,(xm 8 60)⟩]
def JN:List RI:=[omk 38 9,oo 39 (Bc .add 38 1) [38],omk 9 39]
def zJ:RC:=(Sq (So JP (Kc 37 (Kk [37] .skip) (Kk [9,37] (.exit 4)))) (Sq (Bk 5 (.flt [0,1,3,3,15,31,63,3,131,511,1023,2047,2047,8191,16383,32767,2047,67583,262143,524287,1048575,2097151] [] JO [40,41,42,43,44,45,46,47,48,49,50,51,52,53,54,55,56,57,58,59,60])) (.ops JN)))
def yA:RC:=zJ
def JM:List RI:=[omk 61 8,oo 62 (.un .not (.t 61)) [61]]
def JL:List RI:=[omk 63 4,oo 64 (Lt 4 7) [7],oo 65 (.lit 4 [.t 64]) [64],oo 66 (.app Zq0 56 (.t 63) (.t 65)) [63,65],omk 4 66]
def JK:List RI:=[omk 29 6,oo 30 (Bc .sub 29 1) [29],omk 6 30]
def zI:RC:=(.post (Sq (So YB (Kc 28 (Kk [28] .skip) (Kk [6,28] (.exit 2)))) (Sq (Bk 3 (So YA (So JR (Sq (So JQ (Bk 4 (.loop yA))) (So JM (Kc 62 (Kk [62] (.ops JL)) (Kk [7,62] .skip))))))) (.ops JK))) [.gc [107],.tok 4 104])
def yz:RC:=zI
def JJ:List RI:=[omk 14 5,oo 15 (Bc .add 14 1) [14],omk 5 15]
def zH:RC:=(.post (Sq (So YF (Kc 13 (Kk [13] .skip) (Kk [3,5,13] (.exit 0)))) (Sq (Bk 1 (So YE (Sq (So YD (Kc 23 (Kk [6,23] (.ops YC)) (Kk [23] .skip))) (Bk 2 (.pre [.tok 4 104] (.loop yz)))))) (.ops JJ))) [.gc [107],.tok 4 104])
def qx:RC:=zH
def JI:List RI:=[omk 67 4,omk 2 67]
def r28:RC:=(So YH (So YG (So Ql (Sq (So P9 (Bk 0 (.pre [.tok 4 104] (.loop qx)))) (So JI .ret)))))
def F28:FnC:=⟨r28,68,[.tmp 2],[],[]⟩
def Yz:List RI:=[oo 4 (.mov (.c .nilp)) [4]]
def Yy:List RI:=[omk 9 0,omk 10 1,oo 11 (.slcL 1 (.t 9) none (some (.t 10)) none) [9,10],omk 0 11]
def Yx:List RI:=[omk 12 0,oo 13 (.build [.byt [] .clip,.int .i64 0] [(0,1,(.t 12))]) [12],oo 14 (.box (.t 13)) [13],omk 4 14]
def r29:RC:=(So Yz (Sq (So Qn (Kc 8 (Kk [8] (.ops Yy)) (Kk [1,8] .skip))) (So Yx .ret)))
def F29:FnC:=⟨r29,15,[.tmp 4],[],[]⟩
def Yw:List RI:=[on 4 (.new (.rc Zq2))]
def Yv:List RI:=[om 9 0,oo 10 (Ca 73 [.t 9]) [9],omk 5 10]
def Yu:List RI:=[om 11 0,oo 12 (Ca 71 [.t 11,ci 4]) [11],oo 13 (Bc .eql 12 3) [12]]
def Yt:List RI:=[omk 14 5,om 15 0,oo 16 (Ca 71 [.t 15,ci 2]) [15],oo 17 (.slcL 1 (.t 14) none (some (.t 16)) none) [14,16],omk 5 17]
def Ys:List RI:=[om 18 0,oo 19 (Ca 71 [.t 18,ci 5]) [18],oo 20 (.bin .add (ci 1) (.t 19)) [19],omk 6 20]
def Yr:List RI:=[on 21 (.lit 1 [ci 0,ci 0,ci 4,ci 8,ci 9,ci 9,ci 1,ci 11]),om 22 0,oo 23 (Ca 71 [.t 22,ci 8]) [22],oo 24 (Ia 1 21 23) [21,23],oo 25 (Ld 24) [24],omk 7 25]
def Yq:List RI:=[om 26 6,oo 27 (Bc .eql 26 2) [26],omk 28 27,.grp 28 true [(xi 29 28 true (Mv 0)),(xi 30 28 true (Ca 71 [.t 29,ci 4])),(xi 31 28 true (Bc .gtr 30 0))] [29,30],oo 32 (Pf 28 31) [28,31]]
def Yp:List RI:=[on 33 (.litB [(.c (.u8 0)),(.c (.u8 0)),(.c (.u8 0)),(.c (.u8 0))]),omk 5 33]
def Yo:List RI:=[om 34 0,oo 35 (Ca 71 [.t 34,ci 8]) [34],omk 7 35]
def Yn:List RI:=[omk 36 7,om 37 6,om 38 1,omk 39 5,oo 40 (Ca 68 [.t 36,.t 37,.t 38,.t 39]) [36,37,38,39],on 8 (.new (.rc Zq2)),Sr 4 8 40 [40]]
def JH:List RI:=[om 41 6,oo 42 (Bc .neq 41 5) [41],omk 43 42,.grp 43 true [(xi 44 43 true (Mv 0)),(xi 45 43 true (Ca 71 [.t 44,ci 4])),(xi 46 43 true (Bc .eql 45 3))] [44,45],oo 47 (Pf 43 46) [43,46]]
def JG:List RI:=[omk 48 1,omk 49 0,oo 50 (Ca 71 [.t 49,ci 4]) [49],oo 51 (.toInt .u8 (.t 50)) [50],omk 52 6,oo 53 (.toInt .u8 (.t 52)) [52],oo 54 (.litB [.t 51,.t 53]) [51,53],oo 55 (Ca 74 [.t 48,.t 54]) [48,54],on 56 (Fa 2 8),Sr 1 56 55 [55,56]]
def JF:List RI:=[oo 57 (Lt 4 8) [8],Sr 4 4 57 [57]]
def r30:RC:=(So Yw (So Yv (Sq (So Yu (Kc 13 (Kk [13] (.ops Yt)) (Kk [13] .skip))) (So Ys (So Yr (Sq (So Yq (Kc 32 (Kk [5,7,32] (So Yp (.ops Yo))) (Kk [32] .skip))) (So Yn (Sq (So JH (Kc 47 (Kk [47] (.ops JG)) (Kk [0,1,6,47] .skip))) (So JF .ret)))))))))
def F30:FnC:=⟨r30,58,[.cell 4 4 true],[],[]⟩
def EN:List RI:=[oo 2 (.box (.t 0)) [0],oo 3 (.box (.t 1)) [1],oo 4 (Mc 0) [4]]
def Ym:List RI:=[on 6 (Lt 7 2),oo 7 (Ca 13 [.t 6]) [6],oo 8 (Bc .neq 7 0) [7]]
def mf:List RI:=[on 4 (Mc (-1))]
def Yl:List RI:=[on 9 (Fa 1 3),oo 10 (Ld 9) [9]]
def Yk:List RI:=[on 12 (Bc .eql 10 1),omk 11 12]
def Yj:List RI:=[oo 13 (Fa 5 2) [2],oo 14 (Ld 13) [13],oo 15 (.mkfn 76 [] [.t 3]) [3],oo 16 (Ca 75 [.t 14,.t 15]) [14,15],omk 4 16]
def Yi:List RI:=[oo 18 (Bc .eql 10 3) [10],omk 17 18]
def Yh:List FI:=[Fs 0 19 (Fa 0 3),Fs 1 20 (Ld 19),Fz 2 21 (Ca 33 [ci 4]),Fs 3 22 (Bb .neq 20 21),Fm 4 23 22,Fi 5 24 23 false (Lt 4 3),Fy 6 25 23 false (Ca 79 [.t 24]),Fi 7 26 23 false (.un .not (.t 25)),Fs 8 27 (Pt 23 26)]
def Yg:List RI:=[on 28 (Fa 6 2),oo 29 (Ld 28) [28],oo 30 (.mkfn 81 [] [.t 3]) [3],oo 31 (Ca 80 [.t 29,.t 30]) [29,30],omk 5 31]
def JE:List RI:=[om 32 5,oo 33 (Bc .geq 32 0) [32]]
def JD:List RI:=[oo 34 (Fa 5 2) [2],oo 35 (Ld 34) [34],oo 36 (Ln 35) [35],omk 37 5,oo 38 (Bb .add 36 37) [36,37],omk 4 38]
def r31:RC:=(So EN (Sq (So Ym (Kc 8 (Kk [2,3,8] (So mf .ret)) (Kk [8] .skip))) (Sq (So Yl (Bk 0 (So Yk (Kc 11 (Kk [10,11] (So Yj .ret)) (Kk [11] (So Yi (Kc 17 (Kk [17] (Sq (Sq (.flt [0,1,0,7,15,31,63,127,255] [] Yh [19,20,21,22,23,24,25,26]) (Kc 27 (Kk [2,3,27] (So mf .ret)) (Kk [27] .skip))) (So Yg (So JE (Kc 33 (Kk [33] (So JD .ret)) (Kk [2,5,33] .skip)))))) (Kk [2,3,17] .skip)))))))) (So mf .ret))))
def F31:FnC:=⟨r31,39,[.tmp 4],[],[]⟩
def Yf:List RI:=[on 8 (Lt 7 2),oo 9 (Ca 14 [.t 8]) [8],oo 10 (Bc .neq 9 0) [9],omk 11 10,.grp 11 false [(xi 12 11 false (Fa 2 3)),(xi 13 11 false (Ld 12)),(xi 14 11 false (Ln 13)),(xi 15 11 false (Bc .neq 14 2))] [12,13,14],oo 16 (Pt 11 15) [11,15]]
def Ye:List RI:=[on 17 (Fa 1 3),oo 18 (Ld 17) [17],oo 19 (Bc .eql 18 1) [18]]
def Yd:List RI:=[om 20 5,on 21 (Fa 5 2),oo 22 (Ld 21) [21],oo 23 (Ln 22) [22],oo 24 (Bb .lss 20 23) [20,23]]
def Yc:List RI:=[on 27 (Fa 5 2),oo 28 (Ld 27) [27],om 29 5,oo 30 (Ia 4 28 29) [28,29],oo 31 (Lt 4 30) [30],on 6 (.new (.rc Zq0)),Sr 4 6 31 [31]]
def Yb:List FI:=[Fs 0 32 (Fa 0 6),Fs 1 33 (Ld 32),Fs 3 35 (Fa 0 3),Fs 4 36 (Ld 35),Fz 2 34 (Ca 82 [.t 33]),Fs 5 37 (Bb .eql 34 36),Fm 6 38 37,Fi 7 39 38 true (Fa 3 6),Fi 8 40 38 true (Ld 39),Fi 9 41 38 true (Fa 2 3),Fi 10 42 38 true (Ld 41),Fi 11 43 38 true (.iaddrL 1 (.t 42) (ci 1)),Fi 12 44 38 true (Ld 43),Fy 13 45 38 true (Ca 19 [.t 40,.t 44]),Fs 14 46 (Pf 38 45),Fm 15 47 46,Fi 16 48 47 true (Fa 3 3),Fi 17 49 47 true (Ld 48),Fi 18 50 47 true (Fa 1 6),Fi 19 51 47 true (Ld 50),Fi 20 52 47 true (Fa 2 6),Fi 21 53 47 true (Ld 52),Fy 22 54 47 true (Ca 34 [.t 51,.t 53]),Fy 23 55 47 true (Ca 19 [.t 49,.t 54]),Fs 24 56 (Pf 47 55)]
def Ya:List RI:=[omk 57 5,omk 4 57]
def X9:List RI:=[omk 25 5,oo 26 (Bc .add 25 1) [25],omk 5 26]
def zG:RC:=(.post (Sq (So Yd (Kc 24 (Kk [24] .skip) (Kk [5,24] (.exit 0)))) (Sq (Bk 1 (So Yc (Sq (.flt [0,1,3,0,8,31,63,127,255,127,639,1663,3711,8191,16383,32767,65535,131071,65535,327679,65535,1114111,3997695,8388607,16777215] [] Yb [6,32,33,34,35,36,37,38,39,40,41,42,43,44,45,46,47,48,49,50,51,52,53,54,55]) (Kc 56 (Kk [2,3,56] (So Ya .ret)) (Kk [56] .skip))))) (.ops X9))) [.gc [106]])
def um:RC:=zG
def JC:List RI:=[on 58 (Fa 1 3),oo 59 (Ld 58) [58],oo 60 (Bc .eql 59 3) [59],omk 61 60,.grp 61 true [(xi 62 61 true (Fa 0 3)),(xi 63 61 true (Ld 62)),(xi 64 61 true (Bc .eql 63 9))] [62,63],oo 65 (Pf 61 64) [61,64],omk 66 65,.grp 66 true [(xi 67 66 true (Lt 4 3)),(xi 68 66 true (Ca 83 [.t 67]))] [67],oo 69 (Pf 66 68) [66,68]]
def JB:List RI:=[om 70 7,on 71 (Fa 6 2),oo 72 (Ld 71) [71],oo 73 (Ln 72) [72],oo 74 (Bb .lss 70 73) [70,73]]
def JA:List FI:=[Fs 0 77 (Fa 6 2),Fs 1 78 (Ld 77),Fm 2 79 7,Fs 3 80 (Ia 4 78 79),Fs 4 81 (Lt 4 80),Fs 5 82 (Fa 3 3),Fs 6 83 (Ld 82),Fz 7 84 (Ca 84 [.t 81,.t 83])]
def Jz:List RI:=[oo 85 (Fa 5 2) [2],oo 86 (Ld 85) [85],oo 87 (Ln 86) [86],omk 88 7,oo 89 (Bb .add 87 88) [87,88],omk 4 89]
def Jy:List RI:=[omk 75 7,oo 76 (Bc .add 75 1) [75],omk 7 76]
def zF:RC:=(Sq (So JB (Kc 74 (Kk [74] .skip) (Kk [2,3,7,74] (.exit 2)))) (Sq (Bk 3 (Sq (.flt [0,1,0,7,15,0,32,127] [] JA [77,78,79,80,81,82,83]) (Kc 84 (Kk [3,84] (So Jz .ret)) (Kk [84] .skip)))) (.ops Jy)))
def ul:RC:=zF
def r32:RC:=(So EN (Sq (So Yf (Kc 16 (Kk [2,3,16] (So mf .ret)) (Kk [16] .skip))) (Sq (So Ye (Kc 19 (Kk [19] (So jK (Bk 0 (.loop um)))) (Kk [19] .skip))) (Sq (So JC (Kc 69 (Kk [69] (So uo (Bk 2 (.loop ul)))) (Kk [2,3,69] .skip))) (So mf .ret)))))
def F32:FnC:=⟨r32,90,[.tmp 4],[],[]⟩
def jJ:List RI:=[oo 2 (Mc 0) [2]]
def X8:List RI:=[om 3 0,oo 4 (Bc .lss 3 0) [3],omk 5 4,.grp 5 false [(xi 6 5 false (Mv 0)),(xi 7 5 false (Bc .geq 6 5))] [6],oo 8 (Pt 5 7) [5,7]]
def xb:List RI:=[on 2 (Mc (-1))]
def X7:List RI:=[omk 9 0,oo 10 (.iaddrA 5 1 (.c (.pp pk)) (.t 9)) [9],oo 11 (Ld 10) [10],omk 2 11]
def r33:RC:=(So jJ (Sq (So X8 (Kc 8 (Kk [0,8] (So xb .ret)) (Kk [8] .skip))) (So X7 .ret)))
def F33:FnC:=⟨r33,12,[.tmp 2],[],[]⟩
def X6:List RI:=[omk 5 0,.tks (xs 6 (.s2b (.t 5))) [5],on 7 (.litB [(.c (.u8 32))]),oo 8 (.app [.u8 0] 1 (.t 6) (.t 7)) [6,7],omk 9 1,oo 10 (Ca 85 [.t 9]) [9],oo 11 (.app [.u8 0] 1 (.t 8) (.t 10)) [8,10],omk 4 11]
def r34:RC:=(So lB (So X6 .ret))
def F34:FnC:=⟨r34,12,[.tmp 4],[],[]⟩
def P8:List RI:=[oo 2 (.box (.t 0)) [0],oo 4 (Mb false) [4]]
def X5:List RI:=[on 8 (Lt 4 2),oo 9 (Ca 44 [.t 8]) [8],oo 10 (Bc .neq 9 0) [9]]
def P7:List RI:=[on 11 (Fa 0 2),oo 12 (Ld 11) [11]]
def X4:List RI:=[on 14 (Bc .eql 12 2),omk 13 14]
def X3:List RI:=[omk 15 1,oo 16 (.b2s (.t 15)) [15],oo 17 (Fa 1 2) [2],oo 18 (Ld 17) [17],oo 19 (Bb .eql 16 18) [16,18],omk 4 19]
def X2:List RI:=[on 21 (Bc .eql 12 3),omk 20 21]
def X1:List RI:=[oo 22 (Fa 1 2) [2],oo 23 (Ld 22) [22],omk 24 1,oo 25 (Ca 86 [.t 23,.t 24]) [23,24],omk 4 25]
def X0:List RI:=[oo 27 (Bc .eql 12 4) [12],omk 26 27]
def XZ:List RI:=[omk 29 1,oo 30 (.b2s (.t 29)) [29],on 31 (Fa 1 2),oo 32 (Ld 31) [31],oo 33 (Ca 87 [.t 30,.t 32]) [30,32],omk 28 33,on 34 (.ext (.t 28) 0),oo 35 (.ext (.t 28) 1) [28],omk 5 34,omk 6 35]
def Jx:List RI:=[omk 36 5,oo 37 (Ca 88 [.t 36]) [36],omk 7 37]
def Jw:List RI:=[omk 38 6,omk 39 38,.grp 39 true [(xi 40 39 true (Mv 7)),(xi 41 39 true (Fa 2 2)),(xi 42 39 true (Ld 41)),(xi 43 39 true (Bb .geq 40 42))] [40,41,42],oo 44 (Pf 39 43) [39,43],omk 45 44,.grp 45 true [(xi 46 45 true (Mv 7)),(xi 47 45 true (Fa 3 2)),(xi 48 45 true (Ld 47)),(xi 49 45 true (Bb .leq 46 48))] [2,7,46,47,48],oo 50 (Pf 45 49) [45,49],omk 4 50]
def r35:RC:=(So P8 (Sq (So X5 (Kc 10 (Kk [1,2,10] (So lC .ret)) (Kk [10] .skip))) (Sq (So P7 (Bk 0 (So X4 (Kc 13 (Kk [12,13] (So X3 .ret)) (Kk [13] (So X2 (Kc 20 (Kk [12,20] (So X1 .ret)) (Kk [20] (So X0 (Kc 26 (Kk [26] (So XZ (So Jx (So Jw .ret)))) (Kk [1,2,26] .skip))))))))))) (So qz .ret))))
def F35:FnC:=⟨r35,51,[.tmp 4],[],[]⟩
def P6:List RI:=[on 6 (.new (.rc Zq1))]
def XY:List RI:=[omk 10 0,omk 11 1,oo 12 (.build Zq1 [(0,1,(.t 10)),(1,1,(.t 11)),(4,1,(ci 1099511627776))]) [10,11],on 7 (.new (.rc Zq1)),Sr 7 7 12 [12]]
def XX:List RI:=[omk 13 2,on 14 (Ln 13),on 15 (Mc 0)]
def XW:List RI:=[on 16 (Bb .lss 15 14)]
def XV:List RI:=[on 17 (Ia 4 13 15),oo 18 (Lt 4 17) [17],on 9 (.new (.rc Zq0)),Sr 4 9 18 [18]]
def XU:List RI:=[on 19 (Lt 4 9),oo 20 (Ca 89 [.t 19]) [19],oo 21 (Bc .eql 20 0) [20],omk 22 21,.grp 22 true [(xi 23 22 true (Fa 0 9)),(xi 24 22 true (Ld 23)),(xi 25 22 true (Bc .neq 24 4))] [23,24],oo 26 (Pf 22 25) [22,25]]
def XT:List FI:=[Fs 0 27 (Fa 5 7),Fs 1 28 (Ld 27),Fs 2 29 (Fa 0 9),Fs 3 30 (Ld 29),Fs 4 31 (Fa 1 9),Fs 5 32 (Ld 31),Fs 6 33 (Fa 2 9),Fs 7 34 (Ld 33),Fs 8 35 (Lt 4 9),Fz 9 36 (Ca 91 [.t 35]),Fz 10 37 (Ca 90 [ci 1,.t 36]),Fs 11 38 (.build Zq0 [(0,1,(.t 30)),(1,1,(.t 32)),(2,1,(.t 34)),(3,1,(.t 37))]),Fs 12 39 (.lit 4 [.t 38]),Fz 13 40 (.appO Zq0 56 (.t 28) (.t 39)),Fs 14 41 (Fa 5 7),Fr 15 1 41 40]
def XS:List RI:=[oo 42 (Bc .add 15 1) [15],omk 15 42]
def QL:RC:=(.post (So XW (Sq (Kc 16 (Kk [16] .skip) (Kk [13,14,15,16] (.exit 0))) (Sq (Bk 1 (So XV (So XU (Kc 26 (Kk [26] (.flt [0,1,0,4,0,16,0,64,0,256,768,2044,4092,8191,16383,32767] [140] XT [9,27,28,29,30,31,32,33,34,35,36,37,38,39,40,41])) (Kk [9,26] .skip))))) (.ops XS)))) [.gc [109]])
def P5:RC:=QL
def XR:List RI:=[on 43 (Fa 5 7),oo 44 (Ld 43) [43],oo 45 (Ca 92 [.t 44,(.f 43)]) [44,45]]
def Jv:List RI:=[on 46 (Fa 5 7),oo 47 (Ld 46) [46],oo 48 (Ca 93 [.t 47,(.f 94)]) [47],on 49 (Fa 5 7),Sr 1 49 48 [48,49]]
def Ju:List RI:=[oo 50 (Lt 7 7) [7],Sr 7 6 50 [50]]
def r37:RC:=(So P6 (So XY (Sq (So XX (Bk 0 (.loop P5))) (So XR (So Jv (So Ju .ret))))))
def F37:FnC:=⟨r37,51,[.cell 6 7 true],[0],[]⟩
def XQ:List RI:=[omk 12 0,omk 13 1,oo 14 (.build Zq1 [(0,1,(.t 12)),(1,1,(.t 13)),(4,1,(ci 1099511627776))]) [12,13],on 7 (.new (.rc Zq1)),Sr 7 7 14 [14]]
def XP:List RI:=[om 15 8,om 16 2,oo 17 (Ln 16) [16],oo 18 (Bb .lss 15 17) [15,17]]
def XO:List RI:=[om 21 2,om 22 8,oo 23 (Ia 4 21 22) [21,22],oo 24 (Lt 4 23) [23],oo 25 (Ca 95 [.t 24]) [24],omk 9 25]
def XN:List RI:=[om 26 9,oo 27 (Ln 26) [26],oo 28 (Bc .eql 27 0) [27],omk 29 28,.grp 29 false [(xi 30 29 false (Mv 2)),(xi 31 29 false (Mv 8)),(xi 32 29 false (Ia 4 30 31)),(xi 33 29 false (Fa 0 32)),(xi 34 29 false (Ld 33)),(xi 35 29 false (Bc .eql 34 4))] [30,31,32,33,34],oo 36 (Pt 29 35) [29,35]]
def XM:List FI:=[Fm 0 37 2,Fm 1 38 8,Fs 2 39 (Ia 4 37 38),Fs 3 40 (Fa 0 39),Fs 4 41 (Ld 40),Fm 5 42 2,Fm 6 43 8,Fs 7 44 (Ia 4 42 43),Fs 8 45 (Fa 1 44),Fs 9 46 (Ld 45),Fm 10 47 2,Fm 11 48 8,Fs 12 49 (Ia 4 47 48),Fs 13 50 (Fa 2 49),Fs 14 51 (Ld 50),Fm 15 52 9,Fz 16 53 (Ca 65 [.t 52]),Fs 17 54 (.build Zq0 [(0,1,(.t 41)),(1,1,(.t 46)),(2,1,(.t 51)),(3,1,(.t 53))]),Fz 18 10 (.new (.rc Zq0)),Fr 19 4 10 54]
def XL:List RI:=[on 11 (Mc 0)]
def XK:List FI:=[Fm 0 55 11,Fs 1 56 (Fa 5 7),Fs 2 57 (Ld 56),Fs 3 58 (Ln 57),Fs 4 59 (Bb .lss 55 58),Fm 5 60 59,Fi 6 61 60 true (Fa 5 7),Fi 7 62 60 true (Ld 61),Fi 8 63 60 true (Mv 11),Fi 9 64 60 true (Ia 4 62 63),Fi 10 65 60 true (Lt 4 64),Fi 11 66 60 true (Lt 4 10),Fy 12 67 60 true (Ca 46 [.t 65,.t 66]),Fs 13 68 (Pf 60 67)]
def XJ:List RI:=[omk 69 11,oo 70 (Bc .add 69 1) [69],omk 11 70]
def zE:RC:=(Sq (Sq (.flt [0,0,2,6,15,31,63,127,63,511,1023,63,4095,8191] [] XK [55,56,57,58,59,60,61,62,63,64,65,66,67]) (Kc 68 (Kk [68] .skip) (Kk [68] (.exit 2)))) (Bk 3 (.ops XJ)))
def yy:RC:=zE
def Jt:List FI:=[Fm 0 71 11,Fs 1 72 (Fa 5 7),Fs 2 73 (Ld 72),Fs 3 74 (Ln 73),Fs 4 75 (Bb .lss 71 74),Fm 5 76 75,Fi 6 77 76 true (Lt 4 10),Fi 7 78 76 true (Fa 5 7),Fi 8 79 76 true (Ld 78),Fi 9 80 76 true (Mv 11),Fi 10 81 76 true (Ia 4 79 80),Fi 11 82 76 true (Lt 4 81),Fy 12 83 76 true (Ca 46 [.t 77,.t 82]),Fi 13 84 76 true (.un .not (.t 83)),Fs 14 85 (Pf 76 84)]
def Js:List FI:=[Fs 0 86 (.lit 4 []),Fs 1 87 (Fa 5 7),Fs 2 88 (Ld 87),Fm 3 89 11,Fs 4 90 (.slcL 4 (.t 88) none (some (.t 89)) none),Fs 6 92 (Lt 4 10),Fs 7 93 (.lit 4 [.t 92]),Fs 9 95 (Fa 5 7),Fs 10 96 (Ld 95),Fm 11 97 11,Fs 12 98 (.slcL 4 (.t 96) (some (.t 97)) none none),Fz 5 91 (.app Zq0 56 (.t 86) (.t 90)),Fz 8 94 (.app Zq0 56 (.t 91) (.t 93)),Fz 13 99 (.app Zq0 56 (.t 94) (.t 98)),Fs 14 100 (Fa 5 7),Fr 15 1 100 99]
def Jr:List RI:=[omk 19 8,oo 20 (Bc .add 19 1) [19],omk 8 20]
def zD:RC:=(.post (Sq (So XP (Kc 18 (Kk [18] .skip) (Kk [2,8,18] (.exit 0)))) (Sq (Bk 1 (So XO (Sq (So XN (Kc 36 (Kk [9,36] (.exit 1)) (Kk [36] .skip))) (Sq (.fla [0,0,3,7,15,0,0,96,224,480,0,0,3072,7168,15360,0,32768,131071,0,524287] [110] XM [[0,1,2,3,4,5,6,7,8,9,10,11,12,13,14,15,16,17,18,19],[0,1,2,3,4,5,6,7,8,9,10,11,12,13,14,15,18,16,17,19]] [9,37,38,39,40,41,42,43,44,45,46,47,48,49,50,51,52,53,54]) (So XL (Sq (Bk 2 (.loop yy)) (Sq (Sq (.flt [0,0,2,6,15,31,63,63,191,63,959,1983,4095,8191,16383] [] Jt [71,72,73,74,75,76,77,78,79,80,81,82,83,84]) (Kc 85 (Kk [10,11,85] (.exit 1)) (Kk [85] .skip))) (.flt [0,0,2,0,14,31,0,64,255,0,512,0,3584,8191,16383,32767] [191,194,199] Js [10,11,86,87,88,89,90,91,92,93,94,95,96,97,98,99,100])))))))) (.ops Jr))) [.gc [110,191,194,199]])
def lV:RC:=zD
def Jq:List RI:=[oo 101 (Lt 7 7) [7],Sr 7 6 101 [101]]
def r38:RC:=(So P6 (So XQ (Sq (So oc (Bk 0 (.loop lV))) (So Jq .ret))))
def F38:FnC:=⟨r38,102,[.cell 6 7 true],[0],[]⟩
def XI:List RI:=[oo 2 (.box (.t 0)) [0],on 4 (.new (.rc Zq2))]
def XH:List RI:=[on 5 (Lt 4 2),oo 6 (Ca 100 [.t 5]) [5],oo 7 (Bc .neq 6 0) [6],omk 8 7,.grp 8 false [(xi 9 8 false (Fa 0 2)),(xi 10 8 false (Ld 9)),(xi 11 8 false (Bc .eql 10 4))] [9,10],oo 12 (Pt 8 11) [8,11]]
def XG:List RI:=[on 13 (.build Zq2 []),Sr 4 4 13 [13]]
def XF:List FI:=[Fs 0 14 (Fa 0 2),Fs 1 15 (Ld 14),Fs 3 17 (Lt 4 2),Fm 4 18 1,Fs 6 20 (Fa 1 2),Fs 7 21 (Ld 20),Fs 8 22 (Fa 2 2),Fs 9 23 (Ld 22),Fz 2 16 (Ca 82 [.t 15]),Fz 5 19 (Ca 101 [.t 17,.t 18]),Fz 10 24 (Ca 34 [.t 21,.t 23]),Fs 11 25 (.build Zq2 [(0,1,(.t 16)),(1,1,(ci 1)),(2,1,(.t 19)),(3,1,(.t 24))]),Fr 12 4 4 25]
def r40:RC:=(So XI (Sq (So XH (Kc 12 (Kk [1,2,12] (So XG .ret)) (Kk [12] .skip))) (Sq (.flt [0,1,3,0,0,31,0,64,0,256,1023,2047,4095] [] XF [1,2,14,15,16,17,18,19,20,21,22,23,24,25]) .ret)))
def F40:FnC:=⟨r40,26,[.cell 4 4 true],[],[]⟩
def XE:List RI:=[om 8 0,oo 9 (Ca 71 [.t 8,ci 4]) [8],omk 5 9]
def XD:List RI:=[on 10 (Ca 102 []),om 11 0,oo 12 (Ca 71 [.t 11,ci 3]) [11],oo 13 (.idxA 3 1 false (.t 10) (.t 12)) [10,12],om 14 5,omk 15 1,oo 16 (Ca 38 [.t 13,.t 14,.t 15]) [13,14,15],on 6 (.new (.rc Zq1)),Sr 7 6 16 [16]]
def XC:List RI:=[om 17 0,oo 18 (Ca 71 [.t 17,ci 3]) [17],oo 19 (Bc .eql 18 1) [18]]
def XB:List FI:=[Fs 0 20 (Fa 5 6),Fs 1 21 (Ld 20),Fm 2 22 0,Fs 3 23 (Fa 5 6),Fs 4 24 (Ld 23),Fs 5 25 (Ln 24),Fs 6 26 (Bc .add 25 1),Fz 7 27 (Ca 71 [.t 22,.t 26]),Fs 8 28 (.slcL 4 (.t 21) none (some (.t 27)) none),Fs 9 29 (Fa 5 6),Fr 10 1 29 28]
def XA:List RI:=[om 30 0,omk 31 5,oo 32 (Bc .add 31 1) [31],oo 33 (Ca 71 [.t 30,.t 32]) [30,32],on 34 (Fa 2 6),Sr 1 34 33 [33,34]]
def Xz:List RI:=[om 35 0,oo 36 (Ca 71 [.t 35,ci 12]) [35],on 37 (Fa 3 6),Sr 1 37 36 [36,37]]
def Xy:List FI:=[Fs 0 38 (Fa 3 6),Fs 1 39 (Ld 38),Fs 2 40 (Bc .add 39 1),Fm 3 41 0,Fz 4 42 (Ca 71 [.t 41,ci 30]),Fs 5 43 (Bb .add 40 42),Fs 6 44 (Fa 4 6),Fr 7 1 44 43]
def Xx:List RI:=[om 45 0,oo 46 (Ca 71 [.t 45,ci 2]) [45],oo 47 (Bc .eql 46 0) [46]]
def Xw:List RI:=[on 48 (Fa 4 6),.op ⟨none,none,.store 1 (.t 48) (ci 1099511627776)⟩ [48]]
def Jp:List RI:=[om 49 0,oo 50 (Ca 71 [.t 49,ci 4]) [49],omk 7 50]
def Jo:List RI:=[om 51 7,oo 52 (Bc .gtr 51 0) [51]]
def Jn:List FI:=[Fs 0 55 (Fa 6 6),Fs 1 56 (Ld 55),Fm 2 57 0,Fz 3 58 (Ca 103 [.t 57]),Fs 4 59 (.lit 4 [.t 58]),Fz 5 60 (.app Zq3 40 (.t 56) (.t 59)),Fs 6 61 (Fa 6 6),Fr 7 1 61 60]
def Jm:List RI:=[omk 53 7,oo 54 (Bc .sub 53 1) [53],omk 7 54]
def zC:RC:=(Sq (So Jo (Kc 52 (Kk [52] .skip) (Kk [0,7,52] (.exit 0)))) (Sq (Bk 1 (.flt [0,1,0,4,12,31,63,127] [160] Jn [55,56,57,58,59,60,61])) (.ops Jm)))
def yx:RC:=zC
def Jl:List RI:=[oo 62 (Lt 7 6) [6],Sr 7 4 62 [62]]
def r41:RC:=(So Qp (So XE (So XD (Sq (So XC (Kc 19 (Kk [19] (.flt [0,1,0,0,8,24,56,124,255,511,1023] [] XB [20,21,22,23,24,25,26,27,28,29])) (Kk [19] .skip))) (So XA (So Xz (Sq (.flt [0,1,3,0,8,31,63,127] [] Xy [38,39,40,41,42,43,44]) (Sq (So Xx (Kc 47 (Kk [47] (.ops Xw)) (Kk [47] .skip))) (Sq (So Jp (Bk 0 (.loop yx))) (So Jl .ret))))))))))
def F41:FnC:=⟨r41,63,[.cell 4 7 true],[],[]⟩
def uj:List RI:=[oo 2 (Mb false) [2]]
def Xv:List RI:=[omk 3 0,oo 4 (.build Zq0 [(0,1,(ci 1)),(1,1,(.t 3))]) [3],oo 5 (Ca 89 [.t 4]) [4],oo 6 (Bc .eql 5 0) [5],omk 2 6]
def r42:RC:=(So uj (So Xv .ret))
def F42:FnC:=⟨r42,7,[.tmp 2],[],[]⟩
def Xu:List FI:=[Fs 0 5 (Fa 0 2),Fs 1 6 (Ld 5),Fs 2 7 (Fa 0 3),Fs 3 8 (Ld 7),Fs 5 10 (Fa 1 2),Fs 6 11 (Ld 10),Fs 7 12 (Fa 1 3),Fs 8 13 (Ld 12),Fs 10 15 (Fa 2 2),Fs 11 16 (Ld 15),Fs 12 17 (Fa 2 3),Fs 13 18 (Ld 17),Fs 15 20 (Fa 3 2),Fs 16 21 (Ld 20),Fs 17 22 (Fa 3 3),Fs 18 23 (Ld 22),Fz 4 9 (Ca 105 [.t 6,.t 8]),Fz 9 14 (Ca 106 [.t 11,.t 13]),Fz 14 19 (Ca 105 [.t 16,.t 18]),Fz 19 24 (Ca 107 [.t 21,.t 23]),Fs 20 25 (.lit 1 [.t 9,.t 14,.t 19,.t 24]),Fz 21 26 (Ca 104 [.t 25]),Fm 22 4 26]
def r43:RC:=(So EN (Sq (.flt [0,1,0,4,15,0,32,0,128,511,0,1024,0,4096,16383,0,32768,0,131072,524287,1048575,2097151,4194303] [] Xu [2,3,5,6,7,8,9,10,11,12,13,14,15,16,17,18,19,20,21,22,23,24,25,26]) .ret))
def F43:FnC:=⟨r43,27,[.tmp 4],[],[]⟩
def Xt:List RI:=[on 5 (Fa 0 1),oo 6 (Ld 5) [5],oo 7 (Bc .lss 6 1) [6],omk 8 7,.grp 8 false [(xi 9 8 false (Fa 0 1)),(xi 10 8 false (Ld 9)),(xi 11 8 false (Bc .gtr 10 4))] [9,10],oo 12 (Pt 8 11) [8,11]]
def Xs:List RI:=[on 13 (Fa 1 1),oo 14 (Ld 13) [13],oo 15 (.len true (.t 14)) [14],on 16 (Mc 0)]
def Xr:List RI:=[on 17 (Bb .lss 16 15)]
def Xq:List RI:=[om 18 16,omk 3 18]
def Xp:List RI:=[on 19 (Fa 1 1),oo 20 (Ld 19) [19],omk 21 3,oo 22 (.idxS (.t 20) (.t 21)) [20,21],omk 4 22]
def Xo:List RI:=[om 23 4,oo 24 (.bin .lss (.t 23) (.c (.u8 32))) [23],omk 25 24,.grp 25 false [(xi 26 25 false (Mv 4)),(xi 27 25 false (.bin .gtr (.t 26) (.c (.u8 126))))] [4,26],oo 28 (Pt 25 27) [25,27]]
def Xn:List RI:=[oo 29 (Bc .add 16 1) [16],omk 16 29]
def zB:RC:=(So Xr (Sq (Kc 17 (Kk [17] .skip) (Kk [15,16,17] (.exit 0))) (Sq (Bk 1 (So Xq (So Xp (So Xo (Kc 28 (Kk [1,15,16,28] (So gE .ret)) (Kk [28] .skip)))))) (.ops Xn))))
def yw:RC:=zB
def Jk:List RI:=[on 31 (Fa 0 1),oo 32 (Ld 31) [31],oo 33 (Bc .eql 32 4) [32],omk 34 33,.grp 34 true [(xi 35 34 true (Fa 2 1)),(xi 36 34 true (Ld 35)),(xi 37 34 true (Bc .lss 36 0)),(xi 38 34 true (Mv 37))] [35,36,37],.grp 38 false [(xi 39 38 false (Fa 2 1)),(xi 40 38 false (Ld 39)),(xi 41 38 false (Fa 3 1)),(xi 42 38 false (Ld 41)),(xi 43 38 false (Bb .gtr 40 42))] [39,40,41,42],.grp 34 true [(xi 44 34 true (Pt 38 43)),(xi 45 34 true (Mv 44))] [38,43,44],.grp 45 false [(xi 46 45 false (Fa 3 1)),(xi 47 45 false (Ld 46)),(xi 48 45 false (Bc .gtr 47 1000000000))] [46,47],.grp 34 true [(xi 49 34 true (Pt 45 48))] [45,48],oo 50 (Pf 34 49) [34,49],omk 30 50]
def Jj:List RI:=[on 52 (Fa 0 1),oo 53 (Ld 52) [52],oo 54 (Bc .neq 53 4) [53],omk 55 54,.grp 55 true [(xi 56 55 true (Fa 2 1)),(xi 57 55 true (Ld 56)),(xi 58 55 true (Bc .neq 57 0)),(xi 59 55 true (Mv 58))] [56,57,58],.grp 59 false [(xi 60 59 false (Fa 3 1)),(xi 61 59 false (Ld 60)),(xi 62 59 false (Bc .neq 61 0))] [60,61],.grp 55 true [(xi 63 55 true (Pt 59 62))] [59,62],oo 64 (Pf 55 63) [55,63],omk 51 64]
def Ji:List RI:=[on 66 (Fa 0 1),oo 67 (Ld 66) [66],oo 68 (Bc .eql 67 1) [67],omk 69 68,.grp 69 true [(xi 70 69 true (Fa 1 1)),(xi 71 69 true (Ld 70)),(xi 72 69 true (.bin .neq (.t 71) (.c (.str []))))] [70,71],oo 73 (Pf 69 72) [69,72],omk 65 73]
def Jh:List RI:=[oo 75 (Fa 1 1) [1],oo 76 (Ld 75) [75],oo 77 (.len true (.t 76)) [76],oo 78 (Bc .gtr 77 32) [77],omk 74 78]
def r44:RC:=(So ra (Sq (So Xt (Kc 12 (Kk [1,12] (So gE .ret)) (Kk [12] .skip))) (Sq (So Xs (Bk 0 (.loop yw))) (Sq (Bk 2 (So Jk (Kc 30 (Kk [1,30] (So gE .ret)) (Kk [30] (So Jj (Kc 51 (Kk [1,51] (So gE .ret)) (Kk [51] (So Ji (Kc 65 (Kk [1,65] (So gE .ret)) (Kk [65] (So Jh (Kc 74 (Kk [74] (So oR .ret)) (Kk [74] .skip))))))))))))) (So iC .ret)))))
def F44:FnC:=⟨r44,79,[.tmp 2],[],[]⟩
def Xm:List RI:=[om 5 0,oo 6 (.len true (.t 5)) [5],oo 7 (Bc .lss 6 1) [6],omk 8 7,.grp 8 false [(xi 9 8 false (Mv 0)),(xi 10 8 false (.len true (.t 9))),(xi 11 8 false (Bc .gtr 10 12))] [9,10],oo 12 (Pt 8 11) [8,11]]
def jI:List RI:=[on 2 (Mb false)]
def Xl:List RI:=[om 13 3,om 14 0,oo 15 (.len true (.t 14)) [14],oo 16 (Bb .lss 13 15) [13,15]]
def Xk:List RI:=[om 19 0,om 20 3,oo 21 (.idxS (.t 19) (.t 20)) [19,20],omk 4 21]
def Xj:List RI:=[om 22 4,oo 23 (.bin .lss (.t 22) (.c (.u8 97))) [22],omk 24 23,.grp 24 false [(xi 25 24 false (Mv 4)),(xi 26 24 false (.bin .gtr (.t 25) (.c (.u8 122))))] [25],oo 27 (Pt 24 26) [24,26],omk 28 27,.grp 28 true [(xi 29 28 true (Mv 4)),(xi 30 28 true (.bin .lss (.t 29) (.c (.u8 48)))),(xi 31 28 true (Mv 30))] [29,30],.grp 31 false [(xi 32 31 false (Mv 4)),(xi 33 31 false (.bin .gtr (.t 32) (.c (.u8 57))))] [32],.grp 28 true [(xi 34 28 true (Pt 31 33))] [31,33],oo 35 (Pf 28 34) [28,34],omk 36 35,.grp 36 true [(xi 37 36 true (Mv 4)),(xi 38 36 true (.bin .neq (.t 37) (.c (.u8 45))))] [4,37],oo 39 (Pf 36 38) [36,38]]
def P4:List RI:=[omk 17 3,oo 18 (Bc .add 17 1) [17],omk 3 18]
def QK:RC:=(Sq (So Xl (Kc 16 (Kk [16] .skip) (Kk [0,3,16] (.exit 0)))) (Sq (Bk 1 (So Xk (So Xj (Kc 39 (Kk [0,3,39] (So jI .ret)) (Kk [39] .skip))))) (.ops P4)))
def P3:RC:=QK
def lU:List RI:=[on 2 (Mb true)]
def r45:RC:=(So uj (Sq (So Xm (Kc 12 (Kk [0,12] (So jI .ret)) (Kk [12] .skip))) (Sq (So qY (Bk 0 (.loop P3))) (So lU .ret))))
def F45:FnC:=⟨r45,40,[.tmp 2],[],[]⟩
def Xi:List RI:=[on 5 (Fa 0 2),oo 6 (Ld 5) [5],on 7 (Fa 0 3),oo 8 (Ld 7) [7],oo 9 (Bb .neq 6 8) [6,8]]
def Xh:List RI:=[oo 10 (Fa 0 2) [2],oo 11 (Ld 10) [10],oo 12 (Fa 0 3) [3],oo 13 (Ld 12) [12],oo 14 (Bb .lss 11 13) [11,13],omk 4 14]
def Xg:List RI:=[on 15 (Fa 1 2),oo 16 (Ld 15) [15],on 17 (Fa 1 3),oo 18 (Ld 17) [17],oo 19 (Bb .neq 16 18) [16,18]]
def Xf:List RI:=[oo 20 (Fa 1 2) [2],oo 21 (Ld 20) [20],oo 22 (Fa 1 3) [3],oo 23 (Ld 22) [22],oo 24 (Bb .lss 21 23) [21,23],omk 4 24]
def Xe:List RI:=[on 25 (Fa 2 2),oo 26 (Ld 25) [25],on 27 (Fa 2 3),oo 28 (Ld 27) [27],oo 29 (Bb .neq 26 28) [26,28]]
def Xd:List RI:=[oo 30 (Fa 2 2) [2],oo 31 (Ld 30) [30],oo 32 (Fa 2 3) [3],oo 33 (Ld 32) [32],oo 34 (Bb .lss 31 33) [31,33],omk 4 34]
def Xc:List RI:=[oo 35 (Fa 3 2) [2],oo 36 (Ld 35) [35],oo 37 (Fa 3 3) [3],oo 38 (Ld 37) [37],oo 39 (Ca 108 [.t 36,.t 38]) [36,38],omk 4 39]
def r46:RC:=(So EP (Sq (So Xi (Kc 9 (Kk [9] (So Xh .ret)) (Kk [9] .skip))) (Sq (So Xg (Kc 19 (Kk [19] (So Xf .ret)) (Kk [19] .skip))) (Sq (So Xe (Kc 29 (Kk [29] (So Xd .ret)) (Kk [29] .skip))) (So Xc .ret)))))
def F46:FnC:=⟨r46,40,[.tmp 4],[],[]⟩
def Xb:List RI:=[on 4 (Fa 0 1),oo 5 (Ld 4) [4],oo 6 (Bc .lss 5 1) [5],omk 7 6,.grp 7 false [(xi 8 7 false (Fa 0 1)),(xi 9 7 false (Ld 8)),(xi 10 7 false (Bc .gtr 9 4))] [8,9],oo 11 (Pt 7 10) [7,10]]
def Xa:List RI:=[om 12 3,on 13 (Fa 1 1),oo 14 (Ld 13) [13],oo 15 (.len true (.t 14)) [14],oo 16 (Bb .lss 12 15) [12,15]]
def W9:List RI:=[on 19 (Fa 1 1),oo 20 (Ld 19) [19],om 21 3,oo 22 (.idxS (.t 20) (.t 21)) [20,21],oo 23 (.bin .lss (.t 22) (.c (.u8 32))) [22],omk 24 23,.grp 24 false [(xi 25 24 false (Fa 1 1)),(xi 26 24 false (Ld 25)),(xi 27 24 false (Mv 3)),(xi 28 24 false (.idxS (.t 26) (.t 27))),(xi 29 24 false (.bin .gtr (.t 28) (.c (.u8 126))))] [25,26,27,28],oo 30 (Pt 24 29) [24,29]]
def QJ:RC:=(Sq (So Xa (Kc 16 (Kk [16] .skip) (Kk [3,16] (.exit 0)))) (Sq (Bk 1 (So W9 (Kc 30 (Kk [1,3,30] (So gE .ret)) (Kk [30] .skip)))) (.ops P4)))
def P2:RC:=QJ
def W8:List RI:=[on 31 (Fa 0 1),oo 32 (Ld 31) [31],oo 33 (Bc .eql 32 4) [32]]
def Jg:List RI:=[on 34 (Fa 2 1),oo 35 (Ld 34) [34],oo 36 (Bc .lss 35 0) [35],omk 37 36,.grp 37 false [(xi 38 37 false (Fa 2 1)),(xi 39 37 false (Ld 38)),(xi 40 37 false (Fa 3 1)),(xi 41 37 false (Ld 40)),(xi 42 37 false (Bb .gtr 39 41))] [38,39,40,41],oo 43 (Pt 37 42) [37,42],omk 44 43,.grp 44 false [(xi 45 44 false (Fa 3 1)),(xi 46 44 false (Ld 45)),(xi 47 44 false (Bc .gtr 46 1000000000))] [45,46],oo 48 (Pt 44 47) [44,47]]
def Jf:List RI:=[on 49 (Fa 2 1),oo 50 (Ld 49) [49],oo 51 (Bc .neq 50 0) [50],omk 52 51,.grp 52 false [(xi 53 52 false (Fa 3 1)),(xi 54 52 false (Ld 53)),(xi 55 52 false (Bc .neq 54 0))] [53,54],oo 56 (Pt 52 55) [52,55]]
def Je:List RI:=[on 57 (Fa 0 1),oo 58 (Ld 57) [57],oo 59 (Bc .eql 58 1) [58],omk 60 59,.grp 60 true [(xi 61 60 true (Fa 1 1)),(xi 62 60 true (Ld 61)),(xi 63 60 true (.bin .neq (.t 62) (.c (.str []))))] [61,62],oo 64 (Pf 60 63) [60,63]]
def Jd:List RI:=[oo 65 (Fa 1 1) [1],oo 66 (Ld 65) [65],oo 67 (.len true (.t 66)) [66],oo 68 (Bc .gtr 67 32) [67]]
def r47:RC:=(So ra (Sq (So Xb (Kc 11 (Kk [1,11] (So gE .ret)) (Kk [11] .skip))) (Sq (So qY (Bk 0 (.loop P2))) (Sq (So W8 (Kc 33 (Kk [33] (So Jg (Kc 48 (Kk [1,48] (So gE .ret)) (Kk [48] .skip)))) (Kk [33] (So Jf (Kc 56 (Kk [1,56] (So gE .ret)) (Kk [56] .skip)))))) (Sq (So Je (Kc 64 (Kk [1,64] (So gE .ret)) (Kk [64] .skip))) (Sq (So Jd (Kc 68 (Kk [68] (So oR .ret)) (Kk [68] .skip))) (So iC .ret)))))))
def F47:FnC:=⟨r47,69,[.tmp 2],[],[]⟩
def P1:List RI:=[oo 6 (.mov (.c (.byt [] .clip))) [6]]
def W7:List RI:=[omk 9 0,oo 10 (.app [.u8 0] 1 (.c (.byt [] .clip)) (.t 9)) [9],omk 7 10]
def W6:List RI:=[om 11 1,oo 12 (Bc .lss 11 1) [11],omk 13 12,.grp 13 false [(xi 14 13 false (Mv 1)),(xi 15 13 false (Bc .gtr 14 8))] [14],oo 16 (Pt 13 15) [13,15]]
def W5:List RI:=[omk 17 7,omk 6 17]
def W4:List RI:=[omk 18 1,oo 19 (Bc .sub 18 1) [18],omk 8 19]
def W3:List RI:=[om 20 8,oo 21 (Bc .geq 20 0) [20]]
def W2:List RI:=[omk 24 7,om 25 2,oo 26 (.toInt .u64 (.t 25)) [25],om 27 8,oo 28 (.bin .mul (ci 8) (.t 27)) [27],oo 29 (.toInt .u64 (.t 28)) [28],oo 30 (Bb .shr 26 29) [26,29],oo 31 (.toInt .u8 (.t 30)) [30],oo 32 (.litB [.t 31]) [31],oo 33 (.app [.u8 0] 1 (.t 24) (.t 32)) [24,32],omk 7 33]
def W1:List RI:=[omk 22 8,oo 23 (Bc .sub 22 1) [22],omk 8 23]
def QI:RC:=(.post (Sq (So W3 (Kc 21 (Kk [21] .skip) (Kk [2,8,21] (.exit 0)))) (Sq (Bk 1 (.ops W2)) (.ops W1))) [.tok 7 107])
def P0:RC:=QI
def W0:List RI:=[omk 34 7,omk 6 34]
def r48:RC:=(So P1 (So W7 (Sq (So W6 (Kc 16 (Kk [1,2,16] (So W5 .ret)) (Kk [16] .skip))) (Sq (So W4 (Bk 0 (.pre [.tok 7 107] (.loop P0)))) (So W0 .ret)))))
def F48:FnC:=⟨r48,35,[.tmp 6],[0],[]⟩
def WZ:List RI:=[om 5 1,omk 6 1,oo 7 (Ln 6) [6],oo 8 (.mini (.t 7) (ci 65535)) [7],oo 9 (.slcL 1 (.t 5) none (some (.t 8)) none) [5,8],omk 1 9]
def WY:List RI:=[omk 10 0,om 11 1,oo 12 (Ln 11) [11],oo 13 (Ca 48 [.t 10,ci 2,.t 12]) [10,12],omk 14 1,oo 15 (.app [.u8 0] 1 (.t 13) (.t 14)) [13,14],omk 4 15]
def r49:RC:=(So lB (So WZ (So WY .ret)))
def F49:FnC:=⟨r49,16,[.tmp 4],[0],[]⟩
def WX:List RI:=[oo 2 (.mov (.c .nilp)) [2]]
def WW:List RI:=[omk 3 0,oo 4 (.app [.u8 0] 1 (.c (.byt [] .clip)) (.t 3)) [3],oo 5 (.build [.byt [] .clip,.int .i64 0,.int .i64 0] [(0,1,(.t 4))]) [4],oo 6 (.box (.t 5)) [5],omk 2 6]
def r50:RC:=(So WX (So WW .ret))
def F50:FnC:=⟨r50,7,[.tmp 2],[],[]⟩
def PZ:List RI:=[om 10 0,oo 11 (.nchk (.t 10)) [10],oo 12 (Fa 2 11) [11],oo 13 (Ld 12) [12],oo 14 (Bc .neq 13 0) [13]]
def WV:List RI:=[om 15 1,oo 16 (Bc .lss 15 1) [15],omk 17 16,.grp 17 false [(xi 18 17 false (Mv 1)),(xi 19 17 false (Bc .gtr 18 8))] [18],oo 20 (Pt 17 19) [17,19]]
def WU:List RI:=[omk 21 0,oo 22 (Ca 109 [.t 21,ci 1]) [21,22]]
def WT:List RI:=[om 24 0,om 25 0,oo 26 (.nchk (.t 25)) [25],oo 27 (Fa 1 26) [26],oo 28 (Ld 27) [27],om 29 1,oo 30 (Ca 110 [.t 24,.t 28,.t 29]) [24,28,29],omk 23 30,on 31 (.ext (.t 23) 0),oo 32 (.ext (.t 23) 1) [23],omk 5 31,omk 6 32]
def WS:List RI:=[om 33 6,oo 34 (Bc .neq 33 0) [33]]
def WR:List RI:=[omk 35 0,omk 36 6,oo 37 (Ca 109 [.t 35,.t 36]) [35,36,37]]
def Jc:List RI:=[on 7 (.mov (.c (.int .u64 0)))]
def Jb:List RI:=[omk 38 5,on 39 (Ln 38),on 40 (Mc 0)]
def Ja:List RI:=[on 42 (Ia 1 38 40),oo 43 (Ld 42) [42],omk 9 43]
def I9:List RI:=[omk 44 7,oo 45 (.bin .shl (.t 44) (.c (.int .u64 8))) [44],omk 46 9,oo 47 (.toInt .u64 (.t 46)) [46],oo 48 (Bb .or 45 47) [45,47],omk 7 48]
def I8:List RI:=[oo 49 (Bc .add 40 1) [40],omk 40 49]
def zA:RC:=(So xfr (Sq (Kc 41 (Kk [41] .skip) (Kk [38,39,40,41] (.exit 0))) (Sq (Bk 1 (So Ja (.ops I9))) (.ops I8))))
def yv:RC:=zA
def I7:List RI:=[om 50 7,oo 51 (.bin .gtr (.t 50) (.c (.int .u64 9223372036854775807))) [50]]
def I6:List RI:=[omk 52 0,oo 53 (Ca 109 [.t 52,ci 4]) [52,53]]
def I5:List RI:=[omk 54 0,on 55 (.nchk (.t 54)),oo 56 (Fa 1 55) [55],oo 57 (Ld 56) [56],omk 58 1,oo 59 (Bb .add 57 58) [57,58],oo 60 (.nchk (.t 54)) [54],oo 61 (Fa 1 60) [60],Sr 1 61 59 [59,61]]
def I4:List RI:=[omk 62 7,oo 63 (.toInt .i64 (.t 62)) [62],omk 4 63]
def r51:RC:=(So oP (Sq (So PZ (Kc 14 (Kk [0,1,14] (So lD .ret)) (Kk [14] .skip))) (Sq (So WV (Kc 20 (Kk [1,20] (So WU (So lD .ret))) (Kk [20] .skip))) (So WT (Sq (So WS (Kc 34 (Kk [1,5,34] (So WR (So lD .ret))) (Kk [6,34] .skip))) (So Jc (Sq (So Jb (Bk 0 (.loop yv))) (Sq (So I7 (Kc 51 (Kk [1,7,51] (So I6 (So lD .ret))) (Kk [51] .skip))) (So I5 (So I4 .ret))))))))))
def F51:FnC:=⟨r51,64,[.tmp 4],[],[]⟩
def kM:List RI:=[on 4 (.mov (.c (.byt [] .clip)))]
def WQ:List RI:=[om 15 0,oo 16 (.mkfn 110 [.t 15] []) [15],omk 5 16]
def WP:List RI:=[om 18 5,om 19 0,oo 20 (.nchk (.t 19)) [19],oo 21 (Fa 1 20) [20],oo 22 (Ld 21) [21],oo 23 (.call (.t 18) [.t 22,ci 2]) [18,22],omk 17 23,on 24 (.ext (.t 17) 0),oo 25 (.ext (.t 17) 1) [17],omk 6 24,omk 7 25]
def WO:List RI:=[om 26 7,oo 27 (Bc .neq 26 0) [26]]
def WN:List RI:=[omk 28 0,omk 29 7,oo 30 (Ca 109 [.t 28,.t 29]) [28,29,30]]
def WM:List FI:=[Fm 0 31 6,Fs 1 32 (.iaddrL 1 (.t 31) (ci 0)),Fs 2 33 (Ld 32),Fs 3 34 (.toInt .i64 (.t 33)),Fs 4 35 (.bin .shl (.t 34) (.c (.int .u64 8))),Fm 5 36 6,Fs 6 37 (.iaddrL 1 (.t 36) (ci 1)),Fs 7 38 (Ld 37),Fs 8 39 (.toInt .i64 (.t 38)),Fs 9 40 (Bb .or 35 39),Fm 10 8 40]
def WL:List RI:=[om 41 8,omk 42 1,oo 43 (Bb .gtr 41 42) [41,42]]
def I3:List RI:=[omk 44 0,oo 45 (Ca 109 [.t 44,ci 4]) [44,45]]
def I2:List RI:=[omk 47 5,om 48 0,oo 49 (.nchk (.t 48)) [48],oo 50 (Fa 1 49) [49],oo 51 (Ld 50) [50],oo 52 (Bc .add 51 2) [51],om 53 8,oo 54 (.call (.t 47) [.t 52,.t 53]) [47,52,53],omk 46 54,on 55 (.ext (.t 46) 0),oo 56 (.ext (.t 46) 1) [46],omk 9 55,omk 7 56]
def I1:List RI:=[om 57 7,oo 58 (Bc .neq 57 0) [57]]
def I0:List RI:=[omk 59 0,omk 60 7,oo 61 (Ca 109 [.t 59,.t 60]) [59,60,61]]
def IZ:List RI:=[omk 62 0,on 63 (.nchk (.t 62)),oo 64 (Fa 1 63) [63],oo 65 (Ld 64) [64],omk 66 8,oo 67 (.bin .add (ci 2) (.t 66)) [66],oo 68 (Bb .add 65 67) [65,67],oo 69 (.nchk (.t 62)) [62],oo 70 (Fa 1 69) [69],Sr 1 70 68 [68,70]]
def IY:List RI:=[omk 71 9,oo 72 (.app [.u8 0] 1 (.c (.byt [] .clip)) (.t 71)) [71],omk 4 72]
def r52:RC:=(So lB (Sq (So PZ (Kc 14 (Kk [0,1,14] (So kM .ret)) (Kk [14] .skip))) (So WQ (So WP (Sq (So WO (Kc 27 (Kk [1,5,6,27] (So WN (So kM .ret))) (Kk [7,27] .skip))) (Sq (.flt [0,1,3,7,15,0,32,96,224,511,1023] [] WM [6,31,32,33,34,35,36,37,38,39,40]) (Sq (So WL (Kc 43 (Kk [5,8,43] (So I3 (So kM .ret))) (Kk [43] .skip))) (So I2 (Sq (So I1 (Kc 58 (Kk [8,9,58] (So I0 (So kM .ret))) (Kk [7,58] .skip))) (So IZ (So IY .ret)))))))))))
def F52:FnC:=⟨r52,73,[.tmp 4],[],[]⟩
def WK:List RI:=[omk 3 0,oo 4 (.nchk (.t 3)) [3],oo 5 (Fa 2 4) [4],oo 6 (Ld 5) [5],omk 2 6]
def r53:RC:=(So jJ (So WK .ret))
def F53:FnC:=⟨r53,7,[.tmp 2],[],[]⟩
def WJ:List RI:=[om 7 0,oo 8 (.nchk (.t 7)) [7],oo 9 (Fa 2 8) [8],oo 10 (Ld 9) [9],oo 11 (Bc .neq 10 0) [10]]
def WI:List RI:=[om 12 1,oo 13 (Bc .lss 12 0) [12]]
def WH:List RI:=[omk 14 0,oo 15 (Ca 109 [.t 14,ci 1]) [14,15]]
def WG:List RI:=[om 17 0,om 18 0,oo 19 (.nchk (.t 18)) [18],oo 20 (Fa 1 19) [19],oo 21 (Ld 20) [20],om 22 1,oo 23 (Ca 110 [.t 17,.t 21,.t 22]) [17,21,22],omk 16 23,on 24 (.ext (.t 16) 0),oo 25 (.ext (.t 16) 1) [16],omk 5 24,omk 6 25]
def WF:List RI:=[om 26 6,oo 27 (Bc .neq 26 0) [26]]
def WE:List RI:=[omk 28 0,omk 29 6,oo 30 (Ca 109 [.t 28,.t 29]) [28,29,30]]
def IX:List RI:=[omk 31 0,on 32 (.nchk (.t 31)),oo 33 (Fa 1 32) [32],oo 34 (Ld 33) [33],omk 35 1,oo 36 (Bb .add 34 35) [34,35],oo 37 (.nchk (.t 31)) [31],oo 38 (Fa 1 37) [37],Sr 1 38 36 [36,38]]
def IW:List RI:=[omk 39 5,oo 40 (.app [.u8 0] 1 (.c (.byt [] .clip)) (.t 39)) [39],omk 4 40]
def r54:RC:=(So lB (Sq (So WJ (Kc 11 (Kk [0,1,11] (So kM .ret)) (Kk [11] .skip))) (Sq (So WI (Kc 13 (Kk [1,13] (So WH (So kM .ret))) (Kk [13] .skip))) (So WG (Sq (So WF (Kc 27 (Kk [1,5,27] (So WE (So kM .ret))) (Kk [6,27] .skip))) (So IX (So IW .ret)))))))
def F54:FnC:=⟨r54,41,[.tmp 4],[],[]⟩
def WD:List RI:=[om 3 0,oo 4 (.nchk (.t 3)) [3],oo 5 (Fa 2 4) [4],oo 6 (Ld 5) [5],oo 7 (Bc .eql 6 0) [6],omk 8 7,.grp 8 true [(xi 9 8 true (Mv 0)),(xi 10 8 true (Ca 111 [.t 9])),(xi 11 8 true (Bc .gtr 10 0))] [9,10],oo 12 (Pf 8 11) [8,11]]
def WC:List RI:=[on 2 (Mc 3)]
def WB:List RI:=[omk 13 0,oo 14 (.nchk (.t 13)) [13],oo 15 (Fa 2 14) [14],oo 16 (Ld 15) [15],omk 2 16]
def r55:RC:=(So jJ (Sq (So WD (Kc 12 (Kk [0,12] (So WC .ret)) (Kk [12] .skip))) (So WB .ret)))
def F55:FnC:=⟨r55,17,[.tmp 2],[],[]⟩
def WA:List RI:=[om 5 1,oo 6 (Ln 5) [5],oo 7 (Bc .gtr 6 65535) [6]]
def Wz:List RI:=[omk 8 1,oo 9 (.slcL 1 (.t 8) none (some (ci 65535)) none) [8],omk 1 9]
def Wy:List RI:=[omk 10 0,om 11 1,oo 12 (Ln 11) [11],oo 13 (Ca 57 [.t 10,ci 2,.t 12]) [10,12],omk 14 1,oo 15 (.app [.u8 0] 1 (.t 13) (.t 14)) [13,14],omk 4 15]
def r56:RC:=(So lB (Sq (So WA (Kc 7 (Kk [7] (.ops Wz)) (Kk [7] .skip))) (So Wy .ret)))
def F56:FnC:=⟨r56,16,[.tmp 4],[0],[]⟩
def Wx:List RI:=[on 9 (.litB []),omk 10 0,oo 11 (.app [.u8 0] 1 (.t 9) (.t 10)) [9,10],omk 7 11]
def Ww:List RI:=[om 12 1,oo 13 (Bc .lss 12 1) [12],omk 14 13,.grp 14 false [(xi 15 14 false (Mv 1)),(xi 16 14 false (Bc .gtr 15 8))] [15],oo 17 (Pt 14 16) [14,16]]
def Wv:List RI:=[omk 18 7,omk 6 18]
def Wu:List RI:=[omk 19 1,oo 20 (Bc .sub 19 1) [19],omk 8 20]
def Wt:List RI:=[om 21 8,oo 22 (Bc .geq 21 0) [21]]
def Ws:List RI:=[omk 25 7,om 26 2,oo 27 (.toInt .u64 (.t 26)) [26],om 28 8,oo 29 (.toInt .u64 (.t 28)) [28],oo 30 (.bin .mul (.c (.int .u64 8)) (.t 29)) [29],oo 31 (Bb .shr 27 30) [27,30],oo 32 (.toInt .u8 (.t 31)) [31],oo 33 (.litB [.t 32]) [32],oo 34 (.app [.u8 0] 1 (.t 25) (.t 33)) [25,33],omk 7 34]
def Wr:List RI:=[omk 23 8,oo 24 (Bc .sub 23 1) [23],omk 8 24]
def QH:RC:=(.post (Sq (So Wt (Kc 22 (Kk [22] .skip) (Kk [2,8,22] (.exit 0)))) (Sq (Bk 1 (.ops Ws)) (.ops Wr))) [.tok 7 107])
def PY:RC:=QH
def Wq:List RI:=[omk 35 7,omk 6 35]
def r57:RC:=(So P1 (So Wx (Sq (So Ww (Kc 17 (Kk [1,2,17] (So Wv .ret)) (Kk [17] .skip))) (Sq (So Wu (Bk 0 (.pre [.tok 7 107] (.loop PY)))) (So Wq .ret)))))
def F57:FnC:=⟨r57,36,[.tmp 6],[0],[]⟩
def Wp:List RI:=[omk 5 0,omk 6 1,oo 7 (Ca 112 [.t 5,.t 6]) [5,6],oo 8 (Ca 90 [ci 1,.t 7]) [7],omk 4 8]
def r58:RC:=(So lB (So Wp .ret))
def F58:FnC:=⟨r58,9,[.tmp 4],[],[]⟩
def me:List RI:=[oo 2 (.mov (.c (.byt [] .clip))) [2]]
def Wo:List RI:=[on 18 (Ca 115 []),on 3 (.new (.arr 1 (am 64 [.int .u32 0]))),Sr 64 3 18 [18]]
def Wn:List RI:=[.own (xs 19 (.lit 1 [(.c (.int .u32 1779033703)),(.c (.int .u32 3144134277)),(.c (.int .u32 1013904242)),(.c (.int .u32 2773480762)),(.c (.int .u32 1359893119)),(.c (.int .u32 2600822924)),(.c (.int .u32 528734635)),(.c (.int .u32 1541459225))])) [],omk 4 19]
def Wm:List RI:=[omk 20 0,oo 21 (Ca 116 [.t 20]) [20],omk 5 21]
def Wj:List RI:=[om 22 6,om 23 5,oo 24 (Ln 23) [23],oo 25 (Bb .lss 22 24) [22,24]]
def Wi:List RI:=[on 7 (.new (.arr 1 (am 64 [.int .u32 0])))]
def Wh:List RI:=[om 28 8,oo 29 (Bc .lss 28 64) [28]]
def Wg:List RI:=[om 32 8,oo 33 (Bc .lss 32 16) [32]]
def IV:List RI:=[om 34 8,om 35 5,om 36 6,om 37 6,oo 38 (Bc .add 37 64) [37],oo 39 (.slcL 1 (.t 35) (some (.t 36)) (some (.t 38)) none) [35,36,38],om 40 8,oo 41 (Ca 117 [.t 39,.t 40]) [39,40],oo 42 (.iaddrA 64 1 (.t 7) (.t 34)) [34],Sr 1 42 41 [41,42]]
def IU:List FI:=[Fm 0 43 8,Fs 1 44 (Bc .sub 43 15),Fs 2 45 (.iaddrA 64 1 (.t 7) (.t 44)),Fs 3 46 (Ld 45),Fm 5 48 8,Fs 6 49 (Bc .sub 48 15),Fs 7 50 (.iaddrA 64 1 (.t 7) (.t 49)),Fs 8 51 (Ld 50),Fm 11 54 8,Fs 12 55 (Bc .sub 54 15),Fs 13 56 (.iaddrA 64 1 (.t 7) (.t 55)),Fs 14 57 (Ld 56),Fs 15 58 (.bin .shr (.t 57) (.c (.int .u64 3))),Fz 4 47 (Ca 118 [.t 46,(.c (.int .u64 7))]),Fz 9 52 (Ca 118 [.t 51,(.c (.int .u64 18))]),Fs 10 53 (Bb .xor 47 52),Fs 16 59 (Bb .xor 53 58),Fm 17 9 59]
def IT:List FI:=[Fm 0 60 8,Fs 1 61 (Bc .sub 60 2),Fs 2 62 (.iaddrA 64 1 (.t 7) (.t 61)),Fs 3 63 (Ld 62),Fm 5 65 8,Fs 6 66 (Bc .sub 65 2),Fs 7 67 (.iaddrA 64 1 (.t 7) (.t 66)),Fs 8 68 (Ld 67),Fm 11 71 8,Fs 12 72 (Bc .sub 71 2),Fs 13 73 (.iaddrA 64 1 (.t 7) (.t 72)),Fs 14 74 (Ld 73),Fs 15 75 (.bin .shr (.t 74) (.c (.int .u64 10))),Fz 4 64 (Ca 118 [.t 63,(.c (.int .u64 17))]),Fz 9 69 (Ca 118 [.t 68,(.c (.int .u64 19))]),Fs 10 70 (Bb .xor 64 69),Fs 16 76 (Bb .xor 70 75),Fm 17 10 76]
def IS:List FI:=[Fm 0 77 8,Fm 1 78 10,Fm 2 79 8,Fs 3 80 (Bc .sub 79 7),Fs 4 81 (.iaddrA 64 1 (.t 7) (.t 80)),Fs 5 82 (Ld 81),Fs 6 83 (Bb .add 78 82),Fm 7 84 9,Fs 8 85 (Bb .add 83 84),Fm 9 86 8,Fs 10 87 (Bc .sub 86 16),Fs 11 88 (.iaddrA 64 1 (.t 7) (.t 87)),Fs 12 89 (Ld 88),Fs 13 90 (Bb .add 85 89),Fs 14 91 (.iaddrA 64 1 (.t 7) (.t 77)),Fr 15 1 91 90]
def IR:List RI:=[omk 30 8,oo 31 (Bc .add 30 1) [30],omk 8 31]
def zy:RC:=(Sq (So Wh (Kc 29 (Kk [29] .skip) (Kk [8,29] (.exit 2)))) (Sq (Bk 3 (Sq (So Wg (Kc 33 (Kk [33] (So IV (.exit 3))) (Kk [33] .skip))) (Sq (.flt [0,1,3,7,15,0,32,96,224,511,1023,0,2048,6144,14336,30720,65535,131071] [] IU [43,44,45,46,47,48,49,50,51,52,53,54,55,56,57,58,59]) (Sq (.flt [0,1,3,7,15,0,32,96,224,511,1023,0,2048,6144,14336,30720,65535,131071] [] IT [60,61,62,63,64,65,66,67,68,69,70,71,72,73,74,75,76]) (.flt [0,0,0,4,12,28,62,0,254,0,512,1536,3584,8190,16383,32767] [] IS [9,10,77,78,79,80,81,82,83,84,85,86,87,88,89,90,91]))))) (.ops IR)))
def yu:RC:=zy
def IQ:List RI:=[on 92 (.lit 1 []),om 93 4,oo 94 (.app [.int .u32 0] 4 (.t 92) (.t 93)) [92,93],omk 11 94]
def IP:List RI:=[on 12 (Mc 0)]
def IN:List RI:=[om 95 12,oo 96 (Bc .lss 95 64) [95]]
def IM:List FI:=[Fm 0 99 11,Fs 1 100 (.iaddrL 1 (.t 99) (ci 0)),Fs 2 101 (Ld 100),Fm 3 102 11,Fs 4 103 (.iaddrL 1 (.t 102) (ci 4)),Fs 5 104 (Ld 103),Fm 6 13 101,Fm 7 14 104]
def IL:List FI:=[Fm 0 105 11,Fs 1 106 (.iaddrL 1 (.t 105) (ci 7)),Fs 2 107 (Ld 106),Fm 3 108 14,Fm 5 110 14,Fm 8 113 14,Fm 12 117 14,Fm 13 118 11,Fs 14 119 (.iaddrL 1 (.t 118) (ci 5)),Fs 15 120 (Ld 119),Fs 16 121 (Bb .and 117 120),Fm 17 122 14,Fs 18 123 (.un .xor (.t 122)),Fm 19 124 11,Fs 20 125 (.iaddrL 1 (.t 124) (ci 6)),Fs 21 126 (Ld 125),Fs 22 127 (Bb .and 123 126),Fs 23 128 (Bb .xor 121 127),Fm 25 130 12,Fs 26 131 (.iaddrA 64 1 (.t 3) (.t 130)),Fs 27 132 (Ld 131),Fm 29 134 12,Fs 30 135 (.iaddrA 64 1 (.t 7) (.t 134)),Fs 31 136 (Ld 135),Fz 4 109 (Ca 118 [.t 108,(.c (.int .u64 6))]),Fz 6 111 (Ca 118 [.t 110,(.c (.int .u64 11))]),Fs 7 112 (Bb .xor 109 111),Fz 9 114 (Ca 118 [.t 113,(.c (.int .u64 25))]),Fs 10 115 (Bb .xor 112 114),Fs 11 116 (Bb .add 107 115),Fs 24 129 (Bb .add 116 128),Fs 28 133 (Bb .add 129 132),Fs 32 137 (Bb .add 133 136),Fm 33 15 137]
def IK:List FI:=[Fm 0 138 13,Fm 2 140 13,Fm 5 143 13,Fm 8 146 13,Fm 9 147 11,Fs 10 148 (.iaddrL 1 (.t 147) (ci 1)),Fs 11 149 (Ld 148),Fs 12 150 (Bb .and 146 149),Fm 13 151 13,Fm 14 152 11,Fs 15 153 (.iaddrL 1 (.t 152) (ci 2)),Fs 16 154 (Ld 153),Fs 17 155 (Bb .and 151 154),Fs 18 156 (Bb .xor 150 155),Fm 19 157 11,Fs 20 158 (.iaddrL 1 (.t 157) (ci 1)),Fs 21 159 (Ld 158),Fm 22 160 11,Fs 23 161 (.iaddrL 1 (.t 160) (ci 2)),Fs 24 162 (Ld 161),Fs 25 163 (Bb .and 159 162),Fs 26 164 (Bb .xor 156 163),Fz 1 139 (Ca 118 [.t 138,(.c (.int .u64 2))]),Fz 3 141 (Ca 118 [.t 140,(.c (.int .u64 13))]),Fs 4 142 (Bb .xor 139 141),Fz 6 144 (Ca 118 [.t 143,(.c (.int .u64 22))]),Fs 7 145 (Bb .xor 142 144),Fs 27 165 (Bb .add 145 164),Fm 28 16 165]
def IJ:List FI:=[Fm 0 166 15,Fm 1 167 16,Fs 2 168 (Bb .add 166 167),Fm 3 169 13,Fm 4 170 11,Fs 5 171 (.iaddrL 1 (.t 170) (ci 1)),Fs 6 172 (Ld 171),Fm 7 173 11,Fs 8 174 (.iaddrL 1 (.t 173) (ci 2)),Fs 9 175 (Ld 174),Fm 10 176 11,Fs 11 177 (.iaddrL 1 (.t 176) (ci 3)),Fs 12 178 (Ld 177),Fm 13 179 15,Fs 14 180 (Bb .add 178 179),Fm 15 181 14,Fm 16 182 11,Fs 17 183 (.iaddrL 1 (.t 182) (ci 5)),Fs 18 184 (Ld 183),Fm 19 185 11,Fs 20 186 (.iaddrL 1 (.t 185) (ci 6)),Fs 21 187 (Ld 186),Fs 22 188 (.lit 1 [.t 168,.t 169,.t 172,.t 175,.t 180,.t 181,.t 184,.t 187]),⟨23,false,(xm 11 188)⟩]
def II:List RI:=[omk 97 12,oo 98 (Bc .add 97 1) [97],omk 12 98]
def zx:RC:=(Sq (So IN (Kc 96 (Kk [96] .skip) (Kk [7,12,96] (.exit 4)))) (Sq (Bk 5 (Sq (.flt [0,1,3,0,8,24,7,127] [] IM [99,100,101,102,103,104]) (Sq (.flt [0,1,3,0,8,0,56,120,0,376,1016,2047,0,0,8192,24576,61440,0,131072,0,524288,1572864,4063232,8384512,16777215,0,33554432,100663296,268435455,0,536870912,1610612736,4294967295,8589934591] [] IL [105,106,107,108,109,110,111,112,113,114,115,116,117,118,119,120,121,122,123,124,125,126,127,128,129,130,131,132,133,134,135,136,137]) (Sq (.flt [0,1,0,7,15,0,47,127,0,0,512,1536,3840,0,0,16384,49152,122880,261888,0,524288,1572864,0,4194304,12582912,33030144,67108608,134217727,268435455] [] IK [138,139,140,141,142,143,144,145,146,147,148,149,150,151,152,153,154,155,156,157,158,159,160,161,162,163,164,165]) (.flt [0,0,3,0,0,16,48,0,128,384,0,1024,3072,0,15360,0,0,65536,196608,0,524288,1572864,4194303,8388607] [] IJ [13,14,15,16,166,167,168,169,170,171,172,173,174,175,176,177,178,179,180,181,182,183,184,185,186,187,188]))))) (.ops II)))
def yr:RC:=zx
def yq:List RI:=[on 17 (Mc 0)]
def IH:List RI:=[om 189 17,oo 190 (Bc .lss 189 8) [189]]
def IG:List FI:=[Fm 0 193 4,Fm 1 194 17,Fs 2 195 (Ia 1 193 194),Fs 3 196 (Ld 195),Fm 4 197 11,Fm 5 198 17,Fs 6 199 (Ia 1 197 198),Fs 7 200 (Ld 199),Fs 8 201 (Bb .add 196 200),Fs 9 202 (Ia 1 193 194),Fr 10 1 202 201]
def IF:List RI:=[omk 191 17,oo 192 (Bc .add 191 1) [191],omk 17 192]
def zw:RC:=(Sq (So IH (Kc 190 (Kk [190] .skip) (Kk [11,17,190] (.exit 6)))) (Sq (Bk 7 (.flt [0,0,3,7,0,0,48,112,255,511,1023] [] IG [193,194,195,196,197,198,199,200,201,202])) (.ops IF)))
def yp:RC:=zw
def IE:List RI:=[omk 26 6,oo 27 (Bc .add 26 64) [26],omk 6 27]
def zu:RC:=(.post (Sq (So Wj (Kc 25 (Kk [25] .skip) (Kk [3,5,6,25] (.exit 0)))) (Sq (Bk 1 (So Wi (Sq (So oc (Bk 2 (.loop yu))) (So IQ (Sq (So IP (Bk 4 (.loop yr))) (So yq (Bk 6 (.loop yp)))))))) (.ops IE))) [.gc [107,194]])
def yo:RC:=zu
def ID:List RI:=[omk 203 4,oo 204 (Ca 119 [.t 203]) [203],omk 2 204]
def r65:RC:=(So me (So Wo (So Wn (So Wm (Sq (So lh (Bk 0 (.loop yo))) (So ID .ret))))))
def F65:FnC:=⟨r65,205,[.tmp 2],[],[]⟩
def Wf:List RI:=[om 8 0,oo 9 (Ln 8) [8],oo 10 (Bc .eql 9 0) [9],omk 11 10,.grp 11 false [(xi 12 11 false (Mv 0)),(xi 13 11 false (Ln 12)),(xi 14 11 false (Bc .gtr 13 8))] [12,13],oo 15 (Pt 11 14) [11,14]]
def We:List RI:=[on 3 (Mb false),on 4 (Mb false)]
def Wd:List RI:=[om 16 5,om 17 0,oo 18 (Ln 17) [17],oo 19 (Bb .lss 16 18) [16,18]]
def Wc:List RI:=[om 22 0,om 23 5,oo 24 (Ia 4 22 23) [22,23],oo 25 (Lt 4 24) [24],oo 26 (Ca 100 [.t 25]) [25],omk 6 26]
def Wb:List RI:=[om 27 6,oo 28 (Bc .neq 27 0) [27]]
def Wa:List RI:=[omk 29 6,omk 2 29]
def V9:List FI:=[Fm 0 30 5,Fs 1 31 (Bc .gtr 30 0),Fm 2 32 31,Fi 3 33 32 true (Mv 0),Fi 4 34 32 true (Mv 5),Fi 5 35 32 true (Ia 4 33 34),Fi 6 36 32 true (Fa 0 35),Fi 7 37 32 true (Ld 36),Fi 8 38 32 true (Mv 0),Fi 9 39 32 true (Mv 5),Fi 10 40 32 true (Bc .sub 39 1),Fi 11 41 32 true (Ia 4 38 40),Fi 12 42 32 true (Fa 0 41),Fi 13 43 32 true (Ld 42),Fi 14 44 32 true (Bb .lss 37 43),Fs 15 45 (Pf 32 44)]
def IC:List RI:=[om 46 7,om 47 5,oo 48 (Bb .lss 46 47) [46,47]]
def IB:List FI:=[Fm 0 51 0,Fm 1 52 7,Fs 2 53 (Ia 4 51 52),Fs 3 54 (Fa 0 53),Fs 4 55 (Ld 54),Fm 5 56 0,Fm 6 57 5,Fs 7 58 (Ia 4 56 57),Fs 8 59 (Fa 0 58),Fs 9 60 (Ld 59),Fs 10 61 (Bb .eql 55 60),Fm 11 62 61,Fi 12 63 62 true (Mv 0),Fi 13 64 62 true (Mv 7),Fi 14 65 62 true (Ia 4 63 64),Fi 15 66 62 true (Fa 1 65),Fi 16 67 62 true (Ld 66),Fi 17 68 62 true (Mv 0),Fi 18 69 62 true (Mv 5),Fi 19 70 62 true (Ia 4 68 69),Fi 20 71 62 true (Fa 1 70),Fi 21 72 62 true (Ld 71),Fi 22 73 62 true (Bb .eql 67 72),Fs 23 74 (Pf 62 73)]
def IA:List RI:=[on 2 (Mc 42)]
def Iz:List RI:=[omk 49 7,oo 50 (Bc .add 49 1) [49],omk 7 50]
def zt:RC:=(Sq (So IC (Kc 48 (Kk [48] .skip) (Kk [7,48] (.exit 2)))) (Sq (Bk 3 (Sq (.flt [0,0,3,7,15,0,0,96,224,480,1023,2047,4095,4095,16383,32767,65535,4095,4095,397311,921599,1970175,4194303,8388607] [] IB [51,52,53,54,55,56,57,58,59,60,61,62,63,64,65,66,67,68,69,70,71,72,73]) (Kc 74 (Kk [0,3,4,5,7,74] (So IA .ret)) (Kk [74] .skip)))) (.ops Iz)))
def yn:RC:=zt
def Iy:List RI:=[omk 75 3,omk 76 75,.grp 76 false [(xi 77 76 false (Mv 0)),(xi 78 76 false (Mv 5)),(xi 79 76 false (Ia 4 77 78)),(xi 80 76 false (Fa 0 79)),(xi 81 76 false (Ld 80)),(xi 82 76 false (Bc .eql 81 1))] [77,78,79,80,81],oo 83 (Pt 76 82) [76,82],omk 3 83]
def Ix:List RI:=[omk 84 4,omk 85 84,.grp 85 false [(xi 86 85 false (Mv 0)),(xi 87 85 false (Mv 5)),(xi 88 85 false (Ia 4 86 87)),(xi 89 85 false (Fa 0 88)),(xi 90 85 false (Ld 89)),(xi 91 85 false (Bc .eql 90 3))] [86,87,88,89,90],oo 92 (Pt 85 91) [85,91],omk 4 92]
def Iw:List RI:=[omk 20 5,oo 21 (Bc .add 20 1) [20],omk 5 21]
def zr:RC:=(Sq (So Wd (Kc 19 (Kk [19] .skip) (Kk [0,5,19] (.exit 0)))) (Sq (Bk 1 (Sq (So Wc (So Wb (Kc 28 (Kk [0,3,4,5,28] (So Wa .ret)) (Kk [6,28] .skip)))) (Sq (Sq (.flt [0,1,3,7,7,31,63,127,7,7,519,1799,3847,7943,16383,32767] [] V9 [30,31,32,33,34,35,36,37,38,39,40,41,42,43,44]) (Kc 45 (Kk [0,3,4,5,45] (So ut .ret)) (Kk [45] .skip))) (Sq (So uo (Bk 2 (.loop yn))) (So Iy (.ops Ix)))))) (.ops Iw)))
def ui:RC:=zr
def Iv:List RI:=[omk 93 3,oo 94 (.un .not (.t 93)) [93],omk 95 94,.grp 95 false [(xi 96 95 false (Mv 4)),(xi 97 95 false (.un .not (.t 96)))] [4,96],oo 98 (Pt 95 97) [95,97]]
def uh:List RI:=[on 2 (Mc 40)]
def r67:RC:=(So jJ (Sq (So Wf (Kc 15 (Kk [0,15] (So gE .ret)) (Kk [15] .skip))) (So We (Sq (So jK (Bk 0 (.loop ui))) (Sq (So Iv (Kc 98 (Kk [98] (So uh .ret)) (Kk [98] .skip))) (So iC .ret))))))
def F67:FnC:=⟨r67,99,[.tmp 2],[],[]⟩
def V8:List RI:=[on 8 (.new (.rc Zq2))]
def V7:List RI:=[omk 11 0,om 12 1,on 13 (.mk [(.byt [] .no)] 24 (ci 2) (ci 2)),om 14 3,oo 15 (.build Zq2 [(0,1,(.t 11)),(1,1,(.t 12)),(2,1,(.t 13)),(3,1,(.t 14))]) [11,12,13,14],on 9 (.new (.rc Zq2)),Sr 4 9 15 [15]]
def V6:List RI:=[om 16 10,oo 17 (Bc .lss 16 2) [16]]
def V5:List RI:=[om 20 2,om 21 10,oo 22 (Ca 120 [.t 20,.t 21]) [20,21],omk 23 22,.grp 23 true [(xi 24 23 true (Mv 1)),(xi 25 23 true (Bc .neq 24 5))] [24],oo 26 (Pf 23 25) [23,25]]
def V4:List FI:=[Fs 0 27 (Fa 2 9),Fs 1 28 (Ld 27),Fm 2 29 10,Fm 3 30 10,Fm 4 31 3,Fz 5 32 (Ca 121 [.t 30,.t 31]),Fs 6 33 (Ia 1 28 29),Fr 7 1 33 32]
def V2:List RI:=[omk 18 10,oo 19 (Bc .add 18 1) [18],omk 10 19]
def QG:RC:=(Sq (So V6 (Kc 17 (Kk [17] .skip) (Kk [1,2,3,10,17] (.exit 0)))) (Sq (Bk 1 (So V5 (Kc 26 (Kk [26] (.flt [0,1,0,0,0,24,63,127] [] V4 [27,28,29,30,31,32,33])) (Kk [26] .skip)))) (.ops V2)))
def V1:RC:=QG
def V0:List RI:=[oo 34 (Lt 4 9) [9],Sr 4 8 34 [34]]
def r68:RC:=(So V8 (So V7 (Sq (So yD (Bk 0 (.loop V1))) (So V0 .ret))))
def F68:FnC:=⟨r68,35,[.cell 8 4 true],[],[]⟩
def VZ:List RI:=[oo 0 (.mov (.c (.byt [] .clip))) [0]]
def VY:List RI:=[on 1 (.litB [(.c (.u8 0)),(.c (.u8 0)),(.c (.u8 0)),(.c (.u8 0))]),omk 0 1]
def r69:RC:=(So VZ (So VY .ret))
def F69:FnC:=⟨r69,2,[.tmp 0],[],[]⟩
def PX:List RI:=[oo 1 (.box (.t 0)) [0],oo 2 (.mov (.c (.lst 1 [] .clip))) [2]]
def PW:List RI:=[on 3 (.mov (.c (.lst 1 [] .clip)))]
def VX:List RI:=[om 7 5,on 8 (Fa 3 1),oo 9 (Ld 8) [8],oo 10 (Ln 9) [9],oo 11 (Bb .lss 7 10) [7,10]]
def VW:List RI:=[on 14 (Fa 3 1),oo 15 (Ld 14) [14],om 16 5,oo 17 (Ia 1 15 16) [15,16],oo 18 (Ld 17) [17],omk 6 18]
def VV:List RI:=[om 19 6,oo 20 (.bin .eql (.t 19) (.c (.u8 10))) [19]]
def VU:List RI:=[om 21 4,oo 22 (Ln 21) [21],oo 23 (Bc .eql 22 0) [22],omk 24 23,.grp 24 false [(xi 25 24 false (Mv 3)),(xi 26 24 false (Ln 25)),(xi 27 24 false (Bc .geq 26 4))] [25,26],oo 28 (Pt 24 27) [24,27]]
def xa:List RI:=[on 2 (.mov (.c (.lst 1 [] .clip)))]
def VT:List RI:=[omk 29 3,omk 30 4,oo 31 (.lit 1 [.t 30]) [30],oo 32 (.app [.byt [] .clip] 24 (.t 29) (.t 31)) [29,31],omk 3 32]
def Iu:List RI:=[om 33 6,oo 34 (.bin .lss (.t 33) (.c (.u8 32))) [33],omk 35 34,.grp 35 false [(xi 36 35 false (Mv 6)),(xi 37 35 false (.bin .gtr (.t 36) (.c (.u8 126))))] [36],oo 38 (Pt 35 37) [35,37]]
def It:List RI:=[omk 39 4,omk 40 6,oo 41 (.litB [.t 40]) [40],oo 42 (.app [.u8 0] 1 (.t 39) (.t 41)) [39,41],omk 4 42]
def Is:List RI:=[omk 12 5,oo 13 (Bc .add 12 1) [12],omk 5 13]
def zq:RC:=(.post (Sq (So VX (Kc 11 (Kk [11] .skip) (Kk [1,5,11] (.exit 0)))) (Sq (Bk 1 (So VW (Sq (So VV (Kc 20 (Kk [6,20] (Sq (So VU (Kc 28 (Kk [1,3,4,5,28] (So xa .ret)) (Kk [28] .skip))) (So VT (So kM (.exit 1))))) (Kk [20] .skip))) (Sq (So Iu (Kc 38 (Kk [1,3,4,5,6,38] (So xa .ret)) (Kk [38] .skip))) (.ops It))))) (.ops Is))) [.tok 3 103,.tok 4 104])
def ym:RC:=zq
def Ir:List RI:=[omk 43 4,oo 44 (Ln 43) [43],oo 45 (Bc .gtr 44 0) [44]]
def Iq:List RI:=[omk 46 3,omk 2 46]
def r70:RC:=(So PX (So PW (So kM (Sq (So jK (Bk 0 (.pre [.tok 3 103,.tok 4 104] (.loop ym)))) (Sq (So Ir (Kc 45 (Kk [3,45] (So xa .ret)) (Kk [45] .skip))) (So Iq .ret))))))
def F70:FnC:=⟨r70,47,[.tmp 2],[],[]⟩
def VS:List FI:=[Fm 0 5 0,Fs 1 6 (.nchk (.t 5)),Fs 2 7 (Fa 1 6),Fs 3 8 (Ld 7),Fm 4 9 0,Fs 5 10 (.nchk (.t 9)),Fs 6 11 (Fa 0 10),Fs 7 12 (Ld 11),Fs 8 13 (Ln 12),Fs 9 14 (Bb .geq 8 13)]
def VR:List RI:=[om 15 0,on 16 (.nchk (.t 15)),oo 17 (Fa 1 16) [16],oo 18 (Ld 17) [17],oo 19 (Bc .add 18 1) [18],oo 20 (.nchk (.t 15)) [15],oo 21 (Fa 1 20) [20],Sr 1 21 19 [19,21]]
def VQ:List FI:=[Fm 0 22 0,Fs 1 23 (.nchk (.t 22)),Fs 2 24 (Fa 0 23),Fs 3 25 (Ld 24),Fm 4 26 0,Fs 5 27 (.nchk (.t 26)),Fs 6 28 (Fa 1 27),Fs 7 29 (Ld 28),Fs 8 30 (Bc .sub 29 1),Fs 9 31 (Ia 1 25 30),Fs 10 32 (Ld 31),Fs 11 33 (.toInt .i64 (.t 32)),Fm 12 34 1,Fs 13 35 (Bb .rem 33 34),Fm 14 4 35]
def r71:RC:=(So oP (Sq (Sq (.flt [0,1,3,7,0,16,48,112,240,511] [] VS [5,6,7,8,9,10,11,12,13]) (Kc 14 (Kk [0,1,14] (So lD .ret)) (Kk [14] .skip))) (So VR (Sq (.flt [0,1,3,7,0,16,48,112,240,511,1023,2047,0,8191,16383] [] VQ [0,1,22,23,24,25,26,27,28,29,30,31,32,33,34,35]) .ret))))
def F71:FnC:=⟨r71,36,[.tmp 4],[],[]⟩
def VP:List RI:=[on 4 (.new (.rc Zq0))]
def VO:List FI:=[Fm 0 7 1,Fm 2 9 0,Fm 5 12 0,Fz 1 8 (Ca 122 []),Fz 3 10 (Ca 71 [.t 9,ci 5]),Fs 4 11 (.idxA 5 1 false (.t 8) (.t 10)),Fz 6 13 (Ca 71 [.t 12,ci 5]),Fs 7 14 (.build Zq0 [(0,1,(.t 7)),(1,1,(.t 11)),(2,1,(.t 13))]),Fz 8 5 (.new (.rc Zq0)),Fr 9 4 5 14]
def VN:List RI:=[om 15 0,oo 16 (Ca 71 [.t 15,ci 9]) [15],oo 17 (Bc .eql 16 8) [16]]
def VM:List RI:=[om 18 0,oo 19 (Ca 71 [.t 18,ci 3]) [18],oo 20 (.bin .sub (ci 1000000) (.t 19)) [19],on 21 (Fa 2 5),Sr 1 21 20 [20,21]]
def VL:List RI:=[omk 22 1,oo 23 (Bc .eql 22 4) [22]]
def VK:List RI:=[omk 24 0,oo 25 (Ca 123 [.t 24]) [24],on 26 (Fa 3 5),Sr 1 26 25 [25,26]]
def VJ:List RI:=[oo 27 (Lt 4 5) [5],Sr 4 4 27 [27]]
def VI:List RI:=[om 28 0,oo 29 (Ca 71 [.t 28,ci 7]) [28],oo 30 (.mkB (.t 29) (.t 29)) [29],on 31 (Fa 3 5),Sr 1 31 30 [30,31]]
def VH:List RI:=[om 32 6,on 33 (Fa 3 5),oo 34 (Ld 33) [33],oo 35 (Ln 34) [34],oo 36 (Bb .lss 32 35) [32,35]]
def Ip:List FI:=[Fs 0 39 (Fa 3 5),Fs 1 40 (Ld 39),Fm 2 41 6,Fm 3 42 0,Fz 4 43 (Ca 71 [.t 42,ci 256]),Fs 5 44 (.toInt .u8 (.t 43)),Fs 6 45 (Ia 1 40 41),Fr 7 1 45 44]
def Io:List RI:=[omk 37 6,oo 38 (Bc .add 37 1) [37],omk 6 38]
def zp:RC:=(Sq (So VH (Kc 36 (Kk [36] .skip) (Kk [0,6,36] (.exit 0)))) (Sq (Bk 1 (.flt [0,1,0,0,8,24,63,127] [] Ip [39,40,41,42,43,44,45])) (.ops Io)))
def ug:RC:=zp
def In:List RI:=[oo 46 (Lt 4 5) [5],Sr 4 4 46 [46]]
def r72:RC:=(So VP (Sq (.fla [0,0,0,6,14,0,46,127,0,511] [105] VO [[0,2,5,1,3,4,6,7,8,9],[0,2,5,1,3,4,8,6,7,9],[0,2,5,1,8,3,4,6,7,9],[0,2,5,8,1,3,4,6,7,9]] [7,8,9,10,11,12,13,14]) (Sq (So VN (Kc 17 (Kk [17] (.ops VM)) (Kk [17] .skip))) (Sq (So VL (Kc 23 (Kk [23] (So VK (So VJ .ret))) (Kk [23] .skip))) (So VI (Sq (So lh (Bk 0 (.loop ug))) (So In .ret)))))))
def F72:FnC:=⟨r72,47,[.cell 4 4 true],[],[]⟩
def VG:List RI:=[on 4 (.build [.str [],.str [],.str [],.str [],.str [],.str []] [(0,1,(.c (.str [97,61,49]))),(1,1,(.c (.str [99,111,117,110,116,61,53]))),(2,1,(.c (.str [99,111,117,110,116,61,49,55]))),(3,1,(.c (.str [104,111,115,116,61,120]))),(4,1,(.c (.str [109,111,100,101,32,98]))),(5,1,(.c (.str [126])))]),on 3 (.new (.arr 1 (am 6 [.str []]))),Sr 6 3 4 [4]]
def VF:List RI:=[omk 5 0,oo 6 (Ca 71 [.t 5,ci 6]) [5],oo 7 (.iaddrA 6 1 (.t 3) (.t 6)) [3,6],oo 8 (Ld 7) [7],oo 9 (.s2b (.t 8)) [8],omk 2 9]
def r73:RC:=(So me (So VG (So VF .ret)))
def F73:FnC:=⟨r73,10,[.tmp 2],[],[]⟩
def VE:List RI:=[oo 4 (.mov (.c (.lst 1 [] .clip))) [4]]
def PV:List RI:=[on 8 (.mk [(.byt [] .no)] 24 (ci 2) (ci 2)),omk 5 8]
def VD:List RI:=[om 9 6,oo 10 (Bc .lss 9 2) [9]]
def VC:List RI:=[om 13 0,om 14 6,oo 15 (.toInt .u64 (.t 14)) [14],oo 16 (Bb .shr 13 15) [13,15],oo 17 (Bc .and 16 1) [16],oo 18 (Bc .eql 17 1) [17]]
def VB:List RI:=[om 19 6,oo 20 (.bin .mul (ci 12) (.t 19)) [19],oo 21 (.bin .add (ci 20) (.t 20)) [20],oo 22 (.mkB (.t 21) (.t 21)) [21],omk 7 22]
def VA:List RI:=[om 23 7,om 24 1,oo 25 (.cpy 1 (.t 23) (.t 24)) [23,24,25]]
def Vz:List RI:=[om 26 7,oo 27 (Ln 26) [26],oo 28 (Bc .gtr 27 0) [27]]
def Vy:List RI:=[om 29 7,om 30 7,oo 31 (Ln 30) [30],oo 32 (Bc .sub 31 1) [31],on 33 (Ia 1 29 32),oo 34 (Ld 33) [33],om 35 6,oo 36 (.toInt .u8 (.t 35)) [35],oo 37 (Bb .xor 34 36) [34,36],oo 38 (Ia 1 29 32) [29,32],Sr 1 38 37 [37,38]]
def Vx:List RI:=[om 39 5,om 40 6,omk 41 7,oo 42 (Ia 1 39 40) [39,40],.dir (.pub 41),Sr 1 42 41 [41,42]]
def Im:List RI:=[omk 11 6,oo 12 (Bc .add 11 1) [11],omk 6 12]
def zo:RC:=(Sq (So VD (Kc 10 (Kk [10] .skip) (Kk [0,1,6,10] (.exit 0)))) (Sq (Bk 1 (So VC (Kc 18 (Kk [18] (So VB (So VA (Sq (So Vz (Kc 28 (Kk [28] (.ops Vy)) (Kk [28] .skip))) (.ops Vx))))) (Kk [18] .skip)))) (.ops Im)))
def Il:RC:=zo
def Ik:List RI:=[omk 43 5,omk 4 43]
def r74:RC:=(So VE (So PV (Sq (So lh (Bk 0 (.loop Il))) (So Ik .ret))))
def F74:FnC:=⟨r74,44,[.tmp 4],[],[]⟩
def PU:List RI:=[om 6 0,oo 7 (Ln 6) [6],on 8 (Mc 0)]
def EM:List RI:=[on 9 (Bb .lss 8 7)]
def PT:List RI:=[om 10 8,omk 5 10]
def PS:List RI:=[om 11 1,om 12 0,om 13 5,oo 14 (Ia 4 12 13) [12,13],oo 15 (Lt 4 14) [14],oo 16 (.call (.t 11) [.t 15]) [11,15]]
def PR:List RI:=[omk 17 5,omk 4 17]
def PQ:List RI:=[oo 18 (Bc .add 8 1) [8],omk 8 18]
def QF:RC:=(So EM (Sq (Kc 9 (Kk [9] .skip) (Kk [0,1,7,8,9] (.exit 0))) (Sq (Bk 1 (So PT (So PS (Kc 16 (Kk [0,1,7,8,16] (So PR .ret)) (Kk [5,16] .skip))))) (.ops PQ))))
def PP:RC:=QF
def r75:RC:=(So oP (Sq (So PU (Bk 0 (.loop PP))) (So mf .ret)))
def F75:FnC:=⟨r75,19,[.tmp 4],[],[]⟩
def PO:List RI:=[oo 2 (.box (.t 0)) [0],oo 3 (Mb false) [3]]
def Vw:List FI:=[Fs 0 4 (Fa 0 1),Fs 1 5 (Ld 4),Fs 2 6 (Fa 0 2),Fs 3 7 (Ld 6),Fz 4 8 (Ca 33 [.t 7]),Fs 5 9 (Bb .eql 5 8),Fm 6 10 9,Fi 7 11 10 true (Fa 2 1),Fi 8 12 10 true (Ld 11),Fi 9 13 10 true (Ln 12),Fi 10 14 10 true (Bc .gtr 13 1),Fs 11 15 (Pf 10 14),Fm 12 16 15,Fi 13 17 16 true (Fa 2 1),Fi 14 18 16 true (Ld 17),Fi 15 19 16 true (.iaddrL 1 (.t 18) (ci 1)),Fi 16 20 16 true (Ld 19),Fi 17 21 16 true (Fa 3 2),Fi 18 22 16 true (Ld 21),Fy 19 23 16 true (Ca 77 [.t 20,.t 22]),Fs 20 24 (Pf 16 23),Fm 21 25 24,Fi 22 26 25 true (Fa 3 1),Fi 23 27 25 true (Ld 26),Fi 24 28 25 true (.b2s (.t 27)),Fi 25 29 25 true (Fa 1 2),Fi 26 30 25 true (Ld 29),Fi 27 31 25 true (.bin .add (.t 30) (.c (.str [32]))),Fi 28 32 25 true (Fa 2 2),Fi 29 33 25 true (Ld 32),Fy 30 34 25 true (Ca 78 [.t 33]),Fi 31 35 25 true (Bb .add 31 34),Fi 32 36 25 true (Bb .eql 28 35),Fs 33 37 (Pf 25 36),Fm 34 3 37]
def r76:RC:=(So PO (Sq (.flt [0,1,0,4,12,31,63,127,255,511,1023,2047,4095,8191,16383,32767,65535,8191,139263,524287,1048575,2097151,4194303,8388607,16777215,4194303,37748735,104857599,4194303,272629759,809500671,2118123519,4294967295,8589934591,17179869183] [] Vw [1,2,4,5,6,7,8,9,10,11,12,13,14,15,16,17,18,19,20,21,22,23,24,25,26,27,28,29,30,31,32,33,34,35,36,37]) .ret))
def F76:FnC:=⟨r76,38,[.tmp 3],[],[]⟩
def Vv:List RI:=[omk 5 0,oo 6 (.b2s (.t 5)) [5],omk 7 1,oo 8 (.b2s (.t 7)) [7],oo 9 (Bb .eql 6 8) [6,8],omk 4 9]
def r77:RC:=(So oO (So Vv .ret))
def F77:FnC:=⟨r77,10,[.tmp 4],[],[]⟩
def EL:List RI:=[oo 2 (.mov (.c (.str []))) [2]]
def Vu:List RI:=[omk 3 0,oo 4 (Ca 124 [.t 3]) [3],omk 2 4]
def r78:RC:=(So EL (So Vu .ret))
def F78:FnC:=⟨r78,5,[.tmp 2],[],[]⟩
def PN:List RI:=[oo 1 (.box (.t 0)) [0],oo 2 (Mb false) [2]]
def Vt:List RI:=[on 8 (Fa 1 1),oo 9 (Ld 8) [8],oo 10 (Bc .neq 9 1) [9],omk 11 10,.grp 11 true [(xi 12 11 true (Fa 1 1)),(xi 13 11 true (Ld 12)),(xi 14 11 true (Bc .neq 13 5))] [12,13],oo 15 (Pf 11 14) [11,14],omk 3 15]
def Vs:List RI:=[on 16 (Fa 1 1),oo 17 (Ld 16) [16]]
def Vr:List RI:=[on 19 (Bc .eql 17 1),omk 18 19]
def Vq:List RI:=[on 21 (Bc .eql 17 2),omk 20 21]
def Vp:List FI:=[Fs 0 22 (Fa 3 1),Fs 1 23 (Ld 22),Fz 2 24 (.mkB (ci 4) (ci 4)),Fz 3 25 (Ca 77 [.t 23,.t 24]),Fs 4 26 (.un .not (.t 25))]
def Vo:List RI:=[on 28 (Bc .eql 17 3),omk 27 28]
def Vn:List RI:=[on 29 (Fa 3 1),oo 30 (Ld 29) [29],oo 31 (Ln 30) [30],oo 32 (Bc .eql 31 0) [31]]
def Ij:List RI:=[on 33 (Fa 3 1),oo 34 (Ld 33) [33],on 35 (Ln 34),on 36 (Mc 0)]
def Ii:List RI:=[on 37 (Bb .lss 36 35)]
def Ih:List RI:=[on 38 (Ia 1 34 36),oo 39 (Ld 38) [38],omk 5 39]
def Ig:List RI:=[om 40 5,oo 41 (.bin .lss (.t 40) (.c (.u8 32))) [40],omk 42 41,.grp 42 false [(xi 43 42 false (Mv 5)),(xi 44 42 false (.bin .gtr (.t 43) (.c (.u8 126))))] [5,43],oo 45 (Pt 42 44) [42,44]]
def If:List RI:=[oo 46 (Bc .add 36 1) [36],omk 36 46]
def zm:RC:=(So Ii (Sq (Kc 37 (Kk [37] .skip) (Kk [34,35,36,37] (.exit 1))) (Sq (Bk 2 (So Ih (So Ig (Kc 45 (Kk [1,3,34,35,36,45] (So jI .ret)) (Kk [45] .skip))))) (.ops If))))
def yl:RC:=zm
def Ie:List RI:=[on 48 (Bc .eql 17 4),omk 47 48]
def Ic:List RI:=[oo 49 (Bc .eql 17 5) [17],omk 47 49]
def Ib:List RI:=[on 50 (Fa 2 1),oo 51 (Ld 50) [50],oo 52 (Ln 51) [51],oo 53 (.mini (.t 52) (ci 2)) [52],on 54 (Mc 0)]
def H9:List RI:=[on 55 (Bb .lss 54 53)]
def H8:List RI:=[om 56 54,omk 6 56]
def H7:List RI:=[on 57 (Fa 2 1),oo 58 (Ld 57) [57],om 59 6,oo 60 (Ia 1 58 59) [58,59],oo 61 (Ld 60) [60],omk 7 61]
def H6:List RI:=[om 62 7,oo 63 (Ln 62) [62],oo 64 (Bc .gtr 63 0) [63],omk 65 64,.grp 65 true [(xi 66 65 true (Mv 3)),(xi 67 65 true (.un .not (.t 66))),(xi 68 65 true (Mv 67))] [66,67],.grp 68 false [(xi 69 68 false (Mv 7)),(xi 70 68 false (Mv 6)),(xi 71 68 false (Fa 3 1)),(xi 72 68 false (Ld 71)),(xi 73 68 false (Ca 90 [.t 70,.t 72])),(xi 74 68 false (Ca 77 [.t 69,.t 73])),(xi 75 68 false (.un .not (.t 74)))] [6,7,69,70,71,72,73,74],.grp 65 true [(xi 76 65 true (Pt 68 75))] [68,75],oo 77 (Pf 65 76) [65,76]]
def H5:List RI:=[oo 78 (Bc .add 54 1) [54],omk 54 78]
def zl:RC:=(So H9 (Sq (Kc 55 (Kk [55] .skip) (Kk [1,3,53,54,55] (.exit 3))) (Sq (Bk 4 (So H8 (So H7 (So H6 (Kc 77 (Kk [1,3,53,54,77] (So jI .ret)) (Kk [77] .skip)))))) (.ops H5))))
def yk:RC:=zl
def r79:RC:=(So PN (So Vt (Sq (So Vs (Bk 0 (So Vr (Kc 18 (Kk [1,3,17,18] (So lU .ret)) (Kk [18] (So Vq (Kc 20 (Kk [17,20] (Sq (.flt [0,1,0,7,15] [124] Vp [22,23,24,25]) (Kc 26 (Kk [1,3,26] (So jI .ret)) (Kk [26] .skip)))) (Kk [20] (So Vo (Kc 27 (Kk [17,27] (Sq (So Vn (Kc 32 (Kk [1,3,32] (So jI .ret)) (Kk [32] .skip))) (So Ij (Bk 1 (.loop yl))))) (Kk [27] (Sq (So Ie (Kc 47 (Kk [17] .skip) (Kk [47] (.ops Ic)))) (Kc 47 (Kk [47] .skip) (Kk [1,3,47] (So jI .ret))))))))))))))) (Sq (So Ib (Bk 3 (.loop yk))) (So lU .ret)))))
def F79:FnC:=⟨r79,79,[.tmp 2],[],[]⟩
def QD:RC:=(So EM (Sq (Kc 9 (Kk [9] .skip) (Kk [0,1,7,8,9] (.exit 0))) (Sq (Bk 1 (So PT (So PS (Kc 16 (Kk [0,1,7,8,16] (So PR .ret)) (Kk [5,16] .skip))))) (.ops PQ))))
def PK:RC:=QD
def r80:RC:=(So oP (Sq (So PU (Bk 0 (.loop PK))) (So mf .ret)))
def F80:FnC:=⟨r80,19,[.tmp 4],[],[]⟩
def Vl:List RI:=[oo 4 (Lt 4 2) [2],oo 5 (Fa 3 1) [1],oo 6 (Ld 5) [5],oo 7 (Ca 35 [.t 4,.t 6]) [4,6],omk 3 7]
def r81:RC:=(So PO (So Vl .ret))
def F81:FnC:=⟨r81,8,[.tmp 3],[],[]⟩
def PJ:List RI:=[omk 3 0]
def Vk:List RI:=[on 5 (Bc .eql 3 1),omk 4 5]
def Vj:List RI:=[on 7 (Bc .eql 3 2),omk 6 7]
def Vi:List RI:=[on 9 (Bc .eql 3 3),omk 8 9]
def Vh:List RI:=[on 2 (Mc 8)]
def Vg:List RI:=[oo 11 (Bc .eql 3 4) [3],omk 10 11]
def Vf:List RI:=[on 2 (Mc 9)]
def r82:RC:=(So jJ (Sq (So PJ (Bk 0 (So Vk (Kc 4 (Kk [3,4] (So iC .ret)) (Kk [4] (So Vj (Kc 6 (Kk [3,6] (So oR .ret)) (Kk [6] (So Vi (Kc 8 (Kk [3,8] (So Vh .ret)) (Kk [8] (So Vg (Kc 10 (Kk [10] (So Vf .ret)) (Kk [10] .skip)))))))))))))) (So xb .ret)))
def F82:FnC:=⟨r82,12,[.tmp 2],[],[]⟩
def Ve:List RI:=[on 4 (Fa 1 1),oo 5 (Ld 4) [4],oo 6 (Bc .eql 5 1) [5]]
def Vd:List RI:=[on 7 (Fa 1 1),oo 8 (Ld 7) [7],oo 9 (Bc .lss 8 1) [8],omk 10 9,.grp 10 false [(xi 11 10 false (Fa 1 1)),(xi 12 10 false (Ld 11)),(xi 13 10 false (Bc .gtr 12 5))] [11,12],oo 14 (Pt 10 13) [10,13]]
def Vc:List FI:=[Fs 0 15 (Fa 1 1),Fs 1 16 (Ld 15),Fs 2 17 (Bc .eql 16 2),Fm 3 18 17,Fi 4 19 18 true (Fa 3 1),Fi 5 20 18 true (Ld 19),Fy 6 21 18 true (Ca 69 []),Fy 7 22 18 true (Ca 19 [.t 20,.t 21]),Fi 8 23 18 true (.un .not (.t 22)),Fs 9 24 (Pf 18 23),Fm 10 25 24,Fi 11 26 25 false (Fa 1 1),Fi 12 27 25 false (Ld 26),Fi 13 28 25 false (Bc .eql 27 3),Fi 14 29 25 false (Mv 28),Fi 15 30 29 true (Fa 3 1),Fi 16 31 29 true (Ld 30),Fy 17 32 29 true (Ca 125 [.t 31]),Fi 18 33 29 true (.un .not (.t 32)),Fi 19 34 25 false (Pf 29 33),Fs 20 35 (Pt 25 34)]
def Vb:List RI:=[om 36 3,oo 37 (Bc .lss 36 2) [36],omk 38 37,.grp 38 true [(xi 39 38 true (Mv 3)),(xi 40 38 true (Fa 2 1)),(xi 41 38 true (Ld 40)),(xi 42 38 true (Ln 41)),(xi 43 38 true (Bb .lss 39 42))] [39,40,41,42],oo 44 (Pf 38 43) [38,43]]
def Va:List FI:=[Fs 0 47 (Fa 2 1),Fs 1 48 (Ld 47),Fm 2 49 3,Fs 3 50 (Ia 1 48 49),Fs 4 51 (Ld 50),Fs 5 52 (Ln 51),Fs 6 53 (Bc .gtr 52 0),Fm 7 54 53,Fi 8 55 54 true (Fa 1 1),Fi 9 56 54 true (Ld 55),Fi 10 57 54 true (Bc .eql 56 5),Fi 11 58 54 true (Mv 57),Fi 12 59 58 false (Fa 2 1),Fi 13 60 58 false (Ld 59),Fi 14 61 58 false (Mv 3),Fi 15 62 58 false (Ia 1 60 61),Fi 16 63 58 false (Ld 62),Fi 17 64 58 false (Mv 3),Fi 18 65 58 false (Fa 3 1),Fi 19 66 58 false (Ld 65),Fy 20 67 58 false (Ca 121 [.t 64,.t 66]),Fy 21 68 58 false (Ca 19 [.t 63,.t 67]),Fi 22 69 58 false (.un .not (.t 68)),Fi 23 70 54 true (Pt 58 69),Fs 24 71 (Pf 54 70)]
def H4:List RI:=[omk 45 3,oo 46 (Bc .add 45 1) [45],omk 3 46]
def zk:RC:=(Sq (So Vb (Kc 44 (Kk [44] .skip) (Kk [1,3,44] (.exit 0)))) (Sq (Bk 1 (Sq (.flt [0,1,0,7,15,31,63,127,255,511,1023,2047,4095,8191,4095,32767,65535,4095,4095,266239,921599,2097151,4194303,8388607,16777215] [] Va [47,48,49,50,51,52,53,54,55,56,57,58,59,60,61,62,63,64,65,66,67,68,69,70]) (Kc 71 (Kk [1,3,71] (So jI .ret)) (Kk [71] .skip)))) (.ops H4)))
def uf:RC:=zk
def r83:RC:=(So PN (Sq (So Ve (Kc 6 (Kk [1,6] (So lU .ret)) (Kk [6] .skip))) (Sq (So Vd (Kc 14 (Kk [1,14] (So jI .ret)) (Kk [14] .skip))) (Sq (Sq (.flt [0,1,3,7,15,31,15,127,255,511,1023,2047,4095,8191,16383,32767,65535,131071,262143,524287,1048575] [] Vc [15,16,17,18,19,20,21,22,23,24,25,26,27,28,29,30,31,32,33,34]) (Kc 35 (Kk [1,35] (So jI .ret)) (Kk [35] .skip))) (Sq (So qY (Bk 0 (.loop uf))) (So lU .ret))))))
def F83:FnC:=⟨r83,72,[.tmp 2],[],[]⟩
def U9:List RI:=[on 8 (Lt 4 2),oo 9 (Ca 47 [.t 8]) [8],oo 10 (Bc .neq 9 0) [9]]
def U8:List RI:=[on 14 (Bc .eql 12 1),omk 13 14]
def U7:List RI:=[on 16 (Bc .eql 12 2),omk 15 16]
def U6:List RI:=[oo 17 (Fa 1 2) [2],oo 18 (Ld 17) [17],oo 19 (.s2b (.t 18)) [18],omk 20 1,oo 21 (Ca 19 [.t 19,.t 20]) [19,20],omk 4 21]
def U5:List RI:=[oo 23 (Bc .eql 12 3) [12],omk 22 23]
def U4:List RI:=[oo 24 (Fa 1 2) [2],oo 25 (Ld 24) [24],omk 26 1,oo 27 (Ca 126 [.t 25,.t 26]) [25,26],omk 4 27]
def H3:List RI:=[on 28 (Fa 1 2),oo 29 (Ld 28) [28],oo 30 (.len true (.t 29)) [29],omk 5 30]
def H2:List FI:=[Fm 0 31 1,Fs 1 32 (Ln 31),Fm 2 33 5,Fs 3 34 (Bb .leq 32 33),Fm 4 35 34,Fi 5 36 35 false (Mv 1),Fi 6 37 35 false (Ln 36),Fi 7 38 35 false (Mv 5),Fi 8 39 35 false (Bc .add 38 10),Fi 9 40 35 false (Bb .gtr 37 39),Fs 10 41 (Pt 35 40),Fm 11 42 41,Fi 12 43 42 false (Fa 1 2),Fi 13 44 42 false (Ld 43),Fi 14 45 42 false (.s2b (.t 44)),Fi 15 46 42 false (Mv 1),Fi 16 47 42 false (Mv 5),Fi 17 48 42 false (.slcL 1 (.t 46) none (some (.t 47)) none),Fy 18 49 42 false (Ca 19 [.t 45,.t 48]),Fi 19 50 42 false (.un .not (.t 49)),Fs 20 51 (Pt 42 50)]
def HZ:List RI:=[om 52 5,omk 7 52]
def HY:List RI:=[om 53 7,om 54 1,oo 55 (Ln 54) [54],oo 56 (Bb .lss 53 55) [53,55]]
def HX:List RI:=[om 59 1,om 60 7,oo 61 (Ia 1 59 60) [59,60],oo 62 (Ld 61) [61],oo 63 (.bin .lss (.t 62) (.c (.u8 48))) [62],omk 64 63,.grp 64 false [(xi 65 64 false (Mv 1)),(xi 66 64 false (Mv 7)),(xi 67 64 false (Ia 1 65 66)),(xi 68 64 false (Ld 67)),(xi 69 64 false (.bin .gtr (.t 68) (.c (.u8 57))))] [65,66,67,68],oo 70 (Pt 64 69) [64,69]]
def HW:List RI:=[omk 71 6,oo 72 (.bin .mul (ci 10) (.t 71)) [71],om 73 1,om 74 7,oo 75 (Ia 1 73 74) [73,74],oo 76 (Ld 75) [75],oo 77 (.bin .sub (.t 76) (.c (.u8 48))) [76],oo 78 (.toInt .i64 (.t 77)) [77],oo 79 (Bb .add 72 78) [72,78],omk 6 79]
def HV:List RI:=[omk 57 7,oo 58 (Bc .add 57 1) [57],omk 7 58]
def zj:RC:=(Sq (So HY (Kc 56 (Kk [56] .skip) (Kk [7,56] (.exit 1)))) (Sq (Bk 2 (Sq (So HX (Kc 70 (Kk [1,2,5,6,7,70] (So lC .ret)) (Kk [70] .skip))) (.ops HW))) (.ops HV)))
def yj:RC:=zj
def HU:List FI:=[Fm 0 80 6,Fm 2 82 1,Fm 3 83 5,Fs 4 84 (.slcL 1 (.t 82) (some (.t 83)) none none),Fz 1 81 (Ca 85 [.t 80]),Fz 5 85 (Ca 19 [.t 81,.t 84]),Fm 6 86 85,Fi 7 87 86 true (Mv 6),Fi 8 88 86 true (Fa 2 2),Fi 9 89 86 true (Ld 88),Fi 10 90 86 true (Bb .geq 87 89),Fs 11 91 (Pf 86 90),Fm 12 92 91,Fi 13 93 92 true (Mv 6),Fi 14 94 92 true (Fa 3 2),Fi 15 95 92 true (Ld 94),Fi 16 96 92 true (Bb .leq 93 95),Fs 17 97 (Pf 92 96),Fm 18 4 97]
def r84:RC:=(So P8 (Sq (So U9 (Kc 10 (Kk [1,2,10] (So lC .ret)) (Kk [10] .skip))) (Sq (So P7 (Bk 0 (So U8 (Kc 13 (Kk [1,2,12,13] (So qz .ret)) (Kk [13] (So U7 (Kc 15 (Kk [12,15] (So U6 .ret)) (Kk [15] (So U5 (Kc 22 (Kk [22] (So U4 .ret)) (Kk [22] .skip))))))))))) (So H3 (Sq (Sq (.flt [0,1,0,7,15,31,63,31,159,511,1023,2047,4095,8191,16383,4095,4095,102399,262143,524287,1048575] [] H2 [31,32,33,34,35,36,37,38,39,40,41,42,43,44,45,46,47,48,49,50]) (Kc 51 (Kk [1,2,5,51] (So lC .ret)) (Kk [51] .skip))) (So lh (Sq (So HZ (Bk 1 (.loop yj))) (Sq (.flt [0,1,0,0,12,31,63,127,127,383,1023,2047,4095,8191,8191,24575,65535,131071,262143] [] HU [1,2,5,6,80,81,82,83,84,85,86,87,88,89,90,91,92,93,94,95,96,97]) .ret))))))))
def F84:FnC:=⟨r84,98,[.tmp 4],[],[]⟩
def PI:List RI:=[om 3 0,oo 4 (Bc .lss 3 10) [3]]
def U3:List RI:=[omk 5 0,oo 6 (.bin .add (ci 48) (.t 5)) [5],oo 7 (.toInt .u8 (.t 6)) [6],oo 8 (.litB [.t 7]) [7],omk 2 8]
def U2:List RI:=[om 9 0,oo 10 (Bc .quo 9 10) [9],oo 11 (Ca 85 [.t 10]) [10],omk 12 0,oo 13 (Bc .rem 12 10) [12],oo 14 (.bin .add (ci 48) (.t 13)) [13],oo 15 (.toInt .u8 (.t 14)) [14],oo 16 (.litB [.t 15]) [15],oo 17 (.app [.u8 0] 1 (.t 11) (.t 16)) [11,16],omk 2 17]
def r85:RC:=(So me (Sq (So PI (Kc 4 (Kk [4] (So U3 .ret)) (Kk [4] .skip))) (So U2 .ret)))
def F85:FnC:=⟨r85,18,[.tmp 2],[0],[]⟩
def U1:List RI:=[on 5 (Mc 0),on 6 (Mc 0),on 7 (Mc (-1)),on 8 (Mc 0)]
def U0:List RI:=[om 9 6,om 10 1,oo 11 (Ln 10) [10],oo 12 (Bb .lss 9 11) [9,11]]
def UZ:List RI:=[om 14 5,om 15 0,oo 16 (.len true (.t 15)) [15],oo 17 (Bb .lss 14 16) [14,16],omk 18 17,.grp 18 true [(xi 19 18 true (Mv 0)),(xi 20 18 true (Mv 5)),(xi 21 18 true (.idxS (.t 19) (.t 20))),(xi 22 18 true (.bin .eql (.t 21) (.c (.u8 42))))] [19,20,21],oo 23 (Pf 18 22) [18,22],omk 13 23]
def UY:List RI:=[om 24 5,om 25 6,omk 26 5,oo 27 (Bc .add 26 1) [26],omk 7 24,omk 8 25,omk 5 27]
def UX:List FI:=[Fm 0 29 5,Fm 1 30 0,Fs 2 31 (.len true (.t 30)),Fs 3 32 (Bb .lss 29 31),Fm 4 33 32,Fi 5 34 33 true (Mv 0),Fi 6 35 33 true (Mv 5),Fi 7 36 33 true (.idxS (.t 34) (.t 35)),Fi 8 37 33 true (.bin .eql (.t 36) (.c (.u8 63))),Fi 9 38 33 true (Mv 37),Fi 10 39 38 false (Mv 0),Fi 11 40 38 false (Mv 5),Fi 12 41 38 false (.idxS (.t 39) (.t 40)),Fi 13 42 38 false (Mv 1),Fi 14 43 38 false (Mv 6),Fi 15 44 38 false (Ia 1 42 43),Fi 16 45 38 false (Ld 44),Fi 17 46 38 false (Bb .eql 41 45),Fi 18 47 33 true (Pt 38 46),Fs 19 48 (Pf 33 47),Fm 20 28 48]
def UW:List RI:=[omk 49 5,oo 50 (Bc .add 49 1) [49],omk 51 6,oo 52 (Bc .add 51 1) [51],omk 5 50,omk 6 52]
def UV:List RI:=[om 54 7,oo 55 (Bc .geq 54 0) [54],omk 53 55]
def UU:List RI:=[om 56 7,oo 57 (Bc .add 56 1) [56],om 58 8,oo 59 (Bc .add 58 1) [58],omk 60 8,oo 61 (Bc .add 60 1) [60],omk 5 57,omk 6 59,omk 8 61]
def zi:RC:=(Sq (So U0 (Kc 12 (Kk [12] .skip) (Kk [1,6,7,8,12] (.exit 0)))) (Bk 1 (Bk 2 (So UZ (Kc 13 (Kk [7,8,13] (.ops UY)) (Kk [13] (Sq (.flt [0,0,2,7,15,31,31,127,255,511,1023,1023,4095,1023,1023,25599,58367,131071,262143,524287,1048575] [] UX [29,30,31,32,33,34,35,36,37,38,39,40,41,42,43,44,45,46,47,48]) (Kc 28 (Kk [28] (.ops UW)) (Kk [5,6,28] (So UV (Kc 53 (Kk [53] (.ops UU)) (Kk [0,1,7,8,53] (So lC .ret)))))))))))))
def yi:RC:=zi
def HT:List RI:=[omk 62 0,omk 63 5,oo 64 (.slcS (.t 62) (some (.t 63)) none) [62,63],oo 65 (Ca 127 [.t 64,(.c (.str [42]))]) [64],oo 66 (.bin .eql (.t 65) (.c (.str []))) [65],omk 4 66]
def r86:RC:=(So oO (So U1 (Sq (Bk 0 (.loop yi)) (So HT .ret))))
def F86:FnC:=⟨r86,67,[.tmp 4],[],[]⟩
def PH:List RI:=[oo 4 (.mov (.c (.str []))) [4],oo 5 (Mb false) [5]]
def UT:List RI:=[omk 6 0,omk 7 1,oo 8 (Ca 128 [.t 6,.t 7]) [6,7],on 9 (.ext (.t 8) 0),oo 10 (.ext (.t 8) 1) [8],omk 4 9,omk 5 10]
def r87:RC:=(So PH (So UT .ret))
def F87:FnC:=⟨r87,11,[.tmp 4,.tmp 5],[],[]⟩
def US:List RI:=[om 6 0,oo 7 (.bin .eql (.t 6) (.c (.str []))) [6],omk 8 7,.grp 8 false [(xi 9 8 false (Mv 0)),(xi 10 8 false (.len true (.t 9))),(xi 11 8 false (Bc .gtr 10 10))] [9,10],oo 12 (Pt 8 11) [8,11],omk 13 12,.grp 13 false [(xi 14 13 false (Mv 0)),(xi 15 13 false (.len true (.t 14))),(xi 16 13 false (Bc .gtr 15 1)),(xi 17 13 false (Mv 16))] [14,15,16],.grp 17 true [(xi 18 17 true (Mv 0)),(xi 19 17 true (.idxS (.t 18) (ci 0))),(xi 20 17 true (.bin .eql (.t 19) (.c (.u8 48))))] [18,19],.grp 13 false [(xi 21 13 false (Pf 17 20))] [17,20],oo 22 (Pt 13 21) [13,21]]
def UR:List RI:=[om 23 0,oo 24 (.len true (.t 23)) [23],on 25 (Mc 0)]
def UQ:List RI:=[on 26 (Bb .lss 25 24)]
def UP:List RI:=[om 27 25,omk 3 27]
def UO:List RI:=[om 28 0,om 29 3,oo 30 (.idxS (.t 28) (.t 29)) [28,29],oo 31 (.bin .lss (.t 30) (.c (.u8 48))) [30],omk 32 31,.grp 32 false [(xi 33 32 false (Mv 0)),(xi 34 32 false (Mv 3)),(xi 35 32 false (.idxS (.t 33) (.t 34))),(xi 36 32 false (.bin .gtr (.t 35) (.c (.u8 57))))] [3,33,34,35],oo 37 (Pt 32 36) [32,36]]
def UN:List RI:=[oo 38 (Bc .add 25 1) [25],omk 25 38]
def QC:RC:=(So UQ (Sq (Kc 26 (Kk [26] .skip) (Kk [24,25,26] (.exit 0))) (Sq (Bk 1 (So UP (So UO (Kc 37 (Kk [0,24,25,37] (So xb .ret)) (Kk [37] .skip))))) (.ops UN))))
def PG:RC:=QC
def HS:List RI:=[omk 40 0,oo 41 (Ca 129 [.t 40]) [40],omk 39 41,on 42 (.ext (.t 39) 0),oo 43 (.ext (.t 39) 1) [39],omk 4 42,.op (xm 5 43) [5,43]]
def HR:List RI:=[omk 44 4,omk 2 44]
def r88:RC:=(So jJ (Sq (So US (Kc 22 (Kk [0,22] (So xb .ret)) (Kk [22] .skip))) (Sq (So UR (Bk 0 (.loop PG))) (So HS (So HR .ret)))))
def F88:FnC:=⟨r88,45,[.tmp 2],[],[]⟩
def UM:List RI:=[on 4 (Fa 0 1),oo 5 (Ld 4) [4],oo 6 (Bc .lss 5 1) [5],omk 7 6,.grp 7 false [(xi 8 7 false (Fa 0 1)),(xi 9 7 false (Ld 8)),(xi 10 7 false (Bc .gtr 9 4))] [8,9],oo 11 (Pt 7 10) [7,10],omk 12 11,.grp 12 false [(xi 13 12 false (Fa 2 1)),(xi 14 12 false (Ld 13)),(xi 15 12 false (Bc .lss 14 0))] [13,14],oo 16 (Pt 12 15) [12,15],omk 17 16,.grp 17 false [(xi 18 17 false (Fa 2 1)),(xi 19 17 false (Ld 18)),(xi 20 17 false (Bc .gtr 19 1000000))] [18,19],oo 21 (Pt 17 20) [17,20],omk 3 21]
def UL:List RI:=[on 23 (Fa 1 1),oo 24 (Ld 23) [23],oo 25 (Ca 130 [.t 24]) [24],oo 26 (.un .not (.t 25)) [25],omk 22 26]
def UK:List RI:=[on 28 (Fa 3 1),oo 29 (Ld 28) [28],oo 30 (Ln 29) [29],oo 31 (Bc .gtr 30 64) [30],omk 27 31]
def UJ:List RI:=[on 33 (Fa 0 1),oo 34 (Ld 33) [33],oo 35 (Bc .eql 34 4) [34],omk 36 35,.grp 36 true [(xi 37 36 true (Lt 4 1)),(xi 38 36 true (Ca 98 [.t 37])),(xi 39 36 true (Ln 38)),(xi 40 36 true (Bc .eql 39 0))] [1,37,38,39],oo 41 (Pf 36 40) [36,40],omk 32 41]
def r89:RC:=(So ra (Sq (Bk 0 (So UM (Kc 3 (Kk [1,3] (So gE .ret)) (Kk [3] (So UL (Kc 22 (Kk [1,22] (So qZ .ret)) (Kk [22] (So UK (Kc 27 (Kk [1,27] (So oR .ret)) (Kk [27] (So UJ (Kc 32 (Kk [32] (So uh .ret)) (Kk [32] .skip))))))))))))) (So iC .ret)))
def F89:FnC:=⟨r89,42,[.tmp 2],[],[]⟩
def UI:List RI:=[omk 9 0]
def UH:List RI:=[on 11 (Bc .eql 9 0),omk 10 11]
def UG:List RI:=[on 12 (.build [.int .u32 0,.int .u32 0,.int .u32 0,.int .u32 0,.int .u32 0] [(0,1,(.c (.int .u32 1732584193))),(1,1,(.c (.int .u32 4023233417))),(2,1,(.c (.int .u32 2562383102))),(3,1,(.c (.int .u32 271733878))),(4,1,(.c (.int .u32 3285377520)))]),on 5 (.new (.arr 1 (am 5 [.int .u32 0]))),Sr 5 5 12 [12]]
def UF:List RI:=[omk 13 1,oo 14 (Ca 131 [.t 13]) [13],omk 6 14]
def UE:List RI:=[om 15 6,oo 16 (Ln 15) [15],oo 17 (Bc .gtr 16 0) [16]]
def UD:List RI:=[om 20 6,oo 21 (.slcL 1 (.t 20) none (some (ci 64)) none) [20],oo 22 (Ca 132 [.t 5,.t 21]) [21,22]]
def UC:List RI:=[omk 18 6,oo 19 (.slcL 1 (.t 18) (some (ci 64)) none none) [18],omk 6 19]
def QB:RC:=(Sq (So UE (Kc 17 (Kk [17] .skip) (Kk [6,17] (.exit 1)))) (Sq (Bk 2 (.ops UD)) (.ops UC)))
def PF:RC:=QB
def UB:List RI:=[oo 23 (.slcA 5 1 (.t 5) none none none) [5],oo 24 (Ca 133 [.t 23]) [23],omk 4 24]
def HQ:List RI:=[oo 26 (Bc .eql 9 1) [9],omk 25 26]
def HP:List RI:=[on 27 (.build [.int .u32 0,.int .u32 0,.int .u32 0,.int .u32 0,.int .u32 0,.int .u32 0,.int .u32 0,.int .u32 0] [(0,1,(.c (.int .u32 1779033703))),(1,1,(.c (.int .u32 3144134277))),(2,1,(.c (.int .u32 1013904242))),(3,1,(.c (.int .u32 2773480762))),(4,1,(.c (.int .u32 1359893119))),(5,1,(.c (.int .u32 2600822924))),(6,1,(.c (.int .u32 528734635))),(7,1,(.c (.int .u32 1541459225)))]),on 7 (.new (.arr 1 (am 8 [.int .u32 0]))),Sr 8 7 27 [27]]
def HO:List RI:=[omk 28 1,oo 29 (Ca 131 [.t 28]) [28],omk 8 29]
def HN:List RI:=[om 30 8,oo 31 (Ln 30) [30],oo 32 (Bc .gtr 31 0) [31]]
def HM:List RI:=[om 35 8,oo 36 (.slcL 1 (.t 35) none (some (ci 64)) none) [35],oo 37 (Ca 134 [.t 7,.t 36]) [36,37]]
def HK:List RI:=[omk 33 8,oo 34 (.slcL 1 (.t 33) (some (ci 64)) none none) [33],omk 8 34]
def zh:RC:=(Sq (So HN (Kc 32 (Kk [32] .skip) (Kk [8,32] (.exit 3)))) (Sq (Bk 4 (.ops HM)) (.ops HK)))
def yh:RC:=zh
def HJ:List RI:=[oo 38 (.slcA 8 1 (.t 7) none none none) [7],oo 39 (Ca 133 [.t 38]) [38],omk 4 39]
def r90:RC:=(So lB (Sq (So UI (Bk 0 (So UH (Kc 10 (Kk [9,10] (So UG (Sq (So UF (Bk 1 (.loop PF))) (So UB .ret)))) (Kk [10] (So HQ (Kc 25 (Kk [25] (So HP (Sq (So HO (Bk 3 (.loop yh))) (So HJ .ret)))) (Kk [1,25] .skip)))))))) (So kM .ret)))
def F90:FnC:=⟨r90,40,[.tmp 4],[],[]⟩
def UA:List RI:=[on 4 (Lt 4 1),oo 5 (Ca 89 [.t 4]) [4],oo 6 (Bc .neq 5 0) [5]]
def Uz:List RI:=[on 7 (Fa 0 1),oo 8 (Ld 7) [7],oo 9 (Ca 48 [(.c (.byt [] .clip)),ci 1,.t 8]) [8],omk 3 9]
def Uy:List RI:=[omk 10 3,on 11 (Fa 2 1),oo 12 (Ld 11) [11],oo 13 (Ca 48 [.t 10,ci 4,.t 12]) [10,12],omk 3 13]
def Ux:List RI:=[omk 14 3,on 15 (Fa 1 1),oo 16 (Ld 15) [15],oo 17 (.s2b (.t 16)) [16],oo 18 (Ca 49 [.t 14,.t 17]) [14,17],omk 3 18]
def Uw:List RI:=[omk 19 3,oo 20 (Fa 3 1) [1],oo 21 (Ld 20) [20],oo 22 (Ca 49 [.t 19,.t 21]) [19,21],omk 2 22]
def r91:RC:=(So xd (Sq (So UA (Kc 6 (Kk [1,6] (So xc .ret)) (Kk [6] .skip))) (So Uz (So Uy (So Ux (So Uw .ret))))))
def F91:FnC:=⟨r91,23,[.tmp 2],[],[]⟩
def Uv:List RI:=[om 5 0,oo 6 (Ln 5) [5],omk 4 6]
def Uu:List RI:=[omk 7 0,om 8 4,omk 9 4,oo 10 (.toInt .u64 (.t 9)) [9],oo 11 (Ca 136 [.t 10]) [10],omk 12 1,oo 13 (Ca 135 [.t 7,ci 0,.t 8,.t 11,.t 12]) [7,8,11,12,13]]
def r92:RC:=(So Uv (.ops Uu))
def F92:FnC:=⟨r92,14,[],[],[]⟩
def Ut:List RI:=[om 8 0,oo 9 (Ln 8) [8],oo 10 (Bc .lss 9 2) [9]]
def Us:List RI:=[omk 11 0,omk 4 11]
def Ur:List RI:=[om 12 5,om 13 0,oo 14 (Ln 13) [13],oo 15 (Bb .lss 12 14) [12,14]]
def Uq:List FI:=[Fm 0 18 1,Fm 1 19 0,Fm 2 20 5,Fs 3 21 (Ia 4 19 20),Fs 4 22 (Lt 4 21),Fm 5 23 0,Fm 6 24 5,Fs 7 25 (Bc .sub 24 1),Fs 8 26 (Ia 4 23 25),Fs 9 27 (Lt 4 26),Fz 10 28 (.call (.t 18) [.t 22,.t 27])]
def Up:List RI:=[om 29 0,om 30 5,oo 31 (.slcL 4 (.t 29) (some (.t 30)) none none) [29,30],omk 6 31]
def Uo:List RI:=[on 7 (Mc 1)]
def Un:List RI:=[om 32 7,om 33 6,oo 34 (Ln 33) [33],oo 35 (Bb .lss 32 34) [32,34]]
def Um:List FI:=[Fm 0 38 1,Fm 1 39 6,Fm 2 40 7,Fs 3 41 (Ia 4 39 40),Fs 4 42 (Lt 4 41),Fm 5 43 6,Fm 6 44 7,Fs 7 45 (Bc .sub 44 1),Fs 8 46 (Ia 4 43 45),Fs 9 47 (Lt 4 46),Fz 10 48 (.call (.t 38) [.t 42,.t 47]),Fs 11 49 (.un .not (.t 48))]
def HI:List RI:=[om 50 0,om 51 5,om 52 6,om 53 7,oo 54 (Ia 4 52 53) [52,53],oo 55 (Lt 4 54) [54],oo 56 (Ia 4 50 51) [50,51],Sr 4 56 55 [55,56]]
def HH:List RI:=[omk 57 5,oo 58 (Bc .add 57 1) [57],omk 5 58]
def HG:List RI:=[omk 36 7,oo 37 (Bc .add 36 1) [36],omk 7 37]
def zg:RC:=(Sq (So Un (Kc 35 (Kk [35] .skip) (Kk [1,6,7,35] (.exit 2)))) (Sq (Bk 3 (Sq (.flt [0,0,0,6,14,0,0,64,224,480,1023,2047] [] Um [38,39,40,41,42,43,44,45,46,47,48]) (Kc 49 (Kk [49] (So HI (.ops HH))) (Kk [49] .skip)))) (.ops HG)))
def yg:RC:=zg
def HF:List RI:=[om 59 0,om 60 5,oo 61 (.slcL 4 (.t 59) (some (.t 60)) none none) [59,60],.op ⟨none,none,.clr [.int .i64 0,.str [],.int .i64 0,(.byt [] .no)] (.t 61)⟩ [61]]
def HE:List RI:=[omk 62 0,omk 63 5,oo 64 (.slcL 4 (.t 62) none (some (.t 63)) none) [62,63],omk 4 64]
def yf:List RI:=[omk 16 5,oo 17 (Bc .add 16 1) [16],omk 5 17]
def zf:RC:=(Sq (So Ur (Kc 15 (Kk [15] .skip) (Kk [1,5,15] (.exit 0)))) (Sq (Bk 1 (Sq (.flt [0,0,0,6,14,0,0,64,224,480,1023] [] Uq [18,19,20,21,22,23,24,25,26,27]) (Kc 28 (Kk [28] (So Up (Sq (So Uo (Bk 2 (.loop yg))) (So HF (So HE .ret))))) (Kk [28] .skip)))) (.ops yf)))
def ue:RC:=zf
def HD:List RI:=[omk 65 0,omk 4 65]
def r93:RC:=(So Qm (Sq (So Ut (Kc 10 (Kk [1,10] (So Us .ret)) (Kk [10] .skip))) (Sq (So P9 (Bk 0 (.loop ue))) (So HD .ret))))
def F93:FnC:=⟨r93,66,[.tmp 4],[],[0]⟩
def Ul:List RI:=[oo 5 (Lt 4 2) [2],oo 6 (Lt 4 3) [3],oo 7 (Ca 43 [.t 5,.t 6]) [5,6],oo 8 (Bc .eql 7 0) [7],omk 4 8]
def r94:RC:=(So EP (So Ul .ret))
def F94:FnC:=⟨r94,9,[.tmp 4],[],[]⟩
def Uk:List RI:=[on 4 (Lt 4 1),oo 5 (Ca 100 [.t 4]) [4],oo 6 (Bc .neq 5 0) [5]]
def Uj:List RI:=[on 7 (Fa 0 1),oo 8 (Ld 7) [7],oo 9 (Ca 57 [(.c (.byt [] .clip)),ci 1,.t 8]) [8],omk 3 9]
def Ui:List RI:=[omk 10 3,on 11 (Fa 2 1),oo 12 (Ld 11) [11],oo 13 (Ca 57 [.t 10,ci 4,.t 12]) [10,12],omk 3 13]
def Uh:List RI:=[omk 14 3,on 15 (Fa 1 1),oo 16 (Ld 15) [15],oo 17 (.s2b (.t 16)) [16],oo 18 (Ca 56 [.t 14,.t 17]) [14,17],omk 3 18]
def Ug:List RI:=[omk 19 3,oo 20 (Fa 3 1) [1],oo 21 (Ld 20) [20],oo 22 (Ca 56 [.t 19,.t 21]) [19,21],omk 2 22]
def r95:RC:=(So xd (Sq (So Uk (Kc 6 (Kk [1,6] (So xc .ret)) (Kk [6] .skip))) (So Uj (So Ui (So Uh (So Ug .ret))))))
def F95:FnC:=⟨r95,23,[.tmp 2],[],[]⟩
def Uf:List RI:=[oo 6 (Fa 3 1) [1],oo 7 (Ld 6) [6],omk 4 7]
def Ue:List RI:=[om 8 4,oo 9 (Ln 8) [8],oo 10 (Bc .gtr 9 0) [9]]
def Ud:List RI:=[om 11 4,oo 12 (Ca 138 [.t 11,(.c (.u8 10))]) [11],omk 5 12]
def Uc:List RI:=[om 13 5,oo 14 (Bc .lss 13 1) [13],omk 15 14,.grp 15 false [(xi 16 15 false (Mv 3)),(xi 17 15 false (Ln 16)),(xi 18 15 false (Bc .eql 17 4))] [16,17],oo 19 (Pt 15 18) [15,18],omk 20 19,.grp 20 false [(xi 21 20 false (Mv 4)),(xi 22 20 false (Mv 5)),(xi 23 20 false (.slcL 1 (.t 21) none (some (.t 22)) none)),(xi 24 20 false (Ca 139 [.t 23])),(xi 25 20 false (.un .not (.t 24)))] [21,22,23,24],oo 26 (Pt 20 25) [20,25]]
def Ub:List RI:=[omk 27 3,om 28 4,om 29 5,om 30 5,oo 31 (.slcL 1 (.t 28) none (some (.t 29)) (some (.t 30))) [28,29,30],oo 32 (.lit 1 [.t 31]) [31],oo 33 (.app [.byt [] .clip] 24 (.t 27) (.t 32)) [27,32],omk 3 33]
def Ua:List RI:=[omk 34 4,omk 35 5,oo 36 (Bc .add 35 1) [35],oo 37 (.slcL 1 (.t 34) (some (.t 36)) none none) [34,36],omk 4 37]
def QA:RC:=(.post (Sq (So Ue (Kc 10 (Kk [10] .skip) (Kk [4,10] (.exit 0)))) (Bk 1 (So Ud (Sq (So Uc (Kc 26 (Kk [3,4,5,26] (So xa .ret)) (Kk [26] .skip))) (So Ub (.ops Ua)))))) [.tok 3 103])
def EK:RC:=QA
def HC:List RI:=[omk 38 3,omk 2 38]
def r98:RC:=(So PX (So PW (Sq (So Uf (Bk 0 (.pre [.tok 3 103] (.loop EK)))) (So HC .ret))))
def F98:FnC:=⟨r98,39,[.tmp 2],[],[]⟩
def O5:List RI:=[on 3 (Fa 0 1),oo 4 (Ld 3) [3],oo 5 (Bc .lss 4 1) [4],omk 6 5,.grp 6 false [(xi 7 6 false (Fa 0 1)),(xi 8 6 false (Ld 7)),(xi 9 6 false (Bc .gtr 8 4))] [7,8],oo 10 (Pt 6 9) [6,9],omk 11 10,.grp 11 false [(xi 12 11 false (Fa 2 1)),(xi 13 11 false (Ld 12)),(xi 14 11 false (Bc .lss 13 0))] [12,13],oo 15 (Pt 11 14) [11,14],omk 16 15,.grp 16 false [(xi 17 16 false (Fa 2 1)),(xi 18 16 false (Ld 17)),(xi 19 16 false (Bc .gtr 18 1000000))] [17,18],oo 20 (Pt 16 19) [16,19]]
def O4:List RI:=[on 21 (Fa 1 1),oo 22 (Ld 21) [21],oo 23 (Ca 45 [.t 22]) [22],oo 24 (.un .not (.t 23)) [23]]
def O3:List RI:=[on 25 (Fa 3 1),oo 26 (Ld 25) [25],oo 27 (Ln 26) [26],oo 28 (Bc .gtr 27 64) [27]]
def O0:List RI:=[on 29 (Fa 0 1),oo 30 (Ld 29) [29],oo 31 (Bc .eql 30 4) [30],omk 32 31,.grp 32 true [(xi 33 32 true (Lt 4 1)),(xi 34 32 true (Ca 70 [.t 33])),(xi 35 32 true (Ln 34)),(xi 36 32 true (Bc .eql 35 0))] [1,33,34,35],oo 37 (Pf 32 36) [32,36]]
def xkH:RC:=(So ra (Sq (So O5 (Kc 20 (Kk [1,20] (So gE .ret)) (Kk [20] .skip))) (Sq (So O4 (Kc 24 (Kk [1,24] (So qZ .ret)) (Kk [24] .skip))) (Sq (So O3 (Kc 28 (Kk [1,28] (So oR .ret)) (Kk [28] .skip))) (Sq (So O0 (Kc 37 (Kk [37] (So uh .ret)) (Kk [37] .skip))) (So iC .ret))))))
def xbH:FnC:=⟨xkH,38,[.tmp 2],[],[]⟩
def OZ:List RI:=[oo 2 (.box (.t 0)) [0],oo 4 (.mov (.c (.lst 1 [] .clip))) [4]]
def OY:List RI:=[oo 9 (Lt 4 2) [2],oo 10 (Ca 95 [.t 9]) [9],omk 6 10]
def OX:List RI:=[om 11 7,oo 12 (Bc .lss 11 2) [11]]
def OW:List RI:=[om 15 6,oo 16 (Ln 15) [15],oo 17 (Bc .gtr 16 0) [16],omk 18 17,.grp 18 true [(xi 19 18 true (Mv 1)),(xi 20 18 true (Mv 7)),(xi 21 18 true (Ca 120 [.t 19,.t 20]))] [19,20],oo 22 (Pf 18 21) [18,21]]
def OV:List RI:=[om 23 5,om 24 7,om 25 7,om 26 6,oo 27 (Ca 121 [.t 25,.t 26]) [25,26],oo 28 (Ia 1 23 24) [23,24],Sr 1 28 27 [27,28]]
def OU:List RI:=[omk 13 7,oo 14 (Bc .add 13 1) [13],omk 7 14]
def Al:RC:=(Sq (So OX (Kc 12 (Kk [12] .skip) (Kk [1,6,7,12] (.exit 0)))) (Sq (Bk 1 (So OW (Kc 22 (Kk [22] (.ops OV)) (Kk [22] .skip)))) (.ops OU)))
def OT:RC:=Al
def OS:List RI:=[omk 29 5,omk 4 29]
def xkG:RC:=(So OZ (So PV (So OY (Sq (So uo (Bk 0 (.loop OT))) (So OS .ret)))))
def xbG:FnC:=⟨xkG,30,[.tmp 4],[],[]⟩
def OR:List RI:=[on 0 (.new (.arr 1 (am 3 [.str []])))]
def OQ:List RI:=[on 1 (.build [.str [],.str [],.str []] [(0,1,(.c (.str [97,99,109,101]))),(1,1,(.c (.str [118,50]))),(2,1,(.c (.str [120,45,121])))]),Sr 3 0 1 [1]]
def xkF:RC:=(So OR (So OQ .ret))
def xbF:FnC:=⟨xkF,2,[.cell 0 3 true],[],[]⟩
def OP:List RI:=[on 2 (.new (.rc Zq3))]
def OO:List RI:=[om 5 0,oo 6 (Ca 71 [.t 5,ci 5]) [5]]
def ON:List RI:=[on 8 (Bc .eql 6 0),omk 7 8]
def OM:List RI:=[on 9 (.build Zq3 [(0,1,(ci 1))]),Sr 4 2 9 [9]]
def OL:List RI:=[on 11 (Bc .eql 6 1),omk 10 11]
def OK:List RI:=[omk 12 0,oo 13 (Ca 73 [.t 12]) [12],oo 14 (.b2s (.t 13)) [13],oo 15 (.build Zq3 [(0,1,(ci 2)),(1,1,(.t 14))]) [14],Sr 4 2 15 [15]]
def OJ:List RI:=[oo 17 (Bc .eql 6 2) [6],omk 16 17]
def OI:List RI:=[on 18 (.build [.str [],.str [],.str [],.str [],.str [],.str [],.str []] [(0,1,(.c (.str []))),(1,1,(.c (.str [42]))),(2,1,(.c (.str [97,61,63]))),(3,1,(.c (.str [42,61,42]))),(4,1,(.c (.str [63,111,42,53]))),(5,1,(.c (.str [99,111,117,110,116,61,63,63]))),(6,1,(.c (.str [42,97,42,42,49,42])))]),on 3 (.new (.arr 1 (am 7 [.str []]))),Sr 7 3 18 [18]]
def OH:List RI:=[omk 19 0,oo 20 (Ca 71 [.t 19,ci 7]) [19],oo 21 (.iaddrA 7 1 (.t 3) (.t 20)) [3,20],oo 22 (Ld 21) [21],oo 23 (.build Zq3 [(0,1,(ci 3)),(1,1,(.t 22))]) [22],Sr 4 2 23 [23]]
def OG:List RI:=[om 24 0,oo 25 (Ca 71 [.t 24,ci 20]) [24],omk 4 25]
def CP:List FI:=[Fs 0 26 (.build [.str [],.str [],.str []] [(0,1,(.c (.str [99,111,117,110,116,61]))),(1,1,(.c (.str [97,61]))),(2,1,(.c (.str [])))]),Fm 1 27 0,Fm 4 30 4,Fm 5 31 4,Fm 6 32 0,Fz 2 28 (Ca 71 [.t 27,ci 3]),Fs 3 29 (.idxA 3 1 false (.t 26) (.t 28)),Fz 7 33 (Ca 71 [.t 32,ci 30]),Fs 8 34 (Bb .add 31 33),Fs 9 35 (.build Zq3 [(0,1,(ci 4)),(1,1,(.t 29)),(2,1,(.t 30)),(3,1,(.t 34))]),Fr 10 4 2 35]
def xkE:RC:=(So OP (Sq (So OO (Bk 0 (So ON (Kc 7 (Kk [0,6,7] (So OM .ret)) (Kk [7] (So OL (Kc 10 (Kk [6,10] (So OK .ret)) (Kk [10] (So OJ (Kc 16 (Kk [16] (So OI (So OH .ret))) (Kk [16] .skip))))))))))) (So OG (Sq (.flt [0,0,2,7,0,0,0,70,230,511,1023] [] CP [0,4,26,27,28,29,30,31,32,33,34,35]) .ret))))
def xbE:FnC:=⟨xkE,36,[.cell 2 4 true],[],[]⟩
def OF:List RI:=[omk 6 0,on 7 (Ln 6),on 8 (Mc 0)]
def OE:List RI:=[on 10 (Ia 1 6 8),oo 11 (Ld 10) [10],omk 5 11]
def OD:List RI:=[om 12 5,om 13 3,oo 14 (Bb .neq 12 13) [12,13]]
def OC:List RI:=[omk 15 5,omk 2 15]
def OA:List RI:=[oo 16 (Bc .add 8 1) [8],omk 8 16]
def Ak:RC:=(So EM (Sq (Kc 9 (Kk [9] .skip) (Kk [6,7,8,9] (.exit 0))) (Sq (Bk 1 (So OE (So OD (Kc 14 (Kk [3,6,7,8,14] (So OC .ret)) (Kk [5,14] .skip))))) (.ops OA))))
def Oz:RC:=Ak
def Oy:List RI:=[omk 17 3,omk 2 17]
def xkD:RC:=(So jJ (So qY (Sq (So OF (Bk 0 (.loop Oz))) (So Oy .ret))))
def xbD:FnC:=⟨xkD,18,[.tmp 2],[],[]⟩
def Ox:List RI:=[om 7 0,oo 8 (Ca 141 [.t 7]) [7],omk 5 8]
def Ow:List RI:=[om 9 1,oo 10 (Ca 141 [.t 9]) [9],omk 6 10]
def Ov:List RI:=[omk 11 5]
def Ou:List RI:=[omk 12 6]
def Ot:List RI:=[omk 13 6]
def yY:List RI:=[on 4 (Mc 1)]
def Oq:List RI:=[om 14 0,om 15 1,oo 16 (Bb .lss 14 15) [14,15]]
def CO:List RI:=[omk 17 0,omk 18 1,oo 19 (Bb .gtr 17 18) [17,18]]
def xkC:RC:=(So oP (So Ox (So Ow (Sq (So Ov (Kc 11 (Kk [0,1,11] (Sq (So Ou (Kc 12 (Kk [12] (So lD .ret)) (Kk [12] .skip))) (So mf .ret))) (Kk [11] .skip))) (Sq (So Ot (Kc 13 (Kk [0,1,13] (So yY .ret)) (Kk [13] .skip))) (Sq (So Oq (Kc 16 (Kk [0,1,16] (So mf .ret)) (Kk [16] .skip))) (Sq (So CO (Kc 19 (Kk [19] (So yY .ret)) (Kk [19] .skip))) (So lD .ret))))))))
def xbC:FnC:=⟨xkC,20,[.tmp 4],[],[]⟩
def Oo:List RI:=[omk 5 0,omk 6 1,oo 7 (Ca 142 [.t 5,.t 6]) [5,6],omk 4 7]
def xkB:RC:=(So oP (So Oo .ret))
def xbB:FnC:=⟨xkB,8,[.tmp 4],[],[]⟩
def On:List RI:=[om 6 5,om 7 0,oo 8 (Ln 7) [7],oo 9 (Bb .lss 6 8) [6,8],omk 10 9,.grp 10 true [(xi 11 10 true (Mv 5)),(xi 12 10 true (Mv 1)),(xi 13 10 true (Ln 12)),(xi 14 10 true (Bb .lss 11 13))] [11,12,13],oo 15 (Pf 10 14) [10,14]]
def Om:List FI:=[Fm 0 18 0,Fm 1 19 5,Fs 2 20 (Ia 1 18 19),Fs 3 21 (Ld 20),Fm 4 22 1,Fm 5 23 5,Fs 6 24 (Ia 1 22 23),Fs 7 25 (Ld 24),Fs 8 26 (Bb .neq 21 25)]
def Ol:List FI:=[Fm 0 27 0,Fm 1 28 5,Fs 2 29 (Ia 1 27 28),Fs 3 30 (Ld 29),Fm 4 31 1,Fm 5 32 5,Fs 6 33 (Ia 1 31 32),Fs 7 34 (Ld 33),Fs 8 35 (Bb .lss 30 34),Fm 9 4 35]
def Aj:RC:=(Sq (So On (Kc 15 (Kk [15] .skip) (Kk [5,15] (.exit 0)))) (Sq (Bk 1 (Sq (.flt [0,0,3,7,0,0,48,112,255] [] Om [18,19,20,21,22,23,24,25]) (Kc 26 (Kk [26] (Sq (.flt [0,0,3,7,0,0,48,112,255,511] [] Ol [0,1,5,27,28,29,30,31,32,33,34,35]) .ret)) (Kk [26] .skip)))) (.ops yf)))
def yX:RC:=Aj
def Ok:List RI:=[omk 36 0,oo 37 (Ln 36) [36],omk 38 1,oo 39 (Ln 38) [38],oo 40 (Bb .lss 37 39) [37,39],omk 4 40]
def xkA:RC:=(So oO (Sq (So jK (Bk 0 (.loop yX))) (So Ok .ret)))
def xbA:FnC:=⟨xkA,41,[.tmp 4],[],[]⟩
def Oj:List RI:=[omk 4 0,omk 5 1,oo 6 (.nchk (.t 4)) [4],oo 7 (Fa 2 6) [6],Sr 1 7 5 [5,7]]
def xkz:RC:=(.ops Oj)
def xbz:FnC:=⟨xkz,8,[],[],[]⟩
def Oi:List RI:=[oo 6 (.mov (.c (.byt [] .clip))) [6],oo 7 (Mc 0) [7]]
def Oh:List RI:=[om 8 2,om 9 0,oo 10 (.nchk (.t 9)) [9],oo 11 (Fa 0 10) [10],oo 12 (Ld 11) [11],oo 13 (Ln 12) [12],om 14 1,oo 15 (Bb .sub 13 14) [13,14],oo 16 (Bb .gtr 8 15) [8,15]]
def Og:List RI:=[on 6 (.mov (.c (.byt [] .clip))),on 7 (Mc 2)]
def Of:List RI:=[omk 17 0,oo 18 (.nchk (.t 17)) [17],oo 19 (Fa 0 18) [18],oo 20 (Ld 19) [19],om 21 1,omk 22 1,omk 23 2,oo 24 (Bb .add 22 23) [22,23],oo 25 (.slcL 1 (.t 20) (some (.t 21)) (some (.t 24)) none) [20,21,24],omk 6 25,on 7 (Mc 0)]
def xky:RC:=(So Oi (Sq (So Oh (Kc 16 (Kk [0,1,2,16] (So Og .ret)) (Kk [16] .skip))) (So Of .ret)))
def xby:FnC:=⟨xky,26,[.tmp 6,.tmp 7],[],[]⟩
def Oe:List FI:=[Fm 0 3 0,Fs 1 4 (.nchk (.t 3)),Fs 2 5 (Fa 0 4),Fs 3 6 (Ld 5),Fs 4 7 (Ln 6),Fm 5 8 0,Fs 6 9 (.nchk (.t 8)),Fs 7 10 (Fa 1 9),Fs 8 11 (Ld 10),Fs 9 12 (Bb .sub 7 11),Fm 10 2 12]
def xkx:RC:=(So jJ (Sq (.flt [0,1,3,7,15,0,32,96,224,511,1023] [] Oe [0,3,4,5,6,7,8,9,10,11,12]) .ret))
def xbx:FnC:=⟨xkx,13,[.tmp 2],[],[]⟩
def Od:List RI:=[omk 9 0,oo 10 (.toInt .u8 (.t 9)) [9],oo 11 (.litB [.t 10]) [10],omk 5 11]
def Oc:List RI:=[omk 12 1,on 13 (Ln 12),on 14 (Mc 0)]
def Ob:List RI:=[on 15 (Bb .lss 14 13)]
def Oa:List RI:=[on 16 (Ia 1 12 14),oo 17 (Ld 16) [16],omk 7 17]
def N9:List RI:=[om 18 7,oo 19 (Ln 18) [18],oo 20 (.toInt .u32 (.t 19)) [19],omk 8 20]
def N8:List RI:=[omk 21 5,om 22 8,oo 23 (.bin .shr (.t 22) (.c (.int .u64 24))) [22],oo 24 (.toInt .u8 (.t 23)) [23],om 25 8,oo 26 (.bin .shr (.t 25) (.c (.int .u64 16))) [25],oo 27 (.toInt .u8 (.t 26)) [26],om 28 8,oo 29 (.bin .shr (.t 28) (.c (.int .u64 8))) [28],oo 30 (.toInt .u8 (.t 29)) [29],omk 31 8,oo 32 (.toInt .u8 (.t 31)) [31],oo 33 (.litB [.t 24,.t 27,.t 30,.t 32]) [24,27,30,32],oo 34 (.app [.u8 0] 1 (.t 21) (.t 33)) [21,33],omk 5 34]
def N7:List RI:=[omk 35 5,omk 36 7,oo 37 (.app [.u8 0] 1 (.t 35) (.t 36)) [35,36],omk 5 37]
def N6:List RI:=[oo 38 (Bc .add 14 1) [14],omk 14 38]
def Ai:RC:=(.post (So Ob (Sq (Kc 15 (Kk [15] .skip) (Kk [12,13,14,15] (.exit 0))) (Sq (Bk 1 (So Oa (So N9 (So N8 (.ops N7))))) (.ops N6)))) [.tok 5 105])
def N5:RC:=Ai
def CN:List RI:=[omk 39 5,omk 4 39]
def xkw:RC:=(So lB (So Od (Sq (So Oc (Bk 0 (.pre [.tok 5 105] (.loop N5)))) (So CN .ret))))
def xbw:FnC:=⟨xkw,40,[.tmp 4],[],[]⟩
def N4:List RI:=[on 0 (.new (.arr 1 (am 64 [.int .u32 0])))]
def N3:List RI:=[on 1 (.build [.int .u32 0,.int .u32 0,.int .u32 0,.int .u32 0,.int .u32 0,.int .u32 0,.int .u32 0,.int .u32 0,.int .u32 0,.int .u32 0,.int .u32 0,.int .u32 0,.int .u32 0,.int .u32 0,.int .u32 0,.int .u32 0,.int .u32 0,.int .u32 0,.int .u32 0,.int .u32 0,.int .u32 0,.int .u32 0,.int .u32 0,.int .u32 0,.int .u32 0,.int .u32 0,.int .u32 0,.int .u32 0,.int .u32 0,.int .u32 0,.int .u32 0,.int .u32 0,.int .u32 0,.int .u32 0,.int .u32 0,.int .u32 0,.int .u32 0,.int .u32 0,.int .u32 0,.int .u32 0,.int .u32 0,.int .u32 0,.int .u32 0,.int .u32 0,.int .u32 0,.int .u32 0,.int .u32 0,.int .u32 0,.int .u32 0,.int .u32 0,.int .u32 0,.int .u32 0,.int .u32 0,.int .u32 0,.int .u32 0,.int .u32 0,.int .u32 0,.int .u32 0,.int .u32 0,.int .u32 0,.int .u32 0,.int .u32 0,.int .u32 0,.int .u32 0] [(0,1,(.c (.int .u32 1116352408))),(1,1,(.c (.int .u32 1899447441))),(2,1,(.c (.int .u32 3049323471))),(3,1,(.c (.int .u32 3921009573))),(4,1,(.c (.int .u32 961987163))),(5,1,(.c (.int .u32 1508970993))),(6,1,(.c (.int .u32 2453635748))),(7,1,(.c (.int .u32 2870763221))),(8,1,(.c (.int .u32 3624381080))),(9,1,(.c (.int .u32 310598401))),(10,1,(.c (.int .u32 607225278))),(11,1,(.c (.int .u32 1426881987))),(12,1,(.c (.int .u32 1925078388))),(13,1,(.c (.int .u32 2162078206))),(14,1,(.c (.int .u32 2614888103))),(15,1,(.c (.int .u32 3248222580))),(16,1,(.c (.int .u32 3835390401))),(17,1,(.c (.int .u32 4022224774))),(18,1,(.c (.int .u32 264347078))),(19,1,(.c (.int .u32 604807628))),(20,1,(.c (.int .u32 770255983))),(21,1,(.c (.int .u32 1249150122))),(22,1,(.c (.int .u32 1555081692))),(23,1,(.c (.int .u32 1996064986))),(24,1,(.c (.int .u32 2554220882))),(25,1,(.c (.int .u32 2821834349))),(26,1,(.c (.int .u32 2952996808))),(27,1,(.c (.int .u32 3210313671))),(28,1,(.c (.int .u32 3336571891))),(29,1,(.c (.int .u32 3584528711))),(30,1,(.c (.int .u32 113926993))),(31,1,(.c (.int .u32 338241895))),(32,1,(.c (.int .u32 666307205))),(33,1,(.c (.int .u32 773529912))),(34,1,(.c (.int .u32 1294757372))),(35,1,(.c (.int .u32 1396182291))),(36,1,(.c (.int .u32 1695183700))),(37,1,(.c (.int .u32 1986661051))),(38,1,(.c (.int .u32 2177026350))),(39,1,(.c (.int .u32 2456956037))),(40,1,(.c (.int .u32 2730485921))),(41,1,(.c (.int .u32 2820302411))),(42,1,(.c (.int .u32 3259730800))),(43,1,(.c (.int .u32 3345764771))),(44,1,(.c (.int .u32 3516065817))),(45,1,(.c (.int .u32 3600352804))),(46,1,(.c (.int .u32 4094571909))),(47,1,(.c (.int .u32 275423344))),(48,1,(.c (.int .u32 430227734))),(49,1,(.c (.int .u32 506948616))),(50,1,(.c (.int .u32 659060556))),(51,1,(.c (.int .u32 883997877))),(52,1,(.c (.int .u32 958139571))),(53,1,(.c (.int .u32 1322822218))),(54,1,(.c (.int .u32 1537002063))),(55,1,(.c (.int .u32 1747873779))),(56,1,(.c (.int .u32 1955562222))),(57,1,(.c (.int .u32 2024104815))),(58,1,(.c (.int .u32 2227730452))),(59,1,(.c (.int .u32 2361852424))),(60,1,(.c (.int .u32 2428436474))),(61,1,(.c (.int .u32 2756734187))),(62,1,(.c (.int .u32 3204031479))),(63,1,(.c (.int .u32 3329325298)))]),Sr 64 0 1 [1]]
def xkv:RC:=(So N4 (So N3 .ret))
def xbv:FnC:=⟨xkv,2,[.cell 0 64 true],[],[]⟩
def N2:List RI:=[on 6 (.litB []),om 7 0,oo 8 (.app [.u8 0] 1 (.t 6) (.t 7)) [6,7],on 9 (.litB [(.c (.u8 128))]),oo 10 (.app [.u8 0] 1 (.t 8) (.t 9)) [8,9],omk 3 10]
def N1:List RI:=[om 11 3,oo 12 (Ln 11) [11],oo 13 (Bc .rem 12 64) [12],oo 14 (Bc .neq 13 56) [13]]
def N0:List RI:=[omk 15 3,on 16 (.litB [(.c (.u8 0))]),oo 17 (.app [.u8 0] 1 (.t 15) (.t 16)) [15,16],omk 3 17]
def Ah:RC:=(.post (Sq (So N1 (Kc 14 (Kk [14] .skip) (Kk [14] (.exit 0)))) (Bk 1 (.ops N0))) [.tok 3 103])
def yW:RC:=Ah
def NZ:List RI:=[omk 18 0,oo 19 (Ln 18) [18],oo 20 (.toInt .u64 (.t 19)) [19],oo 21 (.bin .mul (.t 20) (.c (.int .u64 8))) [20],omk 4 21]
def NY:List RI:=[on 5 (Mc 7)]
def NX:List RI:=[om 22 5,oo 23 (Bc .geq 22 0) [22]]
def NW:List RI:=[omk 26 3,om 27 4,om 28 5,oo 29 (.toInt .u64 (.t 28)) [28],oo 30 (.bin .mul (.c (.int .u64 8)) (.t 29)) [29],oo 31 (Bb .shr 27 30) [27,30],oo 32 (.toInt .u8 (.t 31)) [31],oo 33 (.litB [.t 32]) [32],oo 34 (.app [.u8 0] 1 (.t 26) (.t 33)) [26,33],omk 3 34]
def NV:List RI:=[omk 24 5,oo 25 (Bc .sub 24 1) [24],omk 5 25]
def tR:RC:=(.post (Sq (So NX (Kc 23 (Kk [23] .skip) (Kk [4,5,23] (.exit 2)))) (Sq (Bk 3 (.ops NW)) (.ops NV))) [.tok 3 103])
def sY:RC:=tR
def CM:List RI:=[omk 35 3,omk 2 35]
def xku:RC:=(So me (So N2 (Sq (Bk 0 (.pre [.tok 3 103] (.loop yW))) (So NZ (Sq (So NY (Bk 2 (.pre [.tok 3 103] (.loop sY)))) (So CM .ret))))))
def xbu:FnC:=⟨xku,36,[.tmp 2],[],[]⟩
def od:List RI:=[oo 4 (.mov (.c (.int .u32 0))) [4]]
def yV:List FI:=[Fm 0 5 0,Fm 1 6 1,Fs 2 7 (.bin .mul (ci 4) (.t 6)),Fs 3 8 (Ia 1 5 7),Fs 4 9 (Ld 8),Fs 5 10 (.toInt .u32 (.t 9)),Fs 6 11 (.bin .shl (.t 10) (.c (.int .u64 24))),Fm 7 12 0,Fm 8 13 1,Fs 9 14 (.bin .mul (ci 4) (.t 13)),Fs 10 15 (Bc .add 14 1),Fs 11 16 (Ia 1 12 15),Fs 12 17 (Ld 16),Fs 13 18 (.toInt .u32 (.t 17)),Fs 14 19 (.bin .shl (.t 18) (.c (.int .u64 16))),Fs 15 20 (Bb .or 11 19),Fm 16 21 0,Fm 17 22 1,Fs 18 23 (.bin .mul (ci 4) (.t 22)),Fs 19 24 (Bc .add 23 2),Fs 20 25 (Ia 1 21 24),Fs 21 26 (Ld 25),Fs 22 27 (.toInt .u32 (.t 26)),Fs 23 28 (.bin .shl (.t 27) (.c (.int .u64 8))),Fs 24 29 (Bb .or 20 28),Fm 25 30 0,Fm 26 31 1,Fs 27 32 (.bin .mul (ci 4) (.t 31)),Fs 28 33 (Bc .add 32 3),Fs 29 34 (Ia 1 30 33),Fs 30 35 (Ld 34),Fs 31 36 (.toInt .u32 (.t 35)),Fs 32 37 (Bb .or 29 36),Fm 33 4 37]
def xkt:RC:=(So od (Sq (.flt [0,0,2,7,15,31,63,0,0,256,768,1920,3968,8064,16256,32767,0,0,131072,393216,983040,2031616,4128768,8323072,16777215,0,0,67108864,201326592,503316480,1040187392,2113929216,4294967295,8589934591] [] yV [0,1,5,6,7,8,9,10,11,12,13,14,15,16,17,18,19,20,21,22,23,24,25,26,27,28,29,30,31,32,33,34,35,36,37]) .ret))
def xbt:FnC:=⟨xkt,38,[.tmp 4],[],[]⟩
def NU:List RI:=[om 5 0,om 6 1,oo 7 (Bb .shr 5 6) [5,6],omk 8 0,omk 9 1,oo 10 (.bin .sub (.c (.int .u64 32)) (.t 9)) [9],oo 11 (Bb .shl 8 10) [8,10],oo 12 (Bb .or 7 11) [7,11],omk 4 12]
def xks:RC:=(So od (So NU .ret))
def xbs:FnC:=⟨xks,13,[.tmp 4],[],[]⟩
def yU:List RI:=[on 3 (.mov (.c (.byt [] .clip)))]
def NT:List RI:=[om 5 4,om 6 0,oo 7 (Ln 6) [6],oo 8 (Bb .lss 5 7) [5,7]]
def NS:List FI:=[Fm 0 11 3,Fm 1 12 0,Fm 2 13 4,Fs 3 14 (Ia 1 12 13),Fs 4 15 (Ld 14),Fs 5 16 (.bin .shr (.t 15) (.c (.int .u64 24))),Fs 6 17 (.toInt .u8 (.t 16)),Fm 7 18 0,Fm 8 19 4,Fs 9 20 (Ia 1 18 19),Fs 10 21 (Ld 20),Fs 11 22 (.bin .shr (.t 21) (.c (.int .u64 16))),Fs 12 23 (.toInt .u8 (.t 22)),Fm 13 24 0,Fm 14 25 4,Fs 15 26 (Ia 1 24 25),Fs 16 27 (Ld 26),Fs 17 28 (.bin .shr (.t 27) (.c (.int .u64 8))),Fs 18 29 (.toInt .u8 (.t 28)),Fm 19 30 0,Fm 20 31 4,Fs 21 32 (Ia 1 30 31),Fs 22 33 (Ld 32),Fs 23 34 (.toInt .u8 (.t 33)),Fs 24 35 (.litB [.t 17,.t 23,.t 29,.t 34]),Fz 25 36 (.app [.u8 0] 1 (.t 11) (.t 35)),⟨26,false,(xm 3 36)⟩]
def NR:List RI:=[omk 9 4,oo 10 (Bc .add 9 1) [9],omk 4 10]
def Ag:RC:=(.post (Sq (So NT (Kc 8 (Kk [8] .skip) (Kk [0,4,8] (.exit 0)))) (Sq (Bk 1 (.flt [0,0,0,6,14,30,62,0,0,384,896,1920,3968,0,0,24576,57344,122880,253952,0,0,1572864,3670016,7864320,16777214,33554431,67108863] [136] NS [11,12,13,14,15,16,17,18,19,20,21,22,23,24,25,26,27,28,29,30,31,32,33,34,35,36])) (.ops NR))) [.tok 3 103])
def yT:RC:=Ag
def yS:List RI:=[omk 37 3,omk 2 37]
def xkr:RC:=(So me (So yU (Sq (So lD (Bk 0 (.pre [.tok 3 103] (.loop yT)))) (So yS .ret))))
def xbr:FnC:=⟨xkr,38,[.tmp 2],[],[]⟩
def NF:List RI:=[omk 5 0,omk 6 1,oo 7 (.toInt .u64 (.t 6)) [6],oo 8 (Bb .shr 5 7) [5,7],oo 9 (Bc .and 8 1) [8],oo 10 (Bc .eql 9 1) [9],omk 4 10]
def xkq:RC:=(So oO (So NF .ret))
def xbq:FnC:=⟨xkq,11,[.tmp 4],[],[]⟩
def NE:List RI:=[omk 5 0]
def ND:List RI:=[on 7 (Bc .eql 5 0),omk 6 7]
def NC:List RI:=[omk 8 1,oo 9 (Ca 144 [.t 8]) [8],omk 4 9]
def NB:List RI:=[oo 11 (Bc .eql 5 1) [5],omk 10 11]
def NA:List RI:=[omk 12 1,oo 13 (Ca 65 [.t 12]) [12],omk 4 13]
def xkp:RC:=(So lB (Sq (So NE (Bk 0 (So ND (Kc 6 (Kk [5,6] (So NC .ret)) (Kk [6] (So NB (Kc 10 (Kk [10] (So NA .ret)) (Kk [1,10] .skip)))))))) (So kM .ret)))
def xbp:FnC:=⟨xkp,14,[.tmp 4],[],[]⟩
def Nz:List RI:=[on 0 (.new (.arr 1 (am 5 [.str []])))]
def Ny:List RI:=[on 1 (.build [.str [],.str [],.str [],.str [],.str []] [(0,1,(.c (.str [97]))),(1,1,(.c (.str [103,114,117,98]))),(2,1,(.c (.str [108,105,110,117,120]))),(3,1,(.c (.str [110,101,116,45,48]))),(4,1,(.c (.str [116,119,101,108,118,101,45,98,121,116,101,115])))]),Sr 5 0 1 [1]]
def xko:RC:=(So Nz (So Ny .ret))
def xbo:FnC:=⟨xko,2,[.cell 0 5 true],[],[]⟩
def Nw:List RI:=[om 5 0,oo 6 (Ca 71 [.t 5,ci 4]) [5],oo 7 (.bin .add (ci 1) (.t 6)) [6],omk 4 7]
def Nv:List RI:=[om 8 4,oo 9 (Bc .gtr 8 0) [8]]
def Nu:List RI:=[omk 12 3,om 13 0,oo 14 (Ca 73 [.t 13]) [13],oo 15 (.app [.u8 0] 1 (.t 12) (.t 14)) [12,14],on 16 (.litB [(.c (.u8 10))]),oo 17 (.app [.u8 0] 1 (.t 15) (.t 16)) [15,16],omk 3 17]
def Nt:List RI:=[omk 10 4,oo 11 (Bc .sub 10 1) [10],omk 4 11]
def Ad:RC:=(.post (Sq (So Nv (Kc 9 (Kk [9] .skip) (Kk [0,4,9] (.exit 0)))) (Sq (Bk 1 (.ops Nu)) (.ops Nt))) [.gc [115],.tok 3 103])
def yR:RC:=Ad
def Ns:List RI:=[omk 18 3,omk 2 18]
def xkn:RC:=(So me (So yU (Sq (So Nw (Bk 0 (.pre [.tok 3 103] (.loop yR)))) (So Ns .ret))))
def xbn:FnC:=⟨xkn,19,[.tmp 2],[],[]⟩
def Nr:List RI:=[omk 3 0,oo 4 (Ca 145 [.t 3,ci 10]) [3],omk 2 4]
def xkm:RC:=(So EL (So Nr .ret))
def xbm:FnC:=⟨xkm,5,[.tmp 2],[],[]⟩
def Nq:List RI:=[om 4 3,om 5 0,oo 6 (Ln 5) [5],oo 7 (Bb .lss 4 6) [4,6]]
def Np:List RI:=[om 10 0,om 11 3,oo 12 (Ia 1 10 11) [10,11],oo 13 (Ld 12) [12],oo 14 (.bin .lss (.t 13) (.c (.u8 32))) [13],omk 15 14,.grp 15 false [(xi 16 15 false (Mv 0)),(xi 17 15 false (Mv 3)),(xi 18 15 false (Ia 1 16 17)),(xi 19 15 false (Ld 18)),(xi 20 15 false (.bin .gtr (.t 19) (.c (.u8 126))))] [16,17,18,19],oo 21 (Pt 15 20) [15,20]]
def No:List RI:=[omk 8 3,oo 9 (Bc .add 8 1) [8],omk 3 9]
def Ac:RC:=(Sq (So Nq (Kc 7 (Kk [7] .skip) (Kk [3,7] (.exit 0)))) (Sq (Bk 1 (So Np (Kc 21 (Kk [0,3,21] (So jI .ret)) (Kk [21] .skip)))) (.ops No)))
def yQ:RC:=Ac
def Nn:List RI:=[omk 22 0,oo 23 (Ln 22) [22],oo 24 (Bc .gtr 23 0) [23],omk 2 24]
def xkl:RC:=(So uj (Sq (So qY (Bk 0 (.loop yQ))) (So Nn .ret)))
def xbl:FnC:=⟨xkl,25,[.tmp 2],[],[]⟩
def Nm:List RI:=[om 9 1,oo 10 (Ln 9) [9],oo 11 (Bc .add 10 1) [10],oo 12 (.mk [.bool false] 1 (.t 11) (.t 11)) [11],omk 5 12]
def Nl:List RI:=[om 13 5,oo 14 (.iaddrL 1 (.t 13) (ci 0)) [13],.op ⟨none,none,.store 1 (.t 14) (.c (.bool true))⟩ [14]]
def Nk:List RI:=[om 15 6,om 16 0,oo 17 (.len true (.t 16)) [16],oo 18 (Bb .lss 15 17) [15,17]]
def Nj:List RI:=[om 21 1,oo 22 (Ln 21) [21],oo 23 (Bc .add 22 1) [22],oo 24 (.mk [.bool false] 1 (.t 23) (.t 23)) [23],omk 7 24]
def Ni:List RI:=[om 25 8,om 26 1,oo 27 (Ln 26) [26],oo 28 (Bb .leq 25 27) [25,27]]
def Nh:List RI:=[om 32 0,om 33 6,oo 34 (.idxS (.t 32) (.t 33)) [32,33],oo 35 (.bin .eql (.t 34) (.c (.u8 42))) [34],omk 31 35]
def Ng:List RI:=[om 36 7,om 37 8,om 38 5,om 39 8,oo 40 (Ia 1 38 39) [38,39],oo 41 (Ld 40) [40],omk 42 41,.grp 42 false [(xi 43 42 false (Mv 8)),(xi 44 42 false (Bc .gtr 43 0)),(xi 45 42 false (Mv 44))] [43,44],.grp 45 true [(xi 46 45 true (Mv 7)),(xi 47 45 true (Mv 8)),(xi 48 45 true (Bc .sub 47 1)),(xi 49 45 true (Ia 1 46 48)),(xi 50 45 true (Ld 49))] [46,47,48,49],.grp 42 false [(xi 51 42 false (Pf 45 50))] [45,50],oo 52 (Pt 42 51) [42,51],oo 53 (Ia 1 36 37) [36,37],Sr 1 53 52 [52,53]]
def CL:List RI:=[om 55 8,oo 56 (Bc .gtr 55 0) [55],omk 54 56]
def CK:List FI:=[Fm 0 57 7,Fm 1 58 8,Fm 2 59 5,Fm 3 60 8,Fs 4 61 (Bc .sub 60 1),Fs 5 62 (Ia 1 59 61),Fs 6 63 (Ld 62),Fm 7 64 63,Fi 8 65 64 true (Mv 0),Fi 9 66 64 true (Mv 6),Fi 10 67 64 true (.idxS (.t 65) (.t 66)),Fi 11 68 64 true (.bin .eql (.t 67) (.c (.u8 63))),Fi 12 69 64 true (Mv 68),Fi 13 70 69 false (Mv 0),Fi 14 71 69 false (Mv 6),Fi 15 72 69 false (.idxS (.t 70) (.t 71)),Fi 16 73 69 false (Mv 1),Fi 17 74 69 false (Mv 8),Fi 18 75 69 false (Bc .sub 74 1),Fi 19 76 69 false (Ia 1 73 75),Fi 20 77 69 false (Ld 76),Fi 21 78 69 false (Bb .eql 72 77),Fi 22 79 64 true (Pt 69 78),Fs 23 80 (Pf 64 79),Fs 24 81 (Ia 1 57 58),Fr 25 1 81 80]
def CJ:List RI:=[omk 29 8,oo 30 (Bc .add 29 1) [29],omk 8 30]
def tQ:RC:=(Sq (So Ni (Kc 28 (Kk [28] .skip) (Kk [5,8,28] (.exit 2)))) (Sq (Bk 3 (Bk 4 (So Nh (Kc 31 (Kk [31] (.ops Ng)) (Kk [31] (So CL (Kc 54 (Kk [54] (.flt [0,0,0,0,8,28,60,124,252,252,1020,2044,4092,8188,8188,32764,8188,8188,139260,466940,991228,2097148,4194300,8388604,16777215,33554431] [] CK [57,58,59,60,61,62,63,64,65,66,67,68,69,70,71,72,73,74,75,76,77,78,79,80,81])) (Kk [54] .skip)))))))) (.ops CJ)))
def sX:RC:=tQ
def CI:List RI:=[omk 82 7,omk 5 82]
def CH:List RI:=[omk 19 6,oo 20 (Bc .add 19 1) [19],omk 6 20]
def tP:RC:=(.post (Sq (So Nk (Kc 18 (Kk [18] .skip) (Kk [0,6,18] (.exit 0)))) (Sq (Bk 1 (So Nj (Sq (So oc (Bk 2 (.loop sX))) (.ops CI)))) (.ops CH))) [.pub 5])
def sW:RC:=tP
def CG:List RI:=[omk 83 5,omk 84 1,oo 85 (Ln 84) [84],oo 86 (Ia 1 83 85) [83,85],oo 87 (Ld 86) [86],omk 4 87]
def xkk:RC:=(So oO (So Nm (So Nl (Sq (So lh (Bk 0 (.pre [.pub 5] (.loop sW)))) (So CG .ret)))))
def xbk:FnC:=⟨xkk,88,[.tmp 4],[],[]⟩
def qE:List RI:=[oo 4 (.mov (.c (.str []))) [4]]
def Nf:List RI:=[om 7 0,oo 8 (.bin .eql (.t 7) (.c (.str []))) [7],omk 9 8,.grp 9 false [(xi 10 9 false (Mv 1)),(xi 11 9 false (.bin .eql (.t 10) (.c (.str []))))] [10],oo 12 (Pt 9 11) [9,11]]
def Nd:List RI:=[omk 13 0,omk 4 13]
def Nc:List RI:=[om 14 1,oo 15 (.len true (.t 14)) [14],oo 16 (Bc .eql 15 1) [15],omk 17 16,.grp 17 true [(xi 18 17 true (Mv 1)),(xi 19 17 true (.idxS (.t 18) (ci 0))),(xi 20 17 true (.bin .lss (.t 19) (.c (.u8 128))))] [18,19],oo 21 (Pf 17 20) [17,20]]
def Nb:List FI:=[Fm 0 22 0,Fm 1 23 1,Fs 2 24 (.idxS (.t 23) (ci 0)),Fm 4 26 1,Fs 5 27 (.idxS (.t 26) (ci 0)),Fz 3 25 (Ca 147 [.t 22,.t 24]),Fz 6 28 (Ca 146 [.t 25,.t 27]),Fm 7 4 28]
def Na:List RI:=[om 30 1,oo 31 (Ca 148 [.t 30]) [30],omk 29 31,on 32 (.ext (.t 29) 0),oo 33 (.ext (.t 29) 1) [29],on 5 (.new (.arr 1 (am 256 [.bool false]))),Sr 256 5 32 [32],omk 6 33]
def M9:List RI:=[omk 34 6]
def M8:List RI:=[omk 35 0,oo 36 (Ca 150 [.t 35,.t 5]) [35],oo 37 (Ca 149 [.t 36,.t 5]) [5,36],omk 4 37]
def M7:List RI:=[omk 38 0,om 39 1,oo 40 (Ca 152 [.t 38,.t 39]) [38,39],omk 41 1,oo 42 (Ca 151 [.t 40,.t 41]) [40,41],omk 4 42]
def xkj:RC:=(So qE (Sq (So Nf (Kc 12 (Kk [1,12] (So Nd .ret)) (Kk [12] .skip))) (Sq (So Nc (Kc 21 (Kk [21] (Sq (.flt [0,0,2,7,0,16,63,127] [] Nb [0,1,22,23,24,25,26,27,28]) .ret)) (Kk [21] .skip))) (Sq (So Na (So M9 (Kc 34 (Kk [1,34] (So M8 .ret)) (Kk [5,34] .skip)))) (So M7 .ret)))))
def xbj:FnC:=⟨xkj,43,[.tmp 4],[],[]⟩
def M6:List RI:=[om 6 0,om 7 1,oo 8 (Ca 153 [.t 6,.t 7]) [6,7],oo 9 (.un .not (.t 8)) [8]]
def M5:List RI:=[omk 10 0,omk 4 10,on 5 (Mb false)]
def M4:List RI:=[omk 11 0,omk 12 1,oo 13 (.len true (.t 12)) [12],oo 14 (.slcS (.t 11) (some (.t 13)) none) [11,13],omk 4 14,on 5 (Mb true)]
def xki:RC:=(So PH (Sq (So M6 (Kc 9 (Kk [1,9] (So M5 .ret)) (Kk [9] .skip))) (So M4 .ret)))
def xbi:FnC:=⟨xki,15,[.tmp 4,.tmp 5],[],[]⟩
def yP:List RI:=[oo 2 (Mc 0) [2],oo 3 (.mov (.c .nili)) [3]]
def M3:List RI:=[om 7 0,oo 8 (Ca 154 [.t 7]) [7],omk 6 8,on 9 (.ext (.t 6) 0),oo 10 (.ext (.t 6) 1) [6],omk 4 9,omk 5 10]
def M2:List RI:=[om 11 5,oo 12 (.isni true (.t 11)) [11]]
def M1:List RI:=[omk 13 4,omk 14 0,omk 15 5,oo 16 (Ca 155 [(.c (.str [65,116,111,105])),.t 14,ci 0,ci 0,.t 15]) [14,15],omk 2 13,omk 3 16]
def M0:List RI:=[omk 17 4,omk 2 17,on 3 (.mov (.c .nili))]
def xkh:RC:=(So yP (So M3 (Sq (So M2 (Kc 12 (Kk [12] (So M1 .ret)) (Kk [0,5,12] .skip))) (So M0 .ret))))
def xbh:FnC:=⟨xkh,18,[.tmp 2,.tmp 3],[],[]⟩
def MZ:List RI:=[om 6 0,oo 7 (Ln 6) [6],oo 8 (Bc .add 7 72) [7],oo 9 (.mkB (ci 0) (.t 8)) [8],om 10 0,.dir (.tok 9 109),oo 11 (.app [.u8 0] 1 (.t 9) (.t 10)) [9,10],on 12 (.litB [(.c (.u8 128))]),oo 13 (.app [.u8 0] 1 (.t 11) (.t 12)) [11,12],omk 3 13]
def MY:List RI:=[om 14 3,oo 15 (Ln 14) [14],oo 16 (Bc .rem 15 64) [15],oo 17 (Bc .neq 16 56) [16]]
def MX:List RI:=[omk 18 3,on 19 (.litB [(.c (.u8 0))]),oo 20 (.app [.u8 0] 1 (.t 18) (.t 19)) [18,19],omk 3 20]
def Ab:RC:=(.post (Sq (So MY (Kc 17 (Kk [17] .skip) (Kk [17] (.exit 0)))) (Bk 1 (.ops MX))) [.tok 3 103])
def yO:RC:=Ab
def MW:List RI:=[omk 21 0,oo 22 (Ln 21) [21],oo 23 (.toInt .u64 (.t 22)) [22],oo 24 (.bin .mul (.t 23) (.c (.int .u64 8))) [23],omk 4 24]
def MV:List RI:=[on 5 (Mc 56)]
def MU:List RI:=[om 25 5,oo 26 (Bc .geq 25 0) [25]]
def MT:List RI:=[omk 29 3,om 30 4,om 31 5,oo 32 (.toInt .u64 (.t 31)) [31],oo 33 (Bb .shr 30 32) [30,32],oo 34 (.toInt .u8 (.t 33)) [33],oo 35 (.litB [.t 34]) [34],oo 36 (.app [.u8 0] 1 (.t 29) (.t 35)) [29,35],omk 3 36]
def MS:List RI:=[omk 27 5,oo 28 (Bc .sub 27 8) [27],omk 5 28]
def tO:RC:=(.post (Sq (So MU (Kc 26 (Kk [26] .skip) (Kk [4,5,26] (.exit 2)))) (Sq (Bk 3 (.ops MT)) (.ops MS))) [.tok 3 103])
def sV:RC:=tO
def xkg:RC:=(So me (So MZ (Sq (Bk 0 (.pre [.tok 3 103] (.loop yO))) (So MW (Sq (So MV (Bk 2 (.pre [.tok 3 103] (.loop sV)))) (So yS .ret))))))
def xbg:FnC:=⟨xkg,38,[.tmp 2],[],[]⟩
def MR:List RI:=[on 4 (.new (.arr 1 (am 80 [.int .u32 0])))]
def MQ:List RI:=[on 14 (Mc 0)]
def MP:List RI:=[on 15 (Bc .lss 14 80)]
def MO:List RI:=[om 16 14,omk 5 16]
def MN:List RI:=[om 17 5,oo 18 (Bc .lss 17 16) [17]]
def MM:List RI:=[om 19 5,om 20 1,omk 21 5,oo 22 (Ca 156 [.t 20,.t 21]) [20,21],oo 23 (.iaddrA 80 1 (.t 4) (.t 19)) [19],Sr 1 23 22 [22,23]]
def ML:List FI:=[Fm 0 24 5,Fm 1 25 5,Fs 2 26 (Bc .sub 25 3),Fs 3 27 (.iaddrA 80 1 (.t 4) (.t 26)),Fs 4 28 (Ld 27),Fm 5 29 5,Fs 6 30 (Bc .sub 29 8),Fs 7 31 (.iaddrA 80 1 (.t 4) (.t 30)),Fs 8 32 (Ld 31),Fs 9 33 (Bb .xor 28 32),Fm 10 34 5,Fs 11 35 (Bc .sub 34 14),Fs 12 36 (.iaddrA 80 1 (.t 4) (.t 35)),Fs 13 37 (Ld 36),Fs 14 38 (Bb .xor 33 37),Fm 15 39 5,Fs 16 40 (Bc .sub 39 16),Fs 17 41 (.iaddrA 80 1 (.t 4) (.t 40)),Fs 18 42 (Ld 41),Fs 19 43 (Bb .xor 38 42),Fz 20 44 (Ca 157 [.t 43,ci 1]),Fs 21 45 (.iaddrA 80 1 (.t 4) (.t 24)),Fr 22 1 45 44]
def MK:List RI:=[oo 46 (Bc .add 14 1) [14],omk 14 46]
def Aa:RC:=(So MP (Sq (Kc 15 (Kk [15] .skip) (Kk [1,14,15] (.exit 0))) (Sq (Bk 1 (So MO (So MN (Kc 18 (Kk [18] (.ops MM)) (Kk [18] (.flt [0,0,2,6,14,0,32,96,224,510,0,1024,3072,7168,16382,0,32768,98304,229376,524286,1048574,2097151,4194303] [] ML [5,24,25,26,27,28,29,30,31,32,33,34,35,36,37,38,39,40,41,42,43,44,45])))))) (.ops MK))))
def yN:RC:=Aa
def MJ:List FI:=[Fm 0 47 0,Fs 1 48 (.nchk (.t 47)),Fs 2 49 (.iaddrA 5 1 (.t 48) (ci 0)),Fs 3 50 (Ld 49),Fm 4 51 0,Fs 5 52 (.nchk (.t 51)),Fs 6 53 (.iaddrA 5 1 (.t 52) (ci 1)),Fs 7 54 (Ld 53),Fm 8 55 0,Fs 9 56 (.nchk (.t 55)),Fs 10 57 (.iaddrA 5 1 (.t 56) (ci 2)),Fs 11 58 (Ld 57),Fm 12 59 0,Fs 13 60 (.nchk (.t 59)),Fs 14 61 (.iaddrA 5 1 (.t 60) (ci 3)),Fs 15 62 (Ld 61),Fm 16 63 0,Fs 17 64 (.nchk (.t 63)),Fs 18 65 (.iaddrA 5 1 (.t 64) (ci 4)),Fs 19 66 (Ld 65),Fm 20 6 50,Fm 21 7 54,Fm 22 8 58,Fm 23 9 62,Fm 24 10 66]
def CF:List RI:=[on 67 (Mc 0)]
def CE:List RI:=[on 68 (Bc .lss 67 80)]
def CD:List RI:=[om 69 67,omk 11 69]
def CC:List RI:=[oo 12 (.mov (.c (.int .u32 0))) [12],oo 13 (.mov (.c (.int .u32 0))) [13]]
def CB:List RI:=[om 70 11,oo 71 (Bc .quo 70 20) [70]]
def CA:List RI:=[on 78 (Bc .eql 71 0),omk 77 78]
def Cz:List RI:=[om 79 7,om 80 8,oo 81 (Bb .and 79 80) [79,80],om 82 7,oo 83 (.un .xor (.t 82)) [82],om 84 9,oo 85 (Bb .and 83 84) [83,84],oo 86 (Bb .xor 81 85) [81,85],omk 12 86,on 13 (.mov (.c (.int .u32 1518500249)))]
def Cy:List RI:=[on 88 (Bc .eql 71 1),omk 87 88]
def Cx:List RI:=[om 89 7,om 90 8,oo 91 (Bb .xor 89 90) [89,90],om 92 9,oo 93 (Bb .xor 91 92) [91,92],omk 12 93,on 13 (.mov (.c (.int .u32 1859775393)))]
def Cw:List RI:=[oo 95 (Bc .eql 71 2) [71],omk 94 95]
def Cv:List RI:=[om 96 7,om 97 8,oo 98 (Bb .and 96 97) [96,97],om 99 7,om 100 9,oo 101 (Bb .and 99 100) [99,100],oo 102 (Bb .xor 98 101) [98,101],om 103 8,om 104 9,oo 105 (Bb .and 103 104) [103,104],oo 106 (Bb .xor 102 105) [102,105],omk 12 106,on 13 (.mov (.c (.int .u32 2400959708)))]
def Cu:List RI:=[om 72 7,om 73 8,oo 74 (Bb .xor 72 73) [72,73],om 75 9,oo 76 (Bb .xor 74 75) [74,75],omk 12 76,on 13 (.mov (.c (.int .u32 3395469782)))]
def Ct:List FI:=[Fm 0 107 6,Fm 2 109 12,Fm 4 111 10,Fm 6 113 13,Fm 8 115 11,Fs 9 116 (.iaddrA 80 1 (.t 4) (.t 115)),Fs 10 117 (Ld 116),Fm 12 119 6,Fm 13 120 7,Fm 15 122 8,Fm 16 123 9,Fz 1 108 (Ca 157 [.t 107,ci 5]),Fs 3 110 (Bb .add 108 109),Fs 5 112 (Bb .add 110 111),Fs 7 114 (Bb .add 112 113),Fs 11 118 (Bb .add 114 117),Fz 14 121 (Ca 157 [.t 120,ci 30]),⟨17,false,(xm 6 118)⟩,⟨18,false,(xm 7 119)⟩,⟨19,false,(xm 8 121)⟩,⟨20,false,(xm 9 122)⟩,⟨21,false,(xm 10 123)⟩]
def Cs:List RI:=[oo 124 (Bc .add 67 1) [67],omk 67 124]
def tN:RC:=(So CE (Sq (Kc 68 (Kk [68] .skip) (Kk [4,67,68] (.exit 2))) (Sq (Bk 3 (So CD (So CC (Sq (So CB (Bk 4 (So CA (Kc 77 (Kk [71,77] (.ops Cz)) (Kk [77] (So Cy (Kc 87 (Kk [71,87] (.ops Cx)) (Kk [87] (So Cw (Kc 94 (Kk [94] (.ops Cv)) (Kk [94] (.ops Cu)))))))))))) (.flt [0,1,0,7,0,31,0,127,0,256,768,2047,0,0,8195,0,0,131071,262143,524287,1048575,2097151] [] Ct [11,12,13,107,108,109,110,111,112,113,114,115,116,117,118,119,120,121,122,123]))))) (.ops Cs))))
def fT:RC:=tN
def Cr:List FI:=[Fm 0 125 0,Fs 1 126 (.nchk (.t 125)),Fs 2 127 (.iaddrA 5 1 (.t 126) (ci 0)),Fs 3 128 (Ld 127),Fm 4 129 6,Fs 5 130 (Bb .add 128 129),Fs 6 131 (.nchk (.t 125)),Fs 7 132 (.iaddrA 5 1 (.t 131) (ci 0)),Fr 8 1 132 130]
def Cq:List FI:=[Fm 0 133 0,Fs 1 134 (.nchk (.t 133)),Fs 2 135 (.iaddrA 5 1 (.t 134) (ci 1)),Fs 3 136 (Ld 135),Fm 4 137 7,Fs 5 138 (Bb .add 136 137),Fs 6 139 (.nchk (.t 133)),Fs 7 140 (.iaddrA 5 1 (.t 139) (ci 1)),Fr 8 1 140 138]
def Cp:List FI:=[Fm 0 141 0,Fs 1 142 (.nchk (.t 141)),Fs 2 143 (.iaddrA 5 1 (.t 142) (ci 2)),Fs 3 144 (Ld 143),Fm 4 145 8,Fs 5 146 (Bb .add 144 145),Fs 6 147 (.nchk (.t 141)),Fs 7 148 (.iaddrA 5 1 (.t 147) (ci 2)),Fr 8 1 148 146]
def Co:List FI:=[Fm 0 149 0,Fs 1 150 (.nchk (.t 149)),Fs 2 151 (.iaddrA 5 1 (.t 150) (ci 3)),Fs 3 152 (Ld 151),Fm 4 153 9,Fs 5 154 (Bb .add 152 153),Fs 6 155 (.nchk (.t 149)),Fs 7 156 (.iaddrA 5 1 (.t 155) (ci 3)),Fr 8 1 156 154]
def Cn:List FI:=[Fm 0 157 0,Fs 1 158 (.nchk (.t 157)),Fs 2 159 (.iaddrA 5 1 (.t 158) (ci 4)),Fs 3 160 (Ld 159),Fm 4 161 10,Fs 5 162 (Bb .add 160 161),Fs 6 163 (.nchk (.t 157)),Fs 7 164 (.iaddrA 5 1 (.t 163) (ci 4)),Fr 8 1 164 162]
def xkf:RC:=(So MR (Sq (So MQ (Bk 0 (.loop yN))) (Sq (.flt [0,1,3,7,0,16,48,112,0,256,768,1792,0,4096,12288,28672,0,65536,196608,458752,15,1048831,3149823,7405567,16777215] [] MJ [47,48,49,50,51,52,53,54,55,56,57,58,59,60,61,62,63,64,65,66]) (Sq (So CF (Bk 2 (.loop fT))) (Sq (.flt [0,1,3,7,0,31,1,127,255] [] Cr [6,125,126,127,128,129,130,131,132]) (Sq (.flt [0,1,3,7,0,31,1,127,255] [] Cq [7,133,134,135,136,137,138,139,140]) (Sq (.flt [0,1,3,7,0,31,1,127,255] [] Cp [8,141,142,143,144,145,146,147,148]) (Sq (.flt [0,1,3,7,0,31,1,127,255] [] Co [9,149,150,151,152,153,154,155,156]) (.flt [0,1,3,7,0,31,1,127,255] [] Cn [0,10,157,158,159,160,161,162,163,164])))))))))
def xbf:FnC:=⟨xkf,165,[],[],[]⟩
def MI:List RI:=[om 6 0,oo 7 (Ln 6) [6],oo 8 (.bin .mul (ci 4) (.t 7)) [7],oo 9 (.mkB (ci 0) (.t 8)) [8],omk 3 9]
def MH:List RI:=[omk 10 0,on 11 (Ln 10),on 12 (Mc 0)]
def MG:List RI:=[on 13 (Bb .lss 12 11)]
def MF:List RI:=[on 14 (Ia 1 10 12),oo 15 (Ld 14) [14],omk 5 15]
def ME:List RI:=[omk 16 3,om 17 5,oo 18 (.bin .shr (.t 17) (.c (.int .u64 24))) [17],oo 19 (.toInt .u8 (.t 18)) [18],om 20 5,oo 21 (.bin .shr (.t 20) (.c (.int .u64 16))) [20],oo 22 (.toInt .u8 (.t 21)) [21],om 23 5,oo 24 (.bin .shr (.t 23) (.c (.int .u64 8))) [23],oo 25 (.toInt .u8 (.t 24)) [24],omk 26 5,oo 27 (.toInt .u8 (.t 26)) [26],oo 28 (.litB [.t 19,.t 22,.t 25,.t 27]) [19,22,25,27],.dir (.tok 16 116),oo 29 (.app [.u8 0] 1 (.t 16) (.t 28)) [16,28],omk 3 29]
def MD:List RI:=[oo 30 (Bc .add 12 1) [12],omk 12 30]
def z9:RC:=(.post (So MG (Sq (Kc 13 (Kk [13] .skip) (Kk [10,11,12,13] (.exit 0))) (Sq (Bk 1 (So MF (.ops ME))) (.ops MD)))) [.tok 3 103])
def yM:RC:=z9
def MC:List RI:=[omk 31 3,omk 2 31]
def xke:RC:=(So me (So MI (Sq (So MH (Bk 0 (.pre [.tok 3 103] (.loop yM)))) (So MC .ret))))
def xbe:FnC:=⟨xke,32,[.tmp 2],[],[]⟩
def MB:List RI:=[on 4 (.new (.arr 1 (am 64 [.int .u32 0])))]
def MA:List RI:=[on 18 (Bc .lss 17 64)]
def Mz:List RI:=[om 19 17,omk 5 19]
def My:List RI:=[om 20 5,oo 21 (Bc .lss 20 16) [20]]
def Mx:List RI:=[om 22 5,om 23 1,omk 24 5,oo 25 (Ca 156 [.t 23,.t 24]) [23,24],oo 26 (.iaddrA 64 1 (.t 4) (.t 22)) [22],Sr 1 26 25 [25,26]]
def Mw:List FI:=[Fm 0 27 5,Fs 1 28 (Bc .sub 27 15),Fs 2 29 (.iaddrA 64 1 (.t 4) (.t 28)),Fs 3 30 (Ld 29),Fm 4 31 5,Fs 5 32 (Bc .sub 31 2),Fs 6 33 (.iaddrA 64 1 (.t 4) (.t 32)),Fs 7 34 (Ld 33),Fm 8 6 30,Fm 9 7 34]
def Mu:List RI:=[om 35 6,oo 36 (Ca 157 [.t 35,ci (-7)]) [35],om 37 6,oo 38 (Ca 157 [.t 37,ci (-18)]) [37],oo 39 (Bb .xor 36 38) [36,38],omk 40 6,oo 41 (.bin .shr (.t 40) (.c (.int .u64 3))) [40],oo 42 (Bb .xor 39 41) [39,41],omk 8 42]
def Mt:List RI:=[om 43 7,oo 44 (Ca 157 [.t 43,ci (-17)]) [43],om 45 7,oo 46 (Ca 157 [.t 45,ci (-19)]) [45],oo 47 (Bb .xor 44 46) [44,46],omk 48 7,oo 49 (.bin .shr (.t 48) (.c (.int .u64 10))) [48],oo 50 (Bb .xor 47 49) [47,49],omk 9 50]
def Ms:List FI:=[Fm 0 51 5,Fm 1 52 9,Fm 2 53 5,Fs 3 54 (Bc .sub 53 7),Fs 4 55 (.iaddrA 64 1 (.t 4) (.t 54)),Fs 5 56 (Ld 55),Fs 6 57 (Bb .add 52 56),Fm 7 58 8,Fs 8 59 (Bb .add 57 58),Fm 9 60 5,Fs 10 61 (Bc .sub 60 16),Fs 11 62 (.iaddrA 64 1 (.t 4) (.t 61)),Fs 12 63 (Ld 62),Fs 13 64 (Bb .add 59 63),Fs 14 65 (.iaddrA 64 1 (.t 4) (.t 51)),Fr 15 1 65 64]
def Cm:List RI:=[oo 66 (Bc .add 17 1) [17],omk 17 66]
def tM:RC:=(So MA (Sq (Kc 18 (Kk [18] .skip) (Kk [1,17,18] (.exit 0))) (Sq (Bk 1 (So Mz (Sq (So My (Kc 21 (Kk [21] (So Mx (.exit 1))) (Kk [21] .skip))) (Sq (.flt [0,1,3,7,0,16,48,112,15,511] [] Mw [27,28,29,30,31,32,33,34]) (So Mu (So Mt (.flt [0,0,0,4,12,28,62,0,254,0,512,1536,3584,8190,16383,32767] [] Ms [5,8,9,51,52,53,54,55,56,57,58,59,60,61,62,63,64,65]))))))) (.ops Cm))))
def sU:RC:=tM
def Cl:List RI:=[om 67 0,oo 68 (.nchk (.t 67)) [67],oo 69 (Lt 8 68) [68],on 10 (.new (.arr 1 (am 8 [.int .u32 0]))),Sr 8 10 69 [69]]
def Ck:List RI:=[on 70 (Mc 0)]
def Cj:List RI:=[on 71 (Bc .lss 70 64)]
def Ci:List RI:=[om 72 70,omk 11 72]
def Ch:List FI:=[Fs 0 73 (.iaddrA 8 1 (.t 10) (ci 0)),Fs 1 74 (Ld 73),Fs 2 75 (.iaddrA 8 1 (.t 10) (ci 4)),Fs 3 76 (Ld 75),Fm 4 12 74,Fm 5 13 76]
def Cg:List FI:=[Fs 0 77 (.iaddrA 8 1 (.t 10) (ci 7)),Fs 1 78 (Ld 77),Fm 2 79 13,Fm 4 81 13,Fm 7 84 13,Fm 11 88 13,Fs 12 89 (.iaddrA 8 1 (.t 10) (ci 5)),Fs 13 90 (Ld 89),Fs 14 91 (Bb .and 88 90),Fm 15 92 13,Fs 16 93 (.un .xor (.t 92)),Fs 17 94 (.iaddrA 8 1 (.t 10) (ci 6)),Fs 18 95 (Ld 94),Fs 19 96 (Bb .and 93 95),Fs 20 97 (Bb .xor 91 96),Fm 22 99 11,Fs 23 100 (.iaddrA 64 1 (.c (.pp iU)) (.t 99)),Fs 24 101 (Ld 100),Fm 26 103 11,Fs 27 104 (.iaddrA 64 1 (.t 4) (.t 103)),Fs 28 105 (Ld 104),Fz 3 80 (Ca 157 [.t 79,ci (-6)]),Fz 5 82 (Ca 157 [.t 81,ci (-11)]),Fs 6 83 (Bb .xor 80 82),Fz 8 85 (Ca 157 [.t 84,ci (-25)]),Fs 9 86 (Bb .xor 83 85),Fs 10 87 (Bb .add 78 86),Fs 21 98 (Bb .add 87 97),Fs 25 102 (Bb .add 98 101),Fs 29 106 (Bb .add 102 105),Fm 30 14 106]
def Cf:List FI:=[Fm 0 107 12,Fm 2 109 12,Fm 5 112 12,Fm 8 115 12,Fs 9 116 (.iaddrA 8 1 (.t 10) (ci 1)),Fs 10 117 (Ld 116),Fs 11 118 (Bb .and 115 117),Fm 12 119 12,Fs 13 120 (.iaddrA 8 1 (.t 10) (ci 2)),Fs 14 121 (Ld 120),Fs 15 122 (Bb .and 119 121),Fs 16 123 (Bb .xor 118 122),Fs 17 124 (.iaddrA 8 1 (.t 10) (ci 1)),Fs 18 125 (Ld 124),Fs 19 126 (.iaddrA 8 1 (.t 10) (ci 2)),Fs 20 127 (Ld 126),Fs 21 128 (Bb .and 125 127),Fs 22 129 (Bb .xor 123 128),Fz 1 108 (Ca 157 [.t 107,ci (-2)]),Fz 3 110 (Ca 157 [.t 109,ci (-13)]),Fs 4 111 (Bb .xor 108 110),Fz 6 113 (Ca 157 [.t 112,ci (-22)]),Fs 7 114 (Bb .xor 111 113),Fs 23 130 (Bb .add 114 129),Fm 24 15 130]
def Ce:List RI:=[om 131 14,omk 132 15,oo 133 (Bb .add 131 132) [131,132],on 134 (.iaddrA 8 1 (.t 10) (ci 0)),oo 135 (Ld 134) [134],on 136 (.iaddrA 8 1 (.t 10) (ci 1)),oo 137 (Ld 136) [136],on 138 (.iaddrA 8 1 (.t 10) (ci 2)),oo 139 (Ld 138) [138],on 140 (.iaddrA 8 1 (.t 10) (ci 3)),oo 141 (Ld 140) [140],omk 142 14,oo 143 (Bb .add 141 142) [141,142],on 144 (.iaddrA 8 1 (.t 10) (ci 4)),oo 145 (Ld 144) [144],on 146 (.iaddrA 8 1 (.t 10) (ci 5)),oo 147 (Ld 146) [146],on 148 (.iaddrA 8 1 (.t 10) (ci 6)),oo 149 (Ld 148) [148],oo 150 (.build [.int .u32 0,.int .u32 0,.int .u32 0,.int .u32 0,.int .u32 0,.int .u32 0,.int .u32 0,.int .u32 0] [(0,1,(.t 133)),(1,1,(.t 135)),(2,1,(.t 137)),(3,1,(.t 139)),(4,1,(.t 143)),(5,1,(.t 145)),(6,1,(.t 147)),(7,1,(.t 149))]) [133,135,137,139,143,145,147,149],Sr 8 10 150 [150]]
def Cd:List RI:=[oo 151 (Bc .add 70 1) [70],omk 70 151]
def tL:RC:=(So Cj (Sq (Kc 71 (Kk [71] .skip) (Kk [4,70,71] (.exit 2))) (Sq (Bk 3 (So Ci (Sq (.flt [0,1,0,4,3,31] [] Ch [73,74,75,76]) (Sq (.flt [0,1,0,4,0,28,60,0,188,508,1023,0,0,4096,14336,0,32768,0,131072,491520,1046528,2097151,0,4194304,12582912,33554431,0,67108864,201326592,536870911,1073741823] [] Cg [11,13,77,78,79,80,81,82,83,84,85,86,87,88,89,90,91,92,93,94,95,96,97,98,99,100,101,102,103,104,105,106]) (Sq (.flt [0,1,0,7,15,0,47,127,0,0,512,1792,0,0,8192,28672,65280,0,131072,0,524288,1966080,4194048,8388607,16777215] [] Cf [12,107,108,109,110,111,112,113,114,115,116,117,118,119,120,121,122,123,124,125,126,127,128,129,130]) (.ops Ce)))))) (.ops Cd))))
def sT:RC:=tL
def Cc:List RI:=[on 152 (Mc 0)]
def Cb:List RI:=[on 153 (Bc .lss 152 8)]
def B0:List RI:=[om 154 152,omk 16 154]
def BZ:List FI:=[Fm 0 155 0,Fm 1 156 16,Fs 2 157 (.nchk (.t 155)),Fs 3 158 (.iaddrA 8 1 (.t 157) (.t 156)),Fs 4 159 (Ld 158),Fm 5 160 16,Fs 6 161 (.iaddrA 8 1 (.t 10) (.t 160)),Fs 7 162 (Ld 161),Fs 8 163 (Bb .add 159 162),Fs 9 164 (.nchk (.t 155)),Fs 10 165 (.iaddrA 8 1 (.t 164) (.t 156)),Fr 11 1 165 163]
def BY:List RI:=[oo 166 (Bc .add 152 1) [152],omk 152 166]
def tK:RC:=(So Cb (Sq (Kc 153 (Kk [153] .skip) (Kk [0,10,152,153] (.exit 4))) (Sq (Bk 5 (So B0 (.flt [0,0,1,7,15,0,32,96,255,1,1023,2047] [] BZ [16,155,156,157,158,159,160,161,162,163,164,165]))) (.ops BY))))
def sS:RC:=tK
def xkd:RC:=(So MB (Sq (So yq (Bk 0 (.loop sU))) (So Cl (Sq (So Ck (Bk 2 (.loop sT))) (So Cc (Bk 4 (.loop sS)))))))
def xbd:FnC:=⟨xkd,167,[],[],[]⟩
def Mr:List RI:=[on 11 (Mb true)]
def Mq:List RI:=[om 21 2,om 22 1,oo 23 (Bb .sub 21 22) [21,22],omk 12 23]
def Mp:List RI:=[om 24 12,oo 25 (Bc .leq 24 12) [24]]
def Mo:List RI:=[omk 26 0,omk 27 1,omk 28 2,omk 29 4,oo 30 (Ca 158 [.t 26,.t 27,.t 28,.t 29]) [26,27,28,29,30]]
def Mn:List RI:=[om 31 3,oo 32 (Bc .eql 31 0) [31]]
def Mm:List RI:=[omk 33 0,omk 34 1,omk 35 2,omk 36 4,oo 37 (Ca 159 [.t 33,.t 34,.t 35,.t 36]) [33,34,35,36,37]]
def Ml:List RI:=[om 38 10,oo 39 (.un .not (.t 38)) [38]]
def Mk:List RI:=[om 40 0,om 41 1,om 42 2,om 43 4,oo 44 (Ca 160 [.t 40,.t 41,.t 42,.t 43]) [40,41,42,43,44]]
def Mj:List RI:=[omk 45 3,oo 46 (Bc .sub 45 1) [45],omk 3 46]
def BX:List RI:=[om 48 0,om 49 1,om 50 2,om 51 4,oo 52 (Ca 161 [.t 48,.t 49,.t 50,.t 51]) [48,49,50,51],omk 47 52,on 53 (.ext (.t 47) 0),oo 54 (.ext (.t 47) 1) [47],omk 13 53,omk 14 54]
def BW:List RI:=[om 55 14,oo 56 (Bc .eql 55 2) [55]]
def BV:List RI:=[om 57 0,om 58 1,om 59 2,om 60 4,oo 61 (Ca 162 [.t 57,.t 58,.t 59,.t 60]) [57,58,59,60,61]]
def BU:List RI:=[om 62 2,oo 63 (Bc .sub 62 1) [62],omk 64 13,om 65 1,oo 66 (Bb .sub 64 65) [64,65],oo 67 (Bb .sub 63 66) [63,66],omk 13 67]
def BT:List RI:=[on 14 (Mc 1)]
def BS:List RI:=[om 68 10,omk 69 68,.grp 69 true [(xi 70 69 true (Mv 11))] [],oo 71 (Pf 69 70) [69,70],omk 72 71,.grp 72 true [(xi 73 72 true (Mv 14)),(xi 74 72 true (Bc .eql 73 1))] [14,73],oo 75 (Pf 72 74) [72,74]]
def BR:List RI:=[om 76 0,om 77 1,om 78 2,om 79 4,oo 80 (Ca 163 [.t 76,.t 77,.t 78,.t 79]) [76,77,78,79]]
def BQ:List FI:=[Fm 0 81 1,Fs 1 82 (Bc .gtr 81 0),Fm 2 83 82,Fi 3 84 83 true (Mv 4),Fi 4 85 83 true (Mv 0),Fi 5 86 83 true (Mv 1),Fi 6 87 83 true (Bc .sub 86 1),Fi 7 88 83 true (Ia 4 85 87),Fi 8 89 83 true (Lt 4 88),Fi 9 90 83 true (Mv 0),Fi 10 91 83 true (Mv 13),Fi 11 92 83 true (Ia 4 90 91),Fi 12 93 83 true (Lt 4 92),Fy 13 94 83 true (.call (.t 84) [.t 89,.t 93]),Fi 14 95 83 true (Bc .lss 94 0),Fi 15 96 83 true (.un .not (.t 95)),Fs 16 97 (Pf 83 96)]
def BP:List RI:=[om 98 0,omk 99 1,om 100 2,omk 101 13,om 102 4,oo 103 (Ca 164 [.t 98,.t 99,.t 100,.t 101,.t 102]) [98,99,100,101,102],omk 15 103]
def BO:List RI:=[omk 104 15,omk 1 104]
def BN:List RI:=[om 106 0,om 107 1,om 108 2,omk 109 13,om 110 4,oo 111 (Ca 165 [.t 106,.t 107,.t 108,.t 109,.t 110]) [106,107,108,109,110],omk 105 111,on 112 (.ext (.t 105) 0),oo 113 (.ext (.t 105) 1) [105],omk 16 112,omk 17 113]
def BM:List RI:=[omk 114 17,omk 11 114]
def BL:List RI:=[om 115 16,om 116 1,oo 117 (Bb .sub 115 116) [115,116],om 118 2,om 119 16,oo 120 (Bb .sub 118 119) [118,119],omk 18 117,omk 19 120]
def BK:List RI:=[omk 121 12,oo 122 (Bc .quo 121 8) [121],omk 20 122]
def BJ:List RI:=[om 123 18,om 124 19,oo 125 (Bb .lss 123 124) [123,124]]
def BI:List RI:=[omk 126 18,omk 127 20,oo 128 (Bb .geq 126 127) [126,127],omk 10 128]
def BH:List RI:=[om 129 0,omk 130 1,om 131 16,om 132 3,om 133 4,oo 134 (Ca 135 [.t 129,.t 130,.t 131,.t 132,.t 133]) [129,130,131,132,133,134]]
def BG:List RI:=[omk 135 16,oo 136 (Bc .add 135 1) [135],omk 1 136]
def BF:List RI:=[omk 137 19,omk 138 20,oo 139 (Bb .geq 137 138) [137,138],omk 10 139]
def BE:List RI:=[om 140 0,om 141 16,oo 142 (Bc .add 141 1) [141],omk 143 2,om 144 3,om 145 4,oo 146 (Ca 135 [.t 140,.t 142,.t 143,.t 144,.t 145]) [140,142,143,144,145,146]]
def BD:List RI:=[omk 147 16,omk 2 147]
def tJ:RC:=(Bk 1 (So Mq (Sq (So Mp (Kc 25 (Kk [3,10,11,12,25] (So Mo .ret)) (Kk [25] .skip))) (Sq (So Mn (Kc 32 (Kk [3,10,11,12,32] (So Mm .ret)) (Kk [32] .skip))) (Sq (So Ml (Kc 39 (Kk [39] (So Mk (.ops Mj))) (Kk [39] .skip))) (So BX (Sq (So BW (Kc 56 (Kk [14,56] (So BV (So BU (.ops BT)))) (Kk [56] .skip))) (Sq (So BS (Kc 75 (Kk [75] (So BR (Kc 80 (Kk [0,1,2,3,4,10,11,12,13,80] .ret) (Kk [80] .skip)))) (Kk [75] .skip))) (Sq (Sq (.flt [0,1,3,7,7,7,39,119,247,7,7,1543,3591,8191,16383,32767,65535] [] BQ [81,82,83,84,85,86,87,88,89,90,91,92,93,94,95,96]) (Kc 97 (Kk [12,97] (So BP (So BO (.exit 1)))) (Kk [10,11,97] .skip))) (So BN (So BM (So BL (So BK (So BJ (Kc 125 (Kk [19,125] (So BI (So BH (.ops BG)))) (Kk [18,125] (So BF (So BE (.ops BD)))))))))))))))))))
def BC:RC:=tJ
def xkc:RC:=(So PL (So Mr (Bk 0 (.loop BC))))
def xbc:FnC:=⟨xkc,148,[],[],[]⟩
def Mi:List RI:=[omk 3 0,oo 4 (.toInt .u32 (.t 3)) [3],oo 5 (Ca 166 [.t 4]) [4],omk 2 5]
def Mh:List RI:=[omk 6 0,oo 7 (Ca 167 [.t 6]) [6],omk 2 7]
def xkb:RC:=(So jJ (Sq (.cond (.c (.bool false)) (So Mi .ret) .skip) (So Mh .ret)))
def xbb:FnC:=⟨xkb,8,[.tmp 2],[],[]⟩
def Mg:List RI:=[omk 5 0,on 6 (Ln 5),on 7 (Mc 0)]
def Mf:List RI:=[on 8 (Bb .lss 7 6)]
def Me:List RI:=[on 9 (Ia 1 5 7),oo 10 (Ld 9) [9],omk 4 10]
def Md:List RI:=[om 11 4,oo 12 (.bin .lss (.t 11) (.c (.u8 32))) [11],omk 13 12,.grp 13 false [(xi 14 13 false (Mv 4)),(xi 15 13 false (.bin .gtr (.t 14) (.c (.u8 126))))] [4,14],oo 16 (Pt 13 15) [13,15]]
def Ma:List RI:=[oo 17 (Bc .add 7 1) [7],omk 7 17]
def z8:RC:=(So Mf (Sq (Kc 8 (Kk [8] .skip) (Kk [5,6,7,8] (.exit 0))) (Sq (Bk 1 (So Me (So Md (Kc 16 (Kk [5,6,7,16] (So jI .ret)) (Kk [16] .skip))))) (.ops Ma))))
def yL:RC:=z8
def xka:RC:=(So uj (Sq (So Mg (Bk 0 (.loop yL))) (So lU .ret)))
def xba:FnC:=⟨xka,18,[.tmp 2],[],[]⟩
def LY:List RI:=[om 3 0,omk 4 0,oo 5 (Bb .neq 3 4) [3,4],omk 2 5]
def xj9:RC:=(So uj (So LY .ret))
def xa9:FnC:=⟨xj9,6,[.tmp 2],[],[]⟩
def LX:List RI:=[on 17 (.lit 1 [(.c (.int .u32 1732584193)),(.c (.int .u32 4023233417)),(.c (.int .u32 2562383102)),(.c (.int .u32 271733878)),(.c (.int .u32 3285377520))]),omk 3 17]
def LW:List RI:=[omk 18 0,oo 19 (Ca 116 [.t 18]) [18],omk 4 19]
def LV:List RI:=[om 20 5,om 21 4,oo 22 (Ln 21) [21],oo 23 (Bb .lss 20 22) [20,22]]
def LU:List RI:=[on 6 (.new (.arr 1 (am 80 [.int .u32 0])))]
def LS:List RI:=[om 26 7,oo 27 (Bc .lss 26 80) [26]]
def LR:List RI:=[om 30 7,oo 31 (Bc .lss 30 16) [30]]
def LQ:List RI:=[om 32 7,om 33 4,om 34 5,om 35 5,oo 36 (Bc .add 35 64) [35],oo 37 (.slcL 1 (.t 33) (some (.t 34)) (some (.t 36)) none) [33,34,36],om 38 7,oo 39 (Ca 117 [.t 37,.t 38]) [37,38],oo 40 (.iaddrA 80 1 (.t 6) (.t 32)) [32],Sr 1 40 39 [39,40]]
def BB:List FI:=[Fm 0 41 7,Fm 1 42 7,Fs 2 43 (Bc .sub 42 3),Fs 3 44 (.iaddrA 80 1 (.t 6) (.t 43)),Fs 4 45 (Ld 44),Fm 5 46 7,Fs 6 47 (Bc .sub 46 8),Fs 7 48 (.iaddrA 80 1 (.t 6) (.t 47)),Fs 8 49 (Ld 48),Fs 9 50 (Bb .xor 45 49),Fm 10 51 7,Fs 11 52 (Bc .sub 51 14),Fs 12 53 (.iaddrA 80 1 (.t 6) (.t 52)),Fs 13 54 (Ld 53),Fs 14 55 (Bb .xor 50 54),Fm 15 56 7,Fs 16 57 (Bc .sub 56 16),Fs 17 58 (.iaddrA 80 1 (.t 6) (.t 57)),Fs 18 59 (Ld 58),Fs 19 60 (Bb .xor 55 59),Fz 20 61 (Ca 170 [.t 60,(.c (.int .u64 1))]),Fs 21 62 (.iaddrA 80 1 (.t 6) (.t 41)),Fr 22 1 62 61]
def BA:List RI:=[omk 28 7,oo 29 (Bc .add 28 1) [28],omk 7 29]
def tI:RC:=(Sq (So LS (Kc 27 (Kk [27] .skip) (Kk [7,27] (.exit 2)))) (Sq (Bk 3 (Sq (So LR (Kc 31 (Kk [31] (So LQ (.exit 3))) (Kk [31] .skip))) (.flt [0,0,2,6,14,0,32,96,224,510,0,1024,3072,7168,16382,0,32768,98304,229376,524286,1048574,2097151,4194303] [] BB [41,42,43,44,45,46,47,48,49,50,51,52,53,54,55,56,57,58,59,60,61,62]))) (.ops BA)))
def sR:RC:=tI
def Bz:List FI:=[Fm 0 63 3,Fs 1 64 (.iaddrL 1 (.t 63) (ci 0)),Fs 2 65 (Ld 64),Fm 3 66 3,Fs 4 67 (.iaddrL 1 (.t 66) (ci 1)),Fs 5 68 (Ld 67),Fm 6 69 3,Fs 7 70 (.iaddrL 1 (.t 69) (ci 2)),Fs 8 71 (Ld 70),Fm 9 72 3,Fs 10 73 (.iaddrL 1 (.t 72) (ci 3)),Fs 11 74 (Ld 73),Fm 12 75 3,Fs 13 76 (.iaddrL 1 (.t 75) (ci 4)),Fs 14 77 (Ld 76),Fm 15 8 65,Fm 16 9 68,Fm 17 10 71,Fm 18 11 74,Fm 19 12 77]
def By:List RI:=[on 13 (Mc 0)]
def Bx:List RI:=[om 78 13,oo 79 (Bc .lss 78 80) [78]]
def Bw:List RI:=[om 82 9,om 83 10,oo 84 (Bb .xor 82 83) [82,83],om 85 11,oo 86 (Bb .xor 84 85) [84,85],omk 14 86,on 15 (.mov (.c (.int .u32 3395469782)))]
def Bv:List RI:=[om 88 13,oo 89 (Bc .lss 88 20) [88],omk 87 89]
def Bu:List RI:=[om 90 9,om 91 10,oo 92 (Bb .and 90 91) [90,91],om 93 9,oo 94 (.un .xor (.t 93)) [93],om 95 11,oo 96 (Bb .and 94 95) [94,95],oo 97 (Bb .xor 92 96) [92,96],omk 14 97,on 15 (.mov (.c (.int .u32 1518500249)))]
def Bt:List RI:=[om 99 13,oo 100 (Bc .lss 99 40) [99],omk 98 100]
def Bs:List RI:=[on 15 (.mov (.c (.int .u32 1859775393)))]
def Br:List RI:=[om 102 13,oo 103 (Bc .lss 102 60) [102],omk 101 103]
def Bq:List RI:=[om 104 9,om 105 10,oo 106 (Bb .and 104 105) [104,105],om 107 9,om 108 11,oo 109 (Bb .and 107 108) [107,108],oo 110 (Bb .xor 106 109) [106,109],om 111 10,om 112 11,oo 113 (Bb .and 111 112) [111,112],oo 114 (Bb .xor 110 113) [110,113],omk 14 114,on 15 (.mov (.c (.int .u32 2400959708)))]
def Bp:List FI:=[Fm 0 115 8,Fm 2 117 14,Fm 4 119 12,Fm 6 121 15,Fm 8 123 13,Fs 9 124 (.iaddrA 80 1 (.t 6) (.t 123)),Fs 10 125 (Ld 124),Fz 1 116 (Ca 170 [.t 115,(.c (.int .u64 5))]),Fs 3 118 (Bb .add 116 117),Fs 5 120 (Bb .add 118 119),Fs 7 122 (Bb .add 120 121),Fs 11 126 (Bb .add 122 125),Fm 12 16 126]
def Bo:List RI:=[omk 127 16,omk 128 8,omk 129 9,oo 130 (Ca 170 [.t 129,(.c (.int .u64 30))]) [129],omk 131 10,omk 132 11,omk 8 127,omk 9 128,omk 10 130,omk 11 131,omk 12 132]
def Bn:List RI:=[omk 80 13,oo 81 (Bc .add 80 1) [80],omk 13 81]
def tH:RC:=(Sq (So Bx (Kc 79 (Kk [79] .skip) (Kk [6,13,79] (.exit 4)))) (Sq (Bk 5 (So Bw (Sq (Bk 6 (So Bv (Kc 87 (Kk [14,15,87] (.ops Bu)) (Kk [87] (So Bt (Kc 98 (Kk [15,98] (.ops Bs)) (Kk [98] (So Br (Kc 101 (Kk [14,15,101] (.ops Bq)) (Kk [101] .skip)))))))))) (Sq (.flt [0,1,0,7,0,31,0,127,0,256,768,2047,4095] [] Bp [12,14,15,115,116,117,118,119,120,121,122,123,124,125,126]) (.ops Bo))))) (.ops Bn)))
def fS:RC:=tH
def Bm:List FI:=[Fm 0 133 3,Fs 1 134 (.iaddrL 1 (.t 133) (ci 0)),Fs 2 135 (Ld 134),Fm 3 136 8,Fs 4 137 (Bb .add 135 136),Fm 5 138 3,Fs 6 139 (.iaddrL 1 (.t 138) (ci 1)),Fs 7 140 (Ld 139),Fm 8 141 9,Fs 9 142 (Bb .add 140 141),Fm 10 143 3,Fs 11 144 (.iaddrL 1 (.t 143) (ci 2)),Fs 12 145 (Ld 144),Fm 13 146 10,Fs 14 147 (Bb .add 145 146),Fm 15 148 3,Fs 16 149 (.iaddrL 1 (.t 148) (ci 3)),Fs 17 150 (Ld 149),Fm 18 151 11,Fs 19 152 (Bb .add 150 151),Fm 20 153 3,Fs 21 154 (.iaddrL 1 (.t 153) (ci 4)),Fs 22 155 (Ld 154),Fm 23 156 12,Fs 24 157 (Bb .add 155 156),Fs 25 158 (.lit 1 [.t 137,.t 142,.t 147,.t 152,.t 157]),⟨26,false,(xm 3 158)⟩]
def Bl:List RI:=[omk 24 5,oo 25 (Bc .add 24 64) [24],omk 5 25]
def tG:RC:=(.post (Sq (So LV (Kc 23 (Kk [23] .skip) (Kk [4,5,23] (.exit 0)))) (Sq (Bk 1 (So LU (Sq (So uo (Bk 2 (.loop sR))) (Sq (.flt [0,1,3,0,8,24,0,64,192,0,512,1536,0,4096,12288,7,32831,98815,233471,524287] [] Bz [63,64,65,66,67,68,69,70,71,72,73,74,75,76,77]) (Sq (So By (Bk 4 (.loop fS))) (.flt [0,1,3,0,15,0,32,96,0,480,0,1024,3072,0,15360,0,32768,98304,0,491520,0,1048576,3145728,0,15728640,33554431,67108863] [] Bm [8,9,10,11,12,133,134,135,136,137,138,139,140,141,142,143,144,145,146,147,148,149,150,151,152,153,154,155,156,157,158])))))) (.ops Bl))) [.gc [106]])
def sQ:RC:=tG
def Bj:List RI:=[omk 159 3,oo 160 (Ca 119 [.t 159]) [159],omk 2 160]
def xj8:RC:=(So me (So LX (So LW (Sq (So jK (Bk 0 (.loop sQ))) (So Bj .ret)))))
def xa8:FnC:=⟨xj8,161,[.tmp 2],[],[]⟩
def LP:List RI:=[om 10 1,oo 11 (Bc .eql 10 10) [10]]
def LO:List RI:=[om 12 0,oo 13 (.bin .leq (ci 0) (.t 12)) [12],omk 14 13,.grp 14 true [(xi 15 14 true (Mv 0)),(xi 16 14 true (Bc .lss 15 100))] [15],oo 17 (Pf 14 16) [14,16]]
def LN:List RI:=[omk 18 0,oo 19 (Ca 171 [.t 18]) [18],omk 4 19]
def LM:List RI:=[on 5 (.new (.bar (am 24 0)))]
def LL:List RI:=[om 20 0,oo 21 (.toInt .u64 (.t 20)) [20],omk 6 21]
def LK:List RI:=[om 22 0,oo 23 (Bc .lss 22 0) [22]]
def LJ:List RI:=[omk 24 6,oo 25 (.un .neg (.t 24)) [24],omk 6 25]
def LI:List RI:=[om 26 6,oo 27 (Ca 172 [.t 26]) [26],omk 7 27]
def LH:List RI:=[om 28 7,oo 29 (.bin .add (ci 1) (.t 28)) [28],oo 30 (.slcA 24 1 (.t 5) (some (ci 1)) (some (.t 29)) none) [29],omk 31 6,oo 32 (Ca 173 [.t 30,.t 31]) [30,31,32]]
def Bi:List RI:=[omk 33 0,oo 34 (Bc .lss 33 0) [33]]
def Bh:List RI:=[on 35 (.iaddrA 24 1 (.t 5) (ci 0)),.op ⟨none,none,.store 1 (.t 35) (.c (.u8 45))⟩ [35]]
def Bg:List RI:=[omk 36 7,oo 37 (.bin .add (ci 1) (.t 36)) [36],oo 38 (.slcA 24 1 (.t 5) none (some (.t 37)) none) [5,37],oo 39 (.b2s (.t 38)) [38],omk 4 39]
def Bf:List RI:=[omk 40 7,oo 41 (.bin .add (ci 1) (.t 40)) [40],oo 42 (.slcA 24 1 (.t 5) (some (ci 1)) (some (.t 41)) none) [5,41],oo 43 (.b2s (.t 42)) [42],omk 4 43]
def Be:List RI:=[om 45 0,oo 46 (.toInt .u64 (.t 45)) [45],omk 47 1,omk 48 0,oo 49 (Bc .lss 48 0) [48],oo 50 (Ca 174 [(.c (.byt [] .clip)),.t 46,.t 47,.t 49,(.c (.bool false))]) [46,47,49],omk 44 50,on 51 (.ext (.t 44) 0),oo 52 (.ext (.t 44) 1) [44],.op (xm 8 51) [8,51],omk 9 52]
def Bd:List RI:=[omk 53 9,omk 4 53]
def xj7:RC:=(So qE (Sq (So LP (Kc 11 (Kk [1,11] (Sq (So LO (Kc 17 (Kk [17] (So LN .ret)) (Kk [17] .skip))) (So LM (So LL (Sq (So LK (Kc 23 (Kk [23] (.ops LJ)) (Kk [23] .skip))) (So LI (So LH (Sq (So Bi (Kc 34 (Kk [34] (So Bh (So Bg .ret))) (Kk [34] .skip))) (So Bf .ret))))))))) (Kk [11] .skip))) (So Be (So Bd .ret))))
def xa7:FnC:=⟨xj7,54,[.tmp 4],[],[]⟩
def LG:List RI:=[om 5 0,oo 6 (.len true (.t 5)) [5],oo 7 (Bc .gtr 6 0) [6],omk 8 7,.grp 8 true [(xi 9 8 true (Mv 0)),(xi 10 8 true (.idxS (.t 9) (ci 0))),(xi 11 8 true (Mv 1)),(xi 12 8 true (Bb .eql 10 11))] [9,10,11],oo 13 (Pf 8 12) [8,12]]
def LF:List RI:=[omk 14 0,oo 15 (.slcS (.t 14) (some (ci 1)) none) [14],omk 0 15]
def zZ:RC:=(Sq (So LG (Kc 13 (Kk [13] .skip) (Kk [1,13] (.exit 0)))) (Bk 1 (.ops LF)))
def yK:RC:=zZ
def LD:List RI:=[omk 16 0,omk 4 16]
def xj6:RC:=(So qE (Sq (Bk 0 (.loop yK)) (So LD .ret)))
def xa6:FnC:=⟨xj6,17,[.tmp 4],[],[]⟩
def LC:List RI:=[om 5 0,oo 6 (.len true (.t 5)) [5],oo 7 (Bc .gtr 6 0) [6],omk 8 7,.grp 8 true [(xi 9 8 true (Mv 0)),(xi 10 8 true (Mv 0)),(xi 11 8 true (.len true (.t 10))),(xi 12 8 true (Bc .sub 11 1)),(xi 13 8 true (.idxS (.t 9) (.t 12))),(xi 14 8 true (Mv 1)),(xi 15 8 true (Bb .eql 13 14))] [9,10,11,12,13,14],oo 16 (Pf 8 15) [8,15]]
def LA:List RI:=[om 17 0,omk 18 0,oo 19 (.len true (.t 18)) [18],oo 20 (Bc .sub 19 1) [19],oo 21 (.slcS (.t 17) none (some (.t 20))) [17,20],omk 0 21]
def zY:RC:=(Sq (So LC (Kc 16 (Kk [16] .skip) (Kk [1,16] (.exit 0)))) (Bk 1 (.ops LA)))
def yJ:RC:=zY
def Lz:List RI:=[omk 22 0,omk 4 22]
def xj5:RC:=(So qE (Sq (Bk 0 (.loop yJ)) (So Lz .ret)))
def xa5:FnC:=⟨xj5,23,[.tmp 4],[],[]⟩
def Lo:List RI:=[om 5 0,oo 6 (.len true (.t 5)) [5],om 7 1,oo 8 (.len true (.t 7)) [7],oo 9 (Bb .geq 6 8) [6,8],omk 10 9,.grp 10 true [(xi 11 10 true (Mv 0)),(xi 12 10 true (Mv 1)),(xi 13 10 true (.len true (.t 12))),(xi 14 10 true (.slcS (.t 11) none (some (.t 13)))),(xi 15 10 true (Mv 1)),(xi 16 10 true (Bb .eql 14 15))] [0,1,11,12,13,14,15],oo 17 (Pf 10 16) [10,16],omk 4 17]
def xj4:RC:=(So oO (So Lo .ret))
def xa4:FnC:=⟨xj4,18,[.tmp 4],[],[]⟩
def Lm:List RI:=[om 11 0,oo 12 (.len true (.t 11)) [11],omk 4 12]
def Ll:List RI:=[on 13 (Mb false),.grp 13 true [(xi 14 13 true (Mv 4)),(xi 15 13 true (.bin .lss (ci 0) (.t 14))),(xi 16 13 true (Mv 15))] [14,15],.grp 16 true [(xi 17 16 true (Mv 4)),(xi 18 16 true (Bc .lss 17 10))] [17],.grp 13 true [(xi 19 13 true (Pf 16 18))] [16,18],oo 20 (Pf 13 19) [13,19],omk 21 20,.grp 21 false [(xi 22 21 false (Mb true))] [],.grp 22 true [(xi 23 22 true (Mv 4)),(xi 24 22 true (.bin .lss (ci 0) (.t 23))),(xi 25 22 true (Mv 24))] [23,24],.grp 25 true [(xi 26 25 true (Mv 4)),(xi 27 25 true (Bc .lss 26 19))] [4,26],.grp 22 true [(xi 28 22 true (Pf 25 27))] [25,27],.grp 21 false [(xi 29 21 false (Pf 22 28))] [22,28],oo 30 (Pt 21 29) [21,29]]
def Lk:List RI:=[om 31 0,omk 5 31]
def Lj:List RI:=[om 32 0,oo 33 (.idxS (.t 32) (ci 0)) [32],oo 34 (.bin .eql (.t 33) (.c (.u8 45))) [33],omk 35 34,.grp 35 false [(xi 36 35 false (Mv 0)),(xi 37 35 false (.idxS (.t 36) (ci 0))),(xi 38 35 false (.bin .eql (.t 37) (.c (.u8 43))))] [36,37],oo 39 (Pt 35 38) [35,38]]
def Li:List RI:=[omk 40 0,oo 41 (.slcS (.t 40) (some (ci 1)) none) [40],omk 0 41]
def Lh:List RI:=[om 42 0,oo 43 (.len true (.t 42)) [42],oo 44 (Bc .lss 43 1) [43]]
def Lg:List RI:=[omk 46 0,oo 47 (.s2b (.t 46)) [46],on 48 (Ln 47),on 49 (Mc 0)]
def Lf:List RI:=[on 50 (Bb .lss 49 48)]
def Ba:List RI:=[on 51 (Ia 1 47 49),oo 52 (Ld 51) [51],omk 8 52]
def A9:List RI:=[omk 53 8,oo 54 (.bin .sub (.t 53) (.c (.u8 48))) [53],omk 8 54]
def A8:List RI:=[om 55 8,oo 56 (.bin .gtr (.t 55) (.c (.u8 9))) [55]]
def A7:List RI:=[omk 58 6,oo 59 (Bc .mul 58 10) [58],omk 60 8,oo 61 (.toInt .i64 (.t 60)) [60],oo 62 (Bb .add 59 61) [59,61],omk 6 62]
def A6:List RI:=[oo 63 (Bc .add 49 1) [49],omk 49 63]
def tF:RC:=(So Lf (Sq (Kc 50 (Kk [50] .skip) (Kk [47,48,49,50] (.exit 0))) (Sq (Bk 1 (So Ba (So A9 (Sq (So A8 (Kc 56 (Kk [5,6,8,47,48,49,56] (Sq .bad .ret)) (Kk [56] .skip))) (.ops A7))))) (.ops A6))))
def oQ:RC:=tF
def A5:List RI:=[omk 64 5,oo 65 (.idxS (.t 64) (ci 0)) [64],oo 66 (.bin .eql (.t 65) (.c (.u8 45))) [65]]
def A4:List RI:=[omk 67 6,oo 68 (.un .neg (.t 67)) [67],omk 6 68]
def A3:List RI:=[omk 69 6,omk 2 69,on 3 (.mov (.c .nili))]
def A1:List RI:=[omk 71 0,oo 72 (Ca 179 [.t 71,ci 10,ci 0]) [71],omk 70 72,on 73 (.ext (.t 70) 0),oo 74 (.ext (.t 70) 1) [70],omk 9 73,omk 10 74]
def AZ:List RI:=[omk 75 9,omk 76 10,omk 2 75,omk 3 76]
def xj3:RC:=(So yP (So Lm (Sq (So Ll (Kc 30 (Kk [30] (So Lk (Sq (So Lj (Kc 39 (Kk [39] (So Li (So Lh (Kc 44 (Kk [0,5,44] (Sq .bad .ret)) (Kk [44] .skip))))) (Kk [39] .skip))) (So lh (Sq (So Lg (Bk 0 (.loop oQ))) (Sq (So A5 (Kc 66 (Kk [66] (.ops A4)) (Kk [66] .skip))) (So A3 .ret))))))) (Kk [30] .skip))) (So A1 (So AZ .ret)))))
def xa3:FnC:=⟨xj3,77,[.tmp 2,.tmp 3],[],[]⟩
def xj2:RC:=(So od (Sq (.flt [0,0,2,7,15,31,63,0,0,256,768,1920,3968,8064,16256,32767,0,0,131072,393216,983040,2031616,4128768,8323072,16777215,0,0,67108864,201326592,503316480,1040187392,2113929216,4294967295,8589934591] [] yV [0,1,5,6,7,8,9,10,11,12,13,14,15,16,17,18,19,20,21,22,23,24,25,26,27,28,29,30,31,32,33,34,35,36,37]) .ret))
def xa2:FnC:=⟨xj2,38,[.tmp 4],[],[]⟩
def Le:List RI:=[omk 6 1,oo 7 (.toInt .u64 (.t 6)) [6],oo 8 (.bin .and (.t 7) (.c (.int .u64 31))) [7],omk 5 8]
def Lc:List RI:=[om 9 0,om 10 5,oo 11 (Bb .shl 9 10) [9,10],omk 12 0,omk 13 5,oo 14 (.bin .sub (.c (.int .u64 32)) (.t 13)) [13],oo 15 (Bb .shr 12 14) [12,14],oo 16 (Bb .or 11 15) [11,15],omk 4 16]
def xj1:RC:=(So od (So Le (So Lc .ret)))
def xa1:FnC:=⟨xj1,17,[.tmp 4],[],[]⟩
def Lb:List RI:=[om 10 1,oo 11 (Bc .add 10 1) [10],omk 8 11]
def La:List RI:=[om 12 8,om 13 2,oo 14 (Bb .lss 12 13) [12,13]]
def K9:List RI:=[om 17 8,omk 9 17]
def K8:List FI:=[Fm 0 18 9,Fm 1 19 1,Fs 2 20 (Bb .gtr 18 19),Fm 3 21 20,Fi 4 22 21 true (Mv 3),Fi 5 23 21 true (Mv 0),Fi 6 24 21 true (Mv 9),Fi 7 25 21 true (Ia 4 23 24),Fi 8 26 21 true (Lt 4 25),Fi 9 27 21 true (Mv 0),Fi 10 28 21 true (Mv 9),Fi 11 29 21 true (Bc .sub 28 1),Fi 12 30 21 true (Ia 4 27 29),Fi 13 31 21 true (Lt 4 30),Fy 14 32 21 true (.call (.t 22) [.t 26,.t 31]),Fi 15 33 21 true (Bc .lss 32 0),Fs 16 34 (Pf 21 33)]
def K7:List FI:=[Fm 0 37 0,Fm 1 38 9,Fm 2 39 0,Fm 3 40 9,Fs 4 41 (Bc .sub 40 1),Fm 5 42 0,Fm 6 43 9,Fs 7 44 (Bc .sub 43 1),Fs 8 45 (Ia 4 42 44),Fs 9 46 (Lt 4 45),Fm 10 47 0,Fm 11 48 9,Fs 12 49 (Ia 4 47 48),Fs 13 50 (Lt 4 49),Fs 14 51 (Ia 4 37 38),Fr 15 4 51 46,Fs 16 52 (Ia 4 39 41),Fr 17 4 52 50]
def K6:List RI:=[omk 35 9,oo 36 (Bc .sub 35 1) [35],omk 9 36]
def zV:RC:=(Sq (Sq (.flt [0,0,3,7,15,15,15,111,239,15,15,1039,3599,7695,16383,32767,65535] [] K8 [18,19,20,21,22,23,24,25,26,27,28,29,30,31,32,33]) (Kc 34 (Kk [34] .skip) (Kk [9,34] (.exit 2)))) (Sq (Bk 3 (.flt [0,0,0,0,8,0,0,64,224,480,0,0,3072,7168,16355,32739,65535,131071] [] K7 [37,38,39,40,41,42,43,44,45,46,47,48,49,50,51,52])) (.ops K6)))
def yI:RC:=zV
def K5:List RI:=[omk 15 8,oo 16 (Bc .add 15 1) [15],omk 8 16]
def zU:RC:=(Sq (So La (Kc 14 (Kk [14] .skip) (Kk [0,1,2,3,8,14] (.exit 0)))) (Sq (Bk 1 (So K9 (Bk 2 (.loop yI)))) (.ops K5)))
def yH:RC:=zU
def xj0:RC:=(So Lb (Bk 0 (.loop yH)))
def xa0:FnC:=⟨xj0,53,[],[],[]⟩
def K4:List RI:=[om 3 0,oo 4 (.bin .geq (.t 3) (.c (.int .u64 4294967296))) [3]]
def K3:List RI:=[omk 5 0,oo 6 (.bin .shr (.t 5) (.c (.int .u64 32))) [5],omk 0 6]
def K2:List RI:=[on 2 (Mc 32)]
def K1:List RI:=[om 7 0,oo 8 (.bin .geq (.t 7) (.c (.int .u64 65536))) [7]]
def K0:List RI:=[omk 9 0,oo 10 (.bin .shr (.t 9) (.c (.int .u64 16))) [9],omk 0 10]
def KZ:List RI:=[omk 11 2,oo 12 (Bc .add 11 16) [11],omk 2 12]
def KY:List RI:=[om 13 0,oo 14 (.bin .geq (.t 13) (.c (.int .u64 256))) [13]]
def KX:List RI:=[omk 15 0,oo 16 (.bin .shr (.t 15) (.c (.int .u64 8))) [15],omk 0 16]
def KW:List RI:=[omk 17 2,oo 18 (Bc .add 17 8) [17],omk 2 18]
def AY:List RI:=[omk 19 2,omk 20 0,oo 21 (.toInt .u8 (.t 20)) [20],oo 22 (.idxS (.c (.str cs0)) (.t 21)) [21],oo 23 (.toInt .i64 (.t 22)) [22],oo 24 (Bb .add 19 23) [19,23],omk 2 24]
def xjZ:RC:=(So iC (Sq (So K4 (Kc 4 (Kk [2,4] (So K3 (.ops K2))) (Kk [4] .skip))) (Sq (So K1 (Kc 8 (Kk [8] (So K0 (.ops KZ))) (Kk [8] .skip))) (Sq (So KY (Kc 14 (Kk [14] (So KX (.ops KW))) (Kk [14] .skip))) (So AY .ret)))))
def xaZ:FnC:=⟨xjZ,25,[.tmp 2],[],[]⟩
def KJ:List RI:=[om 5 0,om 6 1,oo 7 (Bb .shl 5 6) [5,6],omk 8 0,omk 9 1,oo 10 (.bin .sub (.c (.int .u64 32)) (.t 9)) [9],oo 11 (Bb .shr 8 10) [8,10],oo 12 (Bb .or 7 11) [7,11],omk 4 12]
def xjY:RC:=(So od (So KJ .ret))
def xaY:FnC:=⟨xjY,13,[.tmp 4],[],[]⟩
def KI:List RI:=[om 5 0,omk 6 0,oo 7 (Bc .add 6 1) [6],oo 8 (.slcS (.c (.str cs1)) (some (.t 5)) (some (.t 7))) [5,7],omk 2 8]
def KH:List RI:=[om 9 0,oo 10 (Bc .mul 9 2) [9],omk 11 0,oo 12 (Bc .mul 11 2) [11],oo 13 (Bc .add 12 2) [12],oo 14 (.slcS (.c (.str cs2)) (some (.t 10)) (some (.t 13))) [10,13],omk 2 14]
def xjX:RC:=(So EL (Sq (So PI (Kc 4 (Kk [4] (So KI .ret)) (Kk [4] .skip))) (So KH .ret)))
def xaX:FnC:=⟨xjX,15,[.tmp 2],[],[]⟩
def KG:List RI:=[om 4 0,oo 5 (Ca 167 [.t 4]) [4],oo 6 (Ca 189 [.t 5]) [5],omk 3 6]
def KF:List RI:=[om 7 3,omk 8 0,omk 9 3,oo 10 (.iaddrA 20 1 (.c (.pp iT)) (.t 9)) [9],oo 11 (Ld 10) [10],oo 12 (Bb .geq 8 11) [8,11],oo 13 (Ca 190 [.t 12]) [12],oo 14 (Bb .add 7 13) [7,13],omk 2 14]
def xjW:RC:=(So jJ (So KG (So KF .ret)))
def xaW:FnC:=⟨xjW,15,[.tmp 2],[],[]⟩
def KE:List RI:=[om 17 0,oo 18 (Ln 17) [17],omk 4 18]
def KD:List RI:=[om 19 4,oo 20 (Bc .geq 19 8) [19]]
def KC:List RI:=[om 21 1,oo 22 (.bin .rem (.t 21) (.c (.int .u64 100000000))) [21],oo 23 (.toInt .u32 (.t 22)) [22],omk 5 23]
def KB:List RI:=[omk 24 1,oo 25 (.bin .quo (.t 24) (.c (.int .u64 100000000))) [24],omk 1 25]
def KA:List RI:=[om 26 5,oo 27 (.bin .quo (.t 26) (.c (.int .u32 10000))) [26],omk 28 5,oo 29 (.bin .rem (.t 28) (.c (.int .u32 10000))) [28],omk 6 27,omk 7 29]
def Kz:List RI:=[om 30 7,oo 31 (.bin .quo (.t 30) (.c (.int .u32 100))) [30],oo 32 (.bin .mul (.t 31) (.c (.int .u32 2))) [31],omk 33 7,oo 34 (.bin .rem (.t 33) (.c (.int .u32 100))) [33],oo 35 (.bin .mul (.t 34) (.c (.int .u32 2))) [34],omk 8 32,omk 9 35]
def Ky:List RI:=[om 36 6,oo 37 (.bin .quo (.t 36) (.c (.int .u32 100))) [36],oo 38 (.bin .mul (.t 37) (.c (.int .u32 2))) [37],omk 39 6,oo 40 (.bin .rem (.t 39) (.c (.int .u32 100))) [39],oo 41 (.bin .mul (.t 40) (.c (.int .u32 2))) [40],omk 10 38,omk 11 41]
def Kx:List FI:=[Fm 0 42 0,Fm 1 43 4,Fs 2 44 (Bc .sub 43 1),Fm 3 45 0,Fm 4 46 4,Fs 5 47 (Bc .sub 46 2),Fm 6 48 9,Fs 7 49 (.bin .add (.t 48) (.c (.int .u32 1))),Fs 8 50 (.idxS (.c (.str cs2)) (.t 49)),Fm 9 51 9,Fs 10 52 (.idxS (.c (.str cs2)) (.t 51)),Fs 11 53 (Ia 1 42 44),Fr 12 1 53 50,Fs 13 54 (Ia 1 45 47),Fr 14 1 54 52]
def Kw:List FI:=[Fm 0 55 0,Fm 1 56 4,Fs 2 57 (Bc .sub 56 3),Fm 3 58 0,Fm 4 59 4,Fs 5 60 (Bc .sub 59 4),Fm 6 61 8,Fs 7 62 (.bin .add (.t 61) (.c (.int .u32 1))),Fs 8 63 (.idxS (.c (.str cs2)) (.t 62)),Fm 9 64 8,Fs 10 65 (.idxS (.c (.str cs2)) (.t 64)),Fs 11 66 (Ia 1 55 57),Fr 12 1 66 63,Fs 13 67 (Ia 1 58 60),Fr 14 1 67 65]
def Kv:List FI:=[Fm 0 68 0,Fm 1 69 4,Fs 2 70 (Bc .sub 69 5),Fm 3 71 0,Fm 4 72 4,Fs 5 73 (Bc .sub 72 6),Fm 6 74 11,Fs 7 75 (.bin .add (.t 74) (.c (.int .u32 1))),Fs 8 76 (.idxS (.c (.str cs2)) (.t 75)),Fm 9 77 11,Fs 10 78 (.idxS (.c (.str cs2)) (.t 77)),Fs 11 79 (Ia 1 68 70),Fr 12 1 79 76,Fs 13 80 (Ia 1 71 73),Fr 14 1 80 78]
def AX:List FI:=[Fm 0 81 0,Fm 1 82 4,Fs 2 83 (Bc .sub 82 7),Fm 3 84 0,Fm 4 85 4,Fs 5 86 (Bc .sub 85 8),Fm 6 87 10,Fs 7 88 (.bin .add (.t 87) (.c (.int .u32 1))),Fs 8 89 (.idxS (.c (.str cs2)) (.t 88)),Fm 9 90 10,Fs 10 91 (.idxS (.c (.str cs2)) (.t 90)),Fs 11 92 (Ia 1 81 83),Fr 12 1 92 89,Fs 13 93 (Ia 1 84 86),Fr 14 1 93 91]
def AW:List RI:=[omk 94 4,oo 95 (Bc .sub 94 8) [94],omk 4 95]
def tE:RC:=(Sq (So KD (Kc 20 (Kk [20] .skip) (Kk [20] (.exit 0)))) (Bk 1 (So KC (So KB (So KA (So Kz (So Ky (Sq (.flt [0,0,2,0,0,16,0,64,192,0,512,455,2503,8191,16383] [] Kx [9,42,43,44,45,46,47,48,49,50,51,52,53,54]) (Sq (.flt [0,0,2,0,0,16,0,64,192,0,512,455,2503,8191,16383] [] Kw [8,55,56,57,58,59,60,61,62,63,64,65,66,67]) (Sq (.flt [0,0,2,0,0,16,0,64,192,0,512,455,2503,8191,16383] [] Kv [11,68,69,70,71,72,73,74,75,76,77,78,79,80]) (Sq (.flt [0,0,2,0,0,16,0,64,192,0,512,455,2503,8191,16383] [] AX [10,81,82,83,84,85,86,87,88,89,90,91,92,93]) (.ops AW))))))))))))
def AV:RC:=tE
def AU:List RI:=[omk 96 1,oo 97 (.toInt .u32 (.t 96)) [96],omk 12 97]
def AT:List RI:=[om 98 4,oo 99 (Bc .geq 98 4) [98]]
def AS:List RI:=[om 100 12,oo 101 (.bin .rem (.t 100) (.c (.int .u32 10000))) [100],omk 13 101]
def AR:List RI:=[omk 102 12,oo 103 (.bin .quo (.t 102) (.c (.int .u32 10000))) [102],omk 12 103]
def AQ:List RI:=[om 104 13,oo 105 (.bin .quo (.t 104) (.c (.int .u32 100))) [104],oo 106 (.bin .mul (.t 105) (.c (.int .u32 2))) [105],omk 107 13,oo 108 (.bin .rem (.t 107) (.c (.int .u32 100))) [107],oo 109 (.bin .mul (.t 108) (.c (.int .u32 2))) [108],omk 14 106,omk 15 109]
def AP:List FI:=[Fm 0 110 0,Fm 1 111 4,Fs 2 112 (Bc .sub 111 1),Fm 3 113 0,Fm 4 114 4,Fs 5 115 (Bc .sub 114 2),Fm 6 116 15,Fs 7 117 (.bin .add (.t 116) (.c (.int .u32 1))),Fs 8 118 (.idxS (.c (.str cs2)) (.t 117)),Fm 9 119 15,Fs 10 120 (.idxS (.c (.str cs2)) (.t 119)),Fs 11 121 (Ia 1 110 112),Fr 12 1 121 118,Fs 13 122 (Ia 1 113 115),Fr 14 1 122 120]
def AO:List FI:=[Fm 0 123 0,Fm 1 124 4,Fs 2 125 (Bc .sub 124 3),Fm 3 126 0,Fm 4 127 4,Fs 5 128 (Bc .sub 127 4),Fm 6 129 14,Fs 7 130 (.bin .add (.t 129) (.c (.int .u32 1))),Fs 8 131 (.idxS (.c (.str cs2)) (.t 130)),Fm 9 132 14,Fs 10 133 (.idxS (.c (.str cs2)) (.t 132)),Fs 11 134 (Ia 1 123 125),Fr 12 1 134 131,Fs 13 135 (Ia 1 126 128),Fr 14 1 135 133]
def AN:List RI:=[omk 136 4,oo 137 (Bc .sub 136 4) [136],omk 4 137]
def AM:List RI:=[om 138 4,oo 139 (Bc .geq 138 2) [138]]
def AL:List RI:=[om 140 12,oo 141 (.bin .rem (.t 140) (.c (.int .u32 100))) [140],oo 142 (.bin .mul (.t 141) (.c (.int .u32 2))) [141],omk 16 142]
def AK:List RI:=[omk 143 12,oo 144 (.bin .quo (.t 143) (.c (.int .u32 100))) [143],omk 12 144]
def AJ:List FI:=[Fm 0 145 0,Fm 1 146 4,Fs 2 147 (Bc .sub 146 1),Fm 3 148 0,Fm 4 149 4,Fs 5 150 (Bc .sub 149 2),Fm 6 151 16,Fs 7 152 (.bin .add (.t 151) (.c (.int .u32 1))),Fs 8 153 (.idxS (.c (.str cs2)) (.t 152)),Fm 9 154 16,Fs 10 155 (.idxS (.c (.str cs2)) (.t 154)),Fs 11 156 (Ia 1 145 147),Fr 12 1 156 153,Fs 13 157 (Ia 1 148 150),Fr 14 1 157 155]
def AI:List RI:=[omk 158 4,oo 159 (Bc .sub 158 2) [158],omk 4 159]
def AH:List RI:=[omk 160 4,oo 161 (Bc .gtr 160 0) [160]]
def AG:List RI:=[omk 162 0,omk 163 12,oo 164 (.bin .add (.c (.int .u32 48)) (.t 163)) [163],oo 165 (.toInt .u8 (.t 164)) [164],oo 166 (.iaddrL 1 (.t 162) (ci 0)) [162],Sr 1 166 165 [165,166]]
def xjV:RC:=(So KE (Sq (Bk 0 (.loop AV)) (So AU (Sq (So AT (Kc 99 (Kk [99] (So AS (So AR (So AQ (Sq (.flt [0,0,2,0,0,16,0,64,192,0,512,455,2503,8191,16383] [] AP [15,110,111,112,113,114,115,116,117,118,119,120,121,122]) (Sq (.flt [0,0,2,0,0,16,0,64,192,0,512,455,2503,8191,16383] [] AO [14,123,124,125,126,127,128,129,130,131,132,133,134,135]) (.ops AN))))))) (Kk [99] .skip))) (Sq (So AM (Kc 139 (Kk [139] (So AL (So AK (Sq (.flt [0,0,2,0,0,16,0,64,192,0,512,455,2503,8191,16383] [] AJ [16,145,146,147,148,149,150,151,152,153,154,155,156,157]) (.ops AI))))) (Kk [139] .skip))) (So AH (Kc 161 (Kk [161] (.ops AG)) (Kk [0,12,161] .skip))))))))
def xaV:FnC:=⟨xjV,167,[],[],[]⟩
def J8:List RI:=[omk 3 0,oo 4 (Bc .mul 3 78913) [3],oo 5 (.bin .shr (.t 4) (.c (.int .u64 18))) [4],omk 2 5]
def xjU:RC:=(So jJ (So J8 .ret))
def xaU:FnC:=⟨xjU,6,[.tmp 2],[],[]⟩
def xjT:RC:=(So jJ (Sq (So PJ (Kc 3 (Kk [3] (So gE .ret)) (Kk [3] .skip))) (So iC .ret)))
def xaT:FnC:=⟨xjT,4,[.tmp 2],[],[]⟩
theorem Fk{g:Nat}{F:FnC}{fn:Func}(h1:prog.funcs[g]? =some fn)(h3:fn.ntmps=F.n:=by kernel_rfl)(h2:fn.body.map (cG prog)=some F.code.er:=by kernel_rfl)(h4:(qr prog fn.results.toList F.rs&&eF prog g&&F.code.ok F.n)=true:=by kernel_rfl):bW prog g F:=by simp only[az]at h4;exact S3 h1 h2 h3 h4.1.1 h4.1.2 h4.2
noncomputable def xjK:Nat->Option FnB
 |7=>some (.code F7)
 |10=>some (.code F10)
 |11=>some (.code F11)
 |12=>some (.code F12)
 |13=>some (.code F13)
 |14=>some (.code F14)
 |15=>some (.code F15)
 |16=>some (.code F16)
 |17=>some (.code F17)
 |18=>some (.code F18)
 |19=>some (.code F19)
 |21=>some (.code F21)
 |23=>some (.code F23)
 |27=>some (.code F27)
 |28=>some (.code F28)
 |29=>some (.code F29)
 |30=>some (.code F30)
 |31=>some (.code F31)
 |32=>some (.code F32)
 |33=>some (.code F33)
 |34=>some (.code F34)
 |35=>some (.code F35)
 |37=>some (.code F37)
 |38=>some (.code F38)
 |40=>some (.code F40)
 |41=>some (.code F41)
 |42=>some (.code F42)
 |43=>some (.code F43)
 |44=>some (.code F44)
 |45=>some (.code F45)
 |46=>some (.code F46)
 |47=>some (.code F47)
 |48=>some (.code F48)
 |49=>some (.code F49)
 |50=>some (.code F50)
 |51=>some (.code F51)
 |52=>some (.code F52)
 |53=>some (.code F53)
 |54=>some (.code F54)
 |55=>some (.code F55)
 |56=>some (.code F56)
 |57=>some (.code F57)
 |58=>some (.code F58)
 |65=>some (.code F65)
 |67=>some (.code F67)
 |68=>some (.code F68)
 |69=>some (.code F69)
 |70=>some (.code F70)
 |71=>some (.code F71)
 |72=>some (.code F72)
 |73=>some (.code F73)
 |74=>some (.code F74)
 |75=>some (.code F75)
 |76=>some (.code F76)
 |77=>some (.code F77)
 |78=>some (.code F78)
 |79=>some (.code F79)
 |80=>some (.code F80)
 |81=>some (.code F81)
 |82=>some (.code F82)
 |83=>some (.code F83)
 |84=>some (.code F84)
 |85=>some (.code F85)
 |86=>some (.code F86)
 |87=>some (.code F87)
 |88=>some (.code F88)
 |89=>some (.code F89)
 |90=>some (.code F90)
 |91=>some (.code F91)
 |92=>some (.code F92)
 |93=>some (.code F93)
 |94=>some (.code F94)
 |95=>some (.code F95)
 |98=>some (.code F98)
 |100=>some (.code xbH)
 |101=>some (.code xbG)
 |102=>some (.code xbF)
 |103=>some (.code xbE)
 |104=>some (.code xbD)
 |105=>some (.code xbC)
 |106=>some (.code xbB)
 |108=>some (.code xbA)
 |109=>some (.code xbz)
 |110=>some (.code xby)
 |111=>some (.code xbx)
 |112=>some (.code xbw)
 |115=>some (.code xbv)
 |116=>some (.code xbu)
 |117=>some (.code xbt)
 |118=>some (.code xbs)
 |119=>some (.code xbr)
 |120=>some (.code xbq)
 |121=>some (.code xbp)
 |122=>some (.code xbo)
 |123=>some (.code xbn)
 |124=>some (.code xbm)
 |125=>some (.code xbl)
 |126=>some (.code xbk)
 |127=>some (.code xbj)
 |128=>some (.code xbi)
 |129=>some (.code xbh)
 |131=>some (.code xbg)
 |132=>some (.code xbf)
 |133=>some (.code xbe)
 |134=>some (.code xbd)
 |135=>some (.code xbc)
 |136=>some (.code xbb)
 |139=>some (.code xba)
 |141=>some (.code xa9)
 |144=>some (.code xa8)
 |145=>some (.code xa7)
 |146=>some (.code xa6)
 |147=>some (.code xa5)
 |153=>some (.code xa4)
 |154=>some (.code xa3)
 |156=>some (.code xa2)
 |157=>some (.code xa1)
 |158=>some (.code xa0)
 |167=>some (.code xaZ)
 |170=>some (.code xaY)
 |171=>some (.code xaX)
 |172=>some (.code xaW)
 |173=>some (.code xaV)
 |189=>some (.code xaU)
 |190=>some (.code xaT)
 |130=>some (.prim Pr.p130)
 |107=>some (.prim Pr.p107)
 |142=>some (.prim Pr.p142)
 |138=>some (.prim Pr.p138)
 |_=>none
def xls:Nat->Sig
 |92=>⟨[],[0]⟩
 |93=>⟨[],[0]⟩
 |135=>⟨[],[0]⟩
 |158=>⟨[],[0]⟩
 |173=>⟨[],[0]⟩
 |_=> {}
noncomputable def T:jQ:=⟨xjK,xls⟩
abbrev tf(k:Nat)(F:FnC):Prop:=T.fn k=some (.code F)
theorem T_7:tf 7 F7:=rfl
theorem xof:tf 10 F10:=rfl
theorem xoe:tf 11 F11:=rfl
theorem xod:tf 12 F12:=rfl
theorem xoc:tf 13 F13:=rfl
theorem xob:tf 14 F14:=rfl
theorem xoa:tf 15 F15:=rfl
theorem xk8:tf 16 F16:=rfl
theorem xn9:tf 17 F17:=rfl
theorem xn8:tf 18 F18:=rfl
theorem xn7:tf 19 F19:=rfl
theorem xn6:tf 21 F21:=rfl
theorem xn5:tf 23 F23:=rfl
theorem xn4:tf 27 F27:=rfl
theorem xn3:tf 28 F28:=rfl
theorem xn2:tf 29 F29:=rfl
theorem pD:tf 30 F30:=rfl
theorem xn1:tf 31 F31:=rfl
theorem xn0:tf 32 F32:=rfl
theorem xnZ:tf 33 F33:=rfl
theorem xnY:tf 34 F34:=rfl
theorem xnX:tf 35 F35:=rfl
theorem xnW:tf 37 F37:=rfl
theorem xnV:tf 38 F38:=rfl
theorem xnU:tf 40 F40:=rfl
theorem xas:tf 41 F41:=rfl
theorem xnT:tf 42 F42:=rfl
theorem xnS:tf 43 F43:=rfl
theorem xnR:tf 44 F44:=rfl
theorem xnQ:tf 45 F45:=rfl
theorem xnP:tf 46 F46:=rfl
theorem xnO:tf 47 F47:=rfl
theorem xnN:tf 48 F48:=rfl
theorem xnM:tf 49 F49:=rfl
theorem xnL:tf 50 F50:=rfl
theorem xnK:tf 51 F51:=rfl
theorem xnJ:tf 52 F52:=rfl
theorem xnI:tf 53 F53:=rfl
theorem xnH:tf 54 F54:=rfl
theorem xnG:tf 55 F55:=rfl
theorem xnF:tf 56 F56:=rfl
theorem xnE:tf 57 F57:=rfl
theorem xnD:tf 58 F58:=rfl
theorem xnC:tf 65 F65:=rfl
theorem xnB:tf 67 F67:=rfl
theorem xnA:tf 68 F68:=rfl
theorem xnz:tf 69 F69:=rfl
theorem xny:tf 70 F70:=rfl
theorem xnx:tf 71 F71:=rfl
theorem xk7:tf 72 F72:=rfl
theorem xnw:tf 73 F73:=rfl
theorem xfz:tf 74 F74:=rfl
theorem xnv:tf 75 F75:=rfl
theorem xnu:tf 76 F76:=rfl
theorem xnt:tf 77 F77:=rfl
theorem xns:tf 78 F78:=rfl
theorem xnr:tf 79 F79:=rfl
theorem xnq:tf 80 F80:=rfl
theorem xnp:tf 81 F81:=rfl
theorem xno:tf 82 F82:=rfl
theorem xnn:tf 83 F83:=rfl
theorem xnm:tf 84 F84:=rfl
theorem xnl:tf 85 F85:=rfl
theorem xnk:tf 86 F86:=rfl
theorem xnj:tf 87 F87:=rfl
theorem xni:tf 88 F88:=rfl
theorem xk6:tf 89 F89:=rfl
theorem xk5:tf 90 F90:=rfl
theorem xnh:tf 91 F91:=rfl
theorem xk4:tf 92 F92:=rfl
theorem xar:tf 93 F93:=rfl
theorem xng:tf 94 F94:=rfl
theorem xnf:tf 95 F95:=rfl
theorem xne:tf 98 F98:=rfl
theorem xjm:tf 100 xbH:=rfl
theorem xjl:tf 101 xbG:=rfl
theorem xjk:tf 102 xbF:=rfl
theorem E6:tf 103 xbE:=rfl
theorem xjj:tf 104 xbD:=rfl
theorem xji:tf 105 xbC:=rfl
theorem xjh:tf 106 xbB:=rfl
theorem xjf:tf 108 xbA:=rfl
theorem xje:tf 109 xbz:=rfl
theorem xjd:tf 110 xby:=rfl
theorem xjc:tf 111 xbx:=rfl
theorem xjb:tf 112 xbw:=rfl
theorem xja:tf 115 xbv:=rfl
theorem xi9:tf 116 xbu:=rfl
theorem xi8:tf 117 xbt:=rfl
theorem xi7:tf 118 xbs:=rfl
theorem xi6:tf 119 xbr:=rfl
theorem xax:tf 120 xbq:=rfl
theorem xaw:tf 121 xbp:=rfl
theorem xi5:tf 122 xbo:=rfl
theorem xi4:tf 123 xbn:=rfl
theorem xi3:tf 124 xbm:=rfl
theorem xi2:tf 125 xbl:=rfl
theorem xi1:tf 126 xbk:=rfl
theorem xi0:tf 127 xbj:=rfl
theorem xiZ:tf 128 xbi:=rfl
theorem xiY:tf 129 xbh:=rfl
theorem xiW:tf 131 xbg:=rfl
theorem xiV:tf 132 xbf:=rfl
theorem xiU:tf 133 xbe:=rfl
theorem xiT:tf 134 xbd:=rfl
theorem xav:tf 135 xbc:=rfl
theorem xiS:tf 136 xbb:=rfl
theorem xiQ:tf 139 xba:=rfl
theorem xiP:tf 141 xa9:=rfl
theorem xiN:tf 144 xa8:=rfl
theorem xiM:tf 145 xa7:=rfl
theorem xiL:tf 146 xa6:=rfl
theorem xiK:tf 147 xa5:=rfl
theorem xiJ:tf 153 xa4:=rfl
theorem xiI:tf 154 xa3:=rfl
theorem xiH:tf 156 xa2:=rfl
theorem xiG:tf 157 xa1:=rfl
theorem xau:tf 158 xa0:=rfl
theorem xat:tf 167 xaZ:=rfl
theorem xiF:tf 170 xaY:=rfl
theorem xiE:tf 171 xaX:=rfl
theorem xiD:tf 172 xaW:=rfl
theorem xU:tf 173 xaV:=rfl
theorem xiC:tf 189 xaU:=rfl
theorem xiB:tf 190 xaT:=rfl
theorem xiX:T.fn 130=some (.prim Pr.p130):=rfl
theorem xjg:T.fn 107=some (.prim Pr.p107):=rfl
theorem xiO:T.fn 142=some (.prim Pr.p142):=rfl
theorem xiR:T.fn 138=some (.prim Pr.p138):=rfl
theorem ri:T.sg 130= {}:=rfl
theorem xjC:T.sg 107= {}:=rfl
theorem xjt:T.sg 142= {}:=rfl
theorem uK:T.sg 138= {}:=rfl
theorem S_7:T.sg 7= {}:=rfl
theorem xoA:T.sg 10= {}:=rfl
theorem xoz:T.sg 11= {}:=rfl
theorem xoy:T.sg 12= {}:=rfl
theorem pG:T.sg 13= {}:=rfl
theorem Di:T.sg 14= {}:=rfl
theorem xox:T.sg 15= {}:=rfl
theorem xfL:T.sg 16= {}:=rfl
theorem xow:T.sg 17= {}:=rfl
theorem xov:T.sg 18= {}:=rfl
theorem jB:T.sg 19= {}:=rfl
theorem xou:T.sg 21= {}:=rfl
theorem xlk:T.sg 23= {}:=rfl
theorem xot:T.sg 27= {}:=rfl
theorem xlj:T.sg 28= {}:=rfl
theorem xfK:T.sg 29= {}:=rfl
theorem xos:T.sg 30= {}:=rfl
theorem xli:T.sg 31= {}:=rfl
theorem xoq:T.sg 32= {}:=rfl
theorem Ft:T.sg 33= {}:=rfl
theorem xaz:T.sg 34= {}:=rfl
theorem xop:T.sg 35= {}:=rfl
theorem xoo:T.sg 37= {}:=rfl
theorem Dh:T.sg 38= {}:=rfl
theorem xlh:T.sg 40= {}:=rfl
theorem xon:T.sg 41= {}:=rfl
theorem nI:T.sg 42= {}:=rfl
theorem T2:T.sg 43= {}:=rfl
theorem tW:T.sg 44= {}:=rfl
theorem kF:T.sg 45= {}:=rfl
theorem Px:T.sg 46= {}:=rfl
theorem mP:T.sg 47= {}:=rfl
theorem qU:T.sg 48= {}:=rfl
theorem tV:T.sg 49= {}:=rfl
theorem xfJ:T.sg 50= {}:=rfl
theorem xX:T.sg 51= {}:=rfl
theorem Fq:T.sg 52= {}:=rfl
theorem Fp:T.sg 53= {}:=rfl
theorem xay:T.sg 54= {}:=rfl
theorem xfI:T.sg 55= {}:=rfl
theorem xom:T.sg 56= {}:=rfl
theorem xfH:T.sg 57= {}:=rfl
theorem xol:T.sg 58= {}:=rfl
theorem Pw:T.sg 65= {}:=rfl
theorem xok:T.sg 67= {}:=rfl
theorem nH:T.sg 68= {}:=rfl
theorem xfG:T.sg 69= {}:=rfl
theorem xfF:T.sg 70= {}:=rfl
theorem fH:T.sg 71= {}:=rfl
theorem xlg:T.sg 72= {}:=rfl
theorem nG:T.sg 73= {}:=rfl
theorem pF:T.sg 74= {}:=rfl
theorem xoj:T.sg 75= {}:=rfl
theorem xlf:T.sg 76= {}:=rfl
theorem wv:T.sg 77= {}:=rfl
theorem xoi:T.sg 78= {}:=rfl
theorem xfE:T.sg 79= {}:=rfl
theorem xle:T.sg 80= {}:=rfl
theorem xld:T.sg 81= {}:=rfl
theorem Dg:T.sg 82= {}:=rfl
theorem xfD:T.sg 83= {}:=rfl
theorem xfC:T.sg 84= {}:=rfl
theorem T1:T.sg 85= {}:=rfl
theorem xoh:T.sg 86= {}:=rfl
theorem xfB:T.sg 87= {}:=rfl
theorem xfA:T.sg 88= {}:=rfl
theorem wu:T.sg 89= {}:=rfl
theorem xW:T.sg 90= {}:=rfl
theorem xlc:T.sg 91= {}:=rfl
theorem xlb:T.sg 92=⟨[],[0]⟩:=rfl
theorem xla:T.sg 93=⟨[],[0]⟩:=rfl
theorem T0:T.sg 94= {}:=rfl
theorem Df:T.sg 95= {}:=rfl
theorem xk9:T.sg 98= {}:=rfl
theorem oa:T.sg 100= {}:=rfl
theorem xjG:T.sg 101= {}:=rfl
theorem pJ:T.sg 102= {}:=rfl
theorem xaP:T.sg 103= {}:=rfl
theorem xjF:T.sg 104= {}:=rfl
theorem xjE:T.sg 105= {}:=rfl
theorem xjD:T.sg 106= {}:=rfl
theorem xjB:T.sg 108= {}:=rfl
theorem x6:T.sg 109= {}:=rfl
theorem pI:T.sg 110= {}:=rfl
theorem xaO:T.sg 111= {}:=rfl
theorem xjA:T.sg 112= {}:=rfl
theorem xjz:T.sg 115= {}:=rfl
theorem xaN:T.sg 116= {}:=rfl
theorem xaM:T.sg 117= {}:=rfl
theorem xaL:T.sg 118= {}:=rfl
theorem xaK:T.sg 119= {}:=rfl
theorem QS:T.sg 120= {}:=rfl
theorem pH:T.sg 121= {}:=rfl
theorem E7:T.sg 122= {}:=rfl
theorem xaJ:T.sg 123= {}:=rfl
theorem xjy:T.sg 124= {}:=rfl
theorem QR:T.sg 125= {}:=rfl
theorem xjx:T.sg 126= {}:=rfl
theorem xjw:T.sg 127= {}:=rfl
theorem xaI:T.sg 128= {}:=rfl
theorem xaH:T.sg 129= {}:=rfl
theorem xaG:T.sg 131= {}:=rfl
theorem xjv:T.sg 132= {}:=rfl
theorem xaF:T.sg 133= {}:=rfl
theorem xju:T.sg 134= {}:=rfl
theorem xaE:T.sg 135=⟨[],[0]⟩:=rfl
theorem xaD:T.sg 136= {}:=rfl
theorem QQ:T.sg 139= {}:=rfl
theorem QP:T.sg 141= {}:=rfl
theorem xjs:T.sg 144= {}:=rfl
theorem xjr:T.sg 145= {}:=rfl
theorem xjq:T.sg 146= {}:=rfl
theorem xjp:T.sg 147= {}:=rfl
theorem xaC:T.sg 153= {}:=rfl
theorem xjo:T.sg 154= {}:=rfl
theorem xaB:T.sg 156= {}:=rfl
theorem rh:T.sg 157= {}:=rfl
theorem xaA:T.sg 158=⟨[],[0]⟩:=rfl
theorem jR:T.sg 167= {}:=rfl
theorem x5:T.sg 170= {}:=rfl
theorem xjn:T.sg 171= {}:=rfl
theorem xZ:T.sg 172= {}:=rfl
theorem xY:T.sg 173=⟨[],[0]⟩:=rfl
theorem kW:T.sg 189= {}:=rfl
theorem kV:T.sg 190= {}:=rfl
theorem xgl(c:CSt):run T PM c=run T QE c:=rfl
theorem xdi(c:CSt):run T uv c=run T Af c:=rfl
theorem xdh(c:CSt):run T uu c=run T Ae c:=rfl
theorem xda(c:CSt):run T lX c=run T z7 c:=rfl
theorem xc9(c:CSt):run T ur c=run T z6 c:=rfl
theorem xc6(c:CSt):run T lW c=run T zX c:=rfl
theorem xc5(c:CSt):run T uq c=run T zW c:=rfl
theorem xc2(c:CSt):run T qD c=run T zT c:=rfl
theorem xc1(c:CSt):run T qC c=run T zS c:=rfl
theorem xc0(c:CSt):run T yG c=run T zQ c:=rfl
theorem xcZ(c:CSt):run T yF c=run T zP c:=rfl
theorem xgu(c:CSt):run T EO c=run T QN c:=rfl
theorem xcY(c:CSt):run T up c=run T zO c:=rfl
theorem xgt(c:CSt):run T Qo c=run T QM c:=rfl
theorem xcX(c:CSt):run T yE c=run T zN c:=rfl
theorem xcW(c:CSt):run T yC c=run T zM c:=rfl
theorem xcV(c:CSt):run T yB c=run T zL c:=rfl
theorem xcU(c:CSt):run T JT c=run T zK c:=rfl
theorem xcT(c:CSt):run T yA c=run T zJ c:=rfl
theorem xcS(c:CSt):run T yz c=run T zI c:=rfl
theorem xcR(c:CSt):run T qx c=run T zH c:=rfl
theorem xcQ(c:CSt):run T um c=run T zG c:=rfl
theorem xcP(c:CSt):run T ul c=run T zF c:=rfl
theorem xgs(c:CSt):run T P5 c=run T QL c:=rfl
theorem xcO(c:CSt):run T yy c=run T zE c:=rfl
theorem xcN(c:CSt):run T lV c=run T zD c:=rfl
theorem xcM(c:CSt):run T yx c=run T zC c:=rfl
theorem xcL(c:CSt):run T yw c=run T zB c:=rfl
theorem xgr(c:CSt):run T P3 c=run T QK c:=rfl
theorem xgq(c:CSt):run T P2 c=run T QJ c:=rfl
theorem xgp(c:CSt):run T P0 c=run T QI c:=rfl
theorem xcK(c:CSt):run T yv c=run T zA c:=rfl
theorem xgo(c:CSt):run T PY c=run T QH c:=rfl
theorem xcJ(c:CSt):run T yu c=run T zy c:=rfl
theorem xcI(c:CSt):run T yr c=run T zx c:=rfl
theorem xcH(c:CSt):run T yp c=run T zw c:=rfl
theorem xcG(c:CSt):run T yo c=run T zu c:=rfl
theorem xcF(c:CSt):run T yn c=run T zt c:=rfl
theorem xcE(c:CSt):run T ui c=run T zr c:=rfl
theorem xgn(c:CSt):run T V1 c=run T QG c:=rfl
theorem xcD(c:CSt):run T ym c=run T zq c:=rfl
theorem xcC(c:CSt):run T ug c=run T zp c:=rfl
theorem xcB(c:CSt):run T Il c=run T zo c:=rfl
theorem xgm(c:CSt):run T PP c=run T QF c:=rfl
theorem xcA(c:CSt):run T yl c=run T zm c:=rfl
theorem xcz(c:CSt):run T yk c=run T zl c:=rfl
theorem xgk(c:CSt):run T PK c=run T QD c:=rfl
theorem xcy(c:CSt):run T uf c=run T zk c:=rfl
theorem xcx(c:CSt):run T yj c=run T zj c:=rfl
theorem xcw(c:CSt):run T yi c=run T zi c:=rfl
theorem xgj(c:CSt):run T PG c=run T QC c:=rfl
theorem xgi(c:CSt):run T PF c=run T QB c:=rfl
theorem xcv(c:CSt):run T yh c=run T zh c:=rfl
theorem xcu(c:CSt):run T yg c=run T zg c:=rfl
theorem xct(c:CSt):run T ue c=run T zf c:=rfl
theorem xgh(c:CSt):run T EK c=run T QA c:=rfl
theorem xdo(c:CSt):run T OT c=run T Al c:=rfl
theorem xdn(c:CSt):run T Oz c=run T Ak c:=rfl
theorem xdm(c:CSt):run T yX c=run T Aj c:=rfl
theorem xdl(c:CSt):run T N5 c=run T Ai c:=rfl
theorem xdk(c:CSt):run T yW c=run T Ah c:=rfl
theorem Sd(c:CSt):run T sY c=run T tR c:=rfl
theorem xdj(c:CSt):run T yT c=run T Ag c:=rfl
theorem xdg(c:CSt):run T yR c=run T Ad c:=rfl
theorem xdf(c:CSt):run T yQ c=run T Ac c:=rfl
theorem Sc(c:CSt):run T sX c=run T tQ c:=rfl
theorem Sb(c:CSt):run T sW c=run T tP c:=rfl
theorem xde(c:CSt):run T yO c=run T Ab c:=rfl
theorem Sa(c:CSt):run T sV c=run T tO c:=rfl
theorem xdd(c:CSt):run T yN c=run T Aa c:=rfl
theorem R9(c:CSt):run T fT c=run T tN c:=rfl
theorem xdc(c:CSt):run T yM c=run T z9 c:=rfl
theorem R8(c:CSt):run T sU c=run T tM c:=rfl
theorem R7(c:CSt):run T sT c=run T tL c:=rfl
theorem R6(c:CSt):run T sS c=run T tK c:=rfl
theorem R5(c:CSt):run T BC c=run T tJ c:=rfl
theorem xdb(c:CSt):run T yL c=run T z8 c:=rfl
theorem R4(c:CSt):run T sR c=run T tI c:=rfl
theorem R3(c:CSt):run T fS c=run T tH c:=rfl
theorem R2(c:CSt):run T sQ c=run T tG c:=rfl
theorem xc8(c:CSt):run T yK c=run T zZ c:=rfl
theorem xc7(c:CSt):run T yJ c=run T zY c:=rfl
theorem RZ(c:CSt):run T oQ c=run T tF c:=rfl
theorem xc4(c:CSt):run T yI c=run T zV c:=rfl
theorem xc3(c:CSt):run T yH c=run T zU c:=rfl
theorem RY(c:CSt):run T AV c=run T tE c:=rfl
theorem xlK:bW prog 7 F7:=Fk func7
theorem xhJ:bW prog 10 F10:=Fk func10
theorem xhI:bW prog 11 F11:=Fk func11
theorem xhH:bW prog 12 F12:=Fk func12
theorem xhG:bW prog 13 F13:=Fk func13
theorem xhF:bW prog 14 F14:=Fk func14
theorem xhE:bW prog 15 F15:=Fk func15
theorem xhD:bW prog 16 F16:=Fk func16
theorem xhC:bW prog 17 F17:=Fk func17
theorem xhB:bW prog 18 F18:=Fk func18
theorem xhA:bW prog 19 F19:=Fk func19
theorem xhz:bW prog 21 F21:=Fk func21
theorem xhy:bW prog 23 F23:=Fk func23
theorem xhx:bW prog 27 F27:=Fk func27
theorem xhw:bW prog 28 F28:=Fk func28
theorem xhv:bW prog 29 F29:=Fk func29
theorem xhu:bW prog 30 F30:=Fk func30
theorem xht:bW prog 31 F31:=Fk func31
theorem xhs:bW prog 32 F32:=Fk func32
theorem xhr:bW prog 33 F33:=Fk func33
theorem xhq:bW prog 34 F34:=Fk func34
theorem xhp:bW prog 35 F35:=Fk func35
theorem xho:bW prog 37 F37:=Fk func37
theorem xhn:bW prog 38 F38:=Fk func38
theorem xhm:bW prog 40 F40:=Fk func40
theorem xhl:bW prog 41 F41:=Fk func41
theorem xhk:bW prog 42 F42:=Fk func42
theorem xhj:bW prog 43 F43:=Fk func43
theorem xhi:bW prog 44 F44:=Fk func44
theorem xhh:bW prog 45 F45:=Fk func45
theorem xhg:bW prog 46 F46:=Fk func46
theorem xhf:bW prog 47 F47:=Fk func47
theorem xhe:bW prog 48 F48:=Fk func48
theorem xhd:bW prog 49 F49:=Fk func49
theorem xhc:bW prog 50 F50:=Fk func50
theorem xhb:bW prog 51 F51:=Fk func51
theorem xha:bW prog 52 F52:=Fk func52
theorem xg9:bW prog 53 F53:=Fk func53
theorem xg8:bW prog 54 F54:=Fk func54
theorem xg7:bW prog 55 F55:=Fk func55
theorem xg6:bW prog 56 F56:=Fk func56
theorem xg5:bW prog 57 F57:=Fk func57
theorem xg4:bW prog 58 F58:=Fk func58
theorem xg3:bW prog 65 F65:=Fk func65
theorem xg2:bW prog 67 F67:=Fk func67
theorem xg1:bW prog 68 F68:=Fk func68
theorem xg0:bW prog 69 F69:=Fk func69
theorem xgZ:bW prog 70 F70:=Fk func70
theorem xgY:bW prog 71 F71:=Fk func71
theorem xgX:bW prog 72 F72:=Fk func72
theorem xgW:bW prog 73 F73:=Fk func73
theorem xgV:bW prog 74 F74:=Fk func74
theorem xgU:bW prog 75 F75:=Fk func75
theorem xgT:bW prog 76 F76:=Fk func76
theorem xgS:bW prog 77 F77:=Fk func77
theorem xgR:bW prog 78 F78:=Fk func78
theorem xgQ:bW prog 79 F79:=Fk func79
theorem xgP:bW prog 80 F80:=Fk func80
theorem xgO:bW prog 81 F81:=Fk func81
theorem xgN:bW prog 82 F82:=Fk func82
theorem xgM:bW prog 83 F83:=Fk func83
theorem xgL:bW prog 84 F84:=Fk func84
theorem xgK:bW prog 85 F85:=Fk func85
theorem xgJ:bW prog 86 F86:=Fk func86
theorem xgI:bW prog 87 F87:=Fk func87
theorem xgH:bW prog 88 F88:=Fk func88
theorem xgG:bW prog 89 F89:=Fk func89
theorem xgF:bW prog 90 F90:=Fk func90
theorem xgE:bW prog 91 F91:=Fk func91
theorem xgD:bW prog 92 F92:=Fk func92
theorem xgC:bW prog 93 F93:=Fk func93
theorem xgB:bW prog 94 F94:=Fk func94
theorem xgA:bW prog 95 F95:=Fk func95
theorem xgz:bW prog 98 F98:=Fk func98
theorem xef:bW prog 100 xbH:=Fk func100
theorem xee:bW prog 101 xbG:=Fk func101
theorem xed:bW prog 102 xbF:=Fk func102
theorem xec:bW prog 103 xbE:=Fk func103
theorem xeb:bW prog 104 xbD:=Fk func104
theorem xea:bW prog 105 xbC:=Fk func105
theorem xd9:bW prog 106 xbB:=Fk func106
theorem xd8:bW prog 108 xbA:=Fk func108
theorem xd7:bW prog 109 xbz:=Fk func109
theorem xd6:bW prog 110 xby:=Fk func110
theorem xd5:bW prog 111 xbx:=Fk func111
theorem xd4:bW prog 112 xbw:=Fk func112
theorem xd3:bW prog 115 xbv:=Fk func115
theorem xd2:bW prog 116 xbu:=Fk func116
theorem xd1:bW prog 117 xbt:=Fk func117
theorem xd0:bW prog 118 xbs:=Fk func118
theorem xdZ:bW prog 119 xbr:=Fk func119
theorem xdY:bW prog 120 xbq:=Fk func120
theorem xdX:bW prog 121 xbp:=Fk func121
theorem xdW:bW prog 122 xbo:=Fk func122
theorem xdV:bW prog 123 xbn:=Fk func123
theorem xdU:bW prog 124 xbm:=Fk func124
theorem xdT:bW prog 125 xbl:=Fk func125
theorem xdS:bW prog 126 xbk:=Fk func126
theorem xdR:bW prog 127 xbj:=Fk func127
theorem xdQ:bW prog 128 xbi:=Fk func128
theorem xdP:bW prog 129 xbh:=Fk func129
theorem xdO:bW prog 131 xbg:=Fk func131
theorem xdN:bW prog 132 xbf:=Fk func132
theorem xdM:bW prog 133 xbe:=Fk func133
theorem xdL:bW prog 134 xbd:=Fk func134
theorem xdK:bW prog 135 xbc:=Fk func135
theorem xdJ:bW prog 136 xbb:=Fk func136
theorem xdI:bW prog 139 xba:=Fk func139
theorem xdH:bW prog 141 xa9:=Fk func141
theorem xdG:bW prog 144 xa8:=Fk func144
theorem xdF:bW prog 145 xa7:=Fk func145
theorem xdE:bW prog 146 xa6:=Fk func146
theorem xdD:bW prog 147 xa5:=Fk func147
theorem xdC:bW prog 153 xa4:=Fk func153
theorem xdB:bW prog 154 xa3:=Fk func154
theorem xdA:bW prog 156 xa2:=Fk func156
theorem xdz:bW prog 157 xa1:=Fk func157
theorem xdy:bW prog 158 xa0:=Fk func158
theorem xdx:bW prog 167 xaZ:=Fk func167
theorem xdw:bW prog 170 xaY:=Fk func170
theorem xdv:bW prog 171 xaX:=Fk func171
theorem xdu:bW prog 172 xaW:=Fk func172
theorem xdt:bW prog 173 xaV:=Fk func173
theorem xds:bW prog 189 xaU:=Fk func189
theorem xdr:bW prog 190 xaT:=Fk func190
theorem xcc:xT prog T:=by
 intro g b h;simp only[T]at h;unfold xjK at h;split at h
 ·cases h;exact xlK
 ·cases h;exact xhJ
 ·cases h;exact xhI
 ·cases h;exact xhH
 ·cases h;exact xhG
 ·cases h;exact xhF
 ·cases h;exact xhE
 ·cases h;exact xhD
 ·cases h;exact xhC
 ·cases h;exact xhB
 ·cases h;exact xhA
 ·cases h;exact xhz
 ·cases h;exact xhy
 ·cases h;exact xhx
 ·cases h;exact xhw
 ·cases h;exact xhv
 ·cases h;exact xhu
 ·cases h;exact xht
 ·cases h;exact xhs
 ·cases h;exact xhr
 ·cases h;exact xhq
 ·cases h;exact xhp
 ·cases h;exact xho
 ·cases h;exact xhn
 ·cases h;exact xhm
 ·cases h;exact xhl
 ·cases h;exact xhk
 ·cases h;exact xhj
 ·cases h;exact xhi
 ·cases h;exact xhh
 ·cases h;exact xhg
 ·cases h;exact xhf
 ·cases h;exact xhe
 ·cases h;exact xhd
 ·cases h;exact xhc
 ·cases h;exact xhb
 ·cases h;exact xha
 ·cases h;exact xg9
 ·cases h;exact xg8
 ·cases h;exact xg7
 ·cases h;exact xg6
 ·cases h;exact xg5
 ·cases h;exact xg4
 ·cases h;exact xg3
 ·cases h;exact xg2
 ·cases h;exact xg1
 ·cases h;exact xg0
 ·cases h;exact xgZ
 ·cases h;exact xgY
 ·cases h;exact xgX
 ·cases h;exact xgW
 ·cases h;exact xgV
 ·cases h;exact xgU
 ·cases h;exact xgT
 ·cases h;exact xgS
 ·cases h;exact xgR
 ·cases h;exact xgQ
 ·cases h;exact xgP
 ·cases h;exact xgO
 ·cases h;exact xgN
 ·cases h;exact xgM
 ·cases h;exact xgL
 ·cases h;exact xgK
 ·cases h;exact xgJ
 ·cases h;exact xgI
 ·cases h;exact xgH
 ·cases h;exact xgG
 ·cases h;exact xgF
 ·cases h;exact xgE
 ·cases h;exact xgD
 ·cases h;exact xgC
 ·cases h;exact xgB
 ·cases h;exact xgA
 ·cases h;exact xgz
 ·cases h;exact xef
 ·cases h;exact xee
 ·cases h;exact xed
 ·cases h;exact xec
 ·cases h;exact xeb
 ·cases h;exact xea
 ·cases h;exact xd9
 ·cases h;exact xd8
 ·cases h;exact xd7
 ·cases h;exact xd6
 ·cases h;exact xd5
 ·cases h;exact xd4
 ·cases h;exact xd3
 ·cases h;exact xd2
 ·cases h;exact xd1
 ·cases h;exact xd0
 ·cases h;exact xdZ
 ·cases h;exact xdY
 ·cases h;exact xdX
 ·cases h;exact xdW
 ·cases h;exact xdV
 ·cases h;exact xdU
 ·cases h;exact xdT
 ·cases h;exact xdS
 ·cases h;exact xdR
 ·cases h;exact xdQ
 ·cases h;exact xdP
 ·cases h;exact xdO
 ·cases h;exact xdN
 ·cases h;exact xdM
 ·cases h;exact xdL
 ·cases h;exact xdK
 ·cases h;exact xdJ
 ·cases h;exact xdI
 ·cases h;exact xdH
 ·cases h;exact xdG
 ·cases h;exact xdF
 ·cases h;exact xdE
 ·cases h;exact xdD
 ·cases h;exact xdC
 ·cases h;exact xdB
 ·cases h;exact xdA
 ·cases h;exact xdz
 ·cases h;exact xdy
 ·cases h;exact xdx
 ·cases h;exact xdw
 ·cases h;exact xdv
 ·cases h;exact xdu
 ·cases h;exact xdt
 ·cases h;exact xds
 ·cases h;exact xdr
 ·cases h;exact Pr.p130_ok
 ·cases h;exact Pr.p107_ok
 ·cases h;exact Pr.p142_ok
 ·cases h;exact Pr.p138_ok
 ·cases h
attribute [go_sem] SV.kclip Tok.kc RO xiA xiz xnd iD uw Rj ER jt List.all_replicate CS CR Rm xcb Sf Sh Sg Gl Si Sl rG Sk Sj aw.injEq xlH xgc xil xel xeg xo Dy Dz xet xbV EZ DB an cz cn aA TV TW xfo Hc Gx D3 Dr Ds Tok.ids ld au af ca Int.natCast_nonneg Int.ofNat_lt Int.ofNat_le Int.ofNat_inj F1 RK F5 RM RN xfQ QW xfR xbT xbS xbO xfX xfY xfV xll QU QT xfP xfZ xbP xbK xbL xbM QV xfT Fv Fw xbX xbW xfU xfS xbU xfW xbQ xbR xbN xlG xlF xlI xch xgd xeP xmt xmu xmr xms xmv S0 xeQ S4 RJ F6 DR RL F3 xeO DU DV Gc Gd xeN SH xm6 xm8 xm7 pV D5 xhM Sz xhO xer xeq xem xhX xhY xhS xlL Su Ss xhK xhZ xen xeh xei xej Sx xhQ Gn Gp xev xeu xhR xhP xes xhV xeo xep xek Sw xhL xhW xlM xhN Sv xh0 xhT xew TZ EC mkE xft stC FH apS apB apL TY cpC cp2 cpB cpL xci xdq CT Pb CU CV lk ll O8 CY CZ xca Rf xim xey xeH xeG SN GH GG Ea SM Ec GI SP Eb xz Gr Gs SE xlv xlt xlu Rq xcd xiu xix xiw xiv Hl TO xlU xlS xlT SG xeC Gh xgx xgv xgw Gg Se G5 Eu Ew xio xin S5 EU xao xag ub T7 xap Hu EH EI uC Z5 pj pX mI E2 E1 xaf lenC xal EV EW uF ZY EX ES uA eE ji wi iG iM xfw mB dl evL CSt.purge xA yb PC mH Fj mm ks ol eH fN psC Tok.readyC aG.wf SV.bare SV.bareL jS jT sK jE dZ cD dL gF gM fJ dy oC ee re rf mw qX jP iS FR DC RD FN FS FQ DA wN RE FO RG FT DM wS DJ wQ FU DE DK DI wO wP uU FV DF FX DL DD FW DH FM RF FP Qy Hh TJ TK S7 S9 Ta S8 TS FK Rt Rz Ry Rx Rw Rv Ru xeY xeR xeW xeX xeV xeU xeT xeS Sp Sn Sm SX SW SR SQ SU SS TR xfn eP CSt.publish lj lK nR SV.pub SV.pubL xe gcC qQ Rk rE kZ fU gV tks nT Fc rg dz Qx wx ib jN SV.num lT iI toB rows uD gO fI gI Tok.eat SV.one SV.data SV.isData SV.cells SV.isDef SV.purge SV.purgeL aG.purge bH cE Tok.purge SV.ren SV.renL aG.ren Tok.ren SV.ids SV.idsL SV.toks SV.toksL aG.ids aG.toks iL kq inR oN fo id_eq aC aB aJ aF bJ cK eK beq_self_eq_true bL bY List.getD_nil mz List.take_zero b9 bh List.drop_succ_cons List.drop_nil aI bn dj List.flatten_nil List.contains_nil List.contains_cons List.isEmpty_nil List.isEmpty_cons gx List.all_nil List.set_cons_zero List.set_cons_succ bB Option.getD_none bx Option.map_none Option.toList_some Option.toList_none cZ Option.isNone_none Option.isNone_some Option.isSome_none Option.isSome_some Bool.or_false im Bool.or_true dD Bool.and_self Bool.and_true Bool.true_and Bool.and_false Fb Bool.not_true Bool.not_false aK Bool.true_eq_false Bool.not_eq_true Bool.not_eq_false decide_eq_true_eq decide_eq_false_iff_not and_true true_and and_self or_false false_or or_true true_or not_true_eq_false not_false_eq_true ne_eq Int.toNat_natCast true_implies false_implies implies_true decide_true decide_false Nat.lt_irrefl Nat.not_lt_zero aQ bU eq_self and_false false_and Pa mvC xkJ ZU xex xhU clA cl2 clC
attribute [go_sem] Fm Fs Fz Fi Ld Fa Ln Ia Mv Bb Bc Ca Pf Pt So Kk Kc Fy Fr Sr Lt Mc Mb Bk Sq Zq0 Zq1 Zq2 Zq3 xm xs xi ci om omk on oo xjS xjR xfs xjQ xjP xjO xjN xfr xjM xjL Vm PL QE F7 xgl r7 ZQ ZP ZO ZN ZM ZL F10 r10 ZK ZJ ZI ZH ZG ZF ZE ZD lD ZC NQ NP NO NN NM lh NL NK NJ NI NH NG Af Ae F11 xdi xdh r11 Qp ZB F12 r12 ra ZA qZ Zz gE Zy oR Zx Zw Zv L9 L8 L7 ut L6 L5 L4 L3 L2 L1 L0 LZ iC z7 z6 F13 xda xc9 r13 Zu Zt Zs qY Zr Zq Ly Lx Lw Lv jK Lu Ls Lr Lq Lp zX zW F14 xc6 xc5 r14 oP Zp Zo Zn Zm Zl F15 r15 xd Zk xc Zj Zi Zh Zg Zf Ze Zd KV KU KT KS KR KQ KP KO KN KM KL KK zT zS F16 xc2 xc1 r16 Zc Zb Za Y9 Y8 Y7 Y6 Y5 Y4 Y3 Ku Kt Ks Kr Kq Kp Ko Kn Km qB Kj Ki Kh Kg Kf Ke Kd Kb qA Ka J9 zQ zP F17 xc0 xcZ r17 EP Y2 lC Y1 Y0 YZ YY oc J7 J6 J5 qz QN zO F18 xgu xcY r18 oO YX YW YV YU QM F19 xgt r19 YT YS YR F21 r21 lB Qn YQ YP F23 r23 Qm YO Ql YN YM YL YK uo YJ YI J4 J3 J2 J1 J0 JZ yD JY JX JW JV JU JS zN zM zL zK F27 xcX xcW xcV xcU r27 YH YG P9 YF YE YD YC YB YA JR JQ JP JO JN JM JL JK JJ JI zJ zI zH F28 xcT xcS xcR r28 Yz Yy Yx F29 r29 Yw Yv Yu Yt Ys Yr Yq Yp Yo Yn JH JG JF F30 r30 EN Ym mf Yl Yk Yj Yi Yh Yg JE JD F31 r31 Yf Ye Yd Yc Yb Ya X9 JC JB JA Jz Jy zG zF F32 xcQ xcP r32 jJ X8 xb X7 F33 r33 X6 F34 r34 P8 X5 P7 X4 X3 X2 X1 X0 XZ Jx Jw F35 r35 P6 XY XX XW XV XU XT XS XR Jv Ju QL F37 xgs r37 XQ XP XO XN XM XL XK XJ Jt Js Jr Jq zE zD F38 xcO xcN r38 XI XH XG XF F40 r40 XE XD XC XB XA Xz Xy Xx Xw Jp Jo Jn Jm Jl zC F41 xcM r41 uj Xv F42 r42 Xu F43 r43 Xt Xs Xr Xq Xp Xo Xn Jk Jj Ji Jh zB F44 xcL r44 Xm jI Xl Xk Xj P4 lU QK F45 xgr r45 Xi Xh Xg Xf Xe Xd Xc F46 r46 Xb Xa W9 W8 Jg Jf Je Jd QJ F47 xgq r47 P1 W7 W6 W5 W4 W3 W2 W1 W0 QI F48 xgp r48 WZ WY F49 r49 WX WW F50 r50 PZ WV WU WT WS WR Jc Jb Ja I9 I8 I7 I6 I5 I4 zA F51 xcK r51 kM WQ WP WO WN WM WL I3 I2 I1 I0 IZ IY F52 r52 WK F53 r53 WJ WI WH WG WF WE IX IW F54 r54 WD WC WB F55 r55 WA Wz Wy F56 r56 Wx Ww Wv Wu Wt Ws Wr Wq QH F57 xgo r57 Wp F58 r58 me Wo Wn Wm Wj Wi Wh Wg IV IU IT IS IR IQ IP IN IM IL IK IJ II yq IH IG IF IE ID zy zx zw zu F65 xcJ xcI xcH xcG r65 Wf We Wd Wc Wb Wa V9 IC IB IA Iz Iy Ix Iw Iv uh zt zr F67 xcF xcE r67 V8 V7 V6 V5 V4 V2 V0 QG F68 xgn r68 VZ VY F69 r69 PX PW VX VW VV VU xa VT Iu It Is Ir Iq zq F70 xcD r70 VS VR VQ F71 r71 VP VO VN VM VL VK VJ VI VH Ip Io In zp F72 xcC r72 VG VF F73 r73 VE PV VD VC VB VA Vz Vy Vx Im Ik zo F74 xcB r74 PU EM PT PS PR PQ QF F75 xgm r75 PO Vw F76 r76 Vv F77 r77 EL Vu F78 r78 PN Vt Vs Vr Vq Vp Vo Vn Ij Ii Ih Ig If Ie Ic Ib H9 H8 H7 H6 H5 zm zl F79 xcA xcz r79 QD F80 xgk r80 Vl F81 r81 PJ Vk Vj Vi Vh Vg Vf F82 r82 Ve Vd Vc Vb Va H4 zk F83 xcy r83 U9 U8 U7 U6 U5 U4 H3 H2 HZ HY HX HW HV HU zj F84 xcx r84 PI U3 U2 F85 r85 U1 U0 UZ UY UX UW UV UU HT zi F86 xcw r86 PH UT F87 r87 US UR UQ UP UO UN HS HR QC F88 xgj r88 UM UL UK UJ F89 r89 UI UH UG UF UE UD UC UB HQ HP HO HN HM HK HJ QB zh F90 xgi xcv r90 UA Uz Uy Ux Uw F91 r91 Uv Uu F92 r92 Ut Us Ur Uq Up Uo Un Um HI HH HG HF HE yf HD zg zf F93 xcu xct r93 Ul F94 r94 Uk Uj Ui Uh Ug F95 r95 Uf Ue Ud Uc Ub Ua HC QA F98 xgh r98 O5 O4 O3 O0 xbH xkH OZ OY OX OW OV OU OS Al xbG xdo xkG OR OQ xbF xkF OP OO ON OM OL OK OJ OI OH OG CP xbE xkE OF OE OD OC OA Oy Ak xbD xdn xkD Ox Ow Ov Ou Ot yY Oq CO xbC xkC Oo xbB xkB On Om Ol Ok Aj xbA xdm xkA Oj xbz xkz Oi Oh Og Of xby xky Oe xbx xkx Od Oc Ob Oa N9 N8 N7 N6 CN Ai xbw xdl xkw N4 N3 xbv xkv N2 N1 N0 NZ NY NX NW NV CM Ah tR xbu xdk Sd xku od yV xbt xkt NU xbs xks yU NT NS NR yS Ag xbr xdj xkr NF xbq xkq NE ND NC NB NA xbp xkp Nz Ny xbo xko Nw Nv Nu Nt Ns Ad xbn xdg xkn Nr xbm xkm Nq Np No Nn Ac xbl xdf xkl Nm Nl Nk Nj Ni Nh Ng CL CK CJ CI CH CG tQ tP xbk Sc Sb xkk qE Nf Nd Nc Nb Na M9 M8 M7 xbj xkj M6 M5 M4 xbi xki yP M3 M2 M1 M0 xbh xkh MZ MY MX MW MV MU MT MS Ab tO xbg xde Sa xkg MR MQ MP MO MN MM ML MK MJ CF CE CD CC CB CA Cz Cy Cx Cw Cv Cu Ct Cs Cr Cq Cp Co Cn Aa tN xbf xdd R9 xkf MI MH MG MF ME MD MC z9 xbe xdc xke MB MA Mz My Mx Mw Mu Mt Ms Cm Cl Ck Cj Ci Ch Cg Cf Ce Cd Cc Cb B0 BZ BY tM tL tK xbd R8 R7 R6 xkd Mr Mq Mp Mo Mn Mm Ml Mk Mj BX BW BV BU BT BS BR BQ BP BO BN BM BL BK BJ BI BH BG BF BE BD tJ xbc R5 xkc Mi Mh xbb xkb Mg Mf Me Md Ma z8 xba xdb xka LY xa9 xj9 LX LW LV LU LS LR LQ BB BA Bz By Bx Bw Bv Bu Bt Bs Br Bq Bp Bo Bn Bm Bl Bj tI tH tG xa8 R4 R3 R2 xj8 LP LO LN LM LL LK LJ LI LH Bi Bh Bg Bf Be Bd xa7 xj7 LG LF LD zZ xa6 xc8 xj6 LC LA Lz zY xa5 xc7 xj5 Lo xa4 xj4 Lm Ll Lk Lj Li Lh Lg Lf Ba A9 A8 A7 A6 A5 A4 A3 A1 AZ tF xa3 RZ xj3 xa2 xj2 Le Lc xa1 xj1 Lb La K9 K8 K7 K6 K5 zV zU xa0 xc4 xc3 xj0 K4 K3 K2 K1 K0 KZ KY KX KW AY xaZ xjZ KJ xaY xjY KI KH xaX xjX KG KF xaW xjW KE KD KC KB KA Kz Ky Kx Kw Kv AX AW AU AT AS AR AQ AP AO AN AM AL AK AJ AI AH AG tE xaV RY xjV J8 xaU xjU xaT xjT
end Go.Proofs.YtkcjdeofknkndaaGreatDoor