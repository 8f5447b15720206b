/- Code of functions, checked by the kernel. No condition. -/
import Derived.Test.YtkcjdeofknkndaaGreatDoorProg
import Derived.Test.YtkcjdeofknkndaaGreatDoorVaDE
import Derived.KernelRfl
open Bool renaming and_eq_true -> az, false_eq_true -> aJ
open List renaming all_cons -> iG, append_assoc -> av, append_nil -> bw, cons_append -> bf, drop_zero -> aV, flatten_cons -> cE, getD_cons_succ -> cz, getD_cons_zero -> bZ, length_append -> ac, length_cons -> aA, length_map -> aS, length_nil -> aY, length_replicate -> bQ, map_append -> cV, map_cons -> aE, map_nil -> cT, mem_cons -> al, nil_append -> aG, not_mem_nil -> cC, replicate -> ao
open Nat renaming add_zero -> dL, le_refl -> aN, zero_add -> cj, zero_le -> bH
open Option renaming bind_some -> cS, getD_some -> bp, map_some -> bl, some -> aq
set_option maxRecDepth 100000
set_option linter.unusedVariables false
namespace Go.Proofs.YtkcjdeofknkndaaGreatDoor
open Tryz
open Go.Sy
abbrev La:=List RI
abbrev Lb:=List FI
abbrev xm(d s:Nat):SI:=⟨some d,none,.mov (.t s)⟩
abbrev xs(d:Nat)(o:SOp):SI:=⟨some d,none,o⟩
abbrev xi(d g:Nat)(b:Bool)(o:SOp):SI:=⟨some d,some (g,b),o⟩
abbrev om(d s:Nat):RI:= .op (xm d s) []
abbrev omk(d s:Nat):RI:= .op (xm d s) [s]
abbrev on(d:Nat)(o:SOp):RI:= .op (xs d o) []
abbrev oo(d:Nat)(o:SOp)(k:List Nat):RI:= .op (xs d o) k
abbrev ci(n:Int):Arg:= .c (.int .i64 n)
abbrev Fm(n d s:Nat):FI:=⟨n,true,xm d s⟩
abbrev Fs(n d:Nat)(o:SOp):FI:=⟨n,true,xs d o⟩
abbrev Fz(n d:Nat)(o:SOp):FI:=⟨n,false,xs d o⟩
abbrev Fi(n d g:Nat)(b:Bool)(o:SOp):FI:=⟨n,true,xi d g b o⟩
abbrev Ld(s:Nat):SOp:= .load 1 false (.t s)
abbrev Fa(n s:Nat):SOp:= .faddr n (.t s)
abbrev Ln(s:Nat):SOp:= .len false (.t s)
abbrev Ia(n a b:Nat):SOp:= .iaddrL n (.t a) (.t b)
abbrev Mv(s:Nat):SOp:= .mov (.t s)
abbrev Bb(o:BinOp)(a b:Nat):SOp:= .bin o (.t a) (.t b)
abbrev Bc(o:BinOp)(a:Nat)(n:Int):SOp:= .bin o (.t a) (ci n)
abbrev Ca(f:Nat)(l:List Arg):SOp:= .call (.f f) l
abbrev Pf(a b:Nat):SOp:= .pick (.t a) (.t b) (.c (.bool false))
abbrev Pt(a b:Nat):SOp:= .pick (.t a) (.c (.bool true)) (.t b)
abbrev So(l:List RI)(x:RC):RC:= .seq (.ops l) x
abbrev Kk(l:List Nat)(x:RC):RC:= .pre [.kill l] x
abbrev Kc(n:Nat)(x y:RC):RC:= .cond (.t n) x y
abbrev Fy(n d g:Nat)(b:Bool)(o:SOp):FI:=⟨n,false,xi d g b o⟩
abbrev Fr(n k a x:Nat):FI:=⟨n,false,⟨none,none,.store k (.t a) (.t x)⟩⟩
abbrev Sr(n a x:Nat)(k:List Nat):RI:= .op ⟨none,none,.store n (.t a) (.t x)⟩ k
abbrev Lt(n s:Nat):SOp:= .load n true (.t s)
abbrev Mc(n:Int):SOp:= .mov (ci n)
abbrev Mb(b:Bool):SOp:= .mov (.c (.bool b))
abbrev Bk(n:Nat)(x:RC):RC:= .block n x
abbrev Sq(x y:RC):RC:= .seq x y
abbrev Zq0:List SV:=[.int .i64 0,.str [],.int .i64 0,.byt [] .clip]
abbrev Zq1:List SV:=[.str [],.int .i64 0,.int .i64 0,.int .i64 0,.int .i64 0,.lst 4 [] .clip,.lst 4 [] .clip]
abbrev Zq2:List SV:=[.int .i64 0,.str [],.int .i64 0,.int .i64 0]
def cs0:List UInt8:=[0,1,2,2,3,3,3,3,4,4,4,4,4,4,4,4,5,5,5,5,5,5,5,5,5,5,5,5,5,5,5,5,6,6,6,6,6,6,6,6,6,6,6,6,6,6,6,6,6,6,6,6,6,6,6,6,6,6,6,6,6,6,6,6,7,7,7,7,7,7,7,7,7,7,7,7,7,7,7,7,7,7,7,7,7,7,7,7,7,7,7,7,7,7,7,7,7,7,7,7,7,7,7,7,7,7,7,7,7,7,7,7,7,7,7,7,7,7,7,7,7,7,7,7,7,7,7,7,8,8,8,8,8,8,8,8,8,8,8,8,8,8,8,8,8,8,8,8,8,8,8,8,8,8,8,8,8,8,8,8,8,8,8,8,8,8,8,8,8,8,8,8,8,8,8,8,8,8,8,8,8,8,8,8,8,8,8,8,8,8,8,8,8,8,8,8,8,8,8,8,8,8,8,8,8,8,8,8,8,8,8,8,8,8,8,8,8,8,8,8,8,8,8,8,8,8,8,8,8,8,8,8,8,8,8,8,8,8,8,8,8,8,8,8,8,8,8,8,8,8,8,8,8,8,8,8]
def cs1:List UInt8:=[48,49,50,51,52,53,54,55,56,57,97,98,99,100,101,102,103,104,105,106,107,108,109,110,111,112,113,114,115,116,117,118,119,120,121,122]
def cs2:List UInt8:=[48,48,48,49,48,50,48,51,48,52,48,53,48,54,48,55,48,56,48,57,49,48,49,49,49,50,49,51,49,52,49,53,49,54,49,55,49,56,49,57,50,48,50,49,50,50,50,51,50,52,50,53,50,54,50,55,50,56,50,57,51,48,51,49,51,50,51,51,51,52,51,53,51,54,51,55,51,56,51,57,52,48,52,49,52,50,52,51,52,52,52,53,52,54,52,55,52,56,52,57,53,48,53,49,53,50,53,51,53,52,53,53,53,54,53,55,53,56,53,57,54,48,54,49,54,50,54,51,54,52,54,53,54,54,54,55,54,56,54,57,55,48,55,49,55,50,55,51,55,52,55,53,55,54,55,55,55,56,55,57,56,48,56,49,56,50,56,51,56,52,56,53,56,54,56,55,56,56,56,57,57,48,57,49,57,50,57,51,57,52,57,53,57,54,57,55,57,56,57,57]
def oW:List SV:=[.int .i64 (-1),.int .i64 0,.int .i64 4,.int .i64 8,.int .i64 9]
def iR:List SV:=[.int .u32 1116352408,.int .u32 1899447441,.int .u32 3049323471,.int .u32 3921009573,.int .u32 961987163,.int .u32 1508970993,.int .u32 2453635748,.int .u32 2870763221,.int .u32 3624381080,.int .u32 310598401,.int .u32 607225278,.int .u32 1426881987,.int .u32 1925078388,.int .u32 2162078206,.int .u32 2614888103,.int .u32 3248222580,.int .u32 3835390401,.int .u32 4022224774,.int .u32 264347078,.int .u32 604807628,.int .u32 770255983,.int .u32 1249150122,.int .u32 1555081692,.int .u32 1996064986,.int .u32 2554220882,.int .u32 2821834349,.int .u32 2952996808,.int .u32 3210313671,.int .u32 3336571891,.int .u32 3584528711,.int .u32 113926993,.int .u32 338241895,.int .u32 666307205,.int .u32 773529912,.int .u32 1294757372,.int .u32 1396182291,.int .u32 1695183700,.int .u32 1986661051,.int .u32 2177026350,.int .u32 2456956037,.int .u32 2730485921,.int .u32 2820302411,.int .u32 3259730800,.int .u32 3345764771,.int .u32 3516065817,.int .u32 3600352804,.int .u32 4094571909,.int .u32 275423344,.int .u32 430227734,.int .u32 506948616,.int .u32 659060556,.int .u32 883997877,.int .u32 958139571,.int .u32 1322822218,.int .u32 1537002063,.int .u32 1747873779,.int .u32 1955562222,.int .u32 2024104815,.int .u32 2227730452,.int .u32 2361852424,.int .u32 2428436474,.int .u32 2756734187,.int .u32 3204031479,.int .u32 3329325298]
def iQ:List SV:=[.int .u64 1,.int .u64 10,.int .u64 100,.int .u64 1000,.int .u64 10000,.int .u64 100000,.int .u64 1000000,.int .u64 10000000,.int .u64 100000000,.int .u64 1000000000,.int .u64 10000000000,.int .u64 100000000000,.int .u64 1000000000000,.int .u64 10000000000000,.int .u64 100000000000000,.int .u64 1000000000000000,.int .u64 10000000000000000,.int .u64 100000000000000000,.int .u64 1000000000000000000,.int .u64 10000000000000000000]
instance:aX:=⟨fun
 |0=>some oW
 |1=>some iR
 |3=>some iQ
 |_=>none⟩
abbrev Wa(a b:Nat):RI:=omk a b
abbrev Wb(a:Nat)(b:BinOp)(c:Nat)(d:Int):RI:=oo a (Bc b c d) [c]
abbrev Wc(a b c:Nat):FI:=Fs a b (Ld c)
abbrev Wd(a b:Nat):RI:=oo a (Ld b) [b]
abbrev We(a b c:Nat):RI:=on a (Fa b c)
abbrev Wf(a:Nat)(b:BinOp)(c d:Nat):RI:=oo a (Bb b c d) [c,d]
abbrev Wg(a b:Nat)(c:BinOp)(d e:Nat):FI:=Fs a b (Bb c d e)
abbrev Wh(a b c d:Nat):FI:=Fs a b (Fa c d)
abbrev Wi(a b c:Nat):RI:=oo a (Pt b c) [b,c]
abbrev Wj(a:Nat)(b:Int):RI:=on a (Mc b)
abbrev Wm(a b:Nat):RI:=oo a (Ln b) [b]
abbrev Wn(a b c:Nat):RI:=oo a (Ca b [.t c]) [c]
abbrev Wo(a b c:Nat):RI:=oo a (Fa b c) [c]
abbrev Wp(a b c:Nat)(d:Int):RI:=oo a (Ca b [.t c,ci d]) [c]
abbrev Wq(a b c:Nat):RI:=Sr a b c [c,b]
abbrev Wr(a b c d e:Nat):FI:=Fs a b (Ia c d e)
abbrev Ws(a b:Nat)(c:BinOp)(d:Nat)(e:Int):FI:=Fs a b (Bc c d e)
abbrev Wt(a b:Nat):FI:=Fm a b a
abbrev Wu(a b c:Nat):FI:=Fs a b (.nchk (.t c))
abbrev Wv(a b c:Nat):RI:=Sr a b c [c]
abbrev Ww(a b c:Nat):RI:=oo a (Pf b c) [b,c]
abbrev Wx(a b:Nat):RI:=oo a (.nchk (.t b)) [b]
abbrev Wy(a b c:Nat)(d:Bool)(e:Nat):FI:=Fi a b c d (Mv e)
abbrev Wz(a b c d:Nat):RI:=oo a (Ca b [.t c,.t d]) [c,d]
abbrev WA(a b c:Nat):RI:=oo a (Lt b c) [c]
abbrev WB(a b c d:Nat)(e:Int):FI:=Fs a b (.iaddrL c (.t d) (ci e))
abbrev WC(a b c d:Nat):RI:=oo a (.app [.u8 0] b (.t c) (.t d)) [c,d]
abbrev WD(a:Nat)(b:BinOp)(c:Nat)(d:Int):RI:=on a (Bc b c d)
abbrev WE(a b:Nat):RI:=oo a (.toInt .u8 (.t b)) [b]
abbrev WF(a:Nat)(b:Bool)(c:Nat):RI:=oo a (.len b (.t c)) [c]
abbrev WG(a b c d:Nat):FI:=Fs a b (.iaddrA 64 1 (.t c) (.t d))
abbrev WH(a b:Nat):RI:=oo a (.box (.t b)) [b]
abbrev WI(a b c d:Nat)(e:Int):FI:=Fz a b (Ca c [.t d,ci e])
abbrev WJ(a b c:Nat)(d:Int):FI:=Fs a b (.iaddrA 5 1 (.t c) (ci d))
abbrev WK(a b c:Nat):RI:=on a (.ext (.t b) c)
abbrev WL(a b c:Nat):RI:=oo a (.ext (.t b) c) [b]
abbrev WM(a b c d e:Nat):FI:=Fz a b (Ca c [.t d,.t e])
abbrev WN(a:Nat)(b:BinOp)(c:Int)(d:Nat):RI:=oo a (.bin b (ci c) (.t d)) [d]
abbrev WO(a b:Nat):RI:=oo a (.toInt .u64 (.t b)) [b]
abbrev WP(a b c:Nat):FI:=Fs a b (.idxS (.c (.str cs2)) (.t c))
abbrev WQ(a b:Nat):RI:=oo a (.b2s (.t b)) [b]
abbrev WR(a b c d:Nat)(e:Int)(f:Nat):FI:=Fz a b (Ca c [.t d,ci e,.t f])
abbrev WS(a b c d:Nat):FI:=Fs a b (.iaddrA 80 1 (.t c) (.t d))
abbrev WT(a b c d:Nat):RI:=oo a (Ia b c d) [c,d]
abbrev WU(a:Nat):RI:=on a (.new (.rc Zq0))
abbrev WV(a b:Nat):RI:=oo a (.un .not (.t b)) [b]
abbrev WW(a b c:Nat)(d:Int)(e:Nat):RI:=oo a (Ca b [.t c,ci d,.t e]) [c,e]
abbrev WX(a b:Nat):RI:=oo a (.litB [.t b]) [b]
abbrev WY(a b c:Nat):RI:=oo a (.lit b [.t c]) [c]
abbrev WZ(a:Nat):RI:=on a (.new (.rc Zq1))
abbrev W0(a b c:Nat)(d:Int):FI:=Fs a b (.iaddrA 8 1 (.t c) (ci d))
abbrev W1(a:Nat)(b:BinOp)(c:Nat):RI:=oo a (.bin b (.t c) (.c (.int .u32 100))) [c]
abbrev W2(a b c d e:Nat):FI:=Fz a b (.app [.u8 0] c (.t d) (.t e))
abbrev W3(a b c:Nat):FI:=Fs a b (.toInt .u8 (.t c))
abbrev W4(a b:Nat):RI:=on a (.nchk (.t b))
abbrev W5(a b:Nat)(c:Int):RI:=on a (.iaddrA 8 1 (.t b) (ci c))
abbrev W6(a:Nat)(b:BinOp)(c:Nat):RI:=oo a (.bin b (.t c) (.c (.int .u32 2))) [c]
abbrev W7(a b:Nat)(c:BinOp)(d:Nat):FI:=Fs a b (.bin c (.t d) (.c (.int .u32 1)))
abbrev W8(a:Nat):RI:=on a (.new (.rc Zq2))
abbrev W9(a b:Nat):RI:=oo a (.s2b (.t b)) [b]
abbrev Xa(a:Nat)(b:BinOp)(c:Nat):RI:=oo a (.bin b (.t c) (.c (.int .u64 8))) [c]
abbrev Xb(a:Nat):RI:=oo a (.mov (.c (.byt [] .clip))) [a]
abbrev Xc(a:Nat)(b:BinOp)(c:Nat):RI:=oo a (.bin b (.t c) (.c (.u8 32))) [c]
abbrev Xd(a b c d:Nat):RI:=oo a (Ca b [.t c,.t d]) [c,d,a]
abbrev Xe(a b c:Nat):FI:=Fs a b (.toInt .i64 (.t c))
abbrev Xf(a b:Nat)(c:BinOp)(d:Nat):FI:=Fs a b (.bin c (.t d) (.c (.int .u64 8)))
abbrev Xg(a:Nat):RI:=on a (.mov (.c (.byt [] .clip)))
abbrev Xh(a b c d:Nat):RI:=oo a (.slcL b (.t c) none (some (.t d)) none) [c,d]
abbrev Xi(a b c:Nat):RI:=oo a (.idxS (.t b) (.t c)) [b,c]
abbrev Xj(a b c:Nat):RI:=oo a (.app [.u8 0] b (.c (.byt [] .clip)) (.t c)) [c]
abbrev Xk(a b:Nat):RI:=oo a (.toInt .i64 (.t b)) [b]
abbrev Xl(a:Nat):RI:=on a (.new (.arr 1 (ao 64 [.int .u32 0])))
abbrev Xm(a b:Nat):RI:=oo a (.toInt .u32 (.t b)) [b]
abbrev Xn(a b c d e f:Nat):RI:=oo a (Ca b [.t c,.t d,.t e,.t f]) [c,d,e,f,a]
abbrev Xo(a:Nat)(b:BinOp)(c:Nat):RI:=oo a (.bin b (.t c) (.c (.int .u32 10000))) [c]
abbrev Xp(a b c:Nat)(d:Int):RI:=oo a (.slcL b (.t c) none (some (ci d)) none) [c]
abbrev Xq(a b c d e:Nat):RI:=oo a (.slcL b (.t c) (some (.t d)) (some (.t e)) none) [c,d,e]
abbrev Xr(a b c d:Nat):RI:=oo a (.slcL b (.t c) (some (.t d)) none none) [c,d]
abbrev Xs(a:Nat)(b:BinOp)(c:Nat):RI:=oo a (.bin b (.t c) (.c (.int .u64 16))) [c]
abbrev Xt(a:Nat):RI:=oo a (.mov (.c (.int .u32 0))) [a]
abbrev Xu(a:Nat)(b:BinOp)(c:Nat):RI:=oo a (.bin b (.c (.int .u64 32)) (.t c)) [c]
abbrev Xv(n:Nat)(l:List Nat)(x:RC):RC:=Kc n (Kk [n] .skip) (Kk l x)
abbrev Xw(n:Nat)(l:List Nat)(x:RC):RC:=Kc n (Kk l x) (Kk [n] .skip)
def Z4:La:=[oo 0 (Mb false) [0]]
def Z3:La:=[on 6 (.newB [(.c (.u8 112))]),oo 7 (.slid (.t 6)) [6],oo 8 (.build Zq0 [(0,1,(ci 3)),(1,1,(.c (.str [107]))),(2,1,(ci 3)),(3,1,(.t 7))]) [7],WU 1,Wv 4 1 8]
def Z2:La:=[on 9 (Lt 4 1),WY 10 4 9,oo 11 (Ca 37 [(.c (.str [118])),ci 1,.t 10]) [10],WZ 2,Wv 7 2 11]
def Z1:La:=[on 12 (Lt 7 2),Wn 13 16 12,Wa 3 13]
def Z0:La:=[Wa 15 3,Wn 16 17 15,Wa 14 16,WK 17 14 0,WL 18 14 1,WZ 4,Wv 7 4 17,Wa 5 18]
def ZZ:Lb:=[Wh 0 19 5 2,Wc 1 20 19,Fs 2 21 (Ln 20),Ws 3 22 .eql 21 1,Fm 4 23 22,Wy 5 24 23 true 5,Fi 6 25 23 true (Bc .eql 24 0),Fs 7 26 (Pf 23 25),Fm 8 27 26,Fi 9 28 27 true (Lt 7 2),Fi 10 29 27 true (Lt 7 4),Fy 11 30 27 true (Ca 18 [.t 28,.t 29]),Fs 12 31 (Pf 27 30),Fm 13 32 31,Fi 14 33 32 true (Lt 7 2),Fy 15 34 32 true (Ca 21 [.t 33]),Fi 16 35 32 true (Ln 34),Fi 17 36 32 true (Bc .eql 35 32),Fs 18 37 (Pf 32 36),Fm 19 38 37,Fi 20 39 38 true (Lt 7 2),Fi 21 40 38 true (Lt 4 1),Fy 22 41 38 true (Ca 40 [.t 40,ci 2]),Fy 23 42 38 true (Ca 31 [.t 39,.t 41]),Fi 24 43 38 true (Bc .eql 42 0),Fs 25 44 (Pf 38 43),Fm 26 45 44,Fi 27 46 45 true (.build Zq1 [(0,1,(.c (.str [118]))),(1,1,(ci 1)),(4,1,(ci 5))]),Fy 28 47 45 true (Ca 16 [.t 46]),Fi 29 48 45 true (Ln 47),Fi 30 49 45 true (Bc .eql 48 26),Fs 31 50 (Pf 45 49),Fm 32 0 50]
def r10:RC:=(So Z4 (So Z3 (So Z2 (So Z1 (So Z0 (Sq (.flt [0,1,3,7,15,31,63,127,255,511,511,2047,4095,8191,16383,32767,65535,131071,262143,524287,1048575,1048575,3145727,8388607,16777215,33554431,67108863,134217727,268435455,536870911,1073741823,2147483647,4294967295] [] ZZ [1,2,4,5,19,20,21,22,23,24,25,26,27,28,29,30,31,32,33,34,35,36,37,38,39,40,41,42,43,44,45,46,47,48,49,50]) .ret))))))
def F10:FnC:=⟨r10,51,[.tmp 0],[],[]⟩
def PM:La:=[WZ 4]
def ZY:La:=[Wa 5 0,Wp 6 29 5 60,Wa 7 1,Wn 8 28 7,Wz 9 41 6 8,Wv 7 4 9]
def r12:RC:=(So PM (So ZY .ret))
def F12:FnC:=⟨r12,10,[.cell 4 7 true],[],[]⟩
def qU:La:=[WH 1 0,oo 2 (Mc 0) [2]]
def ZX:La:=[We 9 0 1,Wd 10 9,Wn 11 42 10,WV 12 11,Wa 8 12]
def qT:La:=[Wj 2 43]
def ZW:La:=[We 14 2 1,Wd 15 14,Wb 16 .lss 15 0,Wa 17 16,.grp 17 false [(xi 18 17 false (Fa 2 1)),(xi 19 17 false (Ld 18)),(xi 20 17 false (Fa 1 1)),(xi 21 17 false (Ld 20)),(xi 22 17 false (Bb .gtr 19 21))] [18,19,20,21],Wi 23 17 22,Wa 24 23,.grp 24 false [(xi 25 24 false (Fa 1 1)),(xi 26 24 false (Ld 25)),(xi 27 24 false (Bc .gtr 26 1000000))] [25,26],Wi 28 24 27,Wa 29 28,.grp 29 false [(xi 30 29 false (Fa 3 1)),(xi 31 29 false (Ld 30)),(xi 32 29 false (Bc .lss 31 0))] [30,31],Wi 33 29 32,Wa 34 33,.grp 34 false [(xi 35 34 false (Fa 3 1)),(xi 36 34 false (Ld 35)),(xi 37 34 false (Fa 4 1)),(xi 38 34 false (Ld 37)),(xi 39 34 false (Bb .geq 36 38))] [35,36,37,38],Wi 40 34 39,Wa 41 40,.grp 41 false [(xi 42 41 false (Fa 4 1)),(xi 43 41 false (Ld 42)),(xi 44 41 false (Bc .gtr 43 1099511627776))] [42,43],Wi 45 41 44,Wa 13 45]
def gP:La:=[Wj 2 1]
def ZV:La:=[We 47 5 1,Wd 48 47,Wm 49 48,Wb 50 .gtr 49 16,Wa 51 50,.grp 51 false [(xi 52 51 false (Fa 6 1)),(xi 53 51 false (Ld 52)),(xi 54 51 false (Ln 53)),(xi 55 51 false (Bc .gtr 54 8))] [52,53,54],Wi 56 51 55,Wa 46 56]
def oE:La:=[Wj 2 4]
def ZU:La:=[We 57 5 1,Wd 58 57,on 59 (Ln 58),Wj 60 0]
def ZT:La:=[on 61 (Bb .lss 60 59)]
def ZS:La:=[om 62 60,on 63 (Ia 4 58 60),WA 64 4 63,WU 4,Wa 3 62,Sr 4 4 64 [64]]
def LW:La:=[We 66 0 4,Wd 67 66,Wb 68 .lss 67 1,Wa 69 68,.grp 69 false [(xi 70 69 false (Fa 0 4)),(xi 71 69 false (Ld 70)),(xi 72 69 false (Bc .gtr 71 3))] [70,71],Wi 73 69 72,Wa 74 73,.grp 74 false [(xi 75 74 false (Fa 2 4)),(xi 76 74 false (Ld 75)),(xi 77 74 false (Bc .lss 76 0))] [75,76],Wi 78 74 77,Wa 79 78,.grp 79 false [(xi 80 79 false (Fa 2 4)),(xi 81 79 false (Ld 80)),(xi 82 79 false (Bc .gtr 81 1000000))] [80,81],Wi 83 79 82,Wa 84 83,.grp 84 false [(xi 85 84 false (Fa 3 4)),(xi 86 84 false (Ld 85)),(xi 87 84 false (Ln 86)),(xi 88 84 false (Bc .neq 87 32))] [85,86,87],Wi 89 84 88,Wa 65 89]
def LV:La:=[We 91 1 4,Wd 92 91,Wn 93 42 92,WV 94 93,Wa 90 94]
def LU:Lb:=[Fm 0 96 3,Ws 1 97 .gtr 96 0,Fm 2 98 97,Fi 3 99 98 true (Fa 5 1),Fi 4 100 98 true (Ld 99),Wy 5 101 98 true 3,Fi 6 102 98 true (Bc .sub 101 1),Fi 7 103 98 true (Ia 4 100 102),Fi 8 104 98 true (Lt 4 103),Fi 9 105 98 true (Lt 4 4),Fy 10 106 98 true (Ca 43 [.t 104,.t 105]),Fi 11 107 98 true (Bc .geq 106 0),Fs 12 108 (Pf 98 107),Fm 13 95 108]
def yc:La:=[Wj 2 41]
def LS:La:=[Wb 109 .add 60 1,Wa 60 109]
def zh:RC:=(.post (So ZT (Sq (Xv 61 [58,59,60,61] (.exit 1)) (Sq (Bk 2 (So ZS (Bk 3 (So LW (Kc 65 (Kk [1,3,4,58,59,60,65] (So gP .ret)) (Kk [65] (So LV (Kc 90 (Kk [1,3,4,58,59,60,90] (So qT .ret)) (Kk [90] (Sq (.flt [0,1,3,7,15,7,39,127,255,7,1023,2047,4095,8191] [] LU [3,4,96,97,98,99,100,101,102,103,104,105,106,107,108]) (Xw 95 [1,58,59,60,95] (So yc .ret)))))))))))) (.ops LS)))) [.gc [104]])
def lO:RC:=zh
def LR:La:=[Wo 110 6 1,Wd 111 110,on 112 (Ln 111),Wj 113 0]
def LQ:La:=[on 114 (Bb .lss 113 112)]
def LP:La:=[on 115 (Ia 4 111 113),WA 116 4 115,W8 6,Wv 4 6 116]
def LO:La:=[WA 117 4 6,Wn 118 44 117,Wa 7 118]
def LN:La:=[om 119 7,Wb 120 .neq 119 0]
def LM:La:=[Wa 121 7,Wa 2 121]
def LL:La:=[Wb 122 .add 113 1,Wa 113 122]
def zg:RC:=(.post (So LQ (Sq (Xv 114 [111,112,113,114] (.exit 4)) (Sq (Bk 5 (So LP (So LO (So LN (Kc 120 (Kk [111,112,113,120] (So LM .ret)) (Kk [7,120] .skip)))))) (.ops LL)))) [.gc [106]])
def tP:RC:=zg
def i0:La:=[Wj 2 0]
def r13:RC:=(So qU (Sq (Bk 0 (So ZX (Kc 8 (Kk [1,8] (So qT .ret)) (Kk [8] (So ZW (Kc 13 (Kk [1,13] (So gP .ret)) (Kk [13] (So ZV (Xw 46 [1,46] (So oE .ret)))))))))) (Sq (So ZU (Bk 1 (.loop lO))) (Sq (So LR (Bk 4 (.loop tP))) (So i0 .ret)))))
def F13:FnC:=⟨r13,123,[.tmp 2],[],[]⟩
def ZR:La:=[We 7 0 1,Wd 8 7,Wn 9 45 8,WV 10 9]
def ZQ:La:=[We 11 2 1,Wd 12 11,Wb 13 .lss 12 0,Wa 14 13,.grp 14 false [(xi 15 14 false (Fa 2 1)),(xi 16 14 false (Ld 15)),(xi 17 14 false (Fa 1 1)),(xi 18 14 false (Ld 17)),(xi 19 14 false (Bb .gtr 16 18))] [15,16,17,18],Wi 20 14 19,Wa 21 20,.grp 21 false [(xi 22 21 false (Fa 1 1)),(xi 23 21 false (Ld 22)),(xi 24 21 false (Bc .gtr 23 1000000))] [22,23],Wi 25 21 24,Wa 26 25,.grp 26 false [(xi 27 26 false (Fa 3 1)),(xi 28 26 false (Ld 27)),(xi 29 26 false (Bc .lss 28 0))] [27,28],Wi 30 26 29,Wa 31 30,.grp 31 false [(xi 32 31 false (Fa 3 1)),(xi 33 31 false (Ld 32)),(xi 34 31 false (Fa 4 1)),(xi 35 31 false (Ld 34)),(xi 36 31 false (Bb .geq 33 35))] [32,33,34,35],Wi 37 31 36,Wa 38 37,.grp 38 false [(xi 39 38 false (Fa 4 1)),(xi 40 38 false (Ld 39)),(xi 41 38 false (Bc .gtr 40 1099511627776))] [39,40],Wi 42 38 41]
def ZP:La:=[We 43 5 1,Wd 44 43,Wm 45 44,Wb 46 .gtr 45 16,Wa 47 46,.grp 47 false [(xi 48 47 false (Fa 6 1)),(xi 49 47 false (Ld 48)),(xi 50 47 false (Ln 49)),(xi 51 47 false (Bc .gtr 50 8))] [48,49,50],Wi 52 47 51]
def ww:La:=[Wj 3 0]
def ZO:La:=[om 53 3,We 54 5 1,Wd 55 54,Wm 56 55,Wf 57 .lss 53 56]
def ZN:La:=[We 60 5 1,Wd 61 60,om 62 3,WT 63 4 61 62,WA 64 4 63,WU 4,Sr 4 4 64 [64]]
def Lj:La:=[We 65 0 4,Wd 66 65,Wb 67 .lss 66 1,Wa 68 67,.grp 68 false [(xi 69 68 false (Fa 0 4)),(xi 70 68 false (Ld 69)),(xi 71 68 false (Bc .gtr 70 3))] [69,70],Wi 72 68 71,Wa 73 72,.grp 73 false [(xi 74 73 false (Fa 2 4)),(xi 75 73 false (Ld 74)),(xi 76 73 false (Bc .lss 75 0))] [74,75],Wi 77 73 76,Wa 78 77,.grp 78 false [(xi 79 78 false (Fa 2 4)),(xi 80 78 false (Ld 79)),(xi 81 78 false (Bc .gtr 80 1000000))] [79,80],Wi 82 78 81,Wa 83 82,.grp 83 false [(xi 84 83 false (Fa 3 4)),(xi 85 83 false (Ld 84)),(xi 86 83 false (Ln 85)),(xi 87 83 false (Bc .neq 86 32))] [84,85,86],Wi 88 83 87]
def Li:La:=[We 89 1 4,Wd 90 89,Wn 91 45 90,WV 92 91]
def Lh:Lb:=[Fm 0 93 3,Ws 1 94 .gtr 93 0,Fm 2 95 94,Fi 3 96 95 true (Fa 5 1),Fi 4 97 95 true (Ld 96),Wy 5 98 95 true 3,Fi 6 99 95 true (Bc .sub 98 1),Fi 7 100 95 true (Ia 4 97 99),Fi 8 101 95 true (Lt 4 100),Fi 9 102 95 true (Lt 4 4),Fy 10 103 95 true (Ca 46 [.t 101,.t 102]),Fi 11 104 95 true (.un .not (.t 103)),Fs 12 105 (Pf 95 104)]
def Lg:La:=[Wa 58 3,Wb 59 .add 58 1,Wa 3 59]
def zd:RC:=(.post (Sq (So ZO (Xv 57 [3,57] (.exit 0))) (Sq (Bk 1 (So ZN (Sq (So Lj (Xw 88 [1,3,4,88] (So gP .ret))) (Sq (So Li (Xw 92 [1,3,4,92] (So qT .ret))) (Sq (.flt [0,1,3,7,15,7,39,127,255,7,1023,2047,4095] [] Lh [4,93,94,95,96,97,98,99,100,101,102,103,104]) (Xw 105 [1,3,105] (So yc .ret))))))) (.ops Lg))) [.gc [104]])
def lN:RC:=zd
def lM:La:=[Wj 5 0]
def Lf:La:=[om 106 5,We 107 6 1,Wd 108 107,Wm 109 108,Wf 110 .lss 106 109]
def Le:La:=[We 113 6 1,Wd 114 113,om 115 5,WT 116 4 114 115,WA 117 4 116,Wn 118 47 117,Wa 6 118]
def Lc:La:=[om 119 6,Wb 120 .neq 119 0]
def K9:La:=[Wa 121 6,Wa 2 121]
def K8:La:=[Wa 111 5,Wb 112 .add 111 1,Wa 5 112]
def zb:RC:=(Sq (So Lf (Xv 110 [1,5,110] (.exit 2))) (Sq (Bk 3 (So Le (So Lc (Kc 120 (Kk [1,5,120] (So K9 .ret)) (Kk [6,120] .skip))))) (.ops K8)))
def tO:RC:=zb
def r14:RC:=(So qU (Sq (So ZR (Xw 10 [1,10] (So qT .ret))) (Sq (So ZQ (Xw 42 [1,42] (So gP .ret))) (Sq (So ZP (Xw 52 [1,52] (So oE .ret))) (Sq (So ww (Bk 0 (.loop lN))) (Sq (So lM (Bk 2 (.loop tO))) (So i0 .ret)))))))
def F14:FnC:=⟨r14,122,[.tmp 2],[],[]⟩
def ny:La:=[oo 4 (Mc 0) [4]]
def ZM:La:=[om 6 1,Wb 7 .lss 6 1]
def jL:La:=[Wj 4 0]
def ZL:La:=[Wa 8 0,om 9 1,Wf 10 .rem 8 9,Wa 5 10]
def ZK:La:=[om 11 5,Wb 12 .lss 11 0]
def ZJ:La:=[Wa 13 5,Wa 14 1,Wf 15 .add 13 14,Wa 5 15]
def ZI:La:=[Wa 16 5,Wa 4 16]
def r15:RC:=(So ny (Sq (So ZM (Xw 7 [0,1,7] (So jL .ret))) (So ZL (Sq (So ZK (Kc 12 (Kk [12] (.ops ZJ)) (Kk [1,12] .skip))) (So ZI .ret)))))
def F15:FnC:=⟨r15,17,[.tmp 4],[],[]⟩
def tN:La:=[WH 1 0,Xb 2]
def ZH:La:=[on 8 (Lt 7 1),Wn 9 13 8,Wb 10 .neq 9 0]
def tM:La:=[Xg 2]
def ZG:La:=[on 11 (Ca 48 [(.c (.byt [] .clip)),ci 1,ci 21]),Wa 3 11]
def ZF:La:=[Wa 12 3,We 13 0 1,Wd 14 13,W9 15 14,Wz 16 49 12 15,Wa 3 16]
def ZE:Lb:=[Fm 0 17 3,Wh 1 18 1 1,Wc 2 19 18,Wh 4 21 2 1,Wc 5 22 21,WR 3 20 48 17 4 19,WR 6 23 48 20 4 22,⟨7,false,(xm 3 23)⟩]
def ZD:Lb:=[Fm 0 24 3,Wh 1 25 3 1,Wc 2 26 25,Wh 4 28 4 1,Wc 5 29 28,WR 3 27 48 24 6 26,WR 6 30 48 27 6 29,⟨7,false,(xm 3 30)⟩]
def ZC:La:=[Wa 31 3,We 32 5 1,Wd 33 32,Wm 34 33,WW 35 48 31 1 34,Wa 3 35]
def ZB:La:=[We 36 5 1,Wd 37 36,on 38 (Ln 37),Wj 39 0]
def ZA:La:=[on 40 (Bb .lss 39 38)]
def KG:La:=[on 41 (Ia 4 37 39),WA 42 4 41,WU 5,Wv 4 5 42]
def KF:Lb:=[Fm 0 43 3,Wh 1 44 0 5,Wc 2 45 44,Wh 4 47 1 5,Wc 5 48 47,Fs 6 49 (.s2b (.t 48)),WR 3 46 48 43 1 45,WM 7 50 49 46 49,⟨8,false,(xm 3 50)⟩]
def KE:Lb:=[Fm 0 51 3,Wh 1 52 2 5,Wc 2 53 52,Wh 4 55 3 5,Wc 5 56 55,WR 3 54 48 51 4 53,W2 6 57 1 54 56,⟨7,false,(xm 3 57)⟩]
def KD:La:=[Wb 58 .add 39 1,Wa 39 58]
def y8:RC:=(.post (So ZA (Sq (Xv 40 [37,38,39,40] (.exit 0)) (Sq (Bk 1 (So KG (Sq (.flt [0,0,2,7,0,16,48,127,255] [] KF [43,44,45,46,47,48,49,50]) (.flt [0,0,2,7,0,16,63,127] [157] KE [5,51,52,53,54,55,56,57])))) (.ops KD)))) [.gc [105],.gcr 47000 48000,.gcr 55000 56000,.tok 3 103])
def qu:RC:=y8
def KC:La:=[Wa 59 3,We 60 6 1,Wd 61 60,Wm 62 61,WW 63 48 59 1 62,Wa 3 63]
def KB:La:=[Wo 64 6 1,Wd 65 64,on 66 (Ln 65),Wj 67 0]
def KA:La:=[on 68 (Bb .lss 67 66)]
def Kz:La:=[on 69 (Ia 4 65 67),WA 70 4 69,W8 7,Wv 4 7 70]
def Ky:Lb:=[Fm 0 71 3,Wh 1 72 0 7,Wc 2 73 72,Wh 4 75 1 7,Wc 5 76 75,Fs 6 77 (.s2b (.t 76)),WR 3 74 48 71 1 73,WM 7 78 49 74 77,⟨8,false,(xm 3 78)⟩]
def Kx:Lb:=[Fm 0 79 3,Wh 1 80 2 7,Wc 2 81 80,Wh 4 83 3 7,Wc 5 84 83,WR 3 82 48 79 4 81,WR 6 85 48 82 4 84,⟨7,false,(xm 3 85)⟩]
def Kw:La:=[Wb 86 .add 67 1,Wa 67 86]
def y7:RC:=(.post (So KA (Sq (Xv 68 [65,66,67,68] (.exit 2)) (Sq (Bk 3 (So Kz (Sq (.flt [0,0,2,7,0,16,48,127,255] [] Ky [71,72,73,74,75,76,77,78]) (.flt [0,0,2,7,0,16,63,127] [] Kx [7,79,80,81,82,83,84,85])))) (.ops Kw)))) [.gc [107],.gcr 75000 76000,.gcr 83000 84000])
def qt:RC:=y7
def Kv:La:=[Wa 87 3,Wa 2 87]
def r16:RC:=(So tN (Sq (So ZH (Xw 10 [1,10] (So tM .ret))) (So ZG (So ZF (Sq (.flt [0,0,2,7,0,16,63,127] [] ZE [17,18,19,20,21,22,23]) (Sq (.flt [0,0,2,7,0,16,63,127] [] ZD [24,25,26,27,28,29,30]) (So ZC (Sq (So ZB (Bk 0 (.pre [.tok 3 103] (.loop qu)))) (So KC (Sq (So KB (Bk 2 (.loop qt))) (So Kv .ret)))))))))))
def F16:FnC:=⟨r16,88,[.tmp 2],[],[]⟩
def PL:La:=[WZ 2,oo 3 (Mc 0) [3]]
def Zz:La:=[Wa 10 0,Wn 11 50 10,Wa 4 11]
def PK:La:=[WZ 5]
def Zy:La:=[om 12 4,Wp 13 51 12 1,Wb 14 .neq 13 21]
def Zx:La:=[on 15 (.build Zq1 []),Wv 7 2 15,Wj 3 30]
def Zw:La:=[om 16 4,Wp 17 52 16 12,WQ 18 17,We 19 0 5,Wq 1 19 18]
def Zv:La:=[om 20 4,Wp 21 51 20 4,We 22 1 5,Wq 1 22 21]
def Zu:La:=[om 23 4,Wp 24 51 23 4,We 25 2 5,Wq 1 25 24]
def Zt:La:=[om 26 4,Wp 27 51 26 6,We 28 3 5,Wq 1 28 27]
def Zs:La:=[om 29 4,Wp 30 51 29 6,We 31 4 5,Wq 1 31 30]
def Kd:La:=[om 32 4,Wp 33 51 32 1,Wa 6 33]
def Kb:La:=[om 34 6,Wb 35 .gtr 34 0,Wa 36 35,.grp 36 true [(xi 37 36 true (Mv 4)),(xi 38 36 true (Ca 53 [.t 37])),(xi 39 36 true (Bc .eql 38 0))] [37,38],Ww 40 36 39]
def Ka:La:=[WU 7]
def J9:La:=[om 43 4,Wp 44 51 43 1,We 45 0 7,Wq 1 45 44]
def J8:La:=[om 46 4,Wp 47 52 46 12,WQ 48 47,We 49 1 7,Wq 1 49 48]
def J7:La:=[om 50 4,oo 51 (Ca 51 [.t 50,ci 4]) [50],We 52 2 7,Wq 1 52 51]
def J6:La:=[om 53 4,oo 54 (Ca 54 [.t 53,ci 32]) [53],We 55 3 7,Wq 1 55 54]
def J5:La:=[We 56 5 5,Wd 57 56,WA 58 4 7,WY 59 4 58,oo 60 (.app Zq0 56 (.t 57) (.t 59)) [57,59],We 61 5 5,Wq 1 61 60]
def J4:La:=[Wa 41 6,Wb 42 .sub 41 1,Wa 6 42]
def y6:RC:=(.post (Sq (So Kb (Xv 40 [6,40] (.exit 0))) (Sq (Bk 1 (So Ka (So J9 (So J8 (So J7 (So J6 (.ops J5))))))) (.ops J4))) [.gc [107]])
def x7:RC:=y6
def qr:La:=[om 62 4,Wp 63 51 62 1,Wa 8 63]
def J3:La:=[om 64 8,Wb 65 .gtr 64 0,Wa 66 65,.grp 66 true [(xi 67 66 true (Mv 4)),(xi 68 66 true (Ca 53 [.t 67])),(xi 69 66 true (Bc .eql 68 0))] [67,68],Ww 70 66 69]
def J2:La:=[W8 9]
def J1:La:=[om 73 4,Wp 74 51 73 1,We 75 0 9,Wq 1 75 74]
def J0:La:=[om 76 4,Wp 77 52 76 32,WQ 78 77,We 79 1 9,Wq 1 79 78]
def JZ:La:=[om 80 4,Wp 81 51 80 4,We 82 2 9,Wq 1 82 81]
def JY:La:=[om 83 4,Wp 84 51 83 4,We 85 3 9,Wq 1 85 84]
def JX:La:=[We 86 6 5,Wd 87 86,WA 88 4 9,WY 89 4 88,oo 90 (.app Zq2 40 (.t 87) (.t 89)) [87,89],We 91 6 5,Wq 1 91 90]
def JW:La:=[Wa 71 8,Wb 72 .sub 71 1,Wa 8 72]
def y5:RC:=(.post (Sq (So J3 (Xv 70 [8,70] (.exit 2))) (Sq (Bk 3 (So J2 (So J1 (So J0 (So JZ (So JY (.ops JX))))))) (.ops JW))) [.gc [109]])
def x6:RC:=y5
def qp:La:=[Wa 92 4,Wn 93 55 92,Wb 94 .neq 93 0,Wa 95 94,.grp 95 false [(xi 96 95 false (Lt 7 5)),(xi 97 95 false (Ca 13 [.t 96])),(xi 98 95 false (Bc .neq 97 0))] [96,97],Wi 99 95 98]
def JV:La:=[on 100 (.build Zq1 []),Wv 7 2 100,Wj 3 30]
def JU:La:=[WA 101 7 5,Wv 7 2 101,Wj 3 0]
def r17:RC:=(So PL (So Zz (So PK (Sq (So Zy (Xw 14 [4,5,14] (So Zx .ret))) (So Zw (So Zv (So Zu (So Zt (So Zs (Sq (So Kd (Bk 0 (.loop x7))) (Sq (So qr (Bk 2 (.loop x6))) (Sq (So qp (Xw 99 [5,99] (So JV .ret))) (So JU .ret)))))))))))))
def F17:FnC:=⟨r17,102,[.cell 2 7 true,.tmp 3],[],[]⟩
def Ec:La:=[WH 2 0,WH 3 1,oo 4 (Mb false) [4]]
def Zr:La:=[We 9 0 2,Wd 10 9,We 11 0 3,Wd 12 11,Wf 13 .neq 10 12,Wa 14 13,.grp 14 false [(xi 15 14 false (Fa 1 2)),(xi 16 14 false (Ld 15)),(xi 17 14 false (Fa 1 3)),(xi 18 14 false (Ld 17)),(xi 19 14 false (Bb .neq 16 18))] [15,16,17,18],Wi 20 14 19,Wa 21 20,.grp 21 false [(xi 22 21 false (Fa 2 2)),(xi 23 21 false (Ld 22)),(xi 24 21 false (Fa 2 3)),(xi 25 21 false (Ld 24)),(xi 26 21 false (Bb .neq 23 25))] [22,23,24,25],Wi 27 21 26,Wa 28 27,.grp 28 false [(xi 29 28 false (Fa 3 2)),(xi 30 28 false (Ld 29)),(xi 31 28 false (Fa 3 3)),(xi 32 28 false (Ld 31)),(xi 33 28 false (Bb .neq 30 32))] [29,30,31,32],Wi 34 28 33,Wa 35 34,.grp 35 false [(xi 36 35 false (Fa 4 2)),(xi 37 35 false (Ld 36)),(xi 38 35 false (Fa 4 3)),(xi 39 35 false (Ld 38)),(xi 40 35 false (Bb .neq 37 39))] [36,37,38,39],Wi 41 35 40,Wa 42 41,.grp 42 false [(xi 43 42 false (Fa 5 2)),(xi 44 42 false (Ld 43)),(xi 45 42 false (Ln 44)),(xi 46 42 false (Fa 5 3)),(xi 47 42 false (Ld 46)),(xi 48 42 false (Ln 47)),(xi 49 42 false (Bb .neq 45 48))] [43,44,45,46,47,48],Wi 50 42 49,Wa 51 50,.grp 51 false [(xi 52 51 false (Fa 6 2)),(xi 53 51 false (Ld 52)),(xi 54 51 false (Ln 53)),(xi 55 51 false (Fa 6 3)),(xi 56 51 false (Ld 55)),(xi 57 51 false (Ln 56)),(xi 58 51 false (Bb .neq 54 57))] [52,53,54,55,56,57],Wi 59 51 58]
def oC:La:=[on 4 (Mb false)]
def Zq:La:=[om 60 5,We 61 5 2,Wd 62 61,Wm 63 62,Wf 64 .lss 60 63]
def Zp:Lb:=[Wh 0 67 5 2,Wc 1 68 67,Fm 2 69 5,Wr 3 70 4 68 69,Fs 4 71 (Lt 4 70),Wh 5 72 5 3,Wc 6 73 72,Fm 7 74 5,Wr 8 75 4 73 74,Fs 9 76 (Lt 4 75),Fz 10 6 (.new (.rc Zq0)),Fz 11 7 (.new (.rc Zq0)),Fr 12 4 6 71,Fr 13 4 7 76]
def Zo:La:=[We 77 0 6,Wd 78 77,We 79 0 7,Wd 80 79,Wf 81 .neq 78 80,Wa 82 81,.grp 82 false [(xi 83 82 false (Fa 1 6)),(xi 84 82 false (Ld 83)),(xi 85 82 false (Fa 1 7)),(xi 86 82 false (Ld 85)),(xi 87 82 false (Bb .neq 84 86))] [83,84,85,86],Wi 88 82 87,Wa 89 88,.grp 89 false [(xi 90 89 false (Fa 2 6)),(xi 91 89 false (Ld 90)),(xi 92 89 false (Fa 2 7)),(xi 93 89 false (Ld 92)),(xi 94 89 false (Bb .neq 91 93))] [90,91,92,93],Wi 95 89 94,Wa 96 95,.grp 96 false [(xi 97 96 false (Fa 3 6)),(xi 98 96 false (Ld 97)),(xi 99 96 false (Fa 3 7)),(xi 100 96 false (Ld 99)),(xi 101 96 false (Ca 19 [.t 98,.t 100])),(xi 102 96 false (.un .not (.t 101)))] [6,7,97,98,99,100,101],Wi 103 96 102]
def Zn:La:=[Wa 65 5,Wb 66 .add 65 1,Wa 5 66]
def P3:RC:=(.post (Sq (So Zq (Xv 64 [5,64] (.exit 0))) (Sq (Bk 1 (Sq (.fla [0,1,0,7,15,0,32,0,224,480,0,0,3103,8191] [106,107] Zp [[0,1,2,3,4,5,6,7,8,9,10,11,12,13],[0,1,2,3,4,5,6,7,8,9,11,10,12,13]] [67,68,69,70,71,72,73,74,75,76]) (So Zo (Xw 103 [2,3,5,103] (So oC .ret))))) (.ops Zn))) [.gc [106,107]])
def Eb:RC:=P3
def qm:La:=[Wj 8 0]
def JS:La:=[om 104 8,We 105 6 2,Wd 106 105,Wm 107 106,Wf 108 .lss 104 107]
def JR:Lb:=[Wh 0 111 6 2,Wc 1 112 111,Fm 2 113 8,Wr 3 114 4 112 113,Fs 4 115 (Lt 4 114),Wh 5 116 6 3,Wc 6 117 116,Fm 7 118 8,Wr 8 119 4 117 118,Fs 9 120 (Lt 4 119),Fs 10 121 (.eqS true [1,2,1,1] (.t 115) (.t 120))]
def JQ:La:=[Wa 109 8,Wb 110 .add 109 1,Wa 8 110]
def y0:RC:=(Sq (So JS (Xv 108 [2,3,8,108] (.exit 2))) (Sq (Bk 3 (Sq (.flt [0,1,0,7,15,0,32,0,224,480,1023] [] JR [111,112,113,114,115,116,117,118,119,120]) (Xw 121 [2,3,8,121] (So oC .ret)))) (.ops JQ)))
def tL:RC:=y0
def tK:La:=[on 4 (Mb true)]
def r18:RC:=(So Ec (Sq (So Zr (Xw 59 [2,3,59] (So oC .ret))) (Sq (So lM (Bk 0 (.loop Eb))) (Sq (So qm (Bk 2 (.loop tL))) (So tK .ret)))))
def F18:FnC:=⟨r18,122,[.tmp 4],[],[]⟩
def oB:La:=[oo 4 (Mb false) [4]]
def Zm:La:=[om 6 0,Wm 7 6,om 8 1,Wm 9 8,Wf 10 .neq 7 9]
def Zl:La:=[om 11 5,om 12 0,Wm 13 12,Wf 14 .lss 11 13]
def Zk:Lb:=[Wt 0 17,Fm 1 18 5,Wr 2 19 1 17 18,Wc 3 20 19,Fm 4 21 1,Wt 5 22,Wr 6 23 1 21 22,Wc 7 24 23,Wg 8 25 .neq 20 24]
def Zj:La:=[Wa 15 5,Wb 16 .add 15 1,Wa 5 16]
def P2:RC:=(Sq (So Zl (Xv 14 [0,1,5,14] (.exit 0))) (Sq (Bk 1 (Sq (.flt [0,0,3,7,0,0,48,112,255] [] Zk [17,18,19,20,21,22,23,24]) (Xw 25 [0,1,5,25] (So oC .ret)))) (.ops Zj)))
def PJ:RC:=P2
def r19:RC:=(So oB (Sq (So Zm (Xw 10 [0,1,10] (So oC .ret))) (Sq (So lM (Bk 0 (.loop PJ))) (So tK .ret))))
def F19:FnC:=⟨r19,26,[.tmp 4],[],[]⟩
def Zi:La:=[on 8 (Lt 7 1),Wn 9 14 8,Wb 10 .neq 9 0]
def Zh:La:=[on 11 (.litB [(.c (.u8 21))]),We 12 0 1,Wd 13 12,W9 14 13,Wz 15 56 11 14,Wa 3 15]
def Zg:La:=[Wa 16 3,We 17 1 1,Wd 18 17,WW 19 57 16 4 18,Wa 3 19]
def Zf:La:=[Wa 20 3,We 21 2 1,Wd 22 21,WW 23 57 20 4 22,Wa 3 23]
def Ze:La:=[Wa 24 3,We 25 3 1,Wd 26 25,WW 27 57 24 6 26,Wa 3 27]
def Zd:La:=[Wa 28 3,We 29 4 1,Wd 30 29,WW 31 57 28 6 30,Wa 3 31]
def Zc:La:=[Wa 32 3,We 33 5 1,Wd 34 33,Wm 35 34,WE 36 35,WX 37 36,WC 38 1 32 37,Wa 3 38]
def JP:La:=[om 39 4,We 40 5 1,Wd 41 40,Wm 42 41,Wf 43 .lss 39 42]
def JO:La:=[We 46 5 1,Wd 47 46,om 48 4,WT 49 4 47 48,WA 50 4 49,WU 5,Wv 4 5 50]
def JN:Lb:=[Fm 0 51 3,Wh 1 52 0 5,Wc 2 53 52,W3 3 54 53,Fs 4 55 (.litB [.t 54]),Wh 6 57 1 5,Wc 7 58 57,Fs 8 59 (.s2b (.t 58)),W2 5 56 1 51 55,WM 9 60 56 56 59,⟨10,false,(xm 3 60)⟩]
def JM:Lb:=[Fm 0 61 3,Wh 1 62 2 5,Wc 2 63 62,Wh 4 65 3 5,Wc 5 66 65,WR 3 64 57 61 4 63,W2 6 67 1 64 66,⟨7,false,(xm 3 67)⟩]
def JL:La:=[Wa 44 4,Wb 45 .add 44 1,Wa 4 45]
def yZ:RC:=(.post (Sq (So JP (Xv 43 [4,43] (.exit 0))) (Sq (Bk 1 (So JO (Sq (.flt [0,0,2,6,14,31,0,64,192,511,1023] [156] JN [51,52,53,54,55,56,57,58,59,60]) (.flt [0,0,2,7,0,16,63,127] [167] JM [5,61,62,63,64,65,66,67])))) (.ops JL))) [.gc [105,156],.gcr 65000 66000,.tok 3 103])
def ql:RC:=yZ
def JK:La:=[Wa 68 3,We 69 6 1,Wd 70 69,Wm 71 70,WE 72 71,WX 73 72,WC 74 1 68 73,Wa 3 74]
def nM:La:=[Wj 6 0]
def JJ:La:=[om 75 6,We 76 6 1,Wd 77 76,Wm 78 77,Wf 79 .lss 75 78]
def JI:La:=[We 82 6 1,Wd 83 82,om 84 6,WT 85 4 83 84,WA 86 4 85,W8 7,Wv 4 7 86]
def JH:Lb:=[Fm 0 87 3,Wh 1 88 0 7,Wc 2 89 88,W3 3 90 89,Fs 4 91 (.litB [.t 90]),Wh 6 93 1 7,Wc 7 94 93,Fs 8 95 (.s2b (.t 94)),W2 5 92 1 87 91,WM 9 96 56 92 95,⟨10,false,(xm 3 96)⟩]
def JG:Lb:=[Fm 0 97 3,Wh 1 98 2 7,Wc 2 99 98,Wh 4 101 3 7,Wc 5 102 101,WR 3 100 57 97 4 99,WR 6 103 57 100 4 102,⟨7,false,(xm 3 103)⟩]
def JF:La:=[Wa 80 6,Wb 81 .add 80 1,Wa 6 81]
def yY:RC:=(.post (Sq (So JJ (Xv 79 [1,6,79] (.exit 2))) (Sq (Bk 3 (So JI (Sq (.flt [0,0,2,6,14,31,0,64,192,511,1023] [192] JH [87,88,89,90,91,92,93,94,95,96]) (.flt [0,0,2,7,0,16,63,127] [] JG [7,97,98,99,100,101,102,103])))) (.ops JF))) [.gc [107,192],.gcr 101000 102000,.tok 3 103])
def qk:RC:=yY
def JE:La:=[Wa 104 3,Wa 2 104]
def r20:RC:=(So tN (Sq (So Zi (Xw 10 [1,10] (So tM .ret))) (So Zh (So Zg (So Zf (So Ze (So Zd (So Zc (Sq (So jL (Bk 0 (.pre [.tok 3 103] (.loop ql)))) (So JK (Sq (So nM (Bk 2 (.pre [.tok 3 103] (.loop qk)))) (So JE .ret))))))))))))
def F20:FnC:=⟨r20,105,[.tmp 2],[],[]⟩
def Zb:La:=[WA 4 7 1,Wn 5 16 4,Wa 3 5]
def Za:La:=[om 6 3,Wm 7 6,Wb 8 .eql 7 0]
def Y9:La:=[Wa 9 3,WY 10 1 9,oo 11 (Ca 58 [ci 21,.t 10]) [10],Wa 2 11]
def r21:RC:=(So tN (So Zb (Sq (So Za (Xw 8 [3,8] (So tM .ret))) (So Y9 .ret))))
def F21:FnC:=⟨r21,12,[.tmp 2],[],[]⟩
def jK:La:=[Xb 4]
def PI:La:=[om 5 0,Wm 6 5,om 7 1,Wf 8 .gtr 6 7]
def Y8:La:=[Wa 9 0,Wa 10 1,Xh 11 1 9 10,Wa 4 11]
def Y7:La:=[Wa 12 0,Wa 4 12]
def r23:RC:=(So jK (Sq (So PI (Kc 8 (Kk [8] (So Y8 .ret)) (Kk [1,8] .skip))) (So Y7 .ret)))
def F23:FnC:=⟨r23,13,[.tmp 4],[],[]⟩
def Y6:La:=[Wa 13 0,Wn 14 60 13,Wa 4 14]
def Y5:La:=[om 15 4,Wp 16 61 15 1,Wa 6 16]
def Y4:La:=[om 17 4,Wp 18 62 17 12,WQ 19 18,We 20 0 5,Wq 1 20 19]
def Y3:La:=[om 21 4,Wp 22 61 21 4,We 23 1 5,Wq 1 23 22]
def Y2:La:=[om 24 4,Wp 25 61 24 4,We 26 2 5,Wq 1 26 25]
def Y1:La:=[om 27 4,Wp 28 61 27 6,We 29 3 5,Wq 1 29 28]
def Y0:La:=[om 30 4,Wp 31 61 30 6,We 32 4 5,Wq 1 32 31]
def YZ:La:=[om 33 4,Wp 34 61 33 1,Wa 7 34]
def Jt:La:=[om 35 8,om 36 7,Wf 37 .lss 35 36,Wa 38 37,.grp 38 true [(xi 39 38 true (Mv 8)),(xi 40 38 true (Bc .leq 39 16))] [39],Ww 41 38 40]
def Js:La:=[WU 9]
def Jr:La:=[om 44 4,Wp 45 61 44 1,We 46 0 9,Wq 1 46 45]
def Jq:La:=[om 47 4,Wp 48 62 47 12,WQ 49 48,We 50 1 9,Wq 1 50 49]
def Jp:La:=[om 51 4,Wp 52 61 51 4,We 53 2 9,Wq 1 53 52]
def Jo:La:=[om 54 4,Wp 55 63 54 32,We 56 3 9,Wq 1 56 55]
def Jn:La:=[We 57 5 5,Wd 58 57,WA 59 4 9,WY 60 4 59,oo 61 (.app Zq0 56 (.t 58) (.t 60)) [58,60],We 62 5 5,Wq 1 62 61]
def Jm:La:=[Wa 42 8,Wb 43 .add 42 1,Wa 8 43]
def yX:RC:=(.post (Sq (So Jt (Xv 41 [7,8,41] (.exit 0))) (Sq (Bk 1 (So Js (So Jr (So Jq (So Jp (So Jo (.ops Jn))))))) (.ops Jm))) [.gc [109]])
def x5:RC:=yX
def qj:La:=[om 63 4,Wp 64 61 63 1,Wa 10 64]
def x0:La:=[Wj 11 0]
def Jl:La:=[om 65 11,om 66 10,Wf 67 .lss 65 66,Wa 68 67,.grp 68 true [(xi 69 68 true (Mv 11)),(xi 70 68 true (Bc .leq 69 8))] [69],Ww 71 68 70]
def Jk:La:=[W8 12]
def Jj:La:=[om 74 4,Wp 75 61 74 1,We 76 0 12,Wq 1 76 75]
def Ji:La:=[om 77 4,Wp 78 62 77 32,WQ 79 78,We 80 1 12,Wq 1 80 79]
def Jh:La:=[om 81 4,Wp 82 61 81 4,We 83 2 12,Wq 1 83 82]
def Jg:La:=[om 84 4,Wp 85 61 84 4,We 86 3 12,Wq 1 86 85]
def Jf:La:=[We 87 6 5,Wd 88 87,WA 89 4 12,WY 90 4 89,oo 91 (.app Zq2 40 (.t 88) (.t 90)) [88,90],We 92 6 5,Wq 1 92 91]
def Je:La:=[Wa 72 11,Wb 73 .add 72 1,Wa 11 73]
def yW:RC:=(.post (Sq (So Jl (Xv 71 [10,11,71] (.exit 2))) (Sq (Bk 3 (So Jk (So Jj (So Ji (So Jh (So Jg (.ops Jf))))))) (.ops Je))) [.gc [112]])
def xZ:RC:=yW
def qh:La:=[Wa 93 6,Wb 94 .neq 93 21,Wa 95 94,.grp 95 false [(xi 96 95 false (Mv 4)),(xi 97 95 false (Ca 64 [.t 96])),(xi 98 95 false (Bc .neq 97 0))] [4,96,97],Wi 99 95 98,Wa 100 99,.grp 100 false [(xi 101 100 false (Lt 7 5)),(xi 102 100 false (Ca 14 [.t 101])),(xi 103 100 false (Bc .neq 102 0))] [101,102],Wi 104 100 103]
def Jd:La:=[on 105 (.build Zq1 []),Wv 7 2 105,Wj 3 30]
def Jc:La:=[WA 106 7 5,Wv 7 2 106,Wj 3 0]
def r24:RC:=(So PL (So Y6 (So PK (So Y5 (So Y4 (So Y3 (So Y2 (So Y1 (So Y0 (So YZ (Sq (So qm (Bk 0 (.loop x5))) (So qj (Sq (So x0 (Bk 2 (.loop xZ))) (Sq (So qh (Xw 104 [5,104] (So Jd .ret))) (So Jc .ret)))))))))))))))
def F24:FnC:=⟨r24,107,[.cell 2 7 true,.tmp 3],[],[]⟩
def YY:La:=[oo 2 (.mov (.c (.lst 4 [] .clip))) [2]]
def YX:La:=[Wa 10 0,Wp 11 29 10 200,Wa 3 11]
def YW:La:=[on 4 (.mov (.c (.lst 4 [] .clip)))]
def PH:La:=[Wj 5 1]
def YV:La:=[om 12 5,Wb 13 .leq 12 4]
def YU:La:=[om 16 3,Wp 17 71 16 3,Wa 6 17]
def YT:La:=[om 18 5,Wb 19 .eql 18 1,Wa 20 19,.grp 20 false [(xi 21 20 false (Mv 5)),(xi 22 20 false (Bc .eql 21 3))] [21],Wi 23 20 22]
def YS:La:=[om 24 3,Wp 25 71 24 2,WN 26 .add 1 25,Wa 6 26]
def YR:La:=[om 27 6,Wb 28 .gtr 27 0]
def YQ:La:=[om 31 3,om 32 5,Wz 33 72 31 32,WU 7,Wv 4 7 33]
def Jb:La:=[on 8 (Mb false)]
def Ja:La:=[Wj 9 0]
def I9:La:=[om 34 9,om 35 4,Wm 36 35,Wf 37 .lss 34 36]
def I8:Lb:=[Fm 0 40 8,Fm 1 41 40,Wy 2 42 41 false 4,Wy 3 43 41 false 9,Fi 4 44 41 false (Ia 4 42 43),Fi 5 45 41 false (Fa 0 44),Fi 6 46 41 false (Ld 45),Fi 7 47 41 false (Fa 0 7),Fi 8 48 41 false (Ld 47),Fi 9 49 41 false (Bb .eql 46 48),Wy 10 50 41 false 49,Wy 11 51 50 true 4,Wy 12 52 50 true 9,Fi 13 53 50 true (Ia 4 51 52),Fi 14 54 50 true (Fa 1 53),Fi 15 55 50 true (Ld 54),Fi 16 56 50 true (Fa 1 7),Fi 17 57 50 true (Ld 56),Fi 18 58 50 true (Bb .eql 55 57),Fi 19 59 41 false (Pf 50 58),Fs 20 60 (Pt 41 59),⟨21,false,(xm 8 60)⟩]
def I7:La:=[Wa 38 9,Wb 39 .add 38 1,Wa 9 39]
def yV:RC:=(Sq (So I9 (Xv 37 [9,37] (.exit 4))) (Sq (Bk 5 (.flt [0,1,3,3,15,31,63,3,131,511,1023,2047,2047,8191,16383,32767,2047,67583,262143,524287,1048575,2097151] [] I8 [40,41,42,43,44,45,46,47,48,49,50,51,52,53,54,55,56,57,58,59,60])) (.ops I7)))
def xY:RC:=yV
def I6:La:=[Wa 61 8,WV 62 61]
def I5:La:=[Wa 63 4,WA 64 4 7,WY 65 4 64,oo 66 (.app Zq0 56 (.t 63) (.t 65)) [63,65],Wa 4 66]
def I4:La:=[Wa 29 6,Wb 30 .sub 29 1,Wa 6 30]
def yU:RC:=(.post (Sq (So YR (Xv 28 [6,28] (.exit 2))) (Sq (Bk 3 (So YQ (So Jb (Sq (So Ja (Bk 4 (.loop xY))) (So I6 (Kc 62 (Kk [62] (.ops I5)) (Kk [7,62] .skip))))))) (.ops I4))) [.gc [107],.tok 4 104])
def xX:RC:=yU
def I3:La:=[Wa 14 5,Wb 15 .add 14 1,Wa 5 15]
def yT:RC:=(.post (Sq (So YV (Xv 13 [3,5,13] (.exit 0))) (Sq (Bk 1 (So YU (Sq (So YT (Xw 23 [6,23] (.ops YS))) (Bk 2 (.pre [.tok 4 104] (.loop xX)))))) (.ops I3))) [.gc [107],.tok 4 104])
def qf:RC:=yT
def I2:La:=[Wa 67 4,Wa 2 67]
def r28:RC:=(So YY (So YX (So YW (Sq (So PH (Bk 0 (.pre [.tok 4 104] (.loop qf)))) (So I2 .ret)))))
def F28:FnC:=⟨r28,68,[.tmp 2],[],[]⟩
def YP:La:=[oo 4 (.mov (.c .nilp)) [4]]
def YO:La:=[Wa 9 0,Wa 10 1,Xh 11 1 9 10,Wa 0 11]
def YN:La:=[Wa 12 0,oo 13 (.build [.byt [] .clip,.int .i64 0] [(0,1,(.t 12))]) [12],WH 14 13,Wa 4 14]
def r29:RC:=(So YP (Sq (So PI (Kc 8 (Kk [8] (.ops YO)) (Kk [1,8] .skip))) (So YN .ret)))
def F29:FnC:=⟨r29,15,[.tmp 4],[],[]⟩
def PG:La:=[WH 2 0,WH 3 1,oo 4 (Mc 0) [4]]
def YM:La:=[on 6 (Lt 7 2),Wn 7 13 6,Wb 8 .neq 7 0]
def oy:La:=[Wj 4 (-1)]
def YL:La:=[We 9 1 3,Wd 10 9]
def YK:La:=[WD 12 .eql 10 1,Wa 11 12]
def YJ:La:=[Wo 13 5 2,Wd 14 13,oo 15 (.mkfn 76 [] [.t 3]) [3],Wz 16 75 14 15,Wa 4 16]
def YI:La:=[Wb 18 .eql 10 3,Wa 17 18]
def YH:Lb:=[Wh 0 19 0 3,Wc 1 20 19,Fz 2 21 (Ca 33 [ci 4]),Wg 3 22 .neq 20 21,Fm 4 23 22,Fi 5 24 23 false (Lt 4 3),Fy 6 25 23 false (Ca 79 [.t 24]),Fi 7 26 23 false (.un .not (.t 25)),Fs 8 27 (Pt 23 26)]
def YG:La:=[We 28 6 2,Wd 29 28,oo 30 (.mkfn 81 [] [.t 3]) [3],Wz 31 80 29 30,Wa 5 31]
def I1:La:=[om 32 5,Wb 33 .geq 32 0]
def I0:La:=[Wo 34 5 2,Wd 35 34,Wm 36 35,Wa 37 5,Wf 38 .add 36 37,Wa 4 38]
def r31:RC:=(So PG (Sq (So YM (Xw 8 [2,3,8] (So oy .ret))) (Sq (So YL (Bk 0 (So YK (Kc 11 (Kk [10,11] (So YJ .ret)) (Kk [11] (So YI (Kc 17 (Kk [17] (Sq (Sq (.flt [0,1,0,7,15,31,63,127,255] [] YH [19,20,21,22,23,24,25,26]) (Xw 27 [2,3,27] (So oy .ret))) (So YG (So I1 (Kc 33 (Kk [33] (So I0 .ret)) (Kk [2,5,33] .skip)))))) (Kk [2,3,17] .skip)))))))) (So oy .ret))))
def F31:FnC:=⟨r31,39,[.tmp 4],[],[]⟩
def jm:La:=[oo 2 (Mc 0) [2]]
def YF:La:=[om 3 0,Wb 4 .lss 3 0,Wa 5 4,.grp 5 false [(xi 6 5 false (Mv 0)),(xi 7 5 false (Bc .geq 6 5))] [6],Wi 8 5 7]
def wv:La:=[Wj 2 (-1)]
def YE:La:=[Wa 9 0,oo 10 (.iaddrA 5 1 (.c (.pp oW)) (.t 9)) [9],Wd 11 10,Wa 2 11]
def r33:RC:=(So jm (Sq (So YF (Xw 8 [0,8] (So wv .ret))) (So YE .ret)))
def F33:FnC:=⟨r33,12,[.tmp 2],[],[]⟩
def YD:La:=[Wa 5 0,.tks (xs 6 (.s2b (.t 5))) [5],on 7 (.litB [(.c (.u8 32))]),WC 8 1 6 7,Wa 9 1,Wn 10 85 9,WC 11 1 8 10,Wa 4 11]
def r34:RC:=(So jK (So YD .ret))
def F34:FnC:=⟨r34,12,[.tmp 4],[],[]⟩
def YC:La:=[WH 2 0,oo 4 (Mb false) [4]]
def YB:La:=[on 8 (Lt 4 2),Wn 9 44 8,Wb 10 .neq 9 0]
def YA:La:=[We 11 0 2,Wd 12 11]
def Yz:La:=[WD 14 .eql 12 2,Wa 13 14]
def Yy:La:=[Wa 15 1,WQ 16 15,Wo 17 1 2,Wd 18 17,Wf 19 .eql 16 18,Wa 4 19]
def Yx:La:=[WD 21 .eql 12 3,Wa 20 21]
def Yw:La:=[Wo 22 1 2,Wd 23 22,Wa 24 1,Wz 25 86 23 24,Wa 4 25]
def Yv:La:=[Wb 27 .eql 12 4,Wa 26 27]
def Yu:La:=[Wa 29 1,WQ 30 29,We 31 1 2,Wd 32 31,Wz 33 87 30 32,Wa 28 33,WK 34 28 0,WL 35 28 1,Wa 5 34,Wa 6 35]
def IZ:La:=[Wa 36 5,Wn 37 88 36,Wa 7 37]
def IY:La:=[Wa 38 6,Wa 39 38,.grp 39 true [(xi 40 39 true (Mv 7)),(xi 41 39 true (Fa 2 2)),(xi 42 39 true (Ld 41)),(xi 43 39 true (Bb .geq 40 42))] [40,41,42],Ww 44 39 43,Wa 45 44,.grp 45 true [(xi 46 45 true (Mv 7)),(xi 47 45 true (Fa 3 2)),(xi 48 45 true (Ld 47)),(xi 49 45 true (Bb .leq 46 48))] [2,7,46,47,48],Ww 50 45 49,Wa 4 50]
def r35:RC:=(So YC (Sq (So YB (Xw 10 [1,2,10] (So oC .ret))) (Sq (So YA (Bk 0 (So Yz (Kc 13 (Kk [12,13] (So Yy .ret)) (Kk [13] (So Yx (Kc 20 (Kk [12,20] (So Yw .ret)) (Kk [20] (So Yv (Kc 26 (Kk [26] (So Yu (So IZ (So IY .ret)))) (Kk [1,2,26] .skip))))))))))) (So tK .ret))))
def F35:FnC:=⟨r35,51,[.tmp 4],[],[]⟩
def PF:La:=[WZ 6]
def Yt:La:=[Wa 10 0,Wa 11 1,oo 12 (.build Zq1 [(0,1,(.t 10)),(1,1,(.t 11)),(4,1,(ci 1099511627776))]) [10,11],WZ 7,Sr 7 7 12 [12]]
def Ys:La:=[Wa 13 2,on 14 (Ln 13),Wj 15 0]
def Yr:La:=[on 16 (Bb .lss 15 14)]
def Yq:La:=[on 17 (Ia 4 13 15),WA 18 4 17,WU 9,Wv 4 9 18]
def Yp:La:=[on 19 (Lt 4 9),Wn 20 89 19,Wb 21 .eql 20 0,Wa 22 21,.grp 22 true [(xi 23 22 true (Fa 0 9)),(xi 24 22 true (Ld 23)),(xi 25 22 true (Bc .neq 24 4))] [23,24],Ww 26 22 25]
def Yo:Lb:=[Wh 0 27 5 7,Wc 1 28 27,Wh 2 29 0 9,Wc 3 30 29,Wh 4 31 1 9,Wc 5 32 31,Wh 6 33 2 9,Wc 7 34 33,Fs 8 35 (Lt 4 9),Fz 9 36 (Ca 91 [.t 35]),Fz 10 37 (Ca 90 [ci 1,.t 36]),Fs 11 38 (.build Zq0 [(0,1,(.t 30)),(1,1,(.t 32)),(2,1,(.t 34)),(3,1,(.t 37))]),Fs 12 39 (.lit 4 [.t 38]),Fz 13 40 (.appO Zq0 56 (.t 28) (.t 39)),Wh 14 41 5 7,Fr 15 1 41 40]
def Yn:La:=[Wb 42 .add 15 1,Wa 15 42]
def P1:RC:=(.post (So Yr (Sq (Xv 16 [13,14,15,16] (.exit 0)) (Sq (Bk 1 (So Yq (So Yp (Kc 26 (Kk [26] (.flt [0,1,0,4,0,16,0,64,0,256,768,2044,4092,8191,16383,32767] [140] Yo [9,27,28,29,30,31,32,33,34,35,36,37,38,39,40,41])) (Kk [9,26] .skip))))) (.ops Yn)))) [.gc [109]])
def PE:RC:=P1
def Ym:La:=[We 43 5 7,Wd 44 43,oo 45 (Ca 92 [.t 44,(.f 43)]) [44,45]]
def IX:La:=[We 46 5 7,Wd 47 46,oo 48 (Ca 93 [.t 47,(.f 94)]) [47],We 49 5 7,Wq 1 49 48]
def IW:La:=[oo 50 (Lt 7 7) [7],Wv 7 6 50]
def r37:RC:=(So PF (So Yt (Sq (So Ys (Bk 0 (.loop PE))) (So Ym (So IX (So IW .ret))))))
def F37:FnC:=⟨r37,51,[.cell 6 7 true],[0],[]⟩
def Yl:La:=[Wa 12 0,Wa 13 1,oo 14 (.build Zq1 [(0,1,(.t 12)),(1,1,(.t 13)),(4,1,(ci 1099511627776))]) [12,13],WZ 7,Sr 7 7 14 [14]]
def Yk:La:=[om 15 8,om 16 2,Wm 17 16,Wf 18 .lss 15 17]
def Yj:La:=[om 21 2,om 22 8,WT 23 4 21 22,WA 24 4 23,Wn 25 95 24,Wa 9 25]
def Yi:La:=[om 26 9,Wm 27 26,Wb 28 .eql 27 0,Wa 29 28,.grp 29 false [(xi 30 29 false (Mv 2)),(xi 31 29 false (Mv 8)),(xi 32 29 false (Ia 4 30 31)),(xi 33 29 false (Fa 0 32)),(xi 34 29 false (Ld 33)),(xi 35 29 false (Bc .eql 34 4))] [30,31,32,33,34],Wi 36 29 35]
def Yh:Lb:=[Fm 0 37 2,Fm 1 38 8,Wr 2 39 4 37 38,Wh 3 40 0 39,Wc 4 41 40,Fm 5 42 2,Fm 6 43 8,Wr 7 44 4 42 43,Wh 8 45 1 44,Wc 9 46 45,Fm 10 47 2,Fm 11 48 8,Wr 12 49 4 47 48,Wh 13 50 2 49,Wc 14 51 50,Fm 15 52 9,Fz 16 53 (Ca 65 [.t 52]),Fs 17 54 (.build Zq0 [(0,1,(.t 41)),(1,1,(.t 46)),(2,1,(.t 51)),(3,1,(.t 53))]),Fz 18 10 (.new (.rc Zq0)),Fr 19 4 10 54]
def Yg:Lb:=[Fm 0 55 11,Wh 1 56 5 7,Wc 2 57 56,Fs 3 58 (Ln 57),Wg 4 59 .lss 55 58,Fm 5 60 59,Fi 6 61 60 true (Fa 5 7),Fi 7 62 60 true (Ld 61),Wy 8 63 60 true 11,Fi 9 64 60 true (Ia 4 62 63),Fi 10 65 60 true (Lt 4 64),Fi 11 66 60 true (Lt 4 10),Fy 12 67 60 true (Ca 46 [.t 65,.t 66]),Fs 13 68 (Pf 60 67)]
def Yf:La:=[Wa 69 11,Wb 70 .add 69 1,Wa 11 70]
def yS:RC:=(Sq (Sq (.flt [0,0,2,6,15,31,63,127,63,511,1023,63,4095,8191] [] Yg [55,56,57,58,59,60,61,62,63,64,65,66,67]) (Xv 68 [68] (.exit 2))) (Bk 3 (.ops Yf)))
def xW:RC:=yS
def IV:Lb:=[Fm 0 71 11,Wh 1 72 5 7,Wc 2 73 72,Fs 3 74 (Ln 73),Wg 4 75 .lss 71 74,Fm 5 76 75,Fi 6 77 76 true (Lt 4 10),Fi 7 78 76 true (Fa 5 7),Fi 8 79 76 true (Ld 78),Wy 9 80 76 true 11,Fi 10 81 76 true (Ia 4 79 80),Fi 11 82 76 true (Lt 4 81),Fy 12 83 76 true (Ca 46 [.t 77,.t 82]),Fi 13 84 76 true (.un .not (.t 83)),Fs 14 85 (Pf 76 84)]
def IU:Lb:=[Fs 0 86 (.lit 4 []),Wh 1 87 5 7,Wc 2 88 87,Fm 3 89 11,Fs 4 90 (.slcL 4 (.t 88) none (some (.t 89)) none),Fs 6 92 (Lt 4 10),Fs 7 93 (.lit 4 [.t 92]),Wh 9 95 5 7,Wc 10 96 95,Wt 11 97,Fs 12 98 (.slcL 4 (.t 96) (some (.t 97)) none none),Fz 5 91 (.app Zq0 56 (.t 86) (.t 90)),Fz 8 94 (.app Zq0 56 (.t 91) (.t 93)),Fz 13 99 (.app Zq0 56 (.t 94) (.t 98)),Wh 14 100 5 7,Fr 15 1 100 99]
def IT:La:=[Wa 19 8,Wb 20 .add 19 1,Wa 8 20]
def yR:RC:=(.post (Sq (So Yk (Xv 18 [2,8,18] (.exit 0))) (Sq (Bk 1 (So Yj (Sq (So Yi (Xw 36 [9,36] (.exit 1))) (Sq (.fla [0,0,3,7,15,0,0,96,224,480,0,0,3072,7168,15360,0,32768,131071,0,524287] [110] Yh [[0,1,2,3,4,5,6,7,8,9,10,11,12,13,14,15,16,17,18,19],[0,1,2,3,4,5,6,7,8,9,10,11,12,13,14,15,18,16,17,19]] [9,37,38,39,40,41,42,43,44,45,46,47,48,49,50,51,52,53,54]) (So x0 (Sq (Bk 2 (.loop xW)) (Sq (Sq (.flt [0,0,2,6,15,31,63,63,191,63,959,1983,4095,8191,16383] [] IV [71,72,73,74,75,76,77,78,79,80,81,82,83,84]) (Xw 85 [10,11,85] (.exit 1))) (.flt [0,0,2,0,14,31,0,64,255,0,512,0,3584,8191,16383,32767] [191,194,199] IU [10,11,86,87,88,89,90,91,92,93,94,95,96,97,98,99,100])))))))) (.ops IT))) [.gc [110,191,194,199]])
def lK:RC:=yR
def IS:La:=[oo 101 (Lt 7 7) [7],Wv 7 6 101]
def r38:RC:=(So PF (So Yl (Sq (So qm (Bk 0 (.loop lK))) (So IS .ret))))
def F38:FnC:=⟨r38,102,[.cell 6 7 true],[0],[]⟩
def Ye:La:=[WH 2 0,on 4 (.new (.rc [.int .i64 0,.int .i64 0,.lst 1 [] .clip,.byt [] .clip]))]
def Yd:La:=[on 5 (Lt 4 2),Wn 6 100 5,Wb 7 .neq 6 0,Wa 8 7,.grp 8 false [(xi 9 8 false (Fa 0 2)),(xi 10 8 false (Ld 9)),(xi 11 8 false (Bc .eql 10 4))] [9,10],Wi 12 8 11]
def Yc:La:=[on 13 (.build [.int .i64 0,.int .i64 0,.lst 1 [] .clip,.byt [] .clip] []),Sr 4 4 13 [13]]
def Yb:Lb:=[Wh 0 14 0 2,Wc 1 15 14,Fs 3 17 (Lt 4 2),Fm 4 18 1,Wh 6 20 1 2,Wc 7 21 20,Wh 8 22 2 2,Wc 9 23 22,Fz 2 16 (Ca 82 [.t 15]),WM 5 19 101 17 18,WM 10 24 34 21 23,Fs 11 25 (.build [.int .i64 0,.int .i64 0,.lst 1 [] .clip,.byt [] .clip] [(0,1,(.t 16)),(1,1,(ci 1)),(2,1,(.t 19)),(3,1,(.t 24))]),Fr 12 4 4 25]
def r40:RC:=(So Ye (Sq (So Yd (Xw 12 [1,2,12] (So Yc .ret))) (Sq (.flt [0,1,3,0,0,31,0,64,0,256,1023,2047,4095] [] Yb [1,2,14,15,16,17,18,19,20,21,22,23,24,25]) .ret)))
def F40:FnC:=⟨r40,26,[.cell 4 4 true],[],[]⟩
def Ya:La:=[om 8 0,Wp 9 71 8 4,Wa 5 9]
def X9:La:=[on 10 (Ca 102 []),om 11 0,Wp 12 71 11 3,oo 13 (.idxA 3 1 false (.t 10) (.t 12)) [10,12],om 14 5,Wa 15 1,oo 16 (Ca 38 [.t 13,.t 14,.t 15]) [13,14,15],WZ 6,Wv 7 6 16]
def X8:La:=[om 17 0,Wp 18 71 17 3,Wb 19 .eql 18 1]
def X7:Lb:=[Wh 0 20 5 6,Wc 1 21 20,Fm 2 22 0,Wh 3 23 5 6,Wc 4 24 23,Fs 5 25 (Ln 24),Ws 6 26 .add 25 1,WM 7 27 71 22 26,Fs 8 28 (.slcL 4 (.t 21) none (some (.t 27)) none),Wh 9 29 5 6,Fr 10 1 29 28]
def X6:La:=[om 30 0,Wa 31 5,Wb 32 .add 31 1,Wz 33 71 30 32,We 34 2 6,Wq 1 34 33]
def X5:La:=[om 35 0,Wp 36 71 35 12,We 37 3 6,Wq 1 37 36]
def X4:Lb:=[Wh 0 38 3 6,Wc 1 39 38,Ws 2 40 .add 39 1,Fm 3 41 0,WI 4 42 71 41 30,Wg 5 43 .add 40 42,Wh 6 44 4 6,Fr 7 1 44 43]
def X3:La:=[om 45 0,Wp 46 71 45 2,Wb 47 .eql 46 0]
def X2:La:=[We 48 4 6,.op ⟨none,none,.store 1 (.t 48) (ci 1099511627776)⟩ [48]]
def IR:La:=[om 49 0,Wp 50 71 49 4,Wa 7 50]
def IQ:La:=[om 51 7,Wb 52 .gtr 51 0]
def IP:Lb:=[Wh 0 55 6 6,Wc 1 56 55,Fm 2 57 0,Fz 3 58 (Ca 103 [.t 57]),Fs 4 59 (.lit 4 [.t 58]),Fz 5 60 (.app Zq2 40 (.t 56) (.t 59)),Wh 6 61 6 6,Fr 7 1 61 60]
def IN:La:=[Wa 53 7,Wb 54 .sub 53 1,Wa 7 54]
def yQ:RC:=(Sq (So IQ (Xv 52 [0,7,52] (.exit 0))) (Sq (Bk 1 (.flt [0,1,0,4,12,31,63,127] [160] IP [55,56,57,58,59,60,61])) (.ops IN)))
def xV:RC:=yQ
def IM:La:=[WA 62 7 6,Wv 7 4 62]
def r41:RC:=(So PM (So Ya (So X9 (Sq (So X8 (Xw 19 [19] (.flt [0,1,0,0,8,24,56,124,255,511,1023] [] X7 [20,21,22,23,24,25,26,27,28,29]))) (So X6 (So X5 (Sq (.flt [0,1,3,0,8,31,63,127] [] X4 [38,39,40,41,42,43,44]) (Sq (So X3 (Xw 47 [47] (.ops X2))) (Sq (So IR (Bk 0 (.loop xV))) (So IM .ret))))))))))
def F41:FnC:=⟨r41,63,[.cell 4 7 true],[],[]⟩
def wu:La:=[oo 2 (Mb false) [2]]
def X1:La:=[Wa 3 0,oo 4 (.build Zq0 [(0,1,(ci 1)),(1,1,(.t 3))]) [3],Wn 5 89 4,Wb 6 .eql 5 0,Wa 2 6]
def r42:RC:=(So wu (So X1 .ret))
def F42:FnC:=⟨r42,7,[.tmp 2],[],[]⟩
def X0:Lb:=[Wh 0 5 0 2,Wc 1 6 5,Wh 2 7 0 3,Wc 3 8 7,Wh 5 10 1 2,Wc 6 11 10,Wh 7 12 1 3,Wc 8 13 12,Wh 10 15 2 2,Wc 11 16 15,Wh 12 17 2 3,Wc 13 18 17,Wh 15 20 3 2,Wc 16 21 20,Wh 17 22 3 3,Wc 18 23 22,WM 4 9 105 6 8,WM 9 14 106 11 13,WM 14 19 105 16 18,WM 19 24 107 21 23,Fs 20 25 (.lit 1 [.t 9,.t 14,.t 19,.t 24]),Fz 21 26 (Ca 104 [.t 25]),Fm 22 4 26]
def r43:RC:=(So PG (Sq (.flt [0,1,0,4,15,0,32,0,128,511,0,1024,0,4096,16383,0,32768,0,131072,524287,1048575,2097151,4194303] [] X0 [2,3,5,6,7,8,9,10,11,12,13,14,15,16,17,18,19,20,21,22,23,24,25,26]) .ret))
def F43:FnC:=⟨r43,27,[.tmp 4],[],[]⟩
def XZ:La:=[We 5 0 1,Wd 6 5,Wb 7 .lss 6 1,Wa 8 7,.grp 8 false [(xi 9 8 false (Fa 0 1)),(xi 10 8 false (Ld 9)),(xi 11 8 false (Bc .gtr 10 4))] [9,10],Wi 12 8 11]
def XY:La:=[We 13 1 1,Wd 14 13,WF 15 true 14,Wj 16 0]
def XX:La:=[on 17 (Bb .lss 16 15)]
def XW:La:=[om 18 16,Wa 3 18]
def XV:La:=[We 19 1 1,Wd 20 19,Wa 21 3,Xi 22 20 21,Wa 4 22]
def XU:La:=[om 23 4,Xc 24 .lss 23,Wa 25 24,.grp 25 false [(xi 26 25 false (Mv 4)),(xi 27 25 false (.bin .gtr (.t 26) (.c (.u8 126))))] [4,26],Wi 28 25 27]
def XT:La:=[Wb 29 .add 16 1,Wa 16 29]
def yP:RC:=(So XX (Sq (Xv 17 [15,16,17] (.exit 0)) (Sq (Bk 1 (So XW (So XV (So XU (Xw 28 [1,15,16,28] (So gP .ret)))))) (.ops XT))))
def xU:RC:=yP
def IL:La:=[We 31 0 1,Wd 32 31,Wb 33 .eql 32 4,Wa 34 33,.grp 34 true [(xi 35 34 true (Fa 2 1)),(xi 36 34 true (Ld 35)),(xi 37 34 true (Bc .lss 36 0)),(xi 38 34 true (Mv 37))] [35,36,37],.grp 38 false [(xi 39 38 false (Fa 2 1)),(xi 40 38 false (Ld 39)),(xi 41 38 false (Fa 3 1)),(xi 42 38 false (Ld 41)),(xi 43 38 false (Bb .gtr 40 42))] [39,40,41,42],.grp 34 true [(xi 44 34 true (Pt 38 43)),(xi 45 34 true (Mv 44))] [38,43,44],.grp 45 false [(xi 46 45 false (Fa 3 1)),(xi 47 45 false (Ld 46)),(xi 48 45 false (Bc .gtr 47 1000000000))] [46,47],.grp 34 true [(xi 49 34 true (Pt 45 48))] [45,48],Ww 50 34 49,Wa 30 50]
def IK:La:=[We 52 0 1,Wd 53 52,Wb 54 .neq 53 4,Wa 55 54,.grp 55 true [(xi 56 55 true (Fa 2 1)),(xi 57 55 true (Ld 56)),(xi 58 55 true (Bc .neq 57 0)),(xi 59 55 true (Mv 58))] [56,57,58],.grp 59 false [(xi 60 59 false (Fa 3 1)),(xi 61 59 false (Ld 60)),(xi 62 59 false (Bc .neq 61 0))] [60,61],.grp 55 true [(xi 63 55 true (Pt 59 62))] [59,62],Ww 64 55 63,Wa 51 64]
def IJ:La:=[We 66 0 1,Wd 67 66,Wb 68 .eql 67 1,Wa 69 68,.grp 69 true [(xi 70 69 true (Fa 1 1)),(xi 71 69 true (Ld 70)),(xi 72 69 true (.bin .neq (.t 71) (.c (.str []))))] [70,71],Ww 73 69 72,Wa 65 73]
def II:La:=[oo 75 (Fa 1 1) [1],Wd 76 75,WF 77 true 76,Wb 78 .gtr 77 32,Wa 74 78]
def r44:RC:=(So qU (Sq (So XZ (Xw 12 [1,12] (So gP .ret))) (Sq (So XY (Bk 0 (.loop xU))) (Sq (Bk 2 (So IL (Kc 30 (Kk [1,30] (So gP .ret)) (Kk [30] (So IK (Kc 51 (Kk [1,51] (So gP .ret)) (Kk [51] (So IJ (Kc 65 (Kk [1,65] (So gP .ret)) (Kk [65] (So II (Xw 74 [74] (So oE .ret))))))))))))) (So i0 .ret)))))
def F44:FnC:=⟨r44,79,[.tmp 2],[],[]⟩
def XS:La:=[om 5 0,WF 6 true 5,Wb 7 .lss 6 1,Wa 8 7,.grp 8 false [(xi 9 8 false (Mv 0)),(xi 10 8 false (.len true (.t 9))),(xi 11 8 false (Bc .gtr 10 12))] [9,10],Wi 12 8 11]
def nu:La:=[on 2 (Mb false)]
def XR:La:=[om 13 3,om 14 0,WF 15 true 14,Wf 16 .lss 13 15]
def XQ:La:=[om 19 0,om 20 3,Xi 21 19 20,Wa 4 21]
def XP:La:=[om 22 4,oo 23 (.bin .lss (.t 22) (.c (.u8 97))) [22],Wa 24 23,.grp 24 false [(xi 25 24 false (Mv 4)),(xi 26 24 false (.bin .gtr (.t 25) (.c (.u8 122))))] [25],Wi 27 24 26,Wa 28 27,.grp 28 true [(xi 29 28 true (Mv 4)),(xi 30 28 true (.bin .lss (.t 29) (.c (.u8 48)))),(xi 31 28 true (Mv 30))] [29,30],.grp 31 false [(xi 32 31 false (Mv 4)),(xi 33 31 false (.bin .gtr (.t 32) (.c (.u8 57))))] [32],.grp 28 true [(xi 34 28 true (Pt 31 33))] [31,33],Ww 35 28 34,Wa 36 35,.grp 36 true [(xi 37 36 true (Mv 4)),(xi 38 36 true (.bin .neq (.t 37) (.c (.u8 45))))] [4,37],Ww 39 36 38]
def PD:La:=[Wa 17 3,Wb 18 .add 17 1,Wa 3 18]
def P0:RC:=(Sq (So XR (Xv 16 [0,3,16] (.exit 0))) (Sq (Bk 1 (So XQ (So XP (Xw 39 [0,3,39] (So nu .ret))))) (.ops PD)))
def PC:RC:=P0
def qe:La:=[on 2 (Mb true)]
def r45:RC:=(So wu (Sq (So XS (Xw 12 [0,12] (So nu .ret))) (Sq (So ww (Bk 0 (.loop PC))) (So qe .ret))))
def F45:FnC:=⟨r45,40,[.tmp 2],[],[]⟩
def XO:La:=[We 5 0 2,Wd 6 5,We 7 0 3,Wd 8 7,Wf 9 .neq 6 8]
def XN:La:=[Wo 10 0 2,Wd 11 10,Wo 12 0 3,Wd 13 12,Wf 14 .lss 11 13,Wa 4 14]
def XM:La:=[We 15 1 2,Wd 16 15,We 17 1 3,Wd 18 17,Wf 19 .neq 16 18]
def XL:La:=[Wo 20 1 2,Wd 21 20,Wo 22 1 3,Wd 23 22,Wf 24 .lss 21 23,Wa 4 24]
def XK:La:=[We 25 2 2,Wd 26 25,We 27 2 3,Wd 28 27,Wf 29 .neq 26 28]
def XJ:La:=[oo 30 (Fa 2 2) [2],Wd 31 30,Wo 32 2 3,Wd 33 32,Wf 34 .lss 31 33,Wa 4 34]
def XI:La:=[Wo 35 3 2,Wd 36 35,oo 37 (Fa 3 3) [3],Wd 38 37,Wz 39 108 36 38,Wa 4 39]
def r46:RC:=(So Ec (Sq (So XO (Xw 9 [9] (So XN .ret))) (Sq (So XM (Xw 19 [19] (So XL .ret))) (Sq (So XK (Xw 29 [29] (So XJ .ret))) (So XI .ret)))))
def F46:FnC:=⟨r46,40,[.tmp 4],[],[]⟩
def XH:La:=[We 4 0 1,Wd 5 4,Wb 6 .lss 5 1,Wa 7 6,.grp 7 false [(xi 8 7 false (Fa 0 1)),(xi 9 7 false (Ld 8)),(xi 10 7 false (Bc .gtr 9 4))] [8,9],Wi 11 7 10]
def XG:La:=[om 12 3,We 13 1 1,Wd 14 13,WF 15 true 14,Wf 16 .lss 12 15]
def XF:La:=[We 19 1 1,Wd 20 19,om 21 3,Xi 22 20 21,Xc 23 .lss 22,Wa 24 23,.grp 24 false [(xi 25 24 false (Fa 1 1)),(xi 26 24 false (Ld 25)),(xi 27 24 false (Mv 3)),(xi 28 24 false (.idxS (.t 26) (.t 27))),(xi 29 24 false (.bin .gtr (.t 28) (.c (.u8 126))))] [25,26,27,28],Wi 30 24 29]
def PZ:RC:=(Sq (So XG (Xv 16 [3,16] (.exit 0))) (Sq (Bk 1 (So XF (Xw 30 [1,3,30] (So gP .ret)))) (.ops PD)))
def PB:RC:=PZ
def XE:La:=[We 31 0 1,Wd 32 31,Wb 33 .eql 32 4]
def IH:La:=[We 34 2 1,Wd 35 34,Wb 36 .lss 35 0,Wa 37 36,.grp 37 false [(xi 38 37 false (Fa 2 1)),(xi 39 37 false (Ld 38)),(xi 40 37 false (Fa 3 1)),(xi 41 37 false (Ld 40)),(xi 42 37 false (Bb .gtr 39 41))] [38,39,40,41],Wi 43 37 42,Wa 44 43,.grp 44 false [(xi 45 44 false (Fa 3 1)),(xi 46 44 false (Ld 45)),(xi 47 44 false (Bc .gtr 46 1000000000))] [45,46],Wi 48 44 47]
def IG:La:=[We 49 2 1,Wd 50 49,Wb 51 .neq 50 0,Wa 52 51,.grp 52 false [(xi 53 52 false (Fa 3 1)),(xi 54 52 false (Ld 53)),(xi 55 52 false (Bc .neq 54 0))] [53,54],Wi 56 52 55]
def IF:La:=[We 57 0 1,Wd 58 57,Wb 59 .eql 58 1,Wa 60 59,.grp 60 true [(xi 61 60 true (Fa 1 1)),(xi 62 60 true (Ld 61)),(xi 63 60 true (.bin .neq (.t 62) (.c (.str []))))] [61,62],Ww 64 60 63]
def IE:La:=[oo 65 (Fa 1 1) [1],Wd 66 65,WF 67 true 66,Wb 68 .gtr 67 32]
def r47:RC:=(So qU (Sq (So XH (Xw 11 [1,11] (So gP .ret))) (Sq (So ww (Bk 0 (.loop PB))) (Sq (So XE (Kc 33 (Kk [33] (So IH (Xw 48 [1,48] (So gP .ret)))) (Kk [33] (So IG (Xw 56 [1,56] (So gP .ret)))))) (Sq (So IF (Xw 64 [1,64] (So gP .ret))) (Sq (So IE (Xw 68 [68] (So oE .ret))) (So i0 .ret)))))))
def F47:FnC:=⟨r47,69,[.tmp 2],[],[]⟩
def PA:La:=[Xb 6]
def XD:La:=[Wa 9 0,Xj 10 1 9,Wa 7 10]
def XC:La:=[om 11 1,Wb 12 .lss 11 1,Wa 13 12,.grp 13 false [(xi 14 13 false (Mv 1)),(xi 15 13 false (Bc .gtr 14 8))] [14],Wi 16 13 15]
def XB:La:=[Wa 17 7,Wa 6 17]
def XA:La:=[Wa 18 1,Wb 19 .sub 18 1,Wa 8 19]
def Xz:La:=[om 20 8,Wb 21 .geq 20 0]
def Xy:La:=[Wa 24 7,om 25 2,WO 26 25,om 27 8,WN 28 .mul 8 27,WO 29 28,Wf 30 .shr 26 29,WE 31 30,WX 32 31,WC 33 1 24 32,Wa 7 33]
def Xx:La:=[Wa 22 8,Wb 23 .sub 22 1,Wa 8 23]
def PY:RC:=(.post (Sq (So Xz (Xv 21 [2,8,21] (.exit 0))) (Sq (Bk 1 (.ops Xy)) (.ops Xx))) [.tok 7 107])
def Pz:RC:=PY
def V9:La:=[Wa 34 7,Wa 6 34]
def r48:RC:=(So PA (So XD (Sq (So XC (Xw 16 [1,2,16] (So XB .ret))) (Sq (So XA (Bk 0 (.pre [.tok 7 107] (.loop Pz)))) (So V9 .ret)))))
def F48:FnC:=⟨r48,35,[.tmp 6],[0],[]⟩
def V8:La:=[om 5 1,Wa 6 1,Wm 7 6,oo 8 (.mini (.t 7) (ci 65535)) [7],Xh 9 1 5 8,Wa 1 9]
def V7:La:=[Wa 10 0,om 11 1,Wm 12 11,WW 13 48 10 2 12,Wa 14 1,WC 15 1 13 14,Wa 4 15]
def r49:RC:=(So jK (So V8 (So V7 .ret)))
def F49:FnC:=⟨r49,16,[.tmp 4],[0],[]⟩
def Py:La:=[oo 2 (.mov (.c .nilp)) [2]]
def V6:La:=[Wa 3 0,Xj 4 1 3,oo 5 (.build [.byt [] .clip,.int .i64 0,.int .i64 0] [(0,1,(.t 4))]) [4],WH 6 5,Wa 2 6]
def r50:RC:=(So Py (So V6 .ret))
def F50:FnC:=⟨r50,7,[.tmp 2],[],[]⟩
def Px:La:=[om 10 0,Wx 11 10,Wo 12 2 11,Wd 13 12,Wb 14 .neq 13 0]
def V5:La:=[om 15 1,Wb 16 .lss 15 1,Wa 17 16,.grp 17 false [(xi 18 17 false (Mv 1)),(xi 19 17 false (Bc .gtr 18 8))] [18],Wi 20 17 19]
def V4:La:=[Wa 21 0,oo 22 (Ca 109 [.t 21,ci 1]) [21,22]]
def V3:La:=[om 24 0,om 25 0,Wx 26 25,Wo 27 1 26,Wd 28 27,om 29 1,oo 30 (Ca 110 [.t 24,.t 28,.t 29]) [24,28,29],Wa 23 30,WK 31 23 0,WL 32 23 1,Wa 5 31,Wa 6 32]
def V2:La:=[om 33 6,Wb 34 .neq 33 0]
def V1:La:=[Wa 35 0,Wa 36 6,Xd 37 109 35 36]
def ID:La:=[on 7 (.mov (.c (.int .u64 0)))]
def IC:La:=[Wa 38 5,on 39 (Ln 38),Wj 40 0]
def IB:La:=[on 41 (Bb .lss 40 39)]
def IA:La:=[on 42 (Ia 1 38 40),Wd 43 42,Wa 9 43]
def Iz:La:=[Wa 44 7,Xa 45 .shl 44,Wa 46 9,WO 47 46,Wf 48 .or 45 47,Wa 7 48]
def Iy:La:=[Wb 49 .add 40 1,Wa 40 49]
def yO:RC:=(So IB (Sq (Xv 41 [38,39,40,41] (.exit 0)) (Sq (Bk 1 (So IA (.ops Iz))) (.ops Iy))))
def xT:RC:=yO
def Ix:La:=[om 50 7,oo 51 (.bin .gtr (.t 50) (.c (.int .u64 9223372036854775807))) [50]]
def Iw:La:=[Wa 52 0,oo 53 (Ca 109 [.t 52,ci 4]) [52,53]]
def Iv:La:=[Wa 54 0,W4 55 54,Wo 56 1 55,Wd 57 56,Wa 58 1,Wf 59 .add 57 58,Wx 60 54,Wo 61 1 60,Wq 1 61 59]
def Iu:La:=[Wa 62 7,Xk 63 62,Wa 4 63]
def r51:RC:=(So ny (Sq (So Px (Xw 14 [0,1,14] (So jL .ret))) (Sq (So V5 (Xw 20 [1,20] (So V4 (So jL .ret)))) (So V3 (Sq (So V2 (Kc 34 (Kk [1,5,34] (So V1 (So jL .ret))) (Kk [6,34] .skip))) (So ID (Sq (So IC (Bk 0 (.loop xT))) (Sq (So Ix (Xw 51 [1,7,51] (So Iw (So jL .ret)))) (So Iv (So Iu .ret))))))))))
def F51:FnC:=⟨r51,64,[.tmp 4],[],[]⟩
def io:La:=[Xg 4]
def V0:La:=[om 15 0,oo 16 (.mkfn 110 [.t 15] []) [15],Wa 5 16]
def VZ:La:=[om 18 5,om 19 0,Wx 20 19,Wo 21 1 20,Wd 22 21,oo 23 (.call (.t 18) [.t 22,ci 2]) [18,22],Wa 17 23,WK 24 17 0,WL 25 17 1,Wa 6 24,Wa 7 25]
def VY:La:=[om 26 7,Wb 27 .neq 26 0]
def VX:La:=[Wa 28 0,Wa 29 7,Xd 30 109 28 29]
def VW:Lb:=[Fm 0 31 6,WB 1 32 1 31 0,Wc 2 33 32,Xe 3 34 33,Xf 4 35 .shl 34,Fm 5 36 6,WB 6 37 1 36 1,Wc 7 38 37,Xe 8 39 38,Wg 9 40 .or 35 39,Fm 10 8 40]
def VV:La:=[om 41 8,Wa 42 1,Wf 43 .gtr 41 42]
def It:La:=[Wa 44 0,oo 45 (Ca 109 [.t 44,ci 4]) [44,45]]
def Is:La:=[Wa 47 5,om 48 0,Wx 49 48,Wo 50 1 49,Wd 51 50,Wb 52 .add 51 2,om 53 8,oo 54 (.call (.t 47) [.t 52,.t 53]) [47,52,53],Wa 46 54,WK 55 46 0,WL 56 46 1,Wa 9 55,Wa 7 56]
def Ir:La:=[om 57 7,Wb 58 .neq 57 0]
def Iq:La:=[Wa 59 0,Wa 60 7,Xd 61 109 59 60]
def Ip:La:=[Wa 62 0,W4 63 62,Wo 64 1 63,Wd 65 64,Wa 66 8,WN 67 .add 2 66,Wf 68 .add 65 67,Wx 69 62,Wo 70 1 69,Wq 1 70 68]
def Io:La:=[Wa 71 9,Xj 72 1 71,Wa 4 72]
def r52:RC:=(So jK (Sq (So Px (Xw 14 [0,1,14] (So io .ret))) (So V0 (So VZ (Sq (So VY (Kc 27 (Kk [1,5,6,27] (So VX (So io .ret))) (Kk [7,27] .skip))) (Sq (.flt [0,1,3,7,15,0,32,96,224,511,1023] [] VW [6,31,32,33,34,35,36,37,38,39,40]) (Sq (So VV (Xw 43 [5,8,43] (So It (So io .ret)))) (So Is (Sq (So Ir (Kc 58 (Kk [8,9,58] (So Iq (So io .ret))) (Kk [7,58] .skip))) (So Ip (So Io .ret)))))))))))
def F52:FnC:=⟨r52,73,[.tmp 4],[],[]⟩
def VU:La:=[Wa 3 0,Wx 4 3,Wo 5 2 4,Wd 6 5,Wa 2 6]
def r53:RC:=(So jm (So VU .ret))
def F53:FnC:=⟨r53,7,[.tmp 2],[],[]⟩
def VT:La:=[om 7 0,Wx 8 7,Wo 9 2 8,Wd 10 9,Wb 11 .neq 10 0]
def VS:La:=[om 12 1,Wb 13 .lss 12 0]
def VR:La:=[Wa 14 0,oo 15 (Ca 109 [.t 14,ci 1]) [14,15]]
def VQ:La:=[om 17 0,om 18 0,Wx 19 18,Wo 20 1 19,Wd 21 20,om 22 1,oo 23 (Ca 110 [.t 17,.t 21,.t 22]) [17,21,22],Wa 16 23,WK 24 16 0,WL 25 16 1,Wa 5 24,Wa 6 25]
def VP:La:=[om 26 6,Wb 27 .neq 26 0]
def VO:La:=[Wa 28 0,Wa 29 6,Xd 30 109 28 29]
def In:La:=[Wa 31 0,W4 32 31,Wo 33 1 32,Wd 34 33,Wa 35 1,Wf 36 .add 34 35,Wx 37 31,Wo 38 1 37,Wq 1 38 36]
def Im:La:=[Wa 39 5,Xj 40 1 39,Wa 4 40]
def r54:RC:=(So jK (Sq (So VT (Xw 11 [0,1,11] (So io .ret))) (Sq (So VS (Xw 13 [1,13] (So VR (So io .ret)))) (So VQ (Sq (So VP (Kc 27 (Kk [1,5,27] (So VO (So io .ret))) (Kk [6,27] .skip))) (So In (So Im .ret)))))))
def F54:FnC:=⟨r54,41,[.tmp 4],[],[]⟩
def VN:La:=[om 3 0,Wx 4 3,Wo 5 2 4,Wd 6 5,Wb 7 .eql 6 0,Wa 8 7,.grp 8 true [(xi 9 8 true (Mv 0)),(xi 10 8 true (Ca 111 [.t 9])),(xi 11 8 true (Bc .gtr 10 0))] [9,10],Ww 12 8 11]
def Pw:La:=[Wj 2 3]
def Pv:La:=[Wa 13 0,Wx 14 13,Wo 15 2 14,Wd 16 15,Wa 2 16]
def r55:RC:=(So jm (Sq (So VN (Xw 12 [0,12] (So Pw .ret))) (So Pv .ret)))
def F55:FnC:=⟨r55,17,[.tmp 2],[],[]⟩
def VM:La:=[om 5 1,Wm 6 5,Wb 7 .gtr 6 65535]
def VL:La:=[Wa 8 1,Xp 9 1 8 65535,Wa 1 9]
def VK:La:=[Wa 10 0,om 11 1,Wm 12 11,WW 13 57 10 2 12,Wa 14 1,WC 15 1 13 14,Wa 4 15]
def r56:RC:=(So jK (Sq (So VM (Xw 7 [7] (.ops VL))) (So VK .ret)))
def F56:FnC:=⟨r56,16,[.tmp 4],[0],[]⟩
def VJ:La:=[on 9 (.litB []),Wa 10 0,WC 11 1 9 10,Wa 7 11]
def VI:La:=[om 12 1,Wb 13 .lss 12 1,Wa 14 13,.grp 14 false [(xi 15 14 false (Mv 1)),(xi 16 14 false (Bc .gtr 15 8))] [15],Wi 17 14 16]
def VH:La:=[Wa 18 7,Wa 6 18]
def VG:La:=[Wa 19 1,Wb 20 .sub 19 1,Wa 8 20]
def VF:La:=[om 21 8,Wb 22 .geq 21 0]
def VE:La:=[Wa 25 7,om 26 2,WO 27 26,om 28 8,WO 29 28,oo 30 (.bin .mul (.c (.int .u64 8)) (.t 29)) [29],Wf 31 .shr 27 30,WE 32 31,WX 33 32,WC 34 1 25 33,Wa 7 34]
def VD:La:=[Wa 23 8,Wb 24 .sub 23 1,Wa 8 24]
def PX:RC:=(.post (Sq (So VF (Xv 22 [2,8,22] (.exit 0))) (Sq (Bk 1 (.ops VE)) (.ops VD))) [.tok 7 107])
def Pu:RC:=PX
def VC:La:=[Wa 35 7,Wa 6 35]
def r57:RC:=(So PA (So VJ (Sq (So VI (Xw 17 [1,2,17] (So VH .ret))) (Sq (So VG (Bk 0 (.pre [.tok 7 107] (.loop Pu)))) (So VC .ret)))))
def F57:FnC:=⟨r57,36,[.tmp 6],[0],[]⟩
def VB:La:=[Wa 5 0,Wa 6 1,Wz 7 112 5 6,oo 8 (Ca 90 [ci 1,.t 7]) [7],Wa 4 8]
def r58:RC:=(So jK (So VB .ret))
def F58:FnC:=⟨r58,9,[.tmp 4],[],[]⟩
def Vq:La:=[Wa 3 0,oo 4 (.build [.byt [] .clip,.int .i64 0,.int .i64 0] [(0,1,(.t 3))]) [3],WH 5 4,Wa 2 5]
def r60:RC:=(So Py (So Vq .ret))
def F60:FnC:=⟨r60,6,[.tmp 2],[],[]⟩
def Vp:La:=[om 7 0,Wx 8 7,Wo 9 2 8,Wd 10 9,Wb 11 .eql 10 0,Wa 12 11,.grp 12 true [(xi 13 12 true (Mv 1)),(xi 14 12 true (Bc .lss 13 1)),(xi 15 12 true (Mv 14))] [13,14],.grp 15 false [(xi 16 15 false (Mv 1)),(xi 17 15 false (Bc .gtr 16 8))] [16],.grp 12 true [(xi 18 12 true (Pt 15 17))] [15,17],Ww 19 12 18]
def Vo:La:=[om 20 0,Wx 21 20,Wo 22 2 21,.op ⟨none,none,.store 1 (.t 22) (ci 1)⟩ [22]]
def Vn:La:=[om 23 0,Wx 24 23,Wo 25 2 24,Wd 26 25,Wb 27 .neq 26 0,Wa 28 27,.grp 28 false [(xi 29 28 false (Mv 0)),(xi 30 28 false (Mv 1)),(xi 31 28 false (Ca 113 [.t 29,.t 30])),(xi 32 28 false (.un .not (.t 31)))] [29,30,31],Wi 33 28 32]
def Vm:La:=[on 5 (.mov (.c (.int .u64 0)))]
def Vl:La:=[om 34 6,om 35 1,Wf 36 .lss 34 35]
def Vk:Lb:=[Fm 0 39 5,Xf 1 40 .shl 39,Fm 2 41 0,Wu 3 42 41,Wh 4 43 0 42,Wc 5 44 43,Fm 6 45 0,Wu 7 46 45,Wh 8 47 1 46,Wc 9 48 47,Fm 10 49 6,Wg 11 50 .add 48 49,Wr 12 51 1 44 50,Wc 13 52 51,Fs 14 53 (.toInt .u64 (.t 52)),Wg 15 54 .or 40 53,⟨16,false,(xm 5 54)⟩]
def Ps:La:=[Wa 37 6,Wb 38 .add 37 1,Wa 6 38]
def yN:RC:=(Sq (So Vl (Xv 36 [6,36] (.exit 0))) (Sq (Bk 1 (.flt [0,1,0,4,12,28,0,64,192,448,0,1984,4092,8188,16380,32767,65535] [] Vk [39,40,41,42,43,44,45,46,47,48,49,50,51,52,53,54])) (.ops Ps)))
def xR:RC:=yN
def HT:La:=[om 55 5,oo 56 (.bin .geq (.t 55) (.c (.int .u64 9223372036854775808))) [55]]
def HS:La:=[Wa 57 0,Wx 58 57,Wo 59 2 58,.op ⟨none,none,.store 1 (.t 59) (ci 4)⟩ [59]]
def HR:La:=[Wa 60 0,W4 61 60,Wo 62 1 61,Wd 63 62,Wa 64 1,Wf 65 .add 63 64,Wx 66 60,Wo 67 1 66,Wq 1 67 65]
def HQ:La:=[Wa 68 5,Xk 69 68,Wa 4 69]
def r61:RC:=(So ny (Sq (So Vp (Xw 19 [19] (.ops Vo))) (Sq (So Vn (Xw 33 [0,1,33] (So jL .ret))) (So Vm (Sq (So nM (Bk 0 (.loop xR))) (Sq (So HT (Xw 56 [1,5,56] (So HS (So jL .ret)))) (So HR (So HQ .ret))))))))
def F61:FnC:=⟨r61,70,[.tmp 4],[],[]⟩
def Vj:La:=[om 6 0,Wx 7 6,Wo 8 2 7,Wd 9 8,Wb 10 .neq 9 0,Wa 11 10,.grp 11 false [(xi 12 11 false (Mv 0)),(xi 13 11 false (Ca 113 [.t 12,ci 2])),(xi 14 11 false (.un .not (.t 13)))] [12,13],Wi 15 11 14]
def Vi:Lb:=[Wt 0 16,Wu 1 17 16,Wh 2 18 0 17,Wc 3 19 18,Fm 4 20 0,Wu 5 21 20,Wh 6 22 1 21,Wc 7 23 22,Wr 8 24 1 19 23,Wc 9 25 24,Xe 10 26 25,Xf 11 27 .shl 26,Fm 12 28 0,Wu 13 29 28,Wh 14 30 0 29,Wc 15 31 30,Fm 16 32 0,Wu 17 33 32,Wh 18 34 1 33,Wc 19 35 34,Ws 20 36 .add 35 1,Wr 21 37 1 31 36,Wc 22 38 37,Xe 23 39 38,Wg 24 40 .or 27 39,Fm 25 5 40]
def Vh:La:=[om 41 5,Wa 42 1,Wf 43 .gtr 41 42]
def Vg:La:=[Wa 44 0,Wx 45 44,Wo 46 2 45,.op ⟨none,none,.store 1 (.t 46) (ci 4)⟩ [46]]
def Vf:La:=[om 47 0,om 48 5,WN 49 .add 2 48,Wz 50 113 47 49,WV 51 50]
def Ve:La:=[om 52 0,W4 53 52,Wo 54 1 53,Wd 55 54,om 56 5,WN 57 .add 2 56,Wf 58 .add 55 57,Wx 59 52,Wo 60 1 59,Wq 1 60 58]
def HP:Lb:=[Fs 0 61 (.litB []),Fm 1 62 0,Wu 2 63 62,Wh 3 64 0 63,Wc 4 65 64,Fm 5 66 0,Wu 6 67 66,Wh 7 68 1 67,Wc 8 69 68,Fm 9 70 5,Wg 10 71 .sub 69 70,Fm 11 72 0,Wu 12 73 72,Wh 13 74 1 73,Wc 14 75 74,Fs 15 76 (.slcL 1 (.t 65) (some (.t 71)) (some (.t 75)) none),W2 16 77 1 61 76,Fm 17 4 77]
def r62:RC:=(So jK (Sq (So Vj (Xw 15 [0,1,15] (So io .ret))) (Sq (.flt [0,1,3,7,0,16,48,112,255,511,1023,2047,0,4096,12288,28672,0,65536,196608,458752,983040,2093056,4190208,8384512,16777215,33554431] [] Vi [16,17,18,19,20,21,22,23,24,25,26,27,28,29,30,31,32,33,34,35,36,37,38,39,40]) (Sq (So Vh (Xw 43 [5,43] (So Vg (So io .ret)))) (Sq (So Vf (Xw 51 [0,5,51] (So io .ret))) (So Ve (Sq (.flt [0,0,2,6,14,0,32,96,224,0,992,0,2048,6144,14336,32766,65535,131071] [177] HP [0,5,61,62,63,64,65,66,67,68,69,70,71,72,73,74,75,76,77]) .ret)))))))
def F62:FnC:=⟨r62,78,[.tmp 4],[],[]⟩
def Vd:La:=[om 5 0,Wx 6 5,Wo 7 2 6,Wd 8 7,Wb 9 .eql 8 0,Wa 10 9,.grp 10 true [(xi 11 10 true (Mv 1)),(xi 12 10 true (Bc .lss 11 0))] [11],Ww 13 10 12]
def Vc:La:=[om 14 0,Wx 15 14,Wo 16 2 15,.op ⟨none,none,.store 1 (.t 16) (ci 1)⟩ [16]]
def Vb:La:=[om 17 0,Wx 18 17,Wo 19 2 18,Wd 20 19,Wb 21 .neq 20 0,Wa 22 21,.grp 22 false [(xi 23 22 false (Mv 0)),(xi 24 22 false (Mv 1)),(xi 25 22 false (Ca 113 [.t 23,.t 24])),(xi 26 22 false (.un .not (.t 25)))] [23,24,25],Wi 27 22 26]
def Va:La:=[om 28 0,W4 29 28,Wo 30 1 29,Wd 31 30,om 32 1,Wf 33 .add 31 32,Wx 34 28,Wo 35 1 34,Wq 1 35 33]
def U9:Lb:=[Fs 0 36 (.litB []),Fm 1 37 0,Wu 2 38 37,Wh 3 39 0 38,Wc 4 40 39,Fm 5 41 0,Wu 6 42 41,Wh 7 43 1 42,Wc 8 44 43,Fm 9 45 1,Wg 10 46 .sub 44 45,Fm 11 47 0,Wu 12 48 47,Wh 13 49 1 48,Wc 14 50 49,Fs 15 51 (.slcL 1 (.t 40) (some (.t 46)) (some (.t 50)) none),W2 16 52 1 36 51,Fm 17 4 52]
def r63:RC:=(So jK (Sq (So Vd (Xw 13 [13] (.ops Vc))) (Sq (So Vb (Xw 27 [0,1,27] (So io .ret))) (So Va (Sq (.flt [0,0,2,6,14,0,32,96,224,0,992,0,2048,6144,14336,32766,65535,131071] [152] U9 [0,1,36,37,38,39,40,41,42,43,44,45,46,47,48,49,50,51,52]) .ret)))))
def F63:FnC:=⟨r63,53,[.tmp 4],[],[]⟩
def U8:La:=[om 3 0,Wx 4 3,Wo 5 2 4,Wd 6 5,Wb 7 .eql 6 0,Wa 8 7,.grp 8 true [(xi 9 8 true (Mv 0)),(xi 10 8 true (Ca 114 [.t 9])),(xi 11 8 true (Bc .gtr 10 0))] [9,10],Ww 12 8 11]
def r64:RC:=(So jm (Sq (So U8 (Xw 12 [0,12] (So Pw .ret))) (So Pv .ret)))
def F64:FnC:=⟨r64,17,[.tmp 2],[],[]⟩
def lX:La:=[Xb 2]
def U7:La:=[on 18 (Ca 115 []),Xl 3,Wv 64 3 18]
def U6:La:=[.own (xs 19 (.lit 1 [(.c (.int .u32 1779033703)),(.c (.int .u32 3144134277)),(.c (.int .u32 1013904242)),(.c (.int .u32 2773480762)),(.c (.int .u32 1359893119)),(.c (.int .u32 2600822924)),(.c (.int .u32 528734635)),(.c (.int .u32 1541459225))])) [],Wa 4 19]
def U5:La:=[Wa 20 0,Wn 21 116 20,Wa 5 21]
def U4:La:=[om 22 6,om 23 5,Wm 24 23,Wf 25 .lss 22 24]
def U3:La:=[Xl 7]
def U2:La:=[om 28 8,Wb 29 .lss 28 64]
def U1:La:=[om 32 8,Wb 33 .lss 32 16]
def HO:La:=[om 34 8,om 35 5,om 36 6,om 37 6,Wb 38 .add 37 64,Xq 39 1 35 36 38,om 40 8,Wz 41 117 39 40,oo 42 (.iaddrA 64 1 (.t 7) (.t 34)) [34],Wq 1 42 41]
def HN:Lb:=[Fm 0 43 8,Ws 1 44 .sub 43 15,WG 2 45 7 44,Wc 3 46 45,Fm 5 48 8,Ws 6 49 .sub 48 15,WG 7 50 7 49,Wc 8 51 50,Fm 11 54 8,Ws 12 55 .sub 54 15,WG 13 56 7 55,Wc 14 57 56,Fs 15 58 (.bin .shr (.t 57) (.c (.int .u64 3))),Fz 4 47 (Ca 118 [.t 46,(.c (.int .u64 7))]),Fz 9 52 (Ca 118 [.t 51,(.c (.int .u64 18))]),Wg 10 53 .xor 47 52,Wg 16 59 .xor 53 58,Fm 17 9 59]
def HM:Lb:=[Fm 0 60 8,Ws 1 61 .sub 60 2,WG 2 62 7 61,Wc 3 63 62,Fm 5 65 8,Ws 6 66 .sub 65 2,WG 7 67 7 66,Wc 8 68 67,Fm 11 71 8,Ws 12 72 .sub 71 2,WG 13 73 7 72,Wc 14 74 73,Fs 15 75 (.bin .shr (.t 74) (.c (.int .u64 10))),Fz 4 64 (Ca 118 [.t 63,(.c (.int .u64 17))]),Fz 9 69 (Ca 118 [.t 68,(.c (.int .u64 19))]),Wg 10 70 .xor 64 69,Wg 16 76 .xor 70 75,Fm 17 10 76]
def HK:Lb:=[Fm 0 77 8,Fm 1 78 10,Fm 2 79 8,Ws 3 80 .sub 79 7,WG 4 81 7 80,Wc 5 82 81,Wg 6 83 .add 78 82,Fm 7 84 9,Wg 8 85 .add 83 84,Fm 9 86 8,Ws 10 87 .sub 86 16,WG 11 88 7 87,Wc 12 89 88,Wg 13 90 .add 85 89,WG 14 91 7 77,Fr 15 1 91 90]
def HJ:La:=[Wa 30 8,Wb 31 .add 30 1,Wa 8 31]
def yM:RC:=(Sq (So U2 (Xv 29 [8,29] (.exit 2))) (Sq (Bk 3 (Sq (So U1 (Xw 33 [33] (So HO (.exit 3)))) (Sq (.flt [0,1,3,7,15,0,32,96,224,511,1023,0,2048,6144,14336,30720,65535,131071] [] HN [43,44,45,46,47,48,49,50,51,52,53,54,55,56,57,58,59]) (Sq (.flt [0,1,3,7,15,0,32,96,224,511,1023,0,2048,6144,14336,30720,65535,131071] [] HM [60,61,62,63,64,65,66,67,68,69,70,71,72,73,74,75,76]) (.flt [0,0,0,4,12,28,62,0,254,0,512,1536,3584,8190,16383,32767] [] HK [9,10,77,78,79,80,81,82,83,84,85,86,87,88,89,90,91]))))) (.ops HJ)))
def xQ:RC:=yM
def HI:La:=[on 92 (.lit 1 []),om 93 4,oo 94 (.app [.int .u32 0] 4 (.t 92) (.t 93)) [92,93],Wa 11 94]
def HH:La:=[Wj 12 0]
def HG:La:=[om 95 12,Wb 96 .lss 95 64]
def HF:Lb:=[Fm 0 99 11,WB 1 100 1 99 0,Wc 2 101 100,Fm 3 102 11,WB 4 103 1 102 4,Wc 5 104 103,Fm 6 13 101,Fm 7 14 104]
def HE:Lb:=[Fm 0 105 11,WB 1 106 1 105 7,Wc 2 107 106,Fm 3 108 14,Fm 5 110 14,Fm 8 113 14,Fm 12 117 14,Fm 13 118 11,WB 14 119 1 118 5,Wc 15 120 119,Wg 16 121 .and 117 120,Fm 17 122 14,Fs 18 123 (.un .xor (.t 122)),Fm 19 124 11,WB 20 125 1 124 6,Wc 21 126 125,Wg 22 127 .and 123 126,Wg 23 128 .xor 121 127,Fm 25 130 12,WG 26 131 3 130,Wc 27 132 131,Fm 29 134 12,WG 30 135 7 134,Wc 31 136 135,Fz 4 109 (Ca 118 [.t 108,(.c (.int .u64 6))]),Fz 6 111 (Ca 118 [.t 110,(.c (.int .u64 11))]),Wg 7 112 .xor 109 111,Fz 9 114 (Ca 118 [.t 113,(.c (.int .u64 25))]),Wg 10 115 .xor 112 114,Wg 11 116 .add 107 115,Wg 24 129 .add 116 128,Wg 28 133 .add 129 132,Wg 32 137 .add 133 136,Fm 33 15 137]
def HD:Lb:=[Fm 0 138 13,Fm 2 140 13,Fm 5 143 13,Fm 8 146 13,Fm 9 147 11,WB 10 148 1 147 1,Wc 11 149 148,Wg 12 150 .and 146 149,Wt 13 151,Fm 14 152 11,WB 15 153 1 152 2,Wc 16 154 153,Wg 17 155 .and 151 154,Wg 18 156 .xor 150 155,Fm 19 157 11,WB 20 158 1 157 1,Wc 21 159 158,Fm 22 160 11,WB 23 161 1 160 2,Wc 24 162 161,Wg 25 163 .and 159 162,Wg 26 164 .xor 156 163,Fz 1 139 (Ca 118 [.t 138,(.c (.int .u64 2))]),Fz 3 141 (Ca 118 [.t 140,(.c (.int .u64 13))]),Wg 4 142 .xor 139 141,Fz 6 144 (Ca 118 [.t 143,(.c (.int .u64 22))]),Wg 7 145 .xor 142 144,Wg 27 165 .add 145 164,Fm 28 16 165]
def HC:Lb:=[Fm 0 166 15,Fm 1 167 16,Wg 2 168 .add 166 167,Fm 3 169 13,Fm 4 170 11,WB 5 171 1 170 1,Wc 6 172 171,Fm 7 173 11,WB 8 174 1 173 2,Wc 9 175 174,Fm 10 176 11,WB 11 177 1 176 3,Wc 12 178 177,Fm 13 179 15,Wg 14 180 .add 178 179,Fm 15 181 14,Fm 16 182 11,WB 17 183 1 182 5,Wc 18 184 183,Fm 19 185 11,WB 20 186 1 185 6,Wc 21 187 186,Fs 22 188 (.lit 1 [.t 168,.t 169,.t 172,.t 175,.t 180,.t 181,.t 184,.t 187]),⟨23,false,(xm 11 188)⟩]
def HB:La:=[Wa 97 12,Wb 98 .add 97 1,Wa 12 98]
def yL:RC:=(Sq (So HG (Xv 96 [7,12,96] (.exit 4))) (Sq (Bk 5 (Sq (.flt [0,1,3,0,8,24,7,127] [] HF [99,100,101,102,103,104]) (Sq (.flt [0,1,3,0,8,0,56,120,0,376,1016,2047,0,0,8192,24576,61440,0,131072,0,524288,1572864,4063232,8384512,16777215,0,33554432,100663296,268435455,0,536870912,1610612736,4294967295,8589934591] [] HE [105,106,107,108,109,110,111,112,113,114,115,116,117,118,119,120,121,122,123,124,125,126,127,128,129,130,131,132,133,134,135,136,137]) (Sq (.flt [0,1,0,7,15,0,47,127,0,0,512,1536,3840,0,0,16384,49152,122880,261888,0,524288,1572864,0,4194304,12582912,33030144,67108608,134217727,268435455] [] HD [138,139,140,141,142,143,144,145,146,147,148,149,150,151,152,153,154,155,156,157,158,159,160,161,162,163,164,165]) (.flt [0,0,3,0,0,16,48,0,128,384,0,1024,3072,0,15360,0,0,65536,196608,0,524288,1572864,4194303,8388607] [] HC [13,14,15,16,166,167,168,169,170,171,172,173,174,175,176,177,178,179,180,181,182,183,184,185,186,187,188]))))) (.ops HB)))
def xP:RC:=yL
def xO:La:=[Wj 17 0]
def Hz:La:=[om 189 17,Wb 190 .lss 189 8]
def Hy:Lb:=[Fm 0 193 4,Fm 1 194 17,Wr 2 195 1 193 194,Wc 3 196 195,Fm 4 197 11,Fm 5 198 17,Wr 6 199 1 197 198,Wc 7 200 199,Wg 8 201 .add 196 200,Wr 9 202 1 193 194,Fr 10 1 202 201]
def Hx:La:=[Wa 191 17,Wb 192 .add 191 1,Wa 17 192]
def yK:RC:=(Sq (So Hz (Xv 190 [11,17,190] (.exit 6))) (Sq (Bk 7 (.flt [0,0,3,7,0,0,48,112,255,511,1023] [] Hy [193,194,195,196,197,198,199,200,201,202])) (.ops Hx)))
def xN:RC:=yK
def Hw:La:=[Wa 26 6,Wb 27 .add 26 64,Wa 6 27]
def yJ:RC:=(.post (Sq (So U4 (Xv 25 [3,5,6,25] (.exit 0))) (Sq (Bk 1 (So U3 (Sq (So qm (Bk 2 (.loop xQ))) (So HI (Sq (So HH (Bk 4 (.loop xP))) (So xO (Bk 6 (.loop xN)))))))) (.ops Hw))) [.gc [107,194]])
def xM:RC:=yJ
def Hv:La:=[Wa 203 4,Wn 204 119 203,Wa 2 204]
def r65:RC:=(So lX (So U7 (So U6 (So U5 (Sq (So nM (Bk 0 (.loop xM))) (So Hv .ret))))))
def F65:FnC:=⟨r65,205,[.tmp 2],[],[]⟩
def Pq:La:=[WH 1 0,oo 2 (.mov (.c (.lst 1 [] .clip))) [2]]
def Pp:La:=[on 3 (.mov (.c (.lst 1 [] .clip)))]
def U0:La:=[om 7 5,We 8 3 1,Wd 9 8,Wm 10 9,Wf 11 .lss 7 10]
def UZ:La:=[We 14 3 1,Wd 15 14,om 16 5,WT 17 1 15 16,Wd 18 17,Wa 6 18]
def UY:La:=[om 19 6,oo 20 (.bin .eql (.t 19) (.c (.u8 10))) [19]]
def UX:La:=[om 21 4,Wm 22 21,Wb 23 .eql 22 0,Wa 24 23,.grp 24 false [(xi 25 24 false (Mv 3)),(xi 26 24 false (Ln 25)),(xi 27 24 false (Bc .geq 26 4))] [25,26],Wi 28 24 27]
def wt:La:=[on 2 (.mov (.c (.lst 1 [] .clip)))]
def UW:La:=[Wa 29 3,Wa 30 4,WY 31 1 30,oo 32 (.app [.byt [] .clip] 24 (.t 29) (.t 31)) [29,31],Wa 3 32]
def Hu:La:=[om 33 6,Xc 34 .lss 33,Wa 35 34,.grp 35 false [(xi 36 35 false (Mv 6)),(xi 37 35 false (.bin .gtr (.t 36) (.c (.u8 126))))] [36],Wi 38 35 37]
def Ht:La:=[Wa 39 4,Wa 40 6,WX 41 40,WC 42 1 39 41,Wa 4 42]
def Hs:La:=[Wa 12 5,Wb 13 .add 12 1,Wa 5 13]
def yI:RC:=(.post (Sq (So U0 (Xv 11 [1,5,11] (.exit 0))) (Sq (Bk 1 (So UZ (Sq (So UY (Xw 20 [6,20] (Sq (So UX (Xw 28 [1,3,4,5,28] (So wt .ret))) (So UW (So io (.exit 1)))))) (Sq (So Hu (Xw 38 [1,3,4,5,6,38] (So wt .ret))) (.ops Ht))))) (.ops Hs))) [.tok 3 103,.tok 4 104])
def xL:RC:=yI
def Hr:La:=[Wa 43 4,Wm 44 43,Wb 45 .gtr 44 0]
def Hq:La:=[Wa 46 3,Wa 2 46]
def r70:RC:=(So Pq (So Pp (So io (Sq (So lM (Bk 0 (.pre [.tok 3 103,.tok 4 104] (.loop xL)))) (Sq (So Hr (Xw 45 [3,45] (So wt .ret))) (So Hq .ret))))))
def F70:FnC:=⟨r70,47,[.tmp 2],[],[]⟩
def UV:Lb:=[Wt 0 5,Wu 1 6 5,Wh 2 7 1 6,Wc 3 8 7,Fm 4 9 0,Wu 5 10 9,Wh 6 11 0 10,Wc 7 12 11,Fs 8 13 (Ln 12),Wg 9 14 .geq 8 13]
def UU:La:=[om 15 0,W4 16 15,Wo 17 1 16,Wd 18 17,Wb 19 .add 18 1,Wx 20 15,Wo 21 1 20,Wq 1 21 19]
def UT:Lb:=[Wt 0 22,Wu 1 23 22,Wh 2 24 0 23,Wc 3 25 24,Fm 4 26 0,Wu 5 27 26,Wh 6 28 1 27,Wc 7 29 28,Ws 8 30 .sub 29 1,Wr 9 31 1 25 30,Wc 10 32 31,Xe 11 33 32,Fm 12 34 1,Wg 13 35 .rem 33 34,Fm 14 4 35]
def r71:RC:=(So ny (Sq (Sq (.flt [0,1,3,7,0,16,48,112,240,511] [] UV [5,6,7,8,9,10,11,12,13]) (Xw 14 [0,1,14] (So jL .ret))) (So UU (Sq (.flt [0,1,3,7,0,16,48,112,240,511,1023,2047,0,8191,16383] [] UT [0,1,22,23,24,25,26,27,28,29,30,31,32,33,34,35]) .ret))))
def F71:FnC:=⟨r71,36,[.tmp 4],[],[]⟩
def US:La:=[WU 4]
def UR:Lb:=[Fm 0 7 1,Fm 2 9 0,Fm 5 12 0,Fz 1 8 (Ca 122 []),WI 3 10 71 9 5,Fs 4 11 (.idxA 5 1 false (.t 8) (.t 10)),WI 6 13 71 12 5,Fs 7 14 (.build Zq0 [(0,1,(.t 7)),(1,1,(.t 11)),(2,1,(.t 13))]),Fz 8 5 (.new (.rc Zq0)),Fr 9 4 5 14]
def UQ:La:=[om 15 0,Wp 16 71 15 9,Wb 17 .eql 16 8]
def UP:La:=[om 18 0,Wp 19 71 18 3,WN 20 .sub 1000000 19,We 21 2 5,Wq 1 21 20]
def UO:La:=[Wa 22 1,Wb 23 .eql 22 4]
def UN:La:=[Wa 24 0,Wn 25 123 24,We 26 3 5,Wq 1 26 25]
def UM:La:=[WA 27 4 5,Sr 4 4 27 [27]]
def UL:La:=[om 28 0,Wp 29 71 28 7,oo 30 (.mkB (.t 29) (.t 29)) [29],We 31 3 5,Wq 1 31 30]
def UK:La:=[om 32 6,We 33 3 5,Wd 34 33,Wm 35 34,Wf 36 .lss 32 35]
def Hp:Lb:=[Wh 0 39 3 5,Wc 1 40 39,Fm 2 41 6,Fm 3 42 0,WI 4 43 71 42 256,W3 5 44 43,Wr 6 45 1 40 41,Fr 7 1 45 44]
def yH:RC:=(Sq (So UK (Xv 36 [0,6,36] (.exit 0))) (Sq (Bk 1 (.flt [0,1,0,0,8,24,63,127] [] Hp [39,40,41,42,43,44,45])) (.ops Ps)))
def tJ:RC:=yH
def Ho:La:=[WA 46 4 5,Sr 4 4 46 [46]]
def r72:RC:=(So US (Sq (.fla [0,0,0,6,14,0,46,127,0,511] [105] UR [[0,2,5,1,3,4,6,7,8,9],[0,2,5,1,3,4,8,6,7,9],[0,2,5,1,8,3,4,6,7,9],[0,2,5,8,1,3,4,6,7,9]] [7,8,9,10,11,12,13,14]) (Sq (So UQ (Xw 17 [17] (.ops UP))) (Sq (So UO (Xw 23 [23] (So UN (So UM .ret)))) (So UL (Sq (So nM (Bk 0 (.loop tJ))) (So Ho .ret)))))))
def F72:FnC:=⟨r72,47,[.cell 4 4 true],[],[]⟩
def UJ:La:=[on 4 (.build [.str [],.str [],.str [],.str [],.str [],.str []] [(0,1,(.c (.str [97,61,49]))),(1,1,(.c (.str [99,111,117,110,116,61,53]))),(2,1,(.c (.str [99,111,117,110,116,61,49,55]))),(3,1,(.c (.str [104,111,115,116,61,120]))),(4,1,(.c (.str [109,111,100,101,32,98]))),(5,1,(.c (.str [126])))]),on 3 (.new (.arr 1 (ao 6 [.str []]))),Wv 6 3 4]
def UI:La:=[Wa 5 0,Wp 6 71 5 6,oo 7 (.iaddrA 6 1 (.t 3) (.t 6)) [3,6],Wd 8 7,W9 9 8,Wa 2 9]
def r73:RC:=(So lX (So UJ (So UI .ret)))
def F73:FnC:=⟨r73,10,[.tmp 2],[],[]⟩
def Po:La:=[om 6 0,Wm 7 6,Wj 8 0]
def Ea:La:=[on 9 (Bb .lss 8 7)]
def Pn:La:=[om 10 8,Wa 5 10]
def Pm:La:=[om 11 1,om 12 0,om 13 5,WT 14 4 12 13,WA 15 4 14,oo 16 (.call (.t 11) [.t 15]) [11,15]]
def Pk:La:=[Wa 17 5,Wa 4 17]
def Pj:La:=[Wb 18 .add 8 1,Wa 8 18]
def PW:RC:=(So Ea (Sq (Xv 9 [0,1,7,8,9] (.exit 0)) (Sq (Bk 1 (So Pn (So Pm (Kc 16 (Kk [0,1,7,8,16] (So Pk .ret)) (Kk [5,16] .skip))))) (.ops Pj))))
def Pi:RC:=PW
def r75:RC:=(So ny (Sq (So Po (Bk 0 (.loop Pi))) (So oy .ret)))
def F75:FnC:=⟨r75,19,[.tmp 4],[],[]⟩
def Ph:La:=[WH 2 0,oo 3 (Mb false) [3]]
def UH:Lb:=[Wh 0 4 0 1,Wc 1 5 4,Wh 2 6 0 2,Wc 3 7 6,Fz 4 8 (Ca 33 [.t 7]),Wg 5 9 .eql 5 8,Fm 6 10 9,Fi 7 11 10 true (Fa 2 1),Fi 8 12 10 true (Ld 11),Fi 9 13 10 true (Ln 12),Fi 10 14 10 true (Bc .gtr 13 1),Fs 11 15 (Pf 10 14),Fm 12 16 15,Fi 13 17 16 true (Fa 2 1),Fi 14 18 16 true (Ld 17),Fi 15 19 16 true (.iaddrL 1 (.t 18) (ci 1)),Fi 16 20 16 true (Ld 19),Fi 17 21 16 true (Fa 3 2),Fi 18 22 16 true (Ld 21),Fy 19 23 16 true (Ca 77 [.t 20,.t 22]),Fs 20 24 (Pf 16 23),Fm 21 25 24,Fi 22 26 25 true (Fa 3 1),Fi 23 27 25 true (Ld 26),Fi 24 28 25 true (.b2s (.t 27)),Fi 25 29 25 true (Fa 1 2),Fi 26 30 25 true (Ld 29),Fi 27 31 25 true (.bin .add (.t 30) (.c (.str [32]))),Fi 28 32 25 true (Fa 2 2),Fi 29 33 25 true (Ld 32),Fy 30 34 25 true (Ca 78 [.t 33]),Fi 31 35 25 true (Bb .add 31 34),Fi 32 36 25 true (Bb .eql 28 35),Fs 33 37 (Pf 25 36),Fm 34 3 37]
def r76:RC:=(So Ph (Sq (.flt [0,1,0,4,12,31,63,127,255,511,1023,2047,4095,8191,16383,32767,65535,8191,139263,524287,1048575,2097151,4194303,8388607,16777215,4194303,37748735,104857599,4194303,272629759,809500671,2118123519,4294967295,8589934591,17179869183] [] UH [1,2,4,5,6,7,8,9,10,11,12,13,14,15,16,17,18,19,20,21,22,23,24,25,26,27,28,29,30,31,32,33,34,35,36,37]) .ret))
def F76:FnC:=⟨r76,38,[.tmp 3],[],[]⟩
def UG:La:=[Wa 5 0,WQ 6 5,Wa 7 1,WQ 8 7,Wf 9 .eql 6 8,Wa 4 9]
def r77:RC:=(So oB (So UG .ret))
def F77:FnC:=⟨r77,10,[.tmp 4],[],[]⟩
def D9:La:=[oo 2 (.mov (.c (.str []))) [2]]
def UF:La:=[Wa 3 0,Wn 4 124 3,Wa 2 4]
def r78:RC:=(So D9 (So UF .ret))
def F78:FnC:=⟨r78,5,[.tmp 2],[],[]⟩
def UE:La:=[WH 1 0,oo 2 (Mb false) [2]]
def UD:La:=[We 8 1 1,Wd 9 8,Wb 10 .neq 9 1,Wa 11 10,.grp 11 true [(xi 12 11 true (Fa 1 1)),(xi 13 11 true (Ld 12)),(xi 14 11 true (Bc .neq 13 5))] [12,13],Ww 15 11 14,Wa 3 15]
def UC:La:=[We 16 1 1,Wd 17 16]
def UB:La:=[WD 19 .eql 17 1,Wa 18 19]
def UA:La:=[WD 21 .eql 17 2,Wa 20 21]
def Uz:Lb:=[Wh 0 22 3 1,Wc 1 23 22,Fz 2 24 (.mkB (ci 4) (ci 4)),WM 3 25 77 23 24,Fs 4 26 (.un .not (.t 25))]
def Uy:La:=[WD 28 .eql 17 3,Wa 27 28]
def Ux:La:=[We 29 3 1,Wd 30 29,Wm 31 30,Wb 32 .eql 31 0]
def Hn:La:=[We 33 3 1,Wd 34 33,on 35 (Ln 34),Wj 36 0]
def Hm:La:=[on 37 (Bb .lss 36 35)]
def Hl:La:=[on 38 (Ia 1 34 36),Wd 39 38,Wa 5 39]
def Hk:La:=[om 40 5,Xc 41 .lss 40,Wa 42 41,.grp 42 false [(xi 43 42 false (Mv 5)),(xi 44 42 false (.bin .gtr (.t 43) (.c (.u8 126))))] [5,43],Wi 45 42 44]
def Hj:La:=[Wb 46 .add 36 1,Wa 36 46]
def yG:RC:=(So Hm (Sq (Xv 37 [34,35,36,37] (.exit 1)) (Sq (Bk 2 (So Hl (So Hk (Xw 45 [1,3,34,35,36,45] (So nu .ret))))) (.ops Hj))))
def xK:RC:=yG
def Hi:La:=[WD 48 .eql 17 4,Wa 47 48]
def Hh:La:=[Wb 49 .eql 17 5,Wa 47 49]
def Hg:La:=[We 50 2 1,Wd 51 50,Wm 52 51,oo 53 (.mini (.t 52) (ci 2)) [52],Wj 54 0]
def Hf:La:=[on 55 (Bb .lss 54 53)]
def He:La:=[om 56 54,Wa 6 56]
def Hd:La:=[We 57 2 1,Wd 58 57,om 59 6,WT 60 1 58 59,Wd 61 60,Wa 7 61]
def Hc:La:=[om 62 7,Wm 63 62,Wb 64 .gtr 63 0,Wa 65 64,.grp 65 true [(xi 66 65 true (Mv 3)),(xi 67 65 true (.un .not (.t 66))),(xi 68 65 true (Mv 67))] [66,67],.grp 68 false [(xi 69 68 false (Mv 7)),(xi 70 68 false (Mv 6)),(xi 71 68 false (Fa 3 1)),(xi 72 68 false (Ld 71)),(xi 73 68 false (Ca 90 [.t 70,.t 72])),(xi 74 68 false (Ca 77 [.t 69,.t 73])),(xi 75 68 false (.un .not (.t 74)))] [6,7,69,70,71,72,73,74],.grp 65 true [(xi 76 65 true (Pt 68 75))] [68,75],Ww 77 65 76]
def Hb:La:=[Wb 78 .add 54 1,Wa 54 78]
def yF:RC:=(So Hf (Sq (Xv 55 [1,3,53,54,55] (.exit 3)) (Sq (Bk 4 (So He (So Hd (So Hc (Xw 77 [1,3,53,54,77] (So nu .ret)))))) (.ops Hb))))
def xJ:RC:=yF
def r79:RC:=(So UE (So UD (Sq (So UC (Bk 0 (So UB (Kc 18 (Kk [1,3,17,18] (So qe .ret)) (Kk [18] (So UA (Kc 20 (Kk [17,20] (Sq (.flt [0,1,0,7,15] [124] Uz [22,23,24,25]) (Xw 26 [1,3,26] (So nu .ret)))) (Kk [20] (So Uy (Kc 27 (Kk [17,27] (Sq (So Ux (Xw 32 [1,3,32] (So nu .ret))) (So Hn (Bk 1 (.loop xK))))) (Kk [27] (Sq (So Hi (Kc 47 (Kk [17] .skip) (Kk [47] (.ops Hh)))) (Xv 47 [1,3,47] (So nu .ret)))))))))))))) (Sq (So Hg (Bk 3 (.loop xJ))) (So qe .ret)))))
def F79:FnC:=⟨r79,79,[.tmp 2],[],[]⟩
def PV:RC:=(So Ea (Sq (Xv 9 [0,1,7,8,9] (.exit 0)) (Sq (Bk 1 (So Pn (So Pm (Kc 16 (Kk [0,1,7,8,16] (So Pk .ret)) (Kk [5,16] .skip))))) (.ops Pj))))
def Pg:RC:=PV
def r80:RC:=(So ny (Sq (So Po (Bk 0 (.loop Pg))) (So oy .ret)))
def F80:FnC:=⟨r80,19,[.tmp 4],[],[]⟩
def Uw:La:=[oo 4 (Lt 4 2) [2],Wo 5 3 1,Wd 6 5,Wz 7 35 4 6,Wa 3 7]
def r81:RC:=(So Ph (So Uw .ret))
def F81:FnC:=⟨r81,8,[.tmp 3],[],[]⟩
def Pe:La:=[Wa 3 0]
def Uv:La:=[WD 5 .eql 3 1,Wa 4 5]
def Uu:La:=[WD 7 .eql 3 2,Wa 6 7]
def Ut:La:=[WD 9 .eql 3 3,Wa 8 9]
def Us:La:=[Wj 2 8]
def Ur:La:=[Wb 11 .eql 3 4,Wa 10 11]
def Uq:La:=[Wj 2 9]
def r82:RC:=(So jm (Sq (So Pe (Bk 0 (So Uv (Kc 4 (Kk [3,4] (So i0 .ret)) (Kk [4] (So Uu (Kc 6 (Kk [3,6] (So oE .ret)) (Kk [6] (So Ut (Kc 8 (Kk [3,8] (So Us .ret)) (Kk [8] (So Ur (Xw 10 [10] (So Uq .ret)))))))))))))) (So wv .ret)))
def F82:FnC:=⟨r82,12,[.tmp 2],[],[]⟩
def Pd:La:=[om 3 0,Wb 4 .lss 3 10]
def Up:La:=[Wa 5 0,WN 6 .add 48 5,WE 7 6,WX 8 7,Wa 2 8]
def Uo:La:=[om 9 0,Wb 10 .quo 9 10,Wn 11 85 10,Wa 12 0,Wb 13 .rem 12 10,WN 14 .add 48 13,WE 15 14,WX 16 15,WC 17 1 11 16,Wa 2 17]
def r85:RC:=(So lX (Sq (So Pd (Xw 4 [4] (So Up .ret))) (So Uo .ret)))
def F85:FnC:=⟨r85,18,[.tmp 2],[0],[]⟩
def Un:La:=[Wj 5 0,Wj 6 0,Wj 7 (-1),Wj 8 0]
def Um:La:=[om 9 6,om 10 1,Wm 11 10,Wf 12 .lss 9 11]
def Ul:La:=[om 14 5,om 15 0,WF 16 true 15,Wf 17 .lss 14 16,Wa 18 17,.grp 18 true [(xi 19 18 true (Mv 0)),(xi 20 18 true (Mv 5)),(xi 21 18 true (.idxS (.t 19) (.t 20))),(xi 22 18 true (.bin .eql (.t 21) (.c (.u8 42))))] [19,20,21],Ww 23 18 22,Wa 13 23]
def Uk:La:=[om 24 5,om 25 6,Wa 26 5,Wb 27 .add 26 1,Wa 7 24,Wa 8 25,Wa 5 27]
def Uj:Lb:=[Fm 0 29 5,Fm 1 30 0,Fs 2 31 (.len true (.t 30)),Wg 3 32 .lss 29 31,Fm 4 33 32,Wy 5 34 33 true 0,Wy 6 35 33 true 5,Fi 7 36 33 true (.idxS (.t 34) (.t 35)),Fi 8 37 33 true (.bin .eql (.t 36) (.c (.u8 63))),Wy 9 38 33 true 37,Wy 10 39 38 false 0,Wy 11 40 38 false 5,Fi 12 41 38 false (.idxS (.t 39) (.t 40)),Wy 13 42 38 false 1,Wy 14 43 38 false 6,Fi 15 44 38 false (Ia 1 42 43),Fi 16 45 38 false (Ld 44),Fi 17 46 38 false (Bb .eql 41 45),Fi 18 47 33 true (Pt 38 46),Fs 19 48 (Pf 33 47),Fm 20 28 48]
def Ui:La:=[Wa 49 5,Wb 50 .add 49 1,Wa 51 6,Wb 52 .add 51 1,Wa 5 50,Wa 6 52]
def Uh:La:=[om 54 7,Wb 55 .geq 54 0,Wa 53 55]
def Ug:La:=[om 56 7,Wb 57 .add 56 1,om 58 8,Wb 59 .add 58 1,Wa 60 8,Wb 61 .add 60 1,Wa 5 57,Wa 6 59,Wa 8 61]
def yE:RC:=(Sq (So Um (Xv 12 [1,6,7,8,12] (.exit 0))) (Bk 1 (Bk 2 (So Ul (Kc 13 (Kk [7,8,13] (.ops Uk)) (Kk [13] (Sq (.flt [0,0,2,7,15,31,31,127,255,511,1023,1023,4095,1023,1023,25599,58367,131071,262143,524287,1048575] [] Uj [29,30,31,32,33,34,35,36,37,38,39,40,41,42,43,44,45,46,47,48]) (Kc 28 (Kk [28] (.ops Ui)) (Kk [5,6,28] (So Uh (Kc 53 (Kk [53] (.ops Ug)) (Kk [0,1,7,8,53] (So oC .ret)))))))))))))
def xI:RC:=yE
def Ha:La:=[Wa 62 0,Wa 63 5,oo 64 (.slcS (.t 62) (some (.t 63)) none) [62,63],oo 65 (Ca 127 [.t 64,(.c (.str [42]))]) [64],oo 66 (.bin .eql (.t 65) (.c (.str []))) [65],Wa 4 66]
def r86:RC:=(So oB (So Un (Sq (Bk 0 (.loop xI)) (So Ha .ret))))
def F86:FnC:=⟨r86,67,[.tmp 4],[],[]⟩
def Pc:La:=[oo 4 (.mov (.c (.str []))) [4],oo 5 (Mb false) [5]]
def Uf:La:=[Wa 6 0,Wa 7 1,Wz 8 128 6 7,WK 9 8 0,WL 10 8 1,Wa 4 9,Wa 5 10]
def r87:RC:=(So Pc (So Uf .ret))
def F87:FnC:=⟨r87,11,[.tmp 4,.tmp 5],[],[]⟩
def Ue:La:=[om 6 0,oo 7 (.bin .eql (.t 6) (.c (.str []))) [6],Wa 8 7,.grp 8 false [(xi 9 8 false (Mv 0)),(xi 10 8 false (.len true (.t 9))),(xi 11 8 false (Bc .gtr 10 10))] [9,10],Wi 12 8 11,Wa 13 12,.grp 13 false [(xi 14 13 false (Mv 0)),(xi 15 13 false (.len true (.t 14))),(xi 16 13 false (Bc .gtr 15 1)),(xi 17 13 false (Mv 16))] [14,15,16],.grp 17 true [(xi 18 17 true (Mv 0)),(xi 19 17 true (.idxS (.t 18) (ci 0))),(xi 20 17 true (.bin .eql (.t 19) (.c (.u8 48))))] [18,19],.grp 13 false [(xi 21 13 false (Pf 17 20))] [17,20],Wi 22 13 21]
def Ud:La:=[om 23 0,WF 24 true 23,Wj 25 0]
def Uc:La:=[on 26 (Bb .lss 25 24)]
def Ub:La:=[om 27 25,Wa 3 27]
def Ua:La:=[om 28 0,om 29 3,Xi 30 28 29,oo 31 (.bin .lss (.t 30) (.c (.u8 48))) [30],Wa 32 31,.grp 32 false [(xi 33 32 false (Mv 0)),(xi 34 32 false (Mv 3)),(xi 35 32 false (.idxS (.t 33) (.t 34))),(xi 36 32 false (.bin .gtr (.t 35) (.c (.u8 57))))] [3,33,34,35],Wi 37 32 36]
def T9:La:=[Wb 38 .add 25 1,Wa 25 38]
def PU:RC:=(So Uc (Sq (Xv 26 [24,25,26] (.exit 0)) (Sq (Bk 1 (So Ub (So Ua (Xw 37 [0,24,25,37] (So wv .ret))))) (.ops T9))))
def Pb:RC:=PU
def G9:La:=[Wa 40 0,Wn 41 129 40,Wa 39 41,WK 42 39 0,WL 43 39 1,Wa 4 42,.op (xm 5 43) [5,43]]
def G8:La:=[Wa 44 4,Wa 2 44]
def r88:RC:=(So jm (Sq (So Ue (Xw 22 [0,22] (So wv .ret))) (Sq (So Ud (Bk 0 (.loop Pb))) (So G9 (So G8 .ret)))))
def F88:FnC:=⟨r88,45,[.tmp 2],[],[]⟩
def T8:La:=[We 4 0 1,Wd 5 4,Wb 6 .lss 5 1,Wa 7 6,.grp 7 false [(xi 8 7 false (Fa 0 1)),(xi 9 7 false (Ld 8)),(xi 10 7 false (Bc .gtr 9 4))] [8,9],Wi 11 7 10,Wa 12 11,.grp 12 false [(xi 13 12 false (Fa 2 1)),(xi 14 12 false (Ld 13)),(xi 15 12 false (Bc .lss 14 0))] [13,14],Wi 16 12 15,Wa 17 16,.grp 17 false [(xi 18 17 false (Fa 2 1)),(xi 19 17 false (Ld 18)),(xi 20 17 false (Bc .gtr 19 1000000))] [18,19],Wi 21 17 20,Wa 3 21]
def T7:La:=[We 23 1 1,Wd 24 23,Wn 25 130 24,WV 26 25,Wa 22 26]
def T6:La:=[We 28 3 1,Wd 29 28,Wm 30 29,Wb 31 .gtr 30 64,Wa 27 31]
def T5:La:=[We 33 0 1,Wd 34 33,Wb 35 .eql 34 4,Wa 36 35,.grp 36 true [(xi 37 36 true (Lt 4 1)),(xi 38 36 true (Ca 98 [.t 37])),(xi 39 36 true (Ln 38)),(xi 40 36 true (Bc .eql 39 0))] [1,37,38,39],Ww 41 36 40,Wa 32 41]
def Pa:La:=[Wj 2 40]
def r89:RC:=(So qU (Sq (Bk 0 (So T8 (Kc 3 (Kk [1,3] (So gP .ret)) (Kk [3] (So T7 (Kc 22 (Kk [1,22] (So qT .ret)) (Kk [22] (So T6 (Kc 27 (Kk [1,27] (So oE .ret)) (Kk [27] (So T5 (Xw 32 [32] (So Pa .ret))))))))))))) (So i0 .ret)))
def F89:FnC:=⟨r89,42,[.tmp 2],[],[]⟩
def T4:La:=[Wa 9 0]
def T3:La:=[WD 11 .eql 9 0,Wa 10 11]
def T2:La:=[on 12 (.build [.int .u32 0,.int .u32 0,.int .u32 0,.int .u32 0,.int .u32 0] [(0,1,(.c (.int .u32 1732584193))),(1,1,(.c (.int .u32 4023233417))),(2,1,(.c (.int .u32 2562383102))),(3,1,(.c (.int .u32 271733878))),(4,1,(.c (.int .u32 3285377520)))]),on 5 (.new (.arr 1 (ao 5 [.int .u32 0]))),Sr 5 5 12 [12]]
def T1:La:=[Wa 13 1,Wn 14 131 13,Wa 6 14]
def T0:La:=[om 15 6,Wm 16 15,Wb 17 .gtr 16 0]
def TZ:La:=[om 20 6,Xp 21 1 20 64,oo 22 (Ca 132 [.t 5,.t 21]) [21,22]]
def TY:La:=[Wa 18 6,oo 19 (.slcL 1 (.t 18) (some (ci 64)) none none) [18],Wa 6 19]
def PT:RC:=(Sq (So T0 (Xv 17 [6,17] (.exit 1))) (Sq (Bk 2 (.ops TZ)) (.ops TY)))
def O9:RC:=PT
def TX:La:=[oo 23 (.slcA 5 1 (.t 5) none none none) [5],Wn 24 133 23,Wa 4 24]
def G7:La:=[Wb 26 .eql 9 1,Wa 25 26]
def G6:La:=[on 27 (.build [.int .u32 0,.int .u32 0,.int .u32 0,.int .u32 0,.int .u32 0,.int .u32 0,.int .u32 0,.int .u32 0] [(0,1,(.c (.int .u32 1779033703))),(1,1,(.c (.int .u32 3144134277))),(2,1,(.c (.int .u32 1013904242))),(3,1,(.c (.int .u32 2773480762))),(4,1,(.c (.int .u32 1359893119))),(5,1,(.c (.int .u32 2600822924))),(6,1,(.c (.int .u32 528734635))),(7,1,(.c (.int .u32 1541459225)))]),on 7 (.new (.arr 1 (ao 8 [.int .u32 0]))),Wv 8 7 27]
def G5:La:=[Wa 28 1,Wn 29 131 28,Wa 8 29]
def G4:La:=[om 30 8,Wm 31 30,Wb 32 .gtr 31 0]
def G3:La:=[om 35 8,Xp 36 1 35 64,oo 37 (Ca 134 [.t 7,.t 36]) [36,37]]
def G2:La:=[Wa 33 8,oo 34 (.slcL 1 (.t 33) (some (ci 64)) none none) [33],Wa 8 34]
def yD:RC:=(Sq (So G4 (Xv 32 [8,32] (.exit 3))) (Sq (Bk 4 (.ops G3)) (.ops G2)))
def xH:RC:=yD
def G1:La:=[oo 38 (.slcA 8 1 (.t 7) none none none) [7],Wn 39 133 38,Wa 4 39]
def r90:RC:=(So jK (Sq (So T4 (Bk 0 (So T3 (Kc 10 (Kk [9,10] (So T2 (Sq (So T1 (Bk 1 (.loop O9))) (So TX .ret)))) (Kk [10] (So G7 (Kc 25 (Kk [25] (So G6 (Sq (So G5 (Bk 3 (.loop xH))) (So G1 .ret)))) (Kk [1,25] .skip)))))))) (So io .ret)))
def F90:FnC:=⟨r90,40,[.tmp 4],[],[]⟩
def TW:La:=[on 4 (Lt 4 1),Wn 5 89 4,Wb 6 .neq 5 0]
def TV:La:=[We 7 0 1,Wd 8 7,oo 9 (Ca 48 [(.c (.byt [] .clip)),ci 1,.t 8]) [8],Wa 3 9]
def TU:La:=[Wa 10 3,We 11 2 1,Wd 12 11,WW 13 48 10 4 12,Wa 3 13]
def TT:La:=[Wa 14 3,We 15 1 1,Wd 16 15,W9 17 16,Wz 18 49 14 17,Wa 3 18]
def TS:La:=[Wa 19 3,Wo 20 3 1,Wd 21 20,Wz 22 49 19 21,Wa 2 22]
def r91:RC:=(So tN (Sq (So TW (Xw 6 [1,6] (So tM .ret))) (So TV (So TU (So TT (So TS .ret))))))
def F91:FnC:=⟨r91,23,[.tmp 2],[],[]⟩
def TR:La:=[om 5 0,Wm 6 5,Wa 4 6]
def TQ:La:=[Wa 7 0,om 8 4,Wa 9 4,WO 10 9,Wn 11 136 10,Wa 12 1,oo 13 (Ca 135 [.t 7,ci 0,.t 8,.t 11,.t 12]) [7,8,11,12,13]]
def r92:RC:=(So TR (.ops TQ))
def F92:FnC:=⟨r92,14,[],[],[]⟩
def TP:La:=[oo 4 (.mov (.c (.lst 4 [] .clip))) [4]]
def TO:La:=[om 8 0,Wm 9 8,Wb 10 .lss 9 2]
def TN:La:=[Wa 11 0,Wa 4 11]
def TL:La:=[om 12 5,om 13 0,Wm 14 13,Wf 15 .lss 12 14]
def TK:Lb:=[Fm 0 18 1,Fm 1 19 0,Fm 2 20 5,Wr 3 21 4 19 20,Fs 4 22 (Lt 4 21),Fm 5 23 0,Fm 6 24 5,Ws 7 25 .sub 24 1,Wr 8 26 4 23 25,Fs 9 27 (Lt 4 26),Fz 10 28 (.call (.t 18) [.t 22,.t 27])]
def TJ:La:=[om 29 0,om 30 5,Xr 31 4 29 30,Wa 6 31]
def TI:La:=[Wj 7 1]
def TH:La:=[om 32 7,om 33 6,Wm 34 33,Wf 35 .lss 32 34]
def TG:Lb:=[Fm 0 38 1,Fm 1 39 6,Fm 2 40 7,Wr 3 41 4 39 40,Fs 4 42 (Lt 4 41),Fm 5 43 6,Fm 6 44 7,Ws 7 45 .sub 44 1,Wr 8 46 4 43 45,Fs 9 47 (Lt 4 46),Fz 10 48 (.call (.t 38) [.t 42,.t 47]),Fs 11 49 (.un .not (.t 48))]
def GZ:La:=[om 50 0,om 51 5,om 52 6,om 53 7,WT 54 4 52 53,WA 55 4 54,WT 56 4 50 51,Wq 4 56 55]
def GY:La:=[Wa 57 5,Wb 58 .add 57 1,Wa 5 58]
def GX:La:=[Wa 36 7,Wb 37 .add 36 1,Wa 7 37]
def yC:RC:=(Sq (So TH (Xv 35 [1,6,7,35] (.exit 2))) (Sq (Bk 3 (Sq (.flt [0,0,0,6,14,0,0,64,224,480,1023,2047] [] TG [38,39,40,41,42,43,44,45,46,47,48]) (Xw 49 [49] (So GZ (.ops GY))))) (.ops GX)))
def xG:RC:=yC
def GV:La:=[om 59 0,om 60 5,Xr 61 4 59 60,.op ⟨none,none,.clr [.int .i64 0,.str [],.int .i64 0,(.byt [] .no)] (.t 61)⟩ [61]]
def GU:La:=[Wa 62 0,Wa 63 5,Xh 64 4 62 63,Wa 4 64]
def xF:La:=[Wa 16 5,Wb 17 .add 16 1,Wa 5 17]
def yB:RC:=(Sq (So TL (Xv 15 [1,5,15] (.exit 0))) (Sq (Bk 1 (Sq (.flt [0,0,0,6,14,0,0,64,224,480,1023] [] TK [18,19,20,21,22,23,24,25,26,27]) (Xw 28 [28] (So TJ (Sq (So TI (Bk 2 (.loop xG))) (So GV (So GU .ret))))))) (.ops xF)))
def tI:RC:=yB
def GT:La:=[Wa 65 0,Wa 4 65]
def r93:RC:=(So TP (Sq (So TO (Xw 10 [1,10] (So TN .ret))) (Sq (So PH (Bk 0 (.loop tI))) (So GT .ret))))
def F93:FnC:=⟨r93,66,[.tmp 4],[],[0]⟩
def TF:La:=[WA 5 4 2,WA 6 4 3,Wz 7 43 5 6,Wb 8 .eql 7 0,Wa 4 8]
def r94:RC:=(So Ec (So TF .ret))
def F94:FnC:=⟨r94,9,[.tmp 4],[],[]⟩
def TE:La:=[on 4 (Lt 4 1),Wn 5 100 4,Wb 6 .neq 5 0]
def TD:La:=[We 7 0 1,Wd 8 7,oo 9 (Ca 57 [(.c (.byt [] .clip)),ci 1,.t 8]) [8],Wa 3 9]
def TC:La:=[Wa 10 3,We 11 2 1,Wd 12 11,WW 13 57 10 4 12,Wa 3 13]
def TB:La:=[Wa 14 3,We 15 1 1,Wd 16 15,W9 17 16,Wz 18 56 14 17,Wa 3 18]
def TA:La:=[Wa 19 3,Wo 20 3 1,Wd 21 20,Wz 22 56 19 21,Wa 2 22]
def r95:RC:=(So tN (Sq (So TE (Xw 6 [1,6] (So tM .ret))) (So TD (So TC (So TB (So TA .ret))))))
def F95:FnC:=⟨r95,23,[.tmp 2],[],[]⟩
def Tz:La:=[Wo 6 3 1,Wd 7 6,Wa 4 7]
def Ty:La:=[om 8 4,Wm 9 8,Wb 10 .gtr 9 0]
def Tx:La:=[om 11 4,oo 12 (Ca 138 [.t 11,(.c (.u8 10))]) [11],Wa 5 12]
def Tw:La:=[om 13 5,Wb 14 .lss 13 1,Wa 15 14,.grp 15 false [(xi 16 15 false (Mv 3)),(xi 17 15 false (Ln 16)),(xi 18 15 false (Bc .eql 17 4))] [16,17],Wi 19 15 18,Wa 20 19,.grp 20 false [(xi 21 20 false (Mv 4)),(xi 22 20 false (Mv 5)),(xi 23 20 false (.slcL 1 (.t 21) none (some (.t 22)) none)),(xi 24 20 false (Ca 139 [.t 23])),(xi 25 20 false (.un .not (.t 24)))] [21,22,23,24],Wi 26 20 25]
def Tu:La:=[Wa 27 3,om 28 4,om 29 5,om 30 5,oo 31 (.slcL 1 (.t 28) none (some (.t 29)) (some (.t 30))) [28,29,30],WY 32 1 31,oo 33 (.app [.byt [] .clip] 24 (.t 27) (.t 32)) [27,32],Wa 3 33]
def Tt:La:=[Wa 34 4,Wa 35 5,Wb 36 .add 35 1,Xr 37 1 34 36,Wa 4 37]
def PS:RC:=(.post (Sq (So Ty (Xv 10 [4,10] (.exit 0))) (Bk 1 (So Tx (Sq (So Tw (Xw 26 [3,4,5,26] (So wt .ret))) (So Tu (.ops Tt)))))) [.tok 3 103])
def D8:RC:=PS
def GS:La:=[Wa 38 3,Wa 2 38]
def r98:RC:=(So Pq (So Pp (Sq (So Tz (Bk 0 (.pre [.tok 3 103] (.loop D8)))) (So GS .ret))))
def F98:FnC:=⟨r98,39,[.tmp 2],[],[]⟩
def Ox:La:=[We 3 0 1,Wd 4 3,Wb 5 .lss 4 1,Wa 6 5,.grp 6 false [(xi 7 6 false (Fa 0 1)),(xi 8 6 false (Ld 7)),(xi 9 6 false (Bc .gtr 8 4))] [7,8],Wi 10 6 9,Wa 11 10,.grp 11 false [(xi 12 11 false (Fa 2 1)),(xi 13 11 false (Ld 12)),(xi 14 11 false (Bc .lss 13 0))] [12,13],Wi 15 11 14,Wa 16 15,.grp 16 false [(xi 17 16 false (Fa 2 1)),(xi 18 16 false (Ld 17)),(xi 19 16 false (Bc .gtr 18 1000000))] [17,18],Wi 20 16 19]
def Ow:La:=[We 21 1 1,Wd 22 21,Wn 23 45 22,WV 24 23]
def Ov:La:=[We 25 3 1,Wd 26 25,Wm 27 26,Wb 28 .gtr 27 64]
def Ou:La:=[We 29 0 1,Wd 30 29,Wb 31 .eql 30 4,Wa 32 31,.grp 32 true [(xi 33 32 true (Lt 4 1)),(xi 34 32 true (Ca 70 [.t 33])),(xi 35 32 true (Ln 34)),(xi 36 32 true (Bc .eql 35 0))] [1,33,34,35],Ww 37 32 36]
def xk0:RC:=(So qU (Sq (So Ox (Xw 20 [1,20] (So gP .ret))) (Sq (So Ow (Xw 24 [1,24] (So qT .ret))) (Sq (So Ov (Xw 28 [1,28] (So oE .ret))) (Sq (So Ou (Xw 37 [37] (So Pa .ret))) (So i0 .ret))))))
def xb4:FnC:=⟨xk0,38,[.tmp 2],[],[]⟩
def Ot:La:=[WH 2 0,oo 4 (.mov (.c (.lst 1 [] .clip))) [4]]
def Oq:La:=[on 8 (.mk [(.byt [] .no)] 24 (ci 2) (ci 2)),Wa 5 8]
def Oo:La:=[WA 9 4 2,Wn 10 95 9,Wa 6 10]
def yr:La:=[Wj 7 0]
def On:La:=[om 11 7,Wb 12 .lss 11 2]
def Om:La:=[om 15 6,Wm 16 15,Wb 17 .gtr 16 0,Wa 18 17,.grp 18 true [(xi 19 18 true (Mv 1)),(xi 20 18 true (Mv 7)),(xi 21 18 true (Ca 120 [.t 19,.t 20]))] [19,20],Ww 22 18 21]
def Ol:La:=[om 23 5,om 24 7,om 25 7,om 26 6,Wz 27 121 25 26,WT 28 1 23 24,Wq 1 28 27]
def Ok:La:=[Wa 13 7,Wb 14 .add 13 1,Wa 7 14]
def zu:RC:=(Sq (So On (Xv 12 [1,6,7,12] (.exit 0))) (Sq (Bk 1 (So Om (Xw 22 [22] (.ops Ol)))) (.ops Ok)))
def Oj:RC:=zu
def Oi:La:=[Wa 29 5,Wa 4 29]
def xkZ:RC:=(So Ot (So Oq (So Oo (Sq (So yr (Bk 0 (.loop Oj))) (So Oi .ret)))))
def xb3:FnC:=⟨xkZ,30,[.tmp 4],[],[]⟩
def Oh:La:=[on 0 (.new (.arr 1 (ao 3 [.str []])))]
def Og:La:=[on 1 (.build [.str [],.str [],.str []] [(0,1,(.c (.str [97,99,109,101]))),(1,1,(.c (.str [118,50]))),(2,1,(.c (.str [120,45,121])))]),Wv 3 0 1]
def xkY:RC:=(So Oh (So Og .ret))
def xb2:FnC:=⟨xkY,2,[.cell 0 3 true],[],[]⟩
def Of:La:=[W8 2]
def Oe:La:=[om 5 0,Wp 6 71 5 5]
def Od:La:=[WD 8 .eql 6 0,Wa 7 8]
def Oc:La:=[on 9 (.build Zq2 [(0,1,(ci 1))]),Wv 4 2 9]
def Ob:La:=[WD 11 .eql 6 1,Wa 10 11]
def Oa:La:=[Wa 12 0,Wn 13 73 12,WQ 14 13,oo 15 (.build Zq2 [(0,1,(ci 2)),(1,1,(.t 14))]) [14],Wv 4 2 15]
def N9:La:=[Wb 17 .eql 6 2,Wa 16 17]
def N8:La:=[on 18 (.build [.str [],.str [],.str [],.str [],.str [],.str [],.str []] [(0,1,(.c (.str []))),(1,1,(.c (.str [42]))),(2,1,(.c (.str [97,61,63]))),(3,1,(.c (.str [42,61,42]))),(4,1,(.c (.str [63,111,42,53]))),(5,1,(.c (.str [99,111,117,110,116,61,63,63]))),(6,1,(.c (.str [42,97,42,42,49,42])))]),on 3 (.new (.arr 1 (ao 7 [.str []]))),Wv 7 3 18]
def N7:La:=[Wa 19 0,Wp 20 71 19 7,oo 21 (.iaddrA 7 1 (.t 3) (.t 20)) [3,20],Wd 22 21,oo 23 (.build Zq2 [(0,1,(ci 3)),(1,1,(.t 22))]) [22],Wv 4 2 23]
def N6:La:=[om 24 0,Wp 25 71 24 20,Wa 4 25]
def Cf:Lb:=[Fs 0 26 (.build [.str [],.str [],.str []] [(0,1,(.c (.str [99,111,117,110,116,61]))),(1,1,(.c (.str [97,61]))),(2,1,(.c (.str [])))]),Fm 1 27 0,Wt 4 30,Fm 5 31 4,Fm 6 32 0,WI 2 28 71 27 3,Fs 3 29 (.idxA 3 1 false (.t 26) (.t 28)),WI 7 33 71 32 30,Wg 8 34 .add 31 33,Fs 9 35 (.build Zq2 [(0,1,(ci 4)),(1,1,(.t 29)),(2,1,(.t 30)),(3,1,(.t 34))]),Fr 10 4 2 35]
def xkX:RC:=(So Of (Sq (So Oe (Bk 0 (So Od (Kc 7 (Kk [0,6,7] (So Oc .ret)) (Kk [7] (So Ob (Kc 10 (Kk [6,10] (So Oa .ret)) (Kk [10] (So N9 (Xw 16 [16] (So N8 (So N7 .ret)))))))))))) (So N6 (Sq (.flt [0,0,2,7,0,0,0,70,230,511,1023] [] Cf [0,4,26,27,28,29,30,31,32,33,34,35]) .ret))))
def xb1:FnC:=⟨xkX,36,[.cell 2 4 true],[],[]⟩
def N5:La:=[Wa 6 0,on 7 (Ln 6),Wj 8 0]
def N4:La:=[on 10 (Ia 1 6 8),Wd 11 10,Wa 5 11]
def N3:La:=[om 12 5,om 13 3,Wf 14 .neq 12 13]
def N2:La:=[Wa 15 5,Wa 2 15]
def N1:La:=[Wb 16 .add 8 1,Wa 8 16]
def zt:RC:=(So Ea (Sq (Xv 9 [6,7,8,9] (.exit 0)) (Sq (Bk 1 (So N4 (So N3 (Kc 14 (Kk [3,6,7,8,14] (So N2 .ret)) (Kk [5,14] .skip))))) (.ops N1))))
def N0:RC:=zt
def NZ:La:=[Wa 17 3,Wa 2 17]
def xkW:RC:=(So jm (So ww (Sq (So N5 (Bk 0 (.loop N0))) (So NZ .ret))))
def xb0:FnC:=⟨xkW,18,[.tmp 2],[],[]⟩
def NY:La:=[om 7 0,Wn 8 141 7,Wa 5 8]
def NX:La:=[om 9 1,Wn 10 141 9,Wa 6 10]
def NW:La:=[Wa 11 5]
def NV:La:=[Wa 12 6]
def NU:La:=[Wa 13 6]
def yq:La:=[Wj 4 1]
def NT:La:=[om 14 0,om 15 1,Wf 16 .lss 14 15]
def Ce:La:=[Wa 17 0,Wa 18 1,Wf 19 .gtr 17 18]
def xkV:RC:=(So ny (So NY (So NX (Sq (So NW (Xw 11 [0,1,11] (Sq (So NV (Xw 12 [12] (So jL .ret))) (So oy .ret)))) (Sq (So NU (Xw 13 [0,1,13] (So yq .ret))) (Sq (So NT (Xw 16 [0,1,16] (So oy .ret))) (Sq (So Ce (Xw 19 [19] (So yq .ret))) (So jL .ret))))))))
def xbZ:FnC:=⟨xkV,20,[.tmp 4],[],[]⟩
def NS:La:=[Wa 5 0,Wa 6 1,Wz 7 142 5 6,Wa 4 7]
def xkU:RC:=(So ny (So NS .ret))
def xbY:FnC:=⟨xkU,8,[.tmp 4],[],[]⟩
def NR:La:=[om 6 5,om 7 0,Wm 8 7,Wf 9 .lss 6 8,Wa 10 9,.grp 10 true [(xi 11 10 true (Mv 5)),(xi 12 10 true (Mv 1)),(xi 13 10 true (Ln 12)),(xi 14 10 true (Bb .lss 11 13))] [11,12,13],Ww 15 10 14]
def NQ:Lb:=[Wt 0 18,Fm 1 19 5,Wr 2 20 1 18 19,Wc 3 21 20,Fm 4 22 1,Wt 5 23,Wr 6 24 1 22 23,Wc 7 25 24,Wg 8 26 .neq 21 25]
def NP:Lb:=[Wt 0 27,Fm 1 28 5,Wr 2 29 1 27 28,Wc 3 30 29,Fm 4 31 1,Wt 5 32,Wr 6 33 1 31 32,Wc 7 34 33,Wg 8 35 .lss 30 34,Fm 9 4 35]
def zr:RC:=(Sq (So NR (Xv 15 [5,15] (.exit 0))) (Sq (Bk 1 (Sq (.flt [0,0,3,7,0,0,48,112,255] [] NQ [18,19,20,21,22,23,24,25]) (Xw 26 [26] (Sq (.flt [0,0,3,7,0,0,48,112,255,511] [] NP [0,1,5,27,28,29,30,31,32,33,34,35]) .ret)))) (.ops xF)))
def yp:RC:=zr
def NO:La:=[Wa 36 0,Wm 37 36,Wa 38 1,Wm 39 38,Wf 40 .lss 37 39,Wa 4 40]
def xkT:RC:=(So oB (Sq (So lM (Bk 0 (.loop yp))) (So NO .ret)))
def xbX:FnC:=⟨xkT,41,[.tmp 4],[],[]⟩
def NN:La:=[Wa 4 0,Wa 5 1,Wx 6 4,Wo 7 2 6,Wq 1 7 5]
def xkS:RC:=(.ops NN)
def xbW:FnC:=⟨xkS,8,[],[],[]⟩
def NM:La:=[Xb 6,oo 7 (Mc 0) [7]]
def NL:La:=[om 8 2,om 9 0,Wx 10 9,Wo 11 0 10,Wd 12 11,Wm 13 12,om 14 1,Wf 15 .sub 13 14,Wf 16 .gtr 8 15]
def NK:La:=[Xg 6,Wj 7 2]
def NJ:La:=[Wa 17 0,Wx 18 17,Wo 19 0 18,Wd 20 19,om 21 1,Wa 22 1,Wa 23 2,Wf 24 .add 22 23,Xq 25 1 20 21 24,Wa 6 25,Wj 7 0]
def xkR:RC:=(So NM (Sq (So NL (Xw 16 [0,1,2,16] (So NK .ret))) (So NJ .ret)))
def xbV:FnC:=⟨xkR,26,[.tmp 6,.tmp 7],[],[]⟩
def yo:Lb:=[Wt 0 3,Wu 1 4 3,Wh 2 5 0 4,Wc 3 6 5,Fs 4 7 (Ln 6),Fm 5 8 0,Wu 6 9 8,Wh 7 10 1 9,Wc 8 11 10,Wg 9 12 .sub 7 11,Fm 10 2 12]
def xkQ:RC:=(So jm (Sq (.flt [0,1,3,7,15,0,32,96,224,511,1023] [] yo [0,3,4,5,6,7,8,9,10,11,12]) .ret))
def xbU:FnC:=⟨xkQ,13,[.tmp 2],[],[]⟩
def NI:La:=[Wa 9 0,WE 10 9,WX 11 10,Wa 5 11]
def NH:La:=[Wa 12 1,on 13 (Ln 12),Wj 14 0]
def NG:La:=[on 15 (Bb .lss 14 13)]
def NF:La:=[on 16 (Ia 1 12 14),Wd 17 16,Wa 7 17]
def NE:La:=[om 18 7,Wm 19 18,Xm 20 19,Wa 8 20]
def ND:La:=[Wa 21 5,om 22 8,oo 23 (.bin .shr (.t 22) (.c (.int .u64 24))) [22],WE 24 23,om 25 8,Xs 26 .shr 25,WE 27 26,om 28 8,Xa 29 .shr 28,WE 30 29,Wa 31 8,WE 32 31,oo 33 (.litB [.t 24,.t 27,.t 30,.t 32]) [24,27,30,32],WC 34 1 21 33,Wa 5 34]
def NC:La:=[Wa 35 5,Wa 36 7,WC 37 1 35 36,Wa 5 37]
def NB:La:=[Wb 38 .add 14 1,Wa 14 38]
def zq:RC:=(.post (So NG (Sq (Xv 15 [12,13,14,15] (.exit 0)) (Sq (Bk 1 (So NF (So NE (So ND (.ops NC))))) (.ops NB)))) [.tok 5 105])
def NA:RC:=zq
def Cd:La:=[Wa 39 5,Wa 4 39]
def xkP:RC:=(So jK (So NI (Sq (So NH (Bk 0 (.pre [.tok 5 105] (.loop NA)))) (So Cd .ret))))
def xbT:FnC:=⟨xkP,40,[.tmp 4],[],[]⟩
def Nz:Lb:=[Wt 0 5,Wu 1 6 5,Wh 2 7 2 6,Wc 3 8 7,Ws 4 9 .eql 8 0,Fm 5 10 9,Wy 6 11 10 true 0,Fi 7 12 10 true (.nchk (.t 11)),Fi 8 13 10 true (Fa 0 12),Fi 9 14 10 true (Ld 13),Fi 10 15 10 true (Ln 14),Wy 11 16 10 true 0,Fi 12 17 10 true (.nchk (.t 16)),Fi 13 18 10 true (Fa 1 17),Fi 14 19 10 true (Ld 18),Fi 15 20 10 true (Bb .sub 15 19),Wy 16 21 10 true 1,Fi 17 22 10 true (Bb .lss 20 21),Fs 18 23 (Pf 10 22)]
def Ny:La:=[om 24 0,Wx 25 24,Wo 26 2 25,.op ⟨none,none,.store 1 (.t 26) (ci 2)⟩ [26]]
def Nw:La:=[Wa 27 0,Wx 28 27,Wo 29 2 28,Wd 30 29,Wb 31 .eql 30 0,Wa 4 31]
def xkO:RC:=(So oB (Sq (Sq (.flt [0,1,3,7,15,31,63,127,255,511,1023,63,2111,6207,14399,32767,63,131071,262143] [] Nz [1,5,6,7,8,9,10,11,12,13,14,15,16,17,18,19,20,21,22]) (Xw 23 [23] (.ops Ny))) (So Nw .ret)))
def xbS:FnC:=⟨xkO,32,[.tmp 4],[],[]⟩
def xkN:RC:=(So jm (Sq (.flt [0,1,3,7,15,0,32,96,224,511,1023] [] yo [0,3,4,5,6,7,8,9,10,11,12]) .ret))
def xbR:FnC:=⟨xkN,13,[.tmp 2],[],[]⟩
def Nv:La:=[Xl 0]
def Nu:La:=[on 1 (.build [.int .u32 0,.int .u32 0,.int .u32 0,.int .u32 0,.int .u32 0,.int .u32 0,.int .u32 0,.int .u32 0,.int .u32 0,.int .u32 0,.int .u32 0,.int .u32 0,.int .u32 0,.int .u32 0,.int .u32 0,.int .u32 0,.int .u32 0,.int .u32 0,.int .u32 0,.int .u32 0,.int .u32 0,.int .u32 0,.int .u32 0,.int .u32 0,.int .u32 0,.int .u32 0,.int .u32 0,.int .u32 0,.int .u32 0,.int .u32 0,.int .u32 0,.int .u32 0,.int .u32 0,.int .u32 0,.int .u32 0,.int .u32 0,.int .u32 0,.int .u32 0,.int .u32 0,.int .u32 0,.int .u32 0,.int .u32 0,.int .u32 0,.int .u32 0,.int .u32 0,.int .u32 0,.int .u32 0,.int .u32 0,.int .u32 0,.int .u32 0,.int .u32 0,.int .u32 0,.int .u32 0,.int .u32 0,.int .u32 0,.int .u32 0,.int .u32 0,.int .u32 0,.int .u32 0,.int .u32 0,.int .u32 0,.int .u32 0,.int .u32 0,.int .u32 0] [(0,1,(.c (.int .u32 1116352408))),(1,1,(.c (.int .u32 1899447441))),(2,1,(.c (.int .u32 3049323471))),(3,1,(.c (.int .u32 3921009573))),(4,1,(.c (.int .u32 961987163))),(5,1,(.c (.int .u32 1508970993))),(6,1,(.c (.int .u32 2453635748))),(7,1,(.c (.int .u32 2870763221))),(8,1,(.c (.int .u32 3624381080))),(9,1,(.c (.int .u32 310598401))),(10,1,(.c (.int .u32 607225278))),(11,1,(.c (.int .u32 1426881987))),(12,1,(.c (.int .u32 1925078388))),(13,1,(.c (.int .u32 2162078206))),(14,1,(.c (.int .u32 2614888103))),(15,1,(.c (.int .u32 3248222580))),(16,1,(.c (.int .u32 3835390401))),(17,1,(.c (.int .u32 4022224774))),(18,1,(.c (.int .u32 264347078))),(19,1,(.c (.int .u32 604807628))),(20,1,(.c (.int .u32 770255983))),(21,1,(.c (.int .u32 1249150122))),(22,1,(.c (.int .u32 1555081692))),(23,1,(.c (.int .u32 1996064986))),(24,1,(.c (.int .u32 2554220882))),(25,1,(.c (.int .u32 2821834349))),(26,1,(.c (.int .u32 2952996808))),(27,1,(.c (.int .u32 3210313671))),(28,1,(.c (.int .u32 3336571891))),(29,1,(.c (.int .u32 3584528711))),(30,1,(.c (.int .u32 113926993))),(31,1,(.c (.int .u32 338241895))),(32,1,(.c (.int .u32 666307205))),(33,1,(.c (.int .u32 773529912))),(34,1,(.c (.int .u32 1294757372))),(35,1,(.c (.int .u32 1396182291))),(36,1,(.c (.int .u32 1695183700))),(37,1,(.c (.int .u32 1986661051))),(38,1,(.c (.int .u32 2177026350))),(39,1,(.c (.int .u32 2456956037))),(40,1,(.c (.int .u32 2730485921))),(41,1,(.c (.int .u32 2820302411))),(42,1,(.c (.int .u32 3259730800))),(43,1,(.c (.int .u32 3345764771))),(44,1,(.c (.int .u32 3516065817))),(45,1,(.c (.int .u32 3600352804))),(46,1,(.c (.int .u32 4094571909))),(47,1,(.c (.int .u32 275423344))),(48,1,(.c (.int .u32 430227734))),(49,1,(.c (.int .u32 506948616))),(50,1,(.c (.int .u32 659060556))),(51,1,(.c (.int .u32 883997877))),(52,1,(.c (.int .u32 958139571))),(53,1,(.c (.int .u32 1322822218))),(54,1,(.c (.int .u32 1537002063))),(55,1,(.c (.int .u32 1747873779))),(56,1,(.c (.int .u32 1955562222))),(57,1,(.c (.int .u32 2024104815))),(58,1,(.c (.int .u32 2227730452))),(59,1,(.c (.int .u32 2361852424))),(60,1,(.c (.int .u32 2428436474))),(61,1,(.c (.int .u32 2756734187))),(62,1,(.c (.int .u32 3204031479))),(63,1,(.c (.int .u32 3329325298)))]),Wv 64 0 1]
def xkM:RC:=(So Nv (So Nu .ret))
def xbQ:FnC:=⟨xkM,2,[.cell 0 64 true],[],[]⟩
def Nt:La:=[on 6 (.litB []),om 7 0,WC 8 1 6 7,on 9 (.litB [(.c (.u8 128))]),WC 10 1 8 9,Wa 3 10]
def Ns:La:=[om 11 3,Wm 12 11,Wb 13 .rem 12 64,Wb 14 .neq 13 56]
def Nr:La:=[Wa 15 3,on 16 (.litB [(.c (.u8 0))]),WC 17 1 15 16,Wa 3 17]
def zp:RC:=(.post (Sq (So Ns (Xv 14 [14] (.exit 0))) (Bk 1 (.ops Nr))) [.tok 3 103])
def yn:RC:=zp
def Nq:La:=[Wa 18 0,Wm 19 18,WO 20 19,Xa 21 .mul 20,Wa 4 21]
def Np:La:=[Wj 5 7]
def No:La:=[om 22 5,Wb 23 .geq 22 0]
def Nn:La:=[Wa 26 3,om 27 4,om 28 5,WO 29 28,oo 30 (.bin .mul (.c (.int .u64 8)) (.t 29)) [29],Wf 31 .shr 27 30,WE 32 31,WX 33 32,WC 34 1 26 33,Wa 3 34]
def Nm:La:=[Wa 24 5,Wb 25 .sub 24 1,Wa 5 25]
def tt:RC:=(.post (Sq (So No (Xv 23 [4,5,23] (.exit 2))) (Sq (Bk 3 (.ops Nn)) (.ops Nm))) [.tok 3 103])
def sG:RC:=tt
def Cc:La:=[Wa 35 3,Wa 2 35]
def xkL:RC:=(So lX (So Nt (Sq (Bk 0 (.pre [.tok 3 103] (.loop yn))) (So Nq (Sq (So Np (Bk 2 (.pre [.tok 3 103] (.loop sG)))) (So Cc .ret))))))
def xbP:FnC:=⟨xkL,36,[.tmp 2],[],[]⟩
def nN:La:=[Xt 4]
def ym:Lb:=[Wt 0 5,Wt 1 6,Fs 2 7 (.bin .mul (ci 4) (.t 6)),Wr 3 8 1 5 7,Wc 4 9 8,Fs 5 10 (.toInt .u32 (.t 9)),Fs 6 11 (.bin .shl (.t 10) (.c (.int .u64 24))),Fm 7 12 0,Fm 8 13 1,Fs 9 14 (.bin .mul (ci 4) (.t 13)),Ws 10 15 .add 14 1,Wr 11 16 1 12 15,Wc 12 17 16,Fs 13 18 (.toInt .u32 (.t 17)),Fs 14 19 (.bin .shl (.t 18) (.c (.int .u64 16))),Wg 15 20 .or 11 19,Fm 16 21 0,Fm 17 22 1,Fs 18 23 (.bin .mul (ci 4) (.t 22)),Ws 19 24 .add 23 2,Wr 20 25 1 21 24,Wc 21 26 25,Fs 22 27 (.toInt .u32 (.t 26)),Xf 23 28 .shl 27,Wg 24 29 .or 20 28,Fm 25 30 0,Fm 26 31 1,Fs 27 32 (.bin .mul (ci 4) (.t 31)),Ws 28 33 .add 32 3,Wr 29 34 1 30 33,Wc 30 35 34,Fs 31 36 (.toInt .u32 (.t 35)),Wg 32 37 .or 29 36,Fm 33 4 37]
def xkK:RC:=(So nN (Sq (.flt [0,0,2,7,15,31,63,0,0,256,768,1920,3968,8064,16256,32767,0,0,131072,393216,983040,2031616,4128768,8323072,16777215,0,0,67108864,201326592,503316480,1040187392,2113929216,4294967295,8589934591] [] ym [0,1,5,6,7,8,9,10,11,12,13,14,15,16,17,18,19,20,21,22,23,24,25,26,27,28,29,30,31,32,33,34,35,36,37]) .ret))
def xbO:FnC:=⟨xkK,38,[.tmp 4],[],[]⟩
def Nl:La:=[om 5 0,om 6 1,Wf 7 .shr 5 6,Wa 8 0,Wa 9 1,Xu 10 .sub 9,Wf 11 .shl 8 10,Wf 12 .or 7 11,Wa 4 12]
def xkJ:RC:=(So nN (So Nl .ret))
def xbN:FnC:=⟨xkJ,13,[.tmp 4],[],[]⟩
def yl:La:=[Xg 3]
def Nk:La:=[om 5 4,om 6 0,Wm 7 6,Wf 8 .lss 5 7]
def Nj:Lb:=[Fm 0 11 3,Fm 1 12 0,Fm 2 13 4,Wr 3 14 1 12 13,Wc 4 15 14,Fs 5 16 (.bin .shr (.t 15) (.c (.int .u64 24))),W3 6 17 16,Fm 7 18 0,Fm 8 19 4,Wr 9 20 1 18 19,Wc 10 21 20,Fs 11 22 (.bin .shr (.t 21) (.c (.int .u64 16))),W3 12 23 22,Fm 13 24 0,Fm 14 25 4,Wr 15 26 1 24 25,Wc 16 27 26,Xf 17 28 .shr 27,W3 18 29 28,Fm 19 30 0,Fm 20 31 4,Wr 21 32 1 30 31,Wc 22 33 32,W3 23 34 33,Fs 24 35 (.litB [.t 17,.t 23,.t 29,.t 34]),W2 25 36 1 11 35,⟨26,false,(xm 3 36)⟩]
def Ni:La:=[Wa 9 4,Wb 10 .add 9 1,Wa 4 10]
def zo:RC:=(.post (Sq (So Nk (Xv 8 [0,4,8] (.exit 0))) (Sq (Bk 1 (.flt [0,0,0,6,14,30,62,0,0,384,896,1920,3968,0,0,24576,57344,122880,253952,0,0,1572864,3670016,7864320,16777214,33554431,67108863] [136] Nj [11,12,13,14,15,16,17,18,19,20,21,22,23,24,25,26,27,28,29,30,31,32,33,34,35,36])) (.ops Ni))) [.tok 3 103])
def yk:RC:=zo
def yj:La:=[Wa 37 3,Wa 2 37]
def xkI:RC:=(So lX (So yl (Sq (So jL (Bk 0 (.pre [.tok 3 103] (.loop yk)))) (So yj .ret))))
def xbM:FnC:=⟨xkI,38,[.tmp 2],[],[]⟩
def Nh:La:=[Wa 5 0,Wa 6 1,WO 7 6,Wf 8 .shr 5 7,Wb 9 .and 8 1,Wb 10 .eql 9 1,Wa 4 10]
def xkH:RC:=(So oB (So Nh .ret))
def xbL:FnC:=⟨xkH,11,[.tmp 4],[],[]⟩
def Ng:La:=[Wa 5 0]
def Nf:La:=[WD 7 .eql 5 0,Wa 6 7]
def Nd:La:=[Wa 8 1,Wn 9 144 8,Wa 4 9]
def Nc:La:=[Wb 11 .eql 5 1,Wa 10 11]
def Nb:La:=[Wa 12 1,Wn 13 65 12,Wa 4 13]
def xkG:RC:=(So jK (Sq (So Ng (Bk 0 (So Nf (Kc 6 (Kk [5,6] (So Nd .ret)) (Kk [6] (So Nc (Kc 10 (Kk [10] (So Nb .ret)) (Kk [1,10] .skip)))))))) (So io .ret)))
def xbK:FnC:=⟨xkG,14,[.tmp 4],[],[]⟩
def Na:La:=[on 0 (.new (.arr 1 (ao 5 [.str []])))]
def M9:La:=[on 1 (.build [.str [],.str [],.str [],.str [],.str []] [(0,1,(.c (.str [97]))),(1,1,(.c (.str [103,114,117,98]))),(2,1,(.c (.str [108,105,110,117,120]))),(3,1,(.c (.str [110,101,116,45,48]))),(4,1,(.c (.str [116,119,101,108,118,101,45,98,121,116,101,115])))]),Wv 5 0 1]
def xkF:RC:=(So Na (So M9 .ret))
def xbJ:FnC:=⟨xkF,2,[.cell 0 5 true],[],[]⟩
def M8:La:=[om 5 0,Wp 6 71 5 4,WN 7 .add 1 6,Wa 4 7]
def M7:La:=[om 8 4,Wb 9 .gtr 8 0]
def M6:La:=[Wa 12 3,om 13 0,Wn 14 73 13,WC 15 1 12 14,on 16 (.litB [(.c (.u8 10))]),WC 17 1 15 16,Wa 3 17]
def M5:La:=[Wa 10 4,Wb 11 .sub 10 1,Wa 4 11]
def zm:RC:=(.post (Sq (So M7 (Xv 9 [0,4,9] (.exit 0))) (Sq (Bk 1 (.ops M6)) (.ops M5))) [.gc [115],.tok 3 103])
def yi:RC:=zm
def M4:La:=[Wa 18 3,Wa 2 18]
def xkE:RC:=(So lX (So yl (Sq (So M8 (Bk 0 (.pre [.tok 3 103] (.loop yi)))) (So M4 .ret))))
def xbI:FnC:=⟨xkE,19,[.tmp 2],[],[]⟩
def M3:La:=[Wa 3 0,Wp 4 145 3 10,Wa 2 4]
def xkD:RC:=(So D9 (So M3 .ret))
def xbH:FnC:=⟨xkD,5,[.tmp 2],[],[]⟩
def qw:La:=[oo 4 (.mov (.c (.str []))) [4]]
def M2:La:=[om 7 0,oo 8 (.bin .eql (.t 7) (.c (.str []))) [7],Wa 9 8,.grp 9 false [(xi 10 9 false (Mv 1)),(xi 11 9 false (.bin .eql (.t 10) (.c (.str []))))] [10],Wi 12 9 11]
def M1:La:=[Wa 13 0,Wa 4 13]
def M0:La:=[om 14 1,WF 15 true 14,Wb 16 .eql 15 1,Wa 17 16,.grp 17 true [(xi 18 17 true (Mv 1)),(xi 19 17 true (.idxS (.t 18) (ci 0))),(xi 20 17 true (.bin .lss (.t 19) (.c (.u8 128))))] [18,19],Ww 21 17 20]
def MZ:Lb:=[Wt 0 22,Wt 1 23,Fs 2 24 (.idxS (.t 23) (ci 0)),Fm 4 26 1,Fs 5 27 (.idxS (.t 26) (ci 0)),WM 3 25 147 22 24,WM 6 28 146 25 27,Fm 7 4 28]
def MY:La:=[om 30 1,Wn 31 148 30,Wa 29 31,WK 32 29 0,WL 33 29 1,on 5 (.new (.arr 1 (ao 256 [.bool false]))),Wv 256 5 32,Wa 6 33]
def MX:La:=[Wa 34 6]
def MW:La:=[Wa 35 0,oo 36 (Ca 150 [.t 35,.t 5]) [35],oo 37 (Ca 149 [.t 36,.t 5]) [5,36],Wa 4 37]
def MV:La:=[Wa 38 0,om 39 1,Wz 40 152 38 39,Wa 41 1,Wz 42 151 40 41,Wa 4 42]
def xkC:RC:=(So qw (Sq (So M2 (Xw 12 [1,12] (So M1 .ret))) (Sq (So M0 (Xw 21 [21] (Sq (.flt [0,0,2,7,0,16,63,127] [] MZ [0,1,22,23,24,25,26,27,28]) .ret))) (Sq (So MY (So MX (Kc 34 (Kk [1,34] (So MW .ret)) (Kk [5,34] .skip)))) (So MV .ret)))))
def xbG:FnC:=⟨xkC,43,[.tmp 4],[],[]⟩
def MU:La:=[om 6 0,om 7 1,Wz 8 153 6 7,WV 9 8]
def MT:La:=[Wa 10 0,Wa 4 10,on 5 (Mb false)]
def MS:La:=[Wa 11 0,Wa 12 1,WF 13 true 12,oo 14 (.slcS (.t 11) (some (.t 13)) none) [11,13],Wa 4 14,on 5 (Mb true)]
def xkB:RC:=(So Pc (Sq (So MU (Xw 9 [1,9] (So MT .ret))) (So MS .ret)))
def xbF:FnC:=⟨xkB,15,[.tmp 4,.tmp 5],[],[]⟩
def yh:La:=[oo 2 (Mc 0) [2],oo 3 (.mov (.c .nili)) [3]]
def MR:La:=[om 7 0,Wn 8 154 7,Wa 6 8,WK 9 6 0,WL 10 6 1,Wa 4 9,Wa 5 10]
def MQ:La:=[om 11 5,oo 12 (.isni true (.t 11)) [11]]
def MP:La:=[Wa 13 4,Wa 14 0,Wa 15 5,oo 16 (Ca 155 [(.c (.str [65,116,111,105])),.t 14,ci 0,ci 0,.t 15]) [14,15],Wa 2 13,Wa 3 16]
def MO:La:=[Wa 17 4,Wa 2 17,on 3 (.mov (.c .nili))]
def xkA:RC:=(So yh (So MR (Sq (So MQ (Kc 12 (Kk [12] (So MP .ret)) (Kk [0,5,12] .skip))) (So MO .ret))))
def xbE:FnC:=⟨xkA,18,[.tmp 2,.tmp 3],[],[]⟩
def MN:La:=[om 6 0,Wm 7 6,Wb 8 .add 7 72,oo 9 (.mkB (ci 0) (.t 8)) [8],om 10 0,.dir (.tok 9 109),WC 11 1 9 10,on 12 (.litB [(.c (.u8 128))]),WC 13 1 11 12,Wa 3 13]
def MM:La:=[om 14 3,Wm 15 14,Wb 16 .rem 15 64,Wb 17 .neq 16 56]
def ML:La:=[Wa 18 3,on 19 (.litB [(.c (.u8 0))]),WC 20 1 18 19,Wa 3 20]
def zl:RC:=(.post (Sq (So MM (Xv 17 [17] (.exit 0))) (Bk 1 (.ops ML))) [.tok 3 103])
def yg:RC:=zl
def MK:La:=[Wa 21 0,Wm 22 21,WO 23 22,Xa 24 .mul 23,Wa 4 24]
def MJ:La:=[Wj 5 56]
def MI:La:=[om 25 5,Wb 26 .geq 25 0]
def MH:La:=[Wa 29 3,om 30 4,om 31 5,WO 32 31,Wf 33 .shr 30 32,WE 34 33,WX 35 34,WC 36 1 29 35,Wa 3 36]
def MG:La:=[Wa 27 5,Wb 28 .sub 27 8,Wa 5 28]
def tq:RC:=(.post (Sq (So MI (Xv 26 [4,5,26] (.exit 2))) (Sq (Bk 3 (.ops MH)) (.ops MG))) [.tok 3 103])
def sF:RC:=tq
def xkz:RC:=(So lX (So MN (Sq (Bk 0 (.pre [.tok 3 103] (.loop yg))) (So MK (Sq (So MJ (Bk 2 (.pre [.tok 3 103] (.loop sF)))) (So yj .ret))))))
def xbD:FnC:=⟨xkz,38,[.tmp 2],[],[]⟩
def MF:La:=[on 4 (.new (.arr 1 (ao 80 [.int .u32 0])))]
def ME:La:=[Wj 14 0]
def MD:La:=[WD 15 .lss 14 80]
def MC:La:=[om 16 14,Wa 5 16]
def MB:La:=[om 17 5,Wb 18 .lss 17 16]
def MA:La:=[om 19 5,om 20 1,Wa 21 5,Wz 22 156 20 21,oo 23 (.iaddrA 80 1 (.t 4) (.t 19)) [19],Wq 1 23 22]
def Mz:Lb:=[Fm 0 24 5,Fm 1 25 5,Ws 2 26 .sub 25 3,WS 3 27 4 26,Wc 4 28 27,Wt 5 29,Ws 6 30 .sub 29 8,WS 7 31 4 30,Wc 8 32 31,Wg 9 33 .xor 28 32,Fm 10 34 5,Ws 11 35 .sub 34 14,WS 12 36 4 35,Wc 13 37 36,Wg 14 38 .xor 33 37,Fm 15 39 5,Ws 16 40 .sub 39 16,WS 17 41 4 40,Wc 18 42 41,Wg 19 43 .xor 38 42,WI 20 44 157 43 1,WS 21 45 4 24,Fr 22 1 45 44]
def My:La:=[Wb 46 .add 14 1,Wa 14 46]
def zk:RC:=(So MD (Sq (Xv 15 [1,14,15] (.exit 0)) (Sq (Bk 1 (So MC (So MB (Kc 18 (Kk [18] (.ops MA)) (Kk [18] (.flt [0,0,2,6,14,0,32,96,224,510,0,1024,3072,7168,16382,0,32768,98304,229376,524286,1048574,2097151,4194303] [] Mz [5,24,25,26,27,28,29,30,31,32,33,34,35,36,37,38,39,40,41,42,43,44,45])))))) (.ops My))))
def yf:RC:=zk
def Mx:Lb:=[Wt 0 47,Wu 1 48 47,WJ 2 49 48 0,Wc 3 50 49,Fm 4 51 0,Wu 5 52 51,WJ 6 53 52 1,Wc 7 54 53,Fm 8 55 0,Wu 9 56 55,WJ 10 57 56 2,Wc 11 58 57,Fm 12 59 0,Wu 13 60 59,WJ 14 61 60 3,Wc 15 62 61,Fm 16 63 0,Wu 17 64 63,WJ 18 65 64 4,Wc 19 66 65,Fm 20 6 50,Fm 21 7 54,Fm 22 8 58,Fm 23 9 62,Fm 24 10 66]
def Cb:La:=[Wj 67 0]
def B0:La:=[WD 68 .lss 67 80]
def BZ:La:=[om 69 67,Wa 11 69]
def BY:La:=[Xt 12,Xt 13]
def BX:La:=[om 70 11,Wb 71 .quo 70 20]
def BW:La:=[WD 78 .eql 71 0,Wa 77 78]
def BV:La:=[om 79 7,om 80 8,Wf 81 .and 79 80,om 82 7,oo 83 (.un .xor (.t 82)) [82],om 84 9,Wf 85 .and 83 84,Wf 86 .xor 81 85,Wa 12 86,on 13 (.mov (.c (.int .u32 1518500249)))]
def BU:La:=[WD 88 .eql 71 1,Wa 87 88]
def BT:La:=[om 89 7,om 90 8,Wf 91 .xor 89 90,om 92 9,Wf 93 .xor 91 92,Wa 12 93,on 13 (.mov (.c (.int .u32 1859775393)))]
def BS:La:=[Wb 95 .eql 71 2,Wa 94 95]
def BR:La:=[om 96 7,om 97 8,Wf 98 .and 96 97,om 99 7,om 100 9,Wf 101 .and 99 100,Wf 102 .xor 98 101,om 103 8,om 104 9,Wf 105 .and 103 104,Wf 106 .xor 102 105,Wa 12 106,on 13 (.mov (.c (.int .u32 2400959708)))]
def BQ:La:=[om 72 7,om 73 8,Wf 74 .xor 72 73,om 75 9,Wf 76 .xor 74 75,Wa 12 76,on 13 (.mov (.c (.int .u32 3395469782)))]
def BP:Lb:=[Fm 0 107 6,Fm 2 109 12,Fm 4 111 10,Fm 6 113 13,Fm 8 115 11,WS 9 116 4 115,Wc 10 117 116,Fm 12 119 6,Fm 13 120 7,Fm 15 122 8,Fm 16 123 9,WI 1 108 157 107 5,Wg 3 110 .add 108 109,Wg 5 112 .add 110 111,Wg 7 114 .add 112 113,Wg 11 118 .add 114 117,WI 14 121 157 120 30,⟨17,false,(xm 6 118)⟩,⟨18,false,(xm 7 119)⟩,⟨19,false,(xm 8 121)⟩,⟨20,false,(xm 9 122)⟩,⟨21,false,(xm 10 123)⟩]
def BO:La:=[Wb 124 .add 67 1,Wa 67 124]
def tp:RC:=(So B0 (Sq (Xv 68 [4,67,68] (.exit 2)) (Sq (Bk 3 (So BZ (So BY (Sq (So BX (Bk 4 (So BW (Kc 77 (Kk [71,77] (.ops BV)) (Kk [77] (So BU (Kc 87 (Kk [71,87] (.ops BT)) (Kk [87] (So BS (Kc 94 (Kk [94] (.ops BR)) (Kk [94] (.ops BQ)))))))))))) (.flt [0,1,0,7,0,31,0,127,0,256,768,2047,0,0,8195,0,0,131071,262143,524287,1048575,2097151] [] BP [11,12,13,107,108,109,110,111,112,113,114,115,116,117,118,119,120,121,122,123]))))) (.ops BO))))
def fM:RC:=tp
def BN:Lb:=[Wt 0 125,Wu 1 126 125,WJ 2 127 126 0,Wc 3 128 127,Fm 4 129 6,Wg 5 130 .add 128 129,Wu 6 131 125,WJ 7 132 131 0,Fr 8 1 132 130]
def BM:Lb:=[Wt 0 133,Wu 1 134 133,WJ 2 135 134 1,Wc 3 136 135,Fm 4 137 7,Wg 5 138 .add 136 137,Wu 6 139 133,WJ 7 140 139 1,Fr 8 1 140 138]
def BL:Lb:=[Wt 0 141,Wu 1 142 141,WJ 2 143 142 2,Wc 3 144 143,Fm 4 145 8,Wg 5 146 .add 144 145,Wu 6 147 141,WJ 7 148 147 2,Fr 8 1 148 146]
def BK:Lb:=[Wt 0 149,Wu 1 150 149,WJ 2 151 150 3,Wc 3 152 151,Fm 4 153 9,Wg 5 154 .add 152 153,Wu 6 155 149,WJ 7 156 155 3,Fr 8 1 156 154]
def BJ:Lb:=[Wt 0 157,Wu 1 158 157,WJ 2 159 158 4,Wc 3 160 159,Fm 4 161 10,Wg 5 162 .add 160 161,Wu 6 163 157,WJ 7 164 163 4,Fr 8 1 164 162]
def xky:RC:=(So MF (Sq (So ME (Bk 0 (.loop yf))) (Sq (.flt [0,1,3,7,0,16,48,112,0,256,768,1792,0,4096,12288,28672,0,65536,196608,458752,15,1048831,3149823,7405567,16777215] [] Mx [47,48,49,50,51,52,53,54,55,56,57,58,59,60,61,62,63,64,65,66]) (Sq (So Cb (Bk 2 (.loop fM))) (Sq (.flt [0,1,3,7,0,31,1,127,255] [] BN [6,125,126,127,128,129,130,131,132]) (Sq (.flt [0,1,3,7,0,31,1,127,255] [] BM [7,133,134,135,136,137,138,139,140]) (Sq (.flt [0,1,3,7,0,31,1,127,255] [] BL [8,141,142,143,144,145,146,147,148]) (Sq (.flt [0,1,3,7,0,31,1,127,255] [] BK [9,149,150,151,152,153,154,155,156]) (.flt [0,1,3,7,0,31,1,127,255] [] BJ [0,10,157,158,159,160,161,162,163,164])))))))))
def xbC:FnC:=⟨xky,165,[],[],[]⟩
def Mw:La:=[om 6 0,Wm 7 6,WN 8 .mul 4 7,oo 9 (.mkB (ci 0) (.t 8)) [8],Wa 3 9]
def Mu:La:=[Wa 10 0,on 11 (Ln 10),Wj 12 0]
def Mt:La:=[on 13 (Bb .lss 12 11)]
def Ms:La:=[on 14 (Ia 1 10 12),Wd 15 14,Wa 5 15]
def Mr:La:=[Wa 16 3,om 17 5,oo 18 (.bin .shr (.t 17) (.c (.int .u64 24))) [17],WE 19 18,om 20 5,Xs 21 .shr 20,WE 22 21,om 23 5,Xa 24 .shr 23,WE 25 24,Wa 26 5,WE 27 26,oo 28 (.litB [.t 19,.t 22,.t 25,.t 27]) [19,22,25,27],.dir (.tok 16 116),WC 29 1 16 28,Wa 3 29]
def Mq:La:=[Wb 30 .add 12 1,Wa 12 30]
def zj:RC:=(.post (So Mt (Sq (Xv 13 [10,11,12,13] (.exit 0)) (Sq (Bk 1 (So Ms (.ops Mr))) (.ops Mq)))) [.tok 3 103])
def ye:RC:=zj
def Mp:La:=[Wa 31 3,Wa 2 31]
def xkx:RC:=(So lX (So Mw (Sq (So Mu (Bk 0 (.pre [.tok 3 103] (.loop ye)))) (So Mp .ret))))
def xbB:FnC:=⟨xkx,32,[.tmp 2],[],[]⟩
def Mo:La:=[Xl 4]
def Mn:La:=[WD 18 .lss 17 64]
def Mm:La:=[om 19 17,Wa 5 19]
def Ml:La:=[om 20 5,Wb 21 .lss 20 16]
def Mk:La:=[om 22 5,om 23 1,Wa 24 5,Wz 25 156 23 24,oo 26 (.iaddrA 64 1 (.t 4) (.t 22)) [22],Wq 1 26 25]
def Mj:Lb:=[Fm 0 27 5,Ws 1 28 .sub 27 15,WG 2 29 4 28,Wc 3 30 29,Fm 4 31 5,Ws 5 32 .sub 31 2,WG 6 33 4 32,Wc 7 34 33,Fm 8 6 30,Fm 9 7 34]
def Mi:La:=[om 35 6,Wp 36 157 35 (-7),om 37 6,Wp 38 157 37 (-18),Wf 39 .xor 36 38,Wa 40 6,oo 41 (.bin .shr (.t 40) (.c (.int .u64 3))) [40],Wf 42 .xor 39 41,Wa 8 42]
def Mh:La:=[om 43 7,Wp 44 157 43 (-17),om 45 7,Wp 46 157 45 (-19),Wf 47 .xor 44 46,Wa 48 7,oo 49 (.bin .shr (.t 48) (.c (.int .u64 10))) [48],Wf 50 .xor 47 49,Wa 9 50]
def Mg:Lb:=[Fm 0 51 5,Fm 1 52 9,Fm 2 53 5,Ws 3 54 .sub 53 7,WG 4 55 4 54,Wc 5 56 55,Wg 6 57 .add 52 56,Fm 7 58 8,Wg 8 59 .add 57 58,Fm 9 60 5,Ws 10 61 .sub 60 16,WG 11 62 4 61,Wc 12 63 62,Wg 13 64 .add 59 63,WG 14 65 4 51,Fr 15 1 65 64]
def BI:La:=[Wb 66 .add 17 1,Wa 17 66]
def tn:RC:=(So Mn (Sq (Xv 18 [1,17,18] (.exit 0)) (Sq (Bk 1 (So Mm (Sq (So Ml (Xw 21 [21] (So Mk (.exit 1)))) (Sq (.flt [0,1,3,7,0,16,48,112,15,511] [] Mj [27,28,29,30,31,32,33,34]) (So Mi (So Mh (.flt [0,0,0,4,12,28,62,0,254,0,512,1536,3584,8190,16383,32767] [] Mg [5,8,9,51,52,53,54,55,56,57,58,59,60,61,62,63,64,65]))))))) (.ops BI))))
def sE:RC:=tn
def BH:La:=[om 67 0,Wx 68 67,WA 69 8 68,on 10 (.new (.arr 1 (ao 8 [.int .u32 0]))),Wv 8 10 69]
def BG:La:=[Wj 70 0]
def BF:La:=[WD 71 .lss 70 64]
def BE:La:=[om 72 70,Wa 11 72]
def BD:Lb:=[W0 0 73 10 0,Wc 1 74 73,W0 2 75 10 4,Wc 3 76 75,Fm 4 12 74,Fm 5 13 76]
def BC:Lb:=[W0 0 77 10 7,Wc 1 78 77,Fm 2 79 13,Fm 4 81 13,Fm 7 84 13,Fm 11 88 13,W0 12 89 10 5,Wc 13 90 89,Wg 14 91 .and 88 90,Fm 15 92 13,Fs 16 93 (.un .xor (.t 92)),W0 17 94 10 6,Wc 18 95 94,Wg 19 96 .and 93 95,Wg 20 97 .xor 91 96,Fm 22 99 11,Fs 23 100 (.iaddrA 64 1 (.c (.pp iR)) (.t 99)),Wc 24 101 100,Fm 26 103 11,WG 27 104 4 103,Wc 28 105 104,WI 3 80 157 79 (-6),WI 5 82 157 81 (-11),Wg 6 83 .xor 80 82,WI 8 85 157 84 (-25),Wg 9 86 .xor 83 85,Wg 10 87 .add 78 86,Wg 21 98 .add 87 97,Wg 25 102 .add 98 101,Wg 29 106 .add 102 105,Fm 30 14 106]
def BB:Lb:=[Fm 0 107 12,Fm 2 109 12,Fm 5 112 12,Fm 8 115 12,W0 9 116 10 1,Wc 10 117 116,Wg 11 118 .and 115 117,Wt 12 119,W0 13 120 10 2,Wc 14 121 120,Wg 15 122 .and 119 121,Wg 16 123 .xor 118 122,W0 17 124 10 1,Wc 18 125 124,W0 19 126 10 2,Wc 20 127 126,Wg 21 128 .and 125 127,Wg 22 129 .xor 123 128,WI 1 108 157 107 (-2),WI 3 110 157 109 (-13),Wg 4 111 .xor 108 110,WI 6 113 157 112 (-22),Wg 7 114 .xor 111 113,Wg 23 130 .add 114 129,Fm 24 15 130]
def BA:La:=[om 131 14,Wa 132 15,Wf 133 .add 131 132,W5 134 10 0,Wd 135 134,W5 136 10 1,Wd 137 136,W5 138 10 2,Wd 139 138,W5 140 10 3,Wd 141 140,Wa 142 14,Wf 143 .add 141 142,W5 144 10 4,Wd 145 144,W5 146 10 5,Wd 147 146,W5 148 10 6,Wd 149 148,oo 150 (.build [.int .u32 0,.int .u32 0,.int .u32 0,.int .u32 0,.int .u32 0,.int .u32 0,.int .u32 0,.int .u32 0] [(0,1,(.t 133)),(1,1,(.t 135)),(2,1,(.t 137)),(3,1,(.t 139)),(4,1,(.t 143)),(5,1,(.t 145)),(6,1,(.t 147)),(7,1,(.t 149))]) [133,135,137,139,143,145,147,149],Wv 8 10 150]
def Bz:La:=[Wb 151 .add 70 1,Wa 70 151]
def tj:RC:=(So BF (Sq (Xv 71 [4,70,71] (.exit 2)) (Sq (Bk 3 (So BE (Sq (.flt [0,1,0,4,3,31] [] BD [73,74,75,76]) (Sq (.flt [0,1,0,4,0,28,60,0,188,508,1023,0,0,4096,14336,0,32768,0,131072,491520,1046528,2097151,0,4194304,12582912,33554431,0,67108864,201326592,536870911,1073741823] [] BC [11,13,77,78,79,80,81,82,83,84,85,86,87,88,89,90,91,92,93,94,95,96,97,98,99,100,101,102,103,104,105,106]) (Sq (.flt [0,1,0,7,15,0,47,127,0,0,512,1792,0,0,8192,28672,65280,0,131072,0,524288,1966080,4194048,8388607,16777215] [] BB [12,107,108,109,110,111,112,113,114,115,116,117,118,119,120,121,122,123,124,125,126,127,128,129,130]) (.ops BA)))))) (.ops Bz))))
def sD:RC:=tj
def By:La:=[Wj 152 0]
def Bx:La:=[WD 153 .lss 152 8]
def Bw:La:=[om 154 152,Wa 16 154]
def Bv:Lb:=[Wt 0 155,Fm 1 156 16,Wu 2 157 155,Fs 3 158 (.iaddrA 8 1 (.t 157) (.t 156)),Wc 4 159 158,Fm 5 160 16,Fs 6 161 (.iaddrA 8 1 (.t 10) (.t 160)),Wc 7 162 161,Wg 8 163 .add 159 162,Wu 9 164 155,Fs 10 165 (.iaddrA 8 1 (.t 164) (.t 156)),Fr 11 1 165 163]
def Bu:La:=[Wb 166 .add 152 1,Wa 152 166]
def th:RC:=(So Bx (Sq (Xv 153 [0,10,152,153] (.exit 4)) (Sq (Bk 5 (So Bw (.flt [0,0,1,7,15,0,32,96,255,1,1023,2047] [] Bv [16,155,156,157,158,159,160,161,162,163,164,165]))) (.ops Bu))))
def sC:RC:=th
def xkw:RC:=(So Mo (Sq (So xO (Bk 0 (.loop sE))) (So BH (Sq (So BG (Bk 2 (.loop sD))) (So By (Bk 4 (.loop sC)))))))
def xbA:FnC:=⟨xkw,167,[],[],[]⟩
def Mf:La:=[on 10 (Mb true)]
def Me:La:=[on 11 (Mb true)]
def Md:La:=[om 21 2,om 22 1,Wf 23 .sub 21 22,Wa 12 23]
def Ma:La:=[om 24 12,Wb 25 .leq 24 12]
def L9:La:=[Wa 26 0,Wa 27 1,Wa 28 2,Wa 29 4,Xn 30 158 26 27 28 29]
def L8:La:=[om 31 3,Wb 32 .eql 31 0]
def L7:La:=[Wa 33 0,Wa 34 1,Wa 35 2,Wa 36 4,Xn 37 159 33 34 35 36]
def L6:La:=[om 38 10,WV 39 38]
def L5:La:=[om 40 0,om 41 1,om 42 2,om 43 4,Xn 44 160 40 41 42 43]
def L4:La:=[Wa 45 3,Wb 46 .sub 45 1,Wa 3 46]
def Bt:La:=[om 48 0,om 49 1,om 50 2,om 51 4,oo 52 (Ca 161 [.t 48,.t 49,.t 50,.t 51]) [48,49,50,51],Wa 47 52,WK 53 47 0,WL 54 47 1,Wa 13 53,Wa 14 54]
def Bs:La:=[om 55 14,Wb 56 .eql 55 2]
def Br:La:=[om 57 0,om 58 1,om 59 2,om 60 4,Xn 61 162 57 58 59 60]
def Bq:La:=[om 62 2,Wb 63 .sub 62 1,Wa 64 13,om 65 1,Wf 66 .sub 64 65,Wf 67 .sub 63 66,Wa 13 67]
def Bp:La:=[Wj 14 1]
def Bo:La:=[om 68 10,Wa 69 68,.grp 69 true [(xi 70 69 true (Mv 11))] [],Ww 71 69 70,Wa 72 71,.grp 72 true [(xi 73 72 true (Mv 14)),(xi 74 72 true (Bc .eql 73 1))] [14,73],Ww 75 72 74]
def Bn:La:=[om 76 0,om 77 1,om 78 2,om 79 4,oo 80 (Ca 163 [.t 76,.t 77,.t 78,.t 79]) [76,77,78,79]]
def Bm:Lb:=[Fm 0 81 1,Ws 1 82 .gtr 81 0,Fm 2 83 82,Wy 3 84 83 true 4,Wy 4 85 83 true 0,Wy 5 86 83 true 1,Fi 6 87 83 true (Bc .sub 86 1),Fi 7 88 83 true (Ia 4 85 87),Fi 8 89 83 true (Lt 4 88),Wy 9 90 83 true 0,Wy 10 91 83 true 13,Fi 11 92 83 true (Ia 4 90 91),Fi 12 93 83 true (Lt 4 92),Fy 13 94 83 true (.call (.t 84) [.t 89,.t 93]),Fi 14 95 83 true (Bc .lss 94 0),Fi 15 96 83 true (.un .not (.t 95)),Fs 16 97 (Pf 83 96)]
def Bl:La:=[om 98 0,Wa 99 1,om 100 2,Wa 101 13,om 102 4,oo 103 (Ca 164 [.t 98,.t 99,.t 100,.t 101,.t 102]) [98,99,100,101,102],Wa 15 103]
def Bj:La:=[Wa 104 15,Wa 1 104]
def Bi:La:=[om 106 0,om 107 1,om 108 2,Wa 109 13,om 110 4,oo 111 (Ca 165 [.t 106,.t 107,.t 108,.t 109,.t 110]) [106,107,108,109,110],Wa 105 111,WK 112 105 0,WL 113 105 1,Wa 16 112,Wa 17 113]
def Bh:La:=[Wa 114 17,Wa 11 114]
def Bg:La:=[om 115 16,om 116 1,Wf 117 .sub 115 116,om 118 2,om 119 16,Wf 120 .sub 118 119,Wa 18 117,Wa 19 120]
def Bf:La:=[Wa 121 12,Wb 122 .quo 121 8,Wa 20 122]
def Be:La:=[om 123 18,om 124 19,Wf 125 .lss 123 124]
def Bd:La:=[Wa 126 18,Wa 127 20,Wf 128 .geq 126 127,Wa 10 128]
def Ba:La:=[om 129 0,Wa 130 1,om 131 16,om 132 3,om 133 4,oo 134 (Ca 135 [.t 129,.t 130,.t 131,.t 132,.t 133]) [129,130,131,132,133,134]]
def A9:La:=[Wa 135 16,Wb 136 .add 135 1,Wa 1 136]
def A8:La:=[Wa 137 19,Wa 138 20,Wf 139 .geq 137 138,Wa 10 139]
def A7:La:=[om 140 0,om 141 16,Wb 142 .add 141 1,Wa 143 2,om 144 3,om 145 4,oo 146 (Ca 135 [.t 140,.t 142,.t 143,.t 144,.t 145]) [140,142,143,144,145,146]]
def A6:La:=[Wa 147 16,Wa 2 147]
def tg:RC:=(Bk 1 (So Md (Sq (So Ma (Xw 25 [3,10,11,12,25] (So L9 .ret))) (Sq (So L8 (Xw 32 [3,10,11,12,32] (So L7 .ret))) (Sq (So L6 (Xw 39 [39] (So L5 (.ops L4)))) (So Bt (Sq (So Bs (Xw 56 [14,56] (So Br (So Bq (.ops Bp))))) (Sq (So Bo (Xw 75 [75] (So Bn (Xw 80 [0,1,2,3,4,10,11,12,13,80] .ret)))) (Sq (Sq (.flt [0,1,3,7,7,7,39,119,247,7,7,1543,3591,8191,16383,32767,65535] [] Bm [81,82,83,84,85,86,87,88,89,90,91,92,93,94,95,96]) (Kc 97 (Kk [12,97] (So Bl (So Bj (.exit 1)))) (Kk [10,11,97] .skip))) (So Bi (So Bh (So Bg (So Bf (So Be (Kc 125 (Kk [19,125] (So Bd (So Ba (.ops A9)))) (Kk [18,125] (So A8 (So A7 (.ops A6)))))))))))))))))))
def A5:RC:=tg
def xkv:RC:=(So Mf (So Me (Bk 0 (.loop A5))))
def xbz:FnC:=⟨xkv,148,[],[],[]⟩
def L3:La:=[Wa 3 0,Xm 4 3,Wn 5 166 4,Wa 2 5]
def L2:La:=[Wa 6 0,Wn 7 167 6,Wa 2 7]
def xku:RC:=(So jm (Sq (.cond (.c (.bool false)) (So L3 .ret) .skip) (So L2 .ret)))
def xby:FnC:=⟨xku,8,[.tmp 2],[],[]⟩
def L1:La:=[Wa 5 0,on 6 (Ln 5),Wj 7 0]
def L0:La:=[on 8 (Bb .lss 7 6)]
def LZ:La:=[on 9 (Ia 1 5 7),Wd 10 9,Wa 4 10]
def LY:La:=[om 11 4,Xc 12 .lss 11,Wa 13 12,.grp 13 false [(xi 14 13 false (Mv 4)),(xi 15 13 false (.bin .gtr (.t 14) (.c (.u8 126))))] [4,14],Wi 16 13 15]
def LX:La:=[Wb 17 .add 7 1,Wa 7 17]
def zi:RC:=(So L0 (Sq (Xv 8 [5,6,7,8] (.exit 0)) (Sq (Bk 1 (So LZ (So LY (Xw 16 [5,6,7,16] (So nu .ret))))) (.ops LX))))
def yd:RC:=zi
def xkt:RC:=(So wu (Sq (So L1 (Bk 0 (.loop yd))) (So qe .ret)))
def xbx:FnC:=⟨xkt,18,[.tmp 2],[],[]⟩
def LK:La:=[om 3 0,Wa 4 0,Wf 5 .neq 3 4,Wa 2 5]
def xks:RC:=(So wu (So LK .ret))
def xbw:FnC:=⟨xks,6,[.tmp 2],[],[]⟩
def LJ:La:=[on 17 (.lit 1 [(.c (.int .u32 1732584193)),(.c (.int .u32 4023233417)),(.c (.int .u32 2562383102)),(.c (.int .u32 271733878)),(.c (.int .u32 3285377520))]),Wa 3 17]
def LI:La:=[Wa 18 0,Wn 19 116 18,Wa 4 19]
def LH:La:=[om 20 5,om 21 4,Wm 22 21,Wf 23 .lss 20 22]
def LG:La:=[on 6 (.new (.arr 1 (ao 80 [.int .u32 0])))]
def LF:La:=[om 26 7,Wb 27 .lss 26 80]
def LD:La:=[om 30 7,Wb 31 .lss 30 16]
def LC:La:=[om 32 7,om 33 4,om 34 5,om 35 5,Wb 36 .add 35 64,Xq 37 1 33 34 36,om 38 7,Wz 39 117 37 38,oo 40 (.iaddrA 80 1 (.t 6) (.t 32)) [32],Wq 1 40 39]
def A4:Lb:=[Fm 0 41 7,Fm 1 42 7,Ws 2 43 .sub 42 3,WS 3 44 6 43,Wc 4 45 44,Fm 5 46 7,Ws 6 47 .sub 46 8,WS 7 48 6 47,Wc 8 49 48,Wg 9 50 .xor 45 49,Fm 10 51 7,Ws 11 52 .sub 51 14,WS 12 53 6 52,Wc 13 54 53,Wg 14 55 .xor 50 54,Fm 15 56 7,Ws 16 57 .sub 56 16,WS 17 58 6 57,Wc 18 59 58,Wg 19 60 .xor 55 59,Fz 20 61 (Ca 170 [.t 60,(.c (.int .u64 1))]),WS 21 62 6 41,Fr 22 1 62 61]
def A3:La:=[Wa 28 7,Wb 29 .add 28 1,Wa 7 29]
def te:RC:=(Sq (So LF (Xv 27 [7,27] (.exit 2))) (Sq (Bk 3 (Sq (So LD (Xw 31 [31] (So LC (.exit 3)))) (.flt [0,0,2,6,14,0,32,96,224,510,0,1024,3072,7168,16382,0,32768,98304,229376,524286,1048574,2097151,4194303] [] A4 [41,42,43,44,45,46,47,48,49,50,51,52,53,54,55,56,57,58,59,60,61,62]))) (.ops A3)))
def sB:RC:=te
def A1:Lb:=[Fm 0 63 3,WB 1 64 1 63 0,Wc 2 65 64,Wt 3 66,WB 4 67 1 66 1,Wc 5 68 67,Fm 6 69 3,WB 7 70 1 69 2,Wc 8 71 70,Fm 9 72 3,WB 10 73 1 72 3,Wc 11 74 73,Fm 12 75 3,WB 13 76 1 75 4,Wc 14 77 76,Fm 15 8 65,Fm 16 9 68,Fm 17 10 71,Fm 18 11 74,Fm 19 12 77]
def AZ:La:=[Wj 13 0]
def AY:La:=[om 78 13,Wb 79 .lss 78 80]
def AX:La:=[om 82 9,om 83 10,Wf 84 .xor 82 83,om 85 11,Wf 86 .xor 84 85,Wa 14 86,on 15 (.mov (.c (.int .u32 3395469782)))]
def AW:La:=[om 88 13,Wb 89 .lss 88 20,Wa 87 89]
def AV:La:=[om 90 9,om 91 10,Wf 92 .and 90 91,om 93 9,oo 94 (.un .xor (.t 93)) [93],om 95 11,Wf 96 .and 94 95,Wf 97 .xor 92 96,Wa 14 97,on 15 (.mov (.c (.int .u32 1518500249)))]
def AU:La:=[om 99 13,Wb 100 .lss 99 40,Wa 98 100]
def AT:La:=[on 15 (.mov (.c (.int .u32 1859775393)))]
def AS:La:=[om 102 13,Wb 103 .lss 102 60,Wa 101 103]
def AR:La:=[om 104 9,om 105 10,Wf 106 .and 104 105,om 107 9,om 108 11,Wf 109 .and 107 108,Wf 110 .xor 106 109,om 111 10,om 112 11,Wf 113 .and 111 112,Wf 114 .xor 110 113,Wa 14 114,on 15 (.mov (.c (.int .u32 2400959708)))]
def AQ:Lb:=[Fm 0 115 8,Fm 2 117 14,Fm 4 119 12,Fm 6 121 15,Fm 8 123 13,WS 9 124 6 123,Wc 10 125 124,Fz 1 116 (Ca 170 [.t 115,(.c (.int .u64 5))]),Wg 3 118 .add 116 117,Wg 5 120 .add 118 119,Wg 7 122 .add 120 121,Wg 11 126 .add 122 125,Fm 12 16 126]
def AP:La:=[Wa 127 16,Wa 128 8,Wa 129 9,oo 130 (Ca 170 [.t 129,(.c (.int .u64 30))]) [129],Wa 131 10,Wa 132 11,Wa 8 127,Wa 9 128,Wa 10 130,Wa 11 131,Wa 12 132]
def AO:La:=[Wa 80 13,Wb 81 .add 80 1,Wa 13 81]
def td:RC:=(Sq (So AY (Xv 79 [6,13,79] (.exit 4))) (Sq (Bk 5 (So AX (Sq (Bk 6 (So AW (Kc 87 (Kk [14,15,87] (.ops AV)) (Kk [87] (So AU (Kc 98 (Kk [15,98] (.ops AT)) (Kk [98] (So AS (Xw 101 [14,15,101] (.ops AR)))))))))) (Sq (.flt [0,1,0,7,0,31,0,127,0,256,768,2047,4095] [] AQ [12,14,15,115,116,117,118,119,120,121,122,123,124,125,126]) (.ops AP))))) (.ops AO)))
def fL:RC:=td
def AN:Lb:=[Fm 0 133 3,WB 1 134 1 133 0,Wc 2 135 134,Fm 3 136 8,Wg 4 137 .add 135 136,Fm 5 138 3,WB 6 139 1 138 1,Wc 7 140 139,Fm 8 141 9,Wg 9 142 .add 140 141,Fm 10 143 3,WB 11 144 1 143 2,Wc 12 145 144,Fm 13 146 10,Wg 14 147 .add 145 146,Fm 15 148 3,WB 16 149 1 148 3,Wc 17 150 149,Fm 18 151 11,Wg 19 152 .add 150 151,Fm 20 153 3,WB 21 154 1 153 4,Wc 22 155 154,Fm 23 156 12,Wg 24 157 .add 155 156,Fs 25 158 (.lit 1 [.t 137,.t 142,.t 147,.t 152,.t 157]),⟨26,false,(xm 3 158)⟩]
def AM:La:=[Wa 24 5,Wb 25 .add 24 64,Wa 5 25]
def tc:RC:=(.post (Sq (So LH (Xv 23 [4,5,23] (.exit 0))) (Sq (Bk 1 (So LG (Sq (So yr (Bk 2 (.loop sB))) (Sq (.flt [0,1,3,0,8,24,0,64,192,0,512,1536,0,4096,12288,7,32831,98815,233471,524287] [] A1 [63,64,65,66,67,68,69,70,71,72,73,74,75,76,77]) (Sq (So AZ (Bk 4 (.loop fL))) (.flt [0,1,3,0,15,0,32,96,0,480,0,1024,3072,0,15360,0,32768,98304,0,491520,0,1048576,3145728,0,15728640,33554431,67108863] [] AN [8,9,10,11,12,133,134,135,136,137,138,139,140,141,142,143,144,145,146,147,148,149,150,151,152,153,154,155,156,157,158])))))) (.ops AM))) [.gc [106]])
def sA:RC:=tc
def AL:La:=[Wa 159 3,Wn 160 119 159,Wa 2 160]
def xkr:RC:=(So lX (So LJ (So LI (Sq (So lM (Bk 0 (.loop sA))) (So AL .ret)))))
def xbv:FnC:=⟨xkr,161,[.tmp 2],[],[]⟩
def LA:La:=[om 10 1,Wb 11 .eql 10 10]
def Lz:La:=[om 12 0,WN 13 .leq 0 12,Wa 14 13,.grp 14 true [(xi 15 14 true (Mv 0)),(xi 16 14 true (Bc .lss 15 100))] [15],Ww 17 14 16]
def Ly:La:=[Wa 18 0,Wn 19 171 18,Wa 4 19]
def Lx:La:=[on 5 (.new (.bar (ao 24 0)))]
def Lw:La:=[om 20 0,WO 21 20,Wa 6 21]
def Lv:La:=[om 22 0,Wb 23 .lss 22 0]
def Lu:La:=[Wa 24 6,oo 25 (.un .neg (.t 24)) [24],Wa 6 25]
def Ls:La:=[om 26 6,Wn 27 172 26,Wa 7 27]
def Lr:La:=[om 28 7,WN 29 .add 1 28,oo 30 (.slcA 24 1 (.t 5) (some (ci 1)) (some (.t 29)) none) [29],Wa 31 6,Xd 32 173 30 31]
def AK:La:=[Wa 33 0,Wb 34 .lss 33 0]
def AJ:La:=[on 35 (.iaddrA 24 1 (.t 5) (ci 0)),.op ⟨none,none,.store 1 (.t 35) (.c (.u8 45))⟩ [35]]
def AI:La:=[Wa 36 7,WN 37 .add 1 36,oo 38 (.slcA 24 1 (.t 5) none (some (.t 37)) none) [5,37],WQ 39 38,Wa 4 39]
def AH:La:=[Wa 40 7,WN 41 .add 1 40,oo 42 (.slcA 24 1 (.t 5) (some (ci 1)) (some (.t 41)) none) [5,41],WQ 43 42,Wa 4 43]
def AG:La:=[om 45 0,WO 46 45,Wa 47 1,Wa 48 0,Wb 49 .lss 48 0,oo 50 (Ca 174 [(.c (.byt [] .clip)),.t 46,.t 47,.t 49,(.c (.bool false))]) [46,47,49],Wa 44 50,WK 51 44 0,WL 52 44 1,.op (xm 8 51) [8,51],Wa 9 52]
def AF:La:=[Wa 53 9,Wa 4 53]
def xkq:RC:=(So qw (Sq (So LA (Xw 11 [1,11] (Sq (So Lz (Xw 17 [17] (So Ly .ret))) (So Lx (So Lw (Sq (So Lv (Xw 23 [23] (.ops Lu))) (So Ls (So Lr (Sq (So AK (Xw 34 [34] (So AJ (So AI .ret)))) (So AH .ret)))))))))) (So AG (So AF .ret))))
def xbu:FnC:=⟨xkq,54,[.tmp 4],[],[]⟩
def Lq:La:=[om 5 0,WF 6 true 5,Wb 7 .gtr 6 0,Wa 8 7,.grp 8 true [(xi 9 8 true (Mv 0)),(xi 10 8 true (.idxS (.t 9) (ci 0))),(xi 11 8 true (Mv 1)),(xi 12 8 true (Bb .eql 10 11))] [9,10,11],Ww 13 8 12]
def Lp:La:=[Wa 14 0,oo 15 (.slcS (.t 14) (some (ci 1)) none) [14],Wa 0 15]
def zf:RC:=(Sq (So Lq (Xv 13 [1,13] (.exit 0))) (Bk 1 (.ops Lp)))
def yb:RC:=zf
def Lo:La:=[Wa 16 0,Wa 4 16]
def xkp:RC:=(So qw (Sq (Bk 0 (.loop yb)) (So Lo .ret)))
def xbt:FnC:=⟨xkp,17,[.tmp 4],[],[]⟩
def Lm:La:=[om 5 0,WF 6 true 5,Wb 7 .gtr 6 0,Wa 8 7,.grp 8 true [(xi 9 8 true (Mv 0)),(xi 10 8 true (Mv 0)),(xi 11 8 true (.len true (.t 10))),(xi 12 8 true (Bc .sub 11 1)),(xi 13 8 true (.idxS (.t 9) (.t 12))),(xi 14 8 true (Mv 1)),(xi 15 8 true (Bb .eql 13 14))] [9,10,11,12,13,14],Ww 16 8 15]
def Ll:La:=[om 17 0,Wa 18 0,WF 19 true 18,Wb 20 .sub 19 1,oo 21 (.slcS (.t 17) none (some (.t 20))) [17,20],Wa 0 21]
def ze:RC:=(Sq (So Lm (Xv 16 [1,16] (.exit 0))) (Bk 1 (.ops Ll)))
def ya:RC:=ze
def Lk:La:=[Wa 22 0,Wa 4 22]
def xko:RC:=(So qw (Sq (Bk 0 (.loop ya)) (So Lk .ret)))
def xbs:FnC:=⟨xko,23,[.tmp 4],[],[]⟩
def K7:La:=[om 5 0,WF 6 true 5,om 7 1,WF 8 true 7,Wf 9 .geq 6 8,Wa 10 9,.grp 10 true [(xi 11 10 true (Mv 0)),(xi 12 10 true (Mv 1)),(xi 13 10 true (.len true (.t 12))),(xi 14 10 true (.slcS (.t 11) none (some (.t 13)))),(xi 15 10 true (Mv 1)),(xi 16 10 true (Bb .eql 14 15))] [0,1,11,12,13,14,15],Ww 17 10 16,Wa 4 17]
def xkn:RC:=(So oB (So K7 .ret))
def xbr:FnC:=⟨xkn,18,[.tmp 4],[],[]⟩
def K6:La:=[om 11 0,WF 12 true 11,Wa 4 12]
def K5:La:=[on 13 (Mb false),.grp 13 true [(xi 14 13 true (Mv 4)),(xi 15 13 true (.bin .lss (ci 0) (.t 14))),(xi 16 13 true (Mv 15))] [14,15],.grp 16 true [(xi 17 16 true (Mv 4)),(xi 18 16 true (Bc .lss 17 10))] [17],.grp 13 true [(xi 19 13 true (Pf 16 18))] [16,18],Ww 20 13 19,Wa 21 20,.grp 21 false [(xi 22 21 false (Mb true))] [],.grp 22 true [(xi 23 22 true (Mv 4)),(xi 24 22 true (.bin .lss (ci 0) (.t 23))),(xi 25 22 true (Mv 24))] [23,24],.grp 25 true [(xi 26 25 true (Mv 4)),(xi 27 25 true (Bc .lss 26 19))] [4,26],.grp 22 true [(xi 28 22 true (Pf 25 27))] [25,27],.grp 21 false [(xi 29 21 false (Pf 22 28))] [22,28],Wi 30 21 29]
def K4:La:=[om 31 0,Wa 5 31]
def K3:La:=[om 32 0,oo 33 (.idxS (.t 32) (ci 0)) [32],oo 34 (.bin .eql (.t 33) (.c (.u8 45))) [33],Wa 35 34,.grp 35 false [(xi 36 35 false (Mv 0)),(xi 37 35 false (.idxS (.t 36) (ci 0))),(xi 38 35 false (.bin .eql (.t 37) (.c (.u8 43))))] [36,37],Wi 39 35 38]
def K2:La:=[Wa 40 0,oo 41 (.slcS (.t 40) (some (ci 1)) none) [40],Wa 0 41]
def K1:La:=[om 42 0,WF 43 true 42,Wb 44 .lss 43 1]
def K0:La:=[Wa 46 0,W9 47 46,on 48 (Ln 47),Wj 49 0]
def KZ:La:=[on 50 (Bb .lss 49 48)]
def AE:La:=[on 51 (Ia 1 47 49),Wd 52 51,Wa 8 52]
def AD:La:=[Wa 53 8,oo 54 (.bin .sub (.t 53) (.c (.u8 48))) [53],Wa 8 54]
def AC:La:=[om 55 8,oo 56 (.bin .gtr (.t 55) (.c (.u8 9))) [55]]
def AB:La:=[Wa 58 6,Wb 59 .mul 58 10,Wa 60 8,Xk 61 60,Wf 62 .add 59 61,Wa 6 62]
def AA:La:=[Wb 63 .add 49 1,Wa 49 63]
def ta:RC:=(So KZ (Sq (Xv 50 [47,48,49,50] (.exit 0)) (Sq (Bk 1 (So AE (So AD (Sq (So AC (Xw 56 [5,6,8,47,48,49,56] (Sq .bad .ret))) (.ops AB))))) (.ops AA))))
def oD:RC:=ta
def Az:La:=[Wa 64 5,oo 65 (.idxS (.t 64) (ci 0)) [64],oo 66 (.bin .eql (.t 65) (.c (.u8 45))) [65]]
def Ay:La:=[Wa 67 6,oo 68 (.un .neg (.t 67)) [67],Wa 6 68]
def Ax:La:=[Wa 69 6,Wa 2 69,on 3 (.mov (.c .nili))]
def Aw:La:=[Wa 71 0,oo 72 (Ca 179 [.t 71,ci 10,ci 0]) [71],Wa 70 72,WK 73 70 0,WL 74 70 1,Wa 9 73,Wa 10 74]
def Av:La:=[Wa 75 9,Wa 76 10,Wa 2 75,Wa 3 76]
def xkm:RC:=(So yh (So K6 (Sq (So K5 (Xw 30 [30] (So K4 (Sq (So K3 (Xw 39 [39] (So K2 (So K1 (Xw 44 [0,5,44] (Sq .bad .ret)))))) (So nM (Sq (So K0 (Bk 0 (.loop oD))) (Sq (So Az (Xw 66 [66] (.ops Ay))) (So Ax .ret)))))))) (So Aw (So Av .ret)))))
def xbq:FnC:=⟨xkm,77,[.tmp 2,.tmp 3],[],[]⟩
def xkl:RC:=(So nN (Sq (.flt [0,0,2,7,15,31,63,0,0,256,768,1920,3968,8064,16256,32767,0,0,131072,393216,983040,2031616,4128768,8323072,16777215,0,0,67108864,201326592,503316480,1040187392,2113929216,4294967295,8589934591] [] ym [0,1,5,6,7,8,9,10,11,12,13,14,15,16,17,18,19,20,21,22,23,24,25,26,27,28,29,30,31,32,33,34,35,36,37]) .ret))
def xbp:FnC:=⟨xkl,38,[.tmp 4],[],[]⟩
def KY:La:=[Wa 6 1,WO 7 6,oo 8 (.bin .and (.t 7) (.c (.int .u64 31))) [7],Wa 5 8]
def KX:La:=[om 9 0,om 10 5,Wf 11 .shl 9 10,Wa 12 0,Wa 13 5,Xu 14 .sub 13,Wf 15 .shr 12 14,Wf 16 .or 11 15,Wa 4 16]
def xkk:RC:=(So nN (So KY (So KX .ret)))
def xbo:FnC:=⟨xkk,17,[.tmp 4],[],[]⟩
def KW:La:=[om 10 1,Wb 11 .add 10 1,Wa 8 11]
def KV:La:=[om 12 8,om 13 2,Wf 14 .lss 12 13]
def KU:La:=[om 17 8,Wa 9 17]
def KT:Lb:=[Fm 0 18 9,Wt 1 19,Wg 2 20 .gtr 18 19,Fm 3 21 20,Wy 4 22 21 true 3,Wy 5 23 21 true 0,Wy 6 24 21 true 9,Fi 7 25 21 true (Ia 4 23 24),Fi 8 26 21 true (Lt 4 25),Wy 9 27 21 true 0,Wy 10 28 21 true 9,Fi 11 29 21 true (Bc .sub 28 1),Fi 12 30 21 true (Ia 4 27 29),Fi 13 31 21 true (Lt 4 30),Fy 14 32 21 true (.call (.t 22) [.t 26,.t 31]),Fi 15 33 21 true (Bc .lss 32 0),Fs 16 34 (Pf 21 33)]
def KS:Lb:=[Wt 0 37,Fm 1 38 9,Fm 2 39 0,Fm 3 40 9,Ws 4 41 .sub 40 1,Fm 5 42 0,Fm 6 43 9,Ws 7 44 .sub 43 1,Wr 8 45 4 42 44,Fs 9 46 (Lt 4 45),Fm 10 47 0,Fm 11 48 9,Wr 12 49 4 47 48,Fs 13 50 (Lt 4 49),Wr 14 51 4 37 38,Fr 15 4 51 46,Wr 16 52 4 39 41,Fr 17 4 52 50]
def KR:La:=[Wa 35 9,Wb 36 .sub 35 1,Wa 9 36]
def za:RC:=(Sq (Sq (.flt [0,0,3,7,15,15,15,111,239,15,15,1039,3599,7695,16383,32767,65535] [] KT [18,19,20,21,22,23,24,25,26,27,28,29,30,31,32,33]) (Xv 34 [9,34] (.exit 2))) (Sq (Bk 3 (.flt [0,0,0,0,8,0,0,64,224,480,0,0,3072,7168,16355,32739,65535,131071] [] KS [37,38,39,40,41,42,43,44,45,46,47,48,49,50,51,52])) (.ops KR)))
def x9:RC:=za
def KQ:La:=[Wa 15 8,Wb 16 .add 15 1,Wa 8 16]
def y9:RC:=(Sq (So KV (Xv 14 [0,1,2,3,8,14] (.exit 0))) (Sq (Bk 1 (So KU (Bk 2 (.loop x9)))) (.ops KQ)))
def x8:RC:=y9
def xkj:RC:=(So KW (Bk 0 (.loop x8)))
def xbn:FnC:=⟨xkj,53,[],[],[]⟩
def KP:La:=[om 3 0,oo 4 (.bin .geq (.t 3) (.c (.int .u64 4294967296))) [3]]
def KO:La:=[Wa 5 0,oo 6 (.bin .shr (.t 5) (.c (.int .u64 32))) [5],Wa 0 6]
def KN:La:=[Wj 2 32]
def KM:La:=[om 7 0,oo 8 (.bin .geq (.t 7) (.c (.int .u64 65536))) [7]]
def KL:La:=[Wa 9 0,Xs 10 .shr 9,Wa 0 10]
def KK:La:=[Wa 11 2,Wb 12 .add 11 16,Wa 2 12]
def KJ:La:=[om 13 0,oo 14 (.bin .geq (.t 13) (.c (.int .u64 256))) [13]]
def KI:La:=[Wa 15 0,Xa 16 .shr 15,Wa 0 16]
def KH:La:=[Wa 17 2,Wb 18 .add 17 8,Wa 2 18]
def Au:La:=[Wa 19 2,Wa 20 0,WE 21 20,oo 22 (.idxS (.c (.str cs0)) (.t 21)) [21],Xk 23 22,Wf 24 .add 19 23,Wa 2 24]
def xki:RC:=(So i0 (Sq (So KP (Xw 4 [2,4] (So KO (.ops KN)))) (Sq (So KM (Xw 8 [8] (So KL (.ops KK)))) (Sq (So KJ (Xw 14 [14] (So KI (.ops KH)))) (So Au .ret)))))
def xbm:FnC:=⟨xki,25,[.tmp 2],[],[]⟩
def Ku:La:=[om 5 0,om 6 1,Wf 7 .shl 5 6,Wa 8 0,Wa 9 1,Xu 10 .sub 9,Wf 11 .shr 8 10,Wf 12 .or 7 11,Wa 4 12]
def xkh:RC:=(So nN (So Ku .ret))
def xbl:FnC:=⟨xkh,13,[.tmp 4],[],[]⟩
def Kt:La:=[om 5 0,Wa 6 0,Wb 7 .add 6 1,oo 8 (.slcS (.c (.str cs1)) (some (.t 5)) (some (.t 7))) [5,7],Wa 2 8]
def Ks:La:=[om 9 0,Wb 10 .mul 9 2,Wa 11 0,Wb 12 .mul 11 2,Wb 13 .add 12 2,oo 14 (.slcS (.c (.str cs2)) (some (.t 10)) (some (.t 13))) [10,13],Wa 2 14]
def xkg:RC:=(So D9 (Sq (So Pd (Xw 4 [4] (So Kt .ret))) (So Ks .ret)))
def xbk:FnC:=⟨xkg,15,[.tmp 2],[],[]⟩
def Kr:La:=[om 4 0,Wn 5 167 4,Wn 6 189 5,Wa 3 6]
def Kq:La:=[om 7 3,Wa 8 0,Wa 9 3,oo 10 (.iaddrA 20 1 (.c (.pp iQ)) (.t 9)) [9],Wd 11 10,Wf 12 .geq 8 11,Wn 13 190 12,Wf 14 .add 7 13,Wa 2 14]
def xkf:RC:=(So jm (So Kr (So Kq .ret)))
def xbj:FnC:=⟨xkf,15,[.tmp 2],[],[]⟩
def Kp:La:=[om 17 0,Wm 18 17,Wa 4 18]
def Ko:La:=[om 19 4,Wb 20 .geq 19 8]
def Kn:La:=[om 21 1,oo 22 (.bin .rem (.t 21) (.c (.int .u64 100000000))) [21],Xm 23 22,Wa 5 23]
def Km:La:=[Wa 24 1,oo 25 (.bin .quo (.t 24) (.c (.int .u64 100000000))) [24],Wa 1 25]
def Kj:La:=[om 26 5,Xo 27 .quo 26,Wa 28 5,Xo 29 .rem 28,Wa 6 27,Wa 7 29]
def Ki:La:=[om 30 7,W1 31 .quo 30,W6 32 .mul 31,Wa 33 7,W1 34 .rem 33,W6 35 .mul 34,Wa 8 32,Wa 9 35]
def Kh:La:=[om 36 6,W1 37 .quo 36,W6 38 .mul 37,Wa 39 6,W1 40 .rem 39,W6 41 .mul 40,Wa 10 38,Wa 11 41]
def Kg:Lb:=[Wt 0 42,Fm 1 43 4,Ws 2 44 .sub 43 1,Fm 3 45 0,Wt 4 46,Ws 5 47 .sub 46 2,Fm 6 48 9,W7 7 49 .add 48,WP 8 50 49,Wt 9 51,WP 10 52 51,Wr 11 53 1 42 44,Fr 12 1 53 50,Wr 13 54 1 45 47,Fr 14 1 54 52]
def Kf:Lb:=[Wt 0 55,Fm 1 56 4,Ws 2 57 .sub 56 3,Fm 3 58 0,Wt 4 59,Ws 5 60 .sub 59 4,Fm 6 61 8,W7 7 62 .add 61,WP 8 63 62,Fm 9 64 8,WP 10 65 64,Wr 11 66 1 55 57,Fr 12 1 66 63,Wr 13 67 1 58 60,Fr 14 1 67 65]
def Ke:Lb:=[Wt 0 68,Fm 1 69 4,Ws 2 70 .sub 69 5,Fm 3 71 0,Wt 4 72,Ws 5 73 .sub 72 6,Fm 6 74 11,W7 7 75 .add 74,WP 8 76 75,Fm 9 77 11,WP 10 78 77,Wr 11 79 1 68 70,Fr 12 1 79 76,Wr 13 80 1 71 73,Fr 14 1 80 78]
def At:Lb:=[Wt 0 81,Fm 1 82 4,Ws 2 83 .sub 82 7,Fm 3 84 0,Wt 4 85,Ws 5 86 .sub 85 8,Fm 6 87 10,W7 7 88 .add 87,WP 8 89 88,Fm 9 90 10,WP 10 91 90,Wr 11 92 1 81 83,Fr 12 1 92 89,Wr 13 93 1 84 86,Fr 14 1 93 91]
def As:La:=[Wa 94 4,Wb 95 .sub 94 8,Wa 4 95]
def s9:RC:=(Sq (So Ko (Xv 20 [20] (.exit 0))) (Bk 1 (So Kn (So Km (So Kj (So Ki (So Kh (Sq (.flt [0,0,2,0,0,16,0,64,192,0,512,455,2503,8191,16383] [] Kg [9,42,43,44,45,46,47,48,49,50,51,52,53,54]) (Sq (.flt [0,0,2,0,0,16,0,64,192,0,512,455,2503,8191,16383] [] Kf [8,55,56,57,58,59,60,61,62,63,64,65,66,67]) (Sq (.flt [0,0,2,0,0,16,0,64,192,0,512,455,2503,8191,16383] [] Ke [11,68,69,70,71,72,73,74,75,76,77,78,79,80]) (Sq (.flt [0,0,2,0,0,16,0,64,192,0,512,455,2503,8191,16383] [] At [10,81,82,83,84,85,86,87,88,89,90,91,92,93]) (.ops As))))))))))))
def Ar:RC:=s9
def Aq:La:=[Wa 96 1,Xm 97 96,Wa 12 97]
def Ap:La:=[om 98 4,Wb 99 .geq 98 4]
def Ao:La:=[om 100 12,Xo 101 .rem 100,Wa 13 101]
def An:La:=[Wa 102 12,Xo 103 .quo 102,Wa 12 103]
def Am:La:=[om 104 13,W1 105 .quo 104,W6 106 .mul 105,Wa 107 13,W1 108 .rem 107,W6 109 .mul 108,Wa 14 106,Wa 15 109]
def Al:Lb:=[Wt 0 110,Fm 1 111 4,Ws 2 112 .sub 111 1,Fm 3 113 0,Wt 4 114,Ws 5 115 .sub 114 2,Fm 6 116 15,W7 7 117 .add 116,WP 8 118 117,Fm 9 119 15,WP 10 120 119,Wr 11 121 1 110 112,Fr 12 1 121 118,Wr 13 122 1 113 115,Fr 14 1 122 120]
def Ak:Lb:=[Wt 0 123,Fm 1 124 4,Ws 2 125 .sub 124 3,Fm 3 126 0,Wt 4 127,Ws 5 128 .sub 127 4,Fm 6 129 14,W7 7 130 .add 129,WP 8 131 130,Fm 9 132 14,WP 10 133 132,Wr 11 134 1 123 125,Fr 12 1 134 131,Wr 13 135 1 126 128,Fr 14 1 135 133]
def Aj:La:=[Wa 136 4,Wb 137 .sub 136 4,Wa 4 137]
def Ai:La:=[om 138 4,Wb 139 .geq 138 2]
def Ah:La:=[om 140 12,W1 141 .rem 140,W6 142 .mul 141,Wa 16 142]
def Ag:La:=[Wa 143 12,W1 144 .quo 143,Wa 12 144]
def Af:Lb:=[Wt 0 145,Fm 1 146 4,Ws 2 147 .sub 146 1,Fm 3 148 0,Wt 4 149,Ws 5 150 .sub 149 2,Fm 6 151 16,W7 7 152 .add 151,WP 8 153 152,Fm 9 154 16,WP 10 155 154,Wr 11 156 1 145 147,Fr 12 1 156 153,Wr 13 157 1 148 150,Fr 14 1 157 155]
def Ae:La:=[Wa 158 4,Wb 159 .sub 158 2,Wa 4 159]
def Ad:La:=[Wa 160 4,Wb 161 .gtr 160 0]
def Ac:La:=[Wa 162 0,Wa 163 12,oo 164 (.bin .add (.c (.int .u32 48)) (.t 163)) [163],WE 165 164,oo 166 (.iaddrL 1 (.t 162) (ci 0)) [162],Wq 1 166 165]
def xke:RC:=(So Kp (Sq (Bk 0 (.loop Ar)) (So Aq (Sq (So Ap (Xw 99 [99] (So Ao (So An (So Am (Sq (.flt [0,0,2,0,0,16,0,64,192,0,512,455,2503,8191,16383] [] Al [15,110,111,112,113,114,115,116,117,118,119,120,121,122]) (Sq (.flt [0,0,2,0,0,16,0,64,192,0,512,455,2503,8191,16383] [] Ak [14,123,124,125,126,127,128,129,130,131,132,133,134,135]) (.ops Aj)))))))) (Sq (So Ai (Xw 139 [139] (So Ah (So Ag (Sq (.flt [0,0,2,0,0,16,0,64,192,0,512,455,2503,8191,16383] [] Af [16,145,146,147,148,149,150,151,152,153,154,155,156,157]) (.ops Ae)))))) (So Ad (Kc 161 (Kk [161] (.ops Ac)) (Kk [0,12,161] .skip))))))))
def xbi:FnC:=⟨xke,167,[],[],[]⟩
def JT:La:=[Wa 3 0,Wb 4 .mul 3 78913,oo 5 (.bin .shr (.t 4) (.c (.int .u64 18))) [4],Wa 2 5]
def xkd:RC:=(So jm (So JT .ret))
def xbh:FnC:=⟨xkd,6,[.tmp 2],[],[]⟩
def xkc:RC:=(So jm (Sq (So Pe (Xw 3 [3] (So gP .ret))) (So i0 .ret)))
def xbg:FnC:=⟨xkc,4,[.tmp 2],[],[]⟩
theorem Fk{g:Nat}{F:FnC}{fn:Func}(h1:prog.funcs[g]? =some fn)(h3:fn.ntmps=F.n:=by kernel_rfl)(h2:fn.body.map (cu prog)=some F.code.er:=by kernel_rfl)(h4:(qb prog fn.results.toList F.rs&&ej prog g&&F.code.ok F.n)=true:=by kernel_rfl):bN prog g F:=by simp only[az]at h4;exact mz h1 h2 h3 h4.1.1 h4.1.2 h4.2
noncomputable def xj8:Nat->Option FnB
 |10=>some (.code F10)
 |12=>some (.code F12)
 |13=>some (.code F13)
 |14=>some (.code F14)
 |15=>some (.code F15)
 |16=>some (.code F16)
 |17=>some (.code F17)
 |18=>some (.code F18)
 |19=>some (.code F19)
 |20=>some (.code F20)
 |21=>some (.code F21)
 |23=>some (.code F23)
 |24=>some (.code F24)
 |28=>some (.code F28)
 |29=>some (.code F29)
 |31=>some (.code F31)
 |33=>some (.code F33)
 |34=>some (.code F34)
 |35=>some (.code F35)
 |37=>some (.code F37)
 |38=>some (.code F38)
 |40=>some (.code F40)
 |41=>some (.code F41)
 |42=>some (.code F42)
 |43=>some (.code F43)
 |44=>some (.code F44)
 |45=>some (.code F45)
 |46=>some (.code F46)
 |47=>some (.code F47)
 |48=>some (.code F48)
 |49=>some (.code F49)
 |50=>some (.code F50)
 |51=>some (.code F51)
 |52=>some (.code F52)
 |53=>some (.code F53)
 |54=>some (.code F54)
 |55=>some (.code F55)
 |56=>some (.code F56)
 |57=>some (.code F57)
 |58=>some (.code F58)
 |60=>some (.code F60)
 |61=>some (.code F61)
 |62=>some (.code F62)
 |63=>some (.code F63)
 |64=>some (.code F64)
 |65=>some (.code F65)
 |70=>some (.code F70)
 |71=>some (.code F71)
 |72=>some (.code F72)
 |73=>some (.code F73)
 |75=>some (.code F75)
 |76=>some (.code F76)
 |77=>some (.code F77)
 |78=>some (.code F78)
 |79=>some (.code F79)
 |80=>some (.code F80)
 |81=>some (.code F81)
 |82=>some (.code F82)
 |85=>some (.code F85)
 |86=>some (.code F86)
 |87=>some (.code F87)
 |88=>some (.code F88)
 |89=>some (.code F89)
 |90=>some (.code F90)
 |91=>some (.code F91)
 |92=>some (.code F92)
 |93=>some (.code F93)
 |94=>some (.code F94)
 |95=>some (.code F95)
 |98=>some (.code F98)
 |100=>some (.code xb4)
 |101=>some (.code xb3)
 |102=>some (.code xb2)
 |103=>some (.code xb1)
 |104=>some (.code xb0)
 |105=>some (.code xbZ)
 |106=>some (.code xbY)
 |108=>some (.code xbX)
 |109=>some (.code xbW)
 |110=>some (.code xbV)
 |111=>some (.code xbU)
 |112=>some (.code xbT)
 |113=>some (.code xbS)
 |114=>some (.code xbR)
 |115=>some (.code xbQ)
 |116=>some (.code xbP)
 |117=>some (.code xbO)
 |118=>some (.code xbN)
 |119=>some (.code xbM)
 |120=>some (.code xbL)
 |121=>some (.code xbK)
 |122=>some (.code xbJ)
 |123=>some (.code xbI)
 |124=>some (.code xbH)
 |127=>some (.code xbG)
 |128=>some (.code xbF)
 |129=>some (.code xbE)
 |131=>some (.code xbD)
 |132=>some (.code xbC)
 |133=>some (.code xbB)
 |134=>some (.code xbA)
 |135=>some (.code xbz)
 |136=>some (.code xby)
 |139=>some (.code xbx)
 |141=>some (.code xbw)
 |144=>some (.code xbv)
 |145=>some (.code xbu)
 |146=>some (.code xbt)
 |147=>some (.code xbs)
 |153=>some (.code xbr)
 |154=>some (.code xbq)
 |156=>some (.code xbp)
 |157=>some (.code xbo)
 |158=>some (.code xbn)
 |167=>some (.code xbm)
 |170=>some (.code xbl)
 |171=>some (.code xbk)
 |172=>some (.code xbj)
 |173=>some (.code xbi)
 |189=>some (.code xbh)
 |190=>some (.code xbg)
 |130=>some (.prim Pr.p130)
 |107=>some (.prim Pr.p107)
 |142=>some (.prim Pr.p142)
 |138=>some (.prim Pr.p138)
 |_=>none
def xlV:Nat->Sig
 |92=>⟨[],[0]⟩
 |93=>⟨[],[0]⟩
 |135=>⟨[],[0]⟩
 |158=>⟨[],[0]⟩
 |173=>⟨[],[0]⟩
 |_=> {}
noncomputable def T:ix:=⟨xj8,xlV⟩
abbrev tf(k:Nat)(F:FnC):Prop:=T.fn k=some (.code F)
theorem xoG:tf 10 F10:=rfl
theorem xoF:tf 12 F12:=rfl
theorem xoE:tf 13 F13:=rfl
theorem xoD:tf 14 F14:=rfl
theorem xoC:tf 15 F15:=rfl
theorem xlx:tf 16 F16:=rfl
theorem xoB:tf 17 F17:=rfl
theorem xoA:tf 18 F18:=rfl
theorem xoz:tf 19 F19:=rfl
theorem xlw:tf 20 F20:=rfl
theorem xoy:tf 21 F21:=rfl
theorem xox:tf 23 F23:=rfl
theorem xow:tf 24 F24:=rfl
theorem xov:tf 28 F28:=rfl
theorem xou:tf 29 F29:=rfl
theorem xot:tf 31 F31:=rfl
theorem xos:tf 33 F33:=rfl
theorem xoq:tf 34 F34:=rfl
theorem xop:tf 35 F35:=rfl
theorem xoo:tf 37 F37:=rfl
theorem xon:tf 38 F38:=rfl
theorem xom:tf 40 F40:=rfl
theorem xaD:tf 41 F41:=rfl
theorem xol:tf 42 F42:=rfl
theorem xok:tf 43 F43:=rfl
theorem xoj:tf 44 F44:=rfl
theorem xoi:tf 45 F45:=rfl
theorem xoh:tf 46 F46:=rfl
theorem xog:tf 47 F47:=rfl
theorem xof:tf 48 F48:=rfl
theorem xoe:tf 49 F49:=rfl
theorem xod:tf 50 F50:=rfl
theorem xoc:tf 51 F51:=rfl
theorem xob:tf 52 F52:=rfl
theorem xoa:tf 53 F53:=rfl
theorem xn9:tf 54 F54:=rfl
theorem xn8:tf 55 F55:=rfl
theorem xn7:tf 56 F56:=rfl
theorem xn6:tf 57 F57:=rfl
theorem xn5:tf 58 F58:=rfl
theorem xn4:tf 60 F60:=rfl
theorem xn3:tf 61 F61:=rfl
theorem xn2:tf 62 F62:=rfl
theorem xn1:tf 63 F63:=rfl
theorem xn0:tf 64 F64:=rfl
theorem xnZ:tf 65 F65:=rfl
theorem xnY:tf 70 F70:=rfl
theorem xnX:tf 71 F71:=rfl
theorem xlv:tf 72 F72:=rfl
theorem xnW:tf 73 F73:=rfl
theorem xnV:tf 75 F75:=rfl
theorem xnU:tf 76 F76:=rfl
theorem xnT:tf 77 F77:=rfl
theorem xnS:tf 78 F78:=rfl
theorem xnR:tf 79 F79:=rfl
theorem xnQ:tf 80 F80:=rfl
theorem xnP:tf 81 F81:=rfl
theorem xnO:tf 82 F82:=rfl
theorem xnN:tf 85 F85:=rfl
theorem xnM:tf 86 F86:=rfl
theorem xnL:tf 87 F87:=rfl
theorem xnK:tf 88 F88:=rfl
theorem xfS:tf 89 F89:=rfl
theorem xlu:tf 90 F90:=rfl
theorem xlt:tf 91 F91:=rfl
theorem xls:tf 92 F92:=rfl
theorem xaC:tf 93 F93:=rfl
theorem xnJ:tf 94 F94:=rfl
theorem xnI:tf 95 F95:=rfl
theorem xnH:tf 98 F98:=rfl
theorem xjG:tf 100 xb4:=rfl
theorem xjF:tf 101 xb3:=rfl
theorem xjE:tf 102 xb2:=rfl
theorem Ew:tf 103 xb1:=rfl
theorem xjD:tf 104 xb0:=rfl
theorem xjC:tf 105 xbZ:=rfl
theorem xjB:tf 106 xbY:=rfl
theorem xjz:tf 108 xbX:=rfl
theorem xjy:tf 109 xbW:=rfl
theorem xjx:tf 110 xbV:=rfl
theorem xjw:tf 111 xbU:=rfl
theorem xjv:tf 112 xbT:=rfl
theorem xju:tf 113 xbS:=rfl
theorem xjt:tf 114 xbR:=rfl
theorem xjs:tf 115 xbQ:=rfl
theorem xjr:tf 116 xbP:=rfl
theorem xjq:tf 117 xbO:=rfl
theorem xjp:tf 118 xbN:=rfl
theorem xjo:tf 119 xbM:=rfl
theorem xaI:tf 120 xbL:=rfl
theorem xaH:tf 121 xbK:=rfl
theorem xjn:tf 122 xbJ:=rfl
theorem xjm:tf 123 xbI:=rfl
theorem xjl:tf 124 xbH:=rfl
theorem xjk:tf 127 xbG:=rfl
theorem xjj:tf 128 xbF:=rfl
theorem xji:tf 129 xbE:=rfl
theorem xjg:tf 131 xbD:=rfl
theorem xjf:tf 132 xbC:=rfl
theorem xje:tf 133 xbB:=rfl
theorem xjd:tf 134 xbA:=rfl
theorem xaG:tf 135 xbz:=rfl
theorem xjc:tf 136 xby:=rfl
theorem xja:tf 139 xbx:=rfl
theorem xi9:tf 141 xbw:=rfl
theorem xi7:tf 144 xbv:=rfl
theorem xi6:tf 145 xbu:=rfl
theorem xi5:tf 146 xbt:=rfl
theorem xi4:tf 147 xbs:=rfl
theorem xi3:tf 153 xbr:=rfl
theorem xi2:tf 154 xbq:=rfl
theorem xi1:tf 156 xbp:=rfl
theorem xi0:tf 157 xbo:=rfl
theorem xaF:tf 158 xbn:=rfl
theorem xaE:tf 167 xbm:=rfl
theorem xiZ:tf 170 xbl:=rfl
theorem xiY:tf 171 xbk:=rfl
theorem xiX:tf 172 xbj:=rfl
theorem xe:tf 173 xbi:=rfl
theorem xiW:tf 189 xbh:=rfl
theorem xiV:tf 190 xbg:=rfl
theorem xjh:T.fn 130=some (.prim Pr.p130):=rfl
theorem xjA:T.fn 107=some (.prim Pr.p107):=rfl
theorem xi8:T.fn 142=some (.prim Pr.p142):=rfl
theorem xjb:T.fn 138=some (.prim Pr.p138):=rfl
abbrev sf(k:Nat):Prop:=T.sg k= {}
theorem kR:sf 130:=rfl
theorem xj0:sf 107:=rfl
theorem xjQ:sf 142:=rfl
theorem ub:sf 138:=rfl
theorem xo0:sf 10:=rfl
theorem xoZ:sf 12:=rfl
theorem po:sf 13:=rfl
theorem Ti:sf 14:=rfl
theorem xoY:sf 15:=rfl
theorem xaU:sf 16:=rfl
theorem xlM:sf 17:=rfl
theorem xlL:sf 18:=rfl
theorem xaT:sf 19:=rfl
theorem xoX:sf 20:=rfl
theorem xoW:sf 21:=rfl
theorem xoV:sf 23:=rfl
theorem xoU:sf 24:=rfl
theorem xoT:sf 28:=rfl
theorem xlK:sf 29:=rfl
theorem xoS:sf 31:=rfl
theorem EM:sf 33:=rfl
theorem xoR:sf 34:=rfl
theorem xoQ:sf 35:=rfl
theorem xoP:sf 37:=rfl
theorem CK:sf 38:=rfl
theorem xoO:sf 40:=rfl
theorem xoN:sf 41:=rfl
theorem nh:sf 42:=rfl
theorem Th:sf 43:=rfl
theorem tB:sf 44:=rfl
theorem ky:sf 45:=rfl
theorem O1:sf 46:=rfl
theorem xfZ:sf 47:=rfl
theorem qO:sf 48:=rfl
theorem tz:sf 49:=rfl
theorem xfY:sf 50:=rfl
theorem xj:sf 51:=rfl
theorem EL:sf 52:=rfl
theorem EK:sf 53:=rfl
theorem xaS:sf 54:=rfl
theorem xfX:sf 55:=rfl
theorem O0:sf 56:=rfl
theorem CJ:sf 57:=rfl
theorem xoM:sf 58:=rfl
theorem xlJ:sf 60:=rfl
theorem xh:sf 61:=rfl
theorem CI:sf 62:=rfl
theorem xlI:sf 63:=rfl
theorem xfW:sf 64:=rfl
theorem OZ:sf 65:=rfl
theorem xlH:sf 70:=rfl
theorem jC:sf 71:=rfl
theorem xlG:sf 72:=rfl
theorem xlF:sf 73:=rfl
theorem xoL:sf 75:=rfl
theorem xlE:sf 76:=rfl
theorem vI:sf 77:=rfl
theorem xoK:sf 78:=rfl
theorem xfV:sf 79:=rfl
theorem xlD:sf 80:=rfl
theorem xlC:sf 81:=rfl
theorem xoJ:sf 82:=rfl
theorem xlB:sf 85:=rfl
theorem xoI:sf 86:=rfl
theorem xfU:sf 87:=rfl
theorem xfT:sf 88:=rfl
theorem tx:sf 89:=rfl
theorem xg:sf 90:=rfl
theorem xlA:sf 91:=rfl
theorem xlz:T.sg 92=⟨[],[0]⟩:=rfl
theorem xly:T.sg 93=⟨[],[0]⟩:=rfl
theorem Tg:sf 94:=rfl
theorem CH:sf 95:=rfl
theorem xaR:sf 98:=rfl
theorem P8:sf 100:=rfl
theorem xj4:sf 101:=rfl
theorem pt:sf 102:=rfl
theorem xbb:sf 103:=rfl
theorem xj3:sf 104:=rfl
theorem xj2:sf 105:=rfl
theorem xj1:sf 106:=rfl
theorem xjZ:sf 108:=rfl
theorem xq:sf 109:=rfl
theorem pr:sf 110:=rfl
theorem xba:sf 111:=rfl
theorem xjY:sf 112:=rfl
theorem pq:sf 113:=rfl
theorem xa9:sf 114:=rfl
theorem xjX:sf 115:=rfl
theorem xa8:sf 116:=rfl
theorem xa7:sf 117:=rfl
theorem xa6:sf 118:=rfl
theorem xa5:sf 119:=rfl
theorem xjW:sf 120:=rfl
theorem xjV:sf 121:=rfl
theorem Ez:sf 122:=rfl
theorem xa4:sf 123:=rfl
theorem xjU:sf 124:=rfl
theorem xjT:sf 127:=rfl
theorem xa3:sf 128:=rfl
theorem xa2:sf 129:=rfl
theorem xa1:sf 131:=rfl
theorem xjS:sf 132:=rfl
theorem xa0:sf 133:=rfl
theorem xjR:sf 134:=rfl
theorem xaZ:T.sg 135=⟨[],[0]⟩:=rfl
theorem xaY:sf 136:=rfl
theorem P7:sf 139:=rfl
theorem P6:sf 141:=rfl
theorem xjP:sf 144:=rfl
theorem xjO:sf 145:=rfl
theorem xjN:sf 146:=rfl
theorem xjM:sf 147:=rfl
theorem xaX:sf 153:=rfl
theorem xjL:sf 154:=rfl
theorem xaW:sf 156:=rfl
theorem qY:sf 157:=rfl
theorem xaV:T.sg 158=⟨[],[0]⟩:=rfl
theorem jQ:sf 167:=rfl
theorem xo:sf 170:=rfl
theorem xjK:sf 171:=rfl
theorem xl:sf 172:=rfl
theorem xk:T.sg 173=⟨[],[0]⟩:=rfl
theorem kQ:sf 189:=rfl
theorem kP:sf 190:=rfl
theorem xdu(c:CSt):run T lO c=run T zh c:=rfl
theorem xdt(c:CSt):run T tP c=run T zg c:=rfl
theorem xdq(c:CSt):run T lN c=run T zd c:=rfl
theorem xdp(c:CSt):run T tO c=run T zb c:=rfl
theorem xdm(c:CSt):run T qu c=run T y8 c:=rfl
theorem xdl(c:CSt):run T qt c=run T y7 c:=rfl
theorem xdk(c:CSt):run T x7 c=run T y6 c:=rfl
theorem xdj(c:CSt):run T x6 c=run T y5 c:=rfl
theorem xgI(c:CSt):run T Eb c=run T P3 c:=rfl
theorem xdi(c:CSt):run T tL c=run T y0 c:=rfl
theorem xgH(c:CSt):run T PJ c=run T P2 c:=rfl
theorem xdh(c:CSt):run T ql c=run T yZ c:=rfl
theorem xdg(c:CSt):run T qk c=run T yY c:=rfl
theorem xdf(c:CSt):run T x5 c=run T yX c:=rfl
theorem xde(c:CSt):run T xZ c=run T yW c:=rfl
theorem xdd(c:CSt):run T xY c=run T yV c:=rfl
theorem xdc(c:CSt):run T xX c=run T yU c:=rfl
theorem xdb(c:CSt):run T qf c=run T yT c:=rfl
theorem xgG(c:CSt):run T PE c=run T P1 c:=rfl
theorem xda(c:CSt):run T xW c=run T yS c:=rfl
theorem xc9(c:CSt):run T lK c=run T yR c:=rfl
theorem xc8(c:CSt):run T xV c=run T yQ c:=rfl
theorem xc7(c:CSt):run T xU c=run T yP c:=rfl
theorem xgF(c:CSt):run T PC c=run T P0 c:=rfl
theorem xgE(c:CSt):run T PB c=run T PZ c:=rfl
theorem xgD(c:CSt):run T Pz c=run T PY c:=rfl
theorem xc6(c:CSt):run T xT c=run T yO c:=rfl
theorem xgC(c:CSt):run T Pu c=run T PX c:=rfl
theorem xc5(c:CSt):run T xR c=run T yN c:=rfl
theorem xc4(c:CSt):run T xQ c=run T yM c:=rfl
theorem xc3(c:CSt):run T xP c=run T yL c:=rfl
theorem xc2(c:CSt):run T xN c=run T yK c:=rfl
theorem xc1(c:CSt):run T xM c=run T yJ c:=rfl
theorem xc0(c:CSt):run T xL c=run T yI c:=rfl
theorem xcZ(c:CSt):run T tJ c=run T yH c:=rfl
theorem xgB(c:CSt):run T Pi c=run T PW c:=rfl
theorem xcY(c:CSt):run T xK c=run T yG c:=rfl
theorem xcX(c:CSt):run T xJ c=run T yF c:=rfl
theorem xgA(c:CSt):run T Pg c=run T PV c:=rfl
theorem xcW(c:CSt):run T xI c=run T yE c:=rfl
theorem xgz(c:CSt):run T Pb c=run T PU c:=rfl
theorem xgy(c:CSt):run T O9 c=run T PT c:=rfl
theorem xcV(c:CSt):run T xH c=run T yD c:=rfl
theorem xcU(c:CSt):run T xG c=run T yC c:=rfl
theorem xcT(c:CSt):run T tI c=run T yB c:=rfl
theorem xgx(c:CSt):run T D8 c=run T PS c:=rfl
theorem xdF(c:CSt):run T Oj c=run T zu c:=rfl
theorem xdE(c:CSt):run T N0 c=run T zt c:=rfl
theorem xdD(c:CSt):run T yp c=run T zr c:=rfl
theorem xdC(c:CSt):run T NA c=run T zq c:=rfl
theorem xdB(c:CSt):run T yn c=run T zp c:=rfl
theorem Rv(c:CSt):run T sG c=run T tt c:=rfl
theorem xdA(c:CSt):run T yk c=run T zo c:=rfl
theorem xdz(c:CSt):run T yi c=run T zm c:=rfl
theorem xdy(c:CSt):run T yg c=run T zl c:=rfl
theorem Ru(c:CSt):run T sF c=run T tq c:=rfl
theorem xdx(c:CSt):run T yf c=run T zk c:=rfl
theorem Rt(c:CSt):run T fM c=run T tp c:=rfl
theorem xdw(c:CSt):run T ye c=run T zj c:=rfl
theorem Rr(c:CSt):run T sE c=run T tn c:=rfl
theorem Rq(c:CSt):run T sD c=run T tj c:=rfl
theorem Rp(c:CSt):run T sC c=run T th c:=rfl
theorem Ro(c:CSt):run T A5 c=run T tg c:=rfl
theorem xdv(c:CSt):run T yd c=run T zi c:=rfl
theorem Rn(c:CSt):run T sB c=run T te c:=rfl
theorem Rm(c:CSt):run T fL c=run T td c:=rfl
theorem Rl(c:CSt):run T sA c=run T tc c:=rfl
theorem xds(c:CSt):run T yb c=run T zf c:=rfl
theorem xdr(c:CSt):run T ya c=run T ze c:=rfl
theorem Rk(c:CSt):run T oD c=run T ta c:=rfl
theorem xdo(c:CSt):run T x9 c=run T za c:=rfl
theorem xdn(c:CSt):run T x8 c=run T y9 c:=rfl
theorem Rj(c:CSt):run T Ar c=run T s9 c:=rfl
theorem xhV:bN prog 10 F10:=Fk func10
theorem xhU:bN prog 12 F12:=Fk func12
theorem xhT:bN prog 13 F13:=Fk func13
theorem xhS:bN prog 14 F14:=Fk func14
theorem xhR:bN prog 15 F15:=Fk func15
theorem xhQ:bN prog 16 F16:=Fk func16
theorem xhP:bN prog 17 F17:=Fk func17
theorem xhO:bN prog 18 F18:=Fk func18
theorem xhN:bN prog 19 F19:=Fk func19
theorem xhM:bN prog 20 F20:=Fk func20
theorem xhL:bN prog 21 F21:=Fk func21
theorem xhK:bN prog 23 F23:=Fk func23
theorem xhJ:bN prog 24 F24:=Fk func24
theorem xhI:bN prog 28 F28:=Fk func28
theorem xhH:bN prog 29 F29:=Fk func29
theorem xhG:bN prog 31 F31:=Fk func31
theorem xhF:bN prog 33 F33:=Fk func33
theorem xhE:bN prog 34 F34:=Fk func34
theorem xhD:bN prog 35 F35:=Fk func35
theorem xhC:bN prog 37 F37:=Fk func37
theorem xhB:bN prog 38 F38:=Fk func38
theorem xhA:bN prog 40 F40:=Fk func40
theorem xhz:bN prog 41 F41:=Fk func41
theorem xhy:bN prog 42 F42:=Fk func42
theorem xhx:bN prog 43 F43:=Fk func43
theorem xhw:bN prog 44 F44:=Fk func44
theorem xhv:bN prog 45 F45:=Fk func45
theorem xhu:bN prog 46 F46:=Fk func46
theorem xht:bN prog 47 F47:=Fk func47
theorem xhs:bN prog 48 F48:=Fk func48
theorem xhr:bN prog 49 F49:=Fk func49
theorem xhq:bN prog 50 F50:=Fk func50
theorem xhp:bN prog 51 F51:=Fk func51
theorem xho:bN prog 52 F52:=Fk func52
theorem xhn:bN prog 53 F53:=Fk func53
theorem xhm:bN prog 54 F54:=Fk func54
theorem xhl:bN prog 55 F55:=Fk func55
theorem xhk:bN prog 56 F56:=Fk func56
theorem xhj:bN prog 57 F57:=Fk func57
theorem xhi:bN prog 58 F58:=Fk func58
theorem xhg:bN prog 60 F60:=Fk func60
theorem xhf:bN prog 61 F61:=Fk func61
theorem xhe:bN prog 62 F62:=Fk func62
theorem xhd:bN prog 63 F63:=Fk func63
theorem xhc:bN prog 64 F64:=Fk func64
theorem xhb:bN prog 65 F65:=Fk func65
theorem xha:bN prog 70 F70:=Fk func70
theorem xg9:bN prog 71 F71:=Fk func71
theorem xg8:bN prog 72 F72:=Fk func72
theorem xg7:bN prog 73 F73:=Fk func73
theorem xg6:bN prog 75 F75:=Fk func75
theorem xg5:bN prog 76 F76:=Fk func76
theorem xg4:bN prog 77 F77:=Fk func77
theorem xg3:bN prog 78 F78:=Fk func78
theorem xg2:bN prog 79 F79:=Fk func79
theorem xg1:bN prog 80 F80:=Fk func80
theorem xg0:bN prog 81 F81:=Fk func81
theorem xgZ:bN prog 82 F82:=Fk func82
theorem xgY:bN prog 85 F85:=Fk func85
theorem xgX:bN prog 86 F86:=Fk func86
theorem xgW:bN prog 87 F87:=Fk func87
theorem xgV:bN prog 88 F88:=Fk func88
theorem xgU:bN prog 89 F89:=Fk func89
theorem xgT:bN prog 90 F90:=Fk func90
theorem xgS:bN prog 91 F91:=Fk func91
theorem xgR:bN prog 92 F92:=Fk func92
theorem xgQ:bN prog 93 F93:=Fk func93
theorem xgP:bN prog 94 F94:=Fk func94
theorem xgO:bN prog 95 F95:=Fk func95
theorem xgN:bN prog 98 F98:=Fk func98
theorem xeA:bN prog 100 xb4:=Fk func100
theorem xez:bN prog 101 xb3:=Fk func101
theorem xey:bN prog 102 xb2:=Fk func102
theorem xex:bN prog 103 xb1:=Fk func103
theorem xew:bN prog 104 xb0:=Fk func104
theorem xev:bN prog 105 xbZ:=Fk func105
theorem xeu:bN prog 106 xbY:=Fk func106
theorem xet:bN prog 108 xbX:=Fk func108
theorem xes:bN prog 109 xbW:=Fk func109
theorem xer:bN prog 110 xbV:=Fk func110
theorem xeq:bN prog 111 xbU:=Fk func111
theorem xep:bN prog 112 xbT:=Fk func112
theorem xeo:bN prog 113 xbS:=Fk func113
theorem xen:bN prog 114 xbR:=Fk func114
theorem xem:bN prog 115 xbQ:=Fk func115
theorem xel:bN prog 116 xbP:=Fk func116
theorem xek:bN prog 117 xbO:=Fk func117
theorem xej:bN prog 118 xbN:=Fk func118
theorem xei:bN prog 119 xbM:=Fk func119
theorem xeh:bN prog 120 xbL:=Fk func120
theorem xeg:bN prog 121 xbK:=Fk func121
theorem xef:bN prog 122 xbJ:=Fk func122
theorem xee:bN prog 123 xbI:=Fk func123
theorem xed:bN prog 124 xbH:=Fk func124
theorem xec:bN prog 127 xbG:=Fk func127
theorem xeb:bN prog 128 xbF:=Fk func128
theorem xea:bN prog 129 xbE:=Fk func129
theorem xd9:bN prog 131 xbD:=Fk func131
theorem xd8:bN prog 132 xbC:=Fk func132
theorem xd7:bN prog 133 xbB:=Fk func133
theorem xd6:bN prog 134 xbA:=Fk func134
theorem xd5:bN prog 135 xbz:=Fk func135
theorem xd4:bN prog 136 xby:=Fk func136
theorem xd3:bN prog 139 xbx:=Fk func139
theorem xd2:bN prog 141 xbw:=Fk func141
theorem xd1:bN prog 144 xbv:=Fk func144
theorem xd0:bN prog 145 xbu:=Fk func145
theorem xdZ:bN prog 146 xbt:=Fk func146
theorem xdY:bN prog 147 xbs:=Fk func147
theorem xdX:bN prog 153 xbr:=Fk func153
theorem xdW:bN prog 154 xbq:=Fk func154
theorem xdV:bN prog 156 xbp:=Fk func156
theorem xdU:bN prog 157 xbo:=Fk func157
theorem xdT:bN prog 158 xbn:=Fk func158
theorem xdS:bN prog 167 xbm:=Fk func167
theorem xdR:bN prog 170 xbl:=Fk func170
theorem xdQ:bN prog 171 xbk:=Fk func171
theorem xdP:bN prog 172 xbj:=Fk func172
theorem xdO:bN prog 173 xbi:=Fk func173
theorem xdN:bN prog 189 xbh:=Fk func189
theorem xdM:bN prog 190 xbg:=Fk func190
set_option maxHeartbeats 4000000 in
theorem xcB:pm prog T:=by
 intro g b h;simp only[T]at h;unfold xj8 at h;split at h
 ·cases h;exact xhV
 ·cases h;exact xhU
 ·cases h;exact xhT
 ·cases h;exact xhS
 ·cases h;exact xhR
 ·cases h;exact xhQ
 ·cases h;exact xhP
 ·cases h;exact xhO
 ·cases h;exact xhN
 ·cases h;exact xhM
 ·cases h;exact xhL
 ·cases h;exact xhK
 ·cases h;exact xhJ
 ·cases h;exact xhI
 ·cases h;exact xhH
 ·cases h;exact xhG
 ·cases h;exact xhF
 ·cases h;exact xhE
 ·cases h;exact xhD
 ·cases h;exact xhC
 ·cases h;exact xhB
 ·cases h;exact xhA
 ·cases h;exact xhz
 ·cases h;exact xhy
 ·cases h;exact xhx
 ·cases h;exact xhw
 ·cases h;exact xhv
 ·cases h;exact xhu
 ·cases h;exact xht
 ·cases h;exact xhs
 ·cases h;exact xhr
 ·cases h;exact xhq
 ·cases h;exact xhp
 ·cases h;exact xho
 ·cases h;exact xhn
 ·cases h;exact xhm
 ·cases h;exact xhl
 ·cases h;exact xhk
 ·cases h;exact xhj
 ·cases h;exact xhi
 ·cases h;exact xhg
 ·cases h;exact xhf
 ·cases h;exact xhe
 ·cases h;exact xhd
 ·cases h;exact xhc
 ·cases h;exact xhb
 ·cases h;exact xha
 ·cases h;exact xg9
 ·cases h;exact xg8
 ·cases h;exact xg7
 ·cases h;exact xg6
 ·cases h;exact xg5
 ·cases h;exact xg4
 ·cases h;exact xg3
 ·cases h;exact xg2
 ·cases h;exact xg1
 ·cases h;exact xg0
 ·cases h;exact xgZ
 ·cases h;exact xgY
 ·cases h;exact xgX
 ·cases h;exact xgW
 ·cases h;exact xgV
 ·cases h;exact xgU
 ·cases h;exact xgT
 ·cases h;exact xgS
 ·cases h;exact xgR
 ·cases h;exact xgQ
 ·cases h;exact xgP
 ·cases h;exact xgO
 ·cases h;exact xgN
 ·cases h;exact xeA
 ·cases h;exact xez
 ·cases h;exact xey
 ·cases h;exact xex
 ·cases h;exact xew
 ·cases h;exact xev
 ·cases h;exact xeu
 ·cases h;exact xet
 ·cases h;exact xes
 ·cases h;exact xer
 ·cases h;exact xeq
 ·cases h;exact xep
 ·cases h;exact xeo
 ·cases h;exact xen
 ·cases h;exact xem
 ·cases h;exact xel
 ·cases h;exact xek
 ·cases h;exact xej
 ·cases h;exact xei
 ·cases h;exact xeh
 ·cases h;exact xeg
 ·cases h;exact xef
 ·cases h;exact xee
 ·cases h;exact xed
 ·cases h;exact xec
 ·cases h;exact xeb
 ·cases h;exact xea
 ·cases h;exact xd9
 ·cases h;exact xd8
 ·cases h;exact xd7
 ·cases h;exact xd6
 ·cases h;exact xd5
 ·cases h;exact xd4
 ·cases h;exact xd3
 ·cases h;exact xd2
 ·cases h;exact xd1
 ·cases h;exact xd0
 ·cases h;exact xdZ
 ·cases h;exact xdY
 ·cases h;exact xdX
 ·cases h;exact xdW
 ·cases h;exact xdV
 ·cases h;exact xdU
 ·cases h;exact xdT
 ·cases h;exact xdS
 ·cases h;exact xdR
 ·cases h;exact xdQ
 ·cases h;exact xdP
 ·cases h;exact xdO
 ·cases h;exact xdN
 ·cases h;exact xdM
 ·cases h;exact Pr.p130_ok
 ·cases h;exact Pr.p107_ok
 ·cases h;exact Pr.p142_ok
 ·cases h;exact Pr.p138_ok
 ·cases h
attribute [go_sem] SV.kclip Tok.kc Rb xiQ xiP xnG iA tQ QA Ed jw List.all_replicate Ci Ch QD xcA Ry RA Rz FN RB RF rq RE RD aq.injEq xmc xgq xiz xeH xeC wF C0 C1 xeP xci En C3 al cC cV av Tb Tc xfJ Gu FV Dt CT CU Tok.ids kX aS ac bQ Int.natCast_nonneg Int.ofNat_lt Int.ofNat_le Int.ofNat_inj Fo QX Fu QZ Ra xf4 Qn xf5 xcg xcf xcb xgb xgc xf9 xlO Ql P9 xf3 xgd xcc xb7 xb8 xb9 Qm xf7 EO EP xck xcj xf8 xf6 xch xga xcd xce xca xmb xma xmd xcG xgr xfb xmT xmU xmR xmS xmV Sd xfc Sg QW Fv Dh QY Fq xfa Dk Dl FD FE xe9 RW xny xnA xnz pI Dv xh0 RQ xh2 xeN xeM xeI xib xic xh6 xme RM RL xhY xid xeJ xeD xeE xeF RP xh4 FP FQ xeR xeQ xh5 xh3 xeO xh9 xeK xeL xeG RO xhZ xia xmf xh1 RN xie xh7 xeS Tf D0 mkE xfM stC EZ apS apB apL Te cpC cp2 cpB cpL xcH xdH Cj OD Ck Cl lg lh OA Cn Co xcy Qw xiA xeU xe3 xe2 R3 F3 F2 DA R2 DC F4 R4 DB wM FR FS RS xlY xlW xlX QH xcC xiL xiO xiN xiM GC S5 xmm xmk xml RU xeX FJ xgL xgJ xgK FH Rw Gp DU DV xiC xiB Sh Eg xaw xao tF Tq xaz GN D5 D6 tU xaf oV pK my Er Ep xan lenC xas Ei Ej tX xaa Ek Ee tS eh jn vy iD iJ xfR ml de evL CSt.purge wN xA O3 O6 mu EH l7 ko nR dN fE psC Tok.readyC aC.wf SV.bare SV.bareL jR jS sr jG dT cx dB gw gE fz dr oe dX qV qW mg qS jP iP E8 C4 QS E4 E9 E7 C2 wa QT E5 QV Fb Dd wh Da wg Fc C6 Db C9 wb we ul Fe C7 Fg Dc C5 Ff C8 E3 QU E6 PQ Gz S2 S3 Sj Sl Sm Sk S9 E1 QJ QP QO QN QM QL QK xfk xfd xfi xfj xfh xfg xff xfe RK RJ RH Sa R9 R6 R5 R8 R7 S8 xfI eD CSt.publish lf lB nz SV.pub SV.pubL wy gcC qI QB rm kU fP gQ tks nC EB qX dt PP vK gZ jN SV.num lJ iF toB rows tV gH iz gA Tok.eat SV.one SV.data SV.isData SV.cells SV.isDef SV.purge SV.purgeL aC.purge bz cy Tok.purge SV.ren SV.renL aC.ren Tok.ren SV.ids SV.idsL SV.toks SV.toksL aC.ids aC.toks iH kj inR ox eY id_eq aA aY bf aG bw cj dL beq_self_eq_true bZ cz List.getD_nil List.take_succ_cons List.take_zero List.take_nil aV List.drop_succ_cons List.drop_nil aE cT cE List.flatten_nil List.contains_nil List.contains_cons List.isEmpty_nil List.isEmpty_cons iG List.all_nil List.set_cons_zero List.set_cons_succ bp Option.getD_none bl Option.map_none Option.toList_some Option.toList_none cS Option.isNone_none Option.isNone_some Option.isSome_none Option.isSome_some Bool.or_false Bool.true_or Bool.or_true Bool.false_or Bool.and_self Bool.and_true Bool.true_and Bool.and_false Bool.false_and Bool.not_true Bool.not_false aJ Bool.true_eq_false Bool.not_eq_true Bool.not_eq_false decide_eq_true_eq decide_eq_false_iff_not and_true true_and and_self or_false false_or or_true true_or not_true_eq_false not_false_eq_true ne_eq Int.toNat_natCast true_implies false_implies implies_true decide_true decide_false Nat.lt_irrefl Nat.not_lt_zero aN bH eq_self and_false false_and OC mvC xk3 Z7 xeT xh8 clA cl2 clC
attribute [go_sem] Fm Fs Fz Fi Ld Fa Ln Ia Mv Bb Bc Ca Pf Pt So Kk Kc Fy Fr Sr Lt Mc Mb Bk Sq Zq0 Zq1 Zq2 xm xs xi ci om omk on oo Z4 Z3 Z2 Z1 Z0 ZZ F10 r10 PM ZY F12 r12 qU ZX qT ZW gP ZV oE ZU ZT ZS LW LV LU yc LS LR LQ LP LO LN LM LL i0 zh zg F13 xdu xdt r13 ZR ZQ ZP ww ZO ZN Lj Li Lh Lg lM Lf Le Lc K9 K8 zd zb F14 xdq xdp r14 ny ZM jL ZL ZK ZJ ZI F15 r15 tN ZH tM ZG ZF ZE ZD ZC ZB ZA KG KF KE KD KC KB KA Kz Ky Kx Kw Kv y8 y7 F16 xdm xdl r16 PL Zz PK Zy Zx Zw Zv Zu Zt Zs Kd Kb Ka J9 J8 J7 J6 J5 J4 qr J3 J2 J1 J0 JZ JY JX JW qp JV JU y6 y5 F17 xdk xdj r17 Ec Zr oC Zq Zp Zo Zn qm JS JR JQ tK P3 y0 F18 xgI xdi r18 oB Zm Zl Zk Zj P2 F19 xgH r19 Zi Zh Zg Zf Ze Zd Zc JP JO JN JM JL JK nM JJ JI JH JG JF JE yZ yY F20 xdh xdg r20 Zb Za Y9 F21 r21 jK PI Y8 Y7 F23 r23 Y6 Y5 Y4 Y3 Y2 Y1 Y0 YZ Jt Js Jr Jq Jp Jo Jn Jm qj x0 Jl Jk Jj Ji Jh Jg Jf Je qh Jd Jc yX yW F24 xdf xde r24 YY YX YW PH YV YU YT YS YR YQ Jb Ja I9 I8 I7 I6 I5 I4 I3 I2 yV yU yT F28 xdd xdc xdb r28 YP YO YN F29 r29 PG YM oy YL YK YJ YI YH YG I1 I0 F31 r31 jm YF wv YE F33 r33 YD F34 r34 YC YB YA Yz Yy Yx Yw Yv Yu IZ IY F35 r35 PF Yt Ys Yr Yq Yp Yo Yn Ym IX IW P1 F37 xgG r37 Yl Yk Yj Yi Yh Yg Yf IV IU IT IS yS yR F38 xda xc9 r38 Ye Yd Yc Yb F40 r40 Ya X9 X8 X7 X6 X5 X4 X3 X2 IR IQ IP IN IM yQ F41 xc8 r41 wu X1 F42 r42 X0 F43 r43 XZ XY XX XW XV XU XT IL IK IJ II yP F44 xc7 r44 XS nu XR XQ XP PD qe P0 F45 xgF r45 XO XN XM XL XK XJ XI F46 r46 XH XG XF XE IH IG IF IE PZ F47 xgE r47 PA XD XC XB XA Xz Xy Xx V9 PY F48 xgD r48 V8 V7 F49 r49 Py V6 F50 r50 Px V5 V4 V3 V2 V1 ID IC IB IA Iz Iy Ix Iw Iv Iu yO F51 xc6 r51 io V0 VZ VY VX VW VV It Is Ir Iq Ip Io F52 r52 VU F53 r53 VT VS VR VQ VP VO In Im F54 r54 VN Pw Pv F55 r55 VM VL VK F56 r56 VJ VI VH VG VF VE VD VC PX F57 xgC r57 VB F58 r58 Vq F60 r60 Vp Vo Vn Vm Vl Vk Ps HT HS HR HQ yN F61 xc5 r61 Vj Vi Vh Vg Vf Ve HP F62 r62 Vd Vc Vb Va U9 F63 r63 U8 F64 r64 lX U7 U6 U5 U4 U3 U2 U1 HO HN HM HK HJ HI HH HG HF HE HD HC HB xO Hz Hy Hx Hw Hv yM yL yK yJ F65 xc4 xc3 xc2 xc1 r65 Pq Pp U0 UZ UY UX wt UW Hu Ht Hs Hr Hq yI F70 xc0 r70 UV UU UT F71 r71 US UR UQ UP UO UN UM UL UK Hp Ho yH F72 xcZ r72 UJ UI F73 r73 Po Ea Pn Pm Pk Pj PW F75 xgB r75 Ph UH F76 r76 UG F77 r77 D9 UF F78 r78 UE UD UC UB UA Uz Uy Ux Hn Hm Hl Hk Hj Hi Hh Hg Hf He Hd Hc Hb yG yF F79 xcY xcX r79 PV F80 xgA r80 Uw F81 r81 Pe Uv Uu Ut Us Ur Uq F82 r82 Pd Up Uo F85 r85 Un Um Ul Uk Uj Ui Uh Ug Ha yE F86 xcW r86 Pc Uf F87 r87 Ue Ud Uc Ub Ua T9 G9 G8 PU F88 xgz r88 T8 T7 T6 T5 Pa F89 r89 T4 T3 T2 T1 T0 TZ TY TX G7 G6 G5 G4 G3 G2 G1 PT yD F90 xgy xcV r90 TW TV TU TT TS F91 r91 TR TQ F92 r92 TP TO TN TL TK TJ TI TH TG GZ GY GX GV GU xF GT yC yB F93 xcU xcT r93 TF F94 r94 TE TD TC TB TA F95 r95 Tz Ty Tx Tw Tu Tt GS PS F98 xgx r98 Ox Ow Ov Ou xb4 xk0 Ot Oq Oo yr On Om Ol Ok Oi zu xb3 xdF xkZ Oh Og xb2 xkY Of Oe Od Oc Ob Oa N9 N8 N7 N6 Cf xb1 xkX N5 N4 N3 N2 N1 NZ zt xb0 xdE xkW NY NX NW NV NU yq NT Ce xbZ xkV NS xbY xkU NR NQ NP NO zr xbX xdD xkT NN xbW xkS NM NL NK NJ xbV xkR yo xbU xkQ NI NH NG NF NE ND NC NB Cd zq xbT xdC xkP Nz Ny Nw xbS xkO xbR xkN Nv Nu xbQ xkM Nt Ns Nr Nq Np No Nn Nm Cc zp tt xbP xdB Rv xkL nN ym xbO xkK Nl xbN xkJ yl Nk Nj Ni yj zo xbM xdA xkI Nh xbL xkH Ng Nf Nd Nc Nb xbK xkG Na M9 xbJ xkF M8 M7 M6 M5 M4 zm xbI xdz xkE M3 xbH xkD qw M2 M1 M0 MZ MY MX MW MV xbG xkC MU MT MS xbF xkB yh MR MQ MP MO xbE xkA MN MM ML MK MJ MI MH MG zl tq xbD xdy Ru xkz MF ME MD MC MB MA Mz My Mx Cb B0 BZ BY BX BW BV BU BT BS BR BQ BP BO BN BM BL BK BJ zk tp xbC xdx Rt xky Mw Mu Mt Ms Mr Mq Mp zj xbB xdw xkx Mo Mn Mm Ml Mk Mj Mi Mh Mg BI BH BG BF BE BD BC BB BA Bz By Bx Bw Bv Bu tn tj th xbA Rr Rq Rp xkw Mf Me Md Ma L9 L8 L7 L6 L5 L4 Bt Bs Br Bq Bp Bo Bn Bm Bl Bj Bi Bh Bg Bf Be Bd Ba A9 A8 A7 A6 tg xbz Ro xkv L3 L2 xby xku L1 L0 LZ LY LX zi xbx xdv xkt LK xbw xks LJ LI LH LG LF LD LC A4 A3 A1 AZ AY AX AW AV AU AT AS AR AQ AP AO AN AM AL te td tc xbv Rn Rm Rl xkr LA Lz Ly Lx Lw Lv Lu Ls Lr AK AJ AI AH AG AF xbu xkq Lq Lp Lo zf xbt xds xkp Lm Ll Lk ze xbs xdr xko K7 xbr xkn K6 K5 K4 K3 K2 K1 K0 KZ AE AD AC AB AA Az Ay Ax Aw Av ta xbq Rk xkm xbp xkl KY KX xbo xkk KW KV KU KT KS KR KQ za y9 xbn xdo xdn xkj KP KO KN KM KL KK KJ KI KH Au xbm xki Ku xbl xkh Kt Ks xbk xkg Kr Kq xbj xkf Kp Ko Kn Km Kj Ki Kh Kg Kf Ke At As Aq Ap Ao An Am Al Ak Aj Ai Ah Ag Af Ae Ad Ac s9 xbi Rj xke JT xbh xkd xbg xkc
end Go.Proofs.YtkcjdeofknkndaaGreatDoor