/- Code of functions, checked by the kernel. No condition. -/
import Derived.Test.YtkcjdeofknkndaaGreatDoorProg
import Derived.Test.YtkcjdeofknkndaaGreatDoorVaDF
import Derived.KernelRfl
open Bool renaming and_eq_true -> aB, false_eq_true -> aI
open List renaming all_cons -> iv, append_assoc -> ax, append_nil -> bf, cons_append -> aV, drop_zero -> bh, flatten_cons -> cN, getD_cons_succ -> bQ, getD_cons_zero -> bF, length_append -> af, length_cons -> ay, length_map -> aS, length_nil -> bl, length_replicate -> bO, map_append -> df, map_cons -> aG, map_nil -> eU, mem_cons -> am, nil_append -> aK, not_mem_nil -> cB, replicate -> ao
open Nat renaming add_zero -> dU, le_refl -> aN, zero_add -> cf, zero_le -> bD
open Option renaming bind_some -> cP, getD_some -> bj, map_some -> bo, some -> aq
set_option maxRecDepth 100000
set_option linter.unusedVariables false
namespace Go.Proofs.YtkcjdeofknkndaaGreatDoor
open Tryz
open Go.Sy
abbrev La:=List RI
abbrev Lb:=List FI
abbrev xm(d s:Nat):SI:=⟨some d,none,.mov (.t s)⟩
abbrev xs(d:Nat)(o:SOp):SI:=⟨some d,none,o⟩
abbrev xi(d g:Nat)(b:Bool)(o:SOp):SI:=⟨some d,some (g,b),o⟩
abbrev om(d s:Nat):RI:= .op (xm d s) []
abbrev omk(d s:Nat):RI:= .op (xm d s) [s]
abbrev on(d:Nat)(o:SOp):RI:= .op (xs d o) []
abbrev oo(d:Nat)(o:SOp)(k:List Nat):RI:= .op (xs d o) k
abbrev ci(n:Int):Arg:= .c (.int .i64 n)
abbrev Fm(n d s:Nat):FI:=⟨n,true,xm d s⟩
abbrev Fs(n d:Nat)(o:SOp):FI:=⟨n,true,xs d o⟩
abbrev Fz(n d:Nat)(o:SOp):FI:=⟨n,false,xs d o⟩
abbrev Fi(n d g:Nat)(b:Bool)(o:SOp):FI:=⟨n,true,xi d g b o⟩
abbrev Ld(s:Nat):SOp:= .load 1 false (.t s)
abbrev Fa(n s:Nat):SOp:= .faddr n (.t s)
abbrev Ln(s:Nat):SOp:= .len false (.t s)
abbrev Ia(n a b:Nat):SOp:= .iaddrL n (.t a) (.t b)
abbrev Mv(s:Nat):SOp:= .mov (.t s)
abbrev Bb(o:BinOp)(a b:Nat):SOp:= .bin o (.t a) (.t b)
abbrev Bc(o:BinOp)(a:Nat)(n:Int):SOp:= .bin o (.t a) (ci n)
abbrev Ca(f:Nat)(l:List Arg):SOp:= .call (.f f) l
abbrev Pf(a b:Nat):SOp:= .pick (.t a) (.t b) (.c (.bool false))
abbrev Pt(a b:Nat):SOp:= .pick (.t a) (.c (.bool true)) (.t b)
abbrev So(l:List RI)(x:RC):RC:= .seq (.ops l) x
abbrev Kk(l:List Nat)(x:RC):RC:= .pre [.kill l] x
abbrev Kc(n:Nat)(x y:RC):RC:= .cond (.t n) x y
abbrev Fy(n d g:Nat)(b:Bool)(o:SOp):FI:=⟨n,false,xi d g b o⟩
abbrev Fr(n k a x:Nat):FI:=⟨n,false,⟨none,none,.store k (.t a) (.t x)⟩⟩
abbrev Sr(n a x:Nat)(k:List Nat):RI:= .op ⟨none,none,.store n (.t a) (.t x)⟩ k
abbrev Lt(n s:Nat):SOp:= .load n true (.t s)
abbrev Mc(n:Int):SOp:= .mov (ci n)
abbrev Mb(b:Bool):SOp:= .mov (.c (.bool b))
abbrev Bk(n:Nat)(x:RC):RC:= .block n x
abbrev Sq(x y:RC):RC:= .seq x y
abbrev Zq0:List SV:=[.int .i64 0,.str [],.int .i64 0,.byt [] .clip]
abbrev Zq1:List SV:=[.int .i64 0,.int .i64 0,.lst 1 [] .clip,.byt [] .clip]
abbrev Zq2:List SV:=[.str [],.int .i64 0,.int .i64 0,.int .i64 0,.int .i64 0,.lst 4 [] .clip,.lst 4 [] .clip]
abbrev Zq3:List SV:=[.int .i64 0,.str [],.int .i64 0,.int .i64 0]
def cs0:List UInt8:=[0,1,2,2,3,3,3,3,4,4,4,4,4,4,4,4,5,5,5,5,5,5,5,5,5,5,5,5,5,5,5,5,6,6,6,6,6,6,6,6,6,6,6,6,6,6,6,6,6,6,6,6,6,6,6,6,6,6,6,6,6,6,6,6,7,7,7,7,7,7,7,7,7,7,7,7,7,7,7,7,7,7,7,7,7,7,7,7,7,7,7,7,7,7,7,7,7,7,7,7,7,7,7,7,7,7,7,7,7,7,7,7,7,7,7,7,7,7,7,7,7,7,7,7,7,7,7,7,8,8,8,8,8,8,8,8,8,8,8,8,8,8,8,8,8,8,8,8,8,8,8,8,8,8,8,8,8,8,8,8,8,8,8,8,8,8,8,8,8,8,8,8,8,8,8,8,8,8,8,8,8,8,8,8,8,8,8,8,8,8,8,8,8,8,8,8,8,8,8,8,8,8,8,8,8,8,8,8,8,8,8,8,8,8,8,8,8,8,8,8,8,8,8,8,8,8,8,8,8,8,8,8,8,8,8,8,8,8,8,8,8,8,8,8,8,8,8,8,8,8,8,8,8,8,8,8]
def cs1:List UInt8:=[48,49,50,51,52,53,54,55,56,57,97,98,99,100,101,102,103,104,105,106,107,108,109,110,111,112,113,114,115,116,117,118,119,120,121,122]
def cs2:List UInt8:=[48,48,48,49,48,50,48,51,48,52,48,53,48,54,48,55,48,56,48,57,49,48,49,49,49,50,49,51,49,52,49,53,49,54,49,55,49,56,49,57,50,48,50,49,50,50,50,51,50,52,50,53,50,54,50,55,50,56,50,57,51,48,51,49,51,50,51,51,51,52,51,53,51,54,51,55,51,56,51,57,52,48,52,49,52,50,52,51,52,52,52,53,52,54,52,55,52,56,52,57,53,48,53,49,53,50,53,51,53,52,53,53,53,54,53,55,53,56,53,57,54,48,54,49,54,50,54,51,54,52,54,53,54,54,54,55,54,56,54,57,55,48,55,49,55,50,55,51,55,52,55,53,55,54,55,55,55,56,55,57,56,48,56,49,56,50,56,51,56,52,56,53,56,54,56,55,56,56,56,57,57,48,57,49,57,50,57,51,57,52,57,53,57,54,57,55,57,56,57,57]
def oL:List SV:=[.int .i64 (-1),.int .i64 0,.int .i64 4,.int .i64 8,.int .i64 9]
def iJ:List SV:=[.int .u32 1116352408,.int .u32 1899447441,.int .u32 3049323471,.int .u32 3921009573,.int .u32 961987163,.int .u32 1508970993,.int .u32 2453635748,.int .u32 2870763221,.int .u32 3624381080,.int .u32 310598401,.int .u32 607225278,.int .u32 1426881987,.int .u32 1925078388,.int .u32 2162078206,.int .u32 2614888103,.int .u32 3248222580,.int .u32 3835390401,.int .u32 4022224774,.int .u32 264347078,.int .u32 604807628,.int .u32 770255983,.int .u32 1249150122,.int .u32 1555081692,.int .u32 1996064986,.int .u32 2554220882,.int .u32 2821834349,.int .u32 2952996808,.int .u32 3210313671,.int .u32 3336571891,.int .u32 3584528711,.int .u32 113926993,.int .u32 338241895,.int .u32 666307205,.int .u32 773529912,.int .u32 1294757372,.int .u32 1396182291,.int .u32 1695183700,.int .u32 1986661051,.int .u32 2177026350,.int .u32 2456956037,.int .u32 2730485921,.int .u32 2820302411,.int .u32 3259730800,.int .u32 3345764771,.int .u32 3516065817,.int .u32 3600352804,.int .u32 4094571909,.int .u32 275423344,.int .u32 430227734,.int .u32 506948616,.int .u32 659060556,.int .u32 883997877,.int .u32 958139571,.int .u32 1322822218,.int .u32 1537002063,.int .u32 1747873779,.int .u32 1955562222,.int .u32 2024104815,.int .u32 2227730452,.int .u32 2361852424,.int .u32 2428436474,.int .u32 2756734187,.int .u32 3204031479,.int .u32 3329325298]
def iI:List SV:=[.int .u64 1,.int .u64 10,.int .u64 100,.int .u64 1000,.int .u64 10000,.int .u64 100000,.int .u64 1000000,.int .u64 10000000,.int .u64 100000000,.int .u64 1000000000,.int .u64 10000000000,.int .u64 100000000000,.int .u64 1000000000000,.int .u64 10000000000000,.int .u64 100000000000000,.int .u64 1000000000000000,.int .u64 10000000000000000,.int .u64 100000000000000000,.int .u64 1000000000000000000,.int .u64 10000000000000000000]
instance:ba:=⟨fun
 |0=>some oL
 |1=>some iJ
 |3=>some iI
 |_=>none⟩
abbrev Wa(a b:Nat):RI:=omk a b
abbrev Wb(a:Nat)(b:BinOp)(c:Nat)(d:Int):RI:=oo a (Bc b c d) [c]
abbrev Wc(a b c:Nat):FI:=Fs a b (Ld c)
abbrev Wd(a b:Nat):RI:=oo a (Ld b) [b]
abbrev We(a:Nat)(b:BinOp)(c d:Nat):RI:=oo a (Bb b c d) [c,d]
abbrev Wf(a b:Nat)(c:BinOp)(d e:Nat):FI:=Fs a b (Bb c d e)
abbrev Wg(a b c:Nat):RI:=on a (Fa b c)
abbrev Wh(a:Nat)(b:Int):RI:=on a (Mc b)
abbrev Wi(a b c d:Nat):FI:=Fs a b (Fa c d)
abbrev Wj(a b:Nat):RI:=oo a (Ln b) [b]
abbrev Wm(a b c:Nat):RI:=oo a (Ca b [.t c]) [c]
abbrev Wn(a b c:Nat):RI:=oo a (Pt b c) [b,c]
abbrev Wo(a b c d e:Nat):FI:=Fs a b (Ia c d e)
abbrev Wp(a b:Nat)(c:BinOp)(d:Nat)(e:Int):FI:=Fs a b (Bc c d e)
abbrev Wq(a b:Nat):FI:=Fm a b a
abbrev Wr(a b c:Nat):RI:=oo a (Fa b c) [c]
abbrev Ws(a b c:Nat):RI:=Sr a b c [c,b]
abbrev Wt(a b c:Nat)(d:Int):RI:=oo a (Ca b [.t c,ci d]) [c]
abbrev Wu(a b c:Nat):RI:=oo a (Pf b c) [b,c]
abbrev Wv(a b c:Nat)(d:Bool)(e:Nat):FI:=Fi a b c d (Mv e)
abbrev Ww(a b c d:Nat):RI:=oo a (Ca b [.t c,.t d]) [c,d]
abbrev Wx(a b c:Nat):RI:=Sr a b c [c]
abbrev Wy(a b c d:Nat)(e:Int):FI:=Fs a b (.iaddrL c (.t d) (ci e))
abbrev Wz(a b c:Nat):RI:=oo a (Lt b c) [c]
abbrev WA(a b c d:Nat):RI:=oo a (.app [.u8 0] b (.t c) (.t d)) [c,d]
abbrev WB(a b c:Nat):FI:=Fs a b (.nchk (.t c))
abbrev WC(a:Nat)(b:BinOp)(c d:Nat):RI:=on a (Bb b c d)
abbrev WD(a:Nat)(b:BinOp)(c:Nat)(d:Int):RI:=on a (Bc b c d)
abbrev WE(a b:Nat):RI:=oo a (.toInt .u8 (.t b)) [b]
abbrev WF(a b:Nat):RI:=oo a (.nchk (.t b)) [b]
abbrev WG(a b c d:Nat):FI:=Fs a b (.iaddrA 64 1 (.t c) (.t d))
abbrev WH(a:Nat)(b:Bool)(c:Nat):RI:=oo a (.len b (.t c)) [c]
abbrev WI(a b:Nat):RI:=on a (Ln b)
abbrev WJ(a b c d e:Nat):FI:=Fz a b (Ca c [.t d,.t e])
abbrev WK(a b c:Nat)(d:Int):FI:=Fs a b (.iaddrA 5 1 (.t c) (ci d))
abbrev WL(a b c:Nat):RI:=on a (.ext (.t b) c)
abbrev WM(a b c:Nat):RI:=oo a (.ext (.t b) c) [b]
abbrev WN(a b:Nat):RI:=oo a (.box (.t b)) [b]
abbrev WO(a b:Nat):RI:=oo a (.toInt .u64 (.t b)) [b]
abbrev WP(a b c:Nat):FI:=Fs a b (.idxS (.c (.str cs2)) (.t c))
abbrev WQ(a:Nat)(b:BinOp)(c:Int)(d:Nat):RI:=oo a (.bin b (ci c) (.t d)) [d]
abbrev WR(a b c d:Nat)(e:Int):FI:=Fz a b (Ca c [.t d,ci e])
abbrev WS(a b c d:Nat):FI:=Fs a b (.iaddrA 80 1 (.t c) (.t d))
abbrev WT(a b:Nat):RI:=oo a (.un .not (.t b)) [b]
abbrev WU(a:Nat):RI:=on a (.new (.rc Zq0))
abbrev WV(a:Nat)(b:Bool):RI:=oo a (Mb b) [a]
abbrev WW(a b c d:Nat):RI:=oo a (Ia b c d) [c,d]
abbrev WX(a b c d:Nat)(e:Int)(f:Nat):FI:=Fz a b (Ca c [.t d,ci e,.t f])
abbrev WY(a b:Nat):RI:=oo a (.b2s (.t b)) [b]
abbrev WZ(a b c d:Nat):FI:=Fz a b (Ca c [.t d])
abbrev W0(a b c:Nat)(d:Int):FI:=Fs a b (.iaddrA 8 1 (.t c) (ci d))
abbrev W1(a:Nat):RI:=on a (.new (.rc Zq2))
abbrev W2(a b c:Nat):RI:=oo a (.lit b [.t c]) [c]
abbrev W3(a b:Nat):RI:=oo a (.litB [.t b]) [b]
abbrev W4(a:Nat)(b:BinOp)(c:Nat):RI:=oo a (.bin b (.t c) (.c (.int .u32 100))) [c]
abbrev W5(a b:Nat)(c:Int):RI:=on a (.iaddrA 8 1 (.t b) (ci c))
abbrev W6(a:Nat)(b:BinOp)(c:Nat):RI:=oo a (.bin b (.t c) (.c (.int .u32 2))) [c]
abbrev W7(a b:Nat)(c:BinOp)(d:Nat):FI:=Fs a b (.bin c (.t d) (.c (.int .u32 1)))
abbrev W8(a b c:Nat)(d:Int)(e:Nat):RI:=oo a (Ca b [.t c,ci d,.t e]) [c,e]
abbrev W9(a:Nat)(b:BinOp)(c:Nat):RI:=oo a (.bin b (.t c) (.c (.int .u64 8))) [c]
abbrev Xa(a:Nat):RI:=oo a (.mov (.c (.byt [] .clip))) [a]
abbrev Xb(a b:Nat):RI:=oo a (.s2b (.t b)) [b]
abbrev Xc(a b c d:Nat):RI:=oo a (Ca b [.t c,.t d]) [c,d,a]
abbrev Xd(a b c:Nat):FI:=Fs a b (.toInt .u8 (.t c))
abbrev Xe(a b c:Nat)(d:Int):RI:=oo a (.slcL b (.t c) none (some (ci d)) none) [c]
abbrev Xf(a:Nat):RI:=on a (.mov (.c (.byt [] .clip)))
abbrev Xg(a b c d:Nat):RI:=oo a (.slcL b (.t c) none (some (.t d)) none) [c,d]
abbrev Xh(a b:Nat)(c:Int):RI:=on a (.iaddrA 5 1 (.t b) (ci c))
abbrev Xi(a b c d:Nat):RI:=oo a (.app Zq1 b (.t c) (.t d)) [c,d]
abbrev Xj(a:Nat)(b:BinOp)(c:Nat):RI:=oo a (.bin b (.t c) (.c (.u8 32))) [c]
abbrev Xk(a b c:Nat):RI:=oo a (.app [.u8 0] b (.c (.byt [] .clip)) (.t c)) [c]
abbrev Xl(a:Nat):RI:=on a (.new (.arr 1 (ao 64 [.int .u32 0])))
abbrev Xm(a b:Nat):RI:=oo a (.toInt .u32 (.t b)) [b]
abbrev Xn(a b c d e f:Nat):RI:=oo a (Ca b [.t c,.t d,.t e,.t f]) [c,d,e,f,a]
abbrev Xo(a:Nat)(b:BinOp)(c:Nat):RI:=oo a (.bin b (.t c) (.c (.int .u32 10000))) [c]
abbrev Xp(a b c d e:Nat):RI:=oo a (.slcL b (.t c) (some (.t d)) (some (.t e)) none) [c,d,e]
abbrev Xq(a b c d:Nat):RI:=oo a (.slcL b (.t c) (some (.t d)) none none) [c,d]
abbrev Xr(a:Nat)(b:BinOp)(c:Nat):RI:=oo a (.bin b (.t c) (.c (.int .u64 16))) [c]
abbrev Xs(a:Nat):RI:=oo a (.mov (.c (.int .u32 0))) [a]
abbrev Xt(a:Nat)(b:BinOp)(c:Nat):RI:=oo a (.bin b (.c (.int .u64 32)) (.t c)) [c]
abbrev Xu(n:Nat)(l:List Nat)(x:RC):RC:=Kc n (Kk [n] .skip) (Kk l x)
abbrev Xv(n:Nat)(l:List Nat)(x:RC):RC:=Kc n (Kk l x) (Kk [n] .skip)
def xho:La:=[WV 10 false]
def xhn:La:=[on 16 (Ca 10 []),WT 17 16]
def Pd:La:=[on 10 (Mb false)]
def xhm:La:=[om 18 0,Wj 19 18,Wb 20 .gtr 19 10]
def xhl:La:=[Wa 21 0,Xe 22 4 21 10,Wa 0 22]
def xhk:La:=[om 23 2,WH 24 true 23,Wb 25 .gtr 24 20]
def xhj:La:=[Wa 26 2,oo 27 (.slcS (.t 26) none (some (ci 20))) [26],Wa 2 27]
def xhi:La:=[Wa 28 1,oo 29 (Ca 28 [.t 28]) [28],Wa 11 29]
def xhh:La:=[Wa 30 4,Wm 31 36 30,Wa 4 31]
def xhg:La:=[om 32 2,om 33 3,om 34 0,oo 35 (Ca 37 [.t 32,.t 33,.t 34]) [32,33,34],Wa 36 2,om 37 3,Wa 38 0,oo 39 (Ca 38 [.t 36,.t 37,.t 38]) [36,37,38],Ww 40 18 35 39,WT 41 40]
def RF:La:=[Wa 42 3,Wt 43 15 42 9,om 44 11,oo 45 (Ca 37 [(.c (.str [97,99,109,101])),.t 43,.t 44]) [43,44],W1 12,Wx 7 12 45]
def RE:La:=[on 46 (Lt 7 12),Wm 47 13 46,Wb 48 .neq 47 0]
def RD:La:=[Wa 49 11,Wa 50 4,Ww 51 39 49 50,Wa 13 51]
def Nq:La:=[Wh 14 0]
def RB:La:=[om 52 14,om 53 13,Wj 54 53,We 55 .lss 52 54]
def RA:Lb:=[Fs 0 58 (Lt 7 12),Fm 1 59 13,Fm 2 60 14,Wo 3 61 4 59 60,Fs 4 62 (Lt 4 61),WJ 5 63 31 58 62,Fm 6 15 63]
def Rz:La:=[Wa 64 15,Wb 65 .geq 64 0,om 66 13,om 67 14,WW 68 4 66 67,Wr 69 1 68,Wd 70 69,Wb 71 .eql 70 1,oo 72 (.beq true (.t 65) (.t 71)) [65,71]]
def Ry:La:=[Wa 56 14,Wb 57 .add 56 1,Wa 14 57]
def N7:RC:=(Sq (So RB (Xu 55 [12,14,55] (.exit 0))) (Sq (Bk 1 (Sq (.flt [0,0,0,6,14,31,63] [] RA [58,59,60,61,62,63]) (So Rz (Xv 72 [12,13,14,72] (So Pd .ret))))) (.ops Ry)))
def Np:RC:=N7
def Rx:La:=[Wa 73 13,Wj 74 73,Wb 75 .gtr 74 0,Wa 10 75]
def r9:RC:=(So xho (Sq (So xhn (Xv 17 [0,1,2,3,4,17] (So Pd .ret))) (Sq (So xhm (Xv 20 [20] (.ops xhl))) (Sq (So xhk (Xv 25 [25] (.ops xhj))) (So xhi (So xhh (Sq (So xhg (Xv 41 [3,4,11,41] (So Pd .ret))) (So RF (Sq (So RE (Xv 48 [4,11,12,48] (So Pd .ret))) (So RD (Sq (So Nq (Bk 0 (.loop Np))) (So Rx .ret))))))))))))
def F9:FnC:=⟨r9,76,[.tmp 10],[],[]⟩
def XS:La:=[WV 0 false]
def XR:La:=[on 6 (.newB [(.c (.u8 112))]),oo 7 (.slid (.t 6)) [6],oo 8 (.build Zq0 [(0,1,(ci 3)),(1,1,(.c (.str [107]))),(2,1,(ci 3)),(3,1,(.t 7))]) [7],WU 1,Wx 4 1 8]
def XQ:La:=[on 9 (Lt 4 1),W2 10 4 9,oo 11 (Ca 37 [(.c (.str [118])),ci 1,.t 10]) [10],W1 2,Wx 7 2 11]
def XP:La:=[on 12 (Lt 7 2),Wm 13 16 12,Wa 3 13]
def XO:La:=[Wa 15 3,Wm 16 17 15,Wa 14 16,WL 17 14 0,WM 18 14 1,W1 4,Wx 7 4 17,Wa 5 18]
def XN:Lb:=[Wi 0 19 5 2,Wc 1 20 19,Fs 2 21 (Ln 20),Wp 3 22 .eql 21 1,Fm 4 23 22,Wv 5 24 23 true 5,Fi 6 25 23 true (Bc .eql 24 0),Fs 7 26 (Pf 23 25),Fm 8 27 26,Fi 9 28 27 true (Lt 7 2),Fi 10 29 27 true (Lt 7 4),Fy 11 30 27 true (Ca 18 [.t 28,.t 29]),Fs 12 31 (Pf 27 30),Fm 13 32 31,Fi 14 33 32 true (Lt 7 2),Fy 15 34 32 true (Ca 21 [.t 33]),Fi 16 35 32 true (Ln 34),Fi 17 36 32 true (Bc .eql 35 32),Fs 18 37 (Pf 32 36),Fm 19 38 37,Fi 20 39 38 true (Lt 7 2),Fi 21 40 38 true (Lt 4 1),Fy 22 41 38 true (Ca 40 [.t 40,ci 2]),Fy 23 42 38 true (Ca 31 [.t 39,.t 41]),Fi 24 43 38 true (Bc .eql 42 0),Fs 25 44 (Pf 38 43),Fm 26 45 44,Fi 27 46 45 true (.build Zq2 [(0,1,(.c (.str [118]))),(1,1,(ci 1)),(4,1,(ci 5))]),Fy 28 47 45 true (Ca 16 [.t 46]),Fi 29 48 45 true (Ln 47),Fi 30 49 45 true (Bc .eql 48 26),Fs 31 50 (Pf 45 49),Fm 32 0 50]
def r10:RC:=(So XS (So XR (So XQ (So XP (So XO (Sq (.flt [0,1,3,7,15,31,63,127,255,511,511,2047,4095,8191,16383,32767,65535,131071,262143,524287,1048575,1048575,3145727,8388607,16777215,33554431,67108863,134217727,268435455,536870911,1073741823,2147483647,4294967295] [] XN [1,2,4,5,19,20,21,22,23,24,25,26,27,28,29,30,31,32,33,34,35,36,37,38,39,40,41,42,43,44,45,46,47,48,49,50]) .ret))))))
def F10:FnC:=⟨r10,51,[.tmp 0],[],[]⟩
def vY:La:=[WN 1 0,oo 2 (Mc 0) [2]]
def XM:La:=[Wg 9 0 1,Wd 10 9,Wm 11 42 10,WT 12 11,Wa 8 12]
def vX:La:=[Wh 2 43]
def XL:La:=[Wg 14 2 1,Wd 15 14,Wb 16 .lss 15 0,Wa 17 16,.grp 17 false [(xi 18 17 false (Fa 2 1)),(xi 19 17 false (Ld 18)),(xi 20 17 false (Fa 1 1)),(xi 21 17 false (Ld 20)),(xi 22 17 false (Bb .gtr 19 21))] [18,19,20,21],Wn 23 17 22,Wa 24 23,.grp 24 false [(xi 25 24 false (Fa 1 1)),(xi 26 24 false (Ld 25)),(xi 27 24 false (Bc .gtr 26 1000000))] [25,26],Wn 28 24 27,Wa 29 28,.grp 29 false [(xi 30 29 false (Fa 3 1)),(xi 31 29 false (Ld 30)),(xi 32 29 false (Bc .lss 31 0))] [30,31],Wn 33 29 32,Wa 34 33,.grp 34 false [(xi 35 34 false (Fa 3 1)),(xi 36 34 false (Ld 35)),(xi 37 34 false (Fa 4 1)),(xi 38 34 false (Ld 37)),(xi 39 34 false (Bb .geq 36 38))] [35,36,37,38],Wn 40 34 39,Wa 41 40,.grp 41 false [(xi 42 41 false (Fa 4 1)),(xi 43 41 false (Ld 42)),(xi 44 41 false (Bc .gtr 43 1099511627776))] [42,43],Wn 45 41 44,Wa 13 45]
def ku:La:=[Wh 2 1]
def XK:La:=[Wg 47 5 1,Wd 48 47,Wj 49 48,Wb 50 .gtr 49 16,Wa 51 50,.grp 51 false [(xi 52 51 false (Fa 6 1)),(xi 53 51 false (Ld 52)),(xi 54 51 false (Ln 53)),(xi 55 51 false (Bc .gtr 54 8))] [52,53,54],Wn 56 51 55,Wa 46 56]
def tj:La:=[Wh 2 4]
def XJ:La:=[Wg 57 5 1,Wd 58 57,WI 59 58,Wh 60 0]
def XI:La:=[WC 61 .lss 60 59]
def XH:La:=[om 62 60,on 63 (Ia 4 58 60),Wz 64 4 63,WU 4,Wa 3 62,Sr 4 4 64 [64]]
def Kq:La:=[Wg 66 0 4,Wd 67 66,Wb 68 .lss 67 1,Wa 69 68,.grp 69 false [(xi 70 69 false (Fa 0 4)),(xi 71 69 false (Ld 70)),(xi 72 69 false (Bc .gtr 71 3))] [70,71],Wn 73 69 72,Wa 74 73,.grp 74 false [(xi 75 74 false (Fa 2 4)),(xi 76 74 false (Ld 75)),(xi 77 74 false (Bc .lss 76 0))] [75,76],Wn 78 74 77,Wa 79 78,.grp 79 false [(xi 80 79 false (Fa 2 4)),(xi 81 79 false (Ld 80)),(xi 82 79 false (Bc .gtr 81 1000000))] [80,81],Wn 83 79 82,Wa 84 83,.grp 84 false [(xi 85 84 false (Fa 3 4)),(xi 86 84 false (Ld 85)),(xi 87 84 false (Ln 86)),(xi 88 84 false (Bc .neq 87 32))] [85,86,87],Wn 89 84 88,Wa 65 89]
def Kp:La:=[Wg 91 1 4,Wd 92 91,Wm 93 42 92,WT 94 93,Wa 90 94]
def Ko:Lb:=[Fm 0 96 3,Wp 1 97 .gtr 96 0,Fm 2 98 97,Fi 3 99 98 true (Fa 5 1),Fi 4 100 98 true (Ld 99),Wv 5 101 98 true 3,Fi 6 102 98 true (Bc .sub 101 1),Fi 7 103 98 true (Ia 4 100 102),Fi 8 104 98 true (Lt 4 103),Fi 9 105 98 true (Lt 4 4),Fy 10 106 98 true (Ca 43 [.t 104,.t 105]),Fi 11 107 98 true (Bc .geq 106 0),Fs 12 108 (Pf 98 107),Fm 13 95 108]
def xP:La:=[Wh 2 41]
def Kn:La:=[Wb 109 .add 60 1,Wa 60 109]
def yS:RC:=(.post (So XI (Sq (Xu 61 [58,59,60,61] (.exit 1)) (Sq (Bk 2 (So XH (Bk 3 (So Kq (Kc 65 (Kk [1,3,4,58,59,60,65] (So ku .ret)) (Kk [65] (So Kp (Kc 90 (Kk [1,3,4,58,59,60,90] (So vX .ret)) (Kk [90] (Sq (.flt [0,1,3,7,15,7,39,127,255,7,1023,2047,4095,8191] [] Ko [3,4,96,97,98,99,100,101,102,103,104,105,106,107,108]) (Xv 95 [1,58,59,60,95] (So xP .ret)))))))))))) (.ops Kn)))) [.gc [104]])
def lH:RC:=yS
def Km:La:=[Wr 110 6 1,Wd 111 110,WI 112 111,Wh 113 0]
def Kj:La:=[WC 114 .lss 113 112]
def Ki:La:=[on 115 (Ia 4 111 113),Wz 116 4 115,on 6 (.new (.rc Zq3)),Wx 4 6 116]
def Kh:La:=[Wz 117 4 6,Wm 118 44 117,Wa 7 118]
def Kg:La:=[om 119 7,Wb 120 .neq 119 0]
def Kf:La:=[Wa 121 7,Wa 2 121]
def Ke:La:=[Wb 122 .add 113 1,Wa 113 122]
def yR:RC:=(.post (So Kj (Sq (Xu 114 [111,112,113,114] (.exit 4)) (Sq (Bk 5 (So Ki (So Kh (So Kg (Kc 120 (Kk [111,112,113,120] (So Kf .ret)) (Kk [7,120] .skip)))))) (.ops Ke)))) [.gc [106]])
def tn:RC:=yR
def jD:La:=[Wh 2 0]
def r13:RC:=(So vY (Sq (Bk 0 (So XM (Kc 8 (Kk [1,8] (So vX .ret)) (Kk [8] (So XL (Kc 13 (Kk [1,13] (So ku .ret)) (Kk [13] (So XK (Xv 46 [1,46] (So tj .ret)))))))))) (Sq (So XJ (Bk 1 (.loop lH))) (Sq (So Km (Bk 4 (.loop tn))) (So jD .ret)))))
def F13:FnC:=⟨r13,123,[.tmp 2],[],[]⟩
def ot:La:=[oo 4 (Mc 0) [4]]
def XG:La:=[om 6 1,Wb 7 .lss 6 1]
def lR:La:=[Wh 4 0]
def XF:La:=[Wa 8 0,om 9 1,We 10 .rem 8 9,Wa 5 10]
def XE:La:=[om 11 5,Wb 12 .lss 11 0]
def XD:La:=[Wa 13 5,Wa 14 1,We 15 .add 13 14,Wa 5 15]
def XC:La:=[Wa 16 5,Wa 4 16]
def r15:RC:=(So ot (Sq (So XG (Xv 7 [0,1,7] (So lR .ret))) (So XF (Sq (So XE (Kc 12 (Kk [12] (.ops XD)) (Kk [1,12] .skip))) (So XC .ret)))))
def F15:FnC:=⟨r15,17,[.tmp 4],[],[]⟩
def vW:La:=[WN 1 0,Xa 2]
def XB:La:=[on 8 (Lt 7 1),Wm 9 13 8,Wb 10 .neq 9 0]
def th:La:=[Xf 2]
def XA:La:=[on 11 (Ca 48 [(.c (.byt [] .clip)),ci 1,ci 21]),Wa 3 11]
def Xz:La:=[Wa 12 3,Wg 13 0 1,Wd 14 13,Xb 15 14,Ww 16 49 12 15,Wa 3 16]
def Xy:Lb:=[Fm 0 17 3,Wi 1 18 1 1,Wc 2 19 18,Wi 4 21 2 1,Wc 5 22 21,WX 3 20 48 17 4 19,WX 6 23 48 20 4 22,⟨7,false,(xm 3 23)⟩]
def Xx:Lb:=[Fm 0 24 3,Wi 1 25 3 1,Wc 2 26 25,Wi 4 28 4 1,Wc 5 29 28,WX 3 27 48 24 6 26,WX 6 30 48 27 6 29,⟨7,false,(xm 3 30)⟩]
def Xw:La:=[Wa 31 3,Wg 32 5 1,Wd 33 32,Wj 34 33,W8 35 48 31 1 34,Wa 3 35]
def V9:La:=[Wg 36 5 1,Wd 37 36,WI 38 37,Wh 39 0]
def V8:La:=[WC 40 .lss 39 38]
def Jm:La:=[on 41 (Ia 4 37 39),Wz 42 4 41,WU 5,Wx 4 5 42]
def Jl:Lb:=[Fm 0 43 3,Wi 1 44 0 5,Wc 2 45 44,Wi 4 47 1 5,Wc 5 48 47,Fs 6 49 (.s2b (.t 48)),WX 3 46 48 43 1 45,WJ 7 50 49 46 49,⟨8,false,(xm 3 50)⟩]
def Jk:Lb:=[Fm 0 51 3,Wi 1 52 2 5,Wc 2 53 52,Wi 4 55 3 5,Wc 5 56 55,WX 3 54 48 51 4 53,Fz 6 57 (.app [.u8 0] 1 (.t 54) (.t 56)),⟨7,false,(xm 3 57)⟩]
def Jj:La:=[Wb 58 .add 39 1,Wa 39 58]
def yM:RC:=(.post (So V8 (Sq (Xu 40 [37,38,39,40] (.exit 0)) (Sq (Bk 1 (So Jm (Sq (.flt [0,0,2,7,0,16,48,127,255] [] Jl [43,44,45,46,47,48,49,50]) (.flt [0,0,2,7,0,16,63,127] [157] Jk [5,51,52,53,54,55,56,57])))) (.ops Jj)))) [.gc [105],.gcr 47000 48000,.gcr 55000 56000,.tok 3 103])
def pX:RC:=yM
def Ji:La:=[Wa 59 3,Wg 60 6 1,Wd 61 60,Wj 62 61,W8 63 48 59 1 62,Wa 3 63]
def Jh:La:=[Wr 64 6 1,Wd 65 64,WI 66 65,Wh 67 0]
def Jg:La:=[WC 68 .lss 67 66]
def Jf:La:=[on 69 (Ia 4 65 67),Wz 70 4 69,on 7 (.new (.rc Zq3)),Wx 4 7 70]
def Je:Lb:=[Fm 0 71 3,Wi 1 72 0 7,Wc 2 73 72,Wi 4 75 1 7,Wc 5 76 75,Fs 6 77 (.s2b (.t 76)),WX 3 74 48 71 1 73,WJ 7 78 49 74 77,⟨8,false,(xm 3 78)⟩]
def Jd:Lb:=[Fm 0 79 3,Wi 1 80 2 7,Wc 2 81 80,Wi 4 83 3 7,Wc 5 84 83,WX 3 82 48 79 4 81,WX 6 85 48 82 4 84,⟨7,false,(xm 3 85)⟩]
def Jc:La:=[Wb 86 .add 67 1,Wa 67 86]
def yL:RC:=(.post (So Jg (Sq (Xu 68 [65,66,67,68] (.exit 2)) (Sq (Bk 3 (So Jf (Sq (.flt [0,0,2,7,0,16,48,127,255] [] Je [71,72,73,74,75,76,77,78]) (.flt [0,0,2,7,0,16,63,127] [] Jd [7,79,80,81,82,83,84,85])))) (.ops Jc)))) [.gc [107],.gcr 75000 76000,.gcr 83000 84000])
def pW:RC:=yL
def Jb:La:=[Wa 87 3,Wa 2 87]
def r16:RC:=(So vW (Sq (So XB (Xv 10 [1,10] (So th .ret))) (So XA (So Xz (Sq (.flt [0,0,2,7,0,16,63,127] [] Xy [17,18,19,20,21,22,23]) (Sq (.flt [0,0,2,7,0,16,63,127] [] Xx [24,25,26,27,28,29,30]) (So Xw (Sq (So V9 (Bk 0 (.pre [.tok 3 103] (.loop pX)))) (So Ji (Sq (So Jh (Bk 2 (.loop pW))) (So Jb .ret)))))))))))
def F16:FnC:=⟨r16,88,[.tmp 2],[],[]⟩
def V7:La:=[W1 2,oo 3 (Mc 0) [3]]
def V6:La:=[Wa 10 0,Wm 11 50 10,Wa 4 11]
def V5:La:=[W1 5]
def V4:La:=[om 12 4,Wt 13 51 12 1,Wb 14 .neq 13 21]
def V3:La:=[on 15 (.build Zq2 []),Wx 7 2 15,Wh 3 30]
def V2:La:=[om 16 4,Wt 17 52 16 12,WY 18 17,Wg 19 0 5,Ws 1 19 18]
def V1:La:=[om 20 4,Wt 21 51 20 4,Wg 22 1 5,Ws 1 22 21]
def V0:La:=[om 23 4,Wt 24 51 23 4,Wg 25 2 5,Ws 1 25 24]
def VZ:La:=[om 26 4,Wt 27 51 26 6,Wg 28 3 5,Ws 1 28 27]
def VY:La:=[om 29 4,Wt 30 51 29 6,Wg 31 4 5,Ws 1 31 30]
def IV:La:=[om 32 4,Wt 33 51 32 1,Wa 6 33]
def IU:La:=[om 34 6,Wb 35 .gtr 34 0,Wa 36 35,.grp 36 true [(xi 37 36 true (Mv 4)),(xi 38 36 true (Ca 53 [.t 37])),(xi 39 36 true (Bc .eql 38 0))] [37,38],Wu 40 36 39]
def IT:La:=[WU 7]
def IS:La:=[om 43 4,Wt 44 51 43 1,Wg 45 0 7,Ws 1 45 44]
def IR:La:=[om 46 4,Wt 47 52 46 12,WY 48 47,Wg 49 1 7,Ws 1 49 48]
def IQ:La:=[om 50 4,oo 51 (Ca 51 [.t 50,ci 4]) [50],Wg 52 2 7,Ws 1 52 51]
def IP:La:=[om 53 4,oo 54 (Ca 54 [.t 53,ci 32]) [53],Wg 55 3 7,Ws 1 55 54]
def IN:La:=[Wg 56 5 5,Wd 57 56,Wz 58 4 7,W2 59 4 58,oo 60 (.app Zq0 56 (.t 57) (.t 59)) [57,59],Wg 61 5 5,Ws 1 61 60]
def IM:La:=[Wa 41 6,Wb 42 .sub 41 1,Wa 6 42]
def yK:RC:=(.post (Sq (So IU (Xu 40 [6,40] (.exit 0))) (Sq (Bk 1 (So IT (So IS (So IR (So IQ (So IP (.ops IN))))))) (.ops IM))) [.gc [107]])
def xK:RC:=yK
def pV:La:=[om 62 4,Wt 63 51 62 1,Wa 8 63]
def IL:La:=[om 64 8,Wb 65 .gtr 64 0,Wa 66 65,.grp 66 true [(xi 67 66 true (Mv 4)),(xi 68 66 true (Ca 53 [.t 67])),(xi 69 66 true (Bc .eql 68 0))] [67,68],Wu 70 66 69]
def IK:La:=[on 9 (.new (.rc Zq3))]
def IJ:La:=[om 73 4,Wt 74 51 73 1,Wg 75 0 9,Ws 1 75 74]
def II:La:=[om 76 4,Wt 77 52 76 32,WY 78 77,Wg 79 1 9,Ws 1 79 78]
def IH:La:=[om 80 4,Wt 81 51 80 4,Wg 82 2 9,Ws 1 82 81]
def IG:La:=[om 83 4,Wt 84 51 83 4,Wg 85 3 9,Ws 1 85 84]
def IF:La:=[Wg 86 6 5,Wd 87 86,Wz 88 4 9,W2 89 4 88,oo 90 (.app Zq3 40 (.t 87) (.t 89)) [87,89],Wg 91 6 5,Ws 1 91 90]
def IE:La:=[Wa 71 8,Wb 72 .sub 71 1,Wa 8 72]
def yJ:RC:=(.post (Sq (So IL (Xu 70 [8,70] (.exit 2))) (Sq (Bk 3 (So IK (So IJ (So II (So IH (So IG (.ops IF))))))) (.ops IE))) [.gc [109]])
def xJ:RC:=yJ
def pU:La:=[Wa 92 4,Wm 93 55 92,Wb 94 .neq 93 0,Wa 95 94,.grp 95 false [(xi 96 95 false (Lt 7 5)),(xi 97 95 false (Ca 13 [.t 96])),(xi 98 95 false (Bc .neq 97 0))] [96,97],Wn 99 95 98]
def ID:La:=[on 100 (.build Zq2 []),Wx 7 2 100,Wh 3 30]
def IC:La:=[Wz 101 7 5,Wx 7 2 101,Wh 3 0]
def r17:RC:=(So V7 (So V6 (So V5 (Sq (So V4 (Xv 14 [4,5,14] (So V3 .ret))) (So V2 (So V1 (So V0 (So VZ (So VY (Sq (So IV (Bk 0 (.loop xK))) (Sq (So pV (Bk 2 (.loop xJ))) (Sq (So pU (Xv 99 [5,99] (So ID .ret))) (So IC .ret)))))))))))))
def F17:FnC:=⟨r17,102,[.cell 2 7 true,.tmp 3],[],[]⟩
def DK:La:=[WN 2 0,WN 3 1,WV 4 false]
def VX:La:=[Wg 9 0 2,Wd 10 9,Wg 11 0 3,Wd 12 11,We 13 .neq 10 12,Wa 14 13,.grp 14 false [(xi 15 14 false (Fa 1 2)),(xi 16 14 false (Ld 15)),(xi 17 14 false (Fa 1 3)),(xi 18 14 false (Ld 17)),(xi 19 14 false (Bb .neq 16 18))] [15,16,17,18],Wn 20 14 19,Wa 21 20,.grp 21 false [(xi 22 21 false (Fa 2 2)),(xi 23 21 false (Ld 22)),(xi 24 21 false (Fa 2 3)),(xi 25 21 false (Ld 24)),(xi 26 21 false (Bb .neq 23 25))] [22,23,24,25],Wn 27 21 26,Wa 28 27,.grp 28 false [(xi 29 28 false (Fa 3 2)),(xi 30 28 false (Ld 29)),(xi 31 28 false (Fa 3 3)),(xi 32 28 false (Ld 31)),(xi 33 28 false (Bb .neq 30 32))] [29,30,31,32],Wn 34 28 33,Wa 35 34,.grp 35 false [(xi 36 35 false (Fa 4 2)),(xi 37 35 false (Ld 36)),(xi 38 35 false (Fa 4 3)),(xi 39 35 false (Ld 38)),(xi 40 35 false (Bb .neq 37 39))] [36,37,38,39],Wn 41 35 40,Wa 42 41,.grp 42 false [(xi 43 42 false (Fa 5 2)),(xi 44 42 false (Ld 43)),(xi 45 42 false (Ln 44)),(xi 46 42 false (Fa 5 3)),(xi 47 42 false (Ld 46)),(xi 48 42 false (Ln 47)),(xi 49 42 false (Bb .neq 45 48))] [43,44,45,46,47,48],Wn 50 42 49,Wa 51 50,.grp 51 false [(xi 52 51 false (Fa 6 2)),(xi 53 51 false (Ld 52)),(xi 54 51 false (Ln 53)),(xi 55 51 false (Fa 6 3)),(xi 56 51 false (Ld 55)),(xi 57 51 false (Ln 56)),(xi 58 51 false (Bb .neq 54 57))] [52,53,54,55,56,57],Wn 59 51 58]
def oq:La:=[on 4 (Mb false)]
def tc:La:=[Wh 5 0]
def VW:La:=[om 60 5,Wg 61 5 2,Wd 62 61,Wj 63 62,We 64 .lss 60 63]
def VV:Lb:=[Wi 0 67 5 2,Wc 1 68 67,Fm 2 69 5,Wo 3 70 4 68 69,Fs 4 71 (Lt 4 70),Wi 5 72 5 3,Wc 6 73 72,Fm 7 74 5,Wo 8 75 4 73 74,Fs 9 76 (Lt 4 75),Fz 10 6 (.new (.rc Zq0)),Fz 11 7 (.new (.rc Zq0)),Fr 12 4 6 71,Fr 13 4 7 76]
def VU:La:=[Wg 77 0 6,Wd 78 77,Wg 79 0 7,Wd 80 79,We 81 .neq 78 80,Wa 82 81,.grp 82 false [(xi 83 82 false (Fa 1 6)),(xi 84 82 false (Ld 83)),(xi 85 82 false (Fa 1 7)),(xi 86 82 false (Ld 85)),(xi 87 82 false (Bb .neq 84 86))] [83,84,85,86],Wn 88 82 87,Wa 89 88,.grp 89 false [(xi 90 89 false (Fa 2 6)),(xi 91 89 false (Ld 90)),(xi 92 89 false (Fa 2 7)),(xi 93 89 false (Ld 92)),(xi 94 89 false (Bb .neq 91 93))] [90,91,92,93],Wn 95 89 94,Wa 96 95,.grp 96 false [(xi 97 96 false (Fa 3 6)),(xi 98 96 false (Ld 97)),(xi 99 96 false (Fa 3 7)),(xi 100 96 false (Ld 99)),(xi 101 96 false (Ca 19 [.t 98,.t 100])),(xi 102 96 false (.un .not (.t 101)))] [6,7,97,98,99,100,101],Wn 103 96 102]
def VT:La:=[Wa 65 5,Wb 66 .add 65 1,Wa 5 66]
def Oj:RC:=(.post (Sq (So VW (Xu 64 [5,64] (.exit 0))) (Sq (Bk 1 (Sq (.fla [0,1,0,7,15,0,32,0,224,480,0,0,3103,8191] [106,107] VV [[0,1,2,3,4,5,6,7,8,9,10,11,12,13],[0,1,2,3,4,5,6,7,8,9,11,10,12,13]] [67,68,69,70,71,72,73,74,75,76]) (So VU (Xv 103 [2,3,5,103] (So oq .ret))))) (.ops VT))) [.gc [106,107]])
def DJ:RC:=Oj
def tg:La:=[Wh 8 0]
def IA:La:=[om 104 8,Wg 105 6 2,Wd 106 105,Wj 107 106,We 108 .lss 104 107]
def Iz:Lb:=[Wi 0 111 6 2,Wc 1 112 111,Fm 2 113 8,Wo 3 114 4 112 113,Fs 4 115 (Lt 4 114),Wi 5 116 6 3,Wc 6 117 116,Fm 7 118 8,Wo 8 119 4 117 118,Fs 9 120 (Lt 4 119),Fs 10 121 (.eqS true [1,2,1,1] (.t 115) (.t 120))]
def Iy:La:=[Wa 109 8,Wb 110 .add 109 1,Wa 8 110]
def yI:RC:=(Sq (So IA (Xu 108 [2,3,8,108] (.exit 2))) (Sq (Bk 3 (Sq (.flt [0,1,0,7,15,0,32,0,224,480,1023] [] Iz [111,112,113,114,115,116,117,118,119,120]) (Xv 121 [2,3,8,121] (So oq .ret)))) (.ops Iy)))
def te:RC:=yI
def td:La:=[on 4 (Mb true)]
def r18:RC:=(So DK (Sq (So VX (Xv 59 [2,3,59] (So oq .ret))) (Sq (So tc (Bk 0 (.loop DJ))) (Sq (So tg (Bk 2 (.loop te))) (So td .ret)))))
def F18:FnC:=⟨r18,122,[.tmp 4],[],[]⟩
def qp:La:=[WV 4 false]
def VS:La:=[om 6 0,Wj 7 6,om 8 1,Wj 9 8,We 10 .neq 7 9]
def VR:La:=[om 11 5,om 12 0,Wj 13 12,We 14 .lss 11 13]
def VQ:Lb:=[Wq 0 17,Fm 1 18 5,Wo 2 19 1 17 18,Wc 3 20 19,Fm 4 21 1,Wq 5 22,Wo 6 23 1 21 22,Wc 7 24 23,Wf 8 25 .neq 20 24]
def VP:La:=[Wa 15 5,Wb 16 .add 15 1,Wa 5 16]
def Oi:RC:=(Sq (So VR (Xu 14 [0,1,5,14] (.exit 0))) (Sq (Bk 1 (Sq (.flt [0,0,3,7,0,0,48,112,255] [] VQ [17,18,19,20,21,22,23,24]) (Xv 25 [0,1,5,25] (So oq .ret)))) (.ops VP)))
def NX:RC:=Oi
def r19:RC:=(So qp (Sq (So VS (Xv 10 [0,1,10] (So oq .ret))) (Sq (So tc (Bk 0 (.loop NX))) (So td .ret))))
def F19:FnC:=⟨r19,26,[.tmp 4],[],[]⟩
def VO:La:=[Wz 4 7 1,Wm 5 16 4,Wa 3 5]
def VN:La:=[om 6 3,Wj 7 6,Wb 8 .eql 7 0]
def VM:La:=[Wa 9 3,W2 10 1 9,oo 11 (Ca 58 [ci 21,.t 10]) [10],Wa 2 11]
def r21:RC:=(So vW (So VO (Sq (So VN (Xv 8 [3,8] (So th .ret))) (So VM .ret))))
def F21:FnC:=⟨r21,12,[.tmp 2],[],[]⟩
def VL:La:=[oo 2 (.mov (.c (.lst 4 [] .clip))) [2]]
def VK:La:=[Wa 10 0,Wt 11 29 10 200,Wa 3 11]
def NW:La:=[on 4 (.mov (.c (.lst 4 [] .clip)))]
def NV:La:=[Wh 5 1]
def VJ:La:=[om 12 5,Wb 13 .leq 12 4]
def VI:La:=[om 16 3,Wt 17 71 16 3,Wa 6 17]
def VH:La:=[om 18 5,Wb 19 .eql 18 1,Wa 20 19,.grp 20 false [(xi 21 20 false (Mv 5)),(xi 22 20 false (Bc .eql 21 3))] [21],Wn 23 20 22]
def VG:La:=[om 24 3,Wt 25 71 24 2,WQ 26 .add 1 25,Wa 6 26]
def VF:La:=[om 27 6,Wb 28 .gtr 27 0]
def VE:La:=[om 31 3,om 32 5,Ww 33 72 31 32,WU 7,Wx 4 7 33]
def Ix:La:=[on 8 (Mb false)]
def Iw:La:=[Wh 9 0]
def Iv:La:=[om 34 9,om 35 4,Wj 36 35,We 37 .lss 34 36]
def Iu:Lb:=[Fm 0 40 8,Fm 1 41 40,Wv 2 42 41 false 4,Wv 3 43 41 false 9,Fi 4 44 41 false (Ia 4 42 43),Fi 5 45 41 false (Fa 0 44),Fi 6 46 41 false (Ld 45),Fi 7 47 41 false (Fa 0 7),Fi 8 48 41 false (Ld 47),Fi 9 49 41 false (Bb .eql 46 48),Wv 10 50 41 false 49,Wv 11 51 50 true 4,Wv 12 52 50 true 9,Fi 13 53 50 true (Ia 4 51 52),Fi 14 54 50 true (Fa 1 53),Fi 15 55 50 true (Ld 54),Fi 16 56 50 true (Fa 1 7),Fi 17 57 50 true (Ld 56),Fi 18 58 50 true (Bb .eql 55 57),Fi 19 59 41 false (Pf 50 58),Fs 20 60 (Pt 41 59),⟨21,false,(xm 8 60)⟩]
def It:La:=[Wa 38 9,Wb 39 .add 38 1,Wa 9 39]
def yH:RC:=(Sq (So Iv (Xu 37 [9,37] (.exit 4))) (Sq (Bk 5 (.flt [0,1,3,3,15,31,63,3,131,511,1023,2047,2047,8191,16383,32767,2047,67583,262143,524287,1048575,2097151] [] Iu [40,41,42,43,44,45,46,47,48,49,50,51,52,53,54,55,56,57,58,59,60])) (.ops It)))
def xI:RC:=yH
def Is:La:=[Wa 61 8,WT 62 61]
def Ir:La:=[Wa 63 4,Wz 64 4 7,W2 65 4 64,oo 66 (.app Zq0 56 (.t 63) (.t 65)) [63,65],Wa 4 66]
def Iq:La:=[Wa 29 6,Wb 30 .sub 29 1,Wa 6 30]
def yG:RC:=(.post (Sq (So VF (Xu 28 [6,28] (.exit 2))) (Sq (Bk 3 (So VE (So Ix (Sq (So Iw (Bk 4 (.loop xI))) (So Is (Kc 62 (Kk [62] (.ops Ir)) (Kk [7,62] .skip))))))) (.ops Iq))) [.gc [107],.tok 4 104])
def xH:RC:=yG
def Ip:La:=[Wa 14 5,Wb 15 .add 14 1,Wa 5 15]
def yF:RC:=(.post (Sq (So VJ (Xu 13 [3,5,13] (.exit 0))) (Sq (Bk 1 (So VI (Sq (So VH (Xv 23 [6,23] (.ops VG))) (Bk 2 (.pre [.tok 4 104] (.loop xH)))))) (.ops Ip))) [.gc [107],.tok 4 104])
def pT:RC:=yF
def Io:La:=[Wa 67 4,Wa 2 67]
def r28:RC:=(So VL (So VK (So NW (Sq (So NV (Bk 0 (.pre [.tok 4 104] (.loop pT)))) (So Io .ret)))))
def F28:FnC:=⟨r28,68,[.tmp 2],[],[]⟩
def VD:La:=[oo 4 (.mov (.c .nilp)) [4]]
def VC:La:=[om 5 0,Wj 6 5,om 7 1,We 8 .gtr 6 7]
def VB:La:=[Wa 9 0,Wa 10 1,Xg 11 1 9 10,Wa 0 11]
def VA:La:=[Wa 12 0,oo 13 (.build [.byt [] .clip,.int .i64 0] [(0,1,(.t 12))]) [12],WN 14 13,Wa 4 14]
def r29:RC:=(So VD (Sq (So VC (Kc 8 (Kk [8] (.ops VB)) (Kk [1,8] .skip))) (So VA .ret)))
def F29:FnC:=⟨r29,15,[.tmp 4],[],[]⟩
def NU:La:=[WN 2 0,WN 3 1,oo 4 (Mc 0) [4]]
def Vz:La:=[on 6 (Lt 7 2),Wm 7 13 6,Wb 8 .neq 7 0]
def ol:La:=[Wh 4 (-1)]
def Vy:La:=[Wg 9 1 3,Wd 10 9]
def Vx:La:=[WD 12 .eql 10 1,Wa 11 12]
def Vw:La:=[Wr 13 5 2,Wd 14 13,oo 15 (.mkfn 76 [] [.t 3]) [3],Ww 16 75 14 15,Wa 4 16]
def Vv:La:=[Wb 18 .eql 10 3,Wa 17 18]
def Vu:Lb:=[Wi 0 19 0 3,Wc 1 20 19,Fz 2 21 (Ca 33 [ci 4]),Wf 3 22 .neq 20 21,Fm 4 23 22,Fi 5 24 23 false (Lt 4 3),Fy 6 25 23 false (Ca 79 [.t 24]),Fi 7 26 23 false (.un .not (.t 25)),Fs 8 27 (Pt 23 26)]
def Vt:La:=[Wg 28 6 2,Wd 29 28,oo 30 (.mkfn 81 [] [.t 3]) [3],Ww 31 80 29 30,Wa 5 31]
def In:La:=[om 32 5,Wb 33 .geq 32 0]
def Im:La:=[Wr 34 5 2,Wd 35 34,Wj 36 35,Wa 37 5,We 38 .add 36 37,Wa 4 38]
def r31:RC:=(So NU (Sq (So Vz (Xv 8 [2,3,8] (So ol .ret))) (Sq (So Vy (Bk 0 (So Vx (Kc 11 (Kk [10,11] (So Vw .ret)) (Kk [11] (So Vv (Kc 17 (Kk [17] (Sq (Sq (.flt [0,1,0,7,15,31,63,127,255] [] Vu [19,20,21,22,23,24,25,26]) (Xv 27 [2,3,27] (So ol .ret))) (So Vt (So In (Kc 33 (Kk [33] (So Im .ret)) (Kk [2,5,33] .skip)))))) (Kk [2,3,17] .skip)))))))) (So ol .ret))))
def F31:FnC:=⟨r31,39,[.tmp 4],[],[]⟩
def jc:La:=[oo 2 (Mc 0) [2]]
def Vs:La:=[om 3 0,Wb 4 .lss 3 0,Wa 5 4,.grp 5 false [(xi 6 5 false (Mv 0)),(xi 7 5 false (Bc .geq 6 5))] [6],Wn 8 5 7]
def vV:La:=[Wh 2 (-1)]
def Vr:La:=[Wa 9 0,oo 10 (.iaddrA 5 1 (.c (.pp oL)) (.t 9)) [9],Wd 11 10,Wa 2 11]
def r33:RC:=(So jc (Sq (So Vs (Xv 8 [0,8] (So vV .ret))) (So Vr .ret)))
def F33:FnC:=⟨r33,12,[.tmp 2],[],[]⟩
def lQ:La:=[Xa 4]
def Vq:La:=[Wa 5 0,.tks (xs 6 (.s2b (.t 5))) [5],on 7 (.litB [(.c (.u8 32))]),WA 8 1 6 7,Wa 9 1,Wm 10 85 9,WA 11 1 8 10,Wa 4 11]
def r34:RC:=(So lQ (So Vq .ret))
def F34:FnC:=⟨r34,12,[.tmp 4],[],[]⟩
def Vp:La:=[WN 2 0,WV 4 false]
def Vo:La:=[on 8 (Lt 4 2),Wm 9 44 8,Wb 10 .neq 9 0]
def Vn:La:=[Wg 11 0 2,Wd 12 11]
def Vm:La:=[WD 14 .eql 12 2,Wa 13 14]
def Vl:La:=[Wa 15 1,WY 16 15,Wr 17 1 2,Wd 18 17,We 19 .eql 16 18,Wa 4 19]
def Vk:La:=[WD 21 .eql 12 3,Wa 20 21]
def Vj:La:=[Wr 22 1 2,Wd 23 22,Wa 24 1,Ww 25 86 23 24,Wa 4 25]
def Vi:La:=[Wb 27 .eql 12 4,Wa 26 27]
def Vh:La:=[Wa 29 1,WY 30 29,Wg 31 1 2,Wd 32 31,Ww 33 87 30 32,Wa 28 33,WL 34 28 0,WM 35 28 1,Wa 5 34,Wa 6 35]
def Il:La:=[Wa 36 5,Wm 37 88 36,Wa 7 37]
def Ik:La:=[Wa 38 6,Wa 39 38,.grp 39 true [(xi 40 39 true (Mv 7)),(xi 41 39 true (Fa 2 2)),(xi 42 39 true (Ld 41)),(xi 43 39 true (Bb .geq 40 42))] [40,41,42],Wu 44 39 43,Wa 45 44,.grp 45 true [(xi 46 45 true (Mv 7)),(xi 47 45 true (Fa 3 2)),(xi 48 45 true (Ld 47)),(xi 49 45 true (Bb .leq 46 48))] [2,7,46,47,48],Wu 50 45 49,Wa 4 50]
def r35:RC:=(So Vp (Sq (So Vo (Xv 10 [1,2,10] (So oq .ret))) (Sq (So Vn (Bk 0 (So Vm (Kc 13 (Kk [12,13] (So Vl .ret)) (Kk [13] (So Vk (Kc 20 (Kk [12,20] (So Vj .ret)) (Kk [20] (So Vi (Kc 26 (Kk [26] (So Vh (So Il (So Ik .ret)))) (Kk [1,2,26] .skip))))))))))) (So td .ret))))
def F35:FnC:=⟨r35,51,[.tmp 4],[],[]⟩
def Vg:La:=[Wa 3 0,Wt 4 15 3 2,WQ 5 .add 2 4,Wa 2 5]
def r36:RC:=(So jc (So Vg .ret))
def F36:FnC:=⟨r36,6,[.tmp 2],[],[]⟩
def NT:La:=[W1 6]
def Vf:La:=[Wa 10 0,Wa 11 1,oo 12 (.build Zq2 [(0,1,(.t 10)),(1,1,(.t 11)),(4,1,(ci 1099511627776))]) [10,11],W1 7,Sr 7 7 12 [12]]
def Ve:La:=[Wa 13 2,WI 14 13,Wh 15 0]
def Vd:La:=[WC 16 .lss 15 14]
def Vc:La:=[on 17 (Ia 4 13 15),Wz 18 4 17,WU 9,Wx 4 9 18]
def Vb:La:=[on 19 (Lt 4 9),Wm 20 89 19,Wb 21 .eql 20 0,Wa 22 21,.grp 22 true [(xi 23 22 true (Fa 0 9)),(xi 24 22 true (Ld 23)),(xi 25 22 true (Bc .neq 24 4))] [23,24],Wu 26 22 25]
def Va:Lb:=[Wi 0 27 5 7,Wc 1 28 27,Wi 2 29 0 9,Wc 3 30 29,Wi 4 31 1 9,Wc 5 32 31,Wi 6 33 2 9,Wc 7 34 33,Fs 8 35 (Lt 4 9),WZ 9 36 91 35,Fz 10 37 (Ca 90 [ci 1,.t 36]),Fs 11 38 (.build Zq0 [(0,1,(.t 30)),(1,1,(.t 32)),(2,1,(.t 34)),(3,1,(.t 37))]),Fs 12 39 (.lit 4 [.t 38]),Fz 13 40 (.appO Zq0 56 (.t 28) (.t 39)),Wi 14 41 5 7,Fr 15 1 41 40]
def U9:La:=[Wb 42 .add 15 1,Wa 15 42]
def Oh:RC:=(.post (So Vd (Sq (Xu 16 [13,14,15,16] (.exit 0)) (Sq (Bk 1 (So Vc (So Vb (Kc 26 (Kk [26] (.flt [0,1,0,4,0,16,0,64,0,256,768,2044,4092,8191,16383,32767] [140] Va [9,27,28,29,30,31,32,33,34,35,36,37,38,39,40,41])) (Kk [9,26] .skip))))) (.ops U9)))) [.gc [109]])
def NS:RC:=Oh
def U8:La:=[Wg 43 5 7,Wd 44 43,oo 45 (Ca 92 [.t 44,(.f 43)]) [44,45]]
def Ij:La:=[Wg 46 5 7,Wd 47 46,oo 48 (Ca 93 [.t 47,(.f 94)]) [47],Wg 49 5 7,Ws 1 49 48]
def Ii:La:=[oo 50 (Lt 7 7) [7],Wx 7 6 50]
def r37:RC:=(So NT (So Vf (Sq (So Ve (Bk 0 (.loop NS))) (So U8 (So Ij (So Ii .ret))))))
def F37:FnC:=⟨r37,51,[.cell 6 7 true],[0],[]⟩
def U7:La:=[Wa 12 0,Wa 13 1,oo 14 (.build Zq2 [(0,1,(.t 12)),(1,1,(.t 13)),(4,1,(ci 1099511627776))]) [12,13],W1 7,Sr 7 7 14 [14]]
def U6:La:=[om 15 8,om 16 2,Wj 17 16,We 18 .lss 15 17]
def U5:La:=[om 21 2,om 22 8,WW 23 4 21 22,Wz 24 4 23,Wm 25 95 24,Wa 9 25]
def U4:La:=[om 26 9,Wj 27 26,Wb 28 .eql 27 0,Wa 29 28,.grp 29 false [(xi 30 29 false (Mv 2)),(xi 31 29 false (Mv 8)),(xi 32 29 false (Ia 4 30 31)),(xi 33 29 false (Fa 0 32)),(xi 34 29 false (Ld 33)),(xi 35 29 false (Bc .eql 34 4))] [30,31,32,33,34],Wn 36 29 35]
def U3:Lb:=[Fm 0 37 2,Fm 1 38 8,Wo 2 39 4 37 38,Wi 3 40 0 39,Wc 4 41 40,Fm 5 42 2,Fm 6 43 8,Wo 7 44 4 42 43,Wi 8 45 1 44,Wc 9 46 45,Fm 10 47 2,Fm 11 48 8,Wo 12 49 4 47 48,Wi 13 50 2 49,Wc 14 51 50,Fm 15 52 9,WZ 16 53 65 52,Fs 17 54 (.build Zq0 [(0,1,(.t 41)),(1,1,(.t 46)),(2,1,(.t 51)),(3,1,(.t 53))]),Fz 18 10 (.new (.rc Zq0)),Fr 19 4 10 54]
def U2:La:=[Wh 11 0]
def U1:Lb:=[Fm 0 55 11,Wi 1 56 5 7,Wc 2 57 56,Fs 3 58 (Ln 57),Wf 4 59 .lss 55 58,Fm 5 60 59,Fi 6 61 60 true (Fa 5 7),Fi 7 62 60 true (Ld 61),Wv 8 63 60 true 11,Fi 9 64 60 true (Ia 4 62 63),Fi 10 65 60 true (Lt 4 64),Fi 11 66 60 true (Lt 4 10),Fy 12 67 60 true (Ca 46 [.t 65,.t 66]),Fs 13 68 (Pf 60 67)]
def U0:La:=[Wa 69 11,Wb 70 .add 69 1,Wa 11 70]
def yE:RC:=(Sq (Sq (.flt [0,0,2,6,15,31,63,127,63,511,1023,63,4095,8191] [] U1 [55,56,57,58,59,60,61,62,63,64,65,66,67]) (Xu 68 [68] (.exit 2))) (Bk 3 (.ops U0)))
def xG:RC:=yE
def Ih:Lb:=[Fm 0 71 11,Wi 1 72 5 7,Wc 2 73 72,Fs 3 74 (Ln 73),Wf 4 75 .lss 71 74,Fm 5 76 75,Fi 6 77 76 true (Lt 4 10),Fi 7 78 76 true (Fa 5 7),Fi 8 79 76 true (Ld 78),Wv 9 80 76 true 11,Fi 10 81 76 true (Ia 4 79 80),Fi 11 82 76 true (Lt 4 81),Fy 12 83 76 true (Ca 46 [.t 77,.t 82]),Fi 13 84 76 true (.un .not (.t 83)),Fs 14 85 (Pf 76 84)]
def Ig:Lb:=[Fs 0 86 (.lit 4 []),Wi 1 87 5 7,Wc 2 88 87,Fm 3 89 11,Fs 4 90 (.slcL 4 (.t 88) none (some (.t 89)) none),Fs 6 92 (Lt 4 10),Fs 7 93 (.lit 4 [.t 92]),Wi 9 95 5 7,Wc 10 96 95,Wq 11 97,Fs 12 98 (.slcL 4 (.t 96) (some (.t 97)) none none),Fz 5 91 (.app Zq0 56 (.t 86) (.t 90)),Fz 8 94 (.app Zq0 56 (.t 91) (.t 93)),Fz 13 99 (.app Zq0 56 (.t 94) (.t 98)),Wi 14 100 5 7,Fr 15 1 100 99]
def If:La:=[Wa 19 8,Wb 20 .add 19 1,Wa 8 20]
def yD:RC:=(.post (Sq (So U6 (Xu 18 [2,8,18] (.exit 0))) (Sq (Bk 1 (So U5 (Sq (So U4 (Xv 36 [9,36] (.exit 1))) (Sq (.fla [0,0,3,7,15,0,0,96,224,480,0,0,3072,7168,15360,0,32768,131071,0,524287] [110] U3 [[0,1,2,3,4,5,6,7,8,9,10,11,12,13,14,15,16,17,18,19],[0,1,2,3,4,5,6,7,8,9,10,11,12,13,14,15,18,16,17,19]] [9,37,38,39,40,41,42,43,44,45,46,47,48,49,50,51,52,53,54]) (So U2 (Sq (Bk 2 (.loop xG)) (Sq (Sq (.flt [0,0,2,6,15,31,63,63,191,63,959,1983,4095,8191,16383] [] Ih [71,72,73,74,75,76,77,78,79,80,81,82,83,84]) (Xv 85 [10,11,85] (.exit 1))) (.flt [0,0,2,0,14,31,0,64,255,0,512,0,3584,8191,16383,32767] [191,194,199] Ig [10,11,86,87,88,89,90,91,92,93,94,95,96,97,98,99,100])))))))) (.ops If))) [.gc [110,191,194,199]])
def lG:RC:=yD
def Ie:La:=[oo 101 (Lt 7 7) [7],Wx 7 6 101]
def r38:RC:=(So NT (So U7 (Sq (So tg (Bk 0 (.loop lG))) (So Ie .ret))))
def F38:FnC:=⟨r38,102,[.cell 6 7 true],[0],[]⟩
def NR:La:=[oo 4 (.mov (.c (.lst 4 [] .clip))) [4]]
def UZ:La:=[om 12 1,Wb 13 .lss 12 1,Wa 14 13,.grp 14 false [(xi 15 14 false (Mv 1)),(xi 16 14 false (Bc .gtr 15 3))] [15],Wn 17 14 16,Wa 18 17,.grp 18 false [(xi 19 18 false (Mv 0)),(xi 20 18 false (Ca 96 [.t 19])),(xi 21 18 false (Bc .neq 20 0))] [19,20],Wn 22 18 21]
def UY:La:=[on 5 (.new (.rc [.lst 4 [] .clip,.lst 4 [] .clip,.lst 4 [] .clip,.lst 4 [] .clip,.lst 4 [] .clip]))]
def UX:La:=[Wa 23 0,WI 24 23,Wh 25 0]
def NQ:La:=[WC 26 .lss 25 24]
def UW:La:=[on 27 (Ia 4 23 25),Wz 28 4 27,WU 7,Wx 4 7 28]
def UV:La:=[Wg 29 0 7,Wd 30 29,Wb 31 .neq 30 4]
def UU:Lb:=[Wi 0 32 0 7,Wc 1 33 32,Wi 2 34 0 7,Wc 3 35 34,Fs 4 36 (.iaddrA 5 1 (.t 5) (.t 35)),Wc 5 37 36,Fs 6 38 (Lt 4 7),Fm 7 39 1,WJ 8 40 97 38 39,Fs 9 41 (.lit 4 [.t 40]),Fz 10 42 (.app Zq1 64 (.t 37) (.t 41)),Fs 11 43 (.iaddrA 5 1 (.t 5) (.t 33)),Fr 12 1 43 42]
def UT:La:=[on 44 (Lt 4 7),Wm 45 98 44,WI 46 45,Wh 47 0]
def Ic:La:=[WC 48 .lss 47 46]
def Ib:La:=[on 49 (Ia 1 45 47),Wd 50 49,Wa 9 50]
def H9:Lb:=[Wi 0 51 0 7,Wc 1 52 51,Wi 2 53 0 7,Wc 3 54 53,Fs 4 55 (.iaddrA 5 1 (.t 5) (.t 54)),Wc 5 56 55,Wi 6 57 0 7,Wc 7 58 57,Fm 9 60 1,Fm 10 61 9,WZ 8 59 33 58,Fz 11 62 (Ca 99 [.t 59,ci 3,.t 60,.t 61]),Fs 12 63 (.lit 4 [.t 62]),Fz 13 64 (.app Zq1 64 (.t 56) (.t 63)),Fs 14 65 (.iaddrA 5 1 (.t 5) (.t 52)),Fr 15 1 65 64]
def H8:La:=[Wb 66 .add 47 1,Wa 47 66]
def yC:RC:=(.post (So Ic (Sq (Xu 48 [7,45,46,47,48] (.exit 2)) (Sq (Bk 3 (So Ib (.flt [0,1,0,4,12,28,0,64,192,0,0,1984,4032,8188,16383,32767] [164] H9 [9,51,52,53,54,55,56,57,58,59,60,61,62,63,64,65]))) (.ops H8)))) [.mtok 105 164 2000])
def xF:RC:=yC
def H7:La:=[Wb 67 .add 25 1,Wa 25 67]
def yB:RC:=(.post (So NQ (Sq (Xu 26 [23,24,25,26] (.exit 0)) (Sq (Bk 1 (So UW (Sq (So UV (Xv 31 [31] (Sq (.flt [0,1,0,4,12,28,0,0,192,448,1020,2047,4095] [142] UU [7,32,33,34,35,36,37,38,39,40,41,42,43]) (.exit 1)))) (So UT (Bk 2 (.loop xF)))))) (.ops H7)))) [.gc [107],.mtok 105 142 1000,.mtok 105 164 2000])
def jC:RC:=yB
def H6:La:=[Xh 68 5 1,Wd 69 68,Xh 70 5 2,Wd 71 70,Xi 72 64 69 71,Wa 10 72]
def H5:La:=[Wh 73 0]
def H4:La:=[WD 74 .lss 73 8]
def H3:La:=[om 75 73,Wa 11 75]
def H2:La:=[Wa 76 10,Wa 77 11,om 78 1,on 79 (.mkB (ci 4) (ci 4)),oo 80 (Ca 99 [.t 77,ci 2,.t 78,.t 79]) [77,78,79],W2 81 4 80,Xi 82 64 76 81,Wa 10 82]
def HZ:La:=[Wb 83 .add 73 1,Wa 73 83]
def yA:RC:=(.post (So H4 (Sq (Xu 74 [1,73,74] (.exit 4)) (Sq (Bk 5 (So H3 (.ops H2))) (.ops HZ)))) [.tok 10 110])
def xE:RC:=yA
def HY:La:=[Wa 84 10,Xh 85 5 3,Wd 86 85,Xi 87 64 84 86,Wa 10 87]
def HX:La:=[Wa 88 10,oo 89 (.iaddrA 5 1 (.t 5) (ci 4)) [5],Wd 90 89,Xi 91 64 88 90,Wa 4 91]
def r39:RC:=(So NR (Sq (So UZ (Xv 22 [0,1,22] (So NW .ret))) (So UY (Sq (So UX (Bk 0 (.loop jC))) (So H6 (Sq (So H5 (Bk 4 (.pre [.tok 10 110] (.loop xE)))) (So HY (So HX .ret))))))))
def F39:FnC:=⟨r39,92,[.tmp 4],[],[]⟩
def NP:La:=[WN 2 0,on 4 (.new (.rc Zq1))]
def US:La:=[on 5 (Lt 4 2),Wm 6 100 5,Wb 7 .neq 6 0,Wa 8 7,.grp 8 false [(xi 9 8 false (Fa 0 2)),(xi 10 8 false (Ld 9)),(xi 11 8 false (Bc .eql 10 4))] [9,10],Wn 12 8 11]
def NO:La:=[on 13 (.build Zq1 []),Sr 4 4 13 [13]]
def UR:Lb:=[Wi 0 14 0 2,Wc 1 15 14,Fs 3 17 (Lt 4 2),Fm 4 18 1,Wi 6 20 1 2,Wc 7 21 20,Wi 8 22 2 2,Wc 9 23 22,WZ 2 16 82 15,WJ 5 19 101 17 18,WJ 10 24 34 21 23,Fs 11 25 (.build Zq1 [(0,1,(.t 16)),(1,1,(ci 1)),(2,1,(.t 19)),(3,1,(.t 24))]),Fr 12 4 4 25]
def r40:RC:=(So NP (Sq (So US (Xv 12 [1,2,12] (So NO .ret))) (Sq (.flt [0,1,3,0,0,31,0,64,0,256,1023,2047,4095] [] UR [1,2,14,15,16,17,18,19,20,21,22,23,24,25]) .ret)))
def F40:FnC:=⟨r40,26,[.cell 4 4 true],[],[]⟩
def vU:La:=[WV 2 false]
def UQ:La:=[Wa 3 0,oo 4 (.build Zq0 [(0,1,(ci 1)),(1,1,(.t 3))]) [3],Wm 5 89 4,Wb 6 .eql 5 0,Wa 2 6]
def r42:RC:=(So vU (So UQ .ret))
def F42:FnC:=⟨r42,7,[.tmp 2],[],[]⟩
def UP:Lb:=[Wi 0 5 0 2,Wc 1 6 5,Wi 2 7 0 3,Wc 3 8 7,Wi 5 10 1 2,Wc 6 11 10,Wi 7 12 1 3,Wc 8 13 12,Wi 10 15 2 2,Wc 11 16 15,Wi 12 17 2 3,Wc 13 18 17,Wi 15 20 3 2,Wc 16 21 20,Wi 17 22 3 3,Wc 18 23 22,WJ 4 9 105 6 8,WJ 9 14 106 11 13,WJ 14 19 105 16 18,WJ 19 24 107 21 23,Fs 20 25 (.lit 1 [.t 9,.t 14,.t 19,.t 24]),WZ 21 26 104 25,Fm 22 4 26]
def r43:RC:=(So NU (Sq (.flt [0,1,0,4,15,0,32,0,128,511,0,1024,0,4096,16383,0,32768,0,131072,524287,1048575,2097151,4194303] [] UP [2,3,5,6,7,8,9,10,11,12,13,14,15,16,17,18,19,20,21,22,23,24,25,26]) .ret))
def F43:FnC:=⟨r43,27,[.tmp 4],[],[]⟩
def UO:La:=[Wg 5 0 1,Wd 6 5,Wb 7 .lss 6 1,Wa 8 7,.grp 8 false [(xi 9 8 false (Fa 0 1)),(xi 10 8 false (Ld 9)),(xi 11 8 false (Bc .gtr 10 4))] [9,10],Wn 12 8 11]
def UN:La:=[Wg 13 1 1,Wd 14 13,WH 15 true 14,Wh 16 0]
def UM:La:=[WC 17 .lss 16 15]
def UL:La:=[om 18 16,Wa 3 18]
def UK:La:=[Wg 19 1 1,Wd 20 19,Wa 21 3,oo 22 (.idxS (.t 20) (.t 21)) [20,21],Wa 4 22]
def UJ:La:=[om 23 4,Xj 24 .lss 23,Wa 25 24,.grp 25 false [(xi 26 25 false (Mv 4)),(xi 27 25 false (.bin .gtr (.t 26) (.c (.u8 126))))] [4,26],Wn 28 25 27]
def UI:La:=[Wb 29 .add 16 1,Wa 16 29]
def yz:RC:=(So UM (Sq (Xu 17 [15,16,17] (.exit 0)) (Sq (Bk 1 (So UL (So UK (So UJ (Xv 28 [1,15,16,28] (So ku .ret)))))) (.ops UI))))
def xD:RC:=yz
def HW:La:=[Wg 31 0 1,Wd 32 31,Wb 33 .eql 32 4,Wa 34 33,.grp 34 true [(xi 35 34 true (Fa 2 1)),(xi 36 34 true (Ld 35)),(xi 37 34 true (Bc .lss 36 0)),(xi 38 34 true (Mv 37))] [35,36,37],.grp 38 false [(xi 39 38 false (Fa 2 1)),(xi 40 38 false (Ld 39)),(xi 41 38 false (Fa 3 1)),(xi 42 38 false (Ld 41)),(xi 43 38 false (Bb .gtr 40 42))] [39,40,41,42],.grp 34 true [(xi 44 34 true (Pt 38 43)),(xi 45 34 true (Mv 44))] [38,43,44],.grp 45 false [(xi 46 45 false (Fa 3 1)),(xi 47 45 false (Ld 46)),(xi 48 45 false (Bc .gtr 47 1000000000))] [46,47],.grp 34 true [(xi 49 34 true (Pt 45 48))] [45,48],Wu 50 34 49,Wa 30 50]
def HV:La:=[Wg 52 0 1,Wd 53 52,Wb 54 .neq 53 4,Wa 55 54,.grp 55 true [(xi 56 55 true (Fa 2 1)),(xi 57 55 true (Ld 56)),(xi 58 55 true (Bc .neq 57 0)),(xi 59 55 true (Mv 58))] [56,57,58],.grp 59 false [(xi 60 59 false (Fa 3 1)),(xi 61 59 false (Ld 60)),(xi 62 59 false (Bc .neq 61 0))] [60,61],.grp 55 true [(xi 63 55 true (Pt 59 62))] [59,62],Wu 64 55 63,Wa 51 64]
def HU:La:=[Wg 66 0 1,Wd 67 66,Wb 68 .eql 67 1,Wa 69 68,.grp 69 true [(xi 70 69 true (Fa 1 1)),(xi 71 69 true (Ld 70)),(xi 72 69 true (.bin .neq (.t 71) (.c (.str []))))] [70,71],Wu 73 69 72,Wa 65 73]
def HT:La:=[oo 75 (Fa 1 1) [1],Wd 76 75,WH 77 true 76,Wb 78 .gtr 77 32,Wa 74 78]
def r44:RC:=(So vY (Sq (So UO (Xv 12 [1,12] (So ku .ret))) (Sq (So UN (Bk 0 (.loop xD))) (Sq (Bk 2 (So HW (Kc 30 (Kk [1,30] (So ku .ret)) (Kk [30] (So HV (Kc 51 (Kk [1,51] (So ku .ret)) (Kk [51] (So HU (Kc 65 (Kk [1,65] (So ku .ret)) (Kk [65] (So HT (Xv 74 [74] (So tj .ret))))))))))))) (So jD .ret)))))
def F44:FnC:=⟨r44,79,[.tmp 2],[],[]⟩
def UH:La:=[om 5 0,WH 6 true 5,Wb 7 .lss 6 1,Wa 8 7,.grp 8 false [(xi 9 8 false (Mv 0)),(xi 10 8 false (.len true (.t 9))),(xi 11 8 false (Bc .gtr 10 12))] [9,10],Wn 12 8 11]
def nm:La:=[on 2 (Mb false)]
def NN:La:=[Wh 3 0]
def UG:La:=[om 13 3,om 14 0,WH 15 true 14,We 16 .lss 13 15]
def UF:La:=[om 19 0,om 20 3,oo 21 (.idxS (.t 19) (.t 20)) [19,20],Wa 4 21]
def UE:La:=[om 22 4,oo 23 (.bin .lss (.t 22) (.c (.u8 97))) [22],Wa 24 23,.grp 24 false [(xi 25 24 false (Mv 4)),(xi 26 24 false (.bin .gtr (.t 25) (.c (.u8 122))))] [25],Wn 27 24 26,Wa 28 27,.grp 28 true [(xi 29 28 true (Mv 4)),(xi 30 28 true (.bin .lss (.t 29) (.c (.u8 48)))),(xi 31 28 true (Mv 30))] [29,30],.grp 31 false [(xi 32 31 false (Mv 4)),(xi 33 31 false (.bin .gtr (.t 32) (.c (.u8 57))))] [32],.grp 28 true [(xi 34 28 true (Pt 31 33))] [31,33],Wu 35 28 34,Wa 36 35,.grp 36 true [(xi 37 36 true (Mv 4)),(xi 38 36 true (.bin .neq (.t 37) (.c (.u8 45))))] [4,37],Wu 39 36 38]
def UD:La:=[Wa 17 3,Wb 18 .add 17 1,Wa 3 18]
def Og:RC:=(Sq (So UG (Xu 16 [0,3,16] (.exit 0))) (Sq (Bk 1 (So UF (So UE (Xv 39 [0,3,39] (So nm .ret))))) (.ops UD)))
def NM:RC:=Og
def pS:La:=[on 2 (Mb true)]
def r45:RC:=(So vU (Sq (So UH (Xv 12 [0,12] (So nm .ret))) (Sq (So NN (Bk 0 (.loop NM))) (So pS .ret))))
def F45:FnC:=⟨r45,40,[.tmp 2],[],[]⟩
def UC:La:=[Wg 5 0 2,Wd 6 5,Wg 7 0 3,Wd 8 7,We 9 .neq 6 8]
def UB:La:=[Wr 10 0 2,Wd 11 10,Wr 12 0 3,Wd 13 12,We 14 .lss 11 13,Wa 4 14]
def UA:La:=[Wg 15 1 2,Wd 16 15,Wg 17 1 3,Wd 18 17,We 19 .neq 16 18]
def Uz:La:=[Wr 20 1 2,Wd 21 20,Wr 22 1 3,Wd 23 22,We 24 .lss 21 23,Wa 4 24]
def Uy:La:=[Wg 25 2 2,Wd 26 25,Wg 27 2 3,Wd 28 27,We 29 .neq 26 28]
def Ux:La:=[oo 30 (Fa 2 2) [2],Wd 31 30,Wr 32 2 3,Wd 33 32,We 34 .lss 31 33,Wa 4 34]
def Uw:La:=[Wr 35 3 2,Wd 36 35,oo 37 (Fa 3 3) [3],Wd 38 37,Ww 39 108 36 38,Wa 4 39]
def r46:RC:=(So DK (Sq (So UC (Xv 9 [9] (So UB .ret))) (Sq (So UA (Xv 19 [19] (So Uz .ret))) (Sq (So Uy (Xv 29 [29] (So Ux .ret))) (So Uw .ret)))))
def F46:FnC:=⟨r46,40,[.tmp 4],[],[]⟩
def NL:La:=[Xa 6]
def Uv:La:=[Wa 9 0,Xk 10 1 9,Wa 7 10]
def Uu:La:=[om 11 1,Wb 12 .lss 11 1,Wa 13 12,.grp 13 false [(xi 14 13 false (Mv 1)),(xi 15 13 false (Bc .gtr 14 8))] [14],Wn 16 13 15]
def Ut:La:=[Wa 17 7,Wa 6 17]
def Us:La:=[Wa 18 1,Wb 19 .sub 18 1,Wa 8 19]
def Ur:La:=[om 20 8,Wb 21 .geq 20 0]
def Uq:La:=[Wa 24 7,om 25 2,WO 26 25,om 27 8,WQ 28 .mul 8 27,WO 29 28,We 30 .shr 26 29,WE 31 30,W3 32 31,WA 33 1 24 32,Wa 7 33]
def Up:La:=[Wa 22 8,Wb 23 .sub 22 1,Wa 8 23]
def Of:RC:=(.post (Sq (So Ur (Xu 21 [2,8,21] (.exit 0))) (Sq (Bk 1 (.ops Uq)) (.ops Up))) [.tok 7 107])
def NK:RC:=Of
def Uo:La:=[Wa 34 7,Wa 6 34]
def r48:RC:=(So NL (So Uv (Sq (So Uu (Xv 16 [1,2,16] (So Ut .ret))) (Sq (So Us (Bk 0 (.pre [.tok 7 107] (.loop NK)))) (So Uo .ret)))))
def F48:FnC:=⟨r48,35,[.tmp 6],[0],[]⟩
def Un:La:=[om 5 1,Wa 6 1,Wj 7 6,oo 8 (.mini (.t 7) (ci 65535)) [7],Xg 9 1 5 8,Wa 1 9]
def Um:La:=[Wa 10 0,om 11 1,Wj 12 11,W8 13 48 10 2 12,Wa 14 1,WA 15 1 13 14,Wa 4 15]
def r49:RC:=(So lQ (So Un (So Um .ret)))
def F49:FnC:=⟨r49,16,[.tmp 4],[0],[]⟩
def Ul:La:=[oo 2 (.mov (.c .nilp)) [2]]
def Uk:La:=[Wa 3 0,Xk 4 1 3,oo 5 (.build [.byt [] .clip,.int .i64 0,.int .i64 0] [(0,1,(.t 4))]) [4],WN 6 5,Wa 2 6]
def r50:RC:=(So Ul (So Uk .ret))
def F50:FnC:=⟨r50,7,[.tmp 2],[],[]⟩
def NJ:La:=[om 10 0,WF 11 10,Wr 12 2 11,Wd 13 12,Wb 14 .neq 13 0]
def Uj:La:=[om 15 1,Wb 16 .lss 15 1,Wa 17 16,.grp 17 false [(xi 18 17 false (Mv 1)),(xi 19 17 false (Bc .gtr 18 8))] [18],Wn 20 17 19]
def Ui:La:=[Wa 21 0,oo 22 (Ca 109 [.t 21,ci 1]) [21,22]]
def Uh:La:=[om 24 0,om 25 0,WF 26 25,Wr 27 1 26,Wd 28 27,om 29 1,oo 30 (Ca 110 [.t 24,.t 28,.t 29]) [24,28,29],Wa 23 30,WL 31 23 0,WM 32 23 1,Wa 5 31,Wa 6 32]
def Ug:La:=[om 33 6,Wb 34 .neq 33 0]
def Uf:La:=[Wa 35 0,Wa 36 6,Xc 37 109 35 36]
def HS:La:=[on 7 (.mov (.c (.int .u64 0)))]
def HR:La:=[Wa 38 5,WI 39 38,Wh 40 0]
def HQ:La:=[WC 41 .lss 40 39]
def HP:La:=[on 42 (Ia 1 38 40),Wd 43 42,Wa 9 43]
def HO:La:=[Wa 44 7,W9 45 .shl 44,Wa 46 9,WO 47 46,We 48 .or 45 47,Wa 7 48]
def HN:La:=[Wb 49 .add 40 1,Wa 40 49]
def yy:RC:=(So HQ (Sq (Xu 41 [38,39,40,41] (.exit 0)) (Sq (Bk 1 (So HP (.ops HO))) (.ops HN))))
def xC:RC:=yy
def HM:La:=[om 50 7,oo 51 (.bin .gtr (.t 50) (.c (.int .u64 9223372036854775807))) [50]]
def HK:La:=[Wa 52 0,oo 53 (Ca 109 [.t 52,ci 4]) [52,53]]
def HJ:La:=[Wa 54 0,on 55 (.nchk (.t 54)),Wr 56 1 55,Wd 57 56,Wa 58 1,We 59 .add 57 58,WF 60 54,Wr 61 1 60,Ws 1 61 59]
def HI:La:=[Wa 62 7,oo 63 (.toInt .i64 (.t 62)) [62],Wa 4 63]
def r51:RC:=(So ot (Sq (So NJ (Xv 14 [0,1,14] (So lR .ret))) (Sq (So Uj (Xv 20 [1,20] (So Ui (So lR .ret)))) (So Uh (Sq (So Ug (Kc 34 (Kk [1,5,34] (So Uf (So lR .ret))) (Kk [6,34] .skip))) (So HS (Sq (So HR (Bk 0 (.loop xC))) (Sq (So HM (Xv 51 [1,7,51] (So HK (So lR .ret)))) (So HJ (So HI .ret))))))))))
def F51:FnC:=⟨r51,64,[.tmp 4],[],[]⟩
def kt:La:=[Xf 4]
def Ue:La:=[om 15 0,oo 16 (.mkfn 110 [.t 15] []) [15],Wa 5 16]
def Ud:La:=[om 18 5,om 19 0,WF 20 19,Wr 21 1 20,Wd 22 21,oo 23 (.call (.t 18) [.t 22,ci 2]) [18,22],Wa 17 23,WL 24 17 0,WM 25 17 1,Wa 6 24,Wa 7 25]
def Uc:La:=[om 26 7,Wb 27 .neq 26 0]
def Ub:La:=[Wa 28 0,Wa 29 7,Xc 30 109 28 29]
def Ua:Lb:=[Fm 0 31 6,Wy 1 32 1 31 0,Wc 2 33 32,Fs 3 34 (.toInt .i64 (.t 33)),Fs 4 35 (.bin .shl (.t 34) (.c (.int .u64 8))),Fm 5 36 6,Wy 6 37 1 36 1,Wc 7 38 37,Fs 8 39 (.toInt .i64 (.t 38)),Wf 9 40 .or 35 39,Fm 10 8 40]
def T9:La:=[om 41 8,Wa 42 1,We 43 .gtr 41 42]
def HH:La:=[Wa 44 0,oo 45 (Ca 109 [.t 44,ci 4]) [44,45]]
def HG:La:=[Wa 47 5,om 48 0,WF 49 48,Wr 50 1 49,Wd 51 50,Wb 52 .add 51 2,om 53 8,oo 54 (.call (.t 47) [.t 52,.t 53]) [47,52,53],Wa 46 54,WL 55 46 0,WM 56 46 1,Wa 9 55,Wa 7 56]
def HF:La:=[om 57 7,Wb 58 .neq 57 0]
def HE:La:=[Wa 59 0,Wa 60 7,Xc 61 109 59 60]
def HD:La:=[Wa 62 0,on 63 (.nchk (.t 62)),Wr 64 1 63,Wd 65 64,Wa 66 8,WQ 67 .add 2 66,We 68 .add 65 67,WF 69 62,Wr 70 1 69,Ws 1 70 68]
def HC:La:=[Wa 71 9,Xk 72 1 71,Wa 4 72]
def r52:RC:=(So lQ (Sq (So NJ (Xv 14 [0,1,14] (So kt .ret))) (So Ue (So Ud (Sq (So Uc (Kc 27 (Kk [1,5,6,27] (So Ub (So kt .ret))) (Kk [7,27] .skip))) (Sq (.flt [0,1,3,7,15,0,32,96,224,511,1023] [] Ua [6,31,32,33,34,35,36,37,38,39,40]) (Sq (So T9 (Xv 43 [5,8,43] (So HH (So kt .ret)))) (So HG (Sq (So HF (Kc 58 (Kk [8,9,58] (So HE (So kt .ret))) (Kk [7,58] .skip))) (So HD (So HC .ret)))))))))))
def F52:FnC:=⟨r52,73,[.tmp 4],[],[]⟩
def T8:La:=[Wa 3 0,WF 4 3,Wr 5 2 4,Wd 6 5,Wa 2 6]
def r53:RC:=(So jc (So T8 .ret))
def F53:FnC:=⟨r53,7,[.tmp 2],[],[]⟩
def T7:La:=[om 7 0,WF 8 7,Wr 9 2 8,Wd 10 9,Wb 11 .neq 10 0]
def T6:La:=[om 12 1,Wb 13 .lss 12 0]
def T5:La:=[Wa 14 0,oo 15 (Ca 109 [.t 14,ci 1]) [14,15]]
def T4:La:=[om 17 0,om 18 0,WF 19 18,Wr 20 1 19,Wd 21 20,om 22 1,oo 23 (Ca 110 [.t 17,.t 21,.t 22]) [17,21,22],Wa 16 23,WL 24 16 0,WM 25 16 1,Wa 5 24,Wa 6 25]
def NI:La:=[om 26 6,Wb 27 .neq 26 0]
def T3:La:=[Wa 28 0,Wa 29 6,Xc 30 109 28 29]
def HB:La:=[Wa 31 0,on 32 (.nchk (.t 31)),Wr 33 1 32,Wd 34 33,Wa 35 1,We 36 .add 34 35,WF 37 31,Wr 38 1 37,Ws 1 38 36]
def Hz:La:=[Wa 39 5,Xk 40 1 39,Wa 4 40]
def r54:RC:=(So lQ (Sq (So T7 (Xv 11 [0,1,11] (So kt .ret))) (Sq (So T6 (Xv 13 [1,13] (So T5 (So kt .ret)))) (So T4 (Sq (So NI (Kc 27 (Kk [1,5,27] (So T3 (So kt .ret))) (Kk [6,27] .skip))) (So HB (So Hz .ret)))))))
def F54:FnC:=⟨r54,41,[.tmp 4],[],[]⟩
def T2:La:=[om 3 0,WF 4 3,Wr 5 2 4,Wd 6 5,Wb 7 .eql 6 0,Wa 8 7,.grp 8 true [(xi 9 8 true (Mv 0)),(xi 10 8 true (Ca 111 [.t 9])),(xi 11 8 true (Bc .gtr 10 0))] [9,10],Wu 12 8 11]
def T1:La:=[Wh 2 3]
def T0:La:=[Wa 13 0,WF 14 13,Wr 15 2 14,Wd 16 15,Wa 2 16]
def r55:RC:=(So jc (Sq (So T2 (Xv 12 [0,12] (So T1 .ret))) (So T0 .ret)))
def F55:FnC:=⟨r55,17,[.tmp 2],[],[]⟩
def TZ:La:=[om 5 1,Wj 6 5,Wb 7 .gtr 6 65535]
def TY:La:=[Wa 8 1,Xe 9 1 8 65535,Wa 1 9]
def TX:La:=[Wa 10 0,om 11 1,Wj 12 11,W8 13 57 10 2 12,Wa 14 1,WA 15 1 13 14,Wa 4 15]
def r56:RC:=(So lQ (Sq (So TZ (Xv 7 [7] (.ops TY))) (So TX .ret)))
def F56:FnC:=⟨r56,16,[.tmp 4],[0],[]⟩
def TW:La:=[on 9 (.litB []),Wa 10 0,WA 11 1 9 10,Wa 7 11]
def TV:La:=[om 12 1,Wb 13 .lss 12 1,Wa 14 13,.grp 14 false [(xi 15 14 false (Mv 1)),(xi 16 14 false (Bc .gtr 15 8))] [15],Wn 17 14 16]
def TU:La:=[Wa 18 7,Wa 6 18]
def TT:La:=[Wa 19 1,Wb 20 .sub 19 1,Wa 8 20]
def TS:La:=[om 21 8,Wb 22 .geq 21 0]
def TR:La:=[Wa 25 7,om 26 2,WO 27 26,om 28 8,WO 29 28,oo 30 (.bin .mul (.c (.int .u64 8)) (.t 29)) [29],We 31 .shr 27 30,WE 32 31,W3 33 32,WA 34 1 25 33,Wa 7 34]
def TQ:La:=[Wa 23 8,Wb 24 .sub 23 1,Wa 8 24]
def Oe:RC:=(.post (Sq (So TS (Xu 22 [2,8,22] (.exit 0))) (Sq (Bk 1 (.ops TR)) (.ops TQ))) [.tok 7 107])
def NH:RC:=Oe
def TP:La:=[Wa 35 7,Wa 6 35]
def r57:RC:=(So NL (So TW (Sq (So TV (Xv 17 [1,2,17] (So TU .ret))) (Sq (So TT (Bk 0 (.pre [.tok 7 107] (.loop NH)))) (So TP .ret)))))
def F57:FnC:=⟨r57,36,[.tmp 6],[0],[]⟩
def TO:La:=[Wa 5 0,Wa 6 1,Ww 7 112 5 6,oo 8 (Ca 90 [ci 1,.t 7]) [7],Wa 4 8]
def r58:RC:=(So lQ (So TO .ret))
def F58:FnC:=⟨r58,9,[.tmp 4],[],[]⟩
def lh:La:=[Xa 2]
def TN:La:=[on 18 (Ca 115 []),Xl 3,Wx 64 3 18]
def TL:La:=[.own (xs 19 (.lit 1 [(.c (.int .u32 1779033703)),(.c (.int .u32 3144134277)),(.c (.int .u32 1013904242)),(.c (.int .u32 2773480762)),(.c (.int .u32 1359893119)),(.c (.int .u32 2600822924)),(.c (.int .u32 528734635)),(.c (.int .u32 1541459225))])) [],Wa 4 19]
def TK:La:=[Wa 20 0,Wm 21 116 20,Wa 5 21]
def DI:La:=[Wh 6 0]
def TJ:La:=[om 22 6,om 23 5,Wj 24 23,We 25 .lss 22 24]
def TI:La:=[Xl 7]
def TH:La:=[om 28 8,Wb 29 .lss 28 64]
def TG:La:=[om 32 8,Wb 33 .lss 32 16]
def Hy:La:=[om 34 8,om 35 5,om 36 6,om 37 6,Wb 38 .add 37 64,Xp 39 1 35 36 38,om 40 8,Ww 41 117 39 40,oo 42 (.iaddrA 64 1 (.t 7) (.t 34)) [34],Ws 1 42 41]
def Hx:Lb:=[Fm 0 43 8,Wp 1 44 .sub 43 15,WG 2 45 7 44,Wc 3 46 45,Fm 5 48 8,Wp 6 49 .sub 48 15,WG 7 50 7 49,Wc 8 51 50,Fm 11 54 8,Wp 12 55 .sub 54 15,WG 13 56 7 55,Wc 14 57 56,Fs 15 58 (.bin .shr (.t 57) (.c (.int .u64 3))),Fz 4 47 (Ca 118 [.t 46,(.c (.int .u64 7))]),Fz 9 52 (Ca 118 [.t 51,(.c (.int .u64 18))]),Wf 10 53 .xor 47 52,Wf 16 59 .xor 53 58,Fm 17 9 59]
def Hw:Lb:=[Fm 0 60 8,Wp 1 61 .sub 60 2,WG 2 62 7 61,Wc 3 63 62,Fm 5 65 8,Wp 6 66 .sub 65 2,WG 7 67 7 66,Wc 8 68 67,Fm 11 71 8,Wp 12 72 .sub 71 2,WG 13 73 7 72,Wc 14 74 73,Fs 15 75 (.bin .shr (.t 74) (.c (.int .u64 10))),Fz 4 64 (Ca 118 [.t 63,(.c (.int .u64 17))]),Fz 9 69 (Ca 118 [.t 68,(.c (.int .u64 19))]),Wf 10 70 .xor 64 69,Wf 16 76 .xor 70 75,Fm 17 10 76]
def Hv:Lb:=[Fm 0 77 8,Fm 1 78 10,Fm 2 79 8,Wp 3 80 .sub 79 7,WG 4 81 7 80,Wc 5 82 81,Wf 6 83 .add 78 82,Fm 7 84 9,Wf 8 85 .add 83 84,Fm 9 86 8,Wp 10 87 .sub 86 16,WG 11 88 7 87,Wc 12 89 88,Wf 13 90 .add 85 89,WG 14 91 7 77,Fr 15 1 91 90]
def Hu:La:=[Wa 30 8,Wb 31 .add 30 1,Wa 8 31]
def yx:RC:=(Sq (So TH (Xu 29 [8,29] (.exit 2))) (Sq (Bk 3 (Sq (So TG (Xv 33 [33] (So Hy (.exit 3)))) (Sq (.flt [0,1,3,7,15,0,32,96,224,511,1023,0,2048,6144,14336,30720,65535,131071] [] Hx [43,44,45,46,47,48,49,50,51,52,53,54,55,56,57,58,59]) (Sq (.flt [0,1,3,7,15,0,32,96,224,511,1023,0,2048,6144,14336,30720,65535,131071] [] Hw [60,61,62,63,64,65,66,67,68,69,70,71,72,73,74,75,76]) (.flt [0,0,0,4,12,28,62,0,254,0,512,1536,3584,8190,16383,32767] [] Hv [9,10,77,78,79,80,81,82,83,84,85,86,87,88,89,90,91]))))) (.ops Hu)))
def xB:RC:=yx
def Ht:La:=[on 92 (.lit 1 []),om 93 4,oo 94 (.app [.int .u32 0] 4 (.t 92) (.t 93)) [92,93],Wa 11 94]
def Hs:La:=[Wh 12 0]
def Hr:La:=[om 95 12,Wb 96 .lss 95 64]
def Hq:Lb:=[Fm 0 99 11,Wy 1 100 1 99 0,Wc 2 101 100,Fm 3 102 11,Wy 4 103 1 102 4,Wc 5 104 103,Fm 6 13 101,Fm 7 14 104]
def Hp:Lb:=[Fm 0 105 11,Wy 1 106 1 105 7,Wc 2 107 106,Fm 3 108 14,Fm 5 110 14,Fm 8 113 14,Fm 12 117 14,Fm 13 118 11,Wy 14 119 1 118 5,Wc 15 120 119,Wf 16 121 .and 117 120,Fm 17 122 14,Fs 18 123 (.un .xor (.t 122)),Fm 19 124 11,Wy 20 125 1 124 6,Wc 21 126 125,Wf 22 127 .and 123 126,Wf 23 128 .xor 121 127,Fm 25 130 12,WG 26 131 3 130,Wc 27 132 131,Fm 29 134 12,WG 30 135 7 134,Wc 31 136 135,Fz 4 109 (Ca 118 [.t 108,(.c (.int .u64 6))]),Fz 6 111 (Ca 118 [.t 110,(.c (.int .u64 11))]),Wf 7 112 .xor 109 111,Fz 9 114 (Ca 118 [.t 113,(.c (.int .u64 25))]),Wf 10 115 .xor 112 114,Wf 11 116 .add 107 115,Wf 24 129 .add 116 128,Wf 28 133 .add 129 132,Wf 32 137 .add 133 136,Fm 33 15 137]
def Ho:Lb:=[Fm 0 138 13,Fm 2 140 13,Fm 5 143 13,Fm 8 146 13,Fm 9 147 11,Wy 10 148 1 147 1,Wc 11 149 148,Wf 12 150 .and 146 149,Wq 13 151,Fm 14 152 11,Wy 15 153 1 152 2,Wc 16 154 153,Wf 17 155 .and 151 154,Wf 18 156 .xor 150 155,Fm 19 157 11,Wy 20 158 1 157 1,Wc 21 159 158,Fm 22 160 11,Wy 23 161 1 160 2,Wc 24 162 161,Wf 25 163 .and 159 162,Wf 26 164 .xor 156 163,Fz 1 139 (Ca 118 [.t 138,(.c (.int .u64 2))]),Fz 3 141 (Ca 118 [.t 140,(.c (.int .u64 13))]),Wf 4 142 .xor 139 141,Fz 6 144 (Ca 118 [.t 143,(.c (.int .u64 22))]),Wf 7 145 .xor 142 144,Wf 27 165 .add 145 164,Fm 28 16 165]
def Hn:Lb:=[Fm 0 166 15,Fm 1 167 16,Wf 2 168 .add 166 167,Fm 3 169 13,Fm 4 170 11,Wy 5 171 1 170 1,Wc 6 172 171,Fm 7 173 11,Wy 8 174 1 173 2,Wc 9 175 174,Fm 10 176 11,Wy 11 177 1 176 3,Wc 12 178 177,Fm 13 179 15,Wf 14 180 .add 178 179,Fm 15 181 14,Fm 16 182 11,Wy 17 183 1 182 5,Wc 18 184 183,Fm 19 185 11,Wy 20 186 1 185 6,Wc 21 187 186,Fs 22 188 (.lit 1 [.t 168,.t 169,.t 172,.t 175,.t 180,.t 181,.t 184,.t 187]),⟨23,false,(xm 11 188)⟩]
def Hm:La:=[Wa 97 12,Wb 98 .add 97 1,Wa 12 98]
def yw:RC:=(Sq (So Hr (Xu 96 [7,12,96] (.exit 4))) (Sq (Bk 5 (Sq (.flt [0,1,3,0,8,24,7,127] [] Hq [99,100,101,102,103,104]) (Sq (.flt [0,1,3,0,8,0,56,120,0,376,1016,2047,0,0,8192,24576,61440,0,131072,0,524288,1572864,4063232,8384512,16777215,0,33554432,100663296,268435455,0,536870912,1610612736,4294967295,8589934591] [] Hp [105,106,107,108,109,110,111,112,113,114,115,116,117,118,119,120,121,122,123,124,125,126,127,128,129,130,131,132,133,134,135,136,137]) (Sq (.flt [0,1,0,7,15,0,47,127,0,0,512,1536,3840,0,0,16384,49152,122880,261888,0,524288,1572864,0,4194304,12582912,33030144,67108608,134217727,268435455] [] Ho [138,139,140,141,142,143,144,145,146,147,148,149,150,151,152,153,154,155,156,157,158,159,160,161,162,163,164,165]) (.flt [0,0,3,0,0,16,48,0,128,384,0,1024,3072,0,15360,0,0,65536,196608,0,524288,1572864,4194303,8388607] [] Hn [13,14,15,16,166,167,168,169,170,171,172,173,174,175,176,177,178,179,180,181,182,183,184,185,186,187,188]))))) (.ops Hm)))
def xA:RC:=yw
def xz:La:=[Wh 17 0]
def Hl:La:=[om 189 17,Wb 190 .lss 189 8]
def Hk:Lb:=[Fm 0 193 4,Fm 1 194 17,Wo 2 195 1 193 194,Wc 3 196 195,Fm 4 197 11,Fm 5 198 17,Wo 6 199 1 197 198,Wc 7 200 199,Wf 8 201 .add 196 200,Wo 9 202 1 193 194,Fr 10 1 202 201]
def Hj:La:=[Wa 191 17,Wb 192 .add 191 1,Wa 17 192]
def yv:RC:=(Sq (So Hl (Xu 190 [11,17,190] (.exit 6))) (Sq (Bk 7 (.flt [0,0,3,7,0,0,48,112,255,511,1023] [] Hk [193,194,195,196,197,198,199,200,201,202])) (.ops Hj)))
def xy:RC:=yv
def Hi:La:=[Wa 26 6,Wb 27 .add 26 64,Wa 6 27]
def yu:RC:=(.post (Sq (So TJ (Xu 25 [3,5,6,25] (.exit 0))) (Sq (Bk 1 (So TI (Sq (So tg (Bk 2 (.loop xB))) (So Ht (Sq (So Hs (Bk 4 (.loop xA))) (So xz (Bk 6 (.loop xy)))))))) (.ops Hi))) [.gc [107,194]])
def xx:RC:=yu
def Hh:La:=[Wa 203 4,Wm 204 119 203,Wa 2 204]
def r65:RC:=(So lh (So TN (So TL (So TK (Sq (So DI (Bk 0 (.loop xx))) (So Hh .ret))))))
def F65:FnC:=⟨r65,205,[.tmp 2],[],[]⟩
def NG:La:=[WN 1 0,oo 2 (.mov (.c (.lst 1 [] .clip))) [2]]
def NF:La:=[on 3 (.mov (.c (.lst 1 [] .clip)))]
def TF:La:=[om 7 5,Wg 8 3 1,Wd 9 8,Wj 10 9,We 11 .lss 7 10]
def TE:La:=[Wg 14 3 1,Wd 15 14,om 16 5,WW 17 1 15 16,Wd 18 17,Wa 6 18]
def TD:La:=[om 19 6,oo 20 (.bin .eql (.t 19) (.c (.u8 10))) [19]]
def TC:La:=[om 21 4,Wj 22 21,Wb 23 .eql 22 0,Wa 24 23,.grp 24 false [(xi 25 24 false (Mv 3)),(xi 26 24 false (Ln 25)),(xi 27 24 false (Bc .geq 26 4))] [25,26],Wn 28 24 27]
def vT:La:=[on 2 (.mov (.c (.lst 1 [] .clip)))]
def TB:La:=[Wa 29 3,Wa 30 4,W2 31 1 30,oo 32 (.app [.byt [] .clip] 24 (.t 29) (.t 31)) [29,31],Wa 3 32]
def Hg:La:=[om 33 6,Xj 34 .lss 33,Wa 35 34,.grp 35 false [(xi 36 35 false (Mv 6)),(xi 37 35 false (.bin .gtr (.t 36) (.c (.u8 126))))] [36],Wn 38 35 37]
def Hf:La:=[Wa 39 4,Wa 40 6,W3 41 40,WA 42 1 39 41,Wa 4 42]
def He:La:=[Wa 12 5,Wb 13 .add 12 1,Wa 5 13]
def yr:RC:=(.post (Sq (So TF (Xu 11 [1,5,11] (.exit 0))) (Sq (Bk 1 (So TE (Sq (So TD (Xv 20 [6,20] (Sq (So TC (Xv 28 [1,3,4,5,28] (So vT .ret))) (So TB (So kt (.exit 1)))))) (Sq (So Hg (Xv 38 [1,3,4,5,6,38] (So vT .ret))) (.ops Hf))))) (.ops He))) [.tok 3 103,.tok 4 104])
def xw:RC:=yr
def Hd:La:=[Wa 43 4,Wj 44 43,Wb 45 .gtr 44 0]
def Hc:La:=[Wa 46 3,Wa 2 46]
def r70:RC:=(So NG (So NF (So kt (Sq (So tc (Bk 0 (.pre [.tok 3 103,.tok 4 104] (.loop xw)))) (Sq (So Hd (Xv 45 [3,45] (So vT .ret))) (So Hc .ret))))))
def F70:FnC:=⟨r70,47,[.tmp 2],[],[]⟩
def TA:Lb:=[Wq 0 5,WB 1 6 5,Wi 2 7 1 6,Wc 3 8 7,Fm 4 9 0,WB 5 10 9,Wi 6 11 0 10,Wc 7 12 11,Fs 8 13 (Ln 12),Wf 9 14 .geq 8 13]
def Tz:La:=[om 15 0,on 16 (.nchk (.t 15)),Wr 17 1 16,Wd 18 17,Wb 19 .add 18 1,WF 20 15,Wr 21 1 20,Ws 1 21 19]
def Ty:Lb:=[Wq 0 22,WB 1 23 22,Wi 2 24 0 23,Wc 3 25 24,Fm 4 26 0,WB 5 27 26,Wi 6 28 1 27,Wc 7 29 28,Wp 8 30 .sub 29 1,Wo 9 31 1 25 30,Wc 10 32 31,Fs 11 33 (.toInt .i64 (.t 32)),Fm 12 34 1,Wf 13 35 .rem 33 34,Fm 14 4 35]
def r71:RC:=(So ot (Sq (Sq (.flt [0,1,3,7,0,16,48,112,240,511] [] TA [5,6,7,8,9,10,11,12,13]) (Xv 14 [0,1,14] (So lR .ret))) (So Tz (Sq (.flt [0,1,3,7,0,16,48,112,240,511,1023,2047,0,8191,16383] [] Ty [0,1,22,23,24,25,26,27,28,29,30,31,32,33,34,35]) .ret))))
def F71:FnC:=⟨r71,36,[.tmp 4],[],[]⟩
def Tx:La:=[WU 4]
def Tw:Lb:=[Fm 0 7 1,Fm 2 9 0,Fm 5 12 0,Fz 1 8 (Ca 122 []),WR 3 10 71 9 5,Fs 4 11 (.idxA 5 1 false (.t 8) (.t 10)),WR 6 13 71 12 5,Fs 7 14 (.build Zq0 [(0,1,(.t 7)),(1,1,(.t 11)),(2,1,(.t 13))]),Fz 8 5 (.new (.rc Zq0)),Fr 9 4 5 14]
def Tv:La:=[om 15 0,Wt 16 71 15 9,Wb 17 .eql 16 8]
def Tu:La:=[om 18 0,Wt 19 71 18 3,WQ 20 .sub 1000000 19,Wg 21 2 5,Ws 1 21 20]
def Tt:La:=[Wa 22 1,Wb 23 .eql 22 4]
def Ts:La:=[Wa 24 0,Wm 25 123 24,Wg 26 3 5,Ws 1 26 25]
def Tr:La:=[Wz 27 4 5,Sr 4 4 27 [27]]
def Tq:La:=[om 28 0,Wt 29 71 28 7,oo 30 (.mkB (.t 29) (.t 29)) [29],Wg 31 3 5,Ws 1 31 30]
def Tp:La:=[om 32 6,Wg 33 3 5,Wd 34 33,Wj 35 34,We 36 .lss 32 35]
def Hb:Lb:=[Wi 0 39 3 5,Wc 1 40 39,Fm 2 41 6,Fm 3 42 0,WR 4 43 71 42 256,Xd 5 44 43,Wo 6 45 1 40 41,Fr 7 1 45 44]
def Ha:La:=[Wa 37 6,Wb 38 .add 37 1,Wa 6 38]
def yq:RC:=(Sq (So Tp (Xu 36 [0,6,36] (.exit 0))) (Sq (Bk 1 (.flt [0,1,0,0,8,24,63,127] [] Hb [39,40,41,42,43,44,45])) (.ops Ha)))
def ta:RC:=yq
def G9:La:=[Wz 46 4 5,Sr 4 4 46 [46]]
def r72:RC:=(So Tx (Sq (.fla [0,0,0,6,14,0,46,127,0,511] [105] Tw [[0,2,5,1,3,4,6,7,8,9],[0,2,5,1,3,4,8,6,7,9],[0,2,5,1,8,3,4,6,7,9],[0,2,5,8,1,3,4,6,7,9]] [7,8,9,10,11,12,13,14]) (Sq (So Tv (Xv 17 [17] (.ops Tu))) (Sq (So Tt (Xv 23 [23] (So Ts (So Tr .ret)))) (So Tq (Sq (So DI (Bk 0 (.loop ta))) (So G9 .ret)))))))
def F72:FnC:=⟨r72,47,[.cell 4 4 true],[],[]⟩
def To:La:=[on 4 (.build [.str [],.str [],.str [],.str [],.str [],.str []] [(0,1,(.c (.str [97,61,49]))),(1,1,(.c (.str [99,111,117,110,116,61,53]))),(2,1,(.c (.str [99,111,117,110,116,61,49,55]))),(3,1,(.c (.str [104,111,115,116,61,120]))),(4,1,(.c (.str [109,111,100,101,32,98]))),(5,1,(.c (.str [126])))]),on 3 (.new (.arr 1 (ao 6 [.str []]))),Wx 6 3 4]
def Tn:La:=[Wa 5 0,Wt 6 71 5 6,oo 7 (.iaddrA 6 1 (.t 3) (.t 6)) [3,6],Wd 8 7,Xb 9 8,Wa 2 9]
def r73:RC:=(So lh (So To (So Tn .ret)))
def F73:FnC:=⟨r73,10,[.tmp 2],[],[]⟩
def NE:La:=[om 6 0,Wj 7 6,Wh 8 0]
def DH:La:=[WC 9 .lss 8 7]
def ND:La:=[om 10 8,Wa 5 10]
def NC:La:=[om 11 1,om 12 0,om 13 5,WW 14 4 12 13,Wz 15 4 14,oo 16 (.call (.t 11) [.t 15]) [11,15]]
def NB:La:=[Wa 17 5,Wa 4 17]
def NA:La:=[Wb 18 .add 8 1,Wa 8 18]
def Od:RC:=(So DH (Sq (Xu 9 [0,1,7,8,9] (.exit 0)) (Sq (Bk 1 (So ND (So NC (Kc 16 (Kk [0,1,7,8,16] (So NB .ret)) (Kk [5,16] .skip))))) (.ops NA))))
def Nz:RC:=Od
def r75:RC:=(So ot (Sq (So NE (Bk 0 (.loop Nz))) (So ol .ret)))
def F75:FnC:=⟨r75,19,[.tmp 4],[],[]⟩
def Ny:La:=[WN 2 0,WV 3 false]
def Tm:Lb:=[Wi 0 4 0 1,Wc 1 5 4,Wi 2 6 0 2,Wc 3 7 6,WZ 4 8 33 7,Wf 5 9 .eql 5 8,Fm 6 10 9,Fi 7 11 10 true (Fa 2 1),Fi 8 12 10 true (Ld 11),Fi 9 13 10 true (Ln 12),Fi 10 14 10 true (Bc .gtr 13 1),Fs 11 15 (Pf 10 14),Fm 12 16 15,Fi 13 17 16 true (Fa 2 1),Fi 14 18 16 true (Ld 17),Fi 15 19 16 true (.iaddrL 1 (.t 18) (ci 1)),Fi 16 20 16 true (Ld 19),Fi 17 21 16 true (Fa 3 2),Fi 18 22 16 true (Ld 21),Fy 19 23 16 true (Ca 77 [.t 20,.t 22]),Fs 20 24 (Pf 16 23),Fm 21 25 24,Fi 22 26 25 true (Fa 3 1),Fi 23 27 25 true (Ld 26),Fi 24 28 25 true (.b2s (.t 27)),Fi 25 29 25 true (Fa 1 2),Fi 26 30 25 true (Ld 29),Fi 27 31 25 true (.bin .add (.t 30) (.c (.str [32]))),Fi 28 32 25 true (Fa 2 2),Fi 29 33 25 true (Ld 32),Fy 30 34 25 true (Ca 78 [.t 33]),Fi 31 35 25 true (Bb .add 31 34),Fi 32 36 25 true (Bb .eql 28 35),Fs 33 37 (Pf 25 36),Fm 34 3 37]
def r76:RC:=(So Ny (Sq (.flt [0,1,0,4,12,31,63,127,255,511,1023,2047,4095,8191,16383,32767,65535,8191,139263,524287,1048575,2097151,4194303,8388607,16777215,4194303,37748735,104857599,4194303,272629759,809500671,2118123519,4294967295,8589934591,17179869183] [] Tm [1,2,4,5,6,7,8,9,10,11,12,13,14,15,16,17,18,19,20,21,22,23,24,25,26,27,28,29,30,31,32,33,34,35,36,37]) .ret))
def F76:FnC:=⟨r76,38,[.tmp 3],[],[]⟩
def Tl:La:=[Wa 5 0,WY 6 5,Wa 7 1,WY 8 7,We 9 .eql 6 8,Wa 4 9]
def r77:RC:=(So qp (So Tl .ret))
def F77:FnC:=⟨r77,10,[.tmp 4],[],[]⟩
def DF:La:=[oo 2 (.mov (.c (.str []))) [2]]
def Tk:La:=[Wa 3 0,Wm 4 124 3,Wa 2 4]
def r78:RC:=(So DF (So Tk .ret))
def F78:FnC:=⟨r78,5,[.tmp 2],[],[]⟩
def Tj:La:=[WN 1 0,WV 2 false]
def Ti:La:=[Wg 8 1 1,Wd 9 8,Wb 10 .neq 9 1,Wa 11 10,.grp 11 true [(xi 12 11 true (Fa 1 1)),(xi 13 11 true (Ld 12)),(xi 14 11 true (Bc .neq 13 5))] [12,13],Wu 15 11 14,Wa 3 15]
def Th:La:=[Wg 16 1 1,Wd 17 16]
def Tg:La:=[WD 19 .eql 17 1,Wa 18 19]
def Tf:La:=[WD 21 .eql 17 2,Wa 20 21]
def Te:Lb:=[Wi 0 22 3 1,Wc 1 23 22,Fz 2 24 (.mkB (ci 4) (ci 4)),WJ 3 25 77 23 24,Fs 4 26 (.un .not (.t 25))]
def Td:La:=[WD 28 .eql 17 3,Wa 27 28]
def Tc:La:=[Wg 29 3 1,Wd 30 29,Wj 31 30,Wb 32 .eql 31 0]
def G8:La:=[Wg 33 3 1,Wd 34 33,WI 35 34,Wh 36 0]
def G7:La:=[WC 37 .lss 36 35]
def G6:La:=[on 38 (Ia 1 34 36),Wd 39 38,Wa 5 39]
def G5:La:=[om 40 5,Xj 41 .lss 40,Wa 42 41,.grp 42 false [(xi 43 42 false (Mv 5)),(xi 44 42 false (.bin .gtr (.t 43) (.c (.u8 126))))] [5,43],Wn 45 42 44]
def G4:La:=[Wb 46 .add 36 1,Wa 36 46]
def yp:RC:=(So G7 (Sq (Xu 37 [34,35,36,37] (.exit 1)) (Sq (Bk 2 (So G6 (So G5 (Xv 45 [1,3,34,35,36,45] (So nm .ret))))) (.ops G4))))
def xu:RC:=yp
def G3:La:=[WD 48 .eql 17 4,Wa 47 48]
def G2:La:=[Wb 49 .eql 17 5,Wa 47 49]
def G1:La:=[Wg 50 2 1,Wd 51 50,Wj 52 51,oo 53 (.mini (.t 52) (ci 2)) [52],Wh 54 0]
def GZ:La:=[WC 55 .lss 54 53]
def GY:La:=[om 56 54,Wa 6 56]
def GX:La:=[Wg 57 2 1,Wd 58 57,om 59 6,WW 60 1 58 59,Wd 61 60,Wa 7 61]
def GV:La:=[om 62 7,Wj 63 62,Wb 64 .gtr 63 0,Wa 65 64,.grp 65 true [(xi 66 65 true (Mv 3)),(xi 67 65 true (.un .not (.t 66))),(xi 68 65 true (Mv 67))] [66,67],.grp 68 false [(xi 69 68 false (Mv 7)),(xi 70 68 false (Mv 6)),(xi 71 68 false (Fa 3 1)),(xi 72 68 false (Ld 71)),(xi 73 68 false (Ca 90 [.t 70,.t 72])),(xi 74 68 false (Ca 77 [.t 69,.t 73])),(xi 75 68 false (.un .not (.t 74)))] [6,7,69,70,71,72,73,74],.grp 65 true [(xi 76 65 true (Pt 68 75))] [68,75],Wu 77 65 76]
def GU:La:=[Wb 78 .add 54 1,Wa 54 78]
def yo:RC:=(So GZ (Sq (Xu 55 [1,3,53,54,55] (.exit 3)) (Sq (Bk 4 (So GY (So GX (So GV (Xv 77 [1,3,53,54,77] (So nm .ret)))))) (.ops GU))))
def xq:RC:=yo
def r79:RC:=(So Tj (So Ti (Sq (So Th (Bk 0 (So Tg (Kc 18 (Kk [1,3,17,18] (So pS .ret)) (Kk [18] (So Tf (Kc 20 (Kk [17,20] (Sq (.flt [0,1,0,7,15] [124] Te [22,23,24,25]) (Xv 26 [1,3,26] (So nm .ret)))) (Kk [20] (So Td (Kc 27 (Kk [17,27] (Sq (So Tc (Xv 32 [1,3,32] (So nm .ret))) (So G8 (Bk 1 (.loop xu))))) (Kk [27] (Sq (So G3 (Kc 47 (Kk [17] .skip) (Kk [47] (.ops G2)))) (Xu 47 [1,3,47] (So nm .ret)))))))))))))) (Sq (So G1 (Bk 3 (.loop xq))) (So pS .ret)))))
def F79:FnC:=⟨r79,79,[.tmp 2],[],[]⟩
def Oc:RC:=(So DH (Sq (Xu 9 [0,1,7,8,9] (.exit 0)) (Sq (Bk 1 (So ND (So NC (Kc 16 (Kk [0,1,7,8,16] (So NB .ret)) (Kk [5,16] .skip))))) (.ops NA))))
def Nw:RC:=Oc
def r80:RC:=(So ot (Sq (So NE (Bk 0 (.loop Nw))) (So ol .ret)))
def F80:FnC:=⟨r80,19,[.tmp 4],[],[]⟩
def Tb:La:=[oo 4 (Lt 4 2) [2],Wr 5 3 1,Wd 6 5,Ww 7 35 4 6,Wa 3 7]
def r81:RC:=(So Ny (So Tb .ret))
def F81:FnC:=⟨r81,8,[.tmp 3],[],[]⟩
def Nv:La:=[Wa 3 0]
def Ta:La:=[WD 5 .eql 3 1,Wa 4 5]
def S9:La:=[WD 7 .eql 3 2,Wa 6 7]
def S8:La:=[WD 9 .eql 3 3,Wa 8 9]
def S7:La:=[Wh 2 8]
def S6:La:=[Wb 11 .eql 3 4,Wa 10 11]
def S5:La:=[Wh 2 9]
def r82:RC:=(So jc (Sq (So Nv (Bk 0 (So Ta (Kc 4 (Kk [3,4] (So jD .ret)) (Kk [4] (So S9 (Kc 6 (Kk [3,6] (So tj .ret)) (Kk [6] (So S8 (Kc 8 (Kk [3,8] (So S7 .ret)) (Kk [8] (So S6 (Xv 10 [10] (So S5 .ret)))))))))))))) (So vV .ret)))
def F82:FnC:=⟨r82,12,[.tmp 2],[],[]⟩
def Nu:La:=[om 3 0,Wb 4 .lss 3 10]
def S4:La:=[Wa 5 0,WQ 6 .add 48 5,WE 7 6,W3 8 7,Wa 2 8]
def S3:La:=[om 9 0,Wb 10 .quo 9 10,Wm 11 85 10,Wa 12 0,Wb 13 .rem 12 10,WQ 14 .add 48 13,WE 15 14,W3 16 15,WA 17 1 11 16,Wa 2 17]
def r85:RC:=(So lh (Sq (So Nu (Xv 4 [4] (So S4 .ret))) (So S3 .ret)))
def F85:FnC:=⟨r85,18,[.tmp 2],[0],[]⟩
def S2:La:=[Wh 5 0,Wh 6 0,Wh 7 (-1),Wh 8 0]
def S1:La:=[om 9 6,om 10 1,Wj 11 10,We 12 .lss 9 11]
def S0:La:=[om 14 5,om 15 0,WH 16 true 15,We 17 .lss 14 16,Wa 18 17,.grp 18 true [(xi 19 18 true (Mv 0)),(xi 20 18 true (Mv 5)),(xi 21 18 true (.idxS (.t 19) (.t 20))),(xi 22 18 true (.bin .eql (.t 21) (.c (.u8 42))))] [19,20,21],Wu 23 18 22,Wa 13 23]
def SZ:La:=[om 24 5,om 25 6,Wa 26 5,Wb 27 .add 26 1,Wa 7 24,Wa 8 25,Wa 5 27]
def SY:Lb:=[Fm 0 29 5,Fm 1 30 0,Fs 2 31 (.len true (.t 30)),Wf 3 32 .lss 29 31,Fm 4 33 32,Wv 5 34 33 true 0,Wv 6 35 33 true 5,Fi 7 36 33 true (.idxS (.t 34) (.t 35)),Fi 8 37 33 true (.bin .eql (.t 36) (.c (.u8 63))),Wv 9 38 33 true 37,Wv 10 39 38 false 0,Wv 11 40 38 false 5,Fi 12 41 38 false (.idxS (.t 39) (.t 40)),Wv 13 42 38 false 1,Wv 14 43 38 false 6,Fi 15 44 38 false (Ia 1 42 43),Fi 16 45 38 false (Ld 44),Fi 17 46 38 false (Bb .eql 41 45),Fi 18 47 33 true (Pt 38 46),Fs 19 48 (Pf 33 47),Fm 20 28 48]
def SX:La:=[Wa 49 5,Wb 50 .add 49 1,Wa 51 6,Wb 52 .add 51 1,Wa 5 50,Wa 6 52]
def SW:La:=[om 54 7,Wb 55 .geq 54 0,Wa 53 55]
def SU:La:=[om 56 7,Wb 57 .add 56 1,om 58 8,Wb 59 .add 58 1,Wa 60 8,Wb 61 .add 60 1,Wa 5 57,Wa 6 59,Wa 8 61]
def yn:RC:=(Sq (So S1 (Xu 12 [1,6,7,8,12] (.exit 0))) (Bk 1 (Bk 2 (So S0 (Kc 13 (Kk [7,8,13] (.ops SZ)) (Kk [13] (Sq (.flt [0,0,2,7,15,31,31,127,255,511,1023,1023,4095,1023,1023,25599,58367,131071,262143,524287,1048575] [] SY [29,30,31,32,33,34,35,36,37,38,39,40,41,42,43,44,45,46,47,48]) (Kc 28 (Kk [28] (.ops SX)) (Kk [5,6,28] (So SW (Kc 53 (Kk [53] (.ops SU)) (Kk [0,1,7,8,53] (So oq .ret)))))))))))))
def xo:RC:=yn
def GT:La:=[Wa 62 0,Wa 63 5,oo 64 (.slcS (.t 62) (some (.t 63)) none) [62,63],oo 65 (Ca 127 [.t 64,(.c (.str [42]))]) [64],oo 66 (.bin .eql (.t 65) (.c (.str []))) [65],Wa 4 66]
def r86:RC:=(So qp (So S2 (Sq (Bk 0 (.loop xo)) (So GT .ret))))
def F86:FnC:=⟨r86,67,[.tmp 4],[],[]⟩
def Nt:La:=[oo 4 (.mov (.c (.str []))) [4],WV 5 false]
def SS:La:=[Wa 6 0,Wa 7 1,Ww 8 128 6 7,WL 9 8 0,WM 10 8 1,Wa 4 9,Wa 5 10]
def r87:RC:=(So Nt (So SS .ret))
def F87:FnC:=⟨r87,11,[.tmp 4,.tmp 5],[],[]⟩
def SR:La:=[om 6 0,oo 7 (.bin .eql (.t 6) (.c (.str []))) [6],Wa 8 7,.grp 8 false [(xi 9 8 false (Mv 0)),(xi 10 8 false (.len true (.t 9))),(xi 11 8 false (Bc .gtr 10 10))] [9,10],Wn 12 8 11,Wa 13 12,.grp 13 false [(xi 14 13 false (Mv 0)),(xi 15 13 false (.len true (.t 14))),(xi 16 13 false (Bc .gtr 15 1)),(xi 17 13 false (Mv 16))] [14,15,16],.grp 17 true [(xi 18 17 true (Mv 0)),(xi 19 17 true (.idxS (.t 18) (ci 0))),(xi 20 17 true (.bin .eql (.t 19) (.c (.u8 48))))] [18,19],.grp 13 false [(xi 21 13 false (Pf 17 20))] [17,20],Wn 22 13 21]
def SQ:La:=[om 23 0,WH 24 true 23,Wh 25 0]
def SP:La:=[om 27 25,Wa 3 27]
def SN:La:=[om 28 0,om 29 3,oo 30 (.idxS (.t 28) (.t 29)) [28,29],oo 31 (.bin .lss (.t 30) (.c (.u8 48))) [30],Wa 32 31,.grp 32 false [(xi 33 32 false (Mv 0)),(xi 34 32 false (Mv 3)),(xi 35 32 false (.idxS (.t 33) (.t 34))),(xi 36 32 false (.bin .gtr (.t 35) (.c (.u8 57))))] [3,33,34,35],Wn 37 32 36]
def SM:La:=[Wb 38 .add 25 1,Wa 25 38]
def Ob:RC:=(So NQ (Sq (Xu 26 [24,25,26] (.exit 0)) (Sq (Bk 1 (So SP (So SN (Xv 37 [0,24,25,37] (So vV .ret))))) (.ops SM))))
def Ns:RC:=Ob
def GS:La:=[Wa 40 0,Wm 41 129 40,Wa 39 41,WL 42 39 0,WM 43 39 1,Wa 4 42,.op (xm 5 43) [5,43]]
def GR:La:=[Wa 44 4,Wa 2 44]
def r88:RC:=(So jc (Sq (So SR (Xv 22 [0,22] (So vV .ret))) (Sq (So SQ (Bk 0 (.loop Ns))) (So GS (So GR .ret)))))
def F88:FnC:=⟨r88,45,[.tmp 2],[],[]⟩
def SL:La:=[Wg 4 0 1,Wd 5 4,Wb 6 .lss 5 1,Wa 7 6,.grp 7 false [(xi 8 7 false (Fa 0 1)),(xi 9 7 false (Ld 8)),(xi 10 7 false (Bc .gtr 9 4))] [8,9],Wn 11 7 10,Wa 12 11,.grp 12 false [(xi 13 12 false (Fa 2 1)),(xi 14 12 false (Ld 13)),(xi 15 12 false (Bc .lss 14 0))] [13,14],Wn 16 12 15,Wa 17 16,.grp 17 false [(xi 18 17 false (Fa 2 1)),(xi 19 17 false (Ld 18)),(xi 20 17 false (Bc .gtr 19 1000000))] [18,19],Wn 21 17 20,Wa 3 21]
def SK:La:=[Wg 23 1 1,Wd 24 23,Wm 25 130 24,WT 26 25,Wa 22 26]
def SJ:La:=[Wg 28 3 1,Wd 29 28,Wj 30 29,Wb 31 .gtr 30 64,Wa 27 31]
def SH:La:=[Wg 33 0 1,Wd 34 33,Wb 35 .eql 34 4,Wa 36 35,.grp 36 true [(xi 37 36 true (Lt 4 1)),(xi 38 36 true (Ca 98 [.t 37])),(xi 39 36 true (Ln 38)),(xi 40 36 true (Bc .eql 39 0))] [1,37,38,39],Wu 41 36 40,Wa 32 41]
def DE:La:=[Wh 2 40]
def r89:RC:=(So vY (Sq (Bk 0 (So SL (Kc 3 (Kk [1,3] (So ku .ret)) (Kk [3] (So SK (Kc 22 (Kk [1,22] (So vX .ret)) (Kk [22] (So SJ (Kc 27 (Kk [1,27] (So tj .ret)) (Kk [27] (So SH (Xv 32 [32] (So DE .ret))))))))))))) (So jD .ret)))
def F89:FnC:=⟨r89,42,[.tmp 2],[],[]⟩
def SG:La:=[Wa 9 0]
def SF:La:=[WD 11 .eql 9 0,Wa 10 11]
def SE:La:=[on 12 (.build [.int .u32 0,.int .u32 0,.int .u32 0,.int .u32 0,.int .u32 0] [(0,1,(.c (.int .u32 1732584193))),(1,1,(.c (.int .u32 4023233417))),(2,1,(.c (.int .u32 2562383102))),(3,1,(.c (.int .u32 271733878))),(4,1,(.c (.int .u32 3285377520)))]),on 5 (.new (.arr 1 (ao 5 [.int .u32 0]))),Sr 5 5 12 [12]]
def SD:La:=[Wa 13 1,Wm 14 131 13,Wa 6 14]
def SC:La:=[om 15 6,Wj 16 15,Wb 17 .gtr 16 0]
def SB:La:=[om 20 6,Xe 21 1 20 64,oo 22 (Ca 132 [.t 5,.t 21]) [21,22]]
def SA:La:=[Wa 18 6,oo 19 (.slcL 1 (.t 18) (some (ci 64)) none none) [18],Wa 6 19]
def Oa:RC:=(Sq (So SC (Xu 17 [6,17] (.exit 1))) (Sq (Bk 2 (.ops SB)) (.ops SA)))
def Nr:RC:=Oa
def Sz:La:=[oo 23 (.slcA 5 1 (.t 5) none none none) [5],Wm 24 133 23,Wa 4 24]
def GQ:La:=[Wb 26 .eql 9 1,Wa 25 26]
def GP:La:=[on 27 (.build [.int .u32 0,.int .u32 0,.int .u32 0,.int .u32 0,.int .u32 0,.int .u32 0,.int .u32 0,.int .u32 0] [(0,1,(.c (.int .u32 1779033703))),(1,1,(.c (.int .u32 3144134277))),(2,1,(.c (.int .u32 1013904242))),(3,1,(.c (.int .u32 2773480762))),(4,1,(.c (.int .u32 1359893119))),(5,1,(.c (.int .u32 2600822924))),(6,1,(.c (.int .u32 528734635))),(7,1,(.c (.int .u32 1541459225)))]),on 7 (.new (.arr 1 (ao 8 [.int .u32 0]))),Wx 8 7 27]
def GO:La:=[Wa 28 1,Wm 29 131 28,Wa 8 29]
def GN:La:=[om 30 8,Wj 31 30,Wb 32 .gtr 31 0]
def GL:La:=[om 35 8,Xe 36 1 35 64,oo 37 (Ca 134 [.t 7,.t 36]) [36,37]]
def GK:La:=[Wa 33 8,oo 34 (.slcL 1 (.t 33) (some (ci 64)) none none) [33],Wa 8 34]
def ym:RC:=(Sq (So GN (Xu 32 [8,32] (.exit 3))) (Sq (Bk 4 (.ops GL)) (.ops GK)))
def xl:RC:=ym
def GJ:La:=[oo 38 (.slcA 8 1 (.t 7) none none none) [7],Wm 39 133 38,Wa 4 39]
def r90:RC:=(So lQ (Sq (So SG (Bk 0 (So SF (Kc 10 (Kk [9,10] (So SE (Sq (So SD (Bk 1 (.loop Nr))) (So Sz .ret)))) (Kk [10] (So GQ (Kc 25 (Kk [25] (So GP (Sq (So GO (Bk 3 (.loop xl))) (So GJ .ret)))) (Kk [1,25] .skip)))))))) (So kt .ret)))
def F90:FnC:=⟨r90,40,[.tmp 4],[],[]⟩
def Sx:La:=[on 4 (Lt 4 1),Wm 5 89 4,Wb 6 .neq 5 0]
def Sw:La:=[Wg 7 0 1,Wd 8 7,oo 9 (Ca 48 [(.c (.byt [] .clip)),ci 1,.t 8]) [8],Wa 3 9]
def Sv:La:=[Wa 10 3,Wg 11 2 1,Wd 12 11,W8 13 48 10 4 12,Wa 3 13]
def Su:La:=[Wa 14 3,Wg 15 1 1,Wd 16 15,Xb 17 16,Ww 18 49 14 17,Wa 3 18]
def Ss:La:=[Wa 19 3,Wr 20 3 1,Wd 21 20,Ww 22 49 19 21,Wa 2 22]
def r91:RC:=(So vW (Sq (So Sx (Xv 6 [1,6] (So th .ret))) (So Sw (So Sv (So Su (So Ss .ret))))))
def F91:FnC:=⟨r91,23,[.tmp 2],[],[]⟩
def Sp:La:=[om 5 0,Wj 6 5,Wa 4 6]
def Sn:La:=[Wa 7 0,om 8 4,Wa 9 4,WO 10 9,Wm 11 136 10,Wa 12 1,oo 13 (Ca 135 [.t 7,ci 0,.t 8,.t 11,.t 12]) [7,8,11,12,13]]
def r92:RC:=(So Sp (.ops Sn))
def F92:FnC:=⟨r92,14,[],[],[]⟩
def Sm:La:=[om 8 0,Wj 9 8,Wb 10 .lss 9 2]
def Sl:La:=[Wa 11 0,Wa 4 11]
def Sk:La:=[om 12 5,om 13 0,Wj 14 13,We 15 .lss 12 14]
def Sj:Lb:=[Fm 0 18 1,Fm 1 19 0,Fm 2 20 5,Wo 3 21 4 19 20,Fs 4 22 (Lt 4 21),Fm 5 23 0,Fm 6 24 5,Wp 7 25 .sub 24 1,Wo 8 26 4 23 25,Fs 9 27 (Lt 4 26),Fz 10 28 (.call (.t 18) [.t 22,.t 27])]
def Si:La:=[om 29 0,om 30 5,Xq 31 4 29 30,Wa 6 31]
def Sh:La:=[Wh 7 1]
def Sg:La:=[om 32 7,om 33 6,Wj 34 33,We 35 .lss 32 34]
def Sf:Lb:=[Fm 0 38 1,Fm 1 39 6,Fm 2 40 7,Wo 3 41 4 39 40,Fs 4 42 (Lt 4 41),Fm 5 43 6,Fm 6 44 7,Wp 7 45 .sub 44 1,Wo 8 46 4 43 45,Fs 9 47 (Lt 4 46),Fz 10 48 (.call (.t 38) [.t 42,.t 47]),Fs 11 49 (.un .not (.t 48))]
def GI:La:=[om 50 0,om 51 5,om 52 6,om 53 7,WW 54 4 52 53,Wz 55 4 54,WW 56 4 50 51,Ws 4 56 55]
def GH:La:=[Wa 57 5,Wb 58 .add 57 1,Wa 5 58]
def GG:La:=[Wa 36 7,Wb 37 .add 36 1,Wa 7 37]
def yl:RC:=(Sq (So Sg (Xu 35 [1,6,7,35] (.exit 2))) (Sq (Bk 3 (Sq (.flt [0,0,0,6,14,0,0,64,224,480,1023,2047] [] Sf [38,39,40,41,42,43,44,45,46,47,48]) (Xv 49 [49] (So GI (.ops GH))))) (.ops GG)))
def xk:RC:=yl
def GF:La:=[om 59 0,om 60 5,Xq 61 4 59 60,.op ⟨none,none,.clr [.int .i64 0,.str [],.int .i64 0,(.byt [] .no)] (.t 61)⟩ [61]]
def GE:La:=[Wa 62 0,Wa 63 5,Xg 64 4 62 63,Wa 4 64]
def xj:La:=[Wa 16 5,Wb 17 .add 16 1,Wa 5 17]
def yk:RC:=(Sq (So Sk (Xu 15 [1,5,15] (.exit 0))) (Sq (Bk 1 (Sq (.flt [0,0,0,6,14,0,0,64,224,480,1023] [] Sj [18,19,20,21,22,23,24,25,26,27]) (Xv 28 [28] (So Si (Sq (So Sh (Bk 2 (.loop xk))) (So GF (So GE .ret))))))) (.ops xj)))
def s9:RC:=yk
def GD:La:=[Wa 65 0,Wa 4 65]
def r93:RC:=(So NR (Sq (So Sm (Xv 10 [1,10] (So Sl .ret))) (Sq (So NV (Bk 0 (.loop s9))) (So GD .ret))))
def F93:FnC:=⟨r93,66,[.tmp 4],[],[0]⟩
def Se:La:=[Wz 5 4 2,Wz 6 4 3,Ww 7 43 5 6,Wb 8 .eql 7 0,Wa 4 8]
def r94:RC:=(So DK (So Se .ret))
def F94:FnC:=⟨r94,9,[.tmp 4],[],[]⟩
def Sd:La:=[on 4 (Lt 4 1),Wm 5 100 4,Wb 6 .neq 5 0]
def Sc:La:=[Wg 7 0 1,Wd 8 7,oo 9 (Ca 57 [(.c (.byt [] .clip)),ci 1,.t 8]) [8],Wa 3 9]
def Sb:La:=[Wa 10 3,Wg 11 2 1,Wd 12 11,W8 13 57 10 4 12,Wa 3 13]
def Sa:La:=[Wa 14 3,Wg 15 1 1,Wd 16 15,Xb 17 16,Ww 18 56 14 17,Wa 3 18]
def R9:La:=[Wa 19 3,Wr 20 3 1,Wd 21 20,Ww 22 56 19 21,Wa 2 22]
def r95:RC:=(So vW (Sq (So Sd (Xv 6 [1,6] (So th .ret))) (So Sc (So Sb (So Sa (So R9 .ret))))))
def F95:FnC:=⟨r95,23,[.tmp 2],[],[]⟩
def R8:La:=[om 9 0,Wj 10 9,Wb 11 .eql 10 0,Wa 12 11,.grp 12 false [(xi 13 12 false (Mv 0)),(xi 14 12 false (Ln 13)),(xi 15 12 false (Bc .gtr 14 8))] [13,14],Wn 16 12 15]
def R7:La:=[on 3 (.new (.arr 1 (ao 5 [.bool false])))]
def R6:La:=[om 17 0,WI 18 17,Wh 19 0]
def R5:La:=[WC 20 .lss 19 18]
def R4:La:=[om 21 19,on 22 (Ia 4 17 19),Wz 23 4 22,WU 5,Wa 4 21,Wx 4 5 23]
def R3:La:=[on 24 (Lt 4 5),Wm 25 89 24,Wa 6 25]
def R2:La:=[Wa 28 6,Wa 2 28]
def GC:Lb:=[Fm 0 29 4,Wp 1 30 .gtr 29 0,Fm 2 31 30,Fi 3 32 31 true (Fa 0 5),Fi 4 33 31 true (Ld 32),Wv 5 34 31 true 0,Wv 6 35 31 true 4,Fi 7 36 31 true (Bc .sub 35 1),Fi 8 37 31 true (Ia 4 34 36),Fi 9 38 31 true (Fa 0 37),Fi 10 39 31 true (Ld 38),Fi 11 40 31 true (Bb .lss 33 39),Fs 12 41 (Pf 31 40)]
def GB:La:=[om 42 0,Wa 43 4,Xg 44 4 42 43,WI 45 44,Wh 46 0]
def GA:La:=[WC 47 .lss 46 45]
def Gz:La:=[on 48 (Ia 4 44 46),Wz 49 4 48,WU 8,Wx 4 8 49]
def Gy:La:=[Wg 50 0 8,Wd 51 50,Wg 52 0 5,Wd 53 52,We 54 .eql 51 53,Wa 55 54,.grp 55 true [(xi 56 55 true (Fa 1 8)),(xi 57 55 true (Ld 56)),(xi 58 55 true (Fa 1 5)),(xi 59 55 true (Ld 58)),(xi 60 55 true (Bb .eql 57 59))] [8,56,57,58,59],Wu 61 55 60]
def Gx:La:=[Wh 2 42]
def Gw:La:=[Wb 62 .add 46 1,Wa 46 62]
def yj:RC:=(.post (So GA (Sq (Xu 47 [44,45,46,47] (.exit 2)) (Sq (Bk 3 (So Gz (So Gy (Xv 61 [0,3,5,17,18,19,44,45,46,61] (So Gx .ret))))) (.ops Gw)))) [.gc [108]])
def xh:RC:=yj
def Gv:La:=[Wr 63 0 5,Wd 64 63,oo 65 (.iaddrA 5 1 (.t 3) (.t 64)) [64],.op ⟨none,none,.store 1 (.t 65) (.c (.bool true))⟩ [65]]
def Gu:La:=[Wb 66 .add 19 1,Wa 19 66]
def yi:RC:=(.post (So R5 (Sq (Xu 20 [0,17,18,19,20] (.exit 0)) (Sq (Bk 1 (So R4 (Sq (So R3 (So NI (Kc 27 (Kk [0,3,4,5,17,18,19,27] (So R2 .ret)) (Kk [6,27] .skip)))) (Sq (Sq (.flt [0,1,3,7,15,7,7,71,231,487,999,2047,4095] [] GC [29,30,31,32,33,34,35,36,37,38,39,40]) (Xv 41 [0,3,4,5,17,18,19,41] (So xP .ret))) (Sq (So GB (Bk 2 (.loop xh))) (.ops Gv)))))) (.ops Gu)))) [.gc [105,108]])
def xg:RC:=yi
def Gt:La:=[Xh 67 3 1,Wd 68 67,WT 69 68,Wa 70 69,.grp 70 false [(xi 71 70 false (.iaddrA 5 1 (.t 3) (ci 3))),(xi 72 70 false (Ld 71)),(xi 73 70 false (.un .not (.t 72)))] [3,71,72],Wn 74 70 73]
def r96:RC:=(So jc (Sq (So R8 (Xv 16 [0,16] (So ku .ret))) (So R7 (Sq (So R6 (Bk 0 (.loop xg))) (Sq (So Gt (Xv 74 [74] (So DE .ret))) (So jD .ret))))))
def F96:FnC:=⟨r96,75,[.tmp 2],[],[]⟩
def RZ:La:=[on 5 (Lt 4 2),Wm 6 89 5,Wb 7 .neq 6 0,Wa 8 7,.grp 8 false [(xi 9 8 false (Fa 0 2)),(xi 10 8 false (Ld 9)),(xi 11 8 false (Bc .eql 10 4))] [9,10],Wn 12 8 11]
def RY:Lb:=[Wi 0 14 0 2,Wc 1 15 14,Fs 3 17 (Lt 4 2),Fm 4 18 1,Wi 6 20 1 2,Wc 7 21 20,Fs 8 22 (.bin .add (.t 21) (.c (.str [32]))),Wi 9 23 2 2,Wc 10 24 23,WZ 2 16 33 15,WJ 5 19 137 17 18,WZ 11 25 78 24,Wf 12 26 .add 22 25,Fs 13 27 (.s2b (.t 26)),Fs 14 28 (.build Zq1 [(0,1,(.t 16)),(1,1,(ci 1)),(2,1,(.t 19)),(3,1,(.t 27))]),Fr 15 4 4 28]
def r97:RC:=(So NP (Sq (So RZ (Xv 12 [1,2,12] (So NO .ret))) (Sq (.flt [0,1,3,0,0,31,0,64,192,0,512,1599,4095,8191,16383,32767] [] RY [1,2,14,15,16,17,18,19,20,21,22,23,24,25,26,27,28]) .ret)))
def F97:FnC:=⟨r97,29,[.cell 4 4 true],[],[]⟩
def RX:La:=[Wr 6 3 1,Wd 7 6,Wa 4 7]
def RW:La:=[om 8 4,Wj 9 8,Wb 10 .gtr 9 0]
def RU:La:=[om 11 4,oo 12 (Ca 138 [.t 11,(.c (.u8 10))]) [11],Wa 5 12]
def RT:La:=[om 13 5,Wb 14 .lss 13 1,Wa 15 14,.grp 15 false [(xi 16 15 false (Mv 3)),(xi 17 15 false (Ln 16)),(xi 18 15 false (Bc .eql 17 4))] [16,17],Wn 19 15 18,Wa 20 19,.grp 20 false [(xi 21 20 false (Mv 4)),(xi 22 20 false (Mv 5)),(xi 23 20 false (.slcL 1 (.t 21) none (some (.t 22)) none)),(xi 24 20 false (Ca 139 [.t 23])),(xi 25 20 false (.un .not (.t 24)))] [21,22,23,24],Wn 26 20 25]
def RS:La:=[Wa 27 3,om 28 4,om 29 5,om 30 5,oo 31 (.slcL 1 (.t 28) none (some (.t 29)) (some (.t 30))) [28,29,30],W2 32 1 31,oo 33 (.app [.byt [] .clip] 24 (.t 27) (.t 32)) [27,32],Wa 3 33]
def RR:La:=[Wa 34 4,Wa 35 5,Wb 36 .add 35 1,Xq 37 1 34 36,Wa 4 37]
def N9:RC:=(.post (Sq (So RW (Xu 10 [4,10] (.exit 0))) (Bk 1 (So RU (Sq (So RT (Xv 26 [3,4,5,26] (So vT .ret))) (So RS (.ops RR)))))) [.tok 3 103])
def DD:RC:=N9
def Gs:La:=[Wa 38 3,Wa 2 38]
def r98:RC:=(So NG (So NF (Sq (So RX (Bk 0 (.pre [.tok 3 103] (.loop DD)))) (So Gs .ret))))
def F98:FnC:=⟨r98,39,[.tmp 2],[],[]⟩
def RQ:La:=[on 8 (.new (.rc Zq1))]
def RP:Lb:=[Wq 0 11,Wq 1 12,Wq 3 14,Fz 2 13 (.mk [(.byt [] .no)] 24 (ci 2) (ci 2)),WZ 4 15 140 14,Fs 5 16 (.build Zq1 [(0,1,(.t 11)),(1,1,(.t 12)),(2,1,(.t 13)),(3,1,(.t 15))]),Fz 6 9 (.new (.rc Zq1)),Fr 7 4 9 16]
def RO:La:=[Wg 17 2 9,Wd 18 17,Wj 19 18,Wh 20 0]
def RN:La:=[WC 21 .lss 20 19]
def RM:La:=[om 22 20,Wa 10 22]
def RL:La:=[om 23 1,Wb 24 .neq 23 5,Wa 25 24,.grp 25 true [(xi 26 25 true (Mv 2)),(xi 27 25 true (Mv 10)),(xi 28 25 true (Bb .shr 26 27)),(xi 29 25 true (Bc .and 28 1)),(xi 30 25 true (Bc .eql 29 1))] [26,27,28,29],Wu 31 25 30]
def RK:Lb:=[Wi 0 32 2 9,Wc 1 33 32,Fm 2 34 10,Fm 3 35 10,Fm 4 36 3,WJ 5 37 90 35 36,Wo 6 38 1 33 34,Fr 7 1 38 37]
def RJ:La:=[Wb 39 .add 20 1,Wa 20 39]
def N8:RC:=(So RN (Sq (Xu 21 [1,2,3,19,20,21] (.exit 0)) (Sq (Bk 1 (So RM (So RL (Kc 31 (Kk [31] (.flt [0,1,0,0,0,24,63,127] [] RK [10,32,33,34,35,36,37,38])) (Kk [10,31] .skip))))) (.ops RJ))))
def RH:RC:=N8
def RG:La:=[Wz 40 4 9,Wx 4 8 40]
def r99:RC:=(So RQ (Sq (.fla [0,0,0,0,8,31,0,127] [113,109] RP [[0,1,3,2,4,5,6,7],[0,1,3,2,6,4,5,7],[0,1,3,4,2,5,6,7],[0,1,3,4,6,2,5,7],[0,1,3,6,2,4,5,7],[0,1,3,6,4,2,5,7]] [0,11,12,13,14,15,16]) (Sq (So RO (Bk 0 (.loop RH))) (So RG .ret))))
def F99:FnC:=⟨r99,41,[.cell 8 4 true],[],[]⟩
def MV:La:=[Wg 3 0 1,Wd 4 3,Wb 5 .lss 4 1,Wa 6 5,.grp 6 false [(xi 7 6 false (Fa 0 1)),(xi 8 6 false (Ld 7)),(xi 9 6 false (Bc .gtr 8 4))] [7,8],Wn 10 6 9,Wa 11 10,.grp 11 false [(xi 12 11 false (Fa 2 1)),(xi 13 11 false (Ld 12)),(xi 14 11 false (Bc .lss 13 0))] [12,13],Wn 15 11 14,Wa 16 15,.grp 16 false [(xi 17 16 false (Fa 2 1)),(xi 18 16 false (Ld 17)),(xi 19 16 false (Bc .gtr 18 1000000))] [17,18],Wn 20 16 19]
def MU:La:=[Wg 21 1 1,Wd 22 21,Wm 23 45 22,WT 24 23]
def MT:La:=[Wg 25 3 1,Wd 26 25,Wj 27 26,Wb 28 .gtr 27 64]
def MS:La:=[Wg 29 0 1,Wd 30 29,Wb 31 .eql 30 4,Wa 32 31,.grp 32 true [(xi 33 32 true (Lt 4 1)),(xi 34 32 true (Ca 70 [.t 33])),(xi 35 32 true (Ln 34)),(xi 36 32 true (Bc .eql 35 0))] [1,33,34,35],Wu 37 32 36]
def xib:RC:=(So vY (Sq (So MV (Xv 20 [1,20] (So ku .ret))) (Sq (So MU (Xv 24 [1,24] (So vX .ret))) (Sq (So MT (Xv 28 [1,28] (So tj .ret))) (Sq (So MS (Xv 37 [37] (So DE .ret))) (So jD .ret))))))
def Zx:FnC:=⟨xib,38,[.tmp 2],[],[]⟩
def x9:La:=[WN 2 0,oo 4 (.mov (.c (.lst 1 [] .clip))) [4]]
def x8:La:=[on 8 (.mk [(.byt [] .no)] 24 (ci 2) (ci 2)),Wa 5 8]
def MR:La:=[Wz 9 4 2,Wm 10 95 9,Wa 6 10]
def x7:La:=[Wh 7 0]
def MQ:La:=[om 11 7,Wb 12 .lss 11 2]
def MP:La:=[om 15 6,Wj 16 15,Wb 17 .gtr 16 0,Wa 18 17,.grp 18 true [(xi 19 18 true (Mv 1)),(xi 20 18 true (Mv 7)),(xi 21 18 true (Ca 120 [.t 19,.t 20]))] [19,20],Wu 22 18 21]
def MO:La:=[om 23 5,om 24 7,om 25 7,om 26 6,Ww 27 121 25 26,WW 28 1 23 24,Ws 1 28 27]
def MN:La:=[Wa 13 7,Wb 14 .add 13 1,Wa 7 14]
def y9:RC:=(Sq (So MQ (Xu 12 [1,6,7,12] (.exit 0))) (Sq (Bk 1 (So MP (Xv 22 [22] (.ops MO)))) (.ops MN)))
def MM:RC:=y9
def ML:La:=[Wa 29 5,Wa 4 29]
def xia:RC:=(So x9 (So x8 (So MR (Sq (So x7 (Bk 0 (.loop MM))) (So ML .ret)))))
def Zw:FnC:=⟨xia,30,[.tmp 4],[],[]⟩
def MK:La:=[Wa 6 0,WI 7 6,Wh 8 0]
def MJ:La:=[on 10 (Ia 1 6 8),Wd 11 10,Wa 5 11]
def MI:La:=[om 12 5,om 13 3,We 14 .neq 12 13]
def MH:La:=[Wa 15 5,Wa 2 15]
def MG:La:=[Wb 16 .add 8 1,Wa 8 16]
def y8:RC:=(So DH (Sq (Xu 9 [6,7,8,9] (.exit 0)) (Sq (Bk 1 (So MJ (So MI (Kc 14 (Kk [3,6,7,8,14] (So MH .ret)) (Kk [5,14] .skip))))) (.ops MG))))
def MF:RC:=y8
def ME:La:=[Wa 17 3,Wa 2 17]
def xh9:RC:=(So jc (So NN (Sq (So MK (Bk 0 (.loop MF))) (So ME .ret))))
def Zv:FnC:=⟨xh9,18,[.tmp 2],[],[]⟩
def MD:La:=[om 7 0,Wm 8 141 7,Wa 5 8]
def MC:La:=[om 9 1,Wm 10 141 9,Wa 6 10]
def MB:La:=[Wa 11 5]
def MA:La:=[Wa 12 6]
def Mz:La:=[Wa 13 6]
def x6:La:=[Wh 4 1]
def My:La:=[om 14 0,om 15 1,We 16 .lss 14 15]
def By:La:=[Wa 17 0,Wa 18 1,We 19 .gtr 17 18]
def xh8:RC:=(So ot (So MD (So MC (Sq (So MB (Xv 11 [0,1,11] (Sq (So MA (Xv 12 [12] (So lR .ret))) (So ol .ret)))) (Sq (So Mz (Xv 13 [0,1,13] (So x6 .ret))) (Sq (So My (Xv 16 [0,1,16] (So ol .ret))) (Sq (So By (Xv 19 [19] (So x6 .ret))) (So lR .ret))))))))
def Zu:FnC:=⟨xh8,20,[.tmp 4],[],[]⟩
def Mx:La:=[Wa 5 0,Wa 6 1,Ww 7 142 5 6,Wa 4 7]
def xh7:RC:=(So ot (So Mx .ret))
def Zt:FnC:=⟨xh7,8,[.tmp 4],[],[]⟩
def Mw:La:=[om 6 5,om 7 0,Wj 8 7,We 9 .lss 6 8,Wa 10 9,.grp 10 true [(xi 11 10 true (Mv 5)),(xi 12 10 true (Mv 1)),(xi 13 10 true (Ln 12)),(xi 14 10 true (Bb .lss 11 13))] [11,12,13],Wu 15 10 14]
def Mu:Lb:=[Wq 0 18,Fm 1 19 5,Wo 2 20 1 18 19,Wc 3 21 20,Fm 4 22 1,Wq 5 23,Wo 6 24 1 22 23,Wc 7 25 24,Wf 8 26 .neq 21 25]
def Mt:Lb:=[Wq 0 27,Fm 1 28 5,Wo 2 29 1 27 28,Wc 3 30 29,Fm 4 31 1,Wq 5 32,Wo 6 33 1 31 32,Wc 7 34 33,Wf 8 35 .lss 30 34,Fm 9 4 35]
def y7:RC:=(Sq (So Mw (Xu 15 [5,15] (.exit 0))) (Sq (Bk 1 (Sq (.flt [0,0,3,7,0,0,48,112,255] [] Mu [18,19,20,21,22,23,24,25]) (Xv 26 [26] (Sq (.flt [0,0,3,7,0,0,48,112,255,511] [] Mt [0,1,5,27,28,29,30,31,32,33,34,35]) .ret)))) (.ops xj)))
def x5:RC:=y7
def Ms:La:=[Wa 36 0,Wj 37 36,Wa 38 1,Wj 39 38,We 40 .lss 37 39,Wa 4 40]
def xh6:RC:=(So qp (Sq (So tc (Bk 0 (.loop x5))) (So Ms .ret)))
def Zs:FnC:=⟨xh6,41,[.tmp 4],[],[]⟩
def Mr:La:=[Wa 4 0,Wa 5 1,WF 6 4,Wr 7 2 6,Ws 1 7 5]
def xh5:RC:=(.ops Mr)
def Zr:FnC:=⟨xh5,8,[],[],[]⟩
def Mq:La:=[Xa 6,oo 7 (Mc 0) [7]]
def Mp:La:=[om 8 2,om 9 0,WF 10 9,Wr 11 0 10,Wd 12 11,Wj 13 12,om 14 1,We 15 .sub 13 14,We 16 .gtr 8 15]
def Mo:La:=[Xf 6,Wh 7 2]
def Mn:La:=[Wa 17 0,WF 18 17,Wr 19 0 18,Wd 20 19,om 21 1,Wa 22 1,Wa 23 2,We 24 .add 22 23,Xp 25 1 20 21 24,Wa 6 25,Wh 7 0]
def xh4:RC:=(So Mq (Sq (So Mp (Xv 16 [0,1,2,16] (So Mo .ret))) (So Mn .ret)))
def Zq:FnC:=⟨xh4,26,[.tmp 6,.tmp 7],[],[]⟩
def Mm:Lb:=[Wq 0 3,WB 1 4 3,Wi 2 5 0 4,Wc 3 6 5,Fs 4 7 (Ln 6),Fm 5 8 0,WB 6 9 8,Wi 7 10 1 9,Wc 8 11 10,Wf 9 12 .sub 7 11,Fm 10 2 12]
def xh3:RC:=(So jc (Sq (.flt [0,1,3,7,15,0,32,96,224,511,1023] [] Mm [0,3,4,5,6,7,8,9,10,11,12]) .ret))
def Zp:FnC:=⟨xh3,13,[.tmp 2],[],[]⟩
def Ml:La:=[Wa 9 0,WE 10 9,W3 11 10,Wa 5 11]
def Mk:La:=[Wa 12 1,WI 13 12,Wh 14 0]
def Mj:La:=[WC 15 .lss 14 13]
def Mi:La:=[on 16 (Ia 1 12 14),Wd 17 16,Wa 7 17]
def Mh:La:=[om 18 7,Wj 19 18,Xm 20 19,Wa 8 20]
def Mg:La:=[Wa 21 5,om 22 8,oo 23 (.bin .shr (.t 22) (.c (.int .u64 24))) [22],WE 24 23,om 25 8,Xr 26 .shr 25,WE 27 26,om 28 8,W9 29 .shr 28,WE 30 29,Wa 31 8,WE 32 31,oo 33 (.litB [.t 24,.t 27,.t 30,.t 32]) [24,27,30,32],WA 34 1 21 33,Wa 5 34]
def Mf:La:=[Wa 35 5,Wa 36 7,WA 37 1 35 36,Wa 5 37]
def Me:La:=[Wb 38 .add 14 1,Wa 14 38]
def y6:RC:=(.post (So Mj (Sq (Xu 15 [12,13,14,15] (.exit 0)) (Sq (Bk 1 (So Mi (So Mh (So Mg (.ops Mf))))) (.ops Me)))) [.tok 5 105])
def Md:RC:=y6
def Bx:La:=[Wa 39 5,Wa 4 39]
def xh2:RC:=(So lQ (So Ml (Sq (So Mk (Bk 0 (.pre [.tok 5 105] (.loop Md)))) (So Bx .ret))))
def Zo:FnC:=⟨xh2,40,[.tmp 4],[],[]⟩
def Ma:La:=[Xl 0]
def L9:La:=[on 1 (.build [.int .u32 0,.int .u32 0,.int .u32 0,.int .u32 0,.int .u32 0,.int .u32 0,.int .u32 0,.int .u32 0,.int .u32 0,.int .u32 0,.int .u32 0,.int .u32 0,.int .u32 0,.int .u32 0,.int .u32 0,.int .u32 0,.int .u32 0,.int .u32 0,.int .u32 0,.int .u32 0,.int .u32 0,.int .u32 0,.int .u32 0,.int .u32 0,.int .u32 0,.int .u32 0,.int .u32 0,.int .u32 0,.int .u32 0,.int .u32 0,.int .u32 0,.int .u32 0,.int .u32 0,.int .u32 0,.int .u32 0,.int .u32 0,.int .u32 0,.int .u32 0,.int .u32 0,.int .u32 0,.int .u32 0,.int .u32 0,.int .u32 0,.int .u32 0,.int .u32 0,.int .u32 0,.int .u32 0,.int .u32 0,.int .u32 0,.int .u32 0,.int .u32 0,.int .u32 0,.int .u32 0,.int .u32 0,.int .u32 0,.int .u32 0,.int .u32 0,.int .u32 0,.int .u32 0,.int .u32 0,.int .u32 0,.int .u32 0,.int .u32 0,.int .u32 0] [(0,1,(.c (.int .u32 1116352408))),(1,1,(.c (.int .u32 1899447441))),(2,1,(.c (.int .u32 3049323471))),(3,1,(.c (.int .u32 3921009573))),(4,1,(.c (.int .u32 961987163))),(5,1,(.c (.int .u32 1508970993))),(6,1,(.c (.int .u32 2453635748))),(7,1,(.c (.int .u32 2870763221))),(8,1,(.c (.int .u32 3624381080))),(9,1,(.c (.int .u32 310598401))),(10,1,(.c (.int .u32 607225278))),(11,1,(.c (.int .u32 1426881987))),(12,1,(.c (.int .u32 1925078388))),(13,1,(.c (.int .u32 2162078206))),(14,1,(.c (.int .u32 2614888103))),(15,1,(.c (.int .u32 3248222580))),(16,1,(.c (.int .u32 3835390401))),(17,1,(.c (.int .u32 4022224774))),(18,1,(.c (.int .u32 264347078))),(19,1,(.c (.int .u32 604807628))),(20,1,(.c (.int .u32 770255983))),(21,1,(.c (.int .u32 1249150122))),(22,1,(.c (.int .u32 1555081692))),(23,1,(.c (.int .u32 1996064986))),(24,1,(.c (.int .u32 2554220882))),(25,1,(.c (.int .u32 2821834349))),(26,1,(.c (.int .u32 2952996808))),(27,1,(.c (.int .u32 3210313671))),(28,1,(.c (.int .u32 3336571891))),(29,1,(.c (.int .u32 3584528711))),(30,1,(.c (.int .u32 113926993))),(31,1,(.c (.int .u32 338241895))),(32,1,(.c (.int .u32 666307205))),(33,1,(.c (.int .u32 773529912))),(34,1,(.c (.int .u32 1294757372))),(35,1,(.c (.int .u32 1396182291))),(36,1,(.c (.int .u32 1695183700))),(37,1,(.c (.int .u32 1986661051))),(38,1,(.c (.int .u32 2177026350))),(39,1,(.c (.int .u32 2456956037))),(40,1,(.c (.int .u32 2730485921))),(41,1,(.c (.int .u32 2820302411))),(42,1,(.c (.int .u32 3259730800))),(43,1,(.c (.int .u32 3345764771))),(44,1,(.c (.int .u32 3516065817))),(45,1,(.c (.int .u32 3600352804))),(46,1,(.c (.int .u32 4094571909))),(47,1,(.c (.int .u32 275423344))),(48,1,(.c (.int .u32 430227734))),(49,1,(.c (.int .u32 506948616))),(50,1,(.c (.int .u32 659060556))),(51,1,(.c (.int .u32 883997877))),(52,1,(.c (.int .u32 958139571))),(53,1,(.c (.int .u32 1322822218))),(54,1,(.c (.int .u32 1537002063))),(55,1,(.c (.int .u32 1747873779))),(56,1,(.c (.int .u32 1955562222))),(57,1,(.c (.int .u32 2024104815))),(58,1,(.c (.int .u32 2227730452))),(59,1,(.c (.int .u32 2361852424))),(60,1,(.c (.int .u32 2428436474))),(61,1,(.c (.int .u32 2756734187))),(62,1,(.c (.int .u32 3204031479))),(63,1,(.c (.int .u32 3329325298)))]),Wx 64 0 1]
def xh1:RC:=(So Ma (So L9 .ret))
def Zn:FnC:=⟨xh1,2,[.cell 0 64 true],[],[]⟩
def L8:La:=[on 6 (.litB []),om 7 0,WA 8 1 6 7,on 9 (.litB [(.c (.u8 128))]),WA 10 1 8 9,Wa 3 10]
def L7:La:=[om 11 3,Wj 12 11,Wb 13 .rem 12 64,Wb 14 .neq 13 56]
def L6:La:=[Wa 15 3,on 16 (.litB [(.c (.u8 0))]),WA 17 1 15 16,Wa 3 17]
def y5:RC:=(.post (Sq (So L7 (Xu 14 [14] (.exit 0))) (Bk 1 (.ops L6))) [.tok 3 103])
def x0:RC:=y5
def L5:La:=[Wa 18 0,Wj 19 18,WO 20 19,W9 21 .mul 20,Wa 4 21]
def L4:La:=[Wh 5 7]
def L3:La:=[om 22 5,Wb 23 .geq 22 0]
def L2:La:=[Wa 26 3,om 27 4,om 28 5,WO 29 28,oo 30 (.bin .mul (.c (.int .u64 8)) (.t 29)) [29],We 31 .shr 27 30,WE 32 31,W3 33 32,WA 34 1 26 33,Wa 3 34]
def L1:La:=[Wa 24 5,Wb 25 .sub 24 1,Wa 5 25]
def sP:RC:=(.post (Sq (So L3 (Xu 23 [4,5,23] (.exit 2))) (Sq (Bk 3 (.ops L2)) (.ops L1))) [.tok 3 103])
def rX:RC:=sP
def Bw:La:=[Wa 35 3,Wa 2 35]
def xh0:RC:=(So lh (So L8 (Sq (Bk 0 (.pre [.tok 3 103] (.loop x0))) (So L5 (Sq (So L4 (Bk 2 (.pre [.tok 3 103] (.loop rX)))) (So Bw .ret))))))
def Zm:FnC:=⟨xh0,36,[.tmp 2],[],[]⟩
def nG:La:=[Xs 4]
def xZ:Lb:=[Wq 0 5,Wq 1 6,Fs 2 7 (.bin .mul (ci 4) (.t 6)),Wo 3 8 1 5 7,Wc 4 9 8,Fs 5 10 (.toInt .u32 (.t 9)),Fs 6 11 (.bin .shl (.t 10) (.c (.int .u64 24))),Fm 7 12 0,Fm 8 13 1,Fs 9 14 (.bin .mul (ci 4) (.t 13)),Wp 10 15 .add 14 1,Wo 11 16 1 12 15,Wc 12 17 16,Fs 13 18 (.toInt .u32 (.t 17)),Fs 14 19 (.bin .shl (.t 18) (.c (.int .u64 16))),Wf 15 20 .or 11 19,Fm 16 21 0,Fm 17 22 1,Fs 18 23 (.bin .mul (ci 4) (.t 22)),Wp 19 24 .add 23 2,Wo 20 25 1 21 24,Wc 21 26 25,Fs 22 27 (.toInt .u32 (.t 26)),Fs 23 28 (.bin .shl (.t 27) (.c (.int .u64 8))),Wf 24 29 .or 20 28,Fm 25 30 0,Fm 26 31 1,Fs 27 32 (.bin .mul (ci 4) (.t 31)),Wp 28 33 .add 32 3,Wo 29 34 1 30 33,Wc 30 35 34,Fs 31 36 (.toInt .u32 (.t 35)),Wf 32 37 .or 29 36,Fm 33 4 37]
def xhZ:RC:=(So nG (Sq (.flt [0,0,2,7,15,31,63,0,0,256,768,1920,3968,8064,16256,32767,0,0,131072,393216,983040,2031616,4128768,8323072,16777215,0,0,67108864,201326592,503316480,1040187392,2113929216,4294967295,8589934591] [] xZ [0,1,5,6,7,8,9,10,11,12,13,14,15,16,17,18,19,20,21,22,23,24,25,26,27,28,29,30,31,32,33,34,35,36,37]) .ret))
def Zl:FnC:=⟨xhZ,38,[.tmp 4],[],[]⟩
def L0:La:=[om 5 0,om 6 1,We 7 .shr 5 6,Wa 8 0,Wa 9 1,Xt 10 .sub 9,We 11 .shl 8 10,We 12 .or 7 11,Wa 4 12]
def xhY:RC:=(So nG (So L0 .ret))
def Zk:FnC:=⟨xhY,13,[.tmp 4],[],[]⟩
def xY:La:=[Xf 3]
def LZ:La:=[om 5 4,om 6 0,Wj 7 6,We 8 .lss 5 7]
def LY:Lb:=[Fm 0 11 3,Fm 1 12 0,Fm 2 13 4,Wo 3 14 1 12 13,Wc 4 15 14,Fs 5 16 (.bin .shr (.t 15) (.c (.int .u64 24))),Xd 6 17 16,Fm 7 18 0,Fm 8 19 4,Wo 9 20 1 18 19,Wc 10 21 20,Fs 11 22 (.bin .shr (.t 21) (.c (.int .u64 16))),Xd 12 23 22,Fm 13 24 0,Fm 14 25 4,Wo 15 26 1 24 25,Wc 16 27 26,Fs 17 28 (.bin .shr (.t 27) (.c (.int .u64 8))),Xd 18 29 28,Fm 19 30 0,Fm 20 31 4,Wo 21 32 1 30 31,Wc 22 33 32,Xd 23 34 33,Fs 24 35 (.litB [.t 17,.t 23,.t 29,.t 34]),Fz 25 36 (.app [.u8 0] 1 (.t 11) (.t 35)),⟨26,false,(xm 3 36)⟩]
def LX:La:=[Wa 9 4,Wb 10 .add 9 1,Wa 4 10]
def yZ:RC:=(.post (Sq (So LZ (Xu 8 [0,4,8] (.exit 0))) (Sq (Bk 1 (.flt [0,0,0,6,14,30,62,0,0,384,896,1920,3968,0,0,24576,57344,122880,253952,0,0,1572864,3670016,7864320,16777214,33554431,67108863] [136] LY [11,12,13,14,15,16,17,18,19,20,21,22,23,24,25,26,27,28,29,30,31,32,33,34,35,36])) (.ops LX))) [.tok 3 103])
def xX:RC:=yZ
def xW:La:=[Wa 37 3,Wa 2 37]
def xhX:RC:=(So lh (So xY (Sq (So lR (Bk 0 (.pre [.tok 3 103] (.loop xX)))) (So xW .ret))))
def Zj:FnC:=⟨xhX,38,[.tmp 2],[],[]⟩
def LW:La:=[Wa 5 0,Wa 6 1,WO 7 6,We 8 .shr 5 7,Wb 9 .and 8 1,Wb 10 .eql 9 1,Wa 4 10]
def xhW:RC:=(So qp (So LW .ret))
def Zi:FnC:=⟨xhW,11,[.tmp 4],[],[]⟩
def LV:La:=[Wa 5 0]
def LU:La:=[WD 7 .eql 5 0,Wa 6 7]
def LS:La:=[Wa 8 1,Wm 9 144 8,Wa 4 9]
def LR:La:=[Wb 11 .eql 5 1,Wa 10 11]
def LQ:La:=[Wa 12 1,Wm 13 65 12,Wa 4 13]
def xhV:RC:=(So lQ (Sq (So LV (Bk 0 (So LU (Kc 6 (Kk [5,6] (So LS .ret)) (Kk [6] (So LR (Kc 10 (Kk [10] (So LQ .ret)) (Kk [1,10] .skip)))))))) (So kt .ret)))
def Zh:FnC:=⟨xhV,14,[.tmp 4],[],[]⟩
def LP:La:=[on 0 (.new (.arr 1 (ao 5 [.str []])))]
def LO:La:=[on 1 (.build [.str [],.str [],.str [],.str [],.str []] [(0,1,(.c (.str [97]))),(1,1,(.c (.str [103,114,117,98]))),(2,1,(.c (.str [108,105,110,117,120]))),(3,1,(.c (.str [110,101,116,45,48]))),(4,1,(.c (.str [116,119,101,108,118,101,45,98,121,116,101,115])))]),Wx 5 0 1]
def xhU:RC:=(So LP (So LO .ret))
def Zg:FnC:=⟨xhU,2,[.cell 0 5 true],[],[]⟩
def LN:La:=[om 5 0,Wt 6 71 5 4,WQ 7 .add 1 6,Wa 4 7]
def LM:La:=[om 8 4,Wb 9 .gtr 8 0]
def LL:La:=[Wa 12 3,om 13 0,Wm 14 73 13,WA 15 1 12 14,on 16 (.litB [(.c (.u8 10))]),WA 17 1 15 16,Wa 3 17]
def LK:La:=[Wa 10 4,Wb 11 .sub 10 1,Wa 4 11]
def yY:RC:=(.post (Sq (So LM (Xu 9 [0,4,9] (.exit 0))) (Sq (Bk 1 (.ops LL)) (.ops LK))) [.gc [115],.tok 3 103])
def xV:RC:=yY
def LJ:La:=[Wa 18 3,Wa 2 18]
def xhT:RC:=(So lh (So xY (Sq (So LN (Bk 0 (.pre [.tok 3 103] (.loop xV)))) (So LJ .ret))))
def Zf:FnC:=⟨xhT,19,[.tmp 2],[],[]⟩
def LI:La:=[Wa 3 0,Wt 4 145 3 10,Wa 2 4]
def xhS:RC:=(So DF (So LI .ret))
def Ze:FnC:=⟨xhS,5,[.tmp 2],[],[]⟩
def pY:La:=[oo 4 (.mov (.c (.str []))) [4]]
def LH:La:=[om 7 0,oo 8 (.bin .eql (.t 7) (.c (.str []))) [7],Wa 9 8,.grp 9 false [(xi 10 9 false (Mv 1)),(xi 11 9 false (.bin .eql (.t 10) (.c (.str []))))] [10],Wn 12 9 11]
def LG:La:=[Wa 13 0,Wa 4 13]
def LF:La:=[om 14 1,WH 15 true 14,Wb 16 .eql 15 1,Wa 17 16,.grp 17 true [(xi 18 17 true (Mv 1)),(xi 19 17 true (.idxS (.t 18) (ci 0))),(xi 20 17 true (.bin .lss (.t 19) (.c (.u8 128))))] [18,19],Wu 21 17 20]
def LD:Lb:=[Wq 0 22,Wq 1 23,Fs 2 24 (.idxS (.t 23) (ci 0)),Fm 4 26 1,Fs 5 27 (.idxS (.t 26) (ci 0)),WJ 3 25 147 22 24,WJ 6 28 146 25 27,Fm 7 4 28]
def LC:La:=[om 30 1,Wm 31 148 30,Wa 29 31,WL 32 29 0,WM 33 29 1,on 5 (.new (.arr 1 (ao 256 [.bool false]))),Wx 256 5 32,Wa 6 33]
def LA:La:=[Wa 34 6]
def Lz:La:=[Wa 35 0,oo 36 (Ca 150 [.t 35,.t 5]) [35],oo 37 (Ca 149 [.t 36,.t 5]) [5,36],Wa 4 37]
def Ly:La:=[Wa 38 0,om 39 1,Ww 40 152 38 39,Wa 41 1,Ww 42 151 40 41,Wa 4 42]
def xhR:RC:=(So pY (Sq (So LH (Xv 12 [1,12] (So LG .ret))) (Sq (So LF (Xv 21 [21] (Sq (.flt [0,0,2,7,0,16,63,127] [] LD [0,1,22,23,24,25,26,27,28]) .ret))) (Sq (So LC (So LA (Kc 34 (Kk [1,34] (So Lz .ret)) (Kk [5,34] .skip)))) (So Ly .ret)))))
def Zd:FnC:=⟨xhR,43,[.tmp 4],[],[]⟩
def Lx:La:=[om 6 0,om 7 1,Ww 8 153 6 7,WT 9 8]
def Lw:La:=[Wa 10 0,Wa 4 10,on 5 (Mb false)]
def Lv:La:=[Wa 11 0,Wa 12 1,WH 13 true 12,oo 14 (.slcS (.t 11) (some (.t 13)) none) [11,13],Wa 4 14,on 5 (Mb true)]
def xhQ:RC:=(So Nt (Sq (So Lx (Xv 9 [1,9] (So Lw .ret))) (So Lv .ret)))
def Zc:FnC:=⟨xhQ,15,[.tmp 4,.tmp 5],[],[]⟩
def xU:La:=[oo 2 (Mc 0) [2],oo 3 (.mov (.c .nili)) [3]]
def Lu:La:=[om 7 0,Wm 8 154 7,Wa 6 8,WL 9 6 0,WM 10 6 1,Wa 4 9,Wa 5 10]
def Ls:La:=[om 11 5,oo 12 (.isni true (.t 11)) [11]]
def Lr:La:=[Wa 13 4,Wa 14 0,Wa 15 5,oo 16 (Ca 155 [(.c (.str [65,116,111,105])),.t 14,ci 0,ci 0,.t 15]) [14,15],Wa 2 13,Wa 3 16]
def Lq:La:=[Wa 17 4,Wa 2 17,on 3 (.mov (.c .nili))]
def xhP:RC:=(So xU (So Lu (Sq (So Ls (Kc 12 (Kk [12] (So Lr .ret)) (Kk [0,5,12] .skip))) (So Lq .ret))))
def Zb:FnC:=⟨xhP,18,[.tmp 2,.tmp 3],[],[]⟩
def Lp:La:=[om 6 0,Wj 7 6,Wb 8 .add 7 72,oo 9 (.mkB (ci 0) (.t 8)) [8],om 10 0,.dir (.tok 9 109),WA 11 1 9 10,on 12 (.litB [(.c (.u8 128))]),WA 13 1 11 12,Wa 3 13]
def Lo:La:=[om 14 3,Wj 15 14,Wb 16 .rem 15 64,Wb 17 .neq 16 56]
def Lm:La:=[Wa 18 3,on 19 (.litB [(.c (.u8 0))]),WA 20 1 18 19,Wa 3 20]
def yX:RC:=(.post (Sq (So Lo (Xu 17 [17] (.exit 0))) (Bk 1 (.ops Lm))) [.tok 3 103])
def xT:RC:=yX
def Ll:La:=[Wa 21 0,Wj 22 21,WO 23 22,W9 24 .mul 23,Wa 4 24]
def Lk:La:=[Wh 5 56]
def Lj:La:=[om 25 5,Wb 26 .geq 25 0]
def Li:La:=[Wa 29 3,om 30 4,om 31 5,WO 32 31,We 33 .shr 30 32,WE 34 33,W3 35 34,WA 36 1 29 35,Wa 3 36]
def Lh:La:=[Wa 27 5,Wb 28 .sub 27 8,Wa 5 28]
def sO:RC:=(.post (Sq (So Lj (Xu 26 [4,5,26] (.exit 2))) (Sq (Bk 3 (.ops Li)) (.ops Lh))) [.tok 3 103])
def rW:RC:=sO
def xhO:RC:=(So lh (So Lp (Sq (Bk 0 (.pre [.tok 3 103] (.loop xT))) (So Ll (Sq (So Lk (Bk 2 (.pre [.tok 3 103] (.loop rW)))) (So xW .ret))))))
def Za:FnC:=⟨xhO,38,[.tmp 2],[],[]⟩
def Lg:La:=[on 4 (.new (.arr 1 (ao 80 [.int .u32 0])))]
def Lf:La:=[WD 15 .lss 14 80]
def Le:La:=[om 16 14,Wa 5 16]
def Lc:La:=[om 17 5,Wb 18 .lss 17 16]
def K9:La:=[om 19 5,om 20 1,Wa 21 5,Ww 22 156 20 21,oo 23 (.iaddrA 80 1 (.t 4) (.t 19)) [19],Ws 1 23 22]
def K8:Lb:=[Fm 0 24 5,Fm 1 25 5,Wp 2 26 .sub 25 3,WS 3 27 4 26,Wc 4 28 27,Wq 5 29,Wp 6 30 .sub 29 8,WS 7 31 4 30,Wc 8 32 31,Wf 9 33 .xor 28 32,Fm 10 34 5,Wp 11 35 .sub 34 14,WS 12 36 4 35,Wc 13 37 36,Wf 14 38 .xor 33 37,Fm 15 39 5,Wp 16 40 .sub 39 16,WS 17 41 4 40,Wc 18 42 41,Wf 19 43 .xor 38 42,WR 20 44 157 43 1,WS 21 45 4 24,Fr 22 1 45 44]
def K7:La:=[Wb 46 .add 14 1,Wa 14 46]
def yW:RC:=(So Lf (Sq (Xu 15 [1,14,15] (.exit 0)) (Sq (Bk 1 (So Le (So Lc (Kc 18 (Kk [18] (.ops K9)) (Kk [18] (.flt [0,0,2,6,14,0,32,96,224,510,0,1024,3072,7168,16382,0,32768,98304,229376,524286,1048574,2097151,4194303] [] K8 [5,24,25,26,27,28,29,30,31,32,33,34,35,36,37,38,39,40,41,42,43,44,45])))))) (.ops K7))))
def xS:RC:=yW
def K6:Lb:=[Wq 0 47,WB 1 48 47,WK 2 49 48 0,Wc 3 50 49,Fm 4 51 0,WB 5 52 51,WK 6 53 52 1,Wc 7 54 53,Fm 8 55 0,WB 9 56 55,WK 10 57 56 2,Wc 11 58 57,Fm 12 59 0,WB 13 60 59,WK 14 61 60 3,Wc 15 62 61,Fm 16 63 0,WB 17 64 63,WK 18 65 64 4,Wc 19 66 65,Fm 20 6 50,Fm 21 7 54,Fm 22 8 58,Fm 23 9 62,Fm 24 10 66]
def Bv:La:=[Wh 67 0]
def Bu:La:=[WD 68 .lss 67 80]
def Bt:La:=[om 69 67,Wa 11 69]
def Bs:La:=[Xs 12,Xs 13]
def Br:La:=[om 70 11,Wb 71 .quo 70 20]
def Bq:La:=[WD 78 .eql 71 0,Wa 77 78]
def Bp:La:=[om 79 7,om 80 8,We 81 .and 79 80,om 82 7,oo 83 (.un .xor (.t 82)) [82],om 84 9,We 85 .and 83 84,We 86 .xor 81 85,Wa 12 86,on 13 (.mov (.c (.int .u32 1518500249)))]
def Bo:La:=[WD 88 .eql 71 1,Wa 87 88]
def Bn:La:=[om 89 7,om 90 8,We 91 .xor 89 90,om 92 9,We 93 .xor 91 92,Wa 12 93,on 13 (.mov (.c (.int .u32 1859775393)))]
def Bm:La:=[Wb 95 .eql 71 2,Wa 94 95]
def Bl:La:=[om 96 7,om 97 8,We 98 .and 96 97,om 99 7,om 100 9,We 101 .and 99 100,We 102 .xor 98 101,om 103 8,om 104 9,We 105 .and 103 104,We 106 .xor 102 105,Wa 12 106,on 13 (.mov (.c (.int .u32 2400959708)))]
def Bj:La:=[om 72 7,om 73 8,We 74 .xor 72 73,om 75 9,We 76 .xor 74 75,Wa 12 76,on 13 (.mov (.c (.int .u32 3395469782)))]
def Bi:Lb:=[Fm 0 107 6,Fm 2 109 12,Fm 4 111 10,Fm 6 113 13,Fm 8 115 11,WS 9 116 4 115,Wc 10 117 116,Fm 12 119 6,Fm 13 120 7,Fm 15 122 8,Fm 16 123 9,WR 1 108 157 107 5,Wf 3 110 .add 108 109,Wf 5 112 .add 110 111,Wf 7 114 .add 112 113,Wf 11 118 .add 114 117,WR 14 121 157 120 30,⟨17,false,(xm 6 118)⟩,⟨18,false,(xm 7 119)⟩,⟨19,false,(xm 8 121)⟩,⟨20,false,(xm 9 122)⟩,⟨21,false,(xm 10 123)⟩]
def Bh:La:=[Wb 124 .add 67 1,Wa 67 124]
def sN:RC:=(So Bu (Sq (Xu 68 [4,67,68] (.exit 2)) (Sq (Bk 3 (So Bt (So Bs (Sq (So Br (Bk 4 (So Bq (Kc 77 (Kk [71,77] (.ops Bp)) (Kk [77] (So Bo (Kc 87 (Kk [71,87] (.ops Bn)) (Kk [87] (So Bm (Kc 94 (Kk [94] (.ops Bl)) (Kk [94] (.ops Bj)))))))))))) (.flt [0,1,0,7,0,31,0,127,0,256,768,2047,0,0,8195,0,0,131071,262143,524287,1048575,2097151] [] Bi [11,12,13,107,108,109,110,111,112,113,114,115,116,117,118,119,120,121,122,123]))))) (.ops Bh))))
def fK:RC:=sN
def Bg:Lb:=[Wq 0 125,WB 1 126 125,WK 2 127 126 0,Wc 3 128 127,Fm 4 129 6,Wf 5 130 .add 128 129,WB 6 131 125,WK 7 132 131 0,Fr 8 1 132 130]
def Bf:Lb:=[Wq 0 133,WB 1 134 133,WK 2 135 134 1,Wc 3 136 135,Fm 4 137 7,Wf 5 138 .add 136 137,WB 6 139 133,WK 7 140 139 1,Fr 8 1 140 138]
def Be:Lb:=[Wq 0 141,WB 1 142 141,WK 2 143 142 2,Wc 3 144 143,Fm 4 145 8,Wf 5 146 .add 144 145,WB 6 147 141,WK 7 148 147 2,Fr 8 1 148 146]
def Bd:Lb:=[Wq 0 149,WB 1 150 149,WK 2 151 150 3,Wc 3 152 151,Fm 4 153 9,Wf 5 154 .add 152 153,WB 6 155 149,WK 7 156 155 3,Fr 8 1 156 154]
def Ba:Lb:=[Wq 0 157,WB 1 158 157,WK 2 159 158 4,Wc 3 160 159,Fm 4 161 10,Wf 5 162 .add 160 161,WB 6 163 157,WK 7 164 163 4,Fr 8 1 164 162]
def xhN:RC:=(So Lg (Sq (So Nq (Bk 0 (.loop xS))) (Sq (.flt [0,1,3,7,0,16,48,112,0,256,768,1792,0,4096,12288,28672,0,65536,196608,458752,15,1048831,3149823,7405567,16777215] [] K6 [47,48,49,50,51,52,53,54,55,56,57,58,59,60,61,62,63,64,65,66]) (Sq (So Bv (Bk 2 (.loop fK))) (Sq (.flt [0,1,3,7,0,31,1,127,255] [] Bg [6,125,126,127,128,129,130,131,132]) (Sq (.flt [0,1,3,7,0,31,1,127,255] [] Bf [7,133,134,135,136,137,138,139,140]) (Sq (.flt [0,1,3,7,0,31,1,127,255] [] Be [8,141,142,143,144,145,146,147,148]) (Sq (.flt [0,1,3,7,0,31,1,127,255] [] Bd [9,149,150,151,152,153,154,155,156]) (.flt [0,1,3,7,0,31,1,127,255] [] Ba [0,10,157,158,159,160,161,162,163,164])))))))))
def Y9:FnC:=⟨xhN,165,[],[],[]⟩
def K5:La:=[om 6 0,Wj 7 6,WQ 8 .mul 4 7,oo 9 (.mkB (ci 0) (.t 8)) [8],Wa 3 9]
def K4:La:=[Wa 10 0,WI 11 10,Wh 12 0]
def K3:La:=[WC 13 .lss 12 11]
def K2:La:=[on 14 (Ia 1 10 12),Wd 15 14,Wa 5 15]
def K1:La:=[Wa 16 3,om 17 5,oo 18 (.bin .shr (.t 17) (.c (.int .u64 24))) [17],WE 19 18,om 20 5,Xr 21 .shr 20,WE 22 21,om 23 5,W9 24 .shr 23,WE 25 24,Wa 26 5,WE 27 26,oo 28 (.litB [.t 19,.t 22,.t 25,.t 27]) [19,22,25,27],.dir (.tok 16 116),WA 29 1 16 28,Wa 3 29]
def K0:La:=[Wb 30 .add 12 1,Wa 12 30]
def yV:RC:=(.post (So K3 (Sq (Xu 13 [10,11,12,13] (.exit 0)) (Sq (Bk 1 (So K2 (.ops K1))) (.ops K0)))) [.tok 3 103])
def xR:RC:=yV
def KZ:La:=[Wa 31 3,Wa 2 31]
def xhM:RC:=(So lh (So K5 (Sq (So K4 (Bk 0 (.pre [.tok 3 103] (.loop xR)))) (So KZ .ret))))
def Y8:FnC:=⟨xhM,32,[.tmp 2],[],[]⟩
def KY:La:=[Xl 4]
def KX:La:=[WD 18 .lss 17 64]
def KW:La:=[om 19 17,Wa 5 19]
def KV:La:=[om 20 5,Wb 21 .lss 20 16]
def KU:La:=[om 22 5,om 23 1,Wa 24 5,Ww 25 156 23 24,oo 26 (.iaddrA 64 1 (.t 4) (.t 22)) [22],Ws 1 26 25]
def KT:Lb:=[Fm 0 27 5,Wp 1 28 .sub 27 15,WG 2 29 4 28,Wc 3 30 29,Fm 4 31 5,Wp 5 32 .sub 31 2,WG 6 33 4 32,Wc 7 34 33,Fm 8 6 30,Fm 9 7 34]
def KS:La:=[om 35 6,Wt 36 157 35 (-7),om 37 6,Wt 38 157 37 (-18),We 39 .xor 36 38,Wa 40 6,oo 41 (.bin .shr (.t 40) (.c (.int .u64 3))) [40],We 42 .xor 39 41,Wa 8 42]
def KR:La:=[om 43 7,Wt 44 157 43 (-17),om 45 7,Wt 46 157 45 (-19),We 47 .xor 44 46,Wa 48 7,oo 49 (.bin .shr (.t 48) (.c (.int .u64 10))) [48],We 50 .xor 47 49,Wa 9 50]
def KQ:Lb:=[Fm 0 51 5,Fm 1 52 9,Fm 2 53 5,Wp 3 54 .sub 53 7,WG 4 55 4 54,Wc 5 56 55,Wf 6 57 .add 52 56,Fm 7 58 8,Wf 8 59 .add 57 58,Fm 9 60 5,Wp 10 61 .sub 60 16,WG 11 62 4 61,Wc 12 63 62,Wf 13 64 .add 59 63,WG 14 65 4 51,Fr 15 1 65 64]
def A9:La:=[Wb 66 .add 17 1,Wa 17 66]
def sM:RC:=(So KX (Sq (Xu 18 [1,17,18] (.exit 0)) (Sq (Bk 1 (So KW (Sq (So KV (Xv 21 [21] (So KU (.exit 1)))) (Sq (.flt [0,1,3,7,0,16,48,112,15,511] [] KT [27,28,29,30,31,32,33,34]) (So KS (So KR (.flt [0,0,0,4,12,28,62,0,254,0,512,1536,3584,8190,16383,32767] [] KQ [5,8,9,51,52,53,54,55,56,57,58,59,60,61,62,63,64,65]))))))) (.ops A9))))
def rV:RC:=sM
def A8:La:=[om 67 0,WF 68 67,Wz 69 8 68,on 10 (.new (.arr 1 (ao 8 [.int .u32 0]))),Wx 8 10 69]
def A7:La:=[Wh 70 0]
def A6:La:=[WD 71 .lss 70 64]
def A5:La:=[om 72 70,Wa 11 72]
def A4:Lb:=[W0 0 73 10 0,Wc 1 74 73,W0 2 75 10 4,Wc 3 76 75,Fm 4 12 74,Fm 5 13 76]
def A3:Lb:=[W0 0 77 10 7,Wc 1 78 77,Fm 2 79 13,Fm 4 81 13,Fm 7 84 13,Fm 11 88 13,W0 12 89 10 5,Wc 13 90 89,Wf 14 91 .and 88 90,Fm 15 92 13,Fs 16 93 (.un .xor (.t 92)),W0 17 94 10 6,Wc 18 95 94,Wf 19 96 .and 93 95,Wf 20 97 .xor 91 96,Fm 22 99 11,Fs 23 100 (.iaddrA 64 1 (.c (.pp iJ)) (.t 99)),Wc 24 101 100,Fm 26 103 11,WG 27 104 4 103,Wc 28 105 104,WR 3 80 157 79 (-6),WR 5 82 157 81 (-11),Wf 6 83 .xor 80 82,WR 8 85 157 84 (-25),Wf 9 86 .xor 83 85,Wf 10 87 .add 78 86,Wf 21 98 .add 87 97,Wf 25 102 .add 98 101,Wf 29 106 .add 102 105,Fm 30 14 106]
def A1:Lb:=[Fm 0 107 12,Fm 2 109 12,Fm 5 112 12,Fm 8 115 12,W0 9 116 10 1,Wc 10 117 116,Wf 11 118 .and 115 117,Wq 12 119,W0 13 120 10 2,Wc 14 121 120,Wf 15 122 .and 119 121,Wf 16 123 .xor 118 122,W0 17 124 10 1,Wc 18 125 124,W0 19 126 10 2,Wc 20 127 126,Wf 21 128 .and 125 127,Wf 22 129 .xor 123 128,WR 1 108 157 107 (-2),WR 3 110 157 109 (-13),Wf 4 111 .xor 108 110,WR 6 113 157 112 (-22),Wf 7 114 .xor 111 113,Wf 23 130 .add 114 129,Fm 24 15 130]
def AZ:La:=[om 131 14,Wa 132 15,We 133 .add 131 132,W5 134 10 0,Wd 135 134,W5 136 10 1,Wd 137 136,W5 138 10 2,Wd 139 138,W5 140 10 3,Wd 141 140,Wa 142 14,We 143 .add 141 142,W5 144 10 4,Wd 145 144,W5 146 10 5,Wd 147 146,W5 148 10 6,Wd 149 148,oo 150 (.build [.int .u32 0,.int .u32 0,.int .u32 0,.int .u32 0,.int .u32 0,.int .u32 0,.int .u32 0,.int .u32 0] [(0,1,(.t 133)),(1,1,(.t 135)),(2,1,(.t 137)),(3,1,(.t 139)),(4,1,(.t 143)),(5,1,(.t 145)),(6,1,(.t 147)),(7,1,(.t 149))]) [133,135,137,139,143,145,147,149],Wx 8 10 150]
def AY:La:=[Wb 151 .add 70 1,Wa 70 151]
def sL:RC:=(So A6 (Sq (Xu 71 [4,70,71] (.exit 2)) (Sq (Bk 3 (So A5 (Sq (.flt [0,1,0,4,3,31] [] A4 [73,74,75,76]) (Sq (.flt [0,1,0,4,0,28,60,0,188,508,1023,0,0,4096,14336,0,32768,0,131072,491520,1046528,2097151,0,4194304,12582912,33554431,0,67108864,201326592,536870911,1073741823] [] A3 [11,13,77,78,79,80,81,82,83,84,85,86,87,88,89,90,91,92,93,94,95,96,97,98,99,100,101,102,103,104,105,106]) (Sq (.flt [0,1,0,7,15,0,47,127,0,0,512,1792,0,0,8192,28672,65280,0,131072,0,524288,1966080,4194048,8388607,16777215] [] A1 [12,107,108,109,110,111,112,113,114,115,116,117,118,119,120,121,122,123,124,125,126,127,128,129,130]) (.ops AZ)))))) (.ops AY))))
def rU:RC:=sL
def AX:La:=[Wh 152 0]
def AW:La:=[WD 153 .lss 152 8]
def AV:La:=[om 154 152,Wa 16 154]
def AU:Lb:=[Wq 0 155,Fm 1 156 16,WB 2 157 155,Fs 3 158 (.iaddrA 8 1 (.t 157) (.t 156)),Wc 4 159 158,Fm 5 160 16,Fs 6 161 (.iaddrA 8 1 (.t 10) (.t 160)),Wc 7 162 161,Wf 8 163 .add 159 162,WB 9 164 155,Fs 10 165 (.iaddrA 8 1 (.t 164) (.t 156)),Fr 11 1 165 163]
def AT:La:=[Wb 166 .add 152 1,Wa 152 166]
def sK:RC:=(So AW (Sq (Xu 153 [0,10,152,153] (.exit 4)) (Sq (Bk 5 (So AV (.flt [0,0,1,7,15,0,32,96,255,1,1023,2047] [] AU [16,155,156,157,158,159,160,161,162,163,164,165]))) (.ops AT))))
def rT:RC:=sK
def xhL:RC:=(So KY (Sq (So xz (Bk 0 (.loop rV))) (So A8 (Sq (So A7 (Bk 2 (.loop rU))) (So AX (Bk 4 (.loop rT)))))))
def Y7:FnC:=⟨xhL,167,[],[],[]⟩
def KP:La:=[on 10 (Mb true)]
def KO:La:=[on 11 (Mb true)]
def KN:La:=[om 21 2,om 22 1,We 23 .sub 21 22,Wa 12 23]
def KM:La:=[om 24 12,Wb 25 .leq 24 12]
def KL:La:=[Wa 26 0,Wa 27 1,Wa 28 2,Wa 29 4,Xn 30 158 26 27 28 29]
def KK:La:=[om 31 3,Wb 32 .eql 31 0]
def KJ:La:=[Wa 33 0,Wa 34 1,Wa 35 2,Wa 36 4,Xn 37 159 33 34 35 36]
def KI:La:=[om 38 10,WT 39 38]
def KH:La:=[om 40 0,om 41 1,om 42 2,om 43 4,Xn 44 160 40 41 42 43]
def KG:La:=[Wa 45 3,Wb 46 .sub 45 1,Wa 3 46]
def AS:La:=[om 48 0,om 49 1,om 50 2,om 51 4,oo 52 (Ca 161 [.t 48,.t 49,.t 50,.t 51]) [48,49,50,51],Wa 47 52,WL 53 47 0,WM 54 47 1,Wa 13 53,Wa 14 54]
def AR:La:=[om 55 14,Wb 56 .eql 55 2]
def AQ:La:=[om 57 0,om 58 1,om 59 2,om 60 4,Xn 61 162 57 58 59 60]
def AP:La:=[om 62 2,Wb 63 .sub 62 1,Wa 64 13,om 65 1,We 66 .sub 64 65,We 67 .sub 63 66,Wa 13 67]
def AO:La:=[Wh 14 1]
def AN:La:=[om 68 10,Wa 69 68,.grp 69 true [(xi 70 69 true (Mv 11))] [],Wu 71 69 70,Wa 72 71,.grp 72 true [(xi 73 72 true (Mv 14)),(xi 74 72 true (Bc .eql 73 1))] [14,73],Wu 75 72 74]
def AM:La:=[om 76 0,om 77 1,om 78 2,om 79 4,oo 80 (Ca 163 [.t 76,.t 77,.t 78,.t 79]) [76,77,78,79]]
def AL:Lb:=[Fm 0 81 1,Wp 1 82 .gtr 81 0,Fm 2 83 82,Wv 3 84 83 true 4,Wv 4 85 83 true 0,Wv 5 86 83 true 1,Fi 6 87 83 true (Bc .sub 86 1),Fi 7 88 83 true (Ia 4 85 87),Fi 8 89 83 true (Lt 4 88),Wv 9 90 83 true 0,Wv 10 91 83 true 13,Fi 11 92 83 true (Ia 4 90 91),Fi 12 93 83 true (Lt 4 92),Fy 13 94 83 true (.call (.t 84) [.t 89,.t 93]),Fi 14 95 83 true (Bc .lss 94 0),Fi 15 96 83 true (.un .not (.t 95)),Fs 16 97 (Pf 83 96)]
def AK:La:=[om 98 0,Wa 99 1,om 100 2,Wa 101 13,om 102 4,oo 103 (Ca 164 [.t 98,.t 99,.t 100,.t 101,.t 102]) [98,99,100,101,102],Wa 15 103]
def AJ:La:=[Wa 104 15,Wa 1 104]
def AI:La:=[om 106 0,om 107 1,om 108 2,Wa 109 13,om 110 4,oo 111 (Ca 165 [.t 106,.t 107,.t 108,.t 109,.t 110]) [106,107,108,109,110],Wa 105 111,WL 112 105 0,WM 113 105 1,Wa 16 112,Wa 17 113]
def AH:La:=[Wa 114 17,Wa 11 114]
def AG:La:=[om 115 16,om 116 1,We 117 .sub 115 116,om 118 2,om 119 16,We 120 .sub 118 119,Wa 18 117,Wa 19 120]
def AF:La:=[Wa 121 12,Wb 122 .quo 121 8,Wa 20 122]
def AE:La:=[om 123 18,om 124 19,We 125 .lss 123 124]
def AD:La:=[Wa 126 18,Wa 127 20,We 128 .geq 126 127,Wa 10 128]
def AC:La:=[om 129 0,Wa 130 1,om 131 16,om 132 3,om 133 4,oo 134 (Ca 135 [.t 129,.t 130,.t 131,.t 132,.t 133]) [129,130,131,132,133,134]]
def AB:La:=[Wa 135 16,Wb 136 .add 135 1,Wa 1 136]
def AA:La:=[Wa 137 19,Wa 138 20,We 139 .geq 137 138,Wa 10 139]
def Az:La:=[om 140 0,om 141 16,Wb 142 .add 141 1,Wa 143 2,om 144 3,om 145 4,oo 146 (Ca 135 [.t 140,.t 142,.t 143,.t 144,.t 145]) [140,142,143,144,145,146]]
def Ay:La:=[Wa 147 16,Wa 2 147]
def sJ:RC:=(Bk 1 (So KN (Sq (So KM (Xv 25 [3,10,11,12,25] (So KL .ret))) (Sq (So KK (Xv 32 [3,10,11,12,32] (So KJ .ret))) (Sq (So KI (Xv 39 [39] (So KH (.ops KG)))) (So AS (Sq (So AR (Xv 56 [14,56] (So AQ (So AP (.ops AO))))) (Sq (So AN (Xv 75 [75] (So AM (Xv 80 [0,1,2,3,4,10,11,12,13,80] .ret)))) (Sq (Sq (.flt [0,1,3,7,7,7,39,119,247,7,7,1543,3591,8191,16383,32767,65535] [] AL [81,82,83,84,85,86,87,88,89,90,91,92,93,94,95,96]) (Kc 97 (Kk [12,97] (So AK (So AJ (.exit 1)))) (Kk [10,11,97] .skip))) (So AI (So AH (So AG (So AF (So AE (Kc 125 (Kk [19,125] (So AD (So AC (.ops AB)))) (Kk [18,125] (So AA (So Az (.ops Ay)))))))))))))))))))
def Ax:RC:=sJ
def xhK:RC:=(So KP (So KO (Bk 0 (.loop Ax))))
def Y6:FnC:=⟨xhK,148,[],[],[]⟩
def KF:La:=[Wa 3 0,Xm 4 3,Wm 5 166 4,Wa 2 5]
def KE:La:=[Wa 6 0,Wm 7 167 6,Wa 2 7]
def xhJ:RC:=(So jc (Sq (.cond (.c (.bool false)) (So KF .ret) .skip) (So KE .ret)))
def Y5:FnC:=⟨xhJ,8,[.tmp 2],[],[]⟩
def KD:La:=[Wz 9 4 2,Wm 10 91 9,Wa 6 10]
def KC:La:=[om 11 5,Wj 12 11,Wh 13 0]
def KB:La:=[WC 14 .lss 13 12]
def KA:La:=[om 15 13,Wa 7 15]
def Kz:La:=[om 16 6,Wj 17 16,Wb 18 .gtr 17 0,Wa 19 18,.grp 19 true [(xi 20 19 true (Mv 1)),(xi 21 19 true (Mv 7)),(xi 22 19 true (Bb .shr 20 21)),(xi 23 19 true (Bc .and 22 1)),(xi 24 19 true (Bc .eql 23 1))] [20,21,22,23],Wu 25 19 24]
def Ky:La:=[om 26 5,om 27 7,Wa 28 7,om 29 6,Ww 30 90 28 29,WW 31 1 26 27,Ws 1 31 30]
def Kx:La:=[Wb 32 .add 13 1,Wa 13 32]
def yU:RC:=(So KB (Sq (Xu 14 [1,6,12,13,14] (.exit 0)) (Sq (Bk 1 (So KA (So Kz (Kc 25 (Kk [25] (.ops Ky)) (Kk [7,25] .skip))))) (.ops Kx))))
def Kw:RC:=yU
def Aw:La:=[Wa 33 5,Wa 4 33]
def xhI:RC:=(So x9 (So x8 (So KD (Sq (So KC (Bk 0 (.loop Kw))) (So Aw .ret)))))
def Y4:FnC:=⟨xhI,34,[.tmp 4],[],[]⟩
def Kv:La:=[Wa 5 0,WI 6 5,Wh 7 0]
def Ku:La:=[WC 8 .lss 7 6]
def Kt:La:=[on 9 (Ia 1 5 7),Wd 10 9,Wa 4 10]
def Ks:La:=[om 11 4,Xj 12 .lss 11,Wa 13 12,.grp 13 false [(xi 14 13 false (Mv 4)),(xi 15 13 false (.bin .gtr (.t 14) (.c (.u8 126))))] [4,14],Wn 16 13 15]
def Kr:La:=[Wb 17 .add 7 1,Wa 7 17]
def yT:RC:=(So Ku (Sq (Xu 8 [5,6,7,8] (.exit 0)) (Sq (Bk 1 (So Kt (So Ks (Xv 16 [5,6,7,16] (So nm .ret))))) (.ops Kr))))
def xQ:RC:=yT
def xhH:RC:=(So vU (Sq (So Kv (Bk 0 (.loop xQ))) (So pS .ret)))
def Y3:FnC:=⟨xhH,18,[.tmp 2],[],[]⟩
def Kd:La:=[om 3 0,oo 4 (.isnil false (.t 3)) [3]]
def Kb:La:=[on 5 (.litB []),Wa 6 0,WA 7 1 5 6,Wa 2 7]
def xhG:RC:=(So lh (Sq (So Kd (Xv 4 [0,4] (So th .ret))) (So Kb .ret)))
def Y2:FnC:=⟨xhG,8,[.tmp 2],[],[]⟩
def Ka:La:=[om 3 0,Wa 4 0,We 5 .neq 3 4,Wa 2 5]
def xhF:RC:=(So vU (So Ka .ret))
def Y1:FnC:=⟨xhF,6,[.tmp 2],[],[]⟩
def J9:La:=[on 17 (.lit 1 [(.c (.int .u32 1732584193)),(.c (.int .u32 4023233417)),(.c (.int .u32 2562383102)),(.c (.int .u32 271733878)),(.c (.int .u32 3285377520))]),Wa 3 17]
def J8:La:=[Wa 18 0,Wm 19 116 18,Wa 4 19]
def J7:La:=[om 20 5,om 21 4,Wj 22 21,We 23 .lss 20 22]
def J6:La:=[on 6 (.new (.arr 1 (ao 80 [.int .u32 0])))]
def J5:La:=[om 26 7,Wb 27 .lss 26 80]
def J4:La:=[om 30 7,Wb 31 .lss 30 16]
def J3:La:=[om 32 7,om 33 4,om 34 5,om 35 5,Wb 36 .add 35 64,Xp 37 1 33 34 36,om 38 7,Ww 39 117 37 38,oo 40 (.iaddrA 80 1 (.t 6) (.t 32)) [32],Ws 1 40 39]
def Av:Lb:=[Fm 0 41 7,Fm 1 42 7,Wp 2 43 .sub 42 3,WS 3 44 6 43,Wc 4 45 44,Fm 5 46 7,Wp 6 47 .sub 46 8,WS 7 48 6 47,Wc 8 49 48,Wf 9 50 .xor 45 49,Fm 10 51 7,Wp 11 52 .sub 51 14,WS 12 53 6 52,Wc 13 54 53,Wf 14 55 .xor 50 54,Fm 15 56 7,Wp 16 57 .sub 56 16,WS 17 58 6 57,Wc 18 59 58,Wf 19 60 .xor 55 59,Fz 20 61 (Ca 170 [.t 60,(.c (.int .u64 1))]),WS 21 62 6 41,Fr 22 1 62 61]
def Au:La:=[Wa 28 7,Wb 29 .add 28 1,Wa 7 29]
def sI:RC:=(Sq (So J5 (Xu 27 [7,27] (.exit 2))) (Sq (Bk 3 (Sq (So J4 (Xv 31 [31] (So J3 (.exit 3)))) (.flt [0,0,2,6,14,0,32,96,224,510,0,1024,3072,7168,16382,0,32768,98304,229376,524286,1048574,2097151,4194303] [] Av [41,42,43,44,45,46,47,48,49,50,51,52,53,54,55,56,57,58,59,60,61,62]))) (.ops Au)))
def rS:RC:=sI
def At:Lb:=[Fm 0 63 3,Wy 1 64 1 63 0,Wc 2 65 64,Wq 3 66,Wy 4 67 1 66 1,Wc 5 68 67,Fm 6 69 3,Wy 7 70 1 69 2,Wc 8 71 70,Fm 9 72 3,Wy 10 73 1 72 3,Wc 11 74 73,Fm 12 75 3,Wy 13 76 1 75 4,Wc 14 77 76,Fm 15 8 65,Fm 16 9 68,Fm 17 10 71,Fm 18 11 74,Fm 19 12 77]
def As:La:=[Wh 13 0]
def Ar:La:=[om 78 13,Wb 79 .lss 78 80]
def Aq:La:=[om 82 9,om 83 10,We 84 .xor 82 83,om 85 11,We 86 .xor 84 85,Wa 14 86,on 15 (.mov (.c (.int .u32 3395469782)))]
def Ap:La:=[om 88 13,Wb 89 .lss 88 20,Wa 87 89]
def Ao:La:=[om 90 9,om 91 10,We 92 .and 90 91,om 93 9,oo 94 (.un .xor (.t 93)) [93],om 95 11,We 96 .and 94 95,We 97 .xor 92 96,Wa 14 97,on 15 (.mov (.c (.int .u32 1518500249)))]
def An:La:=[om 99 13,Wb 100 .lss 99 40,Wa 98 100]
def Am:La:=[on 15 (.mov (.c (.int .u32 1859775393)))]
def Al:La:=[om 102 13,Wb 103 .lss 102 60,Wa 101 103]
def Ak:La:=[om 104 9,om 105 10,We 106 .and 104 105,om 107 9,om 108 11,We 109 .and 107 108,We 110 .xor 106 109,om 111 10,om 112 11,We 113 .and 111 112,We 114 .xor 110 113,Wa 14 114,on 15 (.mov (.c (.int .u32 2400959708)))]
def Aj:Lb:=[Fm 0 115 8,Fm 2 117 14,Fm 4 119 12,Fm 6 121 15,Fm 8 123 13,WS 9 124 6 123,Wc 10 125 124,Fz 1 116 (Ca 170 [.t 115,(.c (.int .u64 5))]),Wf 3 118 .add 116 117,Wf 5 120 .add 118 119,Wf 7 122 .add 120 121,Wf 11 126 .add 122 125,Fm 12 16 126]
def Ai:La:=[Wa 127 16,Wa 128 8,Wa 129 9,oo 130 (Ca 170 [.t 129,(.c (.int .u64 30))]) [129],Wa 131 10,Wa 132 11,Wa 8 127,Wa 9 128,Wa 10 130,Wa 11 131,Wa 12 132]
def Ah:La:=[Wa 80 13,Wb 81 .add 80 1,Wa 13 81]
def sH:RC:=(Sq (So Ar (Xu 79 [6,13,79] (.exit 4))) (Sq (Bk 5 (So Aq (Sq (Bk 6 (So Ap (Kc 87 (Kk [14,15,87] (.ops Ao)) (Kk [87] (So An (Kc 98 (Kk [15,98] (.ops Am)) (Kk [98] (So Al (Xv 101 [14,15,101] (.ops Ak)))))))))) (Sq (.flt [0,1,0,7,0,31,0,127,0,256,768,2047,4095] [] Aj [12,14,15,115,116,117,118,119,120,121,122,123,124,125,126]) (.ops Ai))))) (.ops Ah)))
def fJ:RC:=sH
def Ag:Lb:=[Fm 0 133 3,Wy 1 134 1 133 0,Wc 2 135 134,Fm 3 136 8,Wf 4 137 .add 135 136,Fm 5 138 3,Wy 6 139 1 138 1,Wc 7 140 139,Fm 8 141 9,Wf 9 142 .add 140 141,Fm 10 143 3,Wy 11 144 1 143 2,Wc 12 145 144,Fm 13 146 10,Wf 14 147 .add 145 146,Fm 15 148 3,Wy 16 149 1 148 3,Wc 17 150 149,Fm 18 151 11,Wf 19 152 .add 150 151,Fm 20 153 3,Wy 21 154 1 153 4,Wc 22 155 154,Fm 23 156 12,Wf 24 157 .add 155 156,Fs 25 158 (.lit 1 [.t 137,.t 142,.t 147,.t 152,.t 157]),⟨26,false,(xm 3 158)⟩]
def Af:La:=[Wa 24 5,Wb 25 .add 24 64,Wa 5 25]
def sG:RC:=(.post (Sq (So J7 (Xu 23 [4,5,23] (.exit 0))) (Sq (Bk 1 (So J6 (Sq (So x7 (Bk 2 (.loop rS))) (Sq (.flt [0,1,3,0,8,24,0,64,192,0,512,1536,0,4096,12288,7,32831,98815,233471,524287] [] At [63,64,65,66,67,68,69,70,71,72,73,74,75,76,77]) (Sq (So As (Bk 4 (.loop fJ))) (.flt [0,1,3,0,15,0,32,96,0,480,0,1024,3072,0,15360,0,32768,98304,0,491520,0,1048576,3145728,0,15728640,33554431,67108863] [] Ag [8,9,10,11,12,133,134,135,136,137,138,139,140,141,142,143,144,145,146,147,148,149,150,151,152,153,154,155,156,157,158])))))) (.ops Af))) [.gc [106]])
def rR:RC:=sG
def Ae:La:=[Wa 159 3,Wm 160 119 159,Wa 2 160]
def xhE:RC:=(So lh (So J9 (So J8 (Sq (So tc (Bk 0 (.loop rR))) (So Ae .ret)))))
def Y0:FnC:=⟨xhE,161,[.tmp 2],[],[]⟩
def J2:La:=[om 10 1,Wb 11 .eql 10 10]
def J1:La:=[om 12 0,WQ 13 .leq 0 12,Wa 14 13,.grp 14 true [(xi 15 14 true (Mv 0)),(xi 16 14 true (Bc .lss 15 100))] [15],Wu 17 14 16]
def J0:La:=[Wa 18 0,Wm 19 171 18,Wa 4 19]
def JZ:La:=[on 5 (.new (.bar (ao 24 0)))]
def JY:La:=[om 20 0,WO 21 20,Wa 6 21]
def JX:La:=[om 22 0,Wb 23 .lss 22 0]
def JW:La:=[Wa 24 6,oo 25 (.un .neg (.t 24)) [24],Wa 6 25]
def JV:La:=[om 26 6,Wm 27 172 26,Wa 7 27]
def JU:La:=[om 28 7,WQ 29 .add 1 28,oo 30 (.slcA 24 1 (.t 5) (some (ci 1)) (some (.t 29)) none) [29],Wa 31 6,Xc 32 173 30 31]
def Ad:La:=[Wa 33 0,Wb 34 .lss 33 0]
def Ac:La:=[on 35 (.iaddrA 24 1 (.t 5) (ci 0)),.op ⟨none,none,.store 1 (.t 35) (.c (.u8 45))⟩ [35]]
def Ab:La:=[Wa 36 7,WQ 37 .add 1 36,oo 38 (.slcA 24 1 (.t 5) none (some (.t 37)) none) [5,37],WY 39 38,Wa 4 39]
def Aa:La:=[Wa 40 7,WQ 41 .add 1 40,oo 42 (.slcA 24 1 (.t 5) (some (ci 1)) (some (.t 41)) none) [5,41],WY 43 42,Wa 4 43]
def z9:La:=[om 45 0,WO 46 45,Wa 47 1,Wa 48 0,Wb 49 .lss 48 0,oo 50 (Ca 174 [(.c (.byt [] .clip)),.t 46,.t 47,.t 49,(.c (.bool false))]) [46,47,49],Wa 44 50,WL 51 44 0,WM 52 44 1,.op (xm 8 51) [8,51],Wa 9 52]
def z8:La:=[Wa 53 9,Wa 4 53]
def xhD:RC:=(So pY (Sq (So J2 (Xv 11 [1,11] (Sq (So J1 (Xv 17 [17] (So J0 .ret))) (So JZ (So JY (Sq (So JX (Xv 23 [23] (.ops JW))) (So JV (So JU (Sq (So Ad (Xv 34 [34] (So Ac (So Ab .ret)))) (So Aa .ret)))))))))) (So z9 (So z8 .ret))))
def YZ:FnC:=⟨xhD,54,[.tmp 4],[],[]⟩
def JT:La:=[om 5 0,WH 6 true 5,Wb 7 .gtr 6 0,Wa 8 7,.grp 8 true [(xi 9 8 true (Mv 0)),(xi 10 8 true (.idxS (.t 9) (ci 0))),(xi 11 8 true (Mv 1)),(xi 12 8 true (Bb .eql 10 11))] [9,10,11],Wu 13 8 12]
def JS:La:=[Wa 14 0,oo 15 (.slcS (.t 14) (some (ci 1)) none) [14],Wa 0 15]
def yQ:RC:=(Sq (So JT (Xu 13 [1,13] (.exit 0))) (Bk 1 (.ops JS)))
def xO:RC:=yQ
def JR:La:=[Wa 16 0,Wa 4 16]
def xhC:RC:=(So pY (Sq (Bk 0 (.loop xO)) (So JR .ret)))
def YY:FnC:=⟨xhC,17,[.tmp 4],[],[]⟩
def JQ:La:=[om 5 0,WH 6 true 5,Wb 7 .gtr 6 0,Wa 8 7,.grp 8 true [(xi 9 8 true (Mv 0)),(xi 10 8 true (Mv 0)),(xi 11 8 true (.len true (.t 10))),(xi 12 8 true (Bc .sub 11 1)),(xi 13 8 true (.idxS (.t 9) (.t 12))),(xi 14 8 true (Mv 1)),(xi 15 8 true (Bb .eql 13 14))] [9,10,11,12,13,14],Wu 16 8 15]
def JP:La:=[om 17 0,Wa 18 0,WH 19 true 18,Wb 20 .sub 19 1,oo 21 (.slcS (.t 17) none (some (.t 20))) [17,20],Wa 0 21]
def yP:RC:=(Sq (So JQ (Xu 16 [1,16] (.exit 0))) (Bk 1 (.ops JP)))
def xN:RC:=yP
def JO:La:=[Wa 22 0,Wa 4 22]
def xhB:RC:=(So pY (Sq (Bk 0 (.loop xN)) (So JO .ret)))
def YX:FnC:=⟨xhB,23,[.tmp 4],[],[]⟩
def JN:La:=[om 5 0,WH 6 true 5,om 7 1,WH 8 true 7,We 9 .geq 6 8,Wa 10 9,.grp 10 true [(xi 11 10 true (Mv 0)),(xi 12 10 true (Mv 1)),(xi 13 10 true (.len true (.t 12))),(xi 14 10 true (.slcS (.t 11) none (some (.t 13)))),(xi 15 10 true (Mv 1)),(xi 16 10 true (Bb .eql 14 15))] [0,1,11,12,13,14,15],Wu 17 10 16,Wa 4 17]
def xhA:RC:=(So qp (So JN .ret))
def YW:FnC:=⟨xhA,18,[.tmp 4],[],[]⟩
def JM:La:=[om 11 0,WH 12 true 11,Wa 4 12]
def JL:La:=[on 13 (Mb false),.grp 13 true [(xi 14 13 true (Mv 4)),(xi 15 13 true (.bin .lss (ci 0) (.t 14))),(xi 16 13 true (Mv 15))] [14,15],.grp 16 true [(xi 17 16 true (Mv 4)),(xi 18 16 true (Bc .lss 17 10))] [17],.grp 13 true [(xi 19 13 true (Pf 16 18))] [16,18],Wu 20 13 19,Wa 21 20,.grp 21 false [(xi 22 21 false (Mb true))] [],.grp 22 true [(xi 23 22 true (Mv 4)),(xi 24 22 true (.bin .lss (ci 0) (.t 23))),(xi 25 22 true (Mv 24))] [23,24],.grp 25 true [(xi 26 25 true (Mv 4)),(xi 27 25 true (Bc .lss 26 19))] [4,26],.grp 22 true [(xi 28 22 true (Pf 25 27))] [25,27],.grp 21 false [(xi 29 21 false (Pf 22 28))] [22,28],Wn 30 21 29]
def JK:La:=[om 31 0,Wa 5 31]
def JJ:La:=[om 32 0,oo 33 (.idxS (.t 32) (ci 0)) [32],oo 34 (.bin .eql (.t 33) (.c (.u8 45))) [33],Wa 35 34,.grp 35 false [(xi 36 35 false (Mv 0)),(xi 37 35 false (.idxS (.t 36) (ci 0))),(xi 38 35 false (.bin .eql (.t 37) (.c (.u8 43))))] [36,37],Wn 39 35 38]
def JI:La:=[Wa 40 0,oo 41 (.slcS (.t 40) (some (ci 1)) none) [40],Wa 0 41]
def JH:La:=[om 42 0,WH 43 true 42,Wb 44 .lss 43 1]
def JG:La:=[Wa 46 0,Xb 47 46,WI 48 47,Wh 49 0]
def JF:La:=[WC 50 .lss 49 48]
def z7:La:=[on 51 (Ia 1 47 49),Wd 52 51,Wa 8 52]
def z6:La:=[Wa 53 8,oo 54 (.bin .sub (.t 53) (.c (.u8 48))) [53],Wa 8 54]
def zZ:La:=[om 55 8,oo 56 (.bin .gtr (.t 55) (.c (.u8 9))) [55]]
def zY:La:=[Wa 58 6,Wb 59 .mul 58 10,Wa 60 8,oo 61 (.toInt .i64 (.t 60)) [60],We 62 .add 59 61,Wa 6 62]
def zX:La:=[Wb 63 .add 49 1,Wa 49 63]
def sF:RC:=(So JF (Sq (Xu 50 [47,48,49,50] (.exit 0)) (Sq (Bk 1 (So z7 (So z6 (Sq (So zZ (Xv 56 [5,6,8,47,48,49,56] (Sq .bad .ret))) (.ops zY))))) (.ops zX))))
def ou:RC:=sF
def zW:La:=[Wa 64 5,oo 65 (.idxS (.t 64) (ci 0)) [64],oo 66 (.bin .eql (.t 65) (.c (.u8 45))) [65]]
def zV:La:=[Wa 67 6,oo 68 (.un .neg (.t 67)) [67],Wa 6 68]
def zU:La:=[Wa 69 6,Wa 2 69,on 3 (.mov (.c .nili))]
def zT:La:=[Wa 71 0,oo 72 (Ca 179 [.t 71,ci 10,ci 0]) [71],Wa 70 72,WL 73 70 0,WM 74 70 1,Wa 9 73,Wa 10 74]
def zS:La:=[Wa 75 9,Wa 76 10,Wa 2 75,Wa 3 76]
def xhz:RC:=(So xU (So JM (Sq (So JL (Xv 30 [30] (So JK (Sq (So JJ (Xv 39 [39] (So JI (So JH (Xv 44 [0,5,44] (Sq .bad .ret)))))) (So DI (Sq (So JG (Bk 0 (.loop ou))) (Sq (So zW (Xv 66 [66] (.ops zV))) (So zU .ret)))))))) (So zT (So zS .ret)))))
def YV:FnC:=⟨xhz,77,[.tmp 2,.tmp 3],[],[]⟩
def xhy:RC:=(So nG (Sq (.flt [0,0,2,7,15,31,63,0,0,256,768,1920,3968,8064,16256,32767,0,0,131072,393216,983040,2031616,4128768,8323072,16777215,0,0,67108864,201326592,503316480,1040187392,2113929216,4294967295,8589934591] [] xZ [0,1,5,6,7,8,9,10,11,12,13,14,15,16,17,18,19,20,21,22,23,24,25,26,27,28,29,30,31,32,33,34,35,36,37]) .ret))
def YU:FnC:=⟨xhy,38,[.tmp 4],[],[]⟩
def JE:La:=[Wa 6 1,WO 7 6,oo 8 (.bin .and (.t 7) (.c (.int .u64 31))) [7],Wa 5 8]
def JD:La:=[om 9 0,om 10 5,We 11 .shl 9 10,Wa 12 0,Wa 13 5,Xt 14 .sub 13,We 15 .shr 12 14,We 16 .or 11 15,Wa 4 16]
def xhx:RC:=(So nG (So JE (So JD .ret)))
def YT:FnC:=⟨xhx,17,[.tmp 4],[],[]⟩
def JC:La:=[om 10 1,Wb 11 .add 10 1,Wa 8 11]
def JB:La:=[om 12 8,om 13 2,We 14 .lss 12 13]
def JA:La:=[om 17 8,Wa 9 17]
def Jz:Lb:=[Fm 0 18 9,Wq 1 19,Wf 2 20 .gtr 18 19,Fm 3 21 20,Wv 4 22 21 true 3,Wv 5 23 21 true 0,Wv 6 24 21 true 9,Fi 7 25 21 true (Ia 4 23 24),Fi 8 26 21 true (Lt 4 25),Wv 9 27 21 true 0,Wv 10 28 21 true 9,Fi 11 29 21 true (Bc .sub 28 1),Fi 12 30 21 true (Ia 4 27 29),Fi 13 31 21 true (Lt 4 30),Fy 14 32 21 true (.call (.t 22) [.t 26,.t 31]),Fi 15 33 21 true (Bc .lss 32 0),Fs 16 34 (Pf 21 33)]
def Jy:Lb:=[Wq 0 37,Fm 1 38 9,Fm 2 39 0,Fm 3 40 9,Wp 4 41 .sub 40 1,Fm 5 42 0,Fm 6 43 9,Wp 7 44 .sub 43 1,Wo 8 45 4 42 44,Fs 9 46 (Lt 4 45),Fm 10 47 0,Fm 11 48 9,Wo 12 49 4 47 48,Fs 13 50 (Lt 4 49),Wo 14 51 4 37 38,Fr 15 4 51 46,Wo 16 52 4 39 41,Fr 17 4 52 50]
def Jx:La:=[Wa 35 9,Wb 36 .sub 35 1,Wa 9 36]
def yO:RC:=(Sq (Sq (.flt [0,0,3,7,15,15,15,111,239,15,15,1039,3599,7695,16383,32767,65535] [] Jz [18,19,20,21,22,23,24,25,26,27,28,29,30,31,32,33]) (Xu 34 [9,34] (.exit 2))) (Sq (Bk 3 (.flt [0,0,0,0,8,0,0,64,224,480,0,0,3072,7168,16355,32739,65535,131071] [] Jy [37,38,39,40,41,42,43,44,45,46,47,48,49,50,51,52])) (.ops Jx)))
def xM:RC:=yO
def Jw:La:=[Wa 15 8,Wb 16 .add 15 1,Wa 8 16]
def yN:RC:=(Sq (So JB (Xu 14 [0,1,2,3,8,14] (.exit 0))) (Sq (Bk 1 (So JA (Bk 2 (.loop xM)))) (.ops Jw)))
def xL:RC:=yN
def xhw:RC:=(So JC (Bk 0 (.loop xL)))
def YS:FnC:=⟨xhw,53,[],[],[]⟩
def Jv:La:=[om 3 0,oo 4 (.bin .geq (.t 3) (.c (.int .u64 4294967296))) [3]]
def Ju:La:=[Wa 5 0,oo 6 (.bin .shr (.t 5) (.c (.int .u64 32))) [5],Wa 0 6]
def Jt:La:=[Wh 2 32]
def Js:La:=[om 7 0,oo 8 (.bin .geq (.t 7) (.c (.int .u64 65536))) [7]]
def Jr:La:=[Wa 9 0,Xr 10 .shr 9,Wa 0 10]
def Jq:La:=[Wa 11 2,Wb 12 .add 11 16,Wa 2 12]
def Jp:La:=[om 13 0,oo 14 (.bin .geq (.t 13) (.c (.int .u64 256))) [13]]
def Jo:La:=[Wa 15 0,W9 16 .shr 15,Wa 0 16]
def Jn:La:=[Wa 17 2,Wb 18 .add 17 8,Wa 2 18]
def zQ:La:=[Wa 19 2,Wa 20 0,WE 21 20,oo 22 (.idxS (.c (.str cs0)) (.t 21)) [21],oo 23 (.toInt .i64 (.t 22)) [22],We 24 .add 19 23,Wa 2 24]
def xhv:RC:=(So jD (Sq (So Jv (Xv 4 [2,4] (So Ju (.ops Jt)))) (Sq (So Js (Xv 8 [8] (So Jr (.ops Jq)))) (Sq (So Jp (Xv 14 [14] (So Jo (.ops Jn)))) (So zQ .ret)))))
def YR:FnC:=⟨xhv,25,[.tmp 2],[],[]⟩
def Ja:La:=[om 5 0,om 6 1,We 7 .shl 5 6,Wa 8 0,Wa 9 1,Xt 10 .sub 9,We 11 .shr 8 10,We 12 .or 7 11,Wa 4 12]
def xhu:RC:=(So nG (So Ja .ret))
def YQ:FnC:=⟨xhu,13,[.tmp 4],[],[]⟩
def I9:La:=[om 5 0,Wa 6 0,Wb 7 .add 6 1,oo 8 (.slcS (.c (.str cs1)) (some (.t 5)) (some (.t 7))) [5,7],Wa 2 8]
def I8:La:=[om 9 0,Wb 10 .mul 9 2,Wa 11 0,Wb 12 .mul 11 2,Wb 13 .add 12 2,oo 14 (.slcS (.c (.str cs2)) (some (.t 10)) (some (.t 13))) [10,13],Wa 2 14]
def xht:RC:=(So DF (Sq (So Nu (Xv 4 [4] (So I9 .ret))) (So I8 .ret)))
def YP:FnC:=⟨xht,15,[.tmp 2],[],[]⟩
def I7:La:=[om 4 0,Wm 5 167 4,Wm 6 189 5,Wa 3 6]
def I6:La:=[om 7 3,Wa 8 0,Wa 9 3,oo 10 (.iaddrA 20 1 (.c (.pp iI)) (.t 9)) [9],Wd 11 10,We 12 .geq 8 11,Wm 13 190 12,We 14 .add 7 13,Wa 2 14]
def xhs:RC:=(So jc (So I7 (So I6 .ret)))
def YO:FnC:=⟨xhs,15,[.tmp 2],[],[]⟩
def I5:La:=[om 17 0,Wj 18 17,Wa 4 18]
def I4:La:=[om 19 4,Wb 20 .geq 19 8]
def I3:La:=[om 21 1,oo 22 (.bin .rem (.t 21) (.c (.int .u64 100000000))) [21],Xm 23 22,Wa 5 23]
def I2:La:=[Wa 24 1,oo 25 (.bin .quo (.t 24) (.c (.int .u64 100000000))) [24],Wa 1 25]
def I1:La:=[om 26 5,Xo 27 .quo 26,Wa 28 5,Xo 29 .rem 28,Wa 6 27,Wa 7 29]
def I0:La:=[om 30 7,W4 31 .quo 30,W6 32 .mul 31,Wa 33 7,W4 34 .rem 33,W6 35 .mul 34,Wa 8 32,Wa 9 35]
def IZ:La:=[om 36 6,W4 37 .quo 36,W6 38 .mul 37,Wa 39 6,W4 40 .rem 39,W6 41 .mul 40,Wa 10 38,Wa 11 41]
def IY:Lb:=[Wq 0 42,Fm 1 43 4,Wp 2 44 .sub 43 1,Fm 3 45 0,Wq 4 46,Wp 5 47 .sub 46 2,Fm 6 48 9,W7 7 49 .add 48,WP 8 50 49,Wq 9 51,WP 10 52 51,Wo 11 53 1 42 44,Fr 12 1 53 50,Wo 13 54 1 45 47,Fr 14 1 54 52]
def IX:Lb:=[Wq 0 55,Fm 1 56 4,Wp 2 57 .sub 56 3,Fm 3 58 0,Wq 4 59,Wp 5 60 .sub 59 4,Fm 6 61 8,W7 7 62 .add 61,WP 8 63 62,Fm 9 64 8,WP 10 65 64,Wo 11 66 1 55 57,Fr 12 1 66 63,Wo 13 67 1 58 60,Fr 14 1 67 65]
def IW:Lb:=[Wq 0 68,Fm 1 69 4,Wp 2 70 .sub 69 5,Fm 3 71 0,Wq 4 72,Wp 5 73 .sub 72 6,Fm 6 74 11,W7 7 75 .add 74,WP 8 76 75,Fm 9 77 11,WP 10 78 77,Wo 11 79 1 68 70,Fr 12 1 79 76,Wo 13 80 1 71 73,Fr 14 1 80 78]
def zP:Lb:=[Wq 0 81,Fm 1 82 4,Wp 2 83 .sub 82 7,Fm 3 84 0,Wq 4 85,Wp 5 86 .sub 85 8,Fm 6 87 10,W7 7 88 .add 87,WP 8 89 88,Fm 9 90 10,WP 10 91 90,Wo 11 92 1 81 83,Fr 12 1 92 89,Wo 13 93 1 84 86,Fr 14 1 93 91]
def zO:La:=[Wa 94 4,Wb 95 .sub 94 8,Wa 4 95]
def sE:RC:=(Sq (So I4 (Xu 20 [20] (.exit 0))) (Bk 1 (So I3 (So I2 (So I1 (So I0 (So IZ (Sq (.flt [0,0,2,0,0,16,0,64,192,0,512,455,2503,8191,16383] [] IY [9,42,43,44,45,46,47,48,49,50,51,52,53,54]) (Sq (.flt [0,0,2,0,0,16,0,64,192,0,512,455,2503,8191,16383] [] IX [8,55,56,57,58,59,60,61,62,63,64,65,66,67]) (Sq (.flt [0,0,2,0,0,16,0,64,192,0,512,455,2503,8191,16383] [] IW [11,68,69,70,71,72,73,74,75,76,77,78,79,80]) (Sq (.flt [0,0,2,0,0,16,0,64,192,0,512,455,2503,8191,16383] [] zP [10,81,82,83,84,85,86,87,88,89,90,91,92,93]) (.ops zO))))))))))))
def zN:RC:=sE
def zM:La:=[Wa 96 1,Xm 97 96,Wa 12 97]
def zL:La:=[om 98 4,Wb 99 .geq 98 4]
def zK:La:=[om 100 12,Xo 101 .rem 100,Wa 13 101]
def zJ:La:=[Wa 102 12,Xo 103 .quo 102,Wa 12 103]
def zI:La:=[om 104 13,W4 105 .quo 104,W6 106 .mul 105,Wa 107 13,W4 108 .rem 107,W6 109 .mul 108,Wa 14 106,Wa 15 109]
def zH:Lb:=[Wq 0 110,Fm 1 111 4,Wp 2 112 .sub 111 1,Fm 3 113 0,Wq 4 114,Wp 5 115 .sub 114 2,Fm 6 116 15,W7 7 117 .add 116,WP 8 118 117,Fm 9 119 15,WP 10 120 119,Wo 11 121 1 110 112,Fr 12 1 121 118,Wo 13 122 1 113 115,Fr 14 1 122 120]
def zG:Lb:=[Wq 0 123,Fm 1 124 4,Wp 2 125 .sub 124 3,Fm 3 126 0,Wq 4 127,Wp 5 128 .sub 127 4,Fm 6 129 14,W7 7 130 .add 129,WP 8 131 130,Fm 9 132 14,WP 10 133 132,Wo 11 134 1 123 125,Fr 12 1 134 131,Wo 13 135 1 126 128,Fr 14 1 135 133]
def zF:La:=[Wa 136 4,Wb 137 .sub 136 4,Wa 4 137]
def zE:La:=[om 138 4,Wb 139 .geq 138 2]
def zD:La:=[om 140 12,W4 141 .rem 140,W6 142 .mul 141,Wa 16 142]
def zC:La:=[Wa 143 12,W4 144 .quo 143,Wa 12 144]
def zB:Lb:=[Wq 0 145,Fm 1 146 4,Wp 2 147 .sub 146 1,Fm 3 148 0,Wq 4 149,Wp 5 150 .sub 149 2,Fm 6 151 16,W7 7 152 .add 151,WP 8 153 152,Fm 9 154 16,WP 10 155 154,Wo 11 156 1 145 147,Fr 12 1 156 153,Wo 13 157 1 148 150,Fr 14 1 157 155]
def zA:La:=[Wa 158 4,Wb 159 .sub 158 2,Wa 4 159]
def zy:La:=[Wa 160 4,Wb 161 .gtr 160 0]
def zx:La:=[Wa 162 0,Wa 163 12,oo 164 (.bin .add (.c (.int .u32 48)) (.t 163)) [163],WE 165 164,oo 166 (.iaddrL 1 (.t 162) (ci 0)) [162],Ws 1 166 165]
def xhr:RC:=(So I5 (Sq (Bk 0 (.loop zN)) (So zM (Sq (So zL (Xv 99 [99] (So zK (So zJ (So zI (Sq (.flt [0,0,2,0,0,16,0,64,192,0,512,455,2503,8191,16383] [] zH [15,110,111,112,113,114,115,116,117,118,119,120,121,122]) (Sq (.flt [0,0,2,0,0,16,0,64,192,0,512,455,2503,8191,16383] [] zG [14,123,124,125,126,127,128,129,130,131,132,133,134,135]) (.ops zF)))))))) (Sq (So zE (Xv 139 [139] (So zD (So zC (Sq (.flt [0,0,2,0,0,16,0,64,192,0,512,455,2503,8191,16383] [] zB [16,145,146,147,148,149,150,151,152,153,154,155,156,157]) (.ops zA)))))) (So zy (Kc 161 (Kk [161] (.ops zx)) (Kk [0,12,161] .skip))))))))
def YN:FnC:=⟨xhr,167,[],[],[]⟩
def IB:La:=[Wa 3 0,Wb 4 .mul 3 78913,oo 5 (.bin .shr (.t 4) (.c (.int .u64 18))) [4],Wa 2 5]
def xhq:RC:=(So jc (So IB .ret))
def YM:FnC:=⟨xhq,6,[.tmp 2],[],[]⟩
def xhp:RC:=(So jc (Sq (So Nv (Xv 3 [3] (So ku .ret))) (So jD .ret)))
def YL:FnC:=⟨xhp,4,[.tmp 2],[],[]⟩
theorem Fk{g:Nat}{F:FnC}{fn:Func}(h1:prog.funcs[g]? =some fn)(h3:fn.ntmps=F.n:=by kernel_rfl)(h2:fn.body.map (ct prog)=some F.code.er:=by kernel_rfl)(h4:(pO prog fn.results.toList F.rs&&eu prog g&&F.code.ok F.n)=true:=by kernel_rfl):bS prog g F:=by simp only[aB]at h4;exact P8 h1 h2 h3 h4.1.1 h4.1.2 h4.2
noncomputable def xhf:Nat->Option FnB
 |9=>some (.code F9)
 |10=>some (.code F10)
 |13=>some (.code F13)
 |15=>some (.code F15)
 |16=>some (.code F16)
 |17=>some (.code F17)
 |18=>some (.code F18)
 |19=>some (.code F19)
 |21=>some (.code F21)
 |28=>some (.code F28)
 |29=>some (.code F29)
 |31=>some (.code F31)
 |33=>some (.code F33)
 |34=>some (.code F34)
 |35=>some (.code F35)
 |36=>some (.code F36)
 |37=>some (.code F37)
 |38=>some (.code F38)
 |39=>some (.code F39)
 |40=>some (.code F40)
 |42=>some (.code F42)
 |43=>some (.code F43)
 |44=>some (.code F44)
 |45=>some (.code F45)
 |46=>some (.code F46)
 |48=>some (.code F48)
 |49=>some (.code F49)
 |50=>some (.code F50)
 |51=>some (.code F51)
 |52=>some (.code F52)
 |53=>some (.code F53)
 |54=>some (.code F54)
 |55=>some (.code F55)
 |56=>some (.code F56)
 |57=>some (.code F57)
 |58=>some (.code F58)
 |65=>some (.code F65)
 |70=>some (.code F70)
 |71=>some (.code F71)
 |72=>some (.code F72)
 |73=>some (.code F73)
 |75=>some (.code F75)
 |76=>some (.code F76)
 |77=>some (.code F77)
 |78=>some (.code F78)
 |79=>some (.code F79)
 |80=>some (.code F80)
 |81=>some (.code F81)
 |82=>some (.code F82)
 |85=>some (.code F85)
 |86=>some (.code F86)
 |87=>some (.code F87)
 |88=>some (.code F88)
 |89=>some (.code F89)
 |90=>some (.code F90)
 |91=>some (.code F91)
 |92=>some (.code F92)
 |93=>some (.code F93)
 |94=>some (.code F94)
 |95=>some (.code F95)
 |96=>some (.code F96)
 |97=>some (.code F97)
 |98=>some (.code F98)
 |99=>some (.code F99)
 |100=>some (.code Zx)
 |101=>some (.code Zw)
 |104=>some (.code Zv)
 |105=>some (.code Zu)
 |106=>some (.code Zt)
 |108=>some (.code Zs)
 |109=>some (.code Zr)
 |110=>some (.code Zq)
 |111=>some (.code Zp)
 |112=>some (.code Zo)
 |115=>some (.code Zn)
 |116=>some (.code Zm)
 |117=>some (.code Zl)
 |118=>some (.code Zk)
 |119=>some (.code Zj)
 |120=>some (.code Zi)
 |121=>some (.code Zh)
 |122=>some (.code Zg)
 |123=>some (.code Zf)
 |124=>some (.code Ze)
 |127=>some (.code Zd)
 |128=>some (.code Zc)
 |129=>some (.code Zb)
 |131=>some (.code Za)
 |132=>some (.code Y9)
 |133=>some (.code Y8)
 |134=>some (.code Y7)
 |135=>some (.code Y6)
 |136=>some (.code Y5)
 |137=>some (.code Y4)
 |139=>some (.code Y3)
 |140=>some (.code Y2)
 |141=>some (.code Y1)
 |144=>some (.code Y0)
 |145=>some (.code YZ)
 |146=>some (.code YY)
 |147=>some (.code YX)
 |153=>some (.code YW)
 |154=>some (.code YV)
 |156=>some (.code YU)
 |157=>some (.code YT)
 |158=>some (.code YS)
 |167=>some (.code YR)
 |170=>some (.code YQ)
 |171=>some (.code YP)
 |172=>some (.code YO)
 |173=>some (.code YN)
 |189=>some (.code YM)
 |190=>some (.code YL)
 |130=>some (.prim Pr.p130)
 |107=>some (.prim Pr.p107)
 |142=>some (.prim Pr.p142)
 |138=>some (.prim Pr.p138)
 |_=>none
def xi6:Nat->Sig
 |92=>⟨[],[0]⟩
 |93=>⟨[],[0]⟩
 |135=>⟨[],[0]⟩
 |158=>⟨[],[0]⟩
 |173=>⟨[],[0]⟩
 |_=> {}
noncomputable def T:kE:=⟨xhf,xi6⟩
abbrev tf(k:Nat)(F:FnC):Prop:=T.fn k=some (.code F)
theorem T_9:tf 9 F9:=rfl
theorem xlG:tf 10 F10:=rfl
theorem xlF:tf 13 F13:=rfl
theorem xlE:tf 15 F15:=rfl
theorem xiJ:tf 16 F16:=rfl
theorem xlD:tf 17 F17:=rfl
theorem xlC:tf 18 F18:=rfl
theorem xlB:tf 19 F19:=rfl
theorem xlA:tf 21 F21:=rfl
theorem xlz:tf 28 F28:=rfl
theorem xly:tf 29 F29:=rfl
theorem xlx:tf 31 F31:=rfl
theorem xlw:tf 33 F33:=rfl
theorem xlv:tf 34 F34:=rfl
theorem xlu:tf 35 F35:=rfl
theorem xlt:tf 36 F36:=rfl
theorem xls:tf 37 F37:=rfl
theorem xlr:tf 38 F38:=rfl
theorem xlq:tf 39 F39:=rfl
theorem xlp:tf 40 F40:=rfl
theorem xlo:tf 42 F42:=rfl
theorem xln:tf 43 F43:=rfl
theorem xlm:tf 44 F44:=rfl
theorem xiI:tf 45 F45:=rfl
theorem xll:tf 46 F46:=rfl
theorem xlk:tf 48 F48:=rfl
theorem xlj:tf 49 F49:=rfl
theorem xli:tf 50 F50:=rfl
theorem xlh:tf 51 F51:=rfl
theorem xlg:tf 52 F52:=rfl
theorem xlf:tf 53 F53:=rfl
theorem xle:tf 54 F54:=rfl
theorem xld:tf 55 F55:=rfl
theorem xlc:tf 56 F56:=rfl
theorem xlb:tf 57 F57:=rfl
theorem xla:tf 58 F58:=rfl
theorem xk9:tf 65 F65:=rfl
theorem xk8:tf 70 F70:=rfl
theorem xk7:tf 71 F71:=rfl
theorem xiH:tf 72 F72:=rfl
theorem xk6:tf 73 F73:=rfl
theorem xk5:tf 75 F75:=rfl
theorem xk4:tf 76 F76:=rfl
theorem xk3:tf 77 F77:=rfl
theorem xk2:tf 78 F78:=rfl
theorem xk1:tf 79 F79:=rfl
theorem xk0:tf 80 F80:=rfl
theorem xkZ:tf 81 F81:=rfl
theorem xkY:tf 82 F82:=rfl
theorem xkX:tf 85 F85:=rfl
theorem xkW:tf 86 F86:=rfl
theorem xkV:tf 87 F87:=rfl
theorem xkU:tf 88 F88:=rfl
theorem xc8:tf 89 F89:=rfl
theorem xiG:tf 90 F90:=rfl
theorem xiF:tf 91 F91:=rfl
theorem xiE:tf 92 F92:=rfl
theorem Ym:tf 93 F93:=rfl
theorem xkT:tf 94 F94:=rfl
theorem xiD:tf 95 F95:=rfl
theorem xkS:tf 96 F96:=rfl
theorem xkR:tf 97 F97:=rfl
theorem xkQ:tf 98 F98:=rfl
theorem xkP:tf 99 F99:=rfl
theorem Ys:tf 100 Zx:=rfl
theorem xgO:tf 101 Zw:=rfl
theorem xgN:tf 104 Zv:=rfl
theorem xgM:tf 105 Zu:=rfl
theorem xgL:tf 106 Zt:=rfl
theorem xgJ:tf 108 Zs:=rfl
theorem xgI:tf 109 Zr:=rfl
theorem xgH:tf 110 Zq:=rfl
theorem xgG:tf 111 Zp:=rfl
theorem xgF:tf 112 Zo:=rfl
theorem xgE:tf 115 Zn:=rfl
theorem xgD:tf 116 Zm:=rfl
theorem xgC:tf 117 Zl:=rfl
theorem xgB:tf 118 Zk:=rfl
theorem xgA:tf 119 Zj:=rfl
theorem Yr:tf 120 Zi:=rfl
theorem Yq:tf 121 Zh:=rfl
theorem xgz:tf 122 Zg:=rfl
theorem xgy:tf 123 Zf:=rfl
theorem xgx:tf 124 Ze:=rfl
theorem xgw:tf 127 Zd:=rfl
theorem xgv:tf 128 Zc:=rfl
theorem xgu:tf 129 Zb:=rfl
theorem xgs:tf 131 Za:=rfl
theorem xgr:tf 132 Y9:=rfl
theorem xgq:tf 133 Y8:=rfl
theorem xgp:tf 134 Y7:=rfl
theorem Yp:tf 135 Y6:=rfl
theorem xgo:tf 136 Y5:=rfl
theorem xgn:tf 137 Y4:=rfl
theorem xgl:tf 139 Y3:=rfl
theorem xgk:tf 140 Y2:=rfl
theorem xgj:tf 141 Y1:=rfl
theorem xgh:tf 144 Y0:=rfl
theorem xgg:tf 145 YZ:=rfl
theorem xgf:tf 146 YY:=rfl
theorem xge:tf 147 YX:=rfl
theorem xgd:tf 153 YW:=rfl
theorem xgc:tf 154 YV:=rfl
theorem xgb:tf 156 YU:=rfl
theorem xga:tf 157 YT:=rfl
theorem Yo:tf 158 YS:=rfl
theorem Yn:tf 167 YR:=rfl
theorem xf9:tf 170 YQ:=rfl
theorem xf8:tf 171 YP:=rfl
theorem xf7:tf 172 YO:=rfl
theorem wN:tf 173 YN:=rfl
theorem xf6:tf 189 YM:=rfl
theorem xf5:tf 190 YL:=rfl
theorem xgt:T.fn 130=some (.prim Pr.p130):=rfl
theorem xgK:T.fn 107=some (.prim Pr.p107):=rfl
theorem xgi:T.fn 142=some (.prim Pr.p142):=rfl
theorem xgm:T.fn 138=some (.prim Pr.p138):=rfl
abbrev sf(k:Nat):Prop:=T.sg k= {}
theorem kH:sf 130:=rfl
theorem xg7:sf 107:=rfl
theorem xgV:sf 142:=rfl
theorem tD:sf 138:=rfl
theorem S_9:sf 9:=rfl
theorem xiX:sf 10:=rfl
theorem nb:sf 13:=rfl
theorem xdl:sf 15:=rfl
theorem xdk:sf 16:=rfl
theorem xlV:sf 17:=rfl
theorem xdj:sf 18:=rfl
theorem xdi:sf 19:=rfl
theorem xlU:sf 21:=rfl
theorem xiW:sf 28:=rfl
theorem xlT:sf 29:=rfl
theorem xdh:sf 31:=rfl
theorem wQ:sf 33:=rfl
theorem xlS:sf 34:=rfl
theorem xlR:sf 35:=rfl
theorem xiV:sf 36:=rfl
theorem xdg:sf 37:=rfl
theorem xiU:sf 38:=rfl
theorem xiT:sf 39:=rfl
theorem xlQ:sf 40:=rfl
theorem m9:sf 42:=rfl
theorem Rm:sf 43:=rfl
theorem sW:sf 44:=rfl
theorem vk:sf 45:=rfl
theorem Yv:sf 46:=rfl
theorem qk:sf 48:=rfl
theorem sV:sf 49:=rfl
theorem xdf:sf 50:=rfl
theorem wP:sf 51:=rfl
theorem Ec:sf 52:=rfl
theorem Eb:sf 53:=rfl
theorem Yu:sf 54:=rfl
theorem xde:sf 55:=rfl
theorem xlP:sf 56:=rfl
theorem xdd:sf 57:=rfl
theorem xlO:sf 58:=rfl
theorem Nh:sf 65:=rfl
theorem Yt:sf 70:=rfl
theorem sU:sf 71:=rfl
theorem xiS:sf 72:=rfl
theorem xlN:sf 73:=rfl
theorem xlM:sf 75:=rfl
theorem xiR:sf 76:=rfl
theorem vj:sf 77:=rfl
theorem xiQ:sf 78:=rfl
theorem xdc:sf 79:=rfl
theorem xiP:sf 80:=rfl
theorem xiO:sf 81:=rfl
theorem xlL:sf 82:=rfl
theorem xiN:sf 85:=rfl
theorem xlK:sf 86:=rfl
theorem xdb:sf 87:=rfl
theorem xda:sf 88:=rfl
theorem o9:sf 89:=rfl
theorem sT:sf 90:=rfl
theorem xc9:sf 91:=rfl
theorem xiM:T.sg 92=⟨[],[0]⟩:=rfl
theorem xiL:T.sg 93=⟨[],[0]⟩:=rfl
theorem Rl:sf 94:=rfl
theorem sS:sf 95:=rfl
theorem xlJ:sf 96:=rfl
theorem xlI:sf 97:=rfl
theorem Rk:sf 98:=rfl
theorem xiK:sf 99:=rfl
theorem D2:sf 100:=rfl
theorem xhb:sf 101:=rfl
theorem xha:sf 104:=rfl
theorem xg9:sf 105:=rfl
theorem xg8:sf 106:=rfl
theorem xg6:sf 108:=rfl
theorem wV:sf 109:=rfl
theorem pb:sf 110:=rfl
theorem YK:sf 111:=rfl
theorem xg5:sf 112:=rfl
theorem xg4:sf 115:=rfl
theorem YJ:sf 116:=rfl
theorem YI:sf 117:=rfl
theorem YH:sf 118:=rfl
theorem YG:sf 119:=rfl
theorem xg3:sf 120:=rfl
theorem xg2:sf 121:=rfl
theorem D1:sf 122:=rfl
theorem YF:sf 123:=rfl
theorem xg1:sf 124:=rfl
theorem xg0:sf 127:=rfl
theorem YE:sf 128:=rfl
theorem YD:sf 129:=rfl
theorem YC:sf 131:=rfl
theorem xgZ:sf 132:=rfl
theorem YB:sf 133:=rfl
theorem xgY:sf 134:=rfl
theorem YA:T.sg 135=⟨[],[0]⟩:=rfl
theorem Yz:sf 136:=rfl
theorem xgX:sf 137:=rfl
theorem Om:sf 139:=rfl
theorem xgW:sf 140:=rfl
theorem Ol:sf 141:=rfl
theorem xgU:sf 144:=rfl
theorem xgT:sf 145:=rfl
theorem xgS:sf 146:=rfl
theorem xgR:sf 147:=rfl
theorem Yy:sf 153:=rfl
theorem xgQ:sf 154:=rfl
theorem Yx:sf 156:=rfl
theorem qw:sf 157:=rfl
theorem Yw:T.sg 158=⟨[],[0]⟩:=rfl
theorem jJ:sf 167:=rfl
theorem wU:sf 170:=rfl
theorem xgP:sf 171:=rfl
theorem wT:sf 172:=rfl
theorem wS:T.sg 173=⟨[],[0]⟩:=rfl
theorem kG:sf 189:=rfl
theorem kF:sf 190:=rfl
theorem xdS(c:CSt):run T Np c=run T N7 c:=rfl
theorem xaQ(c:CSt):run T lH c=run T yS c:=rfl
theorem xaP(c:CSt):run T tn c=run T yR c:=rfl
theorem xaK(c:CSt):run T pX c=run T yM c:=rfl
theorem xaJ(c:CSt):run T pW c=run T yL c:=rfl
theorem xaI(c:CSt):run T xK c=run T yK c:=rfl
theorem xaH(c:CSt):run T xJ c=run T yJ c:=rfl
theorem xd4(c:CSt):run T DJ c=run T Oj c:=rfl
theorem xaG(c:CSt):run T te c=run T yI c:=rfl
theorem xd3(c:CSt):run T NX c=run T Oi c:=rfl
theorem xaF(c:CSt):run T xI c=run T yH c:=rfl
theorem xaE(c:CSt):run T xH c=run T yG c:=rfl
theorem xaD(c:CSt):run T pT c=run T yF c:=rfl
theorem xd2(c:CSt):run T NS c=run T Oh c:=rfl
theorem xaC(c:CSt):run T xG c=run T yE c:=rfl
theorem xaB(c:CSt):run T lG c=run T yD c:=rfl
theorem xaA(c:CSt):run T xF c=run T yC c:=rfl
theorem xaz(c:CSt):run T jC c=run T yB c:=rfl
theorem xay(c:CSt):run T xE c=run T yA c:=rfl
theorem xax(c:CSt):run T xD c=run T yz c:=rfl
theorem xd1(c:CSt):run T NM c=run T Og c:=rfl
theorem xd0(c:CSt):run T NK c=run T Of c:=rfl
theorem xaw(c:CSt):run T xC c=run T yy c:=rfl
theorem xdZ(c:CSt):run T NH c=run T Oe c:=rfl
theorem xav(c:CSt):run T xB c=run T yx c:=rfl
theorem xau(c:CSt):run T xA c=run T yw c:=rfl
theorem xat(c:CSt):run T xy c=run T yv c:=rfl
theorem xas(c:CSt):run T xx c=run T yu c:=rfl
theorem xar(c:CSt):run T xw c=run T yr c:=rfl
theorem xaq(c:CSt):run T ta c=run T yq c:=rfl
theorem xdY(c:CSt):run T Nz c=run T Od c:=rfl
theorem xap(c:CSt):run T xu c=run T yp c:=rfl
theorem xao(c:CSt):run T xq c=run T yo c:=rfl
theorem xdX(c:CSt):run T Nw c=run T Oc c:=rfl
theorem xan(c:CSt):run T xo c=run T yn c:=rfl
theorem xdW(c:CSt):run T Ns c=run T Ob c:=rfl
theorem xdV(c:CSt):run T Nr c=run T Oa c:=rfl
theorem xam(c:CSt):run T xl c=run T ym c:=rfl
theorem xal(c:CSt):run T xk c=run T yl c:=rfl
theorem xak(c:CSt):run T s9 c=run T yk c:=rfl
theorem xaj(c:CSt):run T xh c=run T yj c:=rfl
theorem xai(c:CSt):run T xg c=run T yi c:=rfl
theorem xdU(c:CSt):run T DD c=run T N9 c:=rfl
theorem xdT(c:CSt):run T RH c=run T N8 c:=rfl
theorem xa2(c:CSt):run T MM c=run T y9 c:=rfl
theorem xa1(c:CSt):run T MF c=run T y8 c:=rfl
theorem xa0(c:CSt):run T x5 c=run T y7 c:=rfl
theorem xaZ(c:CSt):run T Md c=run T y6 c:=rfl
theorem xaY(c:CSt):run T x0 c=run T y5 c:=rfl
theorem Ps(c:CSt):run T rX c=run T sP c:=rfl
theorem xaX(c:CSt):run T xX c=run T yZ c:=rfl
theorem xaW(c:CSt):run T xV c=run T yY c:=rfl
theorem xaV(c:CSt):run T xT c=run T yX c:=rfl
theorem Pq(c:CSt):run T rW c=run T sO c:=rfl
theorem xaU(c:CSt):run T xS c=run T yW c:=rfl
theorem Pp(c:CSt):run T fK c=run T sN c:=rfl
theorem xaT(c:CSt):run T xR c=run T yV c:=rfl
theorem Po(c:CSt):run T rV c=run T sM c:=rfl
theorem Pn(c:CSt):run T rU c=run T sL c:=rfl
theorem Pm(c:CSt):run T rT c=run T sK c:=rfl
theorem Pk(c:CSt):run T Ax c=run T sJ c:=rfl
theorem xaS(c:CSt):run T Kw c=run T yU c:=rfl
theorem xaR(c:CSt):run T xQ c=run T yT c:=rfl
theorem Pj(c:CSt):run T rS c=run T sI c:=rfl
theorem Pi(c:CSt):run T fJ c=run T sH c:=rfl
theorem Ph(c:CSt):run T rR c=run T sG c:=rfl
theorem xaO(c:CSt):run T xO c=run T yQ c:=rfl
theorem xaN(c:CSt):run T xN c=run T yP c:=rfl
theorem Pg(c:CSt):run T ou c=run T sF c:=rfl
theorem xaM(c:CSt):run T xM c=run T yO c:=rfl
theorem xaL(c:CSt):run T xL c=run T yN c:=rfl
theorem Pe(c:CSt):run T zN c=run T sE c:=rfl
theorem xjp:bS prog 9 F9:=Fk func9
theorem xe9:bS prog 10 F10:=Fk func10
theorem xe8:bS prog 13 F13:=Fk func13
theorem xe7:bS prog 15 F15:=Fk func15
theorem xe6:bS prog 16 F16:=Fk func16
theorem xe5:bS prog 17 F17:=Fk func17
theorem xe4:bS prog 18 F18:=Fk func18
theorem xe3:bS prog 19 F19:=Fk func19
theorem xe2:bS prog 21 F21:=Fk func21
theorem xe1:bS prog 28 F28:=Fk func28
theorem xe0:bS prog 29 F29:=Fk func29
theorem xeZ:bS prog 31 F31:=Fk func31
theorem xeY:bS prog 33 F33:=Fk func33
theorem xeX:bS prog 34 F34:=Fk func34
theorem xeW:bS prog 35 F35:=Fk func35
theorem xeV:bS prog 36 F36:=Fk func36
theorem xeU:bS prog 37 F37:=Fk func37
theorem xeT:bS prog 38 F38:=Fk func38
theorem xeS:bS prog 39 F39:=Fk func39
theorem xeR:bS prog 40 F40:=Fk func40
theorem xeQ:bS prog 42 F42:=Fk func42
theorem xeP:bS prog 43 F43:=Fk func43
theorem xeO:bS prog 44 F44:=Fk func44
theorem xeN:bS prog 45 F45:=Fk func45
theorem xeM:bS prog 46 F46:=Fk func46
theorem xeL:bS prog 48 F48:=Fk func48
theorem xeK:bS prog 49 F49:=Fk func49
theorem xeJ:bS prog 50 F50:=Fk func50
theorem xeI:bS prog 51 F51:=Fk func51
theorem xeH:bS prog 52 F52:=Fk func52
theorem xeG:bS prog 53 F53:=Fk func53
theorem xeF:bS prog 54 F54:=Fk func54
theorem xeE:bS prog 55 F55:=Fk func55
theorem xeD:bS prog 56 F56:=Fk func56
theorem xeC:bS prog 57 F57:=Fk func57
theorem xeB:bS prog 58 F58:=Fk func58
theorem xeA:bS prog 65 F65:=Fk func65
theorem xez:bS prog 70 F70:=Fk func70
theorem xey:bS prog 71 F71:=Fk func71
theorem xex:bS prog 72 F72:=Fk func72
theorem xew:bS prog 73 F73:=Fk func73
theorem xev:bS prog 75 F75:=Fk func75
theorem xeu:bS prog 76 F76:=Fk func76
theorem xet:bS prog 77 F77:=Fk func77
theorem xes:bS prog 78 F78:=Fk func78
theorem xer:bS prog 79 F79:=Fk func79
theorem xeq:bS prog 80 F80:=Fk func80
theorem xep:bS prog 81 F81:=Fk func81
theorem xeo:bS prog 82 F82:=Fk func82
theorem xen:bS prog 85 F85:=Fk func85
theorem xem:bS prog 86 F86:=Fk func86
theorem xel:bS prog 87 F87:=Fk func87
theorem xek:bS prog 88 F88:=Fk func88
theorem xej:bS prog 89 F89:=Fk func89
theorem xei:bS prog 90 F90:=Fk func90
theorem xeh:bS prog 91 F91:=Fk func91
theorem xeg:bS prog 92 F92:=Fk func92
theorem xef:bS prog 93 F93:=Fk func93
theorem xee:bS prog 94 F94:=Fk func94
theorem xed:bS prog 95 F95:=Fk func95
theorem xec:bS prog 96 F96:=Fk func96
theorem xeb:bS prog 97 F97:=Fk func97
theorem xea:bS prog 98 F98:=Fk func98
theorem xd9:bS prog 99 F99:=Fk func99
theorem xbR:bS prog 100 Zx:=Fk func100
theorem xbQ:bS prog 101 Zw:=Fk func101
theorem xbP:bS prog 104 Zv:=Fk func104
theorem xbO:bS prog 105 Zu:=Fk func105
theorem xbN:bS prog 106 Zt:=Fk func106
theorem xbM:bS prog 108 Zs:=Fk func108
theorem xbL:bS prog 109 Zr:=Fk func109
theorem xbK:bS prog 110 Zq:=Fk func110
theorem xbJ:bS prog 111 Zp:=Fk func111
theorem xbI:bS prog 112 Zo:=Fk func112
theorem xbH:bS prog 115 Zn:=Fk func115
theorem xbG:bS prog 116 Zm:=Fk func116
theorem xbF:bS prog 117 Zl:=Fk func117
theorem xbE:bS prog 118 Zk:=Fk func118
theorem xbD:bS prog 119 Zj:=Fk func119
theorem xbC:bS prog 120 Zi:=Fk func120
theorem xbB:bS prog 121 Zh:=Fk func121
theorem xbA:bS prog 122 Zg:=Fk func122
theorem xbz:bS prog 123 Zf:=Fk func123
theorem xby:bS prog 124 Ze:=Fk func124
theorem xbx:bS prog 127 Zd:=Fk func127
theorem xbw:bS prog 128 Zc:=Fk func128
theorem xbv:bS prog 129 Zb:=Fk func129
theorem xbu:bS prog 131 Za:=Fk func131
theorem xbt:bS prog 132 Y9:=Fk func132
theorem xbs:bS prog 133 Y8:=Fk func133
theorem xbr:bS prog 134 Y7:=Fk func134
theorem xbq:bS prog 135 Y6:=Fk func135
theorem xbp:bS prog 136 Y5:=Fk func136
theorem xbo:bS prog 137 Y4:=Fk func137
theorem xbn:bS prog 139 Y3:=Fk func139
theorem xbm:bS prog 140 Y2:=Fk func140
theorem xbl:bS prog 141 Y1:=Fk func141
theorem xbk:bS prog 144 Y0:=Fk func144
theorem xbj:bS prog 145 YZ:=Fk func145
theorem xbi:bS prog 146 YY:=Fk func146
theorem xbh:bS prog 147 YX:=Fk func147
theorem xbg:bS prog 153 YW:=Fk func153
theorem xbf:bS prog 154 YV:=Fk func154
theorem xbe:bS prog 156 YU:=Fk func156
theorem xbd:bS prog 157 YT:=Fk func157
theorem xbc:bS prog 158 YS:=Fk func158
theorem xbb:bS prog 167 YR:=Fk func167
theorem xba:bS prog 170 YQ:=Fk func170
theorem xa9:bS prog 171 YP:=Fk func171
theorem xa8:bS prog 172 YO:=Fk func172
theorem xa7:bS prog 173 YN:=Fk func173
theorem xa6:bS prog 189 YM:=Fk func189
theorem xa5:bS prog 190 YL:=Fk func190
set_option maxHeartbeats 4000000 in
theorem Z2:wM prog T:=by
 intro g b h;simp only[T]at h;unfold xhf at h;split at h
 ·cases h;exact xjp
 ·cases h;exact xe9
 ·cases h;exact xe8
 ·cases h;exact xe7
 ·cases h;exact xe6
 ·cases h;exact xe5
 ·cases h;exact xe4
 ·cases h;exact xe3
 ·cases h;exact xe2
 ·cases h;exact xe1
 ·cases h;exact xe0
 ·cases h;exact xeZ
 ·cases h;exact xeY
 ·cases h;exact xeX
 ·cases h;exact xeW
 ·cases h;exact xeV
 ·cases h;exact xeU
 ·cases h;exact xeT
 ·cases h;exact xeS
 ·cases h;exact xeR
 ·cases h;exact xeQ
 ·cases h;exact xeP
 ·cases h;exact xeO
 ·cases h;exact xeN
 ·cases h;exact xeM
 ·cases h;exact xeL
 ·cases h;exact xeK
 ·cases h;exact xeJ
 ·cases h;exact xeI
 ·cases h;exact xeH
 ·cases h;exact xeG
 ·cases h;exact xeF
 ·cases h;exact xeE
 ·cases h;exact xeD
 ·cases h;exact xeC
 ·cases h;exact xeB
 ·cases h;exact xeA
 ·cases h;exact xez
 ·cases h;exact xey
 ·cases h;exact xex
 ·cases h;exact xew
 ·cases h;exact xev
 ·cases h;exact xeu
 ·cases h;exact xet
 ·cases h;exact xes
 ·cases h;exact xer
 ·cases h;exact xeq
 ·cases h;exact xep
 ·cases h;exact xeo
 ·cases h;exact xen
 ·cases h;exact xem
 ·cases h;exact xel
 ·cases h;exact xek
 ·cases h;exact xej
 ·cases h;exact xei
 ·cases h;exact xeh
 ·cases h;exact xeg
 ·cases h;exact xef
 ·cases h;exact xee
 ·cases h;exact xed
 ·cases h;exact xec
 ·cases h;exact xeb
 ·cases h;exact xea
 ·cases h;exact xd9
 ·cases h;exact xbR
 ·cases h;exact xbQ
 ·cases h;exact xbP
 ·cases h;exact xbO
 ·cases h;exact xbN
 ·cases h;exact xbM
 ·cases h;exact xbL
 ·cases h;exact xbK
 ·cases h;exact xbJ
 ·cases h;exact xbI
 ·cases h;exact xbH
 ·cases h;exact xbG
 ·cases h;exact xbF
 ·cases h;exact xbE
 ·cases h;exact xbD
 ·cases h;exact xbC
 ·cases h;exact xbB
 ·cases h;exact xbA
 ·cases h;exact xbz
 ·cases h;exact xby
 ·cases h;exact xbx
 ·cases h;exact xbw
 ·cases h;exact xbv
 ·cases h;exact xbu
 ·cases h;exact xbt
 ·cases h;exact xbs
 ·cases h;exact xbr
 ·cases h;exact xbq
 ·cases h;exact xbp
 ·cases h;exact xbo
 ·cases h;exact xbn
 ·cases h;exact xbm
 ·cases h;exact xbl
 ·cases h;exact xbk
 ·cases h;exact xbj
 ·cases h;exact xbi
 ·cases h;exact xbh
 ·cases h;exact xbg
 ·cases h;exact xbf
 ·cases h;exact xbe
 ·cases h;exact xbd
 ·cases h;exact xbc
 ·cases h;exact xbb
 ·cases h;exact xba
 ·cases h;exact xa9
 ·cases h;exact xa8
 ·cases h;exact xa7
 ·cases h;exact xa6
 ·cases h;exact xa5
 ·cases h;exact Pr.p130_ok
 ·cases h;exact Pr.p107_ok
 ·cases h;exact Pr.p142_ok
 ·cases h;exact Pr.p138_ok
 ·cases h
attribute [go_sem] SV.kclip Tok.kc O7 xf4 xf3 xkO ik tp OG DP N0 lK Rw DL jn List.all_replicate BC BB OJ Z1 Pv Px Pw E4 Py PB qJ PA Pz aq.injEq xjm xdN xfL xbX xbS wh Ct Cu xb5 ZL DV Cw am cB df ax Re Rf xcX F0 Ff CV Cm Cn Tok.ids kM aS af bO Int.natCast_nonneg Int.ofNat_lt Int.ofNat_le Int.ofNat_inj EK O3 EO O5 O6 xdq Ot xdr ZJ ZI ZE xdx xdy xdv xi0 Oo On xdp xdz ZF ZA ZB ZC Oq xdt Ee Ef ZN ZM xdu xds ZK xdw ZG ZH ZD xjl xjk xjn Z7 xdO xcq xj3 xj4 xj1 xj2 xj5 P5 xcr P9 O2 EP CK O4 EM xcp CM CN EV EW xco PQ xkG xkI xkH pr CY xfc PK xfe xb3 xb2 xbY xfn xfo xfi xjq PG PF xfa xfp xbZ xbT xbU xbV PJ xfg E7 E8 xb7 xb6 xfh xff xb4 xfl xb0 xb1 xbW PI xfb xfm xjr xfd PH xfq xfj xb8 Rj Du mkE xc0 stC Ep apS apB apL Rh cpC cp2 cpB cpL Z8 xa4 BD M1 BE BF kR kT MY BH BI Z0 OC xfM xca xci xch PV Fx Fw C3 PU C5 FA PW C4 wo E9 Fb PM xi9 xi7 xi8 ON Z3 xfZ xf2 xf1 xf0 Gb QY xjx xjv xjw PP xcd E0 xd7 xd5 xd6 EZ Pu FW Dp Dq xfO xfN Ql DO Yj Yd s6 Rt Yk Gl DA DB tv X4 oK pu mj DY DX Yc lenC Yg DQ DR tz XZ DS DM tt ei jd u9 ip hU xc5 j8 cR evL CSt.purge wq xa Nj Nm mi D8 lW ka nJ dH fE psC Tok.readyC aC.wf SV.bare SV.bareL jL jM rL jy dQ cr dz gq gz fB dq nW dX qr qt l7 qm jI iG EB Cx OY Ew EC EA Cv vG OZ Ey O1 ED CG vK CD vJ EE Cz CE CC vH vI tM EF CA EH CF Cy EG CB Eu O0 Ez N5 F6 QU QV Qn Qp Qq Qo Rc Es OP OV OU OT OS OR OQ xcz xcs xcx xcy xcw xcv xcu xct PE PD PC P2 P1 PY PX P0 PZ Rb xcW eF CSt.publish kQ lx np SV.pub SV.pubL v6 gcC qj OH qH kK fM gN tks nt D4 qu dr N4 vn gS jF SV.num lF ir toB rows tw gC fA gv Tok.eat SV.one SV.data SV.isData SV.cells SV.isDef SV.purge SV.purgeL aC.purge bm bN Tok.purge SV.ren SV.renL aC.ren Tok.ren SV.ids SV.idsL SV.toks SV.toksL aC.ids aC.toks iw j7 inR oj eY id_eq ay bl aV aK bf cf dU beq_self_eq_true bF bQ List.getD_nil List.take_succ_cons List.take_zero List.take_nil bh List.drop_succ_cons List.drop_nil aG eU cN List.flatten_nil List.contains_nil List.contains_cons List.isEmpty_nil List.isEmpty_cons iv List.all_nil List.set_cons_zero List.set_cons_succ bj Option.getD_none bo Option.map_none Option.toList_some Option.toList_none cP Option.isNone_none Option.isNone_some Option.isSome_none Option.isSome_some Bool.or_false Bool.true_or Bool.or_true Bool.false_or Bool.and_self Bool.and_true Bool.true_and Bool.and_false Bool.false_and Bool.not_true Bool.not_false aI Bool.true_eq_false Bool.not_eq_true Bool.not_eq_false decide_eq_true_eq decide_eq_false_iff_not and_true true_and and_self or_false false_or or_true true_or not_true_eq_false not_false_eq_true ne_eq Int.toNat_natCast true_implies false_implies implies_true decide_true decide_false Nat.lt_irrefl Nat.not_lt_zero aN bD eq_self and_false false_and M0 mvC xid XW xb9 xfk clA cl2 clC
attribute [go_sem] Fm Fs Fz Fi Ld Fa Ln Ia Mv Bb Bc Ca Pf Pt So Kk Kc Fy Fr Sr Lt Mc Mb Bk Sq Zq0 Zq1 Zq2 Zq3 xm xs xi ci om omk on oo xho xhn Pd xhm xhl xhk xhj xhi xhh xhg RF RE RD Nq RB RA Rz Ry Rx N7 F9 xdS r9 XS XR XQ XP XO XN F10 r10 vY XM vX XL ku XK tj XJ XI XH Kq Kp Ko xP Kn Km Kj Ki Kh Kg Kf Ke jD yS yR F13 xaQ xaP r13 ot XG lR XF XE XD XC F15 r15 vW XB th XA Xz Xy Xx Xw V9 V8 Jm Jl Jk Jj Ji Jh Jg Jf Je Jd Jc Jb yM yL F16 xaK xaJ r16 V7 V6 V5 V4 V3 V2 V1 V0 VZ VY IV IU IT IS IR IQ IP IN IM pV IL IK IJ II IH IG IF IE pU ID IC yK yJ F17 xaI xaH r17 DK VX oq tc VW VV VU VT tg IA Iz Iy td Oj yI F18 xd4 xaG r18 qp VS VR VQ VP Oi F19 xd3 r19 VO VN VM F21 r21 VL VK NW NV VJ VI VH VG VF VE Ix Iw Iv Iu It Is Ir Iq Ip Io yH yG yF F28 xaF xaE xaD r28 VD VC VB VA F29 r29 NU Vz ol Vy Vx Vw Vv Vu Vt In Im F31 r31 jc Vs vV Vr F33 r33 lQ Vq F34 r34 Vp Vo Vn Vm Vl Vk Vj Vi Vh Il Ik F35 r35 Vg F36 r36 NT Vf Ve Vd Vc Vb Va U9 U8 Ij Ii Oh F37 xd2 r37 U7 U6 U5 U4 U3 U2 U1 U0 Ih Ig If Ie yE yD F38 xaC xaB r38 NR UZ UY UX NQ UW UV UU UT Ic Ib H9 H8 H7 H6 H5 H4 H3 H2 HZ HY HX yC yB yA F39 xaA xaz xay r39 NP US NO UR F40 r40 vU UQ F42 r42 UP F43 r43 UO UN UM UL UK UJ UI HW HV HU HT yz F44 xax r44 UH nm NN UG UF UE UD pS Og F45 xd1 r45 UC UB UA Uz Uy Ux Uw F46 r46 NL Uv Uu Ut Us Ur Uq Up Uo Of F48 xd0 r48 Un Um F49 r49 Ul Uk F50 r50 NJ Uj Ui Uh Ug Uf HS HR HQ HP HO HN HM HK HJ HI yy F51 xaw r51 kt Ue Ud Uc Ub Ua T9 HH HG HF HE HD HC F52 r52 T8 F53 r53 T7 T6 T5 T4 NI T3 HB Hz F54 r54 T2 T1 T0 F55 r55 TZ TY TX F56 r56 TW TV TU TT TS TR TQ TP Oe F57 xdZ r57 TO F58 r58 lh TN TL TK DI TJ TI TH TG Hy Hx Hw Hv Hu Ht Hs Hr Hq Hp Ho Hn Hm xz Hl Hk Hj Hi Hh yx yw yv yu F65 xav xau xat xas r65 NG NF TF TE TD TC vT TB Hg Hf He Hd Hc yr F70 xar r70 TA Tz Ty F71 r71 Tx Tw Tv Tu Tt Ts Tr Tq Tp Hb Ha G9 yq F72 xaq r72 To Tn F73 r73 NE DH ND NC NB NA Od F75 xdY r75 Ny Tm F76 r76 Tl F77 r77 DF Tk F78 r78 Tj Ti Th Tg Tf Te Td Tc G8 G7 G6 G5 G4 G3 G2 G1 GZ GY GX GV GU yp yo F79 xap xao r79 Oc F80 xdX r80 Tb F81 r81 Nv Ta S9 S8 S7 S6 S5 F82 r82 Nu S4 S3 F85 r85 S2 S1 S0 SZ SY SX SW SU GT yn F86 xan r86 Nt SS F87 r87 SR SQ SP SN SM GS GR Ob F88 xdW r88 SL SK SJ SH DE F89 r89 SG SF SE SD SC SB SA Sz GQ GP GO GN GL GK GJ Oa ym F90 xdV xam r90 Sx Sw Sv Su Ss F91 r91 Sp Sn F92 r92 Sm Sl Sk Sj Si Sh Sg Sf GI GH GG GF GE xj GD yl yk F93 xal xak r93 Se F94 r94 Sd Sc Sb Sa R9 F95 r95 R8 R7 R6 R5 R4 R3 R2 GC GB GA Gz Gy Gx Gw Gv Gu Gt yj yi F96 xaj xai r96 RZ RY F97 r97 RX RW RU RT RS RR Gs N9 F98 xdU r98 RQ RP RO RN RM RL RK RJ RG N8 F99 xdT r99 MV MU MT MS Zx xib x9 x8 MR x7 MQ MP MO MN ML y9 Zw xa2 xia MK MJ MI MH MG ME y8 Zv xa1 xh9 MD MC MB MA Mz x6 My By Zu xh8 Mx Zt xh7 Mw Mu Mt Ms y7 Zs xa0 xh6 Mr Zr xh5 Mq Mp Mo Mn Zq xh4 Mm Zp xh3 Ml Mk Mj Mi Mh Mg Mf Me Bx y6 Zo xaZ xh2 Ma L9 Zn xh1 L8 L7 L6 L5 L4 L3 L2 L1 Bw y5 sP Zm xaY Ps xh0 nG xZ Zl xhZ L0 Zk xhY xY LZ LY LX xW yZ Zj xaX xhX LW Zi xhW LV LU LS LR LQ Zh xhV LP LO Zg xhU LN LM LL LK LJ yY Zf xaW xhT LI Ze xhS pY LH LG LF LD LC LA Lz Ly Zd xhR Lx Lw Lv Zc xhQ xU Lu Ls Lr Lq Zb xhP Lp Lo Lm Ll Lk Lj Li Lh yX sO Za xaV Pq xhO Lg Lf Le Lc K9 K8 K7 K6 Bv Bu Bt Bs Br Bq Bp Bo Bn Bm Bl Bj Bi Bh Bg Bf Be Bd Ba yW sN Y9 xaU Pp xhN K5 K4 K3 K2 K1 K0 KZ yV Y8 xaT xhM KY KX KW KV KU KT KS KR KQ A9 A8 A7 A6 A5 A4 A3 A1 AZ AY AX AW AV AU AT sM sL sK Y7 Po Pn Pm xhL KP KO KN KM KL KK KJ KI KH KG AS AR AQ AP AO AN AM AL AK AJ AI AH AG AF AE AD AC AB AA Az Ay sJ Y6 Pk xhK KF KE Y5 xhJ KD KC KB KA Kz Ky Kx Aw yU Y4 xaS xhI Kv Ku Kt Ks Kr yT Y3 xaR xhH Kd Kb Y2 xhG Ka Y1 xhF J9 J8 J7 J6 J5 J4 J3 Av Au At As Ar Aq Ap Ao An Am Al Ak Aj Ai Ah Ag Af Ae sI sH sG Y0 Pj Pi Ph xhE J2 J1 J0 JZ JY JX JW JV JU Ad Ac Ab Aa z9 z8 YZ xhD JT JS JR yQ YY xaO xhC JQ JP JO yP YX xaN xhB JN YW xhA JM JL JK JJ JI JH JG JF z7 z6 zZ zY zX zW zV zU zT zS sF YV Pg xhz YU xhy JE JD YT xhx JC JB JA Jz Jy Jx Jw yO yN YS xaM xaL xhw Jv Ju Jt Js Jr Jq Jp Jo Jn zQ YR xhv Ja YQ xhu I9 I8 YP xht I7 I6 YO xhs I5 I4 I3 I2 I1 I0 IZ IY IX IW zP zO zM zL zK zJ zI zH zG zF zE zD zC zB zA zy zx sE YN Pe xhr IB YM xhq YL xhp
end Go.Proofs.YtkcjdeofknkndaaGreatDoor