/- Code of functions, checked by the kernel. No condition. -/
import Derived.Test.YtbfnljmmepcbfaaGreatDoorProg
import Derived.Test.YtbfnljmmepcbfaaGreatDoorVaPC
import Derived.KernelRfl
open Bool renaming and_eq_true -> aD, false_eq_true -> aO, false_or -> tT
open List renaming append_assoc -> ay, append_nil -> bA, cons_append -> bp, drop_zero -> bj, flatten_cons -> cK, getD_cons_succ -> jk, length_append -> ae, length_cons -> al, length_map -> aV, length_nil -> aB, length_replicate -> dG, map_append -> co, map_cons -> aI, map_nil -> bO, mem_cons -> av, nil_append -> aF, not_mem_nil -> cG, replicate -> aL
open Nat renaming add_zero -> fm, le_refl -> aK, zero_add -> bY, zero_le -> aY
open Option renaming bind_some -> dp, getD_some -> aM, map_some -> bE, some -> ax
set_option maxRecDepth 100000
set_option linter.unusedVariables false
namespace Go.Proofs.YtbfnljmmepcbfaaGreatDoor
open Tryz
open Go.Sy
abbrev La:=List RI
abbrev Lb:=List FI
abbrev xm(d s:Nat):SI:=⟨some d,none,.mov (.t s)⟩
abbrev xs(d:Nat)(o:SOp):SI:=⟨some d,none,o⟩
abbrev xi(d g:Nat)(b:Bool)(o:SOp):SI:=⟨some d,some (g,b),o⟩
abbrev om(d s:Nat):RI:= .op (xm d s) []
abbrev omk(d s:Nat):RI:= .op (xm d s) [s]
abbrev on(d:Nat)(o:SOp):RI:= .op (xs d o) []
abbrev oo(d:Nat)(o:SOp)(k:List Nat):RI:= .op (xs d o) k
abbrev ci(n:Int):Arg:= .c (.int .i64 n)
abbrev Fm(n d s:Nat):FI:=⟨n,true,xm d s⟩
abbrev Fs(n d:Nat)(o:SOp):FI:=⟨n,true,xs d o⟩
abbrev Fz(n d:Nat)(o:SOp):FI:=⟨n,false,xs d o⟩
abbrev Fi(n d g:Nat)(b:Bool)(o:SOp):FI:=⟨n,true,xi d g b o⟩
abbrev Ld(s:Nat):SOp:= .load 1 false (.t s)
abbrev Fa(n s:Nat):SOp:= .faddr n (.t s)
abbrev Ln(s:Nat):SOp:= .len false (.t s)
abbrev Ia(n a b:Nat):SOp:= .iaddrL n (.t a) (.t b)
abbrev Mv(s:Nat):SOp:= .mov (.t s)
abbrev Bb(o:BinOp)(a b:Nat):SOp:= .bin o (.t a) (.t b)
abbrev Bc(o:BinOp)(a:Nat)(n:Int):SOp:= .bin o (.t a) (ci n)
abbrev Ca(f:Nat)(l:List Arg):SOp:= .call (.f f) l
abbrev Pf(a b:Nat):SOp:= .pick (.t a) (.t b) (.c (.bool false))
abbrev Pt(a b:Nat):SOp:= .pick (.t a) (.c (.bool true)) (.t b)
abbrev So(l:List RI)(x:RC):RC:= .seq (.ops l) x
abbrev Kk(l:List Nat)(x:RC):RC:= .pre [.kill l] x
abbrev Kc(n:Nat)(x y:RC):RC:= .cond (.t n) x y
abbrev Fy(n d g:Nat)(b:Bool)(o:SOp):FI:=⟨n,false,xi d g b o⟩
abbrev Fr(n k a x:Nat):FI:=⟨n,false,⟨none,none,.store k (.t a) (.t x)⟩⟩
abbrev Sr(n a x:Nat)(k:List Nat):RI:= .op ⟨none,none,.store n (.t a) (.t x)⟩ k
abbrev Lt(n s:Nat):SOp:= .load n true (.t s)
abbrev Mc(n:Int):SOp:= .mov (ci n)
abbrev Mb(b:Bool):SOp:= .mov (.c (.bool b))
abbrev Bk(n:Nat)(x:RC):RC:= .block n x
abbrev Sq(x y:RC):RC:= .seq x y
abbrev Zq0:List SV:=[.str [],.int .i64 0,.int .i64 0,.int .i64 0,.int .i64 0,.lst 4 [] .clip,.lst 4 [] .clip]
abbrev Zq1:List SV:=[.lst 2 [] .clip,.int .i64 0,.lst 7 [] .clip,.lst 2 [] .clip]
abbrev Zq2:List SV:=[.int .i64 0,.str [],.int .i64 0,.byt [] .clip]
abbrev Zq3:List SV:=[.int .i64 0,.str [],.int .i64 0,.int .i64 0]
abbrev Zq4:List SV:=[.byt [] .clip,.lst 2 [] .clip]
def cs0:List UInt8:=[0,1,2,2,3,3,3,3,4,4,4,4,4,4,4,4,5,5,5,5,5,5,5,5,5,5,5,5,5,5,5,5,6,6,6,6,6,6,6,6,6,6,6,6,6,6,6,6,6,6,6,6,6,6,6,6,6,6,6,6,6,6,6,6,7,7,7,7,7,7,7,7,7,7,7,7,7,7,7,7,7,7,7,7,7,7,7,7,7,7,7,7,7,7,7,7,7,7,7,7,7,7,7,7,7,7,7,7,7,7,7,7,7,7,7,7,7,7,7,7,7,7,7,7,7,7,7,7,8,8,8,8,8,8,8,8,8,8,8,8,8,8,8,8,8,8,8,8,8,8,8,8,8,8,8,8,8,8,8,8,8,8,8,8,8,8,8,8,8,8,8,8,8,8,8,8,8,8,8,8,8,8,8,8,8,8,8,8,8,8,8,8,8,8,8,8,8,8,8,8,8,8,8,8,8,8,8,8,8,8,8,8,8,8,8,8,8,8,8,8,8,8,8,8,8,8,8,8,8,8,8,8,8,8,8,8,8,8,8,8,8,8,8,8,8,8,8,8,8,8,8,8,8,8,8,8]
def jQ:List SV:=[.int .u32 1116352408,.int .u32 1899447441,.int .u32 3049323471,.int .u32 3921009573,.int .u32 961987163,.int .u32 1508970993,.int .u32 2453635748,.int .u32 2870763221,.int .u32 3624381080,.int .u32 310598401,.int .u32 607225278,.int .u32 1426881987,.int .u32 1925078388,.int .u32 2162078206,.int .u32 2614888103,.int .u32 3248222580,.int .u32 3835390401,.int .u32 4022224774,.int .u32 264347078,.int .u32 604807628,.int .u32 770255983,.int .u32 1249150122,.int .u32 1555081692,.int .u32 1996064986,.int .u32 2554220882,.int .u32 2821834349,.int .u32 2952996808,.int .u32 3210313671,.int .u32 3336571891,.int .u32 3584528711,.int .u32 113926993,.int .u32 338241895,.int .u32 666307205,.int .u32 773529912,.int .u32 1294757372,.int .u32 1396182291,.int .u32 1695183700,.int .u32 1986661051,.int .u32 2177026350,.int .u32 2456956037,.int .u32 2730485921,.int .u32 2820302411,.int .u32 3259730800,.int .u32 3345764771,.int .u32 3516065817,.int .u32 3600352804,.int .u32 4094571909,.int .u32 275423344,.int .u32 430227734,.int .u32 506948616,.int .u32 659060556,.int .u32 883997877,.int .u32 958139571,.int .u32 1322822218,.int .u32 1537002063,.int .u32 1747873779,.int .u32 1955562222,.int .u32 2024104815,.int .u32 2227730452,.int .u32 2361852424,.int .u32 2428436474,.int .u32 2756734187,.int .u32 3204031479,.int .u32 3329325298]
instance:bx:=⟨fun
 |1=>some jQ
 |_=>none⟩
abbrev Wa(a b:Nat):RI:=omk a b
abbrev Wb(a:Nat)(b:BinOp)(c:Nat)(d:Int):RI:=oo a (Bc b c d) [c]
abbrev Wc(a b:Nat):RI:=oo a (Ld b) [b]
abbrev We(a b c:Nat):FI:=Fs a b (Ld c)
abbrev Wf(a b c:Nat):RI:=on a (Fa b c)
abbrev Wg(a b c d:Nat):FI:=Fs a b (Fa c d)
abbrev Wh(a:Nat)(b:BinOp)(c d:Nat):RI:=oo a (Bb b c d) [c,d]
abbrev Wi(a b c:Nat):RI:=oo a (Pt b c) [b,c]
abbrev Wj(a b:Nat):RI:=oo a (Ln b) [b]
abbrev Wk(a b:Nat)(c:BinOp)(d e:Nat):FI:=Fs a b (Bb c d e)
abbrev Wm(a b c:Nat):RI:=oo a (Ca b [.t c]) [c]
abbrev Wn(a:Nat)(b:Int):RI:=on a (Mc b)
abbrev Wo(a b c:Nat)(d:Int):RI:=oo a (Ca b [.t c,ci d]) [c]
abbrev Wp(a b c:Nat):RI:=oo a (Lt b c) [c]
abbrev Wq(a b c:Nat):RI:=oo a (Fa b c) [c]
abbrev Wr(a b c:Nat):RI:=Sr a b c [c]
abbrev Ws(a b c:Nat):RI:=Sr a b c [c,b]
abbrev Wt(a b c d e:Nat):FI:=Fs a b (Ia c d e)
abbrev Wu(a b c d:Nat):FI:=Fs a b (Lt c d)
abbrev Wv(a b c d:Nat):RI:=oo a (Ca b [.t c,.t d]) [c,d]
abbrev Ww(a b:Nat):RI:=oo a (.toInt .u8 (.t b)) [b]
abbrev Wx(a b c:Nat):RI:=oo a (Pf b c) [b,c]
abbrev Wy(a b c d:Nat):RI:=oo a (.app [.u8 0] b (.t c) (.t d)) [c,d]
abbrev Wz(a b c:Nat)(d:Bool)(e:Nat):FI:=Fi a b c d (Mv e)
abbrev WA(a b:Nat):RI:=oo a (.nchk (.t b)) [b]
abbrev WB(a b c:Nat)(d:Bool)(e f:Nat):FI:=Fi a b c d (Fa e f)
abbrev WC(a b:Nat):RI:=oo a (.box (.t b)) [b]
abbrev WD(a b c:Nat)(d:Bool)(e:Nat):FI:=Fi a b c d (Ld e)
abbrev WE(a b:Nat)(c:BinOp)(d:Nat)(e:Int):FI:=Fs a b (Bc c d e)
abbrev WF(a b c:Nat):RI:=oo a (.ext (.t b) c) [b]
abbrev WG(a b:Nat):RI:=Sr a a b [b]
abbrev WH(a b c:Nat):RI:=on a (.ext (.t b) c)
abbrev WI(a b c d:Nat):RI:=oo a (Ia b c d) [c,d]
abbrev WJ(a b c d e:Nat):FI:=Fz a b (Ca c [.t d,.t e])
abbrev WK(a b c:Nat):FI:=Fs a b (.nchk (.t c))
abbrev WL(a b c:Nat):RI:=on a (Lt b c)
abbrev WM(a b c:Nat):RI:=oo a (.lit b [.t c]) [c]
abbrev WN(a b c d:Nat)(e:Int):FI:=Fz a b (Ca c [.t d,ci e])
abbrev WO(a:Nat)(b:BinOp)(c:Int)(d:Nat):RI:=oo a (.bin b (ci c) (.t d)) [d]
abbrev WP(a:Nat)(b:Bool):RI:=on a (Mb b)
abbrev WQ(a b:Nat)(c:BinOp)(d:Int)(e:Nat):FI:=Fs a b (.bin c (ci d) (.t e))
abbrev WR(a b c d:Nat):FI:=Fs a b (.iaddrA 64 1 (.t c) (.t d))
abbrev WS(a b c d:Nat):FI:=Fz a b (Ca c [.t d])
abbrev WT(a b c d:Nat)(e:Int):FI:=Fs a b (.iaddrL c (.t d) (ci e))
abbrev WU(a:Nat):RI:=on a (.new (.rc Zq0))
abbrev WV(a:Nat)(b:Int):RI:=oo a (Mc b) [a]
abbrev WW(a b:Nat):RI:=oo a (.litB [.t b]) [b]
abbrev WX(a:Nat)(b:Bool):RI:=oo a (Mb b) [a]
abbrev WY(a b:Nat):RI:=oo a (.un .not (.t b)) [b]
abbrev WZ(a b:Nat):RI:=oo a (.toInt .u64 (.t b)) [b]
abbrev W0(a b c d:Nat)(e:Int)(f:Nat):FI:=Fz a b (Ca c [.t d,ci e,.t f])
abbrev W1(a b c d:Nat):FI:=Fs a b (.ext (.t c) d)
abbrev W4(a b c:Nat)(d:Bool)(e f g:Nat):FI:=Fy a b c d (Ca e [.t f,.t g])
abbrev W5(a b:Nat)(c:Int)(d:Nat):RI:=oo a (Ca b [ci c,.t d]) [d]
abbrev W6(a b c d:Nat):FI:=Fs a b (.lit c [.t d])
abbrev W7(a:Nat):RI:=oo a (.mov (.c (.byt [] .clip))) [a]
abbrev W8(a b c d e:Nat):FI:=Fz a b (.app [.u8 0] c (.t d) (.t e))
abbrev W9(a:Nat):RI:=on a (.new (.rc Zq1))
abbrev Xa(a b c:Nat):FI:=Fs a b (.toInt .i64 (.t c))
abbrev Xb(a:Nat):RI:=on a (.mov (.c (.byt [] .clip)))
abbrev Xc(a b c:Nat)(d:Int)(e:Nat):RI:=oo a (Ca b [.t c,ci d,.t e]) [c,e]
abbrev Xd(a b:Nat):RI:=oo a (.b2s (.t b)) [b]
abbrev Xe(a b:Nat):RI:=oo a (.toInt .i64 (.t b)) [b]
abbrev Xf(a b c:Nat)(d:Int):FI:=Fs a b (.iaddrA 8 1 (.t c) (ci d))
abbrev Xg(a:Nat):RI:=on a (.build Zq1 [])
abbrev Xh(a:Nat):RI:=on a (.new (.rc Zq2))
abbrev Xi(a:Nat):RI:=on a (.mov (.c (.lst 1 [] .clip)))
abbrev Xj(a b c:Nat)(d:Int):RI:=oo a (.slcL b (.t c) none (some (ci d)) none) [c]
abbrev Xk(a:Nat)(b:BinOp)(c:Nat):RI:=oo a (.bin b (.t c) (.c (.int .u64 8))) [c]
abbrev Xl(a b:Nat):RI:=on a (.nchk (.t b))
abbrev Xm(a b c:Nat):FI:=Fs a b (.toInt .u8 (.t c))
abbrev Xn(a b c d e:Nat):RI:=oo a (Ca b [.t c,.t d,.t e]) [c,d,e]
abbrev Xo(a b c d e f:Nat):FI:=Fz a b (Ca c [.t d,.t e,.t f])
abbrev Xp(a b:Nat)(c:Int):RI:=on a (.iaddrA 8 1 (.t b) (ci c))
abbrev Xq(a:Nat):RI:=on a (.new (.rc [.byt [] .clip,.int .i64 0]))
abbrev Xr(a b c d e:Nat):FI:=Fs a b (.slcL c (.t d) none (some (.t e)) none)
abbrev Xs(a b c d e:Nat):FI:=Fz a b (.app [.int .i64 0] c (.t d) (.t e))
abbrev Xt(a:Nat):RI:=on a (.new (.rc Zq3))
abbrev Xu(a:Nat)(b:Bool)(c:Nat):RI:=oo a (.len b (.t c)) [c]
abbrev Xv(a b c d:Nat):RI:=oo a (.slcL b (.t c) none (some (.t d)) none) [c,d]
abbrev Xw(a b c d e:Nat):FI:=Fs a b (.slcL c (.t d) (some (.t e)) none none)
abbrev Xx(a b c d:Nat):RI:=oo a (.app [.int .i64 0] b (.t c) (.t d)) [c,d]
abbrev Xy(a b c d e f:Nat):RI:=oo a (Ca b [.t c,.t d,.t e,.t f]) [c,d,e,f]
abbrev Xz(a b c:Nat)(d:Int):RI:=oo a (.iaddrL b (.t c) (ci d)) [c]
abbrev XA(a b c d:Nat):RI:=oo a (.app [.byt [] .clip] b (.t c) (.t d)) [c,d]
abbrev XB(a b c:Nat):RI:=oo a (.app [.u8 0] b (.c (.byt [] .clip)) (.t c)) [c]
abbrev XC(a b:Nat)(c:BinOp)(d:Nat):FI:=Fs a b (.bin c (.t d) (.c (.int .u64 8)))
abbrev XD(a:Nat):RI:=oo a (.mov (.c (.lst 1 [] .clip))) [a]
abbrev XE(a b:Nat)(c:Bool)(d e f g:Nat)(h:Bool)(i j k:Nat)(l:Bool)(m:BinOp)(n:Nat)(o:Int):RI:= .grp 24 false [(xi a b c (Fa d e)),(xi f g h (Ld i)),(xi j k l (Bc m n o))] [25,26]
abbrev XF(a:Nat):RI:=on a (.new (.arr 1 (aL 64 [.int .u32 0])))
abbrev XG(a b c d e:Nat):RI:=oo a (.slcL b (.t c) (some (.t d)) (some (.t e)) none) [c,d,e]
abbrev XH(a b c:Nat)(d:Int):RI:=oo a (.slcL b (.t c) (some (ci d)) none none) [c]
abbrev XI(a:Nat)(b:BinOp)(c:Nat):RI:=oo a (.bin b (.t c) (.c (.int .u64 24))) [c]
abbrev XJ(a:Nat)(b:BinOp)(c:Nat):RI:=oo a (.bin b (.t c) (.c (.int .u64 16))) [c]
abbrev XK(a b c d e:Nat):RI:=oo a (.litB [.t b,.t c,.t d,.t e]) [b,c,d,e]
abbrev XL(a b c:Nat)(d e:Int):RI:=oo a (.slcL b (.t c) none (some (ci d)) (some (ci e))) [c]
abbrev XM(a b c:Nat):RI:=oo a (.call (.t b) [.t c]) [b,c]
abbrev XN(a b c d e:Nat):RI:=oo a (.lit b [.t c,.t d,.t e]) [c,d,e]
abbrev XO(a:Nat):RI:=on a (.new (.rc [.lst 2 [] .clip,.int .i64 0]))
abbrev XP(a b c d e:Nat):FI:=Fz a b (.app [.int .i64 0,.byt [] .clip] c (.t d) (.t e))
abbrev XQ(a b c d e:Nat):FI:=Fz a b (.app [.byt [] .clip,.int .i64 0] c (.t d) (.t e))
abbrev XR(a:Nat):RI:=on a (.new (.rc [.int .i64 0,.byt [] .clip]))
abbrev XS(n:Nat)(l:List Nat)(x:RC):RC:=Kc n (Kk [n] .skip) (Kk l x)
abbrev XT(n:Nat)(l:List Nat)(x:RC):RC:=Kc n (Kk l x) (Kk [n] .skip)
def xoa:La:=[WX 12 false]
def xn9:La:=[on 27 (Ca 9 []),WY 28 27]
def Jb:La:=[WP 12 false]
def xn8:La:=[Wa 29 3,Wa 30 4,Wv 31 10 29 30,XO 13,Wr 2 13 31]
def xtP:La:=[Wa 32 0,Wa 33 1,Wm 34 15 33,oo 35 (Ca 14 [.t 32,.t 34,ci 7]) [32,34],Wa 14 35]
def xtO:La:=[WL 37 2 13,Wm 38 11 37,Wa 36 38,WH 39 36 0,WF 40 36 1,W9 15,Wr 4 15 39,Wa 16 40]
def xtN:La:=[Wp 42 2 13,Wm 43 12 42,Wa 41 43,WH 44 41 0,WF 45 41 1,W9 17,Wr 4 17 44,Wa 18 45]
def xtM:La:=[Wa 46 16,Wa 47 18,Wh 48 .neq 46 47]
def xtL:La:=[Wa 49 2,Wo 50 16 49 20,Wa 19 50]
def Vu:La:=[Wn 20 0]
def xeX:La:=[om 51 20,om 52 14,Wj 53 52,Wh 54 .lss 51 53]
def xeW:La:=[om 57 14,om 58 19,om 59 14,Wj 60 59,Wv 61 17 58 60,WI 62 2 57 61,Wp 63 2 62,on 21 (.new (.rc Zq4)),Wr 2 21 63]
def xeV:La:=[om 64 19,Wo 65 17 64 8,Wa 22 65]
def xeU:La:=[om 66 22,Wf 67 1 21,Wc 68 67,Wj 69 68,Wh 70 .lss 66 69]
def xeT:La:=[Wf 71 1 21,Wc 72 71,Wa 73 22,Xv 74 2 72 73,Wf 75 1 21,Ws 1 75 74]
def xeS:La:=[om 76 19,Wo 77 17 76 9,Wb 78 .eql 77 8]
def xeR:La:=[om 79 5,Wo 80 18 79 60,Wf 81 0 21,Ws 1 81 80]
def xeQ:La:=[WL 83 4 15,WL 84 2 21,Wv 85 19 83 84,Wa 82 85,WH 86 82 0,WF 87 82 1,W9 23,Wr 4 23 86,Wa 24 87]
def xeP:La:=[WL 89 4 17,Wp 90 2 21,Wv 91 20 89 90,Wa 88 91,WH 92 88 0,WF 93 88 1,W9 25,Wr 4 25 92,Wa 26 93]
def xeO:La:=[om 94 24,Wa 95 26,Wh 96 .neq 94 95,Wa 97 96,.grp 97 false [(xi 98 97 false (Lt 4 23)),(xi 99 97 false (Lt 4 25)),(xi 100 97 false (Ca 13 [.t 98,.t 99])),(xi 101 97 false (.un .not (.t 100)))] [98,99,100],Wi 102 97 101]
def xeN:La:=[Wa 103 24,Wb 104 .eql 103 0]
def xeM:Lb:=[Wu 0 105 4 23,Wu 1 106 4 25,Fr 2 4 15 105,Fr 3 4 17 106]
def xeL:La:=[Wa 55 20,Wb 56 .add 55 1,Wa 20 56]
def IZ:RC:=(.post (Sq (So xeX (XS 54 [5,14,15,17,19,20,54] (.exit 0))) (Sq (Bk 1 (So xeW (Sq (So xeV (So xeU (Kc 70 (Kk [70] (.ops xeT)) (Kk [22,70] .skip)))) (Sq (So xeS (XT 78 [78] (.ops xeR))) (So xeQ (So xeP (Sq (So xeO (XT 102 [5,14,15,17,19,20,23,24,25,102] (So Jb .ret))) (So xeN (Kc 104 (Kk [104] (.flt [0,0,1,7] [] xeM [23,25,105,106])) (Kk [23,25,104] .skip)))))))))) (.ops xeL))) [.gc [121,123,125]])
def xw:RC:=IZ
def Vt:La:=[WP 12 true]
def r4:RC:=(So xoa (Sq (So xn9 (XT 28 [0,1,2,3,4,5,28] (So Jb .ret))) (So xn8 (So xtP (So xtO (So xtN (Sq (So xtM (XT 48 [2,5,14,15,17,48] (So Jb .ret))) (So xtL (Sq (So Vu (Bk 0 (.loop xw))) (So Vt .ret))))))))))
def F4:FnC:=⟨r4,107,[.tmp 12],[],[]⟩
def xtK:La:=[Wa 32 0,Wa 33 1,Wm 34 15 33,oo 35 (Ca 14 [.t 32,.t 34,ci 6]) [32,34],Wa 14 35]
def xtJ:La:=[om 36 14,Wj 37 36,Wa 38 2,Wv 39 30 37 38,Wa 15 39]
def xtI:La:=[WL 41 2 13,Wm 42 11 41,Wa 40 42,WH 43 40 0,WF 44 40 1,W9 16,Wr 4 16 43,Wa 17 44]
def xtH:La:=[Wp 46 2 13,Wm 47 11 46,Wa 45 47,WH 48 45 0,WF 49 45 1,W9 18,Wr 4 18 48,Wa 19 49]
def xtG:La:=[Wa 50 17,Wb 51 .neq 50 0,Wa 52 51,.grp 52 false [(xi 53 52 false (Mv 19)),(xi 54 52 false (Bc .neq 53 0))] [19,53],Wi 55 52 54]
def xcu:La:=[om 56 20,om 57 14,Wj 58 57,WO 59 .mul 2 58,Wh 60 .lss 56 59]
def xct:Lb:=[Wu 0 64 4 16,Fm 1 65 14,Fm 2 66 20,Fm 3 67 14,Fs 4 68 (Ln 67),Wk 5 69 .rem 66 68,Wt 6 70 2 65 69,Wu 7 71 2 70,WJ 8 72 19 64 71,Fm 9 63 72,W1 10 73 63 0,W1 11 74 63 1,Fz 12 21 (.new (.rc Zq1)),Fr 13 4 21 73,Fm 14 22 74]
def xcs:Lb:=[Wu 0 76 4 18,Fm 1 77 14,Fm 2 78 15,Fm 3 79 20,Fm 4 80 15,Fs 5 81 (Ln 80),Wk 6 82 .rem 79 81,Wt 7 83 1 78 82,We 8 84 83,Wt 9 85 2 77 84,Wu 10 86 2 85,WJ 11 87 19 76 86,Fm 12 75 87,W1 13 88 75 0,W1 14 89 75 1,Fz 15 23 (.new (.rc Zq1)),Fr 16 4 23 88,Fm 17 24 89]
def xcr:La:=[Wa 90 22,Wb 91 .neq 90 0,Wa 92 91,.grp 92 false [(xi 93 92 false (Mv 24)),(xi 94 92 false (Bc .neq 93 0))] [24,93],Wi 95 92 94]
def xcq:Lb:=[Wu 0 96 4 21,Wu 1 97 4 23,Fr 2 4 16 96,Fr 3 4 18 97]
def xcp:La:=[Wa 61 20,Wb 62 .add 61 1,Wa 20 62]
def IY:RC:=(.post (Sq (So xcu (XS 60 [14,15,20,60] (.exit 0))) (Sq (Bk 1 (Sq (.fla [0,0,0,0,8,28,62,126,255,511,1023,1023,0,6143,16383] [121] xct [[0,1,2,3,4,5,6,7,8,9,10,11,12,13,14],[0,1,2,3,4,5,6,7,12,8,9,10,11,13,14]] [63,64,65,66,67,68,69,70,71,72,73,74]) (Sq (.fla [0,0,0,0,0,16,56,124,252,510,1022,2047,4095,8191,8191,0,49151,131071] [123] xcs [[0,1,2,3,4,5,6,7,8,9,10,11,12,13,14,15,16,17],[0,1,2,3,4,5,6,7,8,9,10,15,11,12,13,14,16,17]] [75,76,77,78,79,80,81,82,83,84,85,86,87,88,89]) (Sq (So xcr (XT 95 [5,14,15,16,18,20,21,23,95] (So Jb .ret))) (.flt [0,0,1,7] [] xcq [21,23,96,97]))))) (.ops xcp))) [.gc [121,123]])
def xk:RC:=IY
def xco:La:=[Wn 25 0]
def xcn:La:=[om 98 25,Wf 99 2 16,Wc 100 99,Wj 101 100,Wh 102 .lss 98 101]
def xcm:La:=[Wn 26 0]
def xcl:La:=[om 105 26,om 106 25,Wh 107 .lss 105 106]
def xck:Lb:=[Wg 0 110 2 16,We 1 111 110,Fm 2 112 25,Wt 3 113 7 111 112,Wu 4 114 7 113,Wg 6 116 2 16,We 7 117 116,Fm 8 118 26,Wt 9 119 7 117 118,Wu 10 120 7 119,WS 5 115 32 114,WS 11 121 32 120,WJ 12 122 31 115 121]
def xcj:La:=[Wa 108 26,Wb 109 .add 108 1,Wa 26 109]
def IX:RC:=(Sq (So xcl (XS 107 [26,107] (.exit 4))) (Sq (Bk 5 (Sq (.flt [0,1,0,7,15,31,0,64,0,448,960,2047,4095] [] xck [110,111,112,113,114,115,116,117,118,119,120,121]) (XT 122 [5,16,18,25,26,122] (So Vt .ret)))) (.ops xcj)))
def tG:RC:=IX
def xci:La:=[Wa 103 25,Wb 104 .add 103 1,Wa 25 104]
def IW:RC:=(Sq (So xcn (XS 102 [25,102] (.exit 2))) (Sq (Bk 3 (So xcm (Bk 4 (.loop tG)))) (.ops xci)))
def tF:RC:=IW
def xch:La:=[Wa 123 5,Wo 124 21 123 45,Wa 5 124]
def xcg:Lb:=[Wu 0 125 4 16,Wu 1 126 4 18,WJ 2 127 13 125 126,Fm 3 128 127,Fi 4 129 128 true (Lt 4 16),Wz 5 130 128 true 5,Fi 7 132 128 true (Lt 4 18),Wz 8 133 128 true 5,W4 6 131 128 true 28 129 130,W4 9 134 128 true 28 132 133,W4 10 135 128 true 27 131 134,Fs 11 136 (Pf 128 135),Fm 12 12 136]
def r7:RC:=(So xoa (Sq (So xn9 (XT 28 [0,1,2,3,4,5,28] (So Jb .ret))) (So xn8 (So xtK (So xtJ (So xtI (So xtH (Sq (So xtG (XT 55 [5,14,15,16,18,55] (So Jb .ret))) (Sq (So Vu (Bk 0 (.loop xk))) (Sq (So xco (Bk 2 (.loop tF))) (So xch (Sq (.flt [0,0,3,7,15,15,63,15,15,511,1023,2047,4095] [] xcg [5,16,18,125,126,127,128,129,130,131,132,133,134,135,136]) .ret))))))))))))
def F7:FnC:=⟨r7,137,[.tmp 12],[],[]⟩
def xtF:La:=[WX 0 false]
def xtE:La:=[on 12 (Ca 10 [ci 0,ci 0]),Wm 13 11 12,Wa 11 13,WH 14 11 0,WF 15 11 1,W9 1,Wr 4 1 14,Wa 2 15]
def xtD:La:=[on 16 (.build Zq0 [(0,1,(.c (.str [118]))),(1,1,(ci 1)),(4,1,(ci 100))]),WU 3,Wr 7 3 16]
def xtC:La:=[on 17 (.build Zq0 [(0,1,(.c (.str [118]))),(1,1,(ci 2)),(2,1,(ci 2)),(3,1,(ci 10)),(4,1,(ci 100))]),WU 4,Wr 7 4 17]
def xtB:Lb:=[Wu 0 19 4 1,Wu 1 20 7 3,WS 2 21 34 20,WN 3 22 33 21 1,WJ 4 23 19 19 22,Fm 5 18 23,W1 6 24 18 0,W1 7 25 18 1,Fr 8 4 1 24,Fm 9 5 25]
def xtA:Lb:=[Wu 0 27 4 1,Wu 1 28 7 4,WS 2 29 34 28,WN 3 30 33 29 1,WJ 4 31 19 27 30,Fm 5 26 31,W1 6 32 26 0,W1 7 33 26 1,Fr 8 4 1 32,Fm 9 6 33]
def xtz:Lb:=[Wu 0 35 4 1,Wu 1 36 7 4,WS 2 37 36 36,Fs 3 38 (.build [.byt [] .clip,.int .i64 0] [(0,1,(.t 37)),(1,1,(ci 12))]),WS 4 39 35 38,WN 5 40 33 39 1,WJ 6 41 19 35 40,Fm 7 34 41,W1 8 42 34 0,W1 9 43 34 1,Fr 10 4 1 42,Fm 11 7 43]
def xty:Lb:=[Wu 0 44 4 1,Wu 2 46 4 1,Wu 4 48 4 1,WN 1 45 28 44 9,WN 3 47 28 46 10,WN 5 49 28 48 12,Fm 6 8 45,Fm 7 9 47,Fm 8 10 49]
def xtx:La:=[Wa 50 2,Wb 51 .eql 50 0,Wa 52 51,.grp 52 true [(xi 53 52 true (Mv 5)),(xi 54 52 true (Bc .eql 53 0))] [5,53],Wx 55 52 54,Wa 56 55,.grp 56 true [(xi 57 56 true (Mv 6)),(xi 58 56 true (Bc .eql 57 0))] [6,57],Wx 59 56 58,Wa 60 59,.grp 60 true [(xi 61 60 true (Mv 7)),(xi 62 60 true (Bc .eql 61 0))] [7,61],Wx 63 60 62,Wa 64 63,.grp 64 true [(xi 65 64 true (Mv 8)),(xi 66 64 true (Ln 65)),(xi 67 64 true (Bc .eql 66 1))] [65,66],Wx 68 64 67,Wa 69 68,.grp 69 true [(xi 70 69 true (Mv 8)),(xi 71 69 true (.iaddrL 7 (.t 70) (ci 0))),(xi 72 69 true (Fa 1 71)),(xi 73 69 true (Ld 72)),(xi 74 69 true (Bc .eql 73 1))] [8,70,71,72,73],Wx 75 69 74,Wa 76 75,.grp 76 true [(xi 77 76 true (Mv 9)),(xi 78 76 true (Ln 77)),(xi 79 76 true (Bc .eql 78 1))] [77,78],Wx 80 76 79,Wa 81 80,.grp 81 true [(xi 82 81 true (Mv 9)),(xi 83 81 true (.iaddrL 7 (.t 82) (ci 0))),(xi 84 81 true (Fa 1 83)),(xi 85 81 true (Ld 84)),(xi 86 81 true (Bc .eql 85 2))] [9,82,83,84,85],Wx 87 81 86,Wa 88 87,.grp 88 true [(xi 89 88 true (Mv 10)),(xi 90 88 true (Ln 89)),(xi 91 88 true (Bc .eql 90 0))] [10,89,90],Wx 92 88 91,Wa 93 92,.grp 93 true [(xi 94 93 true (Lt 4 1)),(xi 95 93 true (Ca 25 [.t 94,(.c (.str [118])),ci 12])),(xi 96 93 true (Bc .eql 95 2))] [1,94,95],Wx 97 93 96,Wa 0 97]
def r9:RC:=(So xtF (So xtE (So xtD (So xtC (Sq (.flt [0,0,2,6,15,31,63,63,127,511] [] xtB [3,18,19,20,21,22,23,24,25]) (Sq (.flt [0,0,2,6,15,31,63,63,127,511] [] xtA [26,27,28,29,30,31,32,33]) (Sq (.flt [0,0,2,6,14,30,63,127,255,255,511,2047] [] xtz [4,34,35,36,37,38,39,40,41,42,43]) (Sq (.flt [0,1,0,7,0,31,63,127,255] [] xty [44,45,46,47,48,49]) (So xtx .ret)))))))))
def F9:FnC:=⟨r9,98,[.tmp 0],[],[]⟩
def xhM:La:=[XO 4]
def xhL:La:=[XO 5]
def kq:La:=[Wn 6 0]
def xhK:La:=[om 7 6,om 8 0,Wo 9 21 8 3,Wh 10 .leq 7 9]
def xhJ:Lb:=[Wg 0 13 0 5,We 1 14 13,Fm 2 15 6,WQ 3 16 .mul 2 15,WQ 4 17 .add 3 16,Fm 5 18 6,WQ 6 19 .mul 2 18,WQ 7 20 .add 3 19,WS 8 21 38 20,WN 9 22 37 21 1,Fs 10 23 (.build [.int .i64 0,.byt [] .clip] [(0,1,(.t 17)),(1,1,(.t 22))]),W6 11 24 2 23,XP 12 25 32 14 24,Wg 13 26 0 5,Fr 14 1 26 25]
def VS:La:=[Wa 11 6,Wb 12 .add 11 1,Wa 6 12]
def X4:RC:=(Sq (So xhK (XS 10 [0,6,10] (.exit 0))) (Sq (Bk 1 (.flt [0,1,0,4,12,0,32,96,224,480,1020,2044,4095,8191,16383] [125] xhJ [13,14,15,16,17,18,19,20,21,22,23,24,25,26])) (.ops VS)))
def xhI:RC:=X4
def xhH:La:=[Wa 27 1,Wf 28 0 5,Wc 29 28,Wj 30 29,Wv 31 21 27 30,WO 32 .add 1 31,Wf 33 1 5,Ws 1 33 32]
def xhG:La:=[Wp 34 2 5,Wr 2 4 34]
def r10:RC:=(So xhM (So xhL (Sq (So kq (Bk 0 (.loop xhI))) (So xhH (So xhG .ret)))))
def F10:FnC:=⟨r10,35,[.cell 4 2 true],[],[]⟩
def VR:La:=[WC 1 0,W9 2,WV 3 0]
def xhF:La:=[WL 5 2 1,Wm 6 39 5,Wa 4 6]
def VQ:La:=[om 7 4,Wb 8 .neq 7 0]
def VP:La:=[Xg 9,Wa 10 4,Wr 4 2 9,Wa 3 10]
def VO:La:=[Wp 11 2 1,oo 12 (.build Zq1 [(0,2,(.t 11))]) [11],Wr 4 2 12,Wn 3 0]
def r11:RC:=(So VR (Sq (So xhF (So VQ (Kc 8 (Kk [1,8] (So VP .ret)) (Kk [4,8] .skip)))) (So VO .ret)))
def F11:FnC:=⟨r11,13,[.cell 2 4 true,.tmp 3],[],[]⟩
def xhE:La:=[WL 5 2 1,Wm 6 40 5,Wa 4 6]
def r12:RC:=(So VR (Sq (So xhE (So VQ (Kc 8 (Kk [1,8] (So VP .ret)) (Kk [4,8] .skip)))) (So VO .ret)))
def F12:FnC:=⟨r12,13,[.cell 2 4 true,.tmp 3],[],[]⟩
def AW:La:=[WC 2 0,WC 3 1,WX 4 false]
def xhD:La:=[Wf 7 2 2,Wc 8 7,Wf 9 2 3,Wc 10 9,Wv 11 27 8 10,WY 12 11,Wa 13 12,.grp 13 false [(xi 14 13 false (Fa 3 2)),(xi 15 13 false (Ld 14)),(xi 16 13 false (Ln 15)),(xi 17 13 false (Fa 3 3)),(xi 18 13 false (Ld 17)),(xi 19 13 false (Ln 18)),(xi 20 13 false (Bb .neq 16 19))] [14,15,16,17,18,19],Wi 21 13 20,Wa 22 21,.grp 22 false [(xi 23 22 false (Fa 0 2)),(xi 24 22 false (Fa 1 23)),(xi 25 22 false (Ld 24)),(xi 26 22 false (Fa 0 3)),(xi 27 22 false (Fa 1 26)),(xi 28 22 false (Ld 27)),(xi 29 22 false (Bb .neq 25 28))] [23,24,25,26,27,28],Wi 30 22 29,Wa 31 30,.grp 31 false [(xi 32 31 false (Fa 0 2)),(xi 33 31 false (Fa 0 32)),(xi 34 31 false (Ld 33)),(xi 35 31 false (Ln 34)),(xi 36 31 false (Fa 0 3)),(xi 37 31 false (Fa 0 36)),(xi 38 31 false (Ld 37)),(xi 39 31 false (Ln 38)),(xi 40 31 false (Bb .neq 35 39))] [32,33,34,35,36,37,38,39],Wi 41 31 40]
def mL:La:=[WP 4 false]
def pt:La:=[Wn 5 0]
def xhC:La:=[om 42 5,Wf 43 3 2,Wc 44 43,Wj 45 44,Wh 46 .lss 42 45]
def xhB:Lb:=[Wg 0 49 3 2,We 1 50 49,Fm 2 51 5,Wt 3 52 2 50 51,Wu 4 53 2 52,Wg 5 54 3 3,We 6 55 54,Fm 7 56 5,Wt 8 57 2 55 56,Wu 9 58 2 57,WJ 10 59 41 53 58,Fs 11 60 (.un .not (.t 59))]
def xhA:La:=[Wa 47 5,Wb 48 .add 47 1,Wa 5 48]
def X3:RC:=(Sq (So xhC (XS 46 [5,46] (.exit 0))) (Sq (Bk 1 (Sq (.flt [0,1,0,7,15,0,32,0,224,480,1023,2047] [] xhB [49,50,51,52,53,54,55,56,57,58,59]) (XT 60 [2,3,5,60] (So mL .ret)))) (.ops xhA)))
def VN:RC:=X3
def RO:La:=[om 61 6,Wf 62 0 2,Wq 63 0 62,Wc 64 63,Wj 65 64,Wh 66 .lss 61 65]
def RN:Lb:=[Wg 0 69 0 2,Wg 1 70 0 69,We 2 71 70,Fm 3 72 6,Wt 4 73 2 71 72,Wg 5 74 0 73,We 6 75 74,Wg 7 76 0 3,Wg 8 77 0 76,We 9 78 77,Fm 10 79 6,Wt 11 80 2 78 79,Wg 12 81 0 80,We 13 82 81,Wk 14 83 .neq 75 82,Fm 15 84 83,WB 16 85 84 false 0 2,WB 17 86 84 false 0 85,WD 18 87 84 false 86,Wz 19 88 84 false 6,Fi 20 89 84 false (Ia 2 87 88),WB 21 90 84 false 1 89,WD 22 91 84 false 90,WB 23 92 84 false 0 3,WB 24 93 84 false 0 92,WD 25 94 84 false 93,Wz 26 95 84 false 6,Fi 27 96 84 false (Ia 2 94 95),WB 28 97 84 false 1 96,WD 29 98 84 false 97,W4 30 99 84 false 31 91 98,Fi 31 100 84 false (.un .not (.t 99)),Fs 32 101 (Pt 84 100)]
def RM:La:=[Wa 67 6,Wb 68 .add 67 1,Wa 6 68]
def DF:RC:=(Sq (So RO (XS 66 [2,3,6,66] (.exit 2))) (Sq (Bk 3 (Sq (.flt [0,1,3,0,15,31,63,0,128,384,0,1920,3968,8064,16383,32767,65535,131071,262143,65535,1048575,2097151,4194303,65535,8454143,25231359,65535,125894655,260112383,528547839,1073741823,2147483647,4294967295] [] RN [69,70,71,72,73,74,75,76,77,78,79,80,81,82,83,84,85,86,87,88,89,90,91,92,93,94,95,96,97,98,99,100]) (XT 101 [2,3,6,101] (So mL .ret)))) (.ops RM)))
def Cy:RC:=DF
def s6:La:=[WP 4 true]
def r13:RC:=(So AW (Sq (So xhD (XT 41 [2,3,41] (So mL .ret))) (Sq (So pt (Bk 0 (.loop VN))) (Sq (So kq (Bk 2 (.loop Cy))) (So s6 .ret)))))
def F13:FnC:=⟨r13,102,[.tmp 4],[],[]⟩
def xhz:La:=[oo 6 (.mov (.c (.lst 2 [] .clip))) [6]]
def xhy:La:=[Wa 12 0,Wo 13 16 12 160,Wa 7 13]
def xhx:La:=[on 8 (.mov (.c (.lst 2 [] .clip)))]
def xhw:La:=[on 9 (.mov (.c (.lst 7 [] .clip)))]
def xhv:La:=[om 14 7,Wm 15 42 14,Wa 16 15,.grp 16 true [(xi 17 16 true (Mv 8)),(xi 18 16 true (Ln 17)),(xi 19 16 true (Mv 2)),(xi 20 16 true (Bb .lss 18 19))] [17,18,19],Wx 21 16 20]
def xhu:La:=[om 22 9,Wj 23 22,Wb 24 .gtr 23 0,Wa 25 24,.grp 25 true [(xi 26 25 true (Mv 7)),(xi 27 25 true (Ca 17 [.t 26,ci 3])),(xi 28 25 true (Bc .eql 27 2))] [26,27],Wx 29 25 28]
def xht:La:=[om 30 9,om 31 7,om 32 9,Wj 33 32,Wv 34 17 31 33,WI 35 7 30 34,Wp 36 7 35,oo 37 (Ca 36 [.t 36]) [36],Wa 10 37]
def xhs:La:=[om 38 7,Wo 39 17 38 5,Wb 40 .eql 39 4]
def xhr:La:=[om 41 7,Wo 42 17 41 3,Ww 43 42,WW 44 43,Wm 45 43 44,Wa 10 45]
def xhq:La:=[Wa 46 8,Wa 47 10,om 48 7,Wo 49 17 48 30,oo 50 (.build [.byt [] .clip,.int .i64 0] [(0,1,(.t 47)),(1,1,(.t 49))]) [47,49],Wm 51 35 50,Wo 52 33 51 7,WM 53 2 52,oo 54 (.app Zq4 48 (.t 46) (.t 53)) [46,53],Wa 8 54]
def QH:La:=[om 55 7,om 56 1,Wv 57 44 55 56,WU 11,Wr 7 11 57]
def QG:La:=[Wa 58 9,WL 59 7 11,WM 60 7 59,oo 61 (.app Zq0 96 (.t 58) (.t 60)) [58,60],Wa 9 61]
def QF:La:=[Wa 62 8,Wp 63 7 11,Wm 64 34 63,Wo 65 33 64 7,WM 66 2 65,oo 67 (.app Zq4 48 (.t 62) (.t 66)) [62,66],Wa 8 67]
def Dz:RC:=(.post (Sq (So xhv (XS 21 [1,2,7,9,21] (.exit 0))) (Bk 1 (Sq (So xhu (XT 29 [29] (So xht (Sq (So xhs (XT 40 [10,40] (.ops xhr))) (So xhq (.exit 1)))))) (So QH (So QG (.ops QF)))))) [.gc [111],.tok 8 108,.tok 9 109])
def kX:RC:=Dz
def QE:La:=[Wa 68 8,Wa 6 68]
def r14:RC:=(So xhz (So xhy (So xhx (So xhw (Sq (Bk 0 (.pre [.tok 8 108,.tok 9 109] (.loop kX))) (So QE .ret))))))
def F14:FnC:=⟨r14,69,[.tmp 6],[],[]⟩
def xhp:La:=[oo 2 (.mov (.c (.lst 4 [] .clip))) [2]]
def xho:La:=[Wa 10 0,Wo 11 16 10 200,Wa 3 11]
def xhn:La:=[on 4 (.mov (.c (.lst 4 [] .clip)))]
def xhm:La:=[Wn 5 1]
def xhl:La:=[om 12 5,Wb 13 .leq 12 4]
def xhk:La:=[om 16 3,oo 17 (Ca 17 [.t 16,ci 3]) [16],Wa 6 17]
def xhj:La:=[om 18 5,Wb 19 .eql 18 1,Wa 20 19,.grp 20 false [(xi 21 20 false (Mv 5)),(xi 22 20 false (Bc .eql 21 3))] [21],Wi 23 20 22]
def xhi:La:=[om 24 3,Wo 25 17 24 2,WO 26 .add 1 25,Wa 6 26]
def xhh:La:=[om 27 6,Wb 28 .gtr 27 0]
def xhg:La:=[om 31 3,om 32 5,Wv 33 45 31 32,Xh 7,Wr 4 7 33]
def PY:La:=[WP 8 false]
def Cr:La:=[Wn 9 0]
def PX:La:=[om 34 9,om 35 4,Wj 36 35,Wh 37 .lss 34 36]
def PW:Lb:=[Fm 0 40 8,Fm 1 41 40,Wz 2 42 41 false 4,Wz 3 43 41 false 9,Fi 4 44 41 false (Ia 4 42 43),WB 5 45 41 false 0 44,WD 6 46 41 false 45,WB 7 47 41 false 0 7,WD 8 48 41 false 47,Fi 9 49 41 false (Bb .eql 46 48),Wz 10 50 41 false 49,Wz 11 51 50 true 4,Wz 12 52 50 true 9,Fi 13 53 50 true (Ia 4 51 52),WB 14 54 50 true 1 53,WD 15 55 50 true 54,WB 16 56 50 true 1 7,WD 17 57 50 true 56,Fi 18 58 50 true (Bb .eql 55 57),Fi 19 59 41 false (Pf 50 58),Fs 20 60 (Pt 41 59),⟨21,false,(xm 8 60)⟩]
def PV:La:=[Wa 38 9,Wb 39 .add 38 1,Wa 9 39]
def Dy:RC:=(Sq (So PX (XS 37 [9,37] (.exit 4))) (Sq (Bk 5 (.flt [0,1,3,3,15,31,63,3,131,511,1023,2047,2047,8191,16383,32767,2047,67583,262143,524287,1048575,2097151] [] PW [40,41,42,43,44,45,46,47,48,49,50,51,52,53,54,55,56,57,58,59,60])) (.ops PV)))
def Cq:RC:=Dy
def PU:La:=[Wa 61 8,WY 62 61]
def PT:La:=[Wa 63 4,Wp 64 4 7,WM 65 4 64,oo 66 (.app Zq2 56 (.t 63) (.t 65)) [63,65],Wa 4 66]
def PS:La:=[Wa 29 6,Wb 30 .sub 29 1,Wa 6 30]
def Dx:RC:=(.post (Sq (So xhh (XS 28 [6,28] (.exit 2))) (Sq (Bk 3 (So xhg (So PY (Sq (So Cr (Bk 4 (.loop Cq))) (So PU (Kc 62 (Kk [62] (.ops PT)) (Kk [7,62] .skip))))))) (.ops PS))) [.gc [107],.tok 4 104])
def Cp:RC:=Dx
def PR:La:=[Wa 14 5,Wb 15 .add 14 1,Wa 5 15]
def Dw:RC:=(.post (Sq (So xhl (XS 13 [3,5,13] (.exit 0))) (Sq (Bk 1 (So xhk (Sq (So xhj (XT 23 [6,23] (.ops xhi))) (Bk 2 (.pre [.tok 4 104] (.loop Cp)))))) (.ops PR))) [.gc [107],.tok 4 104])
def sZ:RC:=Dw
def PQ:La:=[Wa 67 4,Wa 2 67]
def r15:RC:=(So xhp (So xho (So xhn (Sq (So xhm (Bk 0 (.pre [.tok 4 104] (.loop sZ)))) (So PQ .ret)))))
def F15:FnC:=⟨r15,68,[.tmp 2],[],[]⟩
def xhf:La:=[oo 4 (.mov (.c .nilp)) [4]]
def VM:La:=[om 5 0,Wj 6 5,om 7 1,Wh 8 .gtr 6 7]
def xhe:La:=[Wa 9 0,Wa 10 1,Xv 11 1 9 10,Wa 0 11]
def xhd:La:=[Wa 12 0,oo 13 (.build [.byt [] .clip,.int .i64 0] [(0,1,(.t 12))]) [12],WC 14 13,Wa 4 14]
def r16:RC:=(So xhf (Sq (So VM (Kc 8 (Kk [8] (.ops xhe)) (Kk [1,8] .skip))) (So xhd .ret)))
def F16:FnC:=⟨r16,15,[.tmp 4],[],[]⟩
def qf:La:=[WV 4 0]
def xhc:Lb:=[Fm 0 5 0,WK 1 6 5,Wg 2 7 1 6,We 3 8 7,Fm 4 9 0,WK 5 10 9,Wg 6 11 0 10,We 7 12 11,Fs 8 13 (Ln 12),Wk 9 14 .geq 8 13]
def iZ:La:=[Wn 4 0]
def xhb:La:=[om 15 0,Xl 16 15,Wq 17 1 16,Wc 18 17,Wb 19 .add 18 1,WA 20 15,Wq 21 1 20,Ws 1 21 19]
def xha:Lb:=[Fm 0 22 0,WK 1 23 22,Wg 2 24 0 23,We 3 25 24,Fm 4 26 0,WK 5 27 26,Wg 6 28 1 27,We 7 29 28,WE 8 30 .sub 29 1,Wt 9 31 1 25 30,We 10 32 31,Xa 11 33 32,Fm 12 34 1,Wk 13 35 .rem 33 34,Fm 14 4 35]
def r17:RC:=(So qf (Sq (Sq (.flt [0,1,3,7,0,16,48,112,240,511] [] xhc [5,6,7,8,9,10,11,12,13]) (XT 14 [0,1,14] (So iZ .ret))) (So xhb (Sq (.flt [0,1,3,7,0,16,48,112,240,511,1023,2047,0,8191,16383] [] xha [0,1,22,23,24,25,26,27,28,29,30,31,32,33,34,35]) .ret))))
def F17:FnC:=⟨r17,36,[.tmp 4],[],[]⟩
def il:La:=[W7 4]
def xg9:La:=[Wa 9 0,Wa 10 1,Xv 11 1 9 10,Wa 4 11]
def xg8:La:=[Wa 12 0,Wa 4 12]
def r18:RC:=(So il (Sq (So VM (Kc 8 (Kk [8] (So xg9 .ret)) (Kk [1,8] .skip))) (So xg8 .ret)))
def F18:FnC:=⟨r18,13,[.tmp 4],[],[]⟩
def AV:La:=[WC 2 0,WC 3 1,W9 4,WV 5 0]
def xg7:La:=[Wf 11 0 2,Wp 12 2 11,WL 13 2 3,Wv 14 46 12 13,Wa 6 14]
def xg6:La:=[om 15 6,Wb 16 .neq 15 0]
def xg5:La:=[Xg 17,Wa 18 6,WG 4 17,Wa 5 18]
def xg4:La:=[Wf 20 0 3,Wc 21 20,Wm 22 47 21,Wa 19 22,WH 23 19 0,WF 24 19 1,WU 7,WG 7 23,Wa 8 24]
def xg3:La:=[Wa 25 8,Wb 26 .eql 25 0]
def xg2:La:=[Wp 27 4 2,oo 28 (Lt 7 7) [7],Wv 29 48 27 28,WH 30 29 0,WF 31 29 1,WG 4 30,Wa 5 31]
def xg1:La:=[Wq 33 0 3,Wc 34 33,Wm 35 49 34,Wa 32 35,WH 36 32 0,WF 37 32 1,Xq 9,Wr 2 9 36,Wa 10 37]
def xg0:La:=[om 38 10,Wb 39 .neq 38 0]
def xgZ:La:=[Xg 40,Wa 41 10,WG 4 40,Wa 5 41]
def OF:La:=[Wp 42 4 2,Wp 43 2 9,Wv 44 50 42 43,WH 45 44 0,WF 46 44 1,WG 4 45,Wa 5 46]
def r19:RC:=(So AV (Sq (So xg7 (So xg6 (Kc 16 (Kk [2,3,16] (So xg5 .ret)) (Kk [6,16] .skip)))) (Sq (So xg4 (So xg3 (Kc 26 (Kk [3,26] (So xg2 .ret)) (Kk [7,26] .skip)))) (So xg1 (Sq (So xg0 (Kc 39 (Kk [2,9,39] (So xgZ .ret)) (Kk [10,39] .skip))) (So OF .ret))))))
def F19:FnC:=⟨r19,47,[.cell 4 4 true,.tmp 5],[],[]⟩
def xgY:La:=[Wf 16 0 2,Wp 17 2 16,WL 18 2 3,Wv 19 51 17 18,Wa 6 19]
def xgX:La:=[om 20 6,Wb 21 .neq 20 0]
def xgW:La:=[Xg 22,Wa 23 6,WG 4 22,Wa 5 23]
def xgV:La:=[Wf 24 2 2,Wc 25 24,Wj 26 25,Wf 27 3 2,Wc 28 27,Wj 29 28,Wh 30 .add 26 29,Wb 31 .geq 30 16,Wa 7 31]
def xgU:La:=[Wf 33 0 3,Wc 34 33,Wm 35 52 34,Wa 32 35,WH 36 32 0,WF 37 32 1,WU 8,Wr 7 8 36,Wa 9 37]
def xgT:La:=[Wa 38 9,Wb 39 .eql 38 0]
def xgS:La:=[Wf 41 2 2,Wc 42 41,WL 43 7 8,Wv 44 53 42 43,Wa 40 44,WH 45 40 0,WF 46 40 1,Wa 10 45,Wa 11 46]
def xgR:La:=[Wa 47 11]
def xgQ:La:=[Wp 48 4 2,WG 4 48,Wn 5 0]
def OE:La:=[Wa 49 7]
def OD:La:=[Xg 50,WG 4 50,Wn 5 25]
def OC:Lb:=[Fs 0 51 (.lit 7 []),Wg 1 52 2 2,We 2 53 52,Fm 3 54 10,Xr 4 55 7 53 54,Wu 6 57 7 8,W6 7 58 7 57,Wg 9 60 2 2,We 10 61 60,Fm 11 62 10,Xw 12 63 7 61 62,Fz 5 56 (.app Zq0 96 (.t 51) (.t 55)),Fz 8 59 (.app Zq0 96 (.t 56) (.t 58)),Fz 13 64 (.app Zq0 96 (.t 59) (.t 63)),Wg 14 65 2 2,Fr 15 1 65 64]
def OB:La:=[Wp 66 4 2,WG 4 66,Wn 5 0]
def OA:La:=[Wq 68 0 3,Wc 69 68,Wm 70 54 69,Wa 67 70,WH 71 67 0,WF 72 67 1,Xq 12,Wr 2 12 71,.op (xm 13 72) [13,72]]
def Oz:La:=[Wf 74 3 2,Wc 75 74,WL 76 2 12,Wv 77 55 75 76,Wa 73 77,WH 78 73 0,WF 79 73 1,Wa 14 78,Wa 15 79]
def Oy:La:=[Wa 80 15]
def Ox:La:=[Wp 81 4 2,WG 4 81,Wn 5 0]
def Ow:La:=[Wa 82 7]
def Ov:La:=[Xg 83,WG 4 83,Wn 5 25]
def Ou:Lb:=[Fs 0 84 (.lit 2 []),Wg 1 85 3 2,We 2 86 85,Fm 3 87 14,Xr 4 88 2 86 87,Wu 6 90 2 12,W6 7 91 2 90,Wg 9 93 3 2,We 10 94 93,Fm 11 95 14,Xw 12 96 2 94 95,XQ 5 89 32 84 88,XQ 8 92 32 89 91,XQ 13 97 32 92 96,Wg 14 98 3 2,Fr 15 1 98 97]
def Ot:La:=[Wp 99 4 2,WG 4 99,Wn 5 0]
def r20:RC:=(So AV (Sq (So xgY (So xgX (Kc 21 (Kk [2,3,21] (So xgW .ret)) (Kk [6,21] .skip)))) (So xgV (So xgU (Sq (So xgT (Kc 39 (Kk [3,39] (So xgS (Sq (So xgR (XT 47 [7,8,10,47] (So xgQ .ret))) (Sq (So OE (XT 49 [2,8,10,49] (So OD .ret))) (Sq (.flt [0,0,2,0,14,31,0,64,255,0,512,0,3584,8191,16383,32767] [156,159,164] OC [8,10,51,52,53,54,55,56,57,58,59,60,61,62,63,64,65]) (So OB .ret)))))) (Kk [8,39] .skip))) (So OA (So Oz (Sq (So Oy (XT 80 [7,12,14,80] (So Ox .ret))) (Sq (So Ow (XT 82 [2,12,14,82] (So Ov .ret))) (Sq (.flt [0,0,2,0,14,31,0,64,255,0,512,0,3584,8191,16383,32767] [189,192,197] Ou [12,14,84,85,86,87,88,89,90,91,92,93,94,95,96,97,98]) (So Ot .ret)))))))))))
def F20:FnC:=⟨r20,100,[.cell 4 4 true,.tmp 5],[],[]⟩
def xgP:La:=[om 6 1,Wb 7 .lss 6 1]
def xgO:La:=[Wa 8 0,om 9 1,Wh 10 .rem 8 9,Wa 5 10]
def xgN:La:=[om 11 5,Wb 12 .lss 11 0]
def xgM:La:=[Wa 13 5,Wa 14 1,Wh 15 .add 13 14,Wa 5 15]
def xgL:La:=[Wa 16 5,Wa 4 16]
def r21:RC:=(So qf (Sq (So xgP (XT 7 [0,1,7] (So iZ .ret))) (So xgO (Sq (So xgN (Kc 12 (Kk [12] (.ops xgM)) (Kk [1,12] .skip))) (So xgL .ret)))))
def F21:FnC:=⟨r21,17,[.tmp 4],[],[]⟩
def xgK:La:=[on 0 (.new (.arr 1 (aL 3 [.str []])))]
def xgJ:La:=[on 1 (.build [.str [],.str [],.str []] [(0,1,(.c (.str [97,99,109,101]))),(1,1,(.c (.str [118,50]))),(2,1,(.c (.str [120,45,121])))]),Wr 3 0 1]
def r24:RC:=(So xgK (So xgJ .ret))
def F24:FnC:=⟨r24,2,[.cell 0 3 true],[],[]⟩
def xgI:La:=[WC 3 0,WV 6 0]
def tL:La:=[Wn 7 0]
def xgH:La:=[Wq 10 2 3,Wc 11 10,on 12 (Ln 11),Wn 13 0]
def xgG:La:=[on 14 (Bb .lss 13 12)]
def xgF:La:=[on 15 (Ia 7 11 13),Wp 16 7 15,WU 9,Wr 7 9 16]
def xgE:La:=[Wf 17 0 9,Wc 18 17,om 19 1,Wh 20 .eql 18 19,Wa 21 20,.grp 21 true [(xi 22 21 true (Fa 3 9)),(xi 23 21 true (Ld 22)),(xi 24 21 true (Mv 2)),(xi 25 21 true (Bb .leq 23 24))] [22,23,24],Wx 26 21 25]
def xgD:La:=[Wa 27 7,Wq 28 2 9,Wc 29 28,oo 30 (.maxi (.t 27) (.t 29)) [27,29],Wa 7 30]
def xgC:La:=[Wb 31 .add 13 1,Wa 13 31]
def X2:RC:=(.post (So xgG (Sq (XS 14 [1,2,11,12,13,14] (.exit 0)) (Sq (Bk 1 (So xgF (So xgE (Kc 26 (Kk [26] (.ops xgD)) (Kk [9,26] .skip))))) (.ops xgC)))) [.gc [109]])
def VL:RC:=X2
def xgB:La:=[Wa 32 7,Wa 6 32]
def r25:RC:=(So xgI (So tL (Sq (So xgH (Bk 0 (.loop VL))) (So xgB .ret))))
def F25:FnC:=⟨r25,33,[.tmp 6],[],[]⟩
def tK:La:=[WX 4 false]
def VK:La:=[om 6 0,Wj 7 6,om 8 1,Wj 9 8,Wh 10 .neq 7 9]
def VJ:La:=[om 11 5,om 12 0,Wj 13 12,Wh 14 .lss 11 13]
def xgA:Lb:=[Fm 0 17 0,Fm 1 18 5,Wt 2 19 7 17 18,Wu 3 20 7 19,Fm 4 21 1,Fm 5 22 5,Wt 6 23 7 21 22,Wu 7 24 7 23,WJ 8 25 56 20 24,Fs 9 26 (.un .not (.t 25))]
def VI:La:=[Wa 15 5,Wb 16 .add 15 1,Wa 5 16]
def X1:RC:=(Sq (So VJ (XS 14 [0,1,5,14] (.exit 0))) (Sq (Bk 1 (Sq (.flt [0,0,3,7,0,0,48,112,255,511] [] xgA [17,18,19,20,21,22,23,24,25]) (XT 26 [0,1,5,26] (So mL .ret)))) (.ops VI)))
def VH:RC:=X1
def r27:RC:=(So tK (Sq (So VK (XT 10 [0,1,10] (So mL .ret))) (Sq (So pt (Bk 0 (.loop VH))) (So s6 .ret))))
def F27:FnC:=⟨r27,27,[.tmp 4],[],[]⟩
def xgz:La:=[WC 2 0,oo 4 (.mov (.c (.lst 7 [] .clip))) [4]]
def xgy:La:=[on 5 (.mov (.c (.lst 7 [] .clip)))]
def xgx:La:=[Wf 8 2 2,Wc 9 8,on 10 (Ln 9),Wn 11 0]
def xgw:La:=[on 12 (Bb .lss 11 10)]
def xgv:La:=[on 13 (Ia 7 9 11),Wp 14 7 13,WU 7,WG 7 14]
def xgu:Lb:=[Wg 0 15 3 7,We 1 16 15,Fm 2 17 1,Wk 3 18 .leq 16 17,Fm 4 19 18,Wz 5 20 19 true 1,WB 6 21 19 true 4 7,WD 7 22 19 true 21,Fi 8 23 19 true (Bb .lss 20 22),Fs 9 24 (Pf 19 23),Fm 10 25 24,WB 11 26 25 true 1 7,WD 12 27 25 true 26,Fi 13 28 25 true (Lt 4 2),WB 14 29 25 true 0 7,WD 15 30 25 true 29,Wz 16 31 25 true 1,Fy 17 32 25 true (Ca 25 [.t 28,.t 30,.t 31]),Fi 18 33 25 true (Bb .geq 27 32),Fs 19 34 (Pf 25 33),Fm 20 35 34,Fi 21 36 35 true (Lt 4 2),Fi 22 37 35 true (Lt 7 7),Wz 23 38 35 true 1,Fy 24 39 35 true (Ca 57 [.t 36,.t 37,.t 38]),Fi 25 40 35 true (.un .not (.t 39)),Fs 26 41 (Pf 35 40)]
def xgt:La:=[Wa 42 5,oo 43 (Lt 7 7) [7],WM 44 7 43,oo 45 (.app Zq0 96 (.t 42) (.t 44)) [42,44],Wa 5 45]
def xgs:La:=[Wb 46 .add 11 1,Wa 11 46]
def X0:RC:=(.post (So xgw (Sq (XS 12 [1,2,9,10,11,12] (.exit 0)) (Sq (Bk 1 (So xgv (Sq (.flt [0,1,0,7,15,31,31,95,255,511,1023,2047,4095,2047,2047,18431,2047,124927,262143,524287,1048575,2097151,2097151,2097151,16777215,33554431,67108863] [] xgu [15,16,17,18,19,20,21,22,23,24,25,26,27,28,29,30,31,32,33,34,35,36,37,38,39,40]) (Kc 41 (Kk [41] (.ops xgt)) (Kk [7,41] .skip))))) (.ops xgs)))) [.gc [107],.tok 5 105])
def AU:RC:=X0
def xgr:La:=[Wa 47 5,Wa 4 47]
def r28:RC:=(So xgz (So xgy (Sq (So xgx (Bk 0 (.pre [.tok 5 105] (.loop AU)))) (So xgr .ret))))
def F28:FnC:=⟨r28,48,[.tmp 4],[],[]⟩
def AT:La:=[XD 4]
def xgq:La:=[Wa 10 1,Wo 11 16 10 100,Wa 5 11]
def xgp:La:=[Xi 6,Xi 7]
def qd:La:=[Wn 8 0]
def xgo:La:=[om 12 8,om 13 0,Wh 14 .lss 12 13]
def xgn:La:=[Wa 17 6,om 18 8,WM 19 1 18,Xx 20 8 17 19,Wa 6 20]
def xgm:La:=[Wa 15 8,Wb 16 .add 15 1,Wa 8 16]
def XZ:RC:=(.post (Sq (So xgo (XS 14 [0,8,14] (.exit 0))) (Sq (Bk 1 (.ops xgn)) (.ops xgm))) [.tok 6 106])
def VG:RC:=XZ
def xgl:La:=[om 21 6,Wj 22 21,Wb 23 .gtr 22 0]
def xgk:La:=[om 24 5,om 25 6,Wj 26 25,Wv 27 17 24 26,Wa 9 27]
def Oq:La:=[Wa 28 7,om 29 6,om 30 9,WI 31 1 29 30,Wc 32 31,WM 33 1 32,Xx 34 8 28 33,Wa 7 34]
def Oo:Lb:=[Fs 0 35 (.lit 1 []),Fm 1 36 6,Fm 2 37 9,Xr 3 38 1 36 37,Fm 5 40 6,Fm 6 41 9,WE 7 42 .add 41 1,Xw 8 43 1 40 42,Xs 4 39 8 35 38,Xs 9 44 8 39 43,⟨10,false,(xm 6 44)⟩]
def Dt:RC:=(.post (Sq (So xgl (XS 23 [5,6,23] (.exit 2))) (Bk 3 (So xgk (So Oq (.flt [0,0,0,6,15,0,0,64,224,511,1023] [139,144] Oo [9,35,36,37,38,39,40,41,42,43,44]))))) [.gc [139],.tok 6 106,.tok 7 107])
def sY:RC:=Dt
def On:La:=[Wa 45 7,Wa 4 45]
def r30:RC:=(So AT (So xgq (So xgp (Sq (So qd (Bk 0 (.pre [.tok 6 106] (.loop VG)))) (Sq (Bk 2 (.pre [.tok 6 106,.tok 7 107] (.loop sY))) (So On .ret))))))
def F30:FnC:=⟨r30,46,[.tmp 4],[],[]⟩
def xgj:Lb:=[Fm 0 17 0,Fm 1 18 5,Wt 2 19 1 17 18,We 3 20 19,Fm 4 21 1,Fm 5 22 5,Wt 6 23 1 21 22,We 7 24 23,Wk 8 25 .neq 20 24]
def XY:RC:=(Sq (So VJ (XS 14 [0,1,5,14] (.exit 0))) (Sq (Bk 1 (Sq (.flt [0,0,3,7,0,0,48,112,255] [] xgj [17,18,19,20,21,22,23,24]) (XT 25 [0,1,5,25] (So mL .ret)))) (.ops VI)))
def VF:RC:=XY
def r31:RC:=(So tK (Sq (So VK (XT 10 [0,1,10] (So mL .ret))) (Sq (So pt (Bk 0 (.loop VF))) (So s6 .ret))))
def F31:FnC:=⟨r31,26,[.tmp 4],[],[]⟩
def tJ:La:=[WC 1 0,W7 2]
def xgi:La:=[Wp 4 7 1,Wm 5 59 4,Wa 3 5]
def VE:La:=[om 6 3,Wj 7 6,Wb 8 .eql 7 0]
def qc:La:=[Xb 2]
def xgh:La:=[Wa 9 3,WM 10 1 9,W5 11 60 21 10,Wa 2 11]
def r32:RC:=(So tJ (So xgi (Sq (So VE (XT 8 [3,8] (So qc .ret))) (So xgh .ret))))
def F32:FnC:=⟨r32,12,[.tmp 2],[],[]⟩
def xgg:La:=[on 4 (.new (.rc Zq4))]
def xgf:La:=[Wa 7 0,oo 8 (.build Zq4 [(0,1,(.t 7))]) [7],on 5 (.new (.rc Zq4)),Wr 2 5 8]
def xge:La:=[om 9 6,Wb 10 .lss 9 3]
def xgd:La:=[om 13 1,om 14 6,WZ 15 14,Wh 16 .shr 13 15,Wb 17 .and 16 1,Wb 18 .eql 17 1]
def xgc:Lb:=[Wu 0 19 2 5,Fm 1 20 6,WQ 2 21 .mul 2 20,WQ 3 22 .add 3 21,Fm 4 23 6,WQ 5 24 .mul 2 23,WQ 6 25 .add 3 24,Fm 8 27 6,WE 9 28 .and 27 1,WS 7 26 38 25,Fz 10 29 (Ca 61 [.t 19,.t 22,.t 26,ci 1,.t 28]),Fr 11 2 5 29]
def XX:RC:=(Sq (So xge (XS 10 [1,6,10] (.exit 0))) (Sq (Bk 1 (So xgd (XT 18 [18] (.flt [0,0,2,6,0,16,48,112,0,256,1023,2047] [] xgc [19,20,21,22,23,24,25,26,27,28,29])))) (.ops VS)))
def nK:RC:=XX
def xgb:La:=[Wp 30 2 5,Wr 2 4 30]
def r33:RC:=(So xgg (So xgf (Sq (So kq (Bk 0 (.loop nK))) (So xgb .ret))))
def F33:FnC:=⟨r33,31,[.cell 4 2 true],[],[]⟩
def xga:La:=[WL 8 7 1,Wm 9 62 8,Wb 10 .neq 9 0]
def xf9:La:=[on 11 (.litB [(.c (.u8 21))]),Wf 12 0 1,Wc 13 12,oo 14 (.s2b (.t 13)) [13],Wv 15 63 11 14,Wa 3 15]
def xf8:La:=[Wa 16 3,Wf 17 1 1,Wc 18 17,Xc 19 64 16 4 18,Wa 3 19]
def xf7:La:=[Wa 20 3,Wf 21 2 1,Wc 22 21,Xc 23 64 20 4 22,Wa 3 23]
def xf6:La:=[Wa 24 3,Wf 25 3 1,Wc 26 25,Xc 27 64 24 6 26,Wa 3 27]
def xf5:La:=[Wa 28 3,Wf 29 4 1,Wc 30 29,Xc 31 64 28 6 30,Wa 3 31]
def xf4:La:=[Wa 32 3,Wf 33 5 1,Wc 34 33,Wj 35 34,Ww 36 35,WW 37 36,Wy 38 1 32 37,Wa 3 38]
def Om:La:=[om 39 4,Wf 40 5 1,Wc 41 40,Wj 42 41,Wh 43 .lss 39 42]
def Ol:La:=[Wf 46 5 1,Wc 47 46,om 48 4,WI 49 4 47 48,Wp 50 4 49,Xh 5,Wr 4 5 50]
def Ok:Lb:=[Fm 0 51 3,Wg 1 52 0 5,We 2 53 52,Xm 3 54 53,Fs 4 55 (.litB [.t 54]),Wg 6 57 1 5,We 7 58 57,Fs 8 59 (.s2b (.t 58)),W8 5 56 1 51 55,WJ 9 60 63 56 59,⟨10,false,(xm 3 60)⟩]
def Oj:Lb:=[Fm 0 61 3,Wg 1 62 2 5,We 2 63 62,Wg 4 65 3 5,We 5 66 65,W0 3 64 64 61 4 63,W8 6 67 1 64 66,⟨7,false,(xm 3 67)⟩]
def Oi:La:=[Wa 44 4,Wb 45 .add 44 1,Wa 4 45]
def Ds:RC:=(.post (Sq (So Om (XS 43 [4,43] (.exit 0))) (Sq (Bk 1 (So Ol (Sq (.flt [0,0,2,6,14,31,0,64,192,511,1023] [156] Ok [51,52,53,54,55,56,57,58,59,60]) (.flt [0,0,2,7,0,16,63,127] [167] Oj [5,61,62,63,64,65,66,67])))) (.ops Oi))) [.gc [105,156],.gcr 65000 66000,.tok 3 103])
def sX:RC:=Ds
def Oh:La:=[Wa 68 3,Wf 69 6 1,Wc 70 69,Wj 71 70,Ww 72 71,WW 73 72,Wy 74 1 68 73,Wa 3 74]
def Og:La:=[om 75 6,Wf 76 6 1,Wc 77 76,Wj 78 77,Wh 79 .lss 75 78]
def Of:La:=[Wf 82 6 1,Wc 83 82,om 84 6,WI 85 4 83 84,Wp 86 4 85,Xt 7,Wr 4 7 86]
def Oe:Lb:=[Fm 0 87 3,Wg 1 88 0 7,We 2 89 88,Xm 3 90 89,Fs 4 91 (.litB [.t 90]),Wg 6 93 1 7,We 7 94 93,Fs 8 95 (.s2b (.t 94)),W8 5 92 1 87 91,WJ 9 96 63 92 95,⟨10,false,(xm 3 96)⟩]
def Od:Lb:=[Fm 0 97 3,Wg 1 98 2 7,We 2 99 98,Wg 4 101 3 7,We 5 102 101,W0 3 100 64 97 4 99,W0 6 103 64 100 4 102,⟨7,false,(xm 3 103)⟩]
def Oc:La:=[Wa 80 6,Wb 81 .add 80 1,Wa 6 81]
def Dr:RC:=(.post (Sq (So Og (XS 79 [1,6,79] (.exit 2))) (Sq (Bk 3 (So Of (Sq (.flt [0,0,2,6,14,31,0,64,192,511,1023] [192] Oe [87,88,89,90,91,92,93,94,95,96]) (.flt [0,0,2,7,0,16,63,127] [] Od [7,97,98,99,100,101,102,103])))) (.ops Oc))) [.gc [107,192],.gcr 101000 102000,.tok 3 103])
def sW:RC:=Dr
def Ob:La:=[Wa 104 3,Wa 2 104]
def r34:RC:=(So tJ (Sq (So xga (XT 10 [1,10] (So qc .ret))) (So xf9 (So xf8 (So xf7 (So xf6 (So xf5 (So xf4 (Sq (So iZ (Bk 0 (.pre [.tok 3 103] (.loop sX)))) (So Oh (Sq (So kq (Bk 2 (.pre [.tok 3 103] (.loop sW)))) (So Ob .ret))))))))))))
def F34:FnC:=⟨r34,105,[.tmp 2],[],[]⟩
def xf3:La:=[Wf 3 0 1,Wc 4 3,Wj 5 4,Wb 6 .neq 5 32,Wa 7 6,.grp 7 false [(xi 8 7 false (Fa 1 1)),(xi 9 7 false (Ld 8)),(xi 10 7 false (Bc .lss 9 0))] [8,9],Wi 11 7 10,Wa 12 11,.grp 12 false [(xi 13 12 false (Fa 1 1)),(xi 14 12 false (Ld 13)),(xi 15 12 false (Bc .gtr 14 1099511627776))] [13,14],Wi 16 12 15]
def xf2:Lb:=[Fs 0 17 (.litB [(.c (.u8 22))]),Wg 1 18 0 1,We 2 19 18,Wg 4 21 1 1,We 5 22 21,W8 3 20 1 17 19,W0 6 23 64 20 6 22,Fm 7 2 23]
def r35:RC:=(So tJ (Sq (So xf3 (XT 16 [1,16] (So qc .ret))) (Sq (.flt [0,0,2,7,0,16,63,127] [120] xf2 [1,17,18,19,20,21,22,23]) .ret)))
def F35:FnC:=⟨r35,24,[.tmp 2],[],[]⟩
def xf1:La:=[Wp 4 7 1,Wm 5 34 4,Wa 3 5]
def xf0:La:=[Wa 9 3,WM 10 1 9,W5 11 65 21 10,Wa 2 11]
def r36:RC:=(So tJ (So xf1 (Sq (So VE (XT 8 [3,8] (So qc .ret))) (So xf0 .ret))))
def F36:FnC:=⟨r36,12,[.tmp 2],[],[]⟩
def xfZ:La:=[om 5 1,Wb 6 .lss 5 0,Wa 7 6,.grp 7 false [(xi 8 7 false (Mv 1)),(xi 9 7 false (Bc .gtr 8 3))] [8],Wi 10 7 9]
def iY:La:=[Xb 4]
def xfY:La:=[om 11 1,Ww 12 11,WW 13 12,Wa 14 0,Wa 15 1,Wv 16 67 14 15,Wm 17 66 16,Wy 18 1 13 17,Wa 4 18]
def r37:RC:=(So il (Sq (So xfZ (XT 10 [0,1,10] (So iY .ret))) (So xfY .ret)))
def F37:FnC:=⟨r37,19,[.tmp 4],[],[]⟩
def kW:La:=[W7 2]
def xfX:La:=[Wa 3 0,Ww 4 3,oo 5 (.litB [(.c (.u8 107)),.t 4]) [4],Wm 6 68 5,Wa 2 6]
def r38:RC:=(So kW (So xfX .ret))
def F38:FnC:=⟨r38,7,[.tmp 2],[],[]⟩
def pr:La:=[WC 1 0,WV 2 0]
def VD:La:=[Wf 5 0 1,Wc 6 5,Wj 7 6,Wb 8 .gtr 7 4]
def pq:La:=[Wn 2 4]
def xfW:La:=[Wf 9 0 1,Wc 10 9,on 11 (Ln 10),Wn 12 0]
def VC:La:=[on 13 (Bb .lss 12 11)]
def xfV:La:=[om 14 12,on 15 (Ia 2 10 12),Wp 16 2 15,XR 4,Wa 3 14,Wr 2 4 16]
def xfU:La:=[Wf 17 0 4,Wc 18 17,Wb 19 .lss 18 1,Wa 20 19,.grp 20 false [(xi 21 20 false (Fa 0 4)),(xi 22 20 false (Ld 21)),(xi 23 20 false (Bc .gtr 22 1000))] [21,22],Wi 24 20 23,Wa 25 24,.grp 25 false [(xi 26 25 false (Fa 1 4)),(xi 27 25 false (Ld 26)),(xi 28 25 false (Ln 27)),(xi 29 25 false (Bc .neq 28 17))] [26,27,28],Wi 30 25 29]
def gC:La:=[Wn 2 1]
def xfT:Lb:=[Fm 0 31 3,WE 1 32 .gtr 31 0,Fm 2 33 32,WB 3 34 33 true 0 4,WD 4 35 33 true 34,WB 5 36 33 true 0 1,WD 6 37 33 true 36,Wz 7 38 33 true 3,Fi 8 39 33 true (Bc .sub 38 1),Fi 9 40 33 true (Ia 2 37 39),WB 10 41 33 true 0 40,WD 11 42 33 true 41,Fi 12 43 33 true (Bb .leq 35 42),Fs 13 44 (Pf 33 43)]
def AS:La:=[Wn 2 41]
def Oa:La:=[Wb 45 .add 12 1,Wa 12 45]
def Dq:RC:=(.post (So VC (Sq (XS 13 [10,11,12,13] (.exit 0)) (Sq (Bk 1 (So xfV (Sq (So xfU (XT 30 [1,3,4,10,11,12,30] (So gC .ret))) (Sq (.flt [0,1,3,7,15,7,39,7,135,487,999,2023,4095,8191] [] xfT [3,4,31,32,33,34,35,36,37,38,39,40,41,42,43]) (XT 44 [1,10,11,12,44] (So AS .ret)))))) (.ops Oa)))) [.gc [104]])
def nt:RC:=Dq
def N9:La:=[Wf 46 1 1,Wc 47 46,Wb 48 .lss 47 1,Wa 49 48,.grp 49 false [(xi 50 49 false (Fa 1 1)),(xi 51 49 false (Ld 50)),(xi 52 49 false (Fa 0 1)),(xi 53 49 false (Ld 52)),(xi 54 49 false (Ln 53)),(xi 55 49 false (Bb .gtr 51 54))] [1,50,51,52,53,54],Wi 56 49 55]
def kV:La:=[Wn 2 0]
def r39:RC:=(So pr (Sq (So VD (XT 8 [1,8] (So pq .ret))) (Sq (So xfW (Bk 0 (.loop nt))) (Sq (So N9 (XT 56 [56] (So gC .ret))) (So kV .ret)))))
def F39:FnC:=⟨r39,57,[.tmp 2],[],[]⟩
def xy:La:=[Wn 3 0]
def xfS:La:=[om 9 3,Wf 10 0 1,Wc 11 10,Wj 12 11,Wh 13 .lss 9 12]
def xfR:La:=[Wf 16 0 1,Wc 17 16,om 18 3,WI 19 2 17 18,Wp 20 2 19,XR 4,Wr 2 4 20]
def xfQ:La:=[Wf 21 0 4,Wc 22 21,Wb 23 .lss 22 1,Wa 24 23,XE 25 24 false 0 4 26 24 false 25 27 24 false .gtr 26 1000,Wi 28 24 27,Wa 29 28,.grp 29 false [(xi 30 29 false (Fa 1 4)),(xi 31 29 false (Ld 30)),(xi 32 29 false (Ln 31)),(xi 33 29 false (Bc .neq 32 17))] [30,31,32],Wi 34 29 33]
def xfP:Lb:=[Fm 0 35 3,WE 1 36 .gtr 35 0,Fm 2 37 36,WB 3 38 37 true 0 4,WD 4 39 37 true 38,WB 5 40 37 true 0 1,WD 6 41 37 true 40,Wz 7 42 37 true 3,Fi 8 43 37 true (Bc .sub 42 1),Fi 9 44 37 true (Ia 2 41 43),WB 10 45 37 true 0 44,WD 11 46 37 true 45,Fi 12 47 37 true (Bb .leq 39 46),Fs 13 48 (Pf 37 47)]
def N8:La:=[Wa 14 3,Wb 15 .add 14 1,Wa 3 15]
def Dp:RC:=(.post (Sq (So xfS (XS 13 [3,13] (.exit 0))) (Sq (Bk 1 (So xfR (Sq (So xfQ (XT 34 [1,3,4,34] (So gC .ret))) (Sq (.flt [0,1,3,7,15,7,39,7,135,487,999,2023,4095,8191] [] xfP [4,35,36,37,38,39,40,41,42,43,44,45,46,47]) (XT 48 [1,3,48] (So AS .ret)))))) (.ops N8))) [.gc [104]])
def nq:RC:=Dp
def N7:La:=[Wf 49 1 1,Wc 50 49,Wb 51 .lss 50 1,Wa 52 51,.grp 52 false [(xi 53 52 false (Fa 1 1)),(xi 54 52 false (Ld 53)),(xi 55 52 false (Fa 0 1)),(xi 56 52 false (Ld 55)),(xi 57 52 false (Ln 56)),(xi 58 52 false (Bb .gtr 54 57))] [1,53,54,55,56,57],Wi 59 52 58]
def r40:RC:=(So pr (Sq (So VD (XT 8 [1,8] (So pq .ret))) (Sq (So xy (Bk 0 (.loop nq))) (Sq (So N7 (XT 59 [59] (So gC .ret))) (So kV .ret)))))
def F40:FnC:=⟨r40,60,[.tmp 2],[],[]⟩
def xfO:La:=[Wf 5 1 2,Wc 6 5,Wf 7 1 3,Wc 8 7,Wh 9 .eql 6 8,Wa 10 9,.grp 10 true [(xi 11 10 true (Fa 0 2)),(xi 12 10 true (Ld 11)),(xi 13 10 true (Fa 0 3)),(xi 14 10 true (Ld 13)),(xi 15 10 true (Ca 31 [.t 12,.t 14]))] [2,3,11,12,13,14],Wx 16 10 15,Wa 4 16]
def r41:RC:=(So AW (So xfO .ret))
def F41:FnC:=⟨r41,17,[.tmp 4],[],[]⟩
def qb:La:=[WX 2 false]
def xfN:Lb:=[Fm 0 3 0,WK 1 4 3,Wg 2 5 1 4,We 3 6 5,Fm 4 7 0,WK 5 8 7,Wg 6 9 0 8,We 7 10 9,Fs 8 11 (Ln 10),Wk 9 12 .lss 6 11,Fm 10 2 12]
def r42:RC:=(So qb (Sq (.flt [0,1,3,7,0,16,48,112,240,511,1023] [] xfN [0,3,4,5,6,7,8,9,10,11,12]) .ret))
def F42:FnC:=⟨r42,13,[.tmp 2],[],[]⟩
def xfM:La:=[on 4 (.mkB (ci 32) (ci 32)),Wa 3 4]
def xfL:La:=[om 5 3,Wa 6 0,oo 7 (.cpy 1 (.t 5) (.t 6)) [5,6,7]]
def xfK:La:=[Wa 8 3,Wa 2 8]
def r43:RC:=(So kW (So xfM (So xfL (So xfK .ret))))
def F43:FnC:=⟨r43,9,[.tmp 2],[],[]⟩
def xfJ:La:=[WU 4]
def xfI:La:=[om 8 0,Wo 9 17 8 4,Wa 5 9]
def xfH:La:=[on 10 (Ca 24 []),om 11 0,Wo 12 17 11 3,oo 13 (.idxA 3 1 false (.t 10) (.t 12)) [10,12],om 14 5,Wa 15 1,Xn 16 69 13 14 15,WU 6,Wr 7 6 16]
def xfG:La:=[om 17 0,oo 18 (Ca 17 [.t 17,ci 3]) [17],Wb 19 .eql 18 1]
def xfF:Lb:=[Wg 0 20 5 6,We 1 21 20,Fm 2 22 0,Wg 3 23 5 6,We 4 24 23,Fs 5 25 (Ln 24),WE 6 26 .add 25 1,WJ 7 27 17 22 26,Xr 8 28 4 21 27,Wg 9 29 5 6,Fr 10 1 29 28]
def xfE:La:=[om 30 0,Wa 31 5,Wb 32 .add 31 1,Wv 33 17 30 32,Wf 34 2 6,Ws 1 34 33]
def xfD:La:=[om 35 0,Wo 36 17 35 12,Wf 37 3 6,Ws 1 37 36]
def xfC:Lb:=[Wg 0 38 3 6,We 1 39 38,WE 2 40 .add 39 1,Fm 3 41 0,WN 4 42 17 41 30,Wk 5 43 .add 40 42,Wg 6 44 4 6,Fr 7 1 44 43]
def xfB:La:=[om 45 0,Wo 46 17 45 2,Wb 47 .eql 46 0]
def xfA:La:=[Wf 48 4 6,.op ⟨none,none,.store 1 (.t 48) (ci 1099511627776)⟩ [48]]
def N6:La:=[om 49 0,Wo 50 17 49 4,Wa 7 50]
def N5:La:=[om 51 7,Wb 52 .gtr 51 0]
def N4:Lb:=[Wg 0 55 6 6,We 1 56 55,Fm 2 57 0,WS 3 58 70 57,W6 4 59 4 58,Fz 5 60 (.app Zq3 40 (.t 56) (.t 59)),Wg 6 61 6 6,Fr 7 1 61 60]
def N3:La:=[Wa 53 7,Wb 54 .sub 53 1,Wa 7 54]
def Do:RC:=(Sq (So N5 (XS 52 [0,7,52] (.exit 0))) (Sq (Bk 1 (.flt [0,1,0,4,12,31,63,127] [160] N4 [55,56,57,58,59,60,61])) (.ops N3)))
def Cl:RC:=Do
def N2:La:=[Wp 62 7 6,Wr 7 4 62]
def r44:RC:=(So xfJ (So xfI (So xfH (Sq (So xfG (XT 19 [19] (.flt [0,1,0,0,8,24,56,124,255,511,1023] [] xfF [20,21,22,23,24,25,26,27,28,29]))) (So xfE (So xfD (Sq (.flt [0,1,3,0,8,31,63,127] [] xfC [38,39,40,41,42,43,44]) (Sq (So xfB (XT 47 [47] (.ops xfA))) (Sq (So N6 (Bk 0 (.loop Cl))) (So N2 .ret))))))))))
def F44:FnC:=⟨r44,63,[.cell 4 7 true],[],[]⟩
def xfz:La:=[Xh 4]
def xfy:Lb:=[Fm 0 7 1,Fm 2 9 0,Fm 5 12 0,Fz 1 8 (Ca 71 []),WN 3 10 17 9 5,Fs 4 11 (.idxA 5 1 false (.t 8) (.t 10)),WN 6 13 17 12 5,Fs 7 14 (.build Zq2 [(0,1,(.t 7)),(1,1,(.t 11)),(2,1,(.t 13))]),Fz 8 5 (.new (.rc Zq2)),Fr 9 4 5 14]
def xfx:La:=[om 15 0,Wo 16 17 15 9,Wb 17 .eql 16 8]
def xfw:La:=[om 18 0,Wo 19 17 18 3,WO 20 .sub 1000000 19,Wf 21 2 5,Ws 1 21 20]
def xfv:La:=[Wa 22 1,Wb 23 .eql 22 4]
def xfu:La:=[Wa 24 0,Wm 25 72 24,Wf 26 3 5,Ws 1 26 25]
def xft:La:=[Wp 27 4 5,WG 4 27]
def xfs:La:=[om 28 0,Wo 29 17 28 7,oo 30 (.mkB (.t 29) (.t 29)) [29],Wf 31 3 5,Ws 1 31 30]
def xfr:La:=[om 32 6,Wf 33 3 5,Wc 34 33,Wj 35 34,Wh 36 .lss 32 35]
def N1:Lb:=[Wg 0 39 3 5,We 1 40 39,Fm 2 41 6,Fm 3 42 0,WN 4 43 17 42 256,Xm 5 44 43,Wt 6 45 1 40 41,Fr 7 1 45 44]
def Ck:La:=[Wa 37 6,Wb 38 .add 37 1,Wa 6 38]
def Dn:RC:=(Sq (So xfr (XS 36 [0,6,36] (.exit 0))) (Sq (Bk 1 (.flt [0,1,0,0,8,24,63,127] [] N1 [39,40,41,42,43,44,45])) (.ops Ck)))
def xx:RC:=Dn
def N0:La:=[Wp 46 4 5,WG 4 46]
def r45:RC:=(So xfz (Sq (.fla [0,0,0,6,14,0,46,127,0,511] [105] xfy [[0,2,5,1,3,4,6,7,8,9],[0,2,5,1,3,4,8,6,7,9],[0,2,5,1,8,3,4,6,7,9],[0,2,5,8,1,3,4,6,7,9]] [7,8,9,10,11,12,13,14]) (Sq (So xfx (XT 17 [17] (.ops xfw))) (Sq (So xfv (XT 23 [23] (So xfu (So xft .ret)))) (So xfs (Sq (So kq (Bk 0 (.loop xx))) (So N0 .ret)))))))
def F45:FnC:=⟨r45,47,[.cell 4 4 true],[],[]⟩
def AR:La:=[WC 2 0,WC 3 1,WV 4 0]
def xfq:La:=[WL 8 2 2,Wm 9 39 8,Wa 5 9]
def xfp:La:=[om 10 5,Wb 11 .neq 10 0]
def xfo:La:=[Wa 12 5,Wa 4 12]
def xfn:La:=[Wf 13 1 3,Wc 14 13,Wj 15 14,Wb 16 .gtr 15 4]
def VB:La:=[Wn 4 4]
def xfm:La:=[Wf 18 0 3,Wc 19 18,Wm 20 47 19,Wa 17 20,WH 21 17 0,WF 22 17 1,WU 6,Sr 7 6 21 [6,21],Wa 7 22]
def xfl:La:=[om 23 7,Wb 24 .neq 23 0]
def xfk:La:=[Wf 26 0 3,Wc 27 26,Wm 28 49 27,Wa 25 28,oo 29 (.ext (.t 25) 0) [29],WF 30 25 1,Wa 7 30]
def xfj:La:=[om 31 7,Wb 32 .neq 31 0]
def NZ:La:=[Wa 33 7,Wa 4 33]
def NY:Lb:=[Wu 0 34 2 2,Wu 1 35 2 3,Wg 4 38 1 2,We 5 39 38,WJ 2 36 73 34 35,Fs 3 37 (Ln 36),Wk 6 40 .lss 37 39]
def Cj:La:=[Wn 4 44]
def r46:RC:=(So AR (Sq (So xfq (So xfp (Kc 11 (Kk [2,3,11] (So xfo .ret)) (Kk [5,11] .skip)))) (Sq (So xfn (XT 16 [2,3,16] (So VB .ret))) (So xfm (Sq (So xfl (XT 24 [7,24] (.ops xfk))) (Sq (So xfj (Kc 32 (Kk [2,3,32] (So NZ .ret)) (Kk [7,32] .skip))) (Sq (Sq (.flt [0,0,3,7,0,16,63] [] NY [2,3,34,35,36,37,38,39]) (XT 40 [40] (So Cj .ret))) (So iZ .ret))))))))
def F46:FnC:=⟨r46,41,[.tmp 4],[],[]⟩
def VA:La:=[WU 2,WV 3 0]
def xfi:La:=[Wa 10 0,Wm 11 74 10,Wa 4 11]
def Vz:La:=[WU 5]
def xfh:La:=[om 12 4,Wo 13 75 12 1,Wb 14 .neq 13 21]
def xfg:La:=[on 15 (.build Zq0 []),Wr 7 2 15,Wn 3 30]
def xff:La:=[om 16 4,Wo 17 76 16 12,Xd 18 17,Wf 19 0 5,Ws 1 19 18]
def xfe:La:=[om 20 4,Wo 21 75 20 4,Wf 22 1 5,Ws 1 22 21]
def xfd:La:=[om 23 4,Wo 24 75 23 4,Wf 25 2 5,Ws 1 25 24]
def xfc:La:=[om 26 4,Wo 27 75 26 6,Wf 28 3 5,Ws 1 28 27]
def xfb:La:=[om 29 4,Wo 30 75 29 6,Wf 31 4 5,Ws 1 31 30]
def NX:La:=[om 32 4,Wo 33 75 32 1,Wa 6 33]
def NW:La:=[om 34 6,Wb 35 .gtr 34 0,Wa 36 35,.grp 36 true [(xi 37 36 true (Mv 4)),(xi 38 36 true (Ca 77 [.t 37])),(xi 39 36 true (Bc .eql 38 0))] [37,38],Wx 40 36 39]
def NV:La:=[Xh 7]
def NU:La:=[om 43 4,Wo 44 75 43 1,Wf 45 0 7,Ws 1 45 44]
def NT:La:=[om 46 4,Wo 47 76 46 12,Xd 48 47,Wf 49 1 7,Ws 1 49 48]
def NS:La:=[om 50 4,Wo 51 75 50 4,Wf 52 2 7,Ws 1 52 51]
def NR:La:=[om 53 4,Wo 54 78 53 32,Wf 55 3 7,Ws 1 55 54]
def NQ:La:=[Wf 56 5 5,Wc 57 56,Wp 58 4 7,WM 59 4 58,oo 60 (.app Zq2 56 (.t 57) (.t 59)) [57,59],Wf 61 5 5,Ws 1 61 60]
def NP:La:=[Wa 41 6,Wb 42 .sub 41 1,Wa 6 42]
def Dm:RC:=(.post (Sq (So NW (XS 40 [6,40] (.exit 0))) (Sq (Bk 1 (So NV (So NU (So NT (So NS (So NR (.ops NQ))))))) (.ops NP))) [.gc [107]])
def Ci:RC:=Dm
def sV:La:=[om 62 4,Wo 63 75 62 1,Wa 8 63]
def NO:La:=[om 64 8,Wb 65 .gtr 64 0,Wa 66 65,.grp 66 true [(xi 67 66 true (Mv 4)),(xi 68 66 true (Ca 77 [.t 67])),(xi 69 66 true (Bc .eql 68 0))] [67,68],Wx 70 66 69]
def NN:La:=[Xt 9]
def NM:La:=[om 73 4,Wo 74 75 73 1,Wf 75 0 9,Ws 1 75 74]
def NL:La:=[om 76 4,oo 77 (Ca 76 [.t 76,ci 32]) [76],Xd 78 77,Wf 79 1 9,Ws 1 79 78]
def NK:La:=[om 80 4,Wo 81 75 80 4,Wf 82 2 9,Ws 1 82 81]
def NJ:La:=[om 83 4,Wo 84 75 83 4,Wf 85 3 9,Ws 1 85 84]
def NI:La:=[Wf 86 6 5,Wc 87 86,Wp 88 4 9,WM 89 4 88,oo 90 (.app Zq3 40 (.t 87) (.t 89)) [87,89],Wf 91 6 5,Ws 1 91 90]
def NH:La:=[Wa 71 8,Wb 72 .sub 71 1,Wa 8 72]
def Dl:RC:=(.post (Sq (So NO (XS 70 [8,70] (.exit 2))) (Sq (Bk 3 (So NN (So NM (So NL (So NK (So NJ (.ops NI))))))) (.ops NH))) [.gc [109]])
def Ch:RC:=Dl
def sU:La:=[Wa 92 4,Wm 93 79 92,Wb 94 .neq 93 0,Wa 95 94,.grp 95 false [(xi 96 95 false (Lt 7 5)),(xi 97 95 false (Ca 80 [.t 96])),(xi 98 95 false (Bc .neq 97 0))] [96,97],Wi 99 95 98]
def NG:La:=[on 100 (.build Zq0 []),Wr 7 2 100,Wn 3 30]
def NF:La:=[Wp 101 7 5,Wr 7 2 101,Wn 3 0]
def r47:RC:=(So VA (So xfi (So Vz (Sq (So xfh (XT 14 [4,5,14] (So xfg .ret))) (So xff (So xfe (So xfd (So xfc (So xfb (Sq (So NX (Bk 0 (.loop Ci))) (Sq (So sV (Bk 2 (.loop Ch))) (Sq (So sU (XT 99 [5,99] (So NG .ret))) (So NF .ret)))))))))))))
def F47:FnC:=⟨r47,102,[.cell 2 7 true,.tmp 3],[],[]⟩
def xfa:Lb:=[Wu 0 10 7 3,Wu 2 12 7 3,WS 1 11 32 10,WS 3 13 59 12,Fm 4 6 11,Fm 5 7 13]
def xe9:La:=[Wf 15 2 2,Wc 16 15,om 17 6,oo 18 (Ca 81 [.t 16,.t 17,(.f 82)]) [16,17],Wa 14 18,WH 19 14 0,WF 20 14 1,Wa 8 19,.op (xm 9 20) [9,20]]
def xe8:La:=[om 21 8,Wf 22 2 2,Wc 23 22,Wj 24 23,Wh 25 .lss 21 24,Wa 26 25,.grp 26 true [(xi 27 26 true (Fa 2 2)),(xi 28 26 true (Ld 27)),(xi 29 26 true (Mv 8)),(xi 30 26 true (Ia 7 28 29)),(xi 31 26 true (Lt 7 30)),(xi 32 26 true (Ca 32 [.t 31])),(xi 33 26 true (Mv 6)),(xi 34 26 true (Ca 84 [.t 32,.t 33]))] [27,28,29,30,31,32,33],Wx 35 26 34]
def xe7:La:=[Wf 38 2 2,Wc 39 38,om 40 8,WI 41 7 39 40,Wp 42 7 41,Wm 43 59 42,om 44 7,Wv 45 84 43 44]
def xe6:La:=[Wp 46 4 2,WG 4 46,Wn 5 0]
def xe5:La:=[Wa 36 8,Wb 37 .add 36 1,Wa 8 37]
def XW:RC:=(Sq (So xe8 (XS 35 [6,7,35] (.exit 0))) (Sq (Bk 1 (So xe7 (XT 45 [3,6,7,8,45] (So xe6 .ret)))) (.ops xe5)))
def Vy:RC:=XW
def xe4:La:=[WL 47 4 2,Wm 48 85 47]
def xe3:La:=[Xg 49,WG 4 49,Wn 5 25]
def NE:Lb:=[Wg 0 50 2 2,We 1 51 50,Fm 3 53 8,Wu 4 54 7 3,W6 5 55 7 54,WS 2 52 87 51,Xo 6 56 86 52 53 55,Wg 7 57 2 2,Fr 8 1 57 56]
def ND:La:=[Wp 58 4 2,WG 4 58,Wn 5 0]
def r48:RC:=(So AV (Sq (.flt [0,1,0,7,15,31] [] xfa [10,11,12,13]) (So xe9 (Sq (Bk 0 (.loop Vy)) (Sq (So xe4 (XT 48 [2,3,8,48] (So xe3 .ret))) (Sq (.flt [0,1,3,0,0,16,63,127,255] [] NE [3,8,50,51,52,53,54,55,56,57]) (So ND .ret)))))))
def F48:FnC:=⟨r48,59,[.cell 4 4 true,.tmp 5],[],[]⟩
def Vx:La:=[Xq 2,WV 3 0]
def xe2:La:=[Wa 7 0,Wm 8 74 7,Wa 4 8]
def xe1:La:=[om 9 4,Wo 10 75 9 1,Wa 5 10]
def xe0:La:=[om 11 4,Wo 12 78 11 32,oo 13 (.build [.byt [] .clip,.int .i64 0] [(0,1,(.t 12))]) [12],Xq 6,Wr 2 6 13]
def xeZ:La:=[om 14 4,Wo 15 75 14 6,Wf 16 1 6,Ws 1 16 15]
def xeY:La:=[Wa 17 4,Wm 18 79 17,Wb 19 .neq 18 0,Wa 20 19,.grp 20 false [(xi 21 20 false (Mv 5)),(xi 22 20 false (Bc .neq 21 22))] [5,21],Wi 23 20 22,Wa 24 23,XE 25 24 false 1 6 26 24 false 25 27 24 false .gtr 26 1099511627776,Wi 28 24 27]
def Vw:La:=[on 29 (.build [.byt [] .clip,.int .i64 0] []),WG 2 29,Wn 3 30]
def Vv:La:=[Wp 30 2 6,WG 2 30,Wn 3 0]
def r49:RC:=(So Vx (So xe2 (So xe1 (So xe0 (So xeZ (Sq (So xeY (XT 28 [6,28] (So Vw .ret))) (So Vv .ret)))))))
def F49:FnC:=⟨r49,31,[.cell 2 2 true,.tmp 3],[],[]⟩
def xeK:La:=[Wf 9 3 2,Wc 10 9,WL 11 2 3,oo 12 (Ca 88 [.t 10,.t 11,(.f 89)]) [10,11],Wa 8 12,WH 13 8 0,WF 14 8 1,Wa 6 13,Wa 7 14]
def xeJ:La:=[Wa 16 7,Wa 15 16]
def xeI:La:=[Wp 17 4 2,WG 4 17,Wn 5 0]
def xeH:La:=[WL 19 4 2,Wm 20 85 19,Wa 18 20]
def xeG:La:=[Xg 21,WG 4 21,Wn 5 25]
def xeF:Lb:=[Wg 0 22 3 2,We 1 23 22,Fm 3 25 6,Wu 4 26 2 3,W6 5 27 2 26,WS 2 24 91 23,Xo 6 28 90 24 25 27,Wg 7 29 3 2,Fr 8 1 29 28]
def xeE:La:=[Wp 30 4 2,WG 4 30,Wn 5 0]
def r50:RC:=(So AV (So xeK (Sq (Bk 0 (So xeJ (Kc 15 (Kk [3,6,15] (So xeI .ret)) (Kk [15] (So xeH (XT 18 [2,3,6,18] (So xeG .ret))))))) (Sq (.flt [0,1,3,0,0,16,63,127,255] [] xeF [3,6,22,23,24,25,26,27,28,29]) (So xeE .ret)))))
def F50:FnC:=⟨r50,31,[.cell 4 4 true,.tmp 5],[],[]⟩
def xeD:La:=[WL 10 2 2,Wm 11 40 10,Wa 5 11]
def xeC:La:=[om 12 5,Wb 13 .neq 12 0]
def xeB:La:=[Wa 14 5,Wa 4 14]
def xeA:La:=[Wf 15 1 3,Wc 16 15,Wj 17 16,Wb 18 .gtr 17 4]
def xez:La:=[Wf 20 0 3,Wc 21 20,Wm 22 52 21,Wa 19 22,WH 23 19 0,WF 24 19 1,WU 6,Sr 7 6 23 [6,23],Wa 7 24]
def xey:La:=[Wf 26 0 3,Wc 27 26,Wm 28 54 27,Wa 25 28,WH 29 25 0,WF 30 25 1,Xq 8,Sr 2 8 29 [8,29],Wa 9 30]
def xex:La:=[Wa 31 7,Wb 32 .neq 31 0,Wa 33 32,.grp 33 true [(xi 34 33 true (Mv 9)),(xi 35 33 true (Bc .neq 34 0))] [9,34],Wx 36 33 35]
def xew:La:=[Wn 4 30]
def NC:Lb:=[Wu 0 37 2 2,Wu 1 38 2 3,Wg 4 41 1 2,We 5 42 41,WJ 2 39 92 37 38,Fs 3 40 (Ln 39),Wk 6 43 .lss 40 42]
def r51:RC:=(So AR (Sq (So xeD (So xeC (Kc 13 (Kk [2,3,13] (So xeB .ret)) (Kk [5,13] .skip)))) (Sq (So xeA (XT 18 [2,3,18] (So VB .ret))) (So xez (So xey (Sq (So xex (XT 36 [2,3,36] (So xew .ret))) (Sq (Sq (.flt [0,0,3,7,0,16,63] [] NC [2,3,37,38,39,40,41,42]) (XT 43 [43] (So Cj .ret))) (So iZ .ret))))))))
def F51:FnC:=⟨r51,44,[.tmp 4],[],[]⟩
def xev:La:=[Wa 13 0,Wm 14 93 13,Wa 4 14]
def xeu:La:=[om 15 4,Wo 16 94 15 1,Wa 6 16]
def xet:La:=[om 17 4,Wo 18 95 17 12,Xd 19 18,Wf 20 0 5,Ws 1 20 19]
def xes:La:=[om 21 4,Wo 22 94 21 4,Wf 23 1 5,Ws 1 23 22]
def xer:La:=[om 24 4,Wo 25 94 24 4,Wf 26 2 5,Ws 1 26 25]
def xeq:La:=[om 27 4,Wo 28 94 27 6,Wf 29 3 5,Ws 1 29 28]
def xep:La:=[om 30 4,Wo 31 94 30 6,Wf 32 4 5,Ws 1 32 31]
def xeo:La:=[om 33 4,Wo 34 94 33 1,Wa 7 34]
def NB:La:=[om 35 8,om 36 7,Wh 37 .lss 35 36,Wa 38 37,.grp 38 true [(xi 39 38 true (Mv 8)),(xi 40 38 true (Bc .leq 39 16))] [39],Wx 41 38 40]
def NA:La:=[Xh 9]
def Nz:La:=[om 44 4,Wo 45 94 44 1,Wf 46 0 9,Ws 1 46 45]
def Ny:La:=[om 47 4,Wo 48 95 47 12,Xd 49 48,Wf 50 1 9,Ws 1 50 49]
def Nw:La:=[om 51 4,Wo 52 94 51 4,Wf 53 2 9,Ws 1 53 52]
def Nv:La:=[om 54 4,Wo 55 96 54 32,Wf 56 3 9,Ws 1 56 55]
def Nu:La:=[Wf 57 5 5,Wc 58 57,Wp 59 4 9,WM 60 4 59,oo 61 (.app Zq2 56 (.t 58) (.t 60)) [58,60],Wf 62 5 5,Ws 1 62 61]
def Nt:La:=[Wa 42 8,Wb 43 .add 42 1,Wa 8 43]
def Dj:RC:=(.post (Sq (So NB (XS 41 [7,8,41] (.exit 0))) (Sq (Bk 1 (So NA (So Nz (So Ny (So Nw (So Nv (.ops Nu))))))) (.ops Nt))) [.gc [109]])
def Cg:RC:=Dj
def sS:La:=[om 63 4,Wo 64 94 63 1,Wa 10 64]
def xu:La:=[Wn 11 0]
def Ns:La:=[om 65 11,om 66 10,Wh 67 .lss 65 66,Wa 68 67,.grp 68 true [(xi 69 68 true (Mv 11)),(xi 70 68 true (Bc .leq 69 8))] [69],Wx 71 68 70]
def Nr:La:=[Xt 12]
def Nq:La:=[om 74 4,Wo 75 94 74 1,Wf 76 0 12,Ws 1 76 75]
def Np:La:=[om 77 4,Wo 78 95 77 32,Xd 79 78,Wf 80 1 12,Ws 1 80 79]
def No:La:=[om 81 4,Wo 82 94 81 4,Wf 83 2 12,Ws 1 83 82]
def Nn:La:=[om 84 4,Wo 85 94 84 4,Wf 86 3 12,Ws 1 86 85]
def Nm:La:=[Wf 87 6 5,Wc 88 87,Wp 89 4 12,WM 90 4 89,oo 91 (.app Zq3 40 (.t 88) (.t 90)) [88,90],Wf 92 6 5,Ws 1 92 91]
def Nl:La:=[Wa 72 11,Wb 73 .add 72 1,Wa 11 73]
def Di:RC:=(.post (Sq (So Ns (XS 71 [10,11,71] (.exit 2))) (Sq (Bk 3 (So Nr (So Nq (So Np (So No (So Nn (.ops Nm))))))) (.ops Nl))) [.gc [112]])
def Cf:RC:=Di
def sR:La:=[Wa 93 6,Wb 94 .neq 93 21,Wa 95 94,.grp 95 false [(xi 96 95 false (Mv 4)),(xi 97 95 false (Ca 97 [.t 96])),(xi 98 95 false (Bc .neq 97 0))] [4,96,97],Wi 99 95 98,Wa 100 99,.grp 100 false [(xi 101 100 false (Lt 7 5)),(xi 102 100 false (Ca 62 [.t 101])),(xi 103 100 false (Bc .neq 102 0))] [101,102],Wi 104 100 103]
def Nk:La:=[on 105 (.build Zq0 []),Wr 7 2 105,Wn 3 30]
def Nj:La:=[Wp 106 7 5,Wr 7 2 106,Wn 3 0]
def r52:RC:=(So VA (So xev (So Vz (So xeu (So xet (So xes (So xer (So xeq (So xep (So xeo (Sq (So qd (Bk 0 (.loop Cg))) (So sS (Sq (So xu (Bk 2 (.loop Cf))) (Sq (So sR (XT 104 [5,104] (So Nk .ret))) (So Nj .ret)))))))))))))))
def F52:FnC:=⟨r52,107,[.cell 2 7 true,.tmp 3],[],[]⟩
def Vs:La:=[WC 3 1,WV 4 0,WX 5 false]
def xen:La:=[WL 8 7 3,Wm 9 36 8,Wa 6 9]
def xem:La:=[om 10 7,om 11 0,Wj 12 11,Wh 13 .lss 10 12,Wa 14 13,.grp 14 true [(xi 15 14 true (Mv 6)),(xi 16 14 true (Mv 0)),(xi 17 14 true (Mv 7)),(xi 18 14 true (Ia 7 16 17)),(xi 19 14 true (Lt 7 18)),(xi 20 14 true (Ca 36 [.t 19])),(xi 21 14 true (Ca 98 [.t 15,.t 20])),(xi 22 14 true (.un .not (.t 21)))] [15,16,17,18,19,20,21],Wx 23 14 22]
def xel:Lb:=[Fm 0 24 0,Fm 1 25 7,Wt 2 26 7 24 25,Wu 3 27 7 26,Wu 4 28 7 3,WJ 5 29 56 27 28]
def xek:La:=[Wa 30 7,Wa 4 30,WP 5 true]
def xej:La:=[Wa 31 7,Wb 32 .add 31 1,Wa 7 32]
def XV:RC:=(Sq (So xem (XS 23 [0,3,6,23] (.exit 0))) (Bk 1 (Sq (Sq (.flt [0,0,3,7,0,31] [] xel [24,25,26,27,28]) (XT 29 [0,3,6,29] (So xek .ret))) (.ops xej))))
def xq:RC:=XV
def xei:La:=[Wa 33 7,Wa 4 33,WP 5 false]
def r53:RC:=(So Vs (So xen (So tL (Sq (Bk 0 (.loop xq)) (So xei .ret)))))
def F53:FnC:=⟨r53,34,[.tmp 4,.tmp 5],[],[]⟩
def xeh:La:=[Wa 7 0,Wm 8 93 7,Wa 4 8]
def xeg:La:=[om 9 4,Wo 10 94 9 1,Wa 5 10]
def xef:La:=[Xq 6]
def xee:La:=[om 11 4,Wo 12 96 11 32,Wf 13 0 6,Ws 1 13 12]
def xed:La:=[om 14 4,Wo 15 94 14 6,Wf 16 1 6,Ws 1 16 15]
def xec:La:=[Wa 17 5,Wb 18 .neq 17 22,Wa 19 18,.grp 19 false [(xi 20 19 false (Mv 4)),(xi 21 19 false (Ca 97 [.t 20])),(xi 22 19 false (Bc .neq 21 0))] [4,20,21],Wi 23 19 22,Wa 24 23,XE 25 24 false 1 6 26 24 false 25 27 24 false .gtr 26 1099511627776,Wi 28 24 27]
def r54:RC:=(So Vx (So xeh (So xeg (So xef (So xee (So xed (Sq (So xec (XT 28 [6,28] (So Vw .ret))) (So Vv .ret))))))))
def F54:FnC:=⟨r54,31,[.cell 2 2 true,.tmp 3],[],[]⟩
def xeb:Lb:=[Fm 0 7 6,Fm 1 8 0,Fs 2 9 (Ln 8),Wk 3 10 .lss 7 9,Fm 4 11 10,Wz 5 12 11 true 0,Wz 6 13 11 true 6,Fi 7 14 11 true (Ia 2 12 13),WB 8 15 11 true 0 14,WD 9 16 11 true 15,WB 10 17 11 true 0 3,WD 11 18 11 true 17,W4 12 19 11 true 98 16 18,Wz 13 20 11 true 19,Wz 14 21 20 false 0,Wz 15 22 20 false 6,Fi 16 23 20 false (Ia 2 21 22),WB 17 24 20 false 0 23,WD 18 25 20 false 24,WB 19 26 20 false 0 3,WD 20 27 20 false 26,W4 21 28 20 false 31 25 27,Wz 22 29 20 false 28,Wz 23 30 29 true 0,Wz 24 31 29 true 6,Fi 25 32 29 true (Ia 2 30 31),WB 26 33 29 true 1 32,WD 27 34 29 true 33,WB 28 35 29 true 1 3,WD 29 36 29 true 35,Fi 30 37 29 true (Bb .lss 34 36),Fi 31 38 20 false (Pf 29 37),Fi 32 39 11 true (Pt 20 38),Fs 33 40 (Pf 11 39)]
def xea:La:=[Wa 41 6,Wb 42 .add 41 1,Wa 6 42]
def XU:RC:=(Sq (Sq (.flt [0,0,2,7,15,31,31,127,255,511,31,1055,4095,8191,16383,16383,65535,131071,262143,16383,540671,2097151,4194303,8388607,8388607,33554431,67108863,134217727,8388607,276824063,1073741823,2147483647,4294967295,8589934591] [] xeb [7,8,9,10,11,12,13,14,15,16,17,18,19,20,21,22,23,24,25,26,27,28,29,30,31,32,33,34,35,36,37,38,39]) (XS 40 [40] (.exit 0))) (Bk 1 (.ops xea)))
def Vr:RC:=XU
def xd9:Lb:=[Fm 0 43 6,Fm 1 44 6,Fm 2 45 0,Fs 3 46 (Ln 45),Wk 4 47 .lss 44 46,Fm 5 48 47,Wz 6 49 48 true 0,Wz 7 50 48 true 6,Fi 8 51 48 true (Ia 2 49 50),Fi 9 52 48 true (Lt 2 51),Fi 10 53 48 true (Lt 2 3),W4 11 54 48 true 41 52 53,Fs 12 55 (Pf 48 54),Fm 13 4 43,Fm 14 5 55]
def r55:RC:=(So Vs (So kq (Sq (Bk 0 (.loop Vr)) (Sq (.flt [0,0,0,4,14,30,62,62,254,510,62,2046,4094,4095,16383] [] xd9 [0,3,6,43,44,45,46,47,48,49,50,51,52,53,54,55]) .ret))))
def F55:FnC:=⟨r55,56,[.tmp 4,.tmp 5],[],[]⟩
def xd8:La:=[Wf 9 0 2,Wc 10 9,Wf 11 0 3,Wc 12 11,Wh 13 .neq 10 12,Wa 14 13,.grp 14 false [(xi 15 14 false (Fa 1 2)),(xi 16 14 false (Ld 15)),(xi 17 14 false (Fa 1 3)),(xi 18 14 false (Ld 17)),(xi 19 14 false (Bb .neq 16 18))] [15,16,17,18],Wi 20 14 19,Wa 21 20,.grp 21 false [(xi 22 21 false (Fa 2 2)),(xi 23 21 false (Ld 22)),(xi 24 21 false (Fa 2 3)),(xi 25 21 false (Ld 24)),(xi 26 21 false (Bb .neq 23 25))] [22,23,24,25],Wi 27 21 26,Wa 28 27,.grp 28 false [(xi 29 28 false (Fa 3 2)),(xi 30 28 false (Ld 29)),(xi 31 28 false (Fa 3 3)),(xi 32 28 false (Ld 31)),(xi 33 28 false (Bb .neq 30 32))] [29,30,31,32],Wi 34 28 33,Wa 35 34,.grp 35 false [(xi 36 35 false (Fa 4 2)),(xi 37 35 false (Ld 36)),(xi 38 35 false (Fa 4 3)),(xi 39 35 false (Ld 38)),(xi 40 35 false (Bb .neq 37 39))] [36,37,38,39],Wi 41 35 40,Wa 42 41,.grp 42 false [(xi 43 42 false (Fa 5 2)),(xi 44 42 false (Ld 43)),(xi 45 42 false (Ln 44)),(xi 46 42 false (Fa 5 3)),(xi 47 42 false (Ld 46)),(xi 48 42 false (Ln 47)),(xi 49 42 false (Bb .neq 45 48))] [43,44,45,46,47,48],Wi 50 42 49,Wa 51 50,.grp 51 false [(xi 52 51 false (Fa 6 2)),(xi 53 51 false (Ld 52)),(xi 54 51 false (Ln 53)),(xi 55 51 false (Fa 6 3)),(xi 56 51 false (Ld 55)),(xi 57 51 false (Ln 56)),(xi 58 51 false (Bb .neq 54 57))] [52,53,54,55,56,57],Wi 59 51 58]
def xd7:La:=[om 60 5,Wf 61 5 2,Wc 62 61,Wj 63 62,Wh 64 .lss 60 63]
def xd6:Lb:=[Wg 0 67 5 2,We 1 68 67,Fm 2 69 5,Wt 3 70 4 68 69,Wu 4 71 4 70,Wg 5 72 5 3,We 6 73 72,Fm 7 74 5,Wt 8 75 4 73 74,Wu 9 76 4 75,Fz 10 6 (.new (.rc Zq2)),Fz 11 7 (.new (.rc Zq2)),Fr 12 4 6 71,Fr 13 4 7 76]
def xd5:La:=[Wf 77 0 6,Wc 78 77,Wf 79 0 7,Wc 80 79,Wh 81 .neq 78 80,Wa 82 81,.grp 82 false [(xi 83 82 false (Fa 1 6)),(xi 84 82 false (Ld 83)),(xi 85 82 false (Fa 1 7)),(xi 86 82 false (Ld 85)),(xi 87 82 false (Bb .neq 84 86))] [83,84,85,86],Wi 88 82 87,Wa 89 88,.grp 89 false [(xi 90 89 false (Fa 2 6)),(xi 91 89 false (Ld 90)),(xi 92 89 false (Fa 2 7)),(xi 93 89 false (Ld 92)),(xi 94 89 false (Bb .neq 91 93))] [90,91,92,93],Wi 95 89 94,Wa 96 95,.grp 96 false [(xi 97 96 false (Fa 3 6)),(xi 98 96 false (Ld 97)),(xi 99 96 false (Fa 3 7)),(xi 100 96 false (Ld 99)),(xi 101 96 false (Ca 31 [.t 98,.t 100])),(xi 102 96 false (.un .not (.t 101)))] [6,7,97,98,99,100,101],Wi 103 96 102]
def xd4:La:=[Wa 65 5,Wb 66 .add 65 1,Wa 5 66]
def V9:RC:=(.post (Sq (So xd7 (XS 64 [5,64] (.exit 0))) (Sq (Bk 1 (Sq (.fla [0,1,0,7,15,0,32,0,224,480,0,0,3103,8191] [106,107] xd6 [[0,1,2,3,4,5,6,7,8,9,10,11,12,13],[0,1,2,3,4,5,6,7,8,9,11,10,12,13]] [67,68,69,70,71,72,73,74,75,76]) (So xd5 (XT 103 [2,3,5,103] (So mL .ret))))) (.ops xd4))) [.gc [106,107]])
def IE:RC:=V9
def Ni:La:=[om 104 8,Wf 105 6 2,Wc 106 105,Wj 107 106,Wh 108 .lss 104 107]
def Nh:Lb:=[Wg 0 111 6 2,We 1 112 111,Fm 2 113 8,Wt 3 114 4 112 113,Wu 4 115 4 114,Wg 5 116 6 3,We 6 117 116,Fm 7 118 8,Wt 8 119 4 117 118,Wu 9 120 4 119,Fs 10 121 (.eqS true [1,2,1,1] (.t 115) (.t 120))]
def Ng:La:=[Wa 109 8,Wb 110 .add 109 1,Wa 8 110]
def Dh:RC:=(Sq (So Ni (XS 108 [2,3,8,108] (.exit 2))) (Sq (Bk 3 (Sq (.flt [0,1,0,7,15,0,32,0,224,480,1023] [] Nh [111,112,113,114,115,116,117,118,119,120]) (XT 121 [2,3,8,121] (So mL .ret)))) (.ops Ng)))
def xo:RC:=Dh
def r56:RC:=(So AW (Sq (So xd8 (XT 59 [2,3,59] (So mL .ret))) (Sq (So pt (Bk 0 (.loop IE))) (Sq (So qd (Bk 2 (.loop xo))) (So s6 .ret)))))
def F56:FnC:=⟨r56,122,[.tmp 4],[],[]⟩
def xd3:La:=[WC 3 0,WC 4 1,WC 5 2,WX 6 false]
def xd2:La:=[Wp 8 7 4,Wm 9 32 8,on 7 (.new (.rc [.byt [] .clip])),Wr 1 7 9]
def xd1:La:=[oo 10 (Fa 3 3) [3],Wc 11 10,oo 12 (.mkfn 100 [] [.t 5,.t 7]) [5,7],Wv 13 99 11 12,Wa 6 13]
def r57:RC:=(So xd3 (So xd2 (So xd1 .ret)))
def F57:FnC:=⟨r57,14,[.tmp 6],[],[]⟩
def xd0:La:=[WL 8 7 1,Wm 9 80 8,Wb 10 .neq 9 0]
def xdZ:La:=[on 11 (Ca 101 [(.c (.byt [] .clip)),ci 1,ci 21]),Wa 3 11]
def xdY:La:=[Wa 12 3,Wf 13 0 1,Wc 14 13,oo 15 (.s2b (.t 14)) [14],Wv 16 102 12 15,Wa 3 16]
def xdX:Lb:=[Fm 0 17 3,Wg 1 18 1 1,We 2 19 18,Wg 4 21 2 1,We 5 22 21,W0 3 20 101 17 4 19,W0 6 23 101 20 4 22,⟨7,false,(xm 3 23)⟩]
def xdW:Lb:=[Fm 0 24 3,Wg 1 25 3 1,We 2 26 25,Wg 4 28 4 1,We 5 29 28,W0 3 27 101 24 6 26,W0 6 30 101 27 6 29,⟨7,false,(xm 3 30)⟩]
def xdV:La:=[Wa 31 3,Wf 32 5 1,Wc 33 32,Wj 34 33,Xc 35 101 31 1 34,Wa 3 35]
def xdU:La:=[Wf 36 5 1,Wc 37 36,on 38 (Ln 37),Wn 39 0]
def xdT:La:=[on 40 (Bb .lss 39 38)]
def Nf:La:=[on 41 (Ia 4 37 39),Wp 42 4 41,Xh 5,Wr 4 5 42]
def Nd:Lb:=[Fm 0 43 3,Wg 1 44 0 5,We 2 45 44,Wg 4 47 1 5,We 5 48 47,Fs 6 49 (.s2b (.t 48)),W0 3 46 101 43 1 45,WJ 7 50 102 46 49,⟨8,false,(xm 3 50)⟩]
def Nc:Lb:=[Fm 0 51 3,Wg 1 52 2 5,We 2 53 52,Wg 4 55 3 5,We 5 56 55,W0 3 54 101 51 4 53,W8 6 57 1 54 56,⟨7,false,(xm 3 57)⟩]
def Nb:La:=[Wb 58 .add 39 1,Wa 39 58]
def Dg:RC:=(.post (So xdT (Sq (XS 40 [37,38,39,40] (.exit 0)) (Sq (Bk 1 (So Nf (Sq (.flt [0,0,2,7,0,16,48,127,255] [] Nd [43,44,45,46,47,48,49,50]) (.flt [0,0,2,7,0,16,63,127] [157] Nc [5,51,52,53,54,55,56,57])))) (.ops Nb)))) [.gc [105],.gcr 47000 48000,.gcr 55000 56000,.tok 3 103])
def sQ:RC:=Dg
def Na:La:=[Wa 59 3,Wf 60 6 1,Wc 61 60,Wj 62 61,Xc 63 101 59 1 62,Wa 3 63]
def M9:La:=[Wq 64 6 1,Wc 65 64,on 66 (Ln 65),Wn 67 0]
def M8:La:=[on 68 (Bb .lss 67 66)]
def M7:La:=[on 69 (Ia 4 65 67),Wp 70 4 69,Xt 7,Wr 4 7 70]
def M6:Lb:=[Fm 0 71 3,Wg 1 72 0 7,We 2 73 72,Wg 4 75 1 7,We 5 76 75,Fs 6 77 (.s2b (.t 76)),W0 3 74 101 71 1 73,WJ 7 78 102 74 77,⟨8,false,(xm 3 78)⟩]
def M5:Lb:=[Fm 0 79 3,Wg 1 80 2 7,We 2 81 80,Wg 4 83 3 7,We 5 84 83,W0 3 82 101 79 4 81,W0 6 85 101 82 4 84,⟨7,false,(xm 3 85)⟩]
def M4:La:=[Wb 86 .add 67 1,Wa 67 86]
def Df:RC:=(.post (So M8 (Sq (XS 68 [65,66,67,68] (.exit 2)) (Sq (Bk 3 (So M7 (Sq (.flt [0,0,2,7,0,16,48,127,255] [] M6 [71,72,73,74,75,76,77,78]) (.flt [0,0,2,7,0,16,63,127] [] M5 [7,79,80,81,82,83,84,85])))) (.ops M4)))) [.gc [107],.gcr 75000 76000,.gcr 83000 84000])
def sP:RC:=Df
def M3:La:=[Wa 87 3,Wa 2 87]
def r59:RC:=(So tJ (Sq (So xd0 (XT 10 [1,10] (So qc .ret))) (So xdZ (So xdY (Sq (.flt [0,0,2,7,0,16,63,127] [] xdX [17,18,19,20,21,22,23]) (Sq (.flt [0,0,2,7,0,16,63,127] [] xdW [24,25,26,27,28,29,30]) (So xdV (Sq (So xdU (Bk 0 (.pre [.tok 3 103] (.loop sQ)))) (So Na (Sq (So M9 (Bk 2 (.loop sP))) (So M3 .ret)))))))))))
def F59:FnC:=⟨r59,88,[.tmp 2],[],[]⟩
def xdS:La:=[Wa 5 0,Wa 6 1,Wv 7 104 5 6,W5 8 103 1 7,Wa 4 8]
def r60:RC:=(So il (So xdS .ret))
def F60:FnC:=⟨r60,9,[.tmp 4],[],[]⟩
def xdR:La:=[WC 5 0,on 10 (.new (.rc Zq4))]
def xdQ:La:=[Wa 12 1,Wa 13 2,Wa 14 3,Wa 15 4,Wf 16 0 5,Wc 17 16,Xy 18 105 13 14 15 17,oo 19 (.build [.int .i64 0,.byt [] .clip] [(0,1,(.t 12)),(1,1,(.t 18))]) [12,18],XR 11,Wr 2 11 19]
def xdP:Lb:=[Wg 0 20 0 5,We 1 21 20,Fs 2 22 (.lit 2 []),Wg 3 23 1 5,We 4 24 23,Wu 6 26 2 11,W6 7 27 2 26,XP 5 25 32 22 24,XP 8 28 32 25 27,Fs 9 29 (.build Zq4 [(0,1,(.t 21)),(1,1,(.t 28))]),Fr 10 2 10 29]
def r61:RC:=(So xdR (So xdQ (Sq (.flt [0,1,0,0,8,28,0,64,252,511,1023] [125,128] xdP [5,11,20,21,22,23,24,25,26,27,28,29]) .ret)))
def F61:FnC:=⟨r61,30,[.cell 10 2 true],[],[]⟩
def xdO:La:=[Wf 7 0 1,Wc 8 7,Wm 9 106 8,WY 10 9]
def tI:La:=[Wn 2 43]
def xdN:La:=[Wf 11 2 1,Wc 12 11,Wb 13 .lss 12 0,Wa 14 13,.grp 14 false [(xi 15 14 false (Fa 2 1)),(xi 16 14 false (Ld 15)),(xi 17 14 false (Fa 1 1)),(xi 18 14 false (Ld 17)),(xi 19 14 false (Bb .gtr 16 18))] [15,16,17,18],Wi 20 14 19,Wa 21 20,.grp 21 false [(xi 22 21 false (Fa 1 1)),(xi 23 21 false (Ld 22)),(xi 24 21 false (Bc .gtr 23 1000000))] [22,23],Wi 25 21 24,Wa 26 25,.grp 26 false [(xi 27 26 false (Fa 3 1)),(xi 28 26 false (Ld 27)),(xi 29 26 false (Bc .lss 28 0))] [27,28],Wi 30 26 29,Wa 31 30,.grp 31 false [(xi 32 31 false (Fa 3 1)),(xi 33 31 false (Ld 32)),(xi 34 31 false (Fa 4 1)),(xi 35 31 false (Ld 34)),(xi 36 31 false (Bb .geq 33 35))] [32,33,34,35],Wi 37 31 36,Wa 38 37,.grp 38 false [(xi 39 38 false (Fa 4 1)),(xi 40 38 false (Ld 39)),(xi 41 38 false (Bc .gtr 40 1099511627776))] [39,40],Wi 42 38 41]
def xdM:La:=[Wf 43 5 1,Wc 44 43,Wj 45 44,Wb 46 .gtr 45 16,Wa 47 46,.grp 47 false [(xi 48 47 false (Fa 6 1)),(xi 49 47 false (Ld 48)),(xi 50 47 false (Ln 49)),(xi 51 47 false (Bc .gtr 50 8))] [48,49,50],Wi 52 47 51]
def xdL:La:=[om 53 3,Wf 54 5 1,Wc 55 54,Wj 56 55,Wh 57 .lss 53 56]
def xdK:La:=[Wf 60 5 1,Wc 61 60,om 62 3,WI 63 4 61 62,Wp 64 4 63,Xh 4,WG 4 64]
def M2:La:=[Wf 65 0 4,Wc 66 65,Wb 67 .lss 66 1,Wa 68 67,.grp 68 false [(xi 69 68 false (Fa 0 4)),(xi 70 68 false (Ld 69)),(xi 71 68 false (Bc .gtr 70 3))] [69,70],Wi 72 68 71,Wa 73 72,.grp 73 false [(xi 74 73 false (Fa 2 4)),(xi 75 73 false (Ld 74)),(xi 76 73 false (Bc .lss 75 0))] [74,75],Wi 77 73 76,Wa 78 77,.grp 78 false [(xi 79 78 false (Fa 2 4)),(xi 80 78 false (Ld 79)),(xi 81 78 false (Bc .gtr 80 1000000))] [79,80],Wi 82 78 81,Wa 83 82,.grp 83 false [(xi 84 83 false (Fa 3 4)),(xi 85 83 false (Ld 84)),(xi 86 83 false (Ln 85)),(xi 87 83 false (Bc .neq 86 32))] [84,85,86],Wi 88 83 87]
def M1:La:=[Wf 89 1 4,Wc 90 89,Wm 91 106 90,WY 92 91]
def M0:Lb:=[Fm 0 93 3,WE 1 94 .gtr 93 0,Fm 2 95 94,WB 3 96 95 true 5 1,WD 4 97 95 true 96,Wz 5 98 95 true 3,Fi 6 99 95 true (Bc .sub 98 1),Fi 7 100 95 true (Ia 4 97 99),Fi 8 101 95 true (Lt 4 100),Fi 9 102 95 true (Lt 4 4),W4 10 103 95 true 107 101 102,Fi 11 104 95 true (.un .not (.t 103)),Fs 12 105 (Pf 95 104)]
def MZ:La:=[Wa 58 3,Wb 59 .add 58 1,Wa 3 59]
def De:RC:=(.post (Sq (So xdL (XS 57 [3,57] (.exit 0))) (Sq (Bk 1 (So xdK (Sq (So M2 (XT 88 [1,3,4,88] (So gC .ret))) (Sq (So M1 (XT 92 [1,3,4,92] (So tI .ret))) (Sq (.flt [0,1,3,7,15,7,39,127,255,7,1023,2047,4095] [] M0 [4,93,94,95,96,97,98,99,100,101,102,103,104]) (XT 105 [1,3,105] (So AS .ret))))))) (.ops MZ))) [.gc [104]])
def np:RC:=De
def MY:La:=[om 106 5,Wf 107 6 1,Wc 108 107,Wj 109 108,Wh 110 .lss 106 109]
def MX:La:=[Wf 113 6 1,Wc 114 113,om 115 5,WI 116 4 114 115,Wp 117 4 116,Wm 118 108 117,Wa 6 118]
def MW:La:=[om 119 6,Wb 120 .neq 119 0]
def MV:La:=[Wa 121 6,Wa 2 121]
def MU:La:=[Wa 111 5,Wb 112 .add 111 1,Wa 5 112]
def Dd:RC:=(Sq (So MY (XS 110 [1,5,110] (.exit 2))) (Sq (Bk 3 (So MX (So MW (Kc 120 (Kk [1,5,120] (So MV .ret)) (Kk [6,120] .skip))))) (.ops MU)))
def xl:RC:=Dd
def r62:RC:=(So pr (Sq (So xdO (XT 10 [1,10] (So tI .ret))) (Sq (So xdN (XT 42 [1,42] (So gC .ret))) (Sq (So xdM (XT 52 [1,52] (So pq .ret))) (Sq (So xy (Bk 0 (.loop np))) (Sq (So pt (Bk 2 (.loop xl))) (So kV .ret)))))))
def F62:FnC:=⟨r62,122,[.tmp 2],[],[]⟩
def xdJ:La:=[om 5 1,Wj 6 5,Wb 7 .gtr 6 65535]
def xdI:La:=[Wa 8 1,Xj 9 1 8 65535,Wa 1 9]
def xdH:La:=[Wa 10 0,om 11 1,Wj 12 11,Xc 13 64 10 2 12,Wa 14 1,Wy 15 1 13 14,Wa 4 15]
def r63:RC:=(So il (Sq (So xdJ (XT 7 [7] (.ops xdI))) (So xdH .ret)))
def F63:FnC:=⟨r63,16,[.tmp 4],[0],[]⟩
def tH:La:=[W7 6]
def xdG:La:=[on 9 (.litB []),Wa 10 0,Wy 11 1 9 10,Wa 7 11]
def xdF:La:=[om 12 1,Wb 13 .lss 12 1,Wa 14 13,.grp 14 false [(xi 15 14 false (Mv 1)),(xi 16 14 false (Bc .gtr 15 8))] [15],Wi 17 14 16]
def xdE:La:=[Wa 18 7,Wa 6 18]
def xdD:La:=[Wa 19 1,Wb 20 .sub 19 1,Wa 8 20]
def xdC:La:=[om 21 8,Wb 22 .geq 21 0]
def xdB:La:=[Wa 25 7,om 26 2,WZ 27 26,om 28 8,WZ 29 28,oo 30 (.bin .mul (.c (.int .u64 8)) (.t 29)) [29],Wh 31 .shr 27 30,Ww 32 31,WW 33 32,Wy 34 1 25 33,Wa 7 34]
def xdA:La:=[Wa 23 8,Wb 24 .sub 23 1,Wa 8 24]
def V8:RC:=(.post (Sq (So xdC (XS 22 [2,8,22] (.exit 0))) (Sq (Bk 1 (.ops xdB)) (.ops xdA))) [.tok 7 107])
def Vq:RC:=V8
def xdz:La:=[Wa 35 7,Wa 6 35]
def r64:RC:=(So tH (So xdG (Sq (So xdF (XT 17 [1,2,17] (So xdE .ret))) (Sq (So xdD (Bk 0 (.pre [.tok 7 107] (.loop Vq)))) (So xdz .ret)))))
def F64:FnC:=⟨r64,36,[.tmp 6],[0],[]⟩
def xdy:La:=[Wa 5 0,Wa 6 1,Wv 7 109 5 6,Wm 8 68 7,Wa 4 8]
def r65:RC:=(So il (So xdy .ret))
def F65:FnC:=⟨r65,9,[.tmp 4],[],[]⟩
def xdx:La:=[om 5 0,Wj 6 5,Wm 7 110 6,WY 8 7]
def xdw:La:=[Wa 9 0,Wa 3 9]
def xdv:La:=[om 10 3,Wj 11 10,Wb 12 .gtr 11 1]
def xdu:La:=[om 15 4,Wa 16 3,Wv 17 111 15 16,Wa 3 17]
def xdt:La:=[Wa 13 4,Wb 14 .add 13 1,Wa 4 14]
def V7:RC:=(Sq (So xdv (XS 12 [4,12] (.exit 0))) (Sq (Bk 1 (.ops xdu)) (.ops xdt)))
def xds:RC:=V7
def xdr:La:=[Wa 18 3,Xz 19 1 18 0,Wc 20 19,Wm 21 112 20,Wa 2 21]
def r66:RC:=(So kW (Sq (So xdx (XT 8 [0,8] (So qc .ret))) (So xdw (Sq (So iZ (Bk 0 (.loop xds))) (So xdr .ret)))))
def F66:FnC:=⟨r66,22,[.tmp 2],[],[]⟩
def AQ:La:=[Xi 5]
def xdq:La:=[Wa 8 0,om 9 1,Wv 10 113 8 9,Wa 6 10]
def xdp:La:=[om 11 7,om 12 1,WZ 13 12,WO 14 .shl 1 13,Wh 15 .lss 11 14]
def xdo:La:=[Wa 18 5,om 19 6,om 20 7,Wv 21 114 19 20,WM 22 1 21,XA 23 24 18 22,Wa 5 23]
def xdn:La:=[Wa 16 7,Wb 17 .add 16 1,Wa 7 17]
def V6:RC:=(.post (Sq (So xdp (XS 15 [1,6,7,15] (.exit 0))) (Sq (Bk 1 (.ops xdo)) (.ops xdn))) [.tok 5 105])
def xdm:RC:=V6
def xdl:La:=[Wa 24 5,Wa 4 24]
def r67:RC:=(So AT (So AQ (So xdq (Sq (So tL (Bk 0 (.pre [.tok 5 105] (.loop xdm)))) (So xdl .ret)))))
def F67:FnC:=⟨r67,25,[.tmp 4],[],[]⟩
def xdk:La:=[on 18 (Ca 115 []),XF 3,Wr 64 3 18]
def xdj:La:=[.own (xs 19 (.lit 1 [(.c (.int .u32 1779033703)),(.c (.int .u32 3144134277)),(.c (.int .u32 1013904242)),(.c (.int .u32 2773480762)),(.c (.int .u32 1359893119)),(.c (.int .u32 2600822924)),(.c (.int .u32 528734635)),(.c (.int .u32 1541459225))])) [],Wa 4 19]
def xdi:La:=[Wa 20 0,Wm 21 116 20,Wa 5 21]
def xdh:La:=[om 22 6,om 23 5,Wj 24 23,Wh 25 .lss 22 24]
def xdg:La:=[XF 7]
def xdf:La:=[om 28 8,Wb 29 .lss 28 64]
def xde:La:=[om 32 8,Wb 33 .lss 32 16]
def MT:La:=[om 34 8,om 35 5,om 36 6,om 37 6,Wb 38 .add 37 64,XG 39 1 35 36 38,om 40 8,Wv 41 117 39 40,oo 42 (.iaddrA 64 1 (.t 7) (.t 34)) [34],Ws 1 42 41]
def MS:Lb:=[Fm 0 43 8,WE 1 44 .sub 43 15,WR 2 45 7 44,We 3 46 45,Fm 5 48 8,WE 6 49 .sub 48 15,WR 7 50 7 49,We 8 51 50,Fm 11 54 8,WE 12 55 .sub 54 15,WR 13 56 7 55,We 14 57 56,Fs 15 58 (.bin .shr (.t 57) (.c (.int .u64 3))),Fz 4 47 (Ca 118 [.t 46,(.c (.int .u64 7))]),Fz 9 52 (Ca 118 [.t 51,(.c (.int .u64 18))]),Wk 10 53 .xor 47 52,Wk 16 59 .xor 53 58,Fm 17 9 59]
def MR:Lb:=[Fm 0 60 8,WE 1 61 .sub 60 2,WR 2 62 7 61,We 3 63 62,Fm 5 65 8,WE 6 66 .sub 65 2,WR 7 67 7 66,We 8 68 67,Fm 11 71 8,WE 12 72 .sub 71 2,WR 13 73 7 72,We 14 74 73,Fs 15 75 (.bin .shr (.t 74) (.c (.int .u64 10))),Fz 4 64 (Ca 118 [.t 63,(.c (.int .u64 17))]),Fz 9 69 (Ca 118 [.t 68,(.c (.int .u64 19))]),Wk 10 70 .xor 64 69,Wk 16 76 .xor 70 75,Fm 17 10 76]
def MQ:Lb:=[Fm 0 77 8,Fm 1 78 10,Fm 2 79 8,WE 3 80 .sub 79 7,WR 4 81 7 80,We 5 82 81,Wk 6 83 .add 78 82,Fm 7 84 9,Wk 8 85 .add 83 84,Fm 9 86 8,WE 10 87 .sub 86 16,WR 11 88 7 87,We 12 89 88,Wk 13 90 .add 85 89,WR 14 91 7 77,Fr 15 1 91 90]
def Ce:La:=[Wa 30 8,Wb 31 .add 30 1,Wa 8 31]
def Dc:RC:=(Sq (So xdf (XS 29 [8,29] (.exit 2))) (Sq (Bk 3 (Sq (So xde (XT 33 [33] (So MT (.exit 3)))) (Sq (.flt [0,1,3,7,15,0,32,96,224,511,1023,0,2048,6144,14336,30720,65535,131071] [] MS [43,44,45,46,47,48,49,50,51,52,53,54,55,56,57,58,59]) (Sq (.flt [0,1,3,7,15,0,32,96,224,511,1023,0,2048,6144,14336,30720,65535,131071] [] MR [60,61,62,63,64,65,66,67,68,69,70,71,72,73,74,75,76]) (.flt [0,0,0,4,12,28,62,0,254,0,512,1536,3584,8190,16383,32767] [] MQ [9,10,77,78,79,80,81,82,83,84,85,86,87,88,89,90,91]))))) (.ops Ce)))
def Cd:RC:=Dc
def MP:La:=[on 92 (.lit 1 []),om 93 4,oo 94 (.app [.int .u32 0] 4 (.t 92) (.t 93)) [92,93],Wa 11 94]
def MO:La:=[Wn 12 0]
def MN:La:=[om 95 12,Wb 96 .lss 95 64]
def MM:Lb:=[Fm 0 99 11,WT 1 100 1 99 0,We 2 101 100,Fm 3 102 11,WT 4 103 1 102 4,We 5 104 103,Fm 6 13 101,Fm 7 14 104]
def ML:Lb:=[Fm 0 105 11,WT 1 106 1 105 7,We 2 107 106,Fm 3 108 14,Fm 5 110 14,Fm 8 113 14,Fm 12 117 14,Fm 13 118 11,WT 14 119 1 118 5,We 15 120 119,Wk 16 121 .and 117 120,Fm 17 122 14,Fs 18 123 (.un .xor (.t 122)),Fm 19 124 11,WT 20 125 1 124 6,We 21 126 125,Wk 22 127 .and 123 126,Wk 23 128 .xor 121 127,Fm 25 130 12,WR 26 131 3 130,We 27 132 131,Fm 29 134 12,WR 30 135 7 134,We 31 136 135,Fz 4 109 (Ca 118 [.t 108,(.c (.int .u64 6))]),Fz 6 111 (Ca 118 [.t 110,(.c (.int .u64 11))]),Wk 7 112 .xor 109 111,Fz 9 114 (Ca 118 [.t 113,(.c (.int .u64 25))]),Wk 10 115 .xor 112 114,Wk 11 116 .add 107 115,Wk 24 129 .add 116 128,Wk 28 133 .add 129 132,Wk 32 137 .add 133 136,Fm 33 15 137]
def MK:Lb:=[Fm 0 138 13,Fm 2 140 13,Fm 5 143 13,Fm 8 146 13,Fm 9 147 11,WT 10 148 1 147 1,We 11 149 148,Wk 12 150 .and 146 149,Fm 13 151 13,Fm 14 152 11,WT 15 153 1 152 2,We 16 154 153,Wk 17 155 .and 151 154,Wk 18 156 .xor 150 155,Fm 19 157 11,WT 20 158 1 157 1,We 21 159 158,Fm 22 160 11,WT 23 161 1 160 2,We 24 162 161,Wk 25 163 .and 159 162,Wk 26 164 .xor 156 163,Fz 1 139 (Ca 118 [.t 138,(.c (.int .u64 2))]),Fz 3 141 (Ca 118 [.t 140,(.c (.int .u64 13))]),Wk 4 142 .xor 139 141,Fz 6 144 (Ca 118 [.t 143,(.c (.int .u64 22))]),Wk 7 145 .xor 142 144,Wk 27 165 .add 145 164,Fm 28 16 165]
def MJ:Lb:=[Fm 0 166 15,Fm 1 167 16,Wk 2 168 .add 166 167,Fm 3 169 13,Fm 4 170 11,WT 5 171 1 170 1,We 6 172 171,Fm 7 173 11,WT 8 174 1 173 2,We 9 175 174,Fm 10 176 11,WT 11 177 1 176 3,We 12 178 177,Fm 13 179 15,Wk 14 180 .add 178 179,Fm 15 181 14,Fm 16 182 11,WT 17 183 1 182 5,We 18 184 183,Fm 19 185 11,WT 20 186 1 185 6,We 21 187 186,Fs 22 188 (.lit 1 [.t 168,.t 169,.t 172,.t 175,.t 180,.t 181,.t 184,.t 187]),⟨23,false,(xm 11 188)⟩]
def MI:La:=[Wa 97 12,Wb 98 .add 97 1,Wa 12 98]
def Db:RC:=(Sq (So MN (XS 96 [7,12,96] (.exit 4))) (Sq (Bk 5 (Sq (.flt [0,1,3,0,8,24,7,127] [] MM [99,100,101,102,103,104]) (Sq (.flt [0,1,3,0,8,0,56,120,0,376,1016,2047,0,0,8192,24576,61440,0,131072,0,524288,1572864,4063232,8384512,16777215,0,33554432,100663296,268435455,0,536870912,1610612736,4294967295,8589934591] [] ML [105,106,107,108,109,110,111,112,113,114,115,116,117,118,119,120,121,122,123,124,125,126,127,128,129,130,131,132,133,134,135,136,137]) (Sq (.flt [0,1,0,7,15,0,47,127,0,0,512,1536,3840,0,0,16384,49152,122880,261888,0,524288,1572864,0,4194304,12582912,33030144,67108608,134217727,268435455] [] MK [138,139,140,141,142,143,144,145,146,147,148,149,150,151,152,153,154,155,156,157,158,159,160,161,162,163,164,165]) (.flt [0,0,3,0,0,16,48,0,128,384,0,1024,3072,0,15360,0,0,65536,196608,0,524288,1572864,4194303,8388607] [] MJ [13,14,15,16,166,167,168,169,170,171,172,173,174,175,176,177,178,179,180,181,182,183,184,185,186,187,188]))))) (.ops MI)))
def Cc:RC:=Db
def Cb:La:=[Wn 17 0]
def MH:La:=[om 189 17,Wb 190 .lss 189 8]
def MG:Lb:=[Fm 0 193 4,Fm 1 194 17,Wt 2 195 1 193 194,We 3 196 195,Fm 4 197 11,Fm 5 198 17,Wt 6 199 1 197 198,We 7 200 199,Wk 8 201 .add 196 200,Wt 9 202 1 193 194,Fr 10 1 202 201]
def MF:La:=[Wa 191 17,Wb 192 .add 191 1,Wa 17 192]
def Da:RC:=(Sq (So MH (XS 190 [11,17,190] (.exit 6))) (Sq (Bk 7 (.flt [0,0,3,7,0,0,48,112,255,511,1023] [] MG [193,194,195,196,197,198,199,200,201,202])) (.ops MF)))
def B0:RC:=Da
def ME:La:=[Wa 26 6,Wb 27 .add 26 64,Wa 6 27]
def C9:RC:=(.post (Sq (So xdh (XS 25 [3,5,6,25] (.exit 0))) (Sq (Bk 1 (So xdg (Sq (So qd (Bk 2 (.loop Cd))) (So MP (Sq (So MO (Bk 4 (.loop Cc))) (So Cb (Bk 6 (.loop B0)))))))) (.ops ME))) [.gc [107,194]])
def BZ:RC:=C9
def MD:La:=[Wa 203 4,Wm 204 119 203,Wa 2 204]
def r68:RC:=(So kW (So xdk (So xdj (So xdi (Sq (So kq (Bk 0 (.loop BZ))) (So MD .ret))))))
def F68:FnC:=⟨r68,205,[.tmp 2],[],[]⟩
def xdd:La:=[WU 6]
def xdc:La:=[Wa 12 0,Wa 13 1,oo 14 (.build Zq0 [(0,1,(.t 12)),(1,1,(.t 13)),(4,1,(ci 1099511627776))]) [12,13],WU 7,WG 7 14]
def xdb:La:=[om 15 8,om 16 2,Wj 17 16,Wh 18 .lss 15 17]
def xda:La:=[om 21 2,om 22 8,WI 23 4 21 22,Wp 24 4 23,Wm 25 120 24,Wa 9 25]
def xc9:La:=[om 26 9,Wj 27 26,Wb 28 .eql 27 0,Wa 29 28,.grp 29 false [(xi 30 29 false (Mv 2)),(xi 31 29 false (Mv 8)),(xi 32 29 false (Ia 4 30 31)),(xi 33 29 false (Fa 0 32)),(xi 34 29 false (Ld 33)),(xi 35 29 false (Bc .eql 34 4))] [30,31,32,33,34],Wi 36 29 35]
def xc8:Lb:=[Fm 0 37 2,Fm 1 38 8,Wt 2 39 4 37 38,Wg 3 40 0 39,We 4 41 40,Fm 5 42 2,Fm 6 43 8,Wt 7 44 4 42 43,Wg 8 45 1 44,We 9 46 45,Fm 10 47 2,Fm 11 48 8,Wt 12 49 4 47 48,Wg 13 50 2 49,We 14 51 50,Fm 15 52 9,WS 16 53 68 52,Fs 17 54 (.build Zq2 [(0,1,(.t 41)),(1,1,(.t 46)),(2,1,(.t 51)),(3,1,(.t 53))]),Fz 18 10 (.new (.rc Zq2)),Fr 19 4 10 54]
def xc7:Lb:=[Fm 0 55 11,Wg 1 56 5 7,We 2 57 56,Fs 3 58 (Ln 57),Wk 4 59 .lss 55 58,Fm 5 60 59,WB 6 61 60 true 5 7,WD 7 62 60 true 61,Wz 8 63 60 true 11,Fi 9 64 60 true (Ia 4 62 63),Fi 10 65 60 true (Lt 4 64),Fi 11 66 60 true (Lt 4 10),W4 12 67 60 true 107 65 66,Fs 13 68 (Pf 60 67)]
def xc6:La:=[Wa 69 11,Wb 70 .add 69 1,Wa 11 70]
def C8:RC:=(Sq (Sq (.flt [0,0,2,6,15,31,63,127,63,511,1023,63,4095,8191] [] xc7 [55,56,57,58,59,60,61,62,63,64,65,66,67]) (XS 68 [68] (.exit 2))) (Bk 3 (.ops xc6)))
def BY:RC:=C8
def MC:Lb:=[Fm 0 71 11,Wg 1 72 5 7,We 2 73 72,Fs 3 74 (Ln 73),Wk 4 75 .lss 71 74,Fm 5 76 75,Fi 6 77 76 true (Lt 4 10),WB 7 78 76 true 5 7,WD 8 79 76 true 78,Wz 9 80 76 true 11,Fi 10 81 76 true (Ia 4 79 80),Fi 11 82 76 true (Lt 4 81),W4 12 83 76 true 107 77 82,Fi 13 84 76 true (.un .not (.t 83)),Fs 14 85 (Pf 76 84)]
def MB:Lb:=[Fs 0 86 (.lit 4 []),Wg 1 87 5 7,We 2 88 87,Fm 3 89 11,Xr 4 90 4 88 89,Wu 6 92 4 10,W6 7 93 4 92,Wg 9 95 5 7,We 10 96 95,Fm 11 97 11,Xw 12 98 4 96 97,Fz 5 91 (.app Zq2 56 (.t 86) (.t 90)),Fz 8 94 (.app Zq2 56 (.t 91) (.t 93)),Fz 13 99 (.app Zq2 56 (.t 94) (.t 98)),Wg 14 100 5 7,Fr 15 1 100 99]
def MA:La:=[Wa 19 8,Wb 20 .add 19 1,Wa 8 20]
def C7:RC:=(.post (Sq (So xdb (XS 18 [2,8,18] (.exit 0))) (Sq (Bk 1 (So xda (Sq (So xc9 (XT 36 [9,36] (.exit 1))) (Sq (.fla [0,0,3,7,15,0,0,96,224,480,0,0,3072,7168,15360,0,32768,131071,0,524287] [110] xc8 [[0,1,2,3,4,5,6,7,8,9,10,11,12,13,14,15,16,17,18,19],[0,1,2,3,4,5,6,7,8,9,10,11,12,13,14,15,18,16,17,19]] [9,37,38,39,40,41,42,43,44,45,46,47,48,49,50,51,52,53,54]) (So xu (Sq (Bk 2 (.loop BY)) (Sq (Sq (.flt [0,0,2,6,15,31,63,63,191,63,959,1983,4095,8191,16383] [] MC [71,72,73,74,75,76,77,78,79,80,81,82,83,84]) (XT 85 [10,11,85] (.exit 1))) (.flt [0,0,2,0,14,31,0,64,255,0,512,0,3584,8191,16383,32767] [191,194,199] MB [10,11,86,87,88,89,90,91,92,93,94,95,96,97,98,99,100])))))))) (.ops MA))) [.gc [110,191,194,199]])
def nl:RC:=C7
def Mz:La:=[oo 101 (Lt 7 7) [7],Wr 7 6 101]
def r69:RC:=(So xdd (So xdc (Sq (So qd (Bk 0 (.loop nl))) (So Mz .ret))))
def F69:FnC:=⟨r69,102,[.cell 6 7 true],[0],[]⟩
def xc5:La:=[Xt 2]
def xc4:La:=[om 5 0,Wo 6 17 5 5]
def xc3:La:=[on 8 (Bc .eql 6 0),Wa 7 8]
def xc2:La:=[on 9 (.build Zq3 [(0,1,(ci 1))]),Wr 4 2 9]
def xc1:La:=[on 11 (Bc .eql 6 1),Wa 10 11]
def xc0:La:=[Wa 12 0,Wm 13 121 12,Xd 14 13,oo 15 (.build Zq3 [(0,1,(ci 2)),(1,1,(.t 14))]) [14],Wr 4 2 15]
def xcZ:La:=[Wb 17 .eql 6 2,Wa 16 17]
def xcY:La:=[on 18 (.build [.str [],.str [],.str [],.str [],.str [],.str [],.str []] [(0,1,(.c (.str []))),(1,1,(.c (.str [42]))),(2,1,(.c (.str [97,61,63]))),(3,1,(.c (.str [42,61,42]))),(4,1,(.c (.str [63,111,42,53]))),(5,1,(.c (.str [99,111,117,110,116,61,63,63]))),(6,1,(.c (.str [42,97,42,42,49,42])))]),on 3 (.new (.arr 1 (aL 7 [.str []]))),Wr 7 3 18]
def xcX:La:=[Wa 19 0,Wo 20 17 19 7,oo 21 (.iaddrA 7 1 (.t 3) (.t 20)) [3,20],Wc 22 21,oo 23 (.build Zq3 [(0,1,(ci 3)),(1,1,(.t 22))]) [22],Wr 4 2 23]
def xcW:La:=[om 24 0,Wo 25 17 24 20,Wa 4 25]
def My:Lb:=[Fs 0 26 (.build [.str [],.str [],.str []] [(0,1,(.c (.str [99,111,117,110,116,61]))),(1,1,(.c (.str [97,61]))),(2,1,(.c (.str [])))]),Fm 1 27 0,Fm 4 30 4,Fm 5 31 4,Fm 6 32 0,WN 2 28 17 27 3,Fs 3 29 (.idxA 3 1 false (.t 26) (.t 28)),WN 7 33 17 32 30,Wk 8 34 .add 31 33,Fs 9 35 (.build Zq3 [(0,1,(ci 4)),(1,1,(.t 29)),(2,1,(.t 30)),(3,1,(.t 34))]),Fr 10 4 2 35]
def r70:RC:=(So xc5 (Sq (So xc4 (Bk 0 (So xc3 (Kc 7 (Kk [0,6,7] (So xc2 .ret)) (Kk [7] (So xc1 (Kc 10 (Kk [6,10] (So xc0 .ret)) (Kk [10] (So xcZ (XT 16 [16] (So xcY (So xcX .ret)))))))))))) (So xcW (Sq (.flt [0,0,2,7,0,0,0,70,230,511,1023] [] My [0,4,26,27,28,29,30,31,32,33,34,35]) .ret))))
def F70:FnC:=⟨r70,36,[.cell 2 4 true],[],[]⟩
def xcV:La:=[on 0 (.new (.arr 1 (aL 5 [.str []])))]
def xcU:La:=[on 1 (.build [.str [],.str [],.str [],.str [],.str []] [(0,1,(.c (.str [97]))),(1,1,(.c (.str [103,114,117,98]))),(2,1,(.c (.str [108,105,110,117,120]))),(3,1,(.c (.str [110,101,116,45,48]))),(4,1,(.c (.str [116,119,101,108,118,101,45,98,121,116,101,115])))]),Wr 5 0 1]
def r71:RC:=(So xcV (So xcU .ret))
def F71:FnC:=⟨r71,2,[.cell 0 5 true],[],[]⟩
def Vp:La:=[Xb 3]
def xcT:La:=[om 5 0,Wo 6 17 5 4,WO 7 .add 1 6,Wa 4 7]
def xcS:La:=[om 8 4,Wb 9 .gtr 8 0]
def xcR:La:=[Wa 12 3,om 13 0,Wm 14 121 13,Wy 15 1 12 14,on 16 (.litB [(.c (.u8 10))]),Wy 17 1 15 16,Wa 3 17]
def xcQ:La:=[Wa 10 4,Wb 11 .sub 10 1,Wa 4 11]
def V5:RC:=(.post (Sq (So xcS (XS 9 [0,4,9] (.exit 0))) (Sq (Bk 1 (.ops xcR)) (.ops xcQ))) [.gc [115],.tok 3 103])
def Vo:RC:=V5
def xcP:La:=[Wa 18 3,Wa 2 18]
def r72:RC:=(So kW (So Vp (Sq (So xcT (Bk 0 (.pre [.tok 3 103] (.loop Vo)))) (So xcP .ret))))
def F72:FnC:=⟨r72,19,[.tmp 2],[],[]⟩
def Vn:La:=[oo 2 (.mov (.c .nilp)) [2]]
def xcO:La:=[Wa 3 0,XB 4 1 3,oo 5 (.build [.byt [] .clip,.int .i64 0,.int .i64 0] [(0,1,(.t 4))]) [4],WC 6 5,Wa 2 6]
def r74:RC:=(So Vn (So xcO .ret))
def F74:FnC:=⟨r74,7,[.tmp 2],[],[]⟩
def Vm:La:=[om 10 0,WA 11 10,Wq 12 2 11,Wc 13 12,Wb 14 .neq 13 0]
def xcN:La:=[om 15 1,Wb 16 .lss 15 1,Wa 17 16,.grp 17 false [(xi 18 17 false (Mv 1)),(xi 19 17 false (Bc .gtr 18 8))] [18],Wi 20 17 19]
def xcM:La:=[Wa 21 0,oo 22 (Ca 124 [.t 21,ci 1]) [21,22]]
def xcL:La:=[om 24 0,om 25 0,WA 26 25,Wq 27 1 26,Wc 28 27,om 29 1,Xn 30 125 24 28 29,Wa 23 30,WH 31 23 0,WF 32 23 1,Wa 5 31,Wa 6 32]
def xcK:La:=[om 33 6,Wb 34 .neq 33 0]
def xcJ:La:=[Wa 35 0,Wa 36 6,oo 37 (Ca 124 [.t 35,.t 36]) [35,36,37]]
def Mx:La:=[on 7 (.mov (.c (.int .u64 0)))]
def Mw:La:=[Wa 38 5,on 39 (Ln 38),Wn 40 0]
def Mu:La:=[on 41 (Bb .lss 40 39)]
def Mt:La:=[on 42 (Ia 1 38 40),Wc 43 42,Wa 9 43]
def Ms:La:=[Wa 44 7,Xk 45 .shl 44,Wa 46 9,WZ 47 46,Wh 48 .or 45 47,Wa 7 48]
def Mr:La:=[Wb 49 .add 40 1,Wa 40 49]
def C6:RC:=(So Mu (Sq (XS 41 [38,39,40,41] (.exit 0)) (Sq (Bk 1 (So Mt (.ops Ms))) (.ops Mr))))
def BX:RC:=C6
def Mq:La:=[om 50 7,oo 51 (.bin .gtr (.t 50) (.c (.int .u64 9223372036854775807))) [50]]
def Mp:La:=[Wa 52 0,oo 53 (Ca 124 [.t 52,ci 4]) [52,53]]
def Mo:La:=[Wa 54 0,Xl 55 54,Wq 56 1 55,Wc 57 56,Wa 58 1,Wh 59 .add 57 58,WA 60 54,Wq 61 1 60,Ws 1 61 59]
def Mn:La:=[Wa 62 7,Xe 63 62,Wa 4 63]
def r75:RC:=(So qf (Sq (So Vm (XT 14 [0,1,14] (So iZ .ret))) (Sq (So xcN (XT 20 [1,20] (So xcM (So iZ .ret)))) (So xcL (Sq (So xcK (Kc 34 (Kk [1,5,34] (So xcJ (So iZ .ret))) (Kk [6,34] .skip))) (So Mx (Sq (So Mw (Bk 0 (.loop BX))) (Sq (So Mq (XT 51 [1,7,51] (So Mp (So iZ .ret)))) (So Mo (So Mn .ret))))))))))
def F75:FnC:=⟨r75,64,[.tmp 4],[],[]⟩
def xcI:La:=[om 15 0,oo 16 (.mkfn 125 [.t 15] []) [15],Wa 5 16]
def xcH:La:=[om 18 5,om 19 0,WA 20 19,Wq 21 1 20,Wc 22 21,oo 23 (.call (.t 18) [.t 22,ci 2]) [18,22],Wa 17 23,WH 24 17 0,WF 25 17 1,Wa 6 24,Wa 7 25]
def xcG:La:=[om 26 7,Wb 27 .neq 26 0]
def xcF:La:=[Wa 28 0,Wa 29 7,oo 30 (Ca 124 [.t 28,.t 29]) [28,29,30]]
def xcE:Lb:=[Fm 0 31 6,WT 1 32 1 31 0,We 2 33 32,Xa 3 34 33,XC 4 35 .shl 34,Fm 5 36 6,WT 6 37 1 36 1,We 7 38 37,Xa 8 39 38,Wk 9 40 .or 35 39,Fm 10 8 40]
def xcD:La:=[om 41 8,Wa 42 1,Wh 43 .gtr 41 42]
def Mm:La:=[Wa 44 0,oo 45 (Ca 124 [.t 44,ci 4]) [44,45]]
def Ml:La:=[Wa 47 5,om 48 0,WA 49 48,Wq 50 1 49,Wc 51 50,Wb 52 .add 51 2,om 53 8,oo 54 (.call (.t 47) [.t 52,.t 53]) [47,52,53],Wa 46 54,WH 55 46 0,WF 56 46 1,Wa 9 55,Wa 7 56]
def Mj:La:=[om 57 7,Wb 58 .neq 57 0]
def Mi:La:=[Wa 59 0,Wa 60 7,oo 61 (Ca 124 [.t 59,.t 60]) [59,60,61]]
def Mh:La:=[Wa 62 0,Xl 63 62,Wq 64 1 63,Wc 65 64,Wa 66 8,WO 67 .add 2 66,Wh 68 .add 65 67,WA 69 62,Wq 70 1 69,Ws 1 70 68]
def Mg:La:=[Wa 71 9,XB 72 1 71,Wa 4 72]
def r76:RC:=(So il (Sq (So Vm (XT 14 [0,1,14] (So iY .ret))) (So xcI (So xcH (Sq (So xcG (Kc 27 (Kk [1,5,6,27] (So xcF (So iY .ret))) (Kk [7,27] .skip))) (Sq (.flt [0,1,3,7,15,0,32,96,224,511,1023] [] xcE [6,31,32,33,34,35,36,37,38,39,40]) (Sq (So xcD (XT 43 [5,8,43] (So Mm (So iY .ret)))) (So Ml (Sq (So Mj (Kc 58 (Kk [8,9,58] (So Mi (So iY .ret))) (Kk [7,58] .skip))) (So Mh (So Mg .ret)))))))))))
def F76:FnC:=⟨r76,73,[.tmp 4],[],[]⟩
def p9:La:=[WV 2 0]
def xcC:La:=[Wa 3 0,WA 4 3,Wq 5 2 4,Wc 6 5,Wa 2 6]
def r77:RC:=(So p9 (So xcC .ret))
def F77:FnC:=⟨r77,7,[.tmp 2],[],[]⟩
def xcB:La:=[om 7 0,WA 8 7,Wq 9 2 8,Wc 10 9,Wb 11 .neq 10 0]
def xcA:La:=[om 12 1,Wb 13 .lss 12 0]
def xcz:La:=[Wa 14 0,oo 15 (Ca 124 [.t 14,ci 1]) [14,15]]
def xcy:La:=[om 17 0,om 18 0,WA 19 18,Wq 20 1 19,Wc 21 20,om 22 1,Xn 23 125 17 21 22,Wa 16 23,WH 24 16 0,WF 25 16 1,Wa 5 24,Wa 6 25]
def xcx:La:=[om 26 6,Wb 27 .neq 26 0]
def xcw:La:=[Wa 28 0,Wa 29 6,oo 30 (Ca 124 [.t 28,.t 29]) [28,29,30]]
def Mf:La:=[Wa 31 0,Xl 32 31,Wq 33 1 32,Wc 34 33,Wa 35 1,Wh 36 .add 34 35,WA 37 31,Wq 38 1 37,Ws 1 38 36]
def Me:La:=[Wa 39 5,XB 40 1 39,Wa 4 40]
def r78:RC:=(So il (Sq (So xcB (XT 11 [0,1,11] (So iY .ret))) (Sq (So xcA (XT 13 [1,13] (So xcz (So iY .ret)))) (So xcy (Sq (So xcx (Kc 27 (Kk [1,5,27] (So xcw (So iY .ret))) (Kk [6,27] .skip))) (So Mf (So Me .ret)))))))
def F78:FnC:=⟨r78,41,[.tmp 4],[],[]⟩
def xcv:La:=[om 3 0,WA 4 3,Wq 5 2 4,Wc 6 5,Wb 7 .eql 6 0,Wa 8 7,.grp 8 true [(xi 9 8 true (Mv 0)),(xi 10 8 true (Ca 126 [.t 9])),(xi 11 8 true (Bc .gtr 10 0))] [9,10],Wx 12 8 11]
def Vl:La:=[Wn 2 3]
def Vk:La:=[Wa 13 0,WA 14 13,Wq 15 2 14,Wc 16 15,Wa 2 16]
def r79:RC:=(So p9 (Sq (So xcv (XT 12 [0,12] (So Vl .ret))) (So Vk .ret)))
def F79:FnC:=⟨r79,17,[.tmp 2],[],[]⟩
def xcf:La:=[Wf 9 0 1,Wc 10 9,Wm 11 127 10,WY 12 11,Wa 8 12]
def xce:La:=[Wf 14 2 1,Wc 15 14,Wb 16 .lss 15 0,Wa 17 16,.grp 17 false [(xi 18 17 false (Fa 2 1)),(xi 19 17 false (Ld 18)),(xi 20 17 false (Fa 1 1)),(xi 21 17 false (Ld 20)),(xi 22 17 false (Bb .gtr 19 21))] [18,19,20,21],Wi 23 17 22,Wa 24 23,XE 25 24 false 1 1 26 24 false 25 27 24 false .gtr 26 1000000,Wi 28 24 27,Wa 29 28,.grp 29 false [(xi 30 29 false (Fa 3 1)),(xi 31 29 false (Ld 30)),(xi 32 29 false (Bc .lss 31 0))] [30,31],Wi 33 29 32,Wa 34 33,.grp 34 false [(xi 35 34 false (Fa 3 1)),(xi 36 34 false (Ld 35)),(xi 37 34 false (Fa 4 1)),(xi 38 34 false (Ld 37)),(xi 39 34 false (Bb .geq 36 38))] [35,36,37,38],Wi 40 34 39,Wa 41 40,.grp 41 false [(xi 42 41 false (Fa 4 1)),(xi 43 41 false (Ld 42)),(xi 44 41 false (Bc .gtr 43 1099511627776))] [42,43],Wi 45 41 44,Wa 13 45]
def xcd:La:=[Wf 47 5 1,Wc 48 47,Wj 49 48,Wb 50 .gtr 49 16,Wa 51 50,.grp 51 false [(xi 52 51 false (Fa 6 1)),(xi 53 51 false (Ld 52)),(xi 54 51 false (Ln 53)),(xi 55 51 false (Bc .gtr 54 8))] [52,53,54],Wi 56 51 55,Wa 46 56]
def xcc:La:=[Wf 57 5 1,Wc 58 57,on 59 (Ln 58),Wn 60 0]
def xcb:La:=[on 61 (Bb .lss 60 59)]
def xca:La:=[om 62 60,on 63 (Ia 4 58 60),Wp 64 4 63,Xh 4,Wa 3 62,WG 4 64]
def Md:La:=[Wf 66 0 4,Wc 67 66,Wb 68 .lss 67 1,Wa 69 68,.grp 69 false [(xi 70 69 false (Fa 0 4)),(xi 71 69 false (Ld 70)),(xi 72 69 false (Bc .gtr 71 3))] [70,71],Wi 73 69 72,Wa 74 73,.grp 74 false [(xi 75 74 false (Fa 2 4)),(xi 76 74 false (Ld 75)),(xi 77 74 false (Bc .lss 76 0))] [75,76],Wi 78 74 77,Wa 79 78,.grp 79 false [(xi 80 79 false (Fa 2 4)),(xi 81 79 false (Ld 80)),(xi 82 79 false (Bc .gtr 81 1000000))] [80,81],Wi 83 79 82,Wa 84 83,.grp 84 false [(xi 85 84 false (Fa 3 4)),(xi 86 84 false (Ld 85)),(xi 87 84 false (Ln 86)),(xi 88 84 false (Bc .neq 87 32))] [85,86,87],Wi 89 84 88,Wa 65 89]
def Ma:La:=[Wf 91 1 4,Wc 92 91,Wm 93 127 92,WY 94 93,Wa 90 94]
def L9:Lb:=[Fm 0 96 3,WE 1 97 .gtr 96 0,Fm 2 98 97,WB 3 99 98 true 5 1,WD 4 100 98 true 99,Wz 5 101 98 true 3,Fi 6 102 98 true (Bc .sub 101 1),Fi 7 103 98 true (Ia 4 100 102),Fi 8 104 98 true (Lt 4 103),Fi 9 105 98 true (Lt 4 4),W4 10 106 98 true 128 104 105,Fi 11 107 98 true (Bc .geq 106 0),Fs 12 108 (Pf 98 107),Fm 13 95 108]
def L8:La:=[Wb 109 .add 60 1,Wa 60 109]
def C5:RC:=(.post (So xcb (Sq (XS 61 [58,59,60,61] (.exit 1)) (Sq (Bk 2 (So xca (Bk 3 (So Md (Kc 65 (Kk [1,3,4,58,59,60,65] (So gC .ret)) (Kk [65] (So Ma (Kc 90 (Kk [1,3,4,58,59,60,90] (So tI .ret)) (Kk [90] (Sq (.flt [0,1,3,7,15,7,39,127,255,7,1023,2047,4095,8191] [] L9 [3,4,96,97,98,99,100,101,102,103,104,105,106,107,108]) (XT 95 [1,58,59,60,95] (So AS .ret)))))))))))) (.ops L8)))) [.gc [104]])
def nj:RC:=C5
def L7:La:=[Wq 110 6 1,Wc 111 110,on 112 (Ln 111),Wn 113 0]
def L6:La:=[on 114 (Bb .lss 113 112)]
def L5:La:=[on 115 (Ia 4 111 113),Wp 116 4 115,Xt 6,Wr 4 6 116]
def L4:La:=[Wp 117 4 6,Wm 118 129 117,Wa 7 118]
def L3:La:=[om 119 7,Wb 120 .neq 119 0]
def L2:La:=[Wa 121 7,Wa 2 121]
def L1:La:=[Wb 122 .add 113 1,Wa 113 122]
def C4:RC:=(.post (So L6 (Sq (XS 114 [111,112,113,114] (.exit 4)) (Sq (Bk 5 (So L5 (So L4 (So L3 (Kc 120 (Kk [111,112,113,120] (So L2 .ret)) (Kk [7,120] .skip)))))) (.ops L1)))) [.gc [106]])
def xj:RC:=C4
def r80:RC:=(So pr (Sq (Bk 0 (So xcf (Kc 8 (Kk [1,8] (So tI .ret)) (Kk [8] (So xce (Kc 13 (Kk [1,13] (So gC .ret)) (Kk [13] (So xcd (XT 46 [1,46] (So pq .ret)))))))))) (Sq (So xcc (Bk 1 (.loop nj))) (Sq (So L7 (Bk 4 (.loop xj))) (So kV .ret)))))
def F80:FnC:=⟨r80,123,[.tmp 2],[],[]⟩
def ID:La:=[WV 6 0,WX 7 false]
def Vj:La:=[om 12 0,Wj 13 12,Wa 8 13]
def Vi:La:=[om 14 8,Wn 9 0,Wa 10 14]
def Vh:La:=[om 15 9,om 16 10,Wh 17 .lss 15 16]
def Vg:La:=[om 18 9,om 19 10,Wh 20 .add 18 19,WZ 21 20,oo 22 (.bin .shr (.t 21) (.c (.int .u64 1))) [21],Xe 23 22,Wa 11 23]
def xb9:La:=[om 24 2,om 25 0,om 26 11,WI 27 7 25 26,Wp 28 7 27,om 29 1,oo 30 (.call (.t 24) [.t 28,.t 29]) [24,28,29],Wb 31 .lss 30 0]
def Vf:La:=[Wa 32 11,Wb 33 .add 32 1,Wa 9 33]
def Ve:La:=[Wa 34 11,Wa 10 34]
def V4:RC:=(Sq (So Vh (XS 17 [10,17] (.exit 0))) (Bk 1 (So Vg (So xb9 (Kc 31 (Kk [9,31] (.ops Vf)) (Kk [10,31] (.ops Ve)))))))
def Vd:RC:=V4
def xb8:La:=[om 35 9,om 36 9,Wa 37 8,Wh 38 .lss 36 37,Wa 39 38,.grp 39 true [(xi 40 39 true (Mv 2)),(xi 41 39 true (Mv 0)),(xi 42 39 true (Mv 9)),(xi 43 39 true (Ia 7 41 42)),(xi 44 39 true (Lt 7 43)),(xi 45 39 true (Mv 1)),(xi 46 39 true (.call (.t 40) [.t 44,.t 45])),(xi 47 39 true (Bc .eql 46 0))] [0,1,2,9,40,41,42,43,44,45,46],Wx 48 39 47,Wa 6 35,Wa 7 48]
def r81:RC:=(So ID (So Vj (So Vi (Sq (Bk 0 (.loop Vd)) (So xb8 .ret)))))
def F81:FnC:=⟨r81,49,[.tmp 6,.tmp 7],[],[]⟩
def xb7:La:=[WC 2 0,WV 4 0]
def xb6:La:=[Wp 5 7 2,Wm 6 32 5,Wa 7 1,Wv 8 83 6 7,Wa 4 8]
def r82:RC:=(So xb7 (So xb6 .ret))
def F82:FnC:=⟨r82,9,[.tmp 4],[],[]⟩
def xb5:La:=[Wa 5 0,Xd 6 5,Wa 7 1,Xd 8 7,Wh 9 .eql 6 8,Wa 4 9]
def r84:RC:=(So tK (So xb5 .ret))
def F84:FnC:=⟨r84,10,[.tmp 4],[],[]⟩
def xb4:La:=[WC 1 0,WX 2 false]
def xb3:La:=[Wf 3 2 1,Wc 4 3,Wj 5 4,Wq 6 3 1,Wc 7 6,Wj 8 7,Wh 9 .add 5 8,Wb 10 .geq 9 16,Wa 2 10]
def r85:RC:=(So xb4 (So xb3 .ret))
def F85:FnC:=⟨r85,11,[.tmp 2],[],[]⟩
def xb2:La:=[WC 4 1,WV 6 0,WX 7 false]
def xb1:Lb:=[Fm 0 24 2,Fm 1 25 0,Fm 2 26 11,Wt 3 27 2 25 26,Wu 4 28 2 27,Wu 5 29 2 4,Fz 6 30 (.call (.t 24) [.t 28,.t 29]),WE 7 31 .lss 30 0]
def V3:RC:=(Sq (So Vh (XS 17 [10,17] (.exit 0))) (Bk 1 (So Vg (Sq (.flt [0,0,0,6,14,0,63,127] [] xb1 [24,25,26,27,28,29,30]) (Kc 31 (Kk [9,31] (.ops Vf)) (Kk [10,31] (.ops Ve)))))))
def Vc:RC:=V3
def xb0:Lb:=[Fm 0 35 9,Fm 1 36 9,Fm 2 37 8,Wk 3 38 .lss 36 37,Fm 4 39 38,Wz 5 40 39 true 2,Wz 6 41 39 true 0,Wz 7 42 39 true 9,Fi 8 43 39 true (Ia 2 41 42),Fi 9 44 39 true (Lt 2 43),Fi 10 45 39 true (Lt 2 4),Fy 11 46 39 true (.call (.t 40) [.t 44,.t 45]),Fi 12 47 39 true (Bc .eql 46 0),Fs 13 48 (Pf 39 47),Fm 14 6 35,Fm 15 7 48]
def r88:RC:=(So xb2 (So Vj (So Vi (Sq (Bk 0 (.loop Vc)) (Sq (.flt [0,0,0,6,14,30,30,30,222,478,30,2046,4094,8190,4095,32767] [] xb0 [0,2,4,8,9,35,36,37,38,39,40,41,42,43,44,45,46,47,48]) .ret)))))
def F88:FnC:=⟨r88,49,[.tmp 6,.tmp 7],[],[]⟩
def xbZ:Lb:=[Wg 0 5 0 2,We 1 6 5,Wg 2 7 0 3,We 3 8 7,Wg 5 10 1 2,We 6 11 10,Wg 7 12 1 3,We 8 13 12,WJ 4 9 83 6 8,WJ 9 14 134 11 13,Fs 10 15 (.lit 1 [.t 9,.t 14]),WS 11 16 133 15,Fm 12 4 16]
def r89:RC:=(So AR (Sq (.flt [0,1,0,4,15,0,32,0,128,511,1023,2047,4095] [] xbZ [2,3,5,6,7,8,9,10,11,12,13,14,15,16]) .ret))
def F89:FnC:=⟨r89,17,[.tmp 4],[],[]⟩
def xbY:La:=[WC 2 0,WC 3 1,XD 4]
def xbX:La:=[om 9 6,Wf 10 1 3,Wc 11 10,Wj 12 11,Wh 13 .lss 9 12]
def xbW:La:=[Wf 16 1 3,Wc 17 16,om 18 6,WI 19 2 17 18,Wq 20 0 19,Wc 21 20,Wa 7 21]
def xbV:Lb:=[Wu 0 22 2 2,Wg 1 23 0 3,We 2 24 23,Wg 3 25 1 3,We 4 26 25,Fm 5 27 6,Wt 6 28 2 26 27,Wu 7 29 2 28,Xo 8 30 137 22 24 29,Fs 9 31 (.un .not (.t 30))]
def xbU:La:=[om 32 8,om 33 5,Wj 34 33,Wh 35 .lss 32 34,Wa 36 35,.grp 36 true [(xi 37 36 true (Mv 5)),(xi 38 36 true (Mv 8)),(xi 39 36 true (Ia 1 37 38)),(xi 40 36 true (Ld 39)),(xi 41 36 true (Mv 7)),(xi 42 36 true (Bb .lss 40 41))] [37,38,39,40,41],Wx 43 36 42]
def xbT:La:=[Wa 44 8,Wb 45 .add 44 1,Wa 8 45]
def V2:RC:=(Sq (So xbU (XS 43 [43] (.exit 2))) (Bk 3 (.ops xbT)))
def Vb:RC:=V2
def L0:La:=[om 46 8,om 47 5,Wj 48 47,Wh 49 .lss 46 48,Wa 50 49,.grp 50 true [(xi 51 50 true (Mv 5)),(xi 52 50 true (Mv 8)),(xi 53 50 true (Ia 1 51 52)),(xi 54 50 true (Ld 53)),(xi 55 50 true (Mv 7)),(xi 56 50 true (Bb .eql 54 55))] [51,52,53,54,55],Wx 57 50 56]
def LZ:Lb:=[Fs 0 58 (.lit 1 []),Fm 1 59 5,Fm 2 60 8,Xr 3 61 1 59 60,Fm 5 63 7,W6 6 64 1 63,Fm 8 66 5,Fm 9 67 8,Xw 10 68 1 66 67,Xs 4 62 8 58 61,Xs 7 65 8 62 64,Xs 11 69 8 65 68,⟨12,false,(xm 5 69)⟩]
def LY:La:=[Wa 14 6,Wb 15 .add 14 1,Wa 6 15]
def C3:RC:=(.post (Sq (So xbX (XS 13 [2,3,6,13] (.exit 0))) (Sq (Bk 1 (So xbW (Sq (Sq (.flt [0,0,2,0,8,0,56,120,255,511] [] xbV [22,23,24,25,26,27,28,29,30]) (XT 31 [7,31] (.exit 1))) (So qd (Sq (Bk 2 (.loop Vb)) (Sq (So L0 (XT 57 [7,8,57] (.exit 1))) (.flt [0,0,0,6,15,0,32,127,0,0,768,2047,4095] [162,165,169] LZ [7,8,58,59,60,61,62,63,64,65,66,67,68,69]))))))) (.ops LY))) [.gc [162,165],.tok 5 105])
def BW:RC:=C3
def LX:La:=[Wa 70 5,Wa 4 70]
def r92:RC:=(So xbY (So AQ (Sq (So kq (Bk 0 (.pre [.tok 5 105] (.loop BW)))) (So LX .ret))))
def F92:FnC:=⟨r92,71,[.tmp 4],[],[]⟩
def xbS:La:=[Wa 3 0,oo 4 (.build [.byt [] .clip,.int .i64 0,.int .i64 0] [(0,1,(.t 3))]) [3],WC 5 4,Wa 2 5]
def r93:RC:=(So Vn (So xbS .ret))
def F93:FnC:=⟨r93,6,[.tmp 2],[],[]⟩
def xbR:La:=[om 7 0,WA 8 7,Wq 9 2 8,Wc 10 9,Wb 11 .eql 10 0,Wa 12 11,.grp 12 true [(xi 13 12 true (Mv 1)),(xi 14 12 true (Bc .lss 13 1)),(xi 15 12 true (Mv 14))] [13,14],.grp 15 false [(xi 16 15 false (Mv 1)),(xi 17 15 false (Bc .gtr 16 8))] [16],.grp 12 true [(xi 18 12 true (Pt 15 17))] [15,17],Wx 19 12 18]
def xbQ:La:=[om 20 0,WA 21 20,Wq 22 2 21,.op ⟨none,none,.store 1 (.t 22) (ci 1)⟩ [22]]
def xbP:La:=[om 23 0,WA 24 23,Wq 25 2 24,Wc 26 25,Wb 27 .neq 26 0,Wa 28 27,.grp 28 false [(xi 29 28 false (Mv 0)),(xi 30 28 false (Mv 1)),(xi 31 28 false (Ca 138 [.t 29,.t 30])),(xi 32 28 false (.un .not (.t 31)))] [29,30,31],Wi 33 28 32]
def xbO:La:=[on 5 (.mov (.c (.int .u64 0)))]
def xbN:La:=[om 34 6,om 35 1,Wh 36 .lss 34 35]
def xbM:Lb:=[Fm 0 39 5,XC 1 40 .shl 39,Fm 2 41 0,WK 3 42 41,Wg 4 43 0 42,We 5 44 43,Fm 6 45 0,WK 7 46 45,Wg 8 47 1 46,We 9 48 47,Fm 10 49 6,Wk 11 50 .add 48 49,Wt 12 51 1 44 50,We 13 52 51,Fs 14 53 (.toInt .u64 (.t 52)),Wk 15 54 .or 40 53,⟨16,false,(xm 5 54)⟩]
def C2:RC:=(Sq (So xbN (XS 36 [6,36] (.exit 0))) (Sq (Bk 1 (.flt [0,1,0,4,12,28,0,64,192,448,0,1984,4092,8188,16380,32767,65535] [] xbM [39,40,41,42,43,44,45,46,47,48,49,50,51,52,53,54])) (.ops Ck)))
def BV:RC:=C2
def LW:La:=[om 55 5,oo 56 (.bin .geq (.t 55) (.c (.int .u64 9223372036854775808))) [55]]
def LV:La:=[Wa 57 0,WA 58 57,Wq 59 2 58,.op ⟨none,none,.store 1 (.t 59) (ci 4)⟩ [59]]
def LU:La:=[Wa 60 0,Xl 61 60,Wq 62 1 61,Wc 63 62,Wa 64 1,Wh 65 .add 63 64,WA 66 60,Wq 67 1 66,Ws 1 67 65]
def LS:La:=[Wa 68 5,Xe 69 68,Wa 4 69]
def r94:RC:=(So qf (Sq (So xbR (XT 19 [19] (.ops xbQ))) (Sq (So xbP (XT 33 [0,1,33] (So iZ .ret))) (So xbO (Sq (So kq (Bk 0 (.loop BV))) (Sq (So LW (XT 56 [1,5,56] (So LV (So iZ .ret)))) (So LU (So LS .ret))))))))
def F94:FnC:=⟨r94,70,[.tmp 4],[],[]⟩
def xbL:La:=[om 6 0,WA 7 6,Wq 8 2 7,Wc 9 8,Wb 10 .neq 9 0,Wa 11 10,.grp 11 false [(xi 12 11 false (Mv 0)),(xi 13 11 false (Ca 138 [.t 12,ci 2])),(xi 14 11 false (.un .not (.t 13)))] [12,13],Wi 15 11 14]
def xbK:Lb:=[Fm 0 16 0,WK 1 17 16,Wg 2 18 0 17,We 3 19 18,Fm 4 20 0,WK 5 21 20,Wg 6 22 1 21,We 7 23 22,Wt 8 24 1 19 23,We 9 25 24,Xa 10 26 25,XC 11 27 .shl 26,Fm 12 28 0,WK 13 29 28,Wg 14 30 0 29,We 15 31 30,Fm 16 32 0,WK 17 33 32,Wg 18 34 1 33,We 19 35 34,WE 20 36 .add 35 1,Wt 21 37 1 31 36,We 22 38 37,Xa 23 39 38,Wk 24 40 .or 27 39,Fm 25 5 40]
def xbJ:La:=[om 41 5,Wa 42 1,Wh 43 .gtr 41 42]
def xbI:La:=[Wa 44 0,WA 45 44,Wq 46 2 45,.op ⟨none,none,.store 1 (.t 46) (ci 4)⟩ [46]]
def xbH:La:=[om 47 0,om 48 5,WO 49 .add 2 48,Wv 50 138 47 49,WY 51 50]
def xbG:La:=[om 52 0,Xl 53 52,Wq 54 1 53,Wc 55 54,om 56 5,WO 57 .add 2 56,Wh 58 .add 55 57,WA 59 52,Wq 60 1 59,Ws 1 60 58]
def LR:Lb:=[Fs 0 61 (.litB []),Fm 1 62 0,WK 2 63 62,Wg 3 64 0 63,We 4 65 64,Fm 5 66 0,WK 6 67 66,Wg 7 68 1 67,We 8 69 68,Fm 9 70 5,Wk 10 71 .sub 69 70,Fm 11 72 0,WK 12 73 72,Wg 13 74 1 73,We 14 75 74,Fs 15 76 (.slcL 1 (.t 65) (some (.t 71)) (some (.t 75)) none),W8 16 77 1 61 76,Fm 17 4 77]
def r95:RC:=(So il (Sq (So xbL (XT 15 [0,1,15] (So iY .ret))) (Sq (.flt [0,1,3,7,0,16,48,112,255,511,1023,2047,0,4096,12288,28672,0,65536,196608,458752,983040,2093056,4190208,8384512,16777215,33554431] [] xbK [16,17,18,19,20,21,22,23,24,25,26,27,28,29,30,31,32,33,34,35,36,37,38,39,40]) (Sq (So xbJ (XT 43 [5,43] (So xbI (So iY .ret)))) (Sq (So xbH (XT 51 [0,5,51] (So iY .ret))) (So xbG (Sq (.flt [0,0,2,6,14,0,32,96,224,0,992,0,2048,6144,14336,32766,65535,131071] [177] LR [0,5,61,62,63,64,65,66,67,68,69,70,71,72,73,74,75,76,77]) .ret)))))))
def F95:FnC:=⟨r95,78,[.tmp 4],[],[]⟩
def xbF:La:=[om 5 0,WA 6 5,Wq 7 2 6,Wc 8 7,Wb 9 .eql 8 0,Wa 10 9,.grp 10 true [(xi 11 10 true (Mv 1)),(xi 12 10 true (Bc .lss 11 0))] [11],Wx 13 10 12]
def xbE:La:=[om 14 0,WA 15 14,Wq 16 2 15,.op ⟨none,none,.store 1 (.t 16) (ci 1)⟩ [16]]
def xbD:La:=[om 17 0,WA 18 17,Wq 19 2 18,Wc 20 19,Wb 21 .neq 20 0,Wa 22 21,.grp 22 false [(xi 23 22 false (Mv 0)),(xi 24 22 false (Mv 1)),(xi 25 22 false (Ca 138 [.t 23,.t 24])),(xi 26 22 false (.un .not (.t 25)))] [23,24,25],Wi 27 22 26]
def xbC:La:=[om 28 0,Xl 29 28,Wq 30 1 29,Wc 31 30,om 32 1,Wh 33 .add 31 32,WA 34 28,Wq 35 1 34,Ws 1 35 33]
def xbB:Lb:=[Fs 0 36 (.litB []),Fm 1 37 0,WK 2 38 37,Wg 3 39 0 38,We 4 40 39,Fm 5 41 0,WK 6 42 41,Wg 7 43 1 42,We 8 44 43,Fm 9 45 1,Wk 10 46 .sub 44 45,Fm 11 47 0,WK 12 48 47,Wg 13 49 1 48,We 14 50 49,Fs 15 51 (.slcL 1 (.t 40) (some (.t 46)) (some (.t 50)) none),W8 16 52 1 36 51,Fm 17 4 52]
def r96:RC:=(So il (Sq (So xbF (XT 13 [13] (.ops xbE))) (Sq (So xbD (XT 27 [0,1,27] (So iY .ret))) (So xbC (Sq (.flt [0,0,2,6,14,0,32,96,224,0,992,0,2048,6144,14336,32766,65535,131071] [152] xbB [0,1,36,37,38,39,40,41,42,43,44,45,46,47,48,49,50,51,52]) .ret)))))
def F96:FnC:=⟨r96,53,[.tmp 4],[],[]⟩
def xbA:La:=[om 3 0,WA 4 3,Wq 5 2 4,Wc 6 5,Wb 7 .eql 6 0,Wa 8 7,.grp 8 true [(xi 9 8 true (Mv 0)),(xi 10 8 true (Ca 139 [.t 9])),(xi 11 8 true (Bc .gtr 10 0))] [9,10],Wx 12 8 11]
def r97:RC:=(So p9 (Sq (So xbA (XT 12 [0,12] (So Vl .ret))) (So Vk .ret)))
def F97:FnC:=⟨r97,17,[.tmp 2],[],[]⟩
def xbz:La:=[om 6 5,om 7 0,Wj 8 7,Wh 9 .lss 6 8,Wa 10 9,.grp 10 true [(xi 11 10 true (Mv 5)),(xi 12 10 true (Mv 1)),(xi 13 10 true (Ln 12)),(xi 14 10 true (Bb .lss 11 13))] [11,12,13],Wx 15 10 14]
def xby:Lb:=[Fm 0 18 0,Fm 1 19 5,Wt 2 20 1 18 19,We 3 21 20,Fm 4 22 1,Fm 5 23 5,Wt 6 24 1 22 23,We 7 25 24,Wk 8 26 .neq 21 25]
def xbx:Lb:=[Fm 0 27 0,Fm 1 28 5,Wt 2 29 1 27 28,We 3 30 29,Fm 4 31 1,Fm 5 32 5,Wt 6 33 1 31 32,We 7 34 33,Wk 8 35 .lss 30 34,Fm 9 4 35]
def xbw:La:=[Wa 16 5,Wb 17 .add 16 1,Wa 5 17]
def V1:RC:=(Sq (So xbz (XS 15 [5,15] (.exit 0))) (Sq (Bk 1 (Sq (.flt [0,0,3,7,0,0,48,112,255] [] xby [18,19,20,21,22,23,24,25]) (XT 26 [26] (Sq (.flt [0,0,3,7,0,0,48,112,255,511] [] xbx [0,1,5,27,28,29,30,31,32,33,34,35]) .ret)))) (.ops xbw)))
def Va:RC:=V1
def xbv:La:=[Wa 36 0,Wj 37 36,Wa 38 1,Wj 39 38,Wh 40 .lss 37 39,Wa 4 40]
def r98:RC:=(So tK (Sq (So pt (Bk 0 (.loop Va))) (So xbv .ret)))
def F98:FnC:=⟨r98,41,[.tmp 4],[],[]⟩
def xbu:La:=[Wa 5 0,Wa 6 1,Wv 7 140 5 6,Wb 8 .geq 7 0,Wa 4 8]
def r99:RC:=(So tK (So xbu .ret))
def F99:FnC:=⟨r99,9,[.tmp 4],[],[]⟩
def Ue:La:=[WC 3 0,WX 4 false]
def Ud:La:=[Wf 5 1 3,Wc 6 5,Wc 7 1,Wh 8 .leq 6 7,Wa 9 8,.grp 9 true [(xi 10 9 true (Fa 0 3)),(xi 11 9 true (Ld 10)),(xi 12 9 true (Ld 2)),(xi 13 9 true (Ca 84 [.t 11,.t 12]))] [2,3,10,11,12],Wx 14 9 13,Wa 4 14]
def xuX:RC:=(So Ue (So Ud .ret))
def xkh:FnC:=⟨xuX,15,[.tmp 4],[],[]⟩
def Uc:La:=[Wa 9 0,XB 10 1 9,Wa 7 10]
def Ub:La:=[om 11 1,Wb 12 .lss 11 1,Wa 13 12,.grp 13 false [(xi 14 13 false (Mv 1)),(xi 15 13 false (Bc .gtr 14 8))] [14],Wi 16 13 15]
def Ua:La:=[Wa 17 7,Wa 6 17]
def T9:La:=[Wa 18 1,Wb 19 .sub 18 1,Wa 8 19]
def T8:La:=[om 20 8,Wb 21 .geq 20 0]
def T7:La:=[Wa 24 7,om 25 2,WZ 26 25,om 27 8,WO 28 .mul 8 27,WZ 29 28,Wh 30 .shr 26 29,Ww 31 30,WW 32 31,Wy 33 1 24 32,Wa 7 33]
def T6:La:=[Wa 22 8,Wb 23 .sub 22 1,Wa 8 23]
def DS:RC:=(.post (Sq (So T8 (XS 21 [2,8,21] (.exit 0))) (Sq (Bk 1 (.ops T7)) (.ops T6))) [.tok 7 107])
def CR:RC:=DS
def T5:La:=[Wa 34 7,Wa 6 34]
def xuW:RC:=(So tH (So Uc (Sq (So Ub (XT 16 [1,2,16] (So Ua .ret))) (Sq (So T9 (Bk 0 (.pre [.tok 7 107] (.loop CR)))) (So T5 .ret)))))
def xkg:FnC:=⟨xuW,35,[.tmp 6],[0],[]⟩
def T4:La:=[om 5 1,Wa 6 1,Wj 7 6,oo 8 (.mini (.t 7) (ci 65535)) [7],Xv 9 1 5 8,Wa 1 9]
def T3:La:=[Wa 10 0,om 11 1,Wj 12 11,Xc 13 101 10 2 12,Wa 14 1,Wy 15 1 13 14,Wa 4 15]
def xuV:RC:=(So il (So T4 (So T3 .ret)))
def xkf:FnC:=⟨xuV,16,[.tmp 4],[0],[]⟩
def T2:La:=[Wa 9 0]
def T1:La:=[on 11 (Bc .eql 9 0),Wa 10 11]
def T0:La:=[on 12 (.build [.int .u32 0,.int .u32 0,.int .u32 0,.int .u32 0,.int .u32 0] [(0,1,(.c (.int .u32 1732584193))),(1,1,(.c (.int .u32 4023233417))),(2,1,(.c (.int .u32 2562383102))),(3,1,(.c (.int .u32 271733878))),(4,1,(.c (.int .u32 3285377520)))]),on 5 (.new (.arr 1 (aL 5 [.int .u32 0]))),WG 5 12]
def TZ:La:=[Wa 13 1,Wm 14 141 13,Wa 6 14]
def TY:La:=[om 15 6,Wj 16 15,Wb 17 .gtr 16 0]
def TX:La:=[om 20 6,Xj 21 1 20 64,oo 22 (Ca 142 [.t 5,.t 21]) [21,22]]
def TW:La:=[Wa 18 6,XH 19 1 18 64,Wa 6 19]
def DR:RC:=(Sq (So TY (XS 17 [6,17] (.exit 1))) (Sq (Bk 2 (.ops TX)) (.ops TW)))
def TV:RC:=DR
def TU:La:=[oo 23 (.slcA 5 1 (.t 5) none none none) [5],Wm 24 143 23,Wa 4 24]
def FL:La:=[Wb 26 .eql 9 1,Wa 25 26]
def FK:La:=[on 27 (.build [.int .u32 0,.int .u32 0,.int .u32 0,.int .u32 0,.int .u32 0,.int .u32 0,.int .u32 0,.int .u32 0] [(0,1,(.c (.int .u32 1779033703))),(1,1,(.c (.int .u32 3144134277))),(2,1,(.c (.int .u32 1013904242))),(3,1,(.c (.int .u32 2773480762))),(4,1,(.c (.int .u32 1359893119))),(5,1,(.c (.int .u32 2600822924))),(6,1,(.c (.int .u32 528734635))),(7,1,(.c (.int .u32 1541459225)))]),on 7 (.new (.arr 1 (aL 8 [.int .u32 0]))),Wr 8 7 27]
def FJ:La:=[Wa 28 1,Wm 29 141 28,Wa 8 29]
def FH:La:=[om 30 8,Wj 31 30,Wb 32 .gtr 31 0]
def FG:La:=[om 35 8,Xj 36 1 35 64,oo 37 (Ca 144 [.t 7,.t 36]) [36,37]]
def FF:La:=[Wa 33 8,XH 34 1 33 64,Wa 8 34]
def wS:RC:=(Sq (So FH (XS 32 [8,32] (.exit 3))) (Sq (Bk 4 (.ops FG)) (.ops FF)))
def vO:RC:=wS
def FE:La:=[oo 38 (.slcA 8 1 (.t 7) none none none) [7],Wm 39 143 38,Wa 4 39]
def xuU:RC:=(So il (Sq (So T2 (Bk 0 (So T1 (Kc 10 (Kk [9,10] (So T0 (Sq (So TZ (Bk 1 (.loop TV))) (So TU .ret)))) (Kk [10] (So FL (Kc 25 (Kk [25] (So FK (Sq (So FJ (Bk 3 (.loop vO))) (So FE .ret)))) (Kk [1,25] .skip)))))))) (So iY .ret)))
def xke:FnC:=⟨xuU,40,[.tmp 4],[],[]⟩
def TT:La:=[Wa 9 0,Ww 10 9,WW 11 10,Wa 5 11]
def TS:La:=[Wa 12 1,on 13 (Ln 12),Wn 14 0]
def CQ:La:=[on 15 (Bb .lss 14 13)]
def TR:La:=[on 16 (Ia 1 12 14),Wc 17 16,Wa 7 17]
def TQ:La:=[om 18 7,Wj 19 18,oo 20 (.toInt .u32 (.t 19)) [19],Wa 8 20]
def TP:La:=[Wa 21 5,om 22 8,XI 23 .shr 22,Ww 24 23,om 25 8,XJ 26 .shr 25,Ww 27 26,om 28 8,Xk 29 .shr 28,Ww 30 29,Wa 31 8,Ww 32 31,XK 33 24 27 30 32,Wy 34 1 21 33,Wa 5 34]
def TO:La:=[Wa 35 5,Wa 36 7,Wy 37 1 35 36,Wa 5 37]
def TN:La:=[Wb 38 .add 14 1,Wa 14 38]
def DQ:RC:=(.post (So CQ (Sq (XS 15 [12,13,14,15] (.exit 0)) (Sq (Bk 1 (So TR (So TQ (So TP (.ops TO))))) (.ops TN)))) [.tok 5 105])
def CP:RC:=DQ
def FD:La:=[Wa 39 5,Wa 4 39]
def xuT:RC:=(So il (So TT (Sq (So TS (Bk 0 (.pre [.tok 5 105] (.loop CP)))) (So FD .ret))))
def xkd:FnC:=⟨xuT,40,[.tmp 4],[],[]⟩
def nu:La:=[W7 8]
def TL:La:=[om 12 1,Wb 13 .lss 12 0,Wa 14 13,.grp 14 false [(xi 15 14 false (Mv 1)),(xi 16 14 false (Bc .gtr 15 3))] [15],Wi 17 14 16,Wa 18 17,.grp 18 false [(xi 19 18 false (Mv 2)),(xi 20 18 false (Bc .lss 19 0))] [19],Wi 21 18 20,Wa 22 21,.grp 22 false [(xi 23 22 false (Mv 2)),(xi 24 22 false (Mv 1)),(xi 25 22 false (.toInt .u64 (.t 24))),(xi 26 22 false (.bin .shl (ci 1) (.t 25))),(xi 27 22 false (Bb .geq 23 26))] [23,24,25,26],Wi 28 22 27]
def xH:La:=[Xb 8]
def TK:La:=[om 29 2,Ww 30 29,WW 31 30,om 32 0,om 33 1,Wv 34 113 32 33,om 35 2,Wa 36 3,Xn 37 145 34 35 36,Wy 38 1 31 37,Wa 9 38]
def TJ:La:=[Wa 39 2,Wa 40 0,Wa 41 1,Wv 42 67 40 41,Wv 43 146 39 42,Wa 10 43]
def TI:La:=[om 44 11,om 45 10,Wj 46 45,Wh 47 .lss 44 46]
def TH:La:=[Wa 50 9,om 51 10,om 52 11,WI 53 1 51 52,Wc 54 53,Wy 55 1 50 54,Wa 9 55]
def TG:La:=[Wa 48 11,Wb 49 .add 48 1,Wa 11 49]
def DP:RC:=(.post (Sq (So TI (XS 47 [10,11,47] (.exit 0))) (Sq (Bk 1 (.ops TH)) (.ops TG))) [.tok 9 109])
def TF:RC:=DP
def FC:La:=[Wa 56 9,Wa 8 56]
def xuS:RC:=(So nu (Sq (So TL (XT 28 [0,1,2,3,28] (So xH .ret))) (So TK (So TJ (Sq (So xu (Bk 0 (.pre [.tok 9 109] (.loop TF)))) (So FC .ret))))))
def xkc:FnC:=⟨xuS,57,[.tmp 8],[],[]⟩
def TE:La:=[om 5 0,Xu 6 true 5,Wb 7 .lss 6 1,Wa 8 7,.grp 8 false [(xi 9 8 false (Mv 0)),(xi 10 8 false (.len true (.t 9))),(xi 11 8 false (Bc .gtr 10 12))] [9,10],Wi 12 8 11]
def CO:La:=[WP 2 false]
def TD:La:=[om 13 3,om 14 0,Xu 15 true 14,Wh 16 .lss 13 15]
def TC:La:=[om 19 0,om 20 3,oo 21 (.idxS (.t 19) (.t 20)) [19,20],Wa 4 21]
def TB:La:=[om 22 4,oo 23 (.bin .lss (.t 22) (.c (.u8 97))) [22],Wa 24 23,.grp 24 false [(xi 25 24 false (Mv 4)),(xi 26 24 false (.bin .gtr (.t 25) (.c (.u8 122))))] [25],Wi 27 24 26,Wa 28 27,.grp 28 true [(xi 29 28 true (Mv 4)),(xi 30 28 true (.bin .lss (.t 29) (.c (.u8 48)))),(xi 31 28 true (Mv 30))] [29,30],.grp 31 false [(xi 32 31 false (Mv 4)),(xi 33 31 false (.bin .gtr (.t 32) (.c (.u8 57))))] [32],.grp 28 true [(xi 34 28 true (Pt 31 33))] [31,33],Wx 35 28 34,Wa 36 35,.grp 36 true [(xi 37 36 true (Mv 4)),(xi 38 36 true (.bin .neq (.t 37) (.c (.u8 45))))] [4,37],Wx 39 36 38]
def CN:La:=[Wa 17 3,Wb 18 .add 17 1,Wa 3 18]
def DO:RC:=(Sq (So TD (XS 16 [0,3,16] (.exit 0))) (Sq (Bk 1 (So TC (So TB (XT 39 [0,3,39] (So CO .ret))))) (.ops CN)))
def CM:RC:=DO
def FB:La:=[WP 2 true]
def xuR:RC:=(So qb (Sq (So TE (XT 12 [0,12] (So CO .ret))) (Sq (So xy (Bk 0 (.loop CM))) (So FB .ret))))
def xkb:FnC:=⟨xuR,40,[.tmp 2],[],[]⟩
def TA:La:=[Wf 5 0 2,Wc 6 5,Wf 7 0 3,Wc 8 7,Wh 9 .neq 6 8]
def Tz:La:=[Wq 10 0 2,Wc 11 10,Wq 12 0 3,Wc 13 12,Wh 14 .lss 11 13,Wa 4 14]
def Ty:La:=[Wf 15 1 2,Wc 16 15,Wf 17 1 3,Wc 18 17,Wh 19 .neq 16 18]
def Tx:La:=[Wq 20 1 2,Wc 21 20,Wq 22 1 3,Wc 23 22,Wh 24 .lss 21 23,Wa 4 24]
def Tw:La:=[Wf 25 2 2,Wc 26 25,Wf 27 2 3,Wc 28 27,Wh 29 .neq 26 28]
def Tv:La:=[oo 30 (Fa 2 2) [2],Wc 31 30,Wq 32 2 3,Wc 33 32,Wh 34 .lss 31 33,Wa 4 34]
def Tu:La:=[Wq 35 3 2,Wc 36 35,oo 37 (Fa 3 3) [3],Wc 38 37,Wv 39 98 36 38,Wa 4 39]
def xuQ:RC:=(So AW (Sq (So TA (XT 9 [9] (So Tz .ret))) (Sq (So Ty (XT 19 [19] (So Tx .ret))) (Sq (So Tw (XT 29 [29] (So Tv .ret))) (So Tu .ret)))))
def xka:FnC:=⟨xuQ,40,[.tmp 4],[],[]⟩
def Tt:La:=[Wf 4 0 1,Wc 5 4,Wb 6 .lss 5 1,Wa 7 6,.grp 7 false [(xi 8 7 false (Fa 0 1)),(xi 9 7 false (Ld 8)),(xi 10 7 false (Bc .gtr 9 4))] [8,9],Wi 11 7 10]
def Ts:La:=[om 12 3,Wf 13 1 1,Wc 14 13,Xu 15 true 14,Wh 16 .lss 12 15]
def Tq:La:=[Wf 19 1 1,Wc 20 19,om 21 3,oo 22 (.idxS (.t 20) (.t 21)) [20,21],oo 23 (.bin .lss (.t 22) (.c (.u8 32))) [22],Wa 24 23,.grp 24 false [(xi 25 24 false (Fa 1 1)),(xi 26 24 false (Ld 25)),(xi 27 24 false (Mv 3)),(xi 28 24 false (.idxS (.t 26) (.t 27))),(xi 29 24 false (.bin .gtr (.t 28) (.c (.u8 126))))] [25,26,27,28],Wi 30 24 29]
def DN:RC:=(Sq (So Ts (XS 16 [3,16] (.exit 0))) (Sq (Bk 1 (So Tq (XT 30 [1,3,30] (So gC .ret)))) (.ops CN)))
def CL:RC:=DN
def Tp:La:=[Wf 31 0 1,Wc 32 31,Wb 33 .eql 32 4]
def FA:La:=[Wf 34 2 1,Wc 35 34,Wb 36 .lss 35 0,Wa 37 36,.grp 37 false [(xi 38 37 false (Fa 2 1)),(xi 39 37 false (Ld 38)),(xi 40 37 false (Fa 3 1)),(xi 41 37 false (Ld 40)),(xi 42 37 false (Bb .gtr 39 41))] [38,39,40,41],Wi 43 37 42,Wa 44 43,.grp 44 false [(xi 45 44 false (Fa 3 1)),(xi 46 44 false (Ld 45)),(xi 47 44 false (Bc .gtr 46 1000000000))] [45,46],Wi 48 44 47]
def Fx:La:=[Wf 49 2 1,Wc 50 49,Wb 51 .neq 50 0,Wa 52 51,.grp 52 false [(xi 53 52 false (Fa 3 1)),(xi 54 52 false (Ld 53)),(xi 55 52 false (Bc .neq 54 0))] [53,54],Wi 56 52 55]
def Fw:La:=[Wf 57 0 1,Wc 58 57,Wb 59 .eql 58 1,Wa 60 59,.grp 60 true [(xi 61 60 true (Fa 1 1)),(xi 62 60 true (Ld 61)),(xi 63 60 true (.bin .neq (.t 62) (.c (.str []))))] [61,62],Wx 64 60 63]
def Fv:La:=[oo 65 (Fa 1 1) [1],Wc 66 65,Xu 67 true 66,Wb 68 .gtr 67 32]
def xuP:RC:=(So pr (Sq (So Tt (XT 11 [1,11] (So gC .ret))) (Sq (So xy (Bk 0 (.loop CL))) (Sq (So Tp (Kc 33 (Kk [33] (So FA (XT 48 [1,48] (So gC .ret)))) (Kk [33] (So Fx (XT 56 [1,56] (So gC .ret)))))) (Sq (So Fw (XT 64 [1,64] (So gC .ret))) (Sq (So Fv (XT 68 [68] (So pq .ret))) (So kV .ret)))))))
def xj9:FnC:=⟨xuP,69,[.tmp 2],[],[]⟩
def To:La:=[Wa 8 0,Ww 9 8,WW 10 9,Wa 5 10]
def Tn:La:=[om 11 6,om 12 1,Wj 13 12,Wh 14 .lss 11 13]
def Tm:La:=[om 17 1,om 18 6,WI 19 1 17 18,Wc 20 19,Wj 21 20,Wa 7 21]
def Tl:La:=[Wa 22 5,om 23 7,XI 24 .shr 23,Ww 25 24,om 26 7,XJ 27 .shr 26,Ww 28 27,om 29 7,Xk 30 .shr 29,Ww 31 30,Wa 32 7,Ww 33 32,XK 34 25 28 31 33,Wy 35 1 22 34,Wa 5 35]
def Tk:La:=[Wa 36 5,om 37 1,om 38 6,WI 39 1 37 38,Wc 40 39,Wy 41 1 36 40,Wa 5 41]
def CK:La:=[Wa 15 6,Wb 16 .add 15 1,Wa 6 16]
def DM:RC:=(.post (Sq (So Tn (XS 14 [1,6,14] (.exit 0))) (Sq (Bk 1 (So Tm (So Tl (.ops Tk)))) (.ops CK))) [.tok 5 105])
def CJ:RC:=DM
def CI:La:=[Wa 42 5,Wa 4 42]
def xuO:RC:=(So il (So To (Sq (So kq (Bk 0 (.pre [.tok 5 105] (.loop CJ)))) (So CI .ret))))
def xj8:FnC:=⟨xuO,43,[.tmp 4],[],[]⟩
def Tj:La:=[om 3 0,Wb 4 .eql 3 1,Wa 5 4,.grp 5 false [(xi 6 5 false (Mv 0)),(xi 7 5 false (Bc .eql 6 2))] [6],Wi 8 5 7,Wa 9 8,.grp 9 false [(xi 10 9 false (Mv 0)),(xi 11 9 false (Bc .eql 10 4))] [10],Wi 12 9 11,Wa 13 12,.grp 13 false [(xi 14 13 false (Mv 0)),(xi 15 13 false (Bc .eql 14 8))] [0,14],Wi 16 13 15,Wa 2 16]
def xuN:RC:=(So qb (So Tj .ret))
def xj7:FnC:=⟨xuN,17,[.tmp 2],[],[]⟩
def Ti:La:=[om 7 6,WO 8 .mul 2 7,Wb 9 .add 8 1,om 10 1,Wj 11 10,Wh 12 .lss 9 11]
def Th:Lb:=[Fm 0 15 5,Fm 1 16 0,Fm 2 17 6,Fm 3 18 1,Fm 4 19 6,WQ 5 20 .mul 2 19,Wt 6 21 1 18 20,We 7 22 21,Fm 8 23 1,Fm 9 24 6,WQ 10 25 .mul 2 24,WE 11 26 .add 25 1,Wt 12 27 1 23 26,We 13 28 27,Fz 14 29 (Ca 147 [.t 16,.t 17,.t 22,.t 28]),W6 15 30 1 29,Fz 16 31 (.app [.byt [] .clip] 24 (.t 15) (.t 30)),⟨17,false,(xm 5 31)⟩]
def CH:La:=[Wa 13 6,Wb 14 .add 13 1,Wa 6 14]
def DL:RC:=(.post (Sq (So Ti (XS 12 [0,1,6,12] (.exit 0))) (Sq (Bk 1 (.flt [0,0,0,0,0,16,56,120,0,0,512,1536,3840,7936,16382,32766,65535,131071] [131] Th [15,16,17,18,19,20,21,22,23,24,25,26,27,28,29,30,31])) (.ops CH))) [.tok 5 105])
def Tg:RC:=DL
def Tf:La:=[Wa 32 5,Wa 4 32]
def xuM:RC:=(So AT (So AQ (Sq (So kq (Bk 0 (.pre [.tok 5 105] (.loop Tg)))) (So Tf .ret))))
def xj6:FnC:=⟨xuM,33,[.tmp 4],[],[]⟩
def Te:La:=[on 3 (.litB []),Wa 4 0,Wy 5 1 3 4,Wa 2 5]
def xuL:RC:=(So kW (So Te .ret))
def xj5:FnC:=⟨xuL,6,[.tmp 2],[],[]⟩
def Td:La:=[Wa 5 0,Wa 6 1,Ww 7 6,WW 8 7,oo 9 (Ca 148 [.t 5,(.c (.str [115,105,103,110,101,114])),.t 8,ci 32]) [5,8],Wa 4 9]
def xuK:RC:=(So il (So Td .ret))
def xj4:FnC:=⟨xuK,10,[.tmp 4],[],[]⟩
def Tc:La:=[om 7 1,Wb 8 .lss 7 0,Wa 9 8,.grp 9 false [(xi 10 9 false (Mv 1)),(xi 11 9 false (Bc .gtr 10 255))] [10],Wi 12 9 11]
def Tb:La:=[Xb 5]
def Ta:La:=[om 13 6,Wb 14 .lss 13 35]
def S9:La:=[Wa 17 5,om 18 1,om 19 6,om 20 0,om 21 1,om 22 6,Xn 23 150 20 21 22,oo 24 (Ca 149 [.t 18,.t 19,ci 0,ci 15,.t 23]) [18,19,23],Wy 25 1 17 24,Wa 5 25]
def DK:RC:=(.post (Sq (So Ta (XS 14 [0,6,14] (.exit 0))) (Sq (Bk 1 (.ops S9)) (.ops CK))) [.tok 5 105])
def xG:RC:=DK
def S8:La:=[Wa 26 1,Wa 27 5,Wv 28 151 26 27,Wa 4 28]
def xuJ:RC:=(So il (Sq (So Tc (XT 12 [0,1,12] (So iY .ret))) (So Tb (Sq (So kq (Bk 0 (.pre [.tok 5 105] (.loop xG)))) (So S8 .ret)))))
def xj3:FnC:=⟨xuJ,29,[.tmp 4],[],[]⟩
def S7:La:=[XF 0]
def S6:La:=[on 1 (.build [.int .u32 0,.int .u32 0,.int .u32 0,.int .u32 0,.int .u32 0,.int .u32 0,.int .u32 0,.int .u32 0,.int .u32 0,.int .u32 0,.int .u32 0,.int .u32 0,.int .u32 0,.int .u32 0,.int .u32 0,.int .u32 0,.int .u32 0,.int .u32 0,.int .u32 0,.int .u32 0,.int .u32 0,.int .u32 0,.int .u32 0,.int .u32 0,.int .u32 0,.int .u32 0,.int .u32 0,.int .u32 0,.int .u32 0,.int .u32 0,.int .u32 0,.int .u32 0,.int .u32 0,.int .u32 0,.int .u32 0,.int .u32 0,.int .u32 0,.int .u32 0,.int .u32 0,.int .u32 0,.int .u32 0,.int .u32 0,.int .u32 0,.int .u32 0,.int .u32 0,.int .u32 0,.int .u32 0,.int .u32 0,.int .u32 0,.int .u32 0,.int .u32 0,.int .u32 0,.int .u32 0,.int .u32 0,.int .u32 0,.int .u32 0,.int .u32 0,.int .u32 0,.int .u32 0,.int .u32 0,.int .u32 0,.int .u32 0,.int .u32 0,.int .u32 0] [(0,1,(.c (.int .u32 1116352408))),(1,1,(.c (.int .u32 1899447441))),(2,1,(.c (.int .u32 3049323471))),(3,1,(.c (.int .u32 3921009573))),(4,1,(.c (.int .u32 961987163))),(5,1,(.c (.int .u32 1508970993))),(6,1,(.c (.int .u32 2453635748))),(7,1,(.c (.int .u32 2870763221))),(8,1,(.c (.int .u32 3624381080))),(9,1,(.c (.int .u32 310598401))),(10,1,(.c (.int .u32 607225278))),(11,1,(.c (.int .u32 1426881987))),(12,1,(.c (.int .u32 1925078388))),(13,1,(.c (.int .u32 2162078206))),(14,1,(.c (.int .u32 2614888103))),(15,1,(.c (.int .u32 3248222580))),(16,1,(.c (.int .u32 3835390401))),(17,1,(.c (.int .u32 4022224774))),(18,1,(.c (.int .u32 264347078))),(19,1,(.c (.int .u32 604807628))),(20,1,(.c (.int .u32 770255983))),(21,1,(.c (.int .u32 1249150122))),(22,1,(.c (.int .u32 1555081692))),(23,1,(.c (.int .u32 1996064986))),(24,1,(.c (.int .u32 2554220882))),(25,1,(.c (.int .u32 2821834349))),(26,1,(.c (.int .u32 2952996808))),(27,1,(.c (.int .u32 3210313671))),(28,1,(.c (.int .u32 3336571891))),(29,1,(.c (.int .u32 3584528711))),(30,1,(.c (.int .u32 113926993))),(31,1,(.c (.int .u32 338241895))),(32,1,(.c (.int .u32 666307205))),(33,1,(.c (.int .u32 773529912))),(34,1,(.c (.int .u32 1294757372))),(35,1,(.c (.int .u32 1396182291))),(36,1,(.c (.int .u32 1695183700))),(37,1,(.c (.int .u32 1986661051))),(38,1,(.c (.int .u32 2177026350))),(39,1,(.c (.int .u32 2456956037))),(40,1,(.c (.int .u32 2730485921))),(41,1,(.c (.int .u32 2820302411))),(42,1,(.c (.int .u32 3259730800))),(43,1,(.c (.int .u32 3345764771))),(44,1,(.c (.int .u32 3516065817))),(45,1,(.c (.int .u32 3600352804))),(46,1,(.c (.int .u32 4094571909))),(47,1,(.c (.int .u32 275423344))),(48,1,(.c (.int .u32 430227734))),(49,1,(.c (.int .u32 506948616))),(50,1,(.c (.int .u32 659060556))),(51,1,(.c (.int .u32 883997877))),(52,1,(.c (.int .u32 958139571))),(53,1,(.c (.int .u32 1322822218))),(54,1,(.c (.int .u32 1537002063))),(55,1,(.c (.int .u32 1747873779))),(56,1,(.c (.int .u32 1955562222))),(57,1,(.c (.int .u32 2024104815))),(58,1,(.c (.int .u32 2227730452))),(59,1,(.c (.int .u32 2361852424))),(60,1,(.c (.int .u32 2428436474))),(61,1,(.c (.int .u32 2756734187))),(62,1,(.c (.int .u32 3204031479))),(63,1,(.c (.int .u32 3329325298)))]),Wr 64 0 1]
def xuI:RC:=(So S7 (So S6 .ret))
def xj2:FnC:=⟨xuI,2,[.cell 0 64 true],[],[]⟩
def S5:La:=[on 6 (.litB []),om 7 0,Wy 8 1 6 7,on 9 (.litB [(.c (.u8 128))]),Wy 10 1 8 9,Wa 3 10]
def S4:La:=[om 11 3,Wj 12 11,Wb 13 .rem 12 64,Wb 14 .neq 13 56]
def S3:La:=[Wa 15 3,on 16 (.litB [(.c (.u8 0))]),Wy 17 1 15 16,Wa 3 17]
def DJ:RC:=(.post (Sq (So S4 (XS 14 [14] (.exit 0))) (Bk 1 (.ops S3))) [.tok 3 103])
def CG:RC:=DJ
def SZ:La:=[Wa 18 0,Wj 19 18,WZ 20 19,Xk 21 .mul 20,Wa 4 21]
def SY:La:=[Wn 5 7]
def SX:La:=[om 22 5,Wb 23 .geq 22 0]
def SW:La:=[Wa 26 3,om 27 4,om 28 5,WZ 29 28,oo 30 (.bin .mul (.c (.int .u64 8)) (.t 29)) [29],Wh 31 .shr 27 30,Ww 32 31,WW 33 32,Wy 34 1 26 33,Wa 3 34]
def SU:La:=[Wa 24 5,Wb 25 .sub 24 1,Wa 5 25]
def wQ:RC:=(.post (Sq (So SX (XS 23 [4,5,23] (.exit 2))) (Sq (Bk 3 (.ops SW)) (.ops SU))) [.tok 3 103])
def vN:RC:=wQ
def Fu:La:=[Wa 35 3,Wa 2 35]
def xuH:RC:=(So kW (So S5 (Sq (Bk 0 (.pre [.tok 3 103] (.loop CG))) (So SZ (Sq (So SY (Bk 2 (.pre [.tok 3 103] (.loop vN)))) (So Fu .ret))))))
def xj1:FnC:=⟨xuH,36,[.tmp 2],[],[]⟩
def s7:La:=[oo 4 (.mov (.c (.int .u32 0))) [4]]
def CF:Lb:=[Fm 0 5 0,Fm 1 6 1,WQ 2 7 .mul 4 6,Wt 3 8 1 5 7,We 4 9 8,Fs 5 10 (.toInt .u32 (.t 9)),Fs 6 11 (.bin .shl (.t 10) (.c (.int .u64 24))),Fm 7 12 0,Fm 8 13 1,WQ 9 14 .mul 4 13,WE 10 15 .add 14 1,Wt 11 16 1 12 15,We 12 17 16,Fs 13 18 (.toInt .u32 (.t 17)),Fs 14 19 (.bin .shl (.t 18) (.c (.int .u64 16))),Wk 15 20 .or 11 19,Fm 16 21 0,Fm 17 22 1,WQ 18 23 .mul 4 22,WE 19 24 .add 23 2,Wt 20 25 1 21 24,We 21 26 25,Fs 22 27 (.toInt .u32 (.t 26)),XC 23 28 .shl 27,Wk 24 29 .or 20 28,Fm 25 30 0,Fm 26 31 1,WQ 27 32 .mul 4 31,WE 28 33 .add 32 3,Wt 29 34 1 30 33,We 30 35 34,Fs 31 36 (.toInt .u32 (.t 35)),Wk 32 37 .or 29 36,Fm 33 4 37]
def xuG:RC:=(So s7 (Sq (.flt [0,0,2,7,15,31,63,0,0,256,768,1920,3968,8064,16256,32767,0,0,131072,393216,983040,2031616,4128768,8323072,16777215,0,0,67108864,201326592,503316480,1040187392,2113929216,4294967295,8589934591] [] CF [0,1,5,6,7,8,9,10,11,12,13,14,15,16,17,18,19,20,21,22,23,24,25,26,27,28,29,30,31,32,33,34,35,36,37]) .ret))
def xj0:FnC:=⟨xuG,38,[.tmp 4],[],[]⟩
def SS:La:=[om 5 0,om 6 1,Wh 7 .shr 5 6,Wa 8 0,Wa 9 1,oo 10 (.bin .sub (.c (.int .u64 32)) (.t 9)) [9],Wh 11 .shl 8 10,Wh 12 .or 7 11,Wa 4 12]
def xuF:RC:=(So s7 (So SS .ret))
def xjZ:FnC:=⟨xuF,13,[.tmp 4],[],[]⟩
def SR:La:=[om 5 4,om 6 0,Wj 7 6,Wh 8 .lss 5 7]
def SQ:Lb:=[Fm 0 11 3,Fm 1 12 0,Fm 2 13 4,Wt 3 14 1 12 13,We 4 15 14,Fs 5 16 (.bin .shr (.t 15) (.c (.int .u64 24))),Xm 6 17 16,Fm 7 18 0,Fm 8 19 4,Wt 9 20 1 18 19,We 10 21 20,Fs 11 22 (.bin .shr (.t 21) (.c (.int .u64 16))),Xm 12 23 22,Fm 13 24 0,Fm 14 25 4,Wt 15 26 1 24 25,We 16 27 26,XC 17 28 .shr 27,Xm 18 29 28,Fm 19 30 0,Fm 20 31 4,Wt 21 32 1 30 31,We 22 33 32,Xm 23 34 33,Fs 24 35 (.litB [.t 17,.t 23,.t 29,.t 34]),W8 25 36 1 11 35,⟨26,false,(xm 3 36)⟩]
def SP:La:=[Wa 9 4,Wb 10 .add 9 1,Wa 4 10]
def DI:RC:=(.post (Sq (So SR (XS 8 [0,4,8] (.exit 0))) (Sq (Bk 1 (.flt [0,0,0,6,14,30,62,0,0,384,896,1920,3968,0,0,24576,57344,122880,253952,0,0,1572864,3670016,7864320,16777214,33554431,67108863] [136] SQ [11,12,13,14,15,16,17,18,19,20,21,22,23,24,25,26,27,28,29,30,31,32,33,34,35,36])) (.ops SP))) [.tok 3 103])
def CE:RC:=DI
def CD:La:=[Wa 37 3,Wa 2 37]
def xuE:RC:=(So kW (So Vp (Sq (So iZ (Bk 0 (.pre [.tok 3 103] (.loop CE)))) (So CD .ret))))
def xjY:FnC:=⟨xuE,38,[.tmp 2],[],[]⟩
def SN:La:=[WL 4 4 1,Wm 5 152 4,Wb 6 .neq 5 0]
def SM:La:=[Wf 7 0 1,Wc 8 7,oo 9 (Ca 64 [(.c (.byt [] .clip)),ci 1,.t 8]) [8],Wa 3 9]
def SL:La:=[Wa 10 3,Wf 11 2 1,Wc 12 11,Xc 13 64 10 4 12,Wa 3 13]
def SK:La:=[Wa 14 3,Wf 15 1 1,Wc 16 15,oo 17 (.s2b (.t 16)) [16],Wv 18 63 14 17,Wa 3 18]
def SJ:La:=[Wa 19 3,Wq 20 3 1,Wc 21 20,Wv 22 63 19 21,Wa 2 22]
def xuD:RC:=(So tJ (Sq (So SN (XT 6 [1,6] (So qc .ret))) (So SM (So SL (So SK (So SJ .ret))))))
def xjX:FnC:=⟨xuD,23,[.tmp 2],[],[]⟩
def SH:La:=[on 4 (.build [.str [],.str [],.str [],.str [],.str [],.str []] [(0,1,(.c (.str [97,61,49]))),(1,1,(.c (.str [99,111,117,110,116,61,53]))),(2,1,(.c (.str [99,111,117,110,116,61,49,55]))),(3,1,(.c (.str [104,111,115,116,61,120]))),(4,1,(.c (.str [109,111,100,101,32,98]))),(5,1,(.c (.str [126])))]),on 3 (.new (.arr 1 (aL 6 [.str []]))),Wr 6 3 4]
def SG:La:=[Wa 5 0,Wo 6 17 5 6,oo 7 (.iaddrA 6 1 (.t 3) (.t 6)) [3,6],Wc 8 7,oo 9 (.s2b (.t 8)) [8],Wa 2 9]
def xuC:RC:=(So kW (So SH (So SG .ret)))
def xjW:FnC:=⟨xuC,10,[.tmp 2],[],[]⟩
def SF:La:=[om 12 0,Wj 13 12,Wb 14 .neq 13 17,Wa 15 14,.grp 15 false [(xi 16 15 false (Mv 0)),(xi 17 15 false (.iaddrL 1 (.t 16) (ci 0))),(xi 18 15 false (Ld 17)),(xi 19 15 false (.toInt .i64 (.t 18))),(xi 20 15 false (Ca 153 [.t 19])),(xi 21 15 false (.un .not (.t 20)))] [16,17,18,19,20],Wi 22 15 21]
def mj:La:=[Wn 6 0,WP 7 false]
def SE:La:=[om 23 0,Xz 24 1 23 0,Wc 25 24,Xe 26 25,Wa 8 26]
def SD:La:=[om 27 2,Wj 28 27,om 29 8,WO 30 .mul 16 29,WO 31 .add 561 30,Wh 32 .neq 28 31,Wa 33 32,.grp 33 false [(xi 34 33 false (Mv 2)),(xi 35 33 false (.iaddrL 1 (.t 34) (ci 0))),(xi 36 33 false (Ld 35)),(xi 37 33 false (.toInt .i64 (.t 36))),(xi 38 33 false (Mv 8)),(xi 39 33 false (.toInt .u64 (.t 38))),(xi 40 33 false (.bin .shl (ci 1) (.t 39))),(xi 41 33 false (Bb .geq 37 40))] [8,34,35,36,37,38,39,40],Wi 42 33 41]
def SC:La:=[om 43 2,Xz 44 1 43 0,Wc 45 44,Xe 46 45,Wa 6 46]
def SB:La:=[om 48 6,Wa 49 1,om 50 2,oo 51 (.slcL 1 (.t 50) (some (ci 1)) (some (ci 561)) (some (ci 561))) [50],Xn 52 154 48 49 51,Wa 47 52,WH 53 47 0,WF 54 47 1,Wa 9 53,Wa 7 54]
def SA:La:=[Wa 55 7,WY 56 55]
def Ft:La:=[Xi 10]
def Fq:La:=[Wa 57 2,XH 58 1 57 561,Wa 11 58]
def Fp:La:=[om 59 11,Wj 60 59,Wb 61 .gtr 60 0]
def Fo:La:=[Wa 64 10,om 65 11,XL 66 1 65 16 16,WM 67 1 66,XA 68 24 64 67,Wa 10 68]
def Fl:La:=[Wa 62 11,XH 63 1 62 16,Wa 11 63]
def wP:RC:=(.post (Sq (So Fp (XS 61 [11,61] (.exit 0))) (Sq (Bk 1 (.ops Fo)) (.ops Fl))) [.tok 10 110])
def vM:RC:=wP
def Fj:Lb:=[Fm 0 69 9,Fm 1 70 6,Fm 2 71 10,Fm 5 74 0,Fs 6 75 (.slcL 1 (.t 74) (some (ci 1)) none none),Fs 7 76 (.b2s (.t 75)),Xo 3 72 155 69 70 71,Fs 4 73 (.b2s (.t 72)),Wk 8 77 .neq 73 76]
def Fh:La:=[Wa 78 6,Wa 6 78,WP 7 true]
def xuB:RC:=(So ID (Sq (So SF (XT 22 [0,1,2,22] (So mj .ret))) (So SE (Sq (So SD (XT 42 [0,1,2,42] (So mj .ret))) (So SC (So SB (Sq (So SA (XT 56 [0,2,6,9,56] (So mj .ret))) (So Ft (Sq (So Fq (Bk 0 (.pre [.tok 10 110] (.loop vM)))) (Sq (Sq (.flt [0,0,0,7,15,0,32,96,255] [] Fj [0,9,10,69,70,71,72,73,74,75,76]) (XT 77 [6,77] (So mj .ret))) (So Fh .ret)))))))))))
def xjV:FnC:=⟨xuB,79,[.tmp 6,.tmp 7],[],[]⟩
def Sz:La:=[Wa 4 0,Wa 5 1,WA 6 4,Wq 7 2 6,Ws 1 7 5]
def xuA:RC:=(.ops Sz)
def xjU:FnC:=⟨xuA,8,[],[],[]⟩
def Sx:La:=[W7 6,WV 7 0]
def Sw:La:=[om 8 2,om 9 0,WA 10 9,Wq 11 0 10,Wc 12 11,Wj 13 12,om 14 1,Wh 15 .sub 13 14,Wh 16 .gtr 8 15]
def Sv:La:=[Xb 6,Wn 7 2]
def Su:La:=[Wa 17 0,WA 18 17,Wq 19 0 18,Wc 20 19,om 21 1,Wa 22 1,Wa 23 2,Wh 24 .add 22 23,XG 25 1 20 21 24,Wa 6 25,Wn 7 0]
def xuz:RC:=(So Sx (Sq (So Sw (XT 16 [0,1,2,16] (So Sv .ret))) (So Su .ret)))
def xjT:FnC:=⟨xuz,26,[.tmp 6,.tmp 7],[],[]⟩
def CC:Lb:=[Fm 0 3 0,WK 1 4 3,Wg 2 5 0 4,We 3 6 5,Fs 4 7 (Ln 6),Fm 5 8 0,WK 6 9 8,Wg 7 10 1 9,We 8 11 10,Wk 9 12 .sub 7 11,Fm 10 2 12]
def xuy:RC:=(So p9 (Sq (.flt [0,1,3,7,15,0,32,96,224,511,1023] [] CC [0,3,4,5,6,7,8,9,10,11,12]) .ret))
def xjS:FnC:=⟨xuy,13,[.tmp 2],[],[]⟩
def Ss:La:=[Wa 3 0,oo 4 (.build Zq2 [(0,1,(ci 1)),(1,1,(.t 3))]) [3],Wm 5 158 4,Wb 6 .eql 5 0,Wa 2 6]
def xux:RC:=(So qb (So Ss .ret))
def xjR:FnC:=⟨xux,7,[.tmp 2],[],[]⟩
def Sp:Lb:=[Wg 0 5 0 2,We 1 6 5,Wg 2 7 0 3,We 3 8 7,Wg 5 10 1 2,We 6 11 10,Wg 7 12 1 3,We 8 13 12,Wg 10 15 2 2,We 11 16 15,Wg 12 17 2 3,We 13 18 17,Wg 15 20 3 2,We 16 21 20,Wg 17 22 3 3,We 18 23 22,WJ 4 9 134 6 8,WJ 9 14 159 11 13,WJ 14 19 134 16 18,WJ 19 24 83 21 23,Fs 20 25 (.lit 1 [.t 9,.t 14,.t 19,.t 24]),WS 21 26 133 25,Fm 22 4 26]
def xuw:RC:=(So AR (Sq (.flt [0,1,0,4,15,0,32,0,128,511,0,1024,0,4096,16383,0,32768,0,131072,524287,1048575,2097151,4194303] [] Sp [2,3,5,6,7,8,9,10,11,12,13,14,15,16,17,18,19,20,21,22,23,24,25,26]) .ret))
def xjQ:FnC:=⟨xuw,27,[.tmp 4],[],[]⟩
def Sn:La:=[Wf 5 0 1,Wc 6 5,Wb 7 .lss 6 1,Wa 8 7,.grp 8 false [(xi 9 8 false (Fa 0 1)),(xi 10 8 false (Ld 9)),(xi 11 8 false (Bc .gtr 10 4))] [9,10],Wi 12 8 11]
def Sm:La:=[Wf 13 1 1,Wc 14 13,Xu 15 true 14,Wn 16 0]
def Sl:La:=[on 17 (Bb .lss 16 15)]
def Sk:La:=[om 18 16,Wa 3 18]
def Sj:La:=[Wf 19 1 1,Wc 20 19,Wa 21 3,oo 22 (.idxS (.t 20) (.t 21)) [20,21],Wa 4 22]
def Sh:La:=[om 23 4,oo 24 (.bin .lss (.t 23) (.c (.u8 32))) [23],Wa 25 24,.grp 25 false [(xi 26 25 false (Mv 4)),(xi 27 25 false (.bin .gtr (.t 26) (.c (.u8 126))))] [4,26],Wi 28 25 27]
def Sg:La:=[Wb 29 .add 16 1,Wa 16 29]
def wO:RC:=(So Sl (Sq (XS 17 [15,16,17] (.exit 0)) (Sq (Bk 1 (So Sk (So Sj (So Sh (XT 28 [1,15,16,28] (So gC .ret)))))) (.ops Sg))))
def vL:RC:=wO
def Fg:La:=[Wf 31 0 1,Wc 32 31,Wb 33 .eql 32 4,Wa 34 33,.grp 34 true [(xi 35 34 true (Fa 2 1)),(xi 36 34 true (Ld 35)),(xi 37 34 true (Bc .lss 36 0)),(xi 38 34 true (Mv 37))] [35,36,37],.grp 38 false [(xi 39 38 false (Fa 2 1)),(xi 40 38 false (Ld 39)),(xi 41 38 false (Fa 3 1)),(xi 42 38 false (Ld 41)),(xi 43 38 false (Bb .gtr 40 42))] [39,40,41,42],.grp 34 true [(xi 44 34 true (Pt 38 43)),(xi 45 34 true (Mv 44))] [38,43,44],.grp 45 false [(xi 46 45 false (Fa 3 1)),(xi 47 45 false (Ld 46)),(xi 48 45 false (Bc .gtr 47 1000000000))] [46,47],.grp 34 true [(xi 49 34 true (Pt 45 48))] [45,48],Wx 50 34 49,Wa 30 50]
def Ff:La:=[Wf 52 0 1,Wc 53 52,Wb 54 .neq 53 4,Wa 55 54,.grp 55 true [(xi 56 55 true (Fa 2 1)),(xi 57 55 true (Ld 56)),(xi 58 55 true (Bc .neq 57 0)),(xi 59 55 true (Mv 58))] [56,57,58],.grp 59 false [(xi 60 59 false (Fa 3 1)),(xi 61 59 false (Ld 60)),(xi 62 59 false (Bc .neq 61 0))] [60,61],.grp 55 true [(xi 63 55 true (Pt 59 62))] [59,62],Wx 64 55 63,Wa 51 64]
def Fe:La:=[Wf 66 0 1,Wc 67 66,Wb 68 .eql 67 1,Wa 69 68,.grp 69 true [(xi 70 69 true (Fa 1 1)),(xi 71 69 true (Ld 70)),(xi 72 69 true (.bin .neq (.t 71) (.c (.str []))))] [70,71],Wx 73 69 72,Wa 65 73]
def Fc:La:=[oo 75 (Fa 1 1) [1],Wc 76 75,Xu 77 true 76,Wb 78 .gtr 77 32,Wa 74 78]
def xuv:RC:=(So pr (Sq (So Sn (XT 12 [1,12] (So gC .ret))) (Sq (So Sm (Bk 0 (.loop vL))) (Sq (Bk 2 (So Fg (Kc 30 (Kk [1,30] (So gC .ret)) (Kk [30] (So Ff (Kc 51 (Kk [1,51] (So gC .ret)) (Kk [51] (So Fe (Kc 65 (Kk [1,65] (So gC .ret)) (Kk [65] (So Fc (XT 74 [74] (So pq .ret))))))))))))) (So kV .ret)))))
def xjP:FnC:=⟨xuv,79,[.tmp 2],[],[]⟩
def Sf:La:=[Wa 6 0,on 7 (Ln 6),Wn 8 0]
def CB:La:=[on 9 (Bb .lss 8 7)]
def Se:La:=[on 10 (Ia 1 6 8),Wc 11 10,Wa 5 11]
def Sd:La:=[om 12 5,om 13 3,Wh 14 .neq 12 13]
def Sc:La:=[Wa 15 5,Wa 2 15]
def Sb:La:=[Wb 16 .add 8 1,Wa 8 16]
def DH:RC:=(So CB (Sq (XS 9 [6,7,8,9] (.exit 0)) (Sq (Bk 1 (So Se (So Sd (Kc 14 (Kk [3,6,7,8,14] (So Sc .ret)) (Kk [5,14] .skip))))) (.ops Sb))))
def Sa:RC:=DH
def R9:La:=[Wa 17 3,Wa 2 17]
def xuu:RC:=(So p9 (So xy (Sq (So Sf (Bk 0 (.loop Sa))) (So R9 .ret))))
def xjO:FnC:=⟨xuu,18,[.tmp 2],[],[]⟩
def R8:La:=[om 7 0,Wm 8 161 7,Wa 5 8]
def R7:La:=[om 9 1,Wm 10 161 9,Wa 6 10]
def R6:La:=[Wa 11 5]
def R5:La:=[Wa 12 6]
def xF:La:=[Wn 4 (-1)]
def R4:La:=[Wa 13 6]
def CA:La:=[Wn 4 1]
def R3:La:=[om 14 0,om 15 1,Wh 16 .lss 14 15]
def Fb:La:=[Wa 17 0,Wa 18 1,Wh 19 .gtr 17 18]
def xut:RC:=(So qf (So R8 (So R7 (Sq (So R6 (XT 11 [0,1,11] (Sq (So R5 (XT 12 [12] (So iZ .ret))) (So xF .ret)))) (Sq (So R4 (XT 13 [0,1,13] (So CA .ret))) (Sq (So R3 (XT 16 [0,1,16] (So xF .ret))) (Sq (So Fb (XT 19 [19] (So CA .ret))) (So iZ .ret))))))))
def xjN:FnC:=⟨xut,20,[.tmp 4],[],[]⟩
def R2:La:=[WC 3 0,WC 5 2,WX 6 false]
def RZ:La:=[om 10 7,Wf 11 0 3,Wc 12 11,Wj 13 12,Wh 14 .lss 10 13]
def RY:Lb:=[Wg 0 17 0 3,We 1 18 17,Fm 2 19 7,Wt 3 20 2 18 19,Wg 4 21 0 20,We 5 22 21,Wg 6 23 0 5,We 7 24 23,Wk 8 25 .neq 22 24]
def RX:Lb:=[Wg 0 27 0 3,We 1 28 27,Fm 2 29 7,Wt 3 30 2 28 29,Wg 4 31 1 30,We 5 32 31,Fm 6 33 1,Wg 7 34 1 5,We 8 35 34,Xo 9 36 163 32 33 35,Fm 10 26 36,W1 11 37 26 0,W1 12 38 26 1,Fm 13 8 37,Fm 14 9 38]
def RW:La:=[Wa 39 9]
def RU:La:=[WP 6 true]
def RT:La:=[Wa 15 7,Wb 16 .add 15 1,Wa 7 16]
def DG:RC:=(Sq (So RZ (XS 14 [1,3,5,7,14] (.exit 0))) (Sq (Bk 1 (Sq (Sq (.flt [0,1,0,7,15,31,0,64,255] [] RY [17,18,19,20,21,22,23,24]) (XT 25 [25] (.exit 1))) (Sq (.flt [0,1,0,7,15,31,0,0,128,511,1023,2047,2047,4095,16383] [] RX [8,26,27,28,29,30,31,32,33,34,35,36,37,38]) (So RW (XT 39 [1,3,5,7,39] (So RU .ret)))))) (.ops RT)))
def Cz:RC:=DG
def RS:La:=[WP 6 false]
def xus:RC:=(So R2 (Sq (So tL (Bk 0 (.loop Cz))) (So RS .ret)))
def xjM:FnC:=⟨xus,40,[.tmp 6],[],[]⟩
def RR:Lb:=[Fm 0 5 0,WK 1 6 5,Wg 2 7 2 6,We 3 8 7,WE 4 9 .eql 8 0,Fm 5 10 9,Wz 6 11 10 true 0,Fi 7 12 10 true (.nchk (.t 11)),WB 8 13 10 true 0 12,WD 9 14 10 true 13,Fi 10 15 10 true (Ln 14),Wz 11 16 10 true 0,Fi 12 17 10 true (.nchk (.t 16)),WB 13 18 10 true 1 17,WD 14 19 10 true 18,Fi 15 20 10 true (Bb .sub 15 19),Wz 16 21 10 true 1,Fi 17 22 10 true (Bb .lss 20 21),Fs 18 23 (Pf 10 22)]
def RQ:La:=[om 24 0,WA 25 24,Wq 26 2 25,.op ⟨none,none,.store 1 (.t 26) (ci 2)⟩ [26]]
def RP:La:=[Wa 27 0,WA 28 27,Wq 29 2 28,Wc 30 29,Wb 31 .eql 30 0,Wa 4 31]
def xur:RC:=(So tK (Sq (Sq (.flt [0,1,3,7,15,31,63,127,255,511,1023,63,2111,6207,14399,32767,63,131071,262143] [] RR [1,5,6,7,8,9,10,11,12,13,14,15,16,17,18,19,20,21,22]) (XT 23 [23] (.ops RQ))) (So RP .ret)))
def xjL:FnC:=⟨xur,32,[.tmp 4],[],[]⟩
def xuq:RC:=(So p9 (Sq (.flt [0,1,3,7,15,0,32,96,224,511,1023] [] CC [0,3,4,5,6,7,8,9,10,11,12]) .ret))
def xjK:FnC:=⟨xuq,13,[.tmp 2],[],[]⟩
def RL:La:=[om 6 0,Wj 7 6,Wn 8 0]
def RK:La:=[om 10 8,Wa 5 10]
def RJ:La:=[om 11 1,om 12 0,om 13 5,WI 14 2 12 13,Wp 15 2 14,XM 16 11 15]
def RH:La:=[Wa 17 5,Wa 4 17]
def RG:La:=[Wb 18 .add 8 1,Wa 8 18]
def DE:RC:=(So CB (Sq (XS 9 [0,1,7,8,9] (.exit 0)) (Sq (Bk 1 (So RK (So RJ (Kc 16 (Kk [0,1,7,8,16] (So RH .ret)) (Kk [5,16] .skip))))) (.ops RG))))
def xE:RC:=DE
def xup:RC:=(So qf (Sq (So RL (Bk 0 (.loop xE))) (So xF .ret)))
def xjJ:FnC:=⟨xup,19,[.tmp 4],[],[]⟩
def RF:La:=[om 6 0,Wj 7 6,Wb 8 .add 7 72,oo 9 (.mkB (ci 0) (.t 8)) [8],om 10 0,.dir (.tok 9 109),Wy 11 1 9 10,on 12 (.litB [(.c (.u8 128))]),Wy 13 1 11 12,Wa 3 13]
def RE:La:=[om 14 3,Wj 15 14,Wb 16 .rem 15 64,Wb 17 .neq 16 56]
def RD:La:=[Wa 18 3,on 19 (.litB [(.c (.u8 0))]),Wy 20 1 18 19,Wa 3 20]
def DD:RC:=(.post (Sq (So RE (XS 17 [17] (.exit 0))) (Bk 1 (.ops RD))) [.tok 3 103])
def Cx:RC:=DD
def RB:La:=[Wa 21 0,Wj 22 21,WZ 23 22,Xk 24 .mul 23,Wa 4 24]
def RA:La:=[Wn 5 56]
def Rz:La:=[om 25 5,Wb 26 .geq 25 0]
def Ry:La:=[Wa 29 3,om 30 4,om 31 5,WZ 32 31,Wh 33 .shr 30 32,Ww 34 33,WW 35 34,Wy 36 1 29 35,Wa 3 36]
def Rx:La:=[Wa 27 5,Wb 28 .sub 27 8,Wa 5 28]
def wN:RC:=(.post (Sq (So Rz (XS 26 [4,5,26] (.exit 2))) (Sq (Bk 3 (.ops Ry)) (.ops Rx))) [.tok 3 103])
def vK:RC:=wN
def xuo:RC:=(So kW (So RF (Sq (Bk 0 (.pre [.tok 3 103] (.loop Cx))) (So RB (Sq (So RA (Bk 2 (.pre [.tok 3 103] (.loop vK)))) (So CD .ret))))))
def xjI:FnC:=⟨xuo,38,[.tmp 2],[],[]⟩
def Rw:La:=[om 6 0,Wj 7 6,WO 8 .mul 4 7,oo 9 (.mkB (ci 0) (.t 8)) [8],Wa 3 9]
def Rv:La:=[Wa 10 0,on 11 (Ln 10),Wn 12 0]
def Ru:La:=[on 14 (Ia 1 10 12),Wc 15 14,Wa 5 15]
def Rt:La:=[Wa 16 3,om 17 5,XI 18 .shr 17,Ww 19 18,om 20 5,XJ 21 .shr 20,Ww 22 21,om 23 5,Xk 24 .shr 23,Ww 25 24,Wa 26 5,Ww 27 26,XK 28 19 22 25 27,.dir (.tok 16 116),Wy 29 1 16 28,Wa 3 29]
def Rr:La:=[Wb 30 .add 12 1,Wa 12 30]
def DC:RC:=(.post (So VC (Sq (XS 13 [10,11,12,13] (.exit 0)) (Sq (Bk 1 (So Ru (.ops Rt))) (.ops Rr)))) [.tok 3 103])
def Cw:RC:=DC
def Rq:La:=[Wa 31 3,Wa 2 31]
def xun:RC:=(So kW (So Rw (Sq (So Rv (Bk 0 (.pre [.tok 3 103] (.loop Cw)))) (So Rq .ret))))
def xjH:FnC:=⟨xun,32,[.tmp 2],[],[]⟩
def Rp:La:=[XF 4]
def Ro:La:=[on 18 (Bc .lss 17 64)]
def Rn:La:=[om 19 17,Wa 5 19]
def Rm:La:=[om 20 5,Wb 21 .lss 20 16]
def Rl:La:=[om 22 5,om 23 1,Wa 24 5,Wv 25 164 23 24,oo 26 (.iaddrA 64 1 (.t 4) (.t 22)) [22],Ws 1 26 25]
def Rk:Lb:=[Fm 0 27 5,WE 1 28 .sub 27 15,WR 2 29 4 28,We 3 30 29,Fm 4 31 5,WE 5 32 .sub 31 2,WR 6 33 4 32,We 7 34 33,Fm 8 6 30,Fm 9 7 34]
def Rj:La:=[om 35 6,Wo 36 165 35 (-7),om 37 6,Wo 38 165 37 (-18),Wh 39 .xor 36 38,Wa 40 6,oo 41 (.bin .shr (.t 40) (.c (.int .u64 3))) [40],Wh 42 .xor 39 41,Wa 8 42]
def Ri:La:=[om 43 7,Wo 44 165 43 (-17),om 45 7,Wo 46 165 45 (-19),Wh 47 .xor 44 46,Wa 48 7,oo 49 (.bin .shr (.t 48) (.c (.int .u64 10))) [48],Wh 50 .xor 47 49,Wa 9 50]
def Rh:Lb:=[Fm 0 51 5,Fm 1 52 9,Fm 2 53 5,WE 3 54 .sub 53 7,WR 4 55 4 54,We 5 56 55,Wk 6 57 .add 52 56,Fm 7 58 8,Wk 8 59 .add 57 58,Fm 9 60 5,WE 10 61 .sub 60 16,WR 11 62 4 61,We 12 63 62,Wk 13 64 .add 59 63,WR 14 65 4 51,Fr 15 1 65 64]
def E9:La:=[Wb 66 .add 17 1,Wa 17 66]
def wL:RC:=(So Ro (Sq (XS 18 [1,17,18] (.exit 0)) (Sq (Bk 1 (So Rn (Sq (So Rm (XT 21 [21] (So Rl (.exit 1)))) (Sq (.flt [0,1,3,7,0,16,48,112,15,511] [] Rk [27,28,29,30,31,32,33,34]) (So Rj (So Ri (.flt [0,0,0,4,12,28,62,0,254,0,512,1536,3584,8190,16383,32767] [] Rh [5,8,9,51,52,53,54,55,56,57,58,59,60,61,62,63,64,65]))))))) (.ops E9))))
def vJ:RC:=wL
def E8:La:=[om 67 0,WA 68 67,Wp 69 8 68,on 10 (.new (.arr 1 (aL 8 [.int .u32 0]))),Wr 8 10 69]
def E7:La:=[Wn 70 0]
def E6:La:=[on 71 (Bc .lss 70 64)]
def E5:La:=[om 72 70,Wa 11 72]
def E4:Lb:=[Xf 0 73 10 0,We 1 74 73,Xf 2 75 10 4,We 3 76 75,Fm 4 12 74,Fm 5 13 76]
def E3:Lb:=[Xf 0 77 10 7,We 1 78 77,Fm 2 79 13,Fm 4 81 13,Fm 7 84 13,Fm 11 88 13,Xf 12 89 10 5,We 13 90 89,Wk 14 91 .and 88 90,Fm 15 92 13,Fs 16 93 (.un .xor (.t 92)),Xf 17 94 10 6,We 18 95 94,Wk 19 96 .and 93 95,Wk 20 97 .xor 91 96,Fm 22 99 11,Fs 23 100 (.iaddrA 64 1 (.c (.pp jQ)) (.t 99)),We 24 101 100,Fm 26 103 11,WR 27 104 4 103,We 28 105 104,WN 3 80 165 79 (-6),WN 5 82 165 81 (-11),Wk 6 83 .xor 80 82,WN 8 85 165 84 (-25),Wk 9 86 .xor 83 85,Wk 10 87 .add 78 86,Wk 21 98 .add 87 97,Wk 25 102 .add 98 101,Wk 29 106 .add 102 105,Fm 30 14 106]
def E0:Lb:=[Fm 0 107 12,Fm 2 109 12,Fm 5 112 12,Fm 8 115 12,Xf 9 116 10 1,We 10 117 116,Wk 11 118 .and 115 117,Fm 12 119 12,Xf 13 120 10 2,We 14 121 120,Wk 15 122 .and 119 121,Wk 16 123 .xor 118 122,Xf 17 124 10 1,We 18 125 124,Xf 19 126 10 2,We 20 127 126,Wk 21 128 .and 125 127,Wk 22 129 .xor 123 128,WN 1 108 165 107 (-2),WN 3 110 165 109 (-13),Wk 4 111 .xor 108 110,WN 6 113 165 112 (-22),Wk 7 114 .xor 111 113,Wk 23 130 .add 114 129,Fm 24 15 130]
def EZ:La:=[om 131 14,Wa 132 15,Wh 133 .add 131 132,Xp 134 10 0,Wc 135 134,Xp 136 10 1,Wc 137 136,Xp 138 10 2,Wc 139 138,Xp 140 10 3,Wc 141 140,Wa 142 14,Wh 143 .add 141 142,Xp 144 10 4,Wc 145 144,Xp 146 10 5,Wc 147 146,Xp 148 10 6,Wc 149 148,oo 150 (.build [.int .u32 0,.int .u32 0,.int .u32 0,.int .u32 0,.int .u32 0,.int .u32 0,.int .u32 0,.int .u32 0] [(0,1,(.t 133)),(1,1,(.t 135)),(2,1,(.t 137)),(3,1,(.t 139)),(4,1,(.t 143)),(5,1,(.t 145)),(6,1,(.t 147)),(7,1,(.t 149))]) [133,135,137,139,143,145,147,149],Wr 8 10 150]
def EY:La:=[Wb 151 .add 70 1,Wa 70 151]
def wK:RC:=(So E6 (Sq (XS 71 [4,70,71] (.exit 2)) (Sq (Bk 3 (So E5 (Sq (.flt [0,1,0,4,3,31] [] E4 [73,74,75,76]) (Sq (.flt [0,1,0,4,0,28,60,0,188,508,1023,0,0,4096,14336,0,32768,0,131072,491520,1046528,2097151,0,4194304,12582912,33554431,0,67108864,201326592,536870911,1073741823] [] E3 [11,13,77,78,79,80,81,82,83,84,85,86,87,88,89,90,91,92,93,94,95,96,97,98,99,100,101,102,103,104,105,106]) (Sq (.flt [0,1,0,7,15,0,47,127,0,0,512,1792,0,0,8192,28672,65280,0,131072,0,524288,1966080,4194048,8388607,16777215] [] E0 [12,107,108,109,110,111,112,113,114,115,116,117,118,119,120,121,122,123,124,125,126,127,128,129,130]) (.ops EZ)))))) (.ops EY))))
def vI:RC:=wK
def EX:La:=[Wn 152 0]
def EW:La:=[on 153 (Bc .lss 152 8)]
def EV:La:=[om 154 152,Wa 16 154]
def EU:Lb:=[Fm 0 155 0,Fm 1 156 16,WK 2 157 155,Fs 3 158 (.iaddrA 8 1 (.t 157) (.t 156)),We 4 159 158,Fm 5 160 16,Fs 6 161 (.iaddrA 8 1 (.t 10) (.t 160)),We 7 162 161,Wk 8 163 .add 159 162,WK 9 164 155,Fs 10 165 (.iaddrA 8 1 (.t 164) (.t 156)),Fr 11 1 165 163]
def ET:La:=[Wb 166 .add 152 1,Wa 152 166]
def wJ:RC:=(So EW (Sq (XS 153 [0,10,152,153] (.exit 4)) (Sq (Bk 5 (So EV (.flt [0,0,1,7,15,0,32,96,255,1,1023,2047] [] EU [16,155,156,157,158,159,160,161,162,163,164,165]))) (.ops ET))))
def vH:RC:=wJ
def xum:RC:=(So Rp (Sq (So Cb (Bk 0 (.loop vJ))) (So E8 (Sq (So E7 (Bk 2 (.loop vI))) (So EX (Bk 4 (.loop vH)))))))
def xjG:FnC:=⟨xum,167,[],[],[]⟩
def Rg:La:=[om 10 1,Wb 11 .lss 10 0,Wa 12 11,.grp 12 false [(xi 13 12 false (Mv 1)),(xi 14 12 false (Bc .gtr 13 255))] [13],Wi 15 12 14]
def xD:La:=[Xb 6]
def Rf:La:=[Wa 16 2,Wm 17 166 16,Wa 7 17]
def Re:La:=[om 18 9,Wb 19 .lss 18 35]
def Rd:Lb:=[Fm 0 22 8,Fm 1 23 1,Fm 2 24 9,Fm 3 25 7,Fm 4 26 9,Wt 5 27 1 25 26,We 6 28 27,Fm 7 29 0,Fm 8 30 1,Fm 9 31 9,Xo 10 32 150 29 30 31,Fz 11 33 (Ca 149 [.t 23,.t 24,ci 0,.t 28,.t 32]),W8 12 34 1 22 33,⟨13,false,(xm 8 34)⟩]
def Rc:La:=[Wa 20 9,Wb 21 .add 20 1,Wa 9 21]
def DB:RC:=(.post (Sq (So Re (XS 19 [0,1,7,9,19] (.exit 0))) (Sq (Bk 1 (.flt [0,0,0,0,0,24,56,0,0,0,896,2046,4095,8191] [134] Rd [22,23,24,25,26,27,28,29,30,31,32,33,34])) (.ops Rc))) [.tok 8 108])
def xC:RC:=DB
def ES:La:=[Wa 35 8,Wa 6 35]
def xul:RC:=(So tH (Sq (So Rg (XT 15 [0,1,2,15] (So xD .ret))) (So Rf (So xH (Sq (So Cr (Bk 0 (.pre [.tok 8 108] (.loop xC)))) (So ES .ret))))))
def xjF:FnC:=⟨xul,36,[.tmp 6],[],[]⟩
def Rb:La:=[om 8 1,Wj 9 8,Wm 10 110 9,WY 11 10,Wa 12 11,.grp 12 false [(xi 13 12 false (Mv 0)),(xi 14 12 false (Bc .lss 13 0))] [13],Wi 15 12 14,Wa 16 15,.grp 16 false [(xi 17 16 false (Mv 0)),(xi 18 16 false (Mv 1)),(xi 19 16 false (Ln 18)),(xi 20 16 false (Bb .geq 17 19))] [17,18,19],Wi 21 16 20]
def Cv:La:=[Xi 4]
def Ra:La:=[Wa 22 1,Wa 6 22]
def QZ:La:=[om 23 6,Wj 24 23,Wb 25 .gtr 24 1]
def QY:La:=[Wa 28 5,om 29 6,om 30 0,Wb 31 .xor 30 1,WI 32 1 29 31,Wc 33 32,Wm 34 112 33,WM 35 1 34,XA 36 24 28 35,Wa 5 36]
def QX:La:=[om 37 7,Wa 38 6,Wv 39 111 37 38,Wa 6 39]
def QW:La:=[Wa 40 0,Wb 41 .quo 40 2,Wa 0 41]
def ER:La:=[Wa 26 7,Wb 27 .add 26 1,Wa 7 27]
def wI:RC:=(.post (Sq (So QZ (XS 25 [0,6,7,25] (.exit 0))) (Sq (Bk 1 (So QY (So QX (.ops QW)))) (.ops ER))) [.tok 5 105])
def EP:RC:=wI
def xuk:RC:=(So AT (Sq (So Rb (XT 21 [0,1,21] (So Cv .ret))) (So AQ (So Ra (Sq (So tL (Bk 0 (.pre [.tok 5 105] (.loop EP)))) (So CI .ret))))))
def xjE:FnC:=⟨xuk,43,[.tmp 4],[],[]⟩
def QV:La:=[Wa 9 0,Ww 10 9,Wa 11 1,Ww 12 11,oo 13 (.litB [.t 10,.t 12]) [10,12],Wa 14 2,Wa 15 3,XN 16 1 13 14 15,W5 17 65 3 16,Xj 18 1 17 16,Wa 8 18]
def xuj:RC:=(So nu (So QV .ret))
def xjD:FnC:=⟨xuj,19,[.tmp 8],[],[]⟩
def QU:La:=[om 12 3,Wb 13 .lss 12 1,Wa 14 13,.grp 14 false [(xi 15 14 false (Mv 3)),(xi 16 14 false (Bc .gtr 15 1024))] [15],Wi 17 14 16]
def xB:La:=[Xb 9]
def QT:La:=[Wn 10 1]
def QS:La:=[om 18 9,Wj 19 18,om 20 3,Wh 21 .lss 19 20]
def QR:La:=[om 24 10,Wm 25 167 24,om 26 1,Wy 27 1 25 26,Wa 11 27]
def QQ:La:=[Wa 28 11,on 29 (.litB [(.c (.u8 0))]),Wy 30 1 28 29,om 31 2,Wy 32 1 30 31,om 33 3,WO 34 .mul 8 33,Wm 35 167 34,Wy 36 1 32 35,Wa 11 36]
def QP:La:=[Wa 37 9,om 38 0,Wa 39 11,Wv 40 168 38 39,Wy 41 1 37 40,Wa 9 41]
def QO:La:=[Wa 22 10,Wb 23 .add 22 1,Wa 10 23]
def wH:RC:=(.post (Sq (So QS (XS 21 [0,1,2,10,21] (.exit 0))) (Sq (Bk 1 (So QR (So QQ (.ops QP)))) (.ops QO))) [.gc [127,130,132,136],.gcr 26000 27000,.gcr 36000 37000,.tok 9 109])
def EO:RC:=wH
def EN:La:=[Wa 42 9,Wa 43 3,Xv 44 1 42 43,Wa 8 44]
def xui:RC:=(So nu (Sq (So QU (XT 17 [0,1,2,3,17] (So xH .ret))) (So xB (Sq (So QT (Bk 0 (.pre [.tok 9 109] (.loop EO)))) (So EN .ret)))))
def xjC:FnC:=⟨xui,45,[.tmp 8],[],[]⟩
def QN:La:=[W7 10]
def QM:La:=[Wa 12 2,Wa 11 12]
def QL:La:=[om 13 11,om 14 3,Wh 15 .lss 13 14]
def QK:La:=[om 18 0,Ww 19 18,om 20 1,Ww 21 20,om 22 11,Ww 23 22,oo 24 (.litB [.t 19,.t 21,.t 23]) [19,21,23],Wa 25 4,oo 26 (.lit 1 [.t 24,.t 25]) [24,25],W5 27 65 1 26,Xj 28 1 27 16,Wa 4 28]
def QJ:La:=[Wa 16 11,Wb 17 .add 16 1,Wa 11 17]
def DA:RC:=(Sq (So QL (XS 15 [0,1,3,11,15] (.exit 0))) (Sq (Bk 1 (.ops QK)) (.ops QJ)))
def Cu:RC:=DA
def QI:La:=[Wa 29 4,Wa 10 29]
def xuh:RC:=(So QN (Sq (So QM (Bk 0 (.loop Cu))) (So QI .ret)))
def xjB:FnC:=⟨xuh,30,[.tmp 10],[],[]⟩
def QD:La:=[Wa 7 0,Wa 8 1,Ww 9 8,Wa 10 2,Ww 11 10,oo 12 (.litB [.t 9,.t 11]) [9,11],oo 13 (Ca 148 [.t 7,(.c (.str [99,104,97,105,110])),.t 12,ci 16]) [7,12],Wa 6 13]
def xug:RC:=(So tH (So QD .ret))
def xjA:FnC:=⟨xug,14,[.tmp 6],[],[]⟩
def QC:La:=[Wa 5 0,Ww 6 5,WW 7 6,Wa 8 1,oo 9 (.lit 1 [.t 7,.t 8]) [7,8],W5 10 65 2 9,Xj 11 1 10 16,Wa 4 11]
def xuf:RC:=(So il (So QC .ret))
def xjz:FnC:=⟨xuf,12,[.tmp 4],[],[]⟩
def QB:La:=[Wf 3 0 1,Wc 4 3,Wb 5 .lss 4 1,Wa 6 5,.grp 6 false [(xi 7 6 false (Fa 0 1)),(xi 8 6 false (Ld 7)),(xi 9 6 false (Bc .gtr 8 4))] [7,8],Wi 10 6 9,Wa 11 10,.grp 11 false [(xi 12 11 false (Fa 2 1)),(xi 13 11 false (Ld 12)),(xi 14 11 false (Bc .lss 13 0))] [12,13],Wi 15 11 14,Wa 16 15,.grp 16 false [(xi 17 16 false (Fa 2 1)),(xi 18 16 false (Ld 17)),(xi 19 16 false (Bc .gtr 18 1000000))] [17,18],Wi 20 16 19]
def QA:La:=[Wf 21 1 1,Wc 22 21,Wm 23 106 22,WY 24 23]
def Qz:La:=[Wf 25 3 1,Wc 26 25,Wj 27 26,Wb 28 .gtr 27 64]
def Qy:La:=[Wf 29 0 1,Wc 30 29,Wb 31 .eql 30 4,Wa 32 31,.grp 32 true [(xi 33 32 true (Lt 4 1)),(xi 34 32 true (Ca 169 [.t 33])),(xi 35 32 true (Ln 34)),(xi 36 32 true (Bc .eql 35 0))] [1,33,34,35],Wx 37 32 36]
def Ct:La:=[Wn 2 40]
def xue:RC:=(So pr (Sq (So QB (XT 20 [1,20] (So gC .ret))) (Sq (So QA (XT 24 [1,24] (So tI .ret))) (Sq (So Qz (XT 28 [1,28] (So pq .ret))) (Sq (So Qy (XT 37 [37] (So Ct .ret))) (So kV .ret))))))
def xjy:FnC:=⟨xue,38,[.tmp 2],[],[]⟩
def Qx:La:=[om 3 0,Wb 4 .geq 3 0,Wa 5 4,.grp 5 true [(xi 6 5 true (Mv 0)),(xi 7 5 true (Bc .leq 6 3))] [0,6],Wx 8 5 7,Wa 2 8]
def xud:RC:=(So qb (So Qx .ret))
def xjx:FnC:=⟨xud,9,[.tmp 2],[],[]⟩
def Qw:La:=[WC 5 2,W7 6,WX 7 false]
def Qv:La:=[om 10 0,Wm 11 170 10,WY 12 11,Wa 13 12,.grp 13 false [(xi 14 13 false (Ld 5)),(xi 15 13 false (Ln 14)),(xi 16 13 false (Bc .neq 15 560))] [14,15],Wi 17 13 16]
def Cs:La:=[Xb 6,WP 7 false]
def Qu:La:=[Wa 18 1,Wm 19 171 18,on 8 (.new (.rc [.lst 1 [] .clip])),Wr 1 8 19]
def Qt:La:=[oo 20 (.mkfn 172 [] [.t 5]) [5],Wa 9 20]
def Qs:La:=[om 21 0,Wa 22 0,Wa 23 9,oo 24 (.mkfn 175 [] [.t 8]) [8],oo 25 (Ca 174 [.t 22,.t 23,.t 24,(.f 176)]) [22,23,24],Wv 26 173 21 25,Wa 6 26,WP 7 true]
def xuc:RC:=(So Qw (Sq (So Qv (XT 17 [0,1,5,17] (So Cs .ret))) (So Qu (So Qt (So Qs .ret)))))
def xjw:FnC:=⟨xuc,27,[.tmp 6,.tmp 7],[],[]⟩
def Qr:La:=[om 12 2,Wj 13 12,Wb 14 .gtr 13 3,Wa 15 14,.grp 15 false [(xi 16 15 false (Mv 1)),(xi 17 15 false (Bc .lss 16 0))] [16],Wi 18 15 17,Wa 19 18,.grp 19 false [(xi 20 19 false (Mv 1)),(xi 21 19 false (Mv 2)),(xi 22 19 false (Ln 21)),(xi 23 19 false (.toInt .u64 (.t 22))),(xi 24 19 false (.bin .shl (ci 1) (.t 23))),(xi 25 19 false (Bb .geq 20 24))] [20,21,22,23,24],Wi 26 19 25]
def Qq:La:=[Wa 27 0,XB 28 1 27,Wa 7 28]
def Qp:La:=[Wa 29 2,on 30 (Ln 29),Wn 31 0]
def Qo:La:=[on 32 (Bb .lss 31 30)]
def Qn:La:=[om 33 31,on 34 (Ia 1 29 31),Wc 35 34,Wa 8 33,Wa 9 35]
def P9:La:=[om 36 7,om 37 9,Wa 10 36,Wa 11 37]
def P8:La:=[om 38 1,Wb 39 .and 38 1,Wb 40 .eql 39 1]
def P7:La:=[Wa 41 9,Wa 42 7,Wa 10 41,Wa 11 42]
def EM:La:=[Wa 43 1,oo 44 (.bin .shr (.t 43) (.c (.int .u64 1))) [43],Wa 1 44]
def EL:La:=[Wa 45 8,om 46 1,Wa 47 10,Wa 48 11,Xy 49 177 45 46 47 48,Wa 7 49]
def EK:La:=[Wb 50 .add 31 1,Wa 31 50]
def wG:RC:=(So Qo (Sq (XS 32 [1,29,30,31,32] (.exit 0)) (Sq (Bk 1 (So Qn (So P9 (Sq (So P8 (Kc 40 (Kk [10,11,40] (.ops P7)) (Kk [7,9,40] .skip))) (So EM (.ops EL)))))) (.ops EK))))
def vG:RC:=wG
def EJ:La:=[Wa 51 7,Wa 6 51]
def xub:RC:=(So tH (Sq (So Qr (XT 26 [0,1,2,26] (So xD .ret))) (So Qq (Sq (So Qp (Bk 0 (.loop vG))) (So EJ .ret)))))
def xjv:FnC:=⟨xub,52,[.tmp 6],[],[]⟩
def P6:La:=[Wf 4 0 1,Wc 5 4,Wb 6 .lss 5 1,Wa 7 6,.grp 7 false [(xi 8 7 false (Fa 0 1)),(xi 9 7 false (Ld 8)),(xi 10 7 false (Bc .gtr 9 4))] [8,9],Wi 11 7 10,Wa 12 11,.grp 12 false [(xi 13 12 false (Fa 2 1)),(xi 14 12 false (Ld 13)),(xi 15 12 false (Bc .lss 14 0))] [13,14],Wi 16 12 15,Wa 17 16,.grp 17 false [(xi 18 17 false (Fa 2 1)),(xi 19 17 false (Ld 18)),(xi 20 17 false (Bc .gtr 19 1000000))] [18,19],Wi 21 17 20,Wa 3 21]
def P5:La:=[Wf 23 1 1,Wc 24 23,Wm 25 189 24,WY 26 25,Wa 22 26]
def P4:La:=[Wf 28 3 1,Wc 29 28,Wj 30 29,Wb 31 .gtr 30 64,Wa 27 31]
def P3:La:=[Wf 33 0 1,Wc 34 33,Wb 35 .eql 34 4,Wa 36 35,.grp 36 true [(xi 37 36 true (Lt 4 1)),(xi 38 36 true (Ca 190 [.t 37])),(xi 39 36 true (Ln 38)),(xi 40 36 true (Bc .eql 39 0))] [1,37,38,39],Wx 41 36 40,Wa 32 41]
def xua:RC:=(So pr (Sq (Bk 0 (So P6 (Kc 3 (Kk [1,3] (So gC .ret)) (Kk [3] (So P5 (Kc 22 (Kk [1,22] (So tI .ret)) (Kk [22] (So P4 (Kc 27 (Kk [1,27] (So pq .ret)) (Kk [27] (So P3 (XT 32 [32] (So Ct .ret))))))))))))) (So kV .ret)))
def xju:FnC:=⟨xua,42,[.tmp 2],[],[]⟩
def PZ:La:=[Wa 5 0,Wa 6 1,Wv 7 191 5 6,Wa 4 7]
def xt9:RC:=(So qf (So PZ .ret))
def xjt:FnC:=⟨xt9,8,[.tmp 4],[],[]⟩
def PP:La:=[om 3 0,Wa 4 0,Wh 5 .neq 3 4,Wa 2 5]
def xt8:RC:=(So qb (So PP .ret))
def xjs:FnC:=⟨xt8,6,[.tmp 2],[],[]⟩
def PO:La:=[om 15 0,Wj 16 15,Wb 17 .neq 16 17,Wa 18 17,.grp 18 false [(xi 19 18 false (Mv 0)),(xi 20 18 false (.iaddrL 1 (.t 19) (ci 0))),(xi 21 18 false (Ld 20)),(xi 22 18 false (.toInt .i64 (.t 21))),(xi 23 18 false (Bc .gtr 22 3))] [19,20,21,22],Wi 24 18 23]
def PN:La:=[om 25 0,Xz 26 1 25 0,Wc 27 26,Xe 28 27,Wa 8 28]
def PM:La:=[om 29 2,Wj 30 29,om 31 8,WO 32 .mul 16 31,WO 33 .add 561 32,Wh 34 .neq 30 33,Wa 35 34,.grp 35 false [(xi 36 35 false (Mv 2)),(xi 37 35 false (.iaddrL 1 (.t 36) (ci 0))),(xi 38 35 false (Ld 37)),(xi 39 35 false (.toInt .i64 (.t 38))),(xi 40 35 false (Mv 8)),(xi 41 35 false (.toInt .u64 (.t 40))),(xi 42 35 false (.bin .shl (ci 1) (.t 41))),(xi 43 35 false (Bb .geq 39 42))] [36,37,38,39,40,41,42],Wi 44 35 43]
def PL:La:=[om 45 2,Xz 46 1 45 0,Wc 47 46,Xe 48 47,Wa 9 48]
def PK:La:=[Wn 10 561]
def PJ:La:=[om 50 9,Wa 51 1,om 52 2,om 53 10,oo 54 (.slcL 1 (.t 52) (some (ci 1)) (some (.t 53)) none) [52,53],Xn 55 194 50 51 54,Wa 49 55,WH 56 49 0,WF 57 49 1,Wa 11 56,.op (xm 12 57) [12,57]]
def PI:La:=[Xi 13]
def EI:La:=[Wn 14 0]
def EH:La:=[om 58 14,om 59 8,Wh 60 .lss 58 59]
def EG:La:=[Wa 63 13,om 64 2,om 65 10,om 66 10,Wb 67 .add 66 16,XG 68 1 64 65 67,WM 69 1 68,XA 70 24 63 69,Wa 13 70]
def EF:La:=[Wa 71 10,Wb 72 .add 71 16,Wa 10 72]
def EE:La:=[Wa 61 14,Wb 62 .add 61 1,Wa 14 62]
def wE:RC:=(.post (Sq (So EH (XS 60 [2,8,10,14,60] (.exit 0))) (Sq (Bk 1 (So EG (.ops EF))) (.ops EE))) [.tok 13 113])
def vF:RC:=wE
def ED:Lb:=[Fm 0 73 11,Fm 1 74 9,Fm 2 75 13,Fm 4 77 0,Fs 5 78 (.slcL 1 (.t 77) (some (ci 1)) none none),Xo 3 76 195 73 74 75,WJ 6 79 31 76 78,Fs 7 80 (.un .not (.t 79))]
def EC:La:=[Wa 81 9,Wa 6 81,WP 7 true]
def xt7:RC:=(So ID (Sq (So PO (XT 24 [0,1,2,24] (So mj .ret))) (So PN (Sq (So PM (XT 44 [0,1,2,8,44] (So mj .ret))) (So PL (So PK (So PJ (So PI (Sq (So EI (Bk 0 (.pre [.tok 13 113] (.loop vF)))) (Sq (Sq (.flt [0,0,0,7,0,16,63,127] [] ED [0,11,13,73,74,75,76,77,78,79]) (XT 80 [9,80] (So mj .ret))) (So EC .ret)))))))))))
def xjr:FnC:=⟨xt7,82,[.tmp 6,.tmp 7],[],[]⟩
def xt6:RC:=(So s7 (Sq (.flt [0,0,2,7,15,31,63,0,0,256,768,1920,3968,8064,16256,32767,0,0,131072,393216,983040,2031616,4128768,8323072,16777215,0,0,67108864,201326592,503316480,1040187392,2113929216,4294967295,8589934591] [] CF [0,1,5,6,7,8,9,10,11,12,13,14,15,16,17,18,19,20,21,22,23,24,25,26,27,28,29,30,31,32,33,34,35,36,37]) .ret))
def xjq:FnC:=⟨xt6,38,[.tmp 4],[],[]⟩
def PH:La:=[Wa 6 1,WZ 7 6,oo 8 (.bin .and (.t 7) (.c (.int .u64 31))) [7],Wa 5 8]
def PG:La:=[om 9 0,om 10 5,Wh 11 .shl 9 10,Wa 12 0,Wa 13 5,oo 14 (.bin .sub (.c (.int .u64 32)) (.t 13)) [13],Wh 15 .shr 12 14,Wh 16 .or 11 15,Wa 4 16]
def xt5:RC:=(So s7 (So PH (So PG .ret)))
def xjp:FnC:=⟨xt5,17,[.tmp 4],[],[]⟩
def Co:La:=[XD 2]
def PF:La:=[Wa 7 0,WM 8 1 7,W5 9 65 4 8,Xj 10 1 9 16,Wa 3 10]
def PE:La:=[om 11 6,Wb 12 .lss 11 16]
def PD:Lb:=[Fm 0 15 4,Fm 1 16 3,Fm 2 17 6,Wt 3 18 1 16 17,We 4 19 18,Fs 5 20 (.bin .shr (.t 19) (.c (.int .u64 4))),Xa 6 21 20,Fm 7 22 3,Fm 8 23 6,Wt 9 24 1 22 23,We 10 25 24,Fs 11 26 (.bin .and (.t 25) (.c (.u8 15))),Xa 12 27 26,Fs 13 28 (.lit 1 [.t 21,.t 27]),Xs 14 29 8 15 28,⟨15,false,(xm 4 29)⟩]
def PC:Lb:=[Fm 0 30 5,Fm 1 31 3,Fm 2 32 6,Wt 3 33 1 31 32,We 4 34 33,Fs 5 35 (.bin .shr (.t 34) (.c (.int .u64 4))),Xa 6 36 35,WQ 7 37 .sub 30 36,Fm 8 38 3,Fm 9 39 6,Wt 10 40 1 38 39,We 11 41 40,Fs 12 42 (.bin .and (.t 41) (.c (.u8 15))),Xa 13 43 42,Wk 14 44 .sub 37 43,Wk 15 45 .add 30 44,⟨16,false,(xm 5 45)⟩]
def Dv:RC:=(.post (Sq (So PE (XS 12 [3,6,12] (.exit 0))) (Sq (Bk 1 (Sq (.flt [0,0,0,6,14,30,62,0,0,384,896,1920,3968,8190,16383,32767] [129] PD [15,16,17,18,19,20,21,22,23,24,25,26,27,28,29]) (.flt [0,0,0,6,14,30,62,126,0,0,768,1792,3840,7936,16382,32767,65535] [] PC [30,31,32,33,34,35,36,37,38,39,40,41,42,43,44,45]))) (.ops CH))) [.tok 4 104])
def Cn:RC:=Dv
def EB:La:=[Wa 46 4,om 47 5,Wb 48 .quo 47 256,om 49 5,Wb 50 .quo 49 16,Wb 51 .rem 50 16,Wa 52 5,Wb 53 .rem 52 16,XN 54 1 48 51 53,Xx 55 8 46 54,Wa 2 55]
def xt4:RC:=(So Co (So PF (So Cv (So pt (Sq (So kq (Bk 0 (.pre [.tok 4 104] (.loop Cn)))) (So EB .ret))))))
def xjo:FnC:=⟨xt4,56,[.tmp 2],[],[]⟩
def PB:La:=[om 3 0,XI 4 .shr 3,Ww 5 4,om 6 0,XJ 7 .shr 6,Ww 8 7,om 9 0,Xk 10 .shr 9,Ww 11 10,Wa 12 0,Ww 13 12,XK 14 5 8 11 13,Wa 2 14]
def xt3:RC:=(So kW (So PB .ret))
def xjn:FnC:=⟨xt3,15,[.tmp 2],[0],[]⟩
def PA:La:=[om 9 0,Wj 10 9,Wb 11 .gtr 10 64]
def Pz:La:=[Wa 12 0,Wm 13 68 12,Wa 0 13]
def Py:Lb:=[Fz 0 14 (.mkB (ci 64) (ci 64)),Fm 2 5 14,Fz 1 15 (.mkB (ci 64) (ci 64)),Fm 3 6 15]
def Px:La:=[om 16 7,Wb 17 .lss 16 64]
def Pw:La:=[on 8 (.mov (.c (.u8 0)))]
def Pv:La:=[om 20 7,om 21 0,Wj 22 21,Wh 23 .lss 20 22]
def Pu:La:=[om 24 0,om 25 7,WI 26 1 24 25,Wc 27 26,Wa 8 27]
def Ps:La:=[om 28 5,om 29 7,om 30 6,om 31 7,om 32 8,oo 33 (.bin .xor (.t 32) (.c (.u8 54))) [32],Wa 34 8,oo 35 (.bin .xor (.t 34) (.c (.u8 92))) [34],WI 36 1 28 29,Ws 1 36 33,WI 37 1 30 31,Ws 1 37 35]
def EA:La:=[Wa 18 7,Wb 19 .add 18 1,Wa 7 19]
def wD:RC:=(Sq (So Px (XS 17 [0,7,17] (.exit 0))) (Sq (Bk 1 (So Pw (Sq (So Pv (XT 23 [8,23] (.ops Pu))) (.ops Ps)))) (.ops EA)))
def vE:RC:=wD
def Ez:La:=[Wa 38 6,Wa 39 5,Wa 40 1,.dir (.tok 39 139),Wy 41 1 39 40,Wm 42 68 41,.dir (.tok 38 138),Wy 43 1 38 42,Wm 44 68 43,Wa 4 44]
def xt2:RC:=(So il (Sq (So PA (XT 11 [11] (.ops Pz))) (Sq (.fla [0,0,1,7] [114,115] Py [[0,2,1,3],[1,0,2,3]] [14,15]) (Sq (So tL (Bk 0 (.loop vE))) (So Ez .ret)))))
def xjm:FnC:=⟨xt2,45,[.tmp 4],[],[]⟩
def Pq:La:=[WC 1 0,XD 2]
def Cm:La:=[Xi 3]
def Pp:La:=[om 7 5,Wf 8 3 1,Wc 9 8,Wj 10 9,Wh 11 .lss 7 10]
def Po:La:=[Wf 14 3 1,Wc 15 14,om 16 5,WI 17 1 15 16,Wc 18 17,Wa 6 18]
def Pn:La:=[om 19 6,oo 20 (.bin .eql (.t 19) (.c (.u8 10))) [19]]
def Pm:La:=[om 21 4,Wj 22 21,Wb 23 .eql 22 0,Wa 24 23,.grp 24 false [(xi 25 24 false (Mv 3)),(xi 26 24 false (Ln 25)),(xi 27 24 false (Bc .geq 26 4))] [25,26],Wi 28 24 27]
def xA:La:=[Xi 2]
def Pl:La:=[Wa 29 3,Wa 30 4,WM 31 1 30,XA 32 24 29 31,Wa 3 32]
def Ey:La:=[om 33 6,oo 34 (.bin .lss (.t 33) (.c (.u8 32))) [33],Wa 35 34,.grp 35 false [(xi 36 35 false (Mv 6)),(xi 37 35 false (.bin .gtr (.t 36) (.c (.u8 126))))] [36],Wi 38 35 37]
def Ew:La:=[Wa 39 4,Wa 40 6,WW 41 40,Wy 42 1 39 41,Wa 4 42]
def Eu:La:=[Wa 12 5,Wb 13 .add 12 1,Wa 5 13]
def wC:RC:=(.post (Sq (So Pp (XS 11 [1,5,11] (.exit 0))) (Sq (Bk 1 (So Po (Sq (So Pn (XT 20 [6,20] (Sq (So Pm (XT 28 [1,3,4,5,28] (So xA .ret))) (So Pl (So iY (.exit 1)))))) (Sq (So Ey (XT 38 [1,3,4,5,6,38] (So xA .ret))) (.ops Ew))))) (.ops Eu))) [.tok 3 103,.tok 4 104])
def vC:RC:=wC
def Et:La:=[Wa 43 4,Wj 44 43,Wb 45 .gtr 44 0]
def Es:La:=[Wa 46 3,Wa 2 46]
def xt1:RC:=(So Pq (So Cm (So iY (Sq (So pt (Bk 0 (.pre [.tok 3 103,.tok 4 104] (.loop vC)))) (Sq (So Et (XT 45 [3,45] (So xA .ret))) (So Es .ret))))))
def xjl:FnC:=⟨xt1,47,[.tmp 2],[],[]⟩
def Pk:La:=[om 3 0,Wb 4 .geq 3 0,Wa 5 4,.grp 5 true [(xi 6 5 true (Mv 0)),(xi 7 5 true (Bc .leq 6 255))] [0,6],Wx 8 5 7,Wa 2 8]
def xt0:RC:=(So qb (So Pk .ret))
def xjk:FnC:=⟨xt0,9,[.tmp 2],[],[]⟩
def Pj:La:=[Wa 9 0,WM 10 1 9,W5 11 60 4 10,Xj 12 1 11 16,on 13 (Ln 12),Wn 14 0]
def Pi:La:=[on 16 (Ia 1 12 14),Wc 17 16,Wa 6 17]
def Ph:La:=[om 18 6,oo 19 (.bin .shr (.t 18) (.c (.int .u64 4))) [18],Xe 20 19,Wa 21 6,oo 22 (.bin .and (.t 21) (.c (.u8 15))) [21],Xe 23 22,oo 24 (.build [.int .i64 0,.int .i64 0] [(0,1,(.t 20)),(1,1,(.t 23))]) [20,23],Wn 25 0]
def Pg:La:=[on 26 (Bc .lss 25 2)]
def Pe:La:=[on 27 (.idxA 2 1 false (.t 24) (.t 25)),Wa 8 27]
def Pd:La:=[Wa 28 3,om 29 8,WM 30 1 29,Xx 31 8 28 30,Wa 3 31]
def Er:La:=[Wa 32 4,Wa 33 8,WO 34 .sub 15 33,Wh 35 .add 32 34,Wa 4 35]
def Ep:La:=[Wb 36 .add 25 1,Wa 25 36]
def wB:RC:=(.post (So Pg (Sq (XS 26 [24,25,26] (.exit 2)) (Sq (Bk 3 (So Pe (So Pd (.ops Er)))) (.ops Ep)))) [.tok 3 103])
def Eo:RC:=wB
def En:La:=[Wb 37 .add 14 1,Wa 14 37]
def wA:RC:=(.post (So CQ (Sq (XS 15 [12,13,14,15] (.exit 0)) (Sq (Bk 1 (So Pi (So Ph (Bk 2 (.pre [.tok 3 103] (.loop Eo)))))) (.ops En)))) [.tok 3 103])
def vB:RC:=wA
def Em:La:=[Wa 38 3,om 39 4,Xk 40 .shr 39,om 41 4,oo 42 (.bin .shr (.t 41) (.c (.int .u64 4))) [41],Wb 43 .and 42 15,Wa 44 4,Wb 45 .and 44 15,XN 46 1 40 43 45,Xx 47 8 38 46,Wa 2 47]
def xtZ:RC:=(So Co (So Cm (So iZ (Sq (So Pj (Bk 0 (.pre [.tok 3 103] (.loop vB)))) (So Em .ret)))))
def xjj:FnC:=⟨xtZ,48,[.tmp 2],[],[]⟩
def Pc:La:=[W7 3]
def Pb:La:=[Wc 4 1,om 5 0,Wb 6 .mul 5 16,Wa 7 0,Wb 8 .add 7 1,Wb 9 .mul 8 16,XG 10 1 4 6 9,Wa 3 10]
def xtY:RC:=(So Pc (So Pb .ret))
def xji:FnC:=⟨xtY,11,[.tmp 3],[],[]⟩
def Pa:La:=[Wa 5 0,Ww 6 5,WW 7 6,Wa 8 1,oo 9 (.lit 1 [.t 7,.t 8]) [7,8],W5 10 60 2 9,XL 11 1 10 16 16,Wa 4 11]
def xtX:RC:=(So il (So Pa .ret))
def xjh:FnC:=⟨xtX,12,[.tmp 4],[],[]⟩
def O9:La:=[Wn 13 0]
def O8:La:=[on 14 (Bc .lss 13 35)]
def O7:La:=[om 15 13,Wa 10 15]
def O6:La:=[om 16 1,om 17 10,XM 18 16 17,Wa 11 18]
def O5:La:=[om 19 2,om 20 10,XM 21 19 20,Wa 12 21]
def O4:La:=[om 22 12,om 23 3,om 24 10,XM 25 23 24,Wh 26 .lss 22 25]
def O3:La:=[om 29 0,om 30 10,om 31 12,Wa 32 11,Xy 33 196 29 30 31 32,Wa 11 33]
def O0:La:=[Wa 27 12,Wb 28 .add 27 1,Wa 12 28]
def wz:RC:=(Sq (So O4 (XS 26 [10,12,26] (.exit 2))) (Sq (Bk 3 (.ops O3)) (.ops O0)))
def vz:RC:=wz
def El:La:=[Wa 34 9,Wa 35 11,Wy 36 1 34 35,Wa 9 36]
def Ek:La:=[Wb 37 .add 13 1,Wa 13 37]
def wy:RC:=(.post (So O8 (Sq (XS 14 [0,1,2,3,13,14] (.exit 0)) (Sq (Bk 1 (So O7 (So O6 (Sq (So O5 (Bk 2 (.loop vz))) (.ops El))))) (.ops Ek)))) [.tok 9 109])
def qh:RC:=wy
def Ej:La:=[Wa 38 9,Wa 8 38]
def xtW:RC:=(So nu (So xB (Sq (So O9 (Bk 0 (.pre [.tok 9 109] (.loop qh)))) (So Ej .ret))))
def xjg:FnC:=⟨xtW,39,[.tmp 8],[],[]⟩
def OZ:La:=[WV 3 0]
def OY:La:=[Wc 4 1,Wa 5 0,WI 6 1 4 5,Wc 7 6,Wa 3 7]
def xtV:RC:=(So OZ (So OY .ret))
def xjf:FnC:=⟨xtV,8,[.tmp 3],[],[]⟩
def OX:La:=[Wn 2 15]
def xtU:RC:=(Kk [0] (So p9 (So OX .ret)))
def xje:FnC:=⟨xtU,3,[.tmp 2],[],[]⟩
def OW:La:=[Wa 9 0,Ww 10 9,Wa 11 1,Ww 12 11,oo 13 (.litB [.t 10,.t 12]) [10,12],Wa 14 2,Wa 15 3,XN 16 1 13 14 15,W5 17 60 3 16,XL 18 1 17 16 16,Wa 8 18]
def xtT:RC:=(So nu (So OW .ret))
def xjd:FnC:=⟨xtT,19,[.tmp 8],[],[]⟩
def OV:La:=[W7 6,WX 7 false]
def OU:La:=[om 11 0,Wb 12 .lss 11 0,Wa 13 12,.grp 13 false [(xi 14 13 false (Mv 0)),(xi 15 13 false (Bc .gtr 14 255))] [14],Wi 16 13 15,Wa 17 16,.grp 17 false [(xi 18 17 false (Mv 2)),(xi 19 17 false (Ln 18)),(xi 20 17 false (Bc .neq 19 560))] [18,19],Wi 21 17 20]
def OT:La:=[Wa 22 1,Wm 23 166 22,Wa 8 23]
def OS:La:=[Wn 10 0]
def OR:La:=[om 24 10,Wb 25 .lss 24 35]
def OQ:Lb:=[Fm 0 28 9,Fm 1 29 0,Fm 2 30 10,Fm 3 31 8,Fm 4 32 10,Wt 5 33 1 31 32,We 6 34 33,Fm 7 35 2,Fm 8 36 10,WQ 9 37 .mul 16 36,Fm 10 38 10,WQ 11 39 .mul 16 38,WE 12 40 .add 39 16,Fs 13 41 (.slcL 1 (.t 35) (some (.t 37)) (some (.t 40)) none),Fz 14 42 (Ca 149 [.t 29,.t 30,.t 34,ci 15,.t 41]),W8 15 43 1 28 42,⟨16,false,(xm 9 43)⟩]
def OP:La:=[Wa 26 10,Wb 27 .add 26 1,Wa 10 27]
def Du:RC:=(.post (Sq (So OR (XS 25 [2,8,10,25] (.exit 0))) (Sq (Bk 1 (.flt [0,0,0,0,0,24,56,0,0,256,0,1024,3072,8064,16382,32767,65535] [143] OQ [28,29,30,31,32,33,34,35,36,37,38,39,40,41,42,43])) (.ops OP))) [.tok 9 109])
def xz:RC:=Du
def Ei:La:=[Wa 44 0,Wa 45 9,Wv 46 151 44 45,Wa 6 46,WP 7 true]
def xtS:RC:=(So OV (Sq (So OU (XT 21 [0,1,2,21] (So Cs .ret))) (So OT (So xB (Sq (So OS (Bk 0 (.pre [.tok 9 109] (.loop xz)))) (So Ei .ret))))))
def xjc:FnC:=⟨xtS,47,[.tmp 6,.tmp 7],[],[]⟩
def OO:La:=[om 9 2,Wj 10 9,Wb 11 .gtr 10 3,Wa 12 11,.grp 12 false [(xi 13 12 false (Mv 1)),(xi 14 12 false (Bc .lss 13 0))] [13],Wi 15 12 14,Wa 16 15,.grp 16 false [(xi 17 16 false (Mv 1)),(xi 18 16 false (Mv 2)),(xi 19 16 false (Ln 18)),(xi 20 16 false (.toInt .u64 (.t 19))),(xi 21 16 false (.bin .shl (ci 1) (.t 20))),(xi 22 16 false (Bb .geq 17 21))] [17,18,19,20,21],Wi 23 16 22]
def ON:La:=[Wa 24 0,Wm 25 112 24,Wa 7 25]
def OM:La:=[om 26 8,om 27 2,Wj 28 27,Wh 29 .lss 26 28]
def OL:La:=[om 32 1,Wb 33 .rem 32 2,Wb 34 .eql 33 0]
def OJ:La:=[om 35 8,om 36 1,Wb 37 .quo 36 2,Wa 38 7,om 39 2,om 40 8,WI 41 1 39 40,Wc 42 41,Xy 43 147 35 37 38 42,Wa 7 43]
def OI:La:=[om 44 8,om 45 1,Wb 46 .quo 45 2,om 47 2,om 48 8,WI 49 1 47 48,Wc 50 49,Wa 51 7,Xy 52 147 44 46 50 51,Wa 7 52]
def OH:La:=[Wa 53 1,Wb 54 .quo 53 2,Wa 1 54]
def ww:RC:=(Sq (So OM (XS 29 [1,2,8,29] (.exit 0))) (Sq (Bk 1 (Sq (So OL (Kc 34 (Kk [34] (.ops OJ)) (Kk [34] (.ops OI)))) (.ops OH))) (.ops Ce)))
def vy:RC:=ww
def Eh:La:=[Wa 55 7,Wa 6 55]
def xtR:RC:=(So tH (Sq (So OO (XT 23 [0,1,2,23] (So xD .ret))) (So ON (Sq (So qd (Bk 0 (.loop vy))) (So Eh .ret)))))
def xjb:FnC:=⟨xtR,56,[.tmp 6],[],[]⟩
def OG:La:=[Wa 9 0,Ww 10 9,Wa 11 1,Ww 12 11,Wa 13 2,Ww 14 13,oo 15 (.litB [.t 10,.t 12,.t 14]) [10,12,14],Wa 16 3,oo 17 (.lit 1 [.t 15,.t 16]) [15,16],W5 18 60 1 17,XL 19 1 18 16 16,Wa 8 19]
def xtQ:RC:=(So nu (So OG .ret))
def xja:FnC:=⟨xtQ,20,[.tmp 8],[],[]⟩
theorem Fk{g:Nat}{F:FnC}{fn:Func}(h1:prog.funcs[g]? =some fn)(h3:fn.ntmps=F.n:=by kernel_rfl)(h2:fn.body.map (cU prog)=some F.code.er:=by kernel_rfl)(h4:(sM prog fn.results.toList F.rs&&eu prog g&&F.code.ok F.n)=true:=by kernel_rfl):bX prog g F:=by simp only[aD]at h4;exact xag h1 h2 h3 h4.1.1 h4.1.2 h4.2
noncomputable def xtu:Nat->Option FnB
 |4=>some (.code F4)
 |7=>some (.code F7)
 |9=>some (.code F9)
 |10=>some (.code F10)
 |11=>some (.code F11)
 |12=>some (.code F12)
 |13=>some (.code F13)
 |14=>some (.code F14)
 |15=>some (.code F15)
 |16=>some (.code F16)
 |17=>some (.code F17)
 |18=>some (.code F18)
 |19=>some (.code F19)
 |20=>some (.code F20)
 |21=>some (.code F21)
 |24=>some (.code F24)
 |25=>some (.code F25)
 |27=>some (.code F27)
 |28=>some (.code F28)
 |30=>some (.code F30)
 |31=>some (.code F31)
 |32=>some (.code F32)
 |33=>some (.code F33)
 |34=>some (.code F34)
 |35=>some (.code F35)
 |36=>some (.code F36)
 |37=>some (.code F37)
 |38=>some (.code F38)
 |39=>some (.code F39)
 |40=>some (.code F40)
 |41=>some (.code F41)
 |42=>some (.code F42)
 |43=>some (.code F43)
 |44=>some (.code F44)
 |45=>some (.code F45)
 |46=>some (.code F46)
 |47=>some (.code F47)
 |48=>some (.code F48)
 |49=>some (.code F49)
 |50=>some (.code F50)
 |51=>some (.code F51)
 |52=>some (.code F52)
 |53=>some (.code F53)
 |54=>some (.code F54)
 |55=>some (.code F55)
 |56=>some (.code F56)
 |57=>some (.code F57)
 |59=>some (.code F59)
 |60=>some (.code F60)
 |61=>some (.code F61)
 |62=>some (.code F62)
 |63=>some (.code F63)
 |64=>some (.code F64)
 |65=>some (.code F65)
 |66=>some (.code F66)
 |67=>some (.code F67)
 |68=>some (.code F68)
 |69=>some (.code F69)
 |70=>some (.code F70)
 |71=>some (.code F71)
 |72=>some (.code F72)
 |74=>some (.code F74)
 |75=>some (.code F75)
 |76=>some (.code F76)
 |77=>some (.code F77)
 |78=>some (.code F78)
 |79=>some (.code F79)
 |80=>some (.code F80)
 |81=>some (.code F81)
 |82=>some (.code F82)
 |84=>some (.code F84)
 |85=>some (.code F85)
 |88=>some (.code F88)
 |89=>some (.code F89)
 |92=>some (.code F92)
 |93=>some (.code F93)
 |94=>some (.code F94)
 |95=>some (.code F95)
 |96=>some (.code F96)
 |97=>some (.code F97)
 |98=>some (.code F98)
 |99=>some (.code F99)
 |100=>some (.code xkh)
 |101=>some (.code xkg)
 |102=>some (.code xkf)
 |103=>some (.code xke)
 |104=>some (.code xkd)
 |105=>some (.code xkc)
 |106=>some (.code xkb)
 |107=>some (.code xka)
 |108=>some (.code xj9)
 |109=>some (.code xj8)
 |110=>some (.code xj7)
 |111=>some (.code xj6)
 |112=>some (.code xj5)
 |113=>some (.code xj4)
 |114=>some (.code xj3)
 |115=>some (.code xj2)
 |116=>some (.code xj1)
 |117=>some (.code xj0)
 |118=>some (.code xjZ)
 |119=>some (.code xjY)
 |120=>some (.code xjX)
 |121=>some (.code xjW)
 |122=>some (.code xjV)
 |124=>some (.code xjU)
 |125=>some (.code xjT)
 |126=>some (.code xjS)
 |127=>some (.code xjR)
 |128=>some (.code xjQ)
 |129=>some (.code xjP)
 |133=>some (.code xjO)
 |134=>some (.code xjN)
 |137=>some (.code xjM)
 |138=>some (.code xjL)
 |139=>some (.code xjK)
 |140=>some (.code xjJ)
 |141=>some (.code xjI)
 |143=>some (.code xjH)
 |144=>some (.code xjG)
 |145=>some (.code xjF)
 |146=>some (.code xjE)
 |147=>some (.code xjD)
 |148=>some (.code xjC)
 |149=>some (.code xjB)
 |150=>some (.code xjA)
 |151=>some (.code xjz)
 |152=>some (.code xjy)
 |153=>some (.code xjx)
 |154=>some (.code xjw)
 |155=>some (.code xjv)
 |158=>some (.code xju)
 |159=>some (.code xjt)
 |161=>some (.code xjs)
 |163=>some (.code xjr)
 |164=>some (.code xjq)
 |165=>some (.code xjp)
 |166=>some (.code xjo)
 |167=>some (.code xjn)
 |168=>some (.code xjm)
 |169=>some (.code xjl)
 |170=>some (.code xjk)
 |171=>some (.code xjj)
 |172=>some (.code xji)
 |173=>some (.code xjh)
 |174=>some (.code xjg)
 |175=>some (.code xjf)
 |176=>some (.code xje)
 |177=>some (.code xjd)
 |194=>some (.code xjc)
 |195=>some (.code xjb)
 |196=>some (.code xja)
 |83=>some (.prim Pr.p83)
 |189=>some (.prim Pr.p189)
 |191=>some (.prim Pr.p191)
 |202=>some (.prim Pr.p202)
 |86=>some (.prim Pr.p86)
 |87=>some (.prim Pr.p87)
 |90=>some (.prim Pr.p90)
 |91=>some (.prim Pr.p91)
 |_=>none
def xvT:Nat->Sig
 |81=>⟨[],[0]⟩
 |88=>⟨[],[0]⟩
 |86=>⟨[0],[0]⟩
 |90=>⟨[0],[0]⟩
 |_=> {}
noncomputable def T:iO:=⟨xtu,xvT⟩
abbrev tf(k:Nat)(F:FnC):Prop:=T.fn k=some (.code F)
theorem T_4:tf 4 F4:=rfl
theorem T_7:tf 7 F7:=rfl
theorem T_9:tf 9 F9:=rfl
theorem xou:tf 10 F10:=rfl
theorem xvA:tf 11 F11:=rfl
theorem xvz:tf 12 F12:=rfl
theorem xzd:tf 13 F13:=rfl
theorem xzc:tf 14 F14:=rfl
theorem xzb:tf 15 F15:=rfl
theorem xza:tf 16 F16:=rfl
theorem xy9:tf 17 F17:=rfl
theorem xy8:tf 18 F18:=rfl
theorem xy7:tf 19 F19:=rfl
theorem Jn:tf 20 F20:=rfl
theorem xy6:tf 21 F21:=rfl
theorem xy5:tf 24 F24:=rfl
theorem xy4:tf 25 F25:=rfl
theorem xy3:tf 27 F27:=rfl
theorem xy2:tf 28 F28:=rfl
theorem xy1:tf 30 F30:=rfl
theorem xy0:tf 31 F31:=rfl
theorem xyZ:tf 32 F32:=rfl
theorem xyY:tf 33 F33:=rfl
theorem xvy:tf 34 F34:=rfl
theorem xyX:tf 35 F35:=rfl
theorem xyW:tf 36 F36:=rfl
theorem xyV:tf 37 F37:=rfl
theorem xyU:tf 38 F38:=rfl
theorem xyT:tf 39 F39:=rfl
theorem xyS:tf 40 F40:=rfl
theorem xvx:tf 41 F41:=rfl
theorem xyR:tf 42 F42:=rfl
theorem xyQ:tf 43 F43:=rfl
theorem xim:tf 44 F44:=rfl
theorem xvw:tf 45 F45:=rfl
theorem xyP:tf 46 F46:=rfl
theorem xyO:tf 47 F47:=rfl
theorem xil:tf 48 F48:=rfl
theorem xvv:tf 49 F49:=rfl
theorem xik:tf 50 F50:=rfl
theorem UP:tf 51 F51:=rfl
theorem xyN:tf 52 F52:=rfl
theorem xvu:tf 53 F53:=rfl
theorem xvt:tf 54 F54:=rfl
theorem xyM:tf 55 F55:=rfl
theorem xyL:tf 56 F56:=rfl
theorem xyK:tf 57 F57:=rfl
theorem xvs:tf 59 F59:=rfl
theorem xvr:tf 60 F60:=rfl
theorem xyJ:tf 61 F61:=rfl
theorem xyI:tf 62 F62:=rfl
theorem xyH:tf 63 F63:=rfl
theorem xyG:tf 64 F64:=rfl
theorem xvq:tf 65 F65:=rfl
theorem xyF:tf 66 F66:=rfl
theorem xvp:tf 67 F67:=rfl
theorem xyE:tf 68 F68:=rfl
theorem xyD:tf 69 F69:=rfl
theorem xij:tf 70 F70:=rfl
theorem xyC:tf 71 F71:=rfl
theorem xyB:tf 72 F72:=rfl
theorem xyA:tf 74 F74:=rfl
theorem xyz:tf 75 F75:=rfl
theorem xyy:tf 76 F76:=rfl
theorem xyx:tf 77 F77:=rfl
theorem xyw:tf 78 F78:=rfl
theorem xyv:tf 79 F79:=rfl
theorem xyu:tf 80 F80:=rfl
theorem xyt:tf 81 F81:=rfl
theorem xys:tf 82 F82:=rfl
theorem xyq:tf 84 F84:=rfl
theorem xyp:tf 85 F85:=rfl
theorem xyn:tf 88 F88:=rfl
theorem xym:tf 89 F89:=rfl
theorem xyk:tf 92 F92:=rfl
theorem xyj:tf 93 F93:=rfl
theorem xyi:tf 94 F94:=rfl
theorem xyh:tf 95 F95:=rfl
theorem xyg:tf 96 F96:=rfl
theorem xyf:tf 97 F97:=rfl
theorem xye:tf 98 F98:=rfl
theorem xyd:tf 99 F99:=rfl
theorem xs5:tf 100 xkh:=rfl
theorem xs4:tf 101 xkg:=rfl
theorem xs3:tf 102 xkf:=rfl
theorem xs2:tf 103 xke:=rfl
theorem xir:tf 104 xkd:=rfl
theorem I1:tf 105 xkc:=rfl
theorem xs1:tf 106 xkb:=rfl
theorem xs0:tf 107 xka:=rfl
theorem xsZ:tf 108 xj9:=rfl
theorem xiq:tf 109 xj8:=rfl
theorem xip:tf 110 xj7:=rfl
theorem xsY:tf 111 xj6:=rfl
theorem xsX:tf 112 xj5:=rfl
theorem xsW:tf 113 xj4:=rfl
theorem xsV:tf 114 xj3:=rfl
theorem xsU:tf 115 xj2:=rfl
theorem xsT:tf 116 xj1:=rfl
theorem xsS:tf 117 xj0:=rfl
theorem xsR:tf 118 xjZ:=rfl
theorem xsQ:tf 119 xjY:=rfl
theorem xsP:tf 120 xjX:=rfl
theorem xsO:tf 121 xjW:=rfl
theorem BB:tf 122 xjV:=rfl
theorem xsN:tf 124 xjU:=rfl
theorem xsM:tf 125 xjT:=rfl
theorem xsL:tf 126 xjS:=rfl
theorem xsK:tf 127 xjR:=rfl
theorem xsJ:tf 128 xjQ:=rfl
theorem xsI:tf 129 xjP:=rfl
theorem xio:tf 133 xjO:=rfl
theorem xsH:tf 134 xjN:=rfl
theorem xsG:tf 137 xjM:=rfl
theorem xsF:tf 138 xjL:=rfl
theorem xsE:tf 139 xjK:=rfl
theorem xsD:tf 140 xjJ:=rfl
theorem xsC:tf 141 xjI:=rfl
theorem xsB:tf 143 xjH:=rfl
theorem xsA:tf 144 xjG:=rfl
theorem xsz:tf 145 xjF:=rfl
theorem X6:tf 146 xjE:=rfl
theorem xsy:tf 147 xjD:=rfl
theorem xsx:tf 148 xjC:=rfl
theorem xsw:tf 149 xjB:=rfl
theorem xsv:tf 150 xjA:=rfl
theorem xsu:tf 151 xjz:=rfl
theorem xst:tf 152 xjy:=rfl
theorem xin:tf 153 xjx:=rfl
theorem xss:tf 154 xjw:=rfl
theorem xsr:tf 155 xjv:=rfl
theorem xsq:tf 158 xju:=rfl
theorem xsp:tf 159 xjt:=rfl
theorem xso:tf 161 xjs:=rfl
theorem BA:tf 163 xjr:=rfl
theorem xsn:tf 164 xjq:=rfl
theorem xsm:tf 165 xjp:=rfl
theorem xsl:tf 166 xjo:=rfl
theorem xsk:tf 167 xjn:=rfl
theorem xsj:tf 168 xjm:=rfl
theorem xsi:tf 169 xjl:=rfl
theorem xsh:tf 170 xjk:=rfl
theorem xsg:tf 171 xjj:=rfl
theorem xsf:tf 172 xji:=rfl
theorem xse:tf 173 xjh:=rfl
theorem xsd:tf 174 xjg:=rfl
theorem xsc:tf 175 xjf:=rfl
theorem xsb:tf 176 xje:=rfl
theorem xsa:tf 177 xjd:=rfl
theorem xr7:tf 194 xjc:=rfl
theorem xr6:tf 195 xjb:=rfl
theorem xr5:tf 196 xja:=rfl
theorem xyr:T.fn 83=some (.prim Pr.p83):=rfl
theorem xr9:T.fn 189=some (.prim Pr.p189):=rfl
theorem xr8:T.fn 191=some (.prim Pr.p191):=rfl
theorem xzn:T.fn 202=some (.prim Pr.p202):=rfl
theorem xvo:T.fn 86=some (.prim Pr.p86):=rfl
theorem xyo:T.fn 87=some (.prim Pr.p87):=rfl
theorem xvn:T.fn 90=some (.prim Pr.p90):=rfl
theorem xyl:T.fn 91=some (.prim Pr.p91):=rfl
abbrev sf(k:Nat):Prop:=T.sg k= {}
theorem xow:sf 83:=rfl
theorem xiG:sf 189:=rfl
theorem xs7:sf 191:=rfl
theorem xzo:sf 202:=rfl
theorem xvE:T.sg 86=⟨[0],[0]⟩:=rfl
theorem xvD:sf 87:=rfl
theorem xvC:T.sg 90=⟨[0],[0]⟩:=rfl
theorem xvB:sf 91:=rfl
theorem S_4:sf 4:=rfl
theorem S_7:sf 7:=rfl
theorem S_9:sf 9:=rfl
theorem xi8:sf 10:=rfl
theorem xi4:sf 11:=rfl
theorem xzj:sf 12:=rfl
theorem BG:sf 13:=rfl
theorem xoE:sf 14:=rfl
theorem xoD:sf 15:=rfl
theorem xiO:sf 16:=rfl
theorem gO:sf 17:=rfl
theorem xiH:sf 18:=rfl
theorem Ad:sf 19:=rfl
theorem GP:sf 20:=rfl
theorem Ac:sf 21:=rfl
theorem GO:sf 24:=rfl
theorem xiD:sf 25:=rfl
theorem xvL:sf 27:=rfl
theorem xvK:sf 28:=rfl
theorem xvJ:sf 30:=rfl
theorem vg:sf 31:=rfl
theorem wY:sf 32:=rfl
theorem xba:sf 33:=rfl
theorem xa9:sf 34:=rfl
theorem xoC:sf 35:=rfl
theorem GN:sf 36:=rfl
theorem UV:sf 37:=rfl
theorem vf:sf 38:=rfl
theorem BE:sf 39:=rfl
theorem wX:sf 40:=rfl
theorem xoB:sf 41:=rfl
theorem UU:sf 42:=rfl
theorem xzi:sf 43:=rfl
theorem xvI:sf 44:=rfl
theorem xvH:sf 45:=rfl
theorem xoA:sf 46:=rfl
theorem Jv:sf 47:=rfl
theorem xzh:sf 48:=rfl
theorem xiC:sf 49:=rfl
theorem xzg:sf 50:=rfl
theorem Ju:sf 51:=rfl
theorem tz:sf 52:=rfl
theorem xoz:sf 53:=rfl
theorem Ab:sf 54:=rfl
theorem xoy:sf 55:=rfl
theorem xox:sf 56:=rfl
theorem xvG:sf 57:=rfl
theorem GL:sf 59:=rfl
theorem xa8:sf 60:=rfl
theorem UT:sf 61:=rfl
theorem xiB:sf 62:=rfl
theorem xa7:sf 63:=rfl
theorem GK:sf 64:=rfl
theorem xa6:sf 65:=rfl
theorem xzf:sf 66:=rfl
theorem xiA:sf 67:=rfl
theorem GJ:sf 68:=rfl
theorem GI:sf 69:=rfl
theorem xiz:sf 70:=rfl
theorem xiy:sf 71:=rfl
theorem xvF:sf 72:=rfl
theorem GH:sf 74:=rfl
theorem rA:sf 75:=rfl
theorem Jt:sf 76:=rfl
theorem Js:sf 77:=rfl
theorem BD:sf 78:=rfl
theorem GG:sf 79:=rfl
theorem Jr:sf 80:=rfl
theorem xiw:T.sg 81=⟨[],[0]⟩:=rfl
theorem xiv:sf 82:=rfl
theorem xiu:sf 84:=rfl
theorem UR:sf 85:=rfl
theorem xit:T.sg 88=⟨[],[0]⟩:=rfl
theorem xis:sf 89:=rfl
theorem UQ:sf 92:=rfl
theorem Jq:sf 93:=rfl
theorem rz:sf 94:=rfl
theorem GF:sf 95:=rfl
theorem Jp:sf 96:=rfl
theorem GE:sf 97:=rfl
theorem GD:sf 98:=rfl
theorem xze:sf 99:=rfl
theorem Yg:sf 100:=rfl
theorem mb:sf 101:=rfl
theorem nZ:sf 102:=rfl
theorem xi7:sf 103:=rfl
theorem xi6:sf 104:=rfl
theorem xtp:sf 105:=rfl
theorem gH:sf 106:=rfl
theorem xW:sf 107:=rfl
theorem Yf:sf 108:=rfl
theorem xi5:sf 109:=rfl
theorem I4:sf 110:=rfl
theorem Ye:sf 111:=rfl
theorem I3:sf 112:=rfl
theorem BJ:sf 113:=rfl
theorem Yd:sf 114:=rfl
theorem xto:sf 115:=rfl
theorem xtn:sf 116:=rfl
theorem xtm:sf 117:=rfl
theorem xi3:sf 118:=rfl
theorem xtl:sf 119:=rfl
theorem BI:sf 120:=rfl
theorem xi2:sf 121:=rfl
theorem xzp:sf 122:=rfl
theorem BH:sf 124:=rfl
theorem rC:sf 125:=rfl
theorem xi1:sf 126:=rfl
theorem ju:sf 127:=rfl
theorem xi0:sf 128:=rfl
theorem Yc:sf 129:=rfl
theorem xiZ:sf 133:=rfl
theorem xiY:sf 134:=rfl
theorem I2:sf 137:=rfl
theorem rB:sf 138:=rfl
theorem xiX:sf 139:=rfl
theorem xiW:sf 140:=rfl
theorem xtk:sf 141:=rfl
theorem xtj:sf 143:=rfl
theorem xti:sf 144:=rfl
theorem Yb:sf 145:=rfl
theorem Ya:sf 146:=rfl
theorem X9:sf 147:=rfl
theorem xiV:sf 148:=rfl
theorem X8:sf 149:=rfl
theorem xiU:sf 150:=rfl
theorem xiT:sf 151:=rfl
theorem xiS:sf 152:=rfl
theorem BF:sf 153:=rfl
theorem xiR:sf 154:=rfl
theorem xiQ:sf 155:=rfl
theorem xiP:sf 158:=rfl
theorem xth:sf 159:=rfl
theorem X7:sf 161:=rfl
theorem xiN:sf 163:=rfl
theorem xtg:sf 164:=rfl
theorem xiM:sf 165:=rfl
theorem xiL:sf 166:=rfl
theorem xtf:sf 167:=rfl
theorem xte:sf 168:=rfl
theorem xiK:sf 169:=rfl
theorem xtd:sf 170:=rfl
theorem xtc:sf 171:=rfl
theorem xtb:sf 172:=rfl
theorem xta:sf 173:=rfl
theorem xs9:sf 174:=rfl
theorem xs8:sf 175:=rfl
theorem xiJ:sf 176:=rfl
theorem xiI:sf 177:=rfl
theorem xiF:sf 194:=rfl
theorem xiE:sf 195:=rfl
theorem xs6:sf 196:=rfl
theorem xpr(c:CSt):run T xw c=run T IZ c:=rfl
theorem xpj(c:CSt):run T xk c=run T IY c:=rfl
theorem xpi(c:CSt):run T tG c=run T IX c:=rfl
theorem xph(c:CSt):run T tF c=run T IW c:=rfl
theorem xpA(c:CSt):run T xhI c=run T X4 c:=rfl
theorem xpz(c:CSt):run T VN c=run T X3 c:=rfl
theorem xlE(c:CSt):run T Cy c=run T DF c:=rfl
theorem xly(c:CSt):run T kX c=run T Dz c:=rfl
theorem xlx(c:CSt):run T Cq c=run T Dy c:=rfl
theorem xlw(c:CSt):run T Cp c=run T Dx c:=rfl
theorem xlv(c:CSt):run T sZ c=run T Dw c:=rfl
theorem xpy(c:CSt):run T VL c=run T X2 c:=rfl
theorem xpx(c:CSt):run T VH c=run T X1 c:=rfl
theorem xpw(c:CSt):run T AU c=run T X0 c:=rfl
theorem xpv(c:CSt):run T VG c=run T XZ c:=rfl
theorem xls(c:CSt):run T sY c=run T Dt c:=rfl
theorem xpu(c:CSt):run T VF c=run T XY c:=rfl
theorem xpt(c:CSt):run T nK c=run T XX c:=rfl
theorem xlr(c:CSt):run T sX c=run T Ds c:=rfl
theorem xlq(c:CSt):run T sW c=run T Dr c:=rfl
theorem xlp(c:CSt):run T nt c=run T Dq c:=rfl
theorem xlo(c:CSt):run T nq c=run T Dp c:=rfl
theorem xln(c:CSt):run T Cl c=run T Do c:=rfl
theorem xlm(c:CSt):run T xx c=run T Dn c:=rfl
theorem xll(c:CSt):run T Ci c=run T Dm c:=rfl
theorem xlk(c:CSt):run T Ch c=run T Dl c:=rfl
theorem xps(c:CSt):run T Vy c=run T XW c:=rfl
theorem xlj(c:CSt):run T Cg c=run T Dj c:=rfl
theorem xli(c:CSt):run T Cf c=run T Di c:=rfl
theorem xpq(c:CSt):run T xq c=run T XV c:=rfl
theorem xpp(c:CSt):run T Vr c=run T XU c:=rfl
theorem xpo(c:CSt):run T IE c=run T V9 c:=rfl
theorem xlh(c:CSt):run T xo c=run T Dh c:=rfl
theorem xlg(c:CSt):run T sQ c=run T Dg c:=rfl
theorem xlf(c:CSt):run T sP c=run T Df c:=rfl
theorem xle(c:CSt):run T np c=run T De c:=rfl
theorem xld(c:CSt):run T xl c=run T Dd c:=rfl
theorem xpn(c:CSt):run T Vq c=run T V8 c:=rfl
theorem xpm(c:CSt):run T xds c=run T V7 c:=rfl
theorem xpl(c:CSt):run T xdm c=run T V6 c:=rfl
theorem xlc(c:CSt):run T Cd c=run T Dc c:=rfl
theorem xlb(c:CSt):run T Cc c=run T Db c:=rfl
theorem xla(c:CSt):run T B0 c=run T Da c:=rfl
theorem xk9(c:CSt):run T BZ c=run T C9 c:=rfl
theorem xk8(c:CSt):run T BY c=run T C8 c:=rfl
theorem xk7(c:CSt):run T nl c=run T C7 c:=rfl
theorem xpk(c:CSt):run T Vo c=run T V5 c:=rfl
theorem xk6(c:CSt):run T BX c=run T C6 c:=rfl
theorem xk5(c:CSt):run T nj c=run T C5 c:=rfl
theorem xk4(c:CSt):run T xj c=run T C4 c:=rfl
theorem xpg(c:CSt):run T Vd c=run T V4 c:=rfl
theorem xpf(c:CSt):run T Vc c=run T V3 c:=rfl
theorem xpe(c:CSt):run T Vb c=run T V2 c:=rfl
theorem xk3(c:CSt):run T BW c=run T C3 c:=rfl
theorem xk2(c:CSt):run T BV c=run T C2 c:=rfl
theorem xpd(c:CSt):run T Va c=run T V1 c:=rfl
theorem xlR(c:CSt):run T CR c=run T DS c:=rfl
theorem xlQ(c:CSt):run T TV c=run T DR c:=rfl
theorem Zp(c:CSt):run T vO c=run T wS c:=rfl
theorem xlP(c:CSt):run T CP c=run T DQ c:=rfl
theorem xlO(c:CSt):run T TF c=run T DP c:=rfl
theorem xlN(c:CSt):run T CM c=run T DO c:=rfl
theorem xlM(c:CSt):run T CL c=run T DN c:=rfl
theorem xlL(c:CSt):run T CJ c=run T DM c:=rfl
theorem xlK(c:CSt):run T Tg c=run T DL c:=rfl
theorem xlJ(c:CSt):run T xG c=run T DK c:=rfl
theorem xlI(c:CSt):run T CG c=run T DJ c:=rfl
theorem Zo(c:CSt):run T vN c=run T wQ c:=rfl
theorem xlH(c:CSt):run T CE c=run T DI c:=rfl
theorem Zn(c:CSt):run T vM c=run T wP c:=rfl
theorem Zm(c:CSt):run T vL c=run T wO c:=rfl
theorem xlG(c:CSt):run T Sa c=run T DH c:=rfl
theorem xlF(c:CSt):run T Cz c=run T DG c:=rfl
theorem xlD(c:CSt):run T xE c=run T DE c:=rfl
theorem xlC(c:CSt):run T Cx c=run T DD c:=rfl
theorem Zl(c:CSt):run T vK c=run T wN c:=rfl
theorem xlB(c:CSt):run T Cw c=run T DC c:=rfl
theorem Zk(c:CSt):run T vJ c=run T wL c:=rfl
theorem Zj(c:CSt):run T vI c=run T wK c:=rfl
theorem Zi(c:CSt):run T vH c=run T wJ c:=rfl
theorem xlA(c:CSt):run T xC c=run T DB c:=rfl
theorem Zh(c:CSt):run T EP c=run T wI c:=rfl
theorem Zg(c:CSt):run T EO c=run T wH c:=rfl
theorem xlz(c:CSt):run T Cu c=run T DA c:=rfl
theorem Zf(c:CSt):run T vG c=run T wG c:=rfl
theorem Ze(c:CSt):run T vF c=run T wE c:=rfl
theorem xlu(c:CSt):run T Cn c=run T Dv c:=rfl
theorem Zd(c:CSt):run T vE c=run T wD c:=rfl
theorem Zc(c:CSt):run T vC c=run T wC c:=rfl
theorem Zb(c:CSt):run T Eo c=run T wB c:=rfl
theorem Za(c:CSt):run T vB c=run T wA c:=rfl
theorem Y9(c:CSt):run T vz c=run T wz c:=rfl
theorem Y8(c:CSt):run T qh c=run T wy c:=rfl
theorem xlt(c:CSt):run T xz c=run T Du c:=rfl
theorem Y7(c:CSt):run T vy c=run T ww c:=rfl
theorem xwi:bX prog 4 F4:=Fk func4
theorem xwh:bX prog 7 F7:=Fk func7
theorem xwg:bX prog 9 F9:=Fk func9
theorem xqV:bX prog 10 F10:=Fk func10
theorem xqU:bX prog 11 F11:=Fk func11
theorem xqT:bX prog 12 F12:=Fk func12
theorem xqS:bX prog 13 F13:=Fk func13
theorem xqR:bX prog 14 F14:=Fk func14
theorem xqQ:bX prog 15 F15:=Fk func15
theorem xqP:bX prog 16 F16:=Fk func16
theorem xqO:bX prog 17 F17:=Fk func17
theorem xqN:bX prog 18 F18:=Fk func18
theorem xqM:bX prog 19 F19:=Fk func19
theorem xqL:bX prog 20 F20:=Fk func20
theorem xqK:bX prog 21 F21:=Fk func21
theorem xqJ:bX prog 24 F24:=Fk func24
theorem xqI:bX prog 25 F25:=Fk func25
theorem xqH:bX prog 27 F27:=Fk func27
theorem xqG:bX prog 28 F28:=Fk func28
theorem xqF:bX prog 30 F30:=Fk func30
theorem xqE:bX prog 31 F31:=Fk func31
theorem xqD:bX prog 32 F32:=Fk func32
theorem xqC:bX prog 33 F33:=Fk func33
theorem xqB:bX prog 34 F34:=Fk func34
theorem xqA:bX prog 35 F35:=Fk func35
theorem xqz:bX prog 36 F36:=Fk func36
theorem xqy:bX prog 37 F37:=Fk func37
theorem xqx:bX prog 38 F38:=Fk func38
theorem xqw:bX prog 39 F39:=Fk func39
theorem xqv:bX prog 40 F40:=Fk func40
theorem xqu:bX prog 41 F41:=Fk func41
theorem xqt:bX prog 42 F42:=Fk func42
theorem xqs:bX prog 43 F43:=Fk func43
theorem xqr:bX prog 44 F44:=Fk func44
theorem xqq:bX prog 45 F45:=Fk func45
theorem xqp:bX prog 46 F46:=Fk func46
theorem xqo:bX prog 47 F47:=Fk func47
theorem xqn:bX prog 48 F48:=Fk func48
theorem xqm:bX prog 49 F49:=Fk func49
theorem xql:bX prog 50 F50:=Fk func50
theorem xqk:bX prog 51 F51:=Fk func51
theorem xqj:bX prog 52 F52:=Fk func52
theorem xqi:bX prog 53 F53:=Fk func53
theorem xqh:bX prog 54 F54:=Fk func54
theorem xqg:bX prog 55 F55:=Fk func55
theorem xqf:bX prog 56 F56:=Fk func56
theorem xqe:bX prog 57 F57:=Fk func57
theorem xqd:bX prog 59 F59:=Fk func59
theorem xqc:bX prog 60 F60:=Fk func60
theorem xqb:bX prog 61 F61:=Fk func61
theorem xqa:bX prog 62 F62:=Fk func62
theorem xp9:bX prog 63 F63:=Fk func63
theorem xp8:bX prog 64 F64:=Fk func64
theorem xp7:bX prog 65 F65:=Fk func65
theorem xp6:bX prog 66 F66:=Fk func66
theorem xp5:bX prog 67 F67:=Fk func67
theorem xp4:bX prog 68 F68:=Fk func68
theorem xp3:bX prog 69 F69:=Fk func69
theorem xp2:bX prog 70 F70:=Fk func70
theorem xp1:bX prog 71 F71:=Fk func71
theorem xp0:bX prog 72 F72:=Fk func72
theorem xpZ:bX prog 74 F74:=Fk func74
theorem xpY:bX prog 75 F75:=Fk func75
theorem xpX:bX prog 76 F76:=Fk func76
theorem xpW:bX prog 77 F77:=Fk func77
theorem xpV:bX prog 78 F78:=Fk func78
theorem xpU:bX prog 79 F79:=Fk func79
theorem xpT:bX prog 80 F80:=Fk func80
theorem xpS:bX prog 81 F81:=Fk func81
theorem xpR:bX prog 82 F82:=Fk func82
theorem xpQ:bX prog 84 F84:=Fk func84
theorem xpP:bX prog 85 F85:=Fk func85
theorem xpO:bX prog 88 F88:=Fk func88
theorem xpN:bX prog 89 F89:=Fk func89
theorem xpM:bX prog 92 F92:=Fk func92
theorem xpL:bX prog 93 F93:=Fk func93
theorem xpK:bX prog 94 F94:=Fk func94
theorem xpJ:bX prog 95 F95:=Fk func95
theorem xpI:bX prog 96 F96:=Fk func96
theorem xpH:bX prog 97 F97:=Fk func97
theorem xpG:bX prog 98 F98:=Fk func98
theorem xpF:bX prog 99 F99:=Fk func99
theorem xm5:bX prog 100 xkh:=Fk func100
theorem xm4:bX prog 101 xkg:=Fk func101
theorem xm3:bX prog 102 xkf:=Fk func102
theorem xm2:bX prog 103 xke:=Fk func103
theorem xm1:bX prog 104 xkd:=Fk func104
theorem xm0:bX prog 105 xkc:=Fk func105
theorem xmZ:bX prog 106 xkb:=Fk func106
theorem xmY:bX prog 107 xka:=Fk func107
theorem xmX:bX prog 108 xj9:=Fk func108
theorem xmW:bX prog 109 xj8:=Fk func109
theorem xmV:bX prog 110 xj7:=Fk func110
theorem xmU:bX prog 111 xj6:=Fk func111
theorem xmT:bX prog 112 xj5:=Fk func112
theorem xmS:bX prog 113 xj4:=Fk func113
theorem xmR:bX prog 114 xj3:=Fk func114
theorem xmQ:bX prog 115 xj2:=Fk func115
theorem xmP:bX prog 116 xj1:=Fk func116
theorem xmO:bX prog 117 xj0:=Fk func117
theorem xmN:bX prog 118 xjZ:=Fk func118
theorem xmM:bX prog 119 xjY:=Fk func119
theorem xmL:bX prog 120 xjX:=Fk func120
theorem xmK:bX prog 121 xjW:=Fk func121
theorem xmJ:bX prog 122 xjV:=Fk func122
theorem xmI:bX prog 124 xjU:=Fk func124
theorem xmH:bX prog 125 xjT:=Fk func125
theorem xmG:bX prog 126 xjS:=Fk func126
theorem xmF:bX prog 127 xjR:=Fk func127
theorem xmE:bX prog 128 xjQ:=Fk func128
theorem xmD:bX prog 129 xjP:=Fk func129
theorem xmC:bX prog 133 xjO:=Fk func133
theorem xmB:bX prog 134 xjN:=Fk func134
theorem xmA:bX prog 137 xjM:=Fk func137
theorem xmz:bX prog 138 xjL:=Fk func138
theorem xmy:bX prog 139 xjK:=Fk func139
theorem xmx:bX prog 140 xjJ:=Fk func140
theorem xmw:bX prog 141 xjI:=Fk func141
theorem xmv:bX prog 143 xjH:=Fk func143
theorem xmu:bX prog 144 xjG:=Fk func144
theorem xmt:bX prog 145 xjF:=Fk func145
theorem xms:bX prog 146 xjE:=Fk func146
theorem xmr:bX prog 147 xjD:=Fk func147
theorem xmq:bX prog 148 xjC:=Fk func148
theorem xmp:bX prog 149 xjB:=Fk func149
theorem xmo:bX prog 150 xjA:=Fk func150
theorem xmn:bX prog 151 xjz:=Fk func151
theorem xmm:bX prog 152 xjy:=Fk func152
theorem xml:bX prog 153 xjx:=Fk func153
theorem xmk:bX prog 154 xjw:=Fk func154
theorem xmj:bX prog 155 xjv:=Fk func155
theorem xmi:bX prog 158 xju:=Fk func158
theorem xmh:bX prog 159 xjt:=Fk func159
theorem xmg:bX prog 161 xjs:=Fk func161
theorem xmf:bX prog 163 xjr:=Fk func163
theorem xme:bX prog 164 xjq:=Fk func164
theorem xmd:bX prog 165 xjp:=Fk func165
theorem xmc:bX prog 166 xjo:=Fk func166
theorem xmb:bX prog 167 xjn:=Fk func167
theorem xma:bX prog 168 xjm:=Fk func168
theorem xl9:bX prog 169 xjl:=Fk func169
theorem xl8:bX prog 170 xjk:=Fk func170
theorem xl7:bX prog 171 xjj:=Fk func171
theorem xl6:bX prog 172 xji:=Fk func172
theorem xl5:bX prog 173 xjh:=Fk func173
theorem xl4:bX prog 174 xjg:=Fk func174
theorem xl3:bX prog 175 xjf:=Fk func175
theorem xl2:bX prog 176 xje:=Fk func176
theorem xl1:bX prog 177 xjd:=Fk func177
theorem xl0:bX prog 194 xjc:=Fk func194
theorem xlZ:bX prog 195 xjb:=Fk func195
theorem xlY:bX prog 196 xja:=Fk func196
set_option maxHeartbeats 4000000 in
theorem LI:pA prog T:=by
 intro g b h;simp only[T]at h;unfold xtu at h;split at h
 ·cases h;exact xwi
 ·cases h;exact xwh
 ·cases h;exact xwg
 ·cases h;exact xqV
 ·cases h;exact xqU
 ·cases h;exact xqT
 ·cases h;exact xqS
 ·cases h;exact xqR
 ·cases h;exact xqQ
 ·cases h;exact xqP
 ·cases h;exact xqO
 ·cases h;exact xqN
 ·cases h;exact xqM
 ·cases h;exact xqL
 ·cases h;exact xqK
 ·cases h;exact xqJ
 ·cases h;exact xqI
 ·cases h;exact xqH
 ·cases h;exact xqG
 ·cases h;exact xqF
 ·cases h;exact xqE
 ·cases h;exact xqD
 ·cases h;exact xqC
 ·cases h;exact xqB
 ·cases h;exact xqA
 ·cases h;exact xqz
 ·cases h;exact xqy
 ·cases h;exact xqx
 ·cases h;exact xqw
 ·cases h;exact xqv
 ·cases h;exact xqu
 ·cases h;exact xqt
 ·cases h;exact xqs
 ·cases h;exact xqr
 ·cases h;exact xqq
 ·cases h;exact xqp
 ·cases h;exact xqo
 ·cases h;exact xqn
 ·cases h;exact xqm
 ·cases h;exact xql
 ·cases h;exact xqk
 ·cases h;exact xqj
 ·cases h;exact xqi
 ·cases h;exact xqh
 ·cases h;exact xqg
 ·cases h;exact xqf
 ·cases h;exact xqe
 ·cases h;exact xqd
 ·cases h;exact xqc
 ·cases h;exact xqb
 ·cases h;exact xqa
 ·cases h;exact xp9
 ·cases h;exact xp8
 ·cases h;exact xp7
 ·cases h;exact xp6
 ·cases h;exact xp5
 ·cases h;exact xp4
 ·cases h;exact xp3
 ·cases h;exact xp2
 ·cases h;exact xp1
 ·cases h;exact xp0
 ·cases h;exact xpZ
 ·cases h;exact xpY
 ·cases h;exact xpX
 ·cases h;exact xpW
 ·cases h;exact xpV
 ·cases h;exact xpU
 ·cases h;exact xpT
 ·cases h;exact xpS
 ·cases h;exact xpR
 ·cases h;exact xpQ
 ·cases h;exact xpP
 ·cases h;exact xpO
 ·cases h;exact xpN
 ·cases h;exact xpM
 ·cases h;exact xpL
 ·cases h;exact xpK
 ·cases h;exact xpJ
 ·cases h;exact xpI
 ·cases h;exact xpH
 ·cases h;exact xpG
 ·cases h;exact xpF
 ·cases h;exact xm5
 ·cases h;exact xm4
 ·cases h;exact xm3
 ·cases h;exact xm2
 ·cases h;exact xm1
 ·cases h;exact xm0
 ·cases h;exact xmZ
 ·cases h;exact xmY
 ·cases h;exact xmX
 ·cases h;exact xmW
 ·cases h;exact xmV
 ·cases h;exact xmU
 ·cases h;exact xmT
 ·cases h;exact xmS
 ·cases h;exact xmR
 ·cases h;exact xmQ
 ·cases h;exact xmP
 ·cases h;exact xmO
 ·cases h;exact xmN
 ·cases h;exact xmM
 ·cases h;exact xmL
 ·cases h;exact xmK
 ·cases h;exact xmJ
 ·cases h;exact xmI
 ·cases h;exact xmH
 ·cases h;exact xmG
 ·cases h;exact xmF
 ·cases h;exact xmE
 ·cases h;exact xmD
 ·cases h;exact xmC
 ·cases h;exact xmB
 ·cases h;exact xmA
 ·cases h;exact xmz
 ·cases h;exact xmy
 ·cases h;exact xmx
 ·cases h;exact xmw
 ·cases h;exact xmv
 ·cases h;exact xmu
 ·cases h;exact xmt
 ·cases h;exact xms
 ·cases h;exact xmr
 ·cases h;exact xmq
 ·cases h;exact xmp
 ·cases h;exact xmo
 ·cases h;exact xmn
 ·cases h;exact xmm
 ·cases h;exact xml
 ·cases h;exact xmk
 ·cases h;exact xmj
 ·cases h;exact xmi
 ·cases h;exact xmh
 ·cases h;exact xmg
 ·cases h;exact xmf
 ·cases h;exact xme
 ·cases h;exact xmd
 ·cases h;exact xmc
 ·cases h;exact xmb
 ·cases h;exact xma
 ·cases h;exact xl9
 ·cases h;exact xl8
 ·cases h;exact xl7
 ·cases h;exact xl6
 ·cases h;exact xl5
 ·cases h;exact xl4
 ·cases h;exact xl3
 ·cases h;exact xl2
 ·cases h;exact xl1
 ·cases h;exact xl0
 ·cases h;exact xlZ
 ·cases h;exact xlY
 ·cases h;exact Pr.p83_ok
 ·cases h;exact Pr.p189_ok
 ·cases h;exact Pr.p191_ok
 ·cases h;exact Pr.p202_ok
 ·cases h;exact Pr.p86_ok
 ·cases h;exact Pr.p87_ok
 ·cases h;exact Pr.p90_ok
 ·cases h;exact Pr.p91_ok
 ·cases h
attribute [go_sem] SV.kclip Tok.kc Y2 xr4 xr3 xyc jw xI YC IF kH List.all_replicate FQ FP YE xkQ Zs Zu Zt Kw Zv Zy um Zx Zw ax.injEq xwe xo5 xrv xnc xm7 A6 Hd He xnk xkw IN Hg av cG co ay xaY xaZ xn5 Lf KE HS G5 G6 Tok.ids mf aV ae dG Int.natCast_nonneg Int.ofNat_lt Int.ofNat_le Int.ofNat_inj Ka YY Kf Y0 Y1 xoJ Yk xoK xku xkt xkp xoQ xoR xoO xvM Yi Yh xoI xoS xkq xkl xkm xkn Yj xoM Jz JA xky xkx xoN xoL xkv xoP xkr xks xko xwd xwc xwf xkZ xo6 xnC xxi xxj xxg xxh xxl xac xnD xah YX Kg Hw YZ Kd xnA HB HC Km Kn xnz ZS xx2 xx4 xx3 rW HU xq0 ZK xq2 xni xnh xnd xrb xrc xq6 xwj ZG ZF xqY xrd xne xm8 xm9 xna ZJ xq4 Ky Kz xnm xnl xq5 xq3 xnj xq9 xnf xng xnb ZI xqZ xra xwk xq1 ZH xre xq7 xnn xa3 Iu mkE xod stC JR apS apB apL xa1 cpC cp2 cpB cpL xk0 xlT FR Uk FS FT mp mq Uh FV FW xkO Yx xrw xnp xnw xnv Z0 KP KO HZ ZZ H2 KQ Z1 H1 Bd KA KB ZL xvX xvV xvW YI xkS xrV xr0 xrZ xrY Ls xaT xws xwq xwr ZR xnu Kr xpD xpB xpC Kq Zq Lc Ik Il xrD xrC xai IH xih xid xc xbq xii LL IA IB xP xh4 qQ sd ow IR IQ xic lenC xif IK IL xU xhT IM IG xK fb kr zS jD jI xos og dJ evL CSt.purge Bh BP U2 U7 ov Jh nP lD pG fg gB psC Tok.readyC aH.wf SV.bare SV.bareL lg lh vr kS eU cO eC im iy gp eg pR eY tM tN nT tE lf jP J0 Hh YS JW J1 JZ Hf AD YT JX YV J2 Hq AH Hn AG J3 Hj Ho Hm AE AF ya J4 Hk J6 Hp Hi J5 Hl JV YU JY VY Lo xaQ xaR xak xam xan xal xaW JT YJ YP YO YN YM YL YK xnL xnE xnJ xnK xnI xnH xnG xnF ZE ZD ZC Z7 Z6 Z3 Z2 Z5 Z4 xaV xn3 fx CSt.publish mn mX pu SV.pub SV.pubL AY gcC tw YD uj lw gP iM tks px Jd tP eh VX Ah iV lc SV.num ni jF toB rows xQ iA jX setCells Tok.eat SV.one SV.data SV.isData SV.cells SV.isDef SV.purge SV.purgeL aH.purge bW cP Tok.purge SV.ren SV.renL aH.ren Tok.ren SV.ids SV.idsL SV.toks SV.toksL aH.ids aH.toks jn kM inR p7 fK id_eq al aB bp aF bA bY fm beq_self_eq_true List.getD_cons_zero jk List.getD_nil List.take_succ_cons List.take_zero List.take_nil bj List.drop_succ_cons List.drop_nil aI bO cK List.flatten_nil List.contains_nil List.contains_cons List.isEmpty_nil List.isEmpty_cons List.all_cons List.all_nil List.set_cons_zero List.set_cons_succ aM Option.getD_none bE Option.map_none Option.toList_some Option.toList_none dp Option.isNone_none Option.isNone_some Option.isSome_none Option.isSome_some Bool.or_false Bool.true_or Bool.or_true tT Bool.and_self Bool.and_true Bool.true_and Bool.and_false Bool.false_and Bool.not_true Bool.not_false aO Bool.true_eq_false Bool.not_eq_true Bool.not_eq_false decide_eq_true_eq decide_eq_false_iff_not and_true true_and and_self or_false false_or or_true true_or not_true_eq_false not_false_eq_true ne_eq Int.toNat_natCast true_implies false_implies implies_true decide_true decide_false Nat.lt_irrefl Nat.not_lt_zero aK aY eq_self and_false false_and Uj mvC xu0 xhP xno xq8 clA cl2 clC
attribute [go_sem] Fm Fs Fz Fi Ld Fa Ln Ia Mv Bb Bc Ca Pf Pt So Kk Kc Fy Fr Sr Lt Mc Mb Bk Sq Zq0 Zq1 Zq2 Zq3 Zq4 xm xs xi ci om omk on oo xoa xn9 Jb xn8 xtP xtO xtN xtM xtL Vu xeX xeW xeV xeU xeT xeS xeR xeQ xeP xeO xeN xeM xeL Vt IZ F4 xpr r4 xtK xtJ xtI xtH xtG xcu xct xcs xcr xcq xcp xco xcn xcm xcl xck xcj xci xch xcg IY IX IW F7 xpj xpi xph r7 xtF xtE xtD xtC xtB xtA xtz xty xtx F9 r9 xhM xhL kq xhK xhJ VS xhH xhG X4 F10 xpA r10 VR xhF VQ VP VO F11 r11 xhE F12 r12 AW xhD mL pt xhC xhB xhA RO RN RM s6 X3 DF F13 xpz xlE r13 xhz xhy xhx xhw xhv xhu xht xhs xhr xhq QH QG QF QE Dz F14 xly r14 xhp xho xhn xhm xhl xhk xhj xhi xhh xhg PY Cr PX PW PV PU PT PS PR PQ Dy Dx Dw F15 xlx xlw xlv r15 xhf VM xhe xhd F16 r16 qf xhc iZ xhb xha F17 r17 il xg9 xg8 F18 r18 AV xg7 xg6 xg5 xg4 xg3 xg2 xg1 xg0 xgZ OF F19 r19 xgY xgX xgW xgV xgU xgT xgS xgR xgQ OE OD OC OB OA Oz Oy Ox Ow Ov Ou Ot F20 r20 xgP xgO xgN xgM xgL F21 r21 xgK xgJ F24 r24 xgI tL xgH xgG xgF xgE xgD xgC xgB X2 F25 xpy r25 tK VK VJ xgA VI X1 F27 xpx r27 xgz xgy xgx xgw xgv xgu xgt xgs xgr X0 F28 xpw r28 AT xgq xgp qd xgo xgn xgm xgl xgk Oq Oo On XZ Dt F30 xpv xls r30 xgj XY F31 xpu r31 tJ xgi VE qc xgh F32 r32 xgg xgf xge xgd xgc xgb XX F33 xpt r33 xga xf9 xf8 xf7 xf6 xf5 xf4 Om Ol Ok Oj Oi Oh Og Of Oe Od Oc Ob Ds Dr F34 xlr xlq r34 xf3 xf2 F35 r35 xf1 xf0 F36 r36 xfZ iY xfY F37 r37 kW xfX F38 r38 pr VD pq xfW VC xfV xfU gC xfT AS Oa N9 kV Dq F39 xlp r39 xy xfS xfR xfQ xfP N8 N7 Dp F40 xlo r40 xfO F41 r41 qb xfN F42 r42 xfM xfL xfK F43 r43 xfJ xfI xfH xfG xfF xfE xfD xfC xfB xfA N6 N5 N4 N3 N2 Do F44 xln r44 xfz xfy xfx xfw xfv xfu xft xfs xfr N1 Ck N0 Dn F45 xlm r45 AR xfq xfp xfo xfn VB xfm xfl xfk xfj NZ NY Cj F46 r46 VA xfi Vz xfh xfg xff xfe xfd xfc xfb NX NW NV NU NT NS NR NQ NP sV NO NN NM NL NK NJ NI NH sU NG NF Dm Dl F47 xll xlk r47 xfa xe9 xe8 xe7 xe6 xe5 xe4 xe3 NE ND XW F48 xps r48 Vx xe2 xe1 xe0 xeZ xeY Vw Vv F49 r49 xeK xeJ xeI xeH xeG xeF xeE F50 r50 xeD xeC xeB xeA xez xey xex xew NC F51 r51 xev xeu xet xes xer xeq xep xeo NB NA Nz Ny Nw Nv Nu Nt sS xu Ns Nr Nq Np No Nn Nm Nl sR Nk Nj Dj Di F52 xlj xli r52 Vs xen xem xel xek xej xei XV F53 xpq r53 xeh xeg xef xee xed xec F54 r54 xeb xea xd9 XU F55 xpp r55 xd8 xd7 xd6 xd5 xd4 Ni Nh Ng V9 Dh F56 xpo xlh r56 xd3 xd2 xd1 F57 r57 xd0 xdZ xdY xdX xdW xdV xdU xdT Nf Nd Nc Nb Na M9 M8 M7 M6 M5 M4 M3 Dg Df F59 xlg xlf r59 xdS F60 r60 xdR xdQ xdP F61 r61 xdO tI xdN xdM xdL xdK M2 M1 M0 MZ MY MX MW MV MU De Dd F62 xle xld r62 xdJ xdI xdH F63 r63 tH xdG xdF xdE xdD xdC xdB xdA xdz V8 F64 xpn r64 xdy F65 r65 xdx xdw xdv xdu xdt xdr V7 F66 xpm r66 AQ xdq xdp xdo xdn xdl V6 F67 xpl r67 xdk xdj xdi xdh xdg xdf xde MT MS MR MQ Ce MP MO MN MM ML MK MJ MI Cb MH MG MF ME MD Dc Db Da C9 F68 xlc xlb xla xk9 r68 xdd xdc xdb xda xc9 xc8 xc7 xc6 MC MB MA Mz C8 C7 F69 xk8 xk7 r69 xc5 xc4 xc3 xc2 xc1 xc0 xcZ xcY xcX xcW My F70 r70 xcV xcU F71 r71 Vp xcT xcS xcR xcQ xcP V5 F72 xpk r72 Vn xcO F74 r74 Vm xcN xcM xcL xcK xcJ Mx Mw Mu Mt Ms Mr Mq Mp Mo Mn C6 F75 xk6 r75 xcI xcH xcG xcF xcE xcD Mm Ml Mj Mi Mh Mg F76 r76 p9 xcC F77 r77 xcB xcA xcz xcy xcx xcw Mf Me F78 r78 xcv Vl Vk F79 r79 xcf xce xcd xcc xcb xca Md Ma L9 L8 L7 L6 L5 L4 L3 L2 L1 C5 C4 F80 xk5 xk4 r80 ID Vj Vi Vh Vg xb9 Vf Ve xb8 V4 F81 xpg r81 xb7 xb6 F82 r82 xb5 F84 r84 xb4 xb3 F85 r85 xb2 xb1 xb0 V3 F88 xpf r88 xbZ F89 r89 xbY xbX xbW xbV xbU xbT L0 LZ LY LX V2 C3 F92 xpe xk3 r92 xbS F93 r93 xbR xbQ xbP xbO xbN xbM LW LV LU LS C2 F94 xk2 r94 xbL xbK xbJ xbI xbH xbG LR F95 r95 xbF xbE xbD xbC xbB F96 r96 xbA F97 r97 xbz xby xbx xbw xbv V1 F98 xpd r98 xbu F99 r99 Ue Ud xkh xuX Uc Ub Ua T9 T8 T7 T6 T5 DS xkg xlR xuW T4 T3 xkf xuV T2 T1 T0 TZ TY TX TW TU FL FK FJ FH FG FF FE DR wS xke xlQ Zp xuU TT TS CQ TR TQ TP TO TN FD DQ xkd xlP xuT nu TL xH TK TJ TI TH TG FC DP xkc xlO xuS TE CO TD TC TB CN FB DO xkb xlN xuR TA Tz Ty Tx Tw Tv Tu xka xuQ Tt Ts Tq Tp FA Fx Fw Fv DN xj9 xlM xuP To Tn Tm Tl Tk CK CI DM xj8 xlL xuO Tj xj7 xuN Ti Th CH Tf DL xj6 xlK xuM Te xj5 xuL Td xj4 xuK Tc Tb Ta S9 S8 DK xj3 xlJ xuJ S7 S6 xj2 xuI S5 S4 S3 SZ SY SX SW SU Fu DJ wQ xj1 xlI Zo xuH s7 CF xj0 xuG SS xjZ xuF SR SQ SP CD DI xjY xlH xuE SN SM SL SK SJ xjX xuD SH SG xjW xuC SF mj SE SD SC SB SA Ft Fq Fp Fo Fl Fj Fh wP xjV Zn xuB Sz xjU xuA Sx Sw Sv Su xjT xuz CC xjS xuy Ss xjR xux Sp xjQ xuw Sn Sm Sl Sk Sj Sh Sg Fg Ff Fe Fc wO xjP Zm xuv Sf CB Se Sd Sc Sb R9 DH xjO xlG xuu R8 R7 R6 R5 xF R4 CA R3 Fb xjN xut R2 RZ RY RX RW RU RT RS DG xjM xlF xus RR RQ RP xjL xur xjK xuq RL RK RJ RH RG DE xjJ xlD xup RF RE RD RB RA Rz Ry Rx DD wN xjI xlC Zl xuo Rw Rv Ru Rt Rr Rq DC xjH xlB xun Rp Ro Rn Rm Rl Rk Rj Ri Rh E9 E8 E7 E6 E5 E4 E3 E0 EZ EY EX EW EV EU ET wL wK wJ xjG Zk Zj Zi xum Rg xD Rf Re Rd Rc ES DB xjF xlA xul Rb Cv Ra QZ QY QX QW ER wI xjE Zh xuk QV xjD xuj QU xB QT QS QR QQ QP QO EN wH xjC Zg xui QN QM QL QK QJ QI DA xjB xlz xuh QD xjA xug QC xjz xuf QB QA Qz Qy Ct xjy xue Qx xjx xud Qw Qv Cs Qu Qt Qs xjw xuc Qr Qq Qp Qo Qn P9 P8 P7 EM EL EK EJ wG xjv Zf xub P6 P5 P4 P3 xju xua PZ xjt xt9 PP xjs xt8 PO PN PM PL PK PJ PI EI EH EG EF EE ED EC wE xjr Ze xt7 xjq xt6 PH PG xjp xt5 Co PF PE PD PC EB Dv xjo xlu xt4 PB xjn xt3 PA Pz Py Px Pw Pv Pu Ps EA Ez wD xjm Zd xt2 Pq Cm Pp Po Pn Pm xA Pl Ey Ew Eu Et Es wC xjl Zc xt1 Pk xjk xt0 Pj Pi Ph Pg Pe Pd Er Ep En Em wB wA xjj Zb Za xtZ Pc Pb xji xtY Pa xjh xtX O9 O8 O7 O6 O5 O4 O3 O0 El Ek Ej wz wy xjg Y9 Y8 xtW OZ OY xjf xtV OX xje xtU OW xjd xtT OV OU OT OS OR OQ OP Ei Du xjc xlt xtS OO ON OM OL OJ OI OH Eh ww xjb Y7 xtR OG xja xtQ
end Go.Proofs.YtbfnljmmepcbfaaGreatDoor