/- Code of functions, checked by the kernel. No condition. -/
import Derived.Test.YtbfnljmmepcbfaaGreatDoorProg
import Derived.Test.YtbfnljmmepcbfaaGreatDoorVaPB
open Bool renaming and_eq_true -> aC, false_eq_true -> aO, false_or -> jC
open List renaming append_assoc -> az, append_nil -> bx, cons_append -> bi, drop_zero -> aW, flatten_cons -> cD, getD_cons_succ -> jg, length_append -> ae, length_cons -> al, length_map -> aY, length_nil -> aA, length_replicate -> dJ, map_append -> cf, map_cons -> aI, map_nil -> bJ, mem_cons -> av, nil_append -> aE, not_mem_nil -> cZ, replicate -> aL
open Nat renaming add_zero -> ft, le_refl -> aJ, zero_add -> bT, zero_le -> aX
open Option renaming bind_some -> dl, getD_some -> aM, map_some -> bB, some -> ax
set_option maxRecDepth 100000
set_option linter.unusedVariables false
namespace Go.Proofs.YtbfnljmmepcbfaaGreatDoor
open Tryz
open Go.Sy
abbrev Lb:=List RI
abbrev Lc:=List FI
abbrev xm(d s:Nat):SI:=⟨some d,none,.mov (.t s)⟩
abbrev xs(d:Nat)(o:SOp):SI:=⟨some d,none,o⟩
abbrev xi(d g:Nat)(b:Bool)(o:SOp):SI:=⟨some d,some (g,b),o⟩
abbrev om(d s:Nat):RI:= .op (xm d s) []
abbrev omk(d s:Nat):RI:= .op (xm d s) [s]
abbrev on(d:Nat)(o:SOp):RI:= .op (xs d o) []
abbrev oo(d:Nat)(o:SOp)(k:List Nat):RI:= .op (xs d o) k
abbrev ci(n:Int):Arg:= .c (.int .i64 n)
abbrev Fm(n d s:Nat):FI:=⟨n,true,xm d s⟩
abbrev Fs(n d:Nat)(o:SOp):FI:=⟨n,true,xs d o⟩
abbrev Fz(n d:Nat)(o:SOp):FI:=⟨n,false,xs d o⟩
abbrev Fi(n d g:Nat)(b:Bool)(o:SOp):FI:=⟨n,true,xi d g b o⟩
abbrev Ld(s:Nat):SOp:= .load 1 false (.t s)
abbrev Fa(n s:Nat):SOp:= .faddr n (.t s)
abbrev Ln(s:Nat):SOp:= .len false (.t s)
abbrev Ia(n a b:Nat):SOp:= .iaddrL n (.t a) (.t b)
abbrev Mv(s:Nat):SOp:= .mov (.t s)
abbrev Bb(o:BinOp)(a b:Nat):SOp:= .bin o (.t a) (.t b)
abbrev Bc(o:BinOp)(a:Nat)(n:Int):SOp:= .bin o (.t a) (ci n)
abbrev Ca(f:Nat)(l:List Arg):SOp:= .call (.f f) l
abbrev Pf(a b:Nat):SOp:= .pick (.t a) (.t b) (.c (.bool false))
abbrev Pt(a b:Nat):SOp:= .pick (.t a) (.c (.bool true)) (.t b)
abbrev So(l:List RI)(x:RC):RC:= .seq (.ops l) x
abbrev Kk(l:List Nat)(x:RC):RC:= .pre [.kill l] x
abbrev Kc(n:Nat)(x y:RC):RC:= .cond (.t n) x y
abbrev Fy(n d g:Nat)(b:Bool)(o:SOp):FI:=⟨n,false,xi d g b o⟩
abbrev Fr(n k a x:Nat):FI:=⟨n,false,⟨none,none,.store k (.t a) (.t x)⟩⟩
abbrev Sr(n a x:Nat)(k:List Nat):RI:= .op ⟨none,none,.store n (.t a) (.t x)⟩ k
abbrev Lt(n s:Nat):SOp:= .load n true (.t s)
abbrev Mc(n:Int):SOp:= .mov (ci n)
abbrev Mb(b:Bool):SOp:= .mov (.c (.bool b))
abbrev Bk(n:Nat)(x:RC):RC:= .block n x
abbrev Sq(x y:RC):RC:= .seq x y
abbrev Zq0:List SV:=[.str [],.int .i64 0,.int .i64 0,.int .i64 0,.int .i64 0,.lst 4 [] .clip,.lst 4 [] .clip]
abbrev Zq1:List SV:=[.lst 2 [] .clip,.int .i64 0,.lst 7 [] .clip,.lst 2 [] .clip]
abbrev Zq2:List SV:=[.int .i64 0,.str [],.int .i64 0,.byt [] .clip]
abbrev Zq3:List SV:=[.int .i64 0,.str [],.int .i64 0,.int .i64 0]
abbrev Zq4:List SV:=[.byt [] .clip,.lst 2 [] .clip]
def cs0:List UInt8:=[0,1,2,2,3,3,3,3,4,4,4,4,4,4,4,4,5,5,5,5,5,5,5,5,5,5,5,5,5,5,5,5,6,6,6,6,6,6,6,6,6,6,6,6,6,6,6,6,6,6,6,6,6,6,6,6,6,6,6,6,6,6,6,6,7,7,7,7,7,7,7,7,7,7,7,7,7,7,7,7,7,7,7,7,7,7,7,7,7,7,7,7,7,7,7,7,7,7,7,7,7,7,7,7,7,7,7,7,7,7,7,7,7,7,7,7,7,7,7,7,7,7,7,7,7,7,7,7,8,8,8,8,8,8,8,8,8,8,8,8,8,8,8,8,8,8,8,8,8,8,8,8,8,8,8,8,8,8,8,8,8,8,8,8,8,8,8,8,8,8,8,8,8,8,8,8,8,8,8,8,8,8,8,8,8,8,8,8,8,8,8,8,8,8,8,8,8,8,8,8,8,8,8,8,8,8,8,8,8,8,8,8,8,8,8,8,8,8,8,8,8,8,8,8,8,8,8,8,8,8,8,8,8,8,8,8,8,8,8,8,8,8,8,8,8,8,8,8,8,8,8,8,8,8,8,8]
def jP:List SV:=[.int .u32 1116352408,.int .u32 1899447441,.int .u32 3049323471,.int .u32 3921009573,.int .u32 961987163,.int .u32 1508970993,.int .u32 2453635748,.int .u32 2870763221,.int .u32 3624381080,.int .u32 310598401,.int .u32 607225278,.int .u32 1426881987,.int .u32 1925078388,.int .u32 2162078206,.int .u32 2614888103,.int .u32 3248222580,.int .u32 3835390401,.int .u32 4022224774,.int .u32 264347078,.int .u32 604807628,.int .u32 770255983,.int .u32 1249150122,.int .u32 1555081692,.int .u32 1996064986,.int .u32 2554220882,.int .u32 2821834349,.int .u32 2952996808,.int .u32 3210313671,.int .u32 3336571891,.int .u32 3584528711,.int .u32 113926993,.int .u32 338241895,.int .u32 666307205,.int .u32 773529912,.int .u32 1294757372,.int .u32 1396182291,.int .u32 1695183700,.int .u32 1986661051,.int .u32 2177026350,.int .u32 2456956037,.int .u32 2730485921,.int .u32 2820302411,.int .u32 3259730800,.int .u32 3345764771,.int .u32 3516065817,.int .u32 3600352804,.int .u32 4094571909,.int .u32 275423344,.int .u32 430227734,.int .u32 506948616,.int .u32 659060556,.int .u32 883997877,.int .u32 958139571,.int .u32 1322822218,.int .u32 1537002063,.int .u32 1747873779,.int .u32 1955562222,.int .u32 2024104815,.int .u32 2227730452,.int .u32 2361852424,.int .u32 2428436474,.int .u32 2756734187,.int .u32 3204031479,.int .u32 3329325298]
instance:br:=⟨fun
 |1=>some jP
 |_=>none⟩
abbrev Wa(a b:Nat):RI:=omk a b
abbrev Wb(a:Nat)(b:BinOp)(c:Nat)(d:Int):RI:=oo a (Bc b c d) [c]
abbrev Wc(a b:Nat):RI:=oo a (Ld b) [b]
abbrev We(a b c:Nat):FI:=Fs a b (Ld c)
abbrev Wf(a b c:Nat):RI:=on a (Fa b c)
abbrev Wg(a b c d:Nat):FI:=Fs a b (Fa c d)
abbrev Wh(a:Nat)(b:BinOp)(c d:Nat):RI:=oo a (Bb b c d) [c,d]
abbrev Wi(a b c:Nat):RI:=oo a (Pt b c) [b,c]
abbrev Wj(a b:Nat):RI:=oo a (Ln b) [b]
abbrev Wk(a b:Nat)(c:BinOp)(d e:Nat):FI:=Fs a b (Bb c d e)
abbrev Wm(a b c:Nat):RI:=oo a (Ca b [.t c]) [c]
abbrev Wn(a:Nat)(b:Int):RI:=on a (Mc b)
abbrev Wo(a b c:Nat)(d:Int):RI:=oo a (Ca b [.t c,ci d]) [c]
abbrev Wp(a b c:Nat):RI:=oo a (Lt b c) [c]
abbrev Wq(a b c:Nat):RI:=Sr a b c [c]
abbrev Wr(a b c:Nat):RI:=oo a (Fa b c) [c]
abbrev Ws(a b c d e:Nat):FI:=Fs a b (Ia c d e)
abbrev Wt(a b c:Nat):RI:=Sr a b c [c,b]
abbrev Wu(a b c:Nat)(d:Bool)(e:Nat):FI:=Fi a b c d (Mv e)
abbrev Wv(a b c d:Nat):FI:=Fs a b (Lt c d)
abbrev Ww(a b c d:Nat):RI:=oo a (Ca b [.t c,.t d]) [c,d]
abbrev Wx(a b:Nat):RI:=oo a (.toInt .u8 (.t b)) [b]
abbrev Wy(a b c:Nat):RI:=oo a (Pf b c) [b,c]
abbrev Wz(a b c:Nat)(d:Bool)(e:Nat):FI:=Fi a b c d (Ld e)
abbrev WA(a b c:Nat)(d:Bool)(e f:Nat):FI:=Fi a b c d (Fa e f)
abbrev WB(a b c d:Nat):RI:=oo a (.app [.u8 0] b (.t c) (.t d)) [c,d]
abbrev WC(a b:Nat):RI:=oo a (.box (.t b)) [b]
abbrev WD(a b:Nat):RI:=oo a (.nchk (.t b)) [b]
abbrev WE(a b:Nat)(c:BinOp)(d:Nat)(e:Int):FI:=Fs a b (Bc c d e)
abbrev WF(a b:Nat):RI:=Sr a a b [b]
abbrev WG(a b c d e:Nat):FI:=Fz a b (Ca c [.t d,.t e])
abbrev WH(a b c d:Nat):RI:=oo a (Ia b c d) [c,d]
abbrev WI(a b c:Nat):RI:=oo a (.ext (.t b) c) [b]
abbrev WJ(a b c:Nat):RI:=on a (.ext (.t b) c)
abbrev WK(a b c:Nat):FI:=Fs a b (.nchk (.t c))
abbrev WL(a b c:Nat)(d:Bool)(e f:Nat):FI:=Fi a b c d (Lt e f)
abbrev WM(a b c:Nat):RI:=oo a (.lit b [.t c]) [c]
abbrev WN(a b c:Nat):RI:=on a (Lt b c)
abbrev WO(a b c d:Nat)(e:Int):FI:=Fz a b (Ca c [.t d,ci e])
abbrev WP(a:Nat)(b:Bool):RI:=on a (Mb b)
abbrev WQ(a b c d:Nat)(e:Int):FI:=Fs a b (.iaddrL c (.t d) (ci e))
abbrev WR(a b:Nat)(c:BinOp)(d:Int)(e:Nat):FI:=Fs a b (.bin c (ci d) (.t e))
abbrev WS(a:Nat)(b:BinOp)(c:Int)(d:Nat):RI:=oo a (.bin b (ci c) (.t d)) [d]
abbrev WT(a b c d:Nat):FI:=Fs a b (.iaddrA 64 1 (.t c) (.t d))
abbrev WU(a:Nat)(b:Bool):RI:=oo a (Mb b) [a]
abbrev WV(a b:Nat):RI:=oo a (.un .not (.t b)) [b]
abbrev WW(a:Nat):RI:=on a (.new (.rc Zq0))
abbrev WX(a:Nat)(b:Int):RI:=oo a (Mc b) [a]
abbrev WY(a b:Nat):RI:=oo a (.litB [.t b]) [b]
abbrev WZ(a b c d:Nat):FI:=Fz a b (Ca c [.t d])
abbrev W0(a b c d e f:Nat):FI:=Fz a b (Ca c [.t d,.t e,.t f])
abbrev W1(a b:Nat):RI:=oo a (.toInt .u64 (.t b)) [b]
abbrev W4(a b c d:Nat)(e:Int)(f:Nat):FI:=Fz a b (Ca c [.t d,ci e,.t f])
abbrev W5(a b c d:Nat):FI:=Fs a b (.ext (.t c) d)
abbrev W6(a b:Nat)(c:Int)(d:Nat):RI:=oo a (Ca b [ci c,.t d]) [d]
abbrev W7(a:Nat):RI:=on a (.new (.rc Zq1))
abbrev W8(a b c d:Nat):FI:=Fs a b (.lit c [.t d])
abbrev W9(a:Nat):RI:=oo a (.mov (.c (.byt [] .clip))) [a]
abbrev Xa(a b c d e:Nat):FI:=Fz a b (.app [.u8 0] c (.t d) (.t e))
abbrev Xb(a b c:Nat)(d:Int):RI:=oo a (.slcL b (.t c) none (some (ci d)) none) [c]
abbrev Xc(a b c:Nat)(d:Bool)(e f g:Nat):FI:=Fy a b c d (Ca e [.t f,.t g])
abbrev Xd(a b c:Nat):FI:=Fs a b (.toInt .i64 (.t c))
abbrev Xe(a:Nat):RI:=on a (.mov (.c (.byt [] .clip)))
abbrev Xf(a b c:Nat)(d:Int)(e:Nat):RI:=oo a (Ca b [.t c,ci d,.t e]) [c,e]
abbrev Xg(a b:Nat):RI:=oo a (.b2s (.t b)) [b]
abbrev Xh(a b:Nat):RI:=oo a (.toInt .i64 (.t b)) [b]
abbrev Xi(a b c:Nat)(d:Int):FI:=Fs a b (.iaddrA 8 1 (.t c) (ci d))
abbrev Xj(a:Nat):RI:=on a (.build Zq1 [])
abbrev Xk(a:Nat):RI:=on a (.new (.rc Zq2))
abbrev Xl(a:Nat)(b:BinOp)(c:Nat):RI:=oo a (.bin b (.t c) (.c (.int .u64 8))) [c]
abbrev Xm(a b:Nat):RI:=on a (.nchk (.t b))
abbrev Xn(a b c:Nat):FI:=Fs a b (.toInt .u8 (.t c))
abbrev Xo(a b c d e:Nat):RI:=oo a (Ca b [.t c,.t d,.t e]) [c,d,e]
abbrev Xp(a b:Nat)(c:Int):RI:=on a (.iaddrA 8 1 (.t b) (ci c))
abbrev Xq(a:Nat):RI:=on a (.new (.rc [.byt [] .clip,.int .i64 0]))
abbrev Xr(a:Nat):RI:=on a (.new (.rc Zq3))
abbrev Xs(a:Nat):RI:=on a (.mov (.c (.lst 1 [] .clip)))
abbrev Xt(a:Nat)(b:Bool)(c:Nat):RI:=oo a (.len b (.t c)) [c]
abbrev Xu(a b c d e:Nat):FI:=Fs a b (.slcL c (.t d) none (some (.t e)) none)
abbrev Xv(a b c d e f:Nat):RI:=oo a (Ca b [.t c,.t d,.t e,.t f]) [c,d,e,f]
abbrev Xw(a b c:Nat)(d:Int):RI:=oo a (.iaddrL b (.t c) (ci d)) [c]
abbrev Xx(a b c d:Nat):RI:=oo a (.app [.byt [] .clip] b (.t c) (.t d)) [c,d]
abbrev Xy(a b c:Nat):RI:=oo a (.app [.u8 0] b (.c (.byt [] .clip)) (.t c)) [c]
abbrev Xz(a b:Nat)(c:BinOp)(d:Nat):FI:=Fs a b (.bin c (.t d) (.c (.int .u64 8)))
abbrev XA(a b c d e:Nat):FI:=Fs a b (.slcL c (.t d) (some (.t e)) none none)
abbrev XB(a b:Nat)(c:Bool)(d e f g:Nat)(h:Bool)(i j k:Nat)(l:Bool)(m:BinOp)(n:Nat)(o:Int):RI:= .grp 24 false [(xi a b c (Fa d e)),(xi f g h (Ld i)),(xi j k l (Bc m n o))] [25,26]
abbrev XC(a:Nat):RI:=oo a (.mov (.c (.lst 1 [] .clip))) [a]
abbrev XD(a:Nat):RI:=on a (.new (.arr 1 (aL 64 [.int .u32 0])))
abbrev XE(a b c d e:Nat):RI:=oo a (.slcL b (.t c) (some (.t d)) (some (.t e)) none) [c,d,e]
abbrev XF(a b c d e:Nat):FI:=Fz a b (.app [.int .i64 0] c (.t d) (.t e))
abbrev XG(a b c:Nat)(d:Int):RI:=oo a (.slcL b (.t c) (some (ci d)) none none) [c]
abbrev XH(a:Nat)(b:BinOp)(c:Nat):RI:=oo a (.bin b (.t c) (.c (.int .u64 24))) [c]
abbrev XI(a:Nat)(b:BinOp)(c:Nat):RI:=oo a (.bin b (.t c) (.c (.int .u64 16))) [c]
abbrev XJ(a b c d e:Nat):RI:=oo a (.litB [.t b,.t c,.t d,.t e]) [b,c,d,e]
abbrev XK(a b c:Nat)(d e:Int):RI:=oo a (.slcL b (.t c) none (some (ci d)) (some (ci e))) [c]
abbrev XL(a b c:Nat):RI:=oo a (.call (.t b) [.t c]) [b,c]
abbrev XM(a b c d e:Nat):RI:=oo a (.lit b [.t c,.t d,.t e]) [c,d,e]
abbrev XN(a:Nat):RI:=on a (.new (.rc [.lst 2 [] .clip,.int .i64 0]))
abbrev XO(a:Nat):RI:=on a (.new (.arr 1 (aL 3 [.str []])))
abbrev XP(a b c d e:Nat):FI:=Fz a b (.app [.int .i64 0,.byt [] .clip] c (.t d) (.t e))
abbrev XQ(a b c d:Nat):RI:=oo a (.slcL b (.t c) none (some (.t d)) none) [c,d]
abbrev XR(a b c d e:Nat):FI:=Fz a b (.app [.byt [] .clip,.int .i64 0] c (.t d) (.t e))
abbrev XS(a:Nat):RI:=on a (.new (.rc [.int .i64 0,.byt [] .clip]))
abbrev XT(a b c d:Nat):RI:=oo a (.app [.int .i64 0] b (.t c) (.t d)) [c,d]
abbrev XU(n:Nat)(l:List Nat)(x:RC):RC:=Kc n (Kk [n] .skip) (Kk l x)
abbrev XV(n:Nat)(l:List Nat)(x:RC):RC:=Kc n (Kk l x) (Kk [n] .skip)
def xtV:Lb:=[WC 4 0,WU 8 false]
def xn2:Lb:=[on 14 (Ca 9 []),WV 15 14]
def xn1:Lb:=[WP 8 false]
def xtU:Lb:=[Wa 16 1,Wa 17 2,Ww 18 10 16 17,XN 9,Wq 2 9 18]
def xtT:Lb:=[Wa 19 3]
def xtS:Lb:=[Wf 20 0 4,Wc 21 20,Wj 22 21,Wb 23 .gtr 22 6]
def xtR:Lb:=[Wf 24 0 4,Wc 25 24,Xb 26 2 25 6,Wf 27 0 4,Wt 1 27 26]
def xtQ:Lb:=[Wp 28 2 4,Wq 2 9 28]
def xtP:Lb:=[WN 30 2 9,Wm 31 11 30,Wa 29 31,WJ 32 29 0,WI 33 29 1,W7 10,Wq 4 10 32,Wa 11 33]
def xtO:Lb:=[Wp 35 2 9,Wm 36 12 35,Wa 34 36,WJ 37 34 0,WI 38 34 1,W7 12,Wq 4 12 37,Wa 13 38]
def xfI:Lb:=[Wa 39 11,Wa 40 13,Wh 41 .eql 39 40,Wa 42 41,.grp 42 true [(xi 43 42 true (Lt 4 10)),(xi 44 42 true (Lt 4 12)),(xi 45 42 true (Ca 13 [.t 43,.t 44]))] [10,12,43,44],Wy 46 42 45,Wa 8 46]
def r3:RC:=(So xtV (Sq (So xn2 (XV 15 [1,2,3,4,15] (So xn1 .ret))) (So xtU (Sq (So xtT (Kc 19 (Kk [19] (Sq (So xtS (XV 23 [23] (.ops xtR))) (.ops xtQ))) (Kk [4,19] .skip))) (So xtP (So xtO (So xfI .ret)))))))
def F3:FnC:=⟨r3,47,[.tmp 8],[],[]⟩
def xn0:Lb:=[WU 10 false]
def D4:Lb:=[WP 10 false]
def xtN:Lb:=[Wa 16 4,WV 17 16]
def xtM:Lb:=[Wa 18 2,Wo 19 21 18 45,Wa 2 19]
def xtL:Lb:=[on 20 (Ca 10 [ci 0,ci 0]),Wa 21 0,Wa 22 1,Wm 23 15 22,oo 24 (Ca 14 [.t 21,.t 23,ci 7]) [21,23],Ww 25 23 20 24,W7 11,Wq 4 11 25]
def xtK:Lb:=[on 26 (Ca 24 []),XO 12,Wq 3 12 26]
def xnZ:Lb:=[Wn 13 0]
def xtJ:Lb:=[om 27 13,Wb 28 .lss 27 3]
def xtI:Lc:=[Wv 0 31 4 11,Fm 1 32 13,Fs 2 33 (.iaddrA 3 1 (.t 12) (.t 32)),We 3 34 33,Fm 4 35 2,Wv 6 37 4 11,Fm 7 38 13,Fs 8 39 (.iaddrA 3 1 (.t 12) (.t 38)),We 9 40 39,Fm 10 41 2,W0 5 36 25 31 34 35,W0 11 42 26 37 40 41,Wk 12 43 .neq 36 42]
def xc3:Lb:=[Wa 29 13,Wb 30 .add 29 1,Wa 13 30]
def IJ:RC:=(Sq (So xtJ (XU 28 [12,13,28] (.exit 0))) (Sq (Bk 1 (Sq (.flt [0,0,2,6,0,31,0,0,128,384,0,2047,4095] [] xtI [31,32,33,34,35,36,37,38,39,40,41,42]) (XV 43 [2,3,11,12,13,43] (So D4 .ret)))) (.ops xc3)))
def In:RC:=IJ
def xc2:Lc:=[Wv 0 44 4 11,Fm 1 45 2,Wv 3 47 4 11,Fm 4 48 2,WG 2 46 28 44 45,WG 5 49 29 47 48,WG 6 50 27 46 49,Fm 7 51 50,WL 8 52 51 true 4 11,Wu 9 53 51 true 3,Wu 10 54 51 true 2,WL 12 56 51 true 4 11,Wu 13 57 51 true 3,Wu 14 58 51 true 2,Fy 11 55 51 true (Ca 25 [.t 52,.t 53,.t 54]),Fy 15 59 51 true (Ca 26 [.t 56,.t 57,.t 58]),Fi 16 60 51 true (Bb .eql 55 59),Fs 17 61 (Pf 51 60),Fm 18 10 61]
def r6:RC:=(So xn0 (Sq (So xn2 (XV 15 [0,1,2,3,4,15] (So D4 .ret))) (Sq (So xtN (XV 17 [17] (.ops xtM))) (So xtL (So xtK (Sq (So xnZ (Bk 0 (.loop In))) (Sq (.flt [0,0,3,0,0,31,63,127,255,255,255,2047,255,255,255,32767,65535,131071,262143] [] xc2 [2,3,11,44,45,46,47,48,49,50,51,52,53,54,55,56,57,58,59,60,61]) .ret)))))))
def F6:FnC:=⟨r6,62,[.tmp 10],[],[]⟩
def xtH:Lb:=[on 22 (Ca 9 []),WV 23 22]
def xtG:Lb:=[Wa 24 1,Wm 25 15 24,Wa 11 25]
def xtF:Lb:=[on 26 (Ca 10 [ci 0,ci 0]),Wa 27 0,om 28 11,oo 29 (Ca 14 [.t 27,.t 28,ci 6]) [27,28],Ww 30 23 26 29,W7 12,Wq 4 12 30]
def xtE:Lb:=[WN 31 4 12,W7 13,Wq 4 13 31]
def xtD:Lb:=[Wa 32 2,Wa 33 11,oo 34 (Ca 14 [.t 32,.t 33,ci 1]) [32,33],Wa 14 34]
def xtC:Lb:=[om 35 14,Wj 36 35,Wb 37 .gtr 36 0]
def xtB:Lc:=[Wv 0 39 4 12,Fm 1 40 14,WQ 2 41 2 40 0,Wv 3 42 2 41,WG 4 43 19 39 42,Fm 5 38 43,W5 6 44 38 0,W5 7 45 38 1,Fz 8 15 (.new (.rc Zq1)),Fr 9 4 15 44,Fm 10 16 45]
def xtA:Lb:=[Wa 46 16,Wb 47 .neq 46 0]
def xb9:Lb:=[Wp 48 4 15,Wq 4 13 48]
def xb8:Lb:=[Wa 49 3,Wo 50 21 49 40,Wa 3 50]
def xb7:Lb:=[om 51 3,Wa 52 4,Wo 53 21 52 20,Wh 54 .add 51 53,Wa 4 54]
def xb6:Lb:=[on 55 (Ca 24 []),XO 17,Wq 3 17 55]
def xb5:Lb:=[Wn 18 0]
def xb4:Lb:=[om 56 18,Wb 57 .lss 56 3]
def xb3:Lc:=[Wv 0 60 4 12,Fm 1 61 18,Fs 2 62 (.iaddrA 3 1 (.t 17) (.t 61)),We 3 63 62,Fm 4 64 3,Wv 6 66 4 12,Fm 7 67 18,Fs 8 68 (.iaddrA 3 1 (.t 17) (.t 67)),We 9 69 68,Fm 10 70 4,W0 5 65 25 60 63 64,W0 11 71 25 66 69 70,Wk 12 72 .gtr 65 71,Fm 13 73 72,WL 14 74 73 false 4 12,Wu 15 75 73 false 18,Fi 16 76 73 false (.iaddrA 3 1 (.t 17) (.t 75)),Wz 17 77 73 false 76,Wu 18 78 73 false 3,WL 20 80 73 false 4 13,Wu 21 81 73 false 18,Fi 22 82 73 false (.iaddrA 3 1 (.t 17) (.t 81)),Wz 23 83 73 false 82,Wu 24 84 73 false 3,Fy 19 79 73 false (Ca 25 [.t 74,.t 77,.t 78]),Fy 25 85 73 false (Ca 25 [.t 80,.t 83,.t 84]),Fi 26 86 73 false (Bb .gtr 79 85),Fs 27 87 (Pt 73 86)]
def xb2:Lb:=[Wa 58 18,Wb 59 .add 58 1,Wa 18 59]
def II:RC:=(Sq (So xb4 (XU 57 [13,17,18,57] (.exit 0))) (Sq (Bk 1 (Sq (.flt [0,0,2,6,0,31,0,0,128,384,0,2047,4095,8191,16383,16383,49151,114687,16383,524287,16383,16383,2113535,6307839,16383,33554431,67108863,134217727] [] xb3 [60,61,62,63,64,65,66,67,68,69,70,71,72,73,74,75,76,77,78,79,80,81,82,83,84,85,86]) (XV 87 [3,4,12,13,17,18,87] (So D4 .ret)))) (.ops xb2)))
def Il:RC:=II
def xb1:Lb:=[WN 88 4 12,om 89 4,Ww 90 28 88 89,Wa 19 90]
def xb0:Lb:=[Wn 20 0]
def xbZ:Lb:=[om 91 20,om 92 19,Wj 93 92,Wh 94 .lss 91 93]
def xbY:Lc:=[Fm 0 97 19,Fm 1 98 20,Ws 2 99 7 97 98,Wg 3 100 1 99,We 4 101 100,Wv 5 102 4 12,Fm 6 103 19,Fm 7 104 20,Ws 8 105 7 103 104,Wg 9 106 0 105,We 10 107 106,Fm 11 108 4,W0 12 109 25 102 107 108,Wk 13 110 .lss 101 109,Fm 14 111 110,Wu 15 112 111 false 19,Wu 16 113 111 false 20,Fi 17 114 111 false (Ia 7 112 113),WA 18 115 111 false 3 114,Wz 19 116 111 false 115,Wu 20 117 111 false 4,Fi 21 118 111 false (Bb .gtr 116 117),Fs 22 119 (Pt 111 118),Fm 23 120 119,Wu 24 121 120 false 19,Wu 25 122 120 false 20,Fi 26 123 120 false (Ia 7 121 122),WA 27 124 120 false 4 123,Wz 28 125 120 false 124,Wu 29 126 120 false 4,Fi 30 127 120 false (Bb .leq 125 126),Fs 31 128 (Pt 120 127)]
def xbX:Lb:=[Wn 21 0]
def xbW:Lb:=[om 129 21,Wf 130 3 12,Wc 131 130,Wj 132 131,Wh 133 .lss 129 132]
def xbV:Lc:=[Wg 0 136 3 12,We 1 137 136,Fm 2 138 21,Ws 3 139 2 137 138,Wg 4 140 1 139,We 5 141 140,Fm 6 142 3,Wk 7 143 .leq 141 142,Fm 8 144 143,WA 9 145 144 true 3 12,Wz 10 146 144 true 145,Wu 11 147 144 true 21,Fi 12 148 144 true (Ia 2 146 147),WA 13 149 144 true 0 148,Wz 14 150 144 true 149,Wu 15 151 144 true 19,Wu 16 152 144 true 20,Fi 17 153 144 true (Ia 7 151 152),WL 18 154 144 true 7 153,Fy 19 155 144 true (Ca 32 [.t 154]),Xc 20 156 144 true 31 150 155,Fs 21 157 (Pf 144 156)]
def xbU:Lb:=[Wa 134 21,Wb 135 .add 134 1,Wa 21 135]
def IH:RC:=(Sq (So xbW (XU 133 [21,133] (.exit 4))) (Sq (Bk 5 (Sq (.flt [0,1,0,7,15,31,0,127,255,511,1023,511,4095,8191,16383,511,511,98815,229887,492031,1048575,2097151] [] xbV [136,137,138,139,140,141,142,143,144,145,146,147,148,149,150,151,152,153,154,155,156]) (XV 157 [3,4,12,19,20,21,157] (So D4 .ret)))) (.ops xbU)))
def Ik:RC:=IH
def xbT:Lb:=[Wa 95 20,Wb 96 .add 95 1,Wa 20 96]
def IG:RC:=(Sq (So xbZ (XU 94 [3,4,12,19,20,94] (.exit 2))) (Sq (Bk 3 (Sq (Sq (.flt [0,0,3,7,15,0,0,0,192,448,960,0,4064,8191,16383,32767,32767,131071,262143,524287,32767,2097151,4194303,8388607,16777215,16777215,67108863,134217727,268435455,16777215,1073741823,2147483647] [] xbY [97,98,99,100,101,102,103,104,105,106,107,108,109,110,111,112,113,114,115,116,117,118,119,120,121,122,123,124,125,126,127]) (XV 128 [3,4,12,19,20,128] (So D4 .ret))) (So xbX (Bk 4 (.loop Ik))))) (.ops xbT)))
def Ij:RC:=IG
def xbS:Lb:=[WP 10 true]
def r8:RC:=(So xn0 (Sq (So xtH (XV 23 [0,1,2,3,4,23] (So D4 .ret))) (So xtG (So xtF (So xtE (So xtD (Sq (So xtC (Kc 37 (Kk [37] (Sq (.fla [0,0,2,6,15,31,63,63,0,383,1023] [115] xtB [[0,1,2,3,4,5,6,7,8,9,10],[0,1,2,3,8,4,5,6,7,9,10]] [14,38,39,40,41,42,43,44,45]) (Sq (So xtA (XV 47 [3,4,12,13,15,47] (So D4 .ret))) (.ops xb9)))) (Kk [14,37] .skip))) (So xb8 (So xb7 (So xb6 (Sq (So xb5 (Bk 0 (.loop Il))) (So xb1 (Sq (So xb0 (Bk 2 (.loop Ij))) (So xbS .ret))))))))))))))
def F8:FnC:=⟨r8,158,[.tmp 10],[],[]⟩
def xtz:Lb:=[WU 0 false]
def xty:Lb:=[on 12 (Ca 10 [ci 0,ci 0]),Wm 13 11 12,Wa 11 13,WJ 14 11 0,WI 15 11 1,W7 1,Wq 4 1 14,Wa 2 15]
def xtx:Lb:=[on 16 (.build Zq0 [(0,1,(.c (.str [118]))),(1,1,(ci 1)),(4,1,(ci 100))]),WW 3,Wq 7 3 16]
def xtw:Lb:=[on 17 (.build Zq0 [(0,1,(.c (.str [118]))),(1,1,(ci 2)),(2,1,(ci 2)),(3,1,(ci 10)),(4,1,(ci 100))]),WW 4,Wq 7 4 17]
def xtv:Lc:=[Wv 0 19 4 1,Wv 1 20 7 3,WZ 2 21 34 20,WO 3 22 33 21 1,WG 4 23 19 19 22,Fm 5 18 23,W5 6 24 18 0,W5 7 25 18 1,Fr 8 4 1 24,Fm 9 5 25]
def xtu:Lc:=[Wv 0 27 4 1,Wv 1 28 7 4,WZ 2 29 34 28,WO 3 30 33 29 1,WG 4 31 19 27 30,Fm 5 26 31,W5 6 32 26 0,W5 7 33 26 1,Fr 8 4 1 32,Fm 9 6 33]
def xtt:Lc:=[Wv 0 35 4 1,Wv 1 36 7 4,WZ 2 37 36 36,Fs 3 38 (.build [.byt [] .clip,.int .i64 0] [(0,1,(.t 37)),(1,1,(ci 12))]),WZ 4 39 35 38,WO 5 40 33 39 1,WG 6 41 19 35 40,Fm 7 34 41,W5 8 42 34 0,W5 9 43 34 1,Fr 10 4 1 42,Fm 11 7 43]
def xts:Lc:=[Wv 0 44 4 1,Wv 2 46 4 1,Wv 4 48 4 1,WO 1 45 28 44 9,WO 3 47 28 46 10,WO 5 49 28 48 12,Fm 6 8 45,Fm 7 9 47,Fm 8 10 49]
def xtr:Lb:=[Wa 50 2,Wb 51 .eql 50 0,Wa 52 51,.grp 52 true [(xi 53 52 true (Mv 5)),(xi 54 52 true (Bc .eql 53 0))] [5,53],Wy 55 52 54,Wa 56 55,.grp 56 true [(xi 57 56 true (Mv 6)),(xi 58 56 true (Bc .eql 57 0))] [6,57],Wy 59 56 58,Wa 60 59,.grp 60 true [(xi 61 60 true (Mv 7)),(xi 62 60 true (Bc .eql 61 0))] [7,61],Wy 63 60 62,Wa 64 63,.grp 64 true [(xi 65 64 true (Mv 8)),(xi 66 64 true (Ln 65)),(xi 67 64 true (Bc .eql 66 1))] [65,66],Wy 68 64 67,Wa 69 68,.grp 69 true [(xi 70 69 true (Mv 8)),(xi 71 69 true (.iaddrL 7 (.t 70) (ci 0))),(xi 72 69 true (Fa 1 71)),(xi 73 69 true (Ld 72)),(xi 74 69 true (Bc .eql 73 1))] [8,70,71,72,73],Wy 75 69 74,Wa 76 75,.grp 76 true [(xi 77 76 true (Mv 9)),(xi 78 76 true (Ln 77)),(xi 79 76 true (Bc .eql 78 1))] [77,78],Wy 80 76 79,Wa 81 80,.grp 81 true [(xi 82 81 true (Mv 9)),(xi 83 81 true (.iaddrL 7 (.t 82) (ci 0))),(xi 84 81 true (Fa 1 83)),(xi 85 81 true (Ld 84)),(xi 86 81 true (Bc .eql 85 2))] [9,82,83,84,85],Wy 87 81 86,Wa 88 87,.grp 88 true [(xi 89 88 true (Mv 10)),(xi 90 88 true (Ln 89)),(xi 91 88 true (Bc .eql 90 0))] [10,89,90],Wy 92 88 91,Wa 93 92,.grp 93 true [(xi 94 93 true (Lt 4 1)),(xi 95 93 true (Ca 25 [.t 94,(.c (.str [118])),ci 12])),(xi 96 93 true (Bc .eql 95 2))] [1,94,95],Wy 97 93 96,Wa 0 97]
def r9:RC:=(So xtz (So xty (So xtx (So xtw (Sq (.flt [0,0,2,6,15,31,63,63,127,511] [] xtv [3,18,19,20,21,22,23,24,25]) (Sq (.flt [0,0,2,6,15,31,63,63,127,511] [] xtu [26,27,28,29,30,31,32,33]) (Sq (.flt [0,0,2,6,14,30,63,127,255,255,511,2047] [] xtt [4,34,35,36,37,38,39,40,41,42,43]) (Sq (.flt [0,1,0,7,0,31,63,127,255] [] xts [44,45,46,47,48,49]) (So xtr .ret)))))))))
def F9:FnC:=⟨r9,98,[.tmp 0],[],[]⟩
def xhK:Lb:=[XN 4]
def xhJ:Lb:=[XN 5]
def jO:Lb:=[Wn 6 0]
def xhI:Lb:=[om 7 6,om 8 0,Wo 9 21 8 3,Wh 10 .leq 7 9]
def xhH:Lc:=[Wg 0 13 0 5,We 1 14 13,Fm 2 15 6,WR 3 16 .mul 2 15,WR 4 17 .add 3 16,Fm 5 18 6,WR 6 19 .mul 2 18,WR 7 20 .add 3 19,WZ 8 21 38 20,WO 9 22 37 21 1,Fs 10 23 (.build [.int .i64 0,.byt [] .clip] [(0,1,(.t 17)),(1,1,(.t 22))]),W8 11 24 2 23,XP 12 25 32 14 24,Wg 13 26 0 5,Fr 14 1 26 25]
def VC:Lb:=[Wa 11 6,Wb 12 .add 11 1,Wa 6 12]
def V7:RC:=(Sq (So xhI (XU 10 [0,6,10] (.exit 0))) (Sq (Bk 1 (.flt [0,1,0,4,12,0,32,96,224,480,1020,2044,4095,8191,16383] [125] xhH [13,14,15,16,17,18,19,20,21,22,23,24,25,26])) (.ops VC)))
def xhG:RC:=V7
def xhF:Lb:=[Wa 27 1,Wf 28 0 5,Wc 29 28,Wj 30 29,Ww 31 21 27 30,WS 32 .add 1 31,Wf 33 1 5,Wt 1 33 32]
def xhE:Lb:=[Wp 34 2 5,Wq 2 4 34]
def r10:RC:=(So xhK (So xhJ (Sq (So jO (Bk 0 (.loop xhG))) (So xhF (So xhE .ret)))))
def F10:FnC:=⟨r10,35,[.cell 4 2 true],[],[]⟩
def VB:Lb:=[WC 1 0,W7 2,WX 3 0]
def xhD:Lb:=[WN 5 2 1,Wm 6 39 5,Wa 4 6]
def VA:Lb:=[om 7 4,Wb 8 .neq 7 0]
def Vz:Lb:=[Xj 9,Wa 10 4,Wq 4 2 9,Wa 3 10]
def Vy:Lb:=[Wp 11 2 1,oo 12 (.build Zq1 [(0,2,(.t 11))]) [11],Wq 4 2 12,Wn 3 0]
def r11:RC:=(So VB (Sq (So xhD (So VA (Kc 8 (Kk [1,8] (So Vz .ret)) (Kk [4,8] .skip)))) (So Vy .ret)))
def F11:FnC:=⟨r11,13,[.cell 2 4 true,.tmp 3],[],[]⟩
def xhC:Lb:=[WN 5 2 1,Wm 6 40 5,Wa 4 6]
def r12:RC:=(So VB (Sq (So xhC (So VA (Kc 8 (Kk [1,8] (So Vz .ret)) (Kk [4,8] .skip)))) (So Vy .ret)))
def F12:FnC:=⟨r12,13,[.cell 2 4 true,.tmp 3],[],[]⟩
def AM:Lb:=[WC 2 0,WC 3 1,WU 4 false]
def xhB:Lb:=[Wf 7 2 2,Wc 8 7,Wf 9 2 3,Wc 10 9,Ww 11 27 8 10,WV 12 11,Wa 13 12,.grp 13 false [(xi 14 13 false (Fa 3 2)),(xi 15 13 false (Ld 14)),(xi 16 13 false (Ln 15)),(xi 17 13 false (Fa 3 3)),(xi 18 13 false (Ld 17)),(xi 19 13 false (Ln 18)),(xi 20 13 false (Bb .neq 16 19))] [14,15,16,17,18,19],Wi 21 13 20,Wa 22 21,.grp 22 false [(xi 23 22 false (Fa 0 2)),(xi 24 22 false (Fa 1 23)),(xi 25 22 false (Ld 24)),(xi 26 22 false (Fa 0 3)),(xi 27 22 false (Fa 1 26)),(xi 28 22 false (Ld 27)),(xi 29 22 false (Bb .neq 25 28))] [23,24,25,26,27,28],Wi 30 22 29,Wa 31 30,.grp 31 false [(xi 32 31 false (Fa 0 2)),(xi 33 31 false (Fa 0 32)),(xi 34 31 false (Ld 33)),(xi 35 31 false (Ln 34)),(xi 36 31 false (Fa 0 3)),(xi 37 31 false (Fa 0 36)),(xi 38 31 false (Ld 37)),(xi 39 31 false (Ln 38)),(xi 40 31 false (Bb .neq 35 39))] [32,33,34,35,36,37,38,39],Wi 41 31 40]
def mI:Lb:=[WP 4 false]
def pq:Lb:=[Wn 5 0]
def xhA:Lb:=[om 42 5,Wf 43 3 2,Wc 44 43,Wj 45 44,Wh 46 .lss 42 45]
def xhz:Lc:=[Wg 0 49 3 2,We 1 50 49,Fm 2 51 5,Ws 3 52 2 50 51,Wv 4 53 2 52,Wg 5 54 3 3,We 6 55 54,Fm 7 56 5,Ws 8 57 2 55 56,Wv 9 58 2 57,WG 10 59 41 53 58,Fs 11 60 (.un .not (.t 59))]
def xhy:Lb:=[Wa 47 5,Wb 48 .add 47 1,Wa 5 48]
def V6:RC:=(Sq (So xhA (XU 46 [5,46] (.exit 0))) (Sq (Bk 1 (Sq (.flt [0,1,0,7,15,0,32,0,224,480,1023,2047] [] xhz [49,50,51,52,53,54,55,56,57,58,59]) (XV 60 [2,3,5,60] (So mI .ret)))) (.ops xhy)))
def Vx:RC:=V6
def Rq:Lb:=[om 61 6,Wf 62 0 2,Wr 63 0 62,Wc 64 63,Wj 65 64,Wh 66 .lss 61 65]
def Rp:Lc:=[Wg 0 69 0 2,Wg 1 70 0 69,We 2 71 70,Fm 3 72 6,Ws 4 73 2 71 72,Wg 5 74 0 73,We 6 75 74,Wg 7 76 0 3,Wg 8 77 0 76,We 9 78 77,Fm 10 79 6,Ws 11 80 2 78 79,Wg 12 81 0 80,We 13 82 81,Wk 14 83 .neq 75 82,Fm 15 84 83,WA 16 85 84 false 0 2,WA 17 86 84 false 0 85,Wz 18 87 84 false 86,Wu 19 88 84 false 6,Fi 20 89 84 false (Ia 2 87 88),WA 21 90 84 false 1 89,Wz 22 91 84 false 90,WA 23 92 84 false 0 3,WA 24 93 84 false 0 92,Wz 25 94 84 false 93,Wu 26 95 84 false 6,Fi 27 96 84 false (Ia 2 94 95),WA 28 97 84 false 1 96,Wz 29 98 84 false 97,Xc 30 99 84 false 31 91 98,Fi 31 100 84 false (.un .not (.t 99)),Fs 32 101 (Pt 84 100)]
def Ro:Lb:=[Wa 67 6,Wb 68 .add 67 1,Wa 6 68]
def Ds:RC:=(Sq (So Rq (XU 66 [2,3,6,66] (.exit 2))) (Sq (Bk 3 (Sq (.flt [0,1,3,0,15,31,63,0,128,384,0,1920,3968,8064,16383,32767,65535,131071,262143,65535,1048575,2097151,4194303,65535,8454143,25231359,65535,125894655,260112383,528547839,1073741823,2147483647,4294967295] [] Rp [69,70,71,72,73,74,75,76,77,78,79,80,81,82,83,84,85,86,87,88,89,90,91,92,93,94,95,96,97,98,99,100]) (XV 101 [2,3,6,101] (So mI .ret)))) (.ops Ro)))
def Cn:RC:=Ds
def sQ:Lb:=[WP 4 true]
def r13:RC:=(So AM (Sq (So xhB (XV 41 [2,3,41] (So mI .ret))) (Sq (So pq (Bk 0 (.loop Vx))) (Sq (So jO (Bk 2 (.loop Cn))) (So sQ .ret)))))
def F13:FnC:=⟨r13,102,[.tmp 4],[],[]⟩
def xhx:Lb:=[oo 6 (.mov (.c (.lst 2 [] .clip))) [6]]
def xhw:Lb:=[Wa 12 0,Wo 13 16 12 160,Wa 7 13]
def xhv:Lb:=[on 8 (.mov (.c (.lst 2 [] .clip)))]
def xhu:Lb:=[on 9 (.mov (.c (.lst 7 [] .clip)))]
def xht:Lb:=[om 14 7,Wm 15 42 14,Wa 16 15,.grp 16 true [(xi 17 16 true (Mv 8)),(xi 18 16 true (Ln 17)),(xi 19 16 true (Mv 2)),(xi 20 16 true (Bb .lss 18 19))] [17,18,19],Wy 21 16 20]
def xhs:Lb:=[om 22 9,Wj 23 22,Wb 24 .gtr 23 0,Wa 25 24,.grp 25 true [(xi 26 25 true (Mv 7)),(xi 27 25 true (Ca 17 [.t 26,ci 3])),(xi 28 25 true (Bc .eql 27 2))] [26,27],Wy 29 25 28]
def xhr:Lb:=[om 30 9,om 31 7,om 32 9,Wj 33 32,Ww 34 17 31 33,WH 35 7 30 34,Wp 36 7 35,oo 37 (Ca 36 [.t 36]) [36],Wa 10 37]
def xhq:Lb:=[om 38 7,Wo 39 17 38 5,Wb 40 .eql 39 4]
def xhp:Lb:=[om 41 7,Wo 42 17 41 3,Wx 43 42,WY 44 43,Wm 45 43 44,Wa 10 45]
def xho:Lb:=[Wa 46 8,Wa 47 10,om 48 7,Wo 49 17 48 30,oo 50 (.build [.byt [] .clip,.int .i64 0] [(0,1,(.t 47)),(1,1,(.t 49))]) [47,49],Wm 51 35 50,Wo 52 33 51 7,WM 53 2 52,oo 54 (.app Zq4 48 (.t 46) (.t 53)) [46,53],Wa 8 54]
def Qm:Lb:=[om 55 7,om 56 1,Ww 57 44 55 56,WW 11,Wq 7 11 57]
def Ql:Lb:=[Wa 58 9,WN 59 7 11,WM 60 7 59,oo 61 (.app Zq0 96 (.t 58) (.t 60)) [58,60],Wa 9 61]
def P9:Lb:=[Wa 62 8,Wp 63 7 11,Wm 64 34 63,Wo 65 33 64 7,WM 66 2 65,oo 67 (.app Zq4 48 (.t 62) (.t 66)) [62,66],Wa 8 67]
def Dm:RC:=(.post (Sq (So xht (XU 21 [1,2,7,9,21] (.exit 0))) (Bk 1 (Sq (So xhs (XV 29 [29] (So xhr (Sq (So xhq (XV 40 [10,40] (.ops xhp))) (So xho (.exit 1)))))) (So Qm (So Ql (.ops P9)))))) [.gc [111],.tok 8 108,.tok 9 109])
def kU:RC:=Dm
def P8:Lb:=[Wa 68 8,Wa 6 68]
def r14:RC:=(So xhx (So xhw (So xhv (So xhu (Sq (Bk 0 (.pre [.tok 8 108,.tok 9 109] (.loop kU))) (So P8 .ret))))))
def F14:FnC:=⟨r14,69,[.tmp 6],[],[]⟩
def xhn:Lb:=[oo 2 (.mov (.c (.lst 4 [] .clip))) [2]]
def xhm:Lb:=[Wa 10 0,Wo 11 16 10 200,Wa 3 11]
def xhl:Lb:=[on 4 (.mov (.c (.lst 4 [] .clip)))]
def xhk:Lb:=[Wn 5 1]
def xhj:Lb:=[om 12 5,Wb 13 .leq 12 4]
def xhi:Lb:=[om 16 3,oo 17 (Ca 17 [.t 16,ci 3]) [16],Wa 6 17]
def xhh:Lb:=[om 18 5,Wb 19 .eql 18 1,Wa 20 19,.grp 20 false [(xi 21 20 false (Mv 5)),(xi 22 20 false (Bc .eql 21 3))] [21],Wi 23 20 22]
def xhg:Lb:=[om 24 3,Wo 25 17 24 2,WS 26 .add 1 25,Wa 6 26]
def xhf:Lb:=[om 27 6,Wb 28 .gtr 27 0]
def xhe:Lb:=[om 31 3,om 32 5,Ww 33 45 31 32,Xk 7,Wq 4 7 33]
def Cg:Lb:=[Wn 9 0]
def PF:Lb:=[om 34 9,om 35 4,Wj 36 35,Wh 37 .lss 34 36]
def PE:Lc:=[Fm 0 40 8,Fm 1 41 40,Wu 2 42 41 false 4,Wu 3 43 41 false 9,Fi 4 44 41 false (Ia 4 42 43),WA 5 45 41 false 0 44,Wz 6 46 41 false 45,WA 7 47 41 false 0 7,Wz 8 48 41 false 47,Fi 9 49 41 false (Bb .eql 46 48),Wu 10 50 41 false 49,Wu 11 51 50 true 4,Wu 12 52 50 true 9,Fi 13 53 50 true (Ia 4 51 52),WA 14 54 50 true 1 53,Wz 15 55 50 true 54,WA 16 56 50 true 1 7,Wz 17 57 50 true 56,Fi 18 58 50 true (Bb .eql 55 57),Fi 19 59 41 false (Pf 50 58),Fs 20 60 (Pt 41 59),⟨21,false,(xm 8 60)⟩]
def PD:Lb:=[Wa 38 9,Wb 39 .add 38 1,Wa 9 39]
def Dl:RC:=(Sq (So PF (XU 37 [9,37] (.exit 4))) (Sq (Bk 5 (.flt [0,1,3,3,15,31,63,3,131,511,1023,2047,2047,8191,16383,32767,2047,67583,262143,524287,1048575,2097151] [] PE [40,41,42,43,44,45,46,47,48,49,50,51,52,53,54,55,56,57,58,59,60])) (.ops PD)))
def Cf:RC:=Dl
def PC:Lb:=[Wa 61 8,WV 62 61]
def PB:Lb:=[Wa 63 4,Wp 64 4 7,WM 65 4 64,oo 66 (.app Zq2 56 (.t 63) (.t 65)) [63,65],Wa 4 66]
def PA:Lb:=[Wa 29 6,Wb 30 .sub 29 1,Wa 6 30]
def Dj:RC:=(.post (Sq (So xhf (XU 28 [6,28] (.exit 2))) (Sq (Bk 3 (So xhe (So xn1 (Sq (So Cg (Bk 4 (.loop Cf))) (So PC (Kc 62 (Kk [62] (.ops PB)) (Kk [7,62] .skip))))))) (.ops PA))) [.gc [107],.tok 4 104])
def Ce:RC:=Dj
def Pz:Lb:=[Wa 14 5,Wb 15 .add 14 1,Wa 5 15]
def Di:RC:=(.post (Sq (So xhj (XU 13 [3,5,13] (.exit 0))) (Sq (Bk 1 (So xhi (Sq (So xhh (XV 23 [6,23] (.ops xhg))) (Bk 2 (.pre [.tok 4 104] (.loop Ce)))))) (.ops Pz))) [.gc [107],.tok 4 104])
def sP:RC:=Di
def Py:Lb:=[Wa 67 4,Wa 2 67]
def r15:RC:=(So xhn (So xhm (So xhl (Sq (So xhk (Bk 0 (.pre [.tok 4 104] (.loop sP)))) (So Py .ret)))))
def F15:FnC:=⟨r15,68,[.tmp 2],[],[]⟩
def xhd:Lb:=[oo 4 (.mov (.c .nilp)) [4]]
def xhc:Lb:=[om 5 0,Wj 6 5,om 7 1,Wh 8 .gtr 6 7]
def xhb:Lb:=[Wa 9 0,Wa 10 1,XQ 11 1 9 10,Wa 0 11]
def xha:Lb:=[Wa 12 0,oo 13 (.build [.byt [] .clip,.int .i64 0] [(0,1,(.t 12))]) [12],WC 14 13,Wa 4 14]
def r16:RC:=(So xhd (Sq (So xhc (Kc 8 (Kk [8] (.ops xhb)) (Kk [1,8] .skip))) (So xha .ret)))
def F16:FnC:=⟨r16,15,[.tmp 4],[],[]⟩
def qb:Lb:=[WX 4 0]
def xg9:Lc:=[Fm 0 5 0,WK 1 6 5,Wg 2 7 1 6,We 3 8 7,Fm 4 9 0,WK 5 10 9,Wg 6 11 0 10,We 7 12 11,Fs 8 13 (Ln 12),Wk 9 14 .geq 8 13]
def iX:Lb:=[Wn 4 0]
def xg8:Lb:=[om 15 0,Xm 16 15,Wr 17 1 16,Wc 18 17,Wb 19 .add 18 1,WD 20 15,Wr 21 1 20,Wt 1 21 19]
def xg7:Lc:=[Fm 0 22 0,WK 1 23 22,Wg 2 24 0 23,We 3 25 24,Fm 4 26 0,WK 5 27 26,Wg 6 28 1 27,We 7 29 28,WE 8 30 .sub 29 1,Ws 9 31 1 25 30,We 10 32 31,Xd 11 33 32,Fm 12 34 1,Wk 13 35 .rem 33 34,Fm 14 4 35]
def r17:RC:=(So qb (Sq (Sq (.flt [0,1,3,7,0,16,48,112,240,511] [] xg9 [5,6,7,8,9,10,11,12,13]) (XV 14 [0,1,14] (So iX .ret))) (So xg8 (Sq (.flt [0,1,3,7,0,16,48,112,240,511,1023,2047,0,8191,16383] [] xg7 [0,1,22,23,24,25,26,27,28,29,30,31,32,33,34,35]) .ret))))
def F17:FnC:=⟨r17,36,[.tmp 4],[],[]⟩
def AL:Lb:=[WC 2 0,WC 3 1,W7 4,WX 5 0]
def xg6:Lb:=[Wf 11 0 2,Wp 12 2 11,WN 13 2 3,Ww 14 46 12 13,Wa 6 14]
def xg5:Lb:=[om 15 6,Wb 16 .neq 15 0]
def xg4:Lb:=[Xj 17,Wa 18 6,WF 4 17,Wa 5 18]
def xg3:Lb:=[Wf 20 0 3,Wc 21 20,Wm 22 47 21,Wa 19 22,WJ 23 19 0,WI 24 19 1,WW 7,WF 7 23,Wa 8 24]
def xg2:Lb:=[Wa 25 8,Wb 26 .eql 25 0]
def xg1:Lb:=[Wp 27 4 2,oo 28 (Lt 7 7) [7],Ww 29 48 27 28,WJ 30 29 0,WI 31 29 1,WF 4 30,Wa 5 31]
def xg0:Lb:=[Wr 33 0 3,Wc 34 33,Wm 35 49 34,Wa 32 35,WJ 36 32 0,WI 37 32 1,Xq 9,Wq 2 9 36,Wa 10 37]
def xgZ:Lb:=[om 38 10,Wb 39 .neq 38 0]
def xgY:Lb:=[Xj 40,Wa 41 10,WF 4 40,Wa 5 41]
def Ol:Lb:=[Wp 42 4 2,Wp 43 2 9,Ww 44 50 42 43,WJ 45 44 0,WI 46 44 1,WF 4 45,Wa 5 46]
def r19:RC:=(So AL (Sq (So xg6 (So xg5 (Kc 16 (Kk [2,3,16] (So xg4 .ret)) (Kk [6,16] .skip)))) (Sq (So xg3 (So xg2 (Kc 26 (Kk [3,26] (So xg1 .ret)) (Kk [7,26] .skip)))) (So xg0 (Sq (So xgZ (Kc 39 (Kk [2,9,39] (So xgY .ret)) (Kk [10,39] .skip))) (So Ol .ret))))))
def F19:FnC:=⟨r19,47,[.cell 4 4 true,.tmp 5],[],[]⟩
def xgX:Lb:=[Wf 16 0 2,Wp 17 2 16,WN 18 2 3,Ww 19 51 17 18,Wa 6 19]
def xgW:Lb:=[om 20 6,Wb 21 .neq 20 0]
def xgV:Lb:=[Xj 22,Wa 23 6,WF 4 22,Wa 5 23]
def xgU:Lb:=[Wf 24 2 2,Wc 25 24,Wj 26 25,Wf 27 3 2,Wc 28 27,Wj 29 28,Wh 30 .add 26 29,Wb 31 .geq 30 16,Wa 7 31]
def xgT:Lb:=[Wf 33 0 3,Wc 34 33,Wm 35 52 34,Wa 32 35,WJ 36 32 0,WI 37 32 1,WW 8,Wq 7 8 36,Wa 9 37]
def xgS:Lb:=[Wa 38 9,Wb 39 .eql 38 0]
def xgR:Lb:=[Wf 41 2 2,Wc 42 41,WN 43 7 8,Ww 44 53 42 43,Wa 40 44,WJ 45 40 0,WI 46 40 1,Wa 10 45,Wa 11 46]
def xgQ:Lb:=[Wa 47 11]
def xgP:Lb:=[Wp 48 4 2,WF 4 48,Wn 5 0]
def Ok:Lb:=[Wa 49 7]
def Oj:Lb:=[Xj 50,WF 4 50,Wn 5 25]
def Oi:Lc:=[Fs 0 51 (.lit 7 []),Wg 1 52 2 2,We 2 53 52,Fm 3 54 10,Xu 4 55 7 53 54,Wv 6 57 7 8,W8 7 58 7 57,Wg 9 60 2 2,We 10 61 60,Fm 11 62 10,XA 12 63 7 61 62,Fz 5 56 (.app Zq0 96 (.t 51) (.t 55)),Fz 8 59 (.app Zq0 96 (.t 56) (.t 58)),Fz 13 64 (.app Zq0 96 (.t 59) (.t 63)),Wg 14 65 2 2,Fr 15 1 65 64]
def Oh:Lb:=[Wp 66 4 2,WF 4 66,Wn 5 0]
def Og:Lb:=[Wr 68 0 3,Wc 69 68,Wm 70 54 69,Wa 67 70,WJ 71 67 0,WI 72 67 1,Xq 12,Wq 2 12 71,.op (xm 13 72) [13,72]]
def Of:Lb:=[Wf 74 3 2,Wc 75 74,WN 76 2 12,Ww 77 55 75 76,Wa 73 77,WJ 78 73 0,WI 79 73 1,Wa 14 78,Wa 15 79]
def Oe:Lb:=[Wa 80 15]
def Od:Lb:=[Wp 81 4 2,WF 4 81,Wn 5 0]
def Oc:Lb:=[Wa 82 7]
def Ob:Lb:=[Xj 83,WF 4 83,Wn 5 25]
def Oa:Lc:=[Fs 0 84 (.lit 2 []),Wg 1 85 3 2,We 2 86 85,Fm 3 87 14,Xu 4 88 2 86 87,Wv 6 90 2 12,W8 7 91 2 90,Wg 9 93 3 2,We 10 94 93,Fm 11 95 14,XA 12 96 2 94 95,XR 5 89 32 84 88,XR 8 92 32 89 91,XR 13 97 32 92 96,Wg 14 98 3 2,Fr 15 1 98 97]
def N9:Lb:=[Wp 99 4 2,WF 4 99,Wn 5 0]
def r20:RC:=(So AL (Sq (So xgX (So xgW (Kc 21 (Kk [2,3,21] (So xgV .ret)) (Kk [6,21] .skip)))) (So xgU (So xgT (Sq (So xgS (Kc 39 (Kk [3,39] (So xgR (Sq (So xgQ (XV 47 [7,8,10,47] (So xgP .ret))) (Sq (So Ok (XV 49 [2,8,10,49] (So Oj .ret))) (Sq (.flt [0,0,2,0,14,31,0,64,255,0,512,0,3584,8191,16383,32767] [156,159,164] Oi [8,10,51,52,53,54,55,56,57,58,59,60,61,62,63,64,65]) (So Oh .ret)))))) (Kk [8,39] .skip))) (So Og (So Of (Sq (So Oe (XV 80 [7,12,14,80] (So Od .ret))) (Sq (So Oc (XV 82 [2,12,14,82] (So Ob .ret))) (Sq (.flt [0,0,2,0,14,31,0,64,255,0,512,0,3584,8191,16383,32767] [189,192,197] Oa [12,14,84,85,86,87,88,89,90,91,92,93,94,95,96,97,98]) (So N9 .ret)))))))))))
def F20:FnC:=⟨r20,100,[.cell 4 4 true,.tmp 5],[],[]⟩
def xgO:Lb:=[om 6 1,Wb 7 .lss 6 1]
def xgN:Lb:=[Wa 8 0,om 9 1,Wh 10 .rem 8 9,Wa 5 10]
def xgM:Lb:=[om 11 5,Wb 12 .lss 11 0]
def xgL:Lb:=[Wa 13 5,Wa 14 1,Wh 15 .add 13 14,Wa 5 15]
def xgK:Lb:=[Wa 16 5,Wa 4 16]
def r21:RC:=(So qb (Sq (So xgO (XV 7 [0,1,7] (So iX .ret))) (So xgN (Sq (So xgM (Kc 12 (Kk [12] (.ops xgL)) (Kk [1,12] .skip))) (So xgK .ret)))))
def F21:FnC:=⟨r21,17,[.tmp 4],[],[]⟩
def xgJ:Lb:=[WC 2 0,W7 4]
def xgI:Lb:=[oo 11 (Lt 2 2) [2],oo 12 (Ca 12 [.t 11]) [11],Wa 10 12,WJ 13 10 0,WI 14 10 1,W7 5,Wq 4 5 13,.op (xm 6 14) [6,14]]
def po:Lb:=[Wn 7 0]
def xgH:Lb:=[om 15 7,om 16 1,Wj 17 16,Wh 18 .lss 15 17]
def xgG:Lc:=[Wv 0 22 4 5,Fm 1 23 1,Fm 2 24 7,Ws 3 25 2 23 24,Wv 4 26 2 25,WG 5 27 20 22 26,Fm 6 21 27,W5 7 28 21 0,W5 8 29 21 1,Fz 9 8 (.new (.rc Zq1)),Fr 10 4 8 28,Fm 11 9 29]
def xgF:Lb:=[Wa 30 9,Wb 31 .eql 30 0]
def xgE:Lb:=[Wp 32 4 8,Wq 4 5 32]
def xgD:Lb:=[Wa 19 7,Wb 20 .add 19 1,Wa 7 20]
def V5:RC:=(.post (Sq (So xgH (XU 18 [1,7,18] (.exit 0))) (Sq (Bk 1 (Sq (.fla [0,0,0,6,14,31,63,127,127,0,767,2047] [108] xgG [[0,1,2,3,4,5,6,7,8,9,10,11],[0,1,2,3,4,9,5,6,7,8,10,11]] [21,22,23,24,25,26,27,28,29]) (So xgF (Kc 31 (Kk [31] (.ops xgE)) (Kk [8,31] .skip))))) (.ops xgD))) [.gc [108]])
def Vw:RC:=V5
def xgC:Lb:=[Wp 33 4 5,WF 4 33]
def r23:RC:=(So xgJ (So xgI (Sq (So po (Bk 0 (.loop Vw))) (So xgC .ret))))
def F23:FnC:=⟨r23,34,[.cell 4 4 true],[],[]⟩
def xgB:Lb:=[XO 0]
def xgA:Lb:=[on 1 (.build [.str [],.str [],.str []] [(0,1,(.c (.str [97,99,109,101]))),(1,1,(.c (.str [118,50]))),(2,1,(.c (.str [120,45,121])))]),Wq 3 0 1]
def r24:RC:=(So xgB (So xgA .ret))
def F24:FnC:=⟨r24,2,[.cell 0 3 true],[],[]⟩
def Vv:Lb:=[WC 3 0,WX 6 0]
def xgz:Lb:=[Wr 10 2 3,Wc 11 10,on 12 (Ln 11),Wn 13 0]
def xgy:Lb:=[on 14 (Bb .lss 13 12)]
def xgx:Lb:=[on 15 (Ia 7 11 13),Wp 16 7 15,WW 9,Wq 7 9 16]
def xgw:Lb:=[Wf 17 0 9,Wc 18 17,om 19 1,Wh 20 .eql 18 19,Wa 21 20,.grp 21 true [(xi 22 21 true (Fa 3 9)),(xi 23 21 true (Ld 22)),(xi 24 21 true (Mv 2)),(xi 25 21 true (Bb .leq 23 24))] [22,23,24],Wy 26 21 25]
def xgv:Lb:=[Wa 27 7,Wr 28 2 9,Wc 29 28,oo 30 (.maxi (.t 27) (.t 29)) [27,29],Wa 7 30]
def xgu:Lb:=[Wb 31 .add 13 1,Wa 13 31]
def V4:RC:=(.post (So xgy (Sq (XU 14 [1,2,11,12,13,14] (.exit 0)) (Sq (Bk 1 (So xgx (So xgw (Kc 26 (Kk [26] (.ops xgv)) (Kk [9,26] .skip))))) (.ops xgu)))) [.gc [109]])
def Vu:RC:=V4
def xgt:Lb:=[Wa 32 7,Wa 6 32]
def r25:RC:=(So Vv (So po (Sq (So xgz (Bk 0 (.loop Vu))) (So xgt .ret))))
def F25:FnC:=⟨r25,33,[.tmp 6],[],[]⟩
def pn:Lb:=[Wn 8 0]
def xgs:Lb:=[om 10 8,Wf 11 2 3,Wc 12 11,Wj 13 12,Wh 14 .lss 10 13]
def xgr:Lb:=[Wf 17 2 3,Wc 18 17,om 19 8,WH 20 7 18 19,Wp 21 7 20,WW 9,Wq 7 9 21]
def xgq:Lb:=[Wf 22 0 9,Wc 23 22,om 24 1,Wh 25 .eql 23 24,Wa 26 25,.grp 26 true [(xi 27 26 true (Fa 3 9)),(xi 28 26 true (Ld 27)),(xi 29 26 true (Mv 2)),(xi 30 26 true (Bb .leq 28 29))] [27,28,29],Wy 31 26 30]
def xgp:Lb:=[Wa 32 7,Wr 33 2 9,Wc 34 33,oo 35 (.maxi (.t 32) (.t 34)) [32,34],Wa 7 35]
def xgo:Lb:=[Wa 15 8,Wb 16 .add 15 1,Wa 8 16]
def V3:RC:=(.post (Sq (So xgs (XU 14 [1,2,3,8,14] (.exit 0))) (Sq (Bk 1 (So xgr (So xgq (Kc 31 (Kk [31] (.ops xgp)) (Kk [9,31] .skip))))) (.ops xgo))) [.gc [109]])
def Vt:RC:=V3
def xgn:Lb:=[Wa 36 7,Wa 6 36]
def r26:RC:=(So Vv (So po (Sq (So pn (Bk 0 (.loop Vt))) (So xgn .ret))))
def F26:FnC:=⟨r26,37,[.tmp 6],[],[]⟩
def tz:Lb:=[WU 4 false]
def Vs:Lb:=[om 6 0,Wj 7 6,om 8 1,Wj 9 8,Wh 10 .neq 7 9]
def Vr:Lb:=[om 11 5,om 12 0,Wj 13 12,Wh 14 .lss 11 13]
def xgm:Lc:=[Fm 0 17 0,Fm 1 18 5,Ws 2 19 7 17 18,Wv 3 20 7 19,Fm 4 21 1,Fm 5 22 5,Ws 6 23 7 21 22,Wv 7 24 7 23,WG 8 25 56 20 24,Fs 9 26 (.un .not (.t 25))]
def Vq:Lb:=[Wa 15 5,Wb 16 .add 15 1,Wa 5 16]
def V2:RC:=(Sq (So Vr (XU 14 [0,1,5,14] (.exit 0))) (Sq (Bk 1 (Sq (.flt [0,0,3,7,0,0,48,112,255,511] [] xgm [17,18,19,20,21,22,23,24,25]) (XV 26 [0,1,5,26] (So mI .ret)))) (.ops Vq)))
def Vp:RC:=V2
def r27:RC:=(So tz (Sq (So Vs (XV 10 [0,1,10] (So mI .ret))) (Sq (So pq (Bk 0 (.loop Vp))) (So sQ .ret))))
def F27:FnC:=⟨r27,27,[.tmp 4],[],[]⟩
def Vo:Lb:=[WC 2 0,oo 4 (.mov (.c (.lst 7 [] .clip))) [4]]
def Vn:Lb:=[on 5 (.mov (.c (.lst 7 [] .clip)))]
def xgl:Lb:=[Wf 8 2 2,Wc 9 8,on 10 (Ln 9),Wn 11 0]
def xgk:Lb:=[on 12 (Bb .lss 11 10)]
def xgj:Lb:=[on 13 (Ia 7 9 11),Wp 14 7 13,WW 7,WF 7 14]
def xgi:Lc:=[Wg 0 15 3 7,We 1 16 15,Fm 2 17 1,Wk 3 18 .leq 16 17,Fm 4 19 18,Wu 5 20 19 true 1,WA 6 21 19 true 4 7,Wz 7 22 19 true 21,Fi 8 23 19 true (Bb .lss 20 22),Fs 9 24 (Pf 19 23),Fm 10 25 24,WA 11 26 25 true 1 7,Wz 12 27 25 true 26,WL 13 28 25 true 4 2,WA 14 29 25 true 0 7,Wz 15 30 25 true 29,Wu 16 31 25 true 1,Fy 17 32 25 true (Ca 25 [.t 28,.t 30,.t 31]),Fi 18 33 25 true (Bb .geq 27 32),Fs 19 34 (Pf 25 33),Fm 20 35 34,WL 21 36 35 true 4 2,WL 22 37 35 true 7 7,Wu 23 38 35 true 1,Fy 24 39 35 true (Ca 57 [.t 36,.t 37,.t 38]),Fi 25 40 35 true (.un .not (.t 39)),Fs 26 41 (Pf 35 40)]
def xgh:Lb:=[Wa 42 5,oo 43 (Lt 7 7) [7],WM 44 7 43,oo 45 (.app Zq0 96 (.t 42) (.t 44)) [42,44],Wa 5 45]
def xgg:Lb:=[Wb 46 .add 11 1,Wa 11 46]
def V1:RC:=(.post (So xgk (Sq (XU 12 [1,2,9,10,11,12] (.exit 0)) (Sq (Bk 1 (So xgj (Sq (.flt [0,1,0,7,15,31,31,95,255,511,1023,2047,4095,2047,2047,18431,2047,124927,262143,524287,1048575,2097151,2097151,2097151,16777215,33554431,67108863] [] xgi [15,16,17,18,19,20,21,22,23,24,25,26,27,28,29,30,31,32,33,34,35,36,37,38,39,40]) (Kc 41 (Kk [41] (.ops xgh)) (Kk [7,41] .skip))))) (.ops xgg)))) [.gc [107],.tok 5 105])
def AK:RC:=V1
def xgf:Lb:=[Wa 47 5,Wa 4 47]
def r28:RC:=(So Vo (So Vn (Sq (So xgl (Bk 0 (.pre [.tok 5 105] (.loop AK)))) (So xgf .ret))))
def F28:FnC:=⟨r28,48,[.tmp 4],[],[]⟩
def xge:Lb:=[om 7 6,Wf 8 2 2,Wc 9 8,Wj 10 9,Wh 11 .lss 7 10]
def xgd:Lc:=[Wv 0 14 4 2,Wg 1 15 2 2,We 2 16 15,Fm 3 17 6,Ws 4 18 7 16 17,Wv 5 19 7 18,Fm 6 20 1,W0 7 21 58 14 19 20]
def xgc:Lb:=[Wa 22 5,Wf 23 2 2,Wc 24 23,om 25 6,WH 26 7 24 25,Wp 27 7 26,WM 28 7 27,oo 29 (.app Zq0 96 (.t 22) (.t 28)) [22,28],Wa 5 29]
def xgb:Lb:=[Wa 12 6,Wb 13 .add 12 1,Wa 6 13]
def V0:RC:=(.post (Sq (So xge (XU 11 [1,2,6,11] (.exit 0))) (Sq (Bk 1 (Sq (.flt [0,0,2,0,14,30,0,127] [] xgd [14,15,16,17,18,19,20]) (XV 21 [21] (.ops xgc)))) (.ops xgb))) [.tok 5 105])
def Vm:RC:=V0
def xga:Lb:=[Wa 30 5,Wa 4 30]
def r29:RC:=(So Vo (So Vn (Sq (So jO (Bk 0 (.pre [.tok 5 105] (.loop Vm)))) (So xga .ret))))
def F29:FnC:=⟨r29,31,[.tmp 4],[],[]⟩
def xf9:Lc:=[Fm 0 17 0,Fm 1 18 5,Ws 2 19 1 17 18,We 3 20 19,Fm 4 21 1,Fm 5 22 5,Ws 6 23 1 21 22,We 7 24 23,Wk 8 25 .neq 20 24]
def VZ:RC:=(Sq (So Vr (XU 14 [0,1,5,14] (.exit 0))) (Sq (Bk 1 (Sq (.flt [0,0,3,7,0,0,48,112,255] [] xf9 [17,18,19,20,21,22,23,24]) (XV 25 [0,1,5,25] (So mI .ret)))) (.ops Vq)))
def Vl:RC:=VZ
def r31:RC:=(So tz (Sq (So Vs (XV 10 [0,1,10] (So mI .ret))) (Sq (So pq (Bk 0 (.loop Vl))) (So sQ .ret))))
def F31:FnC:=⟨r31,26,[.tmp 4],[],[]⟩
def tx:Lb:=[WC 1 0,W9 2]
def xf8:Lb:=[Wp 4 7 1,Wm 5 59 4,Wa 3 5]
def Vk:Lb:=[om 6 3,Wj 7 6,Wb 8 .eql 7 0]
def p9:Lb:=[Xe 2]
def xf7:Lb:=[Wa 9 3,WM 10 1 9,W6 11 60 21 10,Wa 2 11]
def r32:RC:=(So tx (So xf8 (Sq (So Vk (XV 8 [3,8] (So p9 .ret))) (So xf7 .ret))))
def F32:FnC:=⟨r32,12,[.tmp 2],[],[]⟩
def xf6:Lb:=[on 4 (.new (.rc Zq4))]
def xf5:Lb:=[Wa 7 0,oo 8 (.build Zq4 [(0,1,(.t 7))]) [7],on 5 (.new (.rc Zq4)),Wq 2 5 8]
def xf4:Lb:=[om 9 6,Wb 10 .lss 9 3]
def xf3:Lb:=[om 13 1,om 14 6,W1 15 14,Wh 16 .shr 13 15,Wb 17 .and 16 1,Wb 18 .eql 17 1]
def xf2:Lc:=[Wv 0 19 2 5,Fm 1 20 6,WR 2 21 .mul 2 20,WR 3 22 .add 3 21,Fm 4 23 6,WR 5 24 .mul 2 23,WR 6 25 .add 3 24,Fm 8 27 6,WE 9 28 .and 27 1,WZ 7 26 38 25,Fz 10 29 (Ca 61 [.t 19,.t 22,.t 26,ci 1,.t 28]),Fr 11 2 5 29]
def VY:RC:=(Sq (So xf4 (XU 10 [1,6,10] (.exit 0))) (Sq (Bk 1 (So xf3 (XV 18 [18] (.flt [0,0,2,6,0,16,48,112,0,256,1023,2047] [] xf2 [19,20,21,22,23,24,25,26,27,28,29])))) (.ops VC)))
def nE:RC:=VY
def xf1:Lb:=[Wp 30 2 5,Wq 2 4 30]
def r33:RC:=(So xf6 (So xf5 (Sq (So jO (Bk 0 (.loop nE))) (So xf1 .ret))))
def F33:FnC:=⟨r33,31,[.cell 4 2 true],[],[]⟩
def xf0:Lb:=[WN 8 7 1,Wm 9 62 8,Wb 10 .neq 9 0]
def xfZ:Lb:=[on 11 (.litB [(.c (.u8 21))]),Wf 12 0 1,Wc 13 12,oo 14 (.s2b (.t 13)) [13],Ww 15 63 11 14,Wa 3 15]
def xfY:Lb:=[Wa 16 3,Wf 17 1 1,Wc 18 17,Xf 19 64 16 4 18,Wa 3 19]
def xfX:Lb:=[Wa 20 3,Wf 21 2 1,Wc 22 21,Xf 23 64 20 4 22,Wa 3 23]
def xfW:Lb:=[Wa 24 3,Wf 25 3 1,Wc 26 25,Xf 27 64 24 6 26,Wa 3 27]
def xfV:Lb:=[Wa 28 3,Wf 29 4 1,Wc 30 29,Xf 31 64 28 6 30,Wa 3 31]
def xfU:Lb:=[Wa 32 3,Wf 33 5 1,Wc 34 33,Wj 35 34,Wx 36 35,WY 37 36,WB 38 1 32 37,Wa 3 38]
def N8:Lb:=[om 39 4,Wf 40 5 1,Wc 41 40,Wj 42 41,Wh 43 .lss 39 42]
def N7:Lb:=[Wf 46 5 1,Wc 47 46,om 48 4,WH 49 4 47 48,Wp 50 4 49,Xk 5,Wq 4 5 50]
def N6:Lc:=[Fm 0 51 3,Wg 1 52 0 5,We 2 53 52,Xn 3 54 53,Fs 4 55 (.litB [.t 54]),Wg 6 57 1 5,We 7 58 57,Fs 8 59 (.s2b (.t 58)),Xa 5 56 1 51 55,WG 9 60 63 56 59,⟨10,false,(xm 3 60)⟩]
def N5:Lc:=[Fm 0 61 3,Wg 1 62 2 5,We 2 63 62,Wg 4 65 3 5,We 5 66 65,W4 3 64 64 61 4 63,Xa 6 67 1 64 66,⟨7,false,(xm 3 67)⟩]
def N4:Lb:=[Wa 44 4,Wb 45 .add 44 1,Wa 4 45]
def Df:RC:=(.post (Sq (So N8 (XU 43 [4,43] (.exit 0))) (Sq (Bk 1 (So N7 (Sq (.flt [0,0,2,6,14,31,0,64,192,511,1023] [156] N6 [51,52,53,54,55,56,57,58,59,60]) (.flt [0,0,2,7,0,16,63,127] [167] N5 [5,61,62,63,64,65,66,67])))) (.ops N4))) [.gc [105,156],.gcr 65000 66000,.tok 3 103])
def sO:RC:=Df
def N3:Lb:=[Wa 68 3,Wf 69 6 1,Wc 70 69,Wj 71 70,Wx 72 71,WY 73 72,WB 74 1 68 73,Wa 3 74]
def N2:Lb:=[om 75 6,Wf 76 6 1,Wc 77 76,Wj 78 77,Wh 79 .lss 75 78]
def N1:Lb:=[Wf 82 6 1,Wc 83 82,om 84 6,WH 85 4 83 84,Wp 86 4 85,Xr 7,Wq 4 7 86]
def N0:Lc:=[Fm 0 87 3,Wg 1 88 0 7,We 2 89 88,Xn 3 90 89,Fs 4 91 (.litB [.t 90]),Wg 6 93 1 7,We 7 94 93,Fs 8 95 (.s2b (.t 94)),Xa 5 92 1 87 91,WG 9 96 63 92 95,⟨10,false,(xm 3 96)⟩]
def NZ:Lc:=[Fm 0 97 3,Wg 1 98 2 7,We 2 99 98,Wg 4 101 3 7,We 5 102 101,W4 3 100 64 97 4 99,W4 6 103 64 100 4 102,⟨7,false,(xm 3 103)⟩]
def NY:Lb:=[Wa 80 6,Wb 81 .add 80 1,Wa 6 81]
def De:RC:=(.post (Sq (So N2 (XU 79 [1,6,79] (.exit 2))) (Sq (Bk 3 (So N1 (Sq (.flt [0,0,2,6,14,31,0,64,192,511,1023] [192] N0 [87,88,89,90,91,92,93,94,95,96]) (.flt [0,0,2,7,0,16,63,127] [] NZ [7,97,98,99,100,101,102,103])))) (.ops NY))) [.gc [107,192],.gcr 101000 102000,.tok 3 103])
def sN:RC:=De
def NX:Lb:=[Wa 104 3,Wa 2 104]
def r34:RC:=(So tx (Sq (So xf0 (XV 10 [1,10] (So p9 .ret))) (So xfZ (So xfY (So xfX (So xfW (So xfV (So xfU (Sq (So iX (Bk 0 (.pre [.tok 3 103] (.loop sO)))) (So N3 (Sq (So jO (Bk 2 (.pre [.tok 3 103] (.loop sN)))) (So NX .ret))))))))))))
def F34:FnC:=⟨r34,105,[.tmp 2],[],[]⟩
def xfT:Lb:=[Wf 3 0 1,Wc 4 3,Wj 5 4,Wb 6 .neq 5 32,Wa 7 6,.grp 7 false [(xi 8 7 false (Fa 1 1)),(xi 9 7 false (Ld 8)),(xi 10 7 false (Bc .lss 9 0))] [8,9],Wi 11 7 10,Wa 12 11,.grp 12 false [(xi 13 12 false (Fa 1 1)),(xi 14 12 false (Ld 13)),(xi 15 12 false (Bc .gtr 14 1099511627776))] [13,14],Wi 16 12 15]
def xfS:Lc:=[Fs 0 17 (.litB [(.c (.u8 22))]),Wg 1 18 0 1,We 2 19 18,Wg 4 21 1 1,We 5 22 21,Xa 3 20 1 17 19,W4 6 23 64 20 6 22,Fm 7 2 23]
def r35:RC:=(So tx (Sq (So xfT (XV 16 [1,16] (So p9 .ret))) (Sq (.flt [0,0,2,7,0,16,63,127] [120] xfS [1,17,18,19,20,21,22,23]) .ret)))
def F35:FnC:=⟨r35,24,[.tmp 2],[],[]⟩
def xfR:Lb:=[Wp 4 7 1,Wm 5 34 4,Wa 3 5]
def xfQ:Lb:=[Wa 9 3,WM 10 1 9,W6 11 65 21 10,Wa 2 11]
def r36:RC:=(So tx (So xfR (Sq (So Vk (XV 8 [3,8] (So p9 .ret))) (So xfQ .ret))))
def F36:FnC:=⟨r36,12,[.tmp 2],[],[]⟩
def iI:Lb:=[W9 4]
def xfP:Lb:=[om 5 1,Wb 6 .lss 5 0,Wa 7 6,.grp 7 false [(xi 8 7 false (Mv 1)),(xi 9 7 false (Bc .gtr 8 3))] [8],Wi 10 7 9]
def iW:Lb:=[Xe 4]
def xfO:Lb:=[om 11 1,Wx 12 11,WY 13 12,Wa 14 0,Wa 15 1,Ww 16 67 14 15,Wm 17 66 16,WB 18 1 13 17,Wa 4 18]
def r37:RC:=(So iI (Sq (So xfP (XV 10 [0,1,10] (So iW .ret))) (So xfO .ret)))
def F37:FnC:=⟨r37,19,[.tmp 4],[],[]⟩
def kT:Lb:=[W9 2]
def xfN:Lb:=[Wa 3 0,Wx 4 3,oo 5 (.litB [(.c (.u8 107)),.t 4]) [4],Wm 6 68 5,Wa 2 6]
def r38:RC:=(So kT (So xfN .ret))
def F38:FnC:=⟨r38,7,[.tmp 2],[],[]⟩
def pm:Lb:=[WC 1 0,WX 2 0]
def Vj:Lb:=[Wf 5 0 1,Wc 6 5,Wj 7 6,Wb 8 .gtr 7 4]
def pl:Lb:=[Wn 2 4]
def xfM:Lb:=[Wf 9 0 1,Wc 10 9,on 11 (Ln 10),Wn 12 0]
def Vi:Lb:=[on 13 (Bb .lss 12 11)]
def xfL:Lb:=[om 14 12,on 15 (Ia 2 10 12),Wp 16 2 15,XS 4,Wa 3 14,Wq 2 4 16]
def xfK:Lb:=[Wf 17 0 4,Wc 18 17,Wb 19 .lss 18 1,Wa 20 19,.grp 20 false [(xi 21 20 false (Fa 0 4)),(xi 22 20 false (Ld 21)),(xi 23 20 false (Bc .gtr 22 1000))] [21,22],Wi 24 20 23,Wa 25 24,.grp 25 false [(xi 26 25 false (Fa 1 4)),(xi 27 25 false (Ld 26)),(xi 28 25 false (Ln 27)),(xi 29 25 false (Bc .neq 28 17))] [26,27,28],Wi 30 25 29]
def gD:Lb:=[Wn 2 1]
def xfJ:Lc:=[Fm 0 31 3,WE 1 32 .gtr 31 0,Fm 2 33 32,WA 3 34 33 true 0 4,Wz 4 35 33 true 34,WA 5 36 33 true 0 1,Wz 6 37 33 true 36,Wu 7 38 33 true 3,Fi 8 39 33 true (Bc .sub 38 1),Fi 9 40 33 true (Ia 2 37 39),WA 10 41 33 true 0 40,Wz 11 42 33 true 41,Fi 12 43 33 true (Bb .leq 35 42),Fs 13 44 (Pf 33 43)]
def AJ:Lb:=[Wn 2 41]
def NW:Lb:=[Wb 45 .add 12 1,Wa 12 45]
def Dd:RC:=(.post (So Vi (Sq (XU 13 [10,11,12,13] (.exit 0)) (Sq (Bk 1 (So xfL (Sq (So xfK (XV 30 [1,3,4,10,11,12,30] (So gD .ret))) (Sq (.flt [0,1,3,7,15,7,39,7,135,487,999,2023,4095,8191] [] xfJ [3,4,31,32,33,34,35,36,37,38,39,40,41,42,43]) (XV 44 [1,10,11,12,44] (So AJ .ret)))))) (.ops NW)))) [.gc [104]])
def nj:RC:=Dd
def NV:Lb:=[Wf 46 1 1,Wc 47 46,Wb 48 .lss 47 1,Wa 49 48,.grp 49 false [(xi 50 49 false (Fa 1 1)),(xi 51 49 false (Ld 50)),(xi 52 49 false (Fa 0 1)),(xi 53 49 false (Ld 52)),(xi 54 49 false (Ln 53)),(xi 55 49 false (Bb .gtr 51 54))] [1,50,51,52,53,54],Wi 56 49 55]
def kS:Lb:=[Wn 2 0]
def r39:RC:=(So pm (Sq (So Vj (XV 8 [1,8] (So pl .ret))) (Sq (So xfM (Bk 0 (.loop nj))) (Sq (So NV (XV 56 [56] (So gD .ret))) (So kS .ret)))))
def F39:FnC:=⟨r39,57,[.tmp 2],[],[]⟩
def xh:Lb:=[Wn 3 0]
def xfH:Lb:=[om 9 3,Wf 10 0 1,Wc 11 10,Wj 12 11,Wh 13 .lss 9 12]
def xfG:Lb:=[Wf 16 0 1,Wc 17 16,om 18 3,WH 19 2 17 18,Wp 20 2 19,XS 4,Wq 2 4 20]
def xfF:Lb:=[Wf 21 0 4,Wc 22 21,Wb 23 .lss 22 1,Wa 24 23,XB 25 24 false 0 4 26 24 false 25 27 24 false .gtr 26 1000,Wi 28 24 27,Wa 29 28,.grp 29 false [(xi 30 29 false (Fa 1 4)),(xi 31 29 false (Ld 30)),(xi 32 29 false (Ln 31)),(xi 33 29 false (Bc .neq 32 17))] [30,31,32],Wi 34 29 33]
def xfE:Lc:=[Fm 0 35 3,WE 1 36 .gtr 35 0,Fm 2 37 36,WA 3 38 37 true 0 4,Wz 4 39 37 true 38,WA 5 40 37 true 0 1,Wz 6 41 37 true 40,Wu 7 42 37 true 3,Fi 8 43 37 true (Bc .sub 42 1),Fi 9 44 37 true (Ia 2 41 43),WA 10 45 37 true 0 44,Wz 11 46 37 true 45,Fi 12 47 37 true (Bb .leq 39 46),Fs 13 48 (Pf 37 47)]
def NU:Lb:=[Wa 14 3,Wb 15 .add 14 1,Wa 3 15]
def Dc:RC:=(.post (Sq (So xfH (XU 13 [3,13] (.exit 0))) (Sq (Bk 1 (So xfG (Sq (So xfF (XV 34 [1,3,4,34] (So gD .ret))) (Sq (.flt [0,1,3,7,15,7,39,7,135,487,999,2023,4095,8191] [] xfE [4,35,36,37,38,39,40,41,42,43,44,45,46,47]) (XV 48 [1,3,48] (So AJ .ret)))))) (.ops NU))) [.gc [104]])
def ni:RC:=Dc
def NT:Lb:=[Wf 49 1 1,Wc 50 49,Wb 51 .lss 50 1,Wa 52 51,.grp 52 false [(xi 53 52 false (Fa 1 1)),(xi 54 52 false (Ld 53)),(xi 55 52 false (Fa 0 1)),(xi 56 52 false (Ld 55)),(xi 57 52 false (Ln 56)),(xi 58 52 false (Bb .gtr 54 57))] [1,53,54,55,56,57],Wi 59 52 58]
def r40:RC:=(So pm (Sq (So Vj (XV 8 [1,8] (So pl .ret))) (Sq (So xh (Bk 0 (.loop ni))) (Sq (So NT (XV 59 [59] (So gD .ret))) (So kS .ret)))))
def F40:FnC:=⟨r40,60,[.tmp 2],[],[]⟩
def xfD:Lb:=[Wf 5 1 2,Wc 6 5,Wf 7 1 3,Wc 8 7,Wh 9 .eql 6 8,Wa 10 9,.grp 10 true [(xi 11 10 true (Fa 0 2)),(xi 12 10 true (Ld 11)),(xi 13 10 true (Fa 0 3)),(xi 14 10 true (Ld 13)),(xi 15 10 true (Ca 31 [.t 12,.t 14]))] [2,3,11,12,13,14],Wy 16 10 15,Wa 4 16]
def r41:RC:=(So AM (So xfD .ret))
def F41:FnC:=⟨r41,17,[.tmp 4],[],[]⟩
def p7:Lb:=[WU 2 false]
def xfC:Lc:=[Fm 0 3 0,WK 1 4 3,Wg 2 5 1 4,We 3 6 5,Fm 4 7 0,WK 5 8 7,Wg 6 9 0 8,We 7 10 9,Fs 8 11 (Ln 10),Wk 9 12 .lss 6 11,Fm 10 2 12]
def r42:RC:=(So p7 (Sq (.flt [0,1,3,7,0,16,48,112,240,511,1023] [] xfC [0,3,4,5,6,7,8,9,10,11,12]) .ret))
def F42:FnC:=⟨r42,13,[.tmp 2],[],[]⟩
def xfB:Lb:=[on 4 (.mkB (ci 32) (ci 32)),Wa 3 4]
def xfA:Lb:=[om 5 3,Wa 6 0,oo 7 (.cpy 1 (.t 5) (.t 6)) [5,6,7]]
def xfz:Lb:=[Wa 8 3,Wa 2 8]
def r43:RC:=(So kT (So xfB (So xfA (So xfz .ret))))
def F43:FnC:=⟨r43,9,[.tmp 2],[],[]⟩
def xfy:Lb:=[WW 4]
def xfx:Lb:=[om 8 0,Wo 9 17 8 4,Wa 5 9]
def xfw:Lb:=[on 10 (Ca 24 []),om 11 0,Wo 12 17 11 3,oo 13 (.idxA 3 1 false (.t 10) (.t 12)) [10,12],om 14 5,Wa 15 1,Xo 16 69 13 14 15,WW 6,Wq 7 6 16]
def xfv:Lb:=[om 17 0,oo 18 (Ca 17 [.t 17,ci 3]) [17],Wb 19 .eql 18 1]
def xfu:Lc:=[Wg 0 20 5 6,We 1 21 20,Fm 2 22 0,Wg 3 23 5 6,We 4 24 23,Fs 5 25 (Ln 24),WE 6 26 .add 25 1,WG 7 27 17 22 26,Xu 8 28 4 21 27,Wg 9 29 5 6,Fr 10 1 29 28]
def xft:Lb:=[om 30 0,Wa 31 5,Wb 32 .add 31 1,Ww 33 17 30 32,Wf 34 2 6,Wt 1 34 33]
def xfs:Lb:=[om 35 0,Wo 36 17 35 12,Wf 37 3 6,Wt 1 37 36]
def xfr:Lc:=[Wg 0 38 3 6,We 1 39 38,WE 2 40 .add 39 1,Fm 3 41 0,WO 4 42 17 41 30,Wk 5 43 .add 40 42,Wg 6 44 4 6,Fr 7 1 44 43]
def xfq:Lb:=[om 45 0,Wo 46 17 45 2,Wb 47 .eql 46 0]
def xfp:Lb:=[Wf 48 4 6,.op ⟨none,none,.store 1 (.t 48) (ci 1099511627776)⟩ [48]]
def NS:Lb:=[om 49 0,Wo 50 17 49 4,Wa 7 50]
def NR:Lb:=[om 51 7,Wb 52 .gtr 51 0]
def NQ:Lc:=[Wg 0 55 6 6,We 1 56 55,Fm 2 57 0,WZ 3 58 70 57,W8 4 59 4 58,Fz 5 60 (.app Zq3 40 (.t 56) (.t 59)),Wg 6 61 6 6,Fr 7 1 61 60]
def NP:Lb:=[Wa 53 7,Wb 54 .sub 53 1,Wa 7 54]
def Db:RC:=(Sq (So NR (XU 52 [0,7,52] (.exit 0))) (Sq (Bk 1 (.flt [0,1,0,4,12,31,63,127] [160] NQ [55,56,57,58,59,60,61])) (.ops NP)))
def B0:RC:=Db
def NO:Lb:=[Wp 62 7 6,Wq 7 4 62]
def r44:RC:=(So xfy (So xfx (So xfw (Sq (So xfv (XV 19 [19] (.flt [0,1,0,0,8,24,56,124,255,511,1023] [] xfu [20,21,22,23,24,25,26,27,28,29]))) (So xft (So xfs (Sq (.flt [0,1,3,0,8,31,63,127] [] xfr [38,39,40,41,42,43,44]) (Sq (So xfq (XV 47 [47] (.ops xfp))) (Sq (So NS (Bk 0 (.loop B0))) (So NO .ret))))))))))
def F44:FnC:=⟨r44,63,[.cell 4 7 true],[],[]⟩
def xfo:Lb:=[Xk 4]
def xfn:Lc:=[Fm 0 7 1,Fm 2 9 0,Fm 5 12 0,Fz 1 8 (Ca 71 []),WO 3 10 17 9 5,Fs 4 11 (.idxA 5 1 false (.t 8) (.t 10)),WO 6 13 17 12 5,Fs 7 14 (.build Zq2 [(0,1,(.t 7)),(1,1,(.t 11)),(2,1,(.t 13))]),Fz 8 5 (.new (.rc Zq2)),Fr 9 4 5 14]
def xfm:Lb:=[om 15 0,Wo 16 17 15 9,Wb 17 .eql 16 8]
def xfl:Lb:=[om 18 0,Wo 19 17 18 3,WS 20 .sub 1000000 19,Wf 21 2 5,Wt 1 21 20]
def xfk:Lb:=[Wa 22 1,Wb 23 .eql 22 4]
def xfj:Lb:=[Wa 24 0,Wm 25 72 24,Wf 26 3 5,Wt 1 26 25]
def xfi:Lb:=[Wp 27 4 5,WF 4 27]
def xfh:Lb:=[om 28 0,Wo 29 17 28 7,oo 30 (.mkB (.t 29) (.t 29)) [29],Wf 31 3 5,Wt 1 31 30]
def xfg:Lb:=[om 32 6,Wf 33 3 5,Wc 34 33,Wj 35 34,Wh 36 .lss 32 35]
def NN:Lc:=[Wg 0 39 3 5,We 1 40 39,Fm 2 41 6,Fm 3 42 0,WO 4 43 17 42 256,Xn 5 44 43,Ws 6 45 1 40 41,Fr 7 1 45 44]
def BZ:Lb:=[Wa 37 6,Wb 38 .add 37 1,Wa 6 38]
def Da:RC:=(Sq (So xfg (XU 36 [0,6,36] (.exit 0))) (Sq (Bk 1 (.flt [0,1,0,0,8,24,63,127] [] NN [39,40,41,42,43,44,45])) (.ops BZ)))
def xg:RC:=Da
def NM:Lb:=[Wp 46 4 5,WF 4 46]
def r45:RC:=(So xfo (Sq (.fla [0,0,0,6,14,0,46,127,0,511] [105] xfn [[0,2,5,1,3,4,6,7,8,9],[0,2,5,1,3,4,8,6,7,9],[0,2,5,1,8,3,4,6,7,9],[0,2,5,8,1,3,4,6,7,9]] [7,8,9,10,11,12,13,14]) (Sq (So xfm (XV 17 [17] (.ops xfl))) (Sq (So xfk (XV 23 [23] (So xfj (So xfi .ret)))) (So xfh (Sq (So jO (Bk 0 (.loop xg))) (So NM .ret)))))))
def F45:FnC:=⟨r45,47,[.cell 4 4 true],[],[]⟩
def AI:Lb:=[WC 2 0,WC 3 1,WX 4 0]
def xff:Lb:=[WN 8 2 2,Wm 9 39 8,Wa 5 9]
def xfe:Lb:=[om 10 5,Wb 11 .neq 10 0]
def xfd:Lb:=[Wa 12 5,Wa 4 12]
def xfc:Lb:=[Wf 13 1 3,Wc 14 13,Wj 15 14,Wb 16 .gtr 15 4]
def Vh:Lb:=[Wn 4 4]
def xfb:Lb:=[Wf 18 0 3,Wc 19 18,Wm 20 47 19,Wa 17 20,WJ 21 17 0,WI 22 17 1,WW 6,Sr 7 6 21 [6,21],Wa 7 22]
def xfa:Lb:=[om 23 7,Wb 24 .neq 23 0]
def xe9:Lb:=[Wf 26 0 3,Wc 27 26,Wm 28 49 27,Wa 25 28,oo 29 (.ext (.t 25) 0) [29],WI 30 25 1,Wa 7 30]
def xe8:Lb:=[om 31 7,Wb 32 .neq 31 0]
def NL:Lb:=[Wa 33 7,Wa 4 33]
def NK:Lc:=[Wv 0 34 2 2,Wv 1 35 2 3,Wg 4 38 1 2,We 5 39 38,WG 2 36 73 34 35,Fs 3 37 (Ln 36),Wk 6 40 .lss 37 39]
def BY:Lb:=[Wn 4 44]
def r46:RC:=(So AI (Sq (So xff (So xfe (Kc 11 (Kk [2,3,11] (So xfd .ret)) (Kk [5,11] .skip)))) (Sq (So xfc (XV 16 [2,3,16] (So Vh .ret))) (So xfb (Sq (So xfa (XV 24 [7,24] (.ops xe9))) (Sq (So xe8 (Kc 32 (Kk [2,3,32] (So NL .ret)) (Kk [7,32] .skip))) (Sq (Sq (.flt [0,0,3,7,0,16,63] [] NK [2,3,34,35,36,37,38,39]) (XV 40 [40] (So BY .ret))) (So iX .ret))))))))
def F46:FnC:=⟨r46,41,[.tmp 4],[],[]⟩
def Vg:Lb:=[WW 2,WX 3 0]
def xe7:Lb:=[Wa 10 0,Wm 11 74 10,Wa 4 11]
def Vf:Lb:=[WW 5]
def xe6:Lb:=[om 12 4,Wo 13 75 12 1,Wb 14 .neq 13 21]
def xe5:Lb:=[on 15 (.build Zq0 []),Wq 7 2 15,Wn 3 30]
def xe4:Lb:=[om 16 4,Wo 17 76 16 12,Xg 18 17,Wf 19 0 5,Wt 1 19 18]
def xe3:Lb:=[om 20 4,Wo 21 75 20 4,Wf 22 1 5,Wt 1 22 21]
def xe2:Lb:=[om 23 4,Wo 24 75 23 4,Wf 25 2 5,Wt 1 25 24]
def xe1:Lb:=[om 26 4,Wo 27 75 26 6,Wf 28 3 5,Wt 1 28 27]
def xe0:Lb:=[om 29 4,Wo 30 75 29 6,Wf 31 4 5,Wt 1 31 30]
def NJ:Lb:=[om 32 4,Wo 33 75 32 1,Wa 6 33]
def NI:Lb:=[om 34 6,Wb 35 .gtr 34 0,Wa 36 35,.grp 36 true [(xi 37 36 true (Mv 4)),(xi 38 36 true (Ca 77 [.t 37])),(xi 39 36 true (Bc .eql 38 0))] [37,38],Wy 40 36 39]
def NH:Lb:=[Xk 7]
def NG:Lb:=[om 43 4,Wo 44 75 43 1,Wf 45 0 7,Wt 1 45 44]
def NF:Lb:=[om 46 4,Wo 47 76 46 12,Xg 48 47,Wf 49 1 7,Wt 1 49 48]
def NE:Lb:=[om 50 4,Wo 51 75 50 4,Wf 52 2 7,Wt 1 52 51]
def ND:Lb:=[om 53 4,Wo 54 78 53 32,Wf 55 3 7,Wt 1 55 54]
def NC:Lb:=[Wf 56 5 5,Wc 57 56,Wp 58 4 7,WM 59 4 58,oo 60 (.app Zq2 56 (.t 57) (.t 59)) [57,59],Wf 61 5 5,Wt 1 61 60]
def NB:Lb:=[Wa 41 6,Wb 42 .sub 41 1,Wa 6 42]
def C9:RC:=(.post (Sq (So NI (XU 40 [6,40] (.exit 0))) (Sq (Bk 1 (So NH (So NG (So NF (So NE (So ND (.ops NC))))))) (.ops NB))) [.gc [107]])
def BX:RC:=C9
def sM:Lb:=[om 62 4,Wo 63 75 62 1,Wa 8 63]
def NA:Lb:=[om 64 8,Wb 65 .gtr 64 0,Wa 66 65,.grp 66 true [(xi 67 66 true (Mv 4)),(xi 68 66 true (Ca 77 [.t 67])),(xi 69 66 true (Bc .eql 68 0))] [67,68],Wy 70 66 69]
def Nz:Lb:=[Xr 9]
def Ny:Lb:=[om 73 4,Wo 74 75 73 1,Wf 75 0 9,Wt 1 75 74]
def Nw:Lb:=[om 76 4,oo 77 (Ca 76 [.t 76,ci 32]) [76],Xg 78 77,Wf 79 1 9,Wt 1 79 78]
def Nv:Lb:=[om 80 4,Wo 81 75 80 4,Wf 82 2 9,Wt 1 82 81]
def Nu:Lb:=[om 83 4,Wo 84 75 83 4,Wf 85 3 9,Wt 1 85 84]
def Nt:Lb:=[Wf 86 6 5,Wc 87 86,Wp 88 4 9,WM 89 4 88,oo 90 (.app Zq3 40 (.t 87) (.t 89)) [87,89],Wf 91 6 5,Wt 1 91 90]
def Ns:Lb:=[Wa 71 8,Wb 72 .sub 71 1,Wa 8 72]
def C8:RC:=(.post (Sq (So NA (XU 70 [8,70] (.exit 2))) (Sq (Bk 3 (So Nz (So Ny (So Nw (So Nv (So Nu (.ops Nt))))))) (.ops Ns))) [.gc [109]])
def BW:RC:=C8
def sL:Lb:=[Wa 92 4,Wm 93 79 92,Wb 94 .neq 93 0,Wa 95 94,.grp 95 false [(xi 96 95 false (Lt 7 5)),(xi 97 95 false (Ca 80 [.t 96])),(xi 98 95 false (Bc .neq 97 0))] [96,97],Wi 99 95 98]
def Nr:Lb:=[on 100 (.build Zq0 []),Wq 7 2 100,Wn 3 30]
def Nq:Lb:=[Wp 101 7 5,Wq 7 2 101,Wn 3 0]
def r47:RC:=(So Vg (So xe7 (So Vf (Sq (So xe6 (XV 14 [4,5,14] (So xe5 .ret))) (So xe4 (So xe3 (So xe2 (So xe1 (So xe0 (Sq (So NJ (Bk 0 (.loop BX))) (Sq (So sM (Bk 2 (.loop BW))) (Sq (So sL (XV 99 [5,99] (So Nr .ret))) (So Nq .ret)))))))))))))
def F47:FnC:=⟨r47,102,[.cell 2 7 true,.tmp 3],[],[]⟩
def xeZ:Lc:=[Wv 0 10 7 3,Wv 2 12 7 3,WZ 1 11 32 10,WZ 3 13 59 12,Fm 4 6 11,Fm 5 7 13]
def xeY:Lb:=[Wf 15 2 2,Wc 16 15,om 17 6,oo 18 (Ca 81 [.t 16,.t 17,(.f 82)]) [16,17],Wa 14 18,WJ 19 14 0,WI 20 14 1,Wa 8 19,.op (xm 9 20) [9,20]]
def xeX:Lb:=[om 21 8,Wf 22 2 2,Wc 23 22,Wj 24 23,Wh 25 .lss 21 24,Wa 26 25,.grp 26 true [(xi 27 26 true (Fa 2 2)),(xi 28 26 true (Ld 27)),(xi 29 26 true (Mv 8)),(xi 30 26 true (Ia 7 28 29)),(xi 31 26 true (Lt 7 30)),(xi 32 26 true (Ca 32 [.t 31])),(xi 33 26 true (Mv 6)),(xi 34 26 true (Ca 84 [.t 32,.t 33]))] [27,28,29,30,31,32,33],Wy 35 26 34]
def xeW:Lb:=[Wf 38 2 2,Wc 39 38,om 40 8,WH 41 7 39 40,Wp 42 7 41,Wm 43 59 42,om 44 7,Ww 45 84 43 44]
def xeV:Lb:=[Wp 46 4 2,WF 4 46,Wn 5 0]
def Ve:Lb:=[Wa 36 8,Wb 37 .add 36 1,Wa 8 37]
def VX:RC:=(Sq (So xeX (XU 35 [6,7,35] (.exit 0))) (Sq (Bk 1 (So xeW (XV 45 [3,6,7,8,45] (So xeV .ret)))) (.ops Ve)))
def Vd:RC:=VX
def xeU:Lb:=[WN 47 4 2,Wm 48 85 47]
def xeT:Lb:=[Xj 49,WF 4 49,Wn 5 25]
def Np:Lc:=[Wg 0 50 2 2,We 1 51 50,Fm 3 53 8,Wv 4 54 7 3,W8 5 55 7 54,WZ 2 52 87 51,W0 6 56 86 52 53 55,Wg 7 57 2 2,Fr 8 1 57 56]
def No:Lb:=[Wp 58 4 2,WF 4 58,Wn 5 0]
def r48:RC:=(So AL (Sq (.flt [0,1,0,7,15,31] [] xeZ [10,11,12,13]) (So xeY (Sq (Bk 0 (.loop Vd)) (Sq (So xeU (XV 48 [2,3,8,48] (So xeT .ret))) (Sq (.flt [0,1,3,0,0,16,63,127,255] [] Np [3,8,50,51,52,53,54,55,56,57]) (So No .ret)))))))
def F48:FnC:=⟨r48,59,[.cell 4 4 true,.tmp 5],[],[]⟩
def Vc:Lb:=[Xq 2,WX 3 0]
def xeS:Lb:=[Wa 7 0,Wm 8 74 7,Wa 4 8]
def xeR:Lb:=[om 9 4,Wo 10 75 9 1,Wa 5 10]
def xeQ:Lb:=[om 11 4,Wo 12 78 11 32,oo 13 (.build [.byt [] .clip,.int .i64 0] [(0,1,(.t 12))]) [12],Xq 6,Wq 2 6 13]
def xeP:Lb:=[om 14 4,Wo 15 75 14 6,Wf 16 1 6,Wt 1 16 15]
def xeO:Lb:=[Wa 17 4,Wm 18 79 17,Wb 19 .neq 18 0,Wa 20 19,.grp 20 false [(xi 21 20 false (Mv 5)),(xi 22 20 false (Bc .neq 21 22))] [5,21],Wi 23 20 22,Wa 24 23,XB 25 24 false 1 6 26 24 false 25 27 24 false .gtr 26 1099511627776,Wi 28 24 27]
def Vb:Lb:=[on 29 (.build [.byt [] .clip,.int .i64 0] []),WF 2 29,Wn 3 30]
def Va:Lb:=[Wp 30 2 6,WF 2 30,Wn 3 0]
def r49:RC:=(So Vc (So xeS (So xeR (So xeQ (So xeP (Sq (So xeO (XV 28 [6,28] (So Vb .ret))) (So Va .ret)))))))
def F49:FnC:=⟨r49,31,[.cell 2 2 true,.tmp 3],[],[]⟩
def xeN:Lb:=[Wf 9 3 2,Wc 10 9,WN 11 2 3,oo 12 (Ca 88 [.t 10,.t 11,(.f 89)]) [10,11],Wa 8 12,WJ 13 8 0,WI 14 8 1,Wa 6 13,Wa 7 14]
def xeM:Lb:=[Wa 16 7,Wa 15 16]
def xeL:Lb:=[Wp 17 4 2,WF 4 17,Wn 5 0]
def xeK:Lb:=[WN 19 4 2,Wm 20 85 19,Wa 18 20]
def xeJ:Lb:=[Xj 21,WF 4 21,Wn 5 25]
def xeI:Lc:=[Wg 0 22 3 2,We 1 23 22,Fm 3 25 6,Wv 4 26 2 3,W8 5 27 2 26,WZ 2 24 91 23,W0 6 28 90 24 25 27,Wg 7 29 3 2,Fr 8 1 29 28]
def xeH:Lb:=[Wp 30 4 2,WF 4 30,Wn 5 0]
def r50:RC:=(So AL (So xeN (Sq (Bk 0 (So xeM (Kc 15 (Kk [3,6,15] (So xeL .ret)) (Kk [15] (So xeK (XV 18 [2,3,6,18] (So xeJ .ret))))))) (Sq (.flt [0,1,3,0,0,16,63,127,255] [] xeI [3,6,22,23,24,25,26,27,28,29]) (So xeH .ret)))))
def F50:FnC:=⟨r50,31,[.cell 4 4 true,.tmp 5],[],[]⟩
def xeG:Lb:=[WN 10 2 2,Wm 11 40 10,Wa 5 11]
def xeF:Lb:=[om 12 5,Wb 13 .neq 12 0]
def xeE:Lb:=[Wa 14 5,Wa 4 14]
def xeD:Lb:=[Wf 15 1 3,Wc 16 15,Wj 17 16,Wb 18 .gtr 17 4]
def xeC:Lb:=[Wf 20 0 3,Wc 21 20,Wm 22 52 21,Wa 19 22,WJ 23 19 0,WI 24 19 1,WW 6,Sr 7 6 23 [6,23],Wa 7 24]
def xeB:Lb:=[Wf 26 0 3,Wc 27 26,Wm 28 54 27,Wa 25 28,WJ 29 25 0,WI 30 25 1,Xq 8,Sr 2 8 29 [8,29],Wa 9 30]
def xeA:Lb:=[Wa 31 7,Wb 32 .neq 31 0,Wa 33 32,.grp 33 true [(xi 34 33 true (Mv 9)),(xi 35 33 true (Bc .neq 34 0))] [9,34],Wy 36 33 35]
def xez:Lb:=[Wn 4 30]
def Nn:Lc:=[Wv 0 37 2 2,Wv 1 38 2 3,Wg 4 41 1 2,We 5 42 41,WG 2 39 92 37 38,Fs 3 40 (Ln 39),Wk 6 43 .lss 40 42]
def r51:RC:=(So AI (Sq (So xeG (So xeF (Kc 13 (Kk [2,3,13] (So xeE .ret)) (Kk [5,13] .skip)))) (Sq (So xeD (XV 18 [2,3,18] (So Vh .ret))) (So xeC (So xeB (Sq (So xeA (XV 36 [2,3,36] (So xez .ret))) (Sq (Sq (.flt [0,0,3,7,0,16,63] [] Nn [2,3,37,38,39,40,41,42]) (XV 43 [43] (So BY .ret))) (So iX .ret))))))))
def F51:FnC:=⟨r51,44,[.tmp 4],[],[]⟩
def xey:Lb:=[Wa 13 0,Wm 14 93 13,Wa 4 14]
def xex:Lb:=[om 15 4,Wo 16 94 15 1,Wa 6 16]
def xew:Lb:=[om 17 4,Wo 18 95 17 12,Xg 19 18,Wf 20 0 5,Wt 1 20 19]
def xev:Lb:=[om 21 4,Wo 22 94 21 4,Wf 23 1 5,Wt 1 23 22]
def xeu:Lb:=[om 24 4,Wo 25 94 24 4,Wf 26 2 5,Wt 1 26 25]
def xet:Lb:=[om 27 4,Wo 28 94 27 6,Wf 29 3 5,Wt 1 29 28]
def xes:Lb:=[om 30 4,Wo 31 94 30 6,Wf 32 4 5,Wt 1 32 31]
def xer:Lb:=[om 33 4,Wo 34 94 33 1,Wa 7 34]
def Nm:Lb:=[om 35 8,om 36 7,Wh 37 .lss 35 36,Wa 38 37,.grp 38 true [(xi 39 38 true (Mv 8)),(xi 40 38 true (Bc .leq 39 16))] [39],Wy 41 38 40]
def Nl:Lb:=[Xk 9]
def Nk:Lb:=[om 44 4,Wo 45 94 44 1,Wf 46 0 9,Wt 1 46 45]
def Nj:Lb:=[om 47 4,Wo 48 95 47 12,Xg 49 48,Wf 50 1 9,Wt 1 50 49]
def Ni:Lb:=[om 51 4,Wo 52 94 51 4,Wf 53 2 9,Wt 1 53 52]
def Nh:Lb:=[om 54 4,Wo 55 96 54 32,Wf 56 3 9,Wt 1 56 55]
def Ng:Lb:=[Wf 57 5 5,Wc 58 57,Wp 59 4 9,WM 60 4 59,oo 61 (.app Zq2 56 (.t 58) (.t 60)) [58,60],Wf 62 5 5,Wt 1 62 61]
def Nf:Lb:=[Wa 42 8,Wb 43 .add 42 1,Wa 8 43]
def C7:RC:=(.post (Sq (So Nm (XU 41 [7,8,41] (.exit 0))) (Sq (Bk 1 (So Nl (So Nk (So Nj (So Ni (So Nh (.ops Ng))))))) (.ops Nf))) [.gc [109]])
def BV:RC:=C7
def sK:Lb:=[om 63 4,Wo 64 94 63 1,Wa 10 64]
def xd:Lb:=[Wn 11 0]
def Nd:Lb:=[om 65 11,om 66 10,Wh 67 .lss 65 66,Wa 68 67,.grp 68 true [(xi 69 68 true (Mv 11)),(xi 70 68 true (Bc .leq 69 8))] [69],Wy 71 68 70]
def Nc:Lb:=[Xr 12]
def Nb:Lb:=[om 74 4,Wo 75 94 74 1,Wf 76 0 12,Wt 1 76 75]
def Na:Lb:=[om 77 4,Wo 78 95 77 32,Xg 79 78,Wf 80 1 12,Wt 1 80 79]
def M9:Lb:=[om 81 4,Wo 82 94 81 4,Wf 83 2 12,Wt 1 83 82]
def M8:Lb:=[om 84 4,Wo 85 94 84 4,Wf 86 3 12,Wt 1 86 85]
def M7:Lb:=[Wf 87 6 5,Wc 88 87,Wp 89 4 12,WM 90 4 89,oo 91 (.app Zq3 40 (.t 88) (.t 90)) [88,90],Wf 92 6 5,Wt 1 92 91]
def M6:Lb:=[Wa 72 11,Wb 73 .add 72 1,Wa 11 73]
def C6:RC:=(.post (Sq (So Nd (XU 71 [10,11,71] (.exit 2))) (Sq (Bk 3 (So Nc (So Nb (So Na (So M9 (So M8 (.ops M7))))))) (.ops M6))) [.gc [112]])
def BU:RC:=C6
def sJ:Lb:=[Wa 93 6,Wb 94 .neq 93 21,Wa 95 94,.grp 95 false [(xi 96 95 false (Mv 4)),(xi 97 95 false (Ca 97 [.t 96])),(xi 98 95 false (Bc .neq 97 0))] [4,96,97],Wi 99 95 98,Wa 100 99,.grp 100 false [(xi 101 100 false (Lt 7 5)),(xi 102 100 false (Ca 62 [.t 101])),(xi 103 100 false (Bc .neq 102 0))] [101,102],Wi 104 100 103]
def M5:Lb:=[on 105 (.build Zq0 []),Wq 7 2 105,Wn 3 30]
def M4:Lb:=[Wp 106 7 5,Wq 7 2 106,Wn 3 0]
def r52:RC:=(So Vg (So xey (So Vf (So xex (So xew (So xev (So xeu (So xet (So xes (So xer (Sq (So pn (Bk 0 (.loop BV))) (So sK (Sq (So xd (Bk 2 (.loop BU))) (Sq (So sJ (XV 104 [5,104] (So M5 .ret))) (So M4 .ret)))))))))))))))
def F52:FnC:=⟨r52,107,[.cell 2 7 true,.tmp 3],[],[]⟩
def U9:Lb:=[WC 3 1,WX 4 0,WU 5 false]
def xeq:Lb:=[WN 8 7 3,Wm 9 36 8,Wa 6 9]
def xep:Lb:=[om 10 7,om 11 0,Wj 12 11,Wh 13 .lss 10 12,Wa 14 13,.grp 14 true [(xi 15 14 true (Mv 6)),(xi 16 14 true (Mv 0)),(xi 17 14 true (Mv 7)),(xi 18 14 true (Ia 7 16 17)),(xi 19 14 true (Lt 7 18)),(xi 20 14 true (Ca 36 [.t 19])),(xi 21 14 true (Ca 98 [.t 15,.t 20])),(xi 22 14 true (.un .not (.t 21)))] [15,16,17,18,19,20,21],Wy 23 14 22]
def xeo:Lc:=[Fm 0 24 0,Fm 1 25 7,Ws 2 26 7 24 25,Wv 3 27 7 26,Wv 4 28 7 3,WG 5 29 56 27 28]
def xen:Lb:=[Wa 30 7,Wa 4 30,WP 5 true]
def xem:Lb:=[Wa 31 7,Wb 32 .add 31 1,Wa 7 32]
def VW:RC:=(Sq (So xep (XU 23 [0,3,6,23] (.exit 0))) (Bk 1 (Sq (Sq (.flt [0,0,3,7,0,31] [] xeo [24,25,26,27,28]) (XV 29 [0,3,6,29] (So xen .ret))) (.ops xem))))
def xc:RC:=VW
def xel:Lb:=[Wa 33 7,Wa 4 33,WP 5 false]
def r53:RC:=(So U9 (So xeq (So po (Sq (Bk 0 (.loop xc)) (So xel .ret)))))
def F53:FnC:=⟨r53,34,[.tmp 4,.tmp 5],[],[]⟩
def xek:Lb:=[Wa 7 0,Wm 8 93 7,Wa 4 8]
def xej:Lb:=[om 9 4,Wo 10 94 9 1,Wa 5 10]
def xei:Lb:=[Xq 6]
def xeh:Lb:=[om 11 4,Wo 12 96 11 32,Wf 13 0 6,Wt 1 13 12]
def xeg:Lb:=[om 14 4,Wo 15 94 14 6,Wf 16 1 6,Wt 1 16 15]
def xef:Lb:=[Wa 17 5,Wb 18 .neq 17 22,Wa 19 18,.grp 19 false [(xi 20 19 false (Mv 4)),(xi 21 19 false (Ca 97 [.t 20])),(xi 22 19 false (Bc .neq 21 0))] [4,20,21],Wi 23 19 22,Wa 24 23,XB 25 24 false 1 6 26 24 false 25 27 24 false .gtr 26 1099511627776,Wi 28 24 27]
def r54:RC:=(So Vc (So xek (So xej (So xei (So xeh (So xeg (Sq (So xef (XV 28 [6,28] (So Vb .ret))) (So Va .ret))))))))
def F54:FnC:=⟨r54,31,[.cell 2 2 true,.tmp 3],[],[]⟩
def xee:Lc:=[Fm 0 7 6,Fm 1 8 0,Fs 2 9 (Ln 8),Wk 3 10 .lss 7 9,Fm 4 11 10,Wu 5 12 11 true 0,Wu 6 13 11 true 6,Fi 7 14 11 true (Ia 2 12 13),WA 8 15 11 true 0 14,Wz 9 16 11 true 15,WA 10 17 11 true 0 3,Wz 11 18 11 true 17,Xc 12 19 11 true 98 16 18,Wu 13 20 11 true 19,Wu 14 21 20 false 0,Wu 15 22 20 false 6,Fi 16 23 20 false (Ia 2 21 22),WA 17 24 20 false 0 23,Wz 18 25 20 false 24,WA 19 26 20 false 0 3,Wz 20 27 20 false 26,Xc 21 28 20 false 31 25 27,Wu 22 29 20 false 28,Wu 23 30 29 true 0,Wu 24 31 29 true 6,Fi 25 32 29 true (Ia 2 30 31),WA 26 33 29 true 1 32,Wz 27 34 29 true 33,WA 28 35 29 true 1 3,Wz 29 36 29 true 35,Fi 30 37 29 true (Bb .lss 34 36),Fi 31 38 20 false (Pf 29 37),Fi 32 39 11 true (Pt 20 38),Fs 33 40 (Pf 11 39)]
def xed:Lb:=[Wa 41 6,Wb 42 .add 41 1,Wa 6 42]
def VV:RC:=(Sq (Sq (.flt [0,0,2,7,15,31,31,127,255,511,31,1055,4095,8191,16383,16383,65535,131071,262143,16383,540671,2097151,4194303,8388607,8388607,33554431,67108863,134217727,8388607,276824063,1073741823,2147483647,4294967295,8589934591] [] xee [7,8,9,10,11,12,13,14,15,16,17,18,19,20,21,22,23,24,25,26,27,28,29,30,31,32,33,34,35,36,37,38,39]) (XU 40 [40] (.exit 0))) (Bk 1 (.ops xed)))
def U8:RC:=VV
def xec:Lc:=[Fm 0 43 6,Fm 1 44 6,Fm 2 45 0,Fs 3 46 (Ln 45),Wk 4 47 .lss 44 46,Fm 5 48 47,Wu 6 49 48 true 0,Wu 7 50 48 true 6,Fi 8 51 48 true (Ia 2 49 50),WL 9 52 48 true 2 51,WL 10 53 48 true 2 3,Xc 11 54 48 true 41 52 53,Fs 12 55 (Pf 48 54),Fm 13 4 43,Fm 14 5 55]
def r55:RC:=(So U9 (So jO (Sq (Bk 0 (.loop U8)) (Sq (.flt [0,0,0,4,14,30,62,62,254,510,62,2046,4094,4095,16383] [] xec [0,3,6,43,44,45,46,47,48,49,50,51,52,53,54,55]) .ret))))
def F55:FnC:=⟨r55,56,[.tmp 4,.tmp 5],[],[]⟩
def xeb:Lb:=[Wf 9 0 2,Wc 10 9,Wf 11 0 3,Wc 12 11,Wh 13 .neq 10 12,Wa 14 13,.grp 14 false [(xi 15 14 false (Fa 1 2)),(xi 16 14 false (Ld 15)),(xi 17 14 false (Fa 1 3)),(xi 18 14 false (Ld 17)),(xi 19 14 false (Bb .neq 16 18))] [15,16,17,18],Wi 20 14 19,Wa 21 20,.grp 21 false [(xi 22 21 false (Fa 2 2)),(xi 23 21 false (Ld 22)),(xi 24 21 false (Fa 2 3)),(xi 25 21 false (Ld 24)),(xi 26 21 false (Bb .neq 23 25))] [22,23,24,25],Wi 27 21 26,Wa 28 27,.grp 28 false [(xi 29 28 false (Fa 3 2)),(xi 30 28 false (Ld 29)),(xi 31 28 false (Fa 3 3)),(xi 32 28 false (Ld 31)),(xi 33 28 false (Bb .neq 30 32))] [29,30,31,32],Wi 34 28 33,Wa 35 34,.grp 35 false [(xi 36 35 false (Fa 4 2)),(xi 37 35 false (Ld 36)),(xi 38 35 false (Fa 4 3)),(xi 39 35 false (Ld 38)),(xi 40 35 false (Bb .neq 37 39))] [36,37,38,39],Wi 41 35 40,Wa 42 41,.grp 42 false [(xi 43 42 false (Fa 5 2)),(xi 44 42 false (Ld 43)),(xi 45 42 false (Ln 44)),(xi 46 42 false (Fa 5 3)),(xi 47 42 false (Ld 46)),(xi 48 42 false (Ln 47)),(xi 49 42 false (Bb .neq 45 48))] [43,44,45,46,47,48],Wi 50 42 49,Wa 51 50,.grp 51 false [(xi 52 51 false (Fa 6 2)),(xi 53 51 false (Ld 52)),(xi 54 51 false (Ln 53)),(xi 55 51 false (Fa 6 3)),(xi 56 51 false (Ld 55)),(xi 57 51 false (Ln 56)),(xi 58 51 false (Bb .neq 54 57))] [52,53,54,55,56,57],Wi 59 51 58]
def xea:Lb:=[om 60 5,Wf 61 5 2,Wc 62 61,Wj 63 62,Wh 64 .lss 60 63]
def xd9:Lc:=[Wg 0 67 5 2,We 1 68 67,Fm 2 69 5,Ws 3 70 4 68 69,Wv 4 71 4 70,Wg 5 72 5 3,We 6 73 72,Fm 7 74 5,Ws 8 75 4 73 74,Wv 9 76 4 75,Fz 10 6 (.new (.rc Zq2)),Fz 11 7 (.new (.rc Zq2)),Fr 12 4 6 71,Fr 13 4 7 76]
def xd8:Lb:=[Wf 77 0 6,Wc 78 77,Wf 79 0 7,Wc 80 79,Wh 81 .neq 78 80,Wa 82 81,.grp 82 false [(xi 83 82 false (Fa 1 6)),(xi 84 82 false (Ld 83)),(xi 85 82 false (Fa 1 7)),(xi 86 82 false (Ld 85)),(xi 87 82 false (Bb .neq 84 86))] [83,84,85,86],Wi 88 82 87,Wa 89 88,.grp 89 false [(xi 90 89 false (Fa 2 6)),(xi 91 89 false (Ld 90)),(xi 92 89 false (Fa 2 7)),(xi 93 89 false (Ld 92)),(xi 94 89 false (Bb .neq 91 93))] [90,91,92,93],Wi 95 89 94,Wa 96 95,.grp 96 false [(xi 97 96 false (Fa 3 6)),(xi 98 96 false (Ld 97)),(xi 99 96 false (Fa 3 7)),(xi 100 96 false (Ld 99)),(xi 101 96 false (Ca 31 [.t 98,.t 100])),(xi 102 96 false (.un .not (.t 101)))] [6,7,97,98,99,100,101],Wi 103 96 102]
def xd7:Lb:=[Wa 65 5,Wb 66 .add 65 1,Wa 5 66]
def VU:RC:=(.post (Sq (So xea (XU 64 [5,64] (.exit 0))) (Sq (Bk 1 (Sq (.fla [0,1,0,7,15,0,32,0,224,480,0,0,3103,8191] [106,107] xd9 [[0,1,2,3,4,5,6,7,8,9,10,11,12,13],[0,1,2,3,4,5,6,7,8,9,11,10,12,13]] [67,68,69,70,71,72,73,74,75,76]) (So xd8 (XV 103 [2,3,5,103] (So mI .ret))))) (.ops xd7))) [.gc [106,107]])
def Iq:RC:=VU
def M3:Lb:=[om 104 8,Wf 105 6 2,Wc 106 105,Wj 107 106,Wh 108 .lss 104 107]
def M2:Lc:=[Wg 0 111 6 2,We 1 112 111,Fm 2 113 8,Ws 3 114 4 112 113,Wv 4 115 4 114,Wg 5 116 6 3,We 6 117 116,Fm 7 118 8,Ws 8 119 4 117 118,Wv 9 120 4 119,Fs 10 121 (.eqS true [1,2,1,1] (.t 115) (.t 120))]
def M1:Lb:=[Wa 109 8,Wb 110 .add 109 1,Wa 8 110]
def C5:RC:=(Sq (So M3 (XU 108 [2,3,8,108] (.exit 2))) (Sq (Bk 3 (Sq (.flt [0,1,0,7,15,0,32,0,224,480,1023] [] M2 [111,112,113,114,115,116,117,118,119,120]) (XV 121 [2,3,8,121] (So mI .ret)))) (.ops M1)))
def xb:RC:=C5
def r56:RC:=(So AM (Sq (So xeb (XV 59 [2,3,59] (So mI .ret))) (Sq (So pq (Bk 0 (.loop Iq))) (Sq (So pn (Bk 2 (.loop xb))) (So sQ .ret)))))
def F56:FnC:=⟨r56,122,[.tmp 4],[],[]⟩
def xd6:Lb:=[WC 3 0,WC 4 1,WC 5 2,WU 6 false]
def xd5:Lb:=[Wp 8 7 4,Wm 9 32 8,on 7 (.new (.rc [.byt [] .clip])),Wq 1 7 9]
def xd4:Lb:=[oo 10 (Fa 3 3) [3],Wc 11 10,oo 12 (.mkfn 100 [] [.t 5,.t 7]) [5,7],Ww 13 99 11 12,Wa 6 13]
def r57:RC:=(So xd6 (So xd5 (So xd4 .ret)))
def F57:FnC:=⟨r57,14,[.tmp 6],[],[]⟩
def xd3:Lb:=[WC 3 0,WC 4 1,WU 6 false]
def xd2:Lc:=[Fm 0 9 2,Wg 1 10 3 4,We 2 11 10,Wk 3 12 .lss 9 11,Fm 4 13 12,Wu 5 14 13 false 2,WA 6 15 13 false 4 4,Wz 7 16 13 false 15,Fi 8 17 13 false (Bb .geq 14 16),Fs 9 18 (Pt 13 17),Fm 10 19 18,WA 11 20 19 false 1 4,Wz 12 21 19 false 20,WL 13 22 19 false 4 3,WA 14 23 19 false 0 4,Wz 15 24 19 false 23,Wu 16 25 19 false 2,Fy 17 26 19 false (Ca 26 [.t 22,.t 24,.t 25]),Fi 18 27 19 false (Bb .lss 21 26),Fs 19 28 (Pt 19 27)]
def Ip:Lb:=[WP 6 false]
def xd1:Lb:=[Wp 29 7 4,Wm 30 36 29,Wa 7 30]
def xd0:Lb:=[om 31 8,Wf 32 3 3,Wc 33 32,Wj 34 33,Wh 35 .lss 31 34]
def xdZ:Lb:=[Wf 38 3 3,Wc 39 38,om 40 8,WH 41 2 39 40,Wr 42 1 41,Wc 43 42,om 44 2,Wh 45 .leq 43 44,Wa 46 45,.grp 46 true [(xi 47 46 true (Fa 3 3)),(xi 48 46 true (Ld 47)),(xi 49 46 true (Mv 8)),(xi 50 46 true (Ia 2 48 49)),(xi 51 46 true (Fa 0 50)),(xi 52 46 true (Ld 51)),(xi 53 46 true (Mv 7)),(xi 54 46 true (Ca 31 [.t 52,.t 53]))] [47,48,49,50,51,52,53],Wy 55 46 54]
def VT:RC:=(Sq (So xd0 (XU 35 [2,3,7,8,35] (.exit 0))) (Sq (Bk 1 (So xdZ (XV 55 [2,3,7,8,55] (So Ip .ret)))) (.ops Ve)))
def U7:RC:=VT
def BT:Lb:=[WP 6 true]
def r58:RC:=(So xd3 (Sq (Sq (.flt [0,0,2,7,15,31,31,95,255,511,1023,2047,4095,2047,2047,18431,2047,124927,262143,524287] [] xd2 [9,10,11,12,13,14,15,16,17,18,19,20,21,22,23,24,25,26,27]) (XV 28 [2,3,4,28] (So Ip .ret))) (So xd1 (Sq (So pn (Bk 0 (.loop U7))) (So BT .ret)))))
def F58:FnC:=⟨r58,56,[.tmp 6],[],[]⟩
def xdY:Lb:=[WN 8 7 1,Wm 9 80 8,Wb 10 .neq 9 0]
def xdX:Lb:=[on 11 (Ca 101 [(.c (.byt [] .clip)),ci 1,ci 21]),Wa 3 11]
def xdW:Lb:=[Wa 12 3,Wf 13 0 1,Wc 14 13,oo 15 (.s2b (.t 14)) [14],Ww 16 102 12 15,Wa 3 16]
def xdV:Lc:=[Fm 0 17 3,Wg 1 18 1 1,We 2 19 18,Wg 4 21 2 1,We 5 22 21,W4 3 20 101 17 4 19,W4 6 23 101 20 4 22,⟨7,false,(xm 3 23)⟩]
def xdU:Lc:=[Fm 0 24 3,Wg 1 25 3 1,We 2 26 25,Wg 4 28 4 1,We 5 29 28,W4 3 27 101 24 6 26,W4 6 30 101 27 6 29,⟨7,false,(xm 3 30)⟩]
def xdT:Lb:=[Wa 31 3,Wf 32 5 1,Wc 33 32,Wj 34 33,Xf 35 101 31 1 34,Wa 3 35]
def xdS:Lb:=[Wf 36 5 1,Wc 37 36,on 38 (Ln 37),Wn 39 0]
def xdR:Lb:=[on 40 (Bb .lss 39 38)]
def M0:Lb:=[on 41 (Ia 4 37 39),Wp 42 4 41,Xk 5,Wq 4 5 42]
def MZ:Lc:=[Fm 0 43 3,Wg 1 44 0 5,We 2 45 44,Wg 4 47 1 5,We 5 48 47,Fs 6 49 (.s2b (.t 48)),W4 3 46 101 43 1 45,WG 7 50 102 46 49,⟨8,false,(xm 3 50)⟩]
def MY:Lc:=[Fm 0 51 3,Wg 1 52 2 5,We 2 53 52,Wg 4 55 3 5,We 5 56 55,W4 3 54 101 51 4 53,Xa 6 57 1 54 56,⟨7,false,(xm 3 57)⟩]
def MX:Lb:=[Wb 58 .add 39 1,Wa 39 58]
def C4:RC:=(.post (So xdR (Sq (XU 40 [37,38,39,40] (.exit 0)) (Sq (Bk 1 (So M0 (Sq (.flt [0,0,2,7,0,16,48,127,255] [] MZ [43,44,45,46,47,48,49,50]) (.flt [0,0,2,7,0,16,63,127] [157] MY [5,51,52,53,54,55,56,57])))) (.ops MX)))) [.gc [105],.gcr 47000 48000,.gcr 55000 56000,.tok 3 103])
def sI:RC:=C4
def MW:Lb:=[Wa 59 3,Wf 60 6 1,Wc 61 60,Wj 62 61,Xf 63 101 59 1 62,Wa 3 63]
def MV:Lb:=[Wr 64 6 1,Wc 65 64,on 66 (Ln 65),Wn 67 0]
def MU:Lb:=[on 68 (Bb .lss 67 66)]
def MT:Lb:=[on 69 (Ia 4 65 67),Wp 70 4 69,Xr 7,Wq 4 7 70]
def MS:Lc:=[Fm 0 71 3,Wg 1 72 0 7,We 2 73 72,Wg 4 75 1 7,We 5 76 75,Fs 6 77 (.s2b (.t 76)),W4 3 74 101 71 1 73,WG 7 78 102 74 77,⟨8,false,(xm 3 78)⟩]
def MR:Lc:=[Fm 0 79 3,Wg 1 80 2 7,We 2 81 80,Wg 4 83 3 7,We 5 84 83,W4 3 82 101 79 4 81,W4 6 85 101 82 4 84,⟨7,false,(xm 3 85)⟩]
def MQ:Lb:=[Wb 86 .add 67 1,Wa 67 86]
def C3:RC:=(.post (So MU (Sq (XU 68 [65,66,67,68] (.exit 2)) (Sq (Bk 3 (So MT (Sq (.flt [0,0,2,7,0,16,48,127,255] [] MS [71,72,73,74,75,76,77,78]) (.flt [0,0,2,7,0,16,63,127] [] MR [7,79,80,81,82,83,84,85])))) (.ops MQ)))) [.gc [107],.gcr 75000 76000,.gcr 83000 84000])
def sH:RC:=C3
def MP:Lb:=[Wa 87 3,Wa 2 87]
def r59:RC:=(So tx (Sq (So xdY (XV 10 [1,10] (So p9 .ret))) (So xdX (So xdW (Sq (.flt [0,0,2,7,0,16,63,127] [] xdV [17,18,19,20,21,22,23]) (Sq (.flt [0,0,2,7,0,16,63,127] [] xdU [24,25,26,27,28,29,30]) (So xdT (Sq (So xdS (Bk 0 (.pre [.tok 3 103] (.loop sI)))) (So MW (Sq (So MV (Bk 2 (.loop sH))) (So MP .ret)))))))))))
def F59:FnC:=⟨r59,88,[.tmp 2],[],[]⟩
def xdQ:Lb:=[Wa 5 0,Wa 6 1,Ww 7 104 5 6,W6 8 103 1 7,Wa 4 8]
def r60:RC:=(So iI (So xdQ .ret))
def F60:FnC:=⟨r60,9,[.tmp 4],[],[]⟩
def xdP:Lb:=[WC 5 0,on 10 (.new (.rc Zq4))]
def xdO:Lb:=[Wa 12 1,Wa 13 2,Wa 14 3,Wa 15 4,Wf 16 0 5,Wc 17 16,Xv 18 105 13 14 15 17,oo 19 (.build [.int .i64 0,.byt [] .clip] [(0,1,(.t 12)),(1,1,(.t 18))]) [12,18],XS 11,Wq 2 11 19]
def xdN:Lc:=[Wg 0 20 0 5,We 1 21 20,Fs 2 22 (.lit 2 []),Wg 3 23 1 5,We 4 24 23,Wv 6 26 2 11,W8 7 27 2 26,XP 5 25 32 22 24,XP 8 28 32 25 27,Fs 9 29 (.build Zq4 [(0,1,(.t 21)),(1,1,(.t 28))]),Fr 10 2 10 29]
def r61:RC:=(So xdP (So xdO (Sq (.flt [0,1,0,0,8,28,0,64,252,511,1023] [125,128] xdN [5,11,20,21,22,23,24,25,26,27,28,29]) .ret)))
def F61:FnC:=⟨r61,30,[.cell 10 2 true],[],[]⟩
def xdM:Lb:=[Wf 7 0 1,Wc 8 7,Wm 9 106 8,WV 10 9]
def tw:Lb:=[Wn 2 43]
def xdL:Lb:=[Wf 11 2 1,Wc 12 11,Wb 13 .lss 12 0,Wa 14 13,.grp 14 false [(xi 15 14 false (Fa 2 1)),(xi 16 14 false (Ld 15)),(xi 17 14 false (Fa 1 1)),(xi 18 14 false (Ld 17)),(xi 19 14 false (Bb .gtr 16 18))] [15,16,17,18],Wi 20 14 19,Wa 21 20,.grp 21 false [(xi 22 21 false (Fa 1 1)),(xi 23 21 false (Ld 22)),(xi 24 21 false (Bc .gtr 23 1000000))] [22,23],Wi 25 21 24,Wa 26 25,.grp 26 false [(xi 27 26 false (Fa 3 1)),(xi 28 26 false (Ld 27)),(xi 29 26 false (Bc .lss 28 0))] [27,28],Wi 30 26 29,Wa 31 30,.grp 31 false [(xi 32 31 false (Fa 3 1)),(xi 33 31 false (Ld 32)),(xi 34 31 false (Fa 4 1)),(xi 35 31 false (Ld 34)),(xi 36 31 false (Bb .geq 33 35))] [32,33,34,35],Wi 37 31 36,Wa 38 37,.grp 38 false [(xi 39 38 false (Fa 4 1)),(xi 40 38 false (Ld 39)),(xi 41 38 false (Bc .gtr 40 1099511627776))] [39,40],Wi 42 38 41]
def xdK:Lb:=[Wf 43 5 1,Wc 44 43,Wj 45 44,Wb 46 .gtr 45 16,Wa 47 46,.grp 47 false [(xi 48 47 false (Fa 6 1)),(xi 49 47 false (Ld 48)),(xi 50 47 false (Ln 49)),(xi 51 47 false (Bc .gtr 50 8))] [48,49,50],Wi 52 47 51]
def xdJ:Lb:=[om 53 3,Wf 54 5 1,Wc 55 54,Wj 56 55,Wh 57 .lss 53 56]
def xdI:Lb:=[Wf 60 5 1,Wc 61 60,om 62 3,WH 63 4 61 62,Wp 64 4 63,Xk 4,WF 4 64]
def MO:Lb:=[Wf 65 0 4,Wc 66 65,Wb 67 .lss 66 1,Wa 68 67,.grp 68 false [(xi 69 68 false (Fa 0 4)),(xi 70 68 false (Ld 69)),(xi 71 68 false (Bc .gtr 70 3))] [69,70],Wi 72 68 71,Wa 73 72,.grp 73 false [(xi 74 73 false (Fa 2 4)),(xi 75 73 false (Ld 74)),(xi 76 73 false (Bc .lss 75 0))] [74,75],Wi 77 73 76,Wa 78 77,.grp 78 false [(xi 79 78 false (Fa 2 4)),(xi 80 78 false (Ld 79)),(xi 81 78 false (Bc .gtr 80 1000000))] [79,80],Wi 82 78 81,Wa 83 82,.grp 83 false [(xi 84 83 false (Fa 3 4)),(xi 85 83 false (Ld 84)),(xi 86 83 false (Ln 85)),(xi 87 83 false (Bc .neq 86 32))] [84,85,86],Wi 88 83 87]
def MN:Lb:=[Wf 89 1 4,Wc 90 89,Wm 91 106 90,WV 92 91]
def MM:Lc:=[Fm 0 93 3,WE 1 94 .gtr 93 0,Fm 2 95 94,WA 3 96 95 true 5 1,Wz 4 97 95 true 96,Wu 5 98 95 true 3,Fi 6 99 95 true (Bc .sub 98 1),Fi 7 100 95 true (Ia 4 97 99),WL 8 101 95 true 4 100,WL 9 102 95 true 4 4,Xc 10 103 95 true 107 101 102,Fi 11 104 95 true (.un .not (.t 103)),Fs 12 105 (Pf 95 104)]
def ML:Lb:=[Wa 58 3,Wb 59 .add 58 1,Wa 3 59]
def C2:RC:=(.post (Sq (So xdJ (XU 57 [3,57] (.exit 0))) (Sq (Bk 1 (So xdI (Sq (So MO (XV 88 [1,3,4,88] (So gD .ret))) (Sq (So MN (XV 92 [1,3,4,92] (So tw .ret))) (Sq (.flt [0,1,3,7,15,7,39,127,255,7,1023,2047,4095] [] MM [4,93,94,95,96,97,98,99,100,101,102,103,104]) (XV 105 [1,3,105] (So AJ .ret))))))) (.ops ML))) [.gc [104]])
def nh:RC:=C2
def MK:Lb:=[om 106 5,Wf 107 6 1,Wc 108 107,Wj 109 108,Wh 110 .lss 106 109]
def MJ:Lb:=[Wf 113 6 1,Wc 114 113,om 115 5,WH 116 4 114 115,Wp 117 4 116,Wm 118 108 117,Wa 6 118]
def MI:Lb:=[om 119 6,Wb 120 .neq 119 0]
def MH:Lb:=[Wa 121 6,Wa 2 121]
def MG:Lb:=[Wa 111 5,Wb 112 .add 111 1,Wa 5 112]
def C1:RC:=(Sq (So MK (XU 110 [1,5,110] (.exit 2))) (Sq (Bk 3 (So MJ (So MI (Kc 120 (Kk [1,5,120] (So MH .ret)) (Kk [6,120] .skip))))) (.ops MG)))
def xa:RC:=C1
def r62:RC:=(So pm (Sq (So xdM (XV 10 [1,10] (So tw .ret))) (Sq (So xdL (XV 42 [1,42] (So gD .ret))) (Sq (So xdK (XV 52 [1,52] (So pl .ret))) (Sq (So xh (Bk 0 (.loop nh))) (Sq (So pq (Bk 2 (.loop xa))) (So kS .ret)))))))
def F62:FnC:=⟨r62,122,[.tmp 2],[],[]⟩
def xdH:Lb:=[om 5 1,Wj 6 5,Wb 7 .gtr 6 65535]
def xdG:Lb:=[Wa 8 1,Xb 9 1 8 65535,Wa 1 9]
def xdF:Lb:=[Wa 10 0,om 11 1,Wj 12 11,Xf 13 64 10 2 12,Wa 14 1,WB 15 1 13 14,Wa 4 15]
def r63:RC:=(So iI (Sq (So xdH (XV 7 [7] (.ops xdG))) (So xdF .ret)))
def F63:FnC:=⟨r63,16,[.tmp 4],[0],[]⟩
def tv:Lb:=[W9 6]
def xdE:Lb:=[on 9 (.litB []),Wa 10 0,WB 11 1 9 10,Wa 7 11]
def xdD:Lb:=[om 12 1,Wb 13 .lss 12 1,Wa 14 13,.grp 14 false [(xi 15 14 false (Mv 1)),(xi 16 14 false (Bc .gtr 15 8))] [15],Wi 17 14 16]
def xdC:Lb:=[Wa 18 7,Wa 6 18]
def xdB:Lb:=[Wa 19 1,Wb 20 .sub 19 1,Wa 8 20]
def xdA:Lb:=[om 21 8,Wb 22 .geq 21 0]
def xdz:Lb:=[Wa 25 7,om 26 2,W1 27 26,om 28 8,W1 29 28,oo 30 (.bin .mul (.c (.int .u64 8)) (.t 29)) [29],Wh 31 .shr 27 30,Wx 32 31,WY 33 32,WB 34 1 25 33,Wa 7 34]
def xdy:Lb:=[Wa 23 8,Wb 24 .sub 23 1,Wa 8 24]
def VS:RC:=(.post (Sq (So xdA (XU 22 [2,8,22] (.exit 0))) (Sq (Bk 1 (.ops xdz)) (.ops xdy))) [.tok 7 107])
def U6:RC:=VS
def xdx:Lb:=[Wa 35 7,Wa 6 35]
def r64:RC:=(So tv (So xdE (Sq (So xdD (XV 17 [1,2,17] (So xdC .ret))) (Sq (So xdB (Bk 0 (.pre [.tok 7 107] (.loop U6)))) (So xdx .ret)))))
def F64:FnC:=⟨r64,36,[.tmp 6],[0],[]⟩
def xdw:Lb:=[Wa 5 0,Wa 6 1,Ww 7 109 5 6,Wm 8 68 7,Wa 4 8]
def r65:RC:=(So iI (So xdw .ret))
def F65:FnC:=⟨r65,9,[.tmp 4],[],[]⟩
def xdv:Lb:=[om 5 0,Wj 6 5,Wm 7 110 6,WV 8 7]
def xdu:Lb:=[Wa 9 0,Wa 3 9]
def xdt:Lb:=[om 10 3,Wj 11 10,Wb 12 .gtr 11 1]
def xds:Lb:=[om 15 4,Wa 16 3,Ww 17 111 15 16,Wa 3 17]
def xdr:Lb:=[Wa 13 4,Wb 14 .add 13 1,Wa 4 14]
def VR:RC:=(Sq (So xdt (XU 12 [4,12] (.exit 0))) (Sq (Bk 1 (.ops xds)) (.ops xdr)))
def xdq:RC:=VR
def xdp:Lb:=[Wa 18 3,Xw 19 1 18 0,Wc 20 19,Wm 21 112 20,Wa 2 21]
def r66:RC:=(So kT (Sq (So xdv (XV 8 [0,8] (So p9 .ret))) (So xdu (Sq (So iX (Bk 0 (.loop xdq))) (So xdp .ret)))))
def F66:FnC:=⟨r66,22,[.tmp 2],[],[]⟩
def Io:Lb:=[XC 4]
def AH:Lb:=[Xs 5]
def xdo:Lb:=[Wa 8 0,om 9 1,Ww 10 113 8 9,Wa 6 10]
def xdn:Lb:=[om 11 7,om 12 1,W1 13 12,WS 14 .shl 1 13,Wh 15 .lss 11 14]
def xdm:Lb:=[Wa 18 5,om 19 6,om 20 7,Ww 21 114 19 20,WM 22 1 21,Xx 23 24 18 22,Wa 5 23]
def xdl:Lb:=[Wa 16 7,Wb 17 .add 16 1,Wa 7 17]
def VQ:RC:=(.post (Sq (So xdn (XU 15 [1,6,7,15] (.exit 0))) (Sq (Bk 1 (.ops xdm)) (.ops xdl))) [.tok 5 105])
def xdk:RC:=VQ
def xdj:Lb:=[Wa 24 5,Wa 4 24]
def r67:RC:=(So Io (So AH (So xdo (Sq (So po (Bk 0 (.pre [.tok 5 105] (.loop xdk)))) (So xdj .ret)))))
def F67:FnC:=⟨r67,25,[.tmp 4],[],[]⟩
def xdi:Lb:=[on 18 (Ca 115 []),XD 3,Wq 64 3 18]
def xdh:Lb:=[.own (xs 19 (.lit 1 [(.c (.int .u32 1779033703)),(.c (.int .u32 3144134277)),(.c (.int .u32 1013904242)),(.c (.int .u32 2773480762)),(.c (.int .u32 1359893119)),(.c (.int .u32 2600822924)),(.c (.int .u32 528734635)),(.c (.int .u32 1541459225))])) [],Wa 4 19]
def xdg:Lb:=[Wa 20 0,Wm 21 116 20,Wa 5 21]
def xdf:Lb:=[om 22 6,om 23 5,Wj 24 23,Wh 25 .lss 22 24]
def xde:Lb:=[XD 7]
def xdd:Lb:=[om 28 8,Wb 29 .lss 28 64]
def xdc:Lb:=[om 32 8,Wb 33 .lss 32 16]
def MF:Lb:=[om 34 8,om 35 5,om 36 6,om 37 6,Wb 38 .add 37 64,XE 39 1 35 36 38,om 40 8,Ww 41 117 39 40,oo 42 (.iaddrA 64 1 (.t 7) (.t 34)) [34],Wt 1 42 41]
def ME:Lc:=[Fm 0 43 8,WE 1 44 .sub 43 15,WT 2 45 7 44,We 3 46 45,Fm 5 48 8,WE 6 49 .sub 48 15,WT 7 50 7 49,We 8 51 50,Fm 11 54 8,WE 12 55 .sub 54 15,WT 13 56 7 55,We 14 57 56,Fs 15 58 (.bin .shr (.t 57) (.c (.int .u64 3))),Fz 4 47 (Ca 118 [.t 46,(.c (.int .u64 7))]),Fz 9 52 (Ca 118 [.t 51,(.c (.int .u64 18))]),Wk 10 53 .xor 47 52,Wk 16 59 .xor 53 58,Fm 17 9 59]
def MD:Lc:=[Fm 0 60 8,WE 1 61 .sub 60 2,WT 2 62 7 61,We 3 63 62,Fm 5 65 8,WE 6 66 .sub 65 2,WT 7 67 7 66,We 8 68 67,Fm 11 71 8,WE 12 72 .sub 71 2,WT 13 73 7 72,We 14 74 73,Fs 15 75 (.bin .shr (.t 74) (.c (.int .u64 10))),Fz 4 64 (Ca 118 [.t 63,(.c (.int .u64 17))]),Fz 9 69 (Ca 118 [.t 68,(.c (.int .u64 19))]),Wk 10 70 .xor 64 69,Wk 16 76 .xor 70 75,Fm 17 10 76]
def MC:Lc:=[Fm 0 77 8,Fm 1 78 10,Fm 2 79 8,WE 3 80 .sub 79 7,WT 4 81 7 80,We 5 82 81,Wk 6 83 .add 78 82,Fm 7 84 9,Wk 8 85 .add 83 84,Fm 9 86 8,WE 10 87 .sub 86 16,WT 11 88 7 87,We 12 89 88,Wk 13 90 .add 85 89,WT 14 91 7 77,Fr 15 1 91 90]
def BS:Lb:=[Wa 30 8,Wb 31 .add 30 1,Wa 8 31]
def C0:RC:=(Sq (So xdd (XU 29 [8,29] (.exit 2))) (Sq (Bk 3 (Sq (So xdc (XV 33 [33] (So MF (.exit 3)))) (Sq (.flt [0,1,3,7,15,0,32,96,224,511,1023,0,2048,6144,14336,30720,65535,131071] [] ME [43,44,45,46,47,48,49,50,51,52,53,54,55,56,57,58,59]) (Sq (.flt [0,1,3,7,15,0,32,96,224,511,1023,0,2048,6144,14336,30720,65535,131071] [] MD [60,61,62,63,64,65,66,67,68,69,70,71,72,73,74,75,76]) (.flt [0,0,0,4,12,28,62,0,254,0,512,1536,3584,8190,16383,32767] [] MC [9,10,77,78,79,80,81,82,83,84,85,86,87,88,89,90,91]))))) (.ops BS)))
def BR:RC:=C0
def MB:Lb:=[on 92 (.lit 1 []),om 93 4,oo 94 (.app [.int .u32 0] 4 (.t 92) (.t 93)) [92,93],Wa 11 94]
def MA:Lb:=[Wn 12 0]
def Mz:Lb:=[om 95 12,Wb 96 .lss 95 64]
def My:Lc:=[Fm 0 99 11,WQ 1 100 1 99 0,We 2 101 100,Fm 3 102 11,WQ 4 103 1 102 4,We 5 104 103,Fm 6 13 101,Fm 7 14 104]
def Mx:Lc:=[Fm 0 105 11,WQ 1 106 1 105 7,We 2 107 106,Fm 3 108 14,Fm 5 110 14,Fm 8 113 14,Fm 12 117 14,Fm 13 118 11,WQ 14 119 1 118 5,We 15 120 119,Wk 16 121 .and 117 120,Fm 17 122 14,Fs 18 123 (.un .xor (.t 122)),Fm 19 124 11,WQ 20 125 1 124 6,We 21 126 125,Wk 22 127 .and 123 126,Wk 23 128 .xor 121 127,Fm 25 130 12,WT 26 131 3 130,We 27 132 131,Fm 29 134 12,WT 30 135 7 134,We 31 136 135,Fz 4 109 (Ca 118 [.t 108,(.c (.int .u64 6))]),Fz 6 111 (Ca 118 [.t 110,(.c (.int .u64 11))]),Wk 7 112 .xor 109 111,Fz 9 114 (Ca 118 [.t 113,(.c (.int .u64 25))]),Wk 10 115 .xor 112 114,Wk 11 116 .add 107 115,Wk 24 129 .add 116 128,Wk 28 133 .add 129 132,Wk 32 137 .add 133 136,Fm 33 15 137]
def Mw:Lc:=[Fm 0 138 13,Fm 2 140 13,Fm 5 143 13,Fm 8 146 13,Fm 9 147 11,WQ 10 148 1 147 1,We 11 149 148,Wk 12 150 .and 146 149,Fm 13 151 13,Fm 14 152 11,WQ 15 153 1 152 2,We 16 154 153,Wk 17 155 .and 151 154,Wk 18 156 .xor 150 155,Fm 19 157 11,WQ 20 158 1 157 1,We 21 159 158,Fm 22 160 11,WQ 23 161 1 160 2,We 24 162 161,Wk 25 163 .and 159 162,Wk 26 164 .xor 156 163,Fz 1 139 (Ca 118 [.t 138,(.c (.int .u64 2))]),Fz 3 141 (Ca 118 [.t 140,(.c (.int .u64 13))]),Wk 4 142 .xor 139 141,Fz 6 144 (Ca 118 [.t 143,(.c (.int .u64 22))]),Wk 7 145 .xor 142 144,Wk 27 165 .add 145 164,Fm 28 16 165]
def Mu:Lc:=[Fm 0 166 15,Fm 1 167 16,Wk 2 168 .add 166 167,Fm 3 169 13,Fm 4 170 11,WQ 5 171 1 170 1,We 6 172 171,Fm 7 173 11,WQ 8 174 1 173 2,We 9 175 174,Fm 10 176 11,WQ 11 177 1 176 3,We 12 178 177,Fm 13 179 15,Wk 14 180 .add 178 179,Fm 15 181 14,Fm 16 182 11,WQ 17 183 1 182 5,We 18 184 183,Fm 19 185 11,WQ 20 186 1 185 6,We 21 187 186,Fs 22 188 (.lit 1 [.t 168,.t 169,.t 172,.t 175,.t 180,.t 181,.t 184,.t 187]),⟨23,false,(xm 11 188)⟩]
def Mt:Lb:=[Wa 97 12,Wb 98 .add 97 1,Wa 12 98]
def CZ:RC:=(Sq (So Mz (XU 96 [7,12,96] (.exit 4))) (Sq (Bk 5 (Sq (.flt [0,1,3,0,8,24,7,127] [] My [99,100,101,102,103,104]) (Sq (.flt [0,1,3,0,8,0,56,120,0,376,1016,2047,0,0,8192,24576,61440,0,131072,0,524288,1572864,4063232,8384512,16777215,0,33554432,100663296,268435455,0,536870912,1610612736,4294967295,8589934591] [] Mx [105,106,107,108,109,110,111,112,113,114,115,116,117,118,119,120,121,122,123,124,125,126,127,128,129,130,131,132,133,134,135,136,137]) (Sq (.flt [0,1,0,7,15,0,47,127,0,0,512,1536,3840,0,0,16384,49152,122880,261888,0,524288,1572864,0,4194304,12582912,33030144,67108608,134217727,268435455] [] Mw [138,139,140,141,142,143,144,145,146,147,148,149,150,151,152,153,154,155,156,157,158,159,160,161,162,163,164,165]) (.flt [0,0,3,0,0,16,48,0,128,384,0,1024,3072,0,15360,0,0,65536,196608,0,524288,1572864,4194303,8388607] [] Mu [13,14,15,16,166,167,168,169,170,171,172,173,174,175,176,177,178,179,180,181,182,183,184,185,186,187,188]))))) (.ops Mt)))
def BQ:RC:=CZ
def BP:Lb:=[Wn 17 0]
def Ms:Lb:=[om 189 17,Wb 190 .lss 189 8]
def Mr:Lc:=[Fm 0 193 4,Fm 1 194 17,Ws 2 195 1 193 194,We 3 196 195,Fm 4 197 11,Fm 5 198 17,Ws 6 199 1 197 198,We 7 200 199,Wk 8 201 .add 196 200,Ws 9 202 1 193 194,Fr 10 1 202 201]
def Mq:Lb:=[Wa 191 17,Wb 192 .add 191 1,Wa 17 192]
def CY:RC:=(Sq (So Ms (XU 190 [11,17,190] (.exit 6))) (Sq (Bk 7 (.flt [0,0,3,7,0,0,48,112,255,511,1023] [] Mr [193,194,195,196,197,198,199,200,201,202])) (.ops Mq)))
def BO:RC:=CY
def Mp:Lb:=[Wa 26 6,Wb 27 .add 26 64,Wa 6 27]
def CX:RC:=(.post (Sq (So xdf (XU 25 [3,5,6,25] (.exit 0))) (Sq (Bk 1 (So xde (Sq (So pn (Bk 2 (.loop BR))) (So MB (Sq (So MA (Bk 4 (.loop BQ))) (So BP (Bk 6 (.loop BO)))))))) (.ops Mp))) [.gc [107,194]])
def BN:RC:=CX
def Mo:Lb:=[Wa 203 4,Wm 204 119 203,Wa 2 204]
def r68:RC:=(So kT (So xdi (So xdh (So xdg (Sq (So jO (Bk 0 (.loop BN))) (So Mo .ret))))))
def F68:FnC:=⟨r68,205,[.tmp 2],[],[]⟩
def xdb:Lb:=[WW 6]
def xda:Lb:=[Wa 12 0,Wa 13 1,oo 14 (.build Zq0 [(0,1,(.t 12)),(1,1,(.t 13)),(4,1,(ci 1099511627776))]) [12,13],WW 7,WF 7 14]
def xc9:Lb:=[om 15 8,om 16 2,Wj 17 16,Wh 18 .lss 15 17]
def xc8:Lb:=[om 21 2,om 22 8,WH 23 4 21 22,Wp 24 4 23,Wm 25 120 24,Wa 9 25]
def xc7:Lb:=[om 26 9,Wj 27 26,Wb 28 .eql 27 0,Wa 29 28,.grp 29 false [(xi 30 29 false (Mv 2)),(xi 31 29 false (Mv 8)),(xi 32 29 false (Ia 4 30 31)),(xi 33 29 false (Fa 0 32)),(xi 34 29 false (Ld 33)),(xi 35 29 false (Bc .eql 34 4))] [30,31,32,33,34],Wi 36 29 35]
def xc6:Lc:=[Fm 0 37 2,Fm 1 38 8,Ws 2 39 4 37 38,Wg 3 40 0 39,We 4 41 40,Fm 5 42 2,Fm 6 43 8,Ws 7 44 4 42 43,Wg 8 45 1 44,We 9 46 45,Fm 10 47 2,Fm 11 48 8,Ws 12 49 4 47 48,Wg 13 50 2 49,We 14 51 50,Fm 15 52 9,WZ 16 53 68 52,Fs 17 54 (.build Zq2 [(0,1,(.t 41)),(1,1,(.t 46)),(2,1,(.t 51)),(3,1,(.t 53))]),Fz 18 10 (.new (.rc Zq2)),Fr 19 4 10 54]
def xc5:Lc:=[Fm 0 55 11,Wg 1 56 5 7,We 2 57 56,Fs 3 58 (Ln 57),Wk 4 59 .lss 55 58,Fm 5 60 59,WA 6 61 60 true 5 7,Wz 7 62 60 true 61,Wu 8 63 60 true 11,Fi 9 64 60 true (Ia 4 62 63),WL 10 65 60 true 4 64,WL 11 66 60 true 4 10,Xc 12 67 60 true 107 65 66,Fs 13 68 (Pf 60 67)]
def xc4:Lb:=[Wa 69 11,Wb 70 .add 69 1,Wa 11 70]
def CW:RC:=(Sq (Sq (.flt [0,0,2,6,15,31,63,127,63,511,1023,63,4095,8191] [] xc5 [55,56,57,58,59,60,61,62,63,64,65,66,67]) (XU 68 [68] (.exit 2))) (Bk 3 (.ops xc4)))
def BM:RC:=CW
def Mn:Lc:=[Fm 0 71 11,Wg 1 72 5 7,We 2 73 72,Fs 3 74 (Ln 73),Wk 4 75 .lss 71 74,Fm 5 76 75,WL 6 77 76 true 4 10,WA 7 78 76 true 5 7,Wz 8 79 76 true 78,Wu 9 80 76 true 11,Fi 10 81 76 true (Ia 4 79 80),WL 11 82 76 true 4 81,Xc 12 83 76 true 107 77 82,Fi 13 84 76 true (.un .not (.t 83)),Fs 14 85 (Pf 76 84)]
def Mm:Lc:=[Fs 0 86 (.lit 4 []),Wg 1 87 5 7,We 2 88 87,Fm 3 89 11,Xu 4 90 4 88 89,Wv 6 92 4 10,W8 7 93 4 92,Wg 9 95 5 7,We 10 96 95,Fm 11 97 11,XA 12 98 4 96 97,Fz 5 91 (.app Zq2 56 (.t 86) (.t 90)),Fz 8 94 (.app Zq2 56 (.t 91) (.t 93)),Fz 13 99 (.app Zq2 56 (.t 94) (.t 98)),Wg 14 100 5 7,Fr 15 1 100 99]
def Ml:Lb:=[Wa 19 8,Wb 20 .add 19 1,Wa 8 20]
def CV:RC:=(.post (Sq (So xc9 (XU 18 [2,8,18] (.exit 0))) (Sq (Bk 1 (So xc8 (Sq (So xc7 (XV 36 [9,36] (.exit 1))) (Sq (.fla [0,0,3,7,15,0,0,96,224,480,0,0,3072,7168,15360,0,32768,131071,0,524287] [110] xc6 [[0,1,2,3,4,5,6,7,8,9,10,11,12,13,14,15,16,17,18,19],[0,1,2,3,4,5,6,7,8,9,10,11,12,13,14,15,18,16,17,19]] [9,37,38,39,40,41,42,43,44,45,46,47,48,49,50,51,52,53,54]) (So xd (Sq (Bk 2 (.loop BM)) (Sq (Sq (.flt [0,0,2,6,15,31,63,63,191,63,959,1983,4095,8191,16383] [] Mn [71,72,73,74,75,76,77,78,79,80,81,82,83,84]) (XV 85 [10,11,85] (.exit 1))) (.flt [0,0,2,0,14,31,0,64,255,0,512,0,3584,8191,16383,32767] [191,194,199] Mm [10,11,86,87,88,89,90,91,92,93,94,95,96,97,98,99,100])))))))) (.ops Ml))) [.gc [110,191,194,199]])
def ng:RC:=CV
def Mj:Lb:=[oo 101 (Lt 7 7) [7],Wq 7 6 101]
def r69:RC:=(So xdb (So xda (Sq (So pn (Bk 0 (.loop ng))) (So Mj .ret))))
def F69:FnC:=⟨r69,102,[.cell 6 7 true],[0],[]⟩
def xc1:Lb:=[Xr 2]
def xc0:Lb:=[om 5 0,Wo 6 17 5 5]
def xcZ:Lb:=[on 8 (Bc .eql 6 0),Wa 7 8]
def xcY:Lb:=[on 9 (.build Zq3 [(0,1,(ci 1))]),Wq 4 2 9]
def xcX:Lb:=[on 11 (Bc .eql 6 1),Wa 10 11]
def xcW:Lb:=[Wa 12 0,Wm 13 121 12,Xg 14 13,oo 15 (.build Zq3 [(0,1,(ci 2)),(1,1,(.t 14))]) [14],Wq 4 2 15]
def xcV:Lb:=[Wb 17 .eql 6 2,Wa 16 17]
def xcU:Lb:=[on 18 (.build [.str [],.str [],.str [],.str [],.str [],.str [],.str []] [(0,1,(.c (.str []))),(1,1,(.c (.str [42]))),(2,1,(.c (.str [97,61,63]))),(3,1,(.c (.str [42,61,42]))),(4,1,(.c (.str [63,111,42,53]))),(5,1,(.c (.str [99,111,117,110,116,61,63,63]))),(6,1,(.c (.str [42,97,42,42,49,42])))]),on 3 (.new (.arr 1 (aL 7 [.str []]))),Wq 7 3 18]
def xcT:Lb:=[Wa 19 0,Wo 20 17 19 7,oo 21 (.iaddrA 7 1 (.t 3) (.t 20)) [3,20],Wc 22 21,oo 23 (.build Zq3 [(0,1,(ci 3)),(1,1,(.t 22))]) [22],Wq 4 2 23]
def xcS:Lb:=[om 24 0,Wo 25 17 24 20,Wa 4 25]
def Mi:Lc:=[Fs 0 26 (.build [.str [],.str [],.str []] [(0,1,(.c (.str [99,111,117,110,116,61]))),(1,1,(.c (.str [97,61]))),(2,1,(.c (.str [])))]),Fm 1 27 0,Fm 4 30 4,Fm 5 31 4,Fm 6 32 0,WO 2 28 17 27 3,Fs 3 29 (.idxA 3 1 false (.t 26) (.t 28)),WO 7 33 17 32 30,Wk 8 34 .add 31 33,Fs 9 35 (.build Zq3 [(0,1,(ci 4)),(1,1,(.t 29)),(2,1,(.t 30)),(3,1,(.t 34))]),Fr 10 4 2 35]
def r70:RC:=(So xc1 (Sq (So xc0 (Bk 0 (So xcZ (Kc 7 (Kk [0,6,7] (So xcY .ret)) (Kk [7] (So xcX (Kc 10 (Kk [6,10] (So xcW .ret)) (Kk [10] (So xcV (XV 16 [16] (So xcU (So xcT .ret)))))))))))) (So xcS (Sq (.flt [0,0,2,7,0,0,0,70,230,511,1023] [] Mi [0,4,26,27,28,29,30,31,32,33,34,35]) .ret))))
def F70:FnC:=⟨r70,36,[.cell 2 4 true],[],[]⟩
def xcR:Lb:=[on 0 (.new (.arr 1 (aL 5 [.str []])))]
def xcQ:Lb:=[on 1 (.build [.str [],.str [],.str [],.str [],.str []] [(0,1,(.c (.str [97]))),(1,1,(.c (.str [103,114,117,98]))),(2,1,(.c (.str [108,105,110,117,120]))),(3,1,(.c (.str [110,101,116,45,48]))),(4,1,(.c (.str [116,119,101,108,118,101,45,98,121,116,101,115])))]),Wq 5 0 1]
def r71:RC:=(So xcR (So xcQ .ret))
def F71:FnC:=⟨r71,2,[.cell 0 5 true],[],[]⟩
def U5:Lb:=[Xe 3]
def xcP:Lb:=[om 5 0,Wo 6 17 5 4,WS 7 .add 1 6,Wa 4 7]
def xcO:Lb:=[om 8 4,Wb 9 .gtr 8 0]
def xcN:Lb:=[Wa 12 3,om 13 0,Wm 14 121 13,WB 15 1 12 14,on 16 (.litB [(.c (.u8 10))]),WB 17 1 15 16,Wa 3 17]
def xcM:Lb:=[Wa 10 4,Wb 11 .sub 10 1,Wa 4 11]
def VP:RC:=(.post (Sq (So xcO (XU 9 [0,4,9] (.exit 0))) (Sq (Bk 1 (.ops xcN)) (.ops xcM))) [.gc [115],.tok 3 103])
def U4:RC:=VP
def xcL:Lb:=[Wa 18 3,Wa 2 18]
def r72:RC:=(So kT (So U5 (Sq (So xcP (Bk 0 (.pre [.tok 3 103] (.loop U4)))) (So xcL .ret))))
def F72:FnC:=⟨r72,19,[.tmp 2],[],[]⟩
def U3:Lb:=[oo 2 (.mov (.c .nilp)) [2]]
def xcK:Lb:=[Wa 3 0,Xy 4 1 3,oo 5 (.build [.byt [] .clip,.int .i64 0,.int .i64 0] [(0,1,(.t 4))]) [4],WC 6 5,Wa 2 6]
def r74:RC:=(So U3 (So xcK .ret))
def F74:FnC:=⟨r74,7,[.tmp 2],[],[]⟩
def U2:Lb:=[om 10 0,WD 11 10,Wr 12 2 11,Wc 13 12,Wb 14 .neq 13 0]
def xcJ:Lb:=[om 15 1,Wb 16 .lss 15 1,Wa 17 16,.grp 17 false [(xi 18 17 false (Mv 1)),(xi 19 17 false (Bc .gtr 18 8))] [18],Wi 20 17 19]
def xcI:Lb:=[Wa 21 0,oo 22 (Ca 124 [.t 21,ci 1]) [21,22]]
def xcH:Lb:=[om 24 0,om 25 0,WD 26 25,Wr 27 1 26,Wc 28 27,om 29 1,Xo 30 125 24 28 29,Wa 23 30,WJ 31 23 0,WI 32 23 1,Wa 5 31,Wa 6 32]
def xcG:Lb:=[om 33 6,Wb 34 .neq 33 0]
def xcF:Lb:=[Wa 35 0,Wa 36 6,oo 37 (Ca 124 [.t 35,.t 36]) [35,36,37]]
def Mh:Lb:=[on 7 (.mov (.c (.int .u64 0)))]
def Mg:Lb:=[Wa 38 5,on 39 (Ln 38),Wn 40 0]
def Mf:Lb:=[on 41 (Bb .lss 40 39)]
def Me:Lb:=[on 42 (Ia 1 38 40),Wc 43 42,Wa 9 43]
def Md:Lb:=[Wa 44 7,Xl 45 .shl 44,Wa 46 9,W1 47 46,Wh 48 .or 45 47,Wa 7 48]
def Ma:Lb:=[Wb 49 .add 40 1,Wa 40 49]
def CU:RC:=(So Mf (Sq (XU 41 [38,39,40,41] (.exit 0)) (Sq (Bk 1 (So Me (.ops Md))) (.ops Ma))))
def BL:RC:=CU
def L9:Lb:=[om 50 7,oo 51 (.bin .gtr (.t 50) (.c (.int .u64 9223372036854775807))) [50]]
def L8:Lb:=[Wa 52 0,oo 53 (Ca 124 [.t 52,ci 4]) [52,53]]
def L7:Lb:=[Wa 54 0,Xm 55 54,Wr 56 1 55,Wc 57 56,Wa 58 1,Wh 59 .add 57 58,WD 60 54,Wr 61 1 60,Wt 1 61 59]
def L6:Lb:=[Wa 62 7,Xh 63 62,Wa 4 63]
def r75:RC:=(So qb (Sq (So U2 (XV 14 [0,1,14] (So iX .ret))) (Sq (So xcJ (XV 20 [1,20] (So xcI (So iX .ret)))) (So xcH (Sq (So xcG (Kc 34 (Kk [1,5,34] (So xcF (So iX .ret))) (Kk [6,34] .skip))) (So Mh (Sq (So Mg (Bk 0 (.loop BL))) (Sq (So L9 (XV 51 [1,7,51] (So L8 (So iX .ret)))) (So L7 (So L6 .ret))))))))))
def F75:FnC:=⟨r75,64,[.tmp 4],[],[]⟩
def xcE:Lb:=[om 15 0,oo 16 (.mkfn 125 [.t 15] []) [15],Wa 5 16]
def xcD:Lb:=[om 18 5,om 19 0,WD 20 19,Wr 21 1 20,Wc 22 21,oo 23 (.call (.t 18) [.t 22,ci 2]) [18,22],Wa 17 23,WJ 24 17 0,WI 25 17 1,Wa 6 24,Wa 7 25]
def xcC:Lb:=[om 26 7,Wb 27 .neq 26 0]
def xcB:Lb:=[Wa 28 0,Wa 29 7,oo 30 (Ca 124 [.t 28,.t 29]) [28,29,30]]
def xcA:Lc:=[Fm 0 31 6,WQ 1 32 1 31 0,We 2 33 32,Xd 3 34 33,Xz 4 35 .shl 34,Fm 5 36 6,WQ 6 37 1 36 1,We 7 38 37,Xd 8 39 38,Wk 9 40 .or 35 39,Fm 10 8 40]
def xcz:Lb:=[om 41 8,Wa 42 1,Wh 43 .gtr 41 42]
def L5:Lb:=[Wa 44 0,oo 45 (Ca 124 [.t 44,ci 4]) [44,45]]
def L4:Lb:=[Wa 47 5,om 48 0,WD 49 48,Wr 50 1 49,Wc 51 50,Wb 52 .add 51 2,om 53 8,oo 54 (.call (.t 47) [.t 52,.t 53]) [47,52,53],Wa 46 54,WJ 55 46 0,WI 56 46 1,Wa 9 55,Wa 7 56]
def L3:Lb:=[om 57 7,Wb 58 .neq 57 0]
def L2:Lb:=[Wa 59 0,Wa 60 7,oo 61 (Ca 124 [.t 59,.t 60]) [59,60,61]]
def L1:Lb:=[Wa 62 0,Xm 63 62,Wr 64 1 63,Wc 65 64,Wa 66 8,WS 67 .add 2 66,Wh 68 .add 65 67,WD 69 62,Wr 70 1 69,Wt 1 70 68]
def L0:Lb:=[Wa 71 9,Xy 72 1 71,Wa 4 72]
def r76:RC:=(So iI (Sq (So U2 (XV 14 [0,1,14] (So iW .ret))) (So xcE (So xcD (Sq (So xcC (Kc 27 (Kk [1,5,6,27] (So xcB (So iW .ret))) (Kk [7,27] .skip))) (Sq (.flt [0,1,3,7,15,0,32,96,224,511,1023] [] xcA [6,31,32,33,34,35,36,37,38,39,40]) (Sq (So xcz (XV 43 [5,8,43] (So L5 (So iW .ret)))) (So L4 (Sq (So L3 (Kc 58 (Kk [8,9,58] (So L2 (So iW .ret))) (Kk [7,58] .skip))) (So L1 (So L0 .ret)))))))))))
def F76:FnC:=⟨r76,73,[.tmp 4],[],[]⟩
def p6:Lb:=[WX 2 0]
def xcy:Lb:=[Wa 3 0,WD 4 3,Wr 5 2 4,Wc 6 5,Wa 2 6]
def r77:RC:=(So p6 (So xcy .ret))
def F77:FnC:=⟨r77,7,[.tmp 2],[],[]⟩
def xcx:Lb:=[om 7 0,WD 8 7,Wr 9 2 8,Wc 10 9,Wb 11 .neq 10 0]
def xcw:Lb:=[om 12 1,Wb 13 .lss 12 0]
def xcv:Lb:=[Wa 14 0,oo 15 (Ca 124 [.t 14,ci 1]) [14,15]]
def xcu:Lb:=[om 17 0,om 18 0,WD 19 18,Wr 20 1 19,Wc 21 20,om 22 1,Xo 23 125 17 21 22,Wa 16 23,WJ 24 16 0,WI 25 16 1,Wa 5 24,Wa 6 25]
def xct:Lb:=[om 26 6,Wb 27 .neq 26 0]
def xcs:Lb:=[Wa 28 0,Wa 29 6,oo 30 (Ca 124 [.t 28,.t 29]) [28,29,30]]
def LZ:Lb:=[Wa 31 0,Xm 32 31,Wr 33 1 32,Wc 34 33,Wa 35 1,Wh 36 .add 34 35,WD 37 31,Wr 38 1 37,Wt 1 38 36]
def LY:Lb:=[Wa 39 5,Xy 40 1 39,Wa 4 40]
def r78:RC:=(So iI (Sq (So xcx (XV 11 [0,1,11] (So iW .ret))) (Sq (So xcw (XV 13 [1,13] (So xcv (So iW .ret)))) (So xcu (Sq (So xct (Kc 27 (Kk [1,5,27] (So xcs (So iW .ret))) (Kk [6,27] .skip))) (So LZ (So LY .ret)))))))
def F78:FnC:=⟨r78,41,[.tmp 4],[],[]⟩
def xcr:Lb:=[om 3 0,WD 4 3,Wr 5 2 4,Wc 6 5,Wb 7 .eql 6 0,Wa 8 7,.grp 8 true [(xi 9 8 true (Mv 0)),(xi 10 8 true (Ca 126 [.t 9])),(xi 11 8 true (Bc .gtr 10 0))] [9,10],Wy 12 8 11]
def U1:Lb:=[Wn 2 3]
def U0:Lb:=[Wa 13 0,WD 14 13,Wr 15 2 14,Wc 16 15,Wa 2 16]
def r79:RC:=(So p6 (Sq (So xcr (XV 12 [0,12] (So U1 .ret))) (So U0 .ret)))
def F79:FnC:=⟨r79,17,[.tmp 2],[],[]⟩
def xcq:Lb:=[Wf 9 0 1,Wc 10 9,Wm 11 127 10,WV 12 11,Wa 8 12]
def xcp:Lb:=[Wf 14 2 1,Wc 15 14,Wb 16 .lss 15 0,Wa 17 16,.grp 17 false [(xi 18 17 false (Fa 2 1)),(xi 19 17 false (Ld 18)),(xi 20 17 false (Fa 1 1)),(xi 21 17 false (Ld 20)),(xi 22 17 false (Bb .gtr 19 21))] [18,19,20,21],Wi 23 17 22,Wa 24 23,XB 25 24 false 1 1 26 24 false 25 27 24 false .gtr 26 1000000,Wi 28 24 27,Wa 29 28,.grp 29 false [(xi 30 29 false (Fa 3 1)),(xi 31 29 false (Ld 30)),(xi 32 29 false (Bc .lss 31 0))] [30,31],Wi 33 29 32,Wa 34 33,.grp 34 false [(xi 35 34 false (Fa 3 1)),(xi 36 34 false (Ld 35)),(xi 37 34 false (Fa 4 1)),(xi 38 34 false (Ld 37)),(xi 39 34 false (Bb .geq 36 38))] [35,36,37,38],Wi 40 34 39,Wa 41 40,.grp 41 false [(xi 42 41 false (Fa 4 1)),(xi 43 41 false (Ld 42)),(xi 44 41 false (Bc .gtr 43 1099511627776))] [42,43],Wi 45 41 44,Wa 13 45]
def xco:Lb:=[Wf 47 5 1,Wc 48 47,Wj 49 48,Wb 50 .gtr 49 16,Wa 51 50,.grp 51 false [(xi 52 51 false (Fa 6 1)),(xi 53 51 false (Ld 52)),(xi 54 51 false (Ln 53)),(xi 55 51 false (Bc .gtr 54 8))] [52,53,54],Wi 56 51 55,Wa 46 56]
def xcn:Lb:=[Wf 57 5 1,Wc 58 57,on 59 (Ln 58),Wn 60 0]
def xcm:Lb:=[on 61 (Bb .lss 60 59)]
def xcl:Lb:=[om 62 60,on 63 (Ia 4 58 60),Wp 64 4 63,Xk 4,Wa 3 62,WF 4 64]
def LX:Lb:=[Wf 66 0 4,Wc 67 66,Wb 68 .lss 67 1,Wa 69 68,.grp 69 false [(xi 70 69 false (Fa 0 4)),(xi 71 69 false (Ld 70)),(xi 72 69 false (Bc .gtr 71 3))] [70,71],Wi 73 69 72,Wa 74 73,.grp 74 false [(xi 75 74 false (Fa 2 4)),(xi 76 74 false (Ld 75)),(xi 77 74 false (Bc .lss 76 0))] [75,76],Wi 78 74 77,Wa 79 78,.grp 79 false [(xi 80 79 false (Fa 2 4)),(xi 81 79 false (Ld 80)),(xi 82 79 false (Bc .gtr 81 1000000))] [80,81],Wi 83 79 82,Wa 84 83,.grp 84 false [(xi 85 84 false (Fa 3 4)),(xi 86 84 false (Ld 85)),(xi 87 84 false (Ln 86)),(xi 88 84 false (Bc .neq 87 32))] [85,86,87],Wi 89 84 88,Wa 65 89]
def LW:Lb:=[Wf 91 1 4,Wc 92 91,Wm 93 127 92,WV 94 93,Wa 90 94]
def LV:Lc:=[Fm 0 96 3,WE 1 97 .gtr 96 0,Fm 2 98 97,WA 3 99 98 true 5 1,Wz 4 100 98 true 99,Wu 5 101 98 true 3,Fi 6 102 98 true (Bc .sub 101 1),Fi 7 103 98 true (Ia 4 100 102),WL 8 104 98 true 4 103,WL 9 105 98 true 4 4,Xc 10 106 98 true 128 104 105,Fi 11 107 98 true (Bc .geq 106 0),Fs 12 108 (Pf 98 107),Fm 13 95 108]
def LU:Lb:=[Wb 109 .add 60 1,Wa 60 109]
def CT:RC:=(.post (So xcm (Sq (XU 61 [58,59,60,61] (.exit 1)) (Sq (Bk 2 (So xcl (Bk 3 (So LX (Kc 65 (Kk [1,3,4,58,59,60,65] (So gD .ret)) (Kk [65] (So LW (Kc 90 (Kk [1,3,4,58,59,60,90] (So tw .ret)) (Kk [90] (Sq (.flt [0,1,3,7,15,7,39,127,255,7,1023,2047,4095,8191] [] LV [3,4,96,97,98,99,100,101,102,103,104,105,106,107,108]) (XV 95 [1,58,59,60,95] (So AJ .ret)))))))))))) (.ops LU)))) [.gc [104]])
def nf:RC:=CT
def LS:Lb:=[Wr 110 6 1,Wc 111 110,on 112 (Ln 111),Wn 113 0]
def LR:Lb:=[on 114 (Bb .lss 113 112)]
def LQ:Lb:=[on 115 (Ia 4 111 113),Wp 116 4 115,Xr 6,Wq 4 6 116]
def LP:Lb:=[Wp 117 4 6,Wm 118 129 117,Wa 7 118]
def LO:Lb:=[om 119 7,Wb 120 .neq 119 0]
def LN:Lb:=[Wa 121 7,Wa 2 121]
def LM:Lb:=[Wb 122 .add 113 1,Wa 113 122]
def CS:RC:=(.post (So LR (Sq (XU 114 [111,112,113,114] (.exit 4)) (Sq (Bk 5 (So LQ (So LP (So LO (Kc 120 (Kk [111,112,113,120] (So LN .ret)) (Kk [7,120] .skip)))))) (.ops LM)))) [.gc [106]])
def w9:RC:=CS
def r80:RC:=(So pm (Sq (Bk 0 (So xcq (Kc 8 (Kk [1,8] (So tw .ret)) (Kk [8] (So xcp (Kc 13 (Kk [1,13] (So gD .ret)) (Kk [13] (So xco (XV 46 [1,46] (So pl .ret)))))))))) (Sq (So xcn (Bk 1 (.loop nf))) (Sq (So LS (Bk 4 (.loop w9))) (So kS .ret)))))
def F80:FnC:=⟨r80,123,[.tmp 2],[],[]⟩
def Im:Lb:=[WX 6 0,WU 7 false]
def UZ:Lb:=[om 12 0,Wj 13 12,Wa 8 13]
def UY:Lb:=[om 14 8,Wn 9 0,Wa 10 14]
def UX:Lb:=[om 15 9,om 16 10,Wh 17 .lss 15 16]
def UW:Lb:=[om 18 9,om 19 10,Wh 20 .add 18 19,W1 21 20,oo 22 (.bin .shr (.t 21) (.c (.int .u64 1))) [21],Xh 23 22,Wa 11 23]
def xck:Lb:=[om 24 2,om 25 0,om 26 11,WH 27 7 25 26,Wp 28 7 27,om 29 1,oo 30 (.call (.t 24) [.t 28,.t 29]) [24,28,29],Wb 31 .lss 30 0]
def UV:Lb:=[Wa 32 11,Wb 33 .add 32 1,Wa 9 33]
def UU:Lb:=[Wa 34 11,Wa 10 34]
def VO:RC:=(Sq (So UX (XU 17 [10,17] (.exit 0))) (Bk 1 (So UW (So xck (Kc 31 (Kk [9,31] (.ops UV)) (Kk [10,31] (.ops UU)))))))
def UT:RC:=VO
def xcj:Lb:=[om 35 9,om 36 9,Wa 37 8,Wh 38 .lss 36 37,Wa 39 38,.grp 39 true [(xi 40 39 true (Mv 2)),(xi 41 39 true (Mv 0)),(xi 42 39 true (Mv 9)),(xi 43 39 true (Ia 7 41 42)),(xi 44 39 true (Lt 7 43)),(xi 45 39 true (Mv 1)),(xi 46 39 true (.call (.t 40) [.t 44,.t 45])),(xi 47 39 true (Bc .eql 46 0))] [0,1,2,9,40,41,42,43,44,45,46],Wy 48 39 47,Wa 6 35,Wa 7 48]
def r81:RC:=(So Im (So UZ (So UY (Sq (Bk 0 (.loop UT)) (So xcj .ret)))))
def F81:FnC:=⟨r81,49,[.tmp 6,.tmp 7],[],[]⟩
def xci:Lb:=[WC 2 0,WX 4 0]
def xch:Lb:=[Wp 5 7 2,Wm 6 32 5,Wa 7 1,Ww 8 83 6 7,Wa 4 8]
def r82:RC:=(So xci (So xch .ret))
def F82:FnC:=⟨r82,9,[.tmp 4],[],[]⟩
def xcg:Lb:=[Wa 5 0,Xg 6 5,Wa 7 1,Xg 8 7,Wh 9 .eql 6 8,Wa 4 9]
def r84:RC:=(So tz (So xcg .ret))
def F84:FnC:=⟨r84,10,[.tmp 4],[],[]⟩
def xcf:Lb:=[WC 1 0,WU 2 false]
def xce:Lb:=[Wf 3 2 1,Wc 4 3,Wj 5 4,Wr 6 3 1,Wc 7 6,Wj 8 7,Wh 9 .add 5 8,Wb 10 .geq 9 16,Wa 2 10]
def r85:RC:=(So xcf (So xce .ret))
def F85:FnC:=⟨r85,11,[.tmp 2],[],[]⟩
def xcd:Lb:=[WC 4 1,WX 6 0,WU 7 false]
def xcc:Lc:=[Fm 0 24 2,Fm 1 25 0,Fm 2 26 11,Ws 3 27 2 25 26,Wv 4 28 2 27,Wv 5 29 2 4,Fz 6 30 (.call (.t 24) [.t 28,.t 29]),WE 7 31 .lss 30 0]
def VN:RC:=(Sq (So UX (XU 17 [10,17] (.exit 0))) (Bk 1 (So UW (Sq (.flt [0,0,0,6,14,0,63,127] [] xcc [24,25,26,27,28,29,30]) (Kc 31 (Kk [9,31] (.ops UV)) (Kk [10,31] (.ops UU)))))))
def UR:RC:=VN
def xcb:Lc:=[Fm 0 35 9,Fm 1 36 9,Fm 2 37 8,Wk 3 38 .lss 36 37,Fm 4 39 38,Wu 5 40 39 true 2,Wu 6 41 39 true 0,Wu 7 42 39 true 9,Fi 8 43 39 true (Ia 2 41 42),WL 9 44 39 true 2 43,WL 10 45 39 true 2 4,Fy 11 46 39 true (.call (.t 40) [.t 44,.t 45]),Fi 12 47 39 true (Bc .eql 46 0),Fs 13 48 (Pf 39 47),Fm 14 6 35,Fm 15 7 48]
def r88:RC:=(So xcd (So UZ (So UY (Sq (Bk 0 (.loop UR)) (Sq (.flt [0,0,0,6,14,30,30,30,222,478,30,2046,4094,8190,4095,32767] [] xcb [0,2,4,8,9,35,36,37,38,39,40,41,42,43,44,45,46,47,48]) .ret)))))
def F88:FnC:=⟨r88,49,[.tmp 6,.tmp 7],[],[]⟩
def xca:Lc:=[Wg 0 5 0 2,We 1 6 5,Wg 2 7 0 3,We 3 8 7,Wg 5 10 1 2,We 6 11 10,Wg 7 12 1 3,We 8 13 12,WG 4 9 83 6 8,WG 9 14 134 11 13,Fs 10 15 (.lit 1 [.t 9,.t 14]),WZ 11 16 133 15,Fm 12 4 16]
def r89:RC:=(So AI (Sq (.flt [0,1,0,4,15,0,32,0,128,511,1023,2047,4095] [] xca [2,3,5,6,7,8,9,10,11,12,13,14,15,16]) .ret))
def F89:FnC:=⟨r89,17,[.tmp 4],[],[]⟩
def xbR:Lb:=[WC 2 0,WC 3 1,XC 4]
def xbQ:Lb:=[om 9 6,Wf 10 1 3,Wc 11 10,Wj 12 11,Wh 13 .lss 9 12]
def xbP:Lb:=[Wf 16 1 3,Wc 17 16,om 18 6,WH 19 2 17 18,Wr 20 0 19,Wc 21 20,Wa 7 21]
def xbO:Lc:=[Wv 0 22 2 2,Wg 1 23 0 3,We 2 24 23,Wg 3 25 1 3,We 4 26 25,Fm 5 27 6,Ws 6 28 2 26 27,Wv 7 29 2 28,W0 8 30 137 22 24 29,Fs 9 31 (.un .not (.t 30))]
def xbN:Lb:=[om 32 8,om 33 5,Wj 34 33,Wh 35 .lss 32 34,Wa 36 35,.grp 36 true [(xi 37 36 true (Mv 5)),(xi 38 36 true (Mv 8)),(xi 39 36 true (Ia 1 37 38)),(xi 40 36 true (Ld 39)),(xi 41 36 true (Mv 7)),(xi 42 36 true (Bb .lss 40 41))] [37,38,39,40,41],Wy 43 36 42]
def xbM:Lb:=[Wa 44 8,Wb 45 .add 44 1,Wa 8 45]
def VM:RC:=(Sq (So xbN (XU 43 [43] (.exit 2))) (Bk 3 (.ops xbM)))
def UQ:RC:=VM
def LL:Lb:=[om 46 8,om 47 5,Wj 48 47,Wh 49 .lss 46 48,Wa 50 49,.grp 50 true [(xi 51 50 true (Mv 5)),(xi 52 50 true (Mv 8)),(xi 53 50 true (Ia 1 51 52)),(xi 54 50 true (Ld 53)),(xi 55 50 true (Mv 7)),(xi 56 50 true (Bb .eql 54 55))] [51,52,53,54,55],Wy 57 50 56]
def LK:Lc:=[Fs 0 58 (.lit 1 []),Fm 1 59 5,Fm 2 60 8,Xu 3 61 1 59 60,Fm 5 63 7,W8 6 64 1 63,Fm 8 66 5,Fm 9 67 8,XA 10 68 1 66 67,XF 4 62 8 58 61,XF 7 65 8 62 64,XF 11 69 8 65 68,⟨12,false,(xm 5 69)⟩]
def LJ:Lb:=[Wa 14 6,Wb 15 .add 14 1,Wa 6 15]
def CR:RC:=(.post (Sq (So xbQ (XU 13 [2,3,6,13] (.exit 0))) (Sq (Bk 1 (So xbP (Sq (Sq (.flt [0,0,2,0,8,0,56,120,255,511] [] xbO [22,23,24,25,26,27,28,29,30]) (XV 31 [7,31] (.exit 1))) (So pn (Sq (Bk 2 (.loop UQ)) (Sq (So LL (XV 57 [7,8,57] (.exit 1))) (.flt [0,0,0,6,15,0,32,127,0,0,768,2047,4095] [162,165,169] LK [7,8,58,59,60,61,62,63,64,65,66,67,68,69]))))))) (.ops LJ))) [.gc [162,165],.tok 5 105])
def BK:RC:=CR
def LI:Lb:=[Wa 70 5,Wa 4 70]
def r92:RC:=(So xbR (So AH (Sq (So jO (Bk 0 (.pre [.tok 5 105] (.loop BK)))) (So LI .ret))))
def F92:FnC:=⟨r92,71,[.tmp 4],[],[]⟩
def xbL:Lb:=[Wa 3 0,oo 4 (.build [.byt [] .clip,.int .i64 0,.int .i64 0] [(0,1,(.t 3))]) [3],WC 5 4,Wa 2 5]
def r93:RC:=(So U3 (So xbL .ret))
def F93:FnC:=⟨r93,6,[.tmp 2],[],[]⟩
def xbK:Lb:=[om 7 0,WD 8 7,Wr 9 2 8,Wc 10 9,Wb 11 .eql 10 0,Wa 12 11,.grp 12 true [(xi 13 12 true (Mv 1)),(xi 14 12 true (Bc .lss 13 1)),(xi 15 12 true (Mv 14))] [13,14],.grp 15 false [(xi 16 15 false (Mv 1)),(xi 17 15 false (Bc .gtr 16 8))] [16],.grp 12 true [(xi 18 12 true (Pt 15 17))] [15,17],Wy 19 12 18]
def xbJ:Lb:=[om 20 0,WD 21 20,Wr 22 2 21,.op ⟨none,none,.store 1 (.t 22) (ci 1)⟩ [22]]
def xbI:Lb:=[om 23 0,WD 24 23,Wr 25 2 24,Wc 26 25,Wb 27 .neq 26 0,Wa 28 27,.grp 28 false [(xi 29 28 false (Mv 0)),(xi 30 28 false (Mv 1)),(xi 31 28 false (Ca 138 [.t 29,.t 30])),(xi 32 28 false (.un .not (.t 31)))] [29,30,31],Wi 33 28 32]
def xbH:Lb:=[on 5 (.mov (.c (.int .u64 0)))]
def xbG:Lb:=[om 34 6,om 35 1,Wh 36 .lss 34 35]
def xbF:Lc:=[Fm 0 39 5,Xz 1 40 .shl 39,Fm 2 41 0,WK 3 42 41,Wg 4 43 0 42,We 5 44 43,Fm 6 45 0,WK 7 46 45,Wg 8 47 1 46,We 9 48 47,Fm 10 49 6,Wk 11 50 .add 48 49,Ws 12 51 1 44 50,We 13 52 51,Fs 14 53 (.toInt .u64 (.t 52)),Wk 15 54 .or 40 53,⟨16,false,(xm 5 54)⟩]
def CQ:RC:=(Sq (So xbG (XU 36 [6,36] (.exit 0))) (Sq (Bk 1 (.flt [0,1,0,4,12,28,0,64,192,448,0,1984,4092,8188,16380,32767,65535] [] xbF [39,40,41,42,43,44,45,46,47,48,49,50,51,52,53,54])) (.ops BZ)))
def BJ:RC:=CQ
def LH:Lb:=[om 55 5,oo 56 (.bin .geq (.t 55) (.c (.int .u64 9223372036854775808))) [55]]
def LG:Lb:=[Wa 57 0,WD 58 57,Wr 59 2 58,.op ⟨none,none,.store 1 (.t 59) (ci 4)⟩ [59]]
def LF:Lb:=[Wa 60 0,Xm 61 60,Wr 62 1 61,Wc 63 62,Wa 64 1,Wh 65 .add 63 64,WD 66 60,Wr 67 1 66,Wt 1 67 65]
def LD:Lb:=[Wa 68 5,Xh 69 68,Wa 4 69]
def r94:RC:=(So qb (Sq (So xbK (XV 19 [19] (.ops xbJ))) (Sq (So xbI (XV 33 [0,1,33] (So iX .ret))) (So xbH (Sq (So jO (Bk 0 (.loop BJ))) (Sq (So LH (XV 56 [1,5,56] (So LG (So iX .ret)))) (So LF (So LD .ret))))))))
def F94:FnC:=⟨r94,70,[.tmp 4],[],[]⟩
def xbE:Lb:=[om 6 0,WD 7 6,Wr 8 2 7,Wc 9 8,Wb 10 .neq 9 0,Wa 11 10,.grp 11 false [(xi 12 11 false (Mv 0)),(xi 13 11 false (Ca 138 [.t 12,ci 2])),(xi 14 11 false (.un .not (.t 13)))] [12,13],Wi 15 11 14]
def xbD:Lc:=[Fm 0 16 0,WK 1 17 16,Wg 2 18 0 17,We 3 19 18,Fm 4 20 0,WK 5 21 20,Wg 6 22 1 21,We 7 23 22,Ws 8 24 1 19 23,We 9 25 24,Xd 10 26 25,Xz 11 27 .shl 26,Fm 12 28 0,WK 13 29 28,Wg 14 30 0 29,We 15 31 30,Fm 16 32 0,WK 17 33 32,Wg 18 34 1 33,We 19 35 34,WE 20 36 .add 35 1,Ws 21 37 1 31 36,We 22 38 37,Xd 23 39 38,Wk 24 40 .or 27 39,Fm 25 5 40]
def xbC:Lb:=[om 41 5,Wa 42 1,Wh 43 .gtr 41 42]
def xbB:Lb:=[Wa 44 0,WD 45 44,Wr 46 2 45,.op ⟨none,none,.store 1 (.t 46) (ci 4)⟩ [46]]
def xbA:Lb:=[om 47 0,om 48 5,WS 49 .add 2 48,Ww 50 138 47 49,WV 51 50]
def xbz:Lb:=[om 52 0,Xm 53 52,Wr 54 1 53,Wc 55 54,om 56 5,WS 57 .add 2 56,Wh 58 .add 55 57,WD 59 52,Wr 60 1 59,Wt 1 60 58]
def LC:Lc:=[Fs 0 61 (.litB []),Fm 1 62 0,WK 2 63 62,Wg 3 64 0 63,We 4 65 64,Fm 5 66 0,WK 6 67 66,Wg 7 68 1 67,We 8 69 68,Fm 9 70 5,Wk 10 71 .sub 69 70,Fm 11 72 0,WK 12 73 72,Wg 13 74 1 73,We 14 75 74,Fs 15 76 (.slcL 1 (.t 65) (some (.t 71)) (some (.t 75)) none),Xa 16 77 1 61 76,Fm 17 4 77]
def r95:RC:=(So iI (Sq (So xbE (XV 15 [0,1,15] (So iW .ret))) (Sq (.flt [0,1,3,7,0,16,48,112,255,511,1023,2047,0,4096,12288,28672,0,65536,196608,458752,983040,2093056,4190208,8384512,16777215,33554431] [] xbD [16,17,18,19,20,21,22,23,24,25,26,27,28,29,30,31,32,33,34,35,36,37,38,39,40]) (Sq (So xbC (XV 43 [5,43] (So xbB (So iW .ret)))) (Sq (So xbA (XV 51 [0,5,51] (So iW .ret))) (So xbz (Sq (.flt [0,0,2,6,14,0,32,96,224,0,992,0,2048,6144,14336,32766,65535,131071] [177] LC [0,5,61,62,63,64,65,66,67,68,69,70,71,72,73,74,75,76,77]) .ret)))))))
def F95:FnC:=⟨r95,78,[.tmp 4],[],[]⟩
def xby:Lb:=[om 5 0,WD 6 5,Wr 7 2 6,Wc 8 7,Wb 9 .eql 8 0,Wa 10 9,.grp 10 true [(xi 11 10 true (Mv 1)),(xi 12 10 true (Bc .lss 11 0))] [11],Wy 13 10 12]
def xbx:Lb:=[om 14 0,WD 15 14,Wr 16 2 15,.op ⟨none,none,.store 1 (.t 16) (ci 1)⟩ [16]]
def xbw:Lb:=[om 17 0,WD 18 17,Wr 19 2 18,Wc 20 19,Wb 21 .neq 20 0,Wa 22 21,.grp 22 false [(xi 23 22 false (Mv 0)),(xi 24 22 false (Mv 1)),(xi 25 22 false (Ca 138 [.t 23,.t 24])),(xi 26 22 false (.un .not (.t 25)))] [23,24,25],Wi 27 22 26]
def xbv:Lb:=[om 28 0,Xm 29 28,Wr 30 1 29,Wc 31 30,om 32 1,Wh 33 .add 31 32,WD 34 28,Wr 35 1 34,Wt 1 35 33]
def xbu:Lc:=[Fs 0 36 (.litB []),Fm 1 37 0,WK 2 38 37,Wg 3 39 0 38,We 4 40 39,Fm 5 41 0,WK 6 42 41,Wg 7 43 1 42,We 8 44 43,Fm 9 45 1,Wk 10 46 .sub 44 45,Fm 11 47 0,WK 12 48 47,Wg 13 49 1 48,We 14 50 49,Fs 15 51 (.slcL 1 (.t 40) (some (.t 46)) (some (.t 50)) none),Xa 16 52 1 36 51,Fm 17 4 52]
def r96:RC:=(So iI (Sq (So xby (XV 13 [13] (.ops xbx))) (Sq (So xbw (XV 27 [0,1,27] (So iW .ret))) (So xbv (Sq (.flt [0,0,2,6,14,0,32,96,224,0,992,0,2048,6144,14336,32766,65535,131071] [152] xbu [0,1,36,37,38,39,40,41,42,43,44,45,46,47,48,49,50,51,52]) .ret)))))
def F96:FnC:=⟨r96,53,[.tmp 4],[],[]⟩
def xbt:Lb:=[om 3 0,WD 4 3,Wr 5 2 4,Wc 6 5,Wb 7 .eql 6 0,Wa 8 7,.grp 8 true [(xi 9 8 true (Mv 0)),(xi 10 8 true (Ca 139 [.t 9])),(xi 11 8 true (Bc .gtr 10 0))] [9,10],Wy 12 8 11]
def r97:RC:=(So p6 (Sq (So xbt (XV 12 [0,12] (So U1 .ret))) (So U0 .ret)))
def F97:FnC:=⟨r97,17,[.tmp 2],[],[]⟩
def xbs:Lb:=[om 6 5,om 7 0,Wj 8 7,Wh 9 .lss 6 8,Wa 10 9,.grp 10 true [(xi 11 10 true (Mv 5)),(xi 12 10 true (Mv 1)),(xi 13 10 true (Ln 12)),(xi 14 10 true (Bb .lss 11 13))] [11,12,13],Wy 15 10 14]
def xbr:Lc:=[Fm 0 18 0,Fm 1 19 5,Ws 2 20 1 18 19,We 3 21 20,Fm 4 22 1,Fm 5 23 5,Ws 6 24 1 22 23,We 7 25 24,Wk 8 26 .neq 21 25]
def xbq:Lc:=[Fm 0 27 0,Fm 1 28 5,Ws 2 29 1 27 28,We 3 30 29,Fm 4 31 1,Fm 5 32 5,Ws 6 33 1 31 32,We 7 34 33,Wk 8 35 .lss 30 34,Fm 9 4 35]
def xbp:Lb:=[Wa 16 5,Wb 17 .add 16 1,Wa 5 17]
def VL:RC:=(Sq (So xbs (XU 15 [5,15] (.exit 0))) (Sq (Bk 1 (Sq (.flt [0,0,3,7,0,0,48,112,255] [] xbr [18,19,20,21,22,23,24,25]) (XV 26 [26] (Sq (.flt [0,0,3,7,0,0,48,112,255,511] [] xbq [0,1,5,27,28,29,30,31,32,33,34,35]) .ret)))) (.ops xbp)))
def UP:RC:=VL
def xbo:Lb:=[Wa 36 0,Wj 37 36,Wa 38 1,Wj 39 38,Wh 40 .lss 37 39,Wa 4 40]
def r98:RC:=(So tz (Sq (So pq (Bk 0 (.loop UP))) (So xbo .ret)))
def F98:FnC:=⟨r98,41,[.tmp 4],[],[]⟩
def xbn:Lb:=[Wa 5 0,Wa 6 1,Ww 7 140 5 6,Wb 8 .geq 7 0,Wa 4 8]
def r99:RC:=(So tz (So xbn .ret))
def F99:FnC:=⟨r99,9,[.tmp 4],[],[]⟩
def TR:Lb:=[WC 3 0,WU 4 false]
def TQ:Lb:=[Wf 5 1 3,Wc 6 5,Wc 7 1,Wh 8 .leq 6 7,Wa 9 8,.grp 9 true [(xi 10 9 true (Fa 0 3)),(xi 11 9 true (Ld 10)),(xi 12 9 true (Ld 2)),(xi 13 9 true (Ca 84 [.t 11,.t 12]))] [2,3,10,11,12],Wy 14 9 13,Wa 4 14]
def xu3:RC:=(So TR (So TQ .ret))
def xke:FnC:=⟨xu3,15,[.tmp 4],[],[]⟩
def TP:Lb:=[Wa 9 0,Xy 10 1 9,Wa 7 10]
def TO:Lb:=[om 11 1,Wb 12 .lss 11 1,Wa 13 12,.grp 13 false [(xi 14 13 false (Mv 1)),(xi 15 13 false (Bc .gtr 14 8))] [14],Wi 16 13 15]
def TN:Lb:=[Wa 17 7,Wa 6 17]
def TL:Lb:=[Wa 18 1,Wb 19 .sub 18 1,Wa 8 19]
def TK:Lb:=[om 20 8,Wb 21 .geq 20 0]
def TJ:Lb:=[Wa 24 7,om 25 2,W1 26 25,om 27 8,WS 28 .mul 8 27,W1 29 28,Wh 30 .shr 26 29,Wx 31 30,WY 32 31,WB 33 1 24 32,Wa 7 33]
def TI:Lb:=[Wa 22 8,Wb 23 .sub 22 1,Wa 8 23]
def DF:RC:=(.post (Sq (So TK (XU 21 [2,8,21] (.exit 0))) (Sq (Bk 1 (.ops TJ)) (.ops TI))) [.tok 7 107])
def CG:RC:=DF
def TH:Lb:=[Wa 34 7,Wa 6 34]
def xu2:RC:=(So tv (So TP (Sq (So TO (XV 16 [1,2,16] (So TN .ret))) (Sq (So TL (Bk 0 (.pre [.tok 7 107] (.loop CG)))) (So TH .ret)))))
def xkd:FnC:=⟨xu2,35,[.tmp 6],[0],[]⟩
def TG:Lb:=[om 5 1,Wa 6 1,Wj 7 6,oo 8 (.mini (.t 7) (ci 65535)) [7],XQ 9 1 5 8,Wa 1 9]
def TF:Lb:=[Wa 10 0,om 11 1,Wj 12 11,Xf 13 101 10 2 12,Wa 14 1,WB 15 1 13 14,Wa 4 15]
def xu1:RC:=(So iI (So TG (So TF .ret)))
def xkc:FnC:=⟨xu1,16,[.tmp 4],[0],[]⟩
def TE:Lb:=[Wa 9 0]
def TD:Lb:=[on 11 (Bc .eql 9 0),Wa 10 11]
def TC:Lb:=[on 12 (.build [.int .u32 0,.int .u32 0,.int .u32 0,.int .u32 0,.int .u32 0] [(0,1,(.c (.int .u32 1732584193))),(1,1,(.c (.int .u32 4023233417))),(2,1,(.c (.int .u32 2562383102))),(3,1,(.c (.int .u32 271733878))),(4,1,(.c (.int .u32 3285377520)))]),on 5 (.new (.arr 1 (aL 5 [.int .u32 0]))),WF 5 12]
def TB:Lb:=[Wa 13 1,Wm 14 141 13,Wa 6 14]
def TA:Lb:=[om 15 6,Wj 16 15,Wb 17 .gtr 16 0]
def Tz:Lb:=[om 20 6,Xb 21 1 20 64,oo 22 (Ca 142 [.t 5,.t 21]) [21,22]]
def Ty:Lb:=[Wa 18 6,XG 19 1 18 64,Wa 6 19]
def DE:RC:=(Sq (So TA (XU 17 [6,17] (.exit 1))) (Sq (Bk 2 (.ops Tz)) (.ops Ty)))
def Tx:RC:=DE
def Tw:Lb:=[oo 23 (.slcA 5 1 (.t 5) none none none) [5],Wm 24 143 23,Wa 4 24]
def Fu:Lb:=[Wb 26 .eql 9 1,Wa 25 26]
def Ft:Lb:=[on 27 (.build [.int .u32 0,.int .u32 0,.int .u32 0,.int .u32 0,.int .u32 0,.int .u32 0,.int .u32 0,.int .u32 0] [(0,1,(.c (.int .u32 1779033703))),(1,1,(.c (.int .u32 3144134277))),(2,1,(.c (.int .u32 1013904242))),(3,1,(.c (.int .u32 2773480762))),(4,1,(.c (.int .u32 1359893119))),(5,1,(.c (.int .u32 2600822924))),(6,1,(.c (.int .u32 528734635))),(7,1,(.c (.int .u32 1541459225)))]),on 7 (.new (.arr 1 (aL 8 [.int .u32 0]))),Wq 8 7 27]
def Fq:Lb:=[Wa 28 1,Wm 29 141 28,Wa 8 29]
def Fp:Lb:=[om 30 8,Wj 31 30,Wb 32 .gtr 31 0]
def Fo:Lb:=[om 35 8,Xb 36 1 35 64,oo 37 (Ca 144 [.t 7,.t 36]) [36,37]]
def Fl:Lb:=[Wa 33 8,XG 34 1 33 64,Wa 8 34]
def wK:RC:=(Sq (So Fp (XU 32 [8,32] (.exit 3))) (Sq (Bk 4 (.ops Fo)) (.ops Fl)))
def vH:RC:=wK
def Fj:Lb:=[oo 38 (.slcA 8 1 (.t 7) none none none) [7],Wm 39 143 38,Wa 4 39]
def xu0:RC:=(So iI (Sq (So TE (Bk 0 (So TD (Kc 10 (Kk [9,10] (So TC (Sq (So TB (Bk 1 (.loop Tx))) (So Tw .ret)))) (Kk [10] (So Fu (Kc 25 (Kk [25] (So Ft (Sq (So Fq (Bk 3 (.loop vH))) (So Fj .ret)))) (Kk [1,25] .skip)))))))) (So iW .ret)))
def xkb:FnC:=⟨xu0,40,[.tmp 4],[],[]⟩
def Tv:Lb:=[Wa 9 0,Wx 10 9,WY 11 10,Wa 5 11]
def Tu:Lb:=[Wa 12 1,on 13 (Ln 12),Wn 14 0]
def CF:Lb:=[on 15 (Bb .lss 14 13)]
def Tt:Lb:=[on 16 (Ia 1 12 14),Wc 17 16,Wa 7 17]
def Ts:Lb:=[om 18 7,Wj 19 18,oo 20 (.toInt .u32 (.t 19)) [19],Wa 8 20]
def Tq:Lb:=[Wa 21 5,om 22 8,XH 23 .shr 22,Wx 24 23,om 25 8,XI 26 .shr 25,Wx 27 26,om 28 8,Xl 29 .shr 28,Wx 30 29,Wa 31 8,Wx 32 31,XJ 33 24 27 30 32,WB 34 1 21 33,Wa 5 34]
def Tp:Lb:=[Wa 35 5,Wa 36 7,WB 37 1 35 36,Wa 5 37]
def To:Lb:=[Wb 38 .add 14 1,Wa 14 38]
def DD:RC:=(.post (So CF (Sq (XU 15 [12,13,14,15] (.exit 0)) (Sq (Bk 1 (So Tt (So Ts (So Tq (.ops Tp))))) (.ops To)))) [.tok 5 105])
def CE:RC:=DD
def Fh:Lb:=[Wa 39 5,Wa 4 39]
def xuZ:RC:=(So iI (So Tv (Sq (So Tu (Bk 0 (.pre [.tok 5 105] (.loop CE)))) (So Fh .ret))))
def xka:FnC:=⟨xuZ,40,[.tmp 4],[],[]⟩
def nl:Lb:=[W9 8]
def Tn:Lb:=[om 12 1,Wb 13 .lss 12 0,Wa 14 13,.grp 14 false [(xi 15 14 false (Mv 1)),(xi 16 14 false (Bc .gtr 15 3))] [15],Wi 17 14 16,Wa 18 17,.grp 18 false [(xi 19 18 false (Mv 2)),(xi 20 18 false (Bc .lss 19 0))] [19],Wi 21 18 20,Wa 22 21,.grp 22 false [(xi 23 22 false (Mv 2)),(xi 24 22 false (Mv 1)),(xi 25 22 false (.toInt .u64 (.t 24))),(xi 26 22 false (.bin .shl (ci 1) (.t 25))),(xi 27 22 false (Bb .geq 23 26))] [23,24,25,26],Wi 28 22 27]
def xy:Lb:=[Xe 8]
def Tm:Lb:=[om 29 2,Wx 30 29,WY 31 30,om 32 0,om 33 1,Ww 34 113 32 33,om 35 2,Wa 36 3,Xo 37 145 34 35 36,WB 38 1 31 37,Wa 9 38]
def Tl:Lb:=[Wa 39 2,Wa 40 0,Wa 41 1,Ww 42 67 40 41,Ww 43 146 39 42,Wa 10 43]
def Tk:Lb:=[om 44 11,om 45 10,Wj 46 45,Wh 47 .lss 44 46]
def Tj:Lb:=[Wa 50 9,om 51 10,om 52 11,WH 53 1 51 52,Wc 54 53,WB 55 1 50 54,Wa 9 55]
def Ti:Lb:=[Wa 48 11,Wb 49 .add 48 1,Wa 11 49]
def DC:RC:=(.post (Sq (So Tk (XU 47 [10,11,47] (.exit 0))) (Sq (Bk 1 (.ops Tj)) (.ops Ti))) [.tok 9 109])
def Th:RC:=DC
def Fg:Lb:=[Wa 56 9,Wa 8 56]
def xuY:RC:=(So nl (Sq (So Tn (XV 28 [0,1,2,3,28] (So xy .ret))) (So Tm (So Tl (Sq (So xd (Bk 0 (.pre [.tok 9 109] (.loop Th)))) (So Fg .ret))))))
def xj9:FnC:=⟨xuY,57,[.tmp 8],[],[]⟩
def Tg:Lb:=[om 5 0,Xt 6 true 5,Wb 7 .lss 6 1,Wa 8 7,.grp 8 false [(xi 9 8 false (Mv 0)),(xi 10 8 false (.len true (.t 9))),(xi 11 8 false (Bc .gtr 10 12))] [9,10],Wi 12 8 11]
def CD:Lb:=[WP 2 false]
def Tf:Lb:=[om 13 3,om 14 0,Xt 15 true 14,Wh 16 .lss 13 15]
def Te:Lb:=[om 19 0,om 20 3,oo 21 (.idxS (.t 19) (.t 20)) [19,20],Wa 4 21]
def Td:Lb:=[om 22 4,oo 23 (.bin .lss (.t 22) (.c (.u8 97))) [22],Wa 24 23,.grp 24 false [(xi 25 24 false (Mv 4)),(xi 26 24 false (.bin .gtr (.t 25) (.c (.u8 122))))] [25],Wi 27 24 26,Wa 28 27,.grp 28 true [(xi 29 28 true (Mv 4)),(xi 30 28 true (.bin .lss (.t 29) (.c (.u8 48)))),(xi 31 28 true (Mv 30))] [29,30],.grp 31 false [(xi 32 31 false (Mv 4)),(xi 33 31 false (.bin .gtr (.t 32) (.c (.u8 57))))] [32],.grp 28 true [(xi 34 28 true (Pt 31 33))] [31,33],Wy 35 28 34,Wa 36 35,.grp 36 true [(xi 37 36 true (Mv 4)),(xi 38 36 true (.bin .neq (.t 37) (.c (.u8 45))))] [4,37],Wy 39 36 38]
def CC:Lb:=[Wa 17 3,Wb 18 .add 17 1,Wa 3 18]
def DB:RC:=(Sq (So Tf (XU 16 [0,3,16] (.exit 0))) (Sq (Bk 1 (So Te (So Td (XV 39 [0,3,39] (So CD .ret))))) (.ops CC)))
def CB:RC:=DB
def Ff:Lb:=[WP 2 true]
def xuX:RC:=(So p7 (Sq (So Tg (XV 12 [0,12] (So CD .ret))) (Sq (So xh (Bk 0 (.loop CB))) (So Ff .ret))))
def xj8:FnC:=⟨xuX,40,[.tmp 2],[],[]⟩
def Tc:Lb:=[Wf 5 0 2,Wc 6 5,Wf 7 0 3,Wc 8 7,Wh 9 .neq 6 8]
def Tb:Lb:=[Wr 10 0 2,Wc 11 10,Wr 12 0 3,Wc 13 12,Wh 14 .lss 11 13,Wa 4 14]
def Ta:Lb:=[Wf 15 1 2,Wc 16 15,Wf 17 1 3,Wc 18 17,Wh 19 .neq 16 18]
def S9:Lb:=[Wr 20 1 2,Wc 21 20,Wr 22 1 3,Wc 23 22,Wh 24 .lss 21 23,Wa 4 24]
def S8:Lb:=[Wf 25 2 2,Wc 26 25,Wf 27 2 3,Wc 28 27,Wh 29 .neq 26 28]
def S7:Lb:=[oo 30 (Fa 2 2) [2],Wc 31 30,Wr 32 2 3,Wc 33 32,Wh 34 .lss 31 33,Wa 4 34]
def S6:Lb:=[Wr 35 3 2,Wc 36 35,oo 37 (Fa 3 3) [3],Wc 38 37,Ww 39 98 36 38,Wa 4 39]
def xuW:RC:=(So AM (Sq (So Tc (XV 9 [9] (So Tb .ret))) (Sq (So Ta (XV 19 [19] (So S9 .ret))) (Sq (So S8 (XV 29 [29] (So S7 .ret))) (So S6 .ret)))))
def xj7:FnC:=⟨xuW,40,[.tmp 4],[],[]⟩
def S5:Lb:=[Wf 4 0 1,Wc 5 4,Wb 6 .lss 5 1,Wa 7 6,.grp 7 false [(xi 8 7 false (Fa 0 1)),(xi 9 7 false (Ld 8)),(xi 10 7 false (Bc .gtr 9 4))] [8,9],Wi 11 7 10]
def S4:Lb:=[om 12 3,Wf 13 1 1,Wc 14 13,Xt 15 true 14,Wh 16 .lss 12 15]
def S3:Lb:=[Wf 19 1 1,Wc 20 19,om 21 3,oo 22 (.idxS (.t 20) (.t 21)) [20,21],oo 23 (.bin .lss (.t 22) (.c (.u8 32))) [22],Wa 24 23,.grp 24 false [(xi 25 24 false (Fa 1 1)),(xi 26 24 false (Ld 25)),(xi 27 24 false (Mv 3)),(xi 28 24 false (.idxS (.t 26) (.t 27))),(xi 29 24 false (.bin .gtr (.t 28) (.c (.u8 126))))] [25,26,27,28],Wi 30 24 29]
def DA:RC:=(Sq (So S4 (XU 16 [3,16] (.exit 0))) (Sq (Bk 1 (So S3 (XV 30 [1,3,30] (So gD .ret)))) (.ops CC)))
def CA:RC:=DA
def SZ:Lb:=[Wf 31 0 1,Wc 32 31,Wb 33 .eql 32 4]
def Fe:Lb:=[Wf 34 2 1,Wc 35 34,Wb 36 .lss 35 0,Wa 37 36,.grp 37 false [(xi 38 37 false (Fa 2 1)),(xi 39 37 false (Ld 38)),(xi 40 37 false (Fa 3 1)),(xi 41 37 false (Ld 40)),(xi 42 37 false (Bb .gtr 39 41))] [38,39,40,41],Wi 43 37 42,Wa 44 43,.grp 44 false [(xi 45 44 false (Fa 3 1)),(xi 46 44 false (Ld 45)),(xi 47 44 false (Bc .gtr 46 1000000000))] [45,46],Wi 48 44 47]
def Fc:Lb:=[Wf 49 2 1,Wc 50 49,Wb 51 .neq 50 0,Wa 52 51,.grp 52 false [(xi 53 52 false (Fa 3 1)),(xi 54 52 false (Ld 53)),(xi 55 52 false (Bc .neq 54 0))] [53,54],Wi 56 52 55]
def Fb:Lb:=[Wf 57 0 1,Wc 58 57,Wb 59 .eql 58 1,Wa 60 59,.grp 60 true [(xi 61 60 true (Fa 1 1)),(xi 62 60 true (Ld 61)),(xi 63 60 true (.bin .neq (.t 62) (.c (.str []))))] [61,62],Wy 64 60 63]
def E9:Lb:=[oo 65 (Fa 1 1) [1],Wc 66 65,Xt 67 true 66,Wb 68 .gtr 67 32]
def xuV:RC:=(So pm (Sq (So S5 (XV 11 [1,11] (So gD .ret))) (Sq (So xh (Bk 0 (.loop CA))) (Sq (So SZ (Kc 33 (Kk [33] (So Fe (XV 48 [1,48] (So gD .ret)))) (Kk [33] (So Fc (XV 56 [1,56] (So gD .ret)))))) (Sq (So Fb (XV 64 [1,64] (So gD .ret))) (Sq (So E9 (XV 68 [68] (So pl .ret))) (So kS .ret)))))))
def xj6:FnC:=⟨xuV,69,[.tmp 2],[],[]⟩
def SY:Lb:=[Wa 8 0,Wx 9 8,WY 10 9,Wa 5 10]
def SX:Lb:=[om 11 6,om 12 1,Wj 13 12,Wh 14 .lss 11 13]
def SW:Lb:=[om 17 1,om 18 6,WH 19 1 17 18,Wc 20 19,Wj 21 20,Wa 7 21]
def SU:Lb:=[Wa 22 5,om 23 7,XH 24 .shr 23,Wx 25 24,om 26 7,XI 27 .shr 26,Wx 28 27,om 29 7,Xl 30 .shr 29,Wx 31 30,Wa 32 7,Wx 33 32,XJ 34 25 28 31 33,WB 35 1 22 34,Wa 5 35]
def SS:Lb:=[Wa 36 5,om 37 1,om 38 6,WH 39 1 37 38,Wc 40 39,WB 41 1 36 40,Wa 5 41]
def Cz:Lb:=[Wa 15 6,Wb 16 .add 15 1,Wa 6 16]
def Dz:RC:=(.post (Sq (So SX (XU 14 [1,6,14] (.exit 0))) (Sq (Bk 1 (So SW (So SU (.ops SS)))) (.ops Cz))) [.tok 5 105])
def Cy:RC:=Dz
def Cx:Lb:=[Wa 42 5,Wa 4 42]
def xuU:RC:=(So iI (So SY (Sq (So jO (Bk 0 (.pre [.tok 5 105] (.loop Cy)))) (So Cx .ret))))
def xj5:FnC:=⟨xuU,43,[.tmp 4],[],[]⟩
def SR:Lb:=[om 3 0,Wb 4 .eql 3 1,Wa 5 4,.grp 5 false [(xi 6 5 false (Mv 0)),(xi 7 5 false (Bc .eql 6 2))] [6],Wi 8 5 7,Wa 9 8,.grp 9 false [(xi 10 9 false (Mv 0)),(xi 11 9 false (Bc .eql 10 4))] [10],Wi 12 9 11,Wa 13 12,.grp 13 false [(xi 14 13 false (Mv 0)),(xi 15 13 false (Bc .eql 14 8))] [0,14],Wi 16 13 15,Wa 2 16]
def xuT:RC:=(So p7 (So SR .ret))
def xj4:FnC:=⟨xuT,17,[.tmp 2],[],[]⟩
def SQ:Lb:=[om 7 6,WS 8 .mul 2 7,Wb 9 .add 8 1,om 10 1,Wj 11 10,Wh 12 .lss 9 11]
def SP:Lc:=[Fm 0 15 5,Fm 1 16 0,Fm 2 17 6,Fm 3 18 1,Fm 4 19 6,WR 5 20 .mul 2 19,Ws 6 21 1 18 20,We 7 22 21,Fm 8 23 1,Fm 9 24 6,WR 10 25 .mul 2 24,WE 11 26 .add 25 1,Ws 12 27 1 23 26,We 13 28 27,Fz 14 29 (Ca 147 [.t 16,.t 17,.t 22,.t 28]),W8 15 30 1 29,Fz 16 31 (.app [.byt [] .clip] 24 (.t 15) (.t 30)),⟨17,false,(xm 5 31)⟩]
def Cw:Lb:=[Wa 13 6,Wb 14 .add 13 1,Wa 6 14]
def Dy:RC:=(.post (Sq (So SQ (XU 12 [0,1,6,12] (.exit 0))) (Sq (Bk 1 (.flt [0,0,0,0,0,16,56,120,0,0,512,1536,3840,7936,16382,32766,65535,131071] [131] SP [15,16,17,18,19,20,21,22,23,24,25,26,27,28,29,30,31])) (.ops Cw))) [.tok 5 105])
def SN:RC:=Dy
def SM:Lb:=[Wa 32 5,Wa 4 32]
def xuS:RC:=(So Io (So AH (Sq (So jO (Bk 0 (.pre [.tok 5 105] (.loop SN)))) (So SM .ret))))
def xj3:FnC:=⟨xuS,33,[.tmp 4],[],[]⟩
def SL:Lb:=[on 3 (.litB []),Wa 4 0,WB 5 1 3 4,Wa 2 5]
def xuR:RC:=(So kT (So SL .ret))
def xj2:FnC:=⟨xuR,6,[.tmp 2],[],[]⟩
def SK:Lb:=[Wa 5 0,Wa 6 1,Wx 7 6,WY 8 7,oo 9 (Ca 148 [.t 5,(.c (.str [115,105,103,110,101,114])),.t 8,ci 32]) [5,8],Wa 4 9]
def xuQ:RC:=(So iI (So SK .ret))
def xj1:FnC:=⟨xuQ,10,[.tmp 4],[],[]⟩
def SJ:Lb:=[om 7 1,Wb 8 .lss 7 0,Wa 9 8,.grp 9 false [(xi 10 9 false (Mv 1)),(xi 11 9 false (Bc .gtr 10 255))] [10],Wi 12 9 11]
def SH:Lb:=[Xe 5]
def SG:Lb:=[om 13 6,Wb 14 .lss 13 35]
def SF:Lb:=[Wa 17 5,om 18 1,om 19 6,om 20 0,om 21 1,om 22 6,Xo 23 150 20 21 22,oo 24 (Ca 149 [.t 18,.t 19,ci 0,ci 15,.t 23]) [18,19,23],WB 25 1 17 24,Wa 5 25]
def Dx:RC:=(.post (Sq (So SG (XU 14 [0,6,14] (.exit 0))) (Sq (Bk 1 (.ops SF)) (.ops Cz))) [.tok 5 105])
def xx:RC:=Dx
def SE:Lb:=[Wa 26 1,Wa 27 5,Ww 28 151 26 27,Wa 4 28]
def xuP:RC:=(So iI (Sq (So SJ (XV 12 [0,1,12] (So iW .ret))) (So SH (Sq (So jO (Bk 0 (.pre [.tok 5 105] (.loop xx)))) (So SE .ret)))))
def xj0:FnC:=⟨xuP,29,[.tmp 4],[],[]⟩
def SD:Lb:=[XD 0]
def SC:Lb:=[on 1 (.build [.int .u32 0,.int .u32 0,.int .u32 0,.int .u32 0,.int .u32 0,.int .u32 0,.int .u32 0,.int .u32 0,.int .u32 0,.int .u32 0,.int .u32 0,.int .u32 0,.int .u32 0,.int .u32 0,.int .u32 0,.int .u32 0,.int .u32 0,.int .u32 0,.int .u32 0,.int .u32 0,.int .u32 0,.int .u32 0,.int .u32 0,.int .u32 0,.int .u32 0,.int .u32 0,.int .u32 0,.int .u32 0,.int .u32 0,.int .u32 0,.int .u32 0,.int .u32 0,.int .u32 0,.int .u32 0,.int .u32 0,.int .u32 0,.int .u32 0,.int .u32 0,.int .u32 0,.int .u32 0,.int .u32 0,.int .u32 0,.int .u32 0,.int .u32 0,.int .u32 0,.int .u32 0,.int .u32 0,.int .u32 0,.int .u32 0,.int .u32 0,.int .u32 0,.int .u32 0,.int .u32 0,.int .u32 0,.int .u32 0,.int .u32 0,.int .u32 0,.int .u32 0,.int .u32 0,.int .u32 0,.int .u32 0,.int .u32 0,.int .u32 0,.int .u32 0] [(0,1,(.c (.int .u32 1116352408))),(1,1,(.c (.int .u32 1899447441))),(2,1,(.c (.int .u32 3049323471))),(3,1,(.c (.int .u32 3921009573))),(4,1,(.c (.int .u32 961987163))),(5,1,(.c (.int .u32 1508970993))),(6,1,(.c (.int .u32 2453635748))),(7,1,(.c (.int .u32 2870763221))),(8,1,(.c (.int .u32 3624381080))),(9,1,(.c (.int .u32 310598401))),(10,1,(.c (.int .u32 607225278))),(11,1,(.c (.int .u32 1426881987))),(12,1,(.c (.int .u32 1925078388))),(13,1,(.c (.int .u32 2162078206))),(14,1,(.c (.int .u32 2614888103))),(15,1,(.c (.int .u32 3248222580))),(16,1,(.c (.int .u32 3835390401))),(17,1,(.c (.int .u32 4022224774))),(18,1,(.c (.int .u32 264347078))),(19,1,(.c (.int .u32 604807628))),(20,1,(.c (.int .u32 770255983))),(21,1,(.c (.int .u32 1249150122))),(22,1,(.c (.int .u32 1555081692))),(23,1,(.c (.int .u32 1996064986))),(24,1,(.c (.int .u32 2554220882))),(25,1,(.c (.int .u32 2821834349))),(26,1,(.c (.int .u32 2952996808))),(27,1,(.c (.int .u32 3210313671))),(28,1,(.c (.int .u32 3336571891))),(29,1,(.c (.int .u32 3584528711))),(30,1,(.c (.int .u32 113926993))),(31,1,(.c (.int .u32 338241895))),(32,1,(.c (.int .u32 666307205))),(33,1,(.c (.int .u32 773529912))),(34,1,(.c (.int .u32 1294757372))),(35,1,(.c (.int .u32 1396182291))),(36,1,(.c (.int .u32 1695183700))),(37,1,(.c (.int .u32 1986661051))),(38,1,(.c (.int .u32 2177026350))),(39,1,(.c (.int .u32 2456956037))),(40,1,(.c (.int .u32 2730485921))),(41,1,(.c (.int .u32 2820302411))),(42,1,(.c (.int .u32 3259730800))),(43,1,(.c (.int .u32 3345764771))),(44,1,(.c (.int .u32 3516065817))),(45,1,(.c (.int .u32 3600352804))),(46,1,(.c (.int .u32 4094571909))),(47,1,(.c (.int .u32 275423344))),(48,1,(.c (.int .u32 430227734))),(49,1,(.c (.int .u32 506948616))),(50,1,(.c (.int .u32 659060556))),(51,1,(.c (.int .u32 883997877))),(52,1,(.c (.int .u32 958139571))),(53,1,(.c (.int .u32 1322822218))),(54,1,(.c (.int .u32 1537002063))),(55,1,(.c (.int .u32 1747873779))),(56,1,(.c (.int .u32 1955562222))),(57,1,(.c (.int .u32 2024104815))),(58,1,(.c (.int .u32 2227730452))),(59,1,(.c (.int .u32 2361852424))),(60,1,(.c (.int .u32 2428436474))),(61,1,(.c (.int .u32 2756734187))),(62,1,(.c (.int .u32 3204031479))),(63,1,(.c (.int .u32 3329325298)))]),Wq 64 0 1]
def xuO:RC:=(So SD (So SC .ret))
def xjZ:FnC:=⟨xuO,2,[.cell 0 64 true],[],[]⟩
def SB:Lb:=[on 6 (.litB []),om 7 0,WB 8 1 6 7,on 9 (.litB [(.c (.u8 128))]),WB 10 1 8 9,Wa 3 10]
def SA:Lb:=[om 11 3,Wj 12 11,Wb 13 .rem 12 64,Wb 14 .neq 13 56]
def Sz:Lb:=[Wa 15 3,on 16 (.litB [(.c (.u8 0))]),WB 17 1 15 16,Wa 3 17]
def Dw:RC:=(.post (Sq (So SA (XU 14 [14] (.exit 0))) (Bk 1 (.ops Sz))) [.tok 3 103])
def Cv:RC:=Dw
def Sx:Lb:=[Wa 18 0,Wj 19 18,W1 20 19,Xl 21 .mul 20,Wa 4 21]
def Sw:Lb:=[Wn 5 7]
def Sv:Lb:=[om 22 5,Wb 23 .geq 22 0]
def Su:Lb:=[Wa 26 3,om 27 4,om 28 5,W1 29 28,oo 30 (.bin .mul (.c (.int .u64 8)) (.t 29)) [29],Wh 31 .shr 27 30,Wx 32 31,WY 33 32,WB 34 1 26 33,Wa 3 34]
def Ss:Lb:=[Wa 24 5,Wb 25 .sub 24 1,Wa 5 25]
def wJ:RC:=(.post (Sq (So Sv (XU 23 [4,5,23] (.exit 2))) (Sq (Bk 3 (.ops Su)) (.ops Ss))) [.tok 3 103])
def vG:RC:=wJ
def E8:Lb:=[Wa 35 3,Wa 2 35]
def xuN:RC:=(So kT (So SB (Sq (Bk 0 (.pre [.tok 3 103] (.loop Cv))) (So Sx (Sq (So Sw (Bk 2 (.pre [.tok 3 103] (.loop vG)))) (So E8 .ret))))))
def xjY:FnC:=⟨xuN,36,[.tmp 2],[],[]⟩
def sR:Lb:=[oo 4 (.mov (.c (.int .u32 0))) [4]]
def Cu:Lc:=[Fm 0 5 0,Fm 1 6 1,WR 2 7 .mul 4 6,Ws 3 8 1 5 7,We 4 9 8,Fs 5 10 (.toInt .u32 (.t 9)),Fs 6 11 (.bin .shl (.t 10) (.c (.int .u64 24))),Fm 7 12 0,Fm 8 13 1,WR 9 14 .mul 4 13,WE 10 15 .add 14 1,Ws 11 16 1 12 15,We 12 17 16,Fs 13 18 (.toInt .u32 (.t 17)),Fs 14 19 (.bin .shl (.t 18) (.c (.int .u64 16))),Wk 15 20 .or 11 19,Fm 16 21 0,Fm 17 22 1,WR 18 23 .mul 4 22,WE 19 24 .add 23 2,Ws 20 25 1 21 24,We 21 26 25,Fs 22 27 (.toInt .u32 (.t 26)),Xz 23 28 .shl 27,Wk 24 29 .or 20 28,Fm 25 30 0,Fm 26 31 1,WR 27 32 .mul 4 31,WE 28 33 .add 32 3,Ws 29 34 1 30 33,We 30 35 34,Fs 31 36 (.toInt .u32 (.t 35)),Wk 32 37 .or 29 36,Fm 33 4 37]
def xuM:RC:=(So sR (Sq (.flt [0,0,2,7,15,31,63,0,0,256,768,1920,3968,8064,16256,32767,0,0,131072,393216,983040,2031616,4128768,8323072,16777215,0,0,67108864,201326592,503316480,1040187392,2113929216,4294967295,8589934591] [] Cu [0,1,5,6,7,8,9,10,11,12,13,14,15,16,17,18,19,20,21,22,23,24,25,26,27,28,29,30,31,32,33,34,35,36,37]) .ret))
def xjX:FnC:=⟨xuM,38,[.tmp 4],[],[]⟩
def Sp:Lb:=[om 5 0,om 6 1,Wh 7 .shr 5 6,Wa 8 0,Wa 9 1,oo 10 (.bin .sub (.c (.int .u64 32)) (.t 9)) [9],Wh 11 .shl 8 10,Wh 12 .or 7 11,Wa 4 12]
def xuL:RC:=(So sR (So Sp .ret))
def xjW:FnC:=⟨xuL,13,[.tmp 4],[],[]⟩
def Sn:Lb:=[om 5 4,om 6 0,Wj 7 6,Wh 8 .lss 5 7]
def Sm:Lc:=[Fm 0 11 3,Fm 1 12 0,Fm 2 13 4,Ws 3 14 1 12 13,We 4 15 14,Fs 5 16 (.bin .shr (.t 15) (.c (.int .u64 24))),Xn 6 17 16,Fm 7 18 0,Fm 8 19 4,Ws 9 20 1 18 19,We 10 21 20,Fs 11 22 (.bin .shr (.t 21) (.c (.int .u64 16))),Xn 12 23 22,Fm 13 24 0,Fm 14 25 4,Ws 15 26 1 24 25,We 16 27 26,Xz 17 28 .shr 27,Xn 18 29 28,Fm 19 30 0,Fm 20 31 4,Ws 21 32 1 30 31,We 22 33 32,Xn 23 34 33,Fs 24 35 (.litB [.t 17,.t 23,.t 29,.t 34]),Xa 25 36 1 11 35,⟨26,false,(xm 3 36)⟩]
def Sl:Lb:=[Wa 9 4,Wb 10 .add 9 1,Wa 4 10]
def Dv:RC:=(.post (Sq (So Sn (XU 8 [0,4,8] (.exit 0))) (Sq (Bk 1 (.flt [0,0,0,6,14,30,62,0,0,384,896,1920,3968,0,0,24576,57344,122880,253952,0,0,1572864,3670016,7864320,16777214,33554431,67108863] [136] Sm [11,12,13,14,15,16,17,18,19,20,21,22,23,24,25,26,27,28,29,30,31,32,33,34,35,36])) (.ops Sl))) [.tok 3 103])
def Ct:RC:=Dv
def Cs:Lb:=[Wa 37 3,Wa 2 37]
def xuK:RC:=(So kT (So U5 (Sq (So iX (Bk 0 (.pre [.tok 3 103] (.loop Ct)))) (So Cs .ret))))
def xjV:FnC:=⟨xuK,38,[.tmp 2],[],[]⟩
def Sk:Lb:=[WN 4 4 1,Wm 5 152 4,Wb 6 .neq 5 0]
def Sj:Lb:=[Wf 7 0 1,Wc 8 7,oo 9 (Ca 64 [(.c (.byt [] .clip)),ci 1,.t 8]) [8],Wa 3 9]
def Sh:Lb:=[Wa 10 3,Wf 11 2 1,Wc 12 11,Xf 13 64 10 4 12,Wa 3 13]
def Sg:Lb:=[Wa 14 3,Wf 15 1 1,Wc 16 15,oo 17 (.s2b (.t 16)) [16],Ww 18 63 14 17,Wa 3 18]
def Sf:Lb:=[Wa 19 3,Wr 20 3 1,Wc 21 20,Ww 22 63 19 21,Wa 2 22]
def xuJ:RC:=(So tx (Sq (So Sk (XV 6 [1,6] (So p9 .ret))) (So Sj (So Sh (So Sg (So Sf .ret))))))
def xjU:FnC:=⟨xuJ,23,[.tmp 2],[],[]⟩
def Se:Lb:=[on 4 (.build [.str [],.str [],.str [],.str [],.str [],.str []] [(0,1,(.c (.str [97,61,49]))),(1,1,(.c (.str [99,111,117,110,116,61,53]))),(2,1,(.c (.str [99,111,117,110,116,61,49,55]))),(3,1,(.c (.str [104,111,115,116,61,120]))),(4,1,(.c (.str [109,111,100,101,32,98]))),(5,1,(.c (.str [126])))]),on 3 (.new (.arr 1 (aL 6 [.str []]))),Wq 6 3 4]
def Sd:Lb:=[Wa 5 0,Wo 6 17 5 6,oo 7 (.iaddrA 6 1 (.t 3) (.t 6)) [3,6],Wc 8 7,oo 9 (.s2b (.t 8)) [8],Wa 2 9]
def xuI:RC:=(So kT (So Se (So Sd .ret)))
def xjT:FnC:=⟨xuI,10,[.tmp 2],[],[]⟩
def Sc:Lb:=[om 12 0,Wj 13 12,Wb 14 .neq 13 17,Wa 15 14,.grp 15 false [(xi 16 15 false (Mv 0)),(xi 17 15 false (.iaddrL 1 (.t 16) (ci 0))),(xi 18 15 false (Ld 17)),(xi 19 15 false (.toInt .i64 (.t 18))),(xi 20 15 false (Ca 153 [.t 19])),(xi 21 15 false (.un .not (.t 20)))] [16,17,18,19,20],Wi 22 15 21]
def mi:Lb:=[Wn 6 0,WP 7 false]
def Sb:Lb:=[om 23 0,Xw 24 1 23 0,Wc 25 24,Xh 26 25,Wa 8 26]
def Sa:Lb:=[om 27 2,Wj 28 27,om 29 8,WS 30 .mul 16 29,WS 31 .add 561 30,Wh 32 .neq 28 31,Wa 33 32,.grp 33 false [(xi 34 33 false (Mv 2)),(xi 35 33 false (.iaddrL 1 (.t 34) (ci 0))),(xi 36 33 false (Ld 35)),(xi 37 33 false (.toInt .i64 (.t 36))),(xi 38 33 false (Mv 8)),(xi 39 33 false (.toInt .u64 (.t 38))),(xi 40 33 false (.bin .shl (ci 1) (.t 39))),(xi 41 33 false (Bb .geq 37 40))] [8,34,35,36,37,38,39,40],Wi 42 33 41]
def R9:Lb:=[om 43 2,Xw 44 1 43 0,Wc 45 44,Xh 46 45,Wa 6 46]
def R8:Lb:=[om 48 6,Wa 49 1,om 50 2,oo 51 (.slcL 1 (.t 50) (some (ci 1)) (some (ci 561)) (some (ci 561))) [50],Xo 52 154 48 49 51,Wa 47 52,WJ 53 47 0,WI 54 47 1,Wa 9 53,Wa 7 54]
def R7:Lb:=[Wa 55 7,WV 56 55]
def E7:Lb:=[Xs 10]
def E6:Lb:=[Wa 57 2,XG 58 1 57 561,Wa 11 58]
def E5:Lb:=[om 59 11,Wj 60 59,Wb 61 .gtr 60 0]
def E4:Lb:=[Wa 64 10,om 65 11,XK 66 1 65 16 16,WM 67 1 66,Xx 68 24 64 67,Wa 10 68]
def E3:Lb:=[Wa 62 11,XG 63 1 62 16,Wa 11 63]
def wI:RC:=(.post (Sq (So E5 (XU 61 [11,61] (.exit 0))) (Sq (Bk 1 (.ops E4)) (.ops E3))) [.tok 10 110])
def vF:RC:=wI
def E2:Lc:=[Fm 0 69 9,Fm 1 70 6,Fm 2 71 10,Fm 5 74 0,Fs 6 75 (.slcL 1 (.t 74) (some (ci 1)) none none),Fs 7 76 (.b2s (.t 75)),W0 3 72 155 69 70 71,Fs 4 73 (.b2s (.t 72)),Wk 8 77 .neq 73 76]
def E1:Lb:=[Wa 78 6,Wa 6 78,WP 7 true]
def xuH:RC:=(So Im (Sq (So Sc (XV 22 [0,1,2,22] (So mi .ret))) (So Sb (Sq (So Sa (XV 42 [0,1,2,42] (So mi .ret))) (So R9 (So R8 (Sq (So R7 (XV 56 [0,2,6,9,56] (So mi .ret))) (So E7 (Sq (So E6 (Bk 0 (.pre [.tok 10 110] (.loop vF)))) (Sq (Sq (.flt [0,0,0,7,15,0,32,96,255] [] E2 [0,9,10,69,70,71,72,73,74,75,76]) (XV 77 [6,77] (So mi .ret))) (So E1 .ret)))))))))))
def xjS:FnC:=⟨xuH,79,[.tmp 6,.tmp 7],[],[]⟩
def R6:Lb:=[Wa 4 0,Wa 5 1,WD 6 4,Wr 7 2 6,Wt 1 7 5]
def xuG:RC:=(.ops R6)
def xjR:FnC:=⟨xuG,8,[],[],[]⟩
def R5:Lb:=[W9 6,WX 7 0]
def R4:Lb:=[om 8 2,om 9 0,WD 10 9,Wr 11 0 10,Wc 12 11,Wj 13 12,om 14 1,Wh 15 .sub 13 14,Wh 16 .gtr 8 15]
def R3:Lb:=[Xe 6,Wn 7 2]
def R2:Lb:=[Wa 17 0,WD 18 17,Wr 19 0 18,Wc 20 19,om 21 1,Wa 22 1,Wa 23 2,Wh 24 .add 22 23,XE 25 1 20 21 24,Wa 6 25,Wn 7 0]
def xuF:RC:=(So R5 (Sq (So R4 (XV 16 [0,1,2,16] (So R3 .ret))) (So R2 .ret)))
def xjQ:FnC:=⟨xuF,26,[.tmp 6,.tmp 7],[],[]⟩
def Cr:Lc:=[Fm 0 3 0,WK 1 4 3,Wg 2 5 0 4,We 3 6 5,Fs 4 7 (Ln 6),Fm 5 8 0,WK 6 9 8,Wg 7 10 1 9,We 8 11 10,Wk 9 12 .sub 7 11,Fm 10 2 12]
def xuE:RC:=(So p6 (Sq (.flt [0,1,3,7,15,0,32,96,224,511,1023] [] Cr [0,3,4,5,6,7,8,9,10,11,12]) .ret))
def xjP:FnC:=⟨xuE,13,[.tmp 2],[],[]⟩
def RZ:Lb:=[Wa 3 0,oo 4 (.build Zq2 [(0,1,(ci 1)),(1,1,(.t 3))]) [3],Wm 5 158 4,Wb 6 .eql 5 0,Wa 2 6]
def xuD:RC:=(So p7 (So RZ .ret))
def xjO:FnC:=⟨xuD,7,[.tmp 2],[],[]⟩
def RY:Lc:=[Wg 0 5 0 2,We 1 6 5,Wg 2 7 0 3,We 3 8 7,Wg 5 10 1 2,We 6 11 10,Wg 7 12 1 3,We 8 13 12,Wg 10 15 2 2,We 11 16 15,Wg 12 17 2 3,We 13 18 17,Wg 15 20 3 2,We 16 21 20,Wg 17 22 3 3,We 18 23 22,WG 4 9 134 6 8,WG 9 14 159 11 13,WG 14 19 134 16 18,WG 19 24 83 21 23,Fs 20 25 (.lit 1 [.t 9,.t 14,.t 19,.t 24]),WZ 21 26 133 25,Fm 22 4 26]
def xuC:RC:=(So AI (Sq (.flt [0,1,0,4,15,0,32,0,128,511,0,1024,0,4096,16383,0,32768,0,131072,524287,1048575,2097151,4194303] [] RY [2,3,5,6,7,8,9,10,11,12,13,14,15,16,17,18,19,20,21,22,23,24,25,26]) .ret))
def xjN:FnC:=⟨xuC,27,[.tmp 4],[],[]⟩
def RX:Lb:=[Wf 5 0 1,Wc 6 5,Wb 7 .lss 6 1,Wa 8 7,.grp 8 false [(xi 9 8 false (Fa 0 1)),(xi 10 8 false (Ld 9)),(xi 11 8 false (Bc .gtr 10 4))] [9,10],Wi 12 8 11]
def RW:Lb:=[Wf 13 1 1,Wc 14 13,Xt 15 true 14,Wn 16 0]
def RU:Lb:=[on 17 (Bb .lss 16 15)]
def RT:Lb:=[om 18 16,Wa 3 18]
def RS:Lb:=[Wf 19 1 1,Wc 20 19,Wa 21 3,oo 22 (.idxS (.t 20) (.t 21)) [20,21],Wa 4 22]
def RR:Lb:=[om 23 4,oo 24 (.bin .lss (.t 23) (.c (.u8 32))) [23],Wa 25 24,.grp 25 false [(xi 26 25 false (Mv 4)),(xi 27 25 false (.bin .gtr (.t 26) (.c (.u8 126))))] [4,26],Wi 28 25 27]
def RQ:Lb:=[Wb 29 .add 16 1,Wa 16 29]
def wH:RC:=(So RU (Sq (XU 17 [15,16,17] (.exit 0)) (Sq (Bk 1 (So RT (So RS (So RR (XV 28 [1,15,16,28] (So gD .ret)))))) (.ops RQ))))
def vE:RC:=wH
def E0:Lb:=[Wf 31 0 1,Wc 32 31,Wb 33 .eql 32 4,Wa 34 33,.grp 34 true [(xi 35 34 true (Fa 2 1)),(xi 36 34 true (Ld 35)),(xi 37 34 true (Bc .lss 36 0)),(xi 38 34 true (Mv 37))] [35,36,37],.grp 38 false [(xi 39 38 false (Fa 2 1)),(xi 40 38 false (Ld 39)),(xi 41 38 false (Fa 3 1)),(xi 42 38 false (Ld 41)),(xi 43 38 false (Bb .gtr 40 42))] [39,40,41,42],.grp 34 true [(xi 44 34 true (Pt 38 43)),(xi 45 34 true (Mv 44))] [38,43,44],.grp 45 false [(xi 46 45 false (Fa 3 1)),(xi 47 45 false (Ld 46)),(xi 48 45 false (Bc .gtr 47 1000000000))] [46,47],.grp 34 true [(xi 49 34 true (Pt 45 48))] [45,48],Wy 50 34 49,Wa 30 50]
def EZ:Lb:=[Wf 52 0 1,Wc 53 52,Wb 54 .neq 53 4,Wa 55 54,.grp 55 true [(xi 56 55 true (Fa 2 1)),(xi 57 55 true (Ld 56)),(xi 58 55 true (Bc .neq 57 0)),(xi 59 55 true (Mv 58))] [56,57,58],.grp 59 false [(xi 60 59 false (Fa 3 1)),(xi 61 59 false (Ld 60)),(xi 62 59 false (Bc .neq 61 0))] [60,61],.grp 55 true [(xi 63 55 true (Pt 59 62))] [59,62],Wy 64 55 63,Wa 51 64]
def EY:Lb:=[Wf 66 0 1,Wc 67 66,Wb 68 .eql 67 1,Wa 69 68,.grp 69 true [(xi 70 69 true (Fa 1 1)),(xi 71 69 true (Ld 70)),(xi 72 69 true (.bin .neq (.t 71) (.c (.str []))))] [70,71],Wy 73 69 72,Wa 65 73]
def EX:Lb:=[oo 75 (Fa 1 1) [1],Wc 76 75,Xt 77 true 76,Wb 78 .gtr 77 32,Wa 74 78]
def xuB:RC:=(So pm (Sq (So RX (XV 12 [1,12] (So gD .ret))) (Sq (So RW (Bk 0 (.loop vE))) (Sq (Bk 2 (So E0 (Kc 30 (Kk [1,30] (So gD .ret)) (Kk [30] (So EZ (Kc 51 (Kk [1,51] (So gD .ret)) (Kk [51] (So EY (Kc 65 (Kk [1,65] (So gD .ret)) (Kk [65] (So EX (XV 74 [74] (So pl .ret))))))))))))) (So kS .ret)))))
def xjM:FnC:=⟨xuB,79,[.tmp 2],[],[]⟩
def RP:Lb:=[Wa 6 0,on 7 (Ln 6),Wn 8 0]
def Cq:Lb:=[on 9 (Bb .lss 8 7)]
def RO:Lb:=[on 10 (Ia 1 6 8),Wc 11 10,Wa 5 11]
def RN:Lb:=[om 12 5,om 13 3,Wh 14 .neq 12 13]
def RM:Lb:=[Wa 15 5,Wa 2 15]
def RL:Lb:=[Wb 16 .add 8 1,Wa 8 16]
def Du:RC:=(So Cq (Sq (XU 9 [6,7,8,9] (.exit 0)) (Sq (Bk 1 (So RO (So RN (Kc 14 (Kk [3,6,7,8,14] (So RM .ret)) (Kk [5,14] .skip))))) (.ops RL))))
def RK:RC:=Du
def RJ:Lb:=[Wa 17 3,Wa 2 17]
def xuA:RC:=(So p6 (So xh (Sq (So RP (Bk 0 (.loop RK))) (So RJ .ret))))
def xjL:FnC:=⟨xuA,18,[.tmp 2],[],[]⟩
def RH:Lb:=[om 7 0,Wm 8 161 7,Wa 5 8]
def RG:Lb:=[om 9 1,Wm 10 161 9,Wa 6 10]
def RF:Lb:=[Wa 11 5]
def RE:Lb:=[Wa 12 6]
def xw:Lb:=[Wn 4 (-1)]
def RD:Lb:=[Wa 13 6]
def Cp:Lb:=[Wn 4 1]
def RB:Lb:=[om 14 0,om 15 1,Wh 16 .lss 14 15]
def EW:Lb:=[Wa 17 0,Wa 18 1,Wh 19 .gtr 17 18]
def xuz:RC:=(So qb (So RH (So RG (Sq (So RF (XV 11 [0,1,11] (Sq (So RE (XV 12 [12] (So iX .ret))) (So xw .ret)))) (Sq (So RD (XV 13 [0,1,13] (So Cp .ret))) (Sq (So RB (XV 16 [0,1,16] (So xw .ret))) (Sq (So EW (XV 19 [19] (So Cp .ret))) (So iX .ret))))))))
def xjK:FnC:=⟨xuz,20,[.tmp 4],[],[]⟩
def RA:Lb:=[WC 3 0,WC 5 2,WU 6 false]
def Rz:Lb:=[om 10 7,Wf 11 0 3,Wc 12 11,Wj 13 12,Wh 14 .lss 10 13]
def Ry:Lc:=[Wg 0 17 0 3,We 1 18 17,Fm 2 19 7,Ws 3 20 2 18 19,Wg 4 21 0 20,We 5 22 21,Wg 6 23 0 5,We 7 24 23,Wk 8 25 .neq 22 24]
def Rx:Lc:=[Wg 0 27 0 3,We 1 28 27,Fm 2 29 7,Ws 3 30 2 28 29,Wg 4 31 1 30,We 5 32 31,Fm 6 33 1,Wg 7 34 1 5,We 8 35 34,W0 9 36 163 32 33 35,Fm 10 26 36,W5 11 37 26 0,W5 12 38 26 1,Fm 13 8 37,Fm 14 9 38]
def Rw:Lb:=[Wa 39 9]
def Rv:Lb:=[Wa 15 7,Wb 16 .add 15 1,Wa 7 16]
def Dt:RC:=(Sq (So Rz (XU 14 [1,3,5,7,14] (.exit 0))) (Sq (Bk 1 (Sq (Sq (.flt [0,1,0,7,15,31,0,64,255] [] Ry [17,18,19,20,21,22,23,24]) (XV 25 [25] (.exit 1))) (Sq (.flt [0,1,0,7,15,31,0,0,128,511,1023,2047,2047,4095,16383] [] Rx [8,26,27,28,29,30,31,32,33,34,35,36,37,38]) (So Rw (XV 39 [1,3,5,7,39] (So BT .ret)))))) (.ops Rv)))
def Co:RC:=Dt
def xuy:RC:=(So RA (Sq (So po (Bk 0 (.loop Co))) (So Ip .ret)))
def xjJ:FnC:=⟨xuy,40,[.tmp 6],[],[]⟩
def Ru:Lc:=[Fm 0 5 0,WK 1 6 5,Wg 2 7 2 6,We 3 8 7,WE 4 9 .eql 8 0,Fm 5 10 9,Wu 6 11 10 true 0,Fi 7 12 10 true (.nchk (.t 11)),WA 8 13 10 true 0 12,Wz 9 14 10 true 13,Fi 10 15 10 true (Ln 14),Wu 11 16 10 true 0,Fi 12 17 10 true (.nchk (.t 16)),WA 13 18 10 true 1 17,Wz 14 19 10 true 18,Fi 15 20 10 true (Bb .sub 15 19),Wu 16 21 10 true 1,Fi 17 22 10 true (Bb .lss 20 21),Fs 18 23 (Pf 10 22)]
def Rt:Lb:=[om 24 0,WD 25 24,Wr 26 2 25,.op ⟨none,none,.store 1 (.t 26) (ci 2)⟩ [26]]
def Rr:Lb:=[Wa 27 0,WD 28 27,Wr 29 2 28,Wc 30 29,Wb 31 .eql 30 0,Wa 4 31]
def xux:RC:=(So tz (Sq (Sq (.flt [0,1,3,7,15,31,63,127,255,511,1023,63,2111,6207,14399,32767,63,131071,262143] [] Ru [1,5,6,7,8,9,10,11,12,13,14,15,16,17,18,19,20,21,22]) (XV 23 [23] (.ops Rt))) (So Rr .ret)))
def xjI:FnC:=⟨xux,32,[.tmp 4],[],[]⟩
def xuw:RC:=(So p6 (Sq (.flt [0,1,3,7,15,0,32,96,224,511,1023] [] Cr [0,3,4,5,6,7,8,9,10,11,12]) .ret))
def xjH:FnC:=⟨xuw,13,[.tmp 2],[],[]⟩
def Rn:Lb:=[om 6 0,Wj 7 6,Wn 8 0]
def Rm:Lb:=[om 10 8,Wa 5 10]
def Rl:Lb:=[om 11 1,om 12 0,om 13 5,WH 14 2 12 13,Wp 15 2 14,XL 16 11 15]
def Rk:Lb:=[Wa 17 5,Wa 4 17]
def Rj:Lb:=[Wb 18 .add 8 1,Wa 8 18]
def Dr:RC:=(So Cq (Sq (XU 9 [0,1,7,8,9] (.exit 0)) (Sq (Bk 1 (So Rm (So Rl (Kc 16 (Kk [0,1,7,8,16] (So Rk .ret)) (Kk [5,16] .skip))))) (.ops Rj))))
def xu:RC:=Dr
def xuv:RC:=(So qb (Sq (So Rn (Bk 0 (.loop xu))) (So xw .ret)))
def xjG:FnC:=⟨xuv,19,[.tmp 4],[],[]⟩
def Ri:Lb:=[om 6 0,Wj 7 6,Wb 8 .add 7 72,oo 9 (.mkB (ci 0) (.t 8)) [8],om 10 0,.dir (.tok 9 109),WB 11 1 9 10,on 12 (.litB [(.c (.u8 128))]),WB 13 1 11 12,Wa 3 13]
def Rh:Lb:=[om 14 3,Wj 15 14,Wb 16 .rem 15 64,Wb 17 .neq 16 56]
def Rg:Lb:=[Wa 18 3,on 19 (.litB [(.c (.u8 0))]),WB 20 1 18 19,Wa 3 20]
def Dq:RC:=(.post (Sq (So Rh (XU 17 [17] (.exit 0))) (Bk 1 (.ops Rg))) [.tok 3 103])
def Cm:RC:=Dq
def Rf:Lb:=[Wa 21 0,Wj 22 21,W1 23 22,Xl 24 .mul 23,Wa 4 24]
def Re:Lb:=[Wn 5 56]
def Rd:Lb:=[om 25 5,Wb 26 .geq 25 0]
def Rc:Lb:=[Wa 29 3,om 30 4,om 31 5,W1 32 31,Wh 33 .shr 30 32,Wx 34 33,WY 35 34,WB 36 1 29 35,Wa 3 36]
def Rb:Lb:=[Wa 27 5,Wb 28 .sub 27 8,Wa 5 28]
def wG:RC:=(.post (Sq (So Rd (XU 26 [4,5,26] (.exit 2))) (Sq (Bk 3 (.ops Rc)) (.ops Rb))) [.tok 3 103])
def vC:RC:=wG
def xuu:RC:=(So kT (So Ri (Sq (Bk 0 (.pre [.tok 3 103] (.loop Cm))) (So Rf (Sq (So Re (Bk 2 (.pre [.tok 3 103] (.loop vC)))) (So Cs .ret))))))
def xjF:FnC:=⟨xuu,38,[.tmp 2],[],[]⟩
def Ra:Lb:=[om 6 0,Wj 7 6,WS 8 .mul 4 7,oo 9 (.mkB (ci 0) (.t 8)) [8],Wa 3 9]
def QZ:Lb:=[Wa 10 0,on 11 (Ln 10),Wn 12 0]
def QY:Lb:=[on 14 (Ia 1 10 12),Wc 15 14,Wa 5 15]
def QX:Lb:=[Wa 16 3,om 17 5,XH 18 .shr 17,Wx 19 18,om 20 5,XI 21 .shr 20,Wx 22 21,om 23 5,Xl 24 .shr 23,Wx 25 24,Wa 26 5,Wx 27 26,XJ 28 19 22 25 27,.dir (.tok 16 116),WB 29 1 16 28,Wa 3 29]
def QW:Lb:=[Wb 30 .add 12 1,Wa 12 30]
def Dp:RC:=(.post (So Vi (Sq (XU 13 [10,11,12,13] (.exit 0)) (Sq (Bk 1 (So QY (.ops QX))) (.ops QW)))) [.tok 3 103])
def Cl:RC:=Dp
def QV:Lb:=[Wa 31 3,Wa 2 31]
def xut:RC:=(So kT (So Ra (Sq (So QZ (Bk 0 (.pre [.tok 3 103] (.loop Cl)))) (So QV .ret))))
def xjE:FnC:=⟨xut,32,[.tmp 2],[],[]⟩
def QU:Lb:=[XD 4]
def QT:Lb:=[on 18 (Bc .lss 17 64)]
def QS:Lb:=[om 19 17,Wa 5 19]
def QR:Lb:=[om 20 5,Wb 21 .lss 20 16]
def QQ:Lb:=[om 22 5,om 23 1,Wa 24 5,Ww 25 164 23 24,oo 26 (.iaddrA 64 1 (.t 4) (.t 22)) [22],Wt 1 26 25]
def QP:Lc:=[Fm 0 27 5,WE 1 28 .sub 27 15,WT 2 29 4 28,We 3 30 29,Fm 4 31 5,WE 5 32 .sub 31 2,WT 6 33 4 32,We 7 34 33,Fm 8 6 30,Fm 9 7 34]
def QO:Lb:=[om 35 6,Wo 36 165 35 (-7),om 37 6,Wo 38 165 37 (-18),Wh 39 .xor 36 38,Wa 40 6,oo 41 (.bin .shr (.t 40) (.c (.int .u64 3))) [40],Wh 42 .xor 39 41,Wa 8 42]
def QN:Lb:=[om 43 7,Wo 44 165 43 (-17),om 45 7,Wo 46 165 45 (-19),Wh 47 .xor 44 46,Wa 48 7,oo 49 (.bin .shr (.t 48) (.c (.int .u64 10))) [48],Wh 50 .xor 47 49,Wa 9 50]
def QM:Lc:=[Fm 0 51 5,Fm 1 52 9,Fm 2 53 5,WE 3 54 .sub 53 7,WT 4 55 4 54,We 5 56 55,Wk 6 57 .add 52 56,Fm 7 58 8,Wk 8 59 .add 57 58,Fm 9 60 5,WE 10 61 .sub 60 16,WT 11 62 4 61,We 12 63 62,Wk 13 64 .add 59 63,WT 14 65 4 51,Fr 15 1 65 64]
def EV:Lb:=[Wb 66 .add 17 1,Wa 17 66]
def wE:RC:=(So QT (Sq (XU 18 [1,17,18] (.exit 0)) (Sq (Bk 1 (So QS (Sq (So QR (XV 21 [21] (So QQ (.exit 1)))) (Sq (.flt [0,1,3,7,0,16,48,112,15,511] [] QP [27,28,29,30,31,32,33,34]) (So QO (So QN (.flt [0,0,0,4,12,28,62,0,254,0,512,1536,3584,8190,16383,32767] [] QM [5,8,9,51,52,53,54,55,56,57,58,59,60,61,62,63,64,65]))))))) (.ops EV))))
def vB:RC:=wE
def EU:Lb:=[om 67 0,WD 68 67,Wp 69 8 68,on 10 (.new (.arr 1 (aL 8 [.int .u32 0]))),Wq 8 10 69]
def ET:Lb:=[Wn 70 0]
def ES:Lb:=[on 71 (Bc .lss 70 64)]
def ER:Lb:=[om 72 70,Wa 11 72]
def EP:Lc:=[Xi 0 73 10 0,We 1 74 73,Xi 2 75 10 4,We 3 76 75,Fm 4 12 74,Fm 5 13 76]
def EO:Lc:=[Xi 0 77 10 7,We 1 78 77,Fm 2 79 13,Fm 4 81 13,Fm 7 84 13,Fm 11 88 13,Xi 12 89 10 5,We 13 90 89,Wk 14 91 .and 88 90,Fm 15 92 13,Fs 16 93 (.un .xor (.t 92)),Xi 17 94 10 6,We 18 95 94,Wk 19 96 .and 93 95,Wk 20 97 .xor 91 96,Fm 22 99 11,Fs 23 100 (.iaddrA 64 1 (.c (.pp jP)) (.t 99)),We 24 101 100,Fm 26 103 11,WT 27 104 4 103,We 28 105 104,WO 3 80 165 79 (-6),WO 5 82 165 81 (-11),Wk 6 83 .xor 80 82,WO 8 85 165 84 (-25),Wk 9 86 .xor 83 85,Wk 10 87 .add 78 86,Wk 21 98 .add 87 97,Wk 25 102 .add 98 101,Wk 29 106 .add 102 105,Fm 30 14 106]
def EN:Lc:=[Fm 0 107 12,Fm 2 109 12,Fm 5 112 12,Fm 8 115 12,Xi 9 116 10 1,We 10 117 116,Wk 11 118 .and 115 117,Fm 12 119 12,Xi 13 120 10 2,We 14 121 120,Wk 15 122 .and 119 121,Wk 16 123 .xor 118 122,Xi 17 124 10 1,We 18 125 124,Xi 19 126 10 2,We 20 127 126,Wk 21 128 .and 125 127,Wk 22 129 .xor 123 128,WO 1 108 165 107 (-2),WO 3 110 165 109 (-13),Wk 4 111 .xor 108 110,WO 6 113 165 112 (-22),Wk 7 114 .xor 111 113,Wk 23 130 .add 114 129,Fm 24 15 130]
def EM:Lb:=[om 131 14,Wa 132 15,Wh 133 .add 131 132,Xp 134 10 0,Wc 135 134,Xp 136 10 1,Wc 137 136,Xp 138 10 2,Wc 139 138,Xp 140 10 3,Wc 141 140,Wa 142 14,Wh 143 .add 141 142,Xp 144 10 4,Wc 145 144,Xp 146 10 5,Wc 147 146,Xp 148 10 6,Wc 149 148,oo 150 (.build [.int .u32 0,.int .u32 0,.int .u32 0,.int .u32 0,.int .u32 0,.int .u32 0,.int .u32 0,.int .u32 0] [(0,1,(.t 133)),(1,1,(.t 135)),(2,1,(.t 137)),(3,1,(.t 139)),(4,1,(.t 143)),(5,1,(.t 145)),(6,1,(.t 147)),(7,1,(.t 149))]) [133,135,137,139,143,145,147,149],Wq 8 10 150]
def EL:Lb:=[Wb 151 .add 70 1,Wa 70 151]
def wD:RC:=(So ES (Sq (XU 71 [4,70,71] (.exit 2)) (Sq (Bk 3 (So ER (Sq (.flt [0,1,0,4,3,31] [] EP [73,74,75,76]) (Sq (.flt [0,1,0,4,0,28,60,0,188,508,1023,0,0,4096,14336,0,32768,0,131072,491520,1046528,2097151,0,4194304,12582912,33554431,0,67108864,201326592,536870911,1073741823] [] EO [11,13,77,78,79,80,81,82,83,84,85,86,87,88,89,90,91,92,93,94,95,96,97,98,99,100,101,102,103,104,105,106]) (Sq (.flt [0,1,0,7,15,0,47,127,0,0,512,1792,0,0,8192,28672,65280,0,131072,0,524288,1966080,4194048,8388607,16777215] [] EN [12,107,108,109,110,111,112,113,114,115,116,117,118,119,120,121,122,123,124,125,126,127,128,129,130]) (.ops EM)))))) (.ops EL))))
def vz:RC:=wD
def EK:Lb:=[Wn 152 0]
def EJ:Lb:=[on 153 (Bc .lss 152 8)]
def EI:Lb:=[om 154 152,Wa 16 154]
def EH:Lc:=[Fm 0 155 0,Fm 1 156 16,WK 2 157 155,Fs 3 158 (.iaddrA 8 1 (.t 157) (.t 156)),We 4 159 158,Fm 5 160 16,Fs 6 161 (.iaddrA 8 1 (.t 10) (.t 160)),We 7 162 161,Wk 8 163 .add 159 162,WK 9 164 155,Fs 10 165 (.iaddrA 8 1 (.t 164) (.t 156)),Fr 11 1 165 163]
def EG:Lb:=[Wb 166 .add 152 1,Wa 152 166]
def wC:RC:=(So EJ (Sq (XU 153 [0,10,152,153] (.exit 4)) (Sq (Bk 5 (So EI (.flt [0,0,1,7,15,0,32,96,255,1,1023,2047] [] EH [16,155,156,157,158,159,160,161,162,163,164,165]))) (.ops EG))))
def vy:RC:=wC
def xus:RC:=(So QU (Sq (So BP (Bk 0 (.loop vB))) (So EU (Sq (So ET (Bk 2 (.loop vz))) (So EK (Bk 4 (.loop vy)))))))
def xjD:FnC:=⟨xus,167,[],[],[]⟩
def QL:Lb:=[om 10 1,Wb 11 .lss 10 0,Wa 12 11,.grp 12 false [(xi 13 12 false (Mv 1)),(xi 14 12 false (Bc .gtr 13 255))] [13],Wi 15 12 14]
def xq:Lb:=[Xe 6]
def QK:Lb:=[Wa 16 2,Wm 17 166 16,Wa 7 17]
def QJ:Lb:=[om 18 9,Wb 19 .lss 18 35]
def QI:Lc:=[Fm 0 22 8,Fm 1 23 1,Fm 2 24 9,Fm 3 25 7,Fm 4 26 9,Ws 5 27 1 25 26,We 6 28 27,Fm 7 29 0,Fm 8 30 1,Fm 9 31 9,W0 10 32 150 29 30 31,Fz 11 33 (Ca 149 [.t 23,.t 24,ci 0,.t 28,.t 32]),Xa 12 34 1 22 33,⟨13,false,(xm 8 34)⟩]
def QH:Lb:=[Wa 20 9,Wb 21 .add 20 1,Wa 9 21]
def Do:RC:=(.post (Sq (So QJ (XU 19 [0,1,7,9,19] (.exit 0))) (Sq (Bk 1 (.flt [0,0,0,0,0,24,56,0,0,0,896,2046,4095,8191] [134] QI [22,23,24,25,26,27,28,29,30,31,32,33,34])) (.ops QH))) [.tok 8 108])
def xo:RC:=Do
def EF:Lb:=[Wa 35 8,Wa 6 35]
def xur:RC:=(So tv (Sq (So QL (XV 15 [0,1,2,15] (So xq .ret))) (So QK (So xy (Sq (So Cg (Bk 0 (.pre [.tok 8 108] (.loop xo)))) (So EF .ret))))))
def xjC:FnC:=⟨xur,36,[.tmp 6],[],[]⟩
def QG:Lb:=[om 8 1,Wj 9 8,Wm 10 110 9,WV 11 10,Wa 12 11,.grp 12 false [(xi 13 12 false (Mv 0)),(xi 14 12 false (Bc .lss 13 0))] [13],Wi 15 12 14,Wa 16 15,.grp 16 false [(xi 17 16 false (Mv 0)),(xi 18 16 false (Mv 1)),(xi 19 16 false (Ln 18)),(xi 20 16 false (Bb .geq 17 19))] [17,18,19],Wi 21 16 20]
def Ck:Lb:=[Xs 4]
def QF:Lb:=[Wa 22 1,Wa 6 22]
def QE:Lb:=[om 23 6,Wj 24 23,Wb 25 .gtr 24 1]
def QD:Lb:=[Wa 28 5,om 29 6,om 30 0,Wb 31 .xor 30 1,WH 32 1 29 31,Wc 33 32,Wm 34 112 33,WM 35 1 34,Xx 36 24 28 35,Wa 5 36]
def QC:Lb:=[om 37 7,Wa 38 6,Ww 39 111 37 38,Wa 6 39]
def QB:Lb:=[Wa 40 0,Wb 41 .quo 40 2,Wa 0 41]
def EE:Lb:=[Wa 26 7,Wb 27 .add 26 1,Wa 7 27]
def wB:RC:=(.post (Sq (So QE (XU 25 [0,6,7,25] (.exit 0))) (Sq (Bk 1 (So QD (So QC (.ops QB)))) (.ops EE))) [.tok 5 105])
def ED:RC:=wB
def xuq:RC:=(So Io (Sq (So QG (XV 21 [0,1,21] (So Ck .ret))) (So AH (So QF (Sq (So po (Bk 0 (.pre [.tok 5 105] (.loop ED)))) (So Cx .ret))))))
def xjB:FnC:=⟨xuq,43,[.tmp 4],[],[]⟩
def QA:Lb:=[Wa 9 0,Wx 10 9,Wa 11 1,Wx 12 11,oo 13 (.litB [.t 10,.t 12]) [10,12],Wa 14 2,Wa 15 3,XM 16 1 13 14 15,W6 17 65 3 16,Xb 18 1 17 16,Wa 8 18]
def xup:RC:=(So nl (So QA .ret))
def xjA:FnC:=⟨xup,19,[.tmp 8],[],[]⟩
def Qz:Lb:=[om 12 3,Wb 13 .lss 12 1,Wa 14 13,.grp 14 false [(xi 15 14 false (Mv 3)),(xi 16 14 false (Bc .gtr 15 1024))] [15],Wi 17 14 16]
def xl:Lb:=[Xe 9]
def Qy:Lb:=[Wn 10 1]
def Qx:Lb:=[om 18 9,Wj 19 18,om 20 3,Wh 21 .lss 19 20]
def Qw:Lb:=[om 24 10,Wm 25 167 24,om 26 1,WB 27 1 25 26,Wa 11 27]
def Qv:Lb:=[Wa 28 11,on 29 (.litB [(.c (.u8 0))]),WB 30 1 28 29,om 31 2,WB 32 1 30 31,om 33 3,WS 34 .mul 8 33,Wm 35 167 34,WB 36 1 32 35,Wa 11 36]
def Qu:Lb:=[Wa 37 9,om 38 0,Wa 39 11,Ww 40 168 38 39,WB 41 1 37 40,Wa 9 41]
def Qt:Lb:=[Wa 22 10,Wb 23 .add 22 1,Wa 10 23]
def wA:RC:=(.post (Sq (So Qx (XU 21 [0,1,2,10,21] (.exit 0))) (Sq (Bk 1 (So Qw (So Qv (.ops Qu)))) (.ops Qt))) [.gc [127,130,132,136],.gcr 26000 27000,.gcr 36000 37000,.tok 9 109])
def EC:RC:=wA
def EB:Lb:=[Wa 42 9,Wa 43 3,XQ 44 1 42 43,Wa 8 44]
def xuo:RC:=(So nl (Sq (So Qz (XV 17 [0,1,2,3,17] (So xy .ret))) (So xl (Sq (So Qy (Bk 0 (.pre [.tok 9 109] (.loop EC)))) (So EB .ret)))))
def xjz:FnC:=⟨xuo,45,[.tmp 8],[],[]⟩
def Qs:Lb:=[W9 10]
def Qr:Lb:=[Wa 12 2,Wa 11 12]
def Qq:Lb:=[om 13 11,om 14 3,Wh 15 .lss 13 14]
def Qp:Lb:=[om 18 0,Wx 19 18,om 20 1,Wx 21 20,om 22 11,Wx 23 22,oo 24 (.litB [.t 19,.t 21,.t 23]) [19,21,23],Wa 25 4,oo 26 (.lit 1 [.t 24,.t 25]) [24,25],W6 27 65 1 26,Xb 28 1 27 16,Wa 4 28]
def Qo:Lb:=[Wa 16 11,Wb 17 .add 16 1,Wa 11 17]
def Dn:RC:=(Sq (So Qq (XU 15 [0,1,3,11,15] (.exit 0))) (Sq (Bk 1 (.ops Qp)) (.ops Qo)))
def Cj:RC:=Dn
def Qn:Lb:=[Wa 29 4,Wa 10 29]
def xun:RC:=(So Qs (Sq (So Qr (Bk 0 (.loop Cj))) (So Qn .ret)))
def xjy:FnC:=⟨xun,30,[.tmp 10],[],[]⟩
def P7:Lb:=[Wa 7 0,Wa 8 1,Wx 9 8,Wa 10 2,Wx 11 10,oo 12 (.litB [.t 9,.t 11]) [9,11],oo 13 (Ca 148 [.t 7,(.c (.str [99,104,97,105,110])),.t 12,ci 16]) [7,12],Wa 6 13]
def xum:RC:=(So tv (So P7 .ret))
def xjx:FnC:=⟨xum,14,[.tmp 6],[],[]⟩
def P6:Lb:=[Wa 5 0,Wx 6 5,WY 7 6,Wa 8 1,oo 9 (.lit 1 [.t 7,.t 8]) [7,8],W6 10 65 2 9,Xb 11 1 10 16,Wa 4 11]
def xul:RC:=(So iI (So P6 .ret))
def xjw:FnC:=⟨xul,12,[.tmp 4],[],[]⟩
def P5:Lb:=[Wf 3 0 1,Wc 4 3,Wb 5 .lss 4 1,Wa 6 5,.grp 6 false [(xi 7 6 false (Fa 0 1)),(xi 8 6 false (Ld 7)),(xi 9 6 false (Bc .gtr 8 4))] [7,8],Wi 10 6 9,Wa 11 10,.grp 11 false [(xi 12 11 false (Fa 2 1)),(xi 13 11 false (Ld 12)),(xi 14 11 false (Bc .lss 13 0))] [12,13],Wi 15 11 14,Wa 16 15,.grp 16 false [(xi 17 16 false (Fa 2 1)),(xi 18 16 false (Ld 17)),(xi 19 16 false (Bc .gtr 18 1000000))] [17,18],Wi 20 16 19]
def P4:Lb:=[Wf 21 1 1,Wc 22 21,Wm 23 106 22,WV 24 23]
def P3:Lb:=[Wf 25 3 1,Wc 26 25,Wj 27 26,Wb 28 .gtr 27 64]
def PZ:Lb:=[Wf 29 0 1,Wc 30 29,Wb 31 .eql 30 4,Wa 32 31,.grp 32 true [(xi 33 32 true (Lt 4 1)),(xi 34 32 true (Ca 169 [.t 33])),(xi 35 32 true (Ln 34)),(xi 36 32 true (Bc .eql 35 0))] [1,33,34,35],Wy 37 32 36]
def Ci:Lb:=[Wn 2 40]
def xuk:RC:=(So pm (Sq (So P5 (XV 20 [1,20] (So gD .ret))) (Sq (So P4 (XV 24 [1,24] (So tw .ret))) (Sq (So P3 (XV 28 [1,28] (So pl .ret))) (Sq (So PZ (XV 37 [37] (So Ci .ret))) (So kS .ret))))))
def xjv:FnC:=⟨xuk,38,[.tmp 2],[],[]⟩
def PY:Lb:=[om 3 0,Wb 4 .geq 3 0,Wa 5 4,.grp 5 true [(xi 6 5 true (Mv 0)),(xi 7 5 true (Bc .leq 6 3))] [0,6],Wy 8 5 7,Wa 2 8]
def xuj:RC:=(So p7 (So PY .ret))
def xju:FnC:=⟨xuj,9,[.tmp 2],[],[]⟩
def PX:Lb:=[WC 5 2,W9 6,WU 7 false]
def PW:Lb:=[om 10 0,Wm 11 170 10,WV 12 11,Wa 13 12,.grp 13 false [(xi 14 13 false (Ld 5)),(xi 15 13 false (Ln 14)),(xi 16 13 false (Bc .neq 15 560))] [14,15],Wi 17 13 16]
def Ch:Lb:=[Xe 6,WP 7 false]
def PV:Lb:=[Wa 18 1,Wm 19 171 18,on 8 (.new (.rc [.lst 1 [] .clip])),Wq 1 8 19]
def PU:Lb:=[oo 20 (.mkfn 172 [] [.t 5]) [5],Wa 9 20]
def PT:Lb:=[om 21 0,Wa 22 0,Wa 23 9,oo 24 (.mkfn 175 [] [.t 8]) [8],oo 25 (Ca 174 [.t 22,.t 23,.t 24,(.f 176)]) [22,23,24],Ww 26 173 21 25,Wa 6 26,WP 7 true]
def xui:RC:=(So PX (Sq (So PW (XV 17 [0,1,5,17] (So Ch .ret))) (So PV (So PU (So PT .ret)))))
def xjt:FnC:=⟨xui,27,[.tmp 6,.tmp 7],[],[]⟩
def PS:Lb:=[om 12 2,Wj 13 12,Wb 14 .gtr 13 3,Wa 15 14,.grp 15 false [(xi 16 15 false (Mv 1)),(xi 17 15 false (Bc .lss 16 0))] [16],Wi 18 15 17,Wa 19 18,.grp 19 false [(xi 20 19 false (Mv 1)),(xi 21 19 false (Mv 2)),(xi 22 19 false (Ln 21)),(xi 23 19 false (.toInt .u64 (.t 22))),(xi 24 19 false (.bin .shl (ci 1) (.t 23))),(xi 25 19 false (Bb .geq 20 24))] [20,21,22,23,24],Wi 26 19 25]
def PR:Lb:=[Wa 27 0,Xy 28 1 27,Wa 7 28]
def PQ:Lb:=[Wa 29 2,on 30 (Ln 29),Wn 31 0]
def PP:Lb:=[on 32 (Bb .lss 31 30)]
def PO:Lb:=[om 33 31,on 34 (Ia 1 29 31),Wc 35 34,Wa 8 33,Wa 9 35]
def PN:Lb:=[om 36 7,om 37 9,Wa 10 36,Wa 11 37]
def PM:Lb:=[om 38 1,Wb 39 .and 38 1,Wb 40 .eql 39 1]
def PL:Lb:=[Wa 41 9,Wa 42 7,Wa 10 41,Wa 11 42]
def EA:Lb:=[Wa 43 1,oo 44 (.bin .shr (.t 43) (.c (.int .u64 1))) [43],Wa 1 44]
def Ez:Lb:=[Wa 45 8,om 46 1,Wa 47 10,Wa 48 11,Xv 49 177 45 46 47 48,Wa 7 49]
def Ey:Lb:=[Wb 50 .add 31 1,Wa 31 50]
def wz:RC:=(So PP (Sq (XU 32 [1,29,30,31,32] (.exit 0)) (Sq (Bk 1 (So PO (So PN (Sq (So PM (Kc 40 (Kk [10,11,40] (.ops PL)) (Kk [7,9,40] .skip))) (So EA (.ops Ez)))))) (.ops Ey))))
def vx:RC:=wz
def Ew:Lb:=[Wa 51 7,Wa 6 51]
def xuh:RC:=(So tv (Sq (So PS (XV 26 [0,1,2,26] (So xq .ret))) (So PR (Sq (So PQ (Bk 0 (.loop vx))) (So Ew .ret)))))
def xjs:FnC:=⟨xuh,52,[.tmp 6],[],[]⟩
def PK:Lb:=[Wf 4 0 1,Wc 5 4,Wb 6 .lss 5 1,Wa 7 6,.grp 7 false [(xi 8 7 false (Fa 0 1)),(xi 9 7 false (Ld 8)),(xi 10 7 false (Bc .gtr 9 4))] [8,9],Wi 11 7 10,Wa 12 11,.grp 12 false [(xi 13 12 false (Fa 2 1)),(xi 14 12 false (Ld 13)),(xi 15 12 false (Bc .lss 14 0))] [13,14],Wi 16 12 15,Wa 17 16,.grp 17 false [(xi 18 17 false (Fa 2 1)),(xi 19 17 false (Ld 18)),(xi 20 17 false (Bc .gtr 19 1000000))] [18,19],Wi 21 17 20,Wa 3 21]
def PJ:Lb:=[Wf 23 1 1,Wc 24 23,Wm 25 189 24,WV 26 25,Wa 22 26]
def PI:Lb:=[Wf 28 3 1,Wc 29 28,Wj 30 29,Wb 31 .gtr 30 64,Wa 27 31]
def PH:Lb:=[Wf 33 0 1,Wc 34 33,Wb 35 .eql 34 4,Wa 36 35,.grp 36 true [(xi 37 36 true (Lt 4 1)),(xi 38 36 true (Ca 190 [.t 37])),(xi 39 36 true (Ln 38)),(xi 40 36 true (Bc .eql 39 0))] [1,37,38,39],Wy 41 36 40,Wa 32 41]
def xug:RC:=(So pm (Sq (Bk 0 (So PK (Kc 3 (Kk [1,3] (So gD .ret)) (Kk [3] (So PJ (Kc 22 (Kk [1,22] (So tw .ret)) (Kk [22] (So PI (Kc 27 (Kk [1,27] (So pl .ret)) (Kk [27] (So PH (XV 32 [32] (So Ci .ret))))))))))))) (So kS .ret)))
def xjr:FnC:=⟨xug,42,[.tmp 2],[],[]⟩
def PG:Lb:=[Wa 5 0,Wa 6 1,Ww 7 191 5 6,Wa 4 7]
def xuf:RC:=(So qb (So PG .ret))
def xjq:FnC:=⟨xuf,8,[.tmp 4],[],[]⟩
def Px:Lb:=[om 3 0,Wa 4 0,Wh 5 .neq 3 4,Wa 2 5]
def xue:RC:=(So p7 (So Px .ret))
def xjp:FnC:=⟨xue,6,[.tmp 2],[],[]⟩
def Pw:Lb:=[om 15 0,Wj 16 15,Wb 17 .neq 16 17,Wa 18 17,.grp 18 false [(xi 19 18 false (Mv 0)),(xi 20 18 false (.iaddrL 1 (.t 19) (ci 0))),(xi 21 18 false (Ld 20)),(xi 22 18 false (.toInt .i64 (.t 21))),(xi 23 18 false (Bc .gtr 22 3))] [19,20,21,22],Wi 24 18 23]
def Pv:Lb:=[om 25 0,Xw 26 1 25 0,Wc 27 26,Xh 28 27,Wa 8 28]
def Pu:Lb:=[om 29 2,Wj 30 29,om 31 8,WS 32 .mul 16 31,WS 33 .add 561 32,Wh 34 .neq 30 33,Wa 35 34,.grp 35 false [(xi 36 35 false (Mv 2)),(xi 37 35 false (.iaddrL 1 (.t 36) (ci 0))),(xi 38 35 false (Ld 37)),(xi 39 35 false (.toInt .i64 (.t 38))),(xi 40 35 false (Mv 8)),(xi 41 35 false (.toInt .u64 (.t 40))),(xi 42 35 false (.bin .shl (ci 1) (.t 41))),(xi 43 35 false (Bb .geq 39 42))] [36,37,38,39,40,41,42],Wi 44 35 43]
def Ps:Lb:=[om 45 2,Xw 46 1 45 0,Wc 47 46,Xh 48 47,Wa 9 48]
def Pq:Lb:=[Wn 10 561]
def Pp:Lb:=[om 50 9,Wa 51 1,om 52 2,om 53 10,oo 54 (.slcL 1 (.t 52) (some (ci 1)) (some (.t 53)) none) [52,53],Xo 55 194 50 51 54,Wa 49 55,WJ 56 49 0,WI 57 49 1,Wa 11 56,.op (xm 12 57) [12,57]]
def Po:Lb:=[Xs 13]
def Eu:Lb:=[Wn 14 0]
def Et:Lb:=[om 58 14,om 59 8,Wh 60 .lss 58 59]
def Es:Lb:=[Wa 63 13,om 64 2,om 65 10,om 66 10,Wb 67 .add 66 16,XE 68 1 64 65 67,WM 69 1 68,Xx 70 24 63 69,Wa 13 70]
def Er:Lb:=[Wa 71 10,Wb 72 .add 71 16,Wa 10 72]
def Ep:Lb:=[Wa 61 14,Wb 62 .add 61 1,Wa 14 62]
def wy:RC:=(.post (Sq (So Et (XU 60 [2,8,10,14,60] (.exit 0))) (Sq (Bk 1 (So Es (.ops Er))) (.ops Ep))) [.tok 13 113])
def vw:RC:=wy
def Eo:Lc:=[Fm 0 73 11,Fm 1 74 9,Fm 2 75 13,Fm 4 77 0,Fs 5 78 (.slcL 1 (.t 77) (some (ci 1)) none none),W0 3 76 195 73 74 75,WG 6 79 31 76 78,Fs 7 80 (.un .not (.t 79))]
def En:Lb:=[Wa 81 9,Wa 6 81,WP 7 true]
def xud:RC:=(So Im (Sq (So Pw (XV 24 [0,1,2,24] (So mi .ret))) (So Pv (Sq (So Pu (XV 44 [0,1,2,8,44] (So mi .ret))) (So Ps (So Pq (So Pp (So Po (Sq (So Eu (Bk 0 (.pre [.tok 13 113] (.loop vw)))) (Sq (Sq (.flt [0,0,0,7,0,16,63,127] [] Eo [0,11,13,73,74,75,76,77,78,79]) (XV 80 [9,80] (So mi .ret))) (So En .ret)))))))))))
def xjo:FnC:=⟨xud,82,[.tmp 6,.tmp 7],[],[]⟩
def xuc:RC:=(So sR (Sq (.flt [0,0,2,7,15,31,63,0,0,256,768,1920,3968,8064,16256,32767,0,0,131072,393216,983040,2031616,4128768,8323072,16777215,0,0,67108864,201326592,503316480,1040187392,2113929216,4294967295,8589934591] [] Cu [0,1,5,6,7,8,9,10,11,12,13,14,15,16,17,18,19,20,21,22,23,24,25,26,27,28,29,30,31,32,33,34,35,36,37]) .ret))
def xjn:FnC:=⟨xuc,38,[.tmp 4],[],[]⟩
def Pn:Lb:=[Wa 6 1,W1 7 6,oo 8 (.bin .and (.t 7) (.c (.int .u64 31))) [7],Wa 5 8]
def Pm:Lb:=[om 9 0,om 10 5,Wh 11 .shl 9 10,Wa 12 0,Wa 13 5,oo 14 (.bin .sub (.c (.int .u64 32)) (.t 13)) [13],Wh 15 .shr 12 14,Wh 16 .or 11 15,Wa 4 16]
def xub:RC:=(So sR (So Pn (So Pm .ret)))
def xjm:FnC:=⟨xub,17,[.tmp 4],[],[]⟩
def Cd:Lb:=[XC 2]
def Pl:Lb:=[Wa 7 0,WM 8 1 7,W6 9 65 4 8,Xb 10 1 9 16,Wa 3 10]
def Pk:Lb:=[om 11 6,Wb 12 .lss 11 16]
def Pj:Lc:=[Fm 0 15 4,Fm 1 16 3,Fm 2 17 6,Ws 3 18 1 16 17,We 4 19 18,Fs 5 20 (.bin .shr (.t 19) (.c (.int .u64 4))),Xd 6 21 20,Fm 7 22 3,Fm 8 23 6,Ws 9 24 1 22 23,We 10 25 24,Fs 11 26 (.bin .and (.t 25) (.c (.u8 15))),Xd 12 27 26,Fs 13 28 (.lit 1 [.t 21,.t 27]),XF 14 29 8 15 28,⟨15,false,(xm 4 29)⟩]
def Pi:Lc:=[Fm 0 30 5,Fm 1 31 3,Fm 2 32 6,Ws 3 33 1 31 32,We 4 34 33,Fs 5 35 (.bin .shr (.t 34) (.c (.int .u64 4))),Xd 6 36 35,WR 7 37 .sub 30 36,Fm 8 38 3,Fm 9 39 6,Ws 10 40 1 38 39,We 11 41 40,Fs 12 42 (.bin .and (.t 41) (.c (.u8 15))),Xd 13 43 42,Wk 14 44 .sub 37 43,Wk 15 45 .add 30 44,⟨16,false,(xm 5 45)⟩]
def Dh:RC:=(.post (Sq (So Pk (XU 12 [3,6,12] (.exit 0))) (Sq (Bk 1 (Sq (.flt [0,0,0,6,14,30,62,0,0,384,896,1920,3968,8190,16383,32767] [129] Pj [15,16,17,18,19,20,21,22,23,24,25,26,27,28,29]) (.flt [0,0,0,6,14,30,62,126,0,0,768,1792,3840,7936,16382,32767,65535] [] Pi [30,31,32,33,34,35,36,37,38,39,40,41,42,43,44,45]))) (.ops Cw))) [.tok 4 104])
def Cc:RC:=Dh
def Em:Lb:=[Wa 46 4,om 47 5,Wb 48 .quo 47 256,om 49 5,Wb 50 .quo 49 16,Wb 51 .rem 50 16,Wa 52 5,Wb 53 .rem 52 16,XM 54 1 48 51 53,XT 55 8 46 54,Wa 2 55]
def xua:RC:=(So Cd (So Pl (So Ck (So pq (Sq (So jO (Bk 0 (.pre [.tok 4 104] (.loop Cc)))) (So Em .ret))))))
def xjl:FnC:=⟨xua,56,[.tmp 2],[],[]⟩
def Ph:Lb:=[om 3 0,XH 4 .shr 3,Wx 5 4,om 6 0,XI 7 .shr 6,Wx 8 7,om 9 0,Xl 10 .shr 9,Wx 11 10,Wa 12 0,Wx 13 12,XJ 14 5 8 11 13,Wa 2 14]
def xt9:RC:=(So kT (So Ph .ret))
def xjk:FnC:=⟨xt9,15,[.tmp 2],[0],[]⟩
def Pg:Lb:=[om 9 0,Wj 10 9,Wb 11 .gtr 10 64]
def Pe:Lb:=[Wa 12 0,Wm 13 68 12,Wa 0 13]
def Pd:Lc:=[Fz 0 14 (.mkB (ci 64) (ci 64)),Fm 2 5 14,Fz 1 15 (.mkB (ci 64) (ci 64)),Fm 3 6 15]
def Pc:Lb:=[om 16 7,Wb 17 .lss 16 64]
def Pb:Lb:=[on 8 (.mov (.c (.u8 0)))]
def Pa:Lb:=[om 20 7,om 21 0,Wj 22 21,Wh 23 .lss 20 22]
def O9:Lb:=[om 24 0,om 25 7,WH 26 1 24 25,Wc 27 26,Wa 8 27]
def O8:Lb:=[om 28 5,om 29 7,om 30 6,om 31 7,om 32 8,oo 33 (.bin .xor (.t 32) (.c (.u8 54))) [32],Wa 34 8,oo 35 (.bin .xor (.t 34) (.c (.u8 92))) [34],WH 36 1 28 29,Wt 1 36 33,WH 37 1 30 31,Wt 1 37 35]
def El:Lb:=[Wa 18 7,Wb 19 .add 18 1,Wa 7 19]
def ww:RC:=(Sq (So Pc (XU 17 [0,7,17] (.exit 0))) (Sq (Bk 1 (So Pb (Sq (So Pa (XV 23 [8,23] (.ops O9))) (.ops O8)))) (.ops El)))
def vv:RC:=ww
def Ek:Lb:=[Wa 38 6,Wa 39 5,Wa 40 1,.dir (.tok 39 139),WB 41 1 39 40,Wm 42 68 41,.dir (.tok 38 138),WB 43 1 38 42,Wm 44 68 43,Wa 4 44]
def xt8:RC:=(So iI (Sq (So Pg (XV 11 [11] (.ops Pe))) (Sq (.fla [0,0,1,7] [114,115] Pd [[0,2,1,3],[1,0,2,3]] [14,15]) (Sq (So po (Bk 0 (.loop vv))) (So Ek .ret)))))
def xjj:FnC:=⟨xt8,45,[.tmp 4],[],[]⟩
def O7:Lb:=[WC 1 0,XC 2]
def Cb:Lb:=[Xs 3]
def O6:Lb:=[om 7 5,Wf 8 3 1,Wc 9 8,Wj 10 9,Wh 11 .lss 7 10]
def O5:Lb:=[Wf 14 3 1,Wc 15 14,om 16 5,WH 17 1 15 16,Wc 18 17,Wa 6 18]
def O4:Lb:=[om 19 6,oo 20 (.bin .eql (.t 19) (.c (.u8 10))) [19]]
def O3:Lb:=[om 21 4,Wj 22 21,Wb 23 .eql 22 0,Wa 24 23,.grp 24 false [(xi 25 24 false (Mv 3)),(xi 26 24 false (Ln 25)),(xi 27 24 false (Bc .geq 26 4))] [25,26],Wi 28 24 27]
def xk:Lb:=[Xs 2]
def O0:Lb:=[Wa 29 3,Wa 30 4,WM 31 1 30,Xx 32 24 29 31,Wa 3 32]
def Ej:Lb:=[om 33 6,oo 34 (.bin .lss (.t 33) (.c (.u8 32))) [33],Wa 35 34,.grp 35 false [(xi 36 35 false (Mv 6)),(xi 37 35 false (.bin .gtr (.t 36) (.c (.u8 126))))] [36],Wi 38 35 37]
def Ei:Lb:=[Wa 39 4,Wa 40 6,WY 41 40,WB 42 1 39 41,Wa 4 42]
def Eh:Lb:=[Wa 12 5,Wb 13 .add 12 1,Wa 5 13]
def wv:RC:=(.post (Sq (So O6 (XU 11 [1,5,11] (.exit 0))) (Sq (Bk 1 (So O5 (Sq (So O4 (XV 20 [6,20] (Sq (So O3 (XV 28 [1,3,4,5,28] (So xk .ret))) (So O0 (So iW (.exit 1)))))) (Sq (So Ej (XV 38 [1,3,4,5,6,38] (So xk .ret))) (.ops Ei))))) (.ops Eh))) [.tok 3 103,.tok 4 104])
def vu:RC:=wv
def Eg:Lb:=[Wa 43 4,Wj 44 43,Wb 45 .gtr 44 0]
def Ef:Lb:=[Wa 46 3,Wa 2 46]
def xt7:RC:=(So O7 (So Cb (So iW (Sq (So pq (Bk 0 (.pre [.tok 3 103,.tok 4 104] (.loop vu)))) (Sq (So Eg (XV 45 [3,45] (So xk .ret))) (So Ef .ret))))))
def xji:FnC:=⟨xt7,47,[.tmp 2],[],[]⟩
def OZ:Lb:=[om 3 0,Wb 4 .geq 3 0,Wa 5 4,.grp 5 true [(xi 6 5 true (Mv 0)),(xi 7 5 true (Bc .leq 6 255))] [0,6],Wy 8 5 7,Wa 2 8]
def xt6:RC:=(So p7 (So OZ .ret))
def xjh:FnC:=⟨xt6,9,[.tmp 2],[],[]⟩
def OY:Lb:=[Wa 9 0,WM 10 1 9,W6 11 60 4 10,Xb 12 1 11 16,on 13 (Ln 12),Wn 14 0]
def OX:Lb:=[on 16 (Ia 1 12 14),Wc 17 16,Wa 6 17]
def OW:Lb:=[om 18 6,oo 19 (.bin .shr (.t 18) (.c (.int .u64 4))) [18],Xh 20 19,Wa 21 6,oo 22 (.bin .and (.t 21) (.c (.u8 15))) [21],Xh 23 22,oo 24 (.build [.int .i64 0,.int .i64 0] [(0,1,(.t 20)),(1,1,(.t 23))]) [20,23],Wn 25 0]
def OV:Lb:=[on 26 (Bc .lss 25 2)]
def OU:Lb:=[on 27 (.idxA 2 1 false (.t 24) (.t 25)),Wa 8 27]
def OT:Lb:=[Wa 28 3,om 29 8,WM 30 1 29,XT 31 8 28 30,Wa 3 31]
def Ee:Lb:=[Wa 32 4,Wa 33 8,WS 34 .sub 15 33,Wh 35 .add 32 34,Wa 4 35]
def Ed:Lb:=[Wb 36 .add 25 1,Wa 25 36]
def wu:RC:=(.post (So OV (Sq (XU 26 [24,25,26] (.exit 2)) (Sq (Bk 3 (So OU (So OT (.ops Ee)))) (.ops Ed)))) [.tok 3 103])
def Ec:RC:=wu
def Eb:Lb:=[Wb 37 .add 14 1,Wa 14 37]
def wt:RC:=(.post (So CF (Sq (XU 15 [12,13,14,15] (.exit 0)) (Sq (Bk 1 (So OX (So OW (Bk 2 (.pre [.tok 3 103] (.loop Ec)))))) (.ops Eb)))) [.tok 3 103])
def vt:RC:=wt
def Ea:Lb:=[Wa 38 3,om 39 4,Xl 40 .shr 39,om 41 4,oo 42 (.bin .shr (.t 41) (.c (.int .u64 4))) [41],Wb 43 .and 42 15,Wa 44 4,Wb 45 .and 44 15,XM 46 1 40 43 45,XT 47 8 38 46,Wa 2 47]
def xt5:RC:=(So Cd (So Cb (So iX (Sq (So OY (Bk 0 (.pre [.tok 3 103] (.loop vt)))) (So Ea .ret)))))
def xjg:FnC:=⟨xt5,48,[.tmp 2],[],[]⟩
def OS:Lb:=[W9 3]
def OR:Lb:=[Wc 4 1,om 5 0,Wb 6 .mul 5 16,Wa 7 0,Wb 8 .add 7 1,Wb 9 .mul 8 16,XE 10 1 4 6 9,Wa 3 10]
def xt4:RC:=(So OS (So OR .ret))
def xjf:FnC:=⟨xt4,11,[.tmp 3],[],[]⟩
def OQ:Lb:=[Wa 5 0,Wx 6 5,WY 7 6,Wa 8 1,oo 9 (.lit 1 [.t 7,.t 8]) [7,8],W6 10 60 2 9,XK 11 1 10 16 16,Wa 4 11]
def xt3:RC:=(So iI (So OQ .ret))
def xje:FnC:=⟨xt3,12,[.tmp 4],[],[]⟩
def OP:Lb:=[on 14 (Bc .lss 13 35)]
def OO:Lb:=[om 15 13,Wa 10 15]
def ON:Lb:=[om 16 1,om 17 10,XL 18 16 17,Wa 11 18]
def OM:Lb:=[om 19 2,om 20 10,XL 21 19 20,Wa 12 21]
def OL:Lb:=[om 22 12,om 23 3,om 24 10,XL 25 23 24,Wh 26 .lss 22 25]
def OJ:Lb:=[om 29 0,om 30 10,om 31 12,Wa 32 11,Xv 33 196 29 30 31 32,Wa 11 33]
def OI:Lb:=[Wa 27 12,Wb 28 .add 27 1,Wa 12 28]
def wq:RC:=(Sq (So OL (XU 26 [10,12,26] (.exit 2))) (Sq (Bk 3 (.ops OJ)) (.ops OI)))
def vr:RC:=wq
def D9:Lb:=[Wa 34 9,Wa 35 11,WB 36 1 34 35,Wa 9 36]
def D8:Lb:=[Wb 37 .add 13 1,Wa 13 37]
def wk:RC:=(.post (So OP (Sq (XU 14 [0,1,2,3,13,14] (.exit 0)) (Sq (Bk 1 (So OO (So ON (Sq (So OM (Bk 2 (.loop vr))) (.ops D9))))) (.ops D8)))) [.tok 9 109])
def qc:RC:=wk
def D7:Lb:=[Wa 38 9,Wa 8 38]
def xt2:RC:=(So nl (So xl (Sq (So xnZ (Bk 0 (.pre [.tok 9 109] (.loop qc)))) (So D7 .ret))))
def xjd:FnC:=⟨xt2,39,[.tmp 8],[],[]⟩
def OH:Lb:=[WX 3 0]
def OG:Lb:=[Wc 4 1,Wa 5 0,WH 6 1 4 5,Wc 7 6,Wa 3 7]
def xt1:RC:=(So OH (So OG .ret))
def xjc:FnC:=⟨xt1,8,[.tmp 3],[],[]⟩
def OF:Lb:=[Wn 2 15]
def xt0:RC:=(Kk [0] (So p6 (So OF .ret)))
def xjb:FnC:=⟨xt0,3,[.tmp 2],[],[]⟩
def OE:Lb:=[Wa 9 0,Wx 10 9,Wa 11 1,Wx 12 11,oo 13 (.litB [.t 10,.t 12]) [10,12],Wa 14 2,Wa 15 3,XM 16 1 13 14 15,W6 17 60 3 16,XK 18 1 17 16 16,Wa 8 18]
def xtZ:RC:=(So nl (So OE .ret))
def xja:FnC:=⟨xtZ,19,[.tmp 8],[],[]⟩
def OD:Lb:=[W9 6,WU 7 false]
def OC:Lb:=[om 11 0,Wb 12 .lss 11 0,Wa 13 12,.grp 13 false [(xi 14 13 false (Mv 0)),(xi 15 13 false (Bc .gtr 14 255))] [14],Wi 16 13 15,Wa 17 16,.grp 17 false [(xi 18 17 false (Mv 2)),(xi 19 17 false (Ln 18)),(xi 20 17 false (Bc .neq 19 560))] [18,19],Wi 21 17 20]
def OB:Lb:=[Wa 22 1,Wm 23 166 22,Wa 8 23]
def OA:Lb:=[Wn 10 0]
def Oz:Lb:=[om 24 10,Wb 25 .lss 24 35]
def Oy:Lc:=[Fm 0 28 9,Fm 1 29 0,Fm 2 30 10,Fm 3 31 8,Fm 4 32 10,Ws 5 33 1 31 32,We 6 34 33,Fm 7 35 2,Fm 8 36 10,WR 9 37 .mul 16 36,Fm 10 38 10,WR 11 39 .mul 16 38,WE 12 40 .add 39 16,Fs 13 41 (.slcL 1 (.t 35) (some (.t 37)) (some (.t 40)) none),Fz 14 42 (Ca 149 [.t 29,.t 30,.t 34,ci 15,.t 41]),Xa 15 43 1 28 42,⟨16,false,(xm 9 43)⟩]
def Ox:Lb:=[Wa 26 10,Wb 27 .add 26 1,Wa 10 27]
def Dg:RC:=(.post (Sq (So Oz (XU 25 [2,8,10,25] (.exit 0))) (Sq (Bk 1 (.flt [0,0,0,0,0,24,56,0,0,256,0,1024,3072,8064,16382,32767,65535] [143] Oy [28,29,30,31,32,33,34,35,36,37,38,39,40,41,42,43])) (.ops Ox))) [.tok 9 109])
def xj:RC:=Dg
def D6:Lb:=[Wa 44 0,Wa 45 9,Ww 46 151 44 45,Wa 6 46,WP 7 true]
def xtY:RC:=(So OD (Sq (So OC (XV 21 [0,1,2,21] (So Ch .ret))) (So OB (So xl (Sq (So OA (Bk 0 (.pre [.tok 9 109] (.loop xj)))) (So D6 .ret))))))
def xi9:FnC:=⟨xtY,47,[.tmp 6,.tmp 7],[],[]⟩
def Ow:Lb:=[om 9 2,Wj 10 9,Wb 11 .gtr 10 3,Wa 12 11,.grp 12 false [(xi 13 12 false (Mv 1)),(xi 14 12 false (Bc .lss 13 0))] [13],Wi 15 12 14,Wa 16 15,.grp 16 false [(xi 17 16 false (Mv 1)),(xi 18 16 false (Mv 2)),(xi 19 16 false (Ln 18)),(xi 20 16 false (.toInt .u64 (.t 19))),(xi 21 16 false (.bin .shl (ci 1) (.t 20))),(xi 22 16 false (Bb .geq 17 21))] [17,18,19,20,21],Wi 23 16 22]
def Ov:Lb:=[Wa 24 0,Wm 25 112 24,Wa 7 25]
def Ou:Lb:=[om 26 8,om 27 2,Wj 28 27,Wh 29 .lss 26 28]
def Ot:Lb:=[om 32 1,Wb 33 .rem 32 2,Wb 34 .eql 33 0]
def Oq:Lb:=[om 35 8,om 36 1,Wb 37 .quo 36 2,Wa 38 7,om 39 2,om 40 8,WH 41 1 39 40,Wc 42 41,Xv 43 147 35 37 38 42,Wa 7 43]
def Oo:Lb:=[om 44 8,om 45 1,Wb 46 .quo 45 2,om 47 2,om 48 8,WH 49 1 47 48,Wc 50 49,Wa 51 7,Xv 52 147 44 46 50 51,Wa 7 52]
def On:Lb:=[Wa 53 1,Wb 54 .quo 53 2,Wa 1 54]
def wj:RC:=(Sq (So Ou (XU 29 [1,2,8,29] (.exit 0))) (Sq (Bk 1 (Sq (So Ot (Kc 34 (Kk [34] (.ops Oq)) (Kk [34] (.ops Oo)))) (.ops On))) (.ops BS)))
def vq:RC:=wj
def D5:Lb:=[Wa 55 7,Wa 6 55]
def xtX:RC:=(So tv (Sq (So Ow (XV 23 [0,1,2,23] (So xq .ret))) (So Ov (Sq (So pn (Bk 0 (.loop vq))) (So D5 .ret)))))
def xi8:FnC:=⟨xtX,56,[.tmp 6],[],[]⟩
def Om:Lb:=[Wa 9 0,Wx 10 9,Wa 11 1,Wx 12 11,Wa 13 2,Wx 14 13,oo 15 (.litB [.t 10,.t 12,.t 14]) [10,12,14],Wa 16 3,oo 17 (.lit 1 [.t 15,.t 16]) [15,16],W6 18 60 1 17,XK 19 1 18 16 16,Wa 8 19]
def xtW:RC:=(So nl (So Om .ret))
def xi7:FnC:=⟨xtW,20,[.tmp 8],[],[]⟩
theorem Fk{g:Nat}{F:FnC}{fn:Func}(h1:prog.funcs[g]? =some fn)(h3:fn.ntmps=F.n:=by kernel_rfl)(h2:fn.body.map (cO prog)=some F.code.er:=by kernel_rfl)(h4:(sE prog fn.results.toList F.rs&&ez prog g&&F.code.ok F.n)=true:=by kernel_rfl):bQ prog g F:=by simp only[aC]at h4;exact Z6 h1 h2 h3 h4.1.1 h4.1.2 h4.2
noncomputable def xtp:Nat->Option FnB
 |3=>some (.code F3)
 |6=>some (.code F6)
 |8=>some (.code F8)
 |9=>some (.code F9)
 |10=>some (.code F10)
 |11=>some (.code F11)
 |12=>some (.code F12)
 |13=>some (.code F13)
 |14=>some (.code F14)
 |15=>some (.code F15)
 |16=>some (.code F16)
 |17=>some (.code F17)
 |19=>some (.code F19)
 |20=>some (.code F20)
 |21=>some (.code F21)
 |23=>some (.code F23)
 |24=>some (.code F24)
 |25=>some (.code F25)
 |26=>some (.code F26)
 |27=>some (.code F27)
 |28=>some (.code F28)
 |29=>some (.code F29)
 |31=>some (.code F31)
 |32=>some (.code F32)
 |33=>some (.code F33)
 |34=>some (.code F34)
 |35=>some (.code F35)
 |36=>some (.code F36)
 |37=>some (.code F37)
 |38=>some (.code F38)
 |39=>some (.code F39)
 |40=>some (.code F40)
 |41=>some (.code F41)
 |42=>some (.code F42)
 |43=>some (.code F43)
 |44=>some (.code F44)
 |45=>some (.code F45)
 |46=>some (.code F46)
 |47=>some (.code F47)
 |48=>some (.code F48)
 |49=>some (.code F49)
 |50=>some (.code F50)
 |51=>some (.code F51)
 |52=>some (.code F52)
 |53=>some (.code F53)
 |54=>some (.code F54)
 |55=>some (.code F55)
 |56=>some (.code F56)
 |57=>some (.code F57)
 |58=>some (.code F58)
 |59=>some (.code F59)
 |60=>some (.code F60)
 |61=>some (.code F61)
 |62=>some (.code F62)
 |63=>some (.code F63)
 |64=>some (.code F64)
 |65=>some (.code F65)
 |66=>some (.code F66)
 |67=>some (.code F67)
 |68=>some (.code F68)
 |69=>some (.code F69)
 |70=>some (.code F70)
 |71=>some (.code F71)
 |72=>some (.code F72)
 |74=>some (.code F74)
 |75=>some (.code F75)
 |76=>some (.code F76)
 |77=>some (.code F77)
 |78=>some (.code F78)
 |79=>some (.code F79)
 |80=>some (.code F80)
 |81=>some (.code F81)
 |82=>some (.code F82)
 |84=>some (.code F84)
 |85=>some (.code F85)
 |88=>some (.code F88)
 |89=>some (.code F89)
 |92=>some (.code F92)
 |93=>some (.code F93)
 |94=>some (.code F94)
 |95=>some (.code F95)
 |96=>some (.code F96)
 |97=>some (.code F97)
 |98=>some (.code F98)
 |99=>some (.code F99)
 |100=>some (.code xke)
 |101=>some (.code xkd)
 |102=>some (.code xkc)
 |103=>some (.code xkb)
 |104=>some (.code xka)
 |105=>some (.code xj9)
 |106=>some (.code xj8)
 |107=>some (.code xj7)
 |108=>some (.code xj6)
 |109=>some (.code xj5)
 |110=>some (.code xj4)
 |111=>some (.code xj3)
 |112=>some (.code xj2)
 |113=>some (.code xj1)
 |114=>some (.code xj0)
 |115=>some (.code xjZ)
 |116=>some (.code xjY)
 |117=>some (.code xjX)
 |118=>some (.code xjW)
 |119=>some (.code xjV)
 |120=>some (.code xjU)
 |121=>some (.code xjT)
 |122=>some (.code xjS)
 |124=>some (.code xjR)
 |125=>some (.code xjQ)
 |126=>some (.code xjP)
 |127=>some (.code xjO)
 |128=>some (.code xjN)
 |129=>some (.code xjM)
 |133=>some (.code xjL)
 |134=>some (.code xjK)
 |137=>some (.code xjJ)
 |138=>some (.code xjI)
 |139=>some (.code xjH)
 |140=>some (.code xjG)
 |141=>some (.code xjF)
 |143=>some (.code xjE)
 |144=>some (.code xjD)
 |145=>some (.code xjC)
 |146=>some (.code xjB)
 |147=>some (.code xjA)
 |148=>some (.code xjz)
 |149=>some (.code xjy)
 |150=>some (.code xjx)
 |151=>some (.code xjw)
 |152=>some (.code xjv)
 |153=>some (.code xju)
 |154=>some (.code xjt)
 |155=>some (.code xjs)
 |158=>some (.code xjr)
 |159=>some (.code xjq)
 |161=>some (.code xjp)
 |163=>some (.code xjo)
 |164=>some (.code xjn)
 |165=>some (.code xjm)
 |166=>some (.code xjl)
 |167=>some (.code xjk)
 |168=>some (.code xjj)
 |169=>some (.code xji)
 |170=>some (.code xjh)
 |171=>some (.code xjg)
 |172=>some (.code xjf)
 |173=>some (.code xje)
 |174=>some (.code xjd)
 |175=>some (.code xjc)
 |176=>some (.code xjb)
 |177=>some (.code xja)
 |194=>some (.code xi9)
 |195=>some (.code xi8)
 |196=>some (.code xi7)
 |83=>some (.prim Pr.p83)
 |189=>some (.prim Pr.p189)
 |191=>some (.prim Pr.p191)
 |202=>some (.prim Pr.p202)
 |86=>some (.prim Pr.p86)
 |87=>some (.prim Pr.p87)
 |90=>some (.prim Pr.p90)
 |91=>some (.prim Pr.p91)
 |_=>none
def xv0:Nat->Sig
 |81=>⟨[],[0]⟩
 |88=>⟨[],[0]⟩
 |86=>⟨[0],[0]⟩
 |90=>⟨[0],[0]⟩
 |_=> {}
noncomputable def T:iL:=⟨xtp,xv0⟩
abbrev tf(k:Nat)(F:FnC):Prop:=T.fn k=some (.code F)
theorem T_3:tf 3 F3:=rfl
theorem T_6:tf 6 F6:=rfl
theorem T_8:tf 8 F8:=rfl
theorem T_9:tf 9 F9:=rfl
theorem xol:tf 10 F10:=rfl
theorem xvF:tf 11 F11:=rfl
theorem xvE:tf 12 F12:=rfl
theorem xzl:tf 13 F13:=rfl
theorem xzk:tf 14 F14:=rfl
theorem xzj:tf 15 F15:=rfl
theorem xzi:tf 16 F16:=rfl
theorem xzh:tf 17 F17:=rfl
theorem xzg:tf 19 F19:=rfl
theorem I7:tf 20 F20:=rfl
theorem xzf:tf 21 F21:=rfl
theorem xze:tf 23 F23:=rfl
theorem xzd:tf 24 F24:=rfl
theorem xzc:tf 25 F25:=rfl
theorem xzb:tf 26 F26:=rfl
theorem xza:tf 27 F27:=rfl
theorem xy9:tf 28 F28:=rfl
theorem xy8:tf 29 F29:=rfl
theorem xy7:tf 31 F31:=rfl
theorem xy6:tf 32 F32:=rfl
theorem xy5:tf 33 F33:=rfl
theorem xvD:tf 34 F34:=rfl
theorem xy4:tf 35 F35:=rfl
theorem xy3:tf 36 F36:=rfl
theorem xy2:tf 37 F37:=rfl
theorem xy1:tf 38 F38:=rfl
theorem xy0:tf 39 F39:=rfl
theorem xyZ:tf 40 F40:=rfl
theorem xvC:tf 41 F41:=rfl
theorem xyY:tf 42 F42:=rfl
theorem xyX:tf 43 F43:=rfl
theorem xij:tf 44 F44:=rfl
theorem xvB:tf 45 F45:=rfl
theorem xyW:tf 46 F46:=rfl
theorem xyV:tf 47 F47:=rfl
theorem xii:tf 48 F48:=rfl
theorem xvA:tf 49 F49:=rfl
theorem xih:tf 50 F50:=rfl
theorem Uu:tf 51 F51:=rfl
theorem xyU:tf 52 F52:=rfl
theorem xvz:tf 53 F53:=rfl
theorem xvy:tf 54 F54:=rfl
theorem xyT:tf 55 F55:=rfl
theorem xyS:tf 56 F56:=rfl
theorem xyR:tf 57 F57:=rfl
theorem xyQ:tf 58 F58:=rfl
theorem xvx:tf 59 F59:=rfl
theorem xvw:tf 60 F60:=rfl
theorem xyP:tf 61 F61:=rfl
theorem xyO:tf 62 F62:=rfl
theorem xyN:tf 63 F63:=rfl
theorem xyM:tf 64 F64:=rfl
theorem xvv:tf 65 F65:=rfl
theorem xyL:tf 66 F66:=rfl
theorem xvu:tf 67 F67:=rfl
theorem xyK:tf 68 F68:=rfl
theorem xyJ:tf 69 F69:=rfl
theorem xig:tf 70 F70:=rfl
theorem xyI:tf 71 F71:=rfl
theorem xyH:tf 72 F72:=rfl
theorem xyG:tf 74 F74:=rfl
theorem xyF:tf 75 F75:=rfl
theorem xyE:tf 76 F76:=rfl
theorem xyD:tf 77 F77:=rfl
theorem xyC:tf 78 F78:=rfl
theorem xyB:tf 79 F79:=rfl
theorem xyA:tf 80 F80:=rfl
theorem xyz:tf 81 F81:=rfl
theorem xyy:tf 82 F82:=rfl
theorem xyw:tf 84 F84:=rfl
theorem xyv:tf 85 F85:=rfl
theorem xyt:tf 88 F88:=rfl
theorem xys:tf 89 F89:=rfl
theorem xyq:tf 92 F92:=rfl
theorem xyp:tf 93 F93:=rfl
theorem xyo:tf 94 F94:=rfl
theorem xyn:tf 95 F95:=rfl
theorem xym:tf 96 F96:=rfl
theorem xyl:tf 97 F97:=rfl
theorem xyk:tf 98 F98:=rfl
theorem xyj:tf 99 F99:=rfl
theorem xs0:tf 100 xke:=rfl
theorem xsZ:tf 101 xkd:=rfl
theorem xsY:tf 102 xkc:=rfl
theorem xsX:tf 103 xkb:=rfl
theorem xio:tf 104 xka:=rfl
theorem IL:tf 105 xj9:=rfl
theorem xsW:tf 106 xj8:=rfl
theorem xsV:tf 107 xj7:=rfl
theorem xsU:tf 108 xj6:=rfl
theorem xin:tf 109 xj5:=rfl
theorem xim:tf 110 xj4:=rfl
theorem xsT:tf 111 xj3:=rfl
theorem xsS:tf 112 xj2:=rfl
theorem xsR:tf 113 xj1:=rfl
theorem xsQ:tf 114 xj0:=rfl
theorem xsP:tf 115 xjZ:=rfl
theorem xsO:tf 116 xjY:=rfl
theorem xsN:tf 117 xjX:=rfl
theorem xsM:tf 118 xjW:=rfl
theorem xsL:tf 119 xjV:=rfl
theorem xsK:tf 120 xjU:=rfl
theorem xsJ:tf 121 xjT:=rfl
theorem Bq:tf 122 xjS:=rfl
theorem xsI:tf 124 xjR:=rfl
theorem xsH:tf 125 xjQ:=rfl
theorem xsG:tf 126 xjP:=rfl
theorem xsF:tf 127 xjO:=rfl
theorem xsE:tf 128 xjN:=rfl
theorem xsD:tf 129 xjM:=rfl
theorem xil:tf 133 xjL:=rfl
theorem xsC:tf 134 xjK:=rfl
theorem xsB:tf 137 xjJ:=rfl
theorem xsA:tf 138 xjI:=rfl
theorem xsz:tf 139 xjH:=rfl
theorem xsy:tf 140 xjG:=rfl
theorem xsx:tf 141 xjF:=rfl
theorem xsw:tf 143 xjE:=rfl
theorem xsv:tf 144 xjD:=rfl
theorem xsu:tf 145 xjC:=rfl
theorem V9:tf 146 xjB:=rfl
theorem xst:tf 147 xjA:=rfl
theorem xss:tf 148 xjz:=rfl
theorem xsr:tf 149 xjy:=rfl
theorem xsq:tf 150 xjx:=rfl
theorem xsp:tf 151 xjw:=rfl
theorem xso:tf 152 xjv:=rfl
theorem xik:tf 153 xju:=rfl
theorem xsn:tf 154 xjt:=rfl
theorem xsm:tf 155 xjs:=rfl
theorem xsl:tf 158 xjr:=rfl
theorem xsk:tf 159 xjq:=rfl
theorem xsj:tf 161 xjp:=rfl
theorem Bp:tf 163 xjo:=rfl
theorem xsi:tf 164 xjn:=rfl
theorem xsh:tf 165 xjm:=rfl
theorem xsg:tf 166 xjl:=rfl
theorem xsf:tf 167 xjk:=rfl
theorem xse:tf 168 xjj:=rfl
theorem xsd:tf 169 xji:=rfl
theorem xsc:tf 170 xjh:=rfl
theorem xsb:tf 171 xjg:=rfl
theorem xsa:tf 172 xjf:=rfl
theorem xr9:tf 173 xje:=rfl
theorem xr8:tf 174 xjd:=rfl
theorem xr7:tf 175 xjc:=rfl
theorem xr6:tf 176 xjb:=rfl
theorem xr5:tf 177 xja:=rfl
theorem xr2:tf 194 xi9:=rfl
theorem xr1:tf 195 xi8:=rfl
theorem xr0:tf 196 xi7:=rfl
theorem xyx:T.fn 83=some (.prim Pr.p83):=rfl
theorem xr4:T.fn 189=some (.prim Pr.p189):=rfl
theorem xr3:T.fn 191=some (.prim Pr.p191):=rfl
theorem xzu:T.fn 202=some (.prim Pr.p202):=rfl
theorem xvt:T.fn 86=some (.prim Pr.p86):=rfl
theorem xyu:T.fn 87=some (.prim Pr.p87):=rfl
theorem xvs:T.fn 90=some (.prim Pr.p90):=rfl
theorem xyr:T.fn 91=some (.prim Pr.p91):=rfl
abbrev sf(k:Nat):Prop:=T.sg k= {}
theorem xon:sf 83:=rfl
theorem xiD:sf 189:=rfl
theorem xs2:sf 191:=rfl
theorem xzv:sf 202:=rfl
theorem xvJ:T.sg 86=⟨[0],[0]⟩:=rfl
theorem xvI:sf 87:=rfl
theorem xvH:T.sg 90=⟨[0],[0]⟩:=rfl
theorem xvG:sf 91:=rfl
theorem S_3:sf 3:=rfl
theorem S_6:sf 6:=rfl
theorem S_8:sf 8:=rfl
theorem S_9:sf 9:=rfl
theorem Gy:sf 10:=rfl
theorem xi2:sf 11:=rfl
theorem xi0:sf 12:=rfl
theorem xow:sf 13:=rfl
theorem xiT:sf 14:=rfl
theorem xiQ:sf 15:=rfl
theorem xvS:sf 16:=rfl
theorem jL:sf 17:=rfl
theorem xvR:sf 19:=rfl
theorem xvQ:sf 20:=rfl
theorem uU:sf 21:=rfl
theorem xiA:sf 23:=rfl
theorem uT:sf 24:=rfl
theorem tn:sf 25:=rfl
theorem Gx:sf 26:=rfl
theorem xov:sf 27:=rfl
theorem xa2:sf 28:=rfl
theorem xvP:sf 29:=rfl
theorem tj:sf 31:=rfl
theorem zY:sf 32:=rfl
theorem xa1:sf 33:=rfl
theorem xa0:sf 34:=rfl
theorem xou:sf 35:=rfl
theorem zX:sf 36:=rfl
theorem Uz:sf 37:=rfl
theorem uS:sf 38:=rfl
theorem Bt:sf 39:=rfl
theorem wQ:sf 40:=rfl
theorem xot:sf 41:=rfl
theorem Uy:sf 42:=rfl
theorem xzq:sf 43:=rfl
theorem xvO:sf 44:=rfl
theorem xvN:sf 45:=rfl
theorem xos:sf 46:=rfl
theorem Jf:sf 47:=rfl
theorem xzp:sf 48:=rfl
theorem xiz:sf 49:=rfl
theorem xzo:sf 50:=rfl
theorem Je:sf 51:=rfl
theorem tg:sf 52:=rfl
theorem xoq:sf 53:=rfl
theorem zW:sf 54:=rfl
theorem xop:sf 55:=rfl
theorem xoo:sf 56:=rfl
theorem xvM:sf 57:=rfl
theorem xvL:sf 58:=rfl
theorem Gw:sf 59:=rfl
theorem xaZ:sf 60:=rfl
theorem Ux:sf 61:=rfl
theorem xiy:sf 62:=rfl
theorem xaY:sf 63:=rfl
theorem Gv:sf 64:=rfl
theorem xaX:sf 65:=rfl
theorem xzn:sf 66:=rfl
theorem xix:sf 67:=rfl
theorem Gu:sf 68:=rfl
theorem Gt:sf 69:=rfl
theorem xiw:sf 70:=rfl
theorem xiv:sf 71:=rfl
theorem xvK:sf 72:=rfl
theorem Gs:sf 74:=rfl
theorem rq:sf 75:=rfl
theorem Jd:sf 76:=rfl
theorem Jc:sf 77:=rfl
theorem Bs:sf 78:=rfl
theorem Gr:sf 79:=rfl
theorem Jb:sf 80:=rfl
theorem xit:T.sg 81=⟨[],[0]⟩:=rfl
theorem xis:sf 82:=rfl
theorem xir:sf 84:=rfl
theorem Uw:sf 85:=rfl
theorem xiq:T.sg 88=⟨[],[0]⟩:=rfl
theorem xip:sf 89:=rfl
theorem Uv:sf 92:=rfl
theorem Ja:sf 93:=rfl
theorem rp:sf 94:=rfl
theorem Gq:sf 95:=rfl
theorem I9:sf 96:=rfl
theorem Gp:sf 97:=rfl
theorem Gn:sf 98:=rfl
theorem xzm:sf 99:=rfl
theorem X5:sf 100:=rfl
theorem ma:sf 101:=rfl
theorem nU:sf 102:=rfl
theorem xi5:sf 103:=rfl
theorem xi4:sf 104:=rfl
theorem xtk:sf 105:=rfl
theorem gI:sf 106:=rfl
theorem xO:sf 107:=rfl
theorem X4:sf 108:=rfl
theorem xi3:sf 109:=rfl
theorem IP:sf 110:=rfl
theorem X3:sf 111:=rfl
theorem IN:sf 112:=rfl
theorem Bx:sf 113:=rfl
theorem X2:sf 114:=rfl
theorem xtj:sf 115:=rfl
theorem xti:sf 116:=rfl
theorem xth:sf 117:=rfl
theorem xi1:sf 118:=rfl
theorem xtg:sf 119:=rfl
theorem Bw:sf 120:=rfl
theorem xiZ:sf 121:=rfl
theorem xzw:sf 122:=rfl
theorem Bv:sf 124:=rfl
theorem ry:sf 125:=rfl
theorem xiY:sf 126:=rfl
theorem jr:sf 127:=rfl
theorem xiX:sf 128:=rfl
theorem X1:sf 129:=rfl
theorem xiW:sf 133:=rfl
theorem xiV:sf 134:=rfl
theorem IM:sf 137:=rfl
theorem rx:sf 138:=rfl
theorem xiU:sf 139:=rfl
theorem xiS:sf 140:=rfl
theorem xtf:sf 141:=rfl
theorem xte:sf 143:=rfl
theorem xtd:sf 144:=rfl
theorem X0:sf 145:=rfl
theorem XZ:sf 146:=rfl
theorem XY:sf 147:=rfl
theorem xiR:sf 148:=rfl
theorem XX:sf 149:=rfl
theorem xiP:sf 150:=rfl
theorem xiO:sf 151:=rfl
theorem xiN:sf 152:=rfl
theorem Bu:sf 153:=rfl
theorem xiM:sf 154:=rfl
theorem xiL:sf 155:=rfl
theorem xiK:sf 158:=rfl
theorem xtc:sf 159:=rfl
theorem XW:sf 161:=rfl
theorem xiJ:sf 163:=rfl
theorem xtb:sf 164:=rfl
theorem xiI:sf 165:=rfl
theorem xiH:sf 166:=rfl
theorem xta:sf 167:=rfl
theorem xs9:sf 168:=rfl
theorem xiG:sf 169:=rfl
theorem xs8:sf 170:=rfl
theorem xs7:sf 171:=rfl
theorem xs6:sf 172:=rfl
theorem xs5:sf 173:=rfl
theorem xs4:sf 174:=rfl
theorem xs3:sf 175:=rfl
theorem xiF:sf 176:=rfl
theorem xiE:sf 177:=rfl
theorem xiC:sf 194:=rfl
theorem xiB:sf 195:=rfl
theorem xs1:sf 196:=rfl
theorem xpd(c:CSt):run T In c=run T IJ c:=rfl
theorem xo9(c:CSt):run T Il c=run T II c:=rfl
theorem xo8(c:CSt):run T Ik c=run T IH c:=rfl
theorem xo7(c:CSt):run T Ij c=run T IG c:=rfl
theorem xpv(c:CSt):run T xhG c=run T V7 c:=rfl
theorem xpu(c:CSt):run T Vx c=run T V6 c:=rfl
theorem xly(c:CSt):run T Cn c=run T Ds c:=rfl
theorem xls(c:CSt):run T kU c=run T Dm c:=rfl
theorem xlr(c:CSt):run T Cf c=run T Dl c:=rfl
theorem xlq(c:CSt):run T Ce c=run T Dj c:=rfl
theorem xlp(c:CSt):run T sP c=run T Di c:=rfl
theorem xpt(c:CSt):run T Vw c=run T V5 c:=rfl
theorem xps(c:CSt):run T Vu c=run T V4 c:=rfl
theorem xpr(c:CSt):run T Vt c=run T V3 c:=rfl
theorem xpq(c:CSt):run T Vp c=run T V2 c:=rfl
theorem xpp(c:CSt):run T AK c=run T V1 c:=rfl
theorem xpo(c:CSt):run T Vm c=run T V0 c:=rfl
theorem xpn(c:CSt):run T Vl c=run T VZ c:=rfl
theorem xpm(c:CSt):run T nE c=run T VY c:=rfl
theorem xlm(c:CSt):run T sO c=run T Df c:=rfl
theorem xll(c:CSt):run T sN c=run T De c:=rfl
theorem xlk(c:CSt):run T nj c=run T Dd c:=rfl
theorem xlj(c:CSt):run T ni c=run T Dc c:=rfl
theorem xli(c:CSt):run T B0 c=run T Db c:=rfl
theorem xlh(c:CSt):run T xg c=run T Da c:=rfl
theorem xlg(c:CSt):run T BX c=run T C9 c:=rfl
theorem xlf(c:CSt):run T BW c=run T C8 c:=rfl
theorem xpl(c:CSt):run T Vd c=run T VX c:=rfl
theorem xle(c:CSt):run T BV c=run T C7 c:=rfl
theorem xld(c:CSt):run T BU c=run T C6 c:=rfl
theorem xpk(c:CSt):run T xc c=run T VW c:=rfl
theorem xpj(c:CSt):run T U8 c=run T VV c:=rfl
theorem xpi(c:CSt):run T Iq c=run T VU c:=rfl
theorem xlc(c:CSt):run T xb c=run T C5 c:=rfl
theorem xph(c:CSt):run T U7 c=run T VT c:=rfl
theorem xlb(c:CSt):run T sI c=run T C4 c:=rfl
theorem xla(c:CSt):run T sH c=run T C3 c:=rfl
theorem xk9(c:CSt):run T nh c=run T C2 c:=rfl
theorem xk8(c:CSt):run T xa c=run T C1 c:=rfl
theorem xpg(c:CSt):run T U6 c=run T VS c:=rfl
theorem xpf(c:CSt):run T xdq c=run T VR c:=rfl
theorem xpe(c:CSt):run T xdk c=run T VQ c:=rfl
theorem xk7(c:CSt):run T BR c=run T C0 c:=rfl
theorem xk6(c:CSt):run T BQ c=run T CZ c:=rfl
theorem xk5(c:CSt):run T BO c=run T CY c:=rfl
theorem xk4(c:CSt):run T BN c=run T CX c:=rfl
theorem xk3(c:CSt):run T BM c=run T CW c:=rfl
theorem xk2(c:CSt):run T ng c=run T CV c:=rfl
theorem xpc(c:CSt):run T U4 c=run T VP c:=rfl
theorem xk1(c:CSt):run T BL c=run T CU c:=rfl
theorem xk0(c:CSt):run T nf c=run T CT c:=rfl
theorem xkZ(c:CSt):run T w9 c=run T CS c:=rfl
theorem xpb(c:CSt):run T UT c=run T VO c:=rfl
theorem xpa(c:CSt):run T UR c=run T VN c:=rfl
theorem xo6(c:CSt):run T UQ c=run T VM c:=rfl
theorem xkY(c:CSt):run T BK c=run T CR c:=rfl
theorem xkX(c:CSt):run T BJ c=run T CQ c:=rfl
theorem xo5(c:CSt):run T UP c=run T VL c:=rfl
theorem xlL(c:CSt):run T CG c=run T DF c:=rfl
theorem xlK(c:CSt):run T Tx c=run T DE c:=rfl
theorem Ze(c:CSt):run T vH c=run T wK c:=rfl
theorem xlJ(c:CSt):run T CE c=run T DD c:=rfl
theorem xlI(c:CSt):run T Th c=run T DC c:=rfl
theorem xlH(c:CSt):run T CB c=run T DB c:=rfl
theorem xlG(c:CSt):run T CA c=run T DA c:=rfl
theorem xlF(c:CSt):run T Cy c=run T Dz c:=rfl
theorem xlE(c:CSt):run T SN c=run T Dy c:=rfl
theorem xlD(c:CSt):run T xx c=run T Dx c:=rfl
theorem xlC(c:CSt):run T Cv c=run T Dw c:=rfl
theorem Zd(c:CSt):run T vG c=run T wJ c:=rfl
theorem xlB(c:CSt):run T Ct c=run T Dv c:=rfl
theorem Zc(c:CSt):run T vF c=run T wI c:=rfl
theorem Zb(c:CSt):run T vE c=run T wH c:=rfl
theorem xlA(c:CSt):run T RK c=run T Du c:=rfl
theorem xlz(c:CSt):run T Co c=run T Dt c:=rfl
theorem xlx(c:CSt):run T xu c=run T Dr c:=rfl
theorem xlw(c:CSt):run T Cm c=run T Dq c:=rfl
theorem Za(c:CSt):run T vC c=run T wG c:=rfl
theorem xlv(c:CSt):run T Cl c=run T Dp c:=rfl
theorem Y9(c:CSt):run T vB c=run T wE c:=rfl
theorem Y8(c:CSt):run T vz c=run T wD c:=rfl
theorem Y7(c:CSt):run T vy c=run T wC c:=rfl
theorem xlu(c:CSt):run T xo c=run T Do c:=rfl
theorem Y6(c:CSt):run T ED c=run T wB c:=rfl
theorem Y5(c:CSt):run T EC c=run T wA c:=rfl
theorem xlt(c:CSt):run T Cj c=run T Dn c:=rfl
theorem Y4(c:CSt):run T vx c=run T wz c:=rfl
theorem Y3(c:CSt):run T vw c=run T wy c:=rfl
theorem xlo(c:CSt):run T Cc c=run T Dh c:=rfl
theorem Y2(c:CSt):run T vv c=run T ww c:=rfl
theorem Y1(c:CSt):run T vu c=run T wv c:=rfl
theorem Y0(c:CSt):run T Ec c=run T wu c:=rfl
theorem YZ(c:CSt):run T vt c=run T wt c:=rfl
theorem YY(c:CSt):run T vr c=run T wq c:=rfl
theorem YX(c:CSt):run T qc c=run T wk c:=rfl
theorem xln(c:CSt):run T xj c=run T Dg c:=rfl
theorem YW(c:CSt):run T vq c=run T wj c:=rfl
theorem xwq:bQ prog 3 F3:=Fk func3
theorem xwp:bQ prog 6 F6:=Fk func6
theorem xwo:bQ prog 8 F8:=Fk func8
theorem xwn:bQ prog 9 F9:=Fk func9
theorem xqS:bQ prog 10 F10:=Fk func10
theorem xqR:bQ prog 11 F11:=Fk func11
theorem xqQ:bQ prog 12 F12:=Fk func12
theorem xqP:bQ prog 13 F13:=Fk func13
theorem xqO:bQ prog 14 F14:=Fk func14
theorem xqN:bQ prog 15 F15:=Fk func15
theorem xqM:bQ prog 16 F16:=Fk func16
theorem xqL:bQ prog 17 F17:=Fk func17
theorem xqK:bQ prog 19 F19:=Fk func19
theorem xqJ:bQ prog 20 F20:=Fk func20
theorem xqI:bQ prog 21 F21:=Fk func21
theorem xqH:bQ prog 23 F23:=Fk func23
theorem xqG:bQ prog 24 F24:=Fk func24
theorem xqF:bQ prog 25 F25:=Fk func25
theorem xqE:bQ prog 26 F26:=Fk func26
theorem xqD:bQ prog 27 F27:=Fk func27
theorem xqC:bQ prog 28 F28:=Fk func28
theorem xqB:bQ prog 29 F29:=Fk func29
theorem xqA:bQ prog 31 F31:=Fk func31
theorem xqz:bQ prog 32 F32:=Fk func32
theorem xqy:bQ prog 33 F33:=Fk func33
theorem xqx:bQ prog 34 F34:=Fk func34
theorem xqw:bQ prog 35 F35:=Fk func35
theorem xqv:bQ prog 36 F36:=Fk func36
theorem xqu:bQ prog 37 F37:=Fk func37
theorem xqt:bQ prog 38 F38:=Fk func38
theorem xqs:bQ prog 39 F39:=Fk func39
theorem xqr:bQ prog 40 F40:=Fk func40
theorem xqq:bQ prog 41 F41:=Fk func41
theorem xqp:bQ prog 42 F42:=Fk func42
theorem xqo:bQ prog 43 F43:=Fk func43
theorem xqn:bQ prog 44 F44:=Fk func44
theorem xqm:bQ prog 45 F45:=Fk func45
theorem xql:bQ prog 46 F46:=Fk func46
theorem xqk:bQ prog 47 F47:=Fk func47
theorem xqj:bQ prog 48 F48:=Fk func48
theorem xqi:bQ prog 49 F49:=Fk func49
theorem xqh:bQ prog 50 F50:=Fk func50
theorem xqg:bQ prog 51 F51:=Fk func51
theorem xqf:bQ prog 52 F52:=Fk func52
theorem xqe:bQ prog 53 F53:=Fk func53
theorem xqd:bQ prog 54 F54:=Fk func54
theorem xqc:bQ prog 55 F55:=Fk func55
theorem xqb:bQ prog 56 F56:=Fk func56
theorem xqa:bQ prog 57 F57:=Fk func57
theorem xp9:bQ prog 58 F58:=Fk func58
theorem xp8:bQ prog 59 F59:=Fk func59
theorem xp7:bQ prog 60 F60:=Fk func60
theorem xp6:bQ prog 61 F61:=Fk func61
theorem xp5:bQ prog 62 F62:=Fk func62
theorem xp4:bQ prog 63 F63:=Fk func63
theorem xp3:bQ prog 64 F64:=Fk func64
theorem xp2:bQ prog 65 F65:=Fk func65
theorem xp1:bQ prog 66 F66:=Fk func66
theorem xp0:bQ prog 67 F67:=Fk func67
theorem xpZ:bQ prog 68 F68:=Fk func68
theorem xpY:bQ prog 69 F69:=Fk func69
theorem xpX:bQ prog 70 F70:=Fk func70
theorem xpW:bQ prog 71 F71:=Fk func71
theorem xpV:bQ prog 72 F72:=Fk func72
theorem xpU:bQ prog 74 F74:=Fk func74
theorem xpT:bQ prog 75 F75:=Fk func75
theorem xpS:bQ prog 76 F76:=Fk func76
theorem xpR:bQ prog 77 F77:=Fk func77
theorem xpQ:bQ prog 78 F78:=Fk func78
theorem xpP:bQ prog 79 F79:=Fk func79
theorem xpO:bQ prog 80 F80:=Fk func80
theorem xpN:bQ prog 81 F81:=Fk func81
theorem xpM:bQ prog 82 F82:=Fk func82
theorem xpL:bQ prog 84 F84:=Fk func84
theorem xpK:bQ prog 85 F85:=Fk func85
theorem xpJ:bQ prog 88 F88:=Fk func88
theorem xpI:bQ prog 89 F89:=Fk func89
theorem xpH:bQ prog 92 F92:=Fk func92
theorem xpG:bQ prog 93 F93:=Fk func93
theorem xpF:bQ prog 94 F94:=Fk func94
theorem xpE:bQ prog 95 F95:=Fk func95
theorem xpD:bQ prog 96 F96:=Fk func96
theorem xpC:bQ prog 97 F97:=Fk func97
theorem xpB:bQ prog 98 F98:=Fk func98
theorem xpA:bQ prog 99 F99:=Fk func99
theorem xmZ:bQ prog 100 xke:=Fk func100
theorem xmY:bQ prog 101 xkd:=Fk func101
theorem xmX:bQ prog 102 xkc:=Fk func102
theorem xmW:bQ prog 103 xkb:=Fk func103
theorem xmV:bQ prog 104 xka:=Fk func104
theorem xmU:bQ prog 105 xj9:=Fk func105
theorem xmT:bQ prog 106 xj8:=Fk func106
theorem xmS:bQ prog 107 xj7:=Fk func107
theorem xmR:bQ prog 108 xj6:=Fk func108
theorem xmQ:bQ prog 109 xj5:=Fk func109
theorem xmP:bQ prog 110 xj4:=Fk func110
theorem xmO:bQ prog 111 xj3:=Fk func111
theorem xmN:bQ prog 112 xj2:=Fk func112
theorem xmM:bQ prog 113 xj1:=Fk func113
theorem xmL:bQ prog 114 xj0:=Fk func114
theorem xmK:bQ prog 115 xjZ:=Fk func115
theorem xmJ:bQ prog 116 xjY:=Fk func116
theorem xmI:bQ prog 117 xjX:=Fk func117
theorem xmH:bQ prog 118 xjW:=Fk func118
theorem xmG:bQ prog 119 xjV:=Fk func119
theorem xmF:bQ prog 120 xjU:=Fk func120
theorem xmE:bQ prog 121 xjT:=Fk func121
theorem xmD:bQ prog 122 xjS:=Fk func122
theorem xmC:bQ prog 124 xjR:=Fk func124
theorem xmB:bQ prog 125 xjQ:=Fk func125
theorem xmA:bQ prog 126 xjP:=Fk func126
theorem xmz:bQ prog 127 xjO:=Fk func127
theorem xmy:bQ prog 128 xjN:=Fk func128
theorem xmx:bQ prog 129 xjM:=Fk func129
theorem xmw:bQ prog 133 xjL:=Fk func133
theorem xmv:bQ prog 134 xjK:=Fk func134
theorem xmu:bQ prog 137 xjJ:=Fk func137
theorem xmt:bQ prog 138 xjI:=Fk func138
theorem xms:bQ prog 139 xjH:=Fk func139
theorem xmr:bQ prog 140 xjG:=Fk func140
theorem xmq:bQ prog 141 xjF:=Fk func141
theorem xmp:bQ prog 143 xjE:=Fk func143
theorem xmo:bQ prog 144 xjD:=Fk func144
theorem xmn:bQ prog 145 xjC:=Fk func145
theorem xmm:bQ prog 146 xjB:=Fk func146
theorem xml:bQ prog 147 xjA:=Fk func147
theorem xmk:bQ prog 148 xjz:=Fk func148
theorem xmj:bQ prog 149 xjy:=Fk func149
theorem xmi:bQ prog 150 xjx:=Fk func150
theorem xmh:bQ prog 151 xjw:=Fk func151
theorem xmg:bQ prog 152 xjv:=Fk func152
theorem xmf:bQ prog 153 xju:=Fk func153
theorem xme:bQ prog 154 xjt:=Fk func154
theorem xmd:bQ prog 155 xjs:=Fk func155
theorem xmc:bQ prog 158 xjr:=Fk func158
theorem xmb:bQ prog 159 xjq:=Fk func159
theorem xma:bQ prog 161 xjp:=Fk func161
theorem xl9:bQ prog 163 xjo:=Fk func163
theorem xl8:bQ prog 164 xjn:=Fk func164
theorem xl7:bQ prog 165 xjm:=Fk func165
theorem xl6:bQ prog 166 xjl:=Fk func166
theorem xl5:bQ prog 167 xjk:=Fk func167
theorem xl4:bQ prog 168 xjj:=Fk func168
theorem xl3:bQ prog 169 xji:=Fk func169
theorem xl2:bQ prog 170 xjh:=Fk func170
theorem xl1:bQ prog 171 xjg:=Fk func171
theorem xl0:bQ prog 172 xjf:=Fk func172
theorem xlZ:bQ prog 173 xje:=Fk func173
theorem xlY:bQ prog 174 xjd:=Fk func174
theorem xlX:bQ prog 175 xjc:=Fk func175
theorem xlW:bQ prog 176 xjb:=Fk func176
theorem xlV:bQ prog 177 xja:=Fk func177
theorem xlU:bQ prog 194 xi9:=Fk func194
theorem xlT:bQ prog 195 xi8:=Fk func195
theorem xlS:bQ prog 196 xi7:=Fk func196
set_option maxHeartbeats 4000000 in
theorem Ls:py prog T:=by
 intro g b h;simp only[T]at h;unfold xtp at h;split at h
 ·cases h;exact xwq
 ·cases h;exact xwp
 ·cases h;exact xwo
 ·cases h;exact xwn
 ·cases h;exact xqS
 ·cases h;exact xqR
 ·cases h;exact xqQ
 ·cases h;exact xqP
 ·cases h;exact xqO
 ·cases h;exact xqN
 ·cases h;exact xqM
 ·cases h;exact xqL
 ·cases h;exact xqK
 ·cases h;exact xqJ
 ·cases h;exact xqI
 ·cases h;exact xqH
 ·cases h;exact xqG
 ·cases h;exact xqF
 ·cases h;exact xqE
 ·cases h;exact xqD
 ·cases h;exact xqC
 ·cases h;exact xqB
 ·cases h;exact xqA
 ·cases h;exact xqz
 ·cases h;exact xqy
 ·cases h;exact xqx
 ·cases h;exact xqw
 ·cases h;exact xqv
 ·cases h;exact xqu
 ·cases h;exact xqt
 ·cases h;exact xqs
 ·cases h;exact xqr
 ·cases h;exact xqq
 ·cases h;exact xqp
 ·cases h;exact xqo
 ·cases h;exact xqn
 ·cases h;exact xqm
 ·cases h;exact xql
 ·cases h;exact xqk
 ·cases h;exact xqj
 ·cases h;exact xqi
 ·cases h;exact xqh
 ·cases h;exact xqg
 ·cases h;exact xqf
 ·cases h;exact xqe
 ·cases h;exact xqd
 ·cases h;exact xqc
 ·cases h;exact xqb
 ·cases h;exact xqa
 ·cases h;exact xp9
 ·cases h;exact xp8
 ·cases h;exact xp7
 ·cases h;exact xp6
 ·cases h;exact xp5
 ·cases h;exact xp4
 ·cases h;exact xp3
 ·cases h;exact xp2
 ·cases h;exact xp1
 ·cases h;exact xp0
 ·cases h;exact xpZ
 ·cases h;exact xpY
 ·cases h;exact xpX
 ·cases h;exact xpW
 ·cases h;exact xpV
 ·cases h;exact xpU
 ·cases h;exact xpT
 ·cases h;exact xpS
 ·cases h;exact xpR
 ·cases h;exact xpQ
 ·cases h;exact xpP
 ·cases h;exact xpO
 ·cases h;exact xpN
 ·cases h;exact xpM
 ·cases h;exact xpL
 ·cases h;exact xpK
 ·cases h;exact xpJ
 ·cases h;exact xpI
 ·cases h;exact xpH
 ·cases h;exact xpG
 ·cases h;exact xpF
 ·cases h;exact xpE
 ·cases h;exact xpD
 ·cases h;exact xpC
 ·cases h;exact xpB
 ·cases h;exact xpA
 ·cases h;exact xmZ
 ·cases h;exact xmY
 ·cases h;exact xmX
 ·cases h;exact xmW
 ·cases h;exact xmV
 ·cases h;exact xmU
 ·cases h;exact xmT
 ·cases h;exact xmS
 ·cases h;exact xmR
 ·cases h;exact xmQ
 ·cases h;exact xmP
 ·cases h;exact xmO
 ·cases h;exact xmN
 ·cases h;exact xmM
 ·cases h;exact xmL
 ·cases h;exact xmK
 ·cases h;exact xmJ
 ·cases h;exact xmI
 ·cases h;exact xmH
 ·cases h;exact xmG
 ·cases h;exact xmF
 ·cases h;exact xmE
 ·cases h;exact xmD
 ·cases h;exact xmC
 ·cases h;exact xmB
 ·cases h;exact xmA
 ·cases h;exact xmz
 ·cases h;exact xmy
 ·cases h;exact xmx
 ·cases h;exact xmw
 ·cases h;exact xmv
 ·cases h;exact xmu
 ·cases h;exact xmt
 ·cases h;exact xms
 ·cases h;exact xmr
 ·cases h;exact xmq
 ·cases h;exact xmp
 ·cases h;exact xmo
 ·cases h;exact xmn
 ·cases h;exact xmm
 ·cases h;exact xml
 ·cases h;exact xmk
 ·cases h;exact xmj
 ·cases h;exact xmi
 ·cases h;exact xmh
 ·cases h;exact xmg
 ·cases h;exact xmf
 ·cases h;exact xme
 ·cases h;exact xmd
 ·cases h;exact xmc
 ·cases h;exact xmb
 ·cases h;exact xma
 ·cases h;exact xl9
 ·cases h;exact xl8
 ·cases h;exact xl7
 ·cases h;exact xl6
 ·cases h;exact xl5
 ·cases h;exact xl4
 ·cases h;exact xl3
 ·cases h;exact xl2
 ·cases h;exact xl1
 ·cases h;exact xl0
 ·cases h;exact xlZ
 ·cases h;exact xlY
 ·cases h;exact xlX
 ·cases h;exact xlW
 ·cases h;exact xlV
 ·cases h;exact xlU
 ·cases h;exact xlT
 ·cases h;exact xlS
 ·cases h;exact Pr.p83_ok
 ·cases h;exact Pr.p189_ok
 ·cases h;exact Pr.p191_ok
 ·cases h;exact Pr.p202_ok
 ·cases h;exact Pr.p86_ok
 ·cases h;exact Pr.p87_ok
 ·cases h;exact Pr.p90_ok
 ·cases h;exact Pr.p91_ok
 ·cases h
attribute [go_sem] SV.kclip Tok.kc YR xrZ xrY xyi jt xz Yr Ir kG List.all_replicate FB FA Yt xkN Zh Zj Zi Ke Zk Zn ua Zm Zl ax.injEq xwl xoX xrs xm6 xm1 AV GV GX xne xkt Iz GZ av cZ cf az xaP xaQ xnW KY Ko Hv GN GO Tok.ids mf aY ae dJ Int.natCast_nonneg Int.ofNat_lt Int.ofNat_le Int.ofNat_inj JU YN JY YP YQ xoB X9 xoC xkr xkq xkm xoI xoJ xoG xvT X7 X6 xoA xoK xkn xki xkj xkk X8 xoE Jj Jk xkv xku xoF xoD xks xoH xko xkp xkl xwk xwj xwm xkU xoY xnu xxo xxp xxm xxn xxr Z1 xnv Z7 YM JZ Hg YO JW xns Hk Hl J3 J4 xnr ZH xx8 xya xx9 rQ Hx xqX Zz xqZ xnc xnb xm7 xq8 xq9 xq3 xwr Zv Zu xqV xra xm8 xm2 xm3 xm4 Zy xq1 Kg Kh xng xnf xq2 xq0 xnd xq6 xm9 xna xm5 Zx xqW xq7 xws xqY Zw xrb xq4 xnh xaU H9 mkE xn5 stC JB apS apB apL xaS cpC cp2 cpB cpL xkV xlN FC TX FD FE mn mp TU FG FH xkL Ym xrt xnj xno xnn ZP Kz Ky HD ZO HF KA ZQ HE A1 Ki Kj ZA xv4 xv2 xv3 Yx xkP xrQ xrV xrU xrT K9 xaI xwA xwy xwz ZG xnm J8 xpy xpw xpx J7 Zf KU HX HY xry xrx Z8 It xie xh9 wY xbj xif Lw Ig Ih xG xh0 qI rU ol IC IB xh8 lenC xib Iw Ix xM xhR Iy Is xB ff kq zJ jy jE xoj nX dN evL CSt.purge A4 BD UG UM oi I1 nK lz pF fm gC psC Tok.readyC aH.wf SV.bare SV.bareL lc ld vh kP eW cI eE ik iv gp eh pP fb tC tD nO tu kZ jN JK G1 YH JG JL JJ GY Av YI JH YK JM Ha Az G7 Ay JN G3 G8 G6 Aw Ax xX JO G4 JQ G9 G2 JP G5 JF YJ JI VI K5 xaF xaG xaa xac xad xab xaM JD Yy YE YD YC YB YA Yz xnD xnw xnB xnC xnA xnz xny xnx Zt Zs Zr ZW ZV ZS ZR ZU ZT xaK xnU fB CSt.publish mm mU pr SV.pub SV.pubL AO gcC s9 Ys tY lu gQ iJ tks pu IY tF ej VH Aa iT kX SV.num nb jA toB rows xH ix jX setCells Tok.eat SV.one SV.data SV.isData SV.cells SV.isDef SV.purge SV.purgeL aH.purge bP cJ Tok.purge SV.ren SV.renL aH.ren Tok.ren SV.ids SV.idsL SV.toks SV.toksL aH.ids aH.toks jk kK inR pZ fM id_eq al aA bi aE bx bT ft beq_self_eq_true List.getD_cons_zero jg List.getD_nil List.take_succ_cons List.take_zero List.take_nil aW List.drop_succ_cons List.drop_nil aI bJ cD List.flatten_nil List.contains_nil List.contains_cons List.isEmpty_nil List.isEmpty_cons List.all_cons List.all_nil List.set_cons_zero List.set_cons_succ aM Option.getD_none bB Option.map_none Option.toList_some Option.toList_none dl Option.isNone_none Option.isNone_some Option.isSome_none Option.isSome_some Bool.or_false Bool.true_or Bool.or_true jC Bool.and_self Bool.and_true Bool.true_and Bool.and_false Bool.false_and Bool.not_true Bool.not_false aO Bool.true_eq_false Bool.not_eq_true Bool.not_eq_false decide_eq_true_eq decide_eq_false_iff_not and_true true_and and_self or_false false_or or_true true_or not_true_eq_false not_false_eq_true ne_eq Int.toNat_natCast true_implies false_implies implies_true decide_true decide_false Nat.lt_irrefl Nat.not_lt_zero aJ aX eq_self and_false false_and TW mvC xu6 xhN xni xq5 clA cl2 clC
attribute [go_sem] Fm Fs Fz Fi Ld Fa Ln Ia Mv Bb Bc Ca Pf Pt So Kk Kc Fy Fr Sr Lt Mc Mb Bk Sq Zq0 Zq1 Zq2 Zq3 Zq4 xm xs xi ci om omk on oo xtV xn2 xn1 xtU xtT xtS xtR xtQ xtP xtO xfI F3 r3 xn0 D4 xtN xtM xtL xtK xnZ xtJ xtI xc3 xc2 IJ F6 xpd r6 xtH xtG xtF xtE xtD xtC xtB xtA xb9 xb8 xb7 xb6 xb5 xb4 xb3 xb2 xb1 xb0 xbZ xbY xbX xbW xbV xbU xbT xbS II IH IG F8 xo9 xo8 xo7 r8 xtz xty xtx xtw xtv xtu xtt xts xtr F9 r9 xhK xhJ jO xhI xhH VC xhF xhE V7 F10 xpv r10 VB xhD VA Vz Vy F11 r11 xhC F12 r12 AM xhB mI pq xhA xhz xhy Rq Rp Ro sQ V6 Ds F13 xpu xly r13 xhx xhw xhv xhu xht xhs xhr xhq xhp xho Qm Ql P9 P8 Dm F14 xls r14 xhn xhm xhl xhk xhj xhi xhh xhg xhf xhe Cg PF PE PD PC PB PA Pz Py Dl Dj Di F15 xlr xlq xlp r15 xhd xhc xhb xha F16 r16 qb xg9 iX xg8 xg7 F17 r17 AL xg6 xg5 xg4 xg3 xg2 xg1 xg0 xgZ xgY Ol F19 r19 xgX xgW xgV xgU xgT xgS xgR xgQ xgP Ok Oj Oi Oh Og Of Oe Od Oc Ob Oa N9 F20 r20 xgO xgN xgM xgL xgK F21 r21 xgJ xgI po xgH xgG xgF xgE xgD xgC V5 F23 xpt r23 xgB xgA F24 r24 Vv xgz xgy xgx xgw xgv xgu xgt V4 F25 xps r25 pn xgs xgr xgq xgp xgo xgn V3 F26 xpr r26 tz Vs Vr xgm Vq V2 F27 xpq r27 Vo Vn xgl xgk xgj xgi xgh xgg xgf V1 F28 xpp r28 xge xgd xgc xgb xga V0 F29 xpo r29 xf9 VZ F31 xpn r31 tx xf8 Vk p9 xf7 F32 r32 xf6 xf5 xf4 xf3 xf2 xf1 VY F33 xpm r33 xf0 xfZ xfY xfX xfW xfV xfU N8 N7 N6 N5 N4 N3 N2 N1 N0 NZ NY NX Df De F34 xlm xll r34 xfT xfS F35 r35 xfR xfQ F36 r36 iI xfP iW xfO F37 r37 kT xfN F38 r38 pm Vj pl xfM Vi xfL xfK gD xfJ AJ NW NV kS Dd F39 xlk r39 xh xfH xfG xfF xfE NU NT Dc F40 xlj r40 xfD F41 r41 p7 xfC F42 r42 xfB xfA xfz F43 r43 xfy xfx xfw xfv xfu xft xfs xfr xfq xfp NS NR NQ NP NO Db F44 xli r44 xfo xfn xfm xfl xfk xfj xfi xfh xfg NN BZ NM Da F45 xlh r45 AI xff xfe xfd xfc Vh xfb xfa xe9 xe8 NL NK BY F46 r46 Vg xe7 Vf xe6 xe5 xe4 xe3 xe2 xe1 xe0 NJ NI NH NG NF NE ND NC NB sM NA Nz Ny Nw Nv Nu Nt Ns sL Nr Nq C9 C8 F47 xlg xlf r47 xeZ xeY xeX xeW xeV Ve xeU xeT Np No VX F48 xpl r48 Vc xeS xeR xeQ xeP xeO Vb Va F49 r49 xeN xeM xeL xeK xeJ xeI xeH F50 r50 xeG xeF xeE xeD xeC xeB xeA xez Nn F51 r51 xey xex xew xev xeu xet xes xer Nm Nl Nk Nj Ni Nh Ng Nf sK xd Nd Nc Nb Na M9 M8 M7 M6 sJ M5 M4 C7 C6 F52 xle xld r52 U9 xeq xep xeo xen xem xel VW F53 xpk r53 xek xej xei xeh xeg xef F54 r54 xee xed xec VV F55 xpj r55 xeb xea xd9 xd8 xd7 M3 M2 M1 VU C5 F56 xpi xlc r56 xd6 xd5 xd4 F57 r57 xd3 xd2 Ip xd1 xd0 xdZ BT VT F58 xph r58 xdY xdX xdW xdV xdU xdT xdS xdR M0 MZ MY MX MW MV MU MT MS MR MQ MP C4 C3 F59 xlb xla r59 xdQ F60 r60 xdP xdO xdN F61 r61 xdM tw xdL xdK xdJ xdI MO MN MM ML MK MJ MI MH MG C2 C1 F62 xk9 xk8 r62 xdH xdG xdF F63 r63 tv xdE xdD xdC xdB xdA xdz xdy xdx VS F64 xpg r64 xdw F65 r65 xdv xdu xdt xds xdr xdp VR F66 xpf r66 Io AH xdo xdn xdm xdl xdj VQ F67 xpe r67 xdi xdh xdg xdf xde xdd xdc MF ME MD MC BS MB MA Mz My Mx Mw Mu Mt BP Ms Mr Mq Mp Mo C0 CZ CY CX F68 xk7 xk6 xk5 xk4 r68 xdb xda xc9 xc8 xc7 xc6 xc5 xc4 Mn Mm Ml Mj CW CV F69 xk3 xk2 r69 xc1 xc0 xcZ xcY xcX xcW xcV xcU xcT xcS Mi F70 r70 xcR xcQ F71 r71 U5 xcP xcO xcN xcM xcL VP F72 xpc r72 U3 xcK F74 r74 U2 xcJ xcI xcH xcG xcF Mh Mg Mf Me Md Ma L9 L8 L7 L6 CU F75 xk1 r75 xcE xcD xcC xcB xcA xcz L5 L4 L3 L2 L1 L0 F76 r76 p6 xcy F77 r77 xcx xcw xcv xcu xct xcs LZ LY F78 r78 xcr U1 U0 F79 r79 xcq xcp xco xcn xcm xcl LX LW LV LU LS LR LQ LP LO LN LM CT CS F80 xk0 xkZ r80 Im UZ UY UX UW xck UV UU xcj VO F81 xpb r81 xci xch F82 r82 xcg F84 r84 xcf xce F85 r85 xcd xcc xcb VN F88 xpa r88 xca F89 r89 xbR xbQ xbP xbO xbN xbM LL LK LJ LI VM CR F92 xo6 xkY r92 xbL F93 r93 xbK xbJ xbI xbH xbG xbF LH LG LF LD CQ F94 xkX r94 xbE xbD xbC xbB xbA xbz LC F95 r95 xby xbx xbw xbv xbu F96 r96 xbt F97 r97 xbs xbr xbq xbp xbo VL F98 xo5 r98 xbn F99 r99 TR TQ xke xu3 TP TO TN TL TK TJ TI TH DF xkd xlL xu2 TG TF xkc xu1 TE TD TC TB TA Tz Ty Tw Fu Ft Fq Fp Fo Fl Fj DE wK xkb xlK Ze xu0 Tv Tu CF Tt Ts Tq Tp To Fh DD xka xlJ xuZ nl Tn xy Tm Tl Tk Tj Ti Fg DC xj9 xlI xuY Tg CD Tf Te Td CC Ff DB xj8 xlH xuX Tc Tb Ta S9 S8 S7 S6 xj7 xuW S5 S4 S3 SZ Fe Fc Fb E9 DA xj6 xlG xuV SY SX SW SU SS Cz Cx Dz xj5 xlF xuU SR xj4 xuT SQ SP Cw SM Dy xj3 xlE xuS SL xj2 xuR SK xj1 xuQ SJ SH SG SF SE Dx xj0 xlD xuP SD SC xjZ xuO SB SA Sz Sx Sw Sv Su Ss E8 Dw wJ xjY xlC Zd xuN sR Cu xjX xuM Sp xjW xuL Sn Sm Sl Cs Dv xjV xlB xuK Sk Sj Sh Sg Sf xjU xuJ Se Sd xjT xuI Sc mi Sb Sa R9 R8 R7 E7 E6 E5 E4 E3 E2 E1 wI xjS Zc xuH R6 xjR xuG R5 R4 R3 R2 xjQ xuF Cr xjP xuE RZ xjO xuD RY xjN xuC RX RW RU RT RS RR RQ E0 EZ EY EX wH xjM Zb xuB RP Cq RO RN RM RL RJ Du xjL xlA xuA RH RG RF RE xw RD Cp RB EW xjK xuz RA Rz Ry Rx Rw Rv Dt xjJ xlz xuy Ru Rt Rr xjI xux xjH xuw Rn Rm Rl Rk Rj Dr xjG xlx xuv Ri Rh Rg Rf Re Rd Rc Rb Dq wG xjF xlw Za xuu Ra QZ QY QX QW QV Dp xjE xlv xut QU QT QS QR QQ QP QO QN QM EV EU ET ES ER EP EO EN EM EL EK EJ EI EH EG wE wD wC xjD Y9 Y8 Y7 xus QL xq QK QJ QI QH EF Do xjC xlu xur QG Ck QF QE QD QC QB EE wB xjB Y6 xuq QA xjA xup Qz xl Qy Qx Qw Qv Qu Qt EB wA xjz Y5 xuo Qs Qr Qq Qp Qo Qn Dn xjy xlt xun P7 xjx xum P6 xjw xul P5 P4 P3 PZ Ci xjv xuk PY xju xuj PX PW Ch PV PU PT xjt xui PS PR PQ PP PO PN PM PL EA Ez Ey Ew wz xjs Y4 xuh PK PJ PI PH xjr xug PG xjq xuf Px xjp xue Pw Pv Pu Ps Pq Pp Po Eu Et Es Er Ep Eo En wy xjo Y3 xud xjn xuc Pn Pm xjm xub Cd Pl Pk Pj Pi Em Dh xjl xlo xua Ph xjk xt9 Pg Pe Pd Pc Pb Pa O9 O8 El Ek ww xjj Y2 xt8 O7 Cb O6 O5 O4 O3 xk O0 Ej Ei Eh Eg Ef wv xji Y1 xt7 OZ xjh xt6 OY OX OW OV OU OT Ee Ed Eb Ea wu wt xjg Y0 YZ xt5 OS OR xjf xt4 OQ xje xt3 OP OO ON OM OL OJ OI D9 D8 D7 wq wk xjd YY YX xt2 OH OG xjc xt1 OF xjb xt0 OE xja xtZ OD OC OB OA Oz Oy Ox D6 Dg xi9 xln xtY Ow Ov Ou Ot Oq Oo On D5 wj xi8 YW xtX Om xi7 xtW
end Go.Proofs.YtbfnljmmepcbfaaGreatDoor