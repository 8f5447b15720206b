/- The resolved code of the functions of this seat, with directions, checked by the kernel. No condition. -/
import Derived.Test.YtbfnljmmepcbfaaGreatDoorProg
import Derived.Test.YtbfnljmmepcbfaaGreatDoorVcPA
import Derived.KernelRfl
open Bool renaming and_eq_true -> aA, false_eq_true -> aO
open List renaming append_assoc -> ay, append_nil -> bG, cons_append -> bg, drop_zero -> bh, flatten_cons -> cr, getD_cons_succ -> lT, length_append -> af, length_cons -> am, length_map -> aY, length_nil -> aB, length_replicate -> jS, map_append -> du, map_cons -> aF, map_nil -> bX, mem_cons -> aw, nil_append -> aI, not_mem_nil -> cR, replicate -> aH
open Nat renaming add_zero -> gx, le_refl -> aK, zero_add -> bS, zero_le -> bH
open Option renaming bind_some -> cY, getD_some -> aM, map_some -> bp, some -> aq
set_option maxRecDepth 100000
set_option linter.unusedVariables false
namespace Go.Proofs.YtbfnljmmepcbfaaGreatDoor
open Tryz
open Go.Sy
abbrev xm(d s:Nat):SI:=⟨some d,none,.mov (.t s)⟩
abbrev xs(d:Nat)(o:SOp):SI:=⟨some d,none,o⟩
abbrev xi(d g:Nat)(b:Bool)(o:SOp):SI:=⟨some d,some (g,b),o⟩
abbrev om(d s:Nat):RI:= .op (xm d s) []
abbrev omk(d s:Nat):RI:= .op (xm d s) [s]
abbrev on(d:Nat)(o:SOp):RI:= .op (xs d o) []
abbrev oo(d:Nat)(o:SOp)(k:List Nat):RI:= .op (xs d o) k
abbrev ci(n:Int):Arg:= .c (.int .i64 n)
abbrev Fm(n d s:Nat):FI:=⟨n,true,xm d s⟩
abbrev Fs(n d:Nat)(o:SOp):FI:=⟨n,true,xs d o⟩
abbrev Fz(n d:Nat)(o:SOp):FI:=⟨n,false,xs d o⟩
abbrev Fi(n d g:Nat)(b:Bool)(o:SOp):FI:=⟨n,true,xi d g b o⟩
abbrev Ld(s:Nat):SOp:= .load 1 false (.t s)
abbrev Fa(n s:Nat):SOp:= .faddr n (.t s)
abbrev Ln(s:Nat):SOp:= .len false (.t s)
abbrev Ia(n a b:Nat):SOp:= .iaddrL n (.t a) (.t b)
abbrev Mv(s:Nat):SOp:= .mov (.t s)
abbrev Bb(o:BinOp)(a b:Nat):SOp:= .bin o (.t a) (.t b)
abbrev Bc(o:BinOp)(a:Nat)(n:Int):SOp:= .bin o (.t a) (ci n)
abbrev Ca(f:Nat)(l:List Arg):SOp:= .call (.f f) l
abbrev Pf(a b:Nat):SOp:= .pick (.t a) (.t b) (.c (.bool false))
abbrev Pt(a b:Nat):SOp:= .pick (.t a) (.c (.bool true)) (.t b)
abbrev So(l:List RI)(x:RC):RC:= .seq (.ops l) x
abbrev Kk(l:List Nat)(x:RC):RC:= .pre [.kill l] x
abbrev Kc(n:Nat)(x y:RC):RC:= .cond (.t n) x y
abbrev Fy(n d g:Nat)(b:Bool)(o:SOp):FI:=⟨n,false,xi d g b o⟩
abbrev Fr(n k a x:Nat):FI:=⟨n,false,⟨none,none,.store k (.t a) (.t x)⟩⟩
abbrev Sr(n a x:Nat)(k:List Nat):RI:= .op ⟨none,none,.store n (.t a) (.t x)⟩ k
abbrev Lt(n s:Nat):SOp:= .load n true (.t s)
abbrev Mc(n:Int):SOp:= .mov (ci n)
abbrev Mb(b:Bool):SOp:= .mov (.c (.bool b))
abbrev Bk(n:Nat)(x:RC):RC:= .block n x
abbrev Sq(x y:RC):RC:= .seq x y
abbrev Zq0:List SV:=[.lst 2 [] .clip,.int .i64 0,.lst 7 [] .clip,.lst 2 [] .clip]
abbrev Zq1:List SV:=[.str [],.int .i64 0,.int .i64 0,.int .i64 0,.int .i64 0,.lst 4 [] .clip,.lst 4 [] .clip]
abbrev Zq2:List SV:=[.int .i64 0,.str [],.int .i64 0,.byt [] .clip]
abbrev Zq3:List SV:=[.byt [] .clip,.lst 2 [] .clip]
abbrev Zq4:List SV:=[.int .i64 0,.str [],.int .i64 0,.int .i64 0]
def cs0:List UInt8:=[0,1,2,2,3,3,3,3,4,4,4,4,4,4,4,4,5,5,5,5,5,5,5,5,5,5,5,5,5,5,5,5,6,6,6,6,6,6,6,6,6,6,6,6,6,6,6,6,6,6,6,6,6,6,6,6,6,6,6,6,6,6,6,6,7,7,7,7,7,7,7,7,7,7,7,7,7,7,7,7,7,7,7,7,7,7,7,7,7,7,7,7,7,7,7,7,7,7,7,7,7,7,7,7,7,7,7,7,7,7,7,7,7,7,7,7,7,7,7,7,7,7,7,7,7,7,7,7,8,8,8,8,8,8,8,8,8,8,8,8,8,8,8,8,8,8,8,8,8,8,8,8,8,8,8,8,8,8,8,8,8,8,8,8,8,8,8,8,8,8,8,8,8,8,8,8,8,8,8,8,8,8,8,8,8,8,8,8,8,8,8,8,8,8,8,8,8,8,8,8,8,8,8,8,8,8,8,8,8,8,8,8,8,8,8,8,8,8,8,8,8,8,8,8,8,8,8,8,8,8,8,8,8,8,8,8,8,8,8,8,8,8,8,8,8,8,8,8,8,8,8,8,8,8,8,8]
def iR:List SV:=[.int .u32 1116352408,.int .u32 1899447441,.int .u32 3049323471,.int .u32 3921009573,.int .u32 961987163,.int .u32 1508970993,.int .u32 2453635748,.int .u32 2870763221,.int .u32 3624381080,.int .u32 310598401,.int .u32 607225278,.int .u32 1426881987,.int .u32 1925078388,.int .u32 2162078206,.int .u32 2614888103,.int .u32 3248222580,.int .u32 3835390401,.int .u32 4022224774,.int .u32 264347078,.int .u32 604807628,.int .u32 770255983,.int .u32 1249150122,.int .u32 1555081692,.int .u32 1996064986,.int .u32 2554220882,.int .u32 2821834349,.int .u32 2952996808,.int .u32 3210313671,.int .u32 3336571891,.int .u32 3584528711,.int .u32 113926993,.int .u32 338241895,.int .u32 666307205,.int .u32 773529912,.int .u32 1294757372,.int .u32 1396182291,.int .u32 1695183700,.int .u32 1986661051,.int .u32 2177026350,.int .u32 2456956037,.int .u32 2730485921,.int .u32 2820302411,.int .u32 3259730800,.int .u32 3345764771,.int .u32 3516065817,.int .u32 3600352804,.int .u32 4094571909,.int .u32 275423344,.int .u32 430227734,.int .u32 506948616,.int .u32 659060556,.int .u32 883997877,.int .u32 958139571,.int .u32 1322822218,.int .u32 1537002063,.int .u32 1747873779,.int .u32 1955562222,.int .u32 2024104815,.int .u32 2227730452,.int .u32 2361852424,.int .u32 2428436474,.int .u32 2756734187,.int .u32 3204031479,.int .u32 3329325298]
instance:bf:=⟨fun
 |1=>some iR
 |_=>none⟩
abbrev Wa(a b:Nat):RI:=omk a b
abbrev Wb(a:Nat)(b:BinOp)(c:Nat)(d:Int):RI:=oo a (Bc b c d) [c]
abbrev Wc(a b:Nat):RI:=oo a (Ld b) [b]
abbrev We(a b c:Nat):FI:=Fs a b (Ld c)
abbrev Wf(a b c:Nat):RI:=on a (Fa b c)
abbrev Wg(a:Nat)(b:BinOp)(c d:Nat):RI:=oo a (Bb b c d) [c,d]
abbrev Wh(a b c:Nat):RI:=oo a (Pt b c) [b,c]
abbrev Wi(a b:Nat):RI:=oo a (Ln b) [b]
abbrev Wj(a b:Nat)(c:BinOp)(d e:Nat):FI:=Fs a b (Bb c d e)
abbrev Wk(a:Nat)(b:Int):RI:=on a (Mc b)
abbrev Wm(a b c d:Nat):FI:=Fs a b (Fa c d)
abbrev Wn(a b c:Nat):RI:=oo a (Ca b [.t c]) [c]
abbrev Wo(a b:Nat):RI:=oo a (.toInt .u8 (.t b)) [b]
abbrev Wp(a b c:Nat):RI:=oo a (Lt b c) [c]
abbrev Wq(a b c:Nat):RI:=Sr a b c [c]
abbrev Wr(a b c d e:Nat):FI:=Fs a b (Ia c d e)
abbrev Ws(a b c d:Nat):RI:=oo a (.app [.u8 0] b (.t c) (.t d)) [c,d]
abbrev Wt(a b c:Nat):RI:=oo a (Fa b c) [c]
abbrev Wu(a b c d:Nat):RI:=oo a (Ca b [.t c,.t d]) [c,d]
abbrev Wv(a b c:Nat):RI:=oo a (Pf b c) [b,c]
abbrev Ww(a b c d:Nat):FI:=Fs a b (Lt c d)
abbrev Wx(a b c:Nat)(d:Int):RI:=oo a (Ca b [.t c,ci d]) [c]
abbrev Wy(a b c:Nat):RI:=Sr a b c [c,b]
abbrev Wz(a b:Nat):RI:=oo a (.box (.t b)) [b]
abbrev WA(a b:Nat)(c:BinOp)(d:Nat)(e:Int):FI:=Fs a b (Bc c d e)
abbrev WB(a b:Nat):RI:=Sr a a b [b]
abbrev WC(a b c d e:Nat):FI:=Fz a b (Ca c [.t d,.t e])
abbrev WD(a b c:Nat):RI:=oo a (.ext (.t b) c) [b]
abbrev WE(a b c d:Nat):FI:=Fs a b (.iaddrA 64 1 (.t c) (.t d))
abbrev WF(a b c:Nat):RI:=on a (.ext (.t b) c)
abbrev WG(a b c d:Nat):RI:=oo a (Ia b c d) [c,d]
abbrev WH(a b c d:Nat)(e:Int):FI:=Fs a b (.iaddrL c (.t d) (ci e))
abbrev WI(a b:Nat):RI:=oo a (.nchk (.t b)) [b]
abbrev WJ(a b:Nat)(c:BinOp)(d:Int)(e:Nat):FI:=Fs a b (.bin c (ci d) (.t e))
abbrev WK(a b c d:Nat):FI:=Fz a b (Ca c [.t d])
abbrev WL(a:Nat)(b:Int):RI:=oo a (Mc b) [a]
abbrev WM(a b c d:Nat)(e:Int):FI:=Fz a b (Ca c [.t d,ci e])
abbrev WN(a b:Nat):RI:=oo a (.toInt .u64 (.t b)) [b]
abbrev WO(a b:Nat):RI:=oo a (.litB [.t b]) [b]
abbrev WP(a b c d:Nat)(e:Int)(f:Nat):FI:=Fz a b (Ca c [.t d,ci e,.t f])
abbrev WQ(a b:Nat):RI:=oo a (.un .not (.t b)) [b]
abbrev WR(a:Nat)(b:Bool):RI:=oo a (Mb b) [a]
abbrev WS(a b c:Nat):RI:=oo a (.lit b [.t c]) [c]
abbrev WT(a b:Nat)(c:Int)(d:Nat):RI:=oo a (Ca b [ci c,.t d]) [d]
abbrev WU(a b c d:Nat):FI:=Fs a b (.ext (.t c) d)
abbrev WV(a:Nat)(b:BinOp)(c:Int)(d:Nat):RI:=oo a (.bin b (ci c) (.t d)) [d]
abbrev WW(a b c:Nat)(d:Int):RI:=oo a (.slcL b (.t c) none (some (ci d)) none) [c]
abbrev WX(a:Nat):RI:=oo a (.mov (.c (.byt [] .clip))) [a]
abbrev WY(a:Nat):RI:=on a (.mov (.c (.byt [] .clip)))
abbrev WZ(a b c:Nat)(d:Int):FI:=Fs a b (.iaddrA 8 1 (.t c) (ci d))
abbrev W0(a:Nat):RI:=on a (.new (.rc Zq1))
abbrev W1(a b c:Nat)(d:Int)(e:Nat):RI:=oo a (Ca b [.t c,ci d,.t e]) [c,e]
abbrev W4(a:Nat)(b:BinOp)(c:Nat):RI:=oo a (.bin b (.t c) (.c (.int .u64 8))) [c]
abbrev W5(a b c d e:Nat):FI:=Fz a b (.app [.u8 0] c (.t d) (.t e))
abbrev W6(a b:Nat)(c:Int):RI:=on a (.iaddrA 8 1 (.t b) (ci c))
abbrev W7(a:Nat):RI:=on a (.new (.rc Zq0))
abbrev W8(a b c:Nat):FI:=Fs a b (.toInt .u8 (.t c))
abbrev W9(a b:Nat):RI:=oo a (.toInt .i64 (.t b)) [b]
abbrev Xa(a b c:Nat):FI:=Fs a b (.toInt .i64 (.t c))
abbrev Xb(a:Nat)(b:Bool)(c:Nat):RI:=oo a (.len b (.t c)) [c]
abbrev Xc(a:Nat):RI:=on a (.build Zq0 [])
abbrev Xd(a:Nat):RI:=on a (.new (.rc Zq2))
abbrev Xe(a b:Nat):RI:=oo a (.b2s (.t b)) [b]
abbrev Xf(a b c:Nat):RI:=oo a (.app [.u8 0] b (.c (.byt [] .clip)) (.t c)) [c]
abbrev Xg(a b c d e:Nat):RI:=oo a (Ca b [.t c,.t d,.t e]) [c,d,e]
abbrev Xh(a:Nat):RI:=on a (.mov (.c (.lst 1 [] .clip)))
abbrev Xi(a:Nat):RI:=on a (.new (.arr 1 (aH 64 [.int .u32 0])))
abbrev Xj(a b c:Nat)(d:Int):RI:=oo a (.slcL b (.t c) (some (ci d)) none none) [c]
abbrev Xk(a:Nat)(b:BinOp)(c:Nat):RI:=oo a (.bin b (.t c) (.c (.int .u64 24))) [c]
abbrev Xl(a:Nat)(b:BinOp)(c:Nat):RI:=oo a (.bin b (.t c) (.c (.int .u64 16))) [c]
abbrev Xm(a b c d e:Nat):RI:=oo a (.litB [.t b,.t c,.t d,.t e]) [b,c,d,e]
abbrev Xn(a b c:Nat)(d e:Int):RI:=oo a (.slcL b (.t c) none (some (ci d)) (some (ci e))) [c]
abbrev Xo(a b c:Nat):RI:=oo a (.call (.t b) [.t c]) [b,c]
abbrev Xp(a b c d e:Nat):RI:=oo a (.lit b [.t c,.t d,.t e]) [c,d,e]
abbrev Xq(a:Nat):RI:=on a (.new (.rc [.lst 2 [] .clip,.int .i64 0]))
abbrev Xr(a b c d e:Nat):FI:=Fz a b (.app [.int .i64 0,.byt [] .clip] c (.t d) (.t e))
abbrev Xs(a:Nat):RI:=on a (.new (.rc [.byt [] .clip,.int .i64 0]))
abbrev Xt(a:Nat):RI:=on a (.new (.rc [.int .i64 0,.byt [] .clip]))
abbrev Xu(a b c d:Nat):RI:=oo a (.app [.byt [] .clip] b (.t c) (.t d)) [c,d]
abbrev Xv(a b c d e:Nat):RI:=oo a (.slcL b (.t c) (some (.t d)) (some (.t e)) none) [c,d,e]
abbrev Xw(a b c d:Nat):RI:=oo a (.app [.int .i64 0] b (.t c) (.t d)) [c,d]
abbrev Xx(n:Nat)(l:List Nat)(x:RC):RC:=Kc n (Kk [n] .skip) (Kk l x)
abbrev Xy(n:Nat)(l:List Nat)(x:RC):RC:=Kc n (Kk l x) (Kk [n] .skip)
def xiv:List RI:=[Wz 4 0,WR 8 false]
def xiu:List RI:=[on 14 (Ca 9 []),WQ 15 14]
def xit:List RI:=[on 8 (Mb false)]
def xis:List RI:=[Wa 16 1,Wa 17 2,Wu 18 10 16 17,Xq 9,Wq 2 9 18]
def xir:List RI:=[Wa 19 3]
def xiq:List RI:=[Wf 20 0 4,Wc 21 20,Wi 22 21,Wb 23 .gtr 22 6]
def xip:List RI:=[Wf 24 0 4,Wc 25 24,WW 26 2 25 6,Wf 27 0 4,Wy 1 27 26]
def xio:List RI:=[Wp 28 2 4,Wq 2 9 28]
def xin:List RI:=[on 30 (Lt 2 9),Wn 31 11 30,Wa 29 31,WF 32 29 0,WD 33 29 1,W7 10,Wq 4 10 32,Wa 11 33]
def xim:List RI:=[Wp 35 2 9,Wn 36 12 35,Wa 34 36,WF 37 34 0,WD 38 34 1,W7 12,Wq 4 12 37,Wa 13 38]
def Vj:List RI:=[Wa 39 11,Wa 40 13,Wg 41 .eql 39 40,Wa 42 41,.grp 42 true [(xi 43 42 true (Lt 4 10)),(xi 44 42 true (Lt 4 12)),(xi 45 42 true (Ca 13 [.t 43,.t 44]))] [10,12,43,44],Wv 46 42 45,Wa 8 46]
def r3:RC:=(So xiv (Sq (So xiu (Xy 15 [1,2,3,4,15] (So xit .ret))) (So xis (Sq (So xir (Kc 19 (Kk [19] (Sq (So xiq (Xy 23 [23] (.ops xip))) (.ops xio))) (Kk [4,19] .skip))) (So xin (So xim (So Vj .ret)))))))
def F3:FnC:=⟨r3,47,[.tmp 8],[],[]⟩
def Eb:List RI:=[WR 4 false]
def xil:List RI:=[on 12 (Ca 9 []),WQ 13 12]
def nD:List RI:=[on 4 (Mb false)]
def xik:List RI:=[Wa 14 0,Wx 15 21 14 19,Wa 16 1,Wx 17 21 16 16,Wa 0 15,Wa 1 17]
def xij:List RI:=[on 19 (Ca 10 [ci 0,ci 0]),Wn 20 11 19,Wa 18 20,WF 21 18 0,WD 22 18 1,W7 5,Wq 4 5 21,Wa 6 22]
def xii:List RI:=[Wa 23 6,Wb 24 .neq 23 0]
def HW:List RI:=[Wk 7 0]
def xih:List RI:=[om 25 7,om 26 0,Wg 27 .lss 25 26]
def xig:List FI:=[Ww 0 31 4 5,Fm 1 32 7,WK 2 33 22 32,WC 3 34 19 31 33,Fm 4 30 34,WU 5 35 30 0,WU 6 36 30 1,Fz 7 8 (.new (.rc Zq0)),Fr 8 4 8 35,Fm 9 9 36]
def Ug:List RI:=[om 37 7,Wb 38 .geq 37 16]
def Uf:List RI:=[Wa 39 9,Wb 40 .neq 39 25]
def Ue:List RI:=[Wa 41 9,Wb 42 .neq 41 0,Wa 43 42,.grp 43 false [(xi 44 43 false (Fa 2 8)),(xi 45 43 false (Ld 44)),(xi 46 43 false (Ln 45)),(xi 47 43 false (Fa 3 8)),(xi 48 43 false (Ld 47)),(xi 49 43 false (Ln 48)),(xi 50 43 false (Bb .add 46 49)),(xi 51 43 false (Mv 7)),(xi 52 43 false (Bc .add 51 1)),(xi 53 43 false (Bb .neq 50 52))] [44,45,46,47,48,49,50,51,52],Wh 54 43 53]
def Ud:List RI:=[Wp 55 4 8,Wq 4 5 55]
def Uc:List RI:=[Wa 28 7,Wb 29 .add 28 1,Wa 7 29]
def D2:RC:=(.post (Sq (So xih (Xx 27 [7,27] (.exit 0))) (Sq (Bk 1 (Sq (.fla [0,0,2,7,15,31,31,0,191,511] [108] xig [[0,1,2,3,4,5,6,7,8,9],[0,1,2,7,3,4,5,6,8,9],[0,1,7,2,3,4,5,6,8,9]] [30,31,32,33,34,35,36]) (Sq (So Ug (Xy 38 [8,38] (Sq (So Uf (Xy 40 [0,1,5,7,40] (So nD .ret))) (.exit 1)))) (Sq (So Ue (Xy 54 [0,1,5,7,8,54] (So nD .ret))) (.ops Ud))))) (.ops Uc))) [.gc [108]])
def nY:RC:=D2
def Ub:List FI:=[Ww 0 57 4 5,Fm 1 58 1,WK 2 59 22 58,WC 3 60 19 57 59,Fm 4 56 60,WU 5 61 56 0,WU 6 62 56 1,Fz 7 10 (.new (.rc Zq0)),Fr 8 4 10 61,Fm 9 11 62]
def Ua:List RI:=[Wa 63 1,om 64 0,Wg 65 .lss 63 64]
def T9:List RI:=[Wa 66 11,Wb 67 .eql 66 0,Wa 68 67,.grp 68 true [(xi 69 68 true (Lt 4 5)),(xi 70 68 true (Lt 4 10)),(xi 71 68 true (Ca 13 [.t 69,.t 70]))] [5,10,69,70],Wv 72 68 71,Wa 4 72]
def T8:List RI:=[Wa 73 11,Wb 74 .eql 73 0,Wa 75 0,Wb 76 .lss 75 16,oo 77 (.beq false (.t 74) (.t 76)) [74,76],Wa 4 77]
def r5:RC:=(So Eb (Sq (So xil (Xy 13 [0,1,13] (So nD .ret))) (So xik (So xij (Sq (So xii (Xy 24 [0,1,5,24] (So nD .ret))) (Sq (So HW (Bk 0 (.loop nY))) (Sq (.fla [0,0,2,7,15,31,31,0,191,511] [110] Ub [[0,1,2,3,4,5,6,7,8,9],[0,1,2,7,3,4,5,6,8,9],[0,1,7,2,3,4,5,6,8,9]] [56,57,58,59,60,61,62]) (Sq (So Ua (Kc 65 (Kk [0,65] (So T9 .ret)) (Kk [5,10,65] .skip))) (So T8 .ret)))))))))
def F5:FnC:=⟨r5,78,[.tmp 4],[],[]⟩
def xif:List RI:=[WR 0 false]
def xie:List RI:=[on 12 (Ca 10 [ci 0,ci 0]),Wn 13 11 12,Wa 11 13,WF 14 11 0,WD 15 11 1,W7 1,Wq 4 1 14,Wa 2 15]
def xid:List RI:=[on 16 (.build Zq1 [(0,1,(.c (.str [118]))),(1,1,(ci 1)),(4,1,(ci 100))]),W0 3,Wq 7 3 16]
def xic:List RI:=[on 17 (.build Zq1 [(0,1,(.c (.str [118]))),(1,1,(ci 2)),(2,1,(ci 2)),(3,1,(ci 10)),(4,1,(ci 100))]),W0 4,Wq 7 4 17]
def xib:List FI:=[Ww 0 19 4 1,Ww 1 20 7 3,WK 2 21 34 20,WM 3 22 33 21 1,WC 4 23 19 19 22,Fm 5 18 23,WU 6 24 18 0,WU 7 25 18 1,Fr 8 4 1 24,Fm 9 5 25]
def xia:List FI:=[Ww 0 27 4 1,Ww 1 28 7 4,WK 2 29 34 28,WM 3 30 33 29 1,WC 4 31 19 27 30,Fm 5 26 31,WU 6 32 26 0,WU 7 33 26 1,Fr 8 4 1 32,Fm 9 6 33]
def xh9:List FI:=[Ww 0 35 4 1,Ww 1 36 7 4,WK 2 37 36 36,Fs 3 38 (.build [.byt [] .clip,.int .i64 0] [(0,1,(.t 37)),(1,1,(ci 12))]),WK 4 39 35 38,WM 5 40 33 39 1,WC 6 41 19 35 40,Fm 7 34 41,WU 8 42 34 0,WU 9 43 34 1,Fr 10 4 1 42,Fm 11 7 43]
def xh8:List FI:=[Ww 0 44 4 1,Ww 2 46 4 1,Ww 4 48 4 1,WM 1 45 28 44 9,WM 3 47 28 46 10,WM 5 49 28 48 12,Fm 6 8 45,Fm 7 9 47,Fm 8 10 49]
def xh7:List RI:=[Wa 50 2,Wb 51 .eql 50 0,Wa 52 51,.grp 52 true [(xi 53 52 true (Mv 5)),(xi 54 52 true (Bc .eql 53 0))] [5,53],Wv 55 52 54,Wa 56 55,.grp 56 true [(xi 57 56 true (Mv 6)),(xi 58 56 true (Bc .eql 57 0))] [6,57],Wv 59 56 58,Wa 60 59,.grp 60 true [(xi 61 60 true (Mv 7)),(xi 62 60 true (Bc .eql 61 0))] [7,61],Wv 63 60 62,Wa 64 63,.grp 64 true [(xi 65 64 true (Mv 8)),(xi 66 64 true (Ln 65)),(xi 67 64 true (Bc .eql 66 1))] [65,66],Wv 68 64 67,Wa 69 68,.grp 69 true [(xi 70 69 true (Mv 8)),(xi 71 69 true (.iaddrL 7 (.t 70) (ci 0))),(xi 72 69 true (Fa 1 71)),(xi 73 69 true (Ld 72)),(xi 74 69 true (Bc .eql 73 1))] [8,70,71,72,73],Wv 75 69 74,Wa 76 75,.grp 76 true [(xi 77 76 true (Mv 9)),(xi 78 76 true (Ln 77)),(xi 79 76 true (Bc .eql 78 1))] [77,78],Wv 80 76 79,Wa 81 80,.grp 81 true [(xi 82 81 true (Mv 9)),(xi 83 81 true (.iaddrL 7 (.t 82) (ci 0))),(xi 84 81 true (Fa 1 83)),(xi 85 81 true (Ld 84)),(xi 86 81 true (Bc .eql 85 2))] [9,82,83,84,85],Wv 87 81 86,Wa 88 87,.grp 88 true [(xi 89 88 true (Mv 10)),(xi 90 88 true (Ln 89)),(xi 91 88 true (Bc .eql 90 0))] [10,89,90],Wv 92 88 91,Wa 93 92,.grp 93 true [(xi 94 93 true (Lt 4 1)),(xi 95 93 true (Ca 25 [.t 94,(.c (.str [118])),ci 12])),(xi 96 93 true (Bc .eql 95 2))] [1,94,95],Wv 97 93 96,Wa 0 97]
def r9:RC:=(So xif (So xie (So xid (So xic (Sq (.flt [0,0,2,6,15,31,63,63,127,511] [] xib [3,18,19,20,21,22,23,24,25]) (Sq (.flt [0,0,2,6,15,31,63,63,127,511] [] xia [26,27,28,29,30,31,32,33]) (Sq (.flt [0,0,2,6,14,30,63,127,255,255,511,2047] [] xh9 [4,34,35,36,37,38,39,40,41,42,43]) (Sq (.flt [0,1,0,7,0,31,63,127,255] [] xh8 [44,45,46,47,48,49]) (So xh7 .ret)))))))))
def F9:FnC:=⟨r9,98,[.tmp 0],[],[]⟩
def XW:List RI:=[Xq 4]
def XV:List RI:=[Xq 5]
def lH:List RI:=[Wk 6 0]
def XU:List RI:=[om 7 6,om 8 0,Wx 9 21 8 3,Wg 10 .leq 7 9]
def XT:List FI:=[Wm 0 13 0 5,We 1 14 13,Fm 2 15 6,WJ 3 16 .mul 2 15,WJ 4 17 .add 3 16,Fm 5 18 6,WJ 6 19 .mul 2 18,WJ 7 20 .add 3 19,WK 8 21 38 20,WM 9 22 37 21 1,Fs 10 23 (.build [.int .i64 0,.byt [] .clip] [(0,1,(.t 17)),(1,1,(.t 22))]),Fs 11 24 (.lit 2 [.t 23]),Xr 12 25 32 14 24,Wm 13 26 0 5,Fr 14 1 26 25]
def Oe:List RI:=[Wa 11 6,Wb 12 .add 11 1,Wa 6 12]
def OE:RC:=(Sq (So XU (Xx 10 [0,6,10] (.exit 0))) (Sq (Bk 1 (.flt [0,1,0,4,12,0,32,96,224,480,1020,2044,4095,8191,16383] [125] XT [13,14,15,16,17,18,19,20,21,22,23,24,25,26])) (.ops Oe)))
def XS:RC:=OE
def XR:List RI:=[Wa 27 1,Wf 28 0 5,Wc 29 28,Wi 30 29,Wu 31 21 27 30,WV 32 .add 1 31,Wf 33 1 5,Wy 1 33 32]
def XQ:List RI:=[Wp 34 2 5,Wq 2 4 34]
def r10:RC:=(So XW (So XV (Sq (So lH (Bk 0 (.loop XS))) (So XR (So XQ .ret)))))
def F10:FnC:=⟨r10,35,[.cell 4 2 true],[],[]⟩
def Od:List RI:=[Wz 1 0,W7 2,WL 3 0]
def XP:List RI:=[on 5 (Lt 2 1),Wn 6 39 5,Wa 4 6]
def Oc:List RI:=[om 7 4,Wb 8 .neq 7 0]
def Ob:List RI:=[Xc 9,Wa 10 4,Wq 4 2 9,Wa 3 10]
def Oa:List RI:=[Wp 11 2 1,oo 12 (.build Zq0 [(0,2,(.t 11))]) [11],Wq 4 2 12,Wk 3 0]
def r11:RC:=(So Od (Sq (So XP (So Oc (Kc 8 (Kk [1,8] (So Ob .ret)) (Kk [4,8] .skip)))) (So Oa .ret)))
def F11:FnC:=⟨r11,13,[.cell 2 4 true,.tmp 3],[],[]⟩
def XO:List RI:=[on 5 (Lt 2 1),Wn 6 40 5,Wa 4 6]
def r12:RC:=(So Od (Sq (So XO (So Oc (Kc 8 (Kk [1,8] (So Ob .ret)) (Kk [4,8] .skip)))) (So Oa .ret)))
def F12:FnC:=⟨r12,13,[.cell 2 4 true,.tmp 3],[],[]⟩
def xa:List RI:=[Wz 2 0,Wz 3 1,WR 4 false]
def XN:List RI:=[Wf 7 2 2,Wc 8 7,Wf 9 2 3,Wc 10 9,Wu 11 27 8 10,WQ 12 11,Wa 13 12,.grp 13 false [(xi 14 13 false (Fa 3 2)),(xi 15 13 false (Ld 14)),(xi 16 13 false (Ln 15)),(xi 17 13 false (Fa 3 3)),(xi 18 13 false (Ld 17)),(xi 19 13 false (Ln 18)),(xi 20 13 false (Bb .neq 16 19))] [14,15,16,17,18,19],Wh 21 13 20,Wa 22 21,.grp 22 false [(xi 23 22 false (Fa 0 2)),(xi 24 22 false (Fa 1 23)),(xi 25 22 false (Ld 24)),(xi 26 22 false (Fa 0 3)),(xi 27 22 false (Fa 1 26)),(xi 28 22 false (Ld 27)),(xi 29 22 false (Bb .neq 25 28))] [23,24,25,26,27,28],Wh 30 22 29,Wa 31 30,.grp 31 false [(xi 32 31 false (Fa 0 2)),(xi 33 31 false (Fa 0 32)),(xi 34 31 false (Ld 33)),(xi 35 31 false (Ln 34)),(xi 36 31 false (Fa 0 3)),(xi 37 31 false (Fa 0 36)),(xi 38 31 false (Ld 37)),(xi 39 31 false (Ln 38)),(xi 40 31 false (Bb .neq 35 39))] [32,33,34,35,36,37,38,39],Wh 41 31 40]
def oe:List RI:=[Wk 5 0]
def XM:List RI:=[om 42 5,Wf 43 3 2,Wc 44 43,Wi 45 44,Wg 46 .lss 42 45]
def XL:List FI:=[Wm 0 49 3 2,We 1 50 49,Fm 2 51 5,Wr 3 52 2 50 51,Ww 4 53 2 52,Wm 5 54 3 3,We 6 55 54,Fm 7 56 5,Wr 8 57 2 55 56,Ww 9 58 2 57,WC 10 59 41 53 58,Fs 11 60 (.un .not (.t 59))]
def XK:List RI:=[Wa 47 5,Wb 48 .add 47 1,Wa 5 48]
def OD:RC:=(Sq (So XM (Xx 46 [5,46] (.exit 0))) (Sq (Bk 1 (Sq (.flt [0,1,0,7,15,0,32,0,224,480,1023,2047] [] XL [49,50,51,52,53,54,55,56,57,58,59]) (Xy 60 [2,3,5,60] (So nD .ret)))) (.ops XK)))
def N9:RC:=OD
def KT:List RI:=[om 61 6,Wf 62 0 2,Wt 63 0 62,Wc 64 63,Wi 65 64,Wg 66 .lss 61 65]
def KS:List FI:=[Wm 0 69 0 2,Wm 1 70 0 69,We 2 71 70,Fm 3 72 6,Wr 4 73 2 71 72,Wm 5 74 0 73,We 6 75 74,Wm 7 76 0 3,Wm 8 77 0 76,We 9 78 77,Fm 10 79 6,Wr 11 80 2 78 79,Wm 12 81 0 80,We 13 82 81,Wj 14 83 .neq 75 82,Fm 15 84 83,Fi 16 85 84 false (Fa 0 2),Fi 17 86 84 false (Fa 0 85),Fi 18 87 84 false (Ld 86),Fi 19 88 84 false (Mv 6),Fi 20 89 84 false (Ia 2 87 88),Fi 21 90 84 false (Fa 1 89),Fi 22 91 84 false (Ld 90),Fi 23 92 84 false (Fa 0 3),Fi 24 93 84 false (Fa 0 92),Fi 25 94 84 false (Ld 93),Fi 26 95 84 false (Mv 6),Fi 27 96 84 false (Ia 2 94 95),Fi 28 97 84 false (Fa 1 96),Fi 29 98 84 false (Ld 97),Fy 30 99 84 false (Ca 31 [.t 91,.t 98]),Fi 31 100 84 false (.un .not (.t 99)),Fs 32 101 (Pt 84 100)]
def KR:List RI:=[Wa 67 6,Wb 68 .add 67 1,Wa 6 68]
def zu:RC:=(Sq (So KT (Xx 66 [2,3,6,66] (.exit 2))) (Sq (Bk 3 (Sq (.flt [0,1,3,0,15,31,63,0,128,384,0,1920,3968,8064,16383,32767,65535,131071,262143,65535,1048575,2097151,4194303,65535,8454143,25231359,65535,125894655,260112383,528547839,1073741823,2147483647,4294967295] [] KS [69,70,71,72,73,74,75,76,77,78,79,80,81,82,83,84,85,86,87,88,89,90,91,92,93,94,95,96,97,98,99,100]) (Xy 101 [2,3,6,101] (So nD .ret)))) (.ops KR)))
def yz:RC:=zu
def pZ:List RI:=[on 4 (Mb true)]
def r13:RC:=(So xa (Sq (So XN (Xy 41 [2,3,41] (So nD .ret))) (Sq (So oe (Bk 0 (.loop N9))) (Sq (So lH (Bk 2 (.loop yz))) (So pZ .ret)))))
def F13:FnC:=⟨r13,102,[.tmp 4],[],[]⟩
def DO:List RI:=[Wz 2 0,Wz 3 1,W7 4,WL 5 0]
def XJ:List RI:=[Wf 11 0 2,Wp 12 2 11,on 13 (Lt 2 3),Wu 14 46 12 13,Wa 6 14]
def XI:List RI:=[om 15 6,Wb 16 .neq 15 0]
def XH:List RI:=[Xc 17,Wa 18 6,WB 4 17,Wa 5 18]
def XG:List RI:=[Wf 20 0 3,Wc 21 20,Wn 22 47 21,Wa 19 22,WF 23 19 0,WD 24 19 1,W0 7,WB 7 23,Wa 8 24]
def XF:List RI:=[Wa 25 8,Wb 26 .eql 25 0]
def XE:List RI:=[Wp 27 4 2,oo 28 (Lt 7 7) [7],Wu 29 48 27 28,WF 30 29 0,WD 31 29 1,WB 4 30,Wa 5 31]
def XD:List RI:=[Wt 33 0 3,Wc 34 33,Wn 35 49 34,Wa 32 35,WF 36 32 0,WD 37 32 1,Xs 9,Wq 2 9 36,Wa 10 37]
def XC:List RI:=[om 38 10,Wb 39 .neq 38 0]
def XB:List RI:=[Xc 40,Wa 41 10,WB 4 40,Wa 5 41]
def IU:List RI:=[Wp 42 4 2,Wp 43 2 9,Wu 44 50 42 43,WF 45 44 0,WD 46 44 1,WB 4 45,Wa 5 46]
def r19:RC:=(So DO (Sq (So XJ (So XI (Kc 16 (Kk [2,3,16] (So XH .ret)) (Kk [6,16] .skip)))) (Sq (So XG (So XF (Kc 26 (Kk [3,26] (So XE .ret)) (Kk [7,26] .skip)))) (So XD (Sq (So XC (Kc 39 (Kk [2,9,39] (So XB .ret)) (Kk [10,39] .skip))) (So IU .ret))))))
def F19:FnC:=⟨r19,47,[.cell 4 4 true,.tmp 5],[],[]⟩
def tP:List RI:=[WL 4 0]
def XA:List RI:=[om 6 1,Wb 7 .lss 6 1]
def jD:List RI:=[Wk 4 0]
def Xz:List RI:=[Wa 8 0,om 9 1,Wg 10 .rem 8 9,Wa 5 10]
def V9:List RI:=[om 11 5,Wb 12 .lss 11 0]
def V8:List RI:=[Wa 13 5,Wa 14 1,Wg 15 .add 13 14,Wa 5 15]
def V7:List RI:=[Wa 16 5,Wa 4 16]
def r21:RC:=(So tP (Sq (So XA (Xy 7 [0,1,7] (So jD .ret))) (So Xz (Sq (So V9 (Kc 12 (Kk [12] (.ops V8)) (Kk [1,12] .skip))) (So V7 .ret)))))
def F21:FnC:=⟨r21,17,[.tmp 4],[],[]⟩
def V6:List RI:=[on 2 (.new (.rc Zq3))]
def V5:List RI:=[om 3 0,Wb 4 .rem 3 3,Wb 5 .eql 4 2]
def V4:List RI:=[on 6 (.mkB (ci 32) (ci 32)),Wa 7 0,oo 8 (.build [.byt [] .clip,.int .i64 0] [(0,1,(.t 6)),(1,1,(.t 7))]) [6,7],Wn 9 35 8,Wx 10 33 9 1,WB 2 10]
def V3:List RI:=[Wa 11 0,oo 12 (.build Zq1 [(0,1,(.c (.str [118]))),(1,1,(.t 11)),(4,1,(ci 9))]) [11],Wn 13 34 12,Wx 14 33 13 1,WB 2 14]
def r22:RC:=(So V6 (Sq (So V5 (Xy 5 [5] (So V4 .ret))) (So V3 .ret)))
def F22:FnC:=⟨r22,15,[.cell 2 2 true],[],[]⟩
def V2:List RI:=[Wz 3 0,WL 6 0]
def V1:List RI:=[Wt 10 2 3,Wc 11 10,on 12 (Ln 11),Wk 13 0]
def V0:List RI:=[on 14 (Bb .lss 13 12)]
def VZ:List RI:=[on 15 (Ia 7 11 13),Wp 16 7 15,W0 9,Wq 7 9 16]
def VY:List RI:=[Wf 17 0 9,Wc 18 17,om 19 1,Wg 20 .eql 18 19,Wa 21 20,.grp 21 true [(xi 22 21 true (Fa 3 9)),(xi 23 21 true (Ld 22)),(xi 24 21 true (Mv 2)),(xi 25 21 true (Bb .leq 23 24))] [22,23,24],Wv 26 21 25]
def VX:List RI:=[Wa 27 7,Wt 28 2 9,Wc 29 28,oo 30 (.maxi (.t 27) (.t 29)) [27,29],Wa 7 30]
def VW:List RI:=[Wb 31 .add 13 1,Wa 13 31]
def OC:RC:=(.post (So V0 (Sq (Xx 14 [1,2,11,12,13,14] (.exit 0)) (Sq (Bk 1 (So VZ (So VY (Kc 26 (Kk [26] (.ops VX)) (Kk [9,26] .skip))))) (.ops VW)))) [.gc [109]])
def N8:RC:=OC
def VV:List RI:=[Wa 32 7,Wa 6 32]
def r25:RC:=(So V2 (So HW (Sq (So V1 (Bk 0 (.loop N8))) (So VV .ret))))
def F25:FnC:=⟨r25,33,[.tmp 6],[],[]⟩
def N7:List RI:=[om 6 0,Wi 7 6,om 8 1,Wi 9 8,Wg 10 .neq 7 9]
def N6:List RI:=[om 11 5,om 12 0,Wi 13 12,Wg 14 .lss 11 13]
def VU:List FI:=[Fm 0 17 0,Fm 1 18 5,Wr 2 19 7 17 18,Ww 3 20 7 19,Fm 4 21 1,Fm 5 22 5,Wr 6 23 7 21 22,Ww 7 24 7 23,WC 8 25 56 20 24,Fs 9 26 (.un .not (.t 25))]
def N5:List RI:=[Wa 15 5,Wb 16 .add 15 1,Wa 5 16]
def OB:RC:=(Sq (So N6 (Xx 14 [0,1,5,14] (.exit 0))) (Sq (Bk 1 (Sq (.flt [0,0,3,7,0,0,48,112,255,511] [] VU [17,18,19,20,21,22,23,24,25]) (Xy 26 [0,1,5,26] (So nD .ret)))) (.ops N5)))
def N4:RC:=OB
def r27:RC:=(So Eb (Sq (So N7 (Xy 10 [0,1,10] (So nD .ret))) (Sq (So oe (Bk 0 (.loop N4))) (So pZ .ret))))
def F27:FnC:=⟨r27,27,[.tmp 4],[],[]⟩
def VT:List RI:=[Wz 2 0,oo 4 (.mov (.c (.lst 7 [] .clip))) [4]]
def VS:List RI:=[on 5 (.mov (.c (.lst 7 [] .clip)))]
def VR:List RI:=[Wf 8 2 2,Wc 9 8,on 10 (Ln 9),Wk 11 0]
def VQ:List RI:=[on 12 (Bb .lss 11 10)]
def VP:List RI:=[on 13 (Ia 7 9 11),Wp 14 7 13,W0 7,WB 7 14]
def VO:List FI:=[Wm 0 15 3 7,We 1 16 15,Fm 2 17 1,Wj 3 18 .leq 16 17,Fm 4 19 18,Fi 5 20 19 true (Mv 1),Fi 6 21 19 true (Fa 4 7),Fi 7 22 19 true (Ld 21),Fi 8 23 19 true (Bb .lss 20 22),Fs 9 24 (Pf 19 23),Fm 10 25 24,Fi 11 26 25 true (Fa 1 7),Fi 12 27 25 true (Ld 26),Fi 13 28 25 true (Lt 4 2),Fi 14 29 25 true (Fa 0 7),Fi 15 30 25 true (Ld 29),Fi 16 31 25 true (Mv 1),Fy 17 32 25 true (Ca 25 [.t 28,.t 30,.t 31]),Fi 18 33 25 true (Bb .geq 27 32),Fs 19 34 (Pf 25 33),Fm 20 35 34,Fi 21 36 35 true (Lt 4 2),Fi 22 37 35 true (Lt 7 7),Fi 23 38 35 true (Mv 1),Fy 24 39 35 true (Ca 57 [.t 36,.t 37,.t 38]),Fi 25 40 35 true (.un .not (.t 39)),Fs 26 41 (Pf 35 40)]
def VN:List RI:=[Wa 42 5,oo 43 (Lt 7 7) [7],WS 44 7 43,oo 45 (.app Zq1 96 (.t 42) (.t 44)) [42,44],Wa 5 45]
def VM:List RI:=[Wb 46 .add 11 1,Wa 11 46]
def OA:RC:=(.post (So VQ (Sq (Xx 12 [1,2,9,10,11,12] (.exit 0)) (Sq (Bk 1 (So VP (Sq (.flt [0,1,0,7,15,31,31,95,255,511,1023,2047,4095,2047,2047,18431,2047,124927,262143,524287,1048575,2097151,2097151,2097151,16777215,33554431,67108863] [] VO [15,16,17,18,19,20,21,22,23,24,25,26,27,28,29,30,31,32,33,34,35,36,37,38,39,40]) (Kc 41 (Kk [41] (.ops VN)) (Kk [7,41] .skip))))) (.ops VM)))) [.gc [107],.tok 5 105])
def w9:RC:=OA
def VL:List RI:=[Wa 47 5,Wa 4 47]
def r28:RC:=(So VT (So VS (Sq (So VR (Bk 0 (.pre [.tok 5 105] (.loop w9)))) (So VL .ret))))
def F28:FnC:=⟨r28,48,[.tmp 4],[],[]⟩
def VK:List FI:=[Fm 0 17 0,Fm 1 18 5,Wr 2 19 1 17 18,We 3 20 19,Fm 4 21 1,Fm 5 22 5,Wr 6 23 1 21 22,We 7 24 23,Wj 8 25 .neq 20 24]
def Oz:RC:=(Sq (So N6 (Xx 14 [0,1,5,14] (.exit 0))) (Sq (Bk 1 (Sq (.flt [0,0,3,7,0,0,48,112,255] [] VK [17,18,19,20,21,22,23,24]) (Xy 25 [0,1,5,25] (So nD .ret)))) (.ops N5)))
def N3:RC:=Oz
def r31:RC:=(So Eb (Sq (So N7 (Xy 10 [0,1,10] (So nD .ret))) (Sq (So oe (Bk 0 (.loop N3))) (So pZ .ret))))
def F31:FnC:=⟨r31,26,[.tmp 4],[],[]⟩
def tO:List RI:=[Wz 1 0,WX 2]
def VJ:List RI:=[Wp 4 7 1,Wn 5 59 4,Wa 3 5]
def N2:List RI:=[om 6 3,Wi 7 6,Wb 8 .eql 7 0]
def qB:List RI:=[WY 2]
def VI:List RI:=[Wa 9 3,WS 10 1 9,WT 11 60 21 10,Wa 2 11]
def r32:RC:=(So tO (So VJ (Sq (So N2 (Xy 8 [3,8] (So qB .ret))) (So VI .ret))))
def F32:FnC:=⟨r32,12,[.tmp 2],[],[]⟩
def VH:List RI:=[on 4 (.new (.rc Zq3))]
def VG:List RI:=[Wa 7 0,oo 8 (.build Zq3 [(0,1,(.t 7))]) [7],on 5 (.new (.rc Zq3)),Wq 2 5 8]
def VF:List RI:=[om 9 6,Wb 10 .lss 9 3]
def VE:List RI:=[om 13 1,om 14 6,WN 15 14,Wg 16 .shr 13 15,Wb 17 .and 16 1,Wb 18 .eql 17 1]
def VD:List FI:=[Ww 0 19 2 5,Fm 1 20 6,WJ 2 21 .mul 2 20,WJ 3 22 .add 3 21,Fm 4 23 6,WJ 5 24 .mul 2 23,WJ 6 25 .add 3 24,Fm 8 27 6,WA 9 28 .and 27 1,WK 7 26 38 25,Fz 10 29 (Ca 61 [.t 19,.t 22,.t 26,ci 1,.t 28]),Fr 11 2 5 29]
def Oy:RC:=(Sq (So VF (Xx 10 [1,6,10] (.exit 0))) (Sq (Bk 1 (So VE (Xy 18 [18] (.flt [0,0,2,6,0,16,48,112,0,256,1023,2047] [] VD [19,20,21,22,23,24,25,26,27,28,29])))) (.ops Oe)))
def lG:RC:=Oy
def VC:List RI:=[Wp 30 2 5,Wq 2 4 30]
def r33:RC:=(So VH (So VG (Sq (So lH (Bk 0 (.loop lG))) (So VC .ret))))
def F33:FnC:=⟨r33,31,[.cell 4 2 true],[],[]⟩
def VB:List RI:=[on 8 (Lt 7 1),Wn 9 62 8,Wb 10 .neq 9 0]
def VA:List RI:=[on 11 (.litB [(.c (.u8 21))]),Wf 12 0 1,Wc 13 12,oo 14 (.s2b (.t 13)) [13],Wu 15 63 11 14,Wa 3 15]
def Vz:List RI:=[Wa 16 3,Wf 17 1 1,Wc 18 17,W1 19 64 16 4 18,Wa 3 19]
def Vy:List RI:=[Wa 20 3,Wf 21 2 1,Wc 22 21,W1 23 64 20 4 22,Wa 3 23]
def Vx:List RI:=[Wa 24 3,Wf 25 3 1,Wc 26 25,W1 27 64 24 6 26,Wa 3 27]
def Vw:List RI:=[Wa 28 3,Wf 29 4 1,Wc 30 29,W1 31 64 28 6 30,Wa 3 31]
def Vv:List RI:=[Wa 32 3,Wf 33 5 1,Wc 34 33,Wi 35 34,Wo 36 35,WO 37 36,Ws 38 1 32 37,Wa 3 38]
def IT:List RI:=[om 39 4,Wf 40 5 1,Wc 41 40,Wi 42 41,Wg 43 .lss 39 42]
def IS:List RI:=[Wf 46 5 1,Wc 47 46,om 48 4,WG 49 4 47 48,Wp 50 4 49,Xd 5,Wq 4 5 50]
def IR:List FI:=[Fm 0 51 3,Wm 1 52 0 5,We 2 53 52,W8 3 54 53,Fs 4 55 (.litB [.t 54]),Wm 6 57 1 5,We 7 58 57,Fs 8 59 (.s2b (.t 58)),W5 5 56 1 51 55,WC 9 60 63 56 59,⟨10,false,(xm 3 60)⟩]
def IQ:List FI:=[Fm 0 61 3,Wm 1 62 2 5,We 2 63 62,Wm 4 65 3 5,We 5 66 65,WP 3 64 64 61 4 63,W5 6 67 1 64 66,⟨7,false,(xm 3 67)⟩]
def IP:List RI:=[Wa 44 4,Wb 45 .add 44 1,Wa 4 45]
def zk:RC:=(.post (Sq (So IT (Xx 43 [4,43] (.exit 0))) (Sq (Bk 1 (So IS (Sq (.flt [0,0,2,6,14,31,0,64,192,511,1023] [156] IR [51,52,53,54,55,56,57,58,59,60]) (.flt [0,0,2,7,0,16,63,127] [167] IQ [5,61,62,63,64,65,66,67])))) (.ops IP))) [.gc [105,156],.gcr 65000 66000,.tok 3 103])
def pY:RC:=zk
def IN:List RI:=[Wa 68 3,Wf 69 6 1,Wc 70 69,Wi 71 70,Wo 72 71,WO 73 72,Ws 74 1 68 73,Wa 3 74]
def IM:List RI:=[om 75 6,Wf 76 6 1,Wc 77 76,Wi 78 77,Wg 79 .lss 75 78]
def IL:List RI:=[Wf 82 6 1,Wc 83 82,om 84 6,WG 85 4 83 84,Wp 86 4 85,on 7 (.new (.rc Zq4)),Wq 4 7 86]
def IK:List FI:=[Fm 0 87 3,Wm 1 88 0 7,We 2 89 88,W8 3 90 89,Fs 4 91 (.litB [.t 90]),Wm 6 93 1 7,We 7 94 93,Fs 8 95 (.s2b (.t 94)),W5 5 92 1 87 91,WC 9 96 63 92 95,⟨10,false,(xm 3 96)⟩]
def IJ:List FI:=[Fm 0 97 3,Wm 1 98 2 7,We 2 99 98,Wm 4 101 3 7,We 5 102 101,WP 3 100 64 97 4 99,WP 6 103 64 100 4 102,⟨7,false,(xm 3 103)⟩]
def II:List RI:=[Wa 80 6,Wb 81 .add 80 1,Wa 6 81]
def zj:RC:=(.post (Sq (So IM (Xx 79 [1,6,79] (.exit 2))) (Sq (Bk 3 (So IL (Sq (.flt [0,0,2,6,14,31,0,64,192,511,1023] [192] IK [87,88,89,90,91,92,93,94,95,96]) (.flt [0,0,2,7,0,16,63,127] [] IJ [7,97,98,99,100,101,102,103])))) (.ops II))) [.gc [107,192],.gcr 101000 102000,.tok 3 103])
def pX:RC:=zj
def IH:List RI:=[Wa 104 3,Wa 2 104]
def r34:RC:=(So tO (Sq (So VB (Xy 10 [1,10] (So qB .ret))) (So VA (So Vz (So Vy (So Vx (So Vw (So Vv (Sq (So jD (Bk 0 (.pre [.tok 3 103] (.loop pY)))) (So IN (Sq (So lH (Bk 2 (.pre [.tok 3 103] (.loop pX)))) (So IH .ret))))))))))))
def F34:FnC:=⟨r34,105,[.tmp 2],[],[]⟩
def Vu:List RI:=[Wf 3 0 1,Wc 4 3,Wi 5 4,Wb 6 .neq 5 32,Wa 7 6,.grp 7 false [(xi 8 7 false (Fa 1 1)),(xi 9 7 false (Ld 8)),(xi 10 7 false (Bc .lss 9 0))] [8,9],Wh 11 7 10,Wa 12 11,.grp 12 false [(xi 13 12 false (Fa 1 1)),(xi 14 12 false (Ld 13)),(xi 15 12 false (Bc .gtr 14 1099511627776))] [13,14],Wh 16 12 15]
def Vt:List FI:=[Fs 0 17 (.litB [(.c (.u8 22))]),Wm 1 18 0 1,We 2 19 18,Wm 4 21 1 1,We 5 22 21,W5 3 20 1 17 19,WP 6 23 64 20 6 22,Fm 7 2 23]
def r35:RC:=(So tO (Sq (So Vu (Xy 16 [1,16] (So qB .ret))) (Sq (.flt [0,0,2,7,0,16,63,127] [120] Vt [1,17,18,19,20,21,22,23]) .ret)))
def F35:FnC:=⟨r35,24,[.tmp 2],[],[]⟩
def Vs:List RI:=[Wp 4 7 1,Wn 5 34 4,Wa 3 5]
def Vr:List RI:=[Wa 9 3,WS 10 1 9,WT 11 65 21 10,Wa 2 11]
def r36:RC:=(So tO (So Vs (Sq (So N2 (Xy 8 [3,8] (So qB .ret))) (So Vr .ret))))
def F36:FnC:=⟨r36,12,[.tmp 2],[],[]⟩
def ir:List RI:=[WX 4]
def Vq:List RI:=[om 5 1,Wb 6 .lss 5 0,Wa 7 6,.grp 7 false [(xi 8 7 false (Mv 1)),(xi 9 7 false (Bc .gtr 8 3))] [8],Wh 10 7 9]
def kR:List RI:=[WY 4]
def Vp:List RI:=[om 11 1,Wo 12 11,WO 13 12,Wa 14 0,Wa 15 1,Wu 16 67 14 15,Wn 17 66 16,Ws 18 1 13 17,Wa 4 18]
def r37:RC:=(So ir (Sq (So Vq (Xy 10 [0,1,10] (So kR .ret))) (So Vp .ret)))
def F37:FnC:=⟨r37,19,[.tmp 4],[],[]⟩
def lF:List RI:=[WX 2]
def Vo:List RI:=[Wa 3 0,Wo 4 3,oo 5 (.litB [(.c (.u8 107)),.t 4]) [4],Wn 6 68 5,Wa 2 6]
def r38:RC:=(So lF (So Vo .ret))
def F38:FnC:=⟨r38,7,[.tmp 2],[],[]⟩
def oc:List RI:=[Wz 1 0,WL 2 0]
def N1:List RI:=[Wf 5 0 1,Wc 6 5,Wi 7 6,Wb 8 .gtr 7 4]
def nZ:List RI:=[Wk 2 4]
def Vn:List RI:=[Wf 9 0 1,Wc 10 9,on 11 (Ln 10),Wk 12 0]
def N0:List RI:=[on 13 (Bb .lss 12 11)]
def Vm:List RI:=[om 14 12,on 15 (Ia 2 10 12),Wp 16 2 15,Xt 4,Wa 3 14,Wq 2 4 16]
def Vl:List RI:=[Wf 17 0 4,Wc 18 17,Wb 19 .lss 18 1,Wa 20 19,.grp 20 false [(xi 21 20 false (Fa 0 4)),(xi 22 20 false (Ld 21)),(xi 23 20 false (Bc .gtr 22 1000))] [21,22],Wh 24 20 23,Wa 25 24,.grp 25 false [(xi 26 25 false (Fa 1 4)),(xi 27 25 false (Ld 26)),(xi 28 25 false (Ln 27)),(xi 29 25 false (Bc .neq 28 17))] [26,27,28],Wh 30 25 29]
def fX:List RI:=[Wk 2 1]
def Vk:List FI:=[Fm 0 31 3,WA 1 32 .gtr 31 0,Fm 2 33 32,Fi 3 34 33 true (Fa 0 4),Fi 4 35 33 true (Ld 34),Fi 5 36 33 true (Fa 0 1),Fi 6 37 33 true (Ld 36),Fi 7 38 33 true (Mv 3),Fi 8 39 33 true (Bc .sub 38 1),Fi 9 40 33 true (Ia 2 37 39),Fi 10 41 33 true (Fa 0 40),Fi 11 42 33 true (Ld 41),Fi 12 43 33 true (Bb .leq 35 42),Fs 13 44 (Pf 33 43)]
def w8:List RI:=[Wk 2 41]
def IG:List RI:=[Wb 45 .add 12 1,Wa 12 45]
def zi:RC:=(.post (So N0 (Sq (Xx 13 [10,11,12,13] (.exit 0)) (Sq (Bk 1 (So Vm (Sq (So Vl (Xy 30 [1,3,4,10,11,12,30] (So fX .ret))) (Sq (.flt [0,1,3,7,15,7,39,7,135,487,999,2023,4095,8191] [] Vk [3,4,31,32,33,34,35,36,37,38,39,40,41,42,43]) (Xy 44 [1,10,11,12,44] (So w8 .ret)))))) (.ops IG)))) [.gc [104]])
def ls:RC:=zi
def IF:List RI:=[Wf 46 1 1,Wc 47 46,Wb 48 .lss 47 1,Wa 49 48,.grp 49 false [(xi 50 49 false (Fa 1 1)),(xi 51 49 false (Ld 50)),(xi 52 49 false (Fa 0 1)),(xi 53 49 false (Ld 52)),(xi 54 49 false (Ln 53)),(xi 55 49 false (Bb .gtr 51 54))] [1,50,51,52,53,54],Wh 56 49 55]
def kv:List RI:=[Wk 2 0]
def r39:RC:=(So oc (Sq (So N1 (Xy 8 [1,8] (So nZ .ret))) (Sq (So Vn (Bk 0 (.loop ls))) (Sq (So IF (Xy 56 [56] (So fX .ret))) (So kv .ret)))))
def F39:FnC:=⟨r39,57,[.tmp 2],[],[]⟩
def tN:List RI:=[Wk 3 0]
def Vi:List RI:=[om 9 3,Wf 10 0 1,Wc 11 10,Wi 12 11,Wg 13 .lss 9 12]
def Vh:List RI:=[Wf 16 0 1,Wc 17 16,om 18 3,WG 19 2 17 18,Wp 20 2 19,Xt 4,Wq 2 4 20]
def Vg:List RI:=[Wf 21 0 4,Wc 22 21,Wb 23 .lss 22 1,Wa 24 23,.grp 24 false [(xi 25 24 false (Fa 0 4)),(xi 26 24 false (Ld 25)),(xi 27 24 false (Bc .gtr 26 1000))] [25,26],Wh 28 24 27,Wa 29 28,.grp 29 false [(xi 30 29 false (Fa 1 4)),(xi 31 29 false (Ld 30)),(xi 32 29 false (Ln 31)),(xi 33 29 false (Bc .neq 32 17))] [30,31,32],Wh 34 29 33]
def Vf:List FI:=[Fm 0 35 3,WA 1 36 .gtr 35 0,Fm 2 37 36,Fi 3 38 37 true (Fa 0 4),Fi 4 39 37 true (Ld 38),Fi 5 40 37 true (Fa 0 1),Fi 6 41 37 true (Ld 40),Fi 7 42 37 true (Mv 3),Fi 8 43 37 true (Bc .sub 42 1),Fi 9 44 37 true (Ia 2 41 43),Fi 10 45 37 true (Fa 0 44),Fi 11 46 37 true (Ld 45),Fi 12 47 37 true (Bb .leq 39 46),Fs 13 48 (Pf 37 47)]
def IE:List RI:=[Wa 14 3,Wb 15 .add 14 1,Wa 3 15]
def zh:RC:=(.post (Sq (So Vi (Xx 13 [3,13] (.exit 0))) (Sq (Bk 1 (So Vh (Sq (So Vg (Xy 34 [1,3,4,34] (So fX .ret))) (Sq (.flt [0,1,3,7,15,7,39,7,135,487,999,2023,4095,8191] [] Vf [4,35,36,37,38,39,40,41,42,43,44,45,46,47]) (Xy 48 [1,3,48] (So w8 .ret)))))) (.ops IE))) [.gc [104]])
def lr:RC:=zh
def ID:List RI:=[Wf 49 1 1,Wc 50 49,Wb 51 .lss 50 1,Wa 52 51,.grp 52 false [(xi 53 52 false (Fa 1 1)),(xi 54 52 false (Ld 53)),(xi 55 52 false (Fa 0 1)),(xi 56 52 false (Ld 55)),(xi 57 52 false (Ln 56)),(xi 58 52 false (Bb .gtr 54 57))] [1,53,54,55,56,57],Wh 59 52 58]
def r40:RC:=(So oc (Sq (So N1 (Xy 8 [1,8] (So nZ .ret))) (Sq (So tN (Bk 0 (.loop lr))) (Sq (So ID (Xy 59 [59] (So fX .ret))) (So kv .ret)))))
def F40:FnC:=⟨r40,60,[.tmp 2],[],[]⟩
def Ve:List RI:=[Wf 5 1 2,Wc 6 5,Wf 7 1 3,Wc 8 7,Wg 9 .eql 6 8,Wa 10 9,.grp 10 true [(xi 11 10 true (Fa 0 2)),(xi 12 10 true (Ld 11)),(xi 13 10 true (Fa 0 3)),(xi 14 10 true (Ld 13)),(xi 15 10 true (Ca 31 [.t 12,.t 14]))] [2,3,11,12,13,14],Wv 16 10 15,Wa 4 16]
def r41:RC:=(So xa (So Ve .ret))
def F41:FnC:=⟨r41,17,[.tmp 4],[],[]⟩
def DN:List RI:=[Wz 2 0,Wz 3 1,WL 4 0]
def Vd:List RI:=[on 8 (Lt 2 2),Wn 9 39 8,Wa 5 9]
def Vc:List RI:=[om 10 5,Wb 11 .neq 10 0]
def Vb:List RI:=[Wa 12 5,Wa 4 12]
def Va:List RI:=[Wf 13 1 3,Wc 14 13,Wi 15 14,Wb 16 .gtr 15 4]
def U9:List RI:=[Wk 4 4]
def U8:List RI:=[Wf 18 0 3,Wc 19 18,Wn 20 47 19,Wa 17 20,WF 21 17 0,WD 22 17 1,W0 6,Sr 7 6 21 [6,21],Wa 7 22]
def U7:List RI:=[om 23 7,Wb 24 .neq 23 0]
def U6:List RI:=[Wf 26 0 3,Wc 27 26,Wn 28 49 27,Wa 25 28,oo 29 (.ext (.t 25) 0) [29],WD 30 25 1,Wa 7 30]
def U5:List RI:=[om 31 7,Wb 32 .neq 31 0]
def IC:List RI:=[Wa 33 7,Wa 4 33]
def IB:List FI:=[Ww 0 34 2 2,Ww 1 35 2 3,Wm 4 38 1 2,We 5 39 38,WC 2 36 73 34 35,Fs 3 37 (Ln 36),Wj 6 40 .lss 37 39]
def IA:List RI:=[Wk 4 44]
def r46:RC:=(So DN (Sq (So Vd (So Vc (Kc 11 (Kk [2,3,11] (So Vb .ret)) (Kk [5,11] .skip)))) (Sq (So Va (Xy 16 [2,3,16] (So U9 .ret))) (So U8 (Sq (So U7 (Xy 24 [7,24] (.ops U6))) (Sq (So U5 (Kc 32 (Kk [2,3,32] (So IC .ret)) (Kk [7,32] .skip))) (Sq (Sq (.flt [0,0,3,7,0,16,63] [] IB [2,3,34,35,36,37,38,39]) (Xy 40 [40] (So IA .ret))) (So jD .ret))))))))
def F46:FnC:=⟨r46,41,[.tmp 4],[],[]⟩
def U4:List RI:=[W0 2,WL 3 0]
def U3:List RI:=[Wa 10 0,Wn 11 74 10,Wa 4 11]
def U2:List RI:=[W0 5]
def U1:List RI:=[om 12 4,Wx 13 75 12 1,Wb 14 .neq 13 21]
def U0:List RI:=[on 15 (.build Zq1 []),Wq 7 2 15,Wk 3 30]
def UZ:List RI:=[om 16 4,Wx 17 76 16 12,Xe 18 17,Wf 19 0 5,Wy 1 19 18]
def UY:List RI:=[om 20 4,Wx 21 75 20 4,Wf 22 1 5,Wy 1 22 21]
def UX:List RI:=[om 23 4,Wx 24 75 23 4,Wf 25 2 5,Wy 1 25 24]
def UW:List RI:=[om 26 4,Wx 27 75 26 6,Wf 28 3 5,Wy 1 28 27]
def UV:List RI:=[om 29 4,Wx 30 75 29 6,Wf 31 4 5,Wy 1 31 30]
def Iz:List RI:=[om 32 4,Wx 33 75 32 1,Wa 6 33]
def Iy:List RI:=[om 34 6,Wb 35 .gtr 34 0,Wa 36 35,.grp 36 true [(xi 37 36 true (Mv 4)),(xi 38 36 true (Ca 77 [.t 37])),(xi 39 36 true (Bc .eql 38 0))] [37,38],Wv 40 36 39]
def Ix:List RI:=[Xd 7]
def Iw:List RI:=[om 43 4,Wx 44 75 43 1,Wf 45 0 7,Wy 1 45 44]
def Iv:List RI:=[om 46 4,Wx 47 76 46 12,Xe 48 47,Wf 49 1 7,Wy 1 49 48]
def Iu:List RI:=[om 50 4,Wx 51 75 50 4,Wf 52 2 7,Wy 1 52 51]
def It:List RI:=[om 53 4,Wx 54 78 53 32,Wf 55 3 7,Wy 1 55 54]
def Is:List RI:=[Wf 56 5 5,Wc 57 56,Wp 58 4 7,WS 59 4 58,oo 60 (.app Zq2 56 (.t 57) (.t 59)) [57,59],Wf 61 5 5,Wy 1 61 60]
def Ir:List RI:=[Wa 41 6,Wb 42 .sub 41 1,Wa 6 42]
def zg:RC:=(.post (Sq (So Iy (Xx 40 [6,40] (.exit 0))) (Sq (Bk 1 (So Ix (So Iw (So Iv (So Iu (So It (.ops Is))))))) (.ops Ir))) [.gc [107]])
def yn:RC:=zg
def pW:List RI:=[om 62 4,Wx 63 75 62 1,Wa 8 63]
def Iq:List RI:=[om 64 8,Wb 65 .gtr 64 0,Wa 66 65,.grp 66 true [(xi 67 66 true (Mv 4)),(xi 68 66 true (Ca 77 [.t 67])),(xi 69 66 true (Bc .eql 68 0))] [67,68],Wv 70 66 69]
def Ip:List RI:=[on 9 (.new (.rc Zq4))]
def Io:List RI:=[om 73 4,Wx 74 75 73 1,Wf 75 0 9,Wy 1 75 74]
def In:List RI:=[om 76 4,oo 77 (Ca 76 [.t 76,ci 32]) [76],Xe 78 77,Wf 79 1 9,Wy 1 79 78]
def Im:List RI:=[om 80 4,Wx 81 75 80 4,Wf 82 2 9,Wy 1 82 81]
def Il:List RI:=[om 83 4,Wx 84 75 83 4,Wf 85 3 9,Wy 1 85 84]
def Ik:List RI:=[Wf 86 6 5,Wc 87 86,Wp 88 4 9,WS 89 4 88,oo 90 (.app Zq4 40 (.t 87) (.t 89)) [87,89],Wf 91 6 5,Wy 1 91 90]
def Ij:List RI:=[Wa 71 8,Wb 72 .sub 71 1,Wa 8 72]
def zf:RC:=(.post (Sq (So Iq (Xx 70 [8,70] (.exit 2))) (Sq (Bk 3 (So Ip (So Io (So In (So Im (So Il (.ops Ik))))))) (.ops Ij))) [.gc [109]])
def yl:RC:=zf
def pV:List RI:=[Wa 92 4,Wn 93 79 92,Wb 94 .neq 93 0,Wa 95 94,.grp 95 false [(xi 96 95 false (Lt 7 5)),(xi 97 95 false (Ca 80 [.t 96])),(xi 98 95 false (Bc .neq 97 0))] [96,97],Wh 99 95 98]
def Ii:List RI:=[on 100 (.build Zq1 []),Wq 7 2 100,Wk 3 30]
def Ih:List RI:=[Wp 101 7 5,Wq 7 2 101,Wk 3 0]
def r47:RC:=(So U4 (So U3 (So U2 (Sq (So U1 (Xy 14 [4,5,14] (So U0 .ret))) (So UZ (So UY (So UX (So UW (So UV (Sq (So Iz (Bk 0 (.loop yn))) (Sq (So pW (Bk 2 (.loop yl))) (Sq (So pV (Xy 99 [5,99] (So Ii .ret))) (So Ih .ret)))))))))))))
def F47:FnC:=⟨r47,102,[.cell 2 7 true,.tmp 3],[],[]⟩
def UU:List FI:=[Ww 0 10 7 3,Ww 2 12 7 3,WK 1 11 32 10,WK 3 13 59 12,Fm 4 6 11,Fm 5 7 13]
def UT:List RI:=[Wf 15 2 2,Wc 16 15,om 17 6,oo 18 (Ca 81 [.t 16,.t 17,(.f 82)]) [16,17],Wa 14 18,WF 19 14 0,WD 20 14 1,Wa 8 19,.op (xm 9 20) [9,20]]
def UR:List RI:=[om 21 8,Wf 22 2 2,Wc 23 22,Wi 24 23,Wg 25 .lss 21 24,Wa 26 25,.grp 26 true [(xi 27 26 true (Fa 2 2)),(xi 28 26 true (Ld 27)),(xi 29 26 true (Mv 8)),(xi 30 26 true (Ia 7 28 29)),(xi 31 26 true (Lt 7 30)),(xi 32 26 true (Ca 32 [.t 31])),(xi 33 26 true (Mv 6)),(xi 34 26 true (Ca 84 [.t 32,.t 33]))] [27,28,29,30,31,32,33],Wv 35 26 34]
def UQ:List RI:=[Wf 38 2 2,Wc 39 38,om 40 8,WG 41 7 39 40,Wp 42 7 41,Wn 43 59 42,om 44 7,Wu 45 84 43 44]
def UP:List RI:=[Wp 46 4 2,WB 4 46,Wk 5 0]
def UO:List RI:=[Wa 36 8,Wb 37 .add 36 1,Wa 8 37]
def Ox:RC:=(Sq (So UR (Xx 35 [6,7,35] (.exit 0))) (Sq (Bk 1 (So UQ (Xy 45 [3,6,7,8,45] (So UP .ret)))) (.ops UO)))
def NZ:RC:=Ox
def UN:List RI:=[on 47 (Lt 4 2),Wn 48 85 47]
def UM:List RI:=[Xc 49,WB 4 49,Wk 5 25]
def Ig:List FI:=[Wm 0 50 2 2,We 1 51 50,Fm 3 53 8,Ww 4 54 7 3,Fs 5 55 (.lit 7 [.t 54]),WK 2 52 87 51,Fz 6 56 (Ca 86 [.t 52,.t 53,.t 55]),Wm 7 57 2 2,Fr 8 1 57 56]
def If:List RI:=[Wp 58 4 2,WB 4 58,Wk 5 0]
def r48:RC:=(So DO (Sq (.flt [0,1,0,7,15,31] [] UU [10,11,12,13]) (So UT (Sq (Bk 0 (.loop NZ)) (Sq (So UN (Xy 48 [2,3,8,48] (So UM .ret))) (Sq (.flt [0,1,3,0,0,16,63,127,255] [] Ig [3,8,50,51,52,53,54,55,56,57]) (So If .ret)))))))
def F48:FnC:=⟨r48,59,[.cell 4 4 true,.tmp 5],[],[]⟩
def UL:List RI:=[Xs 2,WL 3 0]
def UK:List RI:=[Wa 7 0,Wn 8 74 7,Wa 4 8]
def UJ:List RI:=[om 9 4,Wx 10 75 9 1,Wa 5 10]
def UI:List RI:=[om 11 4,Wx 12 78 11 32,oo 13 (.build [.byt [] .clip,.int .i64 0] [(0,1,(.t 12))]) [12],Xs 6,Wq 2 6 13]
def UH:List RI:=[om 14 4,Wx 15 75 14 6,Wf 16 1 6,Wy 1 16 15]
def UG:List RI:=[Wa 17 4,Wn 18 79 17,Wb 19 .neq 18 0,Wa 20 19,.grp 20 false [(xi 21 20 false (Mv 5)),(xi 22 20 false (Bc .neq 21 22))] [5,21],Wh 23 20 22,Wa 24 23,.grp 24 false [(xi 25 24 false (Fa 1 6)),(xi 26 24 false (Ld 25)),(xi 27 24 false (Bc .gtr 26 1099511627776))] [25,26],Wh 28 24 27]
def UF:List RI:=[on 29 (.build [.byt [] .clip,.int .i64 0] []),WB 2 29,Wk 3 30]
def UE:List RI:=[Wp 30 2 6,WB 2 30,Wk 3 0]
def r49:RC:=(So UL (So UK (So UJ (So UI (So UH (Sq (So UG (Xy 28 [6,28] (So UF .ret))) (So UE .ret)))))))
def F49:FnC:=⟨r49,31,[.cell 2 2 true,.tmp 3],[],[]⟩
def UD:List RI:=[Wf 9 3 2,Wc 10 9,on 11 (Lt 2 3),oo 12 (Ca 88 [.t 10,.t 11,(.f 89)]) [10,11],Wa 8 12,WF 13 8 0,WD 14 8 1,Wa 6 13,Wa 7 14]
def UC:List RI:=[Wa 16 7,Wa 15 16]
def UB:List RI:=[Wp 17 4 2,WB 4 17,Wk 5 0]
def UA:List RI:=[on 19 (Lt 4 2),Wn 20 85 19,Wa 18 20]
def Uz:List RI:=[Xc 21,WB 4 21,Wk 5 25]
def Uy:List FI:=[Wm 0 22 3 2,We 1 23 22,Fm 3 25 6,Ww 4 26 2 3,Fs 5 27 (.lit 2 [.t 26]),WK 2 24 91 23,Fz 6 28 (Ca 90 [.t 24,.t 25,.t 27]),Wm 7 29 3 2,Fr 8 1 29 28]
def Ux:List RI:=[Wp 30 4 2,WB 4 30,Wk 5 0]
def r50:RC:=(So DO (So UD (Sq (Bk 0 (So UC (Kc 15 (Kk [3,6,15] (So UB .ret)) (Kk [15] (So UA (Xy 18 [2,3,6,18] (So Uz .ret))))))) (Sq (.flt [0,1,3,0,0,16,63,127,255] [] Uy [3,6,22,23,24,25,26,27,28,29]) (So Ux .ret)))))
def F50:FnC:=⟨r50,31,[.cell 4 4 true,.tmp 5],[],[]⟩
def Uw:List RI:=[Wf 9 0 2,Wc 10 9,Wf 11 0 3,Wc 12 11,Wg 13 .neq 10 12,Wa 14 13,.grp 14 false [(xi 15 14 false (Fa 1 2)),(xi 16 14 false (Ld 15)),(xi 17 14 false (Fa 1 3)),(xi 18 14 false (Ld 17)),(xi 19 14 false (Bb .neq 16 18))] [15,16,17,18],Wh 20 14 19,Wa 21 20,.grp 21 false [(xi 22 21 false (Fa 2 2)),(xi 23 21 false (Ld 22)),(xi 24 21 false (Fa 2 3)),(xi 25 21 false (Ld 24)),(xi 26 21 false (Bb .neq 23 25))] [22,23,24,25],Wh 27 21 26,Wa 28 27,.grp 28 false [(xi 29 28 false (Fa 3 2)),(xi 30 28 false (Ld 29)),(xi 31 28 false (Fa 3 3)),(xi 32 28 false (Ld 31)),(xi 33 28 false (Bb .neq 30 32))] [29,30,31,32],Wh 34 28 33,Wa 35 34,.grp 35 false [(xi 36 35 false (Fa 4 2)),(xi 37 35 false (Ld 36)),(xi 38 35 false (Fa 4 3)),(xi 39 35 false (Ld 38)),(xi 40 35 false (Bb .neq 37 39))] [36,37,38,39],Wh 41 35 40,Wa 42 41,.grp 42 false [(xi 43 42 false (Fa 5 2)),(xi 44 42 false (Ld 43)),(xi 45 42 false (Ln 44)),(xi 46 42 false (Fa 5 3)),(xi 47 42 false (Ld 46)),(xi 48 42 false (Ln 47)),(xi 49 42 false (Bb .neq 45 48))] [43,44,45,46,47,48],Wh 50 42 49,Wa 51 50,.grp 51 false [(xi 52 51 false (Fa 6 2)),(xi 53 51 false (Ld 52)),(xi 54 51 false (Ln 53)),(xi 55 51 false (Fa 6 3)),(xi 56 51 false (Ld 55)),(xi 57 51 false (Ln 56)),(xi 58 51 false (Bb .neq 54 57))] [52,53,54,55,56,57],Wh 59 51 58]
def Uv:List RI:=[om 60 5,Wf 61 5 2,Wc 62 61,Wi 63 62,Wg 64 .lss 60 63]
def Uu:List FI:=[Wm 0 67 5 2,We 1 68 67,Fm 2 69 5,Wr 3 70 4 68 69,Ww 4 71 4 70,Wm 5 72 5 3,We 6 73 72,Fm 7 74 5,Wr 8 75 4 73 74,Ww 9 76 4 75,Fz 10 6 (.new (.rc Zq2)),Fz 11 7 (.new (.rc Zq2)),Fr 12 4 6 71,Fr 13 4 7 76]
def Ut:List RI:=[Wf 77 0 6,Wc 78 77,Wf 79 0 7,Wc 80 79,Wg 81 .neq 78 80,Wa 82 81,.grp 82 false [(xi 83 82 false (Fa 1 6)),(xi 84 82 false (Ld 83)),(xi 85 82 false (Fa 1 7)),(xi 86 82 false (Ld 85)),(xi 87 82 false (Bb .neq 84 86))] [83,84,85,86],Wh 88 82 87,Wa 89 88,.grp 89 false [(xi 90 89 false (Fa 2 6)),(xi 91 89 false (Ld 90)),(xi 92 89 false (Fa 2 7)),(xi 93 89 false (Ld 92)),(xi 94 89 false (Bb .neq 91 93))] [90,91,92,93],Wh 95 89 94,Wa 96 95,.grp 96 false [(xi 97 96 false (Fa 3 6)),(xi 98 96 false (Ld 97)),(xi 99 96 false (Fa 3 7)),(xi 100 96 false (Ld 99)),(xi 101 96 false (Ca 31 [.t 98,.t 100])),(xi 102 96 false (.un .not (.t 101)))] [6,7,97,98,99,100,101],Wh 103 96 102]
def Us:List RI:=[Wa 65 5,Wb 66 .add 65 1,Wa 5 66]
def Ow:RC:=(.post (Sq (So Uv (Xx 64 [5,64] (.exit 0))) (Sq (Bk 1 (Sq (.fla [0,1,0,7,15,0,32,0,224,480,0,0,3103,8191] [106,107] Uu [[0,1,2,3,4,5,6,7,8,9,10,11,12,13],[0,1,2,3,4,5,6,7,8,9,11,10,12,13]] [67,68,69,70,71,72,73,74,75,76]) (So Ut (Xy 103 [2,3,5,103] (So nD .ret))))) (.ops Us))) [.gc [106,107]])
def DM:RC:=Ow
def yk:List RI:=[Wk 8 0]
def Ie:List RI:=[om 104 8,Wf 105 6 2,Wc 106 105,Wi 107 106,Wg 108 .lss 104 107]
def Ic:List FI:=[Wm 0 111 6 2,We 1 112 111,Fm 2 113 8,Wr 3 114 4 112 113,Ww 4 115 4 114,Wm 5 116 6 3,We 6 117 116,Fm 7 118 8,Wr 8 119 4 117 118,Ww 9 120 4 119,Fs 10 121 (.eqS true [1,2,1,1] (.t 115) (.t 120))]
def Ib:List RI:=[Wa 109 8,Wb 110 .add 109 1,Wa 8 110]
def ze:RC:=(Sq (So Ie (Xx 108 [2,3,8,108] (.exit 2))) (Sq (Bk 3 (Sq (.flt [0,1,0,7,15,0,32,0,224,480,1023] [] Ic [111,112,113,114,115,116,117,118,119,120]) (Xy 121 [2,3,8,121] (So nD .ret)))) (.ops Ib)))
def tM:RC:=ze
def r56:RC:=(So xa (Sq (So Uw (Xy 59 [2,3,59] (So nD .ret))) (Sq (So oe (Bk 0 (.loop DM))) (Sq (So yk (Bk 2 (.loop tM))) (So pZ .ret)))))
def F56:FnC:=⟨r56,122,[.tmp 4],[],[]⟩
def Ur:List RI:=[Wz 3 0,Wz 4 1,Wz 5 2,WR 6 false]
def Uq:List RI:=[Wp 8 7 4,Wn 9 32 8,on 7 (.new (.rc [.byt [] .clip])),Wq 1 7 9]
def Up:List RI:=[oo 10 (Fa 3 3) [3],Wc 11 10,oo 12 (.mkfn 100 [] [.t 5,.t 7]) [5,7],Wu 13 99 11 12,Wa 6 13]
def r57:RC:=(So Ur (So Uq (So Up .ret)))
def F57:FnC:=⟨r57,14,[.tmp 6],[],[]⟩
def Uo:List RI:=[on 8 (Lt 7 1),Wn 9 80 8,Wb 10 .neq 9 0]
def Un:List RI:=[on 11 (Ca 101 [(.c (.byt [] .clip)),ci 1,ci 21]),Wa 3 11]
def Um:List RI:=[Wa 12 3,Wf 13 0 1,Wc 14 13,oo 15 (.s2b (.t 14)) [14],Wu 16 102 12 15,Wa 3 16]
def Ul:List FI:=[Fm 0 17 3,Wm 1 18 1 1,We 2 19 18,Wm 4 21 2 1,We 5 22 21,WP 3 20 101 17 4 19,WP 6 23 101 20 4 22,⟨7,false,(xm 3 23)⟩]
def Uk:List FI:=[Fm 0 24 3,Wm 1 25 3 1,We 2 26 25,Wm 4 28 4 1,We 5 29 28,WP 3 27 101 24 6 26,WP 6 30 101 27 6 29,⟨7,false,(xm 3 30)⟩]
def Uj:List RI:=[Wa 31 3,Wf 32 5 1,Wc 33 32,Wi 34 33,W1 35 101 31 1 34,Wa 3 35]
def Ui:List RI:=[Wf 36 5 1,Wc 37 36,on 38 (Ln 37),Wk 39 0]
def Uh:List RI:=[on 40 (Bb .lss 39 38)]
def H9:List RI:=[on 41 (Ia 4 37 39),Wp 42 4 41,Xd 5,Wq 4 5 42]
def H8:List FI:=[Fm 0 43 3,Wm 1 44 0 5,We 2 45 44,Wm 4 47 1 5,We 5 48 47,Fs 6 49 (.s2b (.t 48)),WP 3 46 101 43 1 45,WC 7 50 102 46 49,⟨8,false,(xm 3 50)⟩]
def H7:List FI:=[Fm 0 51 3,Wm 1 52 2 5,We 2 53 52,Wm 4 55 3 5,We 5 56 55,WP 3 54 101 51 4 53,W5 6 57 1 54 56,⟨7,false,(xm 3 57)⟩]
def H6:List RI:=[Wb 58 .add 39 1,Wa 39 58]
def zb:RC:=(.post (So Uh (Sq (Xx 40 [37,38,39,40] (.exit 0)) (Sq (Bk 1 (So H9 (Sq (.flt [0,0,2,7,0,16,48,127,255] [] H8 [43,44,45,46,47,48,49,50]) (.flt [0,0,2,7,0,16,63,127] [157] H7 [5,51,52,53,54,55,56,57])))) (.ops H6)))) [.gc [105],.gcr 47000 48000,.gcr 55000 56000,.tok 3 103])
def pU:RC:=zb
def H5:List RI:=[Wa 59 3,Wf 60 6 1,Wc 61 60,Wi 62 61,W1 63 101 59 1 62,Wa 3 63]
def H4:List RI:=[Wt 64 6 1,Wc 65 64,on 66 (Ln 65),Wk 67 0]
def H3:List RI:=[on 68 (Bb .lss 67 66)]
def H2:List RI:=[on 69 (Ia 4 65 67),Wp 70 4 69,on 7 (.new (.rc Zq4)),Wq 4 7 70]
def H1:List FI:=[Fm 0 71 3,Wm 1 72 0 7,We 2 73 72,Wm 4 75 1 7,We 5 76 75,Fs 6 77 (.s2b (.t 76)),WP 3 74 101 71 1 73,WC 7 78 102 74 77,⟨8,false,(xm 3 78)⟩]
def HZ:List FI:=[Fm 0 79 3,Wm 1 80 2 7,We 2 81 80,Wm 4 83 3 7,We 5 84 83,WP 3 82 101 79 4 81,WP 6 85 101 82 4 84,⟨7,false,(xm 3 85)⟩]
def HY:List RI:=[Wb 86 .add 67 1,Wa 67 86]
def za:RC:=(.post (So H3 (Sq (Xx 68 [65,66,67,68] (.exit 2)) (Sq (Bk 3 (So H2 (Sq (.flt [0,0,2,7,0,16,48,127,255] [] H1 [71,72,73,74,75,76,77,78]) (.flt [0,0,2,7,0,16,63,127] [] HZ [7,79,80,81,82,83,84,85])))) (.ops HY)))) [.gc [107],.gcr 75000 76000,.gcr 83000 84000])
def pT:RC:=za
def HX:List RI:=[Wa 87 3,Wa 2 87]
def r59:RC:=(So tO (Sq (So Uo (Xy 10 [1,10] (So qB .ret))) (So Un (So Um (Sq (.flt [0,0,2,7,0,16,63,127] [] Ul [17,18,19,20,21,22,23]) (Sq (.flt [0,0,2,7,0,16,63,127] [] Uk [24,25,26,27,28,29,30]) (So Uj (Sq (So Ui (Bk 0 (.pre [.tok 3 103] (.loop pU)))) (So H5 (Sq (So H4 (Bk 2 (.loop pT))) (So HX .ret)))))))))))
def F59:FnC:=⟨r59,88,[.tmp 2],[],[]⟩
def T7:List RI:=[Wa 5 0,Wa 6 1,Wu 7 104 5 6,WT 8 103 1 7,Wa 4 8]
def r60:RC:=(So ir (So T7 .ret))
def F60:FnC:=⟨r60,9,[.tmp 4],[],[]⟩
def T6:List RI:=[Wz 5 0,on 10 (.new (.rc Zq3))]
def T5:List RI:=[Wa 12 1,Wa 13 2,Wa 14 3,Wa 15 4,Wf 16 0 5,Wc 17 16,oo 18 (Ca 105 [.t 13,.t 14,.t 15,.t 17]) [13,14,15,17],oo 19 (.build [.int .i64 0,.byt [] .clip] [(0,1,(.t 12)),(1,1,(.t 18))]) [12,18],Xt 11,Wq 2 11 19]
def T4:List FI:=[Wm 0 20 0 5,We 1 21 20,Fs 2 22 (.lit 2 []),Wm 3 23 1 5,We 4 24 23,Ww 6 26 2 11,Fs 7 27 (.lit 2 [.t 26]),Xr 5 25 32 22 24,Xr 8 28 32 25 27,Fs 9 29 (.build Zq3 [(0,1,(.t 21)),(1,1,(.t 28))]),Fr 10 2 10 29]
def r61:RC:=(So T6 (So T5 (Sq (.flt [0,1,0,0,8,28,0,64,252,511,1023] [125,128] T4 [5,11,20,21,22,23,24,25,26,27,28,29]) .ret)))
def F61:FnC:=⟨r61,30,[.cell 10 2 true],[],[]⟩
def T3:List RI:=[Wf 7 0 1,Wc 8 7,Wn 9 106 8,WQ 10 9]
def tL:List RI:=[Wk 2 43]
def T2:List RI:=[Wf 11 2 1,Wc 12 11,Wb 13 .lss 12 0,Wa 14 13,.grp 14 false [(xi 15 14 false (Fa 2 1)),(xi 16 14 false (Ld 15)),(xi 17 14 false (Fa 1 1)),(xi 18 14 false (Ld 17)),(xi 19 14 false (Bb .gtr 16 18))] [15,16,17,18],Wh 20 14 19,Wa 21 20,.grp 21 false [(xi 22 21 false (Fa 1 1)),(xi 23 21 false (Ld 22)),(xi 24 21 false (Bc .gtr 23 1000000))] [22,23],Wh 25 21 24,Wa 26 25,.grp 26 false [(xi 27 26 false (Fa 3 1)),(xi 28 26 false (Ld 27)),(xi 29 26 false (Bc .lss 28 0))] [27,28],Wh 30 26 29,Wa 31 30,.grp 31 false [(xi 32 31 false (Fa 3 1)),(xi 33 31 false (Ld 32)),(xi 34 31 false (Fa 4 1)),(xi 35 31 false (Ld 34)),(xi 36 31 false (Bb .geq 33 35))] [32,33,34,35],Wh 37 31 36,Wa 38 37,.grp 38 false [(xi 39 38 false (Fa 4 1)),(xi 40 38 false (Ld 39)),(xi 41 38 false (Bc .gtr 40 1099511627776))] [39,40],Wh 42 38 41]
def T1:List RI:=[Wf 43 5 1,Wc 44 43,Wi 45 44,Wb 46 .gtr 45 16,Wa 47 46,.grp 47 false [(xi 48 47 false (Fa 6 1)),(xi 49 47 false (Ld 48)),(xi 50 47 false (Ln 49)),(xi 51 47 false (Bc .gtr 50 8))] [48,49,50],Wh 52 47 51]
def T0:List RI:=[om 53 3,Wf 54 5 1,Wc 55 54,Wi 56 55,Wg 57 .lss 53 56]
def TZ:List RI:=[Wf 60 5 1,Wc 61 60,om 62 3,WG 63 4 61 62,Wp 64 4 63,Xd 4,WB 4 64]
def HV:List RI:=[Wf 65 0 4,Wc 66 65,Wb 67 .lss 66 1,Wa 68 67,.grp 68 false [(xi 69 68 false (Fa 0 4)),(xi 70 68 false (Ld 69)),(xi 71 68 false (Bc .gtr 70 3))] [69,70],Wh 72 68 71,Wa 73 72,.grp 73 false [(xi 74 73 false (Fa 2 4)),(xi 75 73 false (Ld 74)),(xi 76 73 false (Bc .lss 75 0))] [74,75],Wh 77 73 76,Wa 78 77,.grp 78 false [(xi 79 78 false (Fa 2 4)),(xi 80 78 false (Ld 79)),(xi 81 78 false (Bc .gtr 80 1000000))] [79,80],Wh 82 78 81,Wa 83 82,.grp 83 false [(xi 84 83 false (Fa 3 4)),(xi 85 83 false (Ld 84)),(xi 86 83 false (Ln 85)),(xi 87 83 false (Bc .neq 86 32))] [84,85,86],Wh 88 83 87]
def HU:List RI:=[Wf 89 1 4,Wc 90 89,Wn 91 106 90,WQ 92 91]
def HT:List FI:=[Fm 0 93 3,WA 1 94 .gtr 93 0,Fm 2 95 94,Fi 3 96 95 true (Fa 5 1),Fi 4 97 95 true (Ld 96),Fi 5 98 95 true (Mv 3),Fi 6 99 95 true (Bc .sub 98 1),Fi 7 100 95 true (Ia 4 97 99),Fi 8 101 95 true (Lt 4 100),Fi 9 102 95 true (Lt 4 4),Fy 10 103 95 true (Ca 107 [.t 101,.t 102]),Fi 11 104 95 true (.un .not (.t 103)),Fs 12 105 (Pf 95 104)]
def HS:List RI:=[Wa 58 3,Wb 59 .add 58 1,Wa 3 59]
def y9:RC:=(.post (Sq (So T0 (Xx 57 [3,57] (.exit 0))) (Sq (Bk 1 (So TZ (Sq (So HV (Xy 88 [1,3,4,88] (So fX .ret))) (Sq (So HU (Xy 92 [1,3,4,92] (So tL .ret))) (Sq (.flt [0,1,3,7,15,7,39,127,255,7,1023,2047,4095] [] HT [4,93,94,95,96,97,98,99,100,101,102,103,104]) (Xy 105 [1,3,105] (So w8 .ret))))))) (.ops HS))) [.gc [104]])
def lq:RC:=y9
def HR:List RI:=[om 106 5,Wf 107 6 1,Wc 108 107,Wi 109 108,Wg 110 .lss 106 109]
def HQ:List RI:=[Wf 113 6 1,Wc 114 113,om 115 5,WG 116 4 114 115,Wp 117 4 116,Wn 118 108 117,Wa 6 118]
def HP:List RI:=[om 119 6,Wb 120 .neq 119 0]
def HO:List RI:=[Wa 121 6,Wa 2 121]
def HN:List RI:=[Wa 111 5,Wb 112 .add 111 1,Wa 5 112]
def y8:RC:=(Sq (So HR (Xx 110 [1,5,110] (.exit 2))) (Sq (Bk 3 (So HQ (So HP (Kc 120 (Kk [1,5,120] (So HO .ret)) (Kk [6,120] .skip))))) (.ops HN)))
def tK:RC:=y8
def r62:RC:=(So oc (Sq (So T3 (Xy 10 [1,10] (So tL .ret))) (Sq (So T2 (Xy 42 [1,42] (So fX .ret))) (Sq (So T1 (Xy 52 [1,52] (So nZ .ret))) (Sq (So tN (Bk 0 (.loop lq))) (Sq (So oe (Bk 2 (.loop tK))) (So kv .ret)))))))
def F62:FnC:=⟨r62,122,[.tmp 2],[],[]⟩
def TY:List RI:=[om 5 1,Wi 6 5,Wb 7 .gtr 6 65535]
def TX:List RI:=[Wa 8 1,WW 9 1 8 65535,Wa 1 9]
def TW:List RI:=[Wa 10 0,om 11 1,Wi 12 11,W1 13 64 10 2 12,Wa 14 1,Ws 15 1 13 14,Wa 4 15]
def r63:RC:=(So ir (Sq (So TY (Xy 7 [7] (.ops TX))) (So TW .ret)))
def F63:FnC:=⟨r63,16,[.tmp 4],[0],[]⟩
def tJ:List RI:=[WX 6]
def TV:List RI:=[on 9 (.litB []),Wa 10 0,Ws 11 1 9 10,Wa 7 11]
def TU:List RI:=[om 12 1,Wb 13 .lss 12 1,Wa 14 13,.grp 14 false [(xi 15 14 false (Mv 1)),(xi 16 14 false (Bc .gtr 15 8))] [15],Wh 17 14 16]
def TT:List RI:=[Wa 18 7,Wa 6 18]
def TS:List RI:=[Wa 19 1,Wb 20 .sub 19 1,Wa 8 20]
def TR:List RI:=[om 21 8,Wb 22 .geq 21 0]
def TQ:List RI:=[Wa 25 7,om 26 2,WN 27 26,om 28 8,WN 29 28,oo 30 (.bin .mul (.c (.int .u64 8)) (.t 29)) [29],Wg 31 .shr 27 30,Wo 32 31,WO 33 32,Ws 34 1 25 33,Wa 7 34]
def TP:List RI:=[Wa 23 8,Wb 24 .sub 23 1,Wa 8 24]
def Ov:RC:=(.post (Sq (So TR (Xx 22 [2,8,22] (.exit 0))) (Sq (Bk 1 (.ops TQ)) (.ops TP))) [.tok 7 107])
def NY:RC:=Ov
def TO:List RI:=[Wa 35 7,Wa 6 35]
def r64:RC:=(So tJ (So TV (Sq (So TU (Xy 17 [1,2,17] (So TT .ret))) (Sq (So TS (Bk 0 (.pre [.tok 7 107] (.loop NY)))) (So TO .ret)))))
def F64:FnC:=⟨r64,36,[.tmp 6],[0],[]⟩
def TN:List RI:=[Wa 5 0,Wa 6 1,Wu 7 109 5 6,Wn 8 68 7,Wa 4 8]
def r65:RC:=(So ir (So TN .ret))
def F65:FnC:=⟨r65,9,[.tmp 4],[],[]⟩
def TL:List RI:=[om 5 0,Wi 6 5,Wn 7 110 6,WQ 8 7]
def TK:List RI:=[Wa 9 0,Wa 3 9]
def TJ:List RI:=[om 10 3,Wi 11 10,Wb 12 .gtr 11 1]
def TI:List RI:=[om 15 4,Wa 16 3,Wu 17 111 15 16,Wa 3 17]
def TH:List RI:=[Wa 13 4,Wb 14 .add 13 1,Wa 4 14]
def Ou:RC:=(Sq (So TJ (Xx 12 [4,12] (.exit 0))) (Sq (Bk 1 (.ops TI)) (.ops TH)))
def TG:RC:=Ou
def TF:List RI:=[Wa 18 3,oo 19 (.iaddrL 1 (.t 18) (ci 0)) [18],Wc 20 19,Wn 21 112 20,Wa 2 21]
def r66:RC:=(So lF (Sq (So TL (Xy 8 [0,8] (So qB .ret))) (So TK (Sq (So jD (Bk 0 (.loop TG))) (So TF .ret)))))
def F66:FnC:=⟨r66,22,[.tmp 2],[],[]⟩
def DL:List RI:=[oo 4 (.mov (.c (.lst 1 [] .clip))) [4]]
def DK:List RI:=[Xh 5]
def TE:List RI:=[Wa 8 0,om 9 1,Wu 10 113 8 9,Wa 6 10]
def TD:List RI:=[om 11 7,om 12 1,WN 13 12,WV 14 .shl 1 13,Wg 15 .lss 11 14]
def TC:List RI:=[Wa 18 5,om 19 6,om 20 7,Wu 21 114 19 20,WS 22 1 21,Xu 23 24 18 22,Wa 5 23]
def TB:List RI:=[Wa 16 7,Wb 17 .add 16 1,Wa 7 17]
def Ot:RC:=(.post (Sq (So TD (Xx 15 [1,6,7,15] (.exit 0))) (Sq (Bk 1 (.ops TC)) (.ops TB))) [.tok 5 105])
def TA:RC:=Ot
def Tz:List RI:=[Wa 24 5,Wa 4 24]
def r67:RC:=(So DL (So DK (So TE (Sq (So HW (Bk 0 (.pre [.tok 5 105] (.loop TA)))) (So Tz .ret)))))
def F67:FnC:=⟨r67,25,[.tmp 4],[],[]⟩
def Ty:List RI:=[on 18 (Ca 115 []),Xi 3,Wq 64 3 18]
def Tx:List RI:=[.own (xs 19 (.lit 1 [(.c (.int .u32 1779033703)),(.c (.int .u32 3144134277)),(.c (.int .u32 1013904242)),(.c (.int .u32 2773480762)),(.c (.int .u32 1359893119)),(.c (.int .u32 2600822924)),(.c (.int .u32 528734635)),(.c (.int .u32 1541459225))])) [],Wa 4 19]
def Tw:List RI:=[Wa 20 0,Wn 21 116 20,Wa 5 21]
def Tv:List RI:=[om 22 6,om 23 5,Wi 24 23,Wg 25 .lss 22 24]
def Tu:List RI:=[Xi 7]
def Tt:List RI:=[om 28 8,Wb 29 .lss 28 64]
def Ts:List RI:=[om 32 8,Wb 33 .lss 32 16]
def HM:List RI:=[om 34 8,om 35 5,om 36 6,om 37 6,Wb 38 .add 37 64,Xv 39 1 35 36 38,om 40 8,Wu 41 117 39 40,oo 42 (.iaddrA 64 1 (.t 7) (.t 34)) [34],Wy 1 42 41]
def HK:List FI:=[Fm 0 43 8,WA 1 44 .sub 43 15,WE 2 45 7 44,We 3 46 45,Fm 5 48 8,WA 6 49 .sub 48 15,WE 7 50 7 49,We 8 51 50,Fm 11 54 8,WA 12 55 .sub 54 15,WE 13 56 7 55,We 14 57 56,Fs 15 58 (.bin .shr (.t 57) (.c (.int .u64 3))),Fz 4 47 (Ca 118 [.t 46,(.c (.int .u64 7))]),Fz 9 52 (Ca 118 [.t 51,(.c (.int .u64 18))]),Wj 10 53 .xor 47 52,Wj 16 59 .xor 53 58,Fm 17 9 59]
def HJ:List FI:=[Fm 0 60 8,WA 1 61 .sub 60 2,WE 2 62 7 61,We 3 63 62,Fm 5 65 8,WA 6 66 .sub 65 2,WE 7 67 7 66,We 8 68 67,Fm 11 71 8,WA 12 72 .sub 71 2,WE 13 73 7 72,We 14 74 73,Fs 15 75 (.bin .shr (.t 74) (.c (.int .u64 10))),Fz 4 64 (Ca 118 [.t 63,(.c (.int .u64 17))]),Fz 9 69 (Ca 118 [.t 68,(.c (.int .u64 19))]),Wj 10 70 .xor 64 69,Wj 16 76 .xor 70 75,Fm 17 10 76]
def HI:List FI:=[Fm 0 77 8,Fm 1 78 10,Fm 2 79 8,WA 3 80 .sub 79 7,WE 4 81 7 80,We 5 82 81,Wj 6 83 .add 78 82,Fm 7 84 9,Wj 8 85 .add 83 84,Fm 9 86 8,WA 10 87 .sub 86 16,WE 11 88 7 87,We 12 89 88,Wj 13 90 .add 85 89,WE 14 91 7 77,Fr 15 1 91 90]
def HH:List RI:=[Wa 30 8,Wb 31 .add 30 1,Wa 8 31]
def y7:RC:=(Sq (So Tt (Xx 29 [8,29] (.exit 2))) (Sq (Bk 3 (Sq (So Ts (Xy 33 [33] (So HM (.exit 3)))) (Sq (.flt [0,1,3,7,15,0,32,96,224,511,1023,0,2048,6144,14336,30720,65535,131071] [] HK [43,44,45,46,47,48,49,50,51,52,53,54,55,56,57,58,59]) (Sq (.flt [0,1,3,7,15,0,32,96,224,511,1023,0,2048,6144,14336,30720,65535,131071] [] HJ [60,61,62,63,64,65,66,67,68,69,70,71,72,73,74,75,76]) (.flt [0,0,0,4,12,28,62,0,254,0,512,1536,3584,8190,16383,32767] [] HI [9,10,77,78,79,80,81,82,83,84,85,86,87,88,89,90,91]))))) (.ops HH)))
def yj:RC:=y7
def HG:List RI:=[on 92 (.lit 1 []),om 93 4,oo 94 (.app [.int .u32 0] 4 (.t 92) (.t 93)) [92,93],Wa 11 94]
def HF:List RI:=[Wk 12 0]
def HE:List RI:=[om 95 12,Wb 96 .lss 95 64]
def HD:List FI:=[Fm 0 99 11,WH 1 100 1 99 0,We 2 101 100,Fm 3 102 11,WH 4 103 1 102 4,We 5 104 103,Fm 6 13 101,Fm 7 14 104]
def HC:List FI:=[Fm 0 105 11,WH 1 106 1 105 7,We 2 107 106,Fm 3 108 14,Fm 5 110 14,Fm 8 113 14,Fm 12 117 14,Fm 13 118 11,WH 14 119 1 118 5,We 15 120 119,Wj 16 121 .and 117 120,Fm 17 122 14,Fs 18 123 (.un .xor (.t 122)),Fm 19 124 11,WH 20 125 1 124 6,We 21 126 125,Wj 22 127 .and 123 126,Wj 23 128 .xor 121 127,Fm 25 130 12,WE 26 131 3 130,We 27 132 131,Fm 29 134 12,WE 30 135 7 134,We 31 136 135,Fz 4 109 (Ca 118 [.t 108,(.c (.int .u64 6))]),Fz 6 111 (Ca 118 [.t 110,(.c (.int .u64 11))]),Wj 7 112 .xor 109 111,Fz 9 114 (Ca 118 [.t 113,(.c (.int .u64 25))]),Wj 10 115 .xor 112 114,Wj 11 116 .add 107 115,Wj 24 129 .add 116 128,Wj 28 133 .add 129 132,Wj 32 137 .add 133 136,Fm 33 15 137]
def HB:List FI:=[Fm 0 138 13,Fm 2 140 13,Fm 5 143 13,Fm 8 146 13,Fm 9 147 11,WH 10 148 1 147 1,We 11 149 148,Wj 12 150 .and 146 149,Fm 13 151 13,Fm 14 152 11,WH 15 153 1 152 2,We 16 154 153,Wj 17 155 .and 151 154,Wj 18 156 .xor 150 155,Fm 19 157 11,WH 20 158 1 157 1,We 21 159 158,Fm 22 160 11,WH 23 161 1 160 2,We 24 162 161,Wj 25 163 .and 159 162,Wj 26 164 .xor 156 163,Fz 1 139 (Ca 118 [.t 138,(.c (.int .u64 2))]),Fz 3 141 (Ca 118 [.t 140,(.c (.int .u64 13))]),Wj 4 142 .xor 139 141,Fz 6 144 (Ca 118 [.t 143,(.c (.int .u64 22))]),Wj 7 145 .xor 142 144,Wj 27 165 .add 145 164,Fm 28 16 165]
def Hz:List FI:=[Fm 0 166 15,Fm 1 167 16,Wj 2 168 .add 166 167,Fm 3 169 13,Fm 4 170 11,WH 5 171 1 170 1,We 6 172 171,Fm 7 173 11,WH 8 174 1 173 2,We 9 175 174,Fm 10 176 11,WH 11 177 1 176 3,We 12 178 177,Fm 13 179 15,Wj 14 180 .add 178 179,Fm 15 181 14,Fm 16 182 11,WH 17 183 1 182 5,We 18 184 183,Fm 19 185 11,WH 20 186 1 185 6,We 21 187 186,Fs 22 188 (.lit 1 [.t 168,.t 169,.t 172,.t 175,.t 180,.t 181,.t 184,.t 187]),⟨23,false,(xm 11 188)⟩]
def Hy:List RI:=[Wa 97 12,Wb 98 .add 97 1,Wa 12 98]
def y6:RC:=(Sq (So HE (Xx 96 [7,12,96] (.exit 4))) (Sq (Bk 5 (Sq (.flt [0,1,3,0,8,24,7,127] [] HD [99,100,101,102,103,104]) (Sq (.flt [0,1,3,0,8,0,56,120,0,376,1016,2047,0,0,8192,24576,61440,0,131072,0,524288,1572864,4063232,8384512,16777215,0,33554432,100663296,268435455,0,536870912,1610612736,4294967295,8589934591] [] HC [105,106,107,108,109,110,111,112,113,114,115,116,117,118,119,120,121,122,123,124,125,126,127,128,129,130,131,132,133,134,135,136,137]) (Sq (.flt [0,1,0,7,15,0,47,127,0,0,512,1536,3840,0,0,16384,49152,122880,261888,0,524288,1572864,0,4194304,12582912,33030144,67108608,134217727,268435455] [] HB [138,139,140,141,142,143,144,145,146,147,148,149,150,151,152,153,154,155,156,157,158,159,160,161,162,163,164,165]) (.flt [0,0,3,0,0,16,48,0,128,384,0,1024,3072,0,15360,0,0,65536,196608,0,524288,1572864,4194303,8388607] [] Hz [13,14,15,16,166,167,168,169,170,171,172,173,174,175,176,177,178,179,180,181,182,183,184,185,186,187,188]))))) (.ops Hy)))
def yi:RC:=y6
def yh:List RI:=[Wk 17 0]
def Hx:List RI:=[om 189 17,Wb 190 .lss 189 8]
def Hw:List FI:=[Fm 0 193 4,Fm 1 194 17,Wr 2 195 1 193 194,We 3 196 195,Fm 4 197 11,Fm 5 198 17,Wr 6 199 1 197 198,We 7 200 199,Wj 8 201 .add 196 200,Wr 9 202 1 193 194,Fr 10 1 202 201]
def Hv:List RI:=[Wa 191 17,Wb 192 .add 191 1,Wa 17 192]
def y5:RC:=(Sq (So Hx (Xx 190 [11,17,190] (.exit 6))) (Sq (Bk 7 (.flt [0,0,3,7,0,0,48,112,255,511,1023] [] Hw [193,194,195,196,197,198,199,200,201,202])) (.ops Hv)))
def yg:RC:=y5
def Hu:List RI:=[Wa 26 6,Wb 27 .add 26 64,Wa 6 27]
def y4:RC:=(.post (Sq (So Tv (Xx 25 [3,5,6,25] (.exit 0))) (Sq (Bk 1 (So Tu (Sq (So yk (Bk 2 (.loop yj))) (So HG (Sq (So HF (Bk 4 (.loop yi))) (So yh (Bk 6 (.loop yg)))))))) (.ops Hu))) [.gc [107,194]])
def ye:RC:=y4
def Ht:List RI:=[Wa 203 4,Wn 204 119 203,Wa 2 204]
def r68:RC:=(So lF (So Ty (So Tx (So Tw (Sq (So lH (Bk 0 (.loop ye))) (So Ht .ret))))))
def F68:FnC:=⟨r68,205,[.tmp 2],[],[]⟩
def Tq:List RI:=[oo 2 (.mov (.c .nilp)) [2]]
def Tp:List RI:=[Wa 3 0,Xf 4 1 3,oo 5 (.build [.byt [] .clip,.int .i64 0,.int .i64 0] [(0,1,(.t 4))]) [4],Wz 6 5,Wa 2 6]
def r74:RC:=(So Tq (So Tp .ret))
def F74:FnC:=⟨r74,7,[.tmp 2],[],[]⟩
def NX:List RI:=[om 10 0,WI 11 10,Wt 12 2 11,Wc 13 12,Wb 14 .neq 13 0]
def To:List RI:=[om 15 1,Wb 16 .lss 15 1,Wa 17 16,.grp 17 false [(xi 18 17 false (Mv 1)),(xi 19 17 false (Bc .gtr 18 8))] [18],Wh 20 17 19]
def Tn:List RI:=[Wa 21 0,oo 22 (Ca 124 [.t 21,ci 1]) [21,22]]
def Tm:List RI:=[om 24 0,om 25 0,WI 26 25,Wt 27 1 26,Wc 28 27,om 29 1,Xg 30 125 24 28 29,Wa 23 30,WF 31 23 0,WD 32 23 1,Wa 5 31,Wa 6 32]
def Tl:List RI:=[om 33 6,Wb 34 .neq 33 0]
def Tk:List RI:=[Wa 35 0,Wa 36 6,oo 37 (Ca 124 [.t 35,.t 36]) [35,36,37]]
def Hs:List RI:=[on 7 (.mov (.c (.int .u64 0)))]
def Hr:List RI:=[Wa 38 5,on 39 (Ln 38),Wk 40 0]
def Hq:List RI:=[on 41 (Bb .lss 40 39)]
def Hp:List RI:=[on 42 (Ia 1 38 40),Wc 43 42,Wa 9 43]
def Ho:List RI:=[Wa 44 7,W4 45 .shl 44,Wa 46 9,WN 47 46,Wg 48 .or 45 47,Wa 7 48]
def Hn:List RI:=[Wb 49 .add 40 1,Wa 40 49]
def y3:RC:=(So Hq (Sq (Xx 41 [38,39,40,41] (.exit 0)) (Sq (Bk 1 (So Hp (.ops Ho))) (.ops Hn))))
def yc:RC:=y3
def Hm:List RI:=[om 50 7,oo 51 (.bin .gtr (.t 50) (.c (.int .u64 9223372036854775807))) [50]]
def Hl:List RI:=[Wa 52 0,oo 53 (Ca 124 [.t 52,ci 4]) [52,53]]
def Hk:List RI:=[Wa 54 0,on 55 (.nchk (.t 54)),Wt 56 1 55,Wc 57 56,Wa 58 1,Wg 59 .add 57 58,WI 60 54,Wt 61 1 60,Wy 1 61 59]
def Hj:List RI:=[Wa 62 7,W9 63 62,Wa 4 63]
def r75:RC:=(So tP (Sq (So NX (Xy 14 [0,1,14] (So jD .ret))) (Sq (So To (Xy 20 [1,20] (So Tn (So jD .ret)))) (So Tm (Sq (So Tl (Kc 34 (Kk [1,5,34] (So Tk (So jD .ret))) (Kk [6,34] .skip))) (So Hs (Sq (So Hr (Bk 0 (.loop yc))) (Sq (So Hm (Xy 51 [1,7,51] (So Hl (So jD .ret)))) (So Hk (So Hj .ret))))))))))
def F75:FnC:=⟨r75,64,[.tmp 4],[],[]⟩
def Tj:List RI:=[om 15 0,oo 16 (.mkfn 125 [.t 15] []) [15],Wa 5 16]
def Ti:List RI:=[om 18 5,om 19 0,WI 20 19,Wt 21 1 20,Wc 22 21,oo 23 (.call (.t 18) [.t 22,ci 2]) [18,22],Wa 17 23,WF 24 17 0,WD 25 17 1,Wa 6 24,Wa 7 25]
def Th:List RI:=[om 26 7,Wb 27 .neq 26 0]
def Tg:List RI:=[Wa 28 0,Wa 29 7,oo 30 (Ca 124 [.t 28,.t 29]) [28,29,30]]
def Tf:List FI:=[Fm 0 31 6,WH 1 32 1 31 0,We 2 33 32,Xa 3 34 33,Fs 4 35 (.bin .shl (.t 34) (.c (.int .u64 8))),Fm 5 36 6,WH 6 37 1 36 1,We 7 38 37,Xa 8 39 38,Wj 9 40 .or 35 39,Fm 10 8 40]
def Te:List RI:=[om 41 8,Wa 42 1,Wg 43 .gtr 41 42]
def Hi:List RI:=[Wa 44 0,oo 45 (Ca 124 [.t 44,ci 4]) [44,45]]
def Hh:List RI:=[Wa 47 5,om 48 0,WI 49 48,Wt 50 1 49,Wc 51 50,Wb 52 .add 51 2,om 53 8,oo 54 (.call (.t 47) [.t 52,.t 53]) [47,52,53],Wa 46 54,WF 55 46 0,WD 56 46 1,Wa 9 55,Wa 7 56]
def Hg:List RI:=[om 57 7,Wb 58 .neq 57 0]
def Hf:List RI:=[Wa 59 0,Wa 60 7,oo 61 (Ca 124 [.t 59,.t 60]) [59,60,61]]
def He:List RI:=[Wa 62 0,on 63 (.nchk (.t 62)),Wt 64 1 63,Wc 65 64,Wa 66 8,WV 67 .add 2 66,Wg 68 .add 65 67,WI 69 62,Wt 70 1 69,Wy 1 70 68]
def Hd:List RI:=[Wa 71 9,Xf 72 1 71,Wa 4 72]
def r76:RC:=(So ir (Sq (So NX (Xy 14 [0,1,14] (So kR .ret))) (So Tj (So Ti (Sq (So Th (Kc 27 (Kk [1,5,6,27] (So Tg (So kR .ret))) (Kk [7,27] .skip))) (Sq (.flt [0,1,3,7,15,0,32,96,224,511,1023] [] Tf [6,31,32,33,34,35,36,37,38,39,40]) (Sq (So Te (Xy 43 [5,8,43] (So Hi (So kR .ret)))) (So Hh (Sq (So Hg (Kc 58 (Kk [8,9,58] (So Hf (So kR .ret))) (Kk [7,58] .skip))) (So He (So Hd .ret)))))))))))
def F76:FnC:=⟨r76,73,[.tmp 4],[],[]⟩
def tI:List RI:=[WL 2 0]
def Td:List RI:=[Wa 3 0,WI 4 3,Wt 5 2 4,Wc 6 5,Wa 2 6]
def r77:RC:=(So tI (So Td .ret))
def F77:FnC:=⟨r77,7,[.tmp 2],[],[]⟩
def Tc:List RI:=[om 7 0,WI 8 7,Wt 9 2 8,Wc 10 9,Wb 11 .neq 10 0]
def Tb:List RI:=[om 12 1,Wb 13 .lss 12 0]
def Ta:List RI:=[Wa 14 0,oo 15 (Ca 124 [.t 14,ci 1]) [14,15]]
def S9:List RI:=[om 17 0,om 18 0,WI 19 18,Wt 20 1 19,Wc 21 20,om 22 1,Xg 23 125 17 21 22,Wa 16 23,WF 24 16 0,WD 25 16 1,Wa 5 24,Wa 6 25]
def S8:List RI:=[om 26 6,Wb 27 .neq 26 0]
def S7:List RI:=[Wa 28 0,Wa 29 6,oo 30 (Ca 124 [.t 28,.t 29]) [28,29,30]]
def Hc:List RI:=[Wa 31 0,on 32 (.nchk (.t 31)),Wt 33 1 32,Wc 34 33,Wa 35 1,Wg 36 .add 34 35,WI 37 31,Wt 38 1 37,Wy 1 38 36]
def Hb:List RI:=[Wa 39 5,Xf 40 1 39,Wa 4 40]
def r78:RC:=(So ir (Sq (So Tc (Xy 11 [0,1,11] (So kR .ret))) (Sq (So Tb (Xy 13 [1,13] (So Ta (So kR .ret)))) (So S9 (Sq (So S8 (Kc 27 (Kk [1,5,27] (So S7 (So kR .ret))) (Kk [6,27] .skip))) (So Hc (So Hb .ret)))))))
def F78:FnC:=⟨r78,41,[.tmp 4],[],[]⟩
def S6:List RI:=[om 3 0,WI 4 3,Wt 5 2 4,Wc 6 5,Wb 7 .eql 6 0,Wa 8 7,.grp 8 true [(xi 9 8 true (Mv 0)),(xi 10 8 true (Ca 126 [.t 9])),(xi 11 8 true (Bc .gtr 10 0))] [9,10],Wv 12 8 11]
def S5:List RI:=[Wk 2 3]
def S4:List RI:=[Wa 13 0,WI 14 13,Wt 15 2 14,Wc 16 15,Wa 2 16]
def r79:RC:=(So tI (Sq (So S6 (Xy 12 [0,12] (So S5 .ret))) (So S4 .ret)))
def F79:FnC:=⟨r79,17,[.tmp 2],[],[]⟩
def S3:List RI:=[Wf 9 0 1,Wc 10 9,Wn 11 127 10,WQ 12 11,Wa 8 12]
def SZ:List RI:=[Wf 14 2 1,Wc 15 14,Wb 16 .lss 15 0,Wa 17 16,.grp 17 false [(xi 18 17 false (Fa 2 1)),(xi 19 17 false (Ld 18)),(xi 20 17 false (Fa 1 1)),(xi 21 17 false (Ld 20)),(xi 22 17 false (Bb .gtr 19 21))] [18,19,20,21],Wh 23 17 22,Wa 24 23,.grp 24 false [(xi 25 24 false (Fa 1 1)),(xi 26 24 false (Ld 25)),(xi 27 24 false (Bc .gtr 26 1000000))] [25,26],Wh 28 24 27,Wa 29 28,.grp 29 false [(xi 30 29 false (Fa 3 1)),(xi 31 29 false (Ld 30)),(xi 32 29 false (Bc .lss 31 0))] [30,31],Wh 33 29 32,Wa 34 33,.grp 34 false [(xi 35 34 false (Fa 3 1)),(xi 36 34 false (Ld 35)),(xi 37 34 false (Fa 4 1)),(xi 38 34 false (Ld 37)),(xi 39 34 false (Bb .geq 36 38))] [35,36,37,38],Wh 40 34 39,Wa 41 40,.grp 41 false [(xi 42 41 false (Fa 4 1)),(xi 43 41 false (Ld 42)),(xi 44 41 false (Bc .gtr 43 1099511627776))] [42,43],Wh 45 41 44,Wa 13 45]
def SY:List RI:=[Wf 47 5 1,Wc 48 47,Wi 49 48,Wb 50 .gtr 49 16,Wa 51 50,.grp 51 false [(xi 52 51 false (Fa 6 1)),(xi 53 51 false (Ld 52)),(xi 54 51 false (Ln 53)),(xi 55 51 false (Bc .gtr 54 8))] [52,53,54],Wh 56 51 55,Wa 46 56]
def SX:List RI:=[Wf 57 5 1,Wc 58 57,on 59 (Ln 58),Wk 60 0]
def SW:List RI:=[on 61 (Bb .lss 60 59)]
def SU:List RI:=[om 62 60,on 63 (Ia 4 58 60),Wp 64 4 63,Xd 4,Wa 3 62,WB 4 64]
def Ha:List RI:=[Wf 66 0 4,Wc 67 66,Wb 68 .lss 67 1,Wa 69 68,.grp 69 false [(xi 70 69 false (Fa 0 4)),(xi 71 69 false (Ld 70)),(xi 72 69 false (Bc .gtr 71 3))] [70,71],Wh 73 69 72,Wa 74 73,.grp 74 false [(xi 75 74 false (Fa 2 4)),(xi 76 74 false (Ld 75)),(xi 77 74 false (Bc .lss 76 0))] [75,76],Wh 78 74 77,Wa 79 78,.grp 79 false [(xi 80 79 false (Fa 2 4)),(xi 81 79 false (Ld 80)),(xi 82 79 false (Bc .gtr 81 1000000))] [80,81],Wh 83 79 82,Wa 84 83,.grp 84 false [(xi 85 84 false (Fa 3 4)),(xi 86 84 false (Ld 85)),(xi 87 84 false (Ln 86)),(xi 88 84 false (Bc .neq 87 32))] [85,86,87],Wh 89 84 88,Wa 65 89]
def G9:List RI:=[Wf 91 1 4,Wc 92 91,Wn 93 127 92,WQ 94 93,Wa 90 94]
def G8:List FI:=[Fm 0 96 3,WA 1 97 .gtr 96 0,Fm 2 98 97,Fi 3 99 98 true (Fa 5 1),Fi 4 100 98 true (Ld 99),Fi 5 101 98 true (Mv 3),Fi 6 102 98 true (Bc .sub 101 1),Fi 7 103 98 true (Ia 4 100 102),Fi 8 104 98 true (Lt 4 103),Fi 9 105 98 true (Lt 4 4),Fy 10 106 98 true (Ca 128 [.t 104,.t 105]),Fi 11 107 98 true (Bc .geq 106 0),Fs 12 108 (Pf 98 107),Fm 13 95 108]
def G7:List RI:=[Wb 109 .add 60 1,Wa 60 109]
def y2:RC:=(.post (So SW (Sq (Xx 61 [58,59,60,61] (.exit 1)) (Sq (Bk 2 (So SU (Bk 3 (So Ha (Kc 65 (Kk [1,3,4,58,59,60,65] (So fX .ret)) (Kk [65] (So G9 (Kc 90 (Kk [1,3,4,58,59,60,90] (So tL .ret)) (Kk [90] (Sq (.flt [0,1,3,7,15,7,39,127,255,7,1023,2047,4095,8191] [] G8 [3,4,96,97,98,99,100,101,102,103,104,105,106,107,108]) (Xy 95 [1,58,59,60,95] (So w8 .ret)))))))))))) (.ops G7)))) [.gc [104]])
def ln:RC:=y2
def G6:List RI:=[Wt 110 6 1,Wc 111 110,on 112 (Ln 111),Wk 113 0]
def G5:List RI:=[on 114 (Bb .lss 113 112)]
def G4:List RI:=[on 115 (Ia 4 111 113),Wp 116 4 115,on 6 (.new (.rc Zq4)),Wq 4 6 116]
def G3:List RI:=[Wp 117 4 6,Wn 118 129 117,Wa 7 118]
def G2:List RI:=[om 119 7,Wb 120 .neq 119 0]
def G1:List RI:=[Wa 121 7,Wa 2 121]
def GZ:List RI:=[Wb 122 .add 113 1,Wa 113 122]
def yZ:RC:=(.post (So G5 (Sq (Xx 114 [111,112,113,114] (.exit 4)) (Sq (Bk 5 (So G4 (So G3 (So G2 (Kc 120 (Kk [111,112,113,120] (So G1 .ret)) (Kk [7,120] .skip)))))) (.ops GZ)))) [.gc [106]])
def tH:RC:=yZ
def r80:RC:=(So oc (Sq (Bk 0 (So S3 (Kc 8 (Kk [1,8] (So tL .ret)) (Kk [8] (So SZ (Kc 13 (Kk [1,13] (So fX .ret)) (Kk [13] (So SY (Xy 46 [1,46] (So nZ .ret)))))))))) (Sq (So SX (Bk 1 (.loop ln))) (Sq (So G6 (Bk 4 (.loop tH))) (So kv .ret)))))
def F80:FnC:=⟨r80,123,[.tmp 2],[],[]⟩
def NW:List RI:=[WL 6 0,WR 7 false]
def NV:List RI:=[om 12 0,Wi 13 12,Wa 8 13]
def NU:List RI:=[om 14 8,Wk 9 0,Wa 10 14]
def NT:List RI:=[om 15 9,om 16 10,Wg 17 .lss 15 16]
def NS:List RI:=[om 18 9,om 19 10,Wg 20 .add 18 19,WN 21 20,oo 22 (.bin .shr (.t 21) (.c (.int .u64 1))) [21],W9 23 22,Wa 11 23]
def SS:List RI:=[om 24 2,om 25 0,om 26 11,WG 27 7 25 26,Wp 28 7 27,om 29 1,oo 30 (.call (.t 24) [.t 28,.t 29]) [24,28,29],Wb 31 .lss 30 0]
def NR:List RI:=[Wa 32 11,Wb 33 .add 32 1,Wa 9 33]
def NQ:List RI:=[Wa 34 11,Wa 10 34]
def Oq:RC:=(Sq (So NT (Xx 17 [10,17] (.exit 0))) (Bk 1 (So NS (So SS (Kc 31 (Kk [9,31] (.ops NR)) (Kk [10,31] (.ops NQ)))))))
def NP:RC:=Oq
def SR:List RI:=[om 35 9,om 36 9,Wa 37 8,Wg 38 .lss 36 37,Wa 39 38,.grp 39 true [(xi 40 39 true (Mv 2)),(xi 41 39 true (Mv 0)),(xi 42 39 true (Mv 9)),(xi 43 39 true (Ia 7 41 42)),(xi 44 39 true (Lt 7 43)),(xi 45 39 true (Mv 1)),(xi 46 39 true (.call (.t 40) [.t 44,.t 45])),(xi 47 39 true (Bc .eql 46 0))] [0,1,2,9,40,41,42,43,44,45,46],Wv 48 39 47,Wa 6 35,Wa 7 48]
def r81:RC:=(So NW (So NV (So NU (Sq (Bk 0 (.loop NP)) (So SR .ret)))))
def F81:FnC:=⟨r81,49,[.tmp 6,.tmp 7],[],[]⟩
def SQ:List RI:=[Wz 2 0,WL 4 0]
def SP:List RI:=[Wp 5 7 2,Wn 6 32 5,Wa 7 1,Wu 8 83 6 7,Wa 4 8]
def r82:RC:=(So SQ (So SP .ret))
def F82:FnC:=⟨r82,9,[.tmp 4],[],[]⟩
def SO:List RI:=[Wa 5 0,Xe 6 5,Wa 7 1,Xe 8 7,Wg 9 .eql 6 8,Wa 4 9]
def r84:RC:=(So Eb (So SO .ret))
def F84:FnC:=⟨r84,10,[.tmp 4],[],[]⟩
def SN:List RI:=[Wz 1 0,WR 2 false]
def SM:List RI:=[Wf 3 2 1,Wc 4 3,Wi 5 4,Wt 6 3 1,Wc 7 6,Wi 8 7,Wg 9 .add 5 8,Wb 10 .geq 9 16,Wa 2 10]
def r85:RC:=(So SN (So SM .ret))
def F85:FnC:=⟨r85,11,[.tmp 2],[],[]⟩
def SL:List RI:=[Wz 4 1,WL 6 0,WR 7 false]
def SK:List FI:=[Fm 0 24 2,Fm 1 25 0,Fm 2 26 11,Wr 3 27 2 25 26,Ww 4 28 2 27,Ww 5 29 2 4,Fz 6 30 (.call (.t 24) [.t 28,.t 29]),WA 7 31 .lss 30 0]
def Oo:RC:=(Sq (So NT (Xx 17 [10,17] (.exit 0))) (Bk 1 (So NS (Sq (.flt [0,0,0,6,14,0,63,127] [] SK [24,25,26,27,28,29,30]) (Kc 31 (Kk [9,31] (.ops NR)) (Kk [10,31] (.ops NQ)))))))
def NO:RC:=Oo
def SJ:List FI:=[Fm 0 35 9,Fm 1 36 9,Fm 2 37 8,Wj 3 38 .lss 36 37,Fm 4 39 38,Fi 5 40 39 true (Mv 2),Fi 6 41 39 true (Mv 0),Fi 7 42 39 true (Mv 9),Fi 8 43 39 true (Ia 2 41 42),Fi 9 44 39 true (Lt 2 43),Fi 10 45 39 true (Lt 2 4),Fy 11 46 39 true (.call (.t 40) [.t 44,.t 45]),Fi 12 47 39 true (Bc .eql 46 0),Fs 13 48 (Pf 39 47),Fm 14 6 35,Fm 15 7 48]
def r88:RC:=(So SL (So NV (So NU (Sq (Bk 0 (.loop NO)) (Sq (.flt [0,0,0,6,14,30,30,30,222,478,30,2046,4094,8190,4095,32767] [] SJ [0,2,4,8,9,35,36,37,38,39,40,41,42,43,44,45,46,47,48]) .ret)))))
def F88:FnC:=⟨r88,49,[.tmp 6,.tmp 7],[],[]⟩
def SH:List FI:=[Wm 0 5 0 2,We 1 6 5,Wm 2 7 0 3,We 3 8 7,Wm 5 10 1 2,We 6 11 10,Wm 7 12 1 3,We 8 13 12,WC 4 9 83 6 8,WC 9 14 134 11 13,Fs 10 15 (.lit 1 [.t 9,.t 14]),WK 11 16 133 15,Fm 12 4 16]
def r89:RC:=(So DN (Sq (.flt [0,1,0,4,15,0,32,0,128,511,1023,2047,4095] [] SH [2,3,5,6,7,8,9,10,11,12,13,14,15,16]) .ret))
def F89:FnC:=⟨r89,17,[.tmp 4],[],[]⟩
def SG:List RI:=[om 6 5,om 7 0,Wi 8 7,Wg 9 .lss 6 8,Wa 10 9,.grp 10 true [(xi 11 10 true (Mv 5)),(xi 12 10 true (Mv 1)),(xi 13 10 true (Ln 12)),(xi 14 10 true (Bb .lss 11 13))] [11,12,13],Wv 15 10 14]
def SF:List FI:=[Fm 0 18 0,Fm 1 19 5,Wr 2 20 1 18 19,We 3 21 20,Fm 4 22 1,Fm 5 23 5,Wr 6 24 1 22 23,We 7 25 24,Wj 8 26 .neq 21 25]
def SE:List FI:=[Fm 0 27 0,Fm 1 28 5,Wr 2 29 1 27 28,We 3 30 29,Fm 4 31 1,Fm 5 32 5,Wr 6 33 1 31 32,We 7 34 33,Wj 8 35 .lss 30 34,Fm 9 4 35]
def SD:List RI:=[Wa 16 5,Wb 17 .add 16 1,Wa 5 17]
def On:RC:=(Sq (So SG (Xx 15 [5,15] (.exit 0))) (Sq (Bk 1 (Sq (.flt [0,0,3,7,0,0,48,112,255] [] SF [18,19,20,21,22,23,24,25]) (Xy 26 [26] (Sq (.flt [0,0,3,7,0,0,48,112,255,511] [] SE [0,1,5,27,28,29,30,31,32,33,34,35]) .ret)))) (.ops SD)))
def NN:RC:=On
def SC:List RI:=[Wa 36 0,Wi 37 36,Wa 38 1,Wi 39 38,Wg 40 .lss 37 39,Wa 4 40]
def r98:RC:=(So Eb (Sq (So oe (Bk 0 (.loop NN))) (So SC .ret)))
def F98:FnC:=⟨r98,41,[.tmp 4],[],[]⟩
def SB:List RI:=[Wa 5 0,Wa 6 1,Wu 7 140 5 6,Wb 8 .geq 7 0,Wa 4 8]
def r99:RC:=(So Eb (So SB .ret))
def F99:FnC:=⟨r99,9,[.tmp 4],[],[]⟩
def MV:List RI:=[Wz 3 0,WR 4 false]
def MU:List RI:=[Wf 5 1 3,Wc 6 5,Wc 7 1,Wg 8 .leq 6 7,Wa 9 8,.grp 9 true [(xi 10 9 true (Fa 0 3)),(xi 11 9 true (Ld 10)),(xi 12 9 true (Ld 2)),(xi 13 9 true (Ca 84 [.t 11,.t 12]))] [2,3,10,11,12],Wv 14 9 13,Wa 4 14]
def xjt:RC:=(So MV (So MU .ret))
def Z3:FnC:=⟨xjt,15,[.tmp 4],[],[]⟩
def MT:List RI:=[Wa 9 0,Xf 10 1 9,Wa 7 10]
def MS:List RI:=[om 11 1,Wb 12 .lss 11 1,Wa 13 12,.grp 13 false [(xi 14 13 false (Mv 1)),(xi 15 13 false (Bc .gtr 14 8))] [14],Wh 16 13 15]
def MR:List RI:=[Wa 17 7,Wa 6 17]
def MQ:List RI:=[Wa 18 1,Wb 19 .sub 18 1,Wa 8 19]
def MP:List RI:=[om 20 8,Wb 21 .geq 20 0]
def MO:List RI:=[Wa 24 7,om 25 2,WN 26 25,om 27 8,WV 28 .mul 8 27,WN 29 28,Wg 30 .shr 26 29,Wo 31 30,WO 32 31,Ws 33 1 24 32,Wa 7 33]
def MN:List RI:=[Wa 22 8,Wb 23 .sub 22 1,Wa 8 23]
def zI:RC:=(.post (Sq (So MP (Xx 21 [2,8,21] (.exit 0))) (Sq (Bk 1 (.ops MO)) (.ops MN))) [.tok 7 107])
def yQ:RC:=zI
def MM:List RI:=[Wa 34 7,Wa 6 34]
def xjs:RC:=(So tJ (So MT (Sq (So MS (Xy 16 [1,2,16] (So MR .ret))) (Sq (So MQ (Bk 0 (.pre [.tok 7 107] (.loop yQ)))) (So MM .ret)))))
def Z2:FnC:=⟨xjs,35,[.tmp 6],[0],[]⟩
def ML:List RI:=[om 5 1,Wa 6 1,Wi 7 6,oo 8 (.mini (.t 7) (ci 65535)) [7],oo 9 (.slcL 1 (.t 5) none (some (.t 8)) none) [5,8],Wa 1 9]
def MK:List RI:=[Wa 10 0,om 11 1,Wi 12 11,W1 13 101 10 2 12,Wa 14 1,Ws 15 1 13 14,Wa 4 15]
def xjr:RC:=(So ir (So ML (So MK .ret)))
def Z1:FnC:=⟨xjr,16,[.tmp 4],[0],[]⟩
def MJ:List RI:=[Wa 9 0]
def MI:List RI:=[on 11 (Bc .eql 9 0),Wa 10 11]
def MH:List RI:=[on 12 (.build [.int .u32 0,.int .u32 0,.int .u32 0,.int .u32 0,.int .u32 0] [(0,1,(.c (.int .u32 1732584193))),(1,1,(.c (.int .u32 4023233417))),(2,1,(.c (.int .u32 2562383102))),(3,1,(.c (.int .u32 271733878))),(4,1,(.c (.int .u32 3285377520)))]),on 5 (.new (.arr 1 (aH 5 [.int .u32 0]))),WB 5 12]
def MG:List RI:=[Wa 13 1,Wn 14 141 13,Wa 6 14]
def MF:List RI:=[om 15 6,Wi 16 15,Wb 17 .gtr 16 0]
def ME:List RI:=[om 20 6,WW 21 1 20 64,oo 22 (Ca 142 [.t 5,.t 21]) [21,22]]
def MD:List RI:=[Wa 18 6,Xj 19 1 18 64,Wa 6 19]
def zH:RC:=(Sq (So MF (Xx 17 [6,17] (.exit 1))) (Sq (Bk 2 (.ops ME)) (.ops MD)))
def MC:RC:=zH
def MB:List RI:=[oo 23 (.slcA 5 1 (.t 5) none none none) [5],Wn 24 143 23,Wa 4 24]
def Bh:List RI:=[Wb 26 .eql 9 1,Wa 25 26]
def Bg:List RI:=[on 27 (.build [.int .u32 0,.int .u32 0,.int .u32 0,.int .u32 0,.int .u32 0,.int .u32 0,.int .u32 0,.int .u32 0] [(0,1,(.c (.int .u32 1779033703))),(1,1,(.c (.int .u32 3144134277))),(2,1,(.c (.int .u32 1013904242))),(3,1,(.c (.int .u32 2773480762))),(4,1,(.c (.int .u32 1359893119))),(5,1,(.c (.int .u32 2600822924))),(6,1,(.c (.int .u32 528734635))),(7,1,(.c (.int .u32 1541459225)))]),on 7 (.new (.arr 1 (aH 8 [.int .u32 0]))),Wq 8 7 27]
def Bf:List RI:=[Wa 28 1,Wn 29 141 28,Wa 8 29]
def Be:List RI:=[om 30 8,Wi 31 30,Wb 32 .gtr 31 0]
def Bd:List RI:=[om 35 8,WW 36 1 35 64,oo 37 (Ca 144 [.t 7,.t 36]) [36,37]]
def Ba:List RI:=[Wa 33 8,Xj 34 1 33 64,Wa 8 34]
def tg:RC:=(Sq (So Be (Xx 32 [8,32] (.exit 3))) (Sq (Bk 4 (.ops Bd)) (.ops Ba)))
def sn:RC:=tg
def A9:List RI:=[oo 38 (.slcA 8 1 (.t 7) none none none) [7],Wn 39 143 38,Wa 4 39]
def xjq:RC:=(So ir (Sq (So MJ (Bk 0 (So MI (Kc 10 (Kk [9,10] (So MH (Sq (So MG (Bk 1 (.loop MC))) (So MB .ret)))) (Kk [10] (So Bh (Kc 25 (Kk [25] (So Bg (Sq (So Bf (Bk 3 (.loop sn))) (So A9 .ret)))) (Kk [1,25] .skip)))))))) (So kR .ret)))
def Z0:FnC:=⟨xjq,40,[.tmp 4],[],[]⟩
def MA:List RI:=[Wa 9 0,Wo 10 9,WO 11 10,Wa 5 11]
def Mz:List RI:=[Wa 12 1,on 13 (Ln 12),Wk 14 0]
def yP:List RI:=[on 15 (Bb .lss 14 13)]
def My:List RI:=[on 16 (Ia 1 12 14),Wc 17 16,Wa 7 17]
def Mx:List RI:=[om 18 7,Wi 19 18,oo 20 (.toInt .u32 (.t 19)) [19],Wa 8 20]
def Mw:List RI:=[Wa 21 5,om 22 8,Xk 23 .shr 22,Wo 24 23,om 25 8,Xl 26 .shr 25,Wo 27 26,om 28 8,W4 29 .shr 28,Wo 30 29,Wa 31 8,Wo 32 31,Xm 33 24 27 30 32,Ws 34 1 21 33,Wa 5 34]
def Mu:List RI:=[Wa 35 5,Wa 36 7,Ws 37 1 35 36,Wa 5 37]
def Mt:List RI:=[Wb 38 .add 14 1,Wa 14 38]
def zG:RC:=(.post (So yP (Sq (Xx 15 [12,13,14,15] (.exit 0)) (Sq (Bk 1 (So My (So Mx (So Mw (.ops Mu))))) (.ops Mt)))) [.tok 5 105])
def yO:RC:=zG
def A8:List RI:=[Wa 39 5,Wa 4 39]
def xjp:RC:=(So ir (So MA (Sq (So Mz (Bk 0 (.pre [.tok 5 105] (.loop yO)))) (So A8 .ret))))
def ZZ:FnC:=⟨xjp,40,[.tmp 4],[],[]⟩
def lv:List RI:=[WX 8]
def Ms:List RI:=[om 12 1,Wb 13 .lss 12 0,Wa 14 13,.grp 14 false [(xi 15 14 false (Mv 1)),(xi 16 14 false (Bc .gtr 15 3))] [15],Wh 17 14 16,Wa 18 17,.grp 18 false [(xi 19 18 false (Mv 2)),(xi 20 18 false (Bc .lss 19 0))] [19],Wh 21 18 20,Wa 22 21,.grp 22 false [(xi 23 22 false (Mv 2)),(xi 24 22 false (Mv 1)),(xi 25 22 false (.toInt .u64 (.t 24))),(xi 26 22 false (.bin .shl (ci 1) (.t 25))),(xi 27 22 false (Bb .geq 23 26))] [23,24,25,26],Wh 28 22 27]
def tW:List RI:=[WY 8]
def Mr:List RI:=[om 29 2,Wo 30 29,WO 31 30,om 32 0,om 33 1,Wu 34 113 32 33,om 35 2,Wa 36 3,Xg 37 145 34 35 36,Ws 38 1 31 37,Wa 9 38]
def Mq:List RI:=[Wa 39 2,Wa 40 0,Wa 41 1,Wu 42 67 40 41,Wu 43 146 39 42,Wa 10 43]
def Mp:List RI:=[Wk 11 0]
def Mo:List RI:=[om 44 11,om 45 10,Wi 46 45,Wg 47 .lss 44 46]
def Mn:List RI:=[Wa 50 9,om 51 10,om 52 11,WG 53 1 51 52,Wc 54 53,Ws 55 1 50 54,Wa 9 55]
def Mm:List RI:=[Wa 48 11,Wb 49 .add 48 1,Wa 11 49]
def zF:RC:=(.post (Sq (So Mo (Xx 47 [10,11,47] (.exit 0))) (Sq (Bk 1 (.ops Mn)) (.ops Mm))) [.tok 9 109])
def Ml:RC:=zF
def A7:List RI:=[Wa 56 9,Wa 8 56]
def xjo:RC:=(So lv (Sq (So Ms (Xy 28 [0,1,2,3,28] (So tW .ret))) (So Mr (So Mq (Sq (So Mp (Bk 0 (.pre [.tok 9 109] (.loop Ml)))) (So A7 .ret))))))
def ZY:FnC:=⟨xjo,57,[.tmp 8],[],[]⟩
def lu:List RI:=[WR 2 false]
def Mj:List RI:=[om 5 0,Xb 6 true 5,Wb 7 .lss 6 1,Wa 8 7,.grp 8 false [(xi 9 8 false (Mv 0)),(xi 10 8 false (.len true (.t 9))),(xi 11 8 false (Bc .gtr 10 12))] [9,10],Wh 12 8 11]
def yN:List RI:=[on 2 (Mb false)]
def Mi:List RI:=[om 13 3,om 14 0,Xb 15 true 14,Wg 16 .lss 13 15]
def Mh:List RI:=[om 19 0,om 20 3,oo 21 (.idxS (.t 19) (.t 20)) [19,20],Wa 4 21]
def Mg:List RI:=[om 22 4,oo 23 (.bin .lss (.t 22) (.c (.u8 97))) [22],Wa 24 23,.grp 24 false [(xi 25 24 false (Mv 4)),(xi 26 24 false (.bin .gtr (.t 25) (.c (.u8 122))))] [25],Wh 27 24 26,Wa 28 27,.grp 28 true [(xi 29 28 true (Mv 4)),(xi 30 28 true (.bin .lss (.t 29) (.c (.u8 48)))),(xi 31 28 true (Mv 30))] [29,30],.grp 31 false [(xi 32 31 false (Mv 4)),(xi 33 31 false (.bin .gtr (.t 32) (.c (.u8 57))))] [32],.grp 28 true [(xi 34 28 true (Pt 31 33))] [31,33],Wv 35 28 34,Wa 36 35,.grp 36 true [(xi 37 36 true (Mv 4)),(xi 38 36 true (.bin .neq (.t 37) (.c (.u8 45))))] [4,37],Wv 39 36 38]
def yM:List RI:=[Wa 17 3,Wb 18 .add 17 1,Wa 3 18]
def zE:RC:=(Sq (So Mi (Xx 16 [0,3,16] (.exit 0))) (Sq (Bk 1 (So Mh (So Mg (Xy 39 [0,3,39] (So yN .ret))))) (.ops yM)))
def yL:RC:=zE
def A6:List RI:=[on 2 (Mb true)]
def xjn:RC:=(So lu (Sq (So Mj (Xy 12 [0,12] (So yN .ret))) (Sq (So tN (Bk 0 (.loop yL))) (So A6 .ret))))
def ZX:FnC:=⟨xjn,40,[.tmp 2],[],[]⟩
def Mf:List RI:=[Wf 5 0 2,Wc 6 5,Wf 7 0 3,Wc 8 7,Wg 9 .neq 6 8]
def Me:List RI:=[Wt 10 0 2,Wc 11 10,Wt 12 0 3,Wc 13 12,Wg 14 .lss 11 13,Wa 4 14]
def Md:List RI:=[Wf 15 1 2,Wc 16 15,Wf 17 1 3,Wc 18 17,Wg 19 .neq 16 18]
def Ma:List RI:=[Wt 20 1 2,Wc 21 20,Wt 22 1 3,Wc 23 22,Wg 24 .lss 21 23,Wa 4 24]
def L9:List RI:=[Wf 25 2 2,Wc 26 25,Wf 27 2 3,Wc 28 27,Wg 29 .neq 26 28]
def L8:List RI:=[oo 30 (Fa 2 2) [2],Wc 31 30,Wt 32 2 3,Wc 33 32,Wg 34 .lss 31 33,Wa 4 34]
def L7:List RI:=[Wt 35 3 2,Wc 36 35,oo 37 (Fa 3 3) [3],Wc 38 37,Wu 39 98 36 38,Wa 4 39]
def xjm:RC:=(So xa (Sq (So Mf (Xy 9 [9] (So Me .ret))) (Sq (So Md (Xy 19 [19] (So Ma .ret))) (Sq (So L9 (Xy 29 [29] (So L8 .ret))) (So L7 .ret)))))
def ZW:FnC:=⟨xjm,40,[.tmp 4],[],[]⟩
def L6:List RI:=[Wf 4 0 1,Wc 5 4,Wb 6 .lss 5 1,Wa 7 6,.grp 7 false [(xi 8 7 false (Fa 0 1)),(xi 9 7 false (Ld 8)),(xi 10 7 false (Bc .gtr 9 4))] [8,9],Wh 11 7 10]
def L5:List RI:=[om 12 3,Wf 13 1 1,Wc 14 13,Xb 15 true 14,Wg 16 .lss 12 15]
def L4:List RI:=[Wf 19 1 1,Wc 20 19,om 21 3,oo 22 (.idxS (.t 20) (.t 21)) [20,21],oo 23 (.bin .lss (.t 22) (.c (.u8 32))) [22],Wa 24 23,.grp 24 false [(xi 25 24 false (Fa 1 1)),(xi 26 24 false (Ld 25)),(xi 27 24 false (Mv 3)),(xi 28 24 false (.idxS (.t 26) (.t 27))),(xi 29 24 false (.bin .gtr (.t 28) (.c (.u8 126))))] [25,26,27,28],Wh 30 24 29]
def zD:RC:=(Sq (So L5 (Xx 16 [3,16] (.exit 0))) (Sq (Bk 1 (So L4 (Xy 30 [1,3,30] (So fX .ret)))) (.ops yM)))
def yK:RC:=zD
def L3:List RI:=[Wf 31 0 1,Wc 32 31,Wb 33 .eql 32 4]
def A5:List RI:=[Wf 34 2 1,Wc 35 34,Wb 36 .lss 35 0,Wa 37 36,.grp 37 false [(xi 38 37 false (Fa 2 1)),(xi 39 37 false (Ld 38)),(xi 40 37 false (Fa 3 1)),(xi 41 37 false (Ld 40)),(xi 42 37 false (Bb .gtr 39 41))] [38,39,40,41],Wh 43 37 42,Wa 44 43,.grp 44 false [(xi 45 44 false (Fa 3 1)),(xi 46 44 false (Ld 45)),(xi 47 44 false (Bc .gtr 46 1000000000))] [45,46],Wh 48 44 47]
def A4:List RI:=[Wf 49 2 1,Wc 50 49,Wb 51 .neq 50 0,Wa 52 51,.grp 52 false [(xi 53 52 false (Fa 3 1)),(xi 54 52 false (Ld 53)),(xi 55 52 false (Bc .neq 54 0))] [53,54],Wh 56 52 55]
def A3:List RI:=[Wf 57 0 1,Wc 58 57,Wb 59 .eql 58 1,Wa 60 59,.grp 60 true [(xi 61 60 true (Fa 1 1)),(xi 62 60 true (Ld 61)),(xi 63 60 true (.bin .neq (.t 62) (.c (.str []))))] [61,62],Wv 64 60 63]
def A2:List RI:=[oo 65 (Fa 1 1) [1],Wc 66 65,Xb 67 true 66,Wb 68 .gtr 67 32]
def xjl:RC:=(So oc (Sq (So L6 (Xy 11 [1,11] (So fX .ret))) (Sq (So tN (Bk 0 (.loop yK))) (Sq (So L3 (Kc 33 (Kk [33] (So A5 (Xy 48 [1,48] (So fX .ret)))) (Kk [33] (So A4 (Xy 56 [1,56] (So fX .ret)))))) (Sq (So A3 (Xy 64 [1,64] (So fX .ret))) (Sq (So A2 (Xy 68 [68] (So nZ .ret))) (So kv .ret)))))))
def ZV:FnC:=⟨xjl,69,[.tmp 2],[],[]⟩
def L2:List RI:=[Wa 8 0,Wo 9 8,WO 10 9,Wa 5 10]
def L1:List RI:=[om 11 6,om 12 1,Wi 13 12,Wg 14 .lss 11 13]
def L0:List RI:=[om 17 1,om 18 6,WG 19 1 17 18,Wc 20 19,Wi 21 20,Wa 7 21]
def LZ:List RI:=[Wa 22 5,om 23 7,Xk 24 .shr 23,Wo 25 24,om 26 7,Xl 27 .shr 26,Wo 28 27,om 29 7,W4 30 .shr 29,Wo 31 30,Wa 32 7,Wo 33 32,Xm 34 25 28 31 33,Ws 35 1 22 34,Wa 5 35]
def LY:List RI:=[Wa 36 5,om 37 1,om 38 6,WG 39 1 37 38,Wc 40 39,Ws 41 1 36 40,Wa 5 41]
def yJ:List RI:=[Wa 15 6,Wb 16 .add 15 1,Wa 6 16]
def zC:RC:=(.post (Sq (So L1 (Xx 14 [1,6,14] (.exit 0))) (Sq (Bk 1 (So L0 (So LZ (.ops LY)))) (.ops yJ))) [.tok 5 105])
def yI:RC:=zC
def yH:List RI:=[Wa 42 5,Wa 4 42]
def xjk:RC:=(So ir (So L2 (Sq (So lH (Bk 0 (.pre [.tok 5 105] (.loop yI)))) (So yH .ret))))
def ZU:FnC:=⟨xjk,43,[.tmp 4],[],[]⟩
def LX:List RI:=[om 3 0,Wb 4 .eql 3 1,Wa 5 4,.grp 5 false [(xi 6 5 false (Mv 0)),(xi 7 5 false (Bc .eql 6 2))] [6],Wh 8 5 7,Wa 9 8,.grp 9 false [(xi 10 9 false (Mv 0)),(xi 11 9 false (Bc .eql 10 4))] [10],Wh 12 9 11,Wa 13 12,.grp 13 false [(xi 14 13 false (Mv 0)),(xi 15 13 false (Bc .eql 14 8))] [0,14],Wh 16 13 15,Wa 2 16]
def xjj:RC:=(So lu (So LX .ret))
def ZT:FnC:=⟨xjj,17,[.tmp 2],[],[]⟩
def LW:List RI:=[om 7 6,WV 8 .mul 2 7,Wb 9 .add 8 1,om 10 1,Wi 11 10,Wg 12 .lss 9 11]
def LV:List FI:=[Fm 0 15 5,Fm 1 16 0,Fm 2 17 6,Fm 3 18 1,Fm 4 19 6,WJ 5 20 .mul 2 19,Wr 6 21 1 18 20,We 7 22 21,Fm 8 23 1,Fm 9 24 6,WJ 10 25 .mul 2 24,WA 11 26 .add 25 1,Wr 12 27 1 23 26,We 13 28 27,Fz 14 29 (Ca 147 [.t 16,.t 17,.t 22,.t 28]),Fs 15 30 (.lit 1 [.t 29]),Fz 16 31 (.app [.byt [] .clip] 24 (.t 15) (.t 30)),⟨17,false,(xm 5 31)⟩]
def yG:List RI:=[Wa 13 6,Wb 14 .add 13 1,Wa 6 14]
def zB:RC:=(.post (Sq (So LW (Xx 12 [0,1,6,12] (.exit 0))) (Sq (Bk 1 (.flt [0,0,0,0,0,16,56,120,0,0,512,1536,3840,7936,16382,32766,65535,131071] [131] LV [15,16,17,18,19,20,21,22,23,24,25,26,27,28,29,30,31])) (.ops yG))) [.tok 5 105])
def LU:RC:=zB
def LS:List RI:=[Wa 32 5,Wa 4 32]
def xji:RC:=(So DL (So DK (Sq (So lH (Bk 0 (.pre [.tok 5 105] (.loop LU)))) (So LS .ret))))
def ZS:FnC:=⟨xji,33,[.tmp 4],[],[]⟩
def LR:List RI:=[on 3 (.litB []),Wa 4 0,Ws 5 1 3 4,Wa 2 5]
def xjh:RC:=(So lF (So LR .ret))
def ZR:FnC:=⟨xjh,6,[.tmp 2],[],[]⟩
def LQ:List RI:=[Wa 5 0,Wa 6 1,Wo 7 6,WO 8 7,oo 9 (Ca 148 [.t 5,(.c (.str [115,105,103,110,101,114])),.t 8,ci 32]) [5,8],Wa 4 9]
def xjg:RC:=(So ir (So LQ .ret))
def ZQ:FnC:=⟨xjg,10,[.tmp 4],[],[]⟩
def LP:List RI:=[om 7 1,Wb 8 .lss 7 0,Wa 9 8,.grp 9 false [(xi 10 9 false (Mv 1)),(xi 11 9 false (Bc .gtr 10 255))] [10],Wh 12 9 11]
def LO:List RI:=[WY 5]
def LN:List RI:=[om 13 6,Wb 14 .lss 13 35]
def LM:List RI:=[Wa 17 5,om 18 1,om 19 6,om 20 0,om 21 1,om 22 6,Xg 23 150 20 21 22,oo 24 (Ca 149 [.t 18,.t 19,ci 0,ci 15,.t 23]) [18,19,23],Ws 25 1 17 24,Wa 5 25]
def zA:RC:=(.post (Sq (So LN (Xx 14 [0,6,14] (.exit 0))) (Sq (Bk 1 (.ops LM)) (.ops yJ))) [.tok 5 105])
def tV:RC:=zA
def LL:List RI:=[Wa 26 1,Wa 27 5,Wu 28 151 26 27,Wa 4 28]
def xjf:RC:=(So ir (Sq (So LP (Xy 12 [0,1,12] (So kR .ret))) (So LO (Sq (So lH (Bk 0 (.pre [.tok 5 105] (.loop tV)))) (So LL .ret)))))
def ZP:FnC:=⟨xjf,29,[.tmp 4],[],[]⟩
def LK:List RI:=[Xi 0]
def LJ:List RI:=[on 1 (.build [.int .u32 0,.int .u32 0,.int .u32 0,.int .u32 0,.int .u32 0,.int .u32 0,.int .u32 0,.int .u32 0,.int .u32 0,.int .u32 0,.int .u32 0,.int .u32 0,.int .u32 0,.int .u32 0,.int .u32 0,.int .u32 0,.int .u32 0,.int .u32 0,.int .u32 0,.int .u32 0,.int .u32 0,.int .u32 0,.int .u32 0,.int .u32 0,.int .u32 0,.int .u32 0,.int .u32 0,.int .u32 0,.int .u32 0,.int .u32 0,.int .u32 0,.int .u32 0,.int .u32 0,.int .u32 0,.int .u32 0,.int .u32 0,.int .u32 0,.int .u32 0,.int .u32 0,.int .u32 0,.int .u32 0,.int .u32 0,.int .u32 0,.int .u32 0,.int .u32 0,.int .u32 0,.int .u32 0,.int .u32 0,.int .u32 0,.int .u32 0,.int .u32 0,.int .u32 0,.int .u32 0,.int .u32 0,.int .u32 0,.int .u32 0,.int .u32 0,.int .u32 0,.int .u32 0,.int .u32 0,.int .u32 0,.int .u32 0,.int .u32 0,.int .u32 0] [(0,1,(.c (.int .u32 1116352408))),(1,1,(.c (.int .u32 1899447441))),(2,1,(.c (.int .u32 3049323471))),(3,1,(.c (.int .u32 3921009573))),(4,1,(.c (.int .u32 961987163))),(5,1,(.c (.int .u32 1508970993))),(6,1,(.c (.int .u32 2453635748))),(7,1,(.c (.int .u32 2870763221))),(8,1,(.c (.int .u32 3624381080))),(9,1,(.c (.int .u32 310598401))),(10,1,(.c (.int .u32 607225278))),(11,1,(.c (.int .u32 1426881987))),(12,1,(.c (.int .u32 1925078388))),(13,1,(.c (.int .u32 2162078206))),(14,1,(.c (.int .u32 2614888103))),(15,1,(.c (.int .u32 3248222580))),(16,1,(.c (.int .u32 3835390401))),(17,1,(.c (.int .u32 4022224774))),(18,1,(.c (.int .u32 264347078))),(19,1,(.c (.int .u32 604807628))),(20,1,(.c (.int .u32 770255983))),(21,1,(.c (.int .u32 1249150122))),(22,1,(.c (.int .u32 1555081692))),(23,1,(.c (.int .u32 1996064986))),(24,1,(.c (.int .u32 2554220882))),(25,1,(.c (.int .u32 2821834349))),(26,1,(.c (.int .u32 2952996808))),(27,1,(.c (.int .u32 3210313671))),(28,1,(.c (.int .u32 3336571891))),(29,1,(.c (.int .u32 3584528711))),(30,1,(.c (.int .u32 113926993))),(31,1,(.c (.int .u32 338241895))),(32,1,(.c (.int .u32 666307205))),(33,1,(.c (.int .u32 773529912))),(34,1,(.c (.int .u32 1294757372))),(35,1,(.c (.int .u32 1396182291))),(36,1,(.c (.int .u32 1695183700))),(37,1,(.c (.int .u32 1986661051))),(38,1,(.c (.int .u32 2177026350))),(39,1,(.c (.int .u32 2456956037))),(40,1,(.c (.int .u32 2730485921))),(41,1,(.c (.int .u32 2820302411))),(42,1,(.c (.int .u32 3259730800))),(43,1,(.c (.int .u32 3345764771))),(44,1,(.c (.int .u32 3516065817))),(45,1,(.c (.int .u32 3600352804))),(46,1,(.c (.int .u32 4094571909))),(47,1,(.c (.int .u32 275423344))),(48,1,(.c (.int .u32 430227734))),(49,1,(.c (.int .u32 506948616))),(50,1,(.c (.int .u32 659060556))),(51,1,(.c (.int .u32 883997877))),(52,1,(.c (.int .u32 958139571))),(53,1,(.c (.int .u32 1322822218))),(54,1,(.c (.int .u32 1537002063))),(55,1,(.c (.int .u32 1747873779))),(56,1,(.c (.int .u32 1955562222))),(57,1,(.c (.int .u32 2024104815))),(58,1,(.c (.int .u32 2227730452))),(59,1,(.c (.int .u32 2361852424))),(60,1,(.c (.int .u32 2428436474))),(61,1,(.c (.int .u32 2756734187))),(62,1,(.c (.int .u32 3204031479))),(63,1,(.c (.int .u32 3329325298)))]),Wq 64 0 1]
def xje:RC:=(So LK (So LJ .ret))
def ZO:FnC:=⟨xje,2,[.cell 0 64 true],[],[]⟩
def LI:List RI:=[on 6 (.litB []),om 7 0,Ws 8 1 6 7,on 9 (.litB [(.c (.u8 128))]),Ws 10 1 8 9,Wa 3 10]
def LH:List RI:=[om 11 3,Wi 12 11,Wb 13 .rem 12 64,Wb 14 .neq 13 56]
def LG:List RI:=[Wa 15 3,on 16 (.litB [(.c (.u8 0))]),Ws 17 1 15 16,Wa 3 17]
def zy:RC:=(.post (Sq (So LH (Xx 14 [14] (.exit 0))) (Bk 1 (.ops LG))) [.tok 3 103])
def yF:RC:=zy
def LF:List RI:=[Wa 18 0,Wi 19 18,WN 20 19,W4 21 .mul 20,Wa 4 21]
def LD:List RI:=[Wk 5 7]
def LC:List RI:=[om 22 5,Wb 23 .geq 22 0]
def LB:List RI:=[Wa 26 3,om 27 4,om 28 5,WN 29 28,oo 30 (.bin .mul (.c (.int .u64 8)) (.t 29)) [29],Wg 31 .shr 27 30,Wo 32 31,WO 33 32,Ws 34 1 26 33,Wa 3 34]
def LA:List RI:=[Wa 24 5,Wb 25 .sub 24 1,Wa 5 25]
def td:RC:=(.post (Sq (So LC (Xx 23 [4,5,23] (.exit 2))) (Sq (Bk 3 (.ops LB)) (.ops LA))) [.tok 3 103])
def sk:RC:=td
def A1:List RI:=[Wa 35 3,Wa 2 35]
def xjd:RC:=(So lF (So LI (Sq (Bk 0 (.pre [.tok 3 103] (.loop yF))) (So LF (Sq (So LD (Bk 2 (.pre [.tok 3 103] (.loop sk)))) (So A1 .ret))))))
def ZN:FnC:=⟨xjd,36,[.tmp 2],[],[]⟩
def p7:List RI:=[oo 4 (.mov (.c (.int .u32 0))) [4]]
def yE:List FI:=[Fm 0 5 0,Fm 1 6 1,WJ 2 7 .mul 4 6,Wr 3 8 1 5 7,We 4 9 8,Fs 5 10 (.toInt .u32 (.t 9)),Fs 6 11 (.bin .shl (.t 10) (.c (.int .u64 24))),Fm 7 12 0,Fm 8 13 1,WJ 9 14 .mul 4 13,WA 10 15 .add 14 1,Wr 11 16 1 12 15,We 12 17 16,Fs 13 18 (.toInt .u32 (.t 17)),Fs 14 19 (.bin .shl (.t 18) (.c (.int .u64 16))),Wj 15 20 .or 11 19,Fm 16 21 0,Fm 17 22 1,WJ 18 23 .mul 4 22,WA 19 24 .add 23 2,Wr 20 25 1 21 24,We 21 26 25,Fs 22 27 (.toInt .u32 (.t 26)),Fs 23 28 (.bin .shl (.t 27) (.c (.int .u64 8))),Wj 24 29 .or 20 28,Fm 25 30 0,Fm 26 31 1,WJ 27 32 .mul 4 31,WA 28 33 .add 32 3,Wr 29 34 1 30 33,We 30 35 34,Fs 31 36 (.toInt .u32 (.t 35)),Wj 32 37 .or 29 36,Fm 33 4 37]
def xjc:RC:=(So p7 (Sq (.flt [0,0,2,7,15,31,63,0,0,256,768,1920,3968,8064,16256,32767,0,0,131072,393216,983040,2031616,4128768,8323072,16777215,0,0,67108864,201326592,503316480,1040187392,2113929216,4294967295,8589934591] [] yE [0,1,5,6,7,8,9,10,11,12,13,14,15,16,17,18,19,20,21,22,23,24,25,26,27,28,29,30,31,32,33,34,35,36,37]) .ret))
def ZM:FnC:=⟨xjc,38,[.tmp 4],[],[]⟩
def Lz:List RI:=[om 5 0,om 6 1,Wg 7 .shr 5 6,Wa 8 0,Wa 9 1,oo 10 (.bin .sub (.c (.int .u64 32)) (.t 9)) [9],Wg 11 .shl 8 10,Wg 12 .or 7 11,Wa 4 12]
def xjb:RC:=(So p7 (So Lz .ret))
def ZL:FnC:=⟨xjb,13,[.tmp 4],[],[]⟩
def Ly:List RI:=[WY 3]
def Lx:List RI:=[om 5 4,om 6 0,Wi 7 6,Wg 8 .lss 5 7]
def Lw:List FI:=[Fm 0 11 3,Fm 1 12 0,Fm 2 13 4,Wr 3 14 1 12 13,We 4 15 14,Fs 5 16 (.bin .shr (.t 15) (.c (.int .u64 24))),W8 6 17 16,Fm 7 18 0,Fm 8 19 4,Wr 9 20 1 18 19,We 10 21 20,Fs 11 22 (.bin .shr (.t 21) (.c (.int .u64 16))),W8 12 23 22,Fm 13 24 0,Fm 14 25 4,Wr 15 26 1 24 25,We 16 27 26,Fs 17 28 (.bin .shr (.t 27) (.c (.int .u64 8))),W8 18 29 28,Fm 19 30 0,Fm 20 31 4,Wr 21 32 1 30 31,We 22 33 32,W8 23 34 33,Fs 24 35 (.litB [.t 17,.t 23,.t 29,.t 34]),W5 25 36 1 11 35,⟨26,false,(xm 3 36)⟩]
def Lv:List RI:=[Wa 9 4,Wb 10 .add 9 1,Wa 4 10]
def zx:RC:=(.post (Sq (So Lx (Xx 8 [0,4,8] (.exit 0))) (Sq (Bk 1 (.flt [0,0,0,6,14,30,62,0,0,384,896,1920,3968,0,0,24576,57344,122880,253952,0,0,1572864,3670016,7864320,16777214,33554431,67108863] [136] Lw [11,12,13,14,15,16,17,18,19,20,21,22,23,24,25,26,27,28,29,30,31,32,33,34,35,36])) (.ops Lv))) [.tok 3 103])
def yD:RC:=zx
def yC:List RI:=[Wa 37 3,Wa 2 37]
def xja:RC:=(So lF (So Ly (Sq (So jD (Bk 0 (.pre [.tok 3 103] (.loop yD)))) (So yC .ret))))
def ZK:FnC:=⟨xja,38,[.tmp 2],[],[]⟩
def Lu:List RI:=[om 12 0,Wi 13 12,Wb 14 .neq 13 17,Wa 15 14,.grp 15 false [(xi 16 15 false (Mv 0)),(xi 17 15 false (.iaddrL 1 (.t 16) (ci 0))),(xi 18 15 false (Ld 17)),(xi 19 15 false (.toInt .i64 (.t 18))),(xi 20 15 false (Ca 153 [.t 19])),(xi 21 15 false (.un .not (.t 20)))] [16,17,18,19,20],Wh 22 15 21]
def p6:List RI:=[Wk 6 0,on 7 (Mb false)]
def Ls:List RI:=[om 23 0,oo 24 (.iaddrL 1 (.t 23) (ci 0)) [23],Wc 25 24,W9 26 25,Wa 8 26]
def Lr:List RI:=[om 27 2,Wi 28 27,om 29 8,WV 30 .mul 16 29,WV 31 .add 561 30,Wg 32 .neq 28 31,Wa 33 32,.grp 33 false [(xi 34 33 false (Mv 2)),(xi 35 33 false (.iaddrL 1 (.t 34) (ci 0))),(xi 36 33 false (Ld 35)),(xi 37 33 false (.toInt .i64 (.t 36))),(xi 38 33 false (Mv 8)),(xi 39 33 false (.toInt .u64 (.t 38))),(xi 40 33 false (.bin .shl (ci 1) (.t 39))),(xi 41 33 false (Bb .geq 37 40))] [8,34,35,36,37,38,39,40],Wh 42 33 41]
def Lq:List RI:=[om 43 2,oo 44 (.iaddrL 1 (.t 43) (ci 0)) [43],Wc 45 44,W9 46 45,Wa 6 46]
def Lp:List RI:=[om 48 6,Wa 49 1,om 50 2,oo 51 (.slcL 1 (.t 50) (some (ci 1)) (some (ci 561)) (some (ci 561))) [50],Xg 52 154 48 49 51,Wa 47 52,WF 53 47 0,WD 54 47 1,Wa 9 53,Wa 7 54]
def Lo:List RI:=[Wa 55 7,WQ 56 55]
def AZ:List RI:=[Xh 10]
def AY:List RI:=[Wa 57 2,Xj 58 1 57 561,Wa 11 58]
def AX:List RI:=[om 59 11,Wi 60 59,Wb 61 .gtr 60 0]
def AW:List RI:=[Wa 64 10,om 65 11,Xn 66 1 65 16 16,WS 67 1 66,Xu 68 24 64 67,Wa 10 68]
def AV:List RI:=[Wa 62 11,Xj 63 1 62 16,Wa 11 63]
def tc:RC:=(.post (Sq (So AX (Xx 61 [11,61] (.exit 0))) (Sq (Bk 1 (.ops AW)) (.ops AV))) [.tok 10 110])
def sj:RC:=tc
def AU:List FI:=[Fm 0 69 9,Fm 1 70 6,Fm 2 71 10,Fm 5 74 0,Fs 6 75 (.slcL 1 (.t 74) (some (ci 1)) none none),Fs 7 76 (.b2s (.t 75)),Fz 3 72 (Ca 155 [.t 69,.t 70,.t 71]),Fs 4 73 (.b2s (.t 72)),Wj 8 77 .neq 73 76]
def AT:List RI:=[Wa 78 6,Wa 6 78,on 7 (Mb true)]
def xi9:RC:=(So NW (Sq (So Lu (Xy 22 [0,1,2,22] (So p6 .ret))) (So Ls (Sq (So Lr (Xy 42 [0,1,2,42] (So p6 .ret))) (So Lq (So Lp (Sq (So Lo (Xy 56 [0,2,6,9,56] (So p6 .ret))) (So AZ (Sq (So AY (Bk 0 (.pre [.tok 10 110] (.loop sj)))) (Sq (Sq (.flt [0,0,0,7,15,0,32,96,255] [] AU [0,9,10,69,70,71,72,73,74,75,76]) (Xy 77 [6,77] (So p6 .ret))) (So AT .ret)))))))))))
def ZJ:FnC:=⟨xi9,79,[.tmp 6,.tmp 7],[],[]⟩
def Lm:List RI:=[Wa 4 0,Wa 5 1,WI 6 4,Wt 7 2 6,Wy 1 7 5]
def xi8:RC:=(.ops Lm)
def ZI:FnC:=⟨xi8,8,[],[],[]⟩
def Ll:List RI:=[WX 6,WL 7 0]
def Lk:List RI:=[om 8 2,om 9 0,WI 10 9,Wt 11 0 10,Wc 12 11,Wi 13 12,om 14 1,Wg 15 .sub 13 14,Wg 16 .gtr 8 15]
def Lj:List RI:=[WY 6,Wk 7 2]
def Li:List RI:=[Wa 17 0,WI 18 17,Wt 19 0 18,Wc 20 19,om 21 1,Wa 22 1,Wa 23 2,Wg 24 .add 22 23,Xv 25 1 20 21 24,Wa 6 25,Wk 7 0]
def xi7:RC:=(So Ll (Sq (So Lk (Xy 16 [0,1,2,16] (So Lj .ret))) (So Li .ret)))
def ZH:FnC:=⟨xi7,26,[.tmp 6,.tmp 7],[],[]⟩
def Lh:List FI:=[Fm 0 3 0,Fs 1 4 (.nchk (.t 3)),Wm 2 5 0 4,We 3 6 5,Fs 4 7 (Ln 6),Fm 5 8 0,Fs 6 9 (.nchk (.t 8)),Wm 7 10 1 9,We 8 11 10,Wj 9 12 .sub 7 11,Fm 10 2 12]
def xi6:RC:=(So tI (Sq (.flt [0,1,3,7,15,0,32,96,224,511,1023] [] Lh [0,3,4,5,6,7,8,9,10,11,12]) .ret))
def ZG:FnC:=⟨xi6,13,[.tmp 2],[],[]⟩
def Lg:List RI:=[Wa 3 0,oo 4 (.build Zq2 [(0,1,(ci 1)),(1,1,(.t 3))]) [3],Wn 5 158 4,Wb 6 .eql 5 0,Wa 2 6]
def xi5:RC:=(So lu (So Lg .ret))
def ZF:FnC:=⟨xi5,7,[.tmp 2],[],[]⟩
def Lf:List FI:=[Wm 0 5 0 2,We 1 6 5,Wm 2 7 0 3,We 3 8 7,Wm 5 10 1 2,We 6 11 10,Wm 7 12 1 3,We 8 13 12,Wm 10 15 2 2,We 11 16 15,Wm 12 17 2 3,We 13 18 17,Wm 15 20 3 2,We 16 21 20,Wm 17 22 3 3,We 18 23 22,WC 4 9 134 6 8,WC 9 14 159 11 13,WC 14 19 134 16 18,WC 19 24 83 21 23,Fs 20 25 (.lit 1 [.t 9,.t 14,.t 19,.t 24]),WK 21 26 133 25,Fm 22 4 26]
def xi4:RC:=(So DN (Sq (.flt [0,1,0,4,15,0,32,0,128,511,0,1024,0,4096,16383,0,32768,0,131072,524287,1048575,2097151,4194303] [] Lf [2,3,5,6,7,8,9,10,11,12,13,14,15,16,17,18,19,20,21,22,23,24,25,26]) .ret))
def ZE:FnC:=⟨xi4,27,[.tmp 4],[],[]⟩
def Le:List RI:=[Wf 5 0 1,Wc 6 5,Wb 7 .lss 6 1,Wa 8 7,.grp 8 false [(xi 9 8 false (Fa 0 1)),(xi 10 8 false (Ld 9)),(xi 11 8 false (Bc .gtr 10 4))] [9,10],Wh 12 8 11]
def Lc:List RI:=[Wf 13 1 1,Wc 14 13,Xb 15 true 14,Wk 16 0]
def Lb:List RI:=[on 17 (Bb .lss 16 15)]
def La:List RI:=[om 18 16,Wa 3 18]
def K9:List RI:=[Wf 19 1 1,Wc 20 19,Wa 21 3,oo 22 (.idxS (.t 20) (.t 21)) [20,21],Wa 4 22]
def K8:List RI:=[om 23 4,oo 24 (.bin .lss (.t 23) (.c (.u8 32))) [23],Wa 25 24,.grp 25 false [(xi 26 25 false (Mv 4)),(xi 27 25 false (.bin .gtr (.t 26) (.c (.u8 126))))] [4,26],Wh 28 25 27]
def K7:List RI:=[Wb 29 .add 16 1,Wa 16 29]
def s9:RC:=(So Lb (Sq (Xx 17 [15,16,17] (.exit 0)) (Sq (Bk 1 (So La (So K9 (So K8 (Xy 28 [1,15,16,28] (So fX .ret)))))) (.ops K7))))
def si:RC:=s9
def AS:List RI:=[Wf 31 0 1,Wc 32 31,Wb 33 .eql 32 4,Wa 34 33,.grp 34 true [(xi 35 34 true (Fa 2 1)),(xi 36 34 true (Ld 35)),(xi 37 34 true (Bc .lss 36 0)),(xi 38 34 true (Mv 37))] [35,36,37],.grp 38 false [(xi 39 38 false (Fa 2 1)),(xi 40 38 false (Ld 39)),(xi 41 38 false (Fa 3 1)),(xi 42 38 false (Ld 41)),(xi 43 38 false (Bb .gtr 40 42))] [39,40,41,42],.grp 34 true [(xi 44 34 true (Pt 38 43)),(xi 45 34 true (Mv 44))] [38,43,44],.grp 45 false [(xi 46 45 false (Fa 3 1)),(xi 47 45 false (Ld 46)),(xi 48 45 false (Bc .gtr 47 1000000000))] [46,47],.grp 34 true [(xi 49 34 true (Pt 45 48))] [45,48],Wv 50 34 49,Wa 30 50]
def AR:List RI:=[Wf 52 0 1,Wc 53 52,Wb 54 .neq 53 4,Wa 55 54,.grp 55 true [(xi 56 55 true (Fa 2 1)),(xi 57 55 true (Ld 56)),(xi 58 55 true (Bc .neq 57 0)),(xi 59 55 true (Mv 58))] [56,57,58],.grp 59 false [(xi 60 59 false (Fa 3 1)),(xi 61 59 false (Ld 60)),(xi 62 59 false (Bc .neq 61 0))] [60,61],.grp 55 true [(xi 63 55 true (Pt 59 62))] [59,62],Wv 64 55 63,Wa 51 64]
def AQ:List RI:=[Wf 66 0 1,Wc 67 66,Wb 68 .eql 67 1,Wa 69 68,.grp 69 true [(xi 70 69 true (Fa 1 1)),(xi 71 69 true (Ld 70)),(xi 72 69 true (.bin .neq (.t 71) (.c (.str []))))] [70,71],Wv 73 69 72,Wa 65 73]
def AP:List RI:=[oo 75 (Fa 1 1) [1],Wc 76 75,Xb 77 true 76,Wb 78 .gtr 77 32,Wa 74 78]
def xi3:RC:=(So oc (Sq (So Le (Xy 12 [1,12] (So fX .ret))) (Sq (So Lc (Bk 0 (.loop si))) (Sq (Bk 2 (So AS (Kc 30 (Kk [1,30] (So fX .ret)) (Kk [30] (So AR (Kc 51 (Kk [1,51] (So fX .ret)) (Kk [51] (So AQ (Kc 65 (Kk [1,65] (So fX .ret)) (Kk [65] (So AP (Xy 74 [74] (So nZ .ret))))))))))))) (So kv .ret)))))
def ZD:FnC:=⟨xi3,79,[.tmp 2],[],[]⟩
def K6:List RI:=[Wa 6 0,on 7 (Ln 6),Wk 8 0]
def yB:List RI:=[on 9 (Bb .lss 8 7)]
def K5:List RI:=[on 10 (Ia 1 6 8),Wc 11 10,Wa 5 11]
def K4:List RI:=[om 12 5,om 13 3,Wg 14 .neq 12 13]
def K3:List RI:=[Wa 15 5,Wa 2 15]
def K2:List RI:=[Wb 16 .add 8 1,Wa 8 16]
def zw:RC:=(So yB (Sq (Xx 9 [6,7,8,9] (.exit 0)) (Sq (Bk 1 (So K5 (So K4 (Kc 14 (Kk [3,6,7,8,14] (So K3 .ret)) (Kk [5,14] .skip))))) (.ops K2))))
def K1:RC:=zw
def K0:List RI:=[Wa 17 3,Wa 2 17]
def xi2:RC:=(So tI (So tN (Sq (So K6 (Bk 0 (.loop K1))) (So K0 .ret))))
def ZC:FnC:=⟨xi2,18,[.tmp 2],[],[]⟩
def KZ:List RI:=[om 7 0,Wn 8 161 7,Wa 5 8]
def KY:List RI:=[om 9 1,Wn 10 161 9,Wa 6 10]
def KX:List RI:=[Wa 11 5]
def KW:List RI:=[Wa 12 6]
def tU:List RI:=[Wk 4 (-1)]
def KV:List RI:=[Wa 13 6]
def yA:List RI:=[Wk 4 1]
def KU:List RI:=[om 14 0,om 15 1,Wg 16 .lss 14 15]
def AO:List RI:=[Wa 17 0,Wa 18 1,Wg 19 .gtr 17 18]
def xi1:RC:=(So tP (So KZ (So KY (Sq (So KX (Xy 11 [0,1,11] (Sq (So KW (Xy 12 [12] (So jD .ret))) (So tU .ret)))) (Sq (So KV (Xy 13 [0,1,13] (So yA .ret))) (Sq (So KU (Xy 16 [0,1,16] (So tU .ret))) (Sq (So AO (Xy 19 [19] (So yA .ret))) (So jD .ret))))))))
def ZB:FnC:=⟨xi1,20,[.tmp 4],[],[]⟩
def KQ:List RI:=[om 6 0,Wi 7 6,Wk 8 0]
def KP:List RI:=[om 10 8,Wa 5 10]
def KO:List RI:=[om 11 1,om 12 0,om 13 5,WG 14 2 12 13,Wp 15 2 14,Xo 16 11 15]
def KN:List RI:=[Wa 17 5,Wa 4 17]
def KM:List RI:=[Wb 18 .add 8 1,Wa 8 18]
def zt:RC:=(So yB (Sq (Xx 9 [0,1,7,8,9] (.exit 0)) (Sq (Bk 1 (So KP (So KO (Kc 16 (Kk [0,1,7,8,16] (So KN .ret)) (Kk [5,16] .skip))))) (.ops KM))))
def tT:RC:=zt
def xi0:RC:=(So tP (Sq (So KQ (Bk 0 (.loop tT))) (So tU .ret)))
def ZA:FnC:=⟨xi0,19,[.tmp 4],[],[]⟩
def KL:List RI:=[om 6 0,Wi 7 6,Wb 8 .add 7 72,oo 9 (.mkB (ci 0) (.t 8)) [8],om 10 0,.dir (.tok 9 109),Ws 11 1 9 10,on 12 (.litB [(.c (.u8 128))]),Ws 13 1 11 12,Wa 3 13]
def KK:List RI:=[om 14 3,Wi 15 14,Wb 16 .rem 15 64,Wb 17 .neq 16 56]
def KJ:List RI:=[Wa 18 3,on 19 (.litB [(.c (.u8 0))]),Ws 20 1 18 19,Wa 3 20]
def zq:RC:=(.post (Sq (So KK (Xx 17 [17] (.exit 0))) (Bk 1 (.ops KJ))) [.tok 3 103])
def yy:RC:=zq
def KI:List RI:=[Wa 21 0,Wi 22 21,WN 23 22,W4 24 .mul 23,Wa 4 24]
def KH:List RI:=[Wk 5 56]
def KG:List RI:=[om 25 5,Wb 26 .geq 25 0]
def KF:List RI:=[Wa 29 3,om 30 4,om 31 5,WN 32 31,Wg 33 .shr 30 32,Wo 34 33,WO 35 34,Ws 36 1 29 35,Wa 3 36]
def KE:List RI:=[Wa 27 5,Wb 28 .sub 27 8,Wa 5 28]
def s8:RC:=(.post (Sq (So KG (Xx 26 [4,5,26] (.exit 2))) (Sq (Bk 3 (.ops KF)) (.ops KE))) [.tok 3 103])
def sh:RC:=s8
def xiZ:RC:=(So lF (So KL (Sq (Bk 0 (.pre [.tok 3 103] (.loop yy))) (So KI (Sq (So KH (Bk 2 (.pre [.tok 3 103] (.loop sh)))) (So yC .ret))))))
def Zz:FnC:=⟨xiZ,38,[.tmp 2],[],[]⟩
def KD:List RI:=[om 6 0,Wi 7 6,WV 8 .mul 4 7,oo 9 (.mkB (ci 0) (.t 8)) [8],Wa 3 9]
def KC:List RI:=[Wa 10 0,on 11 (Ln 10),Wk 12 0]
def KB:List RI:=[on 14 (Ia 1 10 12),Wc 15 14,Wa 5 15]
def KA:List RI:=[Wa 16 3,om 17 5,Xk 18 .shr 17,Wo 19 18,om 20 5,Xl 21 .shr 20,Wo 22 21,om 23 5,W4 24 .shr 23,Wo 25 24,Wa 26 5,Wo 27 26,Xm 28 19 22 25 27,.dir (.tok 16 116),Ws 29 1 16 28,Wa 3 29]
def Kz:List RI:=[Wb 30 .add 12 1,Wa 12 30]
def zp:RC:=(.post (So N0 (Sq (Xx 13 [10,11,12,13] (.exit 0)) (Sq (Bk 1 (So KB (.ops KA))) (.ops Kz)))) [.tok 3 103])
def yx:RC:=zp
def Ky:List RI:=[Wa 31 3,Wa 2 31]
def xiY:RC:=(So lF (So KD (Sq (So KC (Bk 0 (.pre [.tok 3 103] (.loop yx)))) (So Ky .ret))))
def Zy:FnC:=⟨xiY,32,[.tmp 2],[],[]⟩
def Kx:List RI:=[Xi 4]
def Kw:List RI:=[on 18 (Bc .lss 17 64)]
def Kv:List RI:=[om 19 17,Wa 5 19]
def Ku:List RI:=[om 20 5,Wb 21 .lss 20 16]
def Kt:List RI:=[om 22 5,om 23 1,Wa 24 5,Wu 25 164 23 24,oo 26 (.iaddrA 64 1 (.t 4) (.t 22)) [22],Wy 1 26 25]
def Ks:List FI:=[Fm 0 27 5,WA 1 28 .sub 27 15,WE 2 29 4 28,We 3 30 29,Fm 4 31 5,WA 5 32 .sub 31 2,WE 6 33 4 32,We 7 34 33,Fm 8 6 30,Fm 9 7 34]
def Kr:List RI:=[om 35 6,Wx 36 165 35 (-7),om 37 6,Wx 38 165 37 (-18),Wg 39 .xor 36 38,Wa 40 6,oo 41 (.bin .shr (.t 40) (.c (.int .u64 3))) [40],Wg 42 .xor 39 41,Wa 8 42]
def Kq:List RI:=[om 43 7,Wx 44 165 43 (-17),om 45 7,Wx 46 165 45 (-19),Wg 47 .xor 44 46,Wa 48 7,oo 49 (.bin .shr (.t 48) (.c (.int .u64 10))) [48],Wg 50 .xor 47 49,Wa 9 50]
def Kp:List FI:=[Fm 0 51 5,Fm 1 52 9,Fm 2 53 5,WA 3 54 .sub 53 7,WE 4 55 4 54,We 5 56 55,Wj 6 57 .add 52 56,Fm 7 58 8,Wj 8 59 .add 57 58,Fm 9 60 5,WA 10 61 .sub 60 16,WE 11 62 4 61,We 12 63 62,Wj 13 64 .add 59 63,WE 14 65 4 51,Fr 15 1 65 64]
def AN:List RI:=[Wb 66 .add 17 1,Wa 17 66]
def s7:RC:=(So Kw (Sq (Xx 18 [1,17,18] (.exit 0)) (Sq (Bk 1 (So Kv (Sq (So Ku (Xy 21 [21] (So Kt (.exit 1)))) (Sq (.flt [0,1,3,7,0,16,48,112,15,511] [] Ks [27,28,29,30,31,32,33,34]) (So Kr (So Kq (.flt [0,0,0,4,12,28,62,0,254,0,512,1536,3584,8190,16383,32767] [] Kp [5,8,9,51,52,53,54,55,56,57,58,59,60,61,62,63,64,65]))))))) (.ops AN))))
def sf:RC:=s7
def AM:List RI:=[om 67 0,WI 68 67,Wp 69 8 68,on 10 (.new (.arr 1 (aH 8 [.int .u32 0]))),Wq 8 10 69]
def AL:List RI:=[Wk 70 0]
def AK:List RI:=[on 71 (Bc .lss 70 64)]
def AJ:List RI:=[om 72 70,Wa 11 72]
def AI:List FI:=[WZ 0 73 10 0,We 1 74 73,WZ 2 75 10 4,We 3 76 75,Fm 4 12 74,Fm 5 13 76]
def AH:List FI:=[WZ 0 77 10 7,We 1 78 77,Fm 2 79 13,Fm 4 81 13,Fm 7 84 13,Fm 11 88 13,WZ 12 89 10 5,We 13 90 89,Wj 14 91 .and 88 90,Fm 15 92 13,Fs 16 93 (.un .xor (.t 92)),WZ 17 94 10 6,We 18 95 94,Wj 19 96 .and 93 95,Wj 20 97 .xor 91 96,Fm 22 99 11,Fs 23 100 (.iaddrA 64 1 (.c (.pp iR)) (.t 99)),We 24 101 100,Fm 26 103 11,WE 27 104 4 103,We 28 105 104,WM 3 80 165 79 (-6),WM 5 82 165 81 (-11),Wj 6 83 .xor 80 82,WM 8 85 165 84 (-25),Wj 9 86 .xor 83 85,Wj 10 87 .add 78 86,Wj 21 98 .add 87 97,Wj 25 102 .add 98 101,Wj 29 106 .add 102 105,Fm 30 14 106]
def AG:List FI:=[Fm 0 107 12,Fm 2 109 12,Fm 5 112 12,Fm 8 115 12,WZ 9 116 10 1,We 10 117 116,Wj 11 118 .and 115 117,Fm 12 119 12,WZ 13 120 10 2,We 14 121 120,Wj 15 122 .and 119 121,Wj 16 123 .xor 118 122,WZ 17 124 10 1,We 18 125 124,WZ 19 126 10 2,We 20 127 126,Wj 21 128 .and 125 127,Wj 22 129 .xor 123 128,WM 1 108 165 107 (-2),WM 3 110 165 109 (-13),Wj 4 111 .xor 108 110,WM 6 113 165 112 (-22),Wj 7 114 .xor 111 113,Wj 23 130 .add 114 129,Fm 24 15 130]
def AF:List RI:=[om 131 14,Wa 132 15,Wg 133 .add 131 132,W6 134 10 0,Wc 135 134,W6 136 10 1,Wc 137 136,W6 138 10 2,Wc 139 138,W6 140 10 3,Wc 141 140,Wa 142 14,Wg 143 .add 141 142,W6 144 10 4,Wc 145 144,W6 146 10 5,Wc 147 146,W6 148 10 6,Wc 149 148,oo 150 (.build [.int .u32 0,.int .u32 0,.int .u32 0,.int .u32 0,.int .u32 0,.int .u32 0,.int .u32 0,.int .u32 0] [(0,1,(.t 133)),(1,1,(.t 135)),(2,1,(.t 137)),(3,1,(.t 139)),(4,1,(.t 143)),(5,1,(.t 145)),(6,1,(.t 147)),(7,1,(.t 149))]) [133,135,137,139,143,145,147,149],Wq 8 10 150]
def AE:List RI:=[Wb 151 .add 70 1,Wa 70 151]
def s6:RC:=(So AK (Sq (Xx 71 [4,70,71] (.exit 2)) (Sq (Bk 3 (So AJ (Sq (.flt [0,1,0,4,3,31] [] AI [73,74,75,76]) (Sq (.flt [0,1,0,4,0,28,60,0,188,508,1023,0,0,4096,14336,0,32768,0,131072,491520,1046528,2097151,0,4194304,12582912,33554431,0,67108864,201326592,536870911,1073741823] [] AH [11,13,77,78,79,80,81,82,83,84,85,86,87,88,89,90,91,92,93,94,95,96,97,98,99,100,101,102,103,104,105,106]) (Sq (.flt [0,1,0,7,15,0,47,127,0,0,512,1792,0,0,8192,28672,65280,0,131072,0,524288,1966080,4194048,8388607,16777215] [] AG [12,107,108,109,110,111,112,113,114,115,116,117,118,119,120,121,122,123,124,125,126,127,128,129,130]) (.ops AF)))))) (.ops AE))))
def se:RC:=s6
def AD:List RI:=[Wk 152 0]
def AC:List RI:=[on 153 (Bc .lss 152 8)]
def AB:List RI:=[om 154 152,Wa 16 154]
def AA:List FI:=[Fm 0 155 0,Fm 1 156 16,Fs 2 157 (.nchk (.t 155)),Fs 3 158 (.iaddrA 8 1 (.t 157) (.t 156)),We 4 159 158,Fm 5 160 16,Fs 6 161 (.iaddrA 8 1 (.t 10) (.t 160)),We 7 162 161,Wj 8 163 .add 159 162,Fs 9 164 (.nchk (.t 155)),Fs 10 165 (.iaddrA 8 1 (.t 164) (.t 156)),Fr 11 1 165 163]
def Az:List RI:=[Wb 166 .add 152 1,Wa 152 166]
def sZ:RC:=(So AC (Sq (Xx 153 [0,10,152,153] (.exit 4)) (Sq (Bk 5 (So AB (.flt [0,0,1,7,15,0,32,96,255,1,1023,2047] [] AA [16,155,156,157,158,159,160,161,162,163,164,165]))) (.ops Az))))
def sd:RC:=sZ
def xiX:RC:=(So Kx (Sq (So yh (Bk 0 (.loop sf))) (So AM (Sq (So AL (Bk 2 (.loop se))) (So AD (Bk 4 (.loop sd)))))))
def Zx:FnC:=⟨xiX,167,[],[],[]⟩
def Ko:List RI:=[om 10 1,Wb 11 .lss 10 0,Wa 12 11,.grp 12 false [(xi 13 12 false (Mv 1)),(xi 14 12 false (Bc .gtr 13 255))] [13],Wh 15 12 14]
def yw:List RI:=[WY 6]
def Kn:List RI:=[Wa 16 2,Wn 17 166 16,Wa 7 17]
def Km:List RI:=[Wk 9 0]
def Kj:List RI:=[om 18 9,Wb 19 .lss 18 35]
def Ki:List FI:=[Fm 0 22 8,Fm 1 23 1,Fm 2 24 9,Fm 3 25 7,Fm 4 26 9,Wr 5 27 1 25 26,We 6 28 27,Fm 7 29 0,Fm 8 30 1,Fm 9 31 9,Fz 10 32 (Ca 150 [.t 29,.t 30,.t 31]),Fz 11 33 (Ca 149 [.t 23,.t 24,ci 0,.t 28,.t 32]),W5 12 34 1 22 33,⟨13,false,(xm 8 34)⟩]
def Kh:List RI:=[Wa 20 9,Wb 21 .add 20 1,Wa 9 21]
def zo:RC:=(.post (Sq (So Kj (Xx 19 [0,1,7,9,19] (.exit 0))) (Sq (Bk 1 (.flt [0,0,0,0,0,24,56,0,0,0,896,2046,4095,8191] [134] Ki [22,23,24,25,26,27,28,29,30,31,32,33,34])) (.ops Kh))) [.tok 8 108])
def tQ:RC:=zo
def Ay:List RI:=[Wa 35 8,Wa 6 35]
def xiW:RC:=(So tJ (Sq (So Ko (Xy 15 [0,1,2,15] (So yw .ret))) (So Kn (So tW (Sq (So Km (Bk 0 (.pre [.tok 8 108] (.loop tQ)))) (So Ay .ret))))))
def Zw:FnC:=⟨xiW,36,[.tmp 6],[],[]⟩
def Kg:List RI:=[om 8 1,Wi 9 8,Wn 10 110 9,WQ 11 10,Wa 12 11,.grp 12 false [(xi 13 12 false (Mv 0)),(xi 14 12 false (Bc .lss 13 0))] [13],Wh 15 12 14,Wa 16 15,.grp 16 false [(xi 17 16 false (Mv 0)),(xi 18 16 false (Mv 1)),(xi 19 16 false (Ln 18)),(xi 20 16 false (Bb .geq 17 19))] [17,18,19],Wh 21 16 20]
def yv:List RI:=[Xh 4]
def Kf:List RI:=[Wa 22 1,Wa 6 22]
def Ke:List RI:=[om 23 6,Wi 24 23,Wb 25 .gtr 24 1]
def Kd:List RI:=[Wa 28 5,om 29 6,om 30 0,Wb 31 .xor 30 1,WG 32 1 29 31,Wc 33 32,Wn 34 112 33,WS 35 1 34,Xu 36 24 28 35,Wa 5 36]
def Kb:List RI:=[om 37 7,Wa 38 6,Wu 39 111 37 38,Wa 6 39]
def Ka:List RI:=[Wa 40 0,Wb 41 .quo 40 2,Wa 0 41]
def Ax:List RI:=[Wa 26 7,Wb 27 .add 26 1,Wa 7 27]
def sY:RC:=(.post (Sq (So Ke (Xx 25 [0,6,7,25] (.exit 0))) (Sq (Bk 1 (So Kd (So Kb (.ops Ka)))) (.ops Ax))) [.tok 5 105])
def Aw:RC:=sY
def xiV:RC:=(So DL (Sq (So Kg (Xy 21 [0,1,21] (So yv .ret))) (So DK (So Kf (Sq (So HW (Bk 0 (.pre [.tok 5 105] (.loop Aw)))) (So yH .ret))))))
def Zv:FnC:=⟨xiV,43,[.tmp 4],[],[]⟩
def J9:List RI:=[Wa 9 0,Wo 10 9,Wa 11 1,Wo 12 11,oo 13 (.litB [.t 10,.t 12]) [10,12],Wa 14 2,Wa 15 3,Xp 16 1 13 14 15,WT 17 65 3 16,WW 18 1 17 16,Wa 8 18]
def xiU:RC:=(So lv (So J9 .ret))
def Zu:FnC:=⟨xiU,19,[.tmp 8],[],[]⟩
def J8:List RI:=[om 12 3,Wb 13 .lss 12 1,Wa 14 13,.grp 14 false [(xi 15 14 false (Mv 3)),(xi 16 14 false (Bc .gtr 15 1024))] [15],Wh 17 14 16]
def yu:List RI:=[WY 9]
def J7:List RI:=[Wk 10 1]
def J6:List RI:=[om 18 9,Wi 19 18,om 20 3,Wg 21 .lss 19 20]
def J5:List RI:=[om 24 10,Wn 25 167 24,om 26 1,Ws 27 1 25 26,Wa 11 27]
def J4:List RI:=[Wa 28 11,on 29 (.litB [(.c (.u8 0))]),Ws 30 1 28 29,om 31 2,Ws 32 1 30 31,om 33 3,WV 34 .mul 8 33,Wn 35 167 34,Ws 36 1 32 35,Wa 11 36]
def J3:List RI:=[Wa 37 9,om 38 0,Wa 39 11,Wu 40 168 38 39,Ws 41 1 37 40,Wa 9 41]
def J2:List RI:=[Wa 22 10,Wb 23 .add 22 1,Wa 10 23]
def sX:RC:=(.post (Sq (So J6 (Xx 21 [0,1,2,10,21] (.exit 0))) (Sq (Bk 1 (So J5 (So J4 (.ops J3)))) (.ops J2))) [.gc [127,130,132,136],.gcr 26000 27000,.gcr 36000 37000,.tok 9 109])
def Av:RC:=sX
def At:List RI:=[Wa 42 9,Wa 43 3,oo 44 (.slcL 1 (.t 42) none (some (.t 43)) none) [42,43],Wa 8 44]
def xiT:RC:=(So lv (Sq (So J8 (Xy 17 [0,1,2,3,17] (So tW .ret))) (So yu (Sq (So J7 (Bk 0 (.pre [.tok 9 109] (.loop Av)))) (So At .ret)))))
def Zt:FnC:=⟨xiT,45,[.tmp 8],[],[]⟩
def J1:List RI:=[WX 10]
def J0:List RI:=[Wa 12 2,Wa 11 12]
def JZ:List RI:=[om 13 11,om 14 3,Wg 15 .lss 13 14]
def JY:List RI:=[om 18 0,Wo 19 18,om 20 1,Wo 21 20,om 22 11,Wo 23 22,oo 24 (.litB [.t 19,.t 21,.t 23]) [19,21,23],Wa 25 4,oo 26 (.lit 1 [.t 24,.t 25]) [24,25],WT 27 65 1 26,WW 28 1 27 16,Wa 4 28]
def JX:List RI:=[Wa 16 11,Wb 17 .add 16 1,Wa 11 17]
def zm:RC:=(Sq (So JZ (Xx 15 [0,1,3,11,15] (.exit 0))) (Sq (Bk 1 (.ops JY)) (.ops JX)))
def yr:RC:=zm
def JW:List RI:=[Wa 29 4,Wa 10 29]
def xiS:RC:=(So J1 (Sq (So J0 (Bk 0 (.loop yr))) (So JW .ret)))
def Zs:FnC:=⟨xiS,30,[.tmp 10],[],[]⟩
def JV:List RI:=[Wa 7 0,Wa 8 1,Wo 9 8,Wa 10 2,Wo 11 10,oo 12 (.litB [.t 9,.t 11]) [9,11],oo 13 (Ca 148 [.t 7,(.c (.str [99,104,97,105,110])),.t 12,ci 16]) [7,12],Wa 6 13]
def xiR:RC:=(So tJ (So JV .ret))
def Zr:FnC:=⟨xiR,14,[.tmp 6],[],[]⟩
def JU:List RI:=[Wa 5 0,Wo 6 5,WO 7 6,Wa 8 1,oo 9 (.lit 1 [.t 7,.t 8]) [7,8],WT 10 65 2 9,WW 11 1 10 16,Wa 4 11]
def xiQ:RC:=(So ir (So JU .ret))
def Zq:FnC:=⟨xiQ,12,[.tmp 4],[],[]⟩
def JT:List RI:=[om 3 0,Wb 4 .geq 3 0,Wa 5 4,.grp 5 true [(xi 6 5 true (Mv 0)),(xi 7 5 true (Bc .leq 6 3))] [0,6],Wv 8 5 7,Wa 2 8]
def xiP:RC:=(So lu (So JT .ret))
def Zp:FnC:=⟨xiP,9,[.tmp 2],[],[]⟩
def JS:List RI:=[Wz 5 2,WX 6,WR 7 false]
def JR:List RI:=[om 10 0,Wn 11 170 10,WQ 12 11,Wa 13 12,.grp 13 false [(xi 14 13 false (Ld 5)),(xi 15 13 false (Ln 14)),(xi 16 13 false (Bc .neq 15 560))] [14,15],Wh 17 13 16]
def JQ:List RI:=[WY 6,on 7 (Mb false)]
def JP:List RI:=[Wa 18 1,Wn 19 171 18,on 8 (.new (.rc [.lst 1 [] .clip])),Wq 1 8 19]
def JO:List RI:=[oo 20 (.mkfn 172 [] [.t 5]) [5],Wa 9 20]
def JN:List RI:=[om 21 0,Wa 22 0,Wa 23 9,oo 24 (.mkfn 175 [] [.t 8]) [8],oo 25 (Ca 174 [.t 22,.t 23,.t 24,(.f 176)]) [22,23,24],Wu 26 173 21 25,Wa 6 26,on 7 (Mb true)]
def xiO:RC:=(So JS (Sq (So JR (Xy 17 [0,1,5,17] (So JQ .ret))) (So JP (So JO (So JN .ret)))))
def Zo:FnC:=⟨xiO,27,[.tmp 6,.tmp 7],[],[]⟩
def JM:List RI:=[om 12 2,Wi 13 12,Wb 14 .gtr 13 3,Wa 15 14,.grp 15 false [(xi 16 15 false (Mv 1)),(xi 17 15 false (Bc .lss 16 0))] [16],Wh 18 15 17,Wa 19 18,.grp 19 false [(xi 20 19 false (Mv 1)),(xi 21 19 false (Mv 2)),(xi 22 19 false (Ln 21)),(xi 23 19 false (.toInt .u64 (.t 22))),(xi 24 19 false (.bin .shl (ci 1) (.t 23))),(xi 25 19 false (Bb .geq 20 24))] [20,21,22,23,24],Wh 26 19 25]
def JL:List RI:=[Wa 27 0,Xf 28 1 27,Wa 7 28]
def JK:List RI:=[Wa 29 2,on 30 (Ln 29),Wk 31 0]
def JJ:List RI:=[on 32 (Bb .lss 31 30)]
def JI:List RI:=[om 33 31,on 34 (Ia 1 29 31),Wc 35 34,Wa 8 33,Wa 9 35]
def JH:List RI:=[om 36 7,om 37 9,Wa 10 36,Wa 11 37]
def JG:List RI:=[om 38 1,Wb 39 .and 38 1,Wb 40 .eql 39 1]
def JF:List RI:=[Wa 41 9,Wa 42 7,Wa 10 41,Wa 11 42]
def As:List RI:=[Wa 43 1,oo 44 (.bin .shr (.t 43) (.c (.int .u64 1))) [43],Wa 1 44]
def Ar:List RI:=[Wa 45 8,om 46 1,Wa 47 10,Wa 48 11,oo 49 (Ca 177 [.t 45,.t 46,.t 47,.t 48]) [45,46,47,48],Wa 7 49]
def Aq:List RI:=[Wb 50 .add 31 1,Wa 31 50]
def sW:RC:=(So JJ (Sq (Xx 32 [1,29,30,31,32] (.exit 0)) (Sq (Bk 1 (So JI (So JH (Sq (So JG (Kc 40 (Kk [10,11,40] (.ops JF)) (Kk [7,9,40] .skip))) (So As (.ops Ar)))))) (.ops Aq))))
def r4:RC:=sW
def Ap:List RI:=[Wa 51 7,Wa 6 51]
def xiN:RC:=(So tJ (Sq (So JM (Xy 26 [0,1,2,26] (So yw .ret))) (So JL (Sq (So JK (Bk 0 (.loop r4))) (So Ap .ret)))))
def Zn:FnC:=⟨xiN,52,[.tmp 6],[],[]⟩
def JE:List RI:=[Wf 4 0 1,Wc 5 4,Wb 6 .lss 5 1,Wa 7 6,.grp 7 false [(xi 8 7 false (Fa 0 1)),(xi 9 7 false (Ld 8)),(xi 10 7 false (Bc .gtr 9 4))] [8,9],Wh 11 7 10,Wa 12 11,.grp 12 false [(xi 13 12 false (Fa 2 1)),(xi 14 12 false (Ld 13)),(xi 15 12 false (Bc .lss 14 0))] [13,14],Wh 16 12 15,Wa 17 16,.grp 17 false [(xi 18 17 false (Fa 2 1)),(xi 19 17 false (Ld 18)),(xi 20 17 false (Bc .gtr 19 1000000))] [18,19],Wh 21 17 20,Wa 3 21]
def JD:List RI:=[Wf 23 1 1,Wc 24 23,Wn 25 189 24,WQ 26 25,Wa 22 26]
def JC:List RI:=[Wf 28 3 1,Wc 29 28,Wi 30 29,Wb 31 .gtr 30 64,Wa 27 31]
def JB:List RI:=[Wf 33 0 1,Wc 34 33,Wb 35 .eql 34 4,Wa 36 35,.grp 36 true [(xi 37 36 true (Lt 4 1)),(xi 38 36 true (Ca 190 [.t 37])),(xi 39 36 true (Ln 38)),(xi 40 36 true (Bc .eql 39 0))] [1,37,38,39],Wv 41 36 40,Wa 32 41]
def JA:List RI:=[Wk 2 40]
def xiM:RC:=(So oc (Sq (Bk 0 (So JE (Kc 3 (Kk [1,3] (So fX .ret)) (Kk [3] (So JD (Kc 22 (Kk [1,22] (So tL .ret)) (Kk [22] (So JC (Kc 27 (Kk [1,27] (So nZ .ret)) (Kk [27] (So JB (Xy 32 [32] (So JA .ret))))))))))))) (So kv .ret)))
def Zm:FnC:=⟨xiM,42,[.tmp 2],[],[]⟩
def Jz:List RI:=[Wa 5 0,Wa 6 1,Wu 7 191 5 6,Wa 4 7]
def xiL:RC:=(So tP (So Jz .ret))
def Zl:FnC:=⟨xiL,8,[.tmp 4],[],[]⟩
def Jy:List RI:=[om 3 0,Wa 4 0,Wg 5 .neq 3 4,Wa 2 5]
def xiK:RC:=(So lu (So Jy .ret))
def Zk:FnC:=⟨xiK,6,[.tmp 2],[],[]⟩
def xiJ:RC:=(So p7 (Sq (.flt [0,0,2,7,15,31,63,0,0,256,768,1920,3968,8064,16256,32767,0,0,131072,393216,983040,2031616,4128768,8323072,16777215,0,0,67108864,201326592,503316480,1040187392,2113929216,4294967295,8589934591] [] yE [0,1,5,6,7,8,9,10,11,12,13,14,15,16,17,18,19,20,21,22,23,24,25,26,27,28,29,30,31,32,33,34,35,36,37]) .ret))
def Zj:FnC:=⟨xiJ,38,[.tmp 4],[],[]⟩
def Jx:List RI:=[Wa 6 1,WN 7 6,oo 8 (.bin .and (.t 7) (.c (.int .u64 31))) [7],Wa 5 8]
def Jw:List RI:=[om 9 0,om 10 5,Wg 11 .shl 9 10,Wa 12 0,Wa 13 5,oo 14 (.bin .sub (.c (.int .u64 32)) (.t 13)) [13],Wg 15 .shr 12 14,Wg 16 .or 11 15,Wa 4 16]
def xiI:RC:=(So p7 (So Jx (So Jw .ret)))
def Zi:FnC:=⟨xiI,17,[.tmp 4],[],[]⟩
def yq:List RI:=[oo 2 (.mov (.c (.lst 1 [] .clip))) [2]]
def Jv:List RI:=[Wa 7 0,WS 8 1 7,WT 9 65 4 8,WW 10 1 9 16,Wa 3 10]
def Ju:List RI:=[om 11 6,Wb 12 .lss 11 16]
def Jt:List FI:=[Fm 0 15 4,Fm 1 16 3,Fm 2 17 6,Wr 3 18 1 16 17,We 4 19 18,Fs 5 20 (.bin .shr (.t 19) (.c (.int .u64 4))),Xa 6 21 20,Fm 7 22 3,Fm 8 23 6,Wr 9 24 1 22 23,We 10 25 24,Fs 11 26 (.bin .and (.t 25) (.c (.u8 15))),Xa 12 27 26,Fs 13 28 (.lit 1 [.t 21,.t 27]),Fz 14 29 (.app [.int .i64 0] 8 (.t 15) (.t 28)),⟨15,false,(xm 4 29)⟩]
def Js:List FI:=[Fm 0 30 5,Fm 1 31 3,Fm 2 32 6,Wr 3 33 1 31 32,We 4 34 33,Fs 5 35 (.bin .shr (.t 34) (.c (.int .u64 4))),Xa 6 36 35,WJ 7 37 .sub 30 36,Fm 8 38 3,Fm 9 39 6,Wr 10 40 1 38 39,We 11 41 40,Fs 12 42 (.bin .and (.t 41) (.c (.u8 15))),Xa 13 43 42,Wj 14 44 .sub 37 43,Wj 15 45 .add 30 44,⟨16,false,(xm 5 45)⟩]
def zl:RC:=(.post (Sq (So Ju (Xx 12 [3,6,12] (.exit 0))) (Sq (Bk 1 (Sq (.flt [0,0,0,6,14,30,62,0,0,384,896,1920,3968,8190,16383,32767] [129] Jt [15,16,17,18,19,20,21,22,23,24,25,26,27,28,29]) (.flt [0,0,0,6,14,30,62,126,0,0,768,1792,3840,7936,16382,32767,65535] [] Js [30,31,32,33,34,35,36,37,38,39,40,41,42,43,44,45]))) (.ops yG))) [.tok 4 104])
def yo:RC:=zl
def Ao:List RI:=[Wa 46 4,om 47 5,Wb 48 .quo 47 256,om 49 5,Wb 50 .quo 49 16,Wb 51 .rem 50 16,Wa 52 5,Wb 53 .rem 52 16,Xp 54 1 48 51 53,Xw 55 8 46 54,Wa 2 55]
def xiH:RC:=(So yq (So Jv (So yv (So oe (Sq (So lH (Bk 0 (.pre [.tok 4 104] (.loop yo)))) (So Ao .ret))))))
def Zh:FnC:=⟨xiH,56,[.tmp 2],[],[]⟩
def Jr:List RI:=[om 3 0,Xk 4 .shr 3,Wo 5 4,om 6 0,Xl 7 .shr 6,Wo 8 7,om 9 0,W4 10 .shr 9,Wo 11 10,Wa 12 0,Wo 13 12,Xm 14 5 8 11 13,Wa 2 14]
def xiG:RC:=(So lF (So Jr .ret))
def Zg:FnC:=⟨xiG,15,[.tmp 2],[0],[]⟩
def Jq:List RI:=[om 9 0,Wi 10 9,Wb 11 .gtr 10 64]
def Jp:List RI:=[Wa 12 0,Wn 13 68 12,Wa 0 13]
def Jo:List FI:=[Fz 0 14 (.mkB (ci 64) (ci 64)),Fm 2 5 14,Fz 1 15 (.mkB (ci 64) (ci 64)),Fm 3 6 15]
def Jn:List RI:=[om 16 7,Wb 17 .lss 16 64]
def Jm:List RI:=[on 8 (.mov (.c (.u8 0)))]
def Jl:List RI:=[om 20 7,om 21 0,Wi 22 21,Wg 23 .lss 20 22]
def Jk:List RI:=[om 24 0,om 25 7,WG 26 1 24 25,Wc 27 26,Wa 8 27]
def Jj:List RI:=[om 28 5,om 29 7,om 30 6,om 31 7,om 32 8,oo 33 (.bin .xor (.t 32) (.c (.u8 54))) [32],Wa 34 8,oo 35 (.bin .xor (.t 34) (.c (.u8 92))) [34],WG 36 1 28 29,Wy 1 36 33,WG 37 1 30 31,Wy 1 37 35]
def An:List RI:=[Wa 18 7,Wb 19 .add 18 1,Wa 7 19]
def sV:RC:=(Sq (So Jn (Xx 17 [0,7,17] (.exit 0))) (Sq (Bk 1 (So Jm (Sq (So Jl (Xy 23 [8,23] (.ops Jk))) (.ops Jj)))) (.ops An)))
def rZ:RC:=sV
def Am:List RI:=[Wa 38 6,Wa 39 5,Wa 40 1,.dir (.tok 39 139),Ws 41 1 39 40,Wn 42 68 41,.dir (.tok 38 138),Ws 43 1 38 42,Wn 44 68 43,Wa 4 44]
def xiF:RC:=(So ir (Sq (So Jq (Xy 11 [11] (.ops Jp))) (Sq (.fla [0,0,1,7] [114,115] Jo [[0,2,1,3],[1,0,2,3]] [14,15]) (Sq (So HW (Bk 0 (.loop rZ))) (So Am .ret)))))
def Zf:FnC:=⟨xiF,45,[.tmp 4],[],[]⟩
def Ji:List RI:=[om 3 0,Wb 4 .geq 3 0,Wa 5 4,.grp 5 true [(xi 6 5 true (Mv 0)),(xi 7 5 true (Bc .leq 6 255))] [0,6],Wv 8 5 7,Wa 2 8]
def xiE:RC:=(So lu (So Ji .ret))
def Ze:FnC:=⟨xiE,9,[.tmp 2],[],[]⟩
def Jh:List RI:=[Xh 3]
def Jg:List RI:=[Wa 9 0,WS 10 1 9,WT 11 60 4 10,WW 12 1 11 16,on 13 (Ln 12),Wk 14 0]
def Jf:List RI:=[on 16 (Ia 1 12 14),Wc 17 16,Wa 6 17]
def Je:List RI:=[om 18 6,oo 19 (.bin .shr (.t 18) (.c (.int .u64 4))) [18],W9 20 19,Wa 21 6,oo 22 (.bin .and (.t 21) (.c (.u8 15))) [21],W9 23 22,oo 24 (.build [.int .i64 0,.int .i64 0] [(0,1,(.t 20)),(1,1,(.t 23))]) [20,23],Wk 25 0]
def Jd:List RI:=[on 26 (Bc .lss 25 2)]
def Jc:List RI:=[on 27 (.idxA 2 1 false (.t 24) (.t 25)),Wa 8 27]
def Jb:List RI:=[Wa 28 3,om 29 8,WS 30 1 29,Xw 31 8 28 30,Wa 3 31]
def Al:List RI:=[Wa 32 4,Wa 33 8,WV 34 .sub 15 33,Wg 35 .add 32 34,Wa 4 35]
def Ak:List RI:=[Wb 36 .add 25 1,Wa 25 36]
def sU:RC:=(.post (So Jd (Sq (Xx 26 [24,25,26] (.exit 2)) (Sq (Bk 3 (So Jc (So Jb (.ops Al)))) (.ops Ak)))) [.tok 3 103])
def Aj:RC:=sU
def Ai:List RI:=[Wb 37 .add 14 1,Wa 14 37]
def sS:RC:=(.post (So yP (Sq (Xx 15 [12,13,14,15] (.exit 0)) (Sq (Bk 1 (So Jf (So Je (Bk 2 (.pre [.tok 3 103] (.loop Aj)))))) (.ops Ai)))) [.tok 3 103])
def rY:RC:=sS
def Ah:List RI:=[Wa 38 3,om 39 4,W4 40 .shr 39,om 41 4,oo 42 (.bin .shr (.t 41) (.c (.int .u64 4))) [41],Wb 43 .and 42 15,Wa 44 4,Wb 45 .and 44 15,Xp 46 1 40 43 45,Xw 47 8 38 46,Wa 2 47]
def xiD:RC:=(So yq (So Jh (So jD (Sq (So Jg (Bk 0 (.pre [.tok 3 103] (.loop rY)))) (So Ah .ret)))))
def Zd:FnC:=⟨xiD,48,[.tmp 2],[],[]⟩
def Ja:List RI:=[WX 3]
def I9:List RI:=[Wc 4 1,om 5 0,Wb 6 .mul 5 16,Wa 7 0,Wb 8 .add 7 1,Wb 9 .mul 8 16,Xv 10 1 4 6 9,Wa 3 10]
def xiC:RC:=(So Ja (So I9 .ret))
def Zc:FnC:=⟨xiC,11,[.tmp 3],[],[]⟩
def I8:List RI:=[Wa 5 0,Wo 6 5,WO 7 6,Wa 8 1,oo 9 (.lit 1 [.t 7,.t 8]) [7,8],WT 10 60 2 9,Xn 11 1 10 16 16,Wa 4 11]
def xiB:RC:=(So ir (So I8 .ret))
def Zb:FnC:=⟨xiB,12,[.tmp 4],[],[]⟩
def I7:List RI:=[Wk 13 0]
def I6:List RI:=[on 14 (Bc .lss 13 35)]
def I5:List RI:=[om 15 13,Wa 10 15]
def I4:List RI:=[om 16 1,om 17 10,Xo 18 16 17,Wa 11 18]
def I3:List RI:=[om 19 2,om 20 10,Xo 21 19 20,Wa 12 21]
def I2:List RI:=[om 22 12,om 23 3,om 24 10,Xo 25 23 24,Wg 26 .lss 22 25]
def I1:List RI:=[om 29 0,om 30 10,om 31 12,Wa 32 11,oo 33 (Ca 196 [.t 29,.t 30,.t 31,.t 32]) [29,30,31,32],Wa 11 33]
def I0:List RI:=[Wa 27 12,Wb 28 .add 27 1,Wa 12 28]
def sR:RC:=(Sq (So I2 (Xx 26 [10,12,26] (.exit 2))) (Sq (Bk 3 (.ops I1)) (.ops I0)))
def rX:RC:=sR
def Ag:List RI:=[Wa 34 9,Wa 35 11,Ws 36 1 34 35,Wa 9 36]
def Af:List RI:=[Wb 37 .add 13 1,Wa 13 37]
def sQ:RC:=(.post (So I6 (Sq (Xx 14 [0,1,2,3,13,14] (.exit 0)) (Sq (Bk 1 (So I5 (So I4 (Sq (So I3 (Bk 2 (.loop rX))) (.ops Ag))))) (.ops Af)))) [.tok 9 109])
def od:RC:=sQ
def Ae:List RI:=[Wa 38 9,Wa 8 38]
def xiA:RC:=(So lv (So yu (Sq (So I7 (Bk 0 (.pre [.tok 9 109] (.loop od)))) (So Ae .ret))))
def Za:FnC:=⟨xiA,39,[.tmp 8],[],[]⟩
def IZ:List RI:=[WL 3 0]
def IY:List RI:=[Wc 4 1,Wa 5 0,WG 6 1 4 5,Wc 7 6,Wa 3 7]
def xiz:RC:=(So IZ (So IY .ret))
def Y9:FnC:=⟨xiz,8,[.tmp 3],[],[]⟩
def IX:List RI:=[Wk 2 15]
def xiy:RC:=(Kk [0] (So tI (So IX .ret)))
def Y8:FnC:=⟨xiy,3,[.tmp 2],[],[]⟩
def IW:List RI:=[Wa 9 0,Wo 10 9,Wa 11 1,Wo 12 11,oo 13 (.litB [.t 10,.t 12]) [10,12],Wa 14 2,Wa 15 3,Xp 16 1 13 14 15,WT 17 60 3 16,Xn 18 1 17 16 16,Wa 8 18]
def xix:RC:=(So lv (So IW .ret))
def Y7:FnC:=⟨xix,19,[.tmp 8],[],[]⟩
def IV:List RI:=[Wa 9 0,Wo 10 9,Wa 11 1,Wo 12 11,Wa 13 2,Wo 14 13,oo 15 (.litB [.t 10,.t 12,.t 14]) [10,12,14],Wa 16 3,oo 17 (.lit 1 [.t 15,.t 16]) [15,16],WT 18 60 1 17,Xn 19 1 18 16 16,Wa 8 19]
def xiw:RC:=(So lv (So IV .ret))
def Y6:FnC:=⟨xiw,20,[.tmp 8],[],[]⟩
theorem Fk{g:Nat}{F:FnC}{fn:Func}(h1:prog.funcs[g]? =some fn)(h3:fn.ntmps=F.n:=by kernel_rfl)(h2:fn.body.map (cC prog)=some F.code.er:=by kernel_rfl)(h4:(pQ prog fn.results.toList F.rs&&dL prog g&&F.code.ok F.n)=true:=by kernel_rfl):bW prog g F:=by simp only[aA]at h4;exact Rg h1 h2 h3 h4.1.1 h4.1.2 h4.2
noncomputable def xh5:Nat->Option FnB
 |3=>some (.code F3)
 |5=>some (.code F5)
 |9=>some (.code F9)
 |10=>some (.code F10)
 |11=>some (.code F11)
 |12=>some (.code F12)
 |13=>some (.code F13)
 |19=>some (.code F19)
 |21=>some (.code F21)
 |22=>some (.code F22)
 |25=>some (.code F25)
 |27=>some (.code F27)
 |28=>some (.code F28)
 |31=>some (.code F31)
 |32=>some (.code F32)
 |33=>some (.code F33)
 |34=>some (.code F34)
 |35=>some (.code F35)
 |36=>some (.code F36)
 |37=>some (.code F37)
 |38=>some (.code F38)
 |39=>some (.code F39)
 |40=>some (.code F40)
 |41=>some (.code F41)
 |46=>some (.code F46)
 |47=>some (.code F47)
 |48=>some (.code F48)
 |49=>some (.code F49)
 |50=>some (.code F50)
 |56=>some (.code F56)
 |57=>some (.code F57)
 |59=>some (.code F59)
 |60=>some (.code F60)
 |61=>some (.code F61)
 |62=>some (.code F62)
 |63=>some (.code F63)
 |64=>some (.code F64)
 |65=>some (.code F65)
 |66=>some (.code F66)
 |67=>some (.code F67)
 |68=>some (.code F68)
 |74=>some (.code F74)
 |75=>some (.code F75)
 |76=>some (.code F76)
 |77=>some (.code F77)
 |78=>some (.code F78)
 |79=>some (.code F79)
 |80=>some (.code F80)
 |81=>some (.code F81)
 |82=>some (.code F82)
 |84=>some (.code F84)
 |85=>some (.code F85)
 |88=>some (.code F88)
 |89=>some (.code F89)
 |98=>some (.code F98)
 |99=>some (.code F99)
 |100=>some (.code Z3)
 |101=>some (.code Z2)
 |102=>some (.code Z1)
 |103=>some (.code Z0)
 |104=>some (.code ZZ)
 |105=>some (.code ZY)
 |106=>some (.code ZX)
 |107=>some (.code ZW)
 |108=>some (.code ZV)
 |109=>some (.code ZU)
 |110=>some (.code ZT)
 |111=>some (.code ZS)
 |112=>some (.code ZR)
 |113=>some (.code ZQ)
 |114=>some (.code ZP)
 |115=>some (.code ZO)
 |116=>some (.code ZN)
 |117=>some (.code ZM)
 |118=>some (.code ZL)
 |119=>some (.code ZK)
 |122=>some (.code ZJ)
 |124=>some (.code ZI)
 |125=>some (.code ZH)
 |126=>some (.code ZG)
 |127=>some (.code ZF)
 |128=>some (.code ZE)
 |129=>some (.code ZD)
 |133=>some (.code ZC)
 |134=>some (.code ZB)
 |140=>some (.code ZA)
 |141=>some (.code Zz)
 |143=>some (.code Zy)
 |144=>some (.code Zx)
 |145=>some (.code Zw)
 |146=>some (.code Zv)
 |147=>some (.code Zu)
 |148=>some (.code Zt)
 |149=>some (.code Zs)
 |150=>some (.code Zr)
 |151=>some (.code Zq)
 |153=>some (.code Zp)
 |154=>some (.code Zo)
 |155=>some (.code Zn)
 |158=>some (.code Zm)
 |159=>some (.code Zl)
 |161=>some (.code Zk)
 |164=>some (.code Zj)
 |165=>some (.code Zi)
 |166=>some (.code Zh)
 |167=>some (.code Zg)
 |168=>some (.code Zf)
 |170=>some (.code Ze)
 |171=>some (.code Zd)
 |172=>some (.code Zc)
 |173=>some (.code Zb)
 |174=>some (.code Za)
 |175=>some (.code Y9)
 |176=>some (.code Y8)
 |177=>some (.code Y7)
 |196=>some (.code Y6)
 |83=>some (.prim Pr.p83)
 |189=>some (.prim Pr.p189)
 |191=>some (.prim Pr.p191)
 |202=>some (.prim Pr.p202)
 |86=>some (.prim Pr.p86)
 |87=>some (.prim Pr.p87)
 |90=>some (.prim Pr.p90)
 |91=>some (.prim Pr.p91)
 |_=>none
def xki:Nat->Sig
 |81=>⟨[],[0]⟩
 |88=>⟨[],[0]⟩
 |86=>⟨[0],[0]⟩
 |90=>⟨[0],[0]⟩
 |_=> {}
noncomputable def T:fP:=⟨xh5,xki⟩
abbrev tf(k:Nat)(F:FnC):Prop:=T.fn k=some (.code F)
theorem T_3:tf 3 F3:=rfl
theorem T_5:tf 5 F5:=rfl
theorem T_9:tf 9 F9:=rfl
theorem xdN:tf 10 F10:=rfl
theorem xj2:tf 11 F11:=rfl
theorem xj1:tf 12 F12:=rfl
theorem xmX:tf 13 F13:=rfl
theorem xmW:tf 19 F19:=rfl
theorem xmV:tf 21 F21:=rfl
theorem xj0:tf 22 F22:=rfl
theorem xmU:tf 25 F25:=rfl
theorem xmT:tf 27 F27:=rfl
theorem xmS:tf 28 F28:=rfl
theorem xmR:tf 31 F31:=rfl
theorem xmQ:tf 32 F32:=rfl
theorem xmP:tf 33 F33:=rfl
theorem xjZ:tf 34 F34:=rfl
theorem xmO:tf 35 F35:=rfl
theorem xmN:tf 36 F36:=rfl
theorem xmM:tf 37 F37:=rfl
theorem xmL:tf 38 F38:=rfl
theorem xmK:tf 39 F39:=rfl
theorem xmJ:tf 40 F40:=rfl
theorem xjY:tf 41 F41:=rfl
theorem xmI:tf 46 F46:=rfl
theorem xmH:tf 47 F47:=rfl
theorem Yq:tf 48 F48:=rfl
theorem xjX:tf 49 F49:=rfl
theorem Yp:tf 50 F50:=rfl
theorem xmG:tf 56 F56:=rfl
theorem xmF:tf 57 F57:=rfl
theorem xjW:tf 59 F59:=rfl
theorem xjV:tf 60 F60:=rfl
theorem xmE:tf 61 F61:=rfl
theorem xmD:tf 62 F62:=rfl
theorem xmC:tf 63 F63:=rfl
theorem xmB:tf 64 F64:=rfl
theorem xjU:tf 65 F65:=rfl
theorem xmA:tf 66 F66:=rfl
theorem xjT:tf 67 F67:=rfl
theorem xmz:tf 68 F68:=rfl
theorem xmy:tf 74 F74:=rfl
theorem xmx:tf 75 F75:=rfl
theorem xmw:tf 76 F76:=rfl
theorem xmv:tf 77 F77:=rfl
theorem xmu:tf 78 F78:=rfl
theorem xmt:tf 79 F79:=rfl
theorem xms:tf 80 F80:=rfl
theorem xmr:tf 81 F81:=rfl
theorem xmq:tf 82 F82:=rfl
theorem xmo:tf 84 F84:=rfl
theorem xmn:tf 85 F85:=rfl
theorem xml:tf 88 F88:=rfl
theorem xmk:tf 89 F89:=rfl
theorem xmi:tf 98 F98:=rfl
theorem xmh:tf 99 F99:=rfl
theorem xhB:tf 100 Z3:=rfl
theorem xhA:tf 101 Z2:=rfl
theorem xhz:tf 102 Z1:=rfl
theorem xhy:tf 103 Z0:=rfl
theorem Yv:tf 104 ZZ:=rfl
theorem D4:tf 105 ZY:=rfl
theorem xhx:tf 106 ZX:=rfl
theorem xhw:tf 107 ZW:=rfl
theorem xhv:tf 108 ZV:=rfl
theorem Yu:tf 109 ZU:=rfl
theorem Yt:tf 110 ZT:=rfl
theorem xhu:tf 111 ZS:=rfl
theorem xht:tf 112 ZR:=rfl
theorem xhs:tf 113 ZQ:=rfl
theorem xhr:tf 114 ZP:=rfl
theorem xhq:tf 115 ZO:=rfl
theorem xhp:tf 116 ZN:=rfl
theorem xho:tf 117 ZM:=rfl
theorem xhn:tf 118 ZL:=rfl
theorem xhm:tf 119 ZK:=rfl
theorem xQ:tf 122 ZJ:=rfl
theorem xhl:tf 124 ZI:=rfl
theorem xhk:tf 125 ZH:=rfl
theorem xhj:tf 126 ZG:=rfl
theorem xhi:tf 127 ZF:=rfl
theorem xhh:tf 128 ZE:=rfl
theorem xhg:tf 129 ZD:=rfl
theorem Ys:tf 133 ZC:=rfl
theorem xhf:tf 134 ZB:=rfl
theorem xhe:tf 140 ZA:=rfl
theorem xhd:tf 141 Zz:=rfl
theorem xhc:tf 143 Zy:=rfl
theorem xhb:tf 144 Zx:=rfl
theorem xha:tf 145 Zw:=rfl
theorem OG:tf 146 Zv:=rfl
theorem xg9:tf 147 Zu:=rfl
theorem xg8:tf 148 Zt:=rfl
theorem xg7:tf 149 Zs:=rfl
theorem xg6:tf 150 Zr:=rfl
theorem xg5:tf 151 Zq:=rfl
theorem Yr:tf 153 Zp:=rfl
theorem xg4:tf 154 Zo:=rfl
theorem xg3:tf 155 Zn:=rfl
theorem xg2:tf 158 Zm:=rfl
theorem xg1:tf 159 Zl:=rfl
theorem xg0:tf 161 Zk:=rfl
theorem xgZ:tf 164 Zj:=rfl
theorem xgY:tf 165 Zi:=rfl
theorem xgX:tf 166 Zh:=rfl
theorem xgW:tf 167 Zg:=rfl
theorem xgV:tf 168 Zf:=rfl
theorem xgU:tf 170 Ze:=rfl
theorem xgT:tf 171 Zd:=rfl
theorem xgS:tf 172 Zc:=rfl
theorem xgR:tf 173 Zb:=rfl
theorem xgQ:tf 174 Za:=rfl
theorem xgP:tf 175 Y9:=rfl
theorem xgO:tf 176 Y8:=rfl
theorem xgN:tf 177 Y7:=rfl
theorem xgK:tf 196 Y6:=rfl
theorem xmp:T.fn 83=some (.prim Pr.p83):=rfl
theorem xgM:T.fn 189=some (.prim Pr.p189):=rfl
theorem xgL:T.fn 191=some (.prim Pr.p191):=rfl
theorem xm9:T.fn 202=some (.prim Pr.p202):=rfl
theorem xjS:T.fn 86=some (.prim Pr.p86):=rfl
theorem xmm:T.fn 87=some (.prim Pr.p87):=rfl
theorem xjR:T.fn 90=some (.prim Pr.p90):=rfl
theorem xmj:T.fn 91=some (.prim Pr.p91):=rfl
theorem xdP:T.sg 83= {}:=rfl
theorem YJ:T.sg 189= {}:=rfl
theorem xhD:T.sg 191= {}:=rfl
theorem xna:T.sg 202= {}:=rfl
theorem xj6:T.sg 86=⟨[0],[0]⟩:=rfl
theorem xj5:T.sg 87= {}:=rfl
theorem xj4:T.sg 90=⟨[0],[0]⟩:=rfl
theorem xj3:T.sg 91= {}:=rfl
theorem S_3:T.sg 3= {}:=rfl
theorem S_5:T.sg 5= {}:=rfl
theorem S_9:T.sg 9= {}:=rfl
theorem NB:T.sg 10= {}:=rfl
theorem NA:T.sg 11= {}:=rfl
theorem xdS:T.sg 12= {}:=rfl
theorem YW:T.sg 13= {}:=rfl
theorem Sc:T.sg 19= {}:=rfl
theorem tq:T.sg 21= {}:=rfl
theorem YI:T.sg 22= {}:=rfl
theorem YH:T.sg 25= {}:=rfl
theorem xm7:T.sg 27= {}:=rfl
theorem xm6:T.sg 28= {}:=rfl
theorem Sb:T.sg 31= {}:=rfl
theorem xU:T.sg 32= {}:=rfl
theorem xdR:T.sg 33= {}:=rfl
theorem YG:T.sg 34= {}:=rfl
theorem xka:T.sg 35= {}:=rfl
theorem xm5:T.sg 36= {}:=rfl
theorem Nz:T.sg 37= {}:=rfl
theorem rK:T.sg 38= {}:=rfl
theorem xT:T.sg 39= {}:=rfl
theorem xj9:T.sg 40= {}:=rfl
theorem xm4:T.sg 41= {}:=rfl
theorem xdQ:T.sg 46= {}:=rfl
theorem Ew:T.sg 47= {}:=rfl
theorem xm3:T.sg 48= {}:=rfl
theorem YF:T.sg 49= {}:=rfl
theorem xm2:T.sg 50= {}:=rfl
theorem xm1:T.sg 56= {}:=rfl
theorem xj8:T.sg 57= {}:=rfl
theorem B0:T.sg 59= {}:=rfl
theorem Sa:T.sg 60= {}:=rfl
theorem Ny:T.sg 61= {}:=rfl
theorem xj7:T.sg 62= {}:=rfl
theorem YE:T.sg 63= {}:=rfl
theorem Eu:T.sg 64= {}:=rfl
theorem R9:T.sg 65= {}:=rfl
theorem xm0:T.sg 66= {}:=rfl
theorem YD:T.sg 67= {}:=rfl
theorem YC:T.sg 68= {}:=rfl
theorem BZ:T.sg 74= {}:=rfl
theorem o4:T.sg 75= {}:=rfl
theorem Et:T.sg 76= {}:=rfl
theorem Es:T.sg 77= {}:=rfl
theorem xS:T.sg 78= {}:=rfl
theorem BY:T.sg 79= {}:=rfl
theorem Er:T.sg 80= {}:=rfl
theorem YA:T.sg 81=⟨[],[0]⟩:=rfl
theorem Yz:T.sg 82= {}:=rfl
theorem Yy:T.sg 84= {}:=rfl
theorem Nw:T.sg 85= {}:=rfl
theorem Yx:T.sg 88=⟨[],[0]⟩:=rfl
theorem Yw:T.sg 89= {}:=rfl
theorem xmZ:T.sg 98= {}:=rfl
theorem xmY:T.sg 99= {}:=rfl
theorem OQ:T.sg 100= {}:=rfl
theorem ko:T.sg 101= {}:=rfl
theorem lS:T.sg 102= {}:=rfl
theorem Y3:T.sg 103= {}:=rfl
theorem Y2:T.sg 104= {}:=rfl
theorem xhY:T.sg 105= {}:=rfl
theorem iz:T.sg 106= {}:=rfl
theorem Y1:T.sg 107= {}:=rfl
theorem OP:T.sg 108= {}:=rfl
theorem Y0:T.sg 109= {}:=rfl
theorem D5:T.sg 110= {}:=rfl
theorem OO:T.sg 111= {}:=rfl
theorem ON:T.sg 112= {}:=rfl
theorem xX:T.sg 113= {}:=rfl
theorem OM:T.sg 114= {}:=rfl
theorem xhX:T.sg 115= {}:=rfl
theorem xhW:T.sg 116= {}:=rfl
theorem xhV:T.sg 117= {}:=rfl
theorem YZ:T.sg 118= {}:=rfl
theorem xhU:T.sg 119= {}:=rfl
theorem xnb:T.sg 122= {}:=rfl
theorem xW:T.sg 124= {}:=rfl
theorem o5:T.sg 125= {}:=rfl
theorem YY:T.sg 126= {}:=rfl
theorem iy:T.sg 127= {}:=rfl
theorem YX:T.sg 128= {}:=rfl
theorem OL:T.sg 129= {}:=rfl
theorem YV:T.sg 133= {}:=rfl
theorem YU:T.sg 134= {}:=rfl
theorem YT:T.sg 140= {}:=rfl
theorem xhT:T.sg 141= {}:=rfl
theorem xhS:T.sg 143= {}:=rfl
theorem xhR:T.sg 144= {}:=rfl
theorem OJ:T.sg 145= {}:=rfl
theorem OI:T.sg 146= {}:=rfl
theorem xhQ:T.sg 147= {}:=rfl
theorem YS:T.sg 148= {}:=rfl
theorem YR:T.sg 149= {}:=rfl
theorem YQ:T.sg 150= {}:=rfl
theorem xhP:T.sg 151= {}:=rfl
theorem xV:T.sg 153= {}:=rfl
theorem YP:T.sg 154= {}:=rfl
theorem YO:T.sg 155= {}:=rfl
theorem YN:T.sg 158= {}:=rfl
theorem xhO:T.sg 159= {}:=rfl
theorem OH:T.sg 161= {}:=rfl
theorem xhN:T.sg 164= {}:=rfl
theorem YM:T.sg 165= {}:=rfl
theorem xhM:T.sg 166= {}:=rfl
theorem xhL:T.sg 167= {}:=rfl
theorem xhK:T.sg 168= {}:=rfl
theorem xhJ:T.sg 170= {}:=rfl
theorem xhI:T.sg 171= {}:=rfl
theorem xhH:T.sg 172= {}:=rfl
theorem xhG:T.sg 173= {}:=rfl
theorem xhF:T.sg 174= {}:=rfl
theorem xhE:T.sg 175= {}:=rfl
theorem YL:T.sg 176= {}:=rfl
theorem YK:T.sg 177= {}:=rfl
theorem xhC:T.sg 196= {}:=rfl
theorem xey(c:CSt):run T nY c=run T D2 c:=rfl
theorem xeH(c:CSt):run T XS c=run T OE c:=rfl
theorem xeG(c:CSt):run T N9 c=run T OD c:=rfl
theorem xbb(c:CSt):run T yz c=run T zu c:=rfl
theorem xeF(c:CSt):run T N8 c=run T OC c:=rfl
theorem xeE(c:CSt):run T N4 c=run T OB c:=rfl
theorem xeD(c:CSt):run T w9 c=run T OA c:=rfl
theorem xeC(c:CSt):run T N3 c=run T Oz c:=rfl
theorem xeB(c:CSt):run T lG c=run T Oy c:=rfl
theorem xa4(c:CSt):run T pY c=run T zk c:=rfl
theorem xa3(c:CSt):run T pX c=run T zj c:=rfl
theorem xa2(c:CSt):run T ls c=run T zi c:=rfl
theorem xa1(c:CSt):run T lr c=run T zh c:=rfl
theorem xa0(c:CSt):run T yn c=run T zg c:=rfl
theorem xaZ(c:CSt):run T yl c=run T zf c:=rfl
theorem xeA(c:CSt):run T NZ c=run T Ox c:=rfl
theorem xez(c:CSt):run T DM c=run T Ow c:=rfl
theorem xaY(c:CSt):run T tM c=run T ze c:=rfl
theorem xaX(c:CSt):run T pU c=run T zb c:=rfl
theorem xaW(c:CSt):run T pT c=run T za c:=rfl
theorem xaV(c:CSt):run T lq c=run T y9 c:=rfl
theorem xaU(c:CSt):run T tK c=run T y8 c:=rfl
theorem xex(c:CSt):run T NY c=run T Ov c:=rfl
theorem xew(c:CSt):run T TG c=run T Ou c:=rfl
theorem xev(c:CSt):run T TA c=run T Ot c:=rfl
theorem xaT(c:CSt):run T yj c=run T y7 c:=rfl
theorem xaS(c:CSt):run T yi c=run T y6 c:=rfl
theorem xaR(c:CSt):run T yg c=run T y5 c:=rfl
theorem xaQ(c:CSt):run T ye c=run T y4 c:=rfl
theorem xaP(c:CSt):run T yc c=run T y3 c:=rfl
theorem xaO(c:CSt):run T ln c=run T y2 c:=rfl
theorem xaN(c:CSt):run T tH c=run T yZ c:=rfl
theorem xeu(c:CSt):run T NP c=run T Oq c:=rfl
theorem xet(c:CSt):run T NO c=run T Oo c:=rfl
theorem xes(c:CSt):run T NN c=run T On c:=rfl
theorem xbn(c:CSt):run T yQ c=run T zI c:=rfl
theorem xbm(c:CSt):run T MC c=run T zH c:=rfl
theorem P4(c:CSt):run T sn c=run T tg c:=rfl
theorem xbl(c:CSt):run T yO c=run T zG c:=rfl
theorem xbk(c:CSt):run T Ml c=run T zF c:=rfl
theorem xbj(c:CSt):run T yL c=run T zE c:=rfl
theorem xbi(c:CSt):run T yK c=run T zD c:=rfl
theorem xbh(c:CSt):run T yI c=run T zC c:=rfl
theorem xbg(c:CSt):run T LU c=run T zB c:=rfl
theorem xbf(c:CSt):run T tV c=run T zA c:=rfl
theorem xbe(c:CSt):run T yF c=run T zy c:=rfl
theorem P3(c:CSt):run T sk c=run T td c:=rfl
theorem xbd(c:CSt):run T yD c=run T zx c:=rfl
theorem PZ(c:CSt):run T sj c=run T tc c:=rfl
theorem PY(c:CSt):run T si c=run T s9 c:=rfl
theorem xbc(c:CSt):run T K1 c=run T zw c:=rfl
theorem xba(c:CSt):run T tT c=run T zt c:=rfl
theorem xa9(c:CSt):run T yy c=run T zq c:=rfl
theorem PX(c:CSt):run T sh c=run T s8 c:=rfl
theorem xa8(c:CSt):run T yx c=run T zp c:=rfl
theorem PW(c:CSt):run T sf c=run T s7 c:=rfl
theorem PV(c:CSt):run T se c=run T s6 c:=rfl
theorem PU(c:CSt):run T sd c=run T sZ c:=rfl
theorem xa7(c:CSt):run T tQ c=run T zo c:=rfl
theorem PT(c:CSt):run T Aw c=run T sY c:=rfl
theorem PS(c:CSt):run T Av c=run T sX c:=rfl
theorem xa6(c:CSt):run T yr c=run T zm c:=rfl
theorem PR(c:CSt):run T r4 c=run T sW c:=rfl
theorem xa5(c:CSt):run T yo c=run T zl c:=rfl
theorem PQ(c:CSt):run T rZ c=run T sV c:=rfl
theorem PP(c:CSt):run T Aj c=run T sU c:=rfl
theorem PO(c:CSt):run T rY c=run T sS c:=rfl
theorem PN(c:CSt):run T rX c=run T sR c:=rfl
theorem PM(c:CSt):run T od c=run T sQ c:=rfl
theorem xkG:bW prog 3 F3:=Fk func3
theorem xkF:bW prog 5 F5:=Fk func5
theorem xkE:bW prog 9 F9:=Fk func9
theorem xfC:bW prog 10 F10:=Fk func10
theorem xfB:bW prog 11 F11:=Fk func11
theorem xfA:bW prog 12 F12:=Fk func12
theorem xfz:bW prog 13 F13:=Fk func13
theorem xfy:bW prog 19 F19:=Fk func19
theorem xfx:bW prog 21 F21:=Fk func21
theorem xfw:bW prog 22 F22:=Fk func22
theorem xfv:bW prog 25 F25:=Fk func25
theorem xfu:bW prog 27 F27:=Fk func27
theorem xft:bW prog 28 F28:=Fk func28
theorem xfs:bW prog 31 F31:=Fk func31
theorem xfr:bW prog 32 F32:=Fk func32
theorem xfq:bW prog 33 F33:=Fk func33
theorem xfp:bW prog 34 F34:=Fk func34
theorem xfo:bW prog 35 F35:=Fk func35
theorem xfn:bW prog 36 F36:=Fk func36
theorem xfm:bW prog 37 F37:=Fk func37
theorem xfl:bW prog 38 F38:=Fk func38
theorem xfk:bW prog 39 F39:=Fk func39
theorem xfj:bW prog 40 F40:=Fk func40
theorem xfi:bW prog 41 F41:=Fk func41
theorem xfh:bW prog 46 F46:=Fk func46
theorem xfg:bW prog 47 F47:=Fk func47
theorem xff:bW prog 48 F48:=Fk func48
theorem xfe:bW prog 49 F49:=Fk func49
theorem xfd:bW prog 50 F50:=Fk func50
theorem xfc:bW prog 56 F56:=Fk func56
theorem xfb:bW prog 57 F57:=Fk func57
theorem xfa:bW prog 59 F59:=Fk func59
theorem xe9:bW prog 60 F60:=Fk func60
theorem xe8:bW prog 61 F61:=Fk func61
theorem xe7:bW prog 62 F62:=Fk func62
theorem xe6:bW prog 63 F63:=Fk func63
theorem xe5:bW prog 64 F64:=Fk func64
theorem xe4:bW prog 65 F65:=Fk func65
theorem xe3:bW prog 66 F66:=Fk func66
theorem xe2:bW prog 67 F67:=Fk func67
theorem xe1:bW prog 68 F68:=Fk func68
theorem xe0:bW prog 74 F74:=Fk func74
theorem xeZ:bW prog 75 F75:=Fk func75
theorem xeY:bW prog 76 F76:=Fk func76
theorem xeX:bW prog 77 F77:=Fk func77
theorem xeW:bW prog 78 F78:=Fk func78
theorem xeV:bW prog 79 F79:=Fk func79
theorem xeU:bW prog 80 F80:=Fk func80
theorem xeT:bW prog 81 F81:=Fk func81
theorem xeS:bW prog 82 F82:=Fk func82
theorem xeR:bW prog 84 F84:=Fk func84
theorem xeQ:bW prog 85 F85:=Fk func85
theorem xeP:bW prog 88 F88:=Fk func88
theorem xeO:bW prog 89 F89:=Fk func89
theorem xeN:bW prog 98 F98:=Fk func98
theorem xeM:bW prog 99 F99:=Fk func99
theorem xcr:bW prog 100 Z3:=Fk func100
theorem xcq:bW prog 101 Z2:=Fk func101
theorem xcp:bW prog 102 Z1:=Fk func102
theorem xco:bW prog 103 Z0:=Fk func103
theorem xcn:bW prog 104 ZZ:=Fk func104
theorem xcm:bW prog 105 ZY:=Fk func105
theorem xcl:bW prog 106 ZX:=Fk func106
theorem xck:bW prog 107 ZW:=Fk func107
theorem xcj:bW prog 108 ZV:=Fk func108
theorem xci:bW prog 109 ZU:=Fk func109
theorem xch:bW prog 110 ZT:=Fk func110
theorem xcg:bW prog 111 ZS:=Fk func111
theorem xcf:bW prog 112 ZR:=Fk func112
theorem xce:bW prog 113 ZQ:=Fk func113
theorem xcd:bW prog 114 ZP:=Fk func114
theorem xcc:bW prog 115 ZO:=Fk func115
theorem xcb:bW prog 116 ZN:=Fk func116
theorem xca:bW prog 117 ZM:=Fk func117
theorem xb9:bW prog 118 ZL:=Fk func118
theorem xb8:bW prog 119 ZK:=Fk func119
theorem xb7:bW prog 122 ZJ:=Fk func122
theorem xb6:bW prog 124 ZI:=Fk func124
theorem xb5:bW prog 125 ZH:=Fk func125
theorem xb4:bW prog 126 ZG:=Fk func126
theorem xb3:bW prog 127 ZF:=Fk func127
theorem xb2:bW prog 128 ZE:=Fk func128
theorem xb1:bW prog 129 ZD:=Fk func129
theorem xb0:bW prog 133 ZC:=Fk func133
theorem xbZ:bW prog 134 ZB:=Fk func134
theorem xbY:bW prog 140 ZA:=Fk func140
theorem xbX:bW prog 141 Zz:=Fk func141
theorem xbW:bW prog 143 Zy:=Fk func143
theorem xbV:bW prog 144 Zx:=Fk func144
theorem xbU:bW prog 145 Zw:=Fk func145
theorem xbT:bW prog 146 Zv:=Fk func146
theorem xbS:bW prog 147 Zu:=Fk func147
theorem xbR:bW prog 148 Zt:=Fk func148
theorem xbQ:bW prog 149 Zs:=Fk func149
theorem xbP:bW prog 150 Zr:=Fk func150
theorem xbO:bW prog 151 Zq:=Fk func151
theorem xbN:bW prog 153 Zp:=Fk func153
theorem xbM:bW prog 154 Zo:=Fk func154
theorem xbL:bW prog 155 Zn:=Fk func155
theorem xbK:bW prog 158 Zm:=Fk func158
theorem xbJ:bW prog 159 Zl:=Fk func159
theorem xbI:bW prog 161 Zk:=Fk func161
theorem xbH:bW prog 164 Zj:=Fk func164
theorem xbG:bW prog 165 Zi:=Fk func165
theorem xbF:bW prog 166 Zh:=Fk func166
theorem xbE:bW prog 167 Zg:=Fk func167
theorem xbD:bW prog 168 Zf:=Fk func168
theorem xbC:bW prog 170 Ze:=Fk func170
theorem xbB:bW prog 171 Zd:=Fk func171
theorem xbA:bW prog 172 Zc:=Fk func172
theorem xbz:bW prog 173 Zb:=Fk func173
theorem xby:bW prog 174 Za:=Fk func174
theorem xbx:bW prog 175 Y9:=Fk func175
theorem xbw:bW prog 176 Y8:=Fk func176
theorem xbv:bW prog 177 Y7:=Fk func177
theorem xbu:bW prog 196 Y6:=Fk func196
set_option maxHeartbeats 4000000 in
theorem GO:nt prog T:=by
 intro g b h;simp only[T]at h;unfold xh5 at h;split at h
 ·cases h;exact xkG
 ·cases h;exact xkF
 ·cases h;exact xkE
 ·cases h;exact xfC
 ·cases h;exact xfB
 ·cases h;exact xfA
 ·cases h;exact xfz
 ·cases h;exact xfy
 ·cases h;exact xfx
 ·cases h;exact xfw
 ·cases h;exact xfv
 ·cases h;exact xfu
 ·cases h;exact xft
 ·cases h;exact xfs
 ·cases h;exact xfr
 ·cases h;exact xfq
 ·cases h;exact xfp
 ·cases h;exact xfo
 ·cases h;exact xfn
 ·cases h;exact xfm
 ·cases h;exact xfl
 ·cases h;exact xfk
 ·cases h;exact xfj
 ·cases h;exact xfi
 ·cases h;exact xfh
 ·cases h;exact xfg
 ·cases h;exact xff
 ·cases h;exact xfe
 ·cases h;exact xfd
 ·cases h;exact xfc
 ·cases h;exact xfb
 ·cases h;exact xfa
 ·cases h;exact xe9
 ·cases h;exact xe8
 ·cases h;exact xe7
 ·cases h;exact xe6
 ·cases h;exact xe5
 ·cases h;exact xe4
 ·cases h;exact xe3
 ·cases h;exact xe2
 ·cases h;exact xe1
 ·cases h;exact xe0
 ·cases h;exact xeZ
 ·cases h;exact xeY
 ·cases h;exact xeX
 ·cases h;exact xeW
 ·cases h;exact xeV
 ·cases h;exact xeU
 ·cases h;exact xeT
 ·cases h;exact xeS
 ·cases h;exact xeR
 ·cases h;exact xeQ
 ·cases h;exact xeP
 ·cases h;exact xeO
 ·cases h;exact xeN
 ·cases h;exact xeM
 ·cases h;exact xcr
 ·cases h;exact xcq
 ·cases h;exact xcp
 ·cases h;exact xco
 ·cases h;exact xcn
 ·cases h;exact xcm
 ·cases h;exact xcl
 ·cases h;exact xck
 ·cases h;exact xcj
 ·cases h;exact xci
 ·cases h;exact xch
 ·cases h;exact xcg
 ·cases h;exact xcf
 ·cases h;exact xce
 ·cases h;exact xcd
 ·cases h;exact xcc
 ·cases h;exact xcb
 ·cases h;exact xca
 ·cases h;exact xb9
 ·cases h;exact xb8
 ·cases h;exact xb7
 ·cases h;exact xb6
 ·cases h;exact xb5
 ·cases h;exact xb4
 ·cases h;exact xb3
 ·cases h;exact xb2
 ·cases h;exact xb1
 ·cases h;exact xb0
 ·cases h;exact xbZ
 ·cases h;exact xbY
 ·cases h;exact xbX
 ·cases h;exact xbW
 ·cases h;exact xbV
 ·cases h;exact xbU
 ·cases h;exact xbT
 ·cases h;exact xbS
 ·cases h;exact xbR
 ·cases h;exact xbQ
 ·cases h;exact xbP
 ·cases h;exact xbO
 ·cases h;exact xbN
 ·cases h;exact xbM
 ·cases h;exact xbL
 ·cases h;exact xbK
 ·cases h;exact xbJ
 ·cases h;exact xbI
 ·cases h;exact xbH
 ·cases h;exact xbG
 ·cases h;exact xbF
 ·cases h;exact xbE
 ·cases h;exact xbD
 ·cases h;exact xbC
 ·cases h;exact xbB
 ·cases h;exact xbA
 ·cases h;exact xbz
 ·cases h;exact xby
 ·cases h;exact xbx
 ·cases h;exact xbw
 ·cases h;exact xbv
 ·cases h;exact xbu
 ·cases h;exact Pr.p83_ok
 ·cases h;exact Pr.p189_ok
 ·cases h;exact Pr.p191_ok
 ·cases h;exact Pr.p202_ok
 ·cases h;exact Pr.p86_ok
 ·cases h;exact Pr.p87_ok
 ·cases h;exact Pr.p90_ok
 ·cases h;exact Pr.p91_ok
 ·cases h
attribute [go_sem] SV.kclip Tok.kc PH xgJ xgI xmg iC tX Pe DP jq List.all_replicate Bn Bm Ph xaC P7 P9 P8 FH Ql Qo qW Qn Qm aq.injEq xkB xej xgb xcx xcs xl Cv Cw xcF xai DV Cy aw cR du ay RY RZ xdt Gq FQ C1 Cm Cn Tok.ids kr aY af jS Int.natCast_nonneg Int.ofNat_lt Int.ofNat_le Int.ofNat_inj Fg PD Fo PF PG xdX OU xdY xag xaf xab xd4 xd5 xd2 xkc OS OR xdW xd6 xac Z7 Z8 Z9 OT xd0 EC ED xak xaj xd1 xdZ xah xd3 xad xae xaa xkA xkz xkC xaJ xek xc0 xls xlt xlq xlr xlv Rb xc1 Rh PC Fp CO PE Fj xcY CR CS Fv Fw xcX QI xl8 xma xl9 pn C3 xfG QA xfI xcD xcC xcy xfR xfS xfM xkH Qw Qv xfE xfT xcz xct xcu xcv Qz xfK FK FL xcH xcG xfL xfJ xcE xfP xcA xcB xcw Qy xfF xfQ xkI xfH Qx xfU xfN xcI R6 DB mkE xdy stC EV apS apB apL R3 cpC cp2 cpB cpL xaK xbp Bo M1 Bp Bq kz kC MY Bs Bt xaz O9 xgc xcK xcU xcT QQ FZ FY C8 QP Da F0 QR C9 xu FM FN QB xkm xkk xkl Pm xaE xgA xgF xgE xgD GB RR xkP xkN xkO QH xcR FC xeK xeI xeJ FB P5 Gn Dr Ds xgh xgg Ri DR Yn Yg tE Sv Yo GR DH DI ug X9 oH pq l8 DY DX Yf lenC Yl DS DT uj X3 DU DQ tZ eB jg vX iF iK xdJ lX dp evL CSt.purge xx x7 NF NK l7 Ei lM jZ nA eJ fM psC Tok.readyC aC.wf SV.bare SV.bareL jH jI rS jA ek cy dR gu gB fG dB nQ eu qC qD lP qA jG iQ E4 Cz Py E0 E5 E3 Cx wN Pz E1 PB E6 CI wS CF wQ E7 CB CG CE wO wP uy E8 CC Fb CH CA E9 CD EZ PA E2 Ok Gw RP RQ Rk Rm Rn Rl RW EX Pn Pv Pu Ps Pq Pp Po xc9 xc2 xc7 xc8 xc6 xc5 xc4 xc3 Qu Qt Qs QX QW QT QS QV QU RT xdq eP CSt.publish ky ld nh SV.pub SV.pubL xb gcC ql Pg qU jU fT gM tks nj Ed qF dC Oj wk gT jE SV.num lm iH toB rows uh gD iX setCells Tok.eat SV.one SV.data SV.isData SV.cells SV.isDef SV.purge SV.purgeL aC.purge bF cz Tok.purge SV.ren SV.renL aC.ren Tok.ren SV.ids SV.idsL SV.toks SV.toksL aC.ids aC.toks im js inR nX fe id_eq am aB bg aI bG bS gx beq_self_eq_true List.getD_cons_zero lT List.getD_nil List.take_succ_cons List.take_zero List.take_nil bh List.drop_succ_cons List.drop_nil aF bX cr List.flatten_nil List.contains_nil List.contains_cons List.isEmpty_nil List.isEmpty_cons List.all_cons List.all_nil List.set_cons_zero List.set_cons_succ aM Option.getD_none bp Option.map_none Option.toList_some Option.toList_none cY Option.isNone_none Option.isNone_some Option.isSome_none Option.isSome_some Bool.or_false Bool.true_or Bool.or_true Bool.false_or Bool.and_self Bool.and_true Bool.true_and Bool.and_false Bool.false_and Bool.not_true Bool.not_false aO Bool.true_eq_false Bool.not_eq_true Bool.not_eq_false decide_eq_true_eq decide_eq_false_iff_not and_true true_and and_self or_false false_or or_true true_or not_true_eq_false not_false_eq_true ne_eq Int.toNat_natCast true_implies false_implies implies_true decide_true decide_false Nat.lt_irrefl Nat.not_lt_zero aK bH eq_self and_false false_and M0 mvC xjv XZ xcJ xfO clA cl2 clC
attribute [go_sem] Fm Fs Fz Fi Ld Fa Ln Ia Mv Bb Bc Ca Pf Pt So Kk Kc Fy Fr Sr Lt Mc Mb Bk Sq Zq0 Zq1 Zq2 Zq3 Zq4 xm xs xi ci om omk on oo xiv xiu xit xis xir xiq xip xio xin xim Vj F3 r3 Eb xil nD xik xij xii HW xih xig Ug Uf Ue Ud Uc Ub Ua T9 T8 D2 F5 xey r5 xif xie xid xic xib xia xh9 xh8 xh7 F9 r9 XW XV lH XU XT Oe XR XQ OE F10 xeH r10 Od XP Oc Ob Oa F11 r11 XO F12 r12 xa XN oe XM XL XK KT KS KR pZ OD zu F13 xeG xbb r13 DO XJ XI XH XG XF XE XD XC XB IU F19 r19 tP XA jD Xz V9 V8 V7 F21 r21 V6 V5 V4 V3 F22 r22 V2 V1 V0 VZ VY VX VW VV OC F25 xeF r25 N7 N6 VU N5 OB F27 xeE r27 VT VS VR VQ VP VO VN VM VL OA F28 xeD r28 VK Oz F31 xeC r31 tO VJ N2 qB VI F32 r32 VH VG VF VE VD VC Oy F33 xeB r33 VB VA Vz Vy Vx Vw Vv IT IS IR IQ IP IN IM IL IK IJ II IH zk zj F34 xa4 xa3 r34 Vu Vt F35 r35 Vs Vr F36 r36 ir Vq kR Vp F37 r37 lF Vo F38 r38 oc N1 nZ Vn N0 Vm Vl fX Vk w8 IG IF kv zi F39 xa2 r39 tN Vi Vh Vg Vf IE ID zh F40 xa1 r40 Ve F41 r41 DN Vd Vc Vb Va U9 U8 U7 U6 U5 IC IB IA F46 r46 U4 U3 U2 U1 U0 UZ UY UX UW UV Iz Iy Ix Iw Iv Iu It Is Ir pW Iq Ip Io In Im Il Ik Ij pV Ii Ih zg zf F47 xa0 xaZ r47 UU UT UR UQ UP UO UN UM Ig If Ox F48 xeA r48 UL UK UJ UI UH UG UF UE F49 r49 UD UC UB UA Uz Uy Ux F50 r50 Uw Uv Uu Ut Us yk Ie Ic Ib Ow ze F56 xez xaY r56 Ur Uq Up F57 r57 Uo Un Um Ul Uk Uj Ui Uh H9 H8 H7 H6 H5 H4 H3 H2 H1 HZ HY HX zb za F59 xaX xaW r59 T7 F60 r60 T6 T5 T4 F61 r61 T3 tL T2 T1 T0 TZ HV HU HT HS HR HQ HP HO HN y9 y8 F62 xaV xaU r62 TY TX TW F63 r63 tJ TV TU TT TS TR TQ TP TO Ov F64 xex r64 TN F65 r65 TL TK TJ TI TH TF Ou F66 xew r66 DL DK TE TD TC TB Tz Ot F67 xev r67 Ty Tx Tw Tv Tu Tt Ts HM HK HJ HI HH HG HF HE HD HC HB Hz Hy yh Hx Hw Hv Hu Ht y7 y6 y5 y4 F68 xaT xaS xaR xaQ r68 Tq Tp F74 r74 NX To Tn Tm Tl Tk Hs Hr Hq Hp Ho Hn Hm Hl Hk Hj y3 F75 xaP r75 Tj Ti Th Tg Tf Te Hi Hh Hg Hf He Hd F76 r76 tI Td F77 r77 Tc Tb Ta S9 S8 S7 Hc Hb F78 r78 S6 S5 S4 F79 r79 S3 SZ SY SX SW SU Ha G9 G8 G7 G6 G5 G4 G3 G2 G1 GZ y2 yZ F80 xaO xaN r80 NW NV NU NT NS SS NR NQ SR Oq F81 xeu r81 SQ SP F82 r82 SO F84 r84 SN SM F85 r85 SL SK SJ Oo F88 xet r88 SH F89 r89 SG SF SE SD SC On F98 xes r98 SB F99 r99 MV MU Z3 xjt MT MS MR MQ MP MO MN MM zI Z2 xbn xjs ML MK Z1 xjr MJ MI MH MG MF ME MD MB Bh Bg Bf Be Bd Ba A9 zH tg Z0 xbm P4 xjq MA Mz yP My Mx Mw Mu Mt A8 zG ZZ xbl xjp lv Ms tW Mr Mq Mp Mo Mn Mm A7 zF ZY xbk xjo lu Mj yN Mi Mh Mg yM A6 zE ZX xbj xjn Mf Me Md Ma L9 L8 L7 ZW xjm L6 L5 L4 L3 A5 A4 A3 A2 zD ZV xbi xjl L2 L1 L0 LZ LY yJ yH zC ZU xbh xjk LX ZT xjj LW LV yG LS zB ZS xbg xji LR ZR xjh LQ ZQ xjg LP LO LN LM LL zA ZP xbf xjf LK LJ ZO xje LI LH LG LF LD LC LB LA A1 zy td ZN xbe P3 xjd p7 yE ZM xjc Lz ZL xjb Ly Lx Lw Lv yC zx ZK xbd xja Lu p6 Ls Lr Lq Lp Lo AZ AY AX AW AV AU AT tc ZJ PZ xi9 Lm ZI xi8 Ll Lk Lj Li ZH xi7 Lh ZG xi6 Lg ZF xi5 Lf ZE xi4 Le Lc Lb La K9 K8 K7 AS AR AQ AP s9 ZD PY xi3 K6 yB K5 K4 K3 K2 K0 zw ZC xbc xi2 KZ KY KX KW tU KV yA KU AO ZB xi1 KQ KP KO KN KM zt ZA xba xi0 KL KK KJ KI KH KG KF KE zq s8 Zz xa9 PX xiZ KD KC KB KA Kz Ky zp Zy xa8 xiY Kx Kw Kv Ku Kt Ks Kr Kq Kp AN AM AL AK AJ AI AH AG AF AE AD AC AB AA Az s7 s6 sZ Zx PW PV PU xiX Ko yw Kn Km Kj Ki Kh Ay zo Zw xa7 xiW Kg yv Kf Ke Kd Kb Ka Ax sY Zv PT xiV J9 Zu xiU J8 yu J7 J6 J5 J4 J3 J2 At sX Zt PS xiT J1 J0 JZ JY JX JW zm Zs xa6 xiS JV Zr xiR JU Zq xiQ JT Zp xiP JS JR JQ JP JO JN Zo xiO JM JL JK JJ JI JH JG JF As Ar Aq Ap sW Zn PR xiN JE JD JC JB JA Zm xiM Jz Zl xiL Jy Zk xiK Zj xiJ Jx Jw Zi xiI yq Jv Ju Jt Js Ao zl Zh xa5 xiH Jr Zg xiG Jq Jp Jo Jn Jm Jl Jk Jj An Am sV Zf PQ xiF Ji Ze xiE Jh Jg Jf Je Jd Jc Jb Al Ak Ai Ah sU sS Zd PP PO xiD Ja I9 Zc xiC I8 Zb xiB I7 I6 I5 I4 I3 I2 I1 I0 Ag Af Ae sR sQ Za PN PM xiA IZ IY Y9 xiz IX Y8 xiy IW Y7 xix IV Y6 xiw
end Go.Proofs.YtbfnljmmepcbfaaGreatDoor