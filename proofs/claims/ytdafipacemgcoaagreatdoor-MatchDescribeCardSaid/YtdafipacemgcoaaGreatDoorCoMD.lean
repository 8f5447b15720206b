/- Code of functions, checked by the kernel. No condition. -/
import Derived.Test.YtdafipacemgcoaaGreatDoorProg
import Derived.Test.YtdafipacemgcoaaGreatDoorVaMD
import Derived.KernelRfl
open Bool renaming and_eq_true -> aA, false_eq_true -> aJ, false_or -> eu, true_or -> m7
open Int renaming toNat_natCast -> gP
open List renaming all_cons -> iH, append_assoc -> aZ, append_nil -> bK, cons_append -> bU, drop_zero -> bi, getD_cons_succ -> bF, getD_cons_zero -> bp, length_append -> ah, length_cons -> av, length_map -> aQ, length_nil -> bg, length_replicate -> bQ, map_append -> dh, map_cons -> aO, map_nil -> ic, mem_cons -> an, nil_append -> bw, not_mem_nil -> cj, replicate -> au
open Nat renaming add_zero -> fm, le_refl -> aI, zero_add -> bC, zero_le -> cu
open Option renaming bind_some -> cQ, getD_some -> ba, map_some -> bm, some -> aw
set_option maxRecDepth 100000
set_option linter.unusedVariables false
namespace Go.Proofs.YtdafipacemgcoaaGreatDoor
open Tryz
open Go.Sy
abbrev La:=List RI
abbrev Lb:=List FI
abbrev xm(d s:Nat):SI:=⟨some d,none,.mov (.t s)⟩
abbrev xs(d:Nat)(o:SOp):SI:=⟨some d,none,o⟩
abbrev xi(d g:Nat)(b:Bool)(o:SOp):SI:=⟨some d,some (g,b),o⟩
abbrev om(d s:Nat):RI:= .op (xm d s) []
abbrev omk(d s:Nat):RI:= .op (xm d s) [s]
abbrev on(d:Nat)(o:SOp):RI:= .op (xs d o) []
abbrev oo(d:Nat)(o:SOp)(k:List Nat):RI:= .op (xs d o) k
abbrev ci(n:Int):Arg:= .c (.int .i64 n)
abbrev Fm(n d s:Nat):FI:=⟨n,true,xm d s⟩
abbrev Fs(n d:Nat)(o:SOp):FI:=⟨n,true,xs d o⟩
abbrev Fz(n d:Nat)(o:SOp):FI:=⟨n,false,xs d o⟩
abbrev Fi(n d g:Nat)(b:Bool)(o:SOp):FI:=⟨n,true,xi d g b o⟩
abbrev Ld(s:Nat):SOp:= .load 1 false (.t s)
abbrev Fa(n s:Nat):SOp:= .faddr n (.t s)
abbrev Ln(s:Nat):SOp:= .len false (.t s)
abbrev Ia(n a b:Nat):SOp:= .iaddrL n (.t a) (.t b)
abbrev Mv(s:Nat):SOp:= .mov (.t s)
abbrev Bb(o:BinOp)(a b:Nat):SOp:= .bin o (.t a) (.t b)
abbrev Bc(o:BinOp)(a:Nat)(n:Int):SOp:= .bin o (.t a) (ci n)
abbrev Ca(f:Nat)(l:List Arg):SOp:= .call (.f f) l
abbrev Pf(a b:Nat):SOp:= .pick (.t a) (.t b) (.c (.bool false))
abbrev Pt(a b:Nat):SOp:= .pick (.t a) (.c (.bool true)) (.t b)
abbrev So(l:List RI)(x:RC):RC:= .seq (.ops l) x
abbrev Kk(l:List Nat)(x:RC):RC:= .pre [.kill l] x
abbrev Kc(n:Nat)(x y:RC):RC:= .cond (.t n) x y
abbrev Fy(n d g:Nat)(b:Bool)(o:SOp):FI:=⟨n,false,xi d g b o⟩
abbrev Fr(n k a x:Nat):FI:=⟨n,false,⟨none,none,.store k (.t a) (.t x)⟩⟩
abbrev Sr(n a x:Nat)(k:List Nat):RI:= .op ⟨none,none,.store n (.t a) (.t x)⟩ k
abbrev Lt(n s:Nat):SOp:= .load n true (.t s)
abbrev Mc(n:Int):SOp:= .mov (ci n)
abbrev Mb(b:Bool):SOp:= .mov (.c (.bool b))
abbrev Bk(n:Nat)(x:RC):RC:= .block n x
abbrev Sq(x y:RC):RC:= .seq x y
abbrev Zq0:List SV:=[.int .i64 0,.str [],.int .i64 0,.byt [] .clip]
abbrev Zq1:List SV:=[.int .i64 0,.int .i64 0,.lst 1 [] .clip,.byt [] .clip]
abbrev Zq2:List SV:=[.str [],.int .i64 0,.int .i64 0,.int .i64 0,.int .i64 0,.lst 4 [] .clip,.lst 4 [] .clip]
abbrev Zq3:List SV:=[.int .i64 0,.int .i64 0,.lst 4 [] .clip]
def cs0:List UInt8:=[0,1,2,2,3,3,3,3,4,4,4,4,4,4,4,4,5,5,5,5,5,5,5,5,5,5,5,5,5,5,5,5,6,6,6,6,6,6,6,6,6,6,6,6,6,6,6,6,6,6,6,6,6,6,6,6,6,6,6,6,6,6,6,6,7,7,7,7,7,7,7,7,7,7,7,7,7,7,7,7,7,7,7,7,7,7,7,7,7,7,7,7,7,7,7,7,7,7,7,7,7,7,7,7,7,7,7,7,7,7,7,7,7,7,7,7,7,7,7,7,7,7,7,7,7,7,7,7,8,8,8,8,8,8,8,8,8,8,8,8,8,8,8,8,8,8,8,8,8,8,8,8,8,8,8,8,8,8,8,8,8,8,8,8,8,8,8,8,8,8,8,8,8,8,8,8,8,8,8,8,8,8,8,8,8,8,8,8,8,8,8,8,8,8,8,8,8,8,8,8,8,8,8,8,8,8,8,8,8,8,8,8,8,8,8,8,8,8,8,8,8,8,8,8,8,8,8,8,8,8,8,8,8,8,8,8,8,8,8,8,8,8,8,8,8,8,8,8,8,8,8,8,8,8,8,8]
def cs1:List UInt8:=[48,49,50,51,52,53,54,55,56,57,97,98,99,100,101,102,103,104,105,106,107,108,109,110,111,112,113,114,115,116,117,118,119,120,121,122]
def cs2:List UInt8:=[48,48,48,49,48,50,48,51,48,52,48,53,48,54,48,55,48,56,48,57,49,48,49,49,49,50,49,51,49,52,49,53,49,54,49,55,49,56,49,57,50,48,50,49,50,50,50,51,50,52,50,53,50,54,50,55,50,56,50,57,51,48,51,49,51,50,51,51,51,52,51,53,51,54,51,55,51,56,51,57,52,48,52,49,52,50,52,51,52,52,52,53,52,54,52,55,52,56,52,57,53,48,53,49,53,50,53,51,53,52,53,53,53,54,53,55,53,56,53,57,54,48,54,49,54,50,54,51,54,52,54,53,54,54,54,55,54,56,54,57,55,48,55,49,55,50,55,51,55,52,55,53,55,54,55,55,55,56,55,57,56,48,56,49,56,50,56,51,56,52,56,53,56,54,56,55,56,56,56,57,57,48,57,49,57,50,57,51,57,52,57,53,57,54,57,55,57,56,57,57]
def np:List SV:=[.int .i64 (-1),.int .i64 0,.int .i64 4,.int .i64 8,.int .i64 9]
def iR:List SV:=[.int .u32 1116352408,.int .u32 1899447441,.int .u32 3049323471,.int .u32 3921009573,.int .u32 961987163,.int .u32 1508970993,.int .u32 2453635748,.int .u32 2870763221,.int .u32 3624381080,.int .u32 310598401,.int .u32 607225278,.int .u32 1426881987,.int .u32 1925078388,.int .u32 2162078206,.int .u32 2614888103,.int .u32 3248222580,.int .u32 3835390401,.int .u32 4022224774,.int .u32 264347078,.int .u32 604807628,.int .u32 770255983,.int .u32 1249150122,.int .u32 1555081692,.int .u32 1996064986,.int .u32 2554220882,.int .u32 2821834349,.int .u32 2952996808,.int .u32 3210313671,.int .u32 3336571891,.int .u32 3584528711,.int .u32 113926993,.int .u32 338241895,.int .u32 666307205,.int .u32 773529912,.int .u32 1294757372,.int .u32 1396182291,.int .u32 1695183700,.int .u32 1986661051,.int .u32 2177026350,.int .u32 2456956037,.int .u32 2730485921,.int .u32 2820302411,.int .u32 3259730800,.int .u32 3345764771,.int .u32 3516065817,.int .u32 3600352804,.int .u32 4094571909,.int .u32 275423344,.int .u32 430227734,.int .u32 506948616,.int .u32 659060556,.int .u32 883997877,.int .u32 958139571,.int .u32 1322822218,.int .u32 1537002063,.int .u32 1747873779,.int .u32 1955562222,.int .u32 2024104815,.int .u32 2227730452,.int .u32 2361852424,.int .u32 2428436474,.int .u32 2756734187,.int .u32 3204031479,.int .u32 3329325298]
def iQ:List SV:=[.int .u64 1,.int .u64 10,.int .u64 100,.int .u64 1000,.int .u64 10000,.int .u64 100000,.int .u64 1000000,.int .u64 10000000,.int .u64 100000000,.int .u64 1000000000,.int .u64 10000000000,.int .u64 100000000000,.int .u64 1000000000000,.int .u64 10000000000000,.int .u64 100000000000000,.int .u64 1000000000000000,.int .u64 10000000000000000,.int .u64 100000000000000000,.int .u64 1000000000000000000,.int .u64 10000000000000000000]
instance:bc:=⟨fun
 |0=>some np
 |2=>some iR
 |3=>some iQ
 |_=>none⟩
abbrev Wa(a b:Nat):RI:=omk a b
abbrev Wb(a:Nat)(b:BinOp)(c:Nat)(d:Int):RI:=oo a (Bc b c d) [c]
abbrev Wc(a b c:Nat):FI:=Fs a b (Ld c)
abbrev Wd(a b:Nat):RI:=oo a (Ld b) [b]
abbrev We(a:Nat)(b:BinOp)(c d:Nat):RI:=oo a (Bb b c d) [c,d]
abbrev Wf(a b:Nat)(c:BinOp)(d e:Nat):FI:=Fs a b (Bb c d e)
abbrev Wg(a b c:Nat):RI:=on a (Fa b c)
abbrev Wh(a:Nat)(b:Int):RI:=on a (Mc b)
abbrev Wi(a b:Nat):RI:=oo a (Ln b) [b]
abbrev Wj(a b c d:Nat):FI:=Fs a b (Fa c d)
abbrev Wm(a b c:Nat):RI:=oo a (Ca b [.t c]) [c]
abbrev Wn(a b c:Nat):RI:=oo a (Pt b c) [b,c]
abbrev Wo(a b c d e:Nat):FI:=Fs a b (Ia c d e)
abbrev Wp(a b:Nat)(c:BinOp)(d:Nat)(e:Int):FI:=Fs a b (Bc c d e)
abbrev Wq(a b c:Nat)(d:Bool)(e:Nat):FI:=Fi a b c d (Mv e)
abbrev Wr(a b c:Nat):RI:=oo a (Pf b c) [b,c]
abbrev Ws(a b c d:Nat):RI:=oo a (Ca b [.t c,.t d]) [c,d]
abbrev Wt(a b c:Nat):RI:=oo a (Lt b c) [c]
abbrev Wu(a b c:Nat):RI:=Sr a b c [c]
abbrev Wv(a b c:Nat):RI:=oo a (Fa b c) [c]
abbrev Ww(a b c:Nat)(d:Bool)(e:Nat):FI:=Fi a b c d (Ld e)
abbrev Wx(a b c d:Nat):RI:=oo a (.app [.u8 0] b (.t c) (.t d)) [c,d]
abbrev Wy(a b c d:Nat)(e:Int):FI:=Fs a b (.iaddrL c (.t d) (ci e))
abbrev Wz(a b c:Nat)(d:Bool)(e f:Nat):FI:=Fi a b c d (Fa e f)
abbrev WA(a b c:Nat):FI:=Fs a b (.nchk (.t c))
abbrev WB(a b c d:Nat):RI:=oo a (Ia b c d) [c,d]
abbrev WC(a:Nat)(b:BinOp)(c:Nat)(d:Int):RI:=on a (Bc b c d)
abbrev WD(a:Nat)(b:Bool):RI:=on a (Mb b)
abbrev WE(a b c:Nat):RI:=on a (.ext (.t b) c)
abbrev WF(a b:Nat):RI:=oo a (.box (.t b)) [b]
abbrev WG(a b c d:Nat):FI:=Fs a b (.iaddrA 64 1 (.t c) (.t d))
abbrev WH(a b:Nat):RI:=oo a (.toInt .u8 (.t b)) [b]
abbrev WI(a b c d e:Nat):FI:=Fz a b (Ca c [.t d,.t e])
abbrev WJ(a b c:Nat):RI:=Sr a b c [c,b]
abbrev WK(a b c:Nat)(d:Int):RI:=oo a (Ca b [.t c,ci d]) [c]
abbrev WL(a:Nat)(b:Bool)(c:Nat):RI:=oo a (.len b (.t c)) [c]
abbrev WM(a b c:Nat)(d:Int):FI:=Fs a b (.iaddrA 5 1 (.t c) (ci d))
abbrev WN(a:Nat)(b:Bool):RI:=oo a (Mb b) [a]
abbrev WO(a b c:Nat):RI:=oo a (.ext (.t b) c) [b]
abbrev WP(a b:Nat):RI:=oo a (.toInt .u64 (.t b)) [b]
abbrev WQ(a b c:Nat):FI:=Fs a b (.idxS (.c (.str cs2)) (.t c))
abbrev WR(a b:Nat):RI:=oo a (.un .not (.t b)) [b]
abbrev WS(a:Nat)(b:BinOp)(c:Int)(d:Nat):RI:=oo a (.bin b (ci c) (.t d)) [d]
abbrev WT(a b c d:Nat)(e:Int):FI:=Fz a b (Ca c [.t d,ci e])
abbrev WU(a b c d:Nat):FI:=Fs a b (.iaddrA 80 1 (.t c) (.t d))
abbrev WV(a b c:Nat):RI:=oo a (.lit b [.t c]) [c]
abbrev WW(a:Nat)(b:Int):RI:=oo a (Mc b) [a]
abbrev WX(a b:Nat):RI:=oo a (.litB [.t b]) [b]
abbrev WY(a b c d:Nat)(e:Int)(f:Nat):FI:=Fz a b (Ca c [.t d,ci e,.t f])
abbrev WZ(a b c:Nat)(d:Int):FI:=Fs a b (.iaddrA 8 1 (.t c) (ci d))
abbrev W0(a:Nat)(b:BinOp)(c:Nat):RI:=oo a (.bin b (.t c) (.c (.int .u32 100))) [c]
abbrev W1(a b:Nat)(c:Int):RI:=on a (.iaddrA 8 1 (.t b) (ci c))
abbrev W2(a:Nat)(b:BinOp)(c:Nat):RI:=oo a (.bin b (.t c) (.c (.int .u32 2))) [c]
abbrev W3(a b:Nat)(c:BinOp)(d:Nat):FI:=Fs a b (.bin c (.t d) (.c (.int .u32 1)))
abbrev W4(a:Nat):RI:=on a (.new (.rc Zq2))
abbrev W5(a b c:Nat)(d:Int)(e:Nat):RI:=oo a (Ca b [.t c,ci d,.t e]) [c,e]
abbrev W6(a b:Nat):RI:=oo a (.b2s (.t b)) [b]
abbrev W7(a:Nat):RI:=on a (.new (.rc Zq1))
abbrev W8(a:Nat):RI:=on a (.new (.rc Zq0))
abbrev W9(a:Nat):RI:=oo a (.mov (.c (.byt [] .clip))) [a]
abbrev Xa(a b:Nat):RI:=oo a (.s2b (.t b)) [b]
abbrev Xb(a b c:Nat):FI:=Fs a b (.toInt .u8 (.t c))
abbrev Xc(a:Nat)(b:BinOp)(c:Nat):RI:=oo a (.bin b (.t c) (.c (.int .u64 8))) [c]
abbrev Xd(a:Nat):RI:=on a (.new (.rc [.int .i64 0,.int .i64 0]))
abbrev Xe(a:Nat)(b:BinOp)(c:Nat):RI:=oo a (.bin b (.t c) (.c (.u8 32))) [c]
abbrev Xf(a:Nat):RI:=on a (.new (.arr 1 (au 64 [.int .u32 0])))
abbrev Xg(a b c d e f:Nat):RI:=oo a (Ca b [.t c,.t d,.t e,.t f]) [c,d,e,f,a]
abbrev Xh(a b:Nat):RI:=oo a (.toInt .u32 (.t b)) [b]
abbrev Xi(a:Nat)(b:BinOp)(c:Nat):RI:=oo a (.bin b (.t c) (.c (.int .u32 10000))) [c]
abbrev Xj(a:Nat):RI:=oo a (.mov (.c (.lst 1 [] .clip))) [a]
abbrev Xk(a:Nat):RI:=on a (.mov (.c (.lst 1 [] .clip)))
abbrev Xl(a b c d:Nat):RI:=oo a (.slcL b (.t c) none (some (.t d)) none) [c,d]
abbrev Xm(a b c:Nat)(d:Int):RI:=oo a (.slcL b (.t c) none (some (ci d)) none) [c]
abbrev Xn(a b c d:Nat):RI:=oo a (.slcL b (.t c) (some (.t d)) none none) [c,d]
abbrev Xo(a:Nat):RI:=oo a (.mov (.c (.int .u32 0))) [a]
abbrev Xp(a:Nat)(b:BinOp)(c:Nat):RI:=oo a (.bin b (.t c) (.c (.int .u64 16))) [c]
abbrev Xq(a:Nat)(b:BinOp)(c:Nat):RI:=oo a (.bin b (.c (.int .u64 32)) (.t c)) [c]
abbrev Xr(n:Nat)(l:List Nat)(x:RC):RC:=Kc n (Kk [n] .skip) (Kk l x)
abbrev Xs(n:Nat)(l:List Nat)(x:RC):RC:=Kc n (Kk l x) (Kk [n] .skip)
def xhl:La:=[WN 8 false]
def xhk:La:=[on 19 (Ca 10 []),WR 20 19]
def Ry:La:=[WD 8 false]
def xhj:La:=[Wa 21 0,Wm 22 24 21,Wa 9 22]
def xhi:La:=[Wa 23 1,Wm 24 29 23,Wa 1 24]
def xhh:La:=[om 25 9,oo 26 (Ca 30 [(.c (.str [97,99,109,101])),ci 1,.t 25]) [25],W4 10,Wu 7 10 26]
def xhg:La:=[on 27 (.build [.int .i64 0,.str [],.int .i64 0,.int .i64 0] [(0,1,(ci 1))]),WV 28 4 27,Wg 29 6 10,WJ 1 29 28]
def xhf:Lb:=[Fm 0 31 1,Fm 1 32 9,Fm 2 33 1,Fs 5 36 (Lt 7 10),Fs 6 37 (.lit 7 [.t 36]),WI 3 34 31 32 33,Fs 4 35 (.build Zq3 [(0,1,(.t 31)),(2,1,(.t 34))]),WI 7 38 12 35 37,Fm 8 30 38,Fs 9 39 (.ext (.t 30) 0),Fs 10 40 (.ext (.t 30) 1),Fs 11 41 (.ext (.t 30) 2),Fm 12 11 39,Fm 13 12 40,Fm 14 13 41]
def xhe:La:=[Wa 42 13,Wb 43 .neq 42 0,Wa 44 43,.grp 44 false [(xi 45 44 false (Mv 12)),(xi 46 44 false (Bc .lss 45 10))] [12,45],Wn 47 44 46]
def RH:La:=[on 48 (.lit 4 []),om 49 9,.own (xs 50 (.app Zq0 56 (.t 48) (.t 49))) [48,49],Wa 14 50]
def RG:La:=[Wa 51 2,om 52 14,Wi 53 52,Ws 54 18 51 53,Wa 15 54]
def RF:La:=[om 55 14,om 56 15,WB 57 4 55 56,Wv 58 0 57,Wd 59 58,Wb 60 .eql 59 4]
def M8:La:=[WD 8 true]
def RE:La:=[om 61 14,om 62 15,on 63 (.litB []),om 64 14,om 65 15,WB 66 4 64 65,Wv 67 3 66,Wd 68 67,Wx 69 1 63 68,Wa 70 3,WX 71 70,Wx 72 1 69 71,WB 73 4 61 62,Wv 74 3 73,WJ 1 74 72]
def RD:Lb:=[Fm 0 75 9,Fm 1 76 15,Wo 2 77 4 75 76,Fs 3 78 (Lt 4 77),Fm 5 80 14,Fm 6 81 15,Wo 7 82 4 80 81,Fs 8 83 (Lt 4 82),Fz 4 79 (Ca 33 [.t 78]),Fz 9 84 (Ca 33 [.t 83]),Fz 10 85 (Ca 32 [.t 79,.t 84,ci 32])]
def RB:La:=[WW 16 0,WW 17 0]
def RA:Lb:=[Fm 0 87 1,Fm 1 88 14,Fm 2 89 1,Fs 5 92 (Lt 7 10),Fs 6 93 (.lit 7 [.t 92]),WI 3 90 31 88 89,Fs 4 91 (.build Zq3 [(0,1,(.t 87)),(2,1,(.t 90))]),WI 7 94 12 91 93,Fm 8 86 94,Fs 9 95 (.ext (.t 86) 0),Fs 10 96 (.ext (.t 86) 1),Fs 11 97 (.ext (.t 86) 2),Fm 12 16 96,Fm 13 17 97]
def Rz:La:=[om 98 15,Wa 18 98]
def Rx:La:=[Wa 99 14,om 100 15,WB 101 4 99 100,Wv 102 0 101,Wd 103 102,Wb 104 .eql 103 3]
def Rw:La:=[Wa 105 15,Wb 106 .add 105 8,Wa 18 106]
def Rv:La:=[Wa 107 17,Wb 108 .eql 107 47,Wa 109 108,.grp 109 true [(xi 110 109 true (Mv 16)),(xi 111 109 true (Mv 18)),(xi 112 109 true (Bb .eql 110 111))] [16,18,110,111],Wr 113 109 112,Wa 8 113]
def r9:RC:=(So xhl (Sq (So xhk (Xs 20 [0,1,2,3,20] (So Ry .ret))) (So xhj (So xhi (So xhh (So xhg (Sq (.flt [0,0,0,6,15,0,32,127,255,511,511,511,1023,6143,16383] [] xhf [11,30,31,32,33,34,35,36,37,38,39,40,41]) (Sq (So xhe (Xs 47 [1,2,3,9,10,47] (So Ry .ret))) (So RH (So RG (Sq (So RF (Xs 60 [1,3,9,10,14,15,60] (So M8 .ret))) (So RE (Sq (Sq (.flt [0,0,3,7,15,0,0,96,224,511,1023] [] RD [9,75,76,77,78,79,80,81,82,83,84]) (Xs 85 [1,10,14,15,85] (So M8 .ret))) (So RB (Sq (.flt [0,0,0,6,15,0,32,127,255,511,511,511,2047,8191] [] RA [1,10,86,87,88,89,90,91,92,93,94,95,96,97]) (So Rz (Sq (So Rx (Kc 104 (Kk [18,104] (.ops Rw)) (Kk [15,104] .skip))) (So Rv .ret))))))))))))))))))
def F9:FnC:=⟨r9,114,[.tmp 8],[],[]⟩
def X8:La:=[WN 0 false]
def X7:La:=[on 10 (.build Zq0 [(0,1,(ci 1)),(1,1,(.c (.str [102])))]),on 11 (.build Zq0 [(0,1,(ci 3)),(1,1,(.c (.str [107])))]),oo 12 (.lit 4 [.t 10,.t 11]) [10,11],Wa 1 12]
def X6:La:=[om 13 1,WK 14 31 13 2,oo 15 (.build Zq3 [(0,1,(ci 2)),(2,1,(.t 14))]) [14],on 2 (.new (.rc Zq3)),Wu 3 2 15]
def X5:La:=[Wa 16 1,oo 17 (Ca 34 [(.c (.str [118])),ci 1,.t 16]) [16],W4 3,Wu 7 3 17]
def X4:La:=[on 19 (Lt 3 2),on 20 (Lt 7 3),WV 21 7 20,Ws 22 12 19 21,Wa 18 22,WE 23 18 0,WE 24 18 1,WO 25 18 2,Wa 4 23,Wa 5 24,Wa 6 25]
def X3:La:=[on 27 (Lt 3 2),oo 28 (Ca 12 [.t 27,(.c (.lst 7 [] .clip))]) [27],Wa 26 28,WE 29 26 0,WE 30 26 1,WO 31 26 2,.op (xm 7 29) [7,29],Wa 8 30,Wa 9 31]
def X2:La:=[Wa 32 6,Wb 33 .eql 32 0,Wa 34 33,.grp 34 true [(xi 35 34 true (Mv 5)),(xi 36 34 true (Bc .eql 35 10))] [5,35],Wr 37 34 36,Wa 38 37,.grp 38 true [(xi 39 38 true (Mv 4)),(xi 40 38 true (Ln 39)),(xi 41 38 true (Bc .eql 40 10))] [39,40],Wr 42 38 41,Wa 43 42,.grp 43 true [(xi 44 43 true (Mv 4)),(xi 45 43 true (.iaddrL 2 (.t 44) (ci 9))),(xi 46 43 true (Lt 2 45)),(xi 47 43 true (.build [.int .i64 0,.int .i64 0] [(0,1,(ci 0)),(1,1,(ci 1))])),(xi 48 43 true (.eqS false [1,1] (.t 46) (.t 47)))] [44,45,46,47],Wr 49 43 48,Wa 50 49,.grp 50 true [(xi 51 50 true (Mv 9)),(xi 52 50 true (Bc .eql 51 47))] [9,51],Wr 53 50 52,Wa 54 53,.grp 54 true [(xi 55 54 true (Mv 8)),(xi 56 54 true (Bc .eql 55 0))] [8,55],Wr 57 54 56,Wa 58 57,.grp 58 true [(xi 59 58 true (Lt 3 2)),(xi 60 58 true (Lt 7 3)),(xi 61 58 true (.lit 7 [.t 60])),(xi 62 58 true (Mv 4)),(xi 63 58 true (Ca 16 [.t 59,.t 61,.t 62]))] [2,59,60,61,62],Wr 64 58 63,Wa 65 64,.grp 65 true [(xi 66 65 true (Lt 7 3)),(xi 67 65 true (.lit 7 [.t 66])),(xi 68 65 true (Mv 4)),(xi 69 65 true (Ca 21 [.t 67,.t 68])),(xi 70 65 true (Ln 69)),(xi 71 65 true (Bc .eql 70 1))] [3,4,66,67,68,69,70],Wr 72 65 71,Wa 0 72]
def r10:RC:=(So X8 (So X7 (So X6 (So X5 (So X4 (So X3 (So X2 .ret)))))))
def F10:FnC:=⟨r10,73,[.tmp 0],[],[]⟩
def X1:La:=[WF 2 0,on 4 (.mov (.c (.lst 2 [] .clip))),WW 5 0,WW 6 0]
def X0:La:=[on 7 (.new (.rc [.int .i64 0,.int .i64 0,.bool false,.bool false,.bool false,.bool false,.bool false,.bool false]))]
def XZ:La:=[Wg 12 2 2,Wd 13 12,on 14 (Ln 13),Wh 15 0]
def NF:La:=[on 16 (Bb .lss 15 14)]
def XY:La:=[om 17 15,on 18 (Ia 4 13 15),Wt 19 4 18,W7 9,Wa 8 17,Wu 4 9 19]
def XX:La:=[on 20 (Lt 4 9),oo 21 (Ca 39 [.t 7,.t 20]) [20],WR 22 21]
def XW:La:=[Wa 23 4,Wa 24 8,Wa 4 23,Wa 5 24,Wh 6 41]
def XV:La:=[Wt 26 4 9,om 27 1,Ws 28 40 26 27,Wa 25 28,WE 29 25 0,WO 30 25 1,Xd 10,Wu 2 10 29,Wa 11 30]
def XU:La:=[Wa 31 11,WR 32 31]
def XT:La:=[Wa 33 4,Wa 34 8,Wa 4 33,Wa 5 34,Wh 6 47]
def KA:La:=[Wa 35 4,Wt 36 2 10,WV 37 2 36,oo 38 (.app [.int .i64 0,.int .i64 0] 16 (.t 35) (.t 37)) [35,37],Wa 4 38]
def Kz:La:=[Wb 39 .add 15 1,Wa 15 39]
def yQ:RC:=(.post (So NF (Sq (Xr 16 [1,13,14,15,16] (.exit 0)) (Sq (Bk 1 (So XY (Sq (So XX (Xs 22 [1,2,7,9,13,14,15,22] (So XW .ret))) (So XV (Sq (So XU (Kc 32 (Kk [1,2,7,10,13,14,15,32] (So XT .ret)) (Kk [8,32] .skip))) (.ops KA)))))) (.ops Kz)))) [.gc [109,110],.tok 4 104])
def te:RC:=yQ
def Ky:La:=[Wv 40 2 7,oo 41 (.iaddrA 6 1 (.t 40) (ci 4)) [40],Wd 42 41,WR 43 42]
def Kx:Lb:=[Fm 0 44 4,Wj 1 45 2 2,Wc 2 46 45,Fs 3 47 (Ln 46),⟨4,false,(xm 4 44)⟩,Fm 5 5 47,Fs 6 6 (Mc 40)]
def Kw:Lb:=[Fm 0 48 4,Wj 1 49 2 2,Wc 2 50 49,Fs 3 51 (Ln 50),⟨4,false,(xm 4 48)⟩,Fm 5 5 51,Fs 6 6 (Mc 0)]
def r12:RC:=(So X1 (So X0 (Sq (So XZ (Bk 0 (.pre [.tok 4 104] (.loop te)))) (Sq (So Ky (Xs 43 [43] (Sq (.flt [0,0,2,6,1,31,63] [] Kx [2,44,45,46,47]) .ret))) (Sq (.flt [0,0,2,6,1,31,63] [] Kw [2,48,49,50,51]) .ret)))))
def F12:FnC:=⟨r12,52,[.tmp 4,.tmp 5,.tmp 6],[],[]⟩
def NE:La:=[WF 2 0,WF 3 1,WW 4 0]
def XS:La:=[on 6 (Lt 7 2),Wm 7 44 6,Wb 8 .neq 7 0]
def og:La:=[Wh 4 (-1)]
def XR:La:=[Wg 9 1 3,Wd 10 9]
def XQ:La:=[WC 12 .eql 10 1,Wa 11 12]
def XP:La:=[Wv 13 5 2,Wd 14 13,oo 15 (.mkfn 46 [] [.t 3]) [3],Ws 16 45 14 15,Wa 4 16]
def XO:La:=[Wb 18 .eql 10 3,Wa 17 18]
def XN:Lb:=[Wj 0 19 0 3,Wc 1 20 19,Fz 2 21 (Ca 47 [ci 4]),Wf 3 22 .neq 20 21,Fm 4 23 22,Fi 5 24 23 false (Lt 4 3),Fy 6 25 23 false (Ca 50 [.t 24]),Fi 7 26 23 false (.un .not (.t 25)),Fs 8 27 (Pt 23 26)]
def XM:La:=[Wg 28 6 2,Wd 29 28,oo 30 (.mkfn 52 [] [.t 3]) [3],Ws 31 51 29 30,Wa 5 31]
def I6:La:=[om 32 5,Wb 33 .geq 32 0]
def I5:La:=[Wv 34 5 2,Wd 35 34,Wi 36 35,Wa 37 5,We 38 .add 36 37,Wa 4 38]
def r15:RC:=(So NE (Sq (So XS (Xs 8 [2,3,8] (So og .ret))) (Sq (So XR (Bk 0 (So XQ (Kc 11 (Kk [10,11] (So XP .ret)) (Kk [11] (So XO (Kc 17 (Kk [17] (Sq (Sq (.flt [0,1,0,7,15,31,63,127,255] [] XN [19,20,21,22,23,24,25,26]) (Xs 27 [2,3,27] (So og .ret))) (So XM (So I6 (Kc 33 (Kk [33] (So I5 .ret)) (Kk [2,5,33] .skip)))))) (Kk [2,3,17] .skip)))))))) (So og .ret))))
def F15:FnC:=⟨r15,39,[.tmp 4],[],[]⟩
def XL:La:=[WF 3 0,WN 6 false]
def XK:La:=[on 14 (Lt 3 3),om 15 1,Ws 16 12 14 15,Wa 13 16,WE 17 13 0,WE 18 13 1,WO 19 13 2,.op (xm 7 17) [7,17],.op (xm 8 18) [8,18],Wa 9 19]
def XJ:La:=[Wa 20 9,Wb 21 .neq 20 0,Wa 22 21,.grp 22 false [(xi 23 22 false (Mv 2)),(xi 24 22 false (Ln 23)),(xi 25 22 false (Fa 2 3)),(xi 26 22 false (Ld 25)),(xi 27 22 false (Ln 26)),(xi 28 22 false (Bb .neq 24 27))] [23,24,25,26,27],Wn 29 22 28]
def D0:La:=[WD 6 false]
def XI:La:=[Wv 30 2 3,Wd 31 30,on 32 (Ln 31),Wh 33 0]
def XH:La:=[on 34 (Bb .lss 33 32)]
def XG:La:=[om 35 33,on 36 (Ia 4 31 33),Wt 37 4 36,W7 11,Wa 10 35,Wu 4 11 37]
def XF:La:=[om 38 2,Wa 39 10,WB 40 2 38 39,Wt 41 2 40,Xd 12,Wu 2 12 41]
def XE:La:=[Wg 42 1 11,Wd 43 42,Wb 44 .eql 43 5,Wa 45 44,.grp 45 false [(xi 46 45 false (Fa 1 11)),(xi 47 45 false (Ld 46)),(xi 48 45 false (Bc .eql 47 2))] [46,47],Wn 49 45 48]
def XD:La:=[Wg 50 0 12,Wd 51 50,Wb 52 .neq 51 (-1),Wa 53 52,.grp 53 false [(xi 54 53 false (Fa 1 12)),(xi 55 53 false (Ld 54)),(xi 56 53 false (Bc .neq 55 (-1)))] [12,54,55],Wn 57 53 56]
def IQ:Lb:=[Wj 0 58 0 12,Wc 1 59 58,Wp 2 60 .lss 59 0,Fm 3 61 60,Wz 4 62 61 false 0 12,Ww 5 63 61 false 62,Wq 6 64 61 false 1,Fi 7 65 61 false (Ln 64),Fi 8 66 61 false (Bb .geq 63 65),Fs 9 67 (Pt 61 66),Fm 10 68 67,Wz 11 69 68 false 1 12,Ww 12 70 68 false 69,Fi 13 71 68 false (Bc .lss 70 0),Fs 14 72 (Pt 68 71),Fm 15 73 72,Wq 16 74 73 false 1,Wz 17 75 73 false 0 12,Ww 18 76 73 false 75,Fi 19 77 73 false (Ia 7 74 76),Fi 20 78 73 false (Lt 7 77),Fi 21 79 73 false (Lt 4 11),Wz 23 81 73 false 1 12,Ww 24 82 73 false 81,Fy 22 80 73 false (Ca 15 [.t 78,.t 79]),Fi 25 83 73 false (Bb .neq 80 82),Fs 26 84 (Pt 73 83)]
def IP:La:=[Wb 85 .add 33 1,Wa 33 85]
def yI:RC:=(.post (So XH (Sq (Xr 34 [1,2,31,32,33,34] (.exit 0)) (Sq (Bk 1 (So XG (So XF (Sq (So XE (Xs 49 [11,49] (Sq (So XD (Xs 57 [1,2,31,32,33,57] (So D0 .ret))) (.exit 1)))) (Sq (.flt [0,1,3,7,15,31,15,79,255,511,1023,2047,4095,8191,16383,32767,65535,65535,196607,524287,1048575,65535,4194303,65535,8454143,33554431,67108863] [] IQ [11,12,58,59,60,61,62,63,64,65,66,67,68,69,70,71,72,73,74,75,76,77,78,79,80,81,82,83]) (Xs 84 [1,2,31,32,33,84] (So D0 .ret))))))) (.ops IP)))) [.gc [111,112]])
def lD:RC:=yI
def IN:La:=[WD 6 true]
def r16:RC:=(So XL (Sq (So XK (So XJ (Xs 29 [1,2,3,29] (So D0 .ret)))) (Sq (So XI (Bk 0 (.loop lD))) (So IN .ret))))
def F16:FnC:=⟨r16,86,[.tmp 6],[],[]⟩
def qb:La:=[WW 4 0]
def XC:La:=[om 6 1,Wb 7 .lss 6 1]
def td:La:=[Wh 4 0]
def XB:La:=[Wa 8 0,om 9 1,We 10 .rem 8 9,Wa 5 10]
def XA:La:=[om 11 5,Wb 12 .lss 11 0]
def Xz:La:=[Wa 13 5,Wa 14 1,We 15 .add 13 14,Wa 5 15]
def Xy:La:=[Wa 16 5,Wa 4 16]
def r18:RC:=(So qb (Sq (So XC (Xs 7 [0,1,7] (So td .ret))) (So XB (Sq (So XA (Kc 12 (Kk [12] (.ops Xz)) (Kk [1,12] .skip))) (So Xy .ret)))))
def F18:FnC:=⟨r18,17,[.tmp 4],[],[]⟩
def Xx:La:=[Xj 4]
def Xw:La:=[Xk 5]
def Xv:La:=[Wa 11 1,on 12 (Ln 11),Wh 13 0]
def Xu:La:=[on 14 (Bb .lss 13 12)]
def Xt:La:=[on 15 (Ia 2 11 13),Wt 16 2 15,Xd 7,Wu 2 7 16]
def V9:La:=[Wg 17 0 7,Wd 18 17,Wb 19 .lss 18 0,Wa 20 19,.grp 20 false [(xi 21 20 false (Fa 0 7)),(xi 22 20 false (Ld 21)),(xi 23 20 false (Mv 0)),(xi 24 20 false (Ln 23)),(xi 25 20 false (Bb .geq 22 24))] [21,22,23,24],Wn 26 20 25]
def V8:La:=[om 27 0,Wv 28 0 7,Wd 29 28,WB 30 7 27 29,Wt 31 7 30,Wm 32 59 31,Wa 8 32]
def V7:La:=[om 34 5,om 35 8,oo 36 (Ca 60 [.t 34,.t 35,(.f 61)]) [34,35],Wa 33 36,WE 37 33 0,WO 38 33 1,Wa 9 37,Wa 10 38]
def V6:La:=[Wa 39 10,WR 40 39]
def V5:La:=[Wa 41 5,Wa 42 9,Wa 43 8,WV 44 1 43,oo 45 (Ca 62 [.t 41,.t 42,.t 44]) [41,42,44],Wa 5 45]
def IL:La:=[Wb 46 .add 13 1,Wa 13 46]
def yH:RC:=(.post (So Xu (Sq (Xr 14 [0,11,12,13,14] (.exit 0)) (Sq (Bk 1 (So Xt (Sq (So V9 (Xs 26 [7,26] (.exit 1))) (So V8 (So V7 (So V6 (Kc 40 (Kk [40] (.ops V5)) (Kk [8,9,40] .skip)))))))) (.ops IL)))) [.obj 5 105,.gc [107]])
def xF:RC:=yH
def IK:La:=[Wa 47 5,Wa 4 47]
def r21:RC:=(So Xx (So Xw (Sq (So Xv (Bk 0 (.loop xF))) (So IK .ret))))
def F21:FnC:=⟨r21,48,[.tmp 4],[],[]⟩
def V4:La:=[oo 2 (.mov (.c (.lst 4 [] .clip))) [2]]
def V3:La:=[Wa 10 0,WK 11 35 10 200,Wa 3 11]
def ND:La:=[on 4 (.mov (.c (.lst 4 [] .clip)))]
def NC:La:=[Wh 5 1]
def V0:La:=[om 12 5,Wb 13 .leq 12 4]
def VZ:La:=[om 16 3,WK 17 37 16 3,Wa 6 17]
def VY:La:=[om 18 5,Wb 19 .eql 18 1,Wa 20 19,.grp 20 false [(xi 21 20 false (Mv 5)),(xi 22 20 false (Bc .eql 21 3))] [21],Wn 23 20 22]
def VX:La:=[om 24 3,WK 25 37 24 2,WS 26 .add 1 25,Wa 6 26]
def VW:La:=[om 27 6,Wb 28 .gtr 27 0]
def VV:La:=[om 31 3,om 32 5,Ws 33 65 31 32,W8 7,Wu 4 7 33]
def IJ:La:=[Wh 9 0]
def II:La:=[om 34 9,om 35 4,Wi 36 35,We 37 .lss 34 36]
def IH:Lb:=[Fm 0 40 8,Fm 1 41 40,Wq 2 42 41 false 4,Wq 3 43 41 false 9,Fi 4 44 41 false (Ia 4 42 43),Wz 5 45 41 false 0 44,Ww 6 46 41 false 45,Wz 7 47 41 false 0 7,Ww 8 48 41 false 47,Fi 9 49 41 false (Bb .eql 46 48),Wq 10 50 41 false 49,Wq 11 51 50 true 4,Wq 12 52 50 true 9,Fi 13 53 50 true (Ia 4 51 52),Wz 14 54 50 true 1 53,Ww 15 55 50 true 54,Wz 16 56 50 true 1 7,Ww 17 57 50 true 56,Fi 18 58 50 true (Bb .eql 55 57),Fi 19 59 41 false (Pf 50 58),Fs 20 60 (Pt 41 59),⟨21,false,(xm 8 60)⟩]
def IG:La:=[Wa 38 9,Wb 39 .add 38 1,Wa 9 39]
def yG:RC:=(Sq (So II (Xr 37 [9,37] (.exit 4))) (Sq (Bk 5 (.flt [0,1,3,3,15,31,63,3,131,511,1023,2047,2047,8191,16383,32767,2047,67583,262143,524287,1048575,2097151] [] IH [40,41,42,43,44,45,46,47,48,49,50,51,52,53,54,55,56,57,58,59,60])) (.ops IG)))
def xE:RC:=yG
def IF:La:=[Wa 61 8,WR 62 61]
def IE:La:=[Wa 63 4,Wt 64 4 7,WV 65 4 64,oo 66 (.app Zq0 56 (.t 63) (.t 65)) [63,65],Wa 4 66]
def ID:La:=[Wa 29 6,Wb 30 .sub 29 1,Wa 6 30]
def yF:RC:=(.post (Sq (So VW (Xr 28 [6,28] (.exit 2))) (Sq (Bk 3 (So VV (So Ry (Sq (So IJ (Bk 4 (.loop xE))) (So IF (Kc 62 (Kk [62] (.ops IE)) (Kk [7,62] .skip))))))) (.ops ID))) [.gc [107],.tok 4 104])
def xD:RC:=yF
def IC:La:=[Wa 14 5,Wb 15 .add 14 1,Wa 5 15]
def yE:RC:=(.post (Sq (So V0 (Xr 13 [3,5,13] (.exit 0))) (Sq (Bk 1 (So VZ (Sq (So VY (Xs 23 [6,23] (.ops VX))) (Bk 2 (.pre [.tok 4 104] (.loop xD)))))) (.ops IC))) [.gc [107],.tok 4 104])
def pK:RC:=yE
def IB:La:=[Wa 67 4,Wa 2 67]
def r24:RC:=(So V4 (So V3 (So ND (Sq (So NC (Bk 0 (.pre [.tok 4 104] (.loop pK)))) (So IB .ret)))))
def F24:FnC:=⟨r24,68,[.tmp 2],[],[]⟩
def qa:La:=[WN 4 false]
def VU:La:=[om 6 0,Wi 7 6,om 8 1,Wi 9 8,We 10 .neq 7 9]
def od:La:=[WD 4 false]
def tc:La:=[Wh 5 0]
def VT:La:=[om 11 5,om 12 0,Wi 13 12,We 14 .lss 11 13]
def VS:Lb:=[Fm 0 17 0,Fm 1 18 5,Wo 2 19 1 17 18,Wc 3 20 19,Fm 4 21 1,Fm 5 22 5,Wo 6 23 1 21 22,Wc 7 24 23,Wf 8 25 .neq 20 24]
def VR:La:=[Wa 15 5,Wb 16 .add 15 1,Wa 5 16]
def NU:RC:=(Sq (So VT (Xr 14 [0,1,5,14] (.exit 0))) (Sq (Bk 1 (Sq (.flt [0,0,3,7,0,0,48,112,255] [] VS [17,18,19,20,21,22,23,24]) (Xs 25 [0,1,5,25] (So od .ret)))) (.ops VR)))
def NB:RC:=NU
def vX:La:=[WD 4 true]
def r25:RC:=(So qa (Sq (So VU (Xs 10 [0,1,10] (So od .ret))) (Sq (So tc (Bk 0 (.loop NB))) (So vX .ret))))
def F25:FnC:=⟨r25,26,[.tmp 4],[],[]⟩
def kZ:La:=[WW 2 0]
def VQ:La:=[Wa 3 0,WK 4 18 3 2,WS 5 .add 2 4,Wa 2 5]
def r29:RC:=(So kZ (So VQ .ret))
def F29:FnC:=⟨r29,6,[.tmp 2],[],[]⟩
def NA:La:=[W4 6]
def VP:La:=[Wa 10 0,Wa 11 1,oo 12 (.build Zq2 [(0,1,(.t 10)),(1,1,(.t 11)),(4,1,(ci 1099511627776))]) [10,11],W4 7,Sr 7 7 12 [12]]
def VO:La:=[Wa 13 2,on 14 (Ln 13),Wh 15 0]
def VN:La:=[on 17 (Ia 4 13 15),Wt 18 4 17,W8 9,Wu 4 9 18]
def VM:La:=[on 19 (Lt 4 9),Wm 20 68 19,Wb 21 .eql 20 0,Wa 22 21,.grp 22 true [(xi 23 22 true (Fa 0 9)),(xi 24 22 true (Ld 23)),(xi 25 22 true (Bc .neq 24 4))] [23,24],Wr 26 22 25]
def VL:Lb:=[Wj 0 27 5 7,Wc 1 28 27,Wj 2 29 0 9,Wc 3 30 29,Wj 4 31 1 9,Wc 5 32 31,Wj 6 33 2 9,Wc 7 34 33,Fs 8 35 (Lt 4 9),Fz 9 36 (Ca 70 [.t 35]),Fz 10 37 (Ca 69 [ci 1,.t 36]),Fs 11 38 (.build Zq0 [(0,1,(.t 30)),(1,1,(.t 32)),(2,1,(.t 34)),(3,1,(.t 37))]),Fs 12 39 (.lit 4 [.t 38]),Fz 13 40 (.appO Zq0 56 (.t 28) (.t 39)),Wj 14 41 5 7,Fr 15 1 41 40]
def VK:La:=[Wb 42 .add 15 1,Wa 15 42]
def NT:RC:=(.post (So NF (Sq (Xr 16 [13,14,15,16] (.exit 0)) (Sq (Bk 1 (So VN (So VM (Kc 26 (Kk [26] (.flt [0,1,0,4,0,16,0,64,0,256,768,2044,4092,8191,16383,32767] [140] VL [9,27,28,29,30,31,32,33,34,35,36,37,38,39,40,41])) (Kk [9,26] .skip))))) (.ops VK)))) [.gc [109]])
def Nz:RC:=NT
def VJ:La:=[Wg 43 5 7,Wd 44 43,oo 45 (Ca 71 [.t 44,(.f 72)]) [44,45]]
def IA:La:=[Wg 46 5 7,Wd 47 46,oo 48 (Ca 73 [.t 47,(.f 74)]) [47],Wg 49 5 7,WJ 1 49 48]
def Iz:La:=[oo 50 (Lt 7 7) [7],Wu 7 6 50]
def r30:RC:=(So NA (So VP (Sq (So VO (Bk 0 (.loop Nz))) (So VJ (So IA (So Iz .ret))))))
def F30:FnC:=⟨r30,51,[.cell 6 7 true],[0],[]⟩
def Ny:La:=[oo 4 (.mov (.c (.lst 4 [] .clip))) [4]]
def VI:La:=[om 11 0,Wm 12 75 11,Wb 13 .neq 12 0,Wa 14 13,.grp 14 false [(xi 15 14 false (Mv 1)),(xi 16 14 false (Bc .lss 15 1))] [15],Wn 17 14 16,Wa 18 17,.grp 18 false [(xi 19 18 false (Mv 1)),(xi 20 18 false (Bc .gtr 19 3))] [19],Wn 21 18 20]
def VH:La:=[on 5 (.mov (.c (.lst 4 [] .clip)))]
def VG:La:=[Wh 6 1]
def VF:La:=[om 22 6,Wb 23 .leq 22 4]
def VE:La:=[om 26 6,Wb 27 .eql 26 3]
def vW:La:=[Wh 7 0]
def VD:La:=[om 28 7,Wb 29 .lss 28 8]
def VC:La:=[Wa 32 5,om 33 7,om 34 1,on 35 (Ca 77 []),oo 36 (Ca 76 [.t 33,ci 2,.t 34,.t 35]) [33,34,35],WV 37 4 36,oo 38 (.app Zq1 64 (.t 32) (.t 37)) [32,37],Wa 5 38]
def Iy:La:=[Wa 30 7,Wb 31 .add 30 1,Wa 7 31]
def yD:RC:=(.post (Sq (So VD (Xr 29 [7,29] (.exit 2))) (Sq (Bk 3 (.ops VC)) (.ops Iy))) [.tok 5 105])
def xC:RC:=yD
def ta:La:=[Wh 8 0]
def Ix:La:=[om 39 8,om 40 0,Wi 41 40,We 42 .lss 39 41]
def Iw:La:=[om 45 0,om 46 8,WB 47 4 45 46,Wv 48 0 47,Wd 49 48,om 50 6,We 51 .neq 49 50]
def Iv:La:=[om 52 6,Wb 53 .neq 52 4]
def Iu:La:=[Wa 54 5,om 55 0,om 56 8,WB 57 4 55 56,Wt 58 4 57,om 59 1,Ws 60 78 58 59,WV 61 4 60,oo 62 (.app Zq1 64 (.t 54) (.t 61)) [54,61],Wa 5 62]
def It:La:=[om 63 0,om 64 8,WB 65 4 63 64,Wt 66 4 65,Wm 67 79 66,Wa 9 67]
def xB:La:=[Wh 10 0]
def Is:La:=[om 68 10,om 69 9,Wi 70 69,We 71 .lss 68 70]
def Ir:La:=[Wa 74 5,om 75 1,om 76 9,om 77 10,WB 78 1 76 77,Wd 79 78,oo 80 (Ca 76 [ci 9,ci 3,.t 75,.t 79]) [75,79],WV 81 4 80,oo 82 (.app Zq1 64 (.t 74) (.t 81)) [74,81],Wa 5 82]
def Iq:La:=[Wa 72 10,Wb 73 .add 72 1,Wa 10 73]
def yC:RC:=(.post (Sq (So Is (Xr 71 [9,10,71] (.exit 6))) (Sq (Bk 7 (.ops Ir)) (.ops Iq))) [.tok 5 105])
def xA:RC:=yC
def Ip:La:=[Wa 43 8,Wb 44 .add 43 1,Wa 8 44]
def yB:RC:=(.post (Sq (So Ix (Xr 42 [8,42] (.exit 4))) (Sq (Bk 5 (Sq (So Iw (Xs 51 [51] (.exit 5))) (Sq (So Iv (Xs 53 [53] (So Iu (.exit 5)))) (So It (So xB (Bk 6 (.pre [.tok 5 105] (.loop xA)))))))) (.ops Ip))) [.tok 5 105])
def xz:RC:=yB
def Io:La:=[Wa 24 6,Wb 25 .add 24 1,Wa 6 25]
def yA:RC:=(.post (Sq (So VF (Xr 23 [0,1,6,23] (.exit 0))) (Sq (Bk 1 (Sq (So VE (Xs 27 [27] (So vW (Bk 2 (.pre [.tok 5 105] (.loop xC)))))) (So ta (Bk 4 (.pre [.tok 5 105] (.loop xz)))))) (.ops Io))) [.tok 5 105])
def In:RC:=yA
def Im:La:=[Wa 83 5,Wa 4 83]
def r31:RC:=(So Ny (Sq (So VI (Xs 21 [0,1,21] (So ND .ret))) (So VH (Sq (So VG (Bk 0 (.pre [.tok 5 105] (.loop In)))) (So Im .ret)))))
def F31:FnC:=⟨r31,84,[.tmp 4],[],[]⟩
def VB:La:=[WN 6 false]
def VA:Lb:=[Fm 0 7 2,Wp 1 8 .geq 7 0,Fm 2 9 8,Wq 3 10 9 true 2,Fi 4 11 9 true (Bc .leq 10 32),Fs 5 12 (Pf 9 11),Fm 6 13 12,Wq 7 14 13 true 0,Wq 8 15 13 true 1,Fy 9 16 13 true (Ca 25 [.t 14,.t 15]),Fi 10 17 13 true (.un .not (.t 16)),Fs 11 18 (Pf 13 17),Fm 12 19 18,Wq 13 20 19 true 0,Wq 15 22 19 true 2,Wq 17 24 19 true 1,Wq 19 26 19 true 2,Fy 14 21 19 true (Ca 80 [.t 20]),Fi 16 23 19 true (.slcL 1 (.t 21) none (some (.t 22)) none),Fy 18 25 19 true (Ca 80 [.t 24]),Fi 20 27 19 true (.slcL 1 (.t 25) none (some (.t 26)) none),Fy 21 28 19 true (Ca 25 [.t 23,.t 27]),Fs 22 29 (Pf 19 28),Fm 23 6 29]
def r32:RC:=(So VB (Sq (.flt [0,1,3,7,15,31,63,127,127,511,1023,2047,4095,8191,16383,8191,65535,8191,163839,8191,950271,2097151,4194303,8388607] [] VA [0,1,2,7,8,9,10,11,12,13,14,15,16,17,18,19,20,21,22,23,24,25,26,27,28,29]) .ret))
def F32:FnC:=⟨r32,30,[.tmp 6],[],[]⟩
def vV:La:=[WF 1 0,W9 2]
def Vz:La:=[on 4 (Lt 4 1),Wm 5 81 4,Wb 6 .neq 5 0]
def vU:La:=[on 2 (.mov (.c (.byt [] .clip)))]
def Vy:La:=[Wg 7 0 1,Wd 8 7,oo 9 (Ca 82 [(.c (.byt [] .clip)),ci 1,.t 8]) [8],Wa 3 9]
def Vx:La:=[Wa 10 3,Wg 11 2 1,Wd 12 11,W5 13 82 10 4 12,Wa 3 13]
def Vw:La:=[Wa 14 3,Wg 15 1 1,Wd 16 15,Xa 17 16,Ws 18 83 14 17,Wa 3 18]
def Vv:La:=[Wa 19 3,Wv 20 3 1,Wd 21 20,Ws 22 83 19 21,Wa 2 22]
def r33:RC:=(So vV (Sq (So Vz (Xs 6 [1,6] (So vU .ret))) (So Vy (So Vx (So Vw (So Vv .ret))))))
def F33:FnC:=⟨r33,23,[.tmp 2],[],[]⟩
def Vu:La:=[Wa 12 0,Wa 13 1,oo 14 (.build Zq2 [(0,1,(.t 12)),(1,1,(.t 13)),(4,1,(ci 1099511627776))]) [12,13],W4 7,Sr 7 7 14 [14]]
def Vt:La:=[om 15 8,om 16 2,Wi 17 16,We 18 .lss 15 17]
def Vs:La:=[om 21 2,om 22 8,WB 23 4 21 22,Wt 24 4 23,Wm 25 33 24,Wa 9 25]
def Vr:La:=[om 26 9,Wi 27 26,Wb 28 .eql 27 0,Wa 29 28,.grp 29 false [(xi 30 29 false (Mv 2)),(xi 31 29 false (Mv 8)),(xi 32 29 false (Ia 4 30 31)),(xi 33 29 false (Fa 0 32)),(xi 34 29 false (Ld 33)),(xi 35 29 false (Bc .eql 34 4))] [30,31,32,33,34],Wn 36 29 35]
def Vq:Lb:=[Fm 0 37 2,Fm 1 38 8,Wo 2 39 4 37 38,Wj 3 40 0 39,Wc 4 41 40,Fm 5 42 2,Fm 6 43 8,Wo 7 44 4 42 43,Wj 8 45 1 44,Wc 9 46 45,Fm 10 47 2,Fm 11 48 8,Wo 12 49 4 47 48,Wj 13 50 2 49,Wc 14 51 50,Fm 15 52 9,Fz 16 53 (Ca 80 [.t 52]),Fs 17 54 (.build Zq0 [(0,1,(.t 41)),(1,1,(.t 46)),(2,1,(.t 51)),(3,1,(.t 53))]),Fz 18 10 (.new (.rc Zq0)),Fr 19 4 10 54]
def Vp:La:=[Wh 11 0]
def Vo:Lb:=[Fm 0 55 11,Wj 1 56 5 7,Wc 2 57 56,Fs 3 58 (Ln 57),Wf 4 59 .lss 55 58,Fm 5 60 59,Wz 6 61 60 true 5 7,Ww 7 62 60 true 61,Wq 8 63 60 true 11,Fi 9 64 60 true (Ia 4 62 63),Fi 10 65 60 true (Lt 4 64),Fi 11 66 60 true (Lt 4 10),Fy 12 67 60 true (Ca 84 [.t 65,.t 66]),Fs 13 68 (Pf 60 67)]
def Vn:La:=[Wa 69 11,Wb 70 .add 69 1,Wa 11 70]
def yz:RC:=(Sq (Sq (.flt [0,0,2,6,15,31,63,127,63,511,1023,63,4095,8191] [] Vo [55,56,57,58,59,60,61,62,63,64,65,66,67]) (Xr 68 [68] (.exit 2))) (Bk 3 (.ops Vn)))
def xy:RC:=yz
def Il:Lb:=[Fm 0 71 11,Wj 1 72 5 7,Wc 2 73 72,Fs 3 74 (Ln 73),Wf 4 75 .lss 71 74,Fm 5 76 75,Fi 6 77 76 true (Lt 4 10),Wz 7 78 76 true 5 7,Ww 8 79 76 true 78,Wq 9 80 76 true 11,Fi 10 81 76 true (Ia 4 79 80),Fi 11 82 76 true (Lt 4 81),Fy 12 83 76 true (Ca 84 [.t 77,.t 82]),Fi 13 84 76 true (.un .not (.t 83)),Fs 14 85 (Pf 76 84)]
def Ik:Lb:=[Fs 0 86 (.lit 4 []),Wj 1 87 5 7,Wc 2 88 87,Fm 3 89 11,Fs 4 90 (.slcL 4 (.t 88) none (some (.t 89)) none),Fs 6 92 (Lt 4 10),Fs 7 93 (.lit 4 [.t 92]),Wj 9 95 5 7,Wc 10 96 95,Fm 11 97 11,Fs 12 98 (.slcL 4 (.t 96) (some (.t 97)) none none),Fz 5 91 (.app Zq0 56 (.t 86) (.t 90)),Fz 8 94 (.app Zq0 56 (.t 91) (.t 93)),Fz 13 99 (.app Zq0 56 (.t 94) (.t 98)),Wj 14 100 5 7,Fr 15 1 100 99]
def Ij:La:=[Wa 19 8,Wb 20 .add 19 1,Wa 8 20]
def yy:RC:=(.post (Sq (So Vt (Xr 18 [2,8,18] (.exit 0))) (Sq (Bk 1 (So Vs (Sq (So Vr (Xs 36 [9,36] (.exit 1))) (Sq (.fla [0,0,3,7,15,0,0,96,224,480,0,0,3072,7168,15360,0,32768,131071,0,524287] [110] Vq [[0,1,2,3,4,5,6,7,8,9,10,11,12,13,14,15,16,17,18,19],[0,1,2,3,4,5,6,7,8,9,10,11,12,13,14,15,18,16,17,19]] [9,37,38,39,40,41,42,43,44,45,46,47,48,49,50,51,52,53,54]) (So Vp (Sq (Bk 2 (.loop xy)) (Sq (Sq (.flt [0,0,2,6,15,31,63,63,191,63,959,1983,4095,8191,16383] [] Il [71,72,73,74,75,76,77,78,79,80,81,82,83,84]) (Xs 85 [10,11,85] (.exit 1))) (.flt [0,0,2,0,14,31,0,64,255,0,512,0,3584,8191,16383,32767] [191,194,199] Ik [10,11,86,87,88,89,90,91,92,93,94,95,96,97,98,99,100])))))))) (.ops Ij))) [.gc [110,191,194,199]])
def lC:RC:=yy
def Ii:La:=[oo 101 (Lt 7 7) [7],Wu 7 6 101]
def r34:RC:=(So NA (So Vu (Sq (So ta (Bk 0 (.loop lC))) (So Ii .ret))))
def F34:FnC:=⟨r34,102,[.cell 6 7 true],[0],[]⟩
def Vm:La:=[oo 4 (.mov (.c .nilp)) [4]]
def Vl:La:=[om 5 0,Wi 6 5,om 7 1,We 8 .gtr 6 7]
def Vk:La:=[Wa 9 0,Wa 10 1,Xl 11 1 9 10,Wa 0 11]
def Vj:La:=[Wa 12 0,oo 13 (.build [.byt [] .clip,.int .i64 0] [(0,1,(.t 12))]) [12],WF 14 13,Wa 4 14]
def r35:RC:=(So Vm (Sq (So Vl (Kc 8 (Kk [8] (.ops Vk)) (Kk [1,8] .skip))) (So Vj .ret)))
def F35:FnC:=⟨r35,15,[.tmp 4],[],[]⟩
def Vi:Lb:=[Fm 0 5 0,WA 1 6 5,Wj 2 7 1 6,Wc 3 8 7,Fm 4 9 0,WA 5 10 9,Wj 6 11 0 10,Wc 7 12 11,Fs 8 13 (Ln 12),Wf 9 14 .geq 8 13]
def Vh:La:=[om 15 0,on 16 (.nchk (.t 15)),Wv 17 1 16,Wd 18 17,Wb 19 .add 18 1,oo 20 (.nchk (.t 15)) [15],Wv 21 1 20,WJ 1 21 19]
def Vg:Lb:=[Fm 0 22 0,WA 1 23 22,Wj 2 24 0 23,Wc 3 25 24,Fm 4 26 0,WA 5 27 26,Wj 6 28 1 27,Wc 7 29 28,Wp 8 30 .sub 29 1,Wo 9 31 1 25 30,Wc 10 32 31,Fs 11 33 (.toInt .i64 (.t 32)),Fm 12 34 1,Wf 13 35 .rem 33 34,Fm 14 4 35]
def r37:RC:=(So qb (Sq (Sq (.flt [0,1,3,7,0,16,48,112,240,511] [] Vi [5,6,7,8,9,10,11,12,13]) (Xs 14 [0,1,14] (So td .ret))) (So Vh (Sq (.flt [0,1,3,7,0,16,48,112,240,511,1023,2047,0,8191,16383] [] Vg [0,1,22,23,24,25,26,27,28,29,30,31,32,33,34,35]) .ret))))
def F37:FnC:=⟨r37,36,[.tmp 4],[],[]⟩
def Vf:La:=[WF 3 1,WN 4 false]
def Ve:La:=[Wg 6 1 3,Wd 7 6,Wb 8 .eql 7 5]
def Vd:La:=[on 9 (Lt 4 3),Wm 10 88 9,Wa 5 10]
def Vc:La:=[om 12 5,Wb 13 .eql 12 0,Wa 14 13,.grp 14 false [(xi 15 14 false (Mv 5)),(xi 16 14 false (Mv 0)),(xi 17 14 false (.nchk (.t 16))),(xi 18 14 false (Fa 0 17)),(xi 19 14 false (Ld 18)),(xi 20 14 false (Bb .lss 15 19))] [15,16,17,18,19],Wn 21 14 20,Wa 22 21,.grp 22 false [(xi 23 22 false (Mv 5)),(xi 24 22 false (Bc .gtr 23 1)),(xi 25 22 false (Mv 24))] [23,24],.grp 25 true [(xi 26 25 true (Mv 0)),(xi 27 25 true (.nchk (.t 26))),(xi 28 25 true (Fa 2 27)),(xi 29 25 true (.iaddrA 6 1 (.t 28) (ci 1))),(xi 30 25 true (Ld 29)),(xi 31 25 true (.un .not (.t 30)))] [26,27,28,29,30],.grp 22 false [(xi 32 22 false (Pf 25 31))] [25,31],Wn 33 22 32,Wa 11 33]
def Vb:Lb:=[Fm 0 35 5,Wp 1 36 .eql 35 3,Fm 2 37 36,Wz 3 38 37 true 0 3,Ww 4 39 37 true 38,Wq 5 40 37 true 0,Fi 6 41 37 true (.nchk (.t 40)),Wz 7 42 37 true 1 41,Ww 8 43 37 true 42,Fi 9 44 37 true (Bb .neq 39 43),Fs 10 45 (Pf 37 44),Fm 11 34 45]
def Va:La:=[om 47 5,Wb 48 .gtr 47 3,Wa 49 48,.grp 49 true [(xi 50 49 true (Mv 0)),(xi 51 49 true (.nchk (.t 50))),(xi 52 49 true (Fa 1 51)),(xi 53 49 true (Ld 52)),(xi 54 49 true (Bc .neq 53 8))] [50,51,52,53],Wr 55 49 54,Wa 46 55]
def Ih:La:=[om 56 5,Wb 57 .eql 56 3]
def Ig:La:=[om 58 0,on 59 (.nchk (.t 58)),Wv 60 1 59,Wd 61 60,Wb 62 .add 61 1,oo 63 (.nchk (.t 58)) [58],Wv 64 1 63,WJ 1 64 62]
def If:Lb:=[Fm 0 65 0,Fm 1 66 0,Fm 2 67 5,Fm 3 68 5,WA 4 69 65,Wj 5 70 0 69,WA 7 71 66,Wj 8 72 2 71,Fr 6 1 70 68,Fs 9 73 (.iaddrA 6 1 (.t 72) (.t 67)),⟨10,false,⟨none,none,.store 1 (.t 73) (.c (.bool true))⟩⟩]
def r39:RC:=(So Vf (Sq (So Ve (Xs 8 [0,3,8] (So vX .ret))) (So Vd (Sq (Bk 0 (So Vc (Kc 11 (Kk [0,3,5,11] (So od .ret)) (Kk [11] (Sq (.flt [0,1,3,7,15,7,39,103,231,511,1023,2047] [] Vb [3,35,36,37,38,39,40,41,42,43,44,45]) (Kc 34 (Kk [0,5,34] (So od .ret)) (Kk [34] (So Va (Xs 46 [0,5,46] (So od .ret)))))))))) (Sq (So Ih (Xs 57 [57] (.ops Ig))) (Sq (.flt [0,0,0,0,9,25,57,2,130,511,1023] [] If [0,5,65,66,67,68,69,70,71,72,73]) (So vX .ret)))))))
def F39:FnC:=⟨r39,74,[.tmp 4],[],[]⟩
def U9:La:=[WF 2 0,Xd 4,WN 5 false]
def U8:La:=[Wg 9 1 2,Wd 10 9,Wb 11 .eql 10 5,Wa 12 11,.grp 12 false [(xi 13 12 false (Fa 1 2)),(xi 14 12 false (Ld 13)),(xi 15 12 false (Bc .eql 14 2)),(xi 16 12 false (Mv 15))] [13,14,15],.grp 16 true [(xi 17 16 true (Lt 4 2)),(xi 18 16 true (Ca 50 [.t 17]))] [17],.grp 12 false [(xi 19 12 false (Pf 16 18))] [16,18],Wn 20 12 19]
def U7:La:=[on 21 (.build [.int .i64 0,.int .i64 0] [(0,1,(ci (-1))),(1,1,(ci (-1)))]),Wu 2 4 21,WD 5 true]
def U6:La:=[Wa 22 1,on 23 (Ln 22),Wh 24 0]
def U5:La:=[on 25 (Bb .lss 24 23)]
def U4:La:=[om 26 24,on 27 (Ia 7 22 24),Wt 28 7 27,W4 7,Wa 6 26,Sr 7 7 28 [28]]
def U3:La:=[oo 29 (Lt 7 7) [7],on 30 (Lt 4 2),Ws 31 15 29 30,Wa 8 31]
def U2:La:=[om 32 8,Wb 33 .geq 32 0]
def U1:La:=[Wa 34 6,Wa 35 8,oo 36 (.build [.int .i64 0,.int .i64 0] [(0,1,(.t 34)),(1,1,(.t 35))]) [34,35],Wu 2 4 36,WD 5 true]
def U0:La:=[Wb 37 .add 24 1,Wa 24 37]
def yx:RC:=(.post (So U5 (Sq (Xr 25 [2,22,23,24,25] (.exit 0)) (Sq (Bk 1 (So U4 (So U3 (So U2 (Kc 33 (Kk [2,22,23,24,33] (So U1 .ret)) (Kk [6,8,33] .skip)))))) (.ops U0)))) [.gc [107]])
def s9:RC:=yx
def Ie:La:=[on 38 (.build [.int .i64 0,.int .i64 0] []),Wu 2 4 38,WD 5 false]
def r40:RC:=(So U9 (Sq (So U8 (Xs 20 [1,2,20] (So U7 .ret))) (Sq (So U6 (Bk 0 (.loop s9))) (So Ie .ret))))
def F40:FnC:=⟨r40,39,[.cell 4 2 true,.tmp 5],[],[]⟩
def s8:La:=[WF 1 0,WW 2 0]
def UZ:La:=[Wg 9 0 1,Wd 10 9,Wm 11 89 10,WR 12 11,Wa 8 12]
def vT:La:=[Wh 2 43]
def UY:La:=[Wg 14 2 1,Wd 15 14,Wb 16 .lss 15 0,Wa 17 16,.grp 17 false [(xi 18 17 false (Fa 2 1)),(xi 19 17 false (Ld 18)),(xi 20 17 false (Fa 1 1)),(xi 21 17 false (Ld 20)),(xi 22 17 false (Bb .gtr 19 21))] [18,19,20,21],Wn 23 17 22,Wa 24 23,.grp 24 false [(xi 25 24 false (Fa 1 1)),(xi 26 24 false (Ld 25)),(xi 27 24 false (Bc .gtr 26 1000000))] [25,26],Wn 28 24 27,Wa 29 28,.grp 29 false [(xi 30 29 false (Fa 3 1)),(xi 31 29 false (Ld 30)),(xi 32 29 false (Bc .lss 31 0))] [30,31],Wn 33 29 32,Wa 34 33,.grp 34 false [(xi 35 34 false (Fa 3 1)),(xi 36 34 false (Ld 35)),(xi 37 34 false (Fa 4 1)),(xi 38 34 false (Ld 37)),(xi 39 34 false (Bb .geq 36 38))] [35,36,37,38],Wn 40 34 39,Wa 41 40,.grp 41 false [(xi 42 41 false (Fa 4 1)),(xi 43 41 false (Ld 42)),(xi 44 41 false (Bc .gtr 43 1099511627776))] [42,43],Wn 45 41 44,Wa 13 45]
def jE:La:=[Wh 2 1]
def UX:La:=[Wg 47 5 1,Wd 48 47,Wi 49 48,Wb 50 .gtr 49 16,Wa 51 50,.grp 51 false [(xi 52 51 false (Fa 6 1)),(xi 53 51 false (Ld 52)),(xi 54 51 false (Ln 53)),(xi 55 51 false (Bc .gtr 54 8))] [52,53,54],Wn 56 51 55,Wa 46 56]
def p9:La:=[Wh 2 4]
def UW:La:=[Wg 57 5 1,Wd 58 57,on 59 (Ln 58),Wh 60 0]
def UV:La:=[on 61 (Bb .lss 60 59)]
def UU:La:=[om 62 60,on 63 (Ia 4 58 60),Wt 64 4 63,W8 4,Wa 3 62,Sr 4 4 64 [64]]
def Ic:La:=[Wg 66 0 4,Wd 67 66,Wb 68 .lss 67 1,Wa 69 68,.grp 69 false [(xi 70 69 false (Fa 0 4)),(xi 71 69 false (Ld 70)),(xi 72 69 false (Bc .gtr 71 3))] [70,71],Wn 73 69 72,Wa 74 73,.grp 74 false [(xi 75 74 false (Fa 2 4)),(xi 76 74 false (Ld 75)),(xi 77 74 false (Bc .lss 76 0))] [75,76],Wn 78 74 77,Wa 79 78,.grp 79 false [(xi 80 79 false (Fa 2 4)),(xi 81 79 false (Ld 80)),(xi 82 79 false (Bc .gtr 81 1000000))] [80,81],Wn 83 79 82,Wa 84 83,.grp 84 false [(xi 85 84 false (Fa 3 4)),(xi 86 84 false (Ld 85)),(xi 87 84 false (Ln 86)),(xi 88 84 false (Bc .neq 87 32))] [85,86,87],Wn 89 84 88,Wa 65 89]
def Ib:La:=[Wg 91 1 4,Wd 92 91,Wm 93 89 92,WR 94 93,Wa 90 94]
def H9:Lb:=[Fm 0 96 3,Wp 1 97 .gtr 96 0,Fm 2 98 97,Wz 3 99 98 true 5 1,Ww 4 100 98 true 99,Wq 5 101 98 true 3,Fi 6 102 98 true (Bc .sub 101 1),Fi 7 103 98 true (Ia 4 100 102),Fi 8 104 98 true (Lt 4 103),Fi 9 105 98 true (Lt 4 4),Fy 10 106 98 true (Ca 72 [.t 104,.t 105]),Fi 11 107 98 true (Bc .geq 106 0),Fs 12 108 (Pf 98 107),Fm 13 95 108]
def xx:La:=[Wh 2 41]
def H8:La:=[Wb 109 .add 60 1,Wa 60 109]
def yw:RC:=(.post (So UV (Sq (Xr 61 [58,59,60,61] (.exit 1)) (Sq (Bk 2 (So UU (Bk 3 (So Ic (Kc 65 (Kk [1,3,4,58,59,60,65] (So jE .ret)) (Kk [65] (So Ib (Kc 90 (Kk [1,3,4,58,59,60,90] (So vT .ret)) (Kk [90] (Sq (.flt [0,1,3,7,15,7,39,127,255,7,1023,2047,4095,8191] [] H9 [3,4,96,97,98,99,100,101,102,103,104,105,106,107,108]) (Xs 95 [1,58,59,60,95] (So xx .ret)))))))))))) (.ops H8)))) [.gc [104]])
def lB:RC:=yw
def H7:La:=[Wv 110 6 1,Wd 111 110,on 112 (Ln 111),Wh 113 0]
def H6:La:=[on 114 (Bb .lss 113 112)]
def H5:La:=[on 115 (Ia 4 111 113),Wt 116 4 115,on 6 (.new (.rc [.int .i64 0,.str [],.int .i64 0,.int .i64 0])),Wu 4 6 116]
def H4:La:=[Wt 117 4 6,Wm 118 90 117,Wa 7 118]
def H3:La:=[om 119 7,Wb 120 .neq 119 0]
def H2:La:=[Wa 121 7,Wa 2 121]
def HZ:La:=[Wb 122 .add 113 1,Wa 113 122]
def yv:RC:=(.post (So H6 (Sq (Xr 114 [111,112,113,114] (.exit 4)) (Sq (Bk 5 (So H5 (So H4 (So H3 (Kc 120 (Kk [111,112,113,120] (So H2 .ret)) (Kk [7,120] .skip)))))) (.ops HZ)))) [.gc [106]])
def s7:RC:=yv
def i5:La:=[Wh 2 0]
def r44:RC:=(So s8 (Sq (Bk 0 (So UZ (Kc 8 (Kk [1,8] (So vT .ret)) (Kk [8] (So UY (Kc 13 (Kk [1,13] (So jE .ret)) (Kk [13] (So UX (Xs 46 [1,46] (So p9 .ret)))))))))) (Sq (So UW (Bk 1 (.loop lB))) (Sq (So H7 (Bk 4 (.loop s7))) (So i5 .ret)))))
def F44:FnC:=⟨r44,123,[.tmp 2],[],[]⟩
def Nw:La:=[om 6 0,Wi 7 6,Wh 8 0]
def DZ:La:=[on 9 (Bb .lss 8 7)]
def Nv:La:=[om 10 8,Wa 5 10]
def Nu:La:=[om 11 1,om 12 0,om 13 5,WB 14 4 12 13,Wt 15 4 14,oo 16 (.call (.t 11) [.t 15]) [11,15]]
def Nt:La:=[Wa 17 5,Wa 4 17]
def Ns:La:=[Wb 18 .add 8 1,Wa 8 18]
def NS:RC:=(So DZ (Sq (Xr 9 [0,1,7,8,9] (.exit 0)) (Sq (Bk 1 (So Nv (So Nu (Kc 16 (Kk [0,1,7,8,16] (So Nt .ret)) (Kk [5,16] .skip))))) (.ops Ns))))
def Nr:RC:=NS
def r45:RC:=(So qb (Sq (So Nw (Bk 0 (.loop Nr))) (So og .ret)))
def F45:FnC:=⟨r45,19,[.tmp 4],[],[]⟩
def Nq:La:=[WF 2 0,WN 3 false]
def UT:Lb:=[Wj 0 4 0 1,Wc 1 5 4,Wj 2 6 0 2,Wc 3 7 6,Fz 4 8 (Ca 47 [.t 7]),Wf 5 9 .eql 5 8,Fm 6 10 9,Wz 7 11 10 true 2 1,Ww 8 12 10 true 11,Fi 9 13 10 true (Ln 12),Fi 10 14 10 true (Bc .gtr 13 1),Fs 11 15 (Pf 10 14),Fm 12 16 15,Wz 13 17 16 true 2 1,Ww 14 18 16 true 17,Fi 15 19 16 true (.iaddrL 1 (.t 18) (ci 1)),Ww 16 20 16 true 19,Wz 17 21 16 true 3 2,Ww 18 22 16 true 21,Fy 19 23 16 true (Ca 48 [.t 20,.t 22]),Fs 20 24 (Pf 16 23),Fm 21 25 24,Wz 22 26 25 true 3 1,Ww 23 27 25 true 26,Fi 24 28 25 true (.b2s (.t 27)),Wz 25 29 25 true 1 2,Ww 26 30 25 true 29,Fi 27 31 25 true (.bin .add (.t 30) (.c (.str [32]))),Wz 28 32 25 true 2 2,Ww 29 33 25 true 32,Fy 30 34 25 true (Ca 49 [.t 33]),Fi 31 35 25 true (Bb .add 31 34),Fi 32 36 25 true (Bb .eql 28 35),Fs 33 37 (Pf 25 36),Fm 34 3 37]
def r46:RC:=(So Nq (Sq (.flt [0,1,0,4,12,31,63,127,255,511,1023,2047,4095,8191,16383,32767,65535,8191,139263,524287,1048575,2097151,4194303,8388607,16777215,4194303,37748735,104857599,4194303,272629759,809500671,2118123519,4294967295,8589934591,17179869183] [] UT [1,2,4,5,6,7,8,9,10,11,12,13,14,15,16,17,18,19,20,21,22,23,24,25,26,27,28,29,30,31,32,33,34,35,36,37]) .ret))
def F46:FnC:=⟨r46,38,[.tmp 3],[],[]⟩
def US:La:=[om 3 0,Wb 4 .lss 3 0,Wa 5 4,.grp 5 false [(xi 6 5 false (Mv 0)),(xi 7 5 false (Bc .geq 6 5))] [6],Wn 8 5 7]
def vS:La:=[Wh 2 (-1)]
def UR:La:=[Wa 9 0,oo 10 (.iaddrA 5 1 (.c (.pp np)) (.t 9)) [9],Wd 11 10,Wa 2 11]
def r47:RC:=(So kZ (Sq (So US (Xs 8 [0,8] (So vS .ret))) (So UR .ret)))
def F47:FnC:=⟨r47,12,[.tmp 2],[],[]⟩
def UQ:La:=[Wa 5 0,W6 6 5,Wa 7 1,W6 8 7,We 9 .eql 6 8,Wa 4 9]
def r48:RC:=(So qa (So UQ .ret))
def F48:FnC:=⟨r48,10,[.tmp 4],[],[]⟩
def DY:La:=[oo 2 (.mov (.c (.str []))) [2]]
def UP:La:=[Wa 3 0,Wm 4 91 3,Wa 2 4]
def r49:RC:=(So DY (So UP .ret))
def F49:FnC:=⟨r49,5,[.tmp 2],[],[]⟩
def UO:La:=[WF 1 0,WN 2 false]
def UN:La:=[Wg 8 1 1,Wd 9 8,Wb 10 .neq 9 1,Wa 11 10,.grp 11 true [(xi 12 11 true (Fa 1 1)),(xi 13 11 true (Ld 12)),(xi 14 11 true (Bc .neq 13 5))] [12,13],Wr 15 11 14,Wa 3 15]
def UM:La:=[Wg 16 1 1,Wd 17 16]
def UL:La:=[WC 19 .eql 17 1,Wa 18 19]
def vR:La:=[WD 2 true]
def UK:La:=[WC 21 .eql 17 2,Wa 20 21]
def UJ:Lb:=[Wj 0 22 3 1,Wc 1 23 22,Fz 2 24 (.mkB (ci 4) (ci 4)),WI 3 25 48 23 24,Fs 4 26 (.un .not (.t 25))]
def nk:La:=[WD 2 false]
def UI:La:=[WC 28 .eql 17 3,Wa 27 28]
def UH:La:=[Wg 29 3 1,Wd 30 29,Wi 31 30,Wb 32 .eql 31 0]
def HY:La:=[Wg 33 3 1,Wd 34 33,on 35 (Ln 34),Wh 36 0]
def HX:La:=[on 37 (Bb .lss 36 35)]
def HW:La:=[on 38 (Ia 1 34 36),Wd 39 38,Wa 5 39]
def HV:La:=[om 40 5,Xe 41 .lss 40,Wa 42 41,.grp 42 false [(xi 43 42 false (Mv 5)),(xi 44 42 false (.bin .gtr (.t 43) (.c (.u8 126))))] [5,43],Wn 45 42 44]
def HU:La:=[Wb 46 .add 36 1,Wa 36 46]
def yu:RC:=(So HX (Sq (Xr 37 [34,35,36,37] (.exit 1)) (Sq (Bk 2 (So HW (So HV (Xs 45 [1,3,34,35,36,45] (So nk .ret))))) (.ops HU))))
def xw:RC:=yu
def HT:La:=[WC 48 .eql 17 4,Wa 47 48]
def HS:La:=[Wb 49 .eql 17 5,Wa 47 49]
def HR:La:=[Wg 50 2 1,Wd 51 50,Wi 52 51,oo 53 (.mini (.t 52) (ci 2)) [52],Wh 54 0]
def HQ:La:=[on 55 (Bb .lss 54 53)]
def HP:La:=[om 56 54,Wa 6 56]
def HO:La:=[Wg 57 2 1,Wd 58 57,om 59 6,WB 60 1 58 59,Wd 61 60,Wa 7 61]
def HN:La:=[om 62 7,Wi 63 62,Wb 64 .gtr 63 0,Wa 65 64,.grp 65 true [(xi 66 65 true (Mv 3)),(xi 67 65 true (.un .not (.t 66))),(xi 68 65 true (Mv 67))] [66,67],.grp 68 false [(xi 69 68 false (Mv 7)),(xi 70 68 false (Mv 6)),(xi 71 68 false (Fa 3 1)),(xi 72 68 false (Ld 71)),(xi 73 68 false (Ca 69 [.t 70,.t 72])),(xi 74 68 false (Ca 48 [.t 69,.t 73])),(xi 75 68 false (.un .not (.t 74)))] [6,7,69,70,71,72,73,74],.grp 65 true [(xi 76 65 true (Pt 68 75))] [68,75],Wr 77 65 76]
def HM:La:=[Wb 78 .add 54 1,Wa 54 78]
def yr:RC:=(So HQ (Sq (Xr 55 [1,3,53,54,55] (.exit 3)) (Sq (Bk 4 (So HP (So HO (So HN (Xs 77 [1,3,53,54,77] (So nk .ret)))))) (.ops HM))))
def xu:RC:=yr
def r50:RC:=(So UO (So UN (Sq (So UM (Bk 0 (So UL (Kc 18 (Kk [1,3,17,18] (So vR .ret)) (Kk [18] (So UK (Kc 20 (Kk [17,20] (Sq (.flt [0,1,0,7,15] [124] UJ [22,23,24,25]) (Xs 26 [1,3,26] (So nk .ret)))) (Kk [20] (So UI (Kc 27 (Kk [17,27] (Sq (So UH (Xs 32 [1,3,32] (So nk .ret))) (So HY (Bk 1 (.loop xw))))) (Kk [27] (Sq (So HT (Kc 47 (Kk [17] .skip) (Kk [47] (.ops HS)))) (Xr 47 [1,3,47] (So nk .ret)))))))))))))) (Sq (So HR (Bk 3 (.loop xu))) (So vR .ret)))))
def F50:FnC:=⟨r50,79,[.tmp 2],[],[]⟩
def NR:RC:=(So DZ (Sq (Xr 9 [0,1,7,8,9] (.exit 0)) (Sq (Bk 1 (So Nv (So Nu (Kc 16 (Kk [0,1,7,8,16] (So Nt .ret)) (Kk [5,16] .skip))))) (.ops Ns))))
def Np:RC:=NR
def r51:RC:=(So qb (Sq (So Nw (Bk 0 (.loop Np))) (So og .ret)))
def F51:FnC:=⟨r51,19,[.tmp 4],[],[]⟩
def UG:La:=[oo 4 (Lt 4 2) [2],Wv 5 3 1,Wd 6 5,Ws 7 53 4 6,Wa 3 7]
def r52:RC:=(So Nq (So UG .ret))
def F52:FnC:=⟨r52,8,[.tmp 3],[],[]⟩
def UF:La:=[WF 2 0,WN 4 false]
def UE:La:=[on 8 (Lt 4 2),Wm 9 90 8,Wb 10 .neq 9 0]
def UD:La:=[Wg 11 0 2,Wd 12 11]
def UC:La:=[WC 14 .eql 12 2,Wa 13 14]
def UB:La:=[Wa 15 1,W6 16 15,Wv 17 1 2,Wd 18 17,We 19 .eql 16 18,Wa 4 19]
def UA:La:=[WC 21 .eql 12 3,Wa 20 21]
def Uz:La:=[Wv 22 1 2,Wd 23 22,Wa 24 1,Ws 25 92 23 24,Wa 4 25]
def Uy:La:=[Wb 27 .eql 12 4,Wa 26 27]
def Ux:La:=[Wa 29 1,W6 30 29,Wg 31 1 2,Wd 32 31,Ws 33 93 30 32,Wa 28 33,WE 34 28 0,WO 35 28 1,Wa 5 34,Wa 6 35]
def HK:La:=[Wa 36 5,Wm 37 94 36,Wa 7 37]
def HJ:La:=[Wa 38 6,Wa 39 38,.grp 39 true [(xi 40 39 true (Mv 7)),(xi 41 39 true (Fa 2 2)),(xi 42 39 true (Ld 41)),(xi 43 39 true (Bb .geq 40 42))] [40,41,42],Wr 44 39 43,Wa 45 44,.grp 45 true [(xi 46 45 true (Mv 7)),(xi 47 45 true (Fa 3 2)),(xi 48 45 true (Ld 47)),(xi 49 45 true (Bb .leq 46 48))] [2,7,46,47,48],Wr 50 45 49,Wa 4 50]
def r53:RC:=(So UF (Sq (So UE (Xs 10 [1,2,10] (So od .ret))) (Sq (So UD (Bk 0 (So UC (Kc 13 (Kk [12,13] (So UB .ret)) (Kk [13] (So UA (Kc 20 (Kk [12,20] (So Uz .ret)) (Kk [20] (So Uy (Kc 26 (Kk [26] (So Ux (So HK (So HJ .ret)))) (Kk [1,2,26] .skip))))))))))) (So vX .ret))))
def F53:FnC:=⟨r53,51,[.tmp 4],[],[]⟩
def No:La:=[Wa 3 0]
def Uw:La:=[WC 5 .eql 3 1,Wa 4 5]
def Uv:La:=[WC 7 .eql 3 2,Wa 6 7]
def Uu:La:=[WC 9 .eql 3 3,Wa 8 9]
def Ut:La:=[Wh 2 8]
def Us:La:=[Wb 11 .eql 3 4,Wa 10 11]
def Ur:La:=[Wh 2 9]
def r55:RC:=(So kZ (Sq (So No (Bk 0 (So Uw (Kc 4 (Kk [3,4] (So i5 .ret)) (Kk [4] (So Uv (Kc 6 (Kk [3,6] (So p9 .ret)) (Kk [6] (So Uu (Kc 8 (Kk [3,8] (So Ut .ret)) (Kk [8] (So Us (Xs 10 [10] (So Ur .ret)))))))))))))) (So vS .ret)))
def F55:FnC:=⟨r55,12,[.tmp 2],[],[]⟩
def oc:La:=[W9 4]
def Uq:La:=[Wa 5 0,.tks (xs 6 (.s2b (.t 5))) [5],on 7 (.litB [(.c (.u8 32))]),Wx 8 1 6 7,Wa 9 1,Wm 10 97 9,Wx 11 1 8 10,Wa 4 11]
def r56:RC:=(So oc (So Uq .ret))
def F56:FnC:=⟨r56,12,[.tmp 4],[],[]⟩
def Up:La:=[Wt 4 7 1,Wm 5 101 4,Wa 3 5]
def Uo:La:=[om 6 3,Wi 7 6,Wb 8 .eql 7 0]
def Un:La:=[Wa 9 3,WV 10 1 9,oo 11 (Ca 102 [ci 21,.t 10]) [10],Wa 2 11]
def r59:RC:=(So vV (So Up (Sq (So Uo (Xs 8 [3,8] (So vU .ret))) (So Un .ret))))
def F59:FnC:=⟨r59,12,[.tmp 2],[],[]⟩
def Um:La:=[WW 6 0,WN 7 false]
def Ul:La:=[om 12 0,Wi 13 12,Wa 8 13]
def Uk:La:=[om 14 8,Wh 9 0,Wa 10 14]
def Uj:La:=[om 15 9,om 16 10,We 17 .lss 15 16]
def Ui:La:=[om 18 9,om 19 10,We 20 .add 18 19,WP 21 20,oo 22 (.bin .shr (.t 21) (.c (.int .u64 1))) [21],oo 23 (.toInt .i64 (.t 22)) [22],Wa 11 23]
def Uh:La:=[om 24 2,om 25 0,om 26 11,WB 27 1 25 26,Wd 28 27,om 29 1,oo 30 (.call (.t 24) [.t 28,.t 29]) [24,28,29],Wb 31 .lss 30 0]
def Ug:La:=[Wa 32 11,Wb 33 .add 32 1,Wa 9 33]
def Uf:La:=[Wa 34 11,Wa 10 34]
def NQ:RC:=(Sq (So Uj (Xr 17 [10,17] (.exit 0))) (Bk 1 (So Ui (So Uh (Kc 31 (Kk [9,31] (.ops Ug)) (Kk [10,31] (.ops Uf)))))))
def Nn:RC:=NQ
def Ue:La:=[om 35 9,om 36 9,Wa 37 8,We 38 .lss 36 37,Wa 39 38,.grp 39 true [(xi 40 39 true (Mv 2)),(xi 41 39 true (Mv 0)),(xi 42 39 true (Mv 9)),(xi 43 39 true (Ia 1 41 42)),(xi 44 39 true (Ld 43)),(xi 45 39 true (Mv 1)),(xi 46 39 true (.call (.t 40) [.t 44,.t 45])),(xi 47 39 true (Bc .eql 46 0))] [0,1,2,9,40,41,42,43,44,45,46],Wr 48 39 47,Wa 6 35,Wa 7 48]
def r60:RC:=(So Um (So Ul (So Uk (Sq (Bk 0 (.loop Nn)) (So Ue .ret)))))
def F60:FnC:=⟨r60,49,[.tmp 6,.tmp 7],[],[]⟩
def Ud:La:=[om 6 5,om 7 0,Wi 8 7,We 9 .lss 6 8,Wa 10 9,.grp 10 true [(xi 11 10 true (Mv 5)),(xi 12 10 true (Mv 1)),(xi 13 10 true (Ln 12)),(xi 14 10 true (Bb .lss 11 13))] [11,12,13],Wr 15 10 14]
def Uc:Lb:=[Fm 0 18 0,Fm 1 19 5,Wo 2 20 1 18 19,Wc 3 21 20,Fm 4 22 1,Fm 5 23 5,Wo 6 24 1 22 23,Wc 7 25 24,Wf 8 26 .neq 21 25]
def Ub:Lb:=[Fm 0 27 0,Fm 1 28 5,Wo 2 29 1 27 28,Wc 3 30 29,Fm 4 31 1,Fm 5 32 5,Wo 6 33 1 31 32,Wc 7 34 33,Wf 8 35 .lss 30 34,Fm 9 4 35]
def Nm:La:=[Wa 16 5,Wb 17 .add 16 1,Wa 5 17]
def NP:RC:=(Sq (So Ud (Xr 15 [5,15] (.exit 0))) (Sq (Bk 1 (Sq (.flt [0,0,3,7,0,0,48,112,255] [] Uc [18,19,20,21,22,23,24,25]) (Xs 26 [26] (Sq (.flt [0,0,3,7,0,0,48,112,255,511] [] Ub [0,1,5,27,28,29,30,31,32,33,34,35]) .ret)))) (.ops Nm)))
def Nl:RC:=NP
def Ua:La:=[Wa 36 0,Wi 37 36,Wa 38 1,Wi 39 38,We 40 .lss 37 39,Wa 4 40]
def r63:RC:=(So qa (Sq (So tc (Bk 0 (.loop Nl))) (So Ua .ret)))
def F63:FnC:=⟨r63,41,[.tmp 4],[],[]⟩
def T9:La:=[W8 4]
def T8:Lb:=[Fm 0 7 1,Fm 2 9 0,Fm 5 12 0,Fz 1 8 (Ca 108 []),WT 3 10 37 9 5,Fs 4 11 (.idxA 5 1 false (.t 8) (.t 10)),WT 6 13 37 12 5,Fs 7 14 (.build Zq0 [(0,1,(.t 7)),(1,1,(.t 11)),(2,1,(.t 13))]),Fz 8 5 (.new (.rc Zq0)),Fr 9 4 5 14]
def T7:La:=[om 15 0,WK 16 37 15 9,Wb 17 .eql 16 8]
def T6:La:=[om 18 0,WK 19 37 18 3,WS 20 .sub 1000000 19,Wg 21 2 5,WJ 1 21 20]
def T5:La:=[Wa 22 1,Wb 23 .eql 22 4]
def T4:La:=[Wa 24 0,Wm 25 109 24,Wg 26 3 5,WJ 1 26 25]
def T3:La:=[Wt 27 4 5,Sr 4 4 27 [27]]
def T2:La:=[om 28 0,WK 29 37 28 7,oo 30 (.mkB (.t 29) (.t 29)) [29],Wg 31 3 5,WJ 1 31 30]
def DX:La:=[Wh 6 0]
def T1:La:=[om 32 6,Wg 33 3 5,Wd 34 33,Wi 35 34,We 36 .lss 32 35]
def HI:Lb:=[Wj 0 39 3 5,Wc 1 40 39,Fm 2 41 6,Fm 3 42 0,WT 4 43 37 42 256,Xb 5 44 43,Wo 6 45 1 40 41,Fr 7 1 45 44]
def HH:La:=[Wa 37 6,Wb 38 .add 37 1,Wa 6 38]
def yq:RC:=(Sq (So T1 (Xr 36 [0,6,36] (.exit 0))) (Sq (Bk 1 (.flt [0,1,0,0,8,24,63,127] [] HI [39,40,41,42,43,44,45])) (.ops HH)))
def s6:RC:=yq
def HG:La:=[Wt 46 4 5,Sr 4 4 46 [46]]
def r65:RC:=(So T9 (Sq (.fla [0,0,0,6,14,0,46,127,0,511] [105] T8 [[0,2,5,1,3,4,6,7,8,9],[0,2,5,1,3,4,8,6,7,9],[0,2,5,1,8,3,4,6,7,9],[0,2,5,8,1,3,4,6,7,9]] [7,8,9,10,11,12,13,14]) (Sq (So T7 (Xs 17 [17] (.ops T6))) (Sq (So T5 (Xs 23 [23] (So T4 (So T3 .ret)))) (So T2 (Sq (So DX (Bk 0 (.loop s6))) (So HG .ret)))))))
def F65:FnC:=⟨r65,47,[.cell 4 4 true],[],[]⟩
def T0:La:=[Wg 4 0 1,Wd 5 4,Wb 6 .lss 5 1,Wa 7 6,.grp 7 false [(xi 8 7 false (Fa 0 1)),(xi 9 7 false (Ld 8)),(xi 10 7 false (Bc .gtr 9 4))] [8,9],Wn 11 7 10,Wa 12 11,.grp 12 false [(xi 13 12 false (Fa 2 1)),(xi 14 12 false (Ld 13)),(xi 15 12 false (Bc .lss 14 0))] [13,14],Wn 16 12 15,Wa 17 16,.grp 17 false [(xi 18 17 false (Fa 2 1)),(xi 19 17 false (Ld 18)),(xi 20 17 false (Bc .gtr 19 1000000))] [18,19],Wn 21 17 20,Wa 3 21]
def TZ:La:=[Wg 23 1 1,Wd 24 23,Wm 25 111 24,WR 26 25,Wa 22 26]
def TY:La:=[Wg 28 3 1,Wd 29 28,Wi 30 29,Wb 31 .gtr 30 64,Wa 27 31]
def TX:La:=[Wg 33 0 1,Wd 34 33,Wb 35 .eql 34 4,Wa 36 35,.grp 36 true [(xi 37 36 true (Lt 4 1)),(xi 38 36 true (Ca 112 [.t 37])),(xi 39 36 true (Ln 38)),(xi 40 36 true (Bc .eql 39 0))] [1,37,38,39],Wr 41 36 40,Wa 32 41]
def DW:La:=[Wh 2 40]
def r68:RC:=(So s8 (Sq (Bk 0 (So T0 (Kc 3 (Kk [1,3] (So jE .ret)) (Kk [3] (So TZ (Kc 22 (Kk [1,22] (So vT .ret)) (Kk [22] (So TY (Kc 27 (Kk [1,27] (So p9 .ret)) (Kk [27] (So TX (Xs 32 [32] (So DW .ret))))))))))))) (So i5 .ret)))
def F68:FnC:=⟨r68,42,[.tmp 2],[],[]⟩
def TW:La:=[Wa 9 0]
def TV:La:=[WC 11 .eql 9 0,Wa 10 11]
def TU:La:=[on 12 (.build [.int .u32 0,.int .u32 0,.int .u32 0,.int .u32 0,.int .u32 0] [(0,1,(.c (.int .u32 1732584193))),(1,1,(.c (.int .u32 4023233417))),(2,1,(.c (.int .u32 2562383102))),(3,1,(.c (.int .u32 271733878))),(4,1,(.c (.int .u32 3285377520)))]),on 5 (.new (.arr 1 (au 5 [.int .u32 0]))),Sr 5 5 12 [12]]
def TT:La:=[Wa 13 1,Wm 14 113 13,Wa 6 14]
def TS:La:=[om 15 6,Wi 16 15,Wb 17 .gtr 16 0]
def TR:La:=[om 20 6,Xm 21 1 20 64,oo 22 (Ca 114 [.t 5,.t 21]) [21,22]]
def TQ:La:=[Wa 18 6,oo 19 (.slcL 1 (.t 18) (some (ci 64)) none none) [18],Wa 6 19]
def NO:RC:=(Sq (So TS (Xr 17 [6,17] (.exit 1))) (Sq (Bk 2 (.ops TR)) (.ops TQ)))
def Nk:RC:=NO
def TP:La:=[oo 23 (.slcA 5 1 (.t 5) none none none) [5],Wm 24 115 23,Wa 4 24]
def HF:La:=[Wb 26 .eql 9 1,Wa 25 26]
def HE:La:=[on 27 (.build [.int .u32 0,.int .u32 0,.int .u32 0,.int .u32 0,.int .u32 0,.int .u32 0,.int .u32 0,.int .u32 0] [(0,1,(.c (.int .u32 1779033703))),(1,1,(.c (.int .u32 3144134277))),(2,1,(.c (.int .u32 1013904242))),(3,1,(.c (.int .u32 2773480762))),(4,1,(.c (.int .u32 1359893119))),(5,1,(.c (.int .u32 2600822924))),(6,1,(.c (.int .u32 528734635))),(7,1,(.c (.int .u32 1541459225)))]),on 7 (.new (.arr 1 (au 8 [.int .u32 0]))),Wu 8 7 27]
def HD:La:=[Wa 28 1,Wm 29 113 28,Wa 8 29]
def HC:La:=[om 30 8,Wi 31 30,Wb 32 .gtr 31 0]
def HB:La:=[om 35 8,Xm 36 1 35 64,oo 37 (Ca 116 [.t 7,.t 36]) [36,37]]
def Hz:La:=[Wa 33 8,oo 34 (.slcL 1 (.t 33) (some (ci 64)) none none) [33],Wa 8 34]
def yp:RC:=(Sq (So HC (Xr 32 [8,32] (.exit 3))) (Sq (Bk 4 (.ops HB)) (.ops Hz)))
def xq:RC:=yp
def Hy:La:=[oo 38 (.slcA 8 1 (.t 7) none none none) [7],Wm 39 115 38,Wa 4 39]
def pJ:La:=[on 4 (.mov (.c (.byt [] .clip)))]
def r69:RC:=(So oc (Sq (So TW (Bk 0 (So TV (Kc 10 (Kk [9,10] (So TU (Sq (So TT (Bk 1 (.loop Nk))) (So TP .ret)))) (Kk [10] (So HF (Kc 25 (Kk [25] (So HE (Sq (So HD (Bk 3 (.loop xq))) (So Hy .ret)))) (Kk [1,25] .skip)))))))) (So pJ .ret)))
def F69:FnC:=⟨r69,40,[.tmp 4],[],[]⟩
def TO:La:=[on 4 (Lt 4 1),Wm 5 68 4,Wb 6 .neq 5 0]
def TN:La:=[Wg 7 0 1,Wd 8 7,oo 9 (Ca 117 [(.c (.byt [] .clip)),ci 1,.t 8]) [8],Wa 3 9]
def TL:La:=[Wa 10 3,Wg 11 2 1,Wd 12 11,W5 13 117 10 4 12,Wa 3 13]
def TK:La:=[Wa 14 3,Wg 15 1 1,Wd 16 15,Xa 17 16,Ws 18 118 14 17,Wa 3 18]
def TJ:La:=[Wa 19 3,Wv 20 3 1,Wd 21 20,Ws 22 118 19 21,Wa 2 22]
def r70:RC:=(So vV (Sq (So TO (Xs 6 [1,6] (So vU .ret))) (So TN (So TL (So TK (So TJ .ret))))))
def F70:FnC:=⟨r70,23,[.tmp 2],[],[]⟩
def TI:La:=[om 5 0,Wi 6 5,Wa 4 6]
def TH:La:=[Wa 7 0,om 8 4,Wa 9 4,WP 10 9,Wm 11 120 10,Wa 12 1,oo 13 (Ca 119 [.t 7,ci 0,.t 8,.t 11,.t 12]) [7,8,11,12,13]]
def r71:RC:=(So TI (.ops TH))
def F71:FnC:=⟨r71,14,[],[],[]⟩
def TG:Lb:=[Wj 0 5 0 2,Wc 1 6 5,Wj 2 7 0 3,Wc 3 8 7,Wj 5 10 1 2,Wc 6 11 10,Wj 7 12 1 3,Wc 8 13 12,Wj 10 15 2 2,Wc 11 16 15,Wj 12 17 2 3,Wc 13 18 17,Wj 15 20 3 2,Wc 16 21 20,Wj 17 22 3 3,Wc 18 23 22,WI 4 9 122 6 8,WI 9 14 123 11 13,WI 14 19 122 16 18,WI 19 24 61 21 23,Fs 20 25 (.lit 1 [.t 9,.t 14,.t 19,.t 24]),Fz 21 26 (Ca 121 [.t 25]),Fm 22 4 26]
def r72:RC:=(So NE (Sq (.flt [0,1,0,4,15,0,32,0,128,511,0,1024,0,4096,16383,0,32768,0,131072,524287,1048575,2097151,4194303] [] TG [2,3,5,6,7,8,9,10,11,12,13,14,15,16,17,18,19,20,21,22,23,24,25,26]) .ret))
def F72:FnC:=⟨r72,27,[.tmp 4],[],[]⟩
def TF:La:=[om 8 0,Wi 9 8,Wb 10 .lss 9 2]
def TE:La:=[Wa 11 0,Wa 4 11]
def TD:La:=[om 12 5,om 13 0,Wi 14 13,We 15 .lss 12 14]
def TC:Lb:=[Fm 0 18 1,Fm 1 19 0,Fm 2 20 5,Wo 3 21 4 19 20,Fs 4 22 (Lt 4 21),Fm 5 23 0,Fm 6 24 5,Wp 7 25 .sub 24 1,Wo 8 26 4 23 25,Fs 9 27 (Lt 4 26),Fz 10 28 (.call (.t 18) [.t 22,.t 27])]
def TB:La:=[om 29 0,om 30 5,Xn 31 4 29 30,Wa 6 31]
def TA:La:=[Wh 7 1]
def Tz:La:=[om 32 7,om 33 6,Wi 34 33,We 35 .lss 32 34]
def Ty:Lb:=[Fm 0 38 1,Fm 1 39 6,Fm 2 40 7,Wo 3 41 4 39 40,Fs 4 42 (Lt 4 41),Fm 5 43 6,Fm 6 44 7,Wp 7 45 .sub 44 1,Wo 8 46 4 43 45,Fs 9 47 (Lt 4 46),Fz 10 48 (.call (.t 38) [.t 42,.t 47]),Fs 11 49 (.un .not (.t 48))]
def Hx:La:=[om 50 0,om 51 5,om 52 6,om 53 7,WB 54 4 52 53,Wt 55 4 54,WB 56 4 50 51,WJ 4 56 55]
def Hw:La:=[Wa 57 5,Wb 58 .add 57 1,Wa 5 58]
def Hv:La:=[Wa 36 7,Wb 37 .add 36 1,Wa 7 37]
def yo:RC:=(Sq (So Tz (Xr 35 [1,6,7,35] (.exit 2))) (Sq (Bk 3 (Sq (.flt [0,0,0,6,14,0,0,64,224,480,1023,2047] [] Ty [38,39,40,41,42,43,44,45,46,47,48]) (Xs 49 [49] (So Hx (.ops Hw))))) (.ops Hv)))
def xo:RC:=yo
def Hu:La:=[om 59 0,om 60 5,Xn 61 4 59 60,.op ⟨none,none,.clr [.int .i64 0,.str [],.int .i64 0,(.byt [] .no)] (.t 61)⟩ [61]]
def Ht:La:=[Wa 62 0,Wa 63 5,Xl 64 4 62 63,Wa 4 64]
def yn:RC:=(Sq (So TD (Xr 15 [1,5,15] (.exit 0))) (Sq (Bk 1 (Sq (.flt [0,0,0,6,14,0,0,64,224,480,1023] [] TC [18,19,20,21,22,23,24,25,26,27]) (Xs 28 [28] (So TB (Sq (So TA (Bk 2 (.loop xo))) (So Hu (So Ht .ret))))))) (.ops Nm)))
def sZ:RC:=yn
def Hs:La:=[Wa 65 0,Wa 4 65]
def r73:RC:=(So Ny (Sq (So TF (Xs 10 [1,10] (So TE .ret))) (Sq (So NC (Bk 0 (.loop sZ))) (So Hs .ret))))
def F73:FnC:=⟨r73,66,[.tmp 4],[],[0]⟩
def Nj:La:=[WF 2 0,WF 3 1,WN 4 false]
def Tx:La:=[Wt 5 4 2,Wt 6 4 3,Ws 7 72 5 6,Wb 8 .eql 7 0,Wa 4 8]
def r74:RC:=(So Nj (So Tx .ret))
def F74:FnC:=⟨r74,9,[.tmp 4],[],[]⟩
def Tw:La:=[om 8 0,Wi 9 8,Wb 10 .eql 9 0,Wa 11 10,.grp 11 false [(xi 12 11 false (Mv 0)),(xi 13 11 false (Ln 12)),(xi 14 11 false (Bc .gtr 13 8))] [12,13],Wn 15 11 14]
def Tv:La:=[WD 3 false,WD 4 false]
def Tu:La:=[om 16 5,om 17 0,Wi 18 17,We 19 .lss 16 18]
def Tt:La:=[om 22 0,om 23 5,WB 24 4 22 23,Wt 25 4 24,Wm 26 81 25,Wa 6 26]
def Ts:La:=[om 27 6,Wb 28 .neq 27 0]
def Tr:La:=[Wa 29 6,Wa 2 29]
def Tq:Lb:=[Fm 0 30 5,Wp 1 31 .gtr 30 0,Fm 2 32 31,Wq 3 33 32 true 0,Wq 4 34 32 true 5,Fi 5 35 32 true (Ia 4 33 34),Wz 6 36 32 true 0 35,Ww 7 37 32 true 36,Wq 8 38 32 true 0,Wq 9 39 32 true 5,Fi 10 40 32 true (Bc .sub 39 1),Fi 11 41 32 true (Ia 4 38 40),Wz 12 42 32 true 0 41,Ww 13 43 32 true 42,Fi 14 44 32 true (Bb .lss 37 43),Fs 15 45 (Pf 32 44)]
def Hr:La:=[om 46 7,om 47 5,We 48 .lss 46 47]
def Hq:Lb:=[Fm 0 51 0,Fm 1 52 7,Wo 2 53 4 51 52,Wj 3 54 0 53,Wc 4 55 54,Fm 5 56 0,Fm 6 57 5,Wo 7 58 4 56 57,Wj 8 59 0 58,Wc 9 60 59,Wf 10 61 .eql 55 60,Fm 11 62 61,Wq 12 63 62 true 0,Wq 13 64 62 true 7,Fi 14 65 62 true (Ia 4 63 64),Wz 15 66 62 true 1 65,Ww 16 67 62 true 66,Wq 17 68 62 true 0,Wq 18 69 62 true 5,Fi 19 70 62 true (Ia 4 68 69),Wz 20 71 62 true 1 70,Ww 21 72 62 true 71,Fi 22 73 62 true (Bb .eql 67 72),Fs 23 74 (Pf 62 73)]
def Hp:La:=[Wh 2 42]
def Ho:La:=[Wa 49 7,Wb 50 .add 49 1,Wa 7 50]
def ym:RC:=(Sq (So Hr (Xr 48 [7,48] (.exit 2))) (Sq (Bk 3 (Sq (.flt [0,0,3,7,15,0,0,96,224,480,1023,2047,4095,4095,16383,32767,65535,4095,4095,397311,921599,1970175,4194303,8388607] [] Hq [51,52,53,54,55,56,57,58,59,60,61,62,63,64,65,66,67,68,69,70,71,72,73]) (Xs 74 [0,3,4,5,7,74] (So Hp .ret)))) (.ops Ho)))
def xl:RC:=ym
def Hn:La:=[Wa 75 3,Wa 76 75,.grp 76 false [(xi 77 76 false (Mv 0)),(xi 78 76 false (Mv 5)),(xi 79 76 false (Ia 4 77 78)),(xi 80 76 false (Fa 0 79)),(xi 81 76 false (Ld 80)),(xi 82 76 false (Bc .eql 81 1))] [77,78,79,80,81],Wn 83 76 82,Wa 3 83]
def Hm:La:=[Wa 84 4,Wa 85 84,.grp 85 false [(xi 86 85 false (Mv 0)),(xi 87 85 false (Mv 5)),(xi 88 85 false (Ia 4 86 87)),(xi 89 85 false (Fa 0 88)),(xi 90 85 false (Ld 89)),(xi 91 85 false (Bc .eql 90 3))] [86,87,88,89,90],Wn 92 85 91,Wa 4 92]
def Hl:La:=[Wa 20 5,Wb 21 .add 20 1,Wa 5 21]
def yl:RC:=(Sq (So Tu (Xr 19 [0,5,19] (.exit 0))) (Sq (Bk 1 (Sq (So Tt (So Ts (Kc 28 (Kk [0,3,4,5,28] (So Tr .ret)) (Kk [6,28] .skip)))) (Sq (Sq (.flt [0,1,3,7,7,31,63,127,7,7,519,1799,3847,7943,16383,32767] [] Tq [30,31,32,33,34,35,36,37,38,39,40,41,42,43,44]) (Xs 45 [0,3,4,5,45] (So xx .ret))) (Sq (So vW (Bk 2 (.loop xl))) (So Hn (.ops Hm)))))) (.ops Hl)))
def sY:RC:=yl
def Hk:La:=[Wa 93 3,WR 94 93,Wa 95 94,.grp 95 false [(xi 96 95 false (Mv 4)),(xi 97 95 false (.un .not (.t 96)))] [4,96],Wn 98 95 97]
def r75:RC:=(So kZ (Sq (So Tw (Xs 15 [0,15] (So jE .ret))) (So Tv (Sq (So tc (Bk 0 (.loop sY))) (Sq (So Hk (Xs 98 [98] (So DW .ret))) (So i5 .ret))))))
def F75:FnC:=⟨r75,99,[.tmp 2],[],[]⟩
def Tp:La:=[W7 8]
def To:La:=[Wa 11 0,om 12 1,on 13 (.mk [(.byt [] .no)] 24 (ci 2) (ci 2)),om 14 3,oo 15 (.build Zq1 [(0,1,(.t 11)),(1,1,(.t 12)),(2,1,(.t 13)),(3,1,(.t 14))]) [11,12,13,14],W7 9,Wu 4 9 15]
def Tn:La:=[om 16 10,Wb 17 .lss 16 2]
def Tm:La:=[om 20 2,om 21 10,Ws 22 124 20 21,Wa 23 22,.grp 23 true [(xi 24 23 true (Mv 1)),(xi 25 23 true (Bc .neq 24 5))] [24],Wr 26 23 25]
def Tl:Lb:=[Wj 0 27 2 9,Wc 1 28 27,Fm 2 29 10,Fm 3 30 10,Fm 4 31 3,WI 5 32 99 30 31,Wo 6 33 1 28 29,Fr 7 1 33 32]
def Tk:La:=[Wa 18 10,Wb 19 .add 18 1,Wa 10 19]
def NN:RC:=(Sq (So Tn (Xr 17 [1,2,3,10,17] (.exit 0))) (Sq (Bk 1 (So Tm (Xs 26 [26] (.flt [0,1,0,0,0,24,63,127] [] Tl [27,28,29,30,31,32,33])))) (.ops Tk)))
def Tj:RC:=NN
def Ti:La:=[Wt 34 4 9,Wu 4 8 34]
def r76:RC:=(So Tp (So To (Sq (So xB (Bk 0 (.loop Tj))) (So Ti .ret))))
def F76:FnC:=⟨r76,35,[.cell 8 4 true],[],[]⟩
def Th:La:=[W9 0]
def Tg:La:=[on 1 (.litB [(.c (.u8 0)),(.c (.u8 0)),(.c (.u8 0)),(.c (.u8 0))]),Wa 0 1]
def r77:RC:=(So Th (So Tg .ret))
def F77:FnC:=⟨r77,2,[.tmp 0],[],[]⟩
def Tf:La:=[WF 2 0,W7 4]
def Te:La:=[on 5 (Lt 4 2),Wm 6 81 5,Wb 7 .neq 6 0,Wa 8 7,.grp 8 false [(xi 9 8 false (Fa 0 2)),(xi 10 8 false (Ld 9)),(xi 11 8 false (Bc .eql 10 4))] [9,10],Wn 12 8 11]
def Td:La:=[on 13 (.build Zq1 []),Sr 4 4 13 [13]]
def Tc:Lb:=[Wj 0 14 0 2,Wc 1 15 14,Fs 3 17 (Lt 4 2),Fm 4 18 1,Wj 6 20 1 2,Wc 7 21 20,Wj 8 22 2 2,Wc 9 23 22,Fz 2 16 (Ca 55 [.t 15]),WI 5 19 125 17 18,WI 10 24 56 21 23,Fs 11 25 (.build Zq1 [(0,1,(.t 16)),(1,1,(ci 1)),(2,1,(.t 19)),(3,1,(.t 24))]),Fr 12 4 4 25]
def r78:RC:=(So Tf (Sq (So Te (Xs 12 [1,2,12] (So Td .ret))) (Sq (.flt [0,1,3,0,0,31,0,64,0,256,1023,2047,4095] [] Tc [1,2,14,15,16,17,18,19,20,21,22,23,24,25]) .ret)))
def F78:FnC:=⟨r78,26,[.cell 4 4 true],[],[]⟩
def Ni:La:=[WF 1 0,Xj 2]
def Nh:La:=[Xk 3]
def Tb:La:=[om 7 5,Wg 8 3 1,Wd 9 8,Wi 10 9,We 11 .lss 7 10]
def Ta:La:=[Wg 14 3 1,Wd 15 14,om 16 5,WB 17 1 15 16,Wd 18 17,Wa 6 18]
def S9:La:=[om 19 6,oo 20 (.bin .eql (.t 19) (.c (.u8 10))) [19]]
def S8:La:=[om 21 4,Wi 22 21,Wb 23 .eql 22 0,Wa 24 23,.grp 24 false [(xi 25 24 false (Mv 3)),(xi 26 24 false (Ln 25)),(xi 27 24 false (Bc .geq 26 4))] [25,26],Wn 28 24 27]
def vQ:La:=[Xk 2]
def S7:La:=[Wa 29 3,Wa 30 4,WV 31 1 30,oo 32 (.app [.byt [] .clip] 24 (.t 29) (.t 31)) [29,31],Wa 3 32]
def Hj:La:=[om 33 6,Xe 34 .lss 33,Wa 35 34,.grp 35 false [(xi 36 35 false (Mv 6)),(xi 37 35 false (.bin .gtr (.t 36) (.c (.u8 126))))] [36],Wn 38 35 37]
def Hi:La:=[Wa 39 4,Wa 40 6,WX 41 40,Wx 42 1 39 41,Wa 4 42]
def Hh:La:=[Wa 12 5,Wb 13 .add 12 1,Wa 5 13]
def yk:RC:=(.post (Sq (So Tb (Xr 11 [1,5,11] (.exit 0))) (Sq (Bk 1 (So Ta (Sq (So S9 (Xs 20 [6,20] (Sq (So S8 (Xs 28 [1,3,4,5,28] (So vQ .ret))) (So S7 (So pJ (.exit 1)))))) (Sq (So Hj (Xs 38 [1,3,4,5,6,38] (So vQ .ret))) (.ops Hi))))) (.ops Hh))) [.tok 3 103,.tok 4 104])
def xk:RC:=yk
def Hg:La:=[Wa 43 4,Wi 44 43,Wb 45 .gtr 44 0]
def Hf:La:=[Wa 46 3,Wa 2 46]
def r79:RC:=(So Ni (So Nh (So pJ (Sq (So tc (Bk 0 (.pre [.tok 3 103,.tok 4 104] (.loop xk)))) (Sq (So Hg (Xs 45 [3,45] (So vQ .ret))) (So Hf .ret))))))
def F79:FnC:=⟨r79,47,[.tmp 2],[],[]⟩
def lN:La:=[W9 2]
def S6:La:=[on 18 (Ca 126 []),Xf 3,Wu 64 3 18]
def S5:La:=[.own (xs 19 (.lit 1 [(.c (.int .u32 1779033703)),(.c (.int .u32 3144134277)),(.c (.int .u32 1013904242)),(.c (.int .u32 2773480762)),(.c (.int .u32 1359893119)),(.c (.int .u32 2600822924)),(.c (.int .u32 528734635)),(.c (.int .u32 1541459225))])) [],Wa 4 19]
def S4:La:=[Wa 20 0,Wm 21 127 20,Wa 5 21]
def S3:La:=[om 22 6,om 23 5,Wi 24 23,We 25 .lss 22 24]
def S2:La:=[Xf 7]
def S1:La:=[om 28 8,Wb 29 .lss 28 64]
def S0:La:=[om 32 8,Wb 33 .lss 32 16]
def He:La:=[om 34 8,om 35 5,om 36 6,om 37 6,Wb 38 .add 37 64,oo 39 (.slcL 1 (.t 35) (some (.t 36)) (some (.t 38)) none) [35,36,38],om 40 8,Ws 41 128 39 40,oo 42 (.iaddrA 64 1 (.t 7) (.t 34)) [34],WJ 1 42 41]
def Hd:Lb:=[Fm 0 43 8,Wp 1 44 .sub 43 15,WG 2 45 7 44,Wc 3 46 45,Fm 5 48 8,Wp 6 49 .sub 48 15,WG 7 50 7 49,Wc 8 51 50,Fm 11 54 8,Wp 12 55 .sub 54 15,WG 13 56 7 55,Wc 14 57 56,Fs 15 58 (.bin .shr (.t 57) (.c (.int .u64 3))),Fz 4 47 (Ca 129 [.t 46,(.c (.int .u64 7))]),Fz 9 52 (Ca 129 [.t 51,(.c (.int .u64 18))]),Wf 10 53 .xor 47 52,Wf 16 59 .xor 53 58,Fm 17 9 59]
def Hc:Lb:=[Fm 0 60 8,Wp 1 61 .sub 60 2,WG 2 62 7 61,Wc 3 63 62,Fm 5 65 8,Wp 6 66 .sub 65 2,WG 7 67 7 66,Wc 8 68 67,Fm 11 71 8,Wp 12 72 .sub 71 2,WG 13 73 7 72,Wc 14 74 73,Fs 15 75 (.bin .shr (.t 74) (.c (.int .u64 10))),Fz 4 64 (Ca 129 [.t 63,(.c (.int .u64 17))]),Fz 9 69 (Ca 129 [.t 68,(.c (.int .u64 19))]),Wf 10 70 .xor 64 69,Wf 16 76 .xor 70 75,Fm 17 10 76]
def Hb:Lb:=[Fm 0 77 8,Fm 1 78 10,Fm 2 79 8,Wp 3 80 .sub 79 7,WG 4 81 7 80,Wc 5 82 81,Wf 6 83 .add 78 82,Fm 7 84 9,Wf 8 85 .add 83 84,Fm 9 86 8,Wp 10 87 .sub 86 16,WG 11 88 7 87,Wc 12 89 88,Wf 13 90 .add 85 89,WG 14 91 7 77,Fr 15 1 91 90]
def Ha:La:=[Wa 30 8,Wb 31 .add 30 1,Wa 8 31]
def yj:RC:=(Sq (So S1 (Xr 29 [8,29] (.exit 2))) (Sq (Bk 3 (Sq (So S0 (Xs 33 [33] (So He (.exit 3)))) (Sq (.flt [0,1,3,7,15,0,32,96,224,511,1023,0,2048,6144,14336,30720,65535,131071] [] Hd [43,44,45,46,47,48,49,50,51,52,53,54,55,56,57,58,59]) (Sq (.flt [0,1,3,7,15,0,32,96,224,511,1023,0,2048,6144,14336,30720,65535,131071] [] Hc [60,61,62,63,64,65,66,67,68,69,70,71,72,73,74,75,76]) (.flt [0,0,0,4,12,28,62,0,254,0,512,1536,3584,8190,16383,32767] [] Hb [9,10,77,78,79,80,81,82,83,84,85,86,87,88,89,90,91]))))) (.ops Ha)))
def xj:RC:=yj
def G9:La:=[on 92 (.lit 1 []),om 93 4,oo 94 (.app [.int .u32 0] 4 (.t 92) (.t 93)) [92,93],Wa 11 94]
def G8:La:=[Wh 12 0]
def G7:La:=[om 95 12,Wb 96 .lss 95 64]
def G6:Lb:=[Fm 0 99 11,Wy 1 100 1 99 0,Wc 2 101 100,Fm 3 102 11,Wy 4 103 1 102 4,Wc 5 104 103,Fm 6 13 101,Fm 7 14 104]
def G5:Lb:=[Fm 0 105 11,Wy 1 106 1 105 7,Wc 2 107 106,Fm 3 108 14,Fm 5 110 14,Fm 8 113 14,Fm 12 117 14,Fm 13 118 11,Wy 14 119 1 118 5,Wc 15 120 119,Wf 16 121 .and 117 120,Fm 17 122 14,Fs 18 123 (.un .xor (.t 122)),Fm 19 124 11,Wy 20 125 1 124 6,Wc 21 126 125,Wf 22 127 .and 123 126,Wf 23 128 .xor 121 127,Fm 25 130 12,WG 26 131 3 130,Wc 27 132 131,Fm 29 134 12,WG 30 135 7 134,Wc 31 136 135,Fz 4 109 (Ca 129 [.t 108,(.c (.int .u64 6))]),Fz 6 111 (Ca 129 [.t 110,(.c (.int .u64 11))]),Wf 7 112 .xor 109 111,Fz 9 114 (Ca 129 [.t 113,(.c (.int .u64 25))]),Wf 10 115 .xor 112 114,Wf 11 116 .add 107 115,Wf 24 129 .add 116 128,Wf 28 133 .add 129 132,Wf 32 137 .add 133 136,Fm 33 15 137]
def G4:Lb:=[Fm 0 138 13,Fm 2 140 13,Fm 5 143 13,Fm 8 146 13,Fm 9 147 11,Wy 10 148 1 147 1,Wc 11 149 148,Wf 12 150 .and 146 149,Fm 13 151 13,Fm 14 152 11,Wy 15 153 1 152 2,Wc 16 154 153,Wf 17 155 .and 151 154,Wf 18 156 .xor 150 155,Fm 19 157 11,Wy 20 158 1 157 1,Wc 21 159 158,Fm 22 160 11,Wy 23 161 1 160 2,Wc 24 162 161,Wf 25 163 .and 159 162,Wf 26 164 .xor 156 163,Fz 1 139 (Ca 129 [.t 138,(.c (.int .u64 2))]),Fz 3 141 (Ca 129 [.t 140,(.c (.int .u64 13))]),Wf 4 142 .xor 139 141,Fz 6 144 (Ca 129 [.t 143,(.c (.int .u64 22))]),Wf 7 145 .xor 142 144,Wf 27 165 .add 145 164,Fm 28 16 165]
def G3:Lb:=[Fm 0 166 15,Fm 1 167 16,Wf 2 168 .add 166 167,Fm 3 169 13,Fm 4 170 11,Wy 5 171 1 170 1,Wc 6 172 171,Fm 7 173 11,Wy 8 174 1 173 2,Wc 9 175 174,Fm 10 176 11,Wy 11 177 1 176 3,Wc 12 178 177,Fm 13 179 15,Wf 14 180 .add 178 179,Fm 15 181 14,Fm 16 182 11,Wy 17 183 1 182 5,Wc 18 184 183,Fm 19 185 11,Wy 20 186 1 185 6,Wc 21 187 186,Fs 22 188 (.lit 1 [.t 168,.t 169,.t 172,.t 175,.t 180,.t 181,.t 184,.t 187]),⟨23,false,(xm 11 188)⟩]
def G2:La:=[Wa 97 12,Wb 98 .add 97 1,Wa 12 98]
def yi:RC:=(Sq (So G7 (Xr 96 [7,12,96] (.exit 4))) (Sq (Bk 5 (Sq (.flt [0,1,3,0,8,24,7,127] [] G6 [99,100,101,102,103,104]) (Sq (.flt [0,1,3,0,8,0,56,120,0,376,1016,2047,0,0,8192,24576,61440,0,131072,0,524288,1572864,4063232,8384512,16777215,0,33554432,100663296,268435455,0,536870912,1610612736,4294967295,8589934591] [] G5 [105,106,107,108,109,110,111,112,113,114,115,116,117,118,119,120,121,122,123,124,125,126,127,128,129,130,131,132,133,134,135,136,137]) (Sq (.flt [0,1,0,7,15,0,47,127,0,0,512,1536,3840,0,0,16384,49152,122880,261888,0,524288,1572864,0,4194304,12582912,33030144,67108608,134217727,268435455] [] G4 [138,139,140,141,142,143,144,145,146,147,148,149,150,151,152,153,154,155,156,157,158,159,160,161,162,163,164,165]) (.flt [0,0,3,0,0,16,48,0,128,384,0,1024,3072,0,15360,0,0,65536,196608,0,524288,1572864,4194303,8388607] [] G3 [13,14,15,16,166,167,168,169,170,171,172,173,174,175,176,177,178,179,180,181,182,183,184,185,186,187,188]))))) (.ops G2)))
def xh:RC:=yi
def xg:La:=[Wh 17 0]
def G1:La:=[om 189 17,Wb 190 .lss 189 8]
def GZ:Lb:=[Fm 0 193 4,Fm 1 194 17,Wo 2 195 1 193 194,Wc 3 196 195,Fm 4 197 11,Fm 5 198 17,Wo 6 199 1 197 198,Wc 7 200 199,Wf 8 201 .add 196 200,Wo 9 202 1 193 194,Fr 10 1 202 201]
def GY:La:=[Wa 191 17,Wb 192 .add 191 1,Wa 17 192]
def yh:RC:=(Sq (So G1 (Xr 190 [11,17,190] (.exit 6))) (Sq (Bk 7 (.flt [0,0,3,7,0,0,48,112,255,511,1023] [] GZ [193,194,195,196,197,198,199,200,201,202])) (.ops GY)))
def xf:RC:=yh
def GX:La:=[Wa 26 6,Wb 27 .add 26 64,Wa 6 27]
def yg:RC:=(.post (Sq (So S3 (Xr 25 [3,5,6,25] (.exit 0))) (Sq (Bk 1 (So S2 (Sq (So ta (Bk 2 (.loop xj))) (So G9 (Sq (So G8 (Bk 4 (.loop xh))) (So xg (Bk 6 (.loop xf)))))))) (.ops GX))) [.gc [107,194]])
def xe:RC:=yg
def GV:La:=[Wa 203 4,Wm 204 130 203,Wa 2 204]
def r80:RC:=(So lN (So S6 (So S5 (So S4 (Sq (So DX (Bk 0 (.loop xe))) (So GV .ret))))))
def F80:FnC:=⟨r80,205,[.tmp 2],[],[]⟩
def SZ:La:=[Wg 3 0 1,Wd 4 3,Wb 5 .lss 4 1,Wa 6 5,.grp 6 false [(xi 7 6 false (Fa 0 1)),(xi 8 6 false (Ld 7)),(xi 9 6 false (Bc .gtr 8 4))] [7,8],Wn 10 6 9,Wa 11 10,.grp 11 false [(xi 12 11 false (Fa 2 1)),(xi 13 11 false (Ld 12)),(xi 14 11 false (Bc .lss 13 0))] [12,13],Wn 15 11 14,Wa 16 15,.grp 16 false [(xi 17 16 false (Fa 2 1)),(xi 18 16 false (Ld 17)),(xi 19 16 false (Bc .gtr 18 1000000))] [17,18],Wn 20 16 19]
def SY:La:=[Wg 21 1 1,Wd 22 21,Wm 23 95 22,WR 24 23]
def SX:La:=[Wg 25 3 1,Wd 26 25,Wi 27 26,Wb 28 .gtr 27 64]
def SW:La:=[Wg 29 0 1,Wd 30 29,Wb 31 .eql 30 4,Wa 32 31,.grp 32 true [(xi 33 32 true (Lt 4 1)),(xi 34 32 true (Ca 79 [.t 33])),(xi 35 32 true (Ln 34)),(xi 36 32 true (Bc .eql 35 0))] [1,33,34,35],Wr 37 32 36]
def r81:RC:=(So s8 (Sq (So SZ (Xs 20 [1,20] (So jE .ret))) (Sq (So SY (Xs 24 [1,24] (So vT .ret))) (Sq (So SX (Xs 28 [1,28] (So p9 .ret))) (Sq (So SW (Xs 37 [37] (So DW .ret))) (So i5 .ret))))))
def F81:FnC:=⟨r81,38,[.tmp 2],[],[]⟩
def Ng:La:=[W9 6]
def SU:La:=[on 9 (.litB []),Wa 10 0,Wx 11 1 9 10,Wa 7 11]
def SS:La:=[om 12 1,Wb 13 .lss 12 1,Wa 14 13,.grp 14 false [(xi 15 14 false (Mv 1)),(xi 16 14 false (Bc .gtr 15 8))] [15],Wn 17 14 16]
def SR:La:=[Wa 18 7,Wa 6 18]
def SQ:La:=[Wa 19 1,Wb 20 .sub 19 1,Wa 8 20]
def SP:La:=[om 21 8,Wb 22 .geq 21 0]
def SN:La:=[Wa 25 7,om 26 2,WP 27 26,om 28 8,WP 29 28,oo 30 (.bin .mul (.c (.int .u64 8)) (.t 29)) [29],We 31 .shr 27 30,WH 32 31,WX 33 32,Wx 34 1 25 33,Wa 7 34]
def SM:La:=[Wa 23 8,Wb 24 .sub 23 1,Wa 8 24]
def NM:RC:=(.post (Sq (So SP (Xr 22 [2,8,22] (.exit 0))) (Sq (Bk 1 (.ops SN)) (.ops SM))) [.tok 7 107])
def Nf:RC:=NM
def SL:La:=[Wa 35 7,Wa 6 35]
def r82:RC:=(So Ng (So SU (Sq (So SS (Xs 17 [1,2,17] (So SR .ret))) (Sq (So SQ (Bk 0 (.pre [.tok 7 107] (.loop Nf)))) (So SL .ret)))))
def F82:FnC:=⟨r82,36,[.tmp 6],[0],[]⟩
def SK:La:=[om 5 1,Wi 6 5,Wb 7 .gtr 6 65535]
def SJ:La:=[Wa 8 1,Xm 9 1 8 65535,Wa 1 9]
def SH:La:=[Wa 10 0,om 11 1,Wi 12 11,W5 13 82 10 2 12,Wa 14 1,Wx 15 1 13 14,Wa 4 15]
def r83:RC:=(So oc (Sq (So SK (Xs 7 [7] (.ops SJ))) (So SH .ret)))
def F83:FnC:=⟨r83,16,[.tmp 4],[0],[]⟩
def SG:La:=[Wg 5 0 2,Wd 6 5,Wg 7 0 3,Wd 8 7,We 9 .neq 6 8]
def SF:La:=[Wv 10 0 2,Wd 11 10,Wv 12 0 3,Wd 13 12,We 14 .lss 11 13,Wa 4 14]
def SE:La:=[Wg 15 1 2,Wd 16 15,Wg 17 1 3,Wd 18 17,We 19 .neq 16 18]
def SD:La:=[Wv 20 1 2,Wd 21 20,Wv 22 1 3,Wd 23 22,We 24 .lss 21 23,Wa 4 24]
def SC:La:=[Wg 25 2 2,Wd 26 25,Wg 27 2 3,Wd 28 27,We 29 .neq 26 28]
def SB:La:=[oo 30 (Fa 2 2) [2],Wd 31 30,Wv 32 2 3,Wd 33 32,We 34 .lss 31 33,Wa 4 34]
def SA:La:=[Wv 35 3 2,Wd 36 35,oo 37 (Fa 3 3) [3],Wd 38 37,Ws 39 63 36 38,Wa 4 39]
def r84:RC:=(So Nj (Sq (So SG (Xs 9 [9] (So SF .ret))) (Sq (So SE (Xs 19 [19] (So SD .ret))) (Sq (So SC (Xs 29 [29] (So SB .ret))) (So SA .ret)))))
def F84:FnC:=⟨r84,40,[.tmp 4],[],[]⟩
def Sz:La:=[on 4 (.build [.str [],.str [],.str [],.str [],.str [],.str []] [(0,1,(.c (.str [97,61,49]))),(1,1,(.c (.str [99,111,117,110,116,61,53]))),(2,1,(.c (.str [99,111,117,110,116,61,49,55]))),(3,1,(.c (.str [104,111,115,116,61,120]))),(4,1,(.c (.str [109,111,100,101,32,98]))),(5,1,(.c (.str [126])))]),on 3 (.new (.arr 1 (au 6 [.str []]))),Wu 6 3 4]
def Sx:La:=[Wa 5 0,WK 6 37 5 6,oo 7 (.iaddrA 6 1 (.t 3) (.t 6)) [3,6],Wd 8 7,Xa 9 8,Wa 2 9]
def r86:RC:=(So lN (So Sz (So Sx .ret)))
def F86:FnC:=⟨r86,10,[.tmp 2],[],[]⟩
def Sw:La:=[Wg 4 1 1,Wd 5 4,Wb 6 .eql 5 1,Wa 7 6,.grp 7 true [(xi 8 7 true (Fa 0 1)),(xi 9 7 true (Ld 8)),(xi 10 7 true (Bc .eql 9 0))] [8,9],Wr 11 7 10,Wa 3 11]
def Sv:La:=[Wg 13 1 1,Wd 14 13,Wb 15 .eql 14 1,Wa 16 15,.grp 16 true [(xi 17 16 true (Fa 0 1)),(xi 18 16 true (Ld 17)),(xi 19 16 true (Bc .eql 18 4))] [17,18],Wr 20 16 19,Wa 12 20]
def Su:La:=[Wh 2 2]
def Ss:La:=[Wg 22 1 1,Wd 23 22,Wb 24 .eql 23 2,Wa 25 24,.grp 25 true [(xi 26 25 true (Fa 0 1)),(xi 27 25 true (Ld 26)),(xi 28 25 true (Bc .geq 27 0))] [26,27],Wr 29 25 28,Wa 30 29,.grp 30 true [(xi 31 30 true (Fa 0 1)),(xi 32 30 true (Ld 31)),(xi 33 30 true (Bc .lss 32 8))] [31,32],Wr 34 30 33,Wa 21 34]
def Sp:La:=[Wh 2 3]
def Sn:La:=[Wg 36 1 1,Wd 37 36,Wb 38 .eql 37 1,Wa 39 38,.grp 39 true [(xi 40 39 true (Fa 0 1)),(xi 41 39 true (Ld 40)),(xi 42 39 true (Bc .eql 41 8))] [40,41],Wr 43 39 42,Wa 35 43]
def Sm:La:=[Wg 45 1 1,Wd 46 45,Wb 47 .eql 46 3,Wa 48 47,.grp 48 true [(xi 49 48 true (Fa 0 1)),(xi 50 48 true (Ld 49)),(xi 51 48 true (Bc .eql 50 9))] [1,49,50],Wr 52 48 51,Wa 44 52]
def GU:La:=[Wh 2 5]
def r88:RC:=(So s8 (Sq (Bk 0 (So Sw (Kc 3 (Kk [1,3] (So jE .ret)) (Kk [3] (So Sv (Kc 12 (Kk [1,12] (So Su .ret)) (Kk [12] (So Ss (Kc 21 (Kk [1,21] (So Sp .ret)) (Kk [21] (So Sn (Kc 35 (Kk [1,35] (So p9 .ret)) (Kk [35] (So Sm (Xs 44 [44] (So GU .ret)))))))))))))))) (So i5 .ret)))
def F88:FnC:=⟨r88,53,[.tmp 2],[],[]⟩
def vP:La:=[WN 2 false]
def Sl:La:=[Wa 3 0,oo 4 (.build Zq0 [(0,1,(ci 1)),(1,1,(.t 3))]) [3],Wm 5 68 4,Wb 6 .eql 5 0,Wa 2 6]
def r89:RC:=(So vP (So Sl .ret))
def F89:FnC:=⟨r89,7,[.tmp 2],[],[]⟩
def Sk:La:=[Wg 5 0 1,Wd 6 5,Wb 7 .lss 6 1,Wa 8 7,.grp 8 false [(xi 9 8 false (Fa 0 1)),(xi 10 8 false (Ld 9)),(xi 11 8 false (Bc .gtr 10 4))] [9,10],Wn 12 8 11]
def Sj:La:=[Wg 13 1 1,Wd 14 13,WL 15 true 14,Wh 16 0]
def Si:La:=[on 17 (Bb .lss 16 15)]
def Sh:La:=[om 18 16,Wa 3 18]
def Sg:La:=[Wg 19 1 1,Wd 20 19,Wa 21 3,oo 22 (.idxS (.t 20) (.t 21)) [20,21],Wa 4 22]
def Sf:La:=[om 23 4,Xe 24 .lss 23,Wa 25 24,.grp 25 false [(xi 26 25 false (Mv 4)),(xi 27 25 false (.bin .gtr (.t 26) (.c (.u8 126))))] [4,26],Wn 28 25 27]
def Se:La:=[Wb 29 .add 16 1,Wa 16 29]
def yf:RC:=(So Si (Sq (Xr 17 [15,16,17] (.exit 0)) (Sq (Bk 1 (So Sh (So Sg (So Sf (Xs 28 [1,15,16,28] (So jE .ret)))))) (.ops Se))))
def xd:RC:=yf
def GT:La:=[Wg 31 0 1,Wd 32 31,Wb 33 .eql 32 4,Wa 34 33,.grp 34 true [(xi 35 34 true (Fa 2 1)),(xi 36 34 true (Ld 35)),(xi 37 34 true (Bc .lss 36 0)),(xi 38 34 true (Mv 37))] [35,36,37],.grp 38 false [(xi 39 38 false (Fa 2 1)),(xi 40 38 false (Ld 39)),(xi 41 38 false (Fa 3 1)),(xi 42 38 false (Ld 41)),(xi 43 38 false (Bb .gtr 40 42))] [39,40,41,42],.grp 34 true [(xi 44 34 true (Pt 38 43)),(xi 45 34 true (Mv 44))] [38,43,44],.grp 45 false [(xi 46 45 false (Fa 3 1)),(xi 47 45 false (Ld 46)),(xi 48 45 false (Bc .gtr 47 1000000000))] [46,47],.grp 34 true [(xi 49 34 true (Pt 45 48))] [45,48],Wr 50 34 49,Wa 30 50]
def GS:La:=[Wg 52 0 1,Wd 53 52,Wb 54 .neq 53 4,Wa 55 54,.grp 55 true [(xi 56 55 true (Fa 2 1)),(xi 57 55 true (Ld 56)),(xi 58 55 true (Bc .neq 57 0)),(xi 59 55 true (Mv 58))] [56,57,58],.grp 59 false [(xi 60 59 false (Fa 3 1)),(xi 61 59 false (Ld 60)),(xi 62 59 false (Bc .neq 61 0))] [60,61],.grp 55 true [(xi 63 55 true (Pt 59 62))] [59,62],Wr 64 55 63,Wa 51 64]
def GR:La:=[Wg 66 0 1,Wd 67 66,Wb 68 .eql 67 1,Wa 69 68,.grp 69 true [(xi 70 69 true (Fa 1 1)),(xi 71 69 true (Ld 70)),(xi 72 69 true (.bin .neq (.t 71) (.c (.str []))))] [70,71],Wr 73 69 72,Wa 65 73]
def GQ:La:=[oo 75 (Fa 1 1) [1],Wd 76 75,WL 77 true 76,Wb 78 .gtr 77 32,Wa 74 78]
def r90:RC:=(So s8 (Sq (So Sk (Xs 12 [1,12] (So jE .ret))) (Sq (So Sj (Bk 0 (.loop xd))) (Sq (Bk 2 (So GT (Kc 30 (Kk [1,30] (So jE .ret)) (Kk [30] (So GS (Kc 51 (Kk [1,51] (So jE .ret)) (Kk [51] (So GR (Kc 65 (Kk [1,65] (So jE .ret)) (Kk [65] (So GQ (Xs 74 [74] (So p9 .ret))))))))))))) (So i5 .ret)))))
def F90:FnC:=⟨r90,79,[.tmp 2],[],[]⟩
def Sd:La:=[Wa 3 0,WK 4 132 3 10,Wa 2 4]
def r91:RC:=(So DY (So Sd .ret))
def F91:FnC:=⟨r91,5,[.tmp 2],[],[]⟩
def Sc:La:=[Wh 5 0,Wh 6 0,Wh 7 (-1),Wh 8 0]
def Sb:La:=[om 9 6,om 10 1,Wi 11 10,We 12 .lss 9 11]
def Sa:La:=[om 14 5,om 15 0,WL 16 true 15,We 17 .lss 14 16,Wa 18 17,.grp 18 true [(xi 19 18 true (Mv 0)),(xi 20 18 true (Mv 5)),(xi 21 18 true (.idxS (.t 19) (.t 20))),(xi 22 18 true (.bin .eql (.t 21) (.c (.u8 42))))] [19,20,21],Wr 23 18 22,Wa 13 23]
def R9:La:=[om 24 5,om 25 6,Wa 26 5,Wb 27 .add 26 1,Wa 7 24,Wa 8 25,Wa 5 27]
def R8:Lb:=[Fm 0 29 5,Fm 1 30 0,Fs 2 31 (.len true (.t 30)),Wf 3 32 .lss 29 31,Fm 4 33 32,Wq 5 34 33 true 0,Wq 6 35 33 true 5,Fi 7 36 33 true (.idxS (.t 34) (.t 35)),Fi 8 37 33 true (.bin .eql (.t 36) (.c (.u8 63))),Wq 9 38 33 true 37,Wq 10 39 38 false 0,Wq 11 40 38 false 5,Fi 12 41 38 false (.idxS (.t 39) (.t 40)),Wq 13 42 38 false 1,Wq 14 43 38 false 6,Fi 15 44 38 false (Ia 1 42 43),Ww 16 45 38 false 44,Fi 17 46 38 false (Bb .eql 41 45),Fi 18 47 33 true (Pt 38 46),Fs 19 48 (Pf 33 47),Fm 20 28 48]
def R7:La:=[Wa 49 5,Wb 50 .add 49 1,Wa 51 6,Wb 52 .add 51 1,Wa 5 50,Wa 6 52]
def R6:La:=[om 54 7,Wb 55 .geq 54 0,Wa 53 55]
def R5:La:=[om 56 7,Wb 57 .add 56 1,om 58 8,Wb 59 .add 58 1,Wa 60 8,Wb 61 .add 60 1,Wa 5 57,Wa 6 59,Wa 8 61]
def ye:RC:=(Sq (So Sb (Xr 12 [1,6,7,8,12] (.exit 0))) (Bk 1 (Bk 2 (So Sa (Kc 13 (Kk [7,8,13] (.ops R9)) (Kk [13] (Sq (.flt [0,0,2,7,15,31,31,127,255,511,1023,1023,4095,1023,1023,25599,58367,131071,262143,524287,1048575] [] R8 [29,30,31,32,33,34,35,36,37,38,39,40,41,42,43,44,45,46,47,48]) (Kc 28 (Kk [28] (.ops R7)) (Kk [5,6,28] (So R6 (Kc 53 (Kk [53] (.ops R5)) (Kk [0,1,7,8,53] (So od .ret)))))))))))))
def xc:RC:=ye
def GP:La:=[Wa 62 0,Wa 63 5,oo 64 (.slcS (.t 62) (some (.t 63)) none) [62,63],oo 65 (Ca 133 [.t 64,(.c (.str [42]))]) [64],oo 66 (.bin .eql (.t 65) (.c (.str []))) [65],Wa 4 66]
def r92:RC:=(So qa (So Sc (Sq (Bk 0 (.loop xc)) (So GP .ret))))
def F92:FnC:=⟨r92,67,[.tmp 4],[],[]⟩
def Nd:La:=[oo 4 (.mov (.c (.str []))) [4],WN 5 false]
def R4:La:=[Wa 6 0,Wa 7 1,Ws 8 134 6 7,WE 9 8 0,WO 10 8 1,Wa 4 9,Wa 5 10]
def r93:RC:=(So Nd (So R4 .ret))
def F93:FnC:=⟨r93,11,[.tmp 4,.tmp 5],[],[]⟩
def R3:La:=[om 6 0,oo 7 (.bin .eql (.t 6) (.c (.str []))) [6],Wa 8 7,.grp 8 false [(xi 9 8 false (Mv 0)),(xi 10 8 false (.len true (.t 9))),(xi 11 8 false (Bc .gtr 10 10))] [9,10],Wn 12 8 11,Wa 13 12,.grp 13 false [(xi 14 13 false (Mv 0)),(xi 15 13 false (.len true (.t 14))),(xi 16 13 false (Bc .gtr 15 1)),(xi 17 13 false (Mv 16))] [14,15,16],.grp 17 true [(xi 18 17 true (Mv 0)),(xi 19 17 true (.idxS (.t 18) (ci 0))),(xi 20 17 true (.bin .eql (.t 19) (.c (.u8 48))))] [18,19],.grp 13 false [(xi 21 13 false (Pf 17 20))] [17,20],Wn 22 13 21]
def R2:La:=[om 23 0,WL 24 true 23,Wh 25 0]
def RZ:La:=[on 26 (Bb .lss 25 24)]
def RY:La:=[om 27 25,Wa 3 27]
def RX:La:=[om 28 0,om 29 3,oo 30 (.idxS (.t 28) (.t 29)) [28,29],oo 31 (.bin .lss (.t 30) (.c (.u8 48))) [30],Wa 32 31,.grp 32 false [(xi 33 32 false (Mv 0)),(xi 34 32 false (Mv 3)),(xi 35 32 false (.idxS (.t 33) (.t 34))),(xi 36 32 false (.bin .gtr (.t 35) (.c (.u8 57))))] [3,33,34,35],Wn 37 32 36]
def RW:La:=[Wb 38 .add 25 1,Wa 25 38]
def NL:RC:=(So RZ (Sq (Xr 26 [24,25,26] (.exit 0)) (Sq (Bk 1 (So RY (So RX (Xs 37 [0,24,25,37] (So vS .ret))))) (.ops RW))))
def Nc:RC:=NL
def GO:La:=[Wa 40 0,Wm 41 135 40,Wa 39 41,WE 42 39 0,WO 43 39 1,Wa 4 42,.op (xm 5 43) [5,43]]
def GN:La:=[Wa 44 4,Wa 2 44]
def r94:RC:=(So kZ (Sq (So R3 (Xs 22 [0,22] (So vS .ret))) (Sq (So R2 (Bk 0 (.loop Nc))) (So GO (So GN .ret)))))
def F94:FnC:=⟨r94,45,[.tmp 2],[],[]⟩
def RU:La:=[om 5 0,WL 6 true 5,Wb 7 .lss 6 1,Wa 8 7,.grp 8 false [(xi 9 8 false (Mv 0)),(xi 10 8 false (.len true (.t 9))),(xi 11 8 false (Bc .gtr 10 12))] [9,10],Wn 12 8 11]
def Nb:La:=[Wh 3 0]
def RT:La:=[om 13 3,om 14 0,WL 15 true 14,We 16 .lss 13 15]
def RS:La:=[om 19 0,om 20 3,oo 21 (.idxS (.t 19) (.t 20)) [19,20],Wa 4 21]
def RR:La:=[om 22 4,oo 23 (.bin .lss (.t 22) (.c (.u8 97))) [22],Wa 24 23,.grp 24 false [(xi 25 24 false (Mv 4)),(xi 26 24 false (.bin .gtr (.t 25) (.c (.u8 122))))] [25],Wn 27 24 26,Wa 28 27,.grp 28 true [(xi 29 28 true (Mv 4)),(xi 30 28 true (.bin .lss (.t 29) (.c (.u8 48)))),(xi 31 28 true (Mv 30))] [29,30],.grp 31 false [(xi 32 31 false (Mv 4)),(xi 33 31 false (.bin .gtr (.t 32) (.c (.u8 57))))] [32],.grp 28 true [(xi 34 28 true (Pt 31 33))] [31,33],Wr 35 28 34,Wa 36 35,.grp 36 true [(xi 37 36 true (Mv 4)),(xi 38 36 true (.bin .neq (.t 37) (.c (.u8 45))))] [4,37],Wr 39 36 38]
def RQ:La:=[Wa 17 3,Wb 18 .add 17 1,Wa 3 18]
def NK:RC:=(Sq (So RT (Xr 16 [0,3,16] (.exit 0))) (Sq (Bk 1 (So RS (So RR (Xs 39 [0,3,39] (So nk .ret))))) (.ops RQ)))
def Na:RC:=NK
def r95:RC:=(So vP (Sq (So RU (Xs 12 [0,12] (So nk .ret))) (Sq (So Nb (Bk 0 (.loop Na))) (So vR .ret))))
def F95:FnC:=⟨r95,40,[.tmp 2],[],[]⟩
def M9:La:=[om 3 0,Wb 4 .lss 3 10]
def RP:La:=[Wa 5 0,WS 6 .add 48 5,WH 7 6,WX 8 7,Wa 2 8]
def RO:La:=[om 9 0,Wb 10 .quo 9 10,Wm 11 97 10,Wa 12 0,Wb 13 .rem 12 10,WS 14 .add 48 13,WH 15 14,WX 16 15,Wx 17 1 11 16,Wa 2 17]
def r97:RC:=(So lN (Sq (So M9 (Xs 4 [4] (So RP .ret))) (So RO .ret)))
def F97:FnC:=⟨r97,18,[.tmp 2],[0],[]⟩
def RN:La:=[Wa 5 0]
def RM:La:=[WC 7 .eql 5 0,Wa 6 7]
def RL:La:=[Wa 8 1,Wm 9 136 8,Wa 4 9]
def RK:La:=[Wb 11 .eql 5 1,Wa 10 11]
def RJ:La:=[Wa 12 1,Wm 13 80 12,Wa 4 13]
def r99:RC:=(So oc (Sq (So RN (Bk 0 (So RM (Kc 6 (Kk [5,6] (So RL .ret)) (Kk [6] (So RK (Kc 10 (Kk [10] (So RJ .ret)) (Kk [1,10] .skip)))))))) (So pJ .ret)))
def F99:FnC:=⟨r99,14,[.tmp 4],[],[]⟩
def Mz:La:=[on 8 (Lt 7 1),Wm 9 44 8,Wb 10 .neq 9 0]
def My:La:=[on 11 (Ca 117 [(.c (.byt [] .clip)),ci 1,ci 21]),Wa 3 11]
def Mx:La:=[Wa 12 3,Wg 13 0 1,Wd 14 13,Xa 15 14,Ws 16 118 12 15,Wa 3 16]
def Mw:Lb:=[Fm 0 17 3,Wj 1 18 1 1,Wc 2 19 18,Wj 4 21 2 1,Wc 5 22 21,WY 3 20 117 17 4 19,WY 6 23 117 20 4 22,⟨7,false,(xm 3 23)⟩]
def Mu:Lb:=[Fm 0 24 3,Wj 1 25 3 1,Wc 2 26 25,Wj 4 28 4 1,Wc 5 29 28,WY 3 27 117 24 6 26,WY 6 30 117 27 6 29,⟨7,false,(xm 3 30)⟩]
def Mt:La:=[Wa 31 3,Wg 32 5 1,Wd 33 32,Wi 34 33,W5 35 117 31 1 34,Wa 3 35]
def Ms:La:=[Wg 36 5 1,Wd 37 36,on 38 (Ln 37),Wh 39 0]
def Mr:La:=[on 40 (Bb .lss 39 38)]
def BH:La:=[on 41 (Ia 4 37 39),Wt 42 4 41,W8 5,Wu 4 5 42]
def BG:Lb:=[Fm 0 43 3,Wj 1 44 0 5,Wc 2 45 44,Wj 4 47 1 5,Wc 5 48 47,Fs 6 49 (.s2b (.t 48)),WY 3 46 117 43 1 45,WI 7 50 118 46 49,⟨8,false,(xm 3 50)⟩]
def BF:Lb:=[Fm 0 51 3,Wj 1 52 2 5,Wc 2 53 52,Wj 4 55 3 5,Wc 5 56 55,WY 3 54 117 51 4 53,Fz 6 57 (.app [.u8 0] 1 (.t 54) (.t 56)),⟨7,false,(xm 3 57)⟩]
def BE:La:=[Wb 58 .add 39 1,Wa 39 58]
def sJ:RC:=(.post (So Mr (Sq (Xr 40 [37,38,39,40] (.exit 0)) (Sq (Bk 1 (So BH (Sq (.flt [0,0,2,7,0,16,48,127,255] [] BG [43,44,45,46,47,48,49,50]) (.flt [0,0,2,7,0,16,63,127] [157] BF [5,51,52,53,54,55,56,57])))) (.ops BE)))) [.gc [105],.gcr 47000 48000,.gcr 55000 56000,.tok 3 103])
def ma:RC:=sJ
def BD:La:=[Wa 59 3,Wg 60 6 1,Wd 61 60,Wi 62 61,W5 63 117 59 1 62,Wa 3 63]
def BC:La:=[Wv 64 6 1,Wd 65 64,on 66 (Ln 65),Wh 67 0]
def BB:La:=[on 68 (Bb .lss 67 66)]
def BA:La:=[on 69 (Ia 4 65 67),Wt 70 4 69,on 7 (.new (.rc [.int .i64 0,.str [],.int .i64 0,.int .i64 0])),Wu 4 7 70]
def Bz:Lb:=[Fm 0 71 3,Wj 1 72 0 7,Wc 2 73 72,Wj 4 75 1 7,Wc 5 76 75,Fs 6 77 (.s2b (.t 76)),WY 3 74 117 71 1 73,WI 7 78 118 74 77,⟨8,false,(xm 3 78)⟩]
def By:Lb:=[Fm 0 79 3,Wj 1 80 2 7,Wc 2 81 80,Wj 4 83 3 7,Wc 5 84 83,WY 3 82 117 79 4 81,WY 6 85 117 82 4 84,⟨7,false,(xm 3 85)⟩]
def Bx:La:=[Wb 86 .add 67 1,Wa 67 86]
def sI:RC:=(.post (So BB (Sq (Xr 68 [65,66,67,68] (.exit 2)) (Sq (Bk 3 (So BA (Sq (.flt [0,0,2,7,0,16,48,127,255] [] Bz [71,72,73,74,75,76,77,78]) (.flt [0,0,2,7,0,16,63,127] [] By [7,79,80,81,82,83,84,85])))) (.ops Bx)))) [.gc [107],.gcr 75000 76000,.gcr 83000 84000])
def l9:RC:=sI
def Bw:La:=[Wa 87 3,Wa 2 87]
def xh4:RC:=(So vV (Sq (So Mz (Xs 10 [1,10] (So vU .ret))) (So My (So Mx (Sq (.flt [0,0,2,7,0,16,63,127] [] Mw [17,18,19,20,21,22,23]) (Sq (.flt [0,0,2,7,0,16,63,127] [] Mu [24,25,26,27,28,29,30]) (So Mt (Sq (So Ms (Bk 0 (.pre [.tok 3 103] (.loop ma)))) (So BD (Sq (So BC (Bk 2 (.loop l9))) (So Bw .ret)))))))))))
def ZS:FnC:=⟨xh4,88,[.tmp 2],[],[]⟩
def Mq:La:=[Wa 5 0,Wa 6 1,Ws 7 137 5 6,oo 8 (Ca 69 [ci 1,.t 7]) [7],Wa 4 8]
def xh3:RC:=(So oc (So Mq .ret))
def ZR:FnC:=⟨xh3,9,[.tmp 4],[],[]⟩
def Mp:La:=[on 0 (.new (.arr 1 (au 5 [.str []])))]
def Mo:La:=[on 1 (.build [.str [],.str [],.str [],.str [],.str []] [(0,1,(.c (.str [97]))),(1,1,(.c (.str [103,114,117,98]))),(2,1,(.c (.str [108,105,110,117,120]))),(3,1,(.c (.str [110,101,116,45,48]))),(4,1,(.c (.str [116,119,101,108,118,101,45,98,121,116,101,115])))]),Wu 5 0 1]
def xh2:RC:=(So Mp (So Mo .ret))
def ZQ:FnC:=⟨xh2,2,[.cell 0 5 true],[],[]⟩
def xV:La:=[on 3 (.mov (.c (.byt [] .clip)))]
def Mn:La:=[om 5 0,WK 6 37 5 4,WS 7 .add 1 6,Wa 4 7]
def Mm:La:=[om 8 4,Wb 9 .gtr 8 0]
def Ml:La:=[Wa 12 3,om 13 0,Wm 14 86 13,Wx 15 1 12 14,on 16 (.litB [(.c (.u8 10))]),Wx 17 1 15 16,Wa 3 17]
def Mk:La:=[Wa 10 4,Wb 11 .sub 10 1,Wa 4 11]
def yZ:RC:=(.post (Sq (So Mm (Xr 9 [0,4,9] (.exit 0))) (Sq (Bk 1 (.ops Ml)) (.ops Mk))) [.gc [115],.tok 3 103])
def xU:RC:=yZ
def Mj:La:=[Wa 18 3,Wa 2 18]
def xh1:RC:=(So lN (So xV (Sq (So Mn (Bk 0 (.pre [.tok 3 103] (.loop xU)))) (So Mj .ret))))
def ZP:FnC:=⟨xh1,19,[.tmp 2],[],[]⟩
def Mi:La:=[Wv 6 3 1,Wd 7 6,Wa 4 7]
def Mh:La:=[om 8 4,Wi 9 8,Wb 10 .gtr 9 0]
def Mg:La:=[om 11 4,oo 12 (Ca 139 [.t 11,(.c (.u8 10))]) [11],Wa 5 12]
def Mf:La:=[om 13 5,Wb 14 .lss 13 1,Wa 15 14,.grp 15 false [(xi 16 15 false (Mv 3)),(xi 17 15 false (Ln 16)),(xi 18 15 false (Bc .eql 17 4))] [16,17],Wn 19 15 18,Wa 20 19,.grp 20 false [(xi 21 20 false (Mv 4)),(xi 22 20 false (Mv 5)),(xi 23 20 false (.slcL 1 (.t 21) none (some (.t 22)) none)),(xi 24 20 false (Ca 140 [.t 23])),(xi 25 20 false (.un .not (.t 24)))] [21,22,23,24],Wn 26 20 25]
def Me:La:=[Wa 27 3,om 28 4,om 29 5,om 30 5,oo 31 (.slcL 1 (.t 28) none (some (.t 29)) (some (.t 30))) [28,29,30],WV 32 1 31,oo 33 (.app [.byt [] .clip] 24 (.t 27) (.t 32)) [27,32],Wa 3 33]
def Md:La:=[Wa 34 4,Wa 35 5,Wb 36 .add 35 1,Xn 37 1 34 36,Wa 4 37]
def yY:RC:=(.post (Sq (So Mh (Xr 10 [4,10] (.exit 0))) (Bk 1 (So Mg (Sq (So Mf (Xs 26 [3,4,5,26] (So vQ .ret))) (So Me (.ops Md)))))) [.tok 3 103])
def tg:RC:=yY
def Bv:La:=[Wa 38 3,Wa 2 38]
def xh0:RC:=(So Ni (So Nh (Sq (So Mi (Bk 0 (.pre [.tok 3 103] (.loop tg)))) (So Bv .ret))))
def ZO:FnC:=⟨xh0,39,[.tmp 2],[],[]⟩
def Ma:La:=[om 6 0,Wi 7 6,Wb 8 .add 7 72,oo 9 (.mkB (ci 0) (.t 8)) [8],om 10 0,.dir (.tok 9 109),Wx 11 1 9 10,on 12 (.litB [(.c (.u8 128))]),Wx 13 1 11 12,Wa 3 13]
def L9:La:=[om 14 3,Wi 15 14,Wb 16 .rem 15 64,Wb 17 .neq 16 56]
def L8:La:=[Wa 18 3,on 19 (.litB [(.c (.u8 0))]),Wx 20 1 18 19,Wa 3 20]
def yX:RC:=(.post (Sq (So L9 (Xr 17 [17] (.exit 0))) (Bk 1 (.ops L8))) [.tok 3 103])
def xT:RC:=yX
def L7:La:=[Wa 21 0,Wi 22 21,WP 23 22,Xc 24 .mul 23,Wa 4 24]
def L6:La:=[Wh 5 56]
def L5:La:=[om 25 5,Wb 26 .geq 25 0]
def L4:La:=[Wa 29 3,om 30 4,om 31 5,WP 32 31,We 33 .shr 30 32,WH 34 33,WX 35 34,Wx 36 1 29 35,Wa 3 36]
def L3:La:=[Wa 27 5,Wb 28 .sub 27 8,Wa 5 28]
def sH:RC:=(.post (Sq (So L5 (Xr 26 [4,5,26] (.exit 2))) (Sq (Bk 3 (.ops L4)) (.ops L3))) [.tok 3 103])
def rT:RC:=sH
def rS:La:=[Wa 37 3,Wa 2 37]
def xhZ:RC:=(So lN (So Ma (Sq (Bk 0 (.pre [.tok 3 103] (.loop xT))) (So L7 (Sq (So L6 (Bk 2 (.pre [.tok 3 103] (.loop rT)))) (So rS .ret))))))
def ZN:FnC:=⟨xhZ,38,[.tmp 2],[],[]⟩
def L2:La:=[on 4 (.new (.arr 1 (au 80 [.int .u32 0])))]
def L1:La:=[Wh 14 0]
def L0:La:=[WC 15 .lss 14 80]
def LZ:La:=[om 16 14,Wa 5 16]
def LY:La:=[om 17 5,Wb 18 .lss 17 16]
def LX:La:=[om 19 5,om 20 1,Wa 21 5,Ws 22 141 20 21,oo 23 (.iaddrA 80 1 (.t 4) (.t 19)) [19],WJ 1 23 22]
def LW:Lb:=[Fm 0 24 5,Fm 1 25 5,Wp 2 26 .sub 25 3,WU 3 27 4 26,Wc 4 28 27,Fm 5 29 5,Wp 6 30 .sub 29 8,WU 7 31 4 30,Wc 8 32 31,Wf 9 33 .xor 28 32,Fm 10 34 5,Wp 11 35 .sub 34 14,WU 12 36 4 35,Wc 13 37 36,Wf 14 38 .xor 33 37,Fm 15 39 5,Wp 16 40 .sub 39 16,WU 17 41 4 40,Wc 18 42 41,Wf 19 43 .xor 38 42,WT 20 44 142 43 1,WU 21 45 4 24,Fr 22 1 45 44]
def LV:La:=[Wb 46 .add 14 1,Wa 14 46]
def yW:RC:=(So L0 (Sq (Xr 15 [1,14,15] (.exit 0)) (Sq (Bk 1 (So LZ (So LY (Kc 18 (Kk [18] (.ops LX)) (Kk [18] (.flt [0,0,2,6,14,0,32,96,224,510,0,1024,3072,7168,16382,0,32768,98304,229376,524286,1048574,2097151,4194303] [] LW [5,24,25,26,27,28,29,30,31,32,33,34,35,36,37,38,39,40,41,42,43,44,45])))))) (.ops LV))))
def xS:RC:=yW
def LU:Lb:=[Fm 0 47 0,WA 1 48 47,WM 2 49 48 0,Wc 3 50 49,Fm 4 51 0,WA 5 52 51,WM 6 53 52 1,Wc 7 54 53,Fm 8 55 0,WA 9 56 55,WM 10 57 56 2,Wc 11 58 57,Fm 12 59 0,WA 13 60 59,WM 14 61 60 3,Wc 15 62 61,Fm 16 63 0,WA 17 64 63,WM 18 65 64 4,Wc 19 66 65,Fm 20 6 50,Fm 21 7 54,Fm 22 8 58,Fm 23 9 62,Fm 24 10 66]
def Bu:La:=[Wh 67 0]
def Bt:La:=[WC 68 .lss 67 80]
def Bs:La:=[om 69 67,Wa 11 69]
def Br:La:=[Xo 12,Xo 13]
def Bq:La:=[om 70 11,Wb 71 .quo 70 20]
def Bp:La:=[WC 78 .eql 71 0,Wa 77 78]
def Bo:La:=[om 79 7,om 80 8,We 81 .and 79 80,om 82 7,oo 83 (.un .xor (.t 82)) [82],om 84 9,We 85 .and 83 84,We 86 .xor 81 85,Wa 12 86,on 13 (.mov (.c (.int .u32 1518500249)))]
def Bn:La:=[WC 88 .eql 71 1,Wa 87 88]
def Bm:La:=[om 89 7,om 90 8,We 91 .xor 89 90,om 92 9,We 93 .xor 91 92,Wa 12 93,on 13 (.mov (.c (.int .u32 1859775393)))]
def Bl:La:=[Wb 95 .eql 71 2,Wa 94 95]
def Bj:La:=[om 96 7,om 97 8,We 98 .and 96 97,om 99 7,om 100 9,We 101 .and 99 100,We 102 .xor 98 101,om 103 8,om 104 9,We 105 .and 103 104,We 106 .xor 102 105,Wa 12 106,on 13 (.mov (.c (.int .u32 2400959708)))]
def Bi:La:=[om 72 7,om 73 8,We 74 .xor 72 73,om 75 9,We 76 .xor 74 75,Wa 12 76,on 13 (.mov (.c (.int .u32 3395469782)))]
def Bh:Lb:=[Fm 0 107 6,Fm 2 109 12,Fm 4 111 10,Fm 6 113 13,Fm 8 115 11,WU 9 116 4 115,Wc 10 117 116,Fm 12 119 6,Fm 13 120 7,Fm 15 122 8,Fm 16 123 9,WT 1 108 142 107 5,Wf 3 110 .add 108 109,Wf 5 112 .add 110 111,Wf 7 114 .add 112 113,Wf 11 118 .add 114 117,WT 14 121 142 120 30,⟨17,false,(xm 6 118)⟩,⟨18,false,(xm 7 119)⟩,⟨19,false,(xm 8 121)⟩,⟨20,false,(xm 9 122)⟩,⟨21,false,(xm 10 123)⟩]
def Bg:La:=[Wb 124 .add 67 1,Wa 67 124]
def sG:RC:=(So Bt (Sq (Xr 68 [4,67,68] (.exit 2)) (Sq (Bk 3 (So Bs (So Br (Sq (So Bq (Bk 4 (So Bp (Kc 77 (Kk [71,77] (.ops Bo)) (Kk [77] (So Bn (Kc 87 (Kk [71,87] (.ops Bm)) (Kk [87] (So Bl (Kc 94 (Kk [94] (.ops Bj)) (Kk [94] (.ops Bi)))))))))))) (.flt [0,1,0,7,0,31,0,127,0,256,768,2047,0,0,8195,0,0,131071,262143,524287,1048575,2097151] [] Bh [11,12,13,107,108,109,110,111,112,113,114,115,116,117,118,119,120,121,122,123]))))) (.ops Bg))))
def fJ:RC:=sG
def Bf:Lb:=[Fm 0 125 0,WA 1 126 125,WM 2 127 126 0,Wc 3 128 127,Fm 4 129 6,Wf 5 130 .add 128 129,WA 6 131 125,WM 7 132 131 0,Fr 8 1 132 130]
def Be:Lb:=[Fm 0 133 0,WA 1 134 133,WM 2 135 134 1,Wc 3 136 135,Fm 4 137 7,Wf 5 138 .add 136 137,WA 6 139 133,WM 7 140 139 1,Fr 8 1 140 138]
def Bd:Lb:=[Fm 0 141 0,WA 1 142 141,WM 2 143 142 2,Wc 3 144 143,Fm 4 145 8,Wf 5 146 .add 144 145,WA 6 147 141,WM 7 148 147 2,Fr 8 1 148 146]
def Ba:Lb:=[Fm 0 149 0,WA 1 150 149,WM 2 151 150 3,Wc 3 152 151,Fm 4 153 9,Wf 5 154 .add 152 153,WA 6 155 149,WM 7 156 155 3,Fr 8 1 156 154]
def A9:Lb:=[Fm 0 157 0,WA 1 158 157,WM 2 159 158 4,Wc 3 160 159,Fm 4 161 10,Wf 5 162 .add 160 161,WA 6 163 157,WM 7 164 163 4,Fr 8 1 164 162]
def xhY:RC:=(So L2 (Sq (So L1 (Bk 0 (.loop xS))) (Sq (.flt [0,1,3,7,0,16,48,112,0,256,768,1792,0,4096,12288,28672,0,65536,196608,458752,15,1048831,3149823,7405567,16777215] [] LU [47,48,49,50,51,52,53,54,55,56,57,58,59,60,61,62,63,64,65,66]) (Sq (So Bu (Bk 2 (.loop fJ))) (Sq (.flt [0,1,3,7,0,31,1,127,255] [] Bf [6,125,126,127,128,129,130,131,132]) (Sq (.flt [0,1,3,7,0,31,1,127,255] [] Be [7,133,134,135,136,137,138,139,140]) (Sq (.flt [0,1,3,7,0,31,1,127,255] [] Bd [8,141,142,143,144,145,146,147,148]) (Sq (.flt [0,1,3,7,0,31,1,127,255] [] Ba [9,149,150,151,152,153,154,155,156]) (.flt [0,1,3,7,0,31,1,127,255] [] A9 [0,10,157,158,159,160,161,162,163,164])))))))))
def ZM:FnC:=⟨xhY,165,[],[],[]⟩
def LS:La:=[om 6 0,Wi 7 6,WS 8 .mul 4 7,oo 9 (.mkB (ci 0) (.t 8)) [8],Wa 3 9]
def LR:La:=[Wa 10 0,on 11 (Ln 10),Wh 12 0]
def LQ:La:=[on 13 (Bb .lss 12 11)]
def LP:La:=[on 14 (Ia 1 10 12),Wd 15 14,Wa 5 15]
def LO:La:=[Wa 16 3,om 17 5,oo 18 (.bin .shr (.t 17) (.c (.int .u64 24))) [17],WH 19 18,om 20 5,Xp 21 .shr 20,WH 22 21,om 23 5,Xc 24 .shr 23,WH 25 24,Wa 26 5,WH 27 26,oo 28 (.litB [.t 19,.t 22,.t 25,.t 27]) [19,22,25,27],.dir (.tok 16 116),Wx 29 1 16 28,Wa 3 29]
def LN:La:=[Wb 30 .add 12 1,Wa 12 30]
def yV:RC:=(.post (So LQ (Sq (Xr 13 [10,11,12,13] (.exit 0)) (Sq (Bk 1 (So LP (.ops LO))) (.ops LN)))) [.tok 3 103])
def xR:RC:=yV
def LM:La:=[Wa 31 3,Wa 2 31]
def xhX:RC:=(So lN (So LS (Sq (So LR (Bk 0 (.pre [.tok 3 103] (.loop xR)))) (So LM .ret))))
def ZL:FnC:=⟨xhX,32,[.tmp 2],[],[]⟩
def LK:La:=[Xf 4]
def LJ:La:=[WC 18 .lss 17 64]
def LI:La:=[om 19 17,Wa 5 19]
def LH:La:=[om 20 5,Wb 21 .lss 20 16]
def LG:La:=[om 22 5,om 23 1,Wa 24 5,Ws 25 141 23 24,oo 26 (.iaddrA 64 1 (.t 4) (.t 22)) [22],WJ 1 26 25]
def LF:Lb:=[Fm 0 27 5,Wp 1 28 .sub 27 15,WG 2 29 4 28,Wc 3 30 29,Fm 4 31 5,Wp 5 32 .sub 31 2,WG 6 33 4 32,Wc 7 34 33,Fm 8 6 30,Fm 9 7 34]
def LD:La:=[om 35 6,WK 36 142 35 (-7),om 37 6,WK 38 142 37 (-18),We 39 .xor 36 38,Wa 40 6,oo 41 (.bin .shr (.t 40) (.c (.int .u64 3))) [40],We 42 .xor 39 41,Wa 8 42]
def LC:La:=[om 43 7,WK 44 142 43 (-17),om 45 7,WK 46 142 45 (-19),We 47 .xor 44 46,Wa 48 7,oo 49 (.bin .shr (.t 48) (.c (.int .u64 10))) [48],We 50 .xor 47 49,Wa 9 50]
def LB:Lb:=[Fm 0 51 5,Fm 1 52 9,Fm 2 53 5,Wp 3 54 .sub 53 7,WG 4 55 4 54,Wc 5 56 55,Wf 6 57 .add 52 56,Fm 7 58 8,Wf 8 59 .add 57 58,Fm 9 60 5,Wp 10 61 .sub 60 16,WG 11 62 4 61,Wc 12 63 62,Wf 13 64 .add 59 63,WG 14 65 4 51,Fr 15 1 65 64]
def A8:La:=[Wb 66 .add 17 1,Wa 17 66]
def sF:RC:=(So LJ (Sq (Xr 18 [1,17,18] (.exit 0)) (Sq (Bk 1 (So LI (Sq (So LH (Xs 21 [21] (So LG (.exit 1)))) (Sq (.flt [0,1,3,7,0,16,48,112,15,511] [] LF [27,28,29,30,31,32,33,34]) (So LD (So LC (.flt [0,0,0,4,12,28,62,0,254,0,512,1536,3584,8190,16383,32767] [] LB [5,8,9,51,52,53,54,55,56,57,58,59,60,61,62,63,64,65]))))))) (.ops A8))))
def rR:RC:=sF
def A7:La:=[om 67 0,oo 68 (.nchk (.t 67)) [67],Wt 69 8 68,on 10 (.new (.arr 1 (au 8 [.int .u32 0]))),Wu 8 10 69]
def A6:La:=[Wh 70 0]
def A5:La:=[WC 71 .lss 70 64]
def A4:La:=[om 72 70,Wa 11 72]
def A3:Lb:=[WZ 0 73 10 0,Wc 1 74 73,WZ 2 75 10 4,Wc 3 76 75,Fm 4 12 74,Fm 5 13 76]
def AZ:Lb:=[WZ 0 77 10 7,Wc 1 78 77,Fm 2 79 13,Fm 4 81 13,Fm 7 84 13,Fm 11 88 13,WZ 12 89 10 5,Wc 13 90 89,Wf 14 91 .and 88 90,Fm 15 92 13,Fs 16 93 (.un .xor (.t 92)),WZ 17 94 10 6,Wc 18 95 94,Wf 19 96 .and 93 95,Wf 20 97 .xor 91 96,Fm 22 99 11,Fs 23 100 (.iaddrA 64 1 (.c (.pp iR)) (.t 99)),Wc 24 101 100,Fm 26 103 11,WG 27 104 4 103,Wc 28 105 104,WT 3 80 142 79 (-6),WT 5 82 142 81 (-11),Wf 6 83 .xor 80 82,WT 8 85 142 84 (-25),Wf 9 86 .xor 83 85,Wf 10 87 .add 78 86,Wf 21 98 .add 87 97,Wf 25 102 .add 98 101,Wf 29 106 .add 102 105,Fm 30 14 106]
def AY:Lb:=[Fm 0 107 12,Fm 2 109 12,Fm 5 112 12,Fm 8 115 12,WZ 9 116 10 1,Wc 10 117 116,Wf 11 118 .and 115 117,Fm 12 119 12,WZ 13 120 10 2,Wc 14 121 120,Wf 15 122 .and 119 121,Wf 16 123 .xor 118 122,WZ 17 124 10 1,Wc 18 125 124,WZ 19 126 10 2,Wc 20 127 126,Wf 21 128 .and 125 127,Wf 22 129 .xor 123 128,WT 1 108 142 107 (-2),WT 3 110 142 109 (-13),Wf 4 111 .xor 108 110,WT 6 113 142 112 (-22),Wf 7 114 .xor 111 113,Wf 23 130 .add 114 129,Fm 24 15 130]
def AX:La:=[om 131 14,Wa 132 15,We 133 .add 131 132,W1 134 10 0,Wd 135 134,W1 136 10 1,Wd 137 136,W1 138 10 2,Wd 139 138,W1 140 10 3,Wd 141 140,Wa 142 14,We 143 .add 141 142,W1 144 10 4,Wd 145 144,W1 146 10 5,Wd 147 146,W1 148 10 6,Wd 149 148,oo 150 (.build [.int .u32 0,.int .u32 0,.int .u32 0,.int .u32 0,.int .u32 0,.int .u32 0,.int .u32 0,.int .u32 0] [(0,1,(.t 133)),(1,1,(.t 135)),(2,1,(.t 137)),(3,1,(.t 139)),(4,1,(.t 143)),(5,1,(.t 145)),(6,1,(.t 147)),(7,1,(.t 149))]) [133,135,137,139,143,145,147,149],Wu 8 10 150]
def AW:La:=[Wb 151 .add 70 1,Wa 70 151]
def sE:RC:=(So A5 (Sq (Xr 71 [4,70,71] (.exit 2)) (Sq (Bk 3 (So A4 (Sq (.flt [0,1,0,4,3,31] [] A3 [73,74,75,76]) (Sq (.flt [0,1,0,4,0,28,60,0,188,508,1023,0,0,4096,14336,0,32768,0,131072,491520,1046528,2097151,0,4194304,12582912,33554431,0,67108864,201326592,536870911,1073741823] [] AZ [11,13,77,78,79,80,81,82,83,84,85,86,87,88,89,90,91,92,93,94,95,96,97,98,99,100,101,102,103,104,105,106]) (Sq (.flt [0,1,0,7,15,0,47,127,0,0,512,1792,0,0,8192,28672,65280,0,131072,0,524288,1966080,4194048,8388607,16777215] [] AY [12,107,108,109,110,111,112,113,114,115,116,117,118,119,120,121,122,123,124,125,126,127,128,129,130]) (.ops AX)))))) (.ops AW))))
def rQ:RC:=sE
def AV:La:=[Wh 152 0]
def AU:La:=[WC 153 .lss 152 8]
def AT:La:=[om 154 152,Wa 16 154]
def AS:Lb:=[Fm 0 155 0,Fm 1 156 16,WA 2 157 155,Fs 3 158 (.iaddrA 8 1 (.t 157) (.t 156)),Wc 4 159 158,Fm 5 160 16,Fs 6 161 (.iaddrA 8 1 (.t 10) (.t 160)),Wc 7 162 161,Wf 8 163 .add 159 162,WA 9 164 155,Fs 10 165 (.iaddrA 8 1 (.t 164) (.t 156)),Fr 11 1 165 163]
def AR:La:=[Wb 166 .add 152 1,Wa 152 166]
def sD:RC:=(So AU (Sq (Xr 153 [0,10,152,153] (.exit 4)) (Sq (Bk 5 (So AT (.flt [0,0,1,7,15,0,32,96,255,1,1023,2047] [] AS [16,155,156,157,158,159,160,161,162,163,164,165]))) (.ops AR))))
def rP:RC:=sD
def xhW:RC:=(So LK (Sq (So xg (Bk 0 (.loop rR))) (So A7 (Sq (So A6 (Bk 2 (.loop rQ))) (So AV (Bk 4 (.loop rP)))))))
def ZK:FnC:=⟨xhW,167,[],[],[]⟩
def LA:La:=[Wa 9 0,oo 10 (.app [.u8 0] 1 (.c (.byt [] .clip)) (.t 9)) [9],Wa 7 10]
def Lz:La:=[om 11 1,Wb 12 .lss 11 1,Wa 13 12,.grp 13 false [(xi 14 13 false (Mv 1)),(xi 15 13 false (Bc .gtr 14 8))] [14],Wn 16 13 15]
def Ly:La:=[Wa 17 7,Wa 6 17]
def Lx:La:=[Wa 18 1,Wb 19 .sub 18 1,Wa 8 19]
def Lw:La:=[om 20 8,Wb 21 .geq 20 0]
def Lv:La:=[Wa 24 7,om 25 2,WP 26 25,om 27 8,WS 28 .mul 8 27,WP 29 28,We 30 .shr 26 29,WH 31 30,WX 32 31,Wx 33 1 24 32,Wa 7 33]
def Lu:La:=[Wa 22 8,Wb 23 .sub 22 1,Wa 8 23]
def yU:RC:=(.post (Sq (So Lw (Xr 21 [2,8,21] (.exit 0))) (Sq (Bk 1 (.ops Lv)) (.ops Lu))) [.tok 7 107])
def xQ:RC:=yU
def Ls:La:=[Wa 34 7,Wa 6 34]
def xhV:RC:=(So Ng (So LA (Sq (So Lz (Xs 16 [1,2,16] (So Ly .ret))) (Sq (So Lx (Bk 0 (.pre [.tok 7 107] (.loop xQ)))) (So Ls .ret)))))
def ZJ:FnC:=⟨xhV,35,[.tmp 6],[0],[]⟩
def Lr:La:=[om 5 1,Wa 6 1,Wi 7 6,oo 8 (.mini (.t 7) (ci 65535)) [7],Xl 9 1 5 8,Wa 1 9]
def Lq:La:=[Wa 10 0,om 11 1,Wi 12 11,W5 13 117 10 2 12,Wa 14 1,Wx 15 1 13 14,Wa 4 15]
def xhU:RC:=(So oc (So Lr (So Lq .ret)))
def ZI:FnC:=⟨xhU,16,[.tmp 4],[0],[]⟩
def Lp:La:=[WD 10 true]
def Lo:La:=[WD 11 true]
def Lm:La:=[om 21 2,om 22 1,We 23 .sub 21 22,Wa 12 23]
def Ll:La:=[om 24 12,Wb 25 .leq 24 12]
def Lk:La:=[Wa 26 0,Wa 27 1,Wa 28 2,Wa 29 4,Xg 30 143 26 27 28 29]
def Lj:La:=[om 31 3,Wb 32 .eql 31 0]
def Li:La:=[Wa 33 0,Wa 34 1,Wa 35 2,Wa 36 4,Xg 37 144 33 34 35 36]
def Lh:La:=[om 38 10,WR 39 38]
def Lg:La:=[om 40 0,om 41 1,om 42 2,om 43 4,Xg 44 145 40 41 42 43]
def Lf:La:=[Wa 45 3,Wb 46 .sub 45 1,Wa 3 46]
def AQ:La:=[om 48 0,om 49 1,om 50 2,om 51 4,oo 52 (Ca 146 [.t 48,.t 49,.t 50,.t 51]) [48,49,50,51],Wa 47 52,WE 53 47 0,WO 54 47 1,Wa 13 53,Wa 14 54]
def AP:La:=[om 55 14,Wb 56 .eql 55 2]
def AO:La:=[om 57 0,om 58 1,om 59 2,om 60 4,Xg 61 147 57 58 59 60]
def AN:La:=[om 62 2,Wb 63 .sub 62 1,Wa 64 13,om 65 1,We 66 .sub 64 65,We 67 .sub 63 66,Wa 13 67]
def AM:La:=[Wh 14 1]
def AL:La:=[om 68 10,Wa 69 68,.grp 69 true [(xi 70 69 true (Mv 11))] [],Wr 71 69 70,Wa 72 71,.grp 72 true [(xi 73 72 true (Mv 14)),(xi 74 72 true (Bc .eql 73 1))] [14,73],Wr 75 72 74]
def AK:La:=[om 76 0,om 77 1,om 78 2,om 79 4,oo 80 (Ca 148 [.t 76,.t 77,.t 78,.t 79]) [76,77,78,79]]
def AJ:Lb:=[Fm 0 81 1,Wp 1 82 .gtr 81 0,Fm 2 83 82,Wq 3 84 83 true 4,Wq 4 85 83 true 0,Wq 5 86 83 true 1,Fi 6 87 83 true (Bc .sub 86 1),Fi 7 88 83 true (Ia 4 85 87),Fi 8 89 83 true (Lt 4 88),Wq 9 90 83 true 0,Wq 10 91 83 true 13,Fi 11 92 83 true (Ia 4 90 91),Fi 12 93 83 true (Lt 4 92),Fy 13 94 83 true (.call (.t 84) [.t 89,.t 93]),Fi 14 95 83 true (Bc .lss 94 0),Fi 15 96 83 true (.un .not (.t 95)),Fs 16 97 (Pf 83 96)]
def AI:La:=[om 98 0,Wa 99 1,om 100 2,Wa 101 13,om 102 4,oo 103 (Ca 149 [.t 98,.t 99,.t 100,.t 101,.t 102]) [98,99,100,101,102],Wa 15 103]
def AH:La:=[Wa 104 15,Wa 1 104]
def AG:La:=[om 106 0,om 107 1,om 108 2,Wa 109 13,om 110 4,oo 111 (Ca 150 [.t 106,.t 107,.t 108,.t 109,.t 110]) [106,107,108,109,110],Wa 105 111,WE 112 105 0,WO 113 105 1,Wa 16 112,Wa 17 113]
def AF:La:=[Wa 114 17,Wa 11 114]
def AE:La:=[om 115 16,om 116 1,We 117 .sub 115 116,om 118 2,om 119 16,We 120 .sub 118 119,Wa 18 117,Wa 19 120]
def AD:La:=[Wa 121 12,Wb 122 .quo 121 8,Wa 20 122]
def AC:La:=[om 123 18,om 124 19,We 125 .lss 123 124]
def AB:La:=[Wa 126 18,Wa 127 20,We 128 .geq 126 127,Wa 10 128]
def AA:La:=[om 129 0,Wa 130 1,om 131 16,om 132 3,om 133 4,oo 134 (Ca 119 [.t 129,.t 130,.t 131,.t 132,.t 133]) [129,130,131,132,133,134]]
def Az:La:=[Wa 135 16,Wb 136 .add 135 1,Wa 1 136]
def Ay:La:=[Wa 137 19,Wa 138 20,We 139 .geq 137 138,Wa 10 139]
def Ax:La:=[om 140 0,om 141 16,Wb 142 .add 141 1,Wa 143 2,om 144 3,om 145 4,oo 146 (Ca 119 [.t 140,.t 142,.t 143,.t 144,.t 145]) [140,142,143,144,145,146]]
def Aw:La:=[Wa 147 16,Wa 2 147]
def sC:RC:=(Bk 1 (So Lm (Sq (So Ll (Xs 25 [3,10,11,12,25] (So Lk .ret))) (Sq (So Lj (Xs 32 [3,10,11,12,32] (So Li .ret))) (Sq (So Lh (Xs 39 [39] (So Lg (.ops Lf)))) (So AQ (Sq (So AP (Xs 56 [14,56] (So AO (So AN (.ops AM))))) (Sq (So AL (Xs 75 [75] (So AK (Xs 80 [0,1,2,3,4,10,11,12,13,80] .ret)))) (Sq (Sq (.flt [0,1,3,7,7,7,39,119,247,7,7,1543,3591,8191,16383,32767,65535] [] AJ [81,82,83,84,85,86,87,88,89,90,91,92,93,94,95,96]) (Kc 97 (Kk [12,97] (So AI (So AH (.exit 1)))) (Kk [10,11,97] .skip))) (So AG (So AF (So AE (So AD (So AC (Kc 125 (Kk [19,125] (So AB (So AA (.ops Az)))) (Kk [18,125] (So Ay (So Ax (.ops Aw)))))))))))))))))))
def Av:RC:=sC
def xhT:RC:=(So Lp (So Lo (Bk 0 (.loop Av))))
def ZH:FnC:=⟨xhT,148,[],[],[]⟩
def Le:La:=[Wa 3 0,Xh 4 3,Wm 5 151 4,Wa 2 5]
def Lc:La:=[Wa 6 0,Wm 7 152 6,Wa 2 7]
def xhS:RC:=(So kZ (Sq (.cond (.c (.bool false)) (So Le .ret) .skip) (So Lc .ret)))
def ZG:FnC:=⟨xhS,8,[.tmp 2],[],[]⟩
def K9:La:=[Wa 6 0,on 7 (Ln 6),Wh 8 0]
def K8:La:=[on 10 (Ia 1 6 8),Wd 11 10,Wa 5 11]
def K7:La:=[om 12 5,om 13 3,We 14 .neq 12 13]
def K6:La:=[Wa 15 5,Wa 2 15]
def K5:La:=[Wb 16 .add 8 1,Wa 8 16]
def yT:RC:=(So DZ (Sq (Xr 9 [6,7,8,9] (.exit 0)) (Sq (Bk 1 (So K8 (So K7 (Kc 14 (Kk [3,6,7,8,14] (So K6 .ret)) (Kk [5,14] .skip))))) (.ops K5))))
def K4:RC:=yT
def K3:La:=[Wa 17 3,Wa 2 17]
def xhR:RC:=(So kZ (So Nb (Sq (So K9 (Bk 0 (.loop K4))) (So K3 .ret))))
def ZF:FnC:=⟨xhR,18,[.tmp 2],[],[]⟩
def K2:La:=[om 7 0,Wm 8 153 7,Wa 5 8]
def K1:La:=[om 9 1,Wm 10 153 9,Wa 6 10]
def K0:La:=[Wa 11 5]
def KZ:La:=[Wa 12 6]
def KY:La:=[Wa 13 6]
def xP:La:=[Wh 4 1]
def KX:La:=[om 14 0,om 15 1,We 16 .lss 14 15]
def Au:La:=[Wa 17 0,Wa 18 1,We 19 .gtr 17 18]
def xhQ:RC:=(So qb (So K2 (So K1 (Sq (So K0 (Xs 11 [0,1,11] (Sq (So KZ (Xs 12 [12] (So td .ret))) (So og .ret)))) (Sq (So KY (Xs 13 [0,1,13] (So xP .ret))) (Sq (So KX (Xs 16 [0,1,16] (So og .ret))) (Sq (So Au (Xs 19 [19] (So xP .ret))) (So td .ret))))))))
def ZE:FnC:=⟨xhQ,20,[.tmp 4],[],[]⟩
def KW:La:=[Wa 5 0,Wa 6 1,Ws 7 154 5 6,Wa 4 7]
def xhP:RC:=(So qb (So KW .ret))
def ZD:FnC:=⟨xhP,8,[.tmp 4],[],[]⟩
def KV:La:=[Wa 5 0,Wa 6 1,WP 7 6,We 8 .shr 5 7,Wb 9 .and 8 1,Wb 10 .eql 9 1,Wa 4 10]
def xhO:RC:=(So qa (So KV .ret))
def ZC:FnC:=⟨xhO,11,[.tmp 4],[],[]⟩
def KU:La:=[WF 2 0,Xj 4]
def KT:La:=[on 8 (.mk [(.byt [] .no)] 24 (ci 2) (ci 2)),Wa 5 8]
def KS:La:=[Wt 9 4 2,Wm 10 33 9,Wa 6 10]
def KR:La:=[om 11 7,Wb 12 .lss 11 2]
def KQ:La:=[om 15 6,Wi 16 15,Wb 17 .gtr 16 0,Wa 18 17,.grp 18 true [(xi 19 18 true (Mv 1)),(xi 20 18 true (Mv 7)),(xi 21 18 true (Ca 124 [.t 19,.t 20]))] [19,20],Wr 22 18 21]
def KP:La:=[om 23 5,om 24 7,om 25 7,om 26 6,Ws 27 99 25 26,WB 28 1 23 24,WJ 1 28 27]
def KO:La:=[Wa 13 7,Wb 14 .add 13 1,Wa 7 14]
def yS:RC:=(Sq (So KR (Xr 12 [1,6,7,12] (.exit 0))) (Sq (Bk 1 (So KQ (Xs 22 [22] (.ops KP)))) (.ops KO)))
def KN:RC:=yS
def KM:La:=[Wa 29 5,Wa 4 29]
def xhN:RC:=(So KU (So KT (So KS (Sq (So vW (Bk 0 (.loop KN))) (So KM .ret)))))
def ZB:FnC:=⟨xhN,30,[.tmp 4],[],[]⟩
def KL:La:=[Xf 0]
def KK:La:=[on 1 (.build [.int .u32 0,.int .u32 0,.int .u32 0,.int .u32 0,.int .u32 0,.int .u32 0,.int .u32 0,.int .u32 0,.int .u32 0,.int .u32 0,.int .u32 0,.int .u32 0,.int .u32 0,.int .u32 0,.int .u32 0,.int .u32 0,.int .u32 0,.int .u32 0,.int .u32 0,.int .u32 0,.int .u32 0,.int .u32 0,.int .u32 0,.int .u32 0,.int .u32 0,.int .u32 0,.int .u32 0,.int .u32 0,.int .u32 0,.int .u32 0,.int .u32 0,.int .u32 0,.int .u32 0,.int .u32 0,.int .u32 0,.int .u32 0,.int .u32 0,.int .u32 0,.int .u32 0,.int .u32 0,.int .u32 0,.int .u32 0,.int .u32 0,.int .u32 0,.int .u32 0,.int .u32 0,.int .u32 0,.int .u32 0,.int .u32 0,.int .u32 0,.int .u32 0,.int .u32 0,.int .u32 0,.int .u32 0,.int .u32 0,.int .u32 0,.int .u32 0,.int .u32 0,.int .u32 0,.int .u32 0,.int .u32 0,.int .u32 0,.int .u32 0,.int .u32 0] [(0,1,(.c (.int .u32 1116352408))),(1,1,(.c (.int .u32 1899447441))),(2,1,(.c (.int .u32 3049323471))),(3,1,(.c (.int .u32 3921009573))),(4,1,(.c (.int .u32 961987163))),(5,1,(.c (.int .u32 1508970993))),(6,1,(.c (.int .u32 2453635748))),(7,1,(.c (.int .u32 2870763221))),(8,1,(.c (.int .u32 3624381080))),(9,1,(.c (.int .u32 310598401))),(10,1,(.c (.int .u32 607225278))),(11,1,(.c (.int .u32 1426881987))),(12,1,(.c (.int .u32 1925078388))),(13,1,(.c (.int .u32 2162078206))),(14,1,(.c (.int .u32 2614888103))),(15,1,(.c (.int .u32 3248222580))),(16,1,(.c (.int .u32 3835390401))),(17,1,(.c (.int .u32 4022224774))),(18,1,(.c (.int .u32 264347078))),(19,1,(.c (.int .u32 604807628))),(20,1,(.c (.int .u32 770255983))),(21,1,(.c (.int .u32 1249150122))),(22,1,(.c (.int .u32 1555081692))),(23,1,(.c (.int .u32 1996064986))),(24,1,(.c (.int .u32 2554220882))),(25,1,(.c (.int .u32 2821834349))),(26,1,(.c (.int .u32 2952996808))),(27,1,(.c (.int .u32 3210313671))),(28,1,(.c (.int .u32 3336571891))),(29,1,(.c (.int .u32 3584528711))),(30,1,(.c (.int .u32 113926993))),(31,1,(.c (.int .u32 338241895))),(32,1,(.c (.int .u32 666307205))),(33,1,(.c (.int .u32 773529912))),(34,1,(.c (.int .u32 1294757372))),(35,1,(.c (.int .u32 1396182291))),(36,1,(.c (.int .u32 1695183700))),(37,1,(.c (.int .u32 1986661051))),(38,1,(.c (.int .u32 2177026350))),(39,1,(.c (.int .u32 2456956037))),(40,1,(.c (.int .u32 2730485921))),(41,1,(.c (.int .u32 2820302411))),(42,1,(.c (.int .u32 3259730800))),(43,1,(.c (.int .u32 3345764771))),(44,1,(.c (.int .u32 3516065817))),(45,1,(.c (.int .u32 3600352804))),(46,1,(.c (.int .u32 4094571909))),(47,1,(.c (.int .u32 275423344))),(48,1,(.c (.int .u32 430227734))),(49,1,(.c (.int .u32 506948616))),(50,1,(.c (.int .u32 659060556))),(51,1,(.c (.int .u32 883997877))),(52,1,(.c (.int .u32 958139571))),(53,1,(.c (.int .u32 1322822218))),(54,1,(.c (.int .u32 1537002063))),(55,1,(.c (.int .u32 1747873779))),(56,1,(.c (.int .u32 1955562222))),(57,1,(.c (.int .u32 2024104815))),(58,1,(.c (.int .u32 2227730452))),(59,1,(.c (.int .u32 2361852424))),(60,1,(.c (.int .u32 2428436474))),(61,1,(.c (.int .u32 2756734187))),(62,1,(.c (.int .u32 3204031479))),(63,1,(.c (.int .u32 3329325298)))]),Wu 64 0 1]
def xhM:RC:=(So KL (So KK .ret))
def ZA:FnC:=⟨xhM,2,[.cell 0 64 true],[],[]⟩
def KJ:La:=[on 6 (.litB []),om 7 0,Wx 8 1 6 7,on 9 (.litB [(.c (.u8 128))]),Wx 10 1 8 9,Wa 3 10]
def KI:La:=[om 11 3,Wi 12 11,Wb 13 .rem 12 64,Wb 14 .neq 13 56]
def KH:La:=[Wa 15 3,on 16 (.litB [(.c (.u8 0))]),Wx 17 1 15 16,Wa 3 17]
def yR:RC:=(.post (Sq (So KI (Xr 14 [14] (.exit 0))) (Bk 1 (.ops KH))) [.tok 3 103])
def xO:RC:=yR
def KG:La:=[Wa 18 0,Wi 19 18,WP 20 19,Xc 21 .mul 20,Wa 4 21]
def KF:La:=[Wh 5 7]
def KE:La:=[om 22 5,Wb 23 .geq 22 0]
def KD:La:=[Wa 26 3,om 27 4,om 28 5,WP 29 28,oo 30 (.bin .mul (.c (.int .u64 8)) (.t 29)) [29],We 31 .shr 27 30,WH 32 31,WX 33 32,Wx 34 1 26 33,Wa 3 34]
def KC:La:=[Wa 24 5,Wb 25 .sub 24 1,Wa 5 25]
def sB:RC:=(.post (Sq (So KE (Xr 23 [4,5,23] (.exit 2))) (Sq (Bk 3 (.ops KD)) (.ops KC))) [.tok 3 103])
def rO:RC:=sB
def At:La:=[Wa 35 3,Wa 2 35]
def xhL:RC:=(So lN (So KJ (Sq (Bk 0 (.pre [.tok 3 103] (.loop xO))) (So KG (Sq (So KF (Bk 2 (.pre [.tok 3 103] (.loop rO)))) (So At .ret))))))
def Zz:FnC:=⟨xhL,36,[.tmp 2],[],[]⟩
def nC:La:=[Xo 4]
def xN:Lb:=[Fm 0 5 0,Fm 1 6 1,Fs 2 7 (.bin .mul (ci 4) (.t 6)),Wo 3 8 1 5 7,Wc 4 9 8,Fs 5 10 (.toInt .u32 (.t 9)),Fs 6 11 (.bin .shl (.t 10) (.c (.int .u64 24))),Fm 7 12 0,Fm 8 13 1,Fs 9 14 (.bin .mul (ci 4) (.t 13)),Wp 10 15 .add 14 1,Wo 11 16 1 12 15,Wc 12 17 16,Fs 13 18 (.toInt .u32 (.t 17)),Fs 14 19 (.bin .shl (.t 18) (.c (.int .u64 16))),Wf 15 20 .or 11 19,Fm 16 21 0,Fm 17 22 1,Fs 18 23 (.bin .mul (ci 4) (.t 22)),Wp 19 24 .add 23 2,Wo 20 25 1 21 24,Wc 21 26 25,Fs 22 27 (.toInt .u32 (.t 26)),Fs 23 28 (.bin .shl (.t 27) (.c (.int .u64 8))),Wf 24 29 .or 20 28,Fm 25 30 0,Fm 26 31 1,Fs 27 32 (.bin .mul (ci 4) (.t 31)),Wp 28 33 .add 32 3,Wo 29 34 1 30 33,Wc 30 35 34,Fs 31 36 (.toInt .u32 (.t 35)),Wf 32 37 .or 29 36,Fm 33 4 37]
def xhK:RC:=(So nC (Sq (.flt [0,0,2,7,15,31,63,0,0,256,768,1920,3968,8064,16256,32767,0,0,131072,393216,983040,2031616,4128768,8323072,16777215,0,0,67108864,201326592,503316480,1040187392,2113929216,4294967295,8589934591] [] xN [0,1,5,6,7,8,9,10,11,12,13,14,15,16,17,18,19,20,21,22,23,24,25,26,27,28,29,30,31,32,33,34,35,36,37]) .ret))
def Zy:FnC:=⟨xhK,38,[.tmp 4],[],[]⟩
def KB:La:=[om 5 0,om 6 1,We 7 .shr 5 6,Wa 8 0,Wa 9 1,Xq 10 .sub 9,We 11 .shl 8 10,We 12 .or 7 11,Wa 4 12]
def xhJ:RC:=(So nC (So KB .ret))
def Zx:FnC:=⟨xhJ,13,[.tmp 4],[],[]⟩
def Kv:La:=[om 5 4,om 6 0,Wi 7 6,We 8 .lss 5 7]
def Ku:Lb:=[Fm 0 11 3,Fm 1 12 0,Fm 2 13 4,Wo 3 14 1 12 13,Wc 4 15 14,Fs 5 16 (.bin .shr (.t 15) (.c (.int .u64 24))),Xb 6 17 16,Fm 7 18 0,Fm 8 19 4,Wo 9 20 1 18 19,Wc 10 21 20,Fs 11 22 (.bin .shr (.t 21) (.c (.int .u64 16))),Xb 12 23 22,Fm 13 24 0,Fm 14 25 4,Wo 15 26 1 24 25,Wc 16 27 26,Fs 17 28 (.bin .shr (.t 27) (.c (.int .u64 8))),Xb 18 29 28,Fm 19 30 0,Fm 20 31 4,Wo 21 32 1 30 31,Wc 22 33 32,Xb 23 34 33,Fs 24 35 (.litB [.t 17,.t 23,.t 29,.t 34]),Fz 25 36 (.app [.u8 0] 1 (.t 11) (.t 35)),⟨26,false,(xm 3 36)⟩]
def Kt:La:=[Wa 9 4,Wb 10 .add 9 1,Wa 4 10]
def yP:RC:=(.post (Sq (So Kv (Xr 8 [0,4,8] (.exit 0))) (Sq (Bk 1 (.flt [0,0,0,6,14,30,62,0,0,384,896,1920,3968,0,0,24576,57344,122880,253952,0,0,1572864,3670016,7864320,16777214,33554431,67108863] [136] Ku [11,12,13,14,15,16,17,18,19,20,21,22,23,24,25,26,27,28,29,30,31,32,33,34,35,36])) (.ops Kt))) [.tok 3 103])
def xM:RC:=yP
def xhI:RC:=(So lN (So xV (Sq (So td (Bk 0 (.pre [.tok 3 103] (.loop xM)))) (So rS .ret))))
def Zw:FnC:=⟨xhI,38,[.tmp 2],[],[]⟩
def pL:La:=[oo 4 (.mov (.c (.str []))) [4]]
def Ks:La:=[om 10 1,Wb 11 .eql 10 10]
def Kr:La:=[om 12 0,WS 13 .leq 0 12,Wa 14 13,.grp 14 true [(xi 15 14 true (Mv 0)),(xi 16 14 true (Bc .lss 15 100))] [15],Wr 17 14 16]
def Kq:La:=[Wa 18 0,Wm 19 155 18,Wa 4 19]
def Kp:La:=[on 5 (.new (.bar (au 24 0)))]
def Ko:La:=[om 20 0,WP 21 20,Wa 6 21]
def Kn:La:=[om 22 0,Wb 23 .lss 22 0]
def Km:La:=[Wa 24 6,oo 25 (.un .neg (.t 24)) [24],Wa 6 25]
def Kj:La:=[om 26 6,Wm 27 156 26,Wa 7 27]
def Ki:La:=[om 28 7,WS 29 .add 1 28,oo 30 (.slcA 24 1 (.t 5) (some (ci 1)) (some (.t 29)) none) [29],Wa 31 6,oo 32 (Ca 157 [.t 30,.t 31]) [30,31,32]]
def As:La:=[Wa 33 0,Wb 34 .lss 33 0]
def Ar:La:=[on 35 (.iaddrA 24 1 (.t 5) (ci 0)),.op ⟨none,none,.store 1 (.t 35) (.c (.u8 45))⟩ [35]]
def Aq:La:=[Wa 36 7,WS 37 .add 1 36,oo 38 (.slcA 24 1 (.t 5) none (some (.t 37)) none) [5,37],W6 39 38,Wa 4 39]
def Ap:La:=[Wa 40 7,WS 41 .add 1 40,oo 42 (.slcA 24 1 (.t 5) (some (ci 1)) (some (.t 41)) none) [5,41],W6 43 42,Wa 4 43]
def Ao:La:=[om 45 0,WP 46 45,Wa 47 1,Wa 48 0,Wb 49 .lss 48 0,oo 50 (Ca 158 [(.c (.byt [] .clip)),.t 46,.t 47,.t 49,(.c (.bool false))]) [46,47,49],Wa 44 50,WE 51 44 0,WO 52 44 1,.op (xm 8 51) [8,51],Wa 9 52]
def An:La:=[Wa 53 9,Wa 4 53]
def xhH:RC:=(So pL (Sq (So Ks (Xs 11 [1,11] (Sq (So Kr (Xs 17 [17] (So Kq .ret))) (So Kp (So Ko (Sq (So Kn (Xs 23 [23] (.ops Km))) (So Kj (So Ki (Sq (So As (Xs 34 [34] (So Ar (So Aq .ret)))) (So Ap .ret)))))))))) (So Ao (So An .ret))))
def Zv:FnC:=⟨xhH,54,[.tmp 4],[],[]⟩
def Kh:La:=[om 7 0,oo 8 (.bin .eql (.t 7) (.c (.str []))) [7],Wa 9 8,.grp 9 false [(xi 10 9 false (Mv 1)),(xi 11 9 false (.bin .eql (.t 10) (.c (.str []))))] [10],Wn 12 9 11]
def Kg:La:=[Wa 13 0,Wa 4 13]
def Kf:La:=[om 14 1,WL 15 true 14,Wb 16 .eql 15 1,Wa 17 16,.grp 17 true [(xi 18 17 true (Mv 1)),(xi 19 17 true (.idxS (.t 18) (ci 0))),(xi 20 17 true (.bin .lss (.t 19) (.c (.u8 128))))] [18,19],Wr 21 17 20]
def Ke:Lb:=[Fm 0 22 0,Fm 1 23 1,Fs 2 24 (.idxS (.t 23) (ci 0)),Fm 4 26 1,Fs 5 27 (.idxS (.t 26) (ci 0)),WI 3 25 160 22 24,WI 6 28 159 25 27,Fm 7 4 28]
def Kd:La:=[om 30 1,Wm 31 161 30,Wa 29 31,WE 32 29 0,WO 33 29 1,on 5 (.new (.arr 1 (au 256 [.bool false]))),Wu 256 5 32,Wa 6 33]
def Kb:La:=[Wa 34 6]
def Ka:La:=[Wa 35 0,oo 36 (Ca 163 [.t 35,.t 5]) [35],oo 37 (Ca 162 [.t 36,.t 5]) [5,36],Wa 4 37]
def J9:La:=[Wa 38 0,om 39 1,Ws 40 165 38 39,Wa 41 1,Ws 42 164 40 41,Wa 4 42]
def xhG:RC:=(So pL (Sq (So Kh (Xs 12 [1,12] (So Kg .ret))) (Sq (So Kf (Xs 21 [21] (Sq (.flt [0,0,2,7,0,16,63,127] [] Ke [0,1,22,23,24,25,26,27,28]) .ret))) (Sq (So Kd (So Kb (Kc 34 (Kk [1,34] (So Ka .ret)) (Kk [5,34] .skip)))) (So J9 .ret)))))
def Zu:FnC:=⟨xhG,43,[.tmp 4],[],[]⟩
def J8:La:=[om 6 0,om 7 1,Ws 8 166 6 7,WR 9 8]
def J7:La:=[Wa 10 0,Wa 4 10,WD 5 false]
def J6:La:=[Wa 11 0,Wa 12 1,WL 13 true 12,oo 14 (.slcS (.t 11) (some (.t 13)) none) [11,13],Wa 4 14,WD 5 true]
def xhF:RC:=(So Nd (Sq (So J8 (Xs 9 [1,9] (So J7 .ret))) (So J6 .ret)))
def Zt:FnC:=⟨xhF,15,[.tmp 4,.tmp 5],[],[]⟩
def xL:La:=[WW 2 0,oo 3 (.mov (.c .nili)) [3]]
def J5:La:=[om 7 0,Wm 8 167 7,Wa 6 8,WE 9 6 0,WO 10 6 1,Wa 4 9,Wa 5 10]
def J4:La:=[om 11 5,oo 12 (.isni true (.t 11)) [11]]
def J3:La:=[Wa 13 4,Wa 14 0,Wa 15 5,oo 16 (Ca 168 [(.c (.str [65,116,111,105])),.t 14,ci 0,ci 0,.t 15]) [14,15],Wa 2 13,Wa 3 16]
def J2:La:=[Wa 17 4,Wa 2 17,on 3 (.mov (.c .nili))]
def xhE:RC:=(So xL (So J5 (Sq (So J4 (Kc 12 (Kk [12] (So J3 .ret)) (Kk [0,5,12] .skip))) (So J2 .ret))))
def Zs:FnC:=⟨xhE,18,[.tmp 2,.tmp 3],[],[]⟩
def J1:La:=[on 17 (.lit 1 [(.c (.int .u32 1732584193)),(.c (.int .u32 4023233417)),(.c (.int .u32 2562383102)),(.c (.int .u32 271733878)),(.c (.int .u32 3285377520))]),Wa 3 17]
def J0:La:=[Wa 18 0,Wm 19 127 18,Wa 4 19]
def JZ:La:=[om 20 5,om 21 4,Wi 22 21,We 23 .lss 20 22]
def JY:La:=[on 6 (.new (.arr 1 (au 80 [.int .u32 0])))]
def JX:La:=[om 26 7,Wb 27 .lss 26 80]
def JW:La:=[om 30 7,Wb 31 .lss 30 16]
def JV:La:=[om 32 7,om 33 4,om 34 5,om 35 5,Wb 36 .add 35 64,oo 37 (.slcL 1 (.t 33) (some (.t 34)) (some (.t 36)) none) [33,34,36],om 38 7,Ws 39 128 37 38,oo 40 (.iaddrA 80 1 (.t 6) (.t 32)) [32],WJ 1 40 39]
def Am:Lb:=[Fm 0 41 7,Fm 1 42 7,Wp 2 43 .sub 42 3,WU 3 44 6 43,Wc 4 45 44,Fm 5 46 7,Wp 6 47 .sub 46 8,WU 7 48 6 47,Wc 8 49 48,Wf 9 50 .xor 45 49,Fm 10 51 7,Wp 11 52 .sub 51 14,WU 12 53 6 52,Wc 13 54 53,Wf 14 55 .xor 50 54,Fm 15 56 7,Wp 16 57 .sub 56 16,WU 17 58 6 57,Wc 18 59 58,Wf 19 60 .xor 55 59,Fz 20 61 (Ca 169 [.t 60,(.c (.int .u64 1))]),WU 21 62 6 41,Fr 22 1 62 61]
def Al:La:=[Wa 28 7,Wb 29 .add 28 1,Wa 7 29]
def sA:RC:=(Sq (So JX (Xr 27 [7,27] (.exit 2))) (Sq (Bk 3 (Sq (So JW (Xs 31 [31] (So JV (.exit 3)))) (.flt [0,0,2,6,14,0,32,96,224,510,0,1024,3072,7168,16382,0,32768,98304,229376,524286,1048574,2097151,4194303] [] Am [41,42,43,44,45,46,47,48,49,50,51,52,53,54,55,56,57,58,59,60,61,62]))) (.ops Al)))
def rN:RC:=sA
def Ak:Lb:=[Fm 0 63 3,Wy 1 64 1 63 0,Wc 2 65 64,Fm 3 66 3,Wy 4 67 1 66 1,Wc 5 68 67,Fm 6 69 3,Wy 7 70 1 69 2,Wc 8 71 70,Fm 9 72 3,Wy 10 73 1 72 3,Wc 11 74 73,Fm 12 75 3,Wy 13 76 1 75 4,Wc 14 77 76,Fm 15 8 65,Fm 16 9 68,Fm 17 10 71,Fm 18 11 74,Fm 19 12 77]
def Aj:La:=[Wh 13 0]
def Ai:La:=[om 78 13,Wb 79 .lss 78 80]
def Ah:La:=[om 82 9,om 83 10,We 84 .xor 82 83,om 85 11,We 86 .xor 84 85,Wa 14 86,on 15 (.mov (.c (.int .u32 3395469782)))]
def Ag:La:=[om 88 13,Wb 89 .lss 88 20,Wa 87 89]
def Af:La:=[om 90 9,om 91 10,We 92 .and 90 91,om 93 9,oo 94 (.un .xor (.t 93)) [93],om 95 11,We 96 .and 94 95,We 97 .xor 92 96,Wa 14 97,on 15 (.mov (.c (.int .u32 1518500249)))]
def Ae:La:=[om 99 13,Wb 100 .lss 99 40,Wa 98 100]
def Ad:La:=[on 15 (.mov (.c (.int .u32 1859775393)))]
def Ac:La:=[om 102 13,Wb 103 .lss 102 60,Wa 101 103]
def Ab:La:=[om 104 9,om 105 10,We 106 .and 104 105,om 107 9,om 108 11,We 109 .and 107 108,We 110 .xor 106 109,om 111 10,om 112 11,We 113 .and 111 112,We 114 .xor 110 113,Wa 14 114,on 15 (.mov (.c (.int .u32 2400959708)))]
def Aa:Lb:=[Fm 0 115 8,Fm 2 117 14,Fm 4 119 12,Fm 6 121 15,Fm 8 123 13,WU 9 124 6 123,Wc 10 125 124,Fz 1 116 (Ca 169 [.t 115,(.c (.int .u64 5))]),Wf 3 118 .add 116 117,Wf 5 120 .add 118 119,Wf 7 122 .add 120 121,Wf 11 126 .add 122 125,Fm 12 16 126]
def z8:La:=[Wa 127 16,Wa 128 8,Wa 129 9,oo 130 (Ca 169 [.t 129,(.c (.int .u64 30))]) [129],Wa 131 10,Wa 132 11,Wa 8 127,Wa 9 128,Wa 10 130,Wa 11 131,Wa 12 132]
def z7:La:=[Wa 80 13,Wb 81 .add 80 1,Wa 13 81]
def sx:RC:=(Sq (So Ai (Xr 79 [6,13,79] (.exit 4))) (Sq (Bk 5 (So Ah (Sq (Bk 6 (So Ag (Kc 87 (Kk [14,15,87] (.ops Af)) (Kk [87] (So Ae (Kc 98 (Kk [15,98] (.ops Ad)) (Kk [98] (So Ac (Xs 101 [14,15,101] (.ops Ab)))))))))) (Sq (.flt [0,1,0,7,0,31,0,127,0,256,768,2047,4095] [] Aa [12,14,15,115,116,117,118,119,120,121,122,123,124,125,126]) (.ops z8))))) (.ops z7)))
def fI:RC:=sx
def z6:Lb:=[Fm 0 133 3,Wy 1 134 1 133 0,Wc 2 135 134,Fm 3 136 8,Wf 4 137 .add 135 136,Fm 5 138 3,Wy 6 139 1 138 1,Wc 7 140 139,Fm 8 141 9,Wf 9 142 .add 140 141,Fm 10 143 3,Wy 11 144 1 143 2,Wc 12 145 144,Fm 13 146 10,Wf 14 147 .add 145 146,Fm 15 148 3,Wy 16 149 1 148 3,Wc 17 150 149,Fm 18 151 11,Wf 19 152 .add 150 151,Fm 20 153 3,Wy 21 154 1 153 4,Wc 22 155 154,Fm 23 156 12,Wf 24 157 .add 155 156,Fs 25 158 (.lit 1 [.t 137,.t 142,.t 147,.t 152,.t 157]),⟨26,false,(xm 3 158)⟩]
def zZ:La:=[Wa 24 5,Wb 25 .add 24 64,Wa 5 25]
def sw:RC:=(.post (Sq (So JZ (Xr 23 [4,5,23] (.exit 0))) (Sq (Bk 1 (So JY (Sq (So vW (Bk 2 (.loop rN))) (Sq (.flt [0,1,3,0,8,24,0,64,192,0,512,1536,0,4096,12288,7,32831,98815,233471,524287] [] Ak [63,64,65,66,67,68,69,70,71,72,73,74,75,76,77]) (Sq (So Aj (Bk 4 (.loop fI))) (.flt [0,1,3,0,15,0,32,96,0,480,0,1024,3072,0,15360,0,32768,98304,0,491520,0,1048576,3145728,0,15728640,33554431,67108863] [] z6 [8,9,10,11,12,133,134,135,136,137,138,139,140,141,142,143,144,145,146,147,148,149,150,151,152,153,154,155,156,157,158])))))) (.ops zZ))) [.gc [106]])
def rM:RC:=sw
def zY:La:=[Wa 159 3,Wm 160 130 159,Wa 2 160]
def xhD:RC:=(So lN (So J1 (So J0 (Sq (So tc (Bk 0 (.loop rM))) (So zY .ret)))))
def Zr:FnC:=⟨xhD,161,[.tmp 2],[],[]⟩
def JU:La:=[Wa 9 0,WH 10 9,WX 11 10,Wa 5 11]
def JT:La:=[Wa 12 1,on 13 (Ln 12),Wh 14 0]
def JS:La:=[on 15 (Bb .lss 14 13)]
def JR:La:=[on 16 (Ia 1 12 14),Wd 17 16,Wa 7 17]
def JQ:La:=[om 18 7,Wi 19 18,Xh 20 19,Wa 8 20]
def JP:La:=[Wa 21 5,om 22 8,oo 23 (.bin .shr (.t 22) (.c (.int .u64 24))) [22],WH 24 23,om 25 8,Xp 26 .shr 25,WH 27 26,om 28 8,Xc 29 .shr 28,WH 30 29,Wa 31 8,WH 32 31,oo 33 (.litB [.t 24,.t 27,.t 30,.t 32]) [24,27,30,32],Wx 34 1 21 33,Wa 5 34]
def JO:La:=[Wa 35 5,Wa 36 7,Wx 37 1 35 36,Wa 5 37]
def JN:La:=[Wb 38 .add 14 1,Wa 14 38]
def yO:RC:=(.post (So JS (Sq (Xr 15 [12,13,14,15] (.exit 0)) (Sq (Bk 1 (So JR (So JQ (So JP (.ops JO))))) (.ops JN)))) [.tok 5 105])
def JM:RC:=yO
def zX:La:=[Wa 39 5,Wa 4 39]
def xhC:RC:=(So oc (So JU (Sq (So JT (Bk 0 (.pre [.tok 5 105] (.loop JM)))) (So zX .ret))))
def Zq:FnC:=⟨xhC,40,[.tmp 4],[],[]⟩
def JL:La:=[Wa 5 0,on 6 (Ln 5),Wh 7 0]
def JK:La:=[on 8 (Bb .lss 7 6)]
def JJ:La:=[on 9 (Ia 1 5 7),Wd 10 9,Wa 4 10]
def JI:La:=[om 11 4,Xe 12 .lss 11,Wa 13 12,.grp 13 false [(xi 14 13 false (Mv 4)),(xi 15 13 false (.bin .gtr (.t 14) (.c (.u8 126))))] [4,14],Wn 16 13 15]
def JH:La:=[Wb 17 .add 7 1,Wa 7 17]
def yN:RC:=(So JK (Sq (Xr 8 [5,6,7,8] (.exit 0)) (Sq (Bk 1 (So JJ (So JI (Xs 16 [5,6,7,16] (So nk .ret))))) (.ops JH))))
def xK:RC:=yN
def xhB:RC:=(So vP (Sq (So JL (Bk 0 (.loop xK))) (So vR .ret)))
def Zp:FnC:=⟨xhB,18,[.tmp 2],[],[]⟩
def xhA:RC:=(So nC (Sq (.flt [0,0,2,7,15,31,63,0,0,256,768,1920,3968,8064,16256,32767,0,0,131072,393216,983040,2031616,4128768,8323072,16777215,0,0,67108864,201326592,503316480,1040187392,2113929216,4294967295,8589934591] [] xN [0,1,5,6,7,8,9,10,11,12,13,14,15,16,17,18,19,20,21,22,23,24,25,26,27,28,29,30,31,32,33,34,35,36,37]) .ret))
def Zo:FnC:=⟨xhA,38,[.tmp 4],[],[]⟩
def JG:La:=[Wa 6 1,WP 7 6,oo 8 (.bin .and (.t 7) (.c (.int .u64 31))) [7],Wa 5 8]
def JF:La:=[om 9 0,om 10 5,We 11 .shl 9 10,Wa 12 0,Wa 13 5,Xq 14 .sub 13,We 15 .shr 12 14,We 16 .or 11 15,Wa 4 16]
def xhz:RC:=(So nC (So JG (So JF .ret)))
def Zn:FnC:=⟨xhz,17,[.tmp 4],[],[]⟩
def JE:La:=[om 10 1,Wb 11 .add 10 1,Wa 8 11]
def JD:La:=[om 12 8,om 13 2,We 14 .lss 12 13]
def JC:La:=[om 17 8,Wa 9 17]
def JB:Lb:=[Fm 0 18 9,Fm 1 19 1,Wf 2 20 .gtr 18 19,Fm 3 21 20,Wq 4 22 21 true 3,Wq 5 23 21 true 0,Wq 6 24 21 true 9,Fi 7 25 21 true (Ia 4 23 24),Fi 8 26 21 true (Lt 4 25),Wq 9 27 21 true 0,Wq 10 28 21 true 9,Fi 11 29 21 true (Bc .sub 28 1),Fi 12 30 21 true (Ia 4 27 29),Fi 13 31 21 true (Lt 4 30),Fy 14 32 21 true (.call (.t 22) [.t 26,.t 31]),Fi 15 33 21 true (Bc .lss 32 0),Fs 16 34 (Pf 21 33)]
def JA:Lb:=[Fm 0 37 0,Fm 1 38 9,Fm 2 39 0,Fm 3 40 9,Wp 4 41 .sub 40 1,Fm 5 42 0,Fm 6 43 9,Wp 7 44 .sub 43 1,Wo 8 45 4 42 44,Fs 9 46 (Lt 4 45),Fm 10 47 0,Fm 11 48 9,Wo 12 49 4 47 48,Fs 13 50 (Lt 4 49),Wo 14 51 4 37 38,Fr 15 4 51 46,Wo 16 52 4 39 41,Fr 17 4 52 50]
def Jz:La:=[Wa 35 9,Wb 36 .sub 35 1,Wa 9 36]
def yM:RC:=(Sq (Sq (.flt [0,0,3,7,15,15,15,111,239,15,15,1039,3599,7695,16383,32767,65535] [] JB [18,19,20,21,22,23,24,25,26,27,28,29,30,31,32,33]) (Xr 34 [9,34] (.exit 2))) (Sq (Bk 3 (.flt [0,0,0,0,8,0,0,64,224,480,0,0,3072,7168,16355,32739,65535,131071] [] JA [37,38,39,40,41,42,43,44,45,46,47,48,49,50,51,52])) (.ops Jz)))
def xJ:RC:=yM
def Jy:La:=[Wa 15 8,Wb 16 .add 15 1,Wa 8 16]
def yL:RC:=(Sq (So JD (Xr 14 [0,1,2,3,8,14] (.exit 0))) (Sq (Bk 1 (So JC (Bk 2 (.loop xJ)))) (.ops Jy)))
def xI:RC:=yL
def xhy:RC:=(So JE (Bk 0 (.loop xI)))
def Zm:FnC:=⟨xhy,53,[],[],[]⟩
def Jx:La:=[om 3 0,oo 4 (.bin .geq (.t 3) (.c (.int .u64 4294967296))) [3]]
def Jw:La:=[Wa 5 0,oo 6 (.bin .shr (.t 5) (.c (.int .u64 32))) [5],Wa 0 6]
def Jv:La:=[Wh 2 32]
def Ju:La:=[om 7 0,oo 8 (.bin .geq (.t 7) (.c (.int .u64 65536))) [7]]
def Jt:La:=[Wa 9 0,Xp 10 .shr 9,Wa 0 10]
def Js:La:=[Wa 11 2,Wb 12 .add 11 16,Wa 2 12]
def Jr:La:=[om 13 0,oo 14 (.bin .geq (.t 13) (.c (.int .u64 256))) [13]]
def Jq:La:=[Wa 15 0,Xc 16 .shr 15,Wa 0 16]
def Jp:La:=[Wa 17 2,Wb 18 .add 17 8,Wa 2 18]
def zW:La:=[Wa 19 2,Wa 20 0,WH 21 20,oo 22 (.idxS (.c (.str cs0)) (.t 21)) [21],oo 23 (.toInt .i64 (.t 22)) [22],We 24 .add 19 23,Wa 2 24]
def xhx:RC:=(So i5 (Sq (So Jx (Xs 4 [2,4] (So Jw (.ops Jv)))) (Sq (So Ju (Xs 8 [8] (So Jt (.ops Js)))) (Sq (So Jr (Xs 14 [14] (So Jq (.ops Jp)))) (So zW .ret)))))
def Zl:FnC:=⟨xhx,25,[.tmp 2],[],[]⟩
def Jo:La:=[om 3 0,Wa 4 0,We 5 .neq 3 4,Wa 2 5]
def xhw:RC:=(So vP (So Jo .ret))
def Zk:FnC:=⟨xhw,6,[.tmp 2],[],[]⟩
def Jn:La:=[om 5 0,Wa 6 0,Wb 7 .add 6 1,oo 8 (.slcS (.c (.str cs1)) (some (.t 5)) (some (.t 7))) [5,7],Wa 2 8]
def Jm:La:=[om 9 0,Wb 10 .mul 9 2,Wa 11 0,Wb 12 .mul 11 2,Wb 13 .add 12 2,oo 14 (.slcS (.c (.str cs2)) (some (.t 10)) (some (.t 13))) [10,13],Wa 2 14]
def xhv:RC:=(So DY (Sq (So M9 (Xs 4 [4] (So Jn .ret))) (So Jm .ret)))
def Zj:FnC:=⟨xhv,15,[.tmp 2],[],[]⟩
def Jl:La:=[om 4 0,Wm 5 152 4,Wm 6 178 5,Wa 3 6]
def Jk:La:=[om 7 3,Wa 8 0,Wa 9 3,oo 10 (.iaddrA 20 1 (.c (.pp iQ)) (.t 9)) [9],Wd 11 10,We 12 .geq 8 11,Wm 13 179 12,We 14 .add 7 13,Wa 2 14]
def xhu:RC:=(So kZ (So Jl (So Jk .ret)))
def Zi:FnC:=⟨xhu,15,[.tmp 2],[],[]⟩
def Jj:La:=[om 17 0,Wi 18 17,Wa 4 18]
def Ji:La:=[om 19 4,Wb 20 .geq 19 8]
def Jh:La:=[om 21 1,oo 22 (.bin .rem (.t 21) (.c (.int .u64 100000000))) [21],Xh 23 22,Wa 5 23]
def Jg:La:=[Wa 24 1,oo 25 (.bin .quo (.t 24) (.c (.int .u64 100000000))) [24],Wa 1 25]
def Jf:La:=[om 26 5,Xi 27 .quo 26,Wa 28 5,Xi 29 .rem 28,Wa 6 27,Wa 7 29]
def Je:La:=[om 30 7,W0 31 .quo 30,W2 32 .mul 31,Wa 33 7,W0 34 .rem 33,W2 35 .mul 34,Wa 8 32,Wa 9 35]
def Jd:La:=[om 36 6,W0 37 .quo 36,W2 38 .mul 37,Wa 39 6,W0 40 .rem 39,W2 41 .mul 40,Wa 10 38,Wa 11 41]
def Jc:Lb:=[Fm 0 42 0,Fm 1 43 4,Wp 2 44 .sub 43 1,Fm 3 45 0,Fm 4 46 4,Wp 5 47 .sub 46 2,Fm 6 48 9,W3 7 49 .add 48,WQ 8 50 49,Fm 9 51 9,WQ 10 52 51,Wo 11 53 1 42 44,Fr 12 1 53 50,Wo 13 54 1 45 47,Fr 14 1 54 52]
def Jb:Lb:=[Fm 0 55 0,Fm 1 56 4,Wp 2 57 .sub 56 3,Fm 3 58 0,Fm 4 59 4,Wp 5 60 .sub 59 4,Fm 6 61 8,W3 7 62 .add 61,WQ 8 63 62,Fm 9 64 8,WQ 10 65 64,Wo 11 66 1 55 57,Fr 12 1 66 63,Wo 13 67 1 58 60,Fr 14 1 67 65]
def Ja:Lb:=[Fm 0 68 0,Fm 1 69 4,Wp 2 70 .sub 69 5,Fm 3 71 0,Fm 4 72 4,Wp 5 73 .sub 72 6,Fm 6 74 11,W3 7 75 .add 74,WQ 8 76 75,Fm 9 77 11,WQ 10 78 77,Wo 11 79 1 68 70,Fr 12 1 79 76,Wo 13 80 1 71 73,Fr 14 1 80 78]
def zV:Lb:=[Fm 0 81 0,Fm 1 82 4,Wp 2 83 .sub 82 7,Fm 3 84 0,Fm 4 85 4,Wp 5 86 .sub 85 8,Fm 6 87 10,W3 7 88 .add 87,WQ 8 89 88,Fm 9 90 10,WQ 10 91 90,Wo 11 92 1 81 83,Fr 12 1 92 89,Wo 13 93 1 84 86,Fr 14 1 93 91]
def zU:La:=[Wa 94 4,Wb 95 .sub 94 8,Wa 4 95]
def su:RC:=(Sq (So Ji (Xr 20 [20] (.exit 0))) (Bk 1 (So Jh (So Jg (So Jf (So Je (So Jd (Sq (.flt [0,0,2,0,0,16,0,64,192,0,512,455,2503,8191,16383] [] Jc [9,42,43,44,45,46,47,48,49,50,51,52,53,54]) (Sq (.flt [0,0,2,0,0,16,0,64,192,0,512,455,2503,8191,16383] [] Jb [8,55,56,57,58,59,60,61,62,63,64,65,66,67]) (Sq (.flt [0,0,2,0,0,16,0,64,192,0,512,455,2503,8191,16383] [] Ja [11,68,69,70,71,72,73,74,75,76,77,78,79,80]) (Sq (.flt [0,0,2,0,0,16,0,64,192,0,512,455,2503,8191,16383] [] zV [10,81,82,83,84,85,86,87,88,89,90,91,92,93]) (.ops zU))))))))))))
def zT:RC:=su
def zS:La:=[Wa 96 1,Xh 97 96,Wa 12 97]
def zR:La:=[om 98 4,Wb 99 .geq 98 4]
def zQ:La:=[om 100 12,Xi 101 .rem 100,Wa 13 101]
def zP:La:=[Wa 102 12,Xi 103 .quo 102,Wa 12 103]
def zO:La:=[om 104 13,W0 105 .quo 104,W2 106 .mul 105,Wa 107 13,W0 108 .rem 107,W2 109 .mul 108,Wa 14 106,Wa 15 109]
def zN:Lb:=[Fm 0 110 0,Fm 1 111 4,Wp 2 112 .sub 111 1,Fm 3 113 0,Fm 4 114 4,Wp 5 115 .sub 114 2,Fm 6 116 15,W3 7 117 .add 116,WQ 8 118 117,Fm 9 119 15,WQ 10 120 119,Wo 11 121 1 110 112,Fr 12 1 121 118,Wo 13 122 1 113 115,Fr 14 1 122 120]
def zM:Lb:=[Fm 0 123 0,Fm 1 124 4,Wp 2 125 .sub 124 3,Fm 3 126 0,Fm 4 127 4,Wp 5 128 .sub 127 4,Fm 6 129 14,W3 7 130 .add 129,WQ 8 131 130,Fm 9 132 14,WQ 10 133 132,Wo 11 134 1 123 125,Fr 12 1 134 131,Wo 13 135 1 126 128,Fr 14 1 135 133]
def zL:La:=[Wa 136 4,Wb 137 .sub 136 4,Wa 4 137]
def zK:La:=[om 138 4,Wb 139 .geq 138 2]
def zJ:La:=[om 140 12,W0 141 .rem 140,W2 142 .mul 141,Wa 16 142]
def zI:La:=[Wa 143 12,W0 144 .quo 143,Wa 12 144]
def zH:Lb:=[Fm 0 145 0,Fm 1 146 4,Wp 2 147 .sub 146 1,Fm 3 148 0,Fm 4 149 4,Wp 5 150 .sub 149 2,Fm 6 151 16,W3 7 152 .add 151,WQ 8 153 152,Fm 9 154 16,WQ 10 155 154,Wo 11 156 1 145 147,Fr 12 1 156 153,Wo 13 157 1 148 150,Fr 14 1 157 155]
def zG:La:=[Wa 158 4,Wb 159 .sub 158 2,Wa 4 159]
def zF:La:=[Wa 160 4,Wb 161 .gtr 160 0]
def zE:La:=[Wa 162 0,Wa 163 12,oo 164 (.bin .add (.c (.int .u32 48)) (.t 163)) [163],WH 165 164,oo 166 (.iaddrL 1 (.t 162) (ci 0)) [162],WJ 1 166 165]
def xht:RC:=(So Jj (Sq (Bk 0 (.loop zT)) (So zS (Sq (So zR (Xs 99 [99] (So zQ (So zP (So zO (Sq (.flt [0,0,2,0,0,16,0,64,192,0,512,455,2503,8191,16383] [] zN [15,110,111,112,113,114,115,116,117,118,119,120,121,122]) (Sq (.flt [0,0,2,0,0,16,0,64,192,0,512,455,2503,8191,16383] [] zM [14,123,124,125,126,127,128,129,130,131,132,133,134,135]) (.ops zL)))))))) (Sq (So zK (Xs 139 [139] (So zJ (So zI (Sq (.flt [0,0,2,0,0,16,0,64,192,0,512,455,2503,8191,16383] [] zH [16,145,146,147,148,149,150,151,152,153,154,155,156,157]) (.ops zG)))))) (So zF (Kc 161 (Kk [161] (.ops zE)) (Kk [0,12,161] .skip))))))))
def Zh:FnC:=⟨xht,167,[],[],[]⟩
def I9:La:=[om 5 0,WL 6 true 5,Wb 7 .gtr 6 0,Wa 8 7,.grp 8 true [(xi 9 8 true (Mv 0)),(xi 10 8 true (.idxS (.t 9) (ci 0))),(xi 11 8 true (Mv 1)),(xi 12 8 true (Bb .eql 10 11))] [9,10,11],Wr 13 8 12]
def I8:La:=[Wa 14 0,oo 15 (.slcS (.t 14) (some (ci 1)) none) [14],Wa 0 15]
def yK:RC:=(Sq (So I9 (Xr 13 [1,13] (.exit 0))) (Bk 1 (.ops I8)))
def xH:RC:=yK
def I7:La:=[Wa 16 0,Wa 4 16]
def xhs:RC:=(So pL (Sq (Bk 0 (.loop xH)) (So I7 .ret)))
def Zg:FnC:=⟨xhs,17,[.tmp 4],[],[]⟩
def I4:La:=[om 5 0,WL 6 true 5,Wb 7 .gtr 6 0,Wa 8 7,.grp 8 true [(xi 9 8 true (Mv 0)),(xi 10 8 true (Mv 0)),(xi 11 8 true (.len true (.t 10))),(xi 12 8 true (Bc .sub 11 1)),(xi 13 8 true (.idxS (.t 9) (.t 12))),(xi 14 8 true (Mv 1)),(xi 15 8 true (Bb .eql 13 14))] [9,10,11,12,13,14],Wr 16 8 15]
def I3:La:=[om 17 0,Wa 18 0,WL 19 true 18,Wb 20 .sub 19 1,oo 21 (.slcS (.t 17) none (some (.t 20))) [17,20],Wa 0 21]
def yJ:RC:=(Sq (So I4 (Xr 16 [1,16] (.exit 0))) (Bk 1 (.ops I3)))
def xG:RC:=yJ
def I1:La:=[Wa 22 0,Wa 4 22]
def xhr:RC:=(So pL (Sq (Bk 0 (.loop xG)) (So I1 .ret)))
def Zf:FnC:=⟨xhr,23,[.tmp 4],[],[]⟩
def I0:La:=[om 5 0,WL 6 true 5,om 7 1,WL 8 true 7,We 9 .geq 6 8,Wa 10 9,.grp 10 true [(xi 11 10 true (Mv 0)),(xi 12 10 true (Mv 1)),(xi 13 10 true (.len true (.t 12))),(xi 14 10 true (.slcS (.t 11) none (some (.t 13)))),(xi 15 10 true (Mv 1)),(xi 16 10 true (Bb .eql 14 15))] [0,1,11,12,13,14,15],Wr 17 10 16,Wa 4 17]
def xhq:RC:=(So qa (So I0 .ret))
def Ze:FnC:=⟨xhq,18,[.tmp 4],[],[]⟩
def IZ:La:=[om 11 0,WL 12 true 11,Wa 4 12]
def IY:La:=[WD 13 false,.grp 13 true [(xi 14 13 true (Mv 4)),(xi 15 13 true (.bin .lss (ci 0) (.t 14))),(xi 16 13 true (Mv 15))] [14,15],.grp 16 true [(xi 17 16 true (Mv 4)),(xi 18 16 true (Bc .lss 17 10))] [17],.grp 13 true [(xi 19 13 true (Pf 16 18))] [16,18],Wr 20 13 19,Wa 21 20,.grp 21 false [(xi 22 21 false (Mb true))] [],.grp 22 true [(xi 23 22 true (Mv 4)),(xi 24 22 true (.bin .lss (ci 0) (.t 23))),(xi 25 22 true (Mv 24))] [23,24],.grp 25 true [(xi 26 25 true (Mv 4)),(xi 27 25 true (Bc .lss 26 19))] [4,26],.grp 22 true [(xi 28 22 true (Pf 25 27))] [25,27],.grp 21 false [(xi 29 21 false (Pf 22 28))] [22,28],Wn 30 21 29]
def IX:La:=[om 31 0,Wa 5 31]
def IW:La:=[om 32 0,oo 33 (.idxS (.t 32) (ci 0)) [32],oo 34 (.bin .eql (.t 33) (.c (.u8 45))) [33],Wa 35 34,.grp 35 false [(xi 36 35 false (Mv 0)),(xi 37 35 false (.idxS (.t 36) (ci 0))),(xi 38 35 false (.bin .eql (.t 37) (.c (.u8 43))))] [36,37],Wn 39 35 38]
def IV:La:=[Wa 40 0,oo 41 (.slcS (.t 40) (some (ci 1)) none) [40],Wa 0 41]
def IU:La:=[om 42 0,WL 43 true 42,Wb 44 .lss 43 1]
def IT:La:=[Wa 46 0,Xa 47 46,on 48 (Ln 47),Wh 49 0]
def IS:La:=[on 50 (Bb .lss 49 48)]
def zD:La:=[on 51 (Ia 1 47 49),Wd 52 51,Wa 8 52]
def zC:La:=[Wa 53 8,oo 54 (.bin .sub (.t 53) (.c (.u8 48))) [53],Wa 8 54]
def zB:La:=[om 55 8,oo 56 (.bin .gtr (.t 55) (.c (.u8 9))) [55]]
def zA:La:=[Wa 58 6,Wb 59 .mul 58 10,Wa 60 8,oo 61 (.toInt .i64 (.t 60)) [60],We 62 .add 59 61,Wa 6 62]
def zy:La:=[Wb 63 .add 49 1,Wa 49 63]
def ss:RC:=(So IS (Sq (Xr 50 [47,48,49,50] (.exit 0)) (Sq (Bk 1 (So zD (So zC (Sq (So zB (Xs 56 [5,6,8,47,48,49,56] (Sq .bad .ret))) (.ops zA))))) (.ops zy))))
def oe:RC:=ss
def zx:La:=[Wa 64 5,oo 65 (.idxS (.t 64) (ci 0)) [64],oo 66 (.bin .eql (.t 65) (.c (.u8 45))) [65]]
def zw:La:=[Wa 67 6,oo 68 (.un .neg (.t 67)) [67],Wa 6 68]
def zu:La:=[Wa 69 6,Wa 2 69,on 3 (.mov (.c .nili))]
def zt:La:=[Wa 71 0,oo 72 (Ca 186 [.t 71,ci 10,ci 0]) [71],Wa 70 72,WE 73 70 0,WO 74 70 1,Wa 9 73,Wa 10 74]
def zr:La:=[Wa 75 9,Wa 76 10,Wa 2 75,Wa 3 76]
def xhp:RC:=(So xL (So IZ (Sq (So IY (Xs 30 [30] (So IX (Sq (So IW (Xs 39 [39] (So IV (So IU (Xs 44 [0,5,44] (Sq .bad .ret)))))) (So DX (Sq (So IT (Bk 0 (.loop oe))) (Sq (So zx (Xs 66 [66] (.ops zw))) (So zu .ret)))))))) (So zt (So zr .ret)))))
def Zd:FnC:=⟨xhp,77,[.tmp 2,.tmp 3],[],[]⟩
def IR:La:=[om 5 0,om 6 1,We 7 .shl 5 6,Wa 8 0,Wa 9 1,Xq 10 .sub 9,We 11 .shr 8 10,We 12 .or 7 11,Wa 4 12]
def xho:RC:=(So nC (So IR .ret))
def Zc:FnC:=⟨xho,13,[.tmp 4],[],[]⟩
def IM:La:=[Wa 3 0,Wb 4 .mul 3 78913,oo 5 (.bin .shr (.t 4) (.c (.int .u64 18))) [4],Wa 2 5]
def xhn:RC:=(So kZ (So IM .ret))
def Zb:FnC:=⟨xhn,6,[.tmp 2],[],[]⟩
def xhm:RC:=(So kZ (Sq (So No (Xs 3 [3] (So jE .ret))) (So i5 .ret)))
def Za:FnC:=⟨xhm,4,[.tmp 2],[],[]⟩
theorem Fk{g:Nat}{F:FnC}{fn:Func}(h1:prog.funcs[g]? =some fn)(h3:fn.ntmps=F.n:=by kernel_rfl)(h2:fn.body.map (ct prog)=some F.code.er:=by kernel_rfl)(h4:(pG prog fn.results.toList F.rs&&ec prog g&&F.code.ok F.n)=true:=by kernel_rfl):bT prog g F:=by simp only[aA]at h4;exact PS h1 h2 h3 h4.1.1 h4.1.2 h4.2
noncomputable def xhd:Nat->Option FnB
 |9=>some (.code F9)
 |10=>some (.code F10)
 |12=>some (.code F12)
 |15=>some (.code F15)
 |16=>some (.code F16)
 |18=>some (.code F18)
 |21=>some (.code F21)
 |24=>some (.code F24)
 |25=>some (.code F25)
 |29=>some (.code F29)
 |30=>some (.code F30)
 |31=>some (.code F31)
 |32=>some (.code F32)
 |33=>some (.code F33)
 |34=>some (.code F34)
 |35=>some (.code F35)
 |37=>some (.code F37)
 |39=>some (.code F39)
 |40=>some (.code F40)
 |44=>some (.code F44)
 |45=>some (.code F45)
 |46=>some (.code F46)
 |47=>some (.code F47)
 |48=>some (.code F48)
 |49=>some (.code F49)
 |50=>some (.code F50)
 |51=>some (.code F51)
 |52=>some (.code F52)
 |53=>some (.code F53)
 |55=>some (.code F55)
 |56=>some (.code F56)
 |59=>some (.code F59)
 |60=>some (.code F60)
 |63=>some (.code F63)
 |65=>some (.code F65)
 |68=>some (.code F68)
 |69=>some (.code F69)
 |70=>some (.code F70)
 |71=>some (.code F71)
 |72=>some (.code F72)
 |73=>some (.code F73)
 |74=>some (.code F74)
 |75=>some (.code F75)
 |76=>some (.code F76)
 |77=>some (.code F77)
 |78=>some (.code F78)
 |79=>some (.code F79)
 |80=>some (.code F80)
 |81=>some (.code F81)
 |82=>some (.code F82)
 |83=>some (.code F83)
 |84=>some (.code F84)
 |86=>some (.code F86)
 |88=>some (.code F88)
 |89=>some (.code F89)
 |90=>some (.code F90)
 |91=>some (.code F91)
 |92=>some (.code F92)
 |93=>some (.code F93)
 |94=>some (.code F94)
 |95=>some (.code F95)
 |97=>some (.code F97)
 |99=>some (.code F99)
 |101=>some (.code ZS)
 |102=>some (.code ZR)
 |108=>some (.code ZQ)
 |109=>some (.code ZP)
 |112=>some (.code ZO)
 |113=>some (.code ZN)
 |114=>some (.code ZM)
 |115=>some (.code ZL)
 |116=>some (.code ZK)
 |117=>some (.code ZJ)
 |118=>some (.code ZI)
 |119=>some (.code ZH)
 |120=>some (.code ZG)
 |121=>some (.code ZF)
 |122=>some (.code ZE)
 |123=>some (.code ZD)
 |124=>some (.code ZC)
 |125=>some (.code ZB)
 |126=>some (.code ZA)
 |127=>some (.code Zz)
 |128=>some (.code Zy)
 |129=>some (.code Zx)
 |130=>some (.code Zw)
 |132=>some (.code Zv)
 |133=>some (.code Zu)
 |134=>some (.code Zt)
 |135=>some (.code Zs)
 |136=>some (.code Zr)
 |137=>some (.code Zq)
 |140=>some (.code Zp)
 |141=>some (.code Zo)
 |142=>some (.code Zn)
 |143=>some (.code Zm)
 |152=>some (.code Zl)
 |153=>some (.code Zk)
 |155=>some (.code Zj)
 |156=>some (.code Zi)
 |157=>some (.code Zh)
 |159=>some (.code Zg)
 |160=>some (.code Zf)
 |166=>some (.code Ze)
 |167=>some (.code Zd)
 |169=>some (.code Zc)
 |178=>some (.code Zb)
 |179=>some (.code Za)
 |61=>some (.prim Pr.p61)
 |62=>some (.prim Pr.p62)
 |111=>some (.prim Pr.p111)
 |154=>some (.prim Pr.p154)
 |139=>some (.prim Pr.p139)
 |_=>none
def xiX:Nat->Sig
 |60=>⟨[],[0]⟩
 |71=>⟨[],[0]⟩
 |73=>⟨[],[0]⟩
 |119=>⟨[],[0]⟩
 |143=>⟨[],[0]⟩
 |157=>⟨[],[0]⟩
 |62=>⟨[0],[0]⟩
 |_=> {}
noncomputable def T:lj:=⟨xhd,xiX⟩
abbrev tf(k:Nat)(F:FnC):Prop:=T.fn k=some (.code F)
theorem T_9:tf 9 F9:=rfl
theorem xlp:tf 10 F10:=rfl
theorem xlo:tf 12 F12:=rfl
theorem xln:tf 15 F15:=rfl
theorem xlm:tf 16 F16:=rfl
theorem xll:tf 18 F18:=rfl
theorem xlk:tf 21 F21:=rfl
theorem xlj:tf 24 F24:=rfl
theorem xli:tf 25 F25:=rfl
theorem xlh:tf 29 F29:=rfl
theorem xlg:tf 30 F30:=rfl
theorem xlf:tf 31 F31:=rfl
theorem xle:tf 32 F32:=rfl
theorem xld:tf 33 F33:=rfl
theorem xlc:tf 34 F34:=rfl
theorem xlb:tf 35 F35:=rfl
theorem xla:tf 37 F37:=rfl
theorem xk9:tf 39 F39:=rfl
theorem xk8:tf 40 F40:=rfl
theorem xk7:tf 44 F44:=rfl
theorem xk6:tf 45 F45:=rfl
theorem xk5:tf 46 F46:=rfl
theorem xk4:tf 47 F47:=rfl
theorem xk3:tf 48 F48:=rfl
theorem xk2:tf 49 F49:=rfl
theorem xk1:tf 50 F50:=rfl
theorem xk0:tf 51 F51:=rfl
theorem xkZ:tf 52 F52:=rfl
theorem xkY:tf 53 F53:=rfl
theorem xkX:tf 55 F55:=rfl
theorem xkW:tf 56 F56:=rfl
theorem xkV:tf 59 F59:=rfl
theorem xiF:tf 60 F60:=rfl
theorem xkT:tf 63 F63:=rfl
theorem xiD:tf 65 F65:=rfl
theorem xdt:tf 68 F68:=rfl
theorem xiC:tf 69 F69:=rfl
theorem xiB:tf 70 F70:=rfl
theorem xiA:tf 71 F71:=rfl
theorem xkS:tf 72 F72:=rfl
theorem YJ:tf 73 F73:=rfl
theorem xkR:tf 74 F74:=rfl
theorem xkQ:tf 75 F75:=rfl
theorem xkP:tf 76 F76:=rfl
theorem xkO:tf 77 F77:=rfl
theorem xkN:tf 78 F78:=rfl
theorem xkM:tf 79 F79:=rfl
theorem xkL:tf 80 F80:=rfl
theorem xkK:tf 81 F81:=rfl
theorem xkJ:tf 82 F82:=rfl
theorem xkI:tf 83 F83:=rfl
theorem xkH:tf 84 F84:=rfl
theorem xkG:tf 86 F86:=rfl
theorem xkF:tf 88 F88:=rfl
theorem xkE:tf 89 F89:=rfl
theorem xkD:tf 90 F90:=rfl
theorem xkC:tf 91 F91:=rfl
theorem xkB:tf 92 F92:=rfl
theorem xkA:tf 93 F93:=rfl
theorem xkz:tf 94 F94:=rfl
theorem xky:tf 95 F95:=rfl
theorem xkx:tf 97 F97:=rfl
theorem xiz:tf 99 F99:=rfl
theorem YO:tf 101 ZS:=rfl
theorem xgT:tf 102 ZR:=rfl
theorem xgS:tf 108 ZQ:=rfl
theorem xgR:tf 109 ZP:=rfl
theorem xgP:tf 112 ZO:=rfl
theorem xgO:tf 113 ZN:=rfl
theorem xgN:tf 114 ZM:=rfl
theorem xgM:tf 115 ZL:=rfl
theorem xgL:tf 116 ZK:=rfl
theorem xgK:tf 117 ZJ:=rfl
theorem xgJ:tf 118 ZI:=rfl
theorem YN:tf 119 ZH:=rfl
theorem xgI:tf 120 ZG:=rfl
theorem xgH:tf 121 ZF:=rfl
theorem xgG:tf 122 ZE:=rfl
theorem xgF:tf 123 ZD:=rfl
theorem YM:tf 124 ZC:=rfl
theorem xgE:tf 125 ZB:=rfl
theorem xgD:tf 126 ZA:=rfl
theorem xgC:tf 127 Zz:=rfl
theorem xgB:tf 128 Zy:=rfl
theorem xgA:tf 129 Zx:=rfl
theorem xgz:tf 130 Zw:=rfl
theorem xgy:tf 132 Zv:=rfl
theorem xgx:tf 133 Zu:=rfl
theorem xgw:tf 134 Zt:=rfl
theorem xgv:tf 135 Zs:=rfl
theorem xgu:tf 136 Zr:=rfl
theorem xgt:tf 137 Zq:=rfl
theorem xgr:tf 140 Zp:=rfl
theorem xgq:tf 141 Zo:=rfl
theorem xgp:tf 142 Zn:=rfl
theorem YL:tf 143 Zm:=rfl
theorem YK:tf 152 Zl:=rfl
theorem xgo:tf 153 Zk:=rfl
theorem xgm:tf 155 Zj:=rfl
theorem xgl:tf 156 Zi:=rfl
theorem wL:tf 157 Zh:=rfl
theorem xgk:tf 159 Zg:=rfl
theorem xgj:tf 160 Zf:=rfl
theorem xgi:tf 166 Ze:=rfl
theorem xgh:tf 167 Zd:=rfl
theorem xgg:tf 169 Zc:=rfl
theorem xgf:tf 178 Zb:=rfl
theorem xge:tf 179 Za:=rfl
theorem xkU:T.fn 61=some (.prim Pr.p61):=rfl
theorem xiE:T.fn 62=some (.prim Pr.p62):=rfl
theorem xgQ:T.fn 111=some (.prim Pr.p111):=rfl
theorem xgn:T.fn 154=some (.prim Pr.p154):=rfl
theorem xgs:T.fn 139=some (.prim Pr.p139):=rfl
abbrev sf(k:Nat):Prop:=T.sg k= {}
theorem Ra:sf 61:=rfl
theorem xiN:T.sg 62=⟨[0],[0]⟩:=rfl
theorem kD:sf 111:=rfl
theorem xgY:sf 154:=rfl
theorem tD:sf 139:=rfl
theorem S_9:sf 9:=rfl
theorem Y9:sf 10:=rfl
theorem wS:sf 12:=rfl
theorem Rd:sf 15:=rfl
theorem xlG:sf 16:=rfl
theorem Rc:sf 18:=rfl
theorem xlF:sf 21:=rfl
theorem YT:sf 24:=rfl
theorem xiR:sf 25:=rfl
theorem YS:sf 29:=rfl
theorem YR:sf 30:=rfl
theorem Rb:sf 31:=rfl
theorem xdC:sf 32:=rfl
theorem sR:sf 33:=rfl
theorem xlE:sf 34:=rfl
theorem xlD:sf 35:=rfl
theorem sQ:sf 37:=rfl
theorem YQ:sf 39:=rfl
theorem xdB:sf 40:=rfl
theorem rp:sf 44:=rfl
theorem xlC:sf 45:=rfl
theorem xiQ:sf 46:=rfl
theorem Eu:sf 47:=rfl
theorem vf:sf 48:=rfl
theorem xlB:sf 49:=rfl
theorem MZ:sf 50:=rfl
theorem xiP:sf 51:=rfl
theorem xiO:sf 52:=rfl
theorem xlA:sf 53:=rfl
theorem xlz:sf 55:=rfl
theorem xly:sf 56:=rfl
theorem xdA:sf 59:=rfl
theorem xdz:T.sg 60=⟨[],[0]⟩:=rfl
theorem xlx:sf 63:=rfl
theorem xiM:sf 65:=rfl
theorem sP:sf 68:=rfl
theorem wO:sf 69:=rfl
theorem xiL:sf 70:=rfl
theorem xiK:T.sg 71=⟨[],[0]⟩:=rfl
theorem QZ:sf 72:=rfl
theorem xiJ:T.sg 73=⟨[],[0]⟩:=rfl
theorem QY:sf 74:=rfl
theorem xlw:sf 75:=rfl
theorem xiI:sf 76:=rfl
theorem xlv:sf 77:=rfl
theorem xlu:sf 78:=rfl
theorem xdy:sf 79:=rfl
theorem Et:sf 80:=rfl
theorem wN:sf 81:=rfl
theorem xdx:sf 82:=rfl
theorem xlt:sf 83:=rfl
theorem YP:sf 84:=rfl
theorem xls:sf 86:=rfl
theorem mu:sf 88:=rfl
theorem m5:sf 89:=rfl
theorem sO:sf 90:=rfl
theorem xlr:sf 91:=rfl
theorem xlq:sf 92:=rfl
theorem xdw:sf 93:=rfl
theorem xdv:sf 94:=rfl
theorem QX:sf 95:=rfl
theorem xiH:sf 97:=rfl
theorem xiG:sf 99:=rfl
theorem Y8:sf 101:=rfl
theorem xha:sf 102:=rfl
theorem Eh:sf 108:=rfl
theorem Y7:sf 109:=rfl
theorem Eg:sf 112:=rfl
theorem Y6:sf 113:=rfl
theorem xg9:sf 114:=rfl
theorem Y5:sf 115:=rfl
theorem xg8:sf 116:=rfl
theorem jK:sf 117:=rfl
theorem ll:sf 118:=rfl
theorem Y4:T.sg 119=⟨[],[0]⟩:=rfl
theorem Y3:sf 120:=rfl
theorem xg7:sf 121:=rfl
theorem xg6:sf 122:=rfl
theorem xg5:sf 123:=rfl
theorem NY:sf 124:=rfl
theorem xg4:sf 125:=rfl
theorem xg3:sf 126:=rfl
theorem Y2:sf 127:=rfl
theorem Y1:sf 128:=rfl
theorem Y0:sf 129:=rfl
theorem YZ:sf 130:=rfl
theorem xg2:sf 132:=rfl
theorem xg1:sf 133:=rfl
theorem YY:sf 134:=rfl
theorem YX:sf 135:=rfl
theorem xg0:sf 136:=rfl
theorem xgZ:sf 137:=rfl
theorem NX:sf 140:=rfl
theorem YW:sf 141:=rfl
theorem qh:sf 142:=rfl
theorem YV:T.sg 143=⟨[],[0]⟩:=rfl
theorem jJ:sf 152:=rfl
theorem NW:sf 153:=rfl
theorem xgX:sf 155:=rfl
theorem wR:sf 156:=rfl
theorem wQ:T.sg 157=⟨[],[0]⟩:=rfl
theorem xgW:sf 159:=rfl
theorem xgV:sf 160:=rfl
theorem YU:sf 166:=rfl
theorem xgU:sf 167:=rfl
theorem wP:sf 169:=rfl
theorem kC:sf 178:=rfl
theorem kz:sf 179:=rfl
theorem xbi(c:CSt):run T te c=run T yQ c:=rfl
theorem xba(c:CSt):run T lD c=run T yI c:=rfl
theorem xa9(c:CSt):run T xF c=run T yH c:=rfl
theorem xa8(c:CSt):run T xE c=run T yG c:=rfl
theorem xa7(c:CSt):run T xD c=run T yF c:=rfl
theorem xa6(c:CSt):run T pK c=run T yE c:=rfl
theorem xeh(c:CSt):run T NB c=run T NU c:=rfl
theorem xeg(c:CSt):run T Nz c=run T NT c:=rfl
theorem xa5(c:CSt):run T xC c=run T yD c:=rfl
theorem xa4(c:CSt):run T xA c=run T yC c:=rfl
theorem xa3(c:CSt):run T xz c=run T yB c:=rfl
theorem xa2(c:CSt):run T In c=run T yA c:=rfl
theorem xa1(c:CSt):run T xy c=run T yz c:=rfl
theorem xa0(c:CSt):run T lC c=run T yy c:=rfl
theorem xaZ(c:CSt):run T s9 c=run T yx c:=rfl
theorem xaY(c:CSt):run T lB c=run T yw c:=rfl
theorem xaX(c:CSt):run T s7 c=run T yv c:=rfl
theorem xef(c:CSt):run T Nr c=run T NS c:=rfl
theorem xaW(c:CSt):run T xw c=run T yu c:=rfl
theorem xaV(c:CSt):run T xu c=run T yr c:=rfl
theorem xee(c:CSt):run T Np c=run T NR c:=rfl
theorem xed(c:CSt):run T Nn c=run T NQ c:=rfl
theorem xec(c:CSt):run T Nl c=run T NP c:=rfl
theorem xaU(c:CSt):run T s6 c=run T yq c:=rfl
theorem xeb(c:CSt):run T Nk c=run T NO c:=rfl
theorem xaT(c:CSt):run T xq c=run T yp c:=rfl
theorem xaS(c:CSt):run T xo c=run T yo c:=rfl
theorem xaR(c:CSt):run T sZ c=run T yn c:=rfl
theorem xaQ(c:CSt):run T xl c=run T ym c:=rfl
theorem xaP(c:CSt):run T sY c=run T yl c:=rfl
theorem xea(c:CSt):run T Tj c=run T NN c:=rfl
theorem xaO(c:CSt):run T xk c=run T yk c:=rfl
theorem xaN(c:CSt):run T xj c=run T yj c:=rfl
theorem xaM(c:CSt):run T xh c=run T yi c:=rfl
theorem xaL(c:CSt):run T xf c=run T yh c:=rfl
theorem xaK(c:CSt):run T xe c=run T yg c:=rfl
theorem xd9(c:CSt):run T Nf c=run T NM c:=rfl
theorem xaJ(c:CSt):run T xd c=run T yf c:=rfl
theorem xaI(c:CSt):run T xc c=run T ye c:=rfl
theorem xd8(c:CSt):run T Nc c=run T NL c:=rfl
theorem xd7(c:CSt):run T Na c=run T NK c:=rfl
theorem O5(c:CSt):run T ma c=run T sJ c:=rfl
theorem O4(c:CSt):run T l9 c=run T sI c:=rfl
theorem xbr(c:CSt):run T xU c=run T yZ c:=rfl
theorem xbq(c:CSt):run T tg c=run T yY c:=rfl
theorem xbp(c:CSt):run T xT c=run T yX c:=rfl
theorem O3(c:CSt):run T rT c=run T sH c:=rfl
theorem xbo(c:CSt):run T xS c=run T yW c:=rfl
theorem O2(c:CSt):run T fJ c=run T sG c:=rfl
theorem xbn(c:CSt):run T xR c=run T yV c:=rfl
theorem O1(c:CSt):run T rR c=run T sF c:=rfl
theorem O0(c:CSt):run T rQ c=run T sE c:=rfl
theorem OZ(c:CSt):run T rP c=run T sD c:=rfl
theorem xbm(c:CSt):run T xQ c=run T yU c:=rfl
theorem OY(c:CSt):run T Av c=run T sC c:=rfl
theorem xbl(c:CSt):run T K4 c=run T yT c:=rfl
theorem xbk(c:CSt):run T KN c=run T yS c:=rfl
theorem xbj(c:CSt):run T xO c=run T yR c:=rfl
theorem OX(c:CSt):run T rO c=run T sB c:=rfl
theorem xbh(c:CSt):run T xM c=run T yP c:=rfl
theorem OW(c:CSt):run T rN c=run T sA c:=rfl
theorem OV(c:CSt):run T fI c=run T sx c:=rfl
theorem OU(c:CSt):run T rM c=run T sw c:=rfl
theorem xbg(c:CSt):run T JM c=run T yO c:=rfl
theorem xbf(c:CSt):run T xK c=run T yN c:=rfl
theorem xbe(c:CSt):run T xJ c=run T yM c:=rfl
theorem xbd(c:CSt):run T xI c=run T yL c:=rfl
theorem OT(c:CSt):run T zT c=run T su c:=rfl
theorem xbc(c:CSt):run T xH c=run T yK c:=rfl
theorem xbb(c:CSt):run T xG c=run T yJ c:=rfl
theorem OS(c:CSt):run T oe c=run T ss c:=rfl
theorem xje:bT prog 9 F9:=Fk func9
theorem xfl:bT prog 10 F10:=Fk func10
theorem xfk:bT prog 12 F12:=Fk func12
theorem xfj:bT prog 15 F15:=Fk func15
theorem xfi:bT prog 16 F16:=Fk func16
theorem xfh:bT prog 18 F18:=Fk func18
theorem xfg:bT prog 21 F21:=Fk func21
theorem xff:bT prog 24 F24:=Fk func24
theorem xfe:bT prog 25 F25:=Fk func25
theorem xfd:bT prog 29 F29:=Fk func29
theorem xfc:bT prog 30 F30:=Fk func30
theorem xfb:bT prog 31 F31:=Fk func31
theorem xfa:bT prog 32 F32:=Fk func32
theorem xe9:bT prog 33 F33:=Fk func33
theorem xe8:bT prog 34 F34:=Fk func34
theorem xe7:bT prog 35 F35:=Fk func35
theorem xe6:bT prog 37 F37:=Fk func37
theorem xe5:bT prog 39 F39:=Fk func39
theorem xe4:bT prog 40 F40:=Fk func40
theorem xe3:bT prog 44 F44:=Fk func44
theorem xe2:bT prog 45 F45:=Fk func45
theorem xe1:bT prog 46 F46:=Fk func46
theorem xe0:bT prog 47 F47:=Fk func47
theorem xeZ:bT prog 48 F48:=Fk func48
theorem xeY:bT prog 49 F49:=Fk func49
theorem xeX:bT prog 50 F50:=Fk func50
theorem xeW:bT prog 51 F51:=Fk func51
theorem xeV:bT prog 52 F52:=Fk func52
theorem xeU:bT prog 53 F53:=Fk func53
theorem xeT:bT prog 55 F55:=Fk func55
theorem xeS:bT prog 56 F56:=Fk func56
theorem xeR:bT prog 59 F59:=Fk func59
theorem xeQ:bT prog 60 F60:=Fk func60
theorem xeP:bT prog 63 F63:=Fk func63
theorem xeO:bT prog 65 F65:=Fk func65
theorem xeN:bT prog 68 F68:=Fk func68
theorem xeM:bT prog 69 F69:=Fk func69
theorem xeL:bT prog 70 F70:=Fk func70
theorem xeK:bT prog 71 F71:=Fk func71
theorem xeJ:bT prog 72 F72:=Fk func72
theorem xeI:bT prog 73 F73:=Fk func73
theorem xeH:bT prog 74 F74:=Fk func74
theorem xeG:bT prog 75 F75:=Fk func75
theorem xeF:bT prog 76 F76:=Fk func76
theorem xeE:bT prog 77 F77:=Fk func77
theorem xeD:bT prog 78 F78:=Fk func78
theorem xeC:bT prog 79 F79:=Fk func79
theorem xeB:bT prog 80 F80:=Fk func80
theorem xeA:bT prog 81 F81:=Fk func81
theorem xez:bT prog 82 F82:=Fk func82
theorem xey:bT prog 83 F83:=Fk func83
theorem xex:bT prog 84 F84:=Fk func84
theorem xew:bT prog 86 F86:=Fk func86
theorem xev:bT prog 88 F88:=Fk func88
theorem xeu:bT prog 89 F89:=Fk func89
theorem xet:bT prog 90 F90:=Fk func90
theorem xes:bT prog 91 F91:=Fk func91
theorem xer:bT prog 92 F92:=Fk func92
theorem xeq:bT prog 93 F93:=Fk func93
theorem xep:bT prog 94 F94:=Fk func94
theorem xeo:bT prog 95 F95:=Fk func95
theorem xen:bT prog 97 F97:=Fk func97
theorem xem:bT prog 99 F99:=Fk func99
theorem xcd:bT prog 101 ZS:=Fk func101
theorem xcc:bT prog 102 ZR:=Fk func102
theorem xcb:bT prog 108 ZQ:=Fk func108
theorem xca:bT prog 109 ZP:=Fk func109
theorem xb9:bT prog 112 ZO:=Fk func112
theorem xb8:bT prog 113 ZN:=Fk func113
theorem xb7:bT prog 114 ZM:=Fk func114
theorem xb6:bT prog 115 ZL:=Fk func115
theorem xb5:bT prog 116 ZK:=Fk func116
theorem xb4:bT prog 117 ZJ:=Fk func117
theorem xb3:bT prog 118 ZI:=Fk func118
theorem xb2:bT prog 119 ZH:=Fk func119
theorem xb1:bT prog 120 ZG:=Fk func120
theorem xb0:bT prog 121 ZF:=Fk func121
theorem xbZ:bT prog 122 ZE:=Fk func122
theorem xbY:bT prog 123 ZD:=Fk func123
theorem xbX:bT prog 124 ZC:=Fk func124
theorem xbW:bT prog 125 ZB:=Fk func125
theorem xbV:bT prog 126 ZA:=Fk func126
theorem xbU:bT prog 127 Zz:=Fk func127
theorem xbT:bT prog 128 Zy:=Fk func128
theorem xbS:bT prog 129 Zx:=Fk func129
theorem xbR:bT prog 130 Zw:=Fk func130
theorem xbQ:bT prog 132 Zv:=Fk func132
theorem xbP:bT prog 133 Zu:=Fk func133
theorem xbO:bT prog 134 Zt:=Fk func134
theorem xbN:bT prog 135 Zs:=Fk func135
theorem xbM:bT prog 136 Zr:=Fk func136
theorem xbL:bT prog 137 Zq:=Fk func137
theorem xbK:bT prog 140 Zp:=Fk func140
theorem xbJ:bT prog 141 Zo:=Fk func141
theorem xbI:bT prog 142 Zn:=Fk func142
theorem xbH:bT prog 143 Zm:=Fk func143
theorem xbG:bT prog 152 Zl:=Fk func152
theorem xbF:bT prog 153 Zk:=Fk func153
theorem xbE:bT prog 155 Zj:=Fk func155
theorem xbD:bT prog 156 Zi:=Fk func156
theorem xbC:bT prog 157 Zh:=Fk func157
theorem xbB:bT prog 159 Zg:=Fk func159
theorem xbA:bT prog 160 Zf:=Fk func160
theorem xbz:bT prog 166 Ze:=Fk func166
theorem xby:bT prog 167 Zd:=Fk func167
theorem xbx:bT prog 169 Zc:=Fk func169
theorem xbw:bT prog 178 Zb:=Fk func178
theorem xbv:bT prog 179 Za:=Fk func179
set_option maxHeartbeats 4000000 in
theorem xap:wK prog T:=by
 intro g b h;simp only[T]at h;unfold xhd at h;split at h
 ·cases h;exact xje
 ·cases h;exact xfl
 ·cases h;exact xfk
 ·cases h;exact xfj
 ·cases h;exact xfi
 ·cases h;exact xfh
 ·cases h;exact xfg
 ·cases h;exact xff
 ·cases h;exact xfe
 ·cases h;exact xfd
 ·cases h;exact xfc
 ·cases h;exact xfb
 ·cases h;exact xfa
 ·cases h;exact xe9
 ·cases h;exact xe8
 ·cases h;exact xe7
 ·cases h;exact xe6
 ·cases h;exact xe5
 ·cases h;exact xe4
 ·cases h;exact xe3
 ·cases h;exact xe2
 ·cases h;exact xe1
 ·cases h;exact xe0
 ·cases h;exact xeZ
 ·cases h;exact xeY
 ·cases h;exact xeX
 ·cases h;exact xeW
 ·cases h;exact xeV
 ·cases h;exact xeU
 ·cases h;exact xeT
 ·cases h;exact xeS
 ·cases h;exact xeR
 ·cases h;exact xeQ
 ·cases h;exact xeP
 ·cases h;exact xeO
 ·cases h;exact xeN
 ·cases h;exact xeM
 ·cases h;exact xeL
 ·cases h;exact xeK
 ·cases h;exact xeJ
 ·cases h;exact xeI
 ·cases h;exact xeH
 ·cases h;exact xeG
 ·cases h;exact xeF
 ·cases h;exact xeE
 ·cases h;exact xeD
 ·cases h;exact xeC
 ·cases h;exact xeB
 ·cases h;exact xeA
 ·cases h;exact xez
 ·cases h;exact xey
 ·cases h;exact xex
 ·cases h;exact xew
 ·cases h;exact xev
 ·cases h;exact xeu
 ·cases h;exact xet
 ·cases h;exact xes
 ·cases h;exact xer
 ·cases h;exact xeq
 ·cases h;exact xep
 ·cases h;exact xeo
 ·cases h;exact xen
 ·cases h;exact xem
 ·cases h;exact xcd
 ·cases h;exact xcc
 ·cases h;exact xcb
 ·cases h;exact xca
 ·cases h;exact xb9
 ·cases h;exact xb8
 ·cases h;exact xb7
 ·cases h;exact xb6
 ·cases h;exact xb5
 ·cases h;exact xb4
 ·cases h;exact xb3
 ·cases h;exact xb2
 ·cases h;exact xb1
 ·cases h;exact xb0
 ·cases h;exact xbZ
 ·cases h;exact xbY
 ·cases h;exact xbX
 ·cases h;exact xbW
 ·cases h;exact xbV
 ·cases h;exact xbU
 ·cases h;exact xbT
 ·cases h;exact xbS
 ·cases h;exact xbR
 ·cases h;exact xbQ
 ·cases h;exact xbP
 ·cases h;exact xbO
 ·cases h;exact xbN
 ·cases h;exact xbM
 ·cases h;exact xbL
 ·cases h;exact xbK
 ·cases h;exact xbJ
 ·cases h;exact xbI
 ·cases h;exact xbH
 ·cases h;exact xbG
 ·cases h;exact xbF
 ·cases h;exact xbE
 ·cases h;exact xbD
 ·cases h;exact xbC
 ·cases h;exact xbB
 ·cases h;exact xbA
 ·cases h;exact xbz
 ·cases h;exact xby
 ·cases h;exact xbx
 ·cases h;exact xbw
 ·cases h;exact xbv
 ·cases h;exact Pr.p61_ok
 ·cases h;exact Pr.p62_ok
 ·cases h;exact Pr.p111_ok
 ·cases h;exact Pr.p154_ok
 ·cases h;exact Pr.p139_ok
 ·cases h
attribute [go_sem] SV.kclip Tok.kc OM xgd xgc xkw iz th Oh D1 jw List.all_replicate BL BK Ok xao O9 Pb Pa FC Pc Pg qz Pe Pd aw.injEq xjc xdZ xfY xcj xce wh CK CL xcr Z8 Eb CN an cj dh aZ QS QT xdm Gn FL De CC CD Tok.ids kH aQ ah bQ Int.natCast_nonneg Int.ofNat_lt Int.ofNat_le Int.ofNat_inj E8 OI Fe OK OL xdE N4 xdF Z6 Z5 ZZ xdL xdM xdJ xiS N2 N1 xdD xdN Z0 ZV ZW ZX N3 xdH Ez EA xaa Z9 xdI xdG Z7 xdK Z3 Z4 ZY xjb xja xjd xaw xd0 xcN xjJ xjK xjH xjI xjM PO xcO PT OH Ff C3 OJ Fb xcL C5 C6 Fp Fq xcK Px xkn xkp xko o9 Dh xfp Pp xfr xcp xco xck xfA xfB xfv xjf Pl Pk xfn xfC xcl xcf xcg xch Po xft FE FF xct xcs xfu xfs xcq xfy xcm xcn xci Pn xfo xfz xjg xfq Pm xfD xfw xcu QW DO mkE xdp stC EK apS apB apL QV cpC cp2 cpB cpL xax xbu BM MF BN BO kO kP MC BR BS xam Od xfZ xcw xcE xcD PC FV FU Dm PB Do FW PD Dn wn FG FH Ps xi0 xiY xiZ Oo xas xf7 xgb xga xf9 Gw QN xjk xji xjj Pw xcy Fw xek xei xej Fv O6 Gl DJ DK xf1 xf0 PU D5 YE Yy sV Rr YF GF DT DU tq Yo oC pe mi Ee Ed Yw lenC YB D6 D7 tw Yf D8 D2 tn eB jm uU iC iK xds mb da evL CSt.purge wq wW M2 M5 mg Ep lU ka nF dJ fB psC Tok.readyC aC.wf SV.bare SV.bareL jM jN rG jB dV cn dC gv gD fy dt nR ee qc qd l4 p8 jH iP EU CO OC EP EV ET CM vB OD ER OF EW CX vG CU vF EX CQ CV CT vC vE tN EY CR E0 CW CP EZ CS EO OE ES NJ Gt QJ QK PW PY PZ PX QR EM Ot Oz Oy Ox Ow Ov Ou xcW xcP xcU xcV xcT xcS xcR xcQ Pj Pi Ph PJ PI PF PE PH PG QQ xdk eL CSt.publish kN ln nl SV.pub SV.pubL vZ gcC pY Oi qu j0 fM gN tks nn Ek qf du NI vh g8 jF SV.num lA iE toB rows tt gF gS setCells Tok.eat SV.one SV.data SV.isData SV.cells SV.isDef SV.purge SV.purgeL aC.purge bz co Tok.purge SV.ren SV.renL aC.ren Tok.ren SV.ids SV.idsL SV.toks SV.toksL aC.ids aC.toks ij jy inR nZ fb id_eq av bg bU bw bK bC fm beq_self_eq_true bp bF List.getD_nil List.take_succ_cons List.take_zero List.take_nil bi List.drop_succ_cons List.drop_nil aO ic List.flatten_cons List.flatten_nil List.contains_nil List.contains_cons List.isEmpty_nil List.isEmpty_cons iH List.all_nil List.set_cons_zero List.set_cons_succ ba Option.getD_none bm Option.map_none Option.toList_some Option.toList_none cQ Option.isNone_none Option.isNone_some Option.isSome_none Option.isSome_some Bool.or_false m7 Bool.or_true eu Bool.and_self Bool.and_true Bool.true_and Bool.and_false Bool.false_and Bool.not_true Bool.not_false aJ Bool.true_eq_false Bool.not_eq_true Bool.not_eq_false decide_eq_true_eq decide_eq_false_iff_not and_true true_and and_self or_false false_or or_true true_or not_true_eq_false not_false_eq_true ne_eq gP true_implies false_implies implies_true decide_true decide_false Nat.lt_irrefl Nat.not_lt_zero aI cu eq_self and_false false_and ME mvC xh6 Yc xcv xfx clA cl2 clC
attribute [go_sem] Fm Fs Fz Fi Ld Fa Ln Ia Mv Bb Bc Ca Pf Pt So Kk Kc Fy Fr Sr Lt Mc Mb Bk Sq Zq0 Zq1 Zq2 Zq3 xm xs xi ci om omk on oo xhl xhk Ry xhj xhi xhh xhg xhf xhe RH RG RF M8 RE RD RB RA Rz Rx Rw Rv F9 r9 X8 X7 X6 X5 X4 X3 X2 F10 r10 X1 X0 XZ NF XY XX XW XV XU XT KA Kz Ky Kx Kw yQ F12 xbi r12 NE XS og XR XQ XP XO XN XM I6 I5 F15 r15 XL XK XJ D0 XI XH XG XF XE XD IQ IP IN yI F16 xba r16 qb XC td XB XA Xz Xy F18 r18 Xx Xw Xv Xu Xt V9 V8 V7 V6 V5 IL IK yH F21 xa9 r21 V4 V3 ND NC V0 VZ VY VX VW VV IJ II IH IG IF IE ID IC IB yG yF yE F24 xa8 xa7 xa6 r24 qa VU od tc VT VS VR vX NU F25 xeh r25 kZ VQ F29 r29 NA VP VO VN VM VL VK VJ IA Iz NT F30 xeg r30 Ny VI VH VG VF VE vW VD VC Iy ta Ix Iw Iv Iu It xB Is Ir Iq Ip Io Im yD yC yB yA F31 xa5 xa4 xa3 xa2 r31 VB VA F32 r32 vV Vz vU Vy Vx Vw Vv F33 r33 Vu Vt Vs Vr Vq Vp Vo Vn Il Ik Ij Ii yz yy F34 xa1 xa0 r34 Vm Vl Vk Vj F35 r35 Vi Vh Vg F37 r37 Vf Ve Vd Vc Vb Va Ih Ig If F39 r39 U9 U8 U7 U6 U5 U4 U3 U2 U1 U0 Ie yx F40 xaZ r40 s8 UZ vT UY jE UX p9 UW UV UU Ic Ib H9 xx H8 H7 H6 H5 H4 H3 H2 HZ i5 yw yv F44 xaY xaX r44 Nw DZ Nv Nu Nt Ns NS F45 xef r45 Nq UT F46 r46 US vS UR F47 r47 UQ F48 r48 DY UP F49 r49 UO UN UM UL vR UK UJ nk UI UH HY HX HW HV HU HT HS HR HQ HP HO HN HM yu yr F50 xaW xaV r50 NR F51 xee r51 UG F52 r52 UF UE UD UC UB UA Uz Uy Ux HK HJ F53 r53 No Uw Uv Uu Ut Us Ur F55 r55 oc Uq F56 r56 Up Uo Un F59 r59 Um Ul Uk Uj Ui Uh Ug Uf Ue NQ F60 xed r60 Ud Uc Ub Nm Ua NP F63 xec r63 T9 T8 T7 T6 T5 T4 T3 T2 DX T1 HI HH HG yq F65 xaU r65 T0 TZ TY TX DW F68 r68 TW TV TU TT TS TR TQ TP HF HE HD HC HB Hz Hy pJ NO yp F69 xeb xaT r69 TO TN TL TK TJ F70 r70 TI TH F71 r71 TG F72 r72 TF TE TD TC TB TA Tz Ty Hx Hw Hv Hu Ht Hs yo yn F73 xaS xaR r73 Nj Tx F74 r74 Tw Tv Tu Tt Ts Tr Tq Hr Hq Hp Ho Hn Hm Hl Hk ym yl F75 xaQ xaP r75 Tp To Tn Tm Tl Tk Ti NN F76 xea r76 Th Tg F77 r77 Tf Te Td Tc F78 r78 Ni Nh Tb Ta S9 S8 vQ S7 Hj Hi Hh Hg Hf yk F79 xaO r79 lN S6 S5 S4 S3 S2 S1 S0 He Hd Hc Hb Ha G9 G8 G7 G6 G5 G4 G3 G2 xg G1 GZ GY GX GV yj yi yh yg F80 xaN xaM xaL xaK r80 SZ SY SX SW F81 r81 Ng SU SS SR SQ SP SN SM SL NM F82 xd9 r82 SK SJ SH F83 r83 SG SF SE SD SC SB SA F84 r84 Sz Sx F86 r86 Sw Sv Su Ss Sp Sn Sm GU F88 r88 vP Sl F89 r89 Sk Sj Si Sh Sg Sf Se GT GS GR GQ yf F90 xaJ r90 Sd F91 r91 Sc Sb Sa R9 R8 R7 R6 R5 GP ye F92 xaI r92 Nd R4 F93 r93 R3 R2 RZ RY RX RW GO GN NL F94 xd8 r94 RU Nb RT RS RR RQ NK F95 xd7 r95 M9 RP RO F97 r97 RN RM RL RK RJ F99 r99 Mz My Mx Mw Mu Mt Ms Mr BH BG BF BE BD BC BB BA Bz By Bx Bw sJ sI ZS O5 O4 xh4 Mq ZR xh3 Mp Mo ZQ xh2 xV Mn Mm Ml Mk Mj yZ ZP xbr xh1 Mi Mh Mg Mf Me Md Bv yY ZO xbq xh0 Ma L9 L8 L7 L6 L5 L4 L3 rS yX sH ZN xbp O3 xhZ L2 L1 L0 LZ LY LX LW LV LU Bu Bt Bs Br Bq Bp Bo Bn Bm Bl Bj Bi Bh Bg Bf Be Bd Ba A9 yW sG ZM xbo O2 xhY LS LR LQ LP LO LN LM yV ZL xbn xhX LK LJ LI LH LG LF LD LC LB A8 A7 A6 A5 A4 A3 AZ AY AX AW AV AU AT AS AR sF sE sD ZK O1 O0 OZ xhW LA Lz Ly Lx Lw Lv Lu Ls yU ZJ xbm xhV Lr Lq ZI xhU Lp Lo Lm Ll Lk Lj Li Lh Lg Lf AQ AP AO AN AM AL AK AJ AI AH AG AF AE AD AC AB AA Az Ay Ax Aw sC ZH OY xhT Le Lc ZG xhS K9 K8 K7 K6 K5 K3 yT ZF xbl xhR K2 K1 K0 KZ KY xP KX Au ZE xhQ KW ZD xhP KV ZC xhO KU KT KS KR KQ KP KO KM yS ZB xbk xhN KL KK ZA xhM KJ KI KH KG KF KE KD KC At yR sB Zz xbj OX xhL nC xN Zy xhK KB Zx xhJ Kv Ku Kt yP Zw xbh xhI pL Ks Kr Kq Kp Ko Kn Km Kj Ki As Ar Aq Ap Ao An Zv xhH Kh Kg Kf Ke Kd Kb Ka J9 Zu xhG J8 J7 J6 Zt xhF xL J5 J4 J3 J2 Zs xhE J1 J0 JZ JY JX JW JV Am Al Ak Aj Ai Ah Ag Af Ae Ad Ac Ab Aa z8 z7 z6 zZ zY sA sx sw Zr OW OV OU xhD JU JT JS JR JQ JP JO JN zX yO Zq xbg xhC JL JK JJ JI JH yN Zp xbf xhB Zo xhA JG JF Zn xhz JE JD JC JB JA Jz Jy yM yL Zm xbe xbd xhy Jx Jw Jv Ju Jt Js Jr Jq Jp zW Zl xhx Jo Zk xhw Jn Jm Zj xhv Jl Jk Zi xhu Jj Ji Jh Jg Jf Je Jd Jc Jb Ja zV zU zS zR zQ zP zO zN zM zL zK zJ zI zH zG zF zE su Zh OT xht I9 I8 I7 yK Zg xbc xhs I4 I3 I1 yJ Zf xbb xhr I0 Ze xhq IZ IY IX IW IV IU IT IS zD zC zB zA zy zx zw zu zt zr ss Zd OS xhp IR Zc xho IM Zb xhn Za xhm
end Go.Proofs.YtdafipacemgcoaaGreatDoor