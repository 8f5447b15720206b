/- Code of functions, checked by the kernel. No condition. -/
import Derived.Test.YtmhhnklkcmpdkaaGreatDoorProg
import Derived.Test.YtmhhnklkcmpdkaaGreatDoorVaPA
import Derived.KernelRfl
open Bool renaming and_eq_true -> aw, and_false -> dp, and_self -> dL, and_true -> du, false_and -> dl, false_eq_true -> az, not_false -> Ew, not_true -> rP, true_and -> df
open Int renaming toNat_natCast -> fX
open List renaming all_cons -> fV, append_assoc -> ay, append_nil -> aZ, cons_append -> br, drop_zero -> bj, getD_cons_succ -> nt, getD_cons_zero -> dE, length_append -> ac, length_cons -> ah, length_map -> aC, length_nil -> au, length_replicate -> dG, map_append -> cz, map_cons -> aG, map_nil -> cV, mem_cons -> al, nil_append -> aR, not_mem_nil -> bA, replicate -> aJ
open Nat renaming add_zero -> bW, le_refl -> bc, zero_add -> cd, zero_le -> bC
open Option renaming bind_some -> di, getD_none -> fB, getD_some -> aO, isSome_none -> eh, isSome_some -> eT, map_some -> bn, some -> ao
set_option maxRecDepth 100000
set_option linter.unusedVariables false
namespace Go.Proofs.YtmhhnklkcmpdkaaGreatDoor
open Tryz
open Go.Sy
abbrev La:=List RI
abbrev Lb:=List FI
abbrev xm(d s:Nat):SI:=⟨some d,none,.mov (.t s)⟩
abbrev xs(d:Nat)(o:SOp):SI:=⟨some d,none,o⟩
abbrev xi(d g:Nat)(b:Bool)(o:SOp):SI:=⟨some d,some (g,b),o⟩
abbrev om(d s:Nat):RI:= .op (xm d s) []
abbrev omk(d s:Nat):RI:= .op (xm d s) [s]
abbrev on(d:Nat)(o:SOp):RI:= .op (xs d o) []
abbrev oo(d:Nat)(o:SOp)(k:List Nat):RI:= .op (xs d o) k
abbrev ci(n:Int):Arg:= .c (.int .i64 n)
abbrev Fm(n d s:Nat):FI:=⟨n,true,xm d s⟩
abbrev Fs(n d:Nat)(o:SOp):FI:=⟨n,true,xs d o⟩
abbrev Fz(n d:Nat)(o:SOp):FI:=⟨n,false,xs d o⟩
abbrev Fi(n d g:Nat)(b:Bool)(o:SOp):FI:=⟨n,true,xi d g b o⟩
abbrev Ld(s:Nat):SOp:= .load 1 false (.t s)
abbrev Fa(n s:Nat):SOp:= .faddr n (.t s)
abbrev Ln(s:Nat):SOp:= .len false (.t s)
abbrev Ia(n a b:Nat):SOp:= .iaddrL n (.t a) (.t b)
abbrev Mv(s:Nat):SOp:= .mov (.t s)
abbrev Bb(o:BinOp)(a b:Nat):SOp:= .bin o (.t a) (.t b)
abbrev Bc(o:BinOp)(a:Nat)(n:Int):SOp:= .bin o (.t a) (ci n)
abbrev Ca(f:Nat)(l:List Arg):SOp:= .call (.f f) l
abbrev Pf(a b:Nat):SOp:= .pick (.t a) (.t b) (.c (.bool false))
abbrev Pt(a b:Nat):SOp:= .pick (.t a) (.c (.bool true)) (.t b)
abbrev So(l:List RI)(x:RC):RC:= .seq (.ops l) x
abbrev Kk(l:List Nat)(x:RC):RC:= .pre [.kill l] x
abbrev Kc(n:Nat)(x y:RC):RC:= .cond (.t n) x y
abbrev Fy(n d g:Nat)(b:Bool)(o:SOp):FI:=⟨n,false,xi d g b o⟩
abbrev Fr(n k a x:Nat):FI:=⟨n,false,⟨none,none,.store k (.t a) (.t x)⟩⟩
abbrev Sr(n a x:Nat)(k:List Nat):RI:= .op ⟨none,none,.store n (.t a) (.t x)⟩ k
abbrev Lt(n s:Nat):SOp:= .load n true (.t s)
abbrev Mc(n:Int):SOp:= .mov (ci n)
abbrev Mb(b:Bool):SOp:= .mov (.c (.bool b))
abbrev Bk(n:Nat)(x:RC):RC:= .block n x
abbrev Sq(x y:RC):RC:= .seq x y
abbrev Zq0:List SV:=[.int .i64 0,.int .i64 0,.int .i64 0,.int .i64 0,.byt [] .clip,.lst 2 [] .clip,.lst 4 [] .clip]
abbrev Zq1:List SV:=[.int .i64 0,.str [],.int .i64 0,.byt [] .clip]
abbrev Zq2:List SV:=[.byt [] .clip,.lst 2 [] .clip]
def cs0:List UInt8:=[48,49,50,51,52,53,54,55,56,57,97,98,99,100,101,102,45,32,10,111,112,116]
def cs1:List UInt8:=[48,49,50,51,52,53,54,55,56,57,97,98,99,100,101,102,103,104,105,106,107,108,109,110,111,112,113,114,115,116,117,118,119,120,121,122]
def cs2:List UInt8:=[48,48,48,49,48,50,48,51,48,52,48,53,48,54,48,55,48,56,48,57,49,48,49,49,49,50,49,51,49,52,49,53,49,54,49,55,49,56,49,57,50,48,50,49,50,50,50,51,50,52,50,53,50,54,50,55,50,56,50,57,51,48,51,49,51,50,51,51,51,52,51,53,51,54,51,55,51,56,51,57,52,48,52,49,52,50,52,51,52,52,52,53,52,54,52,55,52,56,52,57,53,48,53,49,53,50,53,51,53,52,53,53,53,54,53,55,53,56,53,57,54,48,54,49,54,50,54,51,54,52,54,53,54,54,54,55,54,56,54,57,55,48,55,49,55,50,55,51,55,52,55,53,55,54,55,55,55,56,55,57,56,48,56,49,56,50,56,51,56,52,56,53,56,54,56,55,56,56,56,57,57,48,57,49,57,50,57,51,57,52,57,53,57,54,57,55,57,56,57,57]
def cs3:List UInt8:=[0,1,2,2,3,3,3,3,4,4,4,4,4,4,4,4,5,5,5,5,5,5,5,5,5,5,5,5,5,5,5,5,6,6,6,6,6,6,6,6,6,6,6,6,6,6,6,6,6,6,6,6,6,6,6,6,6,6,6,6,6,6,6,6,7,7,7,7,7,7,7,7,7,7,7,7,7,7,7,7,7,7,7,7,7,7,7,7,7,7,7,7,7,7,7,7,7,7,7,7,7,7,7,7,7,7,7,7,7,7,7,7,7,7,7,7,7,7,7,7,7,7,7,7,7,7,7,7,8,8,8,8,8,8,8,8,8,8,8,8,8,8,8,8,8,8,8,8,8,8,8,8,8,8,8,8,8,8,8,8,8,8,8,8,8,8,8,8,8,8,8,8,8,8,8,8,8,8,8,8,8,8,8,8,8,8,8,8,8,8,8,8,8,8,8,8,8,8,8,8,8,8,8,8,8,8,8,8,8,8,8,8,8,8,8,8,8,8,8,8,8,8,8,8,8,8,8,8,8,8,8,8,8,8,8,8,8,8,8,8,8,8,8,8,8,8,8,8,8,8,8,8,8,8,8,8]
abbrev Wa(a b:Nat):RI:=omk a b
abbrev Wb(a:Nat)(b:BinOp)(c:Nat)(d:Int):RI:=oo a (Bc b c d) [c]
abbrev Wc(a b:Nat):RI:=oo a (Ld b) [b]
abbrev We(a b c:Nat):FI:=Fs a b (Ld c)
abbrev Wf(a b c:Nat):RI:=on a (Fa b c)
abbrev Wg(a b c:Nat):RI:=oo a (Ca b [.t c]) [c]
abbrev Wh(a b c:Nat):RI:=oo a (Pt b c) [b,c]
abbrev Wi(a:Nat)(b:BinOp)(c d:Nat):RI:=oo a (Bb b c d) [c,d]
abbrev Wj(a b:Nat):RI:=oo a (Ln b) [b]
abbrev Wk(a b c:Nat):RI:=oo a (Fa b c) [c]
abbrev Wm(a b c d:Nat):FI:=Fs a b (Fa c d)
abbrev Wn(a b:Nat)(c:BinOp)(d e:Nat):FI:=Fs a b (Bb c d e)
abbrev Wo(a:Nat)(b:Bool):RI:=on a (Mb b)
abbrev Wp(a b c:Nat):RI:=Sr a b c [c,b]
abbrev Wq(a:Nat)(b:BinOp)(c:Nat)(d:Int):RI:=on a (Bc b c d)
abbrev Wr(a:Nat)(b:Int):RI:=on a (Mc b)
abbrev Ws(a b c:Nat):RI:=on a (.ext (.t b) c)
abbrev Wt(a b c d e:Nat):FI:=Fs a b (Ia c d e)
abbrev Wu(a b c:Nat)(d:Int):RI:=oo a (Ca b [.t c,ci d]) [c]
abbrev Wv(a b c d:Nat):RI:=oo a (Ia b c d) [c,d]
abbrev Ww(a b c:Nat):RI:=Sr a b c [c]
abbrev Wx(a b c:Nat):RI:=oo a (Pf b c) [b,c]
abbrev Wy(a b c d:Nat):RI:=oo a (Ca b [.t c,.t d]) [c,d]
abbrev Wz(a b c:Nat):RI:=oo a (Lt b c) [c]
abbrev WA(a b c d:Nat):RI:=oo a (.app [.u8 0] b (.t c) (.t d)) [c,d]
abbrev WB(a b:Nat):RI:=oo a (.toInt .u8 (.t b)) [b]
abbrev WC(a b c:Nat):RI:=oo a (.ext (.t b) c) [b]
abbrev WD(a b:Nat):RI:=oo a (.nchk (.t b)) [b]
abbrev WE(a b:Nat)(c:BinOp)(d:Nat)(e:Int):FI:=Fs a b (Bc c d e)
abbrev WF(a b c:Nat)(d:Bool)(e:Nat):FI:=Fi a b c d (Mv e)
abbrev WG(a b c:Nat):FI:=Fs a b (.nchk (.t c))
abbrev WH(a b:Nat):RI:=oo a (.un .not (.t b)) [b]
abbrev WI(a:Nat)(b:Bool):RI:=oo a (Mb b) [a]
abbrev WJ(a b c d:Nat)(e:Int):FI:=Fs a b (.iaddrL c (.t d) (ci e))
abbrev WK(a b c:Nat):RI:=oo a (.lit b [.t c]) [c]
abbrev WL(a b c d:Nat):FI:=Fz a b (Ca c [.t d])
abbrev WM(a:Nat)(b:BinOp)(c:Int)(d:Nat):RI:=oo a (.bin b (ci c) (.t d)) [d]
abbrev WN(a:Nat)(b:Bool)(c:Nat):RI:=oo a (.len b (.t c)) [c]
abbrev WO(a b:Nat):RI:=oo a (.box (.t b)) [b]
abbrev WP(a b:Nat)(c:BinOp)(d:Int)(e:Nat):FI:=Fs a b (.bin c (ci d) (.t e))
abbrev WQ(a b:Nat):RI:=oo a (.litB [.t b]) [b]
abbrev WR(a b c d:Nat):FI:=Fs a b (.iaddrA 64 1 (.t c) (.t d))
abbrev WS(a:Nat):RI:=on a (.new (.rc Zq0))
abbrev WT(a:Nat):RI:=on a (.mov (.c (.byt [] .clip)))
abbrev WU(a:Nat)(b:Int):RI:=oo a (Mc b) [a]
abbrev WV(a b c:Nat):FI:=Fs a b (.toInt .i64 (.t c))
abbrev WW(a b:Nat):RI:=oo a (.toInt .u64 (.t b)) [b]
abbrev WX(a:Nat):RI:=on a (.new (.rc Zq1))
abbrev WY(a b c:Nat)(d:Int):RI:=oo a (.slcL b (.t c) none (some (ci d)) none) [c]
abbrev WZ(a:Nat):RI:=oo a (.mov (.c (.byt [] .clip))) [a]
abbrev W0(a b c:Nat):RI:=oo a (.call (.t b) [.t c]) [b,c,a]
abbrev W1(a b c d:Nat):RI:=oo a (.slcL b (.t c) none (some (.t d)) none) [c,d]
abbrev W2(a b c d e:Nat):FI:=Fz a b (.app [.u8 0] c (.t d) (.t e))
abbrev W3(a b c:Nat)(d:Int):RI:=oo a (.slcL b (.t c) (some (ci d)) none none) [c]
abbrev W4(a b c:Nat)(d:Int)(e:Nat):RI:=oo a (Ca b [.t c,ci d,.t e]) [c,e]
abbrev W5(a b:Nat):RI:=oo a (.b2s (.t b)) [b]
abbrev W6(a:Nat)(b:BinOp)(c:Nat):RI:=oo a (.bin b (.c (.str [32])) (.t c)) [c]
abbrev W7(a b c:Nat):FI:=Fs a b (.toInt .u8 (.t c))
abbrev W8(a b:Nat)(c:BinOp)(d:Nat):FI:=Fs a b (.bin c (.t d) (.c (.int .u64 8)))
abbrev W9(a:Nat):RI:=on a (.mov (.c (.lst 7 [] .clip)))
abbrev Xa(a:Nat):RI:=oo a (.mov (.c (.str []))) [a]
abbrev Xb(a:Nat):RI:=on a (.mov (.c (.lst 4 [] .clip)))
abbrev Xc(a:Nat):RI:=on a (.new (.rc [.int .i64 0,.byt [] .clip]))
abbrev Xd(a b:Nat)(c:Int)(d:Nat):RI:=oo a (Ca b [(.c (.byt [] .clip)),ci c,.t d]) [d]
abbrev Xe(a b:Nat)(c:BinOp)(d:Nat):FI:=Fs a b (.bin c (.t d) (.c (.int .u64 4)))
abbrev Xf(a:Nat):RI:=on a (.mov (.c (.lst 1 [] .clip)))
abbrev Xg(a:Nat)(b:BinOp)(c:Nat):RI:=oo a (.bin b (.t c) (.c (.u8 48))) [c]
abbrev Xh(a:Nat)(b:BinOp)(c:Nat):RI:=oo a (.bin b (.t c) (.c (.int .u64 8))) [c]
abbrev Xi(a b c d:Nat):RI:=oo a (.app [.byt [] .clip] b (.t c) (.t d)) [c,d]
abbrev Xj(a:Nat):RI:=oo a (.mov (.c (.lst 7 [] .clip))) [a]
abbrev Xk(a b c d e:Nat):FI:=Fz a b (.app [.int .i64 0,.byt [] .clip] c (.t d) (.t e))
abbrev Xl(a:Nat):RI:=oo a (.mov (.c (.lst 1 [] .clip))) [a]
abbrev Xm(a:Nat):RI:=on a (.new (.arr 1 (aJ 64 [.int .u32 0])))
abbrev Xn(a b c:Nat):RI:=oo a (.app [.u8 0] b (.c (.byt [] .clip)) (.t c)) [c]
abbrev Xo(n:Nat)(l:List Nat)(x:RC):RC:=Kc n (Kk [n] .skip) (Kk l x)
abbrev Xp(n:Nat)(l:List Nat)(x:RC):RC:=Kc n (Kk l x) (Kk [n] .skip)
def xep:La:=[WI 6 false]
def xeo:La:=[on 8 (Ca 7 []),WH 9 8]
def xjF:La:=[Wo 6 false]
def xjE:La:=[Wa 10 0,Wg 11 8 10,Wa 0 11]
def xjD:La:=[Wa 12 1,Wa 13 2,W4 14 9 12 8 13,Wa 7 14]
def xjC:La:=[om 15 0,Wg 16 10 15,Wa 17 0,Wg 18 11 17,Wi 19 .eql 16 18,Wa 20 19,.grp 20 true [(xi 21 20 true (Mv 7)),(xi 22 20 true (Ca 10 [.t 21])),(xi 23 20 true (Mv 7)),(xi 24 20 true (Ca 11 [.t 23])),(xi 25 20 true (Bb .eql 22 24))] [7,21,22,23,24],Wx 26 20 25,Wa 6 26]
def r3:RC:=(So xep (Sq (So xeo (Xp 9 [0,1,2,9] (So xjF .ret))) (So xjE (So xjD (So xjC .ret)))))
def F3:FnC:=⟨r3,27,[.tmp 6],[],[]⟩
def xE:La:=[WI 2 false]
def AK:La:=[Wo 2 false]
def xjB:La:=[Wa 10 0,oo 11 (Ca 9 [.t 10,ci 8,(.c (.bool false))]) [10],Wa 3 11]
def xjA:La:=[om 12 3,Wg 13 10 12,Wa 4 13]
def xjz:La:=[om 15 4,Wg 16 12 15,Wa 14 16,Ws 17 14 0,Ws 18 14 1,WC 19 14 2,Wa 5 17,Wa 6 18,Wa 7 19]
def xjy:La:=[Wa 20 4,WN 21 true 20,Wb 22 .gtr 21 0,om 23 3,Wj 24 23,Wb 25 .gtr 24 0,oo 26 (.beq false (.t 22) (.t 25)) [22,25],Wa 27 26,.grp 27 true [(xi 28 27 true (Mv 7)),(xi 29 27 true (Bc .eql 28 0))] [7,28],Wx 30 27 29,Wa 31 30,.grp 31 true [(xi 32 31 true (Mv 6)),(xi 33 31 true (Mv 3)),(xi 34 31 true (Ln 33)),(xi 35 31 true (Bb .eql 32 34))] [6,32,33,34],Wx 36 31 35,Wa 37 36,.grp 37 true [(xi 38 37 true (Mv 3)),(xi 39 37 true (Mv 5)),(xi 40 37 true (Ca 13 [.t 38,.t 39]))] [3,5,38,39],Wx 41 37 40,Wa 2 41]
def r4:RC:=(So xE (Sq (So xeo (Xp 9 [0,9] (So AK .ret))) (So xjB (So xjA (So xjz (So xjy .ret))))))
def F4:FnC:=⟨r4,42,[.tmp 2],[],[]⟩
def xjx:La:=[WI 12 false]
def xjw:La:=[on 25 (Ca 7 []),WH 26 25]
def xen:La:=[Wo 12 false]
def xjv:La:=[om 27 0,WN 28 true 27,Wb 29 .gtr 28 400]
def xju:La:=[Wa 30 0,oo 31 (.slcS (.t 30) none (some (ci 400))) [30],Wa 0 31]
def xjt:La:=[Wa 32 1,oo 33 (Ca 9 [.t 32,ci 6,(.c (.bool false))]) [32],Wg 34 11 33,.own (xs 35 (.s2b (.t 34))) [34],Wa 13 35]
def xjs:La:=[Wa 36 5,Wu 37 14 36 4,Wa 14 37]
def xjr:La:=[Wr 15 0]
def xjq:La:=[om 38 15,om 39 2,Wj 40 39,Wi 41 .lss 38 40,Wa 42 41,.grp 42 true [(xi 43 42 true (Mv 15)),(xi 44 42 true (Mv 3)),(xi 45 42 true (Ln 44)),(xi 46 42 true (Bb .lss 43 45))] [43,44,45],Wx 47 42 46,Wa 48 47,.grp 48 true [(xi 49 48 true (Mv 15)),(xi 50 48 true (Bc .lss 49 2))] [49],Wx 51 48 50,Wa 52 51,.grp 52 true [(xi 53 52 true (Mv 13)),(xi 54 52 true (Ln 53)),(xi 55 52 true (Bc .gtr 54 0))] [53,54],Wx 56 52 55]
def xjp:La:=[om 59 3,om 60 15,Wv 61 1 59 60,Wc 62 61,Wa 16 62]
def VN:La:=[om 63 14,Wu 64 15 63 2,Wb 65 .eql 64 1]
def VM:La:=[om 66 14,Wu 67 15 66 22,oo 68 (.idxS (.c (.str cs0)) (.t 67)) [67],Wa 16 68]
def VL:La:=[om 69 13,om 70 2,om 71 15,Wv 72 1 70 71,Wc 73 72,om 74 13,Wj 75 74,Wy 76 16 73 75,Wa 77 16,Wv 78 1 69 76,Wp 1 78 77]
def VK:La:=[Wa 57 15,Wb 58 .add 57 1,Wa 15 58]
def Ej:RC:=(Sq (So xjq (Xo 56 [2,3,14,15,56] (.exit 0))) (Sq (Bk 1 (So xjp (Sq (So VN (Xp 65 [16,65] (.ops VM))) (.ops VL)))) (.ops VK)))
def rD:RC:=Ej
def VJ:La:=[om 79 4,Wb 80 .and 79 1,Wb 81 .eql 80 1]
def VI:La:=[om 82 13,Wa 83 4,oo 84 (.bin .shr (.t 83) (.c (.int .u64 1))) [83],Wa 85 13,Wj 86 85,Wb 87 .add 86 1,Wy 88 16 84 87,W1 89 1 82 88,Wa 13 89]
def VH:La:=[Wa 90 0,Wa 91 13,W5 92 91,oo 93 (.lit 1 [.t 90,.t 92]) [90,92],on 94 (Ln 93),Wr 95 0]
def VG:La:=[on 96 (Bb .lss 95 94)]
def VF:La:=[on 97 (Ia 1 93 95),Wc 98 97,Wa 18 98]
def VE:La:=[om 100 18,Wg 101 12 100,Wa 99 101,Ws 102 99 0,Ws 103 99 1,WC 104 99 2,Wa 19 102,Wa 20 103,Wa 21 104]
def VD:La:=[om 106 18,Wg 107 17 106,Wa 105 107,Ws 108 105 0,Ws 109 105 1,WC 110 105 2,Wa 22 108,Wa 23 109,Wa 24 110]
def VC:La:=[om 111 21,Wa 112 24,Wi 113 .neq 111 112,Wa 114 113,.grp 114 false [(xi 115 114 false (Mv 20)),(xi 116 114 false (Mv 23)),(xi 117 114 false (Bb .neq 115 116))] [20,23,115,116],Wh 118 114 117,Wa 119 118,.grp 119 false [(xi 120 119 false (Mv 19)),(xi 121 119 false (Mv 22)),(xi 122 119 false (Ca 13 [.t 120,.t 121])),(xi 123 119 false (.un .not (.t 122)))] [22,120,121,122],Wh 124 119 123,Wa 125 124,.grp 125 false [(xi 126 125 false (Mv 21)),(xi 127 125 false (Bc .eql 126 0)),(xi 128 125 false (Mv 127))] [21,126,127],.grp 128 true [(xi 129 128 true (Mv 19)),(xi 130 128 true (Ca 10 [.t 129])),(xi 131 128 true (Mv 18)),(xi 132 128 true (Bb .neq 130 131))] [18,19,129,130,131],.grp 125 false [(xi 133 125 false (Pf 128 132))] [128,132],Wh 134 125 133]
def VB:La:=[Wb 135 .add 95 1,Wa 95 135]
def Ei:RC:=(So VG (Sq (Xo 96 [93,94,95,96] (.exit 2)) (Sq (Bk 3 (So VF (So VE (So VD (So VC (Xp 134 [93,94,95,134] (So xen .ret))))))) (.ops VB))))
def pA:RC:=Ei
def VA:La:=[Wo 12 true]
def r5:RC:=(So xjx (Sq (So xjw (Xp 26 [0,1,2,3,4,5,26] (So xen .ret))) (Sq (So xjv (Xp 29 [29] (.ops xju))) (So xjt (So xjs (Sq (So xjr (Bk 0 (.loop rD))) (Sq (So VJ (Kc 81 (Kk [81] (.ops VI)) (Kk [4,81] .skip))) (Sq (So VH (Bk 2 (.loop pA))) (So VA .ret)))))))))
def F5:FnC:=⟨r5,136,[.tmp 12],[],[]⟩
def xjo:La:=[WI 0 false]
def xjn:La:=[on 5 (.build Zq0 [(0,1,(ci 2)),(1,1,(ci 1)),(2,1,(ci 3))]),on 6 (.build Zq0 [(0,1,(ci 7)),(2,1,(ci 5))]),oo 7 (.lit 7 [.t 5,.t 6]) [5,6],Wa 1 7]
def xjm:La:=[on 9 (Ca 12 [(.c (.str [99,117,116,32,49,32,51,32,48,10,116,105,99,107,32,53,10]))]),Wa 8 9,Ws 10 8 0,Ws 11 8 1,WC 12 8 2,Wa 2 10,Wa 3 11,Wa 4 12]
def xjl:La:=[om 13 1,Wg 14 10 13,oo 15 (.bin .eql (.t 14) (.c (.str [99,117,116,32,49,32,51,32,48,10,116,105,99,107,32,53,10]))) [14],Wa 16 15,.grp 16 true [(xi 17 16 true (Mv 4)),(xi 18 16 true (Bc .eql 17 0))] [4,17],Wx 19 16 18,Wa 20 19,.grp 20 true [(xi 21 20 true (Mv 3)),(xi 22 20 true (Bc .eql 21 2))] [3,21],Wx 23 20 22,Wa 24 23,.grp 24 true [(xi 25 24 true (Mv 2)),(xi 26 24 true (Mv 1)),(xi 27 24 true (Ca 13 [.t 25,.t 26]))] [1,2,25,26],Wx 28 24 27,Wa 29 28,.grp 29 true [(xi 30 29 true (.build [.int .i64 0,.lst 2 [] .clip,.int .i64 0,.lst 7 [] .clip,.lst 2 [] .clip,.byt [] .clip,.int .i64 0,.lst 3 [] .clip,.lst 3 [] .clip,.lst 3 [] .clip,.lst 11 [] .clip,.lst 4 [] .clip,.lst 40 [] .clip,.lst 9 [] .clip] [])),(xi 31 29 true (Ca 24 [.t 30])),(xi 32 29 true (.bin .eql (.t 31) (.c (.str [99,108,111,99,107,32,48,10]))))] [30,31],Wx 33 29 32,Wa 0 33]
def r7:RC:=(So xjo (So xjn (So xjm (So xjl .ret))))
def F7:FnC:=⟨r7,34,[.tmp 0],[],[]⟩
def xjk:La:=[Xj 2]
def xjj:La:=[om 5 0,Wj 6 5,Wb 7 .gtr 6 6]
def xji:La:=[Wa 8 0,WY 9 7 8 6,Wa 0 9]
def xjh:La:=[on 10 (.lit 7 []),Wa 11 0,.own (xs 12 (.app Zq0 104 (.t 10) (.t 11))) [10,11],Wa 3 12]
def ny:La:=[Wr 4 0]
def xjg:La:=[om 13 4,om 14 3,Wj 15 14,Wi 16 .lss 13 15]
def xjf:La:=[om 19 3,om 20 4,om 21 3,om 22 4,Wv 23 7 21 22,Wk 24 4 23,Wk 25 0 24,Wc 26 25,Wu 27 28 26 60,Wv 28 7 19 20,Wk 29 4 28,Wk 30 0 29,Wp 1 30 27]
def xje:La:=[om 31 3,om 32 4,Wv 33 7 31 32,Wk 34 4 33,Wk 35 1 34,Wc 36 35,Wj 37 36,Wb 38 .gtr 37 6]
def xjd:La:=[om 39 3,om 40 4,om 41 3,om 42 4,Wv 43 7 41 42,Wk 44 4 43,Wk 45 1 44,Wc 46 45,WY 47 2 46 6,Wv 48 7 39 40,Wk 49 4 48,Wk 50 1 49,Wp 1 50 47]
def xjc:La:=[om 51 3,om 52 4,Wv 53 7 51 52,Wk 54 6 53,Wc 55 54,Wj 56 55,Wb 57 .gtr 56 10]
def Um:La:=[om 58 3,om 59 4,om 60 3,om 61 4,Wv 62 7 60 61,Wk 63 6 62,Wc 64 63,WY 65 4 64 10,Wv 66 7 58 59,Wk 67 6 66,Wp 1 67 65]
def Ul:La:=[Wa 17 4,Wb 18 .add 17 1,Wa 4 18]
def Pi:RC:=(Sq (So xjg (Xo 16 [4,16] (.exit 0))) (Sq (Bk 1 (So xjf (Sq (So xje (Xp 38 [38] (.ops xjd))) (So xjc (Xp 57 [57] (.ops Um)))))) (.ops Ul)))
def xA:RC:=Pi
def Uk:La:=[Wa 68 3,Wa 2 68]
def r8:RC:=(So xjk (Sq (So xjj (Xp 7 [7] (.ops xji))) (So xjh (Sq (So ny (Bk 0 (.loop xA))) (So Uk .ret)))))
def F8:FnC:=⟨r8,69,[.tmp 2],[],[]⟩
def xjb:La:=[Xj 6]
def xja:La:=[Wa 10 0,Wu 11 14 10 150,Wa 7 11]
def xi9:La:=[W9 8]
def xi8:La:=[om 12 7,Wg 13 20 12,Wa 14 13,.grp 14 true [(xi 15 14 true (Mv 8)),(xi 16 14 true (Ln 15)),(xi 17 14 true (Mv 1)),(xi 18 14 true (Bb .lss 16 17))] [15,16,17],Wx 19 14 18]
def xi7:La:=[om 20 7,Wu 21 15 20 12,WM 22 .add 1 21,oo 23 (.build Zq0 [(0,1,(.t 22))]) [22],WS 9,Ww 7 9 23]
def xi6:La:=[Wf 24 0 9,Wc 25 24]
def xi5:La:=[Wq 30 .eql 25 4,Wa 29 30]
def xi4:La:=[Wq 31 .eql 25 5,Wa 29 31]
def xi3:La:=[Wq 32 .eql 25 6,Wa 29 32]
def xi2:La:=[Wq 33 .eql 25 7,Wa 29 33]
def Tz:La:=[om 34 7,Wu 35 15 34 30,Wf 36 2 9,Wp 1 36 35]
def Ty:La:=[Wq 38 .eql 25 8,Wa 37 38]
def Tx:La:=[on 39 (.litB [(.c (.u8 1))]),Wg 40 31 39,om 41 7,Wu 42 15 41 9,oo 43 (.build [.byt [] .clip,.int .i64 0] [(0,1,(.t 40)),(1,1,(.t 42))]) [40,42],Wg 44 30 43,om 45 7,Wu 46 15 45 3,Wy 47 29 44 46,Wf 48 4 9,Wp 2 48 47]
def Tw:La:=[om 49 7,Wu 50 15 49 3,Wb 51 .eql 50 2]
def Tv:La:=[om 52 7,Wu 53 15 52 9,oo 54 (.build [.int .i64 0,.byt [] .clip] [(0,1,(.t 53))]) [53],WK 55 2 54,oo 56 (.build Zq2 [(1,1,(.t 55))]) [55],Wf 57 4 9,Wp 2 57 56]
def Tu:La:=[Wq 59 .eql 25 9,Wa 58 59]
def Tt:La:=[om 60 7,Wu 61 15 60 6,Wf 62 1 9,Wp 1 62 61]
def Ts:Lb:=[Fm 0 63 7,WG 1 64 63,Wm 2 65 0 64,We 3 66 65,Fm 4 67 7,WG 5 68 67,Wm 6 69 1 68,We 7 70 69,Fm 8 71 7,WG 9 72 71,Wm 10 73 0 72,We 11 74 73,Fs 12 75 (Ln 74),Fs 13 76 (.mini (.t 70) (.t 75)),Fs 14 77 (.slcL 1 (.t 66) (some (.t 76)) none none),WL 15 78 32 77,Wm 16 79 6 9,Fr 17 1 79 78]
def Tr:La:=[Wb 81 .eql 25 2,Wa 80 81]
def Tq:La:=[om 82 7,Wu 83 15 82 6,om 84 7,Wu 85 15 84 20,om 86 7,Wu 87 15 86 40,Wf 88 1 9,Wp 1 88 83,Wf 89 2 9,Wp 1 89 85,Wf 90 3 9,Wp 1 90 87]
def Tp:La:=[om 26 7,Wu 27 15 26 6,Wf 28 1 9,Wp 1 28 27]
def To:La:=[om 91 2,Wa 92 91,.grp 92 true [(xi 93 92 true (Mv 7)),(xi 94 92 true (Ca 15 [.t 93,ci 9])),(xi 95 92 true (Bc .eql 94 8))] [93,94],Wx 96 92 95]
def Tn:La:=[om 97 7,Wu 98 15 97 3,Wb 99 .sub 98 1,Wf 100 3 9,Wp 1 100 99]
def Tm:La:=[Wa 101 8,Wz 102 7 9,WK 103 7 102,oo 104 (.app Zq0 104 (.t 101) (.t 103)) [101,103],Wa 8 104]
def Pc:RC:=(.post (Sq (So xi8 (Xo 19 [1,2,7,19] (.exit 0))) (Bk 1 (So xi7 (Sq (So xi6 (Bk 2 (Sq (So xi5 (Kc 29 .skip (Kk [29] (So xi4 (Kc 29 .skip (Kk [29] (So xi3 (Kc 29 .skip (Kk [29] (.ops xi2)))))))))) (Kc 29 (Kk [25,29] (.ops Tz)) (Kk [29] (So Ty (Kc 37 (Kk [25,37] (So Tx (So Tw (Xp 51 [51] (.ops Tv))))) (Kk [37] (So Tu (Kc 58 (Kk [25,58] (So Tt (.flt [0,1,3,7,0,16,48,112,0,256,768,1792,3840,8176,16383,32767,65535,131071] [] Ts [63,64,65,66,67,68,69,70,71,72,73,74,75,76,77,78,79]))) (Kk [58] (So Tr (Kc 80 (Kk [80] (.ops Tq)) (Kk [80] (.ops Tp))))))))))))))) (Sq (So To (Xp 96 [96] (.ops Tn))) (.ops Tm)))))) [.gc [109],.tok 8 108])
def ge:RC:=Pc
def Tl:La:=[Wa 105 8,Wa 6 105]
def r9:RC:=(So xjb (So xja (So xi9 (Sq (Bk 0 (.pre [.tok 8 108] (.loop ge))) (So Tl .ret)))))
def F9:FnC:=⟨r9,106,[.tmp 6],[],[]⟩
def pB:La:=[Xa 2]
def YE:La:=[on 3 (.mov (.c (.str [])))]
def YD:La:=[om 6 4,om 7 0,Wj 8 7,Wi 9 .lss 6 8]
def YC:La:=[om 12 0,om 13 4,Wv 14 7 12 13,Wz 15 7 14,Wg 16 38 15,Wa 5 16]
def YB:La:=[om 17 5,oo 18 (.bin .eql (.t 17) (.c (.str []))) [17]]
def mT:La:=[on 2 (.mov (.c (.str [])))]
def YA:La:=[Wa 19 3,Wa 20 5,Wi 21 .add 19 20,Wa 3 21]
def Yz:La:=[Wa 10 4,Wb 11 .add 10 1,Wa 4 11]
def Px:RC:=(Sq (So YD (Xo 9 [0,4,9] (.exit 0))) (Sq (Bk 1 (So YC (Sq (So YB (Xp 18 [0,3,4,5,18] (So mT .ret))) (.ops YA)))) (.ops Yz)))
def O1:RC:=Px
def MW:La:=[Wa 22 3,Wa 2 22]
def r11:RC:=(So pB (So YE (Sq (So ny (Bk 0 (.loop O1))) (So MW .ret))))
def F11:FnC:=⟨r11,23,[.tmp 2],[],[]⟩
def O0:La:=[Xj 2,WU 3 0,WU 4 0]
def OZ:La:=[W9 5]
def Yy:La:=[om 11 0,oo 12 (.bin .neq (.t 11) (.c (.str []))) [11]]
def Yx:La:=[Wa 14 0,oo 15 (Ca 39 [.t 14,(.c (.str [10]))]) [14],Wa 13 15,Ws 16 13 0,Ws 17 13 1,WC 18 13 2,Wa 6 16,Wa 7 17,Wa 8 18]
def Yw:La:=[Wa 20 6,Wg 21 40 20,Wa 19 21,Ws 22 19 0,WC 23 19 1,WS 9,Ww 7 9 22,Wa 10 23]
def Yv:La:=[Wa 24 8,WH 25 24,Wa 26 25,.grp 26 false [(xi 27 26 false (Mv 10)),(xi 28 26 false (.un .not (.t 27)))] [10,27],Wh 29 26 28]
def Yu:La:=[Wa 30 5,Wj 31 30,W9 2,Wa 3 31,Wr 4 1]
def Yt:La:=[Wa 32 5,Wz 33 7 9,WK 34 7 33,oo 35 (.app Zq0 104 (.t 32) (.t 34)) [32,34],Wa 36 7,Wa 5 35,Wa 0 36]
def Pw:RC:=(.post (Sq (So Yy (Xo 12 [0,12] (.exit 0))) (Bk 1 (So Yx (So Yw (Sq (So Yv (Xp 29 [7,9,29] (So Yu .ret))) (.ops Yt)))))) [.gc [109],.tok 5 105])
def OY:RC:=Pw
def Ys:La:=[om 37 5,Wa 38 5,Wj 39 38,Wa 2 37,Wa 3 39,Wr 4 0]
def r12:RC:=(So O0 (So OZ (Sq (Bk 0 (.pre [.tok 5 105] (.loop OY))) (So Ys .ret))))
def F12:FnC:=⟨r12,40,[.tmp 2,.tmp 3,.tmp 4],[],[]⟩
def rG:La:=[WI 4 false]
def Yr:La:=[om 8 0,Wj 9 8,om 10 1,Wj 11 10,Wi 12 .neq 9 11]
def l7:La:=[Wo 4 false]
def mS:La:=[Wr 5 0]
def Yq:La:=[om 13 5,om 14 0,Wj 15 14,Wi 16 .lss 13 15]
def Yp:Lb:=[Fm 0 19 0,Fm 1 20 5,Wt 2 21 7 19 20,Fs 3 22 (Lt 7 21),Fm 4 23 1,Fm 5 24 5,Wt 6 25 7 23 24,Fs 7 26 (Lt 7 25),Fz 8 6 (.new (.rc Zq0)),Fz 9 7 (.new (.rc Zq0)),Fr 10 7 6 22,Fr 11 7 7 26]
def Yo:La:=[Wf 27 0 6,Wc 28 27,Wf 29 0 7,Wc 30 29,Wi 31 .neq 28 30,Wa 32 31,.grp 32 false [(xi 33 32 false (Fa 1 6)),(xi 34 32 false (Ld 33)),(xi 35 32 false (Fa 1 7)),(xi 36 32 false (Ld 35)),(xi 37 32 false (Bb .neq 34 36))] [33,34,35,36],Wh 38 32 37,Wa 39 38,.grp 39 false [(xi 40 39 false (Fa 2 6)),(xi 41 39 false (Ld 40)),(xi 42 39 false (Fa 2 7)),(xi 43 39 false (Ld 42)),(xi 44 39 false (Bb .neq 41 43))] [40,41,42,43],Wh 45 39 44,Wa 46 45,.grp 46 false [(xi 47 46 false (Fa 3 6)),(xi 48 46 false (Ld 47)),(xi 49 46 false (Fa 3 7)),(xi 50 46 false (Ld 49)),(xi 51 46 false (Bb .neq 48 50))] [47,48,49,50],Wh 52 46 51,Wa 53 52,.grp 53 false [(xi 54 53 false (Fa 4 6)),(xi 55 53 false (Lt 2 54)),(xi 56 53 false (Fa 4 7)),(xi 57 53 false (Lt 2 56)),(xi 58 53 false (Ca 41 [.t 55,.t 57])),(xi 59 53 false (.un .not (.t 58)))] [54,55,56,57,58],Wh 60 53 59,Wa 61 60,.grp 61 false [(xi 62 61 false (Fa 6 6)),(xi 63 61 false (Ld 62)),(xi 64 61 false (Fa 6 7)),(xi 65 61 false (Ld 64)),(xi 66 61 false (Ca 42 [.t 63,.t 65])),(xi 67 61 false (.un .not (.t 66)))] [6,7,62,63,64,65,66],Wh 68 61 67]
def OX:La:=[Wa 17 5,Wb 18 .add 17 1,Wa 5 18]
def Pv:RC:=(.post (Sq (So Yq (Xo 16 [0,1,5,16] (.exit 0))) (Sq (Bk 1 (Sq (.fla [0,0,3,7,0,0,48,112,0,0,783,2047] [106,107] Yp [[0,1,2,3,4,5,6,7,8,9,10,11],[0,1,2,3,4,5,6,7,9,8,10,11]] [19,20,21,22,23,24,25,26]) (So Yo (Xp 68 [0,1,5,68] (So l7 .ret))))) (.ops OX))) [.gc [106,107]])
def OW:RC:=Pv
def oU:La:=[Wo 4 true]
def r13:RC:=(So rG (Sq (So Yr (Xp 12 [0,1,12] (So l7 .ret))) (Sq (So mS (Bk 0 (.loop OW))) (So oU .ret))))
def F13:FnC:=⟨r13,69,[.tmp 4],[],[]⟩
def Yn:La:=[oo 4 (.mov (.c .nilp)) [4]]
def OV:La:=[om 5 0,Wj 6 5,om 7 1,Wi 8 .gtr 6 7]
def Ym:La:=[Wa 9 0,Wa 10 1,W1 11 1 9 10,Wa 0 11]
def Yl:La:=[Wa 12 0,oo 13 (.build [.byt [] .clip,.int .i64 0] [(0,1,(.t 12))]) [12],WO 14 13,Wa 4 14]
def r14:RC:=(So Yn (Sq (So OV (Kc 8 (Kk [8] (.ops Ym)) (Kk [1,8] .skip))) (So Yl .ret)))
def F14:FnC:=⟨r14,15,[.tmp 4],[],[]⟩
def rF:La:=[WU 4 0]
def Yk:Lb:=[Fm 0 5 0,WG 1 6 5,Wm 2 7 1 6,We 3 8 7,Fm 4 9 0,WG 5 10 9,Wm 6 11 0 10,We 7 12 11,Fs 8 13 (Ln 12),Wn 9 14 .geq 8 13]
def Yj:La:=[om 15 0,on 16 (.nchk (.t 15)),Wk 17 1 16,Wc 18 17,Wb 19 .add 18 1,WD 20 15,Wk 21 1 20,Wp 1 21 19]
def Yi:Lb:=[Fm 0 22 0,WG 1 23 22,Wm 2 24 0 23,We 3 25 24,Fm 4 26 0,WG 5 27 26,Wm 6 28 1 27,We 7 29 28,WE 8 30 .sub 29 1,Wt 9 31 1 25 30,We 10 32 31,WV 11 33 32,Fm 12 34 1,Wn 13 35 .rem 33 34,Fm 14 4 35]
def r15:RC:=(So rF (Sq (Sq (.flt [0,1,3,7,0,16,48,112,240,511] [] Yk [5,6,7,8,9,10,11,12,13]) (Xp 14 [0,1,14] (So ny .ret))) (So Yj (Sq (.flt [0,1,3,7,0,16,48,112,240,511,1023,2047,0,8191,16383] [] Yi [0,1,22,23,24,25,26,27,28,29,30,31,32,33,34,35]) .ret))))
def F15:FnC:=⟨r15,36,[.tmp 4],[],[]⟩
def Yh:La:=[om 6 1,Wb 7 .lss 6 1]
def Yg:La:=[Wa 8 0,om 9 1,Wi 10 .rem 8 9,Wa 5 10]
def Yf:La:=[om 11 5,Wb 12 .lss 11 0]
def Ye:La:=[Wa 13 5,Wa 14 1,Wi 15 .add 13 14,Wa 5 15]
def Yd:La:=[Wa 16 5,Wa 4 16]
def r16:RC:=(So rF (Sq (So Yh (Xp 7 [0,1,7] (So ny .ret))) (So Yg (Sq (So Yf (Kc 12 (Kk [12] (.ops Ye)) (Kk [1,12] .skip))) (So Yd .ret)))))
def F16:FnC:=⟨r16,17,[.tmp 4],[],[]⟩
def mR:La:=[Wr 6 0]
def rE:La:=[Wr 7 0]
def Yc:La:=[om 11 7,om 12 0,WN 13 true 12,Wi 14 .lss 11 13]
def Yb:La:=[om 17 7,Wa 8 17]
def Ya:La:=[om 18 8,om 19 0,WN 20 true 19,Wi 21 .lss 18 20,Wa 22 21,.grp 22 true [(xi 23 22 true (Mv 0)),(xi 24 22 true (Mv 8)),(xi 25 22 true (.idxS (.t 23) (.t 24))),(xi 26 22 true (.bin .neq (.t 25) (.c (.u8 10))))] [23,24,25],Wx 27 22 26]
def X9:La:=[Wa 28 8,Wb 29 .add 28 1,Wa 8 29]
def Pu:RC:=(Sq (So Ya (Xo 27 [27] (.exit 2))) (Bk 3 (.ops X9)))
def OU:RC:=Pu
def X8:La:=[om 31 0,Wa 32 7,om 33 8,oo 34 (.slcS (.t 31) (some (.t 32)) (some (.t 33))) [31,32,33],Wg 35 43 34,Wa 30 35,Ws 36 30 0,WC 37 30 1,WS 9,Ww 7 9 36,Wa 10 37]
def KK:La:=[Wa 38 10,WH 39 38,Wa 40 39,.grp 40 false [(xi 41 40 false (Mv 8)),(xi 42 40 false (Mv 0)),(xi 43 40 false (.len true (.t 42))),(xi 44 40 false (Bb .eql 41 43))] [41,42,43],Wh 45 40 44]
def KJ:La:=[Wa 46 6,W9 2,Wa 3 46,Wr 4 1]
def KI:La:=[Wa 47 5,Wz 48 7 9,WK 49 7 48,oo 50 (.app Zq0 104 (.t 47) (.t 49)) [47,49],Wa 51 8,Wb 52 .add 51 1,Wa 5 50,Wa 7 52]
def uT:La:=[Wa 15 6,Wb 16 .add 15 1,Wa 6 16]
def Ah:RC:=(.post (Sq (So Yc (Xo 14 [0,7,14] (.exit 0))) (Sq (Bk 1 (So Yb (Sq (Bk 2 (.loop OU)) (So X8 (Sq (So KK (Xp 45 [0,5,8,9,45] (So KJ .ret))) (.ops KI)))))) (.ops uT))) [.gc [109],.tok 5 105])
def zj:RC:=Ah
def KH:La:=[Wa 53 5,Wa 54 6,Wa 2 53,Wa 3 54,Wr 4 0]
def r17:RC:=(So O0 (So OZ (So mR (Sq (So rE (Bk 0 (.pre [.tok 5 105] (.loop zj)))) (So KH .ret)))))
def F17:FnC:=⟨r17,55,[.tmp 2,.tmp 3,.tmp 4],[],[]⟩
def X7:Lb:=[Fm 0 3 0,WG 1 4 3,Wm 2 5 1 4,We 3 6 5,Fm 4 7 0,WG 5 8 7,Wm 6 9 0 8,We 7 10 9,Fs 8 11 (Ln 10),Wn 9 12 .lss 6 11,Fm 10 2 12]
def r20:RC:=(So xE (Sq (.flt [0,1,3,7,0,16,48,112,240,511,1023] [] X7 [0,3,4,5,6,7,8,9,10,11,12]) .ret))
def F20:FnC:=⟨r20,13,[.tmp 2],[],[]⟩
def lv:La:=[WZ 4]
def X6:La:=[Wa 9 0,Wa 10 1,W1 11 1 9 10,Wa 4 11]
def X5:La:=[Wa 12 0,Wa 4 12]
def r28:RC:=(So lv (Sq (So OV (Kc 8 (Kk [8] (So X6 .ret)) (Kk [1,8] .skip))) (So X5 .ret)))
def F28:FnC:=⟨r28,13,[.tmp 4],[],[]⟩
def OT:La:=[on 4 (.new (.rc Zq2))]
def X4:La:=[Wa 7 0,oo 8 (.build Zq2 [(0,1,(.t 7))]) [7],on 5 (.new (.rc Zq2)),Ww 2 5 8]
def X3:La:=[om 9 6,Wb 10 .lss 9 3]
def X2:La:=[om 13 1,om 14 6,WW 15 14,Wi 16 .shr 13 15,Wb 17 .and 16 1,Wb 18 .eql 17 1]
def X1:Lb:=[Fs 0 19 (Lt 2 5),Fm 1 20 6,WP 2 21 .mul 2 20,WP 3 22 .add 3 21,Fm 4 23 6,WP 5 24 .mul 2 23,WP 6 25 .add 3 24,Fm 8 27 6,WE 9 28 .and 27 1,WL 7 26 73 25,Fz 10 29 (Ca 72 [.t 19,.t 22,.t 26,ci 1,.t 28]),Fr 11 2 5 29]
def X0:La:=[Wa 11 6,Wb 12 .add 11 1,Wa 6 12]
def Ps:RC:=(Sq (So X3 (Xo 10 [1,6,10] (.exit 0))) (Sq (Bk 1 (So X2 (Xp 18 [18] (.flt [0,0,2,6,0,16,48,112,0,256,1023,2047] [] X1 [19,20,21,22,23,24,25,26,27,28,29])))) (.ops X0)))
def mQ:RC:=Ps
def XZ:La:=[Wz 30 2 5,Ww 2 4 30]
def r29:RC:=(So OT (So X4 (Sq (So mR (Bk 0 (.loop mQ))) (So XZ .ret))))
def F29:FnC:=⟨r29,31,[.cell 4 2 true],[],[]⟩
def D1:La:=[WO 1 0,WZ 2]
def XY:La:=[Wf 3 0 1,Wc 4 3,Wj 5 4,Wb 6 .neq 5 32,Wa 7 6,.grp 7 false [(xi 8 7 false (Fa 1 1)),(xi 9 7 false (Ld 8)),(xi 10 7 false (Bc .lss 9 0))] [8,9],Wh 11 7 10,Wa 12 11,.grp 12 false [(xi 13 12 false (Fa 1 1)),(xi 14 12 false (Ld 13)),(xi 15 12 false (Bc .gtr 14 1099511627776))] [13,14],Wh 16 12 15]
def uO:La:=[WT 2]
def XX:Lb:=[Fs 0 17 (.litB [(.c (.u8 22))]),Wm 1 18 0 1,We 2 19 18,Wm 4 21 1 1,We 5 22 21,W2 3 20 1 17 19,Fz 6 23 (Ca 74 [.t 20,ci 6,.t 22]),Fm 7 2 23]
def r30:RC:=(So D1 (Sq (So XY (Xp 16 [1,16] (So uO .ret))) (Sq (.flt [0,0,2,7,0,16,63,127] [120] XX [1,17,18,19,20,21,22,23]) .ret)))
def F30:FnC:=⟨r30,24,[.tmp 2],[],[]⟩
def jY:La:=[WZ 2]
def XW:La:=[on 4 (.mkB (ci 32) (ci 32)),Wa 3 4]
def XV:La:=[om 5 3,Wa 6 0,oo 7 (.cpy 1 (.t 5) (.t 6)) [5,6,7]]
def XU:La:=[Wa 8 3,Wa 2 8]
def r31:RC:=(So jY (So XW (So XV (So XU .ret))))
def F31:FnC:=⟨r31,9,[.tmp 2],[],[]⟩
def XT:La:=[oo 2 (.mov (.c (.lst 4 [] .clip))) [2]]
def XS:La:=[Wa 10 0,Wu 11 14 10 200,Wa 3 11]
def XR:La:=[Xb 4]
def OS:La:=[Wr 5 1]
def XQ:La:=[om 12 5,Wb 13 .leq 12 4]
def XP:La:=[om 16 3,Wu 17 15 16 3,Wa 6 17]
def XO:La:=[om 18 5,Wb 19 .eql 18 1,Wa 20 19,.grp 20 false [(xi 21 20 false (Mv 5)),(xi 22 20 false (Bc .eql 21 3))] [21],Wh 23 20 22]
def XN:La:=[om 24 3,Wu 25 15 24 2,WM 26 .add 1 25,Wa 6 26]
def XM:La:=[om 27 6,Wb 28 .gtr 27 0]
def XL:La:=[om 31 3,om 32 5,Wy 33 75 31 32,WX 7,Ww 4 7 33]
def IQ:La:=[Wo 8 false]
def uN:La:=[Wr 9 0]
def IP:La:=[om 34 9,om 35 4,Wj 36 35,Wi 37 .lss 34 36]
def IN:Lb:=[Fm 0 40 8,Fm 1 41 40,WF 2 42 41 false 4,WF 3 43 41 false 9,Fi 4 44 41 false (Ia 4 42 43),Fi 5 45 41 false (Fa 0 44),Fi 6 46 41 false (Ld 45),Fi 7 47 41 false (Fa 0 7),Fi 8 48 41 false (Ld 47),Fi 9 49 41 false (Bb .eql 46 48),WF 10 50 41 false 49,WF 11 51 50 true 4,WF 12 52 50 true 9,Fi 13 53 50 true (Ia 4 51 52),Fi 14 54 50 true (Fa 1 53),Fi 15 55 50 true (Ld 54),Fi 16 56 50 true (Fa 1 7),Fi 17 57 50 true (Ld 56),Fi 18 58 50 true (Bb .eql 55 57),Fi 19 59 41 false (Pf 50 58),Fs 20 60 (Pt 41 59),⟨21,false,(xm 8 60)⟩]
def IM:La:=[Wa 38 9,Wb 39 .add 38 1,Wa 9 39]
def zY:RC:=(Sq (So IP (Xo 37 [9,37] (.exit 4))) (Sq (Bk 5 (.flt [0,1,3,3,15,31,63,3,131,511,1023,2047,2047,8191,16383,32767,2047,67583,262143,524287,1048575,2097151] [] IN [40,41,42,43,44,45,46,47,48,49,50,51,52,53,54,55,56,57,58,59,60])) (.ops IM)))
def yZ:RC:=zY
def IL:La:=[Wa 61 8,WH 62 61]
def IK:La:=[Wa 63 4,Wz 64 4 7,WK 65 4 64,oo 66 (.app Zq1 56 (.t 63) (.t 65)) [63,65],Wa 4 66]
def IJ:La:=[Wa 29 6,Wb 30 .sub 29 1,Wa 6 30]
def zX:RC:=(.post (Sq (So XM (Xo 28 [6,28] (.exit 2))) (Sq (Bk 3 (So XL (So IQ (Sq (So uN (Bk 4 (.loop yZ))) (So IL (Kc 62 (Kk [62] (.ops IK)) (Kk [7,62] .skip))))))) (.ops IJ))) [.gc [107],.tok 4 104])
def yY:RC:=zX
def II:La:=[Wa 14 5,Wb 15 .add 14 1,Wa 5 15]
def zW:RC:=(.post (Sq (So XQ (Xo 13 [3,5,13] (.exit 0))) (Sq (Bk 1 (So XP (Sq (So XO (Xp 23 [6,23] (.ops XN))) (Bk 2 (.pre [.tok 4 104] (.loop yY)))))) (.ops II))) [.gc [107],.tok 4 104])
def rk:RC:=zW
def IH:La:=[Wa 67 4,Wa 2 67]
def r32:RC:=(So XT (So XS (So XR (Sq (So OS (Bk 0 (.pre [.tok 4 104] (.loop rk)))) (So IH .ret)))))
def F32:FnC:=⟨r32,68,[.tmp 2],[],[]⟩
def XK:La:=[WO 1 0,WI 2 false]
def XJ:La:=[on 8 (Lt 7 1),Wg 9 76 8,Wa 7 9,Ws 10 7 0,WC 11 7 1,WS 3,Ww 7 3 10,Wa 4 11]
def XI:La:=[Wa 12 4,WH 13 12,Wa 14 13,.grp 14 false [(xi 15 14 false (Fa 1 1)),(xi 16 14 false (Ld 15)),(xi 17 14 false (Fa 2 1)),(xi 18 14 false (Ld 17)),(xi 19 14 false (Fa 3 1)),(xi 20 14 false (Ld 19)),(xi 21 14 false (.lit 1 [.t 16,.t 18,.t 20])),(xi 22 14 false (Ca 77 [.t 21])),(xi 23 14 false (.un .not (.t 22)))] [15,16,17,18,19,20,21,22],Wh 24 14 23,Wa 25 24,.grp 25 false [(xi 26 25 false (Fa 4 1)),(xi 27 25 false (Fa 0 26)),(xi 28 25 false (Ld 27)),(xi 29 25 false (Ln 28)),(xi 30 25 false (Bc .gtr 29 4096))] [26,27,28,29],Wh 31 25 30,Wa 32 31,.grp 32 false [(xi 33 32 false (Fa 4 1)),(xi 34 32 false (Fa 1 33)),(xi 35 32 false (Ld 34)),(xi 36 32 false (Ln 35)),(xi 37 32 false (Bc .gtr 36 4))] [33,34,35,36],Wh 38 32 37]
def XH:La:=[Wf 39 1 3,Wc 40 39,Wf 41 1 1,Wc 42 41,Wi 43 .neq 40 42,Wa 44 43,.grp 44 false [(xi 45 44 false (Fa 2 3)),(xi 46 44 false (Ld 45)),(xi 47 44 false (Fa 2 1)),(xi 48 44 false (Ld 47)),(xi 49 44 false (Bb .neq 46 48))] [45,46,47,48],Wh 50 44 49,Wa 51 50,.grp 51 false [(xi 52 51 false (Fa 3 3)),(xi 53 51 false (Ld 52)),(xi 54 51 false (Fa 3 1)),(xi 55 51 false (Ld 54)),(xi 56 51 false (Bb .neq 53 55))] [52,53,54,55],Wh 57 51 56,Wa 58 57,.grp 58 false [(xi 59 58 false (Fa 4 3)),(xi 60 58 false (Fa 0 59)),(xi 61 58 false (Ld 60)),(xi 62 58 false (Ln 61)),(xi 63 58 false (Fa 4 1)),(xi 64 58 false (Fa 0 63)),(xi 65 58 false (Ld 64)),(xi 66 58 false (Ln 65)),(xi 67 58 false (Bb .neq 62 66))] [59,60,61,62,63,64,65,66],Wh 68 58 67,Wa 69 68,.grp 69 false [(xi 70 69 false (Fa 4 3)),(xi 71 69 false (Fa 1 70)),(xi 72 69 false (Ld 71)),(xi 73 69 false (Ln 72)),(xi 74 69 false (Fa 4 1)),(xi 75 69 false (Fa 1 74)),(xi 76 69 false (Ld 75)),(xi 77 69 false (Ln 76)),(xi 78 69 false (Bb .neq 73 77))] [70,71,72,73,74,75,76,77],Wh 79 69 78,Wa 80 79,.grp 80 false [(xi 81 80 false (Fa 6 3)),(xi 82 80 false (Ld 81)),(xi 83 80 false (Ln 82)),(xi 84 80 false (Fa 6 1)),(xi 85 80 false (Ld 84)),(xi 86 80 false (Ln 85)),(xi 87 80 false (Bb .neq 83 86))] [3,81,82,83,84,85,86],Wh 88 80 87]
def XG:La:=[Wf 89 4 1,Wk 90 1 89,Wc 91 90,on 92 (Ln 91),Wr 93 0]
def XF:La:=[on 94 (Bb .lss 93 92)]
def XE:La:=[on 95 (Ia 2 91 93),Wz 96 2 95,Xc 6,Ww 2 6 96]
def XD:La:=[Wf 97 0 6,Wc 98 97,WK 99 1 98,Wg 100 77 99,WH 101 100,Wa 102 101,.grp 102 false [(xi 103 102 false (Fa 1 6)),(xi 104 102 false (Ld 103)),(xi 105 102 false (Ln 104)),(xi 106 102 false (Bc .gtr 105 1024))] [6,103,104,105],Wh 107 102 106]
def IG:La:=[Wb 108 .add 93 1,Wa 93 108]
def zV:RC:=(.post (So XF (Sq (Xo 94 [91,92,93,94] (.exit 0)) (Sq (Bk 1 (So XE (So XD (Xp 107 [1,91,92,93,107] (So AK .ret))))) (.ops IG)))) [.gc [106]])
def yX:RC:=zV
def IF:La:=[Wf 109 0 1,Wc 110 109,Wb 111 .neq 110 9,Wa 112 111,.grp 112 false [(xi 113 112 false (Fa 6 1)),(xi 114 112 false (Ld 113)),(xi 115 112 false (Ca 78 [.t 114])),(xi 116 112 false (Bc .eql 115 0))] [1,113,114,115],Wh 117 112 116,Wa 2 117]
def r33:RC:=(So XK (So XJ (Sq (So XI (Xp 38 [1,3,38] (So AK .ret))) (Sq (So XH (Xp 88 [1,88] (So AK .ret))) (Sq (So XG (Bk 0 (.loop yX))) (So IF .ret))))))
def F33:FnC:=⟨r33,118,[.tmp 2],[],[]⟩
def OR:La:=[WO 1 0,Xa 2]
def XC:La:=[Wf 7 0 1,Wc 8 7,Wg 9 80 8,WK 10 1 9,on 3 (.new (.rc [.lst 1 [] .clip])),Ww 1 3 10]
def XB:La:=[on 11 (.mkfn 81 [] [.t 3]),Wa 4 11]
def XA:La:=[Wf 12 0 1,Wc 13 12]
def Xz:La:=[Wq 19 .eql 13 2,Wa 18 19]
def Xy:La:=[om 20 4,Wf 21 1 1,Wc 22 21,W0 23 20 22]
def Xx:La:=[om 24 4,Wf 25 2 1,Wc 26 25,W0 27 24 26]
def Xw:La:=[Wa 28 4,Wk 29 3 1,Wc 30 29,W0 31 28 30]
def Xv:La:=[Wq 33 .eql 13 4,Wa 32 33]
def Xu:La:=[Wq 34 .eql 13 5,Wa 32 34]
def IE:La:=[Wq 35 .eql 13 6,Wa 32 35]
def ID:La:=[Wq 36 .eql 13 7,Wa 32 36]
def IC:La:=[Wa 37 4,Wk 38 2 1,Wc 39 38,W0 40 37 39]
def IB:La:=[Wq 42 .eql 13 8,Wa 41 42]
def IA:Lb:=[We 0 43 3,Wm 1 44 4 1,Wm 2 45 0 44,We 3 46 45,WL 4 47 82 46,Fs 5 48 (.lit 1 [.t 47]),Fz 6 49 (.app [.str []] 16 (.t 43) (.t 48)),Fr 7 1 3 49]
def Iz:La:=[Wk 50 4 1,Wk 51 1 50,Wc 52 51,on 53 (Ln 52),Wr 54 0]
def Iy:La:=[on 55 (Bb .lss 54 53)]
def Ix:La:=[on 56 (Ia 2 52 54),Wz 57 2 56,Xc 6,Ww 2 6 57]
def Iw:La:=[om 58 4,Wf 59 0 6,Wc 60 59,W0 61 58 60]
def Iv:Lb:=[We 0 62 3,Wm 1 63 1 6,We 2 64 63,WL 3 65 82 64,Fs 4 66 (.lit 1 [.t 65]),Fz 5 67 (.app [.str []] 16 (.t 62) (.t 66)),Fr 6 1 3 67]
def Iu:La:=[Wb 68 .add 54 1,Wa 54 68]
def zU:RC:=(.post (So Iy (Sq (Xo 55 [4,52,53,54,55] (.exit 1)) (Sq (Bk 2 (So Ix (So Iw (.flt [0,0,2,6,14,31,63] [167] Iv [6,62,63,64,65,66,67])))) (.ops Iu)))) [.gc [106]])
def yW:RC:=zU
def It:La:=[Wb 70 .eql 13 9,Wa 69 70]
def Is:La:=[Wa 71 4,Wf 72 1 1,Wc 73 72,W0 74 71 73]
def Ir:Lb:=[We 0 75 3,Wm 1 76 6 1,We 2 77 76,WL 3 78 83 77,WL 4 79 82 78,Fs 5 80 (.lit 1 [.t 79]),Fz 6 81 (.app [.str []] 16 (.t 75) (.t 80)),Fr 7 1 3 81]
def Iq:La:=[Wa 14 4,oo 15 (Fa 1 1) [1],Wc 16 15,W0 17 14 16]
def Ip:La:=[Wc 82 3,oo 83 (Ca 84 [.t 82,(.c (.str [32]))]) [82],Wa 2 83]
def r35:RC:=(So OR (So XC (So XB (Sq (So XA (Bk 0 (So Xz (Kc 18 (Kk [13,18] (So Xy (So Xx (.ops Xw)))) (Kk [18] (Sq (So Xv (Kc 32 .skip (Kk [32] (So Xu (Kc 32 .skip (Kk [32] (So IE (Kc 32 .skip (Kk [32] (.ops ID)))))))))) (Kc 32 (Kk [13,32] (.ops IC)) (Kk [32] (So IB (Kc 41 (Kk [13,41] (Sq (.flt [0,0,2,6,14,30,63,127] [149] IA [43,44,45,46,47,48,49]) (So Iz (Bk 1 (.loop yW))))) (Kk [41] (So It (Kc 69 (Kk [69] (So Is (.flt [0,0,2,6,14,30,63,127] [181] Ir [1,75,76,77,78,79,80,81]))) (Kk [69] (.ops Iq))))))))))))))) (So Ip .ret)))))
def F35:FnC:=⟨r35,84,[.tmp 2],[],[]⟩
def Xt:La:=[Wf 12 0 1,Wc 13 12,Wg 14 85 13,Wa 3 14]
def Xs:La:=[om 15 3,oo 16 (.bin .eql (.t 15) (.c (.str []))) [15]]
def Xr:La:=[Wf 18 0 1,Wc 19 18,Wg 20 86 19,Wa 17 20,Ws 21 17 0,Ws 22 17 1,Ws 23 17 2,Ws 24 17 3,WC 25 17 4,Wa 4 21,Wa 5 22,Wa 6 23,Wa 7 24,Wa 8 25]
def Xq:La:=[om 26 4,WH 27 26,Wa 28 27,.grp 28 true [(xi 29 28 true (Fa 1 1)),(xi 30 28 true (Ld 29)),(xi 31 28 true (Bc .neq 30 0))] [29,30],Wx 32 28 31,Wa 33 32,.grp 33 false [(xi 34 33 false (Mv 5)),(xi 35 33 false (.un .not (.t 34))),(xi 36 33 false (Mv 35))] [34,35],.grp 36 true [(xi 37 36 true (Fa 2 1)),(xi 38 36 true (Ld 37)),(xi 39 36 true (Bc .neq 38 0))] [37,38],.grp 33 false [(xi 40 33 false (Pf 36 39))] [36,39],Wh 41 33 40,Wa 42 41,.grp 42 false [(xi 43 42 false (Mv 6)),(xi 44 42 false (.un .not (.t 43))),(xi 45 42 false (Mv 44))] [43,44],.grp 45 true [(xi 46 45 true (Fa 3 1)),(xi 47 45 true (Ld 46)),(xi 48 45 true (Bc .neq 47 0))] [46,47],.grp 42 false [(xi 49 42 false (Pf 45 48))] [45,48],Wh 50 42 49,Wa 51 50,.grp 51 false [(xi 52 51 false (Mv 7)),(xi 53 51 false (.un .not (.t 52))),(xi 54 51 false (Mv 53))] [52,53],.grp 54 true [(xi 55 54 true (Fa 4 1)),(xi 56 54 true (Fa 0 55)),(xi 57 54 true (Ld 56)),(xi 58 54 true (Ln 57)),(xi 59 54 true (Bc .gtr 58 0)),(xi 60 54 true (Mv 59))] [55,56,57,58,59],.grp 60 false [(xi 61 60 false (Fa 4 1)),(xi 62 60 false (Fa 1 61)),(xi 63 60 false (Ld 62)),(xi 64 60 false (Ln 63)),(xi 65 60 false (Bc .gtr 64 0))] [61,62,63,64],.grp 54 true [(xi 66 54 true (Pt 60 65))] [60,65],.grp 51 false [(xi 67 51 false (Pf 54 66))] [54,66],Wh 68 51 67,Wa 69 68,.grp 69 false [(xi 70 69 false (Mv 8)),(xi 71 69 false (.un .not (.t 70))),(xi 72 69 false (Mv 71))] [70,71],.grp 72 true [(xi 73 72 true (Fa 6 1)),(xi 74 72 true (Ld 73)),(xi 75 72 true (Ln 74)),(xi 76 72 true (Bc .gtr 75 0))] [73,74,75],.grp 69 false [(xi 77 69 false (Pf 72 76))] [72,76],Wh 78 69 77]
def V9:La:=[Wf 79 1 1,Wc 80 79,Wg 81 87 80,WH 82 81,Wa 83 82,.grp 83 false [(xi 84 83 false (Fa 2 1)),(xi 85 83 false (Ld 84)),(xi 86 83 false (Ca 87 [.t 85])),(xi 87 83 false (.un .not (.t 86)))] [84,85,86],Wh 88 83 87,Wa 89 88,.grp 89 false [(xi 90 89 false (Fa 3 1)),(xi 91 89 false (Ld 90)),(xi 92 89 false (Ca 87 [.t 91])),(xi 93 89 false (.un .not (.t 92)))] [90,91,92],Wh 94 89 93]
def V8:La:=[Wa 95 4]
def Io:La:=[Wa 96 3,Wf 97 1 1,Wc 98 97,Wg 99 66 98,W6 100 .add 99,Wi 101 .add 96 100,Wa 3 101]
def In:La:=[Wa 102 5]
def Im:La:=[Wa 103 3,Wf 104 2 1,Wc 105 104,Wg 106 66 105,W6 107 .add 106,Wi 108 .add 103 107,Wa 3 108]
def Il:La:=[Wa 109 6]
def Ik:La:=[Wa 110 3,Wf 111 3 1,Wc 112 111,Wg 113 66 112,W6 114 .add 113,Wi 115 .add 110 114,Wa 3 115]
def Ij:La:=[Wa 116 7]
def Ii:La:=[Wf 117 4 1,Wk 118 0 117,Wc 119 118,Wj 120 119,Wb 121 .gtr 120 4096,Wa 122 121,.grp 122 false [(xi 123 122 false (Fa 4 1)),(xi 124 122 false (Fa 1 123)),(xi 125 122 false (Ld 124)),(xi 126 122 false (Ln 125)),(xi 127 122 false (Bc .gtr 126 4))] [123,124,125,126],Wh 128 122 127]
def Ih:La:=[Wa 129 3,Wf 130 4 1,Wk 131 0 130,Wc 132 131,Wg 133 88 132,W6 134 .add 133,Wi 135 .add 129 134,Wa 3 135]
def Ig:La:=[om 136 9,Wf 137 4 1,Wk 138 1 137,Wc 139 138,Wj 140 139,Wi 141 .lss 136 140]
def If:La:=[Wf 144 4 1,Wk 145 1 144,Wc 146 145,om 147 9,Wv 148 2 146 147,Wz 149 2 148,Xc 10,Ww 2 10 149]
def Ie:La:=[Wf 150 0 10,Wc 151 150,Wg 152 87 151,WH 153 152,Wa 154 153,.grp 154 false [(xi 155 154 false (Fa 1 10)),(xi 156 154 false (Ld 155)),(xi 157 154 false (Ln 156)),(xi 158 154 false (Bc .gtr 157 1024))] [155,156,157],Wh 159 154 158]
def Ic:Lb:=[Fm 0 160 3,Wm 1 161 0 10,We 2 162 161,Wm 6 166 1 10,We 7 167 166,WL 3 163 66 162,Fs 4 164 (.bin .add (.c (.str [32])) (.t 163)),Fs 5 165 (.bin .add (.t 164) (.c (.str [32]))),WL 8 168 88 167,Wn 9 169 .add 165 168,Wn 10 170 .add 160 169,⟨11,false,(xm 3 170)⟩]
def Ib:La:=[Wa 142 9,Wb 143 .add 142 1,Wa 9 143]
def zT:RC:=(.post (Sq (So Ig (Xo 141 [9,141] (.exit 0))) (Sq (Bk 1 (So If (Sq (So Ie (Xp 159 [1,3,8,9,10,159] (So mT .ret))) (.flt [0,0,2,6,14,30,0,64,206,510,1023,2047] [] Ic [10,160,161,162,163,164,165,166,167,168,169,170])))) (.ops Ib))) [.gc [110]])
def yV:RC:=zT
def H9:La:=[Wa 171 8]
def H8:La:=[Wk 172 6 1,Wc 173 172,Wg 174 89 173,Wa 11 174]
def H7:La:=[om 175 11,Wj 176 175,Wb 177 .eql 176 0]
def H6:La:=[Wa 178 3,Wa 179 11,Wg 180 88 179,W6 181 .add 180,Wi 182 .add 178 181,Wa 3 182]
def H5:La:=[Wa 183 3,oo 184 (.bin .add (.t 183) (.c (.str [10]))) [183],Wa 2 184]
def r38:RC:=(So OR (So Xt (Sq (So Xs (Xp 16 [1,3,16] (So mT .ret))) (So Xr (Sq (So Xq (Xp 78 [1,3,4,5,6,7,8,78] (So mT .ret))) (Sq (So V9 (Xp 94 [1,3,4,5,6,7,8,94] (So mT .ret))) (Sq (So V8 (Xp 95 [95] (.ops Io))) (Sq (So In (Xp 102 [102] (.ops Im))) (Sq (So Il (Xp 109 [109] (.ops Ik))) (Sq (So Ij (Xp 116 [116] (Sq (So Ii (Xp 128 [1,3,8,128] (So mT .ret))) (So Ih (So uN (Bk 0 (.loop yV))))))) (Sq (So H9 (Kc 171 (Kk [171] (So H8 (Sq (So H7 (Xp 177 [3,11,177] (So mT .ret))) (.ops H6)))) (Kk [1,171] .skip))) (So H5 .ret))))))))))))
def F38:FnC:=⟨r38,185,[.tmp 2],[],[]⟩
def OQ:La:=[Xa 4,Xa 5,WI 6 false]
def V7:La:=[Wa 7 0,Wa 8 1,Wy 9 90 7 8,Ws 10 9 0,Ws 11 9 1,WC 12 9 2,Wa 4 10,Wa 5 11,Wa 6 12]
def r39:RC:=(So OQ (So V7 .ret))
def F39:FnC:=⟨r39,13,[.tmp 4,.tmp 5,.tmp 6],[],[]⟩
def D0:La:=[WS 2,WI 3 false]
def V6:La:=[om 7 0,oo 8 (Ca 91 [.t 7,(.c (.str [32]))]) [7],Wa 4 8]
def V5:La:=[WS 5]
def V4:La:=[Wf 9 0 5,.op ⟨none,none,.store 1 (.t 9) (ci 1)⟩ [9]]
def V3:Lb:=[Wm 0 10 0 5,We 1 11 10,WE 2 12 .leq 11 12,Fm 3 13 12,Fi 4 14 13 true (Fa 0 5),Fi 5 15 13 true (Ld 14),WF 7 17 13 true 4,Fi 8 18 13 true (.iaddrL 1 (.t 17) (ci 0)),Fi 9 19 13 true (Ld 18),Fy 6 16 13 true (Ca 80 [.t 15]),Fi 10 20 13 true (Bb .neq 16 19),Fs 11 21 (Pf 13 20)]
def V2:La:=[Wf 22 0 5,Wc 23 22,Wb 24 .add 23 1,Wf 25 0 5,Wp 1 25 24]
def Pq:RC:=(Sq (Sq (.flt [0,1,3,7,15,31,63,15,143,399,1023,2047] [] V3 [10,11,12,13,14,15,16,17,18,19,20]) (Xo 21 [21] (.exit 0))) (Sq (Bk 1 .skip) (.ops V2)))
def OP:RC:=Pq
def V1:La:=[Wf 26 0 5,Wc 27 26]
def V0:La:=[Wq 34 .eql 27 2,Wa 33 34]
def H4:La:=[Wa 35 4,W3 36 1 35 1,Wf 37 1 5,Wf 38 2 5,Wf 39 3 5,.own (xs 40 (.lit 1 [.t 37,.t 38,.t 39])) [37,38,39],Wy 41 92 36 40,Wa 6 41]
def H3:La:=[Wq 43 .eql 27 4,Wa 42 43]
def H2:La:=[Wq 44 .eql 27 5,Wa 42 44]
def H1:La:=[Wq 45 .eql 27 6,Wa 42 45]
def HZ:La:=[Wq 46 .eql 27 7,Wa 42 46]
def HY:La:=[Wa 47 4,W3 48 1 47 1,Wf 49 2 5,.own (xs 50 (.lit 1 [.t 49])) [49],Wy 51 92 48 50,Wa 6 51]
def HX:La:=[Wq 53 .eql 27 8,Wa 52 53]
def HW:La:=[Wa 55 4,W3 56 1 55 1,Wg 57 93 56,Wa 54 57,Ws 58 54 0,WC 59 54 1,Wf 60 4 5,Wp 2 60 58,Wa 6 59]
def HV:La:=[Wb 62 .eql 27 9,Wa 61 62]
def HU:La:=[Wa 64 4,W3 65 1 64 1,Wg 66 94 65,Wa 63 66,Ws 67 63 0,WC 68 63 1,Ww 7 5 67,Wa 6 68]
def HS:La:=[Wa 28 4,W3 29 1 28 1,Wf 30 1 5,.own (xs 31 (.lit 1 [.t 30])) [30],Wy 32 92 29 31,Wa 6 32]
def HQ:Lb:=[Fs 0 69 (Lt 7 5),Fm 1 70 6,Fm 2 71 70,Fi 3 72 71 true (Lt 7 5),Fy 4 73 71 true (Ca 33 [.t 72]),Fs 5 74 (Pf 71 73),Fm 6 75 74,Fi 7 76 75 true (Lt 7 5),WF 9 78 75 true 0,Fy 8 77 75 true (Ca 35 [.t 76]),Fi 10 79 75 true (Bb .eql 77 78),Fs 11 80 (Pf 75 79),Fr 12 7 2 69,Fm 13 3 80]
def r40:RC:=(So D0 (So V6 (So V5 (Sq (So V4 (Bk 0 (.loop OP))) (So xep (Sq (So V1 (Bk 2 (So V0 (Kc 33 (Kk [27,33] (.ops H4)) (Kk [33] (Sq (So H3 (Kc 42 .skip (Kk [42] (So H2 (Kc 42 .skip (Kk [42] (So H1 (Kc 42 .skip (Kk [42] (.ops HZ)))))))))) (Kc 42 (Kk [27,42] (.ops HY)) (Kk [42] (So HX (Kc 52 (Kk [27,52] (.ops HW)) (Kk [52] (So HV (Kc 61 (Kk [61] (.ops HU)) (Kk [61] (.ops HS))))))))))))))) (Sq (.flt [0,0,2,6,14,30,62,126,254,126,1022,2046,511,8191] [] HQ [0,5,6,69,70,71,72,73,74,75,76,77,78,79,80]) .ret)))))))
def F40:FnC:=⟨r40,81,[.cell 2 7 true,.tmp 3],[],[]⟩
def OO:La:=[WO 2 0,WO 3 1,WI 4 false]
def VZ:La:=[Wf 6 0 2,Wc 7 6,Wf 8 0 3,Wc 9 8,Wy 10 95 7 9,WH 11 10,Wa 12 11,.grp 12 false [(xi 13 12 false (Fa 1 2)),(xi 14 12 false (Ld 13)),(xi 15 12 false (Ln 14)),(xi 16 12 false (Fa 1 3)),(xi 17 12 false (Ld 16)),(xi 18 12 false (Ln 17)),(xi 19 12 false (Bb .neq 15 18))] [13,14,15,16,17,18],Wh 20 12 19]
def VY:La:=[om 21 5,Wf 22 1 2,Wc 23 22,Wj 24 23,Wi 25 .lss 21 24]
def VX:Lb:=[Wm 0 28 1 2,We 1 29 28,Fm 2 30 5,Wt 3 31 2 29 30,Wm 4 32 0 31,We 5 33 32,Wm 6 34 1 3,We 7 35 34,Fm 8 36 5,Wt 9 37 2 35 36,Wm 10 38 0 37,We 11 39 38,Wn 12 40 .neq 33 39,Fm 13 41 40,Fi 14 42 41 false (Fa 1 2),Fi 15 43 41 false (Ld 42),WF 16 44 41 false 5,Fi 17 45 41 false (Ia 2 43 44),Fi 18 46 41 false (Fa 1 45),Fi 19 47 41 false (Ld 46),Fi 20 48 41 false (Fa 1 3),Fi 21 49 41 false (Ld 48),WF 22 50 41 false 5,Fi 23 51 41 false (Ia 2 49 50),Fi 24 52 41 false (Fa 1 51),Fi 25 53 41 false (Ld 52),Fy 26 54 41 false (Ca 95 [.t 47,.t 53]),Fi 27 55 41 false (.un .not (.t 54)),Fs 28 56 (Pt 41 55)]
def VW:La:=[Wa 26 5,Wb 27 .add 26 1,Wa 5 27]
def Pp:RC:=(Sq (So VY (Xo 25 [2,3,5,25] (.exit 0))) (Sq (Bk 1 (Sq (.flt [0,1,0,7,15,31,0,64,0,448,960,1984,4095,8191,16383,32767,16383,131071,262143,524287,16383,1064959,16383,7356415,15745023,32522239,67108863,134217727,268435455] [] VX [28,29,30,31,32,33,34,35,36,37,38,39,40,41,42,43,44,45,46,47,48,49,50,51,52,53,54,55]) (Xp 56 [2,3,5,56] (So l7 .ret)))) (.ops VW)))
def ON:RC:=Pp
def r41:RC:=(So OO (Sq (So VZ (Xp 20 [2,3,20] (So l7 .ret))) (Sq (So mS (Bk 0 (.loop ON))) (So oU .ret))))
def F41:FnC:=⟨r41,57,[.tmp 4],[],[]⟩
def OM:La:=[om 6 0,Wj 7 6,om 8 1,Wj 9 8,Wi 10 .neq 7 9]
def OL:La:=[om 11 5,om 12 0,Wj 13 12,Wi 14 .lss 11 13]
def VV:Lb:=[Fm 0 17 0,Fm 1 18 5,Wt 2 19 4 17 18,Fs 3 20 (Lt 4 19),Fm 4 21 1,Fm 5 22 5,Wt 6 23 4 21 22,Fs 7 24 (Lt 4 23),Fz 8 25 (Ca 96 [.t 20,.t 24]),Fs 9 26 (.un .not (.t 25))]
def OK:La:=[Wa 15 5,Wb 16 .add 15 1,Wa 5 16]
def Po:RC:=(Sq (So OL (Xo 14 [0,1,5,14] (.exit 0))) (Sq (Bk 1 (Sq (.flt [0,0,3,7,0,0,48,112,255,511] [] VV [17,18,19,20,21,22,23,24,25]) (Xp 26 [0,1,5,26] (So l7 .ret)))) (.ops OK)))
def OJ:RC:=Po
def r42:RC:=(So rG (Sq (So OM (Xp 10 [0,1,10] (So l7 .ret))) (Sq (So mS (Bk 0 (.loop OJ))) (So oU .ret))))
def F42:FnC:=⟨r42,27,[.tmp 4],[],[]⟩
def VU:La:=[om 13 0,Wg 14 97 13,Wa 4 14]
def VT:La:=[om 15 5,Wb 16 .leq 15 12]
def VS:Lb:=[Fm 0 19 5,Fm 2 21 4,WJ 3 22 1 21 0,We 4 23 22,WL 1 20 85 19,Wn 5 24 .neq 20 23]
def VR:La:=[om 25 5,oo 26 (.build Zq0 [(0,1,(.t 25))]) [25],WS 6,Ww 7 6 26]
def VQ:La:=[Wa 28 5,Wg 29 86 28,Wa 27 29,Ws 30 27 0,Ws 31 27 1,Ws 32 27 2,Ws 33 27 3,WC 34 27 4,Wa 7 30,Wa 8 31,Wa 9 32,Wa 10 33,Wa 11 34]
def VP:La:=[Wa 35 4,W3 36 1 35 1,on 37 (.lit 1 [(.c (.str [])),(.c (.str [])),(.c (.str []))]),oo 38 (.app [.str []] 16 (.t 36) (.t 37)) [36,37],Wa 4 38]
def OI:La:=[Wr 12 0]
def VO:La:=[Wa 39 7]
def HP:La:=[om 40 4,om 41 12,Wv 42 1 40 41,Wc 43 42,Wg 44 98 43,Wf 45 1 6,Wp 1 45 44]
def HO:La:=[Wa 46 12,Wb 47 .add 46 1,Wa 12 47]
def HN:La:=[Wa 48 8]
def HM:La:=[om 49 4,om 50 12,Wv 51 1 49 50,Wc 52 51,Wg 53 98 52,Wf 54 2 6,Wp 1 54 53]
def HK:La:=[Wa 55 12,Wb 56 .add 55 1,Wa 12 56]
def HJ:La:=[Wa 57 9]
def HI:La:=[om 58 4,om 59 12,Wv 60 1 58 59,Wc 61 60,Wg 62 98 61,Wf 63 3 6,Wp 1 63 62]
def HH:La:=[Wa 64 12,Wb 65 .add 64 1,Wa 12 65]
def HG:La:=[Wa 66 10]
def HF:La:=[om 67 4,om 68 12,Wv 69 1 67 68,Wc 70 69,Wg 71 99 70,Wf 72 4 6,Wk 73 0 72,Wp 1 73 71]
def HE:La:=[Wa 74 12,Wb 75 .add 74 1,Wa 12 75]
def HD:La:=[om 76 12,Wb 77 .add 76 1,om 78 4,Wj 79 78,Wb 80 .sub 79 3,Wi 81 .lss 77 80]
def HC:Lb:=[Wm 0 84 4 6,Wm 1 85 1 84,We 2 86 85,Fm 3 87 4,Fm 4 88 12,Wt 5 89 1 87 88,We 6 90 89,Fm 8 92 4,Fm 9 93 12,WE 10 94 .add 93 1,Wt 11 95 1 92 94,We 12 96 95,WL 7 91 98 90,WL 13 97 99 96,Fs 14 98 (.build [.int .i64 0,.byt [] .clip] [(0,1,(.t 91)),(1,1,(.t 97))]),Fs 15 99 (.lit 2 [.t 98]),Xk 16 100 32 86 99,Wm 17 101 4 6,Wm 18 102 1 101,Fr 19 1 102 100]
def HB:La:=[Wa 82 12,Wb 83 .add 82 2,Wa 12 83]
def zS:RC:=(Sq (So HD (Xo 81 [81] (.exit 2))) (Sq (Bk 3 (.flt [0,1,3,0,0,24,56,120,0,0,512,1792,3840,8184,16376,32760,65535,131071,262143,524287] [200] HC [84,85,86,87,88,89,90,91,92,93,94,95,96,97,98,99,100,101,102])) (.ops HB)))
def yU:RC:=zS
def Hz:La:=[Wa 103 11]
def Hy:La:=[Wa 105 4,Wa 106 12,Wv 107 1 105 106,Wc 108 107,Wg 109 99 108,Wg 110 100 109,Wa 104 110,Ws 111 104 0,oo 112 (.ext (.t 104) 1) [104,112],Wf 113 6 6,Wp 1 113 111]
def Hx:Lb:=[Fs 0 114 (Lt 7 6),Fs 1 115 (Lt 7 6),Fm 3 117 0,Fs 4 118 (.bin .add (.t 117) (.c (.str [10]))),WL 2 116 38 115,Wn 5 119 .eql 116 118,Fr 6 7 2 114,Fm 7 3 119]
def zR:RC:=(.post (Sq (So VT (Xo 16 [0,4,5,16] (.exit 0))) (Sq (Bk 1 (Sq (Sq (.flt [0,1,0,4,12,31] [] VS [19,20,21,22,23]) (Xp 24 [24] (.exit 1))) (So VR (So VQ (So VP (So OI (Sq (So VO (Xp 39 [39] (So HP (.ops HO)))) (Sq (So HN (Xp 48 [48] (So HM (.ops HK)))) (Sq (So HJ (Xp 57 [57] (So HI (.ops HH)))) (Sq (So HG (Xp 66 [66] (So HF (So HE (Bk 2 (.loop yU)))))) (Sq (So Hz (Kc 103 (Kk [103] (.ops Hy)) (Kk [4,12,103] .skip))) (Sq (.flt [0,0,2,0,8,30,7,127] [] Hx [0,6,114,115,116,117,118,119]) .ret)))))))))))) (.ops OX))) [.gc [106],.tok 4 104])
def iL:RC:=zR
def Hw:La:=[on 120 (.build Zq0 []),Ww 7 2 120,Wo 3 false]
def r43:RC:=(So D0 (So VU (Sq (So OS (Bk 0 (.pre [.tok 4 104] (.loop iL)))) (So Hw .ret))))
def F43:FnC:=⟨r43,121,[.cell 2 7 true,.tmp 3],[],[]⟩
def Vz:La:=[Wa 3 0,Wg 4 136 3,Wa 2 4]
def r64:RC:=(So pB (So Vz .ret))
def F64:FnC:=⟨r64,5,[.tmp 2],[],[]⟩
def Vy:La:=[Wa 3 0,Wg 4 137 3,W5 5 4,Wa 2 5]
def r66:RC:=(So pB (So Vy .ret))
def F66:FnC:=⟨r66,6,[.tmp 2],[],[]⟩
def Vx:La:=[WO 5 0,on 10 (.new (.rc Zq2))]
def Vw:La:=[Wa 12 1,Wa 13 2,Wa 14 3,Wa 15 4,Wf 16 0 5,Wc 17 16,oo 18 (Ca 143 [.t 13,.t 14,.t 15,.t 17]) [13,14,15,17],oo 19 (.build [.int .i64 0,.byt [] .clip] [(0,1,(.t 12)),(1,1,(.t 18))]) [12,18],Xc 11,Ww 2 11 19]
def Vv:Lb:=[Wm 0 20 0 5,We 1 21 20,Fs 2 22 (.lit 2 []),Wm 3 23 1 5,We 4 24 23,Fs 6 26 (Lt 2 11),Fs 7 27 (.lit 2 [.t 26]),Xk 5 25 32 22 24,Xk 8 28 32 25 27,Fs 9 29 (.build Zq2 [(0,1,(.t 21)),(1,1,(.t 28))]),Fr 10 2 10 29]
def r72:RC:=(So Vx (So Vw (Sq (.flt [0,1,0,0,8,28,0,64,252,511,1023] [125,128] Vv [5,11,20,21,22,23,24,25,26,27,28,29]) .ret)))
def F72:FnC:=⟨r72,30,[.cell 10 2 true],[],[]⟩
def Vu:La:=[Wa 3 0,WB 4 3,oo 5 (.litB [(.c (.u8 107)),.t 4]) [4],Wg 6 102 5,Wa 2 6]
def r73:RC:=(So jY (So Vu .ret))
def F73:FnC:=⟨r73,7,[.tmp 2],[],[]⟩
def xD:La:=[WZ 6]
def Vt:La:=[on 9 (.litB []),Wa 10 0,WA 11 1 9 10,Wa 7 11]
def Vs:La:=[om 12 1,Wb 13 .lss 12 1,Wa 14 13,.grp 14 false [(xi 15 14 false (Mv 1)),(xi 16 14 false (Bc .gtr 15 8))] [15],Wh 17 14 16]
def Vr:La:=[Wa 18 7,Wa 6 18]
def Vq:La:=[Wa 19 1,Wb 20 .sub 19 1,Wa 8 20]
def Vp:La:=[om 21 8,Wb 22 .geq 21 0]
def Vo:La:=[Wa 25 7,om 26 2,WW 27 26,om 28 8,WW 29 28,oo 30 (.bin .mul (.c (.int .u64 8)) (.t 29)) [29],Wi 31 .shr 27 30,WB 32 31,WQ 33 32,WA 34 1 25 33,Wa 7 34]
def Vn:La:=[Wa 23 8,Wb 24 .sub 23 1,Wa 8 24]
def Pn:RC:=(.post (Sq (So Vp (Xo 22 [2,8,22] (.exit 0))) (Sq (Bk 1 (.ops Vo)) (.ops Vn))) [.tok 7 107])
def OH:RC:=Pn
def Vm:La:=[Wa 35 7,Wa 6 35]
def r74:RC:=(So xD (So Vt (Sq (So Vs (Xp 17 [1,2,17] (So Vr .ret))) (Sq (So Vq (Bk 0 (.pre [.tok 7 107] (.loop OH)))) (So Vm .ret)))))
def F74:FnC:=⟨r74,36,[.tmp 6],[0],[]⟩
def Vl:La:=[WX 4]
def Vk:Lb:=[Fm 0 7 1,Fm 2 9 0,Fm 5 12 0,Fz 1 8 (Ca 144 []),Fz 3 10 (Ca 15 [.t 9,ci 5]),Fs 4 11 (.idxA 5 1 false (.t 8) (.t 10)),Fz 6 13 (Ca 15 [.t 12,ci 5]),Fs 7 14 (.build Zq1 [(0,1,(.t 7)),(1,1,(.t 11)),(2,1,(.t 13))]),Fz 8 5 (.new (.rc Zq1)),Fr 9 4 5 14]
def Vj:La:=[om 15 0,oo 16 (Ca 15 [.t 15,ci 9]) [15],Wb 17 .eql 16 8]
def Vi:La:=[om 18 0,Wu 19 15 18 3,WM 20 .sub 1000000 19,Wf 21 2 5,Wp 1 21 20]
def Vh:La:=[Wa 22 1,Wb 23 .eql 22 4]
def Vg:La:=[Wa 24 0,Wg 25 145 24,Wf 26 3 5,Wp 1 26 25]
def Vf:La:=[Wz 27 4 5,Sr 4 4 27 [27]]
def Ve:La:=[om 28 0,Wu 29 15 28 7,oo 30 (.mkB (.t 29) (.t 29)) [29],Wf 31 3 5,Wp 1 31 30]
def Vd:La:=[om 32 6,Wf 33 3 5,Wc 34 33,Wj 35 34,Wi 36 .lss 32 35]
def Hv:Lb:=[Wm 0 39 3 5,We 1 40 39,Fm 2 41 6,Fm 3 42 0,Fz 4 43 (Ca 15 [.t 42,ci 256]),W7 5 44 43,Wt 6 45 1 40 41,Fr 7 1 45 44]
def yT:La:=[Wa 37 6,Wb 38 .add 37 1,Wa 6 38]
def zQ:RC:=(Sq (So Vd (Xo 36 [0,6,36] (.exit 0))) (Sq (Bk 1 (.flt [0,1,0,0,8,24,63,127] [] Hv [39,40,41,42,43,44,45])) (.ops yT)))
def uM:RC:=zQ
def Hu:La:=[Wz 46 4 5,Sr 4 4 46 [46]]
def r75:RC:=(So Vl (Sq (.fla [0,0,0,6,14,0,46,127,0,511] [105] Vk [[0,2,5,1,3,4,6,7,8,9],[0,2,5,1,3,4,8,6,7,9],[0,2,5,1,8,3,4,6,7,9],[0,2,5,8,1,3,4,6,7,9]] [7,8,9,10,11,12,13,14]) (Sq (So Vj (Xp 17 [17] (.ops Vi))) (Sq (So Vh (Xp 23 [23] (So Vg (So Vf .ret)))) (So Ve (Sq (So mR (Bk 0 (.loop uM))) (So Hu .ret)))))))
def F75:FnC:=⟨r75,47,[.cell 4 4 true],[],[]⟩
def Vc:La:=[WO 1 0,WS 2,WI 3 false]
def Vb:La:=[Wf 5 0 1,Wc 6 5,oo 7 (.build Zq0 [(0,1,(.t 6))]) [6],WS 4,Sr 7 4 7 [7]]
def Va:La:=[Wf 8 0 1,Wc 9 8]
def U9:La:=[Wq 12 .eql 9 1,Wa 11 12]
def U8:La:=[Wq 13 .eql 9 3,Wa 11 13]
def U7:La:=[Wq 14 .eql 9 10,Wa 11 14]
def U6:La:=[Wq 15 .eql 9 11,Wa 11 15]
def U5:La:=[Wq 16 .eql 9 12,Wa 11 16]
def U4:La:=[oo 17 (Fa 1 1) [1],Wc 18 17,Wf 19 1 4,Wp 1 19 18]
def U3:La:=[Wq 21 .eql 9 2,Wa 20 21]
def Ht:Lb:=[Wm 0 22 1 1,We 1 23 22,Wm 2 24 2 1,We 3 25 24,Wm 4 26 3 1,We 5 27 26,Wm 6 28 1 4,Fr 7 1 28 23,Wm 8 29 2 4,Fr 9 1 29 25,Wm 10 30 3 4,Fr 11 1 30 27]
def Hs:La:=[Wq 32 .eql 9 4,Wa 31 32]
def Hr:La:=[Wq 33 .eql 9 5,Wa 31 33]
def Hq:La:=[Wq 34 .eql 9 6,Wa 31 34]
def Hp:La:=[Wq 35 .eql 9 7,Wa 31 35]
def Ho:La:=[Wk 36 2 1,Wc 37 36,Wf 38 2 4,Wp 1 38 37]
def Hn:La:=[Wq 40 .eql 9 8,Wa 39 40]
def Hm:La:=[Wk 41 4 1,Wz 42 2 41,Wf 43 4 4,Wp 2 43 42]
def Hl:La:=[Wb 45 .eql 9 9,Wa 44 45]
def Hk:Lb:=[Wm 0 46 1 1,We 1 47 46,Wm 2 48 6 1,We 3 49 48,Wm 4 50 1 4,Fr 5 1 50 47,Wm 6 51 6 4,Fr 7 1 51 49]
def Hj:La:=[Wz 10 7 4,Ww 7 2 10,Wo 3 false]
def Hi:La:=[Wz 52 7 4,Ww 7 2 52,Wo 3 true]
def r76:RC:=(So Vc (So Vb (Sq (So Va (Bk 0 (Sq (So U9 (Kc 11 .skip (Kk [11] (So U8 (Kc 11 .skip (Kk [11] (So U7 (Kc 11 .skip (Kk [11] (So U6 (Kc 11 .skip (Kk [11] (.ops U5))))))))))))) (Kc 11 (Kk [9,11] (.ops U4)) (Kk [11] (So U3 (Kc 20 (Kk [9,20] (.flt [0,1,0,4,0,16,3,67,207,463,1023,2047] [] Ht [1,22,23,24,25,26,27,28,29,30])) (Kk [20] (Sq (So Hs (Kc 31 .skip (Kk [31] (So Hr (Kc 31 .skip (Kk [31] (So Hq (Kc 31 .skip (Kk [31] (.ops Hp)))))))))) (Kc 31 (Kk [9,31] (.ops Ho)) (Kk [31] (So Hn (Kc 39 (Kk [9,39] (.ops Hm)) (Kk [39] (So Hl (Kc 44 (Kk [44] (.flt [0,1,0,4,3,19,63,127] [] Hk [1,46,47,48,49,50,51])) (Kk [1,44] (So Hj .ret)))))))))))))))))) (So Hi .ret))))
def F76:FnC:=⟨r76,53,[.cell 2 7 true,.tmp 3],[],[]⟩
def U2:La:=[Wa 3 0,oo 4 (Ca 146 [.t 3,(.f 147)]) [3],WH 5 4,Wa 2 5]
def r77:RC:=(So xE (So U2 .ret))
def F77:FnC:=⟨r77,6,[.tmp 2],[],[]⟩
def oK:La:=[WU 2 0]
def U0:La:=[om 9 0,Wj 10 9,Wb 11 .eql 10 0,Wa 12 11,.grp 12 false [(xi 13 12 false (Mv 0)),(xi 14 12 false (Ln 13)),(xi 15 12 false (Bc .gtr 14 8))] [13,14],Wh 16 12 15]
def xC:La:=[Wr 2 1]
def UZ:La:=[on 3 (.new (.arr 1 (aJ 5 [.bool false])))]
def UY:La:=[om 17 0,on 18 (Ln 17),Wr 19 0]
def UX:La:=[on 20 (Bb .lss 19 18)]
def UW:La:=[om 21 19,on 22 (Ia 4 17 19),Wz 23 4 22,WX 5,Wa 4 21,Ww 4 5 23]
def UV:La:=[on 24 (Lt 4 5),Wg 25 148 24,Wa 6 25]
def UU:La:=[om 26 6,Wb 27 .neq 26 0]
def UT:La:=[Wa 28 6,Wa 2 28]
def Hh:Lb:=[Fm 0 29 4,WE 1 30 .gtr 29 0,Fm 2 31 30,Fi 3 32 31 true (Fa 0 5),Fi 4 33 31 true (Ld 32),WF 5 34 31 true 0,WF 6 35 31 true 4,Fi 7 36 31 true (Bc .sub 35 1),Fi 8 37 31 true (Ia 4 34 36),Fi 9 38 31 true (Fa 0 37),Fi 10 39 31 true (Ld 38),Fi 11 40 31 true (Bb .lss 33 39),Fs 12 41 (Pf 31 40)]
def yS:La:=[Wr 2 41]
def Hg:La:=[om 42 0,Wa 43 4,W1 44 4 42 43,on 45 (Ln 44),Wr 46 0]
def Hf:La:=[on 47 (Bb .lss 46 45)]
def He:La:=[on 48 (Ia 4 44 46),Wz 49 4 48,WX 8,Ww 4 8 49]
def Hd:La:=[Wf 50 0 8,Wc 51 50,Wf 52 0 5,Wc 53 52,Wi 54 .eql 51 53,Wa 55 54,.grp 55 true [(xi 56 55 true (Fa 1 8)),(xi 57 55 true (Ld 56)),(xi 58 55 true (Fa 1 5)),(xi 59 55 true (Ld 58)),(xi 60 55 true (Bb .eql 57 59))] [8,56,57,58,59],Wx 61 55 60]
def yR:La:=[Wr 2 42]
def Hc:La:=[Wb 62 .add 46 1,Wa 46 62]
def zP:RC:=(.post (So Hf (Sq (Xo 47 [44,45,46,47] (.exit 2)) (Sq (Bk 3 (So He (So Hd (Xp 61 [0,3,5,17,18,19,44,45,46,61] (So yR .ret))))) (.ops Hc)))) [.gc [108]])
def uL:RC:=zP
def Hb:La:=[Wk 63 0 5,Wc 64 63,oo 65 (.iaddrA 5 1 (.t 3) (.t 64)) [64],.op ⟨none,none,.store 1 (.t 65) (.c (.bool true))⟩ [65]]
def Ha:La:=[Wb 66 .add 19 1,Wa 19 66]
def zO:RC:=(.post (So UX (Sq (Xo 20 [0,17,18,19,20] (.exit 0)) (Sq (Bk 1 (So UW (Sq (So UV (So UU (Kc 27 (Kk [0,3,4,5,17,18,19,27] (So UT .ret)) (Kk [6,27] .skip)))) (Sq (Sq (.flt [0,1,3,7,15,7,7,71,231,487,999,2047,4095] [] Hh [29,30,31,32,33,34,35,36,37,38,39,40]) (Xp 41 [0,3,4,5,17,18,19,41] (So yS .ret))) (Sq (So Hg (Bk 2 (.loop uL))) (.ops Hb)))))) (.ops Ha)))) [.gc [105,108]])
def oT:RC:=zO
def G9:La:=[on 67 (.iaddrA 5 1 (.t 3) (ci 1)),Wc 68 67,WH 69 68,Wa 70 69,.grp 70 false [(xi 71 70 false (.iaddrA 5 1 (.t 3) (ci 3))),(xi 72 70 false (Ld 71)),(xi 73 70 false (.un .not (.t 72)))] [3,71,72],Wh 74 70 73]
def rj:La:=[Wr 2 40]
def oS:La:=[Wr 2 0]
def r78:RC:=(So oK (Sq (So U0 (Xp 16 [0,16] (So xC .ret))) (So UZ (Sq (So UY (Bk 0 (.loop oT))) (Sq (So G9 (Xp 74 [74] (So rj .ret))) (So oS .ret))))))
def F78:FnC:=⟨r78,75,[.tmp 2],[],[]⟩
def OG:La:=[Wa 3 0]
def OF:La:=[Wq 5 .eql 3 1,Wa 4 5]
def OE:La:=[on 2 (.mov (.c (.str [98,111,111,116])))]
def OD:La:=[Wq 7 .eql 3 2,Wa 6 7]
def OC:La:=[on 2 (.mov (.c (.str [99,117,116])))]
def OB:La:=[Wq 9 .eql 3 3,Wa 8 9]
def OA:La:=[on 2 (.mov (.c (.str [104,101,108,108,111])))]
def Oz:La:=[Wq 11 .eql 3 4,Wa 10 11]
def Oy:La:=[on 2 (.mov (.c (.str [100,101,108,105,118,101,114])))]
def yQ:La:=[Wq 13 .eql 3 5,Wa 12 13]
def yP:La:=[on 2 (.mov (.c (.str [108,111,115,101])))]
def yO:La:=[Wq 15 .eql 3 6,Wa 14 15]
def yN:La:=[on 2 (.mov (.c (.str [114,101,112,101,97,116])))]
def yM:La:=[Wq 17 .eql 3 7,Wa 16 17]
def yL:La:=[on 2 (.mov (.c (.str [116,105,99,107])))]
def yK:La:=[Wq 19 .eql 3 8,Wa 18 19]
def yJ:La:=[on 2 (.mov (.c (.str [112,117,98,108,105,115,104])))]
def yI:La:=[Wq 21 .eql 3 9,Wa 20 21]
def yH:La:=[on 2 (.mov (.c (.str [105,110,115,116,97,108,108])))]
def yG:La:=[Wq 23 .eql 3 10,Wa 22 23]
def yF:La:=[on 2 (.mov (.c (.str [112,114,111,99,101,101,100])))]
def yE:La:=[Wq 25 .eql 3 11,Wa 24 25]
def yD:La:=[on 2 (.mov (.c (.str [111,112,101,110])))]
def yC:La:=[Wb 27 .eql 3 12,Wa 26 27]
def yB:La:=[on 2 (.mov (.c (.str [114,101,108,101,97,115,101])))]
def r80:RC:=(So pB (Sq (So OG (Bk 0 (So OF (Kc 4 (Kk [3,4] (So OE .ret)) (Kk [4] (So OD (Kc 6 (Kk [3,6] (So OC .ret)) (Kk [6] (So OB (Kc 8 (Kk [3,8] (So OA .ret)) (Kk [8] (So Oz (Kc 10 (Kk [3,10] (So Oy .ret)) (Kk [10] (So yQ (Kc 12 (Kk [3,12] (So yP .ret)) (Kk [12] (So yO (Kc 14 (Kk [3,14] (So yN .ret)) (Kk [14] (So yM (Kc 16 (Kk [3,16] (So yL .ret)) (Kk [16] (So yK (Kc 18 (Kk [3,18] (So yJ .ret)) (Kk [18] (So yI (Kc 20 (Kk [3,20] (So yH .ret)) (Kk [20] (So yG (Kc 22 (Kk [3,22] (So yF .ret)) (Kk [22] (So yE (Kc 24 (Kk [3,24] (So yD .ret)) (Kk [24] (So yC (Xp 26 [26] (So yB .ret)))))))))))))))))))))))))))))))))))))) (So mT .ret)))
def F80:FnC:=⟨r80,28,[.tmp 2],[],[]⟩
def UR:Lb:=[We 0 3 1,Fm 1 4 0,WL 2 5 64 4,Fs 3 6 (.lit 1 [.t 5]),Fz 4 7 (.app [.str []] 16 (.t 3) (.t 6)),Fr 5 1 1 7]
def r81:RC:=(.flt [0,0,2,6,15,31] [107] UR [0,1,3,4,5,6,7])
def F81:FnC:=⟨r81,8,[],[],[]⟩
def UQ:La:=[om 6 0,Wg 7 78 6,Wb 8 .neq 7 0]
def UP:La:=[om 9 0,Wj 10 9,Xd 11 150 1 10,Wa 3 11]
def UO:La:=[Wa 12 0,on 13 (Ln 12),Wr 14 0]
def UN:La:=[on 15 (Bb .lss 14 13)]
def UM:La:=[on 16 (Ia 4 12 14),Wz 17 4 16,WX 5,Ww 4 5 17]
def UL:La:=[Wa 18 3,Wz 19 4 5,Wg 20 152 19,Wy 21 151 18 20,Wa 3 21]
def UK:La:=[Wb 22 .add 14 1,Wa 14 22]
def Pm:RC:=(.post (So UN (Sq (Xo 15 [12,13,14,15] (.exit 0)) (Sq (Bk 1 (So UM (.ops UL))) (.ops UK)))) [.gc [105]])
def Ox:RC:=Pm
def G8:La:=[Wa 23 3,Wa 2 23]
def r83:RC:=(So jY (Sq (So UQ (Xp 8 [0,8] (So uO .ret))) (So UP (Sq (So UO (Bk 0 (.loop Ox))) (So G8 .ret)))))
def F83:FnC:=⟨r83,24,[.tmp 2],[],[]⟩
def r85:RC:=(So pB (Sq (So OG (Bk 0 (So OF (Kc 4 (Kk [3,4] (So OE .ret)) (Kk [4] (So OD (Kc 6 (Kk [3,6] (So OC .ret)) (Kk [6] (So OB (Kc 8 (Kk [3,8] (So OA .ret)) (Kk [8] (So Oz (Kc 10 (Kk [3,10] (So Oy .ret)) (Kk [10] (So yQ (Kc 12 (Kk [3,12] (So yP .ret)) (Kk [12] (So yO (Kc 14 (Kk [3,14] (So yN .ret)) (Kk [14] (So yM (Kc 16 (Kk [3,16] (So yL .ret)) (Kk [16] (So yK (Kc 18 (Kk [3,18] (So yJ .ret)) (Kk [18] (So yI (Kc 20 (Kk [3,20] (So yH .ret)) (Kk [20] (So yG (Kc 22 (Kk [3,22] (So yF .ret)) (Kk [22] (So yE (Kc 24 (Kk [3,24] (So yD .ret)) (Kk [24] (So yC (Xp 26 [26] (So yB .ret)))))))))))))))))))))))))))))))))))))) (So mT .ret)))
def F85:FnC:=⟨r85,28,[.tmp 2],[],[]⟩
def UJ:La:=[WI 2 false,WI 3 false,WI 4 false,WI 5 false,WI 6 false]
def UI:La:=[Wa 7 0]
def UH:La:=[Wq 9 .eql 7 2,Wa 8 9]
def UG:La:=[Wo 2 true,Wo 3 true,Wo 4 true,Wo 5 false,Wo 6 false]
def UF:La:=[Wq 11 .eql 7 4,Wa 10 11]
def UE:La:=[Wq 12 .eql 7 5,Wa 10 12]
def UD:La:=[Wq 13 .eql 7 6,Wa 10 13]
def UC:La:=[Wq 14 .eql 7 7,Wa 10 14]
def UB:La:=[Wo 2 false,Wo 3 true,Wo 4 false,Wo 5 false,Wo 6 false]
def UA:La:=[Wq 16 .eql 7 8,Wa 15 16]
def G7:La:=[Wo 2 false,Wo 3 false,Wo 4 false,Wo 5 true,Wo 6 false]
def G6:La:=[Wb 18 .eql 7 9,Wa 17 18]
def G5:La:=[Wo 2 true,Wo 3 false,Wo 4 false,Wo 5 false,Wo 6 true]
def G4:La:=[Wo 2 true,Wo 3 false,Wo 4 false,Wo 5 false,Wo 6 false]
def r86:RC:=(So UJ (Sq (So UI (Bk 0 (So UH (Kc 8 (Kk [7,8] (So UG .ret)) (Kk [8] (Sq (So UF (Kc 10 .skip (Kk [10] (So UE (Kc 10 .skip (Kk [10] (So UD (Kc 10 .skip (Kk [10] (.ops UC)))))))))) (Kc 10 (Kk [7,10] (So UB .ret)) (Kk [10] (So UA (Kc 15 (Kk [7,15] (So G7 .ret)) (Kk [15] (So G6 (Xp 17 [17] (So G5 .ret)))))))))))))) (So G4 .ret)))
def F86:FnC:=⟨r86,19,[.tmp 2,.tmp 3,.tmp 4,.tmp 5,.tmp 6],[],[]⟩
def Uz:La:=[om 3 0,Wb 4 .geq 3 0,Wa 5 4,.grp 5 true [(xi 6 5 true (Mv 0)),(xi 7 5 true (Bc .leq 6 1099511627776))] [0,6],Wx 8 5 7,Wa 2 8]
def r87:RC:=(So xE (So Uz .ret))
def F87:FnC:=⟨r87,9,[.tmp 2],[],[]⟩
def Uy:La:=[om 5 0,Wj 6 5,Wb 7 .eql 6 0]
def Ux:La:=[on 2 (.mov (.c (.str [45])))]
def xB:La:=[WT 3]
def Uw:La:=[om 8 4,om 9 0,Wj 10 9,Wi 11 .lss 8 10]
def Uv:Lb:=[Fm 0 14 3,Fm 1 15 0,Fm 2 16 4,Wt 3 17 1 15 16,We 4 18 17,Xe 5 19 .shr 18,Fs 6 20 (.idxS (.c (.str [48,49,50,51,52,53,54,55,56,57,97,98,99,100,101,102])) (.t 19)),Fm 7 21 0,Fm 8 22 4,Wt 9 23 1 21 22,We 10 24 23,Fs 11 25 (.bin .and (.t 24) (.c (.u8 15))),Fs 12 26 (.idxS (.c (.str [48,49,50,51,52,53,54,55,56,57,97,98,99,100,101,102])) (.t 25)),Fs 13 27 (.litB [.t 20,.t 26]),W2 14 28 1 14 27,⟨15,false,(xm 3 28)⟩]
def Uu:La:=[Wa 12 4,Wb 13 .add 12 1,Wa 4 13]
def Pk:RC:=(.post (Sq (So Uw (Xo 11 [0,4,11] (.exit 0))) (Sq (Bk 1 (.flt [0,0,0,6,14,30,62,0,0,384,896,1920,3968,8190,16383,32767] [128] Uv [14,15,16,17,18,19,20,21,22,23,24,25,26,27,28])) (.ops Uu))) [.tok 3 103])
def Ow:RC:=Pk
def Ut:La:=[Wa 29 3,W5 30 29,Wa 2 30]
def r88:RC:=(So pB (Sq (So Uy (Xp 7 [0,7] (So Ux .ret))) (So xB (Sq (So ny (Bk 0 (.pre [.tok 3 103] (.loop Ow)))) (So Ut .ret)))))
def F88:FnC:=⟨r88,31,[.tmp 2],[],[]⟩
def Us:La:=[om 5 0,Wg 6 154 5,Wb 7 .neq 6 0]
def Ur:La:=[om 8 0,Wj 9 8,Xd 10 74 1 9,Wa 3 10]
def Uq:La:=[om 11 4,om 12 0,Wj 13 12,Wi 14 .lss 11 13]
def Up:La:=[Wa 17 3,om 18 0,om 19 4,Wv 20 4 18 19,Wz 21 4 20,Wg 22 101 21,Wy 23 112 17 22,Wa 3 23]
def Uo:La:=[Wa 15 4,Wb 16 .add 15 1,Wa 4 16]
def Pj:RC:=(Sq (So Uq (Xo 14 [0,4,14] (.exit 0))) (Sq (Bk 1 (.ops Up)) (.ops Uo)))
def Ov:RC:=Pj
def Un:La:=[Wa 24 3,Wa 2 24]
def r89:RC:=(So jY (Sq (So Us (Xp 7 [0,7] (So uO .ret))) (So Ur (Sq (So ny (Bk 0 (.loop Ov))) (So Un .ret)))))
def F89:FnC:=⟨r89,25,[.tmp 2],[],[]⟩
def Uj:La:=[om 8 0,om 9 1,Wy 10 155 8 9,Wa 7 10]
def Ui:La:=[om 11 7,Wb 12 .geq 11 0]
def Uh:Lb:=[Fm 0 13 0,Fm 1 14 7,Fs 2 15 (.slcS (.t 13) none (some (.t 14))),Fm 3 16 0,Fm 4 17 7,Fm 5 18 1,Fs 6 19 (.len true (.t 18)),Wn 7 20 .add 17 19,Fs 8 21 (.slcS (.t 16) (some (.t 20)) none),Fm 9 4 15,Fm 10 5 21,Fs 11 6 (Mb true)]
def Ug:La:=[Wa 22 0,Wa 4 22,on 5 (.mov (.c (.str []))),Wo 6 false]
def r90:RC:=(So OQ (Sq (So Uj (So Ui (Kc 12 (Kk [12] (Sq (.flt [0,0,3,0,0,0,32,112,248,7,1023,2047] [] Uh [0,1,7,13,14,15,16,17,18,19,20,21]) .ret)) (Kk [1,7,12] .skip)))) (So Ug .ret)))
def F90:FnC:=⟨r90,23,[.tmp 4,.tmp 5,.tmp 6],[],[]⟩
def xz:La:=[Xl 4]
def Uf:La:=[Wa 5 0,Wa 6 1,oo 7 (Ca 156 [.t 5,.t 6,ci 0,ci (-1)]) [5,6],Wa 4 7]
def r91:RC:=(So xz (So Uf .ret))
def F91:FnC:=⟨r91,8,[.tmp 4],[],[]⟩
def Ue:La:=[om 9 0,Wj 10 9,om 11 1,Wj 12 11,Wi 13 .neq 10 12]
def Ud:La:=[Wa 14 0,on 15 (Ln 14),Wr 16 0]
def Uc:La:=[on 17 (Bb .lss 16 15)]
def Ub:La:=[om 18 16,on 19 (Ia 1 14 16),Wc 20 19,Wa 5 18,Wa 6 20]
def Ua:La:=[Wa 22 6,Wg 23 157 22,Wa 21 23,Ws 24 21 0,WC 25 21 1,Wa 7 24,Wa 8 25]
def T9:La:=[Wa 26 8,oo 27 (.isni true (.t 26)) [26]]
def T8:La:=[om 28 1,Wa 29 5,Wv 30 1 28 29,Wc 31 30,Wa 32 7,WD 33 31,Wp 1 33 32]
def G3:La:=[Wb 34 .add 16 1,Wa 16 34]
def zN:RC:=(So Uc (Sq (Xo 17 [1,14,15,16,17] (.exit 0)) (Sq (Bk 1 (So Ub (So Ua (Sq (So T9 (Xp 27 [1,5,7,14,15,16,27] (So l7 .ret))) (.ops T8))))) (.ops G3))))
def fD:RC:=zN
def r92:RC:=(So rG (Sq (So Ue (Xp 13 [0,1,13] (So l7 .ret))) (Sq (So Ud (Bk 0 (.loop fD))) (So oU .ret))))
def F92:FnC:=⟨r92,35,[.tmp 4],[],[]⟩
def T7:La:=[on 2 (.new (.rc Zq2)),WI 3 false]
def T6:La:=[om 11 0,Wj 12 11,Wb 13 .rem 12 2,Wb 14 .eql 13 0]
def T5:La:=[Wz 15 2 4,Sr 2 2 15 [15],Wo 3 false]
def T4:La:=[WI 5 false]
def T3:La:=[om 17 0,oo 18 (.iaddrL 1 (.t 17) (ci 0)) [17],Wc 19 18,Wg 20 158 19,Wa 16 20,Ws 21 16 0,WC 22 16 1,Wf 23 0 4,Wp 1 23 21,Wa 5 22]
def T2:La:=[Wa 24 5,WH 25 24]
def T1:La:=[Wz 26 2 4,Sr 2 2 26 [26],Wo 3 false]
def T0:La:=[Wr 6 1]
def TZ:La:=[om 27 6,om 28 0,Wj 29 28,Wi 30 .lss 27 29]
def G2:La:=[om 34 0,om 35 6,Wv 36 1 34 35,Wc 37 36,Wg 38 157 37,Wa 33 38,Ws 39 33 0,WC 40 33 1,Wa 7 39,Wa 8 40]
def G1:La:=[om 42 0,om 43 6,Wb 44 .add 43 1,Wv 45 1 42 44,Wc 46 45,Wg 47 158 46,Wa 41 47,Ws 48 41 0,WC 49 41 1,Wa 9 48,Wa 10 49]
def GZ:La:=[Wa 50 8,oo 51 (.isni true (.t 50)) [50],Wa 52 51,.grp 52 false [(xi 53 52 false (Mv 10)),(xi 54 52 false (.un .not (.t 53)))] [10,53],Wh 55 52 54]
def GY:La:=[Wz 56 2 4,Sr 2 2 56 [56],Wo 3 false]
def GX:La:=[Wf 57 1 4,Wc 58 57,Wa 59 7,Wa 60 9,oo 61 (.build [.int .i64 0,.byt [] .clip] [(0,1,(.t 59)),(1,1,(.t 60))]) [59,60],WK 62 2 61,oo 63 (.app [.int .i64 0,.byt [] .clip] 32 (.t 58) (.t 62)) [58,62],Wf 64 1 4,Wp 1 64 63]
def GV:La:=[Wa 31 6,Wb 32 .add 31 2,Wa 6 32]
def zM:RC:=(Sq (So TZ (Xo 30 [0,6,30] (.exit 0))) (Sq (Bk 1 (So G2 (So G1 (Sq (So GZ (Xp 55 [0,6,7,9,55] (So GY .ret))) (.ops GX))))) (.ops GV)))
def yA:RC:=zM
def GU:La:=[Wz 65 2 4,Sr 2 2 65 [65],Wo 3 true]
def r93:RC:=(So T7 (So OT (Sq (So T6 (Xp 14 [0,14] (So T5 .ret))) (So T4 (Sq (So T3 (So T2 (Xp 25 [0,25] (So T1 .ret)))) (Sq (So T0 (Bk 0 (.loop yA))) (So GU .ret)))))))
def F93:FnC:=⟨r93,66,[.cell 2 2 true,.tmp 3],[],[]⟩
def TY:La:=[on 10 (.build Zq0 [(0,1,(ci 9))]),WS 4,Ww 7 4 10]
def TX:La:=[om 11 0,Wj 12 11,Wb 13 .neq 12 2]
def TW:La:=[Wz 14 7 4,Ww 7 2 14,Wo 3 false]
def TV:La:=[om 16 0,oo 17 (.iaddrL 1 (.t 16) (ci 0)) [16],Wc 18 17,Wg 19 157 18,Wa 15 19,Ws 20 15 0,WC 21 15 1,Wa 5 20,Wa 6 21]
def TU:La:=[Wa 23 0,oo 24 (.iaddrL 1 (.t 23) (ci 1)) [23],Wc 25 24,Wg 26 158 25,Wa 22 26,Ws 27 22 0,WC 28 22 1,Wa 7 27,Wa 8 28]
def TT:La:=[Wa 29 6,oo 30 (.isni true (.t 29)) [29],Wa 31 30,.grp 31 false [(xi 32 31 false (Mv 8)),(xi 33 31 false (.un .not (.t 32)))] [8,32],Wh 34 31 33]
def TS:La:=[Wz 35 7 4,Ww 7 2 35,Wo 3 false]
def TR:La:=[Wa 36 5,Wf 37 1 4,Wp 1 37 36]
def TQ:La:=[WU 9 0]
def GT:La:=[Wa 39 7,Wg 40 159 39,Wa 38 40,Ws 41 38 0,WC 42 38 1,Wf 43 6 4,Wp 1 43 41,Wa 9 42]
def GS:La:=[Wz 44 7 4,Wa 45 9,Wb 46 .eql 45 0,Ww 7 2 44,Wa 3 46]
def r94:RC:=(So D0 (So TY (Sq (So TX (Xp 13 [0,13] (So TW .ret))) (So TV (So TU (Sq (So TT (Xp 34 [5,7,34] (So TS .ret))) (So TR (So TQ (So GT (So GS .ret))))))))))
def F94:FnC:=⟨r94,47,[.cell 2 7 true,.tmp 3],[],[]⟩
def TP:Lb:=[Fm 0 17 0,Fm 1 18 5,Wt 2 19 1 17 18,We 3 20 19,Fm 4 21 1,Fm 5 22 5,Wt 6 23 1 21 22,We 7 24 23,Wn 8 25 .neq 20 24]
def Ph:RC:=(Sq (So OL (Xo 14 [0,1,5,14] (.exit 0))) (Sq (Bk 1 (Sq (.flt [0,0,3,7,0,0,48,112,255] [] TP [17,18,19,20,21,22,23,24]) (Xp 25 [0,1,5,25] (So l7 .ret)))) (.ops OK)))
def Ou:RC:=Ph
def r95:RC:=(So rG (Sq (So OM (Xp 10 [0,1,10] (So l7 .ret))) (Sq (So mS (Bk 0 (.loop Ou))) (So oU .ret))))
def F95:FnC:=⟨r95,26,[.tmp 4],[],[]⟩
def TO:La:=[Wf 5 0 2,Wc 6 5,Wf 7 0 3,Wc 8 7,Wi 9 .eql 6 8,Wa 10 9,.grp 10 true [(xi 11 10 true (Fa 1 2)),(xi 12 10 true (Ld 11)),(xi 13 10 true (Fa 1 3)),(xi 14 10 true (Ld 13)),(xi 15 10 true (Bb .eql 12 14))] [11,12,13,14],Wx 16 10 15,Wa 17 16,.grp 17 true [(xi 18 17 true (Fa 2 2)),(xi 19 17 true (Ld 18)),(xi 20 17 true (Fa 2 3)),(xi 21 17 true (Ld 20)),(xi 22 17 true (Bb .eql 19 21))] [18,19,20,21],Wx 23 17 22,Wa 24 23,.grp 24 true [(xi 25 24 true (Fa 3 2)),(xi 26 24 true (Ld 25)),(xi 27 24 true (Fa 3 3)),(xi 28 24 true (Ld 27)),(xi 29 24 true (Ca 95 [.t 26,.t 28]))] [2,3,25,26,27,28],Wx 30 24 29,Wa 4 30]
def r96:RC:=(So OO (So TO .ret))
def F96:FnC:=⟨r96,31,[.tmp 4],[],[]⟩
def Ot:La:=[Xl 2]
def DZ:La:=[Xf 3]
def TN:La:=[om 6 5,om 7 0,WN 8 true 7,Wi 9 .leq 6 8]
def TL:La:=[om 12 5,om 13 0,WN 14 true 13,Wi 15 .eql 12 14,Wa 16 15,.grp 16 false [(xi 17 16 false (Mv 0)),(xi 18 16 false (Mv 5)),(xi 19 16 false (.idxS (.t 17) (.t 18))),(xi 20 16 false (.bin .eql (.t 19) (.c (.u8 32))))] [17,18,19],Wh 21 16 20]
def TK:La:=[Wa 22 3,om 23 0,Wa 24 4,om 25 5,oo 26 (.slcS (.t 23) (some (.t 24)) (some (.t 25))) [23,24,25],WK 27 1 26,oo 28 (.app [.str []] 16 (.t 22) (.t 27)) [22,27],Wa 3 28]
def TJ:La:=[om 29 5,Wb 30 .add 29 1,Wa 4 30]
def TI:La:=[Wa 10 5,Wb 11 .add 10 1,Wa 5 11]
def Pg:RC:=(.post (Sq (So TN (Xo 9 [0,4,5,9] (.exit 0))) (Sq (Bk 1 (So TL (Xp 21 [21] (So TK (.ops TJ))))) (.ops TI))) [.tok 3 103])
def DY:RC:=Pg
def GR:La:=[Wa 31 3,Wa 2 31]
def r97:RC:=(So Ot (So DZ (So ny (Sq (So mS (Bk 0 (.pre [.tok 3 103] (.loop DY)))) (So GR .ret)))))
def F97:FnC:=⟨r97,32,[.tmp 2],[0],[]⟩
def Oq:La:=[Wr 3 0]
def TH:La:=[om 5 4,om 6 0,WN 7 true 6,Wi 8 .lss 5 7]
def TG:La:=[om 11 0,om 12 4,oo 13 (.idxS (.t 11) (.t 12)) [11,12],Xg 14 .lss 13,Wa 15 14,.grp 15 false [(xi 16 15 false (Mv 0)),(xi 17 15 false (Mv 4)),(xi 18 15 false (.idxS (.t 16) (.t 17))),(xi 19 15 false (.bin .gtr (.t 18) (.c (.u8 57))))] [16,17,18],Wh 20 15 19,Wa 21 20,.grp 21 false [(xi 22 21 false (Mv 0)),(xi 23 21 false (.len true (.t 22))),(xi 24 21 false (Bc .gtr 23 14))] [22,23],Wh 25 21 24]
def TF:La:=[Wa 26 3,WM 27 .mul 10 26,om 28 0,om 29 4,oo 30 (.idxS (.t 28) (.t 29)) [28,29],Xg 31 .sub 30,oo 32 (.toInt .i64 (.t 31)) [31],Wi 33 .add 27 32,Wa 3 33]
def Oo:La:=[Wa 9 4,Wb 10 .add 9 1,Wa 4 10]
def Pe:RC:=(Sq (So TH (Xo 8 [0,4,8] (.exit 0))) (Sq (Bk 1 (Sq (So TG (Xp 25 [0,3,4,25] (So oS .ret))) (.ops TF))) (.ops Oo)))
def uK:RC:=Pe
def TE:La:=[Wa 34 3,Wa 2 34]
def r98:RC:=(So oK (So Oq (Sq (So ny (Bk 0 (.loop uK))) (So TE .ret))))
def F98:FnC:=⟨r98,35,[.tmp 2],[],[]⟩
def TD:La:=[om 5 4,Wb 6 .add 5 1,om 7 0,WN 8 true 7,Wi 9 .lss 6 8]
def TC:Lb:=[Fm 0 12 3,Fm 1 13 0,Fm 2 14 4,Fs 3 15 (.idxS (.t 13) (.t 14)),Fm 6 18 0,Fm 7 19 4,WE 8 20 .add 19 1,Fs 9 21 (.idxS (.t 18) (.t 20)),WL 4 16 160 15,Xe 5 17 .shl 16,WL 10 22 160 21,Wn 11 23 .or 17 22,Fs 12 24 (.litB [.t 23]),W2 13 25 1 12 24,⟨14,false,(xm 3 25)⟩]
def TB:La:=[Wa 10 4,Wb 11 .add 10 2,Wa 4 11]
def Pd:RC:=(.post (Sq (So TD (Xo 9 [0,4,9] (.exit 0))) (Sq (Bk 1 (.flt [0,0,0,6,14,30,0,0,128,448,990,2046,4094,8191,16383] [125] TC [12,13,14,15,16,17,18,19,20,21,22,23,24,25])) (.ops TB))) [.tok 3 103])
def On:RC:=Pd
def TA:La:=[Wa 26 3,Wa 2 26]
def r99:RC:=(So jY (So xB (Sq (So ny (Bk 0 (.pre [.tok 3 103] (.loop On)))) (So TA .ret))))
def F99:FnC:=⟨r99,27,[.tmp 2],[],[]⟩
def zF:La:=[oo 2 (.mov (.c (.lst 4 [] .clip))) [2],WU 3 0]
def Nl:La:=[Wa 10 0,Wg 11 161 10,Wa 4 11]
def Nk:La:=[om 12 4,Wu 13 162 12 1,Wa 5 13]
def Nj:La:=[Xb 6]
def Ni:La:=[om 14 7,om 15 5,Wi 16 .lss 14 15,Wa 17 16,.grp 17 true [(xi 18 17 true (Mv 7)),(xi 19 17 true (Bc .leq 18 8))] [18],Wx 20 17 19]
def Nh:La:=[om 24 4,Wu 25 164 24 200,Wg 26 163 25,Wa 23 26,Ws 27 23 0,WC 28 23 1,WX 8,Ww 4 8 27,Wa 9 28]
def Ng:La:=[Wa 29 9,Wb 30 .neq 29 0]
def rm:La:=[Xb 2,Wr 3 30]
def Nf:La:=[Wa 31 6,Wz 32 4 8,WK 33 4 32,oo 34 (.app Zq1 56 (.t 31) (.t 33)) [31,33],Wa 6 34]
def BW:La:=[Wa 21 7,Wb 22 .add 21 1,Wa 7 22]
def ux:RC:=(.post (Sq (So Ni (Xo 20 [7,20] (.exit 0))) (Sq (Bk 1 (So Nh (Sq (So Ng (Xp 30 [4,5,6,7,8,30] (So rm .ret))) (.ops Nf)))) (.ops BW))) [.gc [108],.tok 6 106])
def tJ:RC:=ux
def BV:La:=[Wa 35 5,Wb 36 .gtr 35 8,Wa 37 36,.grp 37 false [(xi 38 37 false (Mv 4)),(xi 39 37 false (Ca 165 [.t 38])),(xi 40 37 false (Bc .neq 39 0))] [4,38,39],Wh 41 37 40,Wa 42 41,.grp 42 false [(xi 43 42 false (Mv 6)),(xi 44 42 false (Ca 154 [.t 43])),(xi 45 42 false (Bc .neq 44 0))] [43,44],Wh 46 42 45]
def BU:La:=[Wa 47 6,Wa 2 47,Wr 3 0]
def xkJ:RC:=(So zF (So Nl (So Nk (So Nj (Sq (So rE (Bk 0 (.pre [.tok 6 106] (.loop tJ)))) (Sq (So BV (Xp 46 [6,46] (So rm .ret))) (So BU .ret)))))))
def xaT:FnC:=⟨xkJ,48,[.tmp 2,.tmp 3],[],[]⟩
def Nd:La:=[on 4 (Lt 4 1),Wg 5 166 4,Wb 6 .neq 5 0]
def Nc:La:=[Wf 7 0 1,Wc 8 7,Xd 9 74 1 8,Wa 3 9]
def Nb:La:=[Wa 10 3,Wf 11 2 1,Wc 12 11,W4 13 74 10 4 12,Wa 3 13]
def Na:La:=[Wa 14 3,Wf 15 1 1,Wc 16 15,oo 17 (.s2b (.t 16)) [16],Wy 18 112 14 17,Wa 3 18]
def M9:La:=[Wa 19 3,Wk 20 3 1,Wc 21 20,Wy 22 112 19 21,Wa 2 22]
def xkI:RC:=(So D1 (Sq (So Nd (Xp 6 [1,6] (So uO .ret))) (So Nc (So Nb (So Na (So M9 .ret))))))
def xaS:FnC:=⟨xkI,23,[.tmp 2],[],[]⟩
def M8:La:=[on 18 (Ca 167 []),Xm 3,Ww 64 3 18]
def M7:La:=[.own (xs 19 (.lit 1 [(.c (.int .u32 1779033703)),(.c (.int .u32 3144134277)),(.c (.int .u32 1013904242)),(.c (.int .u32 2773480762)),(.c (.int .u32 1359893119)),(.c (.int .u32 2600822924)),(.c (.int .u32 528734635)),(.c (.int .u32 1541459225))])) [],Wa 4 19]
def M6:La:=[Wa 20 0,Wg 21 168 20,Wa 5 21]
def M5:La:=[om 22 6,om 23 5,Wj 24 23,Wi 25 .lss 22 24]
def M4:La:=[Xm 7]
def M3:La:=[Wr 8 0]
def M1:La:=[om 28 8,Wb 29 .lss 28 64]
def M0:La:=[om 32 8,Wb 33 .lss 32 16]
def BT:La:=[om 34 8,om 35 5,om 36 6,om 37 6,Wb 38 .add 37 64,oo 39 (.slcL 1 (.t 35) (some (.t 36)) (some (.t 38)) none) [35,36,38],om 40 8,Wy 41 169 39 40,oo 42 (.iaddrA 64 1 (.t 7) (.t 34)) [34],Wp 1 42 41]
def BS:Lb:=[Fm 0 43 8,WE 1 44 .sub 43 15,WR 2 45 7 44,We 3 46 45,Fm 5 48 8,WE 6 49 .sub 48 15,WR 7 50 7 49,We 8 51 50,Fm 11 54 8,WE 12 55 .sub 54 15,WR 13 56 7 55,We 14 57 56,Fs 15 58 (.bin .shr (.t 57) (.c (.int .u64 3))),Fz 4 47 (Ca 170 [.t 46,(.c (.int .u64 7))]),Fz 9 52 (Ca 170 [.t 51,(.c (.int .u64 18))]),Wn 10 53 .xor 47 52,Wn 16 59 .xor 53 58,Fm 17 9 59]
def BR:Lb:=[Fm 0 60 8,WE 1 61 .sub 60 2,WR 2 62 7 61,We 3 63 62,Fm 5 65 8,WE 6 66 .sub 65 2,WR 7 67 7 66,We 8 68 67,Fm 11 71 8,WE 12 72 .sub 71 2,WR 13 73 7 72,We 14 74 73,Fs 15 75 (.bin .shr (.t 74) (.c (.int .u64 10))),Fz 4 64 (Ca 170 [.t 63,(.c (.int .u64 17))]),Fz 9 69 (Ca 170 [.t 68,(.c (.int .u64 19))]),Wn 10 70 .xor 64 69,Wn 16 76 .xor 70 75,Fm 17 10 76]
def BQ:Lb:=[Fm 0 77 8,Fm 1 78 10,Fm 2 79 8,WE 3 80 .sub 79 7,WR 4 81 7 80,We 5 82 81,Wn 6 83 .add 78 82,Fm 7 84 9,Wn 8 85 .add 83 84,Fm 9 86 8,WE 10 87 .sub 86 16,WR 11 88 7 87,We 12 89 88,Wn 13 90 .add 85 89,WR 14 91 7 77,Fr 15 1 91 90]
def BP:La:=[Wa 30 8,Wb 31 .add 30 1,Wa 8 31]
def uw:RC:=(Sq (So M1 (Xo 29 [8,29] (.exit 2))) (Sq (Bk 3 (Sq (So M0 (Xp 33 [33] (So BT (.exit 3)))) (Sq (.flt [0,1,3,7,15,0,32,96,224,511,1023,0,2048,6144,14336,30720,65535,131071] [] BS [43,44,45,46,47,48,49,50,51,52,53,54,55,56,57,58,59]) (Sq (.flt [0,1,3,7,15,0,32,96,224,511,1023,0,2048,6144,14336,30720,65535,131071] [] BR [60,61,62,63,64,65,66,67,68,69,70,71,72,73,74,75,76]) (.flt [0,0,0,4,12,28,62,0,254,0,512,1536,3584,8190,16383,32767] [] BQ [9,10,77,78,79,80,81,82,83,84,85,86,87,88,89,90,91]))))) (.ops BP)))
def tI:RC:=uw
def BO:La:=[on 92 (.lit 1 []),om 93 4,oo 94 (.app [.int .u32 0] 4 (.t 92) (.t 93)) [92,93],Wa 11 94]
def BN:La:=[om 95 12,Wb 96 .lss 95 64]
def BM:Lb:=[Fm 0 99 11,WJ 1 100 1 99 0,We 2 101 100,Fm 3 102 11,WJ 4 103 1 102 4,We 5 104 103,Fm 6 13 101,Fm 7 14 104]
def BL:Lb:=[Fm 0 105 11,WJ 1 106 1 105 7,We 2 107 106,Fm 3 108 14,Fm 5 110 14,Fm 8 113 14,Fm 12 117 14,Fm 13 118 11,WJ 14 119 1 118 5,We 15 120 119,Wn 16 121 .and 117 120,Fm 17 122 14,Fs 18 123 (.un .xor (.t 122)),Fm 19 124 11,WJ 20 125 1 124 6,We 21 126 125,Wn 22 127 .and 123 126,Wn 23 128 .xor 121 127,Fm 25 130 12,WR 26 131 3 130,We 27 132 131,Fm 29 134 12,WR 30 135 7 134,We 31 136 135,Fz 4 109 (Ca 170 [.t 108,(.c (.int .u64 6))]),Fz 6 111 (Ca 170 [.t 110,(.c (.int .u64 11))]),Wn 7 112 .xor 109 111,Fz 9 114 (Ca 170 [.t 113,(.c (.int .u64 25))]),Wn 10 115 .xor 112 114,Wn 11 116 .add 107 115,Wn 24 129 .add 116 128,Wn 28 133 .add 129 132,Wn 32 137 .add 133 136,Fm 33 15 137]
def BK:Lb:=[Fm 0 138 13,Fm 2 140 13,Fm 5 143 13,Fm 8 146 13,Fm 9 147 11,WJ 10 148 1 147 1,We 11 149 148,Wn 12 150 .and 146 149,Fm 13 151 13,Fm 14 152 11,WJ 15 153 1 152 2,We 16 154 153,Wn 17 155 .and 151 154,Wn 18 156 .xor 150 155,Fm 19 157 11,WJ 20 158 1 157 1,We 21 159 158,Fm 22 160 11,WJ 23 161 1 160 2,We 24 162 161,Wn 25 163 .and 159 162,Wn 26 164 .xor 156 163,Fz 1 139 (Ca 170 [.t 138,(.c (.int .u64 2))]),Fz 3 141 (Ca 170 [.t 140,(.c (.int .u64 13))]),Wn 4 142 .xor 139 141,Fz 6 144 (Ca 170 [.t 143,(.c (.int .u64 22))]),Wn 7 145 .xor 142 144,Wn 27 165 .add 145 164,Fm 28 16 165]
def BJ:Lb:=[Fm 0 166 15,Fm 1 167 16,Wn 2 168 .add 166 167,Fm 3 169 13,Fm 4 170 11,WJ 5 171 1 170 1,We 6 172 171,Fm 7 173 11,WJ 8 174 1 173 2,We 9 175 174,Fm 10 176 11,WJ 11 177 1 176 3,We 12 178 177,Fm 13 179 15,Wn 14 180 .add 178 179,Fm 15 181 14,Fm 16 182 11,WJ 17 183 1 182 5,We 18 184 183,Fm 19 185 11,WJ 20 186 1 185 6,We 21 187 186,Fs 22 188 (.lit 1 [.t 168,.t 169,.t 172,.t 175,.t 180,.t 181,.t 184,.t 187]),⟨23,false,(xm 11 188)⟩]
def BI:La:=[Wa 97 12,Wb 98 .add 97 1,Wa 12 98]
def uv:RC:=(Sq (So BN (Xo 96 [7,12,96] (.exit 4))) (Sq (Bk 5 (Sq (.flt [0,1,3,0,8,24,7,127] [] BM [99,100,101,102,103,104]) (Sq (.flt [0,1,3,0,8,0,56,120,0,376,1016,2047,0,0,8192,24576,61440,0,131072,0,524288,1572864,4063232,8384512,16777215,0,33554432,100663296,268435455,0,536870912,1610612736,4294967295,8589934591] [] BL [105,106,107,108,109,110,111,112,113,114,115,116,117,118,119,120,121,122,123,124,125,126,127,128,129,130,131,132,133,134,135,136,137]) (Sq (.flt [0,1,0,7,15,0,47,127,0,0,512,1536,3840,0,0,16384,49152,122880,261888,0,524288,1572864,0,4194304,12582912,33030144,67108608,134217727,268435455] [] BK [138,139,140,141,142,143,144,145,146,147,148,149,150,151,152,153,154,155,156,157,158,159,160,161,162,163,164,165]) (.flt [0,0,3,0,0,16,48,0,128,384,0,1024,3072,0,15360,0,0,65536,196608,0,524288,1572864,4194303,8388607] [] BJ [13,14,15,16,166,167,168,169,170,171,172,173,174,175,176,177,178,179,180,181,182,183,184,185,186,187,188]))))) (.ops BI)))
def tH:RC:=uv
def BH:La:=[Wr 17 0]
def BG:La:=[om 189 17,Wb 190 .lss 189 8]
def BF:Lb:=[Fm 0 193 4,Fm 1 194 17,Wt 2 195 1 193 194,We 3 196 195,Fm 4 197 11,Fm 5 198 17,Wt 6 199 1 197 198,We 7 200 199,Wn 8 201 .add 196 200,Wt 9 202 1 193 194,Fr 10 1 202 201]
def BE:La:=[Wa 191 17,Wb 192 .add 191 1,Wa 17 192]
def uu:RC:=(Sq (So BG (Xo 190 [11,17,190] (.exit 6))) (Sq (Bk 7 (.flt [0,0,3,7,0,0,48,112,255,511,1023] [] BF [193,194,195,196,197,198,199,200,201,202])) (.ops BE)))
def tG:RC:=uu
def BD:La:=[Wa 26 6,Wb 27 .add 26 64,Wa 6 27]
def ut:RC:=(.post (Sq (So M5 (Xo 25 [3,5,6,25] (.exit 0))) (Sq (Bk 1 (So M4 (Sq (So M3 (Bk 2 (.loop tI))) (So BO (Sq (So OI (Bk 4 (.loop tH))) (So BH (Bk 6 (.loop tG)))))))) (.ops BD))) [.gc [107,194]])
def tF:RC:=ut
def BC:La:=[Wa 203 4,Wg 204 171 203,Wa 2 204]
def xkH:RC:=(So jY (So M8 (So M7 (So M6 (Sq (So mR (Bk 0 (.loop tF))) (So BC .ret))))))
def xaR:FnC:=⟨xkH,205,[.tmp 2],[],[]⟩
def MZ:La:=[om 5 1,Wj 6 5,Wb 7 .gtr 6 65535]
def MY:La:=[Wa 8 1,WY 9 1 8 65535,Wa 1 9]
def MX:La:=[Wa 10 0,om 11 1,Wj 12 11,W4 13 74 10 2 12,Wa 14 1,WA 15 1 13 14,Wa 4 15]
def xkG:RC:=(So lv (Sq (So MZ (Xp 7 [7] (.ops MY))) (So MX .ret)))
def xaQ:FnC:=⟨xkG,16,[.tmp 4],[0],[]⟩
def MV:La:=[on 4 (.build [.str [],.str [],.str [],.str [],.str [],.str []] [(0,1,(.c (.str [97,61,49]))),(1,1,(.c (.str [99,111,117,110,116,61,53]))),(2,1,(.c (.str [99,111,117,110,116,61,49,55]))),(3,1,(.c (.str [104,111,115,116,61,120]))),(4,1,(.c (.str [109,111,100,101,32,98]))),(5,1,(.c (.str [126])))]),on 3 (.new (.arr 1 (aJ 6 [.str []]))),Ww 6 3 4]
def MU:La:=[Wa 5 0,Wu 6 15 5 6,oo 7 (.iaddrA 6 1 (.t 3) (.t 6)) [3,6],Wc 8 7,oo 9 (.s2b (.t 8)) [8],Wa 2 9]
def xkF:RC:=(So jY (So MV (So MU .ret)))
def xaP:FnC:=⟨xkF,10,[.tmp 2],[],[]⟩
def MT:La:=[Wa 5 0,Wa 6 1,Wy 7 206 5 6,Wg 8 102 7,Wa 4 8]
def xkE:RC:=(So lv (So MT .ret))
def xaO:FnC:=⟨xkE,9,[.tmp 4],[],[]⟩
def MS:La:=[Wa 3 0,Wu 4 207 3 10,Wa 2 4]
def xkD:RC:=(So pB (So MS .ret))
def xaN:FnC:=⟨xkD,5,[.tmp 2],[],[]⟩
def MR:La:=[om 3 0,Wb 4 .lss 3 10]
def MQ:La:=[Wa 5 0,WM 6 .add 48 5,WB 7 6,WQ 8 7,Wa 2 8]
def MP:La:=[om 9 0,Wb 10 .quo 9 10,Wg 11 137 10,Wa 12 0,Wb 13 .rem 12 10,WM 14 .add 48 13,WB 15 14,WQ 16 15,WA 17 1 11 16,Wa 2 17]
def xkC:RC:=(So jY (Sq (So MR (Xp 4 [4] (So MQ .ret))) (So MP .ret)))
def xaM:FnC:=⟨xkC,18,[.tmp 2],[0],[]⟩
def uW:La:=[WZ 8]
def MO:La:=[om 12 1,Wb 13 .lss 12 0,Wa 14 13,.grp 14 false [(xi 15 14 false (Mv 1)),(xi 16 14 false (Bc .gtr 15 3))] [15],Wh 17 14 16,Wa 18 17,.grp 18 false [(xi 19 18 false (Mv 2)),(xi 20 18 false (Bc .lss 19 0))] [19],Wh 21 18 20,Wa 22 21,.grp 22 false [(xi 23 22 false (Mv 2)),(xi 24 22 false (Mv 1)),(xi 25 22 false (.toInt .u64 (.t 24))),(xi 26 22 false (.bin .shl (ci 1) (.t 25))),(xi 27 22 false (Bb .geq 23 26))] [23,24,25,26],Wh 28 22 27]
def uV:La:=[WT 8]
def MN:La:=[om 29 2,WB 30 29,WQ 31 30,om 32 0,om 33 1,Wy 34 212 32 33,om 35 2,Wa 36 3,oo 37 (Ca 211 [.t 34,.t 35,.t 36]) [34,35,36],WA 38 1 31 37,Wa 9 38]
def MM:La:=[Wa 39 2,Wa 40 0,Wa 41 1,Wy 42 174 40 41,Wy 43 213 39 42,Wa 10 43]
def ML:La:=[Wr 11 0]
def MK:La:=[om 44 11,om 45 10,Wj 46 45,Wi 47 .lss 44 46]
def MJ:La:=[Wa 50 9,om 51 10,om 52 11,Wv 53 1 51 52,Wc 54 53,WA 55 1 50 54,Wa 9 55]
def MI:La:=[Wa 48 11,Wb 49 .add 48 1,Wa 11 49]
def Ao:RC:=(.post (Sq (So MK (Xo 47 [10,11,47] (.exit 0))) (Sq (Bk 1 (.ops MJ)) (.ops MI))) [.tok 9 109])
def MH:RC:=Ao
def BB:La:=[Wa 56 9,Wa 8 56]
def xkB:RC:=(So uW (Sq (So MO (Xp 28 [0,1,2,3,28] (So uV .ret))) (So MN (So MM (Sq (So ML (Bk 0 (.pre [.tok 9 109] (.loop MH)))) (So BB .ret))))))
def xaL:FnC:=⟨xkB,57,[.tmp 8],[],[]⟩
def MG:La:=[on 0 (.new (.arr 1 (aJ 5 [.str []])))]
def MF:La:=[on 1 (.build [.str [],.str [],.str [],.str [],.str []] [(0,1,(.c (.str [97]))),(1,1,(.c (.str [103,114,117,98]))),(2,1,(.c (.str [108,105,110,117,120]))),(3,1,(.c (.str [110,101,116,45,48]))),(4,1,(.c (.str [116,119,101,108,118,101,45,98,121,116,101,115])))]),Ww 5 0 1]
def xkA:RC:=(So MG (So MF .ret))
def xaK:FnC:=⟨xkA,2,[.cell 0 5 true],[],[]⟩
def ME:La:=[om 5 0,Wu 6 15 5 4,WM 7 .add 1 6,Wa 4 7]
def MD:La:=[om 8 4,Wb 9 .gtr 8 0]
def MC:La:=[Wa 12 3,om 13 0,Wg 14 130 13,WA 15 1 12 14,on 16 (.litB [(.c (.u8 10))]),WA 17 1 15 16,Wa 3 17]
def MB:La:=[Wa 10 4,Wb 11 .sub 10 1,Wa 4 11]
def An:RC:=(.post (Sq (So MD (Xo 9 [0,4,9] (.exit 0))) (Sq (Bk 1 (.ops MC)) (.ops MB))) [.gc [115],.tok 3 103])
def zE:RC:=An
def MA:La:=[Wa 18 3,Wa 2 18]
def xkz:RC:=(So jY (So xB (Sq (So ME (Bk 0 (.pre [.tok 3 103] (.loop zE)))) (So MA .ret))))
def xaJ:FnC:=⟨xkz,19,[.tmp 2],[],[]⟩
def Mz:La:=[Wa 5 0,Wa 6 1,Wy 7 214 5 6,Wb 8 .geq 7 0,Wa 4 8]
def xky:RC:=(So rG (So Mz .ret))
def xaI:FnC:=⟨xky,9,[.tmp 4],[],[]⟩
def My:La:=[om 3 0,Wb 4 .lss 3 0,Wa 5 4,.grp 5 false [(xi 6 5 false (Mv 0)),(xi 7 5 false (Bc .gtr 6 1099511627776))] [0,6],Wh 8 5 7,Wa 2 8]
def xkx:RC:=(So xE (So My .ret))
def xaH:FnC:=⟨xkx,9,[.tmp 2],[],[]⟩
def zD:La:=[WO 1 0,WU 2 0]
def Mx:La:=[Wf 4 0 1,Wc 5 4,Wb 6 .lss 5 1,Wa 7 6,.grp 7 false [(xi 8 7 false (Fa 0 1)),(xi 9 7 false (Ld 8)),(xi 10 7 false (Bc .gtr 9 4))] [8,9],Wh 11 7 10,Wa 12 11,.grp 12 false [(xi 13 12 false (Fa 2 1)),(xi 14 12 false (Ld 13)),(xi 15 12 false (Bc .lss 14 0))] [13,14],Wh 16 12 15,Wa 17 16,.grp 17 false [(xi 18 17 false (Fa 2 1)),(xi 19 17 false (Ld 18)),(xi 20 17 false (Bc .gtr 19 1000000))] [18,19],Wh 21 17 20,Wa 3 21]
def Mw:La:=[Wf 23 1 1,Wc 24 23,Wg 25 215 24,WH 26 25,Wa 22 26]
def zC:La:=[Wr 2 43]
def Mu:La:=[Wf 28 3 1,Wc 29 28,Wj 30 29,Wb 31 .gtr 30 64,Wa 27 31]
def zB:La:=[Wr 2 4]
def Mt:La:=[Wf 33 0 1,Wc 34 33,Wb 35 .eql 34 4,Wa 36 35,.grp 36 true [(xi 37 36 true (Lt 4 1)),(xi 38 36 true (Ca 216 [.t 37])),(xi 39 36 true (Ln 38)),(xi 40 36 true (Bc .eql 39 0))] [1,37,38,39],Wx 41 36 40,Wa 32 41]
def xkw:RC:=(So zD (Sq (Bk 0 (So Mx (Kc 3 (Kk [1,3] (So xC .ret)) (Kk [3] (So Mw (Kc 22 (Kk [1,22] (So zC .ret)) (Kk [22] (So Mu (Kc 27 (Kk [1,27] (So zB .ret)) (Kk [27] (So Mt (Xp 32 [32] (So rj .ret))))))))))))) (So oS .ret)))
def xaG:FnC:=⟨xkw,42,[.tmp 2],[],[]⟩
def Ms:La:=[Wa 9 0,Xn 10 1 9,Wa 7 10]
def Mr:La:=[om 11 1,Wb 12 .lss 11 1,Wa 13 12,.grp 13 false [(xi 14 13 false (Mv 1)),(xi 15 13 false (Bc .gtr 14 8))] [14],Wh 16 13 15]
def Mq:La:=[Wa 17 7,Wa 6 17]
def Mp:La:=[Wa 18 1,Wb 19 .sub 18 1,Wa 8 19]
def Mo:La:=[om 20 8,Wb 21 .geq 20 0]
def Mn:La:=[Wa 24 7,om 25 2,WW 26 25,om 27 8,WM 28 .mul 8 27,WW 29 28,Wi 30 .shr 26 29,WB 31 30,WQ 32 31,WA 33 1 24 32,Wa 7 33]
def Mm:La:=[Wa 22 8,Wb 23 .sub 22 1,Wa 8 23]
def Am:RC:=(.post (Sq (So Mo (Xo 21 [2,8,21] (.exit 0))) (Sq (Bk 1 (.ops Mn)) (.ops Mm))) [.tok 7 107])
def zA:RC:=Am
def Ml:La:=[Wa 34 7,Wa 6 34]
def xkv:RC:=(So xD (So Ms (Sq (So Mr (Xp 16 [1,2,16] (So Mq .ret))) (Sq (So Mp (Bk 0 (.pre [.tok 7 107] (.loop zA)))) (So Ml .ret)))))
def xaF:FnC:=⟨xkv,35,[.tmp 6],[0],[]⟩
def Mj:La:=[om 5 1,Wa 6 1,Wj 7 6,oo 8 (.mini (.t 7) (ci 65535)) [7],W1 9 1 5 8,Wa 1 9]
def Mi:La:=[Wa 10 0,om 11 1,Wj 12 11,W4 13 150 10 2 12,Wa 14 1,WA 15 1 13 14,Wa 4 15]
def xku:RC:=(So lv (So Mj (So Mi .ret)))
def xaE:FnC:=⟨xku,16,[.tmp 4],[0],[]⟩
def Mh:La:=[on 4 (Lt 4 1),Wg 5 148 4,Wb 6 .neq 5 0]
def Mg:La:=[Wf 7 0 1,Wc 8 7,Xd 9 150 1 8,Wa 3 9]
def Mf:La:=[Wa 10 3,Wf 11 2 1,Wc 12 11,W4 13 150 10 4 12,Wa 3 13]
def Me:La:=[Wa 14 3,Wf 15 1 1,Wc 16 15,oo 17 (.s2b (.t 16)) [16],Wy 18 151 14 17,Wa 3 18]
def Md:La:=[Wa 19 3,Wk 20 3 1,Wc 21 20,Wy 22 151 19 21,Wa 2 22]
def xkt:RC:=(So D1 (Sq (So Mh (Xp 6 [1,6] (So uO .ret))) (So Mg (So Mf (So Me (So Md .ret))))))
def xaD:FnC:=⟨xkt,23,[.tmp 2],[],[]⟩
def Ma:La:=[om 8 0,Wj 9 8,Wb 10 .eql 9 0,Wa 11 10,.grp 11 false [(xi 12 11 false (Mv 0)),(xi 13 11 false (Ln 12)),(xi 14 11 false (Bc .gtr 13 8))] [12,13],Wh 15 11 14]
def L9:La:=[Wo 3 false,Wo 4 false]
def L8:La:=[om 16 5,om 17 0,Wj 18 17,Wi 19 .lss 16 18]
def L7:La:=[om 22 0,om 23 5,Wv 24 4 22 23,Wz 25 4 24,Wg 26 166 25,Wa 6 26]
def L6:La:=[om 27 6,Wb 28 .neq 27 0]
def L5:La:=[Wa 29 6,Wa 2 29]
def L4:Lb:=[Fm 0 30 5,WE 1 31 .gtr 30 0,Fm 2 32 31,WF 3 33 32 true 0,WF 4 34 32 true 5,Fi 5 35 32 true (Ia 4 33 34),Fi 6 36 32 true (Fa 0 35),Fi 7 37 32 true (Ld 36),WF 8 38 32 true 0,WF 9 39 32 true 5,Fi 10 40 32 true (Bc .sub 39 1),Fi 11 41 32 true (Ia 4 38 40),Fi 12 42 32 true (Fa 0 41),Fi 13 43 32 true (Ld 42),Fi 14 44 32 true (Bb .lss 37 43),Fs 15 45 (Pf 32 44)]
def BA:La:=[om 46 7,om 47 5,Wi 48 .lss 46 47]
def Bz:Lb:=[Fm 0 51 0,Fm 1 52 7,Wt 2 53 4 51 52,Wm 3 54 0 53,We 4 55 54,Fm 5 56 0,Fm 6 57 5,Wt 7 58 4 56 57,Wm 8 59 0 58,We 9 60 59,Wn 10 61 .eql 55 60,Fm 11 62 61,WF 12 63 62 true 0,WF 13 64 62 true 7,Fi 14 65 62 true (Ia 4 63 64),Fi 15 66 62 true (Fa 1 65),Fi 16 67 62 true (Ld 66),WF 17 68 62 true 0,WF 18 69 62 true 5,Fi 19 70 62 true (Ia 4 68 69),Fi 20 71 62 true (Fa 1 70),Fi 21 72 62 true (Ld 71),Fi 22 73 62 true (Bb .eql 67 72),Fs 23 74 (Pf 62 73)]
def By:La:=[Wa 49 7,Wb 50 .add 49 1,Wa 7 50]
def ur:RC:=(Sq (So BA (Xo 48 [7,48] (.exit 2))) (Sq (Bk 3 (Sq (.flt [0,0,3,7,15,0,0,96,224,480,1023,2047,4095,4095,16383,32767,65535,4095,4095,397311,921599,1970175,4194303,8388607] [] Bz [51,52,53,54,55,56,57,58,59,60,61,62,63,64,65,66,67,68,69,70,71,72,73]) (Xp 74 [0,3,4,5,7,74] (So yR .ret)))) (.ops By)))
def tE:RC:=ur
def Bx:La:=[Wa 75 3,Wa 76 75,.grp 76 false [(xi 77 76 false (Mv 0)),(xi 78 76 false (Mv 5)),(xi 79 76 false (Ia 4 77 78)),(xi 80 76 false (Fa 0 79)),(xi 81 76 false (Ld 80)),(xi 82 76 false (Bc .eql 81 1))] [77,78,79,80,81],Wh 83 76 82,Wa 3 83]
def Bw:La:=[Wa 84 4,Wa 85 84,.grp 85 false [(xi 86 85 false (Mv 0)),(xi 87 85 false (Mv 5)),(xi 88 85 false (Ia 4 86 87)),(xi 89 85 false (Fa 0 88)),(xi 90 85 false (Ld 89)),(xi 91 85 false (Bc .eql 90 3))] [86,87,88,89,90],Wh 92 85 91,Wa 4 92]
def Bv:La:=[Wa 20 5,Wb 21 .add 20 1,Wa 5 21]
def uq:RC:=(Sq (So L8 (Xo 19 [0,5,19] (.exit 0))) (Sq (Bk 1 (Sq (So L7 (So L6 (Kc 28 (Kk [0,3,4,5,28] (So L5 .ret)) (Kk [6,28] .skip)))) (Sq (Sq (.flt [0,1,3,7,7,31,63,127,7,7,519,1799,3847,7943,16383,32767] [] L4 [30,31,32,33,34,35,36,37,38,39,40,41,42,43,44]) (Xp 45 [0,3,4,5,45] (So yS .ret))) (Sq (So rE (Bk 2 (.loop tE))) (So Bx (.ops Bw)))))) (.ops Bv)))
def tD:RC:=uq
def Bu:La:=[Wa 93 3,WH 94 93,Wa 95 94,.grp 95 false [(xi 96 95 false (Mv 4)),(xi 97 95 false (.un .not (.t 96)))] [4,96],Wh 98 95 97]
def xks:RC:=(So oK (Sq (So Ma (Xp 15 [0,15] (So xC .ret))) (So L9 (Sq (So mS (Bk 0 (.loop tD))) (Sq (So Bu (Xp 98 [98] (So rj .ret))) (So oS .ret))))))
def xaC:FnC:=⟨xks,99,[.tmp 2],[],[]⟩
def L3:La:=[WZ 2,WI 3 false]
def L1:La:=[om 8 0,oo 9 (.bin .eql (.t 8) (.c (.str [45]))) [8]]
def L0:La:=[WT 2,Wo 3 true]
def LZ:La:=[om 10 0,WN 11 true 10,Wb 12 .rem 11 2,Wb 13 .neq 12 0]
def zy:La:=[WT 2,Wo 3 false]
def LY:La:=[om 14 0,WN 15 true 14,Wb 16 .quo 15 2,oo 17 (.mkB (ci 0) (.t 16)) [16],Wa 4 17]
def LX:La:=[om 18 5,om 19 0,WN 20 true 19,Wi 21 .lss 18 20]
def LW:Lb:=[Fm 0 24 0,Fm 1 25 5,Fs 2 26 (.idxS (.t 24) (.t 25)),Fm 4 28 0,Fm 5 29 5,WE 6 30 .add 29 1,Fs 7 31 (.idxS (.t 28) (.t 30)),Fz 3 27 (Ca 227 [(.c (.str [48,49,50,51,52,53,54,55,56,57,97,98,99,100,101,102])),.t 26]),Fz 8 32 (Ca 227 [(.c (.str [48,49,50,51,52,53,54,55,56,57,97,98,99,100,101,102])),.t 31]),Fm 9 6 27,Fm 10 7 32]
def LV:La:=[om 33 6,Wb 34 .lss 33 0,Wa 35 34,.grp 35 false [(xi 36 35 false (Mv 7)),(xi 37 35 false (Bc .lss 36 0))] [36],Wh 38 35 37]
def Bt:La:=[Wa 39 4,Wa 40 6,oo 41 (.bin .shl (.t 40) (.c (.int .u64 4))) [40],Wa 42 7,Wi 43 .or 41 42,WB 44 43,WQ 45 44,.dir (.tok 39 139),WA 46 1 39 45,Wa 4 46]
def Bs:La:=[Wa 22 5,Wb 23 .add 22 2,Wa 5 23]
def uo:RC:=(.post (Sq (So LX (Xo 21 [0,5,21] (.exit 0))) (Sq (Bk 1 (Sq (.flt [0,0,3,7,0,0,32,112,255,511,1023] [] LW [24,25,26,27,28,29,30,31,32]) (Sq (So LV (Xp 38 [0,4,5,6,7,38] (So zy .ret))) (.ops Bt)))) (.ops Bs))) [.tok 4 104])
def tC:RC:=uo
def Br:La:=[Wa 47 4,Wa 2 47,Wo 3 true]
def xkr:RC:=(So L3 (Sq (So L1 (Xp 9 [0,9] (So L0 .ret))) (Sq (So LZ (Xp 13 [0,13] (So zy .ret))) (So LY (Sq (So mS (Bk 0 (.pre [.tok 4 104] (.loop tC)))) (So Br .ret))))))
def xaB:FnC:=⟨xkr,48,[.tmp 2,.tmp 3],[],[]⟩
def LU:La:=[om 9 0,Wg 10 228 9,Wa 4 10]
def LS:La:=[Xb 5]
def LQ:La:=[om 11 4,Wu 12 229 11 1,Wa 6 12]
def LP:La:=[om 13 6,Wb 14 .gtr 13 0,Wa 15 14,.grp 15 true [(xi 16 15 true (Mv 4)),(xi 17 15 true (Ca 230 [.t 16])),(xi 18 15 true (Bc .eql 17 0))] [16,17],Wx 19 15 18]
def LO:La:=[om 23 4,om 24 0,Wj 25 24,Wy 26 232 23 25,Wg 27 231 26,Wa 22 27,Ws 28 22 0,WC 29 22 1,WX 7,Ww 4 7 28,Wa 8 29]
def LN:La:=[Wa 30 8,Wb 31 .neq 30 0]
def LM:La:=[Wa 32 5,Wz 33 4 7,WK 34 4 33,oo 35 (.app Zq1 56 (.t 32) (.t 34)) [32,34],Wa 5 35]
def LL:La:=[Wa 20 6,Wb 21 .sub 20 1,Wa 6 21]
def um:RC:=(.post (Sq (So LP (Xo 19 [0,6,19] (.exit 0))) (Sq (Bk 1 (So LO (Sq (So LN (Xp 31 [0,4,5,6,7,31] (So rm .ret))) (.ops LM)))) (.ops LL))) [.gc [107],.tok 5 105])
def tB:RC:=um
def Bq:La:=[Wa 36 4,Wg 37 233 36,Wb 38 .neq 37 0,Wa 39 38,.grp 39 false [(xi 40 39 false (Mv 5)),(xi 41 39 false (Ca 78 [.t 40])),(xi 42 39 false (Bc .neq 41 0))] [40,41],Wh 43 39 42]
def Bp:La:=[Wa 44 5,Wa 2 44,Wr 3 0]
def xkq:RC:=(So zF (So LU (So LS (Sq (So LQ (Bk 0 (.pre [.tok 5 105] (.loop tB)))) (Sq (So Bq (Xp 43 [5,43] (So rm .ret))) (So Bp .ret))))))
def xaA:FnC:=⟨xkq,45,[.tmp 2,.tmp 3],[],[]⟩
def LK:La:=[oo 2 (.mov (.c (.u8 0))) [2]]
def LJ:La:=[om 4 0,Xg 5 .geq 4,Wa 6 5,.grp 6 true [(xi 7 6 true (Mv 0)),(xi 8 6 true (.bin .leq (.t 7) (.c (.u8 57))))] [7],Wx 9 6 8,Wa 3 9]
def LI:La:=[Wa 10 0,Xg 11 .sub 10,Wa 2 11]
def LH:La:=[om 13 0,oo 14 (.bin .geq (.t 13) (.c (.u8 97))) [13],Wa 15 14,.grp 15 true [(xi 16 15 true (Mv 0)),(xi 17 15 true (.bin .leq (.t 16) (.c (.u8 102))))] [16],Wx 18 15 17,Wa 12 18]
def LG:La:=[Wa 19 0,oo 20 (.bin .sub (.t 19) (.c (.u8 97))) [19],oo 21 (.bin .add (.t 20) (.c (.u8 10))) [20],Wa 2 21]
def LF:La:=[on 2 (.mov (.c (.u8 0)))]
def xkp:RC:=(So LK (Sq (Bk 0 (So LJ (Kc 3 (Kk [3] (So LI .ret)) (Kk [3] (So LH (Kc 12 (Kk [12] (So LG .ret)) (Kk [0,12] .skip))))))) (So LF .ret)))
def xaz:FnC:=⟨xkp,22,[.tmp 2],[],[]⟩
def zx:La:=[oo 2 (.mov (.c .nilp)) [2]]
def LD:La:=[Wa 3 0,oo 4 (.build [.byt [] .clip,.int .i64 0,.int .i64 0] [(0,1,(.t 3))]) [3],WO 5 4,Wa 2 5]
def xko:RC:=(So zx (So LD .ret))
def xay:FnC:=⟨xko,6,[.tmp 2],[],[]⟩
def LC:La:=[om 7 0,WD 8 7,Wk 9 2 8,Wc 10 9,Wb 11 .eql 10 0,Wa 12 11,.grp 12 true [(xi 13 12 true (Mv 1)),(xi 14 12 true (Bc .lss 13 1)),(xi 15 12 true (Mv 14))] [13,14],.grp 15 false [(xi 16 15 false (Mv 1)),(xi 17 15 false (Bc .gtr 16 8))] [16],.grp 12 true [(xi 18 12 true (Pt 15 17))] [15,17],Wx 19 12 18]
def LB:La:=[om 20 0,WD 21 20,Wk 22 2 21,.op ⟨none,none,.store 1 (.t 22) (ci 1)⟩ [22]]
def LA:La:=[om 23 0,WD 24 23,Wk 25 2 24,Wc 26 25,Wb 27 .neq 26 0,Wa 28 27,.grp 28 false [(xi 29 28 false (Mv 0)),(xi 30 28 false (Mv 1)),(xi 31 28 false (Ca 234 [.t 29,.t 30])),(xi 32 28 false (.un .not (.t 31)))] [29,30,31],Wh 33 28 32]
def Lz:La:=[on 5 (.mov (.c (.int .u64 0)))]
def Ly:La:=[om 34 6,om 35 1,Wi 36 .lss 34 35]
def Lx:Lb:=[Fm 0 39 5,W8 1 40 .shl 39,Fm 2 41 0,WG 3 42 41,Wm 4 43 0 42,We 5 44 43,Fm 6 45 0,WG 7 46 45,Wm 8 47 1 46,We 9 48 47,Fm 10 49 6,Wn 11 50 .add 48 49,Wt 12 51 1 44 50,We 13 52 51,Fs 14 53 (.toInt .u64 (.t 52)),Wn 15 54 .or 40 53,⟨16,false,(xm 5 54)⟩]
def ul:RC:=(Sq (So Ly (Xo 36 [6,36] (.exit 0))) (Sq (Bk 1 (.flt [0,1,0,4,12,28,0,64,192,448,0,1984,4092,8188,16380,32767,65535] [] Lx [39,40,41,42,43,44,45,46,47,48,49,50,51,52,53,54])) (.ops yT)))
def tA:RC:=ul
def Bo:La:=[om 55 5,oo 56 (.bin .geq (.t 55) (.c (.int .u64 9223372036854775808))) [55]]
def Bn:La:=[Wa 57 0,WD 58 57,Wk 59 2 58,.op ⟨none,none,.store 1 (.t 59) (ci 4)⟩ [59]]
def Bm:La:=[Wa 60 0,on 61 (.nchk (.t 60)),Wk 62 1 61,Wc 63 62,Wa 64 1,Wi 65 .add 63 64,WD 66 60,Wk 67 1 66,Wp 1 67 65]
def Bl:La:=[Wa 68 5,oo 69 (.toInt .i64 (.t 68)) [68],Wa 4 69]
def xkn:RC:=(So rF (Sq (So LC (Xp 19 [19] (.ops LB))) (Sq (So LA (Xp 33 [0,1,33] (So ny .ret))) (So Lz (Sq (So mR (Bk 0 (.loop tA))) (Sq (So Bo (Xp 56 [1,5,56] (So Bn (So ny .ret)))) (So Bm (So Bl .ret))))))))
def xax:FnC:=⟨xkn,70,[.tmp 4],[],[]⟩
def zw:La:=[WX 2,WU 3 0]
def Lw:La:=[Wa 6 0,Wg 7 161 6,Wa 4 7]
def zu:La:=[WX 5]
def Lv:La:=[om 8 4,Wu 9 162 8 1,Wf 10 0 5,Wp 1 10 9]
def Lu:La:=[om 11 4,Wu 12 162 11 4,Wf 13 2 5,Wp 1 13 12]
def Ls:La:=[om 14 4,Wu 15 164 14 12,W5 16 15,Wf 17 1 5,Wp 1 17 16]
def Lr:La:=[om 18 4,Wu 19 164 18 64,Wf 20 3 5,Wp 1 20 19]
def Lq:La:=[Wa 21 4,Wg 22 165 21,Wb 23 .neq 22 0,Wa 24 23,.grp 24 false [(xi 25 24 false (Lt 4 5)),(xi 26 24 false (Ca 166 [.t 25])),(xi 27 24 false (Bc .neq 26 0))] [25,26],Wh 28 24 27]
def zt:La:=[on 29 (.build Zq1 []),Ww 4 2 29,Wr 3 30]
def zr:La:=[Wz 30 4 5,Ww 4 2 30,Wr 3 0]
def xkm:RC:=(So zw (So Lw (So zu (So Lv (So Lu (So Ls (So Lr (Sq (So Lq (Xp 28 [5,28] (So zt .ret))) (So zr .ret)))))))))
def xaw:FnC:=⟨xkm,31,[.cell 2 4 true,.tmp 3],[],[]⟩
def Lp:La:=[om 6 0,WD 7 6,Wk 8 2 7,Wc 9 8,Wb 10 .neq 9 0,Wa 11 10,.grp 11 false [(xi 12 11 false (Mv 0)),(xi 13 11 false (Ca 234 [.t 12,ci 2])),(xi 14 11 false (.un .not (.t 13)))] [12,13],Wh 15 11 14]
def ji:La:=[WT 4]
def Lo:Lb:=[Fm 0 16 0,WG 1 17 16,Wm 2 18 0 17,We 3 19 18,Fm 4 20 0,WG 5 21 20,Wm 6 22 1 21,We 7 23 22,Wt 8 24 1 19 23,We 9 25 24,WV 10 26 25,W8 11 27 .shl 26,Fm 12 28 0,WG 13 29 28,Wm 14 30 0 29,We 15 31 30,Fm 16 32 0,WG 17 33 32,Wm 18 34 1 33,We 19 35 34,WE 20 36 .add 35 1,Wt 21 37 1 31 36,We 22 38 37,WV 23 39 38,Wn 24 40 .or 27 39,Fm 25 5 40]
def Lm:La:=[om 41 5,Wa 42 1,Wi 43 .gtr 41 42]
def Ll:La:=[Wa 44 0,WD 45 44,Wk 46 2 45,.op ⟨none,none,.store 1 (.t 46) (ci 4)⟩ [46]]
def Lk:La:=[om 47 0,om 48 5,WM 49 .add 2 48,Wy 50 234 47 49,WH 51 50]
def Lj:La:=[om 52 0,on 53 (.nchk (.t 52)),Wk 54 1 53,Wc 55 54,om 56 5,WM 57 .add 2 56,Wi 58 .add 55 57,WD 59 52,Wk 60 1 59,Wp 1 60 58]
def Bj:Lb:=[Fs 0 61 (.litB []),Fm 1 62 0,WG 2 63 62,Wm 3 64 0 63,We 4 65 64,Fm 5 66 0,WG 6 67 66,Wm 7 68 1 67,We 8 69 68,Fm 9 70 5,Wn 10 71 .sub 69 70,Fm 11 72 0,WG 12 73 72,Wm 13 74 1 73,We 14 75 74,Fs 15 76 (.slcL 1 (.t 65) (some (.t 71)) (some (.t 75)) none),W2 16 77 1 61 76,Fm 17 4 77]
def xkl:RC:=(So lv (Sq (So Lp (Xp 15 [0,1,15] (So ji .ret))) (Sq (.flt [0,1,3,7,0,16,48,112,255,511,1023,2047,0,4096,12288,28672,0,65536,196608,458752,983040,2093056,4190208,8384512,16777215,33554431] [] Lo [16,17,18,19,20,21,22,23,24,25,26,27,28,29,30,31,32,33,34,35,36,37,38,39,40]) (Sq (So Lm (Xp 43 [5,43] (So Ll (So ji .ret)))) (Sq (So Lk (Xp 51 [0,5,51] (So ji .ret))) (So Lj (Sq (.flt [0,0,2,6,14,0,32,96,224,0,992,0,2048,6144,14336,32766,65535,131071] [177] Bj [0,5,61,62,63,64,65,66,67,68,69,70,71,72,73,74,75,76,77]) .ret)))))))
def xav:FnC:=⟨xkl,78,[.tmp 4],[],[]⟩
def Li:La:=[om 3 0,WD 4 3,Wk 5 2 4,Wc 6 5,Wb 7 .eql 6 0,Wa 8 7,.grp 8 true [(xi 9 8 true (Mv 0)),(xi 10 8 true (Ca 235 [.t 9])),(xi 11 8 true (Bc .gtr 10 0))] [9,10],Wx 12 8 11]
def zq:La:=[Wr 2 3]
def zp:La:=[Wa 13 0,WD 14 13,Wk 15 2 14,Wc 16 15,Wa 2 16]
def xkk:RC:=(So oK (Sq (So Li (Xp 12 [0,12] (So zq .ret))) (So zp .ret)))
def xau:FnC:=⟨xkk,17,[.tmp 2],[],[]⟩
def Lh:La:=[Wf 3 0 1,Wc 4 3,Wb 5 .lss 4 1,Wa 6 5,.grp 6 false [(xi 7 6 false (Fa 0 1)),(xi 8 6 false (Ld 7)),(xi 9 6 false (Bc .gtr 8 4))] [7,8],Wh 10 6 9,Wa 11 10,.grp 11 false [(xi 12 11 false (Fa 2 1)),(xi 13 11 false (Ld 12)),(xi 14 11 false (Bc .lss 13 0))] [12,13],Wh 15 11 14,Wa 16 15,.grp 16 false [(xi 17 16 false (Fa 2 1)),(xi 18 16 false (Ld 17)),(xi 19 16 false (Bc .gtr 18 1000000))] [17,18],Wh 20 16 19]
def Lg:La:=[Wf 21 1 1,Wc 22 21,Wg 23 179 22,WH 24 23]
def Lf:La:=[Wf 25 3 1,Wc 26 25,Wj 27 26,Wb 28 .gtr 27 64]
def Le:La:=[Wf 29 0 1,Wc 30 29,Wb 31 .eql 30 4,Wa 32 31,.grp 32 true [(xi 33 32 true (Lt 4 1)),(xi 34 32 true (Ca 203 [.t 33])),(xi 35 32 true (Ln 34)),(xi 36 32 true (Bc .eql 35 0))] [1,33,34,35],Wx 37 32 36]
def xkj:RC:=(So zD (Sq (So Lh (Xp 20 [1,20] (So xC .ret))) (Sq (So Lg (Xp 24 [1,24] (So zC .ret))) (Sq (So Lf (Xp 28 [1,28] (So zB .ret))) (Sq (So Le (Xp 37 [37] (So rj .ret))) (So oS .ret))))))
def xat:FnC:=⟨xkj,38,[.tmp 2],[],[]⟩
def Lc:La:=[Xm 0]
def K9:La:=[on 1 (.build [.int .u32 0,.int .u32 0,.int .u32 0,.int .u32 0,.int .u32 0,.int .u32 0,.int .u32 0,.int .u32 0,.int .u32 0,.int .u32 0,.int .u32 0,.int .u32 0,.int .u32 0,.int .u32 0,.int .u32 0,.int .u32 0,.int .u32 0,.int .u32 0,.int .u32 0,.int .u32 0,.int .u32 0,.int .u32 0,.int .u32 0,.int .u32 0,.int .u32 0,.int .u32 0,.int .u32 0,.int .u32 0,.int .u32 0,.int .u32 0,.int .u32 0,.int .u32 0,.int .u32 0,.int .u32 0,.int .u32 0,.int .u32 0,.int .u32 0,.int .u32 0,.int .u32 0,.int .u32 0,.int .u32 0,.int .u32 0,.int .u32 0,.int .u32 0,.int .u32 0,.int .u32 0,.int .u32 0,.int .u32 0,.int .u32 0,.int .u32 0,.int .u32 0,.int .u32 0,.int .u32 0,.int .u32 0,.int .u32 0,.int .u32 0,.int .u32 0,.int .u32 0,.int .u32 0,.int .u32 0,.int .u32 0,.int .u32 0,.int .u32 0,.int .u32 0] [(0,1,(.c (.int .u32 1116352408))),(1,1,(.c (.int .u32 1899447441))),(2,1,(.c (.int .u32 3049323471))),(3,1,(.c (.int .u32 3921009573))),(4,1,(.c (.int .u32 961987163))),(5,1,(.c (.int .u32 1508970993))),(6,1,(.c (.int .u32 2453635748))),(7,1,(.c (.int .u32 2870763221))),(8,1,(.c (.int .u32 3624381080))),(9,1,(.c (.int .u32 310598401))),(10,1,(.c (.int .u32 607225278))),(11,1,(.c (.int .u32 1426881987))),(12,1,(.c (.int .u32 1925078388))),(13,1,(.c (.int .u32 2162078206))),(14,1,(.c (.int .u32 2614888103))),(15,1,(.c (.int .u32 3248222580))),(16,1,(.c (.int .u32 3835390401))),(17,1,(.c (.int .u32 4022224774))),(18,1,(.c (.int .u32 264347078))),(19,1,(.c (.int .u32 604807628))),(20,1,(.c (.int .u32 770255983))),(21,1,(.c (.int .u32 1249150122))),(22,1,(.c (.int .u32 1555081692))),(23,1,(.c (.int .u32 1996064986))),(24,1,(.c (.int .u32 2554220882))),(25,1,(.c (.int .u32 2821834349))),(26,1,(.c (.int .u32 2952996808))),(27,1,(.c (.int .u32 3210313671))),(28,1,(.c (.int .u32 3336571891))),(29,1,(.c (.int .u32 3584528711))),(30,1,(.c (.int .u32 113926993))),(31,1,(.c (.int .u32 338241895))),(32,1,(.c (.int .u32 666307205))),(33,1,(.c (.int .u32 773529912))),(34,1,(.c (.int .u32 1294757372))),(35,1,(.c (.int .u32 1396182291))),(36,1,(.c (.int .u32 1695183700))),(37,1,(.c (.int .u32 1986661051))),(38,1,(.c (.int .u32 2177026350))),(39,1,(.c (.int .u32 2456956037))),(40,1,(.c (.int .u32 2730485921))),(41,1,(.c (.int .u32 2820302411))),(42,1,(.c (.int .u32 3259730800))),(43,1,(.c (.int .u32 3345764771))),(44,1,(.c (.int .u32 3516065817))),(45,1,(.c (.int .u32 3600352804))),(46,1,(.c (.int .u32 4094571909))),(47,1,(.c (.int .u32 275423344))),(48,1,(.c (.int .u32 430227734))),(49,1,(.c (.int .u32 506948616))),(50,1,(.c (.int .u32 659060556))),(51,1,(.c (.int .u32 883997877))),(52,1,(.c (.int .u32 958139571))),(53,1,(.c (.int .u32 1322822218))),(54,1,(.c (.int .u32 1537002063))),(55,1,(.c (.int .u32 1747873779))),(56,1,(.c (.int .u32 1955562222))),(57,1,(.c (.int .u32 2024104815))),(58,1,(.c (.int .u32 2227730452))),(59,1,(.c (.int .u32 2361852424))),(60,1,(.c (.int .u32 2428436474))),(61,1,(.c (.int .u32 2756734187))),(62,1,(.c (.int .u32 3204031479))),(63,1,(.c (.int .u32 3329325298)))]),Ww 64 0 1]
def xki:RC:=(So Lc (So K9 .ret))
def xas:FnC:=⟨xki,2,[.cell 0 64 true],[],[]⟩
def K8:La:=[on 6 (.litB []),om 7 0,WA 8 1 6 7,on 9 (.litB [(.c (.u8 128))]),WA 10 1 8 9,Wa 3 10]
def K7:La:=[om 11 3,Wj 12 11,Wb 13 .rem 12 64,Wb 14 .neq 13 56]
def K6:La:=[Wa 15 3,on 16 (.litB [(.c (.u8 0))]),WA 17 1 15 16,Wa 3 17]
def Al:RC:=(.post (Sq (So K7 (Xo 14 [14] (.exit 0))) (Bk 1 (.ops K6))) [.tok 3 103])
def zo:RC:=Al
def K5:La:=[Wa 18 0,Wj 19 18,WW 20 19,Xh 21 .mul 20,Wa 4 21]
def K4:La:=[Wr 5 7]
def K3:La:=[om 22 5,Wb 23 .geq 22 0]
def K2:La:=[Wa 26 3,om 27 4,om 28 5,WW 29 28,oo 30 (.bin .mul (.c (.int .u64 8)) (.t 29)) [29],Wi 31 .shr 27 30,WB 32 31,WQ 33 32,WA 34 1 26 33,Wa 3 34]
def K1:La:=[Wa 24 5,Wb 25 .sub 24 1,Wa 5 25]
def uk:RC:=(.post (Sq (So K3 (Xo 23 [4,5,23] (.exit 2))) (Sq (Bk 3 (.ops K2)) (.ops K1))) [.tok 3 103])
def tz:RC:=uk
def Bi:La:=[Wa 35 3,Wa 2 35]
def xkh:RC:=(So jY (So K8 (Sq (Bk 0 (.pre [.tok 3 103] (.loop zo))) (So K5 (Sq (So K4 (Bk 2 (.pre [.tok 3 103] (.loop tz)))) (So Bi .ret))))))
def xar:FnC:=⟨xkh,36,[.tmp 2],[],[]⟩
def zm:La:=[oo 4 (.mov (.c (.int .u32 0))) [4]]
def K0:Lb:=[Fm 0 5 0,Fm 1 6 1,WP 2 7 .mul 4 6,Wt 3 8 1 5 7,We 4 9 8,Fs 5 10 (.toInt .u32 (.t 9)),Fs 6 11 (.bin .shl (.t 10) (.c (.int .u64 24))),Fm 7 12 0,Fm 8 13 1,WP 9 14 .mul 4 13,WE 10 15 .add 14 1,Wt 11 16 1 12 15,We 12 17 16,Fs 13 18 (.toInt .u32 (.t 17)),Fs 14 19 (.bin .shl (.t 18) (.c (.int .u64 16))),Wn 15 20 .or 11 19,Fm 16 21 0,Fm 17 22 1,WP 18 23 .mul 4 22,WE 19 24 .add 23 2,Wt 20 25 1 21 24,We 21 26 25,Fs 22 27 (.toInt .u32 (.t 26)),W8 23 28 .shl 27,Wn 24 29 .or 20 28,Fm 25 30 0,Fm 26 31 1,WP 27 32 .mul 4 31,WE 28 33 .add 32 3,Wt 29 34 1 30 33,We 30 35 34,Fs 31 36 (.toInt .u32 (.t 35)),Wn 32 37 .or 29 36,Fm 33 4 37]
def xkg:RC:=(So zm (Sq (.flt [0,0,2,7,15,31,63,0,0,256,768,1920,3968,8064,16256,32767,0,0,131072,393216,983040,2031616,4128768,8323072,16777215,0,0,67108864,201326592,503316480,1040187392,2113929216,4294967295,8589934591] [] K0 [0,1,5,6,7,8,9,10,11,12,13,14,15,16,17,18,19,20,21,22,23,24,25,26,27,28,29,30,31,32,33,34,35,36,37]) .ret))
def xaq:FnC:=⟨xkg,38,[.tmp 4],[],[]⟩
def KZ:La:=[om 5 0,om 6 1,Wi 7 .shr 5 6,Wa 8 0,Wa 9 1,oo 10 (.bin .sub (.c (.int .u64 32)) (.t 9)) [9],Wi 11 .shl 8 10,Wi 12 .or 7 11,Wa 4 12]
def xkf:RC:=(So zm (So KZ .ret))
def xap:FnC:=⟨xkf,13,[.tmp 4],[],[]⟩
def KY:La:=[om 5 4,om 6 0,Wj 7 6,Wi 8 .lss 5 7]
def KX:Lb:=[Fm 0 11 3,Fm 1 12 0,Fm 2 13 4,Wt 3 14 1 12 13,We 4 15 14,Fs 5 16 (.bin .shr (.t 15) (.c (.int .u64 24))),W7 6 17 16,Fm 7 18 0,Fm 8 19 4,Wt 9 20 1 18 19,We 10 21 20,Fs 11 22 (.bin .shr (.t 21) (.c (.int .u64 16))),W7 12 23 22,Fm 13 24 0,Fm 14 25 4,Wt 15 26 1 24 25,We 16 27 26,W8 17 28 .shr 27,W7 18 29 28,Fm 19 30 0,Fm 20 31 4,Wt 21 32 1 30 31,We 22 33 32,W7 23 34 33,Fs 24 35 (.litB [.t 17,.t 23,.t 29,.t 34]),W2 25 36 1 11 35,⟨26,false,(xm 3 36)⟩]
def Ak:RC:=(.post (Sq (So KY (Xo 8 [0,4,8] (.exit 0))) (Sq (Bk 1 (.flt [0,0,0,6,14,30,62,0,0,384,896,1920,3968,0,0,24576,57344,122880,253952,0,0,1572864,3670016,7864320,16777214,33554431,67108863] [136] KX [11,12,13,14,15,16,17,18,19,20,21,22,23,24,25,26,27,28,29,30,31,32,33,34,35,36])) (.ops Oo))) [.tok 3 103])
def zl:RC:=Ak
def KW:La:=[Wa 37 3,Wa 2 37]
def xke:RC:=(So jY (So xB (Sq (So ny (Bk 0 (.pre [.tok 3 103] (.loop zl)))) (So KW .ret))))
def xao:FnC:=⟨xke,38,[.tmp 2],[],[]⟩
def uU:La:=[Xf 5]
def KV:La:=[Wa 8 0,om 9 1,Wy 10 212 8 9,Wa 6 10]
def KU:La:=[om 11 7,om 12 1,WW 13 12,WM 14 .shl 1 13,Wi 15 .lss 11 14]
def KT:La:=[Wa 18 5,om 19 6,om 20 7,Wy 21 239 19 20,WK 22 1 21,Xi 23 24 18 22,Wa 5 23]
def KS:La:=[Wa 16 7,Wb 17 .add 16 1,Wa 7 17]
def Aj:RC:=(.post (Sq (So KU (Xo 15 [1,6,7,15] (.exit 0))) (Sq (Bk 1 (.ops KT)) (.ops KS))) [.tok 5 105])
def KR:RC:=Aj
def KQ:La:=[Wa 24 5,Wa 4 24]
def xkd:RC:=(So xz (So uU (So KV (Sq (So rE (Bk 0 (.pre [.tok 5 105] (.loop KR)))) (So KQ .ret)))))
def xan:FnC:=⟨xkd,25,[.tmp 4],[],[]⟩
def KP:La:=[om 5 0,WN 6 true 5,Wb 7 .lss 6 1,Wa 8 7,.grp 8 false [(xi 9 8 false (Mv 0)),(xi 10 8 false (.len true (.t 9))),(xi 11 8 false (Bc .gtr 10 12))] [9,10],Wh 12 8 11]
def KO:La:=[om 13 3,om 14 0,WN 15 true 14,Wi 16 .lss 13 15]
def KN:La:=[om 19 0,om 20 3,oo 21 (.idxS (.t 19) (.t 20)) [19,20],Wa 4 21]
def KM:La:=[om 22 4,oo 23 (.bin .lss (.t 22) (.c (.u8 97))) [22],Wa 24 23,.grp 24 false [(xi 25 24 false (Mv 4)),(xi 26 24 false (.bin .gtr (.t 25) (.c (.u8 122))))] [25],Wh 27 24 26,Wa 28 27,.grp 28 true [(xi 29 28 true (Mv 4)),(xi 30 28 true (.bin .lss (.t 29) (.c (.u8 48)))),(xi 31 28 true (Mv 30))] [29,30],.grp 31 false [(xi 32 31 false (Mv 4)),(xi 33 31 false (.bin .gtr (.t 32) (.c (.u8 57))))] [32],.grp 28 true [(xi 34 28 true (Pt 31 33))] [31,33],Wx 35 28 34,Wa 36 35,.grp 36 true [(xi 37 36 true (Mv 4)),(xi 38 36 true (.bin .neq (.t 37) (.c (.u8 45))))] [4,37],Wx 39 36 38]
def KL:La:=[Wa 17 3,Wb 18 .add 17 1,Wa 3 18]
def Ai:RC:=(Sq (So KO (Xo 16 [0,3,16] (.exit 0))) (Sq (Bk 1 (So KN (So KM (Xp 39 [0,3,39] (So AK .ret))))) (.ops KL)))
def zk:RC:=Ai
def tw:La:=[Wo 2 true]
def xkc:RC:=(So xE (Sq (So KP (Xp 12 [0,12] (So AK .ret))) (Sq (So Oq (Bk 0 (.loop zk))) (So tw .ret))))
def xam:FnC:=⟨xkc,40,[.tmp 2],[],[]⟩
def zi:La:=[WO 1 0,Xl 2]
def KG:La:=[om 7 5,Wf 8 3 1,Wc 9 8,Wj 10 9,Wi 11 .lss 7 10]
def KF:La:=[Wf 14 3 1,Wc 15 14,om 16 5,Wv 17 1 15 16,Wc 18 17,Wa 6 18]
def KE:La:=[om 19 6,oo 20 (.bin .eql (.t 19) (.c (.u8 10))) [19]]
def KD:La:=[om 21 4,Wj 22 21,Wb 23 .eql 22 0,Wa 24 23,.grp 24 false [(xi 25 24 false (Mv 3)),(xi 26 24 false (Ln 25)),(xi 27 24 false (Bc .geq 26 4))] [25,26],Wh 28 24 27]
def rl:La:=[Xf 2]
def KC:La:=[Wa 29 3,Wa 30 4,WK 31 1 30,Xi 32 24 29 31,Wa 3 32]
def Bh:La:=[om 33 6,oo 34 (.bin .lss (.t 33) (.c (.u8 32))) [33],Wa 35 34,.grp 35 false [(xi 36 35 false (Mv 6)),(xi 37 35 false (.bin .gtr (.t 36) (.c (.u8 126))))] [36],Wh 38 35 37]
def Bg:La:=[Wa 39 4,Wa 40 6,WQ 41 40,WA 42 1 39 41,Wa 4 42]
def Bf:La:=[Wa 12 5,Wb 13 .add 12 1,Wa 5 13]
def uj:RC:=(.post (Sq (So KG (Xo 11 [1,5,11] (.exit 0))) (Sq (Bk 1 (So KF (Sq (So KE (Xp 20 [6,20] (Sq (So KD (Xp 28 [1,3,4,5,28] (So rl .ret))) (So KC (So ji (.exit 1)))))) (Sq (So Bh (Xp 38 [1,3,4,5,6,38] (So rl .ret))) (.ops Bg))))) (.ops Bf))) [.tok 3 103,.tok 4 104])
def tv:RC:=uj
def Be:La:=[Wa 43 4,Wj 44 43,Wb 45 .gtr 44 0]
def Bd:La:=[Wa 46 3,Wa 2 46]
def xkb:RC:=(So zi (So DZ (So ji (Sq (So mS (Bk 0 (.pre [.tok 3 103,.tok 4 104] (.loop tv)))) (Sq (So Be (Xp 45 [3,45] (So rl .ret))) (So Bd .ret))))))
def xal:FnC:=⟨xkb,47,[.tmp 2],[],[]⟩
def KB:La:=[Wa 8 0,WB 9 8,WQ 10 9,Wa 5 10]
def KA:La:=[om 11 6,om 12 1,Wj 13 12,Wi 14 .lss 11 13]
def Kz:La:=[om 17 1,om 18 6,Wv 19 1 17 18,Wc 20 19,Wj 21 20,Wa 7 21]
def Ky:La:=[Wa 22 5,om 23 7,oo 24 (.bin .shr (.t 23) (.c (.int .u64 24))) [23],WB 25 24,om 26 7,oo 27 (.bin .shr (.t 26) (.c (.int .u64 16))) [26],WB 28 27,om 29 7,Xh 30 .shr 29,WB 31 30,Wa 32 7,WB 33 32,oo 34 (.litB [.t 25,.t 28,.t 31,.t 33]) [25,28,31,33],WA 35 1 22 34,Wa 5 35]
def Kx:La:=[Wa 36 5,om 37 1,om 38 6,Wv 39 1 37 38,Wc 40 39,WA 41 1 36 40,Wa 5 41]
def Ag:RC:=(.post (Sq (So KA (Xo 14 [1,6,14] (.exit 0))) (Sq (Bk 1 (So Kz (So Ky (.ops Kx)))) (.ops uT))) [.tok 5 105])
def zh:RC:=Ag
def zg:La:=[Wa 42 5,Wa 4 42]
def xka:RC:=(So lv (So KB (Sq (So mR (Bk 0 (.pre [.tok 5 105] (.loop zh)))) (So zg .ret))))
def xak:FnC:=⟨xka,43,[.tmp 4],[],[]⟩
def Kw:La:=[om 10 1,Wb 11 .lss 10 0,Wa 12 11,.grp 12 false [(xi 13 12 false (Mv 1)),(xi 14 12 false (Bc .gtr 13 255))] [13],Wh 15 12 14]
def Kv:La:=[WT 6]
def Ku:La:=[Wa 16 2,Wg 17 273 16,Wa 7 17]
def Kt:La:=[om 18 9,Wb 19 .lss 18 35]
def Ks:Lb:=[Fm 0 22 8,Fm 1 23 1,Fm 2 24 9,Fm 3 25 7,Fm 4 26 9,Wt 5 27 1 25 26,We 6 28 27,Fm 7 29 0,Fm 8 30 1,Fm 9 31 9,Fz 10 32 (Ca 275 [.t 29,.t 30,.t 31]),Fz 11 33 (Ca 274 [.t 23,.t 24,ci 0,.t 28,.t 32]),W2 12 34 1 22 33,⟨13,false,(xm 8 34)⟩]
def Kr:La:=[Wa 20 9,Wb 21 .add 20 1,Wa 9 21]
def Af:RC:=(.post (Sq (So Kt (Xo 19 [0,1,7,9,19] (.exit 0))) (Sq (Bk 1 (.flt [0,0,0,0,0,24,56,0,0,0,896,2046,4095,8191] [134] Ks [22,23,24,25,26,27,28,29,30,31,32,33,34])) (.ops Kr))) [.tok 8 108])
def uS:RC:=Af
def Ba:La:=[Wa 35 8,Wa 6 35]
def xj9:RC:=(So xD (Sq (So Kw (Xp 15 [0,1,2,15] (So Kv .ret))) (So Ku (So uV (Sq (So uN (Bk 0 (.pre [.tok 8 108] (.loop uS)))) (So Ba .ret))))))
def xaj:FnC:=⟨xj9,36,[.tmp 6],[],[]⟩
def Kq:La:=[Wa 5 0,Wa 6 1,WB 7 6,WQ 8 7,oo 9 (Ca 244 [.t 5,(.c (.str [115,105,103,110,101,114])),.t 8,ci 32]) [5,8],Wa 4 9]
def xj8:RC:=(So lv (So Kq .ret))
def xai:FnC:=⟨xj8,10,[.tmp 4],[],[]⟩
def Kp:La:=[om 8 1,Wj 9 8,Wg 10 236 9,WH 11 10,Wa 12 11,.grp 12 false [(xi 13 12 false (Mv 0)),(xi 14 12 false (Bc .lss 13 0))] [13],Wh 15 12 14,Wa 16 15,.grp 16 false [(xi 17 16 false (Mv 0)),(xi 18 16 false (Mv 1)),(xi 19 16 false (Ln 18)),(xi 20 16 false (Bb .geq 17 19))] [17,18,19],Wh 21 16 20]
def zf:La:=[Xf 4]
def Ko:La:=[Wa 22 1,Wa 6 22]
def Kn:La:=[om 23 6,Wj 24 23,Wb 25 .gtr 24 1]
def Km:La:=[Wa 28 5,om 29 6,om 30 0,Wb 31 .xor 30 1,Wv 32 1 29 31,Wc 33 32,Wg 34 238 33,WK 35 1 34,Xi 36 24 28 35,Wa 5 36]
def Kj:La:=[om 37 7,Wa 38 6,Wy 39 237 37 38,Wa 6 39]
def Ki:La:=[Wa 40 0,Wb 41 .quo 40 2,Wa 0 41]
def A9:La:=[Wa 26 7,Wb 27 .add 26 1,Wa 7 27]
def ui:RC:=(.post (Sq (So Kn (Xo 25 [0,6,7,25] (.exit 0))) (Sq (Bk 1 (So Km (So Kj (.ops Ki)))) (.ops A9))) [.tok 5 105])
def A8:RC:=ui
def xj7:RC:=(So xz (Sq (So Kp (Xp 21 [0,1,21] (So zf .ret))) (So uU (So Ko (Sq (So rE (Bk 0 (.pre [.tok 5 105] (.loop A8)))) (So zg .ret))))))
def xah:FnC:=⟨xj7,43,[.tmp 4],[],[]⟩
def Kh:La:=[om 6 0,Wj 7 6,Wr 8 0]
def Kg:La:=[on 9 (Bb .lss 8 7)]
def Kf:La:=[om 10 8,Wa 5 10]
def Ke:La:=[om 11 1,om 12 0,om 13 5,Wv 14 1 12 13,Wc 15 14,oo 16 (.call (.t 11) [.t 15]) [11,15]]
def Kd:La:=[Wa 17 5,Wa 4 17]
def Kb:La:=[Wb 18 .add 8 1,Wa 8 18]
def Ae:RC:=(So Kg (Sq (Xo 9 [0,1,7,8,9] (.exit 0)) (Sq (Bk 1 (So Kf (So Ke (Kc 16 (Kk [0,1,7,8,16] (So Kd .ret)) (Kk [5,16] .skip))))) (.ops Kb))))
def ze:RC:=Ae
def Ka:La:=[Wr 4 (-1)]
def xj6:RC:=(So rF (Sq (So Kh (Bk 0 (.loop ze))) (So Ka .ret)))
def xag:FnC:=⟨xj6,19,[.tmp 4],[],[]⟩
def J9:La:=[Wk 6 3 1,Wc 7 6,Wa 4 7]
def J8:La:=[om 8 4,Wj 9 8,Wb 10 .gtr 9 0]
def J7:La:=[om 11 4,oo 12 (Ca 276 [.t 11,(.c (.u8 10))]) [11],Wa 5 12]
def J6:La:=[om 13 5,Wb 14 .lss 13 1,Wa 15 14,.grp 15 false [(xi 16 15 false (Mv 3)),(xi 17 15 false (Ln 16)),(xi 18 15 false (Bc .eql 17 4))] [16,17],Wh 19 15 18,Wa 20 19,.grp 20 false [(xi 21 20 false (Mv 4)),(xi 22 20 false (Mv 5)),(xi 23 20 false (.slcL 1 (.t 21) none (some (.t 22)) none)),(xi 24 20 false (Ca 277 [.t 23])),(xi 25 20 false (.un .not (.t 24)))] [21,22,23,24],Wh 26 20 25]
def J5:La:=[Wa 27 3,om 28 4,om 29 5,om 30 5,oo 31 (.slcL 1 (.t 28) none (some (.t 29)) (some (.t 30))) [28,29,30],WK 32 1 31,Xi 33 24 27 32,Wa 3 33]
def J4:La:=[Wa 34 4,Wa 35 5,Wb 36 .add 35 1,oo 37 (.slcL 1 (.t 34) (some (.t 36)) none none) [34,36],Wa 4 37]
def Ad:RC:=(.post (Sq (So J8 (Xo 10 [4,10] (.exit 0))) (Bk 1 (So J7 (Sq (So J6 (Xp 26 [3,4,5,26] (So rl .ret))) (So J5 (.ops J4)))))) [.tok 3 103])
def uQ:RC:=Ad
def A7:La:=[Wa 38 3,Wa 2 38]
def xj5:RC:=(So zi (So DZ (Sq (So J9 (Bk 0 (.pre [.tok 3 103] (.loop uQ)))) (So A7 .ret))))
def xaf:FnC:=⟨xj5,39,[.tmp 2],[],[]⟩
def J3:La:=[Wa 5 0,Wa 6 1,Wy 7 218 5 6,Wa 4 7]
def xj4:RC:=(So rF (So J3 .ret))
def xae:FnC:=⟨xj4,8,[.tmp 4],[],[]⟩
def J2:La:=[Wa 3 0,Xn 4 1 3,oo 5 (.build [.byt [] .clip,.int .i64 0,.int .i64 0] [(0,1,(.t 4))]) [4],WO 6 5,Wa 2 6]
def xj3:RC:=(So zx (So J2 .ret))
def xad:FnC:=⟨xj3,7,[.tmp 2],[],[]⟩
def zd:La:=[om 10 0,WD 11 10,Wk 12 2 11,Wc 13 12,Wb 14 .neq 13 0]
def J1:La:=[om 15 1,Wb 16 .lss 15 1,Wa 17 16,.grp 17 false [(xi 18 17 false (Mv 1)),(xi 19 17 false (Bc .gtr 18 8))] [18],Wh 20 17 19]
def J0:La:=[Wa 21 0,oo 22 (Ca 289 [.t 21,ci 1]) [21,22]]
def JZ:La:=[om 24 0,om 25 0,WD 26 25,Wk 27 1 26,Wc 28 27,om 29 1,oo 30 (Ca 290 [.t 24,.t 28,.t 29]) [24,28,29],Wa 23 30,Ws 31 23 0,WC 32 23 1,Wa 5 31,Wa 6 32]
def JY:La:=[om 33 6,Wb 34 .neq 33 0]
def JX:La:=[Wa 35 0,Wa 36 6,oo 37 (Ca 289 [.t 35,.t 36]) [35,36,37]]
def A6:La:=[on 7 (.mov (.c (.int .u64 0)))]
def A5:La:=[Wa 38 5,on 39 (Ln 38),Wr 40 0]
def A4:La:=[on 41 (Bb .lss 40 39)]
def A3:La:=[on 42 (Ia 1 38 40),Wc 43 42,Wa 9 43]
def A2:La:=[Wa 44 7,Xh 45 .shl 44,Wa 46 9,WW 47 46,Wi 48 .or 45 47,Wa 7 48]
def A1:La:=[Wb 49 .add 40 1,Wa 40 49]
def uh:RC:=(So A4 (Sq (Xo 41 [38,39,40,41] (.exit 0)) (Sq (Bk 1 (So A3 (.ops A2))) (.ops A1))))
def tu:RC:=uh
def AZ:La:=[om 50 7,oo 51 (.bin .gtr (.t 50) (.c (.int .u64 9223372036854775807))) [50]]
def AY:La:=[Wa 52 0,oo 53 (Ca 289 [.t 52,ci 4]) [52,53]]
def AX:La:=[Wa 54 0,on 55 (.nchk (.t 54)),Wk 56 1 55,Wc 57 56,Wa 58 1,Wi 59 .add 57 58,WD 60 54,Wk 61 1 60,Wp 1 61 59]
def AW:La:=[Wa 62 7,oo 63 (.toInt .i64 (.t 62)) [62],Wa 4 63]
def xj2:RC:=(So rF (Sq (So zd (Xp 14 [0,1,14] (So ny .ret))) (Sq (So J1 (Xp 20 [1,20] (So J0 (So ny .ret)))) (So JZ (Sq (So JY (Kc 34 (Kk [1,5,34] (So JX (So ny .ret))) (Kk [6,34] .skip))) (So A6 (Sq (So A5 (Bk 0 (.loop tu))) (Sq (So AZ (Xp 51 [1,7,51] (So AY (So ny .ret)))) (So AX (So AW .ret))))))))))
def xac:FnC:=⟨xj2,64,[.tmp 4],[],[]⟩
def JW:La:=[Wa 3 0,WD 4 3,Wk 5 2 4,Wc 6 5,Wa 2 6]
def xj1:RC:=(So oK (So JW .ret))
def xab:FnC:=⟨xj1,7,[.tmp 2],[],[]⟩
def JV:La:=[Wa 6 0,Wg 7 228 6,Wa 4 7]
def JU:La:=[om 8 4,Wu 9 229 8 1,Wf 10 0 5,Wp 1 10 9]
def JT:La:=[om 11 4,Wu 12 229 11 4,Wf 13 2 5,Wp 1 13 12]
def JS:La:=[om 14 4,Wu 15 232 14 12,W5 16 15,Wf 17 1 5,Wp 1 17 16]
def JR:La:=[om 18 4,Wu 19 232 18 64,Wf 20 3 5,Wp 1 20 19]
def JQ:La:=[Wa 21 4,Wg 22 233 21,Wb 23 .neq 22 0,Wa 24 23,.grp 24 false [(xi 25 24 false (Lt 4 5)),(xi 26 24 false (Ca 148 [.t 25])),(xi 27 24 false (Bc .neq 26 0))] [25,26],Wh 28 24 27]
def xj0:RC:=(So zw (So JV (So zu (So JU (So JT (So JS (So JR (Sq (So JQ (Xp 28 [5,28] (So zt .ret))) (So zr .ret)))))))))
def xaa:FnC:=⟨xj0,31,[.cell 2 4 true,.tmp 3],[],[]⟩
def JP:La:=[om 15 0,oo 16 (.mkfn 290 [.t 15] []) [15],Wa 5 16]
def JO:La:=[om 18 5,om 19 0,WD 20 19,Wk 21 1 20,Wc 22 21,oo 23 (.call (.t 18) [.t 22,ci 2]) [18,22],Wa 17 23,Ws 24 17 0,WC 25 17 1,Wa 6 24,Wa 7 25]
def JN:La:=[om 26 7,Wb 27 .neq 26 0]
def JM:La:=[Wa 28 0,Wa 29 7,oo 30 (Ca 289 [.t 28,.t 29]) [28,29,30]]
def JL:Lb:=[Fm 0 31 6,WJ 1 32 1 31 0,We 2 33 32,WV 3 34 33,W8 4 35 .shl 34,Fm 5 36 6,WJ 6 37 1 36 1,We 7 38 37,WV 8 39 38,Wn 9 40 .or 35 39,Fm 10 8 40]
def JK:La:=[om 41 8,Wa 42 1,Wi 43 .gtr 41 42]
def AV:La:=[Wa 44 0,oo 45 (Ca 289 [.t 44,ci 4]) [44,45]]
def AU:La:=[Wa 47 5,om 48 0,WD 49 48,Wk 50 1 49,Wc 51 50,Wb 52 .add 51 2,om 53 8,oo 54 (.call (.t 47) [.t 52,.t 53]) [47,52,53],Wa 46 54,Ws 55 46 0,WC 56 46 1,Wa 9 55,Wa 7 56]
def AT:La:=[om 57 7,Wb 58 .neq 57 0]
def AS:La:=[Wa 59 0,Wa 60 7,oo 61 (Ca 289 [.t 59,.t 60]) [59,60,61]]
def AR:La:=[Wa 62 0,on 63 (.nchk (.t 62)),Wk 64 1 63,Wc 65 64,Wa 66 8,WM 67 .add 2 66,Wi 68 .add 65 67,WD 69 62,Wk 70 1 69,Wp 1 70 68]
def AQ:La:=[Wa 71 9,Xn 72 1 71,Wa 4 72]
def xjZ:RC:=(So lv (Sq (So zd (Xp 14 [0,1,14] (So ji .ret))) (So JP (So JO (Sq (So JN (Kc 27 (Kk [1,5,6,27] (So JM (So ji .ret))) (Kk [7,27] .skip))) (Sq (.flt [0,1,3,7,15,0,32,96,224,511,1023] [] JL [6,31,32,33,34,35,36,37,38,39,40]) (Sq (So JK (Xp 43 [5,8,43] (So AV (So ji .ret)))) (So AU (Sq (So AT (Kc 58 (Kk [8,9,58] (So AS (So ji .ret))) (Kk [7,58] .skip))) (So AR (So AQ .ret)))))))))))
def Z9:FnC:=⟨xjZ,73,[.tmp 4],[],[]⟩
def JJ:La:=[om 3 0,WD 4 3,Wk 5 2 4,Wc 6 5,Wb 7 .eql 6 0,Wa 8 7,.grp 8 true [(xi 9 8 true (Mv 0)),(xi 10 8 true (Ca 291 [.t 9])),(xi 11 8 true (Bc .gtr 10 0))] [9,10],Wx 12 8 11]
def xjY:RC:=(So oK (Sq (So JJ (Xp 12 [0,12] (So zq .ret))) (So zp .ret)))
def Z8:FnC:=⟨xjY,17,[.tmp 2],[],[]⟩
def JI:Lb:=[Fm 0 5 0,WG 1 6 5,Wm 2 7 2 6,We 3 8 7,WE 4 9 .eql 8 0,Fm 5 10 9,WF 6 11 10 true 0,Fi 7 12 10 true (.nchk (.t 11)),Fi 8 13 10 true (Fa 0 12),Fi 9 14 10 true (Ld 13),Fi 10 15 10 true (Ln 14),WF 11 16 10 true 0,Fi 12 17 10 true (.nchk (.t 16)),Fi 13 18 10 true (Fa 1 17),Fi 14 19 10 true (Ld 18),Fi 15 20 10 true (Bb .sub 15 19),WF 16 21 10 true 1,Fi 17 22 10 true (Bb .lss 20 21),Fs 18 23 (Pf 10 22)]
def JH:La:=[om 24 0,WD 25 24,Wk 26 2 25,.op ⟨none,none,.store 1 (.t 26) (ci 2)⟩ [26]]
def JG:La:=[Wa 27 0,WD 28 27,Wk 29 2 28,Wc 30 29,Wb 31 .eql 30 0,Wa 4 31]
def xjX:RC:=(So rG (Sq (Sq (.flt [0,1,3,7,15,31,63,127,255,511,1023,63,2111,6207,14399,32767,63,131071,262143] [] JI [1,5,6,7,8,9,10,11,12,13,14,15,16,17,18,19,20,21,22]) (Xp 23 [23] (.ops JH))) (So JG .ret)))
def Z7:FnC:=⟨xjX,32,[.tmp 4],[],[]⟩
def zb:Lb:=[Fm 0 3 0,WG 1 4 3,Wm 2 5 0 4,We 3 6 5,Fs 4 7 (Ln 6),Fm 5 8 0,WG 6 9 8,Wm 7 10 1 9,We 8 11 10,Wn 9 12 .sub 7 11,Fm 10 2 12]
def xjW:RC:=(So oK (Sq (.flt [0,1,3,7,15,0,32,96,224,511,1023] [] zb [0,3,4,5,6,7,8,9,10,11,12]) .ret))
def Z6:FnC:=⟨xjW,13,[.tmp 2],[],[]⟩
def JF:La:=[om 3 0,Wb 4 .eql 3 1,Wa 5 4,.grp 5 false [(xi 6 5 false (Mv 0)),(xi 7 5 false (Bc .eql 6 2))] [6],Wh 8 5 7,Wa 9 8,.grp 9 false [(xi 10 9 false (Mv 0)),(xi 11 9 false (Bc .eql 10 4))] [10],Wh 12 9 11,Wa 13 12,.grp 13 false [(xi 14 13 false (Mv 0)),(xi 15 13 false (Bc .eql 14 8))] [0,14],Wh 16 13 15,Wa 2 16]
def xjV:RC:=(So xE (So JF .ret))
def Z5:FnC:=⟨xjV,17,[.tmp 2],[],[]⟩
def JE:La:=[om 7 6,WM 8 .mul 2 7,Wb 9 .add 8 1,om 10 1,Wj 11 10,Wi 12 .lss 9 11]
def JD:Lb:=[Fm 0 15 5,Fm 1 16 0,Fm 2 17 6,Fm 3 18 1,Fm 4 19 6,WP 5 20 .mul 2 19,Wt 6 21 1 18 20,We 7 22 21,Fm 8 23 1,Fm 9 24 6,WP 10 25 .mul 2 24,WE 11 26 .add 25 1,Wt 12 27 1 23 26,We 13 28 27,Fz 14 29 (Ca 292 [.t 16,.t 17,.t 22,.t 28]),Fs 15 30 (.lit 1 [.t 29]),Fz 16 31 (.app [.byt [] .clip] 24 (.t 15) (.t 30)),⟨17,false,(xm 5 31)⟩]
def za:La:=[Wa 13 6,Wb 14 .add 13 1,Wa 6 14]
def Ac:RC:=(.post (Sq (So JE (Xo 12 [0,1,6,12] (.exit 0))) (Sq (Bk 1 (.flt [0,0,0,0,0,16,56,120,0,0,512,1536,3840,7936,16382,32766,65535,131071] [131] JD [15,16,17,18,19,20,21,22,23,24,25,26,27,28,29,30,31])) (.ops za))) [.tok 5 105])
def JC:RC:=Ac
def JB:La:=[Wa 32 5,Wa 4 32]
def xjU:RC:=(So xz (So uU (Sq (So mR (Bk 0 (.pre [.tok 5 105] (.loop JC)))) (So JB .ret))))
def Z4:FnC:=⟨xjU,33,[.tmp 4],[],[]⟩
def JA:La:=[on 3 (.litB []),Wa 4 0,WA 5 1 3 4,Wa 2 5]
def xjT:RC:=(So jY (So JA .ret))
def Z3:FnC:=⟨xjT,6,[.tmp 2],[],[]⟩
def Jz:La:=[om 7 1,Wb 8 .lss 7 0,Wa 9 8,.grp 9 false [(xi 10 9 false (Mv 1)),(xi 11 9 false (Bc .gtr 10 255))] [10],Wh 12 9 11]
def Jy:La:=[WT 5]
def Jx:La:=[om 13 6,Wb 14 .lss 13 35]
def Jw:La:=[Wa 17 5,om 18 1,om 19 6,om 20 0,om 21 1,om 22 6,oo 23 (Ca 275 [.t 20,.t 21,.t 22]) [20,21,22],oo 24 (Ca 274 [.t 18,.t 19,ci 0,ci 15,.t 23]) [18,19,23],WA 25 1 17 24,Wa 5 25]
def Ab:RC:=(.post (Sq (So Jx (Xo 14 [0,6,14] (.exit 0))) (Sq (Bk 1 (.ops Jw)) (.ops uT))) [.tok 5 105])
def uP:RC:=Ab
def Jv:La:=[Wa 26 1,Wa 27 5,Wy 28 293 26 27,Wa 4 28]
def xjS:RC:=(So lv (Sq (So Jz (Xp 12 [0,1,12] (So ji .ret))) (So Jy (Sq (So mR (Bk 0 (.pre [.tok 5 105] (.loop uP)))) (So Jv .ret)))))
def Z2:FnC:=⟨xjS,29,[.tmp 4],[],[]⟩
def Ju:La:=[om 12 3,Wb 13 .lss 12 1,Wa 14 13,.grp 14 false [(xi 15 14 false (Mv 3)),(xi 16 14 false (Bc .gtr 15 1024))] [15],Wh 17 14 16]
def Jt:La:=[WT 9]
def Js:La:=[Wr 10 1]
def Jr:La:=[om 18 9,Wj 19 18,om 20 3,Wi 21 .lss 19 20]
def Jq:La:=[om 24 10,Wg 25 295 24,om 26 1,WA 27 1 25 26,Wa 11 27]
def Jp:La:=[Wa 28 11,on 29 (.litB [(.c (.u8 0))]),WA 30 1 28 29,om 31 2,WA 32 1 30 31,om 33 3,WM 34 .mul 8 33,Wg 35 295 34,WA 36 1 32 35,Wa 11 36]
def Jo:La:=[Wa 37 9,om 38 0,Wa 39 11,Wy 40 296 38 39,WA 41 1 37 40,Wa 9 41]
def Jn:La:=[Wa 22 10,Wb 23 .add 22 1,Wa 10 23]
def ug:RC:=(.post (Sq (So Jr (Xo 21 [0,1,2,10,21] (.exit 0))) (Sq (Bk 1 (So Jq (So Jp (.ops Jo)))) (.ops Jn))) [.gc [127,130,132,136],.gcr 26000 27000,.gcr 36000 37000,.tok 9 109])
def AP:RC:=ug
def AO:La:=[Wa 42 9,Wa 43 3,W1 44 1 42 43,Wa 8 44]
def xjR:RC:=(So uW (Sq (So Ju (Xp 17 [0,1,2,3,17] (So uV .ret))) (So Jt (Sq (So Js (Bk 0 (.pre [.tok 9 109] (.loop AP)))) (So AO .ret)))))
def Z1:FnC:=⟨xjR,45,[.tmp 8],[],[]⟩
def Jm:La:=[Wa 7 0,WK 8 1 7,oo 9 (Ca 133 [ci 4,.t 8]) [8],WY 10 1 9 16,Wa 3 10]
def Jl:La:=[om 11 6,Wb 12 .lss 11 16]
def Jk:Lb:=[Fm 0 15 4,Fm 1 16 3,Fm 2 17 6,Wt 3 18 1 16 17,We 4 19 18,Xe 5 20 .shr 19,WV 6 21 20,Fm 7 22 3,Fm 8 23 6,Wt 9 24 1 22 23,We 10 25 24,Fs 11 26 (.bin .and (.t 25) (.c (.u8 15))),WV 12 27 26,Fs 13 28 (.lit 1 [.t 21,.t 27]),Fz 14 29 (.app [.int .i64 0] 8 (.t 15) (.t 28)),⟨15,false,(xm 4 29)⟩]
def Jj:Lb:=[Fm 0 30 5,Fm 1 31 3,Fm 2 32 6,Wt 3 33 1 31 32,We 4 34 33,Xe 5 35 .shr 34,WV 6 36 35,WP 7 37 .sub 30 36,Fm 8 38 3,Fm 9 39 6,Wt 10 40 1 38 39,We 11 41 40,Fs 12 42 (.bin .and (.t 41) (.c (.u8 15))),WV 13 43 42,Wn 14 44 .sub 37 43,Wn 15 45 .add 30 44,⟨16,false,(xm 5 45)⟩]
def Aa:RC:=(.post (Sq (So Jl (Xo 12 [3,6,12] (.exit 0))) (Sq (Bk 1 (Sq (.flt [0,0,0,6,14,30,62,0,0,384,896,1920,3968,8190,16383,32767] [129] Jk [15,16,17,18,19,20,21,22,23,24,25,26,27,28,29]) (.flt [0,0,0,6,14,30,62,126,0,0,768,1792,3840,7936,16382,32767,65535] [] Jj [30,31,32,33,34,35,36,37,38,39,40,41,42,43,44,45]))) (.ops za))) [.tok 4 104])
def y9:RC:=Aa
def AN:La:=[Wa 46 4,om 47 5,Wb 48 .quo 47 256,om 49 5,Wb 50 .quo 49 16,Wb 51 .rem 50 16,Wa 52 5,Wb 53 .rem 52 16,oo 54 (.lit 1 [.t 48,.t 51,.t 53]) [48,51,53],oo 55 (.app [.int .i64 0] 8 (.t 46) (.t 54)) [46,54],Wa 2 55]
def xjQ:RC:=(So Ot (So Jm (So zf (So mS (Sq (So mR (Bk 0 (.pre [.tok 4 104] (.loop y9)))) (So AN .ret))))))
def Z0:FnC:=⟨xjQ,56,[.tmp 2],[],[]⟩
def Ji:La:=[WZ 10]
def Jh:La:=[Wa 12 2,Wa 11 12]
def Jg:La:=[om 13 11,om 14 3,Wi 15 .lss 13 14]
def Jf:La:=[om 18 0,WB 19 18,om 20 1,WB 21 20,om 22 11,WB 23 22,oo 24 (.litB [.t 19,.t 21,.t 23]) [19,21,23],Wa 25 4,oo 26 (.lit 1 [.t 24,.t 25]) [24,25],oo 27 (Ca 133 [ci 1,.t 26]) [26],WY 28 1 27 16,Wa 4 28]
def Je:La:=[Wa 16 11,Wb 17 .add 16 1,Wa 11 17]
def z8:RC:=(Sq (So Jg (Xo 15 [0,1,3,11,15] (.exit 0))) (Sq (Bk 1 (.ops Jf)) (.ops Je)))
def y8:RC:=z8
def Jd:La:=[Wa 29 4,Wa 10 29]
def xjP:RC:=(So Ji (Sq (So Jh (Bk 0 (.loop y8))) (So Jd .ret)))
def ZZ:FnC:=⟨xjP,30,[.tmp 10],[],[]⟩
def Jc:La:=[Wa 7 0,Wa 8 1,WB 9 8,Wa 10 2,WB 11 10,oo 12 (.litB [.t 9,.t 11]) [9,11],oo 13 (Ca 244 [.t 7,(.c (.str [99,104,97,105,110])),.t 12,ci 16]) [7,12],Wa 6 13]
def xjO:RC:=(So xD (So Jc .ret))
def ZY:FnC:=⟨xjO,14,[.tmp 6],[],[]⟩
def Jb:La:=[Wa 5 0,on 6 (Ln 5),Wr 7 0]
def Ja:La:=[on 8 (Bb .lss 7 6)]
def I9:La:=[on 9 (Ia 1 5 7),Wc 10 9,Wa 4 10]
def I8:La:=[om 11 4,oo 12 (.bin .lss (.t 11) (.c (.u8 32))) [11],Wa 13 12,.grp 13 false [(xi 14 13 false (Mv 4)),(xi 15 13 false (.bin .gtr (.t 14) (.c (.u8 126))))] [4,14],Wh 16 13 15]
def I7:La:=[Wb 17 .add 7 1,Wa 7 17]
def zZ:RC:=(So Ja (Sq (Xo 8 [5,6,7,8] (.exit 0)) (Sq (Bk 1 (So I9 (So I8 (Xp 16 [5,6,7,16] (So AK .ret))))) (.ops I7))))
def y7:RC:=zZ
def xjN:RC:=(So xE (Sq (So Jb (Bk 0 (.loop y7))) (So tw .ret)))
def ZX:FnC:=⟨xjN,18,[.tmp 2],[],[]⟩
def I6:La:=[Wa 4 0,Wa 5 1,WD 6 4,Wk 7 2 6,Wp 1 7 5]
def xjM:RC:=(.ops I6)
def ZW:FnC:=⟨xjM,8,[],[],[]⟩
def I5:La:=[WZ 6,WU 7 0]
def I4:La:=[om 8 2,om 9 0,WD 10 9,Wk 11 0 10,Wc 12 11,Wj 13 12,om 14 1,Wi 15 .sub 13 14,Wi 16 .gtr 8 15]
def I3:La:=[WT 6,Wr 7 2]
def I2:La:=[Wa 17 0,WD 18 17,Wk 19 0 18,Wc 20 19,om 21 1,Wa 22 1,Wa 23 2,Wi 24 .add 22 23,oo 25 (.slcL 1 (.t 20) (some (.t 21)) (some (.t 24)) none) [20,21,24],Wa 6 25,Wr 7 0]
def xjL:RC:=(So I5 (Sq (So I4 (Xp 16 [0,1,2,16] (So I3 .ret))) (So I2 .ret)))
def ZV:FnC:=⟨xjL,26,[.tmp 6,.tmp 7],[],[]⟩
def xjK:RC:=(So oK (Sq (.flt [0,1,3,7,15,0,32,96,224,511,1023] [] zb [0,3,4,5,6,7,8,9,10,11,12]) .ret))
def ZU:FnC:=⟨xjK,13,[.tmp 2],[],[]⟩
def I1:La:=[Wa 9 0,WB 10 9,Wa 11 1,WB 12 11,oo 13 (.litB [.t 10,.t 12]) [10,12],Wa 14 2,Wa 15 3,oo 16 (.lit 1 [.t 13,.t 14,.t 15]) [13,14,15],oo 17 (Ca 133 [ci 3,.t 16]) [16],WY 18 1 17 16,Wa 8 18]
def xjJ:RC:=(So uW (So I1 .ret))
def ZT:FnC:=⟨xjJ,19,[.tmp 8],[],[]⟩
def I0:La:=[Wa 5 0,WB 6 5,WQ 7 6,Wa 8 1,oo 9 (.lit 1 [.t 7,.t 8]) [7,8],oo 10 (Ca 133 [ci 2,.t 9]) [9],WY 11 1 10 16,Wa 4 11]
def xjI:RC:=(So lv (So I0 .ret))
def ZS:FnC:=⟨xjI,12,[.tmp 4],[],[]⟩
def IZ:La:=[om 3 0,oo 4 (.bin .shr (.t 3) (.c (.int .u64 24))) [3],WB 5 4,om 6 0,oo 7 (.bin .shr (.t 6) (.c (.int .u64 16))) [6],WB 8 7,om 9 0,Xh 10 .shr 9,WB 11 10,Wa 12 0,WB 13 12,oo 14 (.litB [.t 5,.t 8,.t 11,.t 13]) [5,8,11,13],Wa 2 14]
def xjH:RC:=(So jY (So IZ .ret))
def ZR:FnC:=⟨xjH,15,[.tmp 2],[0],[]⟩
def IY:La:=[om 9 0,Wj 10 9,Wb 11 .gtr 10 64]
def IX:La:=[Wa 12 0,Wg 13 102 12,Wa 0 13]
def IW:Lb:=[Fz 0 14 (.mkB (ci 64) (ci 64)),Fm 2 5 14,Fz 1 15 (.mkB (ci 64) (ci 64)),Fm 3 6 15]
def IV:La:=[om 16 7,Wb 17 .lss 16 64]
def IU:La:=[on 8 (.mov (.c (.u8 0)))]
def IT:La:=[om 20 7,om 21 0,Wj 22 21,Wi 23 .lss 20 22]
def IS:La:=[om 24 0,om 25 7,Wv 26 1 24 25,Wc 27 26,Wa 8 27]
def IR:La:=[om 28 5,om 29 7,om 30 6,om 31 7,om 32 8,oo 33 (.bin .xor (.t 32) (.c (.u8 54))) [32],Wa 34 8,oo 35 (.bin .xor (.t 34) (.c (.u8 92))) [34],Wv 36 1 28 29,Wp 1 36 33,Wv 37 1 30 31,Wp 1 37 35]
def AM:La:=[Wa 18 7,Wb 19 .add 18 1,Wa 7 19]
def uf:RC:=(Sq (So IV (Xo 17 [0,7,17] (.exit 0))) (Sq (Bk 1 (So IU (Sq (So IT (Xp 23 [8,23] (.ops IS))) (.ops IR)))) (.ops AM)))
def tr:RC:=uf
def AL:La:=[Wa 38 6,Wa 39 5,Wa 40 1,.dir (.tok 39 139),WA 41 1 39 40,Wg 42 102 41,.dir (.tok 38 138),WA 43 1 38 42,Wg 44 102 43,Wa 4 44]
def xjG:RC:=(So lv (Sq (So IY (Xp 11 [11] (.ops IX))) (Sq (.fla [0,0,1,7] [114,115] IW [[0,2,1,3],[1,0,2,3]] [14,15]) (Sq (So rE (Bk 0 (.loop tr))) (So AL .ret)))))
def ZQ:FnC:=⟨xjG,45,[.tmp 4],[],[]⟩
theorem Fk{g:Nat}{F:FnC}{fn:Func}(h1:prog.funcs[g]? =some fn)(h3:fn.ntmps=F.n:=by kernel_rfl)(h2:fn.body.map (cL prog)=some F.code.er:=by kernel_rfl)(h4:(rh prog fn.results.toList F.rs&&eX prog g&&F.code.ok F.n)=true:=by kernel_rfl):bU prog g F:=by simp only[aw]at h4;exact R6 h1 h2 h3 h4.1.1 h4.1.2 h4.2
noncomputable def xiZ:Nat->Option FnB
 |3=>some (.code F3)
 |4=>some (.code F4)
 |5=>some (.code F5)
 |7=>some (.code F7)
 |8=>some (.code F8)
 |9=>some (.code F9)
 |11=>some (.code F11)
 |12=>some (.code F12)
 |13=>some (.code F13)
 |14=>some (.code F14)
 |15=>some (.code F15)
 |16=>some (.code F16)
 |17=>some (.code F17)
 |20=>some (.code F20)
 |28=>some (.code F28)
 |29=>some (.code F29)
 |30=>some (.code F30)
 |31=>some (.code F31)
 |32=>some (.code F32)
 |33=>some (.code F33)
 |35=>some (.code F35)
 |38=>some (.code F38)
 |39=>some (.code F39)
 |40=>some (.code F40)
 |41=>some (.code F41)
 |42=>some (.code F42)
 |43=>some (.code F43)
 |64=>some (.code F64)
 |66=>some (.code F66)
 |72=>some (.code F72)
 |73=>some (.code F73)
 |74=>some (.code F74)
 |75=>some (.code F75)
 |76=>some (.code F76)
 |77=>some (.code F77)
 |78=>some (.code F78)
 |80=>some (.code F80)
 |81=>some (.code F81)
 |83=>some (.code F83)
 |85=>some (.code F85)
 |86=>some (.code F86)
 |87=>some (.code F87)
 |88=>some (.code F88)
 |89=>some (.code F89)
 |90=>some (.code F90)
 |91=>some (.code F91)
 |92=>some (.code F92)
 |93=>some (.code F93)
 |94=>some (.code F94)
 |95=>some (.code F95)
 |96=>some (.code F96)
 |97=>some (.code F97)
 |98=>some (.code F98)
 |99=>some (.code F99)
 |100=>some (.code xaT)
 |101=>some (.code xaS)
 |102=>some (.code xaR)
 |112=>some (.code xaQ)
 |130=>some (.code xaP)
 |133=>some (.code xaO)
 |136=>some (.code xaN)
 |137=>some (.code xaM)
 |143=>some (.code xaL)
 |144=>some (.code xaK)
 |145=>some (.code xaJ)
 |146=>some (.code xaI)
 |147=>some (.code xaH)
 |148=>some (.code xaG)
 |150=>some (.code xaF)
 |151=>some (.code xaE)
 |152=>some (.code xaD)
 |154=>some (.code xaC)
 |158=>some (.code xaB)
 |159=>some (.code xaA)
 |160=>some (.code xaz)
 |161=>some (.code xay)
 |162=>some (.code xax)
 |163=>some (.code xaw)
 |164=>some (.code xav)
 |165=>some (.code xau)
 |166=>some (.code xat)
 |167=>some (.code xas)
 |168=>some (.code xar)
 |169=>some (.code xaq)
 |170=>some (.code xap)
 |171=>some (.code xao)
 |174=>some (.code xan)
 |179=>some (.code xam)
 |203=>some (.code xal)
 |206=>some (.code xak)
 |211=>some (.code xaj)
 |212=>some (.code xai)
 |213=>some (.code xah)
 |214=>some (.code xag)
 |216=>some (.code xaf)
 |227=>some (.code xae)
 |228=>some (.code xad)
 |229=>some (.code xac)
 |230=>some (.code xab)
 |231=>some (.code xaa)
 |232=>some (.code Z9)
 |233=>some (.code Z8)
 |234=>some (.code Z7)
 |235=>some (.code Z6)
 |236=>some (.code Z5)
 |237=>some (.code Z4)
 |238=>some (.code Z3)
 |239=>some (.code Z2)
 |244=>some (.code Z1)
 |273=>some (.code Z0)
 |274=>some (.code ZZ)
 |275=>some (.code ZY)
 |277=>some (.code ZX)
 |289=>some (.code ZW)
 |290=>some (.code ZV)
 |291=>some (.code ZU)
 |292=>some (.code ZT)
 |293=>some (.code ZS)
 |295=>some (.code ZR)
 |296=>some (.code ZQ)
 |155=>some (.prim Pr.p155)
 |215=>some (.prim Pr.p215)
 |218=>some (.prim Pr.p218)
 |223=>some (.prim Pr.p223)
 |276=>some (.prim Pr.p276)
 |82=>some (.prim Pr.p82)
 |84=>some (.prim Pr.p84)
 |157=>some (.prim Pr.p157)
 |207=>some (.prim Pr.p207)
 |156=>some (.prim Pr.p156)
 |_=>none
def xlt:Nat->Sig
 |92=>⟨[],[1]⟩
 |_=> {}
noncomputable def T:gR:=⟨xiZ,xlt⟩
abbrev tf(k:Nat)(F:FnC):Prop:=T.fn k=some (.code F)
theorem T_3:tf 3 F3:=rfl
theorem T_4:tf 4 F4:=rfl
theorem T_5:tf 5 F5:=rfl
theorem T_7:tf 7 F7:=rfl
theorem T_8:tf 8 F8:=rfl
theorem T_9:tf 9 F9:=rfl
theorem xn9:tf 11 F11:=rfl
theorem xn8:tf 12 F12:=rfl
theorem xn7:tf 13 F13:=rfl
theorem xn6:tf 14 F14:=rfl
theorem xn5:tf 15 F15:=rfl
theorem xn4:tf 16 F16:=rfl
theorem xn3:tf 17 F17:=rfl
theorem xn2:tf 20 F20:=rfl
theorem xn1:tf 28 F28:=rfl
theorem xn0:tf 29 F29:=rfl
theorem xnZ:tf 30 F30:=rfl
theorem xnY:tf 31 F31:=rfl
theorem xnX:tf 32 F32:=rfl
theorem xnW:tf 33 F33:=rfl
theorem xnV:tf 35 F35:=rfl
theorem N2:tf 38 F38:=rfl
theorem xnU:tf 39 F39:=rfl
theorem CB:tf 40 F40:=rfl
theorem xnT:tf 41 F41:=rfl
theorem xnS:tf 42 F42:=rfl
theorem N1:tf 43 F43:=rfl
theorem xnR:tf 64 F64:=rfl
theorem xnQ:tf 66 F66:=rfl
theorem xnP:tf 72 F72:=rfl
theorem xnO:tf 73 F73:=rfl
theorem xnN:tf 74 F74:=rfl
theorem xli:tf 75 F75:=rfl
theorem xnM:tf 76 F76:=rfl
theorem xnL:tf 77 F77:=rfl
theorem Zf:tf 78 F78:=rfl
theorem xnK:tf 80 F80:=rfl
theorem xnJ:tf 81 F81:=rfl
theorem xlh:tf 83 F83:=rfl
theorem xnG:tf 85 F85:=rfl
theorem xnF:tf 86 F86:=rfl
theorem xnE:tf 87 F87:=rfl
theorem xnD:tf 88 F88:=rfl
theorem xlg:tf 89 F89:=rfl
theorem xnC:tf 90 F90:=rfl
theorem xnB:tf 91 F91:=rfl
theorem uB:tf 92 F92:=rfl
theorem xnA:tf 93 F93:=rfl
theorem Ze:tf 94 F94:=rfl
theorem xnz:tf 95 F95:=rfl
theorem xny:tf 96 F96:=rfl
theorem xnx:tf 97 F97:=rfl
theorem xnw:tf 98 F98:=rfl
theorem xnv:tf 99 F99:=rfl
theorem xiw:tf 100 xaT:=rfl
theorem Zq:tf 101 xaS:=rfl
theorem xiv:tf 102 xaR:=rfl
theorem xiu:tf 112 xaQ:=rfl
theorem xit:tf 130 xaP:=rfl
theorem Zp:tf 133 xaO:=rfl
theorem xis:tf 136 xaN:=rfl
theorem Zo:tf 137 xaM:=rfl
theorem El:tf 143 xaL:=rfl
theorem xir:tf 144 xaK:=rfl
theorem xiq:tf 145 xaJ:=rfl
theorem xip:tf 146 xaI:=rfl
theorem xio:tf 147 xaH:=rfl
theorem Zn:tf 148 xaG:=rfl
theorem xin:tf 150 xaF:=rfl
theorem xim:tf 151 xaE:=rfl
theorem Zm:tf 152 xaD:=rfl
theorem Ek:tf 154 xaC:=rfl
theorem xii:tf 158 xaB:=rfl
theorem xih:tf 159 xaA:=rfl
theorem xig:tf 160 xaz:=rfl
theorem xif:tf 161 xay:=rfl
theorem xie:tf 162 xax:=rfl
theorem xid:tf 163 xaw:=rfl
theorem xic:tf 164 xav:=rfl
theorem xib:tf 165 xau:=rfl
theorem Zl:tf 166 xat:=rfl
theorem xia:tf 167 xas:=rfl
theorem xh9:tf 168 xar:=rfl
theorem xh8:tf 169 xaq:=rfl
theorem xh7:tf 170 xap:=rfl
theorem xh6:tf 171 xao:=rfl
theorem Zk:tf 174 xan:=rfl
theorem Zj:tf 179 xam:=rfl
theorem xh5:tf 203 xal:=rfl
theorem Zi:tf 206 xak:=rfl
theorem xh3:tf 211 xaj:=rfl
theorem xh2:tf 212 xai:=rfl
theorem Pz:tf 213 xah:=rfl
theorem xh1:tf 214 xag:=rfl
theorem xhZ:tf 216 xaf:=rfl
theorem xhX:tf 227 xae:=rfl
theorem xhW:tf 228 xad:=rfl
theorem xhV:tf 229 xac:=rfl
theorem xhU:tf 230 xab:=rfl
theorem xhT:tf 231 xaa:=rfl
theorem Zh:tf 232 Z9:=rfl
theorem xhS:tf 233 Z8:=rfl
theorem xhR:tf 234 Z7:=rfl
theorem xhQ:tf 235 Z6:=rfl
theorem Zg:tf 236 Z5:=rfl
theorem xhP:tf 237 Z4:=rfl
theorem xhO:tf 238 Z3:=rfl
theorem xhN:tf 239 Z2:=rfl
theorem xhM:tf 244 Z1:=rfl
theorem xhL:tf 273 Z0:=rfl
theorem xhK:tf 274 ZZ:=rfl
theorem xhJ:tf 275 ZY:=rfl
theorem xhH:tf 277 ZX:=rfl
theorem xhG:tf 289 ZW:=rfl
theorem xhF:tf 290 ZV:=rfl
theorem xhE:tf 291 ZU:=rfl
theorem xhD:tf 292 ZT:=rfl
theorem xhC:tf 293 ZS:=rfl
theorem xhB:tf 295 ZR:=rfl
theorem xhA:tf 296 ZQ:=rfl
theorem xil:T.fn 155=some (.prim Pr.p155):=rfl
theorem xh0:T.fn 215=some (.prim Pr.p215):=rfl
theorem xhY:T.fn 218=some (.prim Pr.p218):=rfl
theorem xok:T.fn 223=some (.prim Pr.p223):=rfl
theorem xhI:T.fn 276=some (.prim Pr.p276):=rfl
theorem xnI:T.fn 82=some (.prim Pr.p82):=rfl
theorem xnH:T.fn 84=some (.prim Pr.p84):=rfl
theorem xij:T.fn 157=some (.prim Pr.p157):=rfl
theorem xh4:T.fn 207=some (.prim Pr.p207):=rfl
theorem xik:T.fn 156=some (.prim Pr.p156):=rfl
abbrev sf(k:Nat):Prop:=T.sg k= {}
theorem ZK:sf 155:=rfl
theorem nk:sf 215:=rfl
theorem xiD:sf 218:=rfl
theorem xol:sf 223:=rfl
theorem vd:sf 276:=rfl
theorem xeN:sf 82:=rfl
theorem S0:sf 84:=rfl
theorem gl:sf 157:=rfl
theorem xiE:sf 207:=rfl
theorem xiL:sf 156:=rfl
theorem S_3:sf 3:=rfl
theorem S_4:sf 4:=rfl
theorem S_5:sf 5:=rfl
theorem S_7:sf 7:=rfl
theorem S_8:sf 8:=rfl
theorem S_9:sf 9:=rfl
theorem S3:sf 11:=rfl
theorem EF:sf 12:=rfl
theorem EE:sf 13:=rfl
theorem Oc:sf 14:=rfl
theorem fW:sf 15:=rfl
theorem ZJ:sf 16:=rfl
theorem ZH:sf 17:=rfl
theorem iC:sf 20:=rfl
theorem Zw:sf 28:=rfl
theorem Ob:sf 29:=rfl
theorem Oa:sf 30:=rfl
theorem N9:sf 31:=rfl
theorem xeO:sf 32:=rfl
theorem oC:sf 33:=rfl
theorem CD:sf 35:=rfl
theorem ED:sf 38:=rfl
theorem Zu:sf 39:=rfl
theorem Zt:sf 40:=rfl
theorem xog:sf 41:=rfl
theorem xof:sf 42:=rfl
theorem Zs:sf 43:=rfl
theorem xoe:sf 64:=rfl
theorem mh:sf 66:=rfl
theorem N8:sf 72:=rfl
theorem N7:sf 73:=rfl
theorem S2:sf 74:=rfl
theorem xlj:sf 75:=rfl
theorem qj:sf 76:=rfl
theorem oB:sf 77:=rfl
theorem N6:sf 78:=rfl
theorem EC:sf 80:=rfl
theorem S1:sf 81:=rfl
theorem xod:sf 83:=rfl
theorem ff:sf 85:=rfl
theorem fj:sf 86:=rfl
theorem jw:sf 87:=rfl
theorem CC:sf 88:=rfl
theorem Zr:sf 89:=rfl
theorem xoc:sf 90:=rfl
theorem kj:sf 91:=rfl
theorem mD:T.sg 92=⟨[],[1]⟩:=rfl
theorem xeM:sf 93:=rfl
theorem xeL:sf 94:=rfl
theorem xeK:sf 95:=rfl
theorem xob:sf 96:=rfl
theorem N5:sf 97:=rfl
theorem N4:sf 98:=rfl
theorem N3:sf 99:=rfl
theorem xiS:sf 100:=rfl
theorem xiR:sf 101:=rfl
theorem Et:sf 102:=rfl
theorem ZP:sf 112:=rfl
theorem xiQ:sf 130:=rfl
theorem Es:sf 133:=rfl
theorem xiP:sf 136:=rfl
theorem ZO:sf 137:=rfl
theorem xiO:sf 143:=rfl
theorem Er:sf 144:=rfl
theorem ZN:sf 145:=rfl
theorem xiN:sf 146:=rfl
theorem ZM:sf 147:=rfl
theorem mn:sf 148:=rfl
theorem Ep:sf 150:=rfl
theorem ZL:sf 151:=rfl
theorem xiM:sf 152:=rfl
theorem Eo:sf 154:=rfl
theorem mj:sf 158:=rfl
theorem xiK:sf 159:=rfl
theorem xiJ:sf 160:=rfl
theorem ql:sf 161:=rfl
theorem qk:sf 162:=rfl
theorem ZI:sf 163:=rfl
theorem ym:sf 164:=rfl
theorem vh:sf 165:=rfl
theorem mi:sf 166:=rfl
theorem xiI:sf 167:=rfl
theorem xiH:sf 168:=rfl
theorem xiG:sf 169:=rfl
theorem ZG:sf 170:=rfl
theorem xiF:sf 171:=rfl
theorem PH:sf 174:=rfl
theorem nl:sf 179:=rfl
theorem En:sf 203:=rfl
theorem ZF:sf 206:=rfl
theorem PG:sf 211:=rfl
theorem yl:sf 212:=rfl
theorem PF:sf 213:=rfl
theorem ZE:sf 214:=rfl
theorem Em:sf 216:=rfl
theorem yk:sf 227:=rfl
theorem rN:sf 228:=rfl
theorem rM:sf 229:=rfl
theorem PE:sf 230:=rfl
theorem ZD:sf 231:=rfl
theorem yj:sf 232:=rfl
theorem vg:sf 233:=rfl
theorem vf:sf 234:=rfl
theorem ZC:sf 235:=rfl
theorem PD:sf 236:=rfl
theorem ZB:sf 237:=rfl
theorem ZA:sf 238:=rfl
theorem PC:sf 239:=rfl
theorem Zz:sf 244:=rfl
theorem xiC:sf 273:=rfl
theorem Zy:sf 274:=rfl
theorem Zx:sf 275:=rfl
theorem PB:sf 277:=rfl
theorem rL:sf 289:=rfl
theorem nj:sf 290:=rfl
theorem Zv:sf 291:=rfl
theorem xiB:sf 292:=rfl
theorem xiA:sf 293:=rfl
theorem xiz:sf 295:=rfl
theorem xiy:sf 296:=rfl
theorem xfx(c:CSt):run T rD c=run T Ej c:=rfl
theorem xfw(c:CSt):run T pA c=run T Ei c:=rfl
theorem xfr(c:CSt):run T xA c=run T Pi c:=rfl
theorem xfm(c:CSt):run T ge c=run T Pc c:=rfl
theorem xfF(c:CSt):run T O1 c=run T Px c:=rfl
theorem xfE(c:CSt):run T OY c=run T Pw c:=rfl
theorem xfD(c:CSt):run T OW c=run T Pv c:=rfl
theorem xfC(c:CSt):run T OU c=run T Pu c:=rfl
theorem xb3(c:CSt):run T zj c=run T Ah c:=rfl
theorem xfB(c:CSt):run T mQ c=run T Ps c:=rfl
theorem xbT(c:CSt):run T yZ c=run T zY c:=rfl
theorem xbS(c:CSt):run T yY c=run T zX c:=rfl
theorem xbR(c:CSt):run T rk c=run T zW c:=rfl
theorem xbQ(c:CSt):run T yX c=run T zV c:=rfl
theorem xbP(c:CSt):run T yW c=run T zU c:=rfl
theorem xbO(c:CSt):run T yV c=run T zT c:=rfl
theorem xfA(c:CSt):run T OP c=run T Pq c:=rfl
theorem xfz(c:CSt):run T ON c=run T Pp c:=rfl
theorem xfy(c:CSt):run T OJ c=run T Po c:=rfl
theorem xbN(c:CSt):run T yU c=run T zS c:=rfl
theorem xbM(c:CSt):run T iL c=run T zR c:=rfl
theorem xfv(c:CSt):run T OH c=run T Pn c:=rfl
theorem xbL(c:CSt):run T uM c=run T zQ c:=rfl
theorem xbK(c:CSt):run T uL c=run T zP c:=rfl
theorem xbJ(c:CSt):run T oT c=run T zO c:=rfl
theorem xfu(c:CSt):run T Ox c=run T Pm c:=rfl
theorem xft(c:CSt):run T Ow c=run T Pk c:=rfl
theorem xfs(c:CSt):run T Ov c=run T Pj c:=rfl
theorem xbI(c:CSt):run T fD c=run T zN c:=rfl
theorem xbH(c:CSt):run T yA c=run T zM c:=rfl
theorem xfq(c:CSt):run T Ou c=run T Ph c:=rfl
theorem xfp(c:CSt):run T DY c=run T Pg c:=rfl
theorem xfo(c:CSt):run T uK c=run T Pe c:=rfl
theorem xfn(c:CSt):run T On c=run T Pd c:=rfl
theorem Re(c:CSt):run T tJ c=run T ux c:=rfl
theorem Rd(c:CSt):run T tI c=run T uw c:=rfl
theorem Rc(c:CSt):run T tH c=run T uv c:=rfl
theorem Rb(c:CSt):run T tG c=run T uu c:=rfl
theorem Ra(c:CSt):run T tF c=run T ut c:=rfl
theorem xca(c:CSt):run T MH c=run T Ao c:=rfl
theorem xb9(c:CSt):run T zE c=run T An c:=rfl
theorem xb8(c:CSt):run T zA c=run T Am c:=rfl
theorem QZ(c:CSt):run T tE c=run T ur c:=rfl
theorem QY(c:CSt):run T tD c=run T uq c:=rfl
theorem QX(c:CSt):run T tC c=run T uo c:=rfl
theorem QW(c:CSt):run T tB c=run T um c:=rfl
theorem QV(c:CSt):run T tA c=run T ul c:=rfl
theorem xb7(c:CSt):run T zo c=run T Al c:=rfl
theorem QU(c:CSt):run T tz c=run T uk c:=rfl
theorem xb6(c:CSt):run T zl c=run T Ak c:=rfl
theorem xb5(c:CSt):run T KR c=run T Aj c:=rfl
theorem xb4(c:CSt):run T zk c=run T Ai c:=rfl
theorem QT(c:CSt):run T tv c=run T uj c:=rfl
theorem xb2(c:CSt):run T zh c=run T Ag c:=rfl
theorem xb1(c:CSt):run T uS c=run T Af c:=rfl
theorem QS(c:CSt):run T A8 c=run T ui c:=rfl
theorem xb0(c:CSt):run T ze c=run T Ae c:=rfl
theorem xbZ(c:CSt):run T uQ c=run T Ad c:=rfl
theorem QR(c:CSt):run T tu c=run T uh c:=rfl
theorem xbY(c:CSt):run T JC c=run T Ac c:=rfl
theorem xbX(c:CSt):run T uP c=run T Ab c:=rfl
theorem QQ(c:CSt):run T AP c=run T ug c:=rfl
theorem xbW(c:CSt):run T y9 c=run T Aa c:=rfl
theorem xbV(c:CSt):run T y8 c=run T z8 c:=rfl
theorem xbU(c:CSt):run T y7 c=run T zZ c:=rfl
theorem QP(c:CSt):run T tr c=run T uf c:=rfl
theorem xlY:bU prog 3 F3:=Fk func3
theorem xlX:bU prog 4 F4:=Fk func4
theorem xlW:bU prog 5 F5:=Fk func5
theorem xlV:bU prog 7 F7:=Fk func7
theorem xlU:bU prog 8 F8:=Fk func8
theorem xlT:bU prog 9 F9:=Fk func9
theorem xgv:bU prog 11 F11:=Fk func11
theorem xgu:bU prog 12 F12:=Fk func12
theorem xgt:bU prog 13 F13:=Fk func13
theorem xgs:bU prog 14 F14:=Fk func14
theorem xgr:bU prog 15 F15:=Fk func15
theorem xgq:bU prog 16 F16:=Fk func16
theorem xgp:bU prog 17 F17:=Fk func17
theorem xgo:bU prog 20 F20:=Fk func20
theorem xgn:bU prog 28 F28:=Fk func28
theorem xgm:bU prog 29 F29:=Fk func29
theorem xgl:bU prog 30 F30:=Fk func30
theorem xgk:bU prog 31 F31:=Fk func31
theorem xgj:bU prog 32 F32:=Fk func32
theorem xgi:bU prog 33 F33:=Fk func33
theorem xgh:bU prog 35 F35:=Fk func35
theorem xgg:bU prog 38 F38:=Fk func38
theorem xgf:bU prog 39 F39:=Fk func39
theorem xge:bU prog 40 F40:=Fk func40
theorem xgd:bU prog 41 F41:=Fk func41
theorem xgc:bU prog 42 F42:=Fk func42
theorem xgb:bU prog 43 F43:=Fk func43
theorem xga:bU prog 64 F64:=Fk func64
theorem xf9:bU prog 66 F66:=Fk func66
theorem xf8:bU prog 72 F72:=Fk func72
theorem xf7:bU prog 73 F73:=Fk func73
theorem xf6:bU prog 74 F74:=Fk func74
theorem xf5:bU prog 75 F75:=Fk func75
theorem xf4:bU prog 76 F76:=Fk func76
theorem xf3:bU prog 77 F77:=Fk func77
theorem xf2:bU prog 78 F78:=Fk func78
theorem xf1:bU prog 80 F80:=Fk func80
theorem xf0:bU prog 81 F81:=Fk func81
theorem xfZ:bU prog 83 F83:=Fk func83
theorem xfY:bU prog 85 F85:=Fk func85
theorem xfX:bU prog 86 F86:=Fk func86
theorem xfW:bU prog 87 F87:=Fk func87
theorem xfV:bU prog 88 F88:=Fk func88
theorem xfU:bU prog 89 F89:=Fk func89
theorem xfT:bU prog 90 F90:=Fk func90
theorem xfS:bU prog 91 F91:=Fk func91
theorem xfR:bU prog 92 F92:=Fk func92
theorem xfQ:bU prog 93 F93:=Fk func93
theorem xfP:bU prog 94 F94:=Fk func94
theorem xfO:bU prog 95 F95:=Fk func95
theorem xfN:bU prog 96 F96:=Fk func96
theorem xfM:bU prog 97 F97:=Fk func97
theorem xfL:bU prog 98 F98:=Fk func98
theorem xfK:bU prog 99 F99:=Fk func99
theorem xdl:bU prog 100 xaT:=Fk func100
theorem xdk:bU prog 101 xaS:=Fk func101
theorem xdj:bU prog 102 xaR:=Fk func102
theorem xdi:bU prog 112 xaQ:=Fk func112
theorem xdh:bU prog 130 xaP:=Fk func130
theorem xdg:bU prog 133 xaO:=Fk func133
theorem xdf:bU prog 136 xaN:=Fk func136
theorem xde:bU prog 137 xaM:=Fk func137
theorem xdd:bU prog 143 xaL:=Fk func143
theorem xdc:bU prog 144 xaK:=Fk func144
theorem xdb:bU prog 145 xaJ:=Fk func145
theorem xda:bU prog 146 xaI:=Fk func146
theorem xc9:bU prog 147 xaH:=Fk func147
theorem xc8:bU prog 148 xaG:=Fk func148
theorem xc7:bU prog 150 xaF:=Fk func150
theorem xc6:bU prog 151 xaE:=Fk func151
theorem xc5:bU prog 152 xaD:=Fk func152
theorem xc4:bU prog 154 xaC:=Fk func154
theorem xc3:bU prog 158 xaB:=Fk func158
theorem xc2:bU prog 159 xaA:=Fk func159
theorem xc1:bU prog 160 xaz:=Fk func160
theorem xc0:bU prog 161 xay:=Fk func161
theorem xcZ:bU prog 162 xax:=Fk func162
theorem xcY:bU prog 163 xaw:=Fk func163
theorem xcX:bU prog 164 xav:=Fk func164
theorem xcW:bU prog 165 xau:=Fk func165
theorem xcV:bU prog 166 xat:=Fk func166
theorem xcU:bU prog 167 xas:=Fk func167
theorem xcT:bU prog 168 xar:=Fk func168
theorem xcS:bU prog 169 xaq:=Fk func169
theorem xcR:bU prog 170 xap:=Fk func170
theorem xcQ:bU prog 171 xao:=Fk func171
theorem xcP:bU prog 174 xan:=Fk func174
theorem xcO:bU prog 179 xam:=Fk func179
theorem xcN:bU prog 203 xal:=Fk func203
theorem xcM:bU prog 206 xak:=Fk func206
theorem xcL:bU prog 211 xaj:=Fk func211
theorem xcK:bU prog 212 xai:=Fk func212
theorem xcJ:bU prog 213 xah:=Fk func213
theorem xcI:bU prog 214 xag:=Fk func214
theorem xcH:bU prog 216 xaf:=Fk func216
theorem xcG:bU prog 227 xae:=Fk func227
theorem xcF:bU prog 228 xad:=Fk func228
theorem xcE:bU prog 229 xac:=Fk func229
theorem xcD:bU prog 230 xab:=Fk func230
theorem xcC:bU prog 231 xaa:=Fk func231
theorem xcB:bU prog 232 Z9:=Fk func232
theorem xcA:bU prog 233 Z8:=Fk func233
theorem xcz:bU prog 234 Z7:=Fk func234
theorem xcy:bU prog 235 Z6:=Fk func235
theorem xcx:bU prog 236 Z5:=Fk func236
theorem xcw:bU prog 237 Z4:=Fk func237
theorem xcv:bU prog 238 Z3:=Fk func238
theorem xcu:bU prog 239 Z2:=Fk func239
theorem xct:bU prog 244 Z1:=Fk func244
theorem xcs:bU prog 273 Z0:=Fk func273
theorem xcr:bU prog 274 ZZ:=Fk func274
theorem xcq:bU prog 275 ZY:=Fk func275
theorem xcp:bU prog 277 ZX:=Fk func277
theorem xco:bU prog 289 ZW:=Fk func289
theorem xcn:bU prog 290 ZV:=Fk func290
theorem xcm:bU prog 291 ZU:=Fk func291
theorem xcl:bU prog 292 ZT:=Fk func292
theorem xck:bU prog 293 ZS:=Fk func293
theorem xcj:bU prog 295 ZR:=Fk func295
theorem xci:bU prog 296 ZQ:=Fk func296
set_option maxHeartbeats 4000000 in
theorem yu:ni prog T:=by
 intro g b h;simp only[T]at h;unfold xiZ at h;split at h
 ·cases h;exact xlY
 ·cases h;exact xlX
 ·cases h;exact xlW
 ·cases h;exact xlV
 ·cases h;exact xlU
 ·cases h;exact xlT
 ·cases h;exact xgv
 ·cases h;exact xgu
 ·cases h;exact xgt
 ·cases h;exact xgs
 ·cases h;exact xgr
 ·cases h;exact xgq
 ·cases h;exact xgp
 ·cases h;exact xgo
 ·cases h;exact xgn
 ·cases h;exact xgm
 ·cases h;exact xgl
 ·cases h;exact xgk
 ·cases h;exact xgj
 ·cases h;exact xgi
 ·cases h;exact xgh
 ·cases h;exact xgg
 ·cases h;exact xgf
 ·cases h;exact xge
 ·cases h;exact xgd
 ·cases h;exact xgc
 ·cases h;exact xgb
 ·cases h;exact xga
 ·cases h;exact xf9
 ·cases h;exact xf8
 ·cases h;exact xf7
 ·cases h;exact xf6
 ·cases h;exact xf5
 ·cases h;exact xf4
 ·cases h;exact xf3
 ·cases h;exact xf2
 ·cases h;exact xf1
 ·cases h;exact xf0
 ·cases h;exact xfZ
 ·cases h;exact xfY
 ·cases h;exact xfX
 ·cases h;exact xfW
 ·cases h;exact xfV
 ·cases h;exact xfU
 ·cases h;exact xfT
 ·cases h;exact xfS
 ·cases h;exact xfR
 ·cases h;exact xfQ
 ·cases h;exact xfP
 ·cases h;exact xfO
 ·cases h;exact xfN
 ·cases h;exact xfM
 ·cases h;exact xfL
 ·cases h;exact xfK
 ·cases h;exact xdl
 ·cases h;exact xdk
 ·cases h;exact xdj
 ·cases h;exact xdi
 ·cases h;exact xdh
 ·cases h;exact xdg
 ·cases h;exact xdf
 ·cases h;exact xde
 ·cases h;exact xdd
 ·cases h;exact xdc
 ·cases h;exact xdb
 ·cases h;exact xda
 ·cases h;exact xc9
 ·cases h;exact xc8
 ·cases h;exact xc7
 ·cases h;exact xc6
 ·cases h;exact xc5
 ·cases h;exact xc4
 ·cases h;exact xc3
 ·cases h;exact xc2
 ·cases h;exact xc1
 ·cases h;exact xc0
 ·cases h;exact xcZ
 ·cases h;exact xcY
 ·cases h;exact xcX
 ·cases h;exact xcW
 ·cases h;exact xcV
 ·cases h;exact xcU
 ·cases h;exact xcT
 ·cases h;exact xcS
 ·cases h;exact xcR
 ·cases h;exact xcQ
 ·cases h;exact xcP
 ·cases h;exact xcO
 ·cases h;exact xcN
 ·cases h;exact xcM
 ·cases h;exact xcL
 ·cases h;exact xcK
 ·cases h;exact xcJ
 ·cases h;exact xcI
 ·cases h;exact xcH
 ·cases h;exact xcG
 ·cases h;exact xcF
 ·cases h;exact xcE
 ·cases h;exact xcD
 ·cases h;exact xcC
 ·cases h;exact xcB
 ·cases h;exact xcA
 ·cases h;exact xcz
 ·cases h;exact xcy
 ·cases h;exact xcx
 ·cases h;exact xcw
 ·cases h;exact xcv
 ·cases h;exact xcu
 ·cases h;exact xct
 ·cases h;exact xcs
 ·cases h;exact xcr
 ·cases h;exact xcq
 ·cases h;exact xcp
 ·cases h;exact xco
 ·cases h;exact xcn
 ·cases h;exact xcm
 ·cases h;exact xcl
 ·cases h;exact xck
 ·cases h;exact xcj
 ·cases h;exact xci
 ·cases h;exact Pr.p155_ok
 ·cases h;exact Pr.p215_ok
 ·cases h;exact Pr.p218_ok
 ·cases h;exact Pr.p223_ok
 ·cases h;exact Pr.p276_ok
 ·cases h;exact Pr.p82_ok
 ·cases h;exact Pr.p84_ok
 ·cases h;exact Pr.p157_ok
 ·cases h;exact Pr.p207_ok
 ·cases h;exact Pr.p156_ok
 ·cases h
attribute [go_sem] SV.kclip Tok.kc QG xhz xhy xnu jk uX P3 D7 O2 mI Tk D2 ki List.all_replicate B1 B0 P5 xbr Ri Rk Rj FH Rl Ro se Rn Rm ao.injEq xlR xff xg2 xdr xdm xN CU CV xdz xa8 Eb CX al bA cz ay SU SW xei Gl FP Dm CN CO Tok.ids lJ aC ac dG Int.natCast_nonneg Int.ofNat_lt Int.ofNat_le Int.ofNat_inj Ff QC Fl QE QF xeR PN xeS xa6 xa5 xa1 xeY xeZ xeW xll PL PK xeQ xe0 xa2 xaX xaY xaZ PM xeU EI EJ xba xa9 xeV xeT xa7 xeX xa3 xa4 xa0 xlQ xlP xlS xbB xfg xdS xmJ xmK xmH xmI xmL R3 xdT R7 QB Fo Dc QD Fh kz De Df Ft Fu xdR RE xnn xnp xno qL Dn xgy Ry xgA xdx xdw xds xgJ xgK xgE xlZ Ru Rt xgw xgL xdt xdn xdo xdp Rx xgC FK FL xdB xdA xgD xgB xdy xgH xdu xdv xdq Rw xgx xgI xl0 xgz Rv xgM xgF xdC SZ DR mkE xes stC ET apS apB apL SY cpC cp2 cpB cpL xbC xce B3 Ns B4 B5 lO lP Np B8 B9 xbq PZ xg3 xdE xdO xdN RN FU FT Ds RM Du FV RO Dt xT FM FN RA xly xlw xlx Ql xbt xht xhw xhv xhu Gv SN xl7 xl5 xl6 RD xdJ FB xfI xfG xfH Fx Rf Gi DL DM xg6 xg5 R8 D4 Zc Y9 uG Th Zd GN DV DW u5 YZ pS qM nK Ee Ed Y8 lenC Zb D8 D9 va YL Ea D3 uZ fo jZ wE jo iW xeJ kY dj evL CSt.purge xU yr Oh Ok nI Ey mY lb oY eJ gB psC Tok.readyC aB.wf SV.bare SV.bareL kF kG td kt eS cJ eD looks ij gw ec pe fe rH rI nb rC kD jy E2 CY Qv EY E3 E1 CW xe Qw EZ Qy E4 C8 xj C5 xh E5 C0 C6 C4 xf xg vt E6 C1 E8 C7 CZ E7 C3 EX Qx E0 Pb Gr SJ SK Sa Sc Sd Sb SQ EU Qm Qs Qr Qq Qp Qo Qn xd1 xdU xdZ xd0 xdY xdX xdW xdV Rr Rq Rp RU RT RQ RP RS RR SP xeh fE CSt.publish lN mu oL SV.pub SV.pubL xG gcC rz P4 rZ lH gH iF tks oN oZ rJ dP Pa wP iM ky SV.num mE jq toB rows u6 il iJ ig Tok.eat SV.one SV.data SV.isData SV.cells SV.isDef SV.purge SV.purgeL aB.purge bq bV Tok.purge SV.ren SV.renL aB.ren Tok.ren SV.ids SV.idsL SV.toks SV.toksL aB.ids aB.toks jt kX inR py fT id_eq ah au br aR aZ cd bW beq_self_eq_true dE nt List.getD_nil List.take_succ_cons List.take_zero List.take_nil bj List.drop_succ_cons List.drop_nil aG cV List.flatten_cons List.flatten_nil List.contains_nil List.contains_cons List.isEmpty_nil List.isEmpty_cons fV List.all_nil List.set_cons_zero List.set_cons_succ aO fB bn Option.map_none Option.toList_some Option.toList_none di Option.isNone_none Option.isNone_some eh eT Bool.or_false Bool.true_or Bool.or_true Bool.false_or dL du df dp dl rP Ew az Bool.true_eq_false Bool.not_eq_true Bool.not_eq_false decide_eq_true_eq decide_eq_false_iff_not and_true true_and and_self or_false false_or or_true true_or not_true_eq_false not_false_eq_true ne_eq fX true_implies false_implies implies_true decide_true decide_false Nat.lt_irrefl Nat.not_lt_zero bc bC eq_self and_false false_and Nr mvC xkL YI xdD xgG clA cl2 clC
attribute [go_sem] Fm Fs Fz Fi Ld Fa Ln Ia Mv Bb Bc Ca Pf Pt So Kk Kc Fy Fr Sr Lt Mc Mb Bk Sq Zq0 Zq1 Zq2 xm xs xi ci om omk on oo xep xeo xjF xjE xjD xjC F3 r3 xE AK xjB xjA xjz xjy F4 r4 xjx xjw xen xjv xju xjt xjs xjr xjq xjp VN VM VL VK VJ VI VH VG VF VE VD VC VB VA Ej Ei F5 xfx xfw r5 xjo xjn xjm xjl F7 r7 xjk xjj xji xjh ny xjg xjf xje xjd xjc Um Ul Uk Pi F8 xfr r8 xjb xja xi9 xi8 xi7 xi6 xi5 xi4 xi3 xi2 Tz Ty Tx Tw Tv Tu Tt Ts Tr Tq Tp To Tn Tm Tl Pc F9 xfm r9 pB YE YD YC YB mT YA Yz MW Px F11 xfF r11 O0 OZ Yy Yx Yw Yv Yu Yt Ys Pw F12 xfE r12 rG Yr l7 mS Yq Yp Yo OX oU Pv F13 xfD r13 Yn OV Ym Yl F14 r14 rF Yk Yj Yi F15 r15 Yh Yg Yf Ye Yd F16 r16 mR rE Yc Yb Ya X9 X8 KK KJ KI uT KH Pu Ah F17 xfC xb3 r17 X7 F20 r20 lv X6 X5 F28 r28 OT X4 X3 X2 X1 X0 XZ Ps F29 xfB r29 D1 XY uO XX F30 r30 jY XW XV XU F31 r31 XT XS XR OS XQ XP XO XN XM XL IQ uN IP IN IM IL IK IJ II IH zY zX zW F32 xbT xbS xbR r32 XK XJ XI XH XG XF XE XD IG IF zV F33 xbQ r33 OR XC XB XA Xz Xy Xx Xw Xv Xu IE ID IC IB IA Iz Iy Ix Iw Iv Iu It Is Ir Iq Ip zU F35 xbP r35 Xt Xs Xr Xq V9 V8 Io In Im Il Ik Ij Ii Ih Ig If Ie Ic Ib H9 H8 H7 H6 H5 zT F38 xbO r38 OQ V7 F39 r39 D0 V6 V5 V4 V3 V2 V1 V0 H4 H3 H2 H1 HZ HY HX HW HV HU HS HQ Pq F40 xfA r40 OO VZ VY VX VW Pp F41 xfz r41 OM OL VV OK Po F42 xfy r42 VU VT VS VR VQ VP OI VO HP HO HN HM HK HJ HI HH HG HF HE HD HC HB Hz Hy Hx Hw zS zR F43 xbN xbM r43 Vz F64 r64 Vy F66 r66 Vx Vw Vv F72 r72 Vu F73 r73 xD Vt Vs Vr Vq Vp Vo Vn Vm Pn F74 xfv r74 Vl Vk Vj Vi Vh Vg Vf Ve Vd Hv yT Hu zQ F75 xbL r75 Vc Vb Va U9 U8 U7 U6 U5 U4 U3 Ht Hs Hr Hq Hp Ho Hn Hm Hl Hk Hj Hi F76 r76 U2 F77 r77 oK U0 xC UZ UY UX UW UV UU UT Hh yS Hg Hf He Hd yR Hc Hb Ha G9 rj oS zP zO F78 xbK xbJ r78 OG OF OE OD OC OB OA Oz Oy yQ yP yO yN yM yL yK yJ yI yH yG yF yE yD yC yB F80 r80 UR F81 r81 UQ UP UO UN UM UL UK G8 Pm F83 xfu r83 F85 r85 UJ UI UH UG UF UE UD UC UB UA G7 G6 G5 G4 F86 r86 Uz F87 r87 Uy Ux xB Uw Uv Uu Ut Pk F88 xft r88 Us Ur Uq Up Uo Un Pj F89 xfs r89 Uj Ui Uh Ug F90 r90 xz Uf F91 r91 Ue Ud Uc Ub Ua T9 T8 G3 zN F92 xbI r92 T7 T6 T5 T4 T3 T2 T1 T0 TZ G2 G1 GZ GY GX GV GU zM F93 xbH r93 TY TX TW TV TU TT TS TR TQ GT GS F94 r94 TP Ph F95 xfq r95 TO F96 r96 Ot DZ TN TL TK TJ TI GR Pg F97 xfp r97 Oq TH TG TF Oo TE Pe F98 xfo r98 TD TC TB TA Pd F99 xfn r99 zF Nl Nk Nj Ni Nh Ng rm Nf BW BV BU ux xaT Re xkJ Nd Nc Nb Na M9 xaS xkI M8 M7 M6 M5 M4 M3 M1 M0 BT BS BR BQ BP BO BN BM BL BK BJ BI BH BG BF BE BD BC uw uv uu ut xaR Rd Rc Rb Ra xkH MZ MY MX xaQ xkG MV MU xaP xkF MT xaO xkE MS xaN xkD MR MQ MP xaM xkC uW MO uV MN MM ML MK MJ MI BB Ao xaL xca xkB MG MF xaK xkA ME MD MC MB MA An xaJ xb9 xkz Mz xaI xky My xaH xkx zD Mx Mw zC Mu zB Mt xaG xkw Ms Mr Mq Mp Mo Mn Mm Ml Am xaF xb8 xkv Mj Mi xaE xku Mh Mg Mf Me Md xaD xkt Ma L9 L8 L7 L6 L5 L4 BA Bz By Bx Bw Bv Bu ur uq xaC QZ QY xks L3 L1 L0 LZ zy LY LX LW LV Bt Bs Br uo xaB QX xkr LU LS LQ LP LO LN LM LL Bq Bp um xaA QW xkq LK LJ LI LH LG LF xaz xkp zx LD xay xko LC LB LA Lz Ly Lx Bo Bn Bm Bl ul xax QV xkn zw Lw zu Lv Lu Ls Lr Lq zt zr xaw xkm Lp ji Lo Lm Ll Lk Lj Bj xav xkl Li zq zp xau xkk Lh Lg Lf Le xat xkj Lc K9 xas xki K8 K7 K6 K5 K4 K3 K2 K1 Bi Al uk xar xb7 QU xkh zm K0 xaq xkg KZ xap xkf KY KX KW Ak xao xb6 xke uU KV KU KT KS KQ Aj xan xb5 xkd KP KO KN KM KL tw Ai xam xb4 xkc zi KG KF KE KD rl KC Bh Bg Bf Be Bd uj xal QT xkb KB KA Kz Ky Kx zg Ag xak xb2 xka Kw Kv Ku Kt Ks Kr Ba Af xaj xb1 xj9 Kq xai xj8 Kp zf Ko Kn Km Kj Ki A9 ui xah QS xj7 Kh Kg Kf Ke Kd Kb Ka Ae xag xb0 xj6 J9 J8 J7 J6 J5 J4 A7 Ad xaf xbZ xj5 J3 xae xj4 J2 xad xj3 zd J1 J0 JZ JY JX A6 A5 A4 A3 A2 A1 AZ AY AX AW uh xac QR xj2 JW xab xj1 JV JU JT JS JR JQ xaa xj0 JP JO JN JM JL JK AV AU AT AS AR AQ Z9 xjZ JJ Z8 xjY JI JH JG Z7 xjX zb Z6 xjW JF Z5 xjV JE JD za JB Ac Z4 xbY xjU JA Z3 xjT Jz Jy Jx Jw Jv Ab Z2 xbX xjS Ju Jt Js Jr Jq Jp Jo Jn AO ug Z1 QQ xjR Jm Jl Jk Jj AN Aa Z0 xbW xjQ Ji Jh Jg Jf Je Jd z8 ZZ xbV xjP Jc ZY xjO Jb Ja I9 I8 I7 zZ ZX xbU xjN I6 ZW xjM I5 I4 I3 I2 ZV xjL ZU xjK I1 ZT xjJ I0 ZS xjI IZ ZR xjH IY IX IW IV IU IT IS IR AM AL uf ZQ QP xjG
end Go.Proofs.YtmhhnklkcmpdkaaGreatDoor