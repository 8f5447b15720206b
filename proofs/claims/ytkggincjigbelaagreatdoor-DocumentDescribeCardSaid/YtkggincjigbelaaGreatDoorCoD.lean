/- The resolved code of the functions of this seat, with directions, checked by the kernel. No condition. -/
import Derived.Test.YtkggincjigbelaaGreatDoorProg
import Derived.Test.YtkggincjigbelaaGreatDoorVaD
import Derived.KernelRfl
open Bool renaming and_eq_true -> aA, false_eq_true -> aK
open List renaming append_assoc -> av, append_nil -> aZ, cons_append -> aS, drop_zero -> bj, flatten_cons -> cT, length_append -> ac, length_cons -> ai, length_map -> aN, length_nil -> aw, length_replicate -> cj, map_append -> cE, map_cons -> aC, map_nil -> bH, mem_cons -> an, nil_append -> aF, not_mem_nil -> bU, replicate -> aD
open Nat renaming add_zero -> fN, le_refl -> aH, zero_add -> cg, zero_le -> bJ
open Option renaming bind_some -> cJ, getD_some -> aX, map_some -> bn, some -> aq
set_option maxRecDepth 100000
set_option linter.unusedVariables false
namespace Go.Proofs.YtkggincjigbelaaGreatDoor
open Tryz
open Go.Sy
abbrev xm(d s:Nat):SI:=⟨some d,none,.mov (.t s)⟩
abbrev xs(d:Nat)(o:SOp):SI:=⟨some d,none,o⟩
abbrev xi(d g:Nat)(b:Bool)(o:SOp):SI:=⟨some d,some (g,b),o⟩
abbrev om(d s:Nat):RI:= .op (xm d s) []
abbrev omk(d s:Nat):RI:= .op (xm d s) [s]
abbrev on(d:Nat)(o:SOp):RI:= .op (xs d o) []
abbrev oo(d:Nat)(o:SOp)(k:List Nat):RI:= .op (xs d o) k
abbrev ci(n:Int):Arg:= .c (.int .i64 n)
abbrev Fm(n d s:Nat):FI:=⟨n,true,xm d s⟩
abbrev Fs(n d:Nat)(o:SOp):FI:=⟨n,true,xs d o⟩
abbrev Fz(n d:Nat)(o:SOp):FI:=⟨n,false,xs d o⟩
abbrev Fi(n d g:Nat)(b:Bool)(o:SOp):FI:=⟨n,true,xi d g b o⟩
abbrev Ld(s:Nat):SOp:= .load 1 false (.t s)
abbrev Fa(n s:Nat):SOp:= .faddr n (.t s)
abbrev Ln(s:Nat):SOp:= .len false (.t s)
abbrev Ia(n a b:Nat):SOp:= .iaddrL n (.t a) (.t b)
abbrev Mv(s:Nat):SOp:= .mov (.t s)
abbrev Bb(o:BinOp)(a b:Nat):SOp:= .bin o (.t a) (.t b)
abbrev Bc(o:BinOp)(a:Nat)(n:Int):SOp:= .bin o (.t a) (ci n)
abbrev Ca(f:Nat)(l:List Arg):SOp:= .call (.f f) l
abbrev Pf(a b:Nat):SOp:= .pick (.t a) (.t b) (.c (.bool false))
abbrev Pt(a b:Nat):SOp:= .pick (.t a) (.c (.bool true)) (.t b)
abbrev So(l:List RI)(x:RC):RC:= .seq (.ops l) x
abbrev Kk(l:List Nat)(x:RC):RC:= .pre [.kill l] x
abbrev Kc(n:Nat)(x y:RC):RC:= .cond (.t n) x y
abbrev Fy(n d g:Nat)(b:Bool)(o:SOp):FI:=⟨n,false,xi d g b o⟩
abbrev Fr(n k a x:Nat):FI:=⟨n,false,⟨none,none,.store k (.t a) (.t x)⟩⟩
abbrev Sr(n a x:Nat)(k:List Nat):RI:= .op ⟨none,none,.store n (.t a) (.t x)⟩ k
abbrev Lt(n s:Nat):SOp:= .load n true (.t s)
abbrev Mc(n:Int):SOp:= .mov (ci n)
abbrev Mb(b:Bool):SOp:= .mov (.c (.bool b))
abbrev Bk(n:Nat)(x:RC):RC:= .block n x
abbrev Sq(x y:RC):RC:= .seq x y
abbrev Zq0:List SV:=[.int .i64 0,.str [],.int .i64 0,.byt [] .clip]
abbrev Zq1:List SV:=[.byt [] .clip,.lst 2 [] .clip]
abbrev Zq2:List SV:=[.str [],.int .i64 0,.int .i64 0,.int .i64 0,.int .i64 0,.lst 4 [] .clip,.lst 4 [] .clip]
abbrev Zq3:List SV:=[.int .i64 0,.str [],.int .i64 0,.int .i64 0]
def cs0:List UInt8:=[0,1,2,2,3,3,3,3,4,4,4,4,4,4,4,4,5,5,5,5,5,5,5,5,5,5,5,5,5,5,5,5,6,6,6,6,6,6,6,6,6,6,6,6,6,6,6,6,6,6,6,6,6,6,6,6,6,6,6,6,6,6,6,6,7,7,7,7,7,7,7,7,7,7,7,7,7,7,7,7,7,7,7,7,7,7,7,7,7,7,7,7,7,7,7,7,7,7,7,7,7,7,7,7,7,7,7,7,7,7,7,7,7,7,7,7,7,7,7,7,7,7,7,7,7,7,7,7,8,8,8,8,8,8,8,8,8,8,8,8,8,8,8,8,8,8,8,8,8,8,8,8,8,8,8,8,8,8,8,8,8,8,8,8,8,8,8,8,8,8,8,8,8,8,8,8,8,8,8,8,8,8,8,8,8,8,8,8,8,8,8,8,8,8,8,8,8,8,8,8,8,8,8,8,8,8,8,8,8,8,8,8,8,8,8,8,8,8,8,8,8,8,8,8,8,8,8,8,8,8,8,8,8,8,8,8,8,8,8,8,8,8,8,8,8,8,8,8,8,8,8,8,8,8,8,8]
def io:List SV:=[.int .u32 1116352408,.int .u32 1899447441,.int .u32 3049323471,.int .u32 3921009573,.int .u32 961987163,.int .u32 1508970993,.int .u32 2453635748,.int .u32 2870763221,.int .u32 3624381080,.int .u32 310598401,.int .u32 607225278,.int .u32 1426881987,.int .u32 1925078388,.int .u32 2162078206,.int .u32 2614888103,.int .u32 3248222580,.int .u32 3835390401,.int .u32 4022224774,.int .u32 264347078,.int .u32 604807628,.int .u32 770255983,.int .u32 1249150122,.int .u32 1555081692,.int .u32 1996064986,.int .u32 2554220882,.int .u32 2821834349,.int .u32 2952996808,.int .u32 3210313671,.int .u32 3336571891,.int .u32 3584528711,.int .u32 113926993,.int .u32 338241895,.int .u32 666307205,.int .u32 773529912,.int .u32 1294757372,.int .u32 1396182291,.int .u32 1695183700,.int .u32 1986661051,.int .u32 2177026350,.int .u32 2456956037,.int .u32 2730485921,.int .u32 2820302411,.int .u32 3259730800,.int .u32 3345764771,.int .u32 3516065817,.int .u32 3600352804,.int .u32 4094571909,.int .u32 275423344,.int .u32 430227734,.int .u32 506948616,.int .u32 659060556,.int .u32 883997877,.int .u32 958139571,.int .u32 1322822218,.int .u32 1537002063,.int .u32 1747873779,.int .u32 1955562222,.int .u32 2024104815,.int .u32 2227730452,.int .u32 2361852424,.int .u32 2428436474,.int .u32 2756734187,.int .u32 3204031479,.int .u32 3329325298]
instance:bd:=⟨fun
 |0=>some io
 |_=>none⟩
def Da:List RI:=[oo 4 (Mb false) [4]]
def W7:List RI:=[on 7 (Ca 11 []),oo 8 (.un .not (.t 7)) [7]]
def C9:List RI:=[on 4 (Mb false)]
def W6:List RI:=[omk 9 1,oo 10 (Ca 14 [.t 9,ci 1000]) [9],omk 11 0,oo 12 (Ca 37 [.t 11]) [11],oo 13 (Ca 36 [(.c (.str [97,99,109,101])),.t 10,.t 12]) [10,12],on 5 (.new (.rc Zq2)),Sr 7 5 13 [13]]
def W5:List RI:=[oo 14 (Lt 7 5) [5],oo 15 (Ca 38 [.t 14]) [14],oo 16 (Ca 25 [.t 15,ci 3]) [15],on 6 (.new (.rc Zq1)),Sr 2 6 16 [16]]
def W4:List FI:=[Fs 1 18 (Lt 2 6),Fz 0 17 (Ca 22 [ci 1,ci 1]),Fz 2 19 (Ca 34 [.t 17,.t 18]),Fs 3 20 (Bc .eql 19 0),Fm 4 21 20,Fi 6 23 21 true (Lt 2 6),Fy 5 22 21 true (Ca 22 [ci 2,ci 2]),Fy 7 24 21 true (Ca 34 [.t 22,.t 23]),Fi 8 25 21 true (Bc .eql 24 44),Fs 9 26 (Pf 21 25),Fm 10 4 26]
def r10:RC:=(So Da (Sq (So W7 (Kc 8 (Kk [0,1,8] (So C9 .ret)) (Kk [8] .skip))) (So W6 (So W5 (Sq (.flt [0,0,3,7,15,31,31,127,255,511,1023] [] W4 [6,17,18,19,20,21,22,23,24,25,26]) .ret)))))
def F10:FnC:=⟨r10,27,[.tmp 4],[],[]⟩
def W1:List RI:=[oo 0 (Mb false) [0]]
def W0:List RI:=[on 6 (Ca 22 [ci 0,ci 0]),on 1 (.new (.rc [.lst 2 [] .clip,.int .i64 0])),Sr 2 1 6 [6]]
def WZ:List RI:=[on 7 (.mkB (ci 32) (ci 32)),oo 8 (.build [.byt [] .clip,.int .i64 0] [(0,1,(.t 7)),(1,1,(ci 9))]) [7],oo 9 (Ca 15 [.t 8]) [8],omk 2 9]
def WY:List RI:=[om 10 2,oo 11 (.build Zq1 [(0,1,(.t 10))]) [10],on 12 (Ca 39 [ci 3]),oo 13 (Ca 28 [.t 11,ci 3,.t 12,ci 1,ci 1]) [11,12],on 3 (.new (.rc Zq1)),Sr 2 3 13 [13]]
def WX:List RI:=[om 15 2,oo 16 (Ca 16 [.t 15]) [15],omk 14 16,on 17 (.ext (.t 14) 0),oo 18 (.ext (.t 14) 1) [14],on 4 (.new (.rc [.byt [] .clip,.int .i64 0])),Sr 2 4 17 [17],omk 5 18]
def WW:List RI:=[om 19 2,oo 20 (Ln 19) [19],oo 21 (Bc .eql 20 39) [20],omk 22 21,.grp 22 true [(xi 23 22 true (Fa 1 3)),(xi 24 22 true (Ld 23)),(xi 25 22 true (Ln 24)),(xi 26 22 true (Bc .eql 25 1))] [23,24,25],oo 27 (Pf 22 26) [22,26],omk 28 27,.grp 28 true [(xi 29 28 true (Lt 2 1)),(xi 30 28 true (Lt 2 3)),(xi 31 28 true (Ca 34 [.t 29,.t 30])),(xi 32 28 true (Bc .eql 31 0))] [3,29,30,31],oo 33 (Pf 28 32) [28,32],omk 34 33,.grp 34 true [(xi 35 34 true (Mv 5)),(xi 36 34 true (Bc .eql 35 0))] [5,35],oo 37 (Pf 34 36) [34,36],omk 38 37,.grp 38 true [(xi 39 38 true (Fa 1 4)),(xi 40 38 true (Ld 39)),(xi 41 38 true (Bc .eql 40 9))] [4,39,40],oo 42 (Pf 38 41) [38,41],omk 43 42,.grp 43 true [(xi 44 43 true (Lt 2 1)),(xi 45 43 true (Mv 2)),(xi 46 43 true (.build Zq1 [(0,1,(.t 45))])),(xi 47 43 true (Ca 34 [.t 44,.t 46])),(xi 48 43 true (Bc .eql 47 44))] [1,2,44,45,46,47],oo 49 (Pf 43 48) [43,48],omk 0 49]
def r11:RC:=(So W1 (So W0 (So WZ (So WY (So WX (So WW .ret))))))
def F11:FnC:=⟨r11,50,[.tmp 0],[],[]⟩
def pt:List RI:=[oo 4 (Mc 0) [4]]
def WV:List RI:=[om 6 1,oo 7 (Bc .lss 6 1) [6]]
def gJ:List RI:=[on 4 (Mc 0)]
def WU:List RI:=[omk 8 0,om 9 1,oo 10 (Bb .rem 8 9) [8,9],omk 5 10]
def WT:List RI:=[om 11 5,oo 12 (Bc .lss 11 0) [11]]
def WS:List RI:=[omk 13 5,omk 14 1,oo 15 (Bb .add 13 14) [13,14],omk 5 15]
def WR:List RI:=[omk 16 5,omk 4 16]
def r14:RC:=(So pt (Sq (So WV (Kc 7 (Kk [0,1,7] (So gJ .ret)) (Kk [7] .skip))) (So WU (Sq (So WT (Kc 12 (Kk [12] (.ops WS)) (Kk [1,12] .skip))) (So WR .ret)))))
def F14:FnC:=⟨r14,17,[.tmp 4],[],[]⟩
def vB:List RI:=[oo 1 (.box (.t 0)) [0],oo 2 (.mov (.c (.byt [] .clip))) [2]]
def WQ:List RI:=[on 4 (Fa 0 1),oo 5 (Ld 4) [4],oo 6 (Ln 5) [5],oo 7 (Bc .neq 6 32) [6],omk 8 7,.grp 8 false [(xi 9 8 false (Fa 1 1)),(xi 10 8 false (Ld 9)),(xi 11 8 false (Bc .lss 10 0))] [9,10],oo 12 (Pt 8 11) [8,11],omk 13 12,.grp 13 false [(xi 14 13 false (Fa 1 1)),(xi 15 13 false (Ld 14)),(xi 16 13 false (Bc .gtr 15 1099511627776))] [14,15],oo 17 (Pt 13 16) [13,16]]
def sD:List RI:=[on 2 (.mov (.c (.byt [] .clip)))]
def WP:List FI:=[Fs 1 19 (Fa 0 1),Fs 2 20 (Ld 19),Fz 0 18 (Ca 40 [(.c (.byt [] .clip)),ci 1,ci 22]),Fz 3 21 (.app [.u8 0] 1 (.t 18) (.t 20)),Fm 4 3 21]
def WO:List RI:=[omk 22 3,oo 23 (Fa 1 1) [1],oo 24 (Ld 23) [23],oo 25 (Ca 40 [.t 22,ci 6,.t 24]) [22,24],omk 2 25]
def r15:RC:=(So vB (Sq (So WQ (Kc 17 (Kk [1,17] (So sD .ret)) (Kk [17] .skip))) (Sq (.flt [0,0,2,7,15] [121] WP [18,19,20,21]) (So WO .ret))))
def F15:FnC:=⟨r15,26,[.tmp 2],[],[]⟩
def Nr:List RI:=[on 2 (.new (.rc [.byt [] .clip,.int .i64 0])),oo 3 (Mc 0) [3]]
def WN:List RI:=[omk 7 0,oo 8 (Ca 41 [.t 7]) [7],omk 4 8]
def WM:List RI:=[om 9 4,oo 10 (Ca 42 [.t 9,ci 1]) [9],omk 5 10]
def WL:List RI:=[om 11 4,oo 12 (Ca 43 [.t 11,ci 32]) [11],oo 13 (.build [.byt [] .clip,.int .i64 0] [(0,1,(.t 12))]) [12],on 6 (.new (.rc [.byt [] .clip,.int .i64 0])),Sr 2 6 13 [13]]
def WK:List RI:=[om 14 4,oo 15 (Ca 42 [.t 14,ci 6]) [14],on 16 (Fa 1 6),Sr 1 16 15 [15,16]]
def WJ:List RI:=[omk 17 4,oo 18 (Ca 44 [.t 17]) [17],oo 19 (Bc .neq 18 0) [18],omk 20 19,.grp 20 false [(xi 21 20 false (Mv 5)),(xi 22 20 false (Bc .neq 21 22))] [5,21],oo 23 (Pt 20 22) [20,22],omk 24 23,.grp 24 false [(xi 25 24 false (Fa 1 6)),(xi 26 24 false (Ld 25)),(xi 27 24 false (Bc .gtr 26 1099511627776))] [25,26],oo 28 (Pt 24 27) [24,27]]
def Nq:List RI:=[on 29 (.build [.byt [] .clip,.int .i64 0] []),Sr 2 2 29 [29],on 3 (Mc 30)]
def Np:List RI:=[oo 30 (Lt 2 6) [6],Sr 2 2 30 [30],on 3 (Mc 0)]
def r16:RC:=(So Nr (So WN (So WM (So WL (So WK (Sq (So WJ (Kc 28 (Kk [6,28] (So Nq .ret)) (Kk [28] .skip))) (So Np .ret)))))))
def F16:FnC:=⟨r16,31,[.cell 2 2 true,.tmp 3],[],[]⟩
def No:List RI:=[oo 2 (.box (.t 0)) [0],oo 3 (.box (.t 1)) [1],oo 4 (Mb false) [4]]
def WI:List RI:=[on 5 (Fa 1 2),oo 6 (Ld 5) [5],on 7 (Fa 1 3),oo 8 (Ld 7) [7],oo 9 (Bb .eql 6 8) [6,8],omk 10 9,.grp 10 true [(xi 11 10 true (Fa 0 2)),(xi 12 10 true (Ld 11)),(xi 13 10 true (Fa 0 3)),(xi 14 10 true (Ld 13)),(xi 15 10 true (Ca 18 [.t 12,.t 14]))] [2,3,11,12,13,14],oo 16 (Pf 10 15) [10,15],omk 4 16]
def r17:RC:=(So No (So WI .ret))
def F17:FnC:=⟨r17,17,[.tmp 4],[],[]⟩
def WH:List RI:=[om 6 0,oo 7 (Ln 6) [6],om 8 1,oo 9 (Ln 8) [8],oo 10 (Bb .neq 7 9) [7,9]]
def C8:List RI:=[on 5 (Mc 0)]
def WG:List RI:=[om 11 5,om 12 0,oo 13 (Ln 12) [12],oo 14 (Bb .lss 11 13) [11,13]]
def WF:List FI:=[Fm 0 17 0,Fm 1 18 5,Fs 2 19 (Ia 1 17 18),Fs 3 20 (Ld 19),Fm 4 21 1,Fm 5 22 5,Fs 6 23 (Ia 1 21 22),Fs 7 24 (Ld 23),Fs 8 25 (Bb .neq 20 24)]
def WE:List RI:=[omk 15 5,oo 16 (Bc .add 15 1) [15],omk 5 16]
def NL:RC:=(Sq (So WG (Kc 14 (Kk [14] .skip) (Kk [0,1,5,14] (.exit 0)))) (Sq (Bk 1 (Sq (.flt [0,0,3,7,0,0,48,112,255] [] WF [17,18,19,20,21,22,23,24]) (Kc 25 (Kk [0,1,5,25] (So C9 .ret)) (Kk [25] .skip)))) (.ops WE)))
def Nn:RC:=NL
def WD:List RI:=[on 4 (Mb true)]
def r18:RC:=(So Da (Sq (So WH (Kc 10 (Kk [0,1,10] (So C9 .ret)) (Kk [10] .skip))) (Sq (So C8 (Bk 0 (.loop Nn))) (So WD .ret))))
def F18:FnC:=⟨r18,26,[.tmp 4],[],[]⟩
def WC:List RI:=[omk 7 0,oo 8 (Ca 46 [.t 7]) [7],omk 4 8]
def WB:List RI:=[om 9 4,oo 10 (Ca 47 [.t 9,ci 1]) [9],omk 5 10]
def WA:List RI:=[on 6 (.new (.rc [.byt [] .clip,.int .i64 0]))]
def Wz:List RI:=[om 11 4,oo 12 (Ca 48 [.t 11,ci 32]) [11],on 13 (Fa 0 6),Sr 1 13 12 [12,13]]
def Wy:List RI:=[om 14 4,oo 15 (Ca 47 [.t 14,ci 6]) [14],on 16 (Fa 1 6),Sr 1 16 15 [15,16]]
def Wx:List RI:=[omk 17 5,oo 18 (Bc .neq 17 22) [17],omk 19 18,.grp 19 false [(xi 20 19 false (Mv 4)),(xi 21 19 false (Ca 49 [.t 20])),(xi 22 19 false (Bc .neq 21 0))] [4,20,21],oo 23 (Pt 19 22) [19,22],omk 24 23,.grp 24 false [(xi 25 24 false (Fa 1 6)),(xi 26 24 false (Ld 25)),(xi 27 24 false (Bc .gtr 26 1099511627776))] [25,26],oo 28 (Pt 24 27) [24,27]]
def r20:RC:=(So Nr (So WC (So WB (So WA (So Wz (So Wy (Sq (So Wx (Kc 28 (Kk [6,28] (So Nq .ret)) (Kk [28] .skip))) (So Np .ret))))))))
def F20:FnC:=⟨r20,31,[.cell 2 2 true,.tmp 3],[],[]⟩
def Ww:List RI:=[on 4 (.new (.rc [.lst 2 [] .clip,.int .i64 0]))]
def Wv:List RI:=[on 5 (.new (.rc [.lst 2 [] .clip,.int .i64 0]))]
def kA:List RI:=[on 6 (Mc 0)]
def Wu:List RI:=[om 7 6,om 8 0,oo 9 (Ca 14 [.t 8,ci 3]) [8],oo 10 (Bb .leq 7 9) [7,9]]
def Wt:List FI:=[Fs 0 13 (Fa 0 5),Fs 1 14 (Ld 13),Fm 2 15 6,Fs 3 16 (.bin .mul (ci 2) (.t 15)),Fs 4 17 (.bin .add (ci 3) (.t 16)),Fm 5 18 6,Fs 6 19 (.bin .mul (ci 2) (.t 18)),Fs 7 20 (.bin .add (ci 3) (.t 19)),Fz 8 21 (Ca 39 [.t 20]),Fz 9 22 (Ca 50 [.t 21,ci 1]),Fs 10 23 (.build [.int .i64 0,.byt [] .clip] [(0,1,(.t 17)),(1,1,(.t 22))]),Fs 11 24 (.lit 2 [.t 23]),Fz 12 25 (.app [.int .i64 0,.byt [] .clip] 32 (.t 14) (.t 24)),Fs 13 26 (Fa 0 5),Fr 14 1 26 25]
def Nm:List RI:=[omk 11 6,oo 12 (Bc .add 11 1) [11],omk 6 12]
def NK:RC:=(Sq (So Wu (Kc 10 (Kk [10] .skip) (Kk [0,6,10] (.exit 0)))) (Sq (Bk 1 (.flt [0,1,0,4,12,0,32,96,224,480,1020,2044,4095,8191,16383] [125] Wt [13,14,15,16,17,18,19,20,21,22,23,24,25,26])) (.ops Nm)))
def Ws:RC:=NK
def Wr:List RI:=[omk 27 1,on 28 (Fa 0 5),oo 29 (Ld 28) [28],oo 30 (Ln 29) [29],oo 31 (Ca 14 [.t 27,.t 30]) [27,30],oo 32 (.bin .add (ci 1) (.t 31)) [31],on 33 (Fa 1 5),Sr 1 33 32 [32,33]]
def Wq:List RI:=[oo 34 (Lt 2 5) [5],Sr 2 4 34 [34]]
def r22:RC:=(So Ww (So Wv (Sq (So kA (Bk 0 (.loop Ws))) (So Wr (So Wq .ret)))))
def F22:FnC:=⟨r22,35,[.cell 4 2 true],[],[]⟩
def pr:List RI:=[oo 1 (.box (.t 0)) [0],oo 2 (Mc 0) [2]]
def Wp:List RI:=[on 5 (Fa 0 1),oo 6 (Ld 5) [5],oo 7 (Ln 6) [6],oo 8 (Bc .gtr 7 4) [7]]
def pq:List RI:=[on 2 (Mc 4)]
def Wo:List RI:=[on 9 (Fa 0 1),oo 10 (Ld 9) [9],on 11 (Ln 10),on 12 (Mc 0)]
def Nl:List RI:=[on 13 (Bb .lss 12 11)]
def Wn:List RI:=[om 14 12,on 15 (Ia 2 10 12),oo 16 (Lt 2 15) [15],on 4 (.new (.rc [.int .i64 0,.byt [] .clip])),omk 3 14,Sr 2 4 16 [16]]
def Wm:List RI:=[on 17 (Fa 0 4),oo 18 (Ld 17) [17],oo 19 (Bc .lss 18 1) [18],omk 20 19,.grp 20 false [(xi 21 20 false (Fa 0 4)),(xi 22 20 false (Ld 21)),(xi 23 20 false (Bc .gtr 22 1000))] [21,22],oo 24 (Pt 20 23) [20,23],omk 25 24,.grp 25 false [(xi 26 25 false (Fa 1 4)),(xi 27 25 false (Ld 26)),(xi 28 25 false (Ln 27)),(xi 29 25 false (Bc .neq 28 17))] [26,27,28],oo 30 (Pt 25 29) [25,29]]
def gw:List RI:=[on 2 (Mc 1)]
def Wj:List FI:=[Fm 0 31 3,Fs 1 32 (Bc .gtr 31 0),Fm 2 33 32,Fi 3 34 33 true (Fa 0 4),Fi 4 35 33 true (Ld 34),Fi 5 36 33 true (Fa 0 1),Fi 6 37 33 true (Ld 36),Fi 7 38 33 true (Mv 3),Fi 8 39 33 true (Bc .sub 38 1),Fi 9 40 33 true (Ia 2 37 39),Fi 10 41 33 true (Fa 0 40),Fi 11 42 33 true (Ld 41),Fi 12 43 33 true (Bb .leq 35 42),Fs 13 44 (Pf 33 43)]
def Nk:List RI:=[on 2 (Mc 41)]
def Ie:List RI:=[oo 45 (Bc .add 12 1) [12],omk 12 45]
def yr:RC:=(.post (So Nl (Sq (Kc 13 (Kk [13] .skip) (Kk [10,11,12,13] (.exit 0))) (Sq (Bk 1 (So Wn (Sq (So Wm (Kc 30 (Kk [1,3,4,10,11,12,30] (So gw .ret)) (Kk [30] .skip))) (Sq (.flt [0,1,3,7,15,7,39,7,135,487,999,2023,4095,8191] [] Wj [3,4,31,32,33,34,35,36,37,38,39,40,41,42,43]) (Kc 44 (Kk [1,10,11,12,44] (So Nk .ret)) (Kk [44] .skip)))))) (.ops Ie)))) [.gc [104]])
def kQ:RC:=yr
def Ic:List RI:=[on 46 (Fa 1 1),oo 47 (Ld 46) [46],oo 48 (Bc .lss 47 1) [47],omk 49 48,.grp 49 false [(xi 50 49 false (Fa 1 1)),(xi 51 49 false (Ld 50)),(xi 52 49 false (Fa 0 1)),(xi 53 49 false (Ld 52)),(xi 54 49 false (Ln 53)),(xi 55 49 false (Bb .gtr 51 54))] [1,50,51,52,53,54],oo 56 (Pt 49 55) [49,55]]
def iC:List RI:=[on 2 (Mc 0)]
def r23:RC:=(So pr (Sq (So Wp (Kc 8 (Kk [1,8] (So pq .ret)) (Kk [8] .skip))) (Sq (So Wo (Bk 0 (.loop kQ))) (Sq (So Ic (Kc 56 (Kk [56] (So gw .ret)) (Kk [56] .skip))) (So iC .ret)))))
def F23:FnC:=⟨r23,57,[.tmp 2],[],[]⟩
def Wi:List RI:=[on 4 (.new (.rc Zq1))]
def Wh:List RI:=[omk 7 0,oo 8 (.build Zq1 [(0,1,(.t 7))]) [7],on 5 (.new (.rc Zq1)),Sr 2 5 8 [8]]
def Wg:List RI:=[om 9 6,oo 10 (Bc .lss 9 3) [9]]
def Wf:List RI:=[om 13 1,om 14 6,oo 15 (.toInt .u64 (.t 14)) [14],oo 16 (Bb .shr 13 15) [13,15],oo 17 (Bc .and 16 1) [16],oo 18 (Bc .eql 17 1) [17]]
def We:List FI:=[Fs 0 19 (Lt 2 5),Fm 1 20 6,Fs 2 21 (.bin .mul (ci 2) (.t 20)),Fs 3 22 (.bin .add (ci 3) (.t 21)),Fm 4 23 6,Fs 5 24 (.bin .mul (ci 2) (.t 23)),Fs 6 25 (.bin .add (ci 3) (.t 24)),Fm 8 27 6,Fs 9 28 (Bc .and 27 1),Fz 7 26 (Ca 39 [.t 25]),Fz 10 29 (Ca 29 [.t 19,.t 22,.t 26,ci 1,.t 28]),Fr 11 2 5 29]
def NJ:RC:=(Sq (So Wg (Kc 10 (Kk [10] .skip) (Kk [1,6,10] (.exit 0)))) (Sq (Bk 1 (So Wf (Kc 18 (Kk [18] (.flt [0,0,2,6,0,16,48,112,0,256,1023,2047] [] We [19,20,21,22,23,24,25,26,27,28,29])) (Kk [18] .skip)))) (.ops Nm)))
def kX:RC:=NJ
def Wc:List RI:=[oo 30 (Lt 2 5) [5],Sr 2 4 30 [30]]
def r25:RC:=(So Wi (So Wh (Sq (So kA (Bk 0 (.loop kX))) (So Wc .ret))))
def F25:FnC:=⟨r25,31,[.cell 4 2 true],[],[]⟩
def Nj:List RI:=[oo 5 (.box (.t 0)) [0],on 10 (.new (.rc Zq1))]
def Wb:List RI:=[omk 12 1,omk 13 2,omk 14 3,omk 15 4,on 16 (Fa 0 5),oo 17 (Ld 16) [16],oo 18 (Ca 55 [.t 13,.t 14,.t 15,.t 17]) [13,14,15,17],oo 19 (.build [.int .i64 0,.byt [] .clip] [(0,1,(.t 12)),(1,1,(.t 18))]) [12,18],on 11 (.new (.rc [.int .i64 0,.byt [] .clip])),Sr 2 11 19 [19]]
def Wa:List FI:=[Fs 0 20 (Fa 1 5),Fs 1 21 (Ld 20),Fs 3 23 (Lt 2 11),Fs 4 24 (.lit 2 [.t 23]),Fz 2 22 (Ca 56 [.t 21]),Fz 5 25 (.app [.int .i64 0,.byt [] .clip] 32 (.t 22) (.t 24)),Fs 6 26 (Fa 1 5),Fr 7 1 26 25]
def V9:List RI:=[oo 27 (Lt 2 5) [5],Sr 2 10 27 [27]]
def r28:RC:=(So Nj (So Wb (Sq (.flt [0,1,3,0,8,31,63,127] [125] Wa [11,20,21,22,23,24,25,26]) (So V9 .ret))))
def F28:FnC:=⟨r28,28,[.cell 10 2 true],[],[]⟩
def V8:List RI:=[omk 12 1,omk 13 2,omk 14 3,omk 15 4,on 16 (Fa 0 5),oo 17 (Ld 16) [16],oo 18 (Ca 57 [.t 13,.t 14,.t 15,.t 17]) [13,14,15,17],oo 19 (.build [.int .i64 0,.byt [] .clip] [(0,1,(.t 12)),(1,1,(.t 18))]) [12,18],on 11 (.new (.rc [.int .i64 0,.byt [] .clip])),Sr 2 11 19 [19]]
def V7:List FI:=[Fs 0 20 (Fa 0 5),Fs 1 21 (Ld 20),Fs 2 22 (.lit 2 []),Fs 3 23 (Fa 1 5),Fs 4 24 (Ld 23),Fs 6 26 (Lt 2 11),Fs 7 27 (.lit 2 [.t 26]),Fz 5 25 (.app [.int .i64 0,.byt [] .clip] 32 (.t 22) (.t 24)),Fz 8 28 (.app [.int .i64 0,.byt [] .clip] 32 (.t 25) (.t 27)),Fs 9 29 (.build Zq1 [(0,1,(.t 21)),(1,1,(.t 28))]),Fr 10 2 10 29]
def r29:RC:=(So Nj (So V8 (Sq (.flt [0,1,0,0,8,28,0,64,252,511,1023] [125,128] V7 [5,11,20,21,22,23,24,25,26,27,28,29]) .ret)))
def F29:FnC:=⟨r29,30,[.cell 10 2 true],[],[]⟩
def Ni:List RI:=[oo 2 (.box (.t 0)) [0],oo 3 (.box (.t 1)) [1],oo 4 (Mc 0) [4]]
def V6:List RI:=[on 8 (Lt 2 2),oo 9 (Ca 23 [.t 8]) [8],omk 5 9]
def V5:List RI:=[om 10 5,oo 11 (Bc .neq 10 0) [10]]
def V4:List RI:=[omk 12 5,omk 4 12]
def V3:List RI:=[on 13 (Fa 1 3),oo 14 (Ld 13) [13],oo 15 (Ln 14) [14],oo 16 (Bc .gtr 15 4) [15]]
def V2:List RI:=[on 4 (Mc 4)]
def V1:List RI:=[on 18 (Fa 0 3),oo 19 (Ld 18) [18],oo 20 (Ca 61 [.t 19]) [19],omk 17 20,on 21 (.ext (.t 17) 0),oo 22 (.ext (.t 17) 1) [17],on 6 (.new (.rc Zq2)),Sr 7 6 21 [6,21],omk 7 22]
def V0:List RI:=[om 23 7,oo 24 (Bc .neq 23 0) [23]]
def VZ:List RI:=[on 26 (Fa 0 3),oo 27 (Ld 26) [26],oo 28 (Ca 16 [.t 27]) [27],omk 25 28,oo 29 (.ext (.t 25) 0) [29],oo 30 (.ext (.t 25) 1) [25],omk 7 30]
def VY:List RI:=[om 31 7,oo 32 (Bc .neq 31 0) [31]]
def Ib:List RI:=[omk 33 7,omk 4 33]
def H9:List FI:=[Fs 0 34 (Lt 2 2),Fs 1 35 (Lt 2 3),Fs 4 38 (Fa 1 2),Fs 5 39 (Ld 38),Fz 2 36 (Ca 32 [.t 34,.t 35]),Fs 3 37 (Ln 36),Fs 6 40 (Bb .lss 37 39)]
def H8:List RI:=[on 4 (Mc 44)]
def r34:RC:=(So Ni (Sq (So V6 (So V5 (Kc 11 (Kk [2,3,11] (So V4 .ret)) (Kk [5,11] .skip)))) (Sq (So V3 (Kc 16 (Kk [2,3,16] (So V2 .ret)) (Kk [16] .skip))) (So V1 (Sq (So V0 (Kc 24 (Kk [7,24] (.ops VZ)) (Kk [24] .skip))) (Sq (So VY (Kc 32 (Kk [2,3,32] (So Ib .ret)) (Kk [7,32] .skip))) (Sq (Sq (.flt [0,0,3,7,0,16,63] [] H9 [2,3,34,35,36,37,38,39]) (Kc 40 (Kk [40] (So H8 .ret)) (Kk [40] .skip))) (So gJ .ret))))))))
def F34:FnC:=⟨r34,41,[.tmp 4],[],[]⟩
def VX:List RI:=[on 6 (.new (.rc Zq2))]
def VW:List RI:=[omk 10 0,omk 11 1,oo 12 (.build Zq2 [(0,1,(.t 10)),(1,1,(.t 11)),(4,1,(ci 1099511627776))]) [10,11],on 7 (.new (.rc Zq2)),Sr 7 7 12 [12]]
def VV:List RI:=[omk 13 2,on 14 (Ln 13),on 15 (Mc 0)]
def VU:List RI:=[on 16 (Bb .lss 15 14)]
def VT:List RI:=[on 17 (Ia 4 13 15),oo 18 (Lt 4 17) [17],on 9 (.new (.rc Zq0)),Sr 4 9 18 [18]]
def VS:List RI:=[on 19 (Lt 4 9),oo 20 (Ca 63 [.t 19]) [19],oo 21 (Bc .eql 20 0) [20],omk 22 21,.grp 22 true [(xi 23 22 true (Fa 0 9)),(xi 24 22 true (Ld 23)),(xi 25 22 true (Bc .neq 24 4))] [23,24],oo 26 (Pf 22 25) [22,25]]
def VR:List FI:=[Fs 0 27 (Fa 5 7),Fs 1 28 (Ld 27),Fs 2 29 (Fa 0 9),Fs 3 30 (Ld 29),Fs 4 31 (Fa 1 9),Fs 5 32 (Ld 31),Fs 6 33 (Fa 2 9),Fs 7 34 (Ld 33),Fs 8 35 (Lt 4 9),Fz 9 36 (Ca 65 [.t 35]),Fz 10 37 (Ca 64 [ci 1,.t 36]),Fs 11 38 (.build Zq0 [(0,1,(.t 30)),(1,1,(.t 32)),(2,1,(.t 34)),(3,1,(.t 37))]),Fs 12 39 (.lit 4 [.t 38]),Fz 13 40 (.appO Zq0 56 (.t 28) (.t 39)),Fs 14 41 (Fa 5 7),Fr 15 1 41 40]
def VQ:List RI:=[oo 42 (Bc .add 15 1) [15],omk 15 42]
def NI:RC:=(.post (So VU (Sq (Kc 16 (Kk [16] .skip) (Kk [13,14,15,16] (.exit 0))) (Sq (Bk 1 (So VT (So VS (Kc 26 (Kk [26] (.flt [0,1,0,4,0,16,0,64,0,256,768,2044,4092,8191,16383,32767] [140] VR [9,27,28,29,30,31,32,33,34,35,36,37,38,39,40,41])) (Kk [9,26] .skip))))) (.ops VQ)))) [.gc [109]])
def Nh:RC:=NI
def VP:List RI:=[on 43 (Fa 5 7),oo 44 (Ld 43) [43],oo 45 (Ca 66 [.t 44,(.f 67)]) [44,45]]
def H7:List RI:=[on 46 (Fa 5 7),oo 47 (Ld 46) [46],oo 48 (Ca 68 [.t 47,(.f 69)]) [47],on 49 (Fa 5 7),Sr 1 49 48 [48,49]]
def H6:List RI:=[oo 50 (Lt 7 7) [7],Sr 7 6 50 [50]]
def r36:RC:=(So VX (So VW (Sq (So VV (Bk 0 (.loop Nh))) (So VP (So H7 (So H6 .ret))))))
def F36:FnC:=⟨r36,51,[.cell 6 7 true],[0],[]⟩
def VO:List RI:=[oo 2 (.mov (.c (.lst 4 [] .clip))) [2]]
def VN:List RI:=[omk 10 0,oo 11 (Ca 51 [.t 10,ci 200]) [10],omk 3 11]
def VM:List RI:=[on 4 (.mov (.c (.lst 4 [] .clip)))]
def Ng:List RI:=[on 5 (Mc 1)]
def VL:List RI:=[om 12 5,oo 13 (Bc .leq 12 4) [12]]
def VK:List RI:=[om 16 3,oo 17 (Ca 52 [.t 16,ci 3]) [16],omk 6 17]
def VJ:List RI:=[om 18 5,oo 19 (Bc .eql 18 1) [18],omk 20 19,.grp 20 false [(xi 21 20 false (Mv 5)),(xi 22 20 false (Bc .eql 21 3))] [21],oo 23 (Pt 20 22) [20,22]]
def VI:List RI:=[om 24 3,oo 25 (Ca 52 [.t 24,ci 2]) [24],oo 26 (.bin .add (ci 1) (.t 25)) [25],omk 6 26]
def VH:List RI:=[om 27 6,oo 28 (Bc .gtr 27 0) [27]]
def VG:List RI:=[om 31 3,om 32 5,oo 33 (Ca 70 [.t 31,.t 32]) [31,32],on 7 (.new (.rc Zq0)),Sr 4 7 33 [33]]
def H5:List RI:=[on 8 (Mb false)]
def xe:List RI:=[on 9 (Mc 0)]
def H4:List RI:=[om 34 9,om 35 4,oo 36 (Ln 35) [35],oo 37 (Bb .lss 34 36) [34,36]]
def H3:List FI:=[Fm 0 40 8,Fm 1 41 40,Fi 2 42 41 false (Mv 4),Fi 3 43 41 false (Mv 9),Fi 4 44 41 false (Ia 4 42 43),Fi 5 45 41 false (Fa 0 44),Fi 6 46 41 false (Ld 45),Fi 7 47 41 false (Fa 0 7),Fi 8 48 41 false (Ld 47),Fi 9 49 41 false (Bb .eql 46 48),Fi 10 50 41 false (Mv 49),Fi 11 51 50 true (Mv 4),Fi 12 52 50 true (Mv 9),Fi 13 53 50 true (Ia 4 51 52),Fi 14 54 50 true (Fa 1 53),Fi 15 55 50 true (Ld 54),Fi 16 56 50 true (Fa 1 7),Fi 17 57 50 true (Ld 56),Fi 18 58 50 true (Bb .eql 55 57),Fi 19 59 41 false (Pf 50 58),Fs 20 60 (Pt 41 59),⟨21,false,(xm 8 60)⟩]
def H2:List RI:=[omk 38 9,oo 39 (Bc .add 38 1) [38],omk 9 39]
def yq:RC:=(Sq (So H4 (Kc 37 (Kk [37] .skip) (Kk [9,37] (.exit 4)))) (Sq (Bk 5 (.flt [0,1,3,3,15,31,63,3,131,511,1023,2047,2047,8191,16383,32767,2047,67583,262143,524287,1048575,2097151] [] H3 [40,41,42,43,44,45,46,47,48,49,50,51,52,53,54,55,56,57,58,59,60])) (.ops H2)))
def xd:RC:=yq
def H1:List RI:=[omk 61 8,oo 62 (.un .not (.t 61)) [61]]
def HZ:List RI:=[omk 63 4,oo 64 (Lt 4 7) [7],oo 65 (.lit 4 [.t 64]) [64],oo 66 (.app Zq0 56 (.t 63) (.t 65)) [63,65],omk 4 66]
def HY:List RI:=[omk 29 6,oo 30 (Bc .sub 29 1) [29],omk 6 30]
def yo:RC:=(.post (Sq (So VH (Kc 28 (Kk [28] .skip) (Kk [6,28] (.exit 2)))) (Sq (Bk 3 (So VG (So H5 (Sq (So xe (Bk 4 (.loop xd))) (So H1 (Kc 62 (Kk [62] (.ops HZ)) (Kk [7,62] .skip))))))) (.ops HY))) [.gc [107],.tok 4 104])
def xc:RC:=yo
def HX:List RI:=[omk 14 5,oo 15 (Bc .add 14 1) [14],omk 5 15]
def yn:RC:=(.post (Sq (So VL (Kc 13 (Kk [13] .skip) (Kk [3,5,13] (.exit 0)))) (Sq (Bk 1 (So VK (Sq (So VJ (Kc 23 (Kk [6,23] (.ops VI)) (Kk [23] .skip))) (Bk 2 (.pre [.tok 4 104] (.loop xc)))))) (.ops HX))) [.gc [107],.tok 4 104])
def oT:RC:=yn
def HW:List RI:=[omk 67 4,omk 2 67]
def r37:RC:=(So VO (So VN (So VM (Sq (So Ng (Bk 0 (.pre [.tok 4 104] (.loop oT)))) (So HW .ret)))))
def F37:FnC:=⟨r37,68,[.tmp 2],[],[]⟩
def VF:List RI:=[on 8 (Lt 7 1),oo 9 (Ca 71 [.t 8]) [8],oo 10 (Bc .neq 9 0) [9]]
def VE:List RI:=[on 11 (Ca 40 [(.c (.byt [] .clip)),ci 1,ci 21]),omk 3 11]
def VD:List RI:=[omk 12 3,on 13 (Fa 0 1),oo 14 (Ld 13) [13],oo 15 (.s2b (.t 14)) [14],oo 16 (Ca 72 [.t 12,.t 15]) [12,15],omk 3 16]
def VC:List FI:=[Fm 0 17 3,Fs 1 18 (Fa 1 1),Fs 2 19 (Ld 18),Fs 4 21 (Fa 2 1),Fs 5 22 (Ld 21),Fz 3 20 (Ca 40 [.t 17,ci 4,.t 19]),Fz 6 23 (Ca 40 [.t 20,ci 4,.t 22]),⟨7,false,(xm 3 23)⟩]
def VB:List FI:=[Fm 0 24 3,Fs 1 25 (Fa 3 1),Fs 2 26 (Ld 25),Fs 4 28 (Fa 4 1),Fs 5 29 (Ld 28),Fz 3 27 (Ca 40 [.t 24,ci 6,.t 26]),Fz 6 30 (Ca 40 [.t 27,ci 6,.t 29]),⟨7,false,(xm 3 30)⟩]
def VA:List RI:=[omk 31 3,on 32 (Fa 5 1),oo 33 (Ld 32) [32],oo 34 (Ln 33) [33],oo 35 (Ca 40 [.t 31,ci 1,.t 34]) [31,34],omk 3 35]
def Vz:List RI:=[on 36 (Fa 5 1),oo 37 (Ld 36) [36],on 38 (Ln 37),on 39 (Mc 0)]
def Vy:List RI:=[on 40 (Bb .lss 39 38)]
def HV:List RI:=[on 41 (Ia 4 37 39),oo 42 (Lt 4 41) [41],on 5 (.new (.rc Zq0)),Sr 4 5 42 [42]]
def HU:List FI:=[Fm 0 43 3,Fs 1 44 (Fa 0 5),Fs 2 45 (Ld 44),Fs 4 47 (Fa 1 5),Fs 5 48 (Ld 47),Fs 6 49 (.s2b (.t 48)),Fz 3 46 (Ca 40 [.t 43,ci 1,.t 45]),Fz 7 50 (Ca 72 [.t 46,.t 49]),⟨8,false,(xm 3 50)⟩]
def HT:List FI:=[Fm 0 51 3,Fs 1 52 (Fa 2 5),Fs 2 53 (Ld 52),Fs 4 55 (Fa 3 5),Fs 5 56 (Ld 55),Fz 3 54 (Ca 40 [.t 51,ci 4,.t 53]),Fz 6 57 (.app [.u8 0] 1 (.t 54) (.t 56)),⟨7,false,(xm 3 57)⟩]
def HS:List RI:=[oo 58 (Bc .add 39 1) [39],omk 39 58]
def ym:RC:=(.post (So Vy (Sq (Kc 40 (Kk [40] .skip) (Kk [37,38,39,40] (.exit 0))) (Sq (Bk 1 (So HV (Sq (.flt [0,0,2,7,0,16,48,127,255] [] HU [43,44,45,46,47,48,49,50]) (.flt [0,0,2,7,0,16,63,127] [157] HT [5,51,52,53,54,55,56,57])))) (.ops HS)))) [.gc [105],.gcr 47000 48000,.gcr 55000 56000,.tok 3 103])
def oS:RC:=ym
def HR:List RI:=[omk 59 3,on 60 (Fa 6 1),oo 61 (Ld 60) [60],oo 62 (Ln 61) [61],oo 63 (Ca 40 [.t 59,ci 1,.t 62]) [59,62],omk 3 63]
def HQ:List RI:=[oo 64 (Fa 6 1) [1],oo 65 (Ld 64) [64],on 66 (Ln 65),on 67 (Mc 0)]
def HP:List RI:=[on 68 (Bb .lss 67 66)]
def HO:List RI:=[on 69 (Ia 4 65 67),oo 70 (Lt 4 69) [69],on 7 (.new (.rc Zq3)),Sr 4 7 70 [70]]
def HN:List FI:=[Fm 0 71 3,Fs 1 72 (Fa 0 7),Fs 2 73 (Ld 72),Fs 4 75 (Fa 1 7),Fs 5 76 (Ld 75),Fs 6 77 (.s2b (.t 76)),Fz 3 74 (Ca 40 [.t 71,ci 1,.t 73]),Fz 7 78 (Ca 72 [.t 74,.t 77]),⟨8,false,(xm 3 78)⟩]
def HM:List FI:=[Fm 0 79 3,Fs 1 80 (Fa 2 7),Fs 2 81 (Ld 80),Fs 4 83 (Fa 3 7),Fs 5 84 (Ld 83),Fz 3 82 (Ca 40 [.t 79,ci 4,.t 81]),Fz 6 85 (Ca 40 [.t 82,ci 4,.t 84]),⟨7,false,(xm 3 85)⟩]
def HK:List RI:=[oo 86 (Bc .add 67 1) [67],omk 67 86]
def yl:RC:=(.post (So HP (Sq (Kc 68 (Kk [68] .skip) (Kk [65,66,67,68] (.exit 2))) (Sq (Bk 3 (So HO (Sq (.flt [0,0,2,7,0,16,48,127,255] [] HN [71,72,73,74,75,76,77,78]) (.flt [0,0,2,7,0,16,63,127] [] HM [7,79,80,81,82,83,84,85])))) (.ops HK)))) [.gc [107],.gcr 75000 76000,.gcr 83000 84000])
def oR:RC:=yl
def HJ:List RI:=[omk 87 3,omk 2 87]
def r38:RC:=(So vB (Sq (So VF (Kc 10 (Kk [1,10] (So sD .ret)) (Kk [10] .skip))) (So VE (So VD (Sq (.flt [0,0,2,7,0,16,63,127] [] VC [17,18,19,20,21,22,23]) (Sq (.flt [0,0,2,7,0,16,63,127] [] VB [24,25,26,27,28,29,30]) (So VA (Sq (So Vz (Bk 0 (.pre [.tok 3 103] (.loop oS)))) (So HR (Sq (So HQ (Bk 2 (.loop oR))) (So HJ .ret)))))))))))
def F38:FnC:=⟨r38,88,[.tmp 2],[],[]⟩
def jl:List RI:=[oo 2 (.mov (.c (.byt [] .clip))) [2]]
def Vx:List RI:=[omk 3 0,oo 4 (.toInt .u8 (.t 3)) [3],oo 5 (.litB [(.c (.u8 107)),.t 4]) [4],oo 6 (Ca 73 [.t 5]) [5],omk 2 6]
def r39:RC:=(So jl (So Vx .ret))
def F39:FnC:=⟨r39,7,[.tmp 2],[],[]⟩
def po:List RI:=[oo 6 (.mov (.c (.byt [] .clip))) [6]]
def Vw:List RI:=[omk 9 0,oo 10 (.app [.u8 0] 1 (.c (.byt [] .clip)) (.t 9)) [9],omk 7 10]
def Vv:List RI:=[om 11 1,oo 12 (Bc .lss 11 1) [11],omk 13 12,.grp 13 false [(xi 14 13 false (Mv 1)),(xi 15 13 false (Bc .gtr 14 8))] [14],oo 16 (Pt 13 15) [13,15]]
def Vu:List RI:=[omk 17 7,omk 6 17]
def Vt:List RI:=[omk 18 1,oo 19 (Bc .sub 18 1) [18],omk 8 19]
def Vs:List RI:=[om 20 8,oo 21 (Bc .geq 20 0) [20]]
def Vr:List RI:=[omk 24 7,om 25 2,oo 26 (.toInt .u64 (.t 25)) [25],om 27 8,oo 28 (.bin .mul (ci 8) (.t 27)) [27],oo 29 (.toInt .u64 (.t 28)) [28],oo 30 (Bb .shr 26 29) [26,29],oo 31 (.toInt .u8 (.t 30)) [30],oo 32 (.litB [.t 31]) [31],oo 33 (.app [.u8 0] 1 (.t 24) (.t 32)) [24,32],omk 7 33]
def Vq:List RI:=[omk 22 8,oo 23 (Bc .sub 22 1) [22],omk 8 23]
def NH:RC:=(.post (Sq (So Vs (Kc 21 (Kk [21] .skip) (Kk [2,8,21] (.exit 0)))) (Sq (Bk 1 (.ops Vr)) (.ops Vq))) [.tok 7 107])
def Nf:RC:=NH
def Vp:List RI:=[omk 34 7,omk 6 34]
def r40:RC:=(So po (So Vw (Sq (So Vv (Kc 16 (Kk [1,2,16] (So Vu .ret)) (Kk [16] .skip))) (Sq (So Vt (Bk 0 (.pre [.tok 7 107] (.loop Nf)))) (So Vp .ret)))))
def F40:FnC:=⟨r40,35,[.tmp 6],[0],[]⟩
def Nd:List RI:=[oo 2 (.mov (.c .nilp)) [2]]
def Vo:List RI:=[omk 3 0,oo 4 (.app [.u8 0] 1 (.c (.byt [] .clip)) (.t 3)) [3],oo 5 (.build [.byt [] .clip,.int .i64 0,.int .i64 0] [(0,1,(.t 4))]) [4],oo 6 (.box (.t 5)) [5],omk 2 6]
def r41:RC:=(So Nd (So Vo .ret))
def F41:FnC:=⟨r41,7,[.tmp 2],[],[]⟩
def Nc:List RI:=[om 10 0,oo 11 (.nchk (.t 10)) [10],oo 12 (Fa 2 11) [11],oo 13 (Ld 12) [12],oo 14 (Bc .neq 13 0) [13]]
def Vn:List RI:=[om 15 1,oo 16 (Bc .lss 15 1) [15],omk 17 16,.grp 17 false [(xi 18 17 false (Mv 1)),(xi 19 17 false (Bc .gtr 18 8))] [18],oo 20 (Pt 17 19) [17,19]]
def Vm:List RI:=[omk 21 0,oo 22 (Ca 74 [.t 21,ci 1]) [21,22]]
def Vl:List RI:=[om 24 0,om 25 0,oo 26 (.nchk (.t 25)) [25],oo 27 (Fa 1 26) [26],oo 28 (Ld 27) [27],om 29 1,oo 30 (Ca 75 [.t 24,.t 28,.t 29]) [24,28,29],omk 23 30,on 31 (.ext (.t 23) 0),oo 32 (.ext (.t 23) 1) [23],omk 5 31,omk 6 32]
def Vk:List RI:=[om 33 6,oo 34 (Bc .neq 33 0) [33]]
def Vj:List RI:=[omk 35 0,omk 36 6,oo 37 (Ca 74 [.t 35,.t 36]) [35,36,37]]
def HI:List RI:=[on 7 (.mov (.c (.int .u64 0)))]
def HH:List RI:=[omk 38 5,on 39 (Ln 38),on 40 (Mc 0)]
def HG:List RI:=[on 41 (Bb .lss 40 39)]
def HF:List RI:=[on 42 (Ia 1 38 40),oo 43 (Ld 42) [42],omk 9 43]
def HE:List RI:=[omk 44 7,oo 45 (.bin .shl (.t 44) (.c (.int .u64 8))) [44],omk 46 9,oo 47 (.toInt .u64 (.t 46)) [46],oo 48 (Bb .or 45 47) [45,47],omk 7 48]
def HD:List RI:=[oo 49 (Bc .add 40 1) [40],omk 40 49]
def yk:RC:=(So HG (Sq (Kc 41 (Kk [41] .skip) (Kk [38,39,40,41] (.exit 0))) (Sq (Bk 1 (So HF (.ops HE))) (.ops HD))))
def xb:RC:=yk
def HC:List RI:=[om 50 7,oo 51 (.bin .gtr (.t 50) (.c (.int .u64 9223372036854775807))) [50]]
def HB:List RI:=[omk 52 0,oo 53 (Ca 74 [.t 52,ci 4]) [52,53]]
def Hz:List RI:=[omk 54 0,on 55 (.nchk (.t 54)),oo 56 (Fa 1 55) [55],oo 57 (Ld 56) [56],omk 58 1,oo 59 (Bb .add 57 58) [57,58],oo 60 (.nchk (.t 54)) [54],oo 61 (Fa 1 60) [60],Sr 1 61 59 [59,61]]
def Hy:List RI:=[omk 62 7,oo 63 (.toInt .i64 (.t 62)) [62],omk 4 63]
def r42:RC:=(So pt (Sq (So Nc (Kc 14 (Kk [0,1,14] (So gJ .ret)) (Kk [14] .skip))) (Sq (So Vn (Kc 20 (Kk [1,20] (So Vm (So gJ .ret))) (Kk [20] .skip))) (So Vl (Sq (So Vk (Kc 34 (Kk [1,5,34] (So Vj (So gJ .ret))) (Kk [6,34] .skip))) (So HI (Sq (So HH (Bk 0 (.loop xb))) (Sq (So HC (Kc 51 (Kk [1,7,51] (So HB (So gJ .ret))) (Kk [51] .skip))) (So Hz (So Hy .ret))))))))))
def F42:FnC:=⟨r42,64,[.tmp 4],[],[]⟩
def ft:List RI:=[oo 4 (.mov (.c (.byt [] .clip))) [4]]
def Vi:List RI:=[om 7 0,oo 8 (.nchk (.t 7)) [7],oo 9 (Fa 2 8) [8],oo 10 (Ld 9) [9],oo 11 (Bc .neq 10 0) [10]]
def im:List RI:=[on 4 (.mov (.c (.byt [] .clip)))]
def Vh:List RI:=[om 12 1,oo 13 (Bc .lss 12 0) [12]]
def Vg:List RI:=[omk 14 0,oo 15 (Ca 74 [.t 14,ci 1]) [14,15]]
def Vf:List RI:=[om 17 0,om 18 0,oo 19 (.nchk (.t 18)) [18],oo 20 (Fa 1 19) [19],oo 21 (Ld 20) [20],om 22 1,oo 23 (Ca 75 [.t 17,.t 21,.t 22]) [17,21,22],omk 16 23,on 24 (.ext (.t 16) 0),oo 25 (.ext (.t 16) 1) [16],omk 5 24,omk 6 25]
def Ve:List RI:=[om 26 6,oo 27 (Bc .neq 26 0) [26]]
def Vd:List RI:=[omk 28 0,omk 29 6,oo 30 (Ca 74 [.t 28,.t 29]) [28,29,30]]
def Hx:List RI:=[omk 31 0,on 32 (.nchk (.t 31)),oo 33 (Fa 1 32) [32],oo 34 (Ld 33) [33],omk 35 1,oo 36 (Bb .add 34 35) [34,35],oo 37 (.nchk (.t 31)) [31],oo 38 (Fa 1 37) [37],Sr 1 38 36 [36,38]]
def Hw:List RI:=[omk 39 5,oo 40 (.app [.u8 0] 1 (.c (.byt [] .clip)) (.t 39)) [39],omk 4 40]
def r43:RC:=(So ft (Sq (So Vi (Kc 11 (Kk [0,1,11] (So im .ret)) (Kk [11] .skip))) (Sq (So Vh (Kc 13 (Kk [1,13] (So Vg (So im .ret))) (Kk [13] .skip))) (So Vf (Sq (So Ve (Kc 27 (Kk [1,5,27] (So Vd (So im .ret))) (Kk [6,27] .skip))) (So Hx (So Hw .ret)))))))
def F43:FnC:=⟨r43,41,[.tmp 4],[],[]⟩
def jk:List RI:=[oo 2 (Mc 0) [2]]
def Vc:List RI:=[om 3 0,oo 4 (.nchk (.t 3)) [3],oo 5 (Fa 2 4) [4],oo 6 (Ld 5) [5],oo 7 (Bc .eql 6 0) [6],omk 8 7,.grp 8 true [(xi 9 8 true (Mv 0)),(xi 10 8 true (Ca 76 [.t 9])),(xi 11 8 true (Bc .gtr 10 0))] [9,10],oo 12 (Pf 8 11) [8,11]]
def Nb:List RI:=[on 2 (Mc 3)]
def Na:List RI:=[omk 13 0,oo 14 (.nchk (.t 13)) [13],oo 15 (Fa 2 14) [14],oo 16 (Ld 15) [15],omk 2 16]
def r44:RC:=(So jk (Sq (So Vc (Kc 12 (Kk [0,12] (So Nb .ret)) (Kk [12] .skip))) (So Na .ret)))
def F44:FnC:=⟨r44,17,[.tmp 2],[],[]⟩
def Vb:List RI:=[on 9 (.litB []),omk 10 0,oo 11 (.app [.u8 0] 1 (.t 9) (.t 10)) [9,10],omk 7 11]
def Va:List RI:=[om 12 1,oo 13 (Bc .lss 12 1) [12],omk 14 13,.grp 14 false [(xi 15 14 false (Mv 1)),(xi 16 14 false (Bc .gtr 15 8))] [15],oo 17 (Pt 14 16) [14,16]]
def U9:List RI:=[omk 18 7,omk 6 18]
def U8:List RI:=[omk 19 1,oo 20 (Bc .sub 19 1) [19],omk 8 20]
def U7:List RI:=[om 21 8,oo 22 (Bc .geq 21 0) [21]]
def U6:List RI:=[omk 25 7,om 26 2,oo 27 (.toInt .u64 (.t 26)) [26],om 28 8,oo 29 (.toInt .u64 (.t 28)) [28],oo 30 (.bin .mul (.c (.int .u64 8)) (.t 29)) [29],oo 31 (Bb .shr 27 30) [27,30],oo 32 (.toInt .u8 (.t 31)) [31],oo 33 (.litB [.t 32]) [32],oo 34 (.app [.u8 0] 1 (.t 25) (.t 33)) [25,33],omk 7 34]
def U5:List RI:=[omk 23 8,oo 24 (Bc .sub 23 1) [23],omk 8 24]
def NG:RC:=(.post (Sq (So U7 (Kc 22 (Kk [22] .skip) (Kk [2,8,22] (.exit 0)))) (Sq (Bk 1 (.ops U6)) (.ops U5))) [.tok 7 107])
def M9:RC:=NG
def U4:List RI:=[omk 35 7,omk 6 35]
def r45:RC:=(So po (So Vb (Sq (So Va (Kc 17 (Kk [1,2,17] (So U9 .ret)) (Kk [17] .skip))) (Sq (So U8 (Bk 0 (.pre [.tok 7 107] (.loop M9)))) (So U4 .ret)))))
def F45:FnC:=⟨r45,36,[.tmp 6],[0],[]⟩
def U3:List RI:=[omk 3 0,oo 4 (.build [.byt [] .clip,.int .i64 0,.int .i64 0] [(0,1,(.t 3))]) [3],oo 5 (.box (.t 4)) [4],omk 2 5]
def r46:RC:=(So Nd (So U3 .ret))
def F46:FnC:=⟨r46,6,[.tmp 2],[],[]⟩
def U2:List RI:=[om 7 0,oo 8 (.nchk (.t 7)) [7],oo 9 (Fa 2 8) [8],oo 10 (Ld 9) [9],oo 11 (Bc .eql 10 0) [10],omk 12 11,.grp 12 true [(xi 13 12 true (Mv 1)),(xi 14 12 true (Bc .lss 13 1)),(xi 15 12 true (Mv 14))] [13,14],.grp 15 false [(xi 16 15 false (Mv 1)),(xi 17 15 false (Bc .gtr 16 8))] [16],.grp 12 true [(xi 18 12 true (Pt 15 17))] [15,17],oo 19 (Pf 12 18) [12,18]]
def U1:List RI:=[om 20 0,oo 21 (.nchk (.t 20)) [20],oo 22 (Fa 2 21) [21],.op ⟨none,none,.store 1 (.t 22) (ci 1)⟩ [22]]
def U0:List RI:=[om 23 0,oo 24 (.nchk (.t 23)) [23],oo 25 (Fa 2 24) [24],oo 26 (Ld 25) [25],oo 27 (Bc .neq 26 0) [26],omk 28 27,.grp 28 false [(xi 29 28 false (Mv 0)),(xi 30 28 false (Mv 1)),(xi 31 28 false (Ca 77 [.t 29,.t 30])),(xi 32 28 false (.un .not (.t 31)))] [29,30,31],oo 33 (Pt 28 32) [28,32]]
def UZ:List RI:=[on 5 (.mov (.c (.int .u64 0)))]
def UY:List RI:=[om 34 6,om 35 1,oo 36 (Bb .lss 34 35) [34,35]]
def UX:List FI:=[Fm 0 39 5,Fs 1 40 (.bin .shl (.t 39) (.c (.int .u64 8))),Fm 2 41 0,Fs 3 42 (.nchk (.t 41)),Fs 4 43 (Fa 0 42),Fs 5 44 (Ld 43),Fm 6 45 0,Fs 7 46 (.nchk (.t 45)),Fs 8 47 (Fa 1 46),Fs 9 48 (Ld 47),Fm 10 49 6,Fs 11 50 (Bb .add 48 49),Fs 12 51 (Ia 1 44 50),Fs 13 52 (Ld 51),Fs 14 53 (.toInt .u64 (.t 52)),Fs 15 54 (Bb .or 40 53),⟨16,false,(xm 5 54)⟩]
def M8:List RI:=[omk 37 6,oo 38 (Bc .add 37 1) [37],omk 6 38]
def yj:RC:=(Sq (So UY (Kc 36 (Kk [36] .skip) (Kk [6,36] (.exit 0)))) (Sq (Bk 1 (.flt [0,1,0,4,12,28,0,64,192,448,0,1984,4092,8188,16380,32767,65535] [] UX [39,40,41,42,43,44,45,46,47,48,49,50,51,52,53,54])) (.ops M8)))
def xa:RC:=yj
def Hv:List RI:=[om 55 5,oo 56 (.bin .geq (.t 55) (.c (.int .u64 9223372036854775808))) [55]]
def Hu:List RI:=[omk 57 0,oo 58 (.nchk (.t 57)) [57],oo 59 (Fa 2 58) [58],.op ⟨none,none,.store 1 (.t 59) (ci 4)⟩ [59]]
def Ht:List RI:=[omk 60 0,on 61 (.nchk (.t 60)),oo 62 (Fa 1 61) [61],oo 63 (Ld 62) [62],omk 64 1,oo 65 (Bb .add 63 64) [63,64],oo 66 (.nchk (.t 60)) [60],oo 67 (Fa 1 66) [66],Sr 1 67 65 [65,67]]
def Hs:List RI:=[omk 68 5,oo 69 (.toInt .i64 (.t 68)) [68],omk 4 69]
def r47:RC:=(So pt (Sq (So U2 (Kc 19 (Kk [19] (.ops U1)) (Kk [19] .skip))) (Sq (So U0 (Kc 33 (Kk [0,1,33] (So gJ .ret)) (Kk [33] .skip))) (So UZ (Sq (So kA (Bk 0 (.loop xa))) (Sq (So Hv (Kc 56 (Kk [1,5,56] (So Hu (So gJ .ret))) (Kk [56] .skip))) (So Ht (So Hs .ret))))))))
def F47:FnC:=⟨r47,70,[.tmp 4],[],[]⟩
def UW:List RI:=[om 5 0,oo 6 (.nchk (.t 5)) [5],oo 7 (Fa 2 6) [6],oo 8 (Ld 7) [7],oo 9 (Bc .eql 8 0) [8],omk 10 9,.grp 10 true [(xi 11 10 true (Mv 1)),(xi 12 10 true (Bc .lss 11 0))] [11],oo 13 (Pf 10 12) [10,12]]
def UV:List RI:=[om 14 0,oo 15 (.nchk (.t 14)) [14],oo 16 (Fa 2 15) [15],.op ⟨none,none,.store 1 (.t 16) (ci 1)⟩ [16]]
def UU:List RI:=[om 17 0,oo 18 (.nchk (.t 17)) [17],oo 19 (Fa 2 18) [18],oo 20 (Ld 19) [19],oo 21 (Bc .neq 20 0) [20],omk 22 21,.grp 22 false [(xi 23 22 false (Mv 0)),(xi 24 22 false (Mv 1)),(xi 25 22 false (Ca 77 [.t 23,.t 24])),(xi 26 22 false (.un .not (.t 25)))] [23,24,25],oo 27 (Pt 22 26) [22,26]]
def UT:List RI:=[om 28 0,on 29 (.nchk (.t 28)),oo 30 (Fa 1 29) [29],oo 31 (Ld 30) [30],om 32 1,oo 33 (Bb .add 31 32) [31,32],oo 34 (.nchk (.t 28)) [28],oo 35 (Fa 1 34) [34],Sr 1 35 33 [33,35]]
def UR:List FI:=[Fs 0 36 (.litB []),Fm 1 37 0,Fs 2 38 (.nchk (.t 37)),Fs 3 39 (Fa 0 38),Fs 4 40 (Ld 39),Fm 5 41 0,Fs 6 42 (.nchk (.t 41)),Fs 7 43 (Fa 1 42),Fs 8 44 (Ld 43),Fm 9 45 1,Fs 10 46 (Bb .sub 44 45),Fm 11 47 0,Fs 12 48 (.nchk (.t 47)),Fs 13 49 (Fa 1 48),Fs 14 50 (Ld 49),Fs 15 51 (.slcL 1 (.t 40) (some (.t 46)) (some (.t 50)) none),Fz 16 52 (.app [.u8 0] 1 (.t 36) (.t 51)),Fm 17 4 52]
def r48:RC:=(So ft (Sq (So UW (Kc 13 (Kk [13] (.ops UV)) (Kk [13] .skip))) (Sq (So UU (Kc 27 (Kk [0,1,27] (So im .ret)) (Kk [27] .skip))) (So UT (Sq (.flt [0,0,2,6,14,0,32,96,224,0,992,0,2048,6144,14336,32766,65535,131071] [152] UR [0,1,36,37,38,39,40,41,42,43,44,45,46,47,48,49,50,51,52]) .ret)))))
def F48:FnC:=⟨r48,53,[.tmp 4],[],[]⟩
def UQ:List RI:=[om 3 0,oo 4 (.nchk (.t 3)) [3],oo 5 (Fa 2 4) [4],oo 6 (Ld 5) [5],oo 7 (Bc .eql 6 0) [6],omk 8 7,.grp 8 true [(xi 9 8 true (Mv 0)),(xi 10 8 true (Ca 78 [.t 9])),(xi 11 8 true (Bc .gtr 10 0))] [9,10],oo 12 (Pf 8 11) [8,11]]
def r49:RC:=(So jk (Sq (So UQ (Kc 12 (Kk [0,12] (So Nb .ret)) (Kk [12] .skip))) (So Na .ret)))
def F49:FnC:=⟨r49,17,[.tmp 2],[],[]⟩
def UP:List RI:=[om 5 1,oo 6 (Bc .lss 5 0) [5],omk 7 6,.grp 7 false [(xi 8 7 false (Mv 1)),(xi 9 7 false (Bc .gtr 8 3))] [8],oo 10 (Pt 7 9) [7,9]]
def UO:List RI:=[om 11 1,oo 12 (.toInt .u8 (.t 11)) [11],oo 13 (.litB [.t 12]) [12],omk 14 0,omk 15 1,oo 16 (Ca 80 [.t 14,.t 15]) [14,15],oo 17 (Ca 79 [.t 16]) [16],oo 18 (.app [.u8 0] 1 (.t 13) (.t 17)) [13,17],omk 4 18]
def r50:RC:=(So ft (Sq (So UP (Kc 10 (Kk [0,1,10] (So im .ret)) (Kk [10] .skip))) (So UO .ret)))
def F50:FnC:=⟨r50,19,[.tmp 4],[],[]⟩
def UN:List RI:=[oo 4 (.mov (.c .nilp)) [4]]
def UM:List RI:=[om 5 0,oo 6 (Ln 5) [5],om 7 1,oo 8 (Bb .gtr 6 7) [6,7]]
def UL:List RI:=[omk 9 0,omk 10 1,oo 11 (.slcL 1 (.t 9) none (some (.t 10)) none) [9,10],omk 0 11]
def UK:List RI:=[omk 12 0,oo 13 (.build [.byt [] .clip,.int .i64 0] [(0,1,(.t 12))]) [12],oo 14 (.box (.t 13)) [13],omk 4 14]
def r51:RC:=(So UN (Sq (So UM (Kc 8 (Kk [8] (.ops UL)) (Kk [1,8] .skip))) (So UK .ret)))
def F51:FnC:=⟨r51,15,[.tmp 4],[],[]⟩
def UJ:List FI:=[Fm 0 5 0,Fs 1 6 (.nchk (.t 5)),Fs 2 7 (Fa 1 6),Fs 3 8 (Ld 7),Fm 4 9 0,Fs 5 10 (.nchk (.t 9)),Fs 6 11 (Fa 0 10),Fs 7 12 (Ld 11),Fs 8 13 (Ln 12),Fs 9 14 (Bb .geq 8 13)]
def UI:List RI:=[om 15 0,on 16 (.nchk (.t 15)),oo 17 (Fa 1 16) [16],oo 18 (Ld 17) [17],oo 19 (Bc .add 18 1) [18],oo 20 (.nchk (.t 15)) [15],oo 21 (Fa 1 20) [20],Sr 1 21 19 [19,21]]
def UH:List FI:=[Fm 0 22 0,Fs 1 23 (.nchk (.t 22)),Fs 2 24 (Fa 0 23),Fs 3 25 (Ld 24),Fm 4 26 0,Fs 5 27 (.nchk (.t 26)),Fs 6 28 (Fa 1 27),Fs 7 29 (Ld 28),Fs 8 30 (Bc .sub 29 1),Fs 9 31 (Ia 1 25 30),Fs 10 32 (Ld 31),Fs 11 33 (.toInt .i64 (.t 32)),Fm 12 34 1,Fs 13 35 (Bb .rem 33 34),Fm 14 4 35]
def r52:RC:=(So pt (Sq (Sq (.flt [0,1,3,7,0,16,48,112,240,511] [] UJ [5,6,7,8,9,10,11,12,13]) (Kc 14 (Kk [0,1,14] (So gJ .ret)) (Kk [14] .skip))) (So UI (Sq (.flt [0,1,3,7,0,16,48,112,240,511,1023,2047,0,8191,16383] [] UH [0,1,22,23,24,25,26,27,28,29,30,31,32,33,34,35]) .ret))))
def F52:FnC:=⟨r52,36,[.tmp 4],[],[]⟩
def mq:List RI:=[oo 8 (.mov (.c (.byt [] .clip))) [8]]
def UG:List RI:=[om 12 1,oo 13 (Ca 86 [.t 12]) [12],oo 14 (.un .not (.t 13)) [13],omk 15 14,.grp 15 false [(xi 16 15 false (Mv 2)),(xi 17 15 false (Bc .lss 16 0))] [16],oo 18 (Pt 15 17) [15,17],omk 19 18,.grp 19 false [(xi 20 19 false (Mv 2)),(xi 21 19 false (Mv 1)),(xi 22 19 false (.toInt .u64 (.t 21))),(xi 23 19 false (.bin .shl (ci 1) (.t 22))),(xi 24 19 false (Bb .geq 20 23))] [20,21,22,23],oo 25 (Pt 19 24) [19,24]]
def sC:List RI:=[on 8 (.mov (.c (.byt [] .clip)))]
def UF:List RI:=[om 26 2,oo 27 (.toInt .u8 (.t 26)) [26],oo 28 (.litB [.t 27]) [27],om 29 0,om 30 1,oo 31 (Ca 88 [.t 29,.t 30]) [29,30],om 32 2,omk 33 3,oo 34 (Ca 87 [.t 31,.t 32,.t 33]) [31,32,33],oo 35 (.app [.u8 0] 1 (.t 28) (.t 34)) [28,34],omk 9 35]
def UE:List RI:=[omk 36 2,omk 37 0,omk 38 1,oo 39 (Ca 90 [.t 37,.t 38]) [37,38],oo 40 (Ca 89 [.t 36,.t 39]) [36,39],on 41 (Ln 40),on 42 (Mc 0)]
def UD:List RI:=[on 43 (Bb .lss 42 41)]
def UC:List RI:=[on 44 (Ia 1 40 42),oo 45 (Ld 44) [44],omk 11 45]
def UB:List RI:=[omk 46 9,omk 47 11,oo 48 (.app [.u8 0] 1 (.t 46) (.t 47)) [46,47],omk 9 48]
def UA:List RI:=[oo 49 (Bc .add 42 1) [42],omk 42 49]
def NF:RC:=(.post (So UD (Sq (Kc 43 (Kk [43] .skip) (Kk [40,41,42,43] (.exit 0))) (Sq (Bk 1 (So UC (.ops UB))) (.ops UA)))) [.tok 9 109])
def Uz:RC:=NF
def Hr:List RI:=[omk 50 9,omk 8 50]
def r55:RC:=(So mq (Sq (So UG (Kc 25 (Kk [0,1,2,3,25] (So sC .ret)) (Kk [25] .skip))) (So UF (Sq (So UE (Bk 0 (.pre [.tok 9 109] (.loop Uz)))) (So Hr .ret)))))
def F55:FnC:=⟨r55,51,[.tmp 8],[],[]⟩
def Uy:List RI:=[oo 2 (.mov (.c (.lst 2 [] .clip))) [2]]
def Ux:List RI:=[om 3 0,om 4 0,oo 5 (Ln 4) [4],omk 6 0,oo 7 (Ln 6) [6],oo 8 (.slcL 2 (.t 3) none (some (.t 5)) (some (.t 7))) [3,5,7],omk 2 8]
def r56:RC:=(So Uy (So Ux .ret))
def F56:FnC:=⟨r56,9,[.tmp 2],[0],[]⟩
def Uw:List RI:=[om 12 1,oo 13 (Bc .lss 12 0) [12],omk 14 13,.grp 14 false [(xi 15 14 false (Mv 1)),(xi 16 14 false (Bc .gtr 15 3))] [15],oo 17 (Pt 14 16) [14,16],omk 18 17,.grp 18 false [(xi 19 18 false (Mv 2)),(xi 20 18 false (Bc .lss 19 0))] [19],oo 21 (Pt 18 20) [18,20],omk 22 21,.grp 22 false [(xi 23 22 false (Mv 2)),(xi 24 22 false (Mv 1)),(xi 25 22 false (.toInt .u64 (.t 24))),(xi 26 22 false (.bin .shl (ci 1) (.t 25))),(xi 27 22 false (Bb .geq 23 26))] [23,24,25,26],oo 28 (Pt 22 27) [22,27]]
def Uv:List RI:=[om 29 2,oo 30 (.toInt .u8 (.t 29)) [29],oo 31 (.litB [.t 30]) [30],om 32 0,om 33 1,oo 34 (Ca 92 [.t 32,.t 33]) [32,33],om 35 2,omk 36 3,oo 37 (Ca 91 [.t 34,.t 35,.t 36]) [34,35,36],oo 38 (.app [.u8 0] 1 (.t 31) (.t 37)) [31,37],omk 9 38]
def Uu:List RI:=[omk 39 2,omk 40 0,omk 41 1,oo 42 (Ca 80 [.t 40,.t 41]) [40,41],oo 43 (Ca 93 [.t 39,.t 42]) [39,42],omk 10 43]
def Ut:List RI:=[on 11 (Mc 0)]
def Us:List RI:=[om 44 11,om 45 10,oo 46 (Ln 45) [45],oo 47 (Bb .lss 44 46) [44,46]]
def Ur:List RI:=[omk 50 9,om 51 10,om 52 11,oo 53 (Ia 1 51 52) [51,52],oo 54 (Ld 53) [53],oo 55 (.app [.u8 0] 1 (.t 50) (.t 54)) [50,54],omk 9 55]
def Uq:List RI:=[omk 48 11,oo 49 (Bc .add 48 1) [48],omk 11 49]
def NE:RC:=(.post (Sq (So Us (Kc 47 (Kk [47] .skip) (Kk [10,11,47] (.exit 0)))) (Sq (Bk 1 (.ops Ur)) (.ops Uq))) [.tok 9 109])
def Up:RC:=NE
def Hq:List RI:=[omk 56 9,omk 8 56]
def r57:RC:=(So mq (Sq (So Uw (Kc 28 (Kk [0,1,2,3,28] (So sC .ret)) (Kk [28] .skip))) (So Uv (So Uu (Sq (So Ut (Bk 0 (.pre [.tok 9 109] (.loop Up)))) (So Hq .ret))))))
def F57:FnC:=⟨r57,57,[.tmp 8],[],[]⟩
def Uo:List RI:=[oo 6 (Mc 0) [6],oo 7 (Mb false) [7]]
def Un:List RI:=[om 12 0,oo 13 (Ln 12) [12],oo 14 (Bc .neq 13 17) [13],omk 15 14,.grp 15 false [(xi 16 15 false (Mv 0)),(xi 17 15 false (.iaddrL 1 (.t 16) (ci 0))),(xi 18 15 false (Ld 17)),(xi 19 15 false (.toInt .i64 (.t 18))),(xi 20 15 false (Ca 86 [.t 19])),(xi 21 15 false (.un .not (.t 20)))] [16,17,18,19,20],oo 22 (Pt 15 21) [15,21]]
def vA:List RI:=[on 6 (Mc 0),on 7 (Mb false)]
def Um:List RI:=[om 23 0,oo 24 (.iaddrL 1 (.t 23) (ci 0)) [23],oo 25 (Ld 24) [24],oo 26 (.toInt .i64 (.t 25)) [25],omk 8 26]
def Ul:List RI:=[om 27 2,oo 28 (Ln 27) [27],om 29 8,oo 30 (.bin .mul (ci 16) (.t 29)) [29],oo 31 (.bin .add (ci 561) (.t 30)) [30],oo 32 (Bb .neq 28 31) [28,31],omk 33 32,.grp 33 false [(xi 34 33 false (Mv 2)),(xi 35 33 false (.iaddrL 1 (.t 34) (ci 0))),(xi 36 33 false (Ld 35)),(xi 37 33 false (.toInt .i64 (.t 36))),(xi 38 33 false (Mv 8)),(xi 39 33 false (.toInt .u64 (.t 38))),(xi 40 33 false (.bin .shl (ci 1) (.t 39))),(xi 41 33 false (Bb .geq 37 40))] [8,34,35,36,37,38,39,40],oo 42 (Pt 33 41) [33,41]]
def Uk:List RI:=[om 43 2,oo 44 (.iaddrL 1 (.t 43) (ci 0)) [43],oo 45 (Ld 44) [44],oo 46 (.toInt .i64 (.t 45)) [45],omk 6 46]
def Uj:List RI:=[om 48 6,omk 49 1,om 50 2,oo 51 (.slcL 1 (.t 50) (some (ci 1)) (some (ci 561)) (some (ci 561))) [50],oo 52 (Ca 94 [.t 48,.t 49,.t 51]) [48,49,51],omk 47 52,on 53 (.ext (.t 47) 0),oo 54 (.ext (.t 47) 1) [47],omk 9 53,omk 7 54]
def Ui:List RI:=[omk 55 7,oo 56 (.un .not (.t 55)) [55]]
def Hp:List RI:=[on 10 (.mov (.c (.lst 1 [] .clip)))]
def Ho:List RI:=[omk 57 2,oo 58 (.slcL 1 (.t 57) (some (ci 561)) none none) [57],omk 11 58]
def Hn:List RI:=[om 59 11,oo 60 (Ln 59) [59],oo 61 (Bc .gtr 60 0) [60]]
def Hm:List RI:=[omk 64 10,om 65 11,oo 66 (.slcL 1 (.t 65) none (some (ci 16)) (some (ci 16))) [65],oo 67 (.lit 1 [.t 66]) [66],oo 68 (.app [.byt [] .clip] 24 (.t 64) (.t 67)) [64,67],omk 10 68]
def Hl:List RI:=[omk 62 11,oo 63 (.slcL 1 (.t 62) (some (ci 16)) none none) [62],omk 11 63]
def yi:RC:=(.post (Sq (So Hn (Kc 61 (Kk [61] .skip) (Kk [11,61] (.exit 0)))) (Sq (Bk 1 (.ops Hm)) (.ops Hl))) [.tok 10 110])
def w8:RC:=yi
def Hk:List FI:=[Fm 0 69 9,Fm 1 70 6,Fm 2 71 10,Fm 5 74 0,Fs 6 75 (.slcL 1 (.t 74) (some (ci 1)) none none),Fs 7 76 (.b2s (.t 75)),Fz 3 72 (Ca 95 [.t 69,.t 70,.t 71]),Fs 4 73 (.b2s (.t 72)),Fs 8 77 (Bb .neq 73 76)]
def Hj:List RI:=[omk 78 6,omk 6 78,on 7 (Mb true)]
def r58:RC:=(So Uo (Sq (So Un (Kc 22 (Kk [0,1,2,22] (So vA .ret)) (Kk [22] .skip))) (So Um (Sq (So Ul (Kc 42 (Kk [0,1,2,42] (So vA .ret)) (Kk [42] .skip))) (So Uk (So Uj (Sq (So Ui (Kc 56 (Kk [0,2,6,9,56] (So vA .ret)) (Kk [56] .skip))) (So Hp (Sq (So Ho (Bk 0 (.pre [.tok 10 110] (.loop w8)))) (Sq (Sq (.flt [0,0,0,7,15,0,32,96,255] [] Hk [0,9,10,69,70,71,72,73,74,75,76]) (Kc 77 (Kk [6,77] (So vA .ret)) (Kk [77] .skip))) (So Hj .ret)))))))))))
def F58:FnC:=⟨r58,79,[.tmp 6,.tmp 7],[],[]⟩
def Uh:List RI:=[on 2 (.new (.rc Zq2)),oo 3 (Mc 0) [3]]
def Ug:List RI:=[omk 10 0,oo 11 (Ca 41 [.t 10]) [10],omk 4 11]
def Uf:List RI:=[on 5 (.new (.rc Zq2))]
def Ue:List RI:=[om 12 4,oo 13 (Ca 42 [.t 12,ci 1]) [12],oo 14 (Bc .neq 13 21) [13]]
def Ud:List RI:=[on 15 (.build Zq2 []),Sr 7 2 15 [15],on 3 (Mc 30)]
def Uc:List RI:=[om 16 4,oo 17 (Ca 99 [.t 16,ci 12]) [16],oo 18 (.b2s (.t 17)) [17],on 19 (Fa 0 5),Sr 1 19 18 [18,19]]
def Ub:List RI:=[om 20 4,oo 21 (Ca 42 [.t 20,ci 4]) [20],on 22 (Fa 1 5),Sr 1 22 21 [21,22]]
def Ua:List RI:=[om 23 4,oo 24 (Ca 42 [.t 23,ci 4]) [23],on 25 (Fa 2 5),Sr 1 25 24 [24,25]]
def T9:List RI:=[om 26 4,oo 27 (Ca 42 [.t 26,ci 6]) [26],on 28 (Fa 3 5),Sr 1 28 27 [27,28]]
def T8:List RI:=[om 29 4,oo 30 (Ca 42 [.t 29,ci 6]) [29],on 31 (Fa 4 5),Sr 1 31 30 [30,31]]
def Hi:List RI:=[om 32 4,oo 33 (Ca 42 [.t 32,ci 1]) [32],omk 6 33]
def Hh:List RI:=[om 34 6,oo 35 (Bc .gtr 34 0) [34],omk 36 35,.grp 36 true [(xi 37 36 true (Mv 4)),(xi 38 36 true (Ca 100 [.t 37])),(xi 39 36 true (Bc .eql 38 0))] [37,38],oo 40 (Pf 36 39) [36,39]]
def Hg:List RI:=[on 7 (.new (.rc Zq0))]
def Hf:List RI:=[om 43 4,oo 44 (Ca 42 [.t 43,ci 1]) [43],on 45 (Fa 0 7),Sr 1 45 44 [44,45]]
def He:List RI:=[om 46 4,oo 47 (Ca 99 [.t 46,ci 12]) [46],oo 48 (.b2s (.t 47)) [47],on 49 (Fa 1 7),Sr 1 49 48 [48,49]]
def Hd:List RI:=[om 50 4,oo 51 (Ca 42 [.t 50,ci 4]) [50],on 52 (Fa 2 7),Sr 1 52 51 [51,52]]
def Hc:List RI:=[om 53 4,oo 54 (Ca 43 [.t 53,ci 32]) [53],on 55 (Fa 3 7),Sr 1 55 54 [54,55]]
def Hb:List RI:=[on 56 (Fa 5 5),oo 57 (Ld 56) [56],oo 58 (Lt 4 7) [7],oo 59 (.lit 4 [.t 58]) [58],oo 60 (.app Zq0 56 (.t 57) (.t 59)) [57,59],on 61 (Fa 5 5),Sr 1 61 60 [60,61]]
def Ha:List RI:=[omk 41 6,oo 42 (Bc .sub 41 1) [41],omk 6 42]
def yh:RC:=(.post (Sq (So Hh (Kc 40 (Kk [40] .skip) (Kk [6,40] (.exit 0)))) (Sq (Bk 1 (So Hg (So Hf (So He (So Hd (So Hc (.ops Hb))))))) (.ops Ha))) [.gc [107]])
def w7:RC:=yh
def oQ:List RI:=[om 62 4,oo 63 (Ca 42 [.t 62,ci 1]) [62],omk 8 63]
def G9:List RI:=[om 64 8,oo 65 (Bc .gtr 64 0) [64],omk 66 65,.grp 66 true [(xi 67 66 true (Mv 4)),(xi 68 66 true (Ca 100 [.t 67])),(xi 69 66 true (Bc .eql 68 0))] [67,68],oo 70 (Pf 66 69) [66,69]]
def G8:List RI:=[on 9 (.new (.rc Zq3))]
def G7:List RI:=[om 73 4,oo 74 (Ca 42 [.t 73,ci 1]) [73],on 75 (Fa 0 9),Sr 1 75 74 [74,75]]
def G6:List RI:=[om 76 4,oo 77 (Ca 99 [.t 76,ci 32]) [76],oo 78 (.b2s (.t 77)) [77],on 79 (Fa 1 9),Sr 1 79 78 [78,79]]
def G5:List RI:=[om 80 4,oo 81 (Ca 42 [.t 80,ci 4]) [80],on 82 (Fa 2 9),Sr 1 82 81 [81,82]]
def G4:List RI:=[om 83 4,oo 84 (Ca 42 [.t 83,ci 4]) [83],on 85 (Fa 3 9),Sr 1 85 84 [84,85]]
def G3:List RI:=[on 86 (Fa 6 5),oo 87 (Ld 86) [86],oo 88 (Lt 4 9) [9],oo 89 (.lit 4 [.t 88]) [88],oo 90 (.app Zq3 40 (.t 87) (.t 89)) [87,89],on 91 (Fa 6 5),Sr 1 91 90 [90,91]]
def G2:List RI:=[omk 71 8,oo 72 (Bc .sub 71 1) [71],omk 8 72]
def yg:RC:=(.post (Sq (So G9 (Kc 70 (Kk [70] .skip) (Kk [8,70] (.exit 2)))) (Sq (Bk 3 (So G8 (So G7 (So G6 (So G5 (So G4 (.ops G3))))))) (.ops G2))) [.gc [109]])
def w6:RC:=yg
def oP:List RI:=[omk 92 4,oo 93 (Ca 44 [.t 92]) [92],oo 94 (Bc .neq 93 0) [93],omk 95 94,.grp 95 false [(xi 96 95 false (Lt 7 5)),(xi 97 95 false (Ca 71 [.t 96])),(xi 98 95 false (Bc .neq 97 0))] [96,97],oo 99 (Pt 95 98) [95,98]]
def G1:List RI:=[on 100 (.build Zq2 []),Sr 7 2 100 [100],on 3 (Mc 30)]
def GZ:List RI:=[oo 101 (Lt 7 5) [5],Sr 7 2 101 [101],on 3 (Mc 0)]
def r61:RC:=(So Uh (So Ug (So Uf (Sq (So Ue (Kc 14 (Kk [4,5,14] (So Ud .ret)) (Kk [14] .skip))) (So Uc (So Ub (So Ua (So T9 (So T8 (Sq (So Hi (Bk 0 (.loop w7))) (Sq (So oQ (Bk 2 (.loop w6))) (Sq (So oP (Kc 99 (Kk [5,99] (So G1 .ret)) (Kk [99] .skip))) (So GZ .ret)))))))))))))
def F61:FnC:=⟨r61,102,[.cell 2 7 true,.tmp 3],[],[]⟩
def T7:List RI:=[on 4 (Fa 0 1),oo 5 (Ld 4) [4],oo 6 (Bc .lss 5 1) [5],omk 7 6,.grp 7 false [(xi 8 7 false (Fa 0 1)),(xi 9 7 false (Ld 8)),(xi 10 7 false (Bc .gtr 9 4))] [8,9],oo 11 (Pt 7 10) [7,10],omk 12 11,.grp 12 false [(xi 13 12 false (Fa 2 1)),(xi 14 12 false (Ld 13)),(xi 15 12 false (Bc .lss 14 0))] [13,14],oo 16 (Pt 12 15) [12,15],omk 17 16,.grp 17 false [(xi 18 17 false (Fa 2 1)),(xi 19 17 false (Ld 18)),(xi 20 17 false (Bc .gtr 19 1000000))] [18,19],oo 21 (Pt 17 20) [17,20],omk 3 21]
def T6:List RI:=[on 23 (Fa 1 1),oo 24 (Ld 23) [23],oo 25 (Ca 102 [.t 24]) [24],oo 26 (.un .not (.t 25)) [25],omk 22 26]
def vz:List RI:=[on 2 (Mc 43)]
def T5:List RI:=[on 28 (Fa 3 1),oo 29 (Ld 28) [28],oo 30 (Ln 29) [29],oo 31 (Bc .gtr 30 64) [30],omk 27 31]
def T4:List RI:=[on 33 (Fa 0 1),oo 34 (Ld 33) [33],oo 35 (Bc .eql 34 4) [34],omk 36 35,.grp 36 true [(xi 37 36 true (Lt 4 1)),(xi 38 36 true (Ca 103 [.t 37])),(xi 39 36 true (Ln 38)),(xi 40 36 true (Bc .eql 39 0))] [1,37,38,39],oo 41 (Pf 36 40) [36,40],omk 32 41]
def M7:List RI:=[on 2 (Mc 40)]
def r63:RC:=(So pr (Sq (Bk 0 (So T7 (Kc 3 (Kk [1,3] (So gw .ret)) (Kk [3] (So T6 (Kc 22 (Kk [1,22] (So vz .ret)) (Kk [22] (So T5 (Kc 27 (Kk [1,27] (So pq .ret)) (Kk [27] (So T4 (Kc 32 (Kk [32] (So M7 .ret)) (Kk [32] .skip))))))))))))) (So iC .ret)))
def F63:FnC:=⟨r63,42,[.tmp 2],[],[]⟩
def T3:List RI:=[omk 9 0]
def T2:List RI:=[on 11 (Bc .eql 9 0),omk 10 11]
def T1:List RI:=[on 12 (.build [.int .u32 0,.int .u32 0,.int .u32 0,.int .u32 0,.int .u32 0] [(0,1,(.c (.int .u32 1732584193))),(1,1,(.c (.int .u32 4023233417))),(2,1,(.c (.int .u32 2562383102))),(3,1,(.c (.int .u32 271733878))),(4,1,(.c (.int .u32 3285377520)))]),on 5 (.new (.arr 1 (aD 5 [.int .u32 0]))),Sr 5 5 12 [12]]
def T0:List RI:=[omk 13 1,oo 14 (Ca 104 [.t 13]) [13],omk 6 14]
def TZ:List RI:=[om 15 6,oo 16 (Ln 15) [15],oo 17 (Bc .gtr 16 0) [16]]
def TY:List RI:=[om 20 6,oo 21 (.slcL 1 (.t 20) none (some (ci 64)) none) [20],oo 22 (Ca 105 [.t 5,.t 21]) [21,22]]
def TX:List RI:=[omk 18 6,oo 19 (.slcL 1 (.t 18) (some (ci 64)) none none) [18],omk 6 19]
def ND:RC:=(Sq (So TZ (Kc 17 (Kk [17] .skip) (Kk [6,17] (.exit 1)))) (Sq (Bk 2 (.ops TY)) (.ops TX)))
def TW:RC:=ND
def TV:List RI:=[oo 23 (.slcA 5 1 (.t 5) none none none) [5],oo 24 (Ca 106 [.t 23]) [23],omk 4 24]
def GY:List RI:=[oo 26 (Bc .eql 9 1) [9],omk 25 26]
def GX:List RI:=[on 27 (.build [.int .u32 0,.int .u32 0,.int .u32 0,.int .u32 0,.int .u32 0,.int .u32 0,.int .u32 0,.int .u32 0] [(0,1,(.c (.int .u32 1779033703))),(1,1,(.c (.int .u32 3144134277))),(2,1,(.c (.int .u32 1013904242))),(3,1,(.c (.int .u32 2773480762))),(4,1,(.c (.int .u32 1359893119))),(5,1,(.c (.int .u32 2600822924))),(6,1,(.c (.int .u32 528734635))),(7,1,(.c (.int .u32 1541459225)))]),on 7 (.new (.arr 1 (aD 8 [.int .u32 0]))),Sr 8 7 27 [27]]
def GV:List RI:=[omk 28 1,oo 29 (Ca 104 [.t 28]) [28],omk 8 29]
def GU:List RI:=[om 30 8,oo 31 (Ln 30) [30],oo 32 (Bc .gtr 31 0) [31]]
def GT:List RI:=[om 35 8,oo 36 (.slcL 1 (.t 35) none (some (ci 64)) none) [35],oo 37 (Ca 107 [.t 7,.t 36]) [36,37]]
def GS:List RI:=[omk 33 8,oo 34 (.slcL 1 (.t 33) (some (ci 64)) none none) [33],omk 8 34]
def yf:RC:=(Sq (So GU (Kc 32 (Kk [32] .skip) (Kk [8,32] (.exit 3)))) (Sq (Bk 4 (.ops GT)) (.ops GS)))
def wY:RC:=yf
def GR:List RI:=[oo 38 (.slcA 8 1 (.t 7) none none none) [7],oo 39 (Ca 106 [.t 38]) [38],omk 4 39]
def r64:RC:=(So ft (Sq (So T3 (Bk 0 (So T2 (Kc 10 (Kk [9,10] (So T1 (Sq (So T0 (Bk 1 (.loop TW))) (So TV .ret)))) (Kk [10] (So GY (Kc 25 (Kk [25] (So GX (Sq (So GV (Bk 3 (.loop wY))) (So GR .ret)))) (Kk [1,25] .skip)))))))) (So im .ret)))
def F64:FnC:=⟨r64,40,[.tmp 4],[],[]⟩
def TU:List RI:=[on 4 (Lt 4 1),oo 5 (Ca 63 [.t 4]) [4],oo 6 (Bc .neq 5 0) [5]]
def TT:List RI:=[on 7 (Fa 0 1),oo 8 (Ld 7) [7],oo 9 (Ca 40 [(.c (.byt [] .clip)),ci 1,.t 8]) [8],omk 3 9]
def TS:List RI:=[omk 10 3,on 11 (Fa 2 1),oo 12 (Ld 11) [11],oo 13 (Ca 40 [.t 10,ci 4,.t 12]) [10,12],omk 3 13]
def TR:List RI:=[omk 14 3,on 15 (Fa 1 1),oo 16 (Ld 15) [15],oo 17 (.s2b (.t 16)) [16],oo 18 (Ca 72 [.t 14,.t 17]) [14,17],omk 3 18]
def TQ:List RI:=[omk 19 3,oo 20 (Fa 3 1) [1],oo 21 (Ld 20) [20],oo 22 (Ca 72 [.t 19,.t 21]) [19,21],omk 2 22]
def r65:RC:=(So vB (Sq (So TU (Kc 6 (Kk [1,6] (So sD .ret)) (Kk [6] .skip))) (So TT (So TS (So TR (So TQ .ret))))))
def F65:FnC:=⟨r65,23,[.tmp 2],[],[]⟩
def TP:List RI:=[om 5 0,oo 6 (Ln 5) [5],omk 4 6]
def TO:List RI:=[omk 7 0,om 8 4,omk 9 4,oo 10 (.toInt .u64 (.t 9)) [9],oo 11 (Ca 97 [.t 10]) [10],omk 12 1,oo 13 (Ca 108 [.t 7,ci 0,.t 8,.t 11,.t 12]) [7,8,11,12,13]]
def r66:RC:=(So TP (.ops TO))
def F66:FnC:=⟨r66,14,[],[],[]⟩
def TN:List FI:=[Fs 0 5 (Fa 0 2),Fs 1 6 (Ld 5),Fs 2 7 (Fa 0 3),Fs 3 8 (Ld 7),Fs 5 10 (Fa 1 2),Fs 6 11 (Ld 10),Fs 7 12 (Fa 1 3),Fs 8 13 (Ld 12),Fs 10 15 (Fa 2 2),Fs 11 16 (Ld 15),Fs 12 17 (Fa 2 3),Fs 13 18 (Ld 17),Fs 15 20 (Fa 3 2),Fs 16 21 (Ld 20),Fs 17 22 (Fa 3 3),Fs 18 23 (Ld 22),Fz 4 9 (Ca 110 [.t 6,.t 8]),Fz 9 14 (Ca 111 [.t 11,.t 13]),Fz 14 19 (Ca 110 [.t 16,.t 18]),Fz 19 24 (Ca 112 [.t 21,.t 23]),Fs 20 25 (.lit 1 [.t 9,.t 14,.t 19,.t 24]),Fz 21 26 (Ca 109 [.t 25]),Fm 22 4 26]
def r67:RC:=(So Ni (Sq (.flt [0,1,0,4,15,0,32,0,128,511,0,1024,0,4096,16383,0,32768,0,131072,524287,1048575,2097151,4194303] [] TN [2,3,5,6,7,8,9,10,11,12,13,14,15,16,17,18,19,20,21,22,23,24,25,26]) .ret))
def F67:FnC:=⟨r67,27,[.tmp 4],[],[]⟩
def TL:List RI:=[oo 4 (.mov (.c (.lst 4 [] .clip))) [4]]
def TK:List RI:=[om 8 0,oo 9 (Ln 8) [8],oo 10 (Bc .lss 9 2) [9]]
def TJ:List RI:=[omk 11 0,omk 4 11]
def TI:List RI:=[om 12 5,om 13 0,oo 14 (Ln 13) [13],oo 15 (Bb .lss 12 14) [12,14]]
def TH:List FI:=[Fm 0 18 1,Fm 1 19 0,Fm 2 20 5,Fs 3 21 (Ia 4 19 20),Fs 4 22 (Lt 4 21),Fm 5 23 0,Fm 6 24 5,Fs 7 25 (Bc .sub 24 1),Fs 8 26 (Ia 4 23 25),Fs 9 27 (Lt 4 26),Fz 10 28 (.call (.t 18) [.t 22,.t 27])]
def TG:List RI:=[om 29 0,om 30 5,oo 31 (.slcL 4 (.t 29) (some (.t 30)) none none) [29,30],omk 6 31]
def TF:List RI:=[on 7 (Mc 1)]
def TE:List RI:=[om 32 7,om 33 6,oo 34 (Ln 33) [33],oo 35 (Bb .lss 32 34) [32,34]]
def TD:List FI:=[Fm 0 38 1,Fm 1 39 6,Fm 2 40 7,Fs 3 41 (Ia 4 39 40),Fs 4 42 (Lt 4 41),Fm 5 43 6,Fm 6 44 7,Fs 7 45 (Bc .sub 44 1),Fs 8 46 (Ia 4 43 45),Fs 9 47 (Lt 4 46),Fz 10 48 (.call (.t 38) [.t 42,.t 47]),Fs 11 49 (.un .not (.t 48))]
def GQ:List RI:=[om 50 0,om 51 5,om 52 6,om 53 7,oo 54 (Ia 4 52 53) [52,53],oo 55 (Lt 4 54) [54],oo 56 (Ia 4 50 51) [50,51],Sr 4 56 55 [55,56]]
def GP:List RI:=[omk 57 5,oo 58 (Bc .add 57 1) [57],omk 5 58]
def GO:List RI:=[omk 36 7,oo 37 (Bc .add 36 1) [36],omk 7 37]
def ye:RC:=(Sq (So TE (Kc 35 (Kk [35] .skip) (Kk [1,6,7,35] (.exit 2)))) (Sq (Bk 3 (Sq (.flt [0,0,0,6,14,0,0,64,224,480,1023,2047] [] TD [38,39,40,41,42,43,44,45,46,47,48]) (Kc 49 (Kk [49] (So GQ (.ops GP))) (Kk [49] .skip)))) (.ops GO)))
def wX:RC:=ye
def GN:List RI:=[om 59 0,om 60 5,oo 61 (.slcL 4 (.t 59) (some (.t 60)) none none) [59,60],.op ⟨none,none,.clr [.int .i64 0,.str [],.int .i64 0,(.byt [] .no)] (.t 61)⟩ [61]]
def GL:List RI:=[omk 62 0,omk 63 5,oo 64 (.slcL 4 (.t 62) none (some (.t 63)) none) [62,63],omk 4 64]
def GK:List RI:=[omk 16 5,oo 17 (Bc .add 16 1) [16],omk 5 17]
def yc:RC:=(Sq (So TI (Kc 15 (Kk [15] .skip) (Kk [1,5,15] (.exit 0)))) (Sq (Bk 1 (Sq (.flt [0,0,0,6,14,0,0,64,224,480,1023] [] TH [18,19,20,21,22,23,24,25,26,27]) (Kc 28 (Kk [28] (So TG (Sq (So TF (Bk 2 (.loop wX))) (So GN (So GL .ret))))) (Kk [28] .skip)))) (.ops GK)))
def sB:RC:=yc
def GJ:List RI:=[omk 65 0,omk 4 65]
def r68:RC:=(So TL (Sq (So TK (Kc 10 (Kk [1,10] (So TJ .ret)) (Kk [10] .skip))) (Sq (So Ng (Bk 0 (.loop sB))) (So GJ .ret))))
def F68:FnC:=⟨r68,66,[.tmp 4],[],[0]⟩
def TC:List RI:=[oo 5 (Lt 4 2) [2],oo 6 (Lt 4 3) [3],oo 7 (Ca 67 [.t 5,.t 6]) [5,6],oo 8 (Bc .eql 7 0) [7],omk 4 8]
def r69:RC:=(So No (So TC .ret))
def F69:FnC:=⟨r69,9,[.tmp 4],[],[]⟩
def TB:List RI:=[on 4 (.new (.rc Zq0))]
def TA:List FI:=[Fm 0 7 1,Fm 2 9 0,Fm 5 12 0,Fz 1 8 (Ca 113 []),Fz 3 10 (Ca 52 [.t 9,ci 5]),Fs 4 11 (.idxA 5 1 false (.t 8) (.t 10)),Fz 6 13 (Ca 52 [.t 12,ci 5]),Fs 7 14 (.build Zq0 [(0,1,(.t 7)),(1,1,(.t 11)),(2,1,(.t 13))]),Fz 8 5 (.new (.rc Zq0)),Fr 9 4 5 14]
def Tz:List RI:=[om 15 0,oo 16 (Ca 52 [.t 15,ci 9]) [15],oo 17 (Bc .eql 16 8) [16]]
def Ty:List RI:=[om 18 0,oo 19 (Ca 52 [.t 18,ci 3]) [18],oo 20 (.bin .sub (ci 1000000) (.t 19)) [19],on 21 (Fa 2 5),Sr 1 21 20 [20,21]]
def Tx:List RI:=[omk 22 1,oo 23 (Bc .eql 22 4) [22]]
def Tw:List RI:=[omk 24 0,oo 25 (Ca 114 [.t 24]) [24],on 26 (Fa 3 5),Sr 1 26 25 [25,26]]
def Tv:List RI:=[oo 27 (Lt 4 5) [5],Sr 4 4 27 [27]]
def Tu:List RI:=[om 28 0,oo 29 (Ca 52 [.t 28,ci 7]) [28],oo 30 (.mkB (.t 29) (.t 29)) [29],on 31 (Fa 3 5),Sr 1 31 30 [30,31]]
def Tt:List RI:=[om 32 6,on 33 (Fa 3 5),oo 34 (Ld 33) [33],oo 35 (Ln 34) [34],oo 36 (Bb .lss 32 35) [32,35]]
def GI:List FI:=[Fs 0 39 (Fa 3 5),Fs 1 40 (Ld 39),Fm 2 41 6,Fm 3 42 0,Fz 4 43 (Ca 52 [.t 42,ci 256]),Fs 5 44 (.toInt .u8 (.t 43)),Fs 6 45 (Ia 1 40 41),Fr 7 1 45 44]
def yb:RC:=(Sq (So Tt (Kc 36 (Kk [36] .skip) (Kk [0,6,36] (.exit 0)))) (Sq (Bk 1 (.flt [0,1,0,0,8,24,63,127] [] GI [39,40,41,42,43,44,45])) (.ops M8)))
def sA:RC:=yb
def GH:List RI:=[oo 46 (Lt 4 5) [5],Sr 4 4 46 [46]]
def r70:RC:=(So TB (Sq (.fla [0,0,0,6,14,0,46,127,0,511] [105] TA [[0,2,5,1,3,4,6,7,8,9],[0,2,5,1,3,4,8,6,7,9],[0,2,5,1,8,3,4,6,7,9],[0,2,5,8,1,3,4,6,7,9]] [7,8,9,10,11,12,13,14]) (Sq (So Tz (Kc 17 (Kk [17] (.ops Ty)) (Kk [17] .skip))) (Sq (So Tx (Kc 23 (Kk [23] (So Tw (So Tv .ret))) (Kk [23] .skip))) (So Tu (Sq (So kA (Bk 0 (.loop sA))) (So GH .ret)))))))
def F70:FnC:=⟨r70,47,[.cell 4 4 true],[],[]⟩
def Ts:List RI:=[on 9 (Fa 0 1),oo 10 (Ld 9) [9],oo 11 (Ca 115 [.t 10]) [10],oo 12 (.un .not (.t 11)) [11],omk 8 12]
def Tq:List RI:=[on 14 (Fa 2 1),oo 15 (Ld 14) [14],oo 16 (Bc .lss 15 0) [15],omk 17 16,.grp 17 false [(xi 18 17 false (Fa 2 1)),(xi 19 17 false (Ld 18)),(xi 20 17 false (Fa 1 1)),(xi 21 17 false (Ld 20)),(xi 22 17 false (Bb .gtr 19 21))] [18,19,20,21],oo 23 (Pt 17 22) [17,22],omk 24 23,.grp 24 false [(xi 25 24 false (Fa 1 1)),(xi 26 24 false (Ld 25)),(xi 27 24 false (Bc .gtr 26 1000000))] [25,26],oo 28 (Pt 24 27) [24,27],omk 29 28,.grp 29 false [(xi 30 29 false (Fa 3 1)),(xi 31 29 false (Ld 30)),(xi 32 29 false (Bc .lss 31 0))] [30,31],oo 33 (Pt 29 32) [29,32],omk 34 33,.grp 34 false [(xi 35 34 false (Fa 3 1)),(xi 36 34 false (Ld 35)),(xi 37 34 false (Fa 4 1)),(xi 38 34 false (Ld 37)),(xi 39 34 false (Bb .geq 36 38))] [35,36,37,38],oo 40 (Pt 34 39) [34,39],omk 41 40,.grp 41 false [(xi 42 41 false (Fa 4 1)),(xi 43 41 false (Ld 42)),(xi 44 41 false (Bc .gtr 43 1099511627776))] [42,43],oo 45 (Pt 41 44) [41,44],omk 13 45]
def Tp:List RI:=[on 47 (Fa 5 1),oo 48 (Ld 47) [47],oo 49 (Ln 48) [48],oo 50 (Bc .gtr 49 16) [49],omk 51 50,.grp 51 false [(xi 52 51 false (Fa 6 1)),(xi 53 51 false (Ld 52)),(xi 54 51 false (Ln 53)),(xi 55 51 false (Bc .gtr 54 8))] [52,53,54],oo 56 (Pt 51 55) [51,55],omk 46 56]
def To:List RI:=[on 57 (Fa 5 1),oo 58 (Ld 57) [57],on 59 (Ln 58),on 60 (Mc 0)]
def Tn:List RI:=[on 61 (Bb .lss 60 59)]
def Tm:List RI:=[om 62 60,on 63 (Ia 4 58 60),oo 64 (Lt 4 63) [63],on 4 (.new (.rc Zq0)),omk 3 62,Sr 4 4 64 [64]]
def GG:List RI:=[on 66 (Fa 0 4),oo 67 (Ld 66) [66],oo 68 (Bc .lss 67 1) [67],omk 69 68,.grp 69 false [(xi 70 69 false (Fa 0 4)),(xi 71 69 false (Ld 70)),(xi 72 69 false (Bc .gtr 71 3))] [70,71],oo 73 (Pt 69 72) [69,72],omk 74 73,.grp 74 false [(xi 75 74 false (Fa 2 4)),(xi 76 74 false (Ld 75)),(xi 77 74 false (Bc .lss 76 0))] [75,76],oo 78 (Pt 74 77) [74,77],omk 79 78,.grp 79 false [(xi 80 79 false (Fa 2 4)),(xi 81 79 false (Ld 80)),(xi 82 79 false (Bc .gtr 81 1000000))] [80,81],oo 83 (Pt 79 82) [79,82],omk 84 83,.grp 84 false [(xi 85 84 false (Fa 3 4)),(xi 86 84 false (Ld 85)),(xi 87 84 false (Ln 86)),(xi 88 84 false (Bc .neq 87 32))] [85,86,87],oo 89 (Pt 84 88) [84,88],omk 65 89]
def GF:List RI:=[on 91 (Fa 1 4),oo 92 (Ld 91) [91],oo 93 (Ca 115 [.t 92]) [92],oo 94 (.un .not (.t 93)) [93],omk 90 94]
def GE:List FI:=[Fm 0 96 3,Fs 1 97 (Bc .gtr 96 0),Fm 2 98 97,Fi 3 99 98 true (Fa 5 1),Fi 4 100 98 true (Ld 99),Fi 5 101 98 true (Mv 3),Fi 6 102 98 true (Bc .sub 101 1),Fi 7 103 98 true (Ia 4 100 102),Fi 8 104 98 true (Lt 4 103),Fi 9 105 98 true (Lt 4 4),Fy 10 106 98 true (Ca 67 [.t 104,.t 105]),Fi 11 107 98 true (Bc .geq 106 0),Fs 12 108 (Pf 98 107),Fm 13 95 108]
def GD:List RI:=[oo 109 (Bc .add 60 1) [60],omk 60 109]
def ya:RC:=(.post (So Tn (Sq (Kc 61 (Kk [61] .skip) (Kk [58,59,60,61] (.exit 1))) (Sq (Bk 2 (So Tm (Bk 3 (So GG (Kc 65 (Kk [1,3,4,58,59,60,65] (So gw .ret)) (Kk [65] (So GF (Kc 90 (Kk [1,3,4,58,59,60,90] (So vz .ret)) (Kk [90] (Sq (.flt [0,1,3,7,15,7,39,127,255,7,1023,2047,4095,8191] [] GE [3,4,96,97,98,99,100,101,102,103,104,105,106,107,108]) (Kc 95 (Kk [1,58,59,60,95] (So Nk .ret)) (Kk [95] .skip)))))))))))) (.ops GD)))) [.gc [104]])
def kP:RC:=ya
def GC:List RI:=[oo 110 (Fa 6 1) [1],oo 111 (Ld 110) [110],on 112 (Ln 111),on 113 (Mc 0)]
def GB:List RI:=[on 114 (Bb .lss 113 112)]
def GA:List RI:=[on 115 (Ia 4 111 113),oo 116 (Lt 4 115) [115],on 6 (.new (.rc Zq3)),Sr 4 6 116 [116]]
def Gz:List RI:=[oo 117 (Lt 4 6) [6],oo 118 (Ca 116 [.t 117]) [117],omk 7 118]
def Gy:List RI:=[om 119 7,oo 120 (Bc .neq 119 0) [119]]
def Gx:List RI:=[omk 121 7,omk 2 121]
def Gw:List RI:=[oo 122 (Bc .add 113 1) [113],omk 113 122]
def x9:RC:=(.post (So GB (Sq (Kc 114 (Kk [114] .skip) (Kk [111,112,113,114] (.exit 4))) (Sq (Bk 5 (So GA (So Gz (So Gy (Kc 120 (Kk [111,112,113,120] (So Gx .ret)) (Kk [7,120] .skip)))))) (.ops Gw)))) [.gc [106]])
def sx:RC:=x9
def r71:RC:=(So pr (Sq (Bk 0 (So Ts (Kc 8 (Kk [1,8] (So vz .ret)) (Kk [8] (So Tq (Kc 13 (Kk [1,13] (So gw .ret)) (Kk [13] (So Tp (Kc 46 (Kk [1,46] (So pq .ret)) (Kk [46] .skip)))))))))) (Sq (So To (Bk 1 (.loop kP))) (Sq (So GC (Bk 4 (.loop sx))) (So iC .ret)))))
def F71:FnC:=⟨r71,123,[.tmp 2],[],[]⟩
def Tl:List RI:=[om 5 1,omk 6 1,oo 7 (Ln 6) [6],oo 8 (.mini (.t 7) (ci 65535)) [7],oo 9 (.slcL 1 (.t 5) none (some (.t 8)) none) [5,8],omk 1 9]
def Tk:List RI:=[omk 10 0,om 11 1,oo 12 (Ln 11) [11],oo 13 (Ca 40 [.t 10,ci 2,.t 12]) [10,12],omk 14 1,oo 15 (.app [.u8 0] 1 (.t 13) (.t 14)) [13,14],omk 4 15]
def r72:RC:=(So ft (So Tl (So Tk .ret)))
def F72:FnC:=⟨r72,16,[.tmp 4],[0],[]⟩
def Tj:List RI:=[on 18 (Ca 117 []),on 3 (.new (.arr 1 (aD 64 [.int .u32 0]))),Sr 64 3 18 [18]]
def Ti:List RI:=[.own (xs 19 (.lit 1 [(.c (.int .u32 1779033703)),(.c (.int .u32 3144134277)),(.c (.int .u32 1013904242)),(.c (.int .u32 2773480762)),(.c (.int .u32 1359893119)),(.c (.int .u32 2600822924)),(.c (.int .u32 528734635)),(.c (.int .u32 1541459225))])) [],omk 4 19]
def Th:List RI:=[omk 20 0,oo 21 (Ca 118 [.t 20]) [20],omk 5 21]
def Tg:List RI:=[om 22 6,om 23 5,oo 24 (Ln 23) [23],oo 25 (Bb .lss 22 24) [22,24]]
def Tf:List RI:=[on 7 (.new (.arr 1 (aD 64 [.int .u32 0])))]
def Te:List RI:=[on 8 (Mc 0)]
def Td:List RI:=[om 28 8,oo 29 (Bc .lss 28 64) [28]]
def Tc:List RI:=[om 32 8,oo 33 (Bc .lss 32 16) [32]]
def Gv:List RI:=[om 34 8,om 35 5,om 36 6,om 37 6,oo 38 (Bc .add 37 64) [37],oo 39 (.slcL 1 (.t 35) (some (.t 36)) (some (.t 38)) none) [35,36,38],om 40 8,oo 41 (Ca 119 [.t 39,.t 40]) [39,40],oo 42 (.iaddrA 64 1 (.t 7) (.t 34)) [34],Sr 1 42 41 [41,42]]
def Gu:List FI:=[Fm 0 43 8,Fs 1 44 (Bc .sub 43 15),Fs 2 45 (.iaddrA 64 1 (.t 7) (.t 44)),Fs 3 46 (Ld 45),Fm 5 48 8,Fs 6 49 (Bc .sub 48 15),Fs 7 50 (.iaddrA 64 1 (.t 7) (.t 49)),Fs 8 51 (Ld 50),Fm 11 54 8,Fs 12 55 (Bc .sub 54 15),Fs 13 56 (.iaddrA 64 1 (.t 7) (.t 55)),Fs 14 57 (Ld 56),Fs 15 58 (.bin .shr (.t 57) (.c (.int .u64 3))),Fz 4 47 (Ca 120 [.t 46,(.c (.int .u64 7))]),Fz 9 52 (Ca 120 [.t 51,(.c (.int .u64 18))]),Fs 10 53 (Bb .xor 47 52),Fs 16 59 (Bb .xor 53 58),Fm 17 9 59]
def Gt:List FI:=[Fm 0 60 8,Fs 1 61 (Bc .sub 60 2),Fs 2 62 (.iaddrA 64 1 (.t 7) (.t 61)),Fs 3 63 (Ld 62),Fm 5 65 8,Fs 6 66 (Bc .sub 65 2),Fs 7 67 (.iaddrA 64 1 (.t 7) (.t 66)),Fs 8 68 (Ld 67),Fm 11 71 8,Fs 12 72 (Bc .sub 71 2),Fs 13 73 (.iaddrA 64 1 (.t 7) (.t 72)),Fs 14 74 (Ld 73),Fs 15 75 (.bin .shr (.t 74) (.c (.int .u64 10))),Fz 4 64 (Ca 120 [.t 63,(.c (.int .u64 17))]),Fz 9 69 (Ca 120 [.t 68,(.c (.int .u64 19))]),Fs 10 70 (Bb .xor 64 69),Fs 16 76 (Bb .xor 70 75),Fm 17 10 76]
def Gs:List FI:=[Fm 0 77 8,Fm 1 78 10,Fm 2 79 8,Fs 3 80 (Bc .sub 79 7),Fs 4 81 (.iaddrA 64 1 (.t 7) (.t 80)),Fs 5 82 (Ld 81),Fs 6 83 (Bb .add 78 82),Fm 7 84 9,Fs 8 85 (Bb .add 83 84),Fm 9 86 8,Fs 10 87 (Bc .sub 86 16),Fs 11 88 (.iaddrA 64 1 (.t 7) (.t 87)),Fs 12 89 (Ld 88),Fs 13 90 (Bb .add 85 89),Fs 14 91 (.iaddrA 64 1 (.t 7) (.t 77)),Fr 15 1 91 90]
def Gr:List RI:=[omk 30 8,oo 31 (Bc .add 30 1) [30],omk 8 31]
def x8:RC:=(Sq (So Td (Kc 29 (Kk [29] .skip) (Kk [8,29] (.exit 2)))) (Sq (Bk 3 (Sq (So Tc (Kc 33 (Kk [33] (So Gv (.exit 3))) (Kk [33] .skip))) (Sq (.flt [0,1,3,7,15,0,32,96,224,511,1023,0,2048,6144,14336,30720,65535,131071] [] Gu [43,44,45,46,47,48,49,50,51,52,53,54,55,56,57,58,59]) (Sq (.flt [0,1,3,7,15,0,32,96,224,511,1023,0,2048,6144,14336,30720,65535,131071] [] Gt [60,61,62,63,64,65,66,67,68,69,70,71,72,73,74,75,76]) (.flt [0,0,0,4,12,28,62,0,254,0,512,1536,3584,8190,16383,32767] [] Gs [9,10,77,78,79,80,81,82,83,84,85,86,87,88,89,90,91]))))) (.ops Gr)))
def wW:RC:=x8
def Gq:List RI:=[on 92 (.lit 1 []),om 93 4,oo 94 (.app [.int .u32 0] 4 (.t 92) (.t 93)) [92,93],omk 11 94]
def Gp:List RI:=[on 12 (Mc 0)]
def Gn:List RI:=[om 95 12,oo 96 (Bc .lss 95 64) [95]]
def Gm:List FI:=[Fm 0 99 11,Fs 1 100 (.iaddrL 1 (.t 99) (ci 0)),Fs 2 101 (Ld 100),Fm 3 102 11,Fs 4 103 (.iaddrL 1 (.t 102) (ci 4)),Fs 5 104 (Ld 103),Fm 6 13 101,Fm 7 14 104]
def Gl:List FI:=[Fm 0 105 11,Fs 1 106 (.iaddrL 1 (.t 105) (ci 7)),Fs 2 107 (Ld 106),Fm 3 108 14,Fm 5 110 14,Fm 8 113 14,Fm 12 117 14,Fm 13 118 11,Fs 14 119 (.iaddrL 1 (.t 118) (ci 5)),Fs 15 120 (Ld 119),Fs 16 121 (Bb .and 117 120),Fm 17 122 14,Fs 18 123 (.un .xor (.t 122)),Fm 19 124 11,Fs 20 125 (.iaddrL 1 (.t 124) (ci 6)),Fs 21 126 (Ld 125),Fs 22 127 (Bb .and 123 126),Fs 23 128 (Bb .xor 121 127),Fm 25 130 12,Fs 26 131 (.iaddrA 64 1 (.t 3) (.t 130)),Fs 27 132 (Ld 131),Fm 29 134 12,Fs 30 135 (.iaddrA 64 1 (.t 7) (.t 134)),Fs 31 136 (Ld 135),Fz 4 109 (Ca 120 [.t 108,(.c (.int .u64 6))]),Fz 6 111 (Ca 120 [.t 110,(.c (.int .u64 11))]),Fs 7 112 (Bb .xor 109 111),Fz 9 114 (Ca 120 [.t 113,(.c (.int .u64 25))]),Fs 10 115 (Bb .xor 112 114),Fs 11 116 (Bb .add 107 115),Fs 24 129 (Bb .add 116 128),Fs 28 133 (Bb .add 129 132),Fs 32 137 (Bb .add 133 136),Fm 33 15 137]
def Gk:List FI:=[Fm 0 138 13,Fm 2 140 13,Fm 5 143 13,Fm 8 146 13,Fm 9 147 11,Fs 10 148 (.iaddrL 1 (.t 147) (ci 1)),Fs 11 149 (Ld 148),Fs 12 150 (Bb .and 146 149),Fm 13 151 13,Fm 14 152 11,Fs 15 153 (.iaddrL 1 (.t 152) (ci 2)),Fs 16 154 (Ld 153),Fs 17 155 (Bb .and 151 154),Fs 18 156 (Bb .xor 150 155),Fm 19 157 11,Fs 20 158 (.iaddrL 1 (.t 157) (ci 1)),Fs 21 159 (Ld 158),Fm 22 160 11,Fs 23 161 (.iaddrL 1 (.t 160) (ci 2)),Fs 24 162 (Ld 161),Fs 25 163 (Bb .and 159 162),Fs 26 164 (Bb .xor 156 163),Fz 1 139 (Ca 120 [.t 138,(.c (.int .u64 2))]),Fz 3 141 (Ca 120 [.t 140,(.c (.int .u64 13))]),Fs 4 142 (Bb .xor 139 141),Fz 6 144 (Ca 120 [.t 143,(.c (.int .u64 22))]),Fs 7 145 (Bb .xor 142 144),Fs 27 165 (Bb .add 145 164),Fm 28 16 165]
def Gj:List FI:=[Fm 0 166 15,Fm 1 167 16,Fs 2 168 (Bb .add 166 167),Fm 3 169 13,Fm 4 170 11,Fs 5 171 (.iaddrL 1 (.t 170) (ci 1)),Fs 6 172 (Ld 171),Fm 7 173 11,Fs 8 174 (.iaddrL 1 (.t 173) (ci 2)),Fs 9 175 (Ld 174),Fm 10 176 11,Fs 11 177 (.iaddrL 1 (.t 176) (ci 3)),Fs 12 178 (Ld 177),Fm 13 179 15,Fs 14 180 (Bb .add 178 179),Fm 15 181 14,Fm 16 182 11,Fs 17 183 (.iaddrL 1 (.t 182) (ci 5)),Fs 18 184 (Ld 183),Fm 19 185 11,Fs 20 186 (.iaddrL 1 (.t 185) (ci 6)),Fs 21 187 (Ld 186),Fs 22 188 (.lit 1 [.t 168,.t 169,.t 172,.t 175,.t 180,.t 181,.t 184,.t 187]),⟨23,false,(xm 11 188)⟩]
def Gi:List RI:=[omk 97 12,oo 98 (Bc .add 97 1) [97],omk 12 98]
def x7:RC:=(Sq (So Gn (Kc 96 (Kk [96] .skip) (Kk [7,12,96] (.exit 4)))) (Sq (Bk 5 (Sq (.flt [0,1,3,0,8,24,7,127] [] Gm [99,100,101,102,103,104]) (Sq (.flt [0,1,3,0,8,0,56,120,0,376,1016,2047,0,0,8192,24576,61440,0,131072,0,524288,1572864,4063232,8384512,16777215,0,33554432,100663296,268435455,0,536870912,1610612736,4294967295,8589934591] [] Gl [105,106,107,108,109,110,111,112,113,114,115,116,117,118,119,120,121,122,123,124,125,126,127,128,129,130,131,132,133,134,135,136,137]) (Sq (.flt [0,1,0,7,15,0,47,127,0,0,512,1536,3840,0,0,16384,49152,122880,261888,0,524288,1572864,0,4194304,12582912,33030144,67108608,134217727,268435455] [] Gk [138,139,140,141,142,143,144,145,146,147,148,149,150,151,152,153,154,155,156,157,158,159,160,161,162,163,164,165]) (.flt [0,0,3,0,0,16,48,0,128,384,0,1024,3072,0,15360,0,0,65536,196608,0,524288,1572864,4194303,8388607] [] Gj [13,14,15,16,166,167,168,169,170,171,172,173,174,175,176,177,178,179,180,181,182,183,184,185,186,187,188]))))) (.ops Gi)))
def wV:RC:=x7
def wU:List RI:=[on 17 (Mc 0)]
def Gh:List RI:=[om 189 17,oo 190 (Bc .lss 189 8) [189]]
def Gg:List FI:=[Fm 0 193 4,Fm 1 194 17,Fs 2 195 (Ia 1 193 194),Fs 3 196 (Ld 195),Fm 4 197 11,Fm 5 198 17,Fs 6 199 (Ia 1 197 198),Fs 7 200 (Ld 199),Fs 8 201 (Bb .add 196 200),Fs 9 202 (Ia 1 193 194),Fr 10 1 202 201]
def Gf:List RI:=[omk 191 17,oo 192 (Bc .add 191 1) [191],omk 17 192]
def x6:RC:=(Sq (So Gh (Kc 190 (Kk [190] .skip) (Kk [11,17,190] (.exit 6)))) (Sq (Bk 7 (.flt [0,0,3,7,0,0,48,112,255,511,1023] [] Gg [193,194,195,196,197,198,199,200,201,202])) (.ops Gf)))
def wS:RC:=x6
def Ge:List RI:=[omk 26 6,oo 27 (Bc .add 26 64) [26],omk 6 27]
def x5:RC:=(.post (Sq (So Tg (Kc 25 (Kk [25] .skip) (Kk [3,5,6,25] (.exit 0)))) (Sq (Bk 1 (So Tf (Sq (So Te (Bk 2 (.loop wW))) (So Gq (Sq (So Gp (Bk 4 (.loop wV))) (So wU (Bk 6 (.loop wS)))))))) (.ops Ge))) [.gc [107,194]])
def wQ:RC:=x5
def Gd:List RI:=[omk 203 4,oo 204 (Ca 121 [.t 203]) [203],omk 2 204]
def r73:RC:=(So jl (So Tj (So Ti (So Th (Sq (So kA (Bk 0 (.loop wQ))) (So Gd .ret))))))
def F73:FnC:=⟨r73,205,[.tmp 2],[],[]⟩
def Tb:List RI:=[omk 4 0,omk 5 1,oo 6 (.nchk (.t 4)) [4],oo 7 (Fa 2 6) [6],Sr 1 7 5 [5,7]]
def r74:RC:=(.ops Tb)
def F74:FnC:=⟨r74,8,[],[],[]⟩
def Ta:List RI:=[oo 6 (.mov (.c (.byt [] .clip))) [6],oo 7 (Mc 0) [7]]
def S9:List RI:=[om 8 2,om 9 0,oo 10 (.nchk (.t 9)) [9],oo 11 (Fa 0 10) [10],oo 12 (Ld 11) [11],oo 13 (Ln 12) [12],om 14 1,oo 15 (Bb .sub 13 14) [13,14],oo 16 (Bb .gtr 8 15) [8,15]]
def S8:List RI:=[on 6 (.mov (.c (.byt [] .clip))),on 7 (Mc 2)]
def S7:List RI:=[omk 17 0,oo 18 (.nchk (.t 17)) [17],oo 19 (Fa 0 18) [18],oo 20 (Ld 19) [19],om 21 1,omk 22 1,omk 23 2,oo 24 (Bb .add 22 23) [22,23],oo 25 (.slcL 1 (.t 20) (some (.t 21)) (some (.t 24)) none) [20,21,24],omk 6 25,on 7 (Mc 0)]
def r75:RC:=(So Ta (Sq (So S9 (Kc 16 (Kk [0,1,2,16] (So S8 .ret)) (Kk [16] .skip))) (So S7 .ret)))
def F75:FnC:=⟨r75,26,[.tmp 6,.tmp 7],[],[]⟩
def M6:List FI:=[Fm 0 3 0,Fs 1 4 (.nchk (.t 3)),Fs 2 5 (Fa 0 4),Fs 3 6 (Ld 5),Fs 4 7 (Ln 6),Fm 5 8 0,Fs 6 9 (.nchk (.t 8)),Fs 7 10 (Fa 1 9),Fs 8 11 (Ld 10),Fs 9 12 (Bb .sub 7 11),Fm 10 2 12]
def r76:RC:=(So jk (Sq (.flt [0,1,3,7,15,0,32,96,224,511,1023] [] M6 [0,3,4,5,6,7,8,9,10,11,12]) .ret))
def F76:FnC:=⟨r76,13,[.tmp 2],[],[]⟩
def S6:List FI:=[Fm 0 5 0,Fs 1 6 (.nchk (.t 5)),Fs 2 7 (Fa 2 6),Fs 3 8 (Ld 7),Fs 4 9 (Bc .eql 8 0),Fm 5 10 9,Fi 6 11 10 true (Mv 0),Fi 7 12 10 true (.nchk (.t 11)),Fi 8 13 10 true (Fa 0 12),Fi 9 14 10 true (Ld 13),Fi 10 15 10 true (Ln 14),Fi 11 16 10 true (Mv 0),Fi 12 17 10 true (.nchk (.t 16)),Fi 13 18 10 true (Fa 1 17),Fi 14 19 10 true (Ld 18),Fi 15 20 10 true (Bb .sub 15 19),Fi 16 21 10 true (Mv 1),Fi 17 22 10 true (Bb .lss 20 21),Fs 18 23 (Pf 10 22)]
def S5:List RI:=[om 24 0,oo 25 (.nchk (.t 24)) [24],oo 26 (Fa 2 25) [25],.op ⟨none,none,.store 1 (.t 26) (ci 2)⟩ [26]]
def S4:List RI:=[omk 27 0,oo 28 (.nchk (.t 27)) [27],oo 29 (Fa 2 28) [28],oo 30 (Ld 29) [29],oo 31 (Bc .eql 30 0) [30],omk 4 31]
def r77:RC:=(So Da (Sq (Sq (.flt [0,1,3,7,15,31,63,127,255,511,1023,63,2111,6207,14399,32767,63,131071,262143] [] S6 [1,5,6,7,8,9,10,11,12,13,14,15,16,17,18,19,20,21,22]) (Kc 23 (Kk [23] (.ops S5)) (Kk [23] .skip))) (So S4 .ret)))
def F77:FnC:=⟨r77,32,[.tmp 4],[],[]⟩
def r78:RC:=(So jk (Sq (.flt [0,1,3,7,15,0,32,96,224,511,1023] [] M6 [0,3,4,5,6,7,8,9,10,11,12]) .ret))
def F78:FnC:=⟨r78,13,[.tmp 2],[],[]⟩
def S3:List RI:=[om 5 0,oo 6 (Ln 5) [5],oo 7 (Ca 122 [.t 6]) [6],oo 8 (.un .not (.t 7)) [7]]
def SZ:List RI:=[omk 9 0,omk 3 9]
def SY:List RI:=[om 10 3,oo 11 (Ln 10) [10],oo 12 (Bc .gtr 11 1) [11]]
def SX:List RI:=[om 15 4,omk 16 3,oo 17 (Ca 123 [.t 15,.t 16]) [15,16],omk 3 17]
def SW:List RI:=[omk 13 4,oo 14 (Bc .add 13 1) [13],omk 4 14]
def NC:RC:=(Sq (So SY (Kc 12 (Kk [12] .skip) (Kk [4,12] (.exit 0)))) (Sq (Bk 1 (.ops SX)) (.ops SW)))
def SU:RC:=NC
def SS:List RI:=[omk 18 3,oo 19 (.iaddrL 1 (.t 18) (ci 0)) [18],oo 20 (Ld 19) [19],oo 21 (Ca 124 [.t 20]) [20],omk 2 21]
def r79:RC:=(So jl (Sq (So S3 (Kc 8 (Kk [0,8] (So sD .ret)) (Kk [8] .skip))) (So SZ (Sq (So gJ (Bk 0 (.loop SU))) (So SS .ret)))))
def F79:FnC:=⟨r79,22,[.tmp 2],[],[]⟩
def sw:List RI:=[oo 4 (.mov (.c (.lst 1 [] .clip))) [4]]
def vy:List RI:=[on 5 (.mov (.c (.lst 1 [] .clip)))]
def SR:List RI:=[omk 8 0,om 9 1,oo 10 (Ca 92 [.t 8,.t 9]) [8,9],omk 6 10]
def C7:List RI:=[on 7 (Mc 0)]
def SQ:List RI:=[om 11 7,om 12 1,oo 13 (.toInt .u64 (.t 12)) [12],oo 14 (.bin .shl (ci 1) (.t 13)) [13],oo 15 (Bb .lss 11 14) [11,14]]
def SP:List RI:=[omk 18 5,om 19 6,om 20 7,oo 21 (Ca 125 [.t 19,.t 20]) [19,20],oo 22 (.lit 1 [.t 21]) [21],oo 23 (.app [.byt [] .clip] 24 (.t 18) (.t 22)) [18,22],omk 5 23]
def SN:List RI:=[omk 16 7,oo 17 (Bc .add 16 1) [16],omk 7 17]
def NB:RC:=(.post (Sq (So SQ (Kc 15 (Kk [15] .skip) (Kk [1,6,7,15] (.exit 0)))) (Sq (Bk 1 (.ops SP)) (.ops SN))) [.tok 5 105])
def SM:RC:=NB
def SL:List RI:=[omk 24 5,omk 4 24]
def r80:RC:=(So sw (So vy (So SR (Sq (So C7 (Bk 0 (.pre [.tok 5 105] (.loop SM)))) (So SL .ret)))))
def F80:FnC:=⟨r80,25,[.tmp 4],[],[]⟩
def SK:List RI:=[om 5 1,oo 6 (Ln 5) [5],oo 7 (Bc .gtr 6 65535) [6]]
def SJ:List RI:=[omk 8 1,oo 9 (.slcL 1 (.t 8) none (some (ci 65535)) none) [8],omk 1 9]
def SH:List RI:=[omk 10 0,om 11 1,oo 12 (Ln 11) [11],oo 13 (Ca 45 [.t 10,ci 2,.t 12]) [10,12],omk 14 1,oo 15 (.app [.u8 0] 1 (.t 13) (.t 14)) [13,14],omk 4 15]
def r82:RC:=(So ft (Sq (So SK (Kc 7 (Kk [7] (.ops SJ)) (Kk [7] .skip))) (So SH .ret)))
def F82:FnC:=⟨r82,16,[.tmp 4],[0],[]⟩
def nf:List RI:=[oo 2 (Mb false) [2]]
def SG:List RI:=[om 3 0,oo 4 (Bc .geq 3 0) [3],omk 5 4,.grp 5 true [(xi 6 5 true (Mv 0)),(xi 7 5 true (Bc .leq 6 3))] [0,6],oo 8 (Pf 5 7) [5,7],omk 2 8]
def r86:RC:=(So nf (So SG .ret))
def F86:FnC:=⟨r86,9,[.tmp 2],[],[]⟩
def SF:List RI:=[oo 3 (.box (.t 0)) [0],oo 4 (.box (.t 1)) [1],oo 6 (.mov (.c (.byt [] .clip))) [6]]
def SE:List RI:=[on 9 (Ld 4),oo 10 (Ca 131 [.t 9]) [9],oo 11 (.un .not (.t 10)) [10]]
def C6:List RI:=[on 6 (.mov (.c (.byt [] .clip)))]
def SD:List RI:=[omk 12 2,oo 13 (Ca 132 [.t 12]) [12],on 7 (.new (.rc [.lst 1 [] .clip])),Sr 1 7 13 [13]]
def SC:List RI:=[oo 14 (.mkfn 133 [] [.t 3,.t 4]) [3],omk 8 14]
def SB:List RI:=[oo 15 (Ld 4) [4],omk 16 8,oo 17 (.mkfn 137 [] [.t 7]) [7],oo 18 (Ca 135 [.t 15,.t 16,(.f 136),.t 17]) [15,16,17],omk 6 18]
def r87:RC:=(So SF (Sq (So SE (Kc 11 (Kk [2,3,4,11] (So C6 .ret)) (Kk [11] .skip))) (So SD (So SC (So SB .ret)))))
def F87:FnC:=⟨r87,19,[.tmp 6],[],[]⟩
def SA:List RI:=[omk 5 0,omk 6 1,oo 7 (.toInt .u8 (.t 6)) [6],oo 8 (.litB [.t 7]) [7],oo 9 (Ca 138 [.t 5,(.c (.str [115,105,103,110,101,114])),.t 8,ci 32]) [5,8],omk 4 9]
def r88:RC:=(So ft (So SA .ret))
def F88:FnC:=⟨r88,10,[.tmp 4],[],[]⟩
def Sz:List RI:=[om 9 1,oo 10 (Ln 9) [9],oo 11 (Ca 139 [.t 10]) [10],omk 5 11]
def Sx:List RI:=[om 12 5,oo 13 (Bc .lss 12 0) [12],omk 14 13,.grp 14 false [(xi 15 14 false (Mv 0)),(xi 16 14 false (Bc .lss 15 0))] [15],oo 17 (Pt 14 16) [14,16],omk 18 17,.grp 18 false [(xi 19 18 false (Mv 0)),(xi 20 18 false (Mv 1)),(xi 21 18 false (Ln 20)),(xi 22 18 false (Bb .geq 19 21))] [19,20,21],oo 23 (Pt 18 22) [18,22]]
def C5:List RI:=[on 4 (.mov (.c (.lst 1 [] .clip)))]
def M5:List RI:=[on 6 (.mov (.c (.lst 1 [] .clip)))]
def Sw:List RI:=[omk 24 1,oo 25 (Ca 140 [.t 24]) [24],omk 26 5,oo 27 (.slcL 1 (.t 25) none (some (.t 26)) none) [25,26],on 28 (Ln 27),on 29 (Mc 0)]
def Sv:List RI:=[on 30 (Bb .lss 29 28)]
def Su:List RI:=[om 31 29,on 32 (Ia 1 27 29),oo 33 (Ld 32) [32],omk 7 31,omk 8 33]
def Ss:List RI:=[omk 34 6,omk 35 8,om 36 0,omk 37 7,oo 38 (.toInt .u64 (.t 37)) [37],oo 39 (Bb .shr 36 38) [36,38],oo 40 (Bc .xor 39 1) [39],oo 41 (Ia 1 35 40) [35,40],oo 42 (Ld 41) [41],oo 43 (.app [.u8 0] 1 (.c (.byt [] .clip)) (.t 42)) [42],oo 44 (.lit 1 [.t 43]) [43],oo 45 (.app [.byt [] .clip] 24 (.t 34) (.t 44)) [34,44],omk 6 45]
def Sp:List RI:=[oo 46 (Bc .add 29 1) [29],omk 29 46]
def x0:RC:=(.post (So Sv (Sq (Kc 30 (Kk [30] .skip) (Kk [0,27,28,29,30] (.exit 0))) (Sq (Bk 1 (So Su (.ops Ss))) (.ops Sp)))) [.gc [143],.tok 6 106])
def Gc:RC:=x0
def Gb:List RI:=[omk 47 6,omk 4 47]
def r89:RC:=(So sw (So Sz (Sq (So Sx (Kc 23 (Kk [0,1,5,23] (So C5 .ret)) (Kk [23] .skip))) (So M5 (Sq (So Sw (Bk 0 (.pre [.tok 6 106] (.loop Gc)))) (So Gb .ret))))))
def F89:FnC:=⟨r89,48,[.tmp 4],[],[]⟩
def Sn:List RI:=[omk 8 0,om 9 1,oo 10 (Ca 88 [.t 8,.t 9]) [8,9],omk 5 10]
def Sm:List RI:=[omk 11 1,oo 12 (.toInt .u64 (.t 11)) [11],oo 13 (.bin .shl (ci 1) (.t 12)) [12],on 14 (Mc 0)]
def C4:List RI:=[on 15 (Bb .lss 14 13)]
def Sl:List RI:=[om 16 14,omk 7 16]
def Sk:List RI:=[omk 17 6,om 18 5,omk 19 7,oo 20 (Ca 141 [.t 18,.t 19]) [18,19],oo 21 (.lit 1 [.t 20]) [20],oo 22 (.app [.byt [] .clip] 24 (.t 17) (.t 21)) [17,21],omk 6 22]
def Sj:List RI:=[oo 23 (Bc .add 14 1) [14],omk 14 23]
def NA:RC:=(.post (So C4 (Sq (Kc 15 (Kk [15] .skip) (Kk [5,13,14,15] (.exit 0))) (Sq (Bk 1 (So Sl (.ops Sk))) (.ops Sj)))) [.tok 6 106])
def Sh:RC:=NA
def Sg:List RI:=[omk 24 6,omk 4 24]
def r90:RC:=(So sw (So Sn (So M5 (Sq (So Sm (Bk 0 (.pre [.tok 6 106] (.loop Sh)))) (So Sg .ret)))))
def F90:FnC:=⟨r90,25,[.tmp 4],[],[]⟩
def Sf:List RI:=[om 10 1,oo 11 (Bc .lss 10 0) [10],omk 12 11,.grp 12 false [(xi 13 12 false (Mv 1)),(xi 14 12 false (Bc .gtr 13 255))] [13],oo 15 (Pt 12 14) [12,14]]
def Se:List RI:=[omk 16 2,oo 17 (Ca 142 [.t 16]) [16],omk 7 17]
def Sd:List RI:=[om 18 9,oo 19 (Bc .lss 18 35) [18]]
def Sc:List FI:=[Fm 0 22 8,Fm 1 23 1,Fm 2 24 9,Fm 3 25 7,Fm 4 26 9,Fs 5 27 (Ia 1 25 26),Fs 6 28 (Ld 27),Fm 7 29 0,Fm 8 30 1,Fm 9 31 9,Fz 10 32 (Ca 144 [.t 29,.t 30,.t 31]),Fz 11 33 (Ca 143 [.t 23,.t 24,ci 0,.t 28,.t 32]),Fz 12 34 (.app [.u8 0] 1 (.t 22) (.t 33)),⟨13,false,(xm 8 34)⟩]
def Sb:List RI:=[omk 20 9,oo 21 (Bc .add 20 1) [20],omk 9 21]
def Nz:RC:=(.post (Sq (So Sd (Kc 19 (Kk [19] .skip) (Kk [0,1,7,9,19] (.exit 0)))) (Sq (Bk 1 (.flt [0,0,0,0,0,24,56,0,0,0,896,2046,4095,8191] [134] Sc [22,23,24,25,26,27,28,29,30,31,32,33,34])) (.ops Sb))) [.tok 8 108])
def C3:RC:=Nz
def Ga:List RI:=[omk 35 8,omk 6 35]
def r91:RC:=(So po (Sq (So Sf (Kc 15 (Kk [0,1,2,15] (So C6 .ret)) (Kk [15] .skip))) (So Se (So sC (Sq (So xe (Bk 0 (.pre [.tok 8 108] (.loop C3)))) (So Ga .ret))))))
def F91:FnC:=⟨r91,36,[.tmp 6],[],[]⟩
def Sa:List RI:=[omk 5 0,omk 6 1,oo 7 (.toInt .u8 (.t 6)) [6],oo 8 (.litB [.t 7]) [7],oo 9 (Ca 145 [.t 5,(.c (.str [115,105,103,110,101,114])),.t 8,ci 32]) [5,8],omk 4 9]
def r92:RC:=(So ft (So Sa .ret))
def F92:FnC:=⟨r92,10,[.tmp 4],[],[]⟩
def R9:List RI:=[om 8 1,oo 9 (Ln 8) [8],oo 10 (Ca 122 [.t 9]) [9],oo 11 (.un .not (.t 10)) [10],omk 12 11,.grp 12 false [(xi 13 12 false (Mv 0)),(xi 14 12 false (Bc .lss 13 0))] [13],oo 15 (Pt 12 14) [12,14],omk 16 15,.grp 16 false [(xi 17 16 false (Mv 0)),(xi 18 16 false (Mv 1)),(xi 19 16 false (Ln 18)),(xi 20 16 false (Bb .geq 17 19))] [17,18,19],oo 21 (Pt 16 20) [16,20]]
def R8:List RI:=[omk 22 1,omk 6 22]
def R7:List RI:=[om 23 6,oo 24 (Ln 23) [23],oo 25 (Bc .gtr 24 1) [24]]
def R6:List RI:=[omk 28 5,om 29 6,om 30 0,oo 31 (Bc .xor 30 1) [30],oo 32 (Ia 1 29 31) [29,31],oo 33 (Ld 32) [32],oo 34 (Ca 124 [.t 33]) [33],oo 35 (.lit 1 [.t 34]) [34],oo 36 (.app [.byt [] .clip] 24 (.t 28) (.t 35)) [28,35],omk 5 36]
def R5:List RI:=[om 37 7,omk 38 6,oo 39 (Ca 123 [.t 37,.t 38]) [37,38],omk 6 39]
def R4:List RI:=[omk 40 0,oo 41 (Bc .quo 40 2) [40],omk 0 41]
def F9:List RI:=[omk 26 7,oo 27 (Bc .add 26 1) [26],omk 7 27]
def xZ:RC:=(.post (Sq (So R7 (Kc 25 (Kk [25] .skip) (Kk [0,6,7,25] (.exit 0)))) (Sq (Bk 1 (So R6 (So R5 (.ops R4)))) (.ops F9))) [.tok 5 105])
def F8:RC:=xZ
def wP:List RI:=[omk 42 5,omk 4 42]
def r93:RC:=(So sw (Sq (So R9 (Kc 21 (Kk [0,1,21] (So C5 .ret)) (Kk [21] .skip))) (So vy (So R8 (Sq (So C7 (Bk 0 (.pre [.tok 5 105] (.loop F8)))) (So wP .ret))))))
def F93:FnC:=⟨r93,43,[.tmp 4],[],[]⟩
def R3:List RI:=[oo 5 (.box (.t 2)) [2],oo 6 (.mov (.c (.byt [] .clip))) [6],oo 7 (Mb false) [7]]
def R2:List RI:=[om 10 0,oo 11 (Ca 131 [.t 10]) [10],oo 12 (.un .not (.t 11)) [11],omk 13 12,.grp 13 false [(xi 14 13 false (Ld 5)),(xi 15 13 false (Ln 14)),(xi 16 13 false (Bc .neq 15 560))] [14,15],oo 17 (Pt 13 16) [13,16]]
def RZ:List RI:=[on 6 (.mov (.c (.byt [] .clip))),on 7 (Mb false)]
def RY:List RI:=[omk 18 1,oo 19 (Ca 132 [.t 18]) [18],on 8 (.new (.rc [.lst 1 [] .clip])),Sr 1 8 19 [19]]
def RX:List RI:=[oo 20 (.mkfn 146 [] [.t 5]) [5],omk 9 20]
def RW:List RI:=[om 21 0,omk 22 0,omk 23 9,oo 24 (.mkfn 148 [] [.t 8]) [8],oo 25 (Ca 135 [.t 22,.t 23,.t 24,(.f 149)]) [22,23,24],oo 26 (Ca 147 [.t 21,.t 25]) [21,25],omk 6 26,on 7 (Mb true)]
def r94:RC:=(So R3 (Sq (So R2 (Kc 17 (Kk [0,1,5,17] (So RZ .ret)) (Kk [17] .skip))) (So RY (So RX (So RW .ret)))))
def F94:FnC:=⟨r94,27,[.tmp 6,.tmp 7],[],[]⟩
def RU:List RI:=[om 12 2,oo 13 (Ln 12) [12],oo 14 (Bc .gtr 13 3) [13],omk 15 14,.grp 15 false [(xi 16 15 false (Mv 1)),(xi 17 15 false (Bc .lss 16 0))] [16],oo 18 (Pt 15 17) [15,17],omk 19 18,.grp 19 false [(xi 20 19 false (Mv 1)),(xi 21 19 false (Mv 2)),(xi 22 19 false (Ln 21)),(xi 23 19 false (.toInt .u64 (.t 22))),(xi 24 19 false (.bin .shl (ci 1) (.t 23))),(xi 25 19 false (Bb .geq 20 24))] [20,21,22,23,24],oo 26 (Pt 19 25) [19,25]]
def RT:List RI:=[omk 27 0,oo 28 (.app [.u8 0] 1 (.c (.byt [] .clip)) (.t 27)) [27],omk 7 28]
def RS:List RI:=[omk 29 2,on 30 (Ln 29),on 31 (Mc 0)]
def RR:List RI:=[on 32 (Bb .lss 31 30)]
def RQ:List RI:=[om 33 31,on 34 (Ia 1 29 31),oo 35 (Ld 34) [34],omk 8 33,omk 9 35]
def RP:List RI:=[om 36 7,om 37 9,omk 10 36,omk 11 37]
def RO:List RI:=[om 38 1,oo 39 (Bc .and 38 1) [38],oo 40 (Bc .eql 39 1) [39]]
def RN:List RI:=[omk 41 9,omk 42 7,omk 10 41,omk 11 42]
def F7:List RI:=[omk 43 1,oo 44 (.bin .shr (.t 43) (.c (.int .u64 1))) [43],omk 1 44]
def F6:List RI:=[omk 45 8,om 46 1,omk 47 10,omk 48 11,oo 49 (Ca 150 [.t 45,.t 46,.t 47,.t 48]) [45,46,47,48],omk 7 49]
def F5:List RI:=[oo 50 (Bc .add 31 1) [31],omk 31 50]
def xY:RC:=(So RR (Sq (Kc 32 (Kk [32] .skip) (Kk [1,29,30,31,32] (.exit 0))) (Sq (Bk 1 (So RQ (So RP (Sq (So RO (Kc 40 (Kk [10,11,40] (.ops RN)) (Kk [7,9,40] .skip))) (So F7 (.ops F6)))))) (.ops F5))))
def wO:RC:=xY
def F4:List RI:=[omk 51 7,omk 6 51]
def r95:RC:=(So po (Sq (So RU (Kc 26 (Kk [0,1,2,26] (So C6 .ret)) (Kk [26] .skip))) (So RT (Sq (So RS (Bk 0 (.loop wO))) (So F4 .ret)))))
def F95:FnC:=⟨r95,52,[.tmp 6],[],[]⟩
def RM:List RI:=[omk 3 0,oo 4 (.toInt .u32 (.t 3)) [3],oo 5 (Ca 160 [.t 4]) [4],omk 2 5]
def RL:List RI:=[omk 6 0,oo 7 (Ca 161 [.t 6]) [6],omk 2 7]
def r97:RC:=(So jk (Sq (.cond (.c (.bool false)) (So RM .ret) .skip) (So RL .ret)))
def F97:FnC:=⟨r97,8,[.tmp 2],[],[]⟩
def RK:List RI:=[om 15 0,oo 16 (.mkfn 75 [.t 15] []) [15],omk 5 16]
def RJ:List RI:=[om 18 5,om 19 0,oo 20 (.nchk (.t 19)) [19],oo 21 (Fa 1 20) [20],oo 22 (Ld 21) [21],oo 23 (.call (.t 18) [.t 22,ci 2]) [18,22],omk 17 23,on 24 (.ext (.t 17) 0),oo 25 (.ext (.t 17) 1) [17],omk 6 24,omk 7 25]
def RH:List RI:=[om 26 7,oo 27 (Bc .neq 26 0) [26]]
def RG:List RI:=[omk 28 0,omk 29 7,oo 30 (Ca 74 [.t 28,.t 29]) [28,29,30]]
def RF:List FI:=[Fm 0 31 6,Fs 1 32 (.iaddrL 1 (.t 31) (ci 0)),Fs 2 33 (Ld 32),Fs 3 34 (.toInt .i64 (.t 33)),Fs 4 35 (.bin .shl (.t 34) (.c (.int .u64 8))),Fm 5 36 6,Fs 6 37 (.iaddrL 1 (.t 36) (ci 1)),Fs 7 38 (Ld 37),Fs 8 39 (.toInt .i64 (.t 38)),Fs 9 40 (Bb .or 35 39),Fm 10 8 40]
def RE:List RI:=[om 41 8,omk 42 1,oo 43 (Bb .gtr 41 42) [41,42]]
def F3:List RI:=[omk 44 0,oo 45 (Ca 74 [.t 44,ci 4]) [44,45]]
def F2:List RI:=[omk 47 5,om 48 0,oo 49 (.nchk (.t 48)) [48],oo 50 (Fa 1 49) [49],oo 51 (Ld 50) [50],oo 52 (Bc .add 51 2) [51],om 53 8,oo 54 (.call (.t 47) [.t 52,.t 53]) [47,52,53],omk 46 54,on 55 (.ext (.t 46) 0),oo 56 (.ext (.t 46) 1) [46],omk 9 55,omk 7 56]
def F1:List RI:=[om 57 7,oo 58 (Bc .neq 57 0) [57]]
def F0:List RI:=[omk 59 0,omk 60 7,oo 61 (Ca 74 [.t 59,.t 60]) [59,60,61]]
def FZ:List RI:=[omk 62 0,on 63 (.nchk (.t 62)),oo 64 (Fa 1 63) [63],oo 65 (Ld 64) [64],omk 66 8,oo 67 (.bin .add (ci 2) (.t 66)) [66],oo 68 (Bb .add 65 67) [65,67],oo 69 (.nchk (.t 62)) [62],oo 70 (Fa 1 69) [69],Sr 1 70 68 [68,70]]
def FY:List RI:=[omk 71 9,oo 72 (.app [.u8 0] 1 (.c (.byt [] .clip)) (.t 71)) [71],omk 4 72]
def r99:RC:=(So ft (Sq (So Nc (Kc 14 (Kk [0,1,14] (So im .ret)) (Kk [14] .skip))) (So RK (So RJ (Sq (So RH (Kc 27 (Kk [1,5,6,27] (So RG (So im .ret))) (Kk [7,27] .skip))) (Sq (.flt [0,1,3,7,15,0,32,96,224,511,1023] [] RF [6,31,32,33,34,35,36,37,38,39,40]) (Sq (So RE (Kc 43 (Kk [5,8,43] (So F3 (So im .ret))) (Kk [43] .skip))) (So F2 (Sq (So F1 (Kc 58 (Kk [8,9,58] (So F0 (So im .ret))) (Kk [7,58] .skip))) (So FZ (So FY .ret)))))))))))
def F99:FnC:=⟨r99,73,[.tmp 4],[],[]⟩
def Mi:List RI:=[omk 3 0,oo 4 (.nchk (.t 3)) [3],oo 5 (Fa 2 4) [4],oo 6 (Ld 5) [5],omk 2 6]
def xi0:RC:=(So jk (So Mi .ret))
def Zk:FnC:=⟨xi0,7,[.tmp 2],[],[]⟩
def xR:List RI:=[oo 1 (.box (.t 0)) [0],oo 2 (.mov (.c (.lst 1 [] .clip))) [2]]
def sI:List RI:=[on 3 (.mov (.c (.lst 1 [] .clip)))]
def Mh:List RI:=[oo 6 (Fa 3 1) [1],oo 7 (Ld 6) [6],omk 4 7]
def Mg:List RI:=[om 8 4,oo 9 (Ln 8) [8],oo 10 (Bc .gtr 9 0) [9]]
def Mf:List RI:=[om 11 4,oo 12 (Ca 164 [.t 11,(.c (.u8 10))]) [11],omk 5 12]
def Me:List RI:=[om 13 5,oo 14 (Bc .lss 13 1) [13],omk 15 14,.grp 15 false [(xi 16 15 false (Mv 3)),(xi 17 15 false (Ln 16)),(xi 18 15 false (Bc .eql 17 4))] [16,17],oo 19 (Pt 15 18) [15,18],omk 20 19,.grp 20 false [(xi 21 20 false (Mv 4)),(xi 22 20 false (Mv 5)),(xi 23 20 false (.slcL 1 (.t 21) none (some (.t 22)) none)),(xi 24 20 false (Ca 165 [.t 23])),(xi 25 20 false (.un .not (.t 24)))] [21,22,23,24],oo 26 (Pt 20 25) [20,25]]
def oW:List RI:=[on 2 (.mov (.c (.lst 1 [] .clip)))]
def Md:List RI:=[omk 27 3,om 28 4,om 29 5,om 30 5,oo 31 (.slcL 1 (.t 28) none (some (.t 29)) (some (.t 30))) [28,29,30],oo 32 (.lit 1 [.t 31]) [31],oo 33 (.app [.byt [] .clip] 24 (.t 27) (.t 32)) [27,32],omk 3 33]
def Ma:List RI:=[omk 34 4,omk 35 5,oo 36 (Bc .add 35 1) [35],oo 37 (.slcL 1 (.t 34) (some (.t 36)) none none) [34,36],omk 4 37]
def yO:RC:=(.post (Sq (So Mg (Kc 10 (Kk [10] .skip) (Kk [4,10] (.exit 0)))) (Bk 1 (So Mf (Sq (So Me (Kc 26 (Kk [3,4,5,26] (So oW .ret)) (Kk [26] .skip))) (So Md (.ops Ma)))))) [.tok 3 103])
def sH:RC:=yO
def AE:List RI:=[omk 38 3,omk 2 38]
def xiZ:RC:=(So xR (So sI (Sq (So Mh (Bk 0 (.pre [.tok 3 103] (.loop sH)))) (So AE .ret))))
def Zj:FnC:=⟨xiZ,39,[.tmp 2],[],[]⟩
def L9:List RI:=[om 6 0,oo 7 (Ln 6) [6],oo 8 (Bc .add 7 72) [7],oo 9 (.mkB (ci 0) (.t 8)) [8],om 10 0,.dir (.tok 9 109),oo 11 (.app [.u8 0] 1 (.t 9) (.t 10)) [9,10],on 12 (.litB [(.c (.u8 128))]),oo 13 (.app [.u8 0] 1 (.t 11) (.t 12)) [11,12],omk 3 13]
def L8:List RI:=[om 14 3,oo 15 (Ln 14) [14],oo 16 (Bc .rem 15 64) [15],oo 17 (Bc .neq 16 56) [16]]
def L7:List RI:=[omk 18 3,on 19 (.litB [(.c (.u8 0))]),oo 20 (.app [.u8 0] 1 (.t 18) (.t 19)) [18,19],omk 3 20]
def yN:RC:=(.post (Sq (So L8 (Kc 17 (Kk [17] .skip) (Kk [17] (.exit 0)))) (Bk 1 (.ops L7))) [.tok 3 103])
def xQ:RC:=yN
def L6:List RI:=[omk 21 0,oo 22 (Ln 21) [21],oo 23 (.toInt .u64 (.t 22)) [22],oo 24 (.bin .mul (.t 23) (.c (.int .u64 8))) [23],omk 4 24]
def L5:List RI:=[on 5 (Mc 56)]
def L4:List RI:=[om 25 5,oo 26 (Bc .geq 25 0) [25]]
def L3:List RI:=[omk 29 3,om 30 4,om 31 5,oo 32 (.toInt .u64 (.t 31)) [31],oo 33 (Bb .shr 30 32) [30,32],oo 34 (.toInt .u8 (.t 33)) [33],oo 35 (.litB [.t 34]) [34],oo 36 (.app [.u8 0] 1 (.t 29) (.t 35)) [29,35],omk 3 36]
def L2:List RI:=[omk 27 5,oo 28 (Bc .sub 27 8) [27],omk 5 28]
def rZ:RC:=(.post (Sq (So L4 (Kc 26 (Kk [26] .skip) (Kk [4,5,26] (.exit 2)))) (Sq (Bk 3 (.ops L3)) (.ops L2))) [.tok 3 103])
def rh:RC:=rZ
def rg:List RI:=[omk 37 3,omk 2 37]
def xiY:RC:=(So jl (So L9 (Sq (Bk 0 (.pre [.tok 3 103] (.loop xQ))) (So L6 (Sq (So L5 (Bk 2 (.pre [.tok 3 103] (.loop rh)))) (So rg .ret))))))
def Zi:FnC:=⟨xiY,38,[.tmp 2],[],[]⟩
def L1:List RI:=[om 6 0,oo 7 (Ln 6) [6],oo 8 (.bin .mul (ci 4) (.t 7)) [7],oo 9 (.mkB (ci 0) (.t 8)) [8],omk 3 9]
def L0:List RI:=[omk 10 0,on 11 (Ln 10),on 12 (Mc 0)]
def LZ:List RI:=[on 14 (Ia 1 10 12),oo 15 (Ld 14) [14],omk 5 15]
def LY:List RI:=[omk 16 3,om 17 5,oo 18 (.bin .shr (.t 17) (.c (.int .u64 24))) [17],oo 19 (.toInt .u8 (.t 18)) [18],om 20 5,oo 21 (.bin .shr (.t 20) (.c (.int .u64 16))) [20],oo 22 (.toInt .u8 (.t 21)) [21],om 23 5,oo 24 (.bin .shr (.t 23) (.c (.int .u64 8))) [23],oo 25 (.toInt .u8 (.t 24)) [24],omk 26 5,oo 27 (.toInt .u8 (.t 26)) [26],oo 28 (.litB [.t 19,.t 22,.t 25,.t 27]) [19,22,25,27],.dir (.tok 16 116),oo 29 (.app [.u8 0] 1 (.t 16) (.t 28)) [16,28],omk 3 29]
def LX:List RI:=[oo 30 (Bc .add 12 1) [12],omk 12 30]
def yM:RC:=(.post (So Nl (Sq (Kc 13 (Kk [13] .skip) (Kk [10,11,12,13] (.exit 0))) (Sq (Bk 1 (So LZ (.ops LY))) (.ops LX)))) [.tok 3 103])
def xP:RC:=yM
def LW:List RI:=[omk 31 3,omk 2 31]
def xiX:RC:=(So jl (So L1 (Sq (So L0 (Bk 0 (.pre [.tok 3 103] (.loop xP)))) (So LW .ret))))
def Zh:FnC:=⟨xiX,32,[.tmp 2],[],[]⟩
def LV:List RI:=[on 4 (.new (.arr 1 (aD 64 [.int .u32 0])))]
def LU:List RI:=[on 18 (Bc .lss 17 64)]
def LS:List RI:=[om 19 17,omk 5 19]
def LR:List RI:=[om 20 5,oo 21 (Bc .lss 20 16) [20]]
def LQ:List RI:=[om 22 5,om 23 1,omk 24 5,oo 25 (Ca 166 [.t 23,.t 24]) [23,24],oo 26 (.iaddrA 64 1 (.t 4) (.t 22)) [22],Sr 1 26 25 [25,26]]
def LP:List FI:=[Fm 0 27 5,Fs 1 28 (Bc .sub 27 15),Fs 2 29 (.iaddrA 64 1 (.t 4) (.t 28)),Fs 3 30 (Ld 29),Fm 4 31 5,Fs 5 32 (Bc .sub 31 2),Fs 6 33 (.iaddrA 64 1 (.t 4) (.t 32)),Fs 7 34 (Ld 33),Fm 8 6 30,Fm 9 7 34]
def LO:List RI:=[om 35 6,oo 36 (Ca 167 [.t 35,ci (-7)]) [35],om 37 6,oo 38 (Ca 167 [.t 37,ci (-18)]) [37],oo 39 (Bb .xor 36 38) [36,38],omk 40 6,oo 41 (.bin .shr (.t 40) (.c (.int .u64 3))) [40],oo 42 (Bb .xor 39 41) [39,41],omk 8 42]
def LN:List RI:=[om 43 7,oo 44 (Ca 167 [.t 43,ci (-17)]) [43],om 45 7,oo 46 (Ca 167 [.t 45,ci (-19)]) [45],oo 47 (Bb .xor 44 46) [44,46],omk 48 7,oo 49 (.bin .shr (.t 48) (.c (.int .u64 10))) [48],oo 50 (Bb .xor 47 49) [47,49],omk 9 50]
def LM:List FI:=[Fm 0 51 5,Fm 1 52 9,Fm 2 53 5,Fs 3 54 (Bc .sub 53 7),Fs 4 55 (.iaddrA 64 1 (.t 4) (.t 54)),Fs 5 56 (Ld 55),Fs 6 57 (Bb .add 52 56),Fm 7 58 8,Fs 8 59 (Bb .add 57 58),Fm 9 60 5,Fs 10 61 (Bc .sub 60 16),Fs 11 62 (.iaddrA 64 1 (.t 4) (.t 61)),Fs 12 63 (Ld 62),Fs 13 64 (Bb .add 59 63),Fs 14 65 (.iaddrA 64 1 (.t 4) (.t 51)),Fr 15 1 65 64]
def AD:List RI:=[oo 66 (Bc .add 17 1) [17],omk 17 66]
def rY:RC:=(So LU (Sq (Kc 18 (Kk [18] .skip) (Kk [1,17,18] (.exit 0))) (Sq (Bk 1 (So LS (Sq (So LR (Kc 21 (Kk [21] (So LQ (.exit 1))) (Kk [21] .skip))) (Sq (.flt [0,1,3,7,0,16,48,112,15,511] [] LP [27,28,29,30,31,32,33,34]) (So LO (So LN (.flt [0,0,0,4,12,28,62,0,254,0,512,1536,3584,8190,16383,32767] [] LM [5,8,9,51,52,53,54,55,56,57,58,59,60,61,62,63,64,65]))))))) (.ops AD))))
def rf:RC:=rY
def AC:List RI:=[om 67 0,oo 68 (.nchk (.t 67)) [67],oo 69 (Lt 8 68) [68],on 10 (.new (.arr 1 (aD 8 [.int .u32 0]))),Sr 8 10 69 [69]]
def AB:List RI:=[on 70 (Mc 0)]
def AA:List RI:=[on 71 (Bc .lss 70 64)]
def Az:List RI:=[om 72 70,omk 11 72]
def Ay:List FI:=[Fs 0 73 (.iaddrA 8 1 (.t 10) (ci 0)),Fs 1 74 (Ld 73),Fs 2 75 (.iaddrA 8 1 (.t 10) (ci 4)),Fs 3 76 (Ld 75),Fm 4 12 74,Fm 5 13 76]
def Ax:List FI:=[Fs 0 77 (.iaddrA 8 1 (.t 10) (ci 7)),Fs 1 78 (Ld 77),Fm 2 79 13,Fm 4 81 13,Fm 7 84 13,Fm 11 88 13,Fs 12 89 (.iaddrA 8 1 (.t 10) (ci 5)),Fs 13 90 (Ld 89),Fs 14 91 (Bb .and 88 90),Fm 15 92 13,Fs 16 93 (.un .xor (.t 92)),Fs 17 94 (.iaddrA 8 1 (.t 10) (ci 6)),Fs 18 95 (Ld 94),Fs 19 96 (Bb .and 93 95),Fs 20 97 (Bb .xor 91 96),Fm 22 99 11,Fs 23 100 (.iaddrA 64 1 (.c (.pp io)) (.t 99)),Fs 24 101 (Ld 100),Fm 26 103 11,Fs 27 104 (.iaddrA 64 1 (.t 4) (.t 103)),Fs 28 105 (Ld 104),Fz 3 80 (Ca 167 [.t 79,ci (-6)]),Fz 5 82 (Ca 167 [.t 81,ci (-11)]),Fs 6 83 (Bb .xor 80 82),Fz 8 85 (Ca 167 [.t 84,ci (-25)]),Fs 9 86 (Bb .xor 83 85),Fs 10 87 (Bb .add 78 86),Fs 21 98 (Bb .add 87 97),Fs 25 102 (Bb .add 98 101),Fs 29 106 (Bb .add 102 105),Fm 30 14 106]
def Aw:List FI:=[Fm 0 107 12,Fm 2 109 12,Fm 5 112 12,Fm 8 115 12,Fs 9 116 (.iaddrA 8 1 (.t 10) (ci 1)),Fs 10 117 (Ld 116),Fs 11 118 (Bb .and 115 117),Fm 12 119 12,Fs 13 120 (.iaddrA 8 1 (.t 10) (ci 2)),Fs 14 121 (Ld 120),Fs 15 122 (Bb .and 119 121),Fs 16 123 (Bb .xor 118 122),Fs 17 124 (.iaddrA 8 1 (.t 10) (ci 1)),Fs 18 125 (Ld 124),Fs 19 126 (.iaddrA 8 1 (.t 10) (ci 2)),Fs 20 127 (Ld 126),Fs 21 128 (Bb .and 125 127),Fs 22 129 (Bb .xor 123 128),Fz 1 108 (Ca 167 [.t 107,ci (-2)]),Fz 3 110 (Ca 167 [.t 109,ci (-13)]),Fs 4 111 (Bb .xor 108 110),Fz 6 113 (Ca 167 [.t 112,ci (-22)]),Fs 7 114 (Bb .xor 111 113),Fs 23 130 (Bb .add 114 129),Fm 24 15 130]
def Av:List RI:=[om 131 14,omk 132 15,oo 133 (Bb .add 131 132) [131,132],on 134 (.iaddrA 8 1 (.t 10) (ci 0)),oo 135 (Ld 134) [134],on 136 (.iaddrA 8 1 (.t 10) (ci 1)),oo 137 (Ld 136) [136],on 138 (.iaddrA 8 1 (.t 10) (ci 2)),oo 139 (Ld 138) [138],on 140 (.iaddrA 8 1 (.t 10) (ci 3)),oo 141 (Ld 140) [140],omk 142 14,oo 143 (Bb .add 141 142) [141,142],on 144 (.iaddrA 8 1 (.t 10) (ci 4)),oo 145 (Ld 144) [144],on 146 (.iaddrA 8 1 (.t 10) (ci 5)),oo 147 (Ld 146) [146],on 148 (.iaddrA 8 1 (.t 10) (ci 6)),oo 149 (Ld 148) [148],oo 150 (.build [.int .u32 0,.int .u32 0,.int .u32 0,.int .u32 0,.int .u32 0,.int .u32 0,.int .u32 0,.int .u32 0] [(0,1,(.t 133)),(1,1,(.t 135)),(2,1,(.t 137)),(3,1,(.t 139)),(4,1,(.t 143)),(5,1,(.t 145)),(6,1,(.t 147)),(7,1,(.t 149))]) [133,135,137,139,143,145,147,149],Sr 8 10 150 [150]]
def At:List RI:=[oo 151 (Bc .add 70 1) [70],omk 70 151]
def rX:RC:=(So AA (Sq (Kc 71 (Kk [71] .skip) (Kk [4,70,71] (.exit 2))) (Sq (Bk 3 (So Az (Sq (.flt [0,1,0,4,3,31] [] Ay [73,74,75,76]) (Sq (.flt [0,1,0,4,0,28,60,0,188,508,1023,0,0,4096,14336,0,32768,0,131072,491520,1046528,2097151,0,4194304,12582912,33554431,0,67108864,201326592,536870911,1073741823] [] Ax [11,13,77,78,79,80,81,82,83,84,85,86,87,88,89,90,91,92,93,94,95,96,97,98,99,100,101,102,103,104,105,106]) (Sq (.flt [0,1,0,7,15,0,47,127,0,0,512,1792,0,0,8192,28672,65280,0,131072,0,524288,1966080,4194048,8388607,16777215] [] Aw [12,107,108,109,110,111,112,113,114,115,116,117,118,119,120,121,122,123,124,125,126,127,128,129,130]) (.ops Av)))))) (.ops At))))
def re:RC:=rX
def As:List RI:=[on 152 (Mc 0)]
def Ar:List RI:=[on 153 (Bc .lss 152 8)]
def Aq:List RI:=[om 154 152,omk 16 154]
def Ap:List FI:=[Fm 0 155 0,Fm 1 156 16,Fs 2 157 (.nchk (.t 155)),Fs 3 158 (.iaddrA 8 1 (.t 157) (.t 156)),Fs 4 159 (Ld 158),Fm 5 160 16,Fs 6 161 (.iaddrA 8 1 (.t 10) (.t 160)),Fs 7 162 (Ld 161),Fs 8 163 (Bb .add 159 162),Fs 9 164 (.nchk (.t 155)),Fs 10 165 (.iaddrA 8 1 (.t 164) (.t 156)),Fr 11 1 165 163]
def Ao:List RI:=[oo 166 (Bc .add 152 1) [152],omk 152 166]
def rW:RC:=(So Ar (Sq (Kc 153 (Kk [153] .skip) (Kk [0,10,152,153] (.exit 4))) (Sq (Bk 5 (So Aq (.flt [0,0,1,7,15,0,32,96,255,1,1023,2047] [] Ap [16,155,156,157,158,159,160,161,162,163,164,165]))) (.ops Ao))))
def ra:RC:=rW
def xiW:RC:=(So LV (Sq (So wU (Bk 0 (.loop rf))) (So AC (Sq (So AB (Bk 2 (.loop re))) (So As (Bk 4 (.loop ra)))))))
def Zg:FnC:=⟨xiW,167,[],[],[]⟩
def LL:List RI:=[on 10 (Mb true)]
def LK:List RI:=[on 11 (Mb true)]
def LJ:List RI:=[om 21 2,om 22 1,oo 23 (Bb .sub 21 22) [21,22],omk 12 23]
def LI:List RI:=[om 24 12,oo 25 (Bc .leq 24 12) [24]]
def LH:List RI:=[omk 26 0,omk 27 1,omk 28 2,omk 29 4,oo 30 (Ca 168 [.t 26,.t 27,.t 28,.t 29]) [26,27,28,29,30]]
def LG:List RI:=[om 31 3,oo 32 (Bc .eql 31 0) [31]]
def LF:List RI:=[omk 33 0,omk 34 1,omk 35 2,omk 36 4,oo 37 (Ca 169 [.t 33,.t 34,.t 35,.t 36]) [33,34,35,36,37]]
def LD:List RI:=[om 38 10,oo 39 (.un .not (.t 38)) [38]]
def LC:List RI:=[om 40 0,om 41 1,om 42 2,om 43 4,oo 44 (Ca 170 [.t 40,.t 41,.t 42,.t 43]) [40,41,42,43,44]]
def LB:List RI:=[omk 45 3,oo 46 (Bc .sub 45 1) [45],omk 3 46]
def An:List RI:=[om 48 0,om 49 1,om 50 2,om 51 4,oo 52 (Ca 171 [.t 48,.t 49,.t 50,.t 51]) [48,49,50,51],omk 47 52,on 53 (.ext (.t 47) 0),oo 54 (.ext (.t 47) 1) [47],omk 13 53,omk 14 54]
def Am:List RI:=[om 55 14,oo 56 (Bc .eql 55 2) [55]]
def Al:List RI:=[om 57 0,om 58 1,om 59 2,om 60 4,oo 61 (Ca 172 [.t 57,.t 58,.t 59,.t 60]) [57,58,59,60,61]]
def Ak:List RI:=[om 62 2,oo 63 (Bc .sub 62 1) [62],omk 64 13,om 65 1,oo 66 (Bb .sub 64 65) [64,65],oo 67 (Bb .sub 63 66) [63,66],omk 13 67]
def Aj:List RI:=[on 14 (Mc 1)]
def Ai:List RI:=[om 68 10,omk 69 68,.grp 69 true [(xi 70 69 true (Mv 11))] [],oo 71 (Pf 69 70) [69,70],omk 72 71,.grp 72 true [(xi 73 72 true (Mv 14)),(xi 74 72 true (Bc .eql 73 1))] [14,73],oo 75 (Pf 72 74) [72,74]]
def Ah:List RI:=[om 76 0,om 77 1,om 78 2,om 79 4,oo 80 (Ca 173 [.t 76,.t 77,.t 78,.t 79]) [76,77,78,79]]
def Ag:List FI:=[Fm 0 81 1,Fs 1 82 (Bc .gtr 81 0),Fm 2 83 82,Fi 3 84 83 true (Mv 4),Fi 4 85 83 true (Mv 0),Fi 5 86 83 true (Mv 1),Fi 6 87 83 true (Bc .sub 86 1),Fi 7 88 83 true (Ia 4 85 87),Fi 8 89 83 true (Lt 4 88),Fi 9 90 83 true (Mv 0),Fi 10 91 83 true (Mv 13),Fi 11 92 83 true (Ia 4 90 91),Fi 12 93 83 true (Lt 4 92),Fy 13 94 83 true (.call (.t 84) [.t 89,.t 93]),Fi 14 95 83 true (Bc .lss 94 0),Fi 15 96 83 true (.un .not (.t 95)),Fs 16 97 (Pf 83 96)]
def Af:List RI:=[om 98 0,omk 99 1,om 100 2,omk 101 13,om 102 4,oo 103 (Ca 174 [.t 98,.t 99,.t 100,.t 101,.t 102]) [98,99,100,101,102],omk 15 103]
def Ae:List RI:=[omk 104 15,omk 1 104]
def Ad:List RI:=[om 106 0,om 107 1,om 108 2,omk 109 13,om 110 4,oo 111 (Ca 175 [.t 106,.t 107,.t 108,.t 109,.t 110]) [106,107,108,109,110],omk 105 111,on 112 (.ext (.t 105) 0),oo 113 (.ext (.t 105) 1) [105],omk 16 112,omk 17 113]
def Ac:List RI:=[omk 114 17,omk 11 114]
def Ab:List RI:=[om 115 16,om 116 1,oo 117 (Bb .sub 115 116) [115,116],om 118 2,om 119 16,oo 120 (Bb .sub 118 119) [118,119],omk 18 117,omk 19 120]
def Aa:List RI:=[omk 121 12,oo 122 (Bc .quo 121 8) [121],omk 20 122]
def z8:List RI:=[om 123 18,om 124 19,oo 125 (Bb .lss 123 124) [123,124]]
def z7:List RI:=[omk 126 18,omk 127 20,oo 128 (Bb .geq 126 127) [126,127],omk 10 128]
def z6:List RI:=[om 129 0,omk 130 1,om 131 16,om 132 3,om 133 4,oo 134 (Ca 108 [.t 129,.t 130,.t 131,.t 132,.t 133]) [129,130,131,132,133,134]]
def zZ:List RI:=[omk 135 16,oo 136 (Bc .add 135 1) [135],omk 1 136]
def zY:List RI:=[omk 137 19,omk 138 20,oo 139 (Bb .geq 137 138) [137,138],omk 10 139]
def zX:List RI:=[om 140 0,om 141 16,oo 142 (Bc .add 141 1) [141],omk 143 2,om 144 3,om 145 4,oo 146 (Ca 108 [.t 140,.t 142,.t 143,.t 144,.t 145]) [140,142,143,144,145,146]]
def zW:List RI:=[omk 147 16,omk 2 147]
def rV:RC:=(Bk 1 (So LJ (Sq (So LI (Kc 25 (Kk [3,10,11,12,25] (So LH .ret)) (Kk [25] .skip))) (Sq (So LG (Kc 32 (Kk [3,10,11,12,32] (So LF .ret)) (Kk [32] .skip))) (Sq (So LD (Kc 39 (Kk [39] (So LC (.ops LB))) (Kk [39] .skip))) (So An (Sq (So Am (Kc 56 (Kk [14,56] (So Al (So Ak (.ops Aj)))) (Kk [56] .skip))) (Sq (So Ai (Kc 75 (Kk [75] (So Ah (Kc 80 (Kk [0,1,2,3,4,10,11,12,13,80] .ret) (Kk [80] .skip)))) (Kk [75] .skip))) (Sq (Sq (.flt [0,1,3,7,7,7,39,119,247,7,7,1543,3591,8191,16383,32767,65535] [] Ag [81,82,83,84,85,86,87,88,89,90,91,92,93,94,95,96]) (Kc 97 (Kk [12,97] (So Af (So Ae (.exit 1)))) (Kk [10,11,97] .skip))) (So Ad (So Ac (So Ab (So Aa (So z8 (Kc 125 (Kk [19,125] (So z7 (So z6 (.ops zZ)))) (Kk [18,125] (So zY (So zX (.ops zW)))))))))))))))))))
def zV:RC:=rV
def xiV:RC:=(So LL (So LK (Bk 0 (.loop zV))))
def Zf:FnC:=⟨xiV,148,[],[],[]⟩
def oV:List RI:=[on 3 (Mc 0)]
def LA:List RI:=[omk 6 0,on 7 (Ln 6),on 8 (Mc 0)]
def Lz:List RI:=[on 9 (Bb .lss 8 7)]
def Ly:List RI:=[on 10 (Ia 1 6 8),oo 11 (Ld 10) [10],omk 5 11]
def Lx:List RI:=[om 12 5,om 13 3,oo 14 (Bb .neq 12 13) [12,13]]
def Lw:List RI:=[omk 15 5,omk 2 15]
def Lv:List RI:=[oo 16 (Bc .add 8 1) [8],omk 8 16]
def yL:RC:=(So Lz (Sq (Kc 9 (Kk [9] .skip) (Kk [6,7,8,9] (.exit 0))) (Sq (Bk 1 (So Ly (So Lx (Kc 14 (Kk [3,6,7,8,14] (So Lw .ret)) (Kk [5,14] .skip))))) (.ops Lv))))
def Lu:RC:=yL
def Ls:List RI:=[omk 17 3,omk 2 17]
def xiU:RC:=(So jk (So oV (Sq (So LA (Bk 0 (.loop Lu))) (So Ls .ret))))
def Ze:FnC:=⟨xiU,18,[.tmp 2],[],[]⟩
def Lr:List RI:=[om 7 0,oo 8 (Ca 176 [.t 7]) [7],omk 5 8]
def Lq:List RI:=[om 9 1,oo 10 (Ca 176 [.t 9]) [9],omk 6 10]
def Lp:List RI:=[omk 11 5]
def Lo:List RI:=[omk 12 6]
def xO:List RI:=[on 4 (Mc (-1))]
def Lm:List RI:=[omk 13 6]
def xN:List RI:=[on 4 (Mc 1)]
def Ll:List RI:=[om 14 0,om 15 1,oo 16 (Bb .lss 14 15) [14,15]]
def zU:List RI:=[omk 17 0,omk 18 1,oo 19 (Bb .gtr 17 18) [17,18]]
def xiT:RC:=(So pt (So Lr (So Lq (Sq (So Lp (Kc 11 (Kk [0,1,11] (Sq (So Lo (Kc 12 (Kk [12] (So gJ .ret)) (Kk [12] .skip))) (So xO .ret))) (Kk [11] .skip))) (Sq (So Lm (Kc 13 (Kk [0,1,13] (So xN .ret)) (Kk [13] .skip))) (Sq (So Ll (Kc 16 (Kk [0,1,16] (So xO .ret)) (Kk [16] .skip))) (Sq (So zU (Kc 19 (Kk [19] (So xN .ret)) (Kk [19] .skip))) (So gJ .ret))))))))
def Zd:FnC:=⟨xiT,20,[.tmp 4],[],[]⟩
def Lk:List RI:=[omk 5 0,omk 6 1,oo 7 (Ca 177 [.t 5,.t 6]) [5,6],omk 4 7]
def xiS:RC:=(So pt (So Lk .ret))
def Zc:FnC:=⟨xiS,8,[.tmp 4],[],[]⟩
def Lj:List RI:=[on 0 (.new (.arr 1 (aD 5 [.str []])))]
def Li:List RI:=[on 1 (.build [.str [],.str [],.str [],.str [],.str []] [(0,1,(.c (.str [97]))),(1,1,(.c (.str [103,114,117,98]))),(2,1,(.c (.str [108,105,110,117,120]))),(3,1,(.c (.str [110,101,116,45,48]))),(4,1,(.c (.str [116,119,101,108,118,101,45,98,121,116,101,115])))]),Sr 5 0 1 [1]]
def xiR:RC:=(So Lj (So Li .ret))
def Zb:FnC:=⟨xiR,2,[.cell 0 5 true],[],[]⟩
def xM:List RI:=[on 3 (.mov (.c (.byt [] .clip)))]
def Lh:List RI:=[om 5 0,oo 6 (Ca 52 [.t 5,ci 4]) [5],oo 7 (.bin .add (ci 1) (.t 6)) [6],omk 4 7]
def Lg:List RI:=[om 8 4,oo 9 (Bc .gtr 8 0) [8]]
def Lf:List RI:=[omk 12 3,om 13 0,oo 14 (Ca 130 [.t 13]) [13],oo 15 (.app [.u8 0] 1 (.t 12) (.t 14)) [12,14],on 16 (.litB [(.c (.u8 10))]),oo 17 (.app [.u8 0] 1 (.t 15) (.t 16)) [15,16],omk 3 17]
def Le:List RI:=[omk 10 4,oo 11 (Bc .sub 10 1) [10],omk 4 11]
def yK:RC:=(.post (Sq (So Lg (Kc 9 (Kk [9] .skip) (Kk [0,4,9] (.exit 0)))) (Sq (Bk 1 (.ops Lf)) (.ops Le))) [.gc [115],.tok 3 103])
def xL:RC:=yK
def Lc:List RI:=[omk 18 3,omk 2 18]
def xiQ:RC:=(So jl (So xM (Sq (So Lh (Bk 0 (.pre [.tok 3 103] (.loop xL)))) (So Lc .ret))))
def Za:FnC:=⟨xiQ,19,[.tmp 2],[],[]⟩
def Lb:List RI:=[omk 3 0,oo 4 (.build Zq0 [(0,1,(ci 1)),(1,1,(.t 3))]) [3],oo 5 (Ca 63 [.t 4]) [4],oo 6 (Bc .eql 5 0) [5],omk 2 6]
def xiP:RC:=(So nf (So Lb .ret))
def Y9:FnC:=⟨xiP,7,[.tmp 2],[],[]⟩
def La:List RI:=[on 5 (Fa 0 1),oo 6 (Ld 5) [5],oo 7 (Bc .lss 6 1) [6],omk 8 7,.grp 8 false [(xi 9 8 false (Fa 0 1)),(xi 10 8 false (Ld 9)),(xi 11 8 false (Bc .gtr 10 4))] [9,10],oo 12 (Pt 8 11) [8,11]]
def K9:List RI:=[on 13 (Fa 1 1),oo 14 (Ld 13) [13],oo 15 (.len true (.t 14)) [14],on 16 (Mc 0)]
def K8:List RI:=[on 17 (Bb .lss 16 15)]
def K7:List RI:=[om 18 16,omk 3 18]
def K6:List RI:=[on 19 (Fa 1 1),oo 20 (Ld 19) [19],omk 21 3,oo 22 (.idxS (.t 20) (.t 21)) [20,21],omk 4 22]
def K5:List RI:=[om 23 4,oo 24 (.bin .lss (.t 23) (.c (.u8 32))) [23],omk 25 24,.grp 25 false [(xi 26 25 false (Mv 4)),(xi 27 25 false (.bin .gtr (.t 26) (.c (.u8 126))))] [4,26],oo 28 (Pt 25 27) [25,27]]
def K4:List RI:=[oo 29 (Bc .add 16 1) [16],omk 16 29]
def rU:RC:=(So K8 (Sq (Kc 17 (Kk [17] .skip) (Kk [15,16,17] (.exit 0))) (Sq (Bk 1 (So K7 (So K6 (So K5 (Kc 28 (Kk [1,15,16,28] (So gw .ret)) (Kk [28] .skip)))))) (.ops K4))))
def qZ:RC:=rU
def zT:List RI:=[on 31 (Fa 0 1),oo 32 (Ld 31) [31],oo 33 (Bc .eql 32 4) [32],omk 34 33,.grp 34 true [(xi 35 34 true (Fa 2 1)),(xi 36 34 true (Ld 35)),(xi 37 34 true (Bc .lss 36 0)),(xi 38 34 true (Mv 37))] [35,36,37],.grp 38 false [(xi 39 38 false (Fa 2 1)),(xi 40 38 false (Ld 39)),(xi 41 38 false (Fa 3 1)),(xi 42 38 false (Ld 41)),(xi 43 38 false (Bb .gtr 40 42))] [39,40,41,42],.grp 34 true [(xi 44 34 true (Pt 38 43)),(xi 45 34 true (Mv 44))] [38,43,44],.grp 45 false [(xi 46 45 false (Fa 3 1)),(xi 47 45 false (Ld 46)),(xi 48 45 false (Bc .gtr 47 1000000000))] [46,47],.grp 34 true [(xi 49 34 true (Pt 45 48))] [45,48],oo 50 (Pf 34 49) [34,49],omk 30 50]
def zS:List RI:=[on 52 (Fa 0 1),oo 53 (Ld 52) [52],oo 54 (Bc .neq 53 4) [53],omk 55 54,.grp 55 true [(xi 56 55 true (Fa 2 1)),(xi 57 55 true (Ld 56)),(xi 58 55 true (Bc .neq 57 0)),(xi 59 55 true (Mv 58))] [56,57,58],.grp 59 false [(xi 60 59 false (Fa 3 1)),(xi 61 59 false (Ld 60)),(xi 62 59 false (Bc .neq 61 0))] [60,61],.grp 55 true [(xi 63 55 true (Pt 59 62))] [59,62],oo 64 (Pf 55 63) [55,63],omk 51 64]
def zQ:List RI:=[on 66 (Fa 0 1),oo 67 (Ld 66) [66],oo 68 (Bc .eql 67 1) [67],omk 69 68,.grp 69 true [(xi 70 69 true (Fa 1 1)),(xi 71 69 true (Ld 70)),(xi 72 69 true (.bin .neq (.t 71) (.c (.str []))))] [70,71],oo 73 (Pf 69 72) [69,72],omk 65 73]
def zP:List RI:=[oo 75 (Fa 1 1) [1],oo 76 (Ld 75) [75],oo 77 (.len true (.t 76)) [76],oo 78 (Bc .gtr 77 32) [77],omk 74 78]
def xiO:RC:=(So pr (Sq (So La (Kc 12 (Kk [1,12] (So gw .ret)) (Kk [12] .skip))) (Sq (So K9 (Bk 0 (.loop qZ))) (Sq (Bk 2 (So zT (Kc 30 (Kk [1,30] (So gw .ret)) (Kk [30] (So zS (Kc 51 (Kk [1,51] (So gw .ret)) (Kk [51] (So zQ (Kc 65 (Kk [1,65] (So gw .ret)) (Kk [65] (So zP (Kc 74 (Kk [74] (So pq .ret)) (Kk [74] .skip))))))))))))) (So iC .ret)))))
def Y8:FnC:=⟨xiO,79,[.tmp 2],[],[]⟩
def K3:List RI:=[on 0 (.new (.arr 1 (aD 64 [.int .u32 0])))]
def K2:List RI:=[on 1 (.build [.int .u32 0,.int .u32 0,.int .u32 0,.int .u32 0,.int .u32 0,.int .u32 0,.int .u32 0,.int .u32 0,.int .u32 0,.int .u32 0,.int .u32 0,.int .u32 0,.int .u32 0,.int .u32 0,.int .u32 0,.int .u32 0,.int .u32 0,.int .u32 0,.int .u32 0,.int .u32 0,.int .u32 0,.int .u32 0,.int .u32 0,.int .u32 0,.int .u32 0,.int .u32 0,.int .u32 0,.int .u32 0,.int .u32 0,.int .u32 0,.int .u32 0,.int .u32 0,.int .u32 0,.int .u32 0,.int .u32 0,.int .u32 0,.int .u32 0,.int .u32 0,.int .u32 0,.int .u32 0,.int .u32 0,.int .u32 0,.int .u32 0,.int .u32 0,.int .u32 0,.int .u32 0,.int .u32 0,.int .u32 0,.int .u32 0,.int .u32 0,.int .u32 0,.int .u32 0,.int .u32 0,.int .u32 0,.int .u32 0,.int .u32 0,.int .u32 0,.int .u32 0,.int .u32 0,.int .u32 0,.int .u32 0,.int .u32 0,.int .u32 0,.int .u32 0] [(0,1,(.c (.int .u32 1116352408))),(1,1,(.c (.int .u32 1899447441))),(2,1,(.c (.int .u32 3049323471))),(3,1,(.c (.int .u32 3921009573))),(4,1,(.c (.int .u32 961987163))),(5,1,(.c (.int .u32 1508970993))),(6,1,(.c (.int .u32 2453635748))),(7,1,(.c (.int .u32 2870763221))),(8,1,(.c (.int .u32 3624381080))),(9,1,(.c (.int .u32 310598401))),(10,1,(.c (.int .u32 607225278))),(11,1,(.c (.int .u32 1426881987))),(12,1,(.c (.int .u32 1925078388))),(13,1,(.c (.int .u32 2162078206))),(14,1,(.c (.int .u32 2614888103))),(15,1,(.c (.int .u32 3248222580))),(16,1,(.c (.int .u32 3835390401))),(17,1,(.c (.int .u32 4022224774))),(18,1,(.c (.int .u32 264347078))),(19,1,(.c (.int .u32 604807628))),(20,1,(.c (.int .u32 770255983))),(21,1,(.c (.int .u32 1249150122))),(22,1,(.c (.int .u32 1555081692))),(23,1,(.c (.int .u32 1996064986))),(24,1,(.c (.int .u32 2554220882))),(25,1,(.c (.int .u32 2821834349))),(26,1,(.c (.int .u32 2952996808))),(27,1,(.c (.int .u32 3210313671))),(28,1,(.c (.int .u32 3336571891))),(29,1,(.c (.int .u32 3584528711))),(30,1,(.c (.int .u32 113926993))),(31,1,(.c (.int .u32 338241895))),(32,1,(.c (.int .u32 666307205))),(33,1,(.c (.int .u32 773529912))),(34,1,(.c (.int .u32 1294757372))),(35,1,(.c (.int .u32 1396182291))),(36,1,(.c (.int .u32 1695183700))),(37,1,(.c (.int .u32 1986661051))),(38,1,(.c (.int .u32 2177026350))),(39,1,(.c (.int .u32 2456956037))),(40,1,(.c (.int .u32 2730485921))),(41,1,(.c (.int .u32 2820302411))),(42,1,(.c (.int .u32 3259730800))),(43,1,(.c (.int .u32 3345764771))),(44,1,(.c (.int .u32 3516065817))),(45,1,(.c (.int .u32 3600352804))),(46,1,(.c (.int .u32 4094571909))),(47,1,(.c (.int .u32 275423344))),(48,1,(.c (.int .u32 430227734))),(49,1,(.c (.int .u32 506948616))),(50,1,(.c (.int .u32 659060556))),(51,1,(.c (.int .u32 883997877))),(52,1,(.c (.int .u32 958139571))),(53,1,(.c (.int .u32 1322822218))),(54,1,(.c (.int .u32 1537002063))),(55,1,(.c (.int .u32 1747873779))),(56,1,(.c (.int .u32 1955562222))),(57,1,(.c (.int .u32 2024104815))),(58,1,(.c (.int .u32 2227730452))),(59,1,(.c (.int .u32 2361852424))),(60,1,(.c (.int .u32 2428436474))),(61,1,(.c (.int .u32 2756734187))),(62,1,(.c (.int .u32 3204031479))),(63,1,(.c (.int .u32 3329325298)))]),Sr 64 0 1 [1]]
def xiN:RC:=(So K3 (So K2 .ret))
def Y7:FnC:=⟨xiN,2,[.cell 0 64 true],[],[]⟩
def K1:List RI:=[on 6 (.litB []),om 7 0,oo 8 (.app [.u8 0] 1 (.t 6) (.t 7)) [6,7],on 9 (.litB [(.c (.u8 128))]),oo 10 (.app [.u8 0] 1 (.t 8) (.t 9)) [8,9],omk 3 10]
def K0:List RI:=[om 11 3,oo 12 (Ln 11) [11],oo 13 (Bc .rem 12 64) [12],oo 14 (Bc .neq 13 56) [13]]
def KZ:List RI:=[omk 15 3,on 16 (.litB [(.c (.u8 0))]),oo 17 (.app [.u8 0] 1 (.t 15) (.t 16)) [15,16],omk 3 17]
def yJ:RC:=(.post (Sq (So K0 (Kc 14 (Kk [14] .skip) (Kk [14] (.exit 0)))) (Bk 1 (.ops KZ))) [.tok 3 103])
def xK:RC:=yJ
def KY:List RI:=[omk 18 0,oo 19 (Ln 18) [18],oo 20 (.toInt .u64 (.t 19)) [19],oo 21 (.bin .mul (.t 20) (.c (.int .u64 8))) [20],omk 4 21]
def KX:List RI:=[on 5 (Mc 7)]
def KW:List RI:=[om 22 5,oo 23 (Bc .geq 22 0) [22]]
def KV:List RI:=[omk 26 3,om 27 4,om 28 5,oo 29 (.toInt .u64 (.t 28)) [28],oo 30 (.bin .mul (.c (.int .u64 8)) (.t 29)) [29],oo 31 (Bb .shr 27 30) [27,30],oo 32 (.toInt .u8 (.t 31)) [31],oo 33 (.litB [.t 32]) [32],oo 34 (.app [.u8 0] 1 (.t 26) (.t 33)) [26,33],omk 3 34]
def KU:List RI:=[omk 24 5,oo 25 (Bc .sub 24 1) [24],omk 5 25]
def rT:RC:=(.post (Sq (So KW (Kc 23 (Kk [23] .skip) (Kk [4,5,23] (.exit 2)))) (Sq (Bk 3 (.ops KV)) (.ops KU))) [.tok 3 103])
def qY:RC:=rT
def zO:List RI:=[omk 35 3,omk 2 35]
def xiM:RC:=(So jl (So K1 (Sq (Bk 0 (.pre [.tok 3 103] (.loop xK))) (So KY (Sq (So KX (Bk 2 (.pre [.tok 3 103] (.loop qY)))) (So zO .ret))))))
def Y6:FnC:=⟨xiM,36,[.tmp 2],[],[]⟩
def oU:List RI:=[oo 4 (.mov (.c (.int .u32 0))) [4]]
def xJ:List FI:=[Fm 0 5 0,Fm 1 6 1,Fs 2 7 (.bin .mul (ci 4) (.t 6)),Fs 3 8 (Ia 1 5 7),Fs 4 9 (Ld 8),Fs 5 10 (.toInt .u32 (.t 9)),Fs 6 11 (.bin .shl (.t 10) (.c (.int .u64 24))),Fm 7 12 0,Fm 8 13 1,Fs 9 14 (.bin .mul (ci 4) (.t 13)),Fs 10 15 (Bc .add 14 1),Fs 11 16 (Ia 1 12 15),Fs 12 17 (Ld 16),Fs 13 18 (.toInt .u32 (.t 17)),Fs 14 19 (.bin .shl (.t 18) (.c (.int .u64 16))),Fs 15 20 (Bb .or 11 19),Fm 16 21 0,Fm 17 22 1,Fs 18 23 (.bin .mul (ci 4) (.t 22)),Fs 19 24 (Bc .add 23 2),Fs 20 25 (Ia 1 21 24),Fs 21 26 (Ld 25),Fs 22 27 (.toInt .u32 (.t 26)),Fs 23 28 (.bin .shl (.t 27) (.c (.int .u64 8))),Fs 24 29 (Bb .or 20 28),Fm 25 30 0,Fm 26 31 1,Fs 27 32 (.bin .mul (ci 4) (.t 31)),Fs 28 33 (Bc .add 32 3),Fs 29 34 (Ia 1 30 33),Fs 30 35 (Ld 34),Fs 31 36 (.toInt .u32 (.t 35)),Fs 32 37 (Bb .or 29 36),Fm 33 4 37]
def xiL:RC:=(So oU (Sq (.flt [0,0,2,7,15,31,63,0,0,256,768,1920,3968,8064,16256,32767,0,0,131072,393216,983040,2031616,4128768,8323072,16777215,0,0,67108864,201326592,503316480,1040187392,2113929216,4294967295,8589934591] [] xJ [0,1,5,6,7,8,9,10,11,12,13,14,15,16,17,18,19,20,21,22,23,24,25,26,27,28,29,30,31,32,33,34,35,36,37]) .ret))
def Y5:FnC:=⟨xiL,38,[.tmp 4],[],[]⟩
def KT:List RI:=[om 5 0,om 6 1,oo 7 (Bb .shr 5 6) [5,6],omk 8 0,omk 9 1,oo 10 (.bin .sub (.c (.int .u64 32)) (.t 9)) [9],oo 11 (Bb .shl 8 10) [8,10],oo 12 (Bb .or 7 11) [7,11],omk 4 12]
def xiK:RC:=(So oU (So KT .ret))
def Y4:FnC:=⟨xiK,13,[.tmp 4],[],[]⟩
def KS:List RI:=[om 5 4,om 6 0,oo 7 (Ln 6) [6],oo 8 (Bb .lss 5 7) [5,7]]
def KR:List FI:=[Fm 0 11 3,Fm 1 12 0,Fm 2 13 4,Fs 3 14 (Ia 1 12 13),Fs 4 15 (Ld 14),Fs 5 16 (.bin .shr (.t 15) (.c (.int .u64 24))),Fs 6 17 (.toInt .u8 (.t 16)),Fm 7 18 0,Fm 8 19 4,Fs 9 20 (Ia 1 18 19),Fs 10 21 (Ld 20),Fs 11 22 (.bin .shr (.t 21) (.c (.int .u64 16))),Fs 12 23 (.toInt .u8 (.t 22)),Fm 13 24 0,Fm 14 25 4,Fs 15 26 (Ia 1 24 25),Fs 16 27 (Ld 26),Fs 17 28 (.bin .shr (.t 27) (.c (.int .u64 8))),Fs 18 29 (.toInt .u8 (.t 28)),Fm 19 30 0,Fm 20 31 4,Fs 21 32 (Ia 1 30 31),Fs 22 33 (Ld 32),Fs 23 34 (.toInt .u8 (.t 33)),Fs 24 35 (.litB [.t 17,.t 23,.t 29,.t 34]),Fz 25 36 (.app [.u8 0] 1 (.t 11) (.t 35)),⟨26,false,(xm 3 36)⟩]
def KQ:List RI:=[omk 9 4,oo 10 (Bc .add 9 1) [9],omk 4 10]
def yI:RC:=(.post (Sq (So KS (Kc 8 (Kk [8] .skip) (Kk [0,4,8] (.exit 0)))) (Sq (Bk 1 (.flt [0,0,0,6,14,30,62,0,0,384,896,1920,3968,0,0,24576,57344,122880,253952,0,0,1572864,3670016,7864320,16777214,33554431,67108863] [136] KR [11,12,13,14,15,16,17,18,19,20,21,22,23,24,25,26,27,28,29,30,31,32,33,34,35,36])) (.ops KQ))) [.tok 3 103])
def xI:RC:=yI
def xiJ:RC:=(So jl (So xM (Sq (So gJ (Bk 0 (.pre [.tok 3 103] (.loop xI)))) (So rg .ret))))
def Y3:FnC:=⟨xiJ,38,[.tmp 2],[],[]⟩
def KP:List RI:=[om 3 0,oo 4 (Bc .eql 3 1) [3],omk 5 4,.grp 5 false [(xi 6 5 false (Mv 0)),(xi 7 5 false (Bc .eql 6 2))] [6],oo 8 (Pt 5 7) [5,7],omk 9 8,.grp 9 false [(xi 10 9 false (Mv 0)),(xi 11 9 false (Bc .eql 10 4))] [10],oo 12 (Pt 9 11) [9,11],omk 13 12,.grp 13 false [(xi 14 13 false (Mv 0)),(xi 15 13 false (Bc .eql 14 8))] [0,14],oo 16 (Pt 13 15) [13,15],omk 2 16]
def xiI:RC:=(So nf (So KP .ret))
def Y2:FnC:=⟨xiI,17,[.tmp 2],[],[]⟩
def KO:List RI:=[om 7 6,oo 8 (.bin .mul (ci 2) (.t 7)) [7],oo 9 (Bc .add 8 1) [8],om 10 1,oo 11 (Ln 10) [10],oo 12 (Bb .lss 9 11) [9,11]]
def KN:List FI:=[Fm 0 15 5,Fm 1 16 0,Fm 2 17 6,Fm 3 18 1,Fm 4 19 6,Fs 5 20 (.bin .mul (ci 2) (.t 19)),Fs 6 21 (Ia 1 18 20),Fs 7 22 (Ld 21),Fm 8 23 1,Fm 9 24 6,Fs 10 25 (.bin .mul (ci 2) (.t 24)),Fs 11 26 (Bc .add 25 1),Fs 12 27 (Ia 1 23 26),Fs 13 28 (Ld 27),Fz 14 29 (Ca 179 [.t 16,.t 17,.t 22,.t 28]),Fs 15 30 (.lit 1 [.t 29]),Fz 16 31 (.app [.byt [] .clip] 24 (.t 15) (.t 30)),⟨17,false,(xm 5 31)⟩]
def xH:List RI:=[omk 13 6,oo 14 (Bc .add 13 1) [13],omk 6 14]
def yH:RC:=(.post (Sq (So KO (Kc 12 (Kk [12] .skip) (Kk [0,1,6,12] (.exit 0)))) (Sq (Bk 1 (.flt [0,0,0,0,0,16,56,120,0,0,512,1536,3840,7936,16382,32766,65535,131071] [131] KN [15,16,17,18,19,20,21,22,23,24,25,26,27,28,29,30,31])) (.ops xH))) [.tok 5 105])
def KM:RC:=yH
def KL:List RI:=[omk 32 5,omk 4 32]
def xiH:RC:=(So sw (So vy (Sq (So kA (Bk 0 (.pre [.tok 5 105] (.loop KM)))) (So KL .ret))))
def Y1:FnC:=⟨xiH,33,[.tmp 4],[],[]⟩
def KK:List RI:=[on 3 (.litB []),omk 4 0,oo 5 (.app [.u8 0] 1 (.t 3) (.t 4)) [3,4],omk 2 5]
def xiG:RC:=(So jl (So KK .ret))
def Y0:FnC:=⟨xiG,6,[.tmp 2],[],[]⟩
def KJ:List RI:=[om 7 1,oo 8 (Bc .lss 7 0) [7],omk 9 8,.grp 9 false [(xi 10 9 false (Mv 1)),(xi 11 9 false (Bc .gtr 10 255))] [10],oo 12 (Pt 9 11) [9,11]]
def KI:List RI:=[on 5 (.mov (.c (.byt [] .clip)))]
def KH:List RI:=[om 13 6,oo 14 (Bc .lss 13 35) [13]]
def KG:List RI:=[omk 17 5,om 18 1,om 19 6,om 20 0,om 21 1,om 22 6,oo 23 (Ca 144 [.t 20,.t 21,.t 22]) [20,21,22],oo 24 (Ca 143 [.t 18,.t 19,ci 0,ci 15,.t 23]) [18,19,23],oo 25 (.app [.u8 0] 1 (.t 17) (.t 24)) [17,24],omk 5 25]
def xG:List RI:=[omk 15 6,oo 16 (Bc .add 15 1) [15],omk 6 16]
def yG:RC:=(.post (Sq (So KH (Kc 14 (Kk [14] .skip) (Kk [0,6,14] (.exit 0)))) (Sq (Bk 1 (.ops KG)) (.ops xG))) [.tok 5 105])
def sG:RC:=yG
def KF:List RI:=[omk 26 1,omk 27 5,oo 28 (Ca 180 [.t 26,.t 27]) [26,27],omk 4 28]
def xiF:RC:=(So ft (Sq (So KJ (Kc 12 (Kk [0,1,12] (So im .ret)) (Kk [12] .skip))) (So KI (Sq (So kA (Bk 0 (.pre [.tok 5 105] (.loop sG)))) (So KF .ret)))))
def YZ:FnC:=⟨xiF,29,[.tmp 4],[],[]⟩
def KE:List RI:=[om 5 0,oo 6 (.len true (.t 5)) [5],oo 7 (Bc .lss 6 1) [6],omk 8 7,.grp 8 false [(xi 9 8 false (Mv 0)),(xi 10 8 false (.len true (.t 9))),(xi 11 8 false (Bc .gtr 10 12))] [9,10],oo 12 (Pt 8 11) [8,11]]
def sF:List RI:=[on 2 (Mb false)]
def KD:List RI:=[om 13 3,om 14 0,oo 15 (.len true (.t 14)) [14],oo 16 (Bb .lss 13 15) [13,15]]
def KC:List RI:=[om 19 0,om 20 3,oo 21 (.idxS (.t 19) (.t 20)) [19,20],omk 4 21]
def KB:List RI:=[om 22 4,oo 23 (.bin .lss (.t 22) (.c (.u8 97))) [22],omk 24 23,.grp 24 false [(xi 25 24 false (Mv 4)),(xi 26 24 false (.bin .gtr (.t 25) (.c (.u8 122))))] [25],oo 27 (Pt 24 26) [24,26],omk 28 27,.grp 28 true [(xi 29 28 true (Mv 4)),(xi 30 28 true (.bin .lss (.t 29) (.c (.u8 48)))),(xi 31 28 true (Mv 30))] [29,30],.grp 31 false [(xi 32 31 false (Mv 4)),(xi 33 31 false (.bin .gtr (.t 32) (.c (.u8 57))))] [32],.grp 28 true [(xi 34 28 true (Pt 31 33))] [31,33],oo 35 (Pf 28 34) [28,34],omk 36 35,.grp 36 true [(xi 37 36 true (Mv 4)),(xi 38 36 true (.bin .neq (.t 37) (.c (.u8 45))))] [4,37],oo 39 (Pf 36 38) [36,38]]
def xF:List RI:=[omk 17 3,oo 18 (Bc .add 17 1) [17],omk 3 18]
def yF:RC:=(Sq (So KD (Kc 16 (Kk [16] .skip) (Kk [0,3,16] (.exit 0)))) (Sq (Bk 1 (So KC (So KB (Kc 39 (Kk [0,3,39] (So sF .ret)) (Kk [39] .skip))))) (.ops xF)))
def xE:RC:=yF
def qX:List RI:=[on 2 (Mb true)]
def xiE:RC:=(So nf (Sq (So KE (Kc 12 (Kk [0,12] (So sF .ret)) (Kk [12] .skip))) (Sq (So oV (Bk 0 (.loop xE))) (So qX .ret))))
def YY:FnC:=⟨xiE,40,[.tmp 2],[],[]⟩
def KA:List RI:=[on 4 (Fa 0 1),oo 5 (Ld 4) [4],oo 6 (Bc .lss 5 1) [5],omk 7 6,.grp 7 false [(xi 8 7 false (Fa 0 1)),(xi 9 7 false (Ld 8)),(xi 10 7 false (Bc .gtr 9 4))] [8,9],oo 11 (Pt 7 10) [7,10]]
def Kz:List RI:=[om 12 3,on 13 (Fa 1 1),oo 14 (Ld 13) [13],oo 15 (.len true (.t 14)) [14],oo 16 (Bb .lss 12 15) [12,15]]
def Ky:List RI:=[on 19 (Fa 1 1),oo 20 (Ld 19) [19],om 21 3,oo 22 (.idxS (.t 20) (.t 21)) [20,21],oo 23 (.bin .lss (.t 22) (.c (.u8 32))) [22],omk 24 23,.grp 24 false [(xi 25 24 false (Fa 1 1)),(xi 26 24 false (Ld 25)),(xi 27 24 false (Mv 3)),(xi 28 24 false (.idxS (.t 26) (.t 27))),(xi 29 24 false (.bin .gtr (.t 28) (.c (.u8 126))))] [25,26,27,28],oo 30 (Pt 24 29) [24,29]]
def yE:RC:=(Sq (So Kz (Kc 16 (Kk [16] .skip) (Kk [3,16] (.exit 0)))) (Sq (Bk 1 (So Ky (Kc 30 (Kk [1,3,30] (So gw .ret)) (Kk [30] .skip)))) (.ops xF)))
def xD:RC:=yE
def Kx:List RI:=[on 31 (Fa 0 1),oo 32 (Ld 31) [31],oo 33 (Bc .eql 32 4) [32]]
def zN:List RI:=[on 34 (Fa 2 1),oo 35 (Ld 34) [34],oo 36 (Bc .lss 35 0) [35],omk 37 36,.grp 37 false [(xi 38 37 false (Fa 2 1)),(xi 39 37 false (Ld 38)),(xi 40 37 false (Fa 3 1)),(xi 41 37 false (Ld 40)),(xi 42 37 false (Bb .gtr 39 41))] [38,39,40,41],oo 43 (Pt 37 42) [37,42],omk 44 43,.grp 44 false [(xi 45 44 false (Fa 3 1)),(xi 46 44 false (Ld 45)),(xi 47 44 false (Bc .gtr 46 1000000000))] [45,46],oo 48 (Pt 44 47) [44,47]]
def zM:List RI:=[on 49 (Fa 2 1),oo 50 (Ld 49) [49],oo 51 (Bc .neq 50 0) [50],omk 52 51,.grp 52 false [(xi 53 52 false (Fa 3 1)),(xi 54 52 false (Ld 53)),(xi 55 52 false (Bc .neq 54 0))] [53,54],oo 56 (Pt 52 55) [52,55]]
def zL:List RI:=[on 57 (Fa 0 1),oo 58 (Ld 57) [57],oo 59 (Bc .eql 58 1) [58],omk 60 59,.grp 60 true [(xi 61 60 true (Fa 1 1)),(xi 62 60 true (Ld 61)),(xi 63 60 true (.bin .neq (.t 62) (.c (.str []))))] [61,62],oo 64 (Pf 60 63) [60,63]]
def zK:List RI:=[oo 65 (Fa 1 1) [1],oo 66 (Ld 65) [65],oo 67 (.len true (.t 66)) [66],oo 68 (Bc .gtr 67 32) [67]]
def xiD:RC:=(So pr (Sq (So KA (Kc 11 (Kk [1,11] (So gw .ret)) (Kk [11] .skip))) (Sq (So oV (Bk 0 (.loop xD))) (Sq (So Kx (Kc 33 (Kk [33] (So zN (Kc 48 (Kk [1,48] (So gw .ret)) (Kk [48] .skip)))) (Kk [33] (So zM (Kc 56 (Kk [1,56] (So gw .ret)) (Kk [56] .skip)))))) (Sq (So zL (Kc 64 (Kk [1,64] (So gw .ret)) (Kk [64] .skip))) (Sq (So zK (Kc 68 (Kk [68] (So pq .ret)) (Kk [68] .skip))) (So iC .ret)))))))
def YX:FnC:=⟨xiD,69,[.tmp 2],[],[]⟩
def Kw:List RI:=[on 4 (Lt 4 1),oo 5 (Ca 182 [.t 4]) [4],oo 6 (Bc .neq 5 0) [5]]
def Kv:List RI:=[on 7 (Fa 0 1),oo 8 (Ld 7) [7],oo 9 (Ca 45 [(.c (.byt [] .clip)),ci 1,.t 8]) [8],omk 3 9]
def Ku:List RI:=[omk 10 3,on 11 (Fa 2 1),oo 12 (Ld 11) [11],oo 13 (Ca 45 [.t 10,ci 4,.t 12]) [10,12],omk 3 13]
def Kt:List RI:=[omk 14 3,on 15 (Fa 1 1),oo 16 (Ld 15) [15],oo 17 (.s2b (.t 16)) [16],oo 18 (Ca 82 [.t 14,.t 17]) [14,17],omk 3 18]
def Ks:List RI:=[omk 19 3,oo 20 (Fa 3 1) [1],oo 21 (Ld 20) [20],oo 22 (Ca 82 [.t 19,.t 21]) [19,21],omk 2 22]
def xiC:RC:=(So vB (Sq (So Kw (Kc 6 (Kk [1,6] (So sD .ret)) (Kk [6] .skip))) (So Kv (So Ku (So Kt (So Ks .ret))))))
def YW:FnC:=⟨xiC,23,[.tmp 2],[],[]⟩
def Kr:List RI:=[on 4 (.build [.str [],.str [],.str [],.str [],.str [],.str []] [(0,1,(.c (.str [97,61,49]))),(1,1,(.c (.str [99,111,117,110,116,61,53]))),(2,1,(.c (.str [99,111,117,110,116,61,49,55]))),(3,1,(.c (.str [104,111,115,116,61,120]))),(4,1,(.c (.str [109,111,100,101,32,98]))),(5,1,(.c (.str [126])))]),on 3 (.new (.arr 1 (aD 6 [.str []]))),Sr 6 3 4 [4]]
def Kq:List RI:=[omk 5 0,oo 6 (Ca 52 [.t 5,ci 6]) [5],oo 7 (.iaddrA 6 1 (.t 3) (.t 6)) [3,6],oo 8 (Ld 7) [7],oo 9 (.s2b (.t 8)) [8],omk 2 9]
def xiB:RC:=(So jl (So Kr (So Kq .ret)))
def YV:FnC:=⟨xiB,10,[.tmp 2],[],[]⟩
def Kp:List RI:=[om 3 0,oo 4 (Bc .geq 3 0) [3],omk 5 4,.grp 5 true [(xi 6 5 true (Mv 0)),(xi 7 5 true (Bc .leq 6 255))] [0,6],oo 8 (Pf 5 7) [5,7],omk 2 8]
def xiA:RC:=(So nf (So Kp .ret))
def YU:FnC:=⟨xiA,9,[.tmp 2],[],[]⟩
def sE:List RI:=[oo 2 (.mov (.c (.lst 1 [] .clip))) [2]]
def Ko:List RI:=[omk 9 0,oo 10 (.lit 1 [.t 9]) [9],oo 11 (Ca 183 [ci 4,.t 10]) [10],oo 12 (.slcL 1 (.t 11) none (some (ci 16)) none) [11],on 13 (Ln 12),on 14 (Mc 0)]
def Kn:List RI:=[on 16 (Ia 1 12 14),oo 17 (Ld 16) [16],omk 6 17]
def Km:List RI:=[om 18 6,oo 19 (.bin .shr (.t 18) (.c (.int .u64 4))) [18],oo 20 (.toInt .i64 (.t 19)) [19],omk 21 6,oo 22 (.bin .and (.t 21) (.c (.u8 15))) [21],oo 23 (.toInt .i64 (.t 22)) [22],oo 24 (.build [.int .i64 0,.int .i64 0] [(0,1,(.t 20)),(1,1,(.t 23))]) [20,23],on 25 (Mc 0)]
def Kj:List RI:=[on 26 (Bc .lss 25 2)]
def Ki:List RI:=[on 27 (.idxA 2 1 false (.t 24) (.t 25)),omk 8 27]
def Kh:List RI:=[omk 28 3,om 29 8,oo 30 (.lit 1 [.t 29]) [29],oo 31 (.app [.int .i64 0] 8 (.t 28) (.t 30)) [28,30],omk 3 31]
def zJ:List RI:=[omk 32 4,omk 33 8,oo 34 (.bin .sub (ci 15) (.t 33)) [33],oo 35 (Bb .add 32 34) [32,34],omk 4 35]
def zI:List RI:=[oo 36 (Bc .add 25 1) [25],omk 25 36]
def rS:RC:=(.post (So Kj (Sq (Kc 26 (Kk [26] .skip) (Kk [24,25,26] (.exit 2))) (Sq (Bk 3 (So Ki (So Kh (.ops zJ)))) (.ops zI)))) [.tok 3 103])
def zH:RC:=rS
def zG:List RI:=[oo 37 (Bc .add 14 1) [14],omk 14 37]
def rR:RC:=(.post (So C4 (Sq (Kc 15 (Kk [15] .skip) (Kk [12,13,14,15] (.exit 0))) (Sq (Bk 1 (So Kn (So Km (Bk 2 (.pre [.tok 3 103] (.loop zH)))))) (.ops zG)))) [.tok 3 103])
def qW:RC:=rR
def zF:List RI:=[omk 38 3,om 39 4,oo 40 (.bin .shr (.t 39) (.c (.int .u64 8))) [39],om 41 4,oo 42 (.bin .shr (.t 41) (.c (.int .u64 4))) [41],oo 43 (Bc .and 42 15) [42],omk 44 4,oo 45 (Bc .and 44 15) [44],oo 46 (.lit 1 [.t 40,.t 43,.t 45]) [40,43,45],oo 47 (.app [.int .i64 0] 8 (.t 38) (.t 46)) [38,46],omk 2 47]
def xiz:RC:=(So sE (So sI (So gJ (Sq (So Ko (Bk 0 (.pre [.tok 3 103] (.loop qW)))) (So zF .ret)))))
def YT:FnC:=⟨xiz,48,[.tmp 2],[],[]⟩
def xC:List RI:=[oo 5 (Ld 1) [1],oo 6 (Ld 2) [2],omk 7 0,oo 8 (Ca 134 [.t 5,.t 6,.t 7]) [5,6,7],omk 4 8]
def xiy:RC:=(So ft (So xC .ret))
def YS:FnC:=⟨xiy,9,[.tmp 4],[],[]⟩
def Kg:List RI:=[omk 7 0,omk 8 1,oo 9 (.toInt .u8 (.t 8)) [8],omk 10 2,oo 11 (.toInt .u8 (.t 10)) [10],oo 12 (.litB [.t 9,.t 11]) [9,11],oo 13 (Ca 138 [.t 7,(.c (.str [99,104,97,105,110])),.t 12,ci 16]) [7,12],omk 6 13]
def xix:RC:=(So po (So Kg .ret))
def YR:FnC:=⟨xix,14,[.tmp 6],[],[]⟩
def xB:List RI:=[on 9 (.mov (.c (.byt [] .clip)))]
def Kf:List RI:=[on 13 (Mc 0)]
def Ke:List RI:=[on 14 (Bc .lss 13 35)]
def Kd:List RI:=[om 15 13,omk 10 15]
def Kb:List RI:=[om 16 1,om 17 10,oo 18 (.call (.t 16) [.t 17]) [16,17],omk 11 18]
def Ka:List RI:=[om 19 2,om 20 10,oo 21 (.call (.t 19) [.t 20]) [19,20],omk 12 21]
def J9:List RI:=[om 22 12,om 23 3,om 24 10,oo 25 (.call (.t 23) [.t 24]) [23,24],oo 26 (Bb .lss 22 25) [22,25]]
def J8:List RI:=[om 29 0,om 30 10,om 31 12,omk 32 11,oo 33 (Ca 184 [.t 29,.t 30,.t 31,.t 32]) [29,30,31,32],omk 11 33]
def J7:List RI:=[omk 27 12,oo 28 (Bc .add 27 1) [27],omk 12 28]
def rQ:RC:=(Sq (So J9 (Kc 26 (Kk [26] .skip) (Kk [10,12,26] (.exit 2)))) (Sq (Bk 3 (.ops J8)) (.ops J7)))
def ls:RC:=rQ
def zE:List RI:=[omk 34 9,omk 35 11,oo 36 (.app [.u8 0] 1 (.t 34) (.t 35)) [34,35],omk 9 36]
def zD:List RI:=[oo 37 (Bc .add 13 1) [13],omk 13 37]
def rP:RC:=(.post (So Ke (Sq (Kc 14 (Kk [14] .skip) (Kk [0,1,2,3,13,14] (.exit 0))) (Sq (Bk 1 (So Kd (So Kb (Sq (So Ka (Bk 2 (.loop ls))) (.ops zE))))) (.ops zD)))) [.tok 9 109])
def hJ:RC:=rP
def zC:List RI:=[omk 38 9,omk 8 38]
def xiw:RC:=(So mq (So xB (Sq (So Kf (Bk 0 (.pre [.tok 9 109] (.loop hJ)))) (So zC .ret))))
def YQ:FnC:=⟨xiw,39,[.tmp 8],[],[]⟩
def xiv:RC:=(Kk [0] (So jk (So iC .ret)))
def YP:FnC:=⟨xiv,3,[.tmp 2],[],[]⟩
def xA:List RI:=[oo 3 (Mc 0) [3]]
def xz:List RI:=[oo 4 (Ld 1) [1],omk 5 0,oo 6 (Ia 1 4 5) [4,5],oo 7 (Ld 6) [6],omk 3 7]
def xiu:RC:=(So xA (So xz .ret))
def YO:FnC:=⟨xiu,8,[.tmp 3],[],[]⟩
def xy:List RI:=[om 12 3,oo 13 (Bc .lss 12 1) [12],omk 14 13,.grp 14 false [(xi 15 14 false (Mv 3)),(xi 16 14 false (Bc .gtr 15 1024))] [15],oo 17 (Pt 14 16) [14,16]]
def J6:List RI:=[omk 18 1,.tks (xs 19 (.s2b (.t 18))) [18],on 20 (.litB [(.c (.u8 0))]),oo 21 (.app [.u8 0] 1 (.t 19) (.t 20)) [19,20],omk 22 2,oo 23 (.app [.u8 0] 1 (.t 21) (.t 22)) [21,22],omk 9 23]
def J5:List RI:=[omk 24 9,om 25 3,oo 26 (.bin .mul (ci 8) (.t 25)) [25],oo 27 (Ca 185 [.t 26]) [26],oo 28 (.app [.u8 0] 1 (.t 24) (.t 27)) [24,27],omk 9 28]
def J4:List RI:=[on 10 (.mov (.c (.byt [] .clip)))]
def J3:List RI:=[on 11 (Mc 1)]
def J2:List RI:=[om 29 10,oo 30 (Ln 29) [29],om 31 3,oo 32 (Bb .lss 30 31) [30,31]]
def J1:List RI:=[omk 35 10,om 36 0,om 37 11,oo 38 (Ca 185 [.t 37]) [37],om 39 9,oo 40 (.app [.u8 0] 1 (.t 38) (.t 39)) [38,39],oo 41 (Ca 186 [.t 36,.t 40]) [36,40],oo 42 (.app [.u8 0] 1 (.t 35) (.t 41)) [35,41],omk 10 42]
def J0:List RI:=[omk 33 11,oo 34 (Bc .add 33 1) [33],omk 11 34]
def rO:RC:=(.post (Sq (So J2 (Kc 32 (Kk [32] .skip) (Kk [0,9,11,32] (.exit 0)))) (Sq (Bk 1 (.ops J1)) (.ops J0))) [.gc [140],.gcr 39000 40000,.tok 10 110])
def zB:RC:=rO
def zA:List RI:=[omk 43 10,om 44 3,omk 45 3,oo 46 (.slcL 1 (.t 43) none (some (.t 44)) (some (.t 45))) [43,44,45],omk 8 46]
def xit:RC:=(So mq (Sq (So xy (Kc 17 (Kk [0,1,2,3,17] (So sC .ret)) (Kk [17] .skip))) (So J6 (So J5 (So J4 (Sq (So J3 (Bk 0 (.pre [.tok 10 110] (.loop zB)))) (So zA .ret)))))))
def YN:FnC:=⟨xit,47,[.tmp 8],[],[]⟩
def JZ:List RI:=[om 4 3,oo 5 (Bc .leq 4 3) [4]]
def JY:List RI:=[om 8 0,om 9 3,oo 10 (.toInt .u64 (.t 9)) [9],oo 11 (.bin .shl (ci 1) (.t 10)) [10],oo 12 (Bb .eql 8 11) [8,11]]
def JX:List RI:=[omk 13 3,omk 2 13]
def JW:List RI:=[omk 6 3,oo 7 (Bc .add 6 1) [6],omk 3 7]
def yD:RC:=(Sq (So JZ (Kc 5 (Kk [5] .skip) (Kk [0,3,5] (.exit 0)))) (Sq (Bk 1 (So JY (Kc 12 (Kk [0,12] (So JX .ret)) (Kk [12] .skip)))) (.ops JW)))
def JV:RC:=yD
def JU:List RI:=[on 2 (Mc (-1))]
def xis:RC:=(So jk (Sq (So oV (Bk 0 (.loop JV))) (So JU .ret)))
def YM:FnC:=⟨xis,14,[.tmp 2],[],[]⟩
def JT:List RI:=[omk 7 0,oo 8 (.lit 1 [.t 7]) [7],omk 3 8]
def JS:List RI:=[om 9 3,om 10 4,oo 11 (Ia 1 9 10) [9,10],oo 12 (Ld 11) [11],oo 13 (Ln 12) [12],oo 14 (Bc .gtr 13 1) [13]]
def JR:List RI:=[om 17 6,oo 18 (.bin .mul (ci 2) (.t 17)) [17],om 19 3,om 20 4,oo 21 (Ia 1 19 20) [19,20],oo 22 (Ld 21) [21],oo 23 (Ln 22) [22],oo 24 (Bb .lss 18 23) [18,23]]
def JQ:List FI:=[Fm 0 27 5,Fm 1 28 4,Fm 2 29 6,Fm 3 30 3,Fm 4 31 4,Fs 5 32 (Ia 1 30 31),Fs 6 33 (Ld 32),Fm 7 34 6,Fs 8 35 (.bin .mul (ci 2) (.t 34)),Fs 9 36 (Ia 1 33 35),Fs 10 37 (Ld 36),Fm 11 38 3,Fm 12 39 4,Fs 13 40 (Ia 1 38 39),Fs 14 41 (Ld 40),Fm 15 42 6,Fs 16 43 (.bin .mul (ci 2) (.t 42)),Fs 17 44 (Bc .add 43 1),Fs 18 45 (Ia 1 41 44),Fs 19 46 (Ld 45),Fz 20 47 (Ca 150 [.t 28,.t 29,.t 37,.t 46]),Fs 21 48 (.lit 1 [.t 47]),Fz 22 49 (.app [.byt [] .clip] 24 (.t 27) (.t 48)),⟨23,false,(xm 5 49)⟩]
def JP:List RI:=[omk 25 6,oo 26 (Bc .add 25 1) [25],omk 6 26]
def yC:RC:=(.post (Sq (So JR (Kc 24 (Kk [24] .skip) (Kk [6,24] (.exit 2)))) (Sq (Bk 3 (.flt [0,0,0,0,0,24,56,0,128,504,1016,0,0,6144,14336,0,32768,98304,260096,522240,1048574,2097150,4194303,8388607] [149] JQ [27,28,29,30,31,32,33,34,35,36,37,38,39,40,41,42,43,44,45,46,47,48,49])) (.ops JP))) [.tok 5 105])
def JO:RC:=yC
def zy:List RI:=[omk 50 3,omk 51 5,oo 52 (.lit 1 [.t 51]) [51],oo 53 (.app [.lst 1 [] .clip] 24 (.t 50) (.t 52)) [50,52],omk 3 53]
def zx:List RI:=[omk 15 4,oo 16 (Bc .add 15 1) [15],omk 4 16]
def rN:RC:=(.post (Sq (So JS (Kc 14 (Kk [14] .skip) (Kk [4,14] (.exit 0)))) (Sq (Bk 1 (So vy (Sq (So kA (Bk 2 (.pre [.tok 5 105] (.loop JO)))) (.ops zy)))) (.ops zx))) [.gc [149],.tok 3 103])
def zw:RC:=rN
def zu:List RI:=[omk 54 3,omk 2 54]
def xir:RC:=(So sE (So JT (Sq (So gJ (Bk 0 (.pre [.tok 3 103] (.loop zw)))) (So zu .ret))))
def YL:FnC:=⟨xir,55,[.tmp 2],[],[]⟩
def JN:List RI:=[oo 2 (.box (.t 0)) [0],oo 3 (.box (.t 1)) [1],oo 4 (.mov (.c (.byt [] .clip))) [4]]
def JM:List RI:=[on 6 (Ld 3),oo 7 (Ca 131 [.t 6]) [6],oo 8 (.un .not (.t 7)) [7]]
def JL:List RI:=[oo 9 (.mkfn 187 [] [.t 2,.t 3]) [2],omk 5 9]
def JK:List FI:=[Fs 0 10 (Ld 3),Fs 1 11 (Ld 3),Fm 2 12 5,Fz 3 13 (Ca 135 [.t 11,.t 12,(.f 188),(.f 189)]),Fz 4 14 (Ca 147 [.t 10,.t 13]),Fm 5 4 14]
def xiq:RC:=(So JN (Sq (So JM (Kc 8 (Kk [2,3,8] (So im .ret)) (Kk [8] .skip))) (So JL (Sq (.flt [0,0,0,6,15,31] [] JK [3,5,10,11,12,13,14]) .ret))))
def YK:FnC:=⟨xiq,15,[.tmp 4],[],[]⟩
def JJ:List RI:=[omk 7 0,oo 8 (.lit 1 [.t 7]) [7],oo 9 (Ca 190 [ci 4,.t 8]) [8],oo 10 (.slcL 1 (.t 9) none (some (ci 16)) none) [9],omk 3 10]
def JI:List RI:=[om 11 6,oo 12 (Bc .lss 11 16) [11]]
def JH:List FI:=[Fm 0 15 4,Fm 1 16 3,Fm 2 17 6,Fs 3 18 (Ia 1 16 17),Fs 4 19 (Ld 18),Fs 5 20 (.bin .shr (.t 19) (.c (.int .u64 4))),Fs 6 21 (.toInt .i64 (.t 20)),Fm 7 22 3,Fm 8 23 6,Fs 9 24 (Ia 1 22 23),Fs 10 25 (Ld 24),Fs 11 26 (.bin .and (.t 25) (.c (.u8 15))),Fs 12 27 (.toInt .i64 (.t 26)),Fs 13 28 (.lit 1 [.t 21,.t 27]),Fz 14 29 (.app [.int .i64 0] 8 (.t 15) (.t 28)),⟨15,false,(xm 4 29)⟩]
def JG:List FI:=[Fm 0 30 5,Fm 1 31 3,Fm 2 32 6,Fs 3 33 (Ia 1 31 32),Fs 4 34 (Ld 33),Fs 5 35 (.bin .shr (.t 34) (.c (.int .u64 4))),Fs 6 36 (.toInt .i64 (.t 35)),Fs 7 37 (.bin .sub (ci 30) (.t 36)),Fm 8 38 3,Fm 9 39 6,Fs 10 40 (Ia 1 38 39),Fs 11 41 (Ld 40),Fs 12 42 (.bin .and (.t 41) (.c (.u8 15))),Fs 13 43 (.toInt .i64 (.t 42)),Fs 14 44 (Bb .sub 37 43),Fs 15 45 (Bb .add 30 44),⟨16,false,(xm 5 45)⟩]
def yB:RC:=(.post (Sq (So JI (Kc 12 (Kk [12] .skip) (Kk [3,6,12] (.exit 0)))) (Sq (Bk 1 (Sq (.flt [0,0,0,6,14,30,62,0,0,384,896,1920,3968,8190,16383,32767] [129] JH [15,16,17,18,19,20,21,22,23,24,25,26,27,28,29]) (.flt [0,0,0,6,14,30,62,126,0,0,768,1792,3840,7936,16382,32767,65535] [] JG [30,31,32,33,34,35,36,37,38,39,40,41,42,43,44,45]))) (.ops xH))) [.tok 4 104])
def xx:RC:=yB
def zt:List RI:=[omk 46 4,om 47 5,oo 48 (Bc .quo 47 256) [47],om 49 5,oo 50 (Bc .quo 49 16) [49],oo 51 (Bc .rem 50 16) [50],omk 52 5,oo 53 (Bc .rem 52 16) [52],oo 54 (.lit 1 [.t 48,.t 51,.t 53]) [48,51,53],oo 55 (.app [.int .i64 0] 8 (.t 46) (.t 54)) [46,54],omk 2 55]
def xip:RC:=(So sE (So JJ (So C5 (So C8 (Sq (So kA (Bk 0 (.pre [.tok 4 104] (.loop xx)))) (So zt .ret))))))
def YJ:FnC:=⟨xip,56,[.tmp 2],[],[]⟩
def JF:List RI:=[oo 10 (.mov (.c (.byt [] .clip))) [10]]
def JE:List RI:=[omk 12 2,omk 11 12]
def JD:List RI:=[om 13 11,om 14 3,oo 15 (Bb .lss 13 14) [13,14]]
def JC:List RI:=[om 18 0,oo 19 (.toInt .u8 (.t 18)) [18],om 20 1,oo 21 (.toInt .u8 (.t 20)) [20],om 22 11,oo 23 (.toInt .u8 (.t 22)) [22],oo 24 (.litB [.t 19,.t 21,.t 23]) [19,21,23],omk 25 4,oo 26 (.lit 1 [.t 24,.t 25]) [24,25],oo 27 (Ca 190 [ci 1,.t 26]) [26],oo 28 (.slcL 1 (.t 27) none (some (ci 16)) none) [27],omk 4 28]
def JB:List RI:=[omk 16 11,oo 17 (Bc .add 16 1) [16],omk 11 17]
def yA:RC:=(Sq (So JD (Kc 15 (Kk [15] .skip) (Kk [0,1,3,11,15] (.exit 0)))) (Sq (Bk 1 (.ops JC)) (.ops JB)))
def xw:RC:=yA
def JA:List RI:=[omk 29 4,omk 10 29]
def xio:RC:=(So JF (Sq (So JE (Bk 0 (.loop xw))) (So JA .ret)))
def YI:FnC:=⟨xio,30,[.tmp 10],[],[]⟩
def Jz:List RI:=[omk 7 0,omk 8 1,oo 9 (.toInt .u8 (.t 8)) [8],omk 10 2,oo 11 (.toInt .u8 (.t 10)) [10],oo 12 (.litB [.t 9,.t 11]) [9,11],oo 13 (Ca 145 [.t 7,(.c (.str [99,104,97,105,110])),.t 12,ci 16]) [7,12],omk 6 13]
def xin:RC:=(So po (So Jz .ret))
def YH:FnC:=⟨xin,14,[.tmp 6],[],[]⟩
def Jy:List RI:=[on 10 (Mc 1)]
def Jx:List RI:=[om 18 9,oo 19 (Ln 18) [18],om 20 3,oo 21 (Bb .lss 19 20) [19,20]]
def Jw:List RI:=[om 24 10,oo 25 (Ca 191 [.t 24]) [24],om 26 1,oo 27 (.app [.u8 0] 1 (.t 25) (.t 26)) [25,26],omk 11 27]
def Jv:List RI:=[omk 28 11,on 29 (.litB [(.c (.u8 0))]),oo 30 (.app [.u8 0] 1 (.t 28) (.t 29)) [28,29],om 31 2,oo 32 (.app [.u8 0] 1 (.t 30) (.t 31)) [30,31],om 33 3,oo 34 (.bin .mul (ci 8) (.t 33)) [33],oo 35 (Ca 191 [.t 34]) [34],oo 36 (.app [.u8 0] 1 (.t 32) (.t 35)) [32,35],omk 11 36]
def Ju:List RI:=[omk 37 9,om 38 0,omk 39 11,oo 40 (Ca 192 [.t 38,.t 39]) [38,39],oo 41 (.app [.u8 0] 1 (.t 37) (.t 40)) [37,40],omk 9 41]
def Jt:List RI:=[omk 22 10,oo 23 (Bc .add 22 1) [22],omk 10 23]
def rM:RC:=(.post (Sq (So Jx (Kc 21 (Kk [21] .skip) (Kk [0,1,2,10,21] (.exit 0)))) (Sq (Bk 1 (So Jw (So Jv (.ops Ju)))) (.ops Jt))) [.gc [127,130,132,136],.gcr 26000 27000,.gcr 36000 37000,.tok 9 109])
def zq:RC:=rM
def zp:List RI:=[omk 42 9,omk 43 3,oo 44 (.slcL 1 (.t 42) none (some (.t 43)) none) [42,43],omk 8 44]
def xim:RC:=(So mq (Sq (So xy (Kc 17 (Kk [0,1,2,3,17] (So sC .ret)) (Kk [17] .skip))) (So xB (Sq (So Jy (Bk 0 (.pre [.tok 9 109] (.loop zq)))) (So zp .ret)))))
def YG:FnC:=⟨xim,45,[.tmp 8],[],[]⟩
def xu:List RI:=[oo 3 (.mov (.c (.byt [] .clip))) [3]]
def Js:List RI:=[oo 4 (Ld 1) [1],om 5 0,oo 6 (Bc .mul 5 16) [5],omk 7 0,oo 8 (Bc .add 7 1) [7],oo 9 (Bc .mul 8 16) [8],oo 10 (.slcL 1 (.t 4) (some (.t 6)) (some (.t 9)) none) [4,6,9],omk 3 10]
def xil:RC:=(So xu (So Js .ret))
def YF:FnC:=⟨xil,11,[.tmp 3],[],[]⟩
def Jr:List RI:=[omk 5 0,oo 6 (.toInt .u8 (.t 5)) [5],oo 7 (.litB [.t 6]) [6],omk 8 1,oo 9 (.lit 1 [.t 7,.t 8]) [7,8],oo 10 (Ca 183 [ci 2,.t 9]) [9],oo 11 (.slcL 1 (.t 10) none (some (ci 16)) (some (ci 16))) [10],omk 4 11]
def xik:RC:=(So ft (So Jr .ret))
def YE:FnC:=⟨xik,12,[.tmp 4],[],[]⟩
def xij:RC:=(So xA (So xz .ret))
def YD:FnC:=⟨xij,8,[.tmp 3],[],[]⟩
def xq:List RI:=[on 2 (Mc 15)]
def xii:RC:=(Kk [0] (So jk (So xq .ret)))
def YC:FnC:=⟨xii,3,[.tmp 2],[],[]⟩
def Jq:List RI:=[omk 9 0,oo 10 (.toInt .u8 (.t 9)) [9],omk 11 1,oo 12 (.toInt .u8 (.t 11)) [11],oo 13 (.litB [.t 10,.t 12]) [10,12],omk 14 2,omk 15 3,oo 16 (.lit 1 [.t 13,.t 14,.t 15]) [13,14,15],oo 17 (Ca 183 [ci 3,.t 16]) [16],oo 18 (.slcL 1 (.t 17) none (some (ci 16)) (some (ci 16))) [17],omk 8 18]
def xih:RC:=(So mq (So Jq .ret))
def YB:FnC:=⟨xih,19,[.tmp 8],[],[]⟩
def Jp:List RI:=[om 3 0,oo 4 (.bin .geq (.t 3) (.c (.int .u64 4294967296))) [3]]
def Jo:List RI:=[omk 5 0,oo 6 (.bin .shr (.t 5) (.c (.int .u64 32))) [5],omk 0 6]
def Jn:List RI:=[on 2 (Mc 32)]
def Jm:List RI:=[om 7 0,oo 8 (.bin .geq (.t 7) (.c (.int .u64 65536))) [7]]
def Jl:List RI:=[omk 9 0,oo 10 (.bin .shr (.t 9) (.c (.int .u64 16))) [9],omk 0 10]
def Jk:List RI:=[omk 11 2,oo 12 (Bc .add 11 16) [11],omk 2 12]
def Jj:List RI:=[om 13 0,oo 14 (.bin .geq (.t 13) (.c (.int .u64 256))) [13]]
def Ji:List RI:=[omk 15 0,oo 16 (.bin .shr (.t 15) (.c (.int .u64 8))) [15],omk 0 16]
def Jh:List RI:=[omk 17 2,oo 18 (Bc .add 17 8) [17],omk 2 18]
def zo:List RI:=[omk 19 2,omk 20 0,oo 21 (.toInt .u8 (.t 20)) [20],oo 22 (.idxS (.c (.str cs0)) (.t 21)) [21],oo 23 (.toInt .i64 (.t 22)) [22],oo 24 (Bb .add 19 23) [19,23],omk 2 24]
def xig:RC:=(So iC (Sq (So Jp (Kc 4 (Kk [2,4] (So Jo (.ops Jn))) (Kk [4] .skip))) (Sq (So Jm (Kc 8 (Kk [8] (So Jl (.ops Jk))) (Kk [8] .skip))) (Sq (So Jj (Kc 14 (Kk [14] (So Ji (.ops Jh))) (Kk [14] .skip))) (So zo .ret)))))
def YA:FnC:=⟨xig,25,[.tmp 2],[],[]⟩
def Jg:List RI:=[omk 5 0,on 6 (Ln 5),on 7 (Mc 0)]
def Jf:List RI:=[on 8 (Bb .lss 7 6)]
def Je:List RI:=[on 9 (Ia 1 5 7),oo 10 (Ld 9) [9],omk 4 10]
def Jd:List RI:=[om 11 4,oo 12 (.bin .lss (.t 11) (.c (.u8 32))) [11],omk 13 12,.grp 13 false [(xi 14 13 false (Mv 4)),(xi 15 13 false (.bin .gtr (.t 14) (.c (.u8 126))))] [4,14],oo 16 (Pt 13 15) [13,15]]
def Jc:List RI:=[oo 17 (Bc .add 7 1) [7],omk 7 17]
def yz:RC:=(So Jf (Sq (Kc 8 (Kk [8] .skip) (Kk [5,6,7,8] (.exit 0))) (Sq (Bk 1 (So Je (So Jd (Kc 16 (Kk [5,6,7,16] (So sF .ret)) (Kk [16] .skip))))) (.ops Jc))))
def xo:RC:=yz
def xif:RC:=(So nf (Sq (So Jg (Bk 0 (.loop xo))) (So qX .ret)))
def Yz:FnC:=⟨xif,18,[.tmp 2],[],[]⟩
def xie:RC:=(So oU (Sq (.flt [0,0,2,7,15,31,63,0,0,256,768,1920,3968,8064,16256,32767,0,0,131072,393216,983040,2031616,4128768,8323072,16777215,0,0,67108864,201326592,503316480,1040187392,2113929216,4294967295,8589934591] [] xJ [0,1,5,6,7,8,9,10,11,12,13,14,15,16,17,18,19,20,21,22,23,24,25,26,27,28,29,30,31,32,33,34,35,36,37]) .ret))
def Yy:FnC:=⟨xie,38,[.tmp 4],[],[]⟩
def Jb:List RI:=[omk 6 1,oo 7 (.toInt .u64 (.t 6)) [6],oo 8 (.bin .and (.t 7) (.c (.int .u64 31))) [7],omk 5 8]
def Ja:List RI:=[om 9 0,om 10 5,oo 11 (Bb .shl 9 10) [9,10],omk 12 0,omk 13 5,oo 14 (.bin .sub (.c (.int .u64 32)) (.t 13)) [13],oo 15 (Bb .shr 12 14) [12,14],oo 16 (Bb .or 11 15) [11,15],omk 4 16]
def xid:RC:=(So oU (So Jb (So Ja .ret)))
def Yx:FnC:=⟨xid,17,[.tmp 4],[],[]⟩
def I9:List RI:=[om 10 1,oo 11 (Bc .add 10 1) [10],omk 8 11]
def I8:List RI:=[om 12 8,om 13 2,oo 14 (Bb .lss 12 13) [12,13]]
def I7:List RI:=[om 17 8,omk 9 17]
def I6:List FI:=[Fm 0 18 9,Fm 1 19 1,Fs 2 20 (Bb .gtr 18 19),Fm 3 21 20,Fi 4 22 21 true (Mv 3),Fi 5 23 21 true (Mv 0),Fi 6 24 21 true (Mv 9),Fi 7 25 21 true (Ia 4 23 24),Fi 8 26 21 true (Lt 4 25),Fi 9 27 21 true (Mv 0),Fi 10 28 21 true (Mv 9),Fi 11 29 21 true (Bc .sub 28 1),Fi 12 30 21 true (Ia 4 27 29),Fi 13 31 21 true (Lt 4 30),Fy 14 32 21 true (.call (.t 22) [.t 26,.t 31]),Fi 15 33 21 true (Bc .lss 32 0),Fs 16 34 (Pf 21 33)]
def I5:List FI:=[Fm 0 37 0,Fm 1 38 9,Fm 2 39 0,Fm 3 40 9,Fs 4 41 (Bc .sub 40 1),Fm 5 42 0,Fm 6 43 9,Fs 7 44 (Bc .sub 43 1),Fs 8 45 (Ia 4 42 44),Fs 9 46 (Lt 4 45),Fm 10 47 0,Fm 11 48 9,Fs 12 49 (Ia 4 47 48),Fs 13 50 (Lt 4 49),Fs 14 51 (Ia 4 37 38),Fr 15 4 51 46,Fs 16 52 (Ia 4 39 41),Fr 17 4 52 50]
def I4:List RI:=[omk 35 9,oo 36 (Bc .sub 35 1) [35],omk 9 36]
def yy:RC:=(Sq (Sq (.flt [0,0,3,7,15,15,15,111,239,15,15,1039,3599,7695,16383,32767,65535] [] I6 [18,19,20,21,22,23,24,25,26,27,28,29,30,31,32,33]) (Kc 34 (Kk [34] .skip) (Kk [9,34] (.exit 2)))) (Sq (Bk 3 (.flt [0,0,0,0,8,0,0,64,224,480,0,0,3072,7168,16355,32739,65535,131071] [] I5 [37,38,39,40,41,42,43,44,45,46,47,48,49,50,51,52])) (.ops I4)))
def xl:RC:=yy
def I3:List RI:=[omk 15 8,oo 16 (Bc .add 15 1) [15],omk 8 16]
def yx:RC:=(Sq (So I8 (Kc 14 (Kk [14] .skip) (Kk [0,1,2,3,8,14] (.exit 0)))) (Sq (Bk 1 (So I7 (Bk 2 (.loop xl)))) (.ops I3)))
def xk:RC:=yx
def xic:RC:=(So I9 (Bk 0 (.loop xk)))
def Yw:FnC:=⟨xic,53,[],[],[]⟩
def I2:List RI:=[om 3 0,omk 4 0,oo 5 (Bb .neq 3 4) [3,4],omk 2 5]
def xib:RC:=(So nf (So I2 .ret))
def Yv:FnC:=⟨xib,6,[.tmp 2],[],[]⟩
def I1:List RI:=[omk 9 0,oo 10 (.toInt .u8 (.t 9)) [9],omk 11 1,oo 12 (.toInt .u8 (.t 11)) [11],oo 13 (.litB [.t 10,.t 12]) [10,12],omk 14 2,omk 15 3,oo 16 (.lit 1 [.t 13,.t 14,.t 15]) [13,14,15],oo 17 (Ca 190 [ci 3,.t 16]) [16],oo 18 (.slcL 1 (.t 17) none (some (ci 16)) none) [17],omk 8 18]
def xia:RC:=(So mq (So I1 .ret))
def Yu:FnC:=⟨xia,19,[.tmp 8],[],[]⟩
def I0:List RI:=[omk 5 0,oo 6 (.toInt .u8 (.t 5)) [5],oo 7 (.litB [.t 6]) [6],omk 8 1,oo 9 (.lit 1 [.t 7,.t 8]) [7,8],oo 10 (Ca 190 [ci 2,.t 9]) [9],oo 11 (.slcL 1 (.t 10) none (some (ci 16)) none) [10],omk 4 11]
def xh9:RC:=(So ft (So I0 .ret))
def Yt:FnC:=⟨xh9,12,[.tmp 4],[],[]⟩
def IZ:List RI:=[on 3 (Fa 0 1),oo 4 (Ld 3) [3],oo 5 (Bc .lss 4 1) [4],omk 6 5,.grp 6 false [(xi 7 6 false (Fa 0 1)),(xi 8 6 false (Ld 7)),(xi 9 6 false (Bc .gtr 8 4))] [7,8],oo 10 (Pt 6 9) [6,9],omk 11 10,.grp 11 false [(xi 12 11 false (Fa 2 1)),(xi 13 11 false (Ld 12)),(xi 14 11 false (Bc .lss 13 0))] [12,13],oo 15 (Pt 11 14) [11,14],omk 16 15,.grp 16 false [(xi 17 16 false (Fa 2 1)),(xi 18 16 false (Ld 17)),(xi 19 16 false (Bc .gtr 18 1000000))] [17,18],oo 20 (Pt 16 19) [16,19]]
def IY:List RI:=[on 21 (Fa 1 1),oo 22 (Ld 21) [21],oo 23 (Ca 126 [.t 22]) [22],oo 24 (.un .not (.t 23)) [23]]
def IX:List RI:=[on 25 (Fa 3 1),oo 26 (Ld 25) [25],oo 27 (Ln 26) [26],oo 28 (Bc .gtr 27 64) [27]]
def IW:List RI:=[on 29 (Fa 0 1),oo 30 (Ld 29) [29],oo 31 (Bc .eql 30 4) [30],omk 32 31,.grp 32 true [(xi 33 32 true (Lt 4 1)),(xi 34 32 true (Ca 203 [.t 33])),(xi 35 32 true (Ln 34)),(xi 36 32 true (Bc .eql 35 0))] [1,33,34,35],oo 37 (Pf 32 36) [32,36]]
def xh8:RC:=(So pr (Sq (So IZ (Kc 20 (Kk [1,20] (So gw .ret)) (Kk [20] .skip))) (Sq (So IY (Kc 24 (Kk [1,24] (So vz .ret)) (Kk [24] .skip))) (Sq (So IX (Kc 28 (Kk [1,28] (So pq .ret)) (Kk [28] .skip))) (Sq (So IW (Kc 37 (Kk [37] (So M7 .ret)) (Kk [37] .skip))) (So iC .ret))))))
def Ys:FnC:=⟨xh8,38,[.tmp 2],[],[]⟩
def IV:List RI:=[omk 5 0,omk 6 1,oo 7 (Ca 204 [.t 5,.t 6]) [5,6],oo 8 (Ca 64 [ci 1,.t 7]) [7],omk 4 8]
def xh7:RC:=(So ft (So IV .ret))
def Yr:FnC:=⟨xh7,9,[.tmp 4],[],[]⟩
def IU:List RI:=[omk 9 0,oo 10 (.toInt .u8 (.t 9)) [9],omk 11 1,oo 12 (.toInt .u8 (.t 11)) [11],omk 13 2,oo 14 (.toInt .u8 (.t 13)) [13],oo 15 (.litB [.t 10,.t 12,.t 14]) [10,12,14],omk 16 3,oo 17 (.lit 1 [.t 15,.t 16]) [15,16],oo 18 (Ca 183 [ci 1,.t 17]) [17],oo 19 (.slcL 1 (.t 18) none (some (ci 16)) (some (ci 16))) [18],omk 8 19]
def xh6:RC:=(So mq (So IU .ret))
def Yq:FnC:=⟨xh6,20,[.tmp 8],[],[]⟩
def xj:List RI:=[om 3 0,oo 4 (.bin .shr (.t 3) (.c (.int .u64 24))) [3],oo 5 (.toInt .u8 (.t 4)) [4],om 6 0,oo 7 (.bin .shr (.t 6) (.c (.int .u64 16))) [6],oo 8 (.toInt .u8 (.t 7)) [7],om 9 0,oo 10 (.bin .shr (.t 9) (.c (.int .u64 8))) [9],oo 11 (.toInt .u8 (.t 10)) [10],omk 12 0,oo 13 (.toInt .u8 (.t 12)) [12],oo 14 (.litB [.t 5,.t 8,.t 11,.t 13]) [5,8,11,13],omk 2 14]
def xh5:RC:=(So jl (So xj .ret))
def Yp:FnC:=⟨xh5,15,[.tmp 2],[0],[]⟩
def IT:List RI:=[oo 2 (.box (.t 0)) [0],oo 4 (.mov (.c (.byt [] .clip))) [4]]
def IS:List RI:=[on 7 (Ld 2),oo 8 (Ln 7) [7],oo 9 (Bc .gtr 8 64) [8]]
def IR:List RI:=[on 10 (Ld 2),oo 11 (Ca 64 [ci 1,.t 10]) [10],Sr 1 2 11 [11]]
def IQ:List RI:=[oo 12 (.mkfn 205 [] [.t 2]) [2],omk 5 12]
def IP:List RI:=[om 13 5,oo 14 (.call (.t 13) [(.c (.u8 54))]) [13],omk 15 1,oo 16 (.app [.u8 0] 1 (.t 14) (.t 15)) [14,15],oo 17 (Ca 64 [ci 1,.t 16]) [16],omk 6 17]
def IN:List RI:=[omk 18 5,oo 19 (.call (.t 18) [(.c (.u8 92))]) [18],omk 20 6,oo 21 (.app [.u8 0] 1 (.t 19) (.t 20)) [19,20],oo 22 (Ca 64 [ci 1,.t 21]) [21],omk 4 22]
def xh4:RC:=(So IT (Sq (So IS (Kc 9 (Kk [9] (.ops IR)) (Kk [9] .skip))) (So IQ (So IP (So IN .ret)))))
def Yo:FnC:=⟨xh4,23,[.tmp 4],[],[]⟩
def xh3:RC:=(So ft (So xC .ret))
def Yn:FnC:=⟨xh3,9,[.tmp 4],[],[]⟩
def xh2:RC:=(Kk [0] (So jk (So iC .ret)))
def Ym:FnC:=⟨xh2,3,[.tmp 2],[],[]⟩
def xh1:RC:=(Kk [0] (So jk (So xq .ret)))
def Yl:FnC:=⟨xh1,3,[.tmp 2],[],[]⟩
def IM:List RI:=[omk 5 0,omk 6 1,oo 7 (Ca 206 [.t 5,.t 6]) [5,6],oo 8 (Ca 73 [.t 7]) [7],omk 4 8]
def xh0:RC:=(So ft (So IM .ret))
def Yk:FnC:=⟨xh0,9,[.tmp 4],[],[]⟩
def xhZ:RC:=(So jl (So xj .ret))
def Yj:FnC:=⟨xhZ,15,[.tmp 2],[0],[]⟩
def IL:List RI:=[om 9 0,oo 10 (Ln 9) [9],oo 11 (Bc .gtr 10 64) [10]]
def IK:List RI:=[omk 12 0,oo 13 (Ca 73 [.t 12]) [12],omk 0 13]
def IJ:List FI:=[Fz 0 14 (.mkB (ci 64) (ci 64)),Fm 2 5 14,Fz 1 15 (.mkB (ci 64) (ci 64)),Fm 3 6 15]
def II:List RI:=[om 16 7,oo 17 (Bc .lss 16 64) [16]]
def IH:List RI:=[on 8 (.mov (.c (.u8 0)))]
def IG:List RI:=[om 20 7,om 21 0,oo 22 (Ln 21) [21],oo 23 (Bb .lss 20 22) [20,22]]
def IF:List RI:=[om 24 0,om 25 7,oo 26 (Ia 1 24 25) [24,25],oo 27 (Ld 26) [26],omk 8 27]
def IE:List RI:=[om 28 5,om 29 7,om 30 6,om 31 7,om 32 8,oo 33 (.bin .xor (.t 32) (.c (.u8 54))) [32],omk 34 8,oo 35 (.bin .xor (.t 34) (.c (.u8 92))) [34],oo 36 (Ia 1 28 29) [28,29],Sr 1 36 33 [33,36],oo 37 (Ia 1 30 31) [30,31],Sr 1 37 35 [35,37]]
def zm:List RI:=[omk 18 7,oo 19 (Bc .add 18 1) [18],omk 7 19]
def rL:RC:=(Sq (So II (Kc 17 (Kk [17] .skip) (Kk [0,7,17] (.exit 0)))) (Sq (Bk 1 (So IH (Sq (So IG (Kc 23 (Kk [8,23] (.ops IF)) (Kk [23] .skip))) (.ops IE)))) (.ops zm)))
def qV:RC:=rL
def zl:List RI:=[omk 38 6,omk 39 5,omk 40 1,.dir (.tok 39 139),oo 41 (.app [.u8 0] 1 (.t 39) (.t 40)) [39,40],oo 42 (Ca 73 [.t 41]) [41],.dir (.tok 38 138),oo 43 (.app [.u8 0] 1 (.t 38) (.t 42)) [38,42],oo 44 (Ca 73 [.t 43]) [43],omk 4 44]
def xhY:RC:=(So ft (Sq (So IL (Kc 11 (Kk [11] (.ops IK)) (Kk [11] .skip))) (Sq (.fla [0,0,1,7] [114,115] IJ [[0,2,1,3],[1,0,2,3]] [14,15]) (Sq (So C7 (Bk 0 (.loop qV))) (So zl .ret)))))
def Yi:FnC:=⟨xhY,45,[.tmp 4],[],[]⟩
def ID:List RI:=[om 7 5,on 8 (Fa 3 1),oo 9 (Ld 8) [8],oo 10 (Ln 9) [9],oo 11 (Bb .lss 7 10) [7,10]]
def IC:List RI:=[on 14 (Fa 3 1),oo 15 (Ld 14) [14],om 16 5,oo 17 (Ia 1 15 16) [15,16],oo 18 (Ld 17) [17],omk 6 18]
def IB:List RI:=[om 19 6,oo 20 (.bin .eql (.t 19) (.c (.u8 10))) [19]]
def IA:List RI:=[om 21 4,oo 22 (Ln 21) [21],oo 23 (Bc .eql 22 0) [22],omk 24 23,.grp 24 false [(xi 25 24 false (Mv 3)),(xi 26 24 false (Ln 25)),(xi 27 24 false (Bc .geq 26 4))] [25,26],oo 28 (Pt 24 27) [24,27]]
def Iz:List RI:=[omk 29 3,omk 30 4,oo 31 (.lit 1 [.t 30]) [30],oo 32 (.app [.byt [] .clip] 24 (.t 29) (.t 31)) [29,31],omk 3 32]
def zk:List RI:=[om 33 6,oo 34 (.bin .lss (.t 33) (.c (.u8 32))) [33],omk 35 34,.grp 35 false [(xi 36 35 false (Mv 6)),(xi 37 35 false (.bin .gtr (.t 36) (.c (.u8 126))))] [36],oo 38 (Pt 35 37) [35,37]]
def zj:List RI:=[omk 39 4,omk 40 6,oo 41 (.litB [.t 40]) [40],oo 42 (.app [.u8 0] 1 (.t 39) (.t 41)) [39,41],omk 4 42]
def zi:List RI:=[omk 12 5,oo 13 (Bc .add 12 1) [12],omk 5 13]
def rK:RC:=(.post (Sq (So ID (Kc 11 (Kk [11] .skip) (Kk [1,5,11] (.exit 0)))) (Sq (Bk 1 (So IC (Sq (So IB (Kc 20 (Kk [6,20] (Sq (So IA (Kc 28 (Kk [1,3,4,5,28] (So oW .ret)) (Kk [28] .skip))) (So Iz (So im (.exit 1))))) (Kk [20] .skip))) (Sq (So zk (Kc 38 (Kk [1,3,4,5,6,38] (So oW .ret)) (Kk [38] .skip))) (.ops zj))))) (.ops zi))) [.tok 3 103,.tok 4 104])
def qU:RC:=rK
def zh:List RI:=[omk 43 4,oo 44 (Ln 43) [43],oo 45 (Bc .gtr 44 0) [44]]
def zg:List RI:=[omk 46 3,omk 2 46]
def xhX:RC:=(So xR (So sI (So im (Sq (So C8 (Bk 0 (.pre [.tok 3 103,.tok 4 104] (.loop qU)))) (Sq (So zh (Kc 45 (Kk [3,45] (So oW .ret)) (Kk [45] .skip))) (So zg .ret))))))
def Yh:FnC:=⟨xhX,47,[.tmp 2],[],[]⟩
def Iy:List RI:=[omk 9 0,oo 10 (.toInt .u8 (.t 9)) [9],oo 11 (.litB [.t 10]) [10],omk 5 11]
def Ix:List RI:=[omk 12 1,on 13 (Ln 12),on 14 (Mc 0)]
def Iw:List RI:=[on 16 (Ia 1 12 14),oo 17 (Ld 16) [16],omk 7 17]
def Iv:List RI:=[om 18 7,oo 19 (Ln 18) [18],oo 20 (.toInt .u32 (.t 19)) [19],omk 8 20]
def Iu:List RI:=[omk 21 5,om 22 8,oo 23 (.bin .shr (.t 22) (.c (.int .u64 24))) [22],oo 24 (.toInt .u8 (.t 23)) [23],om 25 8,oo 26 (.bin .shr (.t 25) (.c (.int .u64 16))) [25],oo 27 (.toInt .u8 (.t 26)) [26],om 28 8,oo 29 (.bin .shr (.t 28) (.c (.int .u64 8))) [28],oo 30 (.toInt .u8 (.t 29)) [29],omk 31 8,oo 32 (.toInt .u8 (.t 31)) [31],oo 33 (.litB [.t 24,.t 27,.t 30,.t 32]) [24,27,30,32],oo 34 (.app [.u8 0] 1 (.t 21) (.t 33)) [21,33],omk 5 34]
def It:List RI:=[omk 35 5,omk 36 7,oo 37 (.app [.u8 0] 1 (.t 35) (.t 36)) [35,36],omk 5 37]
def Is:List RI:=[oo 38 (Bc .add 14 1) [14],omk 14 38]
def yw:RC:=(.post (So C4 (Sq (Kc 15 (Kk [15] .skip) (Kk [12,13,14,15] (.exit 0))) (Sq (Bk 1 (So Iw (So Iv (So Iu (.ops It))))) (.ops Is)))) [.tok 5 105])
def xh:RC:=yw
def zf:List RI:=[omk 39 5,omk 4 39]
def xhW:RC:=(So ft (So Iy (Sq (So Ix (Bk 0 (.pre [.tok 5 105] (.loop xh)))) (So zf .ret))))
def Yg:FnC:=⟨xhW,40,[.tmp 4],[],[]⟩
def Ir:List RI:=[on 6 (.mkB (ci 64) (ci 64)),omk 4 6]
def Iq:List RI:=[om 7 4,oo 8 (Ld 1) [1],oo 9 (.cpy 1 (.t 7) (.t 8)) [7,8,9]]
def Ip:List RI:=[on 10 (Mc 0)]
def Io:List RI:=[on 11 (Bc .lss 10 64)]
def In:List RI:=[om 12 10,omk 5 12]
def Im:List RI:=[om 13 4,omk 14 5,on 15 (Ia 1 13 14),oo 16 (Ld 15) [15],om 17 0,oo 18 (Bb .xor 16 17) [16,17],oo 19 (Ia 1 13 14) [13,14],Sr 1 19 18 [18,19]]
def Il:List RI:=[oo 20 (Bc .add 10 1) [10],omk 10 20]
def yv:RC:=(So Io (Sq (Kc 11 (Kk [11] .skip) (Kk [0,10,11] (.exit 0))) (Sq (Bk 1 (So In (.ops Im))) (.ops Il))))
def xg:RC:=yv
def Ik:List RI:=[omk 21 4,omk 3 21]
def xhV:RC:=(So xu (So Ir (So Iq (Sq (So Ip (Bk 0 (.loop xg))) (So Ik .ret)))))
def Yf:FnC:=⟨xhV,22,[.tmp 3],[0],[]⟩
def Ij:List RI:=[omk 8 0,oo 9 (.toInt .u8 (.t 8)) [8],oo 10 (.litB [.t 9]) [9],omk 5 10]
def Ii:List RI:=[om 11 6,om 12 1,oo 13 (Ln 12) [12],oo 14 (Bb .lss 11 13) [11,13]]
def Ih:List RI:=[om 17 1,om 18 6,oo 19 (Ia 1 17 18) [17,18],oo 20 (Ld 19) [19],oo 21 (Ln 20) [20],omk 7 21]
def Ig:List RI:=[omk 22 5,om 23 7,oo 24 (.bin .shr (.t 23) (.c (.int .u64 24))) [23],oo 25 (.toInt .u8 (.t 24)) [24],om 26 7,oo 27 (.bin .shr (.t 26) (.c (.int .u64 16))) [26],oo 28 (.toInt .u8 (.t 27)) [27],om 29 7,oo 30 (.bin .shr (.t 29) (.c (.int .u64 8))) [29],oo 31 (.toInt .u8 (.t 30)) [30],omk 32 7,oo 33 (.toInt .u8 (.t 32)) [32],oo 34 (.litB [.t 25,.t 28,.t 31,.t 33]) [25,28,31,33],oo 35 (.app [.u8 0] 1 (.t 22) (.t 34)) [22,34],omk 5 35]
def If:List RI:=[omk 36 5,om 37 1,om 38 6,oo 39 (Ia 1 37 38) [37,38],oo 40 (Ld 39) [39],oo 41 (.app [.u8 0] 1 (.t 36) (.t 40)) [36,40],omk 5 41]
def yu:RC:=(.post (Sq (So Ii (Kc 14 (Kk [14] .skip) (Kk [1,6,14] (.exit 0)))) (Sq (Bk 1 (So Ih (So Ig (.ops If)))) (.ops xG))) [.tok 5 105])
def xf:RC:=yu
def xhU:RC:=(So ft (So Ij (Sq (So kA (Bk 0 (.pre [.tok 5 105] (.loop xf)))) (So wP .ret))))
def Ye:FnC:=⟨xhU,43,[.tmp 4],[],[]⟩
theorem Fk{g:Nat}{F:FnC}{fn:Func}(h1:prog.funcs[g]? =some fn)(h3:fn.ntmps=F.n:=by kernel_rfl)(h2:fn.body.map (cn prog)=some F.code.er:=by kernel_rfl)(h4:(oM prog fn.results.toList F.rs&&dM prog g&&F.code.ok F.n)=true:=by kernel_rfl):bF prog g F:=by simp only[aA]at h4;exact PX h1 h2 h3 h4.1.1 h4.1.2 h4.2
noncomputable def xhS:Nat->Option FnB
 |10=>some (.code F10)
 |11=>some (.code F11)
 |14=>some (.code F14)
 |15=>some (.code F15)
 |16=>some (.code F16)
 |17=>some (.code F17)
 |18=>some (.code F18)
 |20=>some (.code F20)
 |22=>some (.code F22)
 |23=>some (.code F23)
 |25=>some (.code F25)
 |28=>some (.code F28)
 |29=>some (.code F29)
 |34=>some (.code F34)
 |36=>some (.code F36)
 |37=>some (.code F37)
 |38=>some (.code F38)
 |39=>some (.code F39)
 |40=>some (.code F40)
 |41=>some (.code F41)
 |42=>some (.code F42)
 |43=>some (.code F43)
 |44=>some (.code F44)
 |45=>some (.code F45)
 |46=>some (.code F46)
 |47=>some (.code F47)
 |48=>some (.code F48)
 |49=>some (.code F49)
 |50=>some (.code F50)
 |51=>some (.code F51)
 |52=>some (.code F52)
 |55=>some (.code F55)
 |56=>some (.code F56)
 |57=>some (.code F57)
 |58=>some (.code F58)
 |61=>some (.code F61)
 |63=>some (.code F63)
 |64=>some (.code F64)
 |65=>some (.code F65)
 |66=>some (.code F66)
 |67=>some (.code F67)
 |68=>some (.code F68)
 |69=>some (.code F69)
 |70=>some (.code F70)
 |71=>some (.code F71)
 |72=>some (.code F72)
 |73=>some (.code F73)
 |74=>some (.code F74)
 |75=>some (.code F75)
 |76=>some (.code F76)
 |77=>some (.code F77)
 |78=>some (.code F78)
 |79=>some (.code F79)
 |80=>some (.code F80)
 |82=>some (.code F82)
 |86=>some (.code F86)
 |87=>some (.code F87)
 |88=>some (.code F88)
 |89=>some (.code F89)
 |90=>some (.code F90)
 |91=>some (.code F91)
 |92=>some (.code F92)
 |93=>some (.code F93)
 |94=>some (.code F94)
 |95=>some (.code F95)
 |97=>some (.code F97)
 |99=>some (.code F99)
 |100=>some (.code Zk)
 |103=>some (.code Zj)
 |104=>some (.code Zi)
 |106=>some (.code Zh)
 |107=>some (.code Zg)
 |108=>some (.code Zf)
 |109=>some (.code Ze)
 |110=>some (.code Zd)
 |111=>some (.code Zc)
 |113=>some (.code Zb)
 |114=>some (.code Za)
 |115=>some (.code Y9)
 |116=>some (.code Y8)
 |117=>some (.code Y7)
 |118=>some (.code Y6)
 |119=>some (.code Y5)
 |120=>some (.code Y4)
 |121=>some (.code Y3)
 |122=>some (.code Y2)
 |123=>some (.code Y1)
 |124=>some (.code Y0)
 |125=>some (.code YZ)
 |126=>some (.code YY)
 |128=>some (.code YX)
 |129=>some (.code YW)
 |130=>some (.code YV)
 |131=>some (.code YU)
 |132=>some (.code YT)
 |133=>some (.code YS)
 |134=>some (.code YR)
 |135=>some (.code YQ)
 |136=>some (.code YP)
 |137=>some (.code YO)
 |138=>some (.code YN)
 |139=>some (.code YM)
 |140=>some (.code YL)
 |141=>some (.code YK)
 |142=>some (.code YJ)
 |143=>some (.code YI)
 |144=>some (.code YH)
 |145=>some (.code YG)
 |146=>some (.code YF)
 |147=>some (.code YE)
 |148=>some (.code YD)
 |149=>some (.code YC)
 |150=>some (.code YB)
 |161=>some (.code YA)
 |165=>some (.code Yz)
 |166=>some (.code Yy)
 |167=>some (.code Yx)
 |168=>some (.code Yw)
 |176=>some (.code Yv)
 |179=>some (.code Yu)
 |180=>some (.code Yt)
 |182=>some (.code Ys)
 |183=>some (.code Yr)
 |184=>some (.code Yq)
 |185=>some (.code Yp)
 |186=>some (.code Yo)
 |187=>some (.code Yn)
 |188=>some (.code Ym)
 |189=>some (.code Yl)
 |190=>some (.code Yk)
 |191=>some (.code Yj)
 |192=>some (.code Yi)
 |203=>some (.code Yh)
 |204=>some (.code Yg)
 |205=>some (.code Yf)
 |206=>some (.code Ye)
 |102=>some (.prim Pr.p102)
 |112=>some (.prim Pr.p112)
 |164=>some (.prim Pr.p164)
 |177=>some (.prim Pr.p177)
 |_=>none
def xjY:Nat->Sig
 |66=>⟨[],[0]⟩
 |68=>⟨[],[0]⟩
 |108=>⟨[],[0]⟩
 |168=>⟨[],[0]⟩
 |_=> {}
noncomputable def T:fi:=⟨xhS,xjY⟩
abbrev tf(k:Nat)(F:FnC):Prop:=T.fn k=some (.code F)
theorem xmU:tf 10 F10:=rfl
theorem xmT:tf 11 F11:=rfl
theorem xmS:tf 14 F14:=rfl
theorem xmR:tf 15 F15:=rfl
theorem xjC:tf 16 F16:=rfl
theorem xjB:tf 17 F17:=rfl
theorem xmQ:tf 18 F18:=rfl
theorem xjA:tf 20 F20:=rfl
theorem xda:tf 22 F22:=rfl
theorem xmP:tf 23 F23:=rfl
theorem xmO:tf 25 F25:=rfl
theorem xmN:tf 28 F28:=rfl
theorem xmM:tf 29 F29:=rfl
theorem xmL:tf 34 F34:=rfl
theorem xmK:tf 36 F36:=rfl
theorem xmJ:tf 37 F37:=rfl
theorem xjz:tf 38 F38:=rfl
theorem xmI:tf 39 F39:=rfl
theorem xmH:tf 40 F40:=rfl
theorem xmG:tf 41 F41:=rfl
theorem xmF:tf 42 F42:=rfl
theorem xmE:tf 43 F43:=rfl
theorem xmD:tf 44 F44:=rfl
theorem xmC:tf 45 F45:=rfl
theorem xmB:tf 46 F46:=rfl
theorem xmA:tf 47 F47:=rfl
theorem xmz:tf 48 F48:=rfl
theorem xmy:tf 49 F49:=rfl
theorem xmx:tf 50 F50:=rfl
theorem xmw:tf 51 F51:=rfl
theorem xmv:tf 52 F52:=rfl
theorem XF:tf 55 F55:=rfl
theorem xjy:tf 56 F56:=rfl
theorem XE:tf 57 F57:=rfl
theorem Ra:tf 58 F58:=rfl
theorem xjx:tf 61 F61:=rfl
theorem xjw:tf 63 F63:=rfl
theorem xmu:tf 64 F64:=rfl
theorem xmt:tf 65 F65:=rfl
theorem xjv:tf 66 F66:=rfl
theorem xms:tf 67 F67:=rfl
theorem XD:tf 68 F68:=rfl
theorem xmr:tf 69 F69:=rfl
theorem xju:tf 70 F70:=rfl
theorem xmq:tf 71 F71:=rfl
theorem xmp:tf 72 F72:=rfl
theorem xmo:tf 73 F73:=rfl
theorem xmn:tf 74 F74:=rfl
theorem xmm:tf 75 F75:=rfl
theorem xml:tf 76 F76:=rfl
theorem xmk:tf 77 F77:=rfl
theorem xmj:tf 78 F78:=rfl
theorem xmi:tf 79 F79:=rfl
theorem xjt:tf 80 F80:=rfl
theorem xmh:tf 82 F82:=rfl
theorem xjs:tf 86 F86:=rfl
theorem xmg:tf 87 F87:=rfl
theorem xmf:tf 88 F88:=rfl
theorem xc9:tf 89 F89:=rfl
theorem xjr:tf 90 F90:=rfl
theorem xme:tf 91 F91:=rfl
theorem xmd:tf 92 F92:=rfl
theorem xc8:tf 93 F93:=rfl
theorem xmc:tf 94 F94:=rfl
theorem xmb:tf 95 F95:=rfl
theorem xma:tf 97 F97:=rfl
theorem xl9:tf 99 F99:=rfl
theorem xhk:tf 100 Zk:=rfl
theorem xhi:tf 103 Zj:=rfl
theorem xhh:tf 104 Zi:=rfl
theorem xhg:tf 106 Zh:=rfl
theorem xhf:tf 107 Zg:=rfl
theorem XO:tf 108 Zf:=rfl
theorem xhe:tf 109 Ze:=rfl
theorem xhd:tf 110 Zd:=rfl
theorem xhc:tf 111 Zc:=rfl
theorem xha:tf 113 Zb:=rfl
theorem xg9:tf 114 Za:=rfl
theorem xg8:tf 115 Y9:=rfl
theorem xg7:tf 116 Y8:=rfl
theorem xg6:tf 117 Y7:=rfl
theorem xg5:tf 118 Y6:=rfl
theorem xg4:tf 119 Y5:=rfl
theorem xg3:tf 120 Y4:=rfl
theorem xg2:tf 121 Y3:=rfl
theorem XN:tf 122 Y2:=rfl
theorem xg1:tf 123 Y1:=rfl
theorem xg0:tf 124 Y0:=rfl
theorem xgZ:tf 125 YZ:=rfl
theorem xgY:tf 126 YY:=rfl
theorem xgX:tf 128 YX:=rfl
theorem xgW:tf 129 YW:=rfl
theorem xgV:tf 130 YV:=rfl
theorem xgU:tf 131 YU:=rfl
theorem xgT:tf 132 YT:=rfl
theorem xgS:tf 133 YS:=rfl
theorem xgR:tf 134 YR:=rfl
theorem NN:tf 135 YQ:=rfl
theorem xgQ:tf 136 YP:=rfl
theorem xgP:tf 137 YO:=rfl
theorem xgO:tf 138 YN:=rfl
theorem XM:tf 139 YM:=rfl
theorem XL:tf 140 YL:=rfl
theorem xgN:tf 141 YK:=rfl
theorem xgM:tf 142 YJ:=rfl
theorem xgL:tf 143 YI:=rfl
theorem xgK:tf 144 YH:=rfl
theorem xgJ:tf 145 YG:=rfl
theorem xgI:tf 146 YF:=rfl
theorem xgH:tf 147 YE:=rfl
theorem xgG:tf 148 YD:=rfl
theorem xgF:tf 149 YC:=rfl
theorem xgE:tf 150 YB:=rfl
theorem xgD:tf 161 YA:=rfl
theorem xgB:tf 165 Yz:=rfl
theorem xgA:tf 166 Yy:=rfl
theorem xgz:tf 167 Yx:=rfl
theorem XK:tf 168 Yw:=rfl
theorem xgy:tf 176 Yv:=rfl
theorem xgw:tf 179 Yu:=rfl
theorem xgv:tf 180 Yt:=rfl
theorem xgu:tf 182 Ys:=rfl
theorem XJ:tf 183 Yr:=rfl
theorem xgt:tf 184 Yq:=rfl
theorem xgs:tf 185 Yp:=rfl
theorem xgr:tf 186 Yo:=rfl
theorem xgq:tf 187 Yn:=rfl
theorem xgp:tf 188 Ym:=rfl
theorem xgo:tf 189 Yl:=rfl
theorem XI:tf 190 Yk:=rfl
theorem xgn:tf 191 Yj:=rfl
theorem xgm:tf 192 Yi:=rfl
theorem xgl:tf 203 Yh:=rfl
theorem XH:tf 204 Yg:=rfl
theorem xgk:tf 205 Yf:=rfl
theorem XG:tf 206 Ye:=rfl
theorem xhj:T.fn 102=some (.prim Pr.p102):=rfl
theorem xhb:T.fn 112=some (.prim Pr.p112):=rfl
theorem xgC:T.fn 164=some (.prim Pr.p164):=rfl
theorem xgx:T.fn 177=some (.prim Pr.p177):=rfl
theorem pz:T.sg 102= {}:=rfl
theorem xhG:T.sg 112= {}:=rfl
theorem sS:T.sg 164= {}:=rfl
theorem xht:T.sg 177= {}:=rfl
theorem S_10:T.sg 10= {}:=rfl
theorem xm7:T.sg 11= {}:=rfl
theorem pk:T.sg 14= {}:=rfl
theorem xm6:T.sg 15= {}:=rfl
theorem MV:T.sg 16= {}:=rfl
theorem S_17:T.sg 17= {}:=rfl
theorem xm5:T.sg 18= {}:=rfl
theorem S_20:T.sg 20= {}:=rfl
theorem xjP:T.sg 22= {}:=rfl
theorem wz:T.sg 23= {}:=rfl
theorem xm4:T.sg 25= {}:=rfl
theorem xm3:T.sg 28= {}:=rfl
theorem MU:T.sg 29= {}:=rfl
theorem xjO:T.sg 34= {}:=rfl
theorem xm2:T.sg 36= {}:=rfl
theorem xm1:T.sg 37= {}:=rfl
theorem xm0:T.sg 38= {}:=rfl
theorem me:T.sg 39= {}:=rfl
theorem nV:T.sg 40= {}:=rfl
theorem wy:T.sg 41= {}:=rfl
theorem mK:T.sg 42= {}:=rfl
theorem ww:T.sg 43= {}:=rfl
theorem Bq:T.sg 44= {}:=rfl
theorem xdg:T.sg 45= {}:=rfl
theorem Rk:T.sg 46= {}:=rfl
theorem Rj:T.sg 47= {}:=rfl
theorem Ri:T.sg 48= {}:=rfl
theorem Rh:T.sg 49= {}:=rfl
theorem wv:T.sg 50= {}:=rfl
theorem xmZ:T.sg 51= {}:=rfl
theorem r9:T.sg 52= {}:=rfl
theorem xjN:T.sg 55= {}:=rfl
theorem xjM:T.sg 56= {}:=rfl
theorem xmY:T.sg 57= {}:=rfl
theorem S_58:T.sg 58= {}:=rfl
theorem DJ:T.sg 61= {}:=rfl
theorem uM:T.sg 63= {}:=rfl
theorem Rg:T.sg 64= {}:=rfl
theorem xjL:T.sg 65= {}:=rfl
theorem xjK:T.sg 66=⟨[],[0]⟩:=rfl
theorem Rf:T.sg 67= {}:=rfl
theorem xjJ:T.sg 68=⟨[],[0]⟩:=rfl
theorem Re:T.sg 69= {}:=rfl
theorem xjI:T.sg 70= {}:=rfl
theorem DI:T.sg 71= {}:=rfl
theorem r8:T.sg 72= {}:=rfl
theorem XR:T.sg 73= {}:=rfl
theorem Rd:T.sg 74= {}:=rfl
theorem Bp:T.sg 75= {}:=rfl
theorem xjH:T.sg 76= {}:=rfl
theorem XQ:T.sg 77= {}:=rfl
theorem xjG:T.sg 78= {}:=rfl
theorem xmX:T.sg 79= {}:=rfl
theorem XP:T.sg 80= {}:=rfl
theorem xmW:T.sg 82= {}:=rfl
theorem qx:T.sg 86= {}:=rfl
theorem xdf:T.sg 87= {}:=rfl
theorem Rc:T.sg 88= {}:=rfl
theorem xde:T.sg 89= {}:=rfl
theorem xdd:T.sg 90= {}:=rfl
theorem xdc:T.sg 91= {}:=rfl
theorem Rb:T.sg 92= {}:=rfl
theorem xdb:T.sg 93= {}:=rfl
theorem xjF:T.sg 94= {}:=rfl
theorem xjE:T.sg 95= {}:=rfl
theorem xjD:T.sg 97= {}:=rfl
theorem DH:T.sg 99= {}:=rfl
theorem pA:T.sg 100= {}:=rfl
theorem Yc:T.sg 103= {}:=rfl
theorem xhM:T.sg 104= {}:=rfl
theorem xhL:T.sg 106= {}:=rfl
theorem xhK:T.sg 107= {}:=rfl
theorem Yb:T.sg 108=⟨[],[0]⟩:=rfl
theorem xhJ:T.sg 109= {}:=rfl
theorem xhI:T.sg 110= {}:=rfl
theorem xhH:T.sg 111= {}:=rfl
theorem Ds:T.sg 113= {}:=rfl
theorem Ya:T.sg 114= {}:=rfl
theorem gO:T.sg 115= {}:=rfl
theorem N0:T.sg 116= {}:=rfl
theorem xhF:T.sg 117= {}:=rfl
theorem xhE:T.sg 118= {}:=rfl
theorem xhD:T.sg 119= {}:=rfl
theorem X9:T.sg 120= {}:=rfl
theorem xhC:T.sg 121= {}:=rfl
theorem Dr:T.sg 122= {}:=rfl
theorem NZ:T.sg 123= {}:=rfl
theorem NY:T.sg 124= {}:=rfl
theorem NX:T.sg 125= {}:=rfl
theorem wA:T.sg 126= {}:=rfl
theorem xna:T.sg 128= {}:=rfl
theorem xm9:T.sg 129= {}:=rfl
theorem xhB:T.sg 130= {}:=rfl
theorem NW:T.sg 131= {}:=rfl
theorem X8:T.sg 132= {}:=rfl
theorem xhA:T.sg 133= {}:=rfl
theorem X7:T.sg 134= {}:=rfl
theorem NV:T.sg 135= {}:=rfl
theorem xhz:T.sg 136= {}:=rfl
theorem X6:T.sg 137= {}:=rfl
theorem X5:T.sg 138= {}:=rfl
theorem NU:T.sg 139= {}:=rfl
theorem NT:T.sg 140= {}:=rfl
theorem NS:T.sg 141= {}:=rfl
theorem xhy:T.sg 142= {}:=rfl
theorem X4:T.sg 143= {}:=rfl
theorem X3:T.sg 144= {}:=rfl
theorem X2:T.sg 145= {}:=rfl
theorem xhx:T.sg 146= {}:=rfl
theorem X1:T.sg 147= {}:=rfl
theorem xhw:T.sg 148= {}:=rfl
theorem X0:T.sg 149= {}:=rfl
theorem NR:T.sg 150= {}:=rfl
theorem xhv:T.sg 161= {}:=rfl
theorem NQ:T.sg 165= {}:=rfl
theorem xhu:T.sg 166= {}:=rfl
theorem XZ:T.sg 167= {}:=rfl
theorem XY:T.sg 168=⟨[],[0]⟩:=rfl
theorem NP:T.sg 176= {}:=rfl
theorem xhs:T.sg 179= {}:=rfl
theorem xhr:T.sg 180= {}:=rfl
theorem XX:T.sg 182= {}:=rfl
theorem Dq:T.sg 183= {}:=rfl
theorem NO:T.sg 184= {}:=rfl
theorem XW:T.sg 185= {}:=rfl
theorem xhq:T.sg 186= {}:=rfl
theorem xhp:T.sg 187= {}:=rfl
theorem xho:T.sg 188= {}:=rfl
theorem XV:T.sg 189= {}:=rfl
theorem Dp:T.sg 190= {}:=rfl
theorem xhn:T.sg 191= {}:=rfl
theorem xhm:T.sg 192= {}:=rfl
theorem XU:T.sg 203= {}:=rfl
theorem XT:T.sg 204= {}:=rfl
theorem xhl:T.sg 205= {}:=rfl
theorem XS:T.sg 206= {}:=rfl
theorem xd4(c:CSt):run T Nn c=run T NL c:=rfl
theorem xd3(c:CSt):run T Ws c=run T NK c:=rfl
theorem xap(c:CSt):run T kQ c=run T yr c:=rfl
theorem xd2(c:CSt):run T kX c=run T NJ c:=rfl
theorem xd1(c:CSt):run T Nh c=run T NI c:=rfl
theorem xao(c:CSt):run T xd c=run T yq c:=rfl
theorem xan(c:CSt):run T xc c=run T yo c:=rfl
theorem xam(c:CSt):run T oT c=run T yn c:=rfl
theorem xal(c:CSt):run T oS c=run T ym c:=rfl
theorem xak(c:CSt):run T oR c=run T yl c:=rfl
theorem xd0(c:CSt):run T Nf c=run T NH c:=rfl
theorem xaj(c:CSt):run T xb c=run T yk c:=rfl
theorem xdZ(c:CSt):run T M9 c=run T NG c:=rfl
theorem xai(c:CSt):run T xa c=run T yj c:=rfl
theorem xdY(c:CSt):run T Uz c=run T NF c:=rfl
theorem xdX(c:CSt):run T Up c=run T NE c:=rfl
theorem xah(c:CSt):run T w8 c=run T yi c:=rfl
theorem xag(c:CSt):run T w7 c=run T yh c:=rfl
theorem xaf(c:CSt):run T w6 c=run T yg c:=rfl
theorem xdW(c:CSt):run T TW c=run T ND c:=rfl
theorem xae(c:CSt):run T wY c=run T yf c:=rfl
theorem xad(c:CSt):run T wX c=run T ye c:=rfl
theorem xac(c:CSt):run T sB c=run T yc c:=rfl
theorem xab(c:CSt):run T sA c=run T yb c:=rfl
theorem xaa(c:CSt):run T kP c=run T ya c:=rfl
theorem Z9(c:CSt):run T sx c=run T x9 c:=rfl
theorem Z8(c:CSt):run T wW c=run T x8 c:=rfl
theorem Z7(c:CSt):run T wV c=run T x7 c:=rfl
theorem Z6(c:CSt):run T wS c=run T x6 c:=rfl
theorem Z5(c:CSt):run T wQ c=run T x5 c:=rfl
theorem xdV(c:CSt):run T SU c=run T NC c:=rfl
theorem xdU(c:CSt):run T SM c=run T NB c:=rfl
theorem Z4(c:CSt):run T Gc c=run T x0 c:=rfl
theorem xdT(c:CSt):run T Sh c=run T NA c:=rfl
theorem xdS(c:CSt):run T C3 c=run T Nz c:=rfl
theorem Z3(c:CSt):run T F8 c=run T xZ c:=rfl
theorem Z2(c:CSt):run T wO c=run T xY c:=rfl
theorem xaK(c:CSt):run T sH c=run T yO c:=rfl
theorem xaJ(c:CSt):run T xQ c=run T yN c:=rfl
theorem O9(c:CSt):run T rh c=run T rZ c:=rfl
theorem xaI(c:CSt):run T xP c=run T yM c:=rfl
theorem O8(c:CSt):run T rf c=run T rY c:=rfl
theorem O7(c:CSt):run T re c=run T rX c:=rfl
theorem O6(c:CSt):run T ra c=run T rW c:=rfl
theorem O5(c:CSt):run T zV c=run T rV c:=rfl
theorem xaH(c:CSt):run T Lu c=run T yL c:=rfl
theorem xaG(c:CSt):run T xL c=run T yK c:=rfl
theorem O4(c:CSt):run T qZ c=run T rU c:=rfl
theorem xaF(c:CSt):run T xK c=run T yJ c:=rfl
theorem O3(c:CSt):run T qY c=run T rT c:=rfl
theorem xaE(c:CSt):run T xI c=run T yI c:=rfl
theorem xaD(c:CSt):run T KM c=run T yH c:=rfl
theorem xaC(c:CSt):run T sG c=run T yG c:=rfl
theorem xaB(c:CSt):run T xE c=run T yF c:=rfl
theorem xaA(c:CSt):run T xD c=run T yE c:=rfl
theorem O2(c:CSt):run T zH c=run T rS c:=rfl
theorem O1(c:CSt):run T qW c=run T rR c:=rfl
theorem O0(c:CSt):run T ls c=run T rQ c:=rfl
theorem OZ(c:CSt):run T hJ c=run T rP c:=rfl
theorem OY(c:CSt):run T zB c=run T rO c:=rfl
theorem xaz(c:CSt):run T JV c=run T yD c:=rfl
theorem xay(c:CSt):run T JO c=run T yC c:=rfl
theorem OX(c:CSt):run T zw c=run T rN c:=rfl
theorem xax(c:CSt):run T xx c=run T yB c:=rfl
theorem xaw(c:CSt):run T xw c=run T yA c:=rfl
theorem OW(c:CSt):run T zq c=run T rM c:=rfl
theorem xav(c:CSt):run T xo c=run T yz c:=rfl
theorem xau(c:CSt):run T xl c=run T yy c:=rfl
theorem xat(c:CSt):run T xk c=run T yx c:=rfl
theorem OV(c:CSt):run T qV c=run T rL c:=rfl
theorem OU(c:CSt):run T qU c=run T rK c:=rfl
theorem xas(c:CSt):run T xh c=run T yw c:=rfl
theorem xar(c:CSt):run T xg c=run T yv c:=rfl
theorem xaq(c:CSt):run T xf c=run T yu c:=rfl
theorem xfd:bF prog 10 F10:=Fk func10
theorem xfc:bF prog 11 F11:=Fk func11
theorem xfb:bF prog 14 F14:=Fk func14
theorem xfa:bF prog 15 F15:=Fk func15
theorem xe9:bF prog 16 F16:=Fk func16
theorem xe8:bF prog 17 F17:=Fk func17
theorem xe7:bF prog 18 F18:=Fk func18
theorem xe6:bF prog 20 F20:=Fk func20
theorem xe5:bF prog 22 F22:=Fk func22
theorem xe4:bF prog 23 F23:=Fk func23
theorem xe3:bF prog 25 F25:=Fk func25
theorem xe2:bF prog 28 F28:=Fk func28
theorem xe1:bF prog 29 F29:=Fk func29
theorem xe0:bF prog 34 F34:=Fk func34
theorem xeZ:bF prog 36 F36:=Fk func36
theorem xeY:bF prog 37 F37:=Fk func37
theorem xeX:bF prog 38 F38:=Fk func38
theorem xeW:bF prog 39 F39:=Fk func39
theorem xeV:bF prog 40 F40:=Fk func40
theorem xeU:bF prog 41 F41:=Fk func41
theorem xeT:bF prog 42 F42:=Fk func42
theorem xeS:bF prog 43 F43:=Fk func43
theorem xeR:bF prog 44 F44:=Fk func44
theorem xeQ:bF prog 45 F45:=Fk func45
theorem xeP:bF prog 46 F46:=Fk func46
theorem xeO:bF prog 47 F47:=Fk func47
theorem xeN:bF prog 48 F48:=Fk func48
theorem xeM:bF prog 49 F49:=Fk func49
theorem xeL:bF prog 50 F50:=Fk func50
theorem xeK:bF prog 51 F51:=Fk func51
theorem xeJ:bF prog 52 F52:=Fk func52
theorem xeI:bF prog 55 F55:=Fk func55
theorem xeH:bF prog 56 F56:=Fk func56
theorem xeG:bF prog 57 F57:=Fk func57
theorem xeF:bF prog 58 F58:=Fk func58
theorem xeE:bF prog 61 F61:=Fk func61
theorem xeD:bF prog 63 F63:=Fk func63
theorem xeC:bF prog 64 F64:=Fk func64
theorem xeB:bF prog 65 F65:=Fk func65
theorem xeA:bF prog 66 F66:=Fk func66
theorem xez:bF prog 67 F67:=Fk func67
theorem xey:bF prog 68 F68:=Fk func68
theorem xex:bF prog 69 F69:=Fk func69
theorem xew:bF prog 70 F70:=Fk func70
theorem xev:bF prog 71 F71:=Fk func71
theorem xeu:bF prog 72 F72:=Fk func72
theorem xet:bF prog 73 F73:=Fk func73
theorem xes:bF prog 74 F74:=Fk func74
theorem xer:bF prog 75 F75:=Fk func75
theorem xeq:bF prog 76 F76:=Fk func76
theorem xep:bF prog 77 F77:=Fk func77
theorem xeo:bF prog 78 F78:=Fk func78
theorem xen:bF prog 79 F79:=Fk func79
theorem xem:bF prog 80 F80:=Fk func80
theorem xel:bF prog 82 F82:=Fk func82
theorem xek:bF prog 86 F86:=Fk func86
theorem xej:bF prog 87 F87:=Fk func87
theorem xei:bF prog 88 F88:=Fk func88
theorem xeh:bF prog 89 F89:=Fk func89
theorem xeg:bF prog 90 F90:=Fk func90
theorem xef:bF prog 91 F91:=Fk func91
theorem xee:bF prog 92 F92:=Fk func92
theorem xed:bF prog 93 F93:=Fk func93
theorem xec:bF prog 94 F94:=Fk func94
theorem xeb:bF prog 95 F95:=Fk func95
theorem xea:bF prog 97 F97:=Fk func97
theorem xd9:bF prog 99 F99:=Fk func99
theorem xbW:bF prog 100 Zk:=Fk func100
theorem xbV:bF prog 103 Zj:=Fk func103
theorem xbU:bF prog 104 Zi:=Fk func104
theorem xbT:bF prog 106 Zh:=Fk func106
theorem xbS:bF prog 107 Zg:=Fk func107
theorem xbR:bF prog 108 Zf:=Fk func108
theorem xbQ:bF prog 109 Ze:=Fk func109
theorem xbP:bF prog 110 Zd:=Fk func110
theorem xbO:bF prog 111 Zc:=Fk func111
theorem xbN:bF prog 113 Zb:=Fk func113
theorem xbM:bF prog 114 Za:=Fk func114
theorem xbL:bF prog 115 Y9:=Fk func115
theorem xbK:bF prog 116 Y8:=Fk func116
theorem xbJ:bF prog 117 Y7:=Fk func117
theorem xbI:bF prog 118 Y6:=Fk func118
theorem xbH:bF prog 119 Y5:=Fk func119
theorem xbG:bF prog 120 Y4:=Fk func120
theorem xbF:bF prog 121 Y3:=Fk func121
theorem xbE:bF prog 122 Y2:=Fk func122
theorem xbD:bF prog 123 Y1:=Fk func123
theorem xbC:bF prog 124 Y0:=Fk func124
theorem xbB:bF prog 125 YZ:=Fk func125
theorem xbA:bF prog 126 YY:=Fk func126
theorem xbz:bF prog 128 YX:=Fk func128
theorem xby:bF prog 129 YW:=Fk func129
theorem xbx:bF prog 130 YV:=Fk func130
theorem xbw:bF prog 131 YU:=Fk func131
theorem xbv:bF prog 132 YT:=Fk func132
theorem xbu:bF prog 133 YS:=Fk func133
theorem xbt:bF prog 134 YR:=Fk func134
theorem xbs:bF prog 135 YQ:=Fk func135
theorem xbr:bF prog 136 YP:=Fk func136
theorem xbq:bF prog 137 YO:=Fk func137
theorem xbp:bF prog 138 YN:=Fk func138
theorem xbo:bF prog 139 YM:=Fk func139
theorem xbn:bF prog 140 YL:=Fk func140
theorem xbm:bF prog 141 YK:=Fk func141
theorem xbl:bF prog 142 YJ:=Fk func142
theorem xbk:bF prog 143 YI:=Fk func143
theorem xbj:bF prog 144 YH:=Fk func144
theorem xbi:bF prog 145 YG:=Fk func145
theorem xbh:bF prog 146 YF:=Fk func146
theorem xbg:bF prog 147 YE:=Fk func147
theorem xbf:bF prog 148 YD:=Fk func148
theorem xbe:bF prog 149 YC:=Fk func149
theorem xbd:bF prog 150 YB:=Fk func150
theorem xbc:bF prog 161 YA:=Fk func161
theorem xbb:bF prog 165 Yz:=Fk func165
theorem xba:bF prog 166 Yy:=Fk func166
theorem xa9:bF prog 167 Yx:=Fk func167
theorem xa8:bF prog 168 Yw:=Fk func168
theorem xa7:bF prog 176 Yv:=Fk func176
theorem xa6:bF prog 179 Yu:=Fk func179
theorem xa5:bF prog 180 Yt:=Fk func180
theorem xa4:bF prog 182 Ys:=Fk func182
theorem xa3:bF prog 183 Yr:=Fk func183
theorem xa2:bF prog 184 Yq:=Fk func184
theorem xa1:bF prog 185 Yp:=Fk func185
theorem xa0:bF prog 186 Yo:=Fk func186
theorem xaZ:bF prog 187 Yn:=Fk func187
theorem xaY:bF prog 188 Ym:=Fk func188
theorem xaX:bF prog 189 Yl:=Fk func189
theorem xaW:bF prog 190 Yk:=Fk func190
theorem xaV:bF prog 191 Yj:=Fk func191
theorem xaU:bF prog 192 Yi:=Fk func192
theorem xaT:bF prog 203 Yh:=Fk func203
theorem xaS:bF prog 204 Yg:=Fk func204
theorem xaR:bF prog 205 Yf:=Fk func205
theorem xaQ:bF prog 206 Ye:=Fk func206
set_option maxHeartbeats 4000000 in
theorem FS:mA prog T:=by
 intro g b h;simp only[T]at h;unfold xhS at h;split at h
 ·cases h;exact xfd
 ·cases h;exact xfc
 ·cases h;exact xfb
 ·cases h;exact xfa
 ·cases h;exact xe9
 ·cases h;exact xe8
 ·cases h;exact xe7
 ·cases h;exact xe6
 ·cases h;exact xe5
 ·cases h;exact xe4
 ·cases h;exact xe3
 ·cases h;exact xe2
 ·cases h;exact xe1
 ·cases h;exact xe0
 ·cases h;exact xeZ
 ·cases h;exact xeY
 ·cases h;exact xeX
 ·cases h;exact xeW
 ·cases h;exact xeV
 ·cases h;exact xeU
 ·cases h;exact xeT
 ·cases h;exact xeS
 ·cases h;exact xeR
 ·cases h;exact xeQ
 ·cases h;exact xeP
 ·cases h;exact xeO
 ·cases h;exact xeN
 ·cases h;exact xeM
 ·cases h;exact xeL
 ·cases h;exact xeK
 ·cases h;exact xeJ
 ·cases h;exact xeI
 ·cases h;exact xeH
 ·cases h;exact xeG
 ·cases h;exact xeF
 ·cases h;exact xeE
 ·cases h;exact xeD
 ·cases h;exact xeC
 ·cases h;exact xeB
 ·cases h;exact xeA
 ·cases h;exact xez
 ·cases h;exact xey
 ·cases h;exact xex
 ·cases h;exact xew
 ·cases h;exact xev
 ·cases h;exact xeu
 ·cases h;exact xet
 ·cases h;exact xes
 ·cases h;exact xer
 ·cases h;exact xeq
 ·cases h;exact xep
 ·cases h;exact xeo
 ·cases h;exact xen
 ·cases h;exact xem
 ·cases h;exact xel
 ·cases h;exact xek
 ·cases h;exact xej
 ·cases h;exact xei
 ·cases h;exact xeh
 ·cases h;exact xeg
 ·cases h;exact xef
 ·cases h;exact xee
 ·cases h;exact xed
 ·cases h;exact xec
 ·cases h;exact xeb
 ·cases h;exact xea
 ·cases h;exact xd9
 ·cases h;exact xbW
 ·cases h;exact xbV
 ·cases h;exact xbU
 ·cases h;exact xbT
 ·cases h;exact xbS
 ·cases h;exact xbR
 ·cases h;exact xbQ
 ·cases h;exact xbP
 ·cases h;exact xbO
 ·cases h;exact xbN
 ·cases h;exact xbM
 ·cases h;exact xbL
 ·cases h;exact xbK
 ·cases h;exact xbJ
 ·cases h;exact xbI
 ·cases h;exact xbH
 ·cases h;exact xbG
 ·cases h;exact xbF
 ·cases h;exact xbE
 ·cases h;exact xbD
 ·cases h;exact xbC
 ·cases h;exact xbB
 ·cases h;exact xbA
 ·cases h;exact xbz
 ·cases h;exact xby
 ·cases h;exact xbx
 ·cases h;exact xbw
 ·cases h;exact xbv
 ·cases h;exact xbu
 ·cases h;exact xbt
 ·cases h;exact xbs
 ·cases h;exact xbr
 ·cases h;exact xbq
 ·cases h;exact xbp
 ·cases h;exact xbo
 ·cases h;exact xbn
 ·cases h;exact xbm
 ·cases h;exact xbl
 ·cases h;exact xbk
 ·cases h;exact xbj
 ·cases h;exact xbi
 ·cases h;exact xbh
 ·cases h;exact xbg
 ·cases h;exact xbf
 ·cases h;exact xbe
 ·cases h;exact xbd
 ·cases h;exact xbc
 ·cases h;exact xbb
 ·cases h;exact xba
 ·cases h;exact xa9
 ·cases h;exact xa8
 ·cases h;exact xa7
 ·cases h;exact xa6
 ·cases h;exact xa5
 ·cases h;exact xa4
 ·cases h;exact xa3
 ·cases h;exact xa2
 ·cases h;exact xa1
 ·cases h;exact xa0
 ·cases h;exact xaZ
 ·cases h;exact xaY
 ·cases h;exact xaX
 ·cases h;exact xaW
 ·cases h;exact xaV
 ·cases h;exact xaU
 ·cases h;exact xaT
 ·cases h;exact xaS
 ·cases h;exact xaR
 ·cases h;exact xaQ
 ·cases h;exact Pr.p102_ok
 ·cases h;exact Pr.p112_ok
 ·cases h;exact Pr.p164_ok
 ·cases h;exact Pr.p177_ok
 ·cases h
attribute [go_sem] SV.kclip Tok.kc OP xgj xgi xl6 gQ sJ Ok Db i5 List.all_replicate AJ AI Om ZT Pc Pe Pd EE Pg Pj pL Pi Ph aq.injEq xkf xdJ xfP xb2 xbX vJ BJ BK xca ZC Di BM an bU cE av QT QU xcS Fu EL Cn BA BB Tok.ids ke aN ac cj Int.natCast_nonneg Int.ofNat_lt Int.ofNat_le Int.ofNat_inj Eh OL El ON OO xdn N6 xdo ZA Zz Zv xdu xdv xds xjQ N4 N3 xdm xdw Zw Zr Zs Zt N5 xdq DM DN ZE ZD xdr xdp ZB xdt Zx Zy Zu xke xkd xkg ZZ xdK xcs xkW xkX xkU xkV xkY PS xct PY OK Em Cb OM Ej xcr Ce Cf Es Et xcq PA xlZ xl1 xl0 oq Cq xfh Pu xfj xb8 xb7 xb3 xfs xft xfn xki Po Pn xff xfu xb4 xbY xbZ xb0 Ps xfl EG EH xcc xcb xfm xfk xb9 xfq xb5 xb6 xb1 Pq xfg xfr xkj xfi Pp xfv xfo xcd QY CV mkE xcW stC DW apS apB apL QW cpC cp2 cpB cpL Z0 xaM AK Mp AL AM kj km Mm AO AP ZR Of xfQ xcf xcl xck PI EZ EY Cv PH Cx E0 PJ Cw vO EI EJ Pv xj2 xj0 xj1 Ou ZU xgc xgf xge xgd FJ QN xkp xkn xko Pz xch Ez xd7 xd5 xd6 Ey Pa Fp CO CP xfX xfW PZ Dd XB Xw sj Rz XC FT C0 C1 sN Xo nE ou lB Dm Dl Xv lenC Xz Df Dg sQ Xf Dh Dc sL dS iO uF gU hU xc5 lu cV evL CSt.purge vQ wH MZ M3 lA DD ld jL mE dY fb psC Tok.readyC aE.wf SV.bare SV.bareL jr js qO jf dI ce dx fK fS eX di mU dO pu pw li pn jp il D6 BN OF D2 D7 D5 BL vi OG D3 OI D8 BW vo BT vn D9 BP BU BS vj vk s6 Ea BQ Ec BV BO Eb BR D1 OH D4 Nw FD QK QL P4 P6 P7 P5 QQ DZ Ow OC OB OA Oz Oy Ox xcB xcu xcz xcA xcy xcx xcw xcv Pm Pl Pk PP PO PL PK PN PM QP xcP eh CSt.publish ki kH mr SV.pub SV.pubL vC gcC pe Ol pJ kb fk gj tks mw Dz px dj Nv uO gr jm SV.num kO gW toB rows sO fU iB fO Tok.eat SV.one SV.data SV.isData SV.cells SV.isDef SV.purge SV.purgeL aE.purge bw cf Tok.purge SV.ren SV.renL aE.ren Tok.ren SV.ids SV.idsL SV.toks SV.toksL aE.ids aE.toks gZ jK inR nb eE id_eq ai aw aS aF aZ cg fN beq_self_eq_true List.getD_cons_zero List.getD_cons_succ List.getD_nil List.take_succ_cons List.take_zero List.take_nil bj List.drop_succ_cons List.drop_nil aC bH cT List.flatten_nil List.contains_nil List.contains_cons List.isEmpty_nil List.isEmpty_cons List.all_cons List.all_nil List.set_cons_zero List.set_cons_succ aX Option.getD_none bn Option.map_none Option.toList_some Option.toList_none cJ Option.isNone_none Option.isNone_some Option.isSome_none Option.isSome_some Bool.or_false Bool.true_or Bool.or_true Bool.false_or Bool.and_self Bool.and_true Bool.true_and Bool.and_false Bool.false_and Bool.not_true Bool.not_false aK Bool.true_eq_false Bool.not_eq_true Bool.not_eq_false decide_eq_true_eq decide_eq_false_iff_not and_true true_and and_self or_false false_or or_true true_or not_true_eq_false not_false_eq_true ne_eq Int.toNat_natCast true_implies false_implies implies_true decide_true decide_false Nat.lt_irrefl Nat.not_lt_zero aH bJ eq_self and_false false_and Mo mvC xi2 Xa xce xfp clA cl2 clC
attribute [go_sem] Fm Fs Fz Fi Ld Fa Ln Ia Mv Bb Bc Ca Pf Pt So Kk Kc Fy Fr Sr Lt Mc Mb Bk Sq Zq0 Zq1 Zq2 Zq3 xm xs xi ci om omk on oo Da W7 C9 W6 W5 W4 F10 r10 W1 W0 WZ WY WX WW F11 r11 pt WV gJ WU WT WS WR F14 r14 vB WQ sD WP WO F15 r15 Nr WN WM WL WK WJ Nq Np F16 r16 No WI F17 r17 WH C8 WG WF WE WD NL F18 xd4 r18 WC WB WA Wz Wy Wx F20 r20 Ww Wv kA Wu Wt Nm Wr Wq NK F22 xd3 r22 pr Wp pq Wo Nl Wn Wm gw Wj Nk Ie Ic iC yr F23 xap r23 Wi Wh Wg Wf We Wc NJ F25 xd2 r25 Nj Wb Wa V9 F28 r28 V8 V7 F29 r29 Ni V6 V5 V4 V3 V2 V1 V0 VZ VY Ib H9 H8 F34 r34 VX VW VV VU VT VS VR VQ VP H7 H6 NI F36 xd1 r36 VO VN VM Ng VL VK VJ VI VH VG H5 xe H4 H3 H2 H1 HZ HY HX HW yq yo yn F37 xao xan xam r37 VF VE VD VC VB VA Vz Vy HV HU HT HS HR HQ HP HO HN HM HK HJ ym yl F38 xal xak r38 jl Vx F39 r39 po Vw Vv Vu Vt Vs Vr Vq Vp NH F40 xd0 r40 Nd Vo F41 r41 Nc Vn Vm Vl Vk Vj HI HH HG HF HE HD HC HB Hz Hy yk F42 xaj r42 ft Vi im Vh Vg Vf Ve Vd Hx Hw F43 r43 jk Vc Nb Na F44 r44 Vb Va U9 U8 U7 U6 U5 U4 NG F45 xdZ r45 U3 F46 r46 U2 U1 U0 UZ UY UX M8 Hv Hu Ht Hs yj F47 xai r47 UW UV UU UT UR F48 r48 UQ F49 r49 UP UO F50 r50 UN UM UL UK F51 r51 UJ UI UH F52 r52 mq UG sC UF UE UD UC UB UA Hr NF F55 xdY r55 Uy Ux F56 r56 Uw Uv Uu Ut Us Ur Uq Hq NE F57 xdX r57 Uo Un vA Um Ul Uk Uj Ui Hp Ho Hn Hm Hl Hk Hj yi F58 xah r58 Uh Ug Uf Ue Ud Uc Ub Ua T9 T8 Hi Hh Hg Hf He Hd Hc Hb Ha oQ G9 G8 G7 G6 G5 G4 G3 G2 oP G1 GZ yh yg F61 xag xaf r61 T7 T6 vz T5 T4 M7 F63 r63 T3 T2 T1 T0 TZ TY TX TV GY GX GV GU GT GS GR ND yf F64 xdW xae r64 TU TT TS TR TQ F65 r65 TP TO F66 r66 TN F67 r67 TL TK TJ TI TH TG TF TE TD GQ GP GO GN GL GK GJ ye yc F68 xad xac r68 TC F69 r69 TB TA Tz Ty Tx Tw Tv Tu Tt GI GH yb F70 xab r70 Ts Tq Tp To Tn Tm GG GF GE GD GC GB GA Gz Gy Gx Gw ya x9 F71 xaa Z9 r71 Tl Tk F72 r72 Tj Ti Th Tg Tf Te Td Tc Gv Gu Gt Gs Gr Gq Gp Gn Gm Gl Gk Gj Gi wU Gh Gg Gf Ge Gd x8 x7 x6 x5 F73 Z8 Z7 Z6 Z5 r73 Tb F74 r74 Ta S9 S8 S7 F75 r75 M6 F76 r76 S6 S5 S4 F77 r77 F78 r78 S3 SZ SY SX SW SS NC F79 xdV r79 sw vy SR C7 SQ SP SN SL NB F80 xdU r80 SK SJ SH F82 r82 nf SG F86 r86 SF SE C6 SD SC SB F87 r87 SA F88 r88 Sz Sx C5 M5 Sw Sv Su Ss Sp Gb x0 F89 Z4 r89 Sn Sm C4 Sl Sk Sj Sg NA F90 xdT r90 Sf Se Sd Sc Sb Ga Nz F91 xdS r91 Sa F92 r92 R9 R8 R7 R6 R5 R4 F9 wP xZ F93 Z3 r93 R3 R2 RZ RY RX RW F94 r94 RU RT RS RR RQ RP RO RN F7 F6 F5 F4 xY F95 Z2 r95 RM RL F97 r97 RK RJ RH RG RF RE F3 F2 F1 F0 FZ FY F99 r99 Mi Zk xi0 xR sI Mh Mg Mf Me oW Md Ma AE yO Zj xaK xiZ L9 L8 L7 L6 L5 L4 L3 L2 rg yN rZ Zi xaJ O9 xiY L1 L0 LZ LY LX LW yM Zh xaI xiX LV LU LS LR LQ LP LO LN LM AD AC AB AA Az Ay Ax Aw Av At As Ar Aq Ap Ao rY rX rW Zg O8 O7 O6 xiW LL LK LJ LI LH LG LF LD LC LB An Am Al Ak Aj Ai Ah Ag Af Ae Ad Ac Ab Aa z8 z7 z6 zZ zY zX zW rV Zf O5 xiV oV LA Lz Ly Lx Lw Lv Ls yL Ze xaH xiU Lr Lq Lp Lo xO Lm xN Ll zU Zd xiT Lk Zc xiS Lj Li Zb xiR xM Lh Lg Lf Le Lc yK Za xaG xiQ Lb Y9 xiP La K9 K8 K7 K6 K5 K4 zT zS zQ zP rU Y8 O4 xiO K3 K2 Y7 xiN K1 K0 KZ KY KX KW KV KU zO yJ rT Y6 xaF O3 xiM oU xJ Y5 xiL KT Y4 xiK KS KR KQ yI Y3 xaE xiJ KP Y2 xiI KO KN xH KL yH Y1 xaD xiH KK Y0 xiG KJ KI KH KG xG KF yG YZ xaC xiF KE sF KD KC KB xF qX yF YY xaB xiE KA Kz Ky Kx zN zM zL zK yE YX xaA xiD Kw Kv Ku Kt Ks YW xiC Kr Kq YV xiB Kp YU xiA sE Ko Kn Km Kj Ki Kh zJ zI zG zF rS rR YT O2 O1 xiz xC YS xiy Kg YR xix xB Kf Ke Kd Kb Ka J9 J8 J7 zE zD zC rQ rP YQ O0 OZ xiw YP xiv xA xz YO xiu xy J6 J5 J4 J3 J2 J1 J0 zA rO YN OY xit JZ JY JX JW JU yD YM xaz xis JT JS JR JQ JP zy zx zu yC rN YL xay OX xir JN JM JL JK YK xiq JJ JI JH JG zt yB YJ xax xip JF JE JD JC JB JA yA YI xaw xio Jz YH xin Jy Jx Jw Jv Ju Jt zp rM YG OW xim xu Js YF xil Jr YE xik YD xij xq YC xii Jq YB xih Jp Jo Jn Jm Jl Jk Jj Ji Jh zo YA xig Jg Jf Je Jd Jc yz Yz xav xif Yy xie Jb Ja Yx xid I9 I8 I7 I6 I5 I4 I3 yy yx Yw xau xat xic I2 Yv xib I1 Yu xia I0 Yt xh9 IZ IY IX IW Ys xh8 IV Yr xh7 IU Yq xh6 xj Yp xh5 IT IS IR IQ IP IN Yo xh4 Yn xh3 Ym xh2 Yl xh1 IM Yk xh0 Yj xhZ IL IK IJ II IH IG IF IE zm zl rL Yi OV xhY ID IC IB IA Iz zk zj zi zh zg rK Yh OU xhX Iy Ix Iw Iv Iu It Is zf yw Yg xas xhW Ir Iq Ip Io In Im Il Ik yv Yf xar xhV Ij Ii Ih Ig If yu Ye xaq xhU
end Go.Proofs.YtkggincjigbelaaGreatDoor