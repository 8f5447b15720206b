/- The resolved code of the functions of this seat, with directions, checked by the kernel. No condition. -/
import Derived.Test.YtkggincjigbelaaGreatDoorProg
import Derived.Test.YtkggincjigbelaaGreatDoorVaB
import Derived.KernelRfl
open Bool renaming and_eq_true -> aB, false_eq_true -> aK
open List renaming append_assoc -> ay, append_nil -> bg, cons_append -> aU, drop_zero -> bj, flatten_cons -> c9, length_append -> ac, length_cons -> aj, length_map -> aP, length_nil -> aq, length_replicate -> dI, map_append -> ct, map_cons -> aC, map_nil -> bp, mem_cons -> av, nil_append -> az, not_mem_nil -> cL, replicate -> aE
open Nat renaming add_zero -> eY, le_refl -> aH, zero_add -> bX, zero_le -> bt
open Option renaming bind_some -> cO, getD_some -> aY, map_some -> bo, some -> an
set_option maxRecDepth 100000
set_option linter.unusedVariables false
namespace Go.Proofs.YtkggincjigbelaaGreatDoor
open Tryz
open Go.Sy
abbrev xm(d s:Nat):SI:=⟨some d,none,.mov (.t s)⟩
abbrev xs(d:Nat)(o:SOp):SI:=⟨some d,none,o⟩
abbrev xi(d g:Nat)(b:Bool)(o:SOp):SI:=⟨some d,some (g,b),o⟩
abbrev om(d s:Nat):RI:= .op (xm d s) []
abbrev omk(d s:Nat):RI:= .op (xm d s) [s]
abbrev on(d:Nat)(o:SOp):RI:= .op (xs d o) []
abbrev oo(d:Nat)(o:SOp)(k:List Nat):RI:= .op (xs d o) k
abbrev ci(n:Int):Arg:= .c (.int .i64 n)
abbrev Fm(n d s:Nat):FI:=⟨n,true,xm d s⟩
abbrev Fs(n d:Nat)(o:SOp):FI:=⟨n,true,xs d o⟩
abbrev Fz(n d:Nat)(o:SOp):FI:=⟨n,false,xs d o⟩
abbrev Fi(n d g:Nat)(b:Bool)(o:SOp):FI:=⟨n,true,xi d g b o⟩
abbrev Ld(s:Nat):SOp:= .load 1 false (.t s)
abbrev Fa(n s:Nat):SOp:= .faddr n (.t s)
abbrev Ln(s:Nat):SOp:= .len false (.t s)
abbrev Ia(n a b:Nat):SOp:= .iaddrL n (.t a) (.t b)
abbrev Mv(s:Nat):SOp:= .mov (.t s)
abbrev Bb(o:BinOp)(a b:Nat):SOp:= .bin o (.t a) (.t b)
abbrev Bc(o:BinOp)(a:Nat)(n:Int):SOp:= .bin o (.t a) (ci n)
abbrev Ca(f:Nat)(l:List Arg):SOp:= .call (.f f) l
abbrev Pf(a b:Nat):SOp:= .pick (.t a) (.t b) (.c (.bool false))
abbrev Pt(a b:Nat):SOp:= .pick (.t a) (.c (.bool true)) (.t b)
abbrev So(l:List RI)(x:RC):RC:= .seq (.ops l) x
abbrev Kk(l:List Nat)(x:RC):RC:= .pre [.kill l] x
abbrev Kc(n:Nat)(x y:RC):RC:= .cond (.t n) x y
abbrev Fy(n d g:Nat)(b:Bool)(o:SOp):FI:=⟨n,false,xi d g b o⟩
abbrev Fr(n k a x:Nat):FI:=⟨n,false,⟨none,none,.store k (.t a) (.t x)⟩⟩
abbrev Sr(n a x:Nat)(k:List Nat):RI:= .op ⟨none,none,.store n (.t a) (.t x)⟩ k
abbrev Lt(n s:Nat):SOp:= .load n true (.t s)
abbrev Mc(n:Int):SOp:= .mov (ci n)
abbrev Mb(b:Bool):SOp:= .mov (.c (.bool b))
abbrev Bk(n:Nat)(x:RC):RC:= .block n x
abbrev Sq(x y:RC):RC:= .seq x y
abbrev Zq0:List SV:=[.byt [] .clip,.lst 2 [] .clip]
abbrev Zq1:List SV:=[.str [],.int .i64 0,.int .i64 0,.int .i64 0,.int .i64 0,.lst 4 [] .clip,.lst 4 [] .clip]
abbrev Zq2:List SV:=[.int .i64 0,.str [],.int .i64 0,.byt [] .clip]
abbrev Zq3:List SV:=[.int .i64 0,.str [],.int .i64 0,.int .i64 0]
def cs0:List UInt8:=[0,1,2,2,3,3,3,3,4,4,4,4,4,4,4,4,5,5,5,5,5,5,5,5,5,5,5,5,5,5,5,5,6,6,6,6,6,6,6,6,6,6,6,6,6,6,6,6,6,6,6,6,6,6,6,6,6,6,6,6,6,6,6,6,7,7,7,7,7,7,7,7,7,7,7,7,7,7,7,7,7,7,7,7,7,7,7,7,7,7,7,7,7,7,7,7,7,7,7,7,7,7,7,7,7,7,7,7,7,7,7,7,7,7,7,7,7,7,7,7,7,7,7,7,7,7,7,7,8,8,8,8,8,8,8,8,8,8,8,8,8,8,8,8,8,8,8,8,8,8,8,8,8,8,8,8,8,8,8,8,8,8,8,8,8,8,8,8,8,8,8,8,8,8,8,8,8,8,8,8,8,8,8,8,8,8,8,8,8,8,8,8,8,8,8,8,8,8,8,8,8,8,8,8,8,8,8,8,8,8,8,8,8,8,8,8,8,8,8,8,8,8,8,8,8,8,8,8,8,8,8,8,8,8,8,8,8,8,8,8,8,8,8,8,8,8,8,8,8,8,8,8,8,8,8,8]
def iZ:List SV:=[.int .u32 1116352408,.int .u32 1899447441,.int .u32 3049323471,.int .u32 3921009573,.int .u32 961987163,.int .u32 1508970993,.int .u32 2453635748,.int .u32 2870763221,.int .u32 3624381080,.int .u32 310598401,.int .u32 607225278,.int .u32 1426881987,.int .u32 1925078388,.int .u32 2162078206,.int .u32 2614888103,.int .u32 3248222580,.int .u32 3835390401,.int .u32 4022224774,.int .u32 264347078,.int .u32 604807628,.int .u32 770255983,.int .u32 1249150122,.int .u32 1555081692,.int .u32 1996064986,.int .u32 2554220882,.int .u32 2821834349,.int .u32 2952996808,.int .u32 3210313671,.int .u32 3336571891,.int .u32 3584528711,.int .u32 113926993,.int .u32 338241895,.int .u32 666307205,.int .u32 773529912,.int .u32 1294757372,.int .u32 1396182291,.int .u32 1695183700,.int .u32 1986661051,.int .u32 2177026350,.int .u32 2456956037,.int .u32 2730485921,.int .u32 2820302411,.int .u32 3259730800,.int .u32 3345764771,.int .u32 3516065817,.int .u32 3600352804,.int .u32 4094571909,.int .u32 275423344,.int .u32 430227734,.int .u32 506948616,.int .u32 659060556,.int .u32 883997877,.int .u32 958139571,.int .u32 1322822218,.int .u32 1537002063,.int .u32 1747873779,.int .u32 1955562222,.int .u32 2024104815,.int .u32 2227730452,.int .u32 2361852424,.int .u32 2428436474,.int .u32 2756734187,.int .u32 3204031479,.int .u32 3329325298]
instance:aZ:=⟨fun
 |0=>some iZ
 |_=>none⟩
def xkT:List RI:=[oo 14 (Mb false) [14]]
def xkS:List RI:=[on 16 (Ca 11 []),oo 17 (.un .not (.t 16)) [16]]
def xkR:List RI:=[on 14 (Mb false)]
def xkQ:List RI:=[omk 18 6,oo 19 (.un .not (.t 18)) [18]]
def xkP:List RI:=[omk 20 3,oo 21 (Ca 14 [.t 20,ci 2]) [20],omk 22 4,oo 23 (Ca 14 [.t 22,ci 2]) [22],omk 3 21,omk 4 23]
def xkO:List RI:=[om 24 3,oo 25 (Bc .gtr 24 1) [24],omk 26 25,.grp 26 true [(xi 27 26 true (Mv 3)),(xi 28 26 true (Bc .leq 27 3))] [27],oo 29 (Pf 26 28) [26,28]]
def xkN:List RI:=[on 3 (Mc 1)]
def xkM:List RI:=[omk 30 5,oo 31 (Ca 13 [.t 30]) [30],omk 5 31]
def xkL:List RI:=[omk 32 0,om 33 1,oo 34 (Ca 26 [.t 32,.t 33]) [32,33],omk 35 1,oo 36 (.bin .shr (.t 35) (.c (.int .u64 1))) [35],oo 37 (Bc .and 36 1) [36],oo 38 (Ca 25 [.t 34,.t 37]) [34,37],on 15 (.new (.rc Zq0)),Sr 2 15 38 [38]]
def xkK:List FI:=[Fs 0 39 (Lt 2 15),Fm 1 40 2,Fm 2 41 5,Fm 3 42 3,Fm 4 43 4,Fs 6 45 (Lt 2 15),Fm 7 46 2,Fm 8 47 5,Fm 9 48 3,Fm 10 49 4,Fz 5 44 (Ca 28 [.t 39,.t 40,.t 41,.t 42,.t 43]),Fz 11 50 (Ca 29 [.t 45,.t 46,.t 47,.t 48,.t 49]),Fz 12 51 (Ca 27 [.t 44,.t 50]),Fm 13 14 51]
def r5:RC:=(So xkT (Sq (So xkS (Kc 17 (Kk [0,1,2,3,4,5,6,17] (So xkR .ret)) (Kk [17] .skip))) (Sq (So xkQ (Kc 19 (Kk [19] (.ops xkP)) (Kk [19] .skip))) (Sq (So xkO (Kc 29 (Kk [3,29] (.ops xkN)) (Kk [29] .skip))) (So xkM (So xkL (Sq (.flt [0,0,0,0,0,31,0,0,0,0,0,2047,4095,8191] [] xkK [2,3,4,5,15,39,40,41,42,43,44,45,46,47,48,49,50,51]) .ret)))))))
def F5:FnC:=⟨r5,52,[.tmp 14],[],[]⟩
def xkJ:List RI:=[oo 16 (Mb false) [16]]
def xe8:List RI:=[on 19 (Ca 11 []),oo 20 (.un .not (.t 19)) [19]]
def xkI:List RI:=[on 16 (Mb false)]
def xkH:List RI:=[omk 21 5,omk 22 6,oo 23 (Ca 22 [.t 21,.t 22]) [21,22],on 17 (.new (.rc [.lst 2 [] .clip,.int .i64 0])),Sr 2 17 23 [23]]
def xkG:List RI:=[omk 24 1,omk 25 2,omk 26 3,omk 27 4,oo 28 (Ca 30 [.t 24,.t 25,.t 26,.t 27]) [24,25,26,27],on 18 (.new (.rc Zq0)),Sr 2 18 28 [28]]
def xkF:List RI:=[omk 29 7,omk 30 29,.grp 30 true [(xi 31 30 true (Mv 0)),(xi 32 30 true (Ln 31)),(xi 33 30 true (Bc .lss 32 7))] [31,32],oo 34 (Pf 30 33) [30,33]]
def xkE:List RI:=[on 35 (.lit 2 []),on 36 (Fa 1 18),oo 37 (Ld 36) [36],oo 38 (.app [.int .i64 0,.byt [] .clip] 32 (.t 35) (.t 37)) [35,37],omk 39 0,oo 40 (.app [.int .i64 0,.byt [] .clip] 32 (.t 38) (.t 39)) [38,39],on 41 (Fa 1 18),Sr 1 41 40 [40,41]]
def xkD:List FI:=[Fs 0 42 (Lt 2 17),Fs 1 43 (Lt 2 18),Fs 3 45 (Lt 2 17),Fs 4 46 (Lt 2 18),Fz 2 44 (Ca 32 [.t 42,.t 43]),Fz 5 47 (Ca 33 [.t 45,.t 46]),Fz 6 48 (Ca 31 [.t 44,.t 47]),Fm 7 49 48,Fi 8 50 49 true (Lt 2 17),Fi 9 51 49 true (Lt 2 18),Fi 11 53 49 true (Lt 2 17),Fi 12 54 49 true (Lt 2 18),Fy 10 52 49 true (Ca 34 [.t 50,.t 51]),Fy 13 55 49 true (Ca 35 [.t 53,.t 54]),Fi 14 56 49 true (Bb .eql 52 55),Fs 15 57 (Pf 49 56),Fm 16 16 57]
def r6:RC:=(So xkJ (Sq (So xe8 (Kc 20 (Kk [0,1,2,3,4,5,6,7,20] (So xkI .ret)) (Kk [20] .skip))) (So xkH (So xkG (Sq (So xkF (Kc 34 (Kk [34] (.ops xkE)) (Kk [0,34] .skip))) (Sq (.flt [0,0,3,0,0,31,63,127,255,255,1023,255,255,8191,16383,32767,65535] [] xkD [17,18,42,43,44,45,46,47,48,49,50,51,52,53,54,55,56,57]) .ret))))))
def F6:FnC:=⟨r6,58,[.tmp 16],[],[]⟩
def xkC:List RI:=[oo 6 (.box (.t 0)) [0],oo 12 (Mb false) [12]]
def xe7:List RI:=[on 15 (Ca 11 []),oo 16 (.un .not (.t 15)) [15]]
def UY:List RI:=[on 12 (Mb false)]
def xkB:List RI:=[omk 17 4,oo 18 (Ca 22 [.t 17,ci 0]) [17],omk 19 2,omk 20 3,oo 21 (Ca 26 [.t 19,.t 20]) [19,20],oo 22 (Ca 25 [.t 21,ci 7]) [21],on 13 (.new (.rc [.lst 2 [] .clip,.int .i64 0])),on 14 (.new (.rc Zq0)),Sr 2 13 18 [18],Sr 2 14 22 [22]]
def xkA:List RI:=[omk 23 5]
def xkz:List RI:=[oo 24 (Lt 2 6) [6],oo 25 (Ca 21 [.t 24]) [24],Sr 2 13 25 [25]]
def xky:List RI:=[omk 26 1,oo 27 (Ca 12 [.t 26,ci 100]) [26],oo 28 (Ca 25 [.t 27,ci 7]) [27],Sr 2 14 28 [28]]
def xkx:List FI:=[Fs 0 29 (Lt 2 13),Fs 1 30 (Lt 2 14),Fs 3 32 (Lt 2 13),Fs 4 33 (Lt 2 14),Fz 2 31 (Ca 34 [.t 29,.t 30]),Fz 5 34 (Ca 35 [.t 32,.t 33]),Fs 6 35 (Bb .eql 31 34),Fm 7 12 35]
def r7:RC:=(So xkC (Sq (So xe7 (Kc 16 (Kk [1,2,3,4,5,6,16] (So UY .ret)) (Kk [16] .skip))) (So xkB (Sq (So xkA (Kc 23 (Kk [1,23] (.ops xkz)) (Kk [6,23] (.ops xky)))) (Sq (.flt [0,0,3,0,0,31,63,127] [] xkx [13,14,29,30,31,32,33,34,35]) .ret)))))
def F7:FnC:=⟨r7,36,[.tmp 12],[],[]⟩
def xkw:List RI:=[oo 10 (Mb false) [10]]
def xkv:List RI:=[on 10 (Mb false)]
def xku:List RI:=[omk 17 3,omk 18 4,oo 19 (Ca 22 [.t 17,.t 18]) [17,18],on 11 (.new (.rc [.lst 2 [] .clip,.int .i64 0])),Sr 2 11 19 [19]]
def xkt:List RI:=[omk 20 0,omk 21 1,oo 22 (Ca 26 [.t 20,.t 21]) [20,21],om 23 2,oo 24 (Ca 25 [.t 22,.t 23]) [22,23],on 12 (.new (.rc Zq0)),Sr 2 12 24 [24]]
def xe6:List RI:=[on 13 (Mc 0)]
def xe5:List RI:=[on 14 (Mc 0)]
def xks:List RI:=[om 25 14,on 26 (Fa 0 11),oo 27 (Ld 26) [26],oo 28 (Ln 27) [27],oo 29 (Bb .lss 25 28) [25,28]]
def xkr:List RI:=[omk 32 13,om 33 2,om 34 14,oo 35 (.toInt .u64 (.t 34)) [34],oo 36 (Bb .shr 33 35) [33,35],oo 37 (Bc .and 36 1) [36],oo 38 (Bb .add 32 37) [32,37],omk 13 38]
def xkq:List RI:=[omk 30 14,oo 31 (Bc .add 30 1) [30],omk 14 31]
def Ea:RC:=(Sq (So xks (Kc 29 (Kk [29] .skip) (Kk [2,14,29] (.exit 0)))) (Sq (Bk 1 (.ops xkr)) (.ops xkq)))
def DP:RC:=Ea
def Ua:List FI:=[Fs 0 39 (Lt 2 11),Fs 1 40 (Lt 2 12),Fm 4 43 13,Fs 5 44 (Fa 1 11),Fs 6 45 (Ld 44),Fs 7 46 (Bb .geq 43 45),Fz 2 41 (Ca 34 [.t 39,.t 40]),Fs 3 42 (Bc .eql 41 0),Fs 8 47 (.beq false (.t 42) (.t 46)),Fm 9 48 47,Fi 10 49 48 true (Lt 2 11),Fi 11 50 48 true (Lt 2 12),Fi 14 53 48 true (Mv 13),Fy 12 51 48 true (Ca 32 [.t 49,.t 50]),Fi 13 52 48 true (Ln 51),Fi 15 54 48 true (Bb .eql 52 53),Fs 16 55 (Pf 48 54),Fm 17 10 55]
def r8:RC:=(So xkw (Sq (So xe7 (Kc 16 (Kk [0,1,2,3,4,16] (So xkv .ret)) (Kk [16] .skip))) (So xku (So xkt (So xe6 (Sq (So xe5 (Bk 0 (.loop DP))) (Sq (.flt [0,0,3,7,0,0,32,112,255,511,1023,1023,4095,8191,1023,32767,65535,131071] [] Ua [11,12,13,39,40,41,42,43,44,45,46,47,48,49,50,51,52,53,54,55]) .ret)))))))
def F8:FnC:=⟨r8,56,[.tmp 10],[],[]⟩
def xkp:List RI:=[oo 12 (Mb false) [12]]
def xko:List RI:=[omk 21 4,omk 22 5,oo 23 (Ca 22 [.t 21,.t 22]) [21,22],on 13 (.new (.rc [.lst 2 [] .clip,.int .i64 0])),Sr 2 13 23 [23]]
def xkn:List RI:=[omk 24 0,om 25 2,oo 26 (Ca 26 [.t 24,.t 25]) [24,25],omk 27 3,oo 28 (Ca 25 [.t 26,.t 27]) [26,27],on 14 (.new (.rc Zq0)),Sr 2 14 28 [28]]
def xkm:List RI:=[on 29 (Fa 0 14),oo 30 (Ld 29) [29],oo 31 (.build Zq0 [(0,1,(.t 30))]) [30],on 15 (.new (.rc Zq0)),Sr 2 15 31 [31]]
def xkl:List RI:=[on 32 (Fa 1 14),oo 33 (Ld 32) [32],oo 34 (Ln 33) [33],oo 35 (Bc .sub 34 1) [34],omk 16 35]
def xkk:List RI:=[om 36 16,oo 37 (Bc .geq 36 0) [36]]
def xkj:List FI:=[Fs 0 40 (Fa 1 15),Fs 1 41 (Ld 40),Fs 2 42 (Fa 1 14),Fs 3 43 (Ld 42),Fm 4 44 16,Fs 5 45 (Ia 2 43 44),Fs 6 46 (Lt 2 45),Fs 7 47 (.lit 2 [.t 46]),Fz 8 48 (.app [.int .i64 0,.byt [] .clip] 32 (.t 41) (.t 47)),Fs 9 49 (Fa 1 15),Fr 10 1 49 48]
def xki:List RI:=[omk 38 16,oo 39 (Bc .sub 38 1) [38],omk 16 39]
def D9:RC:=(Sq (So xkk (Kc 37 (Kk [37] .skip) (Kk [16,37] (.exit 0)))) (Sq (Bk 1 (.flt [0,1,0,4,0,28,60,124,255,511,1023] [148] xkj [40,41,42,43,44,45,46,47,48,49])) (.ops xki)))
def DM:RC:=D9
def Tn:List FI:=[Fs 0 50 (Lt 2 13),Fs 1 51 (Lt 2 14),Fs 3 53 (Lt 2 13),Fs 4 54 (Lt 2 15),Fz 2 52 (Ca 32 [.t 50,.t 51]),Fz 5 55 (Ca 32 [.t 53,.t 54]),Fz 6 56 (Ca 31 [.t 52,.t 55]),Fs 7 57 (.un .not (.t 56)),Fm 8 58 57,Fi 9 59 58 false (Lt 2 13),Fi 10 60 58 false (Lt 2 14),Fi 12 62 58 false (Lt 2 13),Fi 13 63 58 false (Lt 2 15),Fy 11 61 58 false (Ca 34 [.t 59,.t 60]),Fy 14 64 58 false (Ca 34 [.t 62,.t 63]),Fi 15 65 58 false (Bb .neq 61 64),Fs 16 66 (Pt 58 65)]
def Tm:List RI:=[omk 67 1,omk 68 2,oo 69 (Ca 26 [.t 67,.t 68]) [67,68],omk 17 69]
def Tl:List RI:=[om 70 17,on 71 (Fa 0 14),oo 72 (Ld 71) [71],oo 73 (Ca 18 [.t 70,.t 72]) [70,72]]
def Tk:List RI:=[on 12 (Mb true)]
def Tj:List RI:=[omk 74 17,oo 75 (Fa 1 14) [14],oo 76 (Ld 75) [75],oo 77 (.build Zq0 [(0,1,(.t 74)),(1,1,(.t 76))]) [74,76],on 18 (.new (.rc Zq0)),Sr 2 18 77 [77]]
def Ti:List FI:=[Fs 0 78 (Lt 2 13),Fs 1 79 (Lt 2 18),Fs 3 81 (Lt 2 13),Fs 4 82 (Lt 2 18),Fz 2 80 (Ca 32 [.t 78,.t 79]),Fz 5 83 (Ca 33 [.t 81,.t 82]),Fz 6 84 (Ca 31 [.t 80,.t 83]),Fm 7 12 84]
def r9:RC:=(So xkp (Sq (So xe8 (Kc 20 (Kk [0,1,2,3,4,5,20] (So UY .ret)) (Kk [20] .skip))) (So xko (So xkn (So xkm (Sq (So xkl (Bk 0 (.loop DM))) (Sq (Sq (.flt [0,0,3,0,0,31,63,127,255,511,511,2047,511,511,16383,32767,65535] [] Tn [15,50,51,52,53,54,55,56,57,58,59,60,61,62,63,64,65]) (Kc 66 (Kk [1,2,13,14,66] (So UY .ret)) (Kk [66] .skip))) (So Tm (Sq (So Tl (Kc 73 (Kk [13,14,17,73] (So Tk .ret)) (Kk [73] .skip))) (So Tj (Sq (.flt [0,0,3,0,0,31,63,127] [] Ti [13,18,78,79,80,81,82,83,84]) .ret)))))))))))
def F9:FnC:=⟨r9,85,[.tmp 12],[],[]⟩
def Zj:List RI:=[oo 0 (Mb false) [0]]
def Zi:List RI:=[on 6 (Ca 22 [ci 0,ci 0]),on 1 (.new (.rc [.lst 2 [] .clip,.int .i64 0])),Sr 2 1 6 [6]]
def Zh:List RI:=[on 7 (.mkB (ci 32) (ci 32)),oo 8 (.build [.byt [] .clip,.int .i64 0] [(0,1,(.t 7)),(1,1,(ci 9))]) [7],oo 9 (Ca 15 [.t 8]) [8],omk 2 9]
def Zg:List RI:=[om 10 2,oo 11 (.build Zq0 [(0,1,(.t 10))]) [10],on 12 (Ca 39 [ci 3]),oo 13 (Ca 28 [.t 11,ci 3,.t 12,ci 1,ci 1]) [11,12],on 3 (.new (.rc Zq0)),Sr 2 3 13 [13]]
def Zf:List RI:=[om 15 2,oo 16 (Ca 16 [.t 15]) [15],omk 14 16,on 17 (.ext (.t 14) 0),oo 18 (.ext (.t 14) 1) [14],on 4 (.new (.rc [.byt [] .clip,.int .i64 0])),Sr 2 4 17 [17],omk 5 18]
def Ze:List RI:=[om 19 2,oo 20 (Ln 19) [19],oo 21 (Bc .eql 20 39) [20],omk 22 21,.grp 22 true [(xi 23 22 true (Fa 1 3)),(xi 24 22 true (Ld 23)),(xi 25 22 true (Ln 24)),(xi 26 22 true (Bc .eql 25 1))] [23,24,25],oo 27 (Pf 22 26) [22,26],omk 28 27,.grp 28 true [(xi 29 28 true (Lt 2 1)),(xi 30 28 true (Lt 2 3)),(xi 31 28 true (Ca 34 [.t 29,.t 30])),(xi 32 28 true (Bc .eql 31 0))] [3,29,30,31],oo 33 (Pf 28 32) [28,32],omk 34 33,.grp 34 true [(xi 35 34 true (Mv 5)),(xi 36 34 true (Bc .eql 35 0))] [5,35],oo 37 (Pf 34 36) [34,36],omk 38 37,.grp 38 true [(xi 39 38 true (Fa 1 4)),(xi 40 38 true (Ld 39)),(xi 41 38 true (Bc .eql 40 9))] [4,39,40],oo 42 (Pf 38 41) [38,41],omk 43 42,.grp 43 true [(xi 44 43 true (Lt 2 1)),(xi 45 43 true (Mv 2)),(xi 46 43 true (.build Zq0 [(0,1,(.t 45))])),(xi 47 43 true (Ca 34 [.t 44,.t 46])),(xi 48 43 true (Bc .eql 47 44))] [1,2,44,45,46,47],oo 49 (Pf 43 48) [43,48],omk 0 49]
def r11:RC:=(So Zj (So Zi (So Zh (So Zg (So Zf (So Ze .ret))))))
def F11:FnC:=⟨r11,50,[.tmp 0],[],[]⟩
def ff:List RI:=[oo 4 (.mov (.c (.byt [] .clip))) [4]]
def OW:List RI:=[om 5 0,oo 6 (Ln 5) [5],om 7 1,oo 8 (Bb .gtr 6 7) [6,7]]
def Zd:List RI:=[omk 9 0,omk 10 1,oo 11 (.slcL 1 (.t 9) none (some (.t 10)) none) [9,10],omk 4 11]
def Zc:List RI:=[omk 12 0,omk 4 12]
def r12:RC:=(So ff (Sq (So OW (Kc 8 (Kk [8] (So Zd .ret)) (Kk [1,8] .skip))) (So Zc .ret)))
def F12:FnC:=⟨r12,13,[.tmp 4],[],[]⟩
def jJ:List RI:=[oo 2 (.mov (.c (.byt [] .clip))) [2]]
def Zb:List RI:=[on 4 (.mkB (ci 32) (ci 32)),omk 3 4]
def Za:List RI:=[om 5 3,omk 6 0,oo 7 (.cpy 1 (.t 5) (.t 6)) [5,6,7]]
def Y9:List RI:=[omk 8 3,omk 2 8]
def r13:RC:=(So jJ (So Zb (So Za (So Y9 .ret))))
def F13:FnC:=⟨r13,9,[.tmp 2],[],[]⟩
def qX:List RI:=[oo 4 (Mc 0) [4]]
def Y8:List RI:=[om 6 1,oo 7 (Bc .lss 6 1) [6]]
def gn:List RI:=[on 4 (Mc 0)]
def Y7:List RI:=[omk 8 0,om 9 1,oo 10 (Bb .rem 8 9) [8,9],omk 5 10]
def Y6:List RI:=[om 11 5,oo 12 (Bc .lss 11 0) [11]]
def Y5:List RI:=[omk 13 5,omk 14 1,oo 15 (Bb .add 13 14) [13,14],omk 5 15]
def Y4:List RI:=[omk 16 5,omk 4 16]
def r14:RC:=(So qX (Sq (So Y8 (Kc 7 (Kk [0,1,7] (So gn .ret)) (Kk [7] .skip))) (So Y7 (Sq (So Y6 (Kc 12 (Kk [12] (.ops Y5)) (Kk [1,12] .skip))) (So Y4 .ret)))))
def F14:FnC:=⟨r14,17,[.tmp 4],[],[]⟩
def xu:List RI:=[oo 1 (.box (.t 0)) [0],oo 2 (.mov (.c (.byt [] .clip))) [2]]
def Y3:List RI:=[on 4 (Fa 0 1),oo 5 (Ld 4) [4],oo 6 (Ln 5) [5],oo 7 (Bc .neq 6 32) [6],omk 8 7,.grp 8 false [(xi 9 8 false (Fa 1 1)),(xi 10 8 false (Ld 9)),(xi 11 8 false (Bc .lss 10 0))] [9,10],oo 12 (Pt 8 11) [8,11],omk 13 12,.grp 13 false [(xi 14 13 false (Fa 1 1)),(xi 15 13 false (Ld 14)),(xi 16 13 false (Bc .gtr 15 1099511627776))] [14,15],oo 17 (Pt 13 16) [13,16]]
def ul:List RI:=[on 2 (.mov (.c (.byt [] .clip)))]
def Y2:List FI:=[Fs 1 19 (Fa 0 1),Fs 2 20 (Ld 19),Fz 0 18 (Ca 40 [(.c (.byt [] .clip)),ci 1,ci 22]),Fz 3 21 (.app [.u8 0] 1 (.t 18) (.t 20)),Fm 4 3 21]
def Y1:List RI:=[omk 22 3,oo 23 (Fa 1 1) [1],oo 24 (Ld 23) [23],oo 25 (Ca 40 [.t 22,ci 6,.t 24]) [22,24],omk 2 25]
def r15:RC:=(So xu (Sq (So Y3 (Kc 17 (Kk [1,17] (So ul .ret)) (Kk [17] .skip))) (Sq (.flt [0,0,2,7,15] [121] Y2 [18,19,20,21]) (So Y1 .ret))))
def F15:FnC:=⟨r15,26,[.tmp 2],[],[]⟩
def OV:List RI:=[on 2 (.new (.rc [.byt [] .clip,.int .i64 0])),oo 3 (Mc 0) [3]]
def Y0:List RI:=[omk 7 0,oo 8 (Ca 41 [.t 7]) [7],omk 4 8]
def YZ:List RI:=[om 9 4,oo 10 (Ca 42 [.t 9,ci 1]) [9],omk 5 10]
def YY:List RI:=[om 11 4,oo 12 (Ca 43 [.t 11,ci 32]) [11],oo 13 (.build [.byt [] .clip,.int .i64 0] [(0,1,(.t 12))]) [12],on 6 (.new (.rc [.byt [] .clip,.int .i64 0])),Sr 2 6 13 [13]]
def YX:List RI:=[om 14 4,oo 15 (Ca 42 [.t 14,ci 6]) [14],on 16 (Fa 1 6),Sr 1 16 15 [15,16]]
def YW:List RI:=[omk 17 4,oo 18 (Ca 44 [.t 17]) [17],oo 19 (Bc .neq 18 0) [18],omk 20 19,.grp 20 false [(xi 21 20 false (Mv 5)),(xi 22 20 false (Bc .neq 21 22))] [5,21],oo 23 (Pt 20 22) [20,22],omk 24 23,.grp 24 false [(xi 25 24 false (Fa 1 6)),(xi 26 24 false (Ld 25)),(xi 27 24 false (Bc .gtr 26 1099511627776))] [25,26],oo 28 (Pt 24 27) [24,27]]
def OU:List RI:=[on 29 (.build [.byt [] .clip,.int .i64 0] []),Sr 2 2 29 [29],on 3 (Mc 30)]
def OT:List RI:=[oo 30 (Lt 2 6) [6],Sr 2 2 30 [30],on 3 (Mc 0)]
def r16:RC:=(So OV (So Y0 (So YZ (So YY (So YX (Sq (So YW (Kc 28 (Kk [6,28] (So OU .ret)) (Kk [28] .skip))) (So OT .ret)))))))
def F16:FnC:=⟨r16,31,[.cell 2 2 true,.tmp 3],[],[]⟩
def DU:List RI:=[oo 2 (.box (.t 0)) [0],oo 3 (.box (.t 1)) [1],oo 4 (Mb false) [4]]
def YV:List RI:=[on 5 (Fa 1 2),oo 6 (Ld 5) [5],on 7 (Fa 1 3),oo 8 (Ld 7) [7],oo 9 (Bb .eql 6 8) [6,8],omk 10 9,.grp 10 true [(xi 11 10 true (Fa 0 2)),(xi 12 10 true (Ld 11)),(xi 13 10 true (Fa 0 3)),(xi 14 10 true (Ld 13)),(xi 15 10 true (Ca 18 [.t 12,.t 14]))] [2,3,11,12,13,14],oo 16 (Pf 10 15) [10,15],omk 4 16]
def r17:RC:=(So DU (So YV .ret))
def F17:FnC:=⟨r17,17,[.tmp 4],[],[]⟩
def xq:List RI:=[oo 4 (Mb false) [4]]
def OS:List RI:=[om 6 0,oo 7 (Ln 6) [6],om 8 1,oo 9 (Ln 8) [8],oo 10 (Bb .neq 7 9) [7,9]]
def qW:List RI:=[on 4 (Mb false)]
def oD:List RI:=[on 5 (Mc 0)]
def OR:List RI:=[om 11 5,om 12 0,oo 13 (Ln 12) [12],oo 14 (Bb .lss 11 13) [11,13]]
def OQ:List FI:=[Fm 0 17 0,Fm 1 18 5,Fs 2 19 (Ia 1 17 18),Fs 3 20 (Ld 19),Fm 4 21 1,Fm 5 22 5,Fs 6 23 (Ia 1 21 22),Fs 7 24 (Ld 23),Fs 8 25 (Bb .neq 20 24)]
def OP:List RI:=[omk 15 5,oo 16 (Bc .add 15 1) [15],omk 5 16]
def Pm:RC:=(Sq (So OR (Kc 14 (Kk [14] .skip) (Kk [0,1,5,14] (.exit 0)))) (Sq (Bk 1 (Sq (.flt [0,0,3,7,0,0,48,112,255] [] OQ [17,18,19,20,21,22,23,24]) (Kc 25 (Kk [0,1,5,25] (So qW .ret)) (Kk [25] .skip)))) (.ops OP)))
def OO:RC:=Pm
def DT:List RI:=[on 4 (Mb true)]
def r18:RC:=(So xq (Sq (So OS (Kc 10 (Kk [0,1,10] (So qW .ret)) (Kk [10] .skip))) (Sq (So oD (Bk 0 (.loop OO))) (So DT .ret))))
def F18:FnC:=⟨r18,26,[.tmp 4],[],[]⟩
def YU:List RI:=[on 3 (Fa 0 1),oo 4 (Ld 3) [3],oo 5 (Ln 4) [4],oo 6 (Bc .neq 5 32) [5],omk 7 6,.grp 7 false [(xi 8 7 false (Fa 1 1)),(xi 9 7 false (Ld 8)),(xi 10 7 false (Bc .lss 9 0))] [8,9],oo 11 (Pt 7 10) [7,10],omk 12 11,.grp 12 false [(xi 13 12 false (Fa 1 1)),(xi 14 12 false (Ld 13)),(xi 15 12 false (Bc .gtr 14 1099511627776))] [13,14],oo 16 (Pt 12 15) [12,15]]
def YT:List FI:=[Fs 0 17 (.litB [(.c (.u8 22))]),Fs 1 18 (Fa 0 1),Fs 2 19 (Ld 18),Fs 4 21 (Fa 1 1),Fs 5 22 (Ld 21),Fz 3 20 (.app [.u8 0] 1 (.t 17) (.t 19)),Fz 6 23 (Ca 45 [.t 20,ci 6,.t 22]),Fm 7 2 23]
def r19:RC:=(So xu (Sq (So YU (Kc 16 (Kk [1,16] (So ul .ret)) (Kk [16] .skip))) (Sq (.flt [0,0,2,7,0,16,63,127] [120] YT [1,17,18,19,20,21,22,23]) .ret)))
def F19:FnC:=⟨r19,24,[.tmp 2],[],[]⟩
def YS:List RI:=[omk 7 0,oo 8 (Ca 46 [.t 7]) [7],omk 4 8]
def YR:List RI:=[om 9 4,oo 10 (Ca 47 [.t 9,ci 1]) [9],omk 5 10]
def YQ:List RI:=[on 6 (.new (.rc [.byt [] .clip,.int .i64 0]))]
def YP:List RI:=[om 11 4,oo 12 (Ca 48 [.t 11,ci 32]) [11],on 13 (Fa 0 6),Sr 1 13 12 [12,13]]
def YO:List RI:=[om 14 4,oo 15 (Ca 47 [.t 14,ci 6]) [14],on 16 (Fa 1 6),Sr 1 16 15 [15,16]]
def YN:List RI:=[omk 17 5,oo 18 (Bc .neq 17 22) [17],omk 19 18,.grp 19 false [(xi 20 19 false (Mv 4)),(xi 21 19 false (Ca 49 [.t 20])),(xi 22 19 false (Bc .neq 21 0))] [4,20,21],oo 23 (Pt 19 22) [19,22],omk 24 23,.grp 24 false [(xi 25 24 false (Fa 1 6)),(xi 26 24 false (Ld 25)),(xi 27 24 false (Bc .gtr 26 1099511627776))] [25,26],oo 28 (Pt 24 27) [24,27]]
def r20:RC:=(So OV (So YS (So YR (So YQ (So YP (So YO (Sq (So YN (Kc 28 (Kk [6,28] (So OU .ret)) (Kk [28] .skip))) (So OT .ret))))))))
def F20:FnC:=⟨r20,31,[.cell 2 2 true,.tmp 3],[],[]⟩
def YM:List RI:=[oo 1 (.box (.t 0)) [0],on 2 (.new (.rc [.lst 2 [] .clip,.int .i64 0]))]
def YL:List RI:=[on 5 (Fa 0 1),oo 6 (Ld 5) [5],oo 7 (Ln 6) [6],oo 8 (Bc .gtr 7 6) [7]]
def YK:List RI:=[on 9 (Fa 0 1),oo 10 (Ld 9) [9],oo 11 (.slcL 2 (.t 10) none (some (ci 6)) none) [10],on 12 (Fa 0 1),Sr 1 12 11 [11,12]]
def YJ:List RI:=[on 13 (.lit 2 []),on 14 (Fa 0 1),oo 15 (Ld 14) [14],.own (xs 16 (.app [.int .i64 0,.byt [] .clip] 32 (.t 13) (.t 15))) [13,15],omk 3 16]
def YI:List RI:=[om 17 4,om 18 3,oo 19 (Ln 18) [18],oo 20 (Bb .lss 17 19) [17,19]]
def YH:List RI:=[om 23 3,om 24 4,om 25 3,om 26 4,oo 27 (Ia 2 25 26) [25,26],oo 28 (Fa 1 27) [27],oo 29 (Ld 28) [28],oo 30 (Ca 12 [.t 29,ci 20]) [29],oo 31 (Ia 2 23 24) [23,24],oo 32 (Fa 1 31) [31],Sr 1 32 30 [30,32]]
def YG:List RI:=[omk 21 4,oo 22 (Bc .add 21 1) [21],omk 4 22]
def Pk:RC:=(Sq (So YI (Kc 20 (Kk [20] .skip) (Kk [4,20] (.exit 0)))) (Sq (Bk 1 (.ops YH)) (.ops YG)))
def ON:RC:=Pk
def YF:List RI:=[omk 33 3,on 34 (Fa 0 1),Sr 1 34 33 [33,34]]
def JJ:List RI:=[oo 35 (Lt 2 1) [1],Sr 2 2 35 [35]]
def r21:RC:=(So YM (Sq (So YL (Kc 8 (Kk [8] (.ops YK)) (Kk [8] .skip))) (So YJ (Sq (So gn (Bk 0 (.loop ON))) (So YF (So JJ .ret))))))
def F21:FnC:=⟨r21,36,[.cell 2 2 true],[],[]⟩
def YE:List RI:=[on 4 (.new (.rc [.lst 2 [] .clip,.int .i64 0]))]
def YD:List RI:=[on 5 (.new (.rc [.lst 2 [] .clip,.int .i64 0]))]
def kI:List RI:=[on 6 (Mc 0)]
def YC:List RI:=[om 7 6,om 8 0,oo 9 (Ca 14 [.t 8,ci 3]) [8],oo 10 (Bb .leq 7 9) [7,9]]
def YB:List FI:=[Fs 0 13 (Fa 0 5),Fs 1 14 (Ld 13),Fm 2 15 6,Fs 3 16 (.bin .mul (ci 2) (.t 15)),Fs 4 17 (.bin .add (ci 3) (.t 16)),Fm 5 18 6,Fs 6 19 (.bin .mul (ci 2) (.t 18)),Fs 7 20 (.bin .add (ci 3) (.t 19)),Fz 8 21 (Ca 39 [.t 20]),Fz 9 22 (Ca 50 [.t 21,ci 1]),Fs 10 23 (.build [.int .i64 0,.byt [] .clip] [(0,1,(.t 17)),(1,1,(.t 22))]),Fs 11 24 (.lit 2 [.t 23]),Fz 12 25 (.app [.int .i64 0,.byt [] .clip] 32 (.t 14) (.t 24)),Fs 13 26 (Fa 0 5),Fr 14 1 26 25]
def OM:List RI:=[omk 11 6,oo 12 (Bc .add 11 1) [11],omk 6 12]
def Pj:RC:=(Sq (So YC (Kc 10 (Kk [10] .skip) (Kk [0,6,10] (.exit 0)))) (Sq (Bk 1 (.flt [0,1,0,4,12,0,32,96,224,480,1020,2044,4095,8191,16383] [125] YB [13,14,15,16,17,18,19,20,21,22,23,24,25,26])) (.ops OM)))
def YA:RC:=Pj
def Yz:List RI:=[omk 27 1,on 28 (Fa 0 5),oo 29 (Ld 28) [28],oo 30 (Ln 29) [29],oo 31 (Ca 14 [.t 27,.t 30]) [27,30],oo 32 (.bin .add (ci 1) (.t 31)) [31],on 33 (Fa 1 5),Sr 1 33 32 [32,33]]
def Yy:List RI:=[oo 34 (Lt 2 5) [5],Sr 2 4 34 [34]]
def r22:RC:=(So YE (So YD (Sq (So kI (Bk 0 (.loop YA))) (So Yz (So Yy .ret)))))
def F22:FnC:=⟨r22,35,[.cell 4 2 true],[],[]⟩
def nD:List RI:=[oo 1 (.box (.t 0)) [0],oo 2 (Mc 0) [2]]
def OL:List RI:=[on 5 (Fa 0 1),oo 6 (Ld 5) [5],oo 7 (Ln 6) [6],oo 8 (Bc .gtr 7 4) [7]]
def nC:List RI:=[on 2 (Mc 4)]
def Yx:List RI:=[on 9 (Fa 0 1),oo 10 (Ld 9) [9],on 11 (Ln 10),on 12 (Mc 0)]
def OK:List RI:=[on 13 (Bb .lss 12 11)]
def Yw:List RI:=[om 14 12,on 15 (Ia 2 10 12),oo 16 (Lt 2 15) [15],on 4 (.new (.rc [.int .i64 0,.byt [] .clip])),omk 3 14,Sr 2 4 16 [16]]
def Yv:List RI:=[on 17 (Fa 0 4),oo 18 (Ld 17) [17],oo 19 (Bc .lss 18 1) [18],omk 20 19,.grp 20 false [(xi 21 20 false (Fa 0 4)),(xi 22 20 false (Ld 21)),(xi 23 20 false (Bc .gtr 22 1000))] [21,22],oo 24 (Pt 20 23) [20,23],omk 25 24,.grp 25 false [(xi 26 25 false (Fa 1 4)),(xi 27 25 false (Ld 26)),(xi 28 25 false (Ln 27)),(xi 29 25 false (Bc .neq 28 17))] [26,27,28],oo 30 (Pt 25 29) [25,29]]
def fC:List RI:=[on 2 (Mc 1)]
def Yu:List FI:=[Fm 0 31 3,Fs 1 32 (Bc .gtr 31 0),Fm 2 33 32,Fi 3 34 33 true (Fa 0 4),Fi 4 35 33 true (Ld 34),Fi 5 36 33 true (Fa 0 1),Fi 6 37 33 true (Ld 36),Fi 7 38 33 true (Mv 3),Fi 8 39 33 true (Bc .sub 38 1),Fi 9 40 33 true (Ia 2 37 39),Fi 10 41 33 true (Fa 0 40),Fi 11 42 33 true (Ld 41),Fi 12 43 33 true (Bb .leq 35 42),Fs 13 44 (Pf 33 43)]
def xp:List RI:=[on 2 (Mc 41)]
def JI:List RI:=[oo 45 (Bc .add 12 1) [12],omk 12 45]
def zQ:RC:=(.post (So OK (Sq (Kc 13 (Kk [13] .skip) (Kk [10,11,12,13] (.exit 0))) (Sq (Bk 1 (So Yw (Sq (So Yv (Kc 30 (Kk [1,3,4,10,11,12,30] (So fC .ret)) (Kk [30] .skip))) (Sq (.flt [0,1,3,7,15,7,39,7,135,487,999,2023,4095,8191] [] Yu [3,4,31,32,33,34,35,36,37,38,39,40,41,42,43]) (Kc 44 (Kk [1,10,11,12,44] (So xp .ret)) (Kk [44] .skip)))))) (.ops JI)))) [.gc [104]])
def lK:RC:=zQ
def JH:List RI:=[on 46 (Fa 1 1),oo 47 (Ld 46) [46],oo 48 (Bc .lss 47 1) [47],omk 49 48,.grp 49 false [(xi 50 49 false (Fa 1 1)),(xi 51 49 false (Ld 50)),(xi 52 49 false (Fa 0 1)),(xi 53 49 false (Ld 52)),(xi 54 49 false (Ln 53)),(xi 55 49 false (Bb .gtr 51 54))] [1,50,51,52,53,54],oo 56 (Pt 49 55) [49,55]]
def iF:List RI:=[on 2 (Mc 0)]
def r23:RC:=(So nD (Sq (So OL (Kc 8 (Kk [1,8] (So nC .ret)) (Kk [8] .skip))) (Sq (So Yx (Bk 0 (.loop lK))) (Sq (So JH (Kc 56 (Kk [56] (So fC .ret)) (Kk [56] .skip))) (So iF .ret)))))
def F23:FnC:=⟨r23,57,[.tmp 2],[],[]⟩
def qV:List RI:=[on 3 (Mc 0)]
def Yt:List RI:=[om 9 3,on 10 (Fa 0 1),oo 11 (Ld 10) [10],oo 12 (Ln 11) [11],oo 13 (Bb .lss 9 12) [9,12]]
def Ys:List RI:=[on 16 (Fa 0 1),oo 17 (Ld 16) [16],om 18 3,oo 19 (Ia 2 17 18) [17,18],oo 20 (Lt 2 19) [19],on 4 (.new (.rc [.int .i64 0,.byt [] .clip])),Sr 2 4 20 [20]]
def Yr:List RI:=[on 21 (Fa 0 4),oo 22 (Ld 21) [21],oo 23 (Bc .lss 22 1) [22],omk 24 23,.grp 24 false [(xi 25 24 false (Fa 0 4)),(xi 26 24 false (Ld 25)),(xi 27 24 false (Bc .gtr 26 1000))] [25,26],oo 28 (Pt 24 27) [24,27],omk 29 28,.grp 29 false [(xi 30 29 false (Fa 1 4)),(xi 31 29 false (Ld 30)),(xi 32 29 false (Ln 31)),(xi 33 29 false (Bc .neq 32 17))] [30,31,32],oo 34 (Pt 29 33) [29,33]]
def Yq:List FI:=[Fm 0 35 3,Fs 1 36 (Bc .gtr 35 0),Fm 2 37 36,Fi 3 38 37 true (Fa 0 4),Fi 4 39 37 true (Ld 38),Fi 5 40 37 true (Fa 0 1),Fi 6 41 37 true (Ld 40),Fi 7 42 37 true (Mv 3),Fi 8 43 37 true (Bc .sub 42 1),Fi 9 44 37 true (Ia 2 41 43),Fi 10 45 37 true (Fa 0 44),Fi 11 46 37 true (Ld 45),Fi 12 47 37 true (Bb .leq 39 46),Fs 13 48 (Pf 37 47)]
def JG:List RI:=[omk 14 3,oo 15 (Bc .add 14 1) [14],omk 3 15]
def zP:RC:=(.post (Sq (So Yt (Kc 13 (Kk [13] .skip) (Kk [3,13] (.exit 0)))) (Sq (Bk 1 (So Ys (Sq (So Yr (Kc 34 (Kk [1,3,4,34] (So fC .ret)) (Kk [34] .skip))) (Sq (.flt [0,1,3,7,15,7,39,7,135,487,999,2023,4095,8191] [] Yq [4,35,36,37,38,39,40,41,42,43,44,45,46,47]) (Kc 48 (Kk [1,3,48] (So xp .ret)) (Kk [48] .skip)))))) (.ops JG))) [.gc [104]])
def lJ:RC:=zP
def JF:List RI:=[on 49 (Fa 1 1),oo 50 (Ld 49) [49],oo 51 (Bc .lss 50 1) [50],omk 52 51,.grp 52 false [(xi 53 52 false (Fa 1 1)),(xi 54 52 false (Ld 53)),(xi 55 52 false (Fa 0 1)),(xi 56 52 false (Ld 55)),(xi 57 52 false (Ln 56)),(xi 58 52 false (Bb .gtr 54 57))] [1,53,54,55,56,57],oo 59 (Pt 52 58) [52,58]]
def r24:RC:=(So nD (Sq (So OL (Kc 8 (Kk [1,8] (So nC .ret)) (Kk [8] .skip))) (Sq (So qV (Bk 0 (.loop lJ))) (Sq (So JF (Kc 59 (Kk [59] (So fC .ret)) (Kk [59] .skip))) (So iF .ret)))))
def F24:FnC:=⟨r24,60,[.tmp 2],[],[]⟩
def Yp:List RI:=[on 4 (.new (.rc Zq0))]
def Yo:List RI:=[omk 7 0,oo 8 (.build Zq0 [(0,1,(.t 7))]) [7],on 5 (.new (.rc Zq0)),Sr 2 5 8 [8]]
def Yn:List RI:=[om 9 6,oo 10 (Bc .lss 9 3) [9]]
def Ym:List RI:=[om 13 1,om 14 6,oo 15 (.toInt .u64 (.t 14)) [14],oo 16 (Bb .shr 13 15) [13,15],oo 17 (Bc .and 16 1) [16],oo 18 (Bc .eql 17 1) [17]]
def Yl:List FI:=[Fs 0 19 (Lt 2 5),Fm 1 20 6,Fs 2 21 (.bin .mul (ci 2) (.t 20)),Fs 3 22 (.bin .add (ci 3) (.t 21)),Fm 4 23 6,Fs 5 24 (.bin .mul (ci 2) (.t 23)),Fs 6 25 (.bin .add (ci 3) (.t 24)),Fm 8 27 6,Fs 9 28 (Bc .and 27 1),Fz 7 26 (Ca 39 [.t 25]),Fz 10 29 (Ca 29 [.t 19,.t 22,.t 26,ci 1,.t 28]),Fr 11 2 5 29]
def Pi:RC:=(Sq (So Yn (Kc 10 (Kk [10] .skip) (Kk [1,6,10] (.exit 0)))) (Sq (Bk 1 (So Ym (Kc 18 (Kk [18] (.flt [0,0,2,6,0,16,48,112,0,256,1023,2047] [] Yl [19,20,21,22,23,24,25,26,27,28,29])) (Kk [18] .skip)))) (.ops OM)))
def lT:RC:=Pi
def Yk:List RI:=[oo 30 (Lt 2 5) [5],Sr 2 4 30 [30]]
def r25:RC:=(So Yp (So Yo (Sq (So kI (Bk 0 (.loop lT))) (So Yk .ret))))
def F25:FnC:=⟨r25,31,[.cell 4 2 true],[],[]⟩
def Yj:List RI:=[omk 6 0,oo 7 (Ca 51 [.t 6,ci 40]) [6],omk 5 7]
def Yi:List RI:=[omk 8 1,oo 9 (Bc .and 8 1) [8],oo 10 (Bc .eql 9 1) [9]]
def Yh:List RI:=[om 11 5,oo 12 (Ca 52 [.t 11,ci 9]) [11],oo 13 (.toInt .u8 (.t 12)) [12],oo 14 (.litB [.t 13]) [13],oo 15 (Ca 13 [.t 14]) [14],omk 16 5,oo 17 (Ca 52 [.t 16,ci 99]) [16],oo 18 (.build [.byt [] .clip,.int .i64 0] [(0,1,(.t 15)),(1,1,(.t 17))]) [15,17],oo 19 (Ca 19 [.t 18]) [18],omk 4 19]
def Yg:List RI:=[omk 20 5,oo 21 (Ca 54 [.t 20,(.c (.lst 4 [] .clip))]) [20],oo 22 (Ca 53 [.t 21]) [21],omk 4 22]
def r26:RC:=(So ff (So Yj (Sq (So Yi (Kc 10 (Kk [10] (So Yh .ret)) (Kk [10] .skip))) (So Yg .ret))))
def F26:FnC:=⟨r26,23,[.tmp 4],[],[]⟩
def Yf:List RI:=[on 6 (Fa 0 2),oo 7 (Ld 6) [6],on 8 (Fa 0 3),oo 9 (Ld 8) [8],oo 10 (Ca 18 [.t 7,.t 9]) [7,9],oo 11 (.un .not (.t 10)) [10],omk 12 11,.grp 12 false [(xi 13 12 false (Fa 1 2)),(xi 14 12 false (Ld 13)),(xi 15 12 false (Ln 14)),(xi 16 12 false (Fa 1 3)),(xi 17 12 false (Ld 16)),(xi 18 12 false (Ln 17)),(xi 19 12 false (Bb .neq 15 18))] [13,14,15,16,17,18],oo 20 (Pt 12 19) [12,19]]
def Ye:List RI:=[om 21 5,on 22 (Fa 1 2),oo 23 (Ld 22) [22],oo 24 (Ln 23) [23],oo 25 (Bb .lss 21 24) [21,24]]
def Yd:List FI:=[Fs 0 28 (Fa 1 2),Fs 1 29 (Ld 28),Fm 2 30 5,Fs 3 31 (Ia 2 29 30),Fs 4 32 (Fa 0 31),Fs 5 33 (Ld 32),Fs 6 34 (Fa 1 3),Fs 7 35 (Ld 34),Fm 8 36 5,Fs 9 37 (Ia 2 35 36),Fs 10 38 (Fa 0 37),Fs 11 39 (Ld 38),Fs 12 40 (Bb .neq 33 39),Fm 13 41 40,Fi 14 42 41 false (Fa 1 2),Fi 15 43 41 false (Ld 42),Fi 16 44 41 false (Mv 5),Fi 17 45 41 false (Ia 2 43 44),Fi 18 46 41 false (Fa 1 45),Fi 19 47 41 false (Ld 46),Fi 20 48 41 false (Fa 1 3),Fi 21 49 41 false (Ld 48),Fi 22 50 41 false (Mv 5),Fi 23 51 41 false (Ia 2 49 50),Fi 24 52 41 false (Fa 1 51),Fi 25 53 41 false (Ld 52),Fy 26 54 41 false (Ca 18 [.t 47,.t 53]),Fi 27 55 41 false (.un .not (.t 54)),Fs 28 56 (Pt 41 55)]
def Yc:List RI:=[omk 26 5,oo 27 (Bc .add 26 1) [26],omk 5 27]
def Ph:RC:=(Sq (So Ye (Kc 25 (Kk [25] .skip) (Kk [2,3,5,25] (.exit 0)))) (Sq (Bk 1 (Sq (.flt [0,1,0,7,15,31,0,64,0,448,960,1984,4095,8191,16383,32767,16383,131071,262143,524287,16383,1064959,16383,7356415,15745023,32522239,67108863,134217727,268435455] [] Yd [28,29,30,31,32,33,34,35,36,37,38,39,40,41,42,43,44,45,46,47,48,49,50,51,52,53,54,55]) (Kc 56 (Kk [2,3,5,56] (So qW .ret)) (Kk [56] .skip)))) (.ops Yc)))
def OJ:RC:=Ph
def r27:RC:=(So DU (Sq (So Yf (Kc 20 (Kk [2,3,20] (So qW .ret)) (Kk [20] .skip))) (Sq (So oD (Bk 0 (.loop OJ))) (So DT .ret))))
def F27:FnC:=⟨r27,57,[.tmp 4],[],[]⟩
def OI:List RI:=[oo 5 (.box (.t 0)) [0],on 10 (.new (.rc Zq0))]
def Yb:List RI:=[omk 12 1,omk 13 2,omk 14 3,omk 15 4,on 16 (Fa 0 5),oo 17 (Ld 16) [16],oo 18 (Ca 55 [.t 13,.t 14,.t 15,.t 17]) [13,14,15,17],oo 19 (.build [.int .i64 0,.byt [] .clip] [(0,1,(.t 12)),(1,1,(.t 18))]) [12,18],on 11 (.new (.rc [.int .i64 0,.byt [] .clip])),Sr 2 11 19 [19]]
def Ya:List FI:=[Fs 0 20 (Fa 1 5),Fs 1 21 (Ld 20),Fs 3 23 (Lt 2 11),Fs 4 24 (.lit 2 [.t 23]),Fz 2 22 (Ca 56 [.t 21]),Fz 5 25 (.app [.int .i64 0,.byt [] .clip] 32 (.t 22) (.t 24)),Fs 6 26 (Fa 1 5),Fr 7 1 26 25]
def X9:List RI:=[oo 27 (Lt 2 5) [5],Sr 2 10 27 [27]]
def r28:RC:=(So OI (So Yb (Sq (.flt [0,1,3,0,8,31,63,127] [125] Ya [11,20,21,22,23,24,25,26]) (So X9 .ret))))
def F28:FnC:=⟨r28,28,[.cell 10 2 true],[],[]⟩
def X8:List RI:=[omk 12 1,omk 13 2,omk 14 3,omk 15 4,on 16 (Fa 0 5),oo 17 (Ld 16) [16],oo 18 (Ca 57 [.t 13,.t 14,.t 15,.t 17]) [13,14,15,17],oo 19 (.build [.int .i64 0,.byt [] .clip] [(0,1,(.t 12)),(1,1,(.t 18))]) [12,18],on 11 (.new (.rc [.int .i64 0,.byt [] .clip])),Sr 2 11 19 [19]]
def X7:List FI:=[Fs 0 20 (Fa 0 5),Fs 1 21 (Ld 20),Fs 2 22 (.lit 2 []),Fs 3 23 (Fa 1 5),Fs 4 24 (Ld 23),Fs 6 26 (Lt 2 11),Fs 7 27 (.lit 2 [.t 26]),Fz 5 25 (.app [.int .i64 0,.byt [] .clip] 32 (.t 22) (.t 24)),Fz 8 28 (.app [.int .i64 0,.byt [] .clip] 32 (.t 25) (.t 27)),Fs 9 29 (.build Zq0 [(0,1,(.t 21)),(1,1,(.t 28))]),Fr 10 2 10 29]
def r29:RC:=(So OI (So X8 (Sq (.flt [0,1,0,0,8,28,0,64,252,511,1023] [125,128] X7 [5,11,20,21,22,23,24,25,26,27,28,29]) .ret)))
def F29:FnC:=⟨r29,30,[.cell 10 2 true],[],[]⟩
def X6:List RI:=[on 8 (.new (.rc Zq0))]
def X5:List RI:=[omk 16 0,omk 17 2,oo 18 (Ca 26 [.t 16,.t 17]) [16,17],omk 19 3,oo 20 (Ca 25 [.t 18,.t 19]) [18,19],on 9 (.new (.rc Zq0)),Sr 2 9 20 [20]]
def X4:List RI:=[omk 21 1,oo 22 (Ca 51 [.t 21,ci 20]) [21],omk 10 22]
def X3:List RI:=[om 23 10,oo 24 (Ca 52 [.t 23,ci 3]) [23],omk 11 24]
def X2:List RI:=[om 25 11,oo 26 (Bc .gtr 25 0) [25],omk 27 26,.grp 27 true [(xi 28 27 true (Fa 1 9)),(xi 29 27 true (Ld 28)),(xi 30 27 true (Ln 29)),(xi 31 27 true (Bc .gtr 30 0))] [28,29,30],oo 32 (Pf 27 31) [27,31]]
def X1:List RI:=[om 35 10,on 36 (Fa 1 9),oo 37 (Ld 36) [36],oo 38 (Ln 37) [37],oo 39 (Ca 52 [.t 35,.t 38]) [35,38],omk 12 39]
def X0:List RI:=[on 40 (.lit 2 []),on 41 (Fa 1 9),oo 42 (Ld 41) [41],.own (xs 43 (.app [.int .i64 0,.byt [] .clip] 32 (.t 40) (.t 42))) [40,42],omk 13 43]
def XZ:List RI:=[om 44 10,oo 45 (Ca 52 [.t 44,ci 5]) [44]]
def XY:List RI:=[on 55 (Bc .eql 45 0),omk 54 55]
def XX:List RI:=[om 56 13,omk 57 13,omk 58 12,oo 59 (Ia 2 57 58) [57,58],oo 60 (Lt 2 59) [59],oo 61 (.lit 2 [.t 60]) [60],.own (xs 62 (.app [.int .i64 0,.byt [] .clip] 32 (.t 56) (.t 61))) [56,61],omk 13 62]
def JE:List RI:=[on 64 (Bc .eql 45 1),omk 63 64]
def JD:List RI:=[om 65 10,om 66 13,oo 67 (Ln 66) [66],oo 68 (Ca 52 [.t 65,.t 67]) [65,67],omk 14 68]
def JC:List FI:=[Fm 0 69 13,Fm 1 70 12,Fm 2 71 13,Fm 3 72 14,Fm 4 73 13,Fm 5 74 14,Fs 6 75 (Ia 2 73 74),Fs 7 76 (Lt 2 75),Fm 8 77 13,Fm 9 78 12,Fs 10 79 (Ia 2 77 78),Fs 11 80 (Lt 2 79),Fs 12 81 (Ia 2 69 70),Fr 13 2 81 76,Fs 14 82 (Ia 2 71 72),Fr 15 2 82 80]
def JB:List RI:=[on 84 (Bc .eql 45 2),omk 83 84]
def JA:List RI:=[om 85 13,omk 86 12,om 87 10,oo 88 (Ca 52 [.t 87,ci 6]) [87],oo 89 (.bin .add (ci 3) (.t 88)) [88],oo 90 (Ia 2 85 86) [85,86],oo 91 (Fa 0 90) [90],Sr 1 91 89 [89,91]]
def Jz:List RI:=[oo 93 (Bc .eql 45 3) [45],omk 92 93]
def Jy:List RI:=[on 94 (.litB []),om 95 13,om 96 12,oo 97 (Ia 2 95 96) [95,96],oo 98 (Fa 1 97) [97],oo 99 (Ld 98) [98],.own (xs 100 (.app [.u8 0] 1 (.t 94) (.t 99))) [94,99],omk 15 100]
def Jx:List RI:=[om 101 15,om 102 10,om 103 15,oo 104 (Ln 103) [103],oo 105 (Ca 52 [.t 102,.t 104]) [102,104],on 106 (Ia 1 101 105),oo 107 (Ld 106) [106],oo 108 (.bin .xor (.t 107) (.c (.u8 1))) [107],oo 109 (Ia 1 101 105) [101,105],Sr 1 109 108 [108,109]]
def Jw:List RI:=[om 110 13,omk 111 12,omk 112 15,oo 113 (Ia 2 110 111) [110,111],oo 114 (Fa 1 113) [113],.dir (.pub 112),Sr 1 114 112 [112,114]]
def Jv:List FI:=[Fm 0 46 13,Fm 1 47 12,Fs 2 48 (.slcL 2 (.t 46) none (some (.t 47)) none),Fm 3 49 13,Fm 4 50 12,Fs 5 51 (Bc .add 50 1),Fs 6 52 (.slcL 2 (.t 49) (some (.t 51)) none none),Fz 7 53 (.appO [.int .i64 0,.byt [] .clip] 32 (.t 48) (.t 52)),⟨8,false,(xm 13 53)⟩]
def Ju:List RI:=[omk 115 13,on 116 (Fa 1 9),Sr 1 116 115 [115,116]]
def Jt:List RI:=[omk 33 11,oo 34 (Bc .sub 33 1) [33],omk 11 34]
def zO:RC:=(.post (Sq (So X2 (Kc 32 (Kk [32] .skip) (Kk [10,11,32] (.exit 0)))) (Sq (Bk 1 (So X1 (So X0 (Sq (So XZ (Bk 2 (So XY (Kc 54 (Kk [45,54] (.ops XX)) (Kk [54] (So JE (Kc 63 (Kk [45,63] (So JD (.flt [0,0,0,0,0,0,48,112,0,0,768,1792,4083,8179,16383,32767] [] JC [12,14,69,70,71,72,73,74,75,76,77,78,79,80,81,82]))) (Kk [63] (So JB (Kc 83 (Kk [45,83] (.ops JA)) (Kk [83] (So Jz (Kc 92 (Kk [92] (So Jy (So Jx (.ops Jw)))) (Kk [92] (.flt [0,0,3,0,0,16,56,127,255] [153] Jv [12,46,47,48,49,50,51,52,53]))))))))))))))) (.ops Ju))))) (.ops Jt))) [.pubo 143,.pubo 153,.pubo 162,.pubo 200,.gc [143,153,162,200]])
def nO:RC:=zO
def Js:List RI:=[oo 117 (Lt 2 9) [9],Sr 2 8 117 [117]]
def r30:RC:=(So X6 (So X5 (So X4 (Sq (So X3 (Bk 0 (.loop nO))) (So Js .ret)))))
def F30:FnC:=⟨r30,118,[.cell 8 2 true],[],[]⟩
def Pg:RC:=(Sq (So OR (Kc 14 (Kk [14] .skip) (Kk [0,1,5,14] (.exit 0)))) (Sq (Bk 1 (Sq (.flt [0,0,3,7,0,0,48,112,255] [] OQ [17,18,19,20,21,22,23,24]) (Kc 25 (Kk [0,1,5,25] (So qW .ret)) (Kk [25] .skip)))) (.ops OP)))
def OH:RC:=Pg
def r31:RC:=(So xq (Sq (So OS (Kc 10 (Kk [0,1,10] (So qW .ret)) (Kk [10] .skip))) (Sq (So oD (Bk 0 (.loop OH))) (So DT .ret))))
def F31:FnC:=⟨r31,26,[.tmp 4],[],[]⟩
def XW:List RI:=[oo 2 (.box (.t 0)) [0],oo 3 (.box (.t 1)) [1],oo 4 (.mov (.c (.lst 1 [] .clip))) [4]]
def uh:List RI:=[on 5 (.mov (.c (.lst 1 [] .clip)))]
def XV:List RI:=[om 9 6,on 10 (Fa 1 3),oo 11 (Ld 10) [10],oo 12 (Ln 11) [11],oo 13 (Bb .lss 9 12) [9,12]]
def XU:List RI:=[on 16 (Fa 1 3),oo 17 (Ld 16) [16],om 18 6,oo 19 (Ia 2 17 18) [17,18],oo 20 (Fa 0 19) [19],oo 21 (Ld 20) [20],omk 7 21]
def XT:List FI:=[Fs 0 22 (Lt 2 2),Fs 1 23 (Fa 0 3),Fs 2 24 (Ld 23),Fs 3 25 (Fa 1 3),Fs 4 26 (Ld 25),Fm 5 27 6,Fs 6 28 (Ia 2 26 27),Fs 7 29 (Lt 2 28),Fz 8 30 (Ca 60 [.t 22,.t 24,.t 29]),Fs 9 31 (.un .not (.t 30))]
def ug:List RI:=[on 8 (Mc 0)]
def XS:List RI:=[om 32 8,om 33 5,oo 34 (Ln 33) [33],oo 35 (Bb .lss 32 34) [32,34],omk 36 35,.grp 36 true [(xi 37 36 true (Mv 5)),(xi 38 36 true (Mv 8)),(xi 39 36 true (Ia 1 37 38)),(xi 40 36 true (Ld 39)),(xi 41 36 true (Mv 7)),(xi 42 36 true (Bb .lss 40 41))] [37,38,39,40,41],oo 43 (Pf 36 42) [36,42]]
def XR:List RI:=[omk 44 8,oo 45 (Bc .add 44 1) [44],omk 8 45]
def Pe:RC:=(Sq (So XS (Kc 43 (Kk [43] .skip) (Kk [43] (.exit 2)))) (Bk 3 (.ops XR)))
def OG:RC:=Pe
def Jr:List RI:=[om 46 8,om 47 5,oo 48 (Ln 47) [47],oo 49 (Bb .lss 46 48) [46,48],omk 50 49,.grp 50 true [(xi 51 50 true (Mv 5)),(xi 52 50 true (Mv 8)),(xi 53 50 true (Ia 1 51 52)),(xi 54 50 true (Ld 53)),(xi 55 50 true (Mv 7)),(xi 56 50 true (Bb .eql 54 55))] [51,52,53,54,55],oo 57 (Pf 50 56) [50,56]]
def Jq:List FI:=[Fs 0 58 (.lit 1 []),Fm 1 59 5,Fm 2 60 8,Fs 3 61 (.slcL 1 (.t 59) none (some (.t 60)) none),Fm 5 63 7,Fs 6 64 (.lit 1 [.t 63]),Fm 8 66 5,Fm 9 67 8,Fs 10 68 (.slcL 1 (.t 66) (some (.t 67)) none none),Fz 4 62 (.app [.int .i64 0] 8 (.t 58) (.t 61)),Fz 7 65 (.app [.int .i64 0] 8 (.t 62) (.t 64)),Fz 11 69 (.app [.int .i64 0] 8 (.t 65) (.t 68)),⟨12,false,(xm 5 69)⟩]
def Jp:List RI:=[omk 14 6,oo 15 (Bc .add 14 1) [14],omk 6 15]
def zN:RC:=(.post (Sq (So XV (Kc 13 (Kk [13] .skip) (Kk [2,3,6,13] (.exit 0)))) (Sq (Bk 1 (So XU (Sq (Sq (.flt [0,0,2,0,8,0,56,120,255,511] [] XT [22,23,24,25,26,27,28,29,30]) (Kc 31 (Kk [7,31] (.exit 1)) (Kk [31] .skip))) (So ug (Sq (Bk 2 (.loop OG)) (Sq (So Jr (Kc 57 (Kk [7,8,57] (.exit 1)) (Kk [57] .skip))) (.flt [0,0,0,6,15,0,32,127,0,0,768,2047,4095] [162,165,169] Jq [7,8,58,59,60,61,62,63,64,65,66,67,68,69]))))))) (.ops Jp))) [.gc [162,165],.tok 5 105])
def yK:RC:=zN
def Jo:List RI:=[omk 70 5,omk 4 70]
def r33:RC:=(So XW (So uh (Sq (So kI (Bk 0 (.pre [.tok 5 105] (.loop yK)))) (So Jo .ret))))
def F33:FnC:=⟨r33,71,[.tmp 4],[],[]⟩
def DS:List RI:=[oo 2 (.box (.t 0)) [0],oo 3 (.box (.t 1)) [1],oo 4 (Mc 0) [4]]
def XQ:List RI:=[on 8 (Lt 2 2),oo 9 (Ca 23 [.t 8]) [8],omk 5 9]
def XP:List RI:=[om 10 5,oo 11 (Bc .neq 10 0) [10]]
def XO:List RI:=[omk 12 5,omk 4 12]
def XN:List RI:=[on 13 (Fa 1 3),oo 14 (Ld 13) [13],oo 15 (Ln 14) [14],oo 16 (Bc .gtr 15 4) [15]]
def OF:List RI:=[on 4 (Mc 4)]
def XM:List RI:=[on 18 (Fa 0 3),oo 19 (Ld 18) [18],oo 20 (Ca 61 [.t 19]) [19],omk 17 20,on 21 (.ext (.t 17) 0),oo 22 (.ext (.t 17) 1) [17],on 6 (.new (.rc Zq1)),Sr 7 6 21 [6,21],omk 7 22]
def XL:List RI:=[om 23 7,oo 24 (Bc .neq 23 0) [23]]
def XK:List RI:=[on 26 (Fa 0 3),oo 27 (Ld 26) [26],oo 28 (Ca 16 [.t 27]) [27],omk 25 28,oo 29 (.ext (.t 25) 0) [29],oo 30 (.ext (.t 25) 1) [25],omk 7 30]
def XJ:List RI:=[om 31 7,oo 32 (Bc .neq 31 0) [31]]
def Jn:List RI:=[omk 33 7,omk 4 33]
def Jm:List FI:=[Fs 0 34 (Lt 2 2),Fs 1 35 (Lt 2 3),Fs 4 38 (Fa 1 2),Fs 5 39 (Ld 38),Fz 2 36 (Ca 32 [.t 34,.t 35]),Fs 3 37 (Ln 36),Fs 6 40 (Bb .lss 37 39)]
def yJ:List RI:=[on 4 (Mc 44)]
def r34:RC:=(So DS (Sq (So XQ (So XP (Kc 11 (Kk [2,3,11] (So XO .ret)) (Kk [5,11] .skip)))) (Sq (So XN (Kc 16 (Kk [2,3,16] (So OF .ret)) (Kk [16] .skip))) (So XM (Sq (So XL (Kc 24 (Kk [7,24] (.ops XK)) (Kk [24] .skip))) (Sq (So XJ (Kc 32 (Kk [2,3,32] (So Jn .ret)) (Kk [7,32] .skip))) (Sq (Sq (.flt [0,0,3,7,0,16,63] [] Jm [2,3,34,35,36,37,38,39]) (Kc 40 (Kk [40] (So yJ .ret)) (Kk [40] .skip))) (So gn .ret))))))))
def F34:FnC:=⟨r34,41,[.tmp 4],[],[]⟩
def XI:List RI:=[on 10 (Lt 2 2),oo 11 (Ca 24 [.t 10]) [10],omk 5 11]
def XH:List RI:=[om 12 5,oo 13 (Bc .neq 12 0) [12]]
def XG:List RI:=[omk 14 5,omk 4 14]
def XF:List RI:=[on 15 (Fa 1 3),oo 16 (Ld 15) [15],oo 17 (Ln 16) [16],oo 18 (Bc .gtr 17 4) [17]]
def XE:List RI:=[on 20 (Fa 0 3),oo 21 (Ld 20) [20],oo 22 (Ca 62 [.t 21]) [21],omk 19 22,on 23 (.ext (.t 19) 0),oo 24 (.ext (.t 19) 1) [19],on 6 (.new (.rc Zq1)),Sr 7 6 23 [6,23],omk 7 24]
def XD:List RI:=[on 26 (Fa 0 3),oo 27 (Ld 26) [26],oo 28 (Ca 20 [.t 27]) [27],omk 25 28,on 29 (.ext (.t 25) 0),oo 30 (.ext (.t 25) 1) [25],on 8 (.new (.rc [.byt [] .clip,.int .i64 0])),Sr 2 8 29 [8,29],omk 9 30]
def XC:List RI:=[omk 31 7,oo 32 (Bc .neq 31 0) [31],omk 33 32,.grp 33 true [(xi 34 33 true (Mv 9)),(xi 35 33 true (Bc .neq 34 0))] [9,34],oo 36 (Pf 33 35) [33,35]]
def XB:List RI:=[on 4 (Mc 30)]
def Jl:List FI:=[Fs 0 37 (Lt 2 2),Fs 1 38 (Lt 2 3),Fs 4 41 (Fa 1 2),Fs 5 42 (Ld 41),Fz 2 39 (Ca 33 [.t 37,.t 38]),Fs 3 40 (Ln 39),Fs 6 43 (Bb .lss 40 42)]
def r35:RC:=(So DS (Sq (So XI (So XH (Kc 13 (Kk [2,3,13] (So XG .ret)) (Kk [5,13] .skip)))) (Sq (So XF (Kc 18 (Kk [2,3,18] (So OF .ret)) (Kk [18] .skip))) (So XE (So XD (Sq (So XC (Kc 36 (Kk [2,3,36] (So XB .ret)) (Kk [36] .skip))) (Sq (Sq (.flt [0,0,3,7,0,16,63] [] Jl [2,3,37,38,39,40,41,42]) (Kc 43 (Kk [43] (So yJ .ret)) (Kk [43] .skip))) (So gn .ret))))))))
def F35:FnC:=⟨r35,44,[.tmp 4],[],[]⟩
def XA:List RI:=[omk 3 0,oo 4 (.toInt .u8 (.t 3)) [3],oo 5 (.litB [(.c (.u8 107)),.t 4]) [4],oo 6 (Ca 73 [.t 5]) [5],omk 2 6]
def r39:RC:=(So jJ (So XA .ret))
def F39:FnC:=⟨r39,7,[.tmp 2],[],[]⟩
def oC:List RI:=[oo 6 (.mov (.c (.byt [] .clip))) [6]]
def Xz:List RI:=[omk 9 0,oo 10 (.app [.u8 0] 1 (.c (.byt [] .clip)) (.t 9)) [9],omk 7 10]
def Xy:List RI:=[om 11 1,oo 12 (Bc .lss 11 1) [11],omk 13 12,.grp 13 false [(xi 14 13 false (Mv 1)),(xi 15 13 false (Bc .gtr 14 8))] [14],oo 16 (Pt 13 15) [13,15]]
def Xx:List RI:=[omk 17 7,omk 6 17]
def Xw:List RI:=[omk 18 1,oo 19 (Bc .sub 18 1) [18],omk 8 19]
def Xv:List RI:=[om 20 8,oo 21 (Bc .geq 20 0) [20]]
def Xu:List RI:=[omk 24 7,om 25 2,oo 26 (.toInt .u64 (.t 25)) [25],om 27 8,oo 28 (.bin .mul (ci 8) (.t 27)) [27],oo 29 (.toInt .u64 (.t 28)) [28],oo 30 (Bb .shr 26 29) [26,29],oo 31 (.toInt .u8 (.t 30)) [30],oo 32 (.litB [.t 31]) [31],oo 33 (.app [.u8 0] 1 (.t 24) (.t 32)) [24,32],omk 7 33]
def Xt:List RI:=[omk 22 8,oo 23 (Bc .sub 22 1) [22],omk 8 23]
def Pd:RC:=(.post (Sq (So Xv (Kc 21 (Kk [21] .skip) (Kk [2,8,21] (.exit 0)))) (Sq (Bk 1 (.ops Xu)) (.ops Xt))) [.tok 7 107])
def OE:RC:=Pd
def Xs:List RI:=[omk 34 7,omk 6 34]
def r40:RC:=(So oC (So Xz (Sq (So Xy (Kc 16 (Kk [1,2,16] (So Xx .ret)) (Kk [16] .skip))) (Sq (So Xw (Bk 0 (.pre [.tok 7 107] (.loop OE)))) (So Xs .ret)))))
def F40:FnC:=⟨r40,35,[.tmp 6],[0],[]⟩
def OD:List RI:=[oo 2 (.mov (.c .nilp)) [2]]
def Xr:List RI:=[omk 3 0,oo 4 (.app [.u8 0] 1 (.c (.byt [] .clip)) (.t 3)) [3],oo 5 (.build [.byt [] .clip,.int .i64 0,.int .i64 0] [(0,1,(.t 4))]) [4],oo 6 (.box (.t 5)) [5],omk 2 6]
def r41:RC:=(So OD (So Xr .ret))
def F41:FnC:=⟨r41,7,[.tmp 2],[],[]⟩
def OC:List RI:=[om 10 0,oo 11 (.nchk (.t 10)) [10],oo 12 (Fa 2 11) [11],oo 13 (Ld 12) [12],oo 14 (Bc .neq 13 0) [13]]
def Xq:List RI:=[om 15 1,oo 16 (Bc .lss 15 1) [15],omk 17 16,.grp 17 false [(xi 18 17 false (Mv 1)),(xi 19 17 false (Bc .gtr 18 8))] [18],oo 20 (Pt 17 19) [17,19]]
def Xp:List RI:=[omk 21 0,oo 22 (Ca 74 [.t 21,ci 1]) [21,22]]
def Xo:List RI:=[om 24 0,om 25 0,oo 26 (.nchk (.t 25)) [25],oo 27 (Fa 1 26) [26],oo 28 (Ld 27) [27],om 29 1,oo 30 (Ca 75 [.t 24,.t 28,.t 29]) [24,28,29],omk 23 30,on 31 (.ext (.t 23) 0),oo 32 (.ext (.t 23) 1) [23],omk 5 31,omk 6 32]
def Xn:List RI:=[om 33 6,oo 34 (Bc .neq 33 0) [33]]
def Xm:List RI:=[omk 35 0,omk 36 6,oo 37 (Ca 74 [.t 35,.t 36]) [35,36,37]]
def Jk:List RI:=[on 7 (.mov (.c (.int .u64 0)))]
def Jj:List RI:=[omk 38 5,on 39 (Ln 38),on 40 (Mc 0)]
def Ji:List RI:=[on 41 (Bb .lss 40 39)]
def Jh:List RI:=[on 42 (Ia 1 38 40),oo 43 (Ld 42) [42],omk 9 43]
def Jg:List RI:=[omk 44 7,oo 45 (.bin .shl (.t 44) (.c (.int .u64 8))) [44],omk 46 9,oo 47 (.toInt .u64 (.t 46)) [46],oo 48 (Bb .or 45 47) [45,47],omk 7 48]
def Jf:List RI:=[oo 49 (Bc .add 40 1) [40],omk 40 49]
def zM:RC:=(So Ji (Sq (Kc 41 (Kk [41] .skip) (Kk [38,39,40,41] (.exit 0))) (Sq (Bk 1 (So Jh (.ops Jg))) (.ops Jf))))
def yI:RC:=zM
def Je:List RI:=[om 50 7,oo 51 (.bin .gtr (.t 50) (.c (.int .u64 9223372036854775807))) [50]]
def Jd:List RI:=[omk 52 0,oo 53 (Ca 74 [.t 52,ci 4]) [52,53]]
def Jc:List RI:=[omk 54 0,on 55 (.nchk (.t 54)),oo 56 (Fa 1 55) [55],oo 57 (Ld 56) [56],omk 58 1,oo 59 (Bb .add 57 58) [57,58],oo 60 (.nchk (.t 54)) [54],oo 61 (Fa 1 60) [60],Sr 1 61 59 [59,61]]
def Jb:List RI:=[omk 62 7,oo 63 (.toInt .i64 (.t 62)) [62],omk 4 63]
def r42:RC:=(So qX (Sq (So OC (Kc 14 (Kk [0,1,14] (So gn .ret)) (Kk [14] .skip))) (Sq (So Xq (Kc 20 (Kk [1,20] (So Xp (So gn .ret))) (Kk [20] .skip))) (So Xo (Sq (So Xn (Kc 34 (Kk [1,5,34] (So Xm (So gn .ret))) (Kk [6,34] .skip))) (So Jk (Sq (So Jj (Bk 0 (.loop yI))) (Sq (So Je (Kc 51 (Kk [1,7,51] (So Jd (So gn .ret))) (Kk [51] .skip))) (So Jc (So Jb .ret))))))))))
def F42:FnC:=⟨r42,64,[.tmp 4],[],[]⟩
def Xl:List RI:=[om 7 0,oo 8 (.nchk (.t 7)) [7],oo 9 (Fa 2 8) [8],oo 10 (Ld 9) [9],oo 11 (Bc .neq 10 0) [10]]
def gP:List RI:=[on 4 (.mov (.c (.byt [] .clip)))]
def Xk:List RI:=[om 12 1,oo 13 (Bc .lss 12 0) [12]]
def Xj:List RI:=[omk 14 0,oo 15 (Ca 74 [.t 14,ci 1]) [14,15]]
def Xi:List RI:=[om 17 0,om 18 0,oo 19 (.nchk (.t 18)) [18],oo 20 (Fa 1 19) [19],oo 21 (Ld 20) [20],om 22 1,oo 23 (Ca 75 [.t 17,.t 21,.t 22]) [17,21,22],omk 16 23,on 24 (.ext (.t 16) 0),oo 25 (.ext (.t 16) 1) [16],omk 5 24,omk 6 25]
def Xh:List RI:=[om 26 6,oo 27 (Bc .neq 26 0) [26]]
def Xg:List RI:=[omk 28 0,omk 29 6,oo 30 (Ca 74 [.t 28,.t 29]) [28,29,30]]
def Ja:List RI:=[omk 31 0,on 32 (.nchk (.t 31)),oo 33 (Fa 1 32) [32],oo 34 (Ld 33) [33],omk 35 1,oo 36 (Bb .add 34 35) [34,35],oo 37 (.nchk (.t 31)) [31],oo 38 (Fa 1 37) [37],Sr 1 38 36 [36,38]]
def I9:List RI:=[omk 39 5,oo 40 (.app [.u8 0] 1 (.c (.byt [] .clip)) (.t 39)) [39],omk 4 40]
def r43:RC:=(So ff (Sq (So Xl (Kc 11 (Kk [0,1,11] (So gP .ret)) (Kk [11] .skip))) (Sq (So Xk (Kc 13 (Kk [1,13] (So Xj (So gP .ret))) (Kk [13] .skip))) (So Xi (Sq (So Xh (Kc 27 (Kk [1,5,27] (So Xg (So gP .ret))) (Kk [6,27] .skip))) (So Ja (So I9 .ret)))))))
def F43:FnC:=⟨r43,41,[.tmp 4],[],[]⟩
def kH:List RI:=[oo 2 (Mc 0) [2]]
def Xf:List RI:=[om 3 0,oo 4 (.nchk (.t 3)) [3],oo 5 (Fa 2 4) [4],oo 6 (Ld 5) [5],oo 7 (Bc .eql 6 0) [6],omk 8 7,.grp 8 true [(xi 9 8 true (Mv 0)),(xi 10 8 true (Ca 76 [.t 9])),(xi 11 8 true (Bc .gtr 10 0))] [9,10],oo 12 (Pf 8 11) [8,11]]
def OB:List RI:=[on 2 (Mc 3)]
def OA:List RI:=[omk 13 0,oo 14 (.nchk (.t 13)) [13],oo 15 (Fa 2 14) [14],oo 16 (Ld 15) [15],omk 2 16]
def r44:RC:=(So kH (Sq (So Xf (Kc 12 (Kk [0,12] (So OB .ret)) (Kk [12] .skip))) (So OA .ret)))
def F44:FnC:=⟨r44,17,[.tmp 2],[],[]⟩
def Xe:List RI:=[on 9 (.litB []),omk 10 0,oo 11 (.app [.u8 0] 1 (.t 9) (.t 10)) [9,10],omk 7 11]
def Xd:List RI:=[om 12 1,oo 13 (Bc .lss 12 1) [12],omk 14 13,.grp 14 false [(xi 15 14 false (Mv 1)),(xi 16 14 false (Bc .gtr 15 8))] [15],oo 17 (Pt 14 16) [14,16]]
def Xc:List RI:=[omk 18 7,omk 6 18]
def Xb:List RI:=[omk 19 1,oo 20 (Bc .sub 19 1) [19],omk 8 20]
def Xa:List RI:=[om 21 8,oo 22 (Bc .geq 21 0) [21]]
def W9:List RI:=[omk 25 7,om 26 2,oo 27 (.toInt .u64 (.t 26)) [26],om 28 8,oo 29 (.toInt .u64 (.t 28)) [28],oo 30 (.bin .mul (.c (.int .u64 8)) (.t 29)) [29],oo 31 (Bb .shr 27 30) [27,30],oo 32 (.toInt .u8 (.t 31)) [31],oo 33 (.litB [.t 32]) [32],oo 34 (.app [.u8 0] 1 (.t 25) (.t 33)) [25,33],omk 7 34]
def W8:List RI:=[omk 23 8,oo 24 (Bc .sub 23 1) [23],omk 8 24]
def Pc:RC:=(.post (Sq (So Xa (Kc 22 (Kk [22] .skip) (Kk [2,8,22] (.exit 0)))) (Sq (Bk 1 (.ops W9)) (.ops W8))) [.tok 7 107])
def Oz:RC:=Pc
def W7:List RI:=[omk 35 7,omk 6 35]
def r45:RC:=(So oC (So Xe (Sq (So Xd (Kc 17 (Kk [1,2,17] (So Xc .ret)) (Kk [17] .skip))) (Sq (So Xb (Bk 0 (.pre [.tok 7 107] (.loop Oz)))) (So W7 .ret)))))
def F45:FnC:=⟨r45,36,[.tmp 6],[0],[]⟩
def W6:List RI:=[omk 3 0,oo 4 (.build [.byt [] .clip,.int .i64 0,.int .i64 0] [(0,1,(.t 3))]) [3],oo 5 (.box (.t 4)) [4],omk 2 5]
def r46:RC:=(So OD (So W6 .ret))
def F46:FnC:=⟨r46,6,[.tmp 2],[],[]⟩
def W5:List RI:=[om 7 0,oo 8 (.nchk (.t 7)) [7],oo 9 (Fa 2 8) [8],oo 10 (Ld 9) [9],oo 11 (Bc .eql 10 0) [10],omk 12 11,.grp 12 true [(xi 13 12 true (Mv 1)),(xi 14 12 true (Bc .lss 13 1)),(xi 15 12 true (Mv 14))] [13,14],.grp 15 false [(xi 16 15 false (Mv 1)),(xi 17 15 false (Bc .gtr 16 8))] [16],.grp 12 true [(xi 18 12 true (Pt 15 17))] [15,17],oo 19 (Pf 12 18) [12,18]]
def W4:List RI:=[om 20 0,oo 21 (.nchk (.t 20)) [20],oo 22 (Fa 2 21) [21],.op ⟨none,none,.store 1 (.t 22) (ci 1)⟩ [22]]
def W1:List RI:=[om 23 0,oo 24 (.nchk (.t 23)) [23],oo 25 (Fa 2 24) [24],oo 26 (Ld 25) [25],oo 27 (Bc .neq 26 0) [26],omk 28 27,.grp 28 false [(xi 29 28 false (Mv 0)),(xi 30 28 false (Mv 1)),(xi 31 28 false (Ca 77 [.t 29,.t 30])),(xi 32 28 false (.un .not (.t 31)))] [29,30,31],oo 33 (Pt 28 32) [28,32]]
def W0:List RI:=[on 5 (.mov (.c (.int .u64 0)))]
def WZ:List RI:=[om 34 6,om 35 1,oo 36 (Bb .lss 34 35) [34,35]]
def WY:List FI:=[Fm 0 39 5,Fs 1 40 (.bin .shl (.t 39) (.c (.int .u64 8))),Fm 2 41 0,Fs 3 42 (.nchk (.t 41)),Fs 4 43 (Fa 0 42),Fs 5 44 (Ld 43),Fm 6 45 0,Fs 7 46 (.nchk (.t 45)),Fs 8 47 (Fa 1 46),Fs 9 48 (Ld 47),Fm 10 49 6,Fs 11 50 (Bb .add 48 49),Fs 12 51 (Ia 1 44 50),Fs 13 52 (Ld 51),Fs 14 53 (.toInt .u64 (.t 52)),Fs 15 54 (Bb .or 40 53),⟨16,false,(xm 5 54)⟩]
def WX:List RI:=[omk 37 6,oo 38 (Bc .add 37 1) [37],omk 6 38]
def zL:RC:=(Sq (So WZ (Kc 36 (Kk [36] .skip) (Kk [6,36] (.exit 0)))) (Sq (Bk 1 (.flt [0,1,0,4,12,28,0,64,192,448,0,1984,4092,8188,16380,32767,65535] [] WY [39,40,41,42,43,44,45,46,47,48,49,50,51,52,53,54])) (.ops WX)))
def yH:RC:=zL
def I8:List RI:=[om 55 5,oo 56 (.bin .geq (.t 55) (.c (.int .u64 9223372036854775808))) [55]]
def I7:List RI:=[omk 57 0,oo 58 (.nchk (.t 57)) [57],oo 59 (Fa 2 58) [58],.op ⟨none,none,.store 1 (.t 59) (ci 4)⟩ [59]]
def I6:List RI:=[omk 60 0,on 61 (.nchk (.t 60)),oo 62 (Fa 1 61) [61],oo 63 (Ld 62) [62],omk 64 1,oo 65 (Bb .add 63 64) [63,64],oo 66 (.nchk (.t 60)) [60],oo 67 (Fa 1 66) [66],Sr 1 67 65 [65,67]]
def I5:List RI:=[omk 68 5,oo 69 (.toInt .i64 (.t 68)) [68],omk 4 69]
def r47:RC:=(So qX (Sq (So W5 (Kc 19 (Kk [19] (.ops W4)) (Kk [19] .skip))) (Sq (So W1 (Kc 33 (Kk [0,1,33] (So gn .ret)) (Kk [33] .skip))) (So W0 (Sq (So kI (Bk 0 (.loop yH))) (Sq (So I8 (Kc 56 (Kk [1,5,56] (So I7 (So gn .ret))) (Kk [56] .skip))) (So I6 (So I5 .ret))))))))
def F47:FnC:=⟨r47,70,[.tmp 4],[],[]⟩
def WW:List RI:=[om 5 0,oo 6 (.nchk (.t 5)) [5],oo 7 (Fa 2 6) [6],oo 8 (Ld 7) [7],oo 9 (Bc .eql 8 0) [8],omk 10 9,.grp 10 true [(xi 11 10 true (Mv 1)),(xi 12 10 true (Bc .lss 11 0))] [11],oo 13 (Pf 10 12) [10,12]]
def WV:List RI:=[om 14 0,oo 15 (.nchk (.t 14)) [14],oo 16 (Fa 2 15) [15],.op ⟨none,none,.store 1 (.t 16) (ci 1)⟩ [16]]
def WU:List RI:=[om 17 0,oo 18 (.nchk (.t 17)) [17],oo 19 (Fa 2 18) [18],oo 20 (Ld 19) [19],oo 21 (Bc .neq 20 0) [20],omk 22 21,.grp 22 false [(xi 23 22 false (Mv 0)),(xi 24 22 false (Mv 1)),(xi 25 22 false (Ca 77 [.t 23,.t 24])),(xi 26 22 false (.un .not (.t 25)))] [23,24,25],oo 27 (Pt 22 26) [22,26]]
def WT:List RI:=[om 28 0,on 29 (.nchk (.t 28)),oo 30 (Fa 1 29) [29],oo 31 (Ld 30) [30],om 32 1,oo 33 (Bb .add 31 32) [31,32],oo 34 (.nchk (.t 28)) [28],oo 35 (Fa 1 34) [34],Sr 1 35 33 [33,35]]
def WS:List FI:=[Fs 0 36 (.litB []),Fm 1 37 0,Fs 2 38 (.nchk (.t 37)),Fs 3 39 (Fa 0 38),Fs 4 40 (Ld 39),Fm 5 41 0,Fs 6 42 (.nchk (.t 41)),Fs 7 43 (Fa 1 42),Fs 8 44 (Ld 43),Fm 9 45 1,Fs 10 46 (Bb .sub 44 45),Fm 11 47 0,Fs 12 48 (.nchk (.t 47)),Fs 13 49 (Fa 1 48),Fs 14 50 (Ld 49),Fs 15 51 (.slcL 1 (.t 40) (some (.t 46)) (some (.t 50)) none),Fz 16 52 (.app [.u8 0] 1 (.t 36) (.t 51)),Fm 17 4 52]
def r48:RC:=(So ff (Sq (So WW (Kc 13 (Kk [13] (.ops WV)) (Kk [13] .skip))) (Sq (So WU (Kc 27 (Kk [0,1,27] (So gP .ret)) (Kk [27] .skip))) (So WT (Sq (.flt [0,0,2,6,14,0,32,96,224,0,992,0,2048,6144,14336,32766,65535,131071] [152] WS [0,1,36,37,38,39,40,41,42,43,44,45,46,47,48,49,50,51,52]) .ret)))))
def F48:FnC:=⟨r48,53,[.tmp 4],[],[]⟩
def WR:List RI:=[om 3 0,oo 4 (.nchk (.t 3)) [3],oo 5 (Fa 2 4) [4],oo 6 (Ld 5) [5],oo 7 (Bc .eql 6 0) [6],omk 8 7,.grp 8 true [(xi 9 8 true (Mv 0)),(xi 10 8 true (Ca 78 [.t 9])),(xi 11 8 true (Bc .gtr 10 0))] [9,10],oo 12 (Pf 8 11) [8,11]]
def r49:RC:=(So kH (Sq (So WR (Kc 12 (Kk [0,12] (So OB .ret)) (Kk [12] .skip))) (So OA .ret)))
def F49:FnC:=⟨r49,17,[.tmp 2],[],[]⟩
def WQ:List RI:=[om 5 1,oo 6 (Bc .lss 5 0) [5],omk 7 6,.grp 7 false [(xi 8 7 false (Mv 1)),(xi 9 7 false (Bc .gtr 8 3))] [8],oo 10 (Pt 7 9) [7,9]]
def WP:List RI:=[om 11 1,oo 12 (.toInt .u8 (.t 11)) [11],oo 13 (.litB [.t 12]) [12],omk 14 0,omk 15 1,oo 16 (Ca 80 [.t 14,.t 15]) [14,15],oo 17 (Ca 79 [.t 16]) [16],oo 18 (.app [.u8 0] 1 (.t 13) (.t 17)) [13,17],omk 4 18]
def r50:RC:=(So ff (Sq (So WQ (Kc 10 (Kk [0,1,10] (So gP .ret)) (Kk [10] .skip))) (So WP .ret)))
def F50:FnC:=⟨r50,19,[.tmp 4],[],[]⟩
def WO:List RI:=[oo 4 (.mov (.c .nilp)) [4]]
def WN:List RI:=[omk 9 0,omk 10 1,oo 11 (.slcL 1 (.t 9) none (some (.t 10)) none) [9,10],omk 0 11]
def WM:List RI:=[omk 12 0,oo 13 (.build [.byt [] .clip,.int .i64 0] [(0,1,(.t 12))]) [12],oo 14 (.box (.t 13)) [13],omk 4 14]
def r51:RC:=(So WO (Sq (So OW (Kc 8 (Kk [8] (.ops WN)) (Kk [1,8] .skip))) (So WM .ret)))
def F51:FnC:=⟨r51,15,[.tmp 4],[],[]⟩
def WL:List FI:=[Fm 0 5 0,Fs 1 6 (.nchk (.t 5)),Fs 2 7 (Fa 1 6),Fs 3 8 (Ld 7),Fm 4 9 0,Fs 5 10 (.nchk (.t 9)),Fs 6 11 (Fa 0 10),Fs 7 12 (Ld 11),Fs 8 13 (Ln 12),Fs 9 14 (Bb .geq 8 13)]
def WK:List RI:=[om 15 0,on 16 (.nchk (.t 15)),oo 17 (Fa 1 16) [16],oo 18 (Ld 17) [17],oo 19 (Bc .add 18 1) [18],oo 20 (.nchk (.t 15)) [15],oo 21 (Fa 1 20) [20],Sr 1 21 19 [19,21]]
def WJ:List FI:=[Fm 0 22 0,Fs 1 23 (.nchk (.t 22)),Fs 2 24 (Fa 0 23),Fs 3 25 (Ld 24),Fm 4 26 0,Fs 5 27 (.nchk (.t 26)),Fs 6 28 (Fa 1 27),Fs 7 29 (Ld 28),Fs 8 30 (Bc .sub 29 1),Fs 9 31 (Ia 1 25 30),Fs 10 32 (Ld 31),Fs 11 33 (.toInt .i64 (.t 32)),Fm 12 34 1,Fs 13 35 (Bb .rem 33 34),Fm 14 4 35]
def r52:RC:=(So qX (Sq (Sq (.flt [0,1,3,7,0,16,48,112,240,511] [] WL [5,6,7,8,9,10,11,12,13]) (Kc 14 (Kk [0,1,14] (So gn .ret)) (Kk [14] .skip))) (So WK (Sq (.flt [0,1,3,7,0,16,48,112,240,511,1023,2047,0,8191,16383] [] WJ [0,1,22,23,24,25,26,27,28,29,30,31,32,33,34,35]) .ret))))
def F52:FnC:=⟨r52,36,[.tmp 4],[],[]⟩
def WI:List RI:=[on 8 (Lt 7 1),oo 9 (Ca 81 [.t 8]) [8],oo 10 (Bc .neq 9 0) [9]]
def WH:List RI:=[on 11 (.litB [(.c (.u8 21))]),on 12 (Fa 0 1),oo 13 (Ld 12) [12],oo 14 (.s2b (.t 13)) [13],oo 15 (Ca 82 [.t 11,.t 14]) [11,14],omk 3 15]
def WG:List RI:=[omk 16 3,on 17 (Fa 1 1),oo 18 (Ld 17) [17],oo 19 (Ca 45 [.t 16,ci 4,.t 18]) [16,18],omk 3 19]
def WF:List RI:=[omk 20 3,on 21 (Fa 2 1),oo 22 (Ld 21) [21],oo 23 (Ca 45 [.t 20,ci 4,.t 22]) [20,22],omk 3 23]
def WE:List RI:=[omk 24 3,on 25 (Fa 3 1),oo 26 (Ld 25) [25],oo 27 (Ca 45 [.t 24,ci 6,.t 26]) [24,26],omk 3 27]
def WD:List RI:=[omk 28 3,on 29 (Fa 4 1),oo 30 (Ld 29) [29],oo 31 (Ca 45 [.t 28,ci 6,.t 30]) [28,30],omk 3 31]
def WC:List RI:=[omk 32 3,on 33 (Fa 5 1),oo 34 (Ld 33) [33],oo 35 (Ln 34) [34],oo 36 (.toInt .u8 (.t 35)) [35],oo 37 (.litB [.t 36]) [36],oo 38 (.app [.u8 0] 1 (.t 32) (.t 37)) [32,37],omk 3 38]
def I4:List RI:=[om 39 4,on 40 (Fa 5 1),oo 41 (Ld 40) [40],oo 42 (Ln 41) [41],oo 43 (Bb .lss 39 42) [39,42]]
def I3:List RI:=[on 46 (Fa 5 1),oo 47 (Ld 46) [46],om 48 4,oo 49 (Ia 4 47 48) [47,48],oo 50 (Lt 4 49) [49],on 5 (.new (.rc Zq2)),Sr 4 5 50 [50]]
def I2:List FI:=[Fm 0 51 3,Fs 1 52 (Fa 0 5),Fs 2 53 (Ld 52),Fs 3 54 (.toInt .u8 (.t 53)),Fs 4 55 (.litB [.t 54]),Fs 6 57 (Fa 1 5),Fs 7 58 (Ld 57),Fs 8 59 (.s2b (.t 58)),Fz 5 56 (.app [.u8 0] 1 (.t 51) (.t 55)),Fz 9 60 (Ca 82 [.t 56,.t 59]),⟨10,false,(xm 3 60)⟩]
def I1:List FI:=[Fm 0 61 3,Fs 1 62 (Fa 2 5),Fs 2 63 (Ld 62),Fs 4 65 (Fa 3 5),Fs 5 66 (Ld 65),Fz 3 64 (Ca 45 [.t 61,ci 4,.t 63]),Fz 6 67 (.app [.u8 0] 1 (.t 64) (.t 66)),⟨7,false,(xm 3 67)⟩]
def I0:List RI:=[omk 44 4,oo 45 (Bc .add 44 1) [44],omk 4 45]
def zK:RC:=(.post (Sq (So I4 (Kc 43 (Kk [43] .skip) (Kk [4,43] (.exit 0)))) (Sq (Bk 1 (So I3 (Sq (.flt [0,0,2,6,14,31,0,64,192,511,1023] [156] I2 [51,52,53,54,55,56,57,58,59,60]) (.flt [0,0,2,7,0,16,63,127] [167] I1 [5,61,62,63,64,65,66,67])))) (.ops I0))) [.gc [105,156],.gcr 65000 66000,.tok 3 103])
def qk:RC:=zK
def IZ:List RI:=[omk 68 3,on 69 (Fa 6 1),oo 70 (Ld 69) [69],oo 71 (Ln 70) [70],oo 72 (.toInt .u8 (.t 71)) [71],oo 73 (.litB [.t 72]) [72],oo 74 (.app [.u8 0] 1 (.t 68) (.t 73)) [68,73],omk 3 74]
def IY:List RI:=[om 75 6,on 76 (Fa 6 1),oo 77 (Ld 76) [76],oo 78 (Ln 77) [77],oo 79 (Bb .lss 75 78) [75,78]]
def IX:List RI:=[on 82 (Fa 6 1),oo 83 (Ld 82) [82],om 84 6,oo 85 (Ia 4 83 84) [83,84],oo 86 (Lt 4 85) [85],on 7 (.new (.rc Zq3)),Sr 4 7 86 [86]]
def IW:List FI:=[Fm 0 87 3,Fs 1 88 (Fa 0 7),Fs 2 89 (Ld 88),Fs 3 90 (.toInt .u8 (.t 89)),Fs 4 91 (.litB [.t 90]),Fs 6 93 (Fa 1 7),Fs 7 94 (Ld 93),Fs 8 95 (.s2b (.t 94)),Fz 5 92 (.app [.u8 0] 1 (.t 87) (.t 91)),Fz 9 96 (Ca 82 [.t 92,.t 95]),⟨10,false,(xm 3 96)⟩]
def IV:List FI:=[Fm 0 97 3,Fs 1 98 (Fa 2 7),Fs 2 99 (Ld 98),Fs 4 101 (Fa 3 7),Fs 5 102 (Ld 101),Fz 3 100 (Ca 45 [.t 97,ci 4,.t 99]),Fz 6 103 (Ca 45 [.t 100,ci 4,.t 102]),⟨7,false,(xm 3 103)⟩]
def IU:List RI:=[omk 80 6,oo 81 (Bc .add 80 1) [80],omk 6 81]
def zJ:RC:=(.post (Sq (So IY (Kc 79 (Kk [79] .skip) (Kk [1,6,79] (.exit 2)))) (Sq (Bk 3 (So IX (Sq (.flt [0,0,2,6,14,31,0,64,192,511,1023] [192] IW [87,88,89,90,91,92,93,94,95,96]) (.flt [0,0,2,7,0,16,63,127] [] IV [7,97,98,99,100,101,102,103])))) (.ops IU))) [.gc [107,192],.gcr 101000 102000,.tok 3 103])
def qj:RC:=zJ
def IT:List RI:=[omk 104 3,omk 2 104]
def r53:RC:=(So xu (Sq (So WI (Kc 10 (Kk [1,10] (So ul .ret)) (Kk [10] .skip))) (So WH (So WG (So WF (So WE (So WD (So WC (Sq (So gn (Bk 0 (.pre [.tok 3 103] (.loop qk)))) (So IZ (Sq (So kI (Bk 2 (.pre [.tok 3 103] (.loop qj)))) (So IT .ret))))))))))))
def F53:FnC:=⟨r53,105,[.tmp 2],[],[]⟩
def WB:List RI:=[on 4 (.new (.rc Zq1))]
def WA:List RI:=[om 8 0,oo 9 (Ca 52 [.t 8,ci 4]) [8],omk 5 9]
def Wz:List RI:=[on 10 (Ca 84 []),om 11 0,oo 12 (Ca 52 [.t 11,ci 3]) [11],oo 13 (.idxA 3 1 false (.t 10) (.t 12)) [10,12],om 14 5,omk 15 1,oo 16 (Ca 83 [.t 13,.t 14,.t 15]) [13,14,15],on 6 (.new (.rc Zq1)),Sr 7 6 16 [16]]
def Wy:List RI:=[om 17 0,oo 18 (Ca 52 [.t 17,ci 3]) [17],oo 19 (Bc .eql 18 1) [18]]
def Wx:List FI:=[Fs 0 20 (Fa 5 6),Fs 1 21 (Ld 20),Fm 2 22 0,Fs 3 23 (Fa 5 6),Fs 4 24 (Ld 23),Fs 5 25 (Ln 24),Fs 6 26 (Bc .add 25 1),Fz 7 27 (Ca 52 [.t 22,.t 26]),Fs 8 28 (.slcL 4 (.t 21) none (some (.t 27)) none),Fs 9 29 (Fa 5 6),Fr 10 1 29 28]
def Ww:List RI:=[om 30 0,omk 31 5,oo 32 (Bc .add 31 1) [31],oo 33 (Ca 52 [.t 30,.t 32]) [30,32],on 34 (Fa 2 6),Sr 1 34 33 [33,34]]
def Wv:List RI:=[om 35 0,oo 36 (Ca 52 [.t 35,ci 12]) [35],on 37 (Fa 3 6),Sr 1 37 36 [36,37]]
def Wu:List FI:=[Fs 0 38 (Fa 3 6),Fs 1 39 (Ld 38),Fs 2 40 (Bc .add 39 1),Fm 3 41 0,Fz 4 42 (Ca 52 [.t 41,ci 30]),Fs 5 43 (Bb .add 40 42),Fs 6 44 (Fa 4 6),Fr 7 1 44 43]
def Wt:List RI:=[om 45 0,oo 46 (Ca 52 [.t 45,ci 2]) [45],oo 47 (Bc .eql 46 0) [46]]
def Ws:List RI:=[on 48 (Fa 4 6),.op ⟨none,none,.store 1 (.t 48) (ci 1099511627776)⟩ [48]]
def IS:List RI:=[om 49 0,oo 50 (Ca 52 [.t 49,ci 4]) [49],omk 7 50]
def IR:List RI:=[om 51 7,oo 52 (Bc .gtr 51 0) [51]]
def IQ:List FI:=[Fs 0 55 (Fa 6 6),Fs 1 56 (Ld 55),Fm 2 57 0,Fz 3 58 (Ca 85 [.t 57]),Fs 4 59 (.lit 4 [.t 58]),Fz 5 60 (.app Zq3 40 (.t 56) (.t 59)),Fs 6 61 (Fa 6 6),Fr 7 1 61 60]
def IP:List RI:=[omk 53 7,oo 54 (Bc .sub 53 1) [53],omk 7 54]
def zI:RC:=(Sq (So IR (Kc 52 (Kk [52] .skip) (Kk [0,7,52] (.exit 0)))) (Sq (Bk 1 (.flt [0,1,0,4,12,31,63,127] [160] IQ [55,56,57,58,59,60,61])) (.ops IP)))
def yG:RC:=zI
def IN:List RI:=[oo 62 (Lt 7 6) [6],Sr 7 4 62 [62]]
def r54:RC:=(So WB (So WA (So Wz (Sq (So Wy (Kc 19 (Kk [19] (.flt [0,1,0,0,8,24,56,124,255,511,1023] [] Wx [20,21,22,23,24,25,26,27,28,29])) (Kk [19] .skip))) (So Ww (So Wv (Sq (.flt [0,1,3,0,8,31,63,127] [] Wu [38,39,40,41,42,43,44]) (Sq (So Wt (Kc 47 (Kk [47] (.ops Ws)) (Kk [47] .skip))) (Sq (So IS (Bk 0 (.loop yG))) (So IN .ret))))))))))
def F54:FnC:=⟨r54,63,[.cell 4 7 true],[],[]⟩
def nA:List RI:=[oo 8 (.mov (.c (.byt [] .clip))) [8]]
def Wr:List RI:=[om 12 1,oo 13 (Ca 86 [.t 12]) [12],oo 14 (.un .not (.t 13)) [13],omk 15 14,.grp 15 false [(xi 16 15 false (Mv 2)),(xi 17 15 false (Bc .lss 16 0))] [16],oo 18 (Pt 15 17) [15,17],omk 19 18,.grp 19 false [(xi 20 19 false (Mv 2)),(xi 21 19 false (Mv 1)),(xi 22 19 false (.toInt .u64 (.t 21))),(xi 23 19 false (.bin .shl (ci 1) (.t 22))),(xi 24 19 false (Bb .geq 20 23))] [20,21,22,23],oo 25 (Pt 19 24) [19,24]]
def uf:List RI:=[on 8 (.mov (.c (.byt [] .clip)))]
def Wq:List RI:=[om 26 2,oo 27 (.toInt .u8 (.t 26)) [26],oo 28 (.litB [.t 27]) [27],om 29 0,om 30 1,oo 31 (Ca 88 [.t 29,.t 30]) [29,30],om 32 2,omk 33 3,oo 34 (Ca 87 [.t 31,.t 32,.t 33]) [31,32,33],oo 35 (.app [.u8 0] 1 (.t 28) (.t 34)) [28,34],omk 9 35]
def Wp:List RI:=[omk 36 2,omk 37 0,omk 38 1,oo 39 (Ca 90 [.t 37,.t 38]) [37,38],oo 40 (Ca 89 [.t 36,.t 39]) [36,39],on 41 (Ln 40),on 42 (Mc 0)]
def Wo:List RI:=[on 43 (Bb .lss 42 41)]
def Wn:List RI:=[on 44 (Ia 1 40 42),oo 45 (Ld 44) [44],omk 11 45]
def Wm:List RI:=[omk 46 9,omk 47 11,oo 48 (.app [.u8 0] 1 (.t 46) (.t 47)) [46,47],omk 9 48]
def Wk:List RI:=[oo 49 (Bc .add 42 1) [42],omk 42 49]
def Pb:RC:=(.post (So Wo (Sq (Kc 43 (Kk [43] .skip) (Kk [40,41,42,43] (.exit 0))) (Sq (Bk 1 (So Wn (.ops Wm))) (.ops Wk)))) [.tok 9 109])
def Wj:RC:=Pb
def IM:List RI:=[omk 50 9,omk 8 50]
def r55:RC:=(So nA (Sq (So Wr (Kc 25 (Kk [0,1,2,3,25] (So uf .ret)) (Kk [25] .skip))) (So Wq (Sq (So Wp (Bk 0 (.pre [.tok 9 109] (.loop Wj)))) (So IM .ret)))))
def F55:FnC:=⟨r55,51,[.tmp 8],[],[]⟩
def Wi:List RI:=[oo 2 (.mov (.c (.lst 2 [] .clip))) [2]]
def Wh:List RI:=[om 3 0,om 4 0,oo 5 (Ln 4) [4],omk 6 0,oo 7 (Ln 6) [6],oo 8 (.slcL 2 (.t 3) none (some (.t 5)) (some (.t 7))) [3,5,7],omk 2 8]
def r56:RC:=(So Wi (So Wh .ret))
def F56:FnC:=⟨r56,9,[.tmp 2],[0],[]⟩
def Wg:List RI:=[om 12 1,oo 13 (Bc .lss 12 0) [12],omk 14 13,.grp 14 false [(xi 15 14 false (Mv 1)),(xi 16 14 false (Bc .gtr 15 3))] [15],oo 17 (Pt 14 16) [14,16],omk 18 17,.grp 18 false [(xi 19 18 false (Mv 2)),(xi 20 18 false (Bc .lss 19 0))] [19],oo 21 (Pt 18 20) [18,20],omk 22 21,.grp 22 false [(xi 23 22 false (Mv 2)),(xi 24 22 false (Mv 1)),(xi 25 22 false (.toInt .u64 (.t 24))),(xi 26 22 false (.bin .shl (ci 1) (.t 25))),(xi 27 22 false (Bb .geq 23 26))] [23,24,25,26],oo 28 (Pt 22 27) [22,27]]
def Wf:List RI:=[om 29 2,oo 30 (.toInt .u8 (.t 29)) [29],oo 31 (.litB [.t 30]) [30],om 32 0,om 33 1,oo 34 (Ca 92 [.t 32,.t 33]) [32,33],om 35 2,omk 36 3,oo 37 (Ca 91 [.t 34,.t 35,.t 36]) [34,35,36],oo 38 (.app [.u8 0] 1 (.t 31) (.t 37)) [31,37],omk 9 38]
def We:List RI:=[omk 39 2,omk 40 0,omk 41 1,oo 42 (Ca 80 [.t 40,.t 41]) [40,41],oo 43 (Ca 93 [.t 39,.t 42]) [39,42],omk 10 43]
def DR:List RI:=[on 11 (Mc 0)]
def Wc:List RI:=[om 44 11,om 45 10,oo 46 (Ln 45) [45],oo 47 (Bb .lss 44 46) [44,46]]
def Wb:List RI:=[omk 50 9,om 51 10,om 52 11,oo 53 (Ia 1 51 52) [51,52],oo 54 (Ld 53) [53],oo 55 (.app [.u8 0] 1 (.t 50) (.t 54)) [50,54],omk 9 55]
def Wa:List RI:=[omk 48 11,oo 49 (Bc .add 48 1) [48],omk 11 49]
def Pa:RC:=(.post (Sq (So Wc (Kc 47 (Kk [47] .skip) (Kk [10,11,47] (.exit 0)))) (Sq (Bk 1 (.ops Wb)) (.ops Wa))) [.tok 9 109])
def V9:RC:=Pa
def IL:List RI:=[omk 56 9,omk 8 56]
def r57:RC:=(So nA (Sq (So Wg (Kc 28 (Kk [0,1,2,3,28] (So uf .ret)) (Kk [28] .skip))) (So Wf (So We (Sq (So DR (Bk 0 (.pre [.tok 9 109] (.loop V9)))) (So IL .ret))))))
def F57:FnC:=⟨r57,57,[.tmp 8],[],[]⟩
def Oy:List RI:=[oo 6 (Mc 0) [6],oo 7 (Mb false) [7]]
def V8:List RI:=[om 12 0,oo 13 (Ln 12) [12],oo 14 (Bc .neq 13 17) [13],omk 15 14,.grp 15 false [(xi 16 15 false (Mv 0)),(xi 17 15 false (.iaddrL 1 (.t 16) (ci 0))),(xi 18 15 false (Ld 17)),(xi 19 15 false (.toInt .i64 (.t 18))),(xi 20 15 false (Ca 86 [.t 19])),(xi 21 15 false (.un .not (.t 20)))] [16,17,18,19,20],oo 22 (Pt 15 21) [15,21]]
def oB:List RI:=[on 6 (Mc 0),on 7 (Mb false)]
def V7:List RI:=[om 23 0,oo 24 (.iaddrL 1 (.t 23) (ci 0)) [23],oo 25 (Ld 24) [24],oo 26 (.toInt .i64 (.t 25)) [25],omk 8 26]
def V6:List RI:=[om 27 2,oo 28 (Ln 27) [27],om 29 8,oo 30 (.bin .mul (ci 16) (.t 29)) [29],oo 31 (.bin .add (ci 561) (.t 30)) [30],oo 32 (Bb .neq 28 31) [28,31],omk 33 32,.grp 33 false [(xi 34 33 false (Mv 2)),(xi 35 33 false (.iaddrL 1 (.t 34) (ci 0))),(xi 36 33 false (Ld 35)),(xi 37 33 false (.toInt .i64 (.t 36))),(xi 38 33 false (Mv 8)),(xi 39 33 false (.toInt .u64 (.t 38))),(xi 40 33 false (.bin .shl (ci 1) (.t 39))),(xi 41 33 false (Bb .geq 37 40))] [8,34,35,36,37,38,39,40],oo 42 (Pt 33 41) [33,41]]
def V5:List RI:=[om 43 2,oo 44 (.iaddrL 1 (.t 43) (ci 0)) [43],oo 45 (Ld 44) [44],oo 46 (.toInt .i64 (.t 45)) [45],omk 6 46]
def V4:List RI:=[om 48 6,omk 49 1,om 50 2,oo 51 (.slcL 1 (.t 50) (some (ci 1)) (some (ci 561)) (some (ci 561))) [50],oo 52 (Ca 94 [.t 48,.t 49,.t 51]) [48,49,51],omk 47 52,on 53 (.ext (.t 47) 0),oo 54 (.ext (.t 47) 1) [47],omk 9 53,omk 7 54]
def V3:List RI:=[omk 55 7,oo 56 (.un .not (.t 55)) [55]]
def IK:List RI:=[on 10 (.mov (.c (.lst 1 [] .clip)))]
def IJ:List RI:=[omk 57 2,oo 58 (.slcL 1 (.t 57) (some (ci 561)) none none) [57],omk 11 58]
def II:List RI:=[om 59 11,oo 60 (Ln 59) [59],oo 61 (Bc .gtr 60 0) [60]]
def IH:List RI:=[omk 64 10,om 65 11,oo 66 (.slcL 1 (.t 65) none (some (ci 16)) (some (ci 16))) [65],oo 67 (.lit 1 [.t 66]) [66],oo 68 (.app [.byt [] .clip] 24 (.t 64) (.t 67)) [64,67],omk 10 68]
def IG:List RI:=[omk 62 11,oo 63 (.slcL 1 (.t 62) (some (ci 16)) none none) [62],omk 11 63]
def zH:RC:=(.post (Sq (So II (Kc 61 (Kk [61] .skip) (Kk [11,61] (.exit 0)))) (Sq (Bk 1 (.ops IH)) (.ops IG))) [.tok 10 110])
def yF:RC:=zH
def IF:List FI:=[Fm 0 69 9,Fm 1 70 6,Fm 2 71 10,Fm 5 74 0,Fs 6 75 (.slcL 1 (.t 74) (some (ci 1)) none none),Fs 7 76 (.b2s (.t 75)),Fz 3 72 (Ca 95 [.t 69,.t 70,.t 71]),Fs 4 73 (.b2s (.t 72)),Fs 8 77 (Bb .neq 73 76)]
def IE:List RI:=[omk 78 6,omk 6 78,on 7 (Mb true)]
def r58:RC:=(So Oy (Sq (So V8 (Kc 22 (Kk [0,1,2,22] (So oB .ret)) (Kk [22] .skip))) (So V7 (Sq (So V6 (Kc 42 (Kk [0,1,2,42] (So oB .ret)) (Kk [42] .skip))) (So V5 (So V4 (Sq (So V3 (Kc 56 (Kk [0,2,6,9,56] (So oB .ret)) (Kk [56] .skip))) (So IK (Sq (So IJ (Bk 0 (.pre [.tok 10 110] (.loop yF)))) (Sq (Sq (.flt [0,0,0,7,15,0,32,96,255] [] IF [0,9,10,69,70,71,72,73,74,75,76]) (Kc 77 (Kk [6,77] (So oB .ret)) (Kk [77] .skip))) (So IE .ret)))))))))))
def F58:FnC:=⟨r58,79,[.tmp 6,.tmp 7],[],[]⟩
def V2:List RI:=[oo 3 (.box (.t 0)) [0],oo 5 (.box (.t 2)) [2],oo 6 (Mb false) [6]]
def xo:List RI:=[on 7 (Mc 0)]
def V1:List RI:=[om 10 7,on 11 (Fa 0 3),oo 12 (Ld 11) [11],oo 13 (Ln 12) [12],oo 14 (Bb .lss 10 13) [10,13]]
def V0:List FI:=[Fs 0 17 (Fa 0 3),Fs 1 18 (Ld 17),Fm 2 19 7,Fs 3 20 (Ia 2 18 19),Fs 4 21 (Fa 0 20),Fs 5 22 (Ld 21),Fs 6 23 (Fa 0 5),Fs 7 24 (Ld 23),Fs 8 25 (Bb .neq 22 24)]
def VZ:List FI:=[Fs 0 27 (Fa 0 3),Fs 1 28 (Ld 27),Fm 2 29 7,Fs 3 30 (Ia 2 28 29),Fs 4 31 (Fa 1 30),Fs 5 32 (Ld 31),Fm 6 33 1,Fs 7 34 (Fa 1 5),Fs 8 35 (Ld 34),Fz 9 36 (Ca 98 [.t 32,.t 33,.t 35]),Fm 10 26 36,Fs 11 37 (.ext (.t 26) 0),Fs 12 38 (.ext (.t 26) 1),Fm 13 8 37,Fm 14 9 38]
def VY:List RI:=[omk 39 9]
def VX:List RI:=[on 6 (Mb true)]
def VW:List RI:=[omk 15 7,oo 16 (Bc .add 15 1) [15],omk 7 16]
def O9:RC:=(Sq (So V1 (Kc 14 (Kk [14] .skip) (Kk [1,3,5,7,14] (.exit 0)))) (Sq (Bk 1 (Sq (Sq (.flt [0,1,0,7,15,31,0,64,255] [] V0 [17,18,19,20,21,22,23,24]) (Kc 25 (Kk [25] (.exit 1)) (Kk [25] .skip))) (Sq (.flt [0,1,0,7,15,31,0,0,128,511,1023,2047,2047,4095,16383] [] VZ [8,26,27,28,29,30,31,32,33,34,35,36,37,38]) (So VY (Kc 39 (Kk [1,3,5,7,39] (So VX .ret)) (Kk [39] .skip)))))) (.ops VW)))
def Ox:RC:=O9
def VV:List RI:=[on 6 (Mb false)]
def r60:RC:=(So V2 (Sq (So xo (Bk 0 (.loop Ox))) (So VV .ret)))
def F60:FnC:=⟨r60,40,[.tmp 6],[],[]⟩
def Ow:List RI:=[on 2 (.new (.rc Zq1)),oo 3 (Mc 0) [3]]
def VU:List RI:=[omk 10 0,oo 11 (Ca 41 [.t 10]) [10],omk 4 11]
def Ov:List RI:=[on 5 (.new (.rc Zq1))]
def VT:List RI:=[om 12 4,oo 13 (Ca 42 [.t 12,ci 1]) [12],oo 14 (Bc .neq 13 21) [13]]
def VS:List RI:=[on 15 (.build Zq1 []),Sr 7 2 15 [15],on 3 (Mc 30)]
def VR:List RI:=[om 16 4,oo 17 (Ca 99 [.t 16,ci 12]) [16],oo 18 (.b2s (.t 17)) [17],on 19 (Fa 0 5),Sr 1 19 18 [18,19]]
def VQ:List RI:=[om 20 4,oo 21 (Ca 42 [.t 20,ci 4]) [20],on 22 (Fa 1 5),Sr 1 22 21 [21,22]]
def VP:List RI:=[om 23 4,oo 24 (Ca 42 [.t 23,ci 4]) [23],on 25 (Fa 2 5),Sr 1 25 24 [24,25]]
def VO:List RI:=[om 26 4,oo 27 (Ca 42 [.t 26,ci 6]) [26],on 28 (Fa 3 5),Sr 1 28 27 [27,28]]
def VN:List RI:=[om 29 4,oo 30 (Ca 42 [.t 29,ci 6]) [29],on 31 (Fa 4 5),Sr 1 31 30 [30,31]]
def ID:List RI:=[om 32 4,oo 33 (Ca 42 [.t 32,ci 1]) [32],omk 6 33]
def IC:List RI:=[om 34 6,oo 35 (Bc .gtr 34 0) [34],omk 36 35,.grp 36 true [(xi 37 36 true (Mv 4)),(xi 38 36 true (Ca 100 [.t 37])),(xi 39 36 true (Bc .eql 38 0))] [37,38],oo 40 (Pf 36 39) [36,39]]
def IB:List RI:=[on 7 (.new (.rc Zq2))]
def IA:List RI:=[om 43 4,oo 44 (Ca 42 [.t 43,ci 1]) [43],on 45 (Fa 0 7),Sr 1 45 44 [44,45]]
def Iz:List RI:=[om 46 4,oo 47 (Ca 99 [.t 46,ci 12]) [46],oo 48 (.b2s (.t 47)) [47],on 49 (Fa 1 7),Sr 1 49 48 [48,49]]
def Iy:List RI:=[om 50 4,oo 51 (Ca 42 [.t 50,ci 4]) [50],on 52 (Fa 2 7),Sr 1 52 51 [51,52]]
def Ix:List RI:=[om 53 4,oo 54 (Ca 43 [.t 53,ci 32]) [53],on 55 (Fa 3 7),Sr 1 55 54 [54,55]]
def Iw:List RI:=[on 56 (Fa 5 5),oo 57 (Ld 56) [56],oo 58 (Lt 4 7) [7],oo 59 (.lit 4 [.t 58]) [58],oo 60 (.app Zq2 56 (.t 57) (.t 59)) [57,59],on 61 (Fa 5 5),Sr 1 61 60 [60,61]]
def Iv:List RI:=[omk 41 6,oo 42 (Bc .sub 41 1) [41],omk 6 42]
def zG:RC:=(.post (Sq (So IC (Kc 40 (Kk [40] .skip) (Kk [6,40] (.exit 0)))) (Sq (Bk 1 (So IB (So IA (So Iz (So Iy (So Ix (.ops Iw))))))) (.ops Iv))) [.gc [107]])
def yE:RC:=zG
def qh:List RI:=[om 62 4,oo 63 (Ca 42 [.t 62,ci 1]) [62],omk 8 63]
def Iu:List RI:=[om 64 8,oo 65 (Bc .gtr 64 0) [64],omk 66 65,.grp 66 true [(xi 67 66 true (Mv 4)),(xi 68 66 true (Ca 100 [.t 67])),(xi 69 66 true (Bc .eql 68 0))] [67,68],oo 70 (Pf 66 69) [66,69]]
def It:List RI:=[on 9 (.new (.rc Zq3))]
def Is:List RI:=[om 73 4,oo 74 (Ca 42 [.t 73,ci 1]) [73],on 75 (Fa 0 9),Sr 1 75 74 [74,75]]
def Ir:List RI:=[om 76 4,oo 77 (Ca 99 [.t 76,ci 32]) [76],oo 78 (.b2s (.t 77)) [77],on 79 (Fa 1 9),Sr 1 79 78 [78,79]]
def Iq:List RI:=[om 80 4,oo 81 (Ca 42 [.t 80,ci 4]) [80],on 82 (Fa 2 9),Sr 1 82 81 [81,82]]
def Ip:List RI:=[om 83 4,oo 84 (Ca 42 [.t 83,ci 4]) [83],on 85 (Fa 3 9),Sr 1 85 84 [84,85]]
def Io:List RI:=[on 86 (Fa 6 5),oo 87 (Ld 86) [86],oo 88 (Lt 4 9) [9],oo 89 (.lit 4 [.t 88]) [88],oo 90 (.app Zq3 40 (.t 87) (.t 89)) [87,89],on 91 (Fa 6 5),Sr 1 91 90 [90,91]]
def In:List RI:=[omk 71 8,oo 72 (Bc .sub 71 1) [71],omk 8 72]
def zF:RC:=(.post (Sq (So Iu (Kc 70 (Kk [70] .skip) (Kk [8,70] (.exit 2)))) (Sq (Bk 3 (So It (So Is (So Ir (So Iq (So Ip (.ops Io))))))) (.ops In))) [.gc [109]])
def yD:RC:=zF
def qf:List RI:=[omk 92 4,oo 93 (Ca 44 [.t 92]) [92],oo 94 (Bc .neq 93 0) [93],omk 95 94,.grp 95 false [(xi 96 95 false (Lt 7 5)),(xi 97 95 false (Ca 71 [.t 96])),(xi 98 95 false (Bc .neq 97 0))] [96,97],oo 99 (Pt 95 98) [95,98]]
def Im:List RI:=[on 100 (.build Zq1 []),Sr 7 2 100 [100],on 3 (Mc 30)]
def Il:List RI:=[oo 101 (Lt 7 5) [5],Sr 7 2 101 [101],on 3 (Mc 0)]
def r61:RC:=(So Ow (So VU (So Ov (Sq (So VT (Kc 14 (Kk [4,5,14] (So VS .ret)) (Kk [14] .skip))) (So VR (So VQ (So VP (So VO (So VN (Sq (So ID (Bk 0 (.loop yE))) (Sq (So qh (Bk 2 (.loop yD))) (Sq (So qf (Kc 99 (Kk [5,99] (So Im .ret)) (Kk [99] .skip))) (So Il .ret)))))))))))))
def F61:FnC:=⟨r61,102,[.cell 2 7 true,.tmp 3],[],[]⟩
def VM:List RI:=[omk 13 0,oo 14 (Ca 46 [.t 13]) [13],omk 4 14]
def VL:List RI:=[om 15 4,oo 16 (Ca 47 [.t 15,ci 1]) [15],omk 6 16]
def VK:List RI:=[om 17 4,oo 18 (Ca 101 [.t 17,ci 12]) [17],oo 19 (.b2s (.t 18)) [18],on 20 (Fa 0 5),Sr 1 20 19 [19,20]]
def VJ:List RI:=[om 21 4,oo 22 (Ca 47 [.t 21,ci 4]) [21],on 23 (Fa 1 5),Sr 1 23 22 [22,23]]
def VI:List RI:=[om 24 4,oo 25 (Ca 47 [.t 24,ci 4]) [24],on 26 (Fa 2 5),Sr 1 26 25 [25,26]]
def VH:List RI:=[om 27 4,oo 28 (Ca 47 [.t 27,ci 6]) [27],on 29 (Fa 3 5),Sr 1 29 28 [28,29]]
def VG:List RI:=[om 30 4,oo 31 (Ca 47 [.t 30,ci 6]) [30],on 32 (Fa 4 5),Sr 1 32 31 [31,32]]
def VF:List RI:=[om 33 4,oo 34 (Ca 47 [.t 33,ci 1]) [33],omk 7 34]
def Ik:List RI:=[om 35 8,om 36 7,oo 37 (Bb .lss 35 36) [35,36],omk 38 37,.grp 38 true [(xi 39 38 true (Mv 8)),(xi 40 38 true (Bc .leq 39 16))] [39],oo 41 (Pf 38 40) [38,40]]
def Ij:List RI:=[on 9 (.new (.rc Zq2))]
def Ii:List RI:=[om 44 4,oo 45 (Ca 47 [.t 44,ci 1]) [44],on 46 (Fa 0 9),Sr 1 46 45 [45,46]]
def Ih:List RI:=[om 47 4,oo 48 (Ca 101 [.t 47,ci 12]) [47],oo 49 (.b2s (.t 48)) [48],on 50 (Fa 1 9),Sr 1 50 49 [49,50]]
def Ig:List RI:=[om 51 4,oo 52 (Ca 47 [.t 51,ci 4]) [51],on 53 (Fa 2 9),Sr 1 53 52 [52,53]]
def If:List RI:=[om 54 4,oo 55 (Ca 48 [.t 54,ci 32]) [54],on 56 (Fa 3 9),Sr 1 56 55 [55,56]]
def Ie:List RI:=[on 57 (Fa 5 5),oo 58 (Ld 57) [57],oo 59 (Lt 4 9) [9],oo 60 (.lit 4 [.t 59]) [59],oo 61 (.app Zq2 56 (.t 58) (.t 60)) [58,60],on 62 (Fa 5 5),Sr 1 62 61 [61,62]]
def Ic:List RI:=[omk 42 8,oo 43 (Bc .add 42 1) [42],omk 8 43]
def zE:RC:=(.post (Sq (So Ik (Kc 41 (Kk [41] .skip) (Kk [7,8,41] (.exit 0)))) (Sq (Bk 1 (So Ij (So Ii (So Ih (So Ig (So If (.ops Ie))))))) (.ops Ic))) [.gc [109]])
def yC:RC:=zE
def qe:List RI:=[om 63 4,oo 64 (Ca 47 [.t 63,ci 1]) [63],omk 10 64]
def Ib:List RI:=[om 65 11,om 66 10,oo 67 (Bb .lss 65 66) [65,66],omk 68 67,.grp 68 true [(xi 69 68 true (Mv 11)),(xi 70 68 true (Bc .leq 69 8))] [69],oo 71 (Pf 68 70) [68,70]]
def H9:List RI:=[on 12 (.new (.rc Zq3))]
def H8:List RI:=[om 74 4,oo 75 (Ca 47 [.t 74,ci 1]) [74],on 76 (Fa 0 12),Sr 1 76 75 [75,76]]
def H7:List RI:=[om 77 4,oo 78 (Ca 101 [.t 77,ci 32]) [77],oo 79 (.b2s (.t 78)) [78],on 80 (Fa 1 12),Sr 1 80 79 [79,80]]
def H6:List RI:=[om 81 4,oo 82 (Ca 47 [.t 81,ci 4]) [81],on 83 (Fa 2 12),Sr 1 83 82 [82,83]]
def H5:List RI:=[om 84 4,oo 85 (Ca 47 [.t 84,ci 4]) [84],on 86 (Fa 3 12),Sr 1 86 85 [85,86]]
def H4:List RI:=[on 87 (Fa 6 5),oo 88 (Ld 87) [87],oo 89 (Lt 4 12) [12],oo 90 (.lit 4 [.t 89]) [89],oo 91 (.app Zq3 40 (.t 88) (.t 90)) [88,90],on 92 (Fa 6 5),Sr 1 92 91 [91,92]]
def H3:List RI:=[omk 72 11,oo 73 (Bc .add 72 1) [72],omk 11 73]
def zD:RC:=(.post (Sq (So Ib (Kc 71 (Kk [71] .skip) (Kk [10,11,71] (.exit 2)))) (Sq (Bk 3 (So H9 (So H8 (So H7 (So H6 (So H5 (.ops H4))))))) (.ops H3))) [.gc [112]])
def yB:RC:=zD
def qd:List RI:=[omk 93 6,oo 94 (Bc .neq 93 21) [93],omk 95 94,.grp 95 false [(xi 96 95 false (Mv 4)),(xi 97 95 false (Ca 49 [.t 96])),(xi 98 95 false (Bc .neq 97 0))] [4,96,97],oo 99 (Pt 95 98) [95,98],omk 100 99,.grp 100 false [(xi 101 100 false (Lt 7 5)),(xi 102 100 false (Ca 81 [.t 101])),(xi 103 100 false (Bc .neq 102 0))] [101,102],oo 104 (Pt 100 103) [100,103]]
def H2:List RI:=[on 105 (.build Zq1 []),Sr 7 2 105 [105],on 3 (Mc 30)]
def H1:List RI:=[oo 106 (Lt 7 5) [5],Sr 7 2 106 [106],on 3 (Mc 0)]
def r62:RC:=(So Ow (So VM (So Ov (So VL (So VK (So VJ (So VI (So VH (So VG (So VF (Sq (So ug (Bk 0 (.loop yC))) (So qe (Sq (So DR (Bk 2 (.loop yB))) (Sq (So qd (Kc 104 (Kk [5,104] (So H2 .ret)) (Kk [104] .skip))) (So H1 .ret)))))))))))))))
def F62:FnC:=⟨r62,107,[.cell 2 7 true,.tmp 3],[],[]⟩
def VE:List RI:=[on 4 (Fa 0 1),oo 5 (Ld 4) [4],oo 6 (Bc .lss 5 1) [5],omk 7 6,.grp 7 false [(xi 8 7 false (Fa 0 1)),(xi 9 7 false (Ld 8)),(xi 10 7 false (Bc .gtr 9 4))] [8,9],oo 11 (Pt 7 10) [7,10],omk 12 11,.grp 12 false [(xi 13 12 false (Fa 2 1)),(xi 14 12 false (Ld 13)),(xi 15 12 false (Bc .lss 14 0))] [13,14],oo 16 (Pt 12 15) [12,15],omk 17 16,.grp 17 false [(xi 18 17 false (Fa 2 1)),(xi 19 17 false (Ld 18)),(xi 20 17 false (Bc .gtr 19 1000000))] [18,19],oo 21 (Pt 17 20) [17,20],omk 3 21]
def VD:List RI:=[on 23 (Fa 1 1),oo 24 (Ld 23) [23],oo 25 (Ca 102 [.t 24]) [24],oo 26 (.un .not (.t 25)) [25],omk 22 26]
def qU:List RI:=[on 2 (Mc 43)]
def VC:List RI:=[on 28 (Fa 3 1),oo 29 (Ld 28) [28],oo 30 (Ln 29) [29],oo 31 (Bc .gtr 30 64) [30],omk 27 31]
def VB:List RI:=[on 33 (Fa 0 1),oo 34 (Ld 33) [33],oo 35 (Bc .eql 34 4) [34],omk 36 35,.grp 36 true [(xi 37 36 true (Lt 4 1)),(xi 38 36 true (Ca 103 [.t 37])),(xi 39 36 true (Ln 38)),(xi 40 36 true (Bc .eql 39 0))] [1,37,38,39],oo 41 (Pf 36 40) [36,40],omk 32 41]
def Ou:List RI:=[on 2 (Mc 40)]
def r63:RC:=(So nD (Sq (Bk 0 (So VE (Kc 3 (Kk [1,3] (So fC .ret)) (Kk [3] (So VD (Kc 22 (Kk [1,22] (So qU .ret)) (Kk [22] (So VC (Kc 27 (Kk [1,27] (So nC .ret)) (Kk [27] (So VB (Kc 32 (Kk [32] (So Ou .ret)) (Kk [32] .skip))))))))))))) (So iF .ret)))
def F63:FnC:=⟨r63,42,[.tmp 2],[],[]⟩
def VA:List RI:=[omk 9 0]
def Vz:List RI:=[on 11 (Bc .eql 9 0),omk 10 11]
def Vy:List RI:=[on 12 (.build [.int .u32 0,.int .u32 0,.int .u32 0,.int .u32 0,.int .u32 0] [(0,1,(.c (.int .u32 1732584193))),(1,1,(.c (.int .u32 4023233417))),(2,1,(.c (.int .u32 2562383102))),(3,1,(.c (.int .u32 271733878))),(4,1,(.c (.int .u32 3285377520)))]),on 5 (.new (.arr 1 (aE 5 [.int .u32 0]))),Sr 5 5 12 [12]]
def Vx:List RI:=[omk 13 1,oo 14 (Ca 104 [.t 13]) [13],omk 6 14]
def Vw:List RI:=[om 15 6,oo 16 (Ln 15) [15],oo 17 (Bc .gtr 16 0) [16]]
def Vv:List RI:=[om 20 6,oo 21 (.slcL 1 (.t 20) none (some (ci 64)) none) [20],oo 22 (Ca 105 [.t 5,.t 21]) [21,22]]
def Vu:List RI:=[omk 18 6,oo 19 (.slcL 1 (.t 18) (some (ci 64)) none none) [18],omk 6 19]
def O8:RC:=(Sq (So Vw (Kc 17 (Kk [17] .skip) (Kk [6,17] (.exit 1)))) (Sq (Bk 2 (.ops Vv)) (.ops Vu)))
def Vt:RC:=O8
def Vs:List RI:=[oo 23 (.slcA 5 1 (.t 5) none none none) [5],oo 24 (Ca 106 [.t 23]) [23],omk 4 24]
def HZ:List RI:=[oo 26 (Bc .eql 9 1) [9],omk 25 26]
def HY:List RI:=[on 27 (.build [.int .u32 0,.int .u32 0,.int .u32 0,.int .u32 0,.int .u32 0,.int .u32 0,.int .u32 0,.int .u32 0] [(0,1,(.c (.int .u32 1779033703))),(1,1,(.c (.int .u32 3144134277))),(2,1,(.c (.int .u32 1013904242))),(3,1,(.c (.int .u32 2773480762))),(4,1,(.c (.int .u32 1359893119))),(5,1,(.c (.int .u32 2600822924))),(6,1,(.c (.int .u32 528734635))),(7,1,(.c (.int .u32 1541459225)))]),on 7 (.new (.arr 1 (aE 8 [.int .u32 0]))),Sr 8 7 27 [27]]
def HX:List RI:=[omk 28 1,oo 29 (Ca 104 [.t 28]) [28],omk 8 29]
def HW:List RI:=[om 30 8,oo 31 (Ln 30) [30],oo 32 (Bc .gtr 31 0) [31]]
def HV:List RI:=[om 35 8,oo 36 (.slcL 1 (.t 35) none (some (ci 64)) none) [35],oo 37 (Ca 107 [.t 7,.t 36]) [36,37]]
def HU:List RI:=[omk 33 8,oo 34 (.slcL 1 (.t 33) (some (ci 64)) none none) [33],omk 8 34]
def zC:RC:=(Sq (So HW (Kc 32 (Kk [32] .skip) (Kk [8,32] (.exit 3)))) (Sq (Bk 4 (.ops HV)) (.ops HU)))
def yA:RC:=zC
def HT:List RI:=[oo 38 (.slcA 8 1 (.t 7) none none none) [7],oo 39 (Ca 106 [.t 38]) [38],omk 4 39]
def r64:RC:=(So ff (Sq (So VA (Bk 0 (So Vz (Kc 10 (Kk [9,10] (So Vy (Sq (So Vx (Bk 1 (.loop Vt))) (So Vs .ret)))) (Kk [10] (So HZ (Kc 25 (Kk [25] (So HY (Sq (So HX (Bk 3 (.loop yA))) (So HT .ret)))) (Kk [1,25] .skip)))))))) (So gP .ret)))
def F64:FnC:=⟨r64,40,[.tmp 4],[],[]⟩
def Vr:List FI:=[Fs 0 5 (Fa 0 2),Fs 1 6 (Ld 5),Fs 2 7 (Fa 0 3),Fs 3 8 (Ld 7),Fs 5 10 (Fa 1 2),Fs 6 11 (Ld 10),Fs 7 12 (Fa 1 3),Fs 8 13 (Ld 12),Fs 10 15 (Fa 2 2),Fs 11 16 (Ld 15),Fs 12 17 (Fa 2 3),Fs 13 18 (Ld 17),Fs 15 20 (Fa 3 2),Fs 16 21 (Ld 20),Fs 17 22 (Fa 3 3),Fs 18 23 (Ld 22),Fz 4 9 (Ca 110 [.t 6,.t 8]),Fz 9 14 (Ca 111 [.t 11,.t 13]),Fz 14 19 (Ca 110 [.t 16,.t 18]),Fz 19 24 (Ca 112 [.t 21,.t 23]),Fs 20 25 (.lit 1 [.t 9,.t 14,.t 19,.t 24]),Fz 21 26 (Ca 109 [.t 25]),Fm 22 4 26]
def r67:RC:=(So DS (Sq (.flt [0,1,0,4,15,0,32,0,128,511,0,1024,0,4096,16383,0,32768,0,131072,524287,1048575,2097151,4194303] [] Vr [2,3,5,6,7,8,9,10,11,12,13,14,15,16,17,18,19,20,21,22,23,24,25,26]) .ret))
def F67:FnC:=⟨r67,27,[.tmp 4],[],[]⟩
def Vq:List RI:=[on 9 (Fa 0 1),oo 10 (Ld 9) [9],oo 11 (Ca 115 [.t 10]) [10],oo 12 (.un .not (.t 11)) [11],omk 8 12]
def Vp:List RI:=[on 14 (Fa 2 1),oo 15 (Ld 14) [14],oo 16 (Bc .lss 15 0) [15],omk 17 16,.grp 17 false [(xi 18 17 false (Fa 2 1)),(xi 19 17 false (Ld 18)),(xi 20 17 false (Fa 1 1)),(xi 21 17 false (Ld 20)),(xi 22 17 false (Bb .gtr 19 21))] [18,19,20,21],oo 23 (Pt 17 22) [17,22],omk 24 23,.grp 24 false [(xi 25 24 false (Fa 1 1)),(xi 26 24 false (Ld 25)),(xi 27 24 false (Bc .gtr 26 1000000))] [25,26],oo 28 (Pt 24 27) [24,27],omk 29 28,.grp 29 false [(xi 30 29 false (Fa 3 1)),(xi 31 29 false (Ld 30)),(xi 32 29 false (Bc .lss 31 0))] [30,31],oo 33 (Pt 29 32) [29,32],omk 34 33,.grp 34 false [(xi 35 34 false (Fa 3 1)),(xi 36 34 false (Ld 35)),(xi 37 34 false (Fa 4 1)),(xi 38 34 false (Ld 37)),(xi 39 34 false (Bb .geq 36 38))] [35,36,37,38],oo 40 (Pt 34 39) [34,39],omk 41 40,.grp 41 false [(xi 42 41 false (Fa 4 1)),(xi 43 41 false (Ld 42)),(xi 44 41 false (Bc .gtr 43 1099511627776))] [42,43],oo 45 (Pt 41 44) [41,44],omk 13 45]
def Vo:List RI:=[on 47 (Fa 5 1),oo 48 (Ld 47) [47],oo 49 (Ln 48) [48],oo 50 (Bc .gtr 49 16) [49],omk 51 50,.grp 51 false [(xi 52 51 false (Fa 6 1)),(xi 53 51 false (Ld 52)),(xi 54 51 false (Ln 53)),(xi 55 51 false (Bc .gtr 54 8))] [52,53,54],oo 56 (Pt 51 55) [51,55],omk 46 56]
def Vn:List RI:=[on 57 (Fa 5 1),oo 58 (Ld 57) [57],on 59 (Ln 58),on 60 (Mc 0)]
def Vm:List RI:=[on 61 (Bb .lss 60 59)]
def Vl:List RI:=[om 62 60,on 63 (Ia 4 58 60),oo 64 (Lt 4 63) [63],on 4 (.new (.rc Zq2)),omk 3 62,Sr 4 4 64 [64]]
def HS:List RI:=[on 66 (Fa 0 4),oo 67 (Ld 66) [66],oo 68 (Bc .lss 67 1) [67],omk 69 68,.grp 69 false [(xi 70 69 false (Fa 0 4)),(xi 71 69 false (Ld 70)),(xi 72 69 false (Bc .gtr 71 3))] [70,71],oo 73 (Pt 69 72) [69,72],omk 74 73,.grp 74 false [(xi 75 74 false (Fa 2 4)),(xi 76 74 false (Ld 75)),(xi 77 74 false (Bc .lss 76 0))] [75,76],oo 78 (Pt 74 77) [74,77],omk 79 78,.grp 79 false [(xi 80 79 false (Fa 2 4)),(xi 81 79 false (Ld 80)),(xi 82 79 false (Bc .gtr 81 1000000))] [80,81],oo 83 (Pt 79 82) [79,82],omk 84 83,.grp 84 false [(xi 85 84 false (Fa 3 4)),(xi 86 84 false (Ld 85)),(xi 87 84 false (Ln 86)),(xi 88 84 false (Bc .neq 87 32))] [85,86,87],oo 89 (Pt 84 88) [84,88],omk 65 89]
def HR:List RI:=[on 91 (Fa 1 4),oo 92 (Ld 91) [91],oo 93 (Ca 115 [.t 92]) [92],oo 94 (.un .not (.t 93)) [93],omk 90 94]
def HQ:List FI:=[Fm 0 96 3,Fs 1 97 (Bc .gtr 96 0),Fm 2 98 97,Fi 3 99 98 true (Fa 5 1),Fi 4 100 98 true (Ld 99),Fi 5 101 98 true (Mv 3),Fi 6 102 98 true (Bc .sub 101 1),Fi 7 103 98 true (Ia 4 100 102),Fi 8 104 98 true (Lt 4 103),Fi 9 105 98 true (Lt 4 4),Fy 10 106 98 true (Ca 67 [.t 104,.t 105]),Fi 11 107 98 true (Bc .geq 106 0),Fs 12 108 (Pf 98 107),Fm 13 95 108]
def HP:List RI:=[oo 109 (Bc .add 60 1) [60],omk 60 109]
def zB:RC:=(.post (So Vm (Sq (Kc 61 (Kk [61] .skip) (Kk [58,59,60,61] (.exit 1))) (Sq (Bk 2 (So Vl (Bk 3 (So HS (Kc 65 (Kk [1,3,4,58,59,60,65] (So fC .ret)) (Kk [65] (So HR (Kc 90 (Kk [1,3,4,58,59,60,90] (So qU .ret)) (Kk [90] (Sq (.flt [0,1,3,7,15,7,39,127,255,7,1023,2047,4095,8191] [] HQ [3,4,96,97,98,99,100,101,102,103,104,105,106,107,108]) (Kc 95 (Kk [1,58,59,60,95] (So xp .ret)) (Kk [95] .skip)))))))))))) (.ops HP)))) [.gc [104]])
def lI:RC:=zB
def HO:List RI:=[oo 110 (Fa 6 1) [1],oo 111 (Ld 110) [110],on 112 (Ln 111),on 113 (Mc 0)]
def HN:List RI:=[on 114 (Bb .lss 113 112)]
def HM:List RI:=[on 115 (Ia 4 111 113),oo 116 (Lt 4 115) [115],on 6 (.new (.rc Zq3)),Sr 4 6 116 [116]]
def HK:List RI:=[oo 117 (Lt 4 6) [6],oo 118 (Ca 116 [.t 117]) [117],omk 7 118]
def HJ:List RI:=[om 119 7,oo 120 (Bc .neq 119 0) [119]]
def HI:List RI:=[omk 121 7,omk 2 121]
def HH:List RI:=[oo 122 (Bc .add 113 1) [113],omk 113 122]
def zA:RC:=(.post (So HN (Sq (Kc 114 (Kk [114] .skip) (Kk [111,112,113,114] (.exit 4))) (Sq (Bk 5 (So HM (So HK (So HJ (Kc 120 (Kk [111,112,113,120] (So HI .ret)) (Kk [7,120] .skip)))))) (.ops HH)))) [.gc [106]])
def ue:RC:=zA
def r71:RC:=(So nD (Sq (Bk 0 (So Vq (Kc 8 (Kk [1,8] (So qU .ret)) (Kk [8] (So Vp (Kc 13 (Kk [1,13] (So fC .ret)) (Kk [13] (So Vo (Kc 46 (Kk [1,46] (So nC .ret)) (Kk [46] .skip)))))))))) (Sq (So Vn (Bk 1 (.loop lI))) (Sq (So HO (Bk 4 (.loop ue))) (So iF .ret)))))
def F71:FnC:=⟨r71,123,[.tmp 2],[],[]⟩
def Vk:List RI:=[on 18 (Ca 117 []),on 3 (.new (.arr 1 (aE 64 [.int .u32 0]))),Sr 64 3 18 [18]]
def Vj:List RI:=[.own (xs 19 (.lit 1 [(.c (.int .u32 1779033703)),(.c (.int .u32 3144134277)),(.c (.int .u32 1013904242)),(.c (.int .u32 2773480762)),(.c (.int .u32 1359893119)),(.c (.int .u32 2600822924)),(.c (.int .u32 528734635)),(.c (.int .u32 1541459225))])) [],omk 4 19]
def Vi:List RI:=[omk 20 0,oo 21 (Ca 118 [.t 20]) [20],omk 5 21]
def Vh:List RI:=[om 22 6,om 23 5,oo 24 (Ln 23) [23],oo 25 (Bb .lss 22 24) [22,24]]
def Vg:List RI:=[on 7 (.new (.arr 1 (aE 64 [.int .u32 0])))]
def Vf:List RI:=[om 28 8,oo 29 (Bc .lss 28 64) [28]]
def Ve:List RI:=[om 32 8,oo 33 (Bc .lss 32 16) [32]]
def HG:List RI:=[om 34 8,om 35 5,om 36 6,om 37 6,oo 38 (Bc .add 37 64) [37],oo 39 (.slcL 1 (.t 35) (some (.t 36)) (some (.t 38)) none) [35,36,38],om 40 8,oo 41 (Ca 119 [.t 39,.t 40]) [39,40],oo 42 (.iaddrA 64 1 (.t 7) (.t 34)) [34],Sr 1 42 41 [41,42]]
def HF:List FI:=[Fm 0 43 8,Fs 1 44 (Bc .sub 43 15),Fs 2 45 (.iaddrA 64 1 (.t 7) (.t 44)),Fs 3 46 (Ld 45),Fm 5 48 8,Fs 6 49 (Bc .sub 48 15),Fs 7 50 (.iaddrA 64 1 (.t 7) (.t 49)),Fs 8 51 (Ld 50),Fm 11 54 8,Fs 12 55 (Bc .sub 54 15),Fs 13 56 (.iaddrA 64 1 (.t 7) (.t 55)),Fs 14 57 (Ld 56),Fs 15 58 (.bin .shr (.t 57) (.c (.int .u64 3))),Fz 4 47 (Ca 120 [.t 46,(.c (.int .u64 7))]),Fz 9 52 (Ca 120 [.t 51,(.c (.int .u64 18))]),Fs 10 53 (Bb .xor 47 52),Fs 16 59 (Bb .xor 53 58),Fm 17 9 59]
def HE:List FI:=[Fm 0 60 8,Fs 1 61 (Bc .sub 60 2),Fs 2 62 (.iaddrA 64 1 (.t 7) (.t 61)),Fs 3 63 (Ld 62),Fm 5 65 8,Fs 6 66 (Bc .sub 65 2),Fs 7 67 (.iaddrA 64 1 (.t 7) (.t 66)),Fs 8 68 (Ld 67),Fm 11 71 8,Fs 12 72 (Bc .sub 71 2),Fs 13 73 (.iaddrA 64 1 (.t 7) (.t 72)),Fs 14 74 (Ld 73),Fs 15 75 (.bin .shr (.t 74) (.c (.int .u64 10))),Fz 4 64 (Ca 120 [.t 63,(.c (.int .u64 17))]),Fz 9 69 (Ca 120 [.t 68,(.c (.int .u64 19))]),Fs 10 70 (Bb .xor 64 69),Fs 16 76 (Bb .xor 70 75),Fm 17 10 76]
def HD:List FI:=[Fm 0 77 8,Fm 1 78 10,Fm 2 79 8,Fs 3 80 (Bc .sub 79 7),Fs 4 81 (.iaddrA 64 1 (.t 7) (.t 80)),Fs 5 82 (Ld 81),Fs 6 83 (Bb .add 78 82),Fm 7 84 9,Fs 8 85 (Bb .add 83 84),Fm 9 86 8,Fs 10 87 (Bc .sub 86 16),Fs 11 88 (.iaddrA 64 1 (.t 7) (.t 87)),Fs 12 89 (Ld 88),Fs 13 90 (Bb .add 85 89),Fs 14 91 (.iaddrA 64 1 (.t 7) (.t 77)),Fr 15 1 91 90]
def yz:List RI:=[omk 30 8,oo 31 (Bc .add 30 1) [30],omk 8 31]
def zy:RC:=(Sq (So Vf (Kc 29 (Kk [29] .skip) (Kk [8,29] (.exit 2)))) (Sq (Bk 3 (Sq (So Ve (Kc 33 (Kk [33] (So HG (.exit 3))) (Kk [33] .skip))) (Sq (.flt [0,1,3,7,15,0,32,96,224,511,1023,0,2048,6144,14336,30720,65535,131071] [] HF [43,44,45,46,47,48,49,50,51,52,53,54,55,56,57,58,59]) (Sq (.flt [0,1,3,7,15,0,32,96,224,511,1023,0,2048,6144,14336,30720,65535,131071] [] HE [60,61,62,63,64,65,66,67,68,69,70,71,72,73,74,75,76]) (.flt [0,0,0,4,12,28,62,0,254,0,512,1536,3584,8190,16383,32767] [] HD [9,10,77,78,79,80,81,82,83,84,85,86,87,88,89,90,91]))))) (.ops yz)))
def yy:RC:=zy
def HC:List RI:=[on 92 (.lit 1 []),om 93 4,oo 94 (.app [.int .u32 0] 4 (.t 92) (.t 93)) [92,93],omk 11 94]
def HB:List RI:=[on 12 (Mc 0)]
def Hz:List RI:=[om 95 12,oo 96 (Bc .lss 95 64) [95]]
def Hy:List FI:=[Fm 0 99 11,Fs 1 100 (.iaddrL 1 (.t 99) (ci 0)),Fs 2 101 (Ld 100),Fm 3 102 11,Fs 4 103 (.iaddrL 1 (.t 102) (ci 4)),Fs 5 104 (Ld 103),Fm 6 13 101,Fm 7 14 104]
def Hx:List FI:=[Fm 0 105 11,Fs 1 106 (.iaddrL 1 (.t 105) (ci 7)),Fs 2 107 (Ld 106),Fm 3 108 14,Fm 5 110 14,Fm 8 113 14,Fm 12 117 14,Fm 13 118 11,Fs 14 119 (.iaddrL 1 (.t 118) (ci 5)),Fs 15 120 (Ld 119),Fs 16 121 (Bb .and 117 120),Fm 17 122 14,Fs 18 123 (.un .xor (.t 122)),Fm 19 124 11,Fs 20 125 (.iaddrL 1 (.t 124) (ci 6)),Fs 21 126 (Ld 125),Fs 22 127 (Bb .and 123 126),Fs 23 128 (Bb .xor 121 127),Fm 25 130 12,Fs 26 131 (.iaddrA 64 1 (.t 3) (.t 130)),Fs 27 132 (Ld 131),Fm 29 134 12,Fs 30 135 (.iaddrA 64 1 (.t 7) (.t 134)),Fs 31 136 (Ld 135),Fz 4 109 (Ca 120 [.t 108,(.c (.int .u64 6))]),Fz 6 111 (Ca 120 [.t 110,(.c (.int .u64 11))]),Fs 7 112 (Bb .xor 109 111),Fz 9 114 (Ca 120 [.t 113,(.c (.int .u64 25))]),Fs 10 115 (Bb .xor 112 114),Fs 11 116 (Bb .add 107 115),Fs 24 129 (Bb .add 116 128),Fs 28 133 (Bb .add 129 132),Fs 32 137 (Bb .add 133 136),Fm 33 15 137]
def Hw:List FI:=[Fm 0 138 13,Fm 2 140 13,Fm 5 143 13,Fm 8 146 13,Fm 9 147 11,Fs 10 148 (.iaddrL 1 (.t 147) (ci 1)),Fs 11 149 (Ld 148),Fs 12 150 (Bb .and 146 149),Fm 13 151 13,Fm 14 152 11,Fs 15 153 (.iaddrL 1 (.t 152) (ci 2)),Fs 16 154 (Ld 153),Fs 17 155 (Bb .and 151 154),Fs 18 156 (Bb .xor 150 155),Fm 19 157 11,Fs 20 158 (.iaddrL 1 (.t 157) (ci 1)),Fs 21 159 (Ld 158),Fm 22 160 11,Fs 23 161 (.iaddrL 1 (.t 160) (ci 2)),Fs 24 162 (Ld 161),Fs 25 163 (Bb .and 159 162),Fs 26 164 (Bb .xor 156 163),Fz 1 139 (Ca 120 [.t 138,(.c (.int .u64 2))]),Fz 3 141 (Ca 120 [.t 140,(.c (.int .u64 13))]),Fs 4 142 (Bb .xor 139 141),Fz 6 144 (Ca 120 [.t 143,(.c (.int .u64 22))]),Fs 7 145 (Bb .xor 142 144),Fs 27 165 (Bb .add 145 164),Fm 28 16 165]
def Hv:List FI:=[Fm 0 166 15,Fm 1 167 16,Fs 2 168 (Bb .add 166 167),Fm 3 169 13,Fm 4 170 11,Fs 5 171 (.iaddrL 1 (.t 170) (ci 1)),Fs 6 172 (Ld 171),Fm 7 173 11,Fs 8 174 (.iaddrL 1 (.t 173) (ci 2)),Fs 9 175 (Ld 174),Fm 10 176 11,Fs 11 177 (.iaddrL 1 (.t 176) (ci 3)),Fs 12 178 (Ld 177),Fm 13 179 15,Fs 14 180 (Bb .add 178 179),Fm 15 181 14,Fm 16 182 11,Fs 17 183 (.iaddrL 1 (.t 182) (ci 5)),Fs 18 184 (Ld 183),Fm 19 185 11,Fs 20 186 (.iaddrL 1 (.t 185) (ci 6)),Fs 21 187 (Ld 186),Fs 22 188 (.lit 1 [.t 168,.t 169,.t 172,.t 175,.t 180,.t 181,.t 184,.t 187]),⟨23,false,(xm 11 188)⟩]
def Hu:List RI:=[omk 97 12,oo 98 (Bc .add 97 1) [97],omk 12 98]
def zx:RC:=(Sq (So Hz (Kc 96 (Kk [96] .skip) (Kk [7,12,96] (.exit 4)))) (Sq (Bk 5 (Sq (.flt [0,1,3,0,8,24,7,127] [] Hy [99,100,101,102,103,104]) (Sq (.flt [0,1,3,0,8,0,56,120,0,376,1016,2047,0,0,8192,24576,61440,0,131072,0,524288,1572864,4063232,8384512,16777215,0,33554432,100663296,268435455,0,536870912,1610612736,4294967295,8589934591] [] Hx [105,106,107,108,109,110,111,112,113,114,115,116,117,118,119,120,121,122,123,124,125,126,127,128,129,130,131,132,133,134,135,136,137]) (Sq (.flt [0,1,0,7,15,0,47,127,0,0,512,1536,3840,0,0,16384,49152,122880,261888,0,524288,1572864,0,4194304,12582912,33030144,67108608,134217727,268435455] [] Hw [138,139,140,141,142,143,144,145,146,147,148,149,150,151,152,153,154,155,156,157,158,159,160,161,162,163,164,165]) (.flt [0,0,3,0,0,16,48,0,128,384,0,1024,3072,0,15360,0,0,65536,196608,0,524288,1572864,4194303,8388607] [] Hv [13,14,15,16,166,167,168,169,170,171,172,173,174,175,176,177,178,179,180,181,182,183,184,185,186,187,188]))))) (.ops Hu)))
def yx:RC:=zx
def yw:List RI:=[on 17 (Mc 0)]
def Ht:List RI:=[om 189 17,oo 190 (Bc .lss 189 8) [189]]
def Hs:List FI:=[Fm 0 193 4,Fm 1 194 17,Fs 2 195 (Ia 1 193 194),Fs 3 196 (Ld 195),Fm 4 197 11,Fm 5 198 17,Fs 6 199 (Ia 1 197 198),Fs 7 200 (Ld 199),Fs 8 201 (Bb .add 196 200),Fs 9 202 (Ia 1 193 194),Fr 10 1 202 201]
def Hr:List RI:=[omk 191 17,oo 192 (Bc .add 191 1) [191],omk 17 192]
def zw:RC:=(Sq (So Ht (Kc 190 (Kk [190] .skip) (Kk [11,17,190] (.exit 6)))) (Sq (Bk 7 (.flt [0,0,3,7,0,0,48,112,255,511,1023] [] Hs [193,194,195,196,197,198,199,200,201,202])) (.ops Hr)))
def yv:RC:=zw
def Hq:List RI:=[omk 26 6,oo 27 (Bc .add 26 64) [26],omk 6 27]
def zu:RC:=(.post (Sq (So Vh (Kc 25 (Kk [25] .skip) (Kk [3,5,6,25] (.exit 0)))) (Sq (Bk 1 (So Vg (Sq (So ug (Bk 2 (.loop yy))) (So HC (Sq (So HB (Bk 4 (.loop yx))) (So yw (Bk 6 (.loop yv)))))))) (.ops Hq))) [.gc [107,194]])
def yu:RC:=zu
def Hp:List RI:=[omk 203 4,oo 204 (Ca 121 [.t 203]) [203],omk 2 204]
def r73:RC:=(So jJ (So Vk (So Vj (So Vi (Sq (So kI (Bk 0 (.loop yu))) (So Hp .ret))))))
def F73:FnC:=⟨r73,205,[.tmp 2],[],[]⟩
def Vd:List RI:=[omk 4 0,omk 5 1,oo 6 (.nchk (.t 4)) [4],oo 7 (Fa 2 6) [6],Sr 1 7 5 [5,7]]
def r74:RC:=(.ops Vd)
def F74:FnC:=⟨r74,8,[],[],[]⟩
def Vc:List RI:=[oo 6 (.mov (.c (.byt [] .clip))) [6],oo 7 (Mc 0) [7]]
def Vb:List RI:=[om 8 2,om 9 0,oo 10 (.nchk (.t 9)) [9],oo 11 (Fa 0 10) [10],oo 12 (Ld 11) [11],oo 13 (Ln 12) [12],om 14 1,oo 15 (Bb .sub 13 14) [13,14],oo 16 (Bb .gtr 8 15) [8,15]]
def Va:List RI:=[on 6 (.mov (.c (.byt [] .clip))),on 7 (Mc 2)]
def U9:List RI:=[omk 17 0,oo 18 (.nchk (.t 17)) [17],oo 19 (Fa 0 18) [18],oo 20 (Ld 19) [19],om 21 1,omk 22 1,omk 23 2,oo 24 (Bb .add 22 23) [22,23],oo 25 (.slcL 1 (.t 20) (some (.t 21)) (some (.t 24)) none) [20,21,24],omk 6 25,on 7 (Mc 0)]
def r75:RC:=(So Vc (Sq (So Vb (Kc 16 (Kk [0,1,2,16] (So Va .ret)) (Kk [16] .skip))) (So U9 .ret)))
def F75:FnC:=⟨r75,26,[.tmp 6,.tmp 7],[],[]⟩
def Ot:List FI:=[Fm 0 3 0,Fs 1 4 (.nchk (.t 3)),Fs 2 5 (Fa 0 4),Fs 3 6 (Ld 5),Fs 4 7 (Ln 6),Fm 5 8 0,Fs 6 9 (.nchk (.t 8)),Fs 7 10 (Fa 1 9),Fs 8 11 (Ld 10),Fs 9 12 (Bb .sub 7 11),Fm 10 2 12]
def r76:RC:=(So kH (Sq (.flt [0,1,3,7,15,0,32,96,224,511,1023] [] Ot [0,3,4,5,6,7,8,9,10,11,12]) .ret))
def F76:FnC:=⟨r76,13,[.tmp 2],[],[]⟩
def U8:List FI:=[Fm 0 5 0,Fs 1 6 (.nchk (.t 5)),Fs 2 7 (Fa 2 6),Fs 3 8 (Ld 7),Fs 4 9 (Bc .eql 8 0),Fm 5 10 9,Fi 6 11 10 true (Mv 0),Fi 7 12 10 true (.nchk (.t 11)),Fi 8 13 10 true (Fa 0 12),Fi 9 14 10 true (Ld 13),Fi 10 15 10 true (Ln 14),Fi 11 16 10 true (Mv 0),Fi 12 17 10 true (.nchk (.t 16)),Fi 13 18 10 true (Fa 1 17),Fi 14 19 10 true (Ld 18),Fi 15 20 10 true (Bb .sub 15 19),Fi 16 21 10 true (Mv 1),Fi 17 22 10 true (Bb .lss 20 21),Fs 18 23 (Pf 10 22)]
def U7:List RI:=[om 24 0,oo 25 (.nchk (.t 24)) [24],oo 26 (Fa 2 25) [25],.op ⟨none,none,.store 1 (.t 26) (ci 2)⟩ [26]]
def U6:List RI:=[omk 27 0,oo 28 (.nchk (.t 27)) [27],oo 29 (Fa 2 28) [28],oo 30 (Ld 29) [29],oo 31 (Bc .eql 30 0) [30],omk 4 31]
def r77:RC:=(So xq (Sq (Sq (.flt [0,1,3,7,15,31,63,127,255,511,1023,63,2111,6207,14399,32767,63,131071,262143] [] U8 [1,5,6,7,8,9,10,11,12,13,14,15,16,17,18,19,20,21,22]) (Kc 23 (Kk [23] (.ops U7)) (Kk [23] .skip))) (So U6 .ret)))
def F77:FnC:=⟨r77,32,[.tmp 4],[],[]⟩
def r78:RC:=(So kH (Sq (.flt [0,1,3,7,15,0,32,96,224,511,1023] [] Ot [0,3,4,5,6,7,8,9,10,11,12]) .ret))
def F78:FnC:=⟨r78,13,[.tmp 2],[],[]⟩
def U5:List RI:=[om 5 0,oo 6 (Ln 5) [5],oo 7 (Ca 122 [.t 6]) [6],oo 8 (.un .not (.t 7)) [7]]
def U4:List RI:=[omk 9 0,omk 3 9]
def U3:List RI:=[om 10 3,oo 11 (Ln 10) [10],oo 12 (Bc .gtr 11 1) [11]]
def U2:List RI:=[om 15 4,omk 16 3,oo 17 (Ca 123 [.t 15,.t 16]) [15,16],omk 3 17]
def U1:List RI:=[omk 13 4,oo 14 (Bc .add 13 1) [13],omk 4 14]
def O7:RC:=(Sq (So U3 (Kc 12 (Kk [12] .skip) (Kk [4,12] (.exit 0)))) (Sq (Bk 1 (.ops U2)) (.ops U1)))
def U0:RC:=O7
def UZ:List RI:=[omk 18 3,oo 19 (.iaddrL 1 (.t 18) (ci 0)) [18],oo 20 (Ld 19) [19],oo 21 (Ca 124 [.t 20]) [20],omk 2 21]
def r79:RC:=(So jJ (Sq (So U5 (Kc 8 (Kk [0,8] (So ul .ret)) (Kk [8] .skip))) (So U4 (Sq (So gn (Bk 0 (.loop U0))) (So UZ .ret)))))
def F79:FnC:=⟨r79,22,[.tmp 2],[],[]⟩
def ud:List RI:=[oo 4 (.mov (.c (.lst 1 [] .clip))) [4]]
def UX:List RI:=[omk 8 0,om 9 1,oo 10 (Ca 92 [.t 8,.t 9]) [8,9],omk 6 10]
def UW:List RI:=[om 11 7,om 12 1,oo 13 (.toInt .u64 (.t 12)) [12],oo 14 (.bin .shl (ci 1) (.t 13)) [13],oo 15 (Bb .lss 11 14) [11,14]]
def UV:List RI:=[omk 18 5,om 19 6,om 20 7,oo 21 (Ca 125 [.t 19,.t 20]) [19,20],oo 22 (.lit 1 [.t 21]) [21],oo 23 (.app [.byt [] .clip] 24 (.t 18) (.t 22)) [18,22],omk 5 23]
def UU:List RI:=[omk 16 7,oo 17 (Bc .add 16 1) [16],omk 7 17]
def O6:RC:=(.post (Sq (So UW (Kc 15 (Kk [15] .skip) (Kk [1,6,7,15] (.exit 0)))) (Sq (Bk 1 (.ops UV)) (.ops UU))) [.tok 5 105])
def UT:RC:=O6
def UR:List RI:=[omk 24 5,omk 4 24]
def r80:RC:=(So ud (So uh (So UX (Sq (So xo (Bk 0 (.pre [.tok 5 105] (.loop UT)))) (So UR .ret)))))
def F80:FnC:=⟨r80,25,[.tmp 4],[],[]⟩
def UQ:List RI:=[on 7 (Fa 0 1),oo 8 (Ld 7) [7],oo 9 (Ca 126 [.t 8]) [8],oo 10 (.un .not (.t 9)) [9]]
def UP:List RI:=[on 11 (Fa 2 1),oo 12 (Ld 11) [11],oo 13 (Bc .lss 12 0) [12],omk 14 13,.grp 14 false [(xi 15 14 false (Fa 2 1)),(xi 16 14 false (Ld 15)),(xi 17 14 false (Fa 1 1)),(xi 18 14 false (Ld 17)),(xi 19 14 false (Bb .gtr 16 18))] [15,16,17,18],oo 20 (Pt 14 19) [14,19],omk 21 20,.grp 21 false [(xi 22 21 false (Fa 1 1)),(xi 23 21 false (Ld 22)),(xi 24 21 false (Bc .gtr 23 1000000))] [22,23],oo 25 (Pt 21 24) [21,24],omk 26 25,.grp 26 false [(xi 27 26 false (Fa 3 1)),(xi 28 26 false (Ld 27)),(xi 29 26 false (Bc .lss 28 0))] [27,28],oo 30 (Pt 26 29) [26,29],omk 31 30,.grp 31 false [(xi 32 31 false (Fa 3 1)),(xi 33 31 false (Ld 32)),(xi 34 31 false (Fa 4 1)),(xi 35 31 false (Ld 34)),(xi 36 31 false (Bb .geq 33 35))] [32,33,34,35],oo 37 (Pt 31 36) [31,36],omk 38 37,.grp 38 false [(xi 39 38 false (Fa 4 1)),(xi 40 38 false (Ld 39)),(xi 41 38 false (Bc .gtr 40 1099511627776))] [39,40],oo 42 (Pt 38 41) [38,41]]
def UO:List RI:=[on 43 (Fa 5 1),oo 44 (Ld 43) [43],oo 45 (Ln 44) [44],oo 46 (Bc .gtr 45 16) [45],omk 47 46,.grp 47 false [(xi 48 47 false (Fa 6 1)),(xi 49 47 false (Ld 48)),(xi 50 47 false (Ln 49)),(xi 51 47 false (Bc .gtr 50 8))] [48,49,50],oo 52 (Pt 47 51) [47,51]]
def UN:List RI:=[om 53 3,on 54 (Fa 5 1),oo 55 (Ld 54) [54],oo 56 (Ln 55) [55],oo 57 (Bb .lss 53 56) [53,56]]
def UM:List RI:=[on 60 (Fa 5 1),oo 61 (Ld 60) [60],om 62 3,oo 63 (Ia 4 61 62) [61,62],oo 64 (Lt 4 63) [63],on 4 (.new (.rc Zq2)),Sr 4 4 64 [64]]
def Ho:List RI:=[on 65 (Fa 0 4),oo 66 (Ld 65) [65],oo 67 (Bc .lss 66 1) [66],omk 68 67,.grp 68 false [(xi 69 68 false (Fa 0 4)),(xi 70 68 false (Ld 69)),(xi 71 68 false (Bc .gtr 70 3))] [69,70],oo 72 (Pt 68 71) [68,71],omk 73 72,.grp 73 false [(xi 74 73 false (Fa 2 4)),(xi 75 73 false (Ld 74)),(xi 76 73 false (Bc .lss 75 0))] [74,75],oo 77 (Pt 73 76) [73,76],omk 78 77,.grp 78 false [(xi 79 78 false (Fa 2 4)),(xi 80 78 false (Ld 79)),(xi 81 78 false (Bc .gtr 80 1000000))] [79,80],oo 82 (Pt 78 81) [78,81],omk 83 82,.grp 83 false [(xi 84 83 false (Fa 3 4)),(xi 85 83 false (Ld 84)),(xi 86 83 false (Ln 85)),(xi 87 83 false (Bc .neq 86 32))] [84,85,86],oo 88 (Pt 83 87) [83,87]]
def Hn:List RI:=[on 89 (Fa 1 4),oo 90 (Ld 89) [89],oo 91 (Ca 126 [.t 90]) [90],oo 92 (.un .not (.t 91)) [91]]
def Hm:List FI:=[Fm 0 93 3,Fs 1 94 (Bc .gtr 93 0),Fm 2 95 94,Fi 3 96 95 true (Fa 5 1),Fi 4 97 95 true (Ld 96),Fi 5 98 95 true (Mv 3),Fi 6 99 95 true (Bc .sub 98 1),Fi 7 100 95 true (Ia 4 97 99),Fi 8 101 95 true (Lt 4 100),Fi 9 102 95 true (Lt 4 4),Fy 10 103 95 true (Ca 127 [.t 101,.t 102]),Fi 11 104 95 true (.un .not (.t 103)),Fs 12 105 (Pf 95 104)]
def Hl:List RI:=[omk 58 3,oo 59 (Bc .add 58 1) [58],omk 3 59]
def zt:RC:=(.post (Sq (So UN (Kc 57 (Kk [57] .skip) (Kk [3,57] (.exit 0)))) (Sq (Bk 1 (So UM (Sq (So Ho (Kc 88 (Kk [1,3,4,88] (So fC .ret)) (Kk [88] .skip))) (Sq (So Hn (Kc 92 (Kk [1,3,4,92] (So qU .ret)) (Kk [92] .skip))) (Sq (.flt [0,1,3,7,15,7,39,127,255,7,1023,2047,4095] [] Hm [4,93,94,95,96,97,98,99,100,101,102,103,104]) (Kc 105 (Kk [1,3,105] (So xp .ret)) (Kk [105] .skip))))))) (.ops Hl))) [.gc [104]])
def lH:RC:=zt
def Hk:List RI:=[om 106 5,on 107 (Fa 6 1),oo 108 (Ld 107) [107],oo 109 (Ln 108) [108],oo 110 (Bb .lss 106 109) [106,109]]
def Hj:List RI:=[on 113 (Fa 6 1),oo 114 (Ld 113) [113],om 115 5,oo 116 (Ia 4 114 115) [114,115],oo 117 (Lt 4 116) [116],oo 118 (Ca 128 [.t 117]) [117],omk 6 118]
def Hi:List RI:=[om 119 6,oo 120 (Bc .neq 119 0) [119]]
def Hh:List RI:=[omk 121 6,omk 2 121]
def Hg:List RI:=[omk 111 5,oo 112 (Bc .add 111 1) [111],omk 5 112]
def zq:RC:=(Sq (So Hk (Kc 110 (Kk [110] .skip) (Kk [1,5,110] (.exit 2)))) (Sq (Bk 3 (So Hj (So Hi (Kc 120 (Kk [1,5,120] (So Hh .ret)) (Kk [6,120] .skip))))) (.ops Hg)))
def uc:RC:=zq
def r81:RC:=(So nD (Sq (So UQ (Kc 10 (Kk [1,10] (So qU .ret)) (Kk [10] .skip))) (Sq (So UP (Kc 42 (Kk [1,42] (So fC .ret)) (Kk [42] .skip))) (Sq (So UO (Kc 52 (Kk [1,52] (So nC .ret)) (Kk [52] .skip))) (Sq (So qV (Bk 0 (.loop lH))) (Sq (So oD (Bk 2 (.loop uc))) (So iF .ret)))))))
def F81:FnC:=⟨r81,122,[.tmp 2],[],[]⟩
def UL:List RI:=[om 5 1,oo 6 (Ln 5) [5],oo 7 (Bc .gtr 6 65535) [6]]
def UK:List RI:=[omk 8 1,oo 9 (.slcL 1 (.t 8) none (some (ci 65535)) none) [8],omk 1 9]
def UJ:List RI:=[omk 10 0,om 11 1,oo 12 (Ln 11) [11],oo 13 (Ca 45 [.t 10,ci 2,.t 12]) [10,12],omk 14 1,oo 15 (.app [.u8 0] 1 (.t 13) (.t 14)) [13,14],omk 4 15]
def r82:RC:=(So ff (Sq (So UL (Kc 7 (Kk [7] (.ops UK)) (Kk [7] .skip))) (So UJ .ret)))
def F82:FnC:=⟨r82,16,[.tmp 4],[0],[]⟩
def UI:List RI:=[on 6 (.new (.rc Zq1))]
def UH:List RI:=[omk 12 0,omk 13 1,oo 14 (.build Zq1 [(0,1,(.t 12)),(1,1,(.t 13)),(4,1,(ci 1099511627776))]) [12,13],on 7 (.new (.rc Zq1)),Sr 7 7 14 [14]]
def UG:List RI:=[om 15 8,om 16 2,oo 17 (Ln 16) [16],oo 18 (Bb .lss 15 17) [15,17]]
def UF:List RI:=[om 21 2,om 22 8,oo 23 (Ia 4 21 22) [21,22],oo 24 (Lt 4 23) [23],oo 25 (Ca 129 [.t 24]) [24],omk 9 25]
def UE:List RI:=[om 26 9,oo 27 (Ln 26) [26],oo 28 (Bc .eql 27 0) [27],omk 29 28,.grp 29 false [(xi 30 29 false (Mv 2)),(xi 31 29 false (Mv 8)),(xi 32 29 false (Ia 4 30 31)),(xi 33 29 false (Fa 0 32)),(xi 34 29 false (Ld 33)),(xi 35 29 false (Bc .eql 34 4))] [30,31,32,33,34],oo 36 (Pt 29 35) [29,35]]
def UD:List FI:=[Fm 0 37 2,Fm 1 38 8,Fs 2 39 (Ia 4 37 38),Fs 3 40 (Fa 0 39),Fs 4 41 (Ld 40),Fm 5 42 2,Fm 6 43 8,Fs 7 44 (Ia 4 42 43),Fs 8 45 (Fa 1 44),Fs 9 46 (Ld 45),Fm 10 47 2,Fm 11 48 8,Fs 12 49 (Ia 4 47 48),Fs 13 50 (Fa 2 49),Fs 14 51 (Ld 50),Fm 15 52 9,Fz 16 53 (Ca 73 [.t 52]),Fs 17 54 (.build Zq2 [(0,1,(.t 41)),(1,1,(.t 46)),(2,1,(.t 51)),(3,1,(.t 53))]),Fz 18 10 (.new (.rc Zq2)),Fr 19 4 10 54]
def UC:List FI:=[Fm 0 55 11,Fs 1 56 (Fa 5 7),Fs 2 57 (Ld 56),Fs 3 58 (Ln 57),Fs 4 59 (Bb .lss 55 58),Fm 5 60 59,Fi 6 61 60 true (Fa 5 7),Fi 7 62 60 true (Ld 61),Fi 8 63 60 true (Mv 11),Fi 9 64 60 true (Ia 4 62 63),Fi 10 65 60 true (Lt 4 64),Fi 11 66 60 true (Lt 4 10),Fy 12 67 60 true (Ca 127 [.t 65,.t 66]),Fs 13 68 (Pf 60 67)]
def UB:List RI:=[omk 69 11,oo 70 (Bc .add 69 1) [69],omk 11 70]
def zp:RC:=(Sq (Sq (.flt [0,0,2,6,15,31,63,127,63,511,1023,63,4095,8191] [] UC [55,56,57,58,59,60,61,62,63,64,65,66,67]) (Kc 68 (Kk [68] .skip) (Kk [68] (.exit 2)))) (Bk 3 (.ops UB)))
def Hf:RC:=zp
def He:List FI:=[Fm 0 71 11,Fs 1 72 (Fa 5 7),Fs 2 73 (Ld 72),Fs 3 74 (Ln 73),Fs 4 75 (Bb .lss 71 74),Fm 5 76 75,Fi 6 77 76 true (Lt 4 10),Fi 7 78 76 true (Fa 5 7),Fi 8 79 76 true (Ld 78),Fi 9 80 76 true (Mv 11),Fi 10 81 76 true (Ia 4 79 80),Fi 11 82 76 true (Lt 4 81),Fy 12 83 76 true (Ca 127 [.t 77,.t 82]),Fi 13 84 76 true (.un .not (.t 83)),Fs 14 85 (Pf 76 84)]
def Hd:List FI:=[Fs 0 86 (.lit 4 []),Fs 1 87 (Fa 5 7),Fs 2 88 (Ld 87),Fm 3 89 11,Fs 4 90 (.slcL 4 (.t 88) none (some (.t 89)) none),Fs 6 92 (Lt 4 10),Fs 7 93 (.lit 4 [.t 92]),Fs 9 95 (Fa 5 7),Fs 10 96 (Ld 95),Fm 11 97 11,Fs 12 98 (.slcL 4 (.t 96) (some (.t 97)) none none),Fz 5 91 (.app Zq2 56 (.t 86) (.t 90)),Fz 8 94 (.app Zq2 56 (.t 91) (.t 93)),Fz 13 99 (.app Zq2 56 (.t 94) (.t 98)),Fs 14 100 (Fa 5 7),Fr 15 1 100 99]
def Hc:List RI:=[omk 19 8,oo 20 (Bc .add 19 1) [19],omk 8 20]
def zo:RC:=(.post (Sq (So UG (Kc 18 (Kk [18] .skip) (Kk [2,8,18] (.exit 0)))) (Sq (Bk 1 (So UF (Sq (So UE (Kc 36 (Kk [9,36] (.exit 1)) (Kk [36] .skip))) (Sq (.fla [0,0,3,7,15,0,0,96,224,480,0,0,3072,7168,15360,0,32768,131071,0,524287] [110] UD [[0,1,2,3,4,5,6,7,8,9,10,11,12,13,14,15,16,17,18,19],[0,1,2,3,4,5,6,7,8,9,10,11,12,13,14,15,18,16,17,19]] [9,37,38,39,40,41,42,43,44,45,46,47,48,49,50,51,52,53,54]) (So DR (Sq (Bk 2 (.loop Hf)) (Sq (Sq (.flt [0,0,2,6,15,31,63,63,191,63,959,1983,4095,8191,16383] [] He [71,72,73,74,75,76,77,78,79,80,81,82,83,84]) (Kc 85 (Kk [10,11,85] (.exit 1)) (Kk [85] .skip))) (.flt [0,0,2,0,14,31,0,64,255,0,512,0,3584,8191,16383,32767] [191,194,199] Hd [10,11,86,87,88,89,90,91,92,93,94,95,96,97,98,99,100])))))))) (.ops Hc))) [.gc [110,191,194,199]])
def Hb:RC:=zo
def Ha:List RI:=[oo 101 (Lt 7 7) [7],Sr 7 6 101 [101]]
def r83:RC:=(So UI (So UH (Sq (So ug (Bk 0 (.loop Hb))) (So Ha .ret))))
def F83:FnC:=⟨r83,102,[.cell 6 7 true],[0],[]⟩
def UA:List RI:=[on 0 (.new (.arr 1 (aE 3 [.str []])))]
def Uz:List RI:=[on 1 (.build [.str [],.str [],.str []] [(0,1,(.c (.str [97,99,109,101]))),(1,1,(.c (.str [118,50]))),(2,1,(.c (.str [120,45,121])))]),Sr 3 0 1 [1]]
def r84:RC:=(So UA (So Uz .ret))
def F84:FnC:=⟨r84,2,[.cell 0 3 true],[],[]⟩
def Uy:List RI:=[on 2 (.new (.rc Zq3))]
def Ux:List RI:=[om 5 0,oo 6 (Ca 52 [.t 5,ci 5]) [5]]
def Uw:List RI:=[on 8 (Bc .eql 6 0),omk 7 8]
def Uv:List RI:=[on 9 (.build Zq3 [(0,1,(ci 1))]),Sr 4 2 9 [9]]
def Uu:List RI:=[on 11 (Bc .eql 6 1),omk 10 11]
def Ut:List RI:=[omk 12 0,oo 13 (Ca 130 [.t 12]) [12],oo 14 (.b2s (.t 13)) [13],oo 15 (.build Zq3 [(0,1,(ci 2)),(1,1,(.t 14))]) [14],Sr 4 2 15 [15]]
def Us:List RI:=[oo 17 (Bc .eql 6 2) [6],omk 16 17]
def Ur:List RI:=[on 18 (.build [.str [],.str [],.str [],.str [],.str [],.str [],.str []] [(0,1,(.c (.str []))),(1,1,(.c (.str [42]))),(2,1,(.c (.str [97,61,63]))),(3,1,(.c (.str [42,61,42]))),(4,1,(.c (.str [63,111,42,53]))),(5,1,(.c (.str [99,111,117,110,116,61,63,63]))),(6,1,(.c (.str [42,97,42,42,49,42])))]),on 3 (.new (.arr 1 (aE 7 [.str []]))),Sr 7 3 18 [18]]
def Uq:List RI:=[omk 19 0,oo 20 (Ca 52 [.t 19,ci 7]) [19],oo 21 (.iaddrA 7 1 (.t 3) (.t 20)) [3,20],oo 22 (Ld 21) [21],oo 23 (.build Zq3 [(0,1,(ci 3)),(1,1,(.t 22))]) [22],Sr 4 2 23 [23]]
def Up:List RI:=[om 24 0,oo 25 (Ca 52 [.t 24,ci 20]) [24],omk 4 25]
def G9:List FI:=[Fs 0 26 (.build [.str [],.str [],.str []] [(0,1,(.c (.str [99,111,117,110,116,61]))),(1,1,(.c (.str [97,61]))),(2,1,(.c (.str [])))]),Fm 1 27 0,Fm 4 30 4,Fm 5 31 4,Fm 6 32 0,Fz 2 28 (Ca 52 [.t 27,ci 3]),Fs 3 29 (.idxA 3 1 false (.t 26) (.t 28)),Fz 7 33 (Ca 52 [.t 32,ci 30]),Fs 8 34 (Bb .add 31 33),Fs 9 35 (.build Zq3 [(0,1,(ci 4)),(1,1,(.t 29)),(2,1,(.t 30)),(3,1,(.t 34))]),Fr 10 4 2 35]
def r85:RC:=(So Uy (Sq (So Ux (Bk 0 (So Uw (Kc 7 (Kk [0,6,7] (So Uv .ret)) (Kk [7] (So Uu (Kc 10 (Kk [6,10] (So Ut .ret)) (Kk [10] (So Us (Kc 16 (Kk [16] (So Ur (So Uq .ret))) (Kk [16] .skip))))))))))) (So Up (Sq (.flt [0,0,2,7,0,0,0,70,230,511,1023] [] G9 [0,4,26,27,28,29,30,31,32,33,34,35]) .ret))))
def F85:FnC:=⟨r85,36,[.cell 2 4 true],[],[]⟩
def qT:List RI:=[oo 2 (Mb false) [2]]
def Uo:List RI:=[om 3 0,oo 4 (Bc .geq 3 0) [3],omk 5 4,.grp 5 true [(xi 6 5 true (Mv 0)),(xi 7 5 true (Bc .leq 6 3))] [0,6],oo 8 (Pf 5 7) [5,7],omk 2 8]
def r86:RC:=(So qT (So Uo .ret))
def F86:FnC:=⟨r86,9,[.tmp 2],[],[]⟩
def Un:List RI:=[oo 3 (.box (.t 0)) [0],oo 4 (.box (.t 1)) [1],oo 6 (.mov (.c (.byt [] .clip))) [6]]
def Um:List RI:=[on 9 (Ld 4),oo 10 (Ca 131 [.t 9]) [9],oo 11 (.un .not (.t 10)) [10]]
def xn:List RI:=[on 6 (.mov (.c (.byt [] .clip)))]
def Ul:List RI:=[omk 12 2,oo 13 (Ca 132 [.t 12]) [12],on 7 (.new (.rc [.lst 1 [] .clip])),Sr 1 7 13 [13]]
def Uk:List RI:=[oo 14 (.mkfn 133 [] [.t 3,.t 4]) [3],omk 8 14]
def Uj:List RI:=[oo 15 (Ld 4) [4],omk 16 8,oo 17 (.mkfn 137 [] [.t 7]) [7],oo 18 (Ca 135 [.t 15,.t 16,(.f 136),.t 17]) [15,16,17],omk 6 18]
def r87:RC:=(So Un (Sq (So Um (Kc 11 (Kk [2,3,4,11] (So xn .ret)) (Kk [11] .skip))) (So Ul (So Uk (So Uj .ret)))))
def F87:FnC:=⟨r87,19,[.tmp 6],[],[]⟩
def Ui:List RI:=[omk 5 0,omk 6 1,oo 7 (.toInt .u8 (.t 6)) [6],oo 8 (.litB [.t 7]) [7],oo 9 (Ca 138 [.t 5,(.c (.str [115,105,103,110,101,114])),.t 8,ci 32]) [5,8],omk 4 9]
def r88:RC:=(So ff (So Ui .ret))
def F88:FnC:=⟨r88,10,[.tmp 4],[],[]⟩
def Uh:List RI:=[om 9 1,oo 10 (Ln 9) [9],oo 11 (Ca 139 [.t 10]) [10],omk 5 11]
def Ug:List RI:=[om 12 5,oo 13 (Bc .lss 12 0) [12],omk 14 13,.grp 14 false [(xi 15 14 false (Mv 0)),(xi 16 14 false (Bc .lss 15 0))] [15],oo 17 (Pt 14 16) [14,16],omk 18 17,.grp 18 false [(xi 19 18 false (Mv 0)),(xi 20 18 false (Mv 1)),(xi 21 18 false (Ln 20)),(xi 22 18 false (Bb .geq 19 21))] [19,20,21],oo 23 (Pt 18 22) [18,22]]
def DQ:List RI:=[on 4 (.mov (.c (.lst 1 [] .clip)))]
def Oq:List RI:=[on 6 (.mov (.c (.lst 1 [] .clip)))]
def Uf:List RI:=[omk 24 1,oo 25 (Ca 140 [.t 24]) [24],omk 26 5,oo 27 (.slcL 1 (.t 25) none (some (.t 26)) none) [25,26],on 28 (Ln 27),on 29 (Mc 0)]
def Ue:List RI:=[on 30 (Bb .lss 29 28)]
def Ud:List RI:=[om 31 29,on 32 (Ia 1 27 29),oo 33 (Ld 32) [32],omk 7 31,omk 8 33]
def Uc:List RI:=[omk 34 6,omk 35 8,om 36 0,omk 37 7,oo 38 (.toInt .u64 (.t 37)) [37],oo 39 (Bb .shr 36 38) [36,38],oo 40 (Bc .xor 39 1) [39],oo 41 (Ia 1 35 40) [35,40],oo 42 (Ld 41) [41],oo 43 (.app [.u8 0] 1 (.c (.byt [] .clip)) (.t 42)) [42],oo 44 (.lit 1 [.t 43]) [43],oo 45 (.app [.byt [] .clip] 24 (.t 34) (.t 44)) [34,44],omk 6 45]
def Ub:List RI:=[oo 46 (Bc .add 29 1) [29],omk 29 46]
def zm:RC:=(.post (So Ue (Sq (Kc 30 (Kk [30] .skip) (Kk [0,27,28,29,30] (.exit 0))) (Sq (Bk 1 (So Ud (.ops Uc))) (.ops Ub)))) [.gc [143],.tok 6 106])
def G8:RC:=zm
def G7:List RI:=[omk 47 6,omk 4 47]
def r89:RC:=(So ud (So Uh (Sq (So Ug (Kc 23 (Kk [0,1,5,23] (So DQ .ret)) (Kk [23] .skip))) (So Oq (Sq (So Uf (Bk 0 (.pre [.tok 6 106] (.loop G8)))) (So G7 .ret))))))
def F89:FnC:=⟨r89,48,[.tmp 4],[],[]⟩
def T9:List RI:=[omk 8 0,om 9 1,oo 10 (Ca 88 [.t 8,.t 9]) [8,9],omk 5 10]
def T8:List RI:=[omk 11 1,oo 12 (.toInt .u64 (.t 11)) [11],oo 13 (.bin .shl (ci 1) (.t 12)) [12],on 14 (Mc 0)]
def DO:List RI:=[on 15 (Bb .lss 14 13)]
def T7:List RI:=[om 16 14,omk 7 16]
def T6:List RI:=[omk 17 6,om 18 5,omk 19 7,oo 20 (Ca 141 [.t 18,.t 19]) [18,19],oo 21 (.lit 1 [.t 20]) [20],oo 22 (.app [.byt [] .clip] 24 (.t 17) (.t 21)) [17,21],omk 6 22]
def T5:List RI:=[oo 23 (Bc .add 14 1) [14],omk 14 23]
def O5:RC:=(.post (So DO (Sq (Kc 15 (Kk [15] .skip) (Kk [5,13,14,15] (.exit 0))) (Sq (Bk 1 (So T7 (.ops T6))) (.ops T5)))) [.tok 6 106])
def T4:RC:=O5
def T3:List RI:=[omk 24 6,omk 4 24]
def r90:RC:=(So ud (So T9 (So Oq (Sq (So T8 (Bk 0 (.pre [.tok 6 106] (.loop T4)))) (So T3 .ret)))))
def F90:FnC:=⟨r90,25,[.tmp 4],[],[]⟩
def T2:List RI:=[om 10 1,oo 11 (Bc .lss 10 0) [10],omk 12 11,.grp 12 false [(xi 13 12 false (Mv 1)),(xi 14 12 false (Bc .gtr 13 255))] [13],oo 15 (Pt 12 14) [12,14]]
def T1:List RI:=[omk 16 2,oo 17 (Ca 142 [.t 16]) [16],omk 7 17]
def T0:List RI:=[on 9 (Mc 0)]
def TZ:List RI:=[om 18 9,oo 19 (Bc .lss 18 35) [18]]
def TY:List FI:=[Fm 0 22 8,Fm 1 23 1,Fm 2 24 9,Fm 3 25 7,Fm 4 26 9,Fs 5 27 (Ia 1 25 26),Fs 6 28 (Ld 27),Fm 7 29 0,Fm 8 30 1,Fm 9 31 9,Fz 10 32 (Ca 144 [.t 29,.t 30,.t 31]),Fz 11 33 (Ca 143 [.t 23,.t 24,ci 0,.t 28,.t 32]),Fz 12 34 (.app [.u8 0] 1 (.t 22) (.t 33)),⟨13,false,(xm 8 34)⟩]
def TX:List RI:=[omk 20 9,oo 21 (Bc .add 20 1) [20],omk 9 21]
def O4:RC:=(.post (Sq (So TZ (Kc 19 (Kk [19] .skip) (Kk [0,1,7,9,19] (.exit 0)))) (Sq (Bk 1 (.flt [0,0,0,0,0,24,56,0,0,0,896,2046,4095,8191] [134] TY [22,23,24,25,26,27,28,29,30,31,32,33,34])) (.ops TX))) [.tok 8 108])
def DN:RC:=O4
def G6:List RI:=[omk 35 8,omk 6 35]
def r91:RC:=(So oC (Sq (So T2 (Kc 15 (Kk [0,1,2,15] (So xn .ret)) (Kk [15] .skip))) (So T1 (So uf (Sq (So T0 (Bk 0 (.pre [.tok 8 108] (.loop DN)))) (So G6 .ret))))))
def F91:FnC:=⟨r91,36,[.tmp 6],[],[]⟩
def TW:List RI:=[omk 5 0,omk 6 1,oo 7 (.toInt .u8 (.t 6)) [6],oo 8 (.litB [.t 7]) [7],oo 9 (Ca 145 [.t 5,(.c (.str [115,105,103,110,101,114])),.t 8,ci 32]) [5,8],omk 4 9]
def r92:RC:=(So ff (So TW .ret))
def F92:FnC:=⟨r92,10,[.tmp 4],[],[]⟩
def TV:List RI:=[om 8 1,oo 9 (Ln 8) [8],oo 10 (Ca 122 [.t 9]) [9],oo 11 (.un .not (.t 10)) [10],omk 12 11,.grp 12 false [(xi 13 12 false (Mv 0)),(xi 14 12 false (Bc .lss 13 0))] [13],oo 15 (Pt 12 14) [12,14],omk 16 15,.grp 16 false [(xi 17 16 false (Mv 0)),(xi 18 16 false (Mv 1)),(xi 19 16 false (Ln 18)),(xi 20 16 false (Bb .geq 17 19))] [17,18,19],oo 21 (Pt 16 20) [16,20]]
def TU:List RI:=[omk 22 1,omk 6 22]
def TT:List RI:=[om 23 6,oo 24 (Ln 23) [23],oo 25 (Bc .gtr 24 1) [24]]
def TS:List RI:=[omk 28 5,om 29 6,om 30 0,oo 31 (Bc .xor 30 1) [30],oo 32 (Ia 1 29 31) [29,31],oo 33 (Ld 32) [32],oo 34 (Ca 124 [.t 33]) [33],oo 35 (.lit 1 [.t 34]) [34],oo 36 (.app [.byt [] .clip] 24 (.t 28) (.t 35)) [28,35],omk 5 36]
def TR:List RI:=[om 37 7,omk 38 6,oo 39 (Ca 123 [.t 37,.t 38]) [37,38],omk 6 39]
def TQ:List RI:=[omk 40 0,oo 41 (Bc .quo 40 2) [40],omk 0 41]
def G5:List RI:=[omk 26 7,oo 27 (Bc .add 26 1) [26],omk 7 27]
def zl:RC:=(.post (Sq (So TT (Kc 25 (Kk [25] .skip) (Kk [0,6,7,25] (.exit 0)))) (Sq (Bk 1 (So TS (So TR (.ops TQ)))) (.ops G5))) [.tok 5 105])
def G4:RC:=zl
def yr:List RI:=[omk 42 5,omk 4 42]
def r93:RC:=(So ud (Sq (So TV (Kc 21 (Kk [0,1,21] (So DQ .ret)) (Kk [21] .skip))) (So uh (So TU (Sq (So xo (Bk 0 (.pre [.tok 5 105] (.loop G4)))) (So yr .ret))))))
def F93:FnC:=⟨r93,43,[.tmp 4],[],[]⟩
def TP:List RI:=[oo 5 (.box (.t 2)) [2],oo 6 (.mov (.c (.byt [] .clip))) [6],oo 7 (Mb false) [7]]
def TO:List RI:=[om 10 0,oo 11 (Ca 131 [.t 10]) [10],oo 12 (.un .not (.t 11)) [11],omk 13 12,.grp 13 false [(xi 14 13 false (Ld 5)),(xi 15 13 false (Ln 14)),(xi 16 13 false (Bc .neq 15 560))] [14,15],oo 17 (Pt 13 16) [13,16]]
def Oo:List RI:=[on 6 (.mov (.c (.byt [] .clip))),on 7 (Mb false)]
def TN:List RI:=[omk 18 1,oo 19 (Ca 132 [.t 18]) [18],on 8 (.new (.rc [.lst 1 [] .clip])),Sr 1 8 19 [19]]
def TL:List RI:=[oo 20 (.mkfn 146 [] [.t 5]) [5],omk 9 20]
def TK:List RI:=[om 21 0,omk 22 0,omk 23 9,oo 24 (.mkfn 148 [] [.t 8]) [8],oo 25 (Ca 135 [.t 22,.t 23,.t 24,(.f 149)]) [22,23,24],oo 26 (Ca 147 [.t 21,.t 25]) [21,25],omk 6 26,on 7 (Mb true)]
def r94:RC:=(So TP (Sq (So TO (Kc 17 (Kk [0,1,5,17] (So Oo .ret)) (Kk [17] .skip))) (So TN (So TL (So TK .ret)))))
def F94:FnC:=⟨r94,27,[.tmp 6,.tmp 7],[],[]⟩
def TJ:List RI:=[om 12 2,oo 13 (Ln 12) [12],oo 14 (Bc .gtr 13 3) [13],omk 15 14,.grp 15 false [(xi 16 15 false (Mv 1)),(xi 17 15 false (Bc .lss 16 0))] [16],oo 18 (Pt 15 17) [15,17],omk 19 18,.grp 19 false [(xi 20 19 false (Mv 1)),(xi 21 19 false (Mv 2)),(xi 22 19 false (Ln 21)),(xi 23 19 false (.toInt .u64 (.t 22))),(xi 24 19 false (.bin .shl (ci 1) (.t 23))),(xi 25 19 false (Bb .geq 20 24))] [20,21,22,23,24],oo 26 (Pt 19 25) [19,25]]
def TI:List RI:=[omk 27 0,oo 28 (.app [.u8 0] 1 (.c (.byt [] .clip)) (.t 27)) [27],omk 7 28]
def TH:List RI:=[omk 29 2,on 30 (Ln 29),on 31 (Mc 0)]
def TG:List RI:=[on 32 (Bb .lss 31 30)]
def TF:List RI:=[om 33 31,on 34 (Ia 1 29 31),oo 35 (Ld 34) [34],omk 8 33,omk 9 35]
def TE:List RI:=[om 36 7,om 37 9,omk 10 36,omk 11 37]
def TD:List RI:=[om 38 1,oo 39 (Bc .and 38 1) [38],oo 40 (Bc .eql 39 1) [39]]
def TC:List RI:=[omk 41 9,omk 42 7,omk 10 41,omk 11 42]
def G3:List RI:=[omk 43 1,oo 44 (.bin .shr (.t 43) (.c (.int .u64 1))) [43],omk 1 44]
def G2:List RI:=[omk 45 8,om 46 1,omk 47 10,omk 48 11,oo 49 (Ca 150 [.t 45,.t 46,.t 47,.t 48]) [45,46,47,48],omk 7 49]
def G1:List RI:=[oo 50 (Bc .add 31 1) [31],omk 31 50]
def zk:RC:=(So TG (Sq (Kc 32 (Kk [32] .skip) (Kk [1,29,30,31,32] (.exit 0))) (Sq (Bk 1 (So TF (So TE (Sq (So TD (Kc 40 (Kk [10,11,40] (.ops TC)) (Kk [7,9,40] .skip))) (So G3 (.ops G2)))))) (.ops G1))))
def yq:RC:=zk
def GZ:List RI:=[omk 51 7,omk 6 51]
def r95:RC:=(So oC (Sq (So TJ (Kc 26 (Kk [0,1,2,26] (So xn .ret)) (Kk [26] .skip))) (So TI (Sq (So TH (Bk 0 (.loop yq))) (So GZ .ret)))))
def F95:FnC:=⟨r95,52,[.tmp 6],[],[]⟩
def TB:List RI:=[om 15 0,oo 16 (Ln 15) [15],oo 17 (Bc .neq 16 17) [16],omk 18 17,.grp 18 false [(xi 19 18 false (Mv 0)),(xi 20 18 false (.iaddrL 1 (.t 19) (ci 0))),(xi 21 18 false (Ld 20)),(xi 22 18 false (.toInt .i64 (.t 21))),(xi 23 18 false (Bc .gtr 22 3))] [19,20,21,22],oo 24 (Pt 18 23) [18,23]]
def TA:List RI:=[om 25 0,oo 26 (.iaddrL 1 (.t 25) (ci 0)) [25],oo 27 (Ld 26) [26],oo 28 (.toInt .i64 (.t 27)) [27],omk 8 28]
def Tz:List RI:=[om 29 2,oo 30 (Ln 29) [29],om 31 8,oo 32 (.bin .mul (ci 16) (.t 31)) [31],oo 33 (.bin .add (ci 561) (.t 32)) [32],oo 34 (Bb .neq 30 33) [30,33],omk 35 34,.grp 35 false [(xi 36 35 false (Mv 2)),(xi 37 35 false (.iaddrL 1 (.t 36) (ci 0))),(xi 38 35 false (Ld 37)),(xi 39 35 false (.toInt .i64 (.t 38))),(xi 40 35 false (Mv 8)),(xi 41 35 false (.toInt .u64 (.t 40))),(xi 42 35 false (.bin .shl (ci 1) (.t 41))),(xi 43 35 false (Bb .geq 39 42))] [36,37,38,39,40,41,42],oo 44 (Pt 35 43) [35,43]]
def Ty:List RI:=[om 45 2,oo 46 (.iaddrL 1 (.t 45) (ci 0)) [45],oo 47 (Ld 46) [46],oo 48 (.toInt .i64 (.t 47)) [47],omk 9 48]
def Tx:List RI:=[on 10 (Mc 561)]
def Tw:List RI:=[om 50 9,omk 51 1,om 52 2,om 53 10,oo 54 (.slcL 1 (.t 52) (some (ci 1)) (some (.t 53)) none) [52,53],oo 55 (Ca 162 [.t 50,.t 51,.t 54]) [50,51,54],omk 49 55,on 56 (.ext (.t 49) 0),oo 57 (.ext (.t 49) 1) [49],omk 11 56,.op (xm 12 57) [12,57]]
def Tv:List RI:=[on 13 (.mov (.c (.lst 1 [] .clip)))]
def GY:List RI:=[om 58 14,om 59 8,oo 60 (Bb .lss 58 59) [58,59]]
def GX:List RI:=[omk 63 13,om 64 2,om 65 10,om 66 10,oo 67 (Bc .add 66 16) [66],oo 68 (.slcL 1 (.t 64) (some (.t 65)) (some (.t 67)) none) [64,65,67],oo 69 (.lit 1 [.t 68]) [68],oo 70 (.app [.byt [] .clip] 24 (.t 63) (.t 69)) [63,69],omk 13 70]
def GV:List RI:=[omk 71 10,oo 72 (Bc .add 71 16) [71],omk 10 72]
def GU:List RI:=[omk 61 14,oo 62 (Bc .add 61 1) [61],omk 14 62]
def zj:RC:=(.post (Sq (So GY (Kc 60 (Kk [60] .skip) (Kk [2,8,10,14,60] (.exit 0)))) (Sq (Bk 1 (So GX (.ops GV))) (.ops GU))) [.tok 13 113])
def yo:RC:=zj
def GT:List FI:=[Fm 0 73 11,Fm 1 74 9,Fm 2 75 13,Fm 4 77 0,Fs 5 78 (.slcL 1 (.t 77) (some (ci 1)) none none),Fz 3 76 (Ca 163 [.t 73,.t 74,.t 75]),Fz 6 79 (Ca 18 [.t 76,.t 78]),Fs 7 80 (.un .not (.t 79))]
def GS:List RI:=[omk 81 9,omk 6 81,on 7 (Mb true)]
def r98:RC:=(So Oy (Sq (So TB (Kc 24 (Kk [0,1,2,24] (So oB .ret)) (Kk [24] .skip))) (So TA (Sq (So Tz (Kc 44 (Kk [0,1,2,8,44] (So oB .ret)) (Kk [44] .skip))) (So Ty (So Tx (So Tw (So Tv (Sq (So xe5 (Bk 0 (.pre [.tok 13 113] (.loop yo)))) (Sq (Sq (.flt [0,0,0,7,0,16,63,127] [] GT [0,11,13,73,74,75,76,77,78,79]) (Kc 80 (Kk [9,80] (So oB .ret)) (Kk [80] .skip))) (So GS .ret)))))))))))
def F98:FnC:=⟨r98,82,[.tmp 6,.tmp 7],[],[]⟩
def Tu:List RI:=[om 15 0,oo 16 (.mkfn 75 [.t 15] []) [15],omk 5 16]
def Tt:List RI:=[om 18 5,om 19 0,oo 20 (.nchk (.t 19)) [19],oo 21 (Fa 1 20) [20],oo 22 (Ld 21) [21],oo 23 (.call (.t 18) [.t 22,ci 2]) [18,22],omk 17 23,on 24 (.ext (.t 17) 0),oo 25 (.ext (.t 17) 1) [17],omk 6 24,omk 7 25]
def Ts:List RI:=[om 26 7,oo 27 (Bc .neq 26 0) [26]]
def Tq:List RI:=[omk 28 0,omk 29 7,oo 30 (Ca 74 [.t 28,.t 29]) [28,29,30]]
def Tp:List FI:=[Fm 0 31 6,Fs 1 32 (.iaddrL 1 (.t 31) (ci 0)),Fs 2 33 (Ld 32),Fs 3 34 (.toInt .i64 (.t 33)),Fs 4 35 (.bin .shl (.t 34) (.c (.int .u64 8))),Fm 5 36 6,Fs 6 37 (.iaddrL 1 (.t 36) (ci 1)),Fs 7 38 (Ld 37),Fs 8 39 (.toInt .i64 (.t 38)),Fs 9 40 (Bb .or 35 39),Fm 10 8 40]
def To:List RI:=[om 41 8,omk 42 1,oo 43 (Bb .gtr 41 42) [41,42]]
def GR:List RI:=[omk 44 0,oo 45 (Ca 74 [.t 44,ci 4]) [44,45]]
def GQ:List RI:=[omk 47 5,om 48 0,oo 49 (.nchk (.t 48)) [48],oo 50 (Fa 1 49) [49],oo 51 (Ld 50) [50],oo 52 (Bc .add 51 2) [51],om 53 8,oo 54 (.call (.t 47) [.t 52,.t 53]) [47,52,53],omk 46 54,on 55 (.ext (.t 46) 0),oo 56 (.ext (.t 46) 1) [46],omk 9 55,omk 7 56]
def GP:List RI:=[om 57 7,oo 58 (Bc .neq 57 0) [57]]
def GO:List RI:=[omk 59 0,omk 60 7,oo 61 (Ca 74 [.t 59,.t 60]) [59,60,61]]
def GN:List RI:=[omk 62 0,on 63 (.nchk (.t 62)),oo 64 (Fa 1 63) [63],oo 65 (Ld 64) [64],omk 66 8,oo 67 (.bin .add (ci 2) (.t 66)) [66],oo 68 (Bb .add 65 67) [65,67],oo 69 (.nchk (.t 62)) [62],oo 70 (Fa 1 69) [69],Sr 1 70 68 [68,70]]
def GL:List RI:=[omk 71 9,oo 72 (.app [.u8 0] 1 (.c (.byt [] .clip)) (.t 71)) [71],omk 4 72]
def r99:RC:=(So ff (Sq (So OC (Kc 14 (Kk [0,1,14] (So gP .ret)) (Kk [14] .skip))) (So Tu (So Tt (Sq (So Ts (Kc 27 (Kk [1,5,6,27] (So Tq (So gP .ret))) (Kk [7,27] .skip))) (Sq (.flt [0,1,3,7,15,0,32,96,224,511,1023] [] Tp [6,31,32,33,34,35,36,37,38,39,40]) (Sq (So To (Kc 43 (Kk [5,8,43] (So GR (So gP .ret))) (Kk [43] .skip))) (So GQ (Sq (So GP (Kc 58 (Kk [8,9,58] (So GO (So gP .ret))) (Kk [7,58] .skip))) (So GN (So GL .ret)))))))))))
def F99:FnC:=⟨r99,73,[.tmp 4],[],[]⟩
def ND:List RI:=[omk 3 0,oo 4 (.nchk (.t 3)) [3],oo 5 (Fa 2 4) [4],oo 6 (Ld 5) [5],omk 2 6]
def xlY:RC:=(So kH (So ND .ret))
def xbx:FnC:=⟨xlY,7,[.tmp 2],[],[]⟩
def NC:List RI:=[om 6 0,oo 7 (.nchk (.t 6)) [6],oo 8 (Fa 2 7) [7],oo 9 (Ld 8) [8],oo 10 (Bc .neq 9 0) [9],omk 11 10,.grp 11 false [(xi 12 11 false (Mv 0)),(xi 13 11 false (Ca 77 [.t 12,ci 2])),(xi 14 11 false (.un .not (.t 13)))] [12,13],oo 15 (Pt 11 14) [11,14]]
def NB:List FI:=[Fm 0 16 0,Fs 1 17 (.nchk (.t 16)),Fs 2 18 (Fa 0 17),Fs 3 19 (Ld 18),Fm 4 20 0,Fs 5 21 (.nchk (.t 20)),Fs 6 22 (Fa 1 21),Fs 7 23 (Ld 22),Fs 8 24 (Ia 1 19 23),Fs 9 25 (Ld 24),Fs 10 26 (.toInt .i64 (.t 25)),Fs 11 27 (.bin .shl (.t 26) (.c (.int .u64 8))),Fm 12 28 0,Fs 13 29 (.nchk (.t 28)),Fs 14 30 (Fa 0 29),Fs 15 31 (Ld 30),Fm 16 32 0,Fs 17 33 (.nchk (.t 32)),Fs 18 34 (Fa 1 33),Fs 19 35 (Ld 34),Fs 20 36 (Bc .add 35 1),Fs 21 37 (Ia 1 31 36),Fs 22 38 (Ld 37),Fs 23 39 (.toInt .i64 (.t 38)),Fs 24 40 (Bb .or 27 39),Fm 25 5 40]
def NA:List RI:=[om 41 5,omk 42 1,oo 43 (Bb .gtr 41 42) [41,42]]
def Nz:List RI:=[omk 44 0,oo 45 (.nchk (.t 44)) [44],oo 46 (Fa 2 45) [45],.op ⟨none,none,.store 1 (.t 46) (ci 4)⟩ [46]]
def Ny:List RI:=[om 47 0,om 48 5,oo 49 (.bin .add (ci 2) (.t 48)) [48],oo 50 (Ca 77 [.t 47,.t 49]) [47,49],oo 51 (.un .not (.t 50)) [50]]
def Nw:List RI:=[om 52 0,on 53 (.nchk (.t 52)),oo 54 (Fa 1 53) [53],oo 55 (Ld 54) [54],om 56 5,oo 57 (.bin .add (ci 2) (.t 56)) [56],oo 58 (Bb .add 55 57) [55,57],oo 59 (.nchk (.t 52)) [52],oo 60 (Fa 1 59) [59],Sr 1 60 58 [58,60]]
def By:List FI:=[Fs 0 61 (.litB []),Fm 1 62 0,Fs 2 63 (.nchk (.t 62)),Fs 3 64 (Fa 0 63),Fs 4 65 (Ld 64),Fm 5 66 0,Fs 6 67 (.nchk (.t 66)),Fs 7 68 (Fa 1 67),Fs 8 69 (Ld 68),Fm 9 70 5,Fs 10 71 (Bb .sub 69 70),Fm 11 72 0,Fs 12 73 (.nchk (.t 72)),Fs 13 74 (Fa 1 73),Fs 14 75 (Ld 74),Fs 15 76 (.slcL 1 (.t 65) (some (.t 71)) (some (.t 75)) none),Fz 16 77 (.app [.u8 0] 1 (.t 61) (.t 76)),Fm 17 4 77]
def xlX:RC:=(So ff (Sq (So NC (Kc 15 (Kk [0,1,15] (So gP .ret)) (Kk [15] .skip))) (Sq (.flt [0,1,3,7,0,16,48,112,255,511,1023,2047,0,4096,12288,28672,0,65536,196608,458752,983040,2093056,4190208,8384512,16777215,33554431] [] NB [16,17,18,19,20,21,22,23,24,25,26,27,28,29,30,31,32,33,34,35,36,37,38,39,40]) (Sq (So NA (Kc 43 (Kk [5,43] (So Nz (So gP .ret))) (Kk [43] .skip))) (Sq (So Ny (Kc 51 (Kk [0,5,51] (So gP .ret)) (Kk [51] .skip))) (So Nw (Sq (.flt [0,0,2,6,14,0,32,96,224,0,992,0,2048,6144,14336,32766,65535,131071] [177] By [0,5,61,62,63,64,65,66,67,68,69,70,71,72,73,74,75,76,77]) .ret)))))))
def xbw:FnC:=⟨xlX,78,[.tmp 4],[],[]⟩
def Nv:List RI:=[om 6 0,oo 7 (Ln 6) [6],oo 8 (Bc .add 7 72) [7],oo 9 (.mkB (ci 0) (.t 8)) [8],om 10 0,.dir (.tok 9 109),oo 11 (.app [.u8 0] 1 (.t 9) (.t 10)) [9,10],on 12 (.litB [(.c (.u8 128))]),oo 13 (.app [.u8 0] 1 (.t 11) (.t 12)) [11,12],omk 3 13]
def Nu:List RI:=[om 14 3,oo 15 (Ln 14) [14],oo 16 (Bc .rem 15 64) [15],oo 17 (Bc .neq 16 56) [16]]
def Nt:List RI:=[omk 18 3,on 19 (.litB [(.c (.u8 0))]),oo 20 (.app [.u8 0] 1 (.t 18) (.t 19)) [18,19],omk 3 20]
def Ag:RC:=(.post (Sq (So Nu (Kc 17 (Kk [17] .skip) (Kk [17] (.exit 0)))) (Bk 1 (.ops Nt))) [.tok 3 103])
def zg:RC:=Ag
def Ns:List RI:=[omk 21 0,oo 22 (Ln 21) [21],oo 23 (.toInt .u64 (.t 22)) [22],oo 24 (.bin .mul (.t 23) (.c (.int .u64 8))) [23],omk 4 24]
def Nr:List RI:=[on 5 (Mc 56)]
def Nq:List RI:=[om 25 5,oo 26 (Bc .geq 25 0) [25]]
def Np:List RI:=[omk 29 3,om 30 4,om 31 5,oo 32 (.toInt .u64 (.t 31)) [31],oo 33 (Bb .shr 30 32) [30,32],oo 34 (.toInt .u8 (.t 33)) [33],oo 35 (.litB [.t 34]) [34],oo 36 (.app [.u8 0] 1 (.t 29) (.t 35)) [29,35],omk 3 36]
def No:List RI:=[omk 27 5,oo 28 (Bc .sub 27 8) [27],omk 5 28]
def tM:RC:=(.post (Sq (So Nq (Kc 26 (Kk [26] .skip) (Kk [4,5,26] (.exit 2)))) (Sq (Bk 3 (.ops Np)) (.ops No))) [.tok 3 103])
def sW:RC:=tM
def sV:List RI:=[omk 37 3,omk 2 37]
def xlW:RC:=(So jJ (So Nv (Sq (Bk 0 (.pre [.tok 3 103] (.loop zg))) (So Ns (Sq (So Nr (Bk 2 (.pre [.tok 3 103] (.loop sW)))) (So sV .ret))))))
def xbv:FnC:=⟨xlW,38,[.tmp 2],[],[]⟩
def Nn:List RI:=[om 6 0,oo 7 (Ln 6) [6],oo 8 (.bin .mul (ci 4) (.t 7)) [7],oo 9 (.mkB (ci 0) (.t 8)) [8],omk 3 9]
def Nm:List RI:=[omk 10 0,on 11 (Ln 10),on 12 (Mc 0)]
def Nl:List RI:=[on 14 (Ia 1 10 12),oo 15 (Ld 14) [14],omk 5 15]
def Nk:List RI:=[omk 16 3,om 17 5,oo 18 (.bin .shr (.t 17) (.c (.int .u64 24))) [17],oo 19 (.toInt .u8 (.t 18)) [18],om 20 5,oo 21 (.bin .shr (.t 20) (.c (.int .u64 16))) [20],oo 22 (.toInt .u8 (.t 21)) [21],om 23 5,oo 24 (.bin .shr (.t 23) (.c (.int .u64 8))) [23],oo 25 (.toInt .u8 (.t 24)) [24],omk 26 5,oo 27 (.toInt .u8 (.t 26)) [26],oo 28 (.litB [.t 19,.t 22,.t 25,.t 27]) [19,22,25,27],.dir (.tok 16 116),oo 29 (.app [.u8 0] 1 (.t 16) (.t 28)) [16,28],omk 3 29]
def Nj:List RI:=[oo 30 (Bc .add 12 1) [12],omk 12 30]
def Af:RC:=(.post (So OK (Sq (Kc 13 (Kk [13] .skip) (Kk [10,11,12,13] (.exit 0))) (Sq (Bk 1 (So Nl (.ops Nk))) (.ops Nj)))) [.tok 3 103])
def zf:RC:=Af
def Ni:List RI:=[omk 31 3,omk 2 31]
def xlV:RC:=(So jJ (So Nn (Sq (So Nm (Bk 0 (.pre [.tok 3 103] (.loop zf)))) (So Ni .ret))))
def xbu:FnC:=⟨xlV,32,[.tmp 2],[],[]⟩
def Nh:List RI:=[on 4 (.new (.arr 1 (aE 64 [.int .u32 0])))]
def Ng:List RI:=[on 18 (Bc .lss 17 64)]
def Nf:List RI:=[om 19 17,omk 5 19]
def Nd:List RI:=[om 20 5,oo 21 (Bc .lss 20 16) [20]]
def Nc:List RI:=[om 22 5,om 23 1,omk 24 5,oo 25 (Ca 166 [.t 23,.t 24]) [23,24],oo 26 (.iaddrA 64 1 (.t 4) (.t 22)) [22],Sr 1 26 25 [25,26]]
def Nb:List FI:=[Fm 0 27 5,Fs 1 28 (Bc .sub 27 15),Fs 2 29 (.iaddrA 64 1 (.t 4) (.t 28)),Fs 3 30 (Ld 29),Fm 4 31 5,Fs 5 32 (Bc .sub 31 2),Fs 6 33 (.iaddrA 64 1 (.t 4) (.t 32)),Fs 7 34 (Ld 33),Fm 8 6 30,Fm 9 7 34]
def Na:List RI:=[om 35 6,oo 36 (Ca 167 [.t 35,ci (-7)]) [35],om 37 6,oo 38 (Ca 167 [.t 37,ci (-18)]) [37],oo 39 (Bb .xor 36 38) [36,38],omk 40 6,oo 41 (.bin .shr (.t 40) (.c (.int .u64 3))) [40],oo 42 (Bb .xor 39 41) [39,41],omk 8 42]
def M9:List RI:=[om 43 7,oo 44 (Ca 167 [.t 43,ci (-17)]) [43],om 45 7,oo 46 (Ca 167 [.t 45,ci (-19)]) [45],oo 47 (Bb .xor 44 46) [44,46],omk 48 7,oo 49 (.bin .shr (.t 48) (.c (.int .u64 10))) [48],oo 50 (Bb .xor 47 49) [47,49],omk 9 50]
def M8:List FI:=[Fm 0 51 5,Fm 1 52 9,Fm 2 53 5,Fs 3 54 (Bc .sub 53 7),Fs 4 55 (.iaddrA 64 1 (.t 4) (.t 54)),Fs 5 56 (Ld 55),Fs 6 57 (Bb .add 52 56),Fm 7 58 8,Fs 8 59 (Bb .add 57 58),Fm 9 60 5,Fs 10 61 (Bc .sub 60 16),Fs 11 62 (.iaddrA 64 1 (.t 4) (.t 61)),Fs 12 63 (Ld 62),Fs 13 64 (Bb .add 59 63),Fs 14 65 (.iaddrA 64 1 (.t 4) (.t 51)),Fr 15 1 65 64]
def Bx:List RI:=[oo 66 (Bc .add 17 1) [17],omk 17 66]
def tL:RC:=(So Ng (Sq (Kc 18 (Kk [18] .skip) (Kk [1,17,18] (.exit 0))) (Sq (Bk 1 (So Nf (Sq (So Nd (Kc 21 (Kk [21] (So Nc (.exit 1))) (Kk [21] .skip))) (Sq (.flt [0,1,3,7,0,16,48,112,15,511] [] Nb [27,28,29,30,31,32,33,34]) (So Na (So M9 (.flt [0,0,0,4,12,28,62,0,254,0,512,1536,3584,8190,16383,32767] [] M8 [5,8,9,51,52,53,54,55,56,57,58,59,60,61,62,63,64,65]))))))) (.ops Bx))))
def sU:RC:=tL
def Bw:List RI:=[om 67 0,oo 68 (.nchk (.t 67)) [67],oo 69 (Lt 8 68) [68],on 10 (.new (.arr 1 (aE 8 [.int .u32 0]))),Sr 8 10 69 [69]]
def Bv:List RI:=[on 70 (Mc 0)]
def Bu:List RI:=[on 71 (Bc .lss 70 64)]
def Bt:List RI:=[om 72 70,omk 11 72]
def Bs:List FI:=[Fs 0 73 (.iaddrA 8 1 (.t 10) (ci 0)),Fs 1 74 (Ld 73),Fs 2 75 (.iaddrA 8 1 (.t 10) (ci 4)),Fs 3 76 (Ld 75),Fm 4 12 74,Fm 5 13 76]
def Br:List FI:=[Fs 0 77 (.iaddrA 8 1 (.t 10) (ci 7)),Fs 1 78 (Ld 77),Fm 2 79 13,Fm 4 81 13,Fm 7 84 13,Fm 11 88 13,Fs 12 89 (.iaddrA 8 1 (.t 10) (ci 5)),Fs 13 90 (Ld 89),Fs 14 91 (Bb .and 88 90),Fm 15 92 13,Fs 16 93 (.un .xor (.t 92)),Fs 17 94 (.iaddrA 8 1 (.t 10) (ci 6)),Fs 18 95 (Ld 94),Fs 19 96 (Bb .and 93 95),Fs 20 97 (Bb .xor 91 96),Fm 22 99 11,Fs 23 100 (.iaddrA 64 1 (.c (.pp iZ)) (.t 99)),Fs 24 101 (Ld 100),Fm 26 103 11,Fs 27 104 (.iaddrA 64 1 (.t 4) (.t 103)),Fs 28 105 (Ld 104),Fz 3 80 (Ca 167 [.t 79,ci (-6)]),Fz 5 82 (Ca 167 [.t 81,ci (-11)]),Fs 6 83 (Bb .xor 80 82),Fz 8 85 (Ca 167 [.t 84,ci (-25)]),Fs 9 86 (Bb .xor 83 85),Fs 10 87 (Bb .add 78 86),Fs 21 98 (Bb .add 87 97),Fs 25 102 (Bb .add 98 101),Fs 29 106 (Bb .add 102 105),Fm 30 14 106]
def Bq:List FI:=[Fm 0 107 12,Fm 2 109 12,Fm 5 112 12,Fm 8 115 12,Fs 9 116 (.iaddrA 8 1 (.t 10) (ci 1)),Fs 10 117 (Ld 116),Fs 11 118 (Bb .and 115 117),Fm 12 119 12,Fs 13 120 (.iaddrA 8 1 (.t 10) (ci 2)),Fs 14 121 (Ld 120),Fs 15 122 (Bb .and 119 121),Fs 16 123 (Bb .xor 118 122),Fs 17 124 (.iaddrA 8 1 (.t 10) (ci 1)),Fs 18 125 (Ld 124),Fs 19 126 (.iaddrA 8 1 (.t 10) (ci 2)),Fs 20 127 (Ld 126),Fs 21 128 (Bb .and 125 127),Fs 22 129 (Bb .xor 123 128),Fz 1 108 (Ca 167 [.t 107,ci (-2)]),Fz 3 110 (Ca 167 [.t 109,ci (-13)]),Fs 4 111 (Bb .xor 108 110),Fz 6 113 (Ca 167 [.t 112,ci (-22)]),Fs 7 114 (Bb .xor 111 113),Fs 23 130 (Bb .add 114 129),Fm 24 15 130]
def Bp:List RI:=[om 131 14,omk 132 15,oo 133 (Bb .add 131 132) [131,132],on 134 (.iaddrA 8 1 (.t 10) (ci 0)),oo 135 (Ld 134) [134],on 136 (.iaddrA 8 1 (.t 10) (ci 1)),oo 137 (Ld 136) [136],on 138 (.iaddrA 8 1 (.t 10) (ci 2)),oo 139 (Ld 138) [138],on 140 (.iaddrA 8 1 (.t 10) (ci 3)),oo 141 (Ld 140) [140],omk 142 14,oo 143 (Bb .add 141 142) [141,142],on 144 (.iaddrA 8 1 (.t 10) (ci 4)),oo 145 (Ld 144) [144],on 146 (.iaddrA 8 1 (.t 10) (ci 5)),oo 147 (Ld 146) [146],on 148 (.iaddrA 8 1 (.t 10) (ci 6)),oo 149 (Ld 148) [148],oo 150 (.build [.int .u32 0,.int .u32 0,.int .u32 0,.int .u32 0,.int .u32 0,.int .u32 0,.int .u32 0,.int .u32 0] [(0,1,(.t 133)),(1,1,(.t 135)),(2,1,(.t 137)),(3,1,(.t 139)),(4,1,(.t 143)),(5,1,(.t 145)),(6,1,(.t 147)),(7,1,(.t 149))]) [133,135,137,139,143,145,147,149],Sr 8 10 150 [150]]
def Bo:List RI:=[oo 151 (Bc .add 70 1) [70],omk 70 151]
def tK:RC:=(So Bu (Sq (Kc 71 (Kk [71] .skip) (Kk [4,70,71] (.exit 2))) (Sq (Bk 3 (So Bt (Sq (.flt [0,1,0,4,3,31] [] Bs [73,74,75,76]) (Sq (.flt [0,1,0,4,0,28,60,0,188,508,1023,0,0,4096,14336,0,32768,0,131072,491520,1046528,2097151,0,4194304,12582912,33554431,0,67108864,201326592,536870911,1073741823] [] Br [11,13,77,78,79,80,81,82,83,84,85,86,87,88,89,90,91,92,93,94,95,96,97,98,99,100,101,102,103,104,105,106]) (Sq (.flt [0,1,0,7,15,0,47,127,0,0,512,1792,0,0,8192,28672,65280,0,131072,0,524288,1966080,4194048,8388607,16777215] [] Bq [12,107,108,109,110,111,112,113,114,115,116,117,118,119,120,121,122,123,124,125,126,127,128,129,130]) (.ops Bp)))))) (.ops Bo))))
def sT:RC:=tK
def Bn:List RI:=[on 152 (Mc 0)]
def Bm:List RI:=[on 153 (Bc .lss 152 8)]
def Bl:List RI:=[om 154 152,omk 16 154]
def Bj:List FI:=[Fm 0 155 0,Fm 1 156 16,Fs 2 157 (.nchk (.t 155)),Fs 3 158 (.iaddrA 8 1 (.t 157) (.t 156)),Fs 4 159 (Ld 158),Fm 5 160 16,Fs 6 161 (.iaddrA 8 1 (.t 10) (.t 160)),Fs 7 162 (Ld 161),Fs 8 163 (Bb .add 159 162),Fs 9 164 (.nchk (.t 155)),Fs 10 165 (.iaddrA 8 1 (.t 164) (.t 156)),Fr 11 1 165 163]
def Bi:List RI:=[oo 166 (Bc .add 152 1) [152],omk 152 166]
def tJ:RC:=(So Bm (Sq (Kc 153 (Kk [153] .skip) (Kk [0,10,152,153] (.exit 4))) (Sq (Bk 5 (So Bl (.flt [0,0,1,7,15,0,32,96,255,1,1023,2047] [] Bj [16,155,156,157,158,159,160,161,162,163,164,165]))) (.ops Bi))))
def sS:RC:=tJ
def xlU:RC:=(So Nh (Sq (So yw (Bk 0 (.loop sU))) (So Bw (Sq (So Bv (Bk 2 (.loop sT))) (So Bn (Bk 4 (.loop sS)))))))
def xbt:FnC:=⟨xlU,167,[],[],[]⟩
def M7:List RI:=[omk 6 0,on 7 (Ln 6),on 8 (Mc 0)]
def M6:List RI:=[on 9 (Bb .lss 8 7)]
def M5:List RI:=[on 10 (Ia 1 6 8),oo 11 (Ld 10) [10],omk 5 11]
def M4:List RI:=[om 12 5,om 13 3,oo 14 (Bb .neq 12 13) [12,13]]
def M3:List RI:=[omk 15 5,omk 2 15]
def M2:List RI:=[oo 16 (Bc .add 8 1) [8],omk 8 16]
def Ae:RC:=(So M6 (Sq (Kc 9 (Kk [9] .skip) (Kk [6,7,8,9] (.exit 0))) (Sq (Bk 1 (So M5 (So M4 (Kc 14 (Kk [3,6,7,8,14] (So M3 .ret)) (Kk [5,14] .skip))))) (.ops M2))))
def M1:RC:=Ae
def M0:List RI:=[omk 17 3,omk 2 17]
def xlT:RC:=(So kH (So qV (Sq (So M7 (Bk 0 (.loop M1))) (So M0 .ret))))
def xbs:FnC:=⟨xlT,18,[.tmp 2],[],[]⟩
def MZ:List RI:=[om 7 0,oo 8 (Ca 176 [.t 7]) [7],omk 5 8]
def MY:List RI:=[om 9 1,oo 10 (Ca 176 [.t 9]) [9],omk 6 10]
def MX:List RI:=[omk 11 5]
def MW:List RI:=[omk 12 6]
def ze:List RI:=[on 4 (Mc (-1))]
def MV:List RI:=[omk 13 6]
def zb:List RI:=[on 4 (Mc 1)]
def MU:List RI:=[om 14 0,om 15 1,oo 16 (Bb .lss 14 15) [14,15]]
def Bh:List RI:=[omk 17 0,omk 18 1,oo 19 (Bb .gtr 17 18) [17,18]]
def xlS:RC:=(So qX (So MZ (So MY (Sq (So MX (Kc 11 (Kk [0,1,11] (Sq (So MW (Kc 12 (Kk [12] (So gn .ret)) (Kk [12] .skip))) (So ze .ret))) (Kk [11] .skip))) (Sq (So MV (Kc 13 (Kk [0,1,13] (So zb .ret)) (Kk [13] .skip))) (Sq (So MU (Kc 16 (Kk [0,1,16] (So ze .ret)) (Kk [16] .skip))) (Sq (So Bh (Kc 19 (Kk [19] (So zb .ret)) (Kk [19] .skip))) (So gn .ret))))))))
def xbr:FnC:=⟨xlS,20,[.tmp 4],[],[]⟩
def MT:List RI:=[omk 5 0,omk 6 1,oo 7 (Ca 177 [.t 5,.t 6]) [5,6],omk 4 7]
def xlR:RC:=(So qX (So MT .ret))
def xbq:FnC:=⟨xlR,8,[.tmp 4],[],[]⟩
def MS:List RI:=[omk 3 0,oo 4 (.build Zq2 [(0,1,(ci 1)),(1,1,(.t 3))]) [3],oo 5 (Ca 63 [.t 4]) [4],oo 6 (Bc .eql 5 0) [5],omk 2 6]
def xlQ:RC:=(So qT (So MS .ret))
def xbp:FnC:=⟨xlQ,7,[.tmp 2],[],[]⟩
def MR:List RI:=[on 5 (Fa 0 1),oo 6 (Ld 5) [5],oo 7 (Bc .lss 6 1) [6],omk 8 7,.grp 8 false [(xi 9 8 false (Fa 0 1)),(xi 10 8 false (Ld 9)),(xi 11 8 false (Bc .gtr 10 4))] [9,10],oo 12 (Pt 8 11) [8,11]]
def MQ:List RI:=[on 13 (Fa 1 1),oo 14 (Ld 13) [13],oo 15 (.len true (.t 14)) [14],on 16 (Mc 0)]
def MP:List RI:=[on 17 (Bb .lss 16 15)]
def MO:List RI:=[om 18 16,omk 3 18]
def MN:List RI:=[on 19 (Fa 1 1),oo 20 (Ld 19) [19],omk 21 3,oo 22 (.idxS (.t 20) (.t 21)) [20,21],omk 4 22]
def MM:List RI:=[om 23 4,oo 24 (.bin .lss (.t 23) (.c (.u8 32))) [23],omk 25 24,.grp 25 false [(xi 26 25 false (Mv 4)),(xi 27 25 false (.bin .gtr (.t 26) (.c (.u8 126))))] [4,26],oo 28 (Pt 25 27) [25,27]]
def ML:List RI:=[oo 29 (Bc .add 16 1) [16],omk 16 29]
def tI:RC:=(So MP (Sq (Kc 17 (Kk [17] .skip) (Kk [15,16,17] (.exit 0))) (Sq (Bk 1 (So MO (So MN (So MM (Kc 28 (Kk [1,15,16,28] (So fC .ret)) (Kk [28] .skip)))))) (.ops ML))))
def sR:RC:=tI
def Bg:List RI:=[on 31 (Fa 0 1),oo 32 (Ld 31) [31],oo 33 (Bc .eql 32 4) [32],omk 34 33,.grp 34 true [(xi 35 34 true (Fa 2 1)),(xi 36 34 true (Ld 35)),(xi 37 34 true (Bc .lss 36 0)),(xi 38 34 true (Mv 37))] [35,36,37],.grp 38 false [(xi 39 38 false (Fa 2 1)),(xi 40 38 false (Ld 39)),(xi 41 38 false (Fa 3 1)),(xi 42 38 false (Ld 41)),(xi 43 38 false (Bb .gtr 40 42))] [39,40,41,42],.grp 34 true [(xi 44 34 true (Pt 38 43)),(xi 45 34 true (Mv 44))] [38,43,44],.grp 45 false [(xi 46 45 false (Fa 3 1)),(xi 47 45 false (Ld 46)),(xi 48 45 false (Bc .gtr 47 1000000000))] [46,47],.grp 34 true [(xi 49 34 true (Pt 45 48))] [45,48],oo 50 (Pf 34 49) [34,49],omk 30 50]
def Bf:List RI:=[on 52 (Fa 0 1),oo 53 (Ld 52) [52],oo 54 (Bc .neq 53 4) [53],omk 55 54,.grp 55 true [(xi 56 55 true (Fa 2 1)),(xi 57 55 true (Ld 56)),(xi 58 55 true (Bc .neq 57 0)),(xi 59 55 true (Mv 58))] [56,57,58],.grp 59 false [(xi 60 59 false (Fa 3 1)),(xi 61 59 false (Ld 60)),(xi 62 59 false (Bc .neq 61 0))] [60,61],.grp 55 true [(xi 63 55 true (Pt 59 62))] [59,62],oo 64 (Pf 55 63) [55,63],omk 51 64]
def Be:List RI:=[on 66 (Fa 0 1),oo 67 (Ld 66) [66],oo 68 (Bc .eql 67 1) [67],omk 69 68,.grp 69 true [(xi 70 69 true (Fa 1 1)),(xi 71 69 true (Ld 70)),(xi 72 69 true (.bin .neq (.t 71) (.c (.str []))))] [70,71],oo 73 (Pf 69 72) [69,72],omk 65 73]
def Bd:List RI:=[oo 75 (Fa 1 1) [1],oo 76 (Ld 75) [75],oo 77 (.len true (.t 76)) [76],oo 78 (Bc .gtr 77 32) [77],omk 74 78]
def xlP:RC:=(So nD (Sq (So MR (Kc 12 (Kk [1,12] (So fC .ret)) (Kk [12] .skip))) (Sq (So MQ (Bk 0 (.loop sR))) (Sq (Bk 2 (So Bg (Kc 30 (Kk [1,30] (So fC .ret)) (Kk [30] (So Bf (Kc 51 (Kk [1,51] (So fC .ret)) (Kk [51] (So Be (Kc 65 (Kk [1,65] (So fC .ret)) (Kk [65] (So Bd (Kc 74 (Kk [74] (So nC .ret)) (Kk [74] .skip))))))))))))) (So iF .ret)))))
def xbo:FnC:=⟨xlP,79,[.tmp 2],[],[]⟩
def MK:List RI:=[on 0 (.new (.arr 1 (aE 64 [.int .u32 0])))]
def MJ:List RI:=[on 1 (.build [.int .u32 0,.int .u32 0,.int .u32 0,.int .u32 0,.int .u32 0,.int .u32 0,.int .u32 0,.int .u32 0,.int .u32 0,.int .u32 0,.int .u32 0,.int .u32 0,.int .u32 0,.int .u32 0,.int .u32 0,.int .u32 0,.int .u32 0,.int .u32 0,.int .u32 0,.int .u32 0,.int .u32 0,.int .u32 0,.int .u32 0,.int .u32 0,.int .u32 0,.int .u32 0,.int .u32 0,.int .u32 0,.int .u32 0,.int .u32 0,.int .u32 0,.int .u32 0,.int .u32 0,.int .u32 0,.int .u32 0,.int .u32 0,.int .u32 0,.int .u32 0,.int .u32 0,.int .u32 0,.int .u32 0,.int .u32 0,.int .u32 0,.int .u32 0,.int .u32 0,.int .u32 0,.int .u32 0,.int .u32 0,.int .u32 0,.int .u32 0,.int .u32 0,.int .u32 0,.int .u32 0,.int .u32 0,.int .u32 0,.int .u32 0,.int .u32 0,.int .u32 0,.int .u32 0,.int .u32 0,.int .u32 0,.int .u32 0,.int .u32 0,.int .u32 0] [(0,1,(.c (.int .u32 1116352408))),(1,1,(.c (.int .u32 1899447441))),(2,1,(.c (.int .u32 3049323471))),(3,1,(.c (.int .u32 3921009573))),(4,1,(.c (.int .u32 961987163))),(5,1,(.c (.int .u32 1508970993))),(6,1,(.c (.int .u32 2453635748))),(7,1,(.c (.int .u32 2870763221))),(8,1,(.c (.int .u32 3624381080))),(9,1,(.c (.int .u32 310598401))),(10,1,(.c (.int .u32 607225278))),(11,1,(.c (.int .u32 1426881987))),(12,1,(.c (.int .u32 1925078388))),(13,1,(.c (.int .u32 2162078206))),(14,1,(.c (.int .u32 2614888103))),(15,1,(.c (.int .u32 3248222580))),(16,1,(.c (.int .u32 3835390401))),(17,1,(.c (.int .u32 4022224774))),(18,1,(.c (.int .u32 264347078))),(19,1,(.c (.int .u32 604807628))),(20,1,(.c (.int .u32 770255983))),(21,1,(.c (.int .u32 1249150122))),(22,1,(.c (.int .u32 1555081692))),(23,1,(.c (.int .u32 1996064986))),(24,1,(.c (.int .u32 2554220882))),(25,1,(.c (.int .u32 2821834349))),(26,1,(.c (.int .u32 2952996808))),(27,1,(.c (.int .u32 3210313671))),(28,1,(.c (.int .u32 3336571891))),(29,1,(.c (.int .u32 3584528711))),(30,1,(.c (.int .u32 113926993))),(31,1,(.c (.int .u32 338241895))),(32,1,(.c (.int .u32 666307205))),(33,1,(.c (.int .u32 773529912))),(34,1,(.c (.int .u32 1294757372))),(35,1,(.c (.int .u32 1396182291))),(36,1,(.c (.int .u32 1695183700))),(37,1,(.c (.int .u32 1986661051))),(38,1,(.c (.int .u32 2177026350))),(39,1,(.c (.int .u32 2456956037))),(40,1,(.c (.int .u32 2730485921))),(41,1,(.c (.int .u32 2820302411))),(42,1,(.c (.int .u32 3259730800))),(43,1,(.c (.int .u32 3345764771))),(44,1,(.c (.int .u32 3516065817))),(45,1,(.c (.int .u32 3600352804))),(46,1,(.c (.int .u32 4094571909))),(47,1,(.c (.int .u32 275423344))),(48,1,(.c (.int .u32 430227734))),(49,1,(.c (.int .u32 506948616))),(50,1,(.c (.int .u32 659060556))),(51,1,(.c (.int .u32 883997877))),(52,1,(.c (.int .u32 958139571))),(53,1,(.c (.int .u32 1322822218))),(54,1,(.c (.int .u32 1537002063))),(55,1,(.c (.int .u32 1747873779))),(56,1,(.c (.int .u32 1955562222))),(57,1,(.c (.int .u32 2024104815))),(58,1,(.c (.int .u32 2227730452))),(59,1,(.c (.int .u32 2361852424))),(60,1,(.c (.int .u32 2428436474))),(61,1,(.c (.int .u32 2756734187))),(62,1,(.c (.int .u32 3204031479))),(63,1,(.c (.int .u32 3329325298)))]),Sr 64 0 1 [1]]
def xlO:RC:=(So MK (So MJ .ret))
def xbn:FnC:=⟨xlO,2,[.cell 0 64 true],[],[]⟩
def MI:List RI:=[on 6 (.litB []),om 7 0,oo 8 (.app [.u8 0] 1 (.t 6) (.t 7)) [6,7],on 9 (.litB [(.c (.u8 128))]),oo 10 (.app [.u8 0] 1 (.t 8) (.t 9)) [8,9],omk 3 10]
def MH:List RI:=[om 11 3,oo 12 (Ln 11) [11],oo 13 (Bc .rem 12 64) [12],oo 14 (Bc .neq 13 56) [13]]
def MG:List RI:=[omk 15 3,on 16 (.litB [(.c (.u8 0))]),oo 17 (.app [.u8 0] 1 (.t 15) (.t 16)) [15,16],omk 3 17]
def Ad:RC:=(.post (Sq (So MH (Kc 14 (Kk [14] .skip) (Kk [14] (.exit 0)))) (Bk 1 (.ops MG))) [.tok 3 103])
def za:RC:=Ad
def MF:List RI:=[omk 18 0,oo 19 (Ln 18) [18],oo 20 (.toInt .u64 (.t 19)) [19],oo 21 (.bin .mul (.t 20) (.c (.int .u64 8))) [20],omk 4 21]
def ME:List RI:=[on 5 (Mc 7)]
def MD:List RI:=[om 22 5,oo 23 (Bc .geq 22 0) [22]]
def MC:List RI:=[omk 26 3,om 27 4,om 28 5,oo 29 (.toInt .u64 (.t 28)) [28],oo 30 (.bin .mul (.c (.int .u64 8)) (.t 29)) [29],oo 31 (Bb .shr 27 30) [27,30],oo 32 (.toInt .u8 (.t 31)) [31],oo 33 (.litB [.t 32]) [32],oo 34 (.app [.u8 0] 1 (.t 26) (.t 33)) [26,33],omk 3 34]
def MB:List RI:=[omk 24 5,oo 25 (Bc .sub 24 1) [24],omk 5 25]
def tH:RC:=(.post (Sq (So MD (Kc 23 (Kk [23] .skip) (Kk [4,5,23] (.exit 2)))) (Sq (Bk 3 (.ops MC)) (.ops MB))) [.tok 3 103])
def sQ:RC:=tH
def Ba:List RI:=[omk 35 3,omk 2 35]
def xlN:RC:=(So jJ (So MI (Sq (Bk 0 (.pre [.tok 3 103] (.loop za))) (So MF (Sq (So ME (Bk 2 (.pre [.tok 3 103] (.loop sQ)))) (So Ba .ret))))))
def xbm:FnC:=⟨xlN,36,[.tmp 2],[],[]⟩
def ql:List RI:=[oo 4 (.mov (.c (.int .u32 0))) [4]]
def y9:List FI:=[Fm 0 5 0,Fm 1 6 1,Fs 2 7 (.bin .mul (ci 4) (.t 6)),Fs 3 8 (Ia 1 5 7),Fs 4 9 (Ld 8),Fs 5 10 (.toInt .u32 (.t 9)),Fs 6 11 (.bin .shl (.t 10) (.c (.int .u64 24))),Fm 7 12 0,Fm 8 13 1,Fs 9 14 (.bin .mul (ci 4) (.t 13)),Fs 10 15 (Bc .add 14 1),Fs 11 16 (Ia 1 12 15),Fs 12 17 (Ld 16),Fs 13 18 (.toInt .u32 (.t 17)),Fs 14 19 (.bin .shl (.t 18) (.c (.int .u64 16))),Fs 15 20 (Bb .or 11 19),Fm 16 21 0,Fm 17 22 1,Fs 18 23 (.bin .mul (ci 4) (.t 22)),Fs 19 24 (Bc .add 23 2),Fs 20 25 (Ia 1 21 24),Fs 21 26 (Ld 25),Fs 22 27 (.toInt .u32 (.t 26)),Fs 23 28 (.bin .shl (.t 27) (.c (.int .u64 8))),Fs 24 29 (Bb .or 20 28),Fm 25 30 0,Fm 26 31 1,Fs 27 32 (.bin .mul (ci 4) (.t 31)),Fs 28 33 (Bc .add 32 3),Fs 29 34 (Ia 1 30 33),Fs 30 35 (Ld 34),Fs 31 36 (.toInt .u32 (.t 35)),Fs 32 37 (Bb .or 29 36),Fm 33 4 37]
def xlM:RC:=(So ql (Sq (.flt [0,0,2,7,15,31,63,0,0,256,768,1920,3968,8064,16256,32767,0,0,131072,393216,983040,2031616,4128768,8323072,16777215,0,0,67108864,201326592,503316480,1040187392,2113929216,4294967295,8589934591] [] y9 [0,1,5,6,7,8,9,10,11,12,13,14,15,16,17,18,19,20,21,22,23,24,25,26,27,28,29,30,31,32,33,34,35,36,37]) .ret))
def xbl:FnC:=⟨xlM,38,[.tmp 4],[],[]⟩
def MA:List RI:=[om 5 0,om 6 1,oo 7 (Bb .shr 5 6) [5,6],omk 8 0,omk 9 1,oo 10 (.bin .sub (.c (.int .u64 32)) (.t 9)) [9],oo 11 (Bb .shl 8 10) [8,10],oo 12 (Bb .or 7 11) [7,11],omk 4 12]
def xlL:RC:=(So ql (So MA .ret))
def xbk:FnC:=⟨xlL,13,[.tmp 4],[],[]⟩
def Mz:List RI:=[on 3 (.mov (.c (.byt [] .clip)))]
def My:List RI:=[om 5 4,om 6 0,oo 7 (Ln 6) [6],oo 8 (Bb .lss 5 7) [5,7]]
def Mx:List FI:=[Fm 0 11 3,Fm 1 12 0,Fm 2 13 4,Fs 3 14 (Ia 1 12 13),Fs 4 15 (Ld 14),Fs 5 16 (.bin .shr (.t 15) (.c (.int .u64 24))),Fs 6 17 (.toInt .u8 (.t 16)),Fm 7 18 0,Fm 8 19 4,Fs 9 20 (Ia 1 18 19),Fs 10 21 (Ld 20),Fs 11 22 (.bin .shr (.t 21) (.c (.int .u64 16))),Fs 12 23 (.toInt .u8 (.t 22)),Fm 13 24 0,Fm 14 25 4,Fs 15 26 (Ia 1 24 25),Fs 16 27 (Ld 26),Fs 17 28 (.bin .shr (.t 27) (.c (.int .u64 8))),Fs 18 29 (.toInt .u8 (.t 28)),Fm 19 30 0,Fm 20 31 4,Fs 21 32 (Ia 1 30 31),Fs 22 33 (Ld 32),Fs 23 34 (.toInt .u8 (.t 33)),Fs 24 35 (.litB [.t 17,.t 23,.t 29,.t 34]),Fz 25 36 (.app [.u8 0] 1 (.t 11) (.t 35)),⟨26,false,(xm 3 36)⟩]
def Mw:List RI:=[omk 9 4,oo 10 (Bc .add 9 1) [9],omk 4 10]
def Ac:RC:=(.post (Sq (So My (Kc 8 (Kk [8] .skip) (Kk [0,4,8] (.exit 0)))) (Sq (Bk 1 (.flt [0,0,0,6,14,30,62,0,0,384,896,1920,3968,0,0,24576,57344,122880,253952,0,0,1572864,3670016,7864320,16777214,33554431,67108863] [136] Mx [11,12,13,14,15,16,17,18,19,20,21,22,23,24,25,26,27,28,29,30,31,32,33,34,35,36])) (.ops Mw))) [.tok 3 103])
def y8:RC:=Ac
def xlK:RC:=(So jJ (So Mz (Sq (So gn (Bk 0 (.pre [.tok 3 103] (.loop y8)))) (So sV .ret))))
def xbj:FnC:=⟨xlK,38,[.tmp 2],[],[]⟩
def Mu:List RI:=[om 3 0,oo 4 (Bc .eql 3 1) [3],omk 5 4,.grp 5 false [(xi 6 5 false (Mv 0)),(xi 7 5 false (Bc .eql 6 2))] [6],oo 8 (Pt 5 7) [5,7],omk 9 8,.grp 9 false [(xi 10 9 false (Mv 0)),(xi 11 9 false (Bc .eql 10 4))] [10],oo 12 (Pt 9 11) [9,11],omk 13 12,.grp 13 false [(xi 14 13 false (Mv 0)),(xi 15 13 false (Bc .eql 14 8))] [0,14],oo 16 (Pt 13 15) [13,15],omk 2 16]
def xlJ:RC:=(So qT (So Mu .ret))
def xbi:FnC:=⟨xlJ,17,[.tmp 2],[],[]⟩
def Mt:List RI:=[om 7 6,oo 8 (.bin .mul (ci 2) (.t 7)) [7],oo 9 (Bc .add 8 1) [8],om 10 1,oo 11 (Ln 10) [10],oo 12 (Bb .lss 9 11) [9,11]]
def Ms:List FI:=[Fm 0 15 5,Fm 1 16 0,Fm 2 17 6,Fm 3 18 1,Fm 4 19 6,Fs 5 20 (.bin .mul (ci 2) (.t 19)),Fs 6 21 (Ia 1 18 20),Fs 7 22 (Ld 21),Fm 8 23 1,Fm 9 24 6,Fs 10 25 (.bin .mul (ci 2) (.t 24)),Fs 11 26 (Bc .add 25 1),Fs 12 27 (Ia 1 23 26),Fs 13 28 (Ld 27),Fz 14 29 (Ca 179 [.t 16,.t 17,.t 22,.t 28]),Fs 15 30 (.lit 1 [.t 29]),Fz 16 31 (.app [.byt [] .clip] 24 (.t 15) (.t 30)),⟨17,false,(xm 5 31)⟩]
def y7:List RI:=[omk 13 6,oo 14 (Bc .add 13 1) [13],omk 6 14]
def Ab:RC:=(.post (Sq (So Mt (Kc 12 (Kk [12] .skip) (Kk [0,1,6,12] (.exit 0)))) (Sq (Bk 1 (.flt [0,0,0,0,0,16,56,120,0,0,512,1536,3840,7936,16382,32766,65535,131071] [131] Ms [15,16,17,18,19,20,21,22,23,24,25,26,27,28,29,30,31])) (.ops y7))) [.tok 5 105])
def Mr:RC:=Ab
def Mq:List RI:=[omk 32 5,omk 4 32]
def xlI:RC:=(So ud (So uh (Sq (So kI (Bk 0 (.pre [.tok 5 105] (.loop Mr)))) (So Mq .ret))))
def xbh:FnC:=⟨xlI,33,[.tmp 4],[],[]⟩
def Mp:List RI:=[on 3 (.litB []),omk 4 0,oo 5 (.app [.u8 0] 1 (.t 3) (.t 4)) [3,4],omk 2 5]
def xlH:RC:=(So jJ (So Mp .ret))
def xbg:FnC:=⟨xlH,6,[.tmp 2],[],[]⟩
def Mo:List RI:=[om 7 1,oo 8 (Bc .lss 7 0) [7],omk 9 8,.grp 9 false [(xi 10 9 false (Mv 1)),(xi 11 9 false (Bc .gtr 10 255))] [10],oo 12 (Pt 9 11) [9,11]]
def Mn:List RI:=[on 5 (.mov (.c (.byt [] .clip)))]
def Mm:List RI:=[om 13 6,oo 14 (Bc .lss 13 35) [13]]
def Ml:List RI:=[omk 17 5,om 18 1,om 19 6,om 20 0,om 21 1,om 22 6,oo 23 (Ca 144 [.t 20,.t 21,.t 22]) [20,21,22],oo 24 (Ca 143 [.t 18,.t 19,ci 0,ci 15,.t 23]) [18,19,23],oo 25 (.app [.u8 0] 1 (.t 17) (.t 24)) [17,24],omk 5 25]
def y6:List RI:=[omk 15 6,oo 16 (Bc .add 15 1) [15],omk 6 16]
def Aa:RC:=(.post (Sq (So Mm (Kc 14 (Kk [14] .skip) (Kk [0,6,14] (.exit 0)))) (Sq (Bk 1 (.ops Ml)) (.ops y6))) [.tok 5 105])
def uq:RC:=Aa
def Mj:List RI:=[omk 26 1,omk 27 5,oo 28 (Ca 180 [.t 26,.t 27]) [26,27],omk 4 28]
def xlG:RC:=(So ff (Sq (So Mo (Kc 12 (Kk [0,1,12] (So gP .ret)) (Kk [12] .skip))) (So Mn (Sq (So kI (Bk 0 (.pre [.tok 5 105] (.loop uq)))) (So Mj .ret)))))
def xbf:FnC:=⟨xlG,29,[.tmp 4],[],[]⟩
def Mi:List RI:=[om 5 0,oo 6 (.len true (.t 5)) [5],oo 7 (Bc .lss 6 1) [6],omk 8 7,.grp 8 false [(xi 9 8 false (Mv 0)),(xi 10 8 false (.len true (.t 9))),(xi 11 8 false (Bc .gtr 10 12))] [9,10],oo 12 (Pt 8 11) [8,11]]
def y5:List RI:=[on 2 (Mb false)]
def Mh:List RI:=[om 13 3,om 14 0,oo 15 (.len true (.t 14)) [14],oo 16 (Bb .lss 13 15) [13,15]]
def Mg:List RI:=[om 19 0,om 20 3,oo 21 (.idxS (.t 19) (.t 20)) [19,20],omk 4 21]
def Mf:List RI:=[om 22 4,oo 23 (.bin .lss (.t 22) (.c (.u8 97))) [22],omk 24 23,.grp 24 false [(xi 25 24 false (Mv 4)),(xi 26 24 false (.bin .gtr (.t 25) (.c (.u8 122))))] [25],oo 27 (Pt 24 26) [24,26],omk 28 27,.grp 28 true [(xi 29 28 true (Mv 4)),(xi 30 28 true (.bin .lss (.t 29) (.c (.u8 48)))),(xi 31 28 true (Mv 30))] [29,30],.grp 31 false [(xi 32 31 false (Mv 4)),(xi 33 31 false (.bin .gtr (.t 32) (.c (.u8 57))))] [32],.grp 28 true [(xi 34 28 true (Pt 31 33))] [31,33],oo 35 (Pf 28 34) [28,34],omk 36 35,.grp 36 true [(xi 37 36 true (Mv 4)),(xi 38 36 true (.bin .neq (.t 37) (.c (.u8 45))))] [4,37],oo 39 (Pf 36 38) [36,38]]
def y4:List RI:=[omk 17 3,oo 18 (Bc .add 17 1) [17],omk 3 18]
def z8:RC:=(Sq (So Mh (Kc 16 (Kk [16] .skip) (Kk [0,3,16] (.exit 0)))) (Sq (Bk 1 (So Mg (So Mf (Kc 39 (Kk [0,3,39] (So y5 .ret)) (Kk [39] .skip))))) (.ops y4)))
def y3:RC:=z8
def A9:List RI:=[on 2 (Mb true)]
def xlF:RC:=(So qT (Sq (So Mi (Kc 12 (Kk [0,12] (So y5 .ret)) (Kk [12] .skip))) (Sq (So qV (Bk 0 (.loop y3))) (So A9 .ret))))
def xbe:FnC:=⟨xlF,40,[.tmp 2],[],[]⟩
def Me:List RI:=[on 5 (Fa 0 2),oo 6 (Ld 5) [5],on 7 (Fa 0 3),oo 8 (Ld 7) [7],oo 9 (Bb .neq 6 8) [6,8]]
def Md:List RI:=[oo 10 (Fa 0 2) [2],oo 11 (Ld 10) [10],oo 12 (Fa 0 3) [3],oo 13 (Ld 12) [12],oo 14 (Bb .lss 11 13) [11,13],omk 4 14]
def Ma:List RI:=[on 15 (Fa 1 2),oo 16 (Ld 15) [15],on 17 (Fa 1 3),oo 18 (Ld 17) [17],oo 19 (Bb .neq 16 18) [16,18]]
def L9:List RI:=[oo 20 (Fa 1 2) [2],oo 21 (Ld 20) [20],oo 22 (Fa 1 3) [3],oo 23 (Ld 22) [22],oo 24 (Bb .lss 21 23) [21,23],omk 4 24]
def L8:List RI:=[on 25 (Fa 2 2),oo 26 (Ld 25) [25],on 27 (Fa 2 3),oo 28 (Ld 27) [27],oo 29 (Bb .neq 26 28) [26,28]]
def L7:List RI:=[oo 30 (Fa 2 2) [2],oo 31 (Ld 30) [30],oo 32 (Fa 2 3) [3],oo 33 (Ld 32) [32],oo 34 (Bb .lss 31 33) [31,33],omk 4 34]
def L6:List RI:=[oo 35 (Fa 3 2) [2],oo 36 (Ld 35) [35],oo 37 (Fa 3 3) [3],oo 38 (Ld 37) [37],oo 39 (Ca 181 [.t 36,.t 38]) [36,38],omk 4 39]
def xlE:RC:=(So DU (Sq (So Me (Kc 9 (Kk [9] (So Md .ret)) (Kk [9] .skip))) (Sq (So Ma (Kc 19 (Kk [19] (So L9 .ret)) (Kk [19] .skip))) (Sq (So L8 (Kc 29 (Kk [29] (So L7 .ret)) (Kk [29] .skip))) (So L6 .ret)))))
def xbd:FnC:=⟨xlE,40,[.tmp 4],[],[]⟩
def L5:List RI:=[on 4 (Fa 0 1),oo 5 (Ld 4) [4],oo 6 (Bc .lss 5 1) [5],omk 7 6,.grp 7 false [(xi 8 7 false (Fa 0 1)),(xi 9 7 false (Ld 8)),(xi 10 7 false (Bc .gtr 9 4))] [8,9],oo 11 (Pt 7 10) [7,10]]
def L4:List RI:=[om 12 3,on 13 (Fa 1 1),oo 14 (Ld 13) [13],oo 15 (.len true (.t 14)) [14],oo 16 (Bb .lss 12 15) [12,15]]
def L3:List RI:=[on 19 (Fa 1 1),oo 20 (Ld 19) [19],om 21 3,oo 22 (.idxS (.t 20) (.t 21)) [20,21],oo 23 (.bin .lss (.t 22) (.c (.u8 32))) [22],omk 24 23,.grp 24 false [(xi 25 24 false (Fa 1 1)),(xi 26 24 false (Ld 25)),(xi 27 24 false (Mv 3)),(xi 28 24 false (.idxS (.t 26) (.t 27))),(xi 29 24 false (.bin .gtr (.t 28) (.c (.u8 126))))] [25,26,27,28],oo 30 (Pt 24 29) [24,29]]
def z7:RC:=(Sq (So L4 (Kc 16 (Kk [16] .skip) (Kk [3,16] (.exit 0)))) (Sq (Bk 1 (So L3 (Kc 30 (Kk [1,3,30] (So fC .ret)) (Kk [30] .skip)))) (.ops y4)))
def y2:RC:=z7
def L2:List RI:=[on 31 (Fa 0 1),oo 32 (Ld 31) [31],oo 33 (Bc .eql 32 4) [32]]
def A8:List RI:=[on 34 (Fa 2 1),oo 35 (Ld 34) [34],oo 36 (Bc .lss 35 0) [35],omk 37 36,.grp 37 false [(xi 38 37 false (Fa 2 1)),(xi 39 37 false (Ld 38)),(xi 40 37 false (Fa 3 1)),(xi 41 37 false (Ld 40)),(xi 42 37 false (Bb .gtr 39 41))] [38,39,40,41],oo 43 (Pt 37 42) [37,42],omk 44 43,.grp 44 false [(xi 45 44 false (Fa 3 1)),(xi 46 44 false (Ld 45)),(xi 47 44 false (Bc .gtr 46 1000000000))] [45,46],oo 48 (Pt 44 47) [44,47]]
def A7:List RI:=[on 49 (Fa 2 1),oo 50 (Ld 49) [49],oo 51 (Bc .neq 50 0) [50],omk 52 51,.grp 52 false [(xi 53 52 false (Fa 3 1)),(xi 54 52 false (Ld 53)),(xi 55 52 false (Bc .neq 54 0))] [53,54],oo 56 (Pt 52 55) [52,55]]
def A6:List RI:=[on 57 (Fa 0 1),oo 58 (Ld 57) [57],oo 59 (Bc .eql 58 1) [58],omk 60 59,.grp 60 true [(xi 61 60 true (Fa 1 1)),(xi 62 60 true (Ld 61)),(xi 63 60 true (.bin .neq (.t 62) (.c (.str []))))] [61,62],oo 64 (Pf 60 63) [60,63]]
def A5:List RI:=[oo 65 (Fa 1 1) [1],oo 66 (Ld 65) [65],oo 67 (.len true (.t 66)) [66],oo 68 (Bc .gtr 67 32) [67]]
def xlD:RC:=(So nD (Sq (So L5 (Kc 11 (Kk [1,11] (So fC .ret)) (Kk [11] .skip))) (Sq (So qV (Bk 0 (.loop y2))) (Sq (So L2 (Kc 33 (Kk [33] (So A8 (Kc 48 (Kk [1,48] (So fC .ret)) (Kk [48] .skip)))) (Kk [33] (So A7 (Kc 56 (Kk [1,56] (So fC .ret)) (Kk [56] .skip)))))) (Sq (So A6 (Kc 64 (Kk [1,64] (So fC .ret)) (Kk [64] .skip))) (Sq (So A5 (Kc 68 (Kk [68] (So nC .ret)) (Kk [68] .skip))) (So iF .ret)))))))
def xbc:FnC:=⟨xlD,69,[.tmp 2],[],[]⟩
def L1:List RI:=[on 4 (Lt 4 1),oo 5 (Ca 182 [.t 4]) [4],oo 6 (Bc .neq 5 0) [5]]
def L0:List RI:=[on 7 (Fa 0 1),oo 8 (Ld 7) [7],oo 9 (Ca 45 [(.c (.byt [] .clip)),ci 1,.t 8]) [8],omk 3 9]
def LZ:List RI:=[omk 10 3,on 11 (Fa 2 1),oo 12 (Ld 11) [11],oo 13 (Ca 45 [.t 10,ci 4,.t 12]) [10,12],omk 3 13]
def LY:List RI:=[omk 14 3,on 15 (Fa 1 1),oo 16 (Ld 15) [15],oo 17 (.s2b (.t 16)) [16],oo 18 (Ca 82 [.t 14,.t 17]) [14,17],omk 3 18]
def LX:List RI:=[omk 19 3,oo 20 (Fa 3 1) [1],oo 21 (Ld 20) [20],oo 22 (Ca 82 [.t 19,.t 21]) [19,21],omk 2 22]
def xlC:RC:=(So xu (Sq (So L1 (Kc 6 (Kk [1,6] (So ul .ret)) (Kk [6] .skip))) (So L0 (So LZ (So LY (So LX .ret))))))
def xbb:FnC:=⟨xlC,23,[.tmp 2],[],[]⟩
def LW:List RI:=[on 4 (.build [.str [],.str [],.str [],.str [],.str [],.str []] [(0,1,(.c (.str [97,61,49]))),(1,1,(.c (.str [99,111,117,110,116,61,53]))),(2,1,(.c (.str [99,111,117,110,116,61,49,55]))),(3,1,(.c (.str [104,111,115,116,61,120]))),(4,1,(.c (.str [109,111,100,101,32,98]))),(5,1,(.c (.str [126])))]),on 3 (.new (.arr 1 (aE 6 [.str []]))),Sr 6 3 4 [4]]
def LV:List RI:=[omk 5 0,oo 6 (Ca 52 [.t 5,ci 6]) [5],oo 7 (.iaddrA 6 1 (.t 3) (.t 6)) [3,6],oo 8 (Ld 7) [7],oo 9 (.s2b (.t 8)) [8],omk 2 9]
def xlB:RC:=(So jJ (So LW (So LV .ret)))
def xba:FnC:=⟨xlB,10,[.tmp 2],[],[]⟩
def LU:List RI:=[om 3 0,oo 4 (Bc .geq 3 0) [3],omk 5 4,.grp 5 true [(xi 6 5 true (Mv 0)),(xi 7 5 true (Bc .leq 6 255))] [0,6],oo 8 (Pf 5 7) [5,7],omk 2 8]
def xlA:RC:=(So qT (So LU .ret))
def xa9:FnC:=⟨xlA,9,[.tmp 2],[],[]⟩
def uo:List RI:=[oo 2 (.mov (.c (.lst 1 [] .clip))) [2]]
def yZ:List RI:=[on 3 (.mov (.c (.lst 1 [] .clip)))]
def LS:List RI:=[omk 9 0,oo 10 (.lit 1 [.t 9]) [9],oo 11 (Ca 183 [ci 4,.t 10]) [10],oo 12 (.slcL 1 (.t 11) none (some (ci 16)) none) [11],on 13 (Ln 12),on 14 (Mc 0)]
def LR:List RI:=[on 16 (Ia 1 12 14),oo 17 (Ld 16) [16],omk 6 17]
def LQ:List RI:=[om 18 6,oo 19 (.bin .shr (.t 18) (.c (.int .u64 4))) [18],oo 20 (.toInt .i64 (.t 19)) [19],omk 21 6,oo 22 (.bin .and (.t 21) (.c (.u8 15))) [21],oo 23 (.toInt .i64 (.t 22)) [22],oo 24 (.build [.int .i64 0,.int .i64 0] [(0,1,(.t 20)),(1,1,(.t 23))]) [20,23],on 25 (Mc 0)]
def LP:List RI:=[on 26 (Bc .lss 25 2)]
def LO:List RI:=[on 27 (.idxA 2 1 false (.t 24) (.t 25)),omk 8 27]
def LN:List RI:=[omk 28 3,om 29 8,oo 30 (.lit 1 [.t 29]) [29],oo 31 (.app [.int .i64 0] 8 (.t 28) (.t 30)) [28,30],omk 3 31]
def A4:List RI:=[omk 32 4,omk 33 8,oo 34 (.bin .sub (ci 15) (.t 33)) [33],oo 35 (Bb .add 32 34) [32,34],omk 4 35]
def A3:List RI:=[oo 36 (Bc .add 25 1) [25],omk 25 36]
def tG:RC:=(.post (So LP (Sq (Kc 26 (Kk [26] .skip) (Kk [24,25,26] (.exit 2))) (Sq (Bk 3 (So LO (So LN (.ops A4)))) (.ops A3)))) [.tok 3 103])
def A2:RC:=tG
def A1:List RI:=[oo 37 (Bc .add 14 1) [14],omk 14 37]
def tF:RC:=(.post (So DO (Sq (Kc 15 (Kk [15] .skip) (Kk [12,13,14,15] (.exit 0))) (Sq (Bk 1 (So LR (So LQ (Bk 2 (.pre [.tok 3 103] (.loop A2)))))) (.ops A1)))) [.tok 3 103])
def sP:RC:=tF
def AZ:List RI:=[omk 38 3,om 39 4,oo 40 (.bin .shr (.t 39) (.c (.int .u64 8))) [39],om 41 4,oo 42 (.bin .shr (.t 41) (.c (.int .u64 4))) [41],oo 43 (Bc .and 42 15) [42],omk 44 4,oo 45 (Bc .and 44 15) [44],oo 46 (.lit 1 [.t 40,.t 43,.t 45]) [40,43,45],oo 47 (.app [.int .i64 0] 8 (.t 38) (.t 46)) [38,46],omk 2 47]
def xlz:RC:=(So uo (So yZ (So gn (Sq (So LS (Bk 0 (.pre [.tok 3 103] (.loop sP)))) (So AZ .ret)))))
def xa8:FnC:=⟨xlz,48,[.tmp 2],[],[]⟩
def yY:List RI:=[oo 5 (Ld 1) [1],oo 6 (Ld 2) [2],omk 7 0,oo 8 (Ca 134 [.t 5,.t 6,.t 7]) [5,6,7],omk 4 8]
def xly:RC:=(So ff (So yY .ret))
def xa7:FnC:=⟨xly,9,[.tmp 4],[],[]⟩
def LM:List RI:=[omk 7 0,omk 8 1,oo 9 (.toInt .u8 (.t 8)) [8],omk 10 2,oo 11 (.toInt .u8 (.t 10)) [10],oo 12 (.litB [.t 9,.t 11]) [9,11],oo 13 (Ca 138 [.t 7,(.c (.str [99,104,97,105,110])),.t 12,ci 16]) [7,12],omk 6 13]
def xlx:RC:=(So oC (So LM .ret))
def xa6:FnC:=⟨xlx,14,[.tmp 6],[],[]⟩
def um:List RI:=[on 9 (.mov (.c (.byt [] .clip)))]
def LL:List RI:=[on 14 (Bc .lss 13 35)]
def LK:List RI:=[om 15 13,omk 10 15]
def LJ:List RI:=[om 16 1,om 17 10,oo 18 (.call (.t 16) [.t 17]) [16,17],omk 11 18]
def LI:List RI:=[om 19 2,om 20 10,oo 21 (.call (.t 19) [.t 20]) [19,20],omk 12 21]
def LH:List RI:=[om 22 12,om 23 3,om 24 10,oo 25 (.call (.t 23) [.t 24]) [23,24],oo 26 (Bb .lss 22 25) [22,25]]
def LG:List RI:=[om 29 0,om 30 10,om 31 12,omk 32 11,oo 33 (Ca 184 [.t 29,.t 30,.t 31,.t 32]) [29,30,31,32],omk 11 33]
def LF:List RI:=[omk 27 12,oo 28 (Bc .add 27 1) [27],omk 12 28]
def tE:RC:=(Sq (So LH (Kc 26 (Kk [26] .skip) (Kk [10,12,26] (.exit 2)))) (Sq (Bk 3 (.ops LG)) (.ops LF)))
def me:RC:=tE
def AY:List RI:=[omk 34 9,omk 35 11,oo 36 (.app [.u8 0] 1 (.t 34) (.t 35)) [34,35],omk 9 36]
def AX:List RI:=[oo 37 (Bc .add 13 1) [13],omk 13 37]
def tD:RC:=(.post (So LL (Sq (Kc 14 (Kk [14] .skip) (Kk [0,1,2,3,13,14] (.exit 0))) (Sq (Bk 1 (So LK (So LJ (Sq (So LI (Bk 2 (.loop me))) (.ops AY))))) (.ops AX)))) [.tok 9 109])
def iP:RC:=tD
def AW:List RI:=[omk 38 9,omk 8 38]
def xlw:RC:=(So nA (So um (Sq (So xe6 (Bk 0 (.pre [.tok 9 109] (.loop iP)))) (So AW .ret))))
def xa5:FnC:=⟨xlw,39,[.tmp 8],[],[]⟩
def xlv:RC:=(Kk [0] (So kH (So iF .ret)))
def xa4:FnC:=⟨xlv,3,[.tmp 2],[],[]⟩
def yX:List RI:=[oo 3 (Mc 0) [3]]
def yW:List RI:=[oo 4 (Ld 1) [1],omk 5 0,oo 6 (Ia 1 4 5) [4,5],oo 7 (Ld 6) [6],omk 3 7]
def xlu:RC:=(So yX (So yW .ret))
def xa3:FnC:=⟨xlu,8,[.tmp 3],[],[]⟩
def yV:List RI:=[om 12 3,oo 13 (Bc .lss 12 1) [12],omk 14 13,.grp 14 false [(xi 15 14 false (Mv 3)),(xi 16 14 false (Bc .gtr 15 1024))] [15],oo 17 (Pt 14 16) [14,16]]
def LD:List RI:=[omk 18 1,.tks (xs 19 (.s2b (.t 18))) [18],on 20 (.litB [(.c (.u8 0))]),oo 21 (.app [.u8 0] 1 (.t 19) (.t 20)) [19,20],omk 22 2,oo 23 (.app [.u8 0] 1 (.t 21) (.t 22)) [21,22],omk 9 23]
def LC:List RI:=[omk 24 9,om 25 3,oo 26 (.bin .mul (ci 8) (.t 25)) [25],oo 27 (Ca 185 [.t 26]) [26],oo 28 (.app [.u8 0] 1 (.t 24) (.t 27)) [24,27],omk 9 28]
def LB:List RI:=[on 10 (.mov (.c (.byt [] .clip)))]
def LA:List RI:=[on 11 (Mc 1)]
def Lz:List RI:=[om 29 10,oo 30 (Ln 29) [29],om 31 3,oo 32 (Bb .lss 30 31) [30,31]]
def Ly:List RI:=[omk 35 10,om 36 0,om 37 11,oo 38 (Ca 185 [.t 37]) [37],om 39 9,oo 40 (.app [.u8 0] 1 (.t 38) (.t 39)) [38,39],oo 41 (Ca 186 [.t 36,.t 40]) [36,40],oo 42 (.app [.u8 0] 1 (.t 35) (.t 41)) [35,41],omk 10 42]
def Lx:List RI:=[omk 33 11,oo 34 (Bc .add 33 1) [33],omk 11 34]
def tC:RC:=(.post (Sq (So Lz (Kc 32 (Kk [32] .skip) (Kk [0,9,11,32] (.exit 0)))) (Sq (Bk 1 (.ops Ly)) (.ops Lx))) [.gc [140],.gcr 39000 40000,.tok 10 110])
def AV:RC:=tC
def AU:List RI:=[omk 43 10,om 44 3,omk 45 3,oo 46 (.slcL 1 (.t 43) none (some (.t 44)) (some (.t 45))) [43,44,45],omk 8 46]
def xlt:RC:=(So nA (Sq (So yV (Kc 17 (Kk [0,1,2,3,17] (So uf .ret)) (Kk [17] .skip))) (So LD (So LC (So LB (Sq (So LA (Bk 0 (.pre [.tok 10 110] (.loop AV)))) (So AU .ret)))))))
def xa2:FnC:=⟨xlt,47,[.tmp 8],[],[]⟩
def Lw:List RI:=[om 4 3,oo 5 (Bc .leq 4 3) [4]]
def Lv:List RI:=[om 8 0,om 9 3,oo 10 (.toInt .u64 (.t 9)) [9],oo 11 (.bin .shl (ci 1) (.t 10)) [10],oo 12 (Bb .eql 8 11) [8,11]]
def Lu:List RI:=[omk 13 3,omk 2 13]
def Ls:List RI:=[omk 6 3,oo 7 (Bc .add 6 1) [6],omk 3 7]
def z6:RC:=(Sq (So Lw (Kc 5 (Kk [5] .skip) (Kk [0,3,5] (.exit 0)))) (Sq (Bk 1 (So Lv (Kc 12 (Kk [0,12] (So Lu .ret)) (Kk [12] .skip)))) (.ops Ls)))
def Lr:RC:=z6
def Lq:List RI:=[on 2 (Mc (-1))]
def xls:RC:=(So kH (Sq (So qV (Bk 0 (.loop Lr))) (So Lq .ret)))
def xa1:FnC:=⟨xls,14,[.tmp 2],[],[]⟩
def Lp:List RI:=[omk 7 0,oo 8 (.lit 1 [.t 7]) [7],omk 3 8]
def Lo:List RI:=[om 9 3,om 10 4,oo 11 (Ia 1 9 10) [9,10],oo 12 (Ld 11) [11],oo 13 (Ln 12) [12],oo 14 (Bc .gtr 13 1) [13]]
def Lm:List RI:=[om 17 6,oo 18 (.bin .mul (ci 2) (.t 17)) [17],om 19 3,om 20 4,oo 21 (Ia 1 19 20) [19,20],oo 22 (Ld 21) [21],oo 23 (Ln 22) [22],oo 24 (Bb .lss 18 23) [18,23]]
def Ll:List FI:=[Fm 0 27 5,Fm 1 28 4,Fm 2 29 6,Fm 3 30 3,Fm 4 31 4,Fs 5 32 (Ia 1 30 31),Fs 6 33 (Ld 32),Fm 7 34 6,Fs 8 35 (.bin .mul (ci 2) (.t 34)),Fs 9 36 (Ia 1 33 35),Fs 10 37 (Ld 36),Fm 11 38 3,Fm 12 39 4,Fs 13 40 (Ia 1 38 39),Fs 14 41 (Ld 40),Fm 15 42 6,Fs 16 43 (.bin .mul (ci 2) (.t 42)),Fs 17 44 (Bc .add 43 1),Fs 18 45 (Ia 1 41 44),Fs 19 46 (Ld 45),Fz 20 47 (Ca 150 [.t 28,.t 29,.t 37,.t 46]),Fs 21 48 (.lit 1 [.t 47]),Fz 22 49 (.app [.byt [] .clip] 24 (.t 27) (.t 48)),⟨23,false,(xm 5 49)⟩]
def Lk:List RI:=[omk 25 6,oo 26 (Bc .add 25 1) [25],omk 6 26]
def zZ:RC:=(.post (Sq (So Lm (Kc 24 (Kk [24] .skip) (Kk [6,24] (.exit 2)))) (Sq (Bk 3 (.flt [0,0,0,0,0,24,56,0,128,504,1016,0,0,6144,14336,0,32768,98304,260096,522240,1048574,2097150,4194303,8388607] [149] Ll [27,28,29,30,31,32,33,34,35,36,37,38,39,40,41,42,43,44,45,46,47,48,49])) (.ops Lk))) [.tok 5 105])
def Lj:RC:=zZ
def AT:List RI:=[omk 50 3,omk 51 5,oo 52 (.lit 1 [.t 51]) [51],oo 53 (.app [.lst 1 [] .clip] 24 (.t 50) (.t 52)) [50,52],omk 3 53]
def AS:List RI:=[omk 15 4,oo 16 (Bc .add 15 1) [15],omk 4 16]
def tB:RC:=(.post (Sq (So Lo (Kc 14 (Kk [14] .skip) (Kk [4,14] (.exit 0)))) (Sq (Bk 1 (So uh (Sq (So kI (Bk 2 (.pre [.tok 5 105] (.loop Lj)))) (.ops AT)))) (.ops AS))) [.gc [149],.tok 3 103])
def AR:RC:=tB
def AQ:List RI:=[omk 54 3,omk 2 54]
def xlr:RC:=(So uo (So Lp (Sq (So gn (Bk 0 (.pre [.tok 3 103] (.loop AR)))) (So AQ .ret))))
def xa0:FnC:=⟨xlr,55,[.tmp 2],[],[]⟩
def Li:List RI:=[oo 2 (.box (.t 0)) [0],oo 3 (.box (.t 1)) [1],oo 4 (.mov (.c (.byt [] .clip))) [4]]
def Lh:List RI:=[on 6 (Ld 3),oo 7 (Ca 131 [.t 6]) [6],oo 8 (.un .not (.t 7)) [7]]
def Lg:List RI:=[oo 9 (.mkfn 187 [] [.t 2,.t 3]) [2],omk 5 9]
def Lf:List FI:=[Fs 0 10 (Ld 3),Fs 1 11 (Ld 3),Fm 2 12 5,Fz 3 13 (Ca 135 [.t 11,.t 12,(.f 188),(.f 189)]),Fz 4 14 (Ca 147 [.t 10,.t 13]),Fm 5 4 14]
def xlq:RC:=(So Li (Sq (So Lh (Kc 8 (Kk [2,3,8] (So gP .ret)) (Kk [8] .skip))) (So Lg (Sq (.flt [0,0,0,6,15,31] [] Lf [3,5,10,11,12,13,14]) .ret))))
def xaZ:FnC:=⟨xlq,15,[.tmp 4],[],[]⟩
def Le:List RI:=[omk 7 0,oo 8 (.lit 1 [.t 7]) [7],oo 9 (Ca 190 [ci 4,.t 8]) [8],oo 10 (.slcL 1 (.t 9) none (some (ci 16)) none) [9],omk 3 10]
def Lc:List RI:=[om 11 6,oo 12 (Bc .lss 11 16) [11]]
def Lb:List FI:=[Fm 0 15 4,Fm 1 16 3,Fm 2 17 6,Fs 3 18 (Ia 1 16 17),Fs 4 19 (Ld 18),Fs 5 20 (.bin .shr (.t 19) (.c (.int .u64 4))),Fs 6 21 (.toInt .i64 (.t 20)),Fm 7 22 3,Fm 8 23 6,Fs 9 24 (Ia 1 22 23),Fs 10 25 (Ld 24),Fs 11 26 (.bin .and (.t 25) (.c (.u8 15))),Fs 12 27 (.toInt .i64 (.t 26)),Fs 13 28 (.lit 1 [.t 21,.t 27]),Fz 14 29 (.app [.int .i64 0] 8 (.t 15) (.t 28)),⟨15,false,(xm 4 29)⟩]
def La:List FI:=[Fm 0 30 5,Fm 1 31 3,Fm 2 32 6,Fs 3 33 (Ia 1 31 32),Fs 4 34 (Ld 33),Fs 5 35 (.bin .shr (.t 34) (.c (.int .u64 4))),Fs 6 36 (.toInt .i64 (.t 35)),Fs 7 37 (.bin .sub (ci 30) (.t 36)),Fm 8 38 3,Fm 9 39 6,Fs 10 40 (Ia 1 38 39),Fs 11 41 (Ld 40),Fs 12 42 (.bin .and (.t 41) (.c (.u8 15))),Fs 13 43 (.toInt .i64 (.t 42)),Fs 14 44 (Bb .sub 37 43),Fs 15 45 (Bb .add 30 44),⟨16,false,(xm 5 45)⟩]
def zY:RC:=(.post (Sq (So Lc (Kc 12 (Kk [12] .skip) (Kk [3,6,12] (.exit 0)))) (Sq (Bk 1 (Sq (.flt [0,0,0,6,14,30,62,0,0,384,896,1920,3968,8190,16383,32767] [129] Lb [15,16,17,18,19,20,21,22,23,24,25,26,27,28,29]) (.flt [0,0,0,6,14,30,62,126,0,0,768,1792,3840,7936,16382,32767,65535] [] La [30,31,32,33,34,35,36,37,38,39,40,41,42,43,44,45]))) (.ops y7))) [.tok 4 104])
def yU:RC:=zY
def AP:List RI:=[omk 46 4,om 47 5,oo 48 (Bc .quo 47 256) [47],om 49 5,oo 50 (Bc .quo 49 16) [49],oo 51 (Bc .rem 50 16) [50],omk 52 5,oo 53 (Bc .rem 52 16) [52],oo 54 (.lit 1 [.t 48,.t 51,.t 53]) [48,51,53],oo 55 (.app [.int .i64 0] 8 (.t 46) (.t 54)) [46,54],omk 2 55]
def xlp:RC:=(So uo (So Le (So DQ (So oD (Sq (So kI (Bk 0 (.pre [.tok 4 104] (.loop yU)))) (So AP .ret))))))
def xaY:FnC:=⟨xlp,56,[.tmp 2],[],[]⟩
def K9:List RI:=[oo 10 (.mov (.c (.byt [] .clip))) [10]]
def K8:List RI:=[omk 12 2,omk 11 12]
def K7:List RI:=[om 13 11,om 14 3,oo 15 (Bb .lss 13 14) [13,14]]
def K6:List RI:=[om 18 0,oo 19 (.toInt .u8 (.t 18)) [18],om 20 1,oo 21 (.toInt .u8 (.t 20)) [20],om 22 11,oo 23 (.toInt .u8 (.t 22)) [22],oo 24 (.litB [.t 19,.t 21,.t 23]) [19,21,23],omk 25 4,oo 26 (.lit 1 [.t 24,.t 25]) [24,25],oo 27 (Ca 190 [ci 1,.t 26]) [26],oo 28 (.slcL 1 (.t 27) none (some (ci 16)) none) [27],omk 4 28]
def K5:List RI:=[omk 16 11,oo 17 (Bc .add 16 1) [16],omk 11 17]
def zX:RC:=(Sq (So K7 (Kc 15 (Kk [15] .skip) (Kk [0,1,3,11,15] (.exit 0)))) (Sq (Bk 1 (.ops K6)) (.ops K5)))
def yT:RC:=zX
def K4:List RI:=[omk 29 4,omk 10 29]
def xlo:RC:=(So K9 (Sq (So K8 (Bk 0 (.loop yT))) (So K4 .ret)))
def xaX:FnC:=⟨xlo,30,[.tmp 10],[],[]⟩
def K3:List RI:=[omk 7 0,omk 8 1,oo 9 (.toInt .u8 (.t 8)) [8],omk 10 2,oo 11 (.toInt .u8 (.t 10)) [10],oo 12 (.litB [.t 9,.t 11]) [9,11],oo 13 (Ca 145 [.t 7,(.c (.str [99,104,97,105,110])),.t 12,ci 16]) [7,12],omk 6 13]
def xln:RC:=(So oC (So K3 .ret))
def xaW:FnC:=⟨xln,14,[.tmp 6],[],[]⟩
def K2:List RI:=[on 10 (Mc 1)]
def K1:List RI:=[om 18 9,oo 19 (Ln 18) [18],om 20 3,oo 21 (Bb .lss 19 20) [19,20]]
def K0:List RI:=[om 24 10,oo 25 (Ca 191 [.t 24]) [24],om 26 1,oo 27 (.app [.u8 0] 1 (.t 25) (.t 26)) [25,26],omk 11 27]
def KZ:List RI:=[omk 28 11,on 29 (.litB [(.c (.u8 0))]),oo 30 (.app [.u8 0] 1 (.t 28) (.t 29)) [28,29],om 31 2,oo 32 (.app [.u8 0] 1 (.t 30) (.t 31)) [30,31],om 33 3,oo 34 (.bin .mul (ci 8) (.t 33)) [33],oo 35 (Ca 191 [.t 34]) [34],oo 36 (.app [.u8 0] 1 (.t 32) (.t 35)) [32,35],omk 11 36]
def KY:List RI:=[omk 37 9,om 38 0,omk 39 11,oo 40 (Ca 192 [.t 38,.t 39]) [38,39],oo 41 (.app [.u8 0] 1 (.t 37) (.t 40)) [37,40],omk 9 41]
def KX:List RI:=[omk 22 10,oo 23 (Bc .add 22 1) [22],omk 10 23]
def tA:RC:=(.post (Sq (So K1 (Kc 21 (Kk [21] .skip) (Kk [0,1,2,10,21] (.exit 0)))) (Sq (Bk 1 (So K0 (So KZ (.ops KY)))) (.ops KX))) [.gc [127,130,132,136],.gcr 26000 27000,.gcr 36000 37000,.tok 9 109])
def AO:RC:=tA
def AN:List RI:=[omk 42 9,omk 43 3,oo 44 (.slcL 1 (.t 42) none (some (.t 43)) none) [42,43],omk 8 44]
def xlm:RC:=(So nA (Sq (So yV (Kc 17 (Kk [0,1,2,3,17] (So uf .ret)) (Kk [17] .skip))) (So um (Sq (So K2 (Bk 0 (.pre [.tok 9 109] (.loop AO)))) (So AN .ret)))))
def xaV:FnC:=⟨xlm,45,[.tmp 8],[],[]⟩
def yS:List RI:=[oo 3 (.mov (.c (.byt [] .clip))) [3]]
def KW:List RI:=[oo 4 (Ld 1) [1],om 5 0,oo 6 (Bc .mul 5 16) [5],omk 7 0,oo 8 (Bc .add 7 1) [7],oo 9 (Bc .mul 8 16) [8],oo 10 (.slcL 1 (.t 4) (some (.t 6)) (some (.t 9)) none) [4,6,9],omk 3 10]
def xll:RC:=(So yS (So KW .ret))
def xaU:FnC:=⟨xll,11,[.tmp 3],[],[]⟩
def KV:List RI:=[omk 5 0,oo 6 (.toInt .u8 (.t 5)) [5],oo 7 (.litB [.t 6]) [6],omk 8 1,oo 9 (.lit 1 [.t 7,.t 8]) [7,8],oo 10 (Ca 183 [ci 2,.t 9]) [9],oo 11 (.slcL 1 (.t 10) none (some (ci 16)) (some (ci 16))) [10],omk 4 11]
def xlk:RC:=(So ff (So KV .ret))
def xaT:FnC:=⟨xlk,12,[.tmp 4],[],[]⟩
def xlj:RC:=(So yX (So yW .ret))
def xaS:FnC:=⟨xlj,8,[.tmp 3],[],[]⟩
def yR:List RI:=[on 2 (Mc 15)]
def xli:RC:=(Kk [0] (So kH (So yR .ret)))
def xaR:FnC:=⟨xli,3,[.tmp 2],[],[]⟩
def KU:List RI:=[omk 9 0,oo 10 (.toInt .u8 (.t 9)) [9],omk 11 1,oo 12 (.toInt .u8 (.t 11)) [11],oo 13 (.litB [.t 10,.t 12]) [10,12],omk 14 2,omk 15 3,oo 16 (.lit 1 [.t 13,.t 14,.t 15]) [13,14,15],oo 17 (Ca 183 [ci 3,.t 16]) [16],oo 18 (.slcL 1 (.t 17) none (some (ci 16)) (some (ci 16))) [17],omk 8 18]
def xlh:RC:=(So nA (So KU .ret))
def xaQ:FnC:=⟨xlh,19,[.tmp 8],[],[]⟩
def KT:List RI:=[oo 6 (.mov (.c (.byt [] .clip))) [6],oo 7 (Mb false) [7]]
def KS:List RI:=[om 11 0,oo 12 (Bc .lss 11 0) [11],omk 13 12,.grp 13 false [(xi 14 13 false (Mv 0)),(xi 15 13 false (Bc .gtr 14 255))] [14],oo 16 (Pt 13 15) [13,15],omk 17 16,.grp 17 false [(xi 18 17 false (Mv 2)),(xi 19 17 false (Ln 18)),(xi 20 17 false (Bc .neq 19 560))] [18,19],oo 21 (Pt 17 20) [17,20]]
def KR:List RI:=[omk 22 1,oo 23 (Ca 142 [.t 22]) [22],omk 8 23]
def yQ:List RI:=[on 10 (Mc 0)]
def KQ:List RI:=[om 24 10,oo 25 (Bc .lss 24 35) [24]]
def KP:List FI:=[Fm 0 28 9,Fm 1 29 0,Fm 2 30 10,Fm 3 31 8,Fm 4 32 10,Fs 5 33 (Ia 1 31 32),Fs 6 34 (Ld 33),Fm 7 35 2,Fm 8 36 10,Fs 9 37 (.bin .mul (ci 16) (.t 36)),Fm 10 38 10,Fs 11 39 (.bin .mul (ci 16) (.t 38)),Fs 12 40 (Bc .add 39 16),Fs 13 41 (.slcL 1 (.t 35) (some (.t 37)) (some (.t 40)) none),Fz 14 42 (Ca 143 [.t 29,.t 30,.t 34,ci 15,.t 41]),Fz 15 43 (.app [.u8 0] 1 (.t 28) (.t 42)),⟨16,false,(xm 9 43)⟩]
def KO:List RI:=[omk 26 10,oo 27 (Bc .add 26 1) [26],omk 10 27]
def zW:RC:=(.post (Sq (So KQ (Kc 25 (Kk [25] .skip) (Kk [2,8,10,25] (.exit 0)))) (Sq (Bk 1 (.flt [0,0,0,0,0,24,56,0,0,256,0,1024,3072,8064,16382,32767,65535] [143] KP [28,29,30,31,32,33,34,35,36,37,38,39,40,41,42,43])) (.ops KO))) [.tok 9 109])
def uj:RC:=zW
def AM:List RI:=[omk 44 0,omk 45 9,oo 46 (Ca 180 [.t 44,.t 45]) [44,45],omk 6 46,on 7 (Mb true)]
def xlg:RC:=(So KT (Sq (So KS (Kc 21 (Kk [0,1,2,21] (So Oo .ret)) (Kk [21] .skip))) (So KR (So um (Sq (So yQ (Bk 0 (.pre [.tok 9 109] (.loop uj)))) (So AM .ret))))))
def xaP:FnC:=⟨xlg,47,[.tmp 6,.tmp 7],[],[]⟩
def KN:List RI:=[om 9 2,oo 10 (Ln 9) [9],oo 11 (Bc .gtr 10 3) [10],omk 12 11,.grp 12 false [(xi 13 12 false (Mv 1)),(xi 14 12 false (Bc .lss 13 0))] [13],oo 15 (Pt 12 14) [12,14],omk 16 15,.grp 16 false [(xi 17 16 false (Mv 1)),(xi 18 16 false (Mv 2)),(xi 19 16 false (Ln 18)),(xi 20 16 false (.toInt .u64 (.t 19))),(xi 21 16 false (.bin .shl (ci 1) (.t 20))),(xi 22 16 false (Bb .geq 17 21))] [17,18,19,20,21],oo 23 (Pt 16 22) [16,22]]
def KM:List RI:=[omk 24 0,oo 25 (Ca 124 [.t 24]) [24],omk 7 25]
def KL:List RI:=[om 26 8,om 27 2,oo 28 (Ln 27) [27],oo 29 (Bb .lss 26 28) [26,28]]
def KK:List RI:=[om 32 1,oo 33 (Bc .rem 32 2) [32],oo 34 (Bc .eql 33 0) [33]]
def KJ:List RI:=[om 35 8,om 36 1,oo 37 (Bc .quo 36 2) [36],omk 38 7,om 39 2,om 40 8,oo 41 (Ia 1 39 40) [39,40],oo 42 (Ld 41) [41],oo 43 (Ca 179 [.t 35,.t 37,.t 38,.t 42]) [35,37,38,42],omk 7 43]
def KI:List RI:=[om 44 8,om 45 1,oo 46 (Bc .quo 45 2) [45],om 47 2,om 48 8,oo 49 (Ia 1 47 48) [47,48],oo 50 (Ld 49) [49],omk 51 7,oo 52 (Ca 179 [.t 44,.t 46,.t 50,.t 51]) [44,46,50,51],omk 7 52]
def KH:List RI:=[omk 53 1,oo 54 (Bc .quo 53 2) [53],omk 1 54]
def tz:RC:=(Sq (So KL (Kc 29 (Kk [29] .skip) (Kk [1,2,8,29] (.exit 0)))) (Sq (Bk 1 (Sq (So KK (Kc 34 (Kk [34] (.ops KJ)) (Kk [34] (.ops KI)))) (.ops KH))) (.ops yz)))
def sO:RC:=tz
def AL:List RI:=[omk 55 7,omk 6 55]
def xlf:RC:=(So oC (Sq (So KN (Kc 23 (Kk [0,1,2,23] (So xn .ret)) (Kk [23] .skip))) (So KM (Sq (So ug (Bk 0 (.loop sO))) (So AL .ret)))))
def xaO:FnC:=⟨xlf,56,[.tmp 6],[],[]⟩
def xle:RC:=(So ql (Sq (.flt [0,0,2,7,15,31,63,0,0,256,768,1920,3968,8064,16256,32767,0,0,131072,393216,983040,2031616,4128768,8323072,16777215,0,0,67108864,201326592,503316480,1040187392,2113929216,4294967295,8589934591] [] y9 [0,1,5,6,7,8,9,10,11,12,13,14,15,16,17,18,19,20,21,22,23,24,25,26,27,28,29,30,31,32,33,34,35,36,37]) .ret))
def xaN:FnC:=⟨xle,38,[.tmp 4],[],[]⟩
def KG:List RI:=[omk 6 1,oo 7 (.toInt .u64 (.t 6)) [6],oo 8 (.bin .and (.t 7) (.c (.int .u64 31))) [7],omk 5 8]
def KF:List RI:=[om 9 0,om 10 5,oo 11 (Bb .shl 9 10) [9,10],omk 12 0,omk 13 5,oo 14 (.bin .sub (.c (.int .u64 32)) (.t 13)) [13],oo 15 (Bb .shr 12 14) [12,14],oo 16 (Bb .or 11 15) [11,15],omk 4 16]
def xld:RC:=(So ql (So KG (So KF .ret)))
def xaM:FnC:=⟨xld,17,[.tmp 4],[],[]⟩
def KE:List RI:=[om 3 0,omk 4 0,oo 5 (Bb .neq 3 4) [3,4],omk 2 5]
def xlc:RC:=(So qT (So KE .ret))
def xaL:FnC:=⟨xlc,6,[.tmp 2],[],[]⟩
def KD:List RI:=[omk 9 0,oo 10 (.toInt .u8 (.t 9)) [9],omk 11 1,oo 12 (.toInt .u8 (.t 11)) [11],oo 13 (.litB [.t 10,.t 12]) [10,12],omk 14 2,omk 15 3,oo 16 (.lit 1 [.t 13,.t 14,.t 15]) [13,14,15],oo 17 (Ca 190 [ci 3,.t 16]) [16],oo 18 (.slcL 1 (.t 17) none (some (ci 16)) none) [17],omk 8 18]
def xlb:RC:=(So nA (So KD .ret))
def xaK:FnC:=⟨xlb,19,[.tmp 8],[],[]⟩
def KC:List RI:=[omk 5 0,oo 6 (.toInt .u8 (.t 5)) [5],oo 7 (.litB [.t 6]) [6],omk 8 1,oo 9 (.lit 1 [.t 7,.t 8]) [7,8],oo 10 (Ca 190 [ci 2,.t 9]) [9],oo 11 (.slcL 1 (.t 10) none (some (ci 16)) none) [10],omk 4 11]
def xla:RC:=(So ff (So KC .ret))
def xaJ:FnC:=⟨xla,12,[.tmp 4],[],[]⟩
def KB:List RI:=[om 6 5,om 7 0,oo 8 (Ln 7) [7],oo 9 (Bb .lss 6 8) [6,8],omk 10 9,.grp 10 true [(xi 11 10 true (Mv 5)),(xi 12 10 true (Mv 1)),(xi 13 10 true (Ln 12)),(xi 14 10 true (Bb .lss 11 13))] [11,12,13],oo 15 (Pf 10 14) [10,14]]
def KA:List FI:=[Fm 0 18 0,Fm 1 19 5,Fs 2 20 (Ia 1 18 19),Fs 3 21 (Ld 20),Fm 4 22 1,Fm 5 23 5,Fs 6 24 (Ia 1 22 23),Fs 7 25 (Ld 24),Fs 8 26 (Bb .neq 21 25)]
def Kz:List FI:=[Fm 0 27 0,Fm 1 28 5,Fs 2 29 (Ia 1 27 28),Fs 3 30 (Ld 29),Fm 4 31 1,Fm 5 32 5,Fs 6 33 (Ia 1 31 32),Fs 7 34 (Ld 33),Fs 8 35 (Bb .lss 30 34),Fm 9 4 35]
def Ky:List RI:=[omk 16 5,oo 17 (Bc .add 16 1) [16],omk 5 17]
def zV:RC:=(Sq (So KB (Kc 15 (Kk [15] .skip) (Kk [5,15] (.exit 0)))) (Sq (Bk 1 (Sq (.flt [0,0,3,7,0,0,48,112,255] [] KA [18,19,20,21,22,23,24,25]) (Kc 26 (Kk [26] (Sq (.flt [0,0,3,7,0,0,48,112,255,511] [] Kz [0,1,5,27,28,29,30,31,32,33,34,35]) .ret)) (Kk [26] .skip)))) (.ops Ky)))
def yP:RC:=zV
def Kx:List RI:=[omk 36 0,oo 37 (Ln 36) [36],omk 38 1,oo 39 (Ln 38) [38],oo 40 (Bb .lss 37 39) [37,39],omk 4 40]
def xk9:RC:=(So xq (Sq (So oD (Bk 0 (.loop yP))) (So Kx .ret)))
def xaI:FnC:=⟨xk9,41,[.tmp 4],[],[]⟩
def Kw:List RI:=[on 3 (Fa 0 1),oo 4 (Ld 3) [3],oo 5 (Bc .lss 4 1) [4],omk 6 5,.grp 6 false [(xi 7 6 false (Fa 0 1)),(xi 8 6 false (Ld 7)),(xi 9 6 false (Bc .gtr 8 4))] [7,8],oo 10 (Pt 6 9) [6,9],omk 11 10,.grp 11 false [(xi 12 11 false (Fa 2 1)),(xi 13 11 false (Ld 12)),(xi 14 11 false (Bc .lss 13 0))] [12,13],oo 15 (Pt 11 14) [11,14],omk 16 15,.grp 16 false [(xi 17 16 false (Fa 2 1)),(xi 18 16 false (Ld 17)),(xi 19 16 false (Bc .gtr 18 1000000))] [17,18],oo 20 (Pt 16 19) [16,19]]
def Kv:List RI:=[on 21 (Fa 1 1),oo 22 (Ld 21) [21],oo 23 (Ca 126 [.t 22]) [22],oo 24 (.un .not (.t 23)) [23]]
def Ku:List RI:=[on 25 (Fa 3 1),oo 26 (Ld 25) [25],oo 27 (Ln 26) [26],oo 28 (Bc .gtr 27 64) [27]]
def Kt:List RI:=[on 29 (Fa 0 1),oo 30 (Ld 29) [29],oo 31 (Bc .eql 30 4) [30],omk 32 31,.grp 32 true [(xi 33 32 true (Lt 4 1)),(xi 34 32 true (Ca 203 [.t 33])),(xi 35 32 true (Ln 34)),(xi 36 32 true (Bc .eql 35 0))] [1,33,34,35],oo 37 (Pf 32 36) [32,36]]
def xk8:RC:=(So nD (Sq (So Kw (Kc 20 (Kk [1,20] (So fC .ret)) (Kk [20] .skip))) (Sq (So Kv (Kc 24 (Kk [1,24] (So qU .ret)) (Kk [24] .skip))) (Sq (So Ku (Kc 28 (Kk [1,28] (So nC .ret)) (Kk [28] .skip))) (Sq (So Kt (Kc 37 (Kk [37] (So Ou .ret)) (Kk [37] .skip))) (So iF .ret))))))
def xaH:FnC:=⟨xk8,38,[.tmp 2],[],[]⟩
def Ks:List RI:=[omk 5 0,omk 6 1,oo 7 (Ca 204 [.t 5,.t 6]) [5,6],oo 8 (Ca 64 [ci 1,.t 7]) [7],omk 4 8]
def xk7:RC:=(So ff (So Ks .ret))
def xaG:FnC:=⟨xk7,9,[.tmp 4],[],[]⟩
def Kr:List RI:=[omk 9 0,oo 10 (.toInt .u8 (.t 9)) [9],omk 11 1,oo 12 (.toInt .u8 (.t 11)) [11],omk 13 2,oo 14 (.toInt .u8 (.t 13)) [13],oo 15 (.litB [.t 10,.t 12,.t 14]) [10,12,14],omk 16 3,oo 17 (.lit 1 [.t 15,.t 16]) [15,16],oo 18 (Ca 183 [ci 1,.t 17]) [17],oo 19 (.slcL 1 (.t 18) none (some (ci 16)) (some (ci 16))) [18],omk 8 19]
def xk6:RC:=(So nA (So Kr .ret))
def xaF:FnC:=⟨xk6,20,[.tmp 8],[],[]⟩
def yO:List RI:=[om 3 0,oo 4 (.bin .shr (.t 3) (.c (.int .u64 24))) [3],oo 5 (.toInt .u8 (.t 4)) [4],om 6 0,oo 7 (.bin .shr (.t 6) (.c (.int .u64 16))) [6],oo 8 (.toInt .u8 (.t 7)) [7],om 9 0,oo 10 (.bin .shr (.t 9) (.c (.int .u64 8))) [9],oo 11 (.toInt .u8 (.t 10)) [10],omk 12 0,oo 13 (.toInt .u8 (.t 12)) [12],oo 14 (.litB [.t 5,.t 8,.t 11,.t 13]) [5,8,11,13],omk 2 14]
def xk5:RC:=(So jJ (So yO .ret))
def xaE:FnC:=⟨xk5,15,[.tmp 2],[0],[]⟩
def Kq:List RI:=[oo 2 (.box (.t 0)) [0],oo 4 (.mov (.c (.byt [] .clip))) [4]]
def Kp:List RI:=[on 7 (Ld 2),oo 8 (Ln 7) [7],oo 9 (Bc .gtr 8 64) [8]]
def Ko:List RI:=[on 10 (Ld 2),oo 11 (Ca 64 [ci 1,.t 10]) [10],Sr 1 2 11 [11]]
def Kn:List RI:=[oo 12 (.mkfn 205 [] [.t 2]) [2],omk 5 12]
def Km:List RI:=[om 13 5,oo 14 (.call (.t 13) [(.c (.u8 54))]) [13],omk 15 1,oo 16 (.app [.u8 0] 1 (.t 14) (.t 15)) [14,15],oo 17 (Ca 64 [ci 1,.t 16]) [16],omk 6 17]
def Kj:List RI:=[omk 18 5,oo 19 (.call (.t 18) [(.c (.u8 92))]) [18],omk 20 6,oo 21 (.app [.u8 0] 1 (.t 19) (.t 20)) [19,20],oo 22 (Ca 64 [ci 1,.t 21]) [21],omk 4 22]
def xk4:RC:=(So Kq (Sq (So Kp (Kc 9 (Kk [9] (.ops Ko)) (Kk [9] .skip))) (So Kn (So Km (So Kj .ret)))))
def xaD:FnC:=⟨xk4,23,[.tmp 4],[],[]⟩
def xk3:RC:=(So ff (So yY .ret))
def xaC:FnC:=⟨xk3,9,[.tmp 4],[],[]⟩
def xk2:RC:=(Kk [0] (So kH (So iF .ret)))
def xaB:FnC:=⟨xk2,3,[.tmp 2],[],[]⟩
def xk1:RC:=(Kk [0] (So kH (So yR .ret)))
def xaA:FnC:=⟨xk1,3,[.tmp 2],[],[]⟩
def Ki:List RI:=[omk 5 0,omk 6 1,oo 7 (Ca 206 [.t 5,.t 6]) [5,6],oo 8 (Ca 73 [.t 7]) [7],omk 4 8]
def xk0:RC:=(So ff (So Ki .ret))
def xaz:FnC:=⟨xk0,9,[.tmp 4],[],[]⟩
def xkZ:RC:=(So jJ (So yO .ret))
def xay:FnC:=⟨xkZ,15,[.tmp 2],[0],[]⟩
def Kh:List RI:=[om 9 0,oo 10 (Ln 9) [9],oo 11 (Bc .gtr 10 64) [10]]
def Kg:List RI:=[omk 12 0,oo 13 (Ca 73 [.t 12]) [12],omk 0 13]
def Kf:List FI:=[Fz 0 14 (.mkB (ci 64) (ci 64)),Fm 2 5 14,Fz 1 15 (.mkB (ci 64) (ci 64)),Fm 3 6 15]
def Ke:List RI:=[om 16 7,oo 17 (Bc .lss 16 64) [16]]
def Kd:List RI:=[on 8 (.mov (.c (.u8 0)))]
def Kb:List RI:=[om 20 7,om 21 0,oo 22 (Ln 21) [21],oo 23 (Bb .lss 20 22) [20,22]]
def Ka:List RI:=[om 24 0,om 25 7,oo 26 (Ia 1 24 25) [24,25],oo 27 (Ld 26) [26],omk 8 27]
def J9:List RI:=[om 28 5,om 29 7,om 30 6,om 31 7,om 32 8,oo 33 (.bin .xor (.t 32) (.c (.u8 54))) [32],omk 34 8,oo 35 (.bin .xor (.t 34) (.c (.u8 92))) [34],oo 36 (Ia 1 28 29) [28,29],Sr 1 36 33 [33,36],oo 37 (Ia 1 30 31) [30,31],Sr 1 37 35 [35,37]]
def AK:List RI:=[omk 18 7,oo 19 (Bc .add 18 1) [18],omk 7 19]
def tx:RC:=(Sq (So Ke (Kc 17 (Kk [17] .skip) (Kk [0,7,17] (.exit 0)))) (Sq (Bk 1 (So Kd (Sq (So Kb (Kc 23 (Kk [8,23] (.ops Ka)) (Kk [23] .skip))) (.ops J9)))) (.ops AK)))
def sN:RC:=tx
def AJ:List RI:=[omk 38 6,omk 39 5,omk 40 1,.dir (.tok 39 139),oo 41 (.app [.u8 0] 1 (.t 39) (.t 40)) [39,40],oo 42 (Ca 73 [.t 41]) [41],.dir (.tok 38 138),oo 43 (.app [.u8 0] 1 (.t 38) (.t 42)) [38,42],oo 44 (Ca 73 [.t 43]) [43],omk 4 44]
def xkY:RC:=(So ff (Sq (So Kh (Kc 11 (Kk [11] (.ops Kg)) (Kk [11] .skip))) (Sq (.fla [0,0,1,7] [114,115] Kf [[0,2,1,3],[1,0,2,3]] [14,15]) (Sq (So xo (Bk 0 (.loop sN))) (So AJ .ret)))))
def xax:FnC:=⟨xkY,45,[.tmp 4],[],[]⟩
def J8:List RI:=[oo 1 (.box (.t 0)) [0],oo 2 (.mov (.c (.lst 1 [] .clip))) [2]]
def J7:List RI:=[om 7 5,on 8 (Fa 3 1),oo 9 (Ld 8) [8],oo 10 (Ln 9) [9],oo 11 (Bb .lss 7 10) [7,10]]
def J6:List RI:=[on 14 (Fa 3 1),oo 15 (Ld 14) [14],om 16 5,oo 17 (Ia 1 15 16) [15,16],oo 18 (Ld 17) [17],omk 6 18]
def J5:List RI:=[om 19 6,oo 20 (.bin .eql (.t 19) (.c (.u8 10))) [19]]
def J4:List RI:=[om 21 4,oo 22 (Ln 21) [21],oo 23 (Bc .eql 22 0) [22],omk 24 23,.grp 24 false [(xi 25 24 false (Mv 3)),(xi 26 24 false (Ln 25)),(xi 27 24 false (Bc .geq 26 4))] [25,26],oo 28 (Pt 24 27) [24,27]]
def ui:List RI:=[on 2 (.mov (.c (.lst 1 [] .clip)))]
def J3:List RI:=[omk 29 3,omk 30 4,oo 31 (.lit 1 [.t 30]) [30],oo 32 (.app [.byt [] .clip] 24 (.t 29) (.t 31)) [29,31],omk 3 32]
def AI:List RI:=[om 33 6,oo 34 (.bin .lss (.t 33) (.c (.u8 32))) [33],omk 35 34,.grp 35 false [(xi 36 35 false (Mv 6)),(xi 37 35 false (.bin .gtr (.t 36) (.c (.u8 126))))] [36],oo 38 (Pt 35 37) [35,37]]
def AH:List RI:=[omk 39 4,omk 40 6,oo 41 (.litB [.t 40]) [40],oo 42 (.app [.u8 0] 1 (.t 39) (.t 41)) [39,41],omk 4 42]
def AG:List RI:=[omk 12 5,oo 13 (Bc .add 12 1) [12],omk 5 13]
def tw:RC:=(.post (Sq (So J7 (Kc 11 (Kk [11] .skip) (Kk [1,5,11] (.exit 0)))) (Sq (Bk 1 (So J6 (Sq (So J5 (Kc 20 (Kk [6,20] (Sq (So J4 (Kc 28 (Kk [1,3,4,5,28] (So ui .ret)) (Kk [28] .skip))) (So J3 (So gP (.exit 1))))) (Kk [20] .skip))) (Sq (So AI (Kc 38 (Kk [1,3,4,5,6,38] (So ui .ret)) (Kk [38] .skip))) (.ops AH))))) (.ops AG))) [.tok 3 103,.tok 4 104])
def sM:RC:=tw
def AF:List RI:=[omk 43 4,oo 44 (Ln 43) [43],oo 45 (Bc .gtr 44 0) [44]]
def AE:List RI:=[omk 46 3,omk 2 46]
def xkX:RC:=(So J8 (So yZ (So gP (Sq (So oD (Bk 0 (.pre [.tok 3 103,.tok 4 104] (.loop sM)))) (Sq (So AF (Kc 45 (Kk [3,45] (So ui .ret)) (Kk [45] .skip))) (So AE .ret))))))
def xaw:FnC:=⟨xkX,47,[.tmp 2],[],[]⟩
def J2:List RI:=[omk 9 0,oo 10 (.toInt .u8 (.t 9)) [9],oo 11 (.litB [.t 10]) [10],omk 5 11]
def J1:List RI:=[omk 12 1,on 13 (Ln 12),on 14 (Mc 0)]
def J0:List RI:=[on 16 (Ia 1 12 14),oo 17 (Ld 16) [16],omk 7 17]
def JZ:List RI:=[om 18 7,oo 19 (Ln 18) [18],oo 20 (.toInt .u32 (.t 19)) [19],omk 8 20]
def JY:List RI:=[omk 21 5,om 22 8,oo 23 (.bin .shr (.t 22) (.c (.int .u64 24))) [22],oo 24 (.toInt .u8 (.t 23)) [23],om 25 8,oo 26 (.bin .shr (.t 25) (.c (.int .u64 16))) [25],oo 27 (.toInt .u8 (.t 26)) [26],om 28 8,oo 29 (.bin .shr (.t 28) (.c (.int .u64 8))) [28],oo 30 (.toInt .u8 (.t 29)) [29],omk 31 8,oo 32 (.toInt .u8 (.t 31)) [31],oo 33 (.litB [.t 24,.t 27,.t 30,.t 32]) [24,27,30,32],oo 34 (.app [.u8 0] 1 (.t 21) (.t 33)) [21,33],omk 5 34]
def JX:List RI:=[omk 35 5,omk 36 7,oo 37 (.app [.u8 0] 1 (.t 35) (.t 36)) [35,36],omk 5 37]
def JW:List RI:=[oo 38 (Bc .add 14 1) [14],omk 14 38]
def zU:RC:=(.post (So DO (Sq (Kc 15 (Kk [15] .skip) (Kk [12,13,14,15] (.exit 0))) (Sq (Bk 1 (So J0 (So JZ (So JY (.ops JX))))) (.ops JW)))) [.tok 5 105])
def yN:RC:=zU
def AD:List RI:=[omk 39 5,omk 4 39]
def xkW:RC:=(So ff (So J2 (Sq (So J1 (Bk 0 (.pre [.tok 5 105] (.loop yN)))) (So AD .ret))))
def xav:FnC:=⟨xkW,40,[.tmp 4],[],[]⟩
def JV:List RI:=[on 6 (.mkB (ci 64) (ci 64)),omk 4 6]
def JU:List RI:=[om 7 4,oo 8 (Ld 1) [1],oo 9 (.cpy 1 (.t 7) (.t 8)) [7,8,9]]
def JT:List RI:=[on 11 (Bc .lss 10 64)]
def JS:List RI:=[om 12 10,omk 5 12]
def JR:List RI:=[om 13 4,omk 14 5,on 15 (Ia 1 13 14),oo 16 (Ld 15) [15],om 17 0,oo 18 (Bb .xor 16 17) [16,17],oo 19 (Ia 1 13 14) [13,14],Sr 1 19 18 [18,19]]
def JQ:List RI:=[oo 20 (Bc .add 10 1) [10],omk 10 20]
def zT:RC:=(So JT (Sq (Kc 11 (Kk [11] .skip) (Kk [0,10,11] (.exit 0))) (Sq (Bk 1 (So JS (.ops JR))) (.ops JQ))))
def yM:RC:=zT
def JP:List RI:=[omk 21 4,omk 3 21]
def xkV:RC:=(So yS (So JV (So JU (Sq (So yQ (Bk 0 (.loop yM))) (So JP .ret)))))
def xau:FnC:=⟨xkV,22,[.tmp 3],[0],[]⟩
def JO:List RI:=[omk 8 0,oo 9 (.toInt .u8 (.t 8)) [8],oo 10 (.litB [.t 9]) [9],omk 5 10]
def JN:List RI:=[om 11 6,om 12 1,oo 13 (Ln 12) [12],oo 14 (Bb .lss 11 13) [11,13]]
def JM:List RI:=[om 17 1,om 18 6,oo 19 (Ia 1 17 18) [17,18],oo 20 (Ld 19) [19],oo 21 (Ln 20) [20],omk 7 21]
def JL:List RI:=[omk 22 5,om 23 7,oo 24 (.bin .shr (.t 23) (.c (.int .u64 24))) [23],oo 25 (.toInt .u8 (.t 24)) [24],om 26 7,oo 27 (.bin .shr (.t 26) (.c (.int .u64 16))) [26],oo 28 (.toInt .u8 (.t 27)) [27],om 29 7,oo 30 (.bin .shr (.t 29) (.c (.int .u64 8))) [29],oo 31 (.toInt .u8 (.t 30)) [30],omk 32 7,oo 33 (.toInt .u8 (.t 32)) [32],oo 34 (.litB [.t 25,.t 28,.t 31,.t 33]) [25,28,31,33],oo 35 (.app [.u8 0] 1 (.t 22) (.t 34)) [22,34],omk 5 35]
def JK:List RI:=[omk 36 5,om 37 1,om 38 6,oo 39 (Ia 1 37 38) [37,38],oo 40 (Ld 39) [39],oo 41 (.app [.u8 0] 1 (.t 36) (.t 40)) [36,40],omk 5 41]
def zS:RC:=(.post (Sq (So JN (Kc 14 (Kk [14] .skip) (Kk [1,6,14] (.exit 0)))) (Sq (Bk 1 (So JM (So JL (.ops JK)))) (.ops y6))) [.tok 5 105])
def yL:RC:=zS
def xkU:RC:=(So ff (So JO (Sq (So kI (Bk 0 (.pre [.tok 5 105] (.loop yL)))) (So yr .ret))))
def xat:FnC:=⟨xkU,43,[.tmp 4],[],[]⟩
theorem Fk{g:Nat}{F:FnC}{fn:Func}(h1:prog.funcs[g]? =some fn)(h3:fn.ntmps=F.n:=by kernel_rfl)(h2:fn.body.map (cj prog)=some F.code.er:=by kernel_rfl)(h4:(qa prog fn.results.toList F.rs&&dV prog g&&F.code.ok F.n)=true:=by kernel_rfl):bC prog g F:=by simp only[aB]at h4;exact RX h1 h2 h3 h4.1.1 h4.1.2 h4.2
noncomputable def xkf:Nat->Option FnB
 |5=>some (.code F5)
 |6=>some (.code F6)
 |7=>some (.code F7)
 |8=>some (.code F8)
 |9=>some (.code F9)
 |11=>some (.code F11)
 |12=>some (.code F12)
 |13=>some (.code F13)
 |14=>some (.code F14)
 |15=>some (.code F15)
 |16=>some (.code F16)
 |17=>some (.code F17)
 |18=>some (.code F18)
 |19=>some (.code F19)
 |20=>some (.code F20)
 |21=>some (.code F21)
 |22=>some (.code F22)
 |23=>some (.code F23)
 |24=>some (.code F24)
 |25=>some (.code F25)
 |26=>some (.code F26)
 |27=>some (.code F27)
 |28=>some (.code F28)
 |29=>some (.code F29)
 |30=>some (.code F30)
 |31=>some (.code F31)
 |33=>some (.code F33)
 |34=>some (.code F34)
 |35=>some (.code F35)
 |39=>some (.code F39)
 |40=>some (.code F40)
 |41=>some (.code F41)
 |42=>some (.code F42)
 |43=>some (.code F43)
 |44=>some (.code F44)
 |45=>some (.code F45)
 |46=>some (.code F46)
 |47=>some (.code F47)
 |48=>some (.code F48)
 |49=>some (.code F49)
 |50=>some (.code F50)
 |51=>some (.code F51)
 |52=>some (.code F52)
 |53=>some (.code F53)
 |54=>some (.code F54)
 |55=>some (.code F55)
 |56=>some (.code F56)
 |57=>some (.code F57)
 |58=>some (.code F58)
 |60=>some (.code F60)
 |61=>some (.code F61)
 |62=>some (.code F62)
 |63=>some (.code F63)
 |64=>some (.code F64)
 |67=>some (.code F67)
 |71=>some (.code F71)
 |73=>some (.code F73)
 |74=>some (.code F74)
 |75=>some (.code F75)
 |76=>some (.code F76)
 |77=>some (.code F77)
 |78=>some (.code F78)
 |79=>some (.code F79)
 |80=>some (.code F80)
 |81=>some (.code F81)
 |82=>some (.code F82)
 |83=>some (.code F83)
 |84=>some (.code F84)
 |85=>some (.code F85)
 |86=>some (.code F86)
 |87=>some (.code F87)
 |88=>some (.code F88)
 |89=>some (.code F89)
 |90=>some (.code F90)
 |91=>some (.code F91)
 |92=>some (.code F92)
 |93=>some (.code F93)
 |94=>some (.code F94)
 |95=>some (.code F95)
 |98=>some (.code F98)
 |99=>some (.code F99)
 |100=>some (.code xbx)
 |101=>some (.code xbw)
 |104=>some (.code xbv)
 |106=>some (.code xbu)
 |107=>some (.code xbt)
 |109=>some (.code xbs)
 |110=>some (.code xbr)
 |111=>some (.code xbq)
 |115=>some (.code xbp)
 |116=>some (.code xbo)
 |117=>some (.code xbn)
 |118=>some (.code xbm)
 |119=>some (.code xbl)
 |120=>some (.code xbk)
 |121=>some (.code xbj)
 |122=>some (.code xbi)
 |123=>some (.code xbh)
 |124=>some (.code xbg)
 |125=>some (.code xbf)
 |126=>some (.code xbe)
 |127=>some (.code xbd)
 |128=>some (.code xbc)
 |129=>some (.code xbb)
 |130=>some (.code xba)
 |131=>some (.code xa9)
 |132=>some (.code xa8)
 |133=>some (.code xa7)
 |134=>some (.code xa6)
 |135=>some (.code xa5)
 |136=>some (.code xa4)
 |137=>some (.code xa3)
 |138=>some (.code xa2)
 |139=>some (.code xa1)
 |140=>some (.code xa0)
 |141=>some (.code xaZ)
 |142=>some (.code xaY)
 |143=>some (.code xaX)
 |144=>some (.code xaW)
 |145=>some (.code xaV)
 |146=>some (.code xaU)
 |147=>some (.code xaT)
 |148=>some (.code xaS)
 |149=>some (.code xaR)
 |150=>some (.code xaQ)
 |162=>some (.code xaP)
 |163=>some (.code xaO)
 |166=>some (.code xaN)
 |167=>some (.code xaM)
 |176=>some (.code xaL)
 |179=>some (.code xaK)
 |180=>some (.code xaJ)
 |181=>some (.code xaI)
 |182=>some (.code xaH)
 |183=>some (.code xaG)
 |184=>some (.code xaF)
 |185=>some (.code xaE)
 |186=>some (.code xaD)
 |187=>some (.code xaC)
 |188=>some (.code xaB)
 |189=>some (.code xaA)
 |190=>some (.code xaz)
 |191=>some (.code xay)
 |192=>some (.code xax)
 |203=>some (.code xaw)
 |204=>some (.code xav)
 |205=>some (.code xau)
 |206=>some (.code xat)
 |102=>some (.prim Pr.p102)
 |112=>some (.prim Pr.p112)
 |164=>some (.prim Pr.p164)
 |177=>some (.prim Pr.p177)
 |_=>none
def xmU:Nat->Sig
 |_=> {}
noncomputable def T:fH:=⟨xkf,xmU⟩
abbrev tf(k:Nat)(F:FnC):Prop:=T.fn k=some (.code F)
theorem T_5:tf 5 F5:=rfl
theorem T_6:tf 6 F6:=rfl
theorem T_7:tf 7 F7:=rfl
theorem T_8:tf 8 F8:=rfl
theorem T_9:tf 9 F9:=rfl
theorem xp0:tf 11 F11:=rfl
theorem xpZ:tf 12 F12:=rfl
theorem xpY:tf 13 F13:=rfl
theorem xpX:tf 14 F14:=rfl
theorem xpW:tf 15 F15:=rfl
theorem xmA:tf 16 F16:=rfl
theorem xmz:tf 17 F17:=rfl
theorem xpV:tf 18 F18:=rfl
theorem xpU:tf 19 F19:=rfl
theorem xmy:tf 20 F20:=rfl
theorem xfr:tf 21 F21:=rfl
theorem xfq:tf 22 F22:=rfl
theorem xpT:tf 23 F23:=rfl
theorem xpS:tf 24 F24:=rfl
theorem xpR:tf 25 F25:=rfl
theorem xmx:tf 26 F26:=rfl
theorem xpQ:tf 27 F27:=rfl
theorem xpP:tf 28 F28:=rfl
theorem xpO:tf 29 F29:=rfl
theorem xpN:tf 30 F30:=rfl
theorem xpM:tf 31 F31:=rfl
theorem xpL:tf 33 F33:=rfl
theorem xpK:tf 34 F34:=rfl
theorem Oc:tf 35 F35:=rfl
theorem xpJ:tf 39 F39:=rfl
theorem xpI:tf 40 F40:=rfl
theorem xpH:tf 41 F41:=rfl
theorem xpG:tf 42 F42:=rfl
theorem xpF:tf 43 F43:=rfl
theorem xpE:tf 44 F44:=rfl
theorem xpD:tf 45 F45:=rfl
theorem xpC:tf 46 F46:=rfl
theorem xpB:tf 47 F47:=rfl
theorem xpA:tf 48 F48:=rfl
theorem xpz:tf 49 F49:=rfl
theorem xpy:tf 50 F50:=rfl
theorem xpx:tf 51 F51:=rfl
theorem xpw:tf 52 F52:=rfl
theorem xmw:tf 53 F53:=rfl
theorem ZS:tf 54 F54:=rfl
theorem ZR:tf 55 F55:=rfl
theorem xmv:tf 56 F56:=rfl
theorem ZQ:tf 57 F57:=rfl
theorem SQ:tf 58 F58:=rfl
theorem xpv:tf 60 F60:=rfl
theorem xmu:tf 61 F61:=rfl
theorem xpu:tf 62 F62:=rfl
theorem xpt:tf 63 F63:=rfl
theorem xps:tf 64 F64:=rfl
theorem xpr:tf 67 F67:=rfl
theorem xpq:tf 71 F71:=rfl
theorem xpp:tf 73 F73:=rfl
theorem xpo:tf 74 F74:=rfl
theorem xpn:tf 75 F75:=rfl
theorem xpm:tf 76 F76:=rfl
theorem xpl:tf 77 F77:=rfl
theorem xpk:tf 78 F78:=rfl
theorem xpj:tf 79 F79:=rfl
theorem xmt:tf 80 F80:=rfl
theorem xpi:tf 81 F81:=rfl
theorem xph:tf 82 F82:=rfl
theorem xpg:tf 83 F83:=rfl
theorem xpf:tf 84 F84:=rfl
theorem ZP:tf 85 F85:=rfl
theorem xms:tf 86 F86:=rfl
theorem xpe:tf 87 F87:=rfl
theorem xpd:tf 88 F88:=rfl
theorem xfp:tf 89 F89:=rfl
theorem xmr:tf 90 F90:=rfl
theorem xpc:tf 91 F91:=rfl
theorem xpb:tf 92 F92:=rfl
theorem xfo:tf 93 F93:=rfl
theorem xpa:tf 94 F94:=rfl
theorem xo9:tf 95 F95:=rfl
theorem SP:tf 98 F98:=rfl
theorem xo8:tf 99 F99:=rfl
theorem xjK:tf 100 xbx:=rfl
theorem xjJ:tf 101 xbw:=rfl
theorem xjH:tf 104 xbv:=rfl
theorem xjG:tf 106 xbu:=rfl
theorem xjF:tf 107 xbt:=rfl
theorem xjE:tf 109 xbs:=rfl
theorem xjD:tf 110 xbr:=rfl
theorem xjC:tf 111 xbq:=rfl
theorem xjA:tf 115 xbp:=rfl
theorem xjz:tf 116 xbo:=rfl
theorem xjy:tf 117 xbn:=rfl
theorem xjx:tf 118 xbm:=rfl
theorem xjw:tf 119 xbl:=rfl
theorem xjv:tf 120 xbk:=rfl
theorem xju:tf 121 xbj:=rfl
theorem ZZ:tf 122 xbi:=rfl
theorem xjt:tf 123 xbh:=rfl
theorem xjs:tf 124 xbg:=rfl
theorem xjr:tf 125 xbf:=rfl
theorem xjq:tf 126 xbe:=rfl
theorem xjp:tf 127 xbd:=rfl
theorem xjo:tf 128 xbc:=rfl
theorem xjn:tf 129 xbb:=rfl
theorem xjm:tf 130 xba:=rfl
theorem xjl:tf 131 xa9:=rfl
theorem xjk:tf 132 xa8:=rfl
theorem xjj:tf 133 xa7:=rfl
theorem xji:tf 134 xa6:=rfl
theorem Po:tf 135 xa5:=rfl
theorem xjh:tf 136 xa4:=rfl
theorem xjg:tf 137 xa3:=rfl
theorem xjf:tf 138 xa2:=rfl
theorem ZY:tf 139 xa1:=rfl
theorem ZX:tf 140 xa0:=rfl
theorem xje:tf 141 xaZ:=rfl
theorem xjd:tf 142 xaY:=rfl
theorem xjc:tf 143 xaX:=rfl
theorem xjb:tf 144 xaW:=rfl
theorem xja:tf 145 xaV:=rfl
theorem xi9:tf 146 xaU:=rfl
theorem xi8:tf 147 xaT:=rfl
theorem xi7:tf 148 xaS:=rfl
theorem xi6:tf 149 xaR:=rfl
theorem xi5:tf 150 xaQ:=rfl
theorem xi4:tf 162 xaP:=rfl
theorem xi3:tf 163 xaO:=rfl
theorem xi2:tf 166 xaN:=rfl
theorem xi1:tf 167 xaM:=rfl
theorem xi0:tf 176 xaL:=rfl
theorem xiY:tf 179 xaK:=rfl
theorem xiX:tf 180 xaJ:=rfl
theorem xiW:tf 181 xaI:=rfl
theorem xiV:tf 182 xaH:=rfl
theorem ZW:tf 183 xaG:=rfl
theorem xiU:tf 184 xaF:=rfl
theorem xiT:tf 185 xaE:=rfl
theorem xiS:tf 186 xaD:=rfl
theorem xiR:tf 187 xaC:=rfl
theorem xiQ:tf 188 xaB:=rfl
theorem xiP:tf 189 xaA:=rfl
theorem ZV:tf 190 xaz:=rfl
theorem xiO:tf 191 xay:=rfl
theorem xiN:tf 192 xax:=rfl
theorem xiM:tf 203 xaw:=rfl
theorem ZU:tf 204 xav:=rfl
theorem xiL:tf 205 xau:=rfl
theorem ZT:tf 206 xat:=rfl
theorem xjI:T.fn 102=some (.prim Pr.p102):=rfl
theorem xjB:T.fn 112=some (.prim Pr.p112):=rfl
theorem xqb:T.fn 164=some (.prim Pr.p164):=rfl
theorem xiZ:T.fn 177=some (.prim Pr.p177):=rfl
theorem xar:T.sg 102= {}:=rfl
theorem xj3:T.sg 112= {}:=rfl
theorem xqc:T.sg 164= {}:=rfl
theorem xjS:T.sg 177= {}:=rfl
theorem S_5:T.sg 5= {}:=rfl
theorem S_6:T.sg 6= {}:=rfl
theorem S_7:T.sg 7= {}:=rfl
theorem S_8:T.sg 8= {}:=rfl
theorem S_9:T.sg 9= {}:=rfl
theorem nX:T.sg 11= {}:=rfl
theorem xmL:T.sg 12= {}:=rfl
theorem SZ:T.sg 13= {}:=rfl
theorem qO:T.sg 14= {}:=rfl
theorem xp9:T.sg 15= {}:=rfl
theorem Od:T.sg 16= {}:=rfl
theorem S_17:T.sg 17= {}:=rfl
theorem yb:T.sg 18= {}:=rfl
theorem xp8:T.sg 19= {}:=rfl
theorem EC:T.sg 20= {}:=rfl
theorem xp7:T.sg 21= {}:=rfl
theorem sh:T.sg 22= {}:=rfl
theorem ya:T.sg 23= {}:=rfl
theorem x9:T.sg 24= {}:=rfl
theorem qJ:T.sg 25= {}:=rfl
theorem qI:T.sg 26= {}:=rfl
theorem Z5:T.sg 27= {}:=rfl
theorem SY:T.sg 28= {}:=rfl
theorem wA:T.sg 29= {}:=rfl
theorem xfz:T.sg 30= {}:=rfl
theorem EB:T.sg 31= {}:=rfl
theorem tQ:T.sg 33= {}:=rfl
theorem sf:T.sg 34= {}:=rfl
theorem SX:T.sg 35= {}:=rfl
theorem ni:T.sg 39= {}:=rfl
theorem xp6:T.sg 40= {}:=rfl
theorem x8:T.sg 41= {}:=rfl
theorem nV:T.sg 42= {}:=rfl
theorem x7:T.sg 43= {}:=rfl
theorem Cm:T.sg 44= {}:=rfl
theorem Cl:T.sg 45= {}:=rfl
theorem EA:T.sg 46= {}:=rfl
theorem pm:T.sg 47= {}:=rfl
theorem Ez:T.sg 48= {}:=rfl
theorem Ck:T.sg 49= {}:=rfl
theorem x6:T.sg 50= {}:=rfl
theorem xfy:T.sg 51= {}:=rfl
theorem li:T.sg 52= {}:=rfl
theorem xp5:T.sg 53= {}:=rfl
theorem xp4:T.sg 54= {}:=rfl
theorem xmK:T.sg 55= {}:=rfl
theorem xmJ:T.sg 56= {}:=rfl
theorem xp3:T.sg 57= {}:=rfl
theorem S_58:T.sg 58= {}:=rfl
theorem Z4:T.sg 60= {}:=rfl
theorem Ey:T.sg 61= {}:=rfl
theorem Ew:T.sg 62= {}:=rfl
theorem xmI:T.sg 63= {}:=rfl
theorem xfx:T.sg 64= {}:=rfl
theorem xmH:T.sg 67= {}:=rfl
theorem xmG:T.sg 71= {}:=rfl
theorem Z3:T.sg 73= {}:=rfl
theorem SW:T.sg 74= {}:=rfl
theorem Cj:T.sg 75= {}:=rfl
theorem xmF:T.sg 76= {}:=rfl
theorem Ci:T.sg 77= {}:=rfl
theorem xmE:T.sg 78= {}:=rfl
theorem xp2:T.sg 79= {}:=rfl
theorem Z2:T.sg 80= {}:=rfl
theorem Z1:T.sg 81= {}:=rfl
theorem SU:T.sg 82= {}:=rfl
theorem Ch:T.sg 83= {}:=rfl
theorem Cg:T.sg 84= {}:=rfl
theorem Z0:T.sg 85= {}:=rfl
theorem se:T.sg 86= {}:=rfl
theorem xfw:T.sg 87= {}:=rfl
theorem SS:T.sg 88= {}:=rfl
theorem xfv:T.sg 89= {}:=rfl
theorem xfu:T.sg 90= {}:=rfl
theorem xft:T.sg 91= {}:=rfl
theorem SR:T.sg 92= {}:=rfl
theorem xfs:T.sg 93= {}:=rfl
theorem xmD:T.sg 94= {}:=rfl
theorem xmC:T.sg 95= {}:=rfl
theorem xmB:T.sg 98= {}:=rfl
theorem Eu:T.sg 99= {}:=rfl
theorem re:T.sg 100= {}:=rfl
theorem pn:T.sg 101= {}:=rfl
theorem xj9:T.sg 104= {}:=rfl
theorem xj8:T.sg 106= {}:=rfl
theorem xj7:T.sg 107= {}:=rfl
theorem xj6:T.sg 109= {}:=rfl
theorem xj5:T.sg 110= {}:=rfl
theorem xj4:T.sg 111= {}:=rfl
theorem iE:T.sg 115= {}:=rfl
theorem PE:T.sg 116= {}:=rfl
theorem xj2:T.sg 117= {}:=rfl
theorem xj1:T.sg 118= {}:=rfl
theorem xj0:T.sg 119= {}:=rfl
theorem xaq:T.sg 120= {}:=rfl
theorem xjZ:T.sg 121= {}:=rfl
theorem Ef:T.sg 122= {}:=rfl
theorem PD:T.sg 123= {}:=rfl
theorem Ee:T.sg 124= {}:=rfl
theorem PC:T.sg 125= {}:=rfl
theorem fI:T.sg 126= {}:=rfl
theorem xap:T.sg 127= {}:=rfl
theorem PB:T.sg 128= {}:=rfl
theorem xqd:T.sg 129= {}:=rfl
theorem xjY:T.sg 130= {}:=rfl
theorem PA:T.sg 131= {}:=rfl
theorem xao:T.sg 132= {}:=rfl
theorem xjX:T.sg 133= {}:=rfl
theorem xan:T.sg 134= {}:=rfl
theorem Pz:T.sg 135= {}:=rfl
theorem xjW:T.sg 136= {}:=rfl
theorem xam:T.sg 137= {}:=rfl
theorem xal:T.sg 138= {}:=rfl
theorem Py:T.sg 139= {}:=rfl
theorem Px:T.sg 140= {}:=rfl
theorem Pw:T.sg 141= {}:=rfl
theorem xak:T.sg 142= {}:=rfl
theorem Pv:T.sg 143= {}:=rfl
theorem xaj:T.sg 144= {}:=rfl
theorem xai:T.sg 145= {}:=rfl
theorem xjV:T.sg 146= {}:=rfl
theorem xah:T.sg 147= {}:=rfl
theorem xjU:T.sg 148= {}:=rfl
theorem xag:T.sg 149= {}:=rfl
theorem Pu:T.sg 150= {}:=rfl
theorem xaf:T.sg 162= {}:=rfl
theorem xae:T.sg 163= {}:=rfl
theorem xjT:T.sg 166= {}:=rfl
theorem xad:T.sg 167= {}:=rfl
theorem Ps:T.sg 176= {}:=rfl
theorem Pq:T.sg 179= {}:=rfl
theorem xac:T.sg 180= {}:=rfl
theorem xjR:T.sg 181= {}:=rfl
theorem xab:T.sg 182= {}:=rfl
theorem Ed:T.sg 183= {}:=rfl
theorem Pp:T.sg 184= {}:=rfl
theorem xaa:T.sg 185= {}:=rfl
theorem xjQ:T.sg 186= {}:=rfl
theorem xjP:T.sg 187= {}:=rfl
theorem xjO:T.sg 188= {}:=rfl
theorem Z9:T.sg 189= {}:=rfl
theorem Ec:T.sg 190= {}:=rfl
theorem xjN:T.sg 191= {}:=rfl
theorem xjM:T.sg 192= {}:=rfl
theorem Z8:T.sg 203= {}:=rfl
theorem Z7:T.sg 204= {}:=rfl
theorem xjL:T.sg 205= {}:=rfl
theorem Z6:T.sg 206= {}:=rfl
theorem xga(c:CSt):run T DP c=run T Ea c:=rfl
theorem xf7(c:CSt):run T DM c=run T D9 c:=rfl
theorem xgp(c:CSt):run T OO c=run T Pm c:=rfl
theorem xgo(c:CSt):run T ON c=run T Pk c:=rfl
theorem xgn(c:CSt):run T YA c=run T Pj c:=rfl
theorem xcI(c:CSt):run T lK c=run T zQ c:=rfl
theorem xcH(c:CSt):run T lJ c=run T zP c:=rfl
theorem xgm(c:CSt):run T lT c=run T Pi c:=rfl
theorem xgl(c:CSt):run T OJ c=run T Ph c:=rfl
theorem xcG(c:CSt):run T nO c=run T zO c:=rfl
theorem xgk(c:CSt):run T OH c=run T Pg c:=rfl
theorem xgj(c:CSt):run T OG c=run T Pe c:=rfl
theorem xcF(c:CSt):run T yK c=run T zN c:=rfl
theorem xgi(c:CSt):run T OE c=run T Pd c:=rfl
theorem xcE(c:CSt):run T yI c=run T zM c:=rfl
theorem xgh(c:CSt):run T Oz c=run T Pc c:=rfl
theorem xcD(c:CSt):run T yH c=run T zL c:=rfl
theorem xcC(c:CSt):run T qk c=run T zK c:=rfl
theorem xcB(c:CSt):run T qj c=run T zJ c:=rfl
theorem xcA(c:CSt):run T yG c=run T zI c:=rfl
theorem xgg(c:CSt):run T Wj c=run T Pb c:=rfl
theorem xgf(c:CSt):run T V9 c=run T Pa c:=rfl
theorem xcz(c:CSt):run T yF c=run T zH c:=rfl
theorem xge(c:CSt):run T Ox c=run T O9 c:=rfl
theorem xcy(c:CSt):run T yE c=run T zG c:=rfl
theorem xcx(c:CSt):run T yD c=run T zF c:=rfl
theorem xcw(c:CSt):run T yC c=run T zE c:=rfl
theorem xcv(c:CSt):run T yB c=run T zD c:=rfl
theorem xgd(c:CSt):run T Vt c=run T O8 c:=rfl
theorem xcu(c:CSt):run T yA c=run T zC c:=rfl
theorem xct(c:CSt):run T lI c=run T zB c:=rfl
theorem xcs(c:CSt):run T ue c=run T zA c:=rfl
theorem xcr(c:CSt):run T yy c=run T zy c:=rfl
theorem xcq(c:CSt):run T yx c=run T zx c:=rfl
theorem xcp(c:CSt):run T yv c=run T zw c:=rfl
theorem xco(c:CSt):run T yu c=run T zu c:=rfl
theorem xgc(c:CSt):run T U0 c=run T O7 c:=rfl
theorem xgb(c:CSt):run T UT c=run T O6 c:=rfl
theorem xcn(c:CSt):run T lH c=run T zt c:=rfl
theorem xcm(c:CSt):run T uc c=run T zq c:=rfl
theorem xcl(c:CSt):run T Hf c=run T zp c:=rfl
theorem xck(c:CSt):run T Hb c=run T zo c:=rfl
theorem xcj(c:CSt):run T G8 c=run T zm c:=rfl
theorem xf9(c:CSt):run T T4 c=run T O5 c:=rfl
theorem xf8(c:CSt):run T DN c=run T O4 c:=rfl
theorem xci(c:CSt):run T G4 c=run T zl c:=rfl
theorem xch(c:CSt):run T yq c=run T zk c:=rfl
theorem xcg(c:CSt):run T yo c=run T zj c:=rfl
theorem xc0(c:CSt):run T zg c=run T Ag c:=rfl
theorem QY(c:CSt):run T sW c=run T tM c:=rfl
theorem xcZ(c:CSt):run T zf c=run T Af c:=rfl
theorem QX(c:CSt):run T sU c=run T tL c:=rfl
theorem QW(c:CSt):run T sT c=run T tK c:=rfl
theorem QV(c:CSt):run T sS c=run T tJ c:=rfl
theorem xcY(c:CSt):run T M1 c=run T Ae c:=rfl
theorem QU(c:CSt):run T sR c=run T tI c:=rfl
theorem xcX(c:CSt):run T za c=run T Ad c:=rfl
theorem QT(c:CSt):run T sQ c=run T tH c:=rfl
theorem xcW(c:CSt):run T y8 c=run T Ac c:=rfl
theorem xcV(c:CSt):run T Mr c=run T Ab c:=rfl
theorem xcU(c:CSt):run T uq c=run T Aa c:=rfl
theorem xcT(c:CSt):run T y3 c=run T z8 c:=rfl
theorem xcS(c:CSt):run T y2 c=run T z7 c:=rfl
theorem QS(c:CSt):run T A2 c=run T tG c:=rfl
theorem QR(c:CSt):run T sP c=run T tF c:=rfl
theorem QQ(c:CSt):run T me c=run T tE c:=rfl
theorem QP(c:CSt):run T iP c=run T tD c:=rfl
theorem QO(c:CSt):run T AV c=run T tC c:=rfl
theorem xcR(c:CSt):run T Lr c=run T z6 c:=rfl
theorem xcQ(c:CSt):run T Lj c=run T zZ c:=rfl
theorem QN(c:CSt):run T AR c=run T tB c:=rfl
theorem xcP(c:CSt):run T yU c=run T zY c:=rfl
theorem xcO(c:CSt):run T yT c=run T zX c:=rfl
theorem QM(c:CSt):run T AO c=run T tA c:=rfl
theorem xcN(c:CSt):run T uj c=run T zW c:=rfl
theorem QL(c:CSt):run T sO c=run T tz c:=rfl
theorem xcM(c:CSt):run T yP c=run T zV c:=rfl
theorem QK(c:CSt):run T sN c=run T tx c:=rfl
theorem QJ(c:CSt):run T sM c=run T tw c:=rfl
theorem xcL(c:CSt):run T yN c=run T zU c:=rfl
theorem xcK(c:CSt):run T yM c=run T zT c:=rfl
theorem xcJ(c:CSt):run T yL c=run T zS c:=rfl
theorem xni:bC prog 5 F5:=Fk func5
theorem xnh:bC prog 6 F6:=Fk func6
theorem xng:bC prog 7 F7:=Fk func7
theorem xnf:bC prog 8 F8:=Fk func8
theorem xne:bC prog 9 F9:=Fk func9
theorem xhH:bC prog 11 F11:=Fk func11
theorem xhG:bC prog 12 F12:=Fk func12
theorem xhF:bC prog 13 F13:=Fk func13
theorem xhE:bC prog 14 F14:=Fk func14
theorem xhD:bC prog 15 F15:=Fk func15
theorem xhC:bC prog 16 F16:=Fk func16
theorem xhB:bC prog 17 F17:=Fk func17
theorem xhA:bC prog 18 F18:=Fk func18
theorem xhz:bC prog 19 F19:=Fk func19
theorem xhy:bC prog 20 F20:=Fk func20
theorem xhx:bC prog 21 F21:=Fk func21
theorem xhw:bC prog 22 F22:=Fk func22
theorem xhv:bC prog 23 F23:=Fk func23
theorem xhu:bC prog 24 F24:=Fk func24
theorem xht:bC prog 25 F25:=Fk func25
theorem xhs:bC prog 26 F26:=Fk func26
theorem xhr:bC prog 27 F27:=Fk func27
theorem xhq:bC prog 28 F28:=Fk func28
theorem xhp:bC prog 29 F29:=Fk func29
theorem xho:bC prog 30 F30:=Fk func30
theorem xhn:bC prog 31 F31:=Fk func31
theorem xhm:bC prog 33 F33:=Fk func33
theorem xhl:bC prog 34 F34:=Fk func34
theorem xhk:bC prog 35 F35:=Fk func35
theorem xhj:bC prog 39 F39:=Fk func39
theorem xhi:bC prog 40 F40:=Fk func40
theorem xhh:bC prog 41 F41:=Fk func41
theorem xhg:bC prog 42 F42:=Fk func42
theorem xhf:bC prog 43 F43:=Fk func43
theorem xhe:bC prog 44 F44:=Fk func44
theorem xhd:bC prog 45 F45:=Fk func45
theorem xhc:bC prog 46 F46:=Fk func46
theorem xhb:bC prog 47 F47:=Fk func47
theorem xha:bC prog 48 F48:=Fk func48
theorem xg9:bC prog 49 F49:=Fk func49
theorem xg8:bC prog 50 F50:=Fk func50
theorem xg7:bC prog 51 F51:=Fk func51
theorem xg6:bC prog 52 F52:=Fk func52
theorem xg5:bC prog 53 F53:=Fk func53
theorem xg4:bC prog 54 F54:=Fk func54
theorem xg3:bC prog 55 F55:=Fk func55
theorem xg2:bC prog 56 F56:=Fk func56
theorem xg1:bC prog 57 F57:=Fk func57
theorem xg0:bC prog 58 F58:=Fk func58
theorem xgZ:bC prog 60 F60:=Fk func60
theorem xgY:bC prog 61 F61:=Fk func61
theorem xgX:bC prog 62 F62:=Fk func62
theorem xgW:bC prog 63 F63:=Fk func63
theorem xgV:bC prog 64 F64:=Fk func64
theorem xgU:bC prog 67 F67:=Fk func67
theorem xgT:bC prog 71 F71:=Fk func71
theorem xgS:bC prog 73 F73:=Fk func73
theorem xgR:bC prog 74 F74:=Fk func74
theorem xgQ:bC prog 75 F75:=Fk func75
theorem xgP:bC prog 76 F76:=Fk func76
theorem xgO:bC prog 77 F77:=Fk func77
theorem xgN:bC prog 78 F78:=Fk func78
theorem xgM:bC prog 79 F79:=Fk func79
theorem xgL:bC prog 80 F80:=Fk func80
theorem xgK:bC prog 81 F81:=Fk func81
theorem xgJ:bC prog 82 F82:=Fk func82
theorem xgI:bC prog 83 F83:=Fk func83
theorem xgH:bC prog 84 F84:=Fk func84
theorem xgG:bC prog 85 F85:=Fk func85
theorem xgF:bC prog 86 F86:=Fk func86
theorem xgE:bC prog 87 F87:=Fk func87
theorem xgD:bC prog 88 F88:=Fk func88
theorem xgC:bC prog 89 F89:=Fk func89
theorem xgB:bC prog 90 F90:=Fk func90
theorem xgA:bC prog 91 F91:=Fk func91
theorem xgz:bC prog 92 F92:=Fk func92
theorem xgy:bC prog 93 F93:=Fk func93
theorem xgx:bC prog 94 F94:=Fk func94
theorem xgw:bC prog 95 F95:=Fk func95
theorem xgv:bC prog 98 F98:=Fk func98
theorem xgu:bC prog 99 F99:=Fk func99
theorem xea:bC prog 100 xbx:=Fk func100
theorem xd9:bC prog 101 xbw:=Fk func101
theorem xd8:bC prog 104 xbv:=Fk func104
theorem xd7:bC prog 106 xbu:=Fk func106
theorem xd6:bC prog 107 xbt:=Fk func107
theorem xd5:bC prog 109 xbs:=Fk func109
theorem xd4:bC prog 110 xbr:=Fk func110
theorem xd3:bC prog 111 xbq:=Fk func111
theorem xd2:bC prog 115 xbp:=Fk func115
theorem xd1:bC prog 116 xbo:=Fk func116
theorem xd0:bC prog 117 xbn:=Fk func117
theorem xdZ:bC prog 118 xbm:=Fk func118
theorem xdY:bC prog 119 xbl:=Fk func119
theorem xdX:bC prog 120 xbk:=Fk func120
theorem xdW:bC prog 121 xbj:=Fk func121
theorem xdV:bC prog 122 xbi:=Fk func122
theorem xdU:bC prog 123 xbh:=Fk func123
theorem xdT:bC prog 124 xbg:=Fk func124
theorem xdS:bC prog 125 xbf:=Fk func125
theorem xdR:bC prog 126 xbe:=Fk func126
theorem xdQ:bC prog 127 xbd:=Fk func127
theorem xdP:bC prog 128 xbc:=Fk func128
theorem xdO:bC prog 129 xbb:=Fk func129
theorem xdN:bC prog 130 xba:=Fk func130
theorem xdM:bC prog 131 xa9:=Fk func131
theorem xdL:bC prog 132 xa8:=Fk func132
theorem xdK:bC prog 133 xa7:=Fk func133
theorem xdJ:bC prog 134 xa6:=Fk func134
theorem xdI:bC prog 135 xa5:=Fk func135
theorem xdH:bC prog 136 xa4:=Fk func136
theorem xdG:bC prog 137 xa3:=Fk func137
theorem xdF:bC prog 138 xa2:=Fk func138
theorem xdE:bC prog 139 xa1:=Fk func139
theorem xdD:bC prog 140 xa0:=Fk func140
theorem xdC:bC prog 141 xaZ:=Fk func141
theorem xdB:bC prog 142 xaY:=Fk func142
theorem xdA:bC prog 143 xaX:=Fk func143
theorem xdz:bC prog 144 xaW:=Fk func144
theorem xdy:bC prog 145 xaV:=Fk func145
theorem xdx:bC prog 146 xaU:=Fk func146
theorem xdw:bC prog 147 xaT:=Fk func147
theorem xdv:bC prog 148 xaS:=Fk func148
theorem xdu:bC prog 149 xaR:=Fk func149
theorem xdt:bC prog 150 xaQ:=Fk func150
theorem xds:bC prog 162 xaP:=Fk func162
theorem xdr:bC prog 163 xaO:=Fk func163
theorem xdq:bC prog 166 xaN:=Fk func166
theorem xdp:bC prog 167 xaM:=Fk func167
theorem xdo:bC prog 176 xaL:=Fk func176
theorem xdn:bC prog 179 xaK:=Fk func179
theorem xdm:bC prog 180 xaJ:=Fk func180
theorem xdl:bC prog 181 xaI:=Fk func181
theorem xdk:bC prog 182 xaH:=Fk func182
theorem xdj:bC prog 183 xaG:=Fk func183
theorem xdi:bC prog 184 xaF:=Fk func184
theorem xdh:bC prog 185 xaE:=Fk func185
theorem xdg:bC prog 186 xaD:=Fk func186
theorem xdf:bC prog 187 xaC:=Fk func187
theorem xde:bC prog 188 xaB:=Fk func188
theorem xdd:bC prog 189 xaA:=Fk func189
theorem xdc:bC prog 190 xaz:=Fk func190
theorem xdb:bC prog 191 xay:=Fk func191
theorem xda:bC prog 192 xax:=Fk func192
theorem xc9:bC prog 203 xaw:=Fk func203
theorem xc8:bC prog 204 xav:=Fk func204
theorem xc7:bC prog 205 xau:=Fk func205
theorem xc6:bC prog 206 xat:=Fk func206
set_option maxHeartbeats 4000000 in
theorem GF:nK prog T:=by
 intro g b h;simp only[T]at h;unfold xkf at h;split at h
 ·cases h;exact xni
 ·cases h;exact xnh
 ·cases h;exact xng
 ·cases h;exact xnf
 ·cases h;exact xne
 ·cases h;exact xhH
 ·cases h;exact xhG
 ·cases h;exact xhF
 ·cases h;exact xhE
 ·cases h;exact xhD
 ·cases h;exact xhC
 ·cases h;exact xhB
 ·cases h;exact xhA
 ·cases h;exact xhz
 ·cases h;exact xhy
 ·cases h;exact xhx
 ·cases h;exact xhw
 ·cases h;exact xhv
 ·cases h;exact xhu
 ·cases h;exact xht
 ·cases h;exact xhs
 ·cases h;exact xhr
 ·cases h;exact xhq
 ·cases h;exact xhp
 ·cases h;exact xho
 ·cases h;exact xhn
 ·cases h;exact xhm
 ·cases h;exact xhl
 ·cases h;exact xhk
 ·cases h;exact xhj
 ·cases h;exact xhi
 ·cases h;exact xhh
 ·cases h;exact xhg
 ·cases h;exact xhf
 ·cases h;exact xhe
 ·cases h;exact xhd
 ·cases h;exact xhc
 ·cases h;exact xhb
 ·cases h;exact xha
 ·cases h;exact xg9
 ·cases h;exact xg8
 ·cases h;exact xg7
 ·cases h;exact xg6
 ·cases h;exact xg5
 ·cases h;exact xg4
 ·cases h;exact xg3
 ·cases h;exact xg2
 ·cases h;exact xg1
 ·cases h;exact xg0
 ·cases h;exact xgZ
 ·cases h;exact xgY
 ·cases h;exact xgX
 ·cases h;exact xgW
 ·cases h;exact xgV
 ·cases h;exact xgU
 ·cases h;exact xgT
 ·cases h;exact xgS
 ·cases h;exact xgR
 ·cases h;exact xgQ
 ·cases h;exact xgP
 ·cases h;exact xgO
 ·cases h;exact xgN
 ·cases h;exact xgM
 ·cases h;exact xgL
 ·cases h;exact xgK
 ·cases h;exact xgJ
 ·cases h;exact xgI
 ·cases h;exact xgH
 ·cases h;exact xgG
 ·cases h;exact xgF
 ·cases h;exact xgE
 ·cases h;exact xgD
 ·cases h;exact xgC
 ·cases h;exact xgB
 ·cases h;exact xgA
 ·cases h;exact xgz
 ·cases h;exact xgy
 ·cases h;exact xgx
 ·cases h;exact xgw
 ·cases h;exact xgv
 ·cases h;exact xgu
 ·cases h;exact xea
 ·cases h;exact xd9
 ·cases h;exact xd8
 ·cases h;exact xd7
 ·cases h;exact xd6
 ·cases h;exact xd5
 ·cases h;exact xd4
 ·cases h;exact xd3
 ·cases h;exact xd2
 ·cases h;exact xd1
 ·cases h;exact xd0
 ·cases h;exact xdZ
 ·cases h;exact xdY
 ·cases h;exact xdX
 ·cases h;exact xdW
 ·cases h;exact xdV
 ·cases h;exact xdU
 ·cases h;exact xdT
 ·cases h;exact xdS
 ·cases h;exact xdR
 ·cases h;exact xdQ
 ·cases h;exact xdP
 ·cases h;exact xdO
 ·cases h;exact xdN
 ·cases h;exact xdM
 ·cases h;exact xdL
 ·cases h;exact xdK
 ·cases h;exact xdJ
 ·cases h;exact xdI
 ·cases h;exact xdH
 ·cases h;exact xdG
 ·cases h;exact xdF
 ·cases h;exact xdE
 ·cases h;exact xdD
 ·cases h;exact xdC
 ·cases h;exact xdB
 ·cases h;exact xdA
 ·cases h;exact xdz
 ·cases h;exact xdy
 ·cases h;exact xdx
 ·cases h;exact xdw
 ·cases h;exact xdv
 ·cases h;exact xdu
 ·cases h;exact xdt
 ·cases h;exact xds
 ·cases h;exact xdr
 ·cases h;exact xdq
 ·cases h;exact xdp
 ·cases h;exact xdo
 ·cases h;exact xdn
 ·cases h;exact xdm
 ·cases h;exact xdl
 ·cases h;exact xdk
 ·cases h;exact xdj
 ·cases h;exact xdi
 ·cases h;exact xdh
 ·cases h;exact xdg
 ·cases h;exact xdf
 ·cases h;exact xde
 ·cases h;exact xdd
 ·cases h;exact xdc
 ·cases h;exact xdb
 ·cases h;exact xda
 ·cases h;exact xc9
 ·cases h;exact xc8
 ·cases h;exact xc7
 ·cases h;exact xc6
 ·cases h;exact Pr.p102_ok
 ·cases h;exact Pr.p112_ok
 ·cases h;exact Pr.p164_ok
 ·cases h;exact Pr.p177_ok
 ·cases h
attribute [go_sem] SV.kclip Tok.kc QE xiK xiJ xo6 iG ur PZ DV jA List.all_replicate BC BB P4 xb7 Rb Rd Rc FG Re Rh rz Rg Rf an.injEq xnc xf1 xij xeh xec xC CE CF xep xbP D3 CH av cL ct ay SJ SK xe2 Gk FO Da Cw Cx Tok.ids kU aP ac dI Int.natCast_nonneg Int.ofNat_lt Int.ofNat_le Int.ofNat_inj Ff QA Fl QC QD xfG PK xfH xbN xbM xbI xfN xfO xfL xmM PI PH xfF xfP xbJ xbE xbF xbG PJ xfJ EF EG xbR xbQ xfK xfI xbO xfM xbK xbL xbH xnb xna xnd xcd xf2 xeE xn1 xn2 xnZ xn0 xn3 RS xeF RY Qz Fo CW QB Fh xeD C0 C1 Fu Fv xeC Rx xoZ xo1 xo0 pF Dc xhM Rr xhO xen xem xei xhX xhY xhS xnj Rn Rm xhK xhZ xej xed xee xef Rq xhQ FJ FK xer xeq xhR xhP xeo xhV xek xel xeg Rp xhL xhW xnk xhN Ro xh0 xhT xes SO DF mkE xe9 stC ER apS apB apL SM cpC cp2 cpB cpL xce xc2 BD NJ BE BF kZ lc NG BH BI xb6 PT xik xeu xey xex RG FV FU Dh RF Dj FW RH Di xI FL FM Rt xmY xmW xmX P8 xb8 xiD xiG xiF xiE Gv SA xnr xnp xnq Rw xew FB xgs xgq xgr FA QZ Gi Dz DA xir xiq RZ DX ZN ZK tW Tf ZO GG DJ DK uw ZA oT pG mp D6 D5 ZJ lenC ZM D0 D1 uy Zs D2 DW uu ej jp wk iJ iQ xfn mf df evL CSt.purge xJ yi Oh Om mn Ep lZ km nR ep fB psC Tok.readyC aF.wf SV.bare SV.bareL jO jP sD jF dQ cf dF gp gA ft dr oj ed qY qZ l6 qS jN iY E0 CI Qt EW E1 EZ CG w7 Qu EX Qw E2 CR xc CO xb E3 CK CP CN w8 xa uI E4 CL E6 CQ CJ E5 CM EV Qv EY O0 Gr Sw Sx R3 R5 R6 R4 SD ET P9 Qq Qp Qo Qn Qm Ql xeN xeG xeL xeM xeK xeJ xeI xeH Rl Rk Rj RO RN RK RJ RM RL SC xeY eC CSt.publish kY ly nE SV.pub SV.pubL xv gcC qD P3 rx kS fN gQ tks nH Em ra dt OZ wD ib jL SV.num lG iL toB rows ux gD jc gu Tok.eat SV.one SV.data SV.isData SV.cells SV.isDef SV.purge SV.purgeL aF.purge bx cg Tok.purge SV.ren SV.renL aF.ren Tok.ren SV.ids SV.idsL SV.toks SV.toksL aF.ids aF.toks iO kj inR oA eS id_eq aj aq aU az bg bX eY beq_self_eq_true List.getD_cons_zero List.getD_cons_succ List.getD_nil List.take_succ_cons List.take_zero List.take_nil bj List.drop_succ_cons List.drop_nil aC bp c9 List.flatten_nil List.contains_nil List.contains_cons List.isEmpty_nil List.isEmpty_cons List.all_cons List.all_nil List.set_cons_zero List.set_cons_succ aY Option.getD_none bo Option.map_none Option.toList_some Option.toList_none cO Option.isNone_none Option.isNone_some Option.isSome_none Option.isSome_some Bool.or_false Bool.true_or Bool.or_true Bool.false_or Bool.and_self Bool.and_true Bool.true_and Bool.and_false Bool.false_and Bool.not_true Bool.not_false aK Bool.true_eq_false Bool.not_eq_true Bool.not_eq_false decide_eq_true_eq decide_eq_false_iff_not and_true true_and and_self or_false false_or or_true true_or not_true_eq_false not_false_eq_true ne_eq Int.toNat_natCast true_implies false_implies implies_true decide_true decide_false Nat.lt_irrefl Nat.not_lt_zero aH bt eq_self and_false false_and NI mvC xl1 Zm xet xhU clA cl2 clC
attribute [go_sem] Fm Fs Fz Fi Ld Fa Ln Ia Mv Bb Bc Ca Pf Pt So Kk Kc Fy Fr Sr Lt Mc Mb Bk Sq Zq0 Zq1 Zq2 Zq3 xm xs xi ci om omk on oo xkT xkS xkR xkQ xkP xkO xkN xkM xkL xkK F5 r5 xkJ xe8 xkI xkH xkG xkF xkE xkD F6 r6 xkC xe7 UY xkB xkA xkz xky xkx F7 r7 xkw xkv xku xkt xe6 xe5 xks xkr xkq Ua Ea F8 xga r8 xkp xko xkn xkm xkl xkk xkj xki Tn Tm Tl Tk Tj Ti D9 F9 xf7 r9 Zj Zi Zh Zg Zf Ze F11 r11 ff OW Zd Zc F12 r12 jJ Zb Za Y9 F13 r13 qX Y8 gn Y7 Y6 Y5 Y4 F14 r14 xu Y3 ul Y2 Y1 F15 r15 OV Y0 YZ YY YX YW OU OT F16 r16 DU YV F17 r17 xq OS qW oD OR OQ OP DT Pm F18 xgp r18 YU YT F19 r19 YS YR YQ YP YO YN F20 r20 YM YL YK YJ YI YH YG YF JJ Pk F21 xgo r21 YE YD kI YC YB OM Yz Yy Pj F22 xgn r22 nD OL nC Yx OK Yw Yv fC Yu xp JI JH iF zQ F23 xcI r23 qV Yt Ys Yr Yq JG JF zP F24 xcH r24 Yp Yo Yn Ym Yl Yk Pi F25 xgm r25 Yj Yi Yh Yg F26 r26 Yf Ye Yd Yc Ph F27 xgl r27 OI Yb Ya X9 F28 r28 X8 X7 F29 r29 X6 X5 X4 X3 X2 X1 X0 XZ XY XX JE JD JC JB JA Jz Jy Jx Jw Jv Ju Jt Js zO F30 xcG r30 Pg F31 xgk r31 XW uh XV XU XT ug XS XR Jr Jq Jp Jo Pe zN F33 xgj xcF r33 DS XQ XP XO XN OF XM XL XK XJ Jn Jm yJ F34 r34 XI XH XG XF XE XD XC XB Jl F35 r35 XA F39 r39 oC Xz Xy Xx Xw Xv Xu Xt Xs Pd F40 xgi r40 OD Xr F41 r41 OC Xq Xp Xo Xn Xm Jk Jj Ji Jh Jg Jf Je Jd Jc Jb zM F42 xcE r42 Xl gP Xk Xj Xi Xh Xg Ja I9 F43 r43 kH Xf OB OA F44 r44 Xe Xd Xc Xb Xa W9 W8 W7 Pc F45 xgh r45 W6 F46 r46 W5 W4 W1 W0 WZ WY WX I8 I7 I6 I5 zL F47 xcD r47 WW WV WU WT WS F48 r48 WR F49 r49 WQ WP F50 r50 WO WN WM F51 r51 WL WK WJ F52 r52 WI WH WG WF WE WD WC I4 I3 I2 I1 I0 IZ IY IX IW IV IU IT zK zJ F53 xcC xcB r53 WB WA Wz Wy Wx Ww Wv Wu Wt Ws IS IR IQ IP IN zI F54 xcA r54 nA Wr uf Wq Wp Wo Wn Wm Wk IM Pb F55 xgg r55 Wi Wh F56 r56 Wg Wf We DR Wc Wb Wa IL Pa F57 xgf r57 Oy V8 oB V7 V6 V5 V4 V3 IK IJ II IH IG IF IE zH F58 xcz r58 V2 xo V1 V0 VZ VY VX VW VV O9 F60 xge r60 Ow VU Ov VT VS VR VQ VP VO VN ID IC IB IA Iz Iy Ix Iw Iv qh Iu It Is Ir Iq Ip Io In qf Im Il zG zF F61 xcy xcx r61 VM VL VK VJ VI VH VG VF Ik Ij Ii Ih Ig If Ie Ic qe Ib H9 H8 H7 H6 H5 H4 H3 qd H2 H1 zE zD F62 xcw xcv r62 VE VD qU VC VB Ou F63 r63 VA Vz Vy Vx Vw Vv Vu Vs HZ HY HX HW HV HU HT O8 zC F64 xgd xcu r64 Vr F67 r67 Vq Vp Vo Vn Vm Vl HS HR HQ HP HO HN HM HK HJ HI HH zB zA F71 xct xcs r71 Vk Vj Vi Vh Vg Vf Ve HG HF HE HD yz HC HB Hz Hy Hx Hw Hv Hu yw Ht Hs Hr Hq Hp zy zx zw zu F73 xcr xcq xcp xco r73 Vd F74 r74 Vc Vb Va U9 F75 r75 Ot F76 r76 U8 U7 U6 F77 r77 F78 r78 U5 U4 U3 U2 U1 UZ O7 F79 xgc r79 ud UX UW UV UU UR O6 F80 xgb r80 UQ UP UO UN UM Ho Hn Hm Hl Hk Hj Hi Hh Hg zt zq F81 xcn xcm r81 UL UK UJ F82 r82 UI UH UG UF UE UD UC UB He Hd Hc Ha zp zo F83 xcl xck r83 UA Uz F84 r84 Uy Ux Uw Uv Uu Ut Us Ur Uq Up G9 F85 r85 qT Uo F86 r86 Un Um xn Ul Uk Uj F87 r87 Ui F88 r88 Uh Ug DQ Oq Uf Ue Ud Uc Ub G7 zm F89 xcj r89 T9 T8 DO T7 T6 T5 T3 O5 F90 xf9 r90 T2 T1 T0 TZ TY TX G6 O4 F91 xf8 r91 TW F92 r92 TV TU TT TS TR TQ G5 yr zl F93 xci r93 TP TO Oo TN TL TK F94 r94 TJ TI TH TG TF TE TD TC G3 G2 G1 GZ zk F95 xch r95 TB TA Tz Ty Tx Tw Tv GY GX GV GU GT GS zj F98 xcg r98 Tu Tt Ts Tq Tp To GR GQ GP GO GN GL F99 r99 ND xbx xlY NC NB NA Nz Ny Nw By xbw xlX Nv Nu Nt Ns Nr Nq Np No sV Ag tM xbv xc0 QY xlW Nn Nm Nl Nk Nj Ni Af xbu xcZ xlV Nh Ng Nf Nd Nc Nb Na M9 M8 Bx Bw Bv Bu Bt Bs Br Bq Bp Bo Bn Bm Bl Bj Bi tL tK tJ xbt QX QW QV xlU M7 M6 M5 M4 M3 M2 M0 Ae xbs xcY xlT MZ MY MX MW ze MV zb MU Bh xbr xlS MT xbq xlR MS xbp xlQ MR MQ MP MO MN MM ML Bg Bf Be Bd tI xbo QU xlP MK MJ xbn xlO MI MH MG MF ME MD MC MB Ba Ad tH xbm xcX QT xlN ql y9 xbl xlM MA xbk xlL Mz My Mx Mw Ac xbj xcW xlK Mu xbi xlJ Mt Ms y7 Mq Ab xbh xcV xlI Mp xbg xlH Mo Mn Mm Ml y6 Mj Aa xbf xcU xlG Mi y5 Mh Mg Mf y4 A9 z8 xbe xcT xlF Me Md Ma L9 L8 L7 L6 xbd xlE L5 L4 L3 L2 A8 A7 A6 A5 z7 xbc xcS xlD L1 L0 LZ LY LX xbb xlC LW LV xba xlB LU xa9 xlA uo yZ LS LR LQ LP LO LN A4 A3 A1 AZ tG tF xa8 QS QR xlz yY xa7 xly LM xa6 xlx um LL LK LJ LI LH LG LF AY AX AW tE tD xa5 QQ QP xlw xa4 xlv yX yW xa3 xlu yV LD LC LB LA Lz Ly Lx AU tC xa2 QO xlt Lw Lv Lu Ls Lq z6 xa1 xcR xls Lp Lo Lm Ll Lk AT AS AQ zZ tB xa0 xcQ QN xlr Li Lh Lg Lf xaZ xlq Le Lc Lb La AP zY xaY xcP xlp K9 K8 K7 K6 K5 K4 zX xaX xcO xlo K3 xaW xln K2 K1 K0 KZ KY KX AN tA xaV QM xlm yS KW xaU xll KV xaT xlk xaS xlj yR xaR xli KU xaQ xlh KT KS KR yQ KQ KP KO AM zW xaP xcN xlg KN KM KL KK KJ KI KH AL tz xaO QL xlf xaN xle KG KF xaM xld KE xaL xlc KD xaK xlb KC xaJ xla KB KA Kz Ky Kx zV xaI xcM xk9 Kw Kv Ku Kt xaH xk8 Ks xaG xk7 Kr xaF xk6 yO xaE xk5 Kq Kp Ko Kn Km Kj xaD xk4 xaC xk3 xaB xk2 xaA xk1 Ki xaz xk0 xay xkZ Kh Kg Kf Ke Kd Kb Ka J9 AK AJ tx xax QK xkY J8 J7 J6 J5 J4 ui J3 AI AH AG AF AE tw xaw QJ xkX J2 J1 J0 JZ JY JX JW AD zU xav xcL xkW JV JU JT JS JR JQ JP zT xau xcK xkV JO JN JM JL JK zS xat xcJ xkU
end Go.Proofs.YtkggincjigbelaaGreatDoor