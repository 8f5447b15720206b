/- The resolved code of the functions of this seat, with directions, checked by the kernel. No condition. -/
import Derived.Test.YtkggincjigbelaaGreatDoorProg
import Derived.Test.YtkggincjigbelaaGreatDoorVa
import Derived.KernelRfl
open Bool renaming and_eq_true -> aw, false_eq_true -> aF
open List renaming append_assoc -> aY, append_nil -> br, cons_append -> bo, drop_zero -> bK, length_append -> ai, length_cons -> aj, length_map -> aK, length_nil -> ay, length_replicate -> dj, map_append -> c7, map_cons -> aD, map_nil -> b8, mem_cons -> am, nil_append -> aQ, not_mem_nil -> cg, replicate -> az
open Nat renaming add_zero -> ek, le_refl -> aP, zero_add -> cn, zero_le -> dB
open Option renaming bind_some -> ct, getD_some -> aV, map_some -> bf, some -> al
set_option maxRecDepth 100000
set_option linter.unusedVariables false
namespace Go.Proofs.YtkggincjigbelaaGreatDoor
open Tryz
open Go.Sy
abbrev xm(d s:Nat):SI:=⟨some d,none,.mov (.t s)⟩
abbrev xs(d:Nat)(o:SOp):SI:=⟨some d,none,o⟩
abbrev xi(d g:Nat)(b:Bool)(o:SOp):SI:=⟨some d,some (g,b),o⟩
abbrev om(d s:Nat):RI:= .op (xm d s) []
abbrev omk(d s:Nat):RI:= .op (xm d s) [s]
abbrev on(d:Nat)(o:SOp):RI:= .op (xs d o) []
abbrev oo(d:Nat)(o:SOp)(k:List Nat):RI:= .op (xs d o) k
abbrev ci(n:Int):Arg:= .c (.int .i64 n)
abbrev Fm(n d s:Nat):FI:=⟨n,true,xm d s⟩
abbrev Fs(n d:Nat)(o:SOp):FI:=⟨n,true,xs d o⟩
abbrev Fz(n d:Nat)(o:SOp):FI:=⟨n,false,xs d o⟩
abbrev Fi(n d g:Nat)(b:Bool)(o:SOp):FI:=⟨n,true,xi d g b o⟩
abbrev Ld(s:Nat):SOp:= .load 1 false (.t s)
abbrev Fa(n s:Nat):SOp:= .faddr n (.t s)
abbrev Ln(s:Nat):SOp:= .len false (.t s)
abbrev Ia(n a b:Nat):SOp:= .iaddrL n (.t a) (.t b)
abbrev Mv(s:Nat):SOp:= .mov (.t s)
abbrev Bb(o:BinOp)(a b:Nat):SOp:= .bin o (.t a) (.t b)
abbrev Bc(o:BinOp)(a:Nat)(n:Int):SOp:= .bin o (.t a) (ci n)
abbrev Ca(f:Nat)(l:List Arg):SOp:= .call (.f f) l
abbrev Pf(a b:Nat):SOp:= .pick (.t a) (.t b) (.c (.bool false))
abbrev Pt(a b:Nat):SOp:= .pick (.t a) (.c (.bool true)) (.t b)
abbrev So(l:List RI)(x:RC):RC:= .seq (.ops l) x
abbrev Kk(l:List Nat)(x:RC):RC:= .pre [.kill l] x
abbrev Kc(n:Nat)(x y:RC):RC:= .cond (.t n) x y
abbrev Fy(n d g:Nat)(b:Bool)(o:SOp):FI:=⟨n,false,xi d g b o⟩
abbrev Fr(n k a x:Nat):FI:=⟨n,false,⟨none,none,.store k (.t a) (.t x)⟩⟩
abbrev Sr(n a x:Nat)(k:List Nat):RI:= .op ⟨none,none,.store n (.t a) (.t x)⟩ k
abbrev Lt(n s:Nat):SOp:= .load n true (.t s)
abbrev Mc(n:Int):SOp:= .mov (ci n)
abbrev Mb(b:Bool):SOp:= .mov (.c (.bool b))
abbrev Bk(n:Nat)(x:RC):RC:= .block n x
abbrev Sq(x y:RC):RC:= .seq x y
abbrev Zq0:List SV:=[.str [],.int .i64 0,.int .i64 0,.int .i64 0,.int .i64 0,.lst 4 [] .clip,.lst 4 [] .clip]
abbrev Zq1:List SV:=[.byt [] .clip,.lst 2 [] .clip]
def cs0:List UInt8:=[0,1,2,2,3,3,3,3,4,4,4,4,4,4,4,4,5,5,5,5,5,5,5,5,5,5,5,5,5,5,5,5,6,6,6,6,6,6,6,6,6,6,6,6,6,6,6,6,6,6,6,6,6,6,6,6,6,6,6,6,6,6,6,6,7,7,7,7,7,7,7,7,7,7,7,7,7,7,7,7,7,7,7,7,7,7,7,7,7,7,7,7,7,7,7,7,7,7,7,7,7,7,7,7,7,7,7,7,7,7,7,7,7,7,7,7,7,7,7,7,7,7,7,7,7,7,7,7,8,8,8,8,8,8,8,8,8,8,8,8,8,8,8,8,8,8,8,8,8,8,8,8,8,8,8,8,8,8,8,8,8,8,8,8,8,8,8,8,8,8,8,8,8,8,8,8,8,8,8,8,8,8,8,8,8,8,8,8,8,8,8,8,8,8,8,8,8,8,8,8,8,8,8,8,8,8,8,8,8,8,8,8,8,8,8,8,8,8,8,8,8,8,8,8,8,8,8,8,8,8,8,8,8,8,8,8,8,8,8,8,8,8,8,8,8,8,8,8,8,8,8,8,8,8,8,8]
def gJ:List SV:=[.int .u32 1116352408,.int .u32 1899447441,.int .u32 3049323471,.int .u32 3921009573,.int .u32 961987163,.int .u32 1508970993,.int .u32 2453635748,.int .u32 2870763221,.int .u32 3624381080,.int .u32 310598401,.int .u32 607225278,.int .u32 1426881987,.int .u32 1925078388,.int .u32 2162078206,.int .u32 2614888103,.int .u32 3248222580,.int .u32 3835390401,.int .u32 4022224774,.int .u32 264347078,.int .u32 604807628,.int .u32 770255983,.int .u32 1249150122,.int .u32 1555081692,.int .u32 1996064986,.int .u32 2554220882,.int .u32 2821834349,.int .u32 2952996808,.int .u32 3210313671,.int .u32 3336571891,.int .u32 3584528711,.int .u32 113926993,.int .u32 338241895,.int .u32 666307205,.int .u32 773529912,.int .u32 1294757372,.int .u32 1396182291,.int .u32 1695183700,.int .u32 1986661051,.int .u32 2177026350,.int .u32 2456956037,.int .u32 2730485921,.int .u32 2820302411,.int .u32 3259730800,.int .u32 3345764771,.int .u32 3516065817,.int .u32 3600352804,.int .u32 4094571909,.int .u32 275423344,.int .u32 430227734,.int .u32 506948616,.int .u32 659060556,.int .u32 883997877,.int .u32 958139571,.int .u32 1322822218,.int .u32 1537002063,.int .u32 1747873779,.int .u32 1955562222,.int .u32 2024104815,.int .u32 2227730452,.int .u32 2361852424,.int .u32 2428436474,.int .u32 2756734187,.int .u32 3204031479,.int .u32 3329325298]
instance:aU:=⟨fun
 |0=>some gJ
 |_=>none⟩
def RM:List RI:=[oo 6 (.box (.t 0)) [0],oo 12 (Mb false) [12]]
def Wq:List RI:=[on 24 (Ca 11 []),oo 25 (.un .not (.t 24)) [24]]
def Bn:List RI:=[on 12 (Mb false)]
def Wp:List RI:=[on 26 (Fa 0 6),oo 27 (Ld 26) [26],oo 28 (Ca 12 [.t 27,ci 40]) [27],on 29 (Fa 0 6),Sr 1 29 28 [28,29]]
def Wo:List RI:=[on 30 (Fa 0 6),oo 31 (Ld 30) [30],oo 32 (Ca 13 [.t 31]) [31],omk 33 2,oo 34 (Ca 14 [.t 33,ci 1099511627777]) [33],oo 35 (.build [.byt [] .clip,.int .i64 0] [(0,1,(.t 32)),(1,1,(.t 34))]) [32,34],on 13 (.new (.rc [.byt [] .clip,.int .i64 0])),Sr 2 13 35 [35]]
def Wn:List RI:=[on 36 (Lt 2 13),oo 37 (Ca 15 [.t 36]) [36],omk 14 37]
def Wm:List RI:=[om 39 14,oo 40 (Ca 16 [.t 39]) [39],omk 38 40,on 41 (.ext (.t 38) 0),oo 42 (.ext (.t 38) 1) [38],on 15 (.new (.rc [.byt [] .clip,.int .i64 0])),Sr 2 15 41 [41],omk 16 42]
def Wk:List FI:=[Fm 0 43 16,Fs 1 44 (Bc .neq 43 0),Fm 2 45 44,Fi 3 46 45 false (Lt 2 13),Fi 4 47 45 false (Lt 2 15),Fy 5 48 45 false (Ca 17 [.t 46,.t 47]),Fi 6 49 45 false (.un .not (.t 48)),Fs 7 50 (Pt 45 49),Fm 8 51 50,Fi 9 52 51 false (Mv 14),Fi 10 53 51 false (Lt 2 13),Fy 11 54 51 false (Ca 19 [.t 53]),Fy 12 55 51 false (Ca 18 [.t 52,.t 54]),Fi 13 56 51 false (.un .not (.t 55)),Fs 14 57 (Pt 51 56),Fm 15 58 57,Fi 16 59 58 false (Lt 2 6),Fi 18 61 58 false (Lt 2 6),Fy 17 60 58 false (Ca 15 [.t 59]),Fy 19 62 58 false (Ca 19 [.t 61]),Fy 20 63 58 false (Ca 18 [.t 60,.t 62]),Fi 21 64 58 false (.un .not (.t 63)),Fs 22 65 (Pt 58 64)]
def Wj:List RI:=[on 66 (.litB []),omk 67 14,.own (xs 68 (.app [.u8 0] 1 (.t 66) (.t 67))) [66,67],omk 17 68]
def Lc:List RI:=[om 69 17,omk 70 3,om 71 17,oo 72 (Ln 71) [71],oo 73 (Ca 14 [.t 70,.t 72]) [70,72],omk 74 4,oo 75 (Ia 1 69 73) [69,73],Sr 1 75 74 [74,75]]
def Lb:List RI:=[om 76 5,oo 77 (Bc .and 76 1) [76],oo 78 (Bc .eql 77 1) [77]]
def La:List RI:=[om 79 17,omk 80 5,oo 81 (.bin .shr (.t 80) (.c (.int .u64 1))) [80],omk 82 17,oo 83 (Ln 82) [82],oo 84 (Bc .add 83 1) [83],oo 85 (Ca 14 [.t 81,.t 84]) [81,84],oo 86 (.slcL 1 (.t 79) none (some (.t 85)) none) [79,85],omk 17 86]
def K9:List RI:=[omk 87 1,oo 88 (Ca 12 [.t 87,ci 60]) [87],omk 89 17,.dir (.pub 89),oo 90 (.lit 1 [.t 88,.t 89]) [88,89],on 91 (Ln 90),on 92 (Mc 0)]
def K8:List RI:=[on 93 (Bb .lss 92 91)]
def K7:List RI:=[on 94 (Ia 1 90 92),oo 95 (Ld 94) [94],omk 19 95]
def K6:List RI:=[om 97 19,oo 98 (Ca 16 [.t 97]) [97],omk 96 98,on 99 (.ext (.t 96) 0),oo 100 (.ext (.t 96) 1) [96],on 20 (.new (.rc [.byt [] .clip,.int .i64 0])),Sr 2 20 99 [99],omk 21 100]
def K5:List RI:=[omk 102 19,oo 103 (Ca 20 [.t 102]) [102],omk 101 103,on 104 (.ext (.t 101) 0),oo 105 (.ext (.t 101) 1) [101],on 22 (.new (.rc [.byt [] .clip,.int .i64 0])),Sr 2 22 104 [104],omk 23 105]
def K4:List RI:=[omk 106 21,omk 107 23,oo 108 (Bb .neq 106 107) [106,107],omk 109 108,.grp 109 false [(xi 110 109 false (Lt 2 20)),(xi 111 109 false (Lt 2 22)),(xi 112 109 false (Ca 17 [.t 110,.t 111])),(xi 113 109 false (.un .not (.t 112)))] [20,22,110,111,112],oo 114 (Pt 109 113) [109,113]]
def K3:List RI:=[oo 115 (Bc .add 92 1) [92],omk 92 115]
def xI:RC:=(.post (So K8 (Sq (Kc 93 (Kk [93] .skip) (Kk [90,91,92,93] (.exit 0))) (Sq (Bk 1 (So K7 (So K6 (So K5 (So K4 (Kc 114 (Kk [90,91,92,114] (So Bn .ret)) (Kk [114] .skip))))))) (.ops K3)))) [.gc [120,122]])
def jV:RC:=xI
def K2:List RI:=[on 12 (Mb true)]
def r3:RC:=(So RM (Sq (So Wq (Kc 25 (Kk [1,2,3,4,5,6,25] (So Bn .ret)) (Kk [25] .skip))) (So Wp (So Wo (So Wn (So Wm (Sq (Sq (.flt [0,1,3,7,7,31,63,127,255,511,511,1535,4095,8191,16383,32767,65535,131071,65535,524287,1048575,2097151,4194303] [] Wk [6,13,15,16,43,44,45,46,47,48,49,50,51,52,53,54,55,56,57,58,59,60,61,62,63,64]) (Kc 65 (Kk [1,3,4,5,14,65] (So Bn .ret)) (Kk [65] .skip))) (So Wj (So Lc (Sq (So Lb (Kc 78 (Kk [78] (.ops La)) (Kk [5,78] .skip))) (Sq (So K9 (Bk 0 (.loop jV))) (So K2 .ret))))))))))))
def F3:FnC:=⟨r3,116,[.tmp 12],[],[]⟩
def Wi:List RI:=[on 16 (Ca 11 []),oo 17 (.un .not (.t 16)) [16]]
def Wh:List RI:=[on 18 (Lt 2 6),oo 19 (Ca 21 [.t 18]) [18],Sr 2 6 19 [19]]
def Wg:List RI:=[omk 20 1,omk 21 2,oo 22 (Ca 22 [.t 20,.t 21]) [20,21],on 13 (.new (.rc [.lst 2 [] .clip,.int .i64 0])),Sr 2 13 22 [22]]
def Wf:List FI:=[Fs 0 23 (Lt 2 6),Fs 2 25 (Lt 2 6),Fz 1 24 (Ca 23 [.t 23]),Fz 3 26 (Ca 24 [.t 25]),Fs 4 27 (Bb .neq 24 26),Fm 5 28 27,Fi 6 29 28 false (Lt 2 13),Fy 7 30 28 false (Ca 23 [.t 29]),Fi 8 31 28 false (Bc .neq 30 0),Fs 9 32 (Pt 28 31)]
def We:List RI:=[on 33 (.lit 2 []),on 34 (Fa 0 13),oo 35 (Ld 34) [34],.own (xs 36 (.app [.int .i64 0,.byt [] .clip] 32 (.t 33) (.t 35))) [33,35],omk 14 36]
def Wc:List RI:=[omk 37 4,om 38 14,oo 39 (Ln 38) [38],oo 40 (Ca 14 [.t 37,.t 39]) [37,39],omk 15 40]
def Wb:List RI:=[omk 41 3,oo 42 (Ca 14 [.t 41,ci 6]) [41]]
def Kh:List RI:=[on 59 (Bc .eql 42 0),omk 58 59]
def Kg:List RI:=[omk 60 5,oo 61 (Ca 14 [.t 60,ci 6]) [60],oo 62 (Bc .sub 61 1) [61],on 63 (Fa 1 13),Sr 1 63 62 [62,63]]
def Kf:List RI:=[on 65 (Bc .eql 42 1),omk 64 65]
def Ke:List RI:=[om 66 14,omk 67 15,omk 68 5,oo 69 (Ia 2 66 67) [66,67],oo 70 (Fa 0 69) [69],Sr 1 70 68 [68,70]]
def Kd:List RI:=[on 72 (Bc .eql 42 2),omk 71 72]
def Kb:List RI:=[om 73 14,omk 74 15,omk 75 5,oo 76 (Ca 14 [.t 75,ci 9]) [75],oo 77 (Ia 2 73 74) [73,74],oo 78 (Fa 0 77) [77],Sr 1 78 76 [76,78]]
def Ka:List RI:=[on 80 (Bc .eql 42 3),omk 79 80]
def J9:List RI:=[om 81 14,om 82 15,om 83 14,omk 84 15,oo 85 (Ia 2 83 84) [83,84],oo 86 (Fa 1 85) [85],oo 87 (Ld 86) [86],oo 88 (.slcL 1 (.t 87) none (some (ci 16)) none) [87],oo 89 (Ia 2 81 82) [81,82],oo 90 (Fa 1 89) [89],Sr 1 90 88 [88,90]]
def J8:List RI:=[oo 92 (Bc .eql 42 4) [42],omk 91 92]
def J7:List RI:=[om 93 14,omk 94 14,.own (xs 95 (.app [.int .i64 0,.byt [] .clip] 32 (.t 93) (.t 94))) [93,94],omk 14 95]
def J6:List FI:=[Fs 0 43 (.lit 2 []),Fm 1 44 14,Fm 2 45 15,Fs 3 46 (.slcL 2 (.t 44) none (some (.t 45)) none),Fm 5 48 14,Fm 6 49 15,Fs 7 50 (Ia 2 48 49),Fs 8 51 (Lt 2 50),Fs 9 52 (.lit 2 [.t 51]),Fm 11 54 14,Fm 12 55 15,Fs 13 56 (.slcL 2 (.t 54) (some (.t 55)) none none),Fz 4 47 (.app [.int .i64 0,.byt [] .clip] 32 (.t 43) (.t 46)),Fz 10 53 (.app [.int .i64 0,.byt [] .clip] 32 (.t 47) (.t 52)),Fz 14 57 (.app [.int .i64 0,.byt [] .clip] 32 (.t 53) (.t 56)),⟨15,false,(xm 14 57)⟩]
def J5:List RI:=[omk 96 14,on 97 (Fa 0 13),Sr 1 97 96 [96,97]]
def J4:List FI:=[Fs 0 98 (Lt 2 13),Fs 2 100 (Lt 2 13),Fz 1 99 (Ca 23 [.t 98]),Fz 3 101 (Ca 24 [.t 100]),Fs 4 102 (Bb .eql 99 101),Fm 5 12 102]
def r4:RC:=(So RM (Sq (So Wi (Kc 17 (Kk [1,2,3,4,5,6,17] (So Bn .ret)) (Kk [17] .skip))) (So Wh (So Wg (Sq (Sq (.flt [0,1,0,7,15,31,63,127,255,511] [] Wf [6,23,24,25,26,27,28,29,30,31]) (Kc 32 (Kk [3,4,5,13,32] (So Bn .ret)) (Kk [32] .skip))) (So We (So Wc (Sq (So Wb (Bk 0 (So Kh (Kc 58 (Kk [15,42,58] (.ops Kg)) (Kk [58] (So Kf (Kc 64 (Kk [42,64] (.ops Ke)) (Kk [64] (So Kd (Kc 71 (Kk [42,71] (.ops Kb)) (Kk [5,71] (So Ka (Kc 79 (Kk [42,79] (.ops J9)) (Kk [79] (So J8 (Kc 91 (Kk [15,91] (.ops J7)) (Kk [91] (.flt [0,0,0,6,15,0,0,96,224,480,1023,0,0,6144,16383,32767] [147,153,157] J6 [15,43,44,45,46,47,48,49,50,51,52,53,54,55,56,57])))))))))))))))))) (So J5 (Sq (.flt [0,1,0,7,15,31] [] J4 [13,98,99,100,101,102]) .ret))))))))))
def F4:FnC:=⟨r4,103,[.tmp 12],[],[]⟩
def MD:List RI:=[oo 0 (Mb false) [0]]
def MC:List RI:=[on 6 (Ca 22 [ci 0,ci 0]),on 1 (.new (.rc [.lst 2 [] .clip,.int .i64 0])),Sr 2 1 6 [6]]
def MB:List RI:=[on 7 (.mkB (ci 32) (ci 32)),oo 8 (.build [.byt [] .clip,.int .i64 0] [(0,1,(.t 7)),(1,1,(ci 9))]) [7],oo 9 (Ca 15 [.t 8]) [8],omk 2 9]
def MA:List RI:=[om 10 2,oo 11 (.build Zq1 [(0,1,(.t 10))]) [10],on 12 (Ca 39 [ci 3]),oo 13 (Ca 28 [.t 11,ci 3,.t 12,ci 1,ci 1]) [11,12],on 3 (.new (.rc Zq1)),Sr 2 3 13 [13]]
def Mz:List RI:=[om 15 2,oo 16 (Ca 16 [.t 15]) [15],omk 14 16,on 17 (.ext (.t 14) 0),oo 18 (.ext (.t 14) 1) [14],on 4 (.new (.rc [.byt [] .clip,.int .i64 0])),Sr 2 4 17 [17],omk 5 18]
def My:List RI:=[om 19 2,oo 20 (Ln 19) [19],oo 21 (Bc .eql 20 39) [20],omk 22 21,.grp 22 true [(xi 23 22 true (Fa 1 3)),(xi 24 22 true (Ld 23)),(xi 25 22 true (Ln 24)),(xi 26 22 true (Bc .eql 25 1))] [23,24,25],oo 27 (Pf 22 26) [22,26],omk 28 27,.grp 28 true [(xi 29 28 true (Lt 2 1)),(xi 30 28 true (Lt 2 3)),(xi 31 28 true (Ca 34 [.t 29,.t 30])),(xi 32 28 true (Bc .eql 31 0))] [3,29,30,31],oo 33 (Pf 28 32) [28,32],omk 34 33,.grp 34 true [(xi 35 34 true (Mv 5)),(xi 36 34 true (Bc .eql 35 0))] [5,35],oo 37 (Pf 34 36) [34,36],omk 38 37,.grp 38 true [(xi 39 38 true (Fa 1 4)),(xi 40 38 true (Ld 39)),(xi 41 38 true (Bc .eql 40 9))] [4,39,40],oo 42 (Pf 38 41) [38,41],omk 43 42,.grp 43 true [(xi 44 43 true (Lt 2 1)),(xi 45 43 true (Mv 2)),(xi 46 43 true (.build Zq1 [(0,1,(.t 45))])),(xi 47 43 true (Ca 34 [.t 44,.t 46])),(xi 48 43 true (Bc .eql 47 44))] [1,2,44,45,46,47],oo 49 (Pf 43 48) [43,48],omk 0 49]
def r11:RC:=(So MD (So MC (So MB (So MA (So Mz (So My .ret))))))
def F11:FnC:=⟨r11,50,[.tmp 0],[],[]⟩
def fF:List RI:=[oo 4 (.mov (.c (.byt [] .clip))) [4]]
def Mx:List RI:=[om 5 0,oo 6 (Ln 5) [5],om 7 1,oo 8 (Bb .gtr 6 7) [6,7]]
def Mw:List RI:=[omk 9 0,omk 10 1,oo 11 (.slcL 1 (.t 9) none (some (.t 10)) none) [9,10],omk 4 11]
def Mu:List RI:=[omk 12 0,omk 4 12]
def r12:RC:=(So fF (Sq (So Mx (Kc 8 (Kk [8] (So Mw .ret)) (Kk [1,8] .skip))) (So Mu .ret)))
def F12:FnC:=⟨r12,13,[.tmp 4],[],[]⟩
def i6:List RI:=[oo 2 (.mov (.c (.byt [] .clip))) [2]]
def Mt:List RI:=[on 4 (.mkB (ci 32) (ci 32)),omk 3 4]
def Ms:List RI:=[om 5 3,omk 6 0,oo 7 (.cpy 1 (.t 5) (.t 6)) [5,6,7]]
def Mr:List RI:=[omk 8 3,omk 2 8]
def r13:RC:=(So i6 (So Mt (So Ms (So Mr .ret))))
def F13:FnC:=⟨r13,9,[.tmp 2],[],[]⟩
def xv:List RI:=[oo 4 (Mc 0) [4]]
def Mq:List RI:=[om 6 1,oo 7 (Bc .lss 6 1) [6]]
def g9:List RI:=[on 4 (Mc 0)]
def Mp:List RI:=[omk 8 0,om 9 1,oo 10 (Bb .rem 8 9) [8,9],omk 5 10]
def Mo:List RI:=[om 11 5,oo 12 (Bc .lss 11 0) [11]]
def Mn:List RI:=[omk 13 5,omk 14 1,oo 15 (Bb .add 13 14) [13,14],omk 5 15]
def Mm:List RI:=[omk 16 5,omk 4 16]
def r14:RC:=(So xv (Sq (So Mq (Kc 7 (Kk [0,1,7] (So g9 .ret)) (Kk [7] .skip))) (So Mp (Sq (So Mo (Kc 12 (Kk [12] (.ops Mn)) (Kk [1,12] .skip))) (So Mm .ret)))))
def F14:FnC:=⟨r14,17,[.tmp 4],[],[]⟩
def EV:List RI:=[oo 1 (.box (.t 0)) [0],oo 2 (.mov (.c (.byt [] .clip))) [2]]
def Ml:List RI:=[on 4 (Fa 0 1),oo 5 (Ld 4) [4],oo 6 (Ln 5) [5],oo 7 (Bc .neq 6 32) [6],omk 8 7,.grp 8 false [(xi 9 8 false (Fa 1 1)),(xi 10 8 false (Ld 9)),(xi 11 8 false (Bc .lss 10 0))] [9,10],oo 12 (Pt 8 11) [8,11],omk 13 12,.grp 13 false [(xi 14 13 false (Fa 1 1)),(xi 15 13 false (Ld 14)),(xi 16 13 false (Bc .gtr 15 1099511627776))] [14,15],oo 17 (Pt 13 16) [13,16]]
def xu:List RI:=[on 2 (.mov (.c (.byt [] .clip)))]
def Mj:List FI:=[Fs 1 19 (Fa 0 1),Fs 2 20 (Ld 19),Fz 0 18 (Ca 40 [(.c (.byt [] .clip)),ci 1,ci 22]),Fz 3 21 (.app [.u8 0] 1 (.t 18) (.t 20)),Fm 4 3 21]
def Mi:List RI:=[omk 22 3,oo 23 (Fa 1 1) [1],oo 24 (Ld 23) [23],oo 25 (Ca 40 [.t 22,ci 6,.t 24]) [22,24],omk 2 25]
def r15:RC:=(So EV (Sq (So Ml (Kc 17 (Kk [1,17] (So xu .ret)) (Kk [17] .skip))) (Sq (.flt [0,0,2,7,15] [121] Mj [18,19,20,21]) (So Mi .ret))))
def F15:FnC:=⟨r15,26,[.tmp 2],[],[]⟩
def EU:List RI:=[on 2 (.new (.rc [.byt [] .clip,.int .i64 0])),oo 3 (Mc 0) [3]]
def Mh:List RI:=[omk 7 0,oo 8 (Ca 41 [.t 7]) [7],omk 4 8]
def Mg:List RI:=[om 9 4,oo 10 (Ca 42 [.t 9,ci 1]) [9],omk 5 10]
def Mf:List RI:=[om 11 4,oo 12 (Ca 43 [.t 11,ci 32]) [11],oo 13 (.build [.byt [] .clip,.int .i64 0] [(0,1,(.t 12))]) [12],on 6 (.new (.rc [.byt [] .clip,.int .i64 0])),Sr 2 6 13 [13]]
def Me:List RI:=[om 14 4,oo 15 (Ca 42 [.t 14,ci 6]) [14],on 16 (Fa 1 6),Sr 1 16 15 [15,16]]
def Md:List RI:=[omk 17 4,oo 18 (Ca 44 [.t 17]) [17],oo 19 (Bc .neq 18 0) [18],omk 20 19,.grp 20 false [(xi 21 20 false (Mv 5)),(xi 22 20 false (Bc .neq 21 22))] [5,21],oo 23 (Pt 20 22) [20,22],omk 24 23,.grp 24 false [(xi 25 24 false (Fa 1 6)),(xi 26 24 false (Ld 25)),(xi 27 24 false (Bc .gtr 26 1099511627776))] [25,26],oo 28 (Pt 24 27) [24,27]]
def ET:List RI:=[on 29 (.build [.byt [] .clip,.int .i64 0] []),Sr 2 2 29 [29],on 3 (Mc 30)]
def ES:List RI:=[oo 30 (Lt 2 6) [6],Sr 2 2 30 [30],on 3 (Mc 0)]
def r16:RC:=(So EU (So Mh (So Mg (So Mf (So Me (Sq (So Md (Kc 28 (Kk [6,28] (So ET .ret)) (Kk [28] .skip))) (So ES .ret)))))))
def F16:FnC:=⟨r16,31,[.cell 2 2 true,.tmp 3],[],[]⟩
def Ma:List RI:=[oo 2 (.box (.t 0)) [0],oo 3 (.box (.t 1)) [1],oo 4 (Mb false) [4]]
def L9:List RI:=[on 5 (Fa 1 2),oo 6 (Ld 5) [5],on 7 (Fa 1 3),oo 8 (Ld 7) [7],oo 9 (Bb .eql 6 8) [6,8],omk 10 9,.grp 10 true [(xi 11 10 true (Fa 0 2)),(xi 12 10 true (Ld 11)),(xi 13 10 true (Fa 0 3)),(xi 14 10 true (Ld 13)),(xi 15 10 true (Ca 18 [.t 12,.t 14]))] [2,3,11,12,13,14],oo 16 (Pf 10 15) [10,15],omk 4 16]
def r17:RC:=(So Ma (So L9 .ret))
def F17:FnC:=⟨r17,17,[.tmp 4],[],[]⟩
def ER:List RI:=[oo 4 (Mb false) [4]]
def L8:List RI:=[om 6 0,oo 7 (Ln 6) [6],om 8 1,oo 9 (Ln 8) [8],oo 10 (Bb .neq 7 9) [7,9]]
def EP:List RI:=[on 4 (Mb false)]
def L7:List RI:=[on 5 (Mc 0)]
def L6:List RI:=[om 11 5,om 12 0,oo 13 (Ln 12) [12],oo 14 (Bb .lss 11 13) [11,13]]
def L5:List FI:=[Fm 0 17 0,Fm 1 18 5,Fs 2 19 (Ia 1 17 18),Fs 3 20 (Ld 19),Fm 4 21 1,Fm 5 22 5,Fs 6 23 (Ia 1 21 22),Fs 7 24 (Ld 23),Fs 8 25 (Bb .neq 20 24)]
def L4:List RI:=[omk 15 5,oo 16 (Bc .add 15 1) [15],omk 5 16]
def E9:RC:=(Sq (So L6 (Kc 14 (Kk [14] .skip) (Kk [0,1,5,14] (.exit 0)))) (Sq (Bk 1 (Sq (.flt [0,0,3,7,0,0,48,112,255] [] L5 [17,18,19,20,21,22,23,24]) (Kc 25 (Kk [0,1,5,25] (So EP .ret)) (Kk [25] .skip)))) (.ops L4)))
def EO:RC:=E9
def L3:List RI:=[on 4 (Mb true)]
def r18:RC:=(So ER (Sq (So L8 (Kc 10 (Kk [0,1,10] (So EP .ret)) (Kk [10] .skip))) (Sq (So L7 (Bk 0 (.loop EO))) (So L3 .ret))))
def F18:FnC:=⟨r18,26,[.tmp 4],[],[]⟩
def L2:List RI:=[on 3 (Fa 0 1),oo 4 (Ld 3) [3],oo 5 (Ln 4) [4],oo 6 (Bc .neq 5 32) [5],omk 7 6,.grp 7 false [(xi 8 7 false (Fa 1 1)),(xi 9 7 false (Ld 8)),(xi 10 7 false (Bc .lss 9 0))] [8,9],oo 11 (Pt 7 10) [7,10],omk 12 11,.grp 12 false [(xi 13 12 false (Fa 1 1)),(xi 14 12 false (Ld 13)),(xi 15 12 false (Bc .gtr 14 1099511627776))] [13,14],oo 16 (Pt 12 15) [12,15]]
def L1:List FI:=[Fs 0 17 (.litB [(.c (.u8 22))]),Fs 1 18 (Fa 0 1),Fs 2 19 (Ld 18),Fs 4 21 (Fa 1 1),Fs 5 22 (Ld 21),Fz 3 20 (.app [.u8 0] 1 (.t 17) (.t 19)),Fz 6 23 (Ca 45 [.t 20,ci 6,.t 22]),Fm 7 2 23]
def r19:RC:=(So EV (Sq (So L2 (Kc 16 (Kk [1,16] (So xu .ret)) (Kk [16] .skip))) (Sq (.flt [0,0,2,7,0,16,63,127] [120] L1 [1,17,18,19,20,21,22,23]) .ret)))
def F19:FnC:=⟨r19,24,[.tmp 2],[],[]⟩
def L0:List RI:=[omk 7 0,oo 8 (Ca 46 [.t 7]) [7],omk 4 8]
def LZ:List RI:=[om 9 4,oo 10 (Ca 47 [.t 9,ci 1]) [9],omk 5 10]
def LY:List RI:=[on 6 (.new (.rc [.byt [] .clip,.int .i64 0]))]
def LX:List RI:=[om 11 4,oo 12 (Ca 48 [.t 11,ci 32]) [11],on 13 (Fa 0 6),Sr 1 13 12 [12,13]]
def LW:List RI:=[om 14 4,oo 15 (Ca 47 [.t 14,ci 6]) [14],on 16 (Fa 1 6),Sr 1 16 15 [15,16]]
def LV:List RI:=[omk 17 5,oo 18 (Bc .neq 17 22) [17],omk 19 18,.grp 19 false [(xi 20 19 false (Mv 4)),(xi 21 19 false (Ca 49 [.t 20])),(xi 22 19 false (Bc .neq 21 0))] [4,20,21],oo 23 (Pt 19 22) [19,22],omk 24 23,.grp 24 false [(xi 25 24 false (Fa 1 6)),(xi 26 24 false (Ld 25)),(xi 27 24 false (Bc .gtr 26 1099511627776))] [25,26],oo 28 (Pt 24 27) [24,27]]
def r20:RC:=(So EU (So L0 (So LZ (So LY (So LX (So LW (Sq (So LV (Kc 28 (Kk [6,28] (So ET .ret)) (Kk [28] .skip))) (So ES .ret))))))))
def F20:FnC:=⟨r20,31,[.cell 2 2 true,.tmp 3],[],[]⟩
def LU:List RI:=[oo 1 (.box (.t 0)) [0],on 2 (.new (.rc [.lst 2 [] .clip,.int .i64 0]))]
def LS:List RI:=[on 5 (Fa 0 1),oo 6 (Ld 5) [5],oo 7 (Ln 6) [6],oo 8 (Bc .gtr 7 6) [7]]
def LR:List RI:=[on 9 (Fa 0 1),oo 10 (Ld 9) [9],oo 11 (.slcL 2 (.t 10) none (some (ci 6)) none) [10],on 12 (Fa 0 1),Sr 1 12 11 [11,12]]
def LQ:List RI:=[on 13 (.lit 2 []),on 14 (Fa 0 1),oo 15 (Ld 14) [14],.own (xs 16 (.app [.int .i64 0,.byt [] .clip] 32 (.t 13) (.t 15))) [13,15],omk 3 16]
def LP:List RI:=[om 17 4,om 18 3,oo 19 (Ln 18) [18],oo 20 (Bb .lss 17 19) [17,19]]
def LO:List RI:=[om 23 3,om 24 4,om 25 3,om 26 4,oo 27 (Ia 2 25 26) [25,26],oo 28 (Fa 1 27) [27],oo 29 (Ld 28) [28],oo 30 (Ca 12 [.t 29,ci 20]) [29],oo 31 (Ia 2 23 24) [23,24],oo 32 (Fa 1 31) [31],Sr 1 32 30 [30,32]]
def LN:List RI:=[omk 21 4,oo 22 (Bc .add 21 1) [21],omk 4 22]
def E8:RC:=(Sq (So LP (Kc 20 (Kk [20] .skip) (Kk [4,20] (.exit 0)))) (Sq (Bk 1 (.ops LO)) (.ops LN)))
def EN:RC:=E8
def LM:List RI:=[omk 33 3,on 34 (Fa 0 1),Sr 1 34 33 [33,34]]
def Bv:List RI:=[oo 35 (Lt 2 1) [1],Sr 2 2 35 [35]]
def r21:RC:=(So LU (Sq (So LS (Kc 8 (Kk [8] (.ops LR)) (Kk [8] .skip))) (So LQ (Sq (So g9 (Bk 0 (.loop EN))) (So LM (So Bv .ret))))))
def F21:FnC:=⟨r21,36,[.cell 2 2 true],[],[]⟩
def LL:List RI:=[on 4 (.new (.rc [.lst 2 [] .clip,.int .i64 0]))]
def LK:List RI:=[on 5 (.new (.rc [.lst 2 [] .clip,.int .i64 0]))]
def lF:List RI:=[on 6 (Mc 0)]
def LJ:List RI:=[om 7 6,om 8 0,oo 9 (Ca 14 [.t 8,ci 3]) [8],oo 10 (Bb .leq 7 9) [7,9]]
def LI:List FI:=[Fs 0 13 (Fa 0 5),Fs 1 14 (Ld 13),Fm 2 15 6,Fs 3 16 (.bin .mul (ci 2) (.t 15)),Fs 4 17 (.bin .add (ci 3) (.t 16)),Fm 5 18 6,Fs 6 19 (.bin .mul (ci 2) (.t 18)),Fs 7 20 (.bin .add (ci 3) (.t 19)),Fz 8 21 (Ca 39 [.t 20]),Fz 9 22 (Ca 50 [.t 21,ci 1]),Fs 10 23 (.build [.int .i64 0,.byt [] .clip] [(0,1,(.t 17)),(1,1,(.t 22))]),Fs 11 24 (.lit 2 [.t 23]),Fz 12 25 (.app [.int .i64 0,.byt [] .clip] 32 (.t 14) (.t 24)),Fs 13 26 (Fa 0 5),Fr 14 1 26 25]
def LH:List RI:=[omk 11 6,oo 12 (Bc .add 11 1) [11],omk 6 12]
def E7:RC:=(Sq (So LJ (Kc 10 (Kk [10] .skip) (Kk [0,6,10] (.exit 0)))) (Sq (Bk 1 (.flt [0,1,0,4,12,0,32,96,224,480,1020,2044,4095,8191,16383] [125] LI [13,14,15,16,17,18,19,20,21,22,23,24,25,26])) (.ops LH)))
def LG:RC:=E7
def LF:List RI:=[omk 27 1,on 28 (Fa 0 5),oo 29 (Ld 28) [28],oo 30 (Ln 29) [29],oo 31 (Ca 14 [.t 27,.t 30]) [27,30],oo 32 (.bin .add (ci 1) (.t 31)) [31],on 33 (Fa 1 5),Sr 1 33 32 [32,33]]
def LD:List RI:=[oo 34 (Lt 2 5) [5],Sr 2 4 34 [34]]
def r22:RC:=(So LL (So LK (Sq (So lF (Bk 0 (.loop LG))) (So LF (So LD .ret)))))
def F22:FnC:=⟨r22,35,[.cell 4 2 true],[],[]⟩
def EM:List RI:=[oo 1 (.box (.t 0)) [0],oo 2 (Mc 0) [2]]
def EL:List RI:=[on 5 (Fa 0 1),oo 6 (Ld 5) [5],oo 7 (Ln 6) [6],oo 8 (Bc .gtr 7 4) [7]]
def EK:List RI:=[on 2 (Mc 4)]
def LC:List RI:=[on 9 (Fa 0 1),oo 10 (Ld 9) [9],on 11 (Ln 10),on 12 (Mc 0)]
def EJ:List RI:=[on 13 (Bb .lss 12 11)]
def LB:List RI:=[om 14 12,on 15 (Ia 2 10 12),oo 16 (Lt 2 15) [15],on 4 (.new (.rc [.int .i64 0,.byt [] .clip])),omk 3 14,Sr 2 4 16 [16]]
def LA:List RI:=[on 17 (Fa 0 4),oo 18 (Ld 17) [17],oo 19 (Bc .lss 18 1) [18],omk 20 19,.grp 20 false [(xi 21 20 false (Fa 0 4)),(xi 22 20 false (Ld 21)),(xi 23 20 false (Bc .gtr 22 1000))] [21,22],oo 24 (Pt 20 23) [20,23],omk 25 24,.grp 25 false [(xi 26 25 false (Fa 1 4)),(xi 27 25 false (Ld 26)),(xi 28 25 false (Ln 27)),(xi 29 25 false (Bc .neq 28 17))] [26,27,28],oo 30 (Pt 25 29) [25,29]]
def rj:List RI:=[on 2 (Mc 1)]
def Lz:List FI:=[Fm 0 31 3,Fs 1 32 (Bc .gtr 31 0),Fm 2 33 32,Fi 3 34 33 true (Fa 0 4),Fi 4 35 33 true (Ld 34),Fi 5 36 33 true (Fa 0 1),Fi 6 37 33 true (Ld 36),Fi 7 38 33 true (Mv 3),Fi 8 39 33 true (Bc .sub 38 1),Fi 9 40 33 true (Ia 2 37 39),Fi 10 41 33 true (Fa 0 40),Fi 11 42 33 true (Ld 41),Fi 12 43 33 true (Bb .leq 35 42),Fs 13 44 (Pf 33 43)]
def EI:List RI:=[on 2 (Mc 41)]
def Bu:List RI:=[oo 45 (Bc .add 12 1) [12],omk 12 45]
def tg:RC:=(.post (So EJ (Sq (Kc 13 (Kk [13] .skip) (Kk [10,11,12,13] (.exit 0))) (Sq (Bk 1 (So LB (Sq (So LA (Kc 30 (Kk [1,3,4,10,11,12,30] (So rj .ret)) (Kk [30] .skip))) (Sq (.flt [0,1,3,7,15,7,39,7,135,487,999,2023,4095,8191] [] Lz [3,4,31,32,33,34,35,36,37,38,39,40,41,42,43]) (Kc 44 (Kk [1,10,11,12,44] (So EI .ret)) (Kk [44] .skip)))))) (.ops Bu)))) [.gc [104]])
def jM:RC:=tg
def Bt:List RI:=[on 46 (Fa 1 1),oo 47 (Ld 46) [46],oo 48 (Bc .lss 47 1) [47],omk 49 48,.grp 49 false [(xi 50 49 false (Fa 1 1)),(xi 51 49 false (Ld 50)),(xi 52 49 false (Fa 0 1)),(xi 53 49 false (Ld 52)),(xi 54 49 false (Ln 53)),(xi 55 49 false (Bb .gtr 51 54))] [1,50,51,52,53,54],oo 56 (Pt 49 55) [49,55]]
def mO:List RI:=[on 2 (Mc 0)]
def r23:RC:=(So EM (Sq (So EL (Kc 8 (Kk [1,8] (So EK .ret)) (Kk [8] .skip))) (Sq (So LC (Bk 0 (.loop jM))) (Sq (So Bt (Kc 56 (Kk [56] (So rj .ret)) (Kk [56] .skip))) (So mO .ret)))))
def F23:FnC:=⟨r23,57,[.tmp 2],[],[]⟩
def EH:List RI:=[on 3 (Mc 0)]
def Ly:List RI:=[om 9 3,on 10 (Fa 0 1),oo 11 (Ld 10) [10],oo 12 (Ln 11) [11],oo 13 (Bb .lss 9 12) [9,12]]
def Lx:List RI:=[on 16 (Fa 0 1),oo 17 (Ld 16) [16],om 18 3,oo 19 (Ia 2 17 18) [17,18],oo 20 (Lt 2 19) [19],on 4 (.new (.rc [.int .i64 0,.byt [] .clip])),Sr 2 4 20 [20]]
def Lw:List RI:=[on 21 (Fa 0 4),oo 22 (Ld 21) [21],oo 23 (Bc .lss 22 1) [22],omk 24 23,.grp 24 false [(xi 25 24 false (Fa 0 4)),(xi 26 24 false (Ld 25)),(xi 27 24 false (Bc .gtr 26 1000))] [25,26],oo 28 (Pt 24 27) [24,27],omk 29 28,.grp 29 false [(xi 30 29 false (Fa 1 4)),(xi 31 29 false (Ld 30)),(xi 32 29 false (Ln 31)),(xi 33 29 false (Bc .neq 32 17))] [30,31,32],oo 34 (Pt 29 33) [29,33]]
def Lv:List FI:=[Fm 0 35 3,Fs 1 36 (Bc .gtr 35 0),Fm 2 37 36,Fi 3 38 37 true (Fa 0 4),Fi 4 39 37 true (Ld 38),Fi 5 40 37 true (Fa 0 1),Fi 6 41 37 true (Ld 40),Fi 7 42 37 true (Mv 3),Fi 8 43 37 true (Bc .sub 42 1),Fi 9 44 37 true (Ia 2 41 43),Fi 10 45 37 true (Fa 0 44),Fi 11 46 37 true (Ld 45),Fi 12 47 37 true (Bb .leq 39 46),Fs 13 48 (Pf 37 47)]
def Bs:List RI:=[omk 14 3,oo 15 (Bc .add 14 1) [14],omk 3 15]
def te:RC:=(.post (Sq (So Ly (Kc 13 (Kk [13] .skip) (Kk [3,13] (.exit 0)))) (Sq (Bk 1 (So Lx (Sq (So Lw (Kc 34 (Kk [1,3,4,34] (So rj .ret)) (Kk [34] .skip))) (Sq (.flt [0,1,3,7,15,7,39,7,135,487,999,2023,4095,8191] [] Lv [4,35,36,37,38,39,40,41,42,43,44,45,46,47]) (Kc 48 (Kk [1,3,48] (So EI .ret)) (Kk [48] .skip)))))) (.ops Bs))) [.gc [104]])
def jL:RC:=te
def Br:List RI:=[on 49 (Fa 1 1),oo 50 (Ld 49) [49],oo 51 (Bc .lss 50 1) [50],omk 52 51,.grp 52 false [(xi 53 52 false (Fa 1 1)),(xi 54 52 false (Ld 53)),(xi 55 52 false (Fa 0 1)),(xi 56 52 false (Ld 55)),(xi 57 52 false (Ln 56)),(xi 58 52 false (Bb .gtr 54 57))] [1,53,54,55,56,57],oo 59 (Pt 52 58) [52,58]]
def r24:RC:=(So EM (Sq (So EL (Kc 8 (Kk [1,8] (So EK .ret)) (Kk [8] .skip))) (Sq (So EH (Bk 0 (.loop jL))) (Sq (So Br (Kc 59 (Kk [59] (So rj .ret)) (Kk [59] .skip))) (So mO .ret)))))
def F24:FnC:=⟨r24,60,[.tmp 2],[],[]⟩
def Lu:List RI:=[oo 5 (.box (.t 0)) [0],on 10 (.new (.rc Zq1))]
def Ls:List RI:=[omk 12 1,omk 13 2,omk 14 3,omk 15 4,on 16 (Fa 0 5),oo 17 (Ld 16) [16],oo 18 (Ca 55 [.t 13,.t 14,.t 15,.t 17]) [13,14,15,17],oo 19 (.build [.int .i64 0,.byt [] .clip] [(0,1,(.t 12)),(1,1,(.t 18))]) [12,18],on 11 (.new (.rc [.int .i64 0,.byt [] .clip])),Sr 2 11 19 [19]]
def Lr:List FI:=[Fs 0 20 (Fa 1 5),Fs 1 21 (Ld 20),Fs 3 23 (Lt 2 11),Fs 4 24 (.lit 2 [.t 23]),Fz 2 22 (Ca 56 [.t 21]),Fz 5 25 (.app [.int .i64 0,.byt [] .clip] 32 (.t 22) (.t 24)),Fs 6 26 (Fa 1 5),Fr 7 1 26 25]
def Lq:List RI:=[oo 27 (Lt 2 5) [5],Sr 2 10 27 [27]]
def r28:RC:=(So Lu (So Ls (Sq (.flt [0,1,3,0,8,31,63,127] [125] Lr [11,20,21,22,23,24,25,26]) (So Lq .ret))))
def F28:FnC:=⟨r28,28,[.cell 10 2 true],[],[]⟩
def Lp:List RI:=[oo 2 (.box (.t 0)) [0],oo 3 (.box (.t 1)) [1],oo 4 (Mc 0) [4]]
def Lo:List RI:=[on 8 (Lt 2 2),oo 9 (Ca 23 [.t 8]) [8],omk 5 9]
def Lm:List RI:=[om 10 5,oo 11 (Bc .neq 10 0) [10]]
def Ll:List RI:=[omk 12 5,omk 4 12]
def Lk:List RI:=[on 13 (Fa 1 3),oo 14 (Ld 13) [13],oo 15 (Ln 14) [14],oo 16 (Bc .gtr 15 4) [15]]
def Lj:List RI:=[on 4 (Mc 4)]
def Li:List RI:=[on 18 (Fa 0 3),oo 19 (Ld 18) [18],oo 20 (Ca 61 [.t 19]) [19],omk 17 20,on 21 (.ext (.t 17) 0),oo 22 (.ext (.t 17) 1) [17],on 6 (.new (.rc Zq0)),Sr 7 6 21 [6,21],omk 7 22]
def Lh:List RI:=[om 23 7,oo 24 (Bc .neq 23 0) [23]]
def Lg:List RI:=[on 26 (Fa 0 3),oo 27 (Ld 26) [26],oo 28 (Ca 16 [.t 27]) [27],omk 25 28,oo 29 (.ext (.t 25) 0) [29],oo 30 (.ext (.t 25) 1) [25],omk 7 30]
def Lf:List RI:=[om 31 7,oo 32 (Bc .neq 31 0) [31]]
def Bq:List RI:=[omk 33 7,omk 4 33]
def Bp:List FI:=[Fs 0 34 (Lt 2 2),Fs 1 35 (Lt 2 3),Fs 4 38 (Fa 1 2),Fs 5 39 (Ld 38),Fz 2 36 (Ca 32 [.t 34,.t 35]),Fs 3 37 (Ln 36),Fs 6 40 (Bb .lss 37 39)]
def Bo:List RI:=[on 4 (Mc 44)]
def r34:RC:=(So Lp (Sq (So Lo (So Lm (Kc 11 (Kk [2,3,11] (So Ll .ret)) (Kk [5,11] .skip)))) (Sq (So Lk (Kc 16 (Kk [2,3,16] (So Lj .ret)) (Kk [16] .skip))) (So Li (Sq (So Lh (Kc 24 (Kk [7,24] (.ops Lg)) (Kk [24] .skip))) (Sq (So Lf (Kc 32 (Kk [2,3,32] (So Bq .ret)) (Kk [7,32] .skip))) (Sq (Sq (.flt [0,0,3,7,0,16,63] [] Bp [2,3,34,35,36,37,38,39]) (Kc 40 (Kk [40] (So Bo .ret)) (Kk [40] .skip))) (So g9 .ret))))))))
def F34:FnC:=⟨r34,41,[.tmp 4],[],[]⟩
def Le:List RI:=[omk 3 0,oo 4 (.toInt .u8 (.t 3)) [3],oo 5 (.litB [(.c (.u8 107)),.t 4]) [4],oo 6 (Ca 73 [.t 5]) [5],omk 2 6]
def r39:RC:=(So i6 (So Le .ret))
def F39:FnC:=⟨r39,7,[.tmp 2],[],[]⟩
def o5:List RI:=[oo 6 (.mov (.c (.byt [] .clip))) [6]]
def K1:List RI:=[omk 9 0,oo 10 (.app [.u8 0] 1 (.c (.byt [] .clip)) (.t 9)) [9],omk 7 10]
def K0:List RI:=[om 11 1,oo 12 (Bc .lss 11 1) [11],omk 13 12,.grp 13 false [(xi 14 13 false (Mv 1)),(xi 15 13 false (Bc .gtr 14 8))] [14],oo 16 (Pt 13 15) [13,15]]
def KZ:List RI:=[omk 17 7,omk 6 17]
def KY:List RI:=[omk 18 1,oo 19 (Bc .sub 18 1) [18],omk 8 19]
def KX:List RI:=[om 20 8,oo 21 (Bc .geq 20 0) [20]]
def KW:List RI:=[omk 24 7,om 25 2,oo 26 (.toInt .u64 (.t 25)) [25],om 27 8,oo 28 (.bin .mul (ci 8) (.t 27)) [27],oo 29 (.toInt .u64 (.t 28)) [28],oo 30 (Bb .shr 26 29) [26,29],oo 31 (.toInt .u8 (.t 30)) [30],oo 32 (.litB [.t 31]) [31],oo 33 (.app [.u8 0] 1 (.t 24) (.t 32)) [24,32],omk 7 33]
def KV:List RI:=[omk 22 8,oo 23 (Bc .sub 22 1) [22],omk 8 23]
def E6:RC:=(.post (Sq (So KX (Kc 21 (Kk [21] .skip) (Kk [2,8,21] (.exit 0)))) (Sq (Bk 1 (.ops KW)) (.ops KV))) [.tok 7 107])
def EG:RC:=E6
def KU:List RI:=[omk 34 7,omk 6 34]
def r40:RC:=(So o5 (So K1 (Sq (So K0 (Kc 16 (Kk [1,2,16] (So KZ .ret)) (Kk [16] .skip))) (Sq (So KY (Bk 0 (.pre [.tok 7 107] (.loop EG)))) (So KU .ret)))))
def F40:FnC:=⟨r40,35,[.tmp 6],[0],[]⟩
def EF:List RI:=[oo 2 (.mov (.c .nilp)) [2]]
def KT:List RI:=[omk 3 0,oo 4 (.app [.u8 0] 1 (.c (.byt [] .clip)) (.t 3)) [3],oo 5 (.build [.byt [] .clip,.int .i64 0,.int .i64 0] [(0,1,(.t 4))]) [4],oo 6 (.box (.t 5)) [5],omk 2 6]
def r41:RC:=(So EF (So KT .ret))
def F41:FnC:=⟨r41,7,[.tmp 2],[],[]⟩
def KS:List RI:=[om 10 0,oo 11 (.nchk (.t 10)) [10],oo 12 (Fa 2 11) [11],oo 13 (Ld 12) [12],oo 14 (Bc .neq 13 0) [13]]
def KR:List RI:=[om 15 1,oo 16 (Bc .lss 15 1) [15],omk 17 16,.grp 17 false [(xi 18 17 false (Mv 1)),(xi 19 17 false (Bc .gtr 18 8))] [18],oo 20 (Pt 17 19) [17,19]]
def KQ:List RI:=[omk 21 0,oo 22 (Ca 74 [.t 21,ci 1]) [21,22]]
def KP:List RI:=[om 24 0,om 25 0,oo 26 (.nchk (.t 25)) [25],oo 27 (Fa 1 26) [26],oo 28 (Ld 27) [27],om 29 1,oo 30 (Ca 75 [.t 24,.t 28,.t 29]) [24,28,29],omk 23 30,on 31 (.ext (.t 23) 0),oo 32 (.ext (.t 23) 1) [23],omk 5 31,omk 6 32]
def KO:List RI:=[om 33 6,oo 34 (Bc .neq 33 0) [33]]
def KN:List RI:=[omk 35 0,omk 36 6,oo 37 (Ca 74 [.t 35,.t 36]) [35,36,37]]
def Bm:List RI:=[on 7 (.mov (.c (.int .u64 0)))]
def Bl:List RI:=[omk 38 5,on 39 (Ln 38),on 40 (Mc 0)]
def Bj:List RI:=[on 41 (Bb .lss 40 39)]
def Bi:List RI:=[on 42 (Ia 1 38 40),oo 43 (Ld 42) [42],omk 9 43]
def Bh:List RI:=[omk 44 7,oo 45 (.bin .shl (.t 44) (.c (.int .u64 8))) [44],omk 46 9,oo 47 (.toInt .u64 (.t 46)) [46],oo 48 (Bb .or 45 47) [45,47],omk 7 48]
def Bg:List RI:=[oo 49 (Bc .add 40 1) [40],omk 40 49]
def td:RC:=(So Bj (Sq (Kc 41 (Kk [41] .skip) (Kk [38,39,40,41] (.exit 0))) (Sq (Bk 1 (So Bi (.ops Bh))) (.ops Bg))))
def sB:RC:=td
def Bf:List RI:=[om 50 7,oo 51 (.bin .gtr (.t 50) (.c (.int .u64 9223372036854775807))) [50]]
def Be:List RI:=[omk 52 0,oo 53 (Ca 74 [.t 52,ci 4]) [52,53]]
def Bd:List RI:=[omk 54 0,on 55 (.nchk (.t 54)),oo 56 (Fa 1 55) [55],oo 57 (Ld 56) [56],omk 58 1,oo 59 (Bb .add 57 58) [57,58],oo 60 (.nchk (.t 54)) [54],oo 61 (Fa 1 60) [60],Sr 1 61 59 [59,61]]
def Ba:List RI:=[omk 62 7,oo 63 (.toInt .i64 (.t 62)) [62],omk 4 63]
def r42:RC:=(So xv (Sq (So KS (Kc 14 (Kk [0,1,14] (So g9 .ret)) (Kk [14] .skip))) (Sq (So KR (Kc 20 (Kk [1,20] (So KQ (So g9 .ret))) (Kk [20] .skip))) (So KP (Sq (So KO (Kc 34 (Kk [1,5,34] (So KN (So g9 .ret))) (Kk [6,34] .skip))) (So Bm (Sq (So Bl (Bk 0 (.loop sB))) (Sq (So Bf (Kc 51 (Kk [1,7,51] (So Be (So g9 .ret))) (Kk [51] .skip))) (So Bd (So Ba .ret))))))))))
def F42:FnC:=⟨r42,64,[.tmp 4],[],[]⟩
def KM:List RI:=[om 7 0,oo 8 (.nchk (.t 7)) [7],oo 9 (Fa 2 8) [8],oo 10 (Ld 9) [9],oo 11 (Bc .neq 10 0) [10]]
def kX:List RI:=[on 4 (.mov (.c (.byt [] .clip)))]
def KL:List RI:=[om 12 1,oo 13 (Bc .lss 12 0) [12]]
def KK:List RI:=[omk 14 0,oo 15 (Ca 74 [.t 14,ci 1]) [14,15]]
def KJ:List RI:=[om 17 0,om 18 0,oo 19 (.nchk (.t 18)) [18],oo 20 (Fa 1 19) [19],oo 21 (Ld 20) [20],om 22 1,oo 23 (Ca 75 [.t 17,.t 21,.t 22]) [17,21,22],omk 16 23,on 24 (.ext (.t 16) 0),oo 25 (.ext (.t 16) 1) [16],omk 5 24,omk 6 25]
def KI:List RI:=[om 26 6,oo 27 (Bc .neq 26 0) [26]]
def KH:List RI:=[omk 28 0,omk 29 6,oo 30 (Ca 74 [.t 28,.t 29]) [28,29,30]]
def A9:List RI:=[omk 31 0,on 32 (.nchk (.t 31)),oo 33 (Fa 1 32) [32],oo 34 (Ld 33) [33],omk 35 1,oo 36 (Bb .add 34 35) [34,35],oo 37 (.nchk (.t 31)) [31],oo 38 (Fa 1 37) [37],Sr 1 38 36 [36,38]]
def A8:List RI:=[omk 39 5,oo 40 (.app [.u8 0] 1 (.c (.byt [] .clip)) (.t 39)) [39],omk 4 40]
def r43:RC:=(So fF (Sq (So KM (Kc 11 (Kk [0,1,11] (So kX .ret)) (Kk [11] .skip))) (Sq (So KL (Kc 13 (Kk [1,13] (So KK (So kX .ret))) (Kk [13] .skip))) (So KJ (Sq (So KI (Kc 27 (Kk [1,5,27] (So KH (So kX .ret))) (Kk [6,27] .skip))) (So A9 (So A8 .ret)))))))
def F43:FnC:=⟨r43,41,[.tmp 4],[],[]⟩
def jU:List RI:=[oo 2 (Mc 0) [2]]
def KG:List RI:=[om 3 0,oo 4 (.nchk (.t 3)) [3],oo 5 (Fa 2 4) [4],oo 6 (Ld 5) [5],oo 7 (Bc .eql 6 0) [6],omk 8 7,.grp 8 true [(xi 9 8 true (Mv 0)),(xi 10 8 true (Ca 76 [.t 9])),(xi 11 8 true (Bc .gtr 10 0))] [9,10],oo 12 (Pf 8 11) [8,11]]
def EE:List RI:=[on 2 (Mc 3)]
def ED:List RI:=[omk 13 0,oo 14 (.nchk (.t 13)) [13],oo 15 (Fa 2 14) [14],oo 16 (Ld 15) [15],omk 2 16]
def r44:RC:=(So jU (Sq (So KG (Kc 12 (Kk [0,12] (So EE .ret)) (Kk [12] .skip))) (So ED .ret)))
def F44:FnC:=⟨r44,17,[.tmp 2],[],[]⟩
def KF:List RI:=[on 9 (.litB []),omk 10 0,oo 11 (.app [.u8 0] 1 (.t 9) (.t 10)) [9,10],omk 7 11]
def KE:List RI:=[om 12 1,oo 13 (Bc .lss 12 1) [12],omk 14 13,.grp 14 false [(xi 15 14 false (Mv 1)),(xi 16 14 false (Bc .gtr 15 8))] [15],oo 17 (Pt 14 16) [14,16]]
def KD:List RI:=[omk 18 7,omk 6 18]
def KC:List RI:=[omk 19 1,oo 20 (Bc .sub 19 1) [19],omk 8 20]
def KB:List RI:=[om 21 8,oo 22 (Bc .geq 21 0) [21]]
def KA:List RI:=[omk 25 7,om 26 2,oo 27 (.toInt .u64 (.t 26)) [26],om 28 8,oo 29 (.toInt .u64 (.t 28)) [28],oo 30 (.bin .mul (.c (.int .u64 8)) (.t 29)) [29],oo 31 (Bb .shr 27 30) [27,30],oo 32 (.toInt .u8 (.t 31)) [31],oo 33 (.litB [.t 32]) [32],oo 34 (.app [.u8 0] 1 (.t 25) (.t 33)) [25,33],omk 7 34]
def Kz:List RI:=[omk 23 8,oo 24 (Bc .sub 23 1) [23],omk 8 24]
def E5:RC:=(.post (Sq (So KB (Kc 22 (Kk [22] .skip) (Kk [2,8,22] (.exit 0)))) (Sq (Bk 1 (.ops KA)) (.ops Kz))) [.tok 7 107])
def EC:RC:=E5
def Ky:List RI:=[omk 35 7,omk 6 35]
def r45:RC:=(So o5 (So KF (Sq (So KE (Kc 17 (Kk [1,2,17] (So KD .ret)) (Kk [17] .skip))) (Sq (So KC (Bk 0 (.pre [.tok 7 107] (.loop EC)))) (So Ky .ret)))))
def F45:FnC:=⟨r45,36,[.tmp 6],[0],[]⟩
def Kx:List RI:=[omk 3 0,oo 4 (.build [.byt [] .clip,.int .i64 0,.int .i64 0] [(0,1,(.t 3))]) [3],oo 5 (.box (.t 4)) [4],omk 2 5]
def r46:RC:=(So EF (So Kx .ret))
def F46:FnC:=⟨r46,6,[.tmp 2],[],[]⟩
def Kw:List RI:=[om 7 0,oo 8 (.nchk (.t 7)) [7],oo 9 (Fa 2 8) [8],oo 10 (Ld 9) [9],oo 11 (Bc .eql 10 0) [10],omk 12 11,.grp 12 true [(xi 13 12 true (Mv 1)),(xi 14 12 true (Bc .lss 13 1)),(xi 15 12 true (Mv 14))] [13,14],.grp 15 false [(xi 16 15 false (Mv 1)),(xi 17 15 false (Bc .gtr 16 8))] [16],.grp 12 true [(xi 18 12 true (Pt 15 17))] [15,17],oo 19 (Pf 12 18) [12,18]]
def Kv:List RI:=[om 20 0,oo 21 (.nchk (.t 20)) [20],oo 22 (Fa 2 21) [21],.op ⟨none,none,.store 1 (.t 22) (ci 1)⟩ [22]]
def Ku:List RI:=[om 23 0,oo 24 (.nchk (.t 23)) [23],oo 25 (Fa 2 24) [24],oo 26 (Ld 25) [25],oo 27 (Bc .neq 26 0) [26],omk 28 27,.grp 28 false [(xi 29 28 false (Mv 0)),(xi 30 28 false (Mv 1)),(xi 31 28 false (Ca 77 [.t 29,.t 30])),(xi 32 28 false (.un .not (.t 31)))] [29,30,31],oo 33 (Pt 28 32) [28,32]]
def Kt:List RI:=[on 5 (.mov (.c (.int .u64 0)))]
def Ks:List RI:=[om 34 6,om 35 1,oo 36 (Bb .lss 34 35) [34,35]]
def Kr:List FI:=[Fm 0 39 5,Fs 1 40 (.bin .shl (.t 39) (.c (.int .u64 8))),Fm 2 41 0,Fs 3 42 (.nchk (.t 41)),Fs 4 43 (Fa 0 42),Fs 5 44 (Ld 43),Fm 6 45 0,Fs 7 46 (.nchk (.t 45)),Fs 8 47 (Fa 1 46),Fs 9 48 (Ld 47),Fm 10 49 6,Fs 11 50 (Bb .add 48 49),Fs 12 51 (Ia 1 44 50),Fs 13 52 (Ld 51),Fs 14 53 (.toInt .u64 (.t 52)),Fs 15 54 (Bb .or 40 53),⟨16,false,(xm 5 54)⟩]
def Kq:List RI:=[omk 37 6,oo 38 (Bc .add 37 1) [37],omk 6 38]
def tc:RC:=(Sq (So Ks (Kc 36 (Kk [36] .skip) (Kk [6,36] (.exit 0)))) (Sq (Bk 1 (.flt [0,1,0,4,12,28,0,64,192,448,0,1984,4092,8188,16380,32767,65535] [] Kr [39,40,41,42,43,44,45,46,47,48,49,50,51,52,53,54])) (.ops Kq)))
def sA:RC:=tc
def A7:List RI:=[om 55 5,oo 56 (.bin .geq (.t 55) (.c (.int .u64 9223372036854775808))) [55]]
def A6:List RI:=[omk 57 0,oo 58 (.nchk (.t 57)) [57],oo 59 (Fa 2 58) [58],.op ⟨none,none,.store 1 (.t 59) (ci 4)⟩ [59]]
def A5:List RI:=[omk 60 0,on 61 (.nchk (.t 60)),oo 62 (Fa 1 61) [61],oo 63 (Ld 62) [62],omk 64 1,oo 65 (Bb .add 63 64) [63,64],oo 66 (.nchk (.t 60)) [60],oo 67 (Fa 1 66) [66],Sr 1 67 65 [65,67]]
def A4:List RI:=[omk 68 5,oo 69 (.toInt .i64 (.t 68)) [68],omk 4 69]
def r47:RC:=(So xv (Sq (So Kw (Kc 19 (Kk [19] (.ops Kv)) (Kk [19] .skip))) (Sq (So Ku (Kc 33 (Kk [0,1,33] (So g9 .ret)) (Kk [33] .skip))) (So Kt (Sq (So lF (Bk 0 (.loop sA))) (Sq (So A7 (Kc 56 (Kk [1,5,56] (So A6 (So g9 .ret))) (Kk [56] .skip))) (So A5 (So A4 .ret))))))))
def F47:FnC:=⟨r47,70,[.tmp 4],[],[]⟩
def Kp:List RI:=[om 5 0,oo 6 (.nchk (.t 5)) [5],oo 7 (Fa 2 6) [6],oo 8 (Ld 7) [7],oo 9 (Bc .eql 8 0) [8],omk 10 9,.grp 10 true [(xi 11 10 true (Mv 1)),(xi 12 10 true (Bc .lss 11 0))] [11],oo 13 (Pf 10 12) [10,12]]
def Ko:List RI:=[om 14 0,oo 15 (.nchk (.t 14)) [14],oo 16 (Fa 2 15) [15],.op ⟨none,none,.store 1 (.t 16) (ci 1)⟩ [16]]
def Kn:List RI:=[om 17 0,oo 18 (.nchk (.t 17)) [17],oo 19 (Fa 2 18) [18],oo 20 (Ld 19) [19],oo 21 (Bc .neq 20 0) [20],omk 22 21,.grp 22 false [(xi 23 22 false (Mv 0)),(xi 24 22 false (Mv 1)),(xi 25 22 false (Ca 77 [.t 23,.t 24])),(xi 26 22 false (.un .not (.t 25)))] [23,24,25],oo 27 (Pt 22 26) [22,26]]
def Km:List RI:=[om 28 0,on 29 (.nchk (.t 28)),oo 30 (Fa 1 29) [29],oo 31 (Ld 30) [30],om 32 1,oo 33 (Bb .add 31 32) [31,32],oo 34 (.nchk (.t 28)) [28],oo 35 (Fa 1 34) [34],Sr 1 35 33 [33,35]]
def Kj:List FI:=[Fs 0 36 (.litB []),Fm 1 37 0,Fs 2 38 (.nchk (.t 37)),Fs 3 39 (Fa 0 38),Fs 4 40 (Ld 39),Fm 5 41 0,Fs 6 42 (.nchk (.t 41)),Fs 7 43 (Fa 1 42),Fs 8 44 (Ld 43),Fm 9 45 1,Fs 10 46 (Bb .sub 44 45),Fm 11 47 0,Fs 12 48 (.nchk (.t 47)),Fs 13 49 (Fa 1 48),Fs 14 50 (Ld 49),Fs 15 51 (.slcL 1 (.t 40) (some (.t 46)) (some (.t 50)) none),Fz 16 52 (.app [.u8 0] 1 (.t 36) (.t 51)),Fm 17 4 52]
def r48:RC:=(So fF (Sq (So Kp (Kc 13 (Kk [13] (.ops Ko)) (Kk [13] .skip))) (Sq (So Kn (Kc 27 (Kk [0,1,27] (So kX .ret)) (Kk [27] .skip))) (So Km (Sq (.flt [0,0,2,6,14,0,32,96,224,0,992,0,2048,6144,14336,32766,65535,131071] [152] Kj [0,1,36,37,38,39,40,41,42,43,44,45,46,47,48,49,50,51,52]) .ret)))))
def F48:FnC:=⟨r48,53,[.tmp 4],[],[]⟩
def Ki:List RI:=[om 3 0,oo 4 (.nchk (.t 3)) [3],oo 5 (Fa 2 4) [4],oo 6 (Ld 5) [5],oo 7 (Bc .eql 6 0) [6],omk 8 7,.grp 8 true [(xi 9 8 true (Mv 0)),(xi 10 8 true (Ca 78 [.t 9])),(xi 11 8 true (Bc .gtr 10 0))] [9,10],oo 12 (Pf 8 11) [8,11]]
def r49:RC:=(So jU (Sq (So Ki (Kc 12 (Kk [0,12] (So EE .ret)) (Kk [12] .skip))) (So ED .ret)))
def F49:FnC:=⟨r49,17,[.tmp 2],[],[]⟩
def J3:List RI:=[om 5 1,oo 6 (Bc .lss 5 0) [5],omk 7 6,.grp 7 false [(xi 8 7 false (Mv 1)),(xi 9 7 false (Bc .gtr 8 3))] [8],oo 10 (Pt 7 9) [7,9]]
def J2:List RI:=[om 11 1,oo 12 (.toInt .u8 (.t 11)) [11],oo 13 (.litB [.t 12]) [12],omk 14 0,omk 15 1,oo 16 (Ca 80 [.t 14,.t 15]) [14,15],oo 17 (Ca 79 [.t 16]) [16],oo 18 (.app [.u8 0] 1 (.t 13) (.t 17)) [13,17],omk 4 18]
def r50:RC:=(So fF (Sq (So J3 (Kc 10 (Kk [0,1,10] (So kX .ret)) (Kk [10] .skip))) (So J2 .ret)))
def F50:FnC:=⟨r50,19,[.tmp 4],[],[]⟩
def lE:List RI:=[oo 8 (.mov (.c (.byt [] .clip))) [8]]
def J1:List RI:=[om 12 1,oo 13 (Ca 86 [.t 12]) [12],oo 14 (.un .not (.t 13)) [13],omk 15 14,.grp 15 false [(xi 16 15 false (Mv 2)),(xi 17 15 false (Bc .lss 16 0))] [16],oo 18 (Pt 15 17) [15,17],omk 19 18,.grp 19 false [(xi 20 19 false (Mv 2)),(xi 21 19 false (Mv 1)),(xi 22 19 false (.toInt .u64 (.t 21))),(xi 23 19 false (.bin .shl (ci 1) (.t 22))),(xi 24 19 false (Bb .geq 20 23))] [20,21,22,23],oo 25 (Pt 19 24) [19,24]]
def xq:List RI:=[on 8 (.mov (.c (.byt [] .clip)))]
def J0:List RI:=[om 26 2,oo 27 (.toInt .u8 (.t 26)) [26],oo 28 (.litB [.t 27]) [27],om 29 0,om 30 1,oo 31 (Ca 88 [.t 29,.t 30]) [29,30],om 32 2,omk 33 3,oo 34 (Ca 87 [.t 31,.t 32,.t 33]) [31,32,33],oo 35 (.app [.u8 0] 1 (.t 28) (.t 34)) [28,34],omk 9 35]
def JZ:List RI:=[omk 36 2,omk 37 0,omk 38 1,oo 39 (Ca 90 [.t 37,.t 38]) [37,38],oo 40 (Ca 89 [.t 36,.t 39]) [36,39],on 41 (Ln 40),on 42 (Mc 0)]
def JY:List RI:=[on 43 (Bb .lss 42 41)]
def JX:List RI:=[on 44 (Ia 1 40 42),oo 45 (Ld 44) [44],omk 11 45]
def JW:List RI:=[omk 46 9,omk 47 11,oo 48 (.app [.u8 0] 1 (.t 46) (.t 47)) [46,47],omk 9 48]
def JV:List RI:=[oo 49 (Bc .add 42 1) [42],omk 42 49]
def E4:RC:=(.post (So JY (Sq (Kc 43 (Kk [43] .skip) (Kk [40,41,42,43] (.exit 0))) (Sq (Bk 1 (So JX (.ops JW))) (.ops JV)))) [.tok 9 109])
def JU:RC:=E4
def A3:List RI:=[omk 50 9,omk 8 50]
def r55:RC:=(So lE (Sq (So J1 (Kc 25 (Kk [0,1,2,3,25] (So xq .ret)) (Kk [25] .skip))) (So J0 (Sq (So JZ (Bk 0 (.pre [.tok 9 109] (.loop JU)))) (So A3 .ret)))))
def F55:FnC:=⟨r55,51,[.tmp 8],[],[]⟩
def JT:List RI:=[oo 2 (.mov (.c (.lst 2 [] .clip))) [2]]
def JS:List RI:=[om 3 0,om 4 0,oo 5 (Ln 4) [4],omk 6 0,oo 7 (Ln 6) [6],oo 8 (.slcL 2 (.t 3) none (some (.t 5)) (some (.t 7))) [3,5,7],omk 2 8]
def r56:RC:=(So JT (So JS .ret))
def F56:FnC:=⟨r56,9,[.tmp 2],[0],[]⟩
def JR:List RI:=[oo 6 (Mc 0) [6],oo 7 (Mb false) [7]]
def JQ:List RI:=[om 12 0,oo 13 (Ln 12) [12],oo 14 (Bc .neq 13 17) [13],omk 15 14,.grp 15 false [(xi 16 15 false (Mv 0)),(xi 17 15 false (.iaddrL 1 (.t 16) (ci 0))),(xi 18 15 false (Ld 17)),(xi 19 15 false (.toInt .i64 (.t 18))),(xi 20 15 false (Ca 86 [.t 19])),(xi 21 15 false (.un .not (.t 20)))] [16,17,18,19,20],oo 22 (Pt 15 21) [15,21]]
def ri:List RI:=[on 6 (Mc 0),on 7 (Mb false)]
def JP:List RI:=[om 23 0,oo 24 (.iaddrL 1 (.t 23) (ci 0)) [23],oo 25 (Ld 24) [24],oo 26 (.toInt .i64 (.t 25)) [25],omk 8 26]
def JO:List RI:=[om 27 2,oo 28 (Ln 27) [27],om 29 8,oo 30 (.bin .mul (ci 16) (.t 29)) [29],oo 31 (.bin .add (ci 561) (.t 30)) [30],oo 32 (Bb .neq 28 31) [28,31],omk 33 32,.grp 33 false [(xi 34 33 false (Mv 2)),(xi 35 33 false (.iaddrL 1 (.t 34) (ci 0))),(xi 36 33 false (Ld 35)),(xi 37 33 false (.toInt .i64 (.t 36))),(xi 38 33 false (Mv 8)),(xi 39 33 false (.toInt .u64 (.t 38))),(xi 40 33 false (.bin .shl (ci 1) (.t 39))),(xi 41 33 false (Bb .geq 37 40))] [8,34,35,36,37,38,39,40],oo 42 (Pt 33 41) [33,41]]
def JN:List RI:=[om 43 2,oo 44 (.iaddrL 1 (.t 43) (ci 0)) [43],oo 45 (Ld 44) [44],oo 46 (.toInt .i64 (.t 45)) [45],omk 6 46]
def JM:List RI:=[om 48 6,omk 49 1,om 50 2,oo 51 (.slcL 1 (.t 50) (some (ci 1)) (some (ci 561)) (some (ci 561))) [50],oo 52 (Ca 94 [.t 48,.t 49,.t 51]) [48,49,51],omk 47 52,on 53 (.ext (.t 47) 0),oo 54 (.ext (.t 47) 1) [47],omk 9 53,omk 7 54]
def JL:List RI:=[omk 55 7,oo 56 (.un .not (.t 55)) [55]]
def A2:List RI:=[on 10 (.mov (.c (.lst 1 [] .clip)))]
def A1:List RI:=[omk 57 2,oo 58 (.slcL 1 (.t 57) (some (ci 561)) none none) [57],omk 11 58]
def AZ:List RI:=[om 59 11,oo 60 (Ln 59) [59],oo 61 (Bc .gtr 60 0) [60]]
def AY:List RI:=[omk 64 10,om 65 11,oo 66 (.slcL 1 (.t 65) none (some (ci 16)) (some (ci 16))) [65],oo 67 (.lit 1 [.t 66]) [66],oo 68 (.app [.byt [] .clip] 24 (.t 64) (.t 67)) [64,67],omk 10 68]
def AX:List RI:=[omk 62 11,oo 63 (.slcL 1 (.t 62) (some (ci 16)) none none) [62],omk 11 63]
def ta:RC:=(.post (Sq (So AZ (Kc 61 (Kk [61] .skip) (Kk [11,61] (.exit 0)))) (Sq (Bk 1 (.ops AY)) (.ops AX))) [.tok 10 110])
def sx:RC:=ta
def AW:List FI:=[Fm 0 69 9,Fm 1 70 6,Fm 2 71 10,Fm 5 74 0,Fs 6 75 (.slcL 1 (.t 74) (some (ci 1)) none none),Fs 7 76 (.b2s (.t 75)),Fz 3 72 (Ca 95 [.t 69,.t 70,.t 71]),Fs 4 73 (.b2s (.t 72)),Fs 8 77 (Bb .neq 73 76)]
def AV:List RI:=[omk 78 6,omk 6 78,on 7 (Mb true)]
def r58:RC:=(So JR (Sq (So JQ (Kc 22 (Kk [0,1,2,22] (So ri .ret)) (Kk [22] .skip))) (So JP (Sq (So JO (Kc 42 (Kk [0,1,2,42] (So ri .ret)) (Kk [42] .skip))) (So JN (So JM (Sq (So JL (Kc 56 (Kk [0,2,6,9,56] (So ri .ret)) (Kk [56] .skip))) (So A2 (Sq (So A1 (Bk 0 (.pre [.tok 10 110] (.loop sx)))) (Sq (Sq (.flt [0,0,0,7,15,0,32,96,255] [] AW [0,9,10,69,70,71,72,73,74,75,76]) (Kc 77 (Kk [6,77] (So ri .ret)) (Kk [77] .skip))) (So AV .ret)))))))))))
def F58:FnC:=⟨r58,79,[.tmp 6,.tmp 7],[],[]⟩
def JK:List RI:=[on 2 (.new (.rc Zq0)),oo 3 (Mc 0) [3]]
def JJ:List RI:=[omk 10 0,oo 11 (Ca 41 [.t 10]) [10],omk 4 11]
def JI:List RI:=[on 5 (.new (.rc Zq0))]
def JH:List RI:=[om 12 4,oo 13 (Ca 42 [.t 12,ci 1]) [12],oo 14 (Bc .neq 13 21) [13]]
def JG:List RI:=[on 15 (.build Zq0 []),Sr 7 2 15 [15],on 3 (Mc 30)]
def JF:List RI:=[om 16 4,oo 17 (Ca 99 [.t 16,ci 12]) [16],oo 18 (.b2s (.t 17)) [17],on 19 (Fa 0 5),Sr 1 19 18 [18,19]]
def JE:List RI:=[om 20 4,oo 21 (Ca 42 [.t 20,ci 4]) [20],on 22 (Fa 1 5),Sr 1 22 21 [21,22]]
def JD:List RI:=[om 23 4,oo 24 (Ca 42 [.t 23,ci 4]) [23],on 25 (Fa 2 5),Sr 1 25 24 [24,25]]
def JC:List RI:=[om 26 4,oo 27 (Ca 42 [.t 26,ci 6]) [26],on 28 (Fa 3 5),Sr 1 28 27 [27,28]]
def JB:List RI:=[om 29 4,oo 30 (Ca 42 [.t 29,ci 6]) [29],on 31 (Fa 4 5),Sr 1 31 30 [30,31]]
def AU:List RI:=[om 32 4,oo 33 (Ca 42 [.t 32,ci 1]) [32],omk 6 33]
def AT:List RI:=[om 34 6,oo 35 (Bc .gtr 34 0) [34],omk 36 35,.grp 36 true [(xi 37 36 true (Mv 4)),(xi 38 36 true (Ca 100 [.t 37])),(xi 39 36 true (Bc .eql 38 0))] [37,38],oo 40 (Pf 36 39) [36,39]]
def AS:List RI:=[on 7 (.new (.rc [.int .i64 0,.str [],.int .i64 0,.byt [] .clip]))]
def AR:List RI:=[om 43 4,oo 44 (Ca 42 [.t 43,ci 1]) [43],on 45 (Fa 0 7),Sr 1 45 44 [44,45]]
def AQ:List RI:=[om 46 4,oo 47 (Ca 99 [.t 46,ci 12]) [46],oo 48 (.b2s (.t 47)) [47],on 49 (Fa 1 7),Sr 1 49 48 [48,49]]
def AP:List RI:=[om 50 4,oo 51 (Ca 42 [.t 50,ci 4]) [50],on 52 (Fa 2 7),Sr 1 52 51 [51,52]]
def AO:List RI:=[om 53 4,oo 54 (Ca 43 [.t 53,ci 32]) [53],on 55 (Fa 3 7),Sr 1 55 54 [54,55]]
def AN:List RI:=[on 56 (Fa 5 5),oo 57 (Ld 56) [56],oo 58 (Lt 4 7) [7],oo 59 (.lit 4 [.t 58]) [58],oo 60 (.app [.int .i64 0,.str [],.int .i64 0,.byt [] .clip] 56 (.t 57) (.t 59)) [57,59],on 61 (Fa 5 5),Sr 1 61 60 [60,61]]
def AM:List RI:=[omk 41 6,oo 42 (Bc .sub 41 1) [41],omk 6 42]
def s9:RC:=(.post (Sq (So AT (Kc 40 (Kk [40] .skip) (Kk [6,40] (.exit 0)))) (Sq (Bk 1 (So AS (So AR (So AQ (So AP (So AO (.ops AN))))))) (.ops AM))) [.gc [107]])
def AL:RC:=s9
def AK:List RI:=[om 62 4,oo 63 (Ca 42 [.t 62,ci 1]) [62],omk 8 63]
def AJ:List RI:=[om 64 8,oo 65 (Bc .gtr 64 0) [64],omk 66 65,.grp 66 true [(xi 67 66 true (Mv 4)),(xi 68 66 true (Ca 100 [.t 67])),(xi 69 66 true (Bc .eql 68 0))] [67,68],oo 70 (Pf 66 69) [66,69]]
def AI:List RI:=[on 9 (.new (.rc [.int .i64 0,.str [],.int .i64 0,.int .i64 0]))]
def AH:List RI:=[om 73 4,oo 74 (Ca 42 [.t 73,ci 1]) [73],on 75 (Fa 0 9),Sr 1 75 74 [74,75]]
def AG:List RI:=[om 76 4,oo 77 (Ca 99 [.t 76,ci 32]) [76],oo 78 (.b2s (.t 77)) [77],on 79 (Fa 1 9),Sr 1 79 78 [78,79]]
def AF:List RI:=[om 80 4,oo 81 (Ca 42 [.t 80,ci 4]) [80],on 82 (Fa 2 9),Sr 1 82 81 [81,82]]
def AE:List RI:=[om 83 4,oo 84 (Ca 42 [.t 83,ci 4]) [83],on 85 (Fa 3 9),Sr 1 85 84 [84,85]]
def AD:List RI:=[on 86 (Fa 6 5),oo 87 (Ld 86) [86],oo 88 (Lt 4 9) [9],oo 89 (.lit 4 [.t 88]) [88],oo 90 (.app [.int .i64 0,.str [],.int .i64 0,.int .i64 0] 40 (.t 87) (.t 89)) [87,89],on 91 (Fa 6 5),Sr 1 91 90 [90,91]]
def AC:List RI:=[omk 71 8,oo 72 (Bc .sub 71 1) [71],omk 8 72]
def s8:RC:=(.post (Sq (So AJ (Kc 70 (Kk [70] .skip) (Kk [8,70] (.exit 2)))) (Sq (Bk 3 (So AI (So AH (So AG (So AF (So AE (.ops AD))))))) (.ops AC))) [.gc [109]])
def AB:RC:=s8
def AA:List RI:=[omk 92 4,oo 93 (Ca 44 [.t 92]) [92],oo 94 (Bc .neq 93 0) [93],omk 95 94,.grp 95 false [(xi 96 95 false (Lt 7 5)),(xi 97 95 false (Ca 71 [.t 96])),(xi 98 95 false (Bc .neq 97 0))] [96,97],oo 99 (Pt 95 98) [95,98]]
def Az:List RI:=[on 100 (.build Zq0 []),Sr 7 2 100 [100],on 3 (Mc 30)]
def Ay:List RI:=[oo 101 (Lt 7 5) [5],Sr 7 2 101 [101],on 3 (Mc 0)]
def r61:RC:=(So JK (So JJ (So JI (Sq (So JH (Kc 14 (Kk [4,5,14] (So JG .ret)) (Kk [14] .skip))) (So JF (So JE (So JD (So JC (So JB (Sq (So AU (Bk 0 (.loop AL))) (Sq (So AK (Bk 2 (.loop AB))) (Sq (So AA (Kc 99 (Kk [5,99] (So Az .ret)) (Kk [99] .skip))) (So Ay .ret)))))))))))))
def F61:FnC:=⟨r61,102,[.cell 2 7 true,.tmp 3],[],[]⟩
def JA:List RI:=[omk 9 0]
def Jz:List RI:=[on 11 (Bc .eql 9 0),omk 10 11]
def Jy:List RI:=[on 12 (.build [.int .u32 0,.int .u32 0,.int .u32 0,.int .u32 0,.int .u32 0] [(0,1,(.c (.int .u32 1732584193))),(1,1,(.c (.int .u32 4023233417))),(2,1,(.c (.int .u32 2562383102))),(3,1,(.c (.int .u32 271733878))),(4,1,(.c (.int .u32 3285377520)))]),on 5 (.new (.arr 1 (az 5 [.int .u32 0]))),Sr 5 5 12 [12]]
def Jx:List RI:=[omk 13 1,oo 14 (Ca 104 [.t 13]) [13],omk 6 14]
def Jw:List RI:=[om 15 6,oo 16 (Ln 15) [15],oo 17 (Bc .gtr 16 0) [16]]
def Jv:List RI:=[om 20 6,oo 21 (.slcL 1 (.t 20) none (some (ci 64)) none) [20],oo 22 (Ca 105 [.t 5,.t 21]) [21,22]]
def Ju:List RI:=[omk 18 6,oo 19 (.slcL 1 (.t 18) (some (ci 64)) none none) [18],omk 6 19]
def E3:RC:=(Sq (So Jw (Kc 17 (Kk [17] .skip) (Kk [6,17] (.exit 1)))) (Sq (Bk 2 (.ops Jv)) (.ops Ju)))
def Jt:RC:=E3
def Js:List RI:=[oo 23 (.slcA 5 1 (.t 5) none none none) [5],oo 24 (Ca 106 [.t 23]) [23],omk 4 24]
def Ax:List RI:=[oo 26 (Bc .eql 9 1) [9],omk 25 26]
def Aw:List RI:=[on 27 (.build [.int .u32 0,.int .u32 0,.int .u32 0,.int .u32 0,.int .u32 0,.int .u32 0,.int .u32 0,.int .u32 0] [(0,1,(.c (.int .u32 1779033703))),(1,1,(.c (.int .u32 3144134277))),(2,1,(.c (.int .u32 1013904242))),(3,1,(.c (.int .u32 2773480762))),(4,1,(.c (.int .u32 1359893119))),(5,1,(.c (.int .u32 2600822924))),(6,1,(.c (.int .u32 528734635))),(7,1,(.c (.int .u32 1541459225)))]),on 7 (.new (.arr 1 (az 8 [.int .u32 0]))),Sr 8 7 27 [27]]
def Av:List RI:=[omk 28 1,oo 29 (Ca 104 [.t 28]) [28],omk 8 29]
def At:List RI:=[om 30 8,oo 31 (Ln 30) [30],oo 32 (Bc .gtr 31 0) [31]]
def As:List RI:=[om 35 8,oo 36 (.slcL 1 (.t 35) none (some (ci 64)) none) [35],oo 37 (Ca 107 [.t 7,.t 36]) [36,37]]
def Ar:List RI:=[omk 33 8,oo 34 (.slcL 1 (.t 33) (some (ci 64)) none none) [33],omk 8 34]
def s7:RC:=(Sq (So At (Kc 32 (Kk [32] .skip) (Kk [8,32] (.exit 3)))) (Sq (Bk 4 (.ops As)) (.ops Ar)))
def sw:RC:=s7
def Aq:List RI:=[oo 38 (.slcA 8 1 (.t 7) none none none) [7],oo 39 (Ca 106 [.t 38]) [38],omk 4 39]
def r64:RC:=(So fF (Sq (So JA (Bk 0 (So Jz (Kc 10 (Kk [9,10] (So Jy (Sq (So Jx (Bk 1 (.loop Jt))) (So Js .ret)))) (Kk [10] (So Ax (Kc 25 (Kk [25] (So Aw (Sq (So Av (Bk 3 (.loop sw))) (So Aq .ret)))) (Kk [1,25] .skip)))))))) (So kX .ret)))
def F64:FnC:=⟨r64,40,[.tmp 4],[],[]⟩
def Jr:List RI:=[on 18 (Ca 117 []),on 3 (.new (.arr 1 (az 64 [.int .u32 0]))),Sr 64 3 18 [18]]
def Jq:List RI:=[.own (xs 19 (.lit 1 [(.c (.int .u32 1779033703)),(.c (.int .u32 3144134277)),(.c (.int .u32 1013904242)),(.c (.int .u32 2773480762)),(.c (.int .u32 1359893119)),(.c (.int .u32 2600822924)),(.c (.int .u32 528734635)),(.c (.int .u32 1541459225))])) [],omk 4 19]
def Jp:List RI:=[omk 20 0,oo 21 (Ca 118 [.t 20]) [20],omk 5 21]
def Jo:List RI:=[om 22 6,om 23 5,oo 24 (Ln 23) [23],oo 25 (Bb .lss 22 24) [22,24]]
def Jn:List RI:=[on 7 (.new (.arr 1 (az 64 [.int .u32 0])))]
def Jm:List RI:=[on 8 (Mc 0)]
def Jl:List RI:=[om 28 8,oo 29 (Bc .lss 28 64) [28]]
def Jk:List RI:=[om 32 8,oo 33 (Bc .lss 32 16) [32]]
def Ap:List RI:=[om 34 8,om 35 5,om 36 6,om 37 6,oo 38 (Bc .add 37 64) [37],oo 39 (.slcL 1 (.t 35) (some (.t 36)) (some (.t 38)) none) [35,36,38],om 40 8,oo 41 (Ca 119 [.t 39,.t 40]) [39,40],oo 42 (.iaddrA 64 1 (.t 7) (.t 34)) [34],Sr 1 42 41 [41,42]]
def Ao:List FI:=[Fm 0 43 8,Fs 1 44 (Bc .sub 43 15),Fs 2 45 (.iaddrA 64 1 (.t 7) (.t 44)),Fs 3 46 (Ld 45),Fm 5 48 8,Fs 6 49 (Bc .sub 48 15),Fs 7 50 (.iaddrA 64 1 (.t 7) (.t 49)),Fs 8 51 (Ld 50),Fm 11 54 8,Fs 12 55 (Bc .sub 54 15),Fs 13 56 (.iaddrA 64 1 (.t 7) (.t 55)),Fs 14 57 (Ld 56),Fs 15 58 (.bin .shr (.t 57) (.c (.int .u64 3))),Fz 4 47 (Ca 120 [.t 46,(.c (.int .u64 7))]),Fz 9 52 (Ca 120 [.t 51,(.c (.int .u64 18))]),Fs 10 53 (Bb .xor 47 52),Fs 16 59 (Bb .xor 53 58),Fm 17 9 59]
def An:List FI:=[Fm 0 60 8,Fs 1 61 (Bc .sub 60 2),Fs 2 62 (.iaddrA 64 1 (.t 7) (.t 61)),Fs 3 63 (Ld 62),Fm 5 65 8,Fs 6 66 (Bc .sub 65 2),Fs 7 67 (.iaddrA 64 1 (.t 7) (.t 66)),Fs 8 68 (Ld 67),Fm 11 71 8,Fs 12 72 (Bc .sub 71 2),Fs 13 73 (.iaddrA 64 1 (.t 7) (.t 72)),Fs 14 74 (Ld 73),Fs 15 75 (.bin .shr (.t 74) (.c (.int .u64 10))),Fz 4 64 (Ca 120 [.t 63,(.c (.int .u64 17))]),Fz 9 69 (Ca 120 [.t 68,(.c (.int .u64 19))]),Fs 10 70 (Bb .xor 64 69),Fs 16 76 (Bb .xor 70 75),Fm 17 10 76]
def Am:List FI:=[Fm 0 77 8,Fm 1 78 10,Fm 2 79 8,Fs 3 80 (Bc .sub 79 7),Fs 4 81 (.iaddrA 64 1 (.t 7) (.t 80)),Fs 5 82 (Ld 81),Fs 6 83 (Bb .add 78 82),Fm 7 84 9,Fs 8 85 (Bb .add 83 84),Fm 9 86 8,Fs 10 87 (Bc .sub 86 16),Fs 11 88 (.iaddrA 64 1 (.t 7) (.t 87)),Fs 12 89 (Ld 88),Fs 13 90 (Bb .add 85 89),Fs 14 91 (.iaddrA 64 1 (.t 7) (.t 77)),Fr 15 1 91 90]
def Al:List RI:=[omk 30 8,oo 31 (Bc .add 30 1) [30],omk 8 31]
def s6:RC:=(Sq (So Jl (Kc 29 (Kk [29] .skip) (Kk [8,29] (.exit 2)))) (Sq (Bk 3 (Sq (So Jk (Kc 33 (Kk [33] (So Ap (.exit 3))) (Kk [33] .skip))) (Sq (.flt [0,1,3,7,15,0,32,96,224,511,1023,0,2048,6144,14336,30720,65535,131071] [] Ao [43,44,45,46,47,48,49,50,51,52,53,54,55,56,57,58,59]) (Sq (.flt [0,1,3,7,15,0,32,96,224,511,1023,0,2048,6144,14336,30720,65535,131071] [] An [60,61,62,63,64,65,66,67,68,69,70,71,72,73,74,75,76]) (.flt [0,0,0,4,12,28,62,0,254,0,512,1536,3584,8190,16383,32767] [] Am [9,10,77,78,79,80,81,82,83,84,85,86,87,88,89,90,91]))))) (.ops Al)))
def sr:RC:=s6
def Ak:List RI:=[on 92 (.lit 1 []),om 93 4,oo 94 (.app [.int .u32 0] 4 (.t 92) (.t 93)) [92,93],omk 11 94]
def Aj:List RI:=[on 12 (Mc 0)]
def Ai:List RI:=[om 95 12,oo 96 (Bc .lss 95 64) [95]]
def Ah:List FI:=[Fm 0 99 11,Fs 1 100 (.iaddrL 1 (.t 99) (ci 0)),Fs 2 101 (Ld 100),Fm 3 102 11,Fs 4 103 (.iaddrL 1 (.t 102) (ci 4)),Fs 5 104 (Ld 103),Fm 6 13 101,Fm 7 14 104]
def Ag:List FI:=[Fm 0 105 11,Fs 1 106 (.iaddrL 1 (.t 105) (ci 7)),Fs 2 107 (Ld 106),Fm 3 108 14,Fm 5 110 14,Fm 8 113 14,Fm 12 117 14,Fm 13 118 11,Fs 14 119 (.iaddrL 1 (.t 118) (ci 5)),Fs 15 120 (Ld 119),Fs 16 121 (Bb .and 117 120),Fm 17 122 14,Fs 18 123 (.un .xor (.t 122)),Fm 19 124 11,Fs 20 125 (.iaddrL 1 (.t 124) (ci 6)),Fs 21 126 (Ld 125),Fs 22 127 (Bb .and 123 126),Fs 23 128 (Bb .xor 121 127),Fm 25 130 12,Fs 26 131 (.iaddrA 64 1 (.t 3) (.t 130)),Fs 27 132 (Ld 131),Fm 29 134 12,Fs 30 135 (.iaddrA 64 1 (.t 7) (.t 134)),Fs 31 136 (Ld 135),Fz 4 109 (Ca 120 [.t 108,(.c (.int .u64 6))]),Fz 6 111 (Ca 120 [.t 110,(.c (.int .u64 11))]),Fs 7 112 (Bb .xor 109 111),Fz 9 114 (Ca 120 [.t 113,(.c (.int .u64 25))]),Fs 10 115 (Bb .xor 112 114),Fs 11 116 (Bb .add 107 115),Fs 24 129 (Bb .add 116 128),Fs 28 133 (Bb .add 129 132),Fs 32 137 (Bb .add 133 136),Fm 33 15 137]
def Af:List FI:=[Fm 0 138 13,Fm 2 140 13,Fm 5 143 13,Fm 8 146 13,Fm 9 147 11,Fs 10 148 (.iaddrL 1 (.t 147) (ci 1)),Fs 11 149 (Ld 148),Fs 12 150 (Bb .and 146 149),Fm 13 151 13,Fm 14 152 11,Fs 15 153 (.iaddrL 1 (.t 152) (ci 2)),Fs 16 154 (Ld 153),Fs 17 155 (Bb .and 151 154),Fs 18 156 (Bb .xor 150 155),Fm 19 157 11,Fs 20 158 (.iaddrL 1 (.t 157) (ci 1)),Fs 21 159 (Ld 158),Fm 22 160 11,Fs 23 161 (.iaddrL 1 (.t 160) (ci 2)),Fs 24 162 (Ld 161),Fs 25 163 (Bb .and 159 162),Fs 26 164 (Bb .xor 156 163),Fz 1 139 (Ca 120 [.t 138,(.c (.int .u64 2))]),Fz 3 141 (Ca 120 [.t 140,(.c (.int .u64 13))]),Fs 4 142 (Bb .xor 139 141),Fz 6 144 (Ca 120 [.t 143,(.c (.int .u64 22))]),Fs 7 145 (Bb .xor 142 144),Fs 27 165 (Bb .add 145 164),Fm 28 16 165]
def Ae:List FI:=[Fm 0 166 15,Fm 1 167 16,Fs 2 168 (Bb .add 166 167),Fm 3 169 13,Fm 4 170 11,Fs 5 171 (.iaddrL 1 (.t 170) (ci 1)),Fs 6 172 (Ld 171),Fm 7 173 11,Fs 8 174 (.iaddrL 1 (.t 173) (ci 2)),Fs 9 175 (Ld 174),Fm 10 176 11,Fs 11 177 (.iaddrL 1 (.t 176) (ci 3)),Fs 12 178 (Ld 177),Fm 13 179 15,Fs 14 180 (Bb .add 178 179),Fm 15 181 14,Fm 16 182 11,Fs 17 183 (.iaddrL 1 (.t 182) (ci 5)),Fs 18 184 (Ld 183),Fm 19 185 11,Fs 20 186 (.iaddrL 1 (.t 185) (ci 6)),Fs 21 187 (Ld 186),Fs 22 188 (.lit 1 [.t 168,.t 169,.t 172,.t 175,.t 180,.t 181,.t 184,.t 187]),⟨23,false,(xm 11 188)⟩]
def Ad:List RI:=[omk 97 12,oo 98 (Bc .add 97 1) [97],omk 12 98]
def s5:RC:=(Sq (So Ai (Kc 96 (Kk [96] .skip) (Kk [7,12,96] (.exit 4)))) (Sq (Bk 5 (Sq (.flt [0,1,3,0,8,24,7,127] [] Ah [99,100,101,102,103,104]) (Sq (.flt [0,1,3,0,8,0,56,120,0,376,1016,2047,0,0,8192,24576,61440,0,131072,0,524288,1572864,4063232,8384512,16777215,0,33554432,100663296,268435455,0,536870912,1610612736,4294967295,8589934591] [] Ag [105,106,107,108,109,110,111,112,113,114,115,116,117,118,119,120,121,122,123,124,125,126,127,128,129,130,131,132,133,134,135,136,137]) (Sq (.flt [0,1,0,7,15,0,47,127,0,0,512,1536,3840,0,0,16384,49152,122880,261888,0,524288,1572864,0,4194304,12582912,33030144,67108608,134217727,268435455] [] Af [138,139,140,141,142,143,144,145,146,147,148,149,150,151,152,153,154,155,156,157,158,159,160,161,162,163,164,165]) (.flt [0,0,3,0,0,16,48,0,128,384,0,1024,3072,0,15360,0,0,65536,196608,0,524288,1572864,4194303,8388607] [] Ae [13,14,15,16,166,167,168,169,170,171,172,173,174,175,176,177,178,179,180,181,182,183,184,185,186,187,188]))))) (.ops Ad)))
def sn:RC:=s5
def sk:List RI:=[on 17 (Mc 0)]
def Ac:List RI:=[om 189 17,oo 190 (Bc .lss 189 8) [189]]
def Ab:List FI:=[Fm 0 193 4,Fm 1 194 17,Fs 2 195 (Ia 1 193 194),Fs 3 196 (Ld 195),Fm 4 197 11,Fm 5 198 17,Fs 6 199 (Ia 1 197 198),Fs 7 200 (Ld 199),Fs 8 201 (Bb .add 196 200),Fs 9 202 (Ia 1 193 194),Fr 10 1 202 201]
def Aa:List RI:=[omk 191 17,oo 192 (Bc .add 191 1) [191],omk 17 192]
def sZ:RC:=(Sq (So Ac (Kc 190 (Kk [190] .skip) (Kk [11,17,190] (.exit 6)))) (Sq (Bk 7 (.flt [0,0,3,7,0,0,48,112,255,511,1023] [] Ab [193,194,195,196,197,198,199,200,201,202])) (.ops Aa)))
def sj:RC:=sZ
def z8:List RI:=[omk 26 6,oo 27 (Bc .add 26 64) [26],omk 6 27]
def sY:RC:=(.post (Sq (So Jo (Kc 25 (Kk [25] .skip) (Kk [3,5,6,25] (.exit 0)))) (Sq (Bk 1 (So Jn (Sq (So Jm (Bk 2 (.loop sr))) (So Ak (Sq (So Aj (Bk 4 (.loop sn))) (So sk (Bk 6 (.loop sj)))))))) (.ops z8))) [.gc [107,194]])
def si:RC:=sY
def z7:List RI:=[omk 203 4,oo 204 (Ca 121 [.t 203]) [203],omk 2 204]
def r73:RC:=(So i6 (So Jr (So Jq (So Jp (Sq (So lF (Bk 0 (.loop si))) (So z7 .ret))))))
def F73:FnC:=⟨r73,205,[.tmp 2],[],[]⟩
def Jj:List RI:=[omk 4 0,omk 5 1,oo 6 (.nchk (.t 4)) [4],oo 7 (Fa 2 6) [6],Sr 1 7 5 [5,7]]
def r74:RC:=(.ops Jj)
def F74:FnC:=⟨r74,8,[],[],[]⟩
def Ji:List RI:=[oo 6 (.mov (.c (.byt [] .clip))) [6],oo 7 (Mc 0) [7]]
def Jh:List RI:=[om 8 2,om 9 0,oo 10 (.nchk (.t 9)) [9],oo 11 (Fa 0 10) [10],oo 12 (Ld 11) [11],oo 13 (Ln 12) [12],om 14 1,oo 15 (Bb .sub 13 14) [13,14],oo 16 (Bb .gtr 8 15) [8,15]]
def Jg:List RI:=[on 6 (.mov (.c (.byt [] .clip))),on 7 (Mc 2)]
def Jf:List RI:=[omk 17 0,oo 18 (.nchk (.t 17)) [17],oo 19 (Fa 0 18) [18],oo 20 (Ld 19) [19],om 21 1,omk 22 1,omk 23 2,oo 24 (Bb .add 22 23) [22,23],oo 25 (.slcL 1 (.t 20) (some (.t 21)) (some (.t 24)) none) [20,21,24],omk 6 25,on 7 (Mc 0)]
def r75:RC:=(So Ji (Sq (So Jh (Kc 16 (Kk [0,1,2,16] (So Jg .ret)) (Kk [16] .skip))) (So Jf .ret)))
def F75:FnC:=⟨r75,26,[.tmp 6,.tmp 7],[],[]⟩
def EB:List FI:=[Fm 0 3 0,Fs 1 4 (.nchk (.t 3)),Fs 2 5 (Fa 0 4),Fs 3 6 (Ld 5),Fs 4 7 (Ln 6),Fm 5 8 0,Fs 6 9 (.nchk (.t 8)),Fs 7 10 (Fa 1 9),Fs 8 11 (Ld 10),Fs 9 12 (Bb .sub 7 11),Fm 10 2 12]
def r76:RC:=(So jU (Sq (.flt [0,1,3,7,15,0,32,96,224,511,1023] [] EB [0,3,4,5,6,7,8,9,10,11,12]) .ret))
def F76:FnC:=⟨r76,13,[.tmp 2],[],[]⟩
def Je:List FI:=[Fm 0 5 0,Fs 1 6 (.nchk (.t 5)),Fs 2 7 (Fa 2 6),Fs 3 8 (Ld 7),Fs 4 9 (Bc .eql 8 0),Fm 5 10 9,Fi 6 11 10 true (Mv 0),Fi 7 12 10 true (.nchk (.t 11)),Fi 8 13 10 true (Fa 0 12),Fi 9 14 10 true (Ld 13),Fi 10 15 10 true (Ln 14),Fi 11 16 10 true (Mv 0),Fi 12 17 10 true (.nchk (.t 16)),Fi 13 18 10 true (Fa 1 17),Fi 14 19 10 true (Ld 18),Fi 15 20 10 true (Bb .sub 15 19),Fi 16 21 10 true (Mv 1),Fi 17 22 10 true (Bb .lss 20 21),Fs 18 23 (Pf 10 22)]
def Jd:List RI:=[om 24 0,oo 25 (.nchk (.t 24)) [24],oo 26 (Fa 2 25) [25],.op ⟨none,none,.store 1 (.t 26) (ci 2)⟩ [26]]
def Jc:List RI:=[omk 27 0,oo 28 (.nchk (.t 27)) [27],oo 29 (Fa 2 28) [28],oo 30 (Ld 29) [29],oo 31 (Bc .eql 30 0) [30],omk 4 31]
def r77:RC:=(So ER (Sq (Sq (.flt [0,1,3,7,15,31,63,127,255,511,1023,63,2111,6207,14399,32767,63,131071,262143] [] Je [1,5,6,7,8,9,10,11,12,13,14,15,16,17,18,19,20,21,22]) (Kc 23 (Kk [23] (.ops Jd)) (Kk [23] .skip))) (So Jc .ret)))
def F77:FnC:=⟨r77,32,[.tmp 4],[],[]⟩
def r78:RC:=(So jU (Sq (.flt [0,1,3,7,15,0,32,96,224,511,1023] [] EB [0,3,4,5,6,7,8,9,10,11,12]) .ret))
def F78:FnC:=⟨r78,13,[.tmp 2],[],[]⟩
def Jb:List RI:=[om 5 0,oo 6 (Ln 5) [5],oo 7 (Ca 122 [.t 6]) [6],oo 8 (.un .not (.t 7)) [7]]
def Ja:List RI:=[omk 9 0,omk 3 9]
def I9:List RI:=[om 10 3,oo 11 (Ln 10) [10],oo 12 (Bc .gtr 11 1) [11]]
def I8:List RI:=[om 15 4,omk 16 3,oo 17 (Ca 123 [.t 15,.t 16]) [15,16],omk 3 17]
def I7:List RI:=[omk 13 4,oo 14 (Bc .add 13 1) [13],omk 4 14]
def E2:RC:=(Sq (So I9 (Kc 12 (Kk [12] .skip) (Kk [4,12] (.exit 0)))) (Sq (Bk 1 (.ops I8)) (.ops I7)))
def I6:RC:=E2
def I5:List RI:=[omk 18 3,oo 19 (.iaddrL 1 (.t 18) (ci 0)) [18],oo 20 (Ld 19) [19],oo 21 (Ca 124 [.t 20]) [20],omk 2 21]
def r79:RC:=(So i6 (Sq (So Jb (Kc 8 (Kk [0,8] (So xu .ret)) (Kk [8] .skip))) (So Ja (Sq (So g9 (Bk 0 (.loop I6))) (So I5 .ret)))))
def F79:FnC:=⟨r79,22,[.tmp 2],[],[]⟩
def rh:List RI:=[oo 4 (.mov (.c (.lst 1 [] .clip))) [4]]
def xp:List RI:=[on 5 (.mov (.c (.lst 1 [] .clip)))]
def I4:List RI:=[omk 8 0,om 9 1,oo 10 (Ca 92 [.t 8,.t 9]) [8,9],omk 6 10]
def EA:List RI:=[on 7 (Mc 0)]
def I3:List RI:=[om 11 7,om 12 1,oo 13 (.toInt .u64 (.t 12)) [12],oo 14 (.bin .shl (ci 1) (.t 13)) [13],oo 15 (Bb .lss 11 14) [11,14]]
def I2:List RI:=[omk 18 5,om 19 6,om 20 7,oo 21 (Ca 125 [.t 19,.t 20]) [19,20],oo 22 (.lit 1 [.t 21]) [21],oo 23 (.app [.byt [] .clip] 24 (.t 18) (.t 22)) [18,22],omk 5 23]
def I1:List RI:=[omk 16 7,oo 17 (Bc .add 16 1) [16],omk 7 17]
def E1:RC:=(.post (Sq (So I3 (Kc 15 (Kk [15] .skip) (Kk [1,6,7,15] (.exit 0)))) (Sq (Bk 1 (.ops I2)) (.ops I1))) [.tok 5 105])
def I0:RC:=E1
def IZ:List RI:=[omk 24 5,omk 4 24]
def r80:RC:=(So rh (So xp (So I4 (Sq (So EA (Bk 0 (.pre [.tok 5 105] (.loop I0)))) (So IZ .ret)))))
def F80:FnC:=⟨r80,25,[.tmp 4],[],[]⟩
def xo:List RI:=[oo 2 (Mb false) [2]]
def IY:List RI:=[om 3 0,oo 4 (Bc .geq 3 0) [3],omk 5 4,.grp 5 true [(xi 6 5 true (Mv 0)),(xi 7 5 true (Bc .leq 6 3))] [0,6],oo 8 (Pf 5 7) [5,7],omk 2 8]
def r86:RC:=(So xo (So IY .ret))
def F86:FnC:=⟨r86,9,[.tmp 2],[],[]⟩
def IX:List RI:=[oo 3 (.box (.t 0)) [0],oo 4 (.box (.t 1)) [1],oo 6 (.mov (.c (.byt [] .clip))) [6]]
def IW:List RI:=[on 9 (Ld 4),oo 10 (Ca 131 [.t 9]) [9],oo 11 (.un .not (.t 10)) [10]]
def Ez:List RI:=[on 6 (.mov (.c (.byt [] .clip)))]
def IV:List RI:=[omk 12 2,oo 13 (Ca 132 [.t 12]) [12],on 7 (.new (.rc [.lst 1 [] .clip])),Sr 1 7 13 [13]]
def IU:List RI:=[oo 14 (.mkfn 133 [] [.t 3,.t 4]) [3],omk 8 14]
def IT:List RI:=[oo 15 (Ld 4) [4],omk 16 8,oo 17 (.mkfn 137 [] [.t 7]) [7],oo 18 (Ca 135 [.t 15,.t 16,(.f 136),.t 17]) [15,16,17],omk 6 18]
def r87:RC:=(So IX (Sq (So IW (Kc 11 (Kk [2,3,4,11] (So Ez .ret)) (Kk [11] .skip))) (So IV (So IU (So IT .ret)))))
def F87:FnC:=⟨r87,19,[.tmp 6],[],[]⟩
def IS:List RI:=[omk 5 0,omk 6 1,oo 7 (.toInt .u8 (.t 6)) [6],oo 8 (.litB [.t 7]) [7],oo 9 (Ca 138 [.t 5,(.c (.str [115,105,103,110,101,114])),.t 8,ci 32]) [5,8],omk 4 9]
def r88:RC:=(So fF (So IS .ret))
def F88:FnC:=⟨r88,10,[.tmp 4],[],[]⟩
def IR:List RI:=[om 9 1,oo 10 (Ln 9) [9],oo 11 (Ca 139 [.t 10]) [10],omk 5 11]
def IQ:List RI:=[om 12 5,oo 13 (Bc .lss 12 0) [12],omk 14 13,.grp 14 false [(xi 15 14 false (Mv 0)),(xi 16 14 false (Bc .lss 15 0))] [15],oo 17 (Pt 14 16) [14,16],omk 18 17,.grp 18 false [(xi 19 18 false (Mv 0)),(xi 20 18 false (Mv 1)),(xi 21 18 false (Ln 20)),(xi 22 18 false (Bb .geq 19 21))] [19,20,21],oo 23 (Pt 18 22) [18,22]]
def IP:List RI:=[on 4 (.mov (.c (.lst 1 [] .clip)))]
def Ey:List RI:=[on 6 (.mov (.c (.lst 1 [] .clip)))]
def IN:List RI:=[omk 24 1,oo 25 (Ca 140 [.t 24]) [24],omk 26 5,oo 27 (.slcL 1 (.t 25) none (some (.t 26)) none) [25,26],on 28 (Ln 27),on 29 (Mc 0)]
def IM:List RI:=[on 30 (Bb .lss 29 28)]
def IL:List RI:=[om 31 29,on 32 (Ia 1 27 29),oo 33 (Ld 32) [32],omk 7 31,omk 8 33]
def IK:List RI:=[omk 34 6,omk 35 8,om 36 0,omk 37 7,oo 38 (.toInt .u64 (.t 37)) [37],oo 39 (Bb .shr 36 38) [36,38],oo 40 (Bc .xor 39 1) [39],oo 41 (Ia 1 35 40) [35,40],oo 42 (Ld 41) [41],oo 43 (.app [.u8 0] 1 (.c (.byt [] .clip)) (.t 42)) [42],oo 44 (.lit 1 [.t 43]) [43],oo 45 (.app [.byt [] .clip] 24 (.t 34) (.t 44)) [34,44],omk 6 45]
def IJ:List RI:=[oo 46 (Bc .add 29 1) [29],omk 29 46]
def sX:RC:=(.post (So IM (Sq (Kc 30 (Kk [30] .skip) (Kk [0,27,28,29,30] (.exit 0))) (Sq (Bk 1 (So IL (.ops IK))) (.ops IJ)))) [.gc [143],.tok 6 106])
def z6:RC:=sX
def zZ:List RI:=[omk 47 6,omk 4 47]
def r89:RC:=(So rh (So IR (Sq (So IQ (Kc 23 (Kk [0,1,5,23] (So IP .ret)) (Kk [23] .skip))) (So Ey (Sq (So IN (Bk 0 (.pre [.tok 6 106] (.loop z6)))) (So zZ .ret))))))
def F89:FnC:=⟨r89,48,[.tmp 4],[],[]⟩
def II:List RI:=[omk 8 0,om 9 1,oo 10 (Ca 88 [.t 8,.t 9]) [8,9],omk 5 10]
def IH:List RI:=[omk 11 1,oo 12 (.toInt .u64 (.t 11)) [11],oo 13 (.bin .shl (ci 1) (.t 12)) [12],on 14 (Mc 0)]
def xn:List RI:=[on 15 (Bb .lss 14 13)]
def IG:List RI:=[om 16 14,omk 7 16]
def IF:List RI:=[omk 17 6,om 18 5,omk 19 7,oo 20 (Ca 141 [.t 18,.t 19]) [18,19],oo 21 (.lit 1 [.t 20]) [20],oo 22 (.app [.byt [] .clip] 24 (.t 17) (.t 21)) [17,21],omk 6 22]
def IE:List RI:=[oo 23 (Bc .add 14 1) [14],omk 14 23]
def E0:RC:=(.post (So xn (Sq (Kc 15 (Kk [15] .skip) (Kk [5,13,14,15] (.exit 0))) (Sq (Bk 1 (So IG (.ops IF))) (.ops IE)))) [.tok 6 106])
def ID:RC:=E0
def IC:List RI:=[omk 24 6,omk 4 24]
def r90:RC:=(So rh (So II (So Ey (Sq (So IH (Bk 0 (.pre [.tok 6 106] (.loop ID)))) (So IC .ret)))))
def F90:FnC:=⟨r90,25,[.tmp 4],[],[]⟩
def IB:List RI:=[omk 5 0,omk 6 1,oo 7 (.toInt .u8 (.t 6)) [6],oo 8 (.litB [.t 7]) [7],oo 9 (Ca 145 [.t 5,(.c (.str [115,105,103,110,101,114])),.t 8,ci 32]) [5,8],omk 4 9]
def r92:RC:=(So fF (So IB .ret))
def F92:FnC:=⟨r92,10,[.tmp 4],[],[]⟩
def IA:List RI:=[oo 5 (.box (.t 2)) [2],oo 6 (.mov (.c (.byt [] .clip))) [6],oo 7 (Mb false) [7]]
def Iz:List RI:=[om 10 0,oo 11 (Ca 131 [.t 10]) [10],oo 12 (.un .not (.t 11)) [11],omk 13 12,.grp 13 false [(xi 14 13 false (Ld 5)),(xi 15 13 false (Ln 14)),(xi 16 13 false (Bc .neq 15 560))] [14,15],oo 17 (Pt 13 16) [13,16]]
def Iy:List RI:=[on 6 (.mov (.c (.byt [] .clip))),on 7 (Mb false)]
def Ix:List RI:=[omk 18 1,oo 19 (Ca 132 [.t 18]) [18],on 8 (.new (.rc [.lst 1 [] .clip])),Sr 1 8 19 [19]]
def Iw:List RI:=[oo 20 (.mkfn 146 [] [.t 5]) [5],omk 9 20]
def Iv:List RI:=[om 21 0,omk 22 0,omk 23 9,oo 24 (.mkfn 148 [] [.t 8]) [8],oo 25 (Ca 135 [.t 22,.t 23,.t 24,(.f 149)]) [22,23,24],oo 26 (Ca 147 [.t 21,.t 25]) [21,25],omk 6 26,on 7 (Mb true)]
def r94:RC:=(So IA (Sq (So Iz (Kc 17 (Kk [0,1,5,17] (So Iy .ret)) (Kk [17] .skip))) (So Ix (So Iw (So Iv .ret)))))
def F94:FnC:=⟨r94,27,[.tmp 6,.tmp 7],[],[]⟩
def Iu:List RI:=[om 12 2,oo 13 (Ln 12) [12],oo 14 (Bc .gtr 13 3) [13],omk 15 14,.grp 15 false [(xi 16 15 false (Mv 1)),(xi 17 15 false (Bc .lss 16 0))] [16],oo 18 (Pt 15 17) [15,17],omk 19 18,.grp 19 false [(xi 20 19 false (Mv 1)),(xi 21 19 false (Mv 2)),(xi 22 19 false (Ln 21)),(xi 23 19 false (.toInt .u64 (.t 22))),(xi 24 19 false (.bin .shl (ci 1) (.t 23))),(xi 25 19 false (Bb .geq 20 24))] [20,21,22,23,24],oo 26 (Pt 19 25) [19,25]]
def It:List RI:=[omk 27 0,oo 28 (.app [.u8 0] 1 (.c (.byt [] .clip)) (.t 27)) [27],omk 7 28]
def Is:List RI:=[omk 29 2,on 30 (Ln 29),on 31 (Mc 0)]
def Ir:List RI:=[on 32 (Bb .lss 31 30)]
def Iq:List RI:=[om 33 31,on 34 (Ia 1 29 31),oo 35 (Ld 34) [34],omk 8 33,omk 9 35]
def Ip:List RI:=[om 36 7,om 37 9,omk 10 36,omk 11 37]
def Io:List RI:=[om 38 1,oo 39 (Bc .and 38 1) [38],oo 40 (Bc .eql 39 1) [39]]
def In:List RI:=[omk 41 9,omk 42 7,omk 10 41,omk 11 42]
def zY:List RI:=[omk 43 1,oo 44 (.bin .shr (.t 43) (.c (.int .u64 1))) [43],omk 1 44]
def zX:List RI:=[omk 45 8,om 46 1,omk 47 10,omk 48 11,oo 49 (Ca 150 [.t 45,.t 46,.t 47,.t 48]) [45,46,47,48],omk 7 49]
def zW:List RI:=[oo 50 (Bc .add 31 1) [31],omk 31 50]
def sW:RC:=(So Ir (Sq (Kc 32 (Kk [32] .skip) (Kk [1,29,30,31,32] (.exit 0))) (Sq (Bk 1 (So Iq (So Ip (Sq (So Io (Kc 40 (Kk [10,11,40] (.ops In)) (Kk [7,9,40] .skip))) (So zY (.ops zX)))))) (.ops zW))))
def sh:RC:=sW
def zV:List RI:=[omk 51 7,omk 6 51]
def r95:RC:=(So o5 (Sq (So Iu (Kc 26 (Kk [0,1,2,26] (So Ez .ret)) (Kk [26] .skip))) (So It (Sq (So Is (Bk 0 (.loop sh))) (So zV .ret)))))
def F95:FnC:=⟨r95,52,[.tmp 6],[],[]⟩
def DW:List RI:=[om 6 0,oo 7 (Ln 6) [6],oo 8 (Bc .add 7 72) [7],oo 9 (.mkB (ci 0) (.t 8)) [8],om 10 0,.dir (.tok 9 109),oo 11 (.app [.u8 0] 1 (.t 9) (.t 10)) [9,10],on 12 (.litB [(.c (.u8 128))]),oo 13 (.app [.u8 0] 1 (.t 11) (.t 12)) [11,12],omk 3 13]
def DV:List RI:=[om 14 3,oo 15 (Ln 14) [14],oo 16 (Bc .rem 15 64) [15],oo 17 (Bc .neq 16 56) [16]]
def DU:List RI:=[omk 18 3,on 19 (.litB [(.c (.u8 0))]),oo 20 (.app [.u8 0] 1 (.t 18) (.t 19)) [18,19],omk 3 20]
def tC:RC:=(.post (Sq (So DV (Kc 17 (Kk [17] .skip) (Kk [17] (.exit 0)))) (Bk 1 (.ops DU))) [.tok 3 103])
def sU:RC:=tC
def DT:List RI:=[omk 21 0,oo 22 (Ln 21) [21],oo 23 (.toInt .u64 (.t 22)) [22],oo 24 (.bin .mul (.t 23) (.c (.int .u64 8))) [23],omk 4 24]
def DS:List RI:=[on 5 (Mc 56)]
def DR:List RI:=[om 25 5,oo 26 (Bc .geq 25 0) [25]]
def DQ:List RI:=[omk 29 3,om 30 4,om 31 5,oo 32 (.toInt .u64 (.t 31)) [31],oo 33 (Bb .shr 30 32) [30,32],oo 34 (.toInt .u8 (.t 33)) [33],oo 35 (.litB [.t 34]) [34],oo 36 (.app [.u8 0] 1 (.t 29) (.t 35)) [29,35],omk 3 36]
def DP:List RI:=[omk 27 5,oo 28 (Bc .sub 27 8) [27],omk 5 28]
def oR:RC:=(.post (Sq (So DR (Kc 26 (Kk [26] .skip) (Kk [4,5,26] (.exit 2)))) (Sq (Bk 3 (.ops DQ)) (.ops DP))) [.tok 3 103])
def ov:RC:=oR
def ou:List RI:=[omk 37 3,omk 2 37]
def Xe:RC:=(So i6 (So DW (Sq (Bk 0 (.pre [.tok 3 103] (.loop sU))) (So DT (Sq (So DS (Bk 2 (.pre [.tok 3 103] (.loop ov)))) (So ou .ret))))))
def Od:FnC:=⟨Xe,38,[.tmp 2],[],[]⟩
def DO:List RI:=[om 6 0,oo 7 (Ln 6) [6],oo 8 (.bin .mul (ci 4) (.t 7)) [7],oo 9 (.mkB (ci 0) (.t 8)) [8],omk 3 9]
def DN:List RI:=[omk 10 0,on 11 (Ln 10),on 12 (Mc 0)]
def DM:List RI:=[on 14 (Ia 1 10 12),oo 15 (Ld 14) [14],omk 5 15]
def DL:List RI:=[omk 16 3,om 17 5,oo 18 (.bin .shr (.t 17) (.c (.int .u64 24))) [17],oo 19 (.toInt .u8 (.t 18)) [18],om 20 5,oo 21 (.bin .shr (.t 20) (.c (.int .u64 16))) [20],oo 22 (.toInt .u8 (.t 21)) [21],om 23 5,oo 24 (.bin .shr (.t 23) (.c (.int .u64 8))) [23],oo 25 (.toInt .u8 (.t 24)) [24],omk 26 5,oo 27 (.toInt .u8 (.t 26)) [26],oo 28 (.litB [.t 19,.t 22,.t 25,.t 27]) [19,22,25,27],.dir (.tok 16 116),oo 29 (.app [.u8 0] 1 (.t 16) (.t 28)) [16,28],omk 3 29]
def DK:List RI:=[oo 30 (Bc .add 12 1) [12],omk 12 30]
def tz:RC:=(.post (So EJ (Sq (Kc 13 (Kk [13] .skip) (Kk [10,11,12,13] (.exit 0))) (Sq (Bk 1 (So DM (.ops DL))) (.ops DK)))) [.tok 3 103])
def sT:RC:=tz
def DJ:List RI:=[omk 31 3,omk 2 31]
def Xd:RC:=(So i6 (So DO (Sq (So DN (Bk 0 (.pre [.tok 3 103] (.loop sT)))) (So DJ .ret))))
def Oc:FnC:=⟨Xd,32,[.tmp 2],[],[]⟩
def DI:List RI:=[on 4 (.new (.arr 1 (az 64 [.int .u32 0])))]
def DH:List RI:=[on 18 (Bc .lss 17 64)]
def DG:List RI:=[om 19 17,omk 5 19]
def DF:List RI:=[om 20 5,oo 21 (Bc .lss 20 16) [20]]
def DE:List RI:=[om 22 5,om 23 1,omk 24 5,oo 25 (Ca 166 [.t 23,.t 24]) [23,24],oo 26 (.iaddrA 64 1 (.t 4) (.t 22)) [22],Sr 1 26 25 [25,26]]
def DD:List FI:=[Fm 0 27 5,Fs 1 28 (Bc .sub 27 15),Fs 2 29 (.iaddrA 64 1 (.t 4) (.t 28)),Fs 3 30 (Ld 29),Fm 4 31 5,Fs 5 32 (Bc .sub 31 2),Fs 6 33 (.iaddrA 64 1 (.t 4) (.t 32)),Fs 7 34 (Ld 33),Fm 8 6 30,Fm 9 7 34]
def DC:List RI:=[om 35 6,oo 36 (Ca 167 [.t 35,ci (-7)]) [35],om 37 6,oo 38 (Ca 167 [.t 37,ci (-18)]) [37],oo 39 (Bb .xor 36 38) [36,38],omk 40 6,oo 41 (.bin .shr (.t 40) (.c (.int .u64 3))) [40],oo 42 (Bb .xor 39 41) [39,41],omk 8 42]
def DB:List RI:=[om 43 7,oo 44 (Ca 167 [.t 43,ci (-17)]) [43],om 45 7,oo 46 (Ca 167 [.t 45,ci (-19)]) [45],oo 47 (Bb .xor 44 46) [44,46],omk 48 7,oo 49 (.bin .shr (.t 48) (.c (.int .u64 10))) [48],oo 50 (Bb .xor 47 49) [47,49],omk 9 50]
def DA:List FI:=[Fm 0 51 5,Fm 1 52 9,Fm 2 53 5,Fs 3 54 (Bc .sub 53 7),Fs 4 55 (.iaddrA 64 1 (.t 4) (.t 54)),Fs 5 56 (Ld 55),Fs 6 57 (Bb .add 52 56),Fm 7 58 8,Fs 8 59 (Bb .add 57 58),Fm 9 60 5,Fs 10 61 (Bc .sub 60 16),Fs 11 62 (.iaddrA 64 1 (.t 4) (.t 61)),Fs 12 63 (Ld 62),Fs 13 64 (Bb .add 59 63),Fs 14 65 (.iaddrA 64 1 (.t 4) (.t 51)),Fr 15 1 65 64]
def uH:List RI:=[oo 66 (Bc .add 17 1) [17],omk 17 66]
def oQ:RC:=(So DH (Sq (Kc 18 (Kk [18] .skip) (Kk [1,17,18] (.exit 0))) (Sq (Bk 1 (So DG (Sq (So DF (Kc 21 (Kk [21] (So DE (.exit 1))) (Kk [21] .skip))) (Sq (.flt [0,1,3,7,0,16,48,112,15,511] [] DD [27,28,29,30,31,32,33,34]) (So DC (So DB (.flt [0,0,0,4,12,28,62,0,254,0,512,1536,3584,8190,16383,32767] [] DA [5,8,9,51,52,53,54,55,56,57,58,59,60,61,62,63,64,65]))))))) (.ops uH))))
def ot:RC:=oQ
def uG:List RI:=[om 67 0,oo 68 (.nchk (.t 67)) [67],oo 69 (Lt 8 68) [68],on 10 (.new (.arr 1 (az 8 [.int .u32 0]))),Sr 8 10 69 [69]]
def uF:List RI:=[on 70 (Mc 0)]
def uE:List RI:=[on 71 (Bc .lss 70 64)]
def uD:List RI:=[om 72 70,omk 11 72]
def uC:List FI:=[Fs 0 73 (.iaddrA 8 1 (.t 10) (ci 0)),Fs 1 74 (Ld 73),Fs 2 75 (.iaddrA 8 1 (.t 10) (ci 4)),Fs 3 76 (Ld 75),Fm 4 12 74,Fm 5 13 76]
def uB:List FI:=[Fs 0 77 (.iaddrA 8 1 (.t 10) (ci 7)),Fs 1 78 (Ld 77),Fm 2 79 13,Fm 4 81 13,Fm 7 84 13,Fm 11 88 13,Fs 12 89 (.iaddrA 8 1 (.t 10) (ci 5)),Fs 13 90 (Ld 89),Fs 14 91 (Bb .and 88 90),Fm 15 92 13,Fs 16 93 (.un .xor (.t 92)),Fs 17 94 (.iaddrA 8 1 (.t 10) (ci 6)),Fs 18 95 (Ld 94),Fs 19 96 (Bb .and 93 95),Fs 20 97 (Bb .xor 91 96),Fm 22 99 11,Fs 23 100 (.iaddrA 64 1 (.c (.pp gJ)) (.t 99)),Fs 24 101 (Ld 100),Fm 26 103 11,Fs 27 104 (.iaddrA 64 1 (.t 4) (.t 103)),Fs 28 105 (Ld 104),Fz 3 80 (Ca 167 [.t 79,ci (-6)]),Fz 5 82 (Ca 167 [.t 81,ci (-11)]),Fs 6 83 (Bb .xor 80 82),Fz 8 85 (Ca 167 [.t 84,ci (-25)]),Fs 9 86 (Bb .xor 83 85),Fs 10 87 (Bb .add 78 86),Fs 21 98 (Bb .add 87 97),Fs 25 102 (Bb .add 98 101),Fs 29 106 (Bb .add 102 105),Fm 30 14 106]
def uA:List FI:=[Fm 0 107 12,Fm 2 109 12,Fm 5 112 12,Fm 8 115 12,Fs 9 116 (.iaddrA 8 1 (.t 10) (ci 1)),Fs 10 117 (Ld 116),Fs 11 118 (Bb .and 115 117),Fm 12 119 12,Fs 13 120 (.iaddrA 8 1 (.t 10) (ci 2)),Fs 14 121 (Ld 120),Fs 15 122 (Bb .and 119 121),Fs 16 123 (Bb .xor 118 122),Fs 17 124 (.iaddrA 8 1 (.t 10) (ci 1)),Fs 18 125 (Ld 124),Fs 19 126 (.iaddrA 8 1 (.t 10) (ci 2)),Fs 20 127 (Ld 126),Fs 21 128 (Bb .and 125 127),Fs 22 129 (Bb .xor 123 128),Fz 1 108 (Ca 167 [.t 107,ci (-2)]),Fz 3 110 (Ca 167 [.t 109,ci (-13)]),Fs 4 111 (Bb .xor 108 110),Fz 6 113 (Ca 167 [.t 112,ci (-22)]),Fs 7 114 (Bb .xor 111 113),Fs 23 130 (Bb .add 114 129),Fm 24 15 130]
def uz:List RI:=[om 131 14,omk 132 15,oo 133 (Bb .add 131 132) [131,132],on 134 (.iaddrA 8 1 (.t 10) (ci 0)),oo 135 (Ld 134) [134],on 136 (.iaddrA 8 1 (.t 10) (ci 1)),oo 137 (Ld 136) [136],on 138 (.iaddrA 8 1 (.t 10) (ci 2)),oo 139 (Ld 138) [138],on 140 (.iaddrA 8 1 (.t 10) (ci 3)),oo 141 (Ld 140) [140],omk 142 14,oo 143 (Bb .add 141 142) [141,142],on 144 (.iaddrA 8 1 (.t 10) (ci 4)),oo 145 (Ld 144) [144],on 146 (.iaddrA 8 1 (.t 10) (ci 5)),oo 147 (Ld 146) [146],on 148 (.iaddrA 8 1 (.t 10) (ci 6)),oo 149 (Ld 148) [148],oo 150 (.build [.int .u32 0,.int .u32 0,.int .u32 0,.int .u32 0,.int .u32 0,.int .u32 0,.int .u32 0,.int .u32 0] [(0,1,(.t 133)),(1,1,(.t 135)),(2,1,(.t 137)),(3,1,(.t 139)),(4,1,(.t 143)),(5,1,(.t 145)),(6,1,(.t 147)),(7,1,(.t 149))]) [133,135,137,139,143,145,147,149],Sr 8 10 150 [150]]
def uy:List RI:=[oo 151 (Bc .add 70 1) [70],omk 70 151]
def oP:RC:=(So uE (Sq (Kc 71 (Kk [71] .skip) (Kk [4,70,71] (.exit 2))) (Sq (Bk 3 (So uD (Sq (.flt [0,1,0,4,3,31] [] uC [73,74,75,76]) (Sq (.flt [0,1,0,4,0,28,60,0,188,508,1023,0,0,4096,14336,0,32768,0,131072,491520,1046528,2097151,0,4194304,12582912,33554431,0,67108864,201326592,536870911,1073741823] [] uB [11,13,77,78,79,80,81,82,83,84,85,86,87,88,89,90,91,92,93,94,95,96,97,98,99,100,101,102,103,104,105,106]) (Sq (.flt [0,1,0,7,15,0,47,127,0,0,512,1792,0,0,8192,28672,65280,0,131072,0,524288,1966080,4194048,8388607,16777215] [] uA [12,107,108,109,110,111,112,113,114,115,116,117,118,119,120,121,122,123,124,125,126,127,128,129,130]) (.ops uz)))))) (.ops uy))))
def oq:RC:=oP
def ux:List RI:=[on 152 (Mc 0)]
def uw:List RI:=[on 153 (Bc .lss 152 8)]
def uv:List RI:=[om 154 152,omk 16 154]
def uu:List FI:=[Fm 0 155 0,Fm 1 156 16,Fs 2 157 (.nchk (.t 155)),Fs 3 158 (.iaddrA 8 1 (.t 157) (.t 156)),Fs 4 159 (Ld 158),Fm 5 160 16,Fs 6 161 (.iaddrA 8 1 (.t 10) (.t 160)),Fs 7 162 (Ld 161),Fs 8 163 (Bb .add 159 162),Fs 9 164 (.nchk (.t 155)),Fs 10 165 (.iaddrA 8 1 (.t 164) (.t 156)),Fr 11 1 165 163]
def ut:List RI:=[oo 166 (Bc .add 152 1) [152],omk 152 166]
def oO:RC:=(So uw (Sq (Kc 153 (Kk [153] .skip) (Kk [0,10,152,153] (.exit 4))) (Sq (Bk 5 (So uv (.flt [0,0,1,7,15,0,32,96,255,1,1023,2047] [] uu [16,155,156,157,158,159,160,161,162,163,164,165]))) (.ops ut))))
def ol:RC:=oO
def Xc:RC:=(So DI (Sq (So sk (Bk 0 (.loop ot))) (So uG (Sq (So uF (Bk 2 (.loop oq))) (So ux (Bk 4 (.loop ol)))))))
def Ob:FnC:=⟨Xc,167,[],[],[]⟩
def Dz:List RI:=[on 0 (.new (.arr 1 (az 64 [.int .u32 0])))]
def Dy:List RI:=[on 1 (.build [.int .u32 0,.int .u32 0,.int .u32 0,.int .u32 0,.int .u32 0,.int .u32 0,.int .u32 0,.int .u32 0,.int .u32 0,.int .u32 0,.int .u32 0,.int .u32 0,.int .u32 0,.int .u32 0,.int .u32 0,.int .u32 0,.int .u32 0,.int .u32 0,.int .u32 0,.int .u32 0,.int .u32 0,.int .u32 0,.int .u32 0,.int .u32 0,.int .u32 0,.int .u32 0,.int .u32 0,.int .u32 0,.int .u32 0,.int .u32 0,.int .u32 0,.int .u32 0,.int .u32 0,.int .u32 0,.int .u32 0,.int .u32 0,.int .u32 0,.int .u32 0,.int .u32 0,.int .u32 0,.int .u32 0,.int .u32 0,.int .u32 0,.int .u32 0,.int .u32 0,.int .u32 0,.int .u32 0,.int .u32 0,.int .u32 0,.int .u32 0,.int .u32 0,.int .u32 0,.int .u32 0,.int .u32 0,.int .u32 0,.int .u32 0,.int .u32 0,.int .u32 0,.int .u32 0,.int .u32 0,.int .u32 0,.int .u32 0,.int .u32 0,.int .u32 0] [(0,1,(.c (.int .u32 1116352408))),(1,1,(.c (.int .u32 1899447441))),(2,1,(.c (.int .u32 3049323471))),(3,1,(.c (.int .u32 3921009573))),(4,1,(.c (.int .u32 961987163))),(5,1,(.c (.int .u32 1508970993))),(6,1,(.c (.int .u32 2453635748))),(7,1,(.c (.int .u32 2870763221))),(8,1,(.c (.int .u32 3624381080))),(9,1,(.c (.int .u32 310598401))),(10,1,(.c (.int .u32 607225278))),(11,1,(.c (.int .u32 1426881987))),(12,1,(.c (.int .u32 1925078388))),(13,1,(.c (.int .u32 2162078206))),(14,1,(.c (.int .u32 2614888103))),(15,1,(.c (.int .u32 3248222580))),(16,1,(.c (.int .u32 3835390401))),(17,1,(.c (.int .u32 4022224774))),(18,1,(.c (.int .u32 264347078))),(19,1,(.c (.int .u32 604807628))),(20,1,(.c (.int .u32 770255983))),(21,1,(.c (.int .u32 1249150122))),(22,1,(.c (.int .u32 1555081692))),(23,1,(.c (.int .u32 1996064986))),(24,1,(.c (.int .u32 2554220882))),(25,1,(.c (.int .u32 2821834349))),(26,1,(.c (.int .u32 2952996808))),(27,1,(.c (.int .u32 3210313671))),(28,1,(.c (.int .u32 3336571891))),(29,1,(.c (.int .u32 3584528711))),(30,1,(.c (.int .u32 113926993))),(31,1,(.c (.int .u32 338241895))),(32,1,(.c (.int .u32 666307205))),(33,1,(.c (.int .u32 773529912))),(34,1,(.c (.int .u32 1294757372))),(35,1,(.c (.int .u32 1396182291))),(36,1,(.c (.int .u32 1695183700))),(37,1,(.c (.int .u32 1986661051))),(38,1,(.c (.int .u32 2177026350))),(39,1,(.c (.int .u32 2456956037))),(40,1,(.c (.int .u32 2730485921))),(41,1,(.c (.int .u32 2820302411))),(42,1,(.c (.int .u32 3259730800))),(43,1,(.c (.int .u32 3345764771))),(44,1,(.c (.int .u32 3516065817))),(45,1,(.c (.int .u32 3600352804))),(46,1,(.c (.int .u32 4094571909))),(47,1,(.c (.int .u32 275423344))),(48,1,(.c (.int .u32 430227734))),(49,1,(.c (.int .u32 506948616))),(50,1,(.c (.int .u32 659060556))),(51,1,(.c (.int .u32 883997877))),(52,1,(.c (.int .u32 958139571))),(53,1,(.c (.int .u32 1322822218))),(54,1,(.c (.int .u32 1537002063))),(55,1,(.c (.int .u32 1747873779))),(56,1,(.c (.int .u32 1955562222))),(57,1,(.c (.int .u32 2024104815))),(58,1,(.c (.int .u32 2227730452))),(59,1,(.c (.int .u32 2361852424))),(60,1,(.c (.int .u32 2428436474))),(61,1,(.c (.int .u32 2756734187))),(62,1,(.c (.int .u32 3204031479))),(63,1,(.c (.int .u32 3329325298)))]),Sr 64 0 1 [1]]
def Xb:RC:=(So Dz (So Dy .ret))
def Oa:FnC:=⟨Xb,2,[.cell 0 64 true],[],[]⟩
def Dx:List RI:=[on 6 (.litB []),om 7 0,oo 8 (.app [.u8 0] 1 (.t 6) (.t 7)) [6,7],on 9 (.litB [(.c (.u8 128))]),oo 10 (.app [.u8 0] 1 (.t 8) (.t 9)) [8,9],omk 3 10]
def Dw:List RI:=[om 11 3,oo 12 (Ln 11) [11],oo 13 (Bc .rem 12 64) [12],oo 14 (Bc .neq 13 56) [13]]
def Dv:List RI:=[omk 15 3,on 16 (.litB [(.c (.u8 0))]),oo 17 (.app [.u8 0] 1 (.t 15) (.t 16)) [15,16],omk 3 17]
def tx:RC:=(.post (Sq (So Dw (Kc 14 (Kk [14] .skip) (Kk [14] (.exit 0)))) (Bk 1 (.ops Dv))) [.tok 3 103])
def sS:RC:=tx
def Du:List RI:=[omk 18 0,oo 19 (Ln 18) [18],oo 20 (.toInt .u64 (.t 19)) [19],oo 21 (.bin .mul (.t 20) (.c (.int .u64 8))) [20],omk 4 21]
def Dt:List RI:=[on 5 (Mc 7)]
def Ds:List RI:=[om 22 5,oo 23 (Bc .geq 22 0) [22]]
def Dr:List RI:=[omk 26 3,om 27 4,om 28 5,oo 29 (.toInt .u64 (.t 28)) [28],oo 30 (.bin .mul (.c (.int .u64 8)) (.t 29)) [29],oo 31 (Bb .shr 27 30) [27,30],oo 32 (.toInt .u8 (.t 31)) [31],oo 33 (.litB [.t 32]) [32],oo 34 (.app [.u8 0] 1 (.t 26) (.t 33)) [26,33],omk 3 34]
def Dq:List RI:=[omk 24 5,oo 25 (Bc .sub 24 1) [24],omk 5 25]
def oN:RC:=(.post (Sq (So Ds (Kc 23 (Kk [23] .skip) (Kk [4,5,23] (.exit 2)))) (Sq (Bk 3 (.ops Dr)) (.ops Dq))) [.tok 3 103])
def oj:RC:=oN
def ur:List RI:=[omk 35 3,omk 2 35]
def Xa:RC:=(So i6 (So Dx (Sq (Bk 0 (.pre [.tok 3 103] (.loop sS))) (So Du (Sq (So Dt (Bk 2 (.pre [.tok 3 103] (.loop oj)))) (So ur .ret))))))
def N9:FnC:=⟨Xa,36,[.tmp 2],[],[]⟩
def mP:List RI:=[oo 4 (.mov (.c (.int .u32 0))) [4]]
def sR:List FI:=[Fm 0 5 0,Fm 1 6 1,Fs 2 7 (.bin .mul (ci 4) (.t 6)),Fs 3 8 (Ia 1 5 7),Fs 4 9 (Ld 8),Fs 5 10 (.toInt .u32 (.t 9)),Fs 6 11 (.bin .shl (.t 10) (.c (.int .u64 24))),Fm 7 12 0,Fm 8 13 1,Fs 9 14 (.bin .mul (ci 4) (.t 13)),Fs 10 15 (Bc .add 14 1),Fs 11 16 (Ia 1 12 15),Fs 12 17 (Ld 16),Fs 13 18 (.toInt .u32 (.t 17)),Fs 14 19 (.bin .shl (.t 18) (.c (.int .u64 16))),Fs 15 20 (Bb .or 11 19),Fm 16 21 0,Fm 17 22 1,Fs 18 23 (.bin .mul (ci 4) (.t 22)),Fs 19 24 (Bc .add 23 2),Fs 20 25 (Ia 1 21 24),Fs 21 26 (Ld 25),Fs 22 27 (.toInt .u32 (.t 26)),Fs 23 28 (.bin .shl (.t 27) (.c (.int .u64 8))),Fs 24 29 (Bb .or 20 28),Fm 25 30 0,Fm 26 31 1,Fs 27 32 (.bin .mul (ci 4) (.t 31)),Fs 28 33 (Bc .add 32 3),Fs 29 34 (Ia 1 30 33),Fs 30 35 (Ld 34),Fs 31 36 (.toInt .u32 (.t 35)),Fs 32 37 (Bb .or 29 36),Fm 33 4 37]
def W9:RC:=(So mP (Sq (.flt [0,0,2,7,15,31,63,0,0,256,768,1920,3968,8064,16256,32767,0,0,131072,393216,983040,2031616,4128768,8323072,16777215,0,0,67108864,201326592,503316480,1040187392,2113929216,4294967295,8589934591] [] sR [0,1,5,6,7,8,9,10,11,12,13,14,15,16,17,18,19,20,21,22,23,24,25,26,27,28,29,30,31,32,33,34,35,36,37]) .ret))
def N8:FnC:=⟨W9,38,[.tmp 4],[],[]⟩
def Dp:List RI:=[om 5 0,om 6 1,oo 7 (Bb .shr 5 6) [5,6],omk 8 0,omk 9 1,oo 10 (.bin .sub (.c (.int .u64 32)) (.t 9)) [9],oo 11 (Bb .shl 8 10) [8,10],oo 12 (Bb .or 7 11) [7,11],omk 4 12]
def W8:RC:=(So mP (So Dp .ret))
def N7:FnC:=⟨W8,13,[.tmp 4],[],[]⟩
def Do:List RI:=[on 3 (.mov (.c (.byt [] .clip)))]
def Dn:List RI:=[om 5 4,om 6 0,oo 7 (Ln 6) [6],oo 8 (Bb .lss 5 7) [5,7]]
def Dm:List FI:=[Fm 0 11 3,Fm 1 12 0,Fm 2 13 4,Fs 3 14 (Ia 1 12 13),Fs 4 15 (Ld 14),Fs 5 16 (.bin .shr (.t 15) (.c (.int .u64 24))),Fs 6 17 (.toInt .u8 (.t 16)),Fm 7 18 0,Fm 8 19 4,Fs 9 20 (Ia 1 18 19),Fs 10 21 (Ld 20),Fs 11 22 (.bin .shr (.t 21) (.c (.int .u64 16))),Fs 12 23 (.toInt .u8 (.t 22)),Fm 13 24 0,Fm 14 25 4,Fs 15 26 (Ia 1 24 25),Fs 16 27 (Ld 26),Fs 17 28 (.bin .shr (.t 27) (.c (.int .u64 8))),Fs 18 29 (.toInt .u8 (.t 28)),Fm 19 30 0,Fm 20 31 4,Fs 21 32 (Ia 1 30 31),Fs 22 33 (Ld 32),Fs 23 34 (.toInt .u8 (.t 33)),Fs 24 35 (.litB [.t 17,.t 23,.t 29,.t 34]),Fz 25 36 (.app [.u8 0] 1 (.t 11) (.t 35)),⟨26,false,(xm 3 36)⟩]
def Dl:List RI:=[omk 9 4,oo 10 (Bc .add 9 1) [9],omk 4 10]
def tw:RC:=(.post (Sq (So Dn (Kc 8 (Kk [8] .skip) (Kk [0,4,8] (.exit 0)))) (Sq (Bk 1 (.flt [0,0,0,6,14,30,62,0,0,384,896,1920,3968,0,0,24576,57344,122880,253952,0,0,1572864,3670016,7864320,16777214,33554431,67108863] [136] Dm [11,12,13,14,15,16,17,18,19,20,21,22,23,24,25,26,27,28,29,30,31,32,33,34,35,36])) (.ops Dl))) [.tok 3 103])
def sQ:RC:=tw
def W7:RC:=(So i6 (So Do (Sq (So g9 (Bk 0 (.pre [.tok 3 103] (.loop sQ)))) (So ou .ret))))
def N6:FnC:=⟨W7,38,[.tmp 2],[],[]⟩
def Dj:List RI:=[om 3 0,oo 4 (Bc .eql 3 1) [3],omk 5 4,.grp 5 false [(xi 6 5 false (Mv 0)),(xi 7 5 false (Bc .eql 6 2))] [6],oo 8 (Pt 5 7) [5,7],omk 9 8,.grp 9 false [(xi 10 9 false (Mv 0)),(xi 11 9 false (Bc .eql 10 4))] [10],oo 12 (Pt 9 11) [9,11],omk 13 12,.grp 13 false [(xi 14 13 false (Mv 0)),(xi 15 13 false (Bc .eql 14 8))] [0,14],oo 16 (Pt 13 15) [13,15],omk 2 16]
def W6:RC:=(So xo (So Dj .ret))
def N5:FnC:=⟨W6,17,[.tmp 2],[],[]⟩
def Di:List RI:=[om 7 6,oo 8 (.bin .mul (ci 2) (.t 7)) [7],oo 9 (Bc .add 8 1) [8],om 10 1,oo 11 (Ln 10) [10],oo 12 (Bb .lss 9 11) [9,11]]
def Dh:List FI:=[Fm 0 15 5,Fm 1 16 0,Fm 2 17 6,Fm 3 18 1,Fm 4 19 6,Fs 5 20 (.bin .mul (ci 2) (.t 19)),Fs 6 21 (Ia 1 18 20),Fs 7 22 (Ld 21),Fm 8 23 1,Fm 9 24 6,Fs 10 25 (.bin .mul (ci 2) (.t 24)),Fs 11 26 (Bc .add 25 1),Fs 12 27 (Ia 1 23 26),Fs 13 28 (Ld 27),Fz 14 29 (Ca 179 [.t 16,.t 17,.t 22,.t 28]),Fs 15 30 (.lit 1 [.t 29]),Fz 16 31 (.app [.byt [] .clip] 24 (.t 15) (.t 30)),⟨17,false,(xm 5 31)⟩]
def Dg:List RI:=[omk 13 6,oo 14 (Bc .add 13 1) [13],omk 6 14]
def tv:RC:=(.post (Sq (So Di (Kc 12 (Kk [12] .skip) (Kk [0,1,6,12] (.exit 0)))) (Sq (Bk 1 (.flt [0,0,0,0,0,16,56,120,0,0,512,1536,3840,7936,16382,32766,65535,131071] [131] Dh [15,16,17,18,19,20,21,22,23,24,25,26,27,28,29,30,31])) (.ops Dg))) [.tok 5 105])
def Df:RC:=tv
def De:List RI:=[omk 32 5,omk 4 32]
def W5:RC:=(So rh (So xp (Sq (So lF (Bk 0 (.pre [.tok 5 105] (.loop Df)))) (So De .ret))))
def N4:FnC:=⟨W5,33,[.tmp 4],[],[]⟩
def Dd:List RI:=[on 3 (.litB []),omk 4 0,oo 5 (.app [.u8 0] 1 (.t 3) (.t 4)) [3,4],omk 2 5]
def W4:RC:=(So i6 (So Dd .ret))
def N3:FnC:=⟨W4,6,[.tmp 2],[],[]⟩
def Dc:List RI:=[om 7 1,oo 8 (Bc .lss 7 0) [7],omk 9 8,.grp 9 false [(xi 10 9 false (Mv 1)),(xi 11 9 false (Bc .gtr 10 255))] [10],oo 12 (Pt 9 11) [9,11]]
def Db:List RI:=[on 5 (.mov (.c (.byt [] .clip)))]
def Da:List RI:=[om 13 6,oo 14 (Bc .lss 13 35) [13]]
def C9:List RI:=[omk 17 5,om 18 1,om 19 6,om 20 0,om 21 1,om 22 6,oo 23 (Ca 144 [.t 20,.t 21,.t 22]) [20,21,22],oo 24 (Ca 143 [.t 18,.t 19,ci 0,ci 15,.t 23]) [18,19,23],oo 25 (.app [.u8 0] 1 (.t 17) (.t 24)) [17,24],omk 5 25]
def sP:List RI:=[omk 15 6,oo 16 (Bc .add 15 1) [15],omk 6 16]
def tu:RC:=(.post (Sq (So Da (Kc 14 (Kk [14] .skip) (Kk [0,6,14] (.exit 0)))) (Sq (Bk 1 (.ops C9)) (.ops sP))) [.tok 5 105])
def o6:RC:=tu
def C8:List RI:=[omk 26 1,omk 27 5,oo 28 (Ca 180 [.t 26,.t 27]) [26,27],omk 4 28]
def W1:RC:=(So fF (Sq (So Dc (Kc 12 (Kk [0,1,12] (So kX .ret)) (Kk [12] .skip))) (So Db (Sq (So lF (Bk 0 (.pre [.tok 5 105] (.loop o6)))) (So C8 .ret)))))
def N2:FnC:=⟨W1,29,[.tmp 4],[],[]⟩
def C7:List RI:=[om 3 0,oo 4 (Bc .geq 3 0) [3],omk 5 4,.grp 5 true [(xi 6 5 true (Mv 0)),(xi 7 5 true (Bc .leq 6 255))] [0,6],oo 8 (Pf 5 7) [5,7],omk 2 8]
def W0:RC:=(So xo (So C7 .ret))
def N1:FnC:=⟨W0,9,[.tmp 2],[],[]⟩
def sO:List RI:=[oo 2 (.mov (.c (.lst 1 [] .clip))) [2]]
def C6:List RI:=[on 3 (.mov (.c (.lst 1 [] .clip)))]
def C5:List RI:=[omk 9 0,oo 10 (.lit 1 [.t 9]) [9],oo 11 (Ca 183 [ci 4,.t 10]) [10],oo 12 (.slcL 1 (.t 11) none (some (ci 16)) none) [11],on 13 (Ln 12),on 14 (Mc 0)]
def C4:List RI:=[on 16 (Ia 1 12 14),oo 17 (Ld 16) [16],omk 6 17]
def C3:List RI:=[om 18 6,oo 19 (.bin .shr (.t 18) (.c (.int .u64 4))) [18],oo 20 (.toInt .i64 (.t 19)) [19],omk 21 6,oo 22 (.bin .and (.t 21) (.c (.u8 15))) [21],oo 23 (.toInt .i64 (.t 22)) [22],oo 24 (.build [.int .i64 0,.int .i64 0] [(0,1,(.t 20)),(1,1,(.t 23))]) [20,23],on 25 (Mc 0)]
def C2:List RI:=[on 26 (Bc .lss 25 2)]
def C1:List RI:=[on 27 (.idxA 2 1 false (.t 24) (.t 25)),omk 8 27]
def C0:List RI:=[omk 28 3,om 29 8,oo 30 (.lit 1 [.t 29]) [29],oo 31 (.app [.int .i64 0] 8 (.t 28) (.t 30)) [28,30],omk 3 31]
def uq:List RI:=[omk 32 4,omk 33 8,oo 34 (.bin .sub (ci 15) (.t 33)) [33],oo 35 (Bb .add 32 34) [32,34],omk 4 35]
def uo:List RI:=[oo 36 (Bc .add 25 1) [25],omk 25 36]
def oM:RC:=(.post (So C2 (Sq (Kc 26 (Kk [26] .skip) (Kk [24,25,26] (.exit 2))) (Sq (Bk 3 (So C1 (So C0 (.ops uq)))) (.ops uo)))) [.tok 3 103])
def um:RC:=oM
def ul:List RI:=[oo 37 (Bc .add 14 1) [14],omk 14 37]
def oL:RC:=(.post (So xn (Sq (Kc 15 (Kk [15] .skip) (Kk [12,13,14,15] (.exit 0))) (Sq (Bk 1 (So C4 (So C3 (Bk 2 (.pre [.tok 3 103] (.loop um)))))) (.ops ul)))) [.tok 3 103])
def oi:RC:=oL
def uk:List RI:=[omk 38 3,om 39 4,oo 40 (.bin .shr (.t 39) (.c (.int .u64 8))) [39],om 41 4,oo 42 (.bin .shr (.t 41) (.c (.int .u64 4))) [41],oo 43 (Bc .and 42 15) [42],omk 44 4,oo 45 (Bc .and 44 15) [44],oo 46 (.lit 1 [.t 40,.t 43,.t 45]) [40,43,45],oo 47 (.app [.int .i64 0] 8 (.t 38) (.t 46)) [38,46],omk 2 47]
def WZ:RC:=(So sO (So C6 (So g9 (Sq (So C5 (Bk 0 (.pre [.tok 3 103] (.loop oi)))) (So uk .ret)))))
def N0:FnC:=⟨WZ,48,[.tmp 2],[],[]⟩
def sN:List RI:=[oo 5 (Ld 1) [1],oo 6 (Ld 2) [2],omk 7 0,oo 8 (Ca 134 [.t 5,.t 6,.t 7]) [5,6,7],omk 4 8]
def WY:RC:=(So fF (So sN .ret))
def NZ:FnC:=⟨WY,9,[.tmp 4],[],[]⟩
def CZ:List RI:=[omk 7 0,omk 8 1,oo 9 (.toInt .u8 (.t 8)) [8],omk 10 2,oo 11 (.toInt .u8 (.t 10)) [10],oo 12 (.litB [.t 9,.t 11]) [9,11],oo 13 (Ca 138 [.t 7,(.c (.str [99,104,97,105,110])),.t 12,ci 16]) [7,12],omk 6 13]
def WX:RC:=(So o5 (So CZ .ret))
def NY:FnC:=⟨WX,14,[.tmp 6],[],[]⟩
def sM:List RI:=[on 9 (.mov (.c (.byt [] .clip)))]
def CY:List RI:=[on 13 (Mc 0)]
def CX:List RI:=[on 14 (Bc .lss 13 35)]
def CW:List RI:=[om 15 13,omk 10 15]
def CV:List RI:=[om 16 1,om 17 10,oo 18 (.call (.t 16) [.t 17]) [16,17],omk 11 18]
def CU:List RI:=[om 19 2,om 20 10,oo 21 (.call (.t 19) [.t 20]) [19,20],omk 12 21]
def CT:List RI:=[om 22 12,om 23 3,om 24 10,oo 25 (.call (.t 23) [.t 24]) [23,24],oo 26 (Bb .lss 22 25) [22,25]]
def CS:List RI:=[om 29 0,om 30 10,om 31 12,omk 32 11,oo 33 (Ca 184 [.t 29,.t 30,.t 31,.t 32]) [29,30,31,32],omk 11 33]
def CR:List RI:=[omk 27 12,oo 28 (Bc .add 27 1) [27],omk 12 28]
def oK:RC:=(Sq (So CT (Kc 26 (Kk [26] .skip) (Kk [10,12,26] (.exit 2)))) (Sq (Bk 3 (.ops CS)) (.ops CR)))
def kb:RC:=oK
def uj:List RI:=[omk 34 9,omk 35 11,oo 36 (.app [.u8 0] 1 (.t 34) (.t 35)) [34,35],omk 9 36]
def ui:List RI:=[oo 37 (Bc .add 13 1) [13],omk 13 37]
def oJ:RC:=(.post (So CX (Sq (Kc 14 (Kk [14] .skip) (Kk [0,1,2,3,13,14] (.exit 0))) (Sq (Bk 1 (So CW (So CV (Sq (So CU (Bk 2 (.loop kb))) (.ops uj))))) (.ops ui)))) [.tok 9 109])
def gx:RC:=oJ
def uh:List RI:=[omk 38 9,omk 8 38]
def WW:RC:=(So lE (So sM (Sq (So CY (Bk 0 (.pre [.tok 9 109] (.loop gx)))) (So uh .ret))))
def NX:FnC:=⟨WW,39,[.tmp 8],[],[]⟩
def WV:RC:=(Kk [0] (So jU (So mO .ret)))
def NW:FnC:=⟨WV,3,[.tmp 2],[],[]⟩
def sL:List RI:=[oo 3 (Mc 0) [3]]
def sK:List RI:=[oo 4 (Ld 1) [1],omk 5 0,oo 6 (Ia 1 4 5) [4,5],oo 7 (Ld 6) [6],omk 3 7]
def WU:RC:=(So sL (So sK .ret))
def NV:FnC:=⟨WU,8,[.tmp 3],[],[]⟩
def sJ:List RI:=[om 12 3,oo 13 (Bc .lss 12 1) [12],omk 14 13,.grp 14 false [(xi 15 14 false (Mv 3)),(xi 16 14 false (Bc .gtr 15 1024))] [15],oo 17 (Pt 14 16) [14,16]]
def CQ:List RI:=[omk 18 1,.tks (xs 19 (.s2b (.t 18))) [18],on 20 (.litB [(.c (.u8 0))]),oo 21 (.app [.u8 0] 1 (.t 19) (.t 20)) [19,20],omk 22 2,oo 23 (.app [.u8 0] 1 (.t 21) (.t 22)) [21,22],omk 9 23]
def CP:List RI:=[omk 24 9,om 25 3,oo 26 (.bin .mul (ci 8) (.t 25)) [25],oo 27 (Ca 185 [.t 26]) [26],oo 28 (.app [.u8 0] 1 (.t 24) (.t 27)) [24,27],omk 9 28]
def CO:List RI:=[on 10 (.mov (.c (.byt [] .clip)))]
def CN:List RI:=[on 11 (Mc 1)]
def CM:List RI:=[om 29 10,oo 30 (Ln 29) [29],om 31 3,oo 32 (Bb .lss 30 31) [30,31]]
def CL:List RI:=[omk 35 10,om 36 0,om 37 11,oo 38 (Ca 185 [.t 37]) [37],om 39 9,oo 40 (.app [.u8 0] 1 (.t 38) (.t 39)) [38,39],oo 41 (Ca 186 [.t 36,.t 40]) [36,40],oo 42 (.app [.u8 0] 1 (.t 35) (.t 41)) [35,41],omk 10 42]
def CK:List RI:=[omk 33 11,oo 34 (Bc .add 33 1) [33],omk 11 34]
def oI:RC:=(.post (Sq (So CM (Kc 32 (Kk [32] .skip) (Kk [0,9,11,32] (.exit 0)))) (Sq (Bk 1 (.ops CL)) (.ops CK))) [.gc [140],.gcr 39000 40000,.tok 10 110])
def ug:RC:=oI
def uf:List RI:=[omk 43 10,om 44 3,omk 45 3,oo 46 (.slcL 1 (.t 43) none (some (.t 44)) (some (.t 45))) [43,44,45],omk 8 46]
def WT:RC:=(So lE (Sq (So sJ (Kc 17 (Kk [0,1,2,3,17] (So xq .ret)) (Kk [17] .skip))) (So CQ (So CP (So CO (Sq (So CN (Bk 0 (.pre [.tok 10 110] (.loop ug)))) (So uf .ret)))))))
def NU:FnC:=⟨WT,47,[.tmp 8],[],[]⟩
def CJ:List RI:=[om 4 3,oo 5 (Bc .leq 4 3) [4]]
def CI:List RI:=[om 8 0,om 9 3,oo 10 (.toInt .u64 (.t 9)) [9],oo 11 (.bin .shl (ci 1) (.t 10)) [10],oo 12 (Bb .eql 8 11) [8,11]]
def CH:List RI:=[omk 13 3,omk 2 13]
def CG:List RI:=[omk 6 3,oo 7 (Bc .add 6 1) [6],omk 3 7]
def tt:RC:=(Sq (So CJ (Kc 5 (Kk [5] .skip) (Kk [0,3,5] (.exit 0)))) (Sq (Bk 1 (So CI (Kc 12 (Kk [0,12] (So CH .ret)) (Kk [12] .skip)))) (.ops CG)))
def CF:RC:=tt
def CE:List RI:=[on 2 (Mc (-1))]
def WS:RC:=(So jU (Sq (So EH (Bk 0 (.loop CF))) (So CE .ret)))
def NT:FnC:=⟨WS,14,[.tmp 2],[],[]⟩
def CD:List RI:=[omk 7 0,oo 8 (.lit 1 [.t 7]) [7],omk 3 8]
def CC:List RI:=[om 9 3,om 10 4,oo 11 (Ia 1 9 10) [9,10],oo 12 (Ld 11) [11],oo 13 (Ln 12) [12],oo 14 (Bc .gtr 13 1) [13]]
def CB:List RI:=[om 17 6,oo 18 (.bin .mul (ci 2) (.t 17)) [17],om 19 3,om 20 4,oo 21 (Ia 1 19 20) [19,20],oo 22 (Ld 21) [21],oo 23 (Ln 22) [22],oo 24 (Bb .lss 18 23) [18,23]]
def CA:List FI:=[Fm 0 27 5,Fm 1 28 4,Fm 2 29 6,Fm 3 30 3,Fm 4 31 4,Fs 5 32 (Ia 1 30 31),Fs 6 33 (Ld 32),Fm 7 34 6,Fs 8 35 (.bin .mul (ci 2) (.t 34)),Fs 9 36 (Ia 1 33 35),Fs 10 37 (Ld 36),Fm 11 38 3,Fm 12 39 4,Fs 13 40 (Ia 1 38 39),Fs 14 41 (Ld 40),Fm 15 42 6,Fs 16 43 (.bin .mul (ci 2) (.t 42)),Fs 17 44 (Bc .add 43 1),Fs 18 45 (Ia 1 41 44),Fs 19 46 (Ld 45),Fz 20 47 (Ca 150 [.t 28,.t 29,.t 37,.t 46]),Fs 21 48 (.lit 1 [.t 47]),Fz 22 49 (.app [.byt [] .clip] 24 (.t 27) (.t 48)),⟨23,false,(xm 5 49)⟩]
def Cz:List RI:=[omk 25 6,oo 26 (Bc .add 25 1) [25],omk 6 26]
def tq:RC:=(.post (Sq (So CB (Kc 24 (Kk [24] .skip) (Kk [6,24] (.exit 2)))) (Sq (Bk 3 (.flt [0,0,0,0,0,24,56,0,128,504,1016,0,0,6144,14336,0,32768,98304,260096,522240,1048574,2097150,4194303,8388607] [149] CA [27,28,29,30,31,32,33,34,35,36,37,38,39,40,41,42,43,44,45,46,47,48,49])) (.ops Cz))) [.tok 5 105])
def Cy:RC:=tq
def ue:List RI:=[omk 50 3,omk 51 5,oo 52 (.lit 1 [.t 51]) [51],oo 53 (.app [.lst 1 [] .clip] 24 (.t 50) (.t 52)) [50,52],omk 3 53]
def ud:List RI:=[omk 15 4,oo 16 (Bc .add 15 1) [15],omk 4 16]
def oH:RC:=(.post (Sq (So CC (Kc 14 (Kk [14] .skip) (Kk [4,14] (.exit 0)))) (Sq (Bk 1 (So xp (Sq (So lF (Bk 2 (.pre [.tok 5 105] (.loop Cy)))) (.ops ue)))) (.ops ud))) [.gc [149],.tok 3 103])
def uc:RC:=oH
def ua:List RI:=[omk 54 3,omk 2 54]
def WR:RC:=(So sO (So CD (Sq (So g9 (Bk 0 (.pre [.tok 3 103] (.loop uc)))) (So ua .ret))))
def NS:FnC:=⟨WR,55,[.tmp 2],[],[]⟩
def Cx:List RI:=[oo 2 (.box (.t 0)) [0],oo 3 (.box (.t 1)) [1],oo 4 (.mov (.c (.byt [] .clip))) [4]]
def Cw:List RI:=[on 6 (Ld 3),oo 7 (Ca 131 [.t 6]) [6],oo 8 (.un .not (.t 7)) [7]]
def Cv:List RI:=[oo 9 (.mkfn 187 [] [.t 2,.t 3]) [2],omk 5 9]
def Cu:List FI:=[Fs 0 10 (Ld 3),Fs 1 11 (Ld 3),Fm 2 12 5,Fz 3 13 (Ca 135 [.t 11,.t 12,(.f 188),(.f 189)]),Fz 4 14 (Ca 147 [.t 10,.t 13]),Fm 5 4 14]
def WQ:RC:=(So Cx (Sq (So Cw (Kc 8 (Kk [2,3,8] (So kX .ret)) (Kk [8] .skip))) (So Cv (Sq (.flt [0,0,0,6,15,31] [] Cu [3,5,10,11,12,13,14]) .ret))))
def NR:FnC:=⟨WQ,15,[.tmp 4],[],[]⟩
def Ct:List RI:=[oo 10 (.mov (.c (.byt [] .clip))) [10]]
def Cs:List RI:=[omk 12 2,omk 11 12]
def Cr:List RI:=[om 13 11,om 14 3,oo 15 (Bb .lss 13 14) [13,14]]
def Cq:List RI:=[om 18 0,oo 19 (.toInt .u8 (.t 18)) [18],om 20 1,oo 21 (.toInt .u8 (.t 20)) [20],om 22 11,oo 23 (.toInt .u8 (.t 22)) [22],oo 24 (.litB [.t 19,.t 21,.t 23]) [19,21,23],omk 25 4,oo 26 (.lit 1 [.t 24,.t 25]) [24,25],oo 27 (Ca 190 [ci 1,.t 26]) [26],oo 28 (.slcL 1 (.t 27) none (some (ci 16)) none) [27],omk 4 28]
def Cp:List RI:=[omk 16 11,oo 17 (Bc .add 16 1) [16],omk 11 17]
def tp:RC:=(Sq (So Cr (Kc 15 (Kk [15] .skip) (Kk [0,1,3,11,15] (.exit 0)))) (Sq (Bk 1 (.ops Cq)) (.ops Cp)))
def sI:RC:=tp
def Co:List RI:=[omk 29 4,omk 10 29]
def WP:RC:=(So Ct (Sq (So Cs (Bk 0 (.loop sI))) (So Co .ret)))
def NQ:FnC:=⟨WP,30,[.tmp 10],[],[]⟩
def Cn:List RI:=[omk 7 0,omk 8 1,oo 9 (.toInt .u8 (.t 8)) [8],omk 10 2,oo 11 (.toInt .u8 (.t 10)) [10],oo 12 (.litB [.t 9,.t 11]) [9,11],oo 13 (Ca 145 [.t 7,(.c (.str [99,104,97,105,110])),.t 12,ci 16]) [7,12],omk 6 13]
def WO:RC:=(So o5 (So Cn .ret))
def NP:FnC:=⟨WO,14,[.tmp 6],[],[]⟩
def Cm:List RI:=[on 10 (Mc 1)]
def Cl:List RI:=[om 18 9,oo 19 (Ln 18) [18],om 20 3,oo 21 (Bb .lss 19 20) [19,20]]
def Ck:List RI:=[om 24 10,oo 25 (Ca 191 [.t 24]) [24],om 26 1,oo 27 (.app [.u8 0] 1 (.t 25) (.t 26)) [25,26],omk 11 27]
def Cj:List RI:=[omk 28 11,on 29 (.litB [(.c (.u8 0))]),oo 30 (.app [.u8 0] 1 (.t 28) (.t 29)) [28,29],om 31 2,oo 32 (.app [.u8 0] 1 (.t 30) (.t 31)) [30,31],om 33 3,oo 34 (.bin .mul (ci 8) (.t 33)) [33],oo 35 (Ca 191 [.t 34]) [34],oo 36 (.app [.u8 0] 1 (.t 32) (.t 35)) [32,35],omk 11 36]
def Ci:List RI:=[omk 37 9,om 38 0,omk 39 11,oo 40 (Ca 192 [.t 38,.t 39]) [38,39],oo 41 (.app [.u8 0] 1 (.t 37) (.t 40)) [37,40],omk 9 41]
def Ch:List RI:=[omk 22 10,oo 23 (Bc .add 22 1) [22],omk 10 23]
def oG:RC:=(.post (Sq (So Cl (Kc 21 (Kk [21] .skip) (Kk [0,1,2,10,21] (.exit 0)))) (Sq (Bk 1 (So Ck (So Cj (.ops Ci)))) (.ops Ch))) [.gc [127,130,132,136],.gcr 26000 27000,.gcr 36000 37000,.tok 9 109])
def tZ:RC:=oG
def tY:List RI:=[omk 42 9,omk 43 3,oo 44 (.slcL 1 (.t 42) none (some (.t 43)) none) [42,43],omk 8 44]
def WN:RC:=(So lE (Sq (So sJ (Kc 17 (Kk [0,1,2,3,17] (So xq .ret)) (Kk [17] .skip))) (So sM (Sq (So Cm (Bk 0 (.pre [.tok 9 109] (.loop tZ)))) (So tY .ret)))))
def NO:FnC:=⟨WN,45,[.tmp 8],[],[]⟩
def sH:List RI:=[oo 3 (.mov (.c (.byt [] .clip))) [3]]
def Cg:List RI:=[oo 4 (Ld 1) [1],om 5 0,oo 6 (Bc .mul 5 16) [5],omk 7 0,oo 8 (Bc .add 7 1) [7],oo 9 (Bc .mul 8 16) [8],oo 10 (.slcL 1 (.t 4) (some (.t 6)) (some (.t 9)) none) [4,6,9],omk 3 10]
def WM:RC:=(So sH (So Cg .ret))
def NN:FnC:=⟨WM,11,[.tmp 3],[],[]⟩
def Cf:List RI:=[omk 5 0,oo 6 (.toInt .u8 (.t 5)) [5],oo 7 (.litB [.t 6]) [6],omk 8 1,oo 9 (.lit 1 [.t 7,.t 8]) [7,8],oo 10 (Ca 183 [ci 2,.t 9]) [9],oo 11 (.slcL 1 (.t 10) none (some (ci 16)) (some (ci 16))) [10],omk 4 11]
def WL:RC:=(So fF (So Cf .ret))
def NM:FnC:=⟨WL,12,[.tmp 4],[],[]⟩
def WK:RC:=(So sL (So sK .ret))
def NL:FnC:=⟨WK,8,[.tmp 3],[],[]⟩
def sG:List RI:=[on 2 (Mc 15)]
def WJ:RC:=(Kk [0] (So jU (So sG .ret)))
def NK:FnC:=⟨WJ,3,[.tmp 2],[],[]⟩
def Ce:List RI:=[omk 9 0,oo 10 (.toInt .u8 (.t 9)) [9],omk 11 1,oo 12 (.toInt .u8 (.t 11)) [11],oo 13 (.litB [.t 10,.t 12]) [10,12],omk 14 2,omk 15 3,oo 16 (.lit 1 [.t 13,.t 14,.t 15]) [13,14,15],oo 17 (Ca 183 [ci 3,.t 16]) [16],oo 18 (.slcL 1 (.t 17) none (some (ci 16)) (some (ci 16))) [17],omk 8 18]
def WI:RC:=(So lE (So Ce .ret))
def NJ:FnC:=⟨WI,19,[.tmp 8],[],[]⟩
def WH:RC:=(So mP (Sq (.flt [0,0,2,7,15,31,63,0,0,256,768,1920,3968,8064,16256,32767,0,0,131072,393216,983040,2031616,4128768,8323072,16777215,0,0,67108864,201326592,503316480,1040187392,2113929216,4294967295,8589934591] [] sR [0,1,5,6,7,8,9,10,11,12,13,14,15,16,17,18,19,20,21,22,23,24,25,26,27,28,29,30,31,32,33,34,35,36,37]) .ret))
def NI:FnC:=⟨WH,38,[.tmp 4],[],[]⟩
def Cd:List RI:=[omk 6 1,oo 7 (.toInt .u64 (.t 6)) [6],oo 8 (.bin .and (.t 7) (.c (.int .u64 31))) [7],omk 5 8]
def Cc:List RI:=[om 9 0,om 10 5,oo 11 (Bb .shl 9 10) [9,10],omk 12 0,omk 13 5,oo 14 (.bin .sub (.c (.int .u64 32)) (.t 13)) [13],oo 15 (Bb .shr 12 14) [12,14],oo 16 (Bb .or 11 15) [11,15],omk 4 16]
def WG:RC:=(So mP (So Cd (So Cc .ret)))
def NH:FnC:=⟨WG,17,[.tmp 4],[],[]⟩
def Cb:List RI:=[omk 9 0,oo 10 (.toInt .u8 (.t 9)) [9],omk 11 1,oo 12 (.toInt .u8 (.t 11)) [11],oo 13 (.litB [.t 10,.t 12]) [10,12],omk 14 2,omk 15 3,oo 16 (.lit 1 [.t 13,.t 14,.t 15]) [13,14,15],oo 17 (Ca 190 [ci 3,.t 16]) [16],oo 18 (.slcL 1 (.t 17) none (some (ci 16)) none) [17],omk 8 18]
def WF:RC:=(So lE (So Cb .ret))
def NG:FnC:=⟨WF,19,[.tmp 8],[],[]⟩
def B9:List RI:=[omk 5 0,oo 6 (.toInt .u8 (.t 5)) [5],oo 7 (.litB [.t 6]) [6],omk 8 1,oo 9 (.lit 1 [.t 7,.t 8]) [7,8],oo 10 (Ca 190 [ci 2,.t 9]) [9],oo 11 (.slcL 1 (.t 10) none (some (ci 16)) none) [10],omk 4 11]
def WE:RC:=(So fF (So B9 .ret))
def NF:FnC:=⟨WE,12,[.tmp 4],[],[]⟩
def B8:List RI:=[omk 5 0,omk 6 1,oo 7 (Ca 204 [.t 5,.t 6]) [5,6],oo 8 (Ca 64 [ci 1,.t 7]) [7],omk 4 8]
def WD:RC:=(So fF (So B8 .ret))
def NE:FnC:=⟨WD,9,[.tmp 4],[],[]⟩
def B7:List RI:=[omk 9 0,oo 10 (.toInt .u8 (.t 9)) [9],omk 11 1,oo 12 (.toInt .u8 (.t 11)) [11],omk 13 2,oo 14 (.toInt .u8 (.t 13)) [13],oo 15 (.litB [.t 10,.t 12,.t 14]) [10,12,14],omk 16 3,oo 17 (.lit 1 [.t 15,.t 16]) [15,16],oo 18 (Ca 183 [ci 1,.t 17]) [17],oo 19 (.slcL 1 (.t 18) none (some (ci 16)) (some (ci 16))) [18],omk 8 19]
def WC:RC:=(So lE (So B7 .ret))
def ND:FnC:=⟨WC,20,[.tmp 8],[],[]⟩
def sF:List RI:=[om 3 0,oo 4 (.bin .shr (.t 3) (.c (.int .u64 24))) [3],oo 5 (.toInt .u8 (.t 4)) [4],om 6 0,oo 7 (.bin .shr (.t 6) (.c (.int .u64 16))) [6],oo 8 (.toInt .u8 (.t 7)) [7],om 9 0,oo 10 (.bin .shr (.t 9) (.c (.int .u64 8))) [9],oo 11 (.toInt .u8 (.t 10)) [10],omk 12 0,oo 13 (.toInt .u8 (.t 12)) [12],oo 14 (.litB [.t 5,.t 8,.t 11,.t 13]) [5,8,11,13],omk 2 14]
def WB:RC:=(So i6 (So sF .ret))
def NC:FnC:=⟨WB,15,[.tmp 2],[0],[]⟩
def B6:List RI:=[oo 2 (.box (.t 0)) [0],oo 4 (.mov (.c (.byt [] .clip))) [4]]
def B5:List RI:=[on 7 (Ld 2),oo 8 (Ln 7) [7],oo 9 (Bc .gtr 8 64) [8]]
def B4:List RI:=[on 10 (Ld 2),oo 11 (Ca 64 [ci 1,.t 10]) [10],Sr 1 2 11 [11]]
def B3:List RI:=[oo 12 (.mkfn 205 [] [.t 2]) [2],omk 5 12]
def B2:List RI:=[om 13 5,oo 14 (.call (.t 13) [(.c (.u8 54))]) [13],omk 15 1,oo 16 (.app [.u8 0] 1 (.t 14) (.t 15)) [14,15],oo 17 (Ca 64 [ci 1,.t 16]) [16],omk 6 17]
def B0:List RI:=[omk 18 5,oo 19 (.call (.t 18) [(.c (.u8 92))]) [18],omk 20 6,oo 21 (.app [.u8 0] 1 (.t 19) (.t 20)) [19,20],oo 22 (Ca 64 [ci 1,.t 21]) [21],omk 4 22]
def WA:RC:=(So B6 (Sq (So B5 (Kc 9 (Kk [9] (.ops B4)) (Kk [9] .skip))) (So B3 (So B2 (So B0 .ret)))))
def NB:FnC:=⟨WA,23,[.tmp 4],[],[]⟩
def Wz:RC:=(So fF (So sN .ret))
def NA:FnC:=⟨Wz,9,[.tmp 4],[],[]⟩
def Wy:RC:=(Kk [0] (So jU (So mO .ret)))
def Nz:FnC:=⟨Wy,3,[.tmp 2],[],[]⟩
def Wx:RC:=(Kk [0] (So jU (So sG .ret)))
def Ny:FnC:=⟨Wx,3,[.tmp 2],[],[]⟩
def BZ:List RI:=[omk 5 0,omk 6 1,oo 7 (Ca 206 [.t 5,.t 6]) [5,6],oo 8 (Ca 73 [.t 7]) [7],omk 4 8]
def Ww:RC:=(So fF (So BZ .ret))
def Nw:FnC:=⟨Ww,9,[.tmp 4],[],[]⟩
def Wv:RC:=(So i6 (So sF .ret))
def Nv:FnC:=⟨Wv,15,[.tmp 2],[0],[]⟩
def BY:List RI:=[om 9 0,oo 10 (Ln 9) [9],oo 11 (Bc .gtr 10 64) [10]]
def BX:List RI:=[omk 12 0,oo 13 (Ca 73 [.t 12]) [12],omk 0 13]
def BW:List FI:=[Fz 0 14 (.mkB (ci 64) (ci 64)),Fm 2 5 14,Fz 1 15 (.mkB (ci 64) (ci 64)),Fm 3 6 15]
def BV:List RI:=[om 16 7,oo 17 (Bc .lss 16 64) [16]]
def BU:List RI:=[on 8 (.mov (.c (.u8 0)))]
def BT:List RI:=[om 20 7,om 21 0,oo 22 (Ln 21) [21],oo 23 (Bb .lss 20 22) [20,22]]
def BS:List RI:=[om 24 0,om 25 7,oo 26 (Ia 1 24 25) [24,25],oo 27 (Ld 26) [26],omk 8 27]
def BR:List RI:=[om 28 5,om 29 7,om 30 6,om 31 7,om 32 8,oo 33 (.bin .xor (.t 32) (.c (.u8 54))) [32],omk 34 8,oo 35 (.bin .xor (.t 34) (.c (.u8 92))) [34],oo 36 (Ia 1 28 29) [28,29],Sr 1 36 33 [33,36],oo 37 (Ia 1 30 31) [30,31],Sr 1 37 35 [35,37]]
def tX:List RI:=[omk 18 7,oo 19 (Bc .add 18 1) [18],omk 7 19]
def oF:RC:=(Sq (So BV (Kc 17 (Kk [17] .skip) (Kk [0,7,17] (.exit 0)))) (Sq (Bk 1 (So BU (Sq (So BT (Kc 23 (Kk [8,23] (.ops BS)) (Kk [23] .skip))) (.ops BR)))) (.ops tX)))
def oh:RC:=oF
def tW:List RI:=[omk 38 6,omk 39 5,omk 40 1,.dir (.tok 39 139),oo 41 (.app [.u8 0] 1 (.t 39) (.t 40)) [39,40],oo 42 (Ca 73 [.t 41]) [41],.dir (.tok 38 138),oo 43 (.app [.u8 0] 1 (.t 38) (.t 42)) [38,42],oo 44 (Ca 73 [.t 43]) [43],omk 4 44]
def Wu:RC:=(So fF (Sq (So BY (Kc 11 (Kk [11] (.ops BX)) (Kk [11] .skip))) (Sq (.fla [0,0,1,7] [114,115] BW [[0,2,1,3],[1,0,2,3]] [14,15]) (Sq (So EA (Bk 0 (.loop oh))) (So tW .ret)))))
def Nu:FnC:=⟨Wu,45,[.tmp 4],[],[]⟩
def BQ:List RI:=[omk 9 0,oo 10 (.toInt .u8 (.t 9)) [9],oo 11 (.litB [.t 10]) [10],omk 5 11]
def BP:List RI:=[omk 12 1,on 13 (Ln 12),on 14 (Mc 0)]
def BO:List RI:=[on 16 (Ia 1 12 14),oo 17 (Ld 16) [16],omk 7 17]
def BN:List RI:=[om 18 7,oo 19 (Ln 18) [18],oo 20 (.toInt .u32 (.t 19)) [19],omk 8 20]
def BM:List RI:=[omk 21 5,om 22 8,oo 23 (.bin .shr (.t 22) (.c (.int .u64 24))) [22],oo 24 (.toInt .u8 (.t 23)) [23],om 25 8,oo 26 (.bin .shr (.t 25) (.c (.int .u64 16))) [25],oo 27 (.toInt .u8 (.t 26)) [26],om 28 8,oo 29 (.bin .shr (.t 28) (.c (.int .u64 8))) [28],oo 30 (.toInt .u8 (.t 29)) [29],omk 31 8,oo 32 (.toInt .u8 (.t 31)) [31],oo 33 (.litB [.t 24,.t 27,.t 30,.t 32]) [24,27,30,32],oo 34 (.app [.u8 0] 1 (.t 21) (.t 33)) [21,33],omk 5 34]
def BL:List RI:=[omk 35 5,omk 36 7,oo 37 (.app [.u8 0] 1 (.t 35) (.t 36)) [35,36],omk 5 37]
def BK:List RI:=[oo 38 (Bc .add 14 1) [14],omk 14 38]
def tn:RC:=(.post (So xn (Sq (Kc 15 (Kk [15] .skip) (Kk [12,13,14,15] (.exit 0))) (Sq (Bk 1 (So BO (So BN (So BM (.ops BL))))) (.ops BK)))) [.tok 5 105])
def sE:RC:=tn
def tV:List RI:=[omk 39 5,omk 4 39]
def Wt:RC:=(So fF (So BQ (Sq (So BP (Bk 0 (.pre [.tok 5 105] (.loop sE)))) (So tV .ret))))
def Nt:FnC:=⟨Wt,40,[.tmp 4],[],[]⟩
def BJ:List RI:=[on 6 (.mkB (ci 64) (ci 64)),omk 4 6]
def BI:List RI:=[om 7 4,oo 8 (Ld 1) [1],oo 9 (.cpy 1 (.t 7) (.t 8)) [7,8,9]]
def BH:List RI:=[on 10 (Mc 0)]
def BG:List RI:=[on 11 (Bc .lss 10 64)]
def BF:List RI:=[om 12 10,omk 5 12]
def BE:List RI:=[om 13 4,omk 14 5,on 15 (Ia 1 13 14),oo 16 (Ld 15) [15],om 17 0,oo 18 (Bb .xor 16 17) [16,17],oo 19 (Ia 1 13 14) [13,14],Sr 1 19 18 [18,19]]
def BD:List RI:=[oo 20 (Bc .add 10 1) [10],omk 10 20]
def tj:RC:=(So BG (Sq (Kc 11 (Kk [11] .skip) (Kk [0,10,11] (.exit 0))) (Sq (Bk 1 (So BF (.ops BE))) (.ops BD))))
def sD:RC:=tj
def BC:List RI:=[omk 21 4,omk 3 21]
def Ws:RC:=(So sH (So BJ (So BI (Sq (So BH (Bk 0 (.loop sD))) (So BC .ret)))))
def Ns:FnC:=⟨Ws,22,[.tmp 3],[0],[]⟩
def BB:List RI:=[omk 8 0,oo 9 (.toInt .u8 (.t 8)) [8],oo 10 (.litB [.t 9]) [9],omk 5 10]
def BA:List RI:=[om 11 6,om 12 1,oo 13 (Ln 12) [12],oo 14 (Bb .lss 11 13) [11,13]]
def Bz:List RI:=[om 17 1,om 18 6,oo 19 (Ia 1 17 18) [17,18],oo 20 (Ld 19) [19],oo 21 (Ln 20) [20],omk 7 21]
def By:List RI:=[omk 22 5,om 23 7,oo 24 (.bin .shr (.t 23) (.c (.int .u64 24))) [23],oo 25 (.toInt .u8 (.t 24)) [24],om 26 7,oo 27 (.bin .shr (.t 26) (.c (.int .u64 16))) [26],oo 28 (.toInt .u8 (.t 27)) [27],om 29 7,oo 30 (.bin .shr (.t 29) (.c (.int .u64 8))) [29],oo 31 (.toInt .u8 (.t 30)) [30],omk 32 7,oo 33 (.toInt .u8 (.t 32)) [32],oo 34 (.litB [.t 25,.t 28,.t 31,.t 33]) [25,28,31,33],oo 35 (.app [.u8 0] 1 (.t 22) (.t 34)) [22,34],omk 5 35]
def Bx:List RI:=[omk 36 5,om 37 1,om 38 6,oo 39 (Ia 1 37 38) [37,38],oo 40 (Ld 39) [39],oo 41 (.app [.u8 0] 1 (.t 36) (.t 40)) [36,40],omk 5 41]
def ti:RC:=(.post (Sq (So BA (Kc 14 (Kk [14] .skip) (Kk [1,6,14] (.exit 0)))) (Sq (Bk 1 (So Bz (So By (.ops Bx)))) (.ops sP))) [.tok 5 105])
def sC:RC:=ti
def Bw:List RI:=[omk 42 5,omk 4 42]
def Wr:RC:=(So fF (So BB (Sq (So lF (Bk 0 (.pre [.tok 5 105] (.loop sC)))) (So Bw .ret))))
def Nr:FnC:=⟨Wr,43,[.tmp 4],[],[]⟩
theorem Fk{g:Nat}{F:FnC}{fn:Func}(h1:prog.funcs[g]? =some fn)(h3:fn.ntmps=F.n:=by kernel_rfl)(h2:fn.body.map (bS prog)=some F.code.er:=by kernel_rfl)(h4:(mL prog fn.results.toList F.rs&&dx prog g&&F.code.ok F.n)=true:=by kernel_rfl):bG prog g F:=by simp only[aw]at h4;exact Hk h1 h2 h3 h4.1.1 h4.1.2 h4.2
noncomputable def V9:Nat->Option FnB
 |3=>some (.code F3)
 |4=>some (.code F4)
 |11=>some (.code F11)
 |12=>some (.code F12)
 |13=>some (.code F13)
 |14=>some (.code F14)
 |15=>some (.code F15)
 |16=>some (.code F16)
 |17=>some (.code F17)
 |18=>some (.code F18)
 |19=>some (.code F19)
 |20=>some (.code F20)
 |21=>some (.code F21)
 |22=>some (.code F22)
 |23=>some (.code F23)
 |24=>some (.code F24)
 |28=>some (.code F28)
 |34=>some (.code F34)
 |39=>some (.code F39)
 |40=>some (.code F40)
 |41=>some (.code F41)
 |42=>some (.code F42)
 |43=>some (.code F43)
 |44=>some (.code F44)
 |45=>some (.code F45)
 |46=>some (.code F46)
 |47=>some (.code F47)
 |48=>some (.code F48)
 |49=>some (.code F49)
 |50=>some (.code F50)
 |55=>some (.code F55)
 |56=>some (.code F56)
 |58=>some (.code F58)
 |61=>some (.code F61)
 |64=>some (.code F64)
 |73=>some (.code F73)
 |74=>some (.code F74)
 |75=>some (.code F75)
 |76=>some (.code F76)
 |77=>some (.code F77)
 |78=>some (.code F78)
 |79=>some (.code F79)
 |80=>some (.code F80)
 |86=>some (.code F86)
 |87=>some (.code F87)
 |88=>some (.code F88)
 |89=>some (.code F89)
 |90=>some (.code F90)
 |92=>some (.code F92)
 |94=>some (.code F94)
 |95=>some (.code F95)
 |104=>some (.code Od)
 |106=>some (.code Oc)
 |107=>some (.code Ob)
 |117=>some (.code Oa)
 |118=>some (.code N9)
 |119=>some (.code N8)
 |120=>some (.code N7)
 |121=>some (.code N6)
 |122=>some (.code N5)
 |123=>some (.code N4)
 |124=>some (.code N3)
 |125=>some (.code N2)
 |131=>some (.code N1)
 |132=>some (.code N0)
 |133=>some (.code NZ)
 |134=>some (.code NY)
 |135=>some (.code NX)
 |136=>some (.code NW)
 |137=>some (.code NV)
 |138=>some (.code NU)
 |139=>some (.code NT)
 |140=>some (.code NS)
 |141=>some (.code NR)
 |143=>some (.code NQ)
 |144=>some (.code NP)
 |145=>some (.code NO)
 |146=>some (.code NN)
 |147=>some (.code NM)
 |148=>some (.code NL)
 |149=>some (.code NK)
 |150=>some (.code NJ)
 |166=>some (.code NI)
 |167=>some (.code NH)
 |179=>some (.code NG)
 |180=>some (.code NF)
 |183=>some (.code NE)
 |184=>some (.code ND)
 |185=>some (.code NC)
 |186=>some (.code NB)
 |187=>some (.code NA)
 |188=>some (.code Nz)
 |189=>some (.code Ny)
 |190=>some (.code Nw)
 |191=>some (.code Nv)
 |192=>some (.code Nu)
 |204=>some (.code Nt)
 |205=>some (.code Ns)
 |206=>some (.code Nr)
 |102=>some (.prim Pr.p102)
 |112=>some (.prim Pr.p112)
 |164=>some (.prim Pr.p164)
 |177=>some (.prim Pr.p177)
 |_=>none
def XZ:Nat->Sig
 |_=> {}
noncomputable def T:eL:=⟨V9,XZ⟩
abbrev tf(k:Nat)(F:FnC):Prop:=T.fn k=some (.code F)
theorem T_3:tf 3 F3:=rfl
theorem T_4:tf 4 F4:=rfl
theorem Z3:tf 11 F11:=rfl
theorem Z2:tf 12 F12:=rfl
theorem Z1:tf 13 F13:=rfl
theorem Z0:tf 14 F14:=rfl
theorem ZZ:tf 15 F15:=rfl
theorem XF:tf 16 F16:=rfl
theorem XE:tf 17 F17:=rfl
theorem ZY:tf 18 F18:=rfl
theorem ZX:tf 19 F19:=rfl
theorem XD:tf 20 F20:=rfl
theorem RZ:tf 21 F21:=rfl
theorem RY:tf 22 F22:=rfl
theorem ZW:tf 23 F23:=rfl
theorem ZV:tf 24 F24:=rfl
theorem ZU:tf 28 F28:=rfl
theorem ZT:tf 34 F34:=rfl
theorem ZS:tf 39 F39:=rfl
theorem ZR:tf 40 F40:=rfl
theorem ZQ:tf 41 F41:=rfl
theorem ZP:tf 42 F42:=rfl
theorem ZO:tf 43 F43:=rfl
theorem ZN:tf 44 F44:=rfl
theorem ZM:tf 45 F45:=rfl
theorem ZL:tf 46 F46:=rfl
theorem ZK:tf 47 F47:=rfl
theorem ZJ:tf 48 F48:=rfl
theorem ZI:tf 49 F49:=rfl
theorem ZH:tf 50 F50:=rfl
theorem M3:tf 55 F55:=rfl
theorem XC:tf 56 F56:=rfl
theorem HX:tf 58 F58:=rfl
theorem ZG:tf 61 F61:=rfl
theorem ZF:tf 64 F64:=rfl
theorem ZE:tf 73 F73:=rfl
theorem ZD:tf 74 F74:=rfl
theorem ZC:tf 75 F75:=rfl
theorem ZB:tf 76 F76:=rfl
theorem ZA:tf 77 F77:=rfl
theorem Zz:tf 78 F78:=rfl
theorem Zy:tf 79 F79:=rfl
theorem Zx:tf 80 F80:=rfl
theorem XB:tf 86 F86:=rfl
theorem Zw:tf 87 F87:=rfl
theorem Zv:tf 88 F88:=rfl
theorem RX:tf 89 F89:=rfl
theorem XA:tf 90 F90:=rfl
theorem Zu:tf 92 F92:=rfl
theorem Zt:tf 94 F94:=rfl
theorem Zs:tf 95 F95:=rfl
theorem VD:tf 104 Od:=rfl
theorem VC:tf 106 Oc:=rfl
theorem VB:tf 107 Ob:=rfl
theorem VA:tf 117 Oa:=rfl
theorem Vz:tf 118 N9:=rfl
theorem Vy:tf 119 N8:=rfl
theorem Vx:tf 120 N7:=rfl
theorem Vw:tf 121 N6:=rfl
theorem Vv:tf 122 N5:=rfl
theorem Vu:tf 123 N4:=rfl
theorem Vt:tf 124 N3:=rfl
theorem Vs:tf 125 N2:=rfl
theorem Vr:tf 131 N1:=rfl
theorem Vq:tf 132 N0:=rfl
theorem Vp:tf 133 NZ:=rfl
theorem Vo:tf 134 NY:=rfl
theorem Fc:tf 135 NX:=rfl
theorem Vn:tf 136 NW:=rfl
theorem Vm:tf 137 NV:=rfl
theorem Vl:tf 138 NU:=rfl
theorem M7:tf 139 NT:=rfl
theorem M6:tf 140 NS:=rfl
theorem Vk:tf 141 NR:=rfl
theorem Vj:tf 143 NQ:=rfl
theorem Vi:tf 144 NP:=rfl
theorem Vh:tf 145 NO:=rfl
theorem Vg:tf 146 NN:=rfl
theorem Vf:tf 147 NM:=rfl
theorem Ve:tf 148 NL:=rfl
theorem Vd:tf 149 NK:=rfl
theorem Vc:tf 150 NJ:=rfl
theorem Vb:tf 166 NI:=rfl
theorem Va:tf 167 NH:=rfl
theorem U9:tf 179 NG:=rfl
theorem U8:tf 180 NF:=rfl
theorem M5:tf 183 NE:=rfl
theorem U7:tf 184 ND:=rfl
theorem U6:tf 185 NC:=rfl
theorem U5:tf 186 NB:=rfl
theorem U4:tf 187 NA:=rfl
theorem U3:tf 188 Nz:=rfl
theorem U2:tf 189 Ny:=rfl
theorem U1:tf 190 Nw:=rfl
theorem U0:tf 191 Nv:=rfl
theorem UZ:tf 192 Nu:=rfl
theorem M4:tf 204 Nt:=rfl
theorem UY:tf 205 Ns:=rfl
theorem UX:tf 206 Nr:=rfl
theorem xag:T.fn 102=some (.prim Pr.p102):=rfl
theorem xaf:T.fn 112=some (.prim Pr.p112):=rfl
theorem xae:T.fn 164=some (.prim Pr.p164):=rfl
theorem xad:T.fn 177=some (.prim Pr.p177):=rfl
theorem xak:T.sg 102= {}:=rfl
theorem xaj:T.sg 112= {}:=rfl
theorem xai:T.sg 164= {}:=rfl
theorem xah:T.sg 177= {}:=rfl
theorem S_3:T.sg 3= {}:=rfl
theorem S_4:T.sg 4= {}:=rfl
theorem vk:T.sg 11= {}:=rfl
theorem Np:T.sg 12= {}:=rfl
theorem XR:T.sg 13= {}:=rfl
theorem iA:T.sg 14= {}:=rfl
theorem R8:T.sg 15= {}:=rfl
theorem xV:T.sg 16= {}:=rfl
theorem Nd:T.sg 17= {}:=rfl
theorem R7:T.sg 18= {}:=rfl
theorem XQ:T.sg 19= {}:=rfl
theorem XP:T.sg 20= {}:=rfl
theorem Eo:T.sg 21= {}:=rfl
theorem xU:T.sg 22= {}:=rfl
theorem rV:T.sg 23= {}:=rfl
theorem xT:T.sg 24= {}:=rfl
theorem xab:T.sg 28= {}:=rfl
theorem xaa:T.sg 34= {}:=rfl
theorem qB:T.sg 39= {}:=rfl
theorem Z9:T.sg 40= {}:=rfl
theorem En:T.sg 41= {}:=rfl
theorem Em:T.sg 42= {}:=rfl
theorem H5:T.sg 43= {}:=rfl
theorem H4:T.sg 44= {}:=rfl
theorem Z8:T.sg 45= {}:=rfl
theorem H3:T.sg 46= {}:=rfl
theorem H2:T.sg 47= {}:=rfl
theorem H1:T.sg 48= {}:=rfl
theorem HZ:T.sg 49= {}:=rfl
theorem rU:T.sg 50= {}:=rfl
theorem XN:T.sg 55= {}:=rfl
theorem XM:T.sg 56= {}:=rfl
theorem S_58:T.sg 58= {}:=rfl
theorem XL:T.sg 61= {}:=rfl
theorem R6:T.sg 64= {}:=rfl
theorem R5:T.sg 73= {}:=rfl
theorem XK:T.sg 74= {}:=rfl
theorem M9:T.sg 75= {}:=rfl
theorem XJ:T.sg 76= {}:=rfl
theorem M8:T.sg 77= {}:=rfl
theorem XI:T.sg 78= {}:=rfl
theorem Z7:T.sg 79= {}:=rfl
theorem Z6:T.sg 80= {}:=rfl
theorem nR:T.sg 86= {}:=rfl
theorem R4:T.sg 87= {}:=rfl
theorem HY:T.sg 88= {}:=rfl
theorem R3:T.sg 89= {}:=rfl
theorem R2:T.sg 90= {}:=rfl
theorem Z5:T.sg 92= {}:=rfl
theorem XH:T.sg 94= {}:=rfl
theorem XG:T.sg 95= {}:=rfl
theorem V3:T.sg 104= {}:=rfl
theorem V2:T.sg 106= {}:=rfl
theorem V1:T.sg 107= {}:=rfl
theorem V0:T.sg 117= {}:=rfl
theorem VZ:T.sg 118= {}:=rfl
theorem VY:T.sg 119= {}:=rfl
theorem No:T.sg 120= {}:=rfl
theorem VX:T.sg 121= {}:=rfl
theorem VW:T.sg 122= {}:=rfl
theorem VV:T.sg 123= {}:=rfl
theorem VU:T.sg 124= {}:=rfl
theorem Nn:T.sg 125= {}:=rfl
theorem Fp:T.sg 131= {}:=rfl
theorem Nm:T.sg 132= {}:=rfl
theorem VT:T.sg 133= {}:=rfl
theorem Nl:T.sg 134= {}:=rfl
theorem Fo:T.sg 135= {}:=rfl
theorem VS:T.sg 136= {}:=rfl
theorem Nk:T.sg 137= {}:=rfl
theorem Nj:T.sg 138= {}:=rfl
theorem Fl:T.sg 139= {}:=rfl
theorem Fj:T.sg 140= {}:=rfl
theorem Fh:T.sg 141= {}:=rfl
theorem VR:T.sg 143= {}:=rfl
theorem VQ:T.sg 144= {}:=rfl
theorem Ni:T.sg 145= {}:=rfl
theorem VP:T.sg 146= {}:=rfl
theorem Nh:T.sg 147= {}:=rfl
theorem VO:T.sg 148= {}:=rfl
theorem Ng:T.sg 149= {}:=rfl
theorem Fg:T.sg 150= {}:=rfl
theorem VN:T.sg 166= {}:=rfl
theorem Nf:T.sg 167= {}:=rfl
theorem VM:T.sg 179= {}:=rfl
theorem VL:T.sg 180= {}:=rfl
theorem xK:T.sg 183= {}:=rfl
theorem Ff:T.sg 184= {}:=rfl
theorem Nc:T.sg 185= {}:=rfl
theorem VK:T.sg 186= {}:=rfl
theorem VJ:T.sg 187= {}:=rfl
theorem VI:T.sg 188= {}:=rfl
theorem Nb:T.sg 189= {}:=rfl
theorem Fe:T.sg 190= {}:=rfl
theorem VH:T.sg 191= {}:=rfl
theorem VG:T.sg 192= {}:=rfl
theorem Na:T.sg 204= {}:=rfl
theorem VF:T.sg 205= {}:=rfl
theorem VE:T.sg 206= {}:=rfl
theorem SR(c:CSt):run T jV c=run T xI c:=rfl
theorem SW(c:CSt):run T EO c=run T E9 c:=rfl
theorem SU(c:CSt):run T EN c=run T E8 c:=rfl
theorem SS(c:CSt):run T LG c=run T E7 c:=rfl
theorem Pe(c:CSt):run T jM c=run T tg c:=rfl
theorem Pd(c:CSt):run T jL c=run T te c:=rfl
theorem SQ(c:CSt):run T EG c=run T E6 c:=rfl
theorem Pc(c:CSt):run T sB c=run T td c:=rfl
theorem SP(c:CSt):run T EC c=run T E5 c:=rfl
theorem Pb(c:CSt):run T sA c=run T tc c:=rfl
theorem SO(c:CSt):run T JU c=run T E4 c:=rfl
theorem Pa(c:CSt):run T sx c=run T ta c:=rfl
theorem O9(c:CSt):run T AL c=run T s9 c:=rfl
theorem O8(c:CSt):run T AB c=run T s8 c:=rfl
theorem SN(c:CSt):run T Jt c=run T E3 c:=rfl
theorem O7(c:CSt):run T sw c=run T s7 c:=rfl
theorem O6(c:CSt):run T sr c=run T s6 c:=rfl
theorem O5(c:CSt):run T sn c=run T s5 c:=rfl
theorem O4(c:CSt):run T sj c=run T sZ c:=rfl
theorem O3(c:CSt):run T si c=run T sY c:=rfl
theorem SM(c:CSt):run T I6 c=run T E2 c:=rfl
theorem SL(c:CSt):run T I0 c=run T E1 c:=rfl
theorem O0(c:CSt):run T z6 c=run T sX c:=rfl
theorem SK(c:CSt):run T ID c=run T E0 c:=rfl
theorem OZ(c:CSt):run T sh c=run T sW c:=rfl
theorem Pu(c:CSt):run T sU c=run T tC c:=rfl
theorem Gy(c:CSt):run T ov c=run T oR c:=rfl
theorem Ps(c:CSt):run T sT c=run T tz c:=rfl
theorem Gx(c:CSt):run T ot c=run T oQ c:=rfl
theorem Gw(c:CSt):run T oq c=run T oP c:=rfl
theorem Gv(c:CSt):run T ol c=run T oO c:=rfl
theorem Pq(c:CSt):run T sS c=run T tx c:=rfl
theorem Gu(c:CSt):run T oj c=run T oN c:=rfl
theorem Pp(c:CSt):run T sQ c=run T tw c:=rfl
theorem Po(c:CSt):run T Df c=run T tv c:=rfl
theorem Pn(c:CSt):run T o6 c=run T tu c:=rfl
theorem Gt(c:CSt):run T um c=run T oM c:=rfl
theorem Gs(c:CSt):run T oi c=run T oL c:=rfl
theorem Gr(c:CSt):run T kb c=run T oK c:=rfl
theorem Gq(c:CSt):run T gx c=run T oJ c:=rfl
theorem Gp(c:CSt):run T ug c=run T oI c:=rfl
theorem Pm(c:CSt):run T CF c=run T tt c:=rfl
theorem Pk(c:CSt):run T Cy c=run T tq c:=rfl
theorem Gn(c:CSt):run T uc c=run T oH c:=rfl
theorem Pj(c:CSt):run T sI c=run T tp c:=rfl
theorem Gm(c:CSt):run T tZ c=run T oG c:=rfl
theorem Gl(c:CSt):run T oh c=run T oF c:=rfl
theorem Pi(c:CSt):run T sE c=run T tn c:=rfl
theorem Ph(c:CSt):run T sD c=run T tj c:=rfl
theorem Pg(c:CSt):run T sC c=run T ti c:=rfl
theorem Yj:bG prog 3 F3:=Fk func3
theorem Yi:bG prog 4 F4:=Fk func4
theorem TS:bG prog 11 F11:=Fk func11
theorem TR:bG prog 12 F12:=Fk func12
theorem TQ:bG prog 13 F13:=Fk func13
theorem TP:bG prog 14 F14:=Fk func14
theorem TO:bG prog 15 F15:=Fk func15
theorem TN:bG prog 16 F16:=Fk func16
theorem TL:bG prog 17 F17:=Fk func17
theorem TK:bG prog 18 F18:=Fk func18
theorem TJ:bG prog 19 F19:=Fk func19
theorem TI:bG prog 20 F20:=Fk func20
theorem TH:bG prog 21 F21:=Fk func21
theorem TG:bG prog 22 F22:=Fk func22
theorem TF:bG prog 23 F23:=Fk func23
theorem TE:bG prog 24 F24:=Fk func24
theorem TD:bG prog 28 F28:=Fk func28
theorem TC:bG prog 34 F34:=Fk func34
theorem TB:bG prog 39 F39:=Fk func39
theorem TA:bG prog 40 F40:=Fk func40
theorem Tz:bG prog 41 F41:=Fk func41
theorem Ty:bG prog 42 F42:=Fk func42
theorem Tx:bG prog 43 F43:=Fk func43
theorem Tw:bG prog 44 F44:=Fk func44
theorem Tv:bG prog 45 F45:=Fk func45
theorem Tu:bG prog 46 F46:=Fk func46
theorem Tt:bG prog 47 F47:=Fk func47
theorem Ts:bG prog 48 F48:=Fk func48
theorem Tq:bG prog 49 F49:=Fk func49
theorem Tp:bG prog 50 F50:=Fk func50
theorem To:bG prog 55 F55:=Fk func55
theorem Tn:bG prog 56 F56:=Fk func56
theorem Tm:bG prog 58 F58:=Fk func58
theorem Tl:bG prog 61 F61:=Fk func61
theorem Tk:bG prog 64 F64:=Fk func64
theorem Tj:bG prog 73 F73:=Fk func73
theorem Ti:bG prog 74 F74:=Fk func74
theorem Th:bG prog 75 F75:=Fk func75
theorem Tg:bG prog 76 F76:=Fk func76
theorem Tf:bG prog 77 F77:=Fk func77
theorem Te:bG prog 78 F78:=Fk func78
theorem Td:bG prog 79 F79:=Fk func79
theorem Tc:bG prog 80 F80:=Fk func80
theorem Tb:bG prog 86 F86:=Fk func86
theorem Ta:bG prog 87 F87:=Fk func87
theorem S9:bG prog 88 F88:=Fk func88
theorem S8:bG prog 89 F89:=Fk func89
theorem S7:bG prog 90 F90:=Fk func90
theorem S6:bG prog 92 F92:=Fk func92
theorem S5:bG prog 94 F94:=Fk func94
theorem S4:bG prog 95 F95:=Fk func95
theorem Qz:bG prog 104 Od:=Fk func104
theorem Qy:bG prog 106 Oc:=Fk func106
theorem Qx:bG prog 107 Ob:=Fk func107
theorem Qw:bG prog 117 Oa:=Fk func117
theorem Qv:bG prog 118 N9:=Fk func118
theorem Qu:bG prog 119 N8:=Fk func119
theorem Qt:bG prog 120 N7:=Fk func120
theorem Qs:bG prog 121 N6:=Fk func121
theorem Qr:bG prog 122 N5:=Fk func122
theorem Qq:bG prog 123 N4:=Fk func123
theorem Qp:bG prog 124 N3:=Fk func124
theorem Qo:bG prog 125 N2:=Fk func125
theorem Qn:bG prog 131 N1:=Fk func131
theorem Qm:bG prog 132 N0:=Fk func132
theorem Ql:bG prog 133 NZ:=Fk func133
theorem P9:bG prog 134 NY:=Fk func134
theorem P8:bG prog 135 NX:=Fk func135
theorem P7:bG prog 136 NW:=Fk func136
theorem P6:bG prog 137 NV:=Fk func137
theorem P5:bG prog 138 NU:=Fk func138
theorem P4:bG prog 139 NT:=Fk func139
theorem P3:bG prog 140 NS:=Fk func140
theorem PZ:bG prog 141 NR:=Fk func141
theorem PY:bG prog 143 NQ:=Fk func143
theorem PX:bG prog 144 NP:=Fk func144
theorem PW:bG prog 145 NO:=Fk func145
theorem PV:bG prog 146 NN:=Fk func146
theorem PU:bG prog 147 NM:=Fk func147
theorem PT:bG prog 148 NL:=Fk func148
theorem PS:bG prog 149 NK:=Fk func149
theorem PR:bG prog 150 NJ:=Fk func150
theorem PQ:bG prog 166 NI:=Fk func166
theorem PP:bG prog 167 NH:=Fk func167
theorem PO:bG prog 179 NG:=Fk func179
theorem PN:bG prog 180 NF:=Fk func180
theorem PM:bG prog 183 NE:=Fk func183
theorem PL:bG prog 184 ND:=Fk func184
theorem PK:bG prog 185 NC:=Fk func185
theorem PJ:bG prog 186 NB:=Fk func186
theorem PI:bG prog 187 NA:=Fk func187
theorem PH:bG prog 188 Nz:=Fk func188
theorem PG:bG prog 189 Ny:=Fk func189
theorem PF:bG prog 190 Nw:=Fk func190
theorem PE:bG prog 191 Nv:=Fk func191
theorem PD:bG prog 192 Nu:=Fk func192
theorem PC:bG prog 204 Nt:=Fk func204
theorem PB:bG prog 205 Ns:=Fk func205
theorem PA:bG prog 206 Nr:=Fk func206
set_option maxHeartbeats 4000000 in
theorem zO:lc prog T:=by
 intro g b h;simp only[T]at h;unfold V9 at h;split at h
 ·cases h;exact Yj
 ·cases h;exact Yi
 ·cases h;exact TS
 ·cases h;exact TR
 ·cases h;exact TQ
 ·cases h;exact TP
 ·cases h;exact TO
 ·cases h;exact TN
 ·cases h;exact TL
 ·cases h;exact TK
 ·cases h;exact TJ
 ·cases h;exact TI
 ·cases h;exact TH
 ·cases h;exact TG
 ·cases h;exact TF
 ·cases h;exact TE
 ·cases h;exact TD
 ·cases h;exact TC
 ·cases h;exact TB
 ·cases h;exact TA
 ·cases h;exact Tz
 ·cases h;exact Ty
 ·cases h;exact Tx
 ·cases h;exact Tw
 ·cases h;exact Tv
 ·cases h;exact Tu
 ·cases h;exact Tt
 ·cases h;exact Ts
 ·cases h;exact Tq
 ·cases h;exact Tp
 ·cases h;exact To
 ·cases h;exact Tn
 ·cases h;exact Tm
 ·cases h;exact Tl
 ·cases h;exact Tk
 ·cases h;exact Tj
 ·cases h;exact Ti
 ·cases h;exact Th
 ·cases h;exact Tg
 ·cases h;exact Tf
 ·cases h;exact Te
 ·cases h;exact Td
 ·cases h;exact Tc
 ·cases h;exact Tb
 ·cases h;exact Ta
 ·cases h;exact S9
 ·cases h;exact S8
 ·cases h;exact S7
 ·cases h;exact S6
 ·cases h;exact S5
 ·cases h;exact S4
 ·cases h;exact Qz
 ·cases h;exact Qy
 ·cases h;exact Qx
 ·cases h;exact Qw
 ·cases h;exact Qv
 ·cases h;exact Qu
 ·cases h;exact Qt
 ·cases h;exact Qs
 ·cases h;exact Qr
 ·cases h;exact Qq
 ·cases h;exact Qp
 ·cases h;exact Qo
 ·cases h;exact Qn
 ·cases h;exact Qm
 ·cases h;exact Ql
 ·cases h;exact P9
 ·cases h;exact P8
 ·cases h;exact P7
 ·cases h;exact P6
 ·cases h;exact P5
 ·cases h;exact P4
 ·cases h;exact P3
 ·cases h;exact PZ
 ·cases h;exact PY
 ·cases h;exact PX
 ·cases h;exact PW
 ·cases h;exact PV
 ·cases h;exact PU
 ·cases h;exact PT
 ·cases h;exact PS
 ·cases h;exact PR
 ·cases h;exact PQ
 ·cases h;exact PP
 ·cases h;exact PO
 ·cases h;exact PN
 ·cases h;exact PM
 ·cases h;exact PL
 ·cases h;exact PK
 ·cases h;exact PJ
 ·cases h;exact PI
 ·cases h;exact PH
 ·cases h;exact PG
 ·cases h;exact PF
 ·cases h;exact PE
 ·cases h;exact PD
 ·cases h;exact PC
 ·cases h;exact PB
 ·cases h;exact PA
 ·cases h;exact Pr.p102_ok
 ·cases h;exact Pr.p112_ok
 ·cases h;exact Pr.p164_ok
 ·cases h;exact Pr.p177_ok
 ·cases h
attribute [go_sem] SV.kclip Tok.kc Gi UW UV Zp gk o7 FQ xw ij List.all_replicate uL uK FS OO GB GD GC yS GE GH nn GG GF al.injEq Yg SF Uu QF QA rx vF vG QN Oy xD vI am cg c7 aY HR HS RH zp yY wq vx vy Tok.ids ji aK ai dj Int.natCast_nonneg Int.ofNat_lt Int.ofNat_le Int.ofNat_inj yA Ge yE Gg Gh Sc Fw Sd Ow Ov Oo Sk Sl Sh XS Fu Ft Sb Sm Oq Ok Ol Om Fv Sf xY xZ OA Oz Sg Se Ox Sj Ot Ou On Yf Ye Yh OV SG Rh YF YG YD YE YH Hh Ri Hl Gd yF vW Gf yC Rg vZ v7 yI yJ Rf GX Zk Zm Zl mn wu TV GR TX QL QK QG T6 T7 T1 Yk GN GL TT T8 QH QB QC QD GQ TZ yU yV QP QO T0 TY QM T4 QI QJ QE GP TU T5 Yl TW GO T9 T2 QQ HW xd mkE RN stC yb apS apB apL HU cpC cp2 cpB cpL OW Pw uM D2 uN uO jn jo DZ uQ uS ON FK Uv QS Ra QZ G6 y5 y4 wA G5 wC y6 G7 wB rB yW yX GS X3 X1 X2 FW OP UO UR UQ UP zE HM Yo Ym Yn GV QW yN SZ SX SY yM Gz zm wV wW UC UB Hm xy M1 MZ oY Ik M2 zP xj xk pe MQ lW mp km xG xF MY lenC M0 xA xB ph MJ xC xx o9 dD hJ qu gp gy RW kd cE evL CSt.purge rC r8 Es Ev kj xQ j0 iP lg dG eI psC Tok.readyC aA.wf SV.bare SV.bareL ix iy n9 io du bN de fk ft eE cQ lr dy m7 m9 j4 m6 iw gI yn vJ F8 yj yo ym vH qW F9 yk Gb yq vS q6 vP qZ yr vL vQ vO qX qY pw yu vM yw vR vK yv vN yi Ga yl EZ zy HJ HK Ho Hq Hr Hp HP yf FX F5 F2 F1 F0 FZ FY Rq Rj Ro Rp Rn Rm Rl Rk GK GJ GI Hd Hc G9 G8 Hb Ha HO RB dO CSt.publish jm jD kY SV.pub SV.pubL rk gcC mX FR nl jg eP fG tks k9 xO na cR EY qD fN iu SV.num jK gr toB rows pf fv gQ fo Tok.eat SV.one SV.data SV.isData SV.cells SV.isDef SV.purge SV.purgeL aA.purge bn bP Tok.purge SV.ren SV.renL aA.ren Tok.ren SV.ids SV.idsL SV.toks SV.toksL aA.ids aA.toks gw iO inR lD dZ id_eq aj ay bo aQ br cn ek beq_self_eq_true List.getD_cons_zero List.getD_cons_succ List.getD_nil List.take_succ_cons List.take_zero List.take_nil bK List.drop_succ_cons List.drop_nil aD b8 List.flatten_cons List.flatten_nil List.contains_nil List.contains_cons List.isEmpty_nil List.isEmpty_cons List.all_cons List.all_nil List.set_cons_zero List.set_cons_succ aV Option.getD_none bf Option.map_none Option.toList_some Option.toList_none ct Option.isNone_none Option.isNone_some Option.isSome_none Option.isSome_some Bool.or_false Bool.true_or Bool.or_true Bool.false_or Bool.and_self Bool.and_true Bool.true_and Bool.and_false Bool.false_and Bool.not_true Bool.not_false aF Bool.true_eq_false Bool.not_eq_true Bool.not_eq_false decide_eq_true_eq decide_eq_false_iff_not and_true true_and and_self or_false false_or or_true true_or not_true_eq_false not_false_eq_true ne_eq Int.toNat_natCast true_implies false_implies implies_true decide_true decide_false Nat.lt_irrefl Nat.not_lt_zero aP dB eq_self and_false false_and D1 mvC Xg MG QR T3 clA cl2 clC
attribute [go_sem] Fm Fs Fz Fi Ld Fa Ln Ia Mv Bb Bc Ca Pf Pt So Kk Kc Fy Fr Sr Lt Mc Mb Bk Sq Zq0 Zq1 xm xs xi ci om omk on oo RM Wq Bn Wp Wo Wn Wm Wk Wj Lc Lb La K9 K8 K7 K6 K5 K4 K3 K2 xI F3 SR r3 Wi Wh Wg Wf We Wc Wb Kh Kg Kf Ke Kd Kb Ka J9 J8 J7 J6 J5 J4 F4 r4 MD MC MB MA Mz My F11 r11 fF Mx Mw Mu F12 r12 i6 Mt Ms Mr F13 r13 xv Mq g9 Mp Mo Mn Mm F14 r14 EV Ml xu Mj Mi F15 r15 EU Mh Mg Mf Me Md ET ES F16 r16 Ma L9 F17 r17 ER L8 EP L7 L6 L5 L4 L3 E9 F18 SW r18 L2 L1 F19 r19 L0 LZ LY LX LW LV F20 r20 LU LS LR LQ LP LO LN LM Bv E8 F21 SU r21 LL LK lF LJ LI LH LF LD E7 F22 SS r22 EM EL EK LC EJ LB LA rj Lz EI Bu Bt mO tg F23 Pe r23 EH Ly Lx Lw Lv Bs Br te F24 Pd r24 Lu Ls Lr Lq F28 r28 Lp Lo Lm Ll Lk Lj Li Lh Lg Lf Bq Bp Bo F34 r34 Le F39 r39 o5 K1 K0 KZ KY KX KW KV KU E6 F40 SQ r40 EF KT F41 r41 KS KR KQ KP KO KN Bm Bl Bj Bi Bh Bg Bf Be Bd Ba td F42 Pc r42 KM kX KL KK KJ KI KH A9 A8 F43 r43 jU KG EE ED F44 r44 KF KE KD KC KB KA Kz Ky E5 F45 SP r45 Kx F46 r46 Kw Kv Ku Kt Ks Kr Kq A7 A6 A5 A4 tc F47 Pb r47 Kp Ko Kn Km Kj F48 r48 Ki F49 r49 J3 J2 F50 r50 lE J1 xq J0 JZ JY JX JW JV A3 E4 F55 SO r55 JT JS F56 r56 JR JQ ri JP JO JN JM JL A2 A1 AZ AY AX AW AV ta F58 Pa r58 JK JJ JI JH JG JF JE JD JC JB AU AT AS AR AQ AP AO AN AM AK AJ AI AH AG AF AE AD AC AA Az Ay s9 s8 F61 O9 O8 r61 JA Jz Jy Jx Jw Jv Ju Js Ax Aw Av At As Ar Aq E3 s7 F64 SN O7 r64 Jr Jq Jp Jo Jn Jm Jl Jk Ap Ao An Am Al Ak Aj Ai Ah Ag Af Ae Ad sk Ac Ab Aa z8 z7 s6 s5 sZ sY F73 O6 O5 O4 O3 r73 Jj F74 r74 Ji Jh Jg Jf F75 r75 EB F76 r76 Je Jd Jc F77 r77 F78 r78 Jb Ja I9 I8 I7 I5 E2 F79 SM r79 rh xp I4 EA I3 I2 I1 IZ E1 F80 SL r80 xo IY F86 r86 IX IW Ez IV IU IT F87 r87 IS F88 r88 IR IQ IP Ey IN IM IL IK IJ zZ sX F89 O0 r89 II IH xn IG IF IE IC E0 F90 SK r90 IB F92 r92 IA Iz Iy Ix Iw Iv F94 r94 Iu It Is Ir Iq Ip Io In zY zX zW zV sW F95 OZ r95 DW DV DU DT DS DR DQ DP ou tC oR Od Pu Gy Xe DO DN DM DL DK DJ tz Oc Ps Xd DI DH DG DF DE DD DC DB DA uH uG uF uE uD uC uB uA uz uy ux uw uv uu ut oQ oP oO Ob Gx Gw Gv Xc Dz Dy Oa Xb Dx Dw Dv Du Dt Ds Dr Dq ur tx oN N9 Pq Gu Xa mP sR N8 W9 Dp N7 W8 Do Dn Dm Dl tw N6 Pp W7 Dj N5 W6 Di Dh Dg De tv N4 Po W5 Dd N3 W4 Dc Db Da C9 sP C8 tu N2 Pn W1 C7 N1 W0 sO C6 C5 C4 C3 C2 C1 C0 uq uo ul uk oM oL N0 Gt Gs WZ sN NZ WY CZ NY WX sM CY CX CW CV CU CT CS CR uj ui uh oK oJ NX Gr Gq WW NW WV sL sK NV WU sJ CQ CP CO CN CM CL CK uf oI NU Gp WT CJ CI CH CG CE tt NT Pm WS CD CC CB CA Cz ue ud ua tq oH NS Pk Gn WR Cx Cw Cv Cu NR WQ Ct Cs Cr Cq Cp Co tp NQ Pj WP Cn NP WO Cm Cl Ck Cj Ci Ch tY oG NO Gm WN sH Cg NN WM Cf NM WL NL WK sG NK WJ Ce NJ WI NI WH Cd Cc NH WG Cb NG WF B9 NF WE B8 NE WD B7 ND WC sF NC WB B6 B5 B4 B3 B2 B0 NB WA NA Wz Nz Wy Ny Wx BZ Nw Ww Nv Wv BY BX BW BV BU BT BS BR tX tW oF Nu Gl Wu BQ BP BO BN BM BL BK tV tn Nt Pi Wt BJ BI BH BG BF BE BD BC tj Ns Ph Ws BB BA Bz By Bx Bw ti Nr Pg Wr
end Go.Proofs.YtkggincjigbelaaGreatDoor