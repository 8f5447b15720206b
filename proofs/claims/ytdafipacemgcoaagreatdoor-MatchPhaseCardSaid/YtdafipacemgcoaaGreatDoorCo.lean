/- The resolved code of the functions of this seat, with directions, checked by the kernel. No condition. -/
import Derived.Test.YtdafipacemgcoaaGreatDoorProg
import Derived.Test.YtdafipacemgcoaaGreatDoorVa
import Derived.KernelRfl
set_option maxRecDepth 100000
set_option linter.unusedVariables false
namespace Go.Proofs.YtdafipacemgcoaaGreatDoor
open Go.Sy
abbrev xm (d s:Nat):SI:=⟨some d,none,.mov (.t s)⟩
abbrev xs (d:Nat) (o:SOp):SI:=⟨some d,none,o⟩
abbrev xi (d g:Nat) (b:Bool) (o:SOp):SI:=⟨some d,some (g,b),o⟩
abbrev om (d s:Nat):RI:= .op (xm d s) []
abbrev omk (d s:Nat):RI:= .op (xm d s) [s]
abbrev on (d:Nat) (o:SOp):RI:= .op (xs d o) []
abbrev oo (d:Nat) (o:SOp) (k:List Nat):RI:= .op (xs d o) k
abbrev ci (n:Int):Arg:= .c (.int .i64 n)
abbrev Fm (n d s:Nat):FI:=⟨n,true,xm d s⟩
abbrev Fs (n d:Nat) (o:SOp):FI:=⟨n,true,xs d o⟩
abbrev Fz (n d:Nat) (o:SOp):FI:=⟨n,false,xs d o⟩
abbrev Fi (n d g:Nat) (b:Bool) (o:SOp):FI:=⟨n,true,xi d g b o⟩
abbrev Ld (s:Nat):SOp:= .load 1 false (.t s)
abbrev Fa (n s:Nat):SOp:= .faddr n (.t s)
abbrev Ln (s:Nat):SOp:= .len false (.t s)
abbrev Ia (n a b:Nat):SOp:= .iaddrL n (.t a) (.t b)
abbrev Mv (s:Nat):SOp:= .mov (.t s)
abbrev Bb (o:BinOp) (a b:Nat):SOp:= .bin o (.t a) (.t b)
abbrev Bc (o:BinOp) (a:Nat) (n:Int):SOp:= .bin o (.t a) (ci n)
abbrev Ca (f:Nat) (l:List Arg):SOp:= .call (.f f) l
abbrev Pf (a b:Nat):SOp:= .pick (.t a) (.t b) (.c (.bool false))
abbrev Pt (a b:Nat):SOp:= .pick (.t a) (.c (.bool true)) (.t b)
abbrev So (l:List RI) (x:RC):RC:= .seq (.ops l) x
abbrev Kk (l:List Nat) (x:RC):RC:= .pre [.kill l] x
abbrev Kc (n:Nat) (x y:RC):RC:= .cond (.t n) x y
abbrev Zq0:List SV:=[.int .i64 0,.int .i64 0,.lst 1 [] .clip,.byt [] .clip]
abbrev Zq1:List SV:=[.int .i64 0,.str [],.int .i64 0,.byt [] .clip]
abbrev Zq2:List SV:=[.int .i64 0,.int .i64 0,.lst 4 [] .clip]
abbrev Zq3:List SV:=[.str [],.int .i64 0,.int .i64 0,.int .i64 0,.int .i64 0,.lst 4 [] .clip,.lst 4 [] .clip]
def cs0:List UInt8:=[0,1,2,2,3,3,3,3,4,4,4,4,4,4,4,4,5,5,5,5,5,5,5,5,5,5,5,5,5,5,5,5,6,6,6,6,6,6,6,6,6,6,6,6,6,6,6,6,6,6,6,6,6,6,6,6,6,6,6,6,6,6,6,6,7,7,7,7,7,7,7,7,7,7,7,7,7,7,7,7,7,7,7,7,7,7,7,7,7,7,7,7,7,7,7,7,7,7,7,7,7,7,7,7,7,7,7,7,7,7,7,7,7,7,7,7,7,7,7,7,7,7,7,7,7,7,7,7,8,8,8,8,8,8,8,8,8,8,8,8,8,8,8,8,8,8,8,8,8,8,8,8,8,8,8,8,8,8,8,8,8,8,8,8,8,8,8,8,8,8,8,8,8,8,8,8,8,8,8,8,8,8,8,8,8,8,8,8,8,8,8,8,8,8,8,8,8,8,8,8,8,8,8,8,8,8,8,8,8,8,8,8,8,8,8,8,8,8,8,8,8,8,8,8,8,8,8,8,8,8,8,8,8,8,8,8,8,8,8,8,8,8,8,8,8,8,8,8,8,8,8,8,8,8,8,8]
def cs1:List UInt8:=[48,49,50,51,52,53,54,55,56,57,97,98,99,100,101,102,103,104,105,106,107,108,109,110,111,112,113,114,115,116,117,118,119,120,121,122]
def cs2:List UInt8:=[48,48,48,49,48,50,48,51,48,52,48,53,48,54,48,55,48,56,48,57,49,48,49,49,49,50,49,51,49,52,49,53,49,54,49,55,49,56,49,57,50,48,50,49,50,50,50,51,50,52,50,53,50,54,50,55,50,56,50,57,51,48,51,49,51,50,51,51,51,52,51,53,51,54,51,55,51,56,51,57,52,48,52,49,52,50,52,51,52,52,52,53,52,54,52,55,52,56,52,57,53,48,53,49,53,50,53,51,53,52,53,53,53,54,53,55,53,56,53,57,54,48,54,49,54,50,54,51,54,52,54,53,54,54,54,55,54,56,54,57,55,48,55,49,55,50,55,51,55,52,55,53,55,54,55,55,55,56,55,57,56,48,56,49,56,50,56,51,56,52,56,53,56,54,56,55,56,56,56,57,57,48,57,49,57,50,57,51,57,52,57,53,57,54,57,55,57,56,57,57]
def gtab0:List SV:=[.int .i64 (-1),.int .i64 0,.int .i64 4,.int .i64 8,.int .i64 9]
def gtab2:List SV:=[.int .u32 1116352408,.int .u32 1899447441,.int .u32 3049323471,.int .u32 3921009573,.int .u32 961987163,.int .u32 1508970993,.int .u32 2453635748,.int .u32 2870763221,.int .u32 3624381080,.int .u32 310598401,.int .u32 607225278,.int .u32 1426881987,.int .u32 1925078388,.int .u32 2162078206,.int .u32 2614888103,.int .u32 3248222580,.int .u32 3835390401,.int .u32 4022224774,.int .u32 264347078,.int .u32 604807628,.int .u32 770255983,.int .u32 1249150122,.int .u32 1555081692,.int .u32 1996064986,.int .u32 2554220882,.int .u32 2821834349,.int .u32 2952996808,.int .u32 3210313671,.int .u32 3336571891,.int .u32 3584528711,.int .u32 113926993,.int .u32 338241895,.int .u32 666307205,.int .u32 773529912,.int .u32 1294757372,.int .u32 1396182291,.int .u32 1695183700,.int .u32 1986661051,.int .u32 2177026350,.int .u32 2456956037,.int .u32 2730485921,.int .u32 2820302411,.int .u32 3259730800,.int .u32 3345764771,.int .u32 3516065817,.int .u32 3600352804,.int .u32 4094571909,.int .u32 275423344,.int .u32 430227734,.int .u32 506948616,.int .u32 659060556,.int .u32 883997877,.int .u32 958139571,.int .u32 1322822218,.int .u32 1537002063,.int .u32 1747873779,.int .u32 1955562222,.int .u32 2024104815,.int .u32 2227730452,.int .u32 2361852424,.int .u32 2428436474,.int .u32 2756734187,.int .u32 3204031479,.int .u32 3329325298]
def gtab3:List SV:=[.int .u64 1,.int .u64 10,.int .u64 100,.int .u64 1000,.int .u64 10000,.int .u64 100000,.int .u64 1000000,.int .u64 10000000,.int .u64 100000000,.int .u64 1000000000,.int .u64 10000000000,.int .u64 100000000000,.int .u64 1000000000000,.int .u64 10000000000000,.int .u64 100000000000000,.int .u64 1000000000000000,.int .u64 10000000000000000,.int .u64 100000000000000000,.int .u64 1000000000000000000,.int .u64 10000000000000000000]
instance:LaidData:=⟨fun
 |0=>some gtab0
 |2=>some gtab2
 |3=>some gtab3
 |_=>none⟩
def r8_0:List RI:=[oo 6 (.mov (.c (.bool false))) [6]]
def r8_1:List RI:=[on 15 (Ca 10 []),oo 16 (.un .not (.t 15)) [15]]
def r8_2:List RI:=[on 6 (.mov (.c (.bool false)))]
def r8_3:List RI:=[omk 18 0,omk 19 1,omk 20 2,oo 21 (Ca 11 [.t 18,.t 19,(.c (.byt [] .clip)),.t 20]) [18,19,20],omk 17 21,on 22 (.ext (.t 17) 0),oo 23 (.ext (.t 17) 1) [17],on 7 (.new (.rc Zq2)),.op ⟨none,none,.store 3 (.t 7) (.t 22)⟩ [22],.op (xm 8 23) [8,23]]
def r8_4:List RI:=[on 25 (.load 3 true (.t 7)),oo 26 (Ca 27 [.t 25]) [25],omk 24 26,on 27 (.ext (.t 24) 0),on 28 (.ext (.t 24) 1),oo 29 (.ext (.t 24) 2) [24],omk 9 27,omk 10 28,omk 11 29]
def r8_5:List RI:=[oo 31 (.load 3 true (.t 7)) [7],oo 32 (Ca 28 [.t 31]) [31],omk 30 32,on 33 (.ext (.t 30) 0),on 34 (.ext (.t 30) 1),oo 35 (.ext (.t 30) 2) [30],omk 12 33,omk 13 34,omk 14 35]
def r8_6:List RI:=[omk 36 9,omk 37 12,oo 38 (Bb .eql 36 37) [36,37],omk 39 38,.grp 39 true [(xi 40 39 true (Mv 10)),(xi 41 39 true (Mv 13)),(xi 42 39 true (Bb .eql 40 41))] [10,13,40,41],oo 43 (Pf 39 42) [39,42],omk 44 43,.grp 44 true [(xi 45 44 true (Mv 11)),(xi 46 44 true (Mv 14)),(xi 47 44 true (Bb .eql 45 46))] [11,14,45,46],oo 48 (Pf 44 47) [44,47],omk 6 48]
def r8:RC:=(So r8_0 (.seq (So r8_1 (Kc 16 (Kk [0,1,2,16] (So r8_2 .ret)) (Kk [16] .skip))) (So r8_3 (So r8_4 (So r8_5 (So r8_6 .ret))))))
def F8:FnC:=⟨r8,49,[.tmp 6],[],[]⟩
def r10_0:List RI:=[oo 0 (.mov (.c (.bool false))) [0]]
def r10_1:List RI:=[on 10 (.build Zq1 [(0,1,(ci 1)),(1,1,(.c (.str [102])))]),on 11 (.build Zq1 [(0,1,(ci 3)),(1,1,(.c (.str [107])))]),oo 12 (.lit 4 [.t 10,.t 11]) [10,11],omk 1 12]
def r10_2:List RI:=[om 13 1,oo 14 (Ca 31 [.t 13,ci 2]) [13],oo 15 (.build Zq2 [(0,1,(ci 2)),(2,1,(.t 14))]) [14],on 2 (.new (.rc Zq2)),.op ⟨none,none,.store 3 (.t 2) (.t 15)⟩ [15]]
def r10_3:List RI:=[omk 16 1,oo 17 (Ca 34 [(.c (.str [118])),ci 1,.t 16]) [16],on 3 (.new (.rc Zq3)),.op ⟨none,none,.store 7 (.t 3) (.t 17)⟩ [17]]
def r10_4:List RI:=[on 19 (.load 3 true (.t 2)),on 20 (.load 7 true (.t 3)),oo 21 (.lit 7 [.t 20]) [20],oo 22 (Ca 12 [.t 19,.t 21]) [19,21],omk 18 22,on 23 (.ext (.t 18) 0),on 24 (.ext (.t 18) 1),oo 25 (.ext (.t 18) 2) [18],omk 4 23,omk 5 24,omk 6 25]
def r10_5:List RI:=[on 27 (.load 3 true (.t 2)),oo 28 (Ca 12 [.t 27,(.c (.lst 7 [] .clip))]) [27],omk 26 28,on 29 (.ext (.t 26) 0),on 30 (.ext (.t 26) 1),oo 31 (.ext (.t 26) 2) [26],.op (xm 7 29) [7,29],omk 8 30,omk 9 31]
def r10_6:List RI:=[omk 32 6,oo 33 (Bc .eql 32 0) [32],omk 34 33,.grp 34 true [(xi 35 34 true (Mv 5)),(xi 36 34 true (Bc .eql 35 10))] [5,35],oo 37 (Pf 34 36) [34,36],omk 38 37,.grp 38 true [(xi 39 38 true (Mv 4)),(xi 40 38 true (Ln 39)),(xi 41 38 true (Bc .eql 40 10))] [39,40],oo 42 (Pf 38 41) [38,41],omk 43 42,.grp 43 true [(xi 44 43 true (Mv 4)),(xi 45 43 true (.iaddrL 2 (.t 44) (ci 9))),(xi 46 43 true (.load 2 true (.t 45))),(xi 47 43 true (.build [.int .i64 0,.int .i64 0] [(0,1,(ci 0)),(1,1,(ci 1))])),(xi 48 43 true (.eqS false [1,1] (.t 46) (.t 47)))] [44,45,46,47],oo 49 (Pf 43 48) [43,48],omk 50 49,.grp 50 true [(xi 51 50 true (Mv 9)),(xi 52 50 true (Bc .eql 51 47))] [9,51],oo 53 (Pf 50 52) [50,52],omk 54 53,.grp 54 true [(xi 55 54 true (Mv 8)),(xi 56 54 true (Bc .eql 55 0))] [8,55],oo 57 (Pf 54 56) [54,56],omk 58 57,.grp 58 true [(xi 59 58 true (.load 3 true (.t 2))),(xi 60 58 true (.load 7 true (.t 3))),(xi 61 58 true (.lit 7 [.t 60])),(xi 62 58 true (Mv 4)),(xi 63 58 true (Ca 16 [.t 59,.t 61,.t 62]))] [2,59,60,61,62],oo 64 (Pf 58 63) [58,63],omk 65 64,.grp 65 true [(xi 66 65 true (.load 7 true (.t 3))),(xi 67 65 true (.lit 7 [.t 66])),(xi 68 65 true (Mv 4)),(xi 69 65 true (Ca 21 [.t 67,.t 68])),(xi 70 65 true (Ln 69)),(xi 71 65 true (Bc .eql 70 1))] [3,4,66,67,68,69,70],oo 72 (Pf 65 71) [65,71],omk 0 72]
def r10:RC:=(So r10_0 (So r10_1 (So r10_2 (So r10_3 (So r10_4 (So r10_5 (So r10_6 .ret)))))))
def F10:FnC:=⟨r10,73,[.tmp 0],[],[]⟩
def r11_0:List RI:=[on 8 (.new (.rc Zq2)),oo 9 (.mov (.c (.lst 7 [] .clip))) [9]]
def r11_1:List RI:=[omk 15 1,oo 16 (Ca 24 [.t 15]) [15],omk 10 16]
def r11_2:List RI:=[om 17 0,oo 18 (Ca 35 [.t 17,ci 200]) [17],omk 11 18]
def r11_3:List RI:=[omk 19 0,omk 20 3,oo 21 (Ca 29 [.t 20]) [20],oo 22 (Ca 36 [.t 19,.t 21,ci 0]) [19,21],on 12 (.new (.rc Zq2)),.op ⟨none,none,.store 3 (.t 12) (.t 22)⟩ [22]]
def r11_4:List RI:=[om 23 11,oo 24 (Ca 37 [.t 23,ci 2]) [23],oo 25 (Bc .eql 24 0) [24]]
def r11_5:List FI:=[Fs 0 26 (Fa 0 12),Fs 1 27 (Ld 26),Fm 2 28 10,Fs 3 29 (Fa 0 12),Fs 4 30 (Ld 29),Fz 5 31 (Ca 31 [.t 28,.t 30]),Fs 6 32 (.build Zq2 [(0,1,(.t 27)),(2,1,(.t 31))]),⟨7,false,⟨none,none,.store 3 (.t 12) (.t 32)⟩⟩]
def r11_6:List RI:=[om 33 11,oo 34 (Ca 37 [.t 33,ci 3]) [33],omk 13 34]
def r11_7:List RI:=[om 35 13,oo 36 (Bc .gtr 35 0) [35]]
def r11_8:List RI:=[om 39 11,on 40 (Fa 2 12),oo 41 (Ld 40) [40],oo 42 (Ln 41) [41],oo 43 (Bc .add 42 1) [42],oo 44 (Ca 37 [.t 39,.t 43]) [39,43],omk 14 44]
def r11_9:List FI:=[Fs 0 45 (.lit 4 []),Fs 1 46 (Fa 2 12),Fs 2 47 (Ld 46),Fm 3 48 14,Fs 4 49 (.slcL 4 (.t 47) none (some (.t 48)) none),Fm 6 51 11,Fs 7 52 (Fa 0 12),Fs 8 53 (Ld 52),Fs 12 57 (Fa 2 12),Fs 13 58 (Ld 57),Fm 14 59 14,Fs 15 60 (.slcL 4 (.t 58) (some (.t 59)) none none),Fz 5 50 (.app Zq0 64 (.t 45) (.t 49)),Fz 9 54 (Ca 38 [.t 51,.t 53]),Fs 10 55 (.lit 4 [.t 54]),Fz 11 56 (.app Zq0 64 (.t 50) (.t 55)),Fz 16 61 (.app Zq0 64 (.t 56) (.t 60)),Fs 17 62 (Fa 2 12),⟨18,false,⟨none,none,.store 1 (.t 62) (.t 61)⟩⟩]
def r11_10:List RI:=[omk 37 13,oo 38 (Bc .sub 37 1) [37],omk 13 38]
def b11_11:RC:=(.post (.seq (So r11_7 (Kc 36 (Kk [36] .skip) (Kk [11,13,36] (.exit 0)))) (.seq (.block 1 (So r11_8 (.flt [0,0,2,0,14,31,0,0,128,511,1023,2047,0,4096,0,28672,65535,131071,262143] [150,156,161] r11_9 [14,45,46,47,48,49,50,51,52,53,54,55,56,57,58,59,60,61,62]))) (.ops r11_10))) [.gc [150,156,161]])
def r11_11:RC:=b11_11
def r11_12:List FI:=[Fs 0 63 (.load 3 true (.t 12)),Fm 1 64 2,Fm 2 65 10,Fz 3 66 (Ca 23 [.t 64,.t 65]),⟨4,false,⟨none,none,.store 3 (.t 8) (.t 63)⟩⟩,Fm 5 9 66]
def r11:RC:=(So r11_0 (So r11_1 (So r11_2 (So r11_3 (.seq (So r11_4 (Kc 25 (Kk [25] (.seq (.flt [0,1,0,0,8,28,63,127] [] r11_5 [26,27,28,29,30,31,32]) (So r11_6 (.block 0 (.loop r11_11))))) (Kk [11,25] .skip))) (.seq (.flt [0,0,0,6,15,31] [] r11_12 [2,10,12,63,64,65,66]) .ret))))))
def F11:FnC:=⟨r11,67,[.cell 8 3 true,.tmp 9],[],[]⟩
def r12_0:List RI:=[oo 2 (.box (.t 0)) [0],on 4 (.mov (.c (.lst 2 [] .clip))),oo 5 (.mov (ci 0)) [5],oo 6 (.mov (ci 0)) [6]]
def r12_1:List RI:=[on 7 (.new (.rc [.int .i64 0,.int .i64 0,.bool false,.bool false,.bool false,.bool false,.bool false,.bool false]))]
def r12_2:List RI:=[on 12 (Fa 2 2),oo 13 (Ld 12) [12],on 14 (Ln 13),on 15 (.mov (ci 0))]
def r12_3:List RI:=[on 16 (Bb .lss 15 14)]
def r12_4:List RI:=[om 17 15,on 18 (Ia 4 13 15),oo 19 (.load 4 true (.t 18)) [18],on 9 (.new (.rc Zq0)),omk 8 17,.op ⟨none,none,.store 4 (.t 9) (.t 19)⟩ [19]]
def r12_5:List RI:=[on 20 (.load 4 true (.t 9)),oo 21 (Ca 39 [.t 7,.t 20]) [20],oo 22 (.un .not (.t 21)) [21]]
def r12_6:List RI:=[omk 23 4,omk 24 8,omk 4 23,omk 5 24,on 6 (.mov (ci 41))]
def r12_7:List RI:=[oo 26 (.load 4 true (.t 9)) [9],om 27 1,oo 28 (Ca 40 [.t 26,.t 27]) [26,27],omk 25 28,on 29 (.ext (.t 25) 0),oo 30 (.ext (.t 25) 1) [25],on 10 (.new (.rc [.int .i64 0,.int .i64 0])),.op ⟨none,none,.store 2 (.t 10) (.t 29)⟩ [29],omk 11 30]
def r12_8:List RI:=[omk 31 11,oo 32 (.un .not (.t 31)) [31]]
def r12_9:List RI:=[omk 33 4,omk 34 8,omk 4 33,omk 5 34,on 6 (.mov (ci 47))]
def r12_10:List RI:=[omk 35 4,oo 36 (.load 2 true (.t 10)) [10],oo 37 (.lit 2 [.t 36]) [36],oo 38 (.app [.int .i64 0,.int .i64 0] 16 (.t 35) (.t 37)) [35,37],omk 4 38]
def r12_11:List RI:=[oo 39 (Bc .add 15 1) [15],omk 15 39]
def b12_12:RC:=(.post (So r12_3 (.seq (Kc 16 (Kk [16] .skip) (Kk [1,13,14,15,16] (.exit 0))) (.seq (.block 1 (So r12_4 (.seq (So r12_5 (Kc 22 (Kk [1,2,7,9,13,14,15,22] (So r12_6 .ret)) (Kk [22] .skip))) (So r12_7 (.seq (So r12_8 (Kc 32 (Kk [1,2,7,10,13,14,15,32] (So r12_9 .ret)) (Kk [8,32] .skip))) (.ops r12_10)))))) (.ops r12_11)))) [.gc [109,110],.tok 4 104])
def r12_12:RC:=b12_12
def r12_13:List RI:=[oo 40 (Fa 2 7) [7],oo 41 (.iaddrA 6 1 (.t 40) (ci 4)) [40],oo 42 (Ld 41) [41],oo 43 (.un .not (.t 42)) [42]]
def r12_14:List FI:=[Fm 0 44 4,Fs 1 45 (Fa 2 2),Fs 2 46 (Ld 45),Fs 3 47 (Ln 46),⟨4,false,(xm 4 44)⟩,Fm 5 5 47,Fs 6 6 (.mov (ci 40))]
def r12_15:List FI:=[Fm 0 48 4,Fs 1 49 (Fa 2 2),Fs 2 50 (Ld 49),Fs 3 51 (Ln 50),⟨4,false,(xm 4 48)⟩,Fm 5 5 51,Fs 6 6 (.mov (ci 0))]
def r12:RC:=(So r12_0 (So r12_1 (.seq (So r12_2 (.block 0 (.pre [.tok 4 104] (.loop r12_12)))) (.seq (So r12_13 (Kc 43 (Kk [43] (.seq (.flt [0,0,2,6,1,31,63] [] r12_14 [2,44,45,46,47]) .ret)) (Kk [43] .skip))) (.seq (.flt [0,0,2,6,1,31,63] [] r12_15 [2,48,49,50,51]) .ret)))))
def F12:FnC:=⟨r12,52,[.tmp 4,.tmp 5,.tmp 6],[],[]⟩
def r15_0:List RI:=[oo 2 (.box (.t 0)) [0],oo 3 (.box (.t 1)) [1],oo 4 (.mov (ci 0)) [4]]
def r15_1:List RI:=[on 6 (.load 7 true (.t 2)),oo 7 (Ca 44 [.t 6]) [6],oo 8 (Bc .neq 7 0) [7]]
def r15_2:List RI:=[on 4 (.mov (ci (-1)))]
def r15_3:List RI:=[on 9 (Fa 1 3),oo 10 (Ld 9) [9]]
def r15_4:List RI:=[on 12 (Bc .eql 10 1),omk 11 12]
def r15_5:List RI:=[oo 13 (Fa 5 2) [2],oo 14 (Ld 13) [13],oo 15 (.mkfn 46 [] [.t 3]) [3],oo 16 (Ca 45 [.t 14,.t 15]) [14,15],omk 4 16]
def r15_6:List RI:=[oo 18 (Bc .eql 10 3) [10],omk 17 18]
def r15_7:List FI:=[Fs 0 19 (Fa 0 3),Fs 1 20 (Ld 19),Fz 2 21 (Ca 47 [ci 4]),Fs 3 22 (Bb .neq 20 21),Fm 4 23 22,Fi 5 24 23 false (.load 4 true (.t 3)),⟨6,false,(xi 25 23 false (Ca 50 [.t 24]))⟩,Fi 7 26 23 false (.un .not (.t 25)),Fs 8 27 (Pt 23 26)]
def r15_8:List RI:=[on 4 (.mov (ci (-1)))]
def r15_9:List RI:=[on 28 (Fa 6 2),oo 29 (Ld 28) [28],oo 30 (.mkfn 52 [] [.t 3]) [3],oo 31 (Ca 51 [.t 29,.t 30]) [29,30],omk 5 31]
def r15_10:List RI:=[om 32 5,oo 33 (Bc .geq 32 0) [32]]
def r15_11:List RI:=[oo 34 (Fa 5 2) [2],oo 35 (Ld 34) [34],oo 36 (Ln 35) [35],omk 37 5,oo 38 (Bb .add 36 37) [36,37],omk 4 38]
def r15_12:List RI:=[on 4 (.mov (ci (-1)))]
def r15:RC:=(So r15_0 (.seq (So r15_1 (Kc 8 (Kk [2,3,8] (So r15_2 .ret)) (Kk [8] .skip))) (.seq (So r15_3 (.block 0 (So r15_4 (Kc 11 (Kk [10,11] (So r15_5 .ret)) (Kk [11] (So r15_6 (Kc 17 (Kk [17] (.seq (.seq (.flt [0,1,0,7,15,31,63,127,255] [] r15_7 [19,20,21,22,23,24,25,26]) (Kc 27 (Kk [2,3,27] (So r15_8 .ret)) (Kk [27] .skip))) (So r15_9 (So r15_10 (Kc 33 (Kk [33] (So r15_11 .ret)) (Kk [2,5,33] .skip)))))) (Kk [2,3,17] .skip)))))))) (So r15_12 .ret))))
def F15:FnC:=⟨r15,39,[.tmp 4],[],[]⟩
def r16_0:List RI:=[oo 3 (.box (.t 0)) [0],oo 6 (.mov (.c (.bool false))) [6]]
def r16_1:List RI:=[on 14 (.load 3 true (.t 3)),om 15 1,oo 16 (Ca 12 [.t 14,.t 15]) [14,15],omk 13 16,on 17 (.ext (.t 13) 0),on 18 (.ext (.t 13) 1),oo 19 (.ext (.t 13) 2) [13],.op (xm 7 17) [7,17],.op (xm 8 18) [8,18],omk 9 19]
def r16_2:List RI:=[omk 20 9,oo 21 (Bc .neq 20 0) [20],omk 22 21,.grp 22 false [(xi 23 22 false (Mv 2)),(xi 24 22 false (Ln 23)),(xi 25 22 false (Fa 2 3)),(xi 26 22 false (Ld 25)),(xi 27 22 false (Ln 26)),(xi 28 22 false (Bb .neq 24 27))] [23,24,25,26,27],oo 29 (Pt 22 28) [22,28]]
def r16_3:List RI:=[on 6 (.mov (.c (.bool false)))]
def r16_4:List RI:=[oo 30 (Fa 2 3) [3],oo 31 (Ld 30) [30],on 32 (Ln 31),on 33 (.mov (ci 0))]
def r16_5:List RI:=[on 34 (Bb .lss 33 32)]
def r16_6:List RI:=[om 35 33,on 36 (Ia 4 31 33),oo 37 (.load 4 true (.t 36)) [36],on 11 (.new (.rc Zq0)),omk 10 35,.op ⟨none,none,.store 4 (.t 11) (.t 37)⟩ [37]]
def r16_7:List RI:=[om 38 2,omk 39 10,oo 40 (Ia 2 38 39) [38,39],oo 41 (.load 2 true (.t 40)) [40],on 12 (.new (.rc [.int .i64 0,.int .i64 0])),.op ⟨none,none,.store 2 (.t 12) (.t 41)⟩ [41]]
def r16_8:List RI:=[on 42 (Fa 1 11),oo 43 (Ld 42) [42],oo 44 (Bc .eql 43 5) [43],omk 45 44,.grp 45 false [(xi 46 45 false (Fa 1 11)),(xi 47 45 false (Ld 46)),(xi 48 45 false (Bc .eql 47 2))] [46,47],oo 49 (Pt 45 48) [45,48]]
def r16_9:List RI:=[on 50 (Fa 0 12),oo 51 (Ld 50) [50],oo 52 (Bc .neq 51 (-1)) [51],omk 53 52,.grp 53 false [(xi 54 53 false (Fa 1 12)),(xi 55 53 false (Ld 54)),(xi 56 53 false (Bc .neq 55 (-1)))] [12,54,55],oo 57 (Pt 53 56) [53,56]]
def r16_10:List RI:=[on 6 (.mov (.c (.bool false)))]
def r16_11:List FI:=[Fs 0 58 (Fa 0 12),Fs 1 59 (Ld 58),Fs 2 60 (Bc .lss 59 0),Fm 3 61 60,Fi 4 62 61 false (Fa 0 12),Fi 5 63 61 false (Ld 62),Fi 6 64 61 false (Mv 1),Fi 7 65 61 false (Ln 64),Fi 8 66 61 false (Bb .geq 63 65),Fs 9 67 (Pt 61 66),Fm 10 68 67,Fi 11 69 68 false (Fa 1 12),Fi 12 70 68 false (Ld 69),Fi 13 71 68 false (Bc .lss 70 0),Fs 14 72 (Pt 68 71),Fm 15 73 72,Fi 16 74 73 false (Mv 1),Fi 17 75 73 false (Fa 0 12),Fi 18 76 73 false (Ld 75),Fi 19 77 73 false (Ia 7 74 76),Fi 20 78 73 false (.load 7 true (.t 77)),Fi 21 79 73 false (.load 4 true (.t 11)),Fi 23 81 73 false (Fa 1 12),Fi 24 82 73 false (Ld 81),⟨22,false,(xi 80 73 false (Ca 15 [.t 78,.t 79]))⟩,Fi 25 83 73 false (Bb .neq 80 82),Fs 26 84 (Pt 73 83)]
def r16_12:List RI:=[on 6 (.mov (.c (.bool false)))]
def r16_13:List RI:=[oo 85 (Bc .add 33 1) [33],omk 33 85]
def b16_14:RC:=(.post (So r16_5 (.seq (Kc 34 (Kk [34] .skip) (Kk [1,2,31,32,33,34] (.exit 0))) (.seq (.block 1 (So r16_6 (So r16_7 (.seq (So r16_8 (Kc 49 (Kk [11,49] (.seq (So r16_9 (Kc 57 (Kk [1,2,31,32,33,57] (So r16_10 .ret)) (Kk [57] .skip))) (.exit 1))) (Kk [49] .skip))) (.seq (.flt [0,1,3,7,15,31,15,79,255,511,1023,2047,4095,8191,16383,32767,65535,65535,196607,524287,1048575,65535,4194303,65535,8454143,33554431,67108863] [] r16_11 [11,12,58,59,60,61,62,63,64,65,66,67,68,69,70,71,72,73,74,75,76,77,78,79,80,81,82,83]) (Kc 84 (Kk [1,2,31,32,33,84] (So r16_12 .ret)) (Kk [84] .skip))))))) (.ops r16_13)))) [.gc [111,112]])
def r16_14:RC:=b16_14
def r16_15:List RI:=[on 6 (.mov (.c (.bool true)))]
def r16:RC:=(So r16_0 (.seq (So r16_1 (So r16_2 (Kc 29 (Kk [1,2,3,29] (So r16_3 .ret)) (Kk [29] .skip)))) (.seq (So r16_4 (.block 0 (.loop r16_14))) (So r16_15 .ret))))
def F16:FnC:=⟨r16,86,[.tmp 6],[],[]⟩
def r18_0:List RI:=[oo 4 (.mov (ci 0)) [4]]
def r18_1:List RI:=[om 6 1,oo 7 (Bc .lss 6 1) [6]]
def r18_2:List RI:=[on 4 (.mov (ci 0))]
def r18_3:List RI:=[omk 8 0,om 9 1,oo 10 (Bb .rem 8 9) [8,9],omk 5 10]
def r18_4:List RI:=[om 11 5,oo 12 (Bc .lss 11 0) [11]]
def r18_5:List RI:=[omk 13 5,omk 14 1,oo 15 (Bb .add 13 14) [13,14],omk 5 15]
def r18_6:List RI:=[omk 16 5,omk 4 16]
def r18:RC:=(So r18_0 (.seq (So r18_1 (Kc 7 (Kk [0,1,7] (So r18_2 .ret)) (Kk [7] .skip))) (So r18_3 (.seq (So r18_4 (Kc 12 (Kk [12] (.ops r18_5)) (Kk [1,12] .skip))) (So r18_6 .ret)))))
def F18:FnC:=⟨r18,17,[.tmp 4],[],[]⟩
def r21_0:List RI:=[oo 4 (.mov (.c (.lst 1 [] .clip))) [4]]
def r21_1:List RI:=[on 5 (.mov (.c (.lst 1 [] .clip)))]
def r21_2:List RI:=[omk 11 1,on 12 (Ln 11),on 13 (.mov (ci 0))]
def r21_3:List RI:=[on 14 (Bb .lss 13 12)]
def r21_4:List RI:=[on 15 (Ia 2 11 13),oo 16 (.load 2 true (.t 15)) [15],on 7 (.new (.rc [.int .i64 0,.int .i64 0])),.op ⟨none,none,.store 2 (.t 7) (.t 16)⟩ [16]]
def r21_5:List RI:=[on 17 (Fa 0 7),oo 18 (Ld 17) [17],oo 19 (Bc .lss 18 0) [18],omk 20 19,.grp 20 false [(xi 21 20 false (Fa 0 7)),(xi 22 20 false (Ld 21)),(xi 23 20 false (Mv 0)),(xi 24 20 false (Ln 23)),(xi 25 20 false (Bb .geq 22 24))] [21,22,23,24],oo 26 (Pt 20 25) [20,25]]
def r21_6:List RI:=[om 27 0,oo 28 (Fa 0 7) [7],oo 29 (Ld 28) [28],oo 30 (Ia 7 27 29) [27,29],oo 31 (.load 7 true (.t 30)) [30],oo 32 (Ca 59 [.t 31]) [31],omk 8 32]
def r21_7:List RI:=[om 34 5,om 35 8,oo 36 (Ca 60 [.t 34,.t 35,(.f 61)]) [34,35],omk 33 36,on 37 (.ext (.t 33) 0),oo 38 (.ext (.t 33) 1) [33],omk 9 37,omk 10 38]
def r21_8:List RI:=[omk 39 10,oo 40 (.un .not (.t 39)) [39]]
def r21_9:List RI:=[omk 41 5,omk 42 9,omk 43 8,oo 44 (.lit 1 [.t 43]) [43],oo 45 (Ca 62 [.t 41,.t 42,.t 44]) [41,42,44],omk 5 45]
def r21_10:List RI:=[oo 46 (Bc .add 13 1) [13],omk 13 46]
def b21_11:RC:=(.post (So r21_3 (.seq (Kc 14 (Kk [14] .skip) (Kk [0,11,12,13,14] (.exit 0))) (.seq (.block 1 (So r21_4 (.seq (So r21_5 (Kc 26 (Kk [7,26] (.exit 1)) (Kk [26] .skip))) (So r21_6 (So r21_7 (So r21_8 (Kc 40 (Kk [40] (.ops r21_9)) (Kk [8,9,40] .skip)))))))) (.ops r21_10)))) [.gc [107]])
def r21_11:RC:=b21_11
def r21_12:List RI:=[omk 47 5,omk 4 47]
def r21:RC:=(So r21_0 (So r21_1 (.seq (So r21_2 (.block 0 (.loop r21_11))) (So r21_12 .ret))))
def F21:FnC:=⟨r21,48,[.tmp 4],[],[]⟩
def r23_0:List RI:=[oo 4 (.mov (.c (.lst 7 [] .clip))) [4]]
def r23_1:List RI:=[omk 8 0,oo 9 (Ca 35 [.t 8,ci 120]) [8],omk 5 9]
def r23_2:List RI:=[on 6 (.mov (.c (.lst 7 [] .clip)))]
def r23_3:List RI:=[om 10 5,oo 11 (Ca 37 [.t 10,ci 5]) [10],omk 7 11]
def r23_4:List RI:=[om 12 7,oo 13 (Bc .gtr 12 0) [12]]
def r23_5:List RI:=[omk 16 6,om 17 5,om 18 1,oo 19 (Ca 64 [.t 17,.t 18]) [17,18],oo 20 (.lit 7 [.t 19]) [19],oo 21 (.app Zq3 96 (.t 16) (.t 20)) [16,20],omk 6 21]
def r23_6:List RI:=[omk 14 7,oo 15 (Bc .sub 14 1) [14],omk 7 15]
def b23_7:RC:=(.post (.seq (So r23_4 (Kc 13 (Kk [13] .skip) (Kk [1,5,7,13] (.exit 0)))) (.seq (.block 1 (.ops r23_5)) (.ops r23_6))) [.tok 6 106])
def r23_7:RC:=b23_7
def r23_8:List RI:=[omk 22 6,omk 4 22]
def r23:RC:=(So r23_0 (So r23_1 (So r23_2 (.seq (So r23_3 (.block 0 (.pre [.tok 6 106] (.loop r23_7)))) (So r23_8 .ret)))))
def F23:FnC:=⟨r23,23,[.tmp 4],[],[]⟩
def r24_0:List RI:=[oo 2 (.mov (.c (.lst 4 [] .clip))) [2]]
def r24_1:List RI:=[omk 10 0,oo 11 (Ca 35 [.t 10,ci 200]) [10],omk 3 11]
def r24_2:List RI:=[on 4 (.mov (.c (.lst 4 [] .clip)))]
def r24_3:List RI:=[on 5 (.mov (ci 1))]
def r24_4:List RI:=[om 12 5,oo 13 (Bc .leq 12 4) [12]]
def r24_5:List RI:=[om 16 3,oo 17 (Ca 37 [.t 16,ci 3]) [16],omk 6 17]
def r24_6:List RI:=[om 18 5,oo 19 (Bc .eql 18 1) [18],omk 20 19,.grp 20 false [(xi 21 20 false (Mv 5)),(xi 22 20 false (Bc .eql 21 3))] [21],oo 23 (Pt 20 22) [20,22]]
def r24_7:List RI:=[om 24 3,oo 25 (Ca 37 [.t 24,ci 2]) [24],oo 26 (.bin .add (ci 1) (.t 25)) [25],omk 6 26]
def r24_8:List RI:=[om 27 6,oo 28 (Bc .gtr 27 0) [27]]
def r24_9:List RI:=[om 31 3,om 32 5,oo 33 (Ca 65 [.t 31,.t 32]) [31,32],on 7 (.new (.rc Zq1)),.op ⟨none,none,.store 4 (.t 7) (.t 33)⟩ [33]]
def r24_10:List RI:=[on 8 (.mov (.c (.bool false)))]
def r24_11:List RI:=[on 9 (.mov (ci 0))]
def r24_12:List RI:=[om 34 9,om 35 4,oo 36 (Ln 35) [35],oo 37 (Bb .lss 34 36) [34,36]]
def r24_13:List FI:=[Fm 0 40 8,Fm 1 41 40,Fi 2 42 41 false (Mv 4),Fi 3 43 41 false (Mv 9),Fi 4 44 41 false (Ia 4 42 43),Fi 5 45 41 false (Fa 0 44),Fi 6 46 41 false (Ld 45),Fi 7 47 41 false (Fa 0 7),Fi 8 48 41 false (Ld 47),Fi 9 49 41 false (Bb .eql 46 48),Fi 10 50 41 false (Mv 49),Fi 11 51 50 true (Mv 4),Fi 12 52 50 true (Mv 9),Fi 13 53 50 true (Ia 4 51 52),Fi 14 54 50 true (Fa 1 53),Fi 15 55 50 true (Ld 54),Fi 16 56 50 true (Fa 1 7),Fi 17 57 50 true (Ld 56),Fi 18 58 50 true (Bb .eql 55 57),Fi 19 59 41 false (Pf 50 58),Fs 20 60 (Pt 41 59),⟨21,false,(xm 8 60)⟩]
def r24_14:List RI:=[omk 38 9,oo 39 (Bc .add 38 1) [38],omk 9 39]
def b24_15:RC:=(.seq (So r24_12 (Kc 37 (Kk [37] .skip) (Kk [9,37] (.exit 4)))) (.seq (.block 5 (.flt [0,1,3,3,15,31,63,3,131,511,1023,2047,2047,8191,16383,32767,2047,67583,262143,524287,1048575,2097151] [] r24_13 [40,41,42,43,44,45,46,47,48,49,50,51,52,53,54,55,56,57,58,59,60])) (.ops r24_14)))
def r24_15:RC:=b24_15
def r24_16:List RI:=[omk 61 8,oo 62 (.un .not (.t 61)) [61]]
def r24_17:List RI:=[omk 63 4,oo 64 (.load 4 true (.t 7)) [7],oo 65 (.lit 4 [.t 64]) [64],oo 66 (.app Zq1 56 (.t 63) (.t 65)) [63,65],omk 4 66]
def r24_18:List RI:=[omk 29 6,oo 30 (Bc .sub 29 1) [29],omk 6 30]
def b24_19:RC:=(.post (.seq (So r24_8 (Kc 28 (Kk [28] .skip) (Kk [6,28] (.exit 2)))) (.seq (.block 3 (So r24_9 (So r24_10 (.seq (So r24_11 (.block 4 (.loop r24_15))) (So r24_16 (Kc 62 (Kk [62] (.ops r24_17)) (Kk [7,62] .skip))))))) (.ops r24_18))) [.gc [107],.tok 4 104])
def r24_19:RC:=b24_19
def r24_20:List RI:=[omk 14 5,oo 15 (Bc .add 14 1) [14],omk 5 15]
def b24_21:RC:=(.post (.seq (So r24_4 (Kc 13 (Kk [13] .skip) (Kk [3,5,13] (.exit 0)))) (.seq (.block 1 (So r24_5 (.seq (So r24_6 (Kc 23 (Kk [6,23] (.ops r24_7)) (Kk [23] .skip))) (.block 2 (.pre [.tok 4 104] (.loop r24_19)))))) (.ops r24_20))) [.gc [107],.tok 4 104])
def r24_21:RC:=b24_21
def r24_22:List RI:=[omk 67 4,omk 2 67]
def r24:RC:=(So r24_0 (So r24_1 (So r24_2 (.seq (So r24_3 (.block 0 (.pre [.tok 4 104] (.loop r24_21)))) (So r24_22 .ret)))))
def F24:FnC:=⟨r24,68,[.tmp 2],[],[]⟩
def r27_0:List RI:=[oo 1 (.box (.t 0)) [0],oo 2 (.mov (ci 0)) [2],oo 3 (.mov (ci 0)) [3],oo 4 (.mov (ci 0)) [4]]
def r27_1:List RI:=[on 5 (.new (.rc [.int .i64 0,.int .i64 0,.bool false,.bool false,.bool false,.bool false,.bool false,.bool false]))]
def r27_2:List RI:=[on 8 (Fa 2 1),oo 9 (Ld 8) [8],on 10 (Ln 9),on 11 (.mov (ci 0))]
def r27_3:List RI:=[on 12 (Bb .lss 11 10)]
def r27_4:List RI:=[om 13 11,on 14 (Ia 4 9 11),oo 15 (.load 4 true (.t 14)) [14],on 7 (.new (.rc Zq0)),omk 6 13,.op ⟨none,none,.store 4 (.t 7) (.t 15)⟩ [15]]
def r27_5:List RI:=[oo 16 (.load 4 true (.t 7)) [7],oo 17 (Ca 39 [.t 5,.t 16]) [16],oo 18 (.un .not (.t 17)) [17]]
def r27_6:List RI:=[oo 19 (Fa 0 5) [5],oo 20 (Ld 19) [19],omk 21 6,omk 2 20,omk 3 21,on 4 (.mov (ci 41))]
def r27_7:List RI:=[oo 22 (Bc .add 11 1) [11],omk 11 22]
def b27_8:RC:=(.post (So r27_3 (.seq (Kc 12 (Kk [12] .skip) (Kk [9,10,11,12] (.exit 0))) (.seq (.block 1 (So r27_4 (So r27_5 (Kc 18 (Kk [1,9,10,11,18] (So r27_6 .ret)) (Kk [6,18] .skip))))) (.ops r27_7)))) [.gc [107]])
def r27_8:RC:=b27_8
def r27_9:List FI:=[Fs 0 23 (Fa 0 5),Fs 1 24 (Ld 23),Fs 2 25 (Fa 2 1),Fs 3 26 (Ld 25),Fs 4 27 (Ln 26),Fm 5 2 24,Fm 6 3 27,Fs 7 4 (.mov (ci 0))]
def r27:RC:=(So r27_0 (So r27_1 (.seq (So r27_2 (.block 0 (.loop r27_8))) (.seq (.flt [0,1,0,4,12,3,63,127] [] r27_9 [1,5,23,24,25,26,27]) .ret))))
def F27:FnC:=⟨r27,28,[.tmp 2,.tmp 3,.tmp 4],[],[]⟩
def r28_0:List RI:=[oo 1 (.box (.t 0)) [0],oo 2 (.mov (ci 0)) [2],oo 3 (.mov (ci 0)) [3],oo 4 (.mov (ci 0)) [4]]
def r28_1:List RI:=[on 5 (.mov (ci 0)),on 6 (.mov (ci 0))]
def r28_2:List RI:=[on 7 (.mov (ci 0))]
def r28_3:List RI:=[om 10 7,on 11 (Fa 2 1),oo 12 (Ld 11) [11],oo 13 (Ln 12) [12],oo 14 (Bb .lss 10 13) [10,13]]
def r28_4:List RI:=[on 17 (Fa 2 1),oo 18 (Ld 17) [17],om 19 7,oo 20 (Ia 4 18 19) [18,19],oo 21 (.load 4 true (.t 20)) [20],oo 22 (Ca 42 [.t 21]) [21],omk 8 22]
def r28_5:List RI:=[om 23 8,oo 24 (Bc .eql 23 0) [23]]
def r28_6:List RI:=[om 25 8,om 26 5,oo 27 (Bb .geq 25 26) [25,26],omk 28 27,.grp 28 true [(xi 29 28 true (Mv 5)),(xi 30 28 true (Bc .gtr 29 0)),(xi 31 28 true (Mv 30))] [29,30],.grp 31 false [(xi 32 31 false (Mv 8)),(xi 33 31 false (Bc .eql 32 1))] [32],.grp 28 true [(xi 34 28 true (Pt 31 33))] [31,33],oo 35 (Pf 28 34) [28,34],omk 9 35]
def r28_7:List RI:=[om 36 8,oo 37 (Bc .eql 36 3) [36]]
def r28_8:List RI:=[omk 38 9,omk 39 38,.grp 39 true [(xi 40 39 true (Fa 2 1)),(xi 41 39 true (Ld 40)),(xi 42 39 true (Mv 7)),(xi 43 39 true (Ia 4 41 42)),(xi 44 39 true (Fa 0 43)),(xi 45 39 true (Ld 44)),(xi 46 39 true (Mv 6)),(xi 47 39 true (Bb .eql 45 46))] [40,41,42,43,44,45,46],oo 48 (Pf 39 47) [39,47],omk 9 48]
def r28_9:List RI:=[om 49 8,oo 50 (Bc .gtr 49 3) [49]]
def r28_10:List RI:=[omk 51 9,omk 52 51,.grp 52 true [(xi 53 52 true (Mv 6)),(xi 54 52 true (Bc .eql 53 8))] [53],oo 55 (Pf 52 54) [52,54],omk 9 55]
def r28_11:List RI:=[omk 56 9,oo 57 (.un .not (.t 56)) [56]]
def r28_12:List RI:=[omk 58 5,omk 59 7,omk 2 58,omk 3 59,on 4 (.mov (ci 41))]
def r28_13:List RI:=[om 60 8,omk 5 60]
def r28_14:List RI:=[omk 61 8,oo 62 (Bc .eql 61 3) [61]]
def r28_15:List RI:=[omk 63 6,oo 64 (Bc .add 63 1) [63],omk 6 64]
def r28_16:List RI:=[omk 15 7,oo 16 (Bc .add 15 1) [15],omk 7 16]
def b28_17:RC:=(.seq (So r28_3 (Kc 14 (Kk [14] .skip) (Kk [6,7,14] (.exit 0)))) (.seq (.block 1 (So r28_4 (.seq (So r28_5 (Kc 24 (Kk [8,24] (.exit 1)) (Kk [24] .skip))) (So r28_6 (.seq (So r28_7 (Kc 37 (Kk [37] (.ops r28_8)) (Kk [37] .skip))) (.seq (So r28_9 (Kc 50 (Kk [50] (.ops r28_10)) (Kk [50] .skip))) (.seq (So r28_11 (Kc 57 (Kk [1,6,8,57] (So r28_12 .ret)) (Kk [5,57] .skip))) (So r28_13 (So r28_14 (Kc 62 (Kk [62] (.ops r28_15)) (Kk [62] .skip))))))))))) (.ops r28_16)))
def r28_17:RC:=b28_17
def r28_18:List FI:=[Fm 0 65 5,Fs 1 66 (Fa 2 1),Fs 2 67 (Ld 66),Fs 3 68 (Ln 67),Fm 4 2 65,Fm 5 3 68,Fs 6 4 (.mov (ci 0))]
def r28:RC:=(So r28_0 (So r28_1 (.seq (So r28_2 (.block 0 (.loop r28_17))) (.seq (.flt [0,0,2,6,1,31,63] [] r28_18 [1,5,65,66,67,68]) .ret))))
def F28:FnC:=⟨r28,69,[.tmp 2,.tmp 3,.tmp 4],[],[]⟩
def r29_0:List RI:=[oo 2 (.mov (ci 0)) [2]]
def r29_1:List RI:=[omk 3 0,oo 4 (Ca 18 [.t 3,ci 2]) [3],oo 5 (.bin .add (ci 2) (.t 4)) [4],omk 2 5]
def r29:RC:=(So r29_0 (So r29_1 .ret))
def F29:FnC:=⟨r29,6,[.tmp 2],[],[]⟩
def r31_0:List RI:=[oo 4 (.mov (.c (.lst 4 [] .clip))) [4]]
def r31_1:List RI:=[om 11 0,oo 12 (Ca 75 [.t 11]) [11],oo 13 (Bc .neq 12 0) [12],omk 14 13,.grp 14 false [(xi 15 14 false (Mv 1)),(xi 16 14 false (Bc .lss 15 1))] [15],oo 17 (Pt 14 16) [14,16],omk 18 17,.grp 18 false [(xi 19 18 false (Mv 1)),(xi 20 18 false (Bc .gtr 19 3))] [19],oo 21 (Pt 18 20) [18,20]]
def r31_2:List RI:=[on 4 (.mov (.c (.lst 4 [] .clip)))]
def r31_3:List RI:=[on 5 (.mov (.c (.lst 4 [] .clip)))]
def r31_4:List RI:=[on 6 (.mov (ci 1))]
def r31_5:List RI:=[om 22 6,oo 23 (Bc .leq 22 4) [22]]
def r31_6:List RI:=[om 26 6,oo 27 (Bc .eql 26 3) [26]]
def r31_7:List RI:=[on 7 (.mov (ci 0))]
def r31_8:List RI:=[om 28 7,oo 29 (Bc .lss 28 8) [28]]
def r31_9:List RI:=[omk 32 5,om 33 7,om 34 1,on 35 (Ca 77 []),oo 36 (Ca 76 [.t 33,ci 2,.t 34,.t 35]) [33,34,35],oo 37 (.lit 4 [.t 36]) [36],oo 38 (.app Zq0 64 (.t 32) (.t 37)) [32,37],omk 5 38]
def r31_10:List RI:=[omk 30 7,oo 31 (Bc .add 30 1) [30],omk 7 31]
def b31_11:RC:=(.post (.seq (So r31_8 (Kc 29 (Kk [29] .skip) (Kk [7,29] (.exit 2)))) (.seq (.block 3 (.ops r31_9)) (.ops r31_10))) [.tok 5 105])
def r31_11:RC:=b31_11
def r31_12:List RI:=[on 8 (.mov (ci 0))]
def r31_13:List RI:=[om 39 8,om 40 0,oo 41 (Ln 40) [40],oo 42 (Bb .lss 39 41) [39,41]]
def r31_14:List RI:=[om 45 0,om 46 8,oo 47 (Ia 4 45 46) [45,46],oo 48 (Fa 0 47) [47],oo 49 (Ld 48) [48],om 50 6,oo 51 (Bb .neq 49 50) [49,50]]
def r31_15:List RI:=[om 52 6,oo 53 (Bc .neq 52 4) [52]]
def r31_16:List RI:=[omk 54 5,om 55 0,om 56 8,oo 57 (Ia 4 55 56) [55,56],oo 58 (.load 4 true (.t 57)) [57],om 59 1,oo 60 (Ca 78 [.t 58,.t 59]) [58,59],oo 61 (.lit 4 [.t 60]) [60],oo 62 (.app Zq0 64 (.t 54) (.t 61)) [54,61],omk 5 62]
def r31_17:List RI:=[om 63 0,om 64 8,oo 65 (Ia 4 63 64) [63,64],oo 66 (.load 4 true (.t 65)) [65],oo 67 (Ca 79 [.t 66]) [66],omk 9 67]
def r31_18:List RI:=[on 10 (.mov (ci 0))]
def r31_19:List RI:=[om 68 10,om 69 9,oo 70 (Ln 69) [69],oo 71 (Bb .lss 68 70) [68,70]]
def r31_20:List RI:=[omk 74 5,om 75 1,om 76 9,om 77 10,oo 78 (Ia 1 76 77) [76,77],oo 79 (Ld 78) [78],oo 80 (Ca 76 [ci 9,ci 3,.t 75,.t 79]) [75,79],oo 81 (.lit 4 [.t 80]) [80],oo 82 (.app Zq0 64 (.t 74) (.t 81)) [74,81],omk 5 82]
def r31_21:List RI:=[omk 72 10,oo 73 (Bc .add 72 1) [72],omk 10 73]
def b31_22:RC:=(.post (.seq (So r31_19 (Kc 71 (Kk [71] .skip) (Kk [9,10,71] (.exit 6)))) (.seq (.block 7 (.ops r31_20)) (.ops r31_21))) [.tok 5 105])
def r31_22:RC:=b31_22
def r31_23:List RI:=[omk 43 8,oo 44 (Bc .add 43 1) [43],omk 8 44]
def b31_24:RC:=(.post (.seq (So r31_13 (Kc 42 (Kk [42] .skip) (Kk [8,42] (.exit 4)))) (.seq (.block 5 (.seq (So r31_14 (Kc 51 (Kk [51] (.exit 5)) (Kk [51] .skip))) (.seq (So r31_15 (Kc 53 (Kk [53] (So r31_16 (.exit 5))) (Kk [53] .skip))) (So r31_17 (So r31_18 (.block 6 (.pre [.tok 5 105] (.loop r31_22)))))))) (.ops r31_23))) [.tok 5 105])
def r31_24:RC:=b31_24
def r31_25:List RI:=[omk 24 6,oo 25 (Bc .add 24 1) [24],omk 6 25]
def b31_26:RC:=(.post (.seq (So r31_5 (Kc 23 (Kk [23] .skip) (Kk [0,1,6,23] (.exit 0)))) (.seq (.block 1 (.seq (So r31_6 (Kc 27 (Kk [27] (So r31_7 (.block 2 (.pre [.tok 5 105] (.loop r31_11))))) (Kk [27] .skip))) (So r31_12 (.block 4 (.pre [.tok 5 105] (.loop r31_24)))))) (.ops r31_25))) [.tok 5 105])
def r31_26:RC:=b31_26
def r31_27:List RI:=[omk 83 5,omk 4 83]
def r31:RC:=(So r31_0 (.seq (So r31_1 (Kc 21 (Kk [0,1,21] (So r31_2 .ret)) (Kk [21] .skip))) (So r31_3 (.seq (So r31_4 (.block 0 (.pre [.tok 5 105] (.loop r31_26)))) (So r31_27 .ret)))))
def F31:FnC:=⟨r31,84,[.tmp 4],[],[]⟩
def r33_0:List RI:=[oo 1 (.box (.t 0)) [0],oo 2 (.mov (.c (.byt [] .clip))) [2]]
def r33_1:List RI:=[on 4 (.load 4 true (.t 1)),oo 5 (Ca 81 [.t 4]) [4],oo 6 (Bc .neq 5 0) [5]]
def r33_2:List RI:=[on 2 (.mov (.c (.byt [] .clip)))]
def r33_3:List RI:=[on 7 (Fa 0 1),oo 8 (Ld 7) [7],oo 9 (Ca 82 [(.c (.byt [] .clip)),ci 1,.t 8]) [8],omk 3 9]
def r33_4:List RI:=[omk 10 3,on 11 (Fa 2 1),oo 12 (Ld 11) [11],oo 13 (Ca 82 [.t 10,ci 4,.t 12]) [10,12],omk 3 13]
def r33_5:List RI:=[omk 14 3,on 15 (Fa 1 1),oo 16 (Ld 15) [15],oo 17 (.s2b (.t 16)) [16],oo 18 (Ca 83 [.t 14,.t 17]) [14,17],omk 3 18]
def r33_6:List RI:=[omk 19 3,oo 20 (Fa 3 1) [1],oo 21 (Ld 20) [20],oo 22 (Ca 83 [.t 19,.t 21]) [19,21],omk 2 22]
def r33:RC:=(So r33_0 (.seq (So r33_1 (Kc 6 (Kk [1,6] (So r33_2 .ret)) (Kk [6] .skip))) (So r33_3 (So r33_4 (So r33_5 (So r33_6 .ret))))))
def F33:FnC:=⟨r33,23,[.tmp 2],[],[]⟩
def r34_0:List RI:=[on 6 (.new (.rc Zq3))]
def r34_1:List RI:=[omk 12 0,omk 13 1,oo 14 (.build Zq3 [(0,1,(.t 12)),(1,1,(.t 13)),(4,1,(ci 1099511627776))]) [12,13],on 7 (.new (.rc Zq3)),.op ⟨none,none,.store 7 (.t 7) (.t 14)⟩ [14]]
def r34_2:List RI:=[on 8 (.mov (ci 0))]
def r34_3:List RI:=[om 15 8,om 16 2,oo 17 (Ln 16) [16],oo 18 (Bb .lss 15 17) [15,17]]
def r34_4:List RI:=[om 21 2,om 22 8,oo 23 (Ia 4 21 22) [21,22],oo 24 (.load 4 true (.t 23)) [23],oo 25 (Ca 33 [.t 24]) [24],omk 9 25]
def r34_5:List RI:=[om 26 9,oo 27 (Ln 26) [26],oo 28 (Bc .eql 27 0) [27],omk 29 28,.grp 29 false [(xi 30 29 false (Mv 2)),(xi 31 29 false (Mv 8)),(xi 32 29 false (Ia 4 30 31)),(xi 33 29 false (Fa 0 32)),(xi 34 29 false (Ld 33)),(xi 35 29 false (Bc .eql 34 4))] [30,31,32,33,34],oo 36 (Pt 29 35) [29,35]]
def r34_6:List SI:=[(xm 37 2),(xm 38 8),(xs 39 (Ia 4 37 38)),(xs 40 (Fa 0 39)),(xs 41 (Ld 40)),(xm 42 2),(xm 43 8),(xs 44 (Ia 4 42 43)),(xs 45 (Fa 1 44)),(xs 46 (Ld 45)),(xm 47 2),(xm 48 8),(xs 49 (Ia 4 47 48)),(xs 50 (Fa 2 49)),(xs 51 (Ld 50)),(xm 52 9),(xs 53 (Ca 80 [.t 52])),(xs 54 (.build Zq1 [(0,1,(.t 41)),(1,1,(.t 46)),(2,1,(.t 51)),(3,1,(.t 53))])),(xs 10 (.new (.rc Zq1))),⟨none,none,.store 4 (.t 10) (.t 54)⟩]
def r34_7:List RI:=[on 11 (.mov (ci 0))]
def r34_8:List FI:=[Fm 0 55 11,Fs 1 56 (Fa 5 7),Fs 2 57 (Ld 56),Fs 3 58 (Ln 57),Fs 4 59 (Bb .lss 55 58),Fm 5 60 59,Fi 6 61 60 true (Fa 5 7),Fi 7 62 60 true (Ld 61),Fi 8 63 60 true (Mv 11),Fi 9 64 60 true (Ia 4 62 63),Fi 10 65 60 true (.load 4 true (.t 64)),Fi 11 66 60 true (.load 4 true (.t 10)),⟨12,false,(xi 67 60 true (Ca 84 [.t 65,.t 66]))⟩,Fs 13 68 (Pf 60 67)]
def r34_9:List RI:=[omk 69 11,oo 70 (Bc .add 69 1) [69],omk 11 70]
def b34_10:RC:=(.seq (.seq (.flt [0,0,2,6,15,31,63,127,63,511,1023,63,4095,8191] [] r34_8 [55,56,57,58,59,60,61,62,63,64,65,66,67]) (Kc 68 (Kk [68] .skip) (Kk [68] (.exit 2)))) (.block 3 (.ops r34_9)))
def r34_10:RC:=b34_10
def r34_11:List FI:=[Fm 0 71 11,Fs 1 72 (Fa 5 7),Fs 2 73 (Ld 72),Fs 3 74 (Ln 73),Fs 4 75 (Bb .lss 71 74),Fm 5 76 75,Fi 6 77 76 true (.load 4 true (.t 10)),Fi 7 78 76 true (Fa 5 7),Fi 8 79 76 true (Ld 78),Fi 9 80 76 true (Mv 11),Fi 10 81 76 true (Ia 4 79 80),Fi 11 82 76 true (.load 4 true (.t 81)),⟨12,false,(xi 83 76 true (Ca 84 [.t 77,.t 82]))⟩,Fi 13 84 76 true (.un .not (.t 83)),Fs 14 85 (Pf 76 84)]
def r34_12:List FI:=[Fs 0 86 (.lit 4 []),Fs 1 87 (Fa 5 7),Fs 2 88 (Ld 87),Fm 3 89 11,Fs 4 90 (.slcL 4 (.t 88) none (some (.t 89)) none),Fs 6 92 (.load 4 true (.t 10)),Fs 7 93 (.lit 4 [.t 92]),Fs 9 95 (Fa 5 7),Fs 10 96 (Ld 95),Fm 11 97 11,Fs 12 98 (.slcL 4 (.t 96) (some (.t 97)) none none),Fz 5 91 (.app Zq1 56 (.t 86) (.t 90)),Fz 8 94 (.app Zq1 56 (.t 91) (.t 93)),Fz 13 99 (.app Zq1 56 (.t 94) (.t 98)),Fs 14 100 (Fa 5 7),⟨15,false,⟨none,none,.store 1 (.t 100) (.t 99)⟩⟩]
def r34_13:List RI:=[omk 19 8,oo 20 (Bc .add 19 1) [19],omk 8 20]
def b34_14:RC:=(.post (.seq (So r34_3 (Kc 18 (Kk [18] .skip) (Kk [2,8,18] (.exit 0)))) (.seq (.block 1 (So r34_4 (.seq (So r34_5 (Kc 36 (Kk [9,36] (.exit 1)) (Kk [36] .skip))) (.seq (.drw [0,0,3,7,15,0,0,96,224,480,0,0,3072,7168,15360,0,32768,131071,0,524287] [110] r34_6 [9,37,38,39,40,41,42,43,44,45,46,47,48,49,50,51,52,53,54]) (So r34_7 (.seq (.block 2 (.loop r34_10)) (.seq (.seq (.flt [0,0,2,6,15,31,63,63,191,63,959,1983,4095,8191,16383] [] r34_11 [71,72,73,74,75,76,77,78,79,80,81,82,83,84]) (Kc 85 (Kk [10,11,85] (.exit 1)) (Kk [85] .skip))) (.flt [0,0,2,0,14,31,0,64,255,0,512,0,3584,8191,16383,32767] [191,194,199] r34_12 [10,11,86,87,88,89,90,91,92,93,94,95,96,97,98,99,100])))))))) (.ops r34_13))) [.gc [110,191,194,199]])
def r34_14:RC:=b34_14
def r34_15:List RI:=[oo 101 (.load 7 true (.t 7)) [7],.op ⟨none,none,.store 7 (.t 6) (.t 101)⟩ [101]]
def r34:RC:=(So r34_0 (So r34_1 (.seq (So r34_2 (.block 0 (.loop r34_14))) (So r34_15 .ret))))
def F34:FnC:=⟨r34,102,[.cell 6 7 true],[],[]⟩
def r35_0:List RI:=[oo 4 (.mov (.c .nilp)) [4]]
def r35_1:List RI:=[om 5 0,oo 6 (Ln 5) [5],om 7 1,oo 8 (Bb .gtr 6 7) [6,7]]
def r35_2:List RI:=[omk 9 0,omk 10 1,oo 11 (.slcL 1 (.t 9) none (some (.t 10)) none) [9,10],omk 0 11]
def r35_3:List RI:=[omk 12 0,oo 13 (.build [.byt [] .clip,.int .i64 0] [(0,1,(.t 12))]) [12],oo 14 (.box (.t 13)) [13],omk 4 14]
def r35:RC:=(So r35_0 (.seq (So r35_1 (Kc 8 (Kk [8] (.ops r35_2)) (Kk [1,8] .skip))) (So r35_3 .ret)))
def F35:FnC:=⟨r35,15,[.tmp 4],[],[]⟩
def r36_0:List RI:=[on 6 (.new (.rc Zq2))]
def r36_1:List RI:=[omk 13 0,oo 14 (Ca 35 [.t 13,ci 240]) [13],omk 7 14]
def r36_2:List RI:=[om 15 1,omk 16 2,oo 17 (Ca 18 [.t 16,ci 1000]) [16],oo 18 (.build Zq2 [(0,1,(.t 15)),(1,1,(.t 17))]) [15,17],on 8 (.new (.rc Zq2)),.op ⟨none,none,.store 3 (.t 8) (.t 18)⟩ [18]]
def r36_3:List RI:=[om 19 7,oo 20 (Ca 37 [.t 19,ci 3]) [19],oo 21 (Bc .eql 20 0) [20]]
def r36_4:List RI:=[omk 22 7,omk 23 1,oo 24 (Ca 85 [.t 22,.t 23,ci 14]) [22,23],on 25 (Fa 2 8),.op ⟨none,none,.store 1 (.t 25) (.t 24)⟩ [24,25]]
def r36_5:List RI:=[oo 26 (.load 3 true (.t 8)) [8],.op ⟨none,none,.store 3 (.t 6) (.t 26)⟩ [26]]
def r36_6:List FI:=[Fm 0 27 7,Fs 1 28 (.nchk (.t 27)),Fs 2 29 (Fa 0 28),Fs 3 30 (Ld 29),Fm 4 31 7,Fs 5 32 (.nchk (.t 31)),Fs 6 33 (Fa 1 32),Fs 7 34 (Ld 33),Fs 8 35 (.slcL 1 (.t 30) (some (.t 34)) none none),Fz 9 36 (Ca 24 [.t 35]),Fm 10 9 36]
def r36_7:List RI:=[omk 37 9,om 38 1,oo 39 (Ca 31 [.t 37,.t 38]) [37,38],on 40 (Fa 2 8),.op ⟨none,none,.store 1 (.t 40) (.t 39)⟩ [39,40]]
def r36_8:List RI:=[om 41 7,oo 42 (Ca 37 [.t 41,ci 4]) [41],omk 10 42]
def r36_9:List RI:=[om 43 10,oo 44 (Bc .gtr 43 0) [43]]
def r36_10:List RI:=[om 47 7,on 48 (Fa 2 8),oo 49 (Ld 48) [48],oo 50 (Ln 49) [49],oo 51 (Ca 37 [.t 47,.t 50]) [47,50],omk 11 51]
def r36_11:List RI:=[om 52 7,oo 53 (Ca 37 [.t 52,ci 5]) [52]]
def r36_12:List RI:=[on 73 (Bc .eql 53 0),omk 72 73]
def r36_13:List FI:=[Fs 0 74 (.lit 4 []),Fs 1 75 (Fa 2 8),Fs 2 76 (Ld 75),Fm 3 77 11,Fs 4 78 (.slcL 4 (.t 76) none (some (.t 77)) none),Fs 6 80 (Fa 2 8),Fs 7 81 (Ld 80),Fm 8 82 11,Fs 9 83 (Bc .add 82 1),Fs 10 84 (.slcL 4 (.t 81) (some (.t 83)) none none),Fz 5 79 (.app Zq0 64 (.t 74) (.t 78)),Fz 11 85 (.app Zq0 64 (.t 79) (.t 84)),Fs 12 86 (Fa 2 8),⟨13,false,⟨none,none,.store 1 (.t 86) (.t 85)⟩⟩]
def r36_14:List RI:=[on 88 (Bc .eql 53 1),omk 87 88]
def r36_15:List FI:=[Fs 0 89 (.lit 4 []),Fs 1 90 (Fa 2 8),Fs 2 91 (Ld 90),Fm 3 92 11,Fs 4 93 (.slcL 4 (.t 91) none (some (.t 92)) none),Fs 6 95 (Fa 2 8),Fs 7 96 (Ld 95),Fm 8 97 11,Fs 9 98 (Ia 4 96 97),Fs 10 99 (.load 4 true (.t 98)),Fs 11 100 (.lit 4 [.t 99]),Fs 13 102 (Fa 2 8),Fs 14 103 (Ld 102),Fm 15 104 11,Fs 16 105 (.slcL 4 (.t 103) (some (.t 104)) none none),Fz 5 94 (.app Zq0 64 (.t 89) (.t 93)),Fz 12 101 (.app Zq0 64 (.t 94) (.t 100)),Fz 17 106 (.app Zq0 64 (.t 101) (.t 105)),Fs 18 107 (Fa 2 8),⟨19,false,⟨none,none,.store 1 (.t 107) (.t 106)⟩⟩]
def r36_16:List RI:=[on 109 (Bc .eql 53 2),omk 108 109]
def r36_17:List RI:=[om 110 7,on 111 (Fa 2 8),oo 112 (Ld 111) [111],oo 113 (Ln 112) [112],oo 114 (Ca 37 [.t 110,.t 113]) [110,113],omk 12 114]
def r36_18:List RI:=[on 115 (.lit 4 []),on 116 (Fa 2 8),oo 117 (Ld 116) [116],.own (xs 118 (.app Zq0 64 (.t 115) (.t 117))) [115,117],on 119 (Fa 2 8),.op ⟨none,none,.store 1 (.t 119) (.t 118)⟩ [118,119]]
def r36_19:List FI:=[Fs 0 120 (Fa 2 8),Fs 1 121 (Ld 120),Fm 2 122 11,Fs 3 123 (Fa 2 8),Fs 4 124 (Ld 123),Fm 5 125 12,Fs 6 126 (Fa 2 8),Fs 7 127 (Ld 126),Fm 8 128 12,Fs 9 129 (Ia 4 127 128),Fs 10 130 (.load 4 true (.t 129)),Fs 11 131 (Fa 2 8),Fs 12 132 (Ld 131),Fm 13 133 11,Fs 14 134 (Ia 4 132 133),Fs 15 135 (.load 4 true (.t 134)),Fs 16 136 (Ia 4 121 122),⟨17,false,⟨none,none,.store 4 (.t 136) (.t 130)⟩⟩,Fs 18 137 (Ia 4 124 125),⟨19,false,⟨none,none,.store 4 (.t 137) (.t 135)⟩⟩]
def r36_20:List RI:=[oo 139 (Bc .eql 53 3) [53],omk 138 139]
def r36_21:List FI:=[Fs 0 140 (.lit 4 []),Fs 1 141 (Fa 2 8),Fs 2 142 (Ld 141),Fm 3 143 11,Fs 4 144 (.slcL 4 (.t 142) none (some (.t 143)) none),Fm 6 146 7,Fm 7 147 1,Fs 11 151 (Fa 2 8),Fs 12 152 (Ld 151),Fm 13 153 11,Fs 14 154 (.slcL 4 (.t 152) (some (.t 153)) none none),Fz 5 145 (.app Zq0 64 (.t 140) (.t 144)),Fz 8 148 (Ca 38 [.t 146,.t 147]),Fs 9 149 (.lit 4 [.t 148]),Fz 10 150 (.app Zq0 64 (.t 145) (.t 149)),Fz 15 155 (.app Zq0 64 (.t 150) (.t 154)),Fs 16 156 (Fa 2 8),⟨17,false,⟨none,none,.store 1 (.t 156) (.t 155)⟩⟩]
def r36_22:List FI:=[Fs 0 54 (.lit 4 []),Fs 1 55 (Fa 2 8),Fs 2 56 (Ld 55),Fm 3 57 11,Fs 4 58 (.slcL 4 (.t 56) none (some (.t 57)) none),Fm 6 60 1,Fs 12 66 (Fa 2 8),Fs 13 67 (Ld 66),Fm 14 68 11,Fs 15 69 (.slcL 4 (.t 67) (some (.t 68)) none none),Fz 5 59 (.app Zq0 64 (.t 54) (.t 58)),Fz 7 61 (.newB [(.c (.u8 110)),(.c (.u8 111)),(.c (.u8 116)),(.c (.u8 101))]),Fz 8 62 (.slid (.t 61)),Fz 9 63 (Ca 76 [ci 3,ci 5,.t 60,.t 62]),Fs 10 64 (.lit 4 [.t 63]),Fz 11 65 (.app Zq0 64 (.t 59) (.t 64)),Fz 16 70 (.app Zq0 64 (.t 65) (.t 69)),Fs 17 71 (Fa 2 8),⟨18,false,⟨none,none,.store 1 (.t 71) (.t 70)⟩⟩]
def r36_23:List RI:=[omk 45 10,oo 46 (Bc .sub 45 1) [45],omk 10 46]
def b36_24:RC:=(.post (.seq (So r36_9 (Kc 44 (Kk [44] .skip) (Kk [1,7,10,44] (.exit 0)))) (.seq (.block 1 (So r36_10 (So r36_11 (.block 2 (So r36_12 (Kc 72 (Kk [53,72] (.flt [0,0,2,0,14,31,0,64,0,256,960,2047,4095,8191] [179,185] r36_13 [11,74,75,76,77,78,79,80,81,82,83,84,85,86])) (Kk [72] (So r36_14 (Kc 87 (Kk [53,87] (.flt [0,0,2,0,14,31,0,64,0,448,960,1984,4095,0,8192,0,57344,131071,262143,524287] [194,201,206] r36_15 [11,89,90,91,92,93,94,95,96,97,98,99,100,101,102,103,104,105,106,107])) (Kk [87] (So r36_16 (Kc 108 (Kk [53,108] (So r36_17 (So r36_18 (.flt [0,1,0,0,8,0,0,64,0,448,960,0,2048,0,14336,30720,65479,131015,262143,524287] [] r36_19 [11,12,120,121,122,123,124,125,126,127,128,129,130,131,132,133,134,135,136,137])))) (Kk [108] (So r36_20 (Kc 138 (Kk [138] (.flt [0,0,2,0,14,31,0,0,255,511,1023,0,2048,0,14336,32767,65535,131071] [245,250,255] r36_21 [11,140,141,142,143,144,145,146,147,148,149,150,151,152,153,154,155,156])) (Kk [138] (.fla [0,0,2,0,14,31,0,0,128,511,1023,2047,0,4096,0,28672,65535,131071,262143] [159,161,165,170] r36_22 [[0,1,2,3,4,6,12,13,14,15,5,7,8,9,10,11,16,17,18],[0,1,2,3,4,6,12,13,14,15,7,5,8,9,10,11,16,17,18],[0,1,2,3,4,6,12,13,14,15,7,8,5,9,10,11,16,17,18]] [11,54,55,56,57,58,59,60,61,62,63,64,65,66,67,68,69,70,71]))))))))))))))))) (.ops r36_23))) [.pubo 218,.gc [159,165,170,179,185,194,201,206,218,245,250,255]])
def r36_24:RC:=b36_24
def r36_25:List RI:=[oo 157 (.load 3 true (.t 8)) [8],.op ⟨none,none,.store 3 (.t 6) (.t 157)⟩ [157]]
def r36:RC:=(So r36_0 (So r36_1 (So r36_2 (.seq (So r36_3 (Kc 21 (Kk [21] (So r36_4 (So r36_5 .ret))) (Kk [21] .skip))) (.seq (.flt [0,1,3,7,0,16,48,112,255,511,1023] [] r36_6 [27,28,29,30,31,32,33,34,35,36]) (So r36_7 (.seq (So r36_8 (.block 0 (.loop r36_24))) (So r36_25 .ret))))))))
def F36:FnC:=⟨r36,158,[.cell 6 3 true],[],[]⟩
def r37_0:List RI:=[oo 4 (.mov (ci 0)) [4]]
def r37_1:List FI:=[Fm 0 5 0,Fs 1 6 (.nchk (.t 5)),Fs 2 7 (Fa 1 6),Fs 3 8 (Ld 7),Fm 4 9 0,Fs 5 10 (.nchk (.t 9)),Fs 6 11 (Fa 0 10),Fs 7 12 (Ld 11),Fs 8 13 (Ln 12),Fs 9 14 (Bb .geq 8 13)]
def r37_2:List RI:=[on 4 (.mov (ci 0))]
def r37_3:List RI:=[om 15 0,on 16 (.nchk (.t 15)),oo 17 (Fa 1 16) [16],oo 18 (Ld 17) [17],oo 19 (Bc .add 18 1) [18],oo 20 (.nchk (.t 15)) [15],oo 21 (Fa 1 20) [20],.op ⟨none,none,.store 1 (.t 21) (.t 19)⟩ [19,21]]
def r37_4:List FI:=[Fm 0 22 0,Fs 1 23 (.nchk (.t 22)),Fs 2 24 (Fa 0 23),Fs 3 25 (Ld 24),Fm 4 26 0,Fs 5 27 (.nchk (.t 26)),Fs 6 28 (Fa 1 27),Fs 7 29 (Ld 28),Fs 8 30 (Bc .sub 29 1),Fs 9 31 (Ia 1 25 30),Fs 10 32 (Ld 31),Fs 11 33 (.toInt .i64 (.t 32)),Fm 12 34 1,Fs 13 35 (Bb .rem 33 34),Fm 14 4 35]
def r37:RC:=(So r37_0 (.seq (.seq (.flt [0,1,3,7,0,16,48,112,240,511] [] r37_1 [5,6,7,8,9,10,11,12,13]) (Kc 14 (Kk [0,1,14] (So r37_2 .ret)) (Kk [14] .skip))) (So r37_3 (.seq (.flt [0,1,3,7,0,16,48,112,240,511,1023,2047,0,8191,16383] [] r37_4 [0,1,22,23,24,25,26,27,28,29,30,31,32,33,34,35]) .ret))))
def F37:FnC:=⟨r37,36,[.tmp 4],[],[]⟩
def r38_0:List RI:=[on 4 (.new (.rc Zq0))]
def r38_1:List RI:=[om 9 0,oo 10 (Ca 86 [.t 9]) [9],omk 5 10]
def r38_2:List RI:=[om 11 0,oo 12 (Ca 37 [.t 11,ci 4]) [11],oo 13 (Bc .eql 12 3) [12]]
def r38_3:List RI:=[omk 14 5,om 15 0,oo 16 (Ca 37 [.t 15,ci 2]) [15],oo 17 (.slcL 1 (.t 14) none (some (.t 16)) none) [14,16],omk 5 17]
def r38_4:List RI:=[om 18 0,oo 19 (Ca 37 [.t 18,ci 5]) [18],oo 20 (.bin .add (ci 1) (.t 19)) [19],omk 6 20]
def r38_5:List RI:=[on 21 (.lit 1 [ci 0,ci 0,ci 4,ci 8,ci 9,ci 9,ci 1,ci 11]),om 22 0,oo 23 (Ca 37 [.t 22,ci 8]) [22],oo 24 (Ia 1 21 23) [21,23],oo 25 (Ld 24) [24],omk 7 25]
def r38_6:List RI:=[om 26 6,oo 27 (Bc .eql 26 2) [26],omk 28 27,.grp 28 true [(xi 29 28 true (Mv 0)),(xi 30 28 true (Ca 37 [.t 29,ci 4])),(xi 31 28 true (Bc .gtr 30 0))] [29,30],oo 32 (Pf 28 31) [28,31]]
def r38_7:List RI:=[on 33 (.litB [(.c (.u8 0)),(.c (.u8 0)),(.c (.u8 0)),(.c (.u8 0))]),omk 5 33]
def r38_8:List RI:=[om 34 0,oo 35 (Ca 37 [.t 34,ci 8]) [34],omk 7 35]
def r38_9:List RI:=[omk 36 7,om 37 6,om 38 1,omk 39 5,oo 40 (Ca 76 [.t 36,.t 37,.t 38,.t 39]) [36,37,38,39],on 8 (.new (.rc Zq0)),.op ⟨none,none,.store 4 (.t 8) (.t 40)⟩ [40]]
def r38_10:List RI:=[om 41 6,oo 42 (Bc .neq 41 5) [41],omk 43 42,.grp 43 true [(xi 44 43 true (Mv 0)),(xi 45 43 true (Ca 37 [.t 44,ci 4])),(xi 46 43 true (Bc .eql 45 3))] [44,45],oo 47 (Pf 43 46) [43,46]]
def r38_11:List RI:=[omk 48 1,omk 49 0,oo 50 (Ca 37 [.t 49,ci 4]) [49],oo 51 (.toInt .u8 (.t 50)) [50],omk 52 6,oo 53 (.toInt .u8 (.t 52)) [52],oo 54 (.litB [.t 51,.t 53]) [51,53],oo 55 (Ca 87 [.t 48,.t 54]) [48,54],on 56 (Fa 2 8),.op ⟨none,none,.store 1 (.t 56) (.t 55)⟩ [55,56]]
def r38_12:List RI:=[oo 57 (.load 4 true (.t 8)) [8],.op ⟨none,none,.store 4 (.t 4) (.t 57)⟩ [57]]
def r38:RC:=(So r38_0 (So r38_1 (.seq (So r38_2 (Kc 13 (Kk [13] (.ops r38_3)) (Kk [13] .skip))) (So r38_4 (So r38_5 (.seq (So r38_6 (Kc 32 (Kk [5,7,32] (So r38_7 (.ops r38_8))) (Kk [32] .skip))) (So r38_9 (.seq (So r38_10 (Kc 47 (Kk [47] (.ops r38_11)) (Kk [0,1,6,47] .skip))) (So r38_12 .ret)))))))))
def F38:FnC:=⟨r38,58,[.cell 4 4 true],[],[]⟩
def r39_0:List RI:=[oo 3 (.box (.t 1)) [1],oo 4 (.mov (.c (.bool false))) [4]]
def r39_1:List RI:=[on 6 (Fa 1 3),oo 7 (Ld 6) [6],oo 8 (Bc .eql 7 5) [7]]
def r39_2:List RI:=[on 4 (.mov (.c (.bool true)))]
def r39_3:List RI:=[on 9 (.load 4 true (.t 3)),oo 10 (Ca 88 [.t 9]) [9],omk 5 10]
def r39_4:List RI:=[om 12 5,oo 13 (Bc .eql 12 0) [12],omk 14 13,.grp 14 false [(xi 15 14 false (Mv 5)),(xi 16 14 false (Mv 0)),(xi 17 14 false (.nchk (.t 16))),(xi 18 14 false (Fa 0 17)),(xi 19 14 false (Ld 18)),(xi 20 14 false (Bb .lss 15 19))] [15,16,17,18,19],oo 21 (Pt 14 20) [14,20],omk 22 21,.grp 22 false [(xi 23 22 false (Mv 5)),(xi 24 22 false (Bc .gtr 23 1)),(xi 25 22 false (Mv 24))] [23,24],.grp 25 true [(xi 26 25 true (Mv 0)),(xi 27 25 true (.nchk (.t 26))),(xi 28 25 true (Fa 2 27)),(xi 29 25 true (.iaddrA 6 1 (.t 28) (ci 1))),(xi 30 25 true (Ld 29)),(xi 31 25 true (.un .not (.t 30)))] [26,27,28,29,30],.grp 22 false [(xi 32 22 false (Pf 25 31))] [25,31],oo 33 (Pt 22 32) [22,32],omk 11 33]
def r39_5:List RI:=[on 4 (.mov (.c (.bool false)))]
def r39_6:List FI:=[Fm 0 35 5,Fs 1 36 (Bc .eql 35 3),Fm 2 37 36,Fi 3 38 37 true (Fa 0 3),Fi 4 39 37 true (Ld 38),Fi 5 40 37 true (Mv 0),Fi 6 41 37 true (.nchk (.t 40)),Fi 7 42 37 true (Fa 1 41),Fi 8 43 37 true (Ld 42),Fi 9 44 37 true (Bb .neq 39 43),Fs 10 45 (Pf 37 44),Fm 11 34 45]
def r39_7:List RI:=[on 4 (.mov (.c (.bool false)))]
def r39_8:List RI:=[om 47 5,oo 48 (Bc .gtr 47 3) [47],omk 49 48,.grp 49 true [(xi 50 49 true (Mv 0)),(xi 51 49 true (.nchk (.t 50))),(xi 52 49 true (Fa 1 51)),(xi 53 49 true (Ld 52)),(xi 54 49 true (Bc .neq 53 8))] [50,51,52,53],oo 55 (Pf 49 54) [49,54],omk 46 55]
def r39_9:List RI:=[on 4 (.mov (.c (.bool false)))]
def r39_10:List RI:=[om 56 5,oo 57 (Bc .eql 56 3) [56]]
def r39_11:List RI:=[om 58 0,on 59 (.nchk (.t 58)),oo 60 (Fa 1 59) [59],oo 61 (Ld 60) [60],oo 62 (Bc .add 61 1) [61],oo 63 (.nchk (.t 58)) [58],oo 64 (Fa 1 63) [63],.op ⟨none,none,.store 1 (.t 64) (.t 62)⟩ [62,64]]
def r39_12:List FI:=[Fm 0 65 0,Fm 1 66 0,Fm 2 67 5,Fm 3 68 5,Fs 4 69 (.nchk (.t 65)),Fs 5 70 (Fa 0 69),Fs 7 71 (.nchk (.t 66)),Fs 8 72 (Fa 2 71),⟨6,false,⟨none,none,.store 1 (.t 70) (.t 68)⟩⟩,Fs 9 73 (.iaddrA 6 1 (.t 72) (.t 67)),⟨10,false,⟨none,none,.store 1 (.t 73) (.c (.bool true))⟩⟩]
def r39_13:List RI:=[on 4 (.mov (.c (.bool true)))]
def r39:RC:=(So r39_0 (.seq (So r39_1 (Kc 8 (Kk [0,3,8] (So r39_2 .ret)) (Kk [8] .skip))) (So r39_3 (.seq (.block 0 (So r39_4 (Kc 11 (Kk [0,3,5,11] (So r39_5 .ret)) (Kk [11] (.seq (.flt [0,1,3,7,15,7,39,103,231,511,1023,2047] [] r39_6 [3,35,36,37,38,39,40,41,42,43,44,45]) (Kc 34 (Kk [0,5,34] (So r39_7 .ret)) (Kk [34] (So r39_8 (Kc 46 (Kk [0,5,46] (So r39_9 .ret)) (Kk [46] .skip)))))))))) (.seq (So r39_10 (Kc 57 (Kk [57] (.ops r39_11)) (Kk [57] .skip))) (.seq (.flt [0,0,0,0,9,25,57,2,130,511,1023] [] r39_12 [0,5,65,66,67,68,69,70,71,72,73]) (So r39_13 .ret)))))))
def F39:FnC:=⟨r39,74,[.tmp 4],[],[]⟩
def r40_0:List RI:=[oo 2 (.box (.t 0)) [0],on 4 (.new (.rc [.int .i64 0,.int .i64 0])),oo 5 (.mov (.c (.bool false))) [5]]
def r40_1:List RI:=[on 9 (Fa 1 2),oo 10 (Ld 9) [9],oo 11 (Bc .eql 10 5) [10],omk 12 11,.grp 12 false [(xi 13 12 false (Fa 1 2)),(xi 14 12 false (Ld 13)),(xi 15 12 false (Bc .eql 14 2)),(xi 16 12 false (Mv 15))] [13,14,15],.grp 16 true [(xi 17 16 true (.load 4 true (.t 2))),(xi 18 16 true (Ca 50 [.t 17]))] [17],.grp 12 false [(xi 19 12 false (Pf 16 18))] [16,18],oo 20 (Pt 12 19) [12,19]]
def r40_2:List RI:=[on 21 (.build [.int .i64 0,.int .i64 0] [(0,1,(ci (-1))),(1,1,(ci (-1)))]),.op ⟨none,none,.store 2 (.t 4) (.t 21)⟩ [21],on 5 (.mov (.c (.bool true)))]
def r40_3:List RI:=[omk 22 1,on 23 (Ln 22),on 24 (.mov (ci 0))]
def r40_4:List RI:=[on 25 (Bb .lss 24 23)]
def r40_5:List RI:=[om 26 24,on 27 (Ia 7 22 24),oo 28 (.load 7 true (.t 27)) [27],on 7 (.new (.rc Zq3)),omk 6 26,.op ⟨none,none,.store 7 (.t 7) (.t 28)⟩ [28]]
def r40_6:List RI:=[oo 29 (.load 7 true (.t 7)) [7],on 30 (.load 4 true (.t 2)),oo 31 (Ca 15 [.t 29,.t 30]) [29,30],omk 8 31]
def r40_7:List RI:=[om 32 8,oo 33 (Bc .geq 32 0) [32]]
def r40_8:List RI:=[omk 34 6,omk 35 8,oo 36 (.build [.int .i64 0,.int .i64 0] [(0,1,(.t 34)),(1,1,(.t 35))]) [34,35],.op ⟨none,none,.store 2 (.t 4) (.t 36)⟩ [36],on 5 (.mov (.c (.bool true)))]
def r40_9:List RI:=[oo 37 (Bc .add 24 1) [24],omk 24 37]
def b40_10:RC:=(.post (So r40_4 (.seq (Kc 25 (Kk [25] .skip) (Kk [2,22,23,24,25] (.exit 0))) (.seq (.block 1 (So r40_5 (So r40_6 (So r40_7 (Kc 33 (Kk [2,22,23,24,33] (So r40_8 .ret)) (Kk [6,8,33] .skip)))))) (.ops r40_9)))) [.gc [107]])
def r40_10:RC:=b40_10
def r40_11:List RI:=[on 38 (.build [.int .i64 0,.int .i64 0] []),.op ⟨none,none,.store 2 (.t 4) (.t 38)⟩ [38],on 5 (.mov (.c (.bool false)))]
def r40:RC:=(So r40_0 (.seq (So r40_1 (Kc 20 (Kk [1,2,20] (So r40_2 .ret)) (Kk [20] .skip))) (.seq (So r40_3 (.block 0 (.loop r40_10))) (So r40_11 .ret))))
def F40:FnC:=⟨r40,39,[.cell 4 2 true,.tmp 5],[],[]⟩
def r42_0:List RI:=[oo 1 (.box (.t 0)) [0],oo 2 (.mov (ci 0)) [2]]
def r42_1:List RI:=[on 4 (Fa 1 1),oo 5 (Ld 4) [4],oo 6 (Bc .eql 5 5) [5],omk 3 6]
def r42_2:List RI:=[on 2 (.mov (ci 0))]
def r42_3:List RI:=[on 8 (Fa 1 1),oo 9 (Ld 8) [8],oo 10 (Bc .eql 9 1) [9],omk 11 10,.grp 11 true [(xi 12 11 true (Fa 0 1)),(xi 13 11 true (Ld 12)),(xi 14 11 true (Bc .eql 13 0))] [12,13],oo 15 (Pf 11 14) [11,14],omk 7 15]
def r42_4:List RI:=[on 2 (.mov (ci 1))]
def r42_5:List RI:=[on 17 (Fa 1 1),oo 18 (Ld 17) [17],oo 19 (Bc .eql 18 1) [18],omk 20 19,.grp 20 true [(xi 21 20 true (Fa 0 1)),(xi 22 20 true (Ld 21)),(xi 23 20 true (Bc .eql 22 4))] [21,22],oo 24 (Pf 20 23) [20,23],omk 16 24]
def r42_6:List RI:=[on 2 (.mov (ci 2))]
def r42_7:List RI:=[on 26 (Fa 1 1),oo 27 (Ld 26) [26],oo 28 (Bc .eql 27 2) [27],omk 29 28,.grp 29 true [(xi 30 29 true (Fa 0 1)),(xi 31 29 true (Ld 30)),(xi 32 29 true (Bc .leq 31 7))] [30,31],oo 33 (Pf 29 32) [29,32],omk 25 33]
def r42_8:List RI:=[on 2 (.mov (ci 3))]
def r42_9:List RI:=[on 35 (Fa 1 1),oo 36 (Ld 35) [35],oo 37 (Bc .eql 36 1) [36],omk 38 37,.grp 38 true [(xi 39 38 true (Fa 0 1)),(xi 40 38 true (Ld 39)),(xi 41 38 true (Bc .eql 40 8))] [39,40],oo 42 (Pf 38 41) [38,41],omk 34 42]
def r42_10:List RI:=[on 2 (.mov (ci 4))]
def r42_11:List RI:=[on 44 (Fa 1 1),oo 45 (Ld 44) [44],oo 46 (Bc .eql 45 3) [45],omk 47 46,.grp 47 true [(xi 48 47 true (Fa 0 1)),(xi 49 47 true (Ld 48)),(xi 50 47 true (Bc .eql 49 9))] [1,48,49],oo 51 (Pf 47 50) [47,50],omk 43 51]
def r42_12:List RI:=[on 2 (.mov (ci 5))]
def r42_13:List RI:=[on 2 (.mov (ci (-1)))]
def r42:RC:=(So r42_0 (.seq (.block 0 (So r42_1 (Kc 3 (Kk [1,3] (So r42_2 .ret)) (Kk [3] (So r42_3 (Kc 7 (Kk [1,7] (So r42_4 .ret)) (Kk [7] (So r42_5 (Kc 16 (Kk [1,16] (So r42_6 .ret)) (Kk [16] (So r42_7 (Kc 25 (Kk [1,25] (So r42_8 .ret)) (Kk [25] (So r42_9 (Kc 34 (Kk [1,34] (So r42_10 .ret)) (Kk [34] (So r42_11 (Kc 43 (Kk [43] (So r42_12 .ret)) (Kk [43] .skip))))))))))))))))))) (So r42_13 .ret)))
def F42:FnC:=⟨r42,52,[.tmp 2],[],[]⟩
def r44_0:List RI:=[oo 1 (.box (.t 0)) [0],oo 2 (.mov (ci 0)) [2]]
def r44_1:List RI:=[on 9 (Fa 0 1),oo 10 (Ld 9) [9],oo 11 (Ca 89 [.t 10]) [10],oo 12 (.un .not (.t 11)) [11],omk 8 12]
def r44_2:List RI:=[on 2 (.mov (ci 43))]
def r44_3:List RI:=[on 14 (Fa 2 1),oo 15 (Ld 14) [14],oo 16 (Bc .lss 15 0) [15],omk 17 16,.grp 17 false [(xi 18 17 false (Fa 2 1)),(xi 19 17 false (Ld 18)),(xi 20 17 false (Fa 1 1)),(xi 21 17 false (Ld 20)),(xi 22 17 false (Bb .gtr 19 21))] [18,19,20,21],oo 23 (Pt 17 22) [17,22],omk 24 23,.grp 24 false [(xi 25 24 false (Fa 1 1)),(xi 26 24 false (Ld 25)),(xi 27 24 false (Bc .gtr 26 1000000))] [25,26],oo 28 (Pt 24 27) [24,27],omk 29 28,.grp 29 false [(xi 30 29 false (Fa 3 1)),(xi 31 29 false (Ld 30)),(xi 32 29 false (Bc .lss 31 0))] [30,31],oo 33 (Pt 29 32) [29,32],omk 34 33,.grp 34 false [(xi 35 34 false (Fa 3 1)),(xi 36 34 false (Ld 35)),(xi 37 34 false (Fa 4 1)),(xi 38 34 false (Ld 37)),(xi 39 34 false (Bb .geq 36 38))] [35,36,37,38],oo 40 (Pt 34 39) [34,39],omk 41 40,.grp 41 false [(xi 42 41 false (Fa 4 1)),(xi 43 41 false (Ld 42)),(xi 44 41 false (Bc .gtr 43 1099511627776))] [42,43],oo 45 (Pt 41 44) [41,44],omk 13 45]
def r44_4:List RI:=[on 2 (.mov (ci 1))]
def r44_5:List RI:=[on 47 (Fa 5 1),oo 48 (Ld 47) [47],oo 49 (Ln 48) [48],oo 50 (Bc .gtr 49 16) [49],omk 51 50,.grp 51 false [(xi 52 51 false (Fa 6 1)),(xi 53 51 false (Ld 52)),(xi 54 51 false (Ln 53)),(xi 55 51 false (Bc .gtr 54 8))] [52,53,54],oo 56 (Pt 51 55) [51,55],omk 46 56]
def r44_6:List RI:=[on 2 (.mov (ci 4))]
def r44_7:List RI:=[on 57 (Fa 5 1),oo 58 (Ld 57) [57],on 59 (Ln 58),on 60 (.mov (ci 0))]
def r44_8:List RI:=[on 61 (Bb .lss 60 59)]
def r44_9:List RI:=[om 62 60,on 63 (Ia 4 58 60),oo 64 (.load 4 true (.t 63)) [63],on 4 (.new (.rc Zq1)),omk 3 62,.op ⟨none,none,.store 4 (.t 4) (.t 64)⟩ [64]]
def r44_10:List RI:=[on 66 (Fa 0 4),oo 67 (Ld 66) [66],oo 68 (Bc .lss 67 1) [67],omk 69 68,.grp 69 false [(xi 70 69 false (Fa 0 4)),(xi 71 69 false (Ld 70)),(xi 72 69 false (Bc .gtr 71 3))] [70,71],oo 73 (Pt 69 72) [69,72],omk 74 73,.grp 74 false [(xi 75 74 false (Fa 2 4)),(xi 76 74 false (Ld 75)),(xi 77 74 false (Bc .lss 76 0))] [75,76],oo 78 (Pt 74 77) [74,77],omk 79 78,.grp 79 false [(xi 80 79 false (Fa 2 4)),(xi 81 79 false (Ld 80)),(xi 82 79 false (Bc .gtr 81 1000000))] [80,81],oo 83 (Pt 79 82) [79,82],omk 84 83,.grp 84 false [(xi 85 84 false (Fa 3 4)),(xi 86 84 false (Ld 85)),(xi 87 84 false (Ln 86)),(xi 88 84 false (Bc .neq 87 32))] [85,86,87],oo 89 (Pt 84 88) [84,88],omk 65 89]
def r44_11:List RI:=[on 2 (.mov (ci 1))]
def r44_12:List RI:=[on 91 (Fa 1 4),oo 92 (Ld 91) [91],oo 93 (Ca 89 [.t 92]) [92],oo 94 (.un .not (.t 93)) [93],omk 90 94]
def r44_13:List RI:=[on 2 (.mov (ci 43))]
def r44_14:List FI:=[Fm 0 96 3,Fs 1 97 (Bc .gtr 96 0),Fm 2 98 97,Fi 3 99 98 true (Fa 5 1),Fi 4 100 98 true (Ld 99),Fi 5 101 98 true (Mv 3),Fi 6 102 98 true (Bc .sub 101 1),Fi 7 103 98 true (Ia 4 100 102),Fi 8 104 98 true (.load 4 true (.t 103)),Fi 9 105 98 true (.load 4 true (.t 4)),⟨10,false,(xi 106 98 true (Ca 72 [.t 104,.t 105]))⟩,Fi 11 107 98 true (Bc .geq 106 0),Fs 12 108 (Pf 98 107),Fm 13 95 108]
def r44_15:List RI:=[on 2 (.mov (ci 41))]
def r44_16:List RI:=[oo 109 (Bc .add 60 1) [60],omk 60 109]
def b44_17:RC:=(.post (So r44_8 (.seq (Kc 61 (Kk [61] .skip) (Kk [58,59,60,61] (.exit 1))) (.seq (.block 2 (So r44_9 (.block 3 (So r44_10 (Kc 65 (Kk [1,3,4,58,59,60,65] (So r44_11 .ret)) (Kk [65] (So r44_12 (Kc 90 (Kk [1,3,4,58,59,60,90] (So r44_13 .ret)) (Kk [90] (.seq (.flt [0,1,3,7,15,7,39,127,255,7,1023,2047,4095,8191] [] r44_14 [3,4,96,97,98,99,100,101,102,103,104,105,106,107,108]) (Kc 95 (Kk [1,58,59,60,95] (So r44_15 .ret)) (Kk [95] .skip)))))))))))) (.ops r44_16)))) [.gc [104]])
def r44_17:RC:=b44_17
def r44_18:List RI:=[oo 110 (Fa 6 1) [1],oo 111 (Ld 110) [110],on 112 (Ln 111),on 113 (.mov (ci 0))]
def r44_19:List RI:=[on 114 (Bb .lss 113 112)]
def r44_20:List RI:=[on 115 (Ia 4 111 113),oo 116 (.load 4 true (.t 115)) [115],on 6 (.new (.rc [.int .i64 0,.str [],.int .i64 0,.int .i64 0])),.op ⟨none,none,.store 4 (.t 6) (.t 116)⟩ [116]]
def r44_21:List RI:=[oo 117 (.load 4 true (.t 6)) [6],oo 118 (Ca 90 [.t 117]) [117],omk 7 118]
def r44_22:List RI:=[om 119 7,oo 120 (Bc .neq 119 0) [119]]
def r44_23:List RI:=[omk 121 7,omk 2 121]
def r44_24:List RI:=[oo 122 (Bc .add 113 1) [113],omk 113 122]
def b44_25:RC:=(.post (So r44_19 (.seq (Kc 114 (Kk [114] .skip) (Kk [111,112,113,114] (.exit 4))) (.seq (.block 5 (So r44_20 (So r44_21 (So r44_22 (Kc 120 (Kk [111,112,113,120] (So r44_23 .ret)) (Kk [7,120] .skip)))))) (.ops r44_24)))) [.gc [106]])
def r44_25:RC:=b44_25
def r44_26:List RI:=[on 2 (.mov (ci 0))]
def r44:RC:=(So r44_0 (.seq (.block 0 (So r44_1 (Kc 8 (Kk [1,8] (So r44_2 .ret)) (Kk [8] (So r44_3 (Kc 13 (Kk [1,13] (So r44_4 .ret)) (Kk [13] (So r44_5 (Kc 46 (Kk [1,46] (So r44_6 .ret)) (Kk [46] .skip)))))))))) (.seq (So r44_7 (.block 1 (.loop r44_17))) (.seq (So r44_18 (.block 4 (.loop r44_25))) (So r44_26 .ret)))))
def F44:FnC:=⟨r44,123,[.tmp 2],[],[]⟩
def r45_0:List RI:=[oo 4 (.mov (ci 0)) [4]]
def r45_1:List RI:=[om 6 0,oo 7 (Ln 6) [6],on 8 (.mov (ci 0))]
def r45_2:List RI:=[on 9 (Bb .lss 8 7)]
def r45_3:List RI:=[om 10 8,omk 5 10]
def r45_4:List RI:=[om 11 1,om 12 0,om 13 5,oo 14 (Ia 4 12 13) [12,13],oo 15 (.load 4 true (.t 14)) [14],oo 16 (.call (.t 11) [.t 15]) [11,15]]
def r45_5:List RI:=[omk 17 5,omk 4 17]
def r45_6:List RI:=[oo 18 (Bc .add 8 1) [8],omk 8 18]
def b45_7:RC:=(So r45_2 (.seq (Kc 9 (Kk [9] .skip) (Kk [0,1,7,8,9] (.exit 0))) (.seq (.block 1 (So r45_3 (So r45_4 (Kc 16 (Kk [0,1,7,8,16] (So r45_5 .ret)) (Kk [5,16] .skip))))) (.ops r45_6))))
def r45_7:RC:=b45_7
def r45_8:List RI:=[on 4 (.mov (ci (-1)))]
def r45:RC:=(So r45_0 (.seq (So r45_1 (.block 0 (.loop r45_7))) (So r45_8 .ret)))
def F45:FnC:=⟨r45,19,[.tmp 4],[],[]⟩
def r46_0:List RI:=[oo 2 (.box (.t 0)) [0],oo 3 (.mov (.c (.bool false))) [3]]
def r46_1:List FI:=[Fs 0 4 (Fa 0 1),Fs 1 5 (Ld 4),Fs 2 6 (Fa 0 2),Fs 3 7 (Ld 6),Fz 4 8 (Ca 47 [.t 7]),Fs 5 9 (Bb .eql 5 8),Fm 6 10 9,Fi 7 11 10 true (Fa 2 1),Fi 8 12 10 true (Ld 11),Fi 9 13 10 true (Ln 12),Fi 10 14 10 true (Bc .gtr 13 1),Fs 11 15 (Pf 10 14),Fm 12 16 15,Fi 13 17 16 true (Fa 2 1),Fi 14 18 16 true (Ld 17),Fi 15 19 16 true (.iaddrL 1 (.t 18) (ci 1)),Fi 16 20 16 true (Ld 19),Fi 17 21 16 true (Fa 3 2),Fi 18 22 16 true (Ld 21),⟨19,false,(xi 23 16 true (Ca 48 [.t 20,.t 22]))⟩,Fs 20 24 (Pf 16 23),Fm 21 25 24,Fi 22 26 25 true (Fa 3 1),Fi 23 27 25 true (Ld 26),Fi 24 28 25 true (.b2s (.t 27)),Fi 25 29 25 true (Fa 1 2),Fi 26 30 25 true (Ld 29),Fi 27 31 25 true (.bin .add (.t 30) (.c (.str [32]))),Fi 28 32 25 true (Fa 2 2),Fi 29 33 25 true (Ld 32),⟨30,false,(xi 34 25 true (Ca 49 [.t 33]))⟩,Fi 31 35 25 true (Bb .add 31 34),Fi 32 36 25 true (Bb .eql 28 35),Fs 33 37 (Pf 25 36),Fm 34 3 37]
def r46:RC:=(So r46_0 (.seq (.flt [0,1,0,4,12,31,63,127,255,511,1023,2047,4095,8191,16383,32767,65535,8191,139263,524287,1048575,2097151,4194303,8388607,16777215,4194303,37748735,104857599,4194303,272629759,809500671,2118123519,4294967295,8589934591,17179869183] [] r46_1 [1,2,4,5,6,7,8,9,10,11,12,13,14,15,16,17,18,19,20,21,22,23,24,25,26,27,28,29,30,31,32,33,34,35,36,37]) .ret))
def F46:FnC:=⟨r46,38,[.tmp 3],[],[]⟩
def r47_0:List RI:=[oo 2 (.mov (ci 0)) [2]]
def r47_1:List RI:=[om 3 0,oo 4 (Bc .lss 3 0) [3],omk 5 4,.grp 5 false [(xi 6 5 false (Mv 0)),(xi 7 5 false (Bc .geq 6 5))] [6],oo 8 (Pt 5 7) [5,7]]
def r47_2:List RI:=[on 2 (.mov (ci (-1)))]
def r47_3:List RI:=[omk 9 0,oo 10 (.iaddrA 5 1 (.c (.pp gtab0)) (.t 9)) [9],oo 11 (Ld 10) [10],omk 2 11]
def r47:RC:=(So r47_0 (.seq (So r47_1 (Kc 8 (Kk [0,8] (So r47_2 .ret)) (Kk [8] .skip))) (So r47_3 .ret)))
def F47:FnC:=⟨r47,12,[.tmp 2],[],[]⟩
def r48_0:List RI:=[oo 4 (.mov (.c (.bool false))) [4]]
def r48_1:List RI:=[omk 5 0,oo 6 (.b2s (.t 5)) [5],omk 7 1,oo 8 (.b2s (.t 7)) [7],oo 9 (Bb .eql 6 8) [6,8],omk 4 9]
def r48:RC:=(So r48_0 (So r48_1 .ret))
def F48:FnC:=⟨r48,10,[.tmp 4],[],[]⟩
def r49_0:List RI:=[oo 2 (.mov (.c (.str []))) [2]]
def r49_1:List RI:=[omk 3 0,oo 4 (Ca 91 [.t 3]) [3],omk 2 4]
def r49:RC:=(So r49_0 (So r49_1 .ret))
def F49:FnC:=⟨r49,5,[.tmp 2],[],[]⟩
def r50_0:List RI:=[oo 1 (.box (.t 0)) [0],oo 2 (.mov (.c (.bool false))) [2]]
def r50_1:List RI:=[on 8 (Fa 1 1),oo 9 (Ld 8) [8],oo 10 (Bc .neq 9 1) [9],omk 11 10,.grp 11 true [(xi 12 11 true (Fa 1 1)),(xi 13 11 true (Ld 12)),(xi 14 11 true (Bc .neq 13 5))] [12,13],oo 15 (Pf 11 14) [11,14],omk 3 15]
def r50_2:List RI:=[on 16 (Fa 1 1),oo 17 (Ld 16) [16]]
def r50_3:List RI:=[on 19 (Bc .eql 17 1),omk 18 19]
def r50_4:List RI:=[on 2 (.mov (.c (.bool true)))]
def r50_5:List RI:=[on 21 (Bc .eql 17 2),omk 20 21]
def r50_6:List FI:=[Fs 0 22 (Fa 3 1),Fs 1 23 (Ld 22),Fz 2 24 (.mkB (ci 4) (ci 4)),Fz 3 25 (Ca 48 [.t 23,.t 24]),Fs 4 26 (.un .not (.t 25))]
def r50_7:List RI:=[on 2 (.mov (.c (.bool false)))]
def r50_8:List RI:=[on 28 (Bc .eql 17 3),omk 27 28]
def r50_9:List RI:=[on 29 (Fa 3 1),oo 30 (Ld 29) [29],oo 31 (Ln 30) [30],oo 32 (Bc .eql 31 0) [31]]
def r50_10:List RI:=[on 2 (.mov (.c (.bool false)))]
def r50_11:List RI:=[on 33 (Fa 3 1),oo 34 (Ld 33) [33],on 35 (Ln 34),on 36 (.mov (ci 0))]
def r50_12:List RI:=[on 37 (Bb .lss 36 35)]
def r50_13:List RI:=[on 38 (Ia 1 34 36),oo 39 (Ld 38) [38],omk 5 39]
def r50_14:List RI:=[om 40 5,oo 41 (.bin .lss (.t 40) (.c (.u8 32))) [40],omk 42 41,.grp 42 false [(xi 43 42 false (Mv 5)),(xi 44 42 false (.bin .gtr (.t 43) (.c (.u8 126))))] [5,43],oo 45 (Pt 42 44) [42,44]]
def r50_15:List RI:=[on 2 (.mov (.c (.bool false)))]
def r50_16:List RI:=[oo 46 (Bc .add 36 1) [36],omk 36 46]
def b50_17:RC:=(So r50_12 (.seq (Kc 37 (Kk [37] .skip) (Kk [34,35,36,37] (.exit 1))) (.seq (.block 2 (So r50_13 (So r50_14 (Kc 45 (Kk [1,3,34,35,36,45] (So r50_15 .ret)) (Kk [45] .skip))))) (.ops r50_16))))
def r50_17:RC:=b50_17
def r50_18:List RI:=[on 48 (Bc .eql 17 4),omk 47 48]
def r50_19:List RI:=[oo 49 (Bc .eql 17 5) [17],omk 47 49]
def r50_20:List RI:=[on 2 (.mov (.c (.bool false)))]
def r50_21:List RI:=[on 50 (Fa 2 1),oo 51 (Ld 50) [50],oo 52 (Ln 51) [51],oo 53 (.mini (.t 52) (ci 2)) [52],on 54 (.mov (ci 0))]
def r50_22:List RI:=[on 55 (Bb .lss 54 53)]
def r50_23:List RI:=[om 56 54,omk 6 56]
def r50_24:List RI:=[on 57 (Fa 2 1),oo 58 (Ld 57) [57],om 59 6,oo 60 (Ia 1 58 59) [58,59],oo 61 (Ld 60) [60],omk 7 61]
def r50_25:List RI:=[om 62 7,oo 63 (Ln 62) [62],oo 64 (Bc .gtr 63 0) [63],omk 65 64,.grp 65 true [(xi 66 65 true (Mv 3)),(xi 67 65 true (.un .not (.t 66))),(xi 68 65 true (Mv 67))] [66,67],.grp 68 false [(xi 69 68 false (Mv 7)),(xi 70 68 false (Mv 6)),(xi 71 68 false (Fa 3 1)),(xi 72 68 false (Ld 71)),(xi 73 68 false (Ca 69 [.t 70,.t 72])),(xi 74 68 false (Ca 48 [.t 69,.t 73])),(xi 75 68 false (.un .not (.t 74)))] [6,7,69,70,71,72,73,74],.grp 65 true [(xi 76 65 true (Pt 68 75))] [68,75],oo 77 (Pf 65 76) [65,76]]
def r50_26:List RI:=[on 2 (.mov (.c (.bool false)))]
def r50_27:List RI:=[oo 78 (Bc .add 54 1) [54],omk 54 78]
def b50_28:RC:=(So r50_22 (.seq (Kc 55 (Kk [55] .skip) (Kk [1,3,53,54,55] (.exit 3))) (.seq (.block 4 (So r50_23 (So r50_24 (So r50_25 (Kc 77 (Kk [1,3,53,54,77] (So r50_26 .ret)) (Kk [77] .skip)))))) (.ops r50_27))))
def r50_28:RC:=b50_28
def r50_29:List RI:=[on 2 (.mov (.c (.bool true)))]
def r50:RC:=(So r50_0 (So r50_1 (.seq (So r50_2 (.block 0 (So r50_3 (Kc 18 (Kk [1,3,17,18] (So r50_4 .ret)) (Kk [18] (So r50_5 (Kc 20 (Kk [17,20] (.seq (.flt [0,1,0,7,15] [124] r50_6 [22,23,24,25]) (Kc 26 (Kk [1,3,26] (So r50_7 .ret)) (Kk [26] .skip)))) (Kk [20] (So r50_8 (Kc 27 (Kk [17,27] (.seq (So r50_9 (Kc 32 (Kk [1,3,32] (So r50_10 .ret)) (Kk [32] .skip))) (So r50_11 (.block 1 (.loop r50_17))))) (Kk [27] (.seq (So r50_18 (Kc 47 (Kk [17] .skip) (Kk [47] (.ops r50_19)))) (Kc 47 (Kk [47] .skip) (Kk [1,3,47] (So r50_20 .ret))))))))))))))) (.seq (So r50_21 (.block 3 (.loop r50_28))) (So r50_29 .ret)))))
def F50:FnC:=⟨r50,79,[.tmp 2],[],[]⟩
def r51_0:List RI:=[oo 4 (.mov (ci 0)) [4]]
def r51_1:List RI:=[om 6 0,oo 7 (Ln 6) [6],on 8 (.mov (ci 0))]
def r51_2:List RI:=[on 9 (Bb .lss 8 7)]
def r51_3:List RI:=[om 10 8,omk 5 10]
def r51_4:List RI:=[om 11 1,om 12 0,om 13 5,oo 14 (Ia 4 12 13) [12,13],oo 15 (.load 4 true (.t 14)) [14],oo 16 (.call (.t 11) [.t 15]) [11,15]]
def r51_5:List RI:=[omk 17 5,omk 4 17]
def r51_6:List RI:=[oo 18 (Bc .add 8 1) [8],omk 8 18]
def b51_7:RC:=(So r51_2 (.seq (Kc 9 (Kk [9] .skip) (Kk [0,1,7,8,9] (.exit 0))) (.seq (.block 1 (So r51_3 (So r51_4 (Kc 16 (Kk [0,1,7,8,16] (So r51_5 .ret)) (Kk [5,16] .skip))))) (.ops r51_6))))
def r51_7:RC:=b51_7
def r51_8:List RI:=[on 4 (.mov (ci (-1)))]
def r51:RC:=(So r51_0 (.seq (So r51_1 (.block 0 (.loop r51_7))) (So r51_8 .ret)))
def F51:FnC:=⟨r51,19,[.tmp 4],[],[]⟩
def r52_0:List RI:=[oo 2 (.box (.t 0)) [0],oo 3 (.mov (.c (.bool false))) [3]]
def r52_1:List RI:=[oo 4 (.load 4 true (.t 2)) [2],oo 5 (Fa 3 1) [1],oo 6 (Ld 5) [5],oo 7 (Ca 53 [.t 4,.t 6]) [4,6],omk 3 7]
def r52:RC:=(So r52_0 (So r52_1 .ret))
def F52:FnC:=⟨r52,8,[.tmp 3],[],[]⟩
def r53_0:List RI:=[oo 2 (.box (.t 0)) [0],oo 4 (.mov (.c (.bool false))) [4]]
def r53_1:List RI:=[on 8 (.load 4 true (.t 2)),oo 9 (Ca 90 [.t 8]) [8],oo 10 (Bc .neq 9 0) [9]]
def r53_2:List RI:=[on 4 (.mov (.c (.bool false)))]
def r53_3:List RI:=[on 11 (Fa 0 2),oo 12 (Ld 11) [11]]
def r53_4:List RI:=[on 14 (Bc .eql 12 2),omk 13 14]
def r53_5:List RI:=[omk 15 1,oo 16 (.b2s (.t 15)) [15],oo 17 (Fa 1 2) [2],oo 18 (Ld 17) [17],oo 19 (Bb .eql 16 18) [16,18],omk 4 19]
def r53_6:List RI:=[on 21 (Bc .eql 12 3),omk 20 21]
def r53_7:List RI:=[oo 22 (Fa 1 2) [2],oo 23 (Ld 22) [22],omk 24 1,oo 25 (Ca 92 [.t 23,.t 24]) [23,24],omk 4 25]
def r53_8:List RI:=[oo 27 (Bc .eql 12 4) [12],omk 26 27]
def r53_9:List RI:=[omk 29 1,oo 30 (.b2s (.t 29)) [29],on 31 (Fa 1 2),oo 32 (Ld 31) [31],oo 33 (Ca 93 [.t 30,.t 32]) [30,32],omk 28 33,on 34 (.ext (.t 28) 0),oo 35 (.ext (.t 28) 1) [28],omk 5 34,omk 6 35]
def r53_10:List RI:=[omk 36 5,oo 37 (Ca 94 [.t 36]) [36],omk 7 37]
def r53_11:List RI:=[omk 38 6,omk 39 38,.grp 39 true [(xi 40 39 true (Mv 7)),(xi 41 39 true (Fa 2 2)),(xi 42 39 true (Ld 41)),(xi 43 39 true (Bb .geq 40 42))] [40,41,42],oo 44 (Pf 39 43) [39,43],omk 45 44,.grp 45 true [(xi 46 45 true (Mv 7)),(xi 47 45 true (Fa 3 2)),(xi 48 45 true (Ld 47)),(xi 49 45 true (Bb .leq 46 48))] [2,7,46,47,48],oo 50 (Pf 45 49) [45,49],omk 4 50]
def r53_12:List RI:=[on 4 (.mov (.c (.bool true)))]
def r53:RC:=(So r53_0 (.seq (So r53_1 (Kc 10 (Kk [1,2,10] (So r53_2 .ret)) (Kk [10] .skip))) (.seq (So r53_3 (.block 0 (So r53_4 (Kc 13 (Kk [12,13] (So r53_5 .ret)) (Kk [13] (So r53_6 (Kc 20 (Kk [12,20] (So r53_7 .ret)) (Kk [20] (So r53_8 (Kc 26 (Kk [26] (So r53_9 (So r53_10 (So r53_11 .ret)))) (Kk [1,2,26] .skip))))))))))) (So r53_12 .ret))))
def F53:FnC:=⟨r53,51,[.tmp 4],[],[]⟩
def r55_0:List RI:=[oo 2 (.mov (ci 0)) [2]]
def r55_1:List RI:=[omk 3 0]
def r55_2:List RI:=[on 5 (Bc .eql 3 1),omk 4 5]
def r55_3:List RI:=[on 2 (.mov (ci 0))]
def r55_4:List RI:=[on 7 (Bc .eql 3 2),omk 6 7]
def r55_5:List RI:=[on 2 (.mov (ci 4))]
def r55_6:List RI:=[on 9 (Bc .eql 3 3),omk 8 9]
def r55_7:List RI:=[on 2 (.mov (ci 8))]
def r55_8:List RI:=[oo 11 (Bc .eql 3 4) [3],omk 10 11]
def r55_9:List RI:=[on 2 (.mov (ci 9))]
def r55_10:List RI:=[on 2 (.mov (ci (-1)))]
def r55:RC:=(So r55_0 (.seq (So r55_1 (.block 0 (So r55_2 (Kc 4 (Kk [3,4] (So r55_3 .ret)) (Kk [4] (So r55_4 (Kc 6 (Kk [3,6] (So r55_5 .ret)) (Kk [6] (So r55_6 (Kc 8 (Kk [3,8] (So r55_7 .ret)) (Kk [8] (So r55_8 (Kc 10 (Kk [10] (So r55_9 .ret)) (Kk [10] .skip)))))))))))))) (So r55_10 .ret)))
def F55:FnC:=⟨r55,12,[.tmp 2],[],[]⟩
def r56_0:List RI:=[oo 4 (.mov (.c (.byt [] .clip))) [4]]
def r56_1:List RI:=[omk 5 0,.tks (xs 6 (.s2b (.t 5))) [5],on 7 (.litB [(.c (.u8 32))]),oo 8 (.app [.u8 0] 1 (.t 6) (.t 7)) [6,7],omk 9 1,oo 10 (Ca 97 [.t 9]) [9],oo 11 (.app [.u8 0] 1 (.t 8) (.t 10)) [8,10],omk 4 11]
def r56:RC:=(So r56_0 (So r56_1 .ret))
def F56:FnC:=⟨r56,12,[.tmp 4],[],[]⟩
def r59_0:List RI:=[oo 1 (.box (.t 0)) [0],oo 2 (.mov (.c (.byt [] .clip))) [2]]
def r59_1:List RI:=[oo 4 (.load 7 true (.t 1)) [1],oo 5 (Ca 101 [.t 4]) [4],omk 3 5]
def r59_2:List RI:=[om 6 3,oo 7 (Ln 6) [6],oo 8 (Bc .eql 7 0) [7]]
def r59_3:List RI:=[on 2 (.mov (.c (.byt [] .clip)))]
def r59_4:List RI:=[omk 9 3,oo 10 (.lit 1 [.t 9]) [9],oo 11 (Ca 102 [ci 21,.t 10]) [10],omk 2 11]
def r59:RC:=(So r59_0 (So r59_1 (.seq (So r59_2 (Kc 8 (Kk [3,8] (So r59_3 .ret)) (Kk [8] .skip))) (So r59_4 .ret))))
def F59:FnC:=⟨r59,12,[.tmp 2],[],[]⟩
def r60_0:List RI:=[oo 6 (.mov (ci 0)) [6],oo 7 (.mov (.c (.bool false))) [7]]
def r60_1:List RI:=[om 12 0,oo 13 (Ln 12) [12],omk 8 13]
def r60_2:List RI:=[om 14 8,on 9 (.mov (ci 0)),omk 10 14]
def r60_3:List RI:=[om 15 9,om 16 10,oo 17 (Bb .lss 15 16) [15,16]]
def r60_4:List RI:=[om 18 9,om 19 10,oo 20 (Bb .add 18 19) [18,19],oo 21 (.toInt .u64 (.t 20)) [20],oo 22 (.bin .shr (.t 21) (.c (.int .u64 1))) [21],oo 23 (.toInt .i64 (.t 22)) [22],omk 11 23]
def r60_5:List RI:=[om 24 2,om 25 0,om 26 11,oo 27 (Ia 1 25 26) [25,26],oo 28 (Ld 27) [27],om 29 1,oo 30 (.call (.t 24) [.t 28,.t 29]) [24,28,29],oo 31 (Bc .lss 30 0) [30]]
def r60_6:List RI:=[omk 32 11,oo 33 (Bc .add 32 1) [32],omk 9 33]
def r60_7:List RI:=[omk 34 11,omk 10 34]
def b60_8:RC:=(.seq (So r60_3 (Kc 17 (Kk [17] .skip) (Kk [10,17] (.exit 0)))) (.block 1 (So r60_4 (So r60_5 (Kc 31 (Kk [9,31] (.ops r60_6)) (Kk [10,31] (.ops r60_7)))))))
def r60_8:RC:=b60_8
def r60_9:List RI:=[om 35 9,om 36 9,omk 37 8,oo 38 (Bb .lss 36 37) [36,37],omk 39 38,.grp 39 true [(xi 40 39 true (Mv 2)),(xi 41 39 true (Mv 0)),(xi 42 39 true (Mv 9)),(xi 43 39 true (Ia 1 41 42)),(xi 44 39 true (Ld 43)),(xi 45 39 true (Mv 1)),(xi 46 39 true (.call (.t 40) [.t 44,.t 45])),(xi 47 39 true (Bc .eql 46 0))] [0,1,2,9,40,41,42,43,44,45,46],oo 48 (Pf 39 47) [39,47],omk 6 35,omk 7 48]
def r60:RC:=(So r60_0 (So r60_1 (So r60_2 (.seq (.block 0 (.loop r60_8)) (So r60_9 .ret)))))
def F60:FnC:=⟨r60,49,[.tmp 6,.tmp 7],[],[]⟩
def r62_0:List RI:=[oo 6 (.mov (.c (.lst 1 [] .clip))) [6]]
def r62_1:List RI:=[om 10 0,om 11 1,oo 12 (.slcL 1 (.t 10) (some (.t 11)) none none) [10,11,12]]
def r62_2:List RI:=[om 13 2,oo 14 (Ln 13) [13],omk 7 14]
def r62_3:List RI:=[om 15 7,oo 16 (Bc .eql 15 0) [15]]
def r62_4:List RI:=[omk 17 0,omk 6 17]
def r62_5:List RI:=[om 18 0,oo 19 (Ln 18) [18],omk 8 19]
def r62_6:List RI:=[om 20 1,om 21 8,oo 22 (Bb .eql 20 21) [20,21]]
def r62_7:List RI:=[omk 23 0,omk 24 2,oo 25 (.app [.byt [] .clip] 24 (.t 23) (.t 24)) [23,24],omk 6 25]
def r62_8:List RI:=[om 26 8,om 27 7,oo 28 (Bb .add 26 27) [26,27],om 29 0,oo 30 (.cap (.t 29)) [29],oo 31 (Bb .gtr 28 30) [28,30]]
def r62_9:List RI:=[om 32 0,om 33 1,oo 34 (.slcL 1 (.t 32) none (some (.t 33)) none) [32,33],omk 35 8,om 36 7,oo 37 (Bb .add 35 36) [35,36],om 38 1,oo 39 (Bb .sub 37 38) [37,38],oo 40 (.appM [.byt [] .clip] 24 (.t 34) (.t 39)) [34,39],omk 9 40]
def r62_10:List RI:=[om 41 9,om 42 1,oo 43 (.slcL 1 (.t 41) (some (.t 42)) none none) [41,42],omk 44 2,oo 45 (.cpy 1 (.t 43) (.t 44)) [43,44,45]]
def r62_11:List FI:=[Fm 0 46 9,Fm 1 47 1,Fm 2 48 7,Fs 3 49 (Bb .add 47 48),Fs 4 50 (.slcL 1 (.t 46) (some (.t 49)) none none),Fm 5 51 0,Fm 6 52 1,Fs 7 53 (.slcL 1 (.t 51) (some (.t 52)) none none),Fz 8 54 (.cpy 1 (.t 50) (.t 53))]
def r62_12:List RI:=[omk 55 9,omk 6 55]
def r62_13:List RI:=[omk 56 0,om 57 8,om 58 7,oo 59 (Bb .add 57 58) [57,58],oo 60 (.slcL 1 (.t 56) none (some (.t 59)) none) [56,59],omk 0 60]
def r62_14:List RI:=[om 61 2,om 62 0,om 63 1,om 64 7,oo 65 (Bb .add 63 64) [63,64],oo 66 (.slcL 1 (.t 62) (some (.t 65)) none none) [62,65],oo 67 (.ovl (.t 61) (.t 66)) [61,66],oo 68 (.un .not (.t 67)) [67]]
def r62_15:List FI:=[Fm 0 69 0,Fm 1 70 1,Fm 2 71 7,Fs 3 72 (Bb .add 70 71),Fs 4 73 (.slcL 1 (.t 69) (some (.t 72)) none none),Fm 5 74 0,Fm 6 75 1,Fs 7 76 (.slcL 1 (.t 74) (some (.t 75)) none none),Fz 8 77 (.cpy 1 (.t 73) (.t 76))]
def r62_16:List RI:=[om 78 0,omk 79 1,oo 80 (.slcL 1 (.t 78) (some (.t 79)) none none) [78,79],omk 81 2,oo 82 (.cpy 1 (.t 80) (.t 81)) [80,81,82]]
def r62_17:List RI:=[omk 83 0,omk 6 83]
def r62_18:List RI:=[om 84 0,omk 85 8,oo 86 (.slcL 1 (.t 84) (some (.t 85)) none none) [84,85],omk 87 2,oo 88 (.cpy 1 (.t 86) (.t 87)) [86,87,88]]
def r62_19:List RI:=[om 89 0,omk 90 1,oo 91 (.slcL 1 (.t 89) (some (.t 90)) none none) [89,90],omk 92 7,oo 93 (Ca 105 [.t 91,.t 92]) [91,92,93]]
def r62_20:List RI:=[omk 94 0,omk 6 94]
def r62:RC:=(So r62_0 (So r62_1 (So r62_2 (.seq (So r62_3 (Kc 16 (Kk [1,2,7,16] (So r62_4 .ret)) (Kk [16] .skip))) (So r62_5 (.seq (So r62_6 (Kc 22 (Kk [1,7,8,22] (So r62_7 .ret)) (Kk [22] .skip))) (.seq (So r62_8 (Kc 31 (Kk [31] (So r62_9 (So r62_10 (.seq (.flt [0,0,0,6,15,0,0,96,255] [] r62_11 [0,1,7,46,47,48,49,50,51,52,53,54]) (So r62_12 .ret))))) (Kk [31] .skip))) (So r62_13 (.seq (So r62_14 (Kc 68 (Kk [8,68] (.seq (.flt [0,0,0,6,15,0,0,96,255] [] r62_15 [7,69,70,71,72,73,74,75,76,77]) (So r62_16 (So r62_17 .ret)))) (Kk [68] .skip))) (So r62_18 (So r62_19 (So r62_20 .ret))))))))))))
def F62:FnC:=⟨r62,95,[.tmp 6],[0],[]⟩
def r63_0:List RI:=[oo 4 (.mov (.c (.bool false))) [4]]
def r63_1:List RI:=[on 5 (.mov (ci 0))]
def r63_2:List RI:=[om 6 5,om 7 0,oo 8 (Ln 7) [7],oo 9 (Bb .lss 6 8) [6,8],omk 10 9,.grp 10 true [(xi 11 10 true (Mv 5)),(xi 12 10 true (Mv 1)),(xi 13 10 true (Ln 12)),(xi 14 10 true (Bb .lss 11 13))] [11,12,13],oo 15 (Pf 10 14) [10,14]]
def r63_3:List FI:=[Fm 0 18 0,Fm 1 19 5,Fs 2 20 (Ia 1 18 19),Fs 3 21 (Ld 20),Fm 4 22 1,Fm 5 23 5,Fs 6 24 (Ia 1 22 23),Fs 7 25 (Ld 24),Fs 8 26 (Bb .neq 21 25)]
def r63_4:List FI:=[Fm 0 27 0,Fm 1 28 5,Fs 2 29 (Ia 1 27 28),Fs 3 30 (Ld 29),Fm 4 31 1,Fm 5 32 5,Fs 6 33 (Ia 1 31 32),Fs 7 34 (Ld 33),Fs 8 35 (Bb .lss 30 34),Fm 9 4 35]
def r63_5:List RI:=[omk 16 5,oo 17 (Bc .add 16 1) [16],omk 5 17]
def b63_6:RC:=(.seq (So r63_2 (Kc 15 (Kk [15] .skip) (Kk [5,15] (.exit 0)))) (.seq (.block 1 (.seq (.flt [0,0,3,7,0,0,48,112,255] [] r63_3 [18,19,20,21,22,23,24,25]) (Kc 26 (Kk [26] (.seq (.flt [0,0,3,7,0,0,48,112,255,511] [] r63_4 [0,1,5,27,28,29,30,31,32,33,34,35]) .ret)) (Kk [26] .skip)))) (.ops r63_5)))
def r63_6:RC:=b63_6
def r63_7:List RI:=[omk 36 0,oo 37 (Ln 36) [36],omk 38 1,oo 39 (Ln 38) [38],oo 40 (Bb .lss 37 39) [37,39],omk 4 40]
def r63:RC:=(So r63_0 (.seq (So r63_1 (.block 0 (.loop r63_6))) (So r63_7 .ret)))
def F63:FnC:=⟨r63,41,[.tmp 4],[],[]⟩
def r65_0:List RI:=[on 4 (.new (.rc Zq1))]
def r65_1:List SI:=[(xm 7 1),(xs 8 (Ca 108 [])),(xm 9 0),(xs 10 (Ca 37 [.t 9,ci 5])),(xs 11 (.idxA 5 1 false (.t 8) (.t 10))),(xm 12 0),(xs 13 (Ca 37 [.t 12,ci 5])),(xs 14 (.build Zq1 [(0,1,(.t 7)),(1,1,(.t 11)),(2,1,(.t 13))])),(xs 5 (.new (.rc Zq1))),⟨none,none,.store 4 (.t 5) (.t 14)⟩]
def r65_2:List RI:=[om 15 0,oo 16 (Ca 37 [.t 15,ci 9]) [15],oo 17 (Bc .eql 16 8) [16]]
def r65_3:List RI:=[om 18 0,oo 19 (Ca 37 [.t 18,ci 3]) [18],oo 20 (.bin .sub (ci 1000000) (.t 19)) [19],on 21 (Fa 2 5),.op ⟨none,none,.store 1 (.t 21) (.t 20)⟩ [20,21]]
def r65_4:List RI:=[omk 22 1,oo 23 (Bc .eql 22 4) [22]]
def r65_5:List RI:=[omk 24 0,oo 25 (Ca 109 [.t 24]) [24],on 26 (Fa 3 5),.op ⟨none,none,.store 1 (.t 26) (.t 25)⟩ [25,26]]
def r65_6:List RI:=[oo 27 (.load 4 true (.t 5)) [5],.op ⟨none,none,.store 4 (.t 4) (.t 27)⟩ [27]]
def r65_7:List RI:=[om 28 0,oo 29 (Ca 37 [.t 28,ci 7]) [28],oo 30 (.mkB (.t 29) (.t 29)) [29],on 31 (Fa 3 5),.op ⟨none,none,.store 1 (.t 31) (.t 30)⟩ [30,31]]
def r65_8:List RI:=[on 6 (.mov (ci 0))]
def r65_9:List RI:=[om 32 6,on 33 (Fa 3 5),oo 34 (Ld 33) [33],oo 35 (Ln 34) [34],oo 36 (Bb .lss 32 35) [32,35]]
def r65_10:List FI:=[Fs 0 39 (Fa 3 5),Fs 1 40 (Ld 39),Fm 2 41 6,Fm 3 42 0,Fz 4 43 (Ca 37 [.t 42,ci 256]),Fs 5 44 (.toInt .u8 (.t 43)),Fs 6 45 (Ia 1 40 41),⟨7,false,⟨none,none,.store 1 (.t 45) (.t 44)⟩⟩]
def r65_11:List RI:=[omk 37 6,oo 38 (Bc .add 37 1) [37],omk 6 38]
def b65_12:RC:=(.seq (So r65_9 (Kc 36 (Kk [36] .skip) (Kk [0,6,36] (.exit 0)))) (.seq (.block 1 (.flt [0,1,0,0,8,24,63,127] [] r65_10 [39,40,41,42,43,44,45])) (.ops r65_11)))
def r65_12:RC:=b65_12
def r65_13:List RI:=[oo 46 (.load 4 true (.t 5)) [5],.op ⟨none,none,.store 4 (.t 4) (.t 46)⟩ [46]]
def r65:RC:=(So r65_0 (.seq (.drw [0,0,0,6,14,0,46,127,0,511] [105] r65_1 [7,8,9,10,11,12,13,14]) (.seq (So r65_2 (Kc 17 (Kk [17] (.ops r65_3)) (Kk [17] .skip))) (.seq (So r65_4 (Kc 23 (Kk [23] (So r65_5 (So r65_6 .ret))) (Kk [23] .skip))) (So r65_7 (.seq (So r65_8 (.block 0 (.loop r65_12))) (So r65_13 .ret)))))))
def F65:FnC:=⟨r65,47,[.cell 4 4 true],[],[]⟩
def r68_0:List RI:=[oo 1 (.box (.t 0)) [0],oo 2 (.mov (ci 0)) [2]]
def r68_1:List RI:=[on 4 (Fa 0 1),oo 5 (Ld 4) [4],oo 6 (Bc .lss 5 1) [5],omk 7 6,.grp 7 false [(xi 8 7 false (Fa 0 1)),(xi 9 7 false (Ld 8)),(xi 10 7 false (Bc .gtr 9 4))] [8,9],oo 11 (Pt 7 10) [7,10],omk 12 11,.grp 12 false [(xi 13 12 false (Fa 2 1)),(xi 14 12 false (Ld 13)),(xi 15 12 false (Bc .lss 14 0))] [13,14],oo 16 (Pt 12 15) [12,15],omk 17 16,.grp 17 false [(xi 18 17 false (Fa 2 1)),(xi 19 17 false (Ld 18)),(xi 20 17 false (Bc .gtr 19 1000000))] [18,19],oo 21 (Pt 17 20) [17,20],omk 3 21]
def r68_2:List RI:=[on 2 (.mov (ci 1))]
def r68_3:List RI:=[on 23 (Fa 1 1),oo 24 (Ld 23) [23],oo 25 (Ca 111 [.t 24]) [24],oo 26 (.un .not (.t 25)) [25],omk 22 26]
def r68_4:List RI:=[on 2 (.mov (ci 43))]
def r68_5:List RI:=[on 28 (Fa 3 1),oo 29 (Ld 28) [28],oo 30 (Ln 29) [29],oo 31 (Bc .gtr 30 64) [30],omk 27 31]
def r68_6:List RI:=[on 2 (.mov (ci 4))]
def r68_7:List RI:=[on 33 (Fa 0 1),oo 34 (Ld 33) [33],oo 35 (Bc .eql 34 4) [34],omk 36 35,.grp 36 true [(xi 37 36 true (.load 4 true (.t 1))),(xi 38 36 true (Ca 112 [.t 37])),(xi 39 36 true (Ln 38)),(xi 40 36 true (Bc .eql 39 0))] [1,37,38,39],oo 41 (Pf 36 40) [36,40],omk 32 41]
def r68_8:List RI:=[on 2 (.mov (ci 40))]
def r68_9:List RI:=[on 2 (.mov (ci 0))]
def r68:RC:=(So r68_0 (.seq (.block 0 (So r68_1 (Kc 3 (Kk [1,3] (So r68_2 .ret)) (Kk [3] (So r68_3 (Kc 22 (Kk [1,22] (So r68_4 .ret)) (Kk [22] (So r68_5 (Kc 27 (Kk [1,27] (So r68_6 .ret)) (Kk [27] (So r68_7 (Kc 32 (Kk [32] (So r68_8 .ret)) (Kk [32] .skip))))))))))))) (So r68_9 .ret)))
def F68:FnC:=⟨r68,42,[.tmp 2],[],[]⟩
def r69_0:List RI:=[oo 4 (.mov (.c (.byt [] .clip))) [4]]
def r69_1:List RI:=[omk 9 0]
def r69_2:List RI:=[on 11 (Bc .eql 9 0),omk 10 11]
def r69_3:List RI:=[on 12 (.build [.int .u32 0,.int .u32 0,.int .u32 0,.int .u32 0,.int .u32 0] [(0,1,(.c (.int .u32 1732584193))),(1,1,(.c (.int .u32 4023233417))),(2,1,(.c (.int .u32 2562383102))),(3,1,(.c (.int .u32 271733878))),(4,1,(.c (.int .u32 3285377520)))]),on 5 (.new (.arr 1 (List.replicate 5 [.int .u32 0]))),.op ⟨none,none,.store 5 (.t 5) (.t 12)⟩ [12]]
def r69_4:List RI:=[omk 13 1,oo 14 (Ca 113 [.t 13]) [13],omk 6 14]
def r69_5:List RI:=[om 15 6,oo 16 (Ln 15) [15],oo 17 (Bc .gtr 16 0) [16]]
def r69_6:List RI:=[om 20 6,oo 21 (.slcL 1 (.t 20) none (some (ci 64)) none) [20],oo 22 (Ca 114 [.t 5,.t 21]) [21,22]]
def r69_7:List RI:=[omk 18 6,oo 19 (.slcL 1 (.t 18) (some (ci 64)) none none) [18],omk 6 19]
def b69_8:RC:=(.seq (So r69_5 (Kc 17 (Kk [17] .skip) (Kk [6,17] (.exit 1)))) (.seq (.block 2 (.ops r69_6)) (.ops r69_7)))
def r69_8:RC:=b69_8
def r69_9:List RI:=[oo 23 (.slcA 5 1 (.t 5) none none none) [5],oo 24 (Ca 115 [.t 23]) [23],omk 4 24]
def r69_10:List RI:=[oo 26 (Bc .eql 9 1) [9],omk 25 26]
def r69_11:List RI:=[on 27 (.build [.int .u32 0,.int .u32 0,.int .u32 0,.int .u32 0,.int .u32 0,.int .u32 0,.int .u32 0,.int .u32 0] [(0,1,(.c (.int .u32 1779033703))),(1,1,(.c (.int .u32 3144134277))),(2,1,(.c (.int .u32 1013904242))),(3,1,(.c (.int .u32 2773480762))),(4,1,(.c (.int .u32 1359893119))),(5,1,(.c (.int .u32 2600822924))),(6,1,(.c (.int .u32 528734635))),(7,1,(.c (.int .u32 1541459225)))]),on 7 (.new (.arr 1 (List.replicate 8 [.int .u32 0]))),.op ⟨none,none,.store 8 (.t 7) (.t 27)⟩ [27]]
def r69_12:List RI:=[omk 28 1,oo 29 (Ca 113 [.t 28]) [28],omk 8 29]
def r69_13:List RI:=[om 30 8,oo 31 (Ln 30) [30],oo 32 (Bc .gtr 31 0) [31]]
def r69_14:List RI:=[om 35 8,oo 36 (.slcL 1 (.t 35) none (some (ci 64)) none) [35],oo 37 (Ca 116 [.t 7,.t 36]) [36,37]]
def r69_15:List RI:=[omk 33 8,oo 34 (.slcL 1 (.t 33) (some (ci 64)) none none) [33],omk 8 34]
def b69_16:RC:=(.seq (So r69_13 (Kc 32 (Kk [32] .skip) (Kk [8,32] (.exit 3)))) (.seq (.block 4 (.ops r69_14)) (.ops r69_15)))
def r69_16:RC:=b69_16
def r69_17:List RI:=[oo 38 (.slcA 8 1 (.t 7) none none none) [7],oo 39 (Ca 115 [.t 38]) [38],omk 4 39]
def r69_18:List RI:=[on 4 (.mov (.c (.byt [] .clip)))]
def r69:RC:=(So r69_0 (.seq (So r69_1 (.block 0 (So r69_2 (Kc 10 (Kk [9,10] (So r69_3 (.seq (So r69_4 (.block 1 (.loop r69_8))) (So r69_9 .ret)))) (Kk [10] (So r69_10 (Kc 25 (Kk [25] (So r69_11 (.seq (So r69_12 (.block 3 (.loop r69_16))) (So r69_17 .ret)))) (Kk [1,25] .skip)))))))) (So r69_18 .ret)))
def F69:FnC:=⟨r69,40,[.tmp 4],[],[]⟩
def r72_0:List RI:=[oo 2 (.box (.t 0)) [0],oo 3 (.box (.t 1)) [1],oo 4 (.mov (ci 0)) [4]]
def r72_1:List FI:=[Fs 0 5 (Fa 0 2),Fs 1 6 (Ld 5),Fs 2 7 (Fa 0 3),Fs 3 8 (Ld 7),Fs 5 10 (Fa 1 2),Fs 6 11 (Ld 10),Fs 7 12 (Fa 1 3),Fs 8 13 (Ld 12),Fs 10 15 (Fa 2 2),Fs 11 16 (Ld 15),Fs 12 17 (Fa 2 3),Fs 13 18 (Ld 17),Fs 15 20 (Fa 3 2),Fs 16 21 (Ld 20),Fs 17 22 (Fa 3 3),Fs 18 23 (Ld 22),Fz 4 9 (Ca 122 [.t 6,.t 8]),Fz 9 14 (Ca 123 [.t 11,.t 13]),Fz 14 19 (Ca 122 [.t 16,.t 18]),Fz 19 24 (Ca 61 [.t 21,.t 23]),Fs 20 25 (.lit 1 [.t 9,.t 14,.t 19,.t 24]),Fz 21 26 (Ca 121 [.t 25]),Fm 22 4 26]
def r72:RC:=(So r72_0 (.seq (.flt [0,1,0,4,15,0,32,0,128,511,0,1024,0,4096,16383,0,32768,0,131072,524287,1048575,2097151,4194303] [] r72_1 [2,3,5,6,7,8,9,10,11,12,13,14,15,16,17,18,19,20,21,22,23,24,25,26]) .ret))
def F72:FnC:=⟨r72,27,[.tmp 4],[],[]⟩
def r75_0:List RI:=[oo 2 (.mov (ci 0)) [2]]
def r75_1:List RI:=[om 8 0,oo 9 (Ln 8) [8],oo 10 (Bc .eql 9 0) [9],omk 11 10,.grp 11 false [(xi 12 11 false (Mv 0)),(xi 13 11 false (Ln 12)),(xi 14 11 false (Bc .gtr 13 8))] [12,13],oo 15 (Pt 11 14) [11,14]]
def r75_2:List RI:=[on 2 (.mov (ci 1))]
def r75_3:List RI:=[on 3 (.mov (.c (.bool false))),on 4 (.mov (.c (.bool false)))]
def r75_4:List RI:=[on 5 (.mov (ci 0))]
def r75_5:List RI:=[om 16 5,om 17 0,oo 18 (Ln 17) [17],oo 19 (Bb .lss 16 18) [16,18]]
def r75_6:List RI:=[om 22 0,om 23 5,oo 24 (Ia 4 22 23) [22,23],oo 25 (.load 4 true (.t 24)) [24],oo 26 (Ca 81 [.t 25]) [25],omk 6 26]
def r75_7:List RI:=[om 27 6,oo 28 (Bc .neq 27 0) [27]]
def r75_8:List RI:=[omk 29 6,omk 2 29]
def r75_9:List FI:=[Fm 0 30 5,Fs 1 31 (Bc .gtr 30 0),Fm 2 32 31,Fi 3 33 32 true (Mv 0),Fi 4 34 32 true (Mv 5),Fi 5 35 32 true (Ia 4 33 34),Fi 6 36 32 true (Fa 0 35),Fi 7 37 32 true (Ld 36),Fi 8 38 32 true (Mv 0),Fi 9 39 32 true (Mv 5),Fi 10 40 32 true (Bc .sub 39 1),Fi 11 41 32 true (Ia 4 38 40),Fi 12 42 32 true (Fa 0 41),Fi 13 43 32 true (Ld 42),Fi 14 44 32 true (Bb .lss 37 43),Fs 15 45 (Pf 32 44)]
def r75_10:List RI:=[on 2 (.mov (ci 41))]
def r75_11:List RI:=[on 7 (.mov (ci 0))]
def r75_12:List RI:=[om 46 7,om 47 5,oo 48 (Bb .lss 46 47) [46,47]]
def r75_13:List FI:=[Fm 0 51 0,Fm 1 52 7,Fs 2 53 (Ia 4 51 52),Fs 3 54 (Fa 0 53),Fs 4 55 (Ld 54),Fm 5 56 0,Fm 6 57 5,Fs 7 58 (Ia 4 56 57),Fs 8 59 (Fa 0 58),Fs 9 60 (Ld 59),Fs 10 61 (Bb .eql 55 60),Fm 11 62 61,Fi 12 63 62 true (Mv 0),Fi 13 64 62 true (Mv 7),Fi 14 65 62 true (Ia 4 63 64),Fi 15 66 62 true (Fa 1 65),Fi 16 67 62 true (Ld 66),Fi 17 68 62 true (Mv 0),Fi 18 69 62 true (Mv 5),Fi 19 70 62 true (Ia 4 68 69),Fi 20 71 62 true (Fa 1 70),Fi 21 72 62 true (Ld 71),Fi 22 73 62 true (Bb .eql 67 72),Fs 23 74 (Pf 62 73)]
def r75_14:List RI:=[on 2 (.mov (ci 42))]
def r75_15:List RI:=[omk 49 7,oo 50 (Bc .add 49 1) [49],omk 7 50]
def b75_16:RC:=(.seq (So r75_12 (Kc 48 (Kk [48] .skip) (Kk [7,48] (.exit 2)))) (.seq (.block 3 (.seq (.flt [0,0,3,7,15,0,0,96,224,480,1023,2047,4095,4095,16383,32767,65535,4095,4095,397311,921599,1970175,4194303,8388607] [] r75_13 [51,52,53,54,55,56,57,58,59,60,61,62,63,64,65,66,67,68,69,70,71,72,73]) (Kc 74 (Kk [0,3,4,5,7,74] (So r75_14 .ret)) (Kk [74] .skip)))) (.ops r75_15)))
def r75_16:RC:=b75_16
def r75_17:List RI:=[omk 75 3,omk 76 75,.grp 76 false [(xi 77 76 false (Mv 0)),(xi 78 76 false (Mv 5)),(xi 79 76 false (Ia 4 77 78)),(xi 80 76 false (Fa 0 79)),(xi 81 76 false (Ld 80)),(xi 82 76 false (Bc .eql 81 1))] [77,78,79,80,81],oo 83 (Pt 76 82) [76,82],omk 3 83]
def r75_18:List RI:=[omk 84 4,omk 85 84,.grp 85 false [(xi 86 85 false (Mv 0)),(xi 87 85 false (Mv 5)),(xi 88 85 false (Ia 4 86 87)),(xi 89 85 false (Fa 0 88)),(xi 90 85 false (Ld 89)),(xi 91 85 false (Bc .eql 90 3))] [86,87,88,89,90],oo 92 (Pt 85 91) [85,91],omk 4 92]
def r75_19:List RI:=[omk 20 5,oo 21 (Bc .add 20 1) [20],omk 5 21]
def b75_20:RC:=(.seq (So r75_5 (Kc 19 (Kk [19] .skip) (Kk [0,5,19] (.exit 0)))) (.seq (.block 1 (.seq (So r75_6 (So r75_7 (Kc 28 (Kk [0,3,4,5,28] (So r75_8 .ret)) (Kk [6,28] .skip)))) (.seq (.seq (.flt [0,1,3,7,7,31,63,127,7,7,519,1799,3847,7943,16383,32767] [] r75_9 [30,31,32,33,34,35,36,37,38,39,40,41,42,43,44]) (Kc 45 (Kk [0,3,4,5,45] (So r75_10 .ret)) (Kk [45] .skip))) (.seq (So r75_11 (.block 2 (.loop r75_16))) (So r75_17 (.ops r75_18)))))) (.ops r75_19)))
def r75_20:RC:=b75_20
def r75_21:List RI:=[omk 93 3,oo 94 (.un .not (.t 93)) [93],omk 95 94,.grp 95 false [(xi 96 95 false (Mv 4)),(xi 97 95 false (.un .not (.t 96)))] [4,96],oo 98 (Pt 95 97) [95,97]]
def r75_22:List RI:=[on 2 (.mov (ci 40))]
def r75_23:List RI:=[on 2 (.mov (ci 0))]
def r75:RC:=(So r75_0 (.seq (So r75_1 (Kc 15 (Kk [0,15] (So r75_2 .ret)) (Kk [15] .skip))) (So r75_3 (.seq (So r75_4 (.block 0 (.loop r75_20))) (.seq (So r75_21 (Kc 98 (Kk [98] (So r75_22 .ret)) (Kk [98] .skip))) (So r75_23 .ret))))))
def F75:FnC:=⟨r75,99,[.tmp 2],[],[]⟩
def r76_0:List RI:=[on 8 (.new (.rc Zq0))]
def r76_1:List RI:=[omk 11 0,om 12 1,on 13 (.mk [(.byt [] .no)] 24 (ci 2) (ci 2)),om 14 3,oo 15 (.build Zq0 [(0,1,(.t 11)),(1,1,(.t 12)),(2,1,(.t 13)),(3,1,(.t 14))]) [11,12,13,14],on 9 (.new (.rc Zq0)),.op ⟨none,none,.store 4 (.t 9) (.t 15)⟩ [15]]
def r76_2:List RI:=[on 10 (.mov (ci 0))]
def r76_3:List RI:=[om 16 10,oo 17 (Bc .lss 16 2) [16]]
def r76_4:List RI:=[om 20 2,om 21 10,oo 22 (Ca 124 [.t 20,.t 21]) [20,21],omk 23 22,.grp 23 true [(xi 24 23 true (Mv 1)),(xi 25 23 true (Bc .neq 24 5))] [24],oo 26 (Pf 23 25) [23,25]]
def r76_5:List FI:=[Fs 0 27 (Fa 2 9),Fs 1 28 (Ld 27),Fm 2 29 10,Fm 3 30 10,Fm 4 31 3,Fz 5 32 (Ca 99 [.t 30,.t 31]),Fs 6 33 (Ia 1 28 29),⟨7,false,⟨none,none,.store 1 (.t 33) (.t 32)⟩⟩]
def r76_6:List RI:=[omk 18 10,oo 19 (Bc .add 18 1) [18],omk 10 19]
def b76_7:RC:=(.seq (So r76_3 (Kc 17 (Kk [17] .skip) (Kk [1,2,3,10,17] (.exit 0)))) (.seq (.block 1 (So r76_4 (Kc 26 (Kk [26] (.flt [0,1,0,0,0,24,63,127] [] r76_5 [27,28,29,30,31,32,33])) (Kk [26] .skip)))) (.ops r76_6)))
def r76_7:RC:=b76_7
def r76_8:List RI:=[oo 34 (.load 4 true (.t 9)) [9],.op ⟨none,none,.store 4 (.t 8) (.t 34)⟩ [34]]
def r76:RC:=(So r76_0 (So r76_1 (.seq (So r76_2 (.block 0 (.loop r76_7))) (So r76_8 .ret))))
def F76:FnC:=⟨r76,35,[.cell 8 4 true],[],[]⟩
def r77_0:List RI:=[oo 0 (.mov (.c (.byt [] .clip))) [0]]
def r77_1:List RI:=[on 1 (.litB [(.c (.u8 0)),(.c (.u8 0)),(.c (.u8 0)),(.c (.u8 0))]),omk 0 1]
def r77:RC:=(So r77_0 (So r77_1 .ret))
def F77:FnC:=⟨r77,2,[.tmp 0],[],[]⟩
def r78_0:List RI:=[oo 2 (.box (.t 0)) [0],on 4 (.new (.rc Zq0))]
def r78_1:List RI:=[on 5 (.load 4 true (.t 2)),oo 6 (Ca 81 [.t 5]) [5],oo 7 (Bc .neq 6 0) [6],omk 8 7,.grp 8 false [(xi 9 8 false (Fa 0 2)),(xi 10 8 false (Ld 9)),(xi 11 8 false (Bc .eql 10 4))] [9,10],oo 12 (Pt 8 11) [8,11]]
def r78_2:List RI:=[on 13 (.build Zq0 []),.op ⟨none,none,.store 4 (.t 4) (.t 13)⟩ [13]]
def r78_3:List FI:=[Fs 0 14 (Fa 0 2),Fs 1 15 (Ld 14),Fs 3 17 (.load 4 true (.t 2)),Fm 4 18 1,Fs 6 20 (Fa 1 2),Fs 7 21 (Ld 20),Fs 8 22 (Fa 2 2),Fs 9 23 (Ld 22),Fz 2 16 (Ca 55 [.t 15]),Fz 5 19 (Ca 125 [.t 17,.t 18]),Fz 10 24 (Ca 56 [.t 21,.t 23]),Fs 11 25 (.build Zq0 [(0,1,(.t 16)),(1,1,(ci 1)),(2,1,(.t 19)),(3,1,(.t 24))]),⟨12,false,⟨none,none,.store 4 (.t 4) (.t 25)⟩⟩]
def r78:RC:=(So r78_0 (.seq (So r78_1 (Kc 12 (Kk [1,2,12] (So r78_2 .ret)) (Kk [12] .skip))) (.seq (.flt [0,1,3,0,0,31,0,64,0,256,1023,2047,4095] [] r78_3 [1,2,14,15,16,17,18,19,20,21,22,23,24,25]) .ret)))
def F78:FnC:=⟨r78,26,[.cell 4 4 true],[],[]⟩
def r79_0:List RI:=[oo 1 (.box (.t 0)) [0],oo 2 (.mov (.c (.lst 1 [] .clip))) [2]]
def r79_1:List RI:=[on 3 (.mov (.c (.lst 1 [] .clip)))]
def r79_2:List RI:=[on 4 (.mov (.c (.byt [] .clip)))]
def r79_3:List RI:=[on 5 (.mov (ci 0))]
def r79_4:List RI:=[om 7 5,on 8 (Fa 3 1),oo 9 (Ld 8) [8],oo 10 (Ln 9) [9],oo 11 (Bb .lss 7 10) [7,10]]
def r79_5:List RI:=[on 14 (Fa 3 1),oo 15 (Ld 14) [14],om 16 5,oo 17 (Ia 1 15 16) [15,16],oo 18 (Ld 17) [17],omk 6 18]
def r79_6:List RI:=[om 19 6,oo 20 (.bin .eql (.t 19) (.c (.u8 10))) [19]]
def r79_7:List RI:=[om 21 4,oo 22 (Ln 21) [21],oo 23 (Bc .eql 22 0) [22],omk 24 23,.grp 24 false [(xi 25 24 false (Mv 3)),(xi 26 24 false (Ln 25)),(xi 27 24 false (Bc .geq 26 4))] [25,26],oo 28 (Pt 24 27) [24,27]]
def r79_8:List RI:=[on 2 (.mov (.c (.lst 1 [] .clip)))]
def r79_9:List RI:=[omk 29 3,omk 30 4,oo 31 (.lit 1 [.t 30]) [30],oo 32 (.app [.byt [] .clip] 24 (.t 29) (.t 31)) [29,31],omk 3 32]
def r79_10:List RI:=[on 4 (.mov (.c (.byt [] .clip)))]
def r79_11:List RI:=[om 33 6,oo 34 (.bin .lss (.t 33) (.c (.u8 32))) [33],omk 35 34,.grp 35 false [(xi 36 35 false (Mv 6)),(xi 37 35 false (.bin .gtr (.t 36) (.c (.u8 126))))] [36],oo 38 (Pt 35 37) [35,37]]
def r79_12:List RI:=[on 2 (.mov (.c (.lst 1 [] .clip)))]
def r79_13:List RI:=[omk 39 4,omk 40 6,oo 41 (.litB [.t 40]) [40],oo 42 (.app [.u8 0] 1 (.t 39) (.t 41)) [39,41],omk 4 42]
def r79_14:List RI:=[omk 12 5,oo 13 (Bc .add 12 1) [12],omk 5 13]
def b79_15:RC:=(.post (.seq (So r79_4 (Kc 11 (Kk [11] .skip) (Kk [1,5,11] (.exit 0)))) (.seq (.block 1 (So r79_5 (.seq (So r79_6 (Kc 20 (Kk [6,20] (.seq (So r79_7 (Kc 28 (Kk [1,3,4,5,28] (So r79_8 .ret)) (Kk [28] .skip))) (So r79_9 (So r79_10 (.exit 1))))) (Kk [20] .skip))) (.seq (So r79_11 (Kc 38 (Kk [1,3,4,5,6,38] (So r79_12 .ret)) (Kk [38] .skip))) (.ops r79_13))))) (.ops r79_14))) [.tok 3 103,.tok 4 104])
def r79_15:RC:=b79_15
def r79_16:List RI:=[omk 43 4,oo 44 (Ln 43) [43],oo 45 (Bc .gtr 44 0) [44]]
def r79_17:List RI:=[on 2 (.mov (.c (.lst 1 [] .clip)))]
def r79_18:List RI:=[omk 46 3,omk 2 46]
def r79:RC:=(So r79_0 (So r79_1 (So r79_2 (.seq (So r79_3 (.block 0 (.pre [.tok 3 103,.tok 4 104] (.loop r79_15)))) (.seq (So r79_16 (Kc 45 (Kk [3,45] (So r79_17 .ret)) (Kk [45] .skip))) (So r79_18 .ret))))))
def F79:FnC:=⟨r79,47,[.tmp 2],[],[]⟩
def r80_0:List RI:=[oo 2 (.mov (.c (.byt [] .clip))) [2]]
def r80_1:List RI:=[on 18 (Ca 126 []),on 3 (.new (.arr 1 (List.replicate 64 [.int .u32 0]))),.op ⟨none,none,.store 64 (.t 3) (.t 18)⟩ [18]]
def r80_2:List RI:=[.own (xs 19 (.lit 1 [(.c (.int .u32 1779033703)),(.c (.int .u32 3144134277)),(.c (.int .u32 1013904242)),(.c (.int .u32 2773480762)),(.c (.int .u32 1359893119)),(.c (.int .u32 2600822924)),(.c (.int .u32 528734635)),(.c (.int .u32 1541459225))])) [],omk 4 19]
def r80_3:List RI:=[omk 20 0,oo 21 (Ca 127 [.t 20]) [20],omk 5 21]
def r80_4:List RI:=[on 6 (.mov (ci 0))]
def r80_5:List RI:=[om 22 6,om 23 5,oo 24 (Ln 23) [23],oo 25 (Bb .lss 22 24) [22,24]]
def r80_6:List RI:=[on 7 (.new (.arr 1 (List.replicate 64 [.int .u32 0])))]
def r80_7:List RI:=[on 8 (.mov (ci 0))]
def r80_8:List RI:=[om 28 8,oo 29 (Bc .lss 28 64) [28]]
def r80_9:List RI:=[om 32 8,oo 33 (Bc .lss 32 16) [32]]
def r80_10:List RI:=[om 34 8,om 35 5,om 36 6,om 37 6,oo 38 (Bc .add 37 64) [37],oo 39 (.slcL 1 (.t 35) (some (.t 36)) (some (.t 38)) none) [35,36,38],om 40 8,oo 41 (Ca 128 [.t 39,.t 40]) [39,40],oo 42 (.iaddrA 64 1 (.t 7) (.t 34)) [34],.op ⟨none,none,.store 1 (.t 42) (.t 41)⟩ [41,42]]
def r80_11:List FI:=[Fm 0 43 8,Fs 1 44 (Bc .sub 43 15),Fs 2 45 (.iaddrA 64 1 (.t 7) (.t 44)),Fs 3 46 (Ld 45),Fm 5 48 8,Fs 6 49 (Bc .sub 48 15),Fs 7 50 (.iaddrA 64 1 (.t 7) (.t 49)),Fs 8 51 (Ld 50),Fm 11 54 8,Fs 12 55 (Bc .sub 54 15),Fs 13 56 (.iaddrA 64 1 (.t 7) (.t 55)),Fs 14 57 (Ld 56),Fs 15 58 (.bin .shr (.t 57) (.c (.int .u64 3))),Fz 4 47 (Ca 129 [.t 46,(.c (.int .u64 7))]),Fz 9 52 (Ca 129 [.t 51,(.c (.int .u64 18))]),Fs 10 53 (Bb .xor 47 52),Fs 16 59 (Bb .xor 53 58),Fm 17 9 59]
def r80_12:List FI:=[Fm 0 60 8,Fs 1 61 (Bc .sub 60 2),Fs 2 62 (.iaddrA 64 1 (.t 7) (.t 61)),Fs 3 63 (Ld 62),Fm 5 65 8,Fs 6 66 (Bc .sub 65 2),Fs 7 67 (.iaddrA 64 1 (.t 7) (.t 66)),Fs 8 68 (Ld 67),Fm 11 71 8,Fs 12 72 (Bc .sub 71 2),Fs 13 73 (.iaddrA 64 1 (.t 7) (.t 72)),Fs 14 74 (Ld 73),Fs 15 75 (.bin .shr (.t 74) (.c (.int .u64 10))),Fz 4 64 (Ca 129 [.t 63,(.c (.int .u64 17))]),Fz 9 69 (Ca 129 [.t 68,(.c (.int .u64 19))]),Fs 10 70 (Bb .xor 64 69),Fs 16 76 (Bb .xor 70 75),Fm 17 10 76]
def r80_13:List FI:=[Fm 0 77 8,Fm 1 78 10,Fm 2 79 8,Fs 3 80 (Bc .sub 79 7),Fs 4 81 (.iaddrA 64 1 (.t 7) (.t 80)),Fs 5 82 (Ld 81),Fs 6 83 (Bb .add 78 82),Fm 7 84 9,Fs 8 85 (Bb .add 83 84),Fm 9 86 8,Fs 10 87 (Bc .sub 86 16),Fs 11 88 (.iaddrA 64 1 (.t 7) (.t 87)),Fs 12 89 (Ld 88),Fs 13 90 (Bb .add 85 89),Fs 14 91 (.iaddrA 64 1 (.t 7) (.t 77)),⟨15,false,⟨none,none,.store 1 (.t 91) (.t 90)⟩⟩]
def r80_14:List RI:=[omk 30 8,oo 31 (Bc .add 30 1) [30],omk 8 31]
def b80_15:RC:=(.seq (So r80_8 (Kc 29 (Kk [29] .skip) (Kk [8,29] (.exit 2)))) (.seq (.block 3 (.seq (So r80_9 (Kc 33 (Kk [33] (So r80_10 (.exit 3))) (Kk [33] .skip))) (.seq (.flt [0,1,3,7,15,0,32,96,224,511,1023,0,2048,6144,14336,30720,65535,131071] [] r80_11 [43,44,45,46,47,48,49,50,51,52,53,54,55,56,57,58,59]) (.seq (.flt [0,1,3,7,15,0,32,96,224,511,1023,0,2048,6144,14336,30720,65535,131071] [] r80_12 [60,61,62,63,64,65,66,67,68,69,70,71,72,73,74,75,76]) (.flt [0,0,0,4,12,28,62,0,254,0,512,1536,3584,8190,16383,32767] [] r80_13 [9,10,77,78,79,80,81,82,83,84,85,86,87,88,89,90,91]))))) (.ops r80_14)))
def r80_15:RC:=b80_15
def r80_16:List RI:=[on 92 (.lit 1 []),om 93 4,oo 94 (.app [.int .u32 0] 4 (.t 92) (.t 93)) [92,93],omk 11 94]
def r80_17:List RI:=[on 12 (.mov (ci 0))]
def r80_18:List RI:=[om 95 12,oo 96 (Bc .lss 95 64) [95]]
def r80_19:List FI:=[Fm 0 99 11,Fs 1 100 (.iaddrL 1 (.t 99) (ci 0)),Fs 2 101 (Ld 100),Fm 3 102 11,Fs 4 103 (.iaddrL 1 (.t 102) (ci 4)),Fs 5 104 (Ld 103),Fm 6 13 101,Fm 7 14 104]
def r80_20:List FI:=[Fm 0 105 11,Fs 1 106 (.iaddrL 1 (.t 105) (ci 7)),Fs 2 107 (Ld 106),Fm 3 108 14,Fm 5 110 14,Fm 8 113 14,Fm 12 117 14,Fm 13 118 11,Fs 14 119 (.iaddrL 1 (.t 118) (ci 5)),Fs 15 120 (Ld 119),Fs 16 121 (Bb .and 117 120),Fm 17 122 14,Fs 18 123 (.un .xor (.t 122)),Fm 19 124 11,Fs 20 125 (.iaddrL 1 (.t 124) (ci 6)),Fs 21 126 (Ld 125),Fs 22 127 (Bb .and 123 126),Fs 23 128 (Bb .xor 121 127),Fm 25 130 12,Fs 26 131 (.iaddrA 64 1 (.t 3) (.t 130)),Fs 27 132 (Ld 131),Fm 29 134 12,Fs 30 135 (.iaddrA 64 1 (.t 7) (.t 134)),Fs 31 136 (Ld 135),Fz 4 109 (Ca 129 [.t 108,(.c (.int .u64 6))]),Fz 6 111 (Ca 129 [.t 110,(.c (.int .u64 11))]),Fs 7 112 (Bb .xor 109 111),Fz 9 114 (Ca 129 [.t 113,(.c (.int .u64 25))]),Fs 10 115 (Bb .xor 112 114),Fs 11 116 (Bb .add 107 115),Fs 24 129 (Bb .add 116 128),Fs 28 133 (Bb .add 129 132),Fs 32 137 (Bb .add 133 136),Fm 33 15 137]
def r80_21:List FI:=[Fm 0 138 13,Fm 2 140 13,Fm 5 143 13,Fm 8 146 13,Fm 9 147 11,Fs 10 148 (.iaddrL 1 (.t 147) (ci 1)),Fs 11 149 (Ld 148),Fs 12 150 (Bb .and 146 149),Fm 13 151 13,Fm 14 152 11,Fs 15 153 (.iaddrL 1 (.t 152) (ci 2)),Fs 16 154 (Ld 153),Fs 17 155 (Bb .and 151 154),Fs 18 156 (Bb .xor 150 155),Fm 19 157 11,Fs 20 158 (.iaddrL 1 (.t 157) (ci 1)),Fs 21 159 (Ld 158),Fm 22 160 11,Fs 23 161 (.iaddrL 1 (.t 160) (ci 2)),Fs 24 162 (Ld 161),Fs 25 163 (Bb .and 159 162),Fs 26 164 (Bb .xor 156 163),Fz 1 139 (Ca 129 [.t 138,(.c (.int .u64 2))]),Fz 3 141 (Ca 129 [.t 140,(.c (.int .u64 13))]),Fs 4 142 (Bb .xor 139 141),Fz 6 144 (Ca 129 [.t 143,(.c (.int .u64 22))]),Fs 7 145 (Bb .xor 142 144),Fs 27 165 (Bb .add 145 164),Fm 28 16 165]
def r80_22:List FI:=[Fm 0 166 15,Fm 1 167 16,Fs 2 168 (Bb .add 166 167),Fm 3 169 13,Fm 4 170 11,Fs 5 171 (.iaddrL 1 (.t 170) (ci 1)),Fs 6 172 (Ld 171),Fm 7 173 11,Fs 8 174 (.iaddrL 1 (.t 173) (ci 2)),Fs 9 175 (Ld 174),Fm 10 176 11,Fs 11 177 (.iaddrL 1 (.t 176) (ci 3)),Fs 12 178 (Ld 177),Fm 13 179 15,Fs 14 180 (Bb .add 178 179),Fm 15 181 14,Fm 16 182 11,Fs 17 183 (.iaddrL 1 (.t 182) (ci 5)),Fs 18 184 (Ld 183),Fm 19 185 11,Fs 20 186 (.iaddrL 1 (.t 185) (ci 6)),Fs 21 187 (Ld 186),Fs 22 188 (.lit 1 [.t 168,.t 169,.t 172,.t 175,.t 180,.t 181,.t 184,.t 187]),⟨23,false,(xm 11 188)⟩]
def r80_23:List RI:=[omk 97 12,oo 98 (Bc .add 97 1) [97],omk 12 98]
def b80_24:RC:=(.seq (So r80_18 (Kc 96 (Kk [96] .skip) (Kk [7,12,96] (.exit 4)))) (.seq (.block 5 (.seq (.flt [0,1,3,0,8,24,7,127] [] r80_19 [99,100,101,102,103,104]) (.seq (.flt [0,1,3,0,8,0,56,120,0,376,1016,2047,0,0,8192,24576,61440,0,131072,0,524288,1572864,4063232,8384512,16777215,0,33554432,100663296,268435455,0,536870912,1610612736,4294967295,8589934591] [] r80_20 [105,106,107,108,109,110,111,112,113,114,115,116,117,118,119,120,121,122,123,124,125,126,127,128,129,130,131,132,133,134,135,136,137]) (.seq (.flt [0,1,0,7,15,0,47,127,0,0,512,1536,3840,0,0,16384,49152,122880,261888,0,524288,1572864,0,4194304,12582912,33030144,67108608,134217727,268435455] [] r80_21 [138,139,140,141,142,143,144,145,146,147,148,149,150,151,152,153,154,155,156,157,158,159,160,161,162,163,164,165]) (.flt [0,0,3,0,0,16,48,0,128,384,0,1024,3072,0,15360,0,0,65536,196608,0,524288,1572864,4194303,8388607] [] r80_22 [13,14,15,16,166,167,168,169,170,171,172,173,174,175,176,177,178,179,180,181,182,183,184,185,186,187,188]))))) (.ops r80_23)))
def r80_24:RC:=b80_24
def r80_25:List RI:=[on 17 (.mov (ci 0))]
def r80_26:List RI:=[om 189 17,oo 190 (Bc .lss 189 8) [189]]
def r80_27:List FI:=[Fm 0 193 4,Fm 1 194 17,Fs 2 195 (Ia 1 193 194),Fs 3 196 (Ld 195),Fm 4 197 11,Fm 5 198 17,Fs 6 199 (Ia 1 197 198),Fs 7 200 (Ld 199),Fs 8 201 (Bb .add 196 200),Fs 9 202 (Ia 1 193 194),⟨10,false,⟨none,none,.store 1 (.t 202) (.t 201)⟩⟩]
def r80_28:List RI:=[omk 191 17,oo 192 (Bc .add 191 1) [191],omk 17 192]
def b80_29:RC:=(.seq (So r80_26 (Kc 190 (Kk [190] .skip) (Kk [11,17,190] (.exit 6)))) (.seq (.block 7 (.flt [0,0,3,7,0,0,48,112,255,511,1023] [] r80_27 [193,194,195,196,197,198,199,200,201,202])) (.ops r80_28)))
def r80_29:RC:=b80_29
def r80_30:List RI:=[omk 26 6,oo 27 (Bc .add 26 64) [26],omk 6 27]
def b80_31:RC:=(.post (.seq (So r80_5 (Kc 25 (Kk [25] .skip) (Kk [3,5,6,25] (.exit 0)))) (.seq (.block 1 (So r80_6 (.seq (So r80_7 (.block 2 (.loop r80_15))) (So r80_16 (.seq (So r80_17 (.block 4 (.loop r80_24))) (So r80_25 (.block 6 (.loop r80_29)))))))) (.ops r80_30))) [.gc [107,194]])
def r80_31:RC:=b80_31
def r80_32:List RI:=[omk 203 4,oo 204 (Ca 130 [.t 203]) [203],omk 2 204]
def r80:RC:=(So r80_0 (So r80_1 (So r80_2 (So r80_3 (.seq (So r80_4 (.block 0 (.loop r80_31))) (So r80_32 .ret))))))
def F80:FnC:=⟨r80,205,[.tmp 2],[],[]⟩
def r81_0:List RI:=[oo 1 (.box (.t 0)) [0],oo 2 (.mov (ci 0)) [2]]
def r81_1:List RI:=[on 3 (Fa 0 1),oo 4 (Ld 3) [3],oo 5 (Bc .lss 4 1) [4],omk 6 5,.grp 6 false [(xi 7 6 false (Fa 0 1)),(xi 8 6 false (Ld 7)),(xi 9 6 false (Bc .gtr 8 4))] [7,8],oo 10 (Pt 6 9) [6,9],omk 11 10,.grp 11 false [(xi 12 11 false (Fa 2 1)),(xi 13 11 false (Ld 12)),(xi 14 11 false (Bc .lss 13 0))] [12,13],oo 15 (Pt 11 14) [11,14],omk 16 15,.grp 16 false [(xi 17 16 false (Fa 2 1)),(xi 18 16 false (Ld 17)),(xi 19 16 false (Bc .gtr 18 1000000))] [17,18],oo 20 (Pt 16 19) [16,19]]
def r81_2:List RI:=[on 2 (.mov (ci 1))]
def r81_3:List RI:=[on 21 (Fa 1 1),oo 22 (Ld 21) [21],oo 23 (Ca 95 [.t 22]) [22],oo 24 (.un .not (.t 23)) [23]]
def r81_4:List RI:=[on 2 (.mov (ci 43))]
def r81_5:List RI:=[on 25 (Fa 3 1),oo 26 (Ld 25) [25],oo 27 (Ln 26) [26],oo 28 (Bc .gtr 27 64) [27]]
def r81_6:List RI:=[on 2 (.mov (ci 4))]
def r81_7:List RI:=[on 29 (Fa 0 1),oo 30 (Ld 29) [29],oo 31 (Bc .eql 30 4) [30],omk 32 31,.grp 32 true [(xi 33 32 true (.load 4 true (.t 1))),(xi 34 32 true (Ca 79 [.t 33])),(xi 35 32 true (Ln 34)),(xi 36 32 true (Bc .eql 35 0))] [1,33,34,35],oo 37 (Pf 32 36) [32,36]]
def r81_8:List RI:=[on 2 (.mov (ci 40))]
def r81_9:List RI:=[on 2 (.mov (ci 0))]
def r81:RC:=(So r81_0 (.seq (So r81_1 (Kc 20 (Kk [1,20] (So r81_2 .ret)) (Kk [20] .skip))) (.seq (So r81_3 (Kc 24 (Kk [1,24] (So r81_4 .ret)) (Kk [24] .skip))) (.seq (So r81_5 (Kc 28 (Kk [1,28] (So r81_6 .ret)) (Kk [28] .skip))) (.seq (So r81_7 (Kc 37 (Kk [37] (So r81_8 .ret)) (Kk [37] .skip))) (So r81_9 .ret))))))
def F81:FnC:=⟨r81,38,[.tmp 2],[],[]⟩
def r82_0:List RI:=[oo 6 (.mov (.c (.byt [] .clip))) [6]]
def r82_1:List RI:=[on 9 (.litB []),omk 10 0,oo 11 (.app [.u8 0] 1 (.t 9) (.t 10)) [9,10],omk 7 11]
def r82_2:List RI:=[om 12 1,oo 13 (Bc .lss 12 1) [12],omk 14 13,.grp 14 false [(xi 15 14 false (Mv 1)),(xi 16 14 false (Bc .gtr 15 8))] [15],oo 17 (Pt 14 16) [14,16]]
def r82_3:List RI:=[omk 18 7,omk 6 18]
def r82_4:List RI:=[omk 19 1,oo 20 (Bc .sub 19 1) [19],omk 8 20]
def r82_5:List RI:=[om 21 8,oo 22 (Bc .geq 21 0) [21]]
def r82_6:List RI:=[omk 25 7,om 26 2,oo 27 (.toInt .u64 (.t 26)) [26],om 28 8,oo 29 (.toInt .u64 (.t 28)) [28],oo 30 (.bin .mul (.c (.int .u64 8)) (.t 29)) [29],oo 31 (Bb .shr 27 30) [27,30],oo 32 (.toInt .u8 (.t 31)) [31],oo 33 (.litB [.t 32]) [32],oo 34 (.app [.u8 0] 1 (.t 25) (.t 33)) [25,33],omk 7 34]
def r82_7:List RI:=[omk 23 8,oo 24 (Bc .sub 23 1) [23],omk 8 24]
def b82_8:RC:=(.post (.seq (So r82_5 (Kc 22 (Kk [22] .skip) (Kk [2,8,22] (.exit 0)))) (.seq (.block 1 (.ops r82_6)) (.ops r82_7))) [.tok 7 107])
def r82_8:RC:=b82_8
def r82_9:List RI:=[omk 35 7,omk 6 35]
def r82:RC:=(So r82_0 (So r82_1 (.seq (So r82_2 (Kc 17 (Kk [1,2,17] (So r82_3 .ret)) (Kk [17] .skip))) (.seq (So r82_4 (.block 0 (.pre [.tok 7 107] (.loop r82_8)))) (So r82_9 .ret)))))
def F82:FnC:=⟨r82,36,[.tmp 6],[0],[]⟩
def r83_0:List RI:=[oo 4 (.mov (.c (.byt [] .clip))) [4]]
def r83_1:List RI:=[om 5 1,oo 6 (Ln 5) [5],oo 7 (Bc .gtr 6 65535) [6]]
def r83_2:List RI:=[omk 8 1,oo 9 (.slcL 1 (.t 8) none (some (ci 65535)) none) [8],omk 1 9]
def r83_3:List RI:=[omk 10 0,om 11 1,oo 12 (Ln 11) [11],oo 13 (Ca 82 [.t 10,ci 2,.t 12]) [10,12],omk 14 1,oo 15 (.app [.u8 0] 1 (.t 13) (.t 14)) [13,14],omk 4 15]
def r83:RC:=(So r83_0 (.seq (So r83_1 (Kc 7 (Kk [7] (.ops r83_2)) (Kk [7] .skip))) (So r83_3 .ret)))
def F83:FnC:=⟨r83,16,[.tmp 4],[0],[]⟩
def r84_0:List RI:=[oo 2 (.box (.t 0)) [0],oo 3 (.box (.t 1)) [1],oo 4 (.mov (.c (.bool false))) [4]]
def r84_1:List RI:=[on 5 (Fa 0 2),oo 6 (Ld 5) [5],on 7 (Fa 0 3),oo 8 (Ld 7) [7],oo 9 (Bb .neq 6 8) [6,8]]
def r84_2:List RI:=[oo 10 (Fa 0 2) [2],oo 11 (Ld 10) [10],oo 12 (Fa 0 3) [3],oo 13 (Ld 12) [12],oo 14 (Bb .lss 11 13) [11,13],omk 4 14]
def r84_3:List RI:=[on 15 (Fa 1 2),oo 16 (Ld 15) [15],on 17 (Fa 1 3),oo 18 (Ld 17) [17],oo 19 (Bb .neq 16 18) [16,18]]
def r84_4:List RI:=[oo 20 (Fa 1 2) [2],oo 21 (Ld 20) [20],oo 22 (Fa 1 3) [3],oo 23 (Ld 22) [22],oo 24 (Bb .lss 21 23) [21,23],omk 4 24]
def r84_5:List RI:=[on 25 (Fa 2 2),oo 26 (Ld 25) [25],on 27 (Fa 2 3),oo 28 (Ld 27) [27],oo 29 (Bb .neq 26 28) [26,28]]
def r84_6:List RI:=[oo 30 (Fa 2 2) [2],oo 31 (Ld 30) [30],oo 32 (Fa 2 3) [3],oo 33 (Ld 32) [32],oo 34 (Bb .lss 31 33) [31,33],omk 4 34]
def r84_7:List RI:=[oo 35 (Fa 3 2) [2],oo 36 (Ld 35) [35],oo 37 (Fa 3 3) [3],oo 38 (Ld 37) [37],oo 39 (Ca 63 [.t 36,.t 38]) [36,38],omk 4 39]
def r84:RC:=(So r84_0 (.seq (So r84_1 (Kc 9 (Kk [9] (So r84_2 .ret)) (Kk [9] .skip))) (.seq (So r84_3 (Kc 19 (Kk [19] (So r84_4 .ret)) (Kk [19] .skip))) (.seq (So r84_5 (Kc 29 (Kk [29] (So r84_6 .ret)) (Kk [29] .skip))) (So r84_7 .ret)))))
def F84:FnC:=⟨r84,40,[.tmp 4],[],[]⟩
def r85_0:List RI:=[oo 6 (.mov (.c (.lst 4 [] .clip))) [6]]
def r85_1:List RI:=[on 7 (.mov (.c (.lst 4 [] .clip)))]
def r85_2:List RI:=[om 8 0,oo 9 (Ca 131 [.t 8]) [8],omk 10 9,.grp 10 true [(xi 11 10 true (Mv 7)),(xi 12 10 true (Ln 11)),(xi 13 10 true (Mv 2)),(xi 14 10 true (Bb .lss 12 13))] [11,12,13],oo 15 (Pf 10 14) [10,14]]
def r85_3:List RI:=[omk 16 7,om 17 0,om 18 1,oo 19 (Ca 38 [.t 17,.t 18]) [17,18],oo 20 (.lit 4 [.t 19]) [19],oo 21 (.app Zq0 64 (.t 16) (.t 20)) [16,20],omk 7 21]
def b85_4:RC:=(.post (.seq (So r85_2 (Kc 15 (Kk [15] .skip) (Kk [0,1,2,15] (.exit 0)))) (.block 1 (.ops r85_3))) [.tok 7 107])
def r85_4:RC:=b85_4
def r85_5:List RI:=[omk 22 7,omk 6 22]
def r85:RC:=(So r85_0 (So r85_1 (.seq (.block 0 (.pre [.tok 7 107] (.loop r85_4))) (So r85_5 .ret))))
def F85:FnC:=⟨r85,23,[.tmp 6],[],[]⟩
def r86_0:List RI:=[oo 2 (.mov (.c (.byt [] .clip))) [2]]
def r86_1:List RI:=[on 4 (.build [.str [],.str [],.str [],.str [],.str [],.str []] [(0,1,(.c (.str [97,61,49]))),(1,1,(.c (.str [99,111,117,110,116,61,53]))),(2,1,(.c (.str [99,111,117,110,116,61,49,55]))),(3,1,(.c (.str [104,111,115,116,61,120]))),(4,1,(.c (.str [109,111,100,101,32,98]))),(5,1,(.c (.str [126])))]),on 3 (.new (.arr 1 (List.replicate 6 [.str []]))),.op ⟨none,none,.store 6 (.t 3) (.t 4)⟩ [4]]
def r86_2:List RI:=[omk 5 0,oo 6 (Ca 37 [.t 5,ci 6]) [5],oo 7 (.iaddrA 6 1 (.t 3) (.t 6)) [3,6],oo 8 (Ld 7) [7],oo 9 (.s2b (.t 8)) [8],omk 2 9]
def r86:RC:=(So r86_0 (So r86_1 (So r86_2 .ret)))
def F86:FnC:=⟨r86,10,[.tmp 2],[],[]⟩
def r87_0:List RI:=[oo 4 (.mov (.c (.lst 1 [] .clip))) [4]]
def r87_1:List RI:=[on 8 (.mk [(.byt [] .no)] 24 (ci 2) (ci 2)),omk 5 8]
def r87_2:List RI:=[on 6 (.mov (ci 0))]
def r87_3:List RI:=[om 9 6,oo 10 (Bc .lss 9 2) [9]]
def r87_4:List RI:=[om 13 0,om 14 6,oo 15 (.toInt .u64 (.t 14)) [14],oo 16 (Bb .shr 13 15) [13,15],oo 17 (Bc .and 16 1) [16],oo 18 (Bc .eql 17 1) [17]]
def r87_5:List RI:=[om 19 6,oo 20 (.bin .mul (ci 12) (.t 19)) [19],oo 21 (.bin .add (ci 20) (.t 20)) [20],oo 22 (.mkB (.t 21) (.t 21)) [21],omk 7 22]
def r87_6:List RI:=[om 23 7,om 24 1,oo 25 (.cpy 1 (.t 23) (.t 24)) [23,24,25]]
def r87_7:List RI:=[om 26 7,oo 27 (Ln 26) [26],oo 28 (Bc .gtr 27 0) [27]]
def r87_8:List RI:=[om 29 7,om 30 7,oo 31 (Ln 30) [30],oo 32 (Bc .sub 31 1) [31],on 33 (Ia 1 29 32),oo 34 (Ld 33) [33],om 35 6,oo 36 (.toInt .u8 (.t 35)) [35],oo 37 (Bb .xor 34 36) [34,36],oo 38 (Ia 1 29 32) [29,32],.op ⟨none,none,.store 1 (.t 38) (.t 37)⟩ [37,38]]
def r87_9:List RI:=[om 39 5,om 40 6,omk 41 7,oo 42 (Ia 1 39 40) [39,40],.dir (.pub 41),.op ⟨none,none,.store 1 (.t 42) (.t 41)⟩ [41,42]]
def r87_10:List RI:=[omk 11 6,oo 12 (Bc .add 11 1) [11],omk 6 12]
def b87_11:RC:=(.seq (So r87_3 (Kc 10 (Kk [10] .skip) (Kk [0,1,6,10] (.exit 0)))) (.seq (.block 1 (So r87_4 (Kc 18 (Kk [18] (So r87_5 (So r87_6 (.seq (So r87_7 (Kc 28 (Kk [28] (.ops r87_8)) (Kk [28] .skip))) (.ops r87_9))))) (Kk [18] .skip)))) (.ops r87_10)))
def r87_11:RC:=b87_11
def r87_12:List RI:=[omk 43 5,omk 4 43]
def r87:RC:=(So r87_0 (So r87_1 (.seq (So r87_2 (.block 0 (.loop r87_11))) (So r87_12 .ret))))
def F87:FnC:=⟨r87,44,[.tmp 4],[],[]⟩
def r88_0:List RI:=[oo 1 (.box (.t 0)) [0],oo 2 (.mov (ci 0)) [2]]
def r88_1:List RI:=[on 4 (Fa 1 1),oo 5 (Ld 4) [4],oo 6 (Bc .eql 5 1) [5],omk 7 6,.grp 7 true [(xi 8 7 true (Fa 0 1)),(xi 9 7 true (Ld 8)),(xi 10 7 true (Bc .eql 9 0))] [8,9],oo 11 (Pf 7 10) [7,10],omk 3 11]
def r88_2:List RI:=[on 2 (.mov (ci 1))]
def r88_3:List RI:=[on 13 (Fa 1 1),oo 14 (Ld 13) [13],oo 15 (Bc .eql 14 1) [14],omk 16 15,.grp 16 true [(xi 17 16 true (Fa 0 1)),(xi 18 16 true (Ld 17)),(xi 19 16 true (Bc .eql 18 4))] [17,18],oo 20 (Pf 16 19) [16,19],omk 12 20]
def r88_4:List RI:=[on 2 (.mov (ci 2))]
def r88_5:List RI:=[on 22 (Fa 1 1),oo 23 (Ld 22) [22],oo 24 (Bc .eql 23 2) [23],omk 25 24,.grp 25 true [(xi 26 25 true (Fa 0 1)),(xi 27 25 true (Ld 26)),(xi 28 25 true (Bc .geq 27 0))] [26,27],oo 29 (Pf 25 28) [25,28],omk 30 29,.grp 30 true [(xi 31 30 true (Fa 0 1)),(xi 32 30 true (Ld 31)),(xi 33 30 true (Bc .lss 32 8))] [31,32],oo 34 (Pf 30 33) [30,33],omk 21 34]
def r88_6:List RI:=[on 2 (.mov (ci 3))]
def r88_7:List RI:=[on 36 (Fa 1 1),oo 37 (Ld 36) [36],oo 38 (Bc .eql 37 1) [37],omk 39 38,.grp 39 true [(xi 40 39 true (Fa 0 1)),(xi 41 39 true (Ld 40)),(xi 42 39 true (Bc .eql 41 8))] [40,41],oo 43 (Pf 39 42) [39,42],omk 35 43]
def r88_8:List RI:=[on 2 (.mov (ci 4))]
def r88_9:List RI:=[on 45 (Fa 1 1),oo 46 (Ld 45) [45],oo 47 (Bc .eql 46 3) [46],omk 48 47,.grp 48 true [(xi 49 48 true (Fa 0 1)),(xi 50 48 true (Ld 49)),(xi 51 48 true (Bc .eql 50 9))] [1,49,50],oo 52 (Pf 48 51) [48,51],omk 44 52]
def r88_10:List RI:=[on 2 (.mov (ci 5))]
def r88_11:List RI:=[on 2 (.mov (ci 0))]
def r88:RC:=(So r88_0 (.seq (.block 0 (So r88_1 (Kc 3 (Kk [1,3] (So r88_2 .ret)) (Kk [3] (So r88_3 (Kc 12 (Kk [1,12] (So r88_4 .ret)) (Kk [12] (So r88_5 (Kc 21 (Kk [1,21] (So r88_6 .ret)) (Kk [21] (So r88_7 (Kc 35 (Kk [1,35] (So r88_8 .ret)) (Kk [35] (So r88_9 (Kc 44 (Kk [44] (So r88_10 .ret)) (Kk [44] .skip)))))))))))))))) (So r88_11 .ret)))
def F88:FnC:=⟨r88,53,[.tmp 2],[],[]⟩
def r89_0:List RI:=[oo 2 (.mov (.c (.bool false))) [2]]
def r89_1:List RI:=[omk 3 0,oo 4 (.build Zq1 [(0,1,(ci 1)),(1,1,(.t 3))]) [3],oo 5 (Ca 68 [.t 4]) [4],oo 6 (Bc .eql 5 0) [5],omk 2 6]
def r89:RC:=(So r89_0 (So r89_1 .ret))
def F89:FnC:=⟨r89,7,[.tmp 2],[],[]⟩
def r90_0:List RI:=[oo 1 (.box (.t 0)) [0],oo 2 (.mov (ci 0)) [2]]
def r90_1:List RI:=[on 5 (Fa 0 1),oo 6 (Ld 5) [5],oo 7 (Bc .lss 6 1) [6],omk 8 7,.grp 8 false [(xi 9 8 false (Fa 0 1)),(xi 10 8 false (Ld 9)),(xi 11 8 false (Bc .gtr 10 4))] [9,10],oo 12 (Pt 8 11) [8,11]]
def r90_2:List RI:=[on 2 (.mov (ci 1))]
def r90_3:List RI:=[on 13 (Fa 1 1),oo 14 (Ld 13) [13],oo 15 (.len true (.t 14)) [14],on 16 (.mov (ci 0))]
def r90_4:List RI:=[on 17 (Bb .lss 16 15)]
def r90_5:List RI:=[om 18 16,omk 3 18]
def r90_6:List RI:=[on 19 (Fa 1 1),oo 20 (Ld 19) [19],omk 21 3,oo 22 (.idxS (.t 20) (.t 21)) [20,21],omk 4 22]
def r90_7:List RI:=[om 23 4,oo 24 (.bin .lss (.t 23) (.c (.u8 32))) [23],omk 25 24,.grp 25 false [(xi 26 25 false (Mv 4)),(xi 27 25 false (.bin .gtr (.t 26) (.c (.u8 126))))] [4,26],oo 28 (Pt 25 27) [25,27]]
def r90_8:List RI:=[on 2 (.mov (ci 1))]
def r90_9:List RI:=[oo 29 (Bc .add 16 1) [16],omk 16 29]
def b90_10:RC:=(So r90_4 (.seq (Kc 17 (Kk [17] .skip) (Kk [15,16,17] (.exit 0))) (.seq (.block 1 (So r90_5 (So r90_6 (So r90_7 (Kc 28 (Kk [1,15,16,28] (So r90_8 .ret)) (Kk [28] .skip)))))) (.ops r90_9))))
def r90_10:RC:=b90_10
def r90_11:List RI:=[on 31 (Fa 0 1),oo 32 (Ld 31) [31],oo 33 (Bc .eql 32 4) [32],omk 34 33,.grp 34 true [(xi 35 34 true (Fa 2 1)),(xi 36 34 true (Ld 35)),(xi 37 34 true (Bc .lss 36 0)),(xi 38 34 true (Mv 37))] [35,36,37],.grp 38 false [(xi 39 38 false (Fa 2 1)),(xi 40 38 false (Ld 39)),(xi 41 38 false (Fa 3 1)),(xi 42 38 false (Ld 41)),(xi 43 38 false (Bb .gtr 40 42))] [39,40,41,42],.grp 34 true [(xi 44 34 true (Pt 38 43)),(xi 45 34 true (Mv 44))] [38,43,44],.grp 45 false [(xi 46 45 false (Fa 3 1)),(xi 47 45 false (Ld 46)),(xi 48 45 false (Bc .gtr 47 1000000000))] [46,47],.grp 34 true [(xi 49 34 true (Pt 45 48))] [45,48],oo 50 (Pf 34 49) [34,49],omk 30 50]
def r90_12:List RI:=[on 2 (.mov (ci 1))]
def r90_13:List RI:=[on 52 (Fa 0 1),oo 53 (Ld 52) [52],oo 54 (Bc .neq 53 4) [53],omk 55 54,.grp 55 true [(xi 56 55 true (Fa 2 1)),(xi 57 55 true (Ld 56)),(xi 58 55 true (Bc .neq 57 0)),(xi 59 55 true (Mv 58))] [56,57,58],.grp 59 false [(xi 60 59 false (Fa 3 1)),(xi 61 59 false (Ld 60)),(xi 62 59 false (Bc .neq 61 0))] [60,61],.grp 55 true [(xi 63 55 true (Pt 59 62))] [59,62],oo 64 (Pf 55 63) [55,63],omk 51 64]
def r90_14:List RI:=[on 2 (.mov (ci 1))]
def r90_15:List RI:=[on 66 (Fa 0 1),oo 67 (Ld 66) [66],oo 68 (Bc .eql 67 1) [67],omk 69 68,.grp 69 true [(xi 70 69 true (Fa 1 1)),(xi 71 69 true (Ld 70)),(xi 72 69 true (.bin .neq (.t 71) (.c (.str []))))] [70,71],oo 73 (Pf 69 72) [69,72],omk 65 73]
def r90_16:List RI:=[on 2 (.mov (ci 1))]
def r90_17:List RI:=[oo 75 (Fa 1 1) [1],oo 76 (Ld 75) [75],oo 77 (.len true (.t 76)) [76],oo 78 (Bc .gtr 77 32) [77],omk 74 78]
def r90_18:List RI:=[on 2 (.mov (ci 4))]
def r90_19:List RI:=[on 2 (.mov (ci 0))]
def r90:RC:=(So r90_0 (.seq (So r90_1 (Kc 12 (Kk [1,12] (So r90_2 .ret)) (Kk [12] .skip))) (.seq (So r90_3 (.block 0 (.loop r90_10))) (.seq (.block 2 (So r90_11 (Kc 30 (Kk [1,30] (So r90_12 .ret)) (Kk [30] (So r90_13 (Kc 51 (Kk [1,51] (So r90_14 .ret)) (Kk [51] (So r90_15 (Kc 65 (Kk [1,65] (So r90_16 .ret)) (Kk [65] (So r90_17 (Kc 74 (Kk [74] (So r90_18 .ret)) (Kk [74] .skip))))))))))))) (So r90_19 .ret)))))
def F90:FnC:=⟨r90,79,[.tmp 2],[],[]⟩
def r91_0:List RI:=[oo 2 (.mov (.c (.str []))) [2]]
def r91_1:List RI:=[omk 3 0,oo 4 (Ca 132 [.t 3,ci 10]) [3],omk 2 4]
def r91:RC:=(So r91_0 (So r91_1 .ret))
def F91:FnC:=⟨r91,5,[.tmp 2],[],[]⟩
def r92_0:List RI:=[oo 4 (.mov (.c (.bool false))) [4]]
def r92_1:List RI:=[on 5 (.mov (ci 0)),on 6 (.mov (ci 0)),on 7 (.mov (ci (-1))),on 8 (.mov (ci 0))]
def r92_2:List RI:=[om 9 6,om 10 1,oo 11 (Ln 10) [10],oo 12 (Bb .lss 9 11) [9,11]]
def r92_3:List RI:=[om 14 5,om 15 0,oo 16 (.len true (.t 15)) [15],oo 17 (Bb .lss 14 16) [14,16],omk 18 17,.grp 18 true [(xi 19 18 true (Mv 0)),(xi 20 18 true (Mv 5)),(xi 21 18 true (.idxS (.t 19) (.t 20))),(xi 22 18 true (.bin .eql (.t 21) (.c (.u8 42))))] [19,20,21],oo 23 (Pf 18 22) [18,22],omk 13 23]
def r92_4:List RI:=[om 24 5,om 25 6,omk 26 5,oo 27 (Bc .add 26 1) [26],omk 7 24,omk 8 25,omk 5 27]
def r92_5:List FI:=[Fm 0 29 5,Fm 1 30 0,Fs 2 31 (.len true (.t 30)),Fs 3 32 (Bb .lss 29 31),Fm 4 33 32,Fi 5 34 33 true (Mv 0),Fi 6 35 33 true (Mv 5),Fi 7 36 33 true (.idxS (.t 34) (.t 35)),Fi 8 37 33 true (.bin .eql (.t 36) (.c (.u8 63))),Fi 9 38 33 true (Mv 37),Fi 10 39 38 false (Mv 0),Fi 11 40 38 false (Mv 5),Fi 12 41 38 false (.idxS (.t 39) (.t 40)),Fi 13 42 38 false (Mv 1),Fi 14 43 38 false (Mv 6),Fi 15 44 38 false (Ia 1 42 43),Fi 16 45 38 false (Ld 44),Fi 17 46 38 false (Bb .eql 41 45),Fi 18 47 33 true (Pt 38 46),Fs 19 48 (Pf 33 47),Fm 20 28 48]
def r92_6:List RI:=[omk 49 5,oo 50 (Bc .add 49 1) [49],omk 51 6,oo 52 (Bc .add 51 1) [51],omk 5 50,omk 6 52]
def r92_7:List RI:=[om 54 7,oo 55 (Bc .geq 54 0) [54],omk 53 55]
def r92_8:List RI:=[om 56 7,oo 57 (Bc .add 56 1) [56],om 58 8,oo 59 (Bc .add 58 1) [58],omk 60 8,oo 61 (Bc .add 60 1) [60],omk 5 57,omk 6 59,omk 8 61]
def r92_9:List RI:=[on 4 (.mov (.c (.bool false)))]
def b92_10:RC:=(.seq (So r92_2 (Kc 12 (Kk [12] .skip) (Kk [1,6,7,8,12] (.exit 0)))) (.block 1 (.block 2 (So r92_3 (Kc 13 (Kk [7,8,13] (.ops r92_4)) (Kk [13] (.seq (.flt [0,0,2,7,15,31,31,127,255,511,1023,1023,4095,1023,1023,25599,58367,131071,262143,524287,1048575] [] r92_5 [29,30,31,32,33,34,35,36,37,38,39,40,41,42,43,44,45,46,47,48]) (Kc 28 (Kk [28] (.ops r92_6)) (Kk [5,6,28] (So r92_7 (Kc 53 (Kk [53] (.ops r92_8)) (Kk [0,1,7,8,53] (So r92_9 .ret)))))))))))))
def r92_10:RC:=b92_10
def r92_11:List RI:=[omk 62 0,omk 63 5,oo 64 (.slcS (.t 62) (some (.t 63)) none) [62,63],oo 65 (Ca 133 [.t 64,(.c (.str [42]))]) [64],oo 66 (.bin .eql (.t 65) (.c (.str []))) [65],omk 4 66]
def r92:RC:=(So r92_0 (So r92_1 (.seq (.block 0 (.loop r92_10)) (So r92_11 .ret))))
def F92:FnC:=⟨r92,67,[.tmp 4],[],[]⟩
def r93_0:List RI:=[oo 4 (.mov (.c (.str []))) [4],oo 5 (.mov (.c (.bool false))) [5]]
def r93_1:List RI:=[omk 6 0,omk 7 1,oo 8 (Ca 134 [.t 6,.t 7]) [6,7],on 9 (.ext (.t 8) 0),oo 10 (.ext (.t 8) 1) [8],omk 4 9,omk 5 10]
def r93:RC:=(So r93_0 (So r93_1 .ret))
def F93:FnC:=⟨r93,11,[.tmp 4,.tmp 5],[],[]⟩
def r94_0:List RI:=[oo 2 (.mov (ci 0)) [2]]
def r94_1:List RI:=[om 6 0,oo 7 (.bin .eql (.t 6) (.c (.str []))) [6],omk 8 7,.grp 8 false [(xi 9 8 false (Mv 0)),(xi 10 8 false (.len true (.t 9))),(xi 11 8 false (Bc .gtr 10 10))] [9,10],oo 12 (Pt 8 11) [8,11],omk 13 12,.grp 13 false [(xi 14 13 false (Mv 0)),(xi 15 13 false (.len true (.t 14))),(xi 16 13 false (Bc .gtr 15 1)),(xi 17 13 false (Mv 16))] [14,15,16],.grp 17 true [(xi 18 17 true (Mv 0)),(xi 19 17 true (.idxS (.t 18) (ci 0))),(xi 20 17 true (.bin .eql (.t 19) (.c (.u8 48))))] [18,19],.grp 13 false [(xi 21 13 false (Pf 17 20))] [17,20],oo 22 (Pt 13 21) [13,21]]
def r94_2:List RI:=[on 2 (.mov (ci (-1)))]
def r94_3:List RI:=[om 23 0,oo 24 (.len true (.t 23)) [23],on 25 (.mov (ci 0))]
def r94_4:List RI:=[on 26 (Bb .lss 25 24)]
def r94_5:List RI:=[om 27 25,omk 3 27]
def r94_6:List RI:=[om 28 0,om 29 3,oo 30 (.idxS (.t 28) (.t 29)) [28,29],oo 31 (.bin .lss (.t 30) (.c (.u8 48))) [30],omk 32 31,.grp 32 false [(xi 33 32 false (Mv 0)),(xi 34 32 false (Mv 3)),(xi 35 32 false (.idxS (.t 33) (.t 34))),(xi 36 32 false (.bin .gtr (.t 35) (.c (.u8 57))))] [3,33,34,35],oo 37 (Pt 32 36) [32,36]]
def r94_7:List RI:=[on 2 (.mov (ci (-1)))]
def r94_8:List RI:=[oo 38 (Bc .add 25 1) [25],omk 25 38]
def b94_9:RC:=(So r94_4 (.seq (Kc 26 (Kk [26] .skip) (Kk [24,25,26] (.exit 0))) (.seq (.block 1 (So r94_5 (So r94_6 (Kc 37 (Kk [0,24,25,37] (So r94_7 .ret)) (Kk [37] .skip))))) (.ops r94_8))))
def r94_9:RC:=b94_9
def r94_10:List RI:=[omk 40 0,oo 41 (Ca 135 [.t 40]) [40],omk 39 41,on 42 (.ext (.t 39) 0),oo 43 (.ext (.t 39) 1) [39],omk 4 42,.op (xm 5 43) [5,43]]
def r94_11:List RI:=[omk 44 4,omk 2 44]
def r94:RC:=(So r94_0 (.seq (So r94_1 (Kc 22 (Kk [0,22] (So r94_2 .ret)) (Kk [22] .skip))) (.seq (So r94_3 (.block 0 (.loop r94_9))) (So r94_10 (So r94_11 .ret)))))
def F94:FnC:=⟨r94,45,[.tmp 2],[],[]⟩
def r95_0:List RI:=[oo 2 (.mov (.c (.bool false))) [2]]
def r95_1:List RI:=[om 5 0,oo 6 (.len true (.t 5)) [5],oo 7 (Bc .lss 6 1) [6],omk 8 7,.grp 8 false [(xi 9 8 false (Mv 0)),(xi 10 8 false (.len true (.t 9))),(xi 11 8 false (Bc .gtr 10 12))] [9,10],oo 12 (Pt 8 11) [8,11]]
def r95_2:List RI:=[on 2 (.mov (.c (.bool false)))]
def r95_3:List RI:=[on 3 (.mov (ci 0))]
def r95_4:List RI:=[om 13 3,om 14 0,oo 15 (.len true (.t 14)) [14],oo 16 (Bb .lss 13 15) [13,15]]
def r95_5:List RI:=[om 19 0,om 20 3,oo 21 (.idxS (.t 19) (.t 20)) [19,20],omk 4 21]
def r95_6:List RI:=[om 22 4,oo 23 (.bin .lss (.t 22) (.c (.u8 97))) [22],omk 24 23,.grp 24 false [(xi 25 24 false (Mv 4)),(xi 26 24 false (.bin .gtr (.t 25) (.c (.u8 122))))] [25],oo 27 (Pt 24 26) [24,26],omk 28 27,.grp 28 true [(xi 29 28 true (Mv 4)),(xi 30 28 true (.bin .lss (.t 29) (.c (.u8 48)))),(xi 31 28 true (Mv 30))] [29,30],.grp 31 false [(xi 32 31 false (Mv 4)),(xi 33 31 false (.bin .gtr (.t 32) (.c (.u8 57))))] [32],.grp 28 true [(xi 34 28 true (Pt 31 33))] [31,33],oo 35 (Pf 28 34) [28,34],omk 36 35,.grp 36 true [(xi 37 36 true (Mv 4)),(xi 38 36 true (.bin .neq (.t 37) (.c (.u8 45))))] [4,37],oo 39 (Pf 36 38) [36,38]]
def r95_7:List RI:=[on 2 (.mov (.c (.bool false)))]
def r95_8:List RI:=[omk 17 3,oo 18 (Bc .add 17 1) [17],omk 3 18]
def b95_9:RC:=(.seq (So r95_4 (Kc 16 (Kk [16] .skip) (Kk [0,3,16] (.exit 0)))) (.seq (.block 1 (So r95_5 (So r95_6 (Kc 39 (Kk [0,3,39] (So r95_7 .ret)) (Kk [39] .skip))))) (.ops r95_8)))
def r95_9:RC:=b95_9
def r95_10:List RI:=[on 2 (.mov (.c (.bool true)))]
def r95:RC:=(So r95_0 (.seq (So r95_1 (Kc 12 (Kk [0,12] (So r95_2 .ret)) (Kk [12] .skip))) (.seq (So r95_3 (.block 0 (.loop r95_9))) (So r95_10 .ret))))
def F95:FnC:=⟨r95,40,[.tmp 2],[],[]⟩
def r97_0:List RI:=[oo 2 (.mov (.c (.byt [] .clip))) [2]]
def r97_1:List RI:=[om 3 0,oo 4 (Bc .lss 3 10) [3]]
def r97_2:List RI:=[omk 5 0,oo 6 (.bin .add (ci 48) (.t 5)) [5],oo 7 (.toInt .u8 (.t 6)) [6],oo 8 (.litB [.t 7]) [7],omk 2 8]
def r97_3:List RI:=[om 9 0,oo 10 (Bc .quo 9 10) [9],oo 11 (Ca 97 [.t 10]) [10],omk 12 0,oo 13 (Bc .rem 12 10) [12],oo 14 (.bin .add (ci 48) (.t 13)) [13],oo 15 (.toInt .u8 (.t 14)) [14],oo 16 (.litB [.t 15]) [15],oo 17 (.app [.u8 0] 1 (.t 11) (.t 16)) [11,16],omk 2 17]
def r97:RC:=(So r97_0 (.seq (So r97_1 (Kc 4 (Kk [4] (So r97_2 .ret)) (Kk [4] .skip))) (So r97_3 .ret)))
def F97:FnC:=⟨r97,18,[.tmp 2],[0],[]⟩
def r99_0:List RI:=[oo 4 (.mov (.c (.byt [] .clip))) [4]]
def r99_1:List RI:=[omk 5 0]
def r99_2:List RI:=[on 7 (Bc .eql 5 0),omk 6 7]
def r99_3:List RI:=[omk 8 1,oo 9 (Ca 136 [.t 8]) [8],omk 4 9]
def r99_4:List RI:=[oo 11 (Bc .eql 5 1) [5],omk 10 11]
def r99_5:List RI:=[omk 12 1,oo 13 (Ca 80 [.t 12]) [12],omk 4 13]
def r99_6:List RI:=[on 4 (.mov (.c (.byt [] .clip)))]
def r99:RC:=(So r99_0 (.seq (So r99_1 (.block 0 (So r99_2 (Kc 6 (Kk [5,6] (So r99_3 .ret)) (Kk [6] (So r99_4 (Kc 10 (Kk [10] (So r99_5 .ret)) (Kk [1,10] .skip)))))))) (So r99_6 .ret)))
def F99:FnC:=⟨r99,14,[.tmp 4],[],[]⟩
def r101_0:List RI:=[oo 1 (.box (.t 0)) [0],oo 2 (.mov (.c (.byt [] .clip))) [2]]
def r101_1:List RI:=[on 8 (.load 7 true (.t 1)),oo 9 (Ca 44 [.t 8]) [8],oo 10 (Bc .neq 9 0) [9]]
def r101_2:List RI:=[on 2 (.mov (.c (.byt [] .clip)))]
def r101_3:List RI:=[on 11 (Ca 117 [(.c (.byt [] .clip)),ci 1,ci 21]),omk 3 11]
def r101_4:List RI:=[omk 12 3,on 13 (Fa 0 1),oo 14 (Ld 13) [13],oo 15 (.s2b (.t 14)) [14],oo 16 (Ca 118 [.t 12,.t 15]) [12,15],omk 3 16]
def r101_5:List FI:=[Fm 0 17 3,Fs 1 18 (Fa 1 1),Fs 2 19 (Ld 18),Fs 4 21 (Fa 2 1),Fs 5 22 (Ld 21),Fz 3 20 (Ca 117 [.t 17,ci 4,.t 19]),Fz 6 23 (Ca 117 [.t 20,ci 4,.t 22]),⟨7,false,(xm 3 23)⟩]
def r101_6:List FI:=[Fm 0 24 3,Fs 1 25 (Fa 3 1),Fs 2 26 (Ld 25),Fs 4 28 (Fa 4 1),Fs 5 29 (Ld 28),Fz 3 27 (Ca 117 [.t 24,ci 6,.t 26]),Fz 6 30 (Ca 117 [.t 27,ci 6,.t 29]),⟨7,false,(xm 3 30)⟩]
def r101_7:List RI:=[omk 31 3,on 32 (Fa 5 1),oo 33 (Ld 32) [32],oo 34 (Ln 33) [33],oo 35 (Ca 117 [.t 31,ci 1,.t 34]) [31,34],omk 3 35]
def r101_8:List RI:=[on 36 (Fa 5 1),oo 37 (Ld 36) [36],on 38 (Ln 37),on 39 (.mov (ci 0))]
def r101_9:List RI:=[on 40 (Bb .lss 39 38)]
def r101_10:List RI:=[on 41 (Ia 4 37 39),oo 42 (.load 4 true (.t 41)) [41],on 5 (.new (.rc Zq1)),.op ⟨none,none,.store 4 (.t 5) (.t 42)⟩ [42]]
def r101_11:List FI:=[Fm 0 43 3,Fs 1 44 (Fa 0 5),Fs 2 45 (Ld 44),Fs 4 47 (Fa 1 5),Fs 5 48 (Ld 47),Fs 6 49 (.s2b (.t 48)),Fz 3 46 (Ca 117 [.t 43,ci 1,.t 45]),Fz 7 50 (Ca 118 [.t 46,.t 49]),⟨8,false,(xm 3 50)⟩]
def r101_12:List FI:=[Fm 0 51 3,Fs 1 52 (Fa 2 5),Fs 2 53 (Ld 52),Fs 4 55 (Fa 3 5),Fs 5 56 (Ld 55),Fz 3 54 (Ca 117 [.t 51,ci 4,.t 53]),Fz 6 57 (.app [.u8 0] 1 (.t 54) (.t 56)),⟨7,false,(xm 3 57)⟩]
def r101_13:List RI:=[oo 58 (Bc .add 39 1) [39],omk 39 58]
def b101_14:RC:=(.post (So r101_9 (.seq (Kc 40 (Kk [40] .skip) (Kk [37,38,39,40] (.exit 0))) (.seq (.block 1 (So r101_10 (.seq (.flt [0,0,2,7,0,16,48,127,255] [] r101_11 [43,44,45,46,47,48,49,50]) (.flt [0,0,2,7,0,16,63,127] [157] r101_12 [5,51,52,53,54,55,56,57])))) (.ops r101_13)))) [.gc [105],.gcr 47000 48000,.gcr 55000 56000,.tok 3 103])
def r101_14:RC:=b101_14
def r101_15:List RI:=[omk 59 3,on 60 (Fa 6 1),oo 61 (Ld 60) [60],oo 62 (Ln 61) [61],oo 63 (Ca 117 [.t 59,ci 1,.t 62]) [59,62],omk 3 63]
def r101_16:List RI:=[oo 64 (Fa 6 1) [1],oo 65 (Ld 64) [64],on 66 (Ln 65),on 67 (.mov (ci 0))]
def r101_17:List RI:=[on 68 (Bb .lss 67 66)]
def r101_18:List RI:=[on 69 (Ia 4 65 67),oo 70 (.load 4 true (.t 69)) [69],on 7 (.new (.rc [.int .i64 0,.str [],.int .i64 0,.int .i64 0])),.op ⟨none,none,.store 4 (.t 7) (.t 70)⟩ [70]]
def r101_19:List FI:=[Fm 0 71 3,Fs 1 72 (Fa 0 7),Fs 2 73 (Ld 72),Fs 4 75 (Fa 1 7),Fs 5 76 (Ld 75),Fs 6 77 (.s2b (.t 76)),Fz 3 74 (Ca 117 [.t 71,ci 1,.t 73]),Fz 7 78 (Ca 118 [.t 74,.t 77]),⟨8,false,(xm 3 78)⟩]
def r101_20:List FI:=[Fm 0 79 3,Fs 1 80 (Fa 2 7),Fs 2 81 (Ld 80),Fs 4 83 (Fa 3 7),Fs 5 84 (Ld 83),Fz 3 82 (Ca 117 [.t 79,ci 4,.t 81]),Fz 6 85 (Ca 117 [.t 82,ci 4,.t 84]),⟨7,false,(xm 3 85)⟩]
def r101_21:List RI:=[oo 86 (Bc .add 67 1) [67],omk 67 86]
def b101_22:RC:=(.post (So r101_17 (.seq (Kc 68 (Kk [68] .skip) (Kk [65,66,67,68] (.exit 2))) (.seq (.block 3 (So r101_18 (.seq (.flt [0,0,2,7,0,16,48,127,255] [] r101_19 [71,72,73,74,75,76,77,78]) (.flt [0,0,2,7,0,16,63,127] [] r101_20 [7,79,80,81,82,83,84,85])))) (.ops r101_21)))) [.gc [107],.gcr 75000 76000,.gcr 83000 84000])
def r101_22:RC:=b101_22
def r101_23:List RI:=[omk 87 3,omk 2 87]
def r101:RC:=(So r101_0 (.seq (So r101_1 (Kc 10 (Kk [1,10] (So r101_2 .ret)) (Kk [10] .skip))) (So r101_3 (So r101_4 (.seq (.flt [0,0,2,7,0,16,63,127] [] r101_5 [17,18,19,20,21,22,23]) (.seq (.flt [0,0,2,7,0,16,63,127] [] r101_6 [24,25,26,27,28,29,30]) (So r101_7 (.seq (So r101_8 (.block 0 (.pre [.tok 3 103] (.loop r101_14)))) (So r101_15 (.seq (So r101_16 (.block 2 (.loop r101_22))) (So r101_23 .ret)))))))))))
def F101:FnC:=⟨r101,88,[.tmp 2],[],[]⟩
def r102_0:List RI:=[oo 4 (.mov (.c (.byt [] .clip))) [4]]
def r102_1:List RI:=[omk 5 0,omk 6 1,oo 7 (Ca 137 [.t 5,.t 6]) [5,6],oo 8 (Ca 69 [ci 1,.t 7]) [7],omk 4 8]
def r102:RC:=(So r102_0 (So r102_1 .ret))
def F102:FnC:=⟨r102,9,[.tmp 4],[],[]⟩
def r108_0:List RI:=[on 0 (.new (.arr 1 (List.replicate 5 [.str []])))]
def r108_1:List RI:=[on 1 (.build [.str [],.str [],.str [],.str [],.str []] [(0,1,(.c (.str [97]))),(1,1,(.c (.str [103,114,117,98]))),(2,1,(.c (.str [108,105,110,117,120]))),(3,1,(.c (.str [110,101,116,45,48]))),(4,1,(.c (.str [116,119,101,108,118,101,45,98,121,116,101,115])))]),.op ⟨none,none,.store 5 (.t 0) (.t 1)⟩ [1]]
def r108:RC:=(So r108_0 (So r108_1 .ret))
def F108:FnC:=⟨r108,2,[.cell 0 5 true],[],[]⟩
def r109_0:List RI:=[oo 2 (.mov (.c (.byt [] .clip))) [2]]
def r109_1:List RI:=[on 3 (.mov (.c (.byt [] .clip)))]
def r109_2:List RI:=[om 5 0,oo 6 (Ca 37 [.t 5,ci 4]) [5],oo 7 (.bin .add (ci 1) (.t 6)) [6],omk 4 7]
def r109_3:List RI:=[om 8 4,oo 9 (Bc .gtr 8 0) [8]]
def r109_4:List RI:=[omk 12 3,om 13 0,oo 14 (Ca 86 [.t 13]) [13],oo 15 (.app [.u8 0] 1 (.t 12) (.t 14)) [12,14],on 16 (.litB [(.c (.u8 10))]),oo 17 (.app [.u8 0] 1 (.t 15) (.t 16)) [15,16],omk 3 17]
def r109_5:List RI:=[omk 10 4,oo 11 (Bc .sub 10 1) [10],omk 4 11]
def b109_6:RC:=(.post (.seq (So r109_3 (Kc 9 (Kk [9] .skip) (Kk [0,4,9] (.exit 0)))) (.seq (.block 1 (.ops r109_4)) (.ops r109_5))) [.gc [115],.tok 3 103])
def r109_6:RC:=b109_6
def r109_7:List RI:=[omk 18 3,omk 2 18]
def r109:RC:=(So r109_0 (So r109_1 (.seq (So r109_2 (.block 0 (.pre [.tok 3 103] (.loop r109_6)))) (So r109_7 .ret))))
def F109:FnC:=⟨r109,19,[.tmp 2],[],[]⟩
def r113_0:List RI:=[oo 2 (.mov (.c (.byt [] .clip))) [2]]
def r113_1:List RI:=[om 6 0,oo 7 (Ln 6) [6],oo 8 (Bc .add 7 72) [7],oo 9 (.mkB (ci 0) (.t 8)) [8],om 10 0,.dir (.tok 9 109),oo 11 (.app [.u8 0] 1 (.t 9) (.t 10)) [9,10],on 12 (.litB [(.c (.u8 128))]),oo 13 (.app [.u8 0] 1 (.t 11) (.t 12)) [11,12],omk 3 13]
def r113_2:List RI:=[om 14 3,oo 15 (Ln 14) [14],oo 16 (Bc .rem 15 64) [15],oo 17 (Bc .neq 16 56) [16]]
def r113_3:List RI:=[omk 18 3,on 19 (.litB [(.c (.u8 0))]),oo 20 (.app [.u8 0] 1 (.t 18) (.t 19)) [18,19],omk 3 20]
def b113_4:RC:=(.post (.seq (So r113_2 (Kc 17 (Kk [17] .skip) (Kk [17] (.exit 0)))) (.block 1 (.ops r113_3))) [.tok 3 103])
def r113_4:RC:=b113_4
def r113_5:List RI:=[omk 21 0,oo 22 (Ln 21) [21],oo 23 (.toInt .u64 (.t 22)) [22],oo 24 (.bin .mul (.t 23) (.c (.int .u64 8))) [23],omk 4 24]
def r113_6:List RI:=[on 5 (.mov (ci 56))]
def r113_7:List RI:=[om 25 5,oo 26 (Bc .geq 25 0) [25]]
def r113_8:List RI:=[omk 29 3,om 30 4,om 31 5,oo 32 (.toInt .u64 (.t 31)) [31],oo 33 (Bb .shr 30 32) [30,32],oo 34 (.toInt .u8 (.t 33)) [33],oo 35 (.litB [.t 34]) [34],oo 36 (.app [.u8 0] 1 (.t 29) (.t 35)) [29,35],omk 3 36]
def r113_9:List RI:=[omk 27 5,oo 28 (Bc .sub 27 8) [27],omk 5 28]
def b113_10:RC:=(.post (.seq (So r113_7 (Kc 26 (Kk [26] .skip) (Kk [4,5,26] (.exit 2)))) (.seq (.block 3 (.ops r113_8)) (.ops r113_9))) [.tok 3 103])
def r113_10:RC:=b113_10
def r113_11:List RI:=[omk 37 3,omk 2 37]
def r113:RC:=(So r113_0 (So r113_1 (.seq (.block 0 (.pre [.tok 3 103] (.loop r113_4))) (So r113_5 (.seq (So r113_6 (.block 2 (.pre [.tok 3 103] (.loop r113_10)))) (So r113_11 .ret))))))
def F113:FnC:=⟨r113,38,[.tmp 2],[],[]⟩
def r114_0:List RI:=[on 4 (.new (.arr 1 (List.replicate 80 [.int .u32 0])))]
def r114_1:List RI:=[on 14 (.mov (ci 0))]
def r114_2:List RI:=[on 15 (Bc .lss 14 80)]
def r114_3:List RI:=[om 16 14,omk 5 16]
def r114_4:List RI:=[om 17 5,oo 18 (Bc .lss 17 16) [17]]
def r114_5:List RI:=[om 19 5,om 20 1,omk 21 5,oo 22 (Ca 141 [.t 20,.t 21]) [20,21],oo 23 (.iaddrA 80 1 (.t 4) (.t 19)) [19],.op ⟨none,none,.store 1 (.t 23) (.t 22)⟩ [22,23]]
def r114_6:List FI:=[Fm 0 24 5,Fm 1 25 5,Fs 2 26 (Bc .sub 25 3),Fs 3 27 (.iaddrA 80 1 (.t 4) (.t 26)),Fs 4 28 (Ld 27),Fm 5 29 5,Fs 6 30 (Bc .sub 29 8),Fs 7 31 (.iaddrA 80 1 (.t 4) (.t 30)),Fs 8 32 (Ld 31),Fs 9 33 (Bb .xor 28 32),Fm 10 34 5,Fs 11 35 (Bc .sub 34 14),Fs 12 36 (.iaddrA 80 1 (.t 4) (.t 35)),Fs 13 37 (Ld 36),Fs 14 38 (Bb .xor 33 37),Fm 15 39 5,Fs 16 40 (Bc .sub 39 16),Fs 17 41 (.iaddrA 80 1 (.t 4) (.t 40)),Fs 18 42 (Ld 41),Fs 19 43 (Bb .xor 38 42),Fz 20 44 (Ca 142 [.t 43,ci 1]),Fs 21 45 (.iaddrA 80 1 (.t 4) (.t 24)),⟨22,false,⟨none,none,.store 1 (.t 45) (.t 44)⟩⟩]
def r114_7:List RI:=[oo 46 (Bc .add 14 1) [14],omk 14 46]
def b114_8:RC:=(So r114_2 (.seq (Kc 15 (Kk [15] .skip) (Kk [1,14,15] (.exit 0))) (.seq (.block 1 (So r114_3 (So r114_4 (Kc 18 (Kk [18] (.ops r114_5)) (Kk [18] (.flt [0,0,2,6,14,0,32,96,224,510,0,1024,3072,7168,16382,0,32768,98304,229376,524286,1048574,2097151,4194303] [] r114_6 [5,24,25,26,27,28,29,30,31,32,33,34,35,36,37,38,39,40,41,42,43,44,45])))))) (.ops r114_7))))
def r114_8:RC:=b114_8
def r114_9:List FI:=[Fm 0 47 0,Fs 1 48 (.nchk (.t 47)),Fs 2 49 (.iaddrA 5 1 (.t 48) (ci 0)),Fs 3 50 (Ld 49),Fm 4 51 0,Fs 5 52 (.nchk (.t 51)),Fs 6 53 (.iaddrA 5 1 (.t 52) (ci 1)),Fs 7 54 (Ld 53),Fm 8 55 0,Fs 9 56 (.nchk (.t 55)),Fs 10 57 (.iaddrA 5 1 (.t 56) (ci 2)),Fs 11 58 (Ld 57),Fm 12 59 0,Fs 13 60 (.nchk (.t 59)),Fs 14 61 (.iaddrA 5 1 (.t 60) (ci 3)),Fs 15 62 (Ld 61),Fm 16 63 0,Fs 17 64 (.nchk (.t 63)),Fs 18 65 (.iaddrA 5 1 (.t 64) (ci 4)),Fs 19 66 (Ld 65),Fm 20 6 50,Fm 21 7 54,Fm 22 8 58,Fm 23 9 62,Fm 24 10 66]
def r114_10:List RI:=[on 67 (.mov (ci 0))]
def r114_11:List RI:=[on 68 (Bc .lss 67 80)]
def r114_12:List RI:=[om 69 67,omk 11 69]
def r114_13:List RI:=[oo 12 (.mov (.c (.int .u32 0))) [12],oo 13 (.mov (.c (.int .u32 0))) [13]]
def r114_14:List RI:=[om 70 11,oo 71 (Bc .quo 70 20) [70]]
def r114_15:List RI:=[on 78 (Bc .eql 71 0),omk 77 78]
def r114_16:List RI:=[om 79 7,om 80 8,oo 81 (Bb .and 79 80) [79,80],om 82 7,oo 83 (.un .xor (.t 82)) [82],om 84 9,oo 85 (Bb .and 83 84) [83,84],oo 86 (Bb .xor 81 85) [81,85],omk 12 86,on 13 (.mov (.c (.int .u32 1518500249)))]
def r114_17:List RI:=[on 88 (Bc .eql 71 1),omk 87 88]
def r114_18:List RI:=[om 89 7,om 90 8,oo 91 (Bb .xor 89 90) [89,90],om 92 9,oo 93 (Bb .xor 91 92) [91,92],omk 12 93,on 13 (.mov (.c (.int .u32 1859775393)))]
def r114_19:List RI:=[oo 95 (Bc .eql 71 2) [71],omk 94 95]
def r114_20:List RI:=[om 96 7,om 97 8,oo 98 (Bb .and 96 97) [96,97],om 99 7,om 100 9,oo 101 (Bb .and 99 100) [99,100],oo 102 (Bb .xor 98 101) [98,101],om 103 8,om 104 9,oo 105 (Bb .and 103 104) [103,104],oo 106 (Bb .xor 102 105) [102,105],omk 12 106,on 13 (.mov (.c (.int .u32 2400959708)))]
def r114_21:List RI:=[om 72 7,om 73 8,oo 74 (Bb .xor 72 73) [72,73],om 75 9,oo 76 (Bb .xor 74 75) [74,75],omk 12 76,on 13 (.mov (.c (.int .u32 3395469782)))]
def r114_22:List FI:=[Fm 0 107 6,Fm 2 109 12,Fm 4 111 10,Fm 6 113 13,Fm 8 115 11,Fs 9 116 (.iaddrA 80 1 (.t 4) (.t 115)),Fs 10 117 (Ld 116),Fm 12 119 6,Fm 13 120 7,Fm 15 122 8,Fm 16 123 9,Fz 1 108 (Ca 142 [.t 107,ci 5]),Fs 3 110 (Bb .add 108 109),Fs 5 112 (Bb .add 110 111),Fs 7 114 (Bb .add 112 113),Fs 11 118 (Bb .add 114 117),Fz 14 121 (Ca 142 [.t 120,ci 30]),⟨17,false,(xm 6 118)⟩,⟨18,false,(xm 7 119)⟩,⟨19,false,(xm 8 121)⟩,⟨20,false,(xm 9 122)⟩,⟨21,false,(xm 10 123)⟩]
def r114_23:List RI:=[oo 124 (Bc .add 67 1) [67],omk 67 124]
def b114_24:RC:=(So r114_11 (.seq (Kc 68 (Kk [68] .skip) (Kk [4,67,68] (.exit 2))) (.seq (.block 3 (So r114_12 (So r114_13 (.seq (So r114_14 (.block 4 (So r114_15 (Kc 77 (Kk [71,77] (.ops r114_16)) (Kk [77] (So r114_17 (Kc 87 (Kk [71,87] (.ops r114_18)) (Kk [87] (So r114_19 (Kc 94 (Kk [94] (.ops r114_20)) (Kk [94] (.ops r114_21)))))))))))) (.flt [0,1,0,7,0,31,0,127,0,256,768,2047,0,0,8195,0,0,131071,262143,524287,1048575,2097151] [] r114_22 [11,12,13,107,108,109,110,111,112,113,114,115,116,117,118,119,120,121,122,123]))))) (.ops r114_23))))
def r114_24:RC:=b114_24
def r114_25:List FI:=[Fm 0 125 0,Fs 1 126 (.nchk (.t 125)),Fs 2 127 (.iaddrA 5 1 (.t 126) (ci 0)),Fs 3 128 (Ld 127),Fm 4 129 6,Fs 5 130 (Bb .add 128 129),Fs 6 131 (.nchk (.t 125)),Fs 7 132 (.iaddrA 5 1 (.t 131) (ci 0)),⟨8,false,⟨none,none,.store 1 (.t 132) (.t 130)⟩⟩]
def r114_26:List FI:=[Fm 0 133 0,Fs 1 134 (.nchk (.t 133)),Fs 2 135 (.iaddrA 5 1 (.t 134) (ci 1)),Fs 3 136 (Ld 135),Fm 4 137 7,Fs 5 138 (Bb .add 136 137),Fs 6 139 (.nchk (.t 133)),Fs 7 140 (.iaddrA 5 1 (.t 139) (ci 1)),⟨8,false,⟨none,none,.store 1 (.t 140) (.t 138)⟩⟩]
def r114_27:List FI:=[Fm 0 141 0,Fs 1 142 (.nchk (.t 141)),Fs 2 143 (.iaddrA 5 1 (.t 142) (ci 2)),Fs 3 144 (Ld 143),Fm 4 145 8,Fs 5 146 (Bb .add 144 145),Fs 6 147 (.nchk (.t 141)),Fs 7 148 (.iaddrA 5 1 (.t 147) (ci 2)),⟨8,false,⟨none,none,.store 1 (.t 148) (.t 146)⟩⟩]
def r114_28:List FI:=[Fm 0 149 0,Fs 1 150 (.nchk (.t 149)),Fs 2 151 (.iaddrA 5 1 (.t 150) (ci 3)),Fs 3 152 (Ld 151),Fm 4 153 9,Fs 5 154 (Bb .add 152 153),Fs 6 155 (.nchk (.t 149)),Fs 7 156 (.iaddrA 5 1 (.t 155) (ci 3)),⟨8,false,⟨none,none,.store 1 (.t 156) (.t 154)⟩⟩]
def r114_29:List FI:=[Fm 0 157 0,Fs 1 158 (.nchk (.t 157)),Fs 2 159 (.iaddrA 5 1 (.t 158) (ci 4)),Fs 3 160 (Ld 159),Fm 4 161 10,Fs 5 162 (Bb .add 160 161),Fs 6 163 (.nchk (.t 157)),Fs 7 164 (.iaddrA 5 1 (.t 163) (ci 4)),⟨8,false,⟨none,none,.store 1 (.t 164) (.t 162)⟩⟩]
def r114:RC:=(So r114_0 (.seq (So r114_1 (.block 0 (.loop r114_8))) (.seq (.flt [0,1,3,7,0,16,48,112,0,256,768,1792,0,4096,12288,28672,0,65536,196608,458752,15,1048831,3149823,7405567,16777215] [] r114_9 [47,48,49,50,51,52,53,54,55,56,57,58,59,60,61,62,63,64,65,66]) (.seq (So r114_10 (.block 2 (.loop r114_24))) (.seq (.flt [0,1,3,7,0,31,1,127,255] [] r114_25 [6,125,126,127,128,129,130,131,132]) (.seq (.flt [0,1,3,7,0,31,1,127,255] [] r114_26 [7,133,134,135,136,137,138,139,140]) (.seq (.flt [0,1,3,7,0,31,1,127,255] [] r114_27 [8,141,142,143,144,145,146,147,148]) (.seq (.flt [0,1,3,7,0,31,1,127,255] [] r114_28 [9,149,150,151,152,153,154,155,156]) (.flt [0,1,3,7,0,31,1,127,255] [] r114_29 [0,10,157,158,159,160,161,162,163,164])))))))))
def F114:FnC:=⟨r114,165,[],[],[]⟩
def r115_0:List RI:=[oo 2 (.mov (.c (.byt [] .clip))) [2]]
def r115_1:List RI:=[om 6 0,oo 7 (Ln 6) [6],oo 8 (.bin .mul (ci 4) (.t 7)) [7],oo 9 (.mkB (ci 0) (.t 8)) [8],omk 3 9]
def r115_2:List RI:=[omk 10 0,on 11 (Ln 10),on 12 (.mov (ci 0))]
def r115_3:List RI:=[on 13 (Bb .lss 12 11)]
def r115_4:List RI:=[on 14 (Ia 1 10 12),oo 15 (Ld 14) [14],omk 5 15]
def r115_5:List RI:=[omk 16 3,om 17 5,oo 18 (.bin .shr (.t 17) (.c (.int .u64 24))) [17],oo 19 (.toInt .u8 (.t 18)) [18],om 20 5,oo 21 (.bin .shr (.t 20) (.c (.int .u64 16))) [20],oo 22 (.toInt .u8 (.t 21)) [21],om 23 5,oo 24 (.bin .shr (.t 23) (.c (.int .u64 8))) [23],oo 25 (.toInt .u8 (.t 24)) [24],omk 26 5,oo 27 (.toInt .u8 (.t 26)) [26],oo 28 (.litB [.t 19,.t 22,.t 25,.t 27]) [19,22,25,27],.dir (.tok 16 116),oo 29 (.app [.u8 0] 1 (.t 16) (.t 28)) [16,28],omk 3 29]
def r115_6:List RI:=[oo 30 (Bc .add 12 1) [12],omk 12 30]
def b115_7:RC:=(.post (So r115_3 (.seq (Kc 13 (Kk [13] .skip) (Kk [10,11,12,13] (.exit 0))) (.seq (.block 1 (So r115_4 (.ops r115_5))) (.ops r115_6)))) [.tok 3 103])
def r115_7:RC:=b115_7
def r115_8:List RI:=[omk 31 3,omk 2 31]
def r115:RC:=(So r115_0 (So r115_1 (.seq (So r115_2 (.block 0 (.pre [.tok 3 103] (.loop r115_7)))) (So r115_8 .ret))))
def F115:FnC:=⟨r115,32,[.tmp 2],[],[]⟩
def r116_0:List RI:=[on 4 (.new (.arr 1 (List.replicate 64 [.int .u32 0])))]
def r116_1:List RI:=[on 17 (.mov (ci 0))]
def r116_2:List RI:=[on 18 (Bc .lss 17 64)]
def r116_3:List RI:=[om 19 17,omk 5 19]
def r116_4:List RI:=[om 20 5,oo 21 (Bc .lss 20 16) [20]]
def r116_5:List RI:=[om 22 5,om 23 1,omk 24 5,oo 25 (Ca 141 [.t 23,.t 24]) [23,24],oo 26 (.iaddrA 64 1 (.t 4) (.t 22)) [22],.op ⟨none,none,.store 1 (.t 26) (.t 25)⟩ [25,26]]
def r116_6:List FI:=[Fm 0 27 5,Fs 1 28 (Bc .sub 27 15),Fs 2 29 (.iaddrA 64 1 (.t 4) (.t 28)),Fs 3 30 (Ld 29),Fm 4 31 5,Fs 5 32 (Bc .sub 31 2),Fs 6 33 (.iaddrA 64 1 (.t 4) (.t 32)),Fs 7 34 (Ld 33),Fm 8 6 30,Fm 9 7 34]
def r116_7:List RI:=[om 35 6,oo 36 (Ca 142 [.t 35,ci (-7)]) [35],om 37 6,oo 38 (Ca 142 [.t 37,ci (-18)]) [37],oo 39 (Bb .xor 36 38) [36,38],omk 40 6,oo 41 (.bin .shr (.t 40) (.c (.int .u64 3))) [40],oo 42 (Bb .xor 39 41) [39,41],omk 8 42]
def r116_8:List RI:=[om 43 7,oo 44 (Ca 142 [.t 43,ci (-17)]) [43],om 45 7,oo 46 (Ca 142 [.t 45,ci (-19)]) [45],oo 47 (Bb .xor 44 46) [44,46],omk 48 7,oo 49 (.bin .shr (.t 48) (.c (.int .u64 10))) [48],oo 50 (Bb .xor 47 49) [47,49],omk 9 50]
def r116_9:List FI:=[Fm 0 51 5,Fm 1 52 9,Fm 2 53 5,Fs 3 54 (Bc .sub 53 7),Fs 4 55 (.iaddrA 64 1 (.t 4) (.t 54)),Fs 5 56 (Ld 55),Fs 6 57 (Bb .add 52 56),Fm 7 58 8,Fs 8 59 (Bb .add 57 58),Fm 9 60 5,Fs 10 61 (Bc .sub 60 16),Fs 11 62 (.iaddrA 64 1 (.t 4) (.t 61)),Fs 12 63 (Ld 62),Fs 13 64 (Bb .add 59 63),Fs 14 65 (.iaddrA 64 1 (.t 4) (.t 51)),⟨15,false,⟨none,none,.store 1 (.t 65) (.t 64)⟩⟩]
def r116_10:List RI:=[oo 66 (Bc .add 17 1) [17],omk 17 66]
def b116_11:RC:=(So r116_2 (.seq (Kc 18 (Kk [18] .skip) (Kk [1,17,18] (.exit 0))) (.seq (.block 1 (So r116_3 (.seq (So r116_4 (Kc 21 (Kk [21] (So r116_5 (.exit 1))) (Kk [21] .skip))) (.seq (.flt [0,1,3,7,0,16,48,112,15,511] [] r116_6 [27,28,29,30,31,32,33,34]) (So r116_7 (So r116_8 (.flt [0,0,0,4,12,28,62,0,254,0,512,1536,3584,8190,16383,32767] [] r116_9 [5,8,9,51,52,53,54,55,56,57,58,59,60,61,62,63,64,65]))))))) (.ops r116_10))))
def r116_11:RC:=b116_11
def r116_12:List RI:=[om 67 0,oo 68 (.nchk (.t 67)) [67],oo 69 (.load 8 true (.t 68)) [68],on 10 (.new (.arr 1 (List.replicate 8 [.int .u32 0]))),.op ⟨none,none,.store 8 (.t 10) (.t 69)⟩ [69]]
def r116_13:List RI:=[on 70 (.mov (ci 0))]
def r116_14:List RI:=[on 71 (Bc .lss 70 64)]
def r116_15:List RI:=[om 72 70,omk 11 72]
def r116_16:List FI:=[Fs 0 73 (.iaddrA 8 1 (.t 10) (ci 0)),Fs 1 74 (Ld 73),Fs 2 75 (.iaddrA 8 1 (.t 10) (ci 4)),Fs 3 76 (Ld 75),Fm 4 12 74,Fm 5 13 76]
def r116_17:List FI:=[Fs 0 77 (.iaddrA 8 1 (.t 10) (ci 7)),Fs 1 78 (Ld 77),Fm 2 79 13,Fm 4 81 13,Fm 7 84 13,Fm 11 88 13,Fs 12 89 (.iaddrA 8 1 (.t 10) (ci 5)),Fs 13 90 (Ld 89),Fs 14 91 (Bb .and 88 90),Fm 15 92 13,Fs 16 93 (.un .xor (.t 92)),Fs 17 94 (.iaddrA 8 1 (.t 10) (ci 6)),Fs 18 95 (Ld 94),Fs 19 96 (Bb .and 93 95),Fs 20 97 (Bb .xor 91 96),Fm 22 99 11,Fs 23 100 (.iaddrA 64 1 (.c (.pp gtab2)) (.t 99)),Fs 24 101 (Ld 100),Fm 26 103 11,Fs 27 104 (.iaddrA 64 1 (.t 4) (.t 103)),Fs 28 105 (Ld 104),Fz 3 80 (Ca 142 [.t 79,ci (-6)]),Fz 5 82 (Ca 142 [.t 81,ci (-11)]),Fs 6 83 (Bb .xor 80 82),Fz 8 85 (Ca 142 [.t 84,ci (-25)]),Fs 9 86 (Bb .xor 83 85),Fs 10 87 (Bb .add 78 86),Fs 21 98 (Bb .add 87 97),Fs 25 102 (Bb .add 98 101),Fs 29 106 (Bb .add 102 105),Fm 30 14 106]
def r116_18:List FI:=[Fm 0 107 12,Fm 2 109 12,Fm 5 112 12,Fm 8 115 12,Fs 9 116 (.iaddrA 8 1 (.t 10) (ci 1)),Fs 10 117 (Ld 116),Fs 11 118 (Bb .and 115 117),Fm 12 119 12,Fs 13 120 (.iaddrA 8 1 (.t 10) (ci 2)),Fs 14 121 (Ld 120),Fs 15 122 (Bb .and 119 121),Fs 16 123 (Bb .xor 118 122),Fs 17 124 (.iaddrA 8 1 (.t 10) (ci 1)),Fs 18 125 (Ld 124),Fs 19 126 (.iaddrA 8 1 (.t 10) (ci 2)),Fs 20 127 (Ld 126),Fs 21 128 (Bb .and 125 127),Fs 22 129 (Bb .xor 123 128),Fz 1 108 (Ca 142 [.t 107,ci (-2)]),Fz 3 110 (Ca 142 [.t 109,ci (-13)]),Fs 4 111 (Bb .xor 108 110),Fz 6 113 (Ca 142 [.t 112,ci (-22)]),Fs 7 114 (Bb .xor 111 113),Fs 23 130 (Bb .add 114 129),Fm 24 15 130]
def r116_19:List RI:=[om 131 14,omk 132 15,oo 133 (Bb .add 131 132) [131,132],on 134 (.iaddrA 8 1 (.t 10) (ci 0)),oo 135 (Ld 134) [134],on 136 (.iaddrA 8 1 (.t 10) (ci 1)),oo 137 (Ld 136) [136],on 138 (.iaddrA 8 1 (.t 10) (ci 2)),oo 139 (Ld 138) [138],on 140 (.iaddrA 8 1 (.t 10) (ci 3)),oo 141 (Ld 140) [140],omk 142 14,oo 143 (Bb .add 141 142) [141,142],on 144 (.iaddrA 8 1 (.t 10) (ci 4)),oo 145 (Ld 144) [144],on 146 (.iaddrA 8 1 (.t 10) (ci 5)),oo 147 (Ld 146) [146],on 148 (.iaddrA 8 1 (.t 10) (ci 6)),oo 149 (Ld 148) [148],oo 150 (.build [.int .u32 0,.int .u32 0,.int .u32 0,.int .u32 0,.int .u32 0,.int .u32 0,.int .u32 0,.int .u32 0] [(0,1,(.t 133)),(1,1,(.t 135)),(2,1,(.t 137)),(3,1,(.t 139)),(4,1,(.t 143)),(5,1,(.t 145)),(6,1,(.t 147)),(7,1,(.t 149))]) [133,135,137,139,143,145,147,149],.op ⟨none,none,.store 8 (.t 10) (.t 150)⟩ [150]]
def r116_20:List RI:=[oo 151 (Bc .add 70 1) [70],omk 70 151]
def b116_21:RC:=(So r116_14 (.seq (Kc 71 (Kk [71] .skip) (Kk [4,70,71] (.exit 2))) (.seq (.block 3 (So r116_15 (.seq (.flt [0,1,0,4,3,31] [] r116_16 [73,74,75,76]) (.seq (.flt [0,1,0,4,0,28,60,0,188,508,1023,0,0,4096,14336,0,32768,0,131072,491520,1046528,2097151,0,4194304,12582912,33554431,0,67108864,201326592,536870911,1073741823] [] r116_17 [11,13,77,78,79,80,81,82,83,84,85,86,87,88,89,90,91,92,93,94,95,96,97,98,99,100,101,102,103,104,105,106]) (.seq (.flt [0,1,0,7,15,0,47,127,0,0,512,1792,0,0,8192,28672,65280,0,131072,0,524288,1966080,4194048,8388607,16777215] [] r116_18 [12,107,108,109,110,111,112,113,114,115,116,117,118,119,120,121,122,123,124,125,126,127,128,129,130]) (.ops r116_19)))))) (.ops r116_20))))
def r116_21:RC:=b116_21
def r116_22:List RI:=[on 152 (.mov (ci 0))]
def r116_23:List RI:=[on 153 (Bc .lss 152 8)]
def r116_24:List RI:=[om 154 152,omk 16 154]
def r116_25:List FI:=[Fm 0 155 0,Fm 1 156 16,Fs 2 157 (.nchk (.t 155)),Fs 3 158 (.iaddrA 8 1 (.t 157) (.t 156)),Fs 4 159 (Ld 158),Fm 5 160 16,Fs 6 161 (.iaddrA 8 1 (.t 10) (.t 160)),Fs 7 162 (Ld 161),Fs 8 163 (Bb .add 159 162),Fs 9 164 (.nchk (.t 155)),Fs 10 165 (.iaddrA 8 1 (.t 164) (.t 156)),⟨11,false,⟨none,none,.store 1 (.t 165) (.t 163)⟩⟩]
def r116_26:List RI:=[oo 166 (Bc .add 152 1) [152],omk 152 166]
def b116_27:RC:=(So r116_23 (.seq (Kc 153 (Kk [153] .skip) (Kk [0,10,152,153] (.exit 4))) (.seq (.block 5 (So r116_24 (.flt [0,0,1,7,15,0,32,96,255,1,1023,2047] [] r116_25 [16,155,156,157,158,159,160,161,162,163,164,165]))) (.ops r116_26))))
def r116_27:RC:=b116_27
def r116:RC:=(So r116_0 (.seq (So r116_1 (.block 0 (.loop r116_11))) (So r116_12 (.seq (So r116_13 (.block 2 (.loop r116_21))) (So r116_22 (.block 4 (.loop r116_27)))))))
def F116:FnC:=⟨r116,167,[],[],[]⟩
def r117_0:List RI:=[oo 6 (.mov (.c (.byt [] .clip))) [6]]
def r117_1:List RI:=[omk 9 0,oo 10 (.app [.u8 0] 1 (.c (.byt [] .clip)) (.t 9)) [9],omk 7 10]
def r117_2:List RI:=[om 11 1,oo 12 (Bc .lss 11 1) [11],omk 13 12,.grp 13 false [(xi 14 13 false (Mv 1)),(xi 15 13 false (Bc .gtr 14 8))] [14],oo 16 (Pt 13 15) [13,15]]
def r117_3:List RI:=[omk 17 7,omk 6 17]
def r117_4:List RI:=[omk 18 1,oo 19 (Bc .sub 18 1) [18],omk 8 19]
def r117_5:List RI:=[om 20 8,oo 21 (Bc .geq 20 0) [20]]
def r117_6:List RI:=[omk 24 7,om 25 2,oo 26 (.toInt .u64 (.t 25)) [25],om 27 8,oo 28 (.bin .mul (ci 8) (.t 27)) [27],oo 29 (.toInt .u64 (.t 28)) [28],oo 30 (Bb .shr 26 29) [26,29],oo 31 (.toInt .u8 (.t 30)) [30],oo 32 (.litB [.t 31]) [31],oo 33 (.app [.u8 0] 1 (.t 24) (.t 32)) [24,32],omk 7 33]
def r117_7:List RI:=[omk 22 8,oo 23 (Bc .sub 22 1) [22],omk 8 23]
def b117_8:RC:=(.post (.seq (So r117_5 (Kc 21 (Kk [21] .skip) (Kk [2,8,21] (.exit 0)))) (.seq (.block 1 (.ops r117_6)) (.ops r117_7))) [.tok 7 107])
def r117_8:RC:=b117_8
def r117_9:List RI:=[omk 34 7,omk 6 34]
def r117:RC:=(So r117_0 (So r117_1 (.seq (So r117_2 (Kc 16 (Kk [1,2,16] (So r117_3 .ret)) (Kk [16] .skip))) (.seq (So r117_4 (.block 0 (.pre [.tok 7 107] (.loop r117_8)))) (So r117_9 .ret)))))
def F117:FnC:=⟨r117,35,[.tmp 6],[0],[]⟩
def r118_0:List RI:=[oo 4 (.mov (.c (.byt [] .clip))) [4]]
def r118_1:List RI:=[om 5 1,omk 6 1,oo 7 (Ln 6) [6],oo 8 (.mini (.t 7) (ci 65535)) [7],oo 9 (.slcL 1 (.t 5) none (some (.t 8)) none) [5,8],omk 1 9]
def r118_2:List RI:=[omk 10 0,om 11 1,oo 12 (Ln 11) [11],oo 13 (Ca 117 [.t 10,ci 2,.t 12]) [10,12],omk 14 1,oo 15 (.app [.u8 0] 1 (.t 13) (.t 14)) [13,14],omk 4 15]
def r118:RC:=(So r118_0 (So r118_1 (So r118_2 .ret)))
def F118:FnC:=⟨r118,16,[.tmp 4],[0],[]⟩
def r121_0:List RI:=[oo 2 (.mov (ci 0)) [2]]
def r121_1:List RI:=[on 3 (.mov (ci 0))]
def r121_2:List RI:=[omk 6 0,on 7 (Ln 6),on 8 (.mov (ci 0))]
def r121_3:List RI:=[on 9 (Bb .lss 8 7)]
def r121_4:List RI:=[on 10 (Ia 1 6 8),oo 11 (Ld 10) [10],omk 5 11]
def r121_5:List RI:=[om 12 5,om 13 3,oo 14 (Bb .neq 12 13) [12,13]]
def r121_6:List RI:=[omk 15 5,omk 2 15]
def r121_7:List RI:=[oo 16 (Bc .add 8 1) [8],omk 8 16]
def b121_8:RC:=(So r121_3 (.seq (Kc 9 (Kk [9] .skip) (Kk [6,7,8,9] (.exit 0))) (.seq (.block 1 (So r121_4 (So r121_5 (Kc 14 (Kk [3,6,7,8,14] (So r121_6 .ret)) (Kk [5,14] .skip))))) (.ops r121_7))))
def r121_8:RC:=b121_8
def r121_9:List RI:=[omk 17 3,omk 2 17]
def r121:RC:=(So r121_0 (So r121_1 (.seq (So r121_2 (.block 0 (.loop r121_8))) (So r121_9 .ret))))
def F121:FnC:=⟨r121,18,[.tmp 2],[],[]⟩
def r122_0:List RI:=[oo 4 (.mov (ci 0)) [4]]
def r122_1:List RI:=[om 7 0,oo 8 (Ca 153 [.t 7]) [7],omk 5 8]
def r122_2:List RI:=[om 9 1,oo 10 (Ca 153 [.t 9]) [9],omk 6 10]
def r122_3:List RI:=[omk 11 5]
def r122_4:List RI:=[omk 12 6]
def r122_5:List RI:=[on 4 (.mov (ci 0))]
def r122_6:List RI:=[on 4 (.mov (ci (-1)))]
def r122_7:List RI:=[omk 13 6]
def r122_8:List RI:=[on 4 (.mov (ci 1))]
def r122_9:List RI:=[om 14 0,om 15 1,oo 16 (Bb .lss 14 15) [14,15]]
def r122_10:List RI:=[on 4 (.mov (ci (-1)))]
def r122_11:List RI:=[omk 17 0,omk 18 1,oo 19 (Bb .gtr 17 18) [17,18]]
def r122_12:List RI:=[on 4 (.mov (ci 1))]
def r122_13:List RI:=[on 4 (.mov (ci 0))]
def r122:RC:=(So r122_0 (So r122_1 (So r122_2 (.seq (So r122_3 (Kc 11 (Kk [0,1,11] (.seq (So r122_4 (Kc 12 (Kk [12] (So r122_5 .ret)) (Kk [12] .skip))) (So r122_6 .ret))) (Kk [11] .skip))) (.seq (So r122_7 (Kc 13 (Kk [0,1,13] (So r122_8 .ret)) (Kk [13] .skip))) (.seq (So r122_9 (Kc 16 (Kk [0,1,16] (So r122_10 .ret)) (Kk [16] .skip))) (.seq (So r122_11 (Kc 19 (Kk [19] (So r122_12 .ret)) (Kk [19] .skip))) (So r122_13 .ret))))))))
def F122:FnC:=⟨r122,20,[.tmp 4],[],[]⟩
def r123_0:List RI:=[oo 4 (.mov (ci 0)) [4]]
def r123_1:List RI:=[omk 5 0,omk 6 1,oo 7 (Ca 154 [.t 5,.t 6]) [5,6],omk 4 7]
def r123:RC:=(So r123_0 (So r123_1 .ret))
def F123:FnC:=⟨r123,8,[.tmp 4],[],[]⟩
def r124_0:List RI:=[oo 4 (.mov (.c (.bool false))) [4]]
def r124_1:List RI:=[omk 5 0,omk 6 1,oo 7 (.toInt .u64 (.t 6)) [6],oo 8 (Bb .shr 5 7) [5,7],oo 9 (Bc .and 8 1) [8],oo 10 (Bc .eql 9 1) [9],omk 4 10]
def r124:RC:=(So r124_0 (So r124_1 .ret))
def F124:FnC:=⟨r124,11,[.tmp 4],[],[]⟩
def r125_0:List RI:=[oo 2 (.box (.t 0)) [0],oo 4 (.mov (.c (.lst 1 [] .clip))) [4]]
def r125_1:List RI:=[on 8 (.mk [(.byt [] .no)] 24 (ci 2) (ci 2)),omk 5 8]
def r125_2:List RI:=[oo 9 (.load 4 true (.t 2)) [2],oo 10 (Ca 33 [.t 9]) [9],omk 6 10]
def r125_3:List RI:=[on 7 (.mov (ci 0))]
def r125_4:List RI:=[om 11 7,oo 12 (Bc .lss 11 2) [11]]
def r125_5:List RI:=[om 15 6,oo 16 (Ln 15) [15],oo 17 (Bc .gtr 16 0) [16],omk 18 17,.grp 18 true [(xi 19 18 true (Mv 1)),(xi 20 18 true (Mv 7)),(xi 21 18 true (Ca 124 [.t 19,.t 20]))] [19,20],oo 22 (Pf 18 21) [18,21]]
def r125_6:List RI:=[om 23 5,om 24 7,om 25 7,om 26 6,oo 27 (Ca 99 [.t 25,.t 26]) [25,26],oo 28 (Ia 1 23 24) [23,24],.op ⟨none,none,.store 1 (.t 28) (.t 27)⟩ [27,28]]
def r125_7:List RI:=[omk 13 7,oo 14 (Bc .add 13 1) [13],omk 7 14]
def b125_8:RC:=(.seq (So r125_4 (Kc 12 (Kk [12] .skip) (Kk [1,6,7,12] (.exit 0)))) (.seq (.block 1 (So r125_5 (Kc 22 (Kk [22] (.ops r125_6)) (Kk [22] .skip)))) (.ops r125_7)))
def r125_8:RC:=b125_8
def r125_9:List RI:=[omk 29 5,omk 4 29]
def r125:RC:=(So r125_0 (So r125_1 (So r125_2 (.seq (So r125_3 (.block 0 (.loop r125_8))) (So r125_9 .ret)))))
def F125:FnC:=⟨r125,30,[.tmp 4],[],[]⟩
def r126_0:List RI:=[on 0 (.new (.arr 1 (List.replicate 64 [.int .u32 0])))]
def r126_1:List RI:=[on 1 (.build [.int .u32 0,.int .u32 0,.int .u32 0,.int .u32 0,.int .u32 0,.int .u32 0,.int .u32 0,.int .u32 0,.int .u32 0,.int .u32 0,.int .u32 0,.int .u32 0,.int .u32 0,.int .u32 0,.int .u32 0,.int .u32 0,.int .u32 0,.int .u32 0,.int .u32 0,.int .u32 0,.int .u32 0,.int .u32 0,.int .u32 0,.int .u32 0,.int .u32 0,.int .u32 0,.int .u32 0,.int .u32 0,.int .u32 0,.int .u32 0,.int .u32 0,.int .u32 0,.int .u32 0,.int .u32 0,.int .u32 0,.int .u32 0,.int .u32 0,.int .u32 0,.int .u32 0,.int .u32 0,.int .u32 0,.int .u32 0,.int .u32 0,.int .u32 0,.int .u32 0,.int .u32 0,.int .u32 0,.int .u32 0,.int .u32 0,.int .u32 0,.int .u32 0,.int .u32 0,.int .u32 0,.int .u32 0,.int .u32 0,.int .u32 0,.int .u32 0,.int .u32 0,.int .u32 0,.int .u32 0,.int .u32 0,.int .u32 0,.int .u32 0,.int .u32 0] [(0,1,(.c (.int .u32 1116352408))),(1,1,(.c (.int .u32 1899447441))),(2,1,(.c (.int .u32 3049323471))),(3,1,(.c (.int .u32 3921009573))),(4,1,(.c (.int .u32 961987163))),(5,1,(.c (.int .u32 1508970993))),(6,1,(.c (.int .u32 2453635748))),(7,1,(.c (.int .u32 2870763221))),(8,1,(.c (.int .u32 3624381080))),(9,1,(.c (.int .u32 310598401))),(10,1,(.c (.int .u32 607225278))),(11,1,(.c (.int .u32 1426881987))),(12,1,(.c (.int .u32 1925078388))),(13,1,(.c (.int .u32 2162078206))),(14,1,(.c (.int .u32 2614888103))),(15,1,(.c (.int .u32 3248222580))),(16,1,(.c (.int .u32 3835390401))),(17,1,(.c (.int .u32 4022224774))),(18,1,(.c (.int .u32 264347078))),(19,1,(.c (.int .u32 604807628))),(20,1,(.c (.int .u32 770255983))),(21,1,(.c (.int .u32 1249150122))),(22,1,(.c (.int .u32 1555081692))),(23,1,(.c (.int .u32 1996064986))),(24,1,(.c (.int .u32 2554220882))),(25,1,(.c (.int .u32 2821834349))),(26,1,(.c (.int .u32 2952996808))),(27,1,(.c (.int .u32 3210313671))),(28,1,(.c (.int .u32 3336571891))),(29,1,(.c (.int .u32 3584528711))),(30,1,(.c (.int .u32 113926993))),(31,1,(.c (.int .u32 338241895))),(32,1,(.c (.int .u32 666307205))),(33,1,(.c (.int .u32 773529912))),(34,1,(.c (.int .u32 1294757372))),(35,1,(.c (.int .u32 1396182291))),(36,1,(.c (.int .u32 1695183700))),(37,1,(.c (.int .u32 1986661051))),(38,1,(.c (.int .u32 2177026350))),(39,1,(.c (.int .u32 2456956037))),(40,1,(.c (.int .u32 2730485921))),(41,1,(.c (.int .u32 2820302411))),(42,1,(.c (.int .u32 3259730800))),(43,1,(.c (.int .u32 3345764771))),(44,1,(.c (.int .u32 3516065817))),(45,1,(.c (.int .u32 3600352804))),(46,1,(.c (.int .u32 4094571909))),(47,1,(.c (.int .u32 275423344))),(48,1,(.c (.int .u32 430227734))),(49,1,(.c (.int .u32 506948616))),(50,1,(.c (.int .u32 659060556))),(51,1,(.c (.int .u32 883997877))),(52,1,(.c (.int .u32 958139571))),(53,1,(.c (.int .u32 1322822218))),(54,1,(.c (.int .u32 1537002063))),(55,1,(.c (.int .u32 1747873779))),(56,1,(.c (.int .u32 1955562222))),(57,1,(.c (.int .u32 2024104815))),(58,1,(.c (.int .u32 2227730452))),(59,1,(.c (.int .u32 2361852424))),(60,1,(.c (.int .u32 2428436474))),(61,1,(.c (.int .u32 2756734187))),(62,1,(.c (.int .u32 3204031479))),(63,1,(.c (.int .u32 3329325298)))]),.op ⟨none,none,.store 64 (.t 0) (.t 1)⟩ [1]]
def r126:RC:=(So r126_0 (So r126_1 .ret))
def F126:FnC:=⟨r126,2,[.cell 0 64 true],[],[]⟩
def r127_0:List RI:=[oo 2 (.mov (.c (.byt [] .clip))) [2]]
def r127_1:List RI:=[on 6 (.litB []),om 7 0,oo 8 (.app [.u8 0] 1 (.t 6) (.t 7)) [6,7],on 9 (.litB [(.c (.u8 128))]),oo 10 (.app [.u8 0] 1 (.t 8) (.t 9)) [8,9],omk 3 10]
def r127_2:List RI:=[om 11 3,oo 12 (Ln 11) [11],oo 13 (Bc .rem 12 64) [12],oo 14 (Bc .neq 13 56) [13]]
def r127_3:List RI:=[omk 15 3,on 16 (.litB [(.c (.u8 0))]),oo 17 (.app [.u8 0] 1 (.t 15) (.t 16)) [15,16],omk 3 17]
def b127_4:RC:=(.post (.seq (So r127_2 (Kc 14 (Kk [14] .skip) (Kk [14] (.exit 0)))) (.block 1 (.ops r127_3))) [.tok 3 103])
def r127_4:RC:=b127_4
def r127_5:List RI:=[omk 18 0,oo 19 (Ln 18) [18],oo 20 (.toInt .u64 (.t 19)) [19],oo 21 (.bin .mul (.t 20) (.c (.int .u64 8))) [20],omk 4 21]
def r127_6:List RI:=[on 5 (.mov (ci 7))]
def r127_7:List RI:=[om 22 5,oo 23 (Bc .geq 22 0) [22]]
def r127_8:List RI:=[omk 26 3,om 27 4,om 28 5,oo 29 (.toInt .u64 (.t 28)) [28],oo 30 (.bin .mul (.c (.int .u64 8)) (.t 29)) [29],oo 31 (Bb .shr 27 30) [27,30],oo 32 (.toInt .u8 (.t 31)) [31],oo 33 (.litB [.t 32]) [32],oo 34 (.app [.u8 0] 1 (.t 26) (.t 33)) [26,33],omk 3 34]
def r127_9:List RI:=[omk 24 5,oo 25 (Bc .sub 24 1) [24],omk 5 25]
def b127_10:RC:=(.post (.seq (So r127_7 (Kc 23 (Kk [23] .skip) (Kk [4,5,23] (.exit 2)))) (.seq (.block 3 (.ops r127_8)) (.ops r127_9))) [.tok 3 103])
def r127_10:RC:=b127_10
def r127_11:List RI:=[omk 35 3,omk 2 35]
def r127:RC:=(So r127_0 (So r127_1 (.seq (.block 0 (.pre [.tok 3 103] (.loop r127_4))) (So r127_5 (.seq (So r127_6 (.block 2 (.pre [.tok 3 103] (.loop r127_10)))) (So r127_11 .ret))))))
def F127:FnC:=⟨r127,36,[.tmp 2],[],[]⟩
def r128_0:List RI:=[oo 4 (.mov (.c (.int .u32 0))) [4]]
def r128_1:List FI:=[Fm 0 5 0,Fm 1 6 1,Fs 2 7 (.bin .mul (ci 4) (.t 6)),Fs 3 8 (Ia 1 5 7),Fs 4 9 (Ld 8),Fs 5 10 (.toInt .u32 (.t 9)),Fs 6 11 (.bin .shl (.t 10) (.c (.int .u64 24))),Fm 7 12 0,Fm 8 13 1,Fs 9 14 (.bin .mul (ci 4) (.t 13)),Fs 10 15 (Bc .add 14 1),Fs 11 16 (Ia 1 12 15),Fs 12 17 (Ld 16),Fs 13 18 (.toInt .u32 (.t 17)),Fs 14 19 (.bin .shl (.t 18) (.c (.int .u64 16))),Fs 15 20 (Bb .or 11 19),Fm 16 21 0,Fm 17 22 1,Fs 18 23 (.bin .mul (ci 4) (.t 22)),Fs 19 24 (Bc .add 23 2),Fs 20 25 (Ia 1 21 24),Fs 21 26 (Ld 25),Fs 22 27 (.toInt .u32 (.t 26)),Fs 23 28 (.bin .shl (.t 27) (.c (.int .u64 8))),Fs 24 29 (Bb .or 20 28),Fm 25 30 0,Fm 26 31 1,Fs 27 32 (.bin .mul (ci 4) (.t 31)),Fs 28 33 (Bc .add 32 3),Fs 29 34 (Ia 1 30 33),Fs 30 35 (Ld 34),Fs 31 36 (.toInt .u32 (.t 35)),Fs 32 37 (Bb .or 29 36),Fm 33 4 37]
def r128:RC:=(So r128_0 (.seq (.flt [0,0,2,7,15,31,63,0,0,256,768,1920,3968,8064,16256,32767,0,0,131072,393216,983040,2031616,4128768,8323072,16777215,0,0,67108864,201326592,503316480,1040187392,2113929216,4294967295,8589934591] [] r128_1 [0,1,5,6,7,8,9,10,11,12,13,14,15,16,17,18,19,20,21,22,23,24,25,26,27,28,29,30,31,32,33,34,35,36,37]) .ret))
def F128:FnC:=⟨r128,38,[.tmp 4],[],[]⟩
def r129_0:List RI:=[oo 4 (.mov (.c (.int .u32 0))) [4]]
def r129_1:List RI:=[om 5 0,om 6 1,oo 7 (Bb .shr 5 6) [5,6],omk 8 0,omk 9 1,oo 10 (.bin .sub (.c (.int .u64 32)) (.t 9)) [9],oo 11 (Bb .shl 8 10) [8,10],oo 12 (Bb .or 7 11) [7,11],omk 4 12]
def r129:RC:=(So r129_0 (So r129_1 .ret))
def F129:FnC:=⟨r129,13,[.tmp 4],[],[]⟩
def r130_0:List RI:=[oo 2 (.mov (.c (.byt [] .clip))) [2]]
def r130_1:List RI:=[on 3 (.mov (.c (.byt [] .clip)))]
def r130_2:List RI:=[on 4 (.mov (ci 0))]
def r130_3:List RI:=[om 5 4,om 6 0,oo 7 (Ln 6) [6],oo 8 (Bb .lss 5 7) [5,7]]
def r130_4:List FI:=[Fm 0 11 3,Fm 1 12 0,Fm 2 13 4,Fs 3 14 (Ia 1 12 13),Fs 4 15 (Ld 14),Fs 5 16 (.bin .shr (.t 15) (.c (.int .u64 24))),Fs 6 17 (.toInt .u8 (.t 16)),Fm 7 18 0,Fm 8 19 4,Fs 9 20 (Ia 1 18 19),Fs 10 21 (Ld 20),Fs 11 22 (.bin .shr (.t 21) (.c (.int .u64 16))),Fs 12 23 (.toInt .u8 (.t 22)),Fm 13 24 0,Fm 14 25 4,Fs 15 26 (Ia 1 24 25),Fs 16 27 (Ld 26),Fs 17 28 (.bin .shr (.t 27) (.c (.int .u64 8))),Fs 18 29 (.toInt .u8 (.t 28)),Fm 19 30 0,Fm 20 31 4,Fs 21 32 (Ia 1 30 31),Fs 22 33 (Ld 32),Fs 23 34 (.toInt .u8 (.t 33)),Fs 24 35 (.litB [.t 17,.t 23,.t 29,.t 34]),Fz 25 36 (.app [.u8 0] 1 (.t 11) (.t 35)),⟨26,false,(xm 3 36)⟩]
def r130_5:List RI:=[omk 9 4,oo 10 (Bc .add 9 1) [9],omk 4 10]
def b130_6:RC:=(.post (.seq (So r130_3 (Kc 8 (Kk [8] .skip) (Kk [0,4,8] (.exit 0)))) (.seq (.block 1 (.flt [0,0,0,6,14,30,62,0,0,384,896,1920,3968,0,0,24576,57344,122880,253952,0,0,1572864,3670016,7864320,16777214,33554431,67108863] [136] r130_4 [11,12,13,14,15,16,17,18,19,20,21,22,23,24,25,26,27,28,29,30,31,32,33,34,35,36])) (.ops r130_5))) [.tok 3 103])
def r130_6:RC:=b130_6
def r130_7:List RI:=[omk 37 3,omk 2 37]
def r130:RC:=(So r130_0 (So r130_1 (.seq (So r130_2 (.block 0 (.pre [.tok 3 103] (.loop r130_6)))) (So r130_7 .ret))))
def F130:FnC:=⟨r130,38,[.tmp 2],[],[]⟩
def r131_0:List RI:=[oo 2 (.mov (.c (.bool false))) [2]]
def r131_1:List FI:=[Fm 0 3 0,Fs 1 4 (.nchk (.t 3)),Fs 2 5 (Fa 1 4),Fs 3 6 (Ld 5),Fm 4 7 0,Fs 5 8 (.nchk (.t 7)),Fs 6 9 (Fa 0 8),Fs 7 10 (Ld 9),Fs 8 11 (Ln 10),Fs 9 12 (Bb .lss 6 11),Fm 10 2 12]
def r131:RC:=(So r131_0 (.seq (.flt [0,1,3,7,0,16,48,112,240,511,1023] [] r131_1 [0,3,4,5,6,7,8,9,10,11,12]) .ret))
def F131:FnC:=⟨r131,13,[.tmp 2],[],[]⟩
def r132_0:List RI:=[oo 4 (.mov (.c (.str []))) [4]]
def r132_1:List RI:=[om 10 1,oo 11 (Bc .eql 10 10) [10]]
def r132_2:List RI:=[om 12 0,oo 13 (.bin .leq (ci 0) (.t 12)) [12],omk 14 13,.grp 14 true [(xi 15 14 true (Mv 0)),(xi 16 14 true (Bc .lss 15 100))] [15],oo 17 (Pf 14 16) [14,16]]
def r132_3:List RI:=[omk 18 0,oo 19 (Ca 155 [.t 18]) [18],omk 4 19]
def r132_4:List RI:=[on 5 (.new (.bar (List.replicate 24 0)))]
def r132_5:List RI:=[om 20 0,oo 21 (.toInt .u64 (.t 20)) [20],omk 6 21]
def r132_6:List RI:=[om 22 0,oo 23 (Bc .lss 22 0) [22]]
def r132_7:List RI:=[omk 24 6,oo 25 (.un .neg (.t 24)) [24],omk 6 25]
def r132_8:List RI:=[om 26 6,oo 27 (Ca 156 [.t 26]) [26],omk 7 27]
def r132_9:List RI:=[om 28 7,oo 29 (.bin .add (ci 1) (.t 28)) [28],oo 30 (.slcA 24 1 (.t 5) (some (ci 1)) (some (.t 29)) none) [29],omk 31 6,oo 32 (Ca 157 [.t 30,.t 31]) [30,31,32]]
def r132_10:List RI:=[omk 33 0,oo 34 (Bc .lss 33 0) [33]]
def r132_11:List RI:=[on 35 (.iaddrA 24 1 (.t 5) (ci 0)),.op ⟨none,none,.store 1 (.t 35) (.c (.u8 45))⟩ [35]]
def r132_12:List RI:=[omk 36 7,oo 37 (.bin .add (ci 1) (.t 36)) [36],oo 38 (.slcA 24 1 (.t 5) none (some (.t 37)) none) [5,37],oo 39 (.b2s (.t 38)) [38],omk 4 39]
def r132_13:List RI:=[omk 40 7,oo 41 (.bin .add (ci 1) (.t 40)) [40],oo 42 (.slcA 24 1 (.t 5) (some (ci 1)) (some (.t 41)) none) [5,41],oo 43 (.b2s (.t 42)) [42],omk 4 43]
def r132_14:List RI:=[om 45 0,oo 46 (.toInt .u64 (.t 45)) [45],omk 47 1,omk 48 0,oo 49 (Bc .lss 48 0) [48],oo 50 (Ca 158 [(.c (.byt [] .clip)),.t 46,.t 47,.t 49,(.c (.bool false))]) [46,47,49],omk 44 50,on 51 (.ext (.t 44) 0),oo 52 (.ext (.t 44) 1) [44],.op (xm 8 51) [8,51],omk 9 52]
def r132_15:List RI:=[omk 53 9,omk 4 53]
def r132:RC:=(So r132_0 (.seq (So r132_1 (Kc 11 (Kk [1,11] (.seq (So r132_2 (Kc 17 (Kk [17] (So r132_3 .ret)) (Kk [17] .skip))) (So r132_4 (So r132_5 (.seq (So r132_6 (Kc 23 (Kk [23] (.ops r132_7)) (Kk [23] .skip))) (So r132_8 (So r132_9 (.seq (So r132_10 (Kc 34 (Kk [34] (So r132_11 (So r132_12 .ret))) (Kk [34] .skip))) (So r132_13 .ret))))))))) (Kk [11] .skip))) (So r132_14 (So r132_15 .ret))))
def F132:FnC:=⟨r132,54,[.tmp 4],[],[]⟩
def r133_0:List RI:=[oo 4 (.mov (.c (.str []))) [4]]
def r133_1:List RI:=[om 7 0,oo 8 (.bin .eql (.t 7) (.c (.str []))) [7],omk 9 8,.grp 9 false [(xi 10 9 false (Mv 1)),(xi 11 9 false (.bin .eql (.t 10) (.c (.str []))))] [10],oo 12 (Pt 9 11) [9,11]]
def r133_2:List RI:=[omk 13 0,omk 4 13]
def r133_3:List RI:=[om 14 1,oo 15 (.len true (.t 14)) [14],oo 16 (Bc .eql 15 1) [15],omk 17 16,.grp 17 true [(xi 18 17 true (Mv 1)),(xi 19 17 true (.idxS (.t 18) (ci 0))),(xi 20 17 true (.bin .lss (.t 19) (.c (.u8 128))))] [18,19],oo 21 (Pf 17 20) [17,20]]
def r133_4:List FI:=[Fm 0 22 0,Fm 1 23 1,Fs 2 24 (.idxS (.t 23) (ci 0)),Fm 4 26 1,Fs 5 27 (.idxS (.t 26) (ci 0)),Fz 3 25 (Ca 160 [.t 22,.t 24]),Fz 6 28 (Ca 159 [.t 25,.t 27]),Fm 7 4 28]
def r133_5:List RI:=[om 30 1,oo 31 (Ca 161 [.t 30]) [30],omk 29 31,on 32 (.ext (.t 29) 0),oo 33 (.ext (.t 29) 1) [29],on 5 (.new (.arr 1 (List.replicate 256 [.bool false]))),.op ⟨none,none,.store 256 (.t 5) (.t 32)⟩ [32],omk 6 33]
def r133_6:List RI:=[omk 34 6]
def r133_7:List RI:=[omk 35 0,oo 36 (Ca 163 [.t 35,.t 5]) [35],oo 37 (Ca 162 [.t 36,.t 5]) [5,36],omk 4 37]
def r133_8:List RI:=[omk 38 0,om 39 1,oo 40 (Ca 165 [.t 38,.t 39]) [38,39],omk 41 1,oo 42 (Ca 164 [.t 40,.t 41]) [40,41],omk 4 42]
def r133:RC:=(So r133_0 (.seq (So r133_1 (Kc 12 (Kk [1,12] (So r133_2 .ret)) (Kk [12] .skip))) (.seq (So r133_3 (Kc 21 (Kk [21] (.seq (.flt [0,0,2,7,0,16,63,127] [] r133_4 [0,1,22,23,24,25,26,27,28]) .ret)) (Kk [21] .skip))) (.seq (So r133_5 (So r133_6 (Kc 34 (Kk [1,34] (So r133_7 .ret)) (Kk [5,34] .skip)))) (So r133_8 .ret)))))
def F133:FnC:=⟨r133,43,[.tmp 4],[],[]⟩
def r134_0:List RI:=[oo 4 (.mov (.c (.str []))) [4],oo 5 (.mov (.c (.bool false))) [5]]
def r134_1:List RI:=[om 6 0,om 7 1,oo 8 (Ca 166 [.t 6,.t 7]) [6,7],oo 9 (.un .not (.t 8)) [8]]
def r134_2:List RI:=[omk 10 0,omk 4 10,on 5 (.mov (.c (.bool false)))]
def r134_3:List RI:=[omk 11 0,omk 12 1,oo 13 (.len true (.t 12)) [12],oo 14 (.slcS (.t 11) (some (.t 13)) none) [11,13],omk 4 14,on 5 (.mov (.c (.bool true)))]
def r134:RC:=(So r134_0 (.seq (So r134_1 (Kc 9 (Kk [1,9] (So r134_2 .ret)) (Kk [9] .skip))) (So r134_3 .ret)))
def F134:FnC:=⟨r134,15,[.tmp 4,.tmp 5],[],[]⟩
def r135_0:List RI:=[oo 2 (.mov (ci 0)) [2],oo 3 (.mov (.c .nili)) [3]]
def r135_1:List RI:=[om 7 0,oo 8 (Ca 167 [.t 7]) [7],omk 6 8,on 9 (.ext (.t 6) 0),oo 10 (.ext (.t 6) 1) [6],omk 4 9,omk 5 10]
def r135_2:List RI:=[om 11 5,oo 12 (.isni true (.t 11)) [11]]
def r135_3:List RI:=[omk 13 4,omk 14 0,omk 15 5,oo 16 (Ca 168 [(.c (.str [65,116,111,105])),.t 14,ci 0,ci 0,.t 15]) [14,15],omk 2 13,omk 3 16]
def r135_4:List RI:=[omk 17 4,omk 2 17,on 3 (.mov (.c .nili))]
def r135:RC:=(So r135_0 (So r135_1 (.seq (So r135_2 (Kc 12 (Kk [12] (So r135_3 .ret)) (Kk [0,5,12] .skip))) (So r135_4 .ret))))
def F135:FnC:=⟨r135,18,[.tmp 2,.tmp 3],[],[]⟩
def r136_0:List RI:=[oo 2 (.mov (.c (.byt [] .clip))) [2]]
def r136_1:List RI:=[on 17 (.lit 1 [(.c (.int .u32 1732584193)),(.c (.int .u32 4023233417)),(.c (.int .u32 2562383102)),(.c (.int .u32 271733878)),(.c (.int .u32 3285377520))]),omk 3 17]
def r136_2:List RI:=[omk 18 0,oo 19 (Ca 127 [.t 18]) [18],omk 4 19]
def r136_3:List RI:=[on 5 (.mov (ci 0))]
def r136_4:List RI:=[om 20 5,om 21 4,oo 22 (Ln 21) [21],oo 23 (Bb .lss 20 22) [20,22]]
def r136_5:List RI:=[on 6 (.new (.arr 1 (List.replicate 80 [.int .u32 0])))]
def r136_6:List RI:=[on 7 (.mov (ci 0))]
def r136_7:List RI:=[om 26 7,oo 27 (Bc .lss 26 80) [26]]
def r136_8:List RI:=[om 30 7,oo 31 (Bc .lss 30 16) [30]]
def r136_9:List RI:=[om 32 7,om 33 4,om 34 5,om 35 5,oo 36 (Bc .add 35 64) [35],oo 37 (.slcL 1 (.t 33) (some (.t 34)) (some (.t 36)) none) [33,34,36],om 38 7,oo 39 (Ca 128 [.t 37,.t 38]) [37,38],oo 40 (.iaddrA 80 1 (.t 6) (.t 32)) [32],.op ⟨none,none,.store 1 (.t 40) (.t 39)⟩ [39,40]]
def r136_10:List FI:=[Fm 0 41 7,Fm 1 42 7,Fs 2 43 (Bc .sub 42 3),Fs 3 44 (.iaddrA 80 1 (.t 6) (.t 43)),Fs 4 45 (Ld 44),Fm 5 46 7,Fs 6 47 (Bc .sub 46 8),Fs 7 48 (.iaddrA 80 1 (.t 6) (.t 47)),Fs 8 49 (Ld 48),Fs 9 50 (Bb .xor 45 49),Fm 10 51 7,Fs 11 52 (Bc .sub 51 14),Fs 12 53 (.iaddrA 80 1 (.t 6) (.t 52)),Fs 13 54 (Ld 53),Fs 14 55 (Bb .xor 50 54),Fm 15 56 7,Fs 16 57 (Bc .sub 56 16),Fs 17 58 (.iaddrA 80 1 (.t 6) (.t 57)),Fs 18 59 (Ld 58),Fs 19 60 (Bb .xor 55 59),Fz 20 61 (Ca 169 [.t 60,(.c (.int .u64 1))]),Fs 21 62 (.iaddrA 80 1 (.t 6) (.t 41)),⟨22,false,⟨none,none,.store 1 (.t 62) (.t 61)⟩⟩]
def r136_11:List RI:=[omk 28 7,oo 29 (Bc .add 28 1) [28],omk 7 29]
def b136_12:RC:=(.seq (So r136_7 (Kc 27 (Kk [27] .skip) (Kk [7,27] (.exit 2)))) (.seq (.block 3 (.seq (So r136_8 (Kc 31 (Kk [31] (So r136_9 (.exit 3))) (Kk [31] .skip))) (.flt [0,0,2,6,14,0,32,96,224,510,0,1024,3072,7168,16382,0,32768,98304,229376,524286,1048574,2097151,4194303] [] r136_10 [41,42,43,44,45,46,47,48,49,50,51,52,53,54,55,56,57,58,59,60,61,62]))) (.ops r136_11)))
def r136_12:RC:=b136_12
def r136_13:List FI:=[Fm 0 63 3,Fs 1 64 (.iaddrL 1 (.t 63) (ci 0)),Fs 2 65 (Ld 64),Fm 3 66 3,Fs 4 67 (.iaddrL 1 (.t 66) (ci 1)),Fs 5 68 (Ld 67),Fm 6 69 3,Fs 7 70 (.iaddrL 1 (.t 69) (ci 2)),Fs 8 71 (Ld 70),Fm 9 72 3,Fs 10 73 (.iaddrL 1 (.t 72) (ci 3)),Fs 11 74 (Ld 73),Fm 12 75 3,Fs 13 76 (.iaddrL 1 (.t 75) (ci 4)),Fs 14 77 (Ld 76),Fm 15 8 65,Fm 16 9 68,Fm 17 10 71,Fm 18 11 74,Fm 19 12 77]
def r136_14:List RI:=[on 13 (.mov (ci 0))]
def r136_15:List RI:=[om 78 13,oo 79 (Bc .lss 78 80) [78]]
def r136_16:List RI:=[om 82 9,om 83 10,oo 84 (Bb .xor 82 83) [82,83],om 85 11,oo 86 (Bb .xor 84 85) [84,85],omk 14 86,on 15 (.mov (.c (.int .u32 3395469782)))]
def r136_17:List RI:=[om 88 13,oo 89 (Bc .lss 88 20) [88],omk 87 89]
def r136_18:List RI:=[om 90 9,om 91 10,oo 92 (Bb .and 90 91) [90,91],om 93 9,oo 94 (.un .xor (.t 93)) [93],om 95 11,oo 96 (Bb .and 94 95) [94,95],oo 97 (Bb .xor 92 96) [92,96],omk 14 97,on 15 (.mov (.c (.int .u32 1518500249)))]
def r136_19:List RI:=[om 99 13,oo 100 (Bc .lss 99 40) [99],omk 98 100]
def r136_20:List RI:=[on 15 (.mov (.c (.int .u32 1859775393)))]
def r136_21:List RI:=[om 102 13,oo 103 (Bc .lss 102 60) [102],omk 101 103]
def r136_22:List RI:=[om 104 9,om 105 10,oo 106 (Bb .and 104 105) [104,105],om 107 9,om 108 11,oo 109 (Bb .and 107 108) [107,108],oo 110 (Bb .xor 106 109) [106,109],om 111 10,om 112 11,oo 113 (Bb .and 111 112) [111,112],oo 114 (Bb .xor 110 113) [110,113],omk 14 114,on 15 (.mov (.c (.int .u32 2400959708)))]
def r136_23:List FI:=[Fm 0 115 8,Fm 2 117 14,Fm 4 119 12,Fm 6 121 15,Fm 8 123 13,Fs 9 124 (.iaddrA 80 1 (.t 6) (.t 123)),Fs 10 125 (Ld 124),Fz 1 116 (Ca 169 [.t 115,(.c (.int .u64 5))]),Fs 3 118 (Bb .add 116 117),Fs 5 120 (Bb .add 118 119),Fs 7 122 (Bb .add 120 121),Fs 11 126 (Bb .add 122 125),Fm 12 16 126]
def r136_24:List RI:=[omk 127 16,omk 128 8,omk 129 9,oo 130 (Ca 169 [.t 129,(.c (.int .u64 30))]) [129],omk 131 10,omk 132 11,omk 8 127,omk 9 128,omk 10 130,omk 11 131,omk 12 132]
def r136_25:List RI:=[omk 80 13,oo 81 (Bc .add 80 1) [80],omk 13 81]
def b136_26:RC:=(.seq (So r136_15 (Kc 79 (Kk [79] .skip) (Kk [6,13,79] (.exit 4)))) (.seq (.block 5 (So r136_16 (.seq (.block 6 (So r136_17 (Kc 87 (Kk [14,15,87] (.ops r136_18)) (Kk [87] (So r136_19 (Kc 98 (Kk [15,98] (.ops r136_20)) (Kk [98] (So r136_21 (Kc 101 (Kk [14,15,101] (.ops r136_22)) (Kk [101] .skip)))))))))) (.seq (.flt [0,1,0,7,0,31,0,127,0,256,768,2047,4095] [] r136_23 [12,14,15,115,116,117,118,119,120,121,122,123,124,125,126]) (.ops r136_24))))) (.ops r136_25)))
def r136_26:RC:=b136_26
def r136_27:List FI:=[Fm 0 133 3,Fs 1 134 (.iaddrL 1 (.t 133) (ci 0)),Fs 2 135 (Ld 134),Fm 3 136 8,Fs 4 137 (Bb .add 135 136),Fm 5 138 3,Fs 6 139 (.iaddrL 1 (.t 138) (ci 1)),Fs 7 140 (Ld 139),Fm 8 141 9,Fs 9 142 (Bb .add 140 141),Fm 10 143 3,Fs 11 144 (.iaddrL 1 (.t 143) (ci 2)),Fs 12 145 (Ld 144),Fm 13 146 10,Fs 14 147 (Bb .add 145 146),Fm 15 148 3,Fs 16 149 (.iaddrL 1 (.t 148) (ci 3)),Fs 17 150 (Ld 149),Fm 18 151 11,Fs 19 152 (Bb .add 150 151),Fm 20 153 3,Fs 21 154 (.iaddrL 1 (.t 153) (ci 4)),Fs 22 155 (Ld 154),Fm 23 156 12,Fs 24 157 (Bb .add 155 156),Fs 25 158 (.lit 1 [.t 137,.t 142,.t 147,.t 152,.t 157]),⟨26,false,(xm 3 158)⟩]
def r136_28:List RI:=[omk 24 5,oo 25 (Bc .add 24 64) [24],omk 5 25]
def b136_29:RC:=(.post (.seq (So r136_4 (Kc 23 (Kk [23] .skip) (Kk [4,5,23] (.exit 0)))) (.seq (.block 1 (So r136_5 (.seq (So r136_6 (.block 2 (.loop r136_12))) (.seq (.flt [0,1,3,0,8,24,0,64,192,0,512,1536,0,4096,12288,7,32831,98815,233471,524287] [] r136_13 [63,64,65,66,67,68,69,70,71,72,73,74,75,76,77]) (.seq (So r136_14 (.block 4 (.loop r136_26))) (.flt [0,1,3,0,15,0,32,96,0,480,0,1024,3072,0,15360,0,32768,98304,0,491520,0,1048576,3145728,0,15728640,33554431,67108863] [] r136_27 [8,9,10,11,12,133,134,135,136,137,138,139,140,141,142,143,144,145,146,147,148,149,150,151,152,153,154,155,156,157,158])))))) (.ops r136_28))) [.gc [106]])
def r136_29:RC:=b136_29
def r136_30:List RI:=[omk 159 3,oo 160 (Ca 130 [.t 159]) [159],omk 2 160]
def r136:RC:=(So r136_0 (So r136_1 (So r136_2 (.seq (So r136_3 (.block 0 (.loop r136_29))) (So r136_30 .ret)))))
def F136:FnC:=⟨r136,161,[.tmp 2],[],[]⟩
def r137_0:List RI:=[oo 4 (.mov (.c (.byt [] .clip))) [4]]
def r137_1:List RI:=[omk 9 0,oo 10 (.toInt .u8 (.t 9)) [9],oo 11 (.litB [.t 10]) [10],omk 5 11]
def r137_2:List RI:=[omk 12 1,on 13 (Ln 12),on 14 (.mov (ci 0))]
def r137_3:List RI:=[on 15 (Bb .lss 14 13)]
def r137_4:List RI:=[on 16 (Ia 1 12 14),oo 17 (Ld 16) [16],omk 7 17]
def r137_5:List RI:=[om 18 7,oo 19 (Ln 18) [18],oo 20 (.toInt .u32 (.t 19)) [19],omk 8 20]
def r137_6:List RI:=[omk 21 5,om 22 8,oo 23 (.bin .shr (.t 22) (.c (.int .u64 24))) [22],oo 24 (.toInt .u8 (.t 23)) [23],om 25 8,oo 26 (.bin .shr (.t 25) (.c (.int .u64 16))) [25],oo 27 (.toInt .u8 (.t 26)) [26],om 28 8,oo 29 (.bin .shr (.t 28) (.c (.int .u64 8))) [28],oo 30 (.toInt .u8 (.t 29)) [29],omk 31 8,oo 32 (.toInt .u8 (.t 31)) [31],oo 33 (.litB [.t 24,.t 27,.t 30,.t 32]) [24,27,30,32],oo 34 (.app [.u8 0] 1 (.t 21) (.t 33)) [21,33],omk 5 34]
def r137_7:List RI:=[omk 35 5,omk 36 7,oo 37 (.app [.u8 0] 1 (.t 35) (.t 36)) [35,36],omk 5 37]
def r137_8:List RI:=[oo 38 (Bc .add 14 1) [14],omk 14 38]
def b137_9:RC:=(.post (So r137_3 (.seq (Kc 15 (Kk [15] .skip) (Kk [12,13,14,15] (.exit 0))) (.seq (.block 1 (So r137_4 (So r137_5 (So r137_6 (.ops r137_7))))) (.ops r137_8)))) [.tok 5 105])
def r137_9:RC:=b137_9
def r137_10:List RI:=[omk 39 5,omk 4 39]
def r137:RC:=(So r137_0 (So r137_1 (.seq (So r137_2 (.block 0 (.pre [.tok 5 105] (.loop r137_9)))) (So r137_10 .ret))))
def F137:FnC:=⟨r137,40,[.tmp 4],[],[]⟩
def r141_0:List RI:=[oo 4 (.mov (.c (.int .u32 0))) [4]]
def r141_1:List FI:=[Fm 0 5 0,Fm 1 6 1,Fs 2 7 (.bin .mul (ci 4) (.t 6)),Fs 3 8 (Ia 1 5 7),Fs 4 9 (Ld 8),Fs 5 10 (.toInt .u32 (.t 9)),Fs 6 11 (.bin .shl (.t 10) (.c (.int .u64 24))),Fm 7 12 0,Fm 8 13 1,Fs 9 14 (.bin .mul (ci 4) (.t 13)),Fs 10 15 (Bc .add 14 1),Fs 11 16 (Ia 1 12 15),Fs 12 17 (Ld 16),Fs 13 18 (.toInt .u32 (.t 17)),Fs 14 19 (.bin .shl (.t 18) (.c (.int .u64 16))),Fs 15 20 (Bb .or 11 19),Fm 16 21 0,Fm 17 22 1,Fs 18 23 (.bin .mul (ci 4) (.t 22)),Fs 19 24 (Bc .add 23 2),Fs 20 25 (Ia 1 21 24),Fs 21 26 (Ld 25),Fs 22 27 (.toInt .u32 (.t 26)),Fs 23 28 (.bin .shl (.t 27) (.c (.int .u64 8))),Fs 24 29 (Bb .or 20 28),Fm 25 30 0,Fm 26 31 1,Fs 27 32 (.bin .mul (ci 4) (.t 31)),Fs 28 33 (Bc .add 32 3),Fs 29 34 (Ia 1 30 33),Fs 30 35 (Ld 34),Fs 31 36 (.toInt .u32 (.t 35)),Fs 32 37 (Bb .or 29 36),Fm 33 4 37]
def r141:RC:=(So r141_0 (.seq (.flt [0,0,2,7,15,31,63,0,0,256,768,1920,3968,8064,16256,32767,0,0,131072,393216,983040,2031616,4128768,8323072,16777215,0,0,67108864,201326592,503316480,1040187392,2113929216,4294967295,8589934591] [] r141_1 [0,1,5,6,7,8,9,10,11,12,13,14,15,16,17,18,19,20,21,22,23,24,25,26,27,28,29,30,31,32,33,34,35,36,37]) .ret))
def F141:FnC:=⟨r141,38,[.tmp 4],[],[]⟩
def r142_0:List RI:=[oo 4 (.mov (.c (.int .u32 0))) [4]]
def r142_1:List RI:=[omk 6 1,oo 7 (.toInt .u64 (.t 6)) [6],oo 8 (.bin .and (.t 7) (.c (.int .u64 31))) [7],omk 5 8]
def r142_2:List RI:=[om 9 0,om 10 5,oo 11 (Bb .shl 9 10) [9,10],omk 12 0,omk 13 5,oo 14 (.bin .sub (.c (.int .u64 32)) (.t 13)) [13],oo 15 (Bb .shr 12 14) [12,14],oo 16 (Bb .or 11 15) [11,15],omk 4 16]
def r142:RC:=(So r142_0 (So r142_1 (So r142_2 .ret)))
def F142:FnC:=⟨r142,17,[.tmp 4],[],[]⟩
def r152_0:List RI:=[on 2 (.mov (ci 0))]
def r152_1:List RI:=[om 3 0,oo 4 (.bin .geq (.t 3) (.c (.int .u64 4294967296))) [3]]
def r152_2:List RI:=[omk 5 0,oo 6 (.bin .shr (.t 5) (.c (.int .u64 32))) [5],omk 0 6]
def r152_3:List RI:=[on 2 (.mov (ci 32))]
def r152_4:List RI:=[om 7 0,oo 8 (.bin .geq (.t 7) (.c (.int .u64 65536))) [7]]
def r152_5:List RI:=[omk 9 0,oo 10 (.bin .shr (.t 9) (.c (.int .u64 16))) [9],omk 0 10]
def r152_6:List RI:=[omk 11 2,oo 12 (Bc .add 11 16) [11],omk 2 12]
def r152_7:List RI:=[om 13 0,oo 14 (.bin .geq (.t 13) (.c (.int .u64 256))) [13]]
def r152_8:List RI:=[omk 15 0,oo 16 (.bin .shr (.t 15) (.c (.int .u64 8))) [15],omk 0 16]
def r152_9:List RI:=[omk 17 2,oo 18 (Bc .add 17 8) [17],omk 2 18]
def r152_10:List RI:=[omk 19 2,omk 20 0,oo 21 (.toInt .u8 (.t 20)) [20],oo 22 (.idxS (.c (.str cs0)) (.t 21)) [21],oo 23 (.toInt .i64 (.t 22)) [22],oo 24 (Bb .add 19 23) [19,23],omk 2 24]
def r152:RC:=(So r152_0 (.seq (So r152_1 (Kc 4 (Kk [2,4] (So r152_2 (.ops r152_3))) (Kk [4] .skip))) (.seq (So r152_4 (Kc 8 (Kk [8] (So r152_5 (.ops r152_6))) (Kk [8] .skip))) (.seq (So r152_7 (Kc 14 (Kk [14] (So r152_8 (.ops r152_9))) (Kk [14] .skip))) (So r152_10 .ret)))))
def F152:FnC:=⟨r152,25,[.tmp 2],[],[]⟩
def r153_0:List RI:=[oo 2 (.mov (.c (.bool false))) [2]]
def r153_1:List RI:=[om 3 0,omk 4 0,oo 5 (Bb .neq 3 4) [3,4],omk 2 5]
def r153:RC:=(So r153_0 (So r153_1 .ret))
def F153:FnC:=⟨r153,6,[.tmp 2],[],[]⟩
def r155_0:List RI:=[oo 2 (.mov (.c (.str []))) [2]]
def r155_1:List RI:=[om 3 0,oo 4 (Bc .lss 3 10) [3]]
def r155_2:List RI:=[om 5 0,omk 6 0,oo 7 (Bc .add 6 1) [6],oo 8 (.slcS (.c (.str cs1)) (some (.t 5)) (some (.t 7))) [5,7],omk 2 8]
def r155_3:List RI:=[om 9 0,oo 10 (Bc .mul 9 2) [9],omk 11 0,oo 12 (Bc .mul 11 2) [11],oo 13 (Bc .add 12 2) [12],oo 14 (.slcS (.c (.str cs2)) (some (.t 10)) (some (.t 13))) [10,13],omk 2 14]
def r155:RC:=(So r155_0 (.seq (So r155_1 (Kc 4 (Kk [4] (So r155_2 .ret)) (Kk [4] .skip))) (So r155_3 .ret)))
def F155:FnC:=⟨r155,15,[.tmp 2],[],[]⟩
def r156_0:List RI:=[oo 2 (.mov (ci 0)) [2]]
def r156_1:List RI:=[om 4 0,oo 5 (Ca 152 [.t 4]) [4],oo 6 (Ca 178 [.t 5]) [5],omk 3 6]
def r156_2:List RI:=[om 7 3,omk 8 0,omk 9 3,oo 10 (.iaddrA 20 1 (.c (.pp gtab3)) (.t 9)) [9],oo 11 (Ld 10) [10],oo 12 (Bb .geq 8 11) [8,11],oo 13 (Ca 179 [.t 12]) [12],oo 14 (Bb .add 7 13) [7,13],omk 2 14]
def r156:RC:=(So r156_0 (So r156_1 (So r156_2 .ret)))
def F156:FnC:=⟨r156,15,[.tmp 2],[],[]⟩
def r157_0:List RI:=[om 17 0,oo 18 (Ln 17) [17],omk 4 18]
def r157_1:List RI:=[om 19 4,oo 20 (Bc .geq 19 8) [19]]
def r157_2:List RI:=[om 21 1,oo 22 (.bin .rem (.t 21) (.c (.int .u64 100000000))) [21],oo 23 (.toInt .u32 (.t 22)) [22],omk 5 23]
def r157_3:List RI:=[omk 24 1,oo 25 (.bin .quo (.t 24) (.c (.int .u64 100000000))) [24],omk 1 25]
def r157_4:List RI:=[om 26 5,oo 27 (.bin .quo (.t 26) (.c (.int .u32 10000))) [26],omk 28 5,oo 29 (.bin .rem (.t 28) (.c (.int .u32 10000))) [28],omk 6 27,omk 7 29]
def r157_5:List RI:=[om 30 7,oo 31 (.bin .quo (.t 30) (.c (.int .u32 100))) [30],oo 32 (.bin .mul (.t 31) (.c (.int .u32 2))) [31],omk 33 7,oo 34 (.bin .rem (.t 33) (.c (.int .u32 100))) [33],oo 35 (.bin .mul (.t 34) (.c (.int .u32 2))) [34],omk 8 32,omk 9 35]
def r157_6:List RI:=[om 36 6,oo 37 (.bin .quo (.t 36) (.c (.int .u32 100))) [36],oo 38 (.bin .mul (.t 37) (.c (.int .u32 2))) [37],omk 39 6,oo 40 (.bin .rem (.t 39) (.c (.int .u32 100))) [39],oo 41 (.bin .mul (.t 40) (.c (.int .u32 2))) [40],omk 10 38,omk 11 41]
def r157_7:List FI:=[Fm 0 42 0,Fm 1 43 4,Fs 2 44 (Bc .sub 43 1),Fm 3 45 0,Fm 4 46 4,Fs 5 47 (Bc .sub 46 2),Fm 6 48 9,Fs 7 49 (.bin .add (.t 48) (.c (.int .u32 1))),Fs 8 50 (.idxS (.c (.str cs2)) (.t 49)),Fm 9 51 9,Fs 10 52 (.idxS (.c (.str cs2)) (.t 51)),Fs 11 53 (Ia 1 42 44),⟨12,false,⟨none,none,.store 1 (.t 53) (.t 50)⟩⟩,Fs 13 54 (Ia 1 45 47),⟨14,false,⟨none,none,.store 1 (.t 54) (.t 52)⟩⟩]
def r157_8:List FI:=[Fm 0 55 0,Fm 1 56 4,Fs 2 57 (Bc .sub 56 3),Fm 3 58 0,Fm 4 59 4,Fs 5 60 (Bc .sub 59 4),Fm 6 61 8,Fs 7 62 (.bin .add (.t 61) (.c (.int .u32 1))),Fs 8 63 (.idxS (.c (.str cs2)) (.t 62)),Fm 9 64 8,Fs 10 65 (.idxS (.c (.str cs2)) (.t 64)),Fs 11 66 (Ia 1 55 57),⟨12,false,⟨none,none,.store 1 (.t 66) (.t 63)⟩⟩,Fs 13 67 (Ia 1 58 60),⟨14,false,⟨none,none,.store 1 (.t 67) (.t 65)⟩⟩]
def r157_9:List FI:=[Fm 0 68 0,Fm 1 69 4,Fs 2 70 (Bc .sub 69 5),Fm 3 71 0,Fm 4 72 4,Fs 5 73 (Bc .sub 72 6),Fm 6 74 11,Fs 7 75 (.bin .add (.t 74) (.c (.int .u32 1))),Fs 8 76 (.idxS (.c (.str cs2)) (.t 75)),Fm 9 77 11,Fs 10 78 (.idxS (.c (.str cs2)) (.t 77)),Fs 11 79 (Ia 1 68 70),⟨12,false,⟨none,none,.store 1 (.t 79) (.t 76)⟩⟩,Fs 13 80 (Ia 1 71 73),⟨14,false,⟨none,none,.store 1 (.t 80) (.t 78)⟩⟩]
def r157_10:List FI:=[Fm 0 81 0,Fm 1 82 4,Fs 2 83 (Bc .sub 82 7),Fm 3 84 0,Fm 4 85 4,Fs 5 86 (Bc .sub 85 8),Fm 6 87 10,Fs 7 88 (.bin .add (.t 87) (.c (.int .u32 1))),Fs 8 89 (.idxS (.c (.str cs2)) (.t 88)),Fm 9 90 10,Fs 10 91 (.idxS (.c (.str cs2)) (.t 90)),Fs 11 92 (Ia 1 81 83),⟨12,false,⟨none,none,.store 1 (.t 92) (.t 89)⟩⟩,Fs 13 93 (Ia 1 84 86),⟨14,false,⟨none,none,.store 1 (.t 93) (.t 91)⟩⟩]
def r157_11:List RI:=[omk 94 4,oo 95 (Bc .sub 94 8) [94],omk 4 95]
def b157_12:RC:=(.seq (So r157_1 (Kc 20 (Kk [20] .skip) (Kk [20] (.exit 0)))) (.block 1 (So r157_2 (So r157_3 (So r157_4 (So r157_5 (So r157_6 (.seq (.flt [0,0,2,0,0,16,0,64,192,0,512,455,2503,8191,16383] [] r157_7 [9,42,43,44,45,46,47,48,49,50,51,52,53,54]) (.seq (.flt [0,0,2,0,0,16,0,64,192,0,512,455,2503,8191,16383] [] r157_8 [8,55,56,57,58,59,60,61,62,63,64,65,66,67]) (.seq (.flt [0,0,2,0,0,16,0,64,192,0,512,455,2503,8191,16383] [] r157_9 [11,68,69,70,71,72,73,74,75,76,77,78,79,80]) (.seq (.flt [0,0,2,0,0,16,0,64,192,0,512,455,2503,8191,16383] [] r157_10 [10,81,82,83,84,85,86,87,88,89,90,91,92,93]) (.ops r157_11))))))))))))
def r157_12:RC:=b157_12
def r157_13:List RI:=[omk 96 1,oo 97 (.toInt .u32 (.t 96)) [96],omk 12 97]
def r157_14:List RI:=[om 98 4,oo 99 (Bc .geq 98 4) [98]]
def r157_15:List RI:=[om 100 12,oo 101 (.bin .rem (.t 100) (.c (.int .u32 10000))) [100],omk 13 101]
def r157_16:List RI:=[omk 102 12,oo 103 (.bin .quo (.t 102) (.c (.int .u32 10000))) [102],omk 12 103]
def r157_17:List RI:=[om 104 13,oo 105 (.bin .quo (.t 104) (.c (.int .u32 100))) [104],oo 106 (.bin .mul (.t 105) (.c (.int .u32 2))) [105],omk 107 13,oo 108 (.bin .rem (.t 107) (.c (.int .u32 100))) [107],oo 109 (.bin .mul (.t 108) (.c (.int .u32 2))) [108],omk 14 106,omk 15 109]
def r157_18:List FI:=[Fm 0 110 0,Fm 1 111 4,Fs 2 112 (Bc .sub 111 1),Fm 3 113 0,Fm 4 114 4,Fs 5 115 (Bc .sub 114 2),Fm 6 116 15,Fs 7 117 (.bin .add (.t 116) (.c (.int .u32 1))),Fs 8 118 (.idxS (.c (.str cs2)) (.t 117)),Fm 9 119 15,Fs 10 120 (.idxS (.c (.str cs2)) (.t 119)),Fs 11 121 (Ia 1 110 112),⟨12,false,⟨none,none,.store 1 (.t 121) (.t 118)⟩⟩,Fs 13 122 (Ia 1 113 115),⟨14,false,⟨none,none,.store 1 (.t 122) (.t 120)⟩⟩]
def r157_19:List FI:=[Fm 0 123 0,Fm 1 124 4,Fs 2 125 (Bc .sub 124 3),Fm 3 126 0,Fm 4 127 4,Fs 5 128 (Bc .sub 127 4),Fm 6 129 14,Fs 7 130 (.bin .add (.t 129) (.c (.int .u32 1))),Fs 8 131 (.idxS (.c (.str cs2)) (.t 130)),Fm 9 132 14,Fs 10 133 (.idxS (.c (.str cs2)) (.t 132)),Fs 11 134 (Ia 1 123 125),⟨12,false,⟨none,none,.store 1 (.t 134) (.t 131)⟩⟩,Fs 13 135 (Ia 1 126 128),⟨14,false,⟨none,none,.store 1 (.t 135) (.t 133)⟩⟩]
def r157_20:List RI:=[omk 136 4,oo 137 (Bc .sub 136 4) [136],omk 4 137]
def r157_21:List RI:=[om 138 4,oo 139 (Bc .geq 138 2) [138]]
def r157_22:List RI:=[om 140 12,oo 141 (.bin .rem (.t 140) (.c (.int .u32 100))) [140],oo 142 (.bin .mul (.t 141) (.c (.int .u32 2))) [141],omk 16 142]
def r157_23:List RI:=[omk 143 12,oo 144 (.bin .quo (.t 143) (.c (.int .u32 100))) [143],omk 12 144]
def r157_24:List FI:=[Fm 0 145 0,Fm 1 146 4,Fs 2 147 (Bc .sub 146 1),Fm 3 148 0,Fm 4 149 4,Fs 5 150 (Bc .sub 149 2),Fm 6 151 16,Fs 7 152 (.bin .add (.t 151) (.c (.int .u32 1))),Fs 8 153 (.idxS (.c (.str cs2)) (.t 152)),Fm 9 154 16,Fs 10 155 (.idxS (.c (.str cs2)) (.t 154)),Fs 11 156 (Ia 1 145 147),⟨12,false,⟨none,none,.store 1 (.t 156) (.t 153)⟩⟩,Fs 13 157 (Ia 1 148 150),⟨14,false,⟨none,none,.store 1 (.t 157) (.t 155)⟩⟩]
def r157_25:List RI:=[omk 158 4,oo 159 (Bc .sub 158 2) [158],omk 4 159]
def r157_26:List RI:=[omk 160 4,oo 161 (Bc .gtr 160 0) [160]]
def r157_27:List RI:=[omk 162 0,omk 163 12,oo 164 (.bin .add (.c (.int .u32 48)) (.t 163)) [163],oo 165 (.toInt .u8 (.t 164)) [164],oo 166 (.iaddrL 1 (.t 162) (ci 0)) [162],.op ⟨none,none,.store 1 (.t 166) (.t 165)⟩ [165,166]]
def r157:RC:=(So r157_0 (.seq (.block 0 (.loop r157_12)) (So r157_13 (.seq (So r157_14 (Kc 99 (Kk [99] (So r157_15 (So r157_16 (So r157_17 (.seq (.flt [0,0,2,0,0,16,0,64,192,0,512,455,2503,8191,16383] [] r157_18 [15,110,111,112,113,114,115,116,117,118,119,120,121,122]) (.seq (.flt [0,0,2,0,0,16,0,64,192,0,512,455,2503,8191,16383] [] r157_19 [14,123,124,125,126,127,128,129,130,131,132,133,134,135]) (.ops r157_20))))))) (Kk [99] .skip))) (.seq (So r157_21 (Kc 139 (Kk [139] (So r157_22 (So r157_23 (.seq (.flt [0,0,2,0,0,16,0,64,192,0,512,455,2503,8191,16383] [] r157_24 [16,145,146,147,148,149,150,151,152,153,154,155,156,157]) (.ops r157_25))))) (Kk [139] .skip))) (So r157_26 (Kc 161 (Kk [161] (.ops r157_27)) (Kk [0,12,161] .skip))))))))
def F157:FnC:=⟨r157,167,[],[],[]⟩
def r159_0:List RI:=[oo 4 (.mov (.c (.str []))) [4]]
def r159_1:List RI:=[om 5 0,oo 6 (.len true (.t 5)) [5],oo 7 (Bc .gtr 6 0) [6],omk 8 7,.grp 8 true [(xi 9 8 true (Mv 0)),(xi 10 8 true (.idxS (.t 9) (ci 0))),(xi 11 8 true (Mv 1)),(xi 12 8 true (Bb .eql 10 11))] [9,10,11],oo 13 (Pf 8 12) [8,12]]
def r159_2:List RI:=[omk 14 0,oo 15 (.slcS (.t 14) (some (ci 1)) none) [14],omk 0 15]
def b159_3:RC:=(.seq (So r159_1 (Kc 13 (Kk [13] .skip) (Kk [1,13] (.exit 0)))) (.block 1 (.ops r159_2)))
def r159_3:RC:=b159_3
def r159_4:List RI:=[omk 16 0,omk 4 16]
def r159:RC:=(So r159_0 (.seq (.block 0 (.loop r159_3)) (So r159_4 .ret)))
def F159:FnC:=⟨r159,17,[.tmp 4],[],[]⟩
def r160_0:List RI:=[oo 4 (.mov (.c (.str []))) [4]]
def r160_1:List RI:=[om 5 0,oo 6 (.len true (.t 5)) [5],oo 7 (Bc .gtr 6 0) [6],omk 8 7,.grp 8 true [(xi 9 8 true (Mv 0)),(xi 10 8 true (Mv 0)),(xi 11 8 true (.len true (.t 10))),(xi 12 8 true (Bc .sub 11 1)),(xi 13 8 true (.idxS (.t 9) (.t 12))),(xi 14 8 true (Mv 1)),(xi 15 8 true (Bb .eql 13 14))] [9,10,11,12,13,14],oo 16 (Pf 8 15) [8,15]]
def r160_2:List RI:=[om 17 0,omk 18 0,oo 19 (.len true (.t 18)) [18],oo 20 (Bc .sub 19 1) [19],oo 21 (.slcS (.t 17) none (some (.t 20))) [17,20],omk 0 21]
def b160_3:RC:=(.seq (So r160_1 (Kc 16 (Kk [16] .skip) (Kk [1,16] (.exit 0)))) (.block 1 (.ops r160_2)))
def r160_3:RC:=b160_3
def r160_4:List RI:=[omk 22 0,omk 4 22]
def r160:RC:=(So r160_0 (.seq (.block 0 (.loop r160_3)) (So r160_4 .ret)))
def F160:FnC:=⟨r160,23,[.tmp 4],[],[]⟩
def r166_0:List RI:=[oo 4 (.mov (.c (.bool false))) [4]]
def r166_1:List RI:=[om 5 0,oo 6 (.len true (.t 5)) [5],om 7 1,oo 8 (.len true (.t 7)) [7],oo 9 (Bb .geq 6 8) [6,8],omk 10 9,.grp 10 true [(xi 11 10 true (Mv 0)),(xi 12 10 true (Mv 1)),(xi 13 10 true (.len true (.t 12))),(xi 14 10 true (.slcS (.t 11) none (some (.t 13)))),(xi 15 10 true (Mv 1)),(xi 16 10 true (Bb .eql 14 15))] [0,1,11,12,13,14,15],oo 17 (Pf 10 16) [10,16],omk 4 17]
def r166:RC:=(So r166_0 (So r166_1 .ret))
def F166:FnC:=⟨r166,18,[.tmp 4],[],[]⟩
def r167_0:List RI:=[oo 2 (.mov (ci 0)) [2],oo 3 (.mov (.c .nili)) [3]]
def r167_1:List RI:=[om 11 0,oo 12 (.len true (.t 11)) [11],omk 4 12]
def r167_2:List RI:=[on 13 (.mov (.c (.bool false))),.grp 13 true [(xi 14 13 true (Mv 4)),(xi 15 13 true (.bin .lss (ci 0) (.t 14))),(xi 16 13 true (Mv 15))] [14,15],.grp 16 true [(xi 17 16 true (Mv 4)),(xi 18 16 true (Bc .lss 17 10))] [17],.grp 13 true [(xi 19 13 true (Pf 16 18))] [16,18],oo 20 (Pf 13 19) [13,19],omk 21 20,.grp 21 false [(xi 22 21 false (.mov (.c (.bool true))))] [],.grp 22 true [(xi 23 22 true (Mv 4)),(xi 24 22 true (.bin .lss (ci 0) (.t 23))),(xi 25 22 true (Mv 24))] [23,24],.grp 25 true [(xi 26 25 true (Mv 4)),(xi 27 25 true (Bc .lss 26 19))] [4,26],.grp 22 true [(xi 28 22 true (Pf 25 27))] [25,27],.grp 21 false [(xi 29 21 false (Pf 22 28))] [22,28],oo 30 (Pt 21 29) [21,29]]
def r167_3:List RI:=[om 31 0,omk 5 31]
def r167_4:List RI:=[om 32 0,oo 33 (.idxS (.t 32) (ci 0)) [32],oo 34 (.bin .eql (.t 33) (.c (.u8 45))) [33],omk 35 34,.grp 35 false [(xi 36 35 false (Mv 0)),(xi 37 35 false (.idxS (.t 36) (ci 0))),(xi 38 35 false (.bin .eql (.t 37) (.c (.u8 43))))] [36,37],oo 39 (Pt 35 38) [35,38]]
def r167_5:List RI:=[omk 40 0,oo 41 (.slcS (.t 40) (some (ci 1)) none) [40],omk 0 41]
def r167_6:List RI:=[om 42 0,oo 43 (.len true (.t 42)) [42],oo 44 (Bc .lss 43 1) [43]]
def r167_7:List RI:=[on 6 (.mov (ci 0))]
def r167_8:List RI:=[omk 46 0,oo 47 (.s2b (.t 46)) [46],on 48 (Ln 47),on 49 (.mov (ci 0))]
def r167_9:List RI:=[on 50 (Bb .lss 49 48)]
def r167_10:List RI:=[on 51 (Ia 1 47 49),oo 52 (Ld 51) [51],omk 8 52]
def r167_11:List RI:=[omk 53 8,oo 54 (.bin .sub (.t 53) (.c (.u8 48))) [53],omk 8 54]
def r167_12:List RI:=[om 55 8,oo 56 (.bin .gtr (.t 55) (.c (.u8 9))) [55]]
def r167_13:List RI:=[omk 58 6,oo 59 (Bc .mul 58 10) [58],omk 60 8,oo 61 (.toInt .i64 (.t 60)) [60],oo 62 (Bb .add 59 61) [59,61],omk 6 62]
def r167_14:List RI:=[oo 63 (Bc .add 49 1) [49],omk 49 63]
def b167_15:RC:=(So r167_9 (.seq (Kc 50 (Kk [50] .skip) (Kk [47,48,49,50] (.exit 0))) (.seq (.block 1 (So r167_10 (So r167_11 (.seq (So r167_12 (Kc 56 (Kk [5,6,8,47,48,49,56] (.seq .bad .ret)) (Kk [56] .skip))) (.ops r167_13))))) (.ops r167_14))))
def r167_15:RC:=b167_15
def r167_16:List RI:=[omk 64 5,oo 65 (.idxS (.t 64) (ci 0)) [64],oo 66 (.bin .eql (.t 65) (.c (.u8 45))) [65]]
def r167_17:List RI:=[omk 67 6,oo 68 (.un .neg (.t 67)) [67],omk 6 68]
def r167_18:List RI:=[omk 69 6,omk 2 69,on 3 (.mov (.c .nili))]
def r167_19:List RI:=[omk 71 0,oo 72 (Ca 186 [.t 71,ci 10,ci 0]) [71],omk 70 72,on 73 (.ext (.t 70) 0),oo 74 (.ext (.t 70) 1) [70],omk 9 73,omk 10 74]
def r167_20:List RI:=[omk 75 9,omk 76 10,omk 2 75,omk 3 76]
def r167:RC:=(So r167_0 (So r167_1 (.seq (So r167_2 (Kc 30 (Kk [30] (So r167_3 (.seq (So r167_4 (Kc 39 (Kk [39] (So r167_5 (So r167_6 (Kc 44 (Kk [0,5,44] (.seq .bad .ret)) (Kk [44] .skip))))) (Kk [39] .skip))) (So r167_7 (.seq (So r167_8 (.block 0 (.loop r167_15))) (.seq (So r167_16 (Kc 66 (Kk [66] (.ops r167_17)) (Kk [66] .skip))) (So r167_18 .ret))))))) (Kk [30] .skip))) (So r167_19 (So r167_20 .ret)))))
def F167:FnC:=⟨r167,77,[.tmp 2,.tmp 3],[],[]⟩
def r169_0:List RI:=[oo 4 (.mov (.c (.int .u32 0))) [4]]
def r169_1:List RI:=[om 5 0,om 6 1,oo 7 (Bb .shl 5 6) [5,6],omk 8 0,omk 9 1,oo 10 (.bin .sub (.c (.int .u64 32)) (.t 9)) [9],oo 11 (Bb .shr 8 10) [8,10],oo 12 (Bb .or 7 11) [7,11],omk 4 12]
def r169:RC:=(So r169_0 (So r169_1 .ret))
def F169:FnC:=⟨r169,13,[.tmp 4],[],[]⟩
def r178_0:List RI:=[oo 2 (.mov (ci 0)) [2]]
def r178_1:List RI:=[omk 3 0,oo 4 (Bc .mul 3 78913) [3],oo 5 (.bin .shr (.t 4) (.c (.int .u64 18))) [4],omk 2 5]
def r178:RC:=(So r178_0 (So r178_1 .ret))
def F178:FnC:=⟨r178,6,[.tmp 2],[],[]⟩
def r179_0:List RI:=[oo 2 (.mov (ci 0)) [2]]
def r179_1:List RI:=[omk 3 0]
def r179_2:List RI:=[on 2 (.mov (ci 1))]
def r179_3:List RI:=[on 2 (.mov (ci 0))]
def r179:RC:=(So r179_0 (.seq (So r179_1 (Kc 3 (Kk [3] (So r179_2 .ret)) (Kk [3] .skip))) (So r179_3 .ret)))
def F179:FnC:=⟨r179,4,[.tmp 2],[],[]⟩
theorem Fk {g:Nat} {F:FnC} {fn:Func} (h1:Tryz.prog.funcs[g]? =some fn) (h3:fn.ntmps=F.n) (h2:fn.body.map (resB Tryz.prog)=some F.code.er) (h4:(rvsOKb Tryz.prog fn.results.toList F.rs&&callableB Tryz.prog g&&F.code.ok F.n)=true):FnOK Tryz.prog g F:=by simp only [Bool.and_eq_true]at h4;exact fnOK_of h1 h2 h3 h4.1.1 h4.1.2 h4.2
noncomputable def tabF:Nat→Option FnB
 |8=>some (.code F8)
 |10=>some (.code F10)
 |11=>some (.code F11)
 |12=>some (.code F12)
 |15=>some (.code F15)
 |16=>some (.code F16)
 |18=>some (.code F18)
 |21=>some (.code F21)
 |23=>some (.code F23)
 |24=>some (.code F24)
 |27=>some (.code F27)
 |28=>some (.code F28)
 |29=>some (.code F29)
 |31=>some (.code F31)
 |33=>some (.code F33)
 |34=>some (.code F34)
 |35=>some (.code F35)
 |36=>some (.code F36)
 |37=>some (.code F37)
 |38=>some (.code F38)
 |39=>some (.code F39)
 |40=>some (.code F40)
 |42=>some (.code F42)
 |44=>some (.code F44)
 |45=>some (.code F45)
 |46=>some (.code F46)
 |47=>some (.code F47)
 |48=>some (.code F48)
 |49=>some (.code F49)
 |50=>some (.code F50)
 |51=>some (.code F51)
 |52=>some (.code F52)
 |53=>some (.code F53)
 |55=>some (.code F55)
 |56=>some (.code F56)
 |59=>some (.code F59)
 |60=>some (.code F60)
 |62=>some (.code F62)
 |63=>some (.code F63)
 |65=>some (.code F65)
 |68=>some (.code F68)
 |69=>some (.code F69)
 |72=>some (.code F72)
 |75=>some (.code F75)
 |76=>some (.code F76)
 |77=>some (.code F77)
 |78=>some (.code F78)
 |79=>some (.code F79)
 |80=>some (.code F80)
 |81=>some (.code F81)
 |82=>some (.code F82)
 |83=>some (.code F83)
 |84=>some (.code F84)
 |85=>some (.code F85)
 |86=>some (.code F86)
 |87=>some (.code F87)
 |88=>some (.code F88)
 |89=>some (.code F89)
 |90=>some (.code F90)
 |91=>some (.code F91)
 |92=>some (.code F92)
 |93=>some (.code F93)
 |94=>some (.code F94)
 |95=>some (.code F95)
 |97=>some (.code F97)
 |99=>some (.code F99)
 |101=>some (.code F101)
 |102=>some (.code F102)
 |108=>some (.code F108)
 |109=>some (.code F109)
 |113=>some (.code F113)
 |114=>some (.code F114)
 |115=>some (.code F115)
 |116=>some (.code F116)
 |117=>some (.code F117)
 |118=>some (.code F118)
 |121=>some (.code F121)
 |122=>some (.code F122)
 |123=>some (.code F123)
 |124=>some (.code F124)
 |125=>some (.code F125)
 |126=>some (.code F126)
 |127=>some (.code F127)
 |128=>some (.code F128)
 |129=>some (.code F129)
 |130=>some (.code F130)
 |131=>some (.code F131)
 |132=>some (.code F132)
 |133=>some (.code F133)
 |134=>some (.code F134)
 |135=>some (.code F135)
 |136=>some (.code F136)
 |137=>some (.code F137)
 |141=>some (.code F141)
 |142=>some (.code F142)
 |152=>some (.code F152)
 |153=>some (.code F153)
 |155=>some (.code F155)
 |156=>some (.code F156)
 |157=>some (.code F157)
 |159=>some (.code F159)
 |160=>some (.code F160)
 |166=>some (.code F166)
 |167=>some (.code F167)
 |169=>some (.code F169)
 |178=>some (.code F178)
 |179=>some (.code F179)
 |61=>some (.prim Pr.p61)
 |111=>some (.prim Pr.p111)
 |154=>some (.prim Pr.p154)
 |_=>none
def tabS:Nat→Sig
 |62=>⟨[0],[]⟩
 |157=>⟨[],[0]⟩
 |_=> {}
noncomputable def T:Table:=⟨tabF,tabS⟩
theorem T_8:T.fn 8=some (.code F8):=rfl
theorem T_10:T.fn 10=some (.code F10):=rfl
theorem T_11:T.fn 11=some (.code F11):=rfl
theorem T_12:T.fn 12=some (.code F12):=rfl
theorem T_15:T.fn 15=some (.code F15):=rfl
theorem T_16:T.fn 16=some (.code F16):=rfl
theorem T_18:T.fn 18=some (.code F18):=rfl
theorem T_21:T.fn 21=some (.code F21):=rfl
theorem T_23:T.fn 23=some (.code F23):=rfl
theorem T_24:T.fn 24=some (.code F24):=rfl
theorem T_27:T.fn 27=some (.code F27):=rfl
theorem T_28:T.fn 28=some (.code F28):=rfl
theorem T_29:T.fn 29=some (.code F29):=rfl
theorem T_31:T.fn 31=some (.code F31):=rfl
theorem T_33:T.fn 33=some (.code F33):=rfl
theorem T_34:T.fn 34=some (.code F34):=rfl
theorem T_35:T.fn 35=some (.code F35):=rfl
theorem T_36:T.fn 36=some (.code F36):=rfl
theorem T_37:T.fn 37=some (.code F37):=rfl
theorem T_38:T.fn 38=some (.code F38):=rfl
theorem T_39:T.fn 39=some (.code F39):=rfl
theorem T_40:T.fn 40=some (.code F40):=rfl
theorem T_42:T.fn 42=some (.code F42):=rfl
theorem T_44:T.fn 44=some (.code F44):=rfl
theorem T_45:T.fn 45=some (.code F45):=rfl
theorem T_46:T.fn 46=some (.code F46):=rfl
theorem T_47:T.fn 47=some (.code F47):=rfl
theorem T_48:T.fn 48=some (.code F48):=rfl
theorem T_49:T.fn 49=some (.code F49):=rfl
theorem T_50:T.fn 50=some (.code F50):=rfl
theorem T_51:T.fn 51=some (.code F51):=rfl
theorem T_52:T.fn 52=some (.code F52):=rfl
theorem T_53:T.fn 53=some (.code F53):=rfl
theorem T_55:T.fn 55=some (.code F55):=rfl
theorem T_56:T.fn 56=some (.code F56):=rfl
theorem T_59:T.fn 59=some (.code F59):=rfl
theorem T_60:T.fn 60=some (.code F60):=rfl
theorem T_62:T.fn 62=some (.code F62):=rfl
theorem T_63:T.fn 63=some (.code F63):=rfl
theorem T_65:T.fn 65=some (.code F65):=rfl
theorem T_68:T.fn 68=some (.code F68):=rfl
theorem T_69:T.fn 69=some (.code F69):=rfl
theorem T_72:T.fn 72=some (.code F72):=rfl
theorem T_75:T.fn 75=some (.code F75):=rfl
theorem T_76:T.fn 76=some (.code F76):=rfl
theorem T_77:T.fn 77=some (.code F77):=rfl
theorem T_78:T.fn 78=some (.code F78):=rfl
theorem T_79:T.fn 79=some (.code F79):=rfl
theorem T_80:T.fn 80=some (.code F80):=rfl
theorem T_81:T.fn 81=some (.code F81):=rfl
theorem T_82:T.fn 82=some (.code F82):=rfl
theorem T_83:T.fn 83=some (.code F83):=rfl
theorem T_84:T.fn 84=some (.code F84):=rfl
theorem T_85:T.fn 85=some (.code F85):=rfl
theorem T_86:T.fn 86=some (.code F86):=rfl
theorem T_87:T.fn 87=some (.code F87):=rfl
theorem T_88:T.fn 88=some (.code F88):=rfl
theorem T_89:T.fn 89=some (.code F89):=rfl
theorem T_90:T.fn 90=some (.code F90):=rfl
theorem T_91:T.fn 91=some (.code F91):=rfl
theorem T_92:T.fn 92=some (.code F92):=rfl
theorem T_93:T.fn 93=some (.code F93):=rfl
theorem T_94:T.fn 94=some (.code F94):=rfl
theorem T_95:T.fn 95=some (.code F95):=rfl
theorem T_97:T.fn 97=some (.code F97):=rfl
theorem T_99:T.fn 99=some (.code F99):=rfl
theorem T_101:T.fn 101=some (.code F101):=rfl
theorem T_102:T.fn 102=some (.code F102):=rfl
theorem T_108:T.fn 108=some (.code F108):=rfl
theorem T_109:T.fn 109=some (.code F109):=rfl
theorem T_113:T.fn 113=some (.code F113):=rfl
theorem T_114:T.fn 114=some (.code F114):=rfl
theorem T_115:T.fn 115=some (.code F115):=rfl
theorem T_116:T.fn 116=some (.code F116):=rfl
theorem T_117:T.fn 117=some (.code F117):=rfl
theorem T_118:T.fn 118=some (.code F118):=rfl
theorem T_121:T.fn 121=some (.code F121):=rfl
theorem T_122:T.fn 122=some (.code F122):=rfl
theorem T_123:T.fn 123=some (.code F123):=rfl
theorem T_124:T.fn 124=some (.code F124):=rfl
theorem T_125:T.fn 125=some (.code F125):=rfl
theorem T_126:T.fn 126=some (.code F126):=rfl
theorem T_127:T.fn 127=some (.code F127):=rfl
theorem T_128:T.fn 128=some (.code F128):=rfl
theorem T_129:T.fn 129=some (.code F129):=rfl
theorem T_130:T.fn 130=some (.code F130):=rfl
theorem T_131:T.fn 131=some (.code F131):=rfl
theorem T_132:T.fn 132=some (.code F132):=rfl
theorem T_133:T.fn 133=some (.code F133):=rfl
theorem T_134:T.fn 134=some (.code F134):=rfl
theorem T_135:T.fn 135=some (.code F135):=rfl
theorem T_136:T.fn 136=some (.code F136):=rfl
theorem T_137:T.fn 137=some (.code F137):=rfl
theorem T_141:T.fn 141=some (.code F141):=rfl
theorem T_142:T.fn 142=some (.code F142):=rfl
theorem T_152:T.fn 152=some (.code F152):=rfl
theorem T_153:T.fn 153=some (.code F153):=rfl
theorem T_155:T.fn 155=some (.code F155):=rfl
theorem T_156:T.fn 156=some (.code F156):=rfl
theorem T_157:T.fn 157=some (.code F157):=rfl
theorem T_159:T.fn 159=some (.code F159):=rfl
theorem T_160:T.fn 160=some (.code F160):=rfl
theorem T_166:T.fn 166=some (.code F166):=rfl
theorem T_167:T.fn 167=some (.code F167):=rfl
theorem T_169:T.fn 169=some (.code F169):=rfl
theorem T_178:T.fn 178=some (.code F178):=rfl
theorem T_179:T.fn 179=some (.code F179):=rfl
theorem T_61:T.fn 61=some (.prim Pr.p61):=rfl
theorem T_111:T.fn 111=some (.prim Pr.p111):=rfl
theorem T_154:T.fn 154=some (.prim Pr.p154):=rfl
theorem S_61:T.sg 61= {}:=rfl
theorem S_111:T.sg 111= {}:=rfl
theorem S_154:T.sg 154= {}:=rfl
theorem S_8:T.sg 8= {}:=rfl
theorem S_10:T.sg 10= {}:=rfl
theorem S_11:T.sg 11= {}:=rfl
theorem S_12:T.sg 12= {}:=rfl
theorem S_15:T.sg 15= {}:=rfl
theorem S_16:T.sg 16= {}:=rfl
theorem S_18:T.sg 18= {}:=rfl
theorem S_21:T.sg 21= {}:=rfl
theorem S_23:T.sg 23= {}:=rfl
theorem S_24:T.sg 24= {}:=rfl
theorem S_27:T.sg 27= {}:=rfl
theorem S_28:T.sg 28= {}:=rfl
theorem S_29:T.sg 29= {}:=rfl
theorem S_31:T.sg 31= {}:=rfl
theorem S_33:T.sg 33= {}:=rfl
theorem S_34:T.sg 34= {}:=rfl
theorem S_35:T.sg 35= {}:=rfl
theorem S_36:T.sg 36= {}:=rfl
theorem S_37:T.sg 37= {}:=rfl
theorem S_38:T.sg 38= {}:=rfl
theorem S_39:T.sg 39= {}:=rfl
theorem S_40:T.sg 40= {}:=rfl
theorem S_42:T.sg 42= {}:=rfl
theorem S_44:T.sg 44= {}:=rfl
theorem S_45:T.sg 45= {}:=rfl
theorem S_46:T.sg 46= {}:=rfl
theorem S_47:T.sg 47= {}:=rfl
theorem S_48:T.sg 48= {}:=rfl
theorem S_49:T.sg 49= {}:=rfl
theorem S_50:T.sg 50= {}:=rfl
theorem S_51:T.sg 51= {}:=rfl
theorem S_52:T.sg 52= {}:=rfl
theorem S_53:T.sg 53= {}:=rfl
theorem S_55:T.sg 55= {}:=rfl
theorem S_56:T.sg 56= {}:=rfl
theorem S_59:T.sg 59= {}:=rfl
theorem S_60:T.sg 60= {}:=rfl
theorem S_62:T.sg 62=⟨[0],[]⟩:=rfl
theorem S_63:T.sg 63= {}:=rfl
theorem S_65:T.sg 65= {}:=rfl
theorem S_68:T.sg 68= {}:=rfl
theorem S_69:T.sg 69= {}:=rfl
theorem S_72:T.sg 72= {}:=rfl
theorem S_75:T.sg 75= {}:=rfl
theorem S_76:T.sg 76= {}:=rfl
theorem S_77:T.sg 77= {}:=rfl
theorem S_78:T.sg 78= {}:=rfl
theorem S_79:T.sg 79= {}:=rfl
theorem S_80:T.sg 80= {}:=rfl
theorem S_81:T.sg 81= {}:=rfl
theorem S_82:T.sg 82= {}:=rfl
theorem S_83:T.sg 83= {}:=rfl
theorem S_84:T.sg 84= {}:=rfl
theorem S_85:T.sg 85= {}:=rfl
theorem S_86:T.sg 86= {}:=rfl
theorem S_87:T.sg 87= {}:=rfl
theorem S_88:T.sg 88= {}:=rfl
theorem S_89:T.sg 89= {}:=rfl
theorem S_90:T.sg 90= {}:=rfl
theorem S_91:T.sg 91= {}:=rfl
theorem S_92:T.sg 92= {}:=rfl
theorem S_93:T.sg 93= {}:=rfl
theorem S_94:T.sg 94= {}:=rfl
theorem S_95:T.sg 95= {}:=rfl
theorem S_97:T.sg 97= {}:=rfl
theorem S_99:T.sg 99= {}:=rfl
theorem S_101:T.sg 101= {}:=rfl
theorem S_102:T.sg 102= {}:=rfl
theorem S_108:T.sg 108= {}:=rfl
theorem S_109:T.sg 109= {}:=rfl
theorem S_113:T.sg 113= {}:=rfl
theorem S_114:T.sg 114= {}:=rfl
theorem S_115:T.sg 115= {}:=rfl
theorem S_116:T.sg 116= {}:=rfl
theorem S_117:T.sg 117= {}:=rfl
theorem S_118:T.sg 118= {}:=rfl
theorem S_121:T.sg 121= {}:=rfl
theorem S_122:T.sg 122= {}:=rfl
theorem S_123:T.sg 123= {}:=rfl
theorem S_124:T.sg 124= {}:=rfl
theorem S_125:T.sg 125= {}:=rfl
theorem S_126:T.sg 126= {}:=rfl
theorem S_127:T.sg 127= {}:=rfl
theorem S_128:T.sg 128= {}:=rfl
theorem S_129:T.sg 129= {}:=rfl
theorem S_130:T.sg 130= {}:=rfl
theorem S_131:T.sg 131= {}:=rfl
theorem S_132:T.sg 132= {}:=rfl
theorem S_133:T.sg 133= {}:=rfl
theorem S_134:T.sg 134= {}:=rfl
theorem S_135:T.sg 135= {}:=rfl
theorem S_136:T.sg 136= {}:=rfl
theorem S_137:T.sg 137= {}:=rfl
theorem S_141:T.sg 141= {}:=rfl
theorem S_142:T.sg 142= {}:=rfl
theorem S_152:T.sg 152= {}:=rfl
theorem S_153:T.sg 153= {}:=rfl
theorem S_155:T.sg 155= {}:=rfl
theorem S_156:T.sg 156= {}:=rfl
theorem S_157:T.sg 157=⟨[],[0]⟩:=rfl
theorem S_159:T.sg 159= {}:=rfl
theorem S_160:T.sg 160= {}:=rfl
theorem S_166:T.sg 166= {}:=rfl
theorem S_167:T.sg 167= {}:=rfl
theorem S_169:T.sg 169= {}:=rfl
theorem S_178:T.sg 178= {}:=rfl
theorem S_179:T.sg 179= {}:=rfl
theorem q11_11 (c:CSt):run T r11_11 c=run T b11_11 c:=rfl
theorem q12_12 (c:CSt):run T r12_12 c=run T b12_12 c:=rfl
theorem q16_14 (c:CSt):run T r16_14 c=run T b16_14 c:=rfl
theorem q21_11 (c:CSt):run T r21_11 c=run T b21_11 c:=rfl
theorem q23_7 (c:CSt):run T r23_7 c=run T b23_7 c:=rfl
theorem q24_15 (c:CSt):run T r24_15 c=run T b24_15 c:=rfl
theorem q24_19 (c:CSt):run T r24_19 c=run T b24_19 c:=rfl
theorem q24_21 (c:CSt):run T r24_21 c=run T b24_21 c:=rfl
theorem q27_8 (c:CSt):run T r27_8 c=run T b27_8 c:=rfl
theorem q28_17 (c:CSt):run T r28_17 c=run T b28_17 c:=rfl
theorem q31_11 (c:CSt):run T r31_11 c=run T b31_11 c:=rfl
theorem q31_22 (c:CSt):run T r31_22 c=run T b31_22 c:=rfl
theorem q31_24 (c:CSt):run T r31_24 c=run T b31_24 c:=rfl
theorem q31_26 (c:CSt):run T r31_26 c=run T b31_26 c:=rfl
theorem q34_10 (c:CSt):run T r34_10 c=run T b34_10 c:=rfl
theorem q34_14 (c:CSt):run T r34_14 c=run T b34_14 c:=rfl
theorem q36_24 (c:CSt):run T r36_24 c=run T b36_24 c:=rfl
theorem q40_10 (c:CSt):run T r40_10 c=run T b40_10 c:=rfl
theorem q44_17 (c:CSt):run T r44_17 c=run T b44_17 c:=rfl
theorem q44_25 (c:CSt):run T r44_25 c=run T b44_25 c:=rfl
theorem q45_7 (c:CSt):run T r45_7 c=run T b45_7 c:=rfl
theorem q50_17 (c:CSt):run T r50_17 c=run T b50_17 c:=rfl
theorem q50_28 (c:CSt):run T r50_28 c=run T b50_28 c:=rfl
theorem q51_7 (c:CSt):run T r51_7 c=run T b51_7 c:=rfl
theorem q60_8 (c:CSt):run T r60_8 c=run T b60_8 c:=rfl
theorem q63_6 (c:CSt):run T r63_6 c=run T b63_6 c:=rfl
theorem q65_12 (c:CSt):run T r65_12 c=run T b65_12 c:=rfl
theorem q69_8 (c:CSt):run T r69_8 c=run T b69_8 c:=rfl
theorem q69_16 (c:CSt):run T r69_16 c=run T b69_16 c:=rfl
theorem q75_16 (c:CSt):run T r75_16 c=run T b75_16 c:=rfl
theorem q75_20 (c:CSt):run T r75_20 c=run T b75_20 c:=rfl
theorem q76_7 (c:CSt):run T r76_7 c=run T b76_7 c:=rfl
theorem q79_15 (c:CSt):run T r79_15 c=run T b79_15 c:=rfl
theorem q80_15 (c:CSt):run T r80_15 c=run T b80_15 c:=rfl
theorem q80_24 (c:CSt):run T r80_24 c=run T b80_24 c:=rfl
theorem q80_29 (c:CSt):run T r80_29 c=run T b80_29 c:=rfl
theorem q80_31 (c:CSt):run T r80_31 c=run T b80_31 c:=rfl
theorem q82_8 (c:CSt):run T r82_8 c=run T b82_8 c:=rfl
theorem q85_4 (c:CSt):run T r85_4 c=run T b85_4 c:=rfl
theorem q87_11 (c:CSt):run T r87_11 c=run T b87_11 c:=rfl
theorem q90_10 (c:CSt):run T r90_10 c=run T b90_10 c:=rfl
theorem q92_10 (c:CSt):run T r92_10 c=run T b92_10 c:=rfl
theorem q94_9 (c:CSt):run T r94_9 c=run T b94_9 c:=rfl
theorem q95_9 (c:CSt):run T r95_9 c=run T b95_9 c:=rfl
theorem q101_14 (c:CSt):run T r101_14 c=run T b101_14 c:=rfl
theorem q101_22 (c:CSt):run T r101_22 c=run T b101_22 c:=rfl
theorem q109_6 (c:CSt):run T r109_6 c=run T b109_6 c:=rfl
theorem q113_4 (c:CSt):run T r113_4 c=run T b113_4 c:=rfl
theorem q113_10 (c:CSt):run T r113_10 c=run T b113_10 c:=rfl
theorem q114_8 (c:CSt):run T r114_8 c=run T b114_8 c:=rfl
theorem q114_24 (c:CSt):run T r114_24 c=run T b114_24 c:=rfl
theorem q115_7 (c:CSt):run T r115_7 c=run T b115_7 c:=rfl
theorem q116_11 (c:CSt):run T r116_11 c=run T b116_11 c:=rfl
theorem q116_21 (c:CSt):run T r116_21 c=run T b116_21 c:=rfl
theorem q116_27 (c:CSt):run T r116_27 c=run T b116_27 c:=rfl
theorem q117_8 (c:CSt):run T r117_8 c=run T b117_8 c:=rfl
theorem q121_8 (c:CSt):run T r121_8 c=run T b121_8 c:=rfl
theorem q125_8 (c:CSt):run T r125_8 c=run T b125_8 c:=rfl
theorem q127_4 (c:CSt):run T r127_4 c=run T b127_4 c:=rfl
theorem q127_10 (c:CSt):run T r127_10 c=run T b127_10 c:=rfl
theorem q130_6 (c:CSt):run T r130_6 c=run T b130_6 c:=rfl
theorem q136_12 (c:CSt):run T r136_12 c=run T b136_12 c:=rfl
theorem q136_26 (c:CSt):run T r136_26 c=run T b136_26 c:=rfl
theorem q136_29 (c:CSt):run T r136_29 c=run T b136_29 c:=rfl
theorem q137_9 (c:CSt):run T r137_9 c=run T b137_9 c:=rfl
theorem q157_12 (c:CSt):run T r157_12 c=run T b157_12 c:=rfl
theorem q159_3 (c:CSt):run T r159_3 c=run T b159_3 c:=rfl
theorem q160_3 (c:CSt):run T r160_3 c=run T b160_3 c:=rfl
theorem q167_15 (c:CSt):run T r167_15 c=run T b167_15 c:=rfl
theorem ok_8:FnOK Tryz.prog 8 F8:=Fk Tryz.func8 Tryz.ntmps8 (by kernel_rfl) (by kernel_rfl)
theorem ok_10:FnOK Tryz.prog 10 F10:=Fk Tryz.func10 Tryz.ntmps10 (by kernel_rfl) (by kernel_rfl)
theorem ok_11:FnOK Tryz.prog 11 F11:=Fk Tryz.func11 Tryz.ntmps11 (by kernel_rfl) (by kernel_rfl)
theorem ok_12:FnOK Tryz.prog 12 F12:=Fk Tryz.func12 Tryz.ntmps12 (by kernel_rfl) (by kernel_rfl)
theorem ok_15:FnOK Tryz.prog 15 F15:=Fk Tryz.func15 Tryz.ntmps15 (by kernel_rfl) (by kernel_rfl)
theorem ok_16:FnOK Tryz.prog 16 F16:=Fk Tryz.func16 Tryz.ntmps16 (by kernel_rfl) (by kernel_rfl)
theorem ok_18:FnOK Tryz.prog 18 F18:=Fk Tryz.func18 Tryz.ntmps18 (by kernel_rfl) (by kernel_rfl)
theorem ok_21:FnOK Tryz.prog 21 F21:=Fk Tryz.func21 Tryz.ntmps21 (by kernel_rfl) (by kernel_rfl)
theorem ok_23:FnOK Tryz.prog 23 F23:=Fk Tryz.func23 Tryz.ntmps23 (by kernel_rfl) (by kernel_rfl)
theorem ok_24:FnOK Tryz.prog 24 F24:=Fk Tryz.func24 Tryz.ntmps24 (by kernel_rfl) (by kernel_rfl)
theorem ok_27:FnOK Tryz.prog 27 F27:=Fk Tryz.func27 Tryz.ntmps27 (by kernel_rfl) (by kernel_rfl)
theorem ok_28:FnOK Tryz.prog 28 F28:=Fk Tryz.func28 Tryz.ntmps28 (by kernel_rfl) (by kernel_rfl)
theorem ok_29:FnOK Tryz.prog 29 F29:=Fk Tryz.func29 Tryz.ntmps29 (by kernel_rfl) (by kernel_rfl)
theorem ok_31:FnOK Tryz.prog 31 F31:=Fk Tryz.func31 Tryz.ntmps31 (by kernel_rfl) (by kernel_rfl)
theorem ok_33:FnOK Tryz.prog 33 F33:=Fk Tryz.func33 Tryz.ntmps33 (by kernel_rfl) (by kernel_rfl)
theorem ok_34:FnOK Tryz.prog 34 F34:=Fk Tryz.func34 Tryz.ntmps34 (by kernel_rfl) (by kernel_rfl)
theorem ok_35:FnOK Tryz.prog 35 F35:=Fk Tryz.func35 Tryz.ntmps35 (by kernel_rfl) (by kernel_rfl)
theorem ok_36:FnOK Tryz.prog 36 F36:=Fk Tryz.func36 Tryz.ntmps36 (by kernel_rfl) (by kernel_rfl)
theorem ok_37:FnOK Tryz.prog 37 F37:=Fk Tryz.func37 Tryz.ntmps37 (by kernel_rfl) (by kernel_rfl)
theorem ok_38:FnOK Tryz.prog 38 F38:=Fk Tryz.func38 Tryz.ntmps38 (by kernel_rfl) (by kernel_rfl)
theorem ok_39:FnOK Tryz.prog 39 F39:=Fk Tryz.func39 Tryz.ntmps39 (by kernel_rfl) (by kernel_rfl)
theorem ok_40:FnOK Tryz.prog 40 F40:=Fk Tryz.func40 Tryz.ntmps40 (by kernel_rfl) (by kernel_rfl)
theorem ok_42:FnOK Tryz.prog 42 F42:=Fk Tryz.func42 Tryz.ntmps42 (by kernel_rfl) (by kernel_rfl)
theorem ok_44:FnOK Tryz.prog 44 F44:=Fk Tryz.func44 Tryz.ntmps44 (by kernel_rfl) (by kernel_rfl)
theorem ok_45:FnOK Tryz.prog 45 F45:=Fk Tryz.func45 Tryz.ntmps45 (by kernel_rfl) (by kernel_rfl)
theorem ok_46:FnOK Tryz.prog 46 F46:=Fk Tryz.func46 Tryz.ntmps46 (by kernel_rfl) (by kernel_rfl)
theorem ok_47:FnOK Tryz.prog 47 F47:=Fk Tryz.func47 Tryz.ntmps47 (by kernel_rfl) (by kernel_rfl)
theorem ok_48:FnOK Tryz.prog 48 F48:=Fk Tryz.func48 Tryz.ntmps48 (by kernel_rfl) (by kernel_rfl)
theorem ok_49:FnOK Tryz.prog 49 F49:=Fk Tryz.func49 Tryz.ntmps49 (by kernel_rfl) (by kernel_rfl)
theorem ok_50:FnOK Tryz.prog 50 F50:=Fk Tryz.func50 Tryz.ntmps50 (by kernel_rfl) (by kernel_rfl)
theorem ok_51:FnOK Tryz.prog 51 F51:=Fk Tryz.func51 Tryz.ntmps51 (by kernel_rfl) (by kernel_rfl)
theorem ok_52:FnOK Tryz.prog 52 F52:=Fk Tryz.func52 Tryz.ntmps52 (by kernel_rfl) (by kernel_rfl)
theorem ok_53:FnOK Tryz.prog 53 F53:=Fk Tryz.func53 Tryz.ntmps53 (by kernel_rfl) (by kernel_rfl)
theorem ok_55:FnOK Tryz.prog 55 F55:=Fk Tryz.func55 Tryz.ntmps55 (by kernel_rfl) (by kernel_rfl)
theorem ok_56:FnOK Tryz.prog 56 F56:=Fk Tryz.func56 Tryz.ntmps56 (by kernel_rfl) (by kernel_rfl)
theorem ok_59:FnOK Tryz.prog 59 F59:=Fk Tryz.func59 Tryz.ntmps59 (by kernel_rfl) (by kernel_rfl)
theorem ok_60:FnOK Tryz.prog 60 F60:=Fk Tryz.func60 Tryz.ntmps60 (by kernel_rfl) (by kernel_rfl)
theorem ok_62:FnOK Tryz.prog 62 F62:=Fk Tryz.func62 Tryz.ntmps62 (by kernel_rfl) (by kernel_rfl)
theorem ok_63:FnOK Tryz.prog 63 F63:=Fk Tryz.func63 Tryz.ntmps63 (by kernel_rfl) (by kernel_rfl)
theorem ok_65:FnOK Tryz.prog 65 F65:=Fk Tryz.func65 Tryz.ntmps65 (by kernel_rfl) (by kernel_rfl)
theorem ok_68:FnOK Tryz.prog 68 F68:=Fk Tryz.func68 Tryz.ntmps68 (by kernel_rfl) (by kernel_rfl)
theorem ok_69:FnOK Tryz.prog 69 F69:=Fk Tryz.func69 Tryz.ntmps69 (by kernel_rfl) (by kernel_rfl)
theorem ok_72:FnOK Tryz.prog 72 F72:=Fk Tryz.func72 Tryz.ntmps72 (by kernel_rfl) (by kernel_rfl)
theorem ok_75:FnOK Tryz.prog 75 F75:=Fk Tryz.func75 Tryz.ntmps75 (by kernel_rfl) (by kernel_rfl)
theorem ok_76:FnOK Tryz.prog 76 F76:=Fk Tryz.func76 Tryz.ntmps76 (by kernel_rfl) (by kernel_rfl)
theorem ok_77:FnOK Tryz.prog 77 F77:=Fk Tryz.func77 Tryz.ntmps77 (by kernel_rfl) (by kernel_rfl)
theorem ok_78:FnOK Tryz.prog 78 F78:=Fk Tryz.func78 Tryz.ntmps78 (by kernel_rfl) (by kernel_rfl)
theorem ok_79:FnOK Tryz.prog 79 F79:=Fk Tryz.func79 Tryz.ntmps79 (by kernel_rfl) (by kernel_rfl)
theorem ok_80:FnOK Tryz.prog 80 F80:=Fk Tryz.func80 Tryz.ntmps80 (by kernel_rfl) (by kernel_rfl)
theorem ok_81:FnOK Tryz.prog 81 F81:=Fk Tryz.func81 Tryz.ntmps81 (by kernel_rfl) (by kernel_rfl)
theorem ok_82:FnOK Tryz.prog 82 F82:=Fk Tryz.func82 Tryz.ntmps82 (by kernel_rfl) (by kernel_rfl)
theorem ok_83:FnOK Tryz.prog 83 F83:=Fk Tryz.func83 Tryz.ntmps83 (by kernel_rfl) (by kernel_rfl)
theorem ok_84:FnOK Tryz.prog 84 F84:=Fk Tryz.func84 Tryz.ntmps84 (by kernel_rfl) (by kernel_rfl)
theorem ok_85:FnOK Tryz.prog 85 F85:=Fk Tryz.func85 Tryz.ntmps85 (by kernel_rfl) (by kernel_rfl)
theorem ok_86:FnOK Tryz.prog 86 F86:=Fk Tryz.func86 Tryz.ntmps86 (by kernel_rfl) (by kernel_rfl)
theorem ok_87:FnOK Tryz.prog 87 F87:=Fk Tryz.func87 Tryz.ntmps87 (by kernel_rfl) (by kernel_rfl)
theorem ok_88:FnOK Tryz.prog 88 F88:=Fk Tryz.func88 Tryz.ntmps88 (by kernel_rfl) (by kernel_rfl)
theorem ok_89:FnOK Tryz.prog 89 F89:=Fk Tryz.func89 Tryz.ntmps89 (by kernel_rfl) (by kernel_rfl)
theorem ok_90:FnOK Tryz.prog 90 F90:=Fk Tryz.func90 Tryz.ntmps90 (by kernel_rfl) (by kernel_rfl)
theorem ok_91:FnOK Tryz.prog 91 F91:=Fk Tryz.func91 Tryz.ntmps91 (by kernel_rfl) (by kernel_rfl)
theorem ok_92:FnOK Tryz.prog 92 F92:=Fk Tryz.func92 Tryz.ntmps92 (by kernel_rfl) (by kernel_rfl)
theorem ok_93:FnOK Tryz.prog 93 F93:=Fk Tryz.func93 Tryz.ntmps93 (by kernel_rfl) (by kernel_rfl)
theorem ok_94:FnOK Tryz.prog 94 F94:=Fk Tryz.func94 Tryz.ntmps94 (by kernel_rfl) (by kernel_rfl)
theorem ok_95:FnOK Tryz.prog 95 F95:=Fk Tryz.func95 Tryz.ntmps95 (by kernel_rfl) (by kernel_rfl)
theorem ok_97:FnOK Tryz.prog 97 F97:=Fk Tryz.func97 Tryz.ntmps97 (by kernel_rfl) (by kernel_rfl)
theorem ok_99:FnOK Tryz.prog 99 F99:=Fk Tryz.func99 Tryz.ntmps99 (by kernel_rfl) (by kernel_rfl)
theorem ok_101:FnOK Tryz.prog 101 F101:=Fk Tryz.func101 Tryz.ntmps101 (by kernel_rfl) (by kernel_rfl)
theorem ok_102:FnOK Tryz.prog 102 F102:=Fk Tryz.func102 Tryz.ntmps102 (by kernel_rfl) (by kernel_rfl)
theorem ok_108:FnOK Tryz.prog 108 F108:=Fk Tryz.func108 Tryz.ntmps108 (by kernel_rfl) (by kernel_rfl)
theorem ok_109:FnOK Tryz.prog 109 F109:=Fk Tryz.func109 Tryz.ntmps109 (by kernel_rfl) (by kernel_rfl)
theorem ok_113:FnOK Tryz.prog 113 F113:=Fk Tryz.func113 Tryz.ntmps113 (by kernel_rfl) (by kernel_rfl)
theorem ok_114:FnOK Tryz.prog 114 F114:=Fk Tryz.func114 Tryz.ntmps114 (by kernel_rfl) (by kernel_rfl)
theorem ok_115:FnOK Tryz.prog 115 F115:=Fk Tryz.func115 Tryz.ntmps115 (by kernel_rfl) (by kernel_rfl)
theorem ok_116:FnOK Tryz.prog 116 F116:=Fk Tryz.func116 Tryz.ntmps116 (by kernel_rfl) (by kernel_rfl)
theorem ok_117:FnOK Tryz.prog 117 F117:=Fk Tryz.func117 Tryz.ntmps117 (by kernel_rfl) (by kernel_rfl)
theorem ok_118:FnOK Tryz.prog 118 F118:=Fk Tryz.func118 Tryz.ntmps118 (by kernel_rfl) (by kernel_rfl)
theorem ok_121:FnOK Tryz.prog 121 F121:=Fk Tryz.func121 Tryz.ntmps121 (by kernel_rfl) (by kernel_rfl)
theorem ok_122:FnOK Tryz.prog 122 F122:=Fk Tryz.func122 Tryz.ntmps122 (by kernel_rfl) (by kernel_rfl)
theorem ok_123:FnOK Tryz.prog 123 F123:=Fk Tryz.func123 Tryz.ntmps123 (by kernel_rfl) (by kernel_rfl)
theorem ok_124:FnOK Tryz.prog 124 F124:=Fk Tryz.func124 Tryz.ntmps124 (by kernel_rfl) (by kernel_rfl)
theorem ok_125:FnOK Tryz.prog 125 F125:=Fk Tryz.func125 Tryz.ntmps125 (by kernel_rfl) (by kernel_rfl)
theorem ok_126:FnOK Tryz.prog 126 F126:=Fk Tryz.func126 Tryz.ntmps126 (by kernel_rfl) (by kernel_rfl)
theorem ok_127:FnOK Tryz.prog 127 F127:=Fk Tryz.func127 Tryz.ntmps127 (by kernel_rfl) (by kernel_rfl)
theorem ok_128:FnOK Tryz.prog 128 F128:=Fk Tryz.func128 Tryz.ntmps128 (by kernel_rfl) (by kernel_rfl)
theorem ok_129:FnOK Tryz.prog 129 F129:=Fk Tryz.func129 Tryz.ntmps129 (by kernel_rfl) (by kernel_rfl)
theorem ok_130:FnOK Tryz.prog 130 F130:=Fk Tryz.func130 Tryz.ntmps130 (by kernel_rfl) (by kernel_rfl)
theorem ok_131:FnOK Tryz.prog 131 F131:=Fk Tryz.func131 Tryz.ntmps131 (by kernel_rfl) (by kernel_rfl)
theorem ok_132:FnOK Tryz.prog 132 F132:=Fk Tryz.func132 Tryz.ntmps132 (by kernel_rfl) (by kernel_rfl)
theorem ok_133:FnOK Tryz.prog 133 F133:=Fk Tryz.func133 Tryz.ntmps133 (by kernel_rfl) (by kernel_rfl)
theorem ok_134:FnOK Tryz.prog 134 F134:=Fk Tryz.func134 Tryz.ntmps134 (by kernel_rfl) (by kernel_rfl)
theorem ok_135:FnOK Tryz.prog 135 F135:=Fk Tryz.func135 Tryz.ntmps135 (by kernel_rfl) (by kernel_rfl)
theorem ok_136:FnOK Tryz.prog 136 F136:=Fk Tryz.func136 Tryz.ntmps136 (by kernel_rfl) (by kernel_rfl)
theorem ok_137:FnOK Tryz.prog 137 F137:=Fk Tryz.func137 Tryz.ntmps137 (by kernel_rfl) (by kernel_rfl)
theorem ok_141:FnOK Tryz.prog 141 F141:=Fk Tryz.func141 Tryz.ntmps141 (by kernel_rfl) (by kernel_rfl)
theorem ok_142:FnOK Tryz.prog 142 F142:=Fk Tryz.func142 Tryz.ntmps142 (by kernel_rfl) (by kernel_rfl)
theorem ok_152:FnOK Tryz.prog 152 F152:=Fk Tryz.func152 Tryz.ntmps152 (by kernel_rfl) (by kernel_rfl)
theorem ok_153:FnOK Tryz.prog 153 F153:=Fk Tryz.func153 Tryz.ntmps153 (by kernel_rfl) (by kernel_rfl)
theorem ok_155:FnOK Tryz.prog 155 F155:=Fk Tryz.func155 Tryz.ntmps155 (by kernel_rfl) (by kernel_rfl)
theorem ok_156:FnOK Tryz.prog 156 F156:=Fk Tryz.func156 Tryz.ntmps156 (by kernel_rfl) (by kernel_rfl)
theorem ok_157:FnOK Tryz.prog 157 F157:=Fk Tryz.func157 Tryz.ntmps157 (by kernel_rfl) (by kernel_rfl)
theorem ok_159:FnOK Tryz.prog 159 F159:=Fk Tryz.func159 Tryz.ntmps159 (by kernel_rfl) (by kernel_rfl)
theorem ok_160:FnOK Tryz.prog 160 F160:=Fk Tryz.func160 Tryz.ntmps160 (by kernel_rfl) (by kernel_rfl)
theorem ok_166:FnOK Tryz.prog 166 F166:=Fk Tryz.func166 Tryz.ntmps166 (by kernel_rfl) (by kernel_rfl)
theorem ok_167:FnOK Tryz.prog 167 F167:=Fk Tryz.func167 Tryz.ntmps167 (by kernel_rfl) (by kernel_rfl)
theorem ok_169:FnOK Tryz.prog 169 F169:=Fk Tryz.func169 Tryz.ntmps169 (by kernel_rfl) (by kernel_rfl)
theorem ok_178:FnOK Tryz.prog 178 F178:=Fk Tryz.func178 Tryz.ntmps178 (by kernel_rfl) (by kernel_rfl)
theorem ok_179:FnOK Tryz.prog 179 F179:=Fk Tryz.func179 Tryz.ntmps179 (by kernel_rfl) (by kernel_rfl)
theorem tab_ok:TabOK Tryz.prog T:=by
 intro g b h;simp only [T]at h;unfold tabF at h;split at h
 ·cases h;exact ok_8
 ·cases h;exact ok_10
 ·cases h;exact ok_11
 ·cases h;exact ok_12
 ·cases h;exact ok_15
 ·cases h;exact ok_16
 ·cases h;exact ok_18
 ·cases h;exact ok_21
 ·cases h;exact ok_23
 ·cases h;exact ok_24
 ·cases h;exact ok_27
 ·cases h;exact ok_28
 ·cases h;exact ok_29
 ·cases h;exact ok_31
 ·cases h;exact ok_33
 ·cases h;exact ok_34
 ·cases h;exact ok_35
 ·cases h;exact ok_36
 ·cases h;exact ok_37
 ·cases h;exact ok_38
 ·cases h;exact ok_39
 ·cases h;exact ok_40
 ·cases h;exact ok_42
 ·cases h;exact ok_44
 ·cases h;exact ok_45
 ·cases h;exact ok_46
 ·cases h;exact ok_47
 ·cases h;exact ok_48
 ·cases h;exact ok_49
 ·cases h;exact ok_50
 ·cases h;exact ok_51
 ·cases h;exact ok_52
 ·cases h;exact ok_53
 ·cases h;exact ok_55
 ·cases h;exact ok_56
 ·cases h;exact ok_59
 ·cases h;exact ok_60
 ·cases h;exact ok_62
 ·cases h;exact ok_63
 ·cases h;exact ok_65
 ·cases h;exact ok_68
 ·cases h;exact ok_69
 ·cases h;exact ok_72
 ·cases h;exact ok_75
 ·cases h;exact ok_76
 ·cases h;exact ok_77
 ·cases h;exact ok_78
 ·cases h;exact ok_79
 ·cases h;exact ok_80
 ·cases h;exact ok_81
 ·cases h;exact ok_82
 ·cases h;exact ok_83
 ·cases h;exact ok_84
 ·cases h;exact ok_85
 ·cases h;exact ok_86
 ·cases h;exact ok_87
 ·cases h;exact ok_88
 ·cases h;exact ok_89
 ·cases h;exact ok_90
 ·cases h;exact ok_91
 ·cases h;exact ok_92
 ·cases h;exact ok_93
 ·cases h;exact ok_94
 ·cases h;exact ok_95
 ·cases h;exact ok_97
 ·cases h;exact ok_99
 ·cases h;exact ok_101
 ·cases h;exact ok_102
 ·cases h;exact ok_108
 ·cases h;exact ok_109
 ·cases h;exact ok_113
 ·cases h;exact ok_114
 ·cases h;exact ok_115
 ·cases h;exact ok_116
 ·cases h;exact ok_117
 ·cases h;exact ok_118
 ·cases h;exact ok_121
 ·cases h;exact ok_122
 ·cases h;exact ok_123
 ·cases h;exact ok_124
 ·cases h;exact ok_125
 ·cases h;exact ok_126
 ·cases h;exact ok_127
 ·cases h;exact ok_128
 ·cases h;exact ok_129
 ·cases h;exact ok_130
 ·cases h;exact ok_131
 ·cases h;exact ok_132
 ·cases h;exact ok_133
 ·cases h;exact ok_134
 ·cases h;exact ok_135
 ·cases h;exact ok_136
 ·cases h;exact ok_137
 ·cases h;exact ok_141
 ·cases h;exact ok_142
 ·cases h;exact ok_152
 ·cases h;exact ok_153
 ·cases h;exact ok_155
 ·cases h;exact ok_156
 ·cases h;exact ok_157
 ·cases h;exact ok_159
 ·cases h;exact ok_160
 ·cases h;exact ok_166
 ·cases h;exact ok_167
 ·cases h;exact ok_169
 ·cases h;exact ok_178
 ·cases h;exact ok_179
 ·cases h;exact Pr.p61_ok
 ·cases h;exact Pr.p111_ok
 ·cases h;exact Pr.p154_ok
 ·cases h
attribute [go_sem] run_fla alt_1 alt_2 ag_s ordF pickF tokP pubtC chunk List.all_replicate ops_own ops_tks tks_s2b tks1_s own_s2b own_app own_lit own_litB own5 own1 own2 own3 own4 Option.some.injEq qg_n stG_n grp_n o_newB o_slid newBC_some slidC_psl slid2_bar o_isni d_isni w_isni isniC slId_nili List.mem_cons List.not_mem_nil List.map_append List.append_assoc d_mov d_build d_lit d_litB d_load d_nchk d_bin d_beq d_eqS d_un d_toInt d_toStr d_s2b d_b2s d_mkfn d_slcS d_slcL d_slcA d_faddr d_fld d_iaddrL d_iaddrA d_idxA d_idxS d_ext d_len d_lenC d_cap d_mini d_maxi d_pick d_new d_box d_store apE d_app d_mk d_mkB d_call rd_nil rd_none rd_some gdD_b nd_some nd_none app_val app_new app_wr foot_val foot_new foot_tok foot_wr SOp.blind cpS_some mkS_some mkBS_some valE_some valE_none Foot.quiet noFoot SV.names SObj.names namesO Tok.ids SOp.args storeC List.length_map List.length_append List.length_replicate Int.natCast_nonneg Int.ofNat_lt Int.ofNat_le Int.ofNat_inj run_skip run_ret run_exit run_ops run_drw run_flt w_mov w_build w_lit w_litB w_load w_nchk w_bin w_beq w_eqS w_un w_toInt w_toStr w_s2b w_b2s w_mkfn w_slcS w_slcL w_slcA w_faddr w_fld w_iaddrL w_iaddrA w_idxA w_idxS w_ext w_len w_lenC w_cap w_mini w_maxi w_pick qv_n qv_s qg_b s_some stG_b fl_nil fl_q fl_n fq_s fn_s fg_s gdP_pos fk_nil fk_cons run_seq run_cond run_block run_pre run_post gd_pos putS_some putS_none put_some put_none get_mk look_mk ev_t ev_c ev_f kill_nil kill_cons o_mov o_build o_lit o_litB o_load o_nchk o_bin o_beq o_eqS o_un o_toInt o_toStr o_s2b o_b2s o_mkfn o_slcS o_slcL o_slcA o_faddr o_fld o_iaddrL o_iaddrA o_idxA o_idxS o_ext o_len o_lenC o_cap o_mini o_maxi o_pick o_isnil o_new o_box o_mk o_mkB o_store o_app o_cpy o_call addN_eq addS_some mkE mkBE stC stS_some apS apB apL appT_eq cpC cp2 cpB cpL s_none p_cons ops_nil ops_op ops_grp ops_dir nx_some nx_none pl_nil np_some np_none un_nil un_cons grp_b nx_ite ite_mk ite_tm ite_nil ite_same ite_sint ite_sbool ite_su8 iteV_bool iteV_int iteV_u8 iteV_true iteV_false nrm_some nrm_none nrm_ite sq_n sq_x sq_r sq_none sq_ite cnd_b blk_n blk_r blk_x blk_none blk_ite lp_n lp_x lp_r lp_none lp_ite prD_some psD_n psD_x psD_r psD_none psD_ite dirs_nil dirs_cons dirN_some fin_n fin_r fin_ite nchkC beqC eqsC toStrC s2bC b2sC slcSC2 slcSC slcAC faddrC fldC iaddrLC iaddrAC2 iaddrAC idxAC idxSC extC lenC capC miniC maxiC buildC litC litBC pickC isnilC getT putT delT getO putO delO putK purgeT evL CSt.purge ibinC u8binC sbinC isShift binC loadC optC slcC bytesC rowsC psC Tok.readyC SObj.wf SV.bare SV.bareL tokV tokL tokC tokOb tokObs somes reach looks ixOf obsIds nodupB subB renObL putsO putsK dropK renKs afterC slIds slId_int slId_bool slId_u8 slId_str slId_byt slId_lst slId_nilp slId_undef slId_pp slId_ptr slId_ap slId_agg slAgg_nil slAgg_cons slId1_int slId1_bool slId1_u8 slId1_str slId1_byt slId1_lst slId1_nilp slId1_nili slId1_undef slId1_pp slId1_ptr slId1_ap slId1_agg slId1_tup slId1_fn slId1_psl slId_tup slId_fn slId_psl callV callC_eq callK_t callK_f fastC_s fast2_t fast2_f fast3_t bare_mk small_mk slowC_p slow0_p slow1_s slow2_p slow3_t slow4_s slow5_t fin0_s finP_p fin1_t fin1_f fin2_p fin3_s fin4_p fin5_t oneSV_0 oneSV_1 oneSV_2 callE_s callE2_t callEK_t callEK_f callOW_t callO_c callO1_s callO2_t callO3_s callO4_t callEV_f iteV_dl iteV_dr iteV_tl iteV_tr iteV_nl iteV_nr bif_and bif_or pubAll CSt.publish pubO pubT obPub SV.pub SV.pubL pubSl gcC dirC tokD resC upto zipIx newIx tks initT iniC initC mkLoad cmpSV unSV toIntSV lenSV SV.num slcTok fillSV toB rows eqCell eqCells setRow setCells Tok.eat SV.one SV.data SV.isData SV.cells SV.isDef SV.purge SV.purgeL SObj.purge purgeO dropT Tok.purge SV.ren SV.renL SObj.ren Tok.ren SV.ids SV.idsL SV.toks SV.toksL SObj.ids SObj.toks renO renT inR renOs dropOs id_eq List.length_cons List.length_nil List.cons_append List.nil_append List.append_nil Nat.zero_add Nat.add_zero beq_self_eq_true List.getD_cons_zero List.getD_cons_succ List.getD_nil List.take_succ_cons List.take_zero List.take_nil List.drop_zero List.drop_succ_cons List.drop_nil List.map_cons List.map_nil List.flatten_cons List.flatten_nil List.contains_nil List.contains_cons List.isEmpty_nil List.isEmpty_cons List.all_cons List.all_nil List.set_cons_zero List.set_cons_succ Option.getD_some Option.getD_none Option.map_some Option.map_none Option.toList_some Option.toList_none Option.bind_some Option.isNone_none Option.isNone_some Option.isSome_none Option.isSome_some Bool.or_false Bool.true_or Bool.or_true Bool.false_or Bool.and_self Bool.and_true Bool.true_and Bool.and_false Bool.false_and Bool.not_true Bool.not_false Bool.false_eq_true Bool.true_eq_false Bool.not_eq_true Bool.not_eq_false decide_eq_true_eq decide_eq_false_iff_not and_true true_and and_self or_false false_or or_true true_or not_true_eq_false not_false_eq_true ne_eq Int.toNat_natCast true_implies false_implies implies_true decide_true decide_false Nat.lt_irrefl Nat.not_lt_zero Nat.le_refl Nat.zero_le eq_self and_false false_and
attribute [go_sem] Fm Fs Fz Fi Ld Fa Ln Ia Mv Bb Bc Ca Pf Pt So Kk Kc Zq0 Zq1 Zq2 Zq3 xm xs xi ci om omk on oo r8_0 r8_1 r8_2 r8_3 r8_4 r8_5 r8_6 F8 r8 r10_0 r10_1 r10_2 r10_3 r10_4 r10_5 r10_6 F10 r10 r11_0 r11_1 r11_2 r11_3 r11_4 r11_5 r11_6 r11_7 r11_8 r11_9 r11_10 r11_12 b11_11 F11 q11_11 r11 r12_0 r12_1 r12_2 r12_3 r12_4 r12_5 r12_6 r12_7 r12_8 r12_9 r12_10 r12_11 r12_13 r12_14 r12_15 b12_12 F12 q12_12 r12 r15_0 r15_1 r15_2 r15_3 r15_4 r15_5 r15_6 r15_7 r15_8 r15_9 r15_10 r15_11 r15_12 F15 r15 r16_0 r16_1 r16_2 r16_3 r16_4 r16_5 r16_6 r16_7 r16_8 r16_9 r16_10 r16_11 r16_12 r16_13 r16_15 b16_14 F16 q16_14 r16 r18_0 r18_1 r18_2 r18_3 r18_4 r18_5 r18_6 F18 r18 r21_0 r21_1 r21_2 r21_3 r21_4 r21_5 r21_6 r21_7 r21_8 r21_9 r21_10 r21_12 b21_11 F21 q21_11 r21 r23_0 r23_1 r23_2 r23_3 r23_4 r23_5 r23_6 r23_8 b23_7 F23 q23_7 r23 r24_0 r24_1 r24_2 r24_3 r24_4 r24_5 r24_6 r24_7 r24_8 r24_9 r24_10 r24_11 r24_12 r24_13 r24_14 r24_16 r24_17 r24_18 r24_20 r24_22 b24_15 b24_19 b24_21 F24 q24_15 q24_19 q24_21 r24 r27_0 r27_1 r27_2 r27_3 r27_4 r27_5 r27_6 r27_7 r27_9 b27_8 F27 q27_8 r27 r28_0 r28_1 r28_2 r28_3 r28_4 r28_5 r28_6 r28_7 r28_8 r28_9 r28_10 r28_11 r28_12 r28_13 r28_14 r28_15 r28_16 r28_18 b28_17 F28 q28_17 r28 r29_0 r29_1 F29 r29 r31_0 r31_1 r31_2 r31_3 r31_4 r31_5 r31_6 r31_7 r31_8 r31_9 r31_10 r31_12 r31_13 r31_14 r31_15 r31_16 r31_17 r31_18 r31_19 r31_20 r31_21 r31_23 r31_25 r31_27 b31_11 b31_22 b31_24 b31_26 F31 q31_11 q31_22 q31_24 q31_26 r31 r33_0 r33_1 r33_2 r33_3 r33_4 r33_5 r33_6 F33 r33 r34_0 r34_1 r34_2 r34_3 r34_4 r34_5 r34_6 r34_7 r34_8 r34_9 r34_11 r34_12 r34_13 r34_15 b34_10 b34_14 F34 q34_10 q34_14 r34 r35_0 r35_1 r35_2 r35_3 F35 r35 r36_0 r36_1 r36_2 r36_3 r36_4 r36_5 r36_6 r36_7 r36_8 r36_9 r36_10 r36_11 r36_12 r36_13 r36_14 r36_15 r36_16 r36_17 r36_18 r36_19 r36_20 r36_21 r36_22 r36_23 r36_25 b36_24 F36 q36_24 r36 r37_0 r37_1 r37_2 r37_3 r37_4 F37 r37 r38_0 r38_1 r38_2 r38_3 r38_4 r38_5 r38_6 r38_7 r38_8 r38_9 r38_10 r38_11 r38_12 F38 r38 r39_0 r39_1 r39_2 r39_3 r39_4 r39_5 r39_6 r39_7 r39_8 r39_9 r39_10 r39_11 r39_12 r39_13 F39 r39 r40_0 r40_1 r40_2 r40_3 r40_4 r40_5 r40_6 r40_7 r40_8 r40_9 r40_11 b40_10 F40 q40_10 r40 r42_0 r42_1 r42_2 r42_3 r42_4 r42_5 r42_6 r42_7 r42_8 r42_9 r42_10 r42_11 r42_12 r42_13 F42 r42 r44_0 r44_1 r44_2 r44_3 r44_4 r44_5 r44_6 r44_7 r44_8 r44_9 r44_10 r44_11 r44_12 r44_13 r44_14 r44_15 r44_16 r44_18 r44_19 r44_20 r44_21 r44_22 r44_23 r44_24 r44_26 b44_17 b44_25 F44 q44_17 q44_25 r44 r45_0 r45_1 r45_2 r45_3 r45_4 r45_5 r45_6 r45_8 b45_7 F45 q45_7 r45 r46_0 r46_1 F46 r46 r47_0 r47_1 r47_2 r47_3 F47 r47 r48_0 r48_1 F48 r48 r49_0 r49_1 F49 r49 r50_0 r50_1 r50_2 r50_3 r50_4 r50_5 r50_6 r50_7 r50_8 r50_9 r50_10 r50_11 r50_12 r50_13 r50_14 r50_15 r50_16 r50_18 r50_19 r50_20 r50_21 r50_22 r50_23 r50_24 r50_25 r50_26 r50_27 r50_29 b50_17 b50_28 F50 q50_17 q50_28 r50 r51_0 r51_1 r51_2 r51_3 r51_4 r51_5 r51_6 r51_8 b51_7 F51 q51_7 r51 r52_0 r52_1 F52 r52 r53_0 r53_1 r53_2 r53_3 r53_4 r53_5 r53_6 r53_7 r53_8 r53_9 r53_10 r53_11 r53_12 F53 r53 r55_0 r55_1 r55_2 r55_3 r55_4 r55_5 r55_6 r55_7 r55_8 r55_9 r55_10 F55 r55 r56_0 r56_1 F56 r56 r59_0 r59_1 r59_2 r59_3 r59_4 F59 r59 r60_0 r60_1 r60_2 r60_3 r60_4 r60_5 r60_6 r60_7 r60_9 b60_8 F60 q60_8 r60 r62_0 r62_1 r62_2 r62_3 r62_4 r62_5 r62_6 r62_7 r62_8 r62_9 r62_10 r62_11 r62_12 r62_13 r62_14 r62_15 r62_16 r62_17 r62_18 r62_19 r62_20 F62 r62 r63_0 r63_1 r63_2 r63_3 r63_4 r63_5 r63_7 b63_6 F63 q63_6 r63 r65_0 r65_1 r65_2 r65_3 r65_4 r65_5 r65_6 r65_7 r65_8 r65_9 r65_10 r65_11 r65_13 b65_12 F65 q65_12 r65 r68_0 r68_1 r68_2 r68_3 r68_4 r68_5 r68_6 r68_7 r68_8 r68_9 F68 r68 r69_0 r69_1 r69_2 r69_3 r69_4 r69_5 r69_6 r69_7 r69_9 r69_10 r69_11 r69_12 r69_13 r69_14 r69_15 r69_17 r69_18 b69_8 b69_16 F69 q69_8 q69_16 r69 r72_0 r72_1 F72 r72 r75_0 r75_1 r75_2 r75_3 r75_4 r75_5 r75_6 r75_7 r75_8 r75_9 r75_10 r75_11 r75_12 r75_13 r75_14 r75_15 r75_17 r75_18 r75_19 r75_21 r75_22 r75_23 b75_16 b75_20 F75 q75_16 q75_20 r75 r76_0 r76_1 r76_2 r76_3 r76_4 r76_5 r76_6 r76_8 b76_7 F76 q76_7 r76 r77_0 r77_1 F77 r77 r78_0 r78_1 r78_2 r78_3 F78 r78 r79_0 r79_1 r79_2 r79_3 r79_4 r79_5 r79_6 r79_7 r79_8 r79_9 r79_10 r79_11 r79_12 r79_13 r79_14 r79_16 r79_17 r79_18 b79_15 F79 q79_15 r79 r80_0 r80_1 r80_2 r80_3 r80_4 r80_5 r80_6 r80_7 r80_8 r80_9 r80_10 r80_11 r80_12 r80_13 r80_14 r80_16 r80_17 r80_18 r80_19 r80_20 r80_21 r80_22 r80_23 r80_25 r80_26 r80_27 r80_28 r80_30 r80_32 b80_15 b80_24 b80_29 b80_31 F80 q80_15 q80_24 q80_29 q80_31 r80 r81_0 r81_1 r81_2 r81_3 r81_4 r81_5 r81_6 r81_7 r81_8 r81_9 F81 r81 r82_0 r82_1 r82_2 r82_3 r82_4 r82_5 r82_6 r82_7 r82_9 b82_8 F82 q82_8 r82 r83_0 r83_1 r83_2 r83_3 F83 r83 r84_0 r84_1 r84_2 r84_3 r84_4 r84_5 r84_6 r84_7 F84 r84 r85_0 r85_1 r85_2 r85_3 r85_5 b85_4 F85 q85_4 r85 r86_0 r86_1 r86_2 F86 r86 r87_0 r87_1 r87_2 r87_3 r87_4 r87_5 r87_6 r87_7 r87_8 r87_9 r87_10 r87_12 b87_11 F87 q87_11 r87 r88_0 r88_1 r88_2 r88_3 r88_4 r88_5 r88_6 r88_7 r88_8 r88_9 r88_10 r88_11 F88 r88 r89_0 r89_1 F89 r89 r90_0 r90_1 r90_2 r90_3 r90_4 r90_5 r90_6 r90_7 r90_8 r90_9 r90_11 r90_12 r90_13 r90_14 r90_15 r90_16 r90_17 r90_18 r90_19 b90_10 F90 q90_10 r90 r91_0 r91_1 F91 r91 r92_0 r92_1 r92_2 r92_3 r92_4 r92_5 r92_6 r92_7 r92_8 r92_9 r92_11 b92_10 F92 q92_10 r92 r93_0 r93_1 F93 r93 r94_0 r94_1 r94_2 r94_3 r94_4 r94_5 r94_6 r94_7 r94_8 r94_10 r94_11 b94_9 F94 q94_9 r94 r95_0 r95_1 r95_2 r95_3 r95_4 r95_5 r95_6 r95_7 r95_8 r95_10 b95_9 F95 q95_9 r95 r97_0 r97_1 r97_2 r97_3 F97 r97 r99_0 r99_1 r99_2 r99_3 r99_4 r99_5 r99_6 F99 r99 r101_0 r101_1 r101_2 r101_3 r101_4 r101_5 r101_6 r101_7 r101_8 r101_9 r101_10 r101_11 r101_12 r101_13 r101_15 r101_16 r101_17 r101_18 r101_19 r101_20 r101_21 r101_23 b101_14 b101_22 F101 q101_14 q101_22 r101 r102_0 r102_1 F102 r102 r108_0 r108_1 F108 r108 r109_0 r109_1 r109_2 r109_3 r109_4 r109_5 r109_7 b109_6 F109 q109_6 r109 r113_0 r113_1 r113_2 r113_3 r113_5 r113_6 r113_7 r113_8 r113_9 r113_11 b113_4 b113_10 F113 q113_4 q113_10 r113 r114_0 r114_1 r114_2 r114_3 r114_4 r114_5 r114_6 r114_7 r114_9 r114_10 r114_11 r114_12 r114_13 r114_14 r114_15 r114_16 r114_17 r114_18 r114_19 r114_20 r114_21 r114_22 r114_23 r114_25 r114_26 r114_27 r114_28 r114_29 b114_8 b114_24 F114 q114_8 q114_24 r114 r115_0 r115_1 r115_2 r115_3 r115_4 r115_5 r115_6 r115_8 b115_7 F115 q115_7 r115 r116_0 r116_1 r116_2 r116_3 r116_4 r116_5 r116_6 r116_7 r116_8 r116_9 r116_10 r116_12 r116_13 r116_14 r116_15 r116_16 r116_17 r116_18 r116_19 r116_20 r116_22 r116_23 r116_24 r116_25 r116_26 b116_11 b116_21 b116_27 F116 q116_11 q116_21 q116_27 r116 r117_0 r117_1 r117_2 r117_3 r117_4 r117_5 r117_6 r117_7 r117_9 b117_8 F117 q117_8 r117 r118_0 r118_1 r118_2 F118 r118 r121_0 r121_1 r121_2 r121_3 r121_4 r121_5 r121_6 r121_7 r121_9 b121_8 F121 q121_8 r121 r122_0 r122_1 r122_2 r122_3 r122_4 r122_5 r122_6 r122_7 r122_8 r122_9 r122_10 r122_11 r122_12 r122_13 F122 r122 r123_0 r123_1 F123 r123 r124_0 r124_1 F124 r124 r125_0 r125_1 r125_2 r125_3 r125_4 r125_5 r125_6 r125_7 r125_9 b125_8 F125 q125_8 r125 r126_0 r126_1 F126 r126 r127_0 r127_1 r127_2 r127_3 r127_5 r127_6 r127_7 r127_8 r127_9 r127_11 b127_4 b127_10 F127 q127_4 q127_10 r127 r128_0 r128_1 F128 r128 r129_0 r129_1 F129 r129 r130_0 r130_1 r130_2 r130_3 r130_4 r130_5 r130_7 b130_6 F130 q130_6 r130 r131_0 r131_1 F131 r131 r132_0 r132_1 r132_2 r132_3 r132_4 r132_5 r132_6 r132_7 r132_8 r132_9 r132_10 r132_11 r132_12 r132_13 r132_14 r132_15 F132 r132 r133_0 r133_1 r133_2 r133_3 r133_4 r133_5 r133_6 r133_7 r133_8 F133 r133 r134_0 r134_1 r134_2 r134_3 F134 r134 r135_0 r135_1 r135_2 r135_3 r135_4 F135 r135 r136_0 r136_1 r136_2 r136_3 r136_4 r136_5 r136_6 r136_7 r136_8 r136_9 r136_10 r136_11 r136_13 r136_14 r136_15 r136_16 r136_17 r136_18 r136_19 r136_20 r136_21 r136_22 r136_23 r136_24 r136_25 r136_27 r136_28 r136_30 b136_12 b136_26 b136_29 F136 q136_12 q136_26 q136_29 r136 r137_0 r137_1 r137_2 r137_3 r137_4 r137_5 r137_6 r137_7 r137_8 r137_10 b137_9 F137 q137_9 r137 r141_0 r141_1 F141 r141 r142_0 r142_1 r142_2 F142 r142 r152_0 r152_1 r152_2 r152_3 r152_4 r152_5 r152_6 r152_7 r152_8 r152_9 r152_10 F152 r152 r153_0 r153_1 F153 r153 r155_0 r155_1 r155_2 r155_3 F155 r155 r156_0 r156_1 r156_2 F156 r156 r157_0 r157_1 r157_2 r157_3 r157_4 r157_5 r157_6 r157_7 r157_8 r157_9 r157_10 r157_11 r157_13 r157_14 r157_15 r157_16 r157_17 r157_18 r157_19 r157_20 r157_21 r157_22 r157_23 r157_24 r157_25 r157_26 r157_27 b157_12 F157 q157_12 r157 r159_0 r159_1 r159_2 r159_4 b159_3 F159 q159_3 r159 r160_0 r160_1 r160_2 r160_4 b160_3 F160 q160_3 r160 r166_0 r166_1 F166 r166 r167_0 r167_1 r167_2 r167_3 r167_4 r167_5 r167_6 r167_7 r167_8 r167_9 r167_10 r167_11 r167_12 r167_13 r167_14 r167_16 r167_17 r167_18 r167_19 r167_20 b167_15 F167 q167_15 r167 r169_0 r169_1 F169 r169 r178_0 r178_1 F178 r178 r179_0 r179_1 r179_2 r179_3 F179 r179
end Go.Proofs.YtdafipacemgcoaaGreatDoor