/- Contracts. No condition. -/
import Derived.Test.YtmhhnklkcmpdkaaGreatDoorCoPA
import Derived.Deep.Slices
open Int renaming natCast_zero -> aA, tmod_eq_emod_of_nonneg -> fv
open Go.IntKind renaming i64 -> ai, u32 -> dR, u64 -> aS, wrap_u64 -> dU
open List renaming append_assoc -> ay, append_nil -> aZ, cons -> bp, drop_eq_getElem_cons -> aF, drop_length -> bB, drop_zero -> bj, flatMap_cons -> ia, getD_eq_getElem?_getD -> aa, getElem?_eq_getElem -> ab, getElem?_map -> aN, length_append -> ac, length_cons -> ah, length_drop -> aX, length_nil -> au, length_replicate -> dG, length_singleton -> aD, length_take -> av, nil_append -> aR, replicate -> aJ, singleton_append -> cf, take -> fg, take_length -> ba, take_of_length_le -> bh
open Nat renaming le_refl -> bc, mod_lt -> s8
open UInt8 renaming ofInt -> dQ
set_option maxRecDepth 100000
set_option maxHeartbeats 16000000
set_option linter.unusedSimpArgs false
set_option linter.unusedVariables false
namespace Go.Proofs.YtmhhnklkcmpdkaaGreatDoor
open Go.Sy
open UInt8 renaming reduceLT -> Q0, reduceLE -> Q1
open Int renaming reduceToNat -> Q2, reduceLE -> Q3, reduceLT -> Q4, reduceEq -> Q5, reduceNe -> Q6, reduceNeg -> Q7, reduceAdd -> Q8, reduceSub -> Q9, reduceMul -> Qa
open Nat renaming reducePow -> Qb, reduceDiv -> Qc, reduceMod -> Qd, reduceAdd -> Qe, reduceSub -> Qf, reduceMul -> Qg, reduceLT -> Qh, reduceLeDiff -> Qi, reduceEqDiff -> Qj, reduceBEq -> Qk
theorem c0:((0:Nat):Int)=0:=rfl
theorem c1:((1:Nat):Int)=1:=rfl
theorem c12:((12:Nat):Int)=12:=rfl
theorem c13:((13:Nat):Int)=13:=rfl
theorem c15:((15:Nat):Int)=15:=rfl
theorem c16:((16:Nat):Int)=16:=rfl
theorem c2:((2:Nat):Int)=2:=rfl
theorem xle:((200:Nat):Int)=200:=rfl
theorem xnq:((256:Nat):Int)=256:=rfl
theorem c32:((32:Nat):Int)=32:=rfl
theorem c35:((35:Nat):Int)=35:=rfl
theorem c4:((4:Nat):Int)=4:=rfl
theorem c6:((6:Nat):Int)=6:=rfl
theorem c64:((64:Nat):Int)=64:=rfl
theorem c8:((8:Nat):Int)=8:=rfl
theorem c9:((9:Nat):Int)=9:=rfl
attribute [go_sem] rV uE uF
theorem w64{n:Int}(h: -9223372036854775808<=n)(y:n<=9223372036854775807):ai.wrap n=n:=by rw[IntKind.wrap_i64];omega
theorem wZ{a b:Int}(h:-9223372036854775808<=a/\a<=9223372036854775807/\a=b):ai.wrap a=b:=by rw[w64 h.1 h.2.1];exact h.2.2
theorem cX(i:Nat)(h:i<9223372036854775807):ai.wrap ((i:Int)+1)=((i+1:Nat):Int):=wZ (by omega)
theorem sJ{α:Type}[Inhabited α](l:List α)(i:Nat)(h:i<l.length):l.drop i=l.getD i default::l.drop (i+1):=by rw[aF h,aa,ab h];rfl
theorem eE(l:d9)(i:Nat)(h:i<l.length):l.drop i=l.getD i 0::l.drop (i+1):=sJ l i h
theorem l95(a b:d9)(I:a.length<=140737488355328)(y:a.length=b.length):∀(n i:Nat),a.length-i=n->i<=a.length->
 run T (.loop Ou) ⟨[(0,.byt a .no),(1,.byt b .no),(5,.int .i64 i)],[],[]⟩=if a.drop i=b.drop i then some (.x 0,⟨[],[],[]⟩)else some (.r,⟨[(4,.bool false)],[],[]⟩):=by
 intro n;induction n with
 |zero=>
  intro i z F;have hi:i=a.length:=by omega
  subst hi;rw[aj];have e:List.drop a.length b=[]:=by rw[y,bB]
  simp only[go_sem,Q0,Q1,Q2,Q3,Q4,Q5,Q6,Q7,Q8,Q9,Qa,Qb,Qc,Qd,Qe,Qf,Qg,Qh,Qi,Qj,Qk,reduceCtorEq,reduceIte,bB,e]
 |succ n C=>
  intro i z F;have hi:i<a.length:=by omega
  have h:i<b.length:=by omega
  rw[aj,eE a i hi,eE b i h];have E:ai.wrap ((i:Int)+1)=((i+1:Nat):Int):=wZ (by omega)
  simp only[go_sem,Q0,Q1,Q2,Q3,Q4,Q5,Q6,Q7,Q8,Q9,Qa,Qb,Qc,Qd,Qe,Qf,Qg,Qh,Qi,Qj,Qk,reduceCtorEq,reduceIte,hi,h,E,C (i+1) (by omega) (by omega),bp.injEq]
  by_cases H:a.getD i 0=b.getD i 0<;>simp only[H,go_sem,Q0,Q1,Q2,Q3,Q4,Q5,Q6,Q7,Q8,Q9,Qa,Qb,Qc,Qd,Qe,Qf,Qg,Qh,Qi,Qj,Qk,reduceCtorEq,reduceIte]
theorem f95(a b:d9)(C:a.length<=140737488355328):call T 95 [.byt a .no,.byt b .no] [] 0=some ⟨.bool (decide (a=b)),[],[]⟩:=by
 rw[am xnz]
 by_cases y:a.length=b.length
 ·have h:=l95 a b C y _ 0 rfl (by omega)
  simp only[aA,bj]at h;simp only[go_sem,Q0,Q1,Q2,Q3,Q4,Q5,Q6,Q7,Q8,Q9,Qa,Qb,Qc,Qd,Qe,Qf,Qg,Qh,Qi,Qj,Qk,reduceCtorEq,reduceIte,y,h]
  by_cases z:a=b<;>simp only[z,go_sem,Q0,Q1,Q2,Q3,Q4,Q5,Q6,Q7,Q8,Q9,Qa,Qb,Qc,Qd,Qe,Qf,Qg,Qh,Qi,Qj,Qk,reduceCtorEq,reduceIte]
 ·have z:a≠b:=fun e=>y (by rw[e])
  simp only[go_sem,Q0,Q1,Q2,Q3,Q4,Q5,Q6,Q7,Q8,Q9,Qa,Qb,Qc,Qd,Qe,Qf,Qg,Qh,Qi,Qj,Qk,reduceCtorEq,reduceIte,y,z]
def v8(n m:Int):Int:=if m<1 then 0 else if n.tmod m<0 then n.tmod m+m else n.tmod m
theorem f16(a b:Int)(H: -9223372036854775808<=a)(E:a<=9223372036854775807)(F:b<=9223372036854775807):call T 16 [.int .i64 a,.int .i64 b] [] 0=some ⟨.int .i64 (v8 a b),[],[]⟩:=by
 rw[am xn4]
 by_cases h:b<1
 ·simp only[go_sem,Q0,Q1,Q2,Q3,Q4,Q5,Q6,Q7,Q8,Q9,Qa,Qb,Qc,Qd,Qe,Qf,Qg,Qh,Qi,Qj,Qk,reduceCtorEq,reduceIte,h,v8]
 ·have z:¬b=0:=by omega
  simp only[go_sem,Q0,Q1,Q2,Q3,Q4,Q5,Q6,Q7,Q8,Q9,Qa,Qb,Qc,Qd,Qe,Qf,Qg,Qh,Qi,Qj,Qk,reduceCtorEq,reduceIte,h,z,v8]
  by_cases y:a.tmod b<0
  ·have I: -b<a.tmod b:=by
    have:=Int.lt_tmod_of_pos a (b:=b) (by omega);omega
   have C:ai.wrap (a.tmod b+b)=a.tmod b+b:=w64 (by omega) (by omega);simp only[y,go_sem,Q0,Q1,Q2,Q3,Q4,Q5,Q6,Q7,Q8,Q9,Qa,Qb,Qc,Qd,Qe,Qf,Qg,Qh,Qi,Qj,Qk,reduceCtorEq,reduceIte,C]
  ·simp only[y,go_sem,Q0,Q1,Q2,Q3,Q4,Q5,Q6,Q7,Q8,Q9,Qa,Qb,Qc,Qd,Qe,Qf,Qg,Qh,Qi,Qj,Qk,reduceCtorEq,reduceIte]
def bg(B:d9)(h:Nat):aB:= .rc [.byt B .no,.int .i64 h]
theorem f14(a:d9)(n:Nat):call T 14 [.byt a .no,.int .i64 n] [] 0=some ⟨.ptr 100 0,[(100,bg (a.take n) 0)],[]⟩:=by
 rw[am xn6]
 by_cases h:n<a.length
 ·have y:n<=a.length:=by omega
  simp only[go_sem,Q0,Q1,Q2,Q3,Q4,Q5,Q6,Q7,Q8,Q9,Qa,Qb,Qc,Qd,Qe,Qf,Qg,Qh,Qi,Qj,Qk,reduceCtorEq,reduceIte,h,y,bg];rfl
 ·simp only[go_sem,Q0,Q1,Q2,Q3,Q4,Q5,Q6,Q7,Q8,Q9,Qa,Qb,Qc,Qd,Qe,Qf,Qg,Qh,Qi,Qj,Qk,reduceCtorEq,reduceIte,h,bg,bh (Nat.le_of_not_lt h)]
  rfl
def bz(a:d9)(b n:Nat):Nat:=if b<a.length then(a.getD b 0).toNat % n else 0
def aV(a:d9)(b:Nat):Nat:=if b<a.length then b+1 else b
theorem f15(a:d9)(b n:Nat)(hn:0<n)(F:a.length<=1000000000000):call T 15 [.ptr 0 0,.int .i64 n] [bg a b] 0=some ⟨.int .i64 (bz a b n),[(0,bg a (aV a b))],[]⟩:=by
 rw[am xn5]
 by_cases h:b<a.length
 ·have y:¬a.length<=b:=by omega
  have C:ai.wrap ((b:Int)+1)=((b+1:Nat):Int):=wZ (by omega)
  have z:ai.wrap (((b+1:Nat):Int)-1)=(b:Int):=wZ (by omega)
  have E:¬(n:Int)=0:=by omega
  simp only[go_sem,Q0,Q1,Q2,Q3,Q4,Q5,Q6,Q7,Q8,Q9,Qa,Qb,Qc,Qd,Qe,Qf,Qg,Qh,Qi,Qj,Qk,reduceCtorEq,reduceIte,bg,h,y,C,z,E,bz,aV,<-Int.ofNat_tmod]
 ·have y:a.length<=b:=by omega
  simp only[go_sem,Q0,Q1,Q2,Q3,Q4,Q5,Q6,Q7,Q8,Q9,Qa,Qb,Qc,Qd,Qe,Qf,Qg,Qh,Qi,Qj,Qk,reduceCtorEq,reduceIte,bg,h,y,bz,aV,aA]
def rr(x:Int)(n:Nat):Int:=b9 .or .u32 (x.fdiv (2^n)) (dR.wrap (x*2^(32-n)))
theorem wz(x:Int)(n:Nat)(h:n<=32):call T 170 [.int .u32 x,.int .u64 n] [] 0=some ⟨.int .u32 (rr x n),[],[]⟩:=by
 rw[am xh7];have e:aS.wrap (32-(n:Int))=((32-n:Nat):Int):=by rw[dU];omega
 have C:min n 32=n:=by omega
 have y:min (32-n) 32=32-n:=by omega
 have z:(0:Int)<=((32-n:Nat):Int):=by omega
 simp only[go_sem,Q0,Q1,Q2,Q3,Q4,Q5,Q6,Q7,Q8,Q9,Qa,Qb,Qc,Qd,Qe,Qf,Qg,Qh,Qi,Qj,Qk,reduceCtorEq,reduceIte,e,C,y,z,rr]
theorem m24:min 24 32=24:=rfl
theorem m16:min 16 32=16:=rfl
theorem m8:min 8 32=8:=rfl
theorem m3:min 3 32=3:=rfl
theorem m10:min 10 32=10:=rfl
def wd(B:d9)(t:Nat):Int:=
 b9 .or .u32 (b9 .or .u32 (b9 .or .u32 (dR.wrap (((B.getD (4*t) 0).toNat:Int)*2^24)) (dR.wrap (((B.getD (4*t+1) 0).toNat:Int)*2^16)))
  (dR.wrap (((B.getD (4*t+2) 0).toNat:Int)*2^8))) ((B.getD (4*t+3) 0).toNat:Int)
theorem f169(B:d9)(t:Nat)(h:4*t+3<B.length)(J:B.length<=1000000000000):call T 169 [.byt B .no,.int .i64 t] [] 0=some ⟨.int .u32 (wd B t),[],[]⟩:=by
 rw[am xh8];have F:ai.wrap (4*(t:Int))=((4*t:Nat):Int):=wZ (by omega)
 have C:ai.wrap (((4*t:Nat):Int)+1)=((4*t+1:Nat):Int):=wZ (by omega)
 have z:ai.wrap (((4*t:Nat):Int)+2)=((4*t+2:Nat):Int):=wZ (by omega)
 have H:ai.wrap (((4*t:Nat):Int)+3)=((4*t+3:Nat):Int):=wZ (by omega)
 have y:4*t<B.length:=by omega
 have I:4*t+1<B.length:=by omega
 have E:4*t+2<B.length:=by omega
 simp only[go_sem,Q0,Q1,Q2,Q3,Q4,Q5,Q6,Q7,Q8,Q9,Qa,Qb,Qc,Qd,Qe,Qf,Qg,Qh,Qi,Qj,Qk,reduceCtorEq,reduceIte,F,C,z,H,h,y,I,E,wd,m24,m16,m8]
def nw(B:d9)(L:List Int)(t:Nat):Int:=
 if t<16 then wd B t else
  let x:=L.getD (t-15) 0
  let y:=L.getD (t-2) 0
  dR.wrap (dR.wrap (dR.wrap (b9 .xor .u32 (b9 .xor .u32 (rr y 17) (rr y 19)) (y.fdiv (2^10))+L.getD (t-7) 0)+
   b9 .xor .u32 (b9 .xor .u32 (rr x 7) (rr x 18)) (x.fdiv (2^3)))+L.getD (t-16) 0)
def Wl(B:d9):Nat->List Int
 |0=>aJ 64 0
 |t+1=>(Wl B t).set t (nw B (Wl B t) t)
theorem N0(B:d9)(t:Nat):(Wl B t).length=64:=by
 induction t with
 |zero=>simp[Wl]
 |succ n h=>simp[Wl,h]
def ws(L:List Int):d8:=L.map fun x=> [.int .u32 x]
theorem ks(L:List Int):(ws L).length=L.length:=by simp[ws]
theorem gv(L:List Int)(i:Nat)(h:i<L.length):(ws L).getD i []=[.int .u32 (L.getD i 0)]:=by simp[ws,aa,aN,ab h]
theorem GF(L:List Int)(i:Nat)(x:Int):(ws L).set i [.int .u32 x]=ws (L.set i x):=by unfold ws;rw[List.map_set]
theorem xaU(n:Nat):aJ n [SV.int .u32 0]=ws (aJ n 0):=by unfold ws;rw[List.map_replicate]
def shK:t6:=[.int .u32 1116352408,.int .u32 1899447441,.int .u32 3049323471,.int .u32 3921009573,.int .u32 961987163,.int .u32 1508970993,.int .u32 2453635748,.int .u32 2870763221,.int .u32 3624381080,.int .u32 310598401,.int .u32 607225278,.int .u32 1426881987,.int .u32 1925078388,.int .u32 2162078206,.int .u32 2614888103,.int .u32 3248222580,.int .u32 3835390401,.int .u32 4022224774,.int .u32 264347078,.int .u32 604807628,.int .u32 770255983,.int .u32 1249150122,.int .u32 1555081692,.int .u32 1996064986,.int .u32 2554220882,.int .u32 2821834349,.int .u32 2952996808,.int .u32 3210313671,.int .u32 3336571891,.int .u32 3584528711,.int .u32 113926993,.int .u32 338241895,.int .u32 666307205,.int .u32 773529912,.int .u32 1294757372,.int .u32 1396182291,.int .u32 1695183700,.int .u32 1986661051,.int .u32 2177026350,.int .u32 2456956037,.int .u32 2730485921,.int .u32 2820302411,.int .u32 3259730800,.int .u32 3345764771,.int .u32 3516065817,.int .u32 3600352804,.int .u32 4094571909,.int .u32 275423344,.int .u32 430227734,.int .u32 506948616,.int .u32 659060556,.int .u32 883997877,.int .u32 958139571,.int .u32 1322822218,.int .u32 1537002063,.int .u32 1747873779,.int .u32 1955562222,.int .u32 2024104815,.int .u32 2227730452,.int .u32 2361852424,.int .u32 2428436474,.int .u32 2756734187,.int .u32 3204031479,.int .u32 3329325298]
def Kl:List Int:=shK.map fun| .int _ x=>x|_=>0
theorem Oe:Kl.length=64:=rfl
theorem Qz:shK.length=64:=rfl
def rnd(k w:Int)(s:List Int):List Int:=
 let a:=s.getD 0 0
 let e:=s.getD 4 0
 let h:=dR.wrap (dR.wrap (dR.wrap (dR.wrap (s.getD 7 0+b9 .xor .u32 (b9 .xor .u32 (rr e 6) (rr e 11)) (rr e 25))+
  b9 .xor .u32 (b9 .and .u32 e (s.getD 5 0)) (b9 .and .u32 (b9 .xor .u32 (if dR.signed=true then-1 else dR.max) e) (s.getD 6 0)))+k)+w)
 let t2:=dR.wrap (b9 .xor .u32 (b9 .xor .u32 (rr a 2) (rr a 13)) (rr a 22)+
  b9 .xor .u32 (b9 .xor .u32 (b9 .and .u32 a (s.getD 1 0)) (b9 .and .u32 a (s.getD 2 0))) (b9 .and .u32 (s.getD 1 0) (s.getD 2 0)))
 [dR.wrap (h+t2),a,s.getD 1 0,s.getD 2 0,dR.wrap (s.getD 3 0+h),e,s.getD 5 0,s.getD 6 0]
theorem ws8(a b c d e f g h:Int):ws [a,b,c,d,e,f,g,h]=[[.int .u32 a],[.int .u32 b],[.int .u32 c],[.int .u32 d],[.int .u32 e],[.int .u32 f],[.int .u32 g],[.int .u32 h]]:=rfl
def rounds(W:List Int)(h:List Int):Nat->List Int
 |0=>h
 |t+1=>rnd (Kl.getD t 0) (W.getD t 0) (rounds W h t)
theorem l6(W h:List Int)(y:h.length=8)(t:Nat):(rounds W h t).length=8:=by
 cases t<;>simp[rounds,rnd,y]
def Ez:List Int->List Int->List Int
 |x::l,y::r=>dR.wrap (x+y)::Ez l r
 |_,_=> []
def comp(h:List Int)(B:d9):List Int:=Ez h (rounds (Wl B 64) h 64)
theorem GD(h s:List Int)(z:h.length<=s.length):(Ez h s).length=h.length:=by
 induction h generalizing s with
 |nil=>simp[Ez]
 |cons x l C=>
  cases s with
  |nil=>simp at z
  |cons y r=>simp only[Ez,ah];rw[C r (by simpa using z)]
theorem wH(h:List Int)(B:d9)(y:h.length=8):(comp h B).length=8:=by unfold comp;rw[GD _ _ (by rw[l6 _ _ y,y];exact bc 8),y]
def zn(n:Nat):Nat:=(120-n % 64) % 64
def kq(v:Int)(s:Nat):UInt8:=dQ (v.fdiv (2^s))
def be:Nat->Int->d9
 |0,_=> []
 |k+1,v=>kq v (8*k)::be k v
theorem eO(n:Nat)(v:Int):(be n v).length=n:=by induction n with
 |zero=>rfl
 |succ n h=>simp[be,h]
def nA(B:d9):d9:=B++128::(aJ (zn (B.length+1)) 0++be 8 (aS.wrap (aS.wrap B.length*8)))
theorem vV(B:d9):(nA B).length=B.length+1+zn (B.length+1)+8:=by simp only[nA,ac,ah,dG,eO];omega
theorem FG(B:d9):(nA B).length % 64=0:=by rw[vV];unfold zn;omega
theorem xgT(B:d9):∀(n:Nat)(acc:d9),zn acc.length=n->acc.length+n<=100000000000000->
 run T (.loop zo) ⟨[(0,.byt B .no),(3,.byt acc (.id 103))],[],[103]⟩=
 some (.x 0,⟨[(0,.byt B .no),(3,.byt (acc++aJ n 0) (.id 103))],[],[103]⟩):=by
 intro n;induction n with
 |zero=>
  intro acc y E;have C:acc.length % 64=56:=by unfold zn at y;omega
  have hi:(acc.length:Int).tmod 64=56:=by rw[fv (by omega)];omega
  rw[aj];simp only[go_sem,Q0,Q1,Q2,Q3,Q4,Q5,Q6,Q7,Q8,Q9,Qa,Qb,Qc,Qd,Qe,Qf,Qg,Qh,Qi,Qj,Qk,reduceCtorEq,reduceIte,hi,List.replicate_zero,aZ]
 |succ n z=>
  intro acc y E;have C:acc.length % 64≠56:=by unfold zn at y;omega
  have hi:¬(acc.length:Int).tmod 64=56:=by rw[fv (by omega)];omega
  have h:=z (acc++ [0]) (by unfold zn at*;rw[ac,aD];omega) (by rw[ac,aD];omega);have F:acc.length+1<=140737488355328:=by omega
  rw[ay,cf,<-List.replicate_succ]at h;rw[aj];simp only[go_sem,Q0,Q1,Q2,Q3,Q4,Q5,Q6,Q7,Q8,Q9,Qa,Qb,Qc,Qd,Qe,Qf,Qg,Qh,Qi,Qj,Qk,reduceCtorEq,reduceIte,hi,F,h]
theorem xgS(v:Int):∀(k:Nat)(acc:d9),k<=8->acc.length+k<=100000000000000->
 run T (.loop tz) ⟨[(3,.byt acc (.id 103)),(4,.int .u64 v),(5,.int .i64 ((k:Int)-1))],[],[103]⟩=
 some (.x 2,⟨[(3,.byt (acc++be k v) (.id 103))],[],[103]⟩):=by
 intro k;induction k with
 |zero=>
  intro acc E h;rw[aj];have z:¬(0:Int)<=((0:Nat):Int)-1:=by omega
  simp only[go_sem,Q0,Q1,Q2,Q3,Q4,Q5,Q6,Q7,Q8,Q9,Qa,Qb,Qc,Qd,Qe,Qf,Qg,Qh,Qi,Qj,Qk,reduceCtorEq,reduceIte,z,be,aZ]
 |succ k J=>
  intro acc E h;have y:=J (acc++ [kq v (8*k)]) (by omega) (by rw[ac,aD];omega);have c1:acc.length+1<=140737488355328:=by omega
  have z:(0:Int)<=((k+1:Nat):Int)-1:=by omega
  have F:aS.wrap (((k+1:Nat):Int)-1)=(k:Int):=by rw[dU];omega
  have C:aS.wrap (8*(k:Int))=((8*k:Nat):Int):=by rw[dU];omega
  have I:ai.wrap (((k+1:Nat):Int)-1-1)=(k:Int)-1:=wZ (by omega)
  have H:min (8*k) 64=8*k:=by omega
  rw[ay,cf]at y;rw[aj];unfold kq at y;simp only[go_sem,Q0,Q1,Q2,Q3,Q4,Q5,Q6,Q7,Q8,Q9,Qa,Qb,Qc,Qd,Qe,Qf,Qg,Qh,Qi,Qj,Qk,reduceCtorEq,reduceIte,c1,z,F,C,I,H,be,kq,y]
theorem xm7(B:d9)(h:B.length<=10000000000000):call T 168 [.byt B .no] [] 0=some ⟨.byt (nA B) .no,[],[]⟩:=by
 have hz:zn (B.length+1)<64:=by unfold zn;omega
 have g1:=xgT B _ (B++ [128]) rfl (by simp;omega);have y:=xgS (aS.wrap (aS.wrap B.length*8)) 8 (B++128::aJ (zn (B.length+1)) 0) (by omega) (by simp;omega);have z:((8:Nat):Int)-1=7:=rfl;rw[z]at y;rw[am xh9];have c3:B.length<=140737488355328:=by omega
 have c4:B.length+1<=140737488355328:=by omega
 simp only[go_sem,Q0,Q1,Q2,Q3,Q4,Q5,Q6,Q7,Q8,Q9,Qa,Qb,Qc,Qd,Qe,Qf,Qg,Qh,Qi,Qj,Qk,reduceCtorEq,reduceIte,g1,y,c3,c4,nA]
def w4(x:Int):d9:=[kq x 24,kq x 16,kq x 8,dQ x]
def sp(h:List Int):d9:=h.flatMap w4
theorem xbw(h:List Int):(sp h).length=4*h.length:=by
 induction h with
 |nil=>rfl
 |cons x l y=>simp only[sp,ia,ac,w4,ah,au]at*;omega
theorem d0(h:List Int)(i:Nat)(hi:i<h.length):h.drop i=h.getD i 0::h.drop (i+1):=sJ h i hi
theorem xmv(h:List Int)(L:h.length<=1000000000000):∀(n i:Nat)(acc:d9),h.length-i=n->i<=h.length->acc.length=4*i->
 run T (.loop zl) ⟨[(0,.lst 1 (ws h) .no),(3,.byt acc (.id 103)),(4,.int .i64 i)],[],[103]⟩=
 some (.x 0,⟨[(3,.byt (acc++sp (h.drop i)) (.id 103))],[],[103]⟩):=by
 intro n;induction n with
 |zero=>
  intro i acc E J I;have hi:i=h.length:=by omega
  have z:=ks h;subst hi;rw[aj];simp only[go_sem,Q0,Q1,Q2,Q3,Q4,Q5,Q6,Q7,Q8,Q9,Qa,Qb,Qc,Qd,Qe,Qf,Qg,Qh,Qi,Qj,Qk,reduceCtorEq,reduceIte,z,bB,sp,List.flatMap_nil,aZ]
 |succ n H=>
  intro i acc E J I;have hi:i<h.length:=by omega
  have F:=cX i (by omega);have y:=H (i+1) (acc++w4 (h.getD i 0)) (by omega) (by omega) (by simp[w4];omega);have C:=gv h i hi;have z:=ks h;have c1:acc.length+4<=140737488355328:=by omega
  rw[aj];rw[ay]at y;simp only[w4,kq]at y;simp only[go_sem,Q0,Q1,Q2,Q3,Q4,Q5,Q6,Q7,Q8,Q9,Qa,Qb,Qc,Qd,Qe,Qf,Qg,Qh,Qi,Qj,Qk,reduceCtorEq,reduceIte,hi,C,z,F,c1,m24,m16,m8,y,d0 h i hi,sp,ia,w4,kq]
theorem f171(h:List Int)(y:h.length<=1000000000000):call T 171 [.lst 1 (ws h) .no] [] 0=some ⟨.byt (sp h) .no,[],[]⟩:=by have g:=xmv h y _ 0 [] rfl (by omega) rfl;have z:=ks h;rw[am xh6];simp only[aA,bj,aR]at g;simp only[go_sem,Q0,Q1,Q2,Q3,Q4,Q5,Q6,Q7,Q8,Q9,Qa,Qb,Qc,Qd,Qe,Qf,Qg,Qh,Qi,Qj,Qk,reduceCtorEq,reduceIte,z,g]
def jr(h:List Int)(X:d9):Nat->List Int
 |0=>h
 |n+1=>jr (comp h (X.take 64)) (X.drop 64) n
theorem qb(n:Nat):∀(h:List Int)(X:d9),h.length=8->(jr h X n).length=8:=by
 induction n with
 |zero=>intro h X y;exact y
 |succ n z=>intro h X y;exact z _ _ (wH h _ y)
def H0:List Int:=[1779033703,3144134277,1013904242,2773480762,1359893119,2600822924,528734635,1541459225]
def sha(B:d9):d9:=sp (jr H0 (nA B) ((nA B).length/64))
theorem pr(B:d9):(sha B).length=32:=by unfold sha;rw[xbw,qb _ _ _ rfl]
theorem f167:call T 167 [] [] 0=some ⟨.agg shK,[],[]⟩:=by rw[am xia];simp only[go_sem,Q0,Q1,Q2,Q3,Q4,Q5,Q6,Q7,Q8,Q9,Qa,Qb,Qc,Qd,Qe,Qf,Qg,Qh,Qi,Qj,Qk,reduceCtorEq,reduceIte];rfl
def bk(X:d9)(a:Nat):d9:=List.drop a (fg (a+64) X)
theorem NY(X:d9)(a:Nat)(h:a+64<=X.length):(bk X a).length=64:=by unfold bk;rw[aX,av];omega
theorem xhx(X:d9)(a:Nat):bk X a=(X.drop a).take 64:=by unfold bk;rw[List.drop_take];congr 1;omega
theorem rq7(x:Int):call T 170 [.int .u32 x,.int .u64 7] [] 0=some ⟨.int .u32 (rr x 7),[],[]⟩:=wz x 7 (by omega)
theorem xlL(x:Int):call T 170 [.int .u32 x,.int .u64 18] [] 0=some ⟨.int .u32 (rr x 18),[],[]⟩:=wz x 18 (by omega)
theorem xlM(x:Int):call T 170 [.int .u32 x,.int .u64 17] [] 0=some ⟨.int .u32 (rr x 17),[],[]⟩:=wz x 17 (by omega)
theorem xlK(x:Int):call T 170 [.int .u32 x,.int .u64 19] [] 0=some ⟨.int .u32 (rr x 19),[],[]⟩:=wz x 19 (by omega)
theorem rq6(x:Int):call T 170 [.int .u32 x,.int .u64 6] [] 0=some ⟨.int .u32 (rr x 6),[],[]⟩:=wz x 6 (by omega)
theorem xlO(x:Int):call T 170 [.int .u32 x,.int .u64 11] [] 0=some ⟨.int .u32 (rr x 11),[],[]⟩:=wz x 11 (by omega)
theorem xlI(x:Int):call T 170 [.int .u32 x,.int .u64 25] [] 0=some ⟨.int .u32 (rr x 25),[],[]⟩:=wz x 25 (by omega)
theorem rq2(x:Int):call T 170 [.int .u32 x,.int .u64 2] [] 0=some ⟨.int .u32 (rr x 2),[],[]⟩:=wz x 2 (by omega)
theorem xlN(x:Int):call T 170 [.int .u32 x,.int .u64 13] [] 0=some ⟨.int .u32 (rr x 13),[],[]⟩:=wz x 13 (by omega)
theorem xlJ(x:Int):call T 170 [.int .u32 x,.int .u64 22] [] 0=some ⟨.int .u32 (rr x 22),[],[]⟩:=wz x 22 (by omega)
theorem xgX(X:d9)(a:Nat)(h:List Int)(Q:a+64<=X.length)(hX:X.length<=1000000000000):∀(n t:Nat),64-t=n->t<=64->
 run T (.loop tI) ⟨[(3,.ptr 103 0),(4,.psl 119 1 0 8 (some 8)),(5,.byt X .no),(6,.int .i64 a),(7,.ptr 107 0),(8,.int .i64 t)],[(103,.arr 1 (ws Kl)),(107,.arr 1 (ws (Wl (bk X a) t))),(119,.arr 1 (ws h))],[]⟩=
 some (.x 2,⟨[(3,.ptr 103 0),(4,.psl 119 1 0 8 (some 8)),(5,.byt X .no),(6,.int .i64 a),(7,.ptr 107 0)],[(103,.arr 1 (ws Kl)),(107,.arr 1 (ws (Wl (bk X a) 64))),(119,.arr 1 (ws h))],[]⟩):=by
 intro n;induction n with
 |zero=>
  intro t h0 h1;have hi:t=64:=by omega
  subst hi;rw[aj];simp only[c64,go_sem,Q0,Q1,Q2,Q3,Q4,Q5,Q6,Q7,Q8,Q9,Qa,Qb,Qc,Qd,Qe,Qf,Qg,Qh,Qi,Qj,Qk,reduceCtorEq,reduceIte]
 |succ n ih=>
  intro t h0 h1;have y:=ih (t+1) (by omega) (by omega);have Z:=cX t (by omega);have E:(t:Int)<64:=by omega
  have hl:=N0 (bk X a) t;have hw:=ks (Wl (bk X a) t);have hn:t<64:=by omega
  have hs:Wl (bk X a) (t+1)=(Wl (bk X a) t).set t (nw (bk X a) (Wl (bk X a) t) t):=rfl;have a1:ai.wrap ((a:Int)+64)=((a+64:Nat):Int):=wZ (by omega)
  have a3:a<=a+64:=by omega
  rw[aj]
  by_cases h16:t<16
  ·have g:=f169 (bk X a) t (by rw[NY X a Q];omega) (by rw[NY X a Q];omega)
   have C:(t:Int)<16:=by omega
   have hx:nw (bk X a) (Wl (bk X a) t) t=wd (bk X a) t:=by unfold nw;rw[if_pos h16]
   rw[hs,hx]at y;generalize hb:Wl (bk X a) t=L at*;generalize hc:wd (bk X a) t=z at*;unfold bk at g;simp only[go_sem,Q0,Q1,Q2,Q3,Q4,Q5,Q6,Q7,Q8,Q9,Qa,Qb,Qc,Qd,Qe,Qf,Qg,Qh,Qi,Qj,Qk,reduceCtorEq,reduceIte,E,C,Z,a1,Q,a3,g,hl,hw,xiG,hn,GF,y]
  ·have C:¬(t:Int)<16:=by omega
   have H:ai.wrap ((t:Int)-15)=((t-15:Nat):Int):=wZ (by omega)
   have a2:ai.wrap ((t:Int)-2)=((t-2:Nat):Int):=wZ (by omega)
   have a7:ai.wrap ((t:Int)-7)=((t-7:Nat):Int):=wZ (by omega)
   have W:ai.wrap ((t:Int)-16)=((t-16:Nat):Int):=wZ (by omega)
   have I:t-15<64:=by omega
   have b2:t-2<64:=by omega
   have b7:t-7<64:=by omega
   have F:t-16<64:=by omega
   rw[hs]at y;unfold nw at y;rw[if_neg h16]at y;generalize hb:Wl (bk X a) t=L at*;have J:=gv L (t-15) (by omega);have d2:=gv L (t-2) (by omega);have d7:=gv L (t-7) (by omega);have O:=gv L (t-16) (by omega);simp only[go_sem,Q0,Q1,Q2,Q3,Q4,Q5,Q6,Q7,Q8,Q9,Qa,Qb,Qc,Qd,Qe,Qf,Qg,Qh,Qi,Qj,Qk,reduceCtorEq,reduceIte,E,C,Z,hl,hw,ZG,hn,H,a2,a7,W,I,b2,b7,F,J,d2,d7,O,rq7,xlL,xlM,xlK,GF,m3,m10,y]
theorem xgW(X:d9)(a:Nat)(W h:List Int)(O:aB)(H:W.length=64)(hh:h.length=8):∀(n t:Nat)(q:Tok),64-t=n->t<=64->
 run T (.loop tH) ⟨[(3,.ptr 103 0),(4,.psl 119 1 0 8 (some 8)),(5,.byt X .no),(6,.int .i64 a),(7,.ptr 107 0),(11,.lst 1 (ws (rounds W h t)) q),(12,.int .i64 t)],[(103,.arr 1 (ws Kl)),(107,.arr 1 (ws W)),(119,O)],[194]⟩=
 some (.x 4,⟨[(3,.ptr 103 0),(4,.psl 119 1 0 8 (some 8)),(5,.byt X .no),(6,.int .i64 a),(11,.lst 1 (ws (rounds W h 64)) (if t=64 then q else .clip))],[(103,.arr 1 (ws Kl)),(107,.arr 1 (ws W)),(119,O)],[194]⟩):=by
 intro n;induction n with
 |zero=>
  intro t q I h1;have hi:t=64:=by omega
  subst hi;rw[aj];simp only[c64,go_sem,Q0,Q1,Q2,Q3,Q4,Q5,Q6,Q7,Q8,Q9,Qa,Qb,Qc,Qd,Qe,Qf,Qg,Qh,Qi,Qj,Qk,reduceCtorEq,reduceIte]
 |succ n Z=>
  intro t q I h1;have y:=Z (t+1) .clip (by omega) (by omega);have J:=cX t (by omega);have z:(t:Int)<64:=by omega
  have hn:t<64:=by omega
  have E:t≠64:=by omega
  have hl:=l6 W h hh t;have hw:=ks (rounds W h t);have C:=ks W;have F:=ks Kl;have hk:=Oe;have Q:rounds W h (t+1)=rnd (Kl.getD t 0) (W.getD t 0) (rounds W h t):=rfl;rw[Q]at y;simp only[rnd,ws8]at y;rw[ite_self]at y;generalize rounds W h t=s at*;have d0:=gv s 0 (by omega);have d1:=gv s 1 (by omega);have d2:=gv s 2 (by omega);have d3:=gv s 3 (by omega);have d4:=gv s 4 (by omega);have d5:=gv s 5 (by omega);have d6:=gv s 6 (by omega);have L:=gv s 7 (by omega);have dW:=gv W t (by omega);have dK:=gv Kl t (by rw[Oe];exact hn);rw[aj];simp only[go_sem,Q0,Q1,Q2,Q3,Q4,Q5,Q6,Q7,Q8,Q9,Qa,Qb,Qc,Qd,Qe,Qf,Qg,Qh,Qi,Qj,Qk,reduceCtorEq,reduceIte,z,J,hl,hw,C,F,hk,H,ZG,hn,E,d0,d1,d2,d3,d4,d5,d6,L,dW,dK,rq6,xlO,xlI,rq2,xlN,xlJ,c8,c64,y]
theorem xgV(X:d9)(a:Nat)(h s:List Int)(P Q:aB)(y:h.length=8)(E:s.length=8):
 run T (.loop tG) ⟨[(3,.ptr 103 0),(4,.psl 119 1 0 8 (some 8)),(5,.byt X .no),(6,.int .i64 a),(11,.lst 1 (ws s) .clip),(17,.int .i64 0)],[(103,P),(107,Q),(119,.arr 1 (ws h))],[194]⟩=
 some (.x 6,⟨[(3,.ptr 103 0),(4,.psl 119 1 0 8 (some 8)),(5,.byt X .no),(6,.int .i64 a)],[(103,P),(107,Q),(119,.arr 1 (ws (Ez h s)))],[194]⟩):=by
 match h,y with
 |[a0,a1,a2,a3,a4,a5,a6,a7],_=>match s,E with
  |[b0,b1,b2,b3,b4,b5,b6,b7],_=>
   have k1:ai.wrap 1=1:=rfl;have k2:ai.wrap 2=2:=rfl;have J:ai.wrap 3=3:=rfl;have F:ai.wrap 4=4:=rfl;have C:ai.wrap 5=5:=rfl;have H:ai.wrap 6=6:=rfl;have z:ai.wrap 7=7:=rfl;have I:ai.wrap 8=8:=rfl;simp only[ws8,Ez]
   iterate 9
    rw[aj];simp only[go_sem,Q0,Q1,Q2,Q3,Q4,Q5,Q6,Q7,Q8,Q9,Qa,Qb,Qc,Qd,Qe,Qf,Qg,Qh,Qi,Qj,Qk,reduceCtorEq,reduceIte,ah,au,c8,k1,k2,J,F,C,H,z,I]
theorem xmC(X:d9)(hX:X.length<=1000000000000):∀(n a:Nat)(h:List Int),h.length=8->X.length=a+64*n->
 run T (.loop tF) ⟨[(3,.ptr 103 0),(4,.psl 119 1 0 8 (some 8)),(5,.byt X .no),(6,.int .i64 a)],[(103,.arr 1 (ws Kl)),(119,.arr 1 (ws h))],[]⟩=
 some (.x 0,⟨[(4,.psl 119 1 0 8 (some 8))],[(103,.arr 1 (ws Kl)),(119,.arr 1 (ws (jr h (X.drop a) n)))],[]⟩):=by
 intro n;induction n with
 |zero=>
  intro a h y O;rw[aj];have E:¬(a:Int)<X.length:=by omega
  simp only[go_sem,Q0,Q1,Q2,Q3,Q4,Q5,Q6,Q7,Q8,Q9,Qa,Qb,Qc,Qd,Qe,Qf,Qg,Qh,Qi,Qj,Qk,reduceCtorEq,reduceIte,E,jr]
 |succ n I=>
  intro a h y O;have C:=I (a+64) (comp h (bk X a)) (wH h _ y) (by omega);have E:(a:Int)<X.length:=by omega
  have Q:ai.wrap ((a:Int)+64)=((a+64:Nat):Int):=wZ (by omega)
  have g1:=xgX X a h (by omega) hX _ 0 rfl (by omega);have H:=xgW X a (Wl (bk X a) 64) h (.arr 1 (ws h)) (N0 _ 64) y _ 0 (.id 194) rfl (by omega);have g3:=xgV X a h (rounds (Wl (bk X a) 64) h 64) (.arr 1 (ws Kl)) (.arr 1 (ws (Wl (bk X a) 64))) y (l6 _ _ y 64);have J:Wl (bk X a) 0=aJ 64 0:=rfl;have L:rounds (Wl (bk X a) 64) h 0=h:=rfl;have hz:¬(0:Nat)=64:=by omega
  have z:=ks h;rw[J,<-xaU]at g1;rw[L,if_neg hz]at H;simp only[aA]at g1 H
  have F:jr h (X.drop a) (n+1)=jr (comp h (bk X a)) (X.drop (a+64)) n:=by rw[jr,xhx,List.drop_drop]
  rw[F,aj];unfold comp at C ⊢;have W:fg 8 (ws h)=ws h:=bh (by rw[z,y];exact bc 8);simp only[go_sem,Q0,Q1,Q2,Q3,Q4,Q5,Q6,Q7,Q8,Q9,Qa,Qb,Qc,Qd,Qe,Qf,Qg,Qh,Qi,Qj,Qk,reduceCtorEq,reduceIte,E,Q,g1,H,g3,z,y,W,C]
  trace_state
attribute [-go_sem] ki
theorem Sh(B:d9)(J:B.length<=100000000000):call T 102 [.byt B .no] [] 0=some ⟨.byt (sha B) .no,[],[]⟩:=by
 have g1:=f167;have g0:=xm7 B (by omega);have F:ki 1 64 (List.map SV.data shK)=ws Kl:=rfl;have i3:shK.all SV.isData=true:=rfl;have i4:=Qz;have E:SV.purgeL 103 104 shK=shK:=rfl;have C:SV.idsL shK=[]:=rfl;have i2:SV.toksL shK=[]:=rfl;have O:=vV B;have hz:zn (B.length+1)<64:=by unfold zn;omega
 have L:=FG B;have g3:=xmC (nA B) (by omega) ((nA B).length/64) 0 H0 rfl (by omega);have h:=qb ((nA B).length/64) H0 (nA B) rfl;have z:=f171 (jr H0 (nA B) ((nA B).length/64)) (by omega);have y:=ks (jr H0 (nA B) ((nA B).length/64));have I:ws H0=[[.int .u32 1779033703],[.int .u32 3144134277],[.int .u32 1013904242],[.int .u32 2773480762],[.int .u32 1359893119],[.int .u32 2600822924],[.int .u32 528734635],[.int .u32 1541459225]]:=rfl;rw[I]at g3;simp only[aA,bj]at g3;unfold sha;generalize jr H0 (nA B) ((nA B).length/64)=b at*;have H:fg 8 (ws b)=ws b:=bh (by rw[y,h];exact bc 8);rw[am xiv];simp only[go_sem,Q0,Q1,Q2,Q3,Q4,Q5,Q6,Q7,Q8,Q9,Qa,Qb,Qc,Qd,Qe,Qf,Qg,Qh,Qi,Qj,Qk,reduceCtorEq,reduceIte,g1,g0,xiH,xiI,C,i2,List.isEmpty,F,i3,i4,E,z,g3,xiF,y,h,c8,H]
attribute [go_sem] ki
theorem xmA(v:Int):∀(k:Nat)(acc:d9),k<=8->acc.length+k<=100000000000000->
 run T (.loop zA) ⟨[(2,.int .i64 v),(7,.byt acc (.id 107)),(8,.int .i64 ((k:Int)-1))],[],[107]⟩=
 some (.x 0,⟨[(7,.byt (acc++be k (aS.wrap v)) (.id 107))],[],[107]⟩):=by
 intro k;induction k with
 |zero=>
  intro acc H h;rw[aj];have z:¬(0:Int)<=((0:Nat):Int)-1:=by omega
  simp only[go_sem,Q0,Q1,Q2,Q3,Q4,Q5,Q6,Q7,Q8,Q9,Qa,Qb,Qc,Qd,Qe,Qf,Qg,Qh,Qi,Qj,Qk,reduceCtorEq,reduceIte,z,be,aZ]
 |succ k O=>
  intro acc H h;have y:=O (acc++ [kq (aS.wrap v) (8*k)]) (by omega) (by rw[ac,aD];omega);have c1:acc.length+1<=140737488355328:=by omega
  have z:(0:Int)<=((k+1:Nat):Int)-1:=by omega
  have I:aS.wrap (((k+1:Nat):Int)-1)=(k:Int):=by rw[dU];omega
  have C:ai.wrap (8*(((k+1:Nat):Int)-1))=((8*k:Nat):Int):=wZ (by omega)
  have E:aS.wrap (((8*k:Nat):Int))=((8*k:Nat):Int):=by rw[dU];omega
  have F:aS.wrap (8*(k:Int))=((8*k:Nat):Int):=by rw[dU];omega
  have L:ai.wrap (((k+1:Nat):Int)-1-1)=(k:Int)-1:=wZ (by omega)
  have J:min (8*k) 64=8*k:=by omega
  rw[ay,cf]at y;rw[aj];unfold kq at y;simp only[go_sem,Q0,Q1,Q2,Q3,Q4,Q5,Q6,Q7,Q8,Q9,Qa,Qb,Qc,Qd,Qe,Qf,Qg,Qh,Qi,Qj,Qk,reduceCtorEq,reduceIte,c1,z,I,C,E,F,L,J,be,kq,y]
theorem Y7(B:d9)(k:Nat)(v:Int)(z:1<=k)(h:k<=8)(y:B.length<=10000000000000):
 call T 150 [.byt B .no,.int .i64 k,.int .i64 v] [] 0=some ⟨.byt (B++be k (aS.wrap v)) (.id 60),[],[60]⟩:=by
 have g:=xmA v k B h (by omega);have c1:¬(k:Int)<1:=by omega
 have c2:¬(8:Int)<k:=by omega
 have c3:ai.wrap ((k:Int)-1)=(k:Int)-1:=w64 (by omega) (by omega);have c4:B.length<=140737488355328:=by omega
 rw[am xin];simp only[go_sem,Q0,Q1,Q2,Q3,Q4,Q5,Q6,Q7,Q8,Q9,Qa,Qb,Qc,Qd,Qe,Qf,Qg,Qh,Qi,Qj,Qk,reduceCtorEq,reduceIte,c1,c2,c3,c4,g]
theorem l74(v:Int):∀(k:Nat)(acc:d9),k<=8->acc.length+k<=100000000000000->
 run T (.loop OH) ⟨[(2,.int .i64 v),(7,.byt acc (.id 107)),(8,.int .i64 ((k:Int)-1))],[],[107]⟩=
 some (.x 0,⟨[(7,.byt (acc++be k (aS.wrap v)) (.id 107))],[],[107]⟩):=by
 intro k;induction k with
 |zero=>
  intro acc E h;rw[aj];have z:¬(0:Int)<=((0:Nat):Int)-1:=by omega
  simp only[go_sem,Q0,Q1,Q2,Q3,Q4,Q5,Q6,Q7,Q8,Q9,Qa,Qb,Qc,Qd,Qe,Qf,Qg,Qh,Qi,Qj,Qk,reduceCtorEq,reduceIte,z,be,aZ]
 |succ k J=>
  intro acc E h;have y:=J (acc++ [kq (aS.wrap v) (8*k)]) (by omega) (by rw[ac,aD];omega);have c1:acc.length+1<=140737488355328:=by omega
  have z:(0:Int)<=((k+1:Nat):Int)-1:=by omega
  have F:aS.wrap (((k+1:Nat):Int)-1)=(k:Int):=by rw[dU];omega
  have C:aS.wrap (8*(k:Int))=((8*k:Nat):Int):=by rw[dU];omega
  have I:ai.wrap (((k+1:Nat):Int)-1-1)=(k:Int)-1:=wZ (by omega)
  have H:min (8*k) 64=8*k:=by omega
  rw[ay,cf]at y;rw[aj];unfold kq at y;simp only[go_sem,Q0,Q1,Q2,Q3,Q4,Q5,Q6,Q7,Q8,Q9,Qa,Qb,Qc,Qd,Qe,Qf,Qg,Qh,Qi,Qj,Qk,reduceCtorEq,reduceIte,c1,z,F,C,I,H,be,kq,y]
theorem f74(B:d9)(k:Nat)(v:Int)(z:1<=k)(h:k<=8)(y:B.length<=10000000000000):
 call T 74 [.byt B .no,.int .i64 k,.int .i64 v] [] 0=some ⟨.byt (B++be k (aS.wrap v)) (.id 60),[],[60]⟩:=by
 have g:=l74 v k B h (by omega);have c1:¬(k:Int)<1:=by omega
 have c2:¬(8:Int)<k:=by omega
 have c3:ai.wrap ((k:Int)-1)=(k:Int)-1:=w64 (by omega) (by omega);have c4:B.length<=140737488355328:=by omega
 rw[am xnN];simp only[go_sem,Q0,Q1,Q2,Q3,Q4,Q5,Q6,Q7,Q8,Q9,Qa,Qb,Qc,Qd,Qe,Qf,Qg,Qh,Qi,Qj,Qk,reduceCtorEq,reduceIte,c1,c2,c3,c4,g]
def lW(B X:d9):d9:=B++be 2 (aS.wrap (X.take 65535).length)++X.take 65535
theorem xeI(B X:d9)(E:B.length<=1000000000000)(hX:X.length<=1000000000000):call T 112 [.byt B .no,.byt X .no] [] 0=some ⟨.byt (lW B X) (.id 60),[],[60]⟩:=by
 have g:=f74 B 2 (X.take 65535).length (by omega) (by omega) (by omega);rw[c2]at g;rw[am xiu];have F:(X.take 65535).length<=65535:=by rw[av];omega
 have c4:(B++be 2 (aS.wrap (X.take 65535).length)).length+(X.take 65535).length<=140737488355328:=by rw[ac,eO];omega
 by_cases h:(65535:Int)<X.length
 ·have C:(65535:Int)<=X.length:=by omega
  have z:65535<=X.length:=by omega
  simp only[ac]at c4;simp only[go_sem,Q0,Q1,Q2,Q3,Q4,Q5,Q6,Q7,Q8,Q9,Qa,Qb,Qc,Qd,Qe,Qf,Qg,Qh,Qi,Qj,Qk,reduceCtorEq,reduceIte,h,C,z,g,S2,lW,c4,ay]
 ·have y:X.take 65535=X:=bh (by omega)
  rw[y]at g c4;simp only[ac]at c4;simp only[go_sem,Q0,Q1,Q2,Q3,Q4,Q5,Q6,Q7,Q8,Q9,Qa,Qb,Qc,Qd,Qe,Qf,Qg,Qh,Qi,Qj,Qk,reduceCtorEq,reduceIte,h,g,S2,lW,y,c4,ay]
theorem xeH(B X:d9)(H:B.length<=1000000000000)(hX:X.length<=1000000000000):call T 151 [.byt B .no,.byt X .no] [] 0=some ⟨.byt (lW B X) (.id 60),[],[60]⟩:=by
 have g:=Y7 B 2 (X.take 65535).length (by omega) (by omega) (by omega);rw[c2]at g;rw[am xim];have I:(X.take 65535).length<=65535:=by rw[av];omega
 have c4:(B++be 2 (aS.wrap (X.take 65535).length)).length+(X.take 65535).length<=140737488355328:=by rw[ac,eO];omega
 simp only[ac]at c4
 by_cases h:(65535:Int)<X.length
 ·have F:min (X.length:Int) 65535=65535:=by omega
  have E:(65535:Int)<=X.length:=by omega
  have C:65535<=X.length:=by omega
  simp only[go_sem,Q0,Q1,Q2,Q3,Q4,Q5,Q6,Q7,Q8,Q9,Qa,Qb,Qc,Qd,Qe,Qf,Qg,Qh,Qi,Qj,Qk,reduceCtorEq,reduceIte,h,E,C,g,Ep,lW,c4,ay]
 ·have F:min (X.length:Int) 65535=X.length:=by omega
  have z:X.take 65535=X:=bh (by omega);have y:X.take X.length=X:=ba;rw[z]at g c4;simp only[go_sem,Q0,Q1,Q2,Q3,Q4,Q5,Q6,Q7,Q8,Q9,Qa,Qb,Qc,Qd,Qe,Qf,Qg,Qh,Qi,Qj,Qk,reduceCtorEq,reduceIte,h,y,g,Ep,lW,z,c4,ay]
def frame(t:Int)(X:d9):d9:=dQ t::(w4 (X.length:Int)++X)
theorem xm6(t:Int)(X:d9)(hX:X.length<=1000000000):call T 206 [.int .i64 t,.lst 1 [[.byt X .no]] .no] [] 0=some ⟨.byt (frame t X) .no,[],[]⟩:=by
 have k1:ai.wrap 1=1:=rfl;have c4:1+4+X.length<=140737488355328:=by omega
 have c5:5+X.length<=140737488355328:=by omega
 have h:min 24 64=24:=rfl;have y:min 16 64=16:=rfl;have z:min 8 64=8:=rfl;rw[am Zi];simp only[go_sem,Q0,Q1,Q2,Q3,Q4,Q5,Q6,Q7,Q8,Q9,Qa,Qb,Qc,Qd,Qe,Qf,Qg,Qh,Qi,Qj,Qk,reduceCtorEq,reduceIte,ah,au,c1,k1];rw[aj];simp only[go_sem,Q0,Q1,Q2,Q3,Q4,Q5,Q6,Q7,Q8,Q9,Qa,Qb,Qc,Qd,Qe,Qf,Qg,Qh,Qi,Qj,Qk,reduceCtorEq,reduceIte,ah,au,c1,k1,h,y,z,c4,c5];rw[aj];simp only[go_sem,Q0,Q1,Q2,Q3,Q4,Q5,Q6,Q7,Q8,Q9,Qa,Qb,Qc,Qd,Qe,Qf,Qg,Qh,Qi,Qj,Qk,reduceCtorEq,reduceIte,ah,au,c1,k1,h,y,z,c4,c5,frame,w4,kq]
theorem Dz(t:Int)(X:d9):(frame t X).length=X.length+5:=by simp[frame,w4]
def O6(t:Int)(X:d9):d9:=sha (frame t X)
theorem xnj(t:Int)(X:d9)(hX:X.length<=1000000000):call T 133 [.int .i64 t,.lst 1 [[.byt X .no]] .no] [] 0=some ⟨.byt (O6 t X) .no,[],[]⟩:=by have g1:=xm6 t X hX;have h:=Sh (frame t X) (by rw[Dz];omega);rw[am Zp];simp only[go_sem,Q0,Q1,Q2,Q3,Q4,Q5,Q6,Q7,Q8,Q9,Qa,Qb,Qc,Qd,Qe,Qf,Qg,Qh,Qi,Qj,Qk,reduceCtorEq,reduceIte,g1,h,ZF,Et,O6]
theorem bD(B:d9)(i n:Nat)(h:0<n):bz B i n<n:=by
 unfold bz;split
 ·exact s8 _ h
 ·exact h
def kg:Nat->d9
 |0=> [97,61,49]
 |1=> [99,111,117,110,116,61,53]
 |2=> [99,111,117,110,116,61,49,55]
 |3=> [104,111,115,116,61,120]
 |4=> [109,111,100,101,32,98]
 |_=> [126]
theorem cz0:((0:Nat):Int)=0:=rfl
theorem cz1:((1:Nat):Int)=1:=rfl
theorem cz2:((2:Nat):Int)=2:=rfl
theorem cz3:((3:Nat):Int)=3:=rfl
theorem cz4:((4:Nat):Int)=4:=rfl
theorem cz5:((5:Nat):Int)=5:=rfl
theorem cz6:((6:Nat):Int)=6:=rfl
theorem cz7:((7:Nat):Int)=7:=rfl
theorem xnk(B:d9)(i:Nat)(y:B.length<=1000):call T 130 [.ptr 0 0] [bg B i] 0=some ⟨.byt (kg (bz B i 6)) .no,[(0,bg B (aV B i))],[]⟩:=by
 rw[am xit];have g:=f15 B i 6 (by omega) (by omega);have h:=bD B i 6 (by omega);rw[cz6]at g;generalize bz B i 6=v at g h;simp only[bg]at g;have:v=0\/v=1\/v=2\/v=3\/v=4\/v=5:=by omega
 rcases this with rfl|rfl|rfl|rfl|rfl|rfl<;>simp only[cz0,cz1,cz2,cz3,cz4,cz5]at g<;>simp only[go_sem,Q0,Q1,Q2,Q3,Q4,Q5,Q6,Q7,Q8,Q9,Qa,Qb,Qc,Qd,Qe,Qf,Qg,Qh,Qi,Qj,Qk,reduceCtorEq,reduceIte,List.all_replicate,cz0,cz1,cz2,cz3,cz4,cz5,cz6,cz7,bg,g,fW,kg]
theorem xk5(a:d9):call T 215 [.str a] [] 0=some ⟨.bool (Pr.nameB a),[],[]⟩:=by rw[eY xh0];rfl
theorem f218(a:d9)(c:UInt8):call T 218 [.str a,.u8 c] [] 0=some ⟨.int .i64 (Lib.indexByte a c),[],[]⟩:=by rw[eY xhY];rfl
theorem xnb(a:d9)(c:UInt8):call T 155 [.str a,.str [c]] [] 0=some ⟨.int .i64 (Lib.indexByte a c),[],[]⟩:=by rw[eY xil];rfl
theorem f82(l:d9)(h:l.length<=1000000000):call T 82 [.byt l .no] [] 0=some ⟨.str (iY l),[],[]⟩:=by rw[eY xnI];exact if_pos h
theorem Cj:∀ws:List d9,Pr.joinB ws [32]=fx ws
 |[]=>rfl
 |[w]=>Lib.join_one w [32]
 |w::v::r=>by have h:=Cj (v::r);unfold Pr.joinB at h ⊢;rw[Lib.join_cons]at h ⊢;rw[fx,<-h];simp[Lib.joinTail]
theorem f84(ws:List d9)(h:ws≠ [])(z:ws.length<=1000000000)(y:(fx ws).length<=140737488355328):call T 84 [.lst 1 (Pr.wsv ws) .no,.str [32]] [] 0=some ⟨.str (fx ws),[],[]⟩:=by rw[eY xnH];unfold Pr.p84;simp only[Pr.strsOf_wsv];rw[Cj,if_pos ⟨h,z,y⟩]
theorem xna(s:d9)(h:s.length<=1000000000):call T 157 [.str s] [] 0=some ⟨Pr.atoR s,[],[]⟩:=by rw[eY xij];exact if_pos h
theorem xm5(n:Int)(y:0<=n)(h:n<9223372036854775808):call T 207 [.int .i64 n,.int .i64 10] [] 0=some ⟨.str (dec n.toNat),[],[]⟩:=by rw[eY xh4];exact if_pos ⟨y,h,rfl⟩
theorem xni(n:Int)(h:0<=n)(y:n<9223372036854775808):call T 136 [.int .i64 n] [] 0=some ⟨.str (dec n.toNat),[],[]⟩:=by
 have g:=xm5 n h y;have z:ai.wrap n=n:=by rw[w64 (by omega) (by omega)]
 rw[am xis];simp only[go_sem,Q0,Q1,Q2,Q3,Q4,Q5,Q6,Q7,Q8,Q9,Qa,Qb,Qc,Qd,Qe,Qf,Qg,Qh,Qi,Qj,Qk,reduceCtorEq,reduceIte,g,xiE,z]
theorem f64(n:Int)(y:0<=n)(h:n<9223372036854775808):call T 64 [.int .i64 n] [] 0=some ⟨.str (dec n.toNat),[],[]⟩:=by have g:=xni n y h;rw[am xnR];simp only[go_sem,Q0,Q1,Q2,Q3,Q4,Q5,Q6,Q7,Q8,Q9,Qa,Qb,Qc,Qd,Qe,Qf,Qg,Qh,Qi,Qj,Qk,reduceCtorEq,reduceIte,g,xiP]
end Go.Proofs.YtmhhnklkcmpdkaaGreatDoor
