/- Contracts. No condition. -/
import Derived.Test.YtkcjdeofknkndaaGreatDoorCoDF
import Derived.Deep.Slices
open Int renaming natCast_zero -> aD
open Go.IntKind renaming i64 -> ai
open List renaming cons -> jp, drop -> lv, drop_eq_getElem_cons -> aY, drop_length -> bv, drop_zero -> bh, getD_eq_getElem?_getD -> aa, getElem?_eq_getElem -> ab, take_of_length_le -> bT
set_option maxRecDepth 100000
set_option maxHeartbeats 16000000
set_option linter.unusedSimpArgs false
set_option linter.unusedVariables false
namespace Go.Proofs.YtkcjdeofknkndaaGreatDoor
open Go.Sy
open UInt8 renaming reduceLT -> Q0, reduceLE -> Q1
open Int renaming reduceToNat -> Q2, reduceLE -> Q3, reduceLT -> Q4, reduceEq -> Q5, reduceNe -> Q6, reduceNeg -> Q7, reduceAdd -> Q8, reduceSub -> Q9, reduceMul -> Qa
open Nat renaming reducePow -> Qb, reduceDiv -> Qc, reduceMod -> Qd, reduceAdd -> Qe, reduceSub -> Qf, reduceMul -> Qg, reduceLT -> Qh, reduceLeDiff -> Qi, reduceEqDiff -> Qj, reduceBEq -> Qk
theorem c0:((0:Nat):Int)=0:=rfl
theorem c1:((1:Nat):Int)=1:=rfl
theorem c2:((2:Nat):Int)=2:=rfl
theorem xkN:((200:Nat):Int)=200:=rfl
theorem xkM:((256:Nat):Int)=256:=rfl
theorem c26:((26:Nat):Int)=26:=rfl
theorem c32:((32:Nat):Int)=32:=rfl
theorem c5:((5:Nat):Int)=5:=rfl
theorem c64:((64:Nat):Int)=64:=rfl
theorem c8:((8:Nat):Int)=8:=rfl
theorem c80:((80:Nat):Int)=80:=rfl
theorem c9:((9:Nat):Int)=9:=rfl
attribute [go_sem] qC sZ s5
theorem w64{n:Int}(h: -9223372036854775808<=n)(y:n<=9223372036854775807):ai.wrap n=n:=by rw[IntKind.wrap_i64];omega
theorem wZ{a b:Int}(h:-9223372036854775808<=a/\a<=9223372036854775807/\a=b):ai.wrap a=b:=by rw[w64 h.1 h.2.1];exact h.2.2
theorem cA(i:Nat)(h:i<9223372036854775807):ai.wrap ((i:Int)+1)=((i+1:Nat):Int):=wZ (by omega)
theorem rm{α:Type}[Inhabited α](l:List α)(i:Nat)(h:i<l.length):l.drop i=l.getD i default::l.drop (i+1):=by rw[aY h,aa,ab h];rfl
theorem da(l:t6)(i:Nat)(h:i<l.length):l.drop i=l.getD i 0::l.drop (i+1):=rm l i h
theorem l19(a b:t6)(I:a.length<=140737488355328)(y:a.length=b.length):∀(n i:Nat),a.length-i=n->i<=a.length->
 run T (.loop NX) ⟨[(0,.byt a .no),(1,.byt b .no),(5,.int .i64 i)],[],[]⟩=if a.drop i=b.drop i then some (.x 0,⟨[],[],[]⟩)else some (.r,⟨[(4,.bool false)],[],[]⟩):=by
 intro n;induction n with
 |zero=>
  intro i F C;have hi:i=a.length:=by omega
  subst hi;rw[al];have e:lv a.length b=[]:=by rw[y,bv]
  simp only[go_sem,Q0,Q1,Q2,Q3,Q4,Q5,Q6,Q7,Q8,Q9,Qa,Qb,Qc,Qd,Qe,Qf,Qg,Qh,Qi,Qj,Qk,reduceCtorEq,reduceIte,bv,e]
 |succ n H=>
  intro i F C;have hi:i<a.length:=by omega
  have h:i<b.length:=by omega
  rw[al,da a i hi,da b i h];have E:ai.wrap ((i:Int)+1)=((i+1:Nat):Int):=wZ (by omega)
  simp only[go_sem,Q0,Q1,Q2,Q3,Q4,Q5,Q6,Q7,Q8,Q9,Qa,Qb,Qc,Qd,Qe,Qf,Qg,Qh,Qi,Qj,Qk,reduceCtorEq,reduceIte,hi,h,E,H (i+1) (by omega) (by omega),jp.injEq]
  by_cases z:a.getD i 0=b.getD i 0<;>simp only[z,go_sem,Q0,Q1,Q2,Q3,Q4,Q5,Q6,Q7,Q8,Q9,Qa,Qb,Qc,Qd,Qe,Qf,Qg,Qh,Qi,Qj,Qk,reduceCtorEq,reduceIte]
theorem f19(a b:t6)(C:a.length<=140737488355328):call T 19 [.byt a .no,.byt b .no] [] 0=some ⟨.bool (decide (a=b)),[],[]⟩:=by
 rw[au xlB]
 by_cases y:a.length=b.length
 ·have h:=l19 a b C y _ 0 rfl (by omega)
  simp only[aD,bh]at h;simp only[go_sem,Q0,Q1,Q2,Q3,Q4,Q5,Q6,Q7,Q8,Q9,Qa,Qb,Qc,Qd,Qe,Qf,Qg,Qh,Qi,Qj,Qk,reduceCtorEq,reduceIte,y,h]
  by_cases z:a=b<;>simp only[z,go_sem,Q0,Q1,Q2,Q3,Q4,Q5,Q6,Q7,Q8,Q9,Qa,Qb,Qc,Qd,Qe,Qf,Qg,Qh,Qi,Qj,Qk,reduceCtorEq,reduceIte]
 ·have z:a≠b:=fun e=>y (by rw[e])
  simp only[go_sem,Q0,Q1,Q2,Q3,Q4,Q5,Q6,Q7,Q8,Q9,Qa,Qb,Qc,Qd,Qe,Qf,Qg,Qh,Qi,Qj,Qk,reduceCtorEq,reduceIte,y,z]
def mQ(n m:Int):Int:=if m<1 then 0 else if n.tmod m<0 then n.tmod m+m else n.tmod m
theorem f15(a b:Int)(F: -9223372036854775808<=a)(C:a<=9223372036854775807)(H:b<=9223372036854775807):call T 15 [.int .i64 a,.int .i64 b] [] 0=some ⟨.int .i64 (mQ a b),[],[]⟩:=by
 rw[au xlE]
 by_cases h:b<1
 ·simp only[go_sem,Q0,Q1,Q2,Q3,Q4,Q5,Q6,Q7,Q8,Q9,Qa,Qb,Qc,Qd,Qe,Qf,Qg,Qh,Qi,Qj,Qk,reduceCtorEq,reduceIte,h,mQ]
 ·have z:¬b=0:=by omega
  simp only[go_sem,Q0,Q1,Q2,Q3,Q4,Q5,Q6,Q7,Q8,Q9,Qa,Qb,Qc,Qd,Qe,Qf,Qg,Qh,Qi,Qj,Qk,reduceCtorEq,reduceIte,h,z,mQ]
  by_cases y:a.tmod b<0
  ·have I: -b<a.tmod b:=by
    have:=Int.lt_tmod_of_pos a (b:=b) (by omega);omega
   have E:ai.wrap (a.tmod b+b)=a.tmod b+b:=w64 (by omega) (by omega);simp only[y,go_sem,Q0,Q1,Q2,Q3,Q4,Q5,Q6,Q7,Q8,Q9,Qa,Qb,Qc,Qd,Qe,Qf,Qg,Qh,Qi,Qj,Qk,reduceCtorEq,reduceIte,E]
  ·simp only[y,go_sem,Q0,Q1,Q2,Q3,Q4,Q5,Q6,Q7,Q8,Q9,Qa,Qb,Qc,Qd,Qe,Qf,Qg,Qh,Qi,Qj,Qk,reduceCtorEq,reduceIte]
def bK(B:t6)(h:Nat):aC:= .rc [.byt B .no,.int .i64 h]
theorem f29(a:t6)(n:Nat):call T 29 [.byt a .no,.int .i64 n] [] 0=some ⟨.ptr 100 0,[(100,bK (a.take n) 0)],[]⟩:=by
 rw[au xly]
 by_cases h:n<a.length
 ·have y:n<=a.length:=by omega
  simp only[go_sem,Q0,Q1,Q2,Q3,Q4,Q5,Q6,Q7,Q8,Q9,Qa,Qb,Qc,Qd,Qe,Qf,Qg,Qh,Qi,Qj,Qk,reduceCtorEq,reduceIte,h,y,bK];rfl
 ·simp only[go_sem,Q0,Q1,Q2,Q3,Q4,Q5,Q6,Q7,Q8,Q9,Qa,Qb,Qc,Qd,Qe,Qf,Qg,Qh,Qi,Qj,Qk,reduceCtorEq,reduceIte,h,bK,bT (Nat.le_of_not_lt h)]
  rfl
def dR(a:t6)(b n:Nat):Nat:=if b<a.length then(a.getD b 0).toNat % n else 0
def cX(a:t6)(b:Nat):Nat:=if b<a.length then b+1 else b
theorem f71(a:t6)(b n:Nat)(hn:0<n)(F:a.length<=1000000000000):call T 71 [.ptr 0 0,.int .i64 n] [bK a b] 0=some ⟨.int .i64 (dR a b n),[(0,bK a (cX a b))],[]⟩:=by
 rw[au xk7]
 by_cases h:b<a.length
 ·have y:¬a.length<=b:=by omega
  have E:ai.wrap ((b:Int)+1)=((b+1:Nat):Int):=wZ (by omega)
  have C:ai.wrap (((b+1:Nat):Int)-1)=(b:Int):=wZ (by omega)
  have z:¬(n:Int)=0:=by omega
  simp only[go_sem,Q0,Q1,Q2,Q3,Q4,Q5,Q6,Q7,Q8,Q9,Qa,Qb,Qc,Qd,Qe,Qf,Qg,Qh,Qi,Qj,Qk,reduceCtorEq,reduceIte,bK,h,y,E,C,z,dR,cX,<-Int.ofNat_tmod]
 ·have y:a.length<=b:=by omega
  simp only[go_sem,Q0,Q1,Q2,Q3,Q4,Q5,Q6,Q7,Q8,Q9,Qa,Qb,Qc,Qd,Qe,Qf,Qg,Qh,Qi,Qj,Qk,reduceCtorEq,reduceIte,bK,h,y,dR,cX,aD]
end Go.Proofs.YtkcjdeofknkndaaGreatDoor
