/- Contracts. No condition. -/
import Derived.Test.YtdafipacemgcoaaGreatDoorCoMD
open Int renaming natCast_zero -> aH
open Go.IntKind renaming i64 -> aj
open List renaming cons -> io, drop -> lm, drop_eq_getElem_cons -> aU, drop_length -> bh, drop_zero -> bi, getD_eq_getElem?_getD -> aa, getElem?_eq_getElem -> af, take_of_length_le -> cg
set_option maxRecDepth 100000
set_option maxHeartbeats 16000000
set_option linter.unusedSimpArgs false
set_option linter.unusedVariables false
namespace Go.Proofs.YtdafipacemgcoaaGreatDoor
open Go.Sy
open UInt8 renaming reduceLT -> Q0, reduceLE -> Q1
open Int renaming reduceToNat -> Q2, reduceLE -> Q3, reduceLT -> Q4, reduceEq -> Q5, reduceNe -> Q6, reduceNeg -> Q7, reduceAdd -> Q8, reduceSub -> Q9, reduceMul -> Qa
open Nat renaming reducePow -> Qb, reduceDiv -> Qc, reduceMod -> Qd, reduceAdd -> Qe, reduceSub -> Qf, reduceMul -> Qg, reduceLT -> Qh, reduceLeDiff -> Qi, reduceEqDiff -> Qj, reduceBEq -> Qk
theorem c0:((0:Nat):Int)=0:=rfl
theorem c1:((1:Nat):Int)=1:=rfl
theorem c10:((10:Nat):Int)=10:=rfl
theorem c2:((2:Nat):Int)=2:=rfl
theorem xkt:((200:Nat):Int)=200:=rfl
theorem xks:((256:Nat):Int)=256:=rfl
theorem c5:((5:Nat):Int)=5:=rfl
theorem c64:((64:Nat):Int)=64:=rfl
theorem c8:((8:Nat):Int)=8:=rfl
theorem c80:((80:Nat):Int)=80:=rfl
theorem c9:((9:Nat):Int)=9:=rfl
attribute [go_sem] qp sT sU
theorem w64{n:Int}(h: -9223372036854775808<=n)(z:n<=9223372036854775807):aj.wrap n=n:=by rw[IntKind.wrap_i64];omega
theorem wZ{a b:Int}(h:-9223372036854775808<=a/\a<=9223372036854775807/\a=b):aj.wrap a=b:=by rw[w64 h.1 h.2.1];exact h.2.2
theorem cA(i:Nat)(h:i<9223372036854775807):aj.wrap ((i:Int)+1)=((i+1:Nat):Int):=wZ (by omega)
theorem mM{α:Type}[Inhabited α](l:List α)(i:Nat)(h:i<l.length):l.drop i=l.getD i default::l.drop (i+1):=by rw[aU h,aa,af h];rfl
theorem dp(l:t6)(i:Nat)(h:i<l.length):l.drop i=l.getD i 0::l.drop (i+1):=mM l i h
theorem l25(a b:t6)(I:a.length<=140737488355328)(z:a.length=b.length):∀(n i:Nat),a.length-i=n->i<=a.length->
 run T (.loop NB) ⟨[(0,.byt a .no),(1,.byt b .no),(5,.int .i64 i)],[],[]⟩=if a.drop i=b.drop i then some (.x 0,⟨[],[],[]⟩)else some (.r,⟨[(4,.bool false)],[],[]⟩):=by
 intro n;induction n with
 |zero=>
  intro i F E;have hi:i=a.length:=by omega
  subst hi;rw[al];have e:lm a.length b=[]:=by rw[z,bh]
  simp only[go_sem,Q0,Q1,Q2,Q3,Q4,Q5,Q6,Q7,Q8,Q9,Qa,Qb,Qc,Qd,Qe,Qf,Qg,Qh,Qi,Qj,Qk,reduceCtorEq,reduceIte,bh,e]
 |succ n H=>
  intro i F E;have hi:i<a.length:=by omega
  have h:i<b.length:=by omega
  rw[al,dp a i hi,dp b i h];have C:aj.wrap ((i:Int)+1)=((i+1:Nat):Int):=wZ (by omega)
  simp only[go_sem,Q0,Q1,Q2,Q3,Q4,Q5,Q6,Q7,Q8,Q9,Qa,Qb,Qc,Qd,Qe,Qf,Qg,Qh,Qi,Qj,Qk,reduceCtorEq,reduceIte,hi,h,C,H (i+1) (by omega) (by omega),io.injEq]
  by_cases B:a.getD i 0=b.getD i 0<;>simp only[B,go_sem,Q0,Q1,Q2,Q3,Q4,Q5,Q6,Q7,Q8,Q9,Qa,Qb,Qc,Qd,Qe,Qf,Qg,Qh,Qi,Qj,Qk,reduceCtorEq,reduceIte]
theorem f25(a b:t6)(C:a.length<=140737488355328):call T 25 [.byt a .no,.byt b .no] [] 0=some ⟨.bool (decide (a=b)),[],[]⟩:=by
 rw[az xli]
 by_cases z:a.length=b.length
 ·have h:=l25 a b C z _ 0 rfl (by omega)
  simp only[aH,bi]at h;simp only[go_sem,Q0,Q1,Q2,Q3,Q4,Q5,Q6,Q7,Q8,Q9,Qa,Qb,Qc,Qd,Qe,Qf,Qg,Qh,Qi,Qj,Qk,reduceCtorEq,reduceIte,z,h]
  by_cases B:a=b<;>simp only[B,go_sem,Q0,Q1,Q2,Q3,Q4,Q5,Q6,Q7,Q8,Q9,Qa,Qb,Qc,Qd,Qe,Qf,Qg,Qh,Qi,Qj,Qk,reduceCtorEq,reduceIte]
 ·have B:a≠b:=fun e=>z (by rw[e])
  simp only[go_sem,Q0,Q1,Q2,Q3,Q4,Q5,Q6,Q7,Q8,Q9,Qa,Qb,Qc,Qd,Qe,Qf,Qg,Qh,Qi,Qj,Qk,reduceCtorEq,reduceIte,z,B]
def me(n m:Int):Int:=if m<1 then 0 else if n.tmod m<0 then n.tmod m+m else n.tmod m
theorem f18(a b:Int)(F: -9223372036854775808<=a)(C:a<=9223372036854775807)(H:b<=9223372036854775807):call T 18 [.int .i64 a,.int .i64 b] [] 0=some ⟨.int .i64 (me a b),[],[]⟩:=by
 rw[az xll]
 by_cases h:b<1
 ·simp only[go_sem,Q0,Q1,Q2,Q3,Q4,Q5,Q6,Q7,Q8,Q9,Qa,Qb,Qc,Qd,Qe,Qf,Qg,Qh,Qi,Qj,Qk,reduceCtorEq,reduceIte,h,me]
 ·have B:¬b=0:=by omega
  simp only[go_sem,Q0,Q1,Q2,Q3,Q4,Q5,Q6,Q7,Q8,Q9,Qa,Qb,Qc,Qd,Qe,Qf,Qg,Qh,Qi,Qj,Qk,reduceCtorEq,reduceIte,h,B,me]
  by_cases z:a.tmod b<0
  ·have I: -b<a.tmod b:=by
    have:=Int.lt_tmod_of_pos a (b:=b) (by omega);omega
   have E:aj.wrap (a.tmod b+b)=a.tmod b+b:=w64 (by omega) (by omega);simp only[z,go_sem,Q0,Q1,Q2,Q3,Q4,Q5,Q6,Q7,Q8,Q9,Qa,Qb,Qc,Qd,Qe,Qf,Qg,Qh,Qi,Qj,Qk,reduceCtorEq,reduceIte,E]
  ·simp only[z,go_sem,Q0,Q1,Q2,Q3,Q4,Q5,Q6,Q7,Q8,Q9,Qa,Qb,Qc,Qd,Qe,Qf,Qg,Qh,Qi,Qj,Qk,reduceCtorEq,reduceIte]
def bN(B:t6)(h:Nat):aC:= .rc [.byt B .no,.int .i64 h]
theorem f35(a:t6)(n:Nat):call T 35 [.byt a .no,.int .i64 n] [] 0=some ⟨.ptr 100 0,[(100,bN (a.take n) 0)],[]⟩:=by
 rw[az xlb]
 by_cases h:n<a.length
 ·have z:n<=a.length:=by omega
  simp only[go_sem,Q0,Q1,Q2,Q3,Q4,Q5,Q6,Q7,Q8,Q9,Qa,Qb,Qc,Qd,Qe,Qf,Qg,Qh,Qi,Qj,Qk,reduceCtorEq,reduceIte,h,z,bN];rfl
 ·simp only[go_sem,Q0,Q1,Q2,Q3,Q4,Q5,Q6,Q7,Q8,Q9,Qa,Qb,Qc,Qd,Qe,Qf,Qg,Qh,Qi,Qj,Qk,reduceCtorEq,reduceIte,h,bN,cg (Nat.le_of_not_lt h)]
  rfl
def dX(a:t6)(b n:Nat):Nat:=if b<a.length then(a.getD b 0).toNat % n else 0
def cX(a:t6)(b:Nat):Nat:=if b<a.length then b+1 else b
theorem f37(a:t6)(b n:Nat)(hn:0<n)(F:a.length<=1000000000000):call T 37 [.ptr 0 0,.int .i64 n] [bN a b] 0=some ⟨.int .i64 (dX a b n),[(0,bN a (cX a b))],[]⟩:=by
 rw[az xla]
 by_cases h:b<a.length
 ·have z:¬a.length<=b:=by omega
  have E:aj.wrap ((b:Int)+1)=((b+1:Nat):Int):=wZ (by omega)
  have B:aj.wrap (((b+1:Nat):Int)-1)=(b:Int):=wZ (by omega)
  have C:¬(n:Int)=0:=by omega
  simp only[go_sem,Q0,Q1,Q2,Q3,Q4,Q5,Q6,Q7,Q8,Q9,Qa,Qb,Qc,Qd,Qe,Qf,Qg,Qh,Qi,Qj,Qk,reduceCtorEq,reduceIte,bN,h,z,E,B,C,dX,cX,<-Int.ofNat_tmod]
 ·have z:a.length<=b:=by omega
  simp only[go_sem,Q0,Q1,Q2,Q3,Q4,Q5,Q6,Q7,Q8,Q9,Qa,Qb,Qc,Qd,Qe,Qf,Qg,Qh,Qi,Qj,Qk,reduceCtorEq,reduceIte,bN,h,z,dX,cX,aH]
end Go.Proofs.YtdafipacemgcoaaGreatDoor
