/- What the functions come to. No condition. -/
import Derived.Test.YtkggincjigbelaaGreatDoorCoB
import Derived.Deep.Slices
import Derived.Ground.NamesProg
import Derived.KernelRfl
import Derived.LoopTactic
import Derived.Maps.AppendAt
import Derived.Maps.RangeWalk
import Derived.Shelf.Slices.In.SortNone
import Derived.Shelf.Sort.Plain
import Derived.Sort.OwnSortedInts
import Derived.WalkKit
import Derived.WalkSmall
open Int renaming natCast_zero -> aw
open Go.IntKind renaming i64 -> af
open List renaming cons -> nZ, drop -> gJ, drop_eq_getElem_cons -> bF, drop_length -> bG, drop_zero -> bj, getD_eq_getElem?_getD -> aa, getElem?_eq_getElem -> ab, take_of_length_le -> aO
set_option maxRecDepth 100000
set_option maxHeartbeats 16000000
set_option linter.unusedSimpArgs false
set_option linter.unusedVariables false
namespace Go.Proofs.YtkggincjigbelaaGreatDoor
open Go.Sy
open UInt8 renaming reduceLT -> Q0, reduceLE -> Q1
open Int renaming reduceToNat -> Q2, reduceLE -> Q3, reduceLT -> Q4, reduceEq -> Q5, reduceNe -> Q6, reduceNeg -> Q7, reduceAdd -> Q8, reduceSub -> Q9, reduceMul -> Qa
open Nat renaming reducePow -> Qb, reduceDiv -> Qc, reduceMod -> Qd, reduceAdd -> Qe, reduceSub -> Qf, reduceMul -> Qg, reduceLT -> Qh, reduceLeDiff -> Qi, reduceEqDiff -> Qj, reduceBEq -> Qk
theorem c0:((0:Nat):Int)=0:=rfl
theorem c1:((1:Nat):Int)=1:=rfl
theorem c12:((12:Nat):Int)=12:=rfl
theorem c15:((15:Nat):Int)=15:=rfl
theorem c16:((16:Nat):Int)=16:=rfl
theorem c2:((2:Nat):Int)=2:=rfl
theorem c20:((20:Nat):Int)=20:=rfl
theorem c30:((30:Nat):Int)=30:=rfl
theorem c32:((32:Nat):Int)=32:=rfl
theorem c35:((35:Nat):Int)=35:=rfl
theorem c6:((6:Nat):Int)=6:=rfl
theorem c64:((64:Nat):Int)=64:=rfl
theorem c8:((8:Nat):Int)=8:=rfl
attribute [go_sem] rk tU tV
theorem w64{n:Int}(h1: -9223372036854775808<=n)(h2:n<=9223372036854775807):af.wrap n=n:=by rw[IntKind.wrap_i64];omega
theorem wZ{a b:Int}(h:-9223372036854775808<=a/\a<=9223372036854775807/\a=b):af.wrap a=b:=by rw[w64 h.1 h.2.1];exact h.2.2
theorem cA(i:Nat)(h:i<9223372036854775807):af.wrap ((i:Int)+1)=((i+1:Nat):Int):=wZ (by omega)
theorem mP{α:Type}[Inhabited α](l:List α)(i:Nat)(h:i<l.length):l.drop i=l.getD i default::l.drop (i+1):=by rw[bF h,aa,ab h];rfl
theorem cP(l:List UInt8)(i:Nat)(h:i<l.length):l.drop i=l.getD i 0::l.drop (i+1):=mP l i h
theorem l18(a b:List UInt8)(hl:a.length<=140737488355328)(hab:a.length=b.length):∀(n i:Nat),a.length-i=n->i<=a.length->
 run T (.loop OO) ⟨[(0,.byt a .no),(1,.byt b .no),(5,.int .i64 i)],[],[]⟩=if a.drop i=b.drop i then some (.x 0,⟨[],[],[]⟩)else some (.r,⟨[(4,.bool false)],[],[]⟩):=by
 intro n;induction n with
 |zero=>
  intro i h0 h1;have hi:i=a.length:=by omega
  subst hi;rw[ai];have e:gJ a.length b=[]:=by rw[hab,bG]
  simp only[go_sem,Q0,Q1,Q2,Q3,Q4,Q5,Q6,Q7,Q8,Q9,Qa,Qb,Qc,Qd,Qe,Qf,Qg,Qh,Qi,Qj,Qk,reduceCtorEq,reduceIte,bG,e]
 |succ n ih=>
  intro i h0 h1;have hi:i<a.length:=by omega
  have hi2:i<b.length:=by omega
  rw[ai,cP a i hi,cP b i hi2];have e3:af.wrap ((i:Int)+1)=((i+1:Nat):Int):=wZ (by omega)
  simp only[go_sem,Q0,Q1,Q2,Q3,Q4,Q5,Q6,Q7,Q8,Q9,Qa,Qb,Qc,Qd,Qe,Qf,Qg,Qh,Qi,Qj,Qk,reduceCtorEq,reduceIte,hi,hi2,e3,ih (i+1) (by omega) (by omega),nZ.injEq]
  by_cases hc:a.getD i 0=b.getD i 0<;>simp only[hc,go_sem,Q0,Q1,Q2,Q3,Q4,Q5,Q6,Q7,Q8,Q9,Qa,Qb,Qc,Qd,Qe,Qf,Qg,Qh,Qi,Qj,Qk,reduceCtorEq,reduceIte]
theorem f18(a b:List UInt8)(hl:a.length<=140737488355328):call T 18 [.byt a .no,.byt b .no] [] 0=some ⟨.bool (decide (a=b)),[],[]⟩:=by
 rw[ah xpV]
 by_cases hab:a.length=b.length
 ·have h:=l18 a b hl hab _ 0 rfl (by omega)
  simp only[aw,bj]at h;simp only[go_sem,Q0,Q1,Q2,Q3,Q4,Q5,Q6,Q7,Q8,Q9,Qa,Qb,Qc,Qd,Qe,Qf,Qg,Qh,Qi,Qj,Qk,reduceCtorEq,reduceIte,hab,h]
  by_cases hc:a=b<;>simp only[hc,go_sem,Q0,Q1,Q2,Q3,Q4,Q5,Q6,Q7,Q8,Q9,Qa,Qb,Qc,Qd,Qe,Qf,Qg,Qh,Qi,Qj,Qk,reduceCtorEq,reduceIte]
 ·have hc:a≠b:=fun e=>hab (by rw[e])
  simp only[go_sem,Q0,Q1,Q2,Q3,Q4,Q5,Q6,Q7,Q8,Q9,Qa,Qb,Qc,Qd,Qe,Qf,Qg,Qh,Qi,Qj,Qk,reduceCtorEq,reduceIte,hab,hc]
def ik(n m:Int):Int:=if m<1 then 0 else if n.tmod m<0 then n.tmod m+m else n.tmod m
theorem f14(a b:Int)(ha: -9223372036854775808<=a)(ha2:a<=9223372036854775807)(hb:b<=9223372036854775807):call T 14 [.int .i64 a,.int .i64 b] [] 0=some ⟨.int .i64 (ik a b),[],[]⟩:=by
 rw[ah xpX]
 by_cases h:b<1
 ·simp only[go_sem,Q0,Q1,Q2,Q3,Q4,Q5,Q6,Q7,Q8,Q9,Qa,Qb,Qc,Qd,Qe,Qf,Qg,Qh,Qi,Qj,Qk,reduceCtorEq,reduceIte,h,ik]
 ·have h0:¬b=0:=by omega
  simp only[go_sem,Q0,Q1,Q2,Q3,Q4,Q5,Q6,Q7,Q8,Q9,Qa,Qb,Qc,Qd,Qe,Qf,Qg,Qh,Qi,Qj,Qk,reduceCtorEq,reduceIte,h,h0,ik]
  by_cases h2:a.tmod b<0
  ·have h3: -b<a.tmod b:=by
    have:=Int.lt_tmod_of_pos a (b:=b) (by omega);omega
   have h4:af.wrap (a.tmod b+b)=a.tmod b+b:=w64 (by omega) (by omega);simp only[h2,go_sem,Q0,Q1,Q2,Q3,Q4,Q5,Q6,Q7,Q8,Q9,Qa,Qb,Qc,Qd,Qe,Qf,Qg,Qh,Qi,Qj,Qk,reduceCtorEq,reduceIte,h4]
  ·simp only[h2,go_sem,Q0,Q1,Q2,Q3,Q4,Q5,Q6,Q7,Q8,Q9,Qa,Qb,Qc,Qd,Qe,Qf,Qg,Qh,Qi,Qj,Qk,reduceCtorEq,reduceIte]
def bO(B:List UInt8)(at':Nat):aF:= .rc [.byt B .no,.int .i64 at']
theorem f51(a:List UInt8)(n:Nat):call T 51 [.byt a .no,.int .i64 n] [] 0=some ⟨.ptr 100 0,[(100,bO (a.take n) 0)],[]⟩:=by
 rw[ah xpx]
 by_cases h:n<a.length
 ·have h2:n<=a.length:=by omega
  simp only[go_sem,Q0,Q1,Q2,Q3,Q4,Q5,Q6,Q7,Q8,Q9,Qa,Qb,Qc,Qd,Qe,Qf,Qg,Qh,Qi,Qj,Qk,reduceCtorEq,reduceIte,h,h2,bO];rfl
 ·simp only[go_sem,Q0,Q1,Q2,Q3,Q4,Q5,Q6,Q7,Q8,Q9,Qa,Qb,Qc,Qd,Qe,Qf,Qg,Qh,Qi,Qj,Qk,reduceCtorEq,reduceIte,h,bO,aO (Nat.le_of_not_lt h)]
  rfl
def js(a:List UInt8)(b n:Nat):Nat:=if b<a.length then(a.getD b 0).toNat % n else 0
def fS(a:List UInt8)(b:Nat):Nat:=if b<a.length then b+1 else b
theorem f52(a:List UInt8)(b n:Nat)(hn:0<n)(hl:a.length<=1000000000000):call T 52 [.ptr 0 0,.int .i64 n] [bO a b] 0=some ⟨.int .i64 (js a b n),[(0,bO a (fS a b))],[]⟩:=by
 rw[ah xpw]
 by_cases h:b<a.length
 ·have h1:¬a.length<=b:=by omega
  have e1:af.wrap ((b:Int)+1)=((b+1:Nat):Int):=wZ (by omega)
  have e2:af.wrap (((b+1:Nat):Int)-1)=(b:Int):=wZ (by omega)
  have e3:¬(n:Int)=0:=by omega
  simp only[go_sem,Q0,Q1,Q2,Q3,Q4,Q5,Q6,Q7,Q8,Q9,Qa,Qb,Qc,Qd,Qe,Qf,Qg,Qh,Qi,Qj,Qk,reduceCtorEq,reduceIte,bO,h,h1,e1,e2,e3,js,fS,<-Int.ofNat_tmod]
 ·have h1:a.length<=b:=by omega
  simp only[go_sem,Q0,Q1,Q2,Q3,Q4,Q5,Q6,Q7,Q8,Q9,Qa,Qb,Qc,Qd,Qe,Qf,Qg,Qh,Qi,Qj,Qk,reduceCtorEq,reduceIte,bO,h,h1,js,fS,aw]
end Go.Proofs.YtkggincjigbelaaGreatDoor
