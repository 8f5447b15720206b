/- What the functions come to. No condition. -/
import Derived.Test.YtkggincjigbelaaGreatDoorCoD
import Derived.Ground.NamesProg
import Derived.KernelRfl
import Derived.LoopTactic
import Derived.Maps.AppendAt
import Derived.Maps.RangeWalk
import Derived.Shelf.Slices.In.SortNone
import Derived.Shelf.Sort.Plain
import Derived.Sort.OwnSortedInts
import Derived.WalkKit
import Derived.WalkSmall
open Int renaming natCast_zero -> aB
open Go.IntKind renaming i64 -> af
open List renaming cons -> tg, drop_eq_getElem_cons -> bq, drop_length -> bP, drop_zero -> bj, getD_eq_getElem?_getD -> aa, getElem?_eq_getElem -> ab, take_of_length_le -> bf
set_option maxRecDepth 100000
set_option maxHeartbeats 16000000
set_option linter.unusedSimpArgs false
set_option linter.unusedVariables false
namespace Go.Proofs.YtkggincjigbelaaGreatDoor
open Go.Sy
open UInt8 renaming reduceLT -> Q0, reduceLE -> Q1
open Int renaming reduceToNat -> Q2, reduceLE -> Q3, reduceLT -> Q4, reduceEq -> Q5, reduceNe -> Q6, reduceNeg -> Q7, reduceAdd -> Q8, reduceSub -> Q9, reduceMul -> Qa
open Nat renaming reducePow -> Qb, reduceDiv -> Qc, reduceMod -> Qd, reduceAdd -> Qe, reduceSub -> Qf, reduceMul -> Qg, reduceLT -> Qh, reduceLeDiff -> Qi, reduceEqDiff -> Qj, reduceBEq -> Qk
theorem c0:((0:Nat):Int)=0:=rfl
theorem c1:((1:Nat):Int)=1:=rfl
theorem c15:((15:Nat):Int)=15:=rfl
theorem c16:((16:Nat):Int)=16:=rfl
theorem c2:((2:Nat):Int)=2:=rfl
theorem xl3:((200:Nat):Int)=200:=rfl
theorem xl2:((256:Nat):Int)=256:=rfl
theorem c32:((32:Nat):Int)=32:=rfl
theorem c35:((35:Nat):Int)=35:=rfl
theorem c6:((6:Nat):Int)=6:=rfl
theorem c64:((64:Nat):Int)=64:=rfl
theorem c8:((8:Nat):Int)=8:=rfl
theorem c9:((9:Nat):Int)=9:=rfl
attribute [go_sem] pF sh si
theorem w64{n:Int}(h1: -9223372036854775808<=n)(h2:n<=9223372036854775807):af.wrap n=n:=by rw[IntKind.wrap_i64];omega
theorem wZ{a b:Int}(h:-9223372036854775808<=a/\a<=9223372036854775807/\a=b):af.wrap a=b:=by rw[w64 h.1 h.2.1];exact h.2.2
theorem cR(i:Nat)(h:i<9223372036854775807):af.wrap ((i:Int)+1)=((i+1:Nat):Int):=wZ (by omega)
theorem qj{α:Type}[Inhabited α](l:List α)(i:Nat)(h:i<l.length):l.drop i=l.getD i default::l.drop (i+1):=by rw[bq h,aa,ab h];rfl
theorem de(l:List UInt8)(i:Nat)(h:i<l.length):l.drop i=l.getD i 0::l.drop (i+1):=qj l i h
theorem l18(a b:List UInt8)(hl:a.length<=140737488355328)(hab:a.length=b.length):∀(n i:Nat),a.length-i=n->i<=a.length->
 run T (.loop Nn) ⟨[(0,.byt a .no),(1,.byt b .no),(5,.int .i64 i)],[],[]⟩=if a.drop i=b.drop i then some (.x 0,⟨[],[],[]⟩)else some (.r,⟨[(4,.bool false)],[],[]⟩):=by
 intro n;induction n with
 |zero=>
  intro i h0 h1;have hi:i=a.length:=by omega
  subst hi;rw[ah];have e:List.drop a.length b=[]:=by rw[hab,bP]
  simp only[go_sem,Q0,Q1,Q2,Q3,Q4,Q5,Q6,Q7,Q8,Q9,Qa,Qb,Qc,Qd,Qe,Qf,Qg,Qh,Qi,Qj,Qk,reduceCtorEq,reduceIte,bP,e]
 |succ n ih=>
  intro i h0 h1;have hi:i<a.length:=by omega
  have hi2:i<b.length:=by omega
  rw[ah,de a i hi,de b i hi2];have e3:af.wrap ((i:Int)+1)=((i+1:Nat):Int):=wZ (by omega)
  simp only[go_sem,Q0,Q1,Q2,Q3,Q4,Q5,Q6,Q7,Q8,Q9,Qa,Qb,Qc,Qd,Qe,Qf,Qg,Qh,Qi,Qj,Qk,reduceCtorEq,reduceIte,hi,hi2,e3,ih (i+1) (by omega) (by omega),tg.injEq]
  by_cases hc:a.getD i 0=b.getD i 0<;>simp only[hc,go_sem,Q0,Q1,Q2,Q3,Q4,Q5,Q6,Q7,Q8,Q9,Qa,Qb,Qc,Qd,Qe,Qf,Qg,Qh,Qi,Qj,Qk,reduceCtorEq,reduceIte]
theorem f18(a b:List UInt8)(hl:a.length<=140737488355328):call T 18 [.byt a .no,.byt b .no] [] 0=some ⟨.bool (decide (a=b)),[],[]⟩:=by
 rw[aj xmQ]
 by_cases hab:a.length=b.length
 ·have h:=l18 a b hl hab _ 0 rfl (by omega)
  simp only[aB,bj]at h;simp only[go_sem,Q0,Q1,Q2,Q3,Q4,Q5,Q6,Q7,Q8,Q9,Qa,Qb,Qc,Qd,Qe,Qf,Qg,Qh,Qi,Qj,Qk,reduceCtorEq,reduceIte,hab,h]
  by_cases hc:a=b<;>simp only[hc,go_sem,Q0,Q1,Q2,Q3,Q4,Q5,Q6,Q7,Q8,Q9,Qa,Qb,Qc,Qd,Qe,Qf,Qg,Qh,Qi,Qj,Qk,reduceCtorEq,reduceIte]
 ·have hc:a≠b:=fun e=>hab (by rw[e])
  simp only[go_sem,Q0,Q1,Q2,Q3,Q4,Q5,Q6,Q7,Q8,Q9,Qa,Qb,Qc,Qd,Qe,Qf,Qg,Qh,Qi,Qj,Qk,reduceCtorEq,reduceIte,hab,hc]
def gS(n m:Int):Int:=if m<1 then 0 else if n.tmod m<0 then n.tmod m+m else n.tmod m
theorem f14(a b:Int)(ha: -9223372036854775808<=a)(ha2:a<=9223372036854775807)(hb:b<=9223372036854775807):call T 14 [.int .i64 a,.int .i64 b] [] 0=some ⟨.int .i64 (gS a b),[],[]⟩:=by
 rw[aj xmS]
 by_cases h:b<1
 ·simp only[go_sem,Q0,Q1,Q2,Q3,Q4,Q5,Q6,Q7,Q8,Q9,Qa,Qb,Qc,Qd,Qe,Qf,Qg,Qh,Qi,Qj,Qk,reduceCtorEq,reduceIte,h,gS]
 ·have h0:¬b=0:=by omega
  simp only[go_sem,Q0,Q1,Q2,Q3,Q4,Q5,Q6,Q7,Q8,Q9,Qa,Qb,Qc,Qd,Qe,Qf,Qg,Qh,Qi,Qj,Qk,reduceCtorEq,reduceIte,h,h0,gS]
  by_cases h2:a.tmod b<0
  ·have h3: -b<a.tmod b:=by
    have:=Int.lt_tmod_of_pos a (b:=b) (by omega);omega
   have h4:af.wrap (a.tmod b+b)=a.tmod b+b:=w64 (by omega) (by omega);simp only[h2,go_sem,Q0,Q1,Q2,Q3,Q4,Q5,Q6,Q7,Q8,Q9,Qa,Qb,Qc,Qd,Qe,Qf,Qg,Qh,Qi,Qj,Qk,reduceCtorEq,reduceIte,h4]
  ·simp only[h2,go_sem,Q0,Q1,Q2,Q3,Q4,Q5,Q6,Q7,Q8,Q9,Qa,Qb,Qc,Qd,Qe,Qf,Qg,Qh,Qi,Qj,Qk,reduceCtorEq,reduceIte]
def bG(B:List UInt8)(at':Nat):aE:= .rc [.byt B .no,.int .i64 at']
theorem f51(a:List UInt8)(n:Nat):call T 51 [.byt a .no,.int .i64 n] [] 0=some ⟨.ptr 100 0,[(100,bG (a.take n) 0)],[]⟩:=by
 rw[aj xmw]
 by_cases h:n<a.length
 ·have h2:n<=a.length:=by omega
  simp only[go_sem,Q0,Q1,Q2,Q3,Q4,Q5,Q6,Q7,Q8,Q9,Qa,Qb,Qc,Qd,Qe,Qf,Qg,Qh,Qi,Qj,Qk,reduceCtorEq,reduceIte,h,h2,bG];rfl
 ·simp only[go_sem,Q0,Q1,Q2,Q3,Q4,Q5,Q6,Q7,Q8,Q9,Qa,Qb,Qc,Qd,Qe,Qf,Qg,Qh,Qi,Qj,Qk,reduceCtorEq,reduceIte,h,bG,bf (Nat.le_of_not_lt h)]
  rfl
def dL(a:List UInt8)(b n:Nat):Nat:=if b<a.length then(a.getD b 0).toNat % n else 0
def cP(a:List UInt8)(b:Nat):Nat:=if b<a.length then b+1 else b
theorem f52(a:List UInt8)(b n:Nat)(hn:0<n)(hl:a.length<=1000000000000):call T 52 [.ptr 0 0,.int .i64 n] [bG a b] 0=some ⟨.int .i64 (dL a b n),[(0,bG a (cP a b))],[]⟩:=by
 rw[aj xmv]
 by_cases h:b<a.length
 ·have h1:¬a.length<=b:=by omega
  have e1:af.wrap ((b:Int)+1)=((b+1:Nat):Int):=wZ (by omega)
  have e2:af.wrap (((b+1:Nat):Int)-1)=(b:Int):=wZ (by omega)
  have e3:¬(n:Int)=0:=by omega
  simp only[go_sem,Q0,Q1,Q2,Q3,Q4,Q5,Q6,Q7,Q8,Q9,Qa,Qb,Qc,Qd,Qe,Qf,Qg,Qh,Qi,Qj,Qk,reduceCtorEq,reduceIte,bG,h,h1,e1,e2,e3,dL,cP,<-Int.ofNat_tmod]
 ·have h1:a.length<=b:=by omega
  simp only[go_sem,Q0,Q1,Q2,Q3,Q4,Q5,Q6,Q7,Q8,Q9,Qa,Qb,Qc,Qd,Qe,Qf,Qg,Qh,Qi,Qj,Qk,reduceCtorEq,reduceIte,bG,h,h1,dL,cP,aB]
end Go.Proofs.YtkggincjigbelaaGreatDoor
