/- What the functions come to. No condition. -/
import Derived.Test.YtkcjdeofknkndaaGreatDoorCoIt
import Derived.Deep.Slices
open Int renaming natCast_zero -> av
open Go.IntKind renaming i64 -> ac
open List renaming cons -> iv, drop -> iu, drop_eq_getElem_cons -> aS, drop_length -> aX, drop_zero -> bh, getD_eq_getElem?_getD -> aa, getElem?_eq_getElem -> ab, take_of_length_le -> ay
set_option maxRecDepth 100000
set_option maxHeartbeats 16000000
set_option linter.unusedSimpArgs false
set_option linter.unusedVariables false
namespace Go.Proofs.YtkcjdeofknkndaaGreatDoor
open Go.Sy
open UInt8 renaming reduceLT -> Q0, reduceLE -> Q1
open Int renaming reduceToNat -> Q2, reduceLE -> Q3, reduceLT -> Q4, reduceEq -> Q5, reduceNe -> Q6, reduceNeg -> Q7, reduceAdd -> Q8, reduceSub -> Q9, reduceMul -> Qa
open Nat renaming reducePow -> Qb, reduceDiv -> Qc, reduceMod -> Qd, reduceAdd -> Qe, reduceSub -> Qf, reduceMul -> Qg, reduceLT -> Qh, reduceLeDiff -> Qi, reduceEqDiff -> Qj, reduceBEq -> Qk
theorem c0:((0:Nat):Int)=0:=rfl
theorem c1:((1:Nat):Int)=1:=rfl
theorem c12:((12:Nat):Int)=12:=rfl
theorem c2:((2:Nat):Int)=2:=rfl
theorem c20:((20:Nat):Int)=20:=rfl
theorem xnc:((200:Nat):Int)=200:=rfl
theorem xnb:((256:Nat):Int)=256:=rfl
theorem c26:((26:Nat):Int)=26:=rfl
theorem c30:((30:Nat):Int)=30:=rfl
theorem c32:((32:Nat):Int)=32:=rfl
theorem c5:((5:Nat):Int)=5:=rfl
theorem c64:((64:Nat):Int)=64:=rfl
theorem c8:((8:Nat):Int)=8:=rfl
theorem c80:((80:Nat):Int)=80:=rfl
theorem c9:((9:Nat):Int)=9:=rfl
attribute [go_sem] ry tZ ua
theorem w64{n:Int}(h1: -9223372036854775808<=n)(h2:n<=9223372036854775807):ac.wrap n=n:=by rw[IntKind.wrap_i64];omega
theorem wZ{a b:Int}(h:-9223372036854775808<=a/\a<=9223372036854775807/\a=b):ac.wrap a=b:=by rw[w64 h.1 h.2.1];exact h.2.2
theorem cg(i:Nat)(h:i<9223372036854775807):ac.wrap ((i:Int)+1)=((i+1:Nat):Int):=wZ (by omega)
theorem nf{α:Type}[Inhabited α](l:List α)(i:Nat)(h:i<l.length):l.drop i=l.getD i default::l.drop (i+1):=by rw[aS h,aa,ab h];rfl
theorem cN(l:List UInt8)(i:Nat)(h:i<l.length):l.drop i=l.getD i 0::l.drop (i+1):=nf l i h
theorem l19(a b:List UInt8)(hl:a.length<=140737488355328)(hab:a.length=b.length):∀(n i:Nat),a.length-i=n->i<=a.length->
 run T (.loop Qo) ⟨[(0,.byt a .no),(1,.byt b .no),(5,.int .i64 i)],[],[]⟩=if a.drop i=b.drop i then some (.x 0,⟨[],[],[]⟩)else some (.r,⟨[(4,.bool false)],[],[]⟩):=by
 intro n;induction n with
 |zero=>
  intro i h0 h1;have hi:i=a.length:=by omega
  subst hi;rw[ai];have e:iu a.length b=[]:=by rw[hab,aX]
  simp only[go_sem,Q0,Q1,Q2,Q3,Q4,Q5,Q6,Q7,Q8,Q9,Qa,Qb,Qc,Qd,Qe,Qf,Qg,Qh,Qi,Qj,Qk,reduceCtorEq,reduceIte,aX,e]
 |succ n ih=>
  intro i h0 h1;have hi:i<a.length:=by omega
  have hi2:i<b.length:=by omega
  rw[ai,cN a i hi,cN b i hi2];have e3:ac.wrap ((i:Int)+1)=((i+1:Nat):Int):=wZ (by omega)
  simp only[go_sem,Q0,Q1,Q2,Q3,Q4,Q5,Q6,Q7,Q8,Q9,Qa,Qb,Qc,Qd,Qe,Qf,Qg,Qh,Qi,Qj,Qk,reduceCtorEq,reduceIte,hi,hi2,e3,ih (i+1) (by omega) (by omega),iv.injEq]
  by_cases hc:a.getD i 0=b.getD i 0<;>simp only[hc,go_sem,Q0,Q1,Q2,Q3,Q4,Q5,Q6,Q7,Q8,Q9,Qa,Qb,Qc,Qd,Qe,Qf,Qg,Qh,Qi,Qj,Qk,reduceCtorEq,reduceIte]
theorem f19(a b:List UInt8)(hl:a.length<=140737488355328):call T 19 [.byt a .no,.byt b .no] [] 0=some ⟨.bool (decide (a=b)),[],[]⟩:=by
 rw[ao xn7]
 by_cases hab:a.length=b.length
 ·have h:=l19 a b hl hab _ 0 rfl (by omega)
  simp only[av,bh]at h;simp only[go_sem,Q0,Q1,Q2,Q3,Q4,Q5,Q6,Q7,Q8,Q9,Qa,Qb,Qc,Qd,Qe,Qf,Qg,Qh,Qi,Qj,Qk,reduceCtorEq,reduceIte,hab,h]
  by_cases hc:a=b<;>simp only[hc,go_sem,Q0,Q1,Q2,Q3,Q4,Q5,Q6,Q7,Q8,Q9,Qa,Qb,Qc,Qd,Qe,Qf,Qg,Qh,Qi,Qj,Qk,reduceCtorEq,reduceIte]
 ·have hc:a≠b:=fun e=>hab (by rw[e])
  simp only[go_sem,Q0,Q1,Q2,Q3,Q4,Q5,Q6,Q7,Q8,Q9,Qa,Qb,Qc,Qd,Qe,Qf,Qg,Qh,Qi,Qj,Qk,reduceCtorEq,reduceIte,hab,hc]
def C0(n m:Int):Int:=if m<1 then 0 else if n.tmod m<0 then n.tmod m+m else n.tmod m
theorem f15(a b:Int)(ha: -9223372036854775808<=a)(ha2:a<=9223372036854775807)(hb:b<=9223372036854775807):call T 15 [.int .i64 a,.int .i64 b] [] 0=some ⟨.int .i64 (C0 a b),[],[]⟩:=by
 rw[ao xoa]
 by_cases h:b<1
 ·simp only[go_sem,Q0,Q1,Q2,Q3,Q4,Q5,Q6,Q7,Q8,Q9,Qa,Qb,Qc,Qd,Qe,Qf,Qg,Qh,Qi,Qj,Qk,reduceCtorEq,reduceIte,h,C0]
 ·have h0:¬b=0:=by omega
  simp only[go_sem,Q0,Q1,Q2,Q3,Q4,Q5,Q6,Q7,Q8,Q9,Qa,Qb,Qc,Qd,Qe,Qf,Qg,Qh,Qi,Qj,Qk,reduceCtorEq,reduceIte,h,h0,C0]
  by_cases h2:a.tmod b<0
  ·have h3: -b<a.tmod b:=by
    have:=Int.lt_tmod_of_pos a (b:=b) (by omega);omega
   have h4:ac.wrap (a.tmod b+b)=a.tmod b+b:=w64 (by omega) (by omega);simp only[h2,go_sem,Q0,Q1,Q2,Q3,Q4,Q5,Q6,Q7,Q8,Q9,Qa,Qb,Qc,Qd,Qe,Qf,Qg,Qh,Qi,Qj,Qk,reduceCtorEq,reduceIte,h4]
  ·simp only[h2,go_sem,Q0,Q1,Q2,Q3,Q4,Q5,Q6,Q7,Q8,Q9,Qa,Qb,Qc,Qd,Qe,Qf,Qg,Qh,Qi,Qj,Qk,reduceCtorEq,reduceIte]
def aR(B:List UInt8)(at':Nat):aG:= .rc [.byt B .no,.int .i64 at']
theorem f29(a:List UInt8)(n:Nat):call T 29 [.byt a .no,.int .i64 n] [] 0=some ⟨.ptr 100 0,[(100,aR (a.take n) 0)],[]⟩:=by
 rw[ao xn2]
 by_cases h:n<a.length
 ·have h2:n<=a.length:=by omega
  simp only[go_sem,Q0,Q1,Q2,Q3,Q4,Q5,Q6,Q7,Q8,Q9,Qa,Qb,Qc,Qd,Qe,Qf,Qg,Qh,Qi,Qj,Qk,reduceCtorEq,reduceIte,h,h2,aR];rfl
 ·simp only[go_sem,Q0,Q1,Q2,Q3,Q4,Q5,Q6,Q7,Q8,Q9,Qa,Qb,Qc,Qd,Qe,Qf,Qg,Qh,Qi,Qj,Qk,reduceCtorEq,reduceIte,h,aR,ay (Nat.le_of_not_lt h)]
  rfl
def dw(a:List UInt8)(b n:Nat):Nat:=if b<a.length then(a.getD b 0).toNat % n else 0
def cy(a:List UInt8)(b:Nat):Nat:=if b<a.length then b+1 else b
theorem f71(a:List UInt8)(b n:Nat)(hn:0<n)(hl:a.length<=1000000000000):call T 71 [.ptr 0 0,.int .i64 n] [aR a b] 0=some ⟨.int .i64 (dw a b n),[(0,aR a (cy a b))],[]⟩:=by
 rw[ao xnx]
 by_cases h:b<a.length
 ·have h1:¬a.length<=b:=by omega
  have e1:ac.wrap ((b:Int)+1)=((b+1:Nat):Int):=wZ (by omega)
  have e2:ac.wrap (((b+1:Nat):Int)-1)=(b:Int):=wZ (by omega)
  have e3:¬(n:Int)=0:=by omega
  simp only[go_sem,Q0,Q1,Q2,Q3,Q4,Q5,Q6,Q7,Q8,Q9,Qa,Qb,Qc,Qd,Qe,Qf,Qg,Qh,Qi,Qj,Qk,reduceCtorEq,reduceIte,aR,h,h1,e1,e2,e3,dw,cy,<-Int.ofNat_tmod]
 ·have h1:a.length<=b:=by omega
  simp only[go_sem,Q0,Q1,Q2,Q3,Q4,Q5,Q6,Q7,Q8,Q9,Qa,Qb,Qc,Qd,Qe,Qf,Qg,Qh,Qi,Qj,Qk,reduceCtorEq,reduceIte,aR,h,h1,dw,cy,av]
end Go.Proofs.YtkcjdeofknkndaaGreatDoor
