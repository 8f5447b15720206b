/- What the functions come to. No condition. -/
import Derived.Test.YtkggincjigbelaaGreatDoorTkD
open Bool renaming and_eq_true -> aA, or_eq_true -> eu
open List renaming mem_append -> al, mem_range -> dH, mem_singleton -> aY, range -> bD
set_option maxRecDepth 100000
set_option maxHeartbeats 16000000
set_option linter.unusedSimpArgs false
set_option linter.unusedVariables false
namespace Go.Proofs.YtkggincjigbelaaGreatDoor
open Go.Sy
open UInt8 renaming reduceLT -> Q0, reduceLE -> Q1
open Int renaming reduceToNat -> Q2, reduceLE -> Q3, reduceLT -> Q4, reduceEq -> Q5, reduceNe -> Q6, reduceNeg -> Q7, reduceAdd -> Q8, reduceSub -> Q9, reduceMul -> Qa
open Nat renaming reducePow -> Qb, reduceDiv -> Qc, reduceMod -> Qd, reduceAdd -> Qe, reduceSub -> Qf, reduceMul -> Qg, reduceLT -> Qh, reduceLeDiff -> Qi, reduceEqDiff -> Qj, reduceBEq -> Qk
section
variable (aid mid : Nat -> Int) (V : Nat -> Nat -> Bool)
def gdF(n j:Nat):Bool:=(bD n).any fun i=>decide (aid i=mid j)&&V i j
theorem A5(n j:Nat):gdF aid mid V n j=true↔∃i,i<n/\aid i=mid j/\V i j=true:=by
 unfold gdF;rw[List.any_eq_true];constructor
 ·rintro⟨i,hi,h⟩
  simp only[aA,decide_eq_true_eq]at h;exact⟨i,dH.1 hi,h.1,h.2⟩
 ·rintro⟨i,hi,h1,h2⟩
  exact⟨i,dH.2 hi,by simp[h1,h2]⟩
theorem AT(j:Nat)(ks:List Int)(x:Int):∀n,x∈Si.inn aid mid V j ks n↔x∈ks\/∃i,i<n/\aid i=mid j/\V i j=true/\aid i=x
 |0=>by simp[Si.inn]
 |n+1=>by
  have ih:=AT j ks x n;show x∈Si.stp aid mid V (Si.inn aid mid V j ks n) n j↔_
  have e:(∃i,i<n+1/\aid i=mid j/\V i j=true/\aid i=x)↔(∃i,i<n/\aid i=mid j/\V i j=true/\aid i=x)\/(aid n=mid j/\V n j=true/\aid n=x):=by
   constructor
   ·rintro⟨i,h1,h2⟩
    by_cases e:i=n
    ·subst e;exact .inr h2
    ·exact .inl ⟨i,by omega,h2⟩
   ·rintro(⟨i,h1,h2⟩|h2)
    ·exact⟨i,by omega,h2⟩
    ·exact⟨n,by omega,h2⟩
  rw[e];unfold Si.stp;split
  ·rename_i hc
   rw[al,ih,aY];constructor
   ·rintro((h|h)|h)
    ·exact .inl h
    ·exact .inr (.inl h)
    ·exact .inr (.inr ⟨hc.1,hc.2.2,h.symm⟩)
   ·rintro(h|h|h)
    ·exact .inl (.inl h)
    ·exact .inl (.inr h)
    ·exact .inr h.2.2.symm
  ·rename_i hc
   constructor
   ·intro h
    rcases ih.1 h with h|h
    ·exact .inl h
    ·exact .inr (.inl h)
   ·rintro(h|h|h)
    ·exact ih.2 (.inl h)
    ·exact ih.2 (.inr h)
    ·by_cases hm:aid n∈Si.inn aid mid V j ks n
     ·rw[<-h.2.2];exact hm
     ·exact absurd ⟨h.1,hm,h.2.1⟩ hc
theorem AS(n:Nat)(x:Int):∀m,x∈Si.out aid mid V n m↔∃j,j<m/\gdF aid mid V n j=true/\mid j=x
 |0=>by simp[Si.out]
 |m+1=>by
  show x∈Si.inn aid mid V m (Si.out aid mid V n m) n↔_;rw[AT,AS n x m];constructor
  ·rintro(⟨j,h1,h2,h3⟩|⟨i,h1,h2,h3,h4⟩)
   ·exact⟨j,by omega,h2,h3⟩
   ·exact⟨m,by omega,(A5 aid mid V n m).2 ⟨i,h1,h2,h3⟩,by rw[<-h2];exact h4⟩
  ·rintro⟨j,h1,h2,h3⟩
   by_cases e:j=m
   ·subst e
    obtain⟨i,k1,k2,k3⟩:=(A5 aid mid V n j).1 h2;exact .inr ⟨i,k1,k2,k3,by rw[k2];exact h3⟩
   ·exact .inl ⟨j,by omega,h2,h3⟩
end
theorem ES{l:List Int}(h:l.Pairwise (· < ·)):l.Nodup:=h.imp fun h e=>by omega
theorem BI{l:List Int}(h:l.Pairwise (· < ·)):Si.srt l=l:=by
 have tr:∀a b c:Int,decide (a<=b)=true->decide (b<=c)=true->decide (a<=c)=true:=fun a b c h1 h2=>by simp only[decide_eq_true_eq]at*;omega
 have to:∀a b:Int,(decide (a<=b)||decide (b<=a))=true:=fun a b=>by simp only[eu,decide_eq_true_eq];omega
 refine List.Perm.eq_of_pairwise (le:=fun a b=>decide (a<=b)=true) (fun a b _ _ h1 h2=> ?_) (List.pairwise_mergeSort tr to l) (h.imp fun h=>by simp only[decide_eq_true_eq];omega) (List.mergeSort_perm l _);simp only[decide_eq_true_eq]at h1 h2;omega
def gdB(t:Tr)(B:List UInt8)(m:Mk):Bool:=(bD t.au.length).any fun i=>decide ((t.au.getD i au0).id=m.auth)&&jq (t.au.getD i au0).key B m.sig
end Go.Proofs.YtkggincjigbelaaGreatDoor
