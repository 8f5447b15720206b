/- What the functions come to. No condition. -/
import Derived.Test.YtkggincjigbelaaGreatDoorTmD
import Derived.Test.YtkggincjigbelaaGreatDoorTqD
import Derived.Test.YtkggincjigbelaaGreatDoorTrD
import Derived.Test.YtkggincjigbelaaGreatDoorTsD
open List renaming getD_eq_getElem?_getD -> aa, getElem?_eq_getElem -> ab, getElem_of_mem -> bM, map_nil -> bH
open Nat renaming zero_le -> bJ
open Option renaming getD_some -> aX
set_option maxRecDepth 100000
set_option maxHeartbeats 16000000
set_option linter.unusedSimpArgs false
set_option linter.unusedVariables false
namespace Go.Proofs.YtkggincjigbelaaGreatDoor
open Go.Sy
open UInt8 renaming reduceLT -> Q0, reduceLE -> Q1
open Int renaming reduceToNat -> Q2, reduceLE -> Q3, reduceLT -> Q4, reduceEq -> Q5, reduceNe -> Q6, reduceNeg -> Q7, reduceAdd -> Q8, reduceSub -> Q9, reduceMul -> Qa
open Nat renaming reducePow -> Qb, reduceDiv -> Qc, reduceMod -> Qd, reduceAdd -> Qe, reduceSub -> Qf, reduceMul -> Qg, reduceLT -> Qh, reduceLeDiff -> Qi, reduceEqDiff -> Qj, reduceBEq -> Qk
theorem xcR{l:List Au}{i:Nat}(h:auE l i=0):1<=(l.getD i au0).id/\(l.getD i au0).id<=1000:=by
 unfold auE at h;split at h
 ·cases h
 ·split at h
  ·cases h
  ·constructor<;>omega
theorem Bj{l:List Au}:∀(n i:Nat),mI l n i=0->∀k,i<=k->k<i+n->auE l k=0
 |0,i,_,k,h1,h2=>by omega
 |n+1,i,h,k,h1,h2=>by
  have h':(if auE l i=0 then mI l n (i+1)else auE l i)=0:=h
  by_cases h0:auE l i=0
  ·rw[if_pos h0]at h'
   by_cases e:k=i
   ·subst e;exact h0
   ·exact Bj n (i+1) h' k (by omega) (by omega)
  ·rw[if_neg h0]at h';exact absurd h' h0
theorem xdL{t:Tr}(h:trE t=0)(B:List UInt8)(ms:List Mk)(hm:ms.length<=1000)(hB:B.length<=100000000):DF t B ms:=by
 unfold trE at h;split at h
 ·cases h
 ·rename_i h4
  split at h
  ·rename_i h0
   split at h
   ·cases h
   ·split at h
    ·cases h
    ·refine⟨by omega,by omega,hm,hB,fun a ha=> ?_⟩
     obtain⟨i,hi,rfl⟩:=bM ha;have:=xcR (Bj _ 0 h0 i (bJ _) (by omega));rw[aa,ab hi]at this;simp only[aX]at this;omega
  ·rename_i h0;exact absurd h h0
open Classical in
noncomputable def Rq(t:Tr)(B:List UInt8)(ms:List Mk):Int:=
 if trE t=0 then(if 4<ms.length then 4 else if Be B=none/\pf B=none then 30 else if((sgL t B ms).length:Int)<t.thr then 44 else 0)else trE t
theorem f34(t:Tr)(B:List UInt8)(ms:List Mk)(hB:B.length<=100000000):call U 34 [.agg t.sv,.agg (dX B ms)] [] 0=some ⟨.int .i64 (Rq t B ms),[],[]⟩:=by
 have g1:=up (f23 t);have hml:=fe ms;unfold Rq
 by_cases hE:trE t=0
 ·rw[if_pos hE]
  rw[hE]at g1
  by_cases h4n:4<ms.length
  ·rw[if_pos h4n]
   have h4:(4:Int)<ms.length:=by omega
   unfold Tr.sv dX at*;rw[aj MS];simp only[go_sem,Q0,Q1,Q2,Q3,Q4,Q5,Q6,Q7,Q8,Q9,Qa,Qb,Qc,Qd,Qe,Qf,Qg,Qh,Qi,Qj,Qk,reduceCtorEq,reduceIte,US,g1,wz,hml,h4,h4n]
  ·rw[if_neg h4n]
   have h4:¬(4:Int)<ms.length:=by omega
   have g2:=up (f61 B (by omega));have g3:=up (f16 B (by omega));have g4:=f32 (xdL hE B ms (by omega) hB);have hl:=rx (sgL t B ms);unfold xc6 xc7 at g2;generalize sgL t B ms=L at*;unfold Tr.sv dX at*;cases hp:Be B with
   |some m=>
    rw[hp]at g2;rw[if_neg (fun h=>by cases h.1)];obtain⟨v,m1,m2,m3,m4,es,rs⟩:=m;simp only[Man.sv]at g2;rw[aj MS]
    by_cases hc:(L.length:Int)<t.thr
    ·simp only[go_sem,Q0,Q1,Q2,Q3,Q4,Q5,Q6,Q7,Q8,Q9,Qa,Qb,Qc,Qd,Qe,Qf,Qg,Qh,Qi,Qj,Qk,reduceCtorEq,reduceIte,US,g1,wz,hml,h4,h4n,g2,DJ,g4,MT,hl,hc]
    ·simp only[go_sem,Q0,Q1,Q2,Q3,Q4,Q5,Q6,Q7,Q8,Q9,Qa,Qb,Qc,Qd,Qe,Qf,Qg,Qh,Qi,Qj,Qk,reduceCtorEq,reduceIte,US,g1,wz,hml,h4,h4n,g2,DJ,g4,MT,hl,hc]
   |none=>
    rw[hp]at g2;simp only[mnz,Man.sv,dh,gP,bH]at g2;cases hw:pf B with
    |some w=>
     rw[hw]at g3;rw[if_neg (fun h=>by cases h.2)];obtain⟨wm,wf⟩:=w;simp only[wdO,Wd.sv]at g3;rw[aj MS]
     by_cases hc:(L.length:Int)<t.thr
     ·simp only[go_sem,Q0,Q1,Q2,Q3,Q4,Q5,Q6,Q7,Q8,Q9,Qa,Qb,Qc,Qd,Qe,Qf,Qg,Qh,Qi,Qj,Qk,reduceCtorEq,reduceIte,US,g1,wz,hml,h4,h4n,g2,DJ,g3,MV,g4,MT,hl,hc]
     ·simp only[go_sem,Q0,Q1,Q2,Q3,Q4,Q5,Q6,Q7,Q8,Q9,Qa,Qb,Qc,Qd,Qe,Qf,Qg,Qh,Qi,Qj,Qk,reduceCtorEq,reduceIte,US,g1,wz,hml,h4,h4n,g2,DJ,g3,MV,g4,MT,hl,hc]
    |none=>rw[hw]at g3;rw[if_pos ⟨rfl,rfl⟩];simp only[wdO]at g3;rw[aj MS];simp only[go_sem,Q0,Q1,Q2,Q3,Q4,Q5,Q6,Q7,Q8,Q9,Qa,Qb,Qc,Qd,Qe,Qf,Qg,Qh,Qi,Qj,Qk,reduceCtorEq,reduceIte,US,g1,wz,hml,h4,h4n,g2,DJ,g3,MV]
 ·rw[if_neg hE]
  unfold Tr.sv dX at*;generalize trE t=e at*;rw[aj MS];simp only[go_sem,Q0,Q1,Q2,Q3,Q4,Q5,Q6,Q7,Q8,Q9,Qa,Qb,Qc,Qd,Qe,Qf,Qg,Qh,Qi,Qj,Qk,reduceCtorEq,reduceIte,US,g1,wz,hE]
end Go.Proofs.YtkggincjigbelaaGreatDoor
