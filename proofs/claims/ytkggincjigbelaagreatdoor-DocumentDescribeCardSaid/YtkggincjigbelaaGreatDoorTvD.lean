/- What the functions come to. No condition. -/
import Derived.Test.YtkggincjigbelaaGreatDoorTtD
import Derived.Test.YtkggincjigbelaaGreatDoorTuD
open Bool renaming and_eq_true -> aA
open Go.IntKind renaming i64 -> af, u64 -> aI
open List renaming Pairwise -> gY, getD_eq_getElem?_getD -> aa, getElem?_eq_getElem -> ab, getElem_of_mem -> bM, length_append -> ac, length_nil -> aw, mem_append -> al, mem_range -> dH, mem_singleton -> aY, pairwise_append -> dF
open Nat renaming le_refl -> aH
set_option maxRecDepth 100000
set_option maxHeartbeats 16000000
set_option linter.unusedSimpArgs false
set_option linter.unusedVariables false
namespace Go.Proofs.YtkggincjigbelaaGreatDoor
open Go.Sy
open UInt8 renaming reduceLT -> Q0, reduceLE -> Q1
open Int renaming reduceToNat -> Q2, reduceLE -> Q3, reduceLT -> Q4, reduceEq -> Q5, reduceNe -> Q6, reduceNeg -> Q7, reduceAdd -> Q8, reduceSub -> Q9, reduceMul -> Qa
open Nat renaming reducePow -> Qb, reduceDiv -> Qc, reduceMod -> Qd, reduceAdd -> Qe, reduceSub -> Qf, reduceMul -> Qg, reduceLT -> Qh, reduceLeDiff -> Qi, reduceEqDiff -> Qj, reduceBEq -> Qk
def bI(w:Int)(i:Nat):Int:=bS .and .i64 (w.fdiv (2^min i 64)) 1
def mkS(i:Nat)(B:List UInt8):Mk:=⟨3+2*(i:Int),sgn (dr (3+2*i)) 1 (if i=1 then 1 else 0) B⟩
def ik(w:Int)(B:List UInt8)(i:Nat)(ms:List Mk):List Mk:=if bI w i=1 then ms++ [mkS i B]else ms
def m7(w:Int)(B:List UInt8):List Mk:=ik w B 2 (ik w B 1 (ik w B 0 []))
theorem jV(w:Int)(B:List UInt8)(i:Nat)(ms:List Mk):(ik w B i ms).length<=ms.length+1:=by
 unfold ik;split
 ·rw[ac];exact aH _
 ·omega
theorem Ed(w:Int)(B:List UInt8):(m7 w B).length<=3:=by have h0:=jV w B 0 [];have h1:=jV w B 1 (ik w B 0 []);have h2:=jV w B 2 (ik w B 1 (ik w B 0 []));unfold m7;rw[aw]at h0;omega
def mb:aE:= .rc [.byt [] .clip,.lst 2 [] .clip]
theorem xdO(w:Int)(B:List UInt8)(hB:B.length<=100000000)(ms:List Mk)(hm:ms.length<=10)(te:Tok)(hte:te= .no\/te= .clip/\ms=[]):∃te',(te'= .no\/te'= .clip/\ik w B 0 ms=[])/\
 run T (.loop kX) ⟨[(1,.int .i64 w),(4,.ptr 104 0),(5,.ptr 105 0),(6,.int .i64 0)],[(104,mb),(105,.rc [.byt B .no,.lst 2 (ib ms) te])],[]⟩=
  run T (.loop kX) ⟨[(1,.int .i64 w),(4,.ptr 104 0),(5,.ptr 105 0),(6,.int .i64 1)],[(104,mb),(105,.rc [.byt B .no,.lst 2 (ib (ik w B 0 ms)) te'])],[]⟩:=by
 have u:aI.wrap 0=0:=by decide
 have k1:af.wrap (0+1)=1:=by decide
 have k1':af.wrap 1=1:=by decide
 have k2:af.wrap (2*0)=0:=by decide
 have k2':af.wrap 0=0:=by decide
 have k3:af.wrap 3=3:=by decide
 have kl:bS .and .i64 0 1=0:=by decide
 have g1:=f39 3;have g2:=f29 B ms 3 (dr 3) 1 0 (by omega) (by rw[dN];decide) hB (.inr (.inr (.inr rfl)));have hv:=fe ms;rw[show((3:Nat):Int)=3 from rfl]at g1;have em:mkS 0 B=⟨3,sgn (dr 3) 1 0 B⟩:=rfl
 by_cases hb:bI w 0=1
 ·refine⟨.no,.inl rfl, ?_⟩
  have ha:ik w B 0 ms=ms++ [mkS 0 B]:=if_pos hb;rw[ha,em];unfold dX at g2;generalize ib (ms++ [⟨3,sgn (dr 3) 1 0 B⟩])=Z at*;generalize dr 3=S at*;unfold bI at hb;unfold mb
  conv=>lhs;rw[ah]
  rcases hte with rfl|⟨rfl,rfl⟩
  ·simp only[go_sem,Q0,Q1,Q2,Q3,Q4,Q5,Q6,Q7,Q8,Q9,Qa,Qb,Qc,Qd,Qe,Qf,Qg,Qh,Qi,Qj,Qk,reduceCtorEq,reduceIte,u,hb,k1,k1',k2,k2',k3,kl,g1,me,g2,MU]
  ·have h0:ib []=[]:=rfl
   simp only[h0]at g2 ⊢;simp only[go_sem,Q0,Q1,Q2,Q3,Q4,Q5,Q6,Q7,Q8,Q9,Qa,Qb,Qc,Qd,Qe,Qf,Qg,Qh,Qi,Qj,Qk,reduceCtorEq,reduceIte,u,hb,k1,k1',k2,k2',k3,kl,g1,me,g2,MU]
 ·have ha:ik w B 0 ms=ms:=if_neg hb
  rw[ha];refine⟨te,hte, ?_⟩;unfold bI at hb;unfold mb
  conv=>lhs;rw[ah]
  rcases hte with rfl|⟨rfl,rfl⟩
  ·simp only[go_sem,Q0,Q1,Q2,Q3,Q4,Q5,Q6,Q7,Q8,Q9,Qa,Qb,Qc,Qd,Qe,Qf,Qg,Qh,Qi,Qj,Qk,reduceCtorEq,reduceIte,u,hb,k1,k1']
  ·simp only[go_sem,Q0,Q1,Q2,Q3,Q4,Q5,Q6,Q7,Q8,Q9,Qa,Qb,Qc,Qd,Qe,Qf,Qg,Qh,Qi,Qj,Qk,reduceCtorEq,reduceIte,u,hb,k1,k1']
theorem xdN(w:Int)(B:List UInt8)(hB:B.length<=100000000)(ms:List Mk)(hm:ms.length<=10)(te:Tok)(hte:te= .no\/te= .clip/\ms=[]):∃te',(te'= .no\/te'= .clip/\ik w B 1 ms=[])/\
 run T (.loop kX) ⟨[(1,.int .i64 w),(4,.ptr 104 0),(5,.ptr 105 0),(6,.int .i64 1)],[(104,mb),(105,.rc [.byt B .no,.lst 2 (ib ms) te])],[]⟩=
  run T (.loop kX) ⟨[(1,.int .i64 w),(4,.ptr 104 0),(5,.ptr 105 0),(6,.int .i64 2)],[(104,mb),(105,.rc [.byt B .no,.lst 2 (ib (ik w B 1 ms)) te'])],[]⟩:=by
 have u:aI.wrap 1=1:=by decide
 have k1:af.wrap (1+1)=2:=by decide
 have k1':af.wrap 2=2:=by decide
 have k2:af.wrap (2*1)=2:=by decide
 have k2':af.wrap 2=2:=by decide
 have k3:af.wrap 5=5:=by decide
 have kl:bS .and .i64 1 1=1:=by decide
 have g1:=f39 5;have g2:=f29 B ms 5 (dr 5) 1 1 (by omega) (by rw[dN];decide) hB (.inr (.inr (.inr rfl)));have hv:=fe ms;rw[show((5:Nat):Int)=5 from rfl]at g1;have em:mkS 1 B=⟨5,sgn (dr 5) 1 1 B⟩:=rfl
 by_cases hb:bI w 1=1
 ·refine⟨.no,.inl rfl, ?_⟩
  have ha:ik w B 1 ms=ms++ [mkS 1 B]:=if_pos hb;rw[ha,em];unfold dX at g2;generalize ib (ms++ [⟨5,sgn (dr 5) 1 1 B⟩])=Z at*;generalize dr 5=S at*;unfold bI at hb;unfold mb
  conv=>lhs;rw[ah]
  rcases hte with rfl|⟨rfl,rfl⟩
  ·simp only[go_sem,Q0,Q1,Q2,Q3,Q4,Q5,Q6,Q7,Q8,Q9,Qa,Qb,Qc,Qd,Qe,Qf,Qg,Qh,Qi,Qj,Qk,reduceCtorEq,reduceIte,u,hb,k1,k1',k2,k2',k3,kl,g1,me,g2,MU]
  ·have h0:ib []=[]:=rfl
   simp only[h0]at g2 ⊢;simp only[go_sem,Q0,Q1,Q2,Q3,Q4,Q5,Q6,Q7,Q8,Q9,Qa,Qb,Qc,Qd,Qe,Qf,Qg,Qh,Qi,Qj,Qk,reduceCtorEq,reduceIte,u,hb,k1,k1',k2,k2',k3,kl,g1,me,g2,MU]
 ·have ha:ik w B 1 ms=ms:=if_neg hb
  rw[ha];refine⟨te,hte, ?_⟩;unfold bI at hb;unfold mb
  conv=>lhs;rw[ah]
  rcases hte with rfl|⟨rfl,rfl⟩
  ·simp only[go_sem,Q0,Q1,Q2,Q3,Q4,Q5,Q6,Q7,Q8,Q9,Qa,Qb,Qc,Qd,Qe,Qf,Qg,Qh,Qi,Qj,Qk,reduceCtorEq,reduceIte,u,hb,k1,k1']
  ·simp only[go_sem,Q0,Q1,Q2,Q3,Q4,Q5,Q6,Q7,Q8,Q9,Qa,Qb,Qc,Qd,Qe,Qf,Qg,Qh,Qi,Qj,Qk,reduceCtorEq,reduceIte,u,hb,k1,k1']
theorem xdM(w:Int)(B:List UInt8)(hB:B.length<=100000000)(ms:List Mk)(hm:ms.length<=10)(te:Tok)(hte:te= .no\/te= .clip/\ms=[]):∃te',(te'= .no\/te'= .clip/\ik w B 2 ms=[])/\
 run T (.loop kX) ⟨[(1,.int .i64 w),(4,.ptr 104 0),(5,.ptr 105 0),(6,.int .i64 2)],[(104,mb),(105,.rc [.byt B .no,.lst 2 (ib ms) te])],[]⟩=
  run T (.loop kX) ⟨[(1,.int .i64 w),(4,.ptr 104 0),(5,.ptr 105 0),(6,.int .i64 3)],[(104,mb),(105,.rc [.byt B .no,.lst 2 (ib (ik w B 2 ms)) te'])],[]⟩:=by
 have u:aI.wrap 2=2:=by decide
 have k1:af.wrap (2+1)=3:=by decide
 have k1':af.wrap 3=3:=by decide
 have k2:af.wrap (2*2)=4:=by decide
 have k2':af.wrap 4=4:=by decide
 have k3:af.wrap 7=7:=by decide
 have kl:bS .and .i64 2 1=0:=by decide
 have g1:=f39 7;have g2:=f29 B ms 7 (dr 7) 1 0 (by omega) (by rw[dN];decide) hB (.inr (.inr (.inr rfl)));have hv:=fe ms;rw[show((7:Nat):Int)=7 from rfl]at g1;have em:mkS 2 B=⟨7,sgn (dr 7) 1 0 B⟩:=rfl
 by_cases hb:bI w 2=1
 ·refine⟨.no,.inl rfl, ?_⟩
  have ha:ik w B 2 ms=ms++ [mkS 2 B]:=if_pos hb;rw[ha,em];unfold dX at g2;generalize ib (ms++ [⟨7,sgn (dr 7) 1 0 B⟩])=Z at*;generalize dr 7=S at*;unfold bI at hb;unfold mb
  conv=>lhs;rw[ah]
  rcases hte with rfl|⟨rfl,rfl⟩
  ·simp only[go_sem,Q0,Q1,Q2,Q3,Q4,Q5,Q6,Q7,Q8,Q9,Qa,Qb,Qc,Qd,Qe,Qf,Qg,Qh,Qi,Qj,Qk,reduceCtorEq,reduceIte,u,hb,k1,k1',k2,k2',k3,kl,g1,me,g2,MU]
  ·have h0:ib []=[]:=rfl
   simp only[h0]at g2 ⊢;simp only[go_sem,Q0,Q1,Q2,Q3,Q4,Q5,Q6,Q7,Q8,Q9,Qa,Qb,Qc,Qd,Qe,Qf,Qg,Qh,Qi,Qj,Qk,reduceCtorEq,reduceIte,u,hb,k1,k1',k2,k2',k3,kl,g1,me,g2,MU]
 ·have ha:ik w B 2 ms=ms:=if_neg hb
  rw[ha];refine⟨te,hte, ?_⟩;unfold bI at hb;unfold mb
  conv=>lhs;rw[ah]
  rcases hte with rfl|⟨rfl,rfl⟩
  ·simp only[go_sem,Q0,Q1,Q2,Q3,Q4,Q5,Q6,Q7,Q8,Q9,Qa,Qb,Qc,Qd,Qe,Qf,Qg,Qh,Qi,Qj,Qk,reduceCtorEq,reduceIte,u,hb,k1,k1']
  ·simp only[go_sem,Q0,Q1,Q2,Q3,Q4,Q5,Q6,Q7,Q8,Q9,Qa,Qb,Qc,Qd,Qe,Qf,Qg,Qh,Qi,Qj,Qk,reduceCtorEq,reduceIte,u,hb,k1,k1']
theorem f25(B:List UInt8)(hB:B.length<=100000000)(w:Int):call T 25 [.byt B .no,.int .i64 w] [] 0=some ⟨.agg (dX B (m7 w B)),[],[]⟩:=by
 have l0:=jV w B 0 [];have l1:=jV w B 1 (ik w B 0 []);rw[aw]at l0;obtain⟨t0,q0,e0⟩:=xdO w B hB [] (by simp) .clip (.inr ⟨rfl,rfl⟩);obtain⟨t1,q1,e1⟩:=xdN w B hB _ (by omega) t0 q0;obtain⟨t2,q2,e2⟩:=xdM w B hB _ (by omega) t1 q1;have e:=e0.trans (e1.trans e2);have h0:ib []=[]:=rfl;rw[h0]at e;change _=run T (.loop kX) ⟨_,[_,(105,.rc [.byt B .no,.lst 2 (ib (m7 w B)) t2])],_⟩at e
 have e4:run T (.loop kX) ⟨[(1,.int .i64 w),(4,.ptr 104 0),(5,.ptr 105 0),(6,.int .i64 3)],[(104,mb),(105,.rc [.byt B .no,.lst 2 (ib (m7 w B)) t2])],[]⟩=some (.x 0,⟨[(4,.ptr 104 0),(5,.ptr 105 0)],[(104,mb),(105,.rc [.byt B .no,.lst 2 (ib (m7 w B)) t2])],[]⟩):=by rw[ah];unfold mb;rcases q2 with rfl|⟨rfl,_⟩<;>simp only[go_sem,Q0,Q1,Q2,Q3,Q4,Q5,Q6,Q7,Q8,Q9,Qa,Qb,Qc,Qd,Qe,Qf,Qg,Qh,Qi,Qj,Qk,reduceCtorEq,reduceIte]
 rw[e4]at e;unfold mb at e;unfold dX;rw[aj xmO];simp only[go_sem,Q0,Q1,Q2,Q3,Q4,Q5,Q6,Q7,Q8,Q9,Qa,Qb,Qc,Qd,Qe,Qf,Qg,Qh,Qi,Qj,Qk,reduceCtorEq,reduceIte,e]
theorem CC{α:Type}(l:List α)(d x:α):x∈l↔∃i,i<l.length/\l.getD i d=x:=by
 constructor
 ·intro h
  obtain⟨i,hi,e⟩:=bM h;exact⟨i,hi,by rw[aa,ab hi];exact e⟩
 ·rintro⟨i,hi,rfl⟩
  exact rD l d i hi
theorem Px(t:Tr)(B:List UInt8)(ms:List Mk)(x:Int):x∈sgO t B ms↔∃m∈ms,gdB t B m=true/\m.auth=x:=by
 unfold sgO;rw[AS];constructor
 ·rintro⟨j,h1,h2,h3⟩
  exact⟨ms.getD j mk0,rD _ _ _ h1,h2,h3⟩
 ·rintro⟨m,h1,h2,h3⟩
  obtain⟨j,hj,rfl⟩:=(CC ms mk0 m).1 h1;exact⟨j,hj,h2,h3⟩
def Xy(w:Int):Nat->Nat
 |0=>0
 |n+1=>Xy w n+(if bI w n=1 then 1 else 0)
def vP(w:Int):Nat->List Int
 |0=> []
 |n+1=>vP w n++(if bI w n=1 then [3+2*(n:Int)]else [])
theorem ui(w:Int):∀n,(vP w n).length=Xy w n
 |0=>rfl
 |n+1=>by rw[vP,Xy,ac,ui w n];split<;>rfl
theorem og(w x:Int):∀n,x∈vP w n↔∃i,i<n/\bI w i=1/\3+2*(i:Int)=x
 |0=>by simp[vP]
 |n+1=>by
  rw[vP,al,og w x n];constructor
  ·rintro(⟨i,h1,h2⟩|h)
   ·exact⟨i,by omega,h2⟩
   ·split at h
    ·rename_i hb
     exact⟨n,by omega,hb,(aY.1 h).symm⟩
    ·cases h
  ·rintro⟨i,h1,h2,h3⟩
   by_cases e:i=n
   ·subst e
    refine .inr ?_;rw[if_pos h2];simp[h3]
   ·exact .inl ⟨i,by omega,h2,h3⟩
theorem rC(w:Int):∀n,(vP w n).Pairwise (· < ·)
 |0=>gY.nil
 |n+1=>by
  rw[vP];refine dF.2 ⟨rC w n,by split<;>simp,fun a ha b hb=> ?_⟩;obtain⟨i,h1,_,rfl⟩:=(og w a n).1 ha;split at hb
  ·rw[aY.1 hb];omega
  ·cases hb
theorem tZ(w:Int)(B:List UInt8)(m:Mk):m∈m7 w B↔∃i,i<3/\bI w i=1/\m=mkS i B:=by
 have key:∀i ms,m∈ik w B i ms↔m∈ms\/(bI w i=1/\m=mkS i B):=fun i ms=>by
  unfold ik;split
  ·rename_i h;simp[h]
  ·rename_i h;simp[h]
 unfold m7;rw[key,key,key];constructor
 ·rintro(((h|h)|h)|h)
  ·cases h
  ·exact⟨0,by decide,h⟩
  ·exact⟨1,by decide,h⟩
  ·exact⟨2,by decide,h⟩
 ·rintro⟨i,hi,h⟩
  rcases (by omega:i=0\/i=1\/i=2)with rfl|rfl|rfl
  ·exact .inl (.inl (.inr h))
  ·exact .inl (.inr h)
  ·exact .inr h
theorem PT(t:Tr)(B:List UInt8)(m:Mk):gdB t B m=true↔∃i,i<t.au.length/\(t.au.getD i au0).id=m.auth/\jq (t.au.getD i au0).key B m.sig=true:=by
 unfold gdB;rw[List.any_eq_true];constructor
 ·rintro⟨i,hi,h⟩
  simp only[aA,decide_eq_true_eq]at h;exact⟨i,dH.1 hi,h.1,h.2⟩
 ·rintro⟨i,hi,h1,h2⟩
  exact⟨i,dH.2 hi,by rw[h2,decide_eq_true h1];rfl⟩
theorem MG(k:Nat)(thr:Int)(B:List UInt8)(i:Nat)(hi:i<3):gdB (trL k thr) B (mkS i B)=true↔i<k+1:=by
 rw[PT];have hl:=Bl k;show(∃j,j<(auL k).length/\((auL k).getD j au0).id=(mkS i B).auth/\jq ((auL k).getD j au0).key B (mkS i B).sig=true)↔_;rw[hl];constructor
 ·rintro⟨j,h1,h2,_⟩
  rw[lF k j (by omega)]at h2;have:(3:Int)+2*(j:Int)=3+2*(i:Int):=h2;omega
 ·intro h
  refine⟨i,h, ?_, ?_⟩
  ·rw[lF k i (by omega)];rfl
  ·rw[lF k i (by omega)]
   show jq (gx (dr (3+2*i)) 1) B (sgn (dr (3+2*i)) 1 (if i=1 then 1 else 0) B)=true
   by_cases e:i=1
   ·rw[if_pos e,sr];exact qJ _ _ _ (by decide)
   ·rw[if_neg e,wJ];exact qJ _ _ _ (by decide)
theorem BX(k:Nat)(hk:k<=2)(thr w:Int)(B:List UInt8):sgL (trL k thr) B (m7 w B)=vP w (k+1):=by
 rw[<-BI (rC w (k+1))];refine tv (lM _ _ _ _ _) (ES (rC _ _)) fun x=> ?_
 show x∈sgO (trL k thr) B (m7 w B)↔_;rw[Px,og];constructor
 ·rintro⟨m,h1,h2,h3⟩
  obtain⟨i,hi,hb,rfl⟩:=(tZ w B m).1 h1;exact⟨i,(MG k thr B i hi).1 h2,hb,h3⟩
 ·rintro⟨i,hi,hb,h⟩
  exact⟨mkS i B,(tZ w B _).2 ⟨i,by omega,hb,rfl⟩,(MG k thr B i (by omega)).2 hi,h⟩
end Go.Proofs.YtkggincjigbelaaGreatDoor
