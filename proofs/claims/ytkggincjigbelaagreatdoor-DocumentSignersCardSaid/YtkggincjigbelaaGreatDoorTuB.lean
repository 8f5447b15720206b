/- What the functions come to. No condition. -/
import Derived.Test.YtkggincjigbelaaGreatDoorTmB
import Derived.Test.YtkggincjigbelaaGreatDoorTpB
import Derived.Test.YtkggincjigbelaaGreatDoorTsB
import Derived.Test.YtkggincjigbelaaGreatDoorTtB
open Int renaming natCast_zero -> aw
open List renaming append_nil -> bg, cons_append -> aU, getD_eq_getElem?_getD -> aa, getElem?_eq_getElem -> ab, getElem_of_mem -> cr, length_append -> ac, length_singleton -> aW, map_nil -> bp, nil_append -> az
open Nat renaming zero_le -> bt
open Option renaming getD_some -> aY
set_option maxRecDepth 100000
set_option maxHeartbeats 16000000
set_option linter.unusedSimpArgs false
set_option linter.unusedVariables false
namespace Go.Proofs.YtkggincjigbelaaGreatDoor
open Go.Sy
open UInt8 renaming reduceLT -> Q0, reduceLE -> Q1
open Int renaming reduceToNat -> Q2, reduceLE -> Q3, reduceLT -> Q4, reduceEq -> Q5, reduceNe -> Q6, reduceNeg -> Q7, reduceAdd -> Q8, reduceSub -> Q9, reduceMul -> Qa
open Nat renaming reducePow -> Qb, reduceDiv -> Qc, reduceMod -> Qd, reduceAdd -> Qe, reduceSub -> Qf, reduceMul -> Qg, reduceLT -> Qh, reduceLeDiff -> Qi, reduceEqDiff -> Qj, reduceBEq -> Qk
theorem Rv(B:List UInt8):iq (qm B):=by
 have h1:(qL B).1.length=0+qN B:=kO;have h2:(qR B).1.length=0+qM B:=kF;have h3:qN B=min (hN B).1.toNat 17:=rfl;have h4:qM B=min (qK B).1.toNat 9:=rfl
 exact⟨by have:=nQ B 12 (uR B 1 ⟨0,0⟩).2;show(hV B).1.length<=_;unfold hV;omega,by show(qL B).1.length<=_;omega,by show(qR B).1.length<=_;omega,
  fun x hx=>by have:=vX (B:=B) (n:=qN B) (es:=[]) (s:=(hN B).2) (fun x hx=>by cases hx) x hx;omega,
  fun x hx=>by have:=vd (B:=B) (n:=qM B) (es:=[]) (s:=(qK B).2) (fun x hx=>by cases hx) x hx;omega⟩
theorem xny(B:List UInt8)(hB:B.length<=1000000000)(v:List UInt8)(ve fl fr ti tag:Int)(N:Nat):∀(n i:Nat)(es:List Ent)(s:Rs)(t:Tok)(tk:List Nat),min N 17-i=n->i<=min N 17->es.length=i->dk B s->
 (t= .clip/\tk=[]/\es=[]\/t= .id 161/\tk=[161])->
 ∃(t':Tok)(tk':List Nat),(t'= .clip/\tk'=[]/\(fF B n es s).1=[]\/t'= .id 161/\tk'=[161])/\
  run T (.loop yC) ⟨[(2,.ptr 102 0),(4,.ptr 15100 0),(5,.ptr 105 0),(6,.int .i64 tag),(7,.int .i64 N),(8,.int .i64 i)],[(102,zR),(105,mR v ve fl fr ti es t [] .clip),(15100,rqO B s)],tk⟩=
   some (.x 0,⟨[(2,.ptr 102 0),(4,.ptr 15100 0),(5,.ptr 105 0),(6,.int .i64 tag)],[(102,zR),(105,mR v ve fl fr ti (fF B n es s).1 t' [] .clip),(15100,rqO B (fF B n es s).2)],tk'⟩):=by
 intro n;induction n with
 |zero=>
  intro i es s t tk h0 h1 hl h2 ht;refine⟨t,tk,ht, ?_⟩;unfold fF;rw[ai]
  by_cases hq:i<N
  ·have hI:¬(i:Int)<=16:=by omega
   rcases ht with⟨rfl,rfl,rfl⟩|⟨rfl,rfl⟩<;>simp only[zR,mR,rqO]<;>simp only[go_sem,Q0,Q1,Q2,Q3,Q4,Q5,Q6,Q7,Q8,Q9,Qa,Qb,Qc,Qd,Qe,Qf,Qg,Qh,Qi,Qj,Qk,reduceCtorEq,reduceIte,hq,hI]
  ·rcases ht with⟨rfl,rfl,rfl⟩|⟨rfl,rfl⟩<;>simp only[zR,mR,rqO]<;>simp only[go_sem,Q0,Q1,Q2,Q3,Q4,Q5,Q6,Q7,Q8,Q9,Qa,Qb,Qc,Qd,Qe,Qf,Qg,Qh,Qi,Qj,Qk,reduceCtorEq,reduceIte,hq]
 |succ n ih=>
  intro i es s t tk h0 h1 hl h2 ht;have hq:i<N:=by omega
  have hI:(i:Int)<=16:=by omega
  have e1:=cA i (by omega);obtain⟨t',tk',q1,q3⟩:=ih (i+1) (es++ [(iz B s).1]) (iz B s).2 (.id 161) [161] (by omega) (by omega) (by rw[ac,aW,hl]) (oX h2) (.inr ⟨rfl,rfl⟩);have hu:fF B (n+1) es s=fF B n (es++ [(iz B s).1]) (iz B s).2:=rfl;rw[hu];refine⟨t',tk',q1, ?_⟩;have hv:=eV es;have b1:(es.length+1)*56<=140737488355328:=by omega
  generalize fF B n (es++ [(iz B s).1]) (iz B s).2=Z at*;have k1:=dS (n:=1) h2;have g1:=f47 B hB 1 (by omega) (by omega) s h2;unfold iz mR at q3;rw[wg]at q3;generalize uR B 1 s=p1 at*;obtain⟨x1,s1⟩:=p1;simp only at k1 g1 q3;have k2:=pf (n:=12) k1;have g2:=xfm B hB 12 (by omega) s1 k1;generalize bR B 12 s1=p2 at*;obtain⟨x2,s2⟩:=p2;simp only at k2 g2 q3;have k3:=dS (n:=4) k2;have g3:=f47 B hB 4 (by omega) (by omega) s2 k2;generalize uR B 4 s2=p3 at*;obtain⟨x3,s3⟩:=p3;simp only at k3 g3 q3;have g4:=f48 B hB 32 (by omega) s3 k3;generalize wR B 32 s3=p4 at*;obtain⟨x4,s4⟩:=p4;simp only at g4 q3;rw[show((1:Nat):Int)=1 from rfl]at g1;rw[show((12:Nat):Int)=12 from rfl]at g2;rw[show((4:Nat):Int)=4 from rfl]at g3;rw[show((32:Nat):Int)=32 from rfl]at g4;simp only[zR,mR,rqO,Ent.sv,aU,az]at g1 g2 g3 g4 q3 ⊢;rw[ai];rcases ht with⟨rfl,rfl,rfl⟩|⟨rfl,rfl⟩
  ·have hnil:fo []=[]:=rfl
   simp only[hnil,az]at q3 ⊢;simp only[go_sem,Q0,Q1,Q2,Q3,Q4,Q5,Q6,Q7,Q8,Q9,Qa,Qb,Qc,Qd,Qe,Qf,Qg,Qh,Qi,Qj,Qk,reduceCtorEq,reduceIte,hq,hI,e1,g1,pm,g2,pn,g3,g4,Ez,q3]
  ·simp only[go_sem,Q0,Q1,Q2,Q3,Q4,Q5,Q6,Q7,Q8,Q9,Qa,Qb,Qc,Qd,Qe,Qf,Qg,Qh,Qi,Qj,Qk,reduceCtorEq,reduceIte,hq,hI,e1,g1,pm,g2,pn,g3,g4,Ez,hv,b1,q3]
theorem xnx(B:List UInt8)(hB:B.length<=1000000000)(v:List UInt8)(ve fl fr ti tag:Int)(N:Nat)(es:List Ent)(t2:Tok)(tk2:List Nat)(ht2:t2= .clip/\tk2=[]/\es=[]\/t2= .id 161/\tk2=[161]):∀(n i:Nat)(rs:List Rul)(s:Rs)(t:Tok)(tk:List Nat),min N 9-i=n->i<=min N 9->rs.length=i->dk B s->
 (t= .clip/\tk=[]/\rs=[]\/t= .id 191/\tk=[191])->
 ∃(t':Tok)(tk':List Nat),(t'= .clip/\tk'=[]/\(fA B n rs s).1=[]\/t'= .id 191/\tk'=[191])/\
  run T (.loop yB) ⟨[(2,.ptr 102 0),(4,.ptr 15100 0),(5,.ptr 105 0),(6,.int .i64 tag),(10,.int .i64 N),(11,.int .i64 i)],[(102,zR),(105,mR v ve fl fr ti es t2 rs t),(15100,rqO B s)],tk2++tk⟩=
   some (.x 2,⟨[(2,.ptr 102 0),(4,.ptr 15100 0),(5,.ptr 105 0),(6,.int .i64 tag)],[(102,zR),(105,mR v ve fl fr ti es t2 (fA B n rs s).1 t'),(15100,rqO B (fA B n rs s).2)],tk2++tk'⟩):=by
 intro n;induction n with
 |zero=>
  intro i rs s t tk h0 h1 hl h2 ht;refine⟨t,tk,ht, ?_⟩;unfold fA;rw[ai]
  by_cases hq:i<N
  ·have hI:¬(i:Int)<=8:=by omega
   rcases ht2 with⟨rfl,rfl,rfl⟩|⟨rfl,rfl⟩<;>rcases ht with⟨rfl,rfl,rfl⟩|⟨rfl,rfl⟩<;>simp only[zR,mR,rqO]<;>simp only[go_sem,Q0,Q1,Q2,Q3,Q4,Q5,Q6,Q7,Q8,Q9,Qa,Qb,Qc,Qd,Qe,Qf,Qg,Qh,Qi,Qj,Qk,reduceCtorEq,reduceIte,hq,hI]
  ·rcases ht2 with⟨rfl,rfl,rfl⟩|⟨rfl,rfl⟩<;>rcases ht with⟨rfl,rfl,rfl⟩|⟨rfl,rfl⟩<;>simp only[zR,mR,rqO]<;>simp only[go_sem,Q0,Q1,Q2,Q3,Q4,Q5,Q6,Q7,Q8,Q9,Qa,Qb,Qc,Qd,Qe,Qf,Qg,Qh,Qi,Qj,Qk,reduceCtorEq,reduceIte,hq]
 |succ n ih=>
  intro i rs s t tk h0 h1 hl h2 ht;have hq:i<N:=by omega
  have hI:(i:Int)<=8:=by omega
  have e1:=cA i (by omega);obtain⟨t',tk',q1,q3⟩:=ih (i+1) (rs++ [(ix B s).1]) (ix B s).2 (.id 191) [191] (by omega) (by omega) (by rw[ac,aW,hl]) (ox h2) (.inr ⟨rfl,rfl⟩);have hu:fA B (n+1) rs s=fA B n (rs++ [(ix B s).1]) (ix B s).2:=rfl;rw[hu];refine⟨t',tk',q1, ?_⟩;have hv:=eD rs;have b1:(rs.length+1)*40<=140737488355328:=by omega
  generalize fA B n (rs++ [(ix B s).1]) (ix B s).2=Z at*;have k1:=dS (n:=1) h2;have g1:=f47 B hB 1 (by omega) (by omega) s h2;unfold ix mR at q3;rw[vk]at q3;generalize uR B 1 s=p1 at*;obtain⟨x1,s1⟩:=p1;simp only at k1 g1 q3;have k2:=pf (n:=32) k1;have g2:=xfm B hB 32 (by omega) s1 k1;generalize bR B 32 s1=p2 at*;obtain⟨x2,s2⟩:=p2;simp only at k2 g2 q3;have k3:=dS (n:=4) k2;have g3:=f47 B hB 4 (by omega) (by omega) s2 k2;generalize uR B 4 s2=p3 at*;obtain⟨x3,s3⟩:=p3;simp only at k3 g3 q3;have g4:=f47 B hB 4 (by omega) (by omega) s3 k3;generalize uR B 4 s3=p4 at*;obtain⟨x4,s4⟩:=p4;simp only at g4 q3;rw[show((1:Nat):Int)=1 from rfl]at g1;rw[show((32:Nat):Int)=32 from rfl]at g2;rw[show((4:Nat):Int)=4 from rfl]at g3 g4;simp only[zR,mR,rqO,Rul.sv,aU,az]at g1 g2 g3 g4 q3 ⊢;rw[ai];rcases ht2 with⟨rfl,rfl,rfl⟩|⟨rfl,rfl⟩<;>rcases ht with⟨rfl,rfl,rfl⟩|⟨rfl,rfl⟩
  ·have hnil:dT []=[]:=rfl
   simp only[hnil,az]at q3 ⊢;simp only[go_sem,Q0,Q1,Q2,Q3,Q4,Q5,Q6,Q7,Q8,Q9,Qa,Qb,Qc,Qd,Qe,Qf,Qg,Qh,Qi,Qj,Qk,reduceCtorEq,reduceIte,hq,hI,e1,g1,pm,g2,pn,g3,g4,q3]
  ·simp only[az]at q3 ⊢
   simp only[go_sem,Q0,Q1,Q2,Q3,Q4,Q5,Q6,Q7,Q8,Q9,Qa,Qb,Qc,Qd,Qe,Qf,Qg,Qh,Qi,Qj,Qk,reduceCtorEq,reduceIte,hq,hI,e1,g1,pm,g2,pn,g3,g4,hv,b1,q3]
  ·have hnil:dT []=[]:=rfl
   simp only[hnil,az,aU]at q3 ⊢;simp only[go_sem,Q0,Q1,Q2,Q3,Q4,Q5,Q6,Q7,Q8,Q9,Qa,Qb,Qc,Qd,Qe,Qf,Qg,Qh,Qi,Qj,Qk,reduceCtorEq,reduceIte,hq,hI,e1,g1,pm,g2,pn,g3,g4,q3]
  ·simp only[aU,az]at q3 ⊢
   simp only[go_sem,Q0,Q1,Q2,Q3,Q4,Q5,Q6,Q7,Q8,Q9,Qa,Qb,Qc,Qd,Qe,Qf,Qg,Qh,Qi,Qj,Qk,reduceCtorEq,reduceIte,hq,hI,e1,g1,pm,g2,pn,g3,g4,hv,b1,q3]
theorem xnm(B:List UInt8)(hB:B.length<=1000000000)(v:List UInt8)(ve fl fr ti tag:Int)(es:List Ent)(s:Rs)(hs:dk B s)(t:Tok)(tk:List Nat)(ht:t= .clip/\tk=[]/\es=[]\/t= .id 161/\tk=[161]):
 run T (.ops qe) ⟨[(2,.ptr 102 0),(4,.ptr 15100 0),(5,.ptr 105 0),(6,.int .i64 tag)],[(102,zR),(105,mR v ve fl fr ti es t [] .clip),(15100,rqO B s)],tk⟩=
  some (.n,⟨[(2,.ptr 102 0),(4,.ptr 15100 0),(5,.ptr 105 0),(6,.int .i64 tag),(10,.int .i64 (uR B 1 s).1)],[(102,zR),(105,mR v ve fl fr ti es t [] .clip),(15100,rqO B (uR B 1 s).2)],tk⟩):=by
 have g:=f47 B hB 1 (by omega) (by omega) s hs;rw[show((1:Nat):Int)=1 from rfl]at g;simp only[zR,mR,rqO]at g ⊢;rcases ht with⟨rfl,rfl,rfl⟩|⟨rfl,rfl⟩<;>simp only[go_sem,Q0,Q1,Q2,Q3,Q4,Q5,Q6,Q7,Q8,Q9,Qa,Qb,Qc,Qd,Qe,Qf,Qg,Qh,Qi,Qj,Qk,reduceCtorEq,reduceIte,g,pm]
theorem xnl(B:List UInt8)(hB:B.length<=1000000000)(v:List UInt8)(ve fl fr ti tag:Int)(es:List Ent)(s:Rs)(hs:dk B s)(t:Tok)(tk:List Nat)(rs:List Rul)(u:Tok)(uk:List Nat)
 (hm:iq ⟨v,ve,fl,fr,ti,es,rs⟩)
 (ht:t= .clip/\tk=[]/\es=[]\/t= .id 161/\tk=[161]) (hu:u= .clip/\uk=[]/\rs=[]\/u= .id 191/\uk=[191]):
 run T (.ops qd) ⟨[(2,.ptr 102 0),(4,.ptr 15100 0),(5,.ptr 105 0),(6,.int .i64 tag)],[(102,zR),(105,mR v ve fl fr ti es t rs u),(15100,rqO B s)],tk++uk⟩=
  some (.n,⟨[(2,.ptr 102 0),(5,.ptr 105 0),(104,.bool (!decide (tag=21/\eR B s=0/\gS ⟨v,ve,fl,fr,ti,es,rs⟩=0)))],[(102,zR),(105,mR v ve fl fr ti es t rs u),(15100,rqO B s)],tk++uk⟩):=by
 have g:=f49 B hB s hs;have gm:=f81 ⟨v,ve,fl,fr,ti,es,rs⟩ hm;generalize gS ⟨v,ve,fl,fr,ti,es,rs⟩=q at*;generalize eR B s=p at*;simp only[zR,mR,rqO,Man.sv]at g gm ⊢
 by_cases hT:tag=21
 ·subst hT
  by_cases hp:p=0
  ·subst hp
   by_cases hq:q=0
   ·subst hq
    rcases ht with⟨rfl,rfl,rfl⟩|⟨rfl,rfl⟩<;>rcases hu with⟨rfl,rfl,rfl⟩|⟨rfl,rfl⟩<;>simp only[go_sem,Q0,Q1,Q2,Q3,Q4,Q5,Q6,Q7,Q8,Q9,Qa,Qb,Qc,Qd,Qe,Qf,Qg,Qh,Qi,Qj,Qk,reduceCtorEq,reduceIte,g,Ck,gm,Z1]
   ·rcases ht with⟨rfl,rfl,rfl⟩|⟨rfl,rfl⟩<;>rcases hu with⟨rfl,rfl,rfl⟩|⟨rfl,rfl⟩<;>simp only[go_sem,Q0,Q1,Q2,Q3,Q4,Q5,Q6,Q7,Q8,Q9,Qa,Qb,Qc,Qd,Qe,Qf,Qg,Qh,Qi,Qj,Qk,reduceCtorEq,reduceIte,g,Ck,gm,Z1,hq]
  ·rcases ht with⟨rfl,rfl,rfl⟩|⟨rfl,rfl⟩<;>rcases hu with⟨rfl,rfl,rfl⟩|⟨rfl,rfl⟩<;>simp only[go_sem,Q0,Q1,Q2,Q3,Q4,Q5,Q6,Q7,Q8,Q9,Qa,Qb,Qc,Qd,Qe,Qf,Qg,Qh,Qi,Qj,Qk,reduceCtorEq,reduceIte,g,Ck,hp]
 ·rcases ht with⟨rfl,rfl,rfl⟩|⟨rfl,rfl⟩<;>rcases hu with⟨rfl,rfl,rfl⟩|⟨rfl,rfl⟩<;>simp only[go_sem,Q0,Q1,Q2,Q3,Q4,Q5,Q6,Q7,Q8,Q9,Qa,Qb,Qc,Qd,Qe,Qf,Qg,Qh,Qi,Qj,Qk,reduceCtorEq,reduceIte,hT]
attribute [-go_sem] qe qd
theorem f62(B:List UInt8)(hB:B.length<=1000000000):call T 62 [.byt B .no] [] 0=some ⟨.tup [.agg (N5 B).sv,.int .i64 (N6 B)],[],[]⟩:=by
 have g0:=f46 B;have k0:dk B ⟨0,0⟩:=⟨bt _⟩;have g1:=f47 B hB 1 (by omega) (by omega) ⟨0,0⟩ k0;have k1:=dS (n:=1) k0;have g2:=xfm B hB 12 (by omega) _ k1;have k2:dk B (hV B).2:=pf (n:=12) k1;have g3:=f47 B hB 4 (by omega) (by omega) _ k2;have k3:dk B (hE B).2:=dS (n:=4) k2;have g4:=f47 B hB 4 (by omega) (by omega) _ k3;have k4:dk B (hF B).2:=dS (n:=4) k3;have g5:=f47 B hB 6 (by omega) (by omega) _ k4;have k5:dk B (hM B).2:=dS (n:=6) k4;have g6:=f47 B hB 6 (by omega) (by omega) _ k5;have k6:dk B (hT B).2:=dS (n:=6) k5;have g7:=f47 B hB 1 (by omega) (by omega) _ k6;have k7:dk B (hN B).2:=dS (n:=1) k6;have n1:=nL B (hT B).2;have n2:=nL B (qL B).2;change 0<=(hN B).1/\(hN B).1<256 at n1;change 0<=(qK B).1/\(qK B).1<256 at n2;have nn:(hN B).1=(((hN B).1.toNat:Nat):Int):=by omega
 have nk:(qK B).1=(((qK B).1.toNat:Nat):Int):=by omega
 obtain⟨t',tk',q1,q3⟩:=xny B hB (hV B).1 (hE B).1 (hF B).1 (hM B).1 (hT B).1 (uR B 1 ⟨0,0⟩).1 (hN B).1.toNat (qN B) 0 [] (hN B).2 .clip [] rfl (bt _) rfl k7 (.inl ⟨rfl,rfl,rfl⟩);have k8:dk B (qL B).2:=vV k7;have k9:dk B (qK B).2:=dS (n:=1) k8;change (t'= .clip/\tk'=[]/\(qL B).1=[]\/t'= .id 161/\tk'=[161])at q1;obtain⟨u',uk',r1,r3⟩:=xnx B hB (hV B).1 (hE B).1 (hF B).1 (hM B).1 (hT B).1 (uR B 1 ⟨0,0⟩).1 (qK B).1.toNat (qL B).1 t' tk' q1 (qM B) 0 [] (qK B).2 .clip [] rfl (bt _) rfl k9 (.inl ⟨rfl,rfl,rfl⟩);have k10:dk B (qR B).2:=vc k9;change _/\_/\(qR B).1=[]\/_ at r1;rw[<-nn]at q3;rw[<-nk]at r3;have o1:=xnm B hB (hV B).1 (hE B).1 (hF B).1 (hM B).1 (hT B).1 (uR B 1 ⟨0,0⟩).1 (qL B).1 (qL B).2 k8 t' tk' q1;have o2:=xnl B hB (hV B).1 (hE B).1 (hF B).1 (hM B).1 (hT B).1 (uR B 1 ⟨0,0⟩).1 (qL B).1 (qR B).2 k10 t' tk' (qR B).1 u' uk' (Rv B) q1 r1;change run T _ _=some (Ex.x 0,⟨_,[_,(105,mR _ _ _ _ _ (qL B).1 t' [] .clip),(15100,rqO B (qL B).2)],_⟩)at q3;change run T _ _=some (Ex.x 2,⟨_,[_,(105,mR _ _ _ _ _ (qL B).1 t' (qR B).1 u'),(15100,rqO B (qR B).2)],_⟩)at r3;change run T _ _=some (Ex.n,⟨[_,_,_,_,(10,SV.int .i64 (qK B).1)],[_,_,(15100,rqO B (qK B).2)],_⟩)at o1;change run T _ _=some (Ex.n,⟨[_,_,(104,SV.bool (!decide ((uR B 1 ⟨0,0⟩).1=21/\eR B (qR B).2=0/\gS (qm B)=0)))],_,_⟩)at o2;change call T 47 _ _ _=some ⟨.int .i64 (hE B).1,[(0,rqO B (hE B).2)],[]⟩at g3;change call T 47 _ _ _=some ⟨.int .i64 (hF B).1,[(0,rqO B (hF B).2)],[]⟩at g4;change call T 47 _ _ _=some ⟨.int .i64 (hM B).1,[(0,rqO B (hM B).2)],[]⟩at g5
 change call T 47 _ _ _=some ⟨.int .i64 (hT B).1,[(0,rqO B (hT B).2)],[]⟩at g6;change call T 47 _ _ _=some ⟨.int .i64 (hN B).1,[(0,rqO B (hN B).2)],[]⟩at g7;change call T 101 _ _ _=some ⟨.byt (hV B).1 .no,[(0,rqO B (hV B).2)],[]⟩at g2
 have hokd:qE B=if(uR B 1 ⟨0,0⟩).1=21/\eR B (qR B).2=0/\gS (qm B)=0 then some (qm B)else none:=by rw[<-Ss];unfold okQ;rfl
 have hsv:(qm B).sv=[.str (hV B).1,.int .i64 (hE B).1,.int .i64 (hF B).1,.int .i64 (hM B).1,.int .i64 (hT B).1,.lst 4 (fo (qL B).1) .no,.lst 4 (dT (qR B).1) .no]:=rfl;have hze:fo []=[]:=rfl;have hzr:dT []=[]:=rfl;rw[show((1:Nat):Int)=1 from rfl]at g1 g7;rw[show((12:Nat):Int)=12 from rfl]at g2;rw[show((4:Nat):Int)=4 from rfl]at g3 g4;rw[show((6:Nat):Int)=6 from rfl]at g5 g6;unfold N5 N6;rw[hokd];rw[ah xpu];simp only[bg]at r3
 by_cases hb:(uR B 1 ⟨0,0⟩).1=21/\eR B (qR B).2=0/\gS (qm B)=0
 ·rw[if_pos hb]
  rw[decide_eq_true hb]at o2;simp only[hsv];simp only[zR,mR,rqO,hze,hzr,aw]at g0 g1 g2 g3 g4 g5 g6 g7 q3 r3 o1 o2;simp only[go_sem,Q0,Q1,Q2,Q3,Q4,Q5,Q6,Q7,Q8,Q9,Qa,Qb,Qc,Qd,Qe,Qf,Qg,Qh,Qi,Qj,Qk,reduceCtorEq,reduceIte,g0,EA,g1,pm,g2,pn,g3,g4,g5,g6,g7,q3,o1,r3,o2]
  try (rcases q1 with⟨rfl,rfl,hz⟩|⟨rfl,rfl⟩<;>rcases r1 with⟨rfl,rfl,hz2⟩|⟨rfl,rfl⟩<;>simp only[go_sem,Q0,Q1,Q2,Q3,Q4,Q5,Q6,Q7,Q8,Q9,Qa,Qb,Qc,Qd,Qe,Qf,Qg,Qh,Qi,Qj,Qk,reduceCtorEq,reduceIte,hze,hzr,mnz,Man.sv,hz,hz2])
 ·rw[if_neg hb]
  rw[decide_eq_false hb]at o2;simp only[zR,mR,rqO,hze,hzr,aw]at g0 g1 g2 g3 g4 g5 g6 g7 q3 r3 o1 o2;simp only[go_sem,Q0,Q1,Q2,Q3,Q4,Q5,Q6,Q7,Q8,Q9,Qa,Qb,Qc,Qd,Qe,Qf,Qg,Qh,Qi,Qj,Qk,reduceCtorEq,reduceIte,g0,EA,g1,pm,g2,pn,g3,g4,g5,g6,g7,q3,o1,r3,o2];rcases q1 with⟨rfl,rfl,hz⟩|⟨rfl,rfl⟩<;>rcases r1 with⟨rfl,rfl,hz2⟩|⟨rfl,rfl⟩<;>simp only[go_sem,Q0,Q1,Q2,Q3,Q4,Q5,Q6,Q7,Q8,Q9,Qa,Qb,Qc,Qd,Qe,Qf,Qg,Qh,Qi,Qj,Qk,reduceCtorEq,reduceIte,hze,hzr,mnz,Man.sv]
attribute [go_sem] qe qd
theorem xe0{l:List Au}{i:Nat}(h:auE l i=0):1<=(l.getD i au0).id/\(l.getD i au0).id<=1000:=by
 unfold auE at h;split at h
 ·cases h
 ·split at h
  ·cases h
  ·constructor<;>omega
theorem Cc{l:List Au}:∀(n i:Nat),lg l n i=0->∀k,i<=k->k<i+n->auE l k=0
 |0,i,_,k,h1,h2=>by omega
 |n+1,i,h,k,h1,h2=>by
  have h':(if auE l i=0 then lg l n (i+1)else auE l i)=0:=h
  by_cases h0:auE l i=0
  ·rw[if_pos h0]at h'
   by_cases e:k=i
   ·subst e;exact h0
   ·exact Cc n (i+1) h' k (by omega) (by omega)
  ·rw[if_neg h0]at h';exact absurd h' h0
theorem xd{t:Tr}(h:trE t=0)(B:List UInt8)(ms:List Mk)(hm:ms.length<=1000)(hB:B.length<=100000000):Es t B ms:=by
 unfold trE at h;split at h
 ·cases h
 ·rename_i h4
  split at h
  ·rename_i h0
   split at h
   ·cases h
   ·split at h
    ·cases h
    ·refine⟨by omega,by omega,hm,hB,fun a ha=> ?_⟩
     obtain⟨i,hi,rfl⟩:=cr ha;have:=xe0 (Cc _ 0 h0 i (bt _) (by omega));rw[aa,ab hi]at this;simp only[aY]at this;omega
  ·rename_i h0;exact absurd h h0
open Classical in
noncomputable def rh(t:Tr)(B:List UInt8)(ms:List Mk):Int:=
 if trE t=0 then(if 4<ms.length then 4 else if qE B=none/\nf B=none then 30 else if((sgL t B ms).length:Int)<t.thr then 44 else 0)else trE t
theorem f34(t:Tr)(B:List UInt8)(ms:List Mk)(hB:B.length<=100000000):call U 34 [.agg t.sv,.agg (bS B ms)] [] 0=some ⟨.int .i64 (rh t B ms),[],[]⟩:=by
 have g1:=up (f23 t);have hml:=cx ms;unfold rh
 by_cases hE:trE t=0
 ·rw[if_pos hE]
  rw[hE]at g1
  by_cases h4n:4<ms.length
  ·rw[if_pos h4n]
   have h4:(4:Int)<ms.length:=by omega
   unfold Tr.sv bS at*;rw[ah Ob];simp only[go_sem,Q0,Q1,Q2,Q3,Q4,Q5,Q6,Q7,Q8,Q9,Qa,Qb,Qc,Qd,Qe,Qf,Qg,Qh,Qi,Qj,Qk,reduceCtorEq,reduceIte,US,g1,ya,hml,h4,h4n]
  ·rw[if_neg h4n]
   have h4:¬(4:Int)<ms.length:=by omega
   have g2:=up (f61 B (by omega));have g3:=up (f16 B (by omega));have g4:=f32 (xd hE B ms (by omega) hB);have hl:=fK (sgL t B ms);unfold N5 N6 at g2;generalize sgL t B ms=L at*;unfold Tr.sv bS at*;cases hp:qE B with
   |some m=>
    rw[hp]at g2;rw[if_neg (fun h=>by cases h.1)];obtain⟨v,m1,m2,m3,m4,es,rs⟩:=m;simp only[Man.sv]at g2;rw[ah Ob]
    by_cases hc:(L.length:Int)<t.thr
    ·simp only[go_sem,Q0,Q1,Q2,Q3,Q4,Q5,Q6,Q7,Q8,Q9,Qa,Qb,Qc,Qd,Qe,Qf,Qg,Qh,Qi,Qj,Qk,reduceCtorEq,reduceIte,US,g1,ya,hml,h4,h4n,g2,Ey,g4,nW,hl,hc]
    ·simp only[go_sem,Q0,Q1,Q2,Q3,Q4,Q5,Q6,Q7,Q8,Q9,Qa,Qb,Qc,Qd,Qe,Qf,Qg,Qh,Qi,Qj,Qk,reduceCtorEq,reduceIte,US,g1,ya,hml,h4,h4n,g2,Ey,g4,nW,hl,hc]
   |none=>
    rw[hp]at g2;simp only[mnz,Man.sv,fo,dT,bp]at g2;cases hw:nf B with
    |some w=>
     rw[hw]at g3;rw[if_neg (fun h=>by cases h.2)];obtain⟨wm,wf⟩:=w;simp only[wdO,Wd.sv]at g3;rw[ah Ob]
     by_cases hc:(L.length:Int)<t.thr
     ·simp only[go_sem,Q0,Q1,Q2,Q3,Q4,Q5,Q6,Q7,Q8,Q9,Qa,Qb,Qc,Qd,Qe,Qf,Qg,Qh,Qi,Qj,Qk,reduceCtorEq,reduceIte,US,g1,ya,hml,h4,h4n,g2,Ey,g3,Od,g4,nW,hl,hc]
     ·simp only[go_sem,Q0,Q1,Q2,Q3,Q4,Q5,Q6,Q7,Q8,Q9,Qa,Qb,Qc,Qd,Qe,Qf,Qg,Qh,Qi,Qj,Qk,reduceCtorEq,reduceIte,US,g1,ya,hml,h4,h4n,g2,Ey,g3,Od,g4,nW,hl,hc]
    |none=>rw[hw]at g3;rw[if_pos ⟨rfl,rfl⟩];simp only[wdO]at g3;rw[ah Ob];simp only[go_sem,Q0,Q1,Q2,Q3,Q4,Q5,Q6,Q7,Q8,Q9,Qa,Qb,Qc,Qd,Qe,Qf,Qg,Qh,Qi,Qj,Qk,reduceCtorEq,reduceIte,US,g1,ya,hml,h4,h4n,g2,Ey,g3,Od]
 ·rw[if_neg hE]
  unfold Tr.sv bS at*;generalize trE t=e at*;rw[ah Ob];simp only[go_sem,Q0,Q1,Q2,Q3,Q4,Q5,Q6,Q7,Q8,Q9,Qa,Qb,Qc,Qd,Qe,Qf,Qg,Qh,Qi,Qj,Qk,reduceCtorEq,reduceIte,US,g1,ya,hE]
theorem f35(t:Tr)(B:List UInt8)(ms:List Mk)(hB:B.length<=100000000):call T 35 [.agg t.sv,.agg (bS B ms)] [] 0=some ⟨.int .i64 (rh t B ms),[],[]⟩:=by
 have g1:=f24 t;have hml:=cx ms;unfold rh
 by_cases hE:trE t=0
 ·rw[if_pos hE]
  rw[hE]at g1
  by_cases h4n:4<ms.length
  ·rw[if_pos h4n]
   have h4:(4:Int)<ms.length:=by omega
   unfold Tr.sv bS at*;rw[ah Oc];simp only[go_sem,Q0,Q1,Q2,Q3,Q4,Q5,Q6,Q7,Q8,Q9,Qa,Qb,Qc,Qd,Qe,Qf,Qg,Qh,Qi,Qj,Qk,reduceCtorEq,reduceIte,g1,x9,hml,h4,h4n]
  ·rw[if_neg h4n]
   have h4:¬(4:Int)<ms.length:=by omega
   have g2:=f62 B (by omega);have g3:=f20 B (by omega);have hok:=xd hE B ms (by omega) hB;have g4:=f33 t B ms (by have:=hok.n2;omega) hB (by omega);have hl:=fK (sgL t B ms);unfold N5 N6 at g2;generalize sgL t B ms=L at*;unfold Tr.sv bS at*;cases hp:qE B with
   |some m=>
    rw[hp]at g2;rw[if_neg (fun h=>by cases h.1)];obtain⟨v,m1,m2,m3,m4,es,rs⟩:=m;simp only[Man.sv]at g2;cases hw:nf B with
    |some w=>
     rw[hw]at g3;obtain⟨wm,wf⟩:=w;simp only[wdO,Wd.sv]at g3;rw[ah Oc]
     by_cases hc:(L.length:Int)<t.thr
     ·simp only[go_sem,Q0,Q1,Q2,Q3,Q4,Q5,Q6,Q7,Q8,Q9,Qa,Qb,Qc,Qd,Qe,Qf,Qg,Qh,Qi,Qj,Qk,reduceCtorEq,reduceIte,g1,x9,hml,h4,h4n,g2,Ew,g3,EC,g4,tQ,hl,hc]
     ·simp only[go_sem,Q0,Q1,Q2,Q3,Q4,Q5,Q6,Q7,Q8,Q9,Qa,Qb,Qc,Qd,Qe,Qf,Qg,Qh,Qi,Qj,Qk,reduceCtorEq,reduceIte,g1,x9,hml,h4,h4n,g2,Ew,g3,EC,g4,tQ,hl,hc]
    |none=>
     rw[hw]at g3;simp only[wdO]at g3;rw[ah Oc]
     by_cases hc:(L.length:Int)<t.thr
     ·simp only[go_sem,Q0,Q1,Q2,Q3,Q4,Q5,Q6,Q7,Q8,Q9,Qa,Qb,Qc,Qd,Qe,Qf,Qg,Qh,Qi,Qj,Qk,reduceCtorEq,reduceIte,g1,x9,hml,h4,h4n,g2,Ew,g3,EC,g4,tQ,hl,hc]
     ·simp only[go_sem,Q0,Q1,Q2,Q3,Q4,Q5,Q6,Q7,Q8,Q9,Qa,Qb,Qc,Qd,Qe,Qf,Qg,Qh,Qi,Qj,Qk,reduceCtorEq,reduceIte,g1,x9,hml,h4,h4n,g2,Ew,g3,EC,g4,tQ,hl,hc]
   |none=>
    rw[hp]at g2;simp only[mnz,Man.sv,fo,dT,bp]at g2;cases hw:nf B with
    |some w=>
     rw[hw]at g3;rw[if_neg (fun h=>by cases h.2)];obtain⟨wm,wf⟩:=w;simp only[wdO,Wd.sv]at g3;rw[ah Oc]
     by_cases hc:(L.length:Int)<t.thr
     ·simp only[go_sem,Q0,Q1,Q2,Q3,Q4,Q5,Q6,Q7,Q8,Q9,Qa,Qb,Qc,Qd,Qe,Qf,Qg,Qh,Qi,Qj,Qk,reduceCtorEq,reduceIte,g1,x9,hml,h4,h4n,g2,Ew,g3,EC,g4,tQ,hl,hc]
     ·simp only[go_sem,Q0,Q1,Q2,Q3,Q4,Q5,Q6,Q7,Q8,Q9,Qa,Qb,Qc,Qd,Qe,Qf,Qg,Qh,Qi,Qj,Qk,reduceCtorEq,reduceIte,g1,x9,hml,h4,h4n,g2,Ew,g3,EC,g4,tQ,hl,hc]
    |none=>rw[hw]at g3;rw[if_pos ⟨rfl,rfl⟩];simp only[wdO]at g3;rw[ah Oc];simp only[go_sem,Q0,Q1,Q2,Q3,Q4,Q5,Q6,Q7,Q8,Q9,Qa,Qb,Qc,Qd,Qe,Qf,Qg,Qh,Qi,Qj,Qk,reduceCtorEq,reduceIte,g1,x9,hml,h4,h4n,g2,Ew,g3,EC]
 ·rw[if_neg hE]
  unfold Tr.sv bS at*;generalize trE t=e at*;rw[ah Oc];simp only[go_sem,Q0,Q1,Q2,Q3,Q4,Q5,Q6,Q7,Q8,Q9,Qa,Qb,Qc,Qd,Qe,Qf,Qg,Qh,Qi,Qj,Qk,reduceCtorEq,reduceIte,g1,x9,hE]
end Go.Proofs.YtkggincjigbelaaGreatDoor
