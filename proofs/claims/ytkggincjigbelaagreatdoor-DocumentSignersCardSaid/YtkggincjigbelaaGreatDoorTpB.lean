/- What the functions come to. No condition. -/
import Derived.Test.YtkggincjigbelaaGreatDoorToB
open Int renaming natCast_zero -> aw
open Go.IntKind renaming i64 -> af
open List renaming drop_eq_getElem_cons -> bF, drop_length -> bG, drop_zero -> bj, getD_eq_getElem?_getD -> aa, getElem?_eq_getElem -> ab
set_option maxRecDepth 100000
set_option maxHeartbeats 16000000
set_option linter.unusedSimpArgs false
set_option linter.unusedVariables false
namespace Go.Proofs.YtkggincjigbelaaGreatDoor
open Go.Sy
open UInt8 renaming reduceLT -> Q0, reduceLE -> Q1
open Int renaming reduceToNat -> Q2, reduceLE -> Q3, reduceLT -> Q4, reduceEq -> Q5, reduceNe -> Q6, reduceNeg -> Q7, reduceAdd -> Q8, reduceSub -> Q9, reduceMul -> Qa
open Nat renaming reducePow -> Qb, reduceDiv -> Qc, reduceMod -> Qd, reduceAdd -> Qe, reduceSub -> Qf, reduceMul -> Qg, reduceLT -> Qh, reduceLeDiff -> Qi, reduceEqDiff -> Qj, reduceBEq -> Qk
def As(m:Man)(i:Nat):CSt:=⟨[(1,.ptr 101 0),(3,.int .i64 i)],[(101,.rc m.sv)],[]⟩
theorem s54(m:Man)(hm:iq m)(i:Nat)(hi:i<m.ents.length):
 (lD m.ents i=0->run T (.loop lH) (As m i)=run T (.loop lH) (As m (i+1)))/\
 (lD m.ents i≠0->∃ob,run T (.loop lH) (As m i)=some (.r,⟨[(2,.int .i64 (lD m.ents i))],ob,[]⟩)):=by
 have e1:=cA i (by have:=hm.en;omega);have hv:=eV m.ents;have hg:=kv m.ents i hi;have hbx:=hm.e _ (eM m.ents en0 i hi);have hi1:i-1<m.ents.length:=by omega
 have hby:=hm.e _ (eM m.ents en0 (i-1) hi1);have g1:=xfk (m.ents.getD i en0).name (by omega);have g2:=xoM (m.ents.getD (i-1) en0) (m.ents.getD i en0) (by omega);have es:0<i->af.wrap ((i:Int)-1)=((i-1:Nat):Int):=fun h=>by rw[w64 (by omega) (by have:=hm.en;omega)];omega
 have hg1:=kv m.ents (i-1) hi1;unfold lD;obtain⟨mv,m1,m2,m3,m4,es0,rs⟩:=m;simp only[As,Man.sv]at*;generalize es0.getD i en0=x at*;generalize es0.getD (i-1) en0=y at*;obtain⟨r,n,v,d⟩:=x;obtain⟨r2,n2,v2,d2⟩:=y;simp only[Ent.sv]at*
 by_cases a1:r<1
 ·refine⟨fun h=>by simp[a1]at h,fun _=>⟨[(101,.rc [.str mv,.int .i64 m1,.int .i64 m2,.int .i64 m3,.int .i64 m4,.lst 4 (fo es0) .no,.lst 4 (dT rs) .no]),(104,.rc [.int .i64 r,.str n,.int .i64 v,.byt d .no])], ?_⟩⟩
  rw[ai];simp only[go_sem,Q0,Q1,Q2,Q3,Q4,Q5,Q6,Q7,Q8,Q9,Qa,Qb,Qc,Qd,Qe,Qf,Qg,Qh,Qi,Qj,Qk,reduceCtorEq,reduceIte,hi,e1,hv,hg,a1]
 by_cases a2:3<r
 ·refine⟨fun h=>by simp[a1,a2]at h,fun _=>⟨[(101,.rc [.str mv,.int .i64 m1,.int .i64 m2,.int .i64 m3,.int .i64 m4,.lst 4 (fo es0) .no,.lst 4 (dT rs) .no]),(104,.rc [.int .i64 r,.str n,.int .i64 v,.byt d .no])], ?_⟩⟩
  rw[ai];simp only[go_sem,Q0,Q1,Q2,Q3,Q4,Q5,Q6,Q7,Q8,Q9,Qa,Qb,Qc,Qd,Qe,Qf,Qg,Qh,Qi,Qj,Qk,reduceCtorEq,reduceIte,hi,e1,hv,hg,a1,a2]
 by_cases a3:v<0
 ·refine⟨fun h=>by simp[a1,a2,a3]at h,fun _=>⟨[(101,.rc [.str mv,.int .i64 m1,.int .i64 m2,.int .i64 m3,.int .i64 m4,.lst 4 (fo es0) .no,.lst 4 (dT rs) .no]),(104,.rc [.int .i64 r,.str n,.int .i64 v,.byt d .no])], ?_⟩⟩
  rw[ai];simp only[go_sem,Q0,Q1,Q2,Q3,Q4,Q5,Q6,Q7,Q8,Q9,Qa,Qb,Qc,Qd,Qe,Qf,Qg,Qh,Qi,Qj,Qk,reduceCtorEq,reduceIte,hi,e1,hv,hg,a1,a2,a3]
 by_cases a4:1000000<v
 ·refine⟨fun h=>by simp[a1,a2,a3,a4]at h,fun _=>⟨[(101,.rc [.str mv,.int .i64 m1,.int .i64 m2,.int .i64 m3,.int .i64 m4,.lst 4 (fo es0) .no,.lst 4 (dT rs) .no]),(104,.rc [.int .i64 r,.str n,.int .i64 v,.byt d .no])], ?_⟩⟩
  rw[ai];simp only[go_sem,Q0,Q1,Q2,Q3,Q4,Q5,Q6,Q7,Q8,Q9,Qa,Qb,Qc,Qd,Qe,Qf,Qg,Qh,Qi,Qj,Qk,reduceCtorEq,reduceIte,hi,e1,hv,hg,a1,a2,a3,a4]
 by_cases a5:(d.length:Int)=32
 ·cases a6:Pr.nameB n with
  |false=>rw[a6]at g1;refine⟨fun h=>by simp[a1,a2,a3,a4,a5,a6]at h,fun _=>⟨[(101,.rc [.str mv,.int .i64 m1,.int .i64 m2,.int .i64 m3,.int .i64 m4,.lst 4 (fo es0) .no,.lst 4 (dT rs) .no]),(104,.rc [.int .i64 r,.str n,.int .i64 v,.byt d .no])], ?_⟩⟩;rw[ai];simp only[go_sem,Q0,Q1,Q2,Q3,Q4,Q5,Q6,Q7,Q8,Q9,Qa,Qb,Qc,Qd,Qe,Qf,Qg,Qh,Qi,Qj,Qk,reduceCtorEq,reduceIte,hi,e1,hv,hg,a1,a2,a3,a4,a5,a6,g1,fI]
  |true=>
   rw[a6]at g1
   by_cases a7:i=0
   ·subst a7
    have hp:(0:Int)<es0.length:=by omega
    have kw:af.wrap 1=1:=rfl;refine⟨fun _=> ?_,fun h=>by simp[a1,a2,a3,a4,a5,a6]at h⟩;rw[ai];simp only[go_sem,Q0,Q1,Q2,Q3,Q4,Q5,Q6,Q7,Q8,Q9,Qa,Qb,Qc,Qd,Qe,Qf,Qg,Qh,Qi,Qj,Qk,reduceCtorEq,reduceIte,hi,hp,kw,e1,hv,hg,a1,a2,a3,a4,a5,a6,g1,fI]
   ·have hp:(0:Int)<(i:Nat):=by omega
    have hp0:0<i:=by omega
    have es':=es hp0;cases a8:tv ⟨r2,n2,v2,d2⟩ ⟨r,n,v,d⟩with
    |true=>rw[a8]at g2;refine⟨fun _=> ?_,fun h=>by simp[a1,a2,a3,a4,a5,a6,a7,a8]at h⟩;rw[ai];simp only[go_sem,Q0,Q1,Q2,Q3,Q4,Q5,Q6,Q7,Q8,Q9,Qa,Qb,Qc,Qd,Qe,Qf,Qg,Qh,Qi,Qj,Qk,reduceCtorEq,reduceIte,hi,hp,hp0,hi1,es',hg1,e1,hv,hg,a1,a2,a3,a4,a5,a6,g1,fI,g2,xap]
    |false=>rw[a8]at g2;refine⟨fun h=>by simp[a1,a2,a3,a4,a5,a6,a7,a8]at h,fun _=>⟨[(101,.rc [.str mv,.int .i64 m1,.int .i64 m2,.int .i64 m3,.int .i64 m4,.lst 4 (fo es0) .no,.lst 4 (dT rs) .no]),(104,.rc [.int .i64 r,.str n,.int .i64 v,.byt d .no])], ?_⟩⟩;rw[ai];simp only[go_sem,Q0,Q1,Q2,Q3,Q4,Q5,Q6,Q7,Q8,Q9,Qa,Qb,Qc,Qd,Qe,Qf,Qg,Qh,Qi,Qj,Qk,reduceCtorEq,reduceIte,hi,hp,hp0,hi1,es',hg1,e1,hv,hg,a1,a2,a3,a4,a5,a6,g1,fI,g2,xap,a7,a8]
 ·refine⟨fun h=>by simp[a1,a2,a3,a4,a5]at h,fun _=>⟨[(101,.rc [.str mv,.int .i64 m1,.int .i64 m2,.int .i64 m3,.int .i64 m4,.lst 4 (fo es0) .no,.lst 4 (dT rs) .no]),(104,.rc [.int .i64 r,.str n,.int .i64 v,.byt d .no])], ?_⟩⟩
  rw[ai];simp only[go_sem,Q0,Q1,Q2,Q3,Q4,Q5,Q6,Q7,Q8,Q9,Qa,Qb,Qc,Qd,Qe,Qf,Qg,Qh,Qi,Qj,Qk,reduceCtorEq,reduceIte,hi,e1,hv,hg,a1,a2,a3,a4,a5]
theorem l81(m:Man)(hm:iq m):∀(n i:Nat),m.ents.length-i=n->i<=m.ents.length->
 (gR m.ents n i=0->run T (.loop lH) (As m i)=some (.x 0,⟨[(1,.ptr 101 0)],[(101,.rc m.sv)],[]⟩))/\
 (gR m.ents n i≠0->∃ob,run T (.loop lH) (As m i)=some (.r,⟨[(2,.int .i64 (gR m.ents n i))],ob,[]⟩)):=by
 intro n;induction n with
 |zero=>
  intro i h0 h1;have:i=m.ents.length:=by omega
  subst this;refine⟨fun _=> ?_,fun h=>absurd rfl h⟩;rw[ai];have hv:=eV m.ents;obtain⟨mv,m1,m2,m3,m4,es0,rs⟩:=m;simp only[As,Man.sv]at*;simp only[go_sem,Q0,Q1,Q2,Q3,Q4,Q5,Q6,Q7,Q8,Q9,Qa,Qb,Qc,Qd,Qe,Qf,Qg,Qh,Qi,Qj,Qk,reduceCtorEq,reduceIte,hv]
 |succ n ih=>
  intro i h0 h1;obtain⟨s1,s2⟩:=s54 m hm i (by omega);obtain⟨i1,i2⟩:=ih (i+1) (by omega) (by omega);unfold gR
  by_cases h:lD m.ents i=0
  ·rw[if_pos h,s1 h];exact⟨i1,i2⟩
  ·rw[if_neg h];exact⟨fun h'=>absurd h' h,s2⟩
theorem xns(m:Man)(hm:iq m)(ob:List (Nat×aF))(hob:ob=[(101,.rc m.sv)]):∀(n i:Nat),m.ruls.length-i=n->i<=m.ruls.length->
 (ie (m.ruls.drop i)=0->run T (.loop uc) ⟨[(1,.ptr 101 0),(5,.int .i64 i)],ob,[]⟩=some (.x 2,⟨[],ob,[]⟩))/\
 (ie (m.ruls.drop i)≠0->∃ob',run T (.loop uc) ⟨[(1,.ptr 101 0),(5,.int .i64 i)],ob,[]⟩=some (.r,⟨[(2,.int .i64 (ie (m.ruls.drop i)))],ob',[]⟩)):=by
 intro n;induction n with
 |zero=>
  intro i h0 h1;have:i=m.ruls.length:=by omega
  subst this;rw[bG];refine⟨fun _=> ?_,fun h=>absurd rfl h⟩;have hv:=eD m.ruls;obtain⟨mv,m1,m2,m3,m4,es0,rs⟩:=m;subst hob;simp only[Man.sv]at*;rw[ai];simp only[go_sem,Q0,Q1,Q2,Q3,Q4,Q5,Q6,Q7,Q8,Q9,Qa,Qb,Qc,Qd,Qe,Qf,Qg,Qh,Qi,Qj,Qk,reduceCtorEq,reduceIte,hv]
 |succ n ih=>
  intro i h0 h1;have hi:i<m.ruls.length:=by omega
  obtain⟨i1,i2⟩:=ih (i+1) (by omega) (by omega);have e1:=cA i (by have:=hm.rn;omega);have hv:=eD m.ruls;have hg:=pu m.ruls i hi;have hd:m.ruls.drop i=m.ruls.getD i rl0::m.ruls.drop (i+1):=by rw[bF hi,aa,ab hi];rfl
  have hb:=hm.r _ (eM m.ruls rl0 i hi);rw[hd];unfold ie;generalize m.ruls.drop (i+1)=R at*;generalize m.ruls.getD i rl0=x at*;obtain⟨mv,m1,m2,m3,m4,es0,rs⟩:=m;obtain⟨k,t,lo,hi'⟩:=x;simp only[Man.sv,Rul.sv]at*;subst hob;have g:=f128 k t lo hi' (by omega)
  by_cases h:oy ⟨k,t,lo,hi'⟩=0
  ·rw[if_pos h]
   unfold oy at h;simp only at h;rw[h]at g;refine⟨fun h2=> ?_,fun h2=> ?_⟩
   ·have i1':=i1 h2
    rw[ai];simp only[go_sem,Q0,Q1,Q2,Q3,Q4,Q5,Q6,Q7,Q8,Q9,Qa,Qb,Qc,Qd,Qe,Qf,Qg,Qh,Qi,Qj,Qk,reduceCtorEq,reduceIte,hi,e1,hv,hg,g,PB,i1']
   ·obtain⟨ob',i2'⟩:=i2 h2
    refine⟨ob', ?_⟩;rw[ai];simp only[go_sem,Q0,Q1,Q2,Q3,Q4,Q5,Q6,Q7,Q8,Q9,Qa,Qb,Qc,Qd,Qe,Qf,Qg,Qh,Qi,Qj,Qk,reduceCtorEq,reduceIte,hi,e1,hv,hg,g,PB,i2']
  ·rw[if_neg h]
   unfold oy at h ⊢;simp only at h ⊢;refine⟨fun h2=>absurd h2 h,fun h2=>⟨[(101,.rc [.str mv,.int .i64 m1,.int .i64 m2,.int .i64 m3,.int .i64 m4,.lst 4 (fo es0) .no,.lst 4 (dT rs) .no])], ?_⟩⟩;rw[ai];simp only[go_sem,Q0,Q1,Q2,Q3,Q4,Q5,Q6,Q7,Q8,Q9,Qa,Qb,Qc,Qd,Qe,Qf,Qg,Qh,Qi,Qj,Qk,reduceCtorEq,reduceIte,hi,e1,hv,hg,g,PB,h]
theorem f81(m:Man)(hm:iq m):call T 81 [.agg m.sv] [] 0=some ⟨.int .i64 (gS m),[],[]⟩:=by
 have g1:=xfk m.vendor (by have:=hm.v;omega);obtain⟨l1,l2⟩:=l81 m hm _ 0 rfl (by omega);obtain⟨r1,r2⟩:=xns m hm _ rfl _ 0 rfl (by omega);have hv:=eV m.ents;have hr:=eD m.ruls;obtain⟨mv,m1,m2,m3,m4,es0,rs⟩:=m;simp only[As,Man.sv,aw,bj,Nat.sub_zero]at*;rw[ah xpi];unfold gS;simp only;cases a0:Pr.nameB mv with
 |false=>rw[a0]at g1;simp only[go_sem,Q0,Q1,Q2,Q3,Q4,Q5,Q6,Q7,Q8,Q9,Qa,Qb,Qc,Qd,Qe,Qf,Qg,Qh,Qi,Qj,Qk,reduceCtorEq,reduceIte,g1,fI,a0]
 |true=>
  rw[a0]at g1
  by_cases a1:m2<0
  ·simp only[go_sem,Q0,Q1,Q2,Q3,Q4,Q5,Q6,Q7,Q8,Q9,Qa,Qb,Qc,Qd,Qe,Qf,Qg,Qh,Qi,Qj,Qk,reduceCtorEq,reduceIte,g1,fI,a0,a1]
  by_cases a2:m1<m2
  ·simp only[go_sem,Q0,Q1,Q2,Q3,Q4,Q5,Q6,Q7,Q8,Q9,Qa,Qb,Qc,Qd,Qe,Qf,Qg,Qh,Qi,Qj,Qk,reduceCtorEq,reduceIte,g1,fI,a0,a1,a2]
  by_cases a3:1000000<m1
  ·simp only[go_sem,Q0,Q1,Q2,Q3,Q4,Q5,Q6,Q7,Q8,Q9,Qa,Qb,Qc,Qd,Qe,Qf,Qg,Qh,Qi,Qj,Qk,reduceCtorEq,reduceIte,g1,fI,a0,a1,a2,a3]
  by_cases a4:m3<0
  ·simp only[go_sem,Q0,Q1,Q2,Q3,Q4,Q5,Q6,Q7,Q8,Q9,Qa,Qb,Qc,Qd,Qe,Qf,Qg,Qh,Qi,Qj,Qk,reduceCtorEq,reduceIte,g1,fI,a0,a1,a2,a3,a4]
  by_cases a5:m4<=m3
  ·simp only[go_sem,Q0,Q1,Q2,Q3,Q4,Q5,Q6,Q7,Q8,Q9,Qa,Qb,Qc,Qd,Qe,Qf,Qg,Qh,Qi,Qj,Qk,reduceCtorEq,reduceIte,g1,fI,a0,a1,a2,a3,a4,a5]
  by_cases a6:1099511627776<m4
  ·simp only[go_sem,Q0,Q1,Q2,Q3,Q4,Q5,Q6,Q7,Q8,Q9,Qa,Qb,Qc,Qd,Qe,Qf,Qg,Qh,Qi,Qj,Qk,reduceCtorEq,reduceIte,g1,fI,a0,a1,a2,a3,a4,a5,a6]
  by_cases a7:(16:Int)<es0.length
  ·simp only[go_sem,Q0,Q1,Q2,Q3,Q4,Q5,Q6,Q7,Q8,Q9,Qa,Qb,Qc,Qd,Qe,Qf,Qg,Qh,Qi,Qj,Qk,reduceCtorEq,reduceIte,g1,fI,a0,a1,a2,a3,a4,a5,a6,a7,hv]
  by_cases a8:(8:Int)<rs.length
  ·simp only[go_sem,Q0,Q1,Q2,Q3,Q4,Q5,Q6,Q7,Q8,Q9,Qa,Qb,Qc,Qd,Qe,Qf,Qg,Qh,Qi,Qj,Qk,reduceCtorEq,reduceIte,g1,fI,a0,a1,a2,a3,a4,a5,a6,a7,a8,hv,hr]
  by_cases a9:gR es0 es0.length 0=0
  ·have l1':=l1 a9
   by_cases b0:ie rs=0
   ·have r1':=r1 b0
    simp only[go_sem,Q0,Q1,Q2,Q3,Q4,Q5,Q6,Q7,Q8,Q9,Qa,Qb,Qc,Qd,Qe,Qf,Qg,Qh,Qi,Qj,Qk,reduceCtorEq,reduceIte,g1,fI,a0,a1,a2,a3,a4,a5,a6,a7,a8,hv,hr,l1',a9,r1',b0]
   ·obtain⟨ob,r2'⟩:=r2 b0
    simp only[go_sem,Q0,Q1,Q2,Q3,Q4,Q5,Q6,Q7,Q8,Q9,Qa,Qb,Qc,Qd,Qe,Qf,Qg,Qh,Qi,Qj,Qk,reduceCtorEq,reduceIte,g1,fI,a0,a1,a2,a3,a4,a5,a6,a7,a8,hv,hr,l1',a9,r2']
  ·obtain⟨ob,l2'⟩:=l2 a9
   simp only[go_sem,Q0,Q1,Q2,Q3,Q4,Q5,Q6,Q7,Q8,Q9,Qa,Qb,Qc,Qd,Qe,Qf,Qg,Qh,Qi,Qj,Qk,reduceCtorEq,reduceIte,g1,fI,a0,a1,a2,a3,a4,a5,a6,a7,a8,hv,hr,l2',a9]
end Go.Proofs.YtkggincjigbelaaGreatDoor
