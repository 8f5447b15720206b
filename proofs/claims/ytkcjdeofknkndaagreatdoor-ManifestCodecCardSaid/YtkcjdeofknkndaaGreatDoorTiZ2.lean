/- What the functions come to. No condition. -/
import Derived.Test.YtkcjdeofknkndaaGreatDoorThZ2
open Int renaming natCast_zero -> aA
open Go.IntKind renaming i64 -> af, u64 -> aZ, wrap_u64 -> cf
open List renaming drop_eq_getElem_cons -> aV, drop_length -> bl, drop_zero -> bh, foldl_cons -> cy, foldl_nil -> oa, getD_eq_getElem?_getD -> aa, getElem?_eq_getElem -> ab, length_append -> ac, length_eq_zero_iff -> bj, nil_append -> aF
open UInt8 renaming ofInt -> cO
set_option maxRecDepth 100000
set_option maxHeartbeats 16000000
set_option linter.unusedSimpArgs false
set_option linter.unusedVariables false
namespace Go.Proofs.YtkcjdeofknkndaaGreatDoor
open Go.Sy
open UInt8 renaming reduceLT -> Q0, reduceLE -> Q1
open Int renaming reduceToNat -> Q2, reduceLE -> Q3, reduceLT -> Q4, reduceEq -> Q5, reduceNe -> Q6, reduceNeg -> Q7, reduceAdd -> Q8, reduceSub -> Q9, reduceMul -> Qa
open Nat renaming reducePow -> Qb, reduceDiv -> Qc, reduceMod -> Qd, reduceAdd -> Qe, reduceSub -> Qf, reduceMul -> Qg, reduceLT -> Qh, reduceLeDiff -> Qi, reduceEqDiff -> Qj, reduceBEq -> Qk
def zP(m:Man)(i:Nat):CSt:=⟨[(1,.ptr 101 0),(3,.int .i64 i)],[(101,.rc m.sv)],[]⟩
theorem s54(m:Man)(hm:cQ m)(i:Nat)(hi:i<m.ents.length):
 (lN m.ents i=0->run T (.loop lS) (zP m i)=run T (.loop lS) (zP m (i+1)))/\
 (lN m.ents i≠0->∃ob,run T (.loop lS) (zP m i)=some (.r,⟨[(2,.int .i64 (lN m.ents i))],ob,[]⟩)):=by
 have e1:=cE i (by have:=hm.en;omega);have hv:=aQ m.ents;have hg:=cS m.ents i hi;have hbx:=hm.e _ (cC m.ents en0 i hi);have hi1:i-1<m.ents.length:=by omega
 have hby:=hm.e _ (cC m.ents en0 (i-1) hi1);have g1:=f45 (m.ents.getD i en0).name (by omega);have g2:=f46 (m.ents.getD (i-1) en0) (m.ents.getD i en0) (by omega);have es:0<i->af.wrap ((i:Int)-1)=((i-1:Nat):Int):=fun h=>by rw[w64 (by omega) (by have:=hm.en;omega)];omega
 have hg1:=cS m.ents (i-1) hi1;unfold lN;obtain⟨mv,m1,m2,m3,m4,es0,rs⟩:=m;simp only[zP,Man.sv]at*;generalize es0.getD i en0=x at*;generalize es0.getD (i-1) en0=y at*;obtain⟨r,n,v,d⟩:=x;obtain⟨r2,n2,v2,d2⟩:=y;simp only[Ent.sv]at*
 by_cases a1:r<1
 ·refine⟨fun h=>by simp[a1]at h,fun _=>⟨[(101,.rc [.str mv,.int .i64 m1,.int .i64 m2,.int .i64 m3,.int .i64 m4,.lst 4 (bf es0) .no,.lst 4 (bO rs) .no]),(104,.rc [.int .i64 r,.str n,.int .i64 v,.byt d .no])], ?_⟩⟩
  rw[ai];simp only[go_sem,Q0,Q1,Q2,Q3,Q4,Q5,Q6,Q7,Q8,Q9,Qa,Qb,Qc,Qd,Qe,Qf,Qg,Qh,Qi,Qj,Qk,reduceCtorEq,reduceIte,hi,e1,hv,hg,a1]
 by_cases a2:3<r
 ·refine⟨fun h=>by simp[a1,a2]at h,fun _=>⟨[(101,.rc [.str mv,.int .i64 m1,.int .i64 m2,.int .i64 m3,.int .i64 m4,.lst 4 (bf es0) .no,.lst 4 (bO rs) .no]),(104,.rc [.int .i64 r,.str n,.int .i64 v,.byt d .no])], ?_⟩⟩
  rw[ai];simp only[go_sem,Q0,Q1,Q2,Q3,Q4,Q5,Q6,Q7,Q8,Q9,Qa,Qb,Qc,Qd,Qe,Qf,Qg,Qh,Qi,Qj,Qk,reduceCtorEq,reduceIte,hi,e1,hv,hg,a1,a2]
 by_cases a3:v<0
 ·refine⟨fun h=>by simp[a1,a2,a3]at h,fun _=>⟨[(101,.rc [.str mv,.int .i64 m1,.int .i64 m2,.int .i64 m3,.int .i64 m4,.lst 4 (bf es0) .no,.lst 4 (bO rs) .no]),(104,.rc [.int .i64 r,.str n,.int .i64 v,.byt d .no])], ?_⟩⟩
  rw[ai];simp only[go_sem,Q0,Q1,Q2,Q3,Q4,Q5,Q6,Q7,Q8,Q9,Qa,Qb,Qc,Qd,Qe,Qf,Qg,Qh,Qi,Qj,Qk,reduceCtorEq,reduceIte,hi,e1,hv,hg,a1,a2,a3]
 by_cases a4:1000000<v
 ·refine⟨fun h=>by simp[a1,a2,a3,a4]at h,fun _=>⟨[(101,.rc [.str mv,.int .i64 m1,.int .i64 m2,.int .i64 m3,.int .i64 m4,.lst 4 (bf es0) .no,.lst 4 (bO rs) .no]),(104,.rc [.int .i64 r,.str n,.int .i64 v,.byt d .no])], ?_⟩⟩
  rw[ai];simp only[go_sem,Q0,Q1,Q2,Q3,Q4,Q5,Q6,Q7,Q8,Q9,Qa,Qb,Qc,Qd,Qe,Qf,Qg,Qh,Qi,Qj,Qk,reduceCtorEq,reduceIte,hi,e1,hv,hg,a1,a2,a3,a4]
 by_cases a5:(d.length:Int)=32
 ·cases a6:Pr.nameB n with
  |false=>rw[a6]at g1;refine⟨fun h=>by simp[a1,a2,a3,a4,a5,a6]at h,fun _=>⟨[(101,.rc [.str mv,.int .i64 m1,.int .i64 m2,.int .i64 m3,.int .i64 m4,.lst 4 (bf es0) .no,.lst 4 (bO rs) .no]),(104,.rc [.int .i64 r,.str n,.int .i64 v,.byt d .no])], ?_⟩⟩;rw[ai];simp only[go_sem,Q0,Q1,Q2,Q3,Q4,Q5,Q6,Q7,Q8,Q9,Qa,Qb,Qc,Qd,Qe,Qf,Qg,Qh,Qi,Qj,Qk,reduceCtorEq,reduceIte,hi,e1,hv,hg,a1,a2,a3,a4,a5,a6,g1,kA]
  |true=>
   rw[a6]at g1
   by_cases a7:i=0
   ·subst a7
    have hp:(0:Int)<es0.length:=by omega
    have kw:af.wrap 1=1:=rfl;refine⟨fun _=> ?_,fun h=>by simp[a1,a2,a3,a4,a5,a6]at h⟩;rw[ai];simp only[go_sem,Q0,Q1,Q2,Q3,Q4,Q5,Q6,Q7,Q8,Q9,Qa,Qb,Qc,Qd,Qe,Qf,Qg,Qh,Qi,Qj,Qk,reduceCtorEq,reduceIte,hi,hp,kw,e1,hv,hg,a1,a2,a3,a4,a5,a6,g1,kA]
   ·have hp:(0:Int)<(i:Nat):=by omega
    have hp0:0<i:=by omega
    have es':=es hp0;cases a8:eM ⟨r2,n2,v2,d2⟩ ⟨r,n,v,d⟩with
    |true=>rw[a8]at g2;refine⟨fun _=> ?_,fun h=>by simp[a1,a2,a3,a4,a5,a6,a7,a8]at h⟩;rw[ai];simp only[go_sem,Q0,Q1,Q2,Q3,Q4,Q5,Q6,Q7,Q8,Q9,Qa,Qb,Qc,Qd,Qe,Qf,Qg,Qh,Qi,Qj,Qk,reduceCtorEq,reduceIte,hi,hp,hp0,hi1,es',hg1,e1,hv,hg,a1,a2,a3,a4,a5,a6,g1,kA,g2,NS]
    |false=>rw[a8]at g2;refine⟨fun h=>by simp[a1,a2,a3,a4,a5,a6,a7,a8]at h,fun _=>⟨[(101,.rc [.str mv,.int .i64 m1,.int .i64 m2,.int .i64 m3,.int .i64 m4,.lst 4 (bf es0) .no,.lst 4 (bO rs) .no]),(104,.rc [.int .i64 r,.str n,.int .i64 v,.byt d .no])], ?_⟩⟩;rw[ai];simp only[go_sem,Q0,Q1,Q2,Q3,Q4,Q5,Q6,Q7,Q8,Q9,Qa,Qb,Qc,Qd,Qe,Qf,Qg,Qh,Qi,Qj,Qk,reduceCtorEq,reduceIte,hi,hp,hp0,hi1,es',hg1,e1,hv,hg,a1,a2,a3,a4,a5,a6,g1,kA,g2,NS,a7,a8]
 ·refine⟨fun h=>by simp[a1,a2,a3,a4,a5]at h,fun _=>⟨[(101,.rc [.str mv,.int .i64 m1,.int .i64 m2,.int .i64 m3,.int .i64 m4,.lst 4 (bf es0) .no,.lst 4 (bO rs) .no]),(104,.rc [.int .i64 r,.str n,.int .i64 v,.byt d .no])], ?_⟩⟩
  rw[ai];simp only[go_sem,Q0,Q1,Q2,Q3,Q4,Q5,Q6,Q7,Q8,Q9,Qa,Qb,Qc,Qd,Qe,Qf,Qg,Qh,Qi,Qj,Qk,reduceCtorEq,reduceIte,hi,e1,hv,hg,a1,a2,a3,a4,a5]
theorem l14(m:Man)(hm:cQ m):∀(n i:Nat),m.ents.length-i=n->i<=m.ents.length->
 (gQ m.ents n i=0->run T (.loop lS) (zP m i)=some (.x 0,⟨[(1,.ptr 101 0)],[(101,.rc m.sv)],[]⟩))/\
 (gQ m.ents n i≠0->∃ob,run T (.loop lS) (zP m i)=some (.r,⟨[(2,.int .i64 (gQ m.ents n i))],ob,[]⟩)):=by
 intro n;induction n with
 |zero=>
  intro i h0 h1;have:i=m.ents.length:=by omega
  subst this;refine⟨fun _=> ?_,fun h=>absurd rfl h⟩;rw[ai];have hv:=aQ m.ents;obtain⟨mv,m1,m2,m3,m4,es0,rs⟩:=m;simp only[zP,Man.sv]at*;simp only[go_sem,Q0,Q1,Q2,Q3,Q4,Q5,Q6,Q7,Q8,Q9,Qa,Qb,Qc,Qd,Qe,Qf,Qg,Qh,Qi,Qj,Qk,reduceCtorEq,reduceIte,hv]
 |succ n ih=>
  intro i h0 h1;obtain⟨s1,s2⟩:=s54 m hm i (by omega);obtain⟨i1,i2⟩:=ih (i+1) (by omega) (by omega);unfold gQ
  by_cases h:lN m.ents i=0
  ·rw[if_pos h,s1 h];exact⟨i1,i2⟩
  ·rw[if_neg h];exact⟨fun h'=>absurd h' h,s2⟩
theorem xjM(m:Man)(hm:cQ m)(ob:List (Nat×aG))(hob:ob=[(101,.rc m.sv)]):∀(n i:Nat),m.ruls.length-i=n->i<=m.ruls.length->
 (hC (m.ruls.drop i)=0->run T (.loop tV) ⟨[(1,.ptr 101 0),(5,.int .i64 i)],ob,[]⟩=some (.x 2,⟨[],ob,[]⟩))/\
 (hC (m.ruls.drop i)≠0->∃ob',run T (.loop tV) ⟨[(1,.ptr 101 0),(5,.int .i64 i)],ob,[]⟩=some (.r,⟨[(2,.int .i64 (hC (m.ruls.drop i)))],ob',[]⟩)):=by
 intro n;induction n with
 |zero=>
  intro i h0 h1;have:i=m.ruls.length:=by omega
  subst this;rw[bl];refine⟨fun _=> ?_,fun h=>absurd rfl h⟩;have hv:=bg m.ruls;obtain⟨mv,m1,m2,m3,m4,es0,rs⟩:=m;subst hob;simp only[Man.sv]at*;rw[ai];simp only[go_sem,Q0,Q1,Q2,Q3,Q4,Q5,Q6,Q7,Q8,Q9,Qa,Qb,Qc,Qd,Qe,Qf,Qg,Qh,Qi,Qj,Qk,reduceCtorEq,reduceIte,hv]
 |succ n ih=>
  intro i h0 h1;have hi:i<m.ruls.length:=by omega
  obtain⟨i1,i2⟩:=ih (i+1) (by omega) (by omega);have e1:=cE i (by have:=hm.rn;omega);have hv:=bg m.ruls;have hg:=gx m.ruls i hi;have hd:m.ruls.drop i=m.ruls.getD i rl0::m.ruls.drop (i+1):=by rw[aV hi,aa,ab hi];rfl
  have hb:=hm.r _ (cC m.ruls rl0 i hi);rw[hd];unfold hC;generalize m.ruls.drop (i+1)=R at*;generalize m.ruls.getD i rl0=x at*;obtain⟨mv,m1,m2,m3,m4,es0,rs⟩:=m;obtain⟨k,t,lo,hi'⟩:=x;simp only[Man.sv,Rul.sv]at*;subst hob;have g:=f47 k t lo hi' (by omega)
  by_cases h:oA ⟨k,t,lo,hi'⟩=0
  ·rw[if_pos h]
   unfold oA at h;simp only at h;rw[h]at g;refine⟨fun h2=> ?_,fun h2=> ?_⟩
   ·have i1':=i1 h2
    rw[ai];simp only[go_sem,Q0,Q1,Q2,Q3,Q4,Q5,Q6,Q7,Q8,Q9,Qa,Qb,Qc,Qd,Qe,Qf,Qg,Qh,Qi,Qj,Qk,reduceCtorEq,reduceIte,hi,e1,hv,hg,g,xdb,i1']
   ·obtain⟨ob',i2'⟩:=i2 h2
    refine⟨ob', ?_⟩;rw[ai];simp only[go_sem,Q0,Q1,Q2,Q3,Q4,Q5,Q6,Q7,Q8,Q9,Qa,Qb,Qc,Qd,Qe,Qf,Qg,Qh,Qi,Qj,Qk,reduceCtorEq,reduceIte,hi,e1,hv,hg,g,xdb,i2']
  ·rw[if_neg h]
   unfold oA at h ⊢;simp only at h ⊢;refine⟨fun h2=>absurd h2 h,fun h2=>⟨[(101,.rc [.str mv,.int .i64 m1,.int .i64 m2,.int .i64 m3,.int .i64 m4,.lst 4 (bf es0) .no,.lst 4 (bO rs) .no])], ?_⟩⟩;rw[ai];simp only[go_sem,Q0,Q1,Q2,Q3,Q4,Q5,Q6,Q7,Q8,Q9,Qa,Qb,Qc,Qd,Qe,Qf,Qg,Qh,Qi,Qj,Qk,reduceCtorEq,reduceIte,hi,e1,hv,hg,g,xdb,h]
theorem f14(m:Man)(hm:cQ m):call T 14 [.agg m.sv] [] 0=some ⟨.int .i64 (dn m),[],[]⟩:=by
 have g1:=f45 m.vendor (by have:=hm.v;omega);obtain⟨l1,l2⟩:=l14 m hm _ 0 rfl (by omega);obtain⟨r1,r2⟩:=xjM m hm _ rfl _ 0 rfl (by omega);have hv:=aQ m.ents;have hr:=bg m.ruls;obtain⟨mv,m1,m2,m3,m4,es0,rs⟩:=m;simp only[zP,Man.sv,aA,bh,Nat.sub_zero]at*;rw[ao xlK];unfold dn;simp only;cases a0:Pr.nameB mv with
 |false=>rw[a0]at g1;simp only[go_sem,Q0,Q1,Q2,Q3,Q4,Q5,Q6,Q7,Q8,Q9,Qa,Qb,Qc,Qd,Qe,Qf,Qg,Qh,Qi,Qj,Qk,reduceCtorEq,reduceIte,g1,kA,a0]
 |true=>
  rw[a0]at g1
  by_cases a1:m2<0
  ·simp only[go_sem,Q0,Q1,Q2,Q3,Q4,Q5,Q6,Q7,Q8,Q9,Qa,Qb,Qc,Qd,Qe,Qf,Qg,Qh,Qi,Qj,Qk,reduceCtorEq,reduceIte,g1,kA,a0,a1]
  by_cases a2:m1<m2
  ·simp only[go_sem,Q0,Q1,Q2,Q3,Q4,Q5,Q6,Q7,Q8,Q9,Qa,Qb,Qc,Qd,Qe,Qf,Qg,Qh,Qi,Qj,Qk,reduceCtorEq,reduceIte,g1,kA,a0,a1,a2]
  by_cases a3:1000000<m1
  ·simp only[go_sem,Q0,Q1,Q2,Q3,Q4,Q5,Q6,Q7,Q8,Q9,Qa,Qb,Qc,Qd,Qe,Qf,Qg,Qh,Qi,Qj,Qk,reduceCtorEq,reduceIte,g1,kA,a0,a1,a2,a3]
  by_cases a4:m3<0
  ·simp only[go_sem,Q0,Q1,Q2,Q3,Q4,Q5,Q6,Q7,Q8,Q9,Qa,Qb,Qc,Qd,Qe,Qf,Qg,Qh,Qi,Qj,Qk,reduceCtorEq,reduceIte,g1,kA,a0,a1,a2,a3,a4]
  by_cases a5:m4<=m3
  ·simp only[go_sem,Q0,Q1,Q2,Q3,Q4,Q5,Q6,Q7,Q8,Q9,Qa,Qb,Qc,Qd,Qe,Qf,Qg,Qh,Qi,Qj,Qk,reduceCtorEq,reduceIte,g1,kA,a0,a1,a2,a3,a4,a5]
  by_cases a6:1099511627776<m4
  ·simp only[go_sem,Q0,Q1,Q2,Q3,Q4,Q5,Q6,Q7,Q8,Q9,Qa,Qb,Qc,Qd,Qe,Qf,Qg,Qh,Qi,Qj,Qk,reduceCtorEq,reduceIte,g1,kA,a0,a1,a2,a3,a4,a5,a6]
  by_cases a7:(16:Int)<es0.length
  ·simp only[go_sem,Q0,Q1,Q2,Q3,Q4,Q5,Q6,Q7,Q8,Q9,Qa,Qb,Qc,Qd,Qe,Qf,Qg,Qh,Qi,Qj,Qk,reduceCtorEq,reduceIte,g1,kA,a0,a1,a2,a3,a4,a5,a6,a7,hv]
  by_cases a8:(8:Int)<rs.length
  ·simp only[go_sem,Q0,Q1,Q2,Q3,Q4,Q5,Q6,Q7,Q8,Q9,Qa,Qb,Qc,Qd,Qe,Qf,Qg,Qh,Qi,Qj,Qk,reduceCtorEq,reduceIte,g1,kA,a0,a1,a2,a3,a4,a5,a6,a7,a8,hv,hr]
  by_cases a9:gQ es0 es0.length 0=0
  ·have l1':=l1 a9
   by_cases b0:hC rs=0
   ·have r1':=r1 b0
    simp only[go_sem,Q0,Q1,Q2,Q3,Q4,Q5,Q6,Q7,Q8,Q9,Qa,Qb,Qc,Qd,Qe,Qf,Qg,Qh,Qi,Qj,Qk,reduceCtorEq,reduceIte,g1,kA,a0,a1,a2,a3,a4,a5,a6,a7,a8,hv,hr,l1',a9,r1',b0]
   ·obtain⟨ob,r2'⟩:=r2 b0
    simp only[go_sem,Q0,Q1,Q2,Q3,Q4,Q5,Q6,Q7,Q8,Q9,Qa,Qb,Qc,Qd,Qe,Qf,Qg,Qh,Qi,Qj,Qk,reduceCtorEq,reduceIte,g1,kA,a0,a1,a2,a3,a4,a5,a6,a7,a8,hv,hr,l1',a9,r2']
  ·obtain⟨ob,l2'⟩:=l2 a9
   simp only[go_sem,Q0,Q1,Q2,Q3,Q4,Q5,Q6,Q7,Q8,Q9,Qa,Qb,Qc,Qd,Qe,Qf,Qg,Qh,Qi,Qj,Qk,reduceCtorEq,reduceIte,g1,kA,a0,a1,a2,a3,a4,a5,a6,a7,a8,hv,hr,l2',a9]
theorem xkP(v:Int):cO (Int.fdiv (aZ.wrap v) (2^0))=cO v:=by
 rw[show(2:Int)^0=1 from rfl,Int.fdiv_one,cf];unfold cO
 congr 2
 omega
theorem qD(v:Int):bu 1 v=[cO v]:=by rw[<-xkP v];rfl
theorem Eo(B:List UInt8)(k:Nat)(v:Int)(h1:1<=k)(h8:k<=8)(hB:B.length<=10000000000000):
 call T 57 [.byt B .no,.int .i64 k,.int .i64 v] [] 0=some ⟨.byt (B++bu k v) (.id 60),[],[60]⟩:=f57 B k v h1 h8 hB
def tkR:Bool->Bool->List Nat
 |false,false=> [103,16060,20060,24060,28060]
 |true,false=> [103,16060,20060,24060,28060,61060]
 |false,true=> [103,16060,20060,24060,28060,97060]
 |true,true=> [103,16060,20060,24060,28060,61060,97060]
theorem xi6(m:Man)(hm:cQ m)(b:Bool)(i:Nat)(hi:i<m.ents.length)(B:List UInt8)(hB:B.length<=1000000000):
 run T (.loop qf) ⟨[(1,.ptr 101 0),(3,.byt B (.id 103)),(4,.int .i64 i)],[(101,.rc m.sv)],tkR b false⟩=
 run T (.loop qf) ⟨[(1,.ptr 101 0),(3,.byt (mF B (m.ents.getD i en0)) (.id 103)),(4,.int .i64 ((i+1:Nat):Int))],[(101,.rc m.sv)],tkR true false⟩:=by
 have k4:((4:Nat):Int)=4:=rfl;have hen:=hm.en;have e1:=cE i (by omega);have hg:=cS m.ents i hi;have hel:=aQ m.ents;obtain⟨hxn,hxd⟩:=hm.e _ (cC m.ents en0 i hi);clear hm;generalize m.ents.getD i en0=x at*;unfold mF;have n1:(B++bu 1 x.role).length<=1000000001:=by rw[ac,cA];omega
 have n0:B.length+1<=140737488355328:=by omega
 have u2:=f56 (B++bu 1 x.role) x.name (by omega) (by omega);have n2:(ie (B++bu 1 x.role) x.name).length<=1010000000:=by rw[dO];omega
 generalize ie (B++bu 1 x.role) x.name=B2 at*;rw[qD]at u2;have u3:=Eo B2 4 x.ver (by omega) (by omega) (by omega);rw[k4]at u3;have n3:(B2++bu 4 x.ver).length<=1010000004:=by rw[ac,cA];omega
 generalize B2++bu 4 x.ver=B3 at*;have n4:B3.length+x.dig.length<=140737488355328:=by omega
 obtain⟨mv,m1,m2,m3,m4,es,rs⟩:=m;obtain⟨x1,x2,x3,x4⟩:=x;simp only[Man.sv,Ent.sv]at*;cases b with
 |false=>rw[ai];simp only[tkR];simp only[go_sem,Q0,Q1,Q2,Q3,Q4,Q5,Q6,Q7,Q8,Q9,Qa,Qb,Qc,Qd,Qe,Qf,Qg,Qh,Qi,Qj,Qk,reduceCtorEq,reduceIte,hi,e1,hg,hel,n0,u2,u3,n4,Ey,RY]
 |true=>rw[ai];simp only[tkR];simp only[go_sem,Q0,Q1,Q2,Q3,Q4,Q5,Q6,Q7,Q8,Q9,Qa,Qb,Qc,Qd,Qe,Qf,Qg,Qh,Qi,Qj,Qk,reduceCtorEq,reduceIte,hi,e1,hg,hel,n0,u2,u3,n4,Ey,RY]
theorem xjD(m:Man)(hm:cQ m)(h16:m.ents.length<=16):∀(n i:Nat)(b:Bool)(B:List UInt8),m.ents.length-i=n->i<=m.ents.length->B.length<=20000000+i*2000007->
 ∃b',run T (.loop qf) ⟨[(1,.ptr 101 0),(3,.byt B (.id 103)),(4,.int .i64 i)],[(101,.rc m.sv)],tkR b false⟩=
 some (.x 0,⟨[(1,.ptr 101 0),(3,.byt ((m.ents.drop i).foldl mF B) (.id 103))],[(101,.rc m.sv)],tkR b' false⟩):=by
 intro n;induction n with
 |zero=>
  intro i b B h0 h1 h2;have hel:=aQ m.ents;have:i=m.ents.length:=by omega
  subst this;refine⟨b, ?_⟩;rw[bl,oa,ai];obtain⟨mv,m1,m2,m3,m4,es,rs⟩:=m;simp only[Man.sv]at*;cases b with
  |false=>simp only[tkR];simp only[go_sem,Q0,Q1,Q2,Q3,Q4,Q5,Q6,Q7,Q8,Q9,Qa,Qb,Qc,Qd,Qe,Qf,Qg,Qh,Qi,Qj,Qk,reduceCtorEq,reduceIte,hel]
  |true=>simp only[tkR];simp only[go_sem,Q0,Q1,Q2,Q3,Q4,Q5,Q6,Q7,Q8,Q9,Qa,Qb,Qc,Qd,Qe,Qf,Qg,Qh,Qi,Qj,Qk,reduceCtorEq,reduceIte,hel]
 |succ n ih=>
  intro i b B h0 h1 h2;have hi:i<m.ents.length:=by omega
  have hdr:m.ents.drop i=m.ents.getD i en0::m.ents.drop (i+1):=by rw[aV hi,aa,ab hi];rfl
  obtain⟨hxn,hxd⟩:=hm.e _ (cC m.ents en0 i hi);have hl:=pS B (m.ents.getD i en0) hxn hxd;rw[xi6 m hm b i hi B (by omega),hdr,cy];exact ih (i+1) true _ (by omega) (by omega) (by omega)
theorem xi5(m:Man)(hr:∀x∈m.ruls,x.text.length<=1000000)(hn:m.ruls.length<=1000000)(b c:Bool)(i:Nat)(hi:i<m.ruls.length)(B:List UInt8)(hB:B.length<=1000000000):
 run T (.loop qe) ⟨[(1,.ptr 101 0),(3,.byt B (.id 103)),(6,.int .i64 i)],[(101,.rc m.sv)],tkR b c⟩=
 run T (.loop qe) ⟨[(1,.ptr 101 0),(3,.byt (lz B (m.ruls.getD i rl0)) (.id 103)),(6,.int .i64 ((i+1:Nat):Int))],[(101,.rc m.sv)],tkR b true⟩:=by
 have k4:((4:Nat):Int)=4:=rfl;have e1:=cE i (by omega);have hg:=gx m.ruls i hi;have hel:=bg m.ruls;have hxn:=hr _ (cC m.ruls rl0 i hi);clear hr;generalize m.ruls.getD i rl0=x at*;unfold lz;have n1:(B++bu 1 x.kind).length<=1000000001:=by rw[ac,cA];omega
 have n0:B.length+1<=140737488355328:=by omega
 have u2:=f56 (B++bu 1 x.kind) x.text (by omega) (by omega);have n2:(ie (B++bu 1 x.kind) x.text).length<=1010000000:=by rw[dO];omega
 generalize ie (B++bu 1 x.kind) x.text=B2 at*;rw[qD]at u2;have u3:=Eo B2 4 x.lo (by omega) (by omega) (by omega);rw[k4]at u3;have n3:(B2++bu 4 x.lo).length<=1010000004:=by rw[ac,cA];omega
 generalize B2++bu 4 x.lo=B3 at*;have u4:=Eo B3 4 x.hi (by omega) (by omega) (by omega);rw[k4]at u4;obtain⟨mv,m1,m2,m3,m4,es,rs⟩:=m;obtain⟨x1,x2,x3,x4⟩:=x;simp only[Rul.sv,Man.sv]at*
 cases b<;>cases c<;>
  (rw[ai]
   simp only[tkR];simp only[go_sem,Q0,Q1,Q2,Q3,Q4,Q5,Q6,Q7,Q8,Q9,Qa,Qb,Qc,Qd,Qe,Qf,Qg,Qh,Qi,Qj,Qk,reduceCtorEq,reduceIte,hi,e1,hg,hel,n0,u2,u3,u4,Ey,RY])
theorem xjC(m:Man)(hr:∀x∈m.ruls,x.text.length<=1000000)(hn:m.ruls.length<=8)(b:Bool):∀(n i:Nat)(c:Bool)(B:List UInt8),m.ruls.length-i=n->i<=m.ruls.length->B.length<=100000000+i*2000007->
 ∃c',run T (.loop qe) ⟨[(1,.ptr 101 0),(3,.byt B (.id 103)),(6,.int .i64 i)],[(101,.rc m.sv)],tkR b c⟩=
 some (.x 2,⟨[(3,.byt ((m.ruls.drop i).foldl lz B) (.id 103))],[(101,.rc m.sv)],tkR b c'⟩):=by
 intro n;induction n with
 |zero=>
  intro i c B h0 h1 h2;have hel:=bg m.ruls;have:i=m.ruls.length:=by omega
  subst this;refine⟨c, ?_⟩;rw[bl,oa,ai];obtain⟨mv,m1,m2,m3,m4,es,rs⟩:=m;simp only[Man.sv]at*;cases b<;>cases c<;>(simp only[tkR];simp only[go_sem,Q0,Q1,Q2,Q3,Q4,Q5,Q6,Q7,Q8,Q9,Qa,Qb,Qc,Qd,Qe,Qf,Qg,Qh,Qi,Qj,Qk,reduceCtorEq,reduceIte,hel])
 |succ n ih=>
  intro i c B h0 h1 h2;have hi:i<m.ruls.length:=by omega
  have hdr:m.ruls.drop i=m.ruls.getD i rl0::m.ruls.drop (i+1):=by rw[aV hi,aa,ab hi];rfl
  have hl:=py B (m.ruls.getD i rl0) (hr _ (cC m.ruls rl0 i hi));rw[xi5 m hr (by omega) b c i hi B (by omega),hdr,cy];exact ih (i+1) true _ (by omega) (by omega) (by omega)
theorem f20(m:Man)(hm:cQ m):call T 20 [.agg m.sv] [] 0=some ⟨.byt (gF m) .no,[],[]⟩:=by
 have g1:=f14 m hm;have k4:((4:Nat):Int)=4:=rfl;have k6:((6:Nat):Int)=6:=rfl;have hvl:=hm.v;have hrn:=hm.rn;have hel:=aQ m.ents;have hrl:=bg m.ruls;unfold gF
 by_cases hv:dn m=0
 ·obtain⟨h16,h8⟩:=mU hv
  rw[hv]at g1;rw[if_pos hv];unfold hdM;have b21:bu 1 21=[21]:=by rw[qD];rfl
  have u2:=f56 [21] m.vendor (by simp) (by omega);rw[b21,aF];generalize hB2:ie [21] m.vendor=B2 at*;have n2:B2.length<=10000000:=by rw[<-hB2,dO];simp;omega
  have u3:=Eo B2 4 m.ver (by omega) (by omega) (by omega);rw[k4]at u3;generalize hB3:B2++bu 4 m.ver=B3 at*;have n3:B3.length<=10000004:=by rw[<-hB3,ac,cA];omega
  have u4:=Eo B3 4 m.flr (by omega) (by omega) (by omega);rw[k4]at u4;generalize hB4:B3++bu 4 m.flr=B4 at*;have n4:B4.length<=10000008:=by rw[<-hB4,ac,cA];omega
  have u5:=Eo B4 6 m.frm (by omega) (by omega) (by omega);rw[k6]at u5;generalize hB5:B4++bu 6 m.frm=B5 at*;have n5:B5.length<=10000014:=by rw[<-hB5,ac,cA];omega
  have u6:=Eo B5 6 m.til (by omega) (by omega) (by omega);rw[k6]at u6;generalize hB6:B5++bu 6 m.til=B6 at*;have n6:B6.length<=10000020:=by rw[<-hB6,ac,cA];omega
  have r6:B6.length+1<=140737488355328:=by omega
  have n7:(B6++bu 1 (m.ents.length:Int)).length<=10000021:=by rw[ac,cA];omega
  obtain⟨b,la⟩:=xjD m hm h16 _ 0 false (B6++bu 1 (m.ents.length:Int)) rfl (by omega) (by omega);have n8:=kN m.ents (B6++bu 1 (m.ents.length:Int)) hm.e;rw[bh,aA]at la;generalize m.ents.foldl mF (B6++bu 1 (m.ents.length:Int))=B8 at*;rw[qD]at la;have r8:B8.length+1<=140737488355328:=by omega
  have n9:(B8++bu 1 (m.ruls.length:Int)).length<=10000022+16*2000007:=by rw[ac,cA];omega
  obtain⟨c,lb⟩:=xjC m hm.r h8 b _ 0 false (B8++bu 1 (m.ruls.length:Int)) rfl (by omega) (by omega);rw[bh,aA]at lb;generalize m.ruls.foldl lz (B8++bu 1 (m.ruls.length:Int))=B10 at*;rw[qD]at lb;obtain⟨mv,m1,m2,m3,m4,es,rs⟩:=m;simp only[Man.sv]at*;rw[ao xiB]
  cases b<;>cases c<;>
   (simp only[tkR]at la lb
    simp only[go_sem,Q0,Q1,Q2,Q3,Q4,Q5,Q6,Q7,Q8,Q9,Qa,Qb,Qc,Qd,Qe,Qf,Qg,Qh,Qi,Qj,Qk,reduceCtorEq,reduceIte,g1,jp,u2,u3,u4,u5,u6,Ey,RY,hel,r6,la,r8,hrl,lb])
 ·rw[if_neg hv]
  obtain⟨mv,m1,m2,m3,m4,es,rs⟩:=m;simp only[Man.sv]at*;rw[ao xiB];simp only[go_sem,Q0,Q1,Q2,Q3,Q4,Q5,Q6,Q7,Q8,Q9,Qa,Qb,Qc,Qd,Qe,Qf,Qg,Qh,Qi,Qj,Qk,reduceCtorEq,reduceIte,g1,jp,hv]
theorem f22(m:Man)(hm:cQ m):call T 22 [.agg m.sv] [] 0=some ⟨.byt (nV m) .no,[],[]⟩:=by
 have g1:=f20 m hm;have hl:=ky m hm;have g2:=f59 21 (gF m) (by omega);obtain⟨mv,m1,m2,m3,m4,es,rs⟩:=m;unfold nV;simp only[Man.sv]at*;rw[ao xlE];generalize gF ⟨mv,m1,m2,m3,m4,es,rs⟩=E at*
 by_cases he:E=[]
 ·subst he
  simp only[go_sem,Q0,Q1,Q2,Q3,Q4,Q5,Q6,Q7,Q8,Q9,Qa,Qb,Qc,Qd,Qe,Qf,Qg,Qh,Qi,Qj,Qk,reduceCtorEq,reduceIte,g1,xdc]
 ·have hne:¬(E.length:Int)=0:=by
   intro h;exact he (bj.1 (by omega))
  rw[if_neg he];simp only[go_sem,Q0,Q1,Q2,Q3,Q4,Q5,Q6,Q7,Q8,Q9,Qa,Qb,Qc,Qd,Qe,Qf,Qg,Qh,Qi,Qj,Qk,reduceCtorEq,reduceIte,g1,xdc,hne,g2,xlV]
end Go.Proofs.YtkcjdeofknkndaaGreatDoor
