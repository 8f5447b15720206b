/- What the functions come to. No condition. -/
import Derived.Test.YtkcjdeofknkndaaGreatDoorTiIt
import Derived.Test.YtkcjdeofknkndaaGreatDoorTkIt
open Bool renaming false_and -> Fb, false_eq_true -> aK
open Int renaming natCast_zero -> av
open Go.IntKind renaming i64 -> ac
open List renaming drop_eq_getElem_cons -> aS, drop_length -> aX, drop_zero -> bh, getD_cons_succ -> bY, getD_cons_zero -> bL, getD_eq_getElem?_getD -> aa, getElem?_eq_getElem -> ab, length_map -> au
set_option maxRecDepth 100000
set_option maxHeartbeats 16000000
set_option linter.unusedSimpArgs false
set_option linter.unusedVariables false
namespace Go.Proofs.YtkcjdeofknkndaaGreatDoor
open Go.Sy
open UInt8 renaming reduceLT -> Q0, reduceLE -> Q1
open Int renaming reduceToNat -> Q2, reduceLE -> Q3, reduceLT -> Q4, reduceEq -> Q5, reduceNe -> Q6, reduceNeg -> Q7, reduceAdd -> Q8, reduceSub -> Q9, reduceMul -> Qa
open Nat renaming reducePow -> Qb, reduceDiv -> Qc, reduceMod -> Qd, reduceAdd -> Qe, reduceSub -> Qf, reduceMul -> Qg, reduceLT -> Qh, reduceLeDiff -> Qi, reduceEqDiff -> Qj, reduceBEq -> Qk
theorem xlX(g:Int)(d0 d1 b:List UInt8):
 run T (.loop uf) ⟨[(1,.ptr 101 0),(3,.int .i64 0)],[(101,.rc [.int .i64 g,.int .i64 5,.lst 1 [[.byt d0 .no],[.byt d1 .no]] .no,.byt b .no])],[]⟩=
 if(iX false d0 []&&iX false d1 [])=true then some (.x 0,⟨[],[(101,.rc [.int .i64 g,.int .i64 5,.lst 1 [[.byt d0 .no],[.byt d1 .no]] .no,.byt b .no])],[]⟩)
 else some (.r,⟨[(2,.bool false)],[(101,.rc [.int .i64 g,.int .i64 5,.lst 1 [[.byt d0 .no],[.byt d1 .no]] .no,.byt b .no])],[]⟩):=by
 have k1:ac.wrap 1=1:=rfl;have k2:ac.wrap 2=2:=rfl;unfold iX
 by_cases a1:(0:Int)<d0.length
 ·rw[ai];simp only[go_sem,Q0,Q1,Q2,Q3,Q4,Q5,Q6,Q7,Q8,Q9,Qa,Qb,Qc,Qd,Qe,Qf,Qg,Qh,Qi,Qj,Qk,reduceCtorEq,reduceIte,a1]
 ·by_cases a2:(0:Int)<d1.length
  ·iterate 2
    rw[ai];simp only[go_sem,Q0,Q1,Q2,Q3,Q4,Q5,Q6,Q7,Q8,Q9,Qa,Qb,Qc,Qd,Qe,Qf,Qg,Qh,Qi,Qj,Qk,reduceCtorEq,reduceIte,a1,a2,k1,k2]
  ·iterate 3
    rw[ai];simp only[go_sem,Q0,Q1,Q2,Q3,Q4,Q5,Q6,Q7,Q8,Q9,Qa,Qb,Qc,Qd,Qe,Qf,Qg,Qh,Qi,Qj,Qk,reduceCtorEq,reduceIte,a1,a2,k1,k2]
theorem xlY(g k:Int)(hk:k≠5)(d0 d1 b:List UInt8)(hb:b.length<=1000000)(hd0:d0.length<=1000000)(hd1:d1.length<=1000000):
 run T (.loop uf) ⟨[(1,.ptr 101 0),(3,.int .i64 0)],[(101,.rc [.int .i64 g,.int .i64 k,.lst 1 [[.byt d0 .no],[.byt d1 .no]] .no,.byt b .no])],[]⟩=
 if(iX true d0 (jx b)&&iX true d1 (sha b))=true then some (.x 0,⟨[],[(101,.rc [.int .i64 g,.int .i64 k,.lst 1 [[.byt d0 .no],[.byt d1 .no]] .no,.byt b .no])],[]⟩)
 else some (.r,⟨[(2,.bool false)],[(101,.rc [.int .i64 g,.int .i64 k,.lst 1 [[.byt d0 .no],[.byt d1 .no]] .no,.byt b .no])],[]⟩):=by
 have g0:=Qw b (by omega);have g1:=Qv b (by omega);have g2:=f19 d0 (jx b) (by omega);have g3:=f19 d1 (sha b) (by omega);have k1:ac.wrap 1=1:=rfl;have k2:ac.wrap 2=2:=rfl;unfold iX
 by_cases a1:(0:Int)<d0.length
 ·by_cases b1:d0=jx b
  ·rw[decide_eq_true b1]at g2 ⊢
   by_cases a2:(0:Int)<d1.length
   ·by_cases b2:d1=sha b
    ·rw[decide_eq_true b2]at g3 ⊢
     iterate 3
      rw[ai];simp only[go_sem,Q0,Q1,Q2,Q3,Q4,Q5,Q6,Q7,Q8,Q9,Qa,Qb,Qc,Qd,Qe,Qf,Qg,Qh,Qi,Qj,Qk,reduceCtorEq,reduceIte,hk,a1,a2,k1,k2,g0,g1,g2,g3,pH,jB]
    ·rw[decide_eq_false b2]at g3 ⊢
     iterate 2
      rw[ai];simp only[go_sem,Q0,Q1,Q2,Q3,Q4,Q5,Q6,Q7,Q8,Q9,Qa,Qb,Qc,Qd,Qe,Qf,Qg,Qh,Qi,Qj,Qk,reduceCtorEq,reduceIte,hk,a1,a2,k1,k2,g0,g1,g2,g3,pH,jB]
   ·iterate 3
     rw[ai];simp only[go_sem,Q0,Q1,Q2,Q3,Q4,Q5,Q6,Q7,Q8,Q9,Qa,Qb,Qc,Qd,Qe,Qf,Qg,Qh,Qi,Qj,Qk,reduceCtorEq,reduceIte,hk,a1,a2,k1,k2,g0,g1,g2,pH,jB]
  ·rw[decide_eq_false b1]at g2 ⊢
   rw[ai];simp only[go_sem,Q0,Q1,Q2,Q3,Q4,Q5,Q6,Q7,Q8,Q9,Qa,Qb,Qc,Qd,Qe,Qf,Qg,Qh,Qi,Qj,Qk,reduceCtorEq,reduceIte,hk,a1,k1,k2,g0,g1,g2,pH,jB]
 ·by_cases a2:(0:Int)<d1.length
  ·by_cases b2:d1=sha b
   ·rw[decide_eq_true b2]at g3 ⊢
    iterate 3
     rw[ai];simp only[go_sem,Q0,Q1,Q2,Q3,Q4,Q5,Q6,Q7,Q8,Q9,Qa,Qb,Qc,Qd,Qe,Qf,Qg,Qh,Qi,Qj,Qk,reduceCtorEq,reduceIte,hk,a1,a2,k1,k2,g0,g1,g3,pH,jB]
   ·rw[decide_eq_false b2]at g3 ⊢
    iterate 2
     rw[ai];simp only[go_sem,Q0,Q1,Q2,Q3,Q4,Q5,Q6,Q7,Q8,Q9,Qa,Qb,Qc,Qd,Qe,Qf,Qg,Qh,Qi,Qj,Qk,reduceCtorEq,reduceIte,hk,a1,a2,k1,k2,g0,g1,g3,pH,jB]
  ·iterate 3
    rw[ai];simp only[go_sem,Q0,Q1,Q2,Q3,Q4,Q5,Q6,Q7,Q8,Q9,Qa,Qb,Qc,Qd,Qe,Qf,Qg,Qh,Qi,Qj,Qk,reduceCtorEq,reduceIte,hk,a1,a2,k1,k2]
theorem f83(e:Ev)(hd:e.dg.length=2)(hb:e.data.length<=1000000)(hd0:(e.dg.getD 0 []).length<=1000000)(hd1:(e.dg.getD 1 []).length<=1000000):call T 83 [.agg e.sv] [] 0=some ⟨.bool (Fh e),[],[]⟩:=by
 obtain⟨g,k,ds,b⟩:=e;simp only at hd hb hd0 hd1;rw[two ds [] hd];generalize ds.getD 0 []=d0 at*;generalize ds.getD 1 []=d1 at*;clear hd;have q0:=xlX g d0 d1 b;have q1:=fun hk=>xlY g k hk d0 d1 b hb hd0 hd1
 have g77:=f69;have p4:=f19 b [0,0,0,0] (by omega);have p:=xmS b (by omega);have hbl:bls [d0,d1]=[[.byt d0 .no],[.byt d1 .no]]:=rfl;rw[ao xnn];unfold Fh Ev.sv;simp only[hbl,bL,bY];generalize (iX false d0 []&&iX false d1 [])=z0 at*;generalize (iX true d0 (jx b)&&iX true d1 (sha b))=z1 at*
 by_cases h1:k=1
 ·subst h1;simp only[go_sem,Q0,Q1,Q2,Q3,Q4,Q5,Q6,Q7,Q8,Q9,Qa,Qb,Qc,Qd,Qe,Qf,Qg,Qh,Qi,Qj,Qk,reduceCtorEq,reduceIte]
 by_cases h2:k=2
 ·subst h2
  have q1':=q1 (by decide)
  by_cases h3:b=[0,0,0,0]
  ·rw[decide_eq_true h3]at p4
   cases z1<;>simp only[go_sem,Q0,Q1,Q2,Q3,Q4,Q5,Q6,Q7,Q8,Q9,Qa,Qb,Qc,Qd,Qe,Qf,Qg,Qh,Qi,Qj,Qk,reduceCtorEq,reduceIte]at q1'<;>simp only[go_sem,Q0,Q1,Q2,Q3,Q4,Q5,Q6,Q7,Q8,Q9,Qa,Qb,Qc,Qd,Qe,Qf,Qg,Qh,Qi,Qj,Qk,reduceCtorEq,reduceIte,g77,xfG,p4,jB,q1']<;>simp only[h3,go_sem,Q0,Q1,Q2,Q3,Q4,Q5,Q6,Q7,Q8,Q9,Qa,Qb,Qc,Qd,Qe,Qf,Qg,Qh,Qi,Qj,Qk,reduceCtorEq,reduceIte]
  ·rw[decide_eq_false h3]at p4
   simp only[go_sem,Q0,Q1,Q2,Q3,Q4,Q5,Q6,Q7,Q8,Q9,Qa,Qb,Qc,Qd,Qe,Qf,Qg,Qh,Qi,Qj,Qk,reduceCtorEq,reduceIte,h3,p4,g77,xfG,jB]
 by_cases h3:k=3
 ·subst h3
  have q1':=q1 (by decide)
  by_cases h4:(b.length:Int)=0
  ·have h5:¬(0:Int)<b.length:=by omega
   rw[decide_eq_false h5,Bool.and_false]at p;simp only[go_sem,Q0,Q1,Q2,Q3,Q4,Q5,Q6,Q7,Q8,Q9,Qa,Qb,Qc,Qd,Qe,Qf,Qg,Qh,Qi,Qj,Qk,reduceCtorEq,reduceIte,h4,p,QR]
  ·have h5:(0:Int)<b.length:=by omega
   rw[decide_eq_true h5,Bool.and_true]at p;cases hp:sZ b with
   |true=>rw[hp]at p;cases z1<;>simp only[go_sem,Q0,Q1,Q2,Q3,Q4,Q5,Q6,Q7,Q8,Q9,Qa,Qb,Qc,Qd,Qe,Qf,Qg,Qh,Qi,Qj,Qk,reduceCtorEq,reduceIte]at q1'<;>simp only[go_sem,Q0,Q1,Q2,Q3,Q4,Q5,Q6,Q7,Q8,Q9,Qa,Qb,Qc,Qd,Qe,Qf,Qg,Qh,Qi,Qj,Qk,reduceCtorEq,reduceIte,h4,p,QR,q1',hp]
   |false=>rw[hp]at p;simp only[go_sem,Q0,Q1,Q2,Q3,Q4,Q5,Q6,Q7,Q8,Q9,Qa,Qb,Qc,Qd,Qe,Qf,Qg,Qh,Qi,Qj,Qk,reduceCtorEq,reduceIte,h4,p,QR,hp]
 by_cases h4:k=4
 ·subst h4
  have q1':=q1 (by decide);cases z1<;>simp only[go_sem,Q0,Q1,Q2,Q3,Q4,Q5,Q6,Q7,Q8,Q9,Qa,Qb,Qc,Qd,Qe,Qf,Qg,Qh,Qi,Qj,Qk,reduceCtorEq,reduceIte]at q1'<;>simp only[go_sem,Q0,Q1,Q2,Q3,Q4,Q5,Q6,Q7,Q8,Q9,Qa,Qb,Qc,Qd,Qe,Qf,Qg,Qh,Qi,Qj,Qk,reduceCtorEq,reduceIte,q1']
 by_cases h5:k=5
 ·subst h5
  cases z0<;>simp only[go_sem,Q0,Q1,Q2,Q3,Q4,Q5,Q6,Q7,Q8,Q9,Qa,Qb,Qc,Qd,Qe,Qf,Qg,Qh,Qi,Qj,Qk,reduceCtorEq,reduceIte]at q0<;>simp only[go_sem,Q0,Q1,Q2,Q3,Q4,Q5,Q6,Q7,Q8,Q9,Qa,Qb,Qc,Qd,Qe,Qf,Qg,Qh,Qi,Qj,Qk,reduceCtorEq,reduceIte,q0]
 by_cases h6:k<1
 ·simp only[go_sem,Q0,Q1,Q2,Q3,Q4,Q5,Q6,Q7,Q8,Q9,Qa,Qb,Qc,Qd,Qe,Qf,Qg,Qh,Qi,Qj,Qk,reduceCtorEq,reduceIte,h1,h2,h3,h4,h5,h6]
 ·have h7:5<k:=by omega
  simp only[go_sem,Q0,Q1,Q2,Q3,Q4,Q5,Q6,Q7,Q8,Q9,Qa,Qb,Qc,Qd,Qe,Qf,Qg,Qh,Qi,Qj,Qk,reduceCtorEq,reduceIte,h1,h2,h3,h4,h5,h6,h7]
theorem l32(m:Man)(hm:eI m)(h0:gA m=0)(e:Ev)(he:Pz e):∀(n i:Nat),m.ents.length-i=n->i<=m.ents.length->
 (gi (itE e) (m.ents.drop i) i= -1->run T (.loop um) ⟨[(2,.ptr 102 0),(3,.ptr 103 0),(5,.int .i64 i)],[(102,.rc m.sv),(103,.rc e.sv)],[]⟩=some (.x 0,⟨[(2,.ptr 102 0),(3,.ptr 103 0)],[(102,.rc m.sv),(103,.rc e.sv)],[]⟩))/\
 (gi (itE e) (m.ents.drop i) i≠ -1->∃ob,run T (.loop um) ⟨[(2,.ptr 102 0),(3,.ptr 103 0),(5,.int .i64 i)],[(102,.rc m.sv),(103,.rc e.sv)],[]⟩=some (.r,⟨[(4,.int .i64 (gi (itE e) (m.ents.drop i) i))],ob,[]⟩)):=by
 intro n;induction n with
 |zero=>
  intro i hz h1;have hi:i=m.ents.length:=by omega
  have hv:=bf m.ents;subst hi;rw[aX];refine⟨fun _=> ?_,fun h=>absurd rfl h⟩;obtain⟨mv,m1,m2,m3,m4,es,rs⟩:=m;simp only[Man.sv]at*;rw[ai];simp only[go_sem,Q0,Q1,Q2,Q3,Q4,Q5,Q6,Q7,Q8,Q9,Qa,Qb,Qc,Qd,Qe,Qf,Qg,Qh,Qi,Qj,Qk,reduceCtorEq,reduceIte,hv]
 |succ n ih=>
  intro i hz h1;have hi:i<m.ents.length:=by omega
  have hen:=hm.en;have e1:=cg i (by omega);obtain⟨i1,i2⟩:=ih (i+1) (by omega) (by omega);have hv:=bf m.ents;have hg:=dm m.ents i hi;obtain⟨_,_,⟨c0,c1,c2⟩,hdl,_⟩:=td h0 _ (cY m.ents en0 i hi);have g1:=f82 (m.ents.getD i en0).role;have g2:=f19 (m.ents.getD i en0).dig (e.dg.getD 1 []) (by omega);have g3:=f34 (m.ents.getD i en0).name (m.ents.getD i en0).ver c2 c0 c1;have g4:=f19 e.data (rQ (m.ents.getD i en0).name (m.ents.getD i en0).ver) (by have:=he.b;omega);have hdr:m.ents.drop i=m.ents.getD i en0::m.ents.drop (i+1):=by rw[aS hi,aa,ab hi];rfl
  have hd2:=he.d2;rw[hdr];clear hm he h0 ih;generalize m.ents.drop (i+1)=R at*;generalize m.ents.getD i en0=x at*;obtain⟨mv,m1,m2,m3,m4,es,rs⟩:=m;obtain⟨ro,na,ve,di⟩:=x;obtain⟨g',k,ds,b⟩:=e;simp only at hd2 g2 g4;rw[two ds [] hd2]at*;generalize ds.getD 0 []=d0 at*;generalize ds.getD 1 []=d1 at*;have hbl:bls [d0,d1]=[[.byt d0 .no],[.byt d1 .no]]:=rfl;simp only[Man.sv,Ev.sv,Ent.sv,hbl,bL,bY]at*;unfold gi;have hit:itE ⟨g',k,[d0,d1],b⟩ ⟨ro,na,ve,di⟩=(decide (g'=vu ro)&&(decide (d1=di)&&decide (b=rQ na ve))):=rfl;rw[hit]
  by_cases a1:vu ro=g'
  ·rw[decide_eq_true a1.symm]
   by_cases a2:di=d1
   ·rw[decide_eq_true a2]at g2
    rw[decide_eq_true a2.symm]
    by_cases a3:b=rQ na ve
    ·rw[decide_eq_true a3]at g4 ⊢
     have hne:¬(i:Int)= -1:=by omega
     refine⟨fun h=>by simp[hne]at h,fun _=>⟨[(102,.rc [.str mv,.int .i64 m1,.int .i64 m2,.int .i64 m3,.int .i64 m4,.lst 4 (bD es) .no,.lst 4 (bT rs) .no]),(103,.rc [.int .i64 g',.int .i64 k,.lst 1 [[.byt d0 .no],[.byt d1 .no]] .no,.byt b .no]),(106,.rc [.int .i64 ro,.str na,.int .i64 ve,.byt di .no])], ?_⟩⟩;rw[ai];simp only[go_sem,Q0,Q1,Q2,Q3,Q4,Q5,Q6,Q7,Q8,Q9,Qa,Qb,Qc,Qd,Qe,Qf,Qg,Qh,Qi,Qj,Qk,reduceCtorEq,reduceIte,hi,e1,hv,hg,g1,Dg,a1,g2,jB,g3,xaz,g4]
    ·rw[decide_eq_false a3]at g4 ⊢
     simp only[Bool.and_false,aK,if_false];refine⟨fun h=> ?_,fun h=> ?_⟩
     ·have i1':=i1 h
      rw[ai];simp only[go_sem,Q0,Q1,Q2,Q3,Q4,Q5,Q6,Q7,Q8,Q9,Qa,Qb,Qc,Qd,Qe,Qf,Qg,Qh,Qi,Qj,Qk,reduceCtorEq,reduceIte,hi,e1,hv,hg,g1,Dg,a1,g2,jB,g3,xaz,g4,i1']
     ·obtain⟨ob,i2'⟩:=i2 h
      refine⟨ob, ?_⟩;rw[ai];simp only[go_sem,Q0,Q1,Q2,Q3,Q4,Q5,Q6,Q7,Q8,Q9,Qa,Qb,Qc,Qd,Qe,Qf,Qg,Qh,Qi,Qj,Qk,reduceCtorEq,reduceIte,hi,e1,hv,hg,g1,Dg,a1,g2,jB,g3,xaz,g4,i2']
   ·rw[decide_eq_false a2]at g2
    rw[decide_eq_false (fun h=>a2 h.symm)];simp only[Bool.and_false,Fb,aK,if_false];refine⟨fun h=> ?_,fun h=> ?_⟩
    ·have i1':=i1 h
     rw[ai];simp only[go_sem,Q0,Q1,Q2,Q3,Q4,Q5,Q6,Q7,Q8,Q9,Qa,Qb,Qc,Qd,Qe,Qf,Qg,Qh,Qi,Qj,Qk,reduceCtorEq,reduceIte,hi,e1,hv,hg,g1,Dg,a1,g2,jB,i1']
    ·obtain⟨ob,i2'⟩:=i2 h
     refine⟨ob, ?_⟩;rw[ai];simp only[go_sem,Q0,Q1,Q2,Q3,Q4,Q5,Q6,Q7,Q8,Q9,Qa,Qb,Qc,Qd,Qe,Qf,Qg,Qh,Qi,Qj,Qk,reduceCtorEq,reduceIte,hi,e1,hv,hg,g1,Dg,a1,g2,jB,i2']
  ·rw[decide_eq_false (fun h=>a1 h.symm)]
   simp only[Fb,aK,if_false];refine⟨fun h=> ?_,fun h=> ?_⟩
   ·have i1':=i1 h
    rw[ai];simp only[go_sem,Q0,Q1,Q2,Q3,Q4,Q5,Q6,Q7,Q8,Q9,Qa,Qb,Qc,Qd,Qe,Qf,Qg,Qh,Qi,Qj,Qk,reduceCtorEq,reduceIte,hi,e1,hv,hg,g1,Dg,a1,i1']
   ·obtain⟨ob,i2'⟩:=i2 h
    refine⟨ob, ?_⟩;rw[ai];simp only[go_sem,Q0,Q1,Q2,Q3,Q4,Q5,Q6,Q7,Q8,Q9,Qa,Qb,Qc,Qd,Qe,Qf,Qg,Qh,Qi,Qj,Qk,reduceCtorEq,reduceIte,hi,e1,hv,hg,g1,Dg,a1,i2']
theorem xl5(m:Man)(hm:eI m)(e:Ev)(he:Pz e):∀(n i:Nat),m.ruls.length-i=n->i<=m.ruls.length->
 (gi (alR e.data) (m.ruls.drop i) i= -1->run T (.loop ul) ⟨[(2,.ptr 102 0),(3,.ptr 103 0),(7,.int .i64 i)],[(102,.rc m.sv),(103,.rc e.sv)],[]⟩=some (.x 2,⟨[],[(102,.rc m.sv),(103,.rc e.sv)],[]⟩))/\
 (gi (alR e.data) (m.ruls.drop i) i≠ -1->∃ob,run T (.loop ul) ⟨[(2,.ptr 102 0),(3,.ptr 103 0),(7,.int .i64 i)],[(102,.rc m.sv),(103,.rc e.sv)],[]⟩=some (.r,⟨[(4,.int .i64 ((m.ents.length:Int)+gi (alR e.data) (m.ruls.drop i) i))],ob,[]⟩)):=by
 intro n;induction n with
 |zero=>
  intro i hz h1;have hi:i=m.ruls.length:=by omega
  have hv:=bj m.ruls;subst hi;rw[aX];refine⟨fun _=> ?_,fun h=>absurd rfl h⟩;obtain⟨mv,m1,m2,m3,m4,es,rs⟩:=m;simp only[Man.sv]at*;rw[ai];simp only[go_sem,Q0,Q1,Q2,Q3,Q4,Q5,Q6,Q7,Q8,Q9,Qa,Qb,Qc,Qd,Qe,Qf,Qg,Qh,Qi,Qj,Qk,reduceCtorEq,reduceIte,hv]
 |succ n ih=>
  intro i hz h1;have hi:i<m.ruls.length:=by omega
  have hrn:=hm.rn;have hen:=hm.en;have e1:=cg i (by omega);obtain⟨i1,i2⟩:=ih (i+1) (by omega) (by omega);have hv:=bj m.ruls;have hve:=bf m.ents;have hg:=gK m.ruls i hi;have hx:=hm.r _ (cY m.ruls rl0 i hi);have hb:=he.b;have hdr:m.ruls.drop i=m.ruls.getD i rl0::m.ruls.drop (i+1):=by rw[aS hi,aa,ab hi];rfl
  have ew:ac.wrap ((m.ents.length:Int)+(i:Int))=(m.ents.length:Int)+(i:Int):=w64 (by omega) (by omega);rw[hdr];clear hm he ih;generalize m.ruls.drop (i+1)=R at*;generalize m.ruls.getD i rl0=x at*;obtain⟨mv,m1,m2,m3,m4,es,rs⟩:=m;obtain⟨q,t,lo,hi'⟩:=x;obtain⟨g',k,ds,b⟩:=e;have g:=f84 q t lo hi' b (by simp only at hx;omega) (by simp only at hb;omega);simp only[Man.sv,Ev.sv,Rul.sv]at*;have hal:alR b ⟨q,t,lo,hi'⟩=alw q t lo hi' b:=rfl;unfold gi;rw[hal];cases ha:alw q t lo hi' b with
  |true=>
   rw[ha]at g;have hne:¬(i:Int)= -1:=by omega
   refine⟨fun h=>by simp[hne]at h,fun _=>⟨[(102,.rc [.str mv,.int .i64 m1,.int .i64 m2,.int .i64 m3,.int .i64 m4,.lst 4 (bD es) .no,.lst 4 (bT rs) .no]),(103,.rc [.int .i64 g',.int .i64 k,.lst 1 (bls ds) .no,.byt b .no])], ?_⟩⟩;rw[ai];simp only[go_sem,Q0,Q1,Q2,Q3,Q4,Q5,Q6,Q7,Q8,Q9,Qa,Qb,Qc,Qd,Qe,Qf,Qg,Qh,Qi,Qj,Qk,reduceCtorEq,reduceIte,hi,e1,hv,hve,hg,g,xfC,ew]
  |false=>
   rw[ha]at g;refine⟨fun h=> ?_,fun h=> ?_⟩
   ·have i1':=i1 (by simpa using h)
    rw[ai];simp only[go_sem,Q0,Q1,Q2,Q3,Q4,Q5,Q6,Q7,Q8,Q9,Qa,Qb,Qc,Qd,Qe,Qf,Qg,Qh,Qi,Qj,Qk,reduceCtorEq,reduceIte,hi,e1,hv,hve,hg,g,xfC,i1']
   ·obtain⟨ob,i2'⟩:=i2 (by simpa using h)
    refine⟨ob, ?_⟩;rw[ai];simp only[go_sem,Q0,Q1,Q2,Q3,Q4,Q5,Q6,Q7,Q8,Q9,Qa,Qb,Qc,Qd,Qe,Qf,Qg,Qh,Qi,Qj,Qk,reduceCtorEq,reduceIte,hi,e1,hv,hve,hg,g,xfC,i2']
    try rfl
theorem f32(m:Man)(hm:eI m)(e:Ev)(he:Pz e):call T 32 [.agg m.sv,.agg e.sv] [] 0=some ⟨.int .i64 (pd m e),[],[]⟩:=by
 have g1:=f14 m hm;have hd2:=he.d2;have g4:=f83 e he.d2 he.b he.d0 he.d1;have hr:=ph (alR e.data) m.ruls 0;have hr2:=ph (itE e) m.ents 0;obtain⟨r1,r2⟩:=xl5 m hm e he _ 0 rfl (by omega);have l0:=fun h=>l32 m hm h e he _ 0 rfl (by omega)
 have hv:=bf m.ents;have hbl:(bls e.dg).length=2:=by rw[bls,au,hd2]
 clear hm he;obtain⟨mv,m1,m2,m3,m4,es,rs⟩:=m;obtain⟨g',k,ds,b⟩:=e;rw[ao xn0];unfold pd;simp only[Man.sv,Ev.sv,av,bh]at*
 by_cases h0:gA ⟨mv,m1,m2,m3,m4,es,rs⟩=0
 ·obtain⟨
   l1,l2⟩:=l0 h0
  rw[h0]at g1
  by_cases h1:k=1
  ·subst h1
   by_cases hq:gi (itE ⟨g',1,ds,b⟩) es 0= -1
   ·have l1':=l1 hq
    simp only[go_sem,Q0,Q1,Q2,Q3,Q4,Q5,Q6,Q7,Q8,Q9,Qa,Qb,Qc,Qd,Qe,Qf,Qg,Qh,Qi,Qj,Qk,reduceCtorEq,reduceIte,g1,Di,h0,hbl,l1',hq]
   ·obtain⟨ob,l2'⟩:=l2 hq
    simp only[go_sem,Q0,Q1,Q2,Q3,Q4,Q5,Q6,Q7,Q8,Q9,Qa,Qb,Qc,Qd,Qe,Qf,Qg,Qh,Qi,Qj,Qk,reduceCtorEq,reduceIte,g1,Di,h0,hbl,l2']
  ·by_cases h3:k=3
   ·subst h3
    by_cases h9:g'=9
    ·subst h9
     cases hc:Fh ⟨9,3,ds,b⟩with
     |false=>rw[hc]at g4;simp only[go_sem,Q0,Q1,Q2,Q3,Q4,Q5,Q6,Q7,Q8,Q9,Qa,Qb,Qc,Qd,Qe,Qf,Qg,Qh,Qi,Qj,Qk,reduceCtorEq,reduceIte,g1,Di,h0,hbl,g4,xfD]
     |true=>
      rw[hc]at g4
      by_cases hq:gi (alR b) rs 0= -1
      ·have r1':=r1 hq
       simp only[go_sem,Q0,Q1,Q2,Q3,Q4,Q5,Q6,Q7,Q8,Q9,Qa,Qb,Qc,Qd,Qe,Qf,Qg,Qh,Qi,Qj,Qk,reduceCtorEq,reduceIte,g1,Di,h0,hbl,g4,xfD,r1',hq]
      ·obtain⟨ob,r2'⟩:=r2 hq
       have hz:0<=gi (alR b) rs 0:=by omega
       simp only[go_sem,Q0,Q1,Q2,Q3,Q4,Q5,Q6,Q7,Q8,Q9,Qa,Qb,Qc,Qd,Qe,Qf,Qg,Qh,Qi,Qj,Qk,reduceCtorEq,reduceIte,g1,Di,h0,hbl,g4,xfD,r2',hz]
    ·simp only[go_sem,Q0,Q1,Q2,Q3,Q4,Q5,Q6,Q7,Q8,Q9,Qa,Qb,Qc,Qd,Qe,Qf,Qg,Qh,Qi,Qj,Qk,reduceCtorEq,reduceIte,g1,Di,h0,hbl,h9]
   ·simp only[go_sem,Q0,Q1,Q2,Q3,Q4,Q5,Q6,Q7,Q8,Q9,Qa,Qb,Qc,Qd,Qe,Qf,Qg,Qh,Qi,Qj,Qk,reduceCtorEq,reduceIte,g1,Di,h0,hbl,h1,h3]
 ·simp only[go_sem,Q0,Q1,Q2,Q3,Q4,Q5,Q6,Q7,Q8,Q9,Qa,Qb,Qc,Qd,Qe,Qf,Qg,Qh,Qi,Qj,Qk,reduceCtorEq,reduceIte,g1,Di,h0,hbl]
end Go.Proofs.YtkcjdeofknkndaaGreatDoor
