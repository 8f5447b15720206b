/- Contracts. No condition. -/
import Derived.Test.YtkcjdeofknkndaaGreatDoorTeDE
open Int renaming natCast_zero -> aB
open Go.IntKind renaming i64 -> af, u64 -> aQ, wrap_u64 -> bK
open List renaming cons -> jy, cons_append -> bf, drop_eq_getElem_cons -> aM, drop_eq_nil_of_le -> bo, drop_length -> ba, drop_zero -> aV, foldl_cons -> bS, foldl_nil -> fp, getD_eq_getElem?_getD -> aa, getElem?_eq_getElem -> ab, length_append -> ac, length_cons -> aA, length_drop -> aI, length_eq_zero_iff -> cA, length_nil -> aY, length_singleton -> aH, length_take -> aw, map_append -> cV, mem_cons_of_mem -> am, mem_cons_self -> ax, nil_append -> aG, take_of_length_le -> bB
open Nat renaming add_mul -> bA, le_refl -> aN, mod_eq_of_lt -> dp, mul_comm -> cm, mul_le_mul_right -> bv, zero_add -> cj, zero_le -> bH
open UInt8 renaming ofInt -> ct
set_option maxRecDepth 100000
set_option maxHeartbeats 16000000
set_option linter.unusedSimpArgs false
set_option linter.unusedVariables false
namespace Go.Proofs.YtkcjdeofknkndaaGreatDoor
open Go.Sy
open UInt8 renaming reduceLT -> Q0, reduceLE -> Q1
open Int renaming reduceToNat -> Q2, reduceLE -> Q3, reduceLT -> Q4, reduceEq -> Q5, reduceNe -> Q6, reduceNeg -> Q7, reduceAdd -> Q8, reduceSub -> Q9, reduceMul -> Qa
open Nat renaming reducePow -> Qb, reduceDiv -> Qc, reduceMod -> Qd, reduceAdd -> Qe, reduceSub -> Qf, reduceMul -> Qg, reduceLT -> Qh, reduceLeDiff -> Qi, reduceEqDiff -> Qj, reduceBEq -> Qk
def zI(m:Man)(i:Nat):CSt:=⟨[(1,.ptr 101 0),(3,.int .i64 i)],[(101,.rc m.sv)],[]⟩
theorem s54(m:Man)(hm:dV m)(i:Nat)(hi:i<m.ents.length):
 (lG m.ents i=0->run T (.loop lN) (zI m i)=run T (.loop lN) (zI m (i+1)))/\
 (lG m.ents i≠0->∃ob,run T (.loop lN) (zI m i)=some (.r,⟨[(2,.int .i64 (lG m.ents i))],ob,[]⟩)):=by
 have J:=bW i (by have:=hm.en;omega);have L:=bL m.ents;have Q:=df m.ents i hi;have b3:=hm.e _ (cf m.ents en0 i hi);have O:i-1<m.ents.length:=by omega
 have hby:=hm.e _ (cf m.ents en0 (i-1) O);have g1:=f45 (m.ents.getD i en0).name (by omega);have g2:=f46 (m.ents.getD (i-1) en0) (m.ents.getD i en0) (by omega);have es:0<i->af.wrap ((i:Int)-1)=((i-1:Nat):Int):=fun h=>by rw[w64 (by omega) (by have:=hm.en;omega)];omega
 have a9:=df m.ents (i-1) O;unfold lG;obtain⟨mv,U,W,m3,Z,z,rs⟩:=m;simp only[zI,Man.sv]at*;generalize z.getD i en0=x at*;generalize z.getD (i-1) en0=y at*;obtain⟨r,n,v,d⟩:=x;obtain⟨r2,n2,v2,d2⟩:=y;simp only[Ent.sv]at*
 by_cases C:r<1
 ·refine⟨fun h=>by simp[C]at h,fun _=>⟨[(101,.rc [.str mv,.int .i64 U,.int .i64 W,.int .i64 m3,.int .i64 Z,.lst 4 (bP z) .no,.lst 4 (dl rs) .no]),(104,.rc [.int .i64 r,.str n,.int .i64 v,.byt d .no])], ?_⟩⟩
  rw[ai];simp only[go_sem,Q0,Q1,Q2,Q3,Q4,Q5,Q6,Q7,Q8,Q9,Qa,Qb,Qc,Qd,Qe,Qf,Qg,Qh,Qi,Qj,Qk,reduceCtorEq,reduceIte,hi,J,L,Q,C]
 by_cases E:3<r
 ·refine⟨fun h=>by simp[C,E]at h,fun _=>⟨[(101,.rc [.str mv,.int .i64 U,.int .i64 W,.int .i64 m3,.int .i64 Z,.lst 4 (bP z) .no,.lst 4 (dl rs) .no]),(104,.rc [.int .i64 r,.str n,.int .i64 v,.byt d .no])], ?_⟩⟩
  rw[ai];simp only[go_sem,Q0,Q1,Q2,Q3,Q4,Q5,Q6,Q7,Q8,Q9,Qa,Qb,Qc,Qd,Qe,Qf,Qg,Qh,Qi,Qj,Qk,reduceCtorEq,reduceIte,hi,J,L,Q,C,E]
 by_cases F:v<0
 ·refine⟨fun h=>by simp[C,E,F]at h,fun _=>⟨[(101,.rc [.str mv,.int .i64 U,.int .i64 W,.int .i64 m3,.int .i64 Z,.lst 4 (bP z) .no,.lst 4 (dl rs) .no]),(104,.rc [.int .i64 r,.str n,.int .i64 v,.byt d .no])], ?_⟩⟩
  rw[ai];simp only[go_sem,Q0,Q1,Q2,Q3,Q4,Q5,Q6,Q7,Q8,Q9,Qa,Qb,Qc,Qd,Qe,Qf,Qg,Qh,Qi,Qj,Qk,reduceCtorEq,reduceIte,hi,J,L,Q,C,E,F]
 by_cases H:1000000<v
 ·refine⟨fun h=>by simp[C,E,F,H]at h,fun _=>⟨[(101,.rc [.str mv,.int .i64 U,.int .i64 W,.int .i64 m3,.int .i64 Z,.lst 4 (bP z) .no,.lst 4 (dl rs) .no]),(104,.rc [.int .i64 r,.str n,.int .i64 v,.byt d .no])], ?_⟩⟩
  rw[ai];simp only[go_sem,Q0,Q1,Q2,Q3,Q4,Q5,Q6,Q7,Q8,Q9,Qa,Qb,Qc,Qd,Qe,Qf,Qg,Qh,Qi,Qj,Qk,reduceCtorEq,reduceIte,hi,J,L,Q,C,E,F,H]
 by_cases I:(d.length:Int)=32
 ·cases a6:Pr.nameB n with
  |false=>rw[a6]at g1;refine⟨fun h=>by simp[C,E,F,H,I,a6]at h,fun _=>⟨[(101,.rc [.str mv,.int .i64 U,.int .i64 W,.int .i64 m3,.int .i64 Z,.lst 4 (bP z) .no,.lst 4 (dl rs) .no]),(104,.rc [.int .i64 r,.str n,.int .i64 v,.byt d .no])], ?_⟩⟩;rw[ai];simp only[go_sem,Q0,Q1,Q2,Q3,Q4,Q5,Q6,Q7,Q8,Q9,Qa,Qb,Qc,Qd,Qe,Qf,Qg,Qh,Qi,Qj,Qk,reduceCtorEq,reduceIte,hi,J,L,Q,C,E,F,H,I,a6,g1,ky]
  |true=>
   rw[a6]at g1
   by_cases a7:i=0
   ·subst a7
    have hp:(0:Int)<z.length:=by omega
    have kw:af.wrap 1=1:=rfl;refine⟨fun _=> ?_,fun h=>by simp[C,E,F,H,I,a6]at h⟩;rw[ai];simp only[go_sem,Q0,Q1,Q2,Q3,Q4,Q5,Q6,Q7,Q8,Q9,Qa,Qb,Qc,Qd,Qe,Qf,Qg,Qh,Qi,Qj,Qk,reduceCtorEq,reduceIte,hi,hp,kw,J,L,Q,C,E,F,H,I,a6,g1,ky]
   ·have hp:(0:Int)<(i:Nat):=by omega
    have a0:0<i:=by omega
    have b2:=es a0;cases a8:eG ⟨r2,n2,v2,d2⟩ ⟨r,n,v,d⟩with
    |true=>rw[a8]at g2;refine⟨fun _=> ?_,fun h=>by simp[C,E,F,H,I,a6,a7,a8]at h⟩;rw[ai];simp only[go_sem,Q0,Q1,Q2,Q3,Q4,Q5,Q6,Q7,Q8,Q9,Qa,Qb,Qc,Qd,Qe,Qf,Qg,Qh,Qi,Qj,Qk,reduceCtorEq,reduceIte,hi,hp,a0,O,b2,a9,J,L,Q,C,E,F,H,I,a6,g1,ky,g2,O1]
    |false=>rw[a8]at g2;refine⟨fun h=>by simp[C,E,F,H,I,a6,a7,a8]at h,fun _=>⟨[(101,.rc [.str mv,.int .i64 U,.int .i64 W,.int .i64 m3,.int .i64 Z,.lst 4 (bP z) .no,.lst 4 (dl rs) .no]),(104,.rc [.int .i64 r,.str n,.int .i64 v,.byt d .no])], ?_⟩⟩;rw[ai];simp only[go_sem,Q0,Q1,Q2,Q3,Q4,Q5,Q6,Q7,Q8,Q9,Qa,Qb,Qc,Qd,Qe,Qf,Qg,Qh,Qi,Qj,Qk,reduceCtorEq,reduceIte,hi,hp,a0,O,b2,a9,J,L,Q,C,E,F,H,I,a6,g1,ky,g2,O1,a7,a8]
 ·refine⟨fun h=>by simp[C,E,F,H,I]at h,fun _=>⟨[(101,.rc [.str mv,.int .i64 U,.int .i64 W,.int .i64 m3,.int .i64 Z,.lst 4 (bP z) .no,.lst 4 (dl rs) .no]),(104,.rc [.int .i64 r,.str n,.int .i64 v,.byt d .no])], ?_⟩⟩
  rw[ai];simp only[go_sem,Q0,Q1,Q2,Q3,Q4,Q5,Q6,Q7,Q8,Q9,Qa,Qb,Qc,Qd,Qe,Qf,Qg,Qh,Qi,Qj,Qk,reduceCtorEq,reduceIte,hi,J,L,Q,C,E,F,H,I]
theorem l14(m:Man)(C:dV m):∀(n i:Nat),m.ents.length-i=n->i<=m.ents.length->
 (gR m.ents n i=0->run T (.loop lN) (zI m i)=some (.x 0,⟨[(1,.ptr 101 0)],[(101,.rc m.sv)],[]⟩))/\
 (gR m.ents n i≠0->∃ob,run T (.loop lN) (zI m i)=some (.r,⟨[(2,.int .i64 (gR m.ents n i))],ob,[]⟩)):=by
 intro n;induction n with
 |zero=>
  intro i E z;have:i=m.ents.length:=by omega
  subst this;refine⟨fun _=> ?_,fun h=>absurd rfl h⟩;rw[ai];have F:=bL m.ents;obtain⟨U,W,Z,m3,m4,H,rs⟩:=m;simp only[zI,Man.sv]at*;simp only[go_sem,Q0,Q1,Q2,Q3,Q4,Q5,Q6,Q7,Q8,Q9,Qa,Qb,Qc,Qd,Qe,Qf,Qg,Qh,Qi,Qj,Qk,reduceCtorEq,reduceIte,F]
 |succ n O=>
  intro i E z;obtain⟨Q,L⟩:=s54 m C i (by omega);obtain⟨J,I⟩:=O (i+1) (by omega) (by omega);unfold gR
  by_cases h:lG m.ents i=0
  ·rw[if_pos h,Q h];exact⟨J,I⟩
  ·rw[if_neg h];exact⟨fun y=>absurd y h,L⟩
theorem xmI(m:Man)(Q:dV m)(ob:List (Nat×aC))(C:ob=[(101,.rc m.sv)]):∀(n i:Nat),m.ruls.length-i=n->i<=m.ruls.length->
 (hJ (m.ruls.drop i)=0->run T (.loop tO) ⟨[(1,.ptr 101 0),(5,.int .i64 i)],ob,[]⟩=some (.x 2,⟨[],ob,[]⟩))/\
 (hJ (m.ruls.drop i)≠0->∃y,run T (.loop tO) ⟨[(1,.ptr 101 0),(5,.int .i64 i)],ob,[]⟩=some (.r,⟨[(2,.int .i64 (hJ (m.ruls.drop i)))],y,[]⟩)):=by
 intro n;induction n with
 |zero=>
  intro i h0 h1;have:i=m.ruls.length:=by omega
  subst this;rw[ba];refine⟨fun _=> ?_,fun h=>absurd rfl h⟩;have E:=cK m.ruls;obtain⟨U,W,Z,m3,m4,F,rs⟩:=m;subst C;simp only[Man.sv]at*;rw[ai];simp only[go_sem,Q0,Q1,Q2,Q3,Q4,Q5,Q6,Q7,Q8,Q9,Qa,Qb,Qc,Qd,Qe,Qf,Qg,Qh,Qi,Qj,Qk,reduceCtorEq,reduceIte,E]
 |succ n ih=>
  intro i h0 h1;have hi:i<m.ruls.length:=by omega
  obtain⟨i1,i2⟩:=ih (i+1) (by omega) (by omega);have I:=bW i (by have:=Q.rn;omega);have E:=cK m.ruls;have O:=gC m.ruls i hi;have hd:m.ruls.drop i=m.ruls.getD i rl0::m.ruls.drop (i+1):=by rw[aM hi,aa,ab hi];rfl
  have hb:=Q.r _ (cf m.ruls rl0 i hi);rw[hd];unfold hJ;generalize m.ruls.drop (i+1)=R at*;generalize m.ruls.getD i rl0=x at*;obtain⟨U,W,Z,m3,m4,F,rs⟩:=m;obtain⟨k,t,lo,H⟩:=x;simp only[Man.sv,Rul.sv]at*;subst C;have g:=f47 k t lo H (by omega)
  by_cases h:ow ⟨k,t,lo,H⟩=0
  ·rw[if_pos h]
   unfold ow at h;simp only at h;rw[h]at g;refine⟨fun z=> ?_,fun z=> ?_⟩
   ·have L:=i1 z
    rw[ai];simp only[go_sem,Q0,Q1,Q2,Q3,Q4,Q5,Q6,Q7,Q8,Q9,Qa,Qb,Qc,Qd,Qe,Qf,Qg,Qh,Qi,Qj,Qk,reduceCtorEq,reduceIte,hi,I,E,O,g,xfZ,L]
   ·obtain⟨y,J⟩:=i2 z
    refine⟨y, ?_⟩;rw[ai];simp only[go_sem,Q0,Q1,Q2,Q3,Q4,Q5,Q6,Q7,Q8,Q9,Qa,Qb,Qc,Qd,Qe,Qf,Qg,Qh,Qi,Qj,Qk,reduceCtorEq,reduceIte,hi,I,E,O,g,xfZ,J]
  ·rw[if_neg h]
   unfold ow at h ⊢;simp only at h ⊢;refine⟨fun z=>absurd z h,fun z=>⟨[(101,.rc [.str U,.int .i64 W,.int .i64 Z,.int .i64 m3,.int .i64 m4,.lst 4 (bP F) .no,.lst 4 (dl rs) .no])], ?_⟩⟩;rw[ai];simp only[go_sem,Q0,Q1,Q2,Q3,Q4,Q5,Q6,Q7,Q8,Q9,Qa,Qb,Qc,Qd,Qe,Qf,Qg,Qh,Qi,Qj,Qk,reduceCtorEq,reduceIte,hi,I,E,O,g,xfZ,h]
theorem f14(m:Man)(hm:dV m):call T 14 [.agg m.sv] [] 0=some ⟨.int .i64 (fj m),[],[]⟩:=by
 have h:=f45 m.vendor (by have:=hm.v;omega);obtain⟨l1,l2⟩:=l14 m hm _ 0 rfl (by omega);obtain⟨r1,r2⟩:=xmI m hm _ rfl _ 0 rfl (by omega);have L:=bL m.ents;have W:=cK m.ruls;obtain⟨mv,m1,m2,m3,m4,H,rs⟩:=m;simp only[zI,Man.sv,aB,aV,Nat.sub_zero]at*;rw[an xoD];unfold fj;simp only;cases a0:Pr.nameB mv with
 |false=>rw[a0]at h;simp only[go_sem,Q0,Q1,Q2,Q3,Q4,Q5,Q6,Q7,Q8,Q9,Qa,Qb,Qc,Qd,Qe,Qf,Qg,Qh,Qi,Qj,Qk,reduceCtorEq,reduceIte,h,ky,a0]
 |true=>
  rw[a0]at h
  by_cases y:m2<0
  ·simp only[go_sem,Q0,Q1,Q2,Q3,Q4,Q5,Q6,Q7,Q8,Q9,Qa,Qb,Qc,Qd,Qe,Qf,Qg,Qh,Qi,Qj,Qk,reduceCtorEq,reduceIte,h,ky,a0,y]
  by_cases z:m1<m2
  ·simp only[go_sem,Q0,Q1,Q2,Q3,Q4,Q5,Q6,Q7,Q8,Q9,Qa,Qb,Qc,Qd,Qe,Qf,Qg,Qh,Qi,Qj,Qk,reduceCtorEq,reduceIte,h,ky,a0,y,z]
  by_cases C:1000000<m1
  ·simp only[go_sem,Q0,Q1,Q2,Q3,Q4,Q5,Q6,Q7,Q8,Q9,Qa,Qb,Qc,Qd,Qe,Qf,Qg,Qh,Qi,Qj,Qk,reduceCtorEq,reduceIte,h,ky,a0,y,z,C]
  by_cases E:m3<0
  ·simp only[go_sem,Q0,Q1,Q2,Q3,Q4,Q5,Q6,Q7,Q8,Q9,Qa,Qb,Qc,Qd,Qe,Qf,Qg,Qh,Qi,Qj,Qk,reduceCtorEq,reduceIte,h,ky,a0,y,z,C,E]
  by_cases F:m4<=m3
  ·simp only[go_sem,Q0,Q1,Q2,Q3,Q4,Q5,Q6,Q7,Q8,Q9,Qa,Qb,Qc,Qd,Qe,Qf,Qg,Qh,Qi,Qj,Qk,reduceCtorEq,reduceIte,h,ky,a0,y,z,C,E,F]
  by_cases I:1099511627776<m4
  ·simp only[go_sem,Q0,Q1,Q2,Q3,Q4,Q5,Q6,Q7,Q8,Q9,Qa,Qb,Qc,Qd,Qe,Qf,Qg,Qh,Qi,Qj,Qk,reduceCtorEq,reduceIte,h,ky,a0,y,z,C,E,F,I]
  by_cases J:(16:Int)<H.length
  ·simp only[go_sem,Q0,Q1,Q2,Q3,Q4,Q5,Q6,Q7,Q8,Q9,Qa,Qb,Qc,Qd,Qe,Qf,Qg,Qh,Qi,Qj,Qk,reduceCtorEq,reduceIte,h,ky,a0,y,z,C,E,F,I,J,L]
  by_cases U:(8:Int)<rs.length
  ·simp only[go_sem,Q0,Q1,Q2,Q3,Q4,Q5,Q6,Q7,Q8,Q9,Qa,Qb,Qc,Qd,Qe,Qf,Qg,Qh,Qi,Qj,Qk,reduceCtorEq,reduceIte,h,ky,a0,y,z,C,E,F,I,J,U,L,W]
  by_cases Q:gR H H.length 0=0
  ·have O:=l1 Q
   by_cases b0:hJ rs=0
   ·have Z:=r1 b0
    simp only[go_sem,Q0,Q1,Q2,Q3,Q4,Q5,Q6,Q7,Q8,Q9,Qa,Qb,Qc,Qd,Qe,Qf,Qg,Qh,Qi,Qj,Qk,reduceCtorEq,reduceIte,h,ky,a0,y,z,C,E,F,I,J,U,L,W,O,Q,Z,b0]
   ·obtain⟨ob,b2⟩:=r2 b0
    simp only[go_sem,Q0,Q1,Q2,Q3,Q4,Q5,Q6,Q7,Q8,Q9,Qa,Qb,Qc,Qd,Qe,Qf,Qg,Qh,Qi,Qj,Qk,reduceCtorEq,reduceIte,h,ky,a0,y,z,C,E,F,I,J,U,L,W,O,Q,b2]
  ·obtain⟨ob,b3⟩:=l2 Q
   simp only[go_sem,Q0,Q1,Q2,Q3,Q4,Q5,Q6,Q7,Q8,Q9,Qa,Qb,Qc,Qd,Qe,Qf,Qg,Qh,Qi,Qj,Qk,reduceCtorEq,reduceIte,h,ky,a0,y,z,C,E,F,I,J,U,L,W,b3,Q]
def bu(k:Nat)(v:Int):t7:=be k (aQ.wrap v)
def hdM(m:Man):t7:=eA ([]++bu 1 21) m.vendor++bu 4 m.ver++bu 4 m.flr++bu 6 m.frm++bu 6 m.til++bu 1 (m.ents.length:Int)
theorem bM(k:Nat)(v:Int):(bu k v).length=k:=eE ..
theorem rK(B:t7)(k:Nat)(v:Int)(y:1<=k)(z:k<=8)(h:B.length<=10000000000000):
 call T 48 [.byt B .no,.int .i64 k,.int .i64 v] [] 0=some ⟨.byt (B++bu k v) (.id 60),[],[60]⟩:=f48 B k v y z h
def iU(B:t7)(x:Ent):t7:=eA (B++bu 1 x.role) x.name++bu 4 x.ver++x.dig
def iI(B:t7)(r:Rul):t7:=eA (B++bu 1 r.kind) r.text++bu 4 r.lo++bu 4 r.hi
theorem mf(B:t7)(x:Ent)(hn:x.name.length<=1000000)(hd:x.dig.length<=1000000):(iU B x).length<=B.length+2000007:=by unfold iU;rw[ac,ac,dj,ac,bM,bM];omega
theorem lW(B:t7)(x:Rul)(hn:x.text.length<=1000000):(iI B x).length<=B.length+2000007:=by unfold iI;rw[ac,ac,dj,ac,bM,bM,bM];omega
def tkA:Bool->LAb
 |false=> [103,12060,17060,21060,24060,28060,31060]
 |true=> [103,12060,17060,21060,24060,28060,31060,51060]
theorem xgv(m:Man)(z:dV m)(b:Bool)(i:Nat)(hi:i<m.ents.length)(B:t7)(hB:B.length<=1000000000):
 run T (.loop qu) ⟨[(1,.ptr 101 0),(3,.byt B (.id 103)),(37,.lst 4 (bP m.ents) .no),(38,.int .i64 m.ents.length),(39,.int .i64 i)],[(101,.rc m.sv)],tkA b⟩=
 run T (.loop qu) ⟨[(1,.ptr 101 0),(3,.byt (iU B (m.ents.getD i en0)) (.id 103)),(37,.lst 4 (bP m.ents) .no),(38,.int .i64 m.ents.length),(39,.int .i64 ((i+1:Nat):Int))],[(101,.rc m.sv)],tkA true⟩:=by
 have k1:((1:Nat):Int)=1:=rfl;have Q:((4:Nat):Int)=4:=rfl;have Z:=z.en;have H:=bW i (by omega);have L:=df m.ents i hi;have h:=bL m.ents;obtain⟨O,U⟩:=z.e _ (cf m.ents en0 i hi);clear z;generalize m.ents.getD i en0=x at*;unfold iU;have E:=rK B 1 x.role (by omega) (by omega) (by omega);rw[k1]at E;have n1:(B++bu 1 x.role).length<=1000000001:=by rw[ac,bM];omega
 generalize B++bu 1 x.role=F at*;have I:=f49 F x.name (by omega) (by omega);have n2:(eA F x.name).length<=1010000000:=by rw[dj];omega
 generalize eA F x.name=y at*;have C:=rK y 4 x.ver (by omega) (by omega) (by omega);rw[Q]at C;have n3:(y++bu 4 x.ver).length<=1010000004:=by rw[ac,bM];omega
 generalize y++bu 4 x.ver=W at*;have J:W.length+x.dig.length<=140737488355328:=by omega
 obtain⟨mv,m1,m2,m3,m4,es,rs⟩:=m;obtain⟨x1,x2,x3,x4⟩:=x;simp only[Man.sv,Ent.sv]at*;cases b with
 |false=>rw[ai];simp only[tkA];simp only[go_sem,Q0,Q1,Q2,Q3,Q4,Q5,Q6,Q7,Q8,Q9,Qa,Qb,Qc,Qd,Qe,Qf,Qg,Qh,Qi,Qj,Qk,reduceCtorEq,reduceIte,hi,H,L,h,E,I,C,J,qO,tz]
 |true=>rw[ai];simp only[tkA];simp only[go_sem,Q0,Q1,Q2,Q3,Q4,Q5,Q6,Q7,Q8,Q9,Qa,Qb,Qc,Qd,Qe,Qf,Qg,Qh,Qi,Qj,Qk,reduceCtorEq,reduceIte,hi,H,L,h,E,I,C,J,qO,tz]
theorem xmF(m:Man)(C:dV m)(J:m.ents.length<=16):∀(n i:Nat)(b:Bool)(B:t7),m.ents.length-i=n->i<=m.ents.length->B.length<=20000000+i*2000007->
 ∃L,run T (.loop qu) ⟨[(1,.ptr 101 0),(3,.byt B (.id 103)),(37,.lst 4 (bP m.ents) .no),(38,.int .i64 m.ents.length),(39,.int .i64 i)],[(101,.rc m.sv)],tkA b⟩=
 some (.x 0,⟨[(1,.ptr 101 0),(3,.byt ((m.ents.drop i).foldl iU B) (.id 103))],[(101,.rc m.sv)],tkA L⟩):=by
 intro n;induction n with
 |zero=>
  intro i b B H F E;have:i=m.ents.length:=by omega
  subst this;refine⟨b, ?_⟩;rw[ba,fp,ai];cases b with
  |false=>simp only[tkA];simp only[go_sem,Q0,Q1,Q2,Q3,Q4,Q5,Q6,Q7,Q8,Q9,Qa,Qb,Qc,Qd,Qe,Qf,Qg,Qh,Qi,Qj,Qk,reduceCtorEq,reduceIte]
  |true=>simp only[tkA];simp only[go_sem,Q0,Q1,Q2,Q3,Q4,Q5,Q6,Q7,Q8,Q9,Qa,Qb,Qc,Qd,Qe,Qf,Qg,Qh,Qi,Qj,Qk,reduceCtorEq,reduceIte]
 |succ n I=>
  intro i b B H F E;have hi:i<m.ents.length:=by omega
  have z:m.ents.drop i=m.ents.getD i en0::m.ents.drop (i+1):=by rw[aM hi,aa,ab hi];rfl
  obtain⟨h,y⟩:=C.e _ (cf m.ents en0 i hi);have O:=mf B (m.ents.getD i en0) h y;rw[xgv m C b i hi B (by omega),z,bS];exact I (i+1) true _ (by omega) (by omega) (by omega)
def tkB:Bool->LAb
 |false=> [103,12060,17060,21060,24060,28060,31060,64060]
 |true=> [103,12060,17060,21060,24060,28060,31060,51060,64060]
def tkC:Bool->LAb
 |false=> [103,12060,17060,21060,24060,28060,31060,64060,79060,86060]
 |true=> [103,12060,17060,21060,24060,28060,31060,51060,64060,79060,86060]
theorem xgu(m:Man)(b:Bool)(t:Nat)(tk:LAb)(Z:(t=64060/\tk=tkB b)\/(t=86060/\tk=tkC b))(rs:List Rul)(U:∀x∈rs,x.text.length<=1000000)(hn:rs.length<=1000000)(i:Nat)(hi:i<rs.length)(B:t7)(hB:B.length<=1000000000):
 run T (.loop qt) ⟨[(3,.byt B (.id t)),(65,.lst 4 (dl rs) .no),(66,.int .i64 rs.length),(67,.int .i64 i)],[(101,.rc m.sv)],tk⟩=
 run T (.loop qt) ⟨[(3,.byt (iI B (rs.getD i rl0)) (.id 86060)),(65,.lst 4 (dl rs) .no),(66,.int .i64 rs.length),(67,.int .i64 ((i+1:Nat):Int))],[(101,.rc m.sv)],tkC b⟩:=by
 have k1:((1:Nat):Int)=1:=rfl;have L:((4:Nat):Int)=4:=rfl;have E:=bW i (by omega);have H:=gC rs i hi;have h:=cK rs;have W:=U _ (cf rs rl0 i hi);generalize rs.getD i rl0=x at*;unfold iI;have C:=rK B 1 x.kind (by omega) (by omega) (by omega);rw[k1]at C;have n1:(B++bu 1 x.kind).length<=1000000001:=by rw[ac,bM];omega
 generalize B++bu 1 x.kind=J at*;have F:=f49 J x.text (by omega) (by omega);have n2:(eA J x.text).length<=1010000000:=by rw[dj];omega
 generalize eA J x.text=I at*;have z:=rK I 4 x.lo (by omega) (by omega) (by omega);rw[L]at z;have n3:(I++bu 4 x.lo).length<=1010000004:=by rw[ac,bM];omega
 generalize I++bu 4 x.lo=O at*;have y:=rK O 4 x.hi (by omega) (by omega) (by omega);rw[L]at y;obtain⟨mv,m1,m2,m3,m4,es,Q⟩:=m;obtain⟨x1,x2,x3,x4⟩:=x;simp only[Rul.sv,Man.sv]at*;rcases Z with⟨rfl,rfl⟩|⟨rfl,rfl⟩
 ·cases b with
  |false=>rw[ai];simp only[tkB,tkC];simp only[go_sem,Q0,Q1,Q2,Q3,Q4,Q5,Q6,Q7,Q8,Q9,Qa,Qb,Qc,Qd,Qe,Qf,Qg,Qh,Qi,Qj,Qk,reduceCtorEq,reduceIte,hi,E,H,h,C,F,z,y,qO,tz]
  |true=>rw[ai];simp only[tkB,tkC];simp only[go_sem,Q0,Q1,Q2,Q3,Q4,Q5,Q6,Q7,Q8,Q9,Qa,Qb,Qc,Qd,Qe,Qf,Qg,Qh,Qi,Qj,Qk,reduceCtorEq,reduceIte,hi,E,H,h,C,F,z,y,qO,tz]
 ·cases b with
  |false=>rw[ai];simp only[tkB,tkC];simp only[go_sem,Q0,Q1,Q2,Q3,Q4,Q5,Q6,Q7,Q8,Q9,Qa,Qb,Qc,Qd,Qe,Qf,Qg,Qh,Qi,Qj,Qk,reduceCtorEq,reduceIte,hi,E,H,h,C,F,z,y,qO,tz]
  |true=>rw[ai];simp only[tkB,tkC];simp only[go_sem,Q0,Q1,Q2,Q3,Q4,Q5,Q6,Q7,Q8,Q9,Qa,Qb,Qc,Qd,Qe,Qf,Qg,Qh,Qi,Qj,Qk,reduceCtorEq,reduceIte,hi,E,H,h,C,F,z,y,qO,tz]
theorem xmE(m:Man)(b:Bool)(rs:List Rul)(C:∀x∈rs,x.text.length<=1000000)(hn:rs.length<=8):∀(n i t:Nat)(tk:LAb)(B:t7),(t=64060/\tk=tkB b)\/(t=86060/\tk=tkC b)->rs.length-i=n->i<=rs.length->B.length<=100000000+i*2000007->
 ∃z tk',((z=64060/\tk'=tkB b)\/(z=86060/\tk'=tkC b))/\run T (.loop qt) ⟨[(3,.byt B (.id t)),(65,.lst 4 (dl rs) .no),(66,.int .i64 rs.length),(67,.int .i64 i)],[(101,.rc m.sv)],tk⟩=
 some (.x 2,⟨[(3,.byt ((rs.drop i).foldl iI B) (.id z))],[(101,.rc m.sv)],tk'⟩):=by
 intro n;induction n with
 |zero=>
  intro i t tk B h H F E;have:i=rs.length:=by omega
  subst this;refine⟨t,tk,h, ?_⟩;rw[ba,fp,ai];rcases h with⟨rfl,rfl⟩|⟨rfl,rfl⟩
  ·cases b with
   |false=>simp only[tkB];simp only[go_sem,Q0,Q1,Q2,Q3,Q4,Q5,Q6,Q7,Q8,Q9,Qa,Qb,Qc,Qd,Qe,Qf,Qg,Qh,Qi,Qj,Qk,reduceCtorEq,reduceIte]
   |true=>simp only[tkB];simp only[go_sem,Q0,Q1,Q2,Q3,Q4,Q5,Q6,Q7,Q8,Q9,Qa,Qb,Qc,Qd,Qe,Qf,Qg,Qh,Qi,Qj,Qk,reduceCtorEq,reduceIte]
  ·cases b with
   |false=>simp only[tkC];simp only[go_sem,Q0,Q1,Q2,Q3,Q4,Q5,Q6,Q7,Q8,Q9,Qa,Qb,Qc,Qd,Qe,Qf,Qg,Qh,Qi,Qj,Qk,reduceCtorEq,reduceIte]
   |true=>simp only[tkC];simp only[go_sem,Q0,Q1,Q2,Q3,Q4,Q5,Q6,Q7,Q8,Q9,Qa,Qb,Qc,Qd,Qe,Qf,Qg,Qh,Qi,Qj,Qk,reduceCtorEq,reduceIte]
 |succ n I=>
  intro i t tk B h H F E;have hi:i<rs.length:=by omega
  have y:rs.drop i=rs.getD i rl0::rs.drop (i+1):=by rw[aM hi,aa,ab hi];rfl
  have J:=lW B (rs.getD i rl0) (C _ (cf rs rl0 i hi));rw[xgu m b t tk h rs C (by omega) i hi B (by omega),y,bS];exact I (i+1) 86060 _ _ (.inr ⟨rfl,rfl⟩) (by omega) (by omega) (by omega)
def fX(m:Man):t7:=if fj m=0 then m.ruls.foldl iI (m.ents.foldl iU (hdM m)++bu 1 (m.ruls.length:Int))else []
theorem iS:∀(l:List Ent)(B:t7),(∀x∈l,x.name.length<=1000000/\x.dig.length<=1000000)->(l.foldl iU B).length<=B.length+l.length*2000007
 |[],B,_=>by simp
 |x::r,B,h=>by rw[bS,aA];have E:=iS r (iU B x) (fun y z=>h y (am _ z));obtain⟨a,c⟩:=h x ax;have C:=mf B x a c;rw[bA];omega
theorem rI:∀(l:List Rul)(B:t7),(∀x∈l,x.text.length<=1000000)->B.length<=(l.foldl iI B).length/\(l.foldl iI B).length<=B.length+l.length*2000007
 |[],B,_=>by simp
 |x::r,B,h=>by
  rw[bS,aA];have E:=rI r (iI B x) (fun y z=>h y (am _ z));have C:=lW B x (h x ax)
  have F:B.length<=(iI B x).length:=by unfold iI;rw[ac,ac,dj,ac];omega
  rw[bA];omega
theorem gW{m:Man}(h:fj m=0):m.ents.length<=16/\m.ruls.length<=8:=by
 unfold fj at h
 repeat' split at h
 all_goals first|(exfalso;omega)|skip
 exact⟨by omega,by omega⟩
theorem f16(m:Man)(F:dV m):call T 16 [.agg m.sv] [] 0=some ⟨.byt (fX m) .no,[],[]⟩:=by
 have E:=f13 m F;have k1:((1:Nat):Int)=1:=rfl;have k4:((4:Nat):Int)=4:=rfl;have k6:((6:Nat):Int)=6:=rfl;have a9:=F.v;have b3:=F.rn;have C:=bL m.ents;have z:=cK m.ruls;unfold fX
 by_cases H:fj m=0
 ·obtain⟨a5,h8⟩:=gW H
  rw[H]at E;rw[if_pos H];unfold hdM;have I:=rK [] 1 21 (by omega) (by omega) (by decide);rw[k1]at I;generalize a0:([]++bu 1 21:t7)=B1 at*;have n1:B1.length<=1000:=by rw[<-a0];simp[bM]
  have W:=f49 B1 m.vendor (by omega) (by omega);generalize a3:eA B1 m.vendor=B2 at*;have n2:B2.length<=10000000:=by rw[<-a3,dj];omega
  have Q:=rK B2 4 m.ver (by omega) (by omega) (by omega);rw[k4]at Q;generalize a7:B2++bu 4 m.ver=B3 at*;have n3:B3.length<=10000004:=by rw[<-a7,ac,bM];omega
  have J:=rK B3 4 m.flr (by omega) (by omega) (by omega);rw[k4]at J;generalize a6:B3++bu 4 m.flr=B4 at*;have n4:B4.length<=10000008:=by rw[<-a6,ac,bM];omega
  have L:=rK B4 6 m.frm (by omega) (by omega) (by omega);rw[k6]at L;generalize a1:B4++bu 6 m.frm=B5 at*;have n5:B5.length<=10000014:=by rw[<-a1,ac,bM];omega
  have O:=rK B5 6 m.til (by omega) (by omega) (by omega);rw[k6]at O;generalize a4:B5++bu 6 m.til=B6 at*;have n6:B6.length<=10000020:=by rw[<-a4,ac,bM];omega
  have U:=rK B6 1 (m.ents.length:Int) (by omega) (by omega) (by omega);rw[k1]at U;generalize a8:B6++bu 1 (m.ents.length:Int)=Z at*;have n7:Z.length<=10000021:=by rw[<-a8,ac,bM];omega
  obtain⟨b,h⟩:=xmF m F a5 _ 0 false Z rfl (by omega) (by omega);have n8:=iS m.ents Z F.e;rw[aV,aB]at h;generalize m.ents.foldl iU Z=B8 at*;have u8:=rK B8 1 (m.ruls.length:Int) (by omega) (by omega) (by omega);rw[k1]at u8;generalize a2:B8++bu 1 (m.ruls.length:Int)=B9 at*;have n9:B9.length<=10000022+16*2000007:=by rw[<-a2,ac,bM];omega
  obtain⟨t',tk',ht,y⟩:=xmE m b m.ruls F.r h8 _ 0 64060 (tkB b) B9 (.inl ⟨rfl,rfl⟩) rfl (by omega) (by omega);rw[aV,aB]at y;generalize m.ruls.foldl iI B9=b2 at*;obtain⟨mv,m1,m2,m3,m4,es,rs⟩:=m;simp only[Man.sv]at*;rw[an xlx];cases b with
  |false=>
   rcases ht with⟨rfl,rfl⟩|⟨rfl,rfl⟩
   ·simp only[tkA,tkB,tkC]at h y
    simp only[go_sem,Q0,Q1,Q2,Q3,Q4,Q5,Q6,Q7,Q8,Q9,Qa,Qb,Qc,Qd,Qe,Qf,Qg,Qh,Qi,Qj,Qk,reduceCtorEq,reduceIte,E,po,I,W,Q,J,L,O,U,qO,tz,C,h,u8,z,y]
   ·simp only[tkA,tkB,tkC]at h y
    simp only[go_sem,Q0,Q1,Q2,Q3,Q4,Q5,Q6,Q7,Q8,Q9,Qa,Qb,Qc,Qd,Qe,Qf,Qg,Qh,Qi,Qj,Qk,reduceCtorEq,reduceIte,E,po,I,W,Q,J,L,O,U,qO,tz,C,h,u8,z,y]
  |true=>
   rcases ht with⟨rfl,rfl⟩|⟨rfl,rfl⟩
   ·simp only[tkA,tkB,tkC]at h y
    simp only[go_sem,Q0,Q1,Q2,Q3,Q4,Q5,Q6,Q7,Q8,Q9,Qa,Qb,Qc,Qd,Qe,Qf,Qg,Qh,Qi,Qj,Qk,reduceCtorEq,reduceIte,E,po,I,W,Q,J,L,O,U,qO,tz,C,h,u8,z,y]
   ·simp only[tkA,tkB,tkC]at h y
    simp only[go_sem,Q0,Q1,Q2,Q3,Q4,Q5,Q6,Q7,Q8,Q9,Qa,Qb,Qc,Qd,Qe,Qf,Qg,Qh,Qi,Qj,Qk,reduceCtorEq,reduceIte,E,po,I,W,Q,J,L,O,U,qO,tz,C,h,u8,z,y]
 ·rw[if_neg H]
  obtain⟨mv,m1,m2,m3,m4,es,rs⟩:=m;simp only[Man.sv]at*;rw[an xlx];simp only[go_sem,Q0,Q1,Q2,Q3,Q4,Q5,Q6,Q7,Q8,Q9,Qa,Qb,Qc,Qd,Qe,Qf,Qg,Qh,Qi,Qj,Qk,reduceCtorEq,reduceIte,E,po,H]
def SQ(m:Man):t7:=if fX m=[]then []else Es 21 (fX m)
theorem md(m:Man)(h:dV m):(fX m).length<=100000000:=by
 unfold fX
 by_cases y:fj m=0
 ·rw[if_pos y]
  obtain⟨C,H⟩:=gW y;have E:=iS m.ents (hdM m) h.e;have z:=rI m.ruls (m.ents.foldl iU (hdM m)++bu 1 (m.ruls.length:Int)) h.r
  have F:(hdM m).length<=10000000:=by have:=h.v;unfold hdM;simp only[ac,dj,bM,aY];omega
  rw[ac,bM]at z;omega
 ·rw[if_neg y];exact bH _
theorem f21(m:Man)(F:dV m):call T 21 [.agg m.sv] [] 0=some ⟨.byt (SQ m) .no,[],[]⟩:=by
 have C:=f16 m F;have Q:=md m F;have I:=f58 21 (fX m) (by omega);obtain⟨J,L,O,m3,H,es,rs⟩:=m;unfold SQ;simp only[Man.sv]at*;rw[an xoy];generalize fX ⟨J,L,O,m3,H,es,rs⟩=E at*
 by_cases y:E=[]
 ·subst y
  simp only[go_sem,Q0,Q1,Q2,Q3,Q4,Q5,Q6,Q7,Q8,Q9,Qa,Qb,Qc,Qd,Qe,Qf,Qg,Qh,Qi,Qj,Qk,reduceCtorEq,reduceIte,C,xaU]
 ·have z:¬(E.length:Int)=0:=by
   intro h;exact y (cA.1 (by omega))
  rw[if_neg y];simp only[go_sem,Q0,Q1,Q2,Q3,Q4,Q5,Q6,Q7,Q8,Q9,Qa,Qb,Qc,Qd,Qe,Qf,Qg,Qh,Qi,Qj,Qk,reduceCtorEq,reduceIte,C,xaU,z,I,xoM]
theorem xnF(v:Int):ct (Int.fdiv (aQ.wrap v) (2^0))=ct v:=by
 rw[show(2:Int)^0=1 from rfl,Int.fdiv_one,bK];unfold ct
 congr 2
 omega
theorem jc(v:Int):bu 1 v=[ct v]:=by rw[<-xnF v];rfl
theorem EE(B:t7)(k:Nat)(v:Int)(y:1<=k)(z:k<=8)(h:B.length<=10000000000000):
 call T 57 [.byt B .no,.int .i64 k,.int .i64 v] [] 0=some ⟨.byt (B++bu k v) (.id 60),[],[60]⟩:=f57 B k v y z h
def tkR:Bool->Bool->LAb
 |false,false=> [103,16060,20060,24060,28060]
 |true,false=> [103,16060,20060,24060,28060,61060]
 |false,true=> [103,16060,20060,24060,28060,97060]
 |true,true=> [103,16060,20060,24060,28060,61060,97060]
theorem xl0(m:Man)(z:dV m)(b:Bool)(i:Nat)(hi:i<m.ents.length)(B:t7)(hB:B.length<=1000000000):
 run T (.loop ql) ⟨[(1,.ptr 101 0),(3,.byt B (.id 103)),(4,.int .i64 i)],[(101,.rc m.sv)],tkR b false⟩=
 run T (.loop ql) ⟨[(1,.ptr 101 0),(3,.byt (iU B (m.ents.getD i en0)) (.id 103)),(4,.int .i64 ((i+1:Nat):Int))],[(101,.rc m.sv)],tkR true false⟩:=by
 have O:((4:Nat):Int)=4:=rfl;have W:=z.en;have F:=bW i (by omega);have J:=df m.ents i hi;have h:=bL m.ents;obtain⟨L,Q⟩:=z.e _ (cf m.ents en0 i hi);clear z;generalize m.ents.getD i en0=x at*;unfold iU;have n1:(B++bu 1 x.role).length<=1000000001:=by rw[ac,bM];omega
 have H:B.length+1<=140737488355328:=by omega
 have C:=f56 (B++bu 1 x.role) x.name (by omega) (by omega);have n2:(eA (B++bu 1 x.role) x.name).length<=1010000000:=by rw[dj];omega
 generalize eA (B++bu 1 x.role) x.name=y at*;rw[jc]at C;have E:=EE y 4 x.ver (by omega) (by omega) (by omega);rw[O]at E;have n3:(y++bu 4 x.ver).length<=1010000004:=by rw[ac,bM];omega
 generalize y++bu 4 x.ver=U at*;have I:U.length+x.dig.length<=140737488355328:=by omega
 obtain⟨Z,m1,m2,m3,m4,es,rs⟩:=m;obtain⟨x1,x2,x3,x4⟩:=x;simp only[Man.sv,Ent.sv]at*;cases b with
 |false=>rw[ai];simp only[tkR];simp only[go_sem,Q0,Q1,Q2,Q3,Q4,Q5,Q6,Q7,Q8,Q9,Qa,Qb,Qc,Qd,Qe,Qf,Qg,Qh,Qi,Qj,Qk,reduceCtorEq,reduceIte,hi,F,J,h,H,C,E,I,CJ,O0]
 |true=>rw[ai];simp only[tkR];simp only[go_sem,Q0,Q1,Q2,Q3,Q4,Q5,Q6,Q7,Q8,Q9,Qa,Qb,Qc,Qd,Qe,Qf,Qg,Qh,Qi,Qj,Qk,reduceCtorEq,reduceIte,hi,F,J,h,H,C,E,I,CJ,O0]
theorem xmz(m:Man)(E:dV m)(J:m.ents.length<=16):∀(n i:Nat)(b:Bool)(B:t7),m.ents.length-i=n->i<=m.ents.length->B.length<=20000000+i*2000007->
 ∃L,run T (.loop ql) ⟨[(1,.ptr 101 0),(3,.byt B (.id 103)),(4,.int .i64 i)],[(101,.rc m.sv)],tkR b false⟩=
 some (.x 0,⟨[(1,.ptr 101 0),(3,.byt ((m.ents.drop i).foldl iU B) (.id 103))],[(101,.rc m.sv)],tkR L false⟩):=by
 intro n;induction n with
 |zero=>
  intro i b B I H F;have h:=bL m.ents;have:i=m.ents.length:=by omega
  subst this;refine⟨b, ?_⟩;rw[ba,fp,ai];obtain⟨Q,U,W,m3,m4,es,rs⟩:=m;simp only[Man.sv]at*;cases b with
  |false=>simp only[tkR];simp only[go_sem,Q0,Q1,Q2,Q3,Q4,Q5,Q6,Q7,Q8,Q9,Qa,Qb,Qc,Qd,Qe,Qf,Qg,Qh,Qi,Qj,Qk,reduceCtorEq,reduceIte,h]
  |true=>simp only[tkR];simp only[go_sem,Q0,Q1,Q2,Q3,Q4,Q5,Q6,Q7,Q8,Q9,Qa,Qb,Qc,Qd,Qe,Qf,Qg,Qh,Qi,Qj,Qk,reduceCtorEq,reduceIte,h]
 |succ n O=>
  intro i b B I H F;have hi:i<m.ents.length:=by omega
  have z:m.ents.drop i=m.ents.getD i en0::m.ents.drop (i+1):=by rw[aM hi,aa,ab hi];rfl
  obtain⟨y,C⟩:=E.e _ (cf m.ents en0 i hi);have Z:=mf B (m.ents.getD i en0) y C;rw[xl0 m E b i hi B (by omega),z,bS];exact O (i+1) true _ (by omega) (by omega) (by omega)
theorem xlZ(m:Man)(z:∀x∈m.ruls,x.text.length<=1000000)(hn:m.ruls.length<=1000000)(b c:Bool)(i:Nat)(hi:i<m.ruls.length)(B:t7)(hB:B.length<=1000000000):
 run T (.loop qk) ⟨[(1,.ptr 101 0),(3,.byt B (.id 103)),(6,.int .i64 i)],[(101,.rc m.sv)],tkR b c⟩=
 run T (.loop qk) ⟨[(1,.ptr 101 0),(3,.byt (iI B (m.ruls.getD i rl0)) (.id 103)),(6,.int .i64 ((i+1:Nat):Int))],[(101,.rc m.sv)],tkR b true⟩:=by
 have C:((4:Nat):Int)=4:=rfl;have I:=bW i (by omega);have Q:=gC m.ruls i hi;have y:=cK m.ruls;have J:=z _ (cf m.ruls rl0 i hi);clear z;generalize m.ruls.getD i rl0=x at*;unfold iI;have n1:(B++bu 1 x.kind).length<=1000000001:=by rw[ac,bM];omega
 have L:B.length+1<=140737488355328:=by omega
 have F:=f56 (B++bu 1 x.kind) x.text (by omega) (by omega);have n2:(eA (B++bu 1 x.kind) x.text).length<=1010000000:=by rw[dj];omega
 generalize eA (B++bu 1 x.kind) x.text=h at*;rw[jc]at F;have H:=EE h 4 x.lo (by omega) (by omega) (by omega);rw[C]at H;have n3:(h++bu 4 x.lo).length<=1010000004:=by rw[ac,bM];omega
 generalize h++bu 4 x.lo=O at*;have E:=EE O 4 x.hi (by omega) (by omega) (by omega);rw[C]at E;obtain⟨U,W,Z,m3,m4,es,rs⟩:=m;obtain⟨x1,x2,x3,x4⟩:=x;simp only[Rul.sv,Man.sv]at*
 cases b<;>cases c<;>
  (rw[ai]
   simp only[tkR];simp only[go_sem,Q0,Q1,Q2,Q3,Q4,Q5,Q6,Q7,Q8,Q9,Qa,Qb,Qc,Qd,Qe,Qf,Qg,Qh,Qi,Qj,Qk,reduceCtorEq,reduceIte,hi,I,Q,y,L,F,H,E,CJ,O0])
theorem xmy(m:Man)(z:∀x∈m.ruls,x.text.length<=1000000)(hn:m.ruls.length<=8)(b:Bool):∀(n i:Nat)(c:Bool)(B:t7),m.ruls.length-i=n->i<=m.ruls.length->B.length<=100000000+i*2000007->
 ∃H,run T (.loop qk) ⟨[(1,.ptr 101 0),(3,.byt B (.id 103)),(6,.int .i64 i)],[(101,.rc m.sv)],tkR b c⟩=
 some (.x 2,⟨[(3,.byt ((m.ruls.drop i).foldl iI B) (.id 103))],[(101,.rc m.sv)],tkR b H⟩):=by
 intro n;induction n with
 |zero=>
  intro i c B F E C;have y:=cK m.ruls;have:i=m.ruls.length:=by omega
  subst this;refine⟨c, ?_⟩;rw[ba,fp,ai];obtain⟨J,L,O,m3,U,es,rs⟩:=m;simp only[Man.sv]at*;cases b<;>cases c<;>(simp only[tkR];simp only[go_sem,Q0,Q1,Q2,Q3,Q4,Q5,Q6,Q7,Q8,Q9,Qa,Qb,Qc,Qd,Qe,Qf,Qg,Qh,Qi,Qj,Qk,reduceCtorEq,reduceIte,y])
 |succ n I=>
  intro i c B F E C;have hi:i<m.ruls.length:=by omega
  have h:m.ruls.drop i=m.ruls.getD i rl0::m.ruls.drop (i+1):=by rw[aM hi,aa,ab hi];rfl
  have Q:=lW B (m.ruls.getD i rl0) (z _ (cf m.ruls rl0 i hi));rw[xlZ m z (by omega) b c i hi B (by omega),h,bS];exact I (i+1) true _ (by omega) (by omega) (by omega)
theorem f20(m:Man)(h:dV m):call T 20 [.agg m.sv] [] 0=some ⟨.byt (fX m) .no,[],[]⟩:=by
 have H:=f14 m h;have k4:((4:Nat):Int)=4:=rfl;have k6:((6:Nat):Int)=6:=rfl;have a4:=h.v;have a6:=h.rn;have a2:=bL m.ents;have a0:=cK m.ruls;unfold fX
 by_cases z:fj m=0
 ·obtain⟨Z,h8⟩:=gW z
  rw[z]at H;rw[if_pos z];unfold hdM;have W:bu 1 21=[21]:=by rw[jc];rfl
  have u2:=f56 [21] m.vendor (by simp) (by omega);rw[W,aG];generalize L:eA [21] m.vendor=Q at*;have n2:Q.length<=10000000:=by rw[<-L,dj];simp;omega
  have u3:=EE Q 4 m.ver (by omega) (by omega) (by omega);rw[k4]at u3;generalize a3:Q++bu 4 m.ver=B3 at*;have n3:B3.length<=10000004:=by rw[<-a3,ac,bM];omega
  have u4:=EE B3 4 m.flr (by omega) (by omega) (by omega);rw[k4]at u4;generalize a1:B3++bu 4 m.flr=O at*;have n4:O.length<=10000008:=by rw[<-a1,ac,bM];omega
  have u5:=EE O 6 m.frm (by omega) (by omega) (by omega);rw[k6]at u5;generalize I:O++bu 6 m.frm=J at*;have n5:J.length<=10000014:=by rw[<-I,ac,bM];omega
  have u6:=EE J 6 m.til (by omega) (by omega) (by omega);rw[k6]at u6;generalize U:J++bu 6 m.til=y at*;have n6:y.length<=10000020:=by rw[<-U,ac,bM];omega
  have r6:y.length+1<=140737488355328:=by omega
  have n7:(y++bu 1 (m.ents.length:Int)).length<=10000021:=by rw[ac,bM];omega
  obtain⟨b,C⟩:=xmz m h Z _ 0 false (y++bu 1 (m.ents.length:Int)) rfl (by omega) (by omega);have n8:=iS m.ents (y++bu 1 (m.ents.length:Int)) h.e;rw[aV,aB]at C;generalize m.ents.foldl iU (y++bu 1 (m.ents.length:Int))=F at*;rw[jc]at C;have r8:F.length+1<=140737488355328:=by omega
  have n9:(F++bu 1 (m.ruls.length:Int)).length<=10000022+16*2000007:=by rw[ac,bM];omega
  obtain⟨c,E⟩:=xmy m h.r h8 b _ 0 false (F++bu 1 (m.ruls.length:Int)) rfl (by omega) (by omega);rw[aV,aB]at E;generalize m.ruls.foldl iI (F++bu 1 (m.ruls.length:Int))=a5 at*;rw[jc]at E;obtain⟨mv,m1,m2,m3,m4,es,rs⟩:=m;simp only[Man.sv]at*;rw[an xlw]
  cases b<;>cases c<;>
   (simp only[tkR]at C E
    simp only[go_sem,Q0,Q1,Q2,Q3,Q4,Q5,Q6,Q7,Q8,Q9,Qa,Qb,Qc,Qd,Qe,Qf,Qg,Qh,Qi,Qj,Qk,reduceCtorEq,reduceIte,H,Ti,u2,u3,u4,u5,u6,CJ,O0,a2,r6,C,r8,a0,E])
 ·rw[if_neg z]
  obtain⟨mv,m1,m2,m3,m4,es,rs⟩:=m;simp only[Man.sv]at*;rw[an xlw];simp only[go_sem,Q0,Q1,Q2,Q3,Q4,Q5,Q6,Q7,Q8,Q9,Qa,Qb,Qc,Qd,Qe,Qf,Qg,Qh,Qi,Qj,Qk,reduceCtorEq,reduceIte,H,Ti,z]
def nF(v:Nat)(l:t7):Nat:=l.foldl (fun v b=>v*256+b.toNat) v
def nB(l:t7):Nat:=nF 0 l
theorem Eh:∀(l:t7)(v k:Nat),v<256^k->nF v l<256^(k+l.length)
 |[],v,k,h=>h
 |b::r,v,k,h=>by
  have z:=b.toNat_lt
  have y:v*256+b.toNat<256^(k+1):=by have:(v+1)*256<=256^k*256:=bv _ h;rw[Nat.pow_succ];omega
  have:=Eh r (v*256+b.toNat) (k+1) y;rw[aA,show k+(r.length+1)=k+1+r.length from by omega];exact this
theorem wG(l:t7):nB l<256^l.length:=by have:=Eh l 0 0 (by decide);rwa[cj]at this
theorem pB(l:t7)(h:l.length<=6):nB l<281474976710656:=by
 have z:=wG l;have y:256^l.length<=256^6:=Nat.pow_le_pow_right (by decide) h;have C:(256:Nat)^6=281474976710656:=by decide
 omega
theorem orW(v:Nat)(z:v<1099511627776)(b:UInt8):bt .or .u64 (aQ.wrap ((v:Int)*2^min 8 64)) (b.toNat:Int)=((v*256+b.toNat:Nat):Int):=by
 have y:=b.toNat_lt;have p:((2:Int)^min 8 64)=256:=by decide
 have e:aQ.wrap ((v:Int)*2^min 8 64)=((v*256:Nat):Int):=by rw[p,bK];omega
 rw[e];unfold bt;simp only[BitVec.ofInt_natCast]
 have h:(BitVec.ofNat 64 (v*256)|||BitVec.ofNat 64 b.toNat).toNat=v*256+b.toNat:=by rw[BitVec.toNat_or,BitVec.toNat_ofNat,BitVec.toNat_ofNat,dp (by omega),dp (by omega)];have:=Nat.two_pow_add_eq_or_of_lt (i:=8) (b:=b.toNat) (by omega) v;rw[show(2:Nat)^8=256 from by decide]at this;rw[cm v 256,<-this]
 show aQ.wrap (((BitVec.ofNat 64 (v*256)|||BitVec.ofNat 64 b.toNat).toNat:Nat):Int)=_;rw[h,bK];omega
structure Rs where
 a:Nat
 e:Int
def rdO(B:t7)(t:Nat)(s:Rs):aC:= .rc [.byt B (.id t),.int .i64 s.a,.int .i64 s.e]
def uR(B:t7)(n:Nat)(s:Rs):Int×Rs:=if s.e=0 then(if s.a+n<=B.length then(((nB ((B.drop s.a).take n):Nat):Int),⟨s.a+n,0⟩)else(0,⟨s.a,2⟩))else(0,s)
def wR(B:t7)(n:Nat)(s:Rs):t7×Rs:=if s.e=0 then(if s.a+n<=B.length then((B.drop s.a).take n,⟨s.a+n,0⟩)else([],⟨s.a,2⟩))else([],s)
def bR(B:t7)(m:Nat)(s:Rs):t7×Rs:=
 if s.e=0 then(if s.a+2<=B.length then(if nB ((B.drop s.a).take 2)<=m then(if s.a+2+nB ((B.drop s.a).take 2)<=B.length then((B.drop (s.a+2)).take (nB ((B.drop s.a).take 2)),⟨s.a+(2+nB ((B.drop s.a).take 2)),0⟩)else([],⟨s.a,2⟩))else([],⟨s.a,4⟩))else([],⟨s.a,2⟩))else([],s)
def eR(B:t7)(s:Rs):Int:=if s.e=0 then(if s.a<B.length then 3 else 0)else s.e
structure dD(B:List UInt8)(s:Rs):Prop where
 a:s.a<=B.length
theorem ep{B:t7}{n:Nat}{s:Rs}(h:dD B s):dD B (uR B n s).2:=by
 unfold uR;split
 ·split
  ·rename_i y;exact⟨y⟩
  ·exact⟨h.a⟩
 ·exact h
theorem xge{B:t7}{n:Nat}{s:Rs}(h:dD B s):dD B (wR B n s).2:=by
 unfold wR;split
 ·split
  ·rename_i y;exact⟨y⟩
  ·exact⟨h.a⟩
 ·exact h
theorem pd{B:t7}{n:Nat}{s:Rs}(h:dD B s):dD B (bR B n s).2:=by
 unfold bR;split
 ·split
  ·split
   ·split
    ·rename_i y;exact⟨by show s.a+(2+_)<=_;omega⟩
    ·exact⟨h.a⟩
   ·exact⟨h.a⟩
  ·exact⟨h.a⟩
 ·exact h
theorem f50(B:t7)(z:B.length<=1000000000):call T 50 [.byt B .no] [] 0=some ⟨.ptr 100 0,[(100,rdO B 60 ⟨0,0⟩)],[60]⟩:=by
 rw[an xod];unfold rdO;have h:0+B.length<=140737488355328:=by omega
 have y:B.length<=140737488355328:=by omega
 simp only[go_sem,Q0,Q1,Q2,Q3,Q4,Q5,Q6,Q7,Q8,Q9,Qa,Qb,Qc,Qd,Qe,Qf,Qg,Qh,Qi,Qj,Qk,reduceCtorEq,reduceIte,h,y,aB]
theorem xam(B:t7)(a e x:Int):call T 109 [.ptr 0 0,.int .i64 x] [.rc [.byt B (.id 50),.int .i64 a,.int .i64 e]] 1=some ⟨.tup [],[(0,.rc [.byt B (.id 60),.int .i64 a,.int .i64 x])],[60]⟩:=by rw[an xjy];simp only[go_sem,Q0,Q1,Q2,Q3,Q4,Q5,Q6,Q7,Q8,Q9,Qa,Qb,Qc,Qd,Qe,Qf,Qg,Qh,Qi,Qj,Qk,reduceCtorEq,reduceIte]
theorem xal(B:t7)(e:Int)(J:B.length<=1000000000)(a n p:Nat)(H:a<=B.length)(I:p<=1000000000)(hn:n<=1000000):call T 110 [.ptr 0 0,.int .i64 a,.int .i64 n] [.rc [.byt B (.id 50),.int .i64 p,.int .i64 e]] 1=
 if a+n<=B.length then some ⟨.tup [.byt ((B.drop a).take n) .no,.int .i64 0],[(0,.rc [.byt B (.id 60),.int .i64 p,.int .i64 e])],[60]⟩else some ⟨.tup [.byt [] .no,.int .i64 2],[(0,.rc [.byt B (.id 60),.int .i64 p,.int .i64 e])],[60]⟩:=by
 have z:af.wrap ((B.length:Int)-(a:Int))=((B.length-a:Nat):Int):=wZ (by omega)
 have C:af.wrap ((a:Int)+(n:Int))=((a+n:Nat):Int):=wZ (by omega)
 rw[an xjx]
 by_cases h:a+n<=B.length
 ·rw[if_pos h]
  have y:¬B.length-a<n:=by omega
  have E:a<=a+n:=by omega
  have F:(B.take (a+n)).drop a=(B.drop a).take n:=by rw[List.drop_take];congr 1;omega
  simp only[go_sem,Q0,Q1,Q2,Q3,Q4,Q5,Q6,Q7,Q8,Q9,Qa,Qb,Qc,Qd,Qe,Qf,Qg,Qh,Qi,Qj,Qk,reduceCtorEq,reduceIte,z,C,h,y,E,F]
 ·rw[if_neg h]
  have y:B.length-a<n:=by omega
  simp only[go_sem,Q0,Q1,Q2,Q3,Q4,Q5,Q6,Q7,Q8,Q9,Qa,Qb,Qc,Qd,Qe,Qf,Qg,Qh,Qi,Qj,Qk,reduceCtorEq,reduceIte,z,C,y]
theorem l51(t:Nat)(O:aC)(n:Int)(X:t7)(hX:X.length<=6)(H:∃B s,O=rdO B t s):∀(m i v:Nat),X.length-i=m->i<=X.length->v<256^i->
 run T (.loop xT) ⟨[(0,.ptr 0 0),(1,.int .i64 n),(7,.int .u64 v),(38,.byt X .no),(39,.int .i64 X.length),(40,.int .i64 i)],[(0,O)],[t]⟩=
  some (.x 0,⟨[(0,.ptr 0 0),(1,.int .i64 n),(7,.int .u64 ((nF v (X.drop i):Nat):Int))],[(0,O)],[t]⟩):=by
 obtain⟨B,s,rfl⟩:=H;intro m;induction m with
 |zero=>
  intro i v I F z;have:i=X.length:=by omega
  subst this;rw[ba,ai];simp only[rdO,go_sem,Q0,Q1,Q2,Q3,Q4,Q5,Q6,Q7,Q8,Q9,Qa,Qb,Qc,Qd,Qe,Qf,Qg,Qh,Qi,Qj,Qk,reduceCtorEq,reduceIte,nF,fp]
 |succ m Q=>
  intro i v I F z;have hi:i<X.length:=by omega
  have y:(i:Int)<(X.length:Int):=by omega
  have E:=bW i (by omega)
  have J:v<1099511627776:=by
   have:256^i<=256^5:=Nat.pow_le_pow_right (by decide) (by omega);have C:(256:Nat)^5=1099511627776:=by decide
   omega
  have C:=Eh [X.getD i 0] v i z;have h:=Q (i+1) (v*256+(X.getD i 0).toNat) (by omega) (by omega) C;have L:=orW v J (X.getD i 0);have hd:nF v (X.drop i)=nF (v*256+(X.getD i 0).toNat) (X.drop (i+1)):=by rw[cH X i hi];rfl
  rw[hd];generalize U:X.getD i 0=c at*;rw[ai];simp only[rdO]at h ⊢;simp only[go_sem,Q0,Q1,Q2,Q3,Q4,Q5,Q6,Q7,Q8,Q9,Qa,Qb,Qc,Qd,Qe,Qf,Qg,Qh,Qi,Qj,Qk,reduceCtorEq,reduceIte,hi,y,E,U,L,h]
theorem f51(B:t7)(Q:B.length<=1000000000)(n:Nat)(U:1<=n)(W:n<=6)(s:Rs)(O:dD B s):call T 51 [.ptr 0 0,.int .i64 n] [rdO B 50 s] 1=some ⟨.int .i64 (uR B n s).1,[(0,rdO B 60 (uR B n s).2)],[60]⟩:=by
 have I:=O.a;have z:=xal B 0 Q s.a n s.a I (by omega) (by omega);have H:=xam B s.a 0 2;have hX:((B.drop s.a).take n).length<=6:=by rw[aw];omega
 have C:=l51 31060 (rdO B 31060 s) n ((B.drop s.a).take n) hX ⟨B,s,rfl⟩ _ 0 0 rfl (bH _) (by decide);have E:=pB _ hX;have n1:¬(n:Int)<1:=by omega
 have n8:¬(8:Int)<n:=by omega
 have F:af.wrap ((s.a:Int)+(n:Int))=((s.a+n:Nat):Int):=wZ (by omega)
 rw[an xoc];unfold uR
 by_cases y:s.e=0
 ·rw[if_pos y]
  obtain⟨a,e⟩:=s;simp only at y z H C F E;subst y
  by_cases h:a+n<=B.length
  ·rw[if_pos h]at z
   rw[if_pos h];rw[aB,aV]at C;change run T _ _=some (Ex.x 0,⟨[(0,SV.ptr 0 0),(1,SV.int .i64 n),(7,SV.int .u64 ((nB ((B.drop a).take n):Nat):Int))],_,_⟩)at C;have J:¬(9223372036854775807:Int)<((nB ((B.drop a).take n):Nat):Int):=by omega
   have L:af.wrap ((nB ((B.drop a).take n):Nat):Int)=((nB ((B.drop a).take n):Nat):Int):=w64 (by omega) (by omega);generalize nB ((B.drop a).take n)=V at*;generalize (B.drop a).take n=X at*;simp only[rdO]at C ⊢;simp only[go_sem,Q0,Q1,Q2,Q3,Q4,Q5,Q6,Q7,Q8,Q9,Qa,Qb,Qc,Qd,Qe,Qf,Qg,Qh,Qi,Qj,Qk,reduceCtorEq,reduceIte,n1,n8,z,pr,C,J,L,F]
  ·rw[if_neg h]at z
   rw[if_neg h];simp only[rdO];simp only[go_sem,Q0,Q1,Q2,Q3,Q4,Q5,Q6,Q7,Q8,Q9,Qa,Qb,Qc,Qd,Qe,Qf,Qg,Qh,Qi,Qj,Qk,reduceCtorEq,reduceIte,n1,n8,z,pr,H,xq]
 ·rw[if_neg y]
  obtain⟨a,e⟩:=s;simp only at y;simp only[rdO];simp only[go_sem,Q0,Q1,Q2,Q3,Q4,Q5,Q6,Q7,Q8,Q9,Qa,Qb,Qc,Qd,Qe,Qf,Qg,Qh,Qi,Qj,Qk,reduceCtorEq,reduceIte,y]
theorem f54(B:t7)(J:B.length<=1000000000)(n:Nat)(L:n<=1000000)(s:Rs)(I:dD B s):call T 54 [.ptr 0 0,.int .i64 n] [rdO B 50 s] 1=some ⟨.byt (wR B n s).1 .no,[(0,rdO B 60 (wR B n s).2)],[60]⟩:=by
 have H:=I.a;have z:=xal B 0 J s.a n s.a H (by omega) (by omega);have F:=xam B s.a 0 2;have n1:¬(n:Int)<0:=by omega
 have E:af.wrap ((s.a:Int)+(n:Int))=((s.a+n:Nat):Int):=wZ (by omega)
 have hX:0+((B.drop s.a).take n).length<=140737488355328:=by rw[aw];omega
 have C:((B.drop s.a).take n).length<=140737488355328:=by rw[aw];omega
 rw[an xn9];unfold wR
 by_cases y:s.e=0
 ·rw[if_pos y]
  obtain⟨a,e⟩:=s;simp only at y z F E hX C;subst y
  by_cases h:a+n<=B.length
  ·rw[if_pos h]at z
   rw[if_pos h];generalize (B.drop a).take n=X at*;simp only[rdO];simp only[go_sem,Q0,Q1,Q2,Q3,Q4,Q5,Q6,Q7,Q8,Q9,Qa,Qb,Qc,Qd,Qe,Qf,Qg,Qh,Qi,Qj,Qk,reduceCtorEq,reduceIte,n1,z,pr,E,hX,C]
  ·rw[if_neg h]at z
   rw[if_neg h];simp only[rdO];simp only[go_sem,Q0,Q1,Q2,Q3,Q4,Q5,Q6,Q7,Q8,Q9,Qa,Qb,Qc,Qd,Qe,Qf,Qg,Qh,Qi,Qj,Qk,reduceCtorEq,reduceIte,n1,z,pr,F,xq]
 ·rw[if_neg y]
  obtain⟨a,e⟩:=s;simp only at y;simp only[rdO];simp only[go_sem,Q0,Q1,Q2,Q3,Q4,Q5,Q6,Q7,Q8,Q9,Qa,Qb,Qc,Qd,Qe,Qf,Qg,Qh,Qi,Qj,Qk,reduceCtorEq,reduceIte,y]
theorem f53(B:t7)(s:Rs):call T 53 [.ptr 0 0] [rdO B 50 s] 1=some ⟨.int .i64 s.e,[(0,rdO B 60 s)],[60]⟩:=by rw[an xoa];simp only[rdO];simp only[go_sem,Q0,Q1,Q2,Q3,Q4,Q5,Q6,Q7,Q8,Q9,Qa,Qb,Qc,Qd,Qe,Qf,Qg,Qh,Qi,Qj,Qk,reduceCtorEq,reduceIte]
theorem xnq(B:t7)(C:B.length<=1000000000)(s:Rs)(y:dD B s):call T 111 [.ptr 0 0] [rdO B 50 s] 1=some ⟨.int .i64 ((B.length-s.a:Nat):Int),[(0,rdO B 60 s)],[60]⟩:=by
 have z:=y.a;have h:af.wrap ((B.length:Int)-(s.a:Int))=((B.length-s.a:Nat):Int):=wZ (by omega)
 rw[an xjw];simp only[rdO];simp only[go_sem,Q0,Q1,Q2,Q3,Q4,Q5,Q6,Q7,Q8,Q9,Qa,Qb,Qc,Qd,Qe,Qf,Qg,Qh,Qi,Qj,Qk,reduceCtorEq,reduceIte,h]
theorem f55(B:t7)(E:B.length<=1000000000)(s:Rs)(C:dD B s):call T 55 [.ptr 0 0] [rdO B 50 s] 1=some ⟨.int .i64 (eR B s),[(0,rdO B 60 s)],[60]⟩:=by
 have g:=xnq B E s C;rw[an xn8];unfold eR;obtain⟨a,e⟩:=s;simp only[rdO]at g ⊢
 by_cases z:e=0
 ·subst z
  by_cases h:a<B.length
  ·have y:(0:Int)<((B.length-a:Nat):Int):=by omega
   simp only[go_sem,Q0,Q1,Q2,Q3,Q4,Q5,Q6,Q7,Q8,Q9,Qa,Qb,Qc,Qd,Qe,Qf,Qg,Qh,Qi,Qj,Qk,reduceCtorEq,reduceIte,g,xba,h,y]
  ·have y:¬(0:Int)<((B.length-a:Nat):Int):=by omega
   simp only[go_sem,Q0,Q1,Q2,Q3,Q4,Q5,Q6,Q7,Q8,Q9,Qa,Qb,Qc,Qd,Qe,Qf,Qg,Qh,Qi,Qj,Qk,reduceCtorEq,reduceIte,g,xba,h,y]
 ·simp only[go_sem,Q0,Q1,Q2,Q3,Q4,Q5,Q6,Q7,Q8,Q9,Qa,Qb,Qc,Qd,Qe,Qf,Qg,Qh,Qi,Qj,Qk,reduceCtorEq,reduceIte,z]
theorem xiy(B:t7)(a:Nat)(h:a+2<=B.length):∃x y,(B.drop a).take 2=[x,y]:=by
 have:((B.drop a).take 2).length=2:=by rw[aw,aI];omega
 match (B.drop a).take 2,this with
 |[x,y],_=>exact⟨x,y,rfl⟩
theorem xk2(x y:UInt8):bt .or .i64 (af.wrap ((x.toNat:Int)*2^min 8 64)) (y.toNat:Int)=((nB [x,y]:Nat):Int):=by
 have E:=x.toNat_lt;have C:=y.toNat_lt;have p:((2:Int)^min 8 64)=256:=by decide
 have e:af.wrap ((x.toNat:Int)*2^min 8 64)=((x.toNat*256:Nat):Int):=by rw[p,w64 (by omega) (by omega)];omega
 rw[e];unfold bt;simp only[BitVec.ofInt_natCast]
 have h:(BitVec.ofNat 64 (x.toNat*256)|||BitVec.ofNat 64 y.toNat).toNat=x.toNat*256+y.toNat:=by rw[BitVec.toNat_or,BitVec.toNat_ofNat,BitVec.toNat_ofNat,dp (by omega),dp (by omega)];have:=Nat.two_pow_add_eq_or_of_lt (i:=8) (b:=y.toNat) (by omega) x.toNat;rw[show(2:Nat)^8=256 from by decide]at this;rw[cm x.toNat 256,<-this]
 show af.wrap (((BitVec.ofNat 64 (x.toNat*256)|||BitVec.ofNat 64 y.toNat).toNat:Nat):Int)=_;have z:nB [x,y]=x.toNat*256+y.toNat:=by simp[nB,nF]
 rw[h,z,w64 (by omega) (by omega)]
theorem f52(B:t7)(hB:B.length<=1000000000)(m:Nat)(hm:m<=65535)(s:Rs)(hs:dD B s):call T 52 [.ptr 0 0,.int .i64 m] [rdO B 50 s] 1=some ⟨.byt (bR B m s).1 .no,[(0,rdO B 60 (bR B m s).2)],[60]⟩:=by
 have Z:=hs.a;have C:=xal B 0 hB s.a 2 s.a Z (by omega) (by omega);have Q:=xam B s.a 0 2;have g4:=xam B s.a 0 4;rw[show((2:Nat):Int)=2 from rfl]at C;rw[an xob];unfold bR
 by_cases F:s.e=0
 ·rw[if_pos F]
  obtain⟨a,e⟩:=s;simp only at F C Q g4 Z;subst F
  by_cases h:a+2<=B.length
  ·rw[if_pos h]at C
   rw[if_pos h];obtain⟨x,y,J⟩:=xiy B a h;simp only[J]at C ⊢;have O:=xk2 x y
   have hn:nB [x,y]<65536:=by
    have:=wG [x,y];have p:(256:Nat)^ [x,y].length=65536:=by show(256:Nat)^2=65536;decide
    omega
   have U:af.wrap ((a:Int)+2)=((a+2:Nat):Int):=wZ (by omega)
   have e2:af.wrap (2+((nB [x,y]:Nat):Int))=((2+nB [x,y]:Nat):Int):=wZ (by omega)
   have e3:af.wrap ((a:Int)+((2+nB [x,y]:Nat):Int))=((a+(2+nB [x,y]):Nat):Int):=wZ (by omega)
   have I:=xal B 0 hB (a+2) (nB [x,y]) a h (by omega) (by omega);generalize nB [x,y]=n at*
   by_cases W:n<=m
   ·have E:¬(m:Int)<(n:Int):=by omega
    have z:¬m<n:=by omega
    rw[if_pos W];have hX:0+((B.drop (a+2)).take n).length<=140737488355328:=by rw[aw];omega
    have L:((B.drop (a+2)).take n).length<=140737488355328:=by rw[aw];omega
    by_cases H:a+2+n<=B.length
    ·rw[if_pos H]at I
     rw[if_pos H];generalize (B.drop (a+2)).take n=X at*;simp only[rdO];simp only[go_sem,Q0,Q1,Q2,Q3,Q4,Q5,Q6,Q7,Q8,Q9,Qa,Qb,Qc,Qd,Qe,Qf,Qg,Qh,Qi,Qj,Qk,reduceCtorEq,reduceIte,C,pr,O,E,z,I,U,e2,e3,hX,L]
    ·rw[if_neg H]at I
     rw[if_neg H];simp only[rdO];simp only[go_sem,Q0,Q1,Q2,Q3,Q4,Q5,Q6,Q7,Q8,Q9,Qa,Qb,Qc,Qd,Qe,Qf,Qg,Qh,Qi,Qj,Qk,reduceCtorEq,reduceIte,C,pr,O,E,z,I,U,Q,xq]
   ·have E:(m:Int)<(n:Int):=by omega
    have z:m<n:=by omega
    rw[if_neg W];simp only[rdO];simp only[go_sem,Q0,Q1,Q2,Q3,Q4,Q5,Q6,Q7,Q8,Q9,Qa,Qb,Qc,Qd,Qe,Qf,Qg,Qh,Qi,Qj,Qk,reduceCtorEq,reduceIte,C,pr,O,E,z,g4,xq]
  ·rw[if_neg h]at C
   rw[if_neg h];simp only[rdO];simp only[go_sem,Q0,Q1,Q2,Q3,Q4,Q5,Q6,Q7,Q8,Q9,Qa,Qb,Qc,Qd,Qe,Qf,Qg,Qh,Qi,Qj,Qk,reduceCtorEq,reduceIte,C,pr,Q,xq]
 ·rw[if_neg F]
  obtain⟨a,e⟩:=s;simp only at F;simp only[rdO];simp only[go_sem,Q0,Q1,Q2,Q3,Q4,Q5,Q6,Q7,Q8,Q9,Qa,Qb,Qc,Qd,Qe,Qf,Qg,Qh,Qi,Qj,Qk,reduceCtorEq,reduceIte,F]
def fN(B:t7)(s:Rs):Ent×Rs:=(⟨(uR B 1 s).1,(bR B 12 (uR B 1 s).2).1,(uR B 4 (bR B 12 (uR B 1 s).2).2).1,(wR B 32 (uR B 4 (bR B 12 (uR B 1 s).2).2).2).1⟩,(wR B 32 (uR B 4 (bR B 12 (uR B 1 s).2).2).2).2)
def fK(B:t7)(s:Rs):Rul×Rs:=(⟨(uR B 1 s).1,(bR B 32 (uR B 1 s).2).1,(uR B 4 (bR B 32 (uR B 1 s).2).2).1,(uR B 4 (uR B 4 (bR B 32 (uR B 1 s).2).2).2).1⟩,(uR B 4 (uR B 4 (bR B 32 (uR B 1 s).2).2).2).2)
def dy(B:t7):Nat->List Ent->Rs->List Ent×Rs
 |0,es,s=>(es,s)
 |n+1,es,s=>if s.e=0 then dy B n (es++ [(fN B s).1]) (fN B s).2 else(es,s)
def dx(B:t7):Nat->List Rul->Rs->List Rul×Rs
 |0,es,s=>(es,s)
 |n+1,es,s=>if s.e=0 then dx B n (es++ [(fK B s).1]) (fK B s).2 else(es,s)
theorem o5{B:t7}{s:Rs}(h:dD B s):dD B (fN B s).2:=xge (ep (pd (ep h)))
theorem ov{B:t7}{s:Rs}(h:dD B s):dD B (fK B s).2:=ep (ep (pd (ep h)))
theorem vr{B:t7}:∀{n:Nat}{es:List Ent}{s:Rs},dD B s->dD B (dy B n es s).2
 |0,_,_,h=>h
 |n+1,es,s,h=>by
  unfold dy;split
  ·exact vr (o5 h)
  ·exact h
theorem uH{B:t7}:∀{n:Nat}{es:List Rul}{s:Rs},dD B s->dD B (dx B n es s).2
 |0,_,_,h=>h
 |n+1,es,s,h=>by
  unfold dx;split
  ·exact uH (ov h)
  ·exact h
theorem rN{B:t7}:∀{n:Nat}{es:List Ent}{s:Rs},(dy B n es s).1.length<=es.length+n
 |0,_,_=>aN _
 |n+1,es,s=>by
  unfold dy;split
  ·have:=rN (B:=B) (n:=n) (es:=es++ [(fN B s).1]) (s:=(fN B s).2)
   rw[ac,aH]at this;omega
  ·show es.length<=_;omega
theorem rj{B:t7}:∀{n:Nat}{es:List Rul}{s:Rs},(dx B n es s).1.length<=es.length+n
 |0,_,_=>aN _
 |n+1,es,s=>by
  unfold dx;split
  ·have:=rj (B:=B) (n:=n) (es:=es++ [(fK B s).1]) (s:=(fK B s).2)
   rw[ac,aH]at this;omega
  ·show es.length<=_;omega
def mR(v:t7)(y fl fr z:Int)(es:List Ent)(t:Tok)(rs:List Rul)(h:Tok):aC:= .rc [.str v,.int .i64 y,.int .i64 fl,.int .i64 fr,.int .i64 z,.lst 4 (bP es) t,.lst 4 (dl rs) h]
def zR:aC:= .rc [.str [],.int .i64 0,.int .i64 0,.int .i64 0,.int .i64 0,.lst 4 [] .clip,.lst 4 [] .clip]
theorem vx(l:List Ent)(x:Ent):bP (l++ [x])=bP l++ [x.sv]:=by rw[bP,bP,cV];rfl
theorem uM(l:List Rul)(x:Rul):dl (l++ [x])=dl l++ [x.sv]:=by rw[dl,dl,cV];rfl
theorem xmD(B:t7)(hB:B.length<=1000000000)(v:t7)(ve fl fr ti:Int):∀(n:Nat)(es:List Ent)(s:Rs)(t:Tok)(tk:LAb)(J:Nat),es.length+n<=1000->dD B s->
 (t= .clip/\tk=[]/\es=[]\/t= .id 160/\tk=[160])->(J=34060\/J=55060)->
 ∃(Q:Tok)(tk':LAb)(I:Nat),(Q= .clip/\tk'=[]/\(dy B n es s).1=[]\/Q= .id 160/\tk'=[160])/\(I=34060\/I=55060\/I=39060)/\
  run T (.loop x7) ⟨[(2,.ptr 102 0),(4,.ptr 12100 0),(5,.ptr 105 0),(6,.int .i64 n)],[(102,zR),(105,mR v ve fl fr ti es t [] .clip),(12100,rdO B J s)],tk++ [J]⟩=
   some (.x 0,⟨[(2,.ptr 102 0),(4,.ptr 12100 0),(5,.ptr 105 0)],[(102,zR),(105,mR v ve fl fr ti (dy B n es s).1 Q [] .clip),(12100,rdO B I (dy B n es s).2)],tk'++ [I]⟩):=by
 intro n;induction n with
 |zero=>intro es s t tk J h1 h2 O z;refine⟨t,tk,J,O,by omega, ?_⟩;unfold dy;rw[ai];rcases O with⟨rfl,rfl,rfl⟩|⟨rfl,rfl⟩<;>rcases z with rfl|rfl<;>simp only[zR,mR,rdO]<;>simp only[go_sem,Q0,Q1,Q2,Q3,Q4,Q5,Q6,Q7,Q8,Q9,Qa,Qb,Qc,Qd,Qe,Qf,Qg,Qh,Qi,Qj,Qk,reduceCtorEq,reduceIte,aB]
 |succ n ih=>
  intro es s t tk J h1 h2 O z;have U:(0:Int)<((n+1:Nat):Int):=by omega
  have W:af.wrap (((n+1:Nat):Int)-1)=(n:Int):=wZ (by omega)
  have g0:=f53 B s
  by_cases L:s.e=0
  ·obtain⟨Q,tk',I,q1,q2,h⟩:=ih (es++ [(fN B s).1]) (fN B s).2 (.id 160) [160] 55060 (by rw[ac,aH];omega) (o5 h2) (.inr ⟨rfl,rfl⟩) (.inr rfl)
   have hu:dy B (n+1) es s=dy B n (es++ [(fN B s).1]) (fN B s).2:=by
    conv=>lhs;unfold dy
    rw[if_pos L]
   rw[hu];refine⟨Q,tk',I,q1,q2, ?_⟩;have hv:=bL es;have b1:(es.length+1)*56<=140737488355328:=by omega
   generalize dy B n (es++ [(fN B s).1]) (fN B s).2=Z at*;have k1:=ep (n:=1) h2;have C:=f51 B hB 1 (by omega) (by omega) s h2;unfold fN mR at h;rw[vx]at h;generalize uR B 1 s=p1 at*;obtain⟨x1,s1⟩:=p1;simp only at k1 C h;have k2:=pd (n:=12) k1;have H:=f52 B hB 12 (by omega) s1 k1;generalize bR B 12 s1=p2 at*;obtain⟨x2,s2⟩:=p2;simp only at k2 H h;have k3:=ep (n:=4) k2;have E:=f51 B hB 4 (by omega) (by omega) s2 k2;generalize uR B 4 s2=p3 at*;obtain⟨x3,s3⟩:=p3;simp only at k3 E h;have F:=f54 B hB 32 (by omega) s3 k3;generalize wR B 32 s3=p4 at*;obtain⟨x4,s4⟩:=p4;simp only at F h;rw[show((1:Nat):Int)=1 from rfl]at C;rw[show((12:Nat):Int)=12 from rfl]at H;rw[show((4:Nat):Int)=4 from rfl]at E;rw[show((32:Nat):Int)=32 from rfl]at F;rw[L]at g0;simp only[zR,mR,rdO,Ent.sv,bf,aG]at g0 C H E F h ⊢;rw[L]at g0 C;rw[L];rw[ai];rcases O with⟨rfl,rfl,rfl⟩|⟨rfl,rfl⟩<;>rcases z with rfl|rfl
   ·have y:bP []=[]:=rfl
    simp only[y,aG]at h ⊢;simp only[go_sem,Q0,Q1,Q2,Q3,Q4,Q5,Q6,Q7,Q8,Q9,Qa,Qb,Qc,Qd,Qe,Qf,Qg,Qh,Qi,Qj,Qk,reduceCtorEq,reduceIte,U,W,g0,EK,C,xj,H,EL,E,F,xaS,h]
   ·have y:bP []=[]:=rfl
    simp only[y,aG]at h ⊢;simp only[go_sem,Q0,Q1,Q2,Q3,Q4,Q5,Q6,Q7,Q8,Q9,Qa,Qb,Qc,Qd,Qe,Qf,Qg,Qh,Qi,Qj,Qk,reduceCtorEq,reduceIte,U,W,g0,EK,C,xj,H,EL,E,F,xaS,h]
   ·simp only[bf,aG]
    simp only[go_sem,Q0,Q1,Q2,Q3,Q4,Q5,Q6,Q7,Q8,Q9,Qa,Qb,Qc,Qd,Qe,Qf,Qg,Qh,Qi,Qj,Qk,reduceCtorEq,reduceIte,U,W,g0,EK,C,xj,H,EL,E,F,xaS,hv,b1,h]
   ·simp only[bf,aG]
    simp only[go_sem,Q0,Q1,Q2,Q3,Q4,Q5,Q6,Q7,Q8,Q9,Qa,Qb,Qc,Qd,Qe,Qf,Qg,Qh,Qi,Qj,Qk,reduceCtorEq,reduceIte,U,W,g0,EK,C,xj,H,EL,E,F,xaS,hv,b1,h]
  ·have hu:dy B (n+1) es s=(es,s):=by
    unfold dy;rw[if_neg L]
   rw[hu];refine⟨t,tk,39060,O,by omega, ?_⟩;rw[ai];simp only[zR,mR,rdO]at g0 ⊢;rcases O with⟨rfl,rfl,rfl⟩|⟨rfl,rfl⟩<;>rcases z with rfl|rfl<;>simp only[go_sem,Q0,Q1,Q2,Q3,Q4,Q5,Q6,Q7,Q8,Q9,Qa,Qb,Qc,Qd,Qe,Qf,Qg,Qh,Qi,Qj,Qk,reduceCtorEq,reduceIte,U,g0,EK,L,bf,aG]
theorem xmC(B:t7)(hB:B.length<=1000000000)(v:t7)(ve fl fr ti:Int)(es:List Ent)(t2:Tok)(h:LAb)(H:t2= .clip/\h=[]/\es=[]\/t2= .id 160/\h=[160]):∀(n:Nat)(rs:List Rul)(s:Rs)(t:Tok)(tk:LAb)(F:Nat),rs.length+n<=1000->dD B s->
 (t= .clip/\tk=[]/\rs=[]\/t= .id 190/\tk=[190])->(F=64060\/F=85060)->
 ∃(Q:Tok)(tk':LAb)(C:Nat),(Q= .clip/\tk'=[]/\(dx B n rs s).1=[]\/Q= .id 190/\tk'=[190])/\(C=64060\/C=85060\/C=69060)/\
  run T (.loop x6) ⟨[(2,.ptr 102 0),(4,.ptr 12100 0),(5,.ptr 105 0),(8,.int .i64 n)],[(102,zR),(105,mR v ve fl fr ti es t2 rs t),(12100,rdO B F s)],h++(tk++ [F])⟩=
   some (.x 2,⟨[(2,.ptr 102 0),(4,.ptr 12100 0),(5,.ptr 105 0)],[(102,zR),(105,mR v ve fl fr ti es t2 (dx B n rs s).1 Q),(12100,rdO B C (dx B n rs s).2)],h++(tk'++ [C])⟩):=by
 intro n;induction n with
 |zero=>intro rs s t tk F h1 U J y;refine⟨t,tk,F,J,by omega, ?_⟩;unfold dx;rw[ai];rcases H with⟨rfl,rfl,rfl⟩|⟨rfl,rfl⟩<;>rcases J with⟨rfl,rfl,rfl⟩|⟨rfl,rfl⟩<;>rcases y with rfl|rfl<;>simp only[zR,mR,rdO]<;>simp only[go_sem,Q0,Q1,Q2,Q3,Q4,Q5,Q6,Q7,Q8,Q9,Qa,Qb,Qc,Qd,Qe,Qf,Qg,Qh,Qi,Qj,Qk,reduceCtorEq,reduceIte,aB]
 |succ n ih=>
  intro rs s t tk F h1 U J y;have hp:(0:Int)<((n+1:Nat):Int):=by omega
  have e1:af.wrap (((n+1:Nat):Int)-1)=(n:Int):=wZ (by omega)
  have g0:=f53 B s
  by_cases I:s.e=0
  ·obtain⟨Q,tk',C,q1,q2,z⟩:=ih (rs++ [(fK B s).1]) (fK B s).2 (.id 190) [190] 85060 (by rw[ac,aH];omega) (ov U) (.inr ⟨rfl,rfl⟩) (.inr rfl)
   have hu:dx B (n+1) rs s=dx B n (rs++ [(fK B s).1]) (fK B s).2:=by
    conv=>lhs;unfold dx
    rw[if_pos I]
   rw[hu];refine⟨Q,tk',C,q1,q2, ?_⟩;have hv:=cK rs;have b1:(rs.length+1)*40<=140737488355328:=by omega
   generalize dx B n (rs++ [(fK B s).1]) (fK B s).2=Z at*;have k1:=ep (n:=1) U;have L:=f51 B hB 1 (by omega) (by omega) s U;unfold fK mR at z;rw[uM]at z;generalize uR B 1 s=p1 at*;obtain⟨x1,s1⟩:=p1;simp only at k1 L z;have k2:=pd (n:=32) k1;have g2:=f52 B hB 32 (by omega) s1 k1;generalize bR B 32 s1=p2 at*;obtain⟨x2,s2⟩:=p2;simp only at k2 g2 z;have k3:=ep (n:=4) k2;have W:=f51 B hB 4 (by omega) (by omega) s2 k2;generalize uR B 4 s2=p3 at*;obtain⟨x3,s3⟩:=p3;simp only at k3 W z;have g4:=f51 B hB 4 (by omega) (by omega) s3 k3;generalize uR B 4 s3=p4 at*;obtain⟨x4,s4⟩:=p4;simp only at g4 z;rw[show((1:Nat):Int)=1 from rfl]at L;rw[show((32:Nat):Int)=32 from rfl]at g2;rw[show((4:Nat):Int)=4 from rfl]at W g4;rw[I]at g0;simp only[zR,mR,rdO,Rul.sv,bf,aG]at g0 L g2 W g4 z ⊢;rw[I]at g0 L;rw[I];rw[ai];rcases H with⟨rfl,rfl,rfl⟩|⟨rfl,rfl⟩<;>rcases J with⟨rfl,rfl,rfl⟩|⟨rfl,rfl⟩<;>rcases y with rfl|rfl
   all_goals
    have O:dl []=[]:=rfl;have E:bP []=[]:=rfl;simp only[O,E,aG,bf]at z ⊢;simp only[go_sem,Q0,Q1,Q2,Q3,Q4,Q5,Q6,Q7,Q8,Q9,Qa,Qb,Qc,Qd,Qe,Qf,Qg,Qh,Qi,Qj,Qk,reduceCtorEq,reduceIte,hp,e1,g0,EK,L,xj,g2,EL,W,g4,hv,b1,z]
  ·have hu:dx B (n+1) rs s=(rs,s):=by
    unfold dx;rw[if_neg I]
   rw[hu];refine⟨t,tk,69060,J,by omega, ?_⟩;rw[ai];simp only[zR,mR,rdO]at g0 ⊢;rcases H with⟨rfl,rfl,rfl⟩|⟨rfl,rfl⟩<;>rcases J with⟨rfl,rfl,rfl⟩|⟨rfl,rfl⟩<;>rcases y with rfl|rfl<;>simp only[go_sem,Q0,Q1,Q2,Q3,Q4,Q5,Q6,Q7,Q8,Q9,Qa,Qb,Qc,Qd,Qe,Qf,Qg,Qh,Qi,Qj,Qk,reduceCtorEq,reduceIte,hp,g0,EK,I,bf,aG]
def mS(v:t7)(z y C h:Int)(es:List Ent)(rs:List Rul):aC:= .rc [.str v,.int .i64 z,.int .i64 y,.int .i64 C,.int .i64 h,.lst 4 (bP es) .no,.lst 4 (dl rs) .no]
theorem kM{α:Type}(l:List α)(d:α)(i:Nat)(h:i<l.length):l.drop i=l.getD i d::l.drop (i+1):=by rw[aM h,aa,ab h];rfl
theorem xmB(
 v:t7)(E I F H:Int)(es z:List Ent)(rs Q:List Rul)(hl:es.length=z.length)(hn:es.length<=1000000)(hd:∀x∈es,x.dig.length<=1000000):∀(k i:Nat),es.length-i=k->i<=es.length->
 (es.drop i=z.drop i->run T (.loop Eb) ⟨[(2,.ptr 102 0),(3,.ptr 103 0),(5,.int .i64 i)],[(102,mS v E I F H es rs),(103,mS v E I F H z Q)],[]⟩=some (.x 0,⟨[(2,.ptr 102 0),(3,.ptr 103 0)],[(102,mS v E I F H es rs),(103,mS v E I F H z Q)],[]⟩))/\
 (¬es.drop i=z.drop i->∃ob,run T (.loop Eb) ⟨[(2,.ptr 102 0),(3,.ptr 103 0),(5,.int .i64 i)],[(102,mS v E I F H es rs),(103,mS v E I F H z Q)],[]⟩=some (.r,⟨[(4,.bool false)],ob,[]⟩)):=by
 intro k;induction k with
 |zero=>
  intro i h1 h2;have J:¬i<es.length:=by omega
  have L:es.drop i=[]:=bo (by omega);have e2:z.drop i=[]:=bo (by omega);have O:=bL es;refine⟨fun _=> ?_,fun h=>absurd (L.trans e2.symm) h⟩;rw[ai];simp only[mS,go_sem,Q0,Q1,Q2,Q3,Q4,Q5,Q6,Q7,Q8,Q9,Qa,Qb,Qc,Qd,Qe,Qf,Qg,Qh,Qi,Qj,Qk,reduceCtorEq,reduceIte,O,J]
 |succ k ih=>
  intro i h1 h2;have J:i<es.length:=by omega
  have C:i<z.length:=by omega
  have O:=bL es;have W:=bL z;have Z:=df es i J;have U:=df z i C;have dE:=kM es en0 i J;have dF:=kM z en0 i C;have a5:=ih (i+1) (by omega) (by omega);have L:=bW i (by omega);have a0:=hd _ (cf es en0 i J);rw[dE,dF];generalize es.drop (i+1)=R at*;generalize z.drop (i+1)=S at*;generalize es.getD i en0=x at*;generalize z.getD i en0=y at*;obtain⟨r1,n1,v1,d1⟩:=x;obtain⟨r2,n2,v2,d2⟩:=y;have g:=f19 d1 d2 (by simp only at a0;omega);clear a0 dE dF hd ih;simp only[mS,Ent.sv]at*
  by_cases q1:r1=r2
  ·subst q1
   by_cases q2:n1=n2
   ·subst q2
    by_cases q3:v1=v2
    ·subst q3
     by_cases q4:d1=d2
     ·subst q4
      rw[decide_eq_true rfl]at g;refine⟨fun h=> ?_,fun h=> ?_⟩
      ·have q:=a5.1 (jy.inj h).2
       rw[ai];simp only[go_sem,Q0,Q1,Q2,Q3,Q4,Q5,Q6,Q7,Q8,Q9,Qa,Qb,Qc,Qd,Qe,Qf,Qg,Qh,Qi,Qj,Qk,reduceCtorEq,reduceIte,J,C,O,W,Z,U,L,g,xaT,q]
      ·obtain⟨ob,q⟩:=a5.2 (fun h'=>h (by rw[h']))
       refine⟨ob, ?_⟩;rw[ai];simp only[go_sem,Q0,Q1,Q2,Q3,Q4,Q5,Q6,Q7,Q8,Q9,Qa,Qb,Qc,Qd,Qe,Qf,Qg,Qh,Qi,Qj,Qk,reduceCtorEq,reduceIte,J,C,O,W,Z,U,L,g,xaT,q]
     ·rw[decide_eq_false q4]at g
      refine⟨fun h=>absurd h (by simp[q4]),fun _=>⟨[(102,.rc [.str v,.int .i64 E,.int .i64 I,.int .i64 F,.int .i64 H,.lst 4 (bP es) .no,.lst 4 (dl rs) .no]),(103,.rc [.str v,.int .i64 E,.int .i64 I,.int .i64 F,.int .i64 H,.lst 4 (bP z) .no,.lst 4 (dl Q) .no]),(106,.rc [.int .i64 r1,.str n1,.int .i64 v1,.byt d1 .no]),(107,.rc [.int .i64 r1,.str n1,.int .i64 v1,.byt d2 .no])], ?_⟩⟩;rw[ai];simp only[go_sem,Q0,Q1,Q2,Q3,Q4,Q5,Q6,Q7,Q8,Q9,Qa,Qb,Qc,Qd,Qe,Qf,Qg,Qh,Qi,Qj,Qk,reduceCtorEq,reduceIte,J,C,O,W,Z,U,L,g,xaT]
    ·refine⟨fun h=>absurd h (by simp[q3]),fun _=>⟨[(102,.rc [.str v,.int .i64 E,.int .i64 I,.int .i64 F,.int .i64 H,.lst 4 (bP es) .no,.lst 4 (dl rs) .no]),(103,.rc [.str v,.int .i64 E,.int .i64 I,.int .i64 F,.int .i64 H,.lst 4 (bP z) .no,.lst 4 (dl Q) .no]),(106,.rc [.int .i64 r1,.str n1,.int .i64 v1,.byt d1 .no]),(107,.rc [.int .i64 r1,.str n1,.int .i64 v2,.byt d2 .no])], ?_⟩⟩
     rw[ai];simp only[go_sem,Q0,Q1,Q2,Q3,Q4,Q5,Q6,Q7,Q8,Q9,Qa,Qb,Qc,Qd,Qe,Qf,Qg,Qh,Qi,Qj,Qk,reduceCtorEq,reduceIte,J,C,O,W,Z,U,L,q3]
   ·refine⟨fun h=>absurd h (by simp[q2]),fun _=>⟨[(102,.rc [.str v,.int .i64 E,.int .i64 I,.int .i64 F,.int .i64 H,.lst 4 (bP es) .no,.lst 4 (dl rs) .no]),(103,.rc [.str v,.int .i64 E,.int .i64 I,.int .i64 F,.int .i64 H,.lst 4 (bP z) .no,.lst 4 (dl Q) .no]),(106,.rc [.int .i64 r1,.str n1,.int .i64 v1,.byt d1 .no]),(107,.rc [.int .i64 r1,.str n2,.int .i64 v2,.byt d2 .no])], ?_⟩⟩
    rw[ai];simp only[go_sem,Q0,Q1,Q2,Q3,Q4,Q5,Q6,Q7,Q8,Q9,Qa,Qb,Qc,Qd,Qe,Qf,Qg,Qh,Qi,Qj,Qk,reduceCtorEq,reduceIte,J,C,O,W,Z,U,L,q2]
  ·refine⟨fun h=>absurd h (by simp[q1]),fun _=>⟨[(102,.rc [.str v,.int .i64 E,.int .i64 I,.int .i64 F,.int .i64 H,.lst 4 (bP es) .no,.lst 4 (dl rs) .no]),(103,.rc [.str v,.int .i64 E,.int .i64 I,.int .i64 F,.int .i64 H,.lst 4 (bP z) .no,.lst 4 (dl Q) .no]),(106,.rc [.int .i64 r1,.str n1,.int .i64 v1,.byt d1 .no]),(107,.rc [.int .i64 r2,.str n2,.int .i64 v2,.byt d2 .no])], ?_⟩⟩
   rw[ai];simp only[go_sem,Q0,Q1,Q2,Q3,Q4,Q5,Q6,Q7,Q8,Q9,Qa,Qb,Qc,Qd,Qe,Qf,Qg,Qh,Qi,Qj,Qk,reduceCtorEq,reduceIte,J,C,O,W,Z,U,L,q1]
theorem xmA(
 v:t7)(I O J L:Int)(es fs:List Ent)(rs C:List Rul)(hl:rs.length=C.length)(hn:rs.length<=1000000):∀(k i:Nat),rs.length-i=k->i<=rs.length->
 (rs.drop i=C.drop i->run T (.loop tL) ⟨[(2,.ptr 102 0),(3,.ptr 103 0),(8,.int .i64 i)],[(102,mS v I O J L es rs),(103,mS v I O J L fs C)],[]⟩=some (.x 2,⟨[],[(102,mS v I O J L es rs),(103,mS v I O J L fs C)],[]⟩))/\
 (¬rs.drop i=C.drop i->run T (.loop tL) ⟨[(2,.ptr 102 0),(3,.ptr 103 0),(8,.int .i64 i)],[(102,mS v I O J L es rs),(103,mS v I O J L fs C)],[]⟩=some (.r,⟨[(4,.bool false)],[(102,mS v I O J L es rs),(103,mS v I O J L fs C)],[]⟩)):=by
 intro k;induction k with
 |zero=>
  intro i h1 h2;have E:¬i<rs.length:=by omega
  have F:rs.drop i=[]:=bo (by omega);have e2:C.drop i=[]:=bo (by omega);have H:=cK rs;refine⟨fun _=> ?_,fun h=>absurd (F.trans e2.symm) h⟩;rw[ai];simp only[mS,go_sem,Q0,Q1,Q2,Q3,Q4,Q5,Q6,Q7,Q8,Q9,Qa,Qb,Qc,Qd,Qe,Qf,Qg,Qh,Qi,Qj,Qk,reduceCtorEq,reduceIte,H,E]
 |succ k ih=>
  intro i h1 h2;have E:i<rs.length:=by omega
  have z:i<C.length:=by omega
  have H:=cK rs;have U:=cK C;have W:=gC rs i E;have Q:=gC C i z;have dE:=kM rs rl0 i E;have dF:=kM C rl0 i z;have Z:=ih (i+1) (by omega) (by omega);have F:=bW i (by omega);rw[dE,dF];generalize rs.drop (i+1)=R at*;generalize C.drop (i+1)=S at*;generalize rs.getD i rl0=x at*;generalize C.getD i rl0=y at*;obtain⟨r1,n1,v1,d1⟩:=x;obtain⟨r2,n2,v2,d2⟩:=y;clear dE dF ih;simp only[mS,Rul.sv]at*
  by_cases q1:r1=r2
  ·subst q1
   by_cases q2:n1=n2
   ·subst q2
    by_cases q3:v1=v2
    ·subst q3
     by_cases q4:d1=d2
     ·subst q4
      refine⟨fun h=> ?_,fun h=> ?_⟩
      ·have q:=Z.1 (jy.inj h).2
       rw[ai];simp only[go_sem,Q0,Q1,Q2,Q3,Q4,Q5,Q6,Q7,Q8,Q9,Qa,Qb,Qc,Qd,Qe,Qf,Qg,Qh,Qi,Qj,Qk,reduceCtorEq,reduceIte,E,z,H,U,W,Q,F,q]
      ·have q:=Z.2 (fun h'=>h (by rw[h']))
       rw[ai];simp only[go_sem,Q0,Q1,Q2,Q3,Q4,Q5,Q6,Q7,Q8,Q9,Qa,Qb,Qc,Qd,Qe,Qf,Qg,Qh,Qi,Qj,Qk,reduceCtorEq,reduceIte,E,z,H,U,W,Q,F,q]
     ·refine⟨fun h=>absurd h (by simp[q4]),fun _=> ?_⟩
      rw[ai];simp only[go_sem,Q0,Q1,Q2,Q3,Q4,Q5,Q6,Q7,Q8,Q9,Qa,Qb,Qc,Qd,Qe,Qf,Qg,Qh,Qi,Qj,Qk,reduceCtorEq,reduceIte,E,z,H,U,W,Q,F,q4]
    ·refine⟨fun h=>absurd h (by simp[q3]),fun _=> ?_⟩
     rw[ai];simp only[go_sem,Q0,Q1,Q2,Q3,Q4,Q5,Q6,Q7,Q8,Q9,Qa,Qb,Qc,Qd,Qe,Qf,Qg,Qh,Qi,Qj,Qk,reduceCtorEq,reduceIte,E,z,H,U,W,Q,F,q3]
   ·refine⟨fun h=>absurd h (by simp[q2]),fun _=> ?_⟩
    rw[ai];simp only[go_sem,Q0,Q1,Q2,Q3,Q4,Q5,Q6,Q7,Q8,Q9,Qa,Qb,Qc,Qd,Qe,Qf,Qg,Qh,Qi,Qj,Qk,reduceCtorEq,reduceIte,E,z,H,U,W,Q,F,q2]
  ·refine⟨fun h=>absurd h (by simp[q1]),fun _=> ?_⟩
   rw[ai];simp only[go_sem,Q0,Q1,Q2,Q3,Q4,Q5,Q6,Q7,Q8,Q9,Qa,Qb,Qc,Qd,Qe,Qf,Qg,Qh,Qi,Qj,Qk,reduceCtorEq,reduceIte,E,z,H,U,W,Q,F,q1]
noncomputable def eqM(m n:Man):Bool:= @decide (m=n) (Classical.propDecidable _)
theorem PO{m n:Man}(h:m=n):eqM m n=true:=by unfold eqM;exact @decide_eq_true _ (Classical.propDecidable _) h
theorem nE{m n:Man}(h:¬m=n):eqM m n=false:=by unfold eqM;exact @decide_eq_false _ (Classical.propDecidable _) h
theorem f18(m n:Man)(L:dV m):call T 18 [.agg m.sv,.agg n.sv] [] 0=some ⟨.bool (eqM m n),[],[]⟩:=by
 have a6:=L.en;have a0:=L.rn;have a5:∀x∈m.ents,x.dig.length<=1000000:=fun x hx=>(L.e x hx).2
 have I:=bL m.ents;have J:=bL n.ents;have C:=cK m.ruls;have z:=cK n.ruls;clear L;obtain⟨v,Z,a2,a3,a4,es,rs⟩:=m;obtain⟨w,b1,b2,b3,b4,F,H⟩:=n;rw[an xoA];simp only[Man.sv]at*
 by_cases q1:v=w
 ·subst q1
  by_cases W:Z=b1
  ·subst W
   by_cases q3:a2=b2
   ·subst q3
    by_cases q4:a3=b3
    ·subst q4
     by_cases q5:a4=b4
     ·subst q5
      by_cases q6:es.length=F.length
      ·have y:(es.length:Int)=F.length:=by omega
       by_cases q7:rs.length=H.length
       ·have E:(rs.length:Int)=H.length:=by omega
        have h1:=xmB v Z a2 a3 a4 es F rs H q6 a6 a5 _ 0 rfl (bH _);have U:=xmA v Z a2 a3 a4 es F rs H q7 a0 _ 0 rfl (bH _);simp only[aB,aV,mS]at h1 U
        by_cases Q:es=F
        ·have k1:=h1.1 Q
         by_cases O:rs=H
         ·have k2:=U.1 O
          rw[PO (by rw[Q,O])];simp only[go_sem,Q0,Q1,Q2,Q3,Q4,Q5,Q6,Q7,Q8,Q9,Qa,Qb,Qc,Qd,Qe,Qf,Qg,Qh,Qi,Qj,Qk,reduceCtorEq,reduceIte,I,J,C,z,y,E,k1,k2]
         ·have k2:=U.2 O
          rw[nE (fun h=>O (Man.mk.inj h).2.2.2.2.2.2)];simp only[go_sem,Q0,Q1,Q2,Q3,Q4,Q5,Q6,Q7,Q8,Q9,Qa,Qb,Qc,Qd,Qe,Qf,Qg,Qh,Qi,Qj,Qk,reduceCtorEq,reduceIte,I,J,C,z,y,E,k1,k2]
        ·obtain⟨ob,k1⟩:=h1.2 Q
         rw[nE (fun h=>Q (Man.mk.inj h).2.2.2.2.2.1)];simp only[go_sem,Q0,Q1,Q2,Q3,Q4,Q5,Q6,Q7,Q8,Q9,Qa,Qb,Qc,Qd,Qe,Qf,Qg,Qh,Qi,Qj,Qk,reduceCtorEq,reduceIte,I,J,C,z,y,E,k1]
       ·have E:¬(rs.length:Int)=H.length:=by omega
        rw[nE (fun h=>q7 (by rw[(Man.mk.inj h).2.2.2.2.2.2]))];simp only[go_sem,Q0,Q1,Q2,Q3,Q4,Q5,Q6,Q7,Q8,Q9,Qa,Qb,Qc,Qd,Qe,Qf,Qg,Qh,Qi,Qj,Qk,reduceCtorEq,reduceIte,I,J,C,z,y,E,q7]
      ·have y:¬(es.length:Int)=F.length:=by omega
       rw[nE (fun h=>q6 (by rw[(Man.mk.inj h).2.2.2.2.2.1]))];simp only[go_sem,Q0,Q1,Q2,Q3,Q4,Q5,Q6,Q7,Q8,Q9,Qa,Qb,Qc,Qd,Qe,Qf,Qg,Qh,Qi,Qj,Qk,reduceCtorEq,reduceIte,I,J,C,z,y,q6]
     ·rw[nE (fun h=>q5 (Man.mk.inj h).2.2.2.2.1)]
      simp only[go_sem,Q0,Q1,Q2,Q3,Q4,Q5,Q6,Q7,Q8,Q9,Qa,Qb,Qc,Qd,Qe,Qf,Qg,Qh,Qi,Qj,Qk,reduceCtorEq,reduceIte,q5]
    ·rw[nE (fun h=>q4 (Man.mk.inj h).2.2.2.1)]
     simp only[go_sem,Q0,Q1,Q2,Q3,Q4,Q5,Q6,Q7,Q8,Q9,Qa,Qb,Qc,Qd,Qe,Qf,Qg,Qh,Qi,Qj,Qk,reduceCtorEq,reduceIte,q4]
   ·rw[nE (fun h=>q3 (Man.mk.inj h).2.2.1)]
    simp only[go_sem,Q0,Q1,Q2,Q3,Q4,Q5,Q6,Q7,Q8,Q9,Qa,Qb,Qc,Qd,Qe,Qf,Qg,Qh,Qi,Qj,Qk,reduceCtorEq,reduceIte,q3]
  ·rw[nE (fun h=>W (Man.mk.inj h).2.1)]
   simp only[go_sem,Q0,Q1,Q2,Q3,Q4,Q5,Q6,Q7,Q8,Q9,Qa,Qb,Qc,Qd,Qe,Qf,Qg,Qh,Qi,Qj,Qk,reduceCtorEq,reduceIte,W]
 ·rw[nE (fun h=>q1 (Man.mk.inj h).1)]
  simp only[go_sem,Q0,Q1,Q2,Q3,Q4,Q5,Q6,Q7,Q8,Q9,Qa,Qb,Qc,Qd,Qe,Qf,Qg,Qh,Qi,Qj,Qk,reduceCtorEq,reduceIte,q1]
theorem f23(a:t7)(n:Nat)(hn:n<=1000000):call T 23 [.byt a .no,.int .i64 n] [] 0=some ⟨.byt (a.take n) .no,[],[]⟩:=by
 rw[an xox]
 by_cases h:n<a.length
 ·have y:(n:Int)<(a.length:Int):=by omega
  have z:n<=a.length:=by omega
  simp only[go_sem,Q0,Q1,Q2,Q3,Q4,Q5,Q6,Q7,Q8,Q9,Qa,Qb,Qc,Qd,Qe,Qf,Qg,Qh,Qi,Qj,Qk,reduceCtorEq,reduceIte,h,y,z]
 ·have y:¬(n:Int)<(a.length:Int):=by omega
  rw[bB (by omega)];simp only[go_sem,Q0,Q1,Q2,Q3,Q4,Q5,Q6,Q7,Q8,Q9,Qa,Qb,Qc,Qd,Qe,Qf,Qg,Qh,Qi,Qj,Qk,reduceCtorEq,reduceIte,h,y]
end Go.Proofs.YtkcjdeofknkndaaGreatDoor
