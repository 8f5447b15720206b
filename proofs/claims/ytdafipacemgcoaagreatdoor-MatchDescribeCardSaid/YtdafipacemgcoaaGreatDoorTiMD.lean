/- Contracts. No condition. -/
import Derived.Test.YtdafipacemgcoaaGreatDoorTgMD
import Derived.Test.YtdafipacemgcoaaGreatDoorThMD
open Int renaming natCast_zero -> aH, toNat_natCast -> gP
open Go.IntKind renaming i64 -> aj
open List renaming drop_eq_getElem_cons -> aU, drop_length -> bh, drop_zero -> bi, getD_cons_succ -> bF, getD_cons_zero -> bp, getD_eq_getElem?_getD -> aa, getElem?_eq_getElem -> af, getElem_of_mem -> bl, length_append -> ah, length_cons -> av, length_map -> aQ, map_append -> dh
open Nat renaming lt_or_ge -> bH, zero_add -> bC, zero_le -> cu
set_option maxRecDepth 100000
set_option maxHeartbeats 16000000
set_option linter.unusedSimpArgs false
set_option linter.unusedVariables false
namespace Go.Proofs.YtdafipacemgcoaaGreatDoor
open Go.Sy
open UInt8 renaming reduceLT -> Q0, reduceLE -> Q1
open Int renaming reduceToNat -> Q2, reduceLE -> Q3, reduceLT -> Q4, reduceEq -> Q5, reduceNe -> Q6, reduceNeg -> Q7, reduceAdd -> Q8, reduceSub -> Q9, reduceMul -> Qa
open Nat renaming reducePow -> Qb, reduceDiv -> Qc, reduceMod -> Qd, reduceAdd -> Qe, reduceSub -> Qf, reduceMul -> Qg, reduceLT -> Qh, reduceLeDiff -> Qi, reduceEqDiff -> Qj, reduceBEq -> Qk
def hZ{α:Type}(p:α->Bool):List α->Nat->Int
 |[],_=> -1
 |x::r,i=>if p x=true then(i:Int)else hZ p r (i+1)
def itE(e:Ev)(x:Ent):Bool:=decide (e.reg=oa x.role)&&(decide (e.dg.getD 1 []=x.dig)&&decide (e.data=uD x.name x.ver))
def D4(x:Ent):Prop:=0<=x.ver/\x.ver<=1000000/\x.name.length<=1000000
theorem Ql{l:List Ent}{i:Nat}(h:mj l i=0):1<=(l.getD i en0).role/\(l.getD i en0).role<=3/\0<=(l.getD i en0).ver/\(l.getD i en0).ver<=1000000/\(l.getD i en0).dig.length=32/\Pr.nameB (l.getD i en0).name=true:=by
 unfold mj at h;generalize l.getD i en0=x at*
 repeat' split at h
 all_goals first|omega|skip
 all_goals (refine⟨by omega,by omega,by omega,by omega,by omega,by assumption⟩)
theorem uN(l:List Ent):∀(n i:Nat),iv l n i=0->∀k,i<=k->k<i+n->mj l k=0
 |0,i,_,k,h1,h2=>by omega
 |n+1,i,h,k,h1,h2=>by
  unfold iv at h
  by_cases z:mj l i=0
  ·rw[if_pos z]at h
   rcases bH i k with B|B
   ·exact uN l n (i+1) h k (by omega) (by omega)
   ·have:k=i:=by omega
    rw[this];exact z
  ·rw[if_neg z]at h;exact absurd h z
theorem Pv{m:Man}(h:js m=0):iv m.ents m.ents.length 0=0/\lK m.ruls=0/\m.ents.length<=16/\m.ruls.length<=8/\Pr.nameB m.vendor=true/\0<=m.flr/\m.flr<=m.ver/\m.ver<=1000000/\0<=m.frm/\m.frm<m.til/\m.til<=1099511627776:=by
 unfold js at h
 by_cases z:Pr.nameB m.vendor=true
 ·rw[if_pos z]at h
  repeat' split at h
  all_goals first|(exfalso;omega)|skip
  refine⟨by assumption,h,by omega,by omega,z,by omega,by omega,by omega,by omega,by omega,by omega⟩
 ·rw[if_neg z]at h;omega
theorem Pu{m:Man}(h:js m=0):∀x∈m.ents,1<=x.role/\x.role<=3/\D4 x/\x.dig.length=32/\Pr.nameB x.name=true:=by
 intro x B;obtain⟨i,hi,rfl⟩:=bl B;have z:=Ql (uN m.ents _ 0 (Pv h).1 i (cu _) (by omega));have e:m.ents.getD i en0=m.ents[i]:=by rw[aa,af hi];rfl
 rw[e]at z;obtain⟨a,b,c,d,f,g⟩:=z;have:=ks g;exact⟨a,b,⟨c,d,by omega⟩,f,g⟩
theorem f46(e:Ev)(x:Ent)(hd:e.dg.length=2)(O:D4 x):call T 46 [.agg x.sv,.ptr 0 0] [.rc e.sv] 0=some ⟨.bool (itE e x),[(0,.rc e.sv)],[]⟩:=by
 obtain⟨L,h1,Q⟩:=O;have B:=f47 x.role;have h:=f48 (e.dg.getD 1 []) x.dig;obtain⟨v,I⟩:=Int.eq_ofNat_of_zero_le L;have J:=f49 v (by omega);have W:=kh 6 v (by omega);obtain⟨g,k,F,b⟩:=e;obtain⟨U,H,Z,S⟩:=x;simp only at hd I Q B h;subst I;rw[two F [] hd]at*;generalize F.getD 0 []=d0 at*;generalize F.getD 1 []=d1 at*;have E:bls [d0,d1]=[[.byt d0 .no],[.byt d1 .no]]:=rfl;simp only[bp,bF]at h;rw[az xk5];unfold itE Ev.sv Ent.sv uD;have c1:H.length+1<=9223372036854775807:=by omega
 have c2:H.length+1+(dec v).length<=9223372036854775807:=by omega
 simp only[E,bp,bF,gP]
 by_cases C:g=oa U
 ·by_cases z:d1=S
  ·rw[decide_eq_true z]at h
   simp only[go_sem,Q0,Q1,Q2,Q3,Q4,Q5,Q6,Q7,Q8,Q9,Qa,Qb,Qc,Qd,Qe,Qf,Qg,Qh,Qi,Qj,Qk,reduceCtorEq,reduceIte,B,Eu,C,h,vf,J,xlB,c1,c2,decide_eq_true z]
  ·rw[decide_eq_false z]at h
   simp only[go_sem,Q0,Q1,Q2,Q3,Q4,Q5,Q6,Q7,Q8,Q9,Qa,Qb,Qc,Qd,Qe,Qf,Qg,Qh,Qi,Qj,Qk,reduceCtorEq,reduceIte,B,Eu,C,h,vf,decide_eq_false z]
 ·simp only[go_sem,Q0,Q1,Q2,Q3,Q4,Q5,Q6,Q7,Q8,Q9,Qa,Qb,Qc,Qd,Qe,Qf,Qg,Qh,Qi,Qj,Qk,reduceCtorEq,reduceIte,B,Eu,C]
theorem l45(e:Ev)(h:List Ent)(hd:e.dg.length=2)(L:∀x∈h,D4 x)(hn:h.length<=1000000):∀(n i:Nat),h.length-i=n->i<=h.length->
 run T (.loop Nr) ⟨[(0,.lst 4 (cO h) .no),(1,.fn 46 [] [.ptr 0 0]),(7,.int .i64 h.length),(8,.int .i64 i)],[(0,.rc e.sv)],[]⟩=
 if hZ (itE e) (h.drop i) i= -1 then some (.x 0,⟨[],[(0,.rc e.sv)],[]⟩)else some (.r,⟨[(4,.int .i64 (hZ (itE e) (h.drop i) i))],[(0,.rc e.sv)],[]⟩):=by
 intro n;induction n with
 |zero=>
  intro i J S;have:i=h.length:=by omega
  subst this;rw[al,bh];simp only[go_sem,Q0,Q1,Q2,Q3,Q4,Q5,Q6,Q7,Q8,Q9,Qa,Qb,Qc,Qd,Qe,Qf,Qg,Qh,Qi,Qj,Qk,reduceCtorEq,reduceIte,hZ]
 |succ n W=>
  intro i J S;have hi:i<h.length:=by omega
  have E:=cA i (by omega);have z:=W (i+1) (by omega) (by omega);have F:=dd h;have H:=eE h i hi;have g:=f46 e (h.getD i en0) hd (L _ (cJ h en0 i hi));have B:h.drop i=h.getD i en0::h.drop (i+1):=by rw[aU hi,aa,af hi];rfl
  rw[B];generalize h.drop (i+1)=R at*;generalize h.getD i en0=x at*;obtain⟨O,I,U,Q⟩:=x;simp only[Ev.sv,Ent.sv]at*;rw[al];unfold hZ;cases hb:itE e ⟨O,I,U,Q⟩with
  |true=>
   rw[hb]at g;have C:¬(i:Int)= -1:=by omega
   simp only[go_sem,Q0,Q1,Q2,Q3,Q4,Q5,Q6,Q7,Q8,Q9,Qa,Qb,Qc,Qd,Qe,Qf,Qg,Qh,Qi,Qj,Qk,reduceCtorEq,reduceIte,hi,E,F,H,g,xiQ,C]
  |false=>rw[hb]at g;simp only[go_sem,Q0,Q1,Q2,Q3,Q4,Q5,Q6,Q7,Q8,Q9,Qa,Qb,Qc,Qd,Qe,Qf,Qg,Qh,Qi,Qj,Qk,reduceCtorEq,reduceIte,hi,E,F,H,g,xiQ,z]
theorem f45(e:Ev)(z:List Ent)(hd:e.dg.length=2)(E:∀x∈z,D4 x)(hn:z.length<=1000000):
 call T 45 [.lst 4 (cO z) .no,.fn 46 [] [.ptr 0 0]] [.rc e.sv] 0=some ⟨.int .i64 (hZ (itE e) z 0),[(0,.rc e.sv)],[]⟩:=by
 have h:=l45 e z hd E hn _ 0 rfl (by omega);simp only[aH,bi]at h;have C:=dd z;rw[az xk6];unfold Ev.sv at h ⊢
 by_cases B:hZ (itE e) z 0= -1
 ·rw[if_pos B]at h
  simp only[go_sem,Q0,Q1,Q2,Q3,Q4,Q5,Q6,Q7,Q8,Q9,Qa,Qb,Qc,Qd,Qe,Qf,Qg,Qh,Qi,Qj,Qk,reduceCtorEq,reduceIte,C,h,B]
 ·rw[if_neg B]at h
  simp only[go_sem,Q0,Q1,Q2,Q3,Q4,Q5,Q6,Q7,Q8,Q9,Qa,Qb,Qc,Qd,Qe,Qf,Qg,Qh,Qi,Qj,Qk,reduceCtorEq,reduceIte,C,h]
def alR(b:t6)(r:Rul):Bool:=alw r.kind r.text r.lo r.hi b
theorem f52(e:Ev)(r:Rul)(z:r.text.length<=1000000)(C:e.data.length<=1000000):call T 52 [.agg r.sv,.ptr 0 0] [.rc e.sv] 0=some ⟨.bool (alR e.data r),[(0,.rc e.sv)],[]⟩:=by have g:=f53 r.kind r.text r.lo r.hi e.data (by omega) (by omega);obtain⟨h,k,B,b⟩:=e;obtain⟨q,t,lo,hi⟩:=r;rw[az xkZ];unfold alR Ev.sv Rul.sv;simp only[go_sem,Q0,Q1,Q2,Q3,Q4,Q5,Q6,Q7,Q8,Q9,Qa,Qb,Qc,Qd,Qe,Qf,Qg,Qh,Qi,Qj,Qk,reduceCtorEq,reduceIte,g,xlA]
theorem l51(e:Ev)(rs:List Rul)(h:e.data.length<=1000000)(L:∀x∈rs,x.text.length<=1000000)(hn:rs.length<=1000000):∀(n i:Nat),rs.length-i=n->i<=rs.length->
 run T (.loop Np) ⟨[(0,.lst 4 (kK rs) .no),(1,.fn 52 [] [.ptr 0 0]),(7,.int .i64 rs.length),(8,.int .i64 i)],[(0,.rc e.sv)],[]⟩=
 if hZ (alR e.data) (rs.drop i) i= -1 then some (.x 0,⟨[],[(0,.rc e.sv)],[]⟩)else some (.r,⟨[(4,.int .i64 (hZ (alR e.data) (rs.drop i) i))],[(0,.rc e.sv)],[]⟩):=by
 intro n;induction n with
 |zero=>
  intro i J O;have:i=rs.length:=by omega
  subst this;rw[al,bh];simp only[go_sem,Q0,Q1,Q2,Q3,Q4,Q5,Q6,Q7,Q8,Q9,Qa,Qb,Qc,Qd,Qe,Qf,Qg,Qh,Qi,Qj,Qk,reduceCtorEq,reduceIte,hZ]
 |succ n Q=>
  intro i J O;have hi:i<rs.length:=by omega
  have F:=cA i (by omega);have z:=Q (i+1) (by omega) (by omega);have H:=iZ rs;have I:=oX rs i hi;have g:=f52 e (rs.getD i rl0) (L _ (cJ rs rl0 i hi)) h;have B:rs.drop i=rs.getD i rl0::rs.drop (i+1):=by rw[aU hi,aa,af hi];rfl
  rw[B];generalize rs.drop (i+1)=R at*;generalize rs.getD i rl0=x at*;obtain⟨q,t,lo,E⟩:=x;simp only[Ev.sv,Rul.sv]at*;rw[al];unfold hZ;cases h:alR e.data ⟨q,t,lo,E⟩with
  |true=>
   rw[h]at g;have C:¬(i:Int)= -1:=by omega
   simp only[go_sem,Q0,Q1,Q2,Q3,Q4,Q5,Q6,Q7,Q8,Q9,Qa,Qb,Qc,Qd,Qe,Qf,Qg,Qh,Qi,Qj,Qk,reduceCtorEq,reduceIte,hi,F,H,I,g,xiO,C]
  |false=>rw[h]at g;simp only[go_sem,Q0,Q1,Q2,Q3,Q4,Q5,Q6,Q7,Q8,Q9,Qa,Qb,Qc,Qd,Qe,Qf,Qg,Qh,Qi,Qj,Qk,reduceCtorEq,reduceIte,hi,F,H,I,g,xiO,z]
theorem f51(e:Ev)(rs:List Rul)(E:e.data.length<=1000000)(C:∀x∈rs,x.text.length<=1000000)(hn:rs.length<=1000000):
 call T 51 [.lst 4 (kK rs) .no,.fn 52 [] [.ptr 0 0]] [.rc e.sv] 0=some ⟨.int .i64 (hZ (alR e.data) rs 0),[(0,.rc e.sv)],[]⟩:=by
 have h:=l51 e rs E C hn _ 0 rfl (by omega);simp only[aH,bi]at h;have B:=iZ rs;rw[az xk0];unfold Ev.sv at h ⊢
 by_cases z:hZ (alR e.data) rs 0= -1
 ·rw[if_pos z]at h
  simp only[go_sem,Q0,Q1,Q2,Q3,Q4,Q5,Q6,Q7,Q8,Q9,Qa,Qb,Qc,Qd,Qe,Qf,Qg,Qh,Qi,Qj,Qk,reduceCtorEq,reduceIte,B,h,z]
 ·rw[if_neg z]at h
  simp only[go_sem,Q0,Q1,Q2,Q3,Q4,Q5,Q6,Q7,Q8,Q9,Qa,Qb,Qc,Qd,Qe,Qf,Qg,Qh,Qi,Qj,Qk,reduceCtorEq,reduceIte,B,h]
theorem Cb{α:Type}(p:α->Bool):∀(l:List α)(i:Nat),hZ p l i= -1\/((i:Int)<=hZ p l i/\hZ p l i<i+l.length)
 |[],_=> .inl rfl
 |x::r,i=>by
  unfold hZ
  by_cases h:p x=true
  ·rw[if_pos h,av];right;omega
  ·rw[if_neg h,av]
   rcases Cb p r (i+1)with h|h
   ·exact .inl h
   ·right;omega
structure Ey(e:Ev):Prop where
 d2:e.dg.length=2
 b:e.data.length<=1000000
 d0:(e.dg.getD 0 []).length<=1000000
 d1:(e.dg.getD 1 []).length<=1000000
def fq(m:Man)(e:Ev):Int:=
 if js m=0 then
  (if e.kind=1 then hZ (itE e) m.ents 0
  else if e.kind=3 then(if e.reg=9 then(if q9 e=true then(if 0<=hZ (alR e.data) m.ruls 0 then(m.ents.length:Int)+hZ (alR e.data) m.ruls 0 else-1)else-1)else-1)
  else-1)
 else-1
theorem f15(m:Man)(E:jL m)(e:Ev)(H:Ey e):call T 15 [.agg m.sv,.agg e.sv] [] 0=some ⟨.int .i64 (fq m e),[],[]⟩:=by
 have C:=f44 m E;have F:=f47 4;have W:oa 4=9:=rfl;have I:=f50 e H.d2 H.b;have O:=f51 e m.ruls H.b E.r E.rn;have hr:=Cb (alR e.data) m.ruls 0;have hv:=dd m.ents;have a0:=E.en;have a1:=E.rn;rw[W]at F;have g2:js m=0->call T 45 [.lst 4 (cO m.ents) .no,.fn 46 [] [.ptr 0 0]] [.rc e.sv] 0=some ⟨.int .i64 (hZ (itE e) m.ents 0),[(0,.rc e.sv)],[]⟩:=fun h=>f45 e m.ents H.d2 (fun x hx=>(Pu h x hx).2.2.1) E.en
 clear E H;obtain⟨mv,m1,m2,m3,m4,L,rs⟩:=m;obtain⟨Z,k,ds,b⟩:=e;rw[az xln];unfold fq;simp only[Man.sv,Ev.sv]at*
 by_cases B:js ⟨mv,m1,m2,m3,m4,L,rs⟩=0
 ·have J:=g2 B
  rw[B]at C
  by_cases U:k=1
  ·subst U
   simp only[go_sem,Q0,Q1,Q2,Q3,Q4,Q5,Q6,Q7,Q8,Q9,Qa,Qb,Qc,Qd,Qe,Qf,Qg,Qh,Qi,Qj,Qk,reduceCtorEq,reduceIte,C,rp,B,J,xlC]
  ·by_cases S:k=3
   ·subst S
    by_cases Q:Z=9
    ·subst Q
     cases hc:q9 ⟨9,3,ds,b⟩with
     |false=>rw[hc]at I;simp only[go_sem,Q0,Q1,Q2,Q3,Q4,Q5,Q6,Q7,Q8,Q9,Qa,Qb,Qc,Qd,Qe,Qf,Qg,Qh,Qi,Qj,Qk,reduceCtorEq,reduceIte,C,rp,B,F,Eu,I,MZ]
     |true=>
      rw[hc]at I;generalize hZ (alR b) rs 0=z at*
      by_cases hz:0<=z
      ·have ew:aj.wrap ((L.length:Int)+z)=(L.length:Int)+z:=w64 (by omega) (by omega)
       simp only[go_sem,Q0,Q1,Q2,Q3,Q4,Q5,Q6,Q7,Q8,Q9,Qa,Qb,Qc,Qd,Qe,Qf,Qg,Qh,Qi,Qj,Qk,reduceCtorEq,reduceIte,C,rp,B,F,Eu,I,MZ,O,xiP,hz,hv,ew]
      ·simp only[go_sem,Q0,Q1,Q2,Q3,Q4,Q5,Q6,Q7,Q8,Q9,Qa,Qb,Qc,Qd,Qe,Qf,Qg,Qh,Qi,Qj,Qk,reduceCtorEq,reduceIte,C,rp,B,F,Eu,I,MZ,O,xiP,hz]
    ·simp only[go_sem,Q0,Q1,Q2,Q3,Q4,Q5,Q6,Q7,Q8,Q9,Qa,Qb,Qc,Qd,Qe,Qf,Qg,Qh,Qi,Qj,Qk,reduceCtorEq,reduceIte,C,rp,B,F,Eu,Q]
   ·simp only[go_sem,Q0,Q1,Q2,Q3,Q4,Q5,Q6,Q7,Q8,Q9,Qa,Qb,Qc,Qd,Qe,Qf,Qg,Qh,Qi,Qj,Qk,reduceCtorEq,reduceIte,C,rp,B,U,S]
 ·simp only[go_sem,Q0,Q1,Q2,Q3,Q4,Q5,Q6,Q7,Q8,Q9,Qa,Qb,Qc,Qd,Qe,Qf,Qg,Qh,Qi,Qj,Qk,reduceCtorEq,reduceIte,C,rp,B]


def mn0:Man:=⟨[],0,0,0,0,[],[]⟩
def ld(l:List Man):f8:=l.map Man.sv
theorem kb(l:List Man):(ld l).length=l.length:=aQ ..
theorem oZ(l:List Man)(i:Nat)(h:i<l.length):(ld l).getD i []=(l.getD i mn0).sv:=by simp[ld,aa,h]
structure p6(ms:List Man):Prop where
 n:ms.length<=1000000
 m:∀m∈ms,jL m
def frM(e:Ev):List Man->Nat->Option (Int×Int)
 |[],_=>none
 |m::r,i=>if 0<=fq m e then some ((i:Int),fq m e)else frM e r (i+1)
def hC(h:List Man)(e:Ev):Option (Int×Int):=if e.kind=5 then some (-1, -1)else if e.kind=2 then(if q9 e=true then some (-1, -1)else frM e h 0)else frM e h 0
theorem mL{α:Type}(l:List α)(d:α)(i:Nat)(h:i<l.length):l.drop i=l.getD i d::l.drop (i+1):=by rw[aU h,aa,af h];rfl
theorem l40(e:Ev)(Z:Ey e)(B:List Man)(U:p6 B):∀(n i:Nat),B.length-i=n->i<=B.length->
 (frM e (B.drop i) i=none->run T (.loop s9) ⟨[(2,.ptr 102 0),(4,.ptr 104 0),(22,.lst 7 (ld B) .no),(23,.int .i64 B.length),(24,.int .i64 i)],[(102,.rc e.sv),(104,.rc [.int .i64 0,.int .i64 0])],[]⟩=
  some (.x 0,⟨[(4,.ptr 104 0)],[(102,.rc e.sv),(104,.rc [.int .i64 0,.int .i64 0])],[]⟩))/\
 (∀p,frM e (B.drop i) i=some p->∃o,run T (.loop s9) ⟨[(2,.ptr 102 0),(4,.ptr 104 0),(22,.lst 7 (ld B) .no),(23,.int .i64 B.length),(24,.int .i64 i)],[(102,.rc e.sv),(104,.rc [.int .i64 0,.int .i64 0])],[]⟩=
  some (.r,⟨[(4,.ptr 104 0),(5,.bool true)],[(102,.rc e.sv),(104,.rc [.int .i64 p.1,.int .i64 p.2]),(107,o)],[]⟩)):=by
 intro n;induction n with
 |zero=>
  intro i hz h1;have hi:i=B.length:=by omega
  have C:=kb B;subst hi;rw[bh];refine⟨fun _=> ?_,fun p h=>(by cases h)⟩;rw[al];simp only[go_sem,Q0,Q1,Q2,Q3,Q4,Q5,Q6,Q7,Q8,Q9,Qa,Qb,Qc,Qd,Qe,Qf,Qg,Qh,Qi,Qj,Qk,reduceCtorEq,reduceIte,C]
 |succ n ih=>
  intro i hz h1;have hi:i<B.length:=by omega
  have hn:=U.n;have H:=cA i (by omega);obtain⟨i1,i2⟩:=ih (i+1) (by omega) (by omega);have C:=kb B;have L:=oZ B i hi;have g:=f15 (B.getD i mn0) (U.m _ (cJ B mn0 i hi)) e Z;rw[mL B mn0 i hi];generalize B.drop (i+1)=R at*;generalize B.getD i mn0=m at*;obtain⟨O,Q,S,m3,m4,W,rs⟩:=m;unfold frM;generalize fq ⟨O,Q,S,m3,m4,W,rs⟩ e=z at*;obtain⟨g',k,ds,b⟩:=e;simp only[Man.sv,Ev.sv]at*
  by_cases h:0<=z
  ·rw[if_pos h]
   refine⟨fun F=>(by cases F),fun p I=> ?_⟩;cases I;refine⟨.rc [.str O,.int .i64 Q,.int .i64 S,.int .i64 m3,.int .i64 m4,.lst 4 (cO W) .no,.lst 4 (kK rs) .no], ?_⟩;rw[al];simp only[go_sem,Q0,Q1,Q2,Q3,Q4,Q5,Q6,Q7,Q8,Q9,Qa,Qb,Qc,Qd,Qe,Qf,Qg,Qh,Qi,Qj,Qk,reduceCtorEq,reduceIte,hi,H,C,L,g,Rd,h]
  ·rw[if_neg h]
   refine⟨fun F=> ?_,fun p I=> ?_⟩
   ·have E:=i1 F
    rw[al];simp only[go_sem,Q0,Q1,Q2,Q3,Q4,Q5,Q6,Q7,Q8,Q9,Qa,Qb,Qc,Qd,Qe,Qf,Qg,Qh,Qi,Qj,Qk,reduceCtorEq,reduceIte,hi,H,C,L,g,Rd,h,E]
   ·obtain⟨o,J⟩:=i2 p I
    refine⟨o, ?_⟩;rw[al];simp only[go_sem,Q0,Q1,Q2,Q3,Q4,Q5,Q6,Q7,Q8,Q9,Qa,Qb,Qc,Qd,Qe,Qf,Qg,Qh,Qi,Qj,Qk,reduceCtorEq,reduceIte,hi,H,C,L,g,Rd,h,J]
def uk:Option (Int×Int)->SV
 |some p=> .tup [.agg [.int .i64 p.1,.int .i64 p.2],.bool true]
 |none=> .tup [.agg [.int .i64 0,.int .i64 0],.bool false]
theorem f40(e:Ev)(E:Ey e)(h:List Man)(Q:p6 h):call T 40 [.agg e.sv,.lst 7 (ld h) .no] [] 0=some ⟨uk (hC h e),[],[]⟩:=by
 have gc:=f50 e E.d2 E.b;obtain⟨O,L⟩:=l40 e E h Q _ 0 rfl (by omega);have C:=kb h;rw[az xk8];clear E;unfold hC;obtain⟨H,k,J,b⟩:=e;simp only[Ev.sv,aH,bi]at*
 by_cases F:k=5
 ·subst F
  simp only[go_sem,Q0,Q1,Q2,Q3,Q4,Q5,Q6,Q7,Q8,Q9,Qa,Qb,Qc,Qd,Qe,Qf,Qg,Qh,Qi,Qj,Qk,reduceCtorEq,reduceIte,uk]
 by_cases I:k=2
 ·subst I
  cases hc:q9 ⟨H,2,J,b⟩with
  |true=>rw[hc]at gc;simp only[go_sem,Q0,Q1,Q2,Q3,Q4,Q5,Q6,Q7,Q8,Q9,Qa,Qb,Qc,Qd,Qe,Qf,Qg,Qh,Qi,Qj,Qk,reduceCtorEq,reduceIte,uk,gc,MZ]
  |false=>
   rw[hc]at gc;cases hf:frM ⟨H,2,J,b⟩ h 0 with
   |none=>have z:=O hf;simp only[go_sem,Q0,Q1,Q2,Q3,Q4,Q5,Q6,Q7,Q8,Q9,Qa,Qb,Qc,Qd,Qe,Qf,Qg,Qh,Qi,Qj,Qk,reduceCtorEq,reduceIte,uk,gc,MZ,C,z]
   |some p=>obtain⟨o,B⟩:=L p hf;simp only[go_sem,Q0,Q1,Q2,Q3,Q4,Q5,Q6,Q7,Q8,Q9,Qa,Qb,Qc,Qd,Qe,Qf,Qg,Qh,Qi,Qj,Qk,reduceCtorEq,reduceIte,uk,gc,MZ,C,B]
 ·cases hf:frM ⟨H,k,J,b⟩ h 0 with
   |none=>have z:=O hf;simp only[go_sem,Q0,Q1,Q2,Q3,Q4,Q5,Q6,Q7,Q8,Q9,Qa,Qb,Qc,Qd,Qe,Qf,Qg,Qh,Qi,Qj,Qk,reduceCtorEq,reduceIte,uk,F,I,C,z]
   |some p=>obtain⟨o,B⟩:=L p hf;simp only[go_sem,Q0,Q1,Q2,Q3,Q4,Q5,Q6,Q7,Q8,Q9,Qa,Qb,Qc,Qd,Qe,Qf,Qg,Qh,Qi,Qj,Qk,reduceCtorEq,reduceIte,uk,F,I,C,B]
def rsv(l:List (Int×Int)):f8:=l.map fun p=> [.int .i64 p.1,.int .i64 p.2]
theorem kJ(l:List (Int×Int)):(rsv l).length=l.length:=aQ ..
theorem rK(l:List (Int×Int))(i:Nat)(h:i<l.length):(rsv l).getD i []=[.int .i64 (l.getD i (0,0)).1,.int .i64 (l.getD i (0,0)).2]:=by simp[rsv,aa,h]
theorem Fg(l:List (Int×Int))(p:Int×Int):rsv l++ [[.int .i64 p.1,.int .i64 p.2]]=rsv (l++ [p]):=by rw[rsv,rsv,dh];rfl
structure ExR where
 w:Wk
 at':Nat
 rs:List (Int×Int)
 err:Int
def exW(h:List Man):List Ev->Wk->Nat->List (Int×Int)->ExR
 |[],w,i,rs=>⟨w,i,rs,0⟩
 |e::r,w,i,rs=>if okW w e=true then(match hC h e with|some p=>exW h r (stW w e) (i+1) (rs++ [p])|none=>⟨w,i,rs,47⟩)else⟨w,i,rs,41⟩
structure nA(evs:List Ev):Prop where
 n:evs.length<=1000000
 e:∀e∈evs,Ey e
theorem nA.get{z:List Ev}(h:nA z){i:Nat}(hi:i<z.length):Ey (z.getD i ev0):=h.e _ (cJ z ev0 i hi)
def vr(a z:Int)(h:List Ev)(B:List Man)(w:Wk)(i:Nat)(rs:List (Int×Int)):CSt:=
 ⟨[(1,.lst 7 (ld B) .no),(2,.ptr 102 0),(4,.lst 2 (rsv rs) (.id 104)),(7,.ptr 107 0),(13,.lst 4 (eG h) .no),(14,.int .i64 h.length),(15,.int .i64 i)],[(102,.rc [.int .i64 a,.int .i64 z,.lst 4 (eG h) .no]),(107,.rc w.sv)],[104]⟩
theorem l12(a z:Int)(B:List Ev)(W:nA B)(C:List Man)(hm:p6 C):∀(n i:Nat)(w:Wk)(rs:List (Int×Int)),B.length-i=n->i<=B.length->rs.length=i->
 ((
  exW C (B.drop i) w i rs).err=0->run T (.loop te) (vr a z B C w i rs)=
  some (.x 0,⟨[(2,.ptr 102 0),(4,.lst 2 (rsv (exW C (B.drop i) w i rs).rs) (.id 104)),(7,.ptr 107 0)],[(102,.rc [.int .i64 a,.int .i64 z,.lst 4 (eG B) .no]),(107,.rc (exW C (B.drop i) w i rs).w.sv)],[104]⟩))/\
 ((
  exW C (B.drop i) w i rs).err≠0->∃ob,run T (.loop te) (vr a z B C w i rs)=
  some (.r,⟨[(4,.lst 2 (rsv (exW C (B.drop i) w i rs).rs) (.id 104)),(5,.int .i64 (exW C (B.drop i) w i rs).at'),(6,.int .i64 (exW C (B.drop i) w i rs).err)],ob,[104]⟩)):=by
 intro n;induction n with
 |zero=>
  intro i w rs Z h1 U;have hi:i=B.length:=by omega
  subst hi;have L:=gE B;rw[bh];refine⟨fun _=> ?_,fun h=>absurd rfl h⟩;unfold vr;rw[al];simp only[go_sem,Q0,Q1,Q2,Q3,Q4,Q5,Q6,Q7,Q8,Q9,Qa,Qb,Qc,Qd,Qe,Qf,Qg,Qh,Qi,Qj,Qk,reduceCtorEq,reduceIte,exW]
 |succ n ih=>
  intro i w rs Z h1 U;have hi:i<B.length:=by omega
  have hn:=W.n;have O:=cA i (by omega);have g:=f39 w (B.getD i ev0);have E:=f40 (B.getD i ev0) (W.get hi) C hm;have F:=qV B i hi;have L:=gE B;have H:=kJ rs;have b1:(rs.length+1)*16<=140737488355328:=by omega
  rw[uL B i hi];generalize B.getD i ev0=e at*;unfold exW;cases ho:okW w e with
  |false=>rw[if_neg (by simp)];rw[ho,xar ho]at g;refine⟨fun h=>by simp at h,fun _=>⟨[(102,.rc [.int .i64 a,.int .i64 z,.lst 4 (eG B) .no]),(107,.rc w.sv),(109,.rc e.sv)], ?_⟩⟩;unfold vr;simp only[Ev.sv,Wk.sv]at F g ⊢;rw[al];simp only[go_sem,Q0,Q1,Q2,Q3,Q4,Q5,Q6,Q7,Q8,Q9,Qa,Qb,Qc,Qd,Qe,Qf,Qg,Qh,Qi,Qj,Qk,reduceCtorEq,reduceIte,hi,O,F,L,YQ,g]
  |true=>
   rw[if_pos rfl];rw[ho]at g;cases hr:hC C e with
   |none=>rw[hr]at E;refine⟨fun h=>by simp at h,fun _=>⟨[(102,.rc [.int .i64 a,.int .i64 z,.lst 4 (eG B) .no]),(107,.rc (stW w e).sv),(109,.rc e.sv),(110,.rc [.int .i64 0,.int .i64 0])], ?_⟩⟩;unfold vr;simp only[Ev.sv,Wk.sv,uk]at F g E ⊢;rw[al];simp only[go_sem,Q0,Q1,Q2,Q3,Q4,Q5,Q6,Q7,Q8,Q9,Qa,Qb,Qc,Qd,Qe,Qf,Qg,Qh,Qi,Qj,Qk,reduceCtorEq,reduceIte,hi,O,F,L,YQ,g,E,xdB]
   |some p=>
    rw[hr]at E;obtain⟨S,Q⟩:=ih (i+1) (stW w e) (rs++ [p]) (by omega) (by omega) (by rw[ah,U];rfl);unfold vr at S Q;rw[<-Fg rs p]at S Q;refine⟨fun h=> ?_,fun h=> ?_⟩
    ·have I:=S h
     unfold vr;simp only[Ev.sv,Wk.sv,uk]at F g E I ⊢;rw[al];simp only[go_sem,Q0,Q1,Q2,Q3,Q4,Q5,Q6,Q7,Q8,Q9,Qa,Qb,Qc,Qd,Qe,Qf,Qg,Qh,Qi,Qj,Qk,reduceCtorEq,reduceIte,hi,O,F,L,YQ,g,E,xdB,H,b1,I]
    ·obtain⟨ob,J⟩:=Q h
     refine⟨ob, ?_⟩;unfold vr;simp only[Ev.sv,Wk.sv,uk]at F g E J ⊢;rw[al];simp only[go_sem,Q0,Q1,Q2,Q3,Q4,Q5,Q6,Q7,Q8,Q9,Qa,Qb,Qc,Qd,Qe,Qf,Qg,Qh,Qi,Qj,Qk,reduceCtorEq,reduceIte,hi,O,F,L,YQ,g,E,xdB,H,b1,J]
theorem MR(z:List Man):∀(l:List Ev)(w:Wk)(i:Nat)(rs:List (Int×Int)),(exW z l w i rs).err=0->(exW z l w i rs).at'=i+l.length
 |[],w,i,rs,_=>rfl
 |e::r,w,i,rs,h=>by
  unfold exW at h ⊢
  by_cases B:okW w e=true
  ·rw[if_pos B]at h ⊢
   cases hr:hC z e with
   |none=>rw[hr]at h;simp at h
   |some p=>rw[hr]at h;simp only at h ⊢;rw[MR z r _ _ _ h,av];omega
  ·rw[if_neg B]at h;simp at h
def exV(h:List Ev)(z:List Man):ExR:=exW z h w0 0 []
def exE(h:List Ev)(z:List Man):Int:=if(exV h z).err=0 then(if(exV h z).w.s4=true then 0 else 40)else(exV h z).err
def exS(h:List Ev)(z:List Man):SV:= .tup [.lst 2 (rsv (exV h z).rs) .no,.int .i64 (exV h z).at',.int .i64 (exE h z)]
theorem f12(a z:Int)(B:List Ev)(S:nA B)(E:List Man)(U:p6 E):call T 12 [.agg [.int .i64 a,.int .i64 z,.lst 4 (eG B) .no],.lst 7 (ld E) .no] [] 0=some ⟨exS B E,[],[]⟩:=by
 obtain⟨Q,O⟩:=l12 a z B S E U _ 0 w0 [] rfl (by omega) rfl;have H:=MR E B w0 0 [];have I:=gE B;unfold exS exE exV;have F:rsv []=[]:=rfl;simp only[bi,aH,vr,xdO,F]at Q O;rw[az xlo];generalize exW E B w0 0 []=X at*
 by_cases h:X.err=0
 ·have C:=Q h
  have L:=H h;rw[bC]at L;rw[if_pos h,L];simp only[Wk.sv]at C;cases h4:X.w.s4 with
  |true=>rw[h4]at C;simp only[go_sem,Q0,Q1,Q2,Q3,Q4,Q5,Q6,Q7,Q8,Q9,Qa,Qb,Qc,Qd,Qe,Qf,Qg,Qh,Qi,Qj,Qk,reduceCtorEq,reduceIte,I,C]
  |false=>rw[h4]at C;simp only[go_sem,Q0,Q1,Q2,Q3,Q4,Q5,Q6,Q7,Q8,Q9,Qa,Qb,Qc,Qd,Qe,Qf,Qg,Qh,Qi,Qj,Qk,reduceCtorEq,reduceIte,I,C]
 ·obtain⟨ob,J⟩:=O h
  rw[if_neg h];simp only[go_sem,Q0,Q1,Q2,Q3,Q4,Q5,Q6,Q7,Q8,Q9,Qa,Qb,Qc,Qd,Qe,Qf,Qg,Qh,Qi,Qj,Qk,reduceCtorEq,reduceIte,I,J]
end Go.Proofs.YtdafipacemgcoaaGreatDoor
