/- Contracts. No condition. -/
import Derived.Test.YtkcjdeofknkndaaGreatDoorTfDE
import Derived.Test.YtkcjdeofknkndaaGreatDoorTgDE
import Derived.Test.YtkcjdeofknkndaaGreatDoorThDE
open Int renaming fdiv_eq_ediv_of_nonneg -> qP, natCast_zero -> aB
open Go.IntKind renaming i64 -> af, u64 -> aQ, wrap_u64 -> bK
open List renaming append_assoc -> av, append_nil -> bw, cons_append -> bf, drop_eq_getElem_cons -> aM, drop_length -> ba, drop_zero -> aV, flatten_cons -> cE, foldl_cons -> bS, foldl_nil -> fp, getD_cons_succ -> cz, getD_cons_zero -> bZ, getD_eq_getElem?_getD -> aa, getElem?_eq_getElem -> ab, getElem_of_mem -> bY, length_append -> ac, length_cons -> aA, length_drop -> aI, length_nil -> aY, length_singleton -> aH, length_take -> aw, map_cons -> aE, mem_append -> ak, mem_cons -> al, mem_cons_of_mem -> am, mem_cons_self -> ax, mem_singleton -> aZ, nil_append -> aG, take -> dd, take_of_length_le -> bB
open Nat renaming add_assoc -> dH, add_mul -> bA, add_zero -> dL, div_eq_of_lt -> xx, lt_or_ge -> bO, mod_eq_of_lt -> dp, mul_comm -> cm, zero_add -> cj, zero_le -> bH, zero_mul -> gz
open Option renaming some -> aq
open UInt8 renaming ofInt -> ct
set_option maxRecDepth 100000
set_option maxHeartbeats 16000000
set_option linter.unusedSimpArgs false
set_option linter.unusedVariables false
namespace Go.Proofs.YtkcjdeofknkndaaGreatDoor
open Go.Sy
open UInt8 renaming reduceLT -> Q0, reduceLE -> Q1
open Int renaming reduceToNat -> Q2, reduceLE -> Q3, reduceLT -> Q4, reduceEq -> Q5, reduceNe -> Q6, reduceNeg -> Q7, reduceAdd -> Q8, reduceSub -> Q9, reduceMul -> Qa
open Nat renaming reducePow -> Qb, reduceDiv -> Qc, reduceMod -> Qd, reduceAdd -> Qe, reduceSub -> Qf, reduceMul -> Qg, reduceLT -> Qh, reduceLeDiff -> Qi, reduceEqDiff -> Qj, reduceBEq -> Qk
def jB{α:Type}(p:α->Bool):List α->Nat->Int
 |[],_=> -1
 |x::r,i=>if p x=true then(i:Int)else jB p r (i+1)
def itE(e:Ev)(x:Ent):Bool:=decide (e.reg=zP x.role)&&(decide (e.dg.getD 1 []=x.dig)&&decide (e.data=wK x.name x.ver))
def Ef(x:Ent):Prop:=0<=x.ver/\x.ver<=1000000/\x.name.length<=1000000
theorem Sz{l:List Ent}{i:Nat}(h:lG l i=0):1<=(l.getD i en0).role/\(l.getD i en0).role<=3/\0<=(l.getD i en0).ver/\(l.getD i en0).ver<=1000000/\(l.getD i en0).dig.length=32/\Pr.nameB (l.getD i en0).name=true:=by
 unfold lG at h;generalize l.getD i en0=x at*
 repeat' split at h
 all_goals first|omega|skip
 all_goals (refine⟨by omega,by omega,by omega,by omega,by omega,by assumption⟩)
theorem vw(l:List Ent):∀(n i:Nat),gR l n i=0->∀k,i<=k->k<i+n->lG l k=0
 |0,i,_,k,h1,h2=>by omega
 |n+1,i,h,k,h1,h2=>by
  unfold gR at h
  by_cases y:lG l i=0
  ·rw[if_pos y]at h
   rcases bO i k with z|z
   ·exact vw l n (i+1) h k (by omega) (by omega)
   ·have:k=i:=by omega
    rw[this];exact y
  ·rw[if_neg y]at h;exact absurd h y
theorem mq{m:Man}(h:fj m=0):gR m.ents m.ents.length 0=0/\hJ m.ruls=0/\m.ents.length<=16/\m.ruls.length<=8/\Pr.nameB m.vendor=true/\0<=m.flr/\m.flr<=m.ver/\m.ver<=1000000/\0<=m.frm/\m.frm<m.til/\m.til<=1099511627776:=by
 unfold fj at h
 by_cases y:Pr.nameB m.vendor=true
 ·rw[if_pos y]at h
  repeat' split at h
  all_goals first|(exfalso;omega)|skip
  refine⟨by assumption,h,by omega,by omega,y,by omega,by omega,by omega,by omega,by omega,by omega⟩
 ·rw[if_neg y]at h;omega
theorem Cq{m:Man}(h:fj m=0):∀x∈m.ents,1<=x.role/\x.role<=3/\Ef x/\x.dig.length=32/\Pr.nameB x.name=true:=by
 intro x z;obtain⟨i,hi,rfl⟩:=bY z;have y:=Sz (vw m.ents _ 0 (mq h).1 i (bH _) (by omega));have e:m.ents.getD i en0=m.ents[i]:=by rw[aa,ab hi];rfl
 rw[e]at y;obtain⟨a,b,c,d,f,g⟩:=y;have:=gh g;exact⟨a,b,⟨c,d,by omega⟩,f,g⟩
theorem f76(e:Ev)(x:Ent)(hd:e.dg.length=2)(Q:Ef x):call T 76 [.agg x.sv,.ptr 0 0] [.rc e.sv] 0=some ⟨.bool (itE e x),[(0,.rc e.sv)],[]⟩:=by
 obtain⟨O,Z,J⟩:=Q;have y:=f33 x.role;have h:=f77 (e.dg.getD 1 []) x.dig;obtain⟨v,H⟩:=Int.eq_ofNat_of_zero_le O;have L:=f78 v (by omega);have hl:=mh 6 v (by omega);obtain⟨g,k,E,b⟩:=e;obtain⟨U,I,ve,W⟩:=x;simp only at hd H J y h;subst H;rw[two E [] hd]at*;generalize E.getD 0 []=d0 at*;generalize E.getD 1 []=d1 at*;have F:bls [d0,d1]=[[.byt d0 .no],[.byt d1 .no]]:=rfl;simp only[bZ,cz]at h;rw[an xnU];unfold itE Ev.sv Ent.sv wK;have c1:I.length+1<=9223372036854775807:=by omega
 have c2:I.length+1+(dec v).length<=9223372036854775807:=by omega
 simp only[F,bZ,cz,Int.toNat_natCast]
 by_cases C:g=zP U
 ·by_cases z:d1=W
  ·rw[decide_eq_true z]at h
   simp only[go_sem,Q0,Q1,Q2,Q3,Q4,Q5,Q6,Q7,Q8,Q9,Qa,Qb,Qc,Qd,Qe,Qf,Qg,Qh,Qi,Qj,Qk,reduceCtorEq,reduceIte,y,EM,C,h,vI,L,xoK,c1,c2,decide_eq_true z]
  ·rw[decide_eq_false z]at h
   simp only[go_sem,Q0,Q1,Q2,Q3,Q4,Q5,Q6,Q7,Q8,Q9,Qa,Qb,Qc,Qd,Qe,Qf,Qg,Qh,Qi,Qj,Qk,reduceCtorEq,reduceIte,y,EM,C,h,vI,decide_eq_false z]
 ·simp only[go_sem,Q0,Q1,Q2,Q3,Q4,Q5,Q6,Q7,Q8,Q9,Qa,Qb,Qc,Qd,Qe,Qf,Qg,Qh,Qi,Qj,Qk,reduceCtorEq,reduceIte,y,EM,C]
theorem l75(e:Ev)(es:List Ent)(hd:e.dg.length=2)(J:∀x∈es,Ef x)(hn:es.length<=1000000):∀(n i:Nat),es.length-i=n->i<=es.length->
 run T (.loop Pi) ⟨[(0,.lst 4 (bP es) .no),(1,.fn 76 [] [.ptr 0 0]),(7,.int .i64 es.length),(8,.int .i64 i)],[(0,.rc e.sv)],[]⟩=
 if jB (itE e) (es.drop i) i= -1 then some (.x 0,⟨[],[(0,.rc e.sv)],[]⟩)else some (.r,⟨[(4,.int .i64 (jB (itE e) (es.drop i) i))],[(0,.rc e.sv)],[]⟩):=by
 intro n;induction n with
 |zero=>
  intro i I H;have:i=es.length:=by omega
  subst this;rw[ai,ba];simp only[go_sem,Q0,Q1,Q2,Q3,Q4,Q5,Q6,Q7,Q8,Q9,Qa,Qb,Qc,Qd,Qe,Qf,Qg,Qh,Qi,Qj,Qk,reduceCtorEq,reduceIte,jB]
 |succ n U=>
  intro i I H;have hi:i<es.length:=by omega
  have C:=bW i (by omega);have z:=U (i+1) (by omega) (by omega);have E:=bL es;have F:=df es i hi;have g:=f76 e (es.getD i en0) hd (J _ (cf es en0 i hi));have h:es.drop i=es.getD i en0::es.drop (i+1):=by rw[aM hi,aa,ab hi];rfl
  rw[h];generalize es.drop (i+1)=R at*;generalize es.getD i en0=x at*;obtain⟨L,O,W,Q⟩:=x;simp only[Ev.sv,Ent.sv]at*;rw[ai];unfold jB;cases hb:itE e ⟨L,O,W,Q⟩with
  |true=>
   rw[hb]at g;have y:¬(i:Int)= -1:=by omega
   simp only[go_sem,Q0,Q1,Q2,Q3,Q4,Q5,Q6,Q7,Q8,Q9,Qa,Qb,Qc,Qd,Qe,Qf,Qg,Qh,Qi,Qj,Qk,reduceCtorEq,reduceIte,hi,C,E,F,g,xlE,y]
  |false=>rw[hb]at g;simp only[go_sem,Q0,Q1,Q2,Q3,Q4,Q5,Q6,Q7,Q8,Q9,Qa,Qb,Qc,Qd,Qe,Qf,Qg,Qh,Qi,Qj,Qk,reduceCtorEq,reduceIte,hi,C,E,F,g,xlE,z]
theorem f75(e:Ev)(es:List Ent)(hd:e.dg.length=2)(C:∀x∈es,Ef x)(hn:es.length<=1000000):
 call T 75 [.lst 4 (bP es) .no,.fn 76 [] [.ptr 0 0]] [.rc e.sv] 0=some ⟨.int .i64 (jB (itE e) es 0),[(0,.rc e.sv)],[]⟩:=by
 have h:=l75 e es hd C hn _ 0 rfl (by omega);simp only[aB,aV]at h;have z:=bL es;rw[an xnV];unfold Ev.sv at h ⊢
 by_cases y:jB (itE e) es 0= -1
 ·rw[if_pos y]at h
  simp only[go_sem,Q0,Q1,Q2,Q3,Q4,Q5,Q6,Q7,Q8,Q9,Qa,Qb,Qc,Qd,Qe,Qf,Qg,Qh,Qi,Qj,Qk,reduceCtorEq,reduceIte,z,h,y]
 ·rw[if_neg y]at h
  simp only[go_sem,Q0,Q1,Q2,Q3,Q4,Q5,Q6,Q7,Q8,Q9,Qa,Qb,Qc,Qd,Qe,Qf,Qg,Qh,Qi,Qj,Qk,reduceCtorEq,reduceIte,z,h]
def alR(b:t7)(r:Rul):Bool:=alw r.kind r.text r.lo r.hi b
theorem f81(e:Ev)(r:Rul)(h:r.text.length<=1000000)(z:e.data.length<=1000000):call T 81 [.agg r.sv,.ptr 0 0] [.rc e.sv] 0=some ⟨.bool (alR e.data r),[(0,.rc e.sv)],[]⟩:=by have g:=f35 r.kind r.text r.lo r.hi e.data (by omega) (by omega);obtain⟨C,k,y,b⟩:=e;obtain⟨q,t,lo,hi⟩:=r;rw[an xnP];unfold alR Ev.sv Rul.sv;simp only[go_sem,Q0,Q1,Q2,Q3,Q4,Q5,Q6,Q7,Q8,Q9,Qa,Qb,Qc,Qd,Qe,Qf,Qg,Qh,Qi,Qj,Qk,reduceCtorEq,reduceIte,g,xoQ]
theorem l80(e:Ev)(rs:List Rul)(h:e.data.length<=1000000)(O:∀x∈rs,x.text.length<=1000000)(hn:rs.length<=1000000):∀(n i:Nat),rs.length-i=n->i<=rs.length->
 run T (.loop Pg) ⟨[(0,.lst 4 (dl rs) .no),(1,.fn 81 [] [.ptr 0 0]),(7,.int .i64 rs.length),(8,.int .i64 i)],[(0,.rc e.sv)],[]⟩=
 if jB (alR e.data) (rs.drop i) i= -1 then some (.x 0,⟨[],[(0,.rc e.sv)],[]⟩)else some (.r,⟨[(4,.int .i64 (jB (alR e.data) (rs.drop i) i))],[(0,.rc e.sv)],[]⟩):=by
 intro n;induction n with
 |zero=>
  intro i L J;have:i=rs.length:=by omega
  subst this;rw[ai,ba];simp only[go_sem,Q0,Q1,Q2,Q3,Q4,Q5,Q6,Q7,Q8,Q9,Qa,Qb,Qc,Qd,Qe,Qf,Qg,Qh,Qi,Qj,Qk,reduceCtorEq,reduceIte,jB]
 |succ n Q=>
  intro i L J;have hi:i<rs.length:=by omega
  have F:=bW i (by omega);have E:=Q (i+1) (by omega) (by omega);have H:=cK rs;have I:=gC rs i hi;have g:=f81 e (rs.getD i rl0) (O _ (cf rs rl0 i hi)) h;have y:rs.drop i=rs.getD i rl0::rs.drop (i+1):=by rw[aM hi,aa,ab hi];rfl
  rw[y];generalize rs.drop (i+1)=R at*;generalize rs.getD i rl0=x at*;obtain⟨q,t,lo,C⟩:=x;simp only[Ev.sv,Rul.sv]at*;rw[ai];unfold jB;cases h:alR e.data ⟨q,t,lo,C⟩with
  |true=>
   rw[h]at g;have z:¬(i:Int)= -1:=by omega
   simp only[go_sem,Q0,Q1,Q2,Q3,Q4,Q5,Q6,Q7,Q8,Q9,Qa,Qb,Qc,Qd,Qe,Qf,Qg,Qh,Qi,Qj,Qk,reduceCtorEq,reduceIte,hi,F,H,I,g,xlC,z]
  |false=>rw[h]at g;simp only[go_sem,Q0,Q1,Q2,Q3,Q4,Q5,Q6,Q7,Q8,Q9,Qa,Qb,Qc,Qd,Qe,Qf,Qg,Qh,Qi,Qj,Qk,reduceCtorEq,reduceIte,hi,F,H,I,g,xlC,E]
theorem f80(e:Ev)(rs:List Rul)(E:e.data.length<=1000000)(C:∀x∈rs,x.text.length<=1000000)(hn:rs.length<=1000000):
 call T 80 [.lst 4 (dl rs) .no,.fn 81 [] [.ptr 0 0]] [.rc e.sv] 0=some ⟨.int .i64 (jB (alR e.data) rs 0),[(0,.rc e.sv)],[]⟩:=by
 have h:=l80 e rs E C hn _ 0 rfl (by omega);simp only[aB,aV]at h;have z:=cK rs;rw[an xnQ];unfold Ev.sv at h ⊢
 by_cases y:jB (alR e.data) rs 0= -1
 ·rw[if_pos y]at h
  simp only[go_sem,Q0,Q1,Q2,Q3,Q4,Q5,Q6,Q7,Q8,Q9,Qa,Qb,Qc,Qd,Qe,Qf,Qg,Qh,Qi,Qj,Qk,reduceCtorEq,reduceIte,z,h,y]
 ·rw[if_neg y]at h
  simp only[go_sem,Q0,Q1,Q2,Q3,Q4,Q5,Q6,Q7,Q8,Q9,Qa,Qb,Qc,Qd,Qe,Qf,Qg,Qh,Qi,Qj,Qk,reduceCtorEq,reduceIte,z,h]
theorem Cv{α:Type}(p:α->Bool):∀(l:List α)(i:Nat),jB p l i= -1\/((i:Int)<=jB p l i/\jB p l i<i+l.length)
 |[],_=> .inl rfl
 |x::r,i=>by
  unfold jB
  by_cases h:p x=true
  ·rw[if_pos h,aA];right;omega
  ·rw[if_neg h,aA]
   rcases Cv p r (i+1)with h|h
   ·exact .inl h
   ·right;omega
structure xlN(e:Ev):Prop where
 d2:e.dg.length=2
 b:e.data.length<=1000000
 d0:(e.dg.getD 0 []).length<=1000000
 d1:(e.dg.getD 1 []).length<=1000000
def Em(m:Man)(e:Ev):Int:=
 if fj m=0 then
  (if e.kind=1 then jB (itE e) m.ents 0
  else if e.kind=3 then(if e.reg=9 then(if xar e=true then(if 0<=jB (alR e.data) m.ruls 0 then(m.ents.length:Int)+jB (alR e.data) m.ruls 0 else-1)else-1)else-1)
  else-1)
 else-1
theorem f31(m:Man)(E:dV m)(e:Ev)(H:xlN e):call T 31 [.agg m.sv,.agg e.sv] [] 0=some ⟨.int .i64 (Em m e),[],[]⟩:=by
 have C:=f13 m E;have F:=f33 4;have k9:zP 4=9:=rfl;have I:=f79 e H.d2 H.b;have L:=f80 e m.ruls H.b E.r E.rn;have hr:=Cv (alR e.data) m.ruls 0;have hv:=bL m.ents;have a1:=E.en;have a0:=E.rn;rw[k9]at F;have g2:fj m=0->call T 75 [.lst 4 (bP m.ents) .no,.fn 76 [] [.ptr 0 0]] [.rc e.sv] 0=some ⟨.int .i64 (jB (itE e) m.ents 0),[(0,.rc e.sv)],[]⟩:=fun h=>f75 e m.ents H.d2 (fun x hx=>(Cq h x hx).2.2.1) E.en
 clear E H;obtain⟨W,Z,m2,m3,m4,es,rs⟩:=m;obtain⟨g',k,ds,b⟩:=e;rw[an xot];unfold Em;simp only[Man.sv,Ev.sv]at*
 by_cases y:fj ⟨W,Z,m2,m3,m4,es,rs⟩=0
 ·have J:=g2 y
  rw[y]at C
  by_cases O:k=1
  ·subst O
   simp only[go_sem,Q0,Q1,Q2,Q3,Q4,Q5,Q6,Q7,Q8,Q9,Qa,Qb,Qc,Qd,Qe,Qf,Qg,Qh,Qi,Qj,Qk,reduceCtorEq,reduceIte,C,po,y,J,xoL]
  ·by_cases U:k=3
   ·subst U
    by_cases Q:g'=9
    ·subst Q
     cases hc:xar ⟨9,3,ds,b⟩with
     |false=>rw[hc]at I;simp only[go_sem,Q0,Q1,Q2,Q3,Q4,Q5,Q6,Q7,Q8,Q9,Qa,Qb,Qc,Qd,Qe,Qf,Qg,Qh,Qi,Qj,Qk,reduceCtorEq,reduceIte,C,po,y,F,EM,I,xfV]
     |true=>
      rw[hc]at I;generalize jB (alR b) rs 0=z at*
      by_cases hz:0<=z
      ·have ew:af.wrap ((es.length:Int)+z)=(es.length:Int)+z:=w64 (by omega) (by omega)
       simp only[go_sem,Q0,Q1,Q2,Q3,Q4,Q5,Q6,Q7,Q8,Q9,Qa,Qb,Qc,Qd,Qe,Qf,Qg,Qh,Qi,Qj,Qk,reduceCtorEq,reduceIte,C,po,y,F,EM,I,xfV,L,xlD,hz,hv,ew]
      ·simp only[go_sem,Q0,Q1,Q2,Q3,Q4,Q5,Q6,Q7,Q8,Q9,Qa,Qb,Qc,Qd,Qe,Qf,Qg,Qh,Qi,Qj,Qk,reduceCtorEq,reduceIte,C,po,y,F,EM,I,xfV,L,xlD,hz]
    ·simp only[go_sem,Q0,Q1,Q2,Q3,Q4,Q5,Q6,Q7,Q8,Q9,Qa,Qb,Qc,Qd,Qe,Qf,Qg,Qh,Qi,Qj,Qk,reduceCtorEq,reduceIte,C,po,y,F,EM,Q]
   ·simp only[go_sem,Q0,Q1,Q2,Q3,Q4,Q5,Q6,Q7,Q8,Q9,Qa,Qb,Qc,Qd,Qe,Qf,Qg,Qh,Qi,Qj,Qk,reduceCtorEq,reduceIte,C,po,y,O,U]
 ·simp only[go_sem,Q0,Q1,Q2,Q3,Q4,Q5,Q6,Q7,Q8,Q9,Qa,Qb,Qc,Qd,Qe,Qf,Qg,Qh,Qi,Qj,Qk,reduceCtorEq,reduceIte,C,po,y]
theorem vE(v s:Nat):(gq (v:Int) s).toNat=v/2^s % 256:=by
 unfold gq
 have e:Int.fdiv (v:Int) (2^s)=((v/2^s:Nat):Int):=by
  have p:((2:Int)^s)=((2^s:Nat):Int):=by rw[Int.natCast_pow];rfl
  rw[p,qP _ (Int.natCast_nonneg _)];rfl
 rw[e];show(ct ((v/2^s:Nat):Int)).toNat=_;generalize v/2^s=q;simp[ct];omega
theorem Z9:∀(k a v:Nat),nF a (be k (v:Int))=a*256^k+v % 256^k
 |0,a,v=>by simp[be,nF,Nat.mod_one]
 |k+1,a,v=>by
  have h:(gq (v:Int) (8*k)).toNat=v/256^k % 256:=by rw[vE,Nat.pow_mul]
  show nF (a*256+(gq (v:Int) (8*k)).toNat) (be k (v:Int))=_;rw[Z9 k,h,Nat.mod_pow_succ,Nat.pow_succ,bA,Nat.mul_assoc a,cm 256,cm (v/256^k % 256)];omega
theorem jM(k:Nat)(v:Int)(h:0<=v)(y:v<((256^k:Nat):Int))(z:v<18446744073709551616):((nB (bu k v):Nat):Int)=v:=by
 unfold bu nB;have e:aQ.wrap v=((v.toNat:Nat):Int):=by rw[bK];omega
 rw[e,Z9,gz,cj,dp (by omega)];omega
theorem pe{B P X S:t7}(h:B=P++(X++S)):(B.drop P.length).take X.length=X/\P.length+X.length<=B.length:=by
 subst h;constructor
 ·rw[List.drop_left',List.take_left']
  ·rfl
  ·rfl
 ·rw[ac,ac];omega
theorem kz{B P X S:t7}(n:Nat)(h:B=P++(X++S))(hn:X.length=n):uR B n ⟨P.length,0⟩=(((nB X:Nat):Int),⟨(P++X).length,0⟩):=by subst hn;obtain⟨z,y⟩:=pe h;unfold uR;rw[if_pos rfl];simp only;rw[if_pos y,z,ac]
theorem xgf{B P X S:t7}(n:Nat)(h:B=P++(X++S))(hn:X.length=n):wR B n ⟨P.length,0⟩=(X,⟨(P++X).length,0⟩):=by subst hn;obtain⟨z,y⟩:=pe h;unfold wR;rw[if_pos rfl];simp only;rw[if_pos y,z,ac]
theorem PR{B P X S:t7}(m:Nat)(h:B=P++((bu 2 (X.length:Int)++X)++S))(I:X.length<=m)(L:X.length<65536):bR B m ⟨P.length,0⟩=(X,⟨(P++(bu 2 (X.length:Int)++X)).length,0⟩):=by
 have hn:nB (bu 2 (X.length:Int))=X.length:=by
  have J:((256^2:Nat):Int)=65536:=by decide
  have:=jM 2 (X.length:Int) (by omega) (by rw[J];omega) (by omega);omega
 have y:(bu 2 (X.length:Int)).length=2:=bM ..;have E:B=P++(bu 2 (X.length:Int)++(X++S)):=by rw[h,av (bu 2 _)]
 have z:B=(P++bu 2 (X.length:Int))++(X++S):=by rw[E,av]
 obtain⟨F,C⟩:=pe E;obtain⟨b1,H⟩:=pe z;rw[y]at F C;rw[ac,y]at b1 H;unfold bR;rw[if_pos rfl];simp only;rw[if_pos C,F,hn,if_pos I,if_pos H,b1];rw[ac,ac,y]
def lk(x:Ent):t7:=bu 1 x.role++(bu 2 (x.name.length:Int)++x.name)++bu 4 x.ver++x.dig
def lH(r:Rul):t7:=bu 1 r.kind++(bu 2 (r.text.length:Int)++r.text)++bu 4 r.lo++bu 4 r.hi
theorem mE(B X:t7)(h:X.length<65536):eA B X=B++(bu 2 (X.length:Int)++X):=by unfold eA bu;rw[bB (by omega),av]
theorem SL(B:t7)(x:Ent)(h:x.name.length<65536):iU B x=B++lk x:=by unfold iU lk;rw[mE _ _ h];simp only[av]
theorem Rf(B:t7)(x:Rul)(h:x.text.length<65536):iI B x=B++lH x:=by unfold iI lH;rw[mE _ _ h];simp only[av]
theorem pS:∀(l:List Ent)(B:t7),(∀x∈l,x.name.length<65536)->l.foldl iU B=B++(l.map lk).flatten
 |[],B,_=>by simp
 |x::r,B,h=>by rw[bS,SL _ _ (h x ax),pS r _ (fun y z=>h y (am _ z)),aE,cE,av]
theorem pR:∀(l:List Rul)(B:t7),(∀x∈l,x.text.length<65536)->l.foldl iI B=B++(l.map lH).flatten
 |[],B,_=>by simp
 |x::r,B,h=>by rw[bS,Rf _ _ (h x ax),pR r _ (fun y z=>h y (am _ z)),aE,cE,av]
structure xf2(x:Ent):Prop where
 r0:0<=x.role
 r1:x.role<256
 n:x.name.length<=12
 v0:0<=x.ver
 v1:x.ver<4294967296
 d:x.dig.length=32
structure xf0(x:Rul):Prop where
 r0:0<=x.kind
 r1:x.kind<256
 n:x.text.length<=32
 v0:0<=x.lo
 v1:x.lo<4294967296
 w0:0<=x.hi
 w1:x.hi<4294967296
theorem pp1:((256^1:Nat):Int)=256:=by decide
theorem pp4:((256^4:Nat):Int)=4294967296:=by decide
theorem pp6:((256^6:Nat):Int)=281474976710656:=by decide
theorem Sw{B P S:t7}{x:Ent}(y:xf2 x)(h:B=P++(lk x++S)):fN B ⟨P.length,0⟩=(x,⟨(P++lk x).length,0⟩):=by unfold lk at h;have z:=kz (B:=B) (P:=P) (X:=bu 1 x.role) (S:=(bu 2 (x.name.length:Int)++x.name)++(bu 4 x.ver++(x.dig++S))) 1 (by rw[h];simp only[av]) (bM ..);have E:=PR (B:=B) (P:=P++bu 1 x.role) (X:=x.name) (S:=bu 4 x.ver++(x.dig++S)) 12 (by rw[h];simp only[av]) y.n (by have:=y.n;omega);have C:=kz (B:=B) (P:=P++bu 1 x.role++(bu 2 (x.name.length:Int)++x.name)) (X:=bu 4 x.ver) (S:=x.dig++S) 4 (by rw[h];simp only[av]) (bM ..);have F:=xgf (B:=B) (P:=P++bu 1 x.role++(bu 2 (x.name.length:Int)++x.name)++bu 4 x.ver) (X:=x.dig) (S:=S) 32 (by rw[h];simp only[av]) y.d;rw[jM 1 x.role y.r0 (by rw[pp1];exact y.r1) (by have:=y.r1;omega)]at z;rw[jM 4 x.ver y.v0 (by rw[pp4];exact y.v1) (by have:=y.v1;omega)]at C;unfold fN;rw[z];simp only;rw[E];simp only;rw[C];simp only;rw[F];unfold lk;simp only[av]
theorem Rd{B P S:t7}{x:Rul}(y:xf0 x)(h:B=P++(lH x++S)):fK B ⟨P.length,0⟩=(x,⟨(P++lH x).length,0⟩):=by unfold lH at h;have z:=kz (B:=B) (P:=P) (X:=bu 1 x.kind) (S:=(bu 2 (x.text.length:Int)++x.text)++(bu 4 x.lo++(bu 4 x.hi++S))) 1 (by rw[h];simp only[av]) (bM ..);have F:=PR (B:=B) (P:=P++bu 1 x.kind) (X:=x.text) (S:=bu 4 x.lo++(bu 4 x.hi++S)) 32 (by rw[h];simp only[av]) y.n (by have:=y.n;omega);have E:=kz (B:=B) (P:=P++bu 1 x.kind++(bu 2 (x.text.length:Int)++x.text)) (X:=bu 4 x.lo) (S:=bu 4 x.hi++S) 4 (by rw[h];simp only[av]) (bM ..);have C:=kz (B:=B) (P:=P++bu 1 x.kind++(bu 2 (x.text.length:Int)++x.text)++bu 4 x.lo) (X:=bu 4 x.hi) (S:=S) 4 (by rw[h];simp only[av]) (bM ..);rw[jM 1 x.kind y.r0 (by rw[pp1];exact y.r1) (by have:=y.r1;omega)]at z;rw[jM 4 x.lo y.v0 (by rw[pp4];exact y.v1) (by have:=y.v1;omega)]at E;rw[jM 4 x.hi y.w0 (by rw[pp4];exact y.w1) (by have:=y.w1;omega)]at C;unfold fK;rw[z];simp only;rw[F];simp only;rw[E];simp only;rw[C];unfold lH;simp only[av]
theorem vv{B:t7}:∀(l:List Ent)(es:List Ent)(P S:t7),(∀x∈l,xf2 x)->B=P++((l.map lk).flatten++S)->dy B l.length es ⟨P.length,0⟩=(es++l,⟨(P++(l.map lk).flatten).length,0⟩)
 |[],es,P,S,_,_=>by simp[dy]
 |x::r,es,P,S,hx,h=>by have a:=Sw (B:=B) (P:=P) (S:=(r.map lk).flatten++S) (hx x ax) (by rw[h,aE,cE];simp only[av]);rw[aA];unfold dy;rw[if_pos rfl,a];simp only;rw[vv r (es++ [x]) (P++lk x) S (fun y z=>hx y (am _ z)) (by rw[h,aE,cE];simp only[av]),aE,cE];simp only[av,bf,aG]
theorem uK{B:t7}:∀(l:List Rul)(es:List Rul)(P S:t7),(∀x∈l,xf0 x)->B=P++((l.map lH).flatten++S)->dx B l.length es ⟨P.length,0⟩=(es++l,⟨(P++(l.map lH).flatten).length,0⟩)
 |[],es,P,S,_,_=>by simp[dx]
 |x::r,es,P,S,hx,h=>by have a:=Rd (B:=B) (P:=P) (S:=(r.map lH).flatten++S) (hx x ax) (by rw[h,aE,cE];simp only[av]);rw[aA];unfold dx;rw[if_pos rfl,a];simp only;rw[uK r (es++ [x]) (P++lH x) S (fun y z=>hx y (am _ z)) (by rw[h,aE,cE];simp only[av]),aE,cE];simp only[av,bf,aG]
def hV(B:t7):t7×Rs:=bR B 12 (uR B 1 ⟨0,0⟩).2
def hE(B:t7):Int×Rs:=uR B 4 (hV B).2
def hF(B:t7):Int×Rs:=uR B 4 (hE B).2
def hM(B:t7):Int×Rs:=uR B 6 (hF B).2
def hT(B:t7):Int×Rs:=uR B 6 (hM B).2
def hN(B:t7):Int×Rs:=uR B 1 (hT B).2
def hL(B:t7):List Ent×Rs:=dy B (hN B).1.toNat [] (hN B).2
def hK(B:t7):Int×Rs:=uR B 1 (hL B).2
def hR(B:t7):List Rul×Rs:=dx B (hK B).1.toNat [] (hK B).2
def ik(B:t7):Man:=⟨(hV B).1,(hE B).1,(hF B).1,(hM B).1,(hT B).1,(hL B).1,(hR B).1⟩
def okP(B:t7):Prop:=(uR B 1 ⟨0,0⟩).1=21/\eR B (hR B).2=0/\fj (ik B)=0
instance (B:List UInt8):Decidable (okP B):=by unfold okP;infer_instance
def nT(B:t7):Option Man:=if okP B then some (ik B)else none
theorem xfG{k:Int}{t:t7}{lo hi:Int}(h:chk k t lo hi=0):1<=k/\k<=4/\t.length<=32/\0<=lo/\lo<=1000000000/\0<=hi/\hi<=1000000000:=by
 unfold chk at h
 repeat' split at h
 all_goals first|(exfalso;omega)|skip
 ·refine⟨by omega,by omega,by omega,by omega,by omega,by omega,by omega⟩
 ·rename_i y
  refine⟨by omega,by omega,by rw[y];simp,by omega,by omega,by omega,by omega⟩
 ·refine⟨by omega,by omega,by omega,by omega,by omega,by omega,by omega⟩
theorem uE:∀{l:List Rul},hJ l=0->∀r∈l,ow r=0
 |[],_,r,hr=>by cases hr
 |x::t,h,r,hr=>by
  unfold hJ at h
  by_cases y:ow x=0
  ·rw[if_pos y]at h
   rcases al.1 hr with rfl|hr
   ·exact y
   ·exact uE h r hr
  ·rw[if_neg y]at h;exact absurd h y
theorem pG{m:Man}(h:fj m=0):∀x∈m.ents,xf2 x:=by intro x C;obtain⟨J,I,⟨E,H,F⟩,z,y⟩:=Cq h x C;exact⟨by omega,by omega,(gh y).2,E,by omega,z⟩
theorem pF{m:Man}(h:fj m=0):∀x∈m.ruls,xf0 x:=by intro x C;obtain⟨J,I,E,y,F,z,H⟩:=xfG (uE (mq h).2.1 x C);exact⟨by omega,by omega,E,y,by omega,z,by omega⟩
theorem CA{m:Man}(h:fj m=0):nT (fX m)=some m:=by
 obtain⟨-, -,hn,hr,hv,u0,u1,u2,u3,u4,u5⟩:=mq h;have F:=pG h;have C:=pF h;have I:=(gh hv).2
 have y:fX m=bu 1 21++((bu 2 (m.vendor.length:Int)++m.vendor)++(bu 4 m.ver++(bu 4 m.flr++(bu 6 m.frm++(bu 6 m.til++(bu 1 (m.ents.length:Int)++((m.ents.map lk).flatten++(bu 1 (m.ruls.length:Int)++((m.ruls.map lH).flatten++ []))))))))):=by unfold fX hdM;rw[if_pos h,pS _ _ (fun x L=>by have:=(F x L).n;omega),pR _ _ (fun x L=>by have:=(C x L).n;omega),mE _ _ (by omega)];simp only[av,aG,bw]
 generalize fX m=B at*;have H:=kz (B:=B) (P:=[]) 1 y (bM 1 21);have a1:=PR (B:=B) (P:=bu 1 21) 12 y I (by omega);have a2:=kz (B:=B) (P:=bu 1 21++(bu 2 (m.vendor.length:Int)++m.vendor)) 4 (by rw[y];simp only[av];rfl) (bM 4 m.ver);have a3:=kz (B:=B) (P:=bu 1 21++(bu 2 (m.vendor.length:Int)++m.vendor)++bu 4 m.ver) 4 (by rw[y];simp only[av];rfl) (bM 4 m.flr);have a4:=kz (B:=B) (P:=bu 1 21++(bu 2 (m.vendor.length:Int)++m.vendor)++bu 4 m.ver++bu 4 m.flr) 6 (by rw[y];simp only[av];rfl) (bM 6 m.frm);have a5:=kz (B:=B) (P:=bu 1 21++(bu 2 (m.vendor.length:Int)++m.vendor)++bu 4 m.ver++bu 4 m.flr++bu 6 m.frm) 6 (by rw[y];simp only[av];rfl) (bM 6 m.til);have a6:=kz (B:=B) (P:=bu 1 21++(bu 2 (m.vendor.length:Int)++m.vendor)++bu 4 m.ver++bu 4 m.flr++bu 6 m.frm++bu 6 m.til) 1 (by rw[y];simp only[av];rfl) (bM 1 (m.ents.length:Int));have a7:=vv (B:=B) m.ents [] (bu 1 21++(bu 2 (m.vendor.length:Int)++m.vendor)++bu 4 m.ver++bu 4 m.flr++bu 6 m.frm++bu 6 m.til++bu 1 (m.ents.length:Int)) _ F (by rw[y];simp only[av];rfl);have a8:=kz (B:=B) (P:=bu 1 21++(bu 2 (m.vendor.length:Int)++m.vendor)++bu 4 m.ver++bu 4 m.flr++bu 6 m.frm++bu 6 m.til++bu 1 (m.ents.length:Int)++(m.ents.map lk).flatten) 1 (by rw[y];simp only[av];rfl) (bM 1 (m.ruls.length:Int));have a9:=uK (B:=B) m.ruls [] (bu 1 21++(bu 2 (m.vendor.length:Int)++m.vendor)++bu 4 m.ver++bu 4 m.flr++bu 6 m.frm++bu 6 m.til++bu 1 (m.ents.length:Int)++(m.ents.map lk).flatten++bu 1 (m.ruls.length:Int)) [] C (by rw[y];simp only[av])
 rw[jM 1 21 (by omega) (by rw[pp1];omega) (by omega)]at H;rw[jM 4 m.ver (by omega) (by rw[pp4];omega) (by omega)]at a2;rw[jM 4 m.flr (by omega) (by rw[pp4];omega) (by omega)]at a3;rw[jM 6 m.frm (by omega) (by rw[pp6];omega) (by omega)]at a4;rw[jM 6 m.til (by omega) (by rw[pp6];omega) (by omega)]at a5;rw[jM 1 (m.ents.length:Int) (by omega) (by rw[pp1];omega) (by omega)]at a6;rw[jM 1 (m.ruls.length:Int) (by omega) (by rw[pp1];omega) (by omega)]at a8;rw[aY,aG]at H;have U:=(congrArg (fun z:Int×Rs=>bR B 12 z.2) H).trans a1;change hV B=_ at U;have O:=(congrArg (fun z:t7×Rs=>uR B 4 z.2) U).trans a2;change hE B=_ at O;have Q:=(congrArg (fun z:Int×Rs=>uR B 4 z.2) O).trans a3;change hF B=_ at Q;have Z:=(congrArg (fun z:Int×Rs=>uR B 6 z.2) Q).trans a4;change hM B=_ at Z;have T:=(congrArg (fun z:Int×Rs=>uR B 6 z.2) Z).trans a5;change hT B=_ at T;have q6:=(congrArg (fun z:Int×Rs=>uR B 1 z.2) T).trans a6;change hN B=_ at q6;have W:=(congrArg (fun z:Int×Rs=>dy B z.1.toNat [] z.2) q6).trans a7;change hL B=_ at W;have q8:=(congrArg (fun z:List Ent×Rs=>uR B 1 z.2) W).trans a8;change hK B=_ at q8;have J:=(congrArg (fun z:Int×Rs=>dx B z.1.toNat [] z.2) q8).trans a9;change hR B=_ at J
 have hm:ik B=m:=by unfold ik;rw[U,O,Q,Z,T,W,J];rfl
 have E:eR B (hR B).2=0:=by
  rw[J];unfold eR;rw[if_pos rfl,if_neg];simp only
  conv=>rhs;rw[y]
  simp only[av,bw];omega
 unfold nT;rw[if_pos ⟨by rw[H],E,by rw[hm];exact h⟩,hm]
def rqO(B:t7)(s:Rs):aC:= .rc [.byt B .no,.int .i64 s.a,.int .i64 s.e]
theorem f60(B:t7):call T 60 [.byt B .no] [] 0=some ⟨.ptr 100 0,[(100,rqO B ⟨0,0⟩)],[]⟩:=by rw[an xn4];unfold rqO;simp only[go_sem,Q0,Q1,Q2,Q3,Q4,Q5,Q6,Q7,Q8,Q9,Qa,Qb,Qc,Qd,Qe,Qf,Qg,Qh,Qi,Qj,Qk,reduceCtorEq,reduceIte,aB]
theorem xak(B:t7)(H:B.length<=1000000000)(s:Rs)(F:dD B s)(n:Nat)(hn:n<=1000000):call T 113 [.ptr 0 0,.int .i64 n] [rqO B s] 0=
 if s.e=0 then(if s.a+n<=B.length then some ⟨.bool true,[(0,rqO B s)],[]⟩else some ⟨.bool false,[(0,rqO B ⟨s.a,2⟩)],[]⟩)else some ⟨.bool false,[(0,rqO B s)],[]⟩:=by
 have E:=F.a;have y:af.wrap ((B.length:Int)-(s.a:Int))=((B.length-s.a:Nat):Int):=wZ (by omega)
 obtain⟨a,e⟩:=s;simp only[rqO]at y E ⊢;rw[an xju]
 by_cases C:e=0
 ·subst C
  rw[if_pos rfl]
  by_cases h:a+n<=B.length
  ·have z:¬B.length-a<n:=by omega
   rw[if_pos h];simp only[go_sem,Q0,Q1,Q2,Q3,Q4,Q5,Q6,Q7,Q8,Q9,Qa,Qb,Qc,Qd,Qe,Qf,Qg,Qh,Qi,Qj,Qk,reduceCtorEq,reduceIte,y,z]
  ·have z:B.length-a<n:=by omega
   rw[if_neg h];simp only[go_sem,Q0,Q1,Q2,Q3,Q4,Q5,Q6,Q7,Q8,Q9,Qa,Qb,Qc,Qd,Qe,Qf,Qg,Qh,Qi,Qj,Qk,reduceCtorEq,reduceIte,y,z]
 ·rw[if_neg C]
  simp only[go_sem,Q0,Q1,Q2,Q3,Q4,Q5,Q6,Q7,Q8,Q9,Qa,Qb,Qc,Qd,Qe,Qf,Qg,Qh,Qi,Qj,Qk,reduceCtorEq,reduceIte,C]
theorem xno(B:t7)(C:B.length<=1000000000)(s:Rs)(y:dD B s):call T 114 [.ptr 0 0] [rqO B s] 0=some ⟨.int .i64 ((B.length-s.a:Nat):Int),[(0,rqO B s)],[]⟩:=by
 have z:=y.a;have h:af.wrap ((B.length:Int)-(s.a:Int))=((B.length-s.a:Nat):Int):=wZ (by omega)
 rw[an xjt];simp only[rqO];simp only[go_sem,Q0,Q1,Q2,Q3,Q4,Q5,Q6,Q7,Q8,Q9,Qa,Qb,Qc,Qd,Qe,Qf,Qg,Qh,Qi,Qj,Qk,reduceCtorEq,reduceIte,h]
theorem f64(B:t7)(E:B.length<=1000000000)(s:Rs)(C:dD B s):call T 64 [.ptr 0 0] [rqO B s] 0=some ⟨.int .i64 (eR B s),[(0,rqO B s)],[]⟩:=by
 have g:=xno B E s C;rw[an xn0];unfold eR;obtain⟨a,e⟩:=s;simp only[rqO]at g ⊢
 by_cases z:e=0
 ·subst z
  by_cases h:a<B.length
  ·have y:(0:Int)<((B.length-a:Nat):Int):=by omega
   simp only[go_sem,Q0,Q1,Q2,Q3,Q4,Q5,Q6,Q7,Q8,Q9,Qa,Qb,Qc,Qd,Qe,Qf,Qg,Qh,Qi,Qj,Qk,reduceCtorEq,reduceIte,g,xa9,h,y]
  ·have y:¬(0:Int)<((B.length-a:Nat):Int):=by omega
   simp only[go_sem,Q0,Q1,Q2,Q3,Q4,Q5,Q6,Q7,Q8,Q9,Qa,Qb,Qc,Qd,Qe,Qf,Qg,Qh,Qi,Qj,Qk,reduceCtorEq,reduceIte,g,xa9,h,y]
 ·simp only[go_sem,Q0,Q1,Q2,Q3,Q4,Q5,Q6,Q7,Q8,Q9,Qa,Qb,Qc,Qd,Qe,Qf,Qg,Qh,Qi,Qj,Qk,reduceCtorEq,reduceIte,z]
theorem l61(B:t7)(hB:B.length<=1000000000)(a n:Nat)(W:n<=6)(Z:a+n<=B.length):∀(m i v:Nat),n-i=m->i<=n->v<256^i->
 run T (.loop xR) ⟨[(0,.ptr 0 0),(1,.int .i64 n),(5,.int .u64 v),(6,.int .i64 i)],[(0,rqO B ⟨a,0⟩)],[]⟩=
  some (.x 0,⟨[(0,.ptr 0 0),(1,.int .i64 n),(5,.int .u64 ((nF v ((B.drop (a+i)).take (n-i)):Nat):Int))],[(0,rqO B ⟨a,0⟩)],[]⟩):=by
 intro m;induction m with
 |zero=>
  intro i v J H C;have:i=n:=by omega
  subst this;rw[Nat.sub_self,List.take_zero,ai];simp only[rqO,go_sem,Q0,Q1,Q2,Q3,Q4,Q5,Q6,Q7,Q8,Q9,Qa,Qb,Qc,Qd,Qe,Qf,Qg,Qh,Qi,Qj,Qk,reduceCtorEq,reduceIte,nF,fp]
 |succ m U=>
  intro i v J H C;have hi:i<n:=by omega
  have z:(i:Int)<(n:Int):=by omega
  have F:=bW i (by omega);have I:af.wrap ((a:Int)+(i:Int))=((a+i:Nat):Int):=wZ (by omega)
  have y:a+i<B.length:=by omega
  have O:v<1099511627776:=by
   have:256^i<=256^5:=Nat.pow_le_pow_right (by decide) (by omega);have E:(256:Nat)^5=1099511627776:=by decide
   omega
  have E:=Eh [B.getD (a+i) 0] v i C;have h:=U (i+1) (v*256+(B.getD (a+i) 0).toNat) (by omega) (by omega) E;have Q:=orW v O (B.getD (a+i) 0)
  have hd:nF v ((B.drop (a+i)).take (n-i))=nF (v*256+(B.getD (a+i) 0).toNat) ((B.drop (a+(i+1))).take (n-(i+1))):=by rw[cH B (a+i) y,show n-i=n-(i+1)+1 from by omega,List.take_succ_cons];rfl
  rw[hd];generalize L:B.getD (a+i) 0=c at*;rw[ai];simp only[rqO]at h ⊢;simp only[go_sem,Q0,Q1,Q2,Q3,Q4,Q5,Q6,Q7,Q8,Q9,Qa,Qb,Qc,Qd,Qe,Qf,Qg,Qh,Qi,Qj,Qk,reduceCtorEq,reduceIte,hi,z,y,F,I,L,Q,h]
theorem f61(B:t7)(I:B.length<=1000000000)(n:Nat)(U:1<=n)(J:n<=6)(s:Rs)(H:dD B s):call T 61 [.ptr 0 0,.int .i64 n] [rqO B s] 0=some ⟨.int .i64 (uR B n s).1,[(0,rqO B (uR B n s).2)],[]⟩:=by
 have Q:=H.a;have y:=xak B I s H n (by omega);have hX:((B.drop s.a).take n).length<=6:=by rw[aw];omega
 have E:=pB _ hX;have n1:¬(n:Int)<1:=by omega
 have n8:¬(8:Int)<n:=by omega
 have F:af.wrap ((s.a:Int)+(n:Int))=((s.a+n:Nat):Int):=wZ (by omega)
 rw[an xn3];unfold uR
 by_cases z:s.e=0
 ·rw[if_pos z]at y ⊢
  obtain⟨a,e⟩:=s;simp only at z y F E;subst z
  by_cases h:a+n<=B.length
  ·rw[if_pos h]at y
   rw[if_pos h];have C:=l61 B I a n J h _ 0 0 rfl (bH _) (by decide);rw[aB,dL,Nat.sub_zero]at C;change run T _ _=some (Ex.x 0,⟨[(0,SV.ptr 0 0),(1,SV.int .i64 n),(5,SV.int .u64 ((nB ((B.drop a).take n):Nat):Int))],_,_⟩)at C;have L:¬(9223372036854775808:Int)<=((nB ((B.drop a).take n):Nat):Int):=by omega
   have O:af.wrap ((nB ((B.drop a).take n):Nat):Int)=((nB ((B.drop a).take n):Nat):Int):=w64 (by omega) (by omega);generalize nB ((B.drop a).take n)=V at*;simp only[rqO]at C y ⊢;simp only[go_sem,Q0,Q1,Q2,Q3,Q4,Q5,Q6,Q7,Q8,Q9,Qa,Qb,Qc,Qd,Qe,Qf,Qg,Qh,Qi,Qj,Qk,reduceCtorEq,reduceIte,n1,n8,y,pq,C,L,O,F]
  ·rw[if_neg h]at y
   rw[if_neg h];simp only[rqO]at y ⊢;simp only[go_sem,Q0,Q1,Q2,Q3,Q4,Q5,Q6,Q7,Q8,Q9,Qa,Qb,Qc,Qd,Qe,Qf,Qg,Qh,Qi,Qj,Qk,reduceCtorEq,reduceIte,n1,n8,y,pq]
 ·rw[if_neg z]
  obtain⟨a,e⟩:=s;simp only at z;simp only[rqO];simp only[go_sem,Q0,Q1,Q2,Q3,Q4,Q5,Q6,Q7,Q8,Q9,Qa,Qb,Qc,Qd,Qe,Qf,Qg,Qh,Qi,Qj,Qk,reduceCtorEq,reduceIte,z]
theorem f63(B:t7)(O:B.length<=1000000000)(n:Nat)(L:n<=1000000)(s:Rs)(I:dD B s):call T 63 [.ptr 0 0,.int .i64 n] [rqO B s] 0=some ⟨.byt (wR B n s).1 .no,[(0,rqO B (wR B n s).2)],[]⟩:=by
 have Q:=I.a;have y:=xak B O s I n L;have n1:¬(n:Int)<0:=by omega
 have F:af.wrap ((s.a:Int)+(n:Int))=((s.a+n:Nat):Int):=wZ (by omega)
 have H:af.wrap (((s.a+n:Nat):Int)-(n:Int))=(s.a:Int):=wZ (by omega)
 have hX:0+((B.drop s.a).take n).length<=140737488355328:=by rw[aw];omega
 have C:((B.drop s.a).take n).length<=140737488355328:=by rw[aw];omega
 have J:(B.take (s.a+n)).drop s.a=(B.drop s.a).take n:=by rw[List.drop_take];congr 1;omega
 have E:s.a<=s.a+n:=by omega
 rw[an xn1];unfold wR
 by_cases z:s.e=0
 ·rw[if_pos z]at y ⊢
  obtain⟨a,e⟩:=s;simp only at z y F H hX C J E;subst z
  by_cases h:a+n<=B.length
  ·rw[if_pos h]at y
   rw[if_pos h];simp only[rqO]at y ⊢;simp only[go_sem,Q0,Q1,Q2,Q3,Q4,Q5,Q6,Q7,Q8,Q9,Qa,Qb,Qc,Qd,Qe,Qf,Qg,Qh,Qi,Qj,Qk,reduceCtorEq,reduceIte,n1,y,pq,F,H,E,h,J,hX,C]
  ·rw[if_neg h]at y
   rw[if_neg h];simp only[rqO]at y ⊢;simp only[go_sem,Q0,Q1,Q2,Q3,Q4,Q5,Q6,Q7,Q8,Q9,Qa,Qb,Qc,Qd,Qe,Qf,Qg,Qh,Qi,Qj,Qk,reduceCtorEq,reduceIte,n1,y,pq]
 ·rw[if_neg z]
  obtain⟨a,e⟩:=s;simp only at z;simp only[rqO];simp only[go_sem,Q0,Q1,Q2,Q3,Q4,Q5,Q6,Q7,Q8,Q9,Qa,Qb,Qc,Qd,Qe,Qf,Qg,Qh,Qi,Qj,Qk,reduceCtorEq,reduceIte,z]
theorem f62(B:t7)(hB:B.length<=1000000000)(m:Nat)(hm:m<=65535)(s:Rs)(hs:dD B s):call T 62 [.ptr 0 0,.int .i64 m] [rqO B s] 0=some ⟨.byt (bR B m s).1 .no,[(0,rqO B (bR B m s).2)],[]⟩:=by
 have ha:=hs.a;have C:=xak B hB s hs 2 (by omega);rw[show((2:Nat):Int)=2 from rfl]at C;rw[an xn2];unfold bR
 by_cases I:s.e=0
 ·rw[if_pos I]at C ⊢
  obtain⟨a,e⟩:=s;simp only at I C ha;subst I
  by_cases h:a+2<=B.length
  ·rw[if_pos h]at C
   rw[if_pos h]
   have J:(B.drop a).take 2=[B.getD a 0,B.getD (a+1) 0]:=by rw[cH B a (by omega),cH B (a+1) (by omega)];rfl
   simp only[J];have ho:=xk2 (B.getD a 0) (B.getD (a+1) 0)
   have hn:nB [B.getD a 0,B.getD (a+1) 0]<65536:=by
    have:=wG [B.getD a 0,B.getD (a+1) 0];have p:(256:Nat)^ [B.getD a 0,B.getD (a+1) 0].length=65536:=by show(256:Nat)^2=65536;decide
    omega
   have Z:=bW a (by omega);have L:a<B.length:=by omega
   have W:a+1<B.length:=by omega
   generalize Q:B.getD a 0=x at*;generalize hy:B.getD (a+1) 0=y at*;have e2:af.wrap (2+((nB [x,y]:Nat):Int))=((2+nB [x,y]:Nat):Int):=wZ (by omega)
   have e3:af.wrap ((a:Int)+((2+nB [x,y]:Nat):Int))=((a+(2+nB [x,y]):Nat):Int):=wZ (by omega)
   have e4:af.wrap (((a+(2+nB [x,y]):Nat):Int)-((nB [x,y]:Nat):Int))=((a+2:Nat):Int):=wZ (by omega)
   have H:=xak B hB ⟨a,0⟩ ⟨by show a<=_;omega⟩ (2+nB [x,y]) (by omega);rw[if_pos rfl]at H;simp only at H;have h3:∀n,(B.take (a+(2+n))).drop (a+2)=(B.drop (a+2)).take n:=fun n=>by rw[List.drop_take];congr 1;omega
   have U:=h3 (nB [x,y]);generalize nB [x,y]=n at*;have hX:0+((B.drop (a+2)).take n).length<=140737488355328:=by rw[aw];omega
   have O:((B.drop (a+2)).take n).length<=140737488355328:=by rw[aw];omega
   have h4:a+2<=a+(2+n):=by omega
   by_cases hq:n<=m
   ·have E:¬(m:Int)<(n:Int):=by omega
    have z:¬m<n:=by omega
    rw[if_pos hq]
    by_cases hr:a+2+n<=B.length
    ·have F:a+(2+n)<=B.length:=by omega
     rw[if_pos F]at H;rw[if_pos hr];simp only[rqO]at C H ⊢;simp only[go_sem,Q0,Q1,Q2,Q3,Q4,Q5,Q6,Q7,Q8,Q9,Qa,Qb,Qc,Qd,Qe,Qf,Qg,Qh,Qi,Qj,Qk,reduceCtorEq,reduceIte,C,pq,Q,hy,ho,L,W,Z,E,z,H,e2,e3,e4,h4,F,U,hX,O]
    ·have F:¬a+(2+n)<=B.length:=by omega
     rw[if_neg F]at H;rw[if_neg hr];simp only[rqO]at C H ⊢;simp only[go_sem,Q0,Q1,Q2,Q3,Q4,Q5,Q6,Q7,Q8,Q9,Qa,Qb,Qc,Qd,Qe,Qf,Qg,Qh,Qi,Qj,Qk,reduceCtorEq,reduceIte,C,pq,Q,hy,ho,L,W,Z,E,z,H,e2]
   ·have E:(m:Int)<(n:Int):=by omega
    have z:m<n:=by omega
    rw[if_neg hq];simp only[rqO]at C ⊢;simp only[go_sem,Q0,Q1,Q2,Q3,Q4,Q5,Q6,Q7,Q8,Q9,Qa,Qb,Qc,Qd,Qe,Qf,Qg,Qh,Qi,Qj,Qk,reduceCtorEq,reduceIte,C,pq,Q,hy,ho,L,W,Z,E,z]
  ·rw[if_neg h]at C
   rw[if_neg h];simp only[rqO]at C ⊢;simp only[go_sem,Q0,Q1,Q2,Q3,Q4,Q5,Q6,Q7,Q8,Q9,Qa,Qb,Qc,Qd,Qe,Qf,Qg,Qh,Qi,Qj,Qk,reduceCtorEq,reduceIte,C,pq]
 ·rw[if_neg I]
  obtain⟨a,e⟩:=s;simp only at I;simp only[rqO];simp only[go_sem,Q0,Q1,Q2,Q3,Q4,Q5,Q6,Q7,Q8,Q9,Qa,Qb,Qc,Qd,Qe,Qf,Qg,Qh,Qi,Qj,Qk,reduceCtorEq,reduceIte,I]
theorem nQ(B:t7)(m:Nat)(s:Rs):(bR B m s).1.length<=m:=by
 unfold bR;split
 ·split
  ·split
   ·split
    ·rename_i h _;show(dd _ _).length<=_;rw[aw];omega
    ·exact bH _
   ·exact bH _
  ·exact bH _
 ·exact bH _
theorem GI(B:t7)(m:Nat)(s:Rs):(wR B m s).1.length<=m:=by
 unfold wR;split
 ·split
  ·show(dd _ _).length<=_;rw[aw];omega
  ·exact bH _
 ·exact bH _
theorem kV(B:t7)(s:Rs):0<=(uR B 1 s).1/\(uR B 1 s).1<256:=by
 unfold uR;split
 ·split
  ·have h:=wG ((B.drop s.a).take 1)
   have y:((B.drop s.a).take 1).length<=1:=by rw[aw];omega
   have C:256^((B.drop s.a).take 1).length<=256^1:=Nat.pow_le_pow_right (by decide) y;have z:(256:Nat)^1=256:=by decide
   constructor
   ·exact Int.natCast_nonneg _
   ·show((nB _:Nat):Int)<256;omega
  ·exact⟨Int.le_refl _,by show(0:Int)<256;decide⟩
 ·exact⟨Int.le_refl _,by show(0:Int)<256;decide⟩
theorem vu{B:t7}:∀{n:Nat}{es:List Ent}{s:Rs},(∀x∈es,x.name.length<=12/\x.dig.length<=32)->∀x∈(dy B n es s).1,x.name.length<=12/\x.dig.length<=32
 |0,_,_,h=>h
 |n+1,es,s,h=>by
  unfold dy;split
  ·refine vu fun x y=> ?_
   rw[ak,aZ]at y;rcases y with y|rfl
   ·exact h x y
   ·exact⟨nQ _ _ _,GI _ _ _⟩
  ·exact h
theorem uJ{B:t7}:∀{n:Nat}{es:List Rul}{s:Rs},(∀x∈es,x.text.length<=32)->∀x∈(dx B n es s).1,x.text.length<=32
 |0,_,_,h=>h
 |n+1,es,s,h=>by
  unfold dx;split
  ·refine uJ fun x y=> ?_
   rw[ak,aZ]at y;rcases y with y|rfl
   ·exact h x y
   ·exact nQ _ _ _
  ·exact h
theorem Cs(B:t7):dV (ik B):=by
 have z:=rN (B:=B) (n:=(hN B).1.toNat) (es:=[]) (s:=(hN B).2);have y:=rj (B:=B) (n:=(hK B).1.toNat) (es:=[]) (s:=(hK B).2);have C:=kV B (hT B).2;have E:=kV B (hL B).2;change 0<=(hN B).1/\(hN B).1<256 at C;change 0<=(hK B).1/\(hK B).1<256 at E;rw[aY]at z y
 exact⟨by have:=nQ B 12 (uR B 1 ⟨0,0⟩).2;show(hV B).1.length<=_;unfold hV;omega,by show(hL B).1.length<=_;unfold hL;omega,by show(hR B).1.length<=_;unfold hR;omega,
  fun x h=>by have:=vu (B:=B) (n:=(hN B).1.toNat) (es:=[]) (s:=(hN B).2) (fun x h=>by cases h) x h;omega,
  fun x h=>by have:=uJ (B:=B) (n:=(hK B).1.toNat) (es:=[]) (s:=(hK B).2) (fun x h=>by cases h) x h;omega⟩
def mnz:Man:=⟨[],0,0,0,0,[],[]⟩
def kv(B:t7):Man:=match nT B with|some m=>m|none=>mnz
def sZ(B:t7):Int:=match nT B with|some _=>0|none=>30
theorem xmj(B:t7)(F:B.length<=1000000000)(v:t7)(y fl fr z:Int)(es:List Ent)(s:Rs)(C:dD B s)(t:Tok)(tk:LAb)(h:Nat)
 (H:t= .clip/\tk=[]/\es=[]\/t= .id 160/\tk=[160]) (E:h=34060\/h=55060\/h=39060):
 run T (.ops qr) ⟨[(2,.ptr 102 0),(4,.ptr 12100 0),(5,.ptr 105 0)],[(102,zR),(105,mR v y fl fr z es t [] .clip),(12100,rdO B h s)],tk++ [h]⟩=
  some (.n,⟨[(2,.ptr 102 0),(4,.ptr 12100 0),(5,.ptr 105 0),(8,.int .i64 (uR B 1 s).1)],[(102,zR),(105,mR v y fl fr z es t [] .clip),(12100,rdO B 64060 (uR B 1 s).2)],tk++ [64060]⟩):=by
 have g:=f51 B F 1 (by omega) (by omega) s C;rw[show((1:Nat):Int)=1 from rfl]at g;simp only[zR,mR,rdO]at g ⊢;rcases H with⟨rfl,rfl,rfl⟩|⟨rfl,rfl⟩<;>rcases E with rfl|rfl|rfl<;>simp only[go_sem,Q0,Q1,Q2,Q3,Q4,Q5,Q6,Q7,Q8,Q9,Qa,Qb,Qc,Qd,Qe,Qf,Qg,Qh,Qi,Qj,Qk,reduceCtorEq,reduceIte,g,xj]
theorem xmi(B:t7)(O:B.length<=1000000000)(v:t7)(y fl fr h:Int)(es:List Ent)(s:Rs)(L:dD B s)(t:Tok)(tk:LAb)(rs:List Rul)(u:Tok)(C:LAb)(z:Nat)
 (J:dV ⟨v,y,fl,fr,h,es,rs⟩)
 (F:t= .clip/\tk=[]/\es=[]\/t= .id 160/\tk=[160]) (hu:u= .clip/\C=[]/\rs=[]\/u= .id 190/\C=[190]) (E:z=64060\/z=85060\/z=69060):
 run T (.ops qp) ⟨[(2,.ptr 102 0),(4,.ptr 12100 0),(5,.ptr 105 0)],[(102,zR),(105,mR v y fl fr h es t rs u),(12100,rdO B z s)],tk++(C++ [z])⟩=
  some (.n,⟨[(2,.ptr 102 0),(5,.ptr 105 0),(99,.bool (!decide (eR B s=0/\fj ⟨v,y,fl,fr,h,es,rs⟩=0)))],[(102,zR),(105,mR v y fl fr h es t rs u),(12100,rdO B 94060 s)],tk++(C++ [94060])⟩):=by
 have g:=f55 B O s L;have gm:=f13 ⟨v,y,fl,fr,h,es,rs⟩ J;generalize fj ⟨v,y,fl,fr,h,es,rs⟩=q at*;generalize eR B s=p at*
 by_cases I:p=0
 ·subst I
  by_cases H:q=0
  ·subst H
   simp only[zR,mR,rdO,Man.sv]at g gm ⊢;rcases F with⟨rfl,rfl,rfl⟩|⟨rfl,rfl⟩<;>rcases hu with⟨rfl,rfl,rfl⟩|⟨rfl,rfl⟩<;>rcases E with rfl|rfl|rfl<;>simp only[go_sem,Q0,Q1,Q2,Q3,Q4,Q5,Q6,Q7,Q8,Q9,Qa,Qb,Qc,Qd,Qe,Qf,Qg,Qh,Qi,Qj,Qk,reduceCtorEq,reduceIte,g,xfX,gm,po]
  ·simp only[zR,mR,rdO,Man.sv]at g gm ⊢
   rcases F with⟨rfl,rfl,rfl⟩|⟨rfl,rfl⟩<;>rcases hu with⟨rfl,rfl,rfl⟩|⟨rfl,rfl⟩<;>rcases E with rfl|rfl|rfl<;>simp only[go_sem,Q0,Q1,Q2,Q3,Q4,Q5,Q6,Q7,Q8,Q9,Qa,Qb,Qc,Qd,Qe,Qf,Qg,Qh,Qi,Qj,Qk,reduceCtorEq,reduceIte,g,xfX,gm,po,H]
 ·simp only[zR,mR,rdO,Man.sv]at g gm ⊢
  rcases F with⟨rfl,rfl,rfl⟩|⟨rfl,rfl⟩<;>rcases hu with⟨rfl,rfl,rfl⟩|⟨rfl,rfl⟩<;>rcases E with rfl|rfl|rfl<;>simp only[go_sem,Q0,Q1,Q2,Q3,Q4,Q5,Q6,Q7,Q8,Q9,Qa,Qb,Qc,Qd,Qe,Qf,Qg,Qh,Qi,Qj,Qk,reduceCtorEq,reduceIte,g,xfX,I]
attribute [-go_sem] qr qp
theorem f17(B:t7)(y:B.length<=1000000000):call T 17 [.byt B .no] [] 0=some ⟨.tup [.agg (kv B).sv,.int .i64 (sZ B)],[],[]⟩:=by
 have g0:=f50 B y;have k0:dD B ⟨0,0⟩:=⟨bH _⟩;have E:=f51 B y 1 (by omega) (by omega) ⟨0,0⟩ k0;have k1:=ep (n:=1) k0;have O:=f52 B y 12 (by omega) _ k1;have k2:dD B (hV B).2:=pd (n:=12) k1;have J:=f51 B y 4 (by omega) (by omega) _ k2;have k3:dD B (hE B).2:=ep (n:=4) k2;have L:=f51 B y 4 (by omega) (by omega) _ k3;have k4:dD B (hF B).2:=ep (n:=4) k3;have Q:=f51 B y 6 (by omega) (by omega) _ k4;have k5:dD B (hM B).2:=ep (n:=6) k4;have W:=f51 B y 6 (by omega) (by omega) _ k5;have k6:dD B (hT B).2:=ep (n:=6) k5;have U:=f51 B y 1 (by omega) (by omega) _ k6;have k7:dD B (hN B).2:=ep (n:=1) k6;have n1:=kV B (hT B).2;have n2:=kV B (hL B).2;change 0<=(hN B).1/\(hN B).1<256 at n1;change 0<=(hK B).1/\(hK B).1<256 at n2;have nn:(hN B).1=(((hN B).1.toNat:Nat):Int):=by omega
 have nk:(hK B).1=(((hK B).1.toNat:Nat):Int):=by omega
 obtain⟨H,tk',t1,q1,q2,I⟩:=xmD B y (hV B).1 (hE B).1 (hF B).1 (hM B).1 (hT B).1 (hN B).1.toNat [] (hN B).2 .clip [] 34060 (by rw[aY];omega) k7 (.inl ⟨rfl,rfl,rfl⟩) (.inl rfl);have k8:dD B (hL B).2:=vr k7;have g8:=f51 B y 1 (by omega) (by omega) _ k8;have k9:dD B (hK B).2:=ep (n:=1) k8;have gm:=f13 (ik B) (Cs B);change (H= .clip/\tk'=[]/\(hL B).1=[]\/H= .id 160/\tk'=[160])at q1;obtain⟨u',a2,u1,r1,r2,r3⟩:=xmC B y (hV B).1 (hE B).1 (hF B).1 (hM B).1 (hT B).1 (hL B).1 H tk' q1 (hK B).1.toNat [] (hK B).2 .clip [] 64060 (by rw[aY];omega) k9 (.inl ⟨rfl,rfl,rfl⟩) (.inl rfl);have a1:dD B (hR B).2:=uH k9;have g9:=f55 B y _ a1;change _/\_/\(hR B).1=[]\/_ at r1;rw[<-nn]at I;rw[<-nk]at r3;change run T _ _=some (Ex.x 0,⟨_,[_,(105,mR _ _ _ _ _ (hL B).1 H [] .clip),(12100,rdO B t1 (hL B).2)],_⟩)at I;change run T _ _=some (Ex.x 2,⟨_,[_,(105,mR _ _ _ _ _ (hL B).1 H (hR B).1 u'),(12100,rdO B u1 (hR B).2)],_⟩)at r3;change call T 51 _ _ _=some ⟨.int .i64 (hE B).1,[(0,rdO B 60 (hE B).2)],[60]⟩at J;change call T 51 _ _ _=some ⟨.int .i64 (hF B).1,[(0,rdO B 60 (hF B).2)],[60]⟩at L;change call T 51 _ _ _=some ⟨.int .i64 (hM B).1,[(0,rdO B 60 (hM B).2)],[60]⟩at Q;change call T 51 _ _ _=some ⟨.int .i64 (hT B).1,[(0,rdO B 60 (hT B).2)],[60]⟩at W;change call T 51 _ _ _=some ⟨.int .i64 (hN B).1,[(0,rdO B 60 (hN B).2)],[60]⟩at U;change call T 51 _ _ _=some ⟨.int .i64 (hK B).1,[(0,rdO B 60 (hK B).2)],[60]⟩at g8;change call T 52 _ _ _=some ⟨.byt (hV B).1 .no,[(0,rdO B 60 (hV B).2)],[60]⟩at O
 have Z:=xmj B y (hV B).1 (hE B).1 (hF B).1 (hM B).1 (hT B).1 (hL B).1 (hL B).2 k8 H tk' t1 q1 q2;have F:=xmi B y (hV B).1 (hE B).1 (hF B).1 (hM B).1 (hT B).1 (hL B).1 (hR B).2 a1 H tk' (hR B).1 u' a2 u1 (Cs B) q1 r1 r2;change run T _ _=some (Ex.n,⟨[_,_,_,(8,SV.int .i64 (hK B).1)],[_,_,(12100,rdO B 64060 (hK B).2)],_⟩)at Z;change run T _ _=some (Ex.n,⟨[_,_,(99,SV.bool (!decide (eR B (hR B).2=0/\fj (ik B)=0)))],_,_⟩)at F
 have a0:nT B=if(uR B 1 ⟨0,0⟩).1=21/\eR B (hR B).2=0/\fj (ik B)=0 then some (ik B)else none:=by unfold nT okP;rfl
 have a3:(ik B).sv=[.str (hV B).1,.int .i64 (hE B).1,.int .i64 (hF B).1,.int .i64 (hM B).1,.int .i64 (hT B).1,.lst 4 (bP (hL B).1) .no,.lst 4 (dl (hR B).1) .no]:=rfl;have z:bP []=[]:=rfl;have C:dl []=[]:=rfl;rw[show((1:Nat):Int)=1 from rfl]at E U;rw[show((12:Nat):Int)=12 from rfl]at O;rw[show((4:Nat):Int)=4 from rfl]at J L;rw[show((6:Nat):Int)=6 from rfl]at Q W;unfold kv sZ;rw[a0];rw[an xoB];simp only[aG]at I r3
 by_cases ht:(uR B 1 ⟨0,0⟩).1=21
 ·by_cases hb:eR B (hR B).2=0/\fj (ik B)=0
  ·rw[if_pos ⟨ht,hb⟩]
   rw[decide_eq_true hb]at F;simp only[a3];simp only[zR,mR,rdO,z,C,aB]at g0 E O J L Q W U I r3 Z F;rw[ht]at E;simp only[go_sem,Q0,Q1,Q2,Q3,Q4,Q5,Q6,Q7,Q8,Q9,Qa,Qb,Qc,Qd,Qe,Qf,Qg,Qh,Qi,Qj,Qk,reduceCtorEq,reduceIte,g0,xfY,E,xj,O,EL,J,L,Q,W,U,I,Z,r3,F]
  ·rw[if_neg (fun h=>hb h.2)]
   rw[decide_eq_false hb]at F;simp only[zR,mR,rdO,z,C,aB]at g0 E O J L Q W U I r3 Z F;rw[ht]at E;simp only[go_sem,Q0,Q1,Q2,Q3,Q4,Q5,Q6,Q7,Q8,Q9,Qa,Qb,Qc,Qd,Qe,Qf,Qg,Qh,Qi,Qj,Qk,reduceCtorEq,reduceIte,g0,xfY,E,xj,O,EL,J,L,Q,W,U,I,Z,r3,F];rcases q1 with⟨rfl,rfl,hz⟩|⟨rfl,rfl⟩<;>rcases r1 with⟨rfl,rfl,a4⟩|⟨rfl,rfl⟩<;>simp only[go_sem,Q0,Q1,Q2,Q3,Q4,Q5,Q6,Q7,Q8,Q9,Qa,Qb,Qc,Qd,Qe,Qf,Qg,Qh,Qi,Qj,Qk,reduceCtorEq,reduceIte,z,C,mnz,Man.sv]
 ·rw[if_neg (fun h=>ht h.1)]
  simp only[zR,mR,rdO,z,C,aB]at g0 E;simp only[go_sem,Q0,Q1,Q2,Q3,Q4,Q5,Q6,Q7,Q8,Q9,Qa,Qb,Qc,Qd,Qe,Qf,Qg,Qh,Qi,Qj,Qk,reduceCtorEq,reduceIte,g0,xfY,E,xj,ht,mnz,Man.sv,z,C]
attribute [go_sem] qr qp
theorem nK{B:t7}{n:Nat}{s:Rs}(h:¬s.e=0):(uR B n s).2=s:=by unfold uR;rw[if_neg h]
theorem xcm{B:t7}{n:Nat}{s:Rs}(h:¬s.e=0):(wR B n s).2=s:=by unfold wR;rw[if_neg h]
theorem OV{B:t7}{n:Nat}{s:Rs}(h:¬s.e=0):(bR B n s).2=s:=by unfold bR;rw[if_neg h]
theorem Gi{B:t7}{s:Rs}(h:¬s.e=0):(fN B s).2=s:=by show(wR B 32 (uR B 4 (bR B 12 (uR B 1 s).2).2).2).2=s;rw[nK h,OV h,nK h,xcm h]
theorem Fx{B:t7}{s:Rs}(h:¬s.e=0):(fK B s).2=s:=by show(uR B 4 (uR B 4 (bR B 32 (uR B 1 s).2).2).2).2=s;rw[nK h,OV h,nK h,nK h]
def fI(B:t7):Nat->List Ent->Rs->List Ent×Rs
 |0,es,s=>(es,s)
 |n+1,es,s=>fI B n (es++ [(fN B s).1]) (fN B s).2
def fD(B:t7):Nat->List Rul->Rs->List Rul×Rs
 |0,es,s=>(es,s)
 |n+1,es,s=>fD B n (es++ [(fK B s).1]) (fK B s).2
theorem rM{B:t7}:∀{n:Nat}{es:List Ent}{s:Rs},¬s.e=0->(fI B n es s).2=s
 |0,_,_,_=>rfl
 |n+1,es,s,h=>by show(fI B n _ (fN B s).2).2=s;rw[Gi h];exact rM h
theorem ri{B:t7}:∀{n:Nat}{es:List Rul}{s:Rs},¬s.e=0->(fD B n es s).2=s
 |0,_,_,_=>rfl
 |n+1,es,s,h=>by show(fD B n _ (fK B s).2).2=s;rw[Fx h];exact ri h
theorem kL{B:t7}:∀{n:Nat}{es:List Ent}{s:Rs},(fI B n es s).1.length=es.length+n
 |0,_,_=>rfl
 |n+1,es,s=>by show(fI B n _ _).1.length=_;rw[kL,ac,aH];omega
theorem kF{B:t7}:∀{n:Nat}{es:List Rul}{s:Rs},(fD B n es s).1.length=es.length+n
 |0,_,_=>rfl
 |n+1,es,s=>by show(fD B n _ _).1.length=_;rw[kF,ac,aH];omega
theorem vo{B:t7}:∀{n:Nat}{es:List Ent}{s:Rs},dD B s->dD B (fI B n es s).2
 |0,_,_,h=>h
 |n+1,es,s,h=>by show dD B (fI B n _ (fN B s).2).2;exact vo (o5 h)
theorem uF{B:t7}:∀{n:Nat}{es:List Rul}{s:Rs},dD B s->dD B (fD B n es s).2
 |0,_,_,h=>h
 |n+1,es,s,h=>by show dD B (fD B n _ (fK B s).2).2;exact uF (ov h)
theorem vp{B:t7}:∀{n:Nat}{es:List Ent}{s:Rs},(fI B n es s).2.e=0->dy B n es s=fI B n es s/\s.e=0
 |0,_,_,h=>⟨rfl,h⟩
 |n+1,es,s,h=>by
  by_cases y:s.e=0
  ·refine⟨?_,y⟩
   show(if s.e=0 then _ else _)=_;rw[if_pos y];exact(vp (n:=n) h).1
  ·rw[rM y]at h;exact absurd h y
theorem pz{B:t7}:∀{n:Nat}{es:List Rul}{s:Rs},(fD B n es s).2.e=0->dx B n es s=fD B n es s/\s.e=0
 |0,_,_,h=>⟨rfl,h⟩
 |n+1,es,s,h=>by
  by_cases y:s.e=0
  ·refine⟨?_,y⟩
   show(if s.e=0 then _ else _)=_;rw[if_pos y];exact(pz (n:=n) h).1
  ·rw[ri y]at h;exact absurd h y
theorem vt{B:t7}:∀{n:Nat}{es:List Ent}{s:Rs},(dy B n es s).2.e=0->dy B n es s=fI B n es s
 |0,_,_,_=>rfl
 |n+1,es,s,h=>by
  have u:dy B (n+1) es s=if s.e=0 then dy B n (es++ [(fN B s).1]) (fN B s).2 else(es,s):=rfl
  by_cases y:s.e=0
  ·rw[u,if_pos y]at h ⊢
   exact vt h
  ·rw[u,if_neg y]at h;exact absurd h y
theorem uI{B:t7}:∀{n:Nat}{es:List Rul}{s:Rs},(dx B n es s).2.e=0->dx B n es s=fD B n es s
 |0,_,_,_=>rfl
 |n+1,es,s,h=>by
  have u:dx B (n+1) es s=if s.e=0 then dx B n (es++ [(fK B s).1]) (fK B s).2 else(es,s):=rfl
  by_cases y:s.e=0
  ·rw[u,if_pos y]at h ⊢
   exact uI h
  ·rw[u,if_neg y]at h;exact absurd h y
theorem Tm{B:t7}{n:Nat}{s:Rs}(h:(uR B n s).2.e=0):s.e=0:=by
 by_cases y:s.e=0
 ·exact y
 ·rw[nK y]at h;exact h
theorem xap{B:t7}{s:Rs}(h:eR B s=0):s.e=0:=by
 unfold eR at h;split at h
 ·assumption
 ·exact h
def qN(B:t7):Nat:=min (hN B).1.toNat 17
def qL(B:t7):List Ent×Rs:=fI B (qN B) [] (hN B).2
def qK(B:t7):Int×Rs:=uR B 1 (qL B).2
def qM(B:t7):Nat:=min (qK B).1.toNat 9
def qR(B:t7):List Rul×Rs:=fD B (qM B) [] (qK B).2
def qz(B:t7):Man:=⟨(hV B).1,(hE B).1,(hF B).1,(hM B).1,(hT B).1,(qL B).1,(qR B).1⟩
def okQ(B:t7):Prop:=(uR B 1 ⟨0,0⟩).1=21/\eR B (qR B).2=0/\fj (qz B)=0
instance (B:List UInt8):Decidable (okQ B):=by unfold okQ;infer_instance
theorem xeB{B:t7}(h:okQ B):okP B/\qz B=ik B:=by
 obtain⟨I,z,F⟩:=h;obtain⟨T,Q⟩:=gW F;have H:=xap z;obtain⟨r1,J⟩:=pz (B:=B) (n:=qM B) (es:=[]) (s:=(qK B).2) H;have O:=Tm (B:=B) (n:=1) (s:=(qL B).2) J;obtain⟨r3,U⟩:=vp (B:=B) (n:=qN B) (es:=[]) (s:=(hN B).2) O;have W:(qL B).1.length=0+qN B:=kL;have Z:(qR B).1.length=0+qM B:=kF
 have n1:qN B=(hN B).1.toNat:=by have:(qL B).1.length<=16:=T;have:qN B=min (hN B).1.toNat 17:=rfl;omega
 have E:hL B=qL B:=by show dy B (hN B).1.toNat [] (hN B).2=fI B (qN B) [] (hN B).2;rw[<-n1];exact r3
 have L:hK B=qK B:=by unfold hK qK;rw[E]
 have n2:qM B=(qK B).1.toNat:=by have:(qR B).1.length<=8:=Q;have:qM B=min (qK B).1.toNat 9:=rfl;omega
 have y:hR B=qR B:=by show dx B (hK B).1.toNat [] (hK B).2=fD B (qM B) [] (qK B).2;rw[L,<-n2];exact r1
 have C:qz B=ik B:=by unfold qz ik;rw[E,y]
 exact⟨⟨I,by rw[y];exact z,by rw[<-C];exact F⟩,C⟩
theorem xhW{B:t7}(h:okP B):okQ B:=by
 obtain⟨J,C,H⟩:=h;obtain⟨W,U⟩:=gW H;have z:=xap C;have r1:=uI (B:=B) (n:=(hK B).1.toNat) (es:=[]) (s:=(hK B).2) z;have L:=(pz (B:=B) (n:=(hK B).1.toNat) (es:=[]) (s:=(hK B).2) (by rw[<-r1];exact z)).2;have Q:=Tm (B:=B) (n:=1) (s:=(hL B).2) L;have r3:=vt (B:=B) (n:=(hN B).1.toNat) (es:=[]) (s:=(hN B).2) Q
 have Z:(hL B).1.length=0+(hN B).1.toNat:=by show(dy B (hN B).1.toNat [] (hN B).2).1.length=_;rw[r3];exact kL
 have l2:(hR B).1.length=0+(hK B).1.toNat:=by show(dx B (hK B).1.toNat [] (hK B).2).1.length=_;rw[r1];exact kF
 have T:(hL B).1.length<=16:=W;have O:(hR B).1.length<=8:=U;have n1:qN B=(hN B).1.toNat:=by unfold qN;omega
 have F:qL B=hL B:=by show fI B (qN B) [] (hN B).2=dy B (hN B).1.toNat [] (hN B).2;rw[n1,r3]
 have E:qK B=hK B:=by unfold hK qK;rw[F]
 have n2:qM B=(hK B).1.toNat:=by unfold qM;rw[E];omega
 have y:qR B=hR B:=by show fD B (qM B) [] (qK B).2=dx B (hK B).1.toNat [] (hK B).2;rw[E,n2,r1]
 have I:qz B=ik B:=by unfold qz ik;rw[F,y]
 exact⟨J,by rw[y];exact C,by rw[I];exact H⟩
theorem CB(B:t7):(if okQ B then some (qz B)else none)=nT B:=by
 unfold nT
 by_cases h:okQ B
 ·obtain⟨z,y⟩:=xeB h
  rw[if_pos h,if_pos z,y]
 ·rw[if_neg h,if_neg (fun k=>h (xhW k))]
theorem vq{B:t7}:∀{n:Nat}{es:List Ent}{s:Rs},(∀x∈es,x.name.length<=12/\x.dig.length<=32)->∀x∈(fI B n es s).1,x.name.length<=12/\x.dig.length<=32
 |0,_,_,h=>h
 |n+1,es,s,h=>vq (n:=n) fun x y=>by
  rcases ak.1 y with y|y
  ·exact h x y
  ·rw[aZ.1 y];exact⟨nQ _ _ _,GI _ _ _⟩
theorem uG{B:t7}:∀{n:Nat}{es:List Rul}{s:Rs},(∀x∈es,x.text.length<=32)->∀x∈(fD B n es s).1,x.text.length<=32
 |0,_,_,h=>h
 |n+1,es,s,h=>uG (n:=n) fun x y=>by
  rcases ak.1 y with y|y
  ·exact h x y
  ·rw[aZ.1 y];exact nQ _ _ _
theorem yu:∀(l:t7)(a:Nat),nF a l=a*256^l.length+nB l
 |[],a=>by simp[nF,nB]
 |b::r,a=>by have y:nF a (b::r)=nF (a*256+b.toNat) r:=rfl;have h:nB (b::r)=nF (0*256+b.toNat) r:=rfl;rw[y,h,yu r (a*256+b.toNat),yu r (0*256+b.toNat),aA,Nat.pow_succ,gz,cj,bA,Nat.mul_assoc,cm 256,dH]
theorem xax:∀(l:t7)(a:Nat),be l.length ((nF a l:Nat):Int)=l
 |[],a=>rfl
 |b::r,a=>by
  have z:=xax r (a*256+b.toNat);have h:nF a (b::r)=nF (a*256+b.toNat) r:=rfl;show gq _ (8*r.length)::be r.length _=_;rw[h,z]
  congr 1
  have E:=b.toNat_lt;have y:=wG r;apply UInt8.toNat_inj.1;rw[vE,yu,Nat.pow_mul,show(2:Nat)^8=256 from rfl];have C:0<256^r.length:=Nat.pow_pos (by decide);rw[cm (a*256+b.toNat),Nat.mul_add_div C,xx y,dL];omega
theorem xat(l:t7)(h:l.length<=6):bu l.length ((nB l:Nat):Int)=l:=by
 have y:=pB l h;unfold bu;have e:aQ.wrap ((nB l:Nat):Int)=((nB l:Nat):Int):=by rw[bK];omega
 rw[e];exact xax l 0
theorem kB{B:t7}{a n:Nat}(h:a+n<=B.length):B.take (a+n)=B.take a++(B.drop a).take n/\((B.drop a).take n).length=n:=by refine⟨?_,by rw[aw,aI];omega⟩;rw[List.take_add]
theorem gU{B:t7}{n:Nat}(hn:n<=6){s:Rs}(h:(uR B n s).2.e=0):s.e=0/\B.take (uR B n s).2.a=B.take s.a++bu n (uR B n s).1/\(uR B n s).2.a<=B.length:=by
 unfold uR at h ⊢
 by_cases z:s.e=0
 ·rw[if_pos z]at h ⊢
  by_cases y:s.a+n<=B.length
  ·rw[if_pos y]at h ⊢
   obtain⟨E,C⟩:=kB y;refine⟨z, ?_,y⟩;have:=xat ((B.drop s.a).take n) (by rw[C];exact hn);rw[C]at this;simp only;rw[this];exact E
  ·rw[if_neg y]at h;simp at h
 ·rw[if_neg z]at h;exact absurd h z
theorem xcl{B:t7}{n:Nat}{s:Rs}(h:(wR B n s).2.e=0):s.e=0/\B.take (wR B n s).2.a=B.take s.a++(wR B n s).1/\(wR B n s).2.a<=B.length:=by
 unfold wR at h ⊢
 by_cases y:s.e=0
 ·rw[if_pos y]at h ⊢
  by_cases z:s.a+n<=B.length
  ·rw[if_pos z]at h ⊢
   exact⟨y,(kB z).1,z⟩
  ·rw[if_neg z]at h;simp at h
 ·rw[if_neg y]at h;exact absurd h y
theorem yA{B:t7}{m:Nat}{s:Rs}(h:(bR B m s).2.e=0):s.e=0/\B.take (bR B m s).2.a=B.take s.a++(bu 2 ((bR B m s).1.length:Int)++(bR B m s).1)/\(bR B m s).2.a<=B.length:=by
 unfold bR at h ⊢
 by_cases y:s.e=0
 ·rw[if_pos y]at h ⊢
  by_cases z:s.a+2<=B.length
  ·rw[if_pos z]at h ⊢
   obtain⟨J,F⟩:=kB z
   by_cases E:nB ((B.drop s.a).take 2)<=m
   ·rw[if_pos E]at h ⊢
    by_cases C:s.a+2+nB ((B.drop s.a).take 2)<=B.length
    ·rw[if_pos C]at h ⊢
     obtain⟨I,H⟩:=kB C;have:=xat ((B.drop s.a).take 2) (by rw[F];decide);rw[F]at this;refine⟨y, ?_,by simp only;omega⟩;simp only;rw[H,this,<-dH,I,J,av]
    ·rw[if_neg C]at h;simp at h
   ·rw[if_neg E]at h;simp at h
  ·rw[if_neg z]at h;simp at h
 ·rw[if_neg y]at h;exact absurd h y
theorem Gh{B:t7}{s:Rs}(h:(fN B s).2.e=0):s.e=0/\B.take (fN B s).2.a=B.take s.a++lk (fN B s).1:=by have y:=xcl (B:=B) (n:=32) (s:=(uR B 4 (bR B 12 (uR B 1 s).2).2).2) h;have C:=gU (B:=B) (n:=4) (by decide) y.1;have z:=yA (B:=B) (m:=12) C.1;have E:=gU (B:=B) (n:=1) (by decide) z.1;refine⟨E.1, ?_⟩;show B.take (wR B 32 (uR B 4 (bR B 12 (uR B 1 s).2).2).2).2.a=_;rw[y.2.1,C.2.1,z.2.1,E.2.1];unfold lk fN;simp only[av]
theorem Fw{B:t7}{s:Rs}(h:(fK B s).2.e=0):s.e=0/\B.take (fK B s).2.a=B.take s.a++lH (fK B s).1:=by have y:=gU (B:=B) (n:=4) (by decide) (s:=(uR B 4 (bR B 32 (uR B 1 s).2).2).2) h;have C:=gU (B:=B) (n:=4) (by decide) y.1;have z:=yA (B:=B) (m:=32) C.1;have E:=gU (B:=B) (n:=1) (by decide) z.1;refine⟨E.1, ?_⟩;show B.take (uR B 4 (uR B 4 (bR B 32 (uR B 1 s).2).2).2).2.a=_;rw[y.2.1,C.2.1,z.2.1,E.2.1];unfold lH fK;simp only[av]
theorem rO{B:t7}:∀(n:Nat)(es:List Ent)(s:Rs),(dy B n es s).2.e=0->s.e=0/\∃l,(dy B n es s).1=es++l/\l.length=n/\B.take (dy B n es s).2.a=B.take s.a++(l.map lk).flatten
 |0,es,s,h=>⟨h,[],by rw[bw];rfl,rfl,by simp[dy]⟩
 |n+1,es,s,h=>by
  have u:dy B (n+1) es s=if s.e=0 then dy B n (es++ [(fN B s).1]) (fN B s).2 else(es,s):=rfl
  by_cases y:s.e=0
  ·rw[u,if_pos y]at h ⊢
   obtain⟨C,l,z,E,F⟩:=rO n _ _ h;refine⟨y,(fN B s).1::l,by rw[z,av];rfl,by rw[aA,E], ?_⟩;rw[F,(Gh C).2,aE,cE,av]
  ·rw[u,if_neg y]at h;exact absurd h y
theorem rk{B:t7}:∀(n:Nat)(es:List Rul)(s:Rs),(dx B n es s).2.e=0->s.e=0/\∃l,(dx B n es s).1=es++l/\l.length=n/\B.take (dx B n es s).2.a=B.take s.a++(l.map lH).flatten
 |0,es,s,h=>⟨h,[],by rw[bw];rfl,rfl,by simp[dx]⟩
 |n+1,es,s,h=>by
  have u:dx B (n+1) es s=if s.e=0 then dx B n (es++ [(fK B s).1]) (fK B s).2 else(es,s):=rfl
  by_cases y:s.e=0
  ·rw[u,if_pos y]at h ⊢
   obtain⟨C,l,z,E,F⟩:=rk n _ _ h;refine⟨y,(fK B s).1::l,by rw[z,av];rfl,by rw[aA,E], ?_⟩;rw[F,(Fw C).2,aE,cE,av]
  ·rw[u,if_neg y]at h;exact absurd h y
theorem xfz{B:t7}{s:Rs}(h:eR B s=0):s.e=0/\B.take s.a=B:=by
 unfold eR at h
 by_cases y:s.e=0
 ·rw[if_pos y]at h
  by_cases z:s.a<B.length
  ·rw[if_pos z]at h;exact absurd h (by decide)
  ·exact⟨y,bB (by omega)⟩
 ·rw[if_neg y]at h;exact absurd h y
theorem SA{B:t7}{m:Man}(h:nT B=some m):fX m=B:=by
 unfold nT at h
 by_cases E:okP B
 ·rw[if_pos E]at h
  obtain⟨h1,U,y⟩:=E;obtain rfl:=aq.inj h;have H:=pG y;have z:=pF y;obtain⟨-, -,hn,hr,hv,u0,u1,u2,u3,u4,u5⟩:=mq y;have a0:=(gh hv).2;obtain⟨e9,t9⟩:=xfz U;obtain⟨e8,rs,r1,Z,r3⟩:=rk (B:=B) (hK B).1.toNat [] (hK B).2 e9;obtain⟨W,t8, -⟩:=gU (B:=B) (n:=1) (by decide) (s:=(hL B).2) e8;obtain⟨e6,es,J,s2,s3⟩:=rO (B:=B) (hN B).1.toNat [] (hN B).2 W;obtain⟨e5,t6, -⟩:=gU (B:=B) (n:=1) (by decide) (s:=(hT B).2) e6;obtain⟨e4,t5, -⟩:=gU (B:=B) (n:=6) (by decide) (s:=(hM B).2) e5;obtain⟨e3,t4, -⟩:=gU (B:=B) (n:=6) (by decide) (s:=(hF B).2) e4;obtain⟨e2,t3, -⟩:=gU (B:=B) (n:=4) (by decide) (s:=(hE B).2) e3;obtain⟨Q,t2, -⟩:=gU (B:=B) (n:=4) (by decide) (s:=(hV B).2) e2;obtain⟨e0,t1, -⟩:=yA (B:=B) (m:=12) (s:=(uR B 1 ⟨0,0⟩).2) Q;obtain⟨-,O, -⟩:=gU (B:=B) (n:=1) (by decide) (s:=⟨0,0⟩) e0;rw[h1]at O;rw[aG]at r1 J;have n0:=(kV B (hT B).2).1;have T:=(kV B (hL B).2).1
  have L:((hL B).1.length:Int)=(hN B).1:=by have:(hL B).1=es:=J;rw[this,s2];exact Int.toNat_of_nonneg n0
  have F:((hR B).1.length:Int)=(hK B).1:=by have:(hR B).1=rs:=r1;rw[this,Z];exact Int.toNat_of_nonneg T
  have I:fX (ik B)=bu 1 21++((bu 2 ((ik B).vendor.length:Int)++(ik B).vendor)++(bu 4 (ik B).ver++(bu 4 (ik B).flr++(bu 6 (ik B).frm++(bu 6 (ik B).til++(bu 1 ((ik B).ents.length:Int)++(((ik B).ents.map lk).flatten++(bu 1 ((ik B).ruls.length:Int)++(((ik B).ruls.map lH).flatten++ []))))))))):=by unfold fX hdM;rw[if_pos y,pS _ _ (fun x C=>by have:=(H x C).n;omega),pR _ _ (fun x C=>by have:=(z x C).n;omega),mE _ _ (by omega)];simp only[av,aG,bw]
  rw[I]
  have q9:B.take (hR B).2.a=B.take (hK B).2.a++((hR B).1.map lH).flatten:=by have:(hR B).1=rs:=r1;rw[this];exact r3
  have q7:B.take (hL B).2.a=B.take (hN B).2.a++((hL B).1.map lk).flatten:=by have:(hL B).1=es:=J;rw[this];exact s3
  have q8:B.take (hK B).2.a=B.take (hL B).2.a++bu 1 (hK B).1:=t8;have q6:B.take (hN B).2.a=B.take (hT B).2.a++bu 1 (hN B).1:=t6;have q5:B.take (hT B).2.a=B.take (hM B).2.a++bu 6 (hT B).1:=t5;have q4:B.take (hM B).2.a=B.take (hF B).2.a++bu 6 (hM B).1:=t4;have q3:B.take (hF B).2.a=B.take (hE B).2.a++bu 4 (hF B).1:=t3;have q2:B.take (hE B).2.a=B.take (hV B).2.a++bu 4 (hE B).1:=t2;have q1:B.take (hV B).2.a=B.take (uR B 1 ⟨0,0⟩).2.a++(bu 2 ((hV B).1.length:Int)++(hV B).1):=t1;have q0:B.take (uR B 1 ⟨0,0⟩).2.a=bu 1 21:=by rw[O];rfl
  have hB:B=bu 1 21++(bu 2 ((hV B).1.length:Int)++(hV B).1)++bu 4 (hE B).1++bu 4 (hF B).1++bu 6 (hM B).1++bu 6 (hT B).1++bu 1 ((hL B).1.length:Int)++((hL B).1.map lk).flatten++bu 1 ((hR B).1.length:Int)++((hR B).1.map lH).flatten:=by
   conv=>lhs;rw[<-t9,q9,q8,q7,q6,q5,q4,q3,q2,q1,q0]
   rw[L,F]
  conv=>rhs;rw[hB]
  simp only[ik,av,bw]
 ·rw[if_neg E]at h;cases h
end Go.Proofs.YtkcjdeofknkndaaGreatDoor
