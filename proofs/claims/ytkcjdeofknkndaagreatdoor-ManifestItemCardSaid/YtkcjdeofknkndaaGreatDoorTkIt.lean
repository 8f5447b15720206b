/- What the functions come to. No condition. -/
import Derived.Test.YtkcjdeofknkndaaGreatDoorTfIt
import Derived.Test.YtkcjdeofknkndaaGreatDoorTgIt
import Derived.Test.YtkcjdeofknkndaaGreatDoorThIt
open Int renaming natCast_zero -> av
open Go.IntKind renaming i64 -> ac, u64 -> aZ, wrap_u64 -> cB
open List renaming append_assoc -> aA, append_nil -> bJ, cons_append -> aJ, drop_eq_getElem_cons -> aS, drop_length -> aX, drop_zero -> bh, flatten_cons -> dj, foldl_cons -> cT, getD_cons_succ -> bY, getD_cons_zero -> bL, getD_eq_getElem?_getD -> aa, getElem?_eq_getElem -> ab, getElem_of_mem -> cf, length_append -> af, length_cons -> aC, length_nil -> aB, length_take -> aj, map_cons -> aI, mem_append -> al, mem_cons -> an, mem_cons_of_mem -> aq, mem_cons_self -> aD, mem_singleton -> ba, nil_append -> aF, take -> du, take_of_length_le -> ay
open Nat renaming add_mul -> bI, lt_or_ge -> bX, mod_eq_of_lt -> dV, mul_comm -> cL, zero_add -> cK, zero_le -> bU, zero_mul -> ly
open UInt8 renaming ofInt -> bO
set_option maxRecDepth 100000
set_option maxHeartbeats 16000000
set_option linter.unusedSimpArgs false
set_option linter.unusedVariables false
namespace Go.Proofs.YtkcjdeofknkndaaGreatDoor
open Go.Sy
open UInt8 renaming reduceLT -> Q0, reduceLE -> Q1
open Int renaming reduceToNat -> Q2, reduceLE -> Q3, reduceLT -> Q4, reduceEq -> Q5, reduceNe -> Q6, reduceNeg -> Q7, reduceAdd -> Q8, reduceSub -> Q9, reduceMul -> Qa
open Nat renaming reducePow -> Qb, reduceDiv -> Qc, reduceMod -> Qd, reduceAdd -> Qe, reduceSub -> Qf, reduceMul -> Qg, reduceLT -> Qh, reduceLeDiff -> Qi, reduceEqDiff -> Qj, reduceBEq -> Qk
def gi{α:Type}(p:α->Bool):List α->Nat->Int
 |[],_=> -1
 |x::r,i=>if p x=true then(i:Int)else gi p r (i+1)
def itE(e:Ev)(x:Ent):Bool:=decide (e.reg=vu x.role)&&(decide (e.dg.getD 1 []=x.dig)&&decide (e.data=rQ x.name x.ver))
def ET(x:Ent):Prop:=0<=x.ver/\x.ver<=1000000/\x.name.length<=1000000
theorem Tj{l:List Ent}{i:Nat}(h:lQ l i=0):1<=(l.getD i en0).role/\(l.getD i en0).role<=3/\0<=(l.getD i en0).ver/\(l.getD i en0).ver<=1000000/\(l.getD i en0).dig.length=32/\Pr.nameB (l.getD i en0).name=true:=by
 unfold lQ at h;generalize l.getD i en0=x at*
 repeat' split at h
 all_goals first|omega|skip
 all_goals (refine⟨by omega,by omega,by omega,by omega,by omega,by assumption⟩)
theorem wb(l:List Ent):∀(n i:Nat),gW l n i=0->∀k,i<=k->k<i+n->lQ l k=0
 |0,i,_,k,h1,h2=>by omega
 |n+1,i,h,k,h1,h2=>by
  unfold gW at h
  by_cases h0:lQ l i=0
  ·rw[if_pos h0]at h
   rcases bX i k with h3|h3
   ·exact wb l n (i+1) h k (by omega) (by omega)
   ·have:k=i:=by omega
    rw[this];exact h0
  ·rw[if_neg h0]at h;exact absurd h h0
theorem tg{m:Man}(h:gA m=0):gW m.ents m.ents.length 0=0/\ie m.ruls=0/\m.ents.length<=16/\m.ruls.length<=8/\Pr.nameB m.vendor=true/\0<=m.flr/\m.flr<=m.ver/\m.ver<=1000000/\0<=m.frm/\m.frm<m.til/\m.til<=1099511627776:=by
 unfold gA at h
 by_cases h0:Pr.nameB m.vendor=true
 ·rw[if_pos h0]at h
  repeat' split at h
  all_goals first|(exfalso;omega)|skip
  refine⟨by assumption,h,by omega,by omega,h0,by omega,by omega,by omega,by omega,by omega,by omega⟩
 ·rw[if_neg h0]at h;omega
theorem td{m:Man}(h:gA m=0):∀x∈m.ents,1<=x.role/\x.role<=3/\ET x/\x.dig.length=32/\Pr.nameB x.name=true:=by
 intro x hx;obtain⟨i,hi,rfl⟩:=cf hx;have h1:=Tj (wb m.ents _ 0 (tg h).1 i (bU _) (by omega));have e:m.ents.getD i en0=m.ents[i]:=by rw[aa,ab hi];rfl
 rw[e]at h1;obtain⟨a,b,c,d,f,g⟩:=h1;have:=iV g;exact⟨a,b,⟨c,d,by omega⟩,f,g⟩
theorem f76(e:Ev)(x:Ent)(hd:e.dg.length=2)(hx:ET x):call T 76 [.agg x.sv,.ptr 0 0] [.rc e.sv] 0=some ⟨.bool (itE e x),[(0,.rc e.sv)],[]⟩:=by
 obtain⟨h0,h1,h2⟩:=hx;have g1:=f33 x.role;have g2:=f77 (e.dg.getD 1 []) x.dig;obtain⟨v,hv⟩:=Int.eq_ofNat_of_zero_le h0;have g3:=f78 v (by omega);have hl:=kB 6 v (by omega);obtain⟨g,k,ds,b⟩:=e;obtain⟨ro,na,ve,di⟩:=x;simp only at hd hv h2 g1 g2;subst hv;rw[two ds [] hd]at*;generalize ds.getD 0 []=d0 at*;generalize ds.getD 1 []=d1 at*;have hbl:bls [d0,d1]=[[.byt d0 .no],[.byt d1 .no]]:=rfl;simp only[bL,bY]at g2;rw[ao xnu];unfold itE Ev.sv Ent.sv rQ;have c1:na.length+1<=9223372036854775807:=by omega
 have c2:na.length+1+(dec v).length<=9223372036854775807:=by omega
 simp only[hbl,bL,bY,Int.toNat_natCast]
 by_cases a1:g=vu ro
 ·by_cases a2:d1=di
  ·rw[decide_eq_true a2]at g2
   simp only[go_sem,Q0,Q1,Q2,Q3,Q4,Q5,Q6,Q7,Q8,Q9,Qa,Qb,Qc,Qd,Qe,Qf,Qg,Qh,Qi,Qj,Qk,reduceCtorEq,reduceIte,g1,Ft,a1,g2,wv,g3,xoi,c1,c2,decide_eq_true a2]
  ·rw[decide_eq_false a2]at g2
   simp only[go_sem,Q0,Q1,Q2,Q3,Q4,Q5,Q6,Q7,Q8,Q9,Qa,Qb,Qc,Qd,Qe,Qf,Qg,Qh,Qi,Qj,Qk,reduceCtorEq,reduceIte,g1,Ft,a1,g2,wv,decide_eq_false a2]
 ·simp only[go_sem,Q0,Q1,Q2,Q3,Q4,Q5,Q6,Q7,Q8,Q9,Qa,Qb,Qc,Qd,Qe,Qf,Qg,Qh,Qi,Qj,Qk,reduceCtorEq,reduceIte,g1,Ft,a1]
theorem l75(e:Ev)(es:List Ent)(hd:e.dg.length=2)(hx:∀x∈es,ET x)(hn:es.length<=1000000):∀(n i:Nat),es.length-i=n->i<=es.length->
 run T (.loop PP) ⟨[(0,.lst 4 (bD es) .no),(1,.fn 76 [] [.ptr 0 0]),(7,.int .i64 es.length),(8,.int .i64 i)],[(0,.rc e.sv)],[]⟩=
 if gi (itE e) (es.drop i) i= -1 then some (.x 0,⟨[],[(0,.rc e.sv)],[]⟩)else some (.r,⟨[(4,.int .i64 (gi (itE e) (es.drop i) i))],[(0,.rc e.sv)],[]⟩):=by
 intro n;induction n with
 |zero=>
  intro i h0 h1;have:i=es.length:=by omega
  subst this;rw[ai,aX];simp only[go_sem,Q0,Q1,Q2,Q3,Q4,Q5,Q6,Q7,Q8,Q9,Qa,Qb,Qc,Qd,Qe,Qf,Qg,Qh,Qi,Qj,Qk,reduceCtorEq,reduceIte,gi]
 |succ n ih=>
  intro i h0 h1;have hi:i<es.length:=by omega
  have e1:=cg i (by omega);have ih':=ih (i+1) (by omega) (by omega);have hv:=bf es;have hg:=dm es i hi;have g:=f76 e (es.getD i en0) hd (hx _ (cY es en0 i hi));have hdr:es.drop i=es.getD i en0::es.drop (i+1):=by rw[aS hi,aa,ab hi];rfl
  rw[hdr];generalize es.drop (i+1)=R at*;generalize es.getD i en0=x at*;obtain⟨ro,na,ve,di⟩:=x;simp only[Ev.sv,Ent.sv]at*;rw[ai];unfold gi;cases hb:itE e ⟨ro,na,ve,di⟩with
  |true=>
   rw[hb]at g;have hne:¬(i:Int)= -1:=by omega
   simp only[go_sem,Q0,Q1,Q2,Q3,Q4,Q5,Q6,Q7,Q8,Q9,Qa,Qb,Qc,Qd,Qe,Qf,Qg,Qh,Qi,Qj,Qk,reduceCtorEq,reduceIte,hi,e1,hv,hg,g,xlf,hne]
  |false=>rw[hb]at g;simp only[go_sem,Q0,Q1,Q2,Q3,Q4,Q5,Q6,Q7,Q8,Q9,Qa,Qb,Qc,Qd,Qe,Qf,Qg,Qh,Qi,Qj,Qk,reduceCtorEq,reduceIte,hi,e1,hv,hg,g,xlf,ih']
theorem f75(e:Ev)(es:List Ent)(hd:e.dg.length=2)(hx:∀x∈es,ET x)(hn:es.length<=1000000):
 call T 75 [.lst 4 (bD es) .no,.fn 76 [] [.ptr 0 0]] [.rc e.sv] 0=some ⟨.int .i64 (gi (itE e) es 0),[(0,.rc e.sv)],[]⟩:=by
 have h:=l75 e es hd hx hn _ 0 rfl (by omega);simp only[av,bh]at h;have hv:=bf es;rw[ao xnv];unfold Ev.sv at h ⊢
 by_cases hq:gi (itE e) es 0= -1
 ·rw[if_pos hq]at h
  simp only[go_sem,Q0,Q1,Q2,Q3,Q4,Q5,Q6,Q7,Q8,Q9,Qa,Qb,Qc,Qd,Qe,Qf,Qg,Qh,Qi,Qj,Qk,reduceCtorEq,reduceIte,hv,h,hq]
 ·rw[if_neg hq]at h
  simp only[go_sem,Q0,Q1,Q2,Q3,Q4,Q5,Q6,Q7,Q8,Q9,Qa,Qb,Qc,Qd,Qe,Qf,Qg,Qh,Qi,Qj,Qk,reduceCtorEq,reduceIte,hv,h]
def alR(b:List UInt8)(r:Rul):Bool:=alw r.kind r.text r.lo r.hi b
theorem f81(e:Ev)(r:Rul)(ht:r.text.length<=1000000)(hb:e.data.length<=1000000):call T 81 [.agg r.sv,.ptr 0 0] [.rc e.sv] 0=some ⟨.bool (alR e.data r),[(0,.rc e.sv)],[]⟩:=by have g:=f35 r.kind r.text r.lo r.hi e.data (by omega) (by omega);obtain⟨g',k,ds,b⟩:=e;obtain⟨q,t,lo,hi⟩:=r;rw[ao xnp];unfold alR Ev.sv Rul.sv;simp only[go_sem,Q0,Q1,Q2,Q3,Q4,Q5,Q6,Q7,Q8,Q9,Qa,Qb,Qc,Qd,Qe,Qf,Qg,Qh,Qi,Qj,Qk,reduceCtorEq,reduceIte,g,xop]
theorem l80(e:Ev)(rs:List Rul)(hb:e.data.length<=1000000)(hx:∀x∈rs,x.text.length<=1000000)(hn:rs.length<=1000000):∀(n i:Nat),rs.length-i=n->i<=rs.length->
 run T (.loop PK) ⟨[(0,.lst 4 (bT rs) .no),(1,.fn 81 [] [.ptr 0 0]),(7,.int .i64 rs.length),(8,.int .i64 i)],[(0,.rc e.sv)],[]⟩=
 if gi (alR e.data) (rs.drop i) i= -1 then some (.x 0,⟨[],[(0,.rc e.sv)],[]⟩)else some (.r,⟨[(4,.int .i64 (gi (alR e.data) (rs.drop i) i))],[(0,.rc e.sv)],[]⟩):=by
 intro n;induction n with
 |zero=>
  intro i h0 h1;have:i=rs.length:=by omega
  subst this;rw[ai,aX];simp only[go_sem,Q0,Q1,Q2,Q3,Q4,Q5,Q6,Q7,Q8,Q9,Qa,Qb,Qc,Qd,Qe,Qf,Qg,Qh,Qi,Qj,Qk,reduceCtorEq,reduceIte,gi]
 |succ n ih=>
  intro i h0 h1;have hi:i<rs.length:=by omega
  have e1:=cg i (by omega);have ih':=ih (i+1) (by omega) (by omega);have hv:=bj rs;have hg:=gK rs i hi;have g:=f81 e (rs.getD i rl0) (hx _ (cY rs rl0 i hi)) hb;have hdr:rs.drop i=rs.getD i rl0::rs.drop (i+1):=by rw[aS hi,aa,ab hi];rfl
  rw[hdr];generalize rs.drop (i+1)=R at*;generalize rs.getD i rl0=x at*;obtain⟨q,t,lo,hi'⟩:=x;simp only[Ev.sv,Rul.sv]at*;rw[ai];unfold gi;cases hb:alR e.data ⟨q,t,lo,hi'⟩with
  |true=>
   rw[hb]at g;have hne:¬(i:Int)= -1:=by omega
   simp only[go_sem,Q0,Q1,Q2,Q3,Q4,Q5,Q6,Q7,Q8,Q9,Qa,Qb,Qc,Qd,Qe,Qf,Qg,Qh,Qi,Qj,Qk,reduceCtorEq,reduceIte,hi,e1,hv,hg,g,xld,hne]
  |false=>rw[hb]at g;simp only[go_sem,Q0,Q1,Q2,Q3,Q4,Q5,Q6,Q7,Q8,Q9,Qa,Qb,Qc,Qd,Qe,Qf,Qg,Qh,Qi,Qj,Qk,reduceCtorEq,reduceIte,hi,e1,hv,hg,g,xld,ih']
theorem f80(e:Ev)(rs:List Rul)(hb:e.data.length<=1000000)(hx:∀x∈rs,x.text.length<=1000000)(hn:rs.length<=1000000):
 call T 80 [.lst 4 (bT rs) .no,.fn 81 [] [.ptr 0 0]] [.rc e.sv] 0=some ⟨.int .i64 (gi (alR e.data) rs 0),[(0,.rc e.sv)],[]⟩:=by
 have h:=l80 e rs hb hx hn _ 0 rfl (by omega);simp only[av,bh]at h;have hv:=bj rs;rw[ao xnq];unfold Ev.sv at h ⊢
 by_cases hq:gi (alR e.data) rs 0= -1
 ·rw[if_pos hq]at h
  simp only[go_sem,Q0,Q1,Q2,Q3,Q4,Q5,Q6,Q7,Q8,Q9,Qa,Qb,Qc,Qd,Qe,Qf,Qg,Qh,Qi,Qj,Qk,reduceCtorEq,reduceIte,hv,h,hq]
 ·rw[if_neg hq]at h
  simp only[go_sem,Q0,Q1,Q2,Q3,Q4,Q5,Q6,Q7,Q8,Q9,Qa,Qb,Qc,Qd,Qe,Qf,Qg,Qh,Qi,Qj,Qk,reduceCtorEq,reduceIte,hv,h]
theorem ph{α:Type}(p:α->Bool):∀(l:List α)(i:Nat),gi p l i= -1\/((i:Int)<=gi p l i/\gi p l i<i+l.length)
 |[],_=> .inl rfl
 |x::r,i=>by
  unfold gi
  by_cases h:p x=true
  ·rw[if_pos h,aC];right;omega
  ·rw[if_neg h,aC]
   rcases ph p r (i+1)with h|h
   ·exact .inl h
   ·right;omega
structure Pz(e:Ev):Prop where
 d2:e.dg.length=2
 b:e.data.length<=1000000
 d0:(e.dg.getD 0 []).length<=1000000
 d1:(e.dg.getD 1 []).length<=1000000
def pd(m:Man)(e:Ev):Int:=
 if gA m=0 then
  (if e.kind=1 then gi (itE e) m.ents 0
  else if e.kind=3 then(if e.reg=9 then(if Fh e=true then(if 0<=gi (alR e.data) m.ruls 0 then(m.ents.length:Int)+gi (alR e.data) m.ruls 0 else-1)else-1)else-1)
  else-1)
 else-1
theorem f31(m:Man)(hm:eI m)(e:Ev)(he:Pz e):call T 31 [.agg m.sv,.agg e.sv] [] 0=some ⟨.int .i64 (pd m e),[],[]⟩:=by
 have g1:=f13 m hm;have g3:=f33 4;have k9:vu 4=9:=rfl;have g4:=f79 e he.d2 he.b;have g5:=f80 e m.ruls he.b hm.r hm.rn;have hr:=ph (alR e.data) m.ruls 0;have hv:=bf m.ents;have hen:=hm.en;have hrn:=hm.rn;rw[k9]at g3;have g2:gA m=0->call T 75 [.lst 4 (bD m.ents) .no,.fn 76 [] [.ptr 0 0]] [.rc e.sv] 0=some ⟨.int .i64 (gi (itE e) m.ents 0),[(0,.rc e.sv)],[]⟩:=fun h=>f75 e m.ents he.d2 (fun x hx=>(td h x hx).2.2.1) hm.en
 clear hm he;obtain⟨mv,m1,m2,m3,m4,es,rs⟩:=m;obtain⟨g',k,ds,b⟩:=e;rw[ao xn1];unfold pd;simp only[Man.sv,Ev.sv]at*
 by_cases h0:gA ⟨mv,m1,m2,m3,m4,es,rs⟩=0
 ·have g2':=g2 h0
  rw[h0]at g1
  by_cases h1:k=1
  ·subst h1
   simp only[go_sem,Q0,Q1,Q2,Q3,Q4,Q5,Q6,Q7,Q8,Q9,Qa,Qb,Qc,Qd,Qe,Qf,Qg,Qh,Qi,Qj,Qk,reduceCtorEq,reduceIte,g1,pG,h0,g2',xoj]
  ·by_cases h3:k=3
   ·subst h3
    by_cases h9:g'=9
    ·subst h9
     cases hc:Fh ⟨9,3,ds,b⟩with
     |false=>rw[hc]at g4;simp only[go_sem,Q0,Q1,Q2,Q3,Q4,Q5,Q6,Q7,Q8,Q9,Qa,Qb,Qc,Qd,Qe,Qf,Qg,Qh,Qi,Qj,Qk,reduceCtorEq,reduceIte,g1,pG,h0,g3,Ft,g4,xfE]
     |true=>
      rw[hc]at g4;generalize gi (alR b) rs 0=z at*
      by_cases hz:0<=z
      ·have ew:ac.wrap ((es.length:Int)+z)=(es.length:Int)+z:=w64 (by omega) (by omega)
       simp only[go_sem,Q0,Q1,Q2,Q3,Q4,Q5,Q6,Q7,Q8,Q9,Qa,Qb,Qc,Qd,Qe,Qf,Qg,Qh,Qi,Qj,Qk,reduceCtorEq,reduceIte,g1,pG,h0,g3,Ft,g4,xfE,g5,xle,hz,hv,ew]
      ·simp only[go_sem,Q0,Q1,Q2,Q3,Q4,Q5,Q6,Q7,Q8,Q9,Qa,Qb,Qc,Qd,Qe,Qf,Qg,Qh,Qi,Qj,Qk,reduceCtorEq,reduceIte,g1,pG,h0,g3,Ft,g4,xfE,g5,xle,hz]
    ·simp only[go_sem,Q0,Q1,Q2,Q3,Q4,Q5,Q6,Q7,Q8,Q9,Qa,Qb,Qc,Qd,Qe,Qf,Qg,Qh,Qi,Qj,Qk,reduceCtorEq,reduceIte,g1,pG,h0,g3,Ft,h9]
   ·simp only[go_sem,Q0,Q1,Q2,Q3,Q4,Q5,Q6,Q7,Q8,Q9,Qa,Qb,Qc,Qd,Qe,Qf,Qg,Qh,Qi,Qj,Qk,reduceCtorEq,reduceIte,g1,pG,h0,h1,h3]
 ·simp only[go_sem,Q0,Q1,Q2,Q3,Q4,Q5,Q6,Q7,Q8,Q9,Qa,Qb,Qc,Qd,Qe,Qf,Qg,Qh,Qi,Qj,Qk,reduceCtorEq,reduceIte,g1,pG,h0]
theorem Hk(v s:Nat):(il (v:Int) s).toNat=v/2^s % 256:=by
 unfold il
 have e:Int.fdiv (v:Int) (2^s)=((v/2^s:Nat):Int):=by
  have p:((2:Int)^s)=((2^s:Nat):Int):=by rw[Int.natCast_pow];rfl
  rw[p,Int.fdiv_eq_ediv_of_nonneg _ (Int.natCast_nonneg _)];rfl
 rw[e];show(bO ((v/2^s:Nat):Int)).toNat=_;generalize v/2^s=q;simp[bO];omega
theorem ZX:∀(k a v:Nat),nF a (be k (v:Int))=a*256^k+v % 256^k
 |0,a,v=>by simp[be,nF,Nat.mod_one]
 |k+1,a,v=>by
  have h1:(il (v:Int) (8*k)).toNat=v/256^k % 256:=by rw[Hk,Nat.pow_mul]
  show nF (a*256+(il (v:Int) (8*k)).toNat) (be k (v:Int))=_;rw[ZX k,h1,Nat.mod_pow_succ,Nat.pow_succ,bI,Nat.mul_assoc a,cL 256,cL (v/256^k % 256)];omega
theorem jM(k:Nat)(v:Int)(h0:0<=v)(h1:v<((256^k:Nat):Int))(h8:v<18446744073709551616):((nB (bu k v):Nat):Int)=v:=by
 unfold bu nB;have e:aZ.wrap v=((v.toNat:Nat):Int):=by rw[cB];omega
 rw[e,ZX,ly,cK,dV (by omega)];omega
theorem px{B P X S:List UInt8}(h:B=P++(X++S)):(B.drop P.length).take X.length=X/\P.length+X.length<=B.length:=by
 subst h;constructor
 ·rw[List.drop_left',List.take_left']
  ·rfl
  ·rfl
 ·rw[af,af];omega
theorem kG{B P X S:List UInt8}(n:Nat)(h:B=P++(X++S))(hn:X.length=n):uR B n ⟨P.length,0⟩=(((nB X:Nat):Int),⟨(P++X).length,0⟩):=by subst hn;obtain⟨h1,h2⟩:=px h;unfold uR;rw[if_pos rfl];simp only;rw[if_pos h2,h1,af]
theorem xf1{B P X S:List UInt8}(n:Nat)(h:B=P++(X++S))(hn:X.length=n):wR B n ⟨P.length,0⟩=(X,⟨(P++X).length,0⟩):=by subst hn;obtain⟨h1,h2⟩:=px h;unfold wR;rw[if_pos rfl];simp only;rw[if_pos h2,h1,af]
theorem Qz{B P X S:List UInt8}(m:Nat)(h:B=P++((bu 2 (X.length:Int)++X)++S))(hm:X.length<=m)(h6:X.length<65536):bR B m ⟨P.length,0⟩=(X,⟨(P++(bu 2 (X.length:Int)++X)).length,0⟩):=by
 have hn:nB (bu 2 (X.length:Int))=X.length:=by
  have hp:((256^2:Nat):Int)=65536:=by decide
  have:=jM 2 (X.length:Int) (by omega) (by rw[hp];omega) (by omega);omega
 have l2:(bu 2 (X.length:Int)).length=2:=dd ..;have h':B=P++(bu 2 (X.length:Int)++(X++S)):=by rw[h,aA (bu 2 _)]
 have h'':B=(P++bu 2 (X.length:Int))++(X++S):=by rw[h',aA]
 obtain⟨a1,a2⟩:=px h';obtain⟨b1,b2⟩:=px h'';rw[l2]at a1 a2;rw[af,l2]at b1 b2;unfold bR;rw[if_pos rfl];simp only;rw[if_pos a2,a1,hn,if_pos hm,if_pos b2,b1];rw[af,af,l2]
def pr(x:Ent):List UInt8:=bu 1 x.role++(bu 2 (x.name.length:Int)++x.name)++bu 4 x.ver++x.dig
def sf(r:Rul):List UInt8:=bu 1 r.kind++(bu 2 (r.text.length:Int)++r.text)++bu 4 r.lo++bu 4 r.hi
theorem tC(B X:List UInt8)(h:X.length<65536):ju B X=B++(bu 2 (X.length:Int)++X):=by unfold ju bu;rw[ay (by omega),aA]
theorem Tu(B:List UInt8)(x:Ent)(h:x.name.length<65536):qP B x=B++pr x:=by unfold qP pr;rw[tC _ _ h];simp only[aA]
theorem RX(B:List UInt8)(x:Rul)(h:x.text.length<65536):oq B x=B++sf x:=by unfold oq sf;rw[tC _ _ h];simp only[aA]
theorem vS:∀(l:List Ent)(B:List UInt8),(∀x∈l,x.name.length<65536)->l.foldl qP B=B++(l.map pr).flatten
 |[],B,_=>by simp
 |x::r,B,h=>by rw[cT,Tu _ _ (h x aD),vS r _ (fun y hy=>h y (aq _ hy)),aI,dj,aA]
theorem vR:∀(l:List Rul)(B:List UInt8),(∀x∈l,x.text.length<65536)->l.foldl oq B=B++(l.map sf).flatten
 |[],B,_=>by simp
 |x::r,B,h=>by rw[cT,RX _ _ (h x aD),vR r _ (fun y hy=>h y (aq _ hy)),aI,dj,aA]
structure xfO(x:Ent):Prop where
 r0:0<=x.role
 r1:x.role<256
 n:x.name.length<=12
 v0:0<=x.ver
 v1:x.ver<4294967296
 d:x.dig.length=32
structure xfM(x:Rul):Prop where
 r0:0<=x.kind
 r1:x.kind<256
 n:x.text.length<=32
 v0:0<=x.lo
 v1:x.lo<4294967296
 w0:0<=x.hi
 w1:x.hi<4294967296
theorem pp1:((256^1:Nat):Int)=256:=by decide
theorem pp4:((256^4:Nat):Int)=4294967296:=by decide
theorem pp6:((256^6:Nat):Int)=281474976710656:=by decide
theorem Th{B P S:List UInt8}{x:Ent}(hx:xfO x)(h:B=P++(pr x++S)):pq B ⟨P.length,0⟩=(x,⟨(P++pr x).length,0⟩):=by unfold pr at h;have a1:=kG (B:=B) (P:=P) (X:=bu 1 x.role) (S:=(bu 2 (x.name.length:Int)++x.name)++(bu 4 x.ver++(x.dig++S))) 1 (by rw[h];simp only[aA]) (dd ..);have a2:=Qz (B:=B) (P:=P++bu 1 x.role) (X:=x.name) (S:=bu 4 x.ver++(x.dig++S)) 12 (by rw[h];simp only[aA]) hx.n (by have:=hx.n;omega);have a3:=kG (B:=B) (P:=P++bu 1 x.role++(bu 2 (x.name.length:Int)++x.name)) (X:=bu 4 x.ver) (S:=x.dig++S) 4 (by rw[h];simp only[aA]) (dd ..);have a4:=xf1 (B:=B) (P:=P++bu 1 x.role++(bu 2 (x.name.length:Int)++x.name)++bu 4 x.ver) (X:=x.dig) (S:=S) 32 (by rw[h];simp only[aA]) hx.d;rw[jM 1 x.role hx.r0 (by rw[pp1];exact hx.r1) (by have:=hx.r1;omega)]at a1;rw[jM 4 x.ver hx.v0 (by rw[pp4];exact hx.v1) (by have:=hx.v1;omega)]at a3;unfold pq;rw[a1];simp only;rw[a2];simp only;rw[a3];simp only;rw[a4];unfold pr;simp only[aA]
theorem RQ{B P S:List UInt8}{x:Rul}(hx:xfM x)(h:B=P++(sf x++S)):oL B ⟨P.length,0⟩=(x,⟨(P++sf x).length,0⟩):=by unfold sf at h;have a1:=kG (B:=B) (P:=P) (X:=bu 1 x.kind) (S:=(bu 2 (x.text.length:Int)++x.text)++(bu 4 x.lo++(bu 4 x.hi++S))) 1 (by rw[h];simp only[aA]) (dd ..);have a2:=Qz (B:=B) (P:=P++bu 1 x.kind) (X:=x.text) (S:=bu 4 x.lo++(bu 4 x.hi++S)) 32 (by rw[h];simp only[aA]) hx.n (by have:=hx.n;omega);have a3:=kG (B:=B) (P:=P++bu 1 x.kind++(bu 2 (x.text.length:Int)++x.text)) (X:=bu 4 x.lo) (S:=bu 4 x.hi++S) 4 (by rw[h];simp only[aA]) (dd ..);have a4:=kG (B:=B) (P:=P++bu 1 x.kind++(bu 2 (x.text.length:Int)++x.text)++bu 4 x.lo) (X:=bu 4 x.hi) (S:=S) 4 (by rw[h];simp only[aA]) (dd ..);rw[jM 1 x.kind hx.r0 (by rw[pp1];exact hx.r1) (by have:=hx.r1;omega)]at a1;rw[jM 4 x.lo hx.v0 (by rw[pp4];exact hx.v1) (by have:=hx.v1;omega)]at a3;rw[jM 4 x.hi hx.w0 (by rw[pp4];exact hx.w1) (by have:=hx.w1;omega)]at a4;unfold oL;rw[a1];simp only;rw[a2];simp only;rw[a3];simp only;rw[a4];unfold sf;simp only[aA]
theorem wa{B:List UInt8}:∀(l:List Ent)(es:List Ent)(P S:List UInt8),(∀x∈l,xfO x)->B=P++((l.map pr).flatten++S)->fE B l.length es ⟨P.length,0⟩=(es++l,⟨(P++(l.map pr).flatten).length,0⟩)
 |[],es,P,S,_,_=>by simp[fE]
 |x::r,es,P,S,hx,h=>by have a:=Th (B:=B) (P:=P) (S:=(r.map pr).flatten++S) (hx x aD) (by rw[h,aI,dj];simp only[aA]);rw[aC];unfold fE;rw[if_pos rfl,a];simp only;rw[wa r (es++ [x]) (P++pr x) S (fun y hy=>hx y (aq _ hy)) (by rw[h,aI,dj];simp only[aA]),aI,dj];simp only[aA,aJ,aF]
theorem vp{B:List UInt8}:∀(l:List Rul)(es:List Rul)(P S:List UInt8),(∀x∈l,xfM x)->B=P++((l.map sf).flatten++S)->fB B l.length es ⟨P.length,0⟩=(es++l,⟨(P++(l.map sf).flatten).length,0⟩)
 |[],es,P,S,_,_=>by simp[fB]
 |x::r,es,P,S,hx,h=>by have a:=RQ (B:=B) (P:=P) (S:=(r.map sf).flatten++S) (hx x aD) (by rw[h,aI,dj];simp only[aA]);rw[aC];unfold fB;rw[if_pos rfl,a];simp only;rw[vp r (es++ [x]) (P++sf x) S (fun y hy=>hx y (aq _ hy)) (by rw[h,aI,dj];simp only[aA]),aI,dj];simp only[aA,aJ,aF]
def hV(B:List UInt8):List UInt8×Rs:=bR B 12 (uR B 1 ⟨0,0⟩).2
def hE(B:List UInt8):Int×Rs:=uR B 4 (hV B).2
def hF(B:List UInt8):Int×Rs:=uR B 4 (hE B).2
def hM(B:List UInt8):Int×Rs:=uR B 6 (hF B).2
def hT(B:List UInt8):Int×Rs:=uR B 6 (hM B).2
def hN(B:List UInt8):Int×Rs:=uR B 1 (hT B).2
def hL(B:List UInt8):List Ent×Rs:=fE B (hN B).1.toNat [] (hN B).2
def hK(B:List UInt8):Int×Rs:=uR B 1 (hL B).2
def hR(B:List UInt8):List Rul×Rs:=fB B (hK B).1.toNat [] (hK B).2
def te(B:List UInt8):Man:=⟨(hV B).1,(hE B).1,(hF B).1,(hM B).1,(hT B).1,(hL B).1,(hR B).1⟩
def okP(B:List UInt8):Prop:=(uR B 1 ⟨0,0⟩).1=21/\eR B (hR B).2=0/\gA (te B)=0
instance (B:List UInt8):Decidable (okP B):=by unfold okP;infer_instance
def xL(B:List UInt8):Option Man:=if okP B then some (te B)else none
theorem xfm{k:Int}{t:List UInt8}{lo hi:Int}(h:chk k t lo hi=0):1<=k/\k<=4/\t.length<=32/\0<=lo/\lo<=1000000000/\0<=hi/\hi<=1000000000:=by
 unfold chk at h
 repeat' split at h
 all_goals first|(exfalso;omega)|skip
 ·refine⟨by omega,by omega,by omega,by omega,by omega,by omega,by omega⟩
 ·rename_i ht
  refine⟨by omega,by omega,by rw[ht];simp,by omega,by omega,by omega,by omega⟩
 ·refine⟨by omega,by omega,by omega,by omega,by omega,by omega,by omega⟩
theorem vm:∀{l:List Rul},ie l=0->∀r∈l,oM r=0
 |[],_,r,hr=>by cases hr
 |x::t,h,r,hr=>by
  unfold ie at h
  by_cases hx:oM x=0
  ·rw[if_pos hx]at h
   rcases an.1 hr with rfl|hr
   ·exact hx
   ·exact vm h r hr
  ·rw[if_neg hx]at h;exact absurd h hx
theorem GB{m:Man}(h:gA m=0):∀x∈m.ents,xfO x:=by intro x hx;obtain⟨a1,a2,⟨a3,a4,a5⟩,a6,a7⟩:=td h x hx;exact⟨by omega,by omega,(iV a7).2,a3,by omega,a6⟩
theorem GA{m:Man}(h:gA m=0):∀x∈m.ruls,xfM x:=by intro x hx;obtain⟨a1,a2,a3,a4,a5,a6,a7⟩:=xfm (vm (tg h).2.1 x hx);exact⟨by omega,by omega,a3,a4,by omega,a6,by omega⟩
theorem Da{m:Man}(h:gA m=0):xL (lu m)=some m:=by
 obtain⟨-, -,hn,hr,hv,u0,u1,u2,u3,u4,u5⟩:=tg h;have hE':=GB h;have hR':=GA h;have hvl:=(iV hv).2
 have key:lu m=bu 1 21++((bu 2 (m.vendor.length:Int)++m.vendor)++(bu 4 m.ver++(bu 4 m.flr++(bu 6 m.frm++(bu 6 m.til++(bu 1 (m.ents.length:Int)++((m.ents.map pr).flatten++(bu 1 (m.ruls.length:Int)++((m.ruls.map sf).flatten++ []))))))))):=by unfold lu hdM;rw[if_pos h,vS _ _ (fun x hx=>by have:=(hE' x hx).n;omega),vR _ _ (fun x hx=>by have:=(hR' x hx).n;omega),tC _ _ (by omega)];simp only[aA,aF,bJ]
 generalize lu m=B at*;have a0:=kG (B:=B) (P:=[]) 1 key (dd 1 21);have a1:=Qz (B:=B) (P:=bu 1 21) 12 key hvl (by omega);have a2:=kG (B:=B) (P:=bu 1 21++(bu 2 (m.vendor.length:Int)++m.vendor)) 4 (by rw[key];simp only[aA];rfl) (dd 4 m.ver);have a3:=kG (B:=B) (P:=bu 1 21++(bu 2 (m.vendor.length:Int)++m.vendor)++bu 4 m.ver) 4 (by rw[key];simp only[aA];rfl) (dd 4 m.flr);have a4:=kG (B:=B) (P:=bu 1 21++(bu 2 (m.vendor.length:Int)++m.vendor)++bu 4 m.ver++bu 4 m.flr) 6 (by rw[key];simp only[aA];rfl) (dd 6 m.frm);have a5:=kG (B:=B) (P:=bu 1 21++(bu 2 (m.vendor.length:Int)++m.vendor)++bu 4 m.ver++bu 4 m.flr++bu 6 m.frm) 6 (by rw[key];simp only[aA];rfl) (dd 6 m.til);have a6:=kG (B:=B) (P:=bu 1 21++(bu 2 (m.vendor.length:Int)++m.vendor)++bu 4 m.ver++bu 4 m.flr++bu 6 m.frm++bu 6 m.til) 1 (by rw[key];simp only[aA];rfl) (dd 1 (m.ents.length:Int));have a7:=wa (B:=B) m.ents [] (bu 1 21++(bu 2 (m.vendor.length:Int)++m.vendor)++bu 4 m.ver++bu 4 m.flr++bu 6 m.frm++bu 6 m.til++bu 1 (m.ents.length:Int)) _ hE' (by rw[key];simp only[aA];rfl);have a8:=kG (B:=B) (P:=bu 1 21++(bu 2 (m.vendor.length:Int)++m.vendor)++bu 4 m.ver++bu 4 m.flr++bu 6 m.frm++bu 6 m.til++bu 1 (m.ents.length:Int)++(m.ents.map pr).flatten) 1 (by rw[key];simp only[aA];rfl) (dd 1 (m.ruls.length:Int));have a9:=vp (B:=B) m.ruls [] (bu 1 21++(bu 2 (m.vendor.length:Int)++m.vendor)++bu 4 m.ver++bu 4 m.flr++bu 6 m.frm++bu 6 m.til++bu 1 (m.ents.length:Int)++(m.ents.map pr).flatten++bu 1 (m.ruls.length:Int)) [] hR' (by rw[key];simp only[aA])
 rw[jM 1 21 (by omega) (by rw[pp1];omega) (by omega)]at a0;rw[jM 4 m.ver (by omega) (by rw[pp4];omega) (by omega)]at a2;rw[jM 4 m.flr (by omega) (by rw[pp4];omega) (by omega)]at a3;rw[jM 6 m.frm (by omega) (by rw[pp6];omega) (by omega)]at a4;rw[jM 6 m.til (by omega) (by rw[pp6];omega) (by omega)]at a5;rw[jM 1 (m.ents.length:Int) (by omega) (by rw[pp1];omega) (by omega)]at a6;rw[jM 1 (m.ruls.length:Int) (by omega) (by rw[pp1];omega) (by omega)]at a8;rw[aB,aF]at a0;have q1:=(congrArg (fun z:Int×Rs=>bR B 12 z.2) a0).trans a1;change hV B=_ at q1;have q2:=(congrArg (fun z:List UInt8×Rs=>uR B 4 z.2) q1).trans a2;change hE B=_ at q2;have q3:=(congrArg (fun z:Int×Rs=>uR B 4 z.2) q2).trans a3;change hF B=_ at q3;have q4:=(congrArg (fun z:Int×Rs=>uR B 6 z.2) q3).trans a4;change hM B=_ at q4;have q5:=(congrArg (fun z:Int×Rs=>uR B 6 z.2) q4).trans a5;change hT B=_ at q5;have q6:=(congrArg (fun z:Int×Rs=>uR B 1 z.2) q5).trans a6;change hN B=_ at q6;have q7:=(congrArg (fun z:Int×Rs=>fE B z.1.toNat [] z.2) q6).trans a7;change hL B=_ at q7;have q8:=(congrArg (fun z:List Ent×Rs=>uR B 1 z.2) q7).trans a8;change hK B=_ at q8;have q9:=(congrArg (fun z:Int×Rs=>fB B z.1.toNat [] z.2) q8).trans a9;change hR B=_ at q9
 have hm:te B=m:=by unfold te;rw[q1,q2,q3,q4,q5,q7,q9];rfl
 have hend:eR B (hR B).2=0:=by
  rw[q9];unfold eR;rw[if_pos rfl,if_neg];simp only
  conv=>rhs;rw[key]
  simp only[aA,bJ];omega
 unfold xL;rw[if_pos ⟨by rw[a0],hend,by rw[hm];exact h⟩,hm]
theorem ze(B:List UInt8)(m:Nat)(s:Rs):(bR B m s).1.length<=m:=by
 unfold bR;split
 ·split
  ·split
   ·split
    ·rename_i h _;show(du _ _).length<=_;rw[aj];omega
    ·exact bU _
   ·exact bU _
  ·exact bU _
 ·exact bU _
theorem xbY(B:List UInt8)(m:Nat)(s:Rs):(wR B m s).1.length<=m:=by
 unfold wR;split
 ·split
  ·show(du _ _).length<=_;rw[aj];omega
  ·exact bU _
 ·exact bU _
theorem tY(B:List UInt8)(s:Rs):0<=(uR B 1 s).1/\(uR B 1 s).1<256:=by
 unfold uR;split
 ·split
  ·have h:=Qr ((B.drop s.a).take 1)
   have h2:((B.drop s.a).take 1).length<=1:=by rw[aj];omega
   have h3:256^((B.drop s.a).take 1).length<=256^1:=Nat.pow_le_pow_right (by decide) h2;have h4:(256:Nat)^1=256:=by decide
   constructor
   ·exact Int.natCast_nonneg _
   ·show((nB _:Nat):Int)<256;omega
  ·exact⟨Int.le_refl _,by show(0:Int)<256;decide⟩
 ·exact⟨Int.le_refl _,by show(0:Int)<256;decide⟩
theorem vZ{B:List UInt8}:∀{n:Nat}{es:List Ent}{s:Rs},(∀x∈es,x.name.length<=12/\x.dig.length<=32)->∀x∈(fE B n es s).1,x.name.length<=12/\x.dig.length<=32
 |0,_,_,h=>h
 |n+1,es,s,h=>by
  unfold fE;split
  ·refine vZ fun x hx=> ?_
   rw[al,ba]at hx;rcases hx with hx|rfl
   ·exact h x hx
   ·exact⟨ze _ _ _,xbY _ _ _⟩
  ·exact h
theorem vo{B:List UInt8}:∀{n:Nat}{es:List Rul}{s:Rs},(∀x∈es,x.text.length<=32)->∀x∈(fB B n es s).1,x.text.length<=32
 |0,_,_,h=>h
 |n+1,es,s,h=>by
  unfold fB;split
  ·refine vo fun x hx=> ?_
   rw[al,ba]at hx;rcases hx with hx|rfl
   ·exact h x hx
   ·exact ze _ _ _
  ·exact h
theorem C1(B:List UInt8):eI (te B):=by
 have h1:=sd (B:=B) (n:=(hN B).1.toNat) (es:=[]) (s:=(hN B).2);have h2:=rD (B:=B) (n:=(hK B).1.toNat) (es:=[]) (s:=(hK B).2);have h3:=tY B (hT B).2;have h4:=tY B (hL B).2;change 0<=(hN B).1/\(hN B).1<256 at h3;change 0<=(hK B).1/\(hK B).1<256 at h4;rw[aB]at h1 h2
 exact⟨by have:=ze B 12 (uR B 1 ⟨0,0⟩).2;show(hV B).1.length<=_;unfold hV;omega,by show(hL B).1.length<=_;unfold hL;omega,by show(hR B).1.length<=_;unfold hR;omega,
  fun x hx=>by have:=vZ (B:=B) (n:=(hN B).1.toNat) (es:=[]) (s:=(hN B).2) (fun x hx=>by cases hx) x hx;omega,
  fun x hx=>by have:=vo (B:=B) (n:=(hK B).1.toNat) (es:=[]) (s:=(hK B).2) (fun x hx=>by cases hx) x hx;omega⟩
def mnz:Man:=⟨[],0,0,0,0,[],[]⟩
def xfx(B:List UInt8):Man:=match xL B with|some m=>m|none=>mnz
def xfy(B:List UInt8):Int:=match xL B with|some _=>0|none=>30
theorem xlO(B:List UInt8)(hB:B.length<=1000000000)(v:List UInt8)(ve fl fr ti:Int)(es:List Ent)(s:Rs)(hs:gB B s)(t:Tok)(tk:List Nat)(t1:Nat)
 (ht:t= .clip/\tk=[]/\es=[]\/t= .id 160/\tk=[160]) (h1:t1=34060\/t1=55060\/t1=39060):
 run T (.ops qB) ⟨[(2,.ptr 102 0),(4,.ptr 12100 0),(5,.ptr 105 0)],[(102,zR),(105,mR v ve fl fr ti es t [] .clip),(12100,rdO B t1 s)],tk++ [t1]⟩=
  some (.n,⟨[(2,.ptr 102 0),(4,.ptr 12100 0),(5,.ptr 105 0),(8,.int .i64 (uR B 1 s).1)],[(102,zR),(105,mR v ve fl fr ti es t [] .clip),(12100,rdO B 64060 (uR B 1 s).2)],tk++ [64060]⟩):=by
 have g:=f51 B hB 1 (by omega) (by omega) s hs;rw[show((1:Nat):Int)=1 from rfl]at g;simp only[zR,mR,rdO]at g ⊢;rcases ht with⟨rfl,rfl,rfl⟩|⟨rfl,rfl⟩<;>rcases h1 with rfl|rfl|rfl<;>simp only[go_sem,Q0,Q1,Q2,Q3,Q4,Q5,Q6,Q7,Q8,Q9,Qa,Qb,Qc,Qd,Qe,Qf,Qg,Qh,Qi,Qj,Qk,reduceCtorEq,reduceIte,g,xX]
theorem xlN(B:List UInt8)(hB:B.length<=1000000000)(v:List UInt8)(ve fl fr ti:Int)(es:List Ent)(s:Rs)(hs:gB B s)(t:Tok)(tk:List Nat)(rs:List Rul)(u:Tok)(uk:List Nat)(u1:Nat)
 (hm:eI ⟨v,ve,fl,fr,ti,es,rs⟩)
 (ht:t= .clip/\tk=[]/\es=[]\/t= .id 160/\tk=[160]) (hu:u= .clip/\uk=[]/\rs=[]\/u= .id 190/\uk=[190]) (h1:u1=64060\/u1=85060\/u1=69060):
 run T (.ops qA) ⟨[(2,.ptr 102 0),(4,.ptr 12100 0),(5,.ptr 105 0)],[(102,zR),(105,mR v ve fl fr ti es t rs u),(12100,rdO B u1 s)],tk++(uk++ [u1])⟩=
  some (.n,⟨[(2,.ptr 102 0),(5,.ptr 105 0),(99,.bool (!decide (eR B s=0/\gA ⟨v,ve,fl,fr,ti,es,rs⟩=0)))],[(102,zR),(105,mR v ve fl fr ti es t rs u),(12100,rdO B 94060 s)],tk++(uk++ [94060])⟩):=by
 have g:=f55 B hB s hs;have gm:=f13 ⟨v,ve,fl,fr,ti,es,rs⟩ hm;generalize gA ⟨v,ve,fl,fr,ti,es,rs⟩=q at*;generalize eR B s=p at*
 by_cases hp:p=0
 ·subst hp
  by_cases hq:q=0
  ·subst hq
   simp only[zR,mR,rdO,Man.sv]at g gm ⊢;rcases ht with⟨rfl,rfl,rfl⟩|⟨rfl,rfl⟩<;>rcases hu with⟨rfl,rfl,rfl⟩|⟨rfl,rfl⟩<;>rcases h1 with rfl|rfl|rfl<;>simp only[go_sem,Q0,Q1,Q2,Q3,Q4,Q5,Q6,Q7,Q8,Q9,Qa,Qb,Qc,Qd,Qe,Qf,Qg,Qh,Qi,Qj,Qk,reduceCtorEq,reduceIte,g,xfI,gm,pG]
  ·simp only[zR,mR,rdO,Man.sv]at g gm ⊢
   rcases ht with⟨rfl,rfl,rfl⟩|⟨rfl,rfl⟩<;>rcases hu with⟨rfl,rfl,rfl⟩|⟨rfl,rfl⟩<;>rcases h1 with rfl|rfl|rfl<;>simp only[go_sem,Q0,Q1,Q2,Q3,Q4,Q5,Q6,Q7,Q8,Q9,Qa,Qb,Qc,Qd,Qe,Qf,Qg,Qh,Qi,Qj,Qk,reduceCtorEq,reduceIte,g,xfI,gm,pG,hq]
 ·simp only[zR,mR,rdO,Man.sv]at g gm ⊢
  rcases ht with⟨rfl,rfl,rfl⟩|⟨rfl,rfl⟩<;>rcases hu with⟨rfl,rfl,rfl⟩|⟨rfl,rfl⟩<;>rcases h1 with rfl|rfl|rfl<;>simp only[go_sem,Q0,Q1,Q2,Q3,Q4,Q5,Q6,Q7,Q8,Q9,Qa,Qb,Qc,Qd,Qe,Qf,Qg,Qh,Qi,Qj,Qk,reduceCtorEq,reduceIte,g,xfI,hp]
attribute [-go_sem] qB qA
theorem f17(B:List UInt8)(hB:B.length<=1000000000):call T 17 [.byt B .no] [] 0=some ⟨.tup [.agg (xfx B).sv,.int .i64 (xfy B)],[],[]⟩:=by
 have g0:=f50 B hB;have k0:gB B ⟨0,0⟩:=⟨bU _⟩;have g1:=f51 B hB 1 (by omega) (by omega) ⟨0,0⟩ k0;have k1:=iw (n:=1) k0;have g2:=f52 B hB 12 (by omega) _ k1;have k2:gB B (hV B).2:=xR (n:=12) k1;have g3:=f51 B hB 4 (by omega) (by omega) _ k2;have k3:gB B (hE B).2:=iw (n:=4) k2;have g4:=f51 B hB 4 (by omega) (by omega) _ k3;have k4:gB B (hF B).2:=iw (n:=4) k3;have g5:=f51 B hB 6 (by omega) (by omega) _ k4;have k5:gB B (hM B).2:=iw (n:=6) k4;have g6:=f51 B hB 6 (by omega) (by omega) _ k5;have k6:gB B (hT B).2:=iw (n:=6) k5;have g7:=f51 B hB 1 (by omega) (by omega) _ k6;have k7:gB B (hN B).2:=iw (n:=1) k6;have n1:=tY B (hT B).2;have n2:=tY B (hL B).2;change 0<=(hN B).1/\(hN B).1<256 at n1;change 0<=(hK B).1/\(hK B).1<256 at n2;have nn:(hN B).1=(((hN B).1.toNat:Nat):Int):=by omega
 have nk:(hK B).1=(((hK B).1.toNat:Nat):Int):=by omega
 obtain⟨t',tk',t1,q1,q2,q3⟩:=xmc B hB (hV B).1 (hE B).1 (hF B).1 (hM B).1 (hT B).1 (hN B).1.toNat [] (hN B).2 .clip [] 34060 (by rw[aB];omega) k7 (.inl ⟨rfl,rfl,rfl⟩) (.inl rfl);have k8:gB B (hL B).2:=vY k7;have g8:=f51 B hB 1 (by omega) (by omega) _ k8;have k9:gB B (hK B).2:=iw (n:=1) k8;have gm:=f13 (te B) (C1 B);change (t'= .clip/\tk'=[]/\(hL B).1=[]\/t'= .id 160/\tk'=[160])at q1;obtain⟨u',uk',u1,r1,r2,r3⟩:=xmb B hB (hV B).1 (hE B).1 (hF B).1 (hM B).1 (hT B).1 (hL B).1 t' tk' q1 (hK B).1.toNat [] (hK B).2 .clip [] 64060 (by rw[aB];omega) k9 (.inl ⟨rfl,rfl,rfl⟩) (.inl rfl);have k10:gB B (hR B).2:=vn k9;have g9:=f55 B hB _ k10;change _/\_/\(hR B).1=[]\/_ at r1;rw[<-nn]at q3;rw[<-nk]at r3;change run T _ _=some (Ex.x 0,⟨_,[_,(105,mR _ _ _ _ _ (hL B).1 t' [] .clip),(12100,rdO B t1 (hL B).2)],_⟩)at q3;change run T _ _=some (Ex.x 2,⟨_,[_,(105,mR _ _ _ _ _ (hL B).1 t' (hR B).1 u'),(12100,rdO B u1 (hR B).2)],_⟩)at r3;change call T 51 _ _ _=some ⟨.int .i64 (hE B).1,[(0,rdO B 60 (hE B).2)],[60]⟩at g3;change call T 51 _ _ _=some ⟨.int .i64 (hF B).1,[(0,rdO B 60 (hF B).2)],[60]⟩at g4;change call T 51 _ _ _=some ⟨.int .i64 (hM B).1,[(0,rdO B 60 (hM B).2)],[60]⟩at g5;change call T 51 _ _ _=some ⟨.int .i64 (hT B).1,[(0,rdO B 60 (hT B).2)],[60]⟩at g6;change call T 51 _ _ _=some ⟨.int .i64 (hN B).1,[(0,rdO B 60 (hN B).2)],[60]⟩at g7;change call T 51 _ _ _=some ⟨.int .i64 (hK B).1,[(0,rdO B 60 (hK B).2)],[60]⟩at g8;change call T 52 _ _ _=some ⟨.byt (hV B).1 .no,[(0,rdO B 60 (hV B).2)],[60]⟩at g2
 have o1:=xlO B hB (hV B).1 (hE B).1 (hF B).1 (hM B).1 (hT B).1 (hL B).1 (hL B).2 k8 t' tk' t1 q1 q2;have o2:=xlN B hB (hV B).1 (hE B).1 (hF B).1 (hM B).1 (hT B).1 (hL B).1 (hR B).2 k10 t' tk' (hR B).1 u' uk' u1 (C1 B) q1 r1 r2;change run T _ _=some (Ex.n,⟨[_,_,_,(8,SV.int .i64 (hK B).1)],[_,_,(12100,rdO B 64060 (hK B).2)],_⟩)at o1;change run T _ _=some (Ex.n,⟨[_,_,(99,SV.bool (!decide (eR B (hR B).2=0/\gA (te B)=0)))],_,_⟩)at o2
 have hokd:xL B=if(uR B 1 ⟨0,0⟩).1=21/\eR B (hR B).2=0/\gA (te B)=0 then some (te B)else none:=by unfold xL okP;rfl
 have hsv:(te B).sv=[.str (hV B).1,.int .i64 (hE B).1,.int .i64 (hF B).1,.int .i64 (hM B).1,.int .i64 (hT B).1,.lst 4 (bD (hL B).1) .no,.lst 4 (bT (hR B).1) .no]:=rfl;have hze:bD []=[]:=rfl;have hzr:bT []=[]:=rfl;rw[show((1:Nat):Int)=1 from rfl]at g1 g7;rw[show((12:Nat):Int)=12 from rfl]at g2;rw[show((4:Nat):Int)=4 from rfl]at g3 g4;rw[show((6:Nat):Int)=6 from rfl]at g5 g6;unfold xfx xfy;rw[hokd];rw[ao xn9];simp only[aF]at q3 r3
 by_cases ht:(uR B 1 ⟨0,0⟩).1=21
 ·by_cases hb:eR B (hR B).2=0/\gA (te B)=0
  ·rw[if_pos ⟨ht,hb⟩]
   rw[decide_eq_true hb]at o2;simp only[hsv];simp only[zR,mR,rdO,hze,hzr,av]at g0 g1 g2 g3 g4 g5 g6 g7 q3 r3 o1 o2;rw[ht]at g1;simp only[go_sem,Q0,Q1,Q2,Q3,Q4,Q5,Q6,Q7,Q8,Q9,Qa,Qb,Qc,Qd,Qe,Qf,Qg,Qh,Qi,Qj,Qk,reduceCtorEq,reduceIte,g0,xfJ,g1,xX,g2,Fq,g3,g4,g5,g6,g7,q3,o1,r3,o2]
  ·rw[if_neg (fun h=>hb h.2)]
   rw[decide_eq_false hb]at o2;simp only[zR,mR,rdO,hze,hzr,av]at g0 g1 g2 g3 g4 g5 g6 g7 q3 r3 o1 o2;rw[ht]at g1;simp only[go_sem,Q0,Q1,Q2,Q3,Q4,Q5,Q6,Q7,Q8,Q9,Qa,Qb,Qc,Qd,Qe,Qf,Qg,Qh,Qi,Qj,Qk,reduceCtorEq,reduceIte,g0,xfJ,g1,xX,g2,Fq,g3,g4,g5,g6,g7,q3,o1,r3,o2];rcases q1 with⟨rfl,rfl,hz⟩|⟨rfl,rfl⟩<;>rcases r1 with⟨rfl,rfl,hz2⟩|⟨rfl,rfl⟩<;>simp only[go_sem,Q0,Q1,Q2,Q3,Q4,Q5,Q6,Q7,Q8,Q9,Qa,Qb,Qc,Qd,Qe,Qf,Qg,Qh,Qi,Qj,Qk,reduceCtorEq,reduceIte,hze,hzr,mnz,Man.sv]
 ·rw[if_neg (fun h=>ht h.1)]
  simp only[zR,mR,rdO,hze,hzr,av]at g0 g1;simp only[go_sem,Q0,Q1,Q2,Q3,Q4,Q5,Q6,Q7,Q8,Q9,Qa,Qb,Qc,Qd,Qe,Qf,Qg,Qh,Qi,Qj,Qk,reduceCtorEq,reduceIte,g0,xfJ,g1,xX,ht,mnz,Man.sv,hze,hzr]
attribute [go_sem] qB qA
end Go.Proofs.YtkcjdeofknkndaaGreatDoor
