/- What the functions come to. No condition. -/
import Derived.Test.YtkcjdeofknkndaaGreatDoorTfZ2
import Derived.Test.YtkcjdeofknkndaaGreatDoorTgZ2
import Derived.Test.YtkcjdeofknkndaaGreatDoorThZ2
open Int renaming natCast_zero -> aA
open Go.IntKind renaming i64 -> af, u64 -> aZ, wrap_u64 -> cf
open List renaming append_assoc -> ay, append_nil -> bZ, cons_append -> aH, drop_eq_getElem_cons -> aV, drop_length -> bl, drop_zero -> bh, flatten_cons -> dk, foldl_cons -> cy, getD_cons_succ -> cJ, getD_cons_zero -> cn, getD_eq_getElem?_getD -> aa, getElem?_eq_getElem -> ab, getElem_of_mem -> cm, length_append -> ac, length_cons -> aC, length_nil -> az, length_take -> aj, map_cons -> aI, mem_append -> al, mem_cons -> am, mem_cons_of_mem -> an, mem_cons_self -> aB, mem_singleton -> ba, nil_append -> aF, take -> du, take_of_length_le -> aw
open Nat renaming add_mul -> bH, lt_or_ge -> bS, mod_eq_of_lt -> dV, mul_comm -> cN, zero_add -> cM, zero_le -> bW, zero_mul -> lu
open UInt8 renaming ofInt -> cO
set_option maxRecDepth 100000
set_option maxHeartbeats 16000000
set_option linter.unusedSimpArgs false
set_option linter.unusedVariables false
namespace Go.Proofs.YtkcjdeofknkndaaGreatDoor
open Go.Sy
open UInt8 renaming reduceLT -> Q0, reduceLE -> Q1
open Int renaming reduceToNat -> Q2, reduceLE -> Q3, reduceLT -> Q4, reduceEq -> Q5, reduceNe -> Q6, reduceNeg -> Q7, reduceAdd -> Q8, reduceSub -> Q9, reduceMul -> Qa
open Nat renaming reducePow -> Qb, reduceDiv -> Qc, reduceMod -> Qd, reduceAdd -> Qe, reduceSub -> Qf, reduceMul -> Qg, reduceLT -> Qh, reduceLeDiff -> Qi, reduceEqDiff -> Qj, reduceBEq -> Qk
def jv{α:Type}(p:α->Bool):List α->Nat->Int
 |[],_=> -1
 |x::r,i=>if p x=true then(i:Int)else jv p r (i+1)
def itE(e:Ev)(x:Ent):Bool:=decide (e.reg=zZ x.role)&&(decide (e.dg.getD 1 []=x.dig)&&decide (e.data=wP x.name x.ver))
def D5(x:Ent):Prop:=0<=x.ver/\x.ver<=1000000/\x.name.length<=1000000
theorem Ri{l:List Ent}{i:Nat}(h:lN l i=0):1<=(l.getD i en0).role/\(l.getD i en0).role<=3/\0<=(l.getD i en0).ver/\(l.getD i en0).ver<=1000000/\(l.getD i en0).dig.length=32/\Pr.nameB (l.getD i en0).name=true:=by
 unfold lN at h;generalize l.getD i en0=x at*
 repeat' split at h
 all_goals first|omega|skip
 all_goals (refine⟨by omega,by omega,by omega,by omega,by omega,by assumption⟩)
theorem vC(l:List Ent):∀(n i:Nat),gQ l n i=0->∀k,i<=k->k<i+n->lN l k=0
 |0,i,_,k,h1,h2=>by omega
 |n+1,i,h,k,h1,h2=>by
  unfold gQ at h
  by_cases h0:lN l i=0
  ·rw[if_pos h0]at h
   rcases bS i k with h3|h3
   ·exact vC l n (i+1) h k (by omega) (by omega)
   ·have:k=i:=by omega
    rw[this];exact h0
  ·rw[if_neg h0]at h;exact absurd h h0
theorem sQ{m:Man}(h:dn m=0):gQ m.ents m.ents.length 0=0/\hC m.ruls=0/\m.ents.length<=16/\m.ruls.length<=8/\Pr.nameB m.vendor=true/\0<=m.flr/\m.flr<=m.ver/\m.ver<=1000000/\0<=m.frm/\m.frm<m.til/\m.til<=1099511627776:=by
 unfold dn at h
 by_cases h0:Pr.nameB m.vendor=true
 ·rw[if_pos h0]at h
  repeat' split at h
  all_goals first|(exfalso;omega)|skip
  refine⟨by assumption,h,by omega,by omega,h0,by omega,by omega,by omega,by omega,by omega,by omega⟩
 ·rw[if_neg h0]at h;omega
theorem Cj{m:Man}(h:dn m=0):∀x∈m.ents,1<=x.role/\x.role<=3/\D5 x/\x.dig.length=32/\Pr.nameB x.name=true:=by
 intro x hx;obtain⟨i,hi,rfl⟩:=cm hx;have h1:=Ri (vC m.ents _ 0 (sQ h).1 i (bW _) (by omega));have e:m.ents.getD i en0=m.ents[i]:=by rw[aa,ab hi];rfl
 rw[e]at h1;obtain⟨a,b,c,d,f,g⟩:=h1;have:=iO g;exact⟨a,b,⟨c,d,by omega⟩,f,g⟩
theorem f76(e:Ev)(x:Ent)(hd:e.dg.length=2)(hx:D5 x):call T 76 [.agg x.sv,.ptr 0 0] [.rc e.sv] 0=some ⟨.bool (itE e x),[(0,.rc e.sv)],[]⟩:=by
 obtain⟨h0,h1,h2⟩:=hx;have g1:=f33 x.role;have g2:=f77 (e.dg.getD 1 []) x.dig;obtain⟨v,hv⟩:=Int.eq_ofNat_of_zero_le h0;have g3:=f78 v (by omega);have hl:=mm 6 v (by omega);obtain⟨g,k,ds,b⟩:=e;obtain⟨ro,na,ve,di⟩:=x;simp only at hd hv h2 g1 g2;subst hv;rw[two ds [] hd]at*;generalize ds.getD 0 []=d0 at*;generalize ds.getD 1 []=d1 at*;have hbl:bls [d0,d1]=[[.byt d0 .no],[.byt d1 .no]]:=rfl;simp only[cn,cJ]at g2;rw[ao xk5];unfold itE Ev.sv Ent.sv wP;have c1:na.length+1<=9223372036854775807:=by omega
 have c2:na.length+1+(dec v).length<=9223372036854775807:=by omega
 simp only[hbl,cn,cJ,Int.toNat_natCast]
 by_cases a1:g=zZ ro
 ·by_cases a2:d1=di
  ·rw[decide_eq_true a2]at g2
   simp only[go_sem,Q0,Q1,Q2,Q3,Q4,Q5,Q6,Q7,Q8,Q9,Qa,Qb,Qc,Qd,Qe,Qf,Qg,Qh,Qi,Qj,Qk,reduceCtorEq,reduceIte,g1,EB,a1,g2,vN,g3,xlS,c1,c2,decide_eq_true a2]
  ·rw[decide_eq_false a2]at g2
   simp only[go_sem,Q0,Q1,Q2,Q3,Q4,Q5,Q6,Q7,Q8,Q9,Qa,Qb,Qc,Qd,Qe,Qf,Qg,Qh,Qi,Qj,Qk,reduceCtorEq,reduceIte,g1,EB,a1,g2,vN,decide_eq_false a2]
 ·simp only[go_sem,Q0,Q1,Q2,Q3,Q4,Q5,Q6,Q7,Q8,Q9,Qa,Qb,Qc,Qd,Qe,Qf,Qg,Qh,Qi,Qj,Qk,reduceCtorEq,reduceIte,g1,EB,a1]
theorem l75(e:Ev)(es:List Ent)(hd:e.dg.length=2)(hx:∀x∈es,D5 x)(hn:es.length<=1000000):∀(n i:Nat),es.length-i=n->i<=es.length->
 run T (.loop N7) ⟨[(0,.lst 4 (bf es) .no),(1,.fn 76 [] [.ptr 0 0]),(7,.int .i64 es.length),(8,.int .i64 i)],[(0,.rc e.sv)],[]⟩=
 if jv (itE e) (es.drop i) i= -1 then some (.x 0,⟨[],[(0,.rc e.sv)],[]⟩)else some (.r,⟨[(4,.int .i64 (jv (itE e) (es.drop i) i))],[(0,.rc e.sv)],[]⟩):=by
 intro n;induction n with
 |zero=>
  intro i h0 h1;have:i=es.length:=by omega
  subst this;rw[ai,bl];simp only[go_sem,Q0,Q1,Q2,Q3,Q4,Q5,Q6,Q7,Q8,Q9,Qa,Qb,Qc,Qd,Qe,Qf,Qg,Qh,Qi,Qj,Qk,reduceCtorEq,reduceIte,jv]
 |succ n ih=>
  intro i h0 h1;have hi:i<es.length:=by omega
  have e1:=cE i (by omega);have ih':=ih (i+1) (by omega) (by omega);have hv:=aQ es;have hg:=cS es i hi;have g:=f76 e (es.getD i en0) hd (hx _ (cC es en0 i hi));have hdr:es.drop i=es.getD i en0::es.drop (i+1):=by rw[aV hi,aa,ab hi];rfl
  rw[hdr];generalize es.drop (i+1)=R at*;generalize es.getD i en0=x at*;obtain⟨ro,na,ve,di⟩:=x;simp only[Ev.sv,Ent.sv]at*;rw[ai];unfold jv;cases hb:itE e ⟨ro,na,ve,di⟩with
  |true=>
   rw[hb]at g;have hne:¬(i:Int)= -1:=by omega
   simp only[go_sem,Q0,Q1,Q2,Q3,Q4,Q5,Q6,Q7,Q8,Q9,Qa,Qb,Qc,Qd,Qe,Qf,Qg,Qh,Qi,Qj,Qk,reduceCtorEq,reduceIte,hi,e1,hv,hg,g,xiK,hne]
  |false=>rw[hb]at g;simp only[go_sem,Q0,Q1,Q2,Q3,Q4,Q5,Q6,Q7,Q8,Q9,Qa,Qb,Qc,Qd,Qe,Qf,Qg,Qh,Qi,Qj,Qk,reduceCtorEq,reduceIte,hi,e1,hv,hg,g,xiK,ih']
theorem f75(e:Ev)(es:List Ent)(hd:e.dg.length=2)(hx:∀x∈es,D5 x)(hn:es.length<=1000000):
 call T 75 [.lst 4 (bf es) .no,.fn 76 [] [.ptr 0 0]] [.rc e.sv] 0=some ⟨.int .i64 (jv (itE e) es 0),[(0,.rc e.sv)],[]⟩:=by
 have h:=l75 e es hd hx hn _ 0 rfl (by omega);simp only[aA,bh]at h;have hv:=aQ es;rw[ao xk6];unfold Ev.sv at h ⊢
 by_cases hq:jv (itE e) es 0= -1
 ·rw[if_pos hq]at h
  simp only[go_sem,Q0,Q1,Q2,Q3,Q4,Q5,Q6,Q7,Q8,Q9,Qa,Qb,Qc,Qd,Qe,Qf,Qg,Qh,Qi,Qj,Qk,reduceCtorEq,reduceIte,hv,h,hq]
 ·rw[if_neg hq]at h
  simp only[go_sem,Q0,Q1,Q2,Q3,Q4,Q5,Q6,Q7,Q8,Q9,Qa,Qb,Qc,Qd,Qe,Qf,Qg,Qh,Qi,Qj,Qk,reduceCtorEq,reduceIte,hv,h]
def alR(b:List UInt8)(r:Rul):Bool:=alw r.kind r.text r.lo r.hi b
theorem f81(e:Ev)(r:Rul)(ht:r.text.length<=1000000)(hb:e.data.length<=1000000):call T 81 [.agg r.sv,.ptr 0 0] [.rc e.sv] 0=some ⟨.bool (alR e.data r),[(0,.rc e.sv)],[]⟩:=by have g:=f35 r.kind r.text r.lo r.hi e.data (by omega) (by omega);obtain⟨g',k,ds,b⟩:=e;obtain⟨q,t,lo,hi⟩:=r;rw[ao xk0];unfold alR Ev.sv Rul.sv;simp only[go_sem,Q0,Q1,Q2,Q3,Q4,Q5,Q6,Q7,Q8,Q9,Qa,Qb,Qc,Qd,Qe,Qf,Qg,Qh,Qi,Qj,Qk,reduceCtorEq,reduceIte,g,xl0]
theorem l80(e:Ev)(rs:List Rul)(hb:e.data.length<=1000000)(hx:∀x∈rs,x.text.length<=1000000)(hn:rs.length<=1000000):∀(n i:Nat),rs.length-i=n->i<=rs.length->
 run T (.loop N5) ⟨[(0,.lst 4 (bO rs) .no),(1,.fn 81 [] [.ptr 0 0]),(7,.int .i64 rs.length),(8,.int .i64 i)],[(0,.rc e.sv)],[]⟩=
 if jv (alR e.data) (rs.drop i) i= -1 then some (.x 0,⟨[],[(0,.rc e.sv)],[]⟩)else some (.r,⟨[(4,.int .i64 (jv (alR e.data) (rs.drop i) i))],[(0,.rc e.sv)],[]⟩):=by
 intro n;induction n with
 |zero=>
  intro i h0 h1;have:i=rs.length:=by omega
  subst this;rw[ai,bl];simp only[go_sem,Q0,Q1,Q2,Q3,Q4,Q5,Q6,Q7,Q8,Q9,Qa,Qb,Qc,Qd,Qe,Qf,Qg,Qh,Qi,Qj,Qk,reduceCtorEq,reduceIte,jv]
 |succ n ih=>
  intro i h0 h1;have hi:i<rs.length:=by omega
  have e1:=cE i (by omega);have ih':=ih (i+1) (by omega) (by omega);have hv:=bg rs;have hg:=gx rs i hi;have g:=f81 e (rs.getD i rl0) (hx _ (cC rs rl0 i hi)) hb;have hdr:rs.drop i=rs.getD i rl0::rs.drop (i+1):=by rw[aV hi,aa,ab hi];rfl
  rw[hdr];generalize rs.drop (i+1)=R at*;generalize rs.getD i rl0=x at*;obtain⟨q,t,lo,hi'⟩:=x;simp only[Ev.sv,Rul.sv]at*;rw[ai];unfold jv;cases hb:alR e.data ⟨q,t,lo,hi'⟩with
  |true=>
   rw[hb]at g;have hne:¬(i:Int)= -1:=by omega
   simp only[go_sem,Q0,Q1,Q2,Q3,Q4,Q5,Q6,Q7,Q8,Q9,Qa,Qb,Qc,Qd,Qe,Qf,Qg,Qh,Qi,Qj,Qk,reduceCtorEq,reduceIte,hi,e1,hv,hg,g,xiI,hne]
  |false=>rw[hb]at g;simp only[go_sem,Q0,Q1,Q2,Q3,Q4,Q5,Q6,Q7,Q8,Q9,Qa,Qb,Qc,Qd,Qe,Qf,Qg,Qh,Qi,Qj,Qk,reduceCtorEq,reduceIte,hi,e1,hv,hg,g,xiI,ih']
theorem f80(e:Ev)(rs:List Rul)(hb:e.data.length<=1000000)(hx:∀x∈rs,x.text.length<=1000000)(hn:rs.length<=1000000):
 call T 80 [.lst 4 (bO rs) .no,.fn 81 [] [.ptr 0 0]] [.rc e.sv] 0=some ⟨.int .i64 (jv (alR e.data) rs 0),[(0,.rc e.sv)],[]⟩:=by
 have h:=l80 e rs hb hx hn _ 0 rfl (by omega);simp only[aA,bh]at h;have hv:=bg rs;rw[ao xk1];unfold Ev.sv at h ⊢
 by_cases hq:jv (alR e.data) rs 0= -1
 ·rw[if_pos hq]at h
  simp only[go_sem,Q0,Q1,Q2,Q3,Q4,Q5,Q6,Q7,Q8,Q9,Qa,Qb,Qc,Qd,Qe,Qf,Qg,Qh,Qi,Qj,Qk,reduceCtorEq,reduceIte,hv,h,hq]
 ·rw[if_neg hq]at h
  simp only[go_sem,Q0,Q1,Q2,Q3,Q4,Q5,Q6,Q7,Q8,Q9,Qa,Qb,Qc,Qd,Qe,Qf,Qg,Qh,Qi,Qj,Qk,reduceCtorEq,reduceIte,hv,h]
theorem Cn{α:Type}(p:α->Bool):∀(l:List α)(i:Nat),jv p l i= -1\/((i:Int)<=jv p l i/\jv p l i<i+l.length)
 |[],_=> .inl rfl
 |x::r,i=>by
  unfold jv
  by_cases h:p x=true
  ·rw[if_pos h,aC];right;omega
  ·rw[if_neg h,aC]
   rcases Cn p r (i+1)with h|h
   ·exact .inl h
   ·right;omega
structure xiT(e:Ev):Prop where
 d2:e.dg.length=2
 b:e.data.length<=1000000
 d0:(e.dg.getD 0 []).length<=1000000
 d1:(e.dg.getD 1 []).length<=1000000
def Eb(m:Man)(e:Ev):Int:=
 if dn m=0 then
  (if e.kind=1 then jv (itE e) m.ents 0
  else if e.kind=3 then(if e.reg=9 then(if Ye e=true then(if 0<=jv (alR e.data) m.ruls 0 then(m.ents.length:Int)+jv (alR e.data) m.ruls 0 else-1)else-1)else-1)
  else-1)
 else-1
theorem f31(m:Man)(hm:cQ m)(e:Ev)(he:xiT e):call T 31 [.agg m.sv,.agg e.sv] [] 0=some ⟨.int .i64 (Eb m e),[],[]⟩:=by
 have g1:=f13 m hm;have g3:=f33 4;have k9:zZ 4=9:=rfl;have g4:=f79 e he.d2 he.b;have g5:=f80 e m.ruls he.b hm.r hm.rn;have hr:=Cn (alR e.data) m.ruls 0;have hv:=aQ m.ents;have hen:=hm.en;have hrn:=hm.rn;rw[k9]at g3;have g2:dn m=0->call T 75 [.lst 4 (bf m.ents) .no,.fn 76 [] [.ptr 0 0]] [.rc e.sv] 0=some ⟨.int .i64 (jv (itE e) m.ents 0),[(0,.rc e.sv)],[]⟩:=fun h=>f75 e m.ents he.d2 (fun x hx=>(Cj h x hx).2.2.1) hm.en
 clear hm he;obtain⟨mv,m1,m2,m3,m4,es,rs⟩:=m;obtain⟨g',k,ds,b⟩:=e;rw[ao xlA];unfold Eb;simp only[Man.sv,Ev.sv]at*
 by_cases h0:dn ⟨mv,m1,m2,m3,m4,es,rs⟩=0
 ·have g2':=g2 h0
  rw[h0]at g1
  by_cases h1:k=1
  ·subst h1
   simp only[go_sem,Q0,Q1,Q2,Q3,Q4,Q5,Q6,Q7,Q8,Q9,Qa,Qb,Qc,Qd,Qe,Qf,Qg,Qh,Qi,Qj,Qk,reduceCtorEq,reduceIte,g1,fD,h0,g2',xlT]
  ·by_cases h3:k=3
   ·subst h3
    by_cases h9:g'=9
    ·subst h9
     cases hc:Ye ⟨9,3,ds,b⟩with
     |false=>rw[hc]at g4;simp only[go_sem,Q0,Q1,Q2,Q3,Q4,Q5,Q6,Q7,Q8,Q9,Qa,Qb,Qc,Qd,Qe,Qf,Qg,Qh,Qi,Qj,Qk,reduceCtorEq,reduceIte,g1,fD,h0,g3,EB,g4,xc8]
     |true=>
      rw[hc]at g4;generalize jv (alR b) rs 0=z at*
      by_cases hz:0<=z
      ·have ew:af.wrap ((es.length:Int)+z)=(es.length:Int)+z:=w64 (by omega) (by omega)
       simp only[go_sem,Q0,Q1,Q2,Q3,Q4,Q5,Q6,Q7,Q8,Q9,Qa,Qb,Qc,Qd,Qe,Qf,Qg,Qh,Qi,Qj,Qk,reduceCtorEq,reduceIte,g1,fD,h0,g3,EB,g4,xc8,g5,xiJ,hz,hv,ew]
      ·simp only[go_sem,Q0,Q1,Q2,Q3,Q4,Q5,Q6,Q7,Q8,Q9,Qa,Qb,Qc,Qd,Qe,Qf,Qg,Qh,Qi,Qj,Qk,reduceCtorEq,reduceIte,g1,fD,h0,g3,EB,g4,xc8,g5,xiJ,hz]
    ·simp only[go_sem,Q0,Q1,Q2,Q3,Q4,Q5,Q6,Q7,Q8,Q9,Qa,Qb,Qc,Qd,Qe,Qf,Qg,Qh,Qi,Qj,Qk,reduceCtorEq,reduceIte,g1,fD,h0,g3,EB,h9]
   ·simp only[go_sem,Q0,Q1,Q2,Q3,Q4,Q5,Q6,Q7,Q8,Q9,Qa,Qb,Qc,Qd,Qe,Qf,Qg,Qh,Qi,Qj,Qk,reduceCtorEq,reduceIte,g1,fD,h0,h1,h3]
 ·simp only[go_sem,Q0,Q1,Q2,Q3,Q4,Q5,Q6,Q7,Q8,Q9,Qa,Qb,Qc,Qd,Qe,Qf,Qg,Qh,Qi,Qj,Qk,reduceCtorEq,reduceIte,g1,fD,h0]
theorem Gn(v s:Nat):(gR (v:Int) s).toNat=v/2^s % 256:=by
 unfold gR
 have e:Int.fdiv (v:Int) (2^s)=((v/2^s:Nat):Int):=by
  have p:((2:Int)^s)=((2^s:Nat):Int):=by rw[Int.natCast_pow];rfl
  rw[p,Int.fdiv_eq_ediv_of_nonneg _ (Int.natCast_nonneg _)];rfl
 rw[e];show(cO ((v/2^s:Nat):Int)).toNat=_;generalize v/2^s=q;simp[cO];omega
theorem XV:∀(k a v:Nat),nF a (be k (v:Int))=a*256^k+v % 256^k
 |0,a,v=>by simp[be,nF,Nat.mod_one]
 |k+1,a,v=>by
  have h1:(gR (v:Int) (8*k)).toNat=v/256^k % 256:=by rw[Gn,Nat.pow_mul]
  show nF (a*256+(gR (v:Int) (8*k)).toNat) (be k (v:Int))=_;rw[XV k,h1,Nat.mod_pow_succ,Nat.pow_succ,bH,Nat.mul_assoc a,cN 256,cN (v/256^k % 256)];omega
theorem jJ(k:Nat)(v:Int)(h0:0<=v)(h1:v<((256^k:Nat):Int))(h8:v<18446744073709551616):((nB (bu k v):Nat):Int)=v:=by
 unfold bu nB;have e:aZ.wrap v=((v.toNat:Nat):Int):=by rw[cf];omega
 rw[e,XV,lu,cM,dV (by omega)];omega
theorem ph{B P X S:List UInt8}(h:B=P++(X++S)):(B.drop P.length).take X.length=X/\P.length+X.length<=B.length:=by
 subst h;constructor
 ·rw[List.drop_left',List.take_left']
  ·rfl
  ·rfl
 ·rw[ac,ac];omega
theorem kB{B P X S:List UInt8}(n:Nat)(h:B=P++(X++S))(hn:X.length=n):uR B n ⟨P.length,0⟩=(((nB X:Nat):Int),⟨(P++X).length,0⟩):=by subst hn;obtain⟨h1,h2⟩:=ph h;unfold uR;rw[if_pos rfl];simp only;rw[if_pos h2,h1,ac]
theorem xds{B P X S:List UInt8}(n:Nat)(h:B=P++(X++S))(hn:X.length=n):wR B n ⟨P.length,0⟩=(X,⟨(P++X).length,0⟩):=by subst hn;obtain⟨h1,h2⟩:=ph h;unfold wR;rw[if_pos rfl];simp only;rw[if_pos h2,h1,ac]
theorem OG{B P X S:List UInt8}(m:Nat)(h:B=P++((bu 2 (X.length:Int)++X)++S))(hm:X.length<=m)(h6:X.length<65536):bR B m ⟨P.length,0⟩=(X,⟨(P++(bu 2 (X.length:Int)++X)).length,0⟩):=by
 have hn:nB (bu 2 (X.length:Int))=X.length:=by
  have hp:((256^2:Nat):Int)=65536:=by decide
  have:=jJ 2 (X.length:Int) (by omega) (by rw[hp];omega) (by omega);omega
 have l2:(bu 2 (X.length:Int)).length=2:=cA ..;have h':B=P++(bu 2 (X.length:Int)++(X++S)):=by rw[h,ay (bu 2 _)]
 have h'':B=(P++bu 2 (X.length:Int))++(X++S):=by rw[h',ay]
 obtain⟨a1,a2⟩:=ph h';obtain⟨b1,b2⟩:=ph h'';rw[l2]at a1 a2;rw[ac,l2]at b1 b2;unfold bR;rw[if_pos rfl];simp only;rw[if_pos a2,a1,hn,if_pos hm,if_pos b2,b1];rw[ac,ac,l2]
def o8(x:Ent):List UInt8:=bu 1 x.role++(bu 2 (x.name.length:Int)++x.name)++bu 4 x.ver++x.dig
def rR(r:Rul):List UInt8:=bu 1 r.kind++(bu 2 (r.text.length:Int)++r.text)++bu 4 r.lo++bu 4 r.hi
theorem tc(B X:List UInt8)(h:X.length<65536):ie B X=B++(bu 2 (X.length:Int)++X):=by unfold ie bu;rw[aw (by omega),ay]
theorem Ru(B:List UInt8)(x:Ent)(h:x.name.length<65536):mF B x=B++o8 x:=by unfold mF o8;rw[tc _ _ h];simp only[ay]
theorem PT(B:List UInt8)(x:Rul)(h:x.text.length<65536):lz B x=B++rR x:=by unfold lz rR;rw[tc _ _ h];simp only[ay]
theorem vt:∀(l:List Ent)(B:List UInt8),(∀x∈l,x.name.length<65536)->l.foldl mF B=B++(l.map o8).flatten
 |[],B,_=>by simp
 |x::r,B,h=>by rw[cy,Ru _ _ (h x aB),vt r _ (fun y hy=>h y (an _ hy)),aI,dk,ay]
theorem vr:∀(l:List Rul)(B:List UInt8),(∀x∈l,x.text.length<65536)->l.foldl lz B=B++(l.map rR).flatten
 |[],B,_=>by simp
 |x::r,B,h=>by rw[cy,PT _ _ (h x aB),vr r _ (fun y hy=>h y (an _ hy)),aI,dk,ay]
structure xdf(x:Ent):Prop where
 r0:0<=x.role
 r1:x.role<256
 n:x.name.length<=12
 v0:0<=x.ver
 v1:x.ver<4294967296
 d:x.dig.length=32
structure xdd(x:Rul):Prop where
 r0:0<=x.kind
 r1:x.kind<256
 n:x.text.length<=32
 v0:0<=x.lo
 v1:x.lo<4294967296
 w0:0<=x.hi
 w1:x.hi<4294967296
theorem pp1:((256^1:Nat):Int)=256:=by decide
theorem pp4:((256^4:Nat):Int)=4294967296:=by decide
theorem pp6:((256^6:Nat):Int)=281474976710656:=by decide
theorem Rg{B P S:List UInt8}{x:Ent}(hx:xdf x)(h:B=P++(o8 x++S)):o7 B ⟨P.length,0⟩=(x,⟨(P++o8 x).length,0⟩):=by unfold o8 at h;have a1:=kB (B:=B) (P:=P) (X:=bu 1 x.role) (S:=(bu 2 (x.name.length:Int)++x.name)++(bu 4 x.ver++(x.dig++S))) 1 (by rw[h];simp only[ay]) (cA ..);have a2:=OG (B:=B) (P:=P++bu 1 x.role) (X:=x.name) (S:=bu 4 x.ver++(x.dig++S)) 12 (by rw[h];simp only[ay]) hx.n (by have:=hx.n;omega);have a3:=kB (B:=B) (P:=P++bu 1 x.role++(bu 2 (x.name.length:Int)++x.name)) (X:=bu 4 x.ver) (S:=x.dig++S) 4 (by rw[h];simp only[ay]) (cA ..);have a4:=xds (B:=B) (P:=P++bu 1 x.role++(bu 2 (x.name.length:Int)++x.name)++bu 4 x.ver) (X:=x.dig) (S:=S) 32 (by rw[h];simp only[ay]) hx.d;rw[jJ 1 x.role hx.r0 (by rw[pp1];exact hx.r1) (by have:=hx.r1;omega)]at a1;rw[jJ 4 x.ver hx.v0 (by rw[pp4];exact hx.v1) (by have:=hx.v1;omega)]at a3;unfold o7;rw[a1];simp only;rw[a2];simp only;rw[a3];simp only;rw[a4];unfold o8;simp only[ay]
theorem PN{B P S:List UInt8}{x:Rul}(hx:xdd x)(h:B=P++(rR x++S)):oz B ⟨P.length,0⟩=(x,⟨(P++rR x).length,0⟩):=by unfold rR at h;have a1:=kB (B:=B) (P:=P) (X:=bu 1 x.kind) (S:=(bu 2 (x.text.length:Int)++x.text)++(bu 4 x.lo++(bu 4 x.hi++S))) 1 (by rw[h];simp only[ay]) (cA ..);have a2:=OG (B:=B) (P:=P++bu 1 x.kind) (X:=x.text) (S:=bu 4 x.lo++(bu 4 x.hi++S)) 32 (by rw[h];simp only[ay]) hx.n (by have:=hx.n;omega);have a3:=kB (B:=B) (P:=P++bu 1 x.kind++(bu 2 (x.text.length:Int)++x.text)) (X:=bu 4 x.lo) (S:=bu 4 x.hi++S) 4 (by rw[h];simp only[ay]) (cA ..);have a4:=kB (B:=B) (P:=P++bu 1 x.kind++(bu 2 (x.text.length:Int)++x.text)++bu 4 x.lo) (X:=bu 4 x.hi) (S:=S) 4 (by rw[h];simp only[ay]) (cA ..);rw[jJ 1 x.kind hx.r0 (by rw[pp1];exact hx.r1) (by have:=hx.r1;omega)]at a1;rw[jJ 4 x.lo hx.v0 (by rw[pp4];exact hx.v1) (by have:=hx.v1;omega)]at a3;rw[jJ 4 x.hi hx.w0 (by rw[pp4];exact hx.w1) (by have:=hx.w1;omega)]at a4;unfold oz;rw[a1];simp only;rw[a2];simp only;rw[a3];simp only;rw[a4];unfold rR;simp only[ay]
theorem vB{B:List UInt8}:∀(l:List Ent)(es:List Ent)(P S:List UInt8),(∀x∈l,xdf x)->B=P++((l.map o8).flatten++S)->fv B l.length es ⟨P.length,0⟩=(es++l,⟨(P++(l.map o8).flatten).length,0⟩)
 |[],es,P,S,_,_=>by simp[fv]
 |x::r,es,P,S,hx,h=>by have a:=Rg (B:=B) (P:=P) (S:=(r.map o8).flatten++S) (hx x aB) (by rw[h,aI,dk];simp only[ay]);rw[aC];unfold fv;rw[if_pos rfl,a];simp only;rw[vB r (es++ [x]) (P++o8 x) S (fun y hy=>hx y (an _ hy)) (by rw[h,aI,dk];simp only[ay]),aI,dk];simp only[ay,aH,aF]
theorem uT{B:List UInt8}:∀(l:List Rul)(es:List Rul)(P S:List UInt8),(∀x∈l,xdd x)->B=P++((l.map rR).flatten++S)->fq B l.length es ⟨P.length,0⟩=(es++l,⟨(P++(l.map rR).flatten).length,0⟩)
 |[],es,P,S,_,_=>by simp[fq]
 |x::r,es,P,S,hx,h=>by have a:=PN (B:=B) (P:=P) (S:=(r.map rR).flatten++S) (hx x aB) (by rw[h,aI,dk];simp only[ay]);rw[aC];unfold fq;rw[if_pos rfl,a];simp only;rw[uT r (es++ [x]) (P++rR x) S (fun y hy=>hx y (an _ hy)) (by rw[h,aI,dk];simp only[ay]),aI,dk];simp only[ay,aH,aF]
def hV(B:List UInt8):List UInt8×Rs:=bR B 12 (uR B 1 ⟨0,0⟩).2
def hE(B:List UInt8):Int×Rs:=uR B 4 (hV B).2
def hF(B:List UInt8):Int×Rs:=uR B 4 (hE B).2
def hM(B:List UInt8):Int×Rs:=uR B 6 (hF B).2
def hT(B:List UInt8):Int×Rs:=uR B 6 (hM B).2
def hN(B:List UInt8):Int×Rs:=uR B 1 (hT B).2
def hL(B:List UInt8):List Ent×Rs:=fv B (hN B).1.toNat [] (hN B).2
def hK(B:List UInt8):Int×Rs:=uR B 1 (hL B).2
def hR(B:List UInt8):List Rul×Rs:=fq B (hK B).1.toNat [] (hK B).2
def sP(B:List UInt8):Man:=⟨(hV B).1,(hE B).1,(hF B).1,(hM B).1,(hT B).1,(hL B).1,(hR B).1⟩
def okP(B:List UInt8):Prop:=(uR B 1 ⟨0,0⟩).1=21/\eR B (hR B).2=0/\dn (sP B)=0
instance (B:List UInt8):Decidable (okP B):=by unfold okP;infer_instance
def vF(B:List UInt8):Option Man:=if okP B then some (sP B)else none
theorem xcX{k:Int}{t:List UInt8}{lo hi:Int}(h:chk k t lo hi=0):1<=k/\k<=4/\t.length<=32/\0<=lo/\lo<=1000000000/\0<=hi/\hi<=1000000000:=by
 unfold chk at h
 repeat' split at h
 all_goals first|(exfalso;omega)|skip
 ·refine⟨by omega,by omega,by omega,by omega,by omega,by omega,by omega⟩
 ·rename_i ht
  refine⟨by omega,by omega,by rw[ht];simp,by omega,by omega,by omega,by omega⟩
 ·refine⟨by omega,by omega,by omega,by omega,by omega,by omega,by omega⟩
theorem uP:∀{l:List Rul},hC l=0->∀r∈l,oA r=0
 |[],_,r,hr=>by cases hr
 |x::t,h,r,hr=>by
  unfold hC at h
  by_cases hx:oA x=0
  ·rw[if_pos hx]at h
   rcases am.1 hr with rfl|hr
   ·exact hx
   ·exact uP h r hr
  ·rw[if_neg hx]at h;exact absurd h hx
theorem FL{m:Man}(h:dn m=0):∀x∈m.ents,xdf x:=by intro x hx;obtain⟨a1,a2,⟨a3,a4,a5⟩,a6,a7⟩:=Cj h x hx;exact⟨by omega,by omega,(iO a7).2,a3,by omega,a6⟩
theorem FK{m:Man}(h:dn m=0):∀x∈m.ruls,xdd x:=by intro x hx;obtain⟨a1,a2,a3,a4,a5,a6,a7⟩:=xcX (uP (sQ h).2.1 x hx);exact⟨by omega,by omega,a3,a4,by omega,a6,by omega⟩
theorem s8{m:Man}(h:dn m=0):vF (gF m)=some m:=by
 obtain⟨-, -,hn,hr,hv,u0,u1,u2,u3,u4,u5⟩:=sQ h;have hE':=FL h;have hR':=FK h;have hvl:=(iO hv).2
 have key:gF m=bu 1 21++((bu 2 (m.vendor.length:Int)++m.vendor)++(bu 4 m.ver++(bu 4 m.flr++(bu 6 m.frm++(bu 6 m.til++(bu 1 (m.ents.length:Int)++((m.ents.map o8).flatten++(bu 1 (m.ruls.length:Int)++((m.ruls.map rR).flatten++ []))))))))):=by unfold gF hdM;rw[if_pos h,vt _ _ (fun x hx=>by have:=(hE' x hx).n;omega),vr _ _ (fun x hx=>by have:=(hR' x hx).n;omega),tc _ _ (by omega)];simp only[ay,aF,bZ]
 generalize gF m=B at*;have a0:=kB (B:=B) (P:=[]) 1 key (cA 1 21);have a1:=OG (B:=B) (P:=bu 1 21) 12 key hvl (by omega);have a2:=kB (B:=B) (P:=bu 1 21++(bu 2 (m.vendor.length:Int)++m.vendor)) 4 (by rw[key];simp only[ay];rfl) (cA 4 m.ver);have a3:=kB (B:=B) (P:=bu 1 21++(bu 2 (m.vendor.length:Int)++m.vendor)++bu 4 m.ver) 4 (by rw[key];simp only[ay];rfl) (cA 4 m.flr);have a4:=kB (B:=B) (P:=bu 1 21++(bu 2 (m.vendor.length:Int)++m.vendor)++bu 4 m.ver++bu 4 m.flr) 6 (by rw[key];simp only[ay];rfl) (cA 6 m.frm);have a5:=kB (B:=B) (P:=bu 1 21++(bu 2 (m.vendor.length:Int)++m.vendor)++bu 4 m.ver++bu 4 m.flr++bu 6 m.frm) 6 (by rw[key];simp only[ay];rfl) (cA 6 m.til);have a6:=kB (B:=B) (P:=bu 1 21++(bu 2 (m.vendor.length:Int)++m.vendor)++bu 4 m.ver++bu 4 m.flr++bu 6 m.frm++bu 6 m.til) 1 (by rw[key];simp only[ay];rfl) (cA 1 (m.ents.length:Int));have a7:=vB (B:=B) m.ents [] (bu 1 21++(bu 2 (m.vendor.length:Int)++m.vendor)++bu 4 m.ver++bu 4 m.flr++bu 6 m.frm++bu 6 m.til++bu 1 (m.ents.length:Int)) _ hE' (by rw[key];simp only[ay];rfl);have a8:=kB (B:=B) (P:=bu 1 21++(bu 2 (m.vendor.length:Int)++m.vendor)++bu 4 m.ver++bu 4 m.flr++bu 6 m.frm++bu 6 m.til++bu 1 (m.ents.length:Int)++(m.ents.map o8).flatten) 1 (by rw[key];simp only[ay];rfl) (cA 1 (m.ruls.length:Int));have a9:=uT (B:=B) m.ruls [] (bu 1 21++(bu 2 (m.vendor.length:Int)++m.vendor)++bu 4 m.ver++bu 4 m.flr++bu 6 m.frm++bu 6 m.til++bu 1 (m.ents.length:Int)++(m.ents.map o8).flatten++bu 1 (m.ruls.length:Int)) [] hR' (by rw[key];simp only[ay])
 rw[jJ 1 21 (by omega) (by rw[pp1];omega) (by omega)]at a0;rw[jJ 4 m.ver (by omega) (by rw[pp4];omega) (by omega)]at a2;rw[jJ 4 m.flr (by omega) (by rw[pp4];omega) (by omega)]at a3;rw[jJ 6 m.frm (by omega) (by rw[pp6];omega) (by omega)]at a4;rw[jJ 6 m.til (by omega) (by rw[pp6];omega) (by omega)]at a5;rw[jJ 1 (m.ents.length:Int) (by omega) (by rw[pp1];omega) (by omega)]at a6;rw[jJ 1 (m.ruls.length:Int) (by omega) (by rw[pp1];omega) (by omega)]at a8;rw[az,aF]at a0;have q1:=(congrArg (fun z:Int×Rs=>bR B 12 z.2) a0).trans a1;change hV B=_ at q1;have q2:=(congrArg (fun z:List UInt8×Rs=>uR B 4 z.2) q1).trans a2;change hE B=_ at q2;have q3:=(congrArg (fun z:Int×Rs=>uR B 4 z.2) q2).trans a3;change hF B=_ at q3;have q4:=(congrArg (fun z:Int×Rs=>uR B 6 z.2) q3).trans a4;change hM B=_ at q4;have q5:=(congrArg (fun z:Int×Rs=>uR B 6 z.2) q4).trans a5;change hT B=_ at q5;have q6:=(congrArg (fun z:Int×Rs=>uR B 1 z.2) q5).trans a6;change hN B=_ at q6;have q7:=(congrArg (fun z:Int×Rs=>fv B z.1.toNat [] z.2) q6).trans a7;change hL B=_ at q7;have q8:=(congrArg (fun z:List Ent×Rs=>uR B 1 z.2) q7).trans a8;change hK B=_ at q8;have q9:=(congrArg (fun z:Int×Rs=>fq B z.1.toNat [] z.2) q8).trans a9;change hR B=_ at q9
 have hm:sP B=m:=by unfold sP;rw[q1,q2,q3,q4,q5,q7,q9];rfl
 have hend:eR B (hR B).2=0:=by
  rw[q9];unfold eR;rw[if_pos rfl,if_neg];simp only
  conv=>rhs;rw[key]
  simp only[ay,bZ];omega
 unfold vF;rw[if_pos ⟨by rw[a0],hend,by rw[hm];exact h⟩,hm]
theorem yF(B:List UInt8)(m:Nat)(s:Rs):(bR B m s).1.length<=m:=by
 unfold bR;split
 ·split
  ·split
   ·split
    ·rename_i h _;show(du _ _).length<=_;rw[aj];omega
    ·exact bW _
   ·exact bW _
  ·exact bW _
 ·exact bW _
theorem ZS(B:List UInt8)(m:Nat)(s:Rs):(wR B m s).1.length<=m:=by
 unfold wR;split
 ·split
  ·show(du _ _).length<=_;rw[aj];omega
  ·exact bW _
 ·exact bW _
theorem tJ(B:List UInt8)(s:Rs):0<=(uR B 1 s).1/\(uR B 1 s).1<256:=by
 unfold uR;split
 ·split
  ·have h:=Oy ((B.drop s.a).take 1)
   have h2:((B.drop s.a).take 1).length<=1:=by rw[aj];omega
   have h3:256^((B.drop s.a).take 1).length<=256^1:=Nat.pow_le_pow_right (by decide) h2;have h4:(256:Nat)^1=256:=by decide
   constructor
   ·exact Int.natCast_nonneg _
   ·show((nB _:Nat):Int)<256;omega
  ·exact⟨Int.le_refl _,by show(0:Int)<256;decide⟩
 ·exact⟨Int.le_refl _,by show(0:Int)<256;decide⟩
theorem vz{B:List UInt8}:∀{n:Nat}{es:List Ent}{s:Rs},(∀x∈es,x.name.length<=12/\x.dig.length<=32)->∀x∈(fv B n es s).1,x.name.length<=12/\x.dig.length<=32
 |0,_,_,h=>h
 |n+1,es,s,h=>by
  unfold fv;split
  ·refine vz fun x hx=> ?_
   rw[al,ba]at hx;rcases hx with hx|rfl
   ·exact h x hx
   ·exact⟨yF _ _ _,ZS _ _ _⟩
  ·exact h
theorem uS{B:List UInt8}:∀{n:Nat}{es:List Rul}{s:Rs},(∀x∈es,x.text.length<=32)->∀x∈(fq B n es s).1,x.text.length<=32
 |0,_,_,h=>h
 |n+1,es,s,h=>by
  unfold fq;split
  ·refine uS fun x hx=> ?_
   rw[al,ba]at hx;rcases hx with hx|rfl
   ·exact h x hx
   ·exact yF _ _ _
  ·exact h
theorem Ck(B:List UInt8):cQ (sP B):=by
 have h1:=rP (B:=B) (n:=(hN B).1.toNat) (es:=[]) (s:=(hN B).2);have h2:=re (B:=B) (n:=(hK B).1.toNat) (es:=[]) (s:=(hK B).2);have h3:=tJ B (hT B).2;have h4:=tJ B (hL B).2;change 0<=(hN B).1/\(hN B).1<256 at h3;change 0<=(hK B).1/\(hK B).1<256 at h4;rw[az]at h1 h2
 exact⟨by have:=yF B 12 (uR B 1 ⟨0,0⟩).2;show(hV B).1.length<=_;unfold hV;omega,by show(hL B).1.length<=_;unfold hL;omega,by show(hR B).1.length<=_;unfold hR;omega,
  fun x hx=>by have:=vz (B:=B) (n:=(hN B).1.toNat) (es:=[]) (s:=(hN B).2) (fun x hx=>by cases hx) x hx;omega,
  fun x hx=>by have:=uS (B:=B) (n:=(hK B).1.toNat) (es:=[]) (s:=(hK B).2) (fun x hx=>by cases hx) x hx;omega⟩
def mnz:Man:=⟨[],0,0,0,0,[],[]⟩
def Yc(B:List UInt8):Man:=match vF B with|some m=>m|none=>mnz
def Yd(B:List UInt8):Int:=match vF B with|some _=>0|none=>30
theorem xjq(B:List UInt8)(hB:B.length<=1000000000)(v:List UInt8)(ve fl fr ti:Int)(es:List Ent)(s:Rs)(hs:gg B s)(t:Tok)(tk:List Nat)(t1:Nat)
 (ht:t= .clip/\tk=[]/\es=[]\/t= .id 160/\tk=[160]) (h1:t1=34060\/t1=55060\/t1=39060):
 run T (.ops qj) ⟨[(2,.ptr 102 0),(4,.ptr 12100 0),(5,.ptr 105 0)],[(102,zR),(105,mR v ve fl fr ti es t [] .clip),(12100,rdO B t1 s)],tk++ [t1]⟩=
  some (.n,⟨[(2,.ptr 102 0),(4,.ptr 12100 0),(5,.ptr 105 0),(8,.int .i64 (uR B 1 s).1)],[(102,zR),(105,mR v ve fl fr ti es t [] .clip),(12100,rdO B 64060 (uR B 1 s).2)],tk++ [64060]⟩):=by
 have g:=f51 B hB 1 (by omega) (by omega) s hs;rw[show((1:Nat):Int)=1 from rfl]at g;simp only[zR,mR,rdO]at g ⊢;rcases ht with⟨rfl,rfl,rfl⟩|⟨rfl,rfl⟩<;>rcases h1 with rfl|rfl|rfl<;>simp only[go_sem,Q0,Q1,Q2,Q3,Q4,Q5,Q6,Q7,Q8,Q9,Qa,Qb,Qc,Qd,Qe,Qf,Qg,Qh,Qi,Qj,Qk,reduceCtorEq,reduceIte,g,xy]
theorem xjp(B:List UInt8)(hB:B.length<=1000000000)(v:List UInt8)(ve fl fr ti:Int)(es:List Ent)(s:Rs)(hs:gg B s)(t:Tok)(tk:List Nat)(rs:List Rul)(u:Tok)(uk:List Nat)(u1:Nat)
 (hm:cQ ⟨v,ve,fl,fr,ti,es,rs⟩)
 (ht:t= .clip/\tk=[]/\es=[]\/t= .id 160/\tk=[160]) (hu:u= .clip/\uk=[]/\rs=[]\/u= .id 190/\uk=[190]) (h1:u1=64060\/u1=85060\/u1=69060):
 run T (.ops qh) ⟨[(2,.ptr 102 0),(4,.ptr 12100 0),(5,.ptr 105 0)],[(102,zR),(105,mR v ve fl fr ti es t rs u),(12100,rdO B u1 s)],tk++(uk++ [u1])⟩=
  some (.n,⟨[(2,.ptr 102 0),(5,.ptr 105 0),(99,.bool (!decide (eR B s=0/\dn ⟨v,ve,fl,fr,ti,es,rs⟩=0)))],[(102,zR),(105,mR v ve fl fr ti es t rs u),(12100,rdO B 94060 s)],tk++(uk++ [94060])⟩):=by
 have g:=f55 B hB s hs;have gm:=f13 ⟨v,ve,fl,fr,ti,es,rs⟩ hm;generalize dn ⟨v,ve,fl,fr,ti,es,rs⟩=q at*;generalize eR B s=p at*
 by_cases hp:p=0
 ·subst hp
  by_cases hq:q=0
  ·subst hq
   simp only[zR,mR,rdO,Man.sv]at g gm ⊢;rcases ht with⟨rfl,rfl,rfl⟩|⟨rfl,rfl⟩<;>rcases hu with⟨rfl,rfl,rfl⟩|⟨rfl,rfl⟩<;>rcases h1 with rfl|rfl|rfl<;>simp only[go_sem,Q0,Q1,Q2,Q3,Q4,Q5,Q6,Q7,Q8,Q9,Qa,Qb,Qc,Qd,Qe,Qf,Qg,Qh,Qi,Qj,Qk,reduceCtorEq,reduceIte,g,xc9,gm,fD]
  ·simp only[zR,mR,rdO,Man.sv]at g gm ⊢
   rcases ht with⟨rfl,rfl,rfl⟩|⟨rfl,rfl⟩<;>rcases hu with⟨rfl,rfl,rfl⟩|⟨rfl,rfl⟩<;>rcases h1 with rfl|rfl|rfl<;>simp only[go_sem,Q0,Q1,Q2,Q3,Q4,Q5,Q6,Q7,Q8,Q9,Qa,Qb,Qc,Qd,Qe,Qf,Qg,Qh,Qi,Qj,Qk,reduceCtorEq,reduceIte,g,xc9,gm,fD,hq]
 ·simp only[zR,mR,rdO,Man.sv]at g gm ⊢
  rcases ht with⟨rfl,rfl,rfl⟩|⟨rfl,rfl⟩<;>rcases hu with⟨rfl,rfl,rfl⟩|⟨rfl,rfl⟩<;>rcases h1 with rfl|rfl|rfl<;>simp only[go_sem,Q0,Q1,Q2,Q3,Q4,Q5,Q6,Q7,Q8,Q9,Qa,Qb,Qc,Qd,Qe,Qf,Qg,Qh,Qi,Qj,Qk,reduceCtorEq,reduceIte,g,xc9,hp]
attribute [-go_sem] qj qh
theorem f17(B:List UInt8)(hB:B.length<=1000000000):call T 17 [.byt B .no] [] 0=some ⟨.tup [.agg (Yc B).sv,.int .i64 (Yd B)],[],[]⟩:=by
 have g0:=f50 B hB;have k0:gg B ⟨0,0⟩:=⟨bW _⟩;have g1:=f51 B hB 1 (by omega) (by omega) ⟨0,0⟩ k0;have k1:=il (n:=1) k0;have g2:=f52 B hB 12 (by omega) _ k1;have k2:gg B (hV B).2:=xl (n:=12) k1;have g3:=f51 B hB 4 (by omega) (by omega) _ k2;have k3:gg B (hE B).2:=il (n:=4) k2;have g4:=f51 B hB 4 (by omega) (by omega) _ k3;have k4:gg B (hF B).2:=il (n:=4) k3;have g5:=f51 B hB 6 (by omega) (by omega) _ k4;have k5:gg B (hM B).2:=il (n:=6) k4;have g6:=f51 B hB 6 (by omega) (by omega) _ k5;have k6:gg B (hT B).2:=il (n:=6) k5;have g7:=f51 B hB 1 (by omega) (by omega) _ k6;have k7:gg B (hN B).2:=il (n:=1) k6;have n1:=tJ B (hT B).2;have n2:=tJ B (hL B).2;change 0<=(hN B).1/\(hN B).1<256 at n1;change 0<=(hK B).1/\(hK B).1<256 at n2;have nn:(hN B).1=(((hN B).1.toNat:Nat):Int):=by omega
 have nk:(hK B).1=(((hK B).1.toNat:Nat):Int):=by omega
 obtain⟨t',tk',t1,q1,q2,q3⟩:=xjH B hB (hV B).1 (hE B).1 (hF B).1 (hM B).1 (hT B).1 (hN B).1.toNat [] (hN B).2 .clip [] 34060 (by rw[az];omega) k7 (.inl ⟨rfl,rfl,rfl⟩) (.inl rfl);have k8:gg B (hL B).2:=vy k7;have g8:=f51 B hB 1 (by omega) (by omega) _ k8;have k9:gg B (hK B).2:=il (n:=1) k8;have gm:=f13 (sP B) (Ck B);change (t'= .clip/\tk'=[]/\(hL B).1=[]\/t'= .id 160/\tk'=[160])at q1;obtain⟨u',uk',u1,r1,r2,r3⟩:=xjG B hB (hV B).1 (hE B).1 (hF B).1 (hM B).1 (hT B).1 (hL B).1 t' tk' q1 (hK B).1.toNat [] (hK B).2 .clip [] 64060 (by rw[az];omega) k9 (.inl ⟨rfl,rfl,rfl⟩) (.inl rfl);have k10:gg B (hR B).2:=uQ k9;have g9:=f55 B hB _ k10;change _/\_/\(hR B).1=[]\/_ at r1;rw[<-nn]at q3;rw[<-nk]at r3;change run T _ _=some (Ex.x 0,⟨_,[_,(105,mR _ _ _ _ _ (hL B).1 t' [] .clip),(12100,rdO B t1 (hL B).2)],_⟩)at q3;change run T _ _=some (Ex.x 2,⟨_,[_,(105,mR _ _ _ _ _ (hL B).1 t' (hR B).1 u'),(12100,rdO B u1 (hR B).2)],_⟩)at r3;change call T 51 _ _ _=some ⟨.int .i64 (hE B).1,[(0,rdO B 60 (hE B).2)],[60]⟩at g3;change call T 51 _ _ _=some ⟨.int .i64 (hF B).1,[(0,rdO B 60 (hF B).2)],[60]⟩at g4;change call T 51 _ _ _=some ⟨.int .i64 (hM B).1,[(0,rdO B 60 (hM B).2)],[60]⟩at g5;change call T 51 _ _ _=some ⟨.int .i64 (hT B).1,[(0,rdO B 60 (hT B).2)],[60]⟩at g6;change call T 51 _ _ _=some ⟨.int .i64 (hN B).1,[(0,rdO B 60 (hN B).2)],[60]⟩at g7;change call T 51 _ _ _=some ⟨.int .i64 (hK B).1,[(0,rdO B 60 (hK B).2)],[60]⟩at g8;change call T 52 _ _ _=some ⟨.byt (hV B).1 .no,[(0,rdO B 60 (hV B).2)],[60]⟩at g2
 have o1:=xjq B hB (hV B).1 (hE B).1 (hF B).1 (hM B).1 (hT B).1 (hL B).1 (hL B).2 k8 t' tk' t1 q1 q2;have o2:=xjp B hB (hV B).1 (hE B).1 (hF B).1 (hM B).1 (hT B).1 (hL B).1 (hR B).2 k10 t' tk' (hR B).1 u' uk' u1 (Ck B) q1 r1 r2;change run T _ _=some (Ex.n,⟨[_,_,_,(8,SV.int .i64 (hK B).1)],[_,_,(12100,rdO B 64060 (hK B).2)],_⟩)at o1;change run T _ _=some (Ex.n,⟨[_,_,(99,SV.bool (!decide (eR B (hR B).2=0/\dn (sP B)=0)))],_,_⟩)at o2
 have hokd:vF B=if(uR B 1 ⟨0,0⟩).1=21/\eR B (hR B).2=0/\dn (sP B)=0 then some (sP B)else none:=by unfold vF okP;rfl
 have hsv:(sP B).sv=[.str (hV B).1,.int .i64 (hE B).1,.int .i64 (hF B).1,.int .i64 (hM B).1,.int .i64 (hT B).1,.lst 4 (bf (hL B).1) .no,.lst 4 (bO (hR B).1) .no]:=rfl;have hze:bf []=[]:=rfl;have hzr:bO []=[]:=rfl;rw[show((1:Nat):Int)=1 from rfl]at g1 g7;rw[show((12:Nat):Int)=12 from rfl]at g2;rw[show((4:Nat):Int)=4 from rfl]at g3 g4;rw[show((6:Nat):Int)=6 from rfl]at g5 g6;unfold Yc Yd;rw[hokd];rw[ao xlI];simp only[aF]at q3 r3
 by_cases ht:(uR B 1 ⟨0,0⟩).1=21
 ·by_cases hb:eR B (hR B).2=0/\dn (sP B)=0
  ·rw[if_pos ⟨ht,hb⟩]
   rw[decide_eq_true hb]at o2;simp only[hsv];simp only[zR,mR,rdO,hze,hzr,aA]at g0 g1 g2 g3 g4 g5 g6 g7 q3 r3 o1 o2;rw[ht]at g1;simp only[go_sem,Q0,Q1,Q2,Q3,Q4,Q5,Q6,Q7,Q8,Q9,Qa,Qb,Qc,Qd,Qe,Qf,Qg,Qh,Qi,Qj,Qk,reduceCtorEq,reduceIte,g0,xda,g1,xy,g2,EA,g3,g4,g5,g6,g7,q3,o1,r3,o2]
  ·rw[if_neg (fun h=>hb h.2)]
   rw[decide_eq_false hb]at o2;simp only[zR,mR,rdO,hze,hzr,aA]at g0 g1 g2 g3 g4 g5 g6 g7 q3 r3 o1 o2;rw[ht]at g1;simp only[go_sem,Q0,Q1,Q2,Q3,Q4,Q5,Q6,Q7,Q8,Q9,Qa,Qb,Qc,Qd,Qe,Qf,Qg,Qh,Qi,Qj,Qk,reduceCtorEq,reduceIte,g0,xda,g1,xy,g2,EA,g3,g4,g5,g6,g7,q3,o1,r3,o2];rcases q1 with⟨rfl,rfl,hz⟩|⟨rfl,rfl⟩<;>rcases r1 with⟨rfl,rfl,hz2⟩|⟨rfl,rfl⟩<;>simp only[go_sem,Q0,Q1,Q2,Q3,Q4,Q5,Q6,Q7,Q8,Q9,Qa,Qb,Qc,Qd,Qe,Qf,Qg,Qh,Qi,Qj,Qk,reduceCtorEq,reduceIte,hze,hzr,mnz,Man.sv]
 ·rw[if_neg (fun h=>ht h.1)]
  simp only[zR,mR,rdO,hze,hzr,aA]at g0 g1;simp only[go_sem,Q0,Q1,Q2,Q3,Q4,Q5,Q6,Q7,Q8,Q9,Qa,Qb,Qc,Qd,Qe,Qf,Qg,Qh,Qi,Qj,Qk,reduceCtorEq,reduceIte,g0,xda,g1,xy,ht,mnz,Man.sv,hze,hzr]
attribute [go_sem] qj qh
end Go.Proofs.YtkcjdeofknkndaaGreatDoor
