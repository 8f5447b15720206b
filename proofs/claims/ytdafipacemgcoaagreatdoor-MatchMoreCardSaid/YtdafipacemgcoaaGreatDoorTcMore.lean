/- What the functions come to. No condition. -/
import Derived.Test.YtdafipacemgcoaaGreatDoorTbMore
open Bool renaming false_and -> Fl, false_eq_true -> aH, false_or -> dq, true_or -> fU
open Int renaming fdiv -> Fj, natCast_zero -> aB, toNat_natCast -> eE
open Go.IntKind renaming i64 -> ai, u64 -> bm, wrap_u64 -> cH
open List renaming append_assoc -> aZ, cons_append -> bK, drop -> eQ, drop_eq_getElem_cons -> aU, drop_length -> aL, drop_zero -> aR, foldl_cons -> cE, foldl_nil -> oS, getD_cons_succ -> bh, getD_cons_zero -> bc, getD_eq_getElem?_getD -> aa, getElem?_eq_getElem -> af, getElem_mem -> bj, getElem_of_mem -> bJ, length_append -> ah, length_cons -> av, length_drop -> aE, length_eq_zero_iff -> bR, length_map -> aX, length_nil -> aQ, length_set -> cu, length_singleton -> aD, length_take -> ay, map_append -> bx, map_cons -> aP, map_nil -> df, map_take -> lC, mem_append -> an, mem_cons -> au, mem_cons_of_mem -> aw, mem_cons_self -> aG, mem_map -> aV, mem_of_mem_drop -> dy, mem_of_mem_take -> bW, mem_singleton -> bp, nil_append -> bw, pairwise_append -> lB, pairwise_cons -> cX, pairwise_iff_getElem -> oU, replicate -> aq, take -> cj, take_length -> bo, take_of_length_le -> bO
open Nat renaming add_mul -> bQ, add_zero -> fz, le_refl -> aM, le_trans -> cr, lt_or_ge -> bP, mul_one -> dx, zero_add -> bB, zero_le -> bL
open Option renaming getD_some -> bq
open UInt8 renaming ofInt -> bM
set_option maxRecDepth 100000
set_option maxHeartbeats 16000000
set_option linter.unusedSimpArgs false
set_option linter.unusedVariables false
namespace Go.Proofs.YtdafipacemgcoaaGreatDoor
open Go.Sy
open UInt8 renaming reduceLT -> Q0, reduceLE -> Q1
open Int renaming reduceToNat -> Q2, reduceLE -> Q3, reduceLT -> Q4, reduceEq -> Q5, reduceNe -> Q6, reduceNeg -> Q7, reduceAdd -> Q8, reduceSub -> Q9, reduceMul -> Qa
open Nat renaming reducePow -> Qb, reduceDiv -> Qc, reduceMod -> Qd, reduceAdd -> Qe, reduceSub -> Qf, reduceMul -> Qg, reduceLT -> Qh, reduceLeDiff -> Qi, reduceEqDiff -> Qj, reduceBEq -> Qk
def fK{α:Type}(p:α->Bool):List α->Nat->Int
 |[],_=> -1
 |x::r,i=>if p x=true then(i:Int)else fK p r (i+1)
def itE(e:Ev)(x:Ent):Bool:=decide (e.reg=sS x.role)&&(decide (e.dg.getD 1 []=x.dig)&&decide (e.data=ti x.name x.ver))
def EZ(x:Ent):Prop:=0<=x.ver/\x.ver<=1000000/\x.name.length<=1000000
theorem S1{l:List Ent}{i:Nat}(h:lw l i=0):1<=(l.getD i en0).role/\(l.getD i en0).role<=3/\0<=(l.getD i en0).ver/\(l.getD i en0).ver<=1000000/\(l.getD i en0).dig.length=32/\Pr.nameB (l.getD i en0).name=true:=by
 unfold lw at h;generalize l.getD i en0=x at*
 repeat' split at h
 all_goals first|omega|skip
 all_goals (refine⟨by omega,by omega,by omega,by omega,by omega,by assumption⟩)
theorem wh(l:List Ent):∀(n i:Nat),gD l n i=0->∀k,i<=k->k<i+n->lw l k=0
 |0,i,_,k,h1,h2=>by omega
 |n+1,i,h,k,h1,h2=>by
  unfold gD at h
  by_cases h0:lw l i=0
  ·rw[if_pos h0]at h
   rcases bP i k with h3|h3
   ·exact wh l n (i+1) h k (by omega) (by omega)
   ·have:k=i:=by omega
    rw[this];exact h0
  ·rw[if_neg h0]at h;exact absurd h h0
theorem Sm{m:Man}(h:lq m=0):gD m.ents m.ents.length 0=0/\jL m.ruls=0/\m.ents.length<=16/\m.ruls.length<=8/\Pr.nameB m.vendor=true/\0<=m.flr/\m.flr<=m.ver/\m.ver<=1000000/\0<=m.frm/\m.frm<m.til/\m.til<=1099511627776:=by
 unfold lq at h
 by_cases h0:Pr.nameB m.vendor=true
 ·rw[if_pos h0]at h
  repeat' split at h
  all_goals first|(exfalso;omega)|skip
  refine⟨by assumption,h,by omega,by omega,h0,by omega,by omega,by omega,by omega,by omega,by omega⟩
 ·rw[if_neg h0]at h;omega
theorem C0{m:Man}(h:lq m=0):∀x∈m.ents,1<=x.role/\x.role<=3/\EZ x/\x.dig.length=32/\Pr.nameB x.name=true:=by
 intro x hx;obtain⟨i,hi,rfl⟩:=bJ hx;have h1:=S1 (wh m.ents _ 0 (Sm h).1 i (bL _) (by omega));have e:m.ents.getD i en0=m.ents[i]:=by rw[aa,af hi];rfl
 rw[e]at h1;obtain⟨a,b,c,d,f,g⟩:=h1;have:=kM g;exact⟨a,b,⟨c,d,by omega⟩,f,g⟩
theorem f46(e:Ev)(x:Ent)(hd:e.dg.length=2)(hx:EZ x):call T 46 [.agg x.sv,.ptr 0 0] [.rc e.sv] 0=some ⟨.bool (itE e x),[(0,.rc e.sv)],[]⟩:=by
 obtain⟨h0,h1,h2⟩:=hx;have g1:=f47 x.role;have g2:=f48 (e.dg.getD 1 []) x.dig;obtain⟨v,hv⟩:=Int.eq_ofNat_of_zero_le h0;have g3:=f49 v (by omega);have hl:=jg 6 v (by omega);obtain⟨g,k,ds,b⟩:=e;obtain⟨ro,na,ve,di⟩:=x;simp only at hd hv h2 g1 g2;subst hv;rw[two ds [] hd]at*;generalize ds.getD 0 []=d0 at*;generalize ds.getD 1 []=d1 at*;have hbl:bls [d0,d1]=[[.byt d0 .no],[.byt d1 .no]]:=rfl;simp only[bc,bh]at g2;rw[am xpi];unfold itE Ev.sv Ent.sv ti;have c1:na.length+1<=9223372036854775807:=by omega
 have c2:na.length+1+(dec v).length<=9223372036854775807:=by omega
 simp only[hbl,bc,bh,eE]
 by_cases a1:g=sS ro
 ·by_cases a2:d1=di
  ·rw[decide_eq_true a2]at g2
   simp only[go_sem,Q2,Q3,Q4,Qb,Qc,Qd,Qe,Qh,Qi,Qj,Qk,reduceCtorEq,reduceIte,g1,FB,a1,g2,wB,g3,xpV,c1,c2,decide_eq_true a2]
  ·rw[decide_eq_false a2]at g2
   simp only[go_sem,Q2,Q3,Q4,Qb,Qc,Qd,Qe,Qh,Qi,Qj,Qk,reduceCtorEq,reduceIte,g1,FB,a1,g2,wB,decide_eq_false a2]
 ·simp only[go_sem,Qb,Qc,Qd,Qe,Qh,Qi,Qj,Qk,reduceCtorEq,reduceIte,g1,FB,a1]
theorem l45(e:Ev)(es:List Ent)(hd:e.dg.length=2)(hx:∀x∈es,EZ x)(hn:es.length<=1000000):∀(n i:Nat),es.length-i=n->i<=es.length->
 run T (.loop PM) ⟨[(0,.lst 4 (dC es) .no),(1,.fn 46 [] [.ptr 0 0]),(7,.int .i64 es.length),(8,.int .i64 i)],[(0,.rc e.sv)],[]⟩=
 if fK (itE e) (es.drop i) i= -1 then some (.x 0,⟨[],[(0,.rc e.sv)],[]⟩)else some (.r,⟨[(4,.int .i64 (fK (itE e) (es.drop i) i))],[(0,.rc e.sv)],[]⟩):=by
 intro n;induction n with
 |zero=>
  intro i h0 h1;have:i=es.length:=by omega
  subst this;rw[aj,aL];simp only[go_sem,Q7,Qh,Qj,Qk,reduceCtorEq,reduceIte,fK]
 |succ n ih=>
  intro i h0 h1;have hi:i<es.length:=by omega
  have e1:=bV i (by omega);have ih':=ih (i+1) (by omega) (by omega);have hv:=cT es;have hg:=fx es i hi;have g:=f46 e (es.getD i en0) hd (hx _ (bG es en0 i hi));have hdr:es.drop i=es.getD i en0::es.drop (i+1):=by rw[aU hi,aa,af hi];rfl
  rw[hdr];generalize es.drop (i+1)=R at*;generalize es.getD i en0=x at*;obtain⟨ro,na,ve,di⟩:=x;simp only[Ev.sv,Ent.sv]at*;rw[aj];unfold fK;cases hb:itE e ⟨ro,na,ve,di⟩with
  |true=>
   rw[hb]at g;have hne:¬(i:Int)= -1:=by omega
   simp only[go_sem,Q7,Qe,Qg,Qh,Qi,Qj,Qk,reduceCtorEq,reduceIte,hi,hv,hg,g,xmG,hne]
  |false=>rw[hb]at g;simp only[go_sem,Q7,Qe,Qg,Qh,Qi,Qj,Qk,reduceCtorEq,reduceIte,hi,e1,hv,hg,g,xmG,ih']
theorem f45(e:Ev)(es:List Ent)(hd:e.dg.length=2)(hx:∀x∈es,EZ x)(hn:es.length<=1000000):
 call T 45 [.lst 4 (dC es) .no,.fn 46 [] [.ptr 0 0]] [.rc e.sv] 0=some ⟨.int .i64 (fK (itE e) es 0),[(0,.rc e.sv)],[]⟩:=by
 have h:=l45 e es hd hx hn _ 0 rfl (by omega);simp only[aB,aR]at h;have hv:=cT es;rw[am xpj];unfold Ev.sv at h ⊢
 by_cases hq:fK (itE e) es 0= -1
 ·rw[if_pos hq]at h
  simp only[go_sem,Q7,Qe,Qh,Qi,Qj,Qk,reduceCtorEq,reduceIte,hv,h,hq]
 ·rw[if_neg hq]at h
  simp only[go_sem,Q7,Qe,Qh,Qi,Qj,Qk,reduceCtorEq,reduceIte,hv,h]
def alR(b:List UInt8)(r:Rul):Bool:=alw r.kind r.text r.lo r.hi b
theorem f52(e:Ev)(r:Rul)(ht:r.text.length<=1000000)(hb:e.data.length<=1000000):call T 52 [.agg r.sv,.ptr 0 0] [.rc e.sv] 0=some ⟨.bool (alR e.data r),[(0,.rc e.sv)],[]⟩:=by have g:=f53 r.kind r.text r.lo r.hi e.data (by omega) (by omega);obtain⟨g',k,ds,b⟩:=e;obtain⟨q,t,lo,hi⟩:=r;rw[am xpc];unfold alR Ev.sv Rul.sv;simp only[go_sem,Qe,Qh,Qi,Qj,Qk,reduceCtorEq,reduceIte,g,xpU]
theorem l51(e:Ev)(rs:List Rul)(hb:e.data.length<=1000000)(hx:∀x∈rs,x.text.length<=1000000)(hn:rs.length<=1000000):∀(n i:Nat),rs.length-i=n->i<=rs.length->
 run T (.loop PJ) ⟨[(0,.lst 4 (eP rs) .no),(1,.fn 52 [] [.ptr 0 0]),(7,.int .i64 rs.length),(8,.int .i64 i)],[(0,.rc e.sv)],[]⟩=
 if fK (alR e.data) (rs.drop i) i= -1 then some (.x 0,⟨[],[(0,.rc e.sv)],[]⟩)else some (.r,⟨[(4,.int .i64 (fK (alR e.data) (rs.drop i) i))],[(0,.rc e.sv)],[]⟩):=by
 intro n;induction n with
 |zero=>
  intro i h0 h1;have:i=rs.length:=by omega
  subst this;rw[aj,aL];simp only[go_sem,Q7,Qh,Qj,Qk,reduceCtorEq,reduceIte,fK]
 |succ n ih=>
  intro i h0 h1;have hi:i<rs.length:=by omega
  have e1:=bV i (by omega);have ih':=ih (i+1) (by omega) (by omega);have hv:=dP rs;have hg:=ja rs i hi;have g:=f52 e (rs.getD i rl0) (hx _ (bG rs rl0 i hi)) hb;have hdr:rs.drop i=rs.getD i rl0::rs.drop (i+1):=by rw[aU hi,aa,af hi];rfl
  rw[hdr];generalize rs.drop (i+1)=R at*;generalize rs.getD i rl0=x at*;obtain⟨q,t,lo,hi'⟩:=x;simp only[Ev.sv,Rul.sv]at*;rw[aj];unfold fK;cases hb:alR e.data ⟨q,t,lo,hi'⟩with
  |true=>
   rw[hb]at g;have hne:¬(i:Int)= -1:=by omega
   simp only[go_sem,Q7,Qe,Qg,Qh,Qi,Qj,Qk,reduceCtorEq,reduceIte,hi,hv,hg,g,xmE,hne]
  |false=>rw[hb]at g;simp only[go_sem,Q7,Qe,Qg,Qh,Qi,Qj,Qk,reduceCtorEq,reduceIte,hi,e1,hv,hg,g,xmE,ih']
theorem f51(e:Ev)(rs:List Rul)(hb:e.data.length<=1000000)(hx:∀x∈rs,x.text.length<=1000000)(hn:rs.length<=1000000):
 call T 51 [.lst 4 (eP rs) .no,.fn 52 [] [.ptr 0 0]] [.rc e.sv] 0=some ⟨.int .i64 (fK (alR e.data) rs 0),[(0,.rc e.sv)],[]⟩:=by
 have h:=l51 e rs hb hx hn _ 0 rfl (by omega);simp only[aB,aR]at h;have hv:=dP rs;rw[am xpd];unfold Ev.sv at h ⊢
 by_cases hq:fK (alR e.data) rs 0= -1
 ·rw[if_pos hq]at h
  simp only[go_sem,Q7,Qe,Qh,Qi,Qj,Qk,reduceCtorEq,reduceIte,hv,h,hq]
 ·rw[if_neg hq]at h
  simp only[go_sem,Q7,Qe,Qh,Qi,Qj,Qk,reduceCtorEq,reduceIte,hv,h]
theorem pB{α:Type}(p:α->Bool):∀(l:List α)(i:Nat),fK p l i= -1\/((i:Int)<=fK p l i/\fK p l i<i+l.length)
 |[],_=> .inl rfl
 |x::r,i=>by
  unfold fK
  by_cases h:p x=true
  ·rw[if_pos h,av];right;omega
  ·rw[if_neg h,av]
   rcases pB p r (i+1)with h|h
   ·exact .inl h
   ·right;omega
structure sn(e:Ev):Prop where
 d2:e.dg.length=2
 b:e.data.length<=1000000
 d0:(e.dg.getD 0 []).length<=1000000
 d1:(e.dg.getD 1 []).length<=1000000
def dV(m:Man)(e:Ev):Int:=
 if lq m=0 then
  (if e.kind=1 then fK (itE e) m.ents 0
  else if e.kind=3 then(if e.reg=9 then(if pK e=true then(if 0<=fK (alR e.data) m.ruls 0 then(m.ents.length:Int)+fK (alR e.data) m.ruls 0 else-1)else-1)else-1)
  else-1)
 else-1
theorem f15(m:Man)(hm:eX m)(e:Ev)(he:sn e):call T 15 [.agg m.sv,.agg e.sv] [] 0=some ⟨.int .i64 (dV m e),[],[]⟩:=by
 have g1:=f44 m hm;have g3:=f47 4;have k9:sS 4=9:=rfl;have g4:=f50 e he.d2 he.b;have g5:=f51 e m.ruls he.b hm.r hm.rn;have hr:=pB (alR e.data) m.ruls 0;have hv:=cT m.ents;have hen:=hm.en;have hrn:=hm.rn;rw[k9]at g3;have g2:lq m=0->call T 45 [.lst 4 (dC m.ents) .no,.fn 46 [] [.ptr 0 0]] [.rc e.sv] 0=some ⟨.int .i64 (fK (itE e) m.ents 0),[(0,.rc e.sv)],[]⟩:=fun h=>f45 e m.ents he.d2 (fun x hx=>(C0 h x hx).2.2.1) hm.en
 clear hm he;obtain⟨mv,m1,m2,m3,m4,es,rs⟩:=m;obtain⟨g',k,ds,b⟩:=e;rw[am xpI];unfold dV;simp only[Man.sv,Ev.sv]at*
 by_cases h0:lq ⟨mv,m1,m2,m3,m4,es,rs⟩=0
 ·have g2':=g2 h0
  rw[h0]at g1
  by_cases h1:k=1
  ·subst h1
   simp only[go_sem,Q5,Q7,Qe,Qg,Qh,Qi,Qj,Qk,reduceCtorEq,reduceIte,g1,sm,h0,g2',xpW]
  ·by_cases h3:k=3
   ·subst h3
    by_cases h9:g'=9
    ·subst h9
     cases hc:pK ⟨9,3,ds,b⟩with
     |false=>rw[hc]at g4;simp only[go_sem,Q5,Q7,Qb,Qc,Qd,Qe,Qg,Qh,Qi,Qj,Qk,reduceCtorEq,reduceIte,g1,sm,h0,g3,FB,g4,Pd]
     |true=>
      rw[hc]at g4;generalize fK (alR b) rs 0=z at*
      by_cases hz:0<=z
      ·have ew:ai.wrap ((es.length:Int)+z)=(es.length:Int)+z:=w64 (by omega) (by omega)
       simp only[go_sem,Q5,Q7,Qb,Qc,Qd,Qe,Qg,Qh,Qi,Qj,Qk,reduceCtorEq,reduceIte,g1,sm,h0,g3,FB,g4,Pd,g5,xmF,hz,hv,ew]
      ·simp only[go_sem,Q5,Q7,Qb,Qc,Qd,Qe,Qg,Qh,Qi,Qj,Qk,reduceCtorEq,reduceIte,g1,sm,h0,g3,FB,g4,Pd,g5,xmF,hz]
    ·simp only[go_sem,Q5,Q7,Qb,Qc,Qd,Qe,Qg,Qh,Qi,Qj,Qk,reduceCtorEq,reduceIte,g1,sm,h0,g3,FB,h9]
   ·simp only[go_sem,Q7,Qe,Qg,Qh,Qi,Qj,Qk,reduceCtorEq,reduceIte,g1,sm,h0,h1,h3]
 ·simp only[go_sem,Q7,Qe,Qh,Qi,Qj,Qk,reduceCtorEq,reduceIte,g1,sm,h0]
theorem l19(m:Man)(hm:eX m)(h0:lq m=0)(e:Ev)(he:sn e):∀(n i:Nat),m.ents.length-i=n->i<=m.ents.length->
 (fK (itE e) (m.ents.drop i) i= -1->run T (.loop uu) ⟨[(2,.ptr 102 0),(3,.ptr 103 0),(5,.int .i64 i)],[(102,.rc m.sv),(103,.rc e.sv)],[]⟩=some (.x 0,⟨[(2,.ptr 102 0),(3,.ptr 103 0)],[(102,.rc m.sv),(103,.rc e.sv)],[]⟩))/\
 (fK (itE e) (m.ents.drop i) i≠ -1->∃ob,run T (.loop uu) ⟨[(2,.ptr 102 0),(3,.ptr 103 0),(5,.int .i64 i)],[(102,.rc m.sv),(103,.rc e.sv)],[]⟩=some (.r,⟨[(4,.int .i64 (fK (itE e) (m.ents.drop i) i))],ob,[]⟩)):=by
 intro n;induction n with
 |zero=>
  intro i hz h1;have hi:i=m.ents.length:=by omega
  have hv:=cT m.ents;subst hi;rw[aL];refine⟨fun _=> ?_,fun h=>absurd rfl h⟩;obtain⟨mv,m1,m2,m3,m4,es,rs⟩:=m;simp only[Man.sv]at*;rw[aj];simp only[go_sem,Qe,Qh,Qi,Qj,Qk,reduceIte,hv]
 |succ n ih=>
  intro i hz h1;have hi:i<m.ents.length:=by omega
  have hen:=hm.en;have e1:=bV i (by omega);obtain⟨i1,i2⟩:=ih (i+1) (by omega) (by omega);have hv:=cT m.ents;have hg:=fx m.ents i hi;obtain⟨_,_,⟨c0,c1,c2⟩,hdl,_⟩:=C0 h0 _ (bG m.ents en0 i hi);have g1:=f55 (m.ents.getD i en0).role;have g2:=f25 (m.ents.getD i en0).dig (e.dg.getD 1 []) (by omega);have g3:=f56 (m.ents.getD i en0).name (m.ents.getD i en0).ver c2 c0 c1;have g4:=f25 e.data (ti (m.ents.getD i en0).name (m.ents.getD i en0).ver) (by have:=he.b;omega);have hdr:m.ents.drop i=m.ents.getD i en0::m.ents.drop (i+1):=by rw[aU hi,aa,af hi];rfl
  have hd2:=he.d2;rw[hdr];clear hm he h0 ih;generalize m.ents.drop (i+1)=R at*;generalize m.ents.getD i en0=x at*;obtain⟨mv,m1,m2,m3,m4,es,rs⟩:=m;obtain⟨ro,na,ve,di⟩:=x;obtain⟨g',k,ds,b⟩:=e;simp only at hd2 g2 g4;rw[two ds [] hd2]at*;generalize ds.getD 0 []=d0 at*;generalize ds.getD 1 []=d1 at*;have hbl:bls [d0,d1]=[[.byt d0 .no],[.byt d1 .no]]:=rfl;simp only[Man.sv,Ev.sv,Ent.sv,hbl,bc,bh]at*;unfold fK;have hit:itE ⟨g',k,[d0,d1],b⟩ ⟨ro,na,ve,di⟩=(decide (g'=sS ro)&&(decide (d1=di)&&decide (b=ti na ve))):=rfl;rw[hit]
  by_cases a1:sS ro=g'
  ·rw[decide_eq_true a1.symm]
   by_cases a2:di=d1
   ·rw[decide_eq_true a2]at g2
    rw[decide_eq_true a2.symm]
    by_cases a3:b=ti na ve
    ·rw[decide_eq_true a3]at g4 ⊢
     have hne:¬(i:Int)= -1:=by omega
     refine⟨fun h=>by simp[hne]at h,fun _=>⟨[(102,.rc [.str mv,.int .i64 m1,.int .i64 m2,.int .i64 m3,.int .i64 m4,.lst 4 (dC es) .no,.lst 4 (eP rs) .no]),(103,.rc [.int .i64 g',.int .i64 k,.lst 1 [[.byt d0 .no],[.byt d1 .no]] .no,.byt b .no]),(106,.rc [.int .i64 ro,.str na,.int .i64 ve,.byt di .no])], ?_⟩⟩;rw[aj];simp only[go_sem,Q2,Q3,Q4,Qb,Qc,Qd,Qe,Qh,Qi,Qj,Qk,reduceCtorEq,reduceIte,hi,hv,hg,g1,Dj,a1,g2,iS,g3,xbL,g4]
    ·rw[decide_eq_false a3]at g4 ⊢
     simp only[Bool.and_false,aH,if_false];refine⟨fun h=> ?_,fun h=> ?_⟩
     ·have i1':=i1 h
      rw[aj];simp only[go_sem,Q2,Q3,Q4,Qb,Qc,Qd,Qe,Qh,Qi,Qj,Qk,reduceCtorEq,reduceIte,hi,e1,hv,hg,g1,Dj,a1,g2,iS,g3,xbL,g4,i1']
     ·obtain⟨ob,i2'⟩:=i2 h
      refine⟨ob, ?_⟩;rw[aj];simp only[go_sem,Q2,Q3,Q4,Qb,Qc,Qd,Qe,Qh,Qi,Qj,Qk,reduceCtorEq,reduceIte,hi,e1,hv,hg,g1,Dj,a1,g2,iS,g3,xbL,g4,i2']
   ·rw[decide_eq_false a2]at g2
    rw[decide_eq_false (fun h=>a2 h.symm)];simp only[Bool.and_false,Fl,aH,if_false];refine⟨fun h=> ?_,fun h=> ?_⟩
    ·have i1':=i1 h
     rw[aj];simp only[go_sem,Q2,Q3,Q4,Qb,Qc,Qd,Qe,Qh,Qi,Qj,Qk,reduceCtorEq,reduceIte,hi,e1,hv,hg,g1,Dj,a1,g2,iS,i1']
    ·obtain⟨ob,i2'⟩:=i2 h
     refine⟨ob, ?_⟩;rw[aj];simp only[go_sem,Q2,Q3,Q4,Qb,Qc,Qd,Qe,Qh,Qi,Qj,Qk,reduceCtorEq,reduceIte,hi,e1,hv,hg,g1,Dj,a1,g2,iS,i2']
  ·rw[decide_eq_false (fun h=>a1 h.symm)]
   simp only[Fl,aH,if_false];refine⟨fun h=> ?_,fun h=> ?_⟩
   ·have i1':=i1 h
    rw[aj];simp only[go_sem,Qb,Qc,Qd,Qe,Qh,Qi,Qj,Qk,reduceCtorEq,reduceIte,hi,e1,hv,hg,g1,Dj,a1,i1']
   ·obtain⟨ob,i2'⟩:=i2 h
    refine⟨ob, ?_⟩;rw[aj];simp only[go_sem,Qb,Qc,Qd,Qe,Qh,Qi,Qj,Qk,reduceCtorEq,reduceIte,hi,e1,hv,hg,g1,Dj,a1,i2']
theorem xnC(m:Man)(hm:eX m)(e:Ev)(he:sn e):∀(n i:Nat),m.ruls.length-i=n->i<=m.ruls.length->
 (fK (alR e.data) (m.ruls.drop i) i= -1->run T (.loop ut) ⟨[(2,.ptr 102 0),(3,.ptr 103 0),(7,.int .i64 i)],[(102,.rc m.sv),(103,.rc e.sv)],[]⟩=some (.x 2,⟨[],[(102,.rc m.sv),(103,.rc e.sv)],[]⟩))/\
 (fK (alR e.data) (m.ruls.drop i) i≠ -1->∃ob,run T (.loop ut) ⟨[(2,.ptr 102 0),(3,.ptr 103 0),(7,.int .i64 i)],[(102,.rc m.sv),(103,.rc e.sv)],[]⟩=some (.r,⟨[(4,.int .i64 ((m.ents.length:Int)+fK (alR e.data) (m.ruls.drop i) i))],ob,[]⟩)):=by
 intro n;induction n with
 |zero=>
  intro i hz h1;have hi:i=m.ruls.length:=by omega
  have hv:=dP m.ruls;subst hi;rw[aL];refine⟨fun _=> ?_,fun h=>absurd rfl h⟩;obtain⟨mv,m1,m2,m3,m4,es,rs⟩:=m;simp only[Man.sv]at*;rw[aj];simp only[go_sem,Qe,Qh,Qj,Qk,reduceIte,hv]
 |succ n ih=>
  intro i hz h1;have hi:i<m.ruls.length:=by omega
  have hrn:=hm.rn;have hen:=hm.en;have e1:=bV i (by omega);obtain⟨i1,i2⟩:=ih (i+1) (by omega) (by omega);have hv:=dP m.ruls;have hve:=cT m.ents;have hg:=ja m.ruls i hi;have hx:=hm.r _ (bG m.ruls rl0 i hi);have hb:=he.b;have hdr:m.ruls.drop i=m.ruls.getD i rl0::m.ruls.drop (i+1):=by rw[aU hi,aa,af hi];rfl
  have ew:ai.wrap ((m.ents.length:Int)+(i:Int))=(m.ents.length:Int)+(i:Int):=w64 (by omega) (by omega);rw[hdr];clear hm he ih;generalize m.ruls.drop (i+1)=R at*;generalize m.ruls.getD i rl0=x at*;obtain⟨mv,m1,m2,m3,m4,es,rs⟩:=m;obtain⟨q,t,lo,hi'⟩:=x;obtain⟨g',k,ds,b⟩:=e;have g:=f58 q t lo hi' b (by simp only at hx;omega) (by simp only at hb;omega);simp only[Man.sv,Ev.sv,Rul.sv]at*;have hal:alR b ⟨q,t,lo,hi'⟩=alw q t lo hi' b:=rfl;unfold fK;rw[hal];cases ha:alw q t lo hi' b with
  |true=>
   rw[ha]at g;have hne:¬(i:Int)= -1:=by omega
   refine⟨fun h=>by simp[hne]at h,fun _=>⟨[(102,.rc [.str mv,.int .i64 m1,.int .i64 m2,.int .i64 m3,.int .i64 m4,.lst 4 (dC es) .no,.lst 4 (eP rs) .no]),(103,.rc [.int .i64 g',.int .i64 k,.lst 1 (bls ds) .no,.byt b .no])], ?_⟩⟩;rw[aj];simp only[go_sem,Qb,Qc,Qd,Qe,Qh,Qi,Qj,Qk,reduceIte,hi,hv,hve,hg,g,xgG,ew]
  |false=>
   rw[ha]at g;refine⟨fun h=> ?_,fun h=> ?_⟩
   ·have i1':=i1 (by simpa using h)
    rw[aj];simp only[go_sem,Qb,Qc,Qd,Qe,Qh,Qi,Qj,Qk,reduceIte,hi,e1,hv,hve,hg,g,xgG,i1']
   ·obtain⟨ob,i2'⟩:=i2 (by simpa using h)
    refine⟨ob, ?_⟩;rw[aj];simp only[go_sem,Qb,Qc,Qd,Qe,Qh,Qi,Qj,Qk,reduceIte,hi,e1,hv,hve,hg,g,xgG,i2']
    try rfl
theorem f19(m:Man)(hm:eX m)(e:Ev)(he:sn e):call T 19 [.agg m.sv,.agg e.sv] [] 0=some ⟨.int .i64 (dV m e),[],[]⟩:=by
 have g1:=f54 m hm;have hd2:=he.d2;have g4:=f57 e he.d2 he.b he.d0 he.d1;have hr:=pB (alR e.data) m.ruls 0;have hr2:=pB (itE e) m.ents 0;obtain⟨r1,r2⟩:=xnC m hm e he _ 0 rfl (by omega);have l0:=fun h=>l19 m hm h e he _ 0 rfl (by omega)
 have hv:=cT m.ents;have hbl:(bls e.dg).length=2:=by rw[bls,aX,hd2]
 clear hm he;obtain⟨mv,m1,m2,m3,m4,es,rs⟩:=m;obtain⟨g',k,ds,b⟩:=e;rw[am xpE];unfold dV;simp only[Man.sv,Ev.sv,aB,aR]at*
 by_cases h0:lq ⟨mv,m1,m2,m3,m4,es,rs⟩=0
 ·obtain⟨
   l1,l2⟩:=l0 h0
  rw[h0]at g1
  by_cases h1:k=1
  ·subst h1
   by_cases hq:fK (itE ⟨g',1,ds,b⟩) es 0= -1
   ·have l1':=l1 hq
    simp only[go_sem,Q5,Q7,Qe,Qh,Qi,Qj,Qk,reduceCtorEq,reduceIte,g1,wA,h0,hbl,l1',hq]
   ·obtain⟨ob,l2'⟩:=l2 hq
    simp only[go_sem,Q5,Q7,Qe,Qh,Qi,Qj,Qk,reduceCtorEq,reduceIte,g1,wA,h0,hbl,l2']
  ·by_cases h3:k=3
   ·subst h3
    by_cases h9:g'=9
    ·subst h9
     cases hc:pK ⟨9,3,ds,b⟩with
     |false=>rw[hc]at g4;simp only[go_sem,Q5,Q7,Qe,Qh,Qi,Qj,Qk,reduceCtorEq,reduceIte,g1,wA,h0,hbl,g4,Pc]
     |true=>
      rw[hc]at g4
      by_cases hq:fK (alR b) rs 0= -1
      ·have r1':=r1 hq
       simp only[go_sem,Q3,Q5,Q7,Qe,Qh,Qi,Qj,Qk,reduceCtorEq,reduceIte,g1,wA,h0,hbl,g4,Pc,r1',hq]
      ·obtain⟨ob,r2'⟩:=r2 hq
       have hz:0<=fK (alR b) rs 0:=by omega
       simp only[go_sem,Q5,Q7,Qe,Qh,Qi,Qj,Qk,reduceCtorEq,reduceIte,g1,wA,h0,hbl,g4,Pc,r2',hz]
    ·simp only[go_sem,Q5,Q7,Qe,Qh,Qi,Qj,Qk,reduceCtorEq,reduceIte,g1,wA,h0,hbl,h9]
   ·simp only[go_sem,Q7,Qe,Qh,Qi,Qj,Qk,reduceCtorEq,reduceIte,g1,wA,h0,hbl,h1,h3]
 ·simp only[go_sem,Q7,Qe,Qh,Qi,Qj,Qk,reduceCtorEq,reduceIte,g1,wA,h0,hbl]
def mn0:Man:=⟨[],0,0,0,0,[],[]⟩
def cS(l:List Man):List (List SV):=l.map Man.sv
theorem dh(l:List Man):(cS l).length=l.length:=aX ..
theorem gH(l:List Man)(i:Nat)(h:i<l.length):(cS l).getD i []=(l.getD i mn0).sv:=by simp[cS,aa,h]
structure fT(ms:List Man):Prop where
 n:ms.length<=1000000
 m:∀m∈ms,eX m
def frM(e:Ev):List Man->Nat->Option (Int×Int)
 |[],_=>none
 |m::r,i=>if 0<=dV m e then some ((i:Int),dV m e)else frM e r (i+1)
def fH(ms:List Man)(e:Ev):Option (Int×Int):=if e.kind=5 then some (-1, -1)else if e.kind=2 then(if pK e=true then some (-1, -1)else frM e ms 0)else frM e ms 0
theorem fA{α:Type}(l:List α)(d:α)(i:Nat)(h:i<l.length):l.drop i=l.getD i d::l.drop (i+1):=by rw[aU h,aa,af h];rfl
theorem l40(e:Ev)(he:sn e)(ms:List Man)(hm:fT ms):∀(n i:Nat),ms.length-i=n->i<=ms.length->
 (frM e (ms.drop i) i=none->run T (.loop uo) ⟨[(2,.ptr 102 0),(4,.ptr 104 0),(22,.lst 7 (cS ms) .no),(23,.int .i64 ms.length),(24,.int .i64 i)],[(102,.rc e.sv),(104,.rc [.int .i64 0,.int .i64 0])],[]⟩=
  some (.x 0,⟨[(4,.ptr 104 0)],[(102,.rc e.sv),(104,.rc [.int .i64 0,.int .i64 0])],[]⟩))/\
 (∀p,frM e (ms.drop i) i=some p->∃o,run T (.loop uo) ⟨[(2,.ptr 102 0),(4,.ptr 104 0),(22,.lst 7 (cS ms) .no),(23,.int .i64 ms.length),(24,.int .i64 i)],[(102,.rc e.sv),(104,.rc [.int .i64 0,.int .i64 0])],[]⟩=
  some (.r,⟨[(4,.ptr 104 0),(5,.bool true)],[(102,.rc e.sv),(104,.rc [.int .i64 p.1,.int .i64 p.2]),(107,o)],[]⟩)):=by
 intro n;induction n with
 |zero=>
  intro i hz h1;have hi:i=ms.length:=by omega
  have hv:=dh ms;subst hi;rw[aL];refine⟨fun _=> ?_,fun p h=>(by cases h)⟩;rw[aj];simp only[go_sem,Qh,Qj,Qk,reduceIte]
 |succ n ih=>
  intro i hz h1;have hi:i<ms.length:=by omega
  have hn:=hm.n;have e1:=bV i (by omega);obtain⟨i1,i2⟩:=ih (i+1) (by omega) (by omega);have hv:=dh ms;have hg:=gH ms i hi;have g:=f15 (ms.getD i mn0) (hm.m _ (bG ms mn0 i hi)) e he;rw[fA ms mn0 i hi];generalize ms.drop (i+1)=R at*;generalize ms.getD i mn0=m at*;obtain⟨mv,m1,m2,m3,m4,es,rs⟩:=m;unfold frM;generalize dV ⟨mv,m1,m2,m3,m4,es,rs⟩ e=z at*;obtain⟨g',k,ds,b⟩:=e;simp only[Man.sv,Ev.sv]at*
  by_cases h:0<=z
  ·rw[if_pos h]
   refine⟨fun h'=>(by cases h'),fun p hp=> ?_⟩;cases hp;refine⟨.rc [.str mv,.int .i64 m1,.int .i64 m2,.int .i64 m3,.int .i64 m4,.lst 4 (dC es) .no,.lst 4 (eP rs) .no], ?_⟩;rw[aj];simp only[go_sem,Qe,Qh,Qi,Qj,Qk,reduceIte,hi,hv,hg,g,TA,h]
  ·rw[if_neg h]
   refine⟨fun h'=> ?_,fun p hp=> ?_⟩
   ·have i1':=i1 h'
    rw[aj];simp only[go_sem,Qe,Qh,Qi,Qj,Qk,reduceIte,hi,e1,hv,hg,g,TA,h,i1']
   ·obtain⟨o,i2'⟩:=i2 p hp
    refine⟨o, ?_⟩;rw[aj];simp only[go_sem,Qe,Qh,Qi,Qj,Qk,reduceIte,hi,e1,hv,hg,g,TA,h,i2']
def lH:Option (Int×Int)->SV
 |some p=> .tup [.agg [.int .i64 p.1,.int .i64 p.2],.bool true]
 |none=> .tup [.agg [.int .i64 0,.int .i64 0],.bool false]
theorem f40(e:Ev)(he:sn e)(ms:List Man)(hm:fT ms):call T 40 [.agg e.sv,.lst 7 (cS ms) .no] [] 0=some ⟨lH (fH ms e),[],[]⟩:=by
 have gc:=f50 e he.d2 he.b;obtain⟨l1,l2⟩:=l40 e he ms hm _ 0 rfl (by omega);have hv:=dh ms;rw[am xpo];clear he;unfold fH;obtain⟨g',k,ds,b⟩:=e;simp only[Ev.sv,aB,aR]at*
 by_cases h5:k=5
 ·subst h5
  simp only[go_sem,Q5,Q7,Qe,Qh,Qi,Qj,Qk,reduceCtorEq,reduceIte,lH]
 by_cases h2:k=2
 ·subst h2
  cases hc:pK ⟨g',2,ds,b⟩with
  |true=>rw[hc]at gc;simp only[go_sem,Q5,Q7,Qe,Qh,Qi,Qj,Qk,reduceCtorEq,reduceIte,lH,gc,Pd]
  |false=>
   rw[hc]at gc;cases hf:frM ⟨g',2,ds,b⟩ ms 0 with
   |none=>have l1':=l1 hf;simp only[go_sem,Q5,Q7,Qe,Qh,Qi,Qj,Qk,reduceCtorEq,reduceIte,lH,gc,Pd,hv,l1']
   |some p=>obtain⟨o,l2'⟩:=l2 p hf;simp only[go_sem,Q5,Q7,Qe,Qh,Qi,Qj,Qk,reduceCtorEq,reduceIte,lH,gc,Pd,hv,l2']
 ·cases hf:frM ⟨g',k,ds,b⟩ ms 0 with
   |none=>have l1':=l1 hf;simp only[go_sem,Q7,Qe,Qh,Qi,Qj,Qk,reduceCtorEq,reduceIte,lH,h5,h2,hv,l1']
   |some p=>obtain⟨o,l2'⟩:=l2 p hf;simp only[go_sem,Q7,Qe,Qh,Qi,Qj,Qk,reduceCtorEq,reduceIte,lH,h5,h2,hv,l2']
theorem l41(e:Ev)(he:sn e)(ms:List Man)(hm:fT ms):∀(n i:Nat),ms.length-i=n->i<=ms.length->
 (frM e (ms.drop i) i=none->run T (.loop EO) ⟨[(1,.lst 7 (cS ms) .no),(2,.ptr 102 0),(4,.ptr 104 0),(6,.int .i64 i)],[(102,.rc e.sv),(104,.rc [.int .i64 0,.int .i64 0])],[]⟩=
  some (.x 0,⟨[(4,.ptr 104 0)],[(102,.rc e.sv),(104,.rc [.int .i64 0,.int .i64 0])],[]⟩))/\
 (∀p,frM e (ms.drop i) i=some p->run T (.loop EO) ⟨[(1,.lst 7 (cS ms) .no),(2,.ptr 102 0),(4,.ptr 104 0),(6,.int .i64 i)],[(102,.rc e.sv),(104,.rc [.int .i64 0,.int .i64 0])],[]⟩=
  some (.r,⟨[(4,.ptr 104 0),(5,.bool true)],[(102,.rc e.sv),(104,.rc [.int .i64 p.1,.int .i64 p.2])],[]⟩)):=by
 intro n;induction n with
 |zero=>
  intro i hz h1;have hi:i=ms.length:=by omega
  have hv:=dh ms;subst hi;rw[aL];refine⟨fun _=> ?_,fun p h=>(by cases h)⟩;rw[aj];simp only[go_sem,Qh,Qj,Qk,reduceIte,hv]
 |succ n ih=>
  intro i hz h1;have hi:i<ms.length:=by omega
  have hn:=hm.n;have e1:=bV i (by omega);obtain⟨i1,i2⟩:=ih (i+1) (by omega) (by omega);have hv:=dh ms;have hg:=gH ms i hi;have g:=f19 (ms.getD i mn0) (hm.m _ (bG ms mn0 i hi)) e he;rw[fA ms mn0 i hi];generalize ms.drop (i+1)=R at*;generalize ms.getD i mn0=m at*;obtain⟨mv,m1,m2,m3,m4,es,rs⟩:=m;unfold frM;generalize dV ⟨mv,m1,m2,m3,m4,es,rs⟩ e=z at*;obtain⟨g',k,ds,b⟩:=e;simp only[Man.sv,Ev.sv]at*
  by_cases h:0<=z
  ·rw[if_pos h]
   refine⟨fun h'=>(by cases h'),fun p hp=> ?_⟩;cases hp;rw[aj];simp only[go_sem,Qb,Qc,Qd,Qe,Qh,Qi,Qj,Qk,reduceIte,hi,hv,hg,g,Pi,h]
  ·rw[if_neg h]
   refine⟨fun h'=> ?_,fun p hp=> ?_⟩
   ·have i1':=i1 h'
    rw[aj];simp only[go_sem,Qb,Qc,Qd,Qe,Qh,Qi,Qj,Qk,reduceIte,hi,e1,hv,hg,g,Pi,h,i1']
   ·have i2':=i2 p hp
    rw[aj];simp only[go_sem,Qb,Qc,Qd,Qe,Qh,Qi,Qj,Qk,reduceIte,hi,e1,hv,hg,g,Pi,h,i2']
theorem f41(e:Ev)(he:sn e)(ms:List Man)(hm:fT ms):call T 41 [.agg e.sv,.lst 7 (cS ms) .no] [] 0=some ⟨lH (fH ms e),[],[]⟩:=by
 have gc:=f57 e he.d2 he.b he.d0 he.d1;obtain⟨l1,l2⟩:=l41 e he ms hm _ 0 rfl (by omega);have hv:=dh ms;rw[am xpn];clear he;unfold fH;obtain⟨g',k,ds,b⟩:=e;simp only[Ev.sv,aB,aR]at*
 by_cases h5:k=5
 ·subst h5
  simp only[go_sem,Q5,Q7,Qe,Qh,Qi,Qj,Qk,reduceCtorEq,reduceIte,lH]
 by_cases h2:k=2
 ·subst h2
  cases hc:pK ⟨g',2,ds,b⟩with
  |true=>rw[hc]at gc;simp only[go_sem,Q5,Q7,Qe,Qh,Qi,Qj,Qk,reduceCtorEq,reduceIte,lH,gc,Pc]
  |false=>
   rw[hc]at gc;cases hf:frM ⟨g',2,ds,b⟩ ms 0 with
   |none=>have l1':=l1 hf;simp only[go_sem,Q5,Q7,Qe,Qh,Qi,Qj,Qk,reduceCtorEq,reduceIte,lH,gc,Pc,l1']
   |some p=>have l2':=l2 p hf;simp only[go_sem,Q5,Q7,Qe,Qh,Qi,Qj,Qk,reduceCtorEq,reduceIte,lH,gc,Pc,l2']
 ·cases hf:frM ⟨g',k,ds,b⟩ ms 0 with
   |none=>have l1':=l1 hf;simp only[go_sem,Q7,Qe,Qh,Qi,Qj,Qk,reduceCtorEq,reduceIte,lH,h5,h2,l1']
   |some p=>have l2':=l2 p hf;simp only[go_sem,Q7,Qe,Qh,Qi,Qj,Qk,reduceCtorEq,reduceIte,lH,h5,h2,l2']
def rsv(l:List (Int×Int)):List (List SV):=l.map fun p=> [.int .i64 p.1,.int .i64 p.2]
theorem cC(l:List (Int×Int)):(rsv l).length=l.length:=aX ..
theorem gG(l:List (Int×Int))(i:Nat)(h:i<l.length):(rsv l).getD i []=[.int .i64 (l.getD i (0,0)).1,.int .i64 (l.getD i (0,0)).2]:=by simp[rsv,aa,h]
theorem p9(l:List (Int×Int))(p:Int×Int):rsv l++ [[.int .i64 p.1,.int .i64 p.2]]=rsv (l++ [p]):=by rw[rsv,rsv,bx];rfl
structure ExR where
 w:Wk
 at':Nat
 rs:List (Int×Int)
 err:Int
def exW(ms:List Man):List Ev->Wk->Nat->List (Int×Int)->ExR
 |[],w,i,rs=>⟨w,i,rs,0⟩
 |e::r,w,i,rs=>if okW w e=true then(match fH ms e with|some p=>exW ms r (stW w e) (i+1) (rs++ [p])|none=>⟨w,i,rs,47⟩)else⟨w,i,rs,41⟩
structure iY(evs:List Ev):Prop where
 n:evs.length<=1000000
 e:∀e∈evs,sn e
theorem iY.get{evs:List Ev}(h:iY evs){i:Nat}(hi:i<evs.length):sn (evs.getD i ev0):=h.e _ (bG evs ev0 i hi)
def wQ(a z:Int)(evs:List Ev)(ms:List Man)(w:Wk)(i:Nat)(rs:List (Int×Int)):CSt:=
 ⟨[(1,.lst 7 (cS ms) .no),(2,.ptr 102 0),(4,.lst 2 (rsv rs) (.id 104)),(7,.ptr 107 0),(13,.lst 4 (bD evs) .no),(14,.int .i64 evs.length),(15,.int .i64 i)],[(102,.rc [.int .i64 a,.int .i64 z,.lst 4 (bD evs) .no]),(107,.rc w.sv)],[104]⟩
theorem l12(a z:Int)(evs:List Ev)(he:iY evs)(ms:List Man)(hm:fT ms):∀(n i:Nat)(w:Wk)(rs:List (Int×Int)),evs.length-i=n->i<=evs.length->rs.length=i->
 ((
  exW ms (evs.drop i) w i rs).err=0->run T (.loop uv) (wQ a z evs ms w i rs)=
  some (.x 0,⟨[(2,.ptr 102 0),(4,.lst 2 (rsv (exW ms (evs.drop i) w i rs).rs) (.id 104)),(7,.ptr 107 0)],[(102,.rc [.int .i64 a,.int .i64 z,.lst 4 (bD evs) .no]),(107,.rc (exW ms (evs.drop i) w i rs).w.sv)],[104]⟩))/\
 ((
  exW ms (evs.drop i) w i rs).err≠0->∃ob,run T (.loop uv) (wQ a z evs ms w i rs)=
  some (.r,⟨[(4,.lst 2 (rsv (exW ms (evs.drop i) w i rs).rs) (.id 104)),(5,.int .i64 (exW ms (evs.drop i) w i rs).at'),(6,.int .i64 (exW ms (evs.drop i) w i rs).err)],ob,[104]⟩)):=by
 intro n;induction n with
 |zero=>
  intro i w rs h0 h1 h2;have hi:i=evs.length:=by omega
  subst hi;have hv:=bZ evs;rw[aL];refine⟨fun _=> ?_,fun h=>absurd rfl h⟩;unfold wQ;rw[aj];simp only[go_sem,Qh,Qj,Qk,reduceIte,exW]
 |succ n ih=>
  intro i w rs h0 h1 h2;have hi:i<evs.length:=by omega
  have hn:=he.n;have e1:=bV i (by omega);have g:=f39 w (evs.getD i ev0);have gr:=f40 (evs.getD i ev0) (he.get hi) ms hm;have hg:=gu evs i hi;have hv:=bZ evs;have hrl:=cC rs;have b1:(rs.length+1)*16<=140737488355328:=by omega
  rw[kC evs i hi];generalize evs.getD i ev0=e at*;unfold exW;cases ho:okW w e with
  |false=>rw[if_neg (by simp)];rw[ho,xdi ho]at g;refine⟨fun h=>by simp at h,fun _=>⟨[(102,.rc [.int .i64 a,.int .i64 z,.lst 4 (bD evs) .no]),(107,.rc w.sv),(109,.rc e.sv)], ?_⟩⟩;unfold wQ;simp only[Ev.sv,Wk.sv]at hg g ⊢;rw[aj];simp only[go_sem,Qe,Qg,Qh,Qi,Qj,Qk,reduceIte,hi,hg,hv,xbM,g]
  |true=>
   rw[if_pos rfl];rw[ho]at g;cases hr:fH ms e with
   |none=>rw[hr]at gr;refine⟨fun h=>by simp at h,fun _=>⟨[(102,.rc [.int .i64 a,.int .i64 z,.lst 4 (bD evs) .no]),(107,.rc (stW w e).sv),(109,.rc e.sv),(110,.rc [.int .i64 0,.int .i64 0])], ?_⟩⟩;unfold wQ;simp only[Ev.sv,Wk.sv,lH]at hg g gr ⊢;rw[aj];simp only[go_sem,Qe,Qg,Qh,Qi,Qj,Qk,reduceIte,hi,hg,hv,xbM,g,gr,xgH]
   |some p=>
    rw[hr]at gr;obtain⟨i1,i2⟩:=ih (i+1) (stW w e) (rs++ [p]) (by omega) (by omega) (by rw[ah,h2];rfl);unfold wQ at i1 i2;rw[<-p9 rs p]at i1 i2;refine⟨fun h=> ?_,fun h=> ?_⟩
    ·have i1':=i1 h
     unfold wQ;simp only[Ev.sv,Wk.sv,lH]at hg g gr i1' ⊢;rw[aj];simp only[go_sem,Qe,Qg,Qh,Qi,Qj,Qk,reduceIte,hi,e1,hg,hv,xbM,g,gr,xgH,hrl,b1,i1']
    ·obtain⟨ob,i2'⟩:=i2 h
     refine⟨ob, ?_⟩;unfold wQ;simp only[Ev.sv,Wk.sv,lH]at hg g gr i2' ⊢;rw[aj];simp only[go_sem,Qe,Qg,Qh,Qi,Qj,Qk,reduceIte,hi,e1,hg,hv,xbM,g,gr,xgH,hrl,b1,i2']
theorem uE(ms:List Man):∀(l:List Ev)(w:Wk)(i:Nat)(rs:List (Int×Int)),(exW ms l w i rs).err=0->(exW ms l w i rs).at'=i+l.length
 |[],w,i,rs,_=>rfl
 |e::r,w,i,rs,h=>by
  unfold exW at h ⊢
  by_cases ho:okW w e=true
  ·rw[if_pos ho]at h ⊢
   cases hr:fH ms e with
   |none=>rw[hr]at h;simp at h
   |some p=>rw[hr]at h;simp only at h ⊢;rw[uE ms r _ _ _ h,av];omega
  ·rw[if_neg ho]at h;simp at h
theorem q8(ms:List Man):∀(l:List Ev)(w:Wk)(i:Nat)(rs:List (Int×Int)),(exW ms l w i rs).at'<=i+l.length
 |[],w,i,rs=>aM _
 |e::r,w,i,rs=>by
  unfold exW;rw[av]
  by_cases ho:okW w e=true
  ·rw[if_pos ho]
   cases hr:fH ms e with
   |none=>show i<=_;omega
   |some p=>have:=q8 ms r (stW w e) (i+1) (rs++ [p]);show(exW ms r (stW w e) (i+1) (rs++ [p])).at'<=_;omega
  ·rw[if_neg ho];show i<=_;omega
def exV(evs:List Ev)(ms:List Man):ExR:=exW ms evs w0 0 []
def exE(evs:List Ev)(ms:List Man):Int:=if(exV evs ms).err=0 then(if(exV evs ms).w.s4=true then 0 else 40)else(exV evs ms).err
def exS(evs:List Ev)(ms:List Man):SV:= .tup [.lst 2 (rsv (exV evs ms).rs) .no,.int .i64 (exV evs ms).at',.int .i64 (exE evs ms)]
theorem f12(a z:Int)(evs:List Ev)(he:iY evs)(ms:List Man)(hm:fT ms):call T 12 [.agg [.int .i64 a,.int .i64 z,.lst 4 (bD evs) .no],.lst 7 (cS ms) .no] [] 0=some ⟨exS evs ms,[],[]⟩:=by
 obtain⟨l1,l2⟩:=l12 a z evs he ms hm _ 0 w0 [] rfl (by omega) rfl;have hat:=uE ms evs w0 0 [];have hv:=bZ evs;unfold exS exE exV;have hnil:rsv []=[]:=rfl;simp only[aR,aB,wQ,xgW,hnil]at l1 l2;rw[am xpL];generalize exW ms evs w0 0 []=X at*
 by_cases h:X.err=0
 ·have l1':=l1 h
  have ha:=hat h;rw[bB]at ha;rw[if_pos h,ha];simp only[Wk.sv]at l1';cases h4:X.w.s4 with
  |true=>rw[h4]at l1';simp only[go_sem,Q2,Q3,Q4,Qb,Qc,Qd,Qe,Qg,Qh,Qi,Qj,Qk,reduceCtorEq,reduceIte,hv,l1']
  |false=>rw[h4]at l1';simp only[go_sem,Q2,Q3,Q4,Qb,Qc,Qd,Qe,Qg,Qh,Qi,Qj,Qk,reduceCtorEq,reduceIte,hv,l1']
 ·obtain⟨ob,l2'⟩:=l2 h
  rw[if_neg h];simp only[go_sem,Qe,Qh,Qi,Qj,Qk,reduceCtorEq,reduceIte,hv,l2']
structure RxR where
 rs:List (Int×Int)
 at':Nat
 err:Int
 k:Bool
def exR(ms:List Man)(stop:Nat)(ord:Int):List Ev->Nat->List (Int×Int)->Bool->RxR
 |[],i,rs,k=>⟨rs,i,0,k⟩
 |e::r,i,rs,k=>if ord=0\/i≠stop then(match fH ms e with|some p=>exR ms stop ord r (i+1) (rs++ [p]) (k||decide (phR e=4))|none=>⟨rs,i,47,k⟩)else⟨rs,i,41,k⟩
def wP(a z:Int)(evs:List Ev)(ms:List Man)(stop:Nat)(ord:Int)(i:Nat)(rs:List (Int×Int))(k:Bool):CSt:=
 ⟨[(1,.lst 7 (cS ms) .no),(2,.ptr 102 0),(8,.int .i64 stop),(9,.int .i64 ord),(10,.lst 2 (rsv rs) (.id 110)),(11,.bool k),(12,.int .i64 i)],[(102,.rc [.int .i64 a,.int .i64 z,.lst 4 (bD evs) .no])],[110]⟩
theorem l13(a z:Int)(evs:List Ev)(he:iY evs)(ms:List Man)(hm:fT ms)(stop:Nat)(ord:Int):∀(n i:Nat)(rs:List (Int×Int))(k:Bool),evs.length-i=n->i<=evs.length->rs.length=i->
 ((
  exR ms stop ord (evs.drop i) i rs k).err=0->run T (.loop oI) (wP a z evs ms stop ord i rs k)=
  some (.x 0,⟨[(10,.lst 2 (rsv (exR ms stop ord (evs.drop i) i rs k).rs) (.id 110)),(11,.bool (exR ms stop ord (evs.drop i) i rs k).k)],[(102,.rc [.int .i64 a,.int .i64 z,.lst 4 (bD evs) .no])],[110]⟩))/\
 ((
  exR ms stop ord (evs.drop i) i rs k).err≠0->∃ob,run T (.loop oI) (wP a z evs ms stop ord i rs k)=
  some (.r,⟨[(4,.lst 2 (rsv (exR ms stop ord (evs.drop i) i rs k).rs) (.id 110)),(5,.int .i64 (exR ms stop ord (evs.drop i) i rs k).at'),(6,.int .i64 (exR ms stop ord (evs.drop i) i rs k).err)],ob,[110]⟩)):=by
 intro n;induction n with
 |zero=>
  intro i rs k h0 h1 h2;have hi:i=evs.length:=by omega
  subst hi;have hv:=bZ evs;rw[aL];refine⟨fun _=> ?_,fun h=>absurd rfl h⟩;unfold wP;rw[aj];simp only[go_sem,Qe,Qh,Qj,Qk,reduceIte,exR,hv]
 |succ n ih=>
  intro i rs k h0 h1 h2;have hi:i<evs.length:=by omega
  have hn:=he.n;have e1:=bV i (by omega);have gp:=f42 (evs.getD i ev0);have gr:=f41 (evs.getD i ev0) (he.get hi) ms hm;have hg:=gu evs i hi;have hv:=bZ evs;have hrl:=cC rs;have b1:(rs.length+1)*16<=140737488355328:=by omega
  rw[kC evs i hi];generalize evs.getD i ev0=e at*;unfold exR
  by_cases ho:ord=0\/i≠stop
  ·rw[if_pos ho]
   have hoi:ord=0\/¬(i:Int)=(stop:Int):=ho.imp id fun h=>by omega
   cases hr:fH ms e with
   |none=>
    rw[hr]at gr;refine⟨fun h=>by simp at h,fun _=>⟨[(102,.rc [.int .i64 a,.int .i64 z,.lst 4 (bD evs) .no]),(113,.rc [.int .i64 0,.int .i64 0])], ?_⟩⟩;unfold wP;simp only[Ev.sv,lH]at hg gr ⊢;rw[aj];rcases hoi with ho|ho
    ·simp only[go_sem,Qe,Qh,Qi,Qj,Qk,reduceIte,hi,hg,hv,ho,gr,yf]
    ·by_cases ho2:ord=0
     ·simp only[go_sem,Qe,Qh,Qi,Qj,Qk,reduceIte,hi,hg,hv,ho2,gr,yf]
     ·simp only[go_sem,Qe,Qh,Qi,Qj,Qk,reduceIte,hi,hg,hv,ho,ho2,gr,yf]
   |some p=>
    rw[hr]at gr;obtain⟨i1,i2⟩:=ih (i+1) (rs++ [p]) (k||decide (phR e=4)) (by omega) (by omega) (by rw[ah,h2];rfl);unfold wP at i1 i2;rw[<-p9 rs p]at i1 i2
    have key:∀q,run T (.loop oI) ⟨[(1,.lst 7 (cS ms) .no),(2,.ptr 102 0),(8,.int .i64 stop),(9,.int .i64 ord),(10,.lst 2 (rsv rs++ [[.int .i64 p.1,.int .i64 p.2]]) (.id 110)),(11,.bool (k||decide (phR e=4))),(12,.int .i64 ((i+1:Nat):Int))],[(102,.rc [.int .i64 a,.int .i64 z,.lst 4 (bD evs) .no])],[110]⟩=q->
     run T (.loop oI) (wP a z evs ms stop ord i rs k)=q:=by
     intro q hq;unfold wP;simp only[Ev.sv,lH]at hg gr gp ⊢;rw[aj];cases k with
     |true=>
      simp only[fU]at hq;rcases hoi with ho|ho
      ·subst ho;simp only[go_sem,Qe,Qh,Qi,Qj,Qk,reduceIte,hi,e1,hg,hv,gr,yf,hrl,b1,hq]
      ·by_cases ho2:ord=0
       ·subst ho2;simp only[go_sem,Qe,Qh,Qi,Qj,Qk,reduceIte,hi,e1,hg,hv,gr,yf,hrl,b1,hq]
       ·simp only[go_sem,Qe,Qh,Qi,Qj,Qk,reduceIte,hi,e1,hg,hv,ho,ho2,gr,yf,hrl,b1,hq]
     |false=>
      simp only[dq]at hq;rcases hoi with ho|ho
      ·subst ho;simp only[go_sem,Qe,Qh,Qi,Qj,Qk,reduceIte,hi,e1,hg,hv,gr,yf,hrl,b1,gp,jY,hq]
      ·by_cases ho2:ord=0
       ·subst ho2;simp only[go_sem,Qe,Qh,Qi,Qj,Qk,reduceIte,hi,e1,hg,hv,gr,yf,hrl,b1,gp,jY,hq]
       ·simp only[go_sem,Qe,Qh,Qi,Qj,Qk,reduceIte,hi,e1,hg,hv,ho,ho2,gr,yf,hrl,b1,gp,jY,hq]
    refine⟨fun h=>key _ (i1 h),fun h=> ?_⟩;obtain⟨ob,i2'⟩:=i2 h;exact⟨ob,key _ i2'⟩
  ·rw[if_neg ho]
   have ho1:¬ord=0:=fun h=>ho (.inl h)
   have ho2:i=stop:=by
    rcases Nat.decEq i stop with h|h
    ·exact absurd (.inr h) ho
    ·exact h
   subst ho2;refine⟨fun h=>by simp at h,fun _=>⟨[(102,.rc [.int .i64 a,.int .i64 z,.lst 4 (bD evs) .no])], ?_⟩⟩;unfold wP;rw[aj];simp only[go_sem,Qe,Qh,Qj,Qk,reduceIte,hi,hv,ho1]
theorem AL:∀(l:List Ev)(w:Wk)(i:Nat),i<=(jy l w i).2.1
 |[],w,i=>aM _
 |e::r,w,i=>by
  unfold jy;split
  ·exact cr (Nat.le_succ i) (AL r _ _)
  ·exact aM _
theorem xdh{w:Wk}{e:Ev}(h:okW w e=true):(stW w e).s4=(w.s4||decide (phR e=4)):=by have h1:=AK [e] w 0 (by unfold jy;rw[if_pos h];rfl);unfold jy at h1;rw[if_pos h]at h1;simpa[jy]using h1
theorem C9(ms:List Man)(stop:Nat)(ord:Int):∀(l:List Ev)(w:Wk)(i:Nat)(rs:List (Int×Int)),((jy l w i).2.2=true->ord=0)->((jy l w i).2.2=false->ord≠0/\stop=(jy l w i).2.1)->
 (exR ms stop ord l i rs w.s4).rs=(exW ms l w i rs).rs/\(exR ms stop ord l i rs w.s4).at'=(exW ms l w i rs).at'/\(exR ms stop ord l i rs w.s4).err=(exW ms l w i rs).err/\
 ((exW ms l w i rs).err=0->(exR ms stop ord l i rs w.s4).k=(exW ms l w i rs).w.s4)
 |[],w,i,rs,_,_=>⟨rfl,rfl,rfl,fun _=>rfl⟩
 |e::r,w,i,rs,h1,h2=>by
  unfold jy at h1 h2;unfold exR exW
  by_cases ho:okW w e=true
  ·rw[if_pos ho]at h1 h2 ⊢
   have hs:ord=0\/i≠stop:=by
    cases hb:(jy r (stW w e) (i+1)).2.2 with
    |true=>exact .inl (h1 hb)
    |false=>have:=AL r (stW w e) (i+1);right;rw[(h2 hb).2];omega
   rw[if_pos hs];cases hr:fH ms e with
   |none=>exact⟨rfl,rfl,rfl,fun h=>by simp at h⟩
   |some p=>simp only;rw[<-xdh ho];exact C9 ms stop ord r (stW w e) (i+1) (rs++ [p]) h1 h2
  ·rw[if_neg ho]at h1 h2 ⊢
   obtain⟨h3,h4⟩:=h2 rfl;rw[if_neg (by simp only at h4;intro h;rcases h with h|h<;>omega)];exact⟨rfl,rfl,rfl,fun h=>by simp at h⟩
theorem iP(ms:List Man):∀(l:List Ev)(w:Wk)(i:Nat)(rs:List (Int×Int)),rs.length=i->(exW ms l w i rs).rs.length=(exW ms l w i rs).at'
 |[],w,i,rs,h=>h
 |e::r,w,i,rs,h=>by
  unfold exW
  by_cases ho:okW w e=true
  ·rw[if_pos ho]
   cases hr:fH ms e with
   |none=>exact h
   |some p=>exact iP ms r _ _ _ (by rw[ah,h];rfl)
  ·rw[if_neg ho];exact h
theorem f13(a z:Int)(evs:List Ev)(he:iY evs)(ms:List Man)(hm:fT ms):call T 13 [.agg [.int .i64 a,.int .i64 z,.lst 4 (bD evs) .no],.lst 7 (cS ms) .no] [] 0=some ⟨exS evs ms,[],[]⟩:=by
 have hn:=he.n;have gp:=f28 a z evs (by omega);have hs:=p6 evs w0 0 (by decide) (by decide) (by decide) rfl (by show evs.length+0<=_;omega);have hs2:(kr evs 0 0 0).2=(jy evs w0 0).2:=hs.2.symm;rw[hs2]at gp;have hsame:=C9 ms (jy evs w0 0).2.1 (if(jy evs w0 0).2.2=true then 0 else 41) evs w0 0 [] (fun h=>by rw[if_pos h]) (fun h=>by rw[if_neg (by rw[h];simp)];exact⟨by decide,rfl⟩);obtain⟨l1,l2⟩:=l13 a z evs he ms hm (jy evs w0 0).2.1 (if(jy evs w0 0).2.2=true then 0 else 41) _ 0 [] w0.s4 rfl (by omega) rfl;have hlen:=iP ms evs w0 0 [] rfl;have hv:=bZ evs;unfold exS exE exV;have hnil:rsv []=[]:=rfl;have hk0:w0.s4=false:=rfl;simp only[aR,aB,wP,hnil,hk0]at l1 l2 hsame;obtain⟨s1,s2,s3,s4⟩:=hsame;rw[s3,s1]at l1;rw[s3,s1,s2]at l2;rw[am xpK];generalize exR ms _ _ evs 0 [] false=Y at*;generalize exW ms evs w0 0 []=X at*;have hvr:=cC X.rs
 by_cases h:X.err=0
 ·have l1':=l1 h
  rw[s4 h]at l1';rw[if_pos h,<-hlen];cases h4:X.w.s4 with
  |true=>rw[h4]at l1';simp only[go_sem,Qe,Qh,Qi,Qj,Qk,reduceCtorEq,reduceIte,gp,xgK,l1',hvr]
  |false=>rw[h4]at l1';simp only[go_sem,Qe,Qh,Qi,Qj,Qk,reduceCtorEq,reduceIte,gp,xgK,l1',hvr]
 ·obtain⟨ob,l2'⟩:=l2 h
  rw[if_neg h];simp only[go_sem,Qe,Qh,Qi,Qj,Qk,reduceCtorEq,reduceIte,gp,xgK,l2']
def ckO(ms:List Man)(e:Ev)(p:Int×Int):Bool:=
 if e.kind=5 then(decide (p.1= -1)&&decide (p.2= -1))else if e.kind=2 then(decide (p.1= -1)&&decide (p.2= -1))
 else if p.1<0 then false else if(ms.length:Int)<=p.1 then false else if p.2<0 then false else decide (dV (ms.getD p.1.toNat mn0) e=p.2)
def ckL(ms:List Man):List Ev->List (Int×Int)->Bool
 |e::r,p::q=>if ckO ms e p=true then ckL ms r q else false
 |_,_=>true
def ckV(evs:List Ev)(ms:List Man)(rs:List (Int×Int)):Bool:=if exE evs ms=0 then(if(rs.length:Int)=evs.length then ckL ms evs rs else false)else false
theorem s16(a z:Int)(evs:List Ev)(he:iY evs)(ms:List Man)(hm:fT ms)(rs:List (Int×Int))(hl:rs.length=evs.length)(i:Nat)(hi:i<evs.length):
 (ckO ms (evs.getD i ev0) (rs.getD i (0,0))=true->run T (.loop mf) ⟨[(1,.lst 7 (cS ms) .no),(2,.lst 2 (rsv rs) .no),(31,.lst 4 (bD evs) .no),(32,.int .i64 evs.length),(33,.int .i64 i)],[(103,.rc [.int .i64 a,.int .i64 z,.lst 4 (bD evs) .no])],[]⟩=
  run T (.loop mf) ⟨[(1,.lst 7 (cS ms) .no),(2,.lst 2 (rsv rs) .no),(31,.lst 4 (bD evs) .no),(32,.int .i64 evs.length),(33,.int .i64 ((i+1:Nat):Int))],[(103,.rc [.int .i64 a,.int .i64 z,.lst 4 (bD evs) .no])],[]⟩)/\
 (ckO ms (evs.getD i ev0) (rs.getD i (0,0))=false->∃ob,run T (.loop mf) ⟨[(1,.lst 7 (cS ms) .no),(2,.lst 2 (rsv rs) .no),(31,.lst 4 (bD evs) .no),(32,.int .i64 evs.length),(33,.int .i64 i)],[(103,.rc [.int .i64 a,.int .i64 z,.lst 4 (bD evs) .no])],[]⟩=
  some (.r,⟨[(6,.bool false)],ob,[]⟩)):=by
 have hn:=he.n;have e1:=bV i (by omega);have hg:=gu evs i hi;have hv:=bZ evs;have hir:i<rs.length:=by omega
 have hgr:=gG rs i hir;have hvr:=cC rs;have hvm:=dh ms;have he':=he.get hi;unfold ckO;generalize evs.getD i ev0=e at*;generalize rs.getD i (0,0)=p at*;have hit:∀k:Nat,k<ms.length->call T 15 [.agg (ms.getD k mn0).sv,.agg e.sv] [] 0=some ⟨.int .i64 (dV (ms.getD k mn0) e),[],[]⟩:=fun k hk=>f15 _ (hm.m _ (bG ms mn0 k hk)) e he'
 have hgm:∀k:Nat,k<ms.length->(cS ms).getD k []=(ms.getD k mn0).sv:=fun k hk=>gH ms k hk
 clear he he' hm;obtain⟨p1,p2⟩:=p;obtain⟨g',k,ds,b⟩:=e;simp only[Ev.sv]at*
 by_cases h5:k=5
 ·subst h5
  by_cases q1:p1= -1
  ·subst q1
   by_cases q2:p2= -1
   ·subst q2
    refine⟨fun _=> ?_,fun h=>by simp at h⟩;rw[aj];simp only[go_sem,Q5,Q7,Qe,Qh,Qi,Qj,Qk,reduceIte,hi,e1,hg,hv,hir,hgr,hvr]
   ·refine⟨fun h=>by simp[q2]at h,fun _=>⟨[(103,.rc [.int .i64 a,.int .i64 z,.lst 4 (bD evs) .no]),(111,.rc [.int .i64 g',.int .i64 5,.lst 1 (bls ds) .no,.byt b .no]),(112,.rc [.int .i64 (-1),.int .i64 p2])], ?_⟩⟩
    rw[aj];simp only[go_sem,Q5,Q7,Qe,Qh,Qi,Qj,Qk,reduceIte,hi,hg,hv,hir,hgr,hvr,q2]
  ·refine⟨fun h=>by simp[q1]at h,fun _=>⟨[(103,.rc [.int .i64 a,.int .i64 z,.lst 4 (bD evs) .no]),(111,.rc [.int .i64 g',.int .i64 5,.lst 1 (bls ds) .no,.byt b .no]),(112,.rc [.int .i64 p1,.int .i64 p2])], ?_⟩⟩
   rw[aj];simp only[go_sem,Q5,Q7,Qe,Qh,Qi,Qj,Qk,reduceIte,hi,hg,hv,hir,hgr,hvr,q1]
 by_cases h2:k=2
 ·subst h2
  by_cases q1:p1= -1
  ·subst q1
   by_cases q2:p2= -1
   ·subst q2
    refine⟨fun _=> ?_,fun h=>by simp at h⟩;rw[aj];simp only[go_sem,Q5,Q7,Qe,Qh,Qi,Qj,Qk,reduceIte,hi,e1,hg,hv,hir,hgr,hvr]
   ·refine⟨fun h=>by simp[q2]at h,fun _=>⟨[(103,.rc [.int .i64 a,.int .i64 z,.lst 4 (bD evs) .no]),(111,.rc [.int .i64 g',.int .i64 2,.lst 1 (bls ds) .no,.byt b .no]),(112,.rc [.int .i64 (-1),.int .i64 p2])], ?_⟩⟩
    rw[aj];simp only[go_sem,Q5,Q7,Qe,Qh,Qi,Qj,Qk,reduceIte,hi,hg,hv,hir,hgr,hvr,q2]
  ·refine⟨fun h=>by simp[q1]at h,fun _=>⟨[(103,.rc [.int .i64 a,.int .i64 z,.lst 4 (bD evs) .no]),(111,.rc [.int .i64 g',.int .i64 2,.lst 1 (bls ds) .no,.byt b .no]),(112,.rc [.int .i64 p1,.int .i64 p2])], ?_⟩⟩
   rw[aj];simp only[go_sem,Q5,Q7,Qe,Qh,Qi,Qj,Qk,reduceIte,hi,hg,hv,hir,hgr,hvr,q1]
 rw[if_neg h5,if_neg h2]
 by_cases a1:p1<0
 ·refine⟨fun h=>by simp[a1]at h,fun _=>⟨[(103,.rc [.int .i64 a,.int .i64 z,.lst 4 (bD evs) .no]),(111,.rc [.int .i64 g',.int .i64 k,.lst 1 (bls ds) .no,.byt b .no]),(112,.rc [.int .i64 p1,.int .i64 p2])], ?_⟩⟩
  rw[aj];simp only[go_sem,Q7,Qb,Qc,Qd,Qe,Qh,Qi,Qj,Qk,reduceCtorEq,reduceIte,hi,hg,hv,hir,hgr,hvr,h5,h2,a1]
 by_cases a2:(ms.length:Int)<=p1
 ·refine⟨fun h=>by simp[a1,a2]at h,fun _=>⟨[(103,.rc [.int .i64 a,.int .i64 z,.lst 4 (bD evs) .no]),(111,.rc [.int .i64 g',.int .i64 k,.lst 1 (bls ds) .no,.byt b .no]),(112,.rc [.int .i64 p1,.int .i64 p2])], ?_⟩⟩
  rw[aj];simp only[go_sem,Q7,Qb,Qc,Qd,Qe,Qh,Qi,Qj,Qk,reduceCtorEq,reduceIte,hi,hg,hv,hir,hgr,hvr,h5,h2,a1,a2,hvm]
 by_cases a3:p2<0
 ·refine⟨fun h=>by simp[a1,a2,a3]at h,fun _=>⟨[(103,.rc [.int .i64 a,.int .i64 z,.lst 4 (bD evs) .no]),(111,.rc [.int .i64 g',.int .i64 k,.lst 1 (bls ds) .no,.byt b .no]),(112,.rc [.int .i64 p1,.int .i64 p2])], ?_⟩⟩
  rw[aj];simp only[go_sem,Q7,Qb,Qc,Qd,Qe,Qh,Qi,Qj,Qk,reduceCtorEq,reduceIte,hi,hg,hv,hir,hgr,hvr,h5,h2,a1,a2,a3,hvm]
 rw[if_neg a1,if_neg a2,if_neg a3];obtain⟨q,rfl⟩:=Int.eq_ofNat_of_zero_le (by omega:0<=p1);rw[eE];have hq:q<ms.length:=by omega
 have hit':=hit q hq;have hgm':=hgm q hq;have a1':¬(q:Int)<0:=a1;have hqi:(q:Int)<(ms.length:Int):=by omega
 have hq0:(0:Int)<=(q:Int):=by omega
 generalize ms.getD q mn0=m at*;obtain⟨mv,m1,m2,m3,m4,es,rl⟩:=m;simp only[Man.sv]at hit' hgm';generalize dV ⟨mv,m1,m2,m3,m4,es,rl⟩ ⟨g',k,ds,b⟩=zz at*
 by_cases a4:zz=p2
 ·subst a4
  refine⟨fun _=> ?_,fun h=>by simp at h⟩;rw[aj];simp only[go_sem,Q7,Qb,Qc,Qd,Qe,Qh,Qi,Qj,Qk,reduceCtorEq,reduceIte,hi,e1,hg,hv,hir,hgr,hvr,h5,h2,a1,a2,a3,hvm,hit',TA,hgm',hqi,hq0]
 ·refine⟨fun h=>by simp[a4]at h,fun _=>⟨[(103,.rc [.int .i64 a,.int .i64 z,.lst 4 (bD evs) .no]),(111,.rc [.int .i64 g',.int .i64 k,.lst 1 (bls ds) .no,.byt b .no]),(112,.rc [.int .i64 q,.int .i64 p2])], ?_⟩⟩
  rw[aj];simp only[go_sem,Q7,Qb,Qc,Qd,Qe,Qh,Qi,Qj,Qk,reduceCtorEq,reduceIte,hi,hg,hv,hir,hgr,hvr,h5,h2,a1,a2,a3,hvm,hit',TA,hgm',hqi,hq0,a4]
theorem l16(a z:Int)(evs:List Ev)(he:iY evs)(ms:List Man)(hm:fT ms)(rs:List (Int×Int))(hl:rs.length=evs.length):∀(n i:Nat),evs.length-i=n->i<=evs.length->
 (ckL ms (evs.drop i) (rs.drop i)=true->run T (.loop mf) ⟨[(1,.lst 7 (cS ms) .no),(2,.lst 2 (rsv rs) .no),(31,.lst 4 (bD evs) .no),(32,.int .i64 evs.length),(33,.int .i64 i)],[(103,.rc [.int .i64 a,.int .i64 z,.lst 4 (bD evs) .no])],[]⟩=some (.x 0,⟨[],[(103,.rc [.int .i64 a,.int .i64 z,.lst 4 (bD evs) .no])],[]⟩))/\
 (ckL ms (evs.drop i) (rs.drop i)=false->∃ob,run T (.loop mf) ⟨[(1,.lst 7 (cS ms) .no),(2,.lst 2 (rsv rs) .no),(31,.lst 4 (bD evs) .no),(32,.int .i64 evs.length),(33,.int .i64 i)],[(103,.rc [.int .i64 a,.int .i64 z,.lst 4 (bD evs) .no])],[]⟩=
  some (.r,⟨[(6,.bool false)],ob,[]⟩)):=by
 intro n;induction n with
 |zero=>
  intro i h0 h1;have hi:i=evs.length:=by omega
  subst hi;rw[aL];refine⟨fun _=> ?_,fun h=>by simp[ckL]at h⟩;rw[aj];simp only[go_sem,Q7,Qh,Qj,Qk,reduceIte]
 |succ n ih=>
  intro i h0 h1;have hi:i<evs.length:=by omega
  obtain⟨s1,s2⟩:=s16 a z evs he ms hm rs hl i hi;obtain⟨i1,i2⟩:=ih (i+1) (by omega) (by omega);rw[kC evs i hi,fA rs (0,0) i (by omega)];unfold ckL;cases h:ckO ms (evs.getD i ev0) (rs.getD i (0,0))with
  |true=>rw[if_pos rfl,s1 h];exact⟨i1,i2⟩
  |false=>rw[if_neg (by simp)];exact⟨fun h=>by simp at h,fun _=>s2 h⟩
theorem f16(a z:Int)(evs:List Ev)(he:iY evs)(ms:List Man)(hm:fT ms)(rs:List (Int×Int)):
 call T 16 [.agg [.int .i64 a,.int .i64 z,.lst 4 (bD evs) .no],.lst 7 (cS ms) .no,.lst 2 (rsv rs) .no] [] 0=some ⟨.bool (ckV evs ms rs),[],[]⟩:=by
 have g:=f12 a z evs he ms hm;have hv:=bZ evs;have hvr:=cC rs;have lk:=l16 a z evs he ms hm rs;rw[am xpH];unfold ckV;unfold exS at g
 by_cases h0:exE evs ms=0
 ·rw[h0]at g
  by_cases hl:rs.length=evs.length
  ·have hl':(rs.length:Int)=(evs.length:Int):=by omega
   obtain⟨k1,k2⟩:=lk hl _ 0 rfl (by omega);simp only[aB,aR]at k1 k2;cases hk:ckL ms evs rs with
   |true=>have k1':=k1 hk;simp only[go_sem,Qe,Qh,Qi,Qj,Qk,reduceCtorEq,reduceIte,g,jZ,h0,hv,hvr,hl,k1']
   |false=>obtain⟨ob,k2'⟩:=k2 hk;simp only[go_sem,Qe,Qh,Qi,Qj,Qk,reduceCtorEq,reduceIte,g,jZ,h0,hv,hvr,hl,k2']
  ·have hl':¬(rs.length:Int)=(evs.length:Int):=by omega
   simp only[go_sem,Qe,Qh,Qi,Qj,Qk,reduceCtorEq,reduceIte,g,jZ,h0,hv,hvr,hl']
 ·simp only[go_sem,Qe,Qh,Qi,Qj,Qk,reduceCtorEq,reduceIte,g,jZ,h0]
theorem s17(a z:Int)(evs:List Ev)(he:iY evs)(ms:List Man)(hm:fT ms)(rs:List (Int×Int))(hl:rs.length=evs.length)(i:Nat)(hi:i<evs.length):
 (ckO ms (evs.getD i ev0) (rs.getD i (0,0))=true->run T (.loop me) ⟨[(1,.lst 7 (cS ms) .no),(2,.lst 2 (rsv rs) .no),(3,.ptr 103 0),(10,.int .i64 i)],[(103,.rc [.int .i64 a,.int .i64 z,.lst 4 (bD evs) .no])],[]⟩=
  run T (.loop me) ⟨[(1,.lst 7 (cS ms) .no),(2,.lst 2 (rsv rs) .no),(3,.ptr 103 0),(10,.int .i64 ((i+1:Nat):Int))],[(103,.rc [.int .i64 a,.int .i64 z,.lst 4 (bD evs) .no])],[]⟩)/\
 (ckO ms (evs.getD i ev0) (rs.getD i (0,0))=false->∃ob,run T (.loop me) ⟨[(1,.lst 7 (cS ms) .no),(2,.lst 2 (rsv rs) .no),(3,.ptr 103 0),(10,.int .i64 i)],[(103,.rc [.int .i64 a,.int .i64 z,.lst 4 (bD evs) .no])],[]⟩=
  some (.r,⟨[(6,.bool false)],ob,[]⟩)):=by
 have hn:=he.n;have e1:=bV i (by omega);have hg:=gu evs i hi;have hv:=bZ evs;have hir:i<rs.length:=by omega
 have hgr:=gG rs i hir;have hvr:=cC rs;have hvm:=dh ms;have he':=he.get hi;unfold ckO;generalize evs.getD i ev0=e at*;generalize rs.getD i (0,0)=p at*;have hit:∀k:Nat,k<ms.length->call T 19 [.agg (ms.getD k mn0).sv,.agg e.sv] [] 0=some ⟨.int .i64 (dV (ms.getD k mn0) e),[],[]⟩:=fun k hk=>f19 _ (hm.m _ (bG ms mn0 k hk)) e he'
 have hgm:∀k:Nat,k<ms.length->(cS ms).getD k []=(ms.getD k mn0).sv:=fun k hk=>gH ms k hk
 clear he he' hm;obtain⟨p1,p2⟩:=p;obtain⟨g',k,ds,b⟩:=e;simp only[Ev.sv]at*
 by_cases h5:k=5
 ·subst h5
  by_cases q1:p1= -1
  ·subst q1
   by_cases q2:p2= -1
   ·subst q2
    refine⟨fun _=> ?_,fun h=>by simp at h⟩;rw[aj];simp only[go_sem,Q5,Q7,Qe,Qh,Qi,Qj,Qk,reduceIte,hi,e1,hg,hv,hir,hgr,hvr]
   ·refine⟨fun h=>by simp[q2]at h,fun _=>⟨[(103,.rc [.int .i64 a,.int .i64 z,.lst 4 (bD evs) .no]),(111,.rc [.int .i64 (-1),.int .i64 p2])], ?_⟩⟩
    rw[aj];simp only[go_sem,Q5,Q7,Qe,Qh,Qi,Qj,Qk,reduceIte,hi,hg,hv,hir,hgr,hvr,q2]
  ·refine⟨fun h=>by simp[q1]at h,fun _=>⟨[(103,.rc [.int .i64 a,.int .i64 z,.lst 4 (bD evs) .no]),(111,.rc [.int .i64 p1,.int .i64 p2])], ?_⟩⟩
   rw[aj];simp only[go_sem,Q5,Q7,Qe,Qh,Qi,Qj,Qk,reduceIte,hi,hg,hv,hir,hgr,hvr,q1]
 by_cases h2:k=2
 ·subst h2
  by_cases q1:p1= -1
  ·subst q1
   by_cases q2:p2= -1
   ·subst q2
    refine⟨fun _=> ?_,fun h=>by simp at h⟩;rw[aj];simp only[go_sem,Q5,Q7,Qe,Qh,Qi,Qj,Qk,reduceIte,hi,e1,hg,hv,hir,hgr,hvr]
   ·refine⟨fun h=>by simp[q2]at h,fun _=>⟨[(103,.rc [.int .i64 a,.int .i64 z,.lst 4 (bD evs) .no]),(111,.rc [.int .i64 (-1),.int .i64 p2])], ?_⟩⟩
    rw[aj];simp only[go_sem,Q5,Q7,Qe,Qh,Qi,Qj,Qk,reduceIte,hi,hg,hv,hir,hgr,hvr,q2]
  ·refine⟨fun h=>by simp[q1]at h,fun _=>⟨[(103,.rc [.int .i64 a,.int .i64 z,.lst 4 (bD evs) .no]),(111,.rc [.int .i64 p1,.int .i64 p2])], ?_⟩⟩
   rw[aj];simp only[go_sem,Q5,Q7,Qe,Qh,Qi,Qj,Qk,reduceIte,hi,hg,hv,hir,hgr,hvr,q1]
 rw[if_neg h5,if_neg h2]
 by_cases a1:p1<0
 ·refine⟨fun h=>by simp[a1]at h,fun _=>⟨[(103,.rc [.int .i64 a,.int .i64 z,.lst 4 (bD evs) .no]),(111,.rc [.int .i64 p1,.int .i64 p2])], ?_⟩⟩
  rw[aj];simp only[go_sem,Q7,Qb,Qc,Qd,Qe,Qh,Qi,Qj,Qk,reduceCtorEq,reduceIte,hi,hg,hv,hir,hgr,hvr,h5,h2,a1]
 by_cases a2:(ms.length:Int)<=p1
 ·refine⟨fun h=>by simp[a1,a2]at h,fun _=>⟨[(103,.rc [.int .i64 a,.int .i64 z,.lst 4 (bD evs) .no]),(111,.rc [.int .i64 p1,.int .i64 p2])], ?_⟩⟩
  rw[aj];simp only[go_sem,Q7,Qb,Qc,Qd,Qe,Qh,Qi,Qj,Qk,reduceCtorEq,reduceIte,hi,hg,hv,hir,hgr,hvr,h5,h2,a1,a2,hvm]
 by_cases a3:p2<0
 ·refine⟨fun h=>by simp[a1,a2,a3]at h,fun _=>⟨[(103,.rc [.int .i64 a,.int .i64 z,.lst 4 (bD evs) .no]),(111,.rc [.int .i64 p1,.int .i64 p2])], ?_⟩⟩
  rw[aj];simp only[go_sem,Q7,Qb,Qc,Qd,Qe,Qh,Qi,Qj,Qk,reduceCtorEq,reduceIte,hi,hg,hv,hir,hgr,hvr,h5,h2,a1,a2,a3,hvm]
 rw[if_neg a1,if_neg a2,if_neg a3];obtain⟨q,rfl⟩:=Int.eq_ofNat_of_zero_le (by omega:0<=p1);rw[eE];have hq:q<ms.length:=by omega
 have hit':=hit q hq;have hgm':=hgm q hq;have hqi:(q:Int)<(ms.length:Int):=by omega
 have hq0:(0:Int)<=(q:Int):=by omega
 generalize ms.getD q mn0=m at*;obtain⟨mv,m1,m2,m3,m4,es,rl⟩:=m;simp only[Man.sv]at hit' hgm';generalize dV ⟨mv,m1,m2,m3,m4,es,rl⟩ ⟨g',k,ds,b⟩=zz at*
 by_cases a4:zz=p2
 ·subst a4
  refine⟨fun _=> ?_,fun h=>by simp at h⟩;rw[aj];simp only[go_sem,Q7,Qb,Qc,Qd,Qe,Qh,Qi,Qj,Qk,reduceCtorEq,reduceIte,hi,e1,hg,hv,hir,hgr,hvr,h5,h2,a1,a2,a3,hvm,hit',Pi,hgm',hqi,hq0]
 ·refine⟨fun h=>by simp[a4]at h,fun _=>⟨[(103,.rc [.int .i64 a,.int .i64 z,.lst 4 (bD evs) .no]),(111,.rc [.int .i64 q,.int .i64 p2])], ?_⟩⟩
  rw[aj];simp only[go_sem,Q7,Qb,Qc,Qd,Qe,Qh,Qi,Qj,Qk,reduceCtorEq,reduceIte,hi,hg,hv,hir,hgr,hvr,h5,h2,a1,a2,a3,hvm,hit',Pi,hgm',hqi,hq0,a4]
theorem l17(a z:Int)(evs:List Ev)(he:iY evs)(ms:List Man)(hm:fT ms)(rs:List (Int×Int))(hl:rs.length=evs.length):∀(n i:Nat),evs.length-i=n->i<=evs.length->
 (ckL ms (evs.drop i) (rs.drop i)=true->run T (.loop me) ⟨[(1,.lst 7 (cS ms) .no),(2,.lst 2 (rsv rs) .no),(3,.ptr 103 0),(10,.int .i64 i)],[(103,.rc [.int .i64 a,.int .i64 z,.lst 4 (bD evs) .no])],[]⟩=some (.x 0,⟨[],[(103,.rc [.int .i64 a,.int .i64 z,.lst 4 (bD evs) .no])],[]⟩))/\
 (ckL ms (evs.drop i) (rs.drop i)=false->∃ob,run T (.loop me) ⟨[(1,.lst 7 (cS ms) .no),(2,.lst 2 (rsv rs) .no),(3,.ptr 103 0),(10,.int .i64 i)],[(103,.rc [.int .i64 a,.int .i64 z,.lst 4 (bD evs) .no])],[]⟩=
  some (.r,⟨[(6,.bool false)],ob,[]⟩)):=by
 intro n;induction n with
 |zero=>
  intro i h0 h1;have hi:i=evs.length:=by omega
  have hvr:=cC rs;subst hi;rw[aL];refine⟨fun _=> ?_,fun h=>by simp[ckL]at h⟩;rw[aj];simp only[go_sem,Q7,Qh,Qj,Qk,reduceIte,hvr,hl]
 |succ n ih=>
  intro i h0 h1;have hi:i<evs.length:=by omega
  obtain⟨s1,s2⟩:=s17 a z evs he ms hm rs hl i hi;obtain⟨i1,i2⟩:=ih (i+1) (by omega) (by omega);rw[kC evs i hi,fA rs (0,0) i (by omega)];unfold ckL;cases h:ckO ms (evs.getD i ev0) (rs.getD i (0,0))with
  |true=>rw[if_pos rfl,s1 h];exact⟨i1,i2⟩
  |false=>rw[if_neg (by simp)];exact⟨fun h=>by simp at h,fun _=>s2 h⟩
theorem f17(a z:Int)(evs:List Ev)(he:iY evs)(ms:List Man)(hm:fT ms)(rs:List (Int×Int)):
 call T 17 [.agg [.int .i64 a,.int .i64 z,.lst 4 (bD evs) .no],.lst 7 (cS ms) .no,.lst 2 (rsv rs) .no] [] 0=some ⟨.bool (ckV evs ms rs),[],[]⟩:=by
 have g:=f13 a z evs he ms hm;have hv:=bZ evs;have hvr:=cC rs;have lk:=l17 a z evs he ms hm rs;rw[am xpG];unfold ckV;unfold exS at g
 by_cases h0:exE evs ms=0
 ·rw[h0]at g
  by_cases hl:rs.length=evs.length
  ·have hl':(rs.length:Int)=(evs.length:Int):=by omega
   obtain⟨k1,k2⟩:=lk hl _ 0 rfl (by omega);simp only[aB,aR]at k1 k2;cases hk:ckL ms evs rs with
   |true=>have k1':=k1 hk;simp only[go_sem,Qe,Qh,Qi,Qj,Qk,reduceCtorEq,reduceIte,g,TB,h0,hv,hvr,hl,k1']
   |false=>obtain⟨ob,k2'⟩:=k2 hk;simp only[go_sem,Qe,Qh,Qi,Qj,Qk,reduceCtorEq,reduceIte,g,TB,h0,hv,hvr,hl,k2']
  ·have hl':¬(rs.length:Int)=(evs.length:Int):=by omega
   simp only[go_sem,Qe,Qh,Qi,Qj,Qk,reduceCtorEq,reduceIte,g,TB,h0,hv,hvr,hl']
 ·simp only[go_sem,Qe,Qh,Qi,Qj,Qk,reduceCtorEq,reduceIte,g,TB,h0]
theorem l43(rs:List (Int×Int))(hn:rs.length<=1000000):∀(n i:Nat),rs.length-i=n->i<=rs.length->
 run T (.loop PS) ⟨[(0,.lst 2 (rsv rs) .no),(1,.lst 2 (rsv rs) .no),(5,.int .i64 i)],[],[]⟩=some (.x 0,⟨[],[],[]⟩):=by
 intro n;induction n with
 |zero=>
  intro i h0 h1;have hi:i=rs.length:=by omega
  have hvr:=cC rs;subst hi;rw[aj];simp only[go_sem,Qh,Qj,Qk,reduceCtorEq,reduceIte,hvr]
 |succ n ih=>
  intro i h0 h1;have hi:i<rs.length:=by omega
  have hvr:=cC rs;have hg:=gG rs i hi;have e1:=bV i (by omega);have ih':=ih (i+1) (by omega) (by omega);rw[aj];simp only[go_sem,Qe,Qh,Qj,Qk,reduceCtorEq,reduceIte,hi,hvr,hg,e1,ih']
theorem f43(rs:List (Int×Int))(hn:rs.length<=1000000):call T 43 [.lst 2 (rsv rs) .no,.lst 2 (rsv rs) .no] [] 0=some ⟨.bool true,[],[]⟩:=by have h:=l43 rs hn _ 0 rfl (by omega);rw[aB]at h;have hvr:=cC rs;rw[am xpl];simp only[go_sem,Qe,Qh,Qi,Qj,Qk,reduceCtorEq,reduceIte,hvr,h]
theorem f14(rs:List (Int×Int))(hn:rs.length<=1000000):call T 14 [.lst 2 (rsv rs) .no,.lst 2 (rsv rs) .no] [] 0=some ⟨.bool true,[],[]⟩:=by have h:=f43 rs hn;rw[am xpJ];simp only[go_sem,Qe,Qh,Qi,Qj,Qk,reduceCtorEq,reduceIte,h,xpX]
def bu(k:Nat)(v:Int):List UInt8:=be k (bm.wrap v)
def hdM(m:Man):List UInt8:=jw ([]++bu 1 21) m.vendor++bu 4 m.ver++bu 4 m.flr++bu 6 m.frm++bu 6 m.til++bu 1 (m.ents.length:Int)
theorem dw(k:Nat)(v:Int):(bu k v).length=k:=ib ..
theorem kR(B:List UInt8)(k:Nat)(v:Int)(h1:1<=k)(h8:k<=8)(hB:B.length<=10000000000000):
 call T 117 [.byt B .no,.int .i64 k,.int .i64 v] [] 0=some ⟨.byt (B++bu k v) (.id 60),[],[60]⟩:=xmi B k v h1 h8 hB
def pI(B:List UInt8)(x:Ent):List UInt8:=jw (B++bu 1 x.role) x.name++bu 4 x.ver++x.dig
def nW(B:List UInt8)(r:Rul):List UInt8:=jw (B++bu 1 r.kind) r.text++bu 4 r.lo++bu 4 r.hi
theorem qB(B:List UInt8)(x:Ent)(hn:x.name.length<=1000000)(hd:x.dig.length<=1000000):(pI B x).length<=B.length+2000007:=by unfold pI;rw[ah,ah,dY,ah,dw,dw];omega
theorem qa(B:List UInt8)(x:Rul)(hn:x.text.length<=1000000):(nW B x).length<=B.length+2000007:=by unfold nW;rw[ah,ah,dY,ah,dw,dw,dw];omega
def tkA:Bool->List Nat
 |false=> [103,12060,17060,21060,24060,28060,31060]
 |true=> [103,12060,17060,21060,24060,28060,31060,51060]
theorem xg9(m:Man)(hm:eX m)(b:Bool)(i:Nat)(hi:i<m.ents.length)(B:List UInt8)(hB:B.length<=1000000000):
 run T (.loop mW) ⟨[(1,.ptr 101 0),(3,.byt B (.id 103)),(37,.lst 4 (dC m.ents) .no),(38,.int .i64 m.ents.length),(39,.int .i64 i)],[(101,.rc m.sv)],tkA b⟩=
 run T (.loop mW) ⟨[(1,.ptr 101 0),(3,.byt (pI B (m.ents.getD i en0)) (.id 103)),(37,.lst 4 (dC m.ents) .no),(38,.int .i64 m.ents.length),(39,.int .i64 ((i+1:Nat):Int))],[(101,.rc m.sv)],tkA true⟩:=by
 have k1:((1:Nat):Int)=1:=rfl;have k4:((4:Nat):Int)=4:=rfl;have hen:=hm.en;have e1:=bV i (by omega);have hg:=fx m.ents i hi;have hel:=cT m.ents;obtain⟨hxn,hxd⟩:=hm.e _ (bG m.ents en0 i hi);clear hm;generalize m.ents.getD i en0=x at*;unfold pI;have u1:=kR B 1 x.role (by omega) (by omega) (by omega);rw[k1]at u1;have n1:(B++bu 1 x.role).length<=1000000001:=by rw[ah,dw];omega
 generalize B++bu 1 x.role=B1 at*;have u2:=xgu B1 x.name (by omega) (by omega);have n2:(jw B1 x.name).length<=1010000000:=by rw[dY];omega
 generalize jw B1 x.name=B2 at*;have u3:=kR B2 4 x.ver (by omega) (by omega) (by omega);rw[k4]at u3;have n3:(B2++bu 4 x.ver).length<=1010000004:=by rw[ah,dw];omega
 generalize B2++bu 4 x.ver=B3 at*;have n4:B3.length+x.dig.length<=140737488355328:=by omega
 obtain⟨mv,m1,m2,m3,m4,es,rs⟩:=m;obtain⟨x1,x2,x3,x4⟩:=x;simp only[Man.sv,Ent.sv]at*;cases b with
 |false=>rw[aj];simp only[tkA];simp only[go_sem,Qb,Qc,Qd,Qe,Qg,Qh,Qi,Qj,Qk,reduceCtorEq,reduceIte,hi,e1,hg,hel,u1,u2,u3,n4,lc,mR]
 |true=>rw[aj];simp only[tkA];simp only[go_sem,Qb,Qc,Qd,Qe,Qg,Qh,Qi,Qj,Qk,reduceCtorEq,reduceIte,hi,e1,hg,hel,u1,u2,u3,n4,lc,mR]
theorem xjq(m:Man)(hm:eX m)(h16:m.ents.length<=16):∀(n i:Nat)(b:Bool)(B:List UInt8),m.ents.length-i=n->i<=m.ents.length->B.length<=20000000+i*2000007->
 ∃b',run T (.loop mW) ⟨[(1,.ptr 101 0),(3,.byt B (.id 103)),(37,.lst 4 (dC m.ents) .no),(38,.int .i64 m.ents.length),(39,.int .i64 i)],[(101,.rc m.sv)],tkA b⟩=
 some (.x 0,⟨[(1,.ptr 101 0),(3,.byt ((m.ents.drop i).foldl pI B) (.id 103))],[(101,.rc m.sv)],tkA b'⟩):=by
 intro n;induction n with
 |zero=>
  intro i b B h0 h1 h2;have:i=m.ents.length:=by omega
  subst this;refine⟨b, ?_⟩;rw[aL,oS,aj];cases b with
  |false=>simp only[tkA];simp only[go_sem,Qh,Qj,Qk,reduceIte]
  |true=>simp only[tkA];simp only[go_sem,Qh,Qj,Qk,reduceIte]
 |succ n ih=>
  intro i b B h0 h1 h2;have hi:i<m.ents.length:=by omega
  have hdr:m.ents.drop i=m.ents.getD i en0::m.ents.drop (i+1):=by rw[aU hi,aa,af hi];rfl
  obtain⟨hxn,hxd⟩:=hm.e _ (bG m.ents en0 i hi);have hl:=qB B (m.ents.getD i en0) hxn hxd;rw[xg9 m hm b i hi B (by omega),hdr,cE];exact ih (i+1) true _ (by omega) (by omega) (by omega)
def tkB:Bool->List Nat
 |false=> [103,12060,17060,21060,24060,28060,31060,64060]
 |true=> [103,12060,17060,21060,24060,28060,31060,51060,64060]
def tkC:Bool->List Nat
 |false=> [103,12060,17060,21060,24060,28060,31060,64060,79060,86060]
 |true=> [103,12060,17060,21060,24060,28060,31060,51060,64060,79060,86060]
theorem xg8(m:Man)(b:Bool)(t:Nat)(tk:List Nat)(ht:(t=64060/\tk=tkB b)\/(t=86060/\tk=tkC b))(rs:List Rul)(hx:∀x∈rs,x.text.length<=1000000)(hn:rs.length<=1000000)(i:Nat)(hi:i<rs.length)(B:List UInt8)(hB:B.length<=1000000000):
 run T (.loop mV) ⟨[(3,.byt B (.id t)),(65,.lst 4 (eP rs) .no),(66,.int .i64 rs.length),(67,.int .i64 i)],[(101,.rc m.sv)],tk⟩=
 run T (.loop mV) ⟨[(3,.byt (nW B (rs.getD i rl0)) (.id 86060)),(65,.lst 4 (eP rs) .no),(66,.int .i64 rs.length),(67,.int .i64 ((i+1:Nat):Int))],[(101,.rc m.sv)],tkC b⟩:=by
 have k1:((1:Nat):Int)=1:=rfl;have k4:((4:Nat):Int)=4:=rfl;have e1:=bV i (by omega);have hg:=ja rs i hi;have hel:=dP rs;have hxn:=hx _ (bG rs rl0 i hi);generalize rs.getD i rl0=x at*;unfold nW;have u1:=kR B 1 x.kind (by omega) (by omega) (by omega);rw[k1]at u1;have n1:(B++bu 1 x.kind).length<=1000000001:=by rw[ah,dw];omega
 generalize B++bu 1 x.kind=B1 at*;have u2:=xgu B1 x.text (by omega) (by omega);have n2:(jw B1 x.text).length<=1010000000:=by rw[dY];omega
 generalize jw B1 x.text=B2 at*;have u3:=kR B2 4 x.lo (by omega) (by omega) (by omega);rw[k4]at u3;have n3:(B2++bu 4 x.lo).length<=1010000004:=by rw[ah,dw];omega
 generalize B2++bu 4 x.lo=B3 at*;have u4:=kR B3 4 x.hi (by omega) (by omega) (by omega);rw[k4]at u4;obtain⟨mv,m1,m2,m3,m4,es,rs'⟩:=m;obtain⟨x1,x2,x3,x4⟩:=x;simp only[Rul.sv,Man.sv]at*;rcases ht with⟨rfl,rfl⟩|⟨rfl,rfl⟩
 ·cases b with
  |false=>rw[aj];simp only[tkB,tkC];simp only[go_sem,Qb,Qc,Qd,Qe,Qg,Qh,Qi,Qj,Qk,reduceCtorEq,reduceIte,hi,e1,hg,hel,u1,u2,u3,u4,lc,mR]
  |true=>rw[aj];simp only[tkB,tkC];simp only[go_sem,Qb,Qc,Qd,Qe,Qg,Qh,Qi,Qj,Qk,reduceCtorEq,reduceIte,hi,e1,hg,hel,u1,u2,u3,u4,lc,mR]
 ·cases b with
  |false=>rw[aj];simp only[tkC];simp only[go_sem,Qb,Qc,Qd,Qe,Qg,Qh,Qi,Qj,Qk,reduceCtorEq,reduceIte,hi,e1,hg,hel,u1,u2,u3,u4,lc,mR]
  |true=>rw[aj];simp only[tkC];simp only[go_sem,Qb,Qc,Qd,Qe,Qg,Qh,Qi,Qj,Qk,reduceCtorEq,reduceIte,hi,e1,hg,hel,u1,u2,u3,u4,lc,mR]
theorem xjp(m:Man)(b:Bool)(rs:List Rul)(hx:∀x∈rs,x.text.length<=1000000)(hn:rs.length<=8):∀(n i t:Nat)(tk:List Nat)(B:List UInt8),(t=64060/\tk=tkB b)\/(t=86060/\tk=tkC b)->rs.length-i=n->i<=rs.length->B.length<=100000000+i*2000007->
 ∃t' tk',((t'=64060/\tk'=tkB b)\/(t'=86060/\tk'=tkC b))/\run T (.loop mV) ⟨[(3,.byt B (.id t)),(65,.lst 4 (eP rs) .no),(66,.int .i64 rs.length),(67,.int .i64 i)],[(101,.rc m.sv)],tk⟩=
 some (.x 2,⟨[(3,.byt ((rs.drop i).foldl nW B) (.id t'))],[(101,.rc m.sv)],tk'⟩):=by
 intro n;induction n with
 |zero=>
  intro i t tk B ht h0 h1 h2;have:i=rs.length:=by omega
  subst this;refine⟨t,tk,ht, ?_⟩;rw[aL,oS,aj];rcases ht with⟨rfl,rfl⟩|⟨rfl,rfl⟩
  ·cases b with
   |false=>simp only[tkB];simp only[go_sem,Qh,Qj,Qk,reduceIte]
   |true=>simp only[tkB];simp only[go_sem,Qh,Qj,Qk,reduceIte]
  ·cases b with
   |false=>simp only[tkC];simp only[go_sem,Qh,Qj,Qk,reduceIte]
   |true=>simp only[tkC];simp only[go_sem,Qh,Qj,Qk,reduceIte]
 |succ n ih=>
  intro i t tk B ht h0 h1 h2;have hi:i<rs.length:=by omega
  have hdr:rs.drop i=rs.getD i rl0::rs.drop (i+1):=by rw[aU hi,aa,af hi];rfl
  have hl:=qa B (rs.getD i rl0) (hx _ (bG rs rl0 i hi));rw[xg8 m b t tk ht rs hx (by omega) i hi B (by omega),hdr,cE];exact ih (i+1) 86060 _ _ (.inr ⟨rfl,rfl⟩) (by omega) (by omega) (by omega)
def rZ(m:Man):List UInt8:=if lq m=0 then m.ruls.foldl nW (m.ents.foldl pI (hdM m)++bu 1 (m.ruls.length:Int))else []
theorem kP:∀(l:List Ent)(B:List UInt8),(∀x∈l,x.name.length<=1000000/\x.dig.length<=1000000)->(l.foldl pI B).length<=B.length+l.length*2000007
 |[],B,_=>by simp
 |x::r,B,h=>by rw[cE,av];have h1:=kP r (pI B x) (fun y hy=>h y (aw _ hy));obtain⟨a,c⟩:=h x aG;have h2:=qB B x a c;rw[bQ];omega
theorem rX:∀(l:List Rul)(B:List UInt8),(∀x∈l,x.text.length<=1000000)->B.length<=(l.foldl nW B).length/\(l.foldl nW B).length<=B.length+l.length*2000007
 |[],B,_=>by simp
 |x::r,B,h=>by
  rw[cE,av];have h1:=rX r (nW B x) (fun y hy=>h y (aw _ hy));have h2:=qa B x (h x aG)
  have h3:B.length<=(nW B x).length:=by unfold nW;rw[ah,ah,dY,ah];omega
  rw[bQ];omega
theorem nM{m:Man}(h:lq m=0):m.ents.length<=16/\m.ruls.length<=8:=by
 unfold lq at h
 repeat' split at h
 all_goals first|(exfalso;omega)|skip
 exact⟨by omega,by omega⟩
theorem xoo(m:Man)(hm:eX m):call T 101 [.agg m.sv] [] 0=some ⟨.byt (rZ m) .no,[],[]⟩:=by
 have g1:=f44 m hm;have k1:((1:Nat):Int)=1:=rfl;have k4:((4:Nat):Int)=4:=rfl;have k6:((6:Nat):Int)=6:=rfl;have hvl:=hm.v;have hrn:=hm.rn;have hel:=cT m.ents;have hrl:=dP m.ruls;unfold rZ
 by_cases hv:lq m=0
 ·obtain⟨h16,h8⟩:=nM hv
  rw[hv]at g1;rw[if_pos hv];unfold hdM;have u1:=kR [] 1 21 (by omega) (by omega) (by decide);rw[k1]at u1;generalize hB1:([]++bu 1 21:List UInt8)=B1 at*;have n1:B1.length<=1000:=by rw[<-hB1];simp[dw]
  have u2:=xgu B1 m.vendor (by omega) (by omega);generalize hB2:jw B1 m.vendor=B2 at*;have n2:B2.length<=10000000:=by rw[<-hB2,dY];omega
  have u3:=kR B2 4 m.ver (by omega) (by omega) (by omega);rw[k4]at u3;generalize hB3:B2++bu 4 m.ver=B3 at*;have n3:B3.length<=10000004:=by rw[<-hB3,ah,dw];omega
  have u4:=kR B3 4 m.flr (by omega) (by omega) (by omega);rw[k4]at u4;generalize hB4:B3++bu 4 m.flr=B4 at*;have n4:B4.length<=10000008:=by rw[<-hB4,ah,dw];omega
  have u5:=kR B4 6 m.frm (by omega) (by omega) (by omega);rw[k6]at u5;generalize hB5:B4++bu 6 m.frm=B5 at*;have n5:B5.length<=10000014:=by rw[<-hB5,ah,dw];omega
  have u6:=kR B5 6 m.til (by omega) (by omega) (by omega);rw[k6]at u6;generalize hB6:B5++bu 6 m.til=B6 at*;have n6:B6.length<=10000020:=by rw[<-hB6,ah,dw];omega
  have u7:=kR B6 1 (m.ents.length:Int) (by omega) (by omega) (by omega);rw[k1]at u7;generalize hB7:B6++bu 1 (m.ents.length:Int)=B7 at*;have n7:B7.length<=10000021:=by rw[<-hB7,ah,dw];omega
  obtain⟨b,la⟩:=xjq m hm h16 _ 0 false B7 rfl (by omega) (by omega);have n8:=kP m.ents B7 hm.e;rw[aR,aB]at la;generalize m.ents.foldl pI B7=B8 at*;have u8:=kR B8 1 (m.ruls.length:Int) (by omega) (by omega) (by omega);rw[k1]at u8;generalize hB9:B8++bu 1 (m.ruls.length:Int)=B9 at*;have n9:B9.length<=10000022+16*2000007:=by rw[<-hB9,ah,dw];omega
  obtain⟨t',tk',ht,lb⟩:=xjp m b m.ruls hm.r h8 _ 0 64060 (tkB b) B9 (.inl ⟨rfl,rfl⟩) rfl (by omega) (by omega);rw[aR,aB]at lb;generalize m.ruls.foldl nW B9=B10 at*;obtain⟨mv,m1,m2,m3,m4,es,rs⟩:=m;simp only[Man.sv]at*;rw[am xbK];cases b with
  |false=>
   rcases ht with⟨rfl,rfl⟩|⟨rfl,rfl⟩
   ·simp only[tkA,tkB]at la lb
    simp only[go_sem,Qb,Qc,Qd,Qe,Qg,Qh,Qi,Qj,Qk,reduceCtorEq,reduceIte,g1,sm,u1,u2,u3,u4,u5,u6,u7,lc,mR,hel,la,u8,hrl,lb]
   ·simp only[tkA,tkB,tkC]at la lb
    simp only[go_sem,Qb,Qc,Qd,Qe,Qg,Qh,Qi,Qj,Qk,reduceCtorEq,reduceIte,g1,sm,u1,u2,u3,u4,u5,u6,u7,lc,mR,hel,la,u8,hrl,lb]
  |true=>
   rcases ht with⟨rfl,rfl⟩|⟨rfl,rfl⟩
   ·simp only[tkA,tkB]at la lb
    simp only[go_sem,Qb,Qc,Qd,Qe,Qg,Qh,Qi,Qj,Qk,reduceCtorEq,reduceIte,g1,sm,u1,u2,u3,u4,u5,u6,u7,lc,mR,hel,la,u8,hrl,lb]
   ·simp only[tkA,tkB,tkC]at la lb
    simp only[go_sem,Qb,Qc,Qd,Qe,Qg,Qh,Qi,Qj,Qk,reduceCtorEq,reduceIte,g1,sm,u1,u2,u3,u4,u5,u6,u7,lc,mR,hel,la,u8,hrl,lb]
 ·rw[if_neg hv]
  obtain⟨mv,m1,m2,m3,m4,es,rs⟩:=m;simp only[Man.sv]at*;rw[am xbK];simp only[go_sem,Qe,Qh,Qi,Qj,Qk,reduceCtorEq,reduceIte,g1,sm,hv]
def jX(m:Man):List UInt8:=if rZ m=[]then []else uB 21 (rZ m)
theorem wi(m:Man)(hm:eX m):(rZ m).length<=100000000:=by
 unfold rZ
 by_cases hv:lq m=0
 ·rw[if_pos hv]
  obtain⟨h16,h8⟩:=nM hv;have h1:=kP m.ents (hdM m) hm.e;have h2:=rX m.ruls (m.ents.foldl pI (hdM m)++bu 1 (m.ruls.length:Int)) hm.r
  have h3:(hdM m).length<=10000000:=by have:=hm.v;unfold hdM;simp only[ah,dY,dw,aQ];omega
  rw[ah,dw]at h2;omega
 ·rw[if_neg hv];exact bL _
theorem f59(m:Man)(hm:eX m):call T 59 [.agg m.sv] [] 0=some ⟨.byt (jX m) .no,[],[]⟩:=by
 have g1:=xoo m hm;have hl:=wi m hm;have g2:=xon 21 (rZ m) (by omega);obtain⟨mv,m1,m2,m3,m4,es,rs⟩:=m;unfold jX;simp only[Man.sv]at*;rw[am xo5];generalize rZ ⟨mv,m1,m2,m3,m4,es,rs⟩=E at*
 by_cases he:E=[]
 ·subst he
  simp only[go_sem,Qe,Qh,Qi,Qj,Qk,reduceCtorEq,reduceIte,g1,xb0]
 ·have hne:¬(E.length:Int)=0:=by
   intro h;exact he (bR.1 (by omega))
  rw[if_neg he];simp only[go_sem,Qe,Qh,Qi,Qj,Qk,reduceCtorEq,reduceIte,g1,xb0,hne,g2,xkG]
theorem xoz(v:Int):bM (Fj (bm.wrap v) (2^0))=bM v:=by
 rw[show(2:Int)^0=1 from rfl,Int.fdiv_one,cH];unfold bM
 congr 2
 omega
theorem rb(v:Int):bu 1 v=[bM v]:=by rw[<-xoz v];rfl
theorem Ft(B:List UInt8)(k:Nat)(v:Int)(h1:1<=k)(h8:k<=8)(hB:B.length<=10000000000000):
 call T 82 [.byt B .no,.int .i64 k,.int .i64 v] [] 0=some ⟨.byt (B++bu k v) (.id 60),[],[60]⟩:=f82 B k v h1 h8 hB
def tkR:Bool->Bool->List Nat
 |false,false=> [103,16060,20060,24060,28060]
 |true,false=> [103,16060,20060,24060,28060,61060]
 |false,true=> [103,16060,20060,24060,28060,97060]
 |true,true=> [103,16060,20060,24060,28060,61060,97060]
theorem xmV(m:Man)(hm:eX m)(b:Bool)(i:Nat)(hi:i<m.ents.length)(B:List UInt8)(hB:B.length<=1000000000):
 run T (.loop qO) ⟨[(1,.ptr 101 0),(3,.byt B (.id 103)),(4,.int .i64 i)],[(101,.rc m.sv)],tkR b false⟩=
 run T (.loop qO) ⟨[(1,.ptr 101 0),(3,.byt (pI B (m.ents.getD i en0)) (.id 103)),(4,.int .i64 ((i+1:Nat):Int))],[(101,.rc m.sv)],tkR true false⟩:=by
 have k4:((4:Nat):Int)=4:=rfl;have hen:=hm.en;have e1:=bV i (by omega);have hg:=fx m.ents i hi;have hel:=cT m.ents;obtain⟨hxn,hxd⟩:=hm.e _ (bG m.ents en0 i hi);clear hm;generalize m.ents.getD i en0=x at*;unfold pI;have n1:(B++bu 1 x.role).length<=1000000001:=by rw[ah,dw];omega
 have n0:B.length+1<=140737488355328:=by omega
 have u2:=f83 (B++bu 1 x.role) x.name (by omega) (by omega);have n2:(jw (B++bu 1 x.role) x.name).length<=1010000000:=by rw[dY];omega
 generalize jw (B++bu 1 x.role) x.name=B2 at*;rw[rb]at u2;have u3:=Ft B2 4 x.ver (by omega) (by omega) (by omega);rw[k4]at u3;have n3:(B2++bu 4 x.ver).length<=1010000004:=by rw[ah,dw];omega
 generalize B2++bu 4 x.ver=B3 at*;have n4:B3.length+x.dig.length<=140737488355328:=by omega
 obtain⟨mv,m1,m2,m3,m4,es,rs⟩:=m;obtain⟨x1,x2,x3,x4⟩:=x;simp only[Man.sv,Ent.sv]at*;cases b with
 |false=>rw[aj];simp only[tkR];simp only[go_sem,Qb,Qc,Qd,Qe,Qg,Qh,Qi,Qj,Qk,reduceCtorEq,reduceIte,hi,e1,hg,hel,n0,u2,u3,n4,Fx,Tx]
 |true=>rw[aj];simp only[tkR];simp only[go_sem,Qb,Qc,Qd,Qe,Qg,Qh,Qi,Qj,Qk,reduceCtorEq,reduceIte,hi,e1,hg,hel,n0,u2,u3,n4,Fx,Tx]
theorem xnr(m:Man)(hm:eX m)(h16:m.ents.length<=16):∀(n i:Nat)(b:Bool)(B:List UInt8),m.ents.length-i=n->i<=m.ents.length->B.length<=20000000+i*2000007->
 ∃b',run T (.loop qO) ⟨[(1,.ptr 101 0),(3,.byt B (.id 103)),(4,.int .i64 i)],[(101,.rc m.sv)],tkR b false⟩=
 some (.x 0,⟨[(1,.ptr 101 0),(3,.byt ((m.ents.drop i).foldl pI B) (.id 103))],[(101,.rc m.sv)],tkR b' false⟩):=by
 intro n;induction n with
 |zero=>
  intro i b B h0 h1 h2;have hel:=cT m.ents;have:i=m.ents.length:=by omega
  subst this;refine⟨b, ?_⟩;rw[aL,oS,aj];obtain⟨mv,m1,m2,m3,m4,es,rs⟩:=m;simp only[Man.sv]at*;cases b with
  |false=>simp only[tkR];simp only[go_sem,Qe,Qh,Qi,Qj,Qk,reduceIte,hel]
  |true=>simp only[tkR];simp only[go_sem,Qe,Qh,Qi,Qj,Qk,reduceIte,hel]
 |succ n ih=>
  intro i b B h0 h1 h2;have hi:i<m.ents.length:=by omega
  have hdr:m.ents.drop i=m.ents.getD i en0::m.ents.drop (i+1):=by rw[aU hi,aa,af hi];rfl
  obtain⟨hxn,hxd⟩:=hm.e _ (bG m.ents en0 i hi);have hl:=qB B (m.ents.getD i en0) hxn hxd;rw[xmV m hm b i hi B (by omega),hdr,cE];exact ih (i+1) true _ (by omega) (by omega) (by omega)
theorem xmU(m:Man)(hr:∀x∈m.ruls,x.text.length<=1000000)(hn:m.ruls.length<=1000000)(b c:Bool)(i:Nat)(hi:i<m.ruls.length)(B:List UInt8)(hB:B.length<=1000000000):
 run T (.loop qN) ⟨[(1,.ptr 101 0),(3,.byt B (.id 103)),(6,.int .i64 i)],[(101,.rc m.sv)],tkR b c⟩=
 run T (.loop qN) ⟨[(1,.ptr 101 0),(3,.byt (nW B (m.ruls.getD i rl0)) (.id 103)),(6,.int .i64 ((i+1:Nat):Int))],[(101,.rc m.sv)],tkR b true⟩:=by
 have k4:((4:Nat):Int)=4:=rfl;have e1:=bV i (by omega);have hg:=ja m.ruls i hi;have hel:=dP m.ruls;have hxn:=hr _ (bG m.ruls rl0 i hi);clear hr;generalize m.ruls.getD i rl0=x at*;unfold nW;have n1:(B++bu 1 x.kind).length<=1000000001:=by rw[ah,dw];omega
 have n0:B.length+1<=140737488355328:=by omega
 have u2:=f83 (B++bu 1 x.kind) x.text (by omega) (by omega);have n2:(jw (B++bu 1 x.kind) x.text).length<=1010000000:=by rw[dY];omega
 generalize jw (B++bu 1 x.kind) x.text=B2 at*;rw[rb]at u2;have u3:=Ft B2 4 x.lo (by omega) (by omega) (by omega);rw[k4]at u3;have n3:(B2++bu 4 x.lo).length<=1010000004:=by rw[ah,dw];omega
 generalize B2++bu 4 x.lo=B3 at*;have u4:=Ft B3 4 x.hi (by omega) (by omega) (by omega);rw[k4]at u4;obtain⟨mv,m1,m2,m3,m4,es,rs⟩:=m;obtain⟨x1,x2,x3,x4⟩:=x;simp only[Rul.sv,Man.sv]at*
 cases b<;>cases c<;>
  (rw[aj]
   simp only[tkR];simp only[go_sem,Qb,Qc,Qd,Qe,Qg,Qh,Qi,Qj,Qk,reduceCtorEq,reduceIte,hi,e1,hg,hel,n0,u2,u3,u4,Fx,Tx])
theorem xnq(m:Man)(hr:∀x∈m.ruls,x.text.length<=1000000)(hn:m.ruls.length<=8)(b:Bool):∀(n i:Nat)(c:Bool)(B:List UInt8),m.ruls.length-i=n->i<=m.ruls.length->B.length<=100000000+i*2000007->
 ∃c',run T (.loop qN) ⟨[(1,.ptr 101 0),(3,.byt B (.id 103)),(6,.int .i64 i)],[(101,.rc m.sv)],tkR b c⟩=
 some (.x 2,⟨[(3,.byt ((m.ruls.drop i).foldl nW B) (.id 103))],[(101,.rc m.sv)],tkR b c'⟩):=by
 intro n;induction n with
 |zero=>
  intro i c B h0 h1 h2;have hel:=dP m.ruls;have:i=m.ruls.length:=by omega
  subst this;refine⟨c, ?_⟩;rw[aL,oS,aj];obtain⟨mv,m1,m2,m3,m4,es,rs⟩:=m;simp only[Man.sv]at*;cases b<;>cases c<;>(simp only[tkR];simp only[go_sem,Qe,Qh,Qj,Qk,reduceIte,hel])
 |succ n ih=>
  intro i c B h0 h1 h2;have hi:i<m.ruls.length:=by omega
  have hdr:m.ruls.drop i=m.ruls.getD i rl0::m.ruls.drop (i+1):=by rw[aU hi,aa,af hi];rfl
  have hl:=qa B (m.ruls.getD i rl0) (hr _ (bG m.ruls rl0 i hi));rw[xmU m hr (by omega) b c i hi B (by omega),hdr,cE];exact ih (i+1) true _ (by omega) (by omega) (by omega)
theorem f66(m:Man)(hm:eX m):call T 66 [.agg m.sv] [] 0=some ⟨.byt (rZ m) .no,[],[]⟩:=by
 have g1:=f54 m hm;have k4:((4:Nat):Int)=4:=rfl;have k6:((6:Nat):Int)=6:=rfl;have hvl:=hm.v;have hrn:=hm.rn;have hel:=cT m.ents;have hrl:=dP m.ruls;unfold rZ
 by_cases hv:lq m=0
 ·obtain⟨h16,h8⟩:=nM hv
  rw[hv]at g1;rw[if_pos hv];unfold hdM;have b21:bu 1 21=[21]:=by rw[rb];rfl
  have u2:=f83 [21] m.vendor (by simp) (by omega);rw[b21,bw];generalize hB2:jw [21] m.vendor=B2 at*;have n2:B2.length<=10000000:=by rw[<-hB2,dY];simp;omega
  have u3:=Ft B2 4 m.ver (by omega) (by omega) (by omega);rw[k4]at u3;generalize hB3:B2++bu 4 m.ver=B3 at*;have n3:B3.length<=10000004:=by rw[<-hB3,ah,dw];omega
  have u4:=Ft B3 4 m.flr (by omega) (by omega) (by omega);rw[k4]at u4;generalize hB4:B3++bu 4 m.flr=B4 at*;have n4:B4.length<=10000008:=by rw[<-hB4,ah,dw];omega
  have u5:=Ft B4 6 m.frm (by omega) (by omega) (by omega);rw[k6]at u5;generalize hB5:B4++bu 6 m.frm=B5 at*;have n5:B5.length<=10000014:=by rw[<-hB5,ah,dw];omega
  have u6:=Ft B5 6 m.til (by omega) (by omega) (by omega);rw[k6]at u6;generalize hB6:B5++bu 6 m.til=B6 at*;have n6:B6.length<=10000020:=by rw[<-hB6,ah,dw];omega
  have r6:B6.length+1<=140737488355328:=by omega
  have n7:(B6++bu 1 (m.ents.length:Int)).length<=10000021:=by rw[ah,dw];omega
  obtain⟨b,la⟩:=xnr m hm h16 _ 0 false (B6++bu 1 (m.ents.length:Int)) rfl (by omega) (by omega);have n8:=kP m.ents (B6++bu 1 (m.ents.length:Int)) hm.e;rw[aR,aB]at la;generalize m.ents.foldl pI (B6++bu 1 (m.ents.length:Int))=B8 at*;rw[rb]at la;have r8:B8.length+1<=140737488355328:=by omega
  have n9:(B8++bu 1 (m.ruls.length:Int)).length<=10000022+16*2000007:=by rw[ah,dw];omega
  obtain⟨c,lb⟩:=xnq m hm.r h8 b _ 0 false (B8++bu 1 (m.ruls.length:Int)) rfl (by omega) (by omega);rw[aR,aB]at lb;generalize m.ruls.foldl nW (B8++bu 1 (m.ruls.length:Int))=B10 at*;rw[rb]at lb;obtain⟨mv,m1,m2,m3,m4,es,rs⟩:=m;simp only[Man.sv]at*;rw[am xmt]
  cases b<;>cases c<;>
   (simp only[tkR]at la lb
    simp only[go_sem,Qe,Qg,Qh,Qi,Qj,Qk,reduceCtorEq,reduceIte,g1,wA,u2,u3,u4,u5,u6,Fx,Tx,hel,r6,la,r8,hrl,lb])
 ·rw[if_neg hv]
  obtain⟨mv,m1,m2,m3,m4,es,rs⟩:=m;simp only[Man.sv]at*;rw[am xmt];simp only[go_sem,Qe,Qh,Qi,Qj,Qk,reduceCtorEq,reduceIte,g1,wA,hv]
theorem f26(m:Man)(hm:eX m):call T 26 [.agg m.sv] [] 0=some ⟨.byt (jX m) .no,[],[]⟩:=by
 have g1:=f66 m hm;have hl:=wi m hm;have g2:=f67 21 (rZ m) (by omega);obtain⟨mv,m1,m2,m3,m4,es,rs⟩:=m;unfold jX;simp only[Man.sv]at*;rw[am xpx];generalize rZ ⟨mv,m1,m2,m3,m4,es,rs⟩=E at*
 by_cases he:E=[]
 ·subst he
  simp only[go_sem,Qe,Qh,Qi,Qj,Qk,reduceCtorEq,reduceIte,g1,xmB]
 ·have hne:¬(E.length:Int)=0:=by
   intro h;exact he (bR.1 (by omega))
  rw[if_neg he];simp only[go_sem,Qe,Qh,Qi,Qj,Qk,reduceCtorEq,reduceIte,g1,xmB,hne,g2,xpS]
theorem f87(a:Int)(ha:lA a)(b0 b1:UInt8):∃d0 d1:List UInt8,d0.length<=100/\d1.length<=100/\
 call T 87 [.int .i64 a,.byt [b0,b1] .no] [] 0=some ⟨.lst 1 (bls [d0,d1]) .no,[],[]⟩:=by
 have k1:ai.wrap 1=1:=rfl;have k2:ai.wrap 2=2:=rfl;have k12:ai.wrap 12=12:=rfl;have k20:ai.wrap 20=20:=rfl;have k32:ai.wrap 32=32:=rfl;have k31:ai.wrap 31=31:=rfl;have k19:ai.wrap 19=19:=rfl;have k0:ai.wrap 0=0:=rfl;have x0:(0:UInt8)^^^bM 0=0:=by decide
 have x1:(0:UInt8)^^^bM 1=1:=by decide
 have t0:bm.wrap 0=0:=rfl;have t1:bm.wrap 1=1:=rfl;have s10:bC .and .i64 (Fj 1 (2^min 0 64)) 1=1:=rfl;have s20:bC .and .i64 (Fj 2 (2^min 0 64)) 1=0:=rfl;have s30:bC .and .i64 (Fj 3 (2^min 0 64)) 1=1:=rfl;have s11:bC .and .i64 (Fj 1 (2^min 1 64)) 1=0:=rfl;have s21:bC .and .i64 (Fj 2 (2^min 1 64)) 1=1:=rfl;have s31:bC .and .i64 (Fj 3 (2^min 1 64)) 1=1:=rfl;have ha':=ha;unfold lA at ha';rcases ha' with rfl|rfl|rfl
 ·refine⟨[b0,b1,0,0,0,0,0,0,0,0,0,0,0,0,0,0,0,0,0,0],[],by simp,by simp, ?_⟩
  rw[am xgw];simp only[go_sem,Q2,Q3,Qa,Qe,Qh,Qi,Qj,Qk,reduceCtorEq,reduceIte,aq]
  iterate 3
   rw[aj];simp only[go_sem,Q2,Q3,Q4,Q5,Q8,Q9,Qa,Qe,Qh,Qi,Qj,Qk,reduceCtorEq,reduceIte,k0,k1,k2,x0,x1,k12,k19,k31,k20,k32,t0,t1,s10,s11,eH,aq,bls]
 ·refine⟨[],[b0,b1,0,0,0,0,0,0,0,0,0,0,0,0,0,0,0,0,0,0,0,0,0,0,0,0,0,0,0,0,0,1],by simp,by simp, ?_⟩
  rw[am xgw];simp only[go_sem,Q2,Q3,Qa,Qe,Qh,Qi,Qj,Qk,reduceCtorEq,reduceIte,aq]
  iterate 3
   rw[aj];simp only[go_sem,Q2,Q3,Q4,Q5,Q8,Q9,Qa,Qe,Qh,Qi,Qj,Qk,reduceCtorEq,reduceIte,k0,k1,k2,x0,x1,k12,k19,k31,k20,k32,t0,t1,s20,s21,eH,aq,bls]
 ·refine⟨[b0,b1,0,0,0,0,0,0,0,0,0,0,0,0,0,0,0,0,0,0],[b0,b1,0,0,0,0,0,0,0,0,0,0,0,0,0,0,0,0,0,0,0,0,0,0,0,0,0,0,0,0,0,1],by simp,by simp, ?_⟩
  rw[am xgw];simp only[go_sem,Q2,Q3,Qa,Qe,Qh,Qi,Qj,Qk,reduceCtorEq,reduceIte,aq]
  iterate 3
   rw[aj];simp only[go_sem,Q2,Q3,Q4,Q8,Q9,Qa,Qe,Qh,Qi,Qj,Qk,reduceCtorEq,reduceIte,k0,k1,k2,x0,x1,k12,k19,k31,k20,k32,t0,t1,s30,s31,eH,aq,bls]
theorem eU(B:List UInt8)(hB:B.length<=1000)(j n:Nat)(hn:0<n):∃v j':Nat,v<n/\call T 37 [.ptr 0 0,.int .i64 (n:Int)] [aI B j] 0=some ⟨.int .i64 (v:Int),[(0,aI B j')],[]⟩:=
 ⟨dz B j n,cg B j,dH B j n hn,f37 B j n hn (by omega)⟩
theorem vM(v:Nat):1<=(gh v).length/\(gh v).length<=8:=by unfold gh;split<;>decide
theorem xng(B:List UInt8)(hB:B.length<=1000)(j:Nat):∃(d:List UInt8)(j':Nat),1<=d.length/\d.length<=8/\call T 86 [.ptr 0 0] [aI B j] 0=some ⟨.byt d .no,[(0,aI B j')],[]⟩:=
 ⟨_,cg B j,(vM _).1,(vM _).2,f86 B j hB⟩
structure EvS(e:Ev):Prop where
 d2:e.dg.length=2
 b:e.data.length<=1000
 d0:(e.dg.getD 0 []).length<=1000
 d1:(e.dg.getD 1 []).length<=1000
theorem dU(r k a:Int)(d:List UInt8):(mkV r k a d).sv=[.int .i64 r,.int .i64 k,.lst 1 (bls (mkV r k a d).dg) .no,.byt d .no]:=rfl
theorem lM(r k a:Int)(d:List UInt8)(h:d.length<=1000):EvS (mkV r k a d):=by
 have e1:=vo d;have e2:=fQ d
 by_cases hk:k=5
 ·refine⟨?_,h, ?_, ?_⟩<;>simp only[mkV,hk,if_true]<;>decide
 ·refine⟨?_,h, ?_, ?_⟩<;>simp only[mkV,hk,if_false]
  ·rfl
  ·rw[bc]
   split
   ·omega
   ·exact bL _
  ·rw[bh,bc]
   split
   ·omega
   ·exact bL _
theorem HJ:∀v,v<8->∃r:Int,([[SV.int ai 0],[SV.int ai 0],[SV.int ai 4],[SV.int ai 8],[SV.int ai 9],[SV.int ai 9],[SV.int ai 1],[SV.int ai 11]]:List (List SV)).getD v []=[.int .i64 r]
 |0,_=>⟨_,rfl⟩
 |1,_=>⟨_,rfl⟩
 |2,_=>⟨_,rfl⟩
 |3,_=>⟨_,rfl⟩
 |4,_=>⟨_,rfl⟩
 |5,_=>⟨_,rfl⟩
 |6,_=>⟨_,rfl⟩
 |7,_=>⟨_,rfl⟩
 |n+8,h=>absurd h (by omega)
theorem f38(B:List UInt8)(hB:B.length<=1000)(j:Nat)(a:Int)(ha:lA a):∃(e:Ev)(j':Nat),EvS e/\call T 38 [.ptr 0 0,.int .i64 a] [aI B j] 0=some ⟨.agg e.sv,[(0,aI B j')],[]⟩:=by
 obtain⟨d,j1,hd1,hd8,g1⟩:=xng B hB j;obtain⟨v2,j2,h2,g2⟩:=eU B hB j1 4 (by omega);rw[cz4]at g2;simp only[aI]at g1 g2
 by_cases p2:v2=3
 ·have n2:(v2:Int)=3:=by omega
  obtain⟨v9,j9,h9,g0⟩:=eU B hB j2 2 (by omega);rw[c2]at g0;have l9:v9<=d.length:=by omega
  simp only[aI]at g0;obtain⟨v3,j3,h3,g3⟩:=eU B hB j9 5 (by omega);rw[cz5]at g3;obtain⟨v4,j4,h4,g4⟩:=eU B hB j3 8 (by omega);rw[c8]at g4;obtain⟨r,hr⟩:=HJ v4 h4;obtain⟨k,hk⟩:∃k:Int,k=1+(v3:Int):=⟨_,rfl⟩;have e1:ai.wrap (1+(v3:Int))=k:=by rw[hk,w64 (by omega) (by omega)]
  have hv4:(v4:Int)<8:=by omega
  simp only[aI]at g3 g4
  by_cases p3:k=2
  ·subst p3
   obtain⟨v5,j5,h5,g5⟩:=eU B hB j4 4 (by omega);rw[cz4]at g5;simp only[aI]at g5
   by_cases p5:0<v5
   ·have p5':(0:Int)<(v5:Int):=by omega
    obtain⟨v6,j6,h6,g6⟩:=eU B hB j5 8 (by omega);rw[c8]at g6;simp only[aI]at g6;have gm:=f76 (v6:Int) 2 a [0,0,0,0] ha (by decide);obtain⟨v7,j7,h7,g7⟩:=eU B hB j6 4 (by omega);rw[cz4]at g7;simp only[aI]at g7
    by_cases p7:v7=3
    ·have p7':(v7:Int)=3:=by omega
     obtain⟨v8,j8,h8,g8⟩:=eU B hB j7 4 (by omega);rw[cz4]at g8;simp only[aI]at g8;obtain⟨d0,d1,m0,m1,g9⟩:=f87 a ha (bM (v8:Int)) (bM 2);refine⟨⟨(v6:Int),2,[d0,d1],[0,0,0,0]⟩,j8,⟨rfl,Nat.le_of_ble_eq_true rfl,cr m0 (by decide),cr m1 (by decide)⟩, ?_⟩;rw[am pS];rw[dU]at gm;simp only[Ev.sv];simp only[aI]at gm ⊢;simp only[go_sem,Q2,Q3,Q5,Qe,Qg,Qh,Qi,Qj,Qk,reduceCtorEq,reduceIte,oi,eI,ny,O9,g1,g2,n2,g0,l9,g3,e1,g4,hv4,hr,g5,p5',g6,g7,p7',g8,g9,gm]
    ·have p7':¬(v7:Int)=3:=by omega
     refine⟨mkV (v6:Int) 2 a [0,0,0,0],j7,lM _ _ _ _ (Nat.le_of_ble_eq_true rfl), ?_⟩;rw[am pS];rw[dU]at gm;rw[dU];simp only[aI]at gm ⊢;simp only[go_sem,Q2,Q3,Q5,Qe,Qg,Qh,Qi,Qj,Qk,reduceCtorEq,reduceIte,oi,eI,ny,g1,g2,n2,g0,l9,g3,e1,g4,hv4,hr,g5,p5',g6,g7,p7',gm]
   ·have p5':¬(0:Int)<(v5:Int):=by omega
    have gm:=f76 r 2 a (d.take v9) ha (by rw[ay];omega);obtain⟨v7,j7,h7,g7⟩:=eU B hB j5 4 (by omega);rw[cz4]at g7;simp only[aI]at g7
    by_cases p7:v7=3
    ·have p7':(v7:Int)=3:=by omega
     obtain⟨v8,j8,h8,g8⟩:=eU B hB j7 4 (by omega);rw[cz4]at g8;simp only[aI]at g8;obtain⟨d0,d1,m0,m1,g9⟩:=f87 a ha (bM (v8:Int)) (bM 2);refine⟨⟨r,2,[d0,d1],(d.take v9)⟩,j8,⟨rfl,by rw[ay];omega,cr m0 (by decide),cr m1 (by decide)⟩, ?_⟩;rw[am pS];rw[dU]at gm;simp only[Ev.sv];simp only[aI]at gm ⊢;simp only[go_sem,Q2,Q3,Q5,Qe,Qg,Qh,Qi,Qj,Qk,reduceCtorEq,reduceIte,oi,eI,ny,O9,g1,g2,n2,g0,l9,g3,e1,g4,hv4,hr,g5,p5',g7,p7',g8,g9,gm]
    ·have p7':¬(v7:Int)=3:=by omega
     refine⟨mkV r 2 a (d.take v9),j7,lM _ _ _ _ (by rw[ay];omega), ?_⟩;rw[am pS];rw[dU]at gm;rw[dU];simp only[aI]at gm ⊢;simp only[go_sem,Q2,Q3,Q5,Qe,Qg,Qh,Qi,Qj,Qk,reduceCtorEq,reduceIte,oi,eI,ny,g1,g2,n2,g0,l9,g3,e1,g4,hv4,hr,g5,p5',g7,p7',gm]
  ·have gm:=f76 r k a (d.take v9) ha (by rw[ay];omega)
   by_cases p5:k=5
   ·subst p5
    refine⟨mkV r 5 a (d.take v9),j4,lM _ _ _ _ (by rw[ay];omega), ?_⟩;rw[am pS];rw[dU]at gm;rw[dU];simp only[aI]at gm ⊢;simp only[go_sem,Q2,Q3,Q5,Qe,Qg,Qh,Qi,Qj,Qk,reduceCtorEq,reduceIte,oi,eI,ny,g1,g2,n2,g0,l9,g3,e1,g4,hv4,hr,gm]
   ·skip
    obtain⟨v7,j7,h7,g7⟩:=eU B hB j4 4 (by omega);rw[cz4]at g7;simp only[aI]at g7
    by_cases p7:v7=3
    ·have p7':(v7:Int)=3:=by omega
     obtain⟨v8,j8,h8,g8⟩:=eU B hB j7 4 (by omega);rw[cz4]at g8;simp only[aI]at g8;obtain⟨d0,d1,m0,m1,g9⟩:=f87 a ha (bM (v8:Int)) (bM k);refine⟨⟨r,k,[d0,d1],(d.take v9)⟩,j8,⟨rfl,by rw[ay];omega,cr m0 (by decide),cr m1 (by decide)⟩, ?_⟩;rw[am pS];rw[dU]at gm;simp only[Ev.sv];simp only[aI]at gm ⊢;simp only[go_sem,Q2,Q3,Q4,Qe,Qg,Qh,Qi,Qj,Qk,reduceCtorEq,reduceIte,oi,eI,ny,O9,g1,g2,n2,g0,l9,g3,e1,g4,hv4,hr,p3,p5,g7,p7',g8,g9,gm]
    ·have p7':¬(v7:Int)=3:=by omega
     refine⟨mkV r k a (d.take v9),j7,lM _ _ _ _ (by rw[ay];omega), ?_⟩;rw[am pS];rw[dU]at gm;rw[dU];simp only[aI]at gm ⊢;simp only[go_sem,Q2,Q3,Qe,Qg,Qh,Qi,Qj,Qk,reduceCtorEq,reduceIte,oi,eI,ny,g1,g2,n2,g0,l9,g3,e1,g4,hv4,hr,p3,p5,g7,p7',gm]
 ·have n2:¬(v2:Int)=3:=by omega
  obtain⟨v3,j3,h3,g3⟩:=eU B hB j2 5 (by omega);rw[cz5]at g3;obtain⟨v4,j4,h4,g4⟩:=eU B hB j3 8 (by omega);rw[c8]at g4;obtain⟨r,hr⟩:=HJ v4 h4;obtain⟨k,hk⟩:∃k:Int,k=1+(v3:Int):=⟨_,rfl⟩;have e1:ai.wrap (1+(v3:Int))=k:=by rw[hk,w64 (by omega) (by omega)]
  have hv4:(v4:Int)<8:=by omega
  simp only[aI]at g3 g4
  by_cases p3:k=2
  ·subst p3
   obtain⟨v5,j5,h5,g5⟩:=eU B hB j4 4 (by omega);rw[cz4]at g5;simp only[aI]at g5
   by_cases p5:0<v5
   ·have p5':(0:Int)<(v5:Int):=by omega
    obtain⟨v6,j6,h6,g6⟩:=eU B hB j5 8 (by omega);rw[c8]at g6;simp only[aI]at g6;have gm:=f76 (v6:Int) 2 a [0,0,0,0] ha (by decide);obtain⟨v7,j7,h7,g7⟩:=eU B hB j6 4 (by omega);rw[cz4]at g7;simp only[aI]at g7
    by_cases p7:v7=3
    ·have p7':(v7:Int)=3:=by omega
     obtain⟨v8,j8,h8,g8⟩:=eU B hB j7 4 (by omega);rw[cz4]at g8;simp only[aI]at g8;obtain⟨d0,d1,m0,m1,g9⟩:=f87 a ha (bM (v8:Int)) (bM 2);refine⟨⟨(v6:Int),2,[d0,d1],[0,0,0,0]⟩,j8,⟨rfl,Nat.le_of_ble_eq_true rfl,cr m0 (by decide),cr m1 (by decide)⟩, ?_⟩;rw[am pS];rw[dU]at gm;simp only[Ev.sv];simp only[aI]at gm ⊢;simp only[go_sem,Q5,Qe,Qg,Qh,Qi,Qj,Qk,reduceCtorEq,reduceIte,oi,eI,ny,O9,g1,g2,n2,g3,e1,g4,hv4,hr,g5,p5',g6,g7,p7',g8,g9,gm]
    ·have p7':¬(v7:Int)=3:=by omega
     refine⟨mkV (v6:Int) 2 a [0,0,0,0],j7,lM _ _ _ _ (Nat.le_of_ble_eq_true rfl), ?_⟩;rw[am pS];rw[dU]at gm;rw[dU];simp only[aI]at gm ⊢;simp only[go_sem,Q5,Qe,Qg,Qh,Qi,Qj,Qk,reduceCtorEq,reduceIte,oi,eI,ny,g1,g2,n2,g3,e1,g4,hv4,hr,g5,p5',g6,g7,p7',gm]
   ·have p5':¬(0:Int)<(v5:Int):=by omega
    have gm:=f76 r 2 a d ha (by show d.length<=_;omega);obtain⟨v7,j7,h7,g7⟩:=eU B hB j5 4 (by omega);rw[cz4]at g7;simp only[aI]at g7
    by_cases p7:v7=3
    ·have p7':(v7:Int)=3:=by omega
     obtain⟨v8,j8,h8,g8⟩:=eU B hB j7 4 (by omega);rw[cz4]at g8;simp only[aI]at g8;obtain⟨d0,d1,m0,m1,g9⟩:=f87 a ha (bM (v8:Int)) (bM 2);refine⟨⟨r,2,[d0,d1],d⟩,j8,⟨rfl,by show d.length<=_;omega,cr m0 (by decide),cr m1 (by decide)⟩, ?_⟩;rw[am pS];rw[dU]at gm;simp only[Ev.sv];simp only[aI]at gm ⊢;simp only[go_sem,Q5,Qe,Qg,Qh,Qi,Qj,Qk,reduceCtorEq,reduceIte,oi,eI,ny,O9,g1,g2,n2,g3,e1,g4,hv4,hr,g5,p5',g7,p7',g8,g9,gm]
    ·have p7':¬(v7:Int)=3:=by omega
     refine⟨mkV r 2 a d,j7,lM _ _ _ _ (by show d.length<=_;omega), ?_⟩;rw[am pS];rw[dU]at gm;rw[dU];simp only[aI]at gm ⊢;simp only[go_sem,Q5,Qe,Qg,Qh,Qi,Qj,Qk,reduceCtorEq,reduceIte,oi,eI,ny,g1,g2,n2,g3,e1,g4,hv4,hr,g5,p5',g7,p7',gm]
  ·have gm:=f76 r k a d ha (by show d.length<=_;omega)
   by_cases p5:k=5
   ·subst p5
    refine⟨mkV r 5 a d,j4,lM _ _ _ _ (by show d.length<=_;omega), ?_⟩;rw[am pS];rw[dU]at gm;rw[dU];simp only[aI]at gm ⊢;simp only[go_sem,Q5,Qe,Qg,Qh,Qi,Qj,Qk,reduceCtorEq,reduceIte,oi,eI,ny,g1,g2,n2,g3,e1,g4,hv4,hr,gm]
   ·skip
    obtain⟨v7,j7,h7,g7⟩:=eU B hB j4 4 (by omega);rw[cz4]at g7;simp only[aI]at g7
    by_cases p7:v7=3
    ·have p7':(v7:Int)=3:=by omega
     obtain⟨v8,j8,h8,g8⟩:=eU B hB j7 4 (by omega);rw[cz4]at g8;simp only[aI]at g8;obtain⟨d0,d1,m0,m1,g9⟩:=f87 a ha (bM (v8:Int)) (bM k);refine⟨⟨r,k,[d0,d1],d⟩,j8,⟨rfl,by show d.length<=_;omega,cr m0 (by decide),cr m1 (by decide)⟩, ?_⟩;rw[am pS];rw[dU]at gm;simp only[Ev.sv];simp only[aI]at gm ⊢;simp only[go_sem,Q4,Qe,Qg,Qh,Qi,Qj,Qk,reduceCtorEq,reduceIte,oi,eI,ny,O9,g1,g2,n2,g3,e1,g4,hv4,hr,p3,p5,g7,p7',g8,g9,gm]
    ·have p7':¬(v7:Int)=3:=by omega
     refine⟨mkV r k a d,j7,lM _ _ _ _ (by show d.length<=_;omega), ?_⟩;rw[am pS];rw[dU]at gm;rw[dU];simp only[aI]at gm ⊢;simp only[go_sem,Qe,Qg,Qh,Qi,Qj,Qk,reduceCtorEq,reduceIte,oi,eI,ny,g1,g2,n2,g3,e1,g4,hv4,hr,p3,p5,g7,p7',gm]
theorem Eo(l:List Ev)(x:Ev):bD l++ [x.sv]=bD (l++ [x]):=by rw[bD,bD,bx];rfl
theorem kF{α:Type}{P:α->Prop}{l:List α}{x:α}(h:∀e,e∈l->P e)(hx:P x):∀e,e∈l++ [x]->P e:=by
 intro e he;rcases an.mp he with h1|h1
 ·exact h e h1
 ·rw[bp.mp h1];exact hx
theorem l85(B:List UInt8)(hB:B.length<=1000)(a:Int)(ha:lA a):∀(n:Nat)(l:List Ev)(j:Nat),14-l.length=n->l.length<=14->(∀e,e∈l->EvS e)->
 ∃(l':List Ev)(j':Nat),l'.length<=14/\(∀e,e∈l'->EvS e)/\
 run T (.loop Pz) ⟨[(0,.ptr 0 0),(1,.int .i64 a),(2,.int .i64 14),(7,.lst 4 (bD l) (.id 107))],[(0,aI B j)],[107]⟩=
  some (.x 0,⟨[(7,.lst 4 (bD l') (.id 107))],[(0,aI B j')],[107]⟩):=by
 intro n;induction n with
 |zero=>
  intro l j h0 h1 h2;have:l.length=14:=by omega
  have hv:(bD l).length=14:=by rw[bZ];exact this
  refine⟨l,j,h1,h2, ?_⟩;have g:=xmd B j;rw[aj]
  by_cases q:j<B.length
  ·rw[decide_eq_true q]at g
   simp only[aI]at g ⊢;simp only[go_sem,Q4,Qe,Qg,Qh,Qi,Qj,Qk,reduceCtorEq,reduceIte,g,Fe,hv]
  ·rw[decide_eq_false q]at g
   simp only[aI]at g ⊢;simp only[go_sem,Qe,Qg,Qh,Qi,Qj,Qk,reduceCtorEq,reduceIte,g,Fe]
 |succ n ih=>
  intro l j h0 h1 h2;have hv:=bZ l;have g:=xmd B j;have c14:(l.length:Int)<14:=by omega
  have c1:(l.length+1)*64<=140737488355328:=by omega
  by_cases q:j<B.length
  ·rw[decide_eq_true q]at g
   obtain⟨e,j1,he,ge⟩:=f38 B hB j a ha;obtain⟨l',j',q1,q2,q3⟩:=ih (l++ [e]) j1 (by rw[ah,aD];omega) (by rw[ah,aD];omega) (kF h2 he);refine⟨l',j',q1,q2, ?_⟩;rw[aj];obtain⟨e1,e2,e3,e4⟩:=e;rw[<-Eo]at q3;simp only[aI,Ev.sv]at g ge q3 ⊢;simp only[go_sem,Qe,Qg,Qh,Qi,Qj,Qk,reduceCtorEq,reduceIte,g,Fe,hv,c14,ge,xgI,c1,q3]
  ·rw[decide_eq_false q]at g
   refine⟨l,j,h1,h2, ?_⟩;rw[aj];simp only[aI]at g ⊢;simp only[go_sem,Qe,Qg,Qh,Qi,Qj,Qk,reduceCtorEq,reduceIte,g,Fe]
theorem f85(B:List UInt8)(hB:B.length<=1000)(j:Nat)(a:Int)(ha:lA a):∃(l:List Ev)(j':Nat),l.length<=14/\(∀e,e∈l->EvS e)/\
 call T 85 [.ptr 0 0,.int .i64 a,.int .i64 14] [aI B j] 0=some ⟨.lst 4 (bD l) .no,[(0,aI B j')],[]⟩:=by
 obtain⟨l',j',q1,q2,q3⟩:=l85 B hB a ha 14 [] j rfl (bL _) (fun e he=>absurd he (by simp));refine⟨l',j',q1,q2, ?_⟩;rw[show bD []=[]from rfl]at q3;rw[am xoP];simp only[aI]at q3 ⊢;simp only[go_sem,Qe,Qh,Qi,Qj,Qk,reduceCtorEq,reduceIte,q3]
theorem ip{α:Type}{P:α->Prop}{l r:List α}(h:∀e,e∈l->P e)(hr:∀e,e∈r->P e):∀e,e∈l++r->P e:=by
 intro e he;rcases an.mp he with h1|h1
 ·exact h e h1
 ·exact hr e h1
theorem Dg{α:Type}{P:α->Prop}{l:List α}{i:Nat}{x:α}(h:∀e,e∈l->P e)(hx:P x):∀e,e∈l.set i x->P e:=by
 intro e he;rcases List.mem_or_eq_of_mem_set he with h1|h1
 ·exact h e h1
 ·rw[h1];exact hx
theorem l36(B:List UInt8)(hB:B.length<=1000)(a:Int)(ha:lA a)(u:Int):∀(n:Nat)(l:List Ev)(j:Nat),n+1<=l.length->l.length+n<=200->(∀e,e∈l->EvS e)->
 ∃(l':List Ev)(j':Nat),l'.length<=200/\(∀e,e∈l'->EvS e)/\
 run T (.loop yL) ⟨[(1,.int .i64 a),(6,.ptr 106 0),(7,.ptr 15100 0),(8,.ptr 108 0),(10,.int .i64 (n:Int))],[(106,.rc [.int .i64 0,.int .i64 0,.lst 4 [] .clip]),(108,.rc [.int .i64 a,.int .i64 u,.lst 4 (bD l) .no]),(15100,aI B j)],[]⟩=
  some (.x 0,⟨[(6,.ptr 106 0),(8,.ptr 108 0)],[(106,.rc [.int .i64 0,.int .i64 0,.lst 4 [] .clip]),(108,.rc [.int .i64 a,.int .i64 u,.lst 4 (bD l') .no]),(15100,aI B j')],[]⟩):=by
 intro n;induction n with
 |zero=>intro l j h0 h1 h2;refine⟨l,j,by omega,h2, ?_⟩;rw[aj];simp only[aI];simp only[go_sem,Q4,Qh,Qj,Qk,reduceIte]
 |succ n ih=>
  intro l j h0 h1 h2;have hv:=bZ l;have hp:(0:Int)<((n+1:Nat):Int):=by omega
  have e1:ai.wrap (((n+1:Nat):Int)-1)=(n:Int):=wZ (by omega)
  obtain⟨v1,j1,k1,g1⟩:=eU B hB j l.length (by omega);obtain⟨v2,j2,k2,g2⟩:=eU B hB j1 5 (by omega);rw[cz5]at g2;simp only[aI]at g1 g2;have k1':v1<=l.length:=by omega
  have k1i:(v1:Int)<(l.length:Int):=by omega
  have hs:v1+1<=l.length:=by omega
  have e2:ai.wrap ((v1:Int)+1)=((v1+1:Nat):Int):=wZ (by omega)
  have tf:cj l.length (bD l)=bD l:=by rw[<-hv,bo]
  obtain⟨A,hA⟩:∃A,A=l.take v1:=⟨_,rfl⟩;obtain⟨C,hC⟩:∃C,C=l.drop (v1+1):=⟨_,rfl⟩;obtain⟨D,hD⟩:∃D,D=l.drop v1:=⟨_,rfl⟩;have tA:cj v1 (bD l)=bD A:=by rw[hA,bD,bD,lC]
  have tC:eQ (v1+1) (bD l)=bD C:=by rw[hC,bD,bD,List.map_drop]
  have tD:eQ v1 (bD l)=bD D:=by rw[hD,bD,bD,List.map_drop]
  have nA:A.length=v1:=by rw[hA,ay];omega
  have nC:C.length=l.length-(v1+1):=by rw[hC,aE]
  have nD:D.length=l.length-v1:=by rw[hD,aE]
  have vA:(bD A).length=v1:=by rw[bZ,nA]
  have vC:(bD C).length=l.length-(v1+1):=by rw[bZ,nC]
  have vD:(bD D).length=l.length-v1:=by rw[bZ,nD]
  have sA:∀e,e∈A->EvS e:=fun e he=>h2 e (by rw[hA]at he;exact bW he)
  have sC:∀e,e∈C->EvS e:=fun e he=>h2 e (by rw[hC]at he;exact dy he)
  have sD:∀e,e∈D->EvS e:=fun e he=>h2 e (by rw[hD]at he;exact dy he)
  have eAC:bD A++bD C=bD (A++C):=by rw[bD,bD,bD,bx]
  have hc:v2=0\/v2=1\/v2=2\/v2=3\/v2=4:=by omega
  rcases hc with rfl|rfl|rfl|rfl|rfl
  ·obtain⟨l',j',q1,q2,q3⟩:=ih (A++C) j2 (by rw[ah];omega) (by rw[ah];omega) (ip sA sC)
   refine⟨l',j',q1,q2, ?_⟩;have b1:v1*64<=140737488355328:=by omega
   have b2:(v1+(l.length-(v1+1)))*64<=140737488355328:=by omega
   rw[<-eAC]at q3;rw[aj];simp only[aI]at q3 ⊢;simp only[go_sem,Q2,Q3,Q5,Qb,Qc,Qd,Qe,Qg,Qh,Qi,Qj,Qk,reduceCtorEq,reduceIte,hp,hv,g1,eI,g2,k1,k1',e2,hs,tf,tA,tC,vA,vC,b1,b2,e1,q3]
  ·obtain⟨x,hx⟩:∃x,x=l.getD v1 ⟨0,0,[],[]⟩:=⟨_,rfl⟩
   have sx:EvS x:=h2 x (by rw[hx,aa,af k1];exact bj _);have hg:(bD l).getD v1 []=x.sv:=by rw[mN l v1 k1,hx]
   obtain⟨l',j',q1,q2,q3⟩:=ih (A++ [x]++D) j2 (by simp only[ah,aD];omega) (by simp only[ah,aD];omega) (ip (kF sA sx) sD);refine⟨l',j',q1,q2, ?_⟩;have b1:v1*64<=140737488355328:=by omega
   have b3:(v1+1)*64<=140737488355328:=by omega
   have b2:(v1+(1+(l.length-v1)))*64<=140737488355328:=by omega
   have b4:(v1+1+(l.length-v1))*64<=140737488355328:=by omega
   have eAD:bD (A++ [x]++D)=bD A++([x.sv]++bD D):=by rw[bD,bD,bD,bx,bx,aZ];rfl
   rw[eAD]at q3;obtain⟨x1,x2,x3,x4⟩:=x;rw[aj];simp only[aI,Ev.sv,bK,bw]at q3 hg ⊢;simp only[go_sem,Q2,Q3,Q5,Qb,Qc,Qd,Qe,Qg,Qh,Qi,Qj,Qk,reduceCtorEq,reduceIte,hp,hv,g1,eI,g2,k1',k1i,hg,tf,tA,tD,vA,vD,b1,b3,b4,e1,q3]
  ·have hne:¬bD l=[]:=fun q=>by rw[q]at hv;simp at hv;omega
   obtain⟨v3,j3,k3,g3⟩:=eU B hB j2 l.length (by omega);simp only[aI]at g3;obtain⟨x,hx⟩:∃x,x=l.getD v1 ⟨0,0,[],[]⟩:=⟨_,rfl⟩;obtain⟨y,hy⟩:∃y,y=l.getD v3 ⟨0,0,[],[]⟩:=⟨_,rfl⟩;have sx:EvS x:=h2 x (by rw[hx,aa,af k1];exact bj _);have sy:EvS y:=h2 y (by rw[hy,aa,af k3];exact bj _);have hg:(bD l).getD v1 []=x.sv:=by rw[mN l v1 k1,hx]
   have hg3:(bD l).getD v3 []=y.sv:=by rw[mN l v3 k3,hy]
   have k3i:(v3:Int)<(l.length:Int):=by omega
   obtain⟨l',j',q1,q2,q3⟩:=ih ((l.set v1 y).set v3 x) j3 (by simp only[cu];omega) (by simp only[cu];omega) (Dg (Dg h2 sy) sx);refine⟨l',j',q1,q2, ?_⟩;have b1:l.length*64<=140737488355328:=by omega
   have eS:bD ((l.set v1 y).set v3 x)=((bD l).set v1 y.sv).set v3 x.sv:=by rw[bD,bD,List.map_set,List.map_set]
   rw[eS]at q3;have tl2:cj l.length (((bD l).set v1 y.sv).set v3 x.sv)=((bD l).set v1 y.sv).set v3 x.sv:=bO (by simp only[cu];omega);obtain⟨x1,x2,x3,x4⟩:=x;obtain⟨y1,y2,y3,y4⟩:=y;rw[aj];simp only[aI,Ev.sv]at q3 hg hg3 tl2 ⊢;simp only[go_sem,Q2,Q3,Q5,Qb,Qc,Qd,Qe,Qg,Qh,Qi,Qj,Qk,reduceCtorEq,reduceIte,hp,hv,g1,eI,g2,g3,k1,k1',k1i,k3,k3i,hg,hg3,tf,eH,b1,e1,hne,cu,tl2,q3]
  ·obtain⟨x,j3,sx,g3⟩:=f38 B hB j2 a ha
   obtain⟨l',j',q1,q2,q3⟩:=ih (A++ [x]++D) j3 (by simp only[ah,aD];omega) (by simp only[ah,aD];omega) (ip (kF sA sx) sD);refine⟨l',j',q1,q2, ?_⟩;have b1:v1*64<=140737488355328:=by omega
   have b3:(v1+1)*64<=140737488355328:=by omega
   have b2:(v1+(1+(l.length-v1)))*64<=140737488355328:=by omega
   have b4:(v1+1+(l.length-v1))*64<=140737488355328:=by omega
   have eAD:bD (A++ [x]++D)=bD A++([x.sv]++bD D):=by rw[bD,bD,bD,bx,bx,aZ];rfl
   rw[eAD]at q3;obtain⟨x1,x2,x3,x4⟩:=x;rw[aj];simp only[aI,Ev.sv,bK,bw]at q3 g3 ⊢;simp only[go_sem,Q2,Q3,Q5,Qb,Qc,Qd,Qe,Qg,Qh,Qi,Qj,Qk,reduceCtorEq,reduceIte,hp,hv,g1,eI,g2,g3,xgI,k1',k1i,tf,tA,tD,vA,vD,b1,b3,b4,e1,q3]
  ·have g3:=f76 3 5 a [110,111,116,101] ha (by decide)
   have sx:=lM 3 5 a [110,111,116,101] (by decide);rw[dU]at g3;obtain⟨l',j',q1,q2,q3⟩:=ih (A++ [mkV 3 5 a [110,111,116,101]]++D) j2 (by simp only[ah,aD];omega) (by simp only[ah,aD];omega) (ip (kF sA sx) sD);refine⟨l',j',q1,q2, ?_⟩;have b1:v1*64<=140737488355328:=by omega
   have b3:(v1+1)*64<=140737488355328:=by omega
   have b2:(v1+(1+(l.length-v1)))*64<=140737488355328:=by omega
   have b4:(v1+1+(l.length-v1))*64<=140737488355328:=by omega
   have eAD:bD (A++ [mkV 3 5 a [110,111,116,101]]++D)=bD A++([(mkV 3 5 a [110,111,116,101]).sv]++bD D):=by rw[bD,bD,bD,bx,bx,aZ];rfl
   rw[eAD,dU]at q3;rw[aj];simp only[aI,bK,bw]at q3 g3 ⊢;simp only[go_sem,Q2,Q3,Q5,Qb,Qc,Qd,Qe,Qg,Qh,Qi,Qj,Qk,reduceCtorEq,reduceIte,hp,hv,g1,eI,g2,g3,ny,k1',k1i,tf,tA,tD,vA,vD,b1,b3,b4,e1,q3]
theorem xgd(x:Img)(a:Int):((wm (il x) a).getD 0 []).length<=1000/\((wm (il x) a).getD 1 []).length<=1000:=by
 have e1:=vo (il x);have e2:=fQ (il x);unfold wm;split
 ·exact⟨bL _,bL _⟩
 ·constructor
  ·rw[bc]
   split
   ·omega
   ·exact bL _
  ·rw[bh,bc]
   split
   ·omega
   ·exact bL _
theorem xiV{x:Img}(a:Int)(h:gK x=0):EvS (ofI x a):=by obtain⟨q1,q2,q3,q4,q5,q6⟩:=jC h;have hn:=kM q5;obtain⟨v,hv⟩:=Int.eq_ofNat_of_zero_le q3;have hl:=jg 6 v (by omega);obtain⟨h0,h1⟩:=xgd x a;refine⟨wk _ _, ?_,h0,h1⟩;show(ti x.name x.ver).length<=1000;unfold ti;rw[hv,ah,av];show x.name.length+((dec v).length+1)<=1000;omega
theorem xf2{x:Img}(a role:Int)(h:gK x=0):∀e,e∈jV a role x->EvS e:=by
 intro e he;obtain⟨q1,q2,q3,q4,q5,q6⟩:=jC h;unfold jV at he;split at he
 ·split at he
  ·obtain⟨y,hy,rfl⟩:=aV.1 he
   have:=(nN x.pay).2 y hy;exact lM _ _ _ _ (by omega)
  ·rw[bp.1 he];exact xiV a h
 ·cases he
theorem HE(a:Int):∀n i e,e∈sO a i n->EvS e
 |0,i,e,he=>by cases he
 |n+1,i,e,he=>by
  rw[sO]at he;rcases au.1 he with rfl|he
  ·exact lM _ _ _ _ (by decide)
  ·exact HE a n _ e he
theorem xnh{l:List Img}{x:Img}(h:x∈l)(hc:∀i,i<l.length->gK (l.getD i im0)=0):gK x=0:=by obtain⟨i,hi,rfl⟩:=bJ h;have:=hc i hi;rwa[aa,af hi]at this
theorem xbw{l:List Img}(hc:eD l)(a:Int):∀e,e∈evF l a->EvS e:=by
 have hf:∀role e,e∈l.flatMap (jV a role)->EvS e:=by intro role e he;obtain⟨x,hx,h⟩:=List.mem_flatMap.1 he;exact xf2 a role (xnh hx hc.ok) e h
 unfold evF;exact ip (hf 1) (ip (hf 2) (ip (HE a 8 0) (ip (hf 3) (hf 4))))
theorem Db{l:List Img}(hc:eD l)(a:Int):8<=(evF l a).length/\(evF l a).length<=150:=by have n8:=hc.n8;have b1:=iq l a 1;have b2:=iq l a 2;have b3:=iq l a 3;have b4:=iq l a 4;have b0:=pZ a 8 0;unfold evF;simp only[ah];omega
theorem f36(codes:List UInt8)(a:Int)(ha:lA a):∃l:List Ev,l.length<=200/\(∀e,e∈l->EvS e)/\call T 36 [.byt codes .no,.int .i64 a,.int .i64 0] [] 0=some ⟨.agg [.int .i64 a,.int .i64 0,.lst 4 (bD l) .no],[],[]⟩:=by
 have hB:(codes.take 240).length<=1000:=by rw[ay];omega
 have g0:=f35 codes 240;have gm:=f18 0 1000 (by decide) (by decide) (by decide);rw[show fJ 0 1000=0 from rfl]at gm;rw[xoy]at g0;generalize codes.take 240=B at*;have g1:=f37 B 0 3 (by omega) (by omega);have v1:=dH B 0 3 (by omega);have hj:cg B 0<=B.length:=by unfold cg;split<;>omega
 generalize cg B 0=j1 at*;generalize dz B 0 3=w at*;rw[cz3]at g1;by_cases hw:w=0
 ·obtain⟨l,j2,q1,q2,g2⟩:=f85 B hB j1 a ha
  refine⟨l,by omega,q2, ?_⟩;have hw':(w:Int)=0:=by omega
  rw[am xmx];simp only[aI,c0]at g0 g1 g2 ⊢;simp only[go_sem,Qe,Qg,Qh,Qi,Qj,Qk,reduceCtorEq,reduceIte,g0,Pe,gm,yh,g1,eI,hw',g2,xpP]
 ·obtain⟨ch,hch,g2⟩:=f24 (B.drop j1)
  have g3:=f31 ch hch a ha;obtain⟨n8,n150⟩:=Db hch a;obtain⟨n,j2,hn,g4⟩:=eU B hB j1 4 (by omega);rw[cz4]at g4;obtain⟨l',j',q1,q2,q3⟩:=l36 B hB a ha 0 n (evF ch a) j2 (by omega) (by omega) (xbw hch a);refine⟨l',q1,q2, ?_⟩;have hw':¬(w:Int)=0:=by omega
  have tf:cj B.length B=B:=bo ..;have hj':(j1:Int)<=(B.length:Int):=by omega
  rw[am xmx];simp only[aI,c0]at g0 g1 g4 q3 ⊢;simp only[go_sem,Qb,Qc,Qd,Qe,Qg,Qh,Qi,Qj,Qk,reduceCtorEq,reduceIte,g0,Pe,gm,yh,g1,eI,hw',tf,hj',g2,FD,g3,xgJ,g4,q3]
theorem l11(B:List UInt8)(hB:B.length<=1000)(a:Int)(ha:lA a)(ma:List UInt8)(I:List (List SV)):∀(n:Nat)(l:List Ev)(j:Nat),n<=10->l.length+n<=250->(∀e,e∈l->EvS e)->
 ∃(l':List Ev)(j':Nat),l'.length<=250/\(∀e,e∈l'->EvS e)/\
 run T (.loop y6) ⟨[(2,.byt ma .no),(8,.ptr 108 0),(10,.lst 4 I .no),(11,.ptr 19100 0),(12,.ptr 112 0),(13,.int .i64 (n:Int))],[(108,.rc [.int .i64 0,.int .i64 0,.lst 4 [] .clip]),(112,.rc [.int .i64 a,.int .i64 0,.lst 4 (bD l) .no]),(19100,aI B j)],[]⟩=
  some (.x 0,⟨[(2,.byt ma .no),(8,.ptr 108 0),(10,.lst 4 I .no),(12,.ptr 112 0)],[(108,.rc [.int .i64 0,.int .i64 0,.lst 4 [] .clip]),(112,.rc [.int .i64 a,.int .i64 0,.lst 4 (bD l') .no]),(19100,aI B j')],[]⟩):=by
 intro n;induction n with
 |zero=>intro l j h0 h1 h2;refine⟨l,j,by omega,h2, ?_⟩;rw[aj];simp only[aI];simp only[go_sem,Q4,Qh,Qj,Qk,reduceIte]
 |succ n ih=>
  intro l j h0 h1 h2;have hv:=bZ l;have hp:(0:Int)<((n+1:Nat):Int):=by omega
  have e1:ai.wrap (((n+1:Nat):Int)-1)=(n:Int):=wZ (by omega)
  have e2:=bV l.length (by omega);obtain⟨v1,j1,k1,g1⟩:=eU B hB j (l.length+1) (by omega);obtain⟨x,j2,sx,g3⟩:=f38 B hB j1 a ha;have k1':v1<=l.length:=by omega
  have k1i:(v1:Int)<=(l.length:Int):=by omega
  have tf:cj l.length (bD l)=bD l:=by rw[<-hv,bo]
  obtain⟨A,hA⟩:∃A,A=l.take v1:=⟨_,rfl⟩;obtain⟨D,hD⟩:∃D,D=l.drop v1:=⟨_,rfl⟩;have tA:cj v1 (bD l)=bD A:=by rw[hA,bD,bD,lC]
  have tD:eQ v1 (bD l)=bD D:=by rw[hD,bD,bD,List.map_drop]
  have nA:A.length=v1:=by rw[hA,ay];omega
  have nD:D.length=l.length-v1:=by rw[hD,aE]
  have vA:(bD A).length=v1:=by rw[bZ,nA]
  have vD:(bD D).length=l.length-v1:=by rw[bZ,nD]
  have sA:∀e,e∈A->EvS e:=fun e he=>h2 e (by rw[hA]at he;exact bW he)
  have sD:∀e,e∈D->EvS e:=fun e he=>h2 e (by rw[hD]at he;exact dy he)
  obtain⟨l',j',q1,q2,q3⟩:=ih (A++ [x]++D) j2 (by omega) (by simp only[ah,aD];omega) (ip (kF sA sx) sD);refine⟨l',j',q1,q2, ?_⟩;have b1:v1*64<=140737488355328:=by omega
  have b3:(v1+1)*64<=140737488355328:=by omega
  have b2:(v1+(1+(l.length-v1)))*64<=140737488355328:=by omega
  have b4:(v1+1+(l.length-v1))*64<=140737488355328:=by omega
  have eAD:bD (A++ [x]++D)=bD A++([x.sv]++bD D):=by rw[bD,bD,bD,bx,bx,aZ];rfl
  rw[eAD]at q3;obtain⟨x1,x2,x3,x4⟩:=x;rw[aj];simp only[aI,Ev.sv,bK,bw]at q3 g1 g3 ⊢;simp only[go_sem,Q2,Q3,Qb,Qc,Qd,Qe,Qg,Qh,Qi,Qj,Qk,reduceCtorEq,reduceIte,hp,hv,e2,g1,eI,g3,xgI,k1i,tf,tA,tD,vA,vD,b1,b3,b4,e1,q3]
theorem f11(codes chain ma:List UInt8)(ac:Int)(h0: -9223372036854775808<=ac)(h1:ac<=9223372036854775807){P:List (List SV)->Prop}
 (h23:∀ch,eD ch->∃ms,P ms/\call T 23 [.byt ma .no,.lst 4 (fm ch) .no] [] 0=some ⟨.lst 7 ms .no,[],[]⟩):
 ∃(a:Int)(l:List Ev)(ms:List (List SV)),lA a/\l.length<=250/\(∀e,e∈l->EvS e)/\P ms/\
 call T 11 [.byt codes .no,.byt chain .no,.byt ma .no,.int .i64 ac] [] 0=some ⟨.tup [.agg [.int .i64 a,.int .i64 0,.lst 4 (bD l) .no],.lst 7 ms .no],[],[]⟩:=by
 obtain⟨ch,hch,g1⟩:=f24 chain;have gs:=f29 ac h0 h1
 obtain⟨a,hae,ha⟩:∃a,a=2+fJ ac 2/\lA a:=by refine⟨_,rfl, ?_⟩;unfold lA;rcases xbc ac with h|h<;>rw[h]<;>omega
 rw[<-hae]at gs;obtain⟨l,n1,s1,g2⟩:=f36 codes a ha;have hB:(codes.take 200).length<=1000:=by rw[ay];omega
 have gc:=f35 codes 200;rw[xmo]at gc;generalize codes.take 200=B at*;obtain⟨v,j1,hv,g3⟩:=eU B hB 0 2 (by omega);rw[show((2:Nat):Int)=2 from rfl]at g3;obtain⟨ms,hP,g4⟩:=h23 ch hch
 by_cases hw:v=0
 ·have hw':(v:Int)=0:=by omega
  have g5:=f31 ch hch a ha;obtain⟨n8,n150⟩:=Db hch a;obtain⟨n,j2,hn,g6⟩:=eU B hB j1 3 (by omega);rw[cz3]at g6;obtain⟨l',j',q1,q2,q3⟩:=l11 B hB a ha ma (fm ch) n (evF ch a) j2 (by omega) (by omega) (xbw hch a);refine⟨a,l',ms,ha,q1,q2,hP, ?_⟩;rw[am xmy];simp only[aI,c0]at gc g3 g6 q3 ⊢;simp only[go_sem,Qb,Qc,Qd,Qe,Qg,Qh,Qi,Qj,Qk,reduceCtorEq,reduceIte,g1,FD,gc,Pe,gs,xmI,g2,xmH,g3,eI,hw',g5,xgJ,g6,q3,g4,Ph]
 ·have hw':¬(v:Int)=0:=by omega
  refine⟨a,l,ms,ha,by omega,s1,hP, ?_⟩;rw[am xmy];simp only[aI,c0]at gc g3 ⊢;simp only[go_sem,Qb,Qc,Qd,Qe,Qg,Qh,Qi,Qj,Qk,reduceCtorEq,reduceIte,g1,FD,gc,Pe,gs,xmI,g2,xmH,g3,eI,hw',g4,Ph]
def iw(x:Ent):List Ent->Nat
 |[]=>0
 |y::r=>if oQ y x=true then iw x r+1 else 0
theorem ta(x:Ent):∀l,iw x l<=l.length
 |[]=>aM _
 |y::r=>by have:=ta x r;rw[iw,av];split<;>omega
def mO(v:List UInt8)(ve:Int)(l:List Ent)(tk:Tok):aF:= .rc [.str v,.int .i64 ve,.int .i64 0,.int .i64 0,.int .i64 1099511627776,.lst 4 (dC l) tk,.lst 4 [] .clip]
def mZ:aF:= .rc [.str [],.int .i64 0,.int .i64 0,.int .i64 0,.int .i64 0,.lst 4 [] .clip,.lst 4 [] .clip]
theorem xnx(I:List (List SV))(v:List UInt8)(ve i:Int)(l:List Ent)(x:Ent)(hl:l.length<=1000)(hd:∀y∈l,y.dig.length<=1000):∀(n k:Nat),l.length-k=n->k<=l.length->
 run T (.loop yM) ⟨[(2,.lst 4 I .no),(6,.ptr 106 0),(7,.ptr 107 0),(8,.int .i64 i),(10,.ptr 110 0),(11,.int .i64 k)],[(106,mZ),(107,mO v ve l .no),(110,.rc x.sv)],[]⟩=
  some (.x 2,⟨[(2,.lst 4 I .no),(6,.ptr 106 0),(7,.ptr 107 0),(8,.int .i64 i),(10,.ptr 110 0),(11,.int .i64 ((k+iw x (l.drop k):Nat):Int))],[(106,mZ),(107,mO v ve l .no),(110,.rc x.sv)],[]⟩):=by
 intro n;induction n with
 |zero=>
  intro k h0 h1;have:k=l.length:=by omega
  subst this;have hv:=cT l;rw[aL,aj];simp only[iw,fz,mO,mZ];simp only[go_sem,Qb,Qc,Qd,Qe,Qh,Qi,Qj,Qk,reduceIte,hv]
 |succ n ih=>
  intro k h0 h1;have hk:k<l.length:=by omega
  have e1:=bV k (by omega);have ih':=ih (k+1) (by omega) (by omega);have hv:=cT l;have hg:=fx l k hk;have hdr:l.drop k=l.getD k en0::l.drop (k+1):=by rw[aU hk,aa,af hk];rfl
  have hm:=bG l en0 k hk;have gb:=f84 (l.getD k en0) x (by have:=hd _ hm;omega);have hki:(k:Int)<(l.length:Int):=by omega
  rw[hdr,iw,aj];generalize l.getD k en0=y at*;obtain⟨x1,x2,x3,x4⟩:=x;obtain⟨y1,y2,y3,y4⟩:=y
  by_cases hb:oQ ⟨y1,y2,y3,y4⟩ ⟨x1,x2,x3,x4⟩=true
  ·rw[if_pos hb]
   rw[hb]at gb;rw[show k+(iw ⟨x1,x2,x3,x4⟩ (l.drop (k+1))+1)=k+1+iw ⟨x1,x2,x3,x4⟩ (l.drop (k+1))from by omega];simp only[mO,mZ,Ent.sv]at ih' gb hg ⊢;simp only[go_sem,Qb,Qc,Qd,Qe,Qh,Qi,Qj,Qk,reduceIte,hki,e1,hv,hg,gb,Pa,ih']
  ·rw[if_neg hb]
   rw[eq_false_of_ne_true hb]at gb;rw[fz];simp only[mO,mZ,Ent.sv]at gb hg ⊢;simp only[go_sem,Qb,Qc,Qd,Qe,Qh,Qi,Qj,Qk,reduceIte,hki,hv,hg,gb,Pa]
theorem tq{x:Img}(h:gK x=0):¬(il x).length=0:=by unfold il;rw[if_pos h,dY];omega
def eN(y:Img):Ent:=⟨y.role,y.name,y.ver,sha (il y)⟩
def xM(x:Ent)(l:List Ent):List Ent:=if iw x l<l.length/\oQ x (l.getD (iw x l) en0)=false then l else l.take (iw x l)++x::l.drop (iw x l)
def sk(y:Img)(l:List Ent):List Ent:=if y.role=4 then l else xM (eN y) l
theorem s34(ch:List Img)(hc:∀i,i<ch.length->gK (ch.getD i im0)=0)(hcl:ch.length<=1000)(v:List UInt8)(ve:Int)(l:List Ent)(hl:l.length<=900)(hd:∀y∈l,y.dig.length<=1000)(i:Nat)(hi:i<ch.length):
 run T (.loop l8) ⟨[(2,.lst 4 (fm ch) .no),(6,.ptr 106 0),(7,.ptr 107 0),(8,.int .i64 i)],[(106,mZ),(107,mO v ve l .no)],[]⟩=
 run T (.loop l8) ⟨[(2,.lst 4 (fm ch) .no),(6,.ptr 106 0),(7,.ptr 107 0),(8,.int .i64 ((i+1:Nat):Int))],[(106,mZ),(107,mO v ve (sk (ch.getD i im0) l) .no)],[]⟩:=by
 have hii:(i:Int)<(ch.length:Int):=by omega
 have hv:=eM ch;have hg:=gJ ch i hi;have h0:=hc i hi;have e1:=bV i (by omega);generalize ch.getD i im0=y at*;obtain⟨u1,u2⟩:=mi h0;have g1:=f33 y u1 u2;have hel:=qz y u1 u2;have g2:=f80 (il y) (by omega);have hne:¬(il y).length=0:=tq h0;have hne':¬((il y).length:Int)=0:=by omega
 have hsl:=fQ (il y);have hla:=xnx (fm ch) v ve i l (eN y) (by omega) hd l.length 0 (by omega) (bL _);rw[bB,aR,show((0:Nat):Int)=0 from rfl]at hla;have hpl:=ta (eN y) l;have nv:=cT l;unfold sk xM;generalize hE:il y=E at*
 by_cases h4:y.role=4
 ·rw[if_pos h4]
  obtain⟨y1,y2,y3,y4⟩:=y;simp only at h4;subst h4;rw[aj];simp only[mO,mZ,Img.sv]at g1 hg ⊢;simp only[go_sem,Qe,Qh,Qi,Qj,Qk,reduceIte,hii,hv,hg,g1,FC,hne',e1]
 ·rw[if_neg h4]
  have hent:eN y=⟨y.role,y.name,y.ver,sha E⟩:=by rw[<-hE];rfl
  rw[hent]at hla hpl ⊢
  by_cases hk:iw ⟨y.role,y.name,y.ver,sha E⟩ l<l.length
  ·have gb:=f84 ⟨y.role,y.name,y.ver,sha E⟩ (l.getD (iw ⟨y.role,y.name,y.ver,sha E⟩ l) en0) (by show(sha E).length<=_;omega)
   have hg2:=fx l _ hk;have hki:(iw ⟨y.role,y.name,y.ver,sha E⟩ l:Int)<(l.length:Int):=by omega
   have e2:dC (l.take (iw ⟨y.role,y.name,y.ver,sha E⟩ l)++⟨y.role,y.name,y.ver,sha E⟩::l.drop (iw ⟨y.role,y.name,y.ver,sha E⟩ l))=cj (iw ⟨y.role,y.name,y.ver,sha E⟩ l) (dC l)++(Ent.sv ⟨y.role,y.name,y.ver,sha E⟩::eQ (iw ⟨y.role,y.name,y.ver,sha E⟩ l) (dC l)):=by rw[dC,dC,bx,aP,lC,List.map_drop]
   generalize iw ⟨y.role,y.name,y.ver,sha E⟩ l=k at*;generalize l.getD k en0=z at*;have hkl:k<=l.length:=by omega
   have tf:cj l.length (dC l)=dC l:=by rw[<-nv,bo]
   have vA:(cj k (dC l)).length=k:=by rw[ay,nv];omega
   have vD:(eQ k (dC l)).length=l.length-k:=by rw[aE,nv]
   have b1:k*56<=140737488355328:=by omega
   have b3:(k+1)*56<=140737488355328:=by omega
   have b2:(k+(1+(l.length-k)))*56<=140737488355328:=by omega
   have b4:(k+1+(l.length-k))*56<=140737488355328:=by omega
   obtain⟨y1,y2,y3,y4⟩:=y;obtain⟨z1,z2,z3,z4⟩:=z
   by_cases hb:oQ ⟨y1,y2,y3,sha E⟩ ⟨z1,z2,z3,z4⟩=false
   ·rw[if_pos ⟨hk,hb⟩]
    simp only at gb;rw[hb]at gb;rw[aj];simp only[mO,mZ,Img.sv,Ent.sv]at g1 hg hla gb hg2 ⊢;simp only[go_sem,Qb,Qc,Qd,Qe,Qh,Qi,Qj,Qk,reduceCtorEq,reduceIte,hii,hv,hg,g1,FC,hne',h4,g2,Pb,hla,nv,hki,hg2,gb,Pa,e1]
   ·rw[if_neg (fun h=>hb h.2)]
    simp only at gb;rw[eq_true_of_ne_false hb]at gb;rw[aj];simp only[mO,e2];simp only[mO,mZ,Img.sv,Ent.sv]at g1 hg hla gb hg2 ⊢;simp only[go_sem,Q2,Q3,Qb,Qc,Qd,Qe,Qh,Qi,Qj,Qk,reduceCtorEq,reduceIte,hii,hv,hg,g1,FC,hne',h4,g2,Pb,hla,nv,hki,hkl,hg2,gb,Pa,e1,tf,vA,vD,b1,b3,b4]
  ·have hki:¬(iw ⟨y.role,y.name,y.ver,sha E⟩ l:Int)<(l.length:Int):=by omega
   rw[if_neg (fun h=>hk h.1)]
   have e2:dC (l.take (iw ⟨y.role,y.name,y.ver,sha E⟩ l)++⟨y.role,y.name,y.ver,sha E⟩::l.drop (iw ⟨y.role,y.name,y.ver,sha E⟩ l))=cj (iw ⟨y.role,y.name,y.ver,sha E⟩ l) (dC l)++(Ent.sv ⟨y.role,y.name,y.ver,sha E⟩::eQ (iw ⟨y.role,y.name,y.ver,sha E⟩ l) (dC l)):=by rw[dC,dC,bx,aP,lC,List.map_drop]
   generalize iw ⟨y.role,y.name,y.ver,sha E⟩ l=k at*;have hkl:k<=l.length:=by omega
   have tf:cj l.length (dC l)=dC l:=by rw[<-nv,bo]
   have vA:(cj k (dC l)).length=k:=by rw[ay,nv];omega
   have vD:(eQ k (dC l)).length=l.length-k:=by rw[aE,nv]
   have b1:k*56<=140737488355328:=by omega
   have b3:(k+1)*56<=140737488355328:=by omega
   have b2:(k+(1+(l.length-k)))*56<=140737488355328:=by omega
   have b4:(k+1+(l.length-k))*56<=140737488355328:=by omega
   obtain⟨y1,y2,y3,y4⟩:=y;rw[aj];simp only[mO,e2];simp only[mO,mZ,Img.sv,Ent.sv]at g1 hg hla ⊢;simp only[go_sem,Q2,Q3,Qb,Qc,Qd,Qe,Qh,Qi,Qj,Qk,reduceCtorEq,reduceIte,hii,hv,hg,g1,FC,hne',h4,g2,Pb,hla,nv,hki,hkl,e1,tf,vA,vD,b1,b3,b4]
structure ml(l:List Ent)(n:Nat):Prop where
 len:l.length<=n
 e:∀x∈l,x.name.length<=1000000/\x.dig.length=32
theorem GH{x z:Ent}{l:List Ent}(h:z∈xM x l):z=x\/z∈l:=by
 unfold xM at h;split at h
 ·exact .inr h
 ·rw[an,au]at h
  rcases h with h|h|h
  ·exact .inr (bW h)
  ·exact .inl h
  ·exact .inr (dy h)
theorem GN(x:Ent)(l:List Ent):(xM x l).length<=l.length+1:=by
 unfold xM;have:=ta x l;split
 ·omega
 ·rw[ah,av,ay,aE];omega
theorem GY{y:Img}(h:gK y=0):y.name.length<=1000000:=(mi h).1
theorem tW{y:Img}(hy:gK y=0){l:List Ent}{n:Nat}(h:ml l n):ml (sk y l) (n+1):=by
 unfold sk;split
 ·exact⟨Nat.le_succ_of_le h.len,h.e⟩
 ·refine⟨?_,fun x hx=> ?_⟩
  ·have:=GN (eN y) l
   have:=h.len;omega
  ·rcases GH hx with rfl|hx
   ·exact⟨GY hy,fQ _⟩
   ·exact h.e x hx
def tr(l:List Img)(es:List Ent):List Ent:=l.foldl (fun a y=>sk y a) es
theorem Dc:∀(l:List Img)(es:List Ent)(n:Nat),(∀y∈l,gK y=0)->ml es n->ml (tr l es) (n+l.length)
 |[],es,n,_,h=>h
 |y::r,es,n,hl,h=>by have:=Dc r (sk y es) (n+1) (fun z hz=>hl z (aw _ hz)) (tW (hl y aG) h);rw[av,show n+(r.length+1)=n+1+r.length from by omega];exact this
theorem xmW(ch:List Img)(hcl:ch.length<=1000)(hi:0<ch.length)(h0:gK (ch.getD 0 im0)=0)(h1:(ch.getD 0 im0).role=1)(v:List UInt8)(ve:Int):
 run T (.loop l8) ⟨[(2,.lst 4 (fm ch) .no),(6,.ptr 106 0),(7,.ptr 107 0),(8,.int .i64 0)],[(106,mZ),(107,mO v ve [] .clip)],[]⟩=
 run T (.loop l8) ⟨[(2,.lst 4 (fm ch) .no),(6,.ptr 106 0),(7,.ptr 107 0),(8,.int .i64 1)],[(106,mZ),(107,mO v ve [eN (ch.getD 0 im0)] .no)],[]⟩:=by
 have hii:(0:Int)<(ch.length:Int):=by omega
 have hv:=eM ch;have hg:=gJ ch 0 hi;have e1:ai.wrap 1=1:=rfl;generalize ch.getD 0 im0=y at*;obtain⟨u1,u2⟩:=mi h0;have g1:=f33 y u1 u2;have hel:=qz y u1 u2;have g2:=f80 (il y) (by omega);have hne:¬(il y).length=0:=tq h0;have hne':¬((il y).length:Int)=0:=by omega
 have hent:eN y=⟨y.role,y.name,y.ver,sha (il y)⟩:=rfl;rw[hent];generalize il y=E at*;obtain⟨y1,y2,y3,y4⟩:=y;simp only at h1;subst h1;rw[aj];simp only[mO,mZ,Img.sv,dC,df,aP,Ent.sv]at g1 hg ⊢;simp only[go_sem,Q2,Q3,Q5,Qb,Qc,Qd,Qe,Qh,Qi,Qj,Qk,reduceCtorEq,reduceIte,hii,hv,hg,g1,FC,hne',g2,Pb];rw[aj];simp only[go_sem,Q2,Q3,Q4,Q8,Qb,Qc,Qd,Qe,Qg,Qh,Qi,Qj,Qk,reduceCtorEq,reduceIte,e1]
theorem l34(ch:List Img)(hc:∀i,i<ch.length->gK (ch.getD i im0)=0)(hcl:ch.length<=800)(v:List UInt8)(ve:Int):∀(n i:Nat)(es:List Ent),ch.length-i=n->i<=ch.length->ml es i->
 run T (.loop l8) ⟨[(2,.lst 4 (fm ch) .no),(6,.ptr 106 0),(7,.ptr 107 0),(8,.int .i64 i)],[(106,mZ),(107,mO v ve es .no)],[]⟩=
 some (.x 0,⟨[(6,.ptr 106 0),(7,.ptr 107 0)],[(106,mZ),(107,mO v ve (tr (ch.drop i) es) .no)],[]⟩):=by
 intro n;induction n with
 |zero=>
  intro i es h0 h1 h2;have:i=ch.length:=by omega
  subst this;have hv:=eM ch;rw[aL,aj];simp only[mO,mZ,tr,oS];simp only[go_sem,Qh,Qj,Qk,reduceIte,hv]
 |succ n ih=>
  intro i es h0 h1 h2;have hi:i<ch.length:=by omega
  have hd:ch.drop i=ch.getD i im0::ch.drop (i+1):=by rw[aU hi,aa,af hi];rfl
  have hl:=h2.len;rw[s34 ch hc (by omega) v ve es (by omega) (fun y hy=>by have:=(h2.e y hy).2;omega) i hi,ih (i+1) _ (by omega) (by omega) (tW (hc i hi) h2),hd];rfl
def xml(v:List UInt8)(ve:Int)(ch:List Img):Man:=⟨v,ve,0,0,1099511627776,tr ch [],[]⟩
theorem va{ch:List Img}(hc:eD ch):(ch.getD 0 im0).role=1:=by
 obtain⟨i,hi,h1⟩:=hc.fw
 have key:∀k,k<ch.length->(ch.getD 0 im0).role<=(ch.getD k im0).role:=by
  intro k;induction k with
  |zero=>intro _;exact Int.le_refl _
  |succ k ih=>intro h;exact Int.le_trans (ih (by omega)) (hc.ord k h)
 have h2:=key i hi;have h3:=(jC (hc.ok 0 (by have:=hc.n1;omega))).1;omega
theorem f34(ch:List Img)(hc:eD ch)(v:List UInt8)(ve:Int):call T 34 [.str v,.int .i64 ve,.lst 4 (fm ch) .no] [] 0=some ⟨.agg [.str v,.int .i64 ve,.int .i64 0,.int .i64 0,.int .i64 1099511627776,.lst 4 (dC (tr ch [])) .no,.lst 4 [] .clip],[],[]⟩:=by
 have n1:=hc.n1;have n8:=hc.n8;have hf:=va hc;have h0:=hc.ok 0 (by omega);have z:=xmW ch (by omega) (by omega) h0 hf v ve
 have ha:sk (ch.getD 0 im0) []=[eN (ch.getD 0 im0)]:=by unfold sk xM;rw[if_neg (by rw[hf];decide),if_neg (by simp)];rfl
 have hb:ml [eN (ch.getD 0 im0)] 1:=by rw[<-ha];exact tW h0 ⟨aM _,fun x hx=>by cases hx⟩
 have l:=l34 ch hc.ok (by omega) v ve _ 1 [eN (ch.getD 0 im0)] rfl (by omega) hb
 have hd:tr (ch.drop 1) [eN (ch.getD 0 im0)]=tr ch []:=by
  have:ch=ch.getD 0 im0::ch.drop 1:=by
   rw[aa,af (by omega:0<ch.length)];cases ch with
   |nil=>simp at n1
   |cons x r=>rfl
  conv=>rhs;rw[this]
  rw[<-ha];rfl
 rw[hd]at l;rw[show((1:Nat):Int)=1 from rfl]at l;rw[l]at z;rw[am xps];simp only[mO,mZ,dC,df]at z;simp only[dC];simp only[go_sem,Qe,Qh,Qi,Qj,Qk,reduceCtorEq,reduceIte,z]
theorem Ta{ch:List Img}(hc:eD ch):ml (tr ch []) 8:=by
 have:=Dc ch [] 0 (fun y hy=>by obtain⟨i,hi,rfl⟩:=bJ hy;have:=hc.ok i hi;rwa[aa,af hi]at this) ⟨aM _,fun x hx=>by cases hx⟩
 have n8:=hc.n8;exact⟨by have:=this.len;omega,this.e⟩
theorem xom:call T 106 [] [] 0=some ⟨.agg [.str [97,99,109,101],.str [118,50],.str [120,45,121]],[],[]⟩:=by rw[am xkm];simp only[go_sem,Qe,Qg,Qi,Qj,Qk,reduceCtorEq,reduceIte]
theorem xmO(v:Nat)(h:v<3):∃n:List UInt8,n.length<=10/\(eQ v [SV.str [97,99,109,101],.str [118,50],.str [120,45,121]]).getD 0 .undef= .str n:=by
 have:v=0\/v=1\/v=2:=by omega
 rcases this with rfl|rfl|rfl
 ·exact⟨[97,99,109,101],by decide,rfl⟩
 ·exact⟨[118,50],by decide,rfl⟩
 ·exact⟨[120,45,121],by decide,rfl⟩
theorem DU(l:List Rul)(x:Rul):eP l++ [x.sv]=eP (l++ [x]):=by rw[eP,eP,bx];rfl
theorem l64(B:List UInt8)(hB:B.length<=1000)(v:List UInt8)(m1 m2 m3 m4:Int)(es:List (List SV)):∀(n:Nat)(rs:List Rul)(j:Nat),rs.length+n<=100->(∀x∈rs,x.text.length<=20)->∀(t:Tok)(tk:List Nat),(t= .clip/\tk=[]/\rs=[])\/(t= .id 160/\tk=[160])->
 ∃(rs':List Rul)(t':Tok)(tk':List Nat)(j':Nat),rs'.length<=100/\(∀x∈rs',x.text.length<=20)/\((t'= .clip/\tk'=[]/\rs'=[])\/(t'= .id 160/\tk'=[160]))/\
 run T (.loop yF) ⟨[(0,.ptr 0 0),(4,.ptr 104 0),(6,.ptr 106 0),(7,.int .i64 (n:Int))],[(0,aI B j),(104,mZ),(106,.rc [.str v,.int .i64 m1,.int .i64 m2,.int .i64 m3,.int .i64 m4,.lst 4 es .no,.lst 4 (eP rs) t])],tk⟩=
 some (.x 0,⟨[(4,.ptr 104 0),(6,.ptr 106 0)],[(0,aI B j'),(104,mZ),(106,.rc [.str v,.int .i64 m1,.int .i64 m2,.int .i64 m3,.int .i64 m4,.lst 4 es .no,.lst 4 (eP rs') t'])],tk'⟩):=by
 intro n;induction n with
 |zero=>
  intro rs j h1 h2 t tk ht;refine⟨rs,t,tk,j,by omega,h2,ht, ?_⟩;rw[aj];rcases ht with⟨rfl,rfl,rfl⟩|⟨rfl,rfl⟩
  ·simp only[aI,mZ]
   simp only[go_sem,Q4,Qh,Qj,Qk,reduceCtorEq,reduceIte]
  ·simp only[aI,mZ]
   simp only[go_sem,Q4,Qh,Qj,Qk,reduceCtorEq,reduceIte]
 |succ n ih=>
  intro rs j h1 h2 t tk ht;obtain⟨k,t1,lo,hi,j1,hk,ht1,g⟩:=xol B j hB;have hp:(0:Int)<((n+1:Nat):Int):=by omega
  have e1:ai.wrap (((n+1:Nat):Int)-1)=(n:Int):=wZ (by omega)
  obtain⟨rs',t',tk',j',q1,q2,q3,q4⟩:=ih (rs++ [⟨k,t1,lo,hi⟩]) j1 (by rw[ah,aD];omega) (fun x hx=>by
   rw[an,bp]at hx;rcases hx with hx|rfl
   ·exact h2 x hx
   ·exact ht1) (.id 160) [160] (.inr ⟨rfl,rfl⟩)
  refine⟨rs',t',tk',j',q1,q2,q3, ?_⟩;have hv:=dP rs;have b1:(rs.length+1)*40<=140737488355328:=by omega
  rw[<-DU]at q4;rw[aj];rcases ht with⟨rfl,rfl,rfl⟩|⟨rfl,rfl⟩
  ·have hnil:eP []=[]:=rfl
   simp only[aI,mZ,Rul.sv,hnil,bw]at g q4 ⊢;simp only[go_sem,Qb,Qc,Qd,Qe,Qg,Qh,Qi,Qj,Qk,reduceCtorEq,reduceIte,hp,g,xbZ,e1,q4]
  ·simp only[aI,mZ,Rul.sv]at g q4 ⊢
   simp only[go_sem,Qb,Qc,Qd,Qe,Qg,Qh,Qi,Qj,Qk,reduceCtorEq,reduceIte,hp,g,xbZ,hv,b1,e1,q4]
structure TD(m:Man):Prop where
 v:m.vendor.length<=100
 en:m.ents.length<=8
 rn:m.ruls.length<=100
 e:∀x∈m.ents,x.name.length<=1000000/\x.dig.length=32
 r:∀x∈m.ruls,x.text.length<=20
theorem TD.bd{m:Man}(h:TD m):eX m:=⟨by have:=h.v;omega,by have:=h.en;omega,by have:=h.rn;omega,fun x hx=>by have:=h.e x hx;omega,fun x hx=>by have:=h.r x hx;omega⟩
theorem f64(B:List UInt8)(hB:B.length<=1000)(j:Nat)(ch:List Img)(hc:eD ch):∃(m:Man)(j':Nat),TD m/\call T 64 [.ptr 0 0,.lst 4 (fm ch) .no] [aI B j] 0=some ⟨.agg m.sv,[(0,aI B j')],[]⟩:=by
 have gv:=xom;obtain⟨v1,j1,h1,g1⟩:=eU B hB j 4 (by omega);rw[cz4]at g1;obtain⟨v2,j2,h2,g2⟩:=eU B hB j1 3 (by omega);rw[cz3]at g2;obtain⟨nv,hnv,hve⟩:=xmO v2 h2;have h2i:(v2:Int)<3:=by omega
 have gd:=f34 ch hc nv (v1:Int);have hb:=Ta hc;generalize tr ch []=es at*;obtain⟨v3,j3,h3,g3⟩:=eU B hB j2 3 (by omega);rw[cz3]at g3;have hel:=cT es;have hbl:=hb.len;have e4:=bV es.length (by omega)
 by_cases p3:v3=1
 ·have n3:(v3:Int)=1:=by omega
  obtain⟨v4,j4,h4,g4⟩:=eU B hB j3 (es.length+1) (by omega);have l4:v4<=es.length:=by omega
  have l4i:(v4:Int)<=(es.length:Int):=by omega
  have tA:cj v4 (dC es)=dC (es.take v4):=by rw[dC,dC,lC]
  obtain⟨v5,j5,h5,g5⟩:=eU B hB j4 (v1+1) (by omega);have e5:=bV v1 (by omega);obtain⟨v6,j6,h6,g6⟩:=eU B hB j5 12 (by omega);rw[c12]at g6;obtain⟨v7,j7,h7,g7⟩:=eU B hB j6 30 (by omega);rw[c30]at g7;obtain⟨v8,j8,h8,g8⟩:=eU B hB j7 2 (by omega);rw[c2]at g8;obtain⟨v9,j9,h9,g9⟩:=eU B hB j8 4 (by omega);rw[cz4]at g9;obtain⟨U,hU⟩:∃U,U=ai.wrap (ai.wrap ((v6:Int)+1)+(v7:Int)):=⟨_,rfl⟩
  by_cases p8:v8=0
  ·have p8':(v8:Int)=0:=by omega
   obtain⟨rs',t',tk',j',q1,q2,q3,q4⟩:=l64 B hB nv (v1:Int) (v5:Int) (v6:Int) 1099511627776 (dC (es.take v4)) v9 [] j9 (by simp only[aQ];omega) (fun x hx=>by cases hx) .clip [] (.inl ⟨rfl,rfl,rfl⟩);refine⟨⟨nv,v1,v5,v6,1099511627776,es.take v4,rs'⟩,j',⟨by show nv.length<=100;omega,by show(es.take v4).length<=8;rw[ay];omega,q1,fun x hx=>hb.e x (bW hx),q2⟩, ?_⟩;rw[am xbI];rcases q3 with⟨rfl,rfl,rfl⟩|⟨rfl,rfl⟩
   ·simp only[aI,mZ,Man.sv,eP,df]at g1 g2 g3 g5 g6 g7 g8 g9 q4 gd g4 ⊢
    simp only[go_sem,Q2,Q3,Qb,Qc,Qd,Qe,Qg,Qh,Qi,Qj,Qk,reduceCtorEq,reduceIte,g1,g2,g3,g5,g6,g7,g8,g9,eI,gv,pU,h2i,dx,hve,gd,yg,n3,e5,p8',<-hU,q4,g4,e4,hel,l4i,tA]
   ·simp only[aI,mZ,Man.sv,eP,df]at g1 g2 g3 g5 g6 g7 g8 g9 q4 gd g4 ⊢
    simp only[go_sem,Q2,Q3,Qb,Qc,Qd,Qe,Qg,Qh,Qi,Qj,Qk,reduceCtorEq,reduceIte,g1,g2,g3,g5,g6,g7,g8,g9,eI,gv,pU,h2i,dx,hve,gd,yg,n3,e5,p8',<-hU,q4,g4,e4,hel,l4i,tA]
  ·have p8':¬(v8:Int)=0:=by omega
   obtain⟨rs',t',tk',j',q1,q2,q3,q4⟩:=l64 B hB nv (v1:Int) (v5:Int) (v6:Int) U (dC (es.take v4)) v9 [] j9 (by simp only[aQ];omega) (fun x hx=>by cases hx) .clip [] (.inl ⟨rfl,rfl,rfl⟩);refine⟨⟨nv,v1,v5,v6,U,es.take v4,rs'⟩,j',⟨by show nv.length<=100;omega,by show(es.take v4).length<=8;rw[ay];omega,q1,fun x hx=>hb.e x (bW hx),q2⟩, ?_⟩;rw[am xbI];rcases q3 with⟨rfl,rfl,rfl⟩|⟨rfl,rfl⟩
   ·simp only[aI,mZ,Man.sv,eP,df]at g1 g2 g3 g5 g6 g7 g8 g9 q4 gd g4 ⊢
    simp only[go_sem,Q2,Q3,Qb,Qc,Qd,Qe,Qg,Qh,Qi,Qj,Qk,reduceCtorEq,reduceIte,g1,g2,g3,g5,g6,g7,g8,g9,eI,gv,pU,h2i,dx,hve,gd,yg,n3,e5,p8',<-hU,q4,g4,e4,hel,l4i,tA]
   ·simp only[aI,mZ,Man.sv,eP,df]at g1 g2 g3 g5 g6 g7 g8 g9 q4 gd g4 ⊢
    simp only[go_sem,Q2,Q3,Qb,Qc,Qd,Qe,Qg,Qh,Qi,Qj,Qk,reduceCtorEq,reduceIte,g1,g2,g3,g5,g6,g7,g8,g9,eI,gv,pU,h2i,dx,hve,gd,yg,n3,e5,p8',<-hU,q4,g4,e4,hel,l4i,tA]
 ·have n3:¬(v3:Int)=1:=by omega
  obtain⟨v5,j5,h5,g5⟩:=eU B hB j3 (v1+1) (by omega);have e5:=bV v1 (by omega);obtain⟨v6,j6,h6,g6⟩:=eU B hB j5 12 (by omega);rw[c12]at g6;obtain⟨v7,j7,h7,g7⟩:=eU B hB j6 30 (by omega);rw[c30]at g7;obtain⟨v8,j8,h8,g8⟩:=eU B hB j7 2 (by omega);rw[c2]at g8;obtain⟨v9,j9,h9,g9⟩:=eU B hB j8 4 (by omega);rw[cz4]at g9;obtain⟨U,hU⟩:∃U,U=ai.wrap (ai.wrap ((v6:Int)+1)+(v7:Int)):=⟨_,rfl⟩
  by_cases p8:v8=0
  ·have p8':(v8:Int)=0:=by omega
   obtain⟨rs',t',tk',j',q1,q2,q3,q4⟩:=l64 B hB nv (v1:Int) (v5:Int) (v6:Int) 1099511627776 (dC es) v9 [] j9 (by simp only[aQ];omega) (fun x hx=>by cases hx) .clip [] (.inl ⟨rfl,rfl,rfl⟩);refine⟨⟨nv,v1,v5,v6,1099511627776,es,rs'⟩,j',⟨by show nv.length<=100;omega,hbl,q1,hb.e,q2⟩, ?_⟩;rw[am xbI];rcases q3 with⟨rfl,rfl,rfl⟩|⟨rfl,rfl⟩
   ·simp only[aI,mZ,Man.sv,eP,df]at g1 g2 g3 g5 g6 g7 g8 g9 q4 gd ⊢
    simp only[go_sem,Qb,Qc,Qd,Qe,Qg,Qh,Qi,Qj,Qk,reduceCtorEq,reduceIte,g1,g2,g3,g5,g6,g7,g8,g9,eI,gv,pU,h2i,dx,hve,gd,yg,n3,e5,p8',<-hU,q4]
   ·simp only[aI,mZ,Man.sv,eP,df]at g1 g2 g3 g5 g6 g7 g8 g9 q4 gd ⊢
    simp only[go_sem,Qb,Qc,Qd,Qe,Qg,Qh,Qi,Qj,Qk,reduceCtorEq,reduceIte,g1,g2,g3,g5,g6,g7,g8,g9,eI,gv,pU,h2i,dx,hve,gd,yg,n3,e5,p8',<-hU,q4]
  ·have p8':¬(v8:Int)=0:=by omega
   obtain⟨rs',t',tk',j',q1,q2,q3,q4⟩:=l64 B hB nv (v1:Int) (v5:Int) (v6:Int) U (dC es) v9 [] j9 (by simp only[aQ];omega) (fun x hx=>by cases hx) .clip [] (.inl ⟨rfl,rfl,rfl⟩);refine⟨⟨nv,v1,v5,v6,U,es,rs'⟩,j',⟨by show nv.length<=100;omega,hbl,q1,hb.e,q2⟩, ?_⟩;rw[am xbI];rcases q3 with⟨rfl,rfl,rfl⟩|⟨rfl,rfl⟩
   ·simp only[aI,mZ,Man.sv,eP,df]at g1 g2 g3 g5 g6 g7 g8 g9 q4 gd ⊢
    simp only[go_sem,Qb,Qc,Qd,Qe,Qg,Qh,Qi,Qj,Qk,reduceCtorEq,reduceIte,g1,g2,g3,g5,g6,g7,g8,g9,eI,gv,pU,h2i,dx,hve,gd,yg,n3,e5,p8',<-hU,q4]
   ·simp only[aI,mZ,Man.sv,eP,df]at g1 g2 g3 g5 g6 g7 g8 g9 q4 gd ⊢
    simp only[go_sem,Qb,Qc,Qd,Qe,Qg,Qh,Qi,Qj,Qk,reduceCtorEq,reduceIte,g1,g2,g3,g5,g6,g7,g8,g9,eI,gv,pU,h2i,dx,hve,gd,yg,n3,e5,p8',<-hU,q4]
structure MsS(ms:List Man):Prop where
 n:ms.length<=10
 m:∀m∈ms,TD m
theorem MsS.bd{ms:List Man}(h:MsS ms):ms.length<=1000000/\∀m∈ms,eX m:=⟨by have:=h.n;omega,fun m hm=>(h.m m hm).bd⟩
def mH(l:List Man):List (List SV):=l.map Man.sv
theorem D4(l:List Man)(x:Man):mH l++ [x.sv]=mH (l++ [x]):=by rw[mH,mH,bx];rfl
theorem l23(B:List UInt8)(hB:B.length<=1000)(ch:List Img)(hc:eD ch):∀(n:Nat)(ms:List Man)(j:Nat),ms.length+n<=10->(∀m∈ms,TD m)->
 ∃(ms':List Man)(j':Nat),MsS ms'/\
 run T (.loop PZ) ⟨[(1,.lst 4 (fm ch) .no),(5,.ptr 10100 0),(6,.lst 7 (mH ms) (.id 106)),(7,.int .i64 (n:Int))],[(10100,aI B j)],[106]⟩=
  some (.x 0,⟨[(6,.lst 7 (mH ms') (.id 106))],[(10100,aI B j')],[106]⟩):=by
 intro n;induction n with
 |zero=>intro ms j h1 h2;refine⟨ms,j,⟨by omega,h2⟩, ?_⟩;rw[aj];simp only[aI];simp only[go_sem,Q4,Qh,Qj,Qk,reduceIte]
 |succ n ih=>
  intro ms j h1 h2;obtain⟨m,j1,hm,g⟩:=f64 B hB j ch hc;have hp:(0:Int)<((n+1:Nat):Int):=by omega
  have e1:ai.wrap (((n+1:Nat):Int)-1)=(n:Int):=wZ (by omega)
  obtain⟨ms',j',q1,q2⟩:=ih (ms++ [m]) j1 (by rw[ah,aD];omega) (fun x hx=>by
   rw[an,bp]at hx;rcases hx with hx|rfl
   ·exact h2 x hx
   ·exact hm)
  refine⟨ms',j',q1, ?_⟩;have hv:(mH ms).length=ms.length:=aX ..;have b1:(ms.length+1)*96<=140737488355328:=by omega
  rw[<-D4]at q2;obtain⟨m1,m2,m3,m4,m5,m6,m7⟩:=m;rw[aj];simp only[aI,Man.sv]at g q2 ⊢;simp only[go_sem,Qe,Qg,Qh,Qi,Qj,Qk,reduceIte,hp,g,xpT,hv,b1,e1,q2]
theorem f23(ma:List UInt8)(ch:List Img)(hc:eD ch):∃ms,MsS ms/\call T 23 [.byt ma .no,.lst 4 (fm ch) .no] [] 0=some ⟨.lst 7 (mH ms) .no,[],[]⟩:=by
 have g0:=f35 ma 120;rw[show((120:Nat):Int)=120 from rfl]at g0;have hB:(ma.take 120).length<=1000:=by rw[ay];omega
 generalize ma.take 120=B at*;obtain⟨v,j1,hv,g1⟩:=eU B hB 0 5 (by omega);rw[cz5]at g1;obtain⟨ms,j',q1,q2⟩:=l23 B hB ch hc v [] j1 (by simp only[aQ];omega) (fun m hm=>by cases hm);refine⟨ms,q1, ?_⟩;rw[am xpA];simp only[aI,c0,mH,df]at g0 g1 q2 ⊢;simp only[go_sem,Qe,Qg,Qh,Qi,Qj,Qk,reduceCtorEq,reduceIte,g0,Pe,g1,eI,q2]
theorem wq:∀a:List UInt8,Lib.compareBytes a a=0
 |[]=>rfl
 |x::r=>by have h:=wq r;simp[Lib.compareBytes,h]
theorem zj:∀a b c:List UInt8,Lib.compareBytes a b<0->Lib.compareBytes b c<0->Lib.compareBytes a c<0
 |[],[],_,h,_=>by simp[Lib.compareBytes]at h
 |[],_::_,[],_,k=>by simp[Lib.compareBytes]at k
 |[],_::_,_::_,_,_=>by simp[Lib.compareBytes]
 |_::_,[],_,h,_=>by simp[Lib.compareBytes]at h
 |_::_,_::_,[],_,k=>by simp[Lib.compareBytes]at k
 |x::r,y::s,z::t,h,k=>by
  have ih:=zj r s t;unfold Lib.compareBytes at h k ⊢;have e1:(x<y)=(x.toNat<y.toNat):=rfl;have e2:(y<z)=(y.toNat<z.toNat):=rfl;have e3:(x<z)=(x.toNat<z.toNat):=rfl;have e4:(y<x)=(y.toNat<x.toNat):=rfl;have e5:(z<y)=(z.toNat<y.toNat):=rfl;have e6:(z<x)=(z.toNat<x.toNat):=rfl;simp only[e1,e2,e3,e4,e5,e6]at h k ⊢
  by_cases a1:x.toNat<y.toNat
  ·by_cases a2:y.toNat<z.toNat
   ·rw[if_pos (by omega)];decide
   ·rw[if_neg a2]at k
    by_cases a3:z.toNat<y.toNat
    ·rw[if_pos a3]at k;exact absurd k (by decide)
    ·rw[if_pos (by omega)];decide
  ·rw[if_neg a1]at h
   by_cases a4:y.toNat<x.toNat
   ·rw[if_pos a4]at h;exact absurd h (by decide)
   ·rw[if_neg a4]at h
    by_cases a2:y.toNat<z.toNat
    ·rw[if_pos (by omega)];decide
    ·rw[if_neg a2]at k
     by_cases a3:z.toNat<y.toNat
     ·rw[if_pos a3]at k;exact absurd k (by decide)
     ·rw[if_neg a3]at k
      rw[if_neg (by omega),if_neg (by omega)];exact ih h k
theorem wt:∀{a b:List UInt8},¬Lib.compareBytes a b<0->¬Lib.compareBytes a b=0->Lib.compareBytes b a<0
 |[],[],_,k=>absurd rfl k
 |[],_::_,h,_=>absurd (by simp[Lib.compareBytes]) h
 |_::_,[],_,_=>by simp[Lib.compareBytes]
 |x::r,y::s,h,k=>by
  unfold Lib.compareBytes at h k ⊢
  by_cases a1:x<y
  ·rw[if_pos a1]at h;exact absurd (by decide) h
  ·rw[if_neg a1]at h k
   by_cases a2:y<x
   ·rw[if_pos a2];decide
   ·rw[if_neg a2]at h k
    rw[if_neg a2,if_neg a1];exact wt h k
def wz(L:List (List UInt8)):Prop:=L.Pairwise fun a b=>Lib.compareBytes a b<0
def lbB(L:List (List UInt8))(d:List UInt8):Nat:=(L.takeWhile fun x=>decide (Lib.compareBytes x d<0)).length
theorem mh:∀(L:List (List UInt8))(d:List UInt8),lbB L d<=L.length
 |[],_=>aM _
 |x::r,d=>by
  unfold lbB;rw[List.takeWhile_cons];split
  ·rw[av,av];exact Nat.succ_le_succ (mh r d)
  ·exact bL _
theorem nf:∀(L:List (List UInt8))(d:List UInt8),wz L->∀k,k<L.length->(Lib.compareBytes (L.getD k []) d<0↔k<lbB L d)
 |[],_,_,k,h=>by simp at h
 |x::r,d,hs,k,hk=>by
  obtain⟨h1,h2⟩:=cX.1 hs;have ih:=nf r d h2;unfold lbB;rw[List.takeWhile_cons]
  by_cases hx:Lib.compareBytes x d<0
  ·rw[if_pos (decide_eq_true hx),av]
   cases k with
   |zero=>rw[bc];exact⟨fun _=>by omega,fun _=>hx⟩
   |succ k=>rw[bh,ih k (by rw[av]at hk;omega)];unfold lbB;omega
  ·rw[if_neg (by simpa using hx)]
   simp only[aQ,Nat.not_lt_zero,iff_false];cases k with
   |zero=>rw[bc];exact hx
   |succ k=>rw[bh];intro hy;rw[av]at hk;have hm:r.getD k []∈r:=bG r [] k (by omega);exact hx (zj _ _ _ (h1 _ hm) hy)
def qV(L:List (List UInt8))(d:List UInt8):Bool:=decide (lbB L d<L.length/\L.getD (lbB L d) []=d)
def jB(L:List (List UInt8))(d:List UInt8):List (List UInt8):=if qV L d=true then L else L.take (lbB L d)++d::L.drop (lbB L d)
theorem GX(L:List (List UInt8))(d:List UInt8):(jB L d).length<=L.length+1:=by
 have:=mh L d;unfold jB;split
 ·omega
 ·rw[ah,av,ay,aE];omega
theorem GU(L:List (List UInt8))(d:List UInt8)(hs:wz L):wz (jB L d):=by
 unfold jB
 by_cases h:qV L d=true
 ·rw[if_pos h];exact hs
 ·rw[if_neg h]
  have hle:=mh L d;have hif:=nf L d hs
  have hlt:∀x∈L.take (lbB L d),Lib.compareBytes x d<0:=fun x hx=>by obtain⟨k,hk,rfl⟩:=bJ hx;rw[ay]at hk;rw[List.getElem_take];have:=(hif k (by omega)).2 (by omega);rwa[aa,af (by omega)]at this
  have hgt:∀x∈L.drop (lbB L d),Lib.compareBytes d x<0:=fun x hx=>by
   obtain⟨k,hk,rfl⟩:=bJ hx;rw[aE]at hk;rw[List.getElem_drop]
   have h1:¬Lib.compareBytes (L.getD (lbB L d+k) []) d<0:=fun h=>by have:=(hif (lbB L d+k) (by omega)).1 h;omega
   rw[aa,af (by omega),bq]at h1
   have h2:L[lbB L d+k]'(by omega)≠d:=by
    intro e
    by_cases hk0:k=0
    ·subst hk0
     refine h ?_;unfold qV;refine decide_eq_true ⟨by omega, ?_⟩;rw[aa,af (by omega)];exact e
    ·have h3:=(oU.1 hs) (lbB L d) (lbB L d+k) (by omega) (by omega) (by omega)
     rw[e]at h3;have h4:=(hif (lbB L d) (by omega)).1 (by rw[aa,af (by omega)];exact h3);omega
   have h5:¬Lib.compareBytes (L[lbB L d+k]'(by omega)) d=0:=fun e=>h2 ((nj _ _).1 e)
   exact wt h1 h5
  refine lB.2 ⟨hs.sublist (List.take_sublist _ _),cX.2 ⟨hgt,hs.sublist (List.drop_sublist _ _)⟩,fun a ha b hb=> ?_⟩;rcases au.1 hb with rfl|hb
  ·exact hlt a ha
  ·exact zj _ _ _ (hlt a ha) (hgt b hb)
theorem tw(L:List (List UInt8))(k:Nat)(d:List UInt8):lr (bls L) k (.byt d .no)=bls (L.take k++d::L.drop k):=by unfold lr bls;rw[bx,aP,lC,List.map_drop]
end Go.Proofs.YtdafipacemgcoaaGreatDoor
