/- What the functions come to. No condition. -/
import Derived.Test.YtdafipacemgcoaaGreatDoorTbR
open Bool renaming false_and → E8, false_eq_true → aD, false_or → dh, true_or → fZ
open Int renaming natCast_zero → aC
open Go.IntKind renaming i64 → af, u64 → bi
open List renaming append_assoc → aU, append_nil → bj, cons_append → bG, drop → fO, drop_eq_getElem_cons → aX, drop_length → aR, drop_zero → aY, foldl_cons → mJ, getD_cons_succ → bw, getD_cons_zero → bm, getD_eq_getElem?_getD → aa, getElem?_append_right → bN, getElem?_eq_getElem → ab, getElem_mem → aT, getElem_of_mem → bV, length_append → ah, length_cons → ax, length_drop → aF, length_eq_zero_iff → bJ, length_map → aQ, length_nil → bc, length_set → eZ, length_singleton → aH, length_take → ay, map_append → bz, map_cons → aL, map_nil → bT, mem_append → aj, mem_cons → ao, mem_cons_of_mem → au, mem_cons_self → aA, mem_map → aS, mem_of_mem_drop → gV, mem_of_mem_take → bH, mem_singleton → aV, nil_append → bp, not_mem_nil → dX, replicate → am, take → cT, take_length → br, take_of_length_le → co
open Nat renaming add_mul → bP, add_zero → eP, le_refl → aZ, le_trans → cu, lt_or_ge → bR, mul_one → dm, zero_add → cO, zero_le → cL
open Option renaming some → av
open UInt8 renaming ofInt → bQ
set_option maxRecDepth 100000
set_option maxHeartbeats 16000000
set_option linter.unusedSimpArgs false
set_option linter.unusedVariables false
namespace Go.Proofs.YtdafipacemgcoaaGreatDoor
open Go.Sy
open UInt8 renaming reduceLT → Q0, reduceLE → Q1
open Int renaming reduceToNat → Q2, reduceLE → Q3, reduceLT → Q4, reduceEq → Q5, reduceNe → Q6, reduceNeg → Q7, reduceAdd → Q8, reduceSub → Q9, reduceMul → Qa
open Nat renaming reducePow → Qb, reduceDiv → Qc, reduceMod → Qd, reduceAdd → Qe, reduceSub → Qf, reduceMul → Qg, reduceLT → Qh, reduceLeDiff → Qi, reduceEqDiff → Qj, reduceBEq → Qk
def fQ {α:Type} (p:α→Bool):List α→Nat→Int
 |[],_=> -1
 |x::r,i=>if p x=true then(i:Int)else fQ p r (i+1)
def itE (e:Ev) (x:Ent):Bool:=decide (e.reg=tx x.role)&&(decide (e.dg.getD 1 []=x.dig)&&decide (e.data=tT x.name x.ver))
def EX (x:Ent):Prop:=0≤x.ver∧x.ver≤1000000∧x.name.length≤1000000
theorem T2 {l:List Ent} {i:Nat} (h:lG l i=0):1≤(l.getD i en0).role∧(l.getD i en0).role≤3∧0≤(l.getD i en0).ver∧(l.getD i en0).ver≤1000000∧(l.getD i en0).dig.length=32∧Pr.nameB (l.getD i en0).name=true:=by
 unfold lG at h;generalize l.getD i en0=x at*
 repeat' split at h
 all_goals first|omega|skip
 all_goals (refine⟨by omega,by omega,by omega,by omega,by omega,by assumption⟩)
theorem wt (l:List Ent):∀(n i:Nat),gH l n i=0→∀k,i≤k→k<i+n→lG l k=0
 |0,i,_,k,h1,h2=>by omega
 |n+1,i,h,k,h1,h2=>by
  unfold gH at h
  by_cases h0:lG l i=0
  ·rw [if_pos h0]at h
   rcases bR i k with h3|h3
   ·exact wt l n (i+1) h k (by omega) (by omega)
   ·have:k=i:=by omega
    rw [this];exact h0
  ·rw [if_neg h0]at h;exact absurd h h0
theorem Tp {m:Man} (h:lY m=0):gH m.ents m.ents.length 0=0∧jU m.ruls=0∧m.ents.length≤16∧m.ruls.length≤8∧Pr.nameB m.vendor=true∧0≤m.flr∧m.flr≤m.ver∧m.ver≤1000000∧0≤m.frm∧m.frm<m.til∧m.til≤1099511627776:=by
 unfold lY at h
 by_cases h0:Pr.nameB m.vendor=true
 ·rw [if_pos h0]at h
  repeat' split at h
  all_goals first|(exfalso;omega)|skip
  refine⟨by assumption,h,by omega,by omega,h0,by omega,by omega,by omega,by omega,by omega,by omega⟩
 ·rw [if_neg h0]at h;omega
theorem C4 {m:Man} (h:lY m=0):∀x∈m.ents,1≤x.role∧x.role≤3∧EX x∧x.dig.length=32∧Pr.nameB x.name=true:=by
 intro x hx;obtain⟨i,hi,rfl⟩:=bV hx;have h1:=T2 (wt m.ents _ 0 (Tp h).1 i (cL _) (by omega));have e:m.ents.getD i en0=m.ents[i]:=by rw [aa,ab hi];rfl
 rw [e]at h1;obtain⟨a,b,c,d,f,g⟩:=h1;have:=kV g;exact⟨a,b,⟨c,d,by omega⟩,f,g⟩
theorem f46 (e:Ev) (x:Ent) (hd:e.dg.length=2) (hx:EX x):call T 46 [.agg x.sv,.ptr 0 0] [.rc e.sv] 0=some ⟨.bool (itE e x),[(0,.rc e.sv)],[]⟩:=by
 obtain⟨h0,h1,h2⟩:=hx;have g1:=f47 x.role;have g2:=f48 (e.dg.getD 1 []) x.dig;obtain⟨v,hv⟩:=Int.eq_ofNat_of_zero_le h0;have g3:=f49 v (by omega);have hl:=jp 6 v (by omega);obtain⟨g,k,ds,b⟩:=e;obtain⟨ro,na,ve,di⟩:=x;simp only at hd hv h2 g1 g2;subst hv;rw [two ds [] hd]at*;generalize ds.getD 0 []=d0 at*;generalize ds.getD 1 []=d1 at*;have hbl:bls [d0,d1]=[[.byt d0 .no],[.byt d1 .no]]:=rfl;simp only [bm,bw]at g2;rw [aq xrT];unfold itE Ev.sv Ent.sv tT;have c1:na.length+1≤9223372036854775807:=by omega
 have c2:na.length+1+(dec v).length≤9223372036854775807:=by omega
 simp only [hbl,bm,bw,Int.toNat_natCast]
 by_cases a1:g=tx ro
 ·by_cases a2:d1=di
  ·rw [decide_eq_true a2]at g2
   simp only [go_sem,Q2,Q3,Q4,Qb,Qc,Qd,Qe,Qh,Qi,Qj,Qk,reduceCtorEq,reduceIte,g1,Fh,a1,g2,wL,g3,xsu,c1,c2,decide_eq_true a2]
  ·rw [decide_eq_false a2]at g2
   simp only [go_sem,Q2,Q3,Q4,Qb,Qc,Qd,Qe,Qh,Qi,Qj,Qk,reduceCtorEq,reduceIte,g1,Fh,a1,g2,wL,decide_eq_false a2]
 ·simp only [go_sem,Qb,Qc,Qd,Qe,Qh,Qi,Qj,Qk,reduceCtorEq,reduceIte,g1,Fh,a1]
theorem l45 (e:Ev) (es:List Ent) (hd:e.dg.length=2) (hx:∀x∈es,EX x) (hn:es.length≤1000000):∀(n i:Nat),es.length-i=n→i≤es.length→
 run T (.loop Rk) ⟨[(0,.lst 4 (dw es) .no),(1,.fn 46 [] [.ptr 0 0]),(7,.int .i64 es.length),(8,.int .i64 i)],[(0,.rc e.sv)],[]⟩=
 if fQ (itE e) (es.drop i) i= -1 then some (.x 0,⟨[],[(0,.rc e.sv)],[]⟩)else some (.r,⟨[(4,.int .i64 (fQ (itE e) (es.drop i) i))],[(0,.rc e.sv)],[]⟩):=by
 intro n;induction n with
 |zero=>
  intro i h0 h1;have:i=es.length:=by omega
  subst this;rw [ak,aR];simp only [go_sem,Q7,Qh,Qj,Qk,reduceCtorEq,reduceIte,fQ]
 |succ n ih=>
  intro i h0 h1;have hi:i<es.length:=by omega
  have e1:=bW i (by omega);have ih':=ih (i+1) (by omega) (by omega);have hv:=db es;have hg:=fW es i hi;have g:=f46 e (es.getD i en0) hd (hx _ (cI es en0 i hi));have hdr:es.drop i=es.getD i en0::es.drop (i+1):=by rw [aX hi,aa,ab hi];rfl
  rw [hdr];generalize es.drop (i+1)=R at*;generalize es.getD i en0=x at*;obtain⟨ro,na,ve,di⟩:=x;simp only [Ev.sv,Ent.sv]at*;rw [ak];unfold fQ;cases hb:itE e ⟨ro,na,ve,di⟩with
  |true=>
   rw [hb]at g;have hne:¬(i:Int)= -1:=by omega
   simp only [go_sem,Q7,Qe,Qg,Qh,Qi,Qj,Qk,reduceCtorEq,reduceIte,hi,hv,hg,g,xpv,hne]
  |false=>rw [hb]at g;simp only [go_sem,Q7,Qe,Qg,Qh,Qi,Qj,Qk,reduceCtorEq,reduceIte,hi,e1,hv,hg,g,xpv,ih']
theorem f45 (e:Ev) (es:List Ent) (hd:e.dg.length=2) (hx:∀x∈es,EX x) (hn:es.length≤1000000):
 call T 45 [.lst 4 (dw es) .no,.fn 46 [] [.ptr 0 0]] [.rc e.sv] 0=some ⟨.int .i64 (fQ (itE e) es 0),[(0,.rc e.sv)],[]⟩:=by
 have h:=l45 e es hd hx hn _ 0 rfl (by omega);simp only [aC,aY]at h;have hv:=db es;rw [aq xrU];unfold Ev.sv at h ⊢
 by_cases hq:fQ (itE e) es 0= -1
 ·rw [if_pos hq]at h
  simp only [go_sem,Q7,Qe,Qh,Qi,Qj,Qk,reduceCtorEq,reduceIte,hv,h,hq]
 ·rw [if_neg hq]at h
  simp only [go_sem,Q7,Qe,Qh,Qi,Qj,Qk,reduceCtorEq,reduceIte,hv,h]
def alR (b:List UInt8) (r:Rul):Bool:=alw r.kind r.text r.lo r.hi b
theorem f52 (e:Ev) (r:Rul) (ht:r.text.length≤1000000) (hb:e.data.length≤1000000):call T 52 [.agg r.sv,.ptr 0 0] [.rc e.sv] 0=some ⟨.bool (alR e.data r),[(0,.rc e.sv)],[]⟩:=by have g:=f53 r.kind r.text r.lo r.hi e.data (by omega) (by omega);obtain⟨g',k,ds,b⟩:=e;obtain⟨q,t,lo,hi⟩:=r;rw [aq xrN];unfold alR Ev.sv Rul.sv;simp only [go_sem,Qe,Qh,Qi,Qj,Qk,reduceCtorEq,reduceIte,g,xst]
theorem l51 (e:Ev) (rs:List Rul) (hb:e.data.length≤1000000) (hx:∀x∈rs,x.text.length≤1000000) (hn:rs.length≤1000000):∀(n i:Nat),rs.length-i=n→i≤rs.length→
 run T (.loop Rh) ⟨[(0,.lst 4 (eN rs) .no),(1,.fn 52 [] [.ptr 0 0]),(7,.int .i64 rs.length),(8,.int .i64 i)],[(0,.rc e.sv)],[]⟩=
 if fQ (alR e.data) (rs.drop i) i= -1 then some (.x 0,⟨[],[(0,.rc e.sv)],[]⟩)else some (.r,⟨[(4,.int .i64 (fQ (alR e.data) (rs.drop i) i))],[(0,.rc e.sv)],[]⟩):=by
 intro n;induction n with
 |zero=>
  intro i h0 h1;have:i=rs.length:=by omega
  subst this;rw [ak,aR];simp only [go_sem,Q7,Qh,Qj,Qk,reduceCtorEq,reduceIte,fQ]
 |succ n ih=>
  intro i h0 h1;have hi:i<rs.length:=by omega
  have e1:=bW i (by omega);have ih':=ih (i+1) (by omega) (by omega);have hv:=eF rs;have hg:=kB rs i hi;have g:=f52 e (rs.getD i rl0) (hx _ (cI rs rl0 i hi)) hb;have hdr:rs.drop i=rs.getD i rl0::rs.drop (i+1):=by rw [aX hi,aa,ab hi];rfl
  rw [hdr];generalize rs.drop (i+1)=R at*;generalize rs.getD i rl0=x at*;obtain⟨q,t,lo,hi'⟩:=x;simp only [Ev.sv,Rul.sv]at*;rw [ak];unfold fQ;cases hb:alR e.data ⟨q,t,lo,hi'⟩with
  |true=>
   rw [hb]at g;have hne:¬(i:Int)= -1:=by omega
   simp only [go_sem,Q7,Qe,Qg,Qh,Qi,Qj,Qk,reduceCtorEq,reduceIte,hi,hv,hg,g,xpt,hne]
  |false=>rw [hb]at g;simp only [go_sem,Q7,Qe,Qg,Qh,Qi,Qj,Qk,reduceCtorEq,reduceIte,hi,e1,hv,hg,g,xpt,ih']
theorem f51 (e:Ev) (rs:List Rul) (hb:e.data.length≤1000000) (hx:∀x∈rs,x.text.length≤1000000) (hn:rs.length≤1000000):
 call T 51 [.lst 4 (eN rs) .no,.fn 52 [] [.ptr 0 0]] [.rc e.sv] 0=some ⟨.int .i64 (fQ (alR e.data) rs 0),[(0,.rc e.sv)],[]⟩:=by
 have h:=l51 e rs hb hx hn _ 0 rfl (by omega);simp only [aC,aY]at h;have hv:=eF rs;rw [aq xrO];unfold Ev.sv at h ⊢
 by_cases hq:fQ (alR e.data) rs 0= -1
 ·rw [if_pos hq]at h
  simp only [go_sem,Q7,Qe,Qh,Qi,Qj,Qk,reduceCtorEq,reduceIte,hv,h,hq]
 ·rw [if_neg hq]at h
  simp only [go_sem,Q7,Qe,Qh,Qi,Qj,Qk,reduceCtorEq,reduceIte,hv,h]
theorem pX {α:Type} (p:α→Bool):∀(l:List α) (i:Nat),fQ p l i= -1∨((i:Int)≤fQ p l i∧fQ p l i<i+l.length)
 |[],_=> .inl rfl
 |x::r,i=>by
  unfold fQ
  by_cases h:p x=true
  ·rw [if_pos h,ax];right;omega
  ·rw [if_neg h,ax]
   rcases pX p r (i+1)with h|h
   ·exact .inl h
   ·right;omega
structure rG (e:Ev):Prop where
 d2:e.dg.length=2
 b:e.data.length≤1000000
 d0:(e.dg.getD 0 []).length≤1000000
 d1:(e.dg.getD 1 []).length≤1000000
def fb (m:Man) (e:Ev):Int:=
 if lY m=0 then
  (if e.kind=1 then fQ (itE e) m.ents 0
  else if e.kind=3 then(if e.reg=9 then(if sK e=true then(if 0≤fQ (alR e.data) m.ruls 0 then(m.ents.length:Int)+fQ (alR e.data) m.ruls 0 else-1)else-1)else-1)
  else-1)
 else-1
theorem f15 (m:Man) (hm:fH m) (e:Ev) (he:rG e):call T 15 [.agg m.sv,.agg e.sv] [] 0=some ⟨.int .i64 (fb m e),[],[]⟩:=by
 have g1:=f44 m hm;have g3:=f47 4;have k9:tx 4=9:=rfl;have g4:=f50 e he.d2 he.b;have g5:=f51 e m.ruls he.b hm.r hm.rn;have hr:=pX (alR e.data) m.ruls 0;have hv:=db m.ents;have hen:=hm.en;have hrn:=hm.rn;rw [k9]at g3;have g2:lY m=0→call T 45 [.lst 4 (dw m.ents) .no,.fn 46 [] [.ptr 0 0]] [.rc e.sv] 0=some ⟨.int .i64 (fQ (itE e) m.ents 0),[(0,.rc e.sv)],[]⟩:=fun h=>f45 e m.ents he.d2 (fun x hx=>(C4 h x hx).2.2.1) hm.en
 clear hm he;obtain⟨mv,m1,m2,m3,m4,es,rs⟩:=m;obtain⟨g',k,ds,b⟩:=e;rw [aq xsf];unfold fb;simp only [Man.sv,Ev.sv]at*
 by_cases h0:lY ⟨mv,m1,m2,m3,m4,es,rs⟩=0
 ·have g2':=g2 h0
  rw [h0]at g1
  by_cases h1:k=1
  ·subst h1
   simp only [go_sem,Q5,Q7,Qe,Qg,Qh,Qi,Qj,Qk,reduceCtorEq,reduceIte,g1,sV,h0,g2',xsv]
  ·by_cases h3:k=3
   ·subst h3
    by_cases h9:g'=9
    ·subst h9
     cases hc:sK ⟨9,3,ds,b⟩with
     |false=>rw [hc]at g4;simp only [go_sem,Q5,Q7,Qb,Qc,Qd,Qe,Qg,Qh,Qi,Qj,Qk,reduceCtorEq,reduceIte,g1,sV,h0,g3,Fh,g4,QQ]
     |true=>
      rw [hc]at g4;generalize fQ (alR b) rs 0=z at*
      by_cases hz:0≤z
      ·have ew:af.wrap ((es.length:Int)+z)=(es.length:Int)+z:=w64 (by omega) (by omega)
       simp only [go_sem,Q5,Q7,Qb,Qc,Qd,Qe,Qg,Qh,Qi,Qj,Qk,reduceCtorEq,reduceIte,g1,sV,h0,g3,Fh,g4,QQ,g5,xpu,hz,hv,ew]
      ·simp only [go_sem,Q5,Q7,Qb,Qc,Qd,Qe,Qg,Qh,Qi,Qj,Qk,reduceCtorEq,reduceIte,g1,sV,h0,g3,Fh,g4,QQ,g5,xpu,hz]
    ·simp only [go_sem,Q5,Q7,Qb,Qc,Qd,Qe,Qg,Qh,Qi,Qj,Qk,reduceCtorEq,reduceIte,g1,sV,h0,g3,Fh,h9]
   ·simp only [go_sem,Q7,Qe,Qg,Qh,Qi,Qj,Qk,reduceCtorEq,reduceIte,g1,sV,h0,h1,h3]
 ·simp only [go_sem,Q7,Qe,Qh,Qi,Qj,Qk,reduceCtorEq,reduceIte,g1,sV,h0]
theorem l19 (m:Man) (hm:fH m) (h0:lY m=0) (e:Ev) (he:rG e):∀(n i:Nat),m.ents.length-i=n→i≤m.ents.length→
 (fQ (itE e) (m.ents.drop i) i= -1→run T (.loop uJ) ⟨[(2,.ptr 102 0),(3,.ptr 103 0),(5,.int .i64 i)],[(102,.rc m.sv),(103,.rc e.sv)],[]⟩=some (.x 0,⟨[(2,.ptr 102 0),(3,.ptr 103 0)],[(102,.rc m.sv),(103,.rc e.sv)],[]⟩))∧
 (fQ (itE e) (m.ents.drop i) i≠ -1→∃ob,run T (.loop uJ) ⟨[(2,.ptr 102 0),(3,.ptr 103 0),(5,.int .i64 i)],[(102,.rc m.sv),(103,.rc e.sv)],[]⟩=some (.r,⟨[(4,.int .i64 (fQ (itE e) (m.ents.drop i) i))],ob,[]⟩)):=by
 intro n;induction n with
 |zero=>
  intro i hz h1;have hi:i=m.ents.length:=by omega
  have hv:=db m.ents;subst hi;rw [aR];refine⟨fun _=> ?_,fun h=>absurd rfl h⟩;obtain⟨mv,m1,m2,m3,m4,es,rs⟩:=m;simp only [Man.sv]at*;rw [ak];simp only [go_sem,Qe,Qh,Qi,Qj,Qk,reduceIte,hv]
 |succ n ih=>
  intro i hz h1;have hi:i<m.ents.length:=by omega
  have hen:=hm.en;have e1:=bW i (by omega);obtain⟨i1,i2⟩:=ih (i+1) (by omega) (by omega);have hv:=db m.ents;have hg:=fW m.ents i hi;obtain⟨_,_,⟨c0,c1,c2⟩,hdl,_⟩:=C4 h0 _ (cI m.ents en0 i hi);have g1:=f55 (m.ents.getD i en0).role;have g2:=f25 (m.ents.getD i en0).dig (e.dg.getD 1 []) (by omega);have g3:=f56 (m.ents.getD i en0).name (m.ents.getD i en0).ver c2 c0 c1;have g4:=f25 e.data (tT (m.ents.getD i en0).name (m.ents.getD i en0).ver) (by have:=he.b;omega);have hdr:m.ents.drop i=m.ents.getD i en0::m.ents.drop (i+1):=by rw [aX hi,aa,ab hi];rfl
  have hd2:=he.d2;rw [hdr];clear hm he h0 ih;generalize m.ents.drop (i+1)=R at*;generalize m.ents.getD i en0=x at*;obtain⟨mv,m1,m2,m3,m4,es,rs⟩:=m;obtain⟨ro,na,ve,di⟩:=x;obtain⟨g',k,ds,b⟩:=e;simp only at hd2 g2 g4;rw [two ds [] hd2]at*;generalize ds.getD 0 []=d0 at*;generalize ds.getD 1 []=d1 at*;have hbl:bls [d0,d1]=[[.byt d0 .no],[.byt d1 .no]]:=rfl;simp only [Man.sv,Ev.sv,Ent.sv,hbl,bm,bw]at*;unfold fQ;have hit:itE ⟨g',k,[d0,d1],b⟩ ⟨ro,na,ve,di⟩=(decide (g'=tx ro)&&(decide (d1=di)&&decide (b=tT na ve))):=rfl;rw [hit]
  by_cases a1:tx ro=g'
  ·rw [decide_eq_true a1.symm]
   by_cases a2:di=d1
   ·rw [decide_eq_true a2]at g2
    rw [decide_eq_true a2.symm]
    by_cases a3:b=tT na ve
    ·rw [decide_eq_true a3]at g4 ⊢
     have hne:¬(i:Int)= -1:=by omega
     refine⟨fun h=>by simp [hne]at h,fun _=>⟨[(102,.rc [.str mv,.int .i64 m1,.int .i64 m2,.int .i64 m3,.int .i64 m4,.lst 4 (dw es) .no,.lst 4 (eN rs) .no]),(103,.rc [.int .i64 g',.int .i64 k,.lst 1 [[.byt d0 .no],[.byt d1 .no]] .no,.byt b .no]),(106,.rc [.int .i64 ro,.str na,.int .i64 ve,.byt di .no])], ?_⟩⟩;rw [ak];simp only [go_sem,Q2,Q3,Q4,Qb,Qc,Qd,Qe,Qh,Qi,Qj,Qk,reduceCtorEq,reduceIte,hi,hv,hg,g1,Dq,a1,g2,lO,g3,xeY,g4]
    ·rw [decide_eq_false a3]at g4 ⊢
     simp only [Bool.and_false,aD,if_false];refine⟨fun h=> ?_,fun h=> ?_⟩
     ·have i1':=i1 h
      rw [ak];simp only [go_sem,Q2,Q3,Q4,Qb,Qc,Qd,Qe,Qh,Qi,Qj,Qk,reduceCtorEq,reduceIte,hi,e1,hv,hg,g1,Dq,a1,g2,lO,g3,xeY,g4,i1']
     ·obtain⟨ob,i2'⟩:=i2 h
      refine⟨ob, ?_⟩;rw [ak];simp only [go_sem,Q2,Q3,Q4,Qb,Qc,Qd,Qe,Qh,Qi,Qj,Qk,reduceCtorEq,reduceIte,hi,e1,hv,hg,g1,Dq,a1,g2,lO,g3,xeY,g4,i2']
   ·rw [decide_eq_false a2]at g2
    rw [decide_eq_false (fun h=>a2 h.symm)];simp only [Bool.and_false,E8,aD,if_false];refine⟨fun h=> ?_,fun h=> ?_⟩
    ·have i1':=i1 h
     rw [ak];simp only [go_sem,Q2,Q3,Q4,Qb,Qc,Qd,Qe,Qh,Qi,Qj,Qk,reduceCtorEq,reduceIte,hi,e1,hv,hg,g1,Dq,a1,g2,lO,i1']
    ·obtain⟨ob,i2'⟩:=i2 h
     refine⟨ob, ?_⟩;rw [ak];simp only [go_sem,Q2,Q3,Q4,Qb,Qc,Qd,Qe,Qh,Qi,Qj,Qk,reduceCtorEq,reduceIte,hi,e1,hv,hg,g1,Dq,a1,g2,lO,i2']
  ·rw [decide_eq_false (fun h=>a1 h.symm)]
   simp only [E8,aD,if_false];refine⟨fun h=> ?_,fun h=> ?_⟩
   ·have i1':=i1 h
    rw [ak];simp only [go_sem,Qb,Qc,Qd,Qe,Qh,Qi,Qj,Qk,reduceCtorEq,reduceIte,hi,e1,hv,hg,g1,Dq,a1,i1']
   ·obtain⟨ob,i2'⟩:=i2 h
    refine⟨ob, ?_⟩;rw [ak];simp only [go_sem,Qb,Qc,Qd,Qe,Qh,Qi,Qj,Qk,reduceCtorEq,reduceIte,hi,e1,hv,hg,g1,Dq,a1,i2']
theorem xqk (m:Man) (hm:fH m) (e:Ev) (he:rG e):∀(n i:Nat),m.ruls.length-i=n→i≤m.ruls.length→
 (fQ (alR e.data) (m.ruls.drop i) i= -1→run T (.loop uI) ⟨[(2,.ptr 102 0),(3,.ptr 103 0),(7,.int .i64 i)],[(102,.rc m.sv),(103,.rc e.sv)],[]⟩=some (.x 2,⟨[],[(102,.rc m.sv),(103,.rc e.sv)],[]⟩))∧
 (fQ (alR e.data) (m.ruls.drop i) i≠ -1→∃ob,run T (.loop uI) ⟨[(2,.ptr 102 0),(3,.ptr 103 0),(7,.int .i64 i)],[(102,.rc m.sv),(103,.rc e.sv)],[]⟩=some (.r,⟨[(4,.int .i64 ((m.ents.length:Int)+fQ (alR e.data) (m.ruls.drop i) i))],ob,[]⟩)):=by
 intro n;induction n with
 |zero=>
  intro i hz h1;have hi:i=m.ruls.length:=by omega
  have hv:=eF m.ruls;subst hi;rw [aR];refine⟨fun _=> ?_,fun h=>absurd rfl h⟩;obtain⟨mv,m1,m2,m3,m4,es,rs⟩:=m;simp only [Man.sv]at*;rw [ak];simp only [go_sem,Qe,Qh,Qj,Qk,reduceIte,hv]
 |succ n ih=>
  intro i hz h1;have hi:i<m.ruls.length:=by omega
  have hrn:=hm.rn;have hen:=hm.en;have e1:=bW i (by omega);obtain⟨i1,i2⟩:=ih (i+1) (by omega) (by omega);have hv:=eF m.ruls;have hve:=db m.ents;have hg:=kB m.ruls i hi;have hx:=hm.r _ (cI m.ruls rl0 i hi);have hb:=he.b;have hdr:m.ruls.drop i=m.ruls.getD i rl0::m.ruls.drop (i+1):=by rw [aX hi,aa,ab hi];rfl
  have ew:af.wrap ((m.ents.length:Int)+(i:Int))=(m.ents.length:Int)+(i:Int):=w64 (by omega) (by omega);rw [hdr];clear hm he ih;generalize m.ruls.drop (i+1)=R at*;generalize m.ruls.getD i rl0=x at*;obtain⟨mv,m1,m2,m3,m4,es,rs⟩:=m;obtain⟨q,t,lo,hi'⟩:=x;obtain⟨g',k,ds,b⟩:=e;have g:=f58 q t lo hi' b (by simp only at hx;omega) (by simp only at hb;omega);simp only [Man.sv,Ev.sv,Rul.sv]at*;have hal:alR b ⟨q,t,lo,hi'⟩=alw q t lo hi' b:=rfl;unfold fQ;rw [hal];cases ha:alw q t lo hi' b with
  |true=>
   rw [ha]at g;have hne:¬(i:Int)= -1:=by omega
   refine⟨fun h=>by simp [hne]at h,fun _=>⟨[(102,.rc [.str mv,.int .i64 m1,.int .i64 m2,.int .i64 m3,.int .i64 m4,.lst 4 (dw es) .no,.lst 4 (eN rs) .no]),(103,.rc [.int .i64 g',.int .i64 k,.lst 1 (bls ds) .no,.byt b .no])], ?_⟩⟩;rw [ak];simp only [go_sem,Qb,Qc,Qd,Qe,Qh,Qi,Qj,Qk,reduceIte,hi,hv,hve,hg,g,xjL,ew]
  |false=>
   rw [ha]at g;refine⟨fun h=> ?_,fun h=> ?_⟩
   ·have i1':=i1 (by simpa using h)
    rw [ak];simp only [go_sem,Qb,Qc,Qd,Qe,Qh,Qi,Qj,Qk,reduceIte,hi,e1,hv,hve,hg,g,xjL,i1']
   ·obtain⟨ob,i2'⟩:=i2 (by simpa using h)
    refine⟨ob, ?_⟩;rw [ak];simp only [go_sem,Qb,Qc,Qd,Qe,Qh,Qi,Qj,Qk,reduceIte,hi,e1,hv,hve,hg,g,xjL,i2']
    try rfl
theorem f19 (m:Man) (hm:fH m) (e:Ev) (he:rG e):call T 19 [.agg m.sv,.agg e.sv] [] 0=some ⟨.int .i64 (fb m e),[],[]⟩:=by
 have g1:=f54 m hm;have hd2:=he.d2;have g4:=f57 e he.d2 he.b he.d0 he.d1;have hr:=pX (alR e.data) m.ruls 0;have hr2:=pX (itE e) m.ents 0;obtain⟨r1,r2⟩:=xqk m hm e he _ 0 rfl (by omega);have l0:=fun h=>l19 m hm h e he _ 0 rfl (by omega)
 have hv:=db m.ents;have hbl:(bls e.dg).length=2:=by rw [bls,aQ,hd2]
 clear hm he;obtain⟨mv,m1,m2,m3,m4,es,rs⟩:=m;obtain⟨g',k,ds,b⟩:=e;rw [aq xsc];unfold fb;simp only [Man.sv,Ev.sv,aC,aY]at*
 by_cases h0:lY ⟨mv,m1,m2,m3,m4,es,rs⟩=0
 ·obtain⟨
   l1,l2⟩:=l0 h0
  rw [h0]at g1
  by_cases h1:k=1
  ·subst h1
   by_cases hq:fQ (itE ⟨g',1,ds,b⟩) es 0= -1
   ·have l1':=l1 hq
    simp only [go_sem,Q5,Q7,Qe,Qh,Qi,Qj,Qk,reduceCtorEq,reduceIte,g1,Dr,h0,hbl,l1',hq]
   ·obtain⟨ob,l2'⟩:=l2 hq
    simp only [go_sem,Q5,Q7,Qe,Qh,Qi,Qj,Qk,reduceCtorEq,reduceIte,g1,Dr,h0,hbl,l2']
  ·by_cases h3:k=3
   ·subst h3
    by_cases h9:g'=9
    ·subst h9
     cases hc:sK ⟨9,3,ds,b⟩with
     |false=>rw [hc]at g4;simp only [go_sem,Q5,Q7,Qe,Qh,Qi,Qj,Qk,reduceCtorEq,reduceIte,g1,Dr,h0,hbl,g4,QP]
     |true=>
      rw [hc]at g4
      by_cases hq:fQ (alR b) rs 0= -1
      ·have r1':=r1 hq
       simp only [go_sem,Q3,Q5,Q7,Qe,Qh,Qi,Qj,Qk,reduceCtorEq,reduceIte,g1,Dr,h0,hbl,g4,QP,r1',hq]
      ·obtain⟨ob,r2'⟩:=r2 hq
       have hz:0≤fQ (alR b) rs 0:=by omega
       simp only [go_sem,Q5,Q7,Qe,Qh,Qi,Qj,Qk,reduceCtorEq,reduceIte,g1,Dr,h0,hbl,g4,QP,r2',hz]
    ·simp only [go_sem,Q5,Q7,Qe,Qh,Qi,Qj,Qk,reduceCtorEq,reduceIte,g1,Dr,h0,hbl,h9]
   ·simp only [go_sem,Q7,Qe,Qh,Qi,Qj,Qk,reduceCtorEq,reduceIte,g1,Dr,h0,hbl,h1,h3]
 ·simp only [go_sem,Q7,Qe,Qh,Qi,Qj,Qk,reduceCtorEq,reduceIte,g1,Dr,h0,hbl]
def mn0:Man:=⟨[],0,0,0,0,[],[]⟩
def iJ (l:List Man):List (List SV):=l.map Man.sv
theorem fU (l:List Man):(iJ l).length=l.length:=aQ ..
theorem kE (l:List Man) (i:Nat) (h:i<l.length):(iJ l).getD i []=(l.getD i mn0).sv:=by simp [iJ,aa,h]
structure oG (ms:List Man):Prop where
 n:ms.length≤1000000
 m:∀m∈ms,fH m
def frM (e:Ev):List Man→Nat→Option (Int×Int)
 |[],_=>none
 |m::r,i=>if 0≤fb m e then some ((i:Int),fb m e)else frM e r (i+1)
def iH (ms:List Man) (e:Ev):Option (Int×Int):=if e.kind=5 then some (-1, -1)else if e.kind=2 then(if sK e=true then some (-1, -1)else frM e ms 0)else frM e ms 0
theorem ld {α:Type} (l:List α) (d:α) (i:Nat) (h:i<l.length):l.drop i=l.getD i d::l.drop (i+1):=by rw [aX h,aa,ab h];rfl
theorem l40 (e:Ev) (he:rG e) (ms:List Man) (hm:oG ms):∀(n i:Nat),ms.length-i=n→i≤ms.length→
 (frM e (ms.drop i) i=none→run T (.loop uG) ⟨[(2,.ptr 102 0),(4,.ptr 104 0),(22,.lst 7 (iJ ms) .no),(23,.int .i64 ms.length),(24,.int .i64 i)],[(102,.rc e.sv),(104,.rc [.int .i64 0,.int .i64 0])],[]⟩=
  some (.x 0,⟨[(4,.ptr 104 0)],[(102,.rc e.sv),(104,.rc [.int .i64 0,.int .i64 0])],[]⟩))∧
 (∀p,frM e (ms.drop i) i=some p→∃o,run T (.loop uG) ⟨[(2,.ptr 102 0),(4,.ptr 104 0),(22,.lst 7 (iJ ms) .no),(23,.int .i64 ms.length),(24,.int .i64 i)],[(102,.rc e.sv),(104,.rc [.int .i64 0,.int .i64 0])],[]⟩=
  some (.r,⟨[(4,.ptr 104 0),(5,.bool true)],[(102,.rc e.sv),(104,.rc [.int .i64 p.1,.int .i64 p.2]),(107,o)],[]⟩)):=by
 intro n;induction n with
 |zero=>
  intro i hz h1;have hi:i=ms.length:=by omega
  have hv:=fU ms;subst hi;rw [aR];refine⟨fun _=> ?_,fun p h=>(by cases h)⟩;rw [ak];simp only [go_sem,Qh,Qj,Qk,reduceIte]
 |succ n ih=>
  intro i hz h1;have hi:i<ms.length:=by omega
  have hn:=hm.n;have e1:=bW i (by omega);obtain⟨i1,i2⟩:=ih (i+1) (by omega) (by omega);have hv:=fU ms;have hg:=kE ms i hi;have g:=f15 (ms.getD i mn0) (hm.m _ (cI ms mn0 i hi)) e he;rw [ld ms mn0 i hi];generalize ms.drop (i+1)=R at*;generalize ms.getD i mn0=m at*;obtain⟨mv,m1,m2,m3,m4,es,rs⟩:=m;unfold frM;generalize fb ⟨mv,m1,m2,m3,m4,es,rs⟩ e=z at*;obtain⟨g',k,ds,b⟩:=e;simp only [Man.sv,Ev.sv]at*
  by_cases h:0≤z
  ·rw [if_pos h]
   refine⟨fun h'=>(by cases h'),fun p hp=> ?_⟩;cases hp;refine⟨.rc [.str mv,.int .i64 m1,.int .i64 m2,.int .i64 m3,.int .i64 m4,.lst 4 (dw es) .no,.lst 4 (eN rs) .no], ?_⟩;rw [ak];simp only [go_sem,Qe,Qh,Qi,Qj,Qk,reduceIte,hi,hv,hg,g,Fl,h]
  ·rw [if_neg h]
   refine⟨fun h'=> ?_,fun p hp=> ?_⟩
   ·have i1':=i1 h'
    rw [ak];simp only [go_sem,Qe,Qh,Qi,Qj,Qk,reduceIte,hi,e1,hv,hg,g,Fl,h,i1']
   ·obtain⟨o,i2'⟩:=i2 p hp
    refine⟨o, ?_⟩;rw [ak];simp only [go_sem,Qe,Qh,Qi,Qj,Qk,reduceIte,hi,e1,hv,hg,g,Fl,h,i2']
def lU:Option (Int×Int)→SV
 |some p=> .tup [.agg [.int .i64 p.1,.int .i64 p.2],.bool true]
 |none=> .tup [.agg [.int .i64 0,.int .i64 0],.bool false]
theorem f40 (e:Ev) (he:rG e) (ms:List Man) (hm:oG ms):call T 40 [.agg e.sv,.lst 7 (iJ ms) .no] [] 0=some ⟨lU (iH ms e),[],[]⟩:=by
 have gc:=f50 e he.d2 he.b;obtain⟨l1,l2⟩:=l40 e he ms hm _ 0 rfl (by omega);have hv:=fU ms;rw [aq xrZ];clear he;unfold iH;obtain⟨g',k,ds,b⟩:=e;simp only [Ev.sv,aC,aY]at*
 by_cases h5:k=5
 ·subst h5
  simp only [go_sem,Q5,Q7,Qe,Qh,Qi,Qj,Qk,reduceCtorEq,reduceIte,lU]
 by_cases h2:k=2
 ·subst h2
  cases hc:sK ⟨g',2,ds,b⟩with
  |true=>rw [hc]at gc;simp only [go_sem,Q5,Q7,Qe,Qh,Qi,Qj,Qk,reduceCtorEq,reduceIte,lU,gc,QQ]
  |false=>
   rw [hc]at gc;cases hf:frM ⟨g',2,ds,b⟩ ms 0 with
   |none=>have l1':=l1 hf;simp only [go_sem,Q5,Q7,Qe,Qh,Qi,Qj,Qk,reduceCtorEq,reduceIte,lU,gc,QQ,hv,l1']
   |some p=>obtain⟨o,l2'⟩:=l2 p hf;simp only [go_sem,Q5,Q7,Qe,Qh,Qi,Qj,Qk,reduceCtorEq,reduceIte,lU,gc,QQ,hv,l2']
 ·cases hf:frM ⟨g',k,ds,b⟩ ms 0 with
   |none=>have l1':=l1 hf;simp only [go_sem,Q7,Qe,Qh,Qi,Qj,Qk,reduceCtorEq,reduceIte,lU,h5,h2,hv,l1']
   |some p=>obtain⟨o,l2'⟩:=l2 p hf;simp only [go_sem,Q7,Qe,Qh,Qi,Qj,Qk,reduceCtorEq,reduceIte,lU,h5,h2,hv,l2']
theorem l41 (e:Ev) (he:rG e) (ms:List Man) (hm:oG ms):∀(n i:Nat),ms.length-i=n→i≤ms.length→
 (frM e (ms.drop i) i=none→run T (.loop EV) ⟨[(1,.lst 7 (iJ ms) .no),(2,.ptr 102 0),(4,.ptr 104 0),(6,.int .i64 i)],[(102,.rc e.sv),(104,.rc [.int .i64 0,.int .i64 0])],[]⟩=
  some (.x 0,⟨[(4,.ptr 104 0)],[(102,.rc e.sv),(104,.rc [.int .i64 0,.int .i64 0])],[]⟩))∧
 (∀p,frM e (ms.drop i) i=some p→run T (.loop EV) ⟨[(1,.lst 7 (iJ ms) .no),(2,.ptr 102 0),(4,.ptr 104 0),(6,.int .i64 i)],[(102,.rc e.sv),(104,.rc [.int .i64 0,.int .i64 0])],[]⟩=
  some (.r,⟨[(4,.ptr 104 0),(5,.bool true)],[(102,.rc e.sv),(104,.rc [.int .i64 p.1,.int .i64 p.2])],[]⟩)):=by
 intro n;induction n with
 |zero=>
  intro i hz h1;have hi:i=ms.length:=by omega
  have hv:=fU ms;subst hi;rw [aR];refine⟨fun _=> ?_,fun p h=>(by cases h)⟩;rw [ak];simp only [go_sem,Qh,Qj,Qk,reduceIte,hv]
 |succ n ih=>
  intro i hz h1;have hi:i<ms.length:=by omega
  have hn:=hm.n;have e1:=bW i (by omega);obtain⟨i1,i2⟩:=ih (i+1) (by omega) (by omega);have hv:=fU ms;have hg:=kE ms i hi;have g:=f19 (ms.getD i mn0) (hm.m _ (cI ms mn0 i hi)) e he;rw [ld ms mn0 i hi];generalize ms.drop (i+1)=R at*;generalize ms.getD i mn0=m at*;obtain⟨mv,m1,m2,m3,m4,es,rs⟩:=m;unfold frM;generalize fb ⟨mv,m1,m2,m3,m4,es,rs⟩ e=z at*;obtain⟨g',k,ds,b⟩:=e;simp only [Man.sv,Ev.sv]at*
  by_cases h:0≤z
  ·rw [if_pos h]
   refine⟨fun h'=>(by cases h'),fun p hp=> ?_⟩;cases hp;rw [ak];simp only [go_sem,Qb,Qc,Qd,Qe,Qh,Qi,Qj,Qk,reduceIte,hi,hv,hg,g,xjR,h]
  ·rw [if_neg h]
   refine⟨fun h'=> ?_,fun p hp=> ?_⟩
   ·have i1':=i1 h'
    rw [ak];simp only [go_sem,Qb,Qc,Qd,Qe,Qh,Qi,Qj,Qk,reduceIte,hi,e1,hv,hg,g,xjR,h,i1']
   ·have i2':=i2 p hp
    rw [ak];simp only [go_sem,Qb,Qc,Qd,Qe,Qh,Qi,Qj,Qk,reduceIte,hi,e1,hv,hg,g,xjR,h,i2']
theorem f41 (e:Ev) (he:rG e) (ms:List Man) (hm:oG ms):call T 41 [.agg e.sv,.lst 7 (iJ ms) .no] [] 0=some ⟨lU (iH ms e),[],[]⟩:=by
 have gc:=f57 e he.d2 he.b he.d0 he.d1;obtain⟨l1,l2⟩:=l41 e he ms hm _ 0 rfl (by omega);have hv:=fU ms;rw [aq xrY];clear he;unfold iH;obtain⟨g',k,ds,b⟩:=e;simp only [Ev.sv,aC,aY]at*
 by_cases h5:k=5
 ·subst h5
  simp only [go_sem,Q5,Q7,Qe,Qh,Qi,Qj,Qk,reduceCtorEq,reduceIte,lU]
 by_cases h2:k=2
 ·subst h2
  cases hc:sK ⟨g',2,ds,b⟩with
  |true=>rw [hc]at gc;simp only [go_sem,Q5,Q7,Qe,Qh,Qi,Qj,Qk,reduceCtorEq,reduceIte,lU,gc,QP]
  |false=>
   rw [hc]at gc;cases hf:frM ⟨g',2,ds,b⟩ ms 0 with
   |none=>have l1':=l1 hf;simp only [go_sem,Q5,Q7,Qe,Qh,Qi,Qj,Qk,reduceCtorEq,reduceIte,lU,gc,QP,l1']
   |some p=>have l2':=l2 p hf;simp only [go_sem,Q5,Q7,Qe,Qh,Qi,Qj,Qk,reduceCtorEq,reduceIte,lU,gc,QP,l2']
 ·cases hf:frM ⟨g',k,ds,b⟩ ms 0 with
   |none=>have l1':=l1 hf;simp only [go_sem,Q7,Qe,Qh,Qi,Qj,Qk,reduceCtorEq,reduceIte,lU,h5,h2,l1']
   |some p=>have l2':=l2 p hf;simp only [go_sem,Q7,Qe,Qh,Qi,Qj,Qk,reduceCtorEq,reduceIte,lU,h5,h2,l2']
def rsv (l:List (Int×Int)):List (List SV):=l.map fun p=> [.int .i64 p.1,.int .i64 p.2]
theorem eD (l:List (Int×Int)):(rsv l).length=l.length:=aQ ..
theorem jH (l:List (Int×Int)) (i:Nat) (h:i<l.length):(rsv l).getD i []=[.int .i64 (l.getD i (0,0)).1,.int .i64 (l.getD i (0,0)).2]:=by simp [rsv,aa,h]
theorem vJ (l:List (Int×Int)) (p:Int×Int):rsv l++ [[.int .i64 p.1,.int .i64 p.2]]=rsv (l++ [p]):=by rw [rsv,rsv,bz];rfl
structure ExR where
 w:Wk
 at':Nat
 rs:List (Int×Int)
 err:Int
def exW (ms:List Man):List Ev→Wk→Nat→List (Int×Int)→ExR
 |[],w,i,rs=>⟨w,i,rs,0⟩
 |e::r,w,i,rs=>if okW w e=true then(match iH ms e with|some p=>exW ms r (stW w e) (i+1) (rs++ [p])|none=>⟨w,i,rs,47⟩)else⟨w,i,rs,41⟩
structure j0 (evs:List Ev):Prop where
 n:evs.length≤1000000
 e:∀e∈evs,rG e
theorem j0.get {evs:List Ev} (h:j0 evs) {i:Nat} (hi:i<evs.length):rG (evs.getD i ev0):=h.e _ (cI evs ev0 i hi)
def wX (a z:Int) (evs:List Ev) (ms:List Man) (w:Wk) (i:Nat) (rs:List (Int×Int)):CSt:=
 ⟨[(1,.lst 7 (iJ ms) .no),(2,.ptr 102 0),(4,.lst 2 (rsv rs) (.id 104)),(7,.ptr 107 0),(13,.lst 4 (bD evs) .no),(14,.int .i64 evs.length),(15,.int .i64 i)],[(102,.rc [.int .i64 a,.int .i64 z,.lst 4 (bD evs) .no]),(107,.rc w.sv)],[104]⟩
theorem l12 (a z:Int) (evs:List Ev) (he:j0 evs) (ms:List Man) (hm:oG ms):∀(n i:Nat) (w:Wk) (rs:List (Int×Int)),evs.length-i=n→i≤evs.length→rs.length=i→
 ((
  exW ms (evs.drop i) w i rs).err=0→run T (.loop uK) (wX a z evs ms w i rs)=
  some (.x 0,⟨[(2,.ptr 102 0),(4,.lst 2 (rsv (exW ms (evs.drop i) w i rs).rs) (.id 104)),(7,.ptr 107 0)],[(102,.rc [.int .i64 a,.int .i64 z,.lst 4 (bD evs) .no]),(107,.rc (exW ms (evs.drop i) w i rs).w.sv)],[104]⟩))∧
 ((
  exW ms (evs.drop i) w i rs).err≠0→∃ob,run T (.loop uK) (wX a z evs ms w i rs)=
  some (.r,⟨[(4,.lst 2 (rsv (exW ms (evs.drop i) w i rs).rs) (.id 104)),(5,.int .i64 (exW ms (evs.drop i) w i rs).at'),(6,.int .i64 (exW ms (evs.drop i) w i rs).err)],ob,[104]⟩)):=by
 intro n;induction n with
 |zero=>
  intro i w rs h0 h1 h2;have hi:i=evs.length:=by omega
  subst hi;have hv:=ct evs;rw [aR];refine⟨fun _=> ?_,fun h=>absurd rfl h⟩;unfold wX;rw [ak];simp only [go_sem,Qh,Qj,Qk,reduceIte,exW]
 |succ n ih=>
  intro i w rs h0 h1 h2;have hi:i<evs.length:=by omega
  have hn:=he.n;have e1:=bW i (by omega);have g:=f39 w (evs.getD i ev0);have gr:=f40 (evs.getD i ev0) (he.get hi) ms hm;have hg:=ik evs i hi;have hv:=ct evs;have hrl:=eD rs;have b1:(rs.length+1)*16≤140737488355328:=by omega
  rw [mW evs i hi];generalize evs.getD i ev0=e at*;unfold exW;cases ho:okW w e with
  |false=>rw [if_neg (by simp)];rw [ho,xgj ho]at g;refine⟨fun h=>by simp at h,fun _=>⟨[(102,.rc [.int .i64 a,.int .i64 z,.lst 4 (bD evs) .no]),(107,.rc w.sv),(109,.rc e.sv)], ?_⟩⟩;unfold wX;simp only [Ev.sv,Wk.sv]at hg g ⊢;rw [ak];simp only [go_sem,Qe,Qg,Qh,Qi,Qj,Qk,reduceIte,hi,hg,hv,xeZ,g]
  |true=>
   rw [if_pos rfl];rw [ho]at g;cases hr:iH ms e with
   |none=>rw [hr]at gr;refine⟨fun h=>by simp at h,fun _=>⟨[(102,.rc [.int .i64 a,.int .i64 z,.lst 4 (bD evs) .no]),(107,.rc (stW w e).sv),(109,.rc e.sv),(110,.rc [.int .i64 0,.int .i64 0])], ?_⟩⟩;unfold wX;simp only [Ev.sv,Wk.sv,lU]at hg g gr ⊢;rw [ak];simp only [go_sem,Qe,Qg,Qh,Qi,Qj,Qk,reduceIte,hi,hg,hv,xeZ,g,gr,xjM]
   |some p=>
    rw [hr]at gr;obtain⟨i1,i2⟩:=ih (i+1) (stW w e) (rs++ [p]) (by omega) (by omega) (by rw [ah,h2];rfl);unfold wX at i1 i2;rw [←vJ rs p]at i1 i2;refine⟨fun h=> ?_,fun h=> ?_⟩
    ·have i1':=i1 h
     unfold wX;simp only [Ev.sv,Wk.sv,lU]at hg g gr i1' ⊢;rw [ak];simp only [go_sem,Qe,Qg,Qh,Qi,Qj,Qk,reduceIte,hi,e1,hg,hv,xeZ,g,gr,xjM,hrl,b1,i1']
    ·obtain⟨ob,i2'⟩:=i2 h
     refine⟨ob, ?_⟩;unfold wX;simp only [Ev.sv,Wk.sv,lU]at hg g gr i2' ⊢;rw [ak];simp only [go_sem,Qe,Qg,Qh,Qi,Qj,Qk,reduceIte,hi,e1,hg,hv,xeZ,g,gr,xjM,hrl,b1,i2']
theorem zo (ms:List Man):∀(l:List Ev) (w:Wk) (i:Nat) (rs:List (Int×Int)),(exW ms l w i rs).err=0→(exW ms l w i rs).at'=i+l.length
 |[],w,i,rs,_=>rfl
 |e::r,w,i,rs,h=>by
  unfold exW at h ⊢
  by_cases ho:okW w e=true
  ·rw [if_pos ho]at h ⊢
   cases hr:iH ms e with
   |none=>rw [hr]at h;simp at h
   |some p=>rw [hr]at h;simp only at h ⊢;rw [zo ms r _ _ _ h,ax];omega
  ·rw [if_neg ho]at h;simp at h
theorem zm (ms:List Man):∀(l:List Ev) (w:Wk) (i:Nat) (rs:List (Int×Int)),(exW ms l w i rs).at'≤i+l.length
 |[],w,i,rs=>aZ _
 |e::r,w,i,rs=>by
  unfold exW;rw [ax]
  by_cases ho:okW w e=true
  ·rw [if_pos ho]
   cases hr:iH ms e with
   |none=>show i≤_;omega
   |some p=>have:=zm ms r (stW w e) (i+1) (rs++ [p]);show(exW ms r (stW w e) (i+1) (rs++ [p])).at'≤_;omega
  ·rw [if_neg ho];show i≤_;omega
def exV (evs:List Ev) (ms:List Man):ExR:=exW ms evs w0 0 []
def exE (evs:List Ev) (ms:List Man):Int:=if(exV evs ms).err=0 then(if(exV evs ms).w.s4=true then 0 else 40)else(exV evs ms).err
def exS (evs:List Ev) (ms:List Man):SV:= .tup [.lst 2 (rsv (exV evs ms).rs) .no,.int .i64 (exV evs ms).at',.int .i64 (exE evs ms)]
theorem f12 (a z:Int) (evs:List Ev) (he:j0 evs) (ms:List Man) (hm:oG ms):call T 12 [.agg [.int .i64 a,.int .i64 z,.lst 4 (bD evs) .no],.lst 7 (iJ ms) .no] [] 0=some ⟨exS evs ms,[],[]⟩:=by
 obtain⟨l1,l2⟩:=l12 a z evs he ms hm _ 0 w0 [] rfl (by omega) rfl;have hat:=zo ms evs w0 0 [];have hv:=ct evs;unfold exS exE exV;have hnil:rsv []=[]:=rfl;simp only [aY,aC,wX,xj7,hnil]at l1 l2;rw [aq xsi];generalize exW ms evs w0 0 []=X at*
 by_cases h:X.err=0
 ·have l1':=l1 h
  have ha:=hat h;rw [cO]at ha;rw [if_pos h,ha];simp only [Wk.sv]at l1';cases h4:X.w.s4 with
  |true=>rw [h4]at l1';simp only [go_sem,Q2,Q3,Q4,Qb,Qc,Qd,Qe,Qg,Qh,Qi,Qj,Qk,reduceCtorEq,reduceIte,hv,l1']
  |false=>rw [h4]at l1';simp only [go_sem,Q2,Q3,Q4,Qb,Qc,Qd,Qe,Qg,Qh,Qi,Qj,Qk,reduceCtorEq,reduceIte,hv,l1']
 ·obtain⟨ob,l2'⟩:=l2 h
  rw [if_neg h];simp only [go_sem,Qe,Qh,Qi,Qj,Qk,reduceCtorEq,reduceIte,hv,l2']
structure RxR where
 rs:List (Int×Int)
 at':Nat
 err:Int
 k:Bool
def exR (ms:List Man) (stop:Nat) (ord:Int):List Ev→Nat→List (Int×Int)→Bool→RxR
 |[],i,rs,k=>⟨rs,i,0,k⟩
 |e::r,i,rs,k=>if ord=0∨i≠stop then(match iH ms e with|some p=>exR ms stop ord r (i+1) (rs++ [p]) (k||decide (phR e=4))|none=>⟨rs,i,47,k⟩)else⟨rs,i,41,k⟩
def wW (a z:Int) (evs:List Ev) (ms:List Man) (stop:Nat) (ord:Int) (i:Nat) (rs:List (Int×Int)) (k:Bool):CSt:=
 ⟨[(1,.lst 7 (iJ ms) .no),(2,.ptr 102 0),(8,.int .i64 stop),(9,.int .i64 ord),(10,.lst 2 (rsv rs) (.id 110)),(11,.bool k),(12,.int .i64 i)],[(102,.rc [.int .i64 a,.int .i64 z,.lst 4 (bD evs) .no])],[110]⟩
theorem l13 (a z:Int) (evs:List Ev) (he:j0 evs) (ms:List Man) (hm:oG ms) (stop:Nat) (ord:Int):∀(n i:Nat) (rs:List (Int×Int)) (k:Bool),evs.length-i=n→i≤evs.length→rs.length=i→
 ((
  exR ms stop ord (evs.drop i) i rs k).err=0→run T (.loop oY) (wW a z evs ms stop ord i rs k)=
  some (.x 0,⟨[(10,.lst 2 (rsv (exR ms stop ord (evs.drop i) i rs k).rs) (.id 110)),(11,.bool (exR ms stop ord (evs.drop i) i rs k).k)],[(102,.rc [.int .i64 a,.int .i64 z,.lst 4 (bD evs) .no])],[110]⟩))∧
 ((
  exR ms stop ord (evs.drop i) i rs k).err≠0→∃ob,run T (.loop oY) (wW a z evs ms stop ord i rs k)=
  some (.r,⟨[(4,.lst 2 (rsv (exR ms stop ord (evs.drop i) i rs k).rs) (.id 110)),(5,.int .i64 (exR ms stop ord (evs.drop i) i rs k).at'),(6,.int .i64 (exR ms stop ord (evs.drop i) i rs k).err)],ob,[110]⟩)):=by
 intro n;induction n with
 |zero=>
  intro i rs k h0 h1 h2;have hi:i=evs.length:=by omega
  subst hi;have hv:=ct evs;rw [aR];refine⟨fun _=> ?_,fun h=>absurd rfl h⟩;unfold wW;rw [ak];simp only [go_sem,Qe,Qh,Qj,Qk,reduceIte,exR,hv]
 |succ n ih=>
  intro i rs k h0 h1 h2;have hi:i<evs.length:=by omega
  have hn:=he.n;have e1:=bW i (by omega);have gp:=f42 (evs.getD i ev0);have gr:=f41 (evs.getD i ev0) (he.get hi) ms hm;have hg:=ik evs i hi;have hv:=ct evs;have hrl:=eD rs;have b1:(rs.length+1)*16≤140737488355328:=by omega
  rw [mW evs i hi];generalize evs.getD i ev0=e at*;unfold exR
  by_cases ho:ord=0∨i≠stop
  ·rw [if_pos ho]
   have hoi:ord=0∨¬(i:Int)=(stop:Int):=ho.imp id fun h=>by omega
   cases hr:iH ms e with
   |none=>
    rw [hr]at gr;refine⟨fun h=>by simp at h,fun _=>⟨[(102,.rc [.int .i64 a,.int .i64 z,.lst 4 (bD evs) .no]),(113,.rc [.int .i64 0,.int .i64 0])], ?_⟩⟩;unfold wW;simp only [Ev.sv,lU]at hg gr ⊢;rw [ak];rcases hoi with ho|ho
    ·simp only [go_sem,Qe,Qh,Qi,Qj,Qk,reduceIte,hi,hg,hv,ho,gr,yr]
    ·by_cases ho2:ord=0
     ·simp only [go_sem,Qe,Qh,Qi,Qj,Qk,reduceIte,hi,hg,hv,ho2,gr,yr]
     ·simp only [go_sem,Qe,Qh,Qi,Qj,Qk,reduceIte,hi,hg,hv,ho,ho2,gr,yr]
   |some p=>
    rw [hr]at gr;obtain⟨i1,i2⟩:=ih (i+1) (rs++ [p]) (k||decide (phR e=4)) (by omega) (by omega) (by rw [ah,h2];rfl);unfold wW at i1 i2;rw [←vJ rs p]at i1 i2
    have key:∀q,run T (.loop oY) ⟨[(1,.lst 7 (iJ ms) .no),(2,.ptr 102 0),(8,.int .i64 stop),(9,.int .i64 ord),(10,.lst 2 (rsv rs++ [[.int .i64 p.1,.int .i64 p.2]]) (.id 110)),(11,.bool (k||decide (phR e=4))),(12,.int .i64 ((i+1:Nat):Int))],[(102,.rc [.int .i64 a,.int .i64 z,.lst 4 (bD evs) .no])],[110]⟩=q→
     run T (.loop oY) (wW a z evs ms stop ord i rs k)=q:=by
     intro q hq;unfold wW;simp only [Ev.sv,lU]at hg gr gp ⊢;rw [ak];cases k with
     |true=>
      simp only [fZ]at hq;rcases hoi with ho|ho
      ·subst ho;simp only [go_sem,Qe,Qh,Qi,Qj,Qk,reduceIte,hi,e1,hg,hv,gr,yr,hrl,b1,hq]
      ·by_cases ho2:ord=0
       ·subst ho2;simp only [go_sem,Qe,Qh,Qi,Qj,Qk,reduceIte,hi,e1,hg,hv,gr,yr,hrl,b1,hq]
       ·simp only [go_sem,Qe,Qh,Qi,Qj,Qk,reduceIte,hi,e1,hg,hv,ho,ho2,gr,yr,hrl,b1,hq]
     |false=>
      simp only [dh]at hq;rcases hoi with ho|ho
      ·subst ho;simp only [go_sem,Qe,Qh,Qi,Qj,Qk,reduceIte,hi,e1,hg,hv,gr,yr,hrl,b1,gp,kg,hq]
      ·by_cases ho2:ord=0
       ·subst ho2;simp only [go_sem,Qe,Qh,Qi,Qj,Qk,reduceIte,hi,e1,hg,hv,gr,yr,hrl,b1,gp,kg,hq]
       ·simp only [go_sem,Qe,Qh,Qi,Qj,Qk,reduceIte,hi,e1,hg,hv,ho,ho2,gr,yr,hrl,b1,gp,kg,hq]
    refine⟨fun h=>key _ (i1 h),fun h=> ?_⟩;obtain⟨ob,i2'⟩:=i2 h;exact⟨ob,key _ i2'⟩
  ·rw [if_neg ho]
   have ho1:¬ord=0:=fun h=>ho (.inl h)
   have ho2:i=stop:=by
    rcases Nat.decEq i stop with h|h
    ·exact absurd (.inr h) ho
    ·exact h
   subst ho2;refine⟨fun h=>by simp at h,fun _=>⟨[(102,.rc [.int .i64 a,.int .i64 z,.lst 4 (bD evs) .no])], ?_⟩⟩;unfold wW;rw [ak];simp only [go_sem,Qe,Qh,Qj,Qk,reduceIte,hi,hv,ho1]
theorem AQ:∀(l:List Ev) (w:Wk) (i:Nat),i≤(jG l w i).2.1
 |[],w,i=>aZ _
 |e::r,w,i=>by
  unfold jG;split
  ·exact cu (Nat.le_succ i) (AQ r _ _)
  ·exact aZ _
theorem xgi {w:Wk} {e:Ev} (h:okW w e=true):(stW w e).s4=(w.s4||decide (phR e=4)):=by have h1:=AP [e] w 0 (by unfold jG;rw [if_pos h];rfl);unfold jG at h1;rw [if_pos h]at h1;simpa [jG]using h1
theorem Dc (ms:List Man) (stop:Nat) (ord:Int):∀(l:List Ev) (w:Wk) (i:Nat) (rs:List (Int×Int)),((jG l w i).2.2=true→ord=0)→((jG l w i).2.2=false→ord≠0∧stop=(jG l w i).2.1)→
 (exR ms stop ord l i rs w.s4).rs=(exW ms l w i rs).rs∧(exR ms stop ord l i rs w.s4).at'=(exW ms l w i rs).at'∧(exR ms stop ord l i rs w.s4).err=(exW ms l w i rs).err∧
 ((exW ms l w i rs).err=0→(exR ms stop ord l i rs w.s4).k=(exW ms l w i rs).w.s4)
 |[],w,i,rs,_,_=>⟨rfl,rfl,rfl,fun _=>rfl⟩
 |e::r,w,i,rs,h1,h2=>by
  unfold jG at h1 h2;unfold exR exW
  by_cases ho:okW w e=true
  ·rw [if_pos ho]at h1 h2 ⊢
   have hs:ord=0∨i≠stop:=by
    cases hb:(jG r (stW w e) (i+1)).2.2 with
    |true=>exact .inl (h1 hb)
    |false=>have:=AQ r (stW w e) (i+1);right;rw [(h2 hb).2];omega
   rw [if_pos hs];cases hr:iH ms e with
   |none=>exact⟨rfl,rfl,rfl,fun h=>by simp at h⟩
   |some p=>simp only;rw [←xgi ho];exact Dc ms stop ord r (stW w e) (i+1) (rs++ [p]) h1 h2
  ·rw [if_neg ho]at h1 h2 ⊢
   obtain⟨h3,h4⟩:=h2 rfl;rw [if_neg (by simp only at h4;intro h;rcases h with h|h<;>omega)];exact⟨rfl,rfl,rfl,fun h=>by simp at h⟩
theorem qa (ms:List Man):∀(l:List Ev) (w:Wk) (i:Nat) (rs:List (Int×Int)),rs.length=i→(exW ms l w i rs).rs.length=(exW ms l w i rs).at'
 |[],w,i,rs,h=>h
 |e::r,w,i,rs,h=>by
  unfold exW
  by_cases ho:okW w e=true
  ·rw [if_pos ho]
   cases hr:iH ms e with
   |none=>exact h
   |some p=>exact qa ms r _ _ _ (by rw [ah,h];rfl)
  ·rw [if_neg ho];exact h
theorem f13 (a z:Int) (evs:List Ev) (he:j0 evs) (ms:List Man) (hm:oG ms):call T 13 [.agg [.int .i64 a,.int .i64 z,.lst 4 (bD evs) .no],.lst 7 (iJ ms) .no] [] 0=some ⟨exS evs ms,[],[]⟩:=by
 have hn:=he.n;have gp:=f28 a z evs (by omega);have hs:=qD evs w0 0 (by decide) (by decide) (by decide) rfl (by show evs.length+0≤_;omega);have hs2:(kA evs 0 0 0).2=(jG evs w0 0).2:=hs.2.symm;rw [hs2]at gp;have hsame:=Dc ms (jG evs w0 0).2.1 (if(jG evs w0 0).2.2=true then 0 else 41) evs w0 0 [] (fun h=>by rw [if_pos h]) (fun h=>by rw [if_neg (by rw [h];simp)];exact⟨by decide,rfl⟩);obtain⟨l1,l2⟩:=l13 a z evs he ms hm (jG evs w0 0).2.1 (if(jG evs w0 0).2.2=true then 0 else 41) _ 0 [] w0.s4 rfl (by omega) rfl;have hlen:=qa ms evs w0 0 [] rfl;have hv:=ct evs;unfold exS exE exV;have hnil:rsv []=[]:=rfl;have hk0:w0.s4=false:=rfl;simp only [aY,aC,wW,hnil,hk0]at l1 l2 hsame;obtain⟨s1,s2,s3,s4⟩:=hsame;rw [s3,s1]at l1;rw [s3,s1,s2]at l2;rw [aq xsh];generalize exR ms _ _ evs 0 [] false=Y at*;generalize exW ms evs w0 0 []=X at*;have hvr:=eD X.rs
 by_cases h:X.err=0
 ·have l1':=l1 h
  rw [s4 h]at l1';rw [if_pos h,←hlen];cases h4:X.w.s4 with
  |true=>rw [h4]at l1';simp only [go_sem,Qe,Qh,Qi,Qj,Qk,reduceCtorEq,reduceIte,gp,xjP,l1',hvr]
  |false=>rw [h4]at l1';simp only [go_sem,Qe,Qh,Qi,Qj,Qk,reduceCtorEq,reduceIte,gp,xjP,l1',hvr]
 ·obtain⟨ob,l2'⟩:=l2 h
  rw [if_neg h];simp only [go_sem,Qe,Qh,Qi,Qj,Qk,reduceCtorEq,reduceIte,gp,xjP,l2']
def ckO (ms:List Man) (e:Ev) (p:Int×Int):Bool:=
 if e.kind=5 then(decide (p.1= -1)&&decide (p.2= -1))else if e.kind=2 then(decide (p.1= -1)&&decide (p.2= -1))
 else if p.1<0 then false else if(ms.length:Int)≤p.1 then false else if p.2<0 then false else decide (fb (ms.getD p.1.toNat mn0) e=p.2)
def ckL (ms:List Man):List Ev→List (Int×Int)→Bool
 |e::r,p::q=>if ckO ms e p=true then ckL ms r q else false
 |_,_=>true
def ckV (evs:List Ev) (ms:List Man) (rs:List (Int×Int)):Bool:=if exE evs ms=0 then(if(rs.length:Int)=evs.length then ckL ms evs rs else false)else false
theorem s16 (a z:Int) (evs:List Ev) (he:j0 evs) (ms:List Man) (hm:oG ms) (rs:List (Int×Int)) (hl:rs.length=evs.length) (i:Nat) (hi:i<evs.length):
 (ckO ms (evs.getD i ev0) (rs.getD i (0,0))=true→run T (.loop mB) ⟨[(1,.lst 7 (iJ ms) .no),(2,.lst 2 (rsv rs) .no),(31,.lst 4 (bD evs) .no),(32,.int .i64 evs.length),(33,.int .i64 i)],[(103,.rc [.int .i64 a,.int .i64 z,.lst 4 (bD evs) .no])],[]⟩=
  run T (.loop mB) ⟨[(1,.lst 7 (iJ ms) .no),(2,.lst 2 (rsv rs) .no),(31,.lst 4 (bD evs) .no),(32,.int .i64 evs.length),(33,.int .i64 ((i+1:Nat):Int))],[(103,.rc [.int .i64 a,.int .i64 z,.lst 4 (bD evs) .no])],[]⟩)∧
 (ckO ms (evs.getD i ev0) (rs.getD i (0,0))=false→∃ob,run T (.loop mB) ⟨[(1,.lst 7 (iJ ms) .no),(2,.lst 2 (rsv rs) .no),(31,.lst 4 (bD evs) .no),(32,.int .i64 evs.length),(33,.int .i64 i)],[(103,.rc [.int .i64 a,.int .i64 z,.lst 4 (bD evs) .no])],[]⟩=
  some (.r,⟨[(6,.bool false)],ob,[]⟩)):=by
 have hn:=he.n;have e1:=bW i (by omega);have hg:=ik evs i hi;have hv:=ct evs;have hir:i<rs.length:=by omega
 have hgr:=jH rs i hir;have hvr:=eD rs;have hvm:=fU ms;have he':=he.get hi;unfold ckO;generalize evs.getD i ev0=e at*;generalize rs.getD i (0,0)=p at*;have hit:∀k:Nat,k<ms.length→call T 15 [.agg (ms.getD k mn0).sv,.agg e.sv] [] 0=some ⟨.int .i64 (fb (ms.getD k mn0) e),[],[]⟩:=fun k hk=>f15 _ (hm.m _ (cI ms mn0 k hk)) e he'
 have hgm:∀k:Nat,k<ms.length→(iJ ms).getD k []=(ms.getD k mn0).sv:=fun k hk=>kE ms k hk
 clear he he' hm;obtain⟨p1,p2⟩:=p;obtain⟨g',k,ds,b⟩:=e;simp only [Ev.sv]at*
 by_cases h5:k=5
 ·subst h5
  by_cases q1:p1= -1
  ·subst q1
   by_cases q2:p2= -1
   ·subst q2
    refine⟨fun _=> ?_,fun h=>by simp at h⟩;rw [ak];simp only [go_sem,Q5,Q7,Qe,Qh,Qi,Qj,Qk,reduceIte,hi,e1,hg,hv,hir,hgr,hvr]
   ·refine⟨fun h=>by simp [q2]at h,fun _=>⟨[(103,.rc [.int .i64 a,.int .i64 z,.lst 4 (bD evs) .no]),(111,.rc [.int .i64 g',.int .i64 5,.lst 1 (bls ds) .no,.byt b .no]),(112,.rc [.int .i64 (-1),.int .i64 p2])], ?_⟩⟩
    rw [ak];simp only [go_sem,Q5,Q7,Qe,Qh,Qi,Qj,Qk,reduceIte,hi,hg,hv,hir,hgr,hvr,q2]
  ·refine⟨fun h=>by simp [q1]at h,fun _=>⟨[(103,.rc [.int .i64 a,.int .i64 z,.lst 4 (bD evs) .no]),(111,.rc [.int .i64 g',.int .i64 5,.lst 1 (bls ds) .no,.byt b .no]),(112,.rc [.int .i64 p1,.int .i64 p2])], ?_⟩⟩
   rw [ak];simp only [go_sem,Q5,Q7,Qe,Qh,Qi,Qj,Qk,reduceIte,hi,hg,hv,hir,hgr,hvr,q1]
 by_cases h2:k=2
 ·subst h2
  by_cases q1:p1= -1
  ·subst q1
   by_cases q2:p2= -1
   ·subst q2
    refine⟨fun _=> ?_,fun h=>by simp at h⟩;rw [ak];simp only [go_sem,Q5,Q7,Qe,Qh,Qi,Qj,Qk,reduceIte,hi,e1,hg,hv,hir,hgr,hvr]
   ·refine⟨fun h=>by simp [q2]at h,fun _=>⟨[(103,.rc [.int .i64 a,.int .i64 z,.lst 4 (bD evs) .no]),(111,.rc [.int .i64 g',.int .i64 2,.lst 1 (bls ds) .no,.byt b .no]),(112,.rc [.int .i64 (-1),.int .i64 p2])], ?_⟩⟩
    rw [ak];simp only [go_sem,Q5,Q7,Qe,Qh,Qi,Qj,Qk,reduceIte,hi,hg,hv,hir,hgr,hvr,q2]
  ·refine⟨fun h=>by simp [q1]at h,fun _=>⟨[(103,.rc [.int .i64 a,.int .i64 z,.lst 4 (bD evs) .no]),(111,.rc [.int .i64 g',.int .i64 2,.lst 1 (bls ds) .no,.byt b .no]),(112,.rc [.int .i64 p1,.int .i64 p2])], ?_⟩⟩
   rw [ak];simp only [go_sem,Q5,Q7,Qe,Qh,Qi,Qj,Qk,reduceIte,hi,hg,hv,hir,hgr,hvr,q1]
 rw [if_neg h5,if_neg h2]
 by_cases a1:p1<0
 ·refine⟨fun h=>by simp [a1]at h,fun _=>⟨[(103,.rc [.int .i64 a,.int .i64 z,.lst 4 (bD evs) .no]),(111,.rc [.int .i64 g',.int .i64 k,.lst 1 (bls ds) .no,.byt b .no]),(112,.rc [.int .i64 p1,.int .i64 p2])], ?_⟩⟩
  rw [ak];simp only [go_sem,Q7,Qb,Qc,Qd,Qe,Qh,Qi,Qj,Qk,reduceCtorEq,reduceIte,hi,hg,hv,hir,hgr,hvr,h5,h2,a1]
 by_cases a2:(ms.length:Int)≤p1
 ·refine⟨fun h=>by simp [a1,a2]at h,fun _=>⟨[(103,.rc [.int .i64 a,.int .i64 z,.lst 4 (bD evs) .no]),(111,.rc [.int .i64 g',.int .i64 k,.lst 1 (bls ds) .no,.byt b .no]),(112,.rc [.int .i64 p1,.int .i64 p2])], ?_⟩⟩
  rw [ak];simp only [go_sem,Q7,Qb,Qc,Qd,Qe,Qh,Qi,Qj,Qk,reduceCtorEq,reduceIte,hi,hg,hv,hir,hgr,hvr,h5,h2,a1,a2,hvm]
 by_cases a3:p2<0
 ·refine⟨fun h=>by simp [a1,a2,a3]at h,fun _=>⟨[(103,.rc [.int .i64 a,.int .i64 z,.lst 4 (bD evs) .no]),(111,.rc [.int .i64 g',.int .i64 k,.lst 1 (bls ds) .no,.byt b .no]),(112,.rc [.int .i64 p1,.int .i64 p2])], ?_⟩⟩
  rw [ak];simp only [go_sem,Q7,Qb,Qc,Qd,Qe,Qh,Qi,Qj,Qk,reduceCtorEq,reduceIte,hi,hg,hv,hir,hgr,hvr,h5,h2,a1,a2,a3,hvm]
 rw [if_neg a1,if_neg a2,if_neg a3];obtain⟨q,rfl⟩:=Int.eq_ofNat_of_zero_le (by omega:0≤p1);rw [Int.toNat_natCast];have hq:q<ms.length:=by omega
 have hit':=hit q hq;have hgm':=hgm q hq;have a1':¬(q:Int)<0:=a1;have hqi:(q:Int)<(ms.length:Int):=by omega
 have hq0:(0:Int)≤(q:Int):=by omega
 generalize ms.getD q mn0=m at*;obtain⟨mv,m1,m2,m3,m4,es,rl⟩:=m;simp only [Man.sv]at hit' hgm';generalize fb ⟨mv,m1,m2,m3,m4,es,rl⟩ ⟨g',k,ds,b⟩=zz at*
 by_cases a4:zz=p2
 ·subst a4
  refine⟨fun _=> ?_,fun h=>by simp at h⟩;rw [ak];simp only [go_sem,Q7,Qb,Qc,Qd,Qe,Qh,Qi,Qj,Qk,reduceCtorEq,reduceIte,hi,e1,hg,hv,hir,hgr,hvr,h5,h2,a1,a2,a3,hvm,hit',Fl,hgm',hqi,hq0]
 ·refine⟨fun h=>by simp [a4]at h,fun _=>⟨[(103,.rc [.int .i64 a,.int .i64 z,.lst 4 (bD evs) .no]),(111,.rc [.int .i64 g',.int .i64 k,.lst 1 (bls ds) .no,.byt b .no]),(112,.rc [.int .i64 q,.int .i64 p2])], ?_⟩⟩
  rw [ak];simp only [go_sem,Q7,Qb,Qc,Qd,Qe,Qh,Qi,Qj,Qk,reduceCtorEq,reduceIte,hi,hg,hv,hir,hgr,hvr,h5,h2,a1,a2,a3,hvm,hit',Fl,hgm',hqi,hq0,a4]
theorem l16 (a z:Int) (evs:List Ev) (he:j0 evs) (ms:List Man) (hm:oG ms) (rs:List (Int×Int)) (hl:rs.length=evs.length):∀(n i:Nat),evs.length-i=n→i≤evs.length→
 (ckL ms (evs.drop i) (rs.drop i)=true→run T (.loop mB) ⟨[(1,.lst 7 (iJ ms) .no),(2,.lst 2 (rsv rs) .no),(31,.lst 4 (bD evs) .no),(32,.int .i64 evs.length),(33,.int .i64 i)],[(103,.rc [.int .i64 a,.int .i64 z,.lst 4 (bD evs) .no])],[]⟩=some (.x 0,⟨[],[(103,.rc [.int .i64 a,.int .i64 z,.lst 4 (bD evs) .no])],[]⟩))∧
 (ckL ms (evs.drop i) (rs.drop i)=false→∃ob,run T (.loop mB) ⟨[(1,.lst 7 (iJ ms) .no),(2,.lst 2 (rsv rs) .no),(31,.lst 4 (bD evs) .no),(32,.int .i64 evs.length),(33,.int .i64 i)],[(103,.rc [.int .i64 a,.int .i64 z,.lst 4 (bD evs) .no])],[]⟩=
  some (.r,⟨[(6,.bool false)],ob,[]⟩)):=by
 intro n;induction n with
 |zero=>
  intro i h0 h1;have hi:i=evs.length:=by omega
  subst hi;rw [aR];refine⟨fun _=> ?_,fun h=>by simp [ckL]at h⟩;rw [ak];simp only [go_sem,Q7,Qh,Qj,Qk,reduceIte]
 |succ n ih=>
  intro i h0 h1;have hi:i<evs.length:=by omega
  obtain⟨s1,s2⟩:=s16 a z evs he ms hm rs hl i hi;obtain⟨i1,i2⟩:=ih (i+1) (by omega) (by omega);rw [mW evs i hi,ld rs (0,0) i (by omega)];unfold ckL;cases h:ckO ms (evs.getD i ev0) (rs.getD i (0,0))with
  |true=>rw [if_pos rfl,s1 h];exact⟨i1,i2⟩
  |false=>rw [if_neg (by simp)];exact⟨fun h=>by simp at h,fun _=>s2 h⟩
theorem f16 (a z:Int) (evs:List Ev) (he:j0 evs) (ms:List Man) (hm:oG ms) (rs:List (Int×Int)):
 call T 16 [.agg [.int .i64 a,.int .i64 z,.lst 4 (bD evs) .no],.lst 7 (iJ ms) .no,.lst 2 (rsv rs) .no] [] 0=some ⟨.bool (ckV evs ms rs),[],[]⟩:=by
 have g:=f12 a z evs he ms hm;have hv:=ct evs;have hvr:=eD rs;have lk:=l16 a z evs he ms hm rs;rw [aq xse];unfold ckV;unfold exS at g
 by_cases h0:exE evs ms=0
 ·rw [h0]at g
  by_cases hl:rs.length=evs.length
  ·have hl':(rs.length:Int)=(evs.length:Int):=by omega
   obtain⟨k1,k2⟩:=lk hl _ 0 rfl (by omega);simp only [aC,aY]at k1 k2;cases hk:ckL ms evs rs with
   |true=>have k1':=k1 hk;simp only [go_sem,Qe,Qh,Qi,Qj,Qk,reduceCtorEq,reduceIte,g,Ds,h0,hv,hvr,hl,k1']
   |false=>obtain⟨ob,k2'⟩:=k2 hk;simp only [go_sem,Qe,Qh,Qi,Qj,Qk,reduceCtorEq,reduceIte,g,Ds,h0,hv,hvr,hl,k2']
  ·have hl':¬(rs.length:Int)=(evs.length:Int):=by omega
   simp only [go_sem,Qe,Qh,Qi,Qj,Qk,reduceCtorEq,reduceIte,g,Ds,h0,hv,hvr,hl']
 ·simp only [go_sem,Qe,Qh,Qi,Qj,Qk,reduceCtorEq,reduceIte,g,Ds,h0]
theorem l43 (rs:List (Int×Int)) (hn:rs.length≤1000000):∀(n i:Nat),rs.length-i=n→i≤rs.length→
 run T (.loop Rl) ⟨[(0,.lst 2 (rsv rs) .no),(1,.lst 2 (rsv rs) .no),(5,.int .i64 i)],[],[]⟩=some (.x 0,⟨[],[],[]⟩):=by
 intro n;induction n with
 |zero=>
  intro i h0 h1;have hi:i=rs.length:=by omega
  have hvr:=eD rs;subst hi;rw [ak];simp only [go_sem,Qh,Qj,Qk,reduceCtorEq,reduceIte,hvr]
 |succ n ih=>
  intro i h0 h1;have hi:i<rs.length:=by omega
  have hvr:=eD rs;have hg:=jH rs i hi;have e1:=bW i (by omega);have ih':=ih (i+1) (by omega) (by omega);rw [ak];simp only [go_sem,Qe,Qh,Qj,Qk,reduceCtorEq,reduceIte,hi,hvr,hg,e1,ih']
theorem f43 (rs:List (Int×Int)) (hn:rs.length≤1000000):call T 43 [.lst 2 (rsv rs) .no,.lst 2 (rsv rs) .no] [] 0=some ⟨.bool true,[],[]⟩:=by have h:=l43 rs hn _ 0 rfl (by omega);rw [aC]at h;have hvr:=eD rs;rw [aq xrW];simp only [go_sem,Qe,Qh,Qi,Qj,Qk,reduceCtorEq,reduceIte,hvr,h]
theorem f14 (rs:List (Int×Int)) (hn:rs.length≤1000000):call T 14 [.lst 2 (rsv rs) .no,.lst 2 (rsv rs) .no] [] 0=some ⟨.bool true,[],[]⟩:=by have h:=f43 rs hn;rw [aq xsg];simp only [go_sem,Qe,Qh,Qi,Qj,Qk,reduceCtorEq,reduceIte,h,xsw]
def bu (k:Nat) (v:Int):List UInt8:=be k (bi.wrap v)
def hdM (m:Man):List UInt8:=mc ([]++bu 1 21) m.vendor++bu 4 m.ver++bu 4 m.flr++bu 6 m.frm++bu 6 m.til++bu 1 (m.ents.length:Int)
theorem eX (k:Nat) (v:Int):(bu k v).length=k:=im ..
theorem lc (B:List UInt8) (k:Nat) (v:Int) (h1:1≤k) (h8:k≤8) (hB:B.length≤10000000000000):
 call T 117 [.byt B .no,.int .i64 k,.int .i64 v] [] 0=some ⟨.byt (B++bu k v) (.id 60),[],[60]⟩:=xpb B k v h1 h8 hB
def wx (B:List UInt8) (x:Ent):List UInt8:=mc (B++bu 1 x.role) x.name++bu 4 x.ver++x.dig
def r8 (B:List UInt8) (r:Rul):List UInt8:=mc (B++bu 1 r.kind) r.text++bu 4 r.lo++bu 4 r.hi
theorem wv (B:List UInt8) (x:Ent) (hn:x.name.length≤1000000) (hd:x.dig.length≤1000000):(wx B x).length≤B.length+2000007:=by unfold wx;rw [ah,ah,eY,ah,eX,eX];omega
theorem vM (B:List UInt8) (x:Rul) (hn:x.text.length≤1000000):(r8 B x).length≤B.length+2000007:=by unfold r8;rw [ah,ah,eY,ah,eX,eX,eX];omega
def tkA:Bool→List Nat
 |false=> [103,12060,17060,21060,24060,28060,31060]
 |true=> [103,12060,17060,21060,24060,28060,31060,51060]
theorem xkb (m:Man) (hm:fH m) (b:Bool) (i:Nat) (hi:i<m.ents.length) (B:List UInt8) (hB:B.length≤1000000000):
 run T (.loop ng) ⟨[(1,.ptr 101 0),(3,.byt B (.id 103)),(37,.lst 4 (dw m.ents) .no),(38,.int .i64 m.ents.length),(39,.int .i64 i)],[(101,.rc m.sv)],tkA b⟩=
 run T (.loop ng) ⟨[(1,.ptr 101 0),(3,.byt (wx B (m.ents.getD i en0)) (.id 103)),(37,.lst 4 (dw m.ents) .no),(38,.int .i64 m.ents.length),(39,.int .i64 ((i+1:Nat):Int))],[(101,.rc m.sv)],tkA true⟩:=by
 have k1:((1:Nat):Int)=1:=rfl;have k4:((4:Nat):Int)=4:=rfl;have hen:=hm.en;have e1:=bW i (by omega);have hg:=fW m.ents i hi;have hel:=db m.ents;obtain⟨hxn,hxd⟩:=hm.e _ (cI m.ents en0 i hi);clear hm;generalize m.ents.getD i en0=x at*;unfold wx;have u1:=lc B 1 x.role (by omega) (by omega) (by omega);rw [k1]at u1;have n1:(B++bu 1 x.role).length≤1000000001:=by rw [ah,eX];omega
 generalize B++bu 1 x.role=B1 at*;have u2:=xjy B1 x.name (by omega) (by omega);have n2:(mc B1 x.name).length≤1010000000:=by rw [eY];omega
 generalize mc B1 x.name=B2 at*;have u3:=lc B2 4 x.ver (by omega) (by omega) (by omega);rw [k4]at u3;have n3:(B2++bu 4 x.ver).length≤1010000004:=by rw [ah,eX];omega
 generalize B2++bu 4 x.ver=B3 at*;have n4:B3.length+x.dig.length≤140737488355328:=by omega
 obtain⟨mv,m1,m2,m3,m4,es,rs⟩:=m;obtain⟨x1,x2,x3,x4⟩:=x;simp only [Man.sv,Ent.sv]at*;cases b with
 |false=>rw [ak];simp only [tkA];simp only [go_sem,Qb,Qc,Qd,Qe,Qg,Qh,Qi,Qj,Qk,reduceCtorEq,reduceIte,hi,e1,hg,hel,u1,u2,u3,n4,ll,m9]
 |true=>rw [ak];simp only [tkA];simp only [go_sem,Qb,Qc,Qd,Qe,Qg,Qh,Qi,Qj,Qk,reduceCtorEq,reduceIte,hi,e1,hg,hel,u1,u2,u3,n4,ll,m9]
theorem xml (m:Man) (hm:fH m) (h16:m.ents.length≤16):∀(n i:Nat) (b:Bool) (B:List UInt8),m.ents.length-i=n→i≤m.ents.length→B.length≤20000000+i*2000007→
 ∃b',run T (.loop ng) ⟨[(1,.ptr 101 0),(3,.byt B (.id 103)),(37,.lst 4 (dw m.ents) .no),(38,.int .i64 m.ents.length),(39,.int .i64 i)],[(101,.rc m.sv)],tkA b⟩=
 some (.x 0,⟨[(1,.ptr 101 0),(3,.byt ((m.ents.drop i).foldl wx B) (.id 103))],[(101,.rc m.sv)],tkA b'⟩):=by
 intro n;induction n with
 |zero=>
  intro i b B h0 h1 h2;have:i=m.ents.length:=by omega
  subst this;refine⟨b, ?_⟩;rw [aR,List.foldl_nil,ak];cases b with
  |false=>simp only [tkA];simp only [go_sem,Qh,Qj,Qk,reduceIte]
  |true=>simp only [tkA];simp only [go_sem,Qh,Qj,Qk,reduceIte]
 |succ n ih=>
  intro i b B h0 h1 h2;have hi:i<m.ents.length:=by omega
  have hdr:m.ents.drop i=m.ents.getD i en0::m.ents.drop (i+1):=by rw [aX hi,aa,ab hi];rfl
  obtain⟨hxn,hxd⟩:=hm.e _ (cI m.ents en0 i hi);have hl:=wv B (m.ents.getD i en0) hxn hxd;rw [xkb m hm b i hi B (by omega),hdr,mJ];exact ih (i+1) true _ (by omega) (by omega) (by omega)
def tkB:Bool→List Nat
 |false=> [103,12060,17060,21060,24060,28060,31060,64060]
 |true=> [103,12060,17060,21060,24060,28060,31060,51060,64060]
def tkC:Bool→List Nat
 |false=> [103,12060,17060,21060,24060,28060,31060,64060,79060,86060]
 |true=> [103,12060,17060,21060,24060,28060,31060,51060,64060,79060,86060]
theorem xka (m:Man) (b:Bool) (t:Nat) (tk:List Nat) (ht:(t=64060∧tk=tkB b)∨(t=86060∧tk=tkC b)) (rs:List Rul) (hx:∀x∈rs,x.text.length≤1000000) (hn:rs.length≤1000000) (i:Nat) (hi:i<rs.length) (B:List UInt8) (hB:B.length≤1000000000):
 run T (.loop nf) ⟨[(3,.byt B (.id t)),(65,.lst 4 (eN rs) .no),(66,.int .i64 rs.length),(67,.int .i64 i)],[(101,.rc m.sv)],tk⟩=
 run T (.loop nf) ⟨[(3,.byt (r8 B (rs.getD i rl0)) (.id 86060)),(65,.lst 4 (eN rs) .no),(66,.int .i64 rs.length),(67,.int .i64 ((i+1:Nat):Int))],[(101,.rc m.sv)],tkC b⟩:=by
 have k1:((1:Nat):Int)=1:=rfl;have k4:((4:Nat):Int)=4:=rfl;have e1:=bW i (by omega);have hg:=kB rs i hi;have hel:=eF rs;have hxn:=hx _ (cI rs rl0 i hi);generalize rs.getD i rl0=x at*;unfold r8;have u1:=lc B 1 x.kind (by omega) (by omega) (by omega);rw [k1]at u1;have n1:(B++bu 1 x.kind).length≤1000000001:=by rw [ah,eX];omega
 generalize B++bu 1 x.kind=B1 at*;have u2:=xjy B1 x.text (by omega) (by omega);have n2:(mc B1 x.text).length≤1010000000:=by rw [eY];omega
 generalize mc B1 x.text=B2 at*;have u3:=lc B2 4 x.lo (by omega) (by omega) (by omega);rw [k4]at u3;have n3:(B2++bu 4 x.lo).length≤1010000004:=by rw [ah,eX];omega
 generalize B2++bu 4 x.lo=B3 at*;have u4:=lc B3 4 x.hi (by omega) (by omega) (by omega);rw [k4]at u4;obtain⟨mv,m1,m2,m3,m4,es,rs'⟩:=m;obtain⟨x1,x2,x3,x4⟩:=x;simp only [Rul.sv,Man.sv]at*;rcases ht with⟨rfl,rfl⟩|⟨rfl,rfl⟩
 ·cases b with
  |false=>rw [ak];simp only [tkB,tkC];simp only [go_sem,Qb,Qc,Qd,Qe,Qg,Qh,Qi,Qj,Qk,reduceCtorEq,reduceIte,hi,e1,hg,hel,u1,u2,u3,u4,ll,m9]
  |true=>rw [ak];simp only [tkB,tkC];simp only [go_sem,Qb,Qc,Qd,Qe,Qg,Qh,Qi,Qj,Qk,reduceCtorEq,reduceIte,hi,e1,hg,hel,u1,u2,u3,u4,ll,m9]
 ·cases b with
  |false=>rw [ak];simp only [tkC];simp only [go_sem,Qb,Qc,Qd,Qe,Qg,Qh,Qi,Qj,Qk,reduceCtorEq,reduceIte,hi,e1,hg,hel,u1,u2,u3,u4,ll,m9]
  |true=>rw [ak];simp only [tkC];simp only [go_sem,Qb,Qc,Qd,Qe,Qg,Qh,Qi,Qj,Qk,reduceCtorEq,reduceIte,hi,e1,hg,hel,u1,u2,u3,u4,ll,m9]
theorem xmk (m:Man) (b:Bool) (rs:List Rul) (hx:∀x∈rs,x.text.length≤1000000) (hn:rs.length≤8):∀(n i t:Nat) (tk:List Nat) (B:List UInt8),(t=64060∧tk=tkB b)∨(t=86060∧tk=tkC b)→rs.length-i=n→i≤rs.length→B.length≤100000000+i*2000007→
 ∃t' tk',((t'=64060∧tk'=tkB b)∨(t'=86060∧tk'=tkC b))∧run T (.loop nf) ⟨[(3,.byt B (.id t)),(65,.lst 4 (eN rs) .no),(66,.int .i64 rs.length),(67,.int .i64 i)],[(101,.rc m.sv)],tk⟩=
 some (.x 2,⟨[(3,.byt ((rs.drop i).foldl r8 B) (.id t'))],[(101,.rc m.sv)],tk'⟩):=by
 intro n;induction n with
 |zero=>
  intro i t tk B ht h0 h1 h2;have:i=rs.length:=by omega
  subst this;refine⟨t,tk,ht, ?_⟩;rw [aR,List.foldl_nil,ak];rcases ht with⟨rfl,rfl⟩|⟨rfl,rfl⟩
  ·cases b with
   |false=>simp only [tkB];simp only [go_sem,Qh,Qj,Qk,reduceIte]
   |true=>simp only [tkB];simp only [go_sem,Qh,Qj,Qk,reduceIte]
  ·cases b with
   |false=>simp only [tkC];simp only [go_sem,Qh,Qj,Qk,reduceIte]
   |true=>simp only [tkC];simp only [go_sem,Qh,Qj,Qk,reduceIte]
 |succ n ih=>
  intro i t tk B ht h0 h1 h2;have hi:i<rs.length:=by omega
  have hdr:rs.drop i=rs.getD i rl0::rs.drop (i+1):=by rw [aX hi,aa,ab hi];rfl
  have hl:=vM B (rs.getD i rl0) (hx _ (cI rs rl0 i hi));rw [xka m b t tk ht rs hx (by omega) i hi B (by omega),hdr,mJ];exact ih (i+1) 86060 _ _ (.inr ⟨rfl,rfl⟩) (by omega) (by omega) (by omega)
def Dg (m:Man):List UInt8:=if lY m=0 then m.ruls.foldl r8 (m.ents.foldl wx (hdM m)++bu 1 (m.ruls.length:Int))else []
theorem nP:∀(l:List Ent) (B:List UInt8),(∀x∈l,x.name.length≤1000000∧x.dig.length≤1000000)→(l.foldl wx B).length≤B.length+l.length*2000007
 |[],B,_=>by simp
 |x::r,B,h=>by rw [mJ,ax];have h1:=nP r (wx B x) (fun y hy=>h y (au _ hy));obtain⟨a,c⟩:=h x aA;have h2:=wv B x a c;rw [bP];omega
theorem sB:∀(l:List Rul) (B:List UInt8),(∀x∈l,x.text.length≤1000000)→B.length≤(l.foldl r8 B).length∧(l.foldl r8 B).length≤B.length+l.length*2000007
 |[],B,_=>by simp
 |x::r,B,h=>by
  rw [mJ,ax];have h1:=sB r (r8 B x) (fun y hy=>h y (au _ hy));have h2:=vM B x (h x aA)
  have h3:B.length≤(r8 B x).length:=by unfold r8;rw [ah,ah,eY,ah];omega
  rw [bP];omega
theorem si {m:Man} (h:lY m=0):m.ents.length≤16∧m.ruls.length≤8:=by
 unfold lY at h
 repeat' split at h
 all_goals first|(exfalso;omega)|skip
 exact⟨by omega,by omega⟩
theorem xq1 (m:Man) (hm:fH m):call T 101 [.agg m.sv] [] 0=some ⟨.byt (Dg m) .no,[],[]⟩:=by
 have g1:=f44 m hm;have k1:((1:Nat):Int)=1:=rfl;have k4:((4:Nat):Int)=4:=rfl;have k6:((6:Nat):Int)=6:=rfl;have hvl:=hm.v;have hrn:=hm.rn;have hel:=db m.ents;have hrl:=eF m.ruls;unfold Dg
 by_cases hv:lY m=0
 ·obtain⟨h16,h8⟩:=si hv
  rw [hv]at g1;rw [if_pos hv];unfold hdM;have u1:=lc [] 1 21 (by omega) (by omega) (by decide);rw [k1]at u1;generalize hB1:([]++bu 1 21:List UInt8)=B1 at*;have n1:B1.length≤1000:=by rw [←hB1];simp [eX]
  have u2:=xjy B1 m.vendor (by omega) (by omega);generalize hB2:mc B1 m.vendor=B2 at*;have n2:B2.length≤10000000:=by rw [←hB2,eY];omega
  have u3:=lc B2 4 m.ver (by omega) (by omega) (by omega);rw [k4]at u3;generalize hB3:B2++bu 4 m.ver=B3 at*;have n3:B3.length≤10000004:=by rw [←hB3,ah,eX];omega
  have u4:=lc B3 4 m.flr (by omega) (by omega) (by omega);rw [k4]at u4;generalize hB4:B3++bu 4 m.flr=B4 at*;have n4:B4.length≤10000008:=by rw [←hB4,ah,eX];omega
  have u5:=lc B4 6 m.frm (by omega) (by omega) (by omega);rw [k6]at u5;generalize hB5:B4++bu 6 m.frm=B5 at*;have n5:B5.length≤10000014:=by rw [←hB5,ah,eX];omega
  have u6:=lc B5 6 m.til (by omega) (by omega) (by omega);rw [k6]at u6;generalize hB6:B5++bu 6 m.til=B6 at*;have n6:B6.length≤10000020:=by rw [←hB6,ah,eX];omega
  have u7:=lc B6 1 (m.ents.length:Int) (by omega) (by omega) (by omega);rw [k1]at u7;generalize hB7:B6++bu 1 (m.ents.length:Int)=B7 at*;have n7:B7.length≤10000021:=by rw [←hB7,ah,eX];omega
  obtain⟨b,la⟩:=xml m hm h16 _ 0 false B7 rfl (by omega) (by omega);have n8:=nP m.ents B7 hm.e;rw [aY,aC]at la;generalize m.ents.foldl wx B7=B8 at*;have u8:=lc B8 1 (m.ruls.length:Int) (by omega) (by omega) (by omega);rw [k1]at u8;generalize hB9:B8++bu 1 (m.ruls.length:Int)=B9 at*;have n9:B9.length≤10000022+16*2000007:=by rw [←hB9,ah,eX];omega
  obtain⟨t',tk',ht,lb⟩:=xmk m b m.ruls hm.r h8 _ 0 64060 (tkB b) B9 (.inl ⟨rfl,rfl⟩) rfl (by omega) (by omega);rw [aY,aC]at lb;generalize m.ruls.foldl r8 B9=B10 at*;obtain⟨mv,m1,m2,m3,m4,es,rs⟩:=m;simp only [Man.sv]at*;rw [aq xeX];cases b with
  |false=>
   rcases ht with⟨rfl,rfl⟩|⟨rfl,rfl⟩
   ·simp only [tkA,tkB]at la lb
    simp only [go_sem,Qb,Qc,Qd,Qe,Qg,Qh,Qi,Qj,Qk,reduceCtorEq,reduceIte,g1,sV,u1,u2,u3,u4,u5,u6,u7,ll,m9,hel,la,u8,hrl,lb]
   ·simp only [tkA,tkB,tkC]at la lb
    simp only [go_sem,Qb,Qc,Qd,Qe,Qg,Qh,Qi,Qj,Qk,reduceCtorEq,reduceIte,g1,sV,u1,u2,u3,u4,u5,u6,u7,ll,m9,hel,la,u8,hrl,lb]
  |true=>
   rcases ht with⟨rfl,rfl⟩|⟨rfl,rfl⟩
   ·simp only [tkA,tkB]at la lb
    simp only [go_sem,Qb,Qc,Qd,Qe,Qg,Qh,Qi,Qj,Qk,reduceCtorEq,reduceIte,g1,sV,u1,u2,u3,u4,u5,u6,u7,ll,m9,hel,la,u8,hrl,lb]
   ·simp only [tkA,tkB,tkC]at la lb
    simp only [go_sem,Qb,Qc,Qd,Qe,Qg,Qh,Qi,Qj,Qk,reduceCtorEq,reduceIte,g1,sV,u1,u2,u3,u4,u5,u6,u7,ll,m9,hel,la,u8,hrl,lb]
 ·rw [if_neg hv]
  obtain⟨mv,m1,m2,m3,m4,es,rs⟩:=m;simp only [Man.sv]at*;rw [aq xeX];simp only [go_sem,Qe,Qh,Qi,Qj,Qk,reduceCtorEq,reduceIte,g1,sV,hv]
def Uc (m:Man):List UInt8:=if Dg m=[]then []else Rp 21 (Dg m)
theorem GI (m:Man) (hm:fH m):(Dg m).length≤100000000:=by
 unfold Dg
 by_cases hv:lY m=0
 ·rw [if_pos hv]
  obtain⟨h16,h8⟩:=si hv;have h1:=nP m.ents (hdM m) hm.e;have h2:=sB m.ruls (m.ents.foldl wx (hdM m)++bu 1 (m.ruls.length:Int)) hm.r
  have h3:(hdM m).length≤10000000:=by have:=hm.v;unfold hdM;simp only [ah,eY,eX,bc];omega
  rw [ah,eX]at h2;omega
 ·rw [if_neg hv];exact cL _
theorem f59 (m:Man) (hm:fH m):call T 59 [.agg m.sv] [] 0=some ⟨.byt (Uc m) .no,[],[]⟩:=by
 have g1:=xq1 m hm;have hl:=GI m hm;have g2:=xq0 21 (Dg m) (by omega);obtain⟨mv,m1,m2,m3,m4,es,rs⟩:=m;unfold Uc;simp only [Man.sv]at*;rw [aq xrG];generalize Dg ⟨mv,m1,m2,m3,m4,es,rs⟩=E at*
 by_cases he:E=[]
 ·subst he
  simp only [go_sem,Qe,Qh,Qi,Qj,Qk,reduceCtorEq,reduceIte,g1,xfd]
 ·have hne:¬(E.length:Int)=0:=by
   intro h;exact he (bJ.1 (by omega))
  rw [if_neg he];simp only [go_sem,Qe,Qh,Qi,Qj,Qk,reduceCtorEq,reduceIte,g1,xfd,hne,g2,xnO]
theorem f87 (a:Int) (ha:lN a) (b0 b1:UInt8):∃d0 d1:List UInt8,d0.length≤100∧d1.length≤100∧
 call T 87 [.int .i64 a,.byt [b0,b1] .no] [] 0=some ⟨.lst 1 (bls [d0,d1]) .no,[],[]⟩:=by
 have k1:af.wrap 1=1:=rfl;have k2:af.wrap 2=2:=rfl;have k12:af.wrap 12=12:=rfl;have k20:af.wrap 20=20:=rfl;have k32:af.wrap 32=32:=rfl;have k31:af.wrap 31=31:=rfl;have k19:af.wrap 19=19:=rfl;have k0:af.wrap 0=0:=rfl;have x0:(0:UInt8)^^^bQ 0=0:=by decide
 have x1:(0:UInt8)^^^bQ 1=1:=by decide
 have t0:bi.wrap 0=0:=rfl;have t1:bi.wrap 1=1:=rfl;have s10:bq .and .i64 (Int.fdiv 1 (2^min 0 64)) 1=1:=rfl;have s20:bq .and .i64 (Int.fdiv 2 (2^min 0 64)) 1=0:=rfl;have s30:bq .and .i64 (Int.fdiv 3 (2^min 0 64)) 1=1:=rfl;have s11:bq .and .i64 (Int.fdiv 1 (2^min 1 64)) 1=0:=rfl;have s21:bq .and .i64 (Int.fdiv 2 (2^min 1 64)) 1=1:=rfl;have s31:bq .and .i64 (Int.fdiv 3 (2^min 1 64)) 1=1:=rfl;have ha':=ha;unfold lN at ha';rcases ha' with rfl|rfl|rfl
 ·refine⟨[b0,b1,0,0,0,0,0,0,0,0,0,0,0,0,0,0,0,0,0,0],[],by simp,by simp, ?_⟩
  rw [aq xjC];simp only [go_sem,Q2,Q3,Qa,Qe,Qh,Qi,Qj,Qk,reduceCtorEq,reduceIte,am]
  iterate 3
   rw [ak];simp only [go_sem,Q2,Q3,Q4,Q5,Q8,Q9,Qa,Qe,Qh,Qi,Qj,Qk,reduceCtorEq,reduceIte,k0,k1,k2,x0,x1,k12,k19,k31,k20,k32,t0,t1,s10,s11,fy,am,bls]
 ·refine⟨[],[b0,b1,0,0,0,0,0,0,0,0,0,0,0,0,0,0,0,0,0,0,0,0,0,0,0,0,0,0,0,0,0,1],by simp,by simp, ?_⟩
  rw [aq xjC];simp only [go_sem,Q2,Q3,Qa,Qe,Qh,Qi,Qj,Qk,reduceCtorEq,reduceIte,am]
  iterate 3
   rw [ak];simp only [go_sem,Q2,Q3,Q4,Q5,Q8,Q9,Qa,Qe,Qh,Qi,Qj,Qk,reduceCtorEq,reduceIte,k0,k1,k2,x0,x1,k12,k19,k31,k20,k32,t0,t1,s20,s21,fy,am,bls]
 ·refine⟨[b0,b1,0,0,0,0,0,0,0,0,0,0,0,0,0,0,0,0,0,0],[b0,b1,0,0,0,0,0,0,0,0,0,0,0,0,0,0,0,0,0,0,0,0,0,0,0,0,0,0,0,0,0,1],by simp,by simp, ?_⟩
  rw [aq xjC];simp only [go_sem,Q2,Q3,Qa,Qe,Qh,Qi,Qj,Qk,reduceCtorEq,reduceIte,am]
  iterate 3
   rw [ak];simp only [go_sem,Q2,Q3,Q4,Q8,Q9,Qa,Qe,Qh,Qi,Qj,Qk,reduceCtorEq,reduceIte,k0,k1,k2,x0,x1,k12,k19,k31,k20,k32,t0,t1,s30,s31,fy,am,bls]
theorem eT (B:List UInt8) (hB:B.length≤1000) (j n:Nat) (hn:0<n):∃v j':Nat,v<n∧call T 37 [.ptr 0 0,.int .i64 (n:Int)] [aG B j] 0=some ⟨.int .i64 (v:Int),[(0,aG B j')],[]⟩:=
 ⟨dp B j n,ce B j,dH B j n hn,f37 B j n hn (by omega)⟩
theorem vY (v:Nat):1≤(gx v).length∧(gx v).length≤8:=by unfold gx;split<;>decide
theorem xp1 (B:List UInt8) (hB:B.length≤1000) (j:Nat):∃(d:List UInt8) (j':Nat),1≤d.length∧d.length≤8∧call T 86 [.ptr 0 0] [aG B j] 0=some ⟨.byt d .no,[(0,aG B j')],[]⟩:=
 ⟨_,ce B j,(vY _).1,(vY _).2,f86 B j hB⟩
structure EvS (e:Ev):Prop where
 d2:e.dg.length=2
 b:e.data.length≤1000
 d0:(e.dg.getD 0 []).length≤1000
 d1:(e.dg.getD 1 []).length≤1000
theorem dT (r k a:Int) (d:List UInt8):(mkV r k a d).sv=[.int .i64 r,.int .i64 k,.lst 1 (bls (mkV r k a d).dg) .no,.byt d .no]:=rfl
theorem lW (r k a:Int) (d:List UInt8) (h:d.length≤1000):EvS (mkV r k a d):=by
 have e1:=vF d;have e2:=gK d
 by_cases hk:k=5
 ·refine⟨?_,h, ?_, ?_⟩<;>simp only [mkV,hk,if_true]<;>decide
 ·refine⟨?_,h, ?_, ?_⟩<;>simp only [mkV,hk,if_false]
  ·rfl
  ·rw [bm]
   split
   ·omega
   ·exact cL _
  ·rw [bw,bm]
   split
   ·omega
   ·exact cL _
theorem HB:∀v,v<8→∃r:Int,([[SV.int af 0],[SV.int af 0],[SV.int af 4],[SV.int af 8],[SV.int af 9],[SV.int af 9],[SV.int af 1],[SV.int af 11]]:List (List SV)).getD v []=[.int .i64 r]
 |0,_=>⟨_,rfl⟩
 |1,_=>⟨_,rfl⟩
 |2,_=>⟨_,rfl⟩
 |3,_=>⟨_,rfl⟩
 |4,_=>⟨_,rfl⟩
 |5,_=>⟨_,rfl⟩
 |6,_=>⟨_,rfl⟩
 |7,_=>⟨_,rfl⟩
 |n+8,h=>absurd h (by omega)
theorem f38 (B:List UInt8) (hB:B.length≤1000) (j:Nat) (a:Int) (ha:lN a):∃(e:Ev) (j':Nat),EvS e∧call T 38 [.ptr 0 0,.int .i64 a] [aG B j] 0=some ⟨.agg e.sv,[(0,aG B j')],[]⟩:=by
 obtain⟨d,j1,hd1,hd8,g1⟩:=xp1 B hB j;obtain⟨v2,j2,h2,g2⟩:=eT B hB j1 4 (by omega);rw [cz4]at g2;simp only [aG]at g1 g2
 by_cases p2:v2=3
 ·have n2:(v2:Int)=3:=by omega
  obtain⟨v9,j9,h9,g0⟩:=eT B hB j2 2 (by omega);rw [c2]at g0;have l9:v9≤d.length:=by omega
  simp only [aG]at g0;obtain⟨v3,j3,h3,g3⟩:=eT B hB j9 5 (by omega);rw [cz5]at g3;obtain⟨v4,j4,h4,g4⟩:=eT B hB j3 8 (by omega);rw [c8]at g4;obtain⟨r,hr⟩:=HB v4 h4;obtain⟨k,hk⟩:∃k:Int,k=1+(v3:Int):=⟨_,rfl⟩;have e1:af.wrap (1+(v3:Int))=k:=by rw [hk,w64 (by omega) (by omega)]
  have hv4:(v4:Int)<8:=by omega
  simp only [aG]at g3 g4
  by_cases p3:k=2
  ·subst p3
   obtain⟨v5,j5,h5,g5⟩:=eT B hB j4 4 (by omega);rw [cz4]at g5;simp only [aG]at g5
   by_cases p5:0<v5
   ·have p5':(0:Int)<(v5:Int):=by omega
    obtain⟨v6,j6,h6,g6⟩:=eT B hB j5 8 (by omega);rw [c8]at g6;simp only [aG]at g6;have gm:=f76 (v6:Int) 2 a [0,0,0,0] ha (by decide);obtain⟨v7,j7,h7,g7⟩:=eT B hB j6 4 (by omega);rw [cz4]at g7;simp only [aG]at g7
    by_cases p7:v7=3
    ·have p7':(v7:Int)=3:=by omega
     obtain⟨v8,j8,h8,g8⟩:=eT B hB j7 4 (by omega);rw [cz4]at g8;simp only [aG]at g8;obtain⟨d0,d1,m0,m1,g9⟩:=f87 a ha (bQ (v8:Int)) (bQ 2);refine⟨⟨(v6:Int),2,[d0,d1],[0,0,0,0]⟩,j8,⟨rfl,Nat.le_of_ble_eq_true rfl,cu m0 (by decide),cu m1 (by decide)⟩, ?_⟩;rw [aq qt];rw [dT]at gm;simp only [Ev.sv];simp only [aG]at gm ⊢;simp only [go_sem,Q2,Q3,Q5,Qe,Qg,Qh,Qi,Qj,Qk,reduceCtorEq,reduceIte,oF,ee,nE,QN,g1,g2,n2,g0,l9,g3,e1,g4,hv4,hr,g5,p5',g6,g7,p7',g8,g9,gm]
    ·have p7':¬(v7:Int)=3:=by omega
     refine⟨mkV (v6:Int) 2 a [0,0,0,0],j7,lW _ _ _ _ (Nat.le_of_ble_eq_true rfl), ?_⟩;rw [aq qt];rw [dT]at gm;rw [dT];simp only [aG]at gm ⊢;simp only [go_sem,Q2,Q3,Q5,Qe,Qg,Qh,Qi,Qj,Qk,reduceCtorEq,reduceIte,oF,ee,nE,g1,g2,n2,g0,l9,g3,e1,g4,hv4,hr,g5,p5',g6,g7,p7',gm]
   ·have p5':¬(0:Int)<(v5:Int):=by omega
    have gm:=f76 r 2 a (d.take v9) ha (by rw [ay];omega);obtain⟨v7,j7,h7,g7⟩:=eT B hB j5 4 (by omega);rw [cz4]at g7;simp only [aG]at g7
    by_cases p7:v7=3
    ·have p7':(v7:Int)=3:=by omega
     obtain⟨v8,j8,h8,g8⟩:=eT B hB j7 4 (by omega);rw [cz4]at g8;simp only [aG]at g8;obtain⟨d0,d1,m0,m1,g9⟩:=f87 a ha (bQ (v8:Int)) (bQ 2);refine⟨⟨r,2,[d0,d1],(d.take v9)⟩,j8,⟨rfl,by rw [ay];omega,cu m0 (by decide),cu m1 (by decide)⟩, ?_⟩;rw [aq qt];rw [dT]at gm;simp only [Ev.sv];simp only [aG]at gm ⊢;simp only [go_sem,Q2,Q3,Q5,Qe,Qg,Qh,Qi,Qj,Qk,reduceCtorEq,reduceIte,oF,ee,nE,QN,g1,g2,n2,g0,l9,g3,e1,g4,hv4,hr,g5,p5',g7,p7',g8,g9,gm]
    ·have p7':¬(v7:Int)=3:=by omega
     refine⟨mkV r 2 a (d.take v9),j7,lW _ _ _ _ (by rw [ay];omega), ?_⟩;rw [aq qt];rw [dT]at gm;rw [dT];simp only [aG]at gm ⊢;simp only [go_sem,Q2,Q3,Q5,Qe,Qg,Qh,Qi,Qj,Qk,reduceCtorEq,reduceIte,oF,ee,nE,g1,g2,n2,g0,l9,g3,e1,g4,hv4,hr,g5,p5',g7,p7',gm]
  ·have gm:=f76 r k a (d.take v9) ha (by rw [ay];omega)
   by_cases p5:k=5
   ·subst p5
    refine⟨mkV r 5 a (d.take v9),j4,lW _ _ _ _ (by rw [ay];omega), ?_⟩;rw [aq qt];rw [dT]at gm;rw [dT];simp only [aG]at gm ⊢;simp only [go_sem,Q2,Q3,Q5,Qe,Qg,Qh,Qi,Qj,Qk,reduceCtorEq,reduceIte,oF,ee,nE,g1,g2,n2,g0,l9,g3,e1,g4,hv4,hr,gm]
   ·skip
    obtain⟨v7,j7,h7,g7⟩:=eT B hB j4 4 (by omega);rw [cz4]at g7;simp only [aG]at g7
    by_cases p7:v7=3
    ·have p7':(v7:Int)=3:=by omega
     obtain⟨v8,j8,h8,g8⟩:=eT B hB j7 4 (by omega);rw [cz4]at g8;simp only [aG]at g8;obtain⟨d0,d1,m0,m1,g9⟩:=f87 a ha (bQ (v8:Int)) (bQ k);refine⟨⟨r,k,[d0,d1],(d.take v9)⟩,j8,⟨rfl,by rw [ay];omega,cu m0 (by decide),cu m1 (by decide)⟩, ?_⟩;rw [aq qt];rw [dT]at gm;simp only [Ev.sv];simp only [aG]at gm ⊢;simp only [go_sem,Q2,Q3,Q4,Qe,Qg,Qh,Qi,Qj,Qk,reduceCtorEq,reduceIte,oF,ee,nE,QN,g1,g2,n2,g0,l9,g3,e1,g4,hv4,hr,p3,p5,g7,p7',g8,g9,gm]
    ·have p7':¬(v7:Int)=3:=by omega
     refine⟨mkV r k a (d.take v9),j7,lW _ _ _ _ (by rw [ay];omega), ?_⟩;rw [aq qt];rw [dT]at gm;rw [dT];simp only [aG]at gm ⊢;simp only [go_sem,Q2,Q3,Qe,Qg,Qh,Qi,Qj,Qk,reduceCtorEq,reduceIte,oF,ee,nE,g1,g2,n2,g0,l9,g3,e1,g4,hv4,hr,p3,p5,g7,p7',gm]
 ·have n2:¬(v2:Int)=3:=by omega
  obtain⟨v3,j3,h3,g3⟩:=eT B hB j2 5 (by omega);rw [cz5]at g3;obtain⟨v4,j4,h4,g4⟩:=eT B hB j3 8 (by omega);rw [c8]at g4;obtain⟨r,hr⟩:=HB v4 h4;obtain⟨k,hk⟩:∃k:Int,k=1+(v3:Int):=⟨_,rfl⟩;have e1:af.wrap (1+(v3:Int))=k:=by rw [hk,w64 (by omega) (by omega)]
  have hv4:(v4:Int)<8:=by omega
  simp only [aG]at g3 g4
  by_cases p3:k=2
  ·subst p3
   obtain⟨v5,j5,h5,g5⟩:=eT B hB j4 4 (by omega);rw [cz4]at g5;simp only [aG]at g5
   by_cases p5:0<v5
   ·have p5':(0:Int)<(v5:Int):=by omega
    obtain⟨v6,j6,h6,g6⟩:=eT B hB j5 8 (by omega);rw [c8]at g6;simp only [aG]at g6;have gm:=f76 (v6:Int) 2 a [0,0,0,0] ha (by decide);obtain⟨v7,j7,h7,g7⟩:=eT B hB j6 4 (by omega);rw [cz4]at g7;simp only [aG]at g7
    by_cases p7:v7=3
    ·have p7':(v7:Int)=3:=by omega
     obtain⟨v8,j8,h8,g8⟩:=eT B hB j7 4 (by omega);rw [cz4]at g8;simp only [aG]at g8;obtain⟨d0,d1,m0,m1,g9⟩:=f87 a ha (bQ (v8:Int)) (bQ 2);refine⟨⟨(v6:Int),2,[d0,d1],[0,0,0,0]⟩,j8,⟨rfl,Nat.le_of_ble_eq_true rfl,cu m0 (by decide),cu m1 (by decide)⟩, ?_⟩;rw [aq qt];rw [dT]at gm;simp only [Ev.sv];simp only [aG]at gm ⊢;simp only [go_sem,Q5,Qe,Qg,Qh,Qi,Qj,Qk,reduceCtorEq,reduceIte,oF,ee,nE,QN,g1,g2,n2,g3,e1,g4,hv4,hr,g5,p5',g6,g7,p7',g8,g9,gm]
    ·have p7':¬(v7:Int)=3:=by omega
     refine⟨mkV (v6:Int) 2 a [0,0,0,0],j7,lW _ _ _ _ (Nat.le_of_ble_eq_true rfl), ?_⟩;rw [aq qt];rw [dT]at gm;rw [dT];simp only [aG]at gm ⊢;simp only [go_sem,Q5,Qe,Qg,Qh,Qi,Qj,Qk,reduceCtorEq,reduceIte,oF,ee,nE,g1,g2,n2,g3,e1,g4,hv4,hr,g5,p5',g6,g7,p7',gm]
   ·have p5':¬(0:Int)<(v5:Int):=by omega
    have gm:=f76 r 2 a d ha (by show d.length≤_;omega);obtain⟨v7,j7,h7,g7⟩:=eT B hB j5 4 (by omega);rw [cz4]at g7;simp only [aG]at g7
    by_cases p7:v7=3
    ·have p7':(v7:Int)=3:=by omega
     obtain⟨v8,j8,h8,g8⟩:=eT B hB j7 4 (by omega);rw [cz4]at g8;simp only [aG]at g8;obtain⟨d0,d1,m0,m1,g9⟩:=f87 a ha (bQ (v8:Int)) (bQ 2);refine⟨⟨r,2,[d0,d1],d⟩,j8,⟨rfl,by show d.length≤_;omega,cu m0 (by decide),cu m1 (by decide)⟩, ?_⟩;rw [aq qt];rw [dT]at gm;simp only [Ev.sv];simp only [aG]at gm ⊢;simp only [go_sem,Q5,Qe,Qg,Qh,Qi,Qj,Qk,reduceCtorEq,reduceIte,oF,ee,nE,QN,g1,g2,n2,g3,e1,g4,hv4,hr,g5,p5',g7,p7',g8,g9,gm]
    ·have p7':¬(v7:Int)=3:=by omega
     refine⟨mkV r 2 a d,j7,lW _ _ _ _ (by show d.length≤_;omega), ?_⟩;rw [aq qt];rw [dT]at gm;rw [dT];simp only [aG]at gm ⊢;simp only [go_sem,Q5,Qe,Qg,Qh,Qi,Qj,Qk,reduceCtorEq,reduceIte,oF,ee,nE,g1,g2,n2,g3,e1,g4,hv4,hr,g5,p5',g7,p7',gm]
  ·have gm:=f76 r k a d ha (by show d.length≤_;omega)
   by_cases p5:k=5
   ·subst p5
    refine⟨mkV r 5 a d,j4,lW _ _ _ _ (by show d.length≤_;omega), ?_⟩;rw [aq qt];rw [dT]at gm;rw [dT];simp only [aG]at gm ⊢;simp only [go_sem,Q5,Qe,Qg,Qh,Qi,Qj,Qk,reduceCtorEq,reduceIte,oF,ee,nE,g1,g2,n2,g3,e1,g4,hv4,hr,gm]
   ·skip
    obtain⟨v7,j7,h7,g7⟩:=eT B hB j4 4 (by omega);rw [cz4]at g7;simp only [aG]at g7
    by_cases p7:v7=3
    ·have p7':(v7:Int)=3:=by omega
     obtain⟨v8,j8,h8,g8⟩:=eT B hB j7 4 (by omega);rw [cz4]at g8;simp only [aG]at g8;obtain⟨d0,d1,m0,m1,g9⟩:=f87 a ha (bQ (v8:Int)) (bQ k);refine⟨⟨r,k,[d0,d1],d⟩,j8,⟨rfl,by show d.length≤_;omega,cu m0 (by decide),cu m1 (by decide)⟩, ?_⟩;rw [aq qt];rw [dT]at gm;simp only [Ev.sv];simp only [aG]at gm ⊢;simp only [go_sem,Q4,Qe,Qg,Qh,Qi,Qj,Qk,reduceCtorEq,reduceIte,oF,ee,nE,QN,g1,g2,n2,g3,e1,g4,hv4,hr,p3,p5,g7,p7',g8,g9,gm]
    ·have p7':¬(v7:Int)=3:=by omega
     refine⟨mkV r k a d,j7,lW _ _ _ _ (by show d.length≤_;omega), ?_⟩;rw [aq qt];rw [dT]at gm;rw [dT];simp only [aG]at gm ⊢;simp only [go_sem,Qe,Qg,Qh,Qi,Qj,Qk,reduceCtorEq,reduceIte,oF,ee,nE,g1,g2,n2,g3,e1,g4,hv4,hr,p3,p5,g7,p7',gm]
theorem ED (l:List Ev) (x:Ev):bD l++ [x.sv]=bD (l++ [x]):=by rw [bD,bD,bz];rfl
theorem kN {α:Type} {P:α→Prop} {l:List α} {x:α} (h:∀e,e∈l→P e) (hx:P x):∀e,e∈l++ [x]→P e:=by
 intro e he;rcases aj.mp he with h1|h1
 ·exact h e h1
 ·rw [aV.mp h1];exact hx
theorem l85 (B:List UInt8) (hB:B.length≤1000) (a:Int) (ha:lN a):∀(n:Nat) (l:List Ev) (j:Nat),14-l.length=n→l.length≤14→(∀e,e∈l→EvS e)→
 ∃(l':List Ev) (j':Nat),l'.length≤14∧(∀e,e∈l'→EvS e)∧
 run T (.loop Rd) ⟨[(0,.ptr 0 0),(1,.int .i64 a),(2,.int .i64 14),(7,.lst 4 (bD l) (.id 107))],[(0,aG B j)],[107]⟩=
  some (.x 0,⟨[(7,.lst 4 (bD l') (.id 107))],[(0,aG B j')],[107]⟩):=by
 intro n;induction n with
 |zero=>
  intro l j h0 h1 h2;have:l.length=14:=by omega
  have hv:(bD l).length=14:=by rw [ct];exact this
  refine⟨l,j,h1,h2, ?_⟩;have g:=xo5 B j;rw [ak]
  by_cases q:j<B.length
  ·rw [decide_eq_true q]at g
   simp only [aG]at g ⊢;simp only [go_sem,Q4,Qe,Qg,Qh,Qi,Qj,Qk,reduceCtorEq,reduceIte,g,E5,hv]
  ·rw [decide_eq_false q]at g
   simp only [aG]at g ⊢;simp only [go_sem,Qe,Qg,Qh,Qi,Qj,Qk,reduceCtorEq,reduceIte,g,E5]
 |succ n ih=>
  intro l j h0 h1 h2;have hv:=ct l;have g:=xo5 B j;have c14:(l.length:Int)<14:=by omega
  have c1:(l.length+1)*64≤140737488355328:=by omega
  by_cases q:j<B.length
  ·rw [decide_eq_true q]at g
   obtain⟨e,j1,he,ge⟩:=f38 B hB j a ha;obtain⟨l',j',q1,q2,q3⟩:=ih (l++ [e]) j1 (by rw [ah,aH];omega) (by rw [ah,aH];omega) (kN h2 he);refine⟨l',j',q1,q2, ?_⟩;rw [ak];obtain⟨e1,e2,e3,e4⟩:=e;rw [←ED]at q3;simp only [aG,Ev.sv]at g ge q3 ⊢;simp only [go_sem,Qe,Qg,Qh,Qi,Qj,Qk,reduceCtorEq,reduceIte,g,E5,hv,c14,ge,xjN,c1,q3]
  ·rw [decide_eq_false q]at g
   refine⟨l,j,h1,h2, ?_⟩;rw [ak];simp only [aG]at g ⊢;simp only [go_sem,Qe,Qg,Qh,Qi,Qj,Qk,reduceCtorEq,reduceIte,g,E5]
theorem f85 (B:List UInt8) (hB:B.length≤1000) (j:Nat) (a:Int) (ha:lN a):∃(l:List Ev) (j':Nat),l.length≤14∧(∀e,e∈l→EvS e)∧
 call T 85 [.ptr 0 0,.int .i64 a,.int .i64 14] [aG B j] 0=some ⟨.lst 4 (bD l) .no,[(0,aG B j')],[]⟩:=by
 obtain⟨l',j',q1,q2,q3⟩:=l85 B hB a ha 14 [] j rfl (cL _) (fun e he=>absurd he (by simp));refine⟨l',j',q1,q2, ?_⟩;rw [show bD []=[]from rfl]at q3;rw [aq xrq];simp only [aG]at q3 ⊢;simp only [go_sem,Qe,Qh,Qi,Qj,Qk,reduceCtorEq,reduceIte,q3]
theorem iD {α:Type} {P:α→Prop} {l r:List α} (h:∀e,e∈l→P e) (hr:∀e,e∈r→P e):∀e,e∈l++r→P e:=by
 intro e he;rcases aj.mp he with h1|h1
 ·exact h e h1
 ·exact hr e h1
theorem Dn {α:Type} {P:α→Prop} {l:List α} {i:Nat} {x:α} (h:∀e,e∈l→P e) (hx:P x):∀e,e∈l.set i x→P e:=by
 intro e he;rcases List.mem_or_eq_of_mem_set he with h1|h1
 ·exact h e h1
 ·rw [h1];exact hx
theorem l36 (B:List UInt8) (hB:B.length≤1000) (a:Int) (ha:lN a) (u:Int):∀(n:Nat) (l:List Ev) (j:Nat),n+1≤l.length→l.length+n≤200→(∀e,e∈l→EvS e)→
 ∃(l':List Ev) (j':Nat),l'.length≤200∧(∀e,e∈l'→EvS e)∧
 run T (.loop yW) ⟨[(1,.int .i64 a),(6,.ptr 106 0),(7,.ptr 15100 0),(8,.ptr 108 0),(10,.int .i64 (n:Int))],[(106,.rc [.int .i64 0,.int .i64 0,.lst 4 [] .clip]),(108,.rc [.int .i64 a,.int .i64 u,.lst 4 (bD l) .no]),(15100,aG B j)],[]⟩=
  some (.x 0,⟨[(6,.ptr 106 0),(8,.ptr 108 0)],[(106,.rc [.int .i64 0,.int .i64 0,.lst 4 [] .clip]),(108,.rc [.int .i64 a,.int .i64 u,.lst 4 (bD l') .no]),(15100,aG B j')],[]⟩):=by
 intro n;induction n with
 |zero=>intro l j h0 h1 h2;refine⟨l,j,by omega,h2, ?_⟩;rw [ak];simp only [aG];simp only [go_sem,Q4,Qh,Qj,Qk,reduceIte]
 |succ n ih=>
  intro l j h0 h1 h2;have hv:=ct l;have hp:(0:Int)<((n+1:Nat):Int):=by omega
  have e1:af.wrap (((n+1:Nat):Int)-1)=(n:Int):=wZ (by omega)
  obtain⟨v1,j1,k1,g1⟩:=eT B hB j l.length (by omega);obtain⟨v2,j2,k2,g2⟩:=eT B hB j1 5 (by omega);rw [cz5]at g2;simp only [aG]at g1 g2;have k1':v1≤l.length:=by omega
  have k1i:(v1:Int)<(l.length:Int):=by omega
  have hs:v1+1≤l.length:=by omega
  have e2:af.wrap ((v1:Int)+1)=((v1+1:Nat):Int):=wZ (by omega)
  have tf:cT l.length (bD l)=bD l:=by rw [←hv,br]
  obtain⟨A,hA⟩:∃A,A=l.take v1:=⟨_,rfl⟩;obtain⟨C,hC⟩:∃C,C=l.drop (v1+1):=⟨_,rfl⟩;obtain⟨D,hD⟩:∃D,D=l.drop v1:=⟨_,rfl⟩;have tA:cT v1 (bD l)=bD A:=by rw [hA,bD,bD,List.map_take]
  have tC:fO (v1+1) (bD l)=bD C:=by rw [hC,bD,bD,List.map_drop]
  have tD:fO v1 (bD l)=bD D:=by rw [hD,bD,bD,List.map_drop]
  have nA:A.length=v1:=by rw [hA,ay];omega
  have nC:C.length=l.length-(v1+1):=by rw [hC,aF]
  have nD:D.length=l.length-v1:=by rw [hD,aF]
  have vA:(bD A).length=v1:=by rw [ct,nA]
  have vC:(bD C).length=l.length-(v1+1):=by rw [ct,nC]
  have vD:(bD D).length=l.length-v1:=by rw [ct,nD]
  have sA:∀e,e∈A→EvS e:=fun e he=>h2 e (by rw [hA]at he;exact bH he)
  have sC:∀e,e∈C→EvS e:=fun e he=>h2 e (by rw [hC]at he;exact gV he)
  have sD:∀e,e∈D→EvS e:=fun e he=>h2 e (by rw [hD]at he;exact gV he)
  have eAC:bD A++bD C=bD (A++C):=by rw [bD,bD,bD,bz]
  have hc:v2=0∨v2=1∨v2=2∨v2=3∨v2=4:=by omega
  rcases hc with rfl|rfl|rfl|rfl|rfl
  ·obtain⟨l',j',q1,q2,q3⟩:=ih (A++C) j2 (by rw [ah];omega) (by rw [ah];omega) (iD sA sC)
   refine⟨l',j',q1,q2, ?_⟩;have b1:v1*64≤140737488355328:=by omega
   have b2:(v1+(l.length-(v1+1)))*64≤140737488355328:=by omega
   rw [←eAC]at q3;rw [ak];simp only [aG]at q3 ⊢;simp only [go_sem,Q2,Q3,Q5,Qb,Qc,Qd,Qe,Qg,Qh,Qi,Qj,Qk,reduceCtorEq,reduceIte,hp,hv,g1,ee,g2,k1,k1',e2,hs,tf,tA,tC,vA,vC,b1,b2,e1,q3]
  ·obtain⟨x,hx⟩:∃x,x=l.getD v1 ⟨0,0,[],[]⟩:=⟨_,rfl⟩
   have sx:EvS x:=h2 x (by rw [hx,aa,ab k1];exact aT _);have hg:(bD l).getD v1 []=x.sv:=by rw [mV l v1 k1,hx]
   obtain⟨l',j',q1,q2,q3⟩:=ih (A++ [x]++D) j2 (by simp only [ah,aH];omega) (by simp only [ah,aH];omega) (iD (kN sA sx) sD);refine⟨l',j',q1,q2, ?_⟩;have b1:v1*64≤140737488355328:=by omega
   have b3:(v1+1)*64≤140737488355328:=by omega
   have b2:(v1+(1+(l.length-v1)))*64≤140737488355328:=by omega
   have b4:(v1+1+(l.length-v1))*64≤140737488355328:=by omega
   have eAD:bD (A++ [x]++D)=bD A++([x.sv]++bD D):=by rw [bD,bD,bD,bz,bz,aU];rfl
   rw [eAD]at q3;obtain⟨x1,x2,x3,x4⟩:=x;rw [ak];simp only [aG,Ev.sv,bG,bp]at q3 hg ⊢;simp only [go_sem,Q2,Q3,Q5,Qb,Qc,Qd,Qe,Qg,Qh,Qi,Qj,Qk,reduceCtorEq,reduceIte,hp,hv,g1,ee,g2,k1',k1i,hg,tf,tA,tD,vA,vD,b1,b3,b4,e1,q3]
  ·have hne:¬bD l=[]:=fun q=>by rw [q]at hv;simp at hv;omega
   obtain⟨v3,j3,k3,g3⟩:=eT B hB j2 l.length (by omega);simp only [aG]at g3;obtain⟨x,hx⟩:∃x,x=l.getD v1 ⟨0,0,[],[]⟩:=⟨_,rfl⟩;obtain⟨y,hy⟩:∃y,y=l.getD v3 ⟨0,0,[],[]⟩:=⟨_,rfl⟩;have sx:EvS x:=h2 x (by rw [hx,aa,ab k1];exact aT _);have sy:EvS y:=h2 y (by rw [hy,aa,ab k3];exact aT _);have hg:(bD l).getD v1 []=x.sv:=by rw [mV l v1 k1,hx]
   have hg3:(bD l).getD v3 []=y.sv:=by rw [mV l v3 k3,hy]
   have k3i:(v3:Int)<(l.length:Int):=by omega
   obtain⟨l',j',q1,q2,q3⟩:=ih ((l.set v1 y).set v3 x) j3 (by simp only [eZ];omega) (by simp only [eZ];omega) (Dn (Dn h2 sy) sx);refine⟨l',j',q1,q2, ?_⟩;have b1:l.length*64≤140737488355328:=by omega
   have eS:bD ((l.set v1 y).set v3 x)=((bD l).set v1 y.sv).set v3 x.sv:=by rw [bD,bD,List.map_set,List.map_set]
   rw [eS]at q3;have tl2:cT l.length (((bD l).set v1 y.sv).set v3 x.sv)=((bD l).set v1 y.sv).set v3 x.sv:=co (by simp only [eZ];omega);obtain⟨x1,x2,x3,x4⟩:=x;obtain⟨y1,y2,y3,y4⟩:=y;rw [ak];simp only [aG,Ev.sv]at q3 hg hg3 tl2 ⊢;simp only [go_sem,Q2,Q3,Q5,Qb,Qc,Qd,Qe,Qg,Qh,Qi,Qj,Qk,reduceCtorEq,reduceIte,hp,hv,g1,ee,g2,g3,k1,k1',k1i,k3,k3i,hg,hg3,tf,fy,b1,e1,hne,eZ,tl2,q3]
  ·obtain⟨x,j3,sx,g3⟩:=f38 B hB j2 a ha
   obtain⟨l',j',q1,q2,q3⟩:=ih (A++ [x]++D) j3 (by simp only [ah,aH];omega) (by simp only [ah,aH];omega) (iD (kN sA sx) sD);refine⟨l',j',q1,q2, ?_⟩;have b1:v1*64≤140737488355328:=by omega
   have b3:(v1+1)*64≤140737488355328:=by omega
   have b2:(v1+(1+(l.length-v1)))*64≤140737488355328:=by omega
   have b4:(v1+1+(l.length-v1))*64≤140737488355328:=by omega
   have eAD:bD (A++ [x]++D)=bD A++([x.sv]++bD D):=by rw [bD,bD,bD,bz,bz,aU];rfl
   rw [eAD]at q3;obtain⟨x1,x2,x3,x4⟩:=x;rw [ak];simp only [aG,Ev.sv,bG,bp]at q3 g3 ⊢;simp only [go_sem,Q2,Q3,Q5,Qb,Qc,Qd,Qe,Qg,Qh,Qi,Qj,Qk,reduceCtorEq,reduceIte,hp,hv,g1,ee,g2,g3,xjN,k1',k1i,tf,tA,tD,vA,vD,b1,b3,b4,e1,q3]
  ·have g3:=f76 3 5 a [110,111,116,101] ha (by decide)
   have sx:=lW 3 5 a [110,111,116,101] (by decide);rw [dT]at g3;obtain⟨l',j',q1,q2,q3⟩:=ih (A++ [mkV 3 5 a [110,111,116,101]]++D) j2 (by simp only [ah,aH];omega) (by simp only [ah,aH];omega) (iD (kN sA sx) sD);refine⟨l',j',q1,q2, ?_⟩;have b1:v1*64≤140737488355328:=by omega
   have b3:(v1+1)*64≤140737488355328:=by omega
   have b2:(v1+(1+(l.length-v1)))*64≤140737488355328:=by omega
   have b4:(v1+1+(l.length-v1))*64≤140737488355328:=by omega
   have eAD:bD (A++ [mkV 3 5 a [110,111,116,101]]++D)=bD A++([(mkV 3 5 a [110,111,116,101]).sv]++bD D):=by rw [bD,bD,bD,bz,bz,aU];rfl
   rw [eAD,dT]at q3;rw [ak];simp only [aG,bG,bp]at q3 g3 ⊢;simp only [go_sem,Q2,Q3,Q5,Qb,Qc,Qd,Qe,Qg,Qh,Qi,Qj,Qk,reduceCtorEq,reduceIte,hp,hv,g1,ee,g2,g3,nE,k1',k1i,tf,tA,tD,vA,vD,b1,b3,b4,e1,q3]
theorem xi5 (x:Img) (a:Int):((wA (iz x) a).getD 0 []).length≤1000∧((wA (iz x) a).getD 1 []).length≤1000:=by
 have e1:=vF (iz x);have e2:=gK (iz x);unfold wA;split
 ·exact⟨cL _,cL _⟩
 ·constructor
  ·rw [bm]
   split
   ·omega
   ·exact cL _
  ·rw [bw,bm]
   split
   ·omega
   ·exact cL _
theorem xlR {x:Img} (a:Int) (h:gO x=0):EvS (ofI x a):=by obtain⟨q1,q2,q3,q4,q5,q6⟩:=jK h;have hn:=kV q5;obtain⟨v,hv⟩:=Int.eq_ofNat_of_zero_le q3;have hl:=jp 6 v (by omega);obtain⟨h0,h1⟩:=xi5 x a;refine⟨wz _ _, ?_,h0,h1⟩;show(tT x.name x.ver).length≤1000;unfold tT;rw [hv,ah,ax];show x.name.length+((dec v).length+1)≤1000;omega
theorem xiW {x:Img} (a role:Int) (h:gO x=0):∀e,e∈ke a role x→EvS e:=by
 intro e he;obtain⟨q1,q2,q3,q4,q5,q6⟩:=jK h;unfold ke at he;split at he
 ·split at he
  ·obtain⟨y,hy,rfl⟩:=aS.1 he
   have:=(nN x.pay).2 y hy;exact lW _ _ _ _ (by omega)
  ·rw [aV.1 he];exact xlR a h
 ·cases he
theorem Hv (a:Int):∀n i e,e∈tr a i n→EvS e
 |0,i,e,he=>by cases he
 |n+1,i,e,he=>by
  rw [tr]at he;rcases ao.1 he with rfl|he
  ·exact lW _ _ _ _ (by decide)
  ·exact Hv a n _ e he
theorem xp2 {l:List Img} {x:Img} (h:x∈l) (hc:∀i,i<l.length→gO (l.getD i im0)=0):gO x=0:=by obtain⟨i,hi,rfl⟩:=bV h;have:=hc i hi;rwa [aa,ab hi]at this
theorem xeP {l:List Img} (hc:eu l) (a:Int):∀e,e∈evF l a→EvS e:=by
 have hf:∀role e,e∈l.flatMap (ke a role)→EvS e:=by intro role e he;obtain⟨x,hx,h⟩:=List.mem_flatMap.1 he;exact xiW a role (xp2 hx hc.ok) e h
 unfold evF;exact iD (hf 1) (iD (hf 2) (iD (Hv a 8 0) (iD (hf 3) (hf 4))))
theorem Df {l:List Img} (hc:eu l) (a:Int):8≤(evF l a).length∧(evF l a).length≤150:=by have n8:=hc.n8;have b1:=iG l a 1;have b2:=iG l a 2;have b3:=iG l a 3;have b4:=iG l a 4;have b0:=qC a 8 0;unfold evF;simp only [ah];omega
theorem f36 (codes:List UInt8) (a:Int) (ha:lN a):∃l:List Ev,l.length≤200∧(∀e,e∈l→EvS e)∧call T 36 [.byt codes .no,.int .i64 a,.int .i64 0] [] 0=some ⟨.agg [.int .i64 a,.int .i64 0,.lst 4 (bD l) .no],[],[]⟩:=by
 have hB:(codes.take 240).length≤1000:=by rw [ay];omega
 have g0:=f35 codes 240;have gm:=f18 0 1000 (by decide) (by decide) (by decide);rw [show tR 0 1000=0 from rfl]at gm;rw [xrc]at g0;generalize codes.take 240=B at*;have g1:=f37 B 0 3 (by omega) (by omega);have v1:=dH B 0 3 (by omega);have hj:ce B 0≤B.length:=by unfold ce;split<;>omega
 generalize ce B 0=j1 at*;generalize dp B 0 3=w at*;rw [cz3]at g1;by_cases hw:w=0
 ·obtain⟨l,j2,q1,q2,g2⟩:=f85 B hB j1 a ha
  refine⟨l,by omega,q2, ?_⟩;have hw':(w:Int)=0:=by omega
  rw [aq xpm];simp only [aG,c0]at g0 g1 g2 ⊢;simp only [go_sem,Qe,Qg,Qh,Qi,Qj,Qk,reduceCtorEq,reduceIte,g0,QR,gm,xjS,g1,ee,hw',g2,xsm]
 ·obtain⟨ch,hch,g2⟩:=f24 (B.drop j1)
  have g3:=f31 ch hch a ha;obtain⟨n8,n150⟩:=Df hch a;obtain⟨n,j2,hn,g4⟩:=eT B hB j1 4 (by omega);rw [cz4]at g4;obtain⟨l',j',q1,q2,q3⟩:=l36 B hB a ha 0 n (evF ch a) j2 (by omega) (by omega) (xeP hch a);refine⟨l',q1,q2, ?_⟩;have hw':¬(w:Int)=0:=by omega
  have tf:cT B.length B=B:=br ..;have hj':(j1:Int)≤(B.length:Int):=by omega
  rw [aq xpm];simp only [aG,c0]at g0 g1 g4 q3 ⊢;simp only [go_sem,Qb,Qc,Qd,Qe,Qg,Qh,Qi,Qj,Qk,reduceCtorEq,reduceIte,g0,QR,gm,xjS,g1,ee,hw',tf,hj',g2,xjQ,g3,xjO,g4,q3]
theorem l11 (B:List UInt8) (hB:B.length≤1000) (a:Int) (ha:lN a) (ma:List UInt8) (I:List (List SV)):∀(n:Nat) (l:List Ev) (j:Nat),n≤10→l.length+n≤250→(∀e,e∈l→EvS e)→
 ∃(l':List Ev) (j':Nat),l'.length≤250∧(∀e,e∈l'→EvS e)∧
 run T (.loop zb) ⟨[(2,.byt ma .no),(8,.ptr 108 0),(10,.lst 4 I .no),(11,.ptr 19100 0),(12,.ptr 112 0),(13,.int .i64 (n:Int))],[(108,.rc [.int .i64 0,.int .i64 0,.lst 4 [] .clip]),(112,.rc [.int .i64 a,.int .i64 0,.lst 4 (bD l) .no]),(19100,aG B j)],[]⟩=
  some (.x 0,⟨[(2,.byt ma .no),(8,.ptr 108 0),(10,.lst 4 I .no),(12,.ptr 112 0)],[(108,.rc [.int .i64 0,.int .i64 0,.lst 4 [] .clip]),(112,.rc [.int .i64 a,.int .i64 0,.lst 4 (bD l') .no]),(19100,aG B j')],[]⟩):=by
 intro n;induction n with
 |zero=>intro l j h0 h1 h2;refine⟨l,j,by omega,h2, ?_⟩;rw [ak];simp only [aG];simp only [go_sem,Q4,Qh,Qj,Qk,reduceIte]
 |succ n ih=>
  intro l j h0 h1 h2;have hv:=ct l;have hp:(0:Int)<((n+1:Nat):Int):=by omega
  have e1:af.wrap (((n+1:Nat):Int)-1)=(n:Int):=wZ (by omega)
  have e2:=bW l.length (by omega);obtain⟨v1,j1,k1,g1⟩:=eT B hB j (l.length+1) (by omega);obtain⟨x,j2,sx,g3⟩:=f38 B hB j1 a ha;have k1':v1≤l.length:=by omega
  have k1i:(v1:Int)≤(l.length:Int):=by omega
  have tf:cT l.length (bD l)=bD l:=by rw [←hv,br]
  obtain⟨A,hA⟩:∃A,A=l.take v1:=⟨_,rfl⟩;obtain⟨D,hD⟩:∃D,D=l.drop v1:=⟨_,rfl⟩;have tA:cT v1 (bD l)=bD A:=by rw [hA,bD,bD,List.map_take]
  have tD:fO v1 (bD l)=bD D:=by rw [hD,bD,bD,List.map_drop]
  have nA:A.length=v1:=by rw [hA,ay];omega
  have nD:D.length=l.length-v1:=by rw [hD,aF]
  have vA:(bD A).length=v1:=by rw [ct,nA]
  have vD:(bD D).length=l.length-v1:=by rw [ct,nD]
  have sA:∀e,e∈A→EvS e:=fun e he=>h2 e (by rw [hA]at he;exact bH he)
  have sD:∀e,e∈D→EvS e:=fun e he=>h2 e (by rw [hD]at he;exact gV he)
  obtain⟨l',j',q1,q2,q3⟩:=ih (A++ [x]++D) j2 (by omega) (by simp only [ah,aH];omega) (iD (kN sA sx) sD);refine⟨l',j',q1,q2, ?_⟩;have b1:v1*64≤140737488355328:=by omega
  have b3:(v1+1)*64≤140737488355328:=by omega
  have b2:(v1+(1+(l.length-v1)))*64≤140737488355328:=by omega
  have b4:(v1+1+(l.length-v1))*64≤140737488355328:=by omega
  have eAD:bD (A++ [x]++D)=bD A++([x.sv]++bD D):=by rw [bD,bD,bD,bz,bz,aU];rfl
  rw [eAD]at q3;obtain⟨x1,x2,x3,x4⟩:=x;rw [ak];simp only [aG,Ev.sv,bG,bp]at q3 g1 g3 ⊢;simp only [go_sem,Q2,Q3,Qb,Qc,Qd,Qe,Qg,Qh,Qi,Qj,Qk,reduceCtorEq,reduceIte,hp,hv,e2,g1,ee,g3,xjN,k1i,tf,tA,tD,vA,vD,b1,b3,b4,e1,q3]
theorem f11 (codes chain ma:List UInt8) (ac:Int) (h0: -9223372036854775808≤ac) (h1:ac≤9223372036854775807) {P:List (List SV)→Prop}
 (h23:∀ch,eu ch→∃ms,P ms∧call T 23 [.byt ma .no,.lst 4 (fq ch) .no] [] 0=some ⟨.lst 7 ms .no,[],[]⟩):
 ∃(a:Int) (l:List Ev) (ms:List (List SV)),lN a∧l.length≤250∧(∀e,e∈l→EvS e)∧P ms∧
 call T 11 [.byt codes .no,.byt chain .no,.byt ma .no,.int .i64 ac] [] 0=some ⟨.tup [.agg [.int .i64 a,.int .i64 0,.lst 4 (bD l) .no],.lst 7 ms .no],[],[]⟩:=by
 obtain⟨ch,hch,g1⟩:=f24 chain;have gs:=f29 ac h0 h1
 obtain⟨a,hae,ha⟩:∃a,a=2+tR ac 2∧lN a:=by refine⟨_,rfl, ?_⟩;unfold lN;rcases xeB ac with h|h<;>rw [h]<;>omega
 rw [←hae]at gs;obtain⟨l,n1,s1,g2⟩:=f36 codes a ha;have hB:(codes.take 200).length≤1000:=by rw [ay];omega
 have gc:=f35 codes 200;rw [xpg]at gc;generalize codes.take 200=B at*;obtain⟨v,j1,hv,g3⟩:=eT B hB 0 2 (by omega);rw [show((2:Nat):Int)=2 from rfl]at g3;obtain⟨ms,hP,g4⟩:=h23 ch hch
 by_cases hw:v=0
 ·have hw':(v:Int)=0:=by omega
  have g5:=f31 ch hch a ha;obtain⟨n8,n150⟩:=Df hch a;obtain⟨n,j2,hn,g6⟩:=eT B hB j1 3 (by omega);rw [cz3]at g6;obtain⟨l',j',q1,q2,q3⟩:=l11 B hB a ha ma (fq ch) n (evF ch a) j2 (by omega) (by omega) (xeP hch a);refine⟨a,l',ms,ha,q1,q2,hP, ?_⟩;rw [aq xpn];simp only [aG,c0]at gc g3 g6 q3 ⊢;simp only [go_sem,Qb,Qc,Qd,Qe,Qg,Qh,Qi,Qj,Qk,reduceCtorEq,reduceIte,g1,xjQ,gc,QR,gs,xpx,g2,xpw,g3,ee,hw',g5,xjO,g6,q3,g4,xpy]
 ·have hw':¬(v:Int)=0:=by omega
  refine⟨a,l,ms,ha,by omega,s1,hP, ?_⟩;rw [aq xpn];simp only [aG,c0]at gc g3 ⊢;simp only [go_sem,Qb,Qc,Qd,Qe,Qg,Qh,Qi,Qj,Qk,reduceCtorEq,reduceIte,g1,xjQ,gc,QR,gs,xpx,g2,xpw,g3,ee,hw',g4,xpy]
def iI (x:Ent):List Ent→Nat
 |[]=>0
 |y::r=>if pb y x=true then iI x r+1 else 0
theorem tM (x:Ent):∀l,iI x l≤l.length
 |[]=>aZ _
 |y::r=>by have:=tM x r;rw [iI,ax];split<;>omega
def mO (v:List UInt8) (ve:Int) (l:List Ent) (tk:Tok):aB:= .rc [.str v,.int .i64 ve,.int .i64 0,.int .i64 0,.int .i64 1099511627776,.lst 4 (dw l) tk,.lst 4 [] .clip]
def mZ:aB:= .rc [.str [],.int .i64 0,.int .i64 0,.int .i64 0,.int .i64 0,.lst 4 [] .clip,.lst 4 [] .clip]
theorem xqg (I:List (List SV)) (v:List UInt8) (ve i:Int) (l:List Ent) (x:Ent) (hl:l.length≤1000) (hd:∀y∈l,y.dig.length≤1000):∀(n k:Nat),l.length-k=n→k≤l.length→
 run T (.loop yX) ⟨[(2,.lst 4 I .no),(6,.ptr 106 0),(7,.ptr 107 0),(8,.int .i64 i),(10,.ptr 110 0),(11,.int .i64 k)],[(106,mZ),(107,mO v ve l .no),(110,.rc x.sv)],[]⟩=
  some (.x 2,⟨[(2,.lst 4 I .no),(6,.ptr 106 0),(7,.ptr 107 0),(8,.int .i64 i),(10,.ptr 110 0),(11,.int .i64 ((k+iI x (l.drop k):Nat):Int))],[(106,mZ),(107,mO v ve l .no),(110,.rc x.sv)],[]⟩):=by
 intro n;induction n with
 |zero=>
  intro k h0 h1;have:k=l.length:=by omega
  subst this;have hv:=db l;rw [aR,ak];simp only [iI,eP,mO,mZ];simp only [go_sem,Qb,Qc,Qd,Qe,Qh,Qi,Qj,Qk,reduceIte,hv]
 |succ n ih=>
  intro k h0 h1;have hk:k<l.length:=by omega
  have e1:=bW k (by omega);have ih':=ih (k+1) (by omega) (by omega);have hv:=db l;have hg:=fW l k hk;have hdr:l.drop k=l.getD k en0::l.drop (k+1):=by rw [aX hk,aa,ab hk];rfl
  have hm:=cI l en0 k hk;have gb:=f84 (l.getD k en0) x (by have:=hd _ hm;omega);have hki:(k:Int)<(l.length:Int):=by omega
  rw [hdr,iI,ak];generalize l.getD k en0=y at*;obtain⟨x1,x2,x3,x4⟩:=x;obtain⟨y1,y2,y3,y4⟩:=y
  by_cases hb:pb ⟨y1,y2,y3,y4⟩ ⟨x1,x2,x3,x4⟩=true
  ·rw [if_pos hb]
   rw [hb]at gb;rw [show k+(iI ⟨x1,x2,x3,x4⟩ (l.drop (k+1))+1)=k+1+iI ⟨x1,x2,x3,x4⟩ (l.drop (k+1))from by omega];simp only [mO,mZ,Ent.sv]at ih' gb hg ⊢;simp only [go_sem,Qb,Qc,Qd,Qe,Qh,Qi,Qj,Qk,reduceIte,hki,e1,hv,hg,gb,QO,ih']
  ·rw [if_neg hb]
   rw [eq_false_of_ne_true hb]at gb;rw [eP];simp only [mO,mZ,Ent.sv]at gb hg ⊢;simp only [go_sem,Qb,Qc,Qd,Qe,Qh,Qi,Qj,Qk,reduceIte,hki,hv,hg,gb,QO]
theorem tV {x:Img} (h:gO x=0):¬(iz x).length=0:=by unfold iz;rw [if_pos h,eY];omega
def eI (y:Img):Ent:=⟨y.role,y.name,y.ver,sha (iz y)⟩
def xW (x:Ent) (l:List Ent):List Ent:=if iI x l<l.length∧pb x (l.getD (iI x l) en0)=false then l else l.take (iI x l)++x::l.drop (iI x l)
def sU (y:Img) (l:List Ent):List Ent:=if y.role=4 then l else xW (eI y) l
theorem s34 (ch:List Img) (hc:∀i,i<ch.length→gO (ch.getD i im0)=0) (hcl:ch.length≤1000) (v:List UInt8) (ve:Int) (l:List Ent) (hl:l.length≤900) (hd:∀y∈l,y.dig.length≤1000) (i:Nat) (hi:i<ch.length):
 run T (.loop mz) ⟨[(2,.lst 4 (fq ch) .no),(6,.ptr 106 0),(7,.ptr 107 0),(8,.int .i64 i)],[(106,mZ),(107,mO v ve l .no)],[]⟩=
 run T (.loop mz) ⟨[(2,.lst 4 (fq ch) .no),(6,.ptr 106 0),(7,.ptr 107 0),(8,.int .i64 ((i+1:Nat):Int))],[(106,mZ),(107,mO v ve (sU (ch.getD i im0) l) .no)],[]⟩:=by
 have hii:(i:Int)<(ch.length:Int):=by omega
 have hv:=eG ch;have hg:=gN ch i hi;have h0:=hc i hi;have e1:=bW i (by omega);generalize ch.getD i im0=y at*;obtain⟨u1,u2⟩:=mD h0;have g1:=f33 y u1 u2;have hel:=qY y u1 u2;have g2:=f80 (iz y) (by omega);have hne:¬(iz y).length=0:=tV h0;have hne':¬((iz y).length:Int)=0:=by omega
 have hsl:=gK (iz y);have hla:=xqg (fq ch) v ve i l (eI y) (by omega) hd l.length 0 (by omega) (cL _);rw [cO,aY,show((0:Nat):Int)=0 from rfl]at hla;have hpl:=tM (eI y) l;have nv:=db l;unfold sU xW;generalize hE:iz y=E at*
 by_cases h4:y.role=4
 ·rw [if_pos h4]
  obtain⟨y1,y2,y3,y4⟩:=y;simp only at h4;subst h4;rw [ak];simp only [mO,mZ,Img.sv]at g1 hg ⊢;simp only [go_sem,Qe,Qh,Qi,Qj,Qk,reduceIte,hii,hv,hg,g1,Fj,hne',e1]
 ·rw [if_neg h4]
  have hent:eI y=⟨y.role,y.name,y.ver,sha E⟩:=by rw [←hE];rfl
  rw [hent]at hla hpl ⊢
  by_cases hk:iI ⟨y.role,y.name,y.ver,sha E⟩ l<l.length
  ·have gb:=f84 ⟨y.role,y.name,y.ver,sha E⟩ (l.getD (iI ⟨y.role,y.name,y.ver,sha E⟩ l) en0) (by show(sha E).length≤_;omega)
   have hg2:=fW l _ hk;have hki:(iI ⟨y.role,y.name,y.ver,sha E⟩ l:Int)<(l.length:Int):=by omega
   have e2:dw (l.take (iI ⟨y.role,y.name,y.ver,sha E⟩ l)++⟨y.role,y.name,y.ver,sha E⟩::l.drop (iI ⟨y.role,y.name,y.ver,sha E⟩ l))=cT (iI ⟨y.role,y.name,y.ver,sha E⟩ l) (dw l)++(Ent.sv ⟨y.role,y.name,y.ver,sha E⟩::fO (iI ⟨y.role,y.name,y.ver,sha E⟩ l) (dw l)):=by rw [dw,dw,bz,aL,List.map_take,List.map_drop]
   generalize iI ⟨y.role,y.name,y.ver,sha E⟩ l=k at*;generalize l.getD k en0=z at*;have hkl:k≤l.length:=by omega
   have tf:cT l.length (dw l)=dw l:=by rw [←nv,br]
   have vA:(cT k (dw l)).length=k:=by rw [ay,nv];omega
   have vD:(fO k (dw l)).length=l.length-k:=by rw [aF,nv]
   have b1:k*56≤140737488355328:=by omega
   have b3:(k+1)*56≤140737488355328:=by omega
   have b2:(k+(1+(l.length-k)))*56≤140737488355328:=by omega
   have b4:(k+1+(l.length-k))*56≤140737488355328:=by omega
   obtain⟨y1,y2,y3,y4⟩:=y;obtain⟨z1,z2,z3,z4⟩:=z
   by_cases hb:pb ⟨y1,y2,y3,sha E⟩ ⟨z1,z2,z3,z4⟩=false
   ·rw [if_pos ⟨hk,hb⟩]
    simp only at gb;rw [hb]at gb;rw [ak];simp only [mO,mZ,Img.sv,Ent.sv]at g1 hg hla gb hg2 ⊢;simp only [go_sem,Qe,Qh,Qi,Qj,Qk,reduceIte,hii,hv,hg,g1,Fj,hne',h4,g2,UJ];simp+decide only [jW];simp only [go_sem,Qb,Qc,Qd,Qe,Qh,Qi,Qj,Qk,reduceIte,hla,nv,hki,hg2,gb,QO,e1]
   ·rw [if_neg (fun h=>hb h.2)]
    simp only at gb;rw [eq_true_of_ne_false hb]at gb;rw [ak];simp only [mO,e2];simp only [mO,mZ,Img.sv,Ent.sv]at g1 hg hla gb hg2 ⊢;simp only [go_sem,Qe,Qh,Qi,Qj,Qk,reduceIte,hii,hv,hg,g1,Fj,hne',h4,g2,UJ];simp+decide only [jW];simp only [go_sem,Q2,Q3,Qb,Qc,Qd,Qe,Qh,Qi,Qj,Qk,reduceCtorEq,reduceIte,hla,nv,hki,hkl,hg2,gb,QO,e1,tf,vA,vD,b1,b3,b4]
  ·have hki:¬(iI ⟨y.role,y.name,y.ver,sha E⟩ l:Int)<(l.length:Int):=by omega
   rw [if_neg (fun h=>hk h.1)]
   have e2:dw (l.take (iI ⟨y.role,y.name,y.ver,sha E⟩ l)++⟨y.role,y.name,y.ver,sha E⟩::l.drop (iI ⟨y.role,y.name,y.ver,sha E⟩ l))=cT (iI ⟨y.role,y.name,y.ver,sha E⟩ l) (dw l)++(Ent.sv ⟨y.role,y.name,y.ver,sha E⟩::fO (iI ⟨y.role,y.name,y.ver,sha E⟩ l) (dw l)):=by rw [dw,dw,bz,aL,List.map_take,List.map_drop]
   generalize iI ⟨y.role,y.name,y.ver,sha E⟩ l=k at*;have hkl:k≤l.length:=by omega
   have tf:cT l.length (dw l)=dw l:=by rw [←nv,br]
   have vA:(cT k (dw l)).length=k:=by rw [ay,nv];omega
   have vD:(fO k (dw l)).length=l.length-k:=by rw [aF,nv]
   have b1:k*56≤140737488355328:=by omega
   have b3:(k+1)*56≤140737488355328:=by omega
   have b2:(k+(1+(l.length-k)))*56≤140737488355328:=by omega
   have b4:(k+1+(l.length-k))*56≤140737488355328:=by omega
   obtain⟨y1,y2,y3,y4⟩:=y;rw [ak];simp only [mO,e2];simp only [mO,mZ,Img.sv,Ent.sv]at g1 hg hla ⊢;simp only [go_sem,Qe,Qh,Qi,Qj,Qk,reduceIte,hii,hv,hg,g1,Fj,hne',h4,g2,UJ];simp+decide only [jW];simp only [go_sem,Q2,Q3,Qb,Qc,Qd,Qe,Qh,Qi,Qj,Qk,reduceCtorEq,reduceIte,hla,nv,hki,hkl,e1,tf,vA,vD,b1,b3,b4]
structure mH (l:List Ent) (n:Nat):Prop where
 len:l.length≤n
 e:∀x∈l,x.name.length≤1000000∧x.dig.length=32
theorem Gl {x z:Ent} {l:List Ent} (h:z∈xW x l):z=x∨z∈l:=by
 unfold xW at h;split at h
 ·exact .inr h
 ·rw [aj,ao]at h
  rcases h with h|h|h
  ·exact .inr (bH h)
  ·exact .inl h
  ·exact .inr (gV h)
theorem Gq (x:Ent) (l:List Ent):(xW x l).length≤l.length+1:=by
 unfold xW;have:=tM x l;split
 ·omega
 ·rw [ah,ax,ay,aF];omega
theorem Gw {y:Img} (h:gO y=0):y.name.length≤1000000:=(mD h).1
theorem uv {y:Img} (hy:gO y=0) {l:List Ent} {n:Nat} (h:mH l n):mH (sU y l) (n+1):=by
 unfold sU;split
 ·exact⟨Nat.le_succ_of_le h.len,h.e⟩
 ·refine⟨?_,fun x hx=> ?_⟩
  ·have:=Gq (eI y) l
   have:=h.len;omega
  ·rcases Gl hx with rfl|hx
   ·exact⟨Gw hy,gK _⟩
   ·exact h.e x hx
def tX (l:List Img) (es:List Ent):List Ent:=l.foldl (fun a y=>sU y a) es
theorem Dh:∀(l:List Img) (es:List Ent) (n:Nat),(∀y∈l,gO y=0)→mH es n→mH (tX l es) (n+l.length)
 |[],es,n,_,h=>h
 |y::r,es,n,hl,h=>by have:=Dh r (sU y es) (n+1) (fun z hz=>hl z (au _ hz)) (uv (hl y aA) h);rw [ax,show n+(r.length+1)=n+1+r.length from by omega];exact this
theorem xpJ (ch:List Img) (hcl:ch.length≤1000) (hi:0<ch.length) (h0:gO (ch.getD 0 im0)=0) (h1:(ch.getD 0 im0).role=1) (v:List UInt8) (ve:Int):
 run T (.loop mz) ⟨[(2,.lst 4 (fq ch) .no),(6,.ptr 106 0),(7,.ptr 107 0),(8,.int .i64 0)],[(106,mZ),(107,mO v ve [] .clip)],[]⟩=
 run T (.loop mz) ⟨[(2,.lst 4 (fq ch) .no),(6,.ptr 106 0),(7,.ptr 107 0),(8,.int .i64 1)],[(106,mZ),(107,mO v ve [eI (ch.getD 0 im0)] .no)],[]⟩:=by
 have hii:(0:Int)<(ch.length:Int):=by omega
 have hv:=eG ch;have hg:=gN ch 0 hi;have e1:af.wrap 1=1:=rfl;generalize ch.getD 0 im0=y at*;obtain⟨u1,u2⟩:=mD h0;have g1:=f33 y u1 u2;have hel:=qY y u1 u2;have g2:=f80 (iz y) (by omega);have hne:¬(iz y).length=0:=tV h0;have hne':¬((iz y).length:Int)=0:=by omega
 have hent:eI y=⟨y.role,y.name,y.ver,sha (iz y)⟩:=rfl;rw [hent];generalize iz y=E at*;obtain⟨y1,y2,y3,y4⟩:=y;simp only at h1;subst h1;rw [ak];simp only [mO,mZ,Img.sv,dw,bT,aL,Ent.sv]at g1 hg ⊢;simp only [go_sem,Q2,Q3,Q5,Qe,Qh,Qi,Qj,Qk,reduceIte,hii,hv,hg,g1,Fj,hne',g2,UJ];simp+decide only [jW];simp only [go_sem,Qh,Qj,Qk,reduceIte];rw [ak];simp only [go_sem,Q2,Q3,Q4,Q8,Qb,Qc,Qd,Qe,Qg,Qh,Qi,Qj,Qk,reduceCtorEq,reduceIte,e1]
theorem l34 (ch:List Img) (hc:∀i,i<ch.length→gO (ch.getD i im0)=0) (hcl:ch.length≤800) (v:List UInt8) (ve:Int):∀(n i:Nat) (es:List Ent),ch.length-i=n→i≤ch.length→mH es i→
 run T (.loop mz) ⟨[(2,.lst 4 (fq ch) .no),(6,.ptr 106 0),(7,.ptr 107 0),(8,.int .i64 i)],[(106,mZ),(107,mO v ve es .no)],[]⟩=
 some (.x 0,⟨[(6,.ptr 106 0),(7,.ptr 107 0)],[(106,mZ),(107,mO v ve (tX (ch.drop i) es) .no)],[]⟩):=by
 intro n;induction n with
 |zero=>
  intro i es h0 h1 h2;have:i=ch.length:=by omega
  subst this;have hv:=eG ch;rw [aR,ak];simp only [mO,mZ,tX,List.foldl_nil];simp only [go_sem,Qh,Qj,Qk,reduceIte,hv]
 |succ n ih=>
  intro i es h0 h1 h2;have hi:i<ch.length:=by omega
  have hd:ch.drop i=ch.getD i im0::ch.drop (i+1):=by rw [aX hi,aa,ab hi];rfl
  have hl:=h2.len;rw [s34 ch hc (by omega) v ve es (by omega) (fun y hy=>by have:=(h2.e y hy).2;omega) i hi,ih (i+1) _ (by omega) (by omega) (uv (hc i hi) h2),hd];rfl
def xpe (v:List UInt8) (ve:Int) (ch:List Img):Man:=⟨v,ve,0,0,1099511627776,tX ch [],[]⟩
theorem vo {ch:List Img} (hc:eu ch):(ch.getD 0 im0).role=1:=by
 obtain⟨i,hi,h1⟩:=hc.fw
 have key:∀k,k<ch.length→(ch.getD 0 im0).role≤(ch.getD k im0).role:=by
  intro k;induction k with
  |zero=>intro _;exact Int.le_refl _
  |succ k ih=>intro h;exact Int.le_trans (ih (by omega)) (hc.ord k h)
 have h2:=key i hi;have h3:=(jK (hc.ok 0 (by have:=hc.n1;omega))).1;omega
theorem f34 (ch:List Img) (hc:eu ch) (v:List UInt8) (ve:Int):call T 34 [.str v,.int .i64 ve,.lst 4 (fq ch) .no] [] 0=some ⟨.agg [.str v,.int .i64 ve,.int .i64 0,.int .i64 0,.int .i64 1099511627776,.lst 4 (dw (tX ch [])) .no,.lst 4 [] .clip],[],[]⟩:=by
 have n1:=hc.n1;have n8:=hc.n8;have hf:=vo hc;have h0:=hc.ok 0 (by omega);have z:=xpJ ch (by omega) (by omega) h0 hf v ve
 have ha:sU (ch.getD 0 im0) []=[eI (ch.getD 0 im0)]:=by unfold sU xW;rw [if_neg (by rw [hf];decide),if_neg (by simp)];rfl
 have hb:mH [eI (ch.getD 0 im0)] 1:=by rw [←ha];exact uv h0 ⟨aZ _,fun x hx=>by cases hx⟩
 have l:=l34 ch hc.ok (by omega) v ve _ 1 [eI (ch.getD 0 im0)] rfl (by omega) hb
 have hd:tX (ch.drop 1) [eI (ch.getD 0 im0)]=tX ch []:=by
  have:ch=ch.getD 0 im0::ch.drop 1:=by
   rw [aa,ab (by omega:0<ch.length)];cases ch with
   |nil=>simp at n1
   |cons x r=>rfl
  conv=>rhs;rw [this]
  rw [←ha];rfl
 rw [hd]at l;rw [show((1:Nat):Int)=1 from rfl]at l;rw [l]at z;rw [aq xr3];simp only [mO,mZ,dw,bT]at z;simp only [dw];simp only [go_sem,Qe,Qh,Qi,Qj,Qk,reduceCtorEq,reduceIte,z]
theorem Ub {ch:List Img} (hc:eu ch):mH (tX ch []) 8:=by
 have:=Dh ch [] 0 (fun y hy=>by obtain⟨i,hi,rfl⟩:=bV hy;have:=hc.ok i hi;rwa [aa,ab hi]at this) ⟨aZ _,fun x hx=>by cases hx⟩
 have n8:=hc.n8;exact⟨by have:=this.len;omega,this.e⟩
theorem xqZ:call T 106 [] [] 0=some ⟨.agg [.str [97,99,109,101],.str [118,50],.str [120,45,121]],[],[]⟩:=by rw [aq xnv];simp only [go_sem,Qe,Qg,Qi,Qj,Qk,reduceCtorEq,reduceIte]
theorem xpC (v:Nat) (h:v<3):∃n:List UInt8,n.length≤10∧(fO v [SV.str [97,99,109,101],.str [118,50],.str [120,45,121]]).getD 0 .undef= .str n:=by
 have:v=0∨v=1∨v=2:=by omega
 rcases this with rfl|rfl|rfl
 ·exact⟨[97,99,109,101],by decide,rfl⟩
 ·exact⟨[118,50],by decide,rfl⟩
 ·exact⟨[120,45,121],by decide,rfl⟩
theorem D6 (l:List Rul) (x:Rul):eN l++ [x.sv]=eN (l++ [x]):=by rw [eN,eN,bz];rfl
theorem l64 (B:List UInt8) (hB:B.length≤1000) (v:List UInt8) (m1 m2 m3 m4:Int) (es:List (List SV)):∀(n:Nat) (rs:List Rul) (j:Nat),rs.length+n≤100→(∀x∈rs,x.text.length≤20)→∀(t:Tok) (tk:List Nat),(t= .clip∧tk=[]∧rs=[])∨(t= .id 160∧tk=[160])→
 ∃(rs':List Rul) (t':Tok) (tk':List Nat) (j':Nat),rs'.length≤100∧(∀x∈rs',x.text.length≤20)∧((t'= .clip∧tk'=[]∧rs'=[])∨(t'= .id 160∧tk'=[160]))∧
 run T (.loop yS) ⟨[(0,.ptr 0 0),(4,.ptr 104 0),(6,.ptr 106 0),(7,.int .i64 (n:Int))],[(0,aG B j),(104,mZ),(106,.rc [.str v,.int .i64 m1,.int .i64 m2,.int .i64 m3,.int .i64 m4,.lst 4 es .no,.lst 4 (eN rs) t])],tk⟩=
 some (.x 0,⟨[(4,.ptr 104 0),(6,.ptr 106 0)],[(0,aG B j'),(104,mZ),(106,.rc [.str v,.int .i64 m1,.int .i64 m2,.int .i64 m3,.int .i64 m4,.lst 4 es .no,.lst 4 (eN rs') t'])],tk'⟩):=by
 intro n;induction n with
 |zero=>
  intro rs j h1 h2 t tk ht;refine⟨rs,t,tk,j,by omega,h2,ht, ?_⟩;rw [ak];rcases ht with⟨rfl,rfl,rfl⟩|⟨rfl,rfl⟩
  ·simp only [aG,mZ]
   simp only [go_sem,Q4,Qh,Qj,Qk,reduceCtorEq,reduceIte]
  ·simp only [aG,mZ]
   simp only [go_sem,Q4,Qh,Qj,Qk,reduceCtorEq,reduceIte]
 |succ n ih=>
  intro rs j h1 h2 t tk ht;obtain⟨k,t1,lo,hi,j1,hk,ht1,g⟩:=xqY B j hB;have hp:(0:Int)<((n+1:Nat):Int):=by omega
  have e1:af.wrap (((n+1:Nat):Int)-1)=(n:Int):=wZ (by omega)
  obtain⟨rs',t',tk',j',q1,q2,q3,q4⟩:=ih (rs++ [⟨k,t1,lo,hi⟩]) j1 (by rw [ah,aH];omega) (fun x hx=>by
   rw [aj,aV]at hx;rcases hx with hx|rfl
   ·exact h2 x hx
   ·exact ht1) (.id 160) [160] (.inr ⟨rfl,rfl⟩)
  refine⟨rs',t',tk',j',q1,q2,q3, ?_⟩;have hv:=eF rs;have b1:(rs.length+1)*40≤140737488355328:=by omega
  rw [←D6]at q4;rw [ak];rcases ht with⟨rfl,rfl,rfl⟩|⟨rfl,rfl⟩
  ·have hnil:eN []=[]:=rfl
   simp only [aG,mZ,Rul.sv,hnil,bp]at g q4 ⊢;simp only [go_sem,Qb,Qc,Qd,Qe,Qg,Qh,Qi,Qj,Qk,reduceCtorEq,reduceIte,hp,g,xfc,e1,q4]
  ·simp only [aG,mZ,Rul.sv]at g q4 ⊢
   simp only [go_sem,Qb,Qc,Qd,Qe,Qg,Qh,Qi,Qj,Qk,reduceCtorEq,reduceIte,hp,g,xfc,hv,b1,e1,q4]
structure UL (m:Man):Prop where
 v:m.vendor.length≤100
 en:m.ents.length≤8
 rn:m.ruls.length≤100
 e:∀x∈m.ents,x.name.length≤1000000∧x.dig.length=32
 r:∀x∈m.ruls,x.text.length≤20
theorem UL.bd {m:Man} (h:UL m):fH m:=⟨by have:=h.v;omega,by have:=h.en;omega,by have:=h.rn;omega,fun x hx=>by have:=h.e x hx;omega,fun x hx=>by have:=h.r x hx;omega⟩
theorem f64 (B:List UInt8) (hB:B.length≤1000) (j:Nat) (ch:List Img) (hc:eu ch):∃(m:Man) (j':Nat),UL m∧call T 64 [.ptr 0 0,.lst 4 (fq ch) .no] [aG B j] 0=some ⟨.agg m.sv,[(0,aG B j')],[]⟩:=by
 have gv:=xqZ;obtain⟨v1,j1,h1,g1⟩:=eT B hB j 4 (by omega);rw [cz4]at g1;obtain⟨v2,j2,h2,g2⟩:=eT B hB j1 3 (by omega);rw [cz3]at g2;obtain⟨nv,hnv,hve⟩:=xpC v2 h2;have h2i:(v2:Int)<3:=by omega
 have gd:=f34 ch hc nv (v1:Int);have hb:=Ub hc;generalize tX ch []=es at*;obtain⟨v3,j3,h3,g3⟩:=eT B hB j2 3 (by omega);rw [cz3]at g3;have hel:=db es;have hbl:=hb.len;have e4:=bW es.length (by omega)
 by_cases p3:v3=1
 ·have n3:(v3:Int)=1:=by omega
  obtain⟨v4,j4,h4,g4⟩:=eT B hB j3 (es.length+1) (by omega);have l4:v4≤es.length:=by omega
  have l4i:(v4:Int)≤(es.length:Int):=by omega
  have tA:cT v4 (dw es)=dw (es.take v4):=by rw [dw,dw,List.map_take]
  obtain⟨v5,j5,h5,g5⟩:=eT B hB j4 (v1+1) (by omega);have e5:=bW v1 (by omega);obtain⟨v6,j6,h6,g6⟩:=eT B hB j5 12 (by omega);rw [c12]at g6;obtain⟨v7,j7,h7,g7⟩:=eT B hB j6 30 (by omega);rw [c30]at g7;obtain⟨v8,j8,h8,g8⟩:=eT B hB j7 2 (by omega);rw [c2]at g8;obtain⟨v9,j9,h9,g9⟩:=eT B hB j8 4 (by omega);rw [cz4]at g9;obtain⟨U,hU⟩:∃U,U=af.wrap (af.wrap ((v6:Int)+1)+(v7:Int)):=⟨_,rfl⟩
  by_cases p8:v8=0
  ·have p8':(v8:Int)=0:=by omega
   obtain⟨rs',t',tk',j',q1,q2,q3,q4⟩:=l64 B hB nv (v1:Int) (v5:Int) (v6:Int) 1099511627776 (dw (es.take v4)) v9 [] j9 (by simp only [bc];omega) (fun x hx=>by cases hx) .clip [] (.inl ⟨rfl,rfl,rfl⟩);refine⟨⟨nv,v1,v5,v6,1099511627776,es.take v4,rs'⟩,j',⟨by show nv.length≤100;omega,by show(es.take v4).length≤8;rw [ay];omega,q1,fun x hx=>hb.e x (bH hx),q2⟩, ?_⟩;rw [aq xeV];rcases q3 with⟨rfl,rfl,rfl⟩|⟨rfl,rfl⟩
   ·simp only [aG,mZ,Man.sv,eN,bT]at g1 g2 g3 g5 g6 g7 g8 g9 q4 gd g4 ⊢
    simp only [go_sem,Q2,Q3,Qb,Qc,Qd,Qe,Qg,Qh,Qi,Qj,Qk,reduceCtorEq,reduceIte,g1,g2,g3,g5,g6,g7,g8,g9,ee,gv,qw,h2i,dm,hve,gd,yu,n3,e5,p8',←hU,q4,g4,e4,hel,l4i,tA]
   ·simp only [aG,mZ,Man.sv,eN,bT]at g1 g2 g3 g5 g6 g7 g8 g9 q4 gd g4 ⊢
    simp only [go_sem,Q2,Q3,Qb,Qc,Qd,Qe,Qg,Qh,Qi,Qj,Qk,reduceCtorEq,reduceIte,g1,g2,g3,g5,g6,g7,g8,g9,ee,gv,qw,h2i,dm,hve,gd,yu,n3,e5,p8',←hU,q4,g4,e4,hel,l4i,tA]
  ·have p8':¬(v8:Int)=0:=by omega
   obtain⟨rs',t',tk',j',q1,q2,q3,q4⟩:=l64 B hB nv (v1:Int) (v5:Int) (v6:Int) U (dw (es.take v4)) v9 [] j9 (by simp only [bc];omega) (fun x hx=>by cases hx) .clip [] (.inl ⟨rfl,rfl,rfl⟩);refine⟨⟨nv,v1,v5,v6,U,es.take v4,rs'⟩,j',⟨by show nv.length≤100;omega,by show(es.take v4).length≤8;rw [ay];omega,q1,fun x hx=>hb.e x (bH hx),q2⟩, ?_⟩;rw [aq xeV];rcases q3 with⟨rfl,rfl,rfl⟩|⟨rfl,rfl⟩
   ·simp only [aG,mZ,Man.sv,eN,bT]at g1 g2 g3 g5 g6 g7 g8 g9 q4 gd g4 ⊢
    simp only [go_sem,Q2,Q3,Qb,Qc,Qd,Qe,Qg,Qh,Qi,Qj,Qk,reduceCtorEq,reduceIte,g1,g2,g3,g5,g6,g7,g8,g9,ee,gv,qw,h2i,dm,hve,gd,yu,n3,e5,p8',←hU,q4,g4,e4,hel,l4i,tA]
   ·simp only [aG,mZ,Man.sv,eN,bT]at g1 g2 g3 g5 g6 g7 g8 g9 q4 gd g4 ⊢
    simp only [go_sem,Q2,Q3,Qb,Qc,Qd,Qe,Qg,Qh,Qi,Qj,Qk,reduceCtorEq,reduceIte,g1,g2,g3,g5,g6,g7,g8,g9,ee,gv,qw,h2i,dm,hve,gd,yu,n3,e5,p8',←hU,q4,g4,e4,hel,l4i,tA]
 ·have n3:¬(v3:Int)=1:=by omega
  obtain⟨v5,j5,h5,g5⟩:=eT B hB j3 (v1+1) (by omega);have e5:=bW v1 (by omega);obtain⟨v6,j6,h6,g6⟩:=eT B hB j5 12 (by omega);rw [c12]at g6;obtain⟨v7,j7,h7,g7⟩:=eT B hB j6 30 (by omega);rw [c30]at g7;obtain⟨v8,j8,h8,g8⟩:=eT B hB j7 2 (by omega);rw [c2]at g8;obtain⟨v9,j9,h9,g9⟩:=eT B hB j8 4 (by omega);rw [cz4]at g9;obtain⟨U,hU⟩:∃U,U=af.wrap (af.wrap ((v6:Int)+1)+(v7:Int)):=⟨_,rfl⟩
  by_cases p8:v8=0
  ·have p8':(v8:Int)=0:=by omega
   obtain⟨rs',t',tk',j',q1,q2,q3,q4⟩:=l64 B hB nv (v1:Int) (v5:Int) (v6:Int) 1099511627776 (dw es) v9 [] j9 (by simp only [bc];omega) (fun x hx=>by cases hx) .clip [] (.inl ⟨rfl,rfl,rfl⟩);refine⟨⟨nv,v1,v5,v6,1099511627776,es,rs'⟩,j',⟨by show nv.length≤100;omega,hbl,q1,hb.e,q2⟩, ?_⟩;rw [aq xeV];rcases q3 with⟨rfl,rfl,rfl⟩|⟨rfl,rfl⟩
   ·simp only [aG,mZ,Man.sv,eN,bT]at g1 g2 g3 g5 g6 g7 g8 g9 q4 gd ⊢
    simp only [go_sem,Qb,Qc,Qd,Qe,Qg,Qh,Qi,Qj,Qk,reduceCtorEq,reduceIte,g1,g2,g3,g5,g6,g7,g8,g9,ee,gv,qw,h2i,dm,hve,gd,yu,n3,e5,p8',←hU,q4]
   ·simp only [aG,mZ,Man.sv,eN,bT]at g1 g2 g3 g5 g6 g7 g8 g9 q4 gd ⊢
    simp only [go_sem,Qb,Qc,Qd,Qe,Qg,Qh,Qi,Qj,Qk,reduceCtorEq,reduceIte,g1,g2,g3,g5,g6,g7,g8,g9,ee,gv,qw,h2i,dm,hve,gd,yu,n3,e5,p8',←hU,q4]
  ·have p8':¬(v8:Int)=0:=by omega
   obtain⟨rs',t',tk',j',q1,q2,q3,q4⟩:=l64 B hB nv (v1:Int) (v5:Int) (v6:Int) U (dw es) v9 [] j9 (by simp only [bc];omega) (fun x hx=>by cases hx) .clip [] (.inl ⟨rfl,rfl,rfl⟩);refine⟨⟨nv,v1,v5,v6,U,es,rs'⟩,j',⟨by show nv.length≤100;omega,hbl,q1,hb.e,q2⟩, ?_⟩;rw [aq xeV];rcases q3 with⟨rfl,rfl,rfl⟩|⟨rfl,rfl⟩
   ·simp only [aG,mZ,Man.sv,eN,bT]at g1 g2 g3 g5 g6 g7 g8 g9 q4 gd ⊢
    simp only [go_sem,Qb,Qc,Qd,Qe,Qg,Qh,Qi,Qj,Qk,reduceCtorEq,reduceIte,g1,g2,g3,g5,g6,g7,g8,g9,ee,gv,qw,h2i,dm,hve,gd,yu,n3,e5,p8',←hU,q4]
   ·simp only [aG,mZ,Man.sv,eN,bT]at g1 g2 g3 g5 g6 g7 g8 g9 q4 gd ⊢
    simp only [go_sem,Qb,Qc,Qd,Qe,Qg,Qh,Qi,Qj,Qk,reduceCtorEq,reduceIte,g1,g2,g3,g5,g6,g7,g8,g9,ee,gv,qw,h2i,dm,hve,gd,yu,n3,e5,p8',←hU,q4]
structure MsS (ms:List Man):Prop where
 n:ms.length≤10
 m:∀m∈ms,UL m
theorem MsS.bd {ms:List Man} (h:MsS ms):ms.length≤1000000∧∀m∈ms,fH m:=⟨by have:=h.n;omega,fun m hm=>(h.m m hm).bd⟩
def mR (l:List Man):List (List SV):=l.map Man.sv
theorem Ef (l:List Man) (x:Man):mR l++ [x.sv]=mR (l++ [x]):=by rw [mR,mR,bz];rfl
theorem l23 (B:List UInt8) (hB:B.length≤1000) (ch:List Img) (hc:eu ch):∀(n:Nat) (ms:List Man) (j:Nat),ms.length+n≤10→(∀m∈ms,UL m)→
 ∃(ms':List Man) (j':Nat),MsS ms'∧
 run T (.loop Rn) ⟨[(1,.lst 4 (fq ch) .no),(5,.ptr 10100 0),(6,.lst 7 (mR ms) (.id 106)),(7,.int .i64 (n:Int))],[(10100,aG B j)],[106]⟩=
  some (.x 0,⟨[(6,.lst 7 (mR ms') (.id 106))],[(10100,aG B j')],[106]⟩):=by
 intro n;induction n with
 |zero=>intro ms j h1 h2;refine⟨ms,j,⟨by omega,h2⟩, ?_⟩;rw [ak];simp only [aG];simp only [go_sem,Q4,Qh,Qj,Qk,reduceIte]
 |succ n ih=>
  intro ms j h1 h2;obtain⟨m,j1,hm,g⟩:=f64 B hB j ch hc;have hp:(0:Int)<((n+1:Nat):Int):=by omega
  have e1:af.wrap (((n+1:Nat):Int)-1)=(n:Int):=wZ (by omega)
  obtain⟨ms',j',q1,q2⟩:=ih (ms++ [m]) j1 (by rw [ah,aH];omega) (fun x hx=>by
   rw [aj,aV]at hx;rcases hx with hx|rfl
   ·exact h2 x hx
   ·exact hm)
  refine⟨ms',j',q1, ?_⟩;have hv:(mR ms).length=ms.length:=aQ ..;have b1:(ms.length+1)*96≤140737488355328:=by omega
  rw [←Ef]at q2;obtain⟨m1,m2,m3,m4,m5,m6,m7⟩:=m;rw [ak];simp only [aG,Man.sv]at g q2 ⊢;simp only [go_sem,Qe,Qg,Qh,Qi,Qj,Qk,reduceIte,hp,g,xsq,hv,b1,e1,q2]
theorem f23 (ma:List UInt8) (ch:List Img) (hc:eu ch):∃ms,MsS ms∧call T 23 [.byt ma .no,.lst 4 (fq ch) .no] [] 0=some ⟨.lst 7 (mR ms) .no,[],[]⟩:=by
 have g0:=f35 ma 120;rw [show((120:Nat):Int)=120 from rfl]at g0;have hB:(ma.take 120).length≤1000:=by rw [ay];omega
 generalize ma.take 120=B at*;obtain⟨v,j1,hv,g1⟩:=eT B hB 0 5 (by omega);rw [cz5]at g1;obtain⟨ms,j',q1,q2⟩:=l23 B hB ch hc v [] j1 (by simp only [bc];omega) (fun m hm=>by cases hm);refine⟨ms,q1, ?_⟩;rw [aq xsa];simp only [aG,c0,mR,bT]at g0 g1 q2 ⊢;simp only [go_sem,Qe,Qg,Qh,Qi,Qj,Qk,reduceCtorEq,reduceIte,g0,QR,g1,ee,q2]
theorem wC:∀a:List UInt8,Lib.compareBytes a a=0
 |[]=>rfl
 |x::r=>by have h:=wC r;simp [Lib.compareBytes,h]
theorem xqB (d:List UInt8):call T 60 [.lst 1 [] .no,.byt d .no,.fn 61 [] []] [] 0=some ⟨.tup [.int .i64 0,.bool false],[],[]⟩:=by rw [aq xpl];simp only [go_sem,Qe,Qh,Qi,Qj,Qk,reduceCtorEq,reduceIte];rw [ak];simp only [go_sem,Q2,Q3,Q4,Qh,Qj,Qk,reduceCtorEq,reduceIte]
theorem xqA (d:List UInt8):call T 60 [.lst 1 [[.byt d .no]] .no,.byt d .no,.fn 61 [] []] [] 0=some ⟨.tup [.int .i64 0,.bool true],[],[]⟩:=by have g:=f61 d d;rw [wC]at g;have k1:af.wrap 1=1:=rfl;have k2:bi.wrap 1=1:=rfl;have k3:Int.fdiv 1 (2^min 1 64)=0:=rfl;have k4:af.wrap 0=0:=rfl;rw [aq xpl];simp only [go_sem,Qe,Qh,Qi,Qj,Qk,reduceCtorEq,reduceIte,c1];rw [ak];simp only [go_sem,Q2,Q3,Q4,Q8,Qh,Qj,Qk,reduceCtorEq,reduceIte,c1,k1,k2,k3,k4,g,xjK];rw [ak];simp only [go_sem,Q2,Q3,Q4,Qh,Qj,Qk,reduceCtorEq,reduceIte,c1,g,xjK]
theorem xqz (d:List UInt8):call T 62 [.lst 1 [] (.id 50),.int .i64 0,.lst 1 [[.byt d .no]] .no] [] 1=some ⟨.lst 1 [[.byt d .no]] (.id 60),[],[60]⟩:=by rw [aq xrE];simp only [go_sem,Q2,Q3,Q5,Qe,Qg,Qh,Qi,Qj,Qk,reduceCtorEq,reduceIte,c1]
theorem lB (m:Man) (d:List UInt8) (hd:call T 59 [.agg m.sv] [] 0=some ⟨.byt d .no,[],[]⟩) (rs:List (Int×Int)) (hn:rs.length≤1000000):∀(n i:Nat),rs.length-i=n→i≤rs.length→
 run T (.loop uH) ⟨[(0,.lst 7 [m.sv] .no),(5,.lst 1 [[.byt d .no]] (.id 46060)),(11,.lst 2 (rsv rs) .no),(12,.int .i64 rs.length),(13,.int .i64 i)],[],[46060]⟩=
  some (.x 0,⟨[(5,.lst 1 [[.byt d .no]] (.id 46060))],[],[46060]⟩):=by
 intro n;induction n with
 |zero=>
  intro i h0 h1;have hi:i=rs.length:=by omega
  subst hi;rw [ak];simp only [go_sem,Qh,Qj,Qk,reduceCtorEq,reduceIte]
 |succ n ih=>
  intro i h0 h1;have hi:i<rs.length:=by omega
  have e1:=bW i (by omega);have hv:=eD rs;have hg:=jH rs i hi;have ih':=ih (i+1) (by omega) (by omega);have g:=xqA d;generalize rs.getD i (0,0)=p at*;obtain⟨p1,p2⟩:=p;obtain⟨mv,m1,m2,m3,m4,es,rl⟩:=m;simp only [Man.sv]at hd hg ih' ⊢;rw [ak]
  by_cases a1:p1<0
  ·simp only [go_sem,Qe,Qh,Qi,Qj,Qk,reduceCtorEq,reduceIte,hi,e1,hv,hg,a1,ih']
  ·by_cases a2:(1:Int)≤p1
   ·simp only [go_sem,Qe,Qh,Qi,Qj,Qk,reduceCtorEq,reduceIte,hi,e1,hv,hg,a1,a2,c1,ih']
   ·have a3:p1=0:=by omega
    subst a3;simp only [go_sem,Q2,Q3,Q4,Qe,Qh,Qi,Qj,Qk,reduceCtorEq,reduceIte,hi,e1,hv,hg,a1,a2,c1,hd,xps,g,xpr,ih']
theorem lA (m:Man) (d:List UInt8) (hd:call T 59 [.agg m.sv] [] 0=some ⟨.byt d .no,[],[]⟩) (rs:List (Int×Int)) (hn:rs.length≤1000000):∀(n i:Nat),rs.length-i=n→i≤rs.length→(∃p∈rs.drop i,p.1=0)→
 run T (.loop uH) ⟨[(0,.lst 7 [m.sv] .no),(5,.lst 1 [] .clip),(11,.lst 2 (rsv rs) .no),(12,.int .i64 rs.length),(13,.int .i64 i)],[],[]⟩=
  some (.x 0,⟨[(5,.lst 1 [[.byt d .no]] (.id 46060))],[],[46060]⟩):=by
 intro n;induction n with
 |zero=>
  intro i h0 h1 h2;have hi:i=rs.length:=by omega
  subst hi;rw [aR]at h2;obtain⟨p,hp,_⟩:=h2;cases hp
 |succ n ih=>
  intro i h0 h1 h2;have hi:i<rs.length:=by omega
  have e1:=bW i (by omega);have hv:=eD rs;have hg:=jH rs i hi;have ih':=ih (i+1) (by omega) (by omega);have lb:=lB m d hd rs hn _ (i+1) rfl (by omega);have g:=xqB d;have g2:=xqz d;rw [ld rs (0,0) i hi]at h2;generalize rs.getD i (0,0)=p at*;obtain⟨p1,p2⟩:=p;obtain⟨mv,m1,m2,m3,m4,es,rl⟩:=m;simp only [Man.sv]at hd hg ih' lb ⊢
  have h3:p1≠0→∃p∈rs.drop (i+1),p.1=0:=by
   intro hne;obtain⟨q,hq,h⟩:=h2;rcases ao.1 hq with rfl|hq
   ·exact absurd h hne
   ·exact⟨q,hq,h⟩
  rw [ak]
  by_cases a1:p1<0
  ·have ih'':=ih' (h3 (by omega))
   simp only [go_sem,Qe,Qh,Qi,Qj,Qk,reduceCtorEq,reduceIte,hi,e1,hv,hg,a1,ih'']
  ·by_cases a2:(1:Int)≤p1
   ·have ih'':=ih' (h3 (by omega))
    simp only [go_sem,Qe,Qh,Qi,Qj,Qk,reduceCtorEq,reduceIte,hi,e1,hv,hg,a1,a2,c1,ih'']
   ·have a3:p1=0:=by omega
    subst a3;simp only [go_sem,Q2,Q3,Q4,Qe,Qg,Qh,Qi,Qj,Qk,reduceCtorEq,reduceIte,hi,e1,hv,hg,a1,a2,c1,hd,xps,g,xpr,g2,xss,lb]
theorem xqC (m:Man) (hm:fH m) (rs:List (Int×Int)) (hn:rs.length≤1000000) (h:∃p∈rs,p.1=0):
 call T 21 [.lst 7 [m.sv] .no,.lst 2 (rsv rs) .no] [] 0=some ⟨.lst 1 [[.byt (Uc m) .no]] .no,[],[]⟩:=by
 have l:=lA m (Uc m) (f59 m hm) rs hn _ 0 rfl (by omega) (by rw [aY];exact h);rw [aC]at l;have hv:=eD rs;obtain⟨mv,m1,m2,m3,m4,es,rl⟩:=m;simp only [Man.sv]at l ⊢;rw [aq xsb];simp only [go_sem,Qe,Qh,Qi,Qj,Qk,reduceCtorEq,reduceIte,hv,l]
def im1:Img:=⟨1,[102],0,[]⟩
def im2:Img:=⟨3,[107],0,[]⟩
theorem zk:gO im1=0:=by decide
theorem zj:gO im2=0:=by decide
theorem C9:eu [im1,im2]:=by
 refine⟨by decide,by decide, ?_, ?_, ?_,⟨0,by decide,rfl⟩,⟨1,by decide,rfl⟩⟩
 ·intro i hi
  have:i=0∨i=1:=by simp only [ax,bc]at hi;omega
  rcases this with rfl|rfl
  ·exact zk
  ·exact zj
 ·intro i hi
  have:i=0:=by simp only [ax,bc]at hi;omega
  subst this;decide
 ·intro i hi k hk h
  have:i=1∧k=0:=by simp only [ax,bc]at hi;omega
  obtain⟨rfl,rfl⟩:=this;exact absurd h (by decide)
def mnA:Man:=⟨[118],1,0,0,1099511627776,[eI im1,eI im2],[]⟩
theorem xiu:xpe [118] 1 [im1,im2]=mnA:=by
 have h1:iI (eI im2) [eI im1]=1:=by
  have:pb (eI im1) (eI im2)=true:=by unfold pb;rw [if_neg (by decide)];decide
  unfold iI;rw [if_pos this];rfl
 unfold xpe tX mnA;rw [mJ,mJ,List.foldl_nil]
 have e1:sU im1 []=[eI im1]:=by unfold sU xW;rw [if_neg (by decide),if_neg (by simp)];rfl
 have e2:sU im2 [eI im1]=[eI im1,eI im2]:=by unfold sU xW;rw [if_neg (by decide),h1,if_neg (by simp)];rfl
 rw [e1,e2]
theorem QB:fH mnA:=by
 refine⟨by decide,by show 2≤1000000;decide,by decide, ?_,fun x hx=>by cases hx⟩;intro x hx;have:x=eI im1∨x=eI im2:=by simpa [mnA]using hx
 rcases this with rfl|rfl
 ·exact⟨by decide,by show(sha _).length≤_;rw [gK];decide⟩
 ·exact⟨by decide,by show(sha _).length≤_;rw [gK];decide⟩
theorem QA:lY mnA=0:=by
 have d1:((eI im1).dig.length:Int)=32:=by show((sha _).length:Int)=32;rw [gK];rfl
 have d2:((eI im2).dig.length:Int)=32:=by show((sha _).length:Int)=32;rw [gK];rfl
 have b:pb (eI im1) (eI im2)=true:=by unfold pb;rw [if_neg (by decide)];decide
 have e0:lG [eI im1,eI im2] 0=0:=by unfold lG;simp only [bm];rw [if_neg (by decide),if_neg (by decide),if_neg (by decide),if_neg (by decide),if_pos d1,if_pos (by decide),if_pos trivial]
 have e1:lG [eI im1,eI im2] 1=0:=by unfold lG;simp only [bw,bm];rw [if_neg (by decide),if_neg (by decide),if_neg (by decide),if_neg (by decide),if_pos d2,if_pos (by decide),if_neg (by decide),show([eI im1,eI im2].getD (1-1) en0)=eI im1 from rfl,if_pos b]
 have es:gH [eI im1,eI im2] 2 0=0:=by unfold gH;rw [if_pos e0];unfold gH;rw [if_pos e1];rfl
 unfold lY mnA;simp only [ax,bc];rw [if_pos (by decide),if_neg (by decide),if_neg (by decide),if_neg (by decide),if_neg (by decide),if_neg (by decide),if_neg (by decide),if_neg (by decide),if_neg (by decide),if_pos es];rfl
theorem QH {x:Img} (h:gO x=0):iz x≠ []:=fun e=>tV h (by rw [e];rfl)
theorem Qz {x:Img} (h:gO x=0):(ofI x 2).dg.getD 1 []=sha (iz x):=by unfold ofI wA;simp only;rw [if_neg (QH h)];rfl
theorem C8 {x:Img} (h:gO x=0):itE (ofI x 2) (eI x)=true:=by unfold itE;rw [Qz h];simp only [ofI,eI,decide_true,Bool.and_self]
theorem xoY:fb mnA (ofI im1 2)=0:=by unfold fb;rw [if_pos QA,if_pos (show(ofI im1 2).kind=1 from rfl)];unfold mnA fQ;rw [if_pos (C8 zk)];rfl
theorem xoX:fb mnA (ofI im2 2)=1:=by
 have h:itE (ofI im2 2) (eI im1)=false:=by unfold itE;rw [decide_eq_false (by decide:¬(ofI im2 2).reg=tx (eI im1).role)];rfl
 unfold fb;rw [if_pos QA,if_pos (show(ofI im2 2).kind=1 from rfl)];unfold mnA fQ;rw [if_neg (by rw [h];simp)];unfold fQ;rw [if_pos (C8 zj)];rfl
theorem xra (i:Int):sK (mkV i 2 2 [0,0,0,0])=true:=by
 unfold sK;rw [if_neg (by show ¬(2:Int)=1;decide),if_pos (show(mkV i 2 2 [0,0,0,0]).kind=2 from rfl),if_pos (show(mkV i 2 2 [0,0,0,0]).data=[0,0,0,0]from rfl)]
 have h0:(mkV i 2 2 [0,0,0,0]).dg=[[],sha [0,0,0,0]]:=by unfold mkV;rfl
 rw [h0];show(iL true [] (jc [0,0,0,0])&&iL true (sha [0,0,0,0]) (sha [0,0,0,0]))=true;unfold iL;rw [if_neg (by decide),decide_eq_true rfl];split<;>rfl
def evA:List Ev:=[ofI im1 2,mkV 0 2 2 [0,0,0,0],mkV 1 2 2 [0,0,0,0],mkV 2 2 2 [0,0,0,0],mkV 3 2 2 [0,0,0,0],mkV 4 2 2 [0,0,0,0],mkV 5 2 2 [0,0,0,0],mkV 6 2 2 [0,0,0,0],mkV 7 2 2 [0,0,0,0],ofI im2 2]
theorem xiX:evF [im1,im2] 2=evA:=rfl
theorem xkf:iH [mnA] (ofI im1 2)=some (0,0):=by unfold iH;rw [if_neg (by show ¬(1:Int)=5;decide),if_neg (by show ¬(1:Int)=2;decide)];unfold frM;rw [xoY];rfl
theorem xke:iH [mnA] (ofI im2 2)=some (0,1):=by unfold iH;rw [if_neg (by show ¬(1:Int)=5;decide),if_neg (by show ¬(1:Int)=2;decide)];unfold frM;rw [xoX];rfl
theorem xkd (i:Int):iH [mnA] (mkV i 2 2 [0,0,0,0])=some (-1, -1):=by unfold iH;rw [if_neg (by show ¬(2:Int)=5;decide),if_pos (show(mkV i 2 2 [0,0,0,0]).kind=2 from rfl),if_pos (xra i)]
def rsA:List (Int×Int):=[(0,0),(-1, -1),(-1, -1),(-1, -1),(-1, -1),(-1, -1),(-1, -1),(-1, -1),(-1, -1),(0,1)]
theorem exA:(exV evA [mnA]).rs=rsA∧(exV evA [mnA]).at'=10∧exE evA [mnA]=0:=by
 have key:exV evA [mnA]=⟨⟨4,8,false,true,false,true,true,false⟩,10,rsA,0⟩:=by
  unfold exV evA;unfold exW;rw [if_pos (by decide),xkf];simp only
  iterate 8
   unfold exW;rw [if_pos (by decide),xkd];simp only
  unfold exW;rw [if_pos (by decide),xke];simp only;unfold exW;rfl
 unfold exE;rw [key];exact⟨rfl,rfl,rfl⟩
theorem xq3:(exV evA []).rs=[]∧(exV evA []).at'=0∧exE evA []=47:=by
 have key:exV evA []=⟨w0,0,[],47⟩∨∃w,exV evA []=⟨w,0,[],47⟩:=by
  right;unfold exV evA;unfold exW;rw [if_pos (by decide)]
  have:iH [] (ofI im1 2)=none:=by unfold iH;rw [if_neg (by show ¬(1:Int)=5;decide),if_neg (by show ¬(1:Int)=2;decide)];rfl
  rw [this];exact⟨_,rfl⟩
 unfold exE;rcases key with h|⟨w,h⟩
 ·rw [h];exact⟨rfl,rfl,rfl⟩
 ·rw [h];exact⟨rfl,rfl,rfl⟩
theorem ckA:ckV evA [mnA] rsA=true:=by
 unfold ckV;rw [if_pos exA.2.2,if_pos (show(rsA.length:Int)=evA.length from rfl)]
 have h0:ckO [mnA] (ofI im1 2) (0,0)=true:=by unfold ckO;rw [if_neg (by show ¬(1:Int)=5;decide),if_neg (by show ¬(1:Int)=2;decide),if_neg (by decide),if_neg (by decide),if_neg (by decide)];show decide (fb mnA (ofI im1 2)=0)=true;rw [xoY];rfl
 have h1:ckO [mnA] (ofI im2 2) (0,1)=true:=by unfold ckO;rw [if_neg (by show ¬(1:Int)=5;decide),if_neg (by show ¬(1:Int)=2;decide),if_neg (by decide),if_neg (by decide),if_neg (by decide)];show decide (fb mnA (ofI im2 2)=1)=true;rw [xoX];rfl
 have h2:∀i:Int,ckO [mnA] (mkV i 2 2 [0,0,0,0]) (-1, -1)=true:=by intro i;unfold ckO;rw [if_neg (by show ¬(2:Int)=5;decide),if_pos (show(mkV i 2 2 [0,0,0,0]).kind=2 from rfl)];rfl
 unfold evA rsA;unfold ckL;rw [if_pos h0]
 iterate 8
  unfold ckL;rw [if_pos (h2 _)]
 unfold ckL;rw [if_pos h1];rfl
theorem zp:j0 evA:=by
 refine⟨by decide, ?_⟩
 have hi:∀x,gO x=0→rG (ofI x 2):=by
  intro x hx;have h1:=(mD hx).1;obtain⟨_,_,c0,c1,_,_⟩:=jK hx;refine⟨?_, ?_, ?_, ?_⟩
  ·unfold ofI;exact wz _ _
  ·unfold ofI tT
   have:=jp 6 x.ver.toNat (by omega);have hn:=kV (jK hx).2.2.2.2.1;simp only [ah,ax];omega
  ·unfold ofI wA
   simp only;rw [if_neg (QH hx)];show(if rt 2 0=true then jc (iz x)else []).length≤1000000;rw [if_neg (by decide)];exact cL _
  ·rw [Qz hx,gK];decide
 have hs:∀i:Int,rG (mkV i 2 2 [0,0,0,0]):=by
  intro i
  have h0:(mkV i 2 2 [0,0,0,0]).dg=[[],sha [0,0,0,0]]:=by unfold mkV;rfl
  refine⟨?_, ?_, ?_, ?_⟩
  ·rw [h0];rfl
  ·show([0,0,0,0]:List UInt8).length≤_;decide
  ·rw [h0];decide
  ·rw [h0];show(sha _).length≤_;rw [gK];decide
 intro e he;unfold evA at he;simp only [ao,dX,or_false]at he;rcases he with rfl|rfl|rfl|rfl|rfl|rfl|rfl|rfl|rfl|rfl
 ·exact hi _ zk
 ·exact hs _
 ·exact hs _
 ·exact hs _
 ·exact hs _
 ·exact hs _
 ·exact hs _
 ·exact hs _
 ·exact hs _
 ·exact hi _ zj
theorem f10:call T 10 [] [] 0=some ⟨.bool true,[],[]⟩:=by
 have g1:=f31 [im1,im2] C9 2 (.inr (.inl rfl));rw [xiX]at g1;have g2:=f34 [im1,im2] C9 [118] 1;have hde:tX [im1,im2] []=[eI im1,eI im2]:=congrArg Man.ents xiu;rw [hde]at g2
 have hms:oG [mnA]:=⟨by decide,fun m hm=>by
  have:m=mnA:=by simpa using hm
  rw [this];exact QB⟩
 have hms0:oG []:=⟨by decide,fun m hm=>by cases hm⟩;have g3:=f12 2 0 evA zp [mnA] hms;have g4:=f12 2 0 evA zp [] hms0;have g5:=f16 2 0 evA zp [mnA] hms rsA;have g6:=xqC mnA QB rsA (by decide) ⟨(0,0),by simp [rsA],rfl⟩;unfold exS at g3 g4;obtain⟨a1,a2,a3⟩:=exA;obtain⟨b1,b2,b3⟩:=xq3;rw [a1,a2,a3]at g3;rw [b1,b2,b3]at g4;rw [ckA]at g5;have hv:=eD rsA;have hl:rsA.length=10:=rfl;have hg:=jH rsA 9 (by decide);have hr9:rsA.getD 9 (0,0)=(0,1):=rfl;rw [hr9]at hg;rw [hl]at hv;have i1:fq [im1,im2]=[[.int .i64 1,.str [102],.int .i64 0,.byt [] .no],[.int .i64 3,.str [107],.int .i64 0,.byt [] .no]]:=rfl;rw [i1]at g1 g2;have m1:iJ [mnA]=[mnA.sv]:=rfl;have m0:iJ []=[]:=rfl;rw [m1]at g3 g5;rw [m0]at g4;have hsv:mnA.sv=[.str [118],.int .i64 1,.int .i64 0,.int .i64 0,.int .i64 1099511627776,.lst 4 (dw [eI im1,eI im2]) .no,.lst 4 [] .no]:=rfl;rw [hsv]at g3 g5 g6;generalize dw [eI im1,eI im2]=E at*;generalize bD evA=V at*;generalize rsv rsA=R at*;generalize Uc mnA=D at*;have r0:rsv []=[]:=rfl;rw [r0]at g4;rw [aq xsj];simp only [go_sem,Q2,Q3,Q4,Qe,Qh,Qi,Qj,Qk,reduceCtorEq,reduceIte,g1,xjO,g2,yu,g3,g4,Ds,c10,c0,hv,hg,g5,xsy,g6,xsx]

theorem xiV {l:List Ev} (h:l.length≤250) (hs:∀e,e∈l→EvS e):j0 l:=⟨by omega,fun e he=>by have:=hs e he;exact⟨this.d2,by have:=this.b;omega,by have:=this.d0;omega,by have:=this.d1;omega⟩⟩
theorem xpa (codes chain ma:List UInt8) (ac:Int) (h0: -9223372036854775808≤ac) (h1:ac≤9223372036854775807):
 ∃(a:Int) (l:List Ev) (ms:List Man),l.length≤250∧j0 l∧ms.length≤10∧oG ms∧
 call T 11 [.byt codes .no,.byt chain .no,.byt ma .no,.int .i64 ac] [] 0=some ⟨.tup [.agg [.int .i64 a,.int .i64 0,.lst 4 (bD l) .no],.lst 7 (iJ ms) .no],[],[]⟩:=by
 obtain⟨a,l,ms,_,q1,q2,⟨ms',q3,rfl⟩,q5⟩:=f11 codes chain ma ac h0 h1 (P:=fun ms=>∃ms':List Man,MsS ms'∧mR ms'=ms) (fun ch hch=>by obtain⟨ms,hm,g⟩:=f23 ma ch hch;exact⟨_,⟨ms,hm,rfl⟩,g⟩)
 exact⟨a,l,ms',q1,xiV q1 q2,q3.n,⟨q3.bd.1,q3.bd.2⟩,q5⟩
theorem f3 (codes chain ma:List UInt8) (ac:Int) (h0: -9223372036854775808≤ac) (h1:ac≤9223372036854775807):
 call T 3 [.byt codes .no,.byt chain .no,.byt ma .no,.int .i64 ac] [] 0=some ⟨.bool true,[],[]⟩:=by
 have ga:=f10;obtain⟨a,l,ms,n1,hl,n2,hm,g⟩:=xpa codes chain ma ac h0 h1;have g1:=f12 a 0 l hl ms hm;have g2:=f13 a 0 l hl ms hm
 have hrl:(exV l ms).rs.length≤1000000:=by have h1:=qa ms l w0 0 [] rfl;have h2:=zm ms l w0 0 [];have h3:(exV l ms).rs.length=(exV l ms).at':=h1;have h4:(exV l ms).at'≤0+l.length:=h2;omega
 have g3:=f14 (exV l ms).rs hrl;unfold exS at g1 g2;rw [aq T_3];simp only [go_sem,Qe,Qh,Qi,Qj,Qk,reduceCtorEq,reduceIte,ga,xjU,g,xjT,g1,Ds,g2,xsA,g3,xsz]
theorem wh (e:Ev):∀(l:List Man) (i:Nat) (p:Int×Int),frM e l i=some p→
 ∃k,k<l.length∧p.1=((i+k:Nat):Int)∧0≤p.2∧fb (l.getD k mn0) e=p.2∧∀j,j<k→fb (l.getD j mn0) e<0
 |[],i,p,h=>by cases h
 |m::r,i,p,h=>by
  unfold frM at h
  by_cases h0:0≤fb m e
  ·rw [if_pos h0]at h
   cases h;exact⟨0,by simp,rfl,h0,rfl,fun j hj=>absurd hj (Nat.not_lt_zero j)⟩
  ·rw [if_neg h0]at h
   obtain⟨k,h1,h2,h3,h4,h5⟩:=wh e r (i+1) p h;refine⟨k+1,by rw [ax];omega,by rw [h2];omega,h3,by rw [bw];exact h4,fun j hj=> ?_⟩;cases j with
   |zero=>rw [bm];omega
   |succ j=>rw [bw];exact h5 j (by omega)
theorem xT {m:Man} {e:Ev} (h1:e.kind≠1) (h3:e.kind≠3):fb m e= -1:=by unfold fb;rw [if_neg h1,if_neg h3];split<;>rfl
theorem wi {e:Ev} (h1:e.kind≠1) (h3:e.kind≠3):∀(l:List Man) (i:Nat),frM e l i=none
 |[],_=>rfl
 |m::r,i=>by unfold frM;rw [xT h1 h3,if_neg (by decide)];exact wi h1 h3 r (i+1)
theorem De (ms:List Man):∀(l:List Ev) (w:Wk) (i:Nat) (rs:List (Int×Int)),∃t,(exW ms l w i rs).rs=rs++t
 |[],w,i,rs=>⟨[],(bj _).symm⟩
 |e::r,w,i,rs=>by
  unfold exW
  by_cases ho:okW w e=true
  ·rw [if_pos ho]
   cases hr:iH ms e with
   |none=>exact⟨[],(bj _).symm⟩
   |some p=>obtain⟨t,ht⟩:=De ms r (stW w e) (i+1) (rs++ [p]);exact⟨[p]++t,by rw [←aU];exact ht⟩
  ·rw [if_neg ho];exact⟨[],(bj _).symm⟩
theorem Dd (ms:List Man):∀(l:List Ev) (w:Wk) (i:Nat) (rs:List (Int×Int)),rs.length=i→∀k,i+k<(exW ms l w i rs).at'→iH ms (l.getD k ev0)=some ((exW ms l w i rs).rs.getD (i+k) (0,0))
 |[],w,i,rs,hl,k,h=>by have:i+k<i:=h;omega
 |e::r,w,i,rs,hl,k,h=>by
  unfold exW at h ⊢
  by_cases ho:okW w e=true
  ·rw [if_pos ho]at h ⊢
   cases hr:iH ms e with
   |none=>rw [hr]at h;have:i+k<i:=h;omega
   |some p=>
    rw [hr]at h;simp only at h ⊢;cases k with
    |zero=>obtain⟨t,ht⟩:=De ms r (stW w e) (i+1) (rs++ [p]);rw [ht,bm,hr,aU,aa,bN (by omega),show i+0-rs.length=0 from by omega];rfl
    |succ k=>rw [bw];have:=Dd ms r (stW w e) (i+1) (rs++ [p]) (by rw [ah,hl];rfl) k (by omega);rw [this,show i+1+k=i+(k+1)from by omega]
  ·rw [if_neg ho]at h;have:i+k<i:=h;omega
theorem l4a (a z:Int) (evs:List Ev) (ms:List Man) (hm:oG ms) (e:Ev) (he:rG e) (rs:List (Int×Int)) (n i q:Nat) (p2:Int) (hi:i<rs.length) (hq:q<ms.length) (hp:rs.getD i (0,0)=((q:Int),p2))
 (hno:∀j,j<q→fb (ms.getD j mn0) e<0):∀(d j:Nat),q-j=d→j≤q→
 run T (.loop Rj) ⟨[(9,.ptr 109 0),(10,.lst 7 (iJ ms) .no),(11,.lst 2 (rsv rs) .no),(12,.int .i64 n),(14,.int .i64 i),(15,.ptr 115 0),(16,.int .i64 j)],[(109,.rc [.int .i64 a,.int .i64 z,.lst 4 (bD evs) .no]),(115,.rc e.sv)],[]⟩=
  some (.x 2,⟨[(9,.ptr 109 0),(10,.lst 7 (iJ ms) .no),(11,.lst 2 (rsv rs) .no),(12,.int .i64 n),(14,.int .i64 i)],[(109,.rc [.int .i64 a,.int .i64 z,.lst 4 (bD evs) .no]),(115,.rc e.sv)],[]⟩):=by
 have hgr:=jH rs i hi;have hvr:=eD rs;rw [hp]at hgr;simp only at hgr;intro d;induction d with
 |zero=>
  intro j h0 h1;have:j=q:=by omega
  subst this;rw [ak];simp only [go_sem,Qe,Qh,Qi,Qj,Qk,reduceIte,hi,hvr,hgr]
 |succ d ih=>
  intro j h0 h1;have hj:j<q:=by omega
  have hjm:j<ms.length:=by omega
  have hn:=hm.n;have e1:=bW j (by omega);have ih':=ih (j+1) (by omega) (by omega);have hvm:=fU ms;have hgm:=kE ms j hjm;have g:=f15 _ (hm.m _ (cI ms mn0 j hjm)) e he;have hz:¬0≤fb (ms.getD j mn0) e:=by have:=hno j hj;omega
  generalize ms.getD j mn0=m at*;obtain⟨mv,m1,m2,m3,m4,es,rl⟩:=m;obtain⟨g',k,ds,b⟩:=e;simp only [Man.sv,Ev.sv]at*;rw [ak];simp only [go_sem,Qb,Qc,Qd,Qe,Qh,Qi,Qj,Qk,reduceIte,hi,hvr,hgr,hj,hjm,hvm,hgm,g,Fl,hz,e1,ih']
theorem l4 (a z:Int) (evs:List Ev) (he:j0 evs) (ms:List Man) (hm:oG ms) (rs:List (Int×Int)) (hn:rs.length≤evs.length) (hr:∀k,k<rs.length→iH ms (evs.getD k ev0)=some (rs.getD k (0,0))):∀(d i:Nat),rs.length-i=d→i≤rs.length→
 ∃ob,run T (.loop Ri) ⟨[(9,.ptr 109 0),(10,.lst 7 (iJ ms) .no),(11,.lst 2 (rsv rs) .no),(12,.int .i64 rs.length),(14,.int .i64 i)],[(109,.rc [.int .i64 a,.int .i64 z,.lst 4 (bD evs) .no])],[]⟩=some (.x 0,⟨[],ob,[]⟩):=by
 intro d;induction d with
 |zero=>
  intro i h0 h1;have:i=rs.length:=by omega
  subst this;refine⟨[(109,.rc [.int .i64 a,.int .i64 z,.lst 4 (bD evs) .no])], ?_⟩;rw [ak];simp only [go_sem,Q7,Qh,Qj,Qk,reduceIte]
 |succ d ih=>
  intro i h0 h1;have hi:i<rs.length:=by omega
  have hie:i<evs.length:=by omega
  have hne:=he.n;have e1:=bW i (by omega);obtain⟨ob,ih'⟩:=ih (i+1) (by omega) (by omega);refine⟨ob, ?_⟩;have hg:=ik evs i hie;have hv:=ct evs;have hgr:=jH rs i hi;have hvr:=eD rs;have hvm:=fU ms;have hri:=hr i hi;have hbe:=he.get hie;have key:=fun q p2 hq hp hno=>l4a a z evs ms hm (evs.getD i ev0) hbe rs rs.length i q p2 hi hq hp hno q 0 rfl (cL _)
  have hit:∀q:Nat,q<ms.length→call T 15 [.agg (ms.getD q mn0).sv,.agg (evs.getD i ev0).sv] [] 0=some ⟨.int .i64 (fb (ms.getD q mn0) (evs.getD i ev0)),[],[]⟩:=fun q hq=>f15 _ (hm.m _ (cI ms mn0 q hq)) _ hbe
  have hgm:∀q:Nat,q<ms.length→(iJ ms).getD q []=(ms.getD q mn0).sv:=fun q hq=>kE ms q hq
  clear ih he hr hbe;generalize hE:evs.getD i ev0=e at*;generalize hP:rs.getD i (0,0)=p at*;obtain⟨p1,p2⟩:=p
  by_cases h5:e.kind=5
  ·have:(p1,p2)=(-1, -1):=by unfold iH at hri;rw [if_pos h5]at hri;exact(av.inj hri).symm
   cases this;obtain⟨g',k,ds,b⟩:=e;simp only at h5;subst h5;simp only [Ev.sv]at*;rw [ak];simp only [go_sem,Q5,Q7,Qe,Qh,Qi,Qj,Qk,reduceIte,hi,hie,e1,hg,hv,hgr,hvr,ih']
  by_cases h2:e.kind=2
  ·have:(p1,p2)=(-1, -1):=by
    unfold iH at hri;rw [if_neg h5,if_pos h2,wi (by omega) (by omega)]at hri;split at hri
    ·exact(av.inj hri).symm
    ·cases hri
   cases this;obtain⟨g',k,ds,b⟩:=e;simp only at h2;subst h2;simp only [Ev.sv]at*;rw [ak];simp only [go_sem,Q5,Q7,Qe,Qh,Qi,Qj,Qk,reduceIte,hi,hie,e1,hg,hv,hgr,hvr,ih']
  ·unfold iH at hri
   rw [if_neg h5,if_neg h2]at hri;obtain⟨q,c1,c2,c3,c4,c5⟩:=wh e ms 0 _ hri;simp only [cO]at c2 c3 c4;subst c2;have kk:=key q p2 c1 rfl c5;have hit':=hit q c1;have hgm':=hgm q c1;rw [c4]at hit';have hqi:(q:Int)<(ms.length:Int):=by omega
   have hqn:¬(ms.length:Int)≤(q:Int):=by omega
   have hq0:¬(q:Int)<0:=by omega
   have hq1:(0:Int)≤(q:Int):=by omega
   have hp2:¬p2<0:=by omega
   rw [aC]at kk;generalize ms.getD q mn0=m at*;obtain⟨mv,m1,m2,m3,m4,es,rl⟩:=m;obtain⟨g',k,ds,b⟩:=e;simp only [Ev.sv,Man.sv]at*;rw [ak];simp only [go_sem,Q7,Qb,Qc,Qd,Qe,Qh,Qi,Qj,Qk,reduceCtorEq,reduceIte,hi,hie,e1,hg,hv,hgr,hvr,hvm,h5,h2,hqi,hqn,hq0,hq1,hp2,hgm',hit',Fl,kk,ih']
theorem f4 (codes chain ma:List UInt8) (ac:Int) (h0: -9223372036854775808≤ac) (h1:ac≤9223372036854775807):
 call T 4 [.byt codes .no,.byt chain .no,.byt ma .no,.int .i64 ac] [] 0=some ⟨.bool true,[],[]⟩:=by
 have ga:=f10;obtain⟨a,l,ms,n1,hl,n2,hm,g⟩:=xpa codes chain ma ac h0 h1;have g1:=f12 a 0 l hl ms hm;have hlen:(exV l ms).rs.length=(exV l ms).at':=qa ms l w0 0 [] rfl;have hle:(exV l ms).at'≤0+l.length:=zm ms l w0 0 [];have hat:(exV l ms).err=0→(exV l ms).at'=0+l.length:=zo ms l w0 0 []
 have hrea:∀k,k<(exV l ms).rs.length→iH ms (l.getD k ev0)=some ((exV l ms).rs.getD k (0,0)):=fun k hk=>by have:=Dd ms l w0 0 [] rfl k (by rw [cO];show k<(exV l ms).at';omega);rwa [cO]at this
 obtain⟨ob,gl⟩:=l4 a 0 l hl ms hm (exV l ms).rs (by omega) hrea _ 0 rfl (cL _)
 have he0:exE l ms=0→(exV l ms).err=0:=by
  unfold exE;intro h;split at h
  ·assumption
  ·exact h
 have hv:=ct l;have hvr:=eD (exV l ms).rs;unfold exS at g1;rw [←hlen]at g1 hle hat;generalize exE l ms=E at*;generalize (exV l ms).rs=R at*;have k1:¬((R.length:Nat):Int)<0:=by omega
 have k2:¬(l.length:Int)<((R.length:Nat):Int):=by omega
 rw [aC]at gl;rw [aq T_4]
 by_cases hE:E=0
 ·have hll:R.length=l.length:=by have:=hat (he0 hE);omega
  have hli:(R.length:Int)=(l.length:Int):=by omega
  have hlt:=eq_true hli;subst hE;simp only [go_sem,Qe,Qh,Qi,Qj,Qk,reduceCtorEq,reduceIte,ga,xjU,g,xjT,g1,Ds,hv,hvr,k1,k2,hlt,gl]
 ·simp only [go_sem,Qe,Qh,Qi,Qj,Qk,reduceCtorEq,reduceIte,ga,xjU,g,xjT,g1,Ds,hv,hvr,k1,k2,hE,gl]
end Go.Proofs.YtdafipacemgcoaaGreatDoor
