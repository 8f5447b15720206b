/- What the functions come to. No condition. -/
import Derived.Test.YtkcjdeofknkndaaGreatDoorTf
import Derived.Test.YtkcjdeofknkndaaGreatDoorTg
import Derived.Test.YtkcjdeofknkndaaGreatDoorTh
open Int renaming natCast_zero -> aC
open Go.IntKind renaming i64 -> ac, u64 -> aU, wrap_u64 -> co
open List renaming append_assoc -> aw, append_nil -> bC, cons_append -> bv, drop_eq_getElem_cons -> aX, drop_length -> bl, drop_zero -> bh, flatten_cons -> db, foldl_cons -> cH, getD_cons_succ -> b9, getD_cons_zero -> bO, getD_eq_getElem?_getD -> aa, getElem?_eq_getElem -> ab, getElem_of_mem -> bN, length_append -> af, length_cons -> ax, length_nil -> aV, length_take -> av, map_cons -> aE, mem_append -> ak, mem_cons -> am, mem_cons_of_mem -> ao, mem_cons_self -> az, mem_singleton -> aN, nil_append -> aQ, take -> dr, take_of_length_le -> cn
open Nat renaming add_mul -> bB, lt_or_ge -> bH, mod_eq_of_lt -> dU, mul_comm -> cB, zero_add -> bW, zero_le -> bM
open Option renaming some -> aq
open UInt8 renaming ofInt -> bF
set_option maxRecDepth 100000
set_option maxHeartbeats 16000000
set_option linter.unusedSimpArgs false
set_option linter.unusedVariables false
namespace Go.Proofs.YtkcjdeofknkndaaGreatDoor
open Go.Sy
open UInt8 renaming reduceLT -> Q0, reduceLE -> Q1
open Int renaming reduceToNat -> Q2, reduceLE -> Q3, reduceLT -> Q4, reduceEq -> Q5, reduceNe -> Q6, reduceNeg -> Q7, reduceAdd -> Q8, reduceSub -> Q9, reduceMul -> Qa
open Nat renaming reducePow -> Qb, reduceDiv -> Qc, reduceMod -> Qd, reduceAdd -> Qe, reduceSub -> Qf, reduceMul -> Qg, reduceLT -> Qh, reduceLeDiff -> Qi, reduceEqDiff -> Qj, reduceBEq -> Qk
def iD{α:Type}(p:α->Bool):List α->Nat->Int
 |[],_=> -1
 |x::r,i=>if p x=true then(i:Int)else iD p r (i+1)
def itE(e:Ev)(x:Ent):Bool:=decide (e.reg=zV x.role)&&(decide (e.dg.getD 1 []=x.dig)&&decide (e.data=uS x.name x.ver))
def D0(x:Ent):Prop:=0<=x.ver/\x.ver<=1000000/\x.name.length<=1000000
theorem QR{l:List Ent}{i:Nat}(h:qf l i=0):1<=(l.getD i en0).role/\(l.getD i en0).role<=3/\0<=(l.getD i en0).ver/\(l.getD i en0).ver<=1000000/\(l.getD i en0).dig.length=32/\Pr.nameB (l.getD i en0).name=true:=by
 unfold qf at h;generalize l.getD i en0=x at*
 repeat' split at h
 all_goals first|omega|skip
 all_goals (refine⟨by omega,by omega,by omega,by omega,by omega,by assumption⟩)
theorem vk(l:List Ent):∀(n i:Nat),jx l n i=0->∀k,i<=k->k<i+n->qf l k=0
 |0,i,_,k,h1,h2=>by omega
 |n+1,i,h,k,h1,h2=>by
  unfold jx at h
  by_cases h0:qf l i=0
  ·rw[if_pos h0]at h
   rcases bH i k with h3|h3
   ·exact vk l n (i+1) h k (by omega) (by omega)
   ·have:k=i:=by omega
    rw[this];exact h0
  ·rw[if_neg h0]at h;exact absurd h h0
theorem su{m:Man}(h:gJ m=0):jx m.ents m.ents.length 0=0/\ko m.ruls=0/\m.ents.length<=16/\m.ruls.length<=8/\Pr.nameB m.vendor=true/\0<=m.flr/\m.flr<=m.ver/\m.ver<=1000000/\0<=m.frm/\m.frm<m.til/\m.til<=1099511627776:=by
 unfold gJ at h
 by_cases h0:Pr.nameB m.vendor=true
 ·rw[if_pos h0]at h
  repeat' split at h
  all_goals first|(exfalso;omega)|skip
  refine⟨by assumption,h,by omega,by omega,h0,by omega,by omega,by omega,by omega,by omega,by omega⟩
 ·rw[if_neg h0]at h;omega
theorem sr{m:Man}(h:gJ m=0):∀x∈m.ents,1<=x.role/\x.role<=3/\D0 x/\x.dig.length=32/\Pr.nameB x.name=true:=by
 intro x hx;obtain⟨i,hi,rfl⟩:=bN hx;have h1:=QR (vk m.ents _ 0 (su h).1 i (bM _) (by omega));have e:m.ents.getD i en0=m.ents[i]:=by rw[aa,ab hi];rfl
 rw[e]at h1;obtain⟨a,b,c,d,f,g⟩:=h1;have:=iK g;exact⟨a,b,⟨c,d,by omega⟩,f,g⟩
theorem f76(e:Ev)(x:Ent)(hd:e.dg.length=2)(hx:D0 x):call T 76 [.agg x.sv,.ptr 0 0] [.rc e.sv] 0=some ⟨.bool (itE e x),[(0,.rc e.sv)],[]⟩:=by
 obtain⟨h0,h1,h2⟩:=hx;have g1:=f33 x.role;have g2:=f77 (e.dg.getD 1 []) x.dig;obtain⟨v,hv⟩:=Int.eq_ofNat_of_zero_le h0;have g3:=f78 v (by omega);have hl:=lV 6 v (by omega);obtain⟨g,k,ds,b⟩:=e;obtain⟨ro,na,ve,di⟩:=x;simp only at hd hv h2 g1 g2;subst hv;rw[two ds [] hd]at*;generalize ds.getD 0 []=d0 at*;generalize ds.getD 1 []=d1 at*;have hbl:bls [d0,d1]=[[.byt d0 .no],[.byt d1 .no]]:=rfl;simp only[bO,b9]at g2;rw[an xkP];unfold itE Ev.sv Ent.sv uS;have c1:na.length+1<=9223372036854775807:=by omega
 have c2:na.length+1+(dec v).length<=9223372036854775807:=by omega
 simp only[hbl,bO,b9,Int.toNat_natCast]
 by_cases a1:g=zV ro
 ·by_cases a2:d1=di
  ·rw[decide_eq_true a2]at g2
   simp only[go_sem,Q0,Q1,Q2,Q3,Q4,Q5,Q6,Q7,Q8,Q9,Qa,Qb,Qc,Qd,Qe,Qf,Qg,Qh,Qi,Qj,Qk,reduceCtorEq,reduceIte,g1,xl,a1,g2,vy,g3,xlB,c1,c2,decide_eq_true a2]
  ·rw[decide_eq_false a2]at g2
   simp only[go_sem,Q0,Q1,Q2,Q3,Q4,Q5,Q6,Q7,Q8,Q9,Qa,Qb,Qc,Qd,Qe,Qf,Qg,Qh,Qi,Qj,Qk,reduceCtorEq,reduceIte,g1,xl,a1,g2,vy,decide_eq_false a2]
 ·simp only[go_sem,Q0,Q1,Q2,Q3,Q4,Q5,Q6,Q7,Q8,Q9,Qa,Qb,Qc,Qd,Qe,Qf,Qg,Qh,Qi,Qj,Qk,reduceCtorEq,reduceIte,g1,xl,a1]
theorem l75(e:Ev)(es:List Ent)(hd:e.dg.length=2)(hx:∀x∈es,D0 x)(hn:es.length<=1000000):∀(n i:Nat),es.length-i=n->i<=es.length->
 run T (.loop NY) ⟨[(0,.lst 4 (bX es) .no),(1,.fn 76 [] [.ptr 0 0]),(7,.int .i64 es.length),(8,.int .i64 i)],[(0,.rc e.sv)],[]⟩=
 if iD (itE e) (es.drop i) i= -1 then some (.x 0,⟨[],[(0,.rc e.sv)],[]⟩)else some (.r,⟨[(4,.int .i64 (iD (itE e) (es.drop i) i))],[(0,.rc e.sv)],[]⟩):=by
 intro n;induction n with
 |zero=>
  intro i h0 h1;have:i=es.length:=by omega
  subst this;rw[ai,bl];simp only[go_sem,Q0,Q1,Q2,Q3,Q4,Q5,Q6,Q7,Q8,Q9,Qa,Qb,Qc,Qd,Qe,Qf,Qg,Qh,Qi,Qj,Qk,reduceCtorEq,reduceIte,iD]
 |succ n ih=>
  intro i h0 h1;have hi:i<es.length:=by omega
  have e1:=cy i (by omega);have ih':=ih (i+1) (by omega) (by omega);have hv:=cm es;have hg:=dB es i hi;have g:=f76 e (es.getD i en0) hd (hx _ (dv es en0 i hi));have hdr:es.drop i=es.getD i en0::es.drop (i+1):=by rw[aX hi,aa,ab hi];rfl
  rw[hdr];generalize es.drop (i+1)=R at*;generalize es.getD i en0=x at*;obtain⟨ro,na,ve,di⟩:=x;simp only[Ev.sv,Ent.sv]at*;rw[ai];unfold iD;cases hb:itE e ⟨ro,na,ve,di⟩with
  |true=>
   rw[hb]at g;have hne:¬(i:Int)= -1:=by omega
   simp only[go_sem,Q0,Q1,Q2,Q3,Q4,Q5,Q6,Q7,Q8,Q9,Qa,Qb,Qc,Qd,Qe,Qf,Qg,Qh,Qi,Qj,Qk,reduceCtorEq,reduceIte,hi,e1,hv,hg,g,xiI,hne]
  |false=>rw[hb]at g;simp only[go_sem,Q0,Q1,Q2,Q3,Q4,Q5,Q6,Q7,Q8,Q9,Qa,Qb,Qc,Qd,Qe,Qf,Qg,Qh,Qi,Qj,Qk,reduceCtorEq,reduceIte,hi,e1,hv,hg,g,xiI,ih']
theorem f75(e:Ev)(es:List Ent)(hd:e.dg.length=2)(hx:∀x∈es,D0 x)(hn:es.length<=1000000):
 call T 75 [.lst 4 (bX es) .no,.fn 76 [] [.ptr 0 0]] [.rc e.sv] 0=some ⟨.int .i64 (iD (itE e) es 0),[(0,.rc e.sv)],[]⟩:=by
 have h:=l75 e es hd hx hn _ 0 rfl (by omega);simp only[aC,bh]at h;have hv:=cm es;rw[an xkQ];unfold Ev.sv at h ⊢
 by_cases hq:iD (itE e) es 0= -1
 ·rw[if_pos hq]at h
  simp only[go_sem,Q0,Q1,Q2,Q3,Q4,Q5,Q6,Q7,Q8,Q9,Qa,Qb,Qc,Qd,Qe,Qf,Qg,Qh,Qi,Qj,Qk,reduceCtorEq,reduceIte,hv,h,hq]
 ·rw[if_neg hq]at h
  simp only[go_sem,Q0,Q1,Q2,Q3,Q4,Q5,Q6,Q7,Q8,Q9,Qa,Qb,Qc,Qd,Qe,Qf,Qg,Qh,Qi,Qj,Qk,reduceCtorEq,reduceIte,hv,h]
def alR(b:List UInt8)(r:Rul):Bool:=alw r.kind r.text r.lo r.hi b
theorem f81(e:Ev)(r:Rul)(ht:r.text.length<=1000000)(hb:e.data.length<=1000000):call T 81 [.agg r.sv,.ptr 0 0] [.rc e.sv] 0=some ⟨.bool (alR e.data r),[(0,.rc e.sv)],[]⟩:=by have g:=f35 r.kind r.text r.lo r.hi e.data (by omega) (by omega);obtain⟨g',k,ds,b⟩:=e;obtain⟨q,t,lo,hi⟩:=r;rw[an xkK];unfold alR Ev.sv Rul.sv;simp only[go_sem,Q0,Q1,Q2,Q3,Q4,Q5,Q6,Q7,Q8,Q9,Qa,Qb,Qc,Qd,Qe,Qf,Qg,Qh,Qi,Qj,Qk,reduceCtorEq,reduceIte,g,xdg]
theorem l80(e:Ev)(rs:List Rul)(hb:e.data.length<=1000000)(hx:∀x∈rs,x.text.length<=1000000)(hn:rs.length<=1000000):∀(n i:Nat),rs.length-i=n->i<=rs.length->
 run T (.loop NW) ⟨[(0,.lst 4 (dZ rs) .no),(1,.fn 81 [] [.ptr 0 0]),(7,.int .i64 rs.length),(8,.int .i64 i)],[(0,.rc e.sv)],[]⟩=
 if iD (alR e.data) (rs.drop i) i= -1 then some (.x 0,⟨[],[(0,.rc e.sv)],[]⟩)else some (.r,⟨[(4,.int .i64 (iD (alR e.data) (rs.drop i) i))],[(0,.rc e.sv)],[]⟩):=by
 intro n;induction n with
 |zero=>
  intro i h0 h1;have:i=rs.length:=by omega
  subst this;rw[ai,bl];simp only[go_sem,Q0,Q1,Q2,Q3,Q4,Q5,Q6,Q7,Q8,Q9,Qa,Qb,Qc,Qd,Qe,Qf,Qg,Qh,Qi,Qj,Qk,reduceCtorEq,reduceIte,iD]
 |succ n ih=>
  intro i h0 h1;have hi:i<rs.length:=by omega
  have e1:=cy i (by omega);have ih':=ih (i+1) (by omega) (by omega);have hv:=dR rs;have hg:=hJ rs i hi;have g:=f81 e (rs.getD i rl0) (hx _ (dv rs rl0 i hi)) hb;have hdr:rs.drop i=rs.getD i rl0::rs.drop (i+1):=by rw[aX hi,aa,ab hi];rfl
  rw[hdr];generalize rs.drop (i+1)=R at*;generalize rs.getD i rl0=x at*;obtain⟨q,t,lo,hi'⟩:=x;simp only[Ev.sv,Rul.sv]at*;rw[ai];unfold iD;cases hb:alR e.data ⟨q,t,lo,hi'⟩with
  |true=>
   rw[hb]at g;have hne:¬(i:Int)= -1:=by omega
   simp only[go_sem,Q0,Q1,Q2,Q3,Q4,Q5,Q6,Q7,Q8,Q9,Qa,Qb,Qc,Qd,Qe,Qf,Qg,Qh,Qi,Qj,Qk,reduceCtorEq,reduceIte,hi,e1,hv,hg,g,xiG,hne]
  |false=>rw[hb]at g;simp only[go_sem,Q0,Q1,Q2,Q3,Q4,Q5,Q6,Q7,Q8,Q9,Qa,Qb,Qc,Qd,Qe,Qf,Qg,Qh,Qi,Qj,Qk,reduceCtorEq,reduceIte,hi,e1,hv,hg,g,xiG,ih']
theorem f80(e:Ev)(rs:List Rul)(hb:e.data.length<=1000000)(hx:∀x∈rs,x.text.length<=1000000)(hn:rs.length<=1000000):
 call T 80 [.lst 4 (dZ rs) .no,.fn 81 [] [.ptr 0 0]] [.rc e.sv] 0=some ⟨.int .i64 (iD (alR e.data) rs 0),[(0,.rc e.sv)],[]⟩:=by
 have h:=l80 e rs hb hx hn _ 0 rfl (by omega);simp only[aC,bh]at h;have hv:=dR rs;rw[an xkL];unfold Ev.sv at h ⊢
 by_cases hq:iD (alR e.data) rs 0= -1
 ·rw[if_pos hq]at h
  simp only[go_sem,Q0,Q1,Q2,Q3,Q4,Q5,Q6,Q7,Q8,Q9,Qa,Qb,Qc,Qd,Qe,Qf,Qg,Qh,Qi,Qj,Qk,reduceCtorEq,reduceIte,hv,h,hq]
 ·rw[if_neg hq]at h
  simp only[go_sem,Q0,Q1,Q2,Q3,Q4,Q5,Q6,Q7,Q8,Q9,Qa,Qb,Qc,Qd,Qe,Qf,Qg,Qh,Qi,Qj,Qk,reduceCtorEq,reduceIte,hv,h]
theorem Cl{α:Type}(p:α->Bool):∀(l:List α)(i:Nat),iD p l i= -1\/((i:Int)<=iD p l i/\iD p l i<i+l.length)
 |[],_=> .inl rfl
 |x::r,i=>by
  unfold iD
  by_cases h:p x=true
  ·rw[if_pos h,ax];right;omega
  ·rw[if_neg h,ax]
   rcases Cl p r (i+1)with h|h
   ·exact .inl h
   ·right;omega
structure xiL(e:Ev):Prop where
 d2:e.dg.length=2
 b:e.data.length<=1000000
 d0:(e.dg.getD 0 []).length<=1000000
 d1:(e.dg.getD 1 []).length<=1000000
def wI(m:Man)(e:Ev):Int:=
 if gJ m=0 then
  (if e.kind=1 then iD (itE e) m.ents 0
  else if e.kind=3 then(if e.reg=9 then(if Rm e=true then(if 0<=iD (alR e.data) m.ruls 0 then(m.ents.length:Int)+iD (alR e.data) m.ruls 0 else-1)else-1)else-1)
  else-1)
 else-1
theorem f31(m:Man)(hm:hC m)(e:Ev)(he:xiL e):call T 31 [.agg m.sv,.agg e.sv] [] 0=some ⟨.int .i64 (wI m e),[],[]⟩:=by
 have g1:=f13 m hm;have g3:=f33 4;have k9:zV 4=9:=rfl;have g4:=f79 e he.d2 he.b;have g5:=f80 e m.ruls he.b hm.r hm.rn;have hr:=Cl (alR e.data) m.ruls 0;have hv:=cm m.ents;have hen:=hm.en;have hrn:=hm.rn;rw[k9]at g3;have g2:gJ m=0->call T 75 [.lst 4 (bX m.ents) .no,.fn 76 [] [.ptr 0 0]] [.rc e.sv] 0=some ⟨.int .i64 (iD (itE e) m.ents 0),[(0,.rc e.sv)],[]⟩:=fun h=>f75 e m.ents he.d2 (fun x hx=>(sr h x hx).2.2.1) hm.en
 clear hm he;obtain⟨mv,m1,m2,m3,m4,es,rs⟩:=m;obtain⟨g',k,ds,b⟩:=e;rw[an xll];unfold wI;simp only[Man.sv,Ev.sv]at*
 by_cases h0:gJ ⟨mv,m1,m2,m3,m4,es,rs⟩=0
 ·have g2':=g2 h0
  rw[h0]at g1
  by_cases h1:k=1
  ·subst h1
   simp only[go_sem,Q0,Q1,Q2,Q3,Q4,Q5,Q6,Q7,Q8,Q9,Qa,Qb,Qc,Qd,Qe,Qf,Qg,Qh,Qi,Qj,Qk,reduceCtorEq,reduceIte,g1,o3,h0,g2',xlC]
  ·by_cases h3:k=3
   ·subst h3
    by_cases h9:g'=9
    ·subst h9
     cases hc:Rm ⟨9,3,ds,b⟩with
     |false=>rw[hc]at g4;simp only[go_sem,Q0,Q1,Q2,Q3,Q4,Q5,Q6,Q7,Q8,Q9,Qa,Qb,Qc,Qd,Qe,Qf,Qg,Qh,Qi,Qj,Qk,reduceCtorEq,reduceIte,g1,o3,h0,g3,xl,g4,xdb]
     |true=>
      rw[hc]at g4;generalize iD (alR b) rs 0=z at*
      by_cases hz:0<=z
      ·have ew:ac.wrap ((es.length:Int)+z)=(es.length:Int)+z:=w64 (by omega) (by omega)
       simp only[go_sem,Q0,Q1,Q2,Q3,Q4,Q5,Q6,Q7,Q8,Q9,Qa,Qb,Qc,Qd,Qe,Qf,Qg,Qh,Qi,Qj,Qk,reduceCtorEq,reduceIte,g1,o3,h0,g3,xl,g4,xdb,g5,xiH,hz,hv,ew]
      ·simp only[go_sem,Q0,Q1,Q2,Q3,Q4,Q5,Q6,Q7,Q8,Q9,Qa,Qb,Qc,Qd,Qe,Qf,Qg,Qh,Qi,Qj,Qk,reduceCtorEq,reduceIte,g1,o3,h0,g3,xl,g4,xdb,g5,xiH,hz]
    ·simp only[go_sem,Q0,Q1,Q2,Q3,Q4,Q5,Q6,Q7,Q8,Q9,Qa,Qb,Qc,Qd,Qe,Qf,Qg,Qh,Qi,Qj,Qk,reduceCtorEq,reduceIte,g1,o3,h0,g3,xl,h9]
   ·simp only[go_sem,Q0,Q1,Q2,Q3,Q4,Q5,Q6,Q7,Q8,Q9,Qa,Qb,Qc,Qd,Qe,Qf,Qg,Qh,Qi,Qj,Qk,reduceCtorEq,reduceIte,g1,o3,h0,h1,h3]
 ·simp only[go_sem,Q0,Q1,Q2,Q3,Q4,Q5,Q6,Q7,Q8,Q9,Qa,Qb,Qc,Qd,Qe,Qf,Qg,Qh,Qi,Qj,Qk,reduceCtorEq,reduceIte,g1,o3,h0]
theorem Gm(v s:Nat):(gN (v:Int) s).toNat=v/2^s % 256:=by
 unfold gN
 have e:Int.fdiv (v:Int) (2^s)=((v/2^s:Nat):Int):=by
  have p:((2:Int)^s)=((2^s:Nat):Int):=by rw[Int.natCast_pow];rfl
  rw[p,Int.fdiv_eq_ediv_of_nonneg _ (Int.natCast_nonneg _)];rfl
 rw[e];show(bF ((v/2^s:Nat):Int)).toNat=_;generalize v/2^s=q;simp[bF];omega
theorem XF:∀(k a v:Nat),nF a (be k (v:Int))=a*256^k+v % 256^k
 |0,a,v=>by simp[be,nF,Nat.mod_one]
 |k+1,a,v=>by
  have h1:(gN (v:Int) (8*k)).toNat=v/256^k % 256:=by rw[Gm,Nat.pow_mul]
  show nF (a*256+(gN (v:Int) (8*k)).toNat) (be k (v:Int))=_;rw[XF k,h1,Nat.mod_pow_succ,Nat.pow_succ,bB,Nat.mul_assoc a,cB 256,cB (v/256^k % 256)];omega
theorem jv(k:Nat)(v:Int)(h0:0<=v)(h1:v<((256^k:Nat):Int))(h8:v<18446744073709551616):((nB (bu k v):Nat):Int)=v:=by
 unfold bu nB;have e:aU.wrap v=((v.toNat:Nat):Int):=by rw[co];omega
 rw[e,XF,Nat.zero_mul,bW,dU (by omega)];omega
theorem oS{B P X S:List UInt8}(h:B=P++(X++S)):(B.drop P.length).take X.length=X/\P.length+X.length<=B.length:=by
 subst h;constructor
 ·rw[List.drop_left',List.take_left']
  ·rfl
  ·rfl
 ·rw[af,af];omega
theorem kh{B P X S:List UInt8}(n:Nat)(h:B=P++(X++S))(hn:X.length=n):uR B n ⟨P.length,0⟩=(((nB X:Nat):Int),⟨(P++X).length,0⟩):=by subst hn;obtain⟨h1,h2⟩:=oS h;unfold uR;rw[if_pos rfl];simp only;rw[if_pos h2,h1,af]
theorem xdx{B P X S:List UInt8}(n:Nat)(h:B=P++(X++S))(hn:X.length=n):wR B n ⟨P.length,0⟩=(X,⟨(P++X).length,0⟩):=by subst hn;obtain⟨h1,h2⟩:=oS h;unfold wR;rw[if_pos rfl];simp only;rw[if_pos h2,h1,af]
theorem Ou{B P X S:List UInt8}(m:Nat)(h:B=P++((bu 2 (X.length:Int)++X)++S))(hm:X.length<=m)(h6:X.length<65536):bR B m ⟨P.length,0⟩=(X,⟨(P++(bu 2 (X.length:Int)++X)).length,0⟩):=by
 have hn:nB (bu 2 (X.length:Int))=X.length:=by
  have hp:((256^2:Nat):Int)=65536:=by decide
  have:=jv 2 (X.length:Int) (by omega) (by rw[hp];omega) (by omega);omega
 have l2:(bu 2 (X.length:Int)).length=2:=cU ..;have h':B=P++(bu 2 (X.length:Int)++(X++S)):=by rw[h,aw (bu 2 _)]
 have h'':B=(P++bu 2 (X.length:Int))++(X++S):=by rw[h',aw]
 obtain⟨a1,a2⟩:=oS h';obtain⟨b1,b2⟩:=oS h'';rw[l2]at a1 a2;rw[af,l2]at b1 b2;unfold bR;rw[if_pos rfl];simp only;rw[if_pos a2,a1,hn,if_pos hm,if_pos b2,b1];rw[af,af,l2]
def oM(x:Ent):List UInt8:=bu 1 x.role++(bu 2 (x.name.length:Int)++x.name)++bu 4 x.ver++x.dig
def ru(r:Rul):List UInt8:=bu 1 r.kind++(bu 2 (r.text.length:Int)++r.text)++bu 4 r.lo++bu 4 r.hi
theorem sN(B X:List UInt8)(h:X.length<65536):jh B X=B++(bu 2 (X.length:Int)++X):=by unfold jh bu;rw[cn (by omega),aw]
theorem Rb(B:List UInt8)(x:Ent)(h:x.name.length<65536):qj B x=B++oM x:=by unfold qj oM;rw[sN _ _ h];simp only[aw]
theorem PA(B:List UInt8)(x:Rul)(h:x.text.length<65536):nG B x=B++ru x:=by unfold nG ru;rw[sN _ _ h];simp only[aw]
theorem uZ:∀(l:List Ent)(B:List UInt8),(∀x∈l,x.name.length<65536)->l.foldl qj B=B++(l.map oM).flatten
 |[],B,_=>by simp
 |x::r,B,h=>by rw[cH,Rb _ _ (h x az),uZ r _ (fun y hy=>h y (ao _ hy)),aE,db,aw]
theorem uY:∀(l:List Rul)(B:List UInt8),(∀x∈l,x.text.length<65536)->l.foldl nG B=B++(l.map ru).flatten
 |[],B,_=>by simp
 |x::r,B,h=>by rw[cH,PA _ _ (h x az),uY r _ (fun y hy=>h y (ao _ hy)),aE,db,aw]
structure xdk(x:Ent):Prop where
 r0:0<=x.role
 r1:x.role<256
 n:x.name.length<=12
 v0:0<=x.ver
 v1:x.ver<4294967296
 d:x.dig.length=32
structure xdj(x:Rul):Prop where
 r0:0<=x.kind
 r1:x.kind<256
 n:x.text.length<=32
 v0:0<=x.lo
 v1:x.lo<4294967296
 w0:0<=x.hi
 w1:x.hi<4294967296
theorem pp1:((256^1:Nat):Int)=256:=by decide
theorem pp4:((256^4:Nat):Int)=4294967296:=by decide
theorem pp6:((256^6:Nat):Int)=281474976710656:=by decide
theorem QP{B P S:List UInt8}{x:Ent}(hx:xdk x)(h:B=P++(oM x++S)):oL B ⟨P.length,0⟩=(x,⟨(P++oM x).length,0⟩):=by unfold oM at h;have a1:=kh (B:=B) (P:=P) (X:=bu 1 x.role) (S:=(bu 2 (x.name.length:Int)++x.name)++(bu 4 x.ver++(x.dig++S))) 1 (by rw[h];simp only[aw]) (cU ..);have a2:=Ou (B:=B) (P:=P++bu 1 x.role) (X:=x.name) (S:=bu 4 x.ver++(x.dig++S)) 12 (by rw[h];simp only[aw]) hx.n (by have:=hx.n;omega);have a3:=kh (B:=B) (P:=P++bu 1 x.role++(bu 2 (x.name.length:Int)++x.name)) (X:=bu 4 x.ver) (S:=x.dig++S) 4 (by rw[h];simp only[aw]) (cU ..);have a4:=xdx (B:=B) (P:=P++bu 1 x.role++(bu 2 (x.name.length:Int)++x.name)++bu 4 x.ver) (X:=x.dig) (S:=S) 32 (by rw[h];simp only[aw]) hx.d;rw[jv 1 x.role hx.r0 (by rw[pp1];exact hx.r1) (by have:=hx.r1;omega)]at a1;rw[jv 4 x.ver hx.v0 (by rw[pp4];exact hx.v1) (by have:=hx.v1;omega)]at a3;unfold oL;rw[a1];simp only;rw[a2];simp only;rw[a3];simp only;rw[a4];unfold oM;simp only[aw]
theorem Py{B P S:List UInt8}{x:Rul}(hx:xdj x)(h:B=P++(ru x++S)):od B ⟨P.length,0⟩=(x,⟨(P++ru x).length,0⟩):=by unfold ru at h;have a1:=kh (B:=B) (P:=P) (X:=bu 1 x.kind) (S:=(bu 2 (x.text.length:Int)++x.text)++(bu 4 x.lo++(bu 4 x.hi++S))) 1 (by rw[h];simp only[aw]) (cU ..);have a2:=Ou (B:=B) (P:=P++bu 1 x.kind) (X:=x.text) (S:=bu 4 x.lo++(bu 4 x.hi++S)) 32 (by rw[h];simp only[aw]) hx.n (by have:=hx.n;omega);have a3:=kh (B:=B) (P:=P++bu 1 x.kind++(bu 2 (x.text.length:Int)++x.text)) (X:=bu 4 x.lo) (S:=bu 4 x.hi++S) 4 (by rw[h];simp only[aw]) (cU ..);have a4:=kh (B:=B) (P:=P++bu 1 x.kind++(bu 2 (x.text.length:Int)++x.text)++bu 4 x.lo) (X:=bu 4 x.hi) (S:=S) 4 (by rw[h];simp only[aw]) (cU ..);rw[jv 1 x.kind hx.r0 (by rw[pp1];exact hx.r1) (by have:=hx.r1;omega)]at a1;rw[jv 4 x.lo hx.v0 (by rw[pp4];exact hx.v1) (by have:=hx.v1;omega)]at a3;rw[jv 4 x.hi hx.w0 (by rw[pp4];exact hx.w1) (by have:=hx.w1;omega)]at a4;unfold od;rw[a1];simp only;rw[a2];simp only;rw[a3];simp only;rw[a4];unfold ru;simp only[aw]
theorem vj{B:List UInt8}:∀(l:List Ent)(es:List Ent)(P S:List UInt8),(∀x∈l,xdk x)->B=P++((l.map oM).flatten++S)->fy B l.length es ⟨P.length,0⟩=(es++l,⟨(P++(l.map oM).flatten).length,0⟩)
 |[],es,P,S,_,_=>by simp[fy]
 |x::r,es,P,S,hx,h=>by have a:=QP (B:=B) (P:=P) (S:=(r.map oM).flatten++S) (hx x az) (by rw[h,aE,db];simp only[aw]);rw[ax];unfold fy;rw[if_pos rfl,a];simp only;rw[vj r (es++ [x]) (P++oM x) S (fun y hy=>hx y (ao _ hy)) (by rw[h,aE,db];simp only[aw]),aE,db];simp only[aw,bv,aQ]
theorem uw{B:List UInt8}:∀(l:List Rul)(es:List Rul)(P S:List UInt8),(∀x∈l,xdj x)->B=P++((l.map ru).flatten++S)->fv B l.length es ⟨P.length,0⟩=(es++l,⟨(P++(l.map ru).flatten).length,0⟩)
 |[],es,P,S,_,_=>by simp[fv]
 |x::r,es,P,S,hx,h=>by have a:=Py (B:=B) (P:=P) (S:=(r.map ru).flatten++S) (hx x az) (by rw[h,aE,db];simp only[aw]);rw[ax];unfold fv;rw[if_pos rfl,a];simp only;rw[uw r (es++ [x]) (P++ru x) S (fun y hy=>hx y (ao _ hy)) (by rw[h,aE,db];simp only[aw]),aE,db];simp only[aw,bv,aQ]
def hV(B:List UInt8):List UInt8×Rs:=bR B 12 (uR B 1 ⟨0,0⟩).2
def hE(B:List UInt8):Int×Rs:=uR B 4 (hV B).2
def hF(B:List UInt8):Int×Rs:=uR B 4 (hE B).2
def hM(B:List UInt8):Int×Rs:=uR B 6 (hF B).2
def hT(B:List UInt8):Int×Rs:=uR B 6 (hM B).2
def hN(B:List UInt8):Int×Rs:=uR B 1 (hT B).2
def hL(B:List UInt8):List Ent×Rs:=fy B (hN B).1.toNat [] (hN B).2
def hK(B:List UInt8):Int×Rs:=uR B 1 (hL B).2
def hR(B:List UInt8):List Rul×Rs:=fv B (hK B).1.toNat [] (hK B).2
def ss(B:List UInt8):Man:=⟨(hV B).1,(hE B).1,(hF B).1,(hM B).1,(hT B).1,(hL B).1,(hR B).1⟩
def okP(B:List UInt8):Prop:=(uR B 1 ⟨0,0⟩).1=21/\eR B (hR B).2=0/\gJ (ss B)=0
instance (B:List UInt8):Decidable (okP B):=by unfold okP;infer_instance
def wW(B:List UInt8):Option Man:=if okP B then some (ss B)else none
theorem xcT{k:Int}{t:List UInt8}{lo hi:Int}(h:chk k t lo hi=0):1<=k/\k<=4/\t.length<=32/\0<=lo/\lo<=1000000000/\0<=hi/\hi<=1000000000:=by
 unfold chk at h
 repeat' split at h
 all_goals first|(exfalso;omega)|skip
 ·refine⟨by omega,by omega,by omega,by omega,by omega,by omega,by omega⟩
 ·rename_i ht
  refine⟨by omega,by omega,by rw[ht];simp,by omega,by omega,by omega,by omega⟩
 ·refine⟨by omega,by omega,by omega,by omega,by omega,by omega,by omega⟩
theorem ut:∀{l:List Rul},ko l=0->∀r∈l,rU r=0
 |[],_,r,hr=>by cases hr
 |x::t,h,r,hr=>by
  unfold ko at h
  by_cases hx:rU x=0
  ·rw[if_pos hx]at h
   rcases am.1 hr with rfl|hr
   ·exact hx
   ·exact ut h r hr
  ·rw[if_neg hx]at h;exact absurd h hx
theorem FJ{m:Man}(h:gJ m=0):∀x∈m.ents,xdk x:=by intro x hx;obtain⟨a1,a2,⟨a3,a4,a5⟩,a6,a7⟩:=sr h x hx;exact⟨by omega,by omega,(iK a7).2,a3,by omega,a6⟩
theorem FH{m:Man}(h:gJ m=0):∀x∈m.ruls,xdj x:=by intro x hx;obtain⟨a1,a2,a3,a4,a5,a6,a7⟩:=xcT (ut (su h).2.1 x hx);exact⟨by omega,by omega,a3,a4,by omega,a6,by omega⟩
theorem oP{m:Man}(h:gJ m=0):wW (eB m)=some m:=by
 obtain⟨-, -,hn,hr,hv,f0,f1,f2,f3,f4,f5⟩:=su h;have hE':=FJ h;have hR':=FH h;have hvl:=(iK hv).2
 have key:eB m=bu 1 21++((bu 2 (m.vendor.length:Int)++m.vendor)++(bu 4 m.ver++(bu 4 m.flr++(bu 6 m.frm++(bu 6 m.til++(bu 1 (m.ents.length:Int)++((m.ents.map oM).flatten++(bu 1 (m.ruls.length:Int)++((m.ruls.map ru).flatten++ []))))))))):=by unfold eB hdM;rw[if_pos h,uZ _ _ (fun x hx=>by have:=(hE' x hx).n;omega),uY _ _ (fun x hx=>by have:=(hR' x hx).n;omega),sN _ _ (by omega)];simp only[aw,aQ,bC]
 generalize eB m=B at*;have a0:=kh (B:=B) (P:=[]) 1 key (cU 1 21);have a1:=Ou (B:=B) (P:=bu 1 21) 12 key hvl (by omega);have a2:=kh (B:=B) (P:=bu 1 21++(bu 2 (m.vendor.length:Int)++m.vendor)) 4 (by rw[key];simp only[aw];rfl) (cU 4 m.ver);have a3:=kh (B:=B) (P:=bu 1 21++(bu 2 (m.vendor.length:Int)++m.vendor)++bu 4 m.ver) 4 (by rw[key];simp only[aw];rfl) (cU 4 m.flr);have a4:=kh (B:=B) (P:=bu 1 21++(bu 2 (m.vendor.length:Int)++m.vendor)++bu 4 m.ver++bu 4 m.flr) 6 (by rw[key];simp only[aw];rfl) (cU 6 m.frm);have a5:=kh (B:=B) (P:=bu 1 21++(bu 2 (m.vendor.length:Int)++m.vendor)++bu 4 m.ver++bu 4 m.flr++bu 6 m.frm) 6 (by rw[key];simp only[aw];rfl) (cU 6 m.til);have a6:=kh (B:=B) (P:=bu 1 21++(bu 2 (m.vendor.length:Int)++m.vendor)++bu 4 m.ver++bu 4 m.flr++bu 6 m.frm++bu 6 m.til) 1 (by rw[key];simp only[aw];rfl) (cU 1 (m.ents.length:Int));have a7:=vj (B:=B) m.ents [] (bu 1 21++(bu 2 (m.vendor.length:Int)++m.vendor)++bu 4 m.ver++bu 4 m.flr++bu 6 m.frm++bu 6 m.til++bu 1 (m.ents.length:Int)) _ hE' (by rw[key];simp only[aw];rfl);have a8:=kh (B:=B) (P:=bu 1 21++(bu 2 (m.vendor.length:Int)++m.vendor)++bu 4 m.ver++bu 4 m.flr++bu 6 m.frm++bu 6 m.til++bu 1 (m.ents.length:Int)++(m.ents.map oM).flatten) 1 (by rw[key];simp only[aw];rfl) (cU 1 (m.ruls.length:Int));have a9:=uw (B:=B) m.ruls [] (bu 1 21++(bu 2 (m.vendor.length:Int)++m.vendor)++bu 4 m.ver++bu 4 m.flr++bu 6 m.frm++bu 6 m.til++bu 1 (m.ents.length:Int)++(m.ents.map oM).flatten++bu 1 (m.ruls.length:Int)) [] hR' (by rw[key];simp only[aw])
 rw[jv 1 21 (by omega) (by rw[pp1];omega) (by omega)]at a0;rw[jv 4 m.ver (by omega) (by rw[pp4];omega) (by omega)]at a2;rw[jv 4 m.flr (by omega) (by rw[pp4];omega) (by omega)]at a3;rw[jv 6 m.frm (by omega) (by rw[pp6];omega) (by omega)]at a4;rw[jv 6 m.til (by omega) (by rw[pp6];omega) (by omega)]at a5;rw[jv 1 (m.ents.length:Int) (by omega) (by rw[pp1];omega) (by omega)]at a6;rw[jv 1 (m.ruls.length:Int) (by omega) (by rw[pp1];omega) (by omega)]at a8;rw[aV,aQ]at a0;have q1:=(congrArg (fun z:Int×Rs=>bR B 12 z.2) a0).trans a1;change hV B=_ at q1;have q2:=(congrArg (fun z:List UInt8×Rs=>uR B 4 z.2) q1).trans a2;change hE B=_ at q2;have q3:=(congrArg (fun z:Int×Rs=>uR B 4 z.2) q2).trans a3;change hF B=_ at q3;have q4:=(congrArg (fun z:Int×Rs=>uR B 6 z.2) q3).trans a4;change hM B=_ at q4;have q5:=(congrArg (fun z:Int×Rs=>uR B 6 z.2) q4).trans a5;change hT B=_ at q5;have q6:=(congrArg (fun z:Int×Rs=>uR B 1 z.2) q5).trans a6;change hN B=_ at q6;have q7:=(congrArg (fun z:Int×Rs=>fy B z.1.toNat [] z.2) q6).trans a7;change hL B=_ at q7;have q8:=(congrArg (fun z:List Ent×Rs=>uR B 1 z.2) q7).trans a8;change hK B=_ at q8;have q9:=(congrArg (fun z:Int×Rs=>fv B z.1.toNat [] z.2) q8).trans a9;change hR B=_ at q9
 have hm:ss B=m:=by unfold ss;rw[q1,q2,q3,q4,q5,q7,q9];rfl
 have hend:eR B (hR B).2=0:=by
  rw[q9];unfold eR;rw[if_pos rfl,if_neg];simp only
  conv=>rhs;rw[key]
  simp only[aw,bC];omega
 unfold wW;rw[if_pos ⟨by rw[a0],hend,by rw[hm];exact h⟩,hm]
theorem QS{m n:Man}(hm:gJ m=0)(hn:gJ n=0)(h:eB m=eB n):m=n:=by have:=oP hm;rw[h,oP hn]at this;exact(aq.inj this).symm
theorem yE(B:List UInt8)(m:Nat)(s:Rs):(bR B m s).1.length<=m:=by
 unfold bR;split
 ·split
  ·split
   ·split
    ·rename_i h _;show(dr _ _).length<=_;rw[av];omega
    ·exact bM _
   ·exact bM _
  ·exact bM _
 ·exact bM _
theorem ZI(B:List UInt8)(m:Nat)(s:Rs):(wR B m s).1.length<=m:=by
 unfold wR;split
 ·split
  ·show(dr _ _).length<=_;rw[av];omega
  ·exact bM _
 ·exact bM _
theorem te(B:List UInt8)(s:Rs):0<=(uR B 1 s).1/\(uR B 1 s).1<256:=by
 unfold uR;split
 ·split
  ·have h:=Om ((B.drop s.a).take 1)
   have h2:((B.drop s.a).take 1).length<=1:=by rw[av];omega
   have h3:256^((B.drop s.a).take 1).length<=256^1:=Nat.pow_le_pow_right (by decide) h2;have h4:(256:Nat)^1=256:=by decide
   constructor
   ·exact Int.natCast_nonneg _
   ·show((nB _:Nat):Int)<256;omega
  ·exact⟨Int.le_refl _,by show(0:Int)<256;decide⟩
 ·exact⟨Int.le_refl _,by show(0:Int)<256;decide⟩
theorem vi{B:List UInt8}:∀{n:Nat}{es:List Ent}{s:Rs},(∀x∈es,x.name.length<=12/\x.dig.length<=32)->∀x∈(fy B n es s).1,x.name.length<=12/\x.dig.length<=32
 |0,_,_,h=>h
 |n+1,es,s,h=>by
  unfold fy;split
  ·refine vi fun x hx=> ?_
   rw[ak,aN]at hx;rcases hx with hx|rfl
   ·exact h x hx
   ·exact⟨yE _ _ _,ZI _ _ _⟩
  ·exact h
theorem uv{B:List UInt8}:∀{n:Nat}{es:List Rul}{s:Rs},(∀x∈es,x.text.length<=32)->∀x∈(fv B n es s).1,x.text.length<=32
 |0,_,_,h=>h
 |n+1,es,s,h=>by
  unfold fv;split
  ·refine uv fun x hx=> ?_
   rw[ak,aN]at hx;rcases hx with hx|rfl
   ·exact h x hx
   ·exact yE _ _ _
  ·exact h
theorem Ch(B:List UInt8):hC (ss B):=by
 have h1:=rq (B:=B) (n:=(hN B).1.toNat) (es:=[]) (s:=(hN B).2);have h2:=qM (B:=B) (n:=(hK B).1.toNat) (es:=[]) (s:=(hK B).2);have h3:=te B (hT B).2;have h4:=te B (hL B).2;change 0<=(hN B).1/\(hN B).1<256 at h3;change 0<=(hK B).1/\(hK B).1<256 at h4;rw[aV]at h1 h2
 exact⟨by have:=yE B 12 (uR B 1 ⟨0,0⟩).2;show(hV B).1.length<=_;unfold hV;omega,by show(hL B).1.length<=_;unfold hL;omega,by show(hR B).1.length<=_;unfold hR;omega,
  fun x hx=>by have:=vi (B:=B) (n:=(hN B).1.toNat) (es:=[]) (s:=(hN B).2) (fun x hx=>by cases hx) x hx;omega,
  fun x hx=>by have:=uv (B:=B) (n:=(hK B).1.toNat) (es:=[]) (s:=(hK B).2) (fun x hx=>by cases hx) x hx;omega⟩
def mnz:Man:=⟨[],0,0,0,0,[],[]⟩
def xc5(B:List UInt8):Man:=match wW B with|some m=>m|none=>mnz
def xc6(B:List UInt8):Int:=match wW B with|some _=>0|none=>30
theorem xjg(B:List UInt8)(hB:B.length<=1000000000)(v:List UInt8)(ve fl fr ti:Int)(es:List Ent)(s:Rs)(hs:gr B s)(t:Tok)(tk:List Nat)(t1:Nat)
 (ht:t= .clip/\tk=[]/\es=[]\/t= .id 160/\tk=[160]) (h1:t1=34060\/t1=55060\/t1=39060):
 run T (.ops pU) ⟨[(2,.ptr 102 0),(4,.ptr 12100 0),(5,.ptr 105 0)],[(102,zR),(105,mR v ve fl fr ti es t [] .clip),(12100,rdO B t1 s)],tk++ [t1]⟩=
  some (.n,⟨[(2,.ptr 102 0),(4,.ptr 12100 0),(5,.ptr 105 0),(8,.int .i64 (uR B 1 s).1)],[(102,zR),(105,mR v ve fl fr ti es t [] .clip),(12100,rdO B 64060 (uR B 1 s).2)],tk++ [64060]⟩):=by
 have g:=f51 B hB 1 (by omega) (by omega) s hs;rw[show((1:Nat):Int)=1 from rfl]at g;simp only[zR,mR,rdO]at g ⊢;rcases ht with⟨rfl,rfl,rfl⟩|⟨rfl,rfl⟩<;>rcases h1 with rfl|rfl|rfl<;>simp only[go_sem,Q0,Q1,Q2,Q3,Q4,Q5,Q6,Q7,Q8,Q9,Qa,Qb,Qc,Qd,Qe,Qf,Qg,Qh,Qi,Qj,Qk,reduceCtorEq,reduceIte,g,xk]
theorem xjf(B:List UInt8)(hB:B.length<=1000000000)(v:List UInt8)(ve fl fr ti:Int)(es:List Ent)(s:Rs)(hs:gr B s)(t:Tok)(tk:List Nat)(rs:List Rul)(u:Tok)(uk:List Nat)(u1:Nat)
 (hm:hC ⟨v,ve,fl,fr,ti,es,rs⟩)
 (ht:t= .clip/\tk=[]/\es=[]\/t= .id 160/\tk=[160]) (hu:u= .clip/\uk=[]/\rs=[]\/u= .id 190/\uk=[190]) (h1:u1=64060\/u1=85060\/u1=69060):
 run T (.ops pT) ⟨[(2,.ptr 102 0),(4,.ptr 12100 0),(5,.ptr 105 0)],[(102,zR),(105,mR v ve fl fr ti es t rs u),(12100,rdO B u1 s)],tk++(uk++ [u1])⟩=
  some (.n,⟨[(2,.ptr 102 0),(5,.ptr 105 0),(99,.bool (!decide (eR B s=0/\gJ ⟨v,ve,fl,fr,ti,es,rs⟩=0)))],[(102,zR),(105,mR v ve fl fr ti es t rs u),(12100,rdO B 94060 s)],tk++(uk++ [94060])⟩):=by
 have g:=f55 B hB s hs;have gm:=f13 ⟨v,ve,fl,fr,ti,es,rs⟩ hm;generalize gJ ⟨v,ve,fl,fr,ti,es,rs⟩=q at*;generalize eR B s=p at*
 by_cases hp:p=0
 ·subst hp
  by_cases hq:q=0
  ·subst hq
   simp only[zR,mR,rdO,Man.sv]at g gm ⊢;rcases ht with⟨rfl,rfl,rfl⟩|⟨rfl,rfl⟩<;>rcases hu with⟨rfl,rfl,rfl⟩|⟨rfl,rfl⟩<;>rcases h1 with rfl|rfl|rfl<;>simp only[go_sem,Q0,Q1,Q2,Q3,Q4,Q5,Q6,Q7,Q8,Q9,Qa,Qb,Qc,Qd,Qe,Qf,Qg,Qh,Qi,Qj,Qk,reduceCtorEq,reduceIte,g,xde,gm,o3]
  ·simp only[zR,mR,rdO,Man.sv]at g gm ⊢
   rcases ht with⟨rfl,rfl,rfl⟩|⟨rfl,rfl⟩<;>rcases hu with⟨rfl,rfl,rfl⟩|⟨rfl,rfl⟩<;>rcases h1 with rfl|rfl|rfl<;>simp only[go_sem,Q0,Q1,Q2,Q3,Q4,Q5,Q6,Q7,Q8,Q9,Qa,Qb,Qc,Qd,Qe,Qf,Qg,Qh,Qi,Qj,Qk,reduceCtorEq,reduceIte,g,xde,gm,o3,hq]
 ·simp only[zR,mR,rdO,Man.sv]at g gm ⊢
  rcases ht with⟨rfl,rfl,rfl⟩|⟨rfl,rfl⟩<;>rcases hu with⟨rfl,rfl,rfl⟩|⟨rfl,rfl⟩<;>rcases h1 with rfl|rfl|rfl<;>simp only[go_sem,Q0,Q1,Q2,Q3,Q4,Q5,Q6,Q7,Q8,Q9,Qa,Qb,Qc,Qd,Qe,Qf,Qg,Qh,Qi,Qj,Qk,reduceCtorEq,reduceIte,g,xde,hp]
attribute [-go_sem] pU pT
theorem f17(B:List UInt8)(hB:B.length<=1000000000):call T 17 [.byt B .no] [] 0=some ⟨.tup [.agg (xc5 B).sv,.int .i64 (xc6 B)],[],[]⟩:=by
 have g0:=f50 B hB;have k0:gr B ⟨0,0⟩:=⟨bM _⟩;have g1:=f51 B hB 1 (by omega) (by omega) ⟨0,0⟩ k0;have k1:=ii (n:=1) k0;have g2:=f52 B hB 12 (by omega) _ k1;have k2:gr B (hV B).2:=xc (n:=12) k1;have g3:=f51 B hB 4 (by omega) (by omega) _ k2;have k3:gr B (hE B).2:=ii (n:=4) k2;have g4:=f51 B hB 4 (by omega) (by omega) _ k3;have k4:gr B (hF B).2:=ii (n:=4) k3;have g5:=f51 B hB 6 (by omega) (by omega) _ k4;have k5:gr B (hM B).2:=ii (n:=6) k4;have g6:=f51 B hB 6 (by omega) (by omega) _ k5;have k6:gr B (hT B).2:=ii (n:=6) k5;have g7:=f51 B hB 1 (by omega) (by omega) _ k6;have k7:gr B (hN B).2:=ii (n:=1) k6;have n1:=te B (hT B).2;have n2:=te B (hL B).2;change 0<=(hN B).1/\(hN B).1<256 at n1;change 0<=(hK B).1/\(hK B).1<256 at n2;have nn:(hN B).1=(((hN B).1.toNat:Nat):Int):=by omega
 have nk:(hK B).1=(((hK B).1.toNat:Nat):Int):=by omega
 obtain⟨t',tk',t1,q1,q2,q3⟩:=xjA B hB (hV B).1 (hE B).1 (hF B).1 (hM B).1 (hT B).1 (hN B).1.toNat [] (hN B).2 .clip [] 34060 (by rw[aV];omega) k7 (.inl ⟨rfl,rfl,rfl⟩) (.inl rfl);have k8:gr B (hL B).2:=vh k7;have g8:=f51 B hB 1 (by omega) (by omega) _ k8;have k9:gr B (hK B).2:=ii (n:=1) k8;have gm:=f13 (ss B) (Ch B);change (t'= .clip/\tk'=[]/\(hL B).1=[]\/t'= .id 160/\tk'=[160])at q1;obtain⟨u',uk',u1,r1,r2,r3⟩:=xjz B hB (hV B).1 (hE B).1 (hF B).1 (hM B).1 (hT B).1 (hL B).1 t' tk' q1 (hK B).1.toNat [] (hK B).2 .clip [] 64060 (by rw[aV];omega) k9 (.inl ⟨rfl,rfl,rfl⟩) (.inl rfl);have k10:gr B (hR B).2:=uu k9;have g9:=f55 B hB _ k10;change _/\_/\(hR B).1=[]\/_ at r1;rw[<-nn]at q3;rw[<-nk]at r3;change run T _ _=some (Ex.x 0,⟨_,[_,(105,mR _ _ _ _ _ (hL B).1 t' [] .clip),(12100,rdO B t1 (hL B).2)],_⟩)at q3;change run T _ _=some (Ex.x 2,⟨_,[_,(105,mR _ _ _ _ _ (hL B).1 t' (hR B).1 u'),(12100,rdO B u1 (hR B).2)],_⟩)at r3;change call T 51 _ _ _=some ⟨.int .i64 (hE B).1,[(0,rdO B 60 (hE B).2)],[60]⟩at g3;change call T 51 _ _ _=some ⟨.int .i64 (hF B).1,[(0,rdO B 60 (hF B).2)],[60]⟩at g4;change call T 51 _ _ _=some ⟨.int .i64 (hM B).1,[(0,rdO B 60 (hM B).2)],[60]⟩at g5;change call T 51 _ _ _=some ⟨.int .i64 (hT B).1,[(0,rdO B 60 (hT B).2)],[60]⟩at g6;change call T 51 _ _ _=some ⟨.int .i64 (hN B).1,[(0,rdO B 60 (hN B).2)],[60]⟩at g7;change call T 51 _ _ _=some ⟨.int .i64 (hK B).1,[(0,rdO B 60 (hK B).2)],[60]⟩at g8;change call T 52 _ _ _=some ⟨.byt (hV B).1 .no,[(0,rdO B 60 (hV B).2)],[60]⟩at g2
 have o1:=xjg B hB (hV B).1 (hE B).1 (hF B).1 (hM B).1 (hT B).1 (hL B).1 (hL B).2 k8 t' tk' t1 q1 q2;have o2:=xjf B hB (hV B).1 (hE B).1 (hF B).1 (hM B).1 (hT B).1 (hL B).1 (hR B).2 k10 t' tk' (hR B).1 u' uk' u1 (Ch B) q1 r1 r2;change run T _ _=some (Ex.n,⟨[_,_,_,(8,SV.int .i64 (hK B).1)],[_,_,(12100,rdO B 64060 (hK B).2)],_⟩)at o1;change run T _ _=some (Ex.n,⟨[_,_,(99,SV.bool (!decide (eR B (hR B).2=0/\gJ (ss B)=0)))],_,_⟩)at o2
 have hokd:wW B=if(uR B 1 ⟨0,0⟩).1=21/\eR B (hR B).2=0/\gJ (ss B)=0 then some (ss B)else none:=by unfold wW okP;rfl
 have hsv:(ss B).sv=[.str (hV B).1,.int .i64 (hE B).1,.int .i64 (hF B).1,.int .i64 (hM B).1,.int .i64 (hT B).1,.lst 4 (bX (hL B).1) .no,.lst 4 (dZ (hR B).1) .no]:=rfl;have hze:bX []=[]:=rfl;have hzr:dZ []=[]:=rfl;rw[show((1:Nat):Int)=1 from rfl]at g1 g7;rw[show((12:Nat):Int)=12 from rfl]at g2;rw[show((4:Nat):Int)=4 from rfl]at g3 g4;rw[show((6:Nat):Int)=6 from rfl]at g5 g6;unfold xc5 xc6;rw[hokd];rw[an xlu];simp only[aQ]at q3 r3
 by_cases ht:(uR B 1 ⟨0,0⟩).1=21
 ·by_cases hb:eR B (hR B).2=0/\gJ (ss B)=0
  ·rw[if_pos ⟨ht,hb⟩]
   rw[decide_eq_true hb]at o2;simp only[hsv];simp only[zR,mR,rdO,hze,hzr,aC]at g0 g1 g2 g3 g4 g5 g6 g7 q3 r3 o1 o2;rw[ht]at g1;simp only[go_sem,Q0,Q1,Q2,Q3,Q4,Q5,Q6,Q7,Q8,Q9,Qa,Qb,Qc,Qd,Qe,Qf,Qg,Qh,Qi,Qj,Qk,reduceCtorEq,reduceIte,g0,xdf,g1,xk,g2,Er,g3,g4,g5,g6,g7,q3,o1,r3,o2]
  ·rw[if_neg (fun h=>hb h.2)]
   rw[decide_eq_false hb]at o2;simp only[zR,mR,rdO,hze,hzr,aC]at g0 g1 g2 g3 g4 g5 g6 g7 q3 r3 o1 o2;rw[ht]at g1;simp only[go_sem,Q0,Q1,Q2,Q3,Q4,Q5,Q6,Q7,Q8,Q9,Qa,Qb,Qc,Qd,Qe,Qf,Qg,Qh,Qi,Qj,Qk,reduceCtorEq,reduceIte,g0,xdf,g1,xk,g2,Er,g3,g4,g5,g6,g7,q3,o1,r3,o2];rcases q1 with⟨rfl,rfl,hz⟩|⟨rfl,rfl⟩<;>rcases r1 with⟨rfl,rfl,hz2⟩|⟨rfl,rfl⟩<;>simp only[go_sem,Q0,Q1,Q2,Q3,Q4,Q5,Q6,Q7,Q8,Q9,Qa,Qb,Qc,Qd,Qe,Qf,Qg,Qh,Qi,Qj,Qk,reduceCtorEq,reduceIte,hze,hzr,mnz,Man.sv]
 ·rw[if_neg (fun h=>ht h.1)]
  simp only[zR,mR,rdO,hze,hzr,aC]at g0 g1;simp only[go_sem,Q0,Q1,Q2,Q3,Q4,Q5,Q6,Q7,Q8,Q9,Qa,Qb,Qc,Qd,Qe,Qf,Qg,Qh,Qi,Qj,Qk,reduceCtorEq,reduceIte,g0,xdf,g1,xk,ht,mnz,Man.sv,hze,hzr]
attribute [go_sem] pU pT
end Go.Proofs.YtkcjdeofknkndaaGreatDoor
