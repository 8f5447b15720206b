/- What the functions come to. No condition. -/
import Derived.Test.YtkcjdeofknkndaaGreatDoorTeZ2
import Derived.Test.YtkcjdeofknkndaaGreatDoorTgZ2
open Go.IntKind renaming i64 -> af
open List renaming Pairwise -> eu, cons_append -> aH, drop -> jq, drop_eq_getElem_cons -> aV, drop_length -> bl, drop_zero -> bh, foldl_nil -> oa, getD_cons_succ -> cJ, getD_cons_zero -> cn, getD_eq_getElem?_getD -> aa, getElem?_eq_getElem -> ab, getElem_of_mem -> cm, length_append -> ac, length_cons -> aC, length_drop -> aK, length_nil -> az, length_singleton -> aS, length_take -> aj, map_append -> bU, map_cons -> aI, map_nil -> bi, map_take -> dU, mem_append -> al, mem_cons -> am, mem_cons_of_mem -> an, mem_cons_self -> aB, mem_of_mem_drop -> lv, mem_of_mem_take -> bF, mem_singleton -> ba, nil_append -> aF, take -> du, take_length -> bQ
open Nat renaming add_zero -> eE, le_refl -> aO, mul_one -> dt, zero_add -> cM, zero_le -> bW
set_option maxRecDepth 100000
set_option maxHeartbeats 16000000
set_option linter.unusedSimpArgs false
set_option linter.unusedVariables false
namespace Go.Proofs.YtkcjdeofknkndaaGreatDoor
open Go.Sy
open UInt8 renaming reduceLT -> Q0, reduceLE -> Q1
open Int renaming reduceToNat -> Q2, reduceLE -> Q3, reduceLT -> Q4, reduceEq -> Q5, reduceNe -> Q6, reduceNeg -> Q7, reduceAdd -> Q8, reduceSub -> Q9, reduceMul -> Qa
open Nat renaming reducePow -> Qb, reduceDiv -> Qc, reduceMod -> Qd, reduceAdd -> Qe, reduceSub -> Qf, reduceMul -> Qg, reduceLT -> Qh, reduceLeDiff -> Qi, reduceEqDiff -> Qj, reduceBEq -> Qk
theorem oQ(B:List UInt8)(hB:B.length<=1000)(j n:Nat)(hn:0<n):∃v j':Nat,v<n/\call T 71 [.ptr 0 0,.int .i64 (n:Int)] [bn B j] 0=some ⟨.int .i64 (v:Int),[(0,bn B j')],[]⟩:=
 ⟨dw B j n,cz B j,dN B j n hn,f71 B j n hn (by omega)⟩
structure EvS(e:Ev):Prop where
 d2:e.dg.length=2
 b:e.data.length<=1000
 d0:(e.dg.getD 0 []).length<=1000
 d1:(e.dg.getD 1 []).length<=1000
def fQ(x:Ent):List Ent->Nat
 |[]=>0
 |y::r=>if eM y x=true then fQ x r+1 else 0
theorem sI(x:Ent):∀l,fQ x l<=l.length
 |[]=>aO _
 |y::r=>by have:=sI x r;rw[fQ,aC];split<;>omega
def mO(v:List UInt8)(ve:Int)(l:List Ent)(tk:Tok):aG:= .rc [.str v,.int .i64 ve,.int .i64 0,.int .i64 0,.int .i64 1099511627776,.lst 4 (bf l) tk,.lst 4 [] .clip]
def mZ:aG:= .rc [.str [],.int .i64 0,.int .i64 0,.int .i64 0,.int .i64 0,.lst 4 [] .clip,.lst 4 [] .clip]
theorem xjA(I:List (List SV))(v:List UInt8)(ve i:Int)(l:List Ent)(x:Ent)(hl:l.length<=1000)(hd:∀y∈l,y.dig.length<=1000):∀(n k:Nat),l.length-k=n->k<=l.length->
 run T (.loop x5) ⟨[(2,.lst 4 I .no),(6,.ptr 106 0),(7,.ptr 107 0),(8,.int .i64 i),(10,.ptr 110 0),(11,.int .i64 k)],[(106,mZ),(107,mO v ve l .no),(110,.rc x.sv)],[]⟩=
  some (.x 2,⟨[(2,.lst 4 I .no),(6,.ptr 106 0),(7,.ptr 107 0),(8,.int .i64 i),(10,.ptr 110 0),(11,.int .i64 ((k+fQ x (l.drop k):Nat):Int))],[(106,mZ),(107,mO v ve l .no),(110,.rc x.sv)],[]⟩):=by
 intro n;induction n with
 |zero=>
  intro k h0 h1;have:k=l.length:=by omega
  subst this;have hv:=aQ l;rw[bl,ai];simp only[fQ,eE,mO,mZ];simp only[go_sem,Q0,Q1,Q2,Q3,Q4,Q5,Q6,Q7,Q8,Q9,Qa,Qb,Qc,Qd,Qe,Qf,Qg,Qh,Qi,Qj,Qk,reduceCtorEq,reduceIte,hv]
 |succ n ih=>
  intro k h0 h1;have hk:k<l.length:=by omega
  have e1:=cE k (by omega);have ih':=ih (k+1) (by omega) (by omega);have hv:=aQ l;have hg:=cS l k hk;have hdr:l.drop k=l.getD k en0::l.drop (k+1):=by rw[aV hk,aa,ab hk];rfl
  have hm:=cC l en0 k hk;have gb:=f46 (l.getD k en0) x (by have:=hd _ hm;omega);have hki:(k:Int)<(l.length:Int):=by omega
  rw[hdr,fQ,ai];generalize l.getD k en0=y at*;obtain⟨x1,x2,x3,x4⟩:=x;obtain⟨y1,y2,y3,y4⟩:=y
  by_cases hb:eM ⟨y1,y2,y3,y4⟩ ⟨x1,x2,x3,x4⟩=true
  ·rw[if_pos hb]
   rw[hb]at gb;rw[show k+(fQ ⟨x1,x2,x3,x4⟩ (l.drop (k+1))+1)=k+1+fQ ⟨x1,x2,x3,x4⟩ (l.drop (k+1))from by omega];simp only[mO,mZ,Ent.sv]at ih' gb hg ⊢;simp only[go_sem,Q0,Q1,Q2,Q3,Q4,Q5,Q6,Q7,Q8,Q9,Qa,Qb,Qc,Qd,Qe,Qf,Qg,Qh,Qi,Qj,Qk,reduceCtorEq,reduceIte,hk,hki,e1,hv,hg,gb,NS,ih']
  ·rw[if_neg hb]
   rw[eq_false_of_ne_true hb]at gb;rw[eE];simp only[mO,mZ,Ent.sv]at gb hg ⊢;simp only[go_sem,Q0,Q1,Q2,Q3,Q4,Q5,Q6,Q7,Q8,Q9,Qa,Qb,Qc,Qd,Qe,Qf,Qg,Qh,Qi,Qj,Qk,reduceCtorEq,reduceIte,hk,hki,e1,hv,hg,gb,NS]
theorem s5{x:Img}(h:fC x=0):¬(fT x).length=0:=by unfold fT;rw[if_pos h,dO];omega
def jn(y:Img):Ent:=⟨y.role,y.name,y.ver,sha (fT y)⟩
def sT(x:Ent)(l:List Ent):List Ent:=if fQ x l<l.length/\eM x (l.getD (fQ x l) en0)=false then l else l.take (fQ x l)++x::l.drop (fQ x l)
def nq(y:Img)(l:List Ent):List Ent:=if y.role=4 then l else sT (jn y) l
theorem s34(ch:List Img)(hc:∀i,i<ch.length->fC (ch.getD i im0)=0)(hcl:ch.length<=1000)(v:List UInt8)(ve:Int)(l:List Ent)(hl:l.length<=900)(hd:∀y∈l,y.dig.length<=1000)(i:Nat)(hi:i<ch.length):
 run T (.loop lQ) ⟨[(2,.lst 4 (ik ch) .no),(6,.ptr 106 0),(7,.ptr 107 0),(8,.int .i64 i)],[(106,mZ),(107,mO v ve l .no)],[]⟩=
 run T (.loop lQ) ⟨[(2,.lst 4 (ik ch) .no),(6,.ptr 106 0),(7,.ptr 107 0),(8,.int .i64 ((i+1:Nat):Int))],[(106,mZ),(107,mO v ve (nq (ch.getD i im0) l) .no)],[]⟩:=by
 have hii:(i:Int)<(ch.length:Int):=by omega
 have hv:=gB ch;have hg:=mf ch i hi;have h0:=hc i hi;have e1:=cE i (by omega);generalize ch.getD i im0=y at*;obtain⟨u1,u2⟩:=uf h0;have g1:=f95 y u1 u2;have hel:=mj y u1 u2;have g2:=f65 (fT y) (by omega);have hne:¬(fT y).length=0:=s5 h0;have hne':¬((fT y).length:Int)=0:=by omega
 have hsl:=jt (fT y);have hla:=xjA (ik ch) v ve i l (jn y) (by omega) hd l.length 0 (by omega) (bW _);rw[cM,bh,show((0:Nat):Int)=0 from rfl]at hla;have hpl:=sI (jn y) l;have nv:=aQ l;unfold nq sT;generalize hE:fT y=E at*
 by_cases h4:y.role=4
 ·rw[if_pos h4]
  obtain⟨y1,y2,y3,y4⟩:=y;simp only at h4;subst h4;rw[ai];simp only[mO,mZ,Img.sv]at g1 hg ⊢;simp only[go_sem,Q0,Q1,Q2,Q3,Q4,Q5,Q6,Q7,Q8,Q9,Qa,Qb,Qc,Qd,Qe,Qf,Qg,Qh,Qi,Qj,Qk,reduceCtorEq,reduceIte,hii,hi,hv,hg,g1,CC,hne,hne',e1]
 ·rw[if_neg h4]
  have hent:jn y=⟨y.role,y.name,y.ver,sha E⟩:=by rw[<-hE];rfl
  rw[hent]at hla hpl ⊢
  by_cases hk:fQ ⟨y.role,y.name,y.ver,sha E⟩ l<l.length
  ·have gb:=f46 ⟨y.role,y.name,y.ver,sha E⟩ (l.getD (fQ ⟨y.role,y.name,y.ver,sha E⟩ l) en0) (by show(sha E).length<=_;omega)
   have hg2:=cS l _ hk;have hki:(fQ ⟨y.role,y.name,y.ver,sha E⟩ l:Int)<(l.length:Int):=by omega
   have e2:bf (l.take (fQ ⟨y.role,y.name,y.ver,sha E⟩ l)++⟨y.role,y.name,y.ver,sha E⟩::l.drop (fQ ⟨y.role,y.name,y.ver,sha E⟩ l))=du (fQ ⟨y.role,y.name,y.ver,sha E⟩ l) (bf l)++(Ent.sv ⟨y.role,y.name,y.ver,sha E⟩::jq (fQ ⟨y.role,y.name,y.ver,sha E⟩ l) (bf l)):=by rw[bf,bf,bU,aI,dU,List.map_drop]
   generalize fQ ⟨y.role,y.name,y.ver,sha E⟩ l=k at*;generalize l.getD k en0=z at*;have hkl:k<=l.length:=by omega
   have tf:du l.length (bf l)=bf l:=by rw[<-nv,bQ]
   have vA:(du k (bf l)).length=k:=by rw[aj,nv];omega
   have vD:(jq k (bf l)).length=l.length-k:=by rw[aK,nv]
   have b1:k*56<=140737488355328:=by omega
   have b3:(k+1)*56<=140737488355328:=by omega
   have b2:(k+(1+(l.length-k)))*56<=140737488355328:=by omega
   have b4:(k+1+(l.length-k))*56<=140737488355328:=by omega
   obtain⟨y1,y2,y3,y4⟩:=y;obtain⟨z1,z2,z3,z4⟩:=z
   by_cases hb:eM ⟨y1,y2,y3,sha E⟩ ⟨z1,z2,z3,z4⟩=false
   ·rw[if_pos ⟨hk,hb⟩]
    simp only at gb;rw[hb]at gb;rw[ai];simp only[mO,mZ,Img.sv,Ent.sv]at g1 hg hla gb hg2 ⊢;simp only[go_sem,Q0,Q1,Q2,Q3,Q4,Q5,Q6,Q7,Q8,Q9,Qa,Qb,Qc,Qd,Qe,Qf,Qg,Qh,Qi,Qj,Qk,reduceCtorEq,reduceIte,hii,hi,hv,hg,g1,CC,hne,hne',h4,g2,Ew,hla,nv,hk,hki,hg2,gb,NS,e1]
   ·rw[if_neg (fun h=>hb h.2)]
    simp only at gb;rw[eq_true_of_ne_false hb]at gb;rw[ai];simp only[mO,e2];simp only[mO,mZ,Img.sv,Ent.sv]at g1 hg hla gb hg2 ⊢;simp only[go_sem,Q0,Q1,Q2,Q3,Q4,Q5,Q6,Q7,Q8,Q9,Qa,Qb,Qc,Qd,Qe,Qf,Qg,Qh,Qi,Qj,Qk,reduceCtorEq,reduceIte,hii,hi,hv,hg,g1,CC,hne,hne',h4,g2,Ew,hla,nv,hk,hki,hkl,hg2,gb,NS,e1,tf,vA,vD,b1,b2,b3,b4]
  ·have hki:¬(fQ ⟨y.role,y.name,y.ver,sha E⟩ l:Int)<(l.length:Int):=by omega
   rw[if_neg (fun h=>hk h.1)]
   have e2:bf (l.take (fQ ⟨y.role,y.name,y.ver,sha E⟩ l)++⟨y.role,y.name,y.ver,sha E⟩::l.drop (fQ ⟨y.role,y.name,y.ver,sha E⟩ l))=du (fQ ⟨y.role,y.name,y.ver,sha E⟩ l) (bf l)++(Ent.sv ⟨y.role,y.name,y.ver,sha E⟩::jq (fQ ⟨y.role,y.name,y.ver,sha E⟩ l) (bf l)):=by rw[bf,bf,bU,aI,dU,List.map_drop]
   generalize fQ ⟨y.role,y.name,y.ver,sha E⟩ l=k at*;have hkl:k<=l.length:=by omega
   have tf:du l.length (bf l)=bf l:=by rw[<-nv,bQ]
   have vA:(du k (bf l)).length=k:=by rw[aj,nv];omega
   have vD:(jq k (bf l)).length=l.length-k:=by rw[aK,nv]
   have b1:k*56<=140737488355328:=by omega
   have b3:(k+1)*56<=140737488355328:=by omega
   have b2:(k+(1+(l.length-k)))*56<=140737488355328:=by omega
   have b4:(k+1+(l.length-k))*56<=140737488355328:=by omega
   obtain⟨y1,y2,y3,y4⟩:=y;rw[ai];simp only[mO,e2];simp only[mO,mZ,Img.sv,Ent.sv]at g1 hg hla ⊢;simp only[go_sem,Q0,Q1,Q2,Q3,Q4,Q5,Q6,Q7,Q8,Q9,Qa,Qb,Qc,Qd,Qe,Qf,Qg,Qh,Qi,Qj,Qk,reduceCtorEq,reduceIte,hii,hi,hv,hg,g1,CC,hne,hne',h4,g2,Ew,hla,nv,hk,hki,hkl,e1,tf,vA,vD,b1,b2,b3,b4]
structure lX(l:List Ent)(n:Nat):Prop where
 len:l.length<=n
 e:∀x∈l,x.name.length<=1000000/\x.dig.length=32
theorem FH{x z:Ent}{l:List Ent}(h:z∈sT x l):z=x\/z∈l:=by
 unfold sT at h;split at h
 ·exact .inr h
 ·rw[al,am]at h
  rcases h with h|h|h
  ·exact .inr (bF h)
  ·exact .inl h
  ·exact .inr (lv h)
theorem FO(x:Ent)(l:List Ent):(sT x l).length<=l.length+1:=by
 unfold sT;have:=sI x l;split
 ·omega
 ·rw[ac,aC,aj,aK];omega
theorem FT{y:Img}(h:fC y=0):y.name.length<=1000000:=(uf h).1
theorem tF{y:Img}(hy:fC y=0){l:List Ent}{n:Nat}(h:lX l n):lX (nq y l) (n+1):=by
 unfold nq;split
 ·exact⟨Nat.le_succ_of_le h.len,h.e⟩
 ·refine⟨?_,fun x hx=> ?_⟩
  ·have:=FO (jn y) l
   have:=h.len;omega
  ·rcases FH hx with rfl|hx
   ·exact⟨FT hy,jt _⟩
   ·exact h.e x hx
def nl(l:List Img)(es:List Ent):List Ent:=l.foldl (fun a y=>nq y a) es
theorem Cu:∀(l:List Img)(es:List Ent)(n:Nat),(∀y∈l,fC y=0)->lX es n->lX (nl l es) (n+l.length)
 |[],es,n,_,h=>h
 |y::r,es,n,hl,h=>by have:=Cu r (nq y es) (n+1) (fun z hz=>hl z (an _ hz)) (tF (hl y aB) h);rw[aC,show n+(r.length+1)=n+1+r.length from by omega];exact this
theorem xi7(ch:List Img)(hcl:ch.length<=1000)(hi:0<ch.length)(h0:fC (ch.getD 0 im0)=0)(h1:(ch.getD 0 im0).role=1)(v:List UInt8)(ve:Int):
 run T (.loop lQ) ⟨[(2,.lst 4 (ik ch) .no),(6,.ptr 106 0),(7,.ptr 107 0),(8,.int .i64 0)],[(106,mZ),(107,mO v ve [] .clip)],[]⟩=
 run T (.loop lQ) ⟨[(2,.lst 4 (ik ch) .no),(6,.ptr 106 0),(7,.ptr 107 0),(8,.int .i64 1)],[(106,mZ),(107,mO v ve [jn (ch.getD 0 im0)] .no)],[]⟩:=by
 have hii:(0:Int)<(ch.length:Int):=by omega
 have hv:=gB ch;have hg:=mf ch 0 hi;have e1:af.wrap 1=1:=rfl;generalize ch.getD 0 im0=y at*;obtain⟨u1,u2⟩:=uf h0;have g1:=f95 y u1 u2;have hel:=mj y u1 u2;have g2:=f65 (fT y) (by omega);have hne:¬(fT y).length=0:=s5 h0;have hne':¬((fT y).length:Int)=0:=by omega
 have hent:jn y=⟨y.role,y.name,y.ver,sha (fT y)⟩:=rfl;rw[hent];generalize fT y=E at*;obtain⟨y1,y2,y3,y4⟩:=y;simp only at h1;subst h1;rw[ai];simp only[mO,mZ,Img.sv,bf,bi,aI,Ent.sv]at g1 hg ⊢;simp only[go_sem,Q0,Q1,Q2,Q3,Q4,Q5,Q6,Q7,Q8,Q9,Qa,Qb,Qc,Qd,Qe,Qf,Qg,Qh,Qi,Qj,Qk,reduceCtorEq,reduceIte,hii,hi,hv,hg,g1,CC,hne,hne',g2,Ew];rw[ai];simp only[go_sem,Q0,Q1,Q2,Q3,Q4,Q5,Q6,Q7,Q8,Q9,Qa,Qb,Qc,Qd,Qe,Qf,Qg,Qh,Qi,Qj,Qk,reduceCtorEq,reduceIte,hii,hi,hv,hg,g1,CC,hne,hne',g2,Ew,e1]
theorem l38(ch:List Img)(hc:∀i,i<ch.length->fC (ch.getD i im0)=0)(hcl:ch.length<=800)(v:List UInt8)(ve:Int):∀(n i:Nat)(es:List Ent),ch.length-i=n->i<=ch.length->lX es i->
 run T (.loop lQ) ⟨[(2,.lst 4 (ik ch) .no),(6,.ptr 106 0),(7,.ptr 107 0),(8,.int .i64 i)],[(106,mZ),(107,mO v ve es .no)],[]⟩=
 some (.x 0,⟨[(6,.ptr 106 0),(7,.ptr 107 0)],[(106,mZ),(107,mO v ve (nl (ch.drop i) es) .no)],[]⟩):=by
 intro n;induction n with
 |zero=>
  intro i es h0 h1 h2;have:i=ch.length:=by omega
  subst this;have hv:=gB ch;rw[bl,ai];simp only[mO,mZ,nl,oa];simp only[go_sem,Q0,Q1,Q2,Q3,Q4,Q5,Q6,Q7,Q8,Q9,Qa,Qb,Qc,Qd,Qe,Qf,Qg,Qh,Qi,Qj,Qk,reduceCtorEq,reduceIte,hv]
 |succ n ih=>
  intro i es h0 h1 h2;have hi:i<ch.length:=by omega
  have hd:ch.drop i=ch.getD i im0::ch.drop (i+1):=by rw[aV hi,aa,ab hi];rfl
  have hl:=h2.len;rw[s34 ch hc (by omega) v ve es (by omega) (fun y hy=>by have:=(h2.e y hy).2;omega) i hi,ih (i+1) _ (by omega) (by omega) (tF (hc i hi) h2),hd];rfl
theorem uE{ch:List Img}(hc:jA ch):(ch.getD 0 im0).role=1:=by
 obtain⟨i,hi,h1⟩:=hc.fw
 have key:∀k,k<ch.length->(ch.getD 0 im0).role<=(ch.getD k im0).role:=by
  intro k;induction k with
  |zero=>intro _;exact Int.le_refl _
  |succ k ih=>intro h;exact Int.le_trans (ih (by omega)) (hc.ord k h)
 have h2:=key i hi;have h3:=(mC (hc.ok 0 (by have:=hc.n1;omega))).1;omega
theorem f38(ch:List Img)(hc:jA ch)(v:List UInt8)(ve:Int):call T 38 [.str v,.int .i64 ve,.lst 4 (ik ch) .no] [] 0=some ⟨.agg [.str v,.int .i64 ve,.int .i64 0,.int .i64 0,.int .i64 1099511627776,.lst 4 (bf (nl ch [])) .no,.lst 4 [] .clip],[],[]⟩:=by
 have n1:=hc.n1;have n8:=hc.n8;have hf:=uE hc;have h0:=hc.ok 0 (by omega);have z:=xi7 ch (by omega) (by omega) h0 hf v ve
 have ha:nq (ch.getD 0 im0) []=[jn (ch.getD 0 im0)]:=by unfold nq sT;rw[if_neg (by rw[hf];decide),if_neg (by simp)];rfl
 have hb:lX [jn (ch.getD 0 im0)] 1:=by rw[<-ha];exact tF h0 ⟨aO _,fun x hx=>by cases hx⟩
 have l:=l38 ch hc.ok (by omega) v ve _ 1 [jn (ch.getD 0 im0)] rfl (by omega) hb
 have hd:nl (ch.drop 1) [jn (ch.getD 0 im0)]=nl ch []:=by
  have:ch=ch.getD 0 im0::ch.drop 1:=by
   rw[aa,ab (by omega:0<ch.length)];cases ch with
   |nil=>simp at n1
   |cons x r=>rfl
  conv=>rhs;rw[this]
  rw[<-ha];rfl
 rw[hd]at l;rw[show((1:Nat):Int)=1 from rfl]at l;rw[l]at z;rw[ao xlv];simp only[mO,mZ,bf,bi]at z;simp only[bf];simp only[go_sem,Q0,Q1,Q2,Q3,Q4,Q5,Q6,Q7,Q8,Q9,Qa,Qb,Qc,Qd,Qe,Qf,Qg,Qh,Qi,Qj,Qk,reduceCtorEq,reduceIte,z]
theorem Rx{ch:List Img}(hc:jA ch):lX (nl ch []) 8:=by
 have:=Cu ch [] 0 (fun y hy=>by obtain⟨i,hi,rfl⟩:=cm hy;have:=hc.ok i hi;rwa[aa,ab hi]at this) ⟨aO _,fun x hx=>by cases hx⟩
 have n8:=hc.n8;exact⟨by have:=this.len;omega,this.e⟩
section
open SortT
theorem xkw:call T 102 [] [] 0=some ⟨.agg [.str [97,99,109,101],.str [118,50],.str [120,45,121]],[],[]⟩:=by rw[ao xgF];simp only[go_sem,Q0,Q1,Q2,Q3,Q4,Q5,Q6,Q7,Q8,Q9,Qa,Qb,Qc,Qd,Qe,Qf,Qg,Qh,Qi,Qj,Qk,reduceCtorEq,reduceIte]
theorem xiZ(v:Nat)(h:v<3):∃n:List UInt8,(n.length<=10/\Pr.nameB n=true)/\(jq v [SV.str [97,99,109,101],.str [118,50],.str [120,45,121]]).getD 0 .undef= .str n:=by
 have:v=0\/v=1\/v=2:=by omega
 rcases this with rfl|rfl|rfl
 ·exact⟨[97,99,109,101],⟨by decide,by decide⟩,rfl⟩
 ·exact⟨[118,50],⟨by decide,by decide⟩,rfl⟩
 ·exact⟨[120,45,121],⟨by decide,by decide⟩,rfl⟩
theorem Db(l:List Rul)(x:Rul):bO l++ [x.sv]=bO (l++ [x]):=by rw[bO,bO,bU];rfl
theorem l41(B:List UInt8)(hB:B.length<=1000)(v:List UInt8)(m1 m2 m3 m4:Int)(es:List (List SV)):∀(n:Nat)(rs:List Rul)(j:Nat),rs.length+n<=8->(∀x∈rs,x.text.length<=20/\oA x=0)->∀(t:Tok)(tk:List Nat),(t= .clip/\tk=[]/\rs=[])\/(t= .id 160/\tk=[160])->
 ∃(rs':List Rul)(t':Tok)(tk':List Nat)(j':Nat),rs'.length<=8/\(∀x∈rs',x.text.length<=20/\oA x=0)/\((t'= .clip/\tk'=[]/\rs'=[])\/(t'= .id 160/\tk'=[160]))/\
 run T (.loop x0) ⟨[(0,.ptr 0 0),(4,.ptr 104 0),(6,.ptr 106 0),(7,.int .i64 (n:Int))],[(0,bn B j),(104,mZ),(106,.rc [.str v,.int .i64 m1,.int .i64 m2,.int .i64 m3,.int .i64 m4,.lst 4 es .no,.lst 4 (bO rs) t])],tk⟩=
 some (.x 0,⟨[(4,.ptr 104 0),(6,.ptr 106 0)],[(0,bn B j'),(104,mZ),(106,.rc [.str v,.int .i64 m1,.int .i64 m2,.int .i64 m3,.int .i64 m4,.lst 4 es .no,.lst 4 (bO rs') t'])],tk'⟩):=by
 intro n;induction n with
 |zero=>
  intro rs j h1 h2 t tk ht;refine⟨rs,t,tk,j,by omega,h2,ht, ?_⟩;rw[ai];rcases ht with⟨rfl,rfl,rfl⟩|⟨rfl,rfl⟩
  ·simp only[bn,mZ]
   simp only[go_sem,Q0,Q1,Q2,Q3,Q4,Q5,Q6,Q7,Q8,Q9,Qa,Qb,Qc,Qd,Qe,Qf,Qg,Qh,Qi,Qj,Qk,reduceCtorEq,reduceIte]
  ·simp only[bn,mZ]
   simp only[go_sem,Q0,Q1,Q2,Q3,Q4,Q5,Q6,Q7,Q8,Q9,Qa,Qb,Qc,Qd,Qe,Qf,Qg,Qh,Qi,Qj,Qk,reduceCtorEq,reduceIte]
 |succ n ih=>
  intro rs j h1 h2 t tk ht;obtain⟨k,t1,lo,hi,j1,hk,ht1,g⟩:=xkv B j hB;have hp:(0:Int)<((n+1:Nat):Int):=by omega
  have e1:af.wrap (((n+1:Nat):Int)-1)=(n:Int):=wZ (by omega)
  obtain⟨rs',t',tk',j',q1,q2,q3,q4⟩:=ih (rs++ [⟨k,t1,lo,hi⟩]) j1 (by rw[ac,aS];omega) (fun x hx=>by
   rw[al,ba]at hx;rcases hx with hx|rfl
   ·exact h2 x hx
   ·exact⟨ht1,hk⟩) (.id 160) [160] (.inr ⟨rfl,rfl⟩)
  refine⟨rs',t',tk',j',q1,q2,q3, ?_⟩;have hv:=bg rs;have b1:(rs.length+1)*40<=140737488355328:=by omega
  rw[<-Db]at q4;rw[ai];rcases ht with⟨rfl,rfl,rfl⟩|⟨rfl,rfl⟩
  ·have hnil:bO []=[]:=rfl
   simp only[bn,mZ,Rul.sv,hnil,aF]at g q4 ⊢;simp only[go_sem,Q0,Q1,Q2,Q3,Q4,Q5,Q6,Q7,Q8,Q9,Qa,Qb,Qc,Qd,Qe,Qf,Qg,Qh,Qi,Qj,Qk,reduceCtorEq,reduceIte,hp,g,YL,e1,q4]
  ·simp only[bn,mZ,Rul.sv]at g q4 ⊢
   simp only[go_sem,Q0,Q1,Q2,Q3,Q4,Q5,Q6,Q7,Q8,Q9,Qa,Qb,Qc,Qd,Qe,Qf,Qg,Qh,Qi,Qj,Qk,reduceCtorEq,reduceIte,hp,g,YL,hv,b1,e1,q4]
theorem sS(x:Ent):∀l:List Ent,sT x l=oW eM x l
 |[]=>by simp[sT,oW,fQ]
 |y::r=>by
  have ih:=sS x r;unfold oW;rw[<-ih];unfold sT
  by_cases h:eM y x=true
  ·have hp:fQ x (y::r)=fQ x r+1:=by rw[fQ,if_pos h]
   rw[hp,if_pos h,cJ,List.take_succ_cons,List.drop_succ_cons,aC]
   by_cases hc:fQ x r<r.length/\eM x (r.getD (fQ x r) en0)=false
   ·rw[if_pos hc,if_pos ⟨by omega,hc.2⟩]
   ·rw[if_neg hc,if_neg (fun k=>hc ⟨by omega,k.2⟩),aH]
  ·have hp:fQ x (y::r)=0:=by rw[fQ,if_neg h]
   rw[hp,if_neg h,cn,List.take_zero,bh,aF]
   by_cases hb:eM x y=true
   ·rw[if_pos hb,if_neg (fun k=>by rw[hb]at k;exact absurd k.2 (by simp))]
   ·rw[if_neg hb,if_pos ⟨by simp,by simpa using hb⟩]
theorem Rh{y:Img}(h:fC y=0)(h4:¬y.role=4):pt (jn y):=by obtain⟨a1,a2,a3,a4,a5,a6⟩:=mC h;exact⟨a1,by show y.role<=3;omega,a3,a4,jt _,a5⟩
theorem s6:∀(l:List Img)(es:List Ent),(∀y∈l,fC y=0)->(∀x∈es,pt x)->Str eM es->(∀x∈nl l es,pt x)/\Str eM (nl l es)
 |[],es,_,h1,h2=>⟨h1,h2⟩
 |y::r,es,h0,h1,h2=>by
  have hy:=h0 y aB
  have key:(∀x∈nq y es,pt x)/\Str eM (nq y es):=by
   unfold nq
   by_cases h4:y.role=4
   ·rw[if_pos h4];exact⟨h1,h2⟩
   ·rw[if_neg h4,sS]
    refine⟨fun x hx=> ?_,pG qE _ _ h2⟩;rcases (me qE _ _ _).1 hx with rfl|hx
    ·exact Rh hy h4
    ·exact h1 x hx
  exact s6 r (nq y es) (fun z hz=>h0 z (an _ hz)) key.1 key.2
theorem DN{ch:List Img}(hc:jA ch):∀y∈ch,fC y=0:=by intro y hy;obtain⟨i,hi,rfl⟩:=cm hy;have:=hc.ok i hi;rwa[aa,ab hi]at this
theorem xcR{ch:List Img}(hc:jA ch):(∀x∈nl ch [],pt x)/\Str eM (nl ch []):=s6 ch [] (DN hc) (fun x hx=>by cases hx) eu.nil
structure YN(m:Man):Prop where
 v:m.vendor.length<=100
 en:m.ents.length<=8
 rn:m.ruls.length<=8
 e:∀x∈m.ents,x.name.length<=1000000/\x.dig.length=32
 r:∀x∈m.ruls,x.text.length<=20
 ok:dn m=0
theorem YN.bd{m:Man}(h:YN m):cQ m:=⟨by have:=h.v;omega,by have:=h.en;omega,by have:=h.rn;omega,fun x hx=>by have:=h.e x hx;omega,fun x hx=>by have:=h.r x hx;omega⟩
theorem f41(B:List UInt8)(hB:B.length<=1000)(j:Nat)(ch:List Img)(hc:jA ch):∃(m:Man)(j':Nat),YN m/\call T 41 [.ptr 0 0,.lst 4 (ik ch) .no] [bn B j] 0=some ⟨.agg m.sv,[(0,bn B j')],[]⟩:=by
 have gv:=xkw;obtain⟨v1,j1,h1,g1⟩:=oQ B hB j 4 (by omega);rw[cz4]at g1;obtain⟨v2,j2,h2,g2⟩:=oQ B hB j1 3 (by omega);rw[cz3]at g2;obtain⟨nv,⟨hnv,hnB⟩,hve⟩:=xiZ v2 h2;have h2i:(v2:Int)<3:=by omega
 have gd:=f38 ch hc nv (v1:Int);have hb:=Rx hc;obtain⟨ho1,ho2⟩:=xcR hc;generalize nl ch []=es at*;obtain⟨v3,j3,h3,g3⟩:=oQ B hB j2 3 (by omega);rw[cz3]at g3;have hel:=aQ es;have hbl:=hb.len;have e4:=cE es.length (by omega)
 by_cases p3:v3=1
 ·have n3:(v3:Int)=1:=by omega
  obtain⟨v4,j4,h4,g4⟩:=oQ B hB j3 (es.length+1) (by omega);have l4:v4<=es.length:=by omega
  have l4i:(v4:Int)<=(es.length:Int):=by omega
  have tA:du v4 (bf es)=bf (es.take v4):=by rw[bf,bf,dU]
  obtain⟨v5,j5,h5,g5⟩:=oQ B hB j4 (v1+1) (by omega);have e5:=cE v1 (by omega);obtain⟨v6,j6,h6,g6⟩:=oQ B hB j5 12 (by omega);rw[c12]at g6;obtain⟨v7,j7,h7,g7⟩:=oQ B hB j6 30 (by omega);rw[c30]at g7;obtain⟨v8,j8,h8,g8⟩:=oQ B hB j7 2 (by omega);rw[c2]at g8;obtain⟨v9,j9,h9,g9⟩:=oQ B hB j8 4 (by omega);rw[cz4]at g9;have hUv:af.wrap (af.wrap ((v6:Int)+1)+(v7:Int))=(v6:Int)+1+v7:=by rw[w64 (n:=(v6:Int)+1) (by omega) (by omega),w64 (by omega) (by omega)]
  obtain⟨U,hU⟩:∃U,U=af.wrap (af.wrap ((v6:Int)+1)+(v7:Int)):=⟨_,rfl⟩;have hU2:U=(v6:Int)+1+v7:=hU.trans hUv
  by_cases p8:v8=0
  ·have p8':(v8:Int)=0:=by omega
   obtain⟨rs',t',tk',j',q1,q2,q3,q4⟩:=l41 B hB nv (v1:Int) (v5:Int) (v6:Int) 1099511627776 (bf (es.take v4)) v9 [] j9 (by simp only[az];omega) (fun x hx=>by cases hx) .clip [] (.inl ⟨rfl,rfl,rfl⟩);refine⟨⟨nv,v1,v5,v6,1099511627776,es.take v4,rs'⟩,j',⟨by show nv.length<=100;omega,by show(es.take v4).length<=8;rw[aj];omega,q1,fun x hx=>hb.e x (bF hx),fun x hx=>(q2 x hx).1,iX hnB (by show(0:Int)<=v5;omega) (by show(v5:Int)<=v1;omega) (by show(v1:Int)<=1000000;omega) (by show(0:Int)<=v6;omega) (by show(v6:Int)<1099511627776;omega) (by show(1099511627776:Int)<=1099511627776;omega) (by show(es.take v4).length<=16;rw[aj];omega) q1 (fun x hx=>ho1 x (bF hx)) (eu.sublist (List.take_sublist _ _) ho2) (fun x hx=>(q2 x hx).2)⟩, ?_⟩;rw[ao Yn];rcases q3 with⟨rfl,rfl,rfl⟩|⟨rfl,rfl⟩
   ·simp only[bn,mZ,Man.sv,bO,bi]at g1 g2 g3 g5 g6 g7 g8 g9 q4 gd g4 ⊢
    simp only[go_sem,Q0,Q1,Q2,Q3,Q4,Q5,Q6,Q7,Q8,Q9,Qa,Qb,Qc,Qd,Qe,Qf,Qg,Qh,Qi,Qj,Qk,reduceCtorEq,reduceIte,g1,g2,g3,g5,g6,g7,g8,g9,jw,gv,pr,h2,h2i,dt,hve,gd,CD,n3,e5,p8',<-hU,q4,g4,e4,hel,l4,l4i,tA]
   ·simp only[bn,mZ,Man.sv,bO,bi]at g1 g2 g3 g5 g6 g7 g8 g9 q4 gd g4 ⊢
    simp only[go_sem,Q0,Q1,Q2,Q3,Q4,Q5,Q6,Q7,Q8,Q9,Qa,Qb,Qc,Qd,Qe,Qf,Qg,Qh,Qi,Qj,Qk,reduceCtorEq,reduceIte,g1,g2,g3,g5,g6,g7,g8,g9,jw,gv,pr,h2,h2i,dt,hve,gd,CD,n3,e5,p8',<-hU,q4,g4,e4,hel,l4,l4i,tA]
  ·have p8':¬(v8:Int)=0:=by omega
   obtain⟨rs',t',tk',j',q1,q2,q3,q4⟩:=l41 B hB nv (v1:Int) (v5:Int) (v6:Int) U (bf (es.take v4)) v9 [] j9 (by simp only[az];omega) (fun x hx=>by cases hx) .clip [] (.inl ⟨rfl,rfl,rfl⟩);refine⟨⟨nv,v1,v5,v6,U,es.take v4,rs'⟩,j',⟨by show nv.length<=100;omega,by show(es.take v4).length<=8;rw[aj];omega,q1,fun x hx=>hb.e x (bF hx),fun x hx=>(q2 x hx).1,iX hnB (by show(0:Int)<=v5;omega) (by show(v5:Int)<=v1;omega) (by show(v1:Int)<=1000000;omega) (by show(0:Int)<=v6;omega) (by show(v6:Int)<U;omega) (by show(U:Int)<=1099511627776;omega) (by show(es.take v4).length<=16;rw[aj];omega) q1 (fun x hx=>ho1 x (bF hx)) (eu.sublist (List.take_sublist _ _) ho2) (fun x hx=>(q2 x hx).2)⟩, ?_⟩;rw[ao Yn];rcases q3 with⟨rfl,rfl,rfl⟩|⟨rfl,rfl⟩
   ·simp only[bn,mZ,Man.sv,bO,bi]at g1 g2 g3 g5 g6 g7 g8 g9 q4 gd g4 ⊢
    simp only[go_sem,Q0,Q1,Q2,Q3,Q4,Q5,Q6,Q7,Q8,Q9,Qa,Qb,Qc,Qd,Qe,Qf,Qg,Qh,Qi,Qj,Qk,reduceCtorEq,reduceIte,g1,g2,g3,g5,g6,g7,g8,g9,jw,gv,pr,h2,h2i,dt,hve,gd,CD,n3,e5,p8',<-hU,q4,g4,e4,hel,l4,l4i,tA]
   ·simp only[bn,mZ,Man.sv,bO,bi]at g1 g2 g3 g5 g6 g7 g8 g9 q4 gd g4 ⊢
    simp only[go_sem,Q0,Q1,Q2,Q3,Q4,Q5,Q6,Q7,Q8,Q9,Qa,Qb,Qc,Qd,Qe,Qf,Qg,Qh,Qi,Qj,Qk,reduceCtorEq,reduceIte,g1,g2,g3,g5,g6,g7,g8,g9,jw,gv,pr,h2,h2i,dt,hve,gd,CD,n3,e5,p8',<-hU,q4,g4,e4,hel,l4,l4i,tA]
 ·have n3:¬(v3:Int)=1:=by omega
  obtain⟨v5,j5,h5,g5⟩:=oQ B hB j3 (v1+1) (by omega);have e5:=cE v1 (by omega);obtain⟨v6,j6,h6,g6⟩:=oQ B hB j5 12 (by omega);rw[c12]at g6;obtain⟨v7,j7,h7,g7⟩:=oQ B hB j6 30 (by omega);rw[c30]at g7;obtain⟨v8,j8,h8,g8⟩:=oQ B hB j7 2 (by omega);rw[c2]at g8;obtain⟨v9,j9,h9,g9⟩:=oQ B hB j8 4 (by omega);rw[cz4]at g9;have hUv:af.wrap (af.wrap ((v6:Int)+1)+(v7:Int))=(v6:Int)+1+v7:=by rw[w64 (n:=(v6:Int)+1) (by omega) (by omega),w64 (by omega) (by omega)]
  obtain⟨U,hU⟩:∃U,U=af.wrap (af.wrap ((v6:Int)+1)+(v7:Int)):=⟨_,rfl⟩;have hU2:U=(v6:Int)+1+v7:=hU.trans hUv
  by_cases p8:v8=0
  ·have p8':(v8:Int)=0:=by omega
   obtain⟨rs',t',tk',j',q1,q2,q3,q4⟩:=l41 B hB nv (v1:Int) (v5:Int) (v6:Int) 1099511627776 (bf es) v9 [] j9 (by simp only[az];omega) (fun x hx=>by cases hx) .clip [] (.inl ⟨rfl,rfl,rfl⟩);refine⟨⟨nv,v1,v5,v6,1099511627776,es,rs'⟩,j',⟨by show nv.length<=100;omega,hbl,q1,hb.e,fun x hx=>(q2 x hx).1,iX hnB (by show(0:Int)<=v5;omega) (by show(v5:Int)<=v1;omega) (by show(v1:Int)<=1000000;omega) (by show(0:Int)<=v6;omega) (by show(v6:Int)<1099511627776;omega) (by show(1099511627776:Int)<=1099511627776;omega) (by show es.length<=16;omega) q1 (ho1) (ho2) (fun x hx=>(q2 x hx).2)⟩, ?_⟩;rw[ao Yn];rcases q3 with⟨rfl,rfl,rfl⟩|⟨rfl,rfl⟩
   ·simp only[bn,mZ,Man.sv,bO,bi]at g1 g2 g3 g5 g6 g7 g8 g9 q4 gd ⊢
    simp only[go_sem,Q0,Q1,Q2,Q3,Q4,Q5,Q6,Q7,Q8,Q9,Qa,Qb,Qc,Qd,Qe,Qf,Qg,Qh,Qi,Qj,Qk,reduceCtorEq,reduceIte,g1,g2,g3,g5,g6,g7,g8,g9,jw,gv,pr,h2,h2i,dt,hve,gd,CD,n3,e5,p8',<-hU,q4]
   ·simp only[bn,mZ,Man.sv,bO,bi]at g1 g2 g3 g5 g6 g7 g8 g9 q4 gd ⊢
    simp only[go_sem,Q0,Q1,Q2,Q3,Q4,Q5,Q6,Q7,Q8,Q9,Qa,Qb,Qc,Qd,Qe,Qf,Qg,Qh,Qi,Qj,Qk,reduceCtorEq,reduceIte,g1,g2,g3,g5,g6,g7,g8,g9,jw,gv,pr,h2,h2i,dt,hve,gd,CD,n3,e5,p8',<-hU,q4]
  ·have p8':¬(v8:Int)=0:=by omega
   obtain⟨rs',t',tk',j',q1,q2,q3,q4⟩:=l41 B hB nv (v1:Int) (v5:Int) (v6:Int) U (bf es) v9 [] j9 (by simp only[az];omega) (fun x hx=>by cases hx) .clip [] (.inl ⟨rfl,rfl,rfl⟩);refine⟨⟨nv,v1,v5,v6,U,es,rs'⟩,j',⟨by show nv.length<=100;omega,hbl,q1,hb.e,fun x hx=>(q2 x hx).1,iX hnB (by show(0:Int)<=v5;omega) (by show(v5:Int)<=v1;omega) (by show(v1:Int)<=1000000;omega) (by show(0:Int)<=v6;omega) (by show(v6:Int)<U;omega) (by show(U:Int)<=1099511627776;omega) (by show es.length<=16;omega) q1 (ho1) (ho2) (fun x hx=>(q2 x hx).2)⟩, ?_⟩;rw[ao Yn];rcases q3 with⟨rfl,rfl,rfl⟩|⟨rfl,rfl⟩
   ·simp only[bn,mZ,Man.sv,bO,bi]at g1 g2 g3 g5 g6 g7 g8 g9 q4 gd ⊢
    simp only[go_sem,Q0,Q1,Q2,Q3,Q4,Q5,Q6,Q7,Q8,Q9,Qa,Qb,Qc,Qd,Qe,Qf,Qg,Qh,Qi,Qj,Qk,reduceCtorEq,reduceIte,g1,g2,g3,g5,g6,g7,g8,g9,jw,gv,pr,h2,h2i,dt,hve,gd,CD,n3,e5,p8',<-hU,q4]
   ·simp only[bn,mZ,Man.sv,bO,bi]at g1 g2 g3 g5 g6 g7 g8 g9 q4 gd ⊢
    simp only[go_sem,Q0,Q1,Q2,Q3,Q4,Q5,Q6,Q7,Q8,Q9,Qa,Qb,Qc,Qd,Qe,Qf,Qg,Qh,Qi,Qj,Qk,reduceCtorEq,reduceIte,g1,g2,g3,g5,g6,g7,g8,g9,jw,gv,pr,h2,h2i,dt,hve,gd,CD,n3,e5,p8',<-hU,q4]
end
theorem xcS(x:Img)(a:Int):((s7 (fT x) a).getD 0 []).length<=1000/\((s7 (fT x) a).getD 1 []).length<=1000:=by
 have e1:=E4 (fT x);have e2:=jt (fT x);unfold s7;split
 ·exact⟨bW _,bW _⟩
 ·constructor
  ·rw[cn]
   split
   ·omega
   ·exact bW _
  ·rw[cJ,cn]
   split
   ·omega
   ·exact bW _
theorem xe5{x:Img}(a:Int)(h:fC x=0):EvS (ofI x a):=by obtain⟨q1,q2,q3,q4,q5,q6⟩:=mC h;have hn:=iO q5;obtain⟨v,hv⟩:=Int.eq_ofNat_of_zero_le q3;have hl:=mm 6 v (by omega);obtain⟨h0,h1⟩:=xcS x a;refine⟨Gd _ _, ?_,h0,h1⟩;show(wP x.name x.ver).length<=1000;unfold wP;rw[hv,ac,aC];show x.name.length+((dec v).length+1)<=1000;omega
end Go.Proofs.YtkcjdeofknkndaaGreatDoor
