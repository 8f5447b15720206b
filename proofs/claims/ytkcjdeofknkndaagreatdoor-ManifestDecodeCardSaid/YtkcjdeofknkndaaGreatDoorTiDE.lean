/- Contracts. No condition. -/
import Derived.Test.YtkcjdeofknkndaaGreatDoorTgDE
open Go.IntKind renaming i64 -> af
open List renaming Pairwise -> eg, cons_append -> bf, drop -> jx, drop_eq_getElem_cons -> aM, drop_length -> ba, drop_zero -> aV, foldl_nil -> fp, getD_cons_succ -> cz, getD_cons_zero -> bZ, getD_eq_getElem?_getD -> aa, getElem?_eq_getElem -> ab, getElem_of_mem -> bY, length_append -> ac, length_cons -> aA, length_drop -> aI, length_nil -> aY, length_singleton -> aH, length_take -> aw, map_append -> cV, map_cons -> aE, map_nil -> cT, mem_append -> ak, mem_cons -> al, mem_cons_of_mem -> am, mem_cons_self -> ax, mem_of_mem_drop -> D1, mem_of_mem_take -> bD, mem_singleton -> aZ, nil_append -> aG, take -> dd, take_length -> bi
open Nat renaming add_zero -> dL, le_refl -> aN, mul_one -> db, zero_add -> cj, zero_le -> bH
set_option maxRecDepth 100000
set_option maxHeartbeats 16000000
set_option linter.unusedSimpArgs false
set_option linter.unusedVariables false
namespace Go.Proofs.YtkcjdeofknkndaaGreatDoor
open Go.Sy
open UInt8 renaming reduceLT -> Q0, reduceLE -> Q1
open Int renaming reduceToNat -> Q2, reduceLE -> Q3, reduceLT -> Q4, reduceEq -> Q5, reduceNe -> Q6, reduceNeg -> Q7, reduceAdd -> Q8, reduceSub -> Q9, reduceMul -> Qa
open Nat renaming reducePow -> Qb, reduceDiv -> Qc, reduceMod -> Qd, reduceAdd -> Qe, reduceSub -> Qf, reduceMul -> Qg, reduceLT -> Qh, reduceLeDiff -> Qi, reduceEqDiff -> Qj, reduceBEq -> Qk
theorem oN(B:t7)(y:B.length<=1000)(j n:Nat)(hn:0<n):∃v h:Nat,v<n/\call T 71 [.ptr 0 0,.int .i64 (n:Int)] [bg B j] 0=some ⟨.int .i64 (v:Int),[(0,bg B h)],[]⟩:=
 ⟨dn B j n,cr B j,dI B j n hn,f71 B j n hn (by omega)⟩
structure EvS(e:Ev):Prop where
 d2:e.dg.length=2
 b:e.data.length<=1000
 d0:(e.dg.getD 0 []).length<=1000
 d1:(e.dg.getD 1 []).length<=1000
def fU(x:Ent):List Ent->Nat
 |[]=>0
 |y::r=>if eG y x=true then fU x r+1 else 0
theorem sH(x:Ent):∀l,fU x l<=l.length
 |[]=>aN _
 |y::r=>by have:=sH x r;rw[fU,aA];split<;>omega
def mO(v:t7)(h:Int)(l:List Ent)(tk:Tok):aC:= .rc [.str v,.int .i64 h,.int .i64 0,.int .i64 0,.int .i64 1099511627776,.lst 4 (bP l) tk,.lst 4 [] .clip]
def mZ:aC:= .rc [.str [],.int .i64 0,.int .i64 0,.int .i64 0,.int .i64 0,.lst 4 [] .clip,.lst 4 [] .clip]
theorem xmu(I:f8)(v:t7)(W i:Int)(l:List Ent)(x:Ent)(hl:l.length<=1000)(hd:∀y∈l,y.dig.length<=1000):∀(n k:Nat),l.length-k=n->k<=l.length->
 run T (.loop xW) ⟨[(2,.lst 4 I .no),(6,.ptr 106 0),(7,.ptr 107 0),(8,.int .i64 i),(10,.ptr 110 0),(11,.int .i64 k)],[(106,mZ),(107,mO v W l .no),(110,.rc x.sv)],[]⟩=
  some (.x 2,⟨[(2,.lst 4 I .no),(6,.ptr 106 0),(7,.ptr 107 0),(8,.int .i64 i),(10,.ptr 110 0),(11,.int .i64 ((k+fU x (l.drop k):Nat):Int))],[(106,mZ),(107,mO v W l .no),(110,.rc x.sv)],[]⟩):=by
 intro n;induction n with
 |zero=>
  intro k h0 h1;have:k=l.length:=by omega
  subst this;have H:=bL l;rw[ba,ai];simp only[fU,dL,mO,mZ];simp only[go_sem,Q0,Q1,Q2,Q3,Q4,Q5,Q6,Q7,Q8,Q9,Qa,Qb,Qc,Qd,Qe,Qf,Qg,Qh,Qi,Qj,Qk,reduceCtorEq,reduceIte,H]
 |succ n ih=>
  intro k h0 h1;have h:k<l.length:=by omega
  have U:=bW k (by omega);have C:=ih (k+1) (by omega) (by omega);have H:=bL l;have J:=df l k h;have L:l.drop k=l.getD k en0::l.drop (k+1):=by rw[aM h,aa,ab h];rfl
  have hm:=cf l en0 k h;have z:=f46 (l.getD k en0) x (by have:=hd _ hm;omega);have E:(k:Int)<(l.length:Int):=by omega
  rw[L,fU,ai];generalize l.getD k en0=y at*;obtain⟨x1,x2,O,Q⟩:=x;obtain⟨y1,y2,Z,y4⟩:=y
  by_cases F:eG ⟨y1,y2,Z,y4⟩ ⟨x1,x2,O,Q⟩=true
  ·rw[if_pos F]
   rw[F]at z;rw[show k+(fU ⟨x1,x2,O,Q⟩ (l.drop (k+1))+1)=k+1+fU ⟨x1,x2,O,Q⟩ (l.drop (k+1))from by omega];simp only[mO,mZ,Ent.sv]at C z J ⊢;simp only[go_sem,Q0,Q1,Q2,Q3,Q4,Q5,Q6,Q7,Q8,Q9,Qa,Qb,Qc,Qd,Qe,Qf,Qg,Qh,Qi,Qj,Qk,reduceCtorEq,reduceIte,h,E,U,H,J,z,O1,C]
  ·rw[if_neg F]
   rw[eq_false_of_ne_true F]at z;rw[dL];simp only[mO,mZ,Ent.sv]at z J ⊢;simp only[go_sem,Q0,Q1,Q2,Q3,Q4,Q5,Q6,Q7,Q8,Q9,Qa,Qb,Qc,Qd,Qe,Qf,Qg,Qh,Qi,Qj,Qk,reduceCtorEq,reduceIte,h,E,U,H,J,z,O1]
theorem sW{x:Img}(h:eX x=0):¬(fm x).length=0:=by unfold fm;rw[if_pos h,dj];omega
def jv(y:Img):Ent:=⟨y.role,y.name,y.ver,sha (fm y)⟩
def sQ(x:Ent)(l:List Ent):List Ent:=if fU x l<l.length/\eG x (l.getD (fU x l) en0)=false then l else l.take (fU x l)++x::l.drop (fU x l)
def ng(y:Img)(l:List Ent):List Ent:=if y.role=4 then l else sQ (jv y) l
theorem s34(H:List Img){i:Nat}(h0:eX (H.getD i im0)=0)(a4:H.length<=1000)(v:t7)(ve:Int)(l:List Ent)(hl:l.length<=900)(hd:∀y∈l,y.dig.length<=1000)(hi:i<H.length):
 run T (.loop lK) ⟨[(2,.lst 4 (ic H) .no),(6,.ptr 106 0),(7,.ptr 107 0),(8,.int .i64 i)],[(106,mZ),(107,mO v ve l .no)],[]⟩=
 run T (.loop lK) ⟨[(2,.lst 4 (ic H) .no),(6,.ptr 106 0),(7,.ptr 107 0),(8,.int .i64 ((i+1:Nat):Int))],[(106,mZ),(107,mO v ve (ng (H.getD i im0) l) .no)],[]⟩:=by
 have I:(i:Int)<(H.length:Int):=by omega
 have hv:=gF H;have Z:=ma H i hi;have e1:=bW i (by omega);generalize H.getD i im0=y at*;obtain⟨u1,u2⟩:=nO h0;have U:=f95 y u1 u2;have a5:=me y u1 u2;have g2:=f65 (fm y) (by omega);have Q:¬(fm y).length=0:=sW h0;have F:¬((fm y).length:Int)=0:=by omega
 have a3:=kY (fm y);have C:=xmu (ic H) v ve i l (jv y) (by omega) hd l.length 0 (by omega) (bH _);rw[cj,aV,show((0:Nat):Int)=0 from rfl]at C;have a2:=sH (jv y) l;have L:=bL l;unfold ng sQ;generalize hE:fm y=E at*
 by_cases h4:y.role=4
 ·rw[if_pos h4]
  obtain⟨y1,y2,y3,y4⟩:=y;simp only at h4;subst h4;rw[ai];simp only[mO,mZ,Img.sv]at U Z ⊢;simp only[go_sem,Q0,Q1,Q2,Q3,Q4,Q5,Q6,Q7,Q8,Q9,Qa,Qb,Qc,Qd,Qe,Qf,Qg,Qh,Qi,Qj,Qk,reduceCtorEq,reduceIte,I,hi,hv,Z,U,CH,Q,F,e1]
 ·rw[if_neg h4]
  have a1:jv y=⟨y.role,y.name,y.ver,sha E⟩:=by rw[<-hE];rfl
  rw[a1]at C a2 ⊢
  by_cases hk:fU ⟨y.role,y.name,y.ver,sha E⟩ l<l.length
  ·have W:=f46 ⟨y.role,y.name,y.ver,sha E⟩ (l.getD (fU ⟨y.role,y.name,y.ver,sha E⟩ l) en0) (by show(sha E).length<=_;omega)
   have J:=df l _ hk;have O:(fU ⟨y.role,y.name,y.ver,sha E⟩ l:Int)<(l.length:Int):=by omega
   have e2:bP (l.take (fU ⟨y.role,y.name,y.ver,sha E⟩ l)++⟨y.role,y.name,y.ver,sha E⟩::l.drop (fU ⟨y.role,y.name,y.ver,sha E⟩ l))=dd (fU ⟨y.role,y.name,y.ver,sha E⟩ l) (bP l)++(Ent.sv ⟨y.role,y.name,y.ver,sha E⟩::jx (fU ⟨y.role,y.name,y.ver,sha E⟩ l) (bP l)):=by rw[bP,bP,cV,aE,List.map_take,List.map_drop]
   generalize fU ⟨y.role,y.name,y.ver,sha E⟩ l=k at*;generalize l.getD k en0=z at*;have a0:k<=l.length:=by omega
   have tf:dd l.length (bP l)=bP l:=by rw[<-L,bi]
   have vA:(dd k (bP l)).length=k:=by rw[aw,L];omega
   have vD:(jx k (bP l)).length=l.length-k:=by rw[aI,L]
   have b1:k*56<=140737488355328:=by omega
   have b3:(k+1)*56<=140737488355328:=by omega
   have b2:(k+(1+(l.length-k)))*56<=140737488355328:=by omega
   have b4:(k+1+(l.length-k))*56<=140737488355328:=by omega
   obtain⟨y1,y2,y3,y4⟩:=y;obtain⟨z1,z2,z3,z4⟩:=z
   by_cases hb:eG ⟨y1,y2,y3,sha E⟩ ⟨z1,z2,z3,z4⟩=false
   ·rw[if_pos ⟨hk,hb⟩]
    simp only at W;rw[hb]at W;rw[ai];simp only[mO,mZ,Img.sv,Ent.sv]at U Z C W J ⊢;simp only[go_sem,Q0,Q1,Q2,Q3,Q4,Q5,Q6,Q7,Q8,Q9,Qa,Qb,Qc,Qd,Qe,Qf,Qg,Qh,Qi,Qj,Qk,reduceCtorEq,reduceIte,I,hi,hv,Z,U,CH,Q,F,h4,g2,OZ,C,L,hk,O,J,W,O1,e1]
   ·rw[if_neg (fun h=>hb h.2)]
    simp only at W;rw[eq_true_of_ne_false hb]at W;rw[ai];simp only[mO,e2];simp only[mO,mZ,Img.sv,Ent.sv]at U Z C W J ⊢;simp only[go_sem,Q0,Q1,Q2,Q3,Q4,Q5,Q6,Q7,Q8,Q9,Qa,Qb,Qc,Qd,Qe,Qf,Qg,Qh,Qi,Qj,Qk,reduceCtorEq,reduceIte,I,hi,hv,Z,U,CH,Q,F,h4,g2,OZ,C,L,hk,O,a0,J,W,O1,e1,tf,vA,vD,b1,b2,b3,b4]
  ·have O:¬(fU ⟨y.role,y.name,y.ver,sha E⟩ l:Int)<(l.length:Int):=by omega
   rw[if_neg (fun h=>hk h.1)]
   have e2:bP (l.take (fU ⟨y.role,y.name,y.ver,sha E⟩ l)++⟨y.role,y.name,y.ver,sha E⟩::l.drop (fU ⟨y.role,y.name,y.ver,sha E⟩ l))=dd (fU ⟨y.role,y.name,y.ver,sha E⟩ l) (bP l)++(Ent.sv ⟨y.role,y.name,y.ver,sha E⟩::jx (fU ⟨y.role,y.name,y.ver,sha E⟩ l) (bP l)):=by rw[bP,bP,cV,aE,List.map_take,List.map_drop]
   generalize fU ⟨y.role,y.name,y.ver,sha E⟩ l=k at*;have a0:k<=l.length:=by omega
   have tf:dd l.length (bP l)=bP l:=by rw[<-L,bi]
   have vA:(dd k (bP l)).length=k:=by rw[aw,L];omega
   have vD:(jx k (bP l)).length=l.length-k:=by rw[aI,L]
   have b1:k*56<=140737488355328:=by omega
   have b3:(k+1)*56<=140737488355328:=by omega
   have b2:(k+(1+(l.length-k)))*56<=140737488355328:=by omega
   have b4:(k+1+(l.length-k))*56<=140737488355328:=by omega
   obtain⟨y1,y2,y3,y4⟩:=y;rw[ai];simp only[mO,e2];simp only[mO,mZ,Img.sv,Ent.sv]at U Z C ⊢;simp only[go_sem,Q0,Q1,Q2,Q3,Q4,Q5,Q6,Q7,Q8,Q9,Qa,Qb,Qc,Qd,Qe,Qf,Qg,Qh,Qi,Qj,Qk,reduceCtorEq,reduceIte,I,hi,hv,Z,U,CH,Q,F,h4,g2,OZ,C,L,hk,O,a0,e1,tf,vA,vD,b1,b2,b3,b4]
structure lR(l:List Ent)(n:Nat):Prop where
 len:l.length<=n
 e:∀x∈l,x.name.length<=1000000/\x.dig.length=32
theorem FW{x z:Ent}{l:List Ent}(h:z∈sQ x l):z=x\/z∈l:=by
 unfold sQ at h;split at h
 ·exact .inr h
 ·rw[ak,al]at h
  rcases h with h|h|h
  ·exact .inr (bD h)
  ·exact .inl h
  ·exact .inr (D1 h)
theorem F0(x:Ent)(l:List Ent):(sQ x l).length<=l.length+1:=by
 unfold sQ;have:=sH x l;split
 ·omega
 ·rw[ac,aA,aw,aI];omega
theorem F6{y:Img}(h:eX y=0):y.name.length<=1000000:=(nO h).1
theorem tw{y:Img}(C:eX y=0){l:List Ent}{n:Nat}(h:lR l n):lR (ng y l) (n+1):=by
 unfold ng;split
 ·exact⟨Nat.le_succ_of_le h.len,h.e⟩
 ·refine⟨?_,fun x z=> ?_⟩
  ·have:=F0 (jv y) l
   have:=h.len;omega
  ·rcases FW z with rfl|z
   ·exact⟨F6 C,kY _⟩
   ·exact h.e x z
def m9(l:List Img)(es:List Ent):List Ent:=l.foldl (fun a y=>ng y a) es
theorem Cz:∀(l:List Img)(es:List Ent)(n:Nat),(∀y∈l,eX y=0)->lR es n->lR (m9 l es) (n+l.length)
 |[],es,n,_,h=>h
 |y::r,es,n,hl,h=>by have:=Cz r (ng y es) (n+1) (fun z hz=>hl z (am _ hz)) (tw (hl y ax) h);rw[aA,show n+(r.length+1)=n+1+r.length from by omega];exact this
theorem xl1(h:List Img)(a0:h.length<=1000)(hi:0<h.length)(O:eX (h.getD 0 im0)=0)(L:(h.getD 0 im0).role=1)(v:t7)(ve:Int):
 run T (.loop lK) ⟨[(2,.lst 4 (ic h) .no),(6,.ptr 106 0),(7,.ptr 107 0),(8,.int .i64 0)],[(106,mZ),(107,mO v ve [] .clip)],[]⟩=
 run T (.loop lK) ⟨[(2,.lst 4 (ic h) .no),(6,.ptr 106 0),(7,.ptr 107 0),(8,.int .i64 1)],[(106,mZ),(107,mO v ve [jv (h.getD 0 im0)] .no)],[]⟩:=by
 have C:(0:Int)<(h.length:Int):=by omega
 have Q:=gF h;have J:=ma h 0 hi;have e1:af.wrap 1=1:=rfl;generalize h.getD 0 im0=y at*;obtain⟨Z,U⟩:=nO O;have I:=f95 y Z U;have a1:=me y Z U;have W:=f65 (fm y) (by omega);have H:¬(fm y).length=0:=sW O;have z:¬((fm y).length:Int)=0:=by omega
 have F:jv y=⟨y.role,y.name,y.ver,sha (fm y)⟩:=rfl;rw[F];generalize fm y=E at*;obtain⟨y1,y2,y3,y4⟩:=y;simp only at L;subst L;rw[ai];simp only[mO,mZ,Img.sv,bP,cT,aE,Ent.sv]at I J ⊢;simp only[go_sem,Q0,Q1,Q2,Q3,Q4,Q5,Q6,Q7,Q8,Q9,Qa,Qb,Qc,Qd,Qe,Qf,Qg,Qh,Qi,Qj,Qk,reduceCtorEq,reduceIte,C,hi,Q,J,I,CH,H,z,W,OZ];rw[ai];simp only[go_sem,Q0,Q1,Q2,Q3,Q4,Q5,Q6,Q7,Q8,Q9,Qa,Qb,Qc,Qd,Qe,Qf,Qg,Qh,Qi,Qj,Qk,reduceCtorEq,reduceIte,C,hi,Q,J,I,CH,H,z,W,OZ,e1]
theorem l38(h:List Img)(E:∀i,i<h.length->eX (h.getD i im0)=0)(J:h.length<=800)(v:t7)(C:Int):∀(n i:Nat)(es:List Ent),h.length-i=n->i<=h.length->lR es i->
 run T (.loop lK) ⟨[(2,.lst 4 (ic h) .no),(6,.ptr 106 0),(7,.ptr 107 0),(8,.int .i64 i)],[(106,mZ),(107,mO v C es .no)],[]⟩=
 some (.x 0,⟨[(6,.ptr 106 0),(7,.ptr 107 0)],[(106,mZ),(107,mO v C (m9 (h.drop i) es) .no)],[]⟩):=by
 intro n;induction n with
 |zero=>
  intro i es H F z;have:i=h.length:=by omega
  subst this;have I:=gF h;rw[ba,ai];simp only[mO,mZ,m9,fp];simp only[go_sem,Q0,Q1,Q2,Q3,Q4,Q5,Q6,Q7,Q8,Q9,Qa,Qb,Qc,Qd,Qe,Qf,Qg,Qh,Qi,Qj,Qk,reduceCtorEq,reduceIte,I]
 |succ n O=>
  intro i es H F z;have hi:i<h.length:=by omega
  have hd:h.drop i=h.getD i im0::h.drop (i+1):=by rw[aM hi,aa,ab hi];rfl
  have Q:=z.len;rw[s34 h (E i hi) (by omega) v C es (by omega) (fun y L=>by have:=(z.e y L).2;omega) hi,O (i+1) _ (by omega) (by omega) (tw (E i hi) z),hd];rfl
theorem ur{y:List Img}(z:jD y):(y.getD 0 im0).role=1:=by
 obtain⟨i,hi,H⟩:=z.fw
 have C:∀k,k<y.length->(y.getD 0 im0).role<=(y.getD k im0).role:=by
  intro k;induction k with
  |zero=>intro _;exact Int.le_refl _
  |succ k E=>intro h;exact Int.le_trans (E (by omega)) (z.ord k h)
 have F:=C i hi;have I:=(mw (z.ok 0 (by have:=z.n1;omega))).1;omega
theorem f38(h:List Img)(y:jD h)(v:t7)(C:Int):call T 38 [.str v,.int .i64 C,.lst 4 (ic h) .no] [] 0=some ⟨.agg [.str v,.int .i64 C,.int .i64 0,.int .i64 0,.int .i64 1099511627776,.lst 4 (bP (m9 h [])) .no,.lst 4 [] .clip],[],[]⟩:=by
 have n1:=y.n1;have n8:=y.n8;have H:=ur y;have F:=y.ok 0 (by omega);have z:=xl1 h (by omega) (by omega) F H v C
 have E:ng (h.getD 0 im0) []=[jv (h.getD 0 im0)]:=by unfold ng sQ;rw[if_neg (by rw[H];decide),if_neg (by simp)];rfl
 have J:lR [jv (h.getD 0 im0)] 1:=by rw[<-E];exact tw F ⟨aN _,fun x I=>by cases I⟩
 have l:=l38 h y.ok (by omega) v C _ 1 [jv (h.getD 0 im0)] rfl (by omega) J
 have hd:m9 (h.drop 1) [jv (h.getD 0 im0)]=m9 h []:=by
  have:h=h.getD 0 im0::h.drop 1:=by
   rw[aa,ab (by omega:0<h.length)];cases h with
   |nil=>simp at n1
   |cons x r=>rfl
  conv=>rhs;rw[this]
  rw[<-E];rfl
 rw[hd]at l;rw[show((1:Nat):Int)=1 from rfl]at l;rw[l]at z;rw[an xon];simp only[mO,mZ,bP,cT]at z;simp only[bP];simp only[go_sem,Q0,Q1,Q2,Q3,Q4,Q5,Q6,Q7,Q8,Q9,Qa,Qb,Qc,Qd,Qe,Qf,Qg,Qh,Qi,Qj,Qk,reduceCtorEq,reduceIte,z]
theorem SN{h:List Img}(z:jD h):lR (m9 h []) 8:=by
 have:=Cz h [] 0 (fun y C=>by obtain⟨i,hi,rfl⟩:=bY C;have:=z.ok i hi;rwa[aa,ab hi]at this) ⟨aN _,fun x E=>by cases E⟩
 have n8:=z.n8;exact⟨by have:=this.len;omega,this.e⟩
section
open SortT
theorem xnw:call T 102 [] [] 0=some ⟨.agg [.str [97,99,109,101],.str [118,50],.str [120,45,121]],[],[]⟩:=by rw[an xjE];simp only[go_sem,Q0,Q1,Q2,Q3,Q4,Q5,Q6,Q7,Q8,Q9,Qa,Qb,Qc,Qd,Qe,Qf,Qg,Qh,Qi,Qj,Qk,reduceCtorEq,reduceIte]
theorem xlT(v:Nat)(h:v<3):∃n:t7,(n.length<=10/\Pr.nameB n=true)/\(jx v [SV.str [97,99,109,101],.str [118,50],.str [120,45,121]]).getD 0 .undef= .str n:=by
 have:v=0\/v=1\/v=2:=by omega
 rcases this with rfl|rfl|rfl
 ·exact⟨[97,99,109,101],⟨by decide,by decide⟩,rfl⟩
 ·exact⟨[118,50],⟨by decide,by decide⟩,rfl⟩
 ·exact⟨[120,45,121],⟨by decide,by decide⟩,rfl⟩
theorem Di(l:List Rul)(x:Rul):dl l++ [x.sv]=dl (l++ [x]):=by rw[dl,dl,cV];rfl
theorem l41(B:t7)(hB:B.length<=1000)(v:t7)(O Q m3 U:Int)(es:f8):∀(n:Nat)(rs:List Rul)(j:Nat),rs.length+n<=8->(∀x∈rs,x.text.length<=20/\ow x=0)->∀(t:Tok)(tk:LAb),(t= .clip/\tk=[]/\rs=[])\/(t= .id 160/\tk=[160])->
 ∃(h:List Rul)(z:Tok)(tk':LAb)(I:Nat),h.length<=8/\(∀x∈h,x.text.length<=20/\ow x=0)/\((z= .clip/\tk'=[]/\h=[])\/(z= .id 160/\tk'=[160]))/\
 run T (.loop xV) ⟨[(0,.ptr 0 0),(4,.ptr 104 0),(6,.ptr 106 0),(7,.int .i64 (n:Int))],[(0,bg B j),(104,mZ),(106,.rc [.str v,.int .i64 O,.int .i64 Q,.int .i64 m3,.int .i64 U,.lst 4 es .no,.lst 4 (dl rs) t])],tk⟩=
 some (.x 0,⟨[(4,.ptr 104 0),(6,.ptr 106 0)],[(0,bg B I),(104,mZ),(106,.rc [.str v,.int .i64 O,.int .i64 Q,.int .i64 m3,.int .i64 U,.lst 4 es .no,.lst 4 (dl h) z])],tk'⟩):=by
 intro n;induction n with
 |zero=>
  intro rs j h1 H t tk F;refine⟨rs,t,tk,j,by omega,H,F, ?_⟩;rw[ai];rcases F with⟨rfl,rfl,rfl⟩|⟨rfl,rfl⟩
  ·simp only[bg,mZ]
   simp only[go_sem,Q0,Q1,Q2,Q3,Q4,Q5,Q6,Q7,Q8,Q9,Qa,Qb,Qc,Qd,Qe,Qf,Qg,Qh,Qi,Qj,Qk,reduceCtorEq,reduceIte]
  ·simp only[bg,mZ]
   simp only[go_sem,Q0,Q1,Q2,Q3,Q4,Q5,Q6,Q7,Q8,Q9,Qa,Qb,Qc,Qd,Qe,Qf,Qg,Qh,Qi,Qj,Qk,reduceCtorEq,reduceIte]
 |succ n ih=>
  intro rs j h1 H t tk F;obtain⟨k,t1,lo,hi,j1,Z,J,g⟩:=xnv B j hB;have W:(0:Int)<((n+1:Nat):Int):=by omega
  have L:af.wrap (((n+1:Nat):Int)-1)=(n:Int):=wZ (by omega)
  obtain⟨h,z,tk',I,q1,q2,q3,C⟩:=ih (rs++ [⟨k,t1,lo,hi⟩]) j1 (by rw[ac,aH];omega) (fun x E=>by
   rw[ak,aZ]at E;rcases E with E|rfl
   ·exact H x E
   ·exact⟨J,Z⟩) (.id 160) [160] (.inr ⟨rfl,rfl⟩)
  refine⟨h,z,tk',I,q1,q2,q3, ?_⟩;have hv:=cK rs;have b1:(rs.length+1)*40<=140737488355328:=by omega
  rw[<-Di]at C;rw[ai];rcases F with⟨rfl,rfl,rfl⟩|⟨rfl,rfl⟩
  ·have y:dl []=[]:=rfl
   simp only[bg,mZ,Rul.sv,y,aG]at g C ⊢;simp only[go_sem,Q0,Q1,Q2,Q3,Q4,Q5,Q6,Q7,Q8,Q9,Qa,Qb,Qc,Qd,Qe,Qf,Qg,Qh,Qi,Qj,Qk,reduceCtorEq,reduceIte,W,g,xbb,L,C]
  ·simp only[bg,mZ,Rul.sv]at g C ⊢
   simp only[go_sem,Q0,Q1,Q2,Q3,Q4,Q5,Q6,Q7,Q8,Q9,Qa,Qb,Qc,Qd,Qe,Qf,Qg,Qh,Qi,Qj,Qk,reduceCtorEq,reduceIte,W,g,xbb,hv,b1,L,C]
theorem sP(x:Ent):∀l:List Ent,sQ x l=oU eG x l
 |[]=>by simp[sQ,oU,fU]
 |y::r=>by
  have F:=sP x r;unfold oU;rw[<-F];unfold sQ
  by_cases h:eG y x=true
  ·have E:fU x (y::r)=fU x r+1:=by rw[fU,if_pos h]
   rw[E,if_pos h,cz,List.take_succ_cons,List.drop_succ_cons,aA]
   by_cases C:fU x r<r.length/\eG x (r.getD (fU x r) en0)=false
   ·rw[if_pos C,if_pos ⟨by omega,C.2⟩]
   ·rw[if_neg C,if_neg (fun k=>C ⟨by omega,k.2⟩),bf]
  ·have E:fU x (y::r)=0:=by rw[fU,if_neg h]
   rw[E,if_neg h,bZ,List.take_zero,aV,aG]
   by_cases z:eG x y=true
   ·rw[if_pos z,if_neg (fun k=>by rw[z]at k;exact absurd k.2 (by simp))]
   ·rw[if_neg z,if_pos ⟨by simp,by simpa using z⟩]
theorem Sx{y:Img}(h:eX y=0)(I:¬y.role=4):pu (jv y):=by obtain⟨C,H,E,z,F,J⟩:=mw h;exact⟨C,by show y.role<=3;omega,E,z,kY _,F⟩
theorem sX:∀(l:List Img)(es:List Ent),(∀y∈l,eX y=0)->(∀x∈es,pu x)->Str eG es->(∀x∈m9 l es,pu x)/\Str eG (m9 l es)
 |[],es,_,h1,h2=>⟨h1,h2⟩
 |y::r,es,h0,h1,h2=>by
  have F:=h0 y ax
  have h:(∀x∈ng y es,pu x)/\Str eG (ng y es):=by
   unfold ng
   by_cases C:y.role=4
   ·rw[if_pos C];exact⟨h1,h2⟩
   ·rw[if_neg C,sP]
    refine⟨fun x E=> ?_,pJ qJ _ _ h2⟩;rcases (l9 qJ _ _ _).1 E with rfl|E
    ·exact Sx F C
    ·exact h1 x E
  exact sX r (ng y es) (fun z hz=>h0 z (am _ hz)) h.1 h.2
theorem DX{h:List Img}(C:jD h):∀y∈h,eX y=0:=by intro y z;obtain⟨i,hi,rfl⟩:=bY z;have:=C.ok i hi;rwa[aa,ab hi]at this
theorem xfA{h:List Img}(z:jD h):(∀x∈m9 h [],pu x)/\Str eG (m9 h []):=sX h [] (DX z) (fun x y=>by cases y) eg.nil
structure xbc(m:Man):Prop where
 v:m.vendor.length<=100
 en:m.ents.length<=8
 rn:m.ruls.length<=8
 e:∀x∈m.ents,x.name.length<=1000000/\x.dig.length=32
 r:∀x∈m.ruls,x.text.length<=20
 ok:fj m=0
theorem xbc.bd{m:Man}(h:xbc m):dV m:=⟨by have:=h.v;omega,by have:=h.en;omega,by have:=h.rn;omega,fun x y=>by have:=h.e x y;omega,fun x y=>by have:=h.r x y;omega⟩
theorem f41(B:t7)(J:B.length<=1000)(j:Nat)(ch:List Img)(hc:jD ch):∃(m:Man)(j':Nat),xbc m/\call T 41 [.ptr 0 0,.lst 4 (ic ch) .no] [bg B j] 0=some ⟨.agg m.sv,[(0,bg B j')],[]⟩:=by
 have gv:=xnw;obtain⟨v1,j1,h1,O⟩:=oN B J j 4 (by omega);rw[cz4]at O;obtain⟨v2,j2,h2,Z⟩:=oN B J j1 3 (by omega);rw[cz3]at Z;obtain⟨nv,⟨a9,a3⟩,W⟩:=xlT v2 h2;have Q:(v2:Int)<3:=by omega
 have gd:=f38 ch hc nv (v1:Int);have hb:=SN hc;obtain⟨a2,a1⟩:=xfA hc;generalize m9 ch []=es at*;obtain⟨v3,j3,h3,L⟩:=oN B J j2 3 (by omega);rw[cz3]at L;have a4:=bL es;have a7:=hb.len;have e4:=bW es.length (by omega)
 by_cases p3:v3=1
 ·have n3:(v3:Int)=1:=by omega
  obtain⟨v4,j4,h4,g4⟩:=oN B J j3 (es.length+1) (by omega);have l4:v4<=es.length:=by omega
  have a5:(v4:Int)<=(es.length:Int):=by omega
  have tA:dd v4 (bP es)=bP (es.take v4):=by rw[bP,bP,List.map_take]
  obtain⟨v5,j5,h5,g5⟩:=oN B J j4 (v1+1) (by omega);have e5:=bW v1 (by omega);obtain⟨y,j6,h6,C⟩:=oN B J j5 12 (by omega);rw[c12]at C;obtain⟨v7,j7,h7,H⟩:=oN B J j6 30 (by omega);rw[c30]at H;obtain⟨v8,j8,h8,E⟩:=oN B J j7 2 (by omega);rw[c2]at E;obtain⟨v9,j9,h9,F⟩:=oN B J j8 4 (by omega);rw[cz4]at F;have a6:af.wrap (af.wrap ((y:Int)+1)+(v7:Int))=(y:Int)+1+v7:=by rw[w64 (n:=(y:Int)+1) (by omega) (by omega),w64 (by omega) (by omega)]
  obtain⟨U,hU⟩:∃U,U=af.wrap (af.wrap ((y:Int)+1)+(v7:Int)):=⟨_,rfl⟩;have a8:U=(y:Int)+1+v7:=hU.trans a6
  by_cases p8:v8=0
  ·have z:(v8:Int)=0:=by omega
   obtain⟨a0,t',tk',j',q1,q2,q3,I⟩:=l41 B J nv (v1:Int) (v5:Int) (y:Int) 1099511627776 (bP (es.take v4)) v9 [] j9 (by simp only[aY];omega) (fun x h=>by cases h) .clip [] (.inl ⟨rfl,rfl,rfl⟩);refine⟨⟨nv,v1,v5,y,1099511627776,es.take v4,a0⟩,j',⟨by show nv.length<=100;omega,by show(es.take v4).length<=8;rw[aw];omega,q1,fun x h=>hb.e x (bD h),fun x h=>(q2 x h).1,i7 a3 (by show(0:Int)<=v5;omega) (by show(v5:Int)<=v1;omega) (by show(v1:Int)<=1000000;omega) (by show(0:Int)<=y;omega) (by show(y:Int)<1099511627776;omega) (by show(1099511627776:Int)<=1099511627776;omega) (by show(es.take v4).length<=16;rw[aw];omega) q1 (fun x h=>a2 x (bD h)) (eg.sublist (List.take_sublist _ _) a1) (fun x h=>(q2 x h).2)⟩, ?_⟩;rw[an xaD];rcases q3 with⟨rfl,rfl,rfl⟩|⟨rfl,rfl⟩
   ·simp only[bg,mZ,Man.sv,dl,cT]at O Z L g5 C H E F I gd g4 ⊢
    simp only[go_sem,Q0,Q1,Q2,Q3,Q4,Q5,Q6,Q7,Q8,Q9,Qa,Qb,Qc,Qd,Qe,Qf,Qg,Qh,Qi,Qj,Qk,reduceCtorEq,reduceIte,O,Z,L,g5,C,H,E,F,jC,gv,pt,h2,Q,db,W,gd,CK,n3,e5,z,<-hU,I,g4,e4,a4,l4,a5,tA]
   ·simp only[bg,mZ,Man.sv,dl,cT]at O Z L g5 C H E F I gd g4 ⊢
    simp only[go_sem,Q0,Q1,Q2,Q3,Q4,Q5,Q6,Q7,Q8,Q9,Qa,Qb,Qc,Qd,Qe,Qf,Qg,Qh,Qi,Qj,Qk,reduceCtorEq,reduceIte,O,Z,L,g5,C,H,E,F,jC,gv,pt,h2,Q,db,W,gd,CK,n3,e5,z,<-hU,I,g4,e4,a4,l4,a5,tA]
  ·have z:¬(v8:Int)=0:=by omega
   obtain⟨a0,t',tk',j',q1,q2,q3,I⟩:=l41 B J nv (v1:Int) (v5:Int) (y:Int) U (bP (es.take v4)) v9 [] j9 (by simp only[aY];omega) (fun x h=>by cases h) .clip [] (.inl ⟨rfl,rfl,rfl⟩);refine⟨⟨nv,v1,v5,y,U,es.take v4,a0⟩,j',⟨by show nv.length<=100;omega,by show(es.take v4).length<=8;rw[aw];omega,q1,fun x h=>hb.e x (bD h),fun x h=>(q2 x h).1,i7 a3 (by show(0:Int)<=v5;omega) (by show(v5:Int)<=v1;omega) (by show(v1:Int)<=1000000;omega) (by show(0:Int)<=y;omega) (by show(y:Int)<U;omega) (by show(U:Int)<=1099511627776;omega) (by show(es.take v4).length<=16;rw[aw];omega) q1 (fun x h=>a2 x (bD h)) (eg.sublist (List.take_sublist _ _) a1) (fun x h=>(q2 x h).2)⟩, ?_⟩;rw[an xaD];rcases q3 with⟨rfl,rfl,rfl⟩|⟨rfl,rfl⟩
   ·simp only[bg,mZ,Man.sv,dl,cT]at O Z L g5 C H E F I gd g4 ⊢
    simp only[go_sem,Q0,Q1,Q2,Q3,Q4,Q5,Q6,Q7,Q8,Q9,Qa,Qb,Qc,Qd,Qe,Qf,Qg,Qh,Qi,Qj,Qk,reduceCtorEq,reduceIte,O,Z,L,g5,C,H,E,F,jC,gv,pt,h2,Q,db,W,gd,CK,n3,e5,z,<-hU,I,g4,e4,a4,l4,a5,tA]
   ·simp only[bg,mZ,Man.sv,dl,cT]at O Z L g5 C H E F I gd g4 ⊢
    simp only[go_sem,Q0,Q1,Q2,Q3,Q4,Q5,Q6,Q7,Q8,Q9,Qa,Qb,Qc,Qd,Qe,Qf,Qg,Qh,Qi,Qj,Qk,reduceCtorEq,reduceIte,O,Z,L,g5,C,H,E,F,jC,gv,pt,h2,Q,db,W,gd,CK,n3,e5,z,<-hU,I,g4,e4,a4,l4,a5,tA]
 ·have n3:¬(v3:Int)=1:=by omega
  obtain⟨v5,j5,h5,g5⟩:=oN B J j3 (v1+1) (by omega);have e5:=bW v1 (by omega);obtain⟨y,j6,h6,C⟩:=oN B J j5 12 (by omega);rw[c12]at C;obtain⟨v7,j7,h7,H⟩:=oN B J j6 30 (by omega);rw[c30]at H;obtain⟨v8,j8,h8,E⟩:=oN B J j7 2 (by omega);rw[c2]at E;obtain⟨v9,j9,h9,F⟩:=oN B J j8 4 (by omega);rw[cz4]at F;have a6:af.wrap (af.wrap ((y:Int)+1)+(v7:Int))=(y:Int)+1+v7:=by rw[w64 (n:=(y:Int)+1) (by omega) (by omega),w64 (by omega) (by omega)]
  obtain⟨U,hU⟩:∃U,U=af.wrap (af.wrap ((y:Int)+1)+(v7:Int)):=⟨_,rfl⟩;have a8:U=(y:Int)+1+v7:=hU.trans a6
  by_cases p8:v8=0
  ·have z:(v8:Int)=0:=by omega
   obtain⟨a0,t',tk',j',q1,q2,q3,I⟩:=l41 B J nv (v1:Int) (v5:Int) (y:Int) 1099511627776 (bP es) v9 [] j9 (by simp only[aY];omega) (fun x h=>by cases h) .clip [] (.inl ⟨rfl,rfl,rfl⟩);refine⟨⟨nv,v1,v5,y,1099511627776,es,a0⟩,j',⟨by show nv.length<=100;omega,a7,q1,hb.e,fun x h=>(q2 x h).1,i7 a3 (by show(0:Int)<=v5;omega) (by show(v5:Int)<=v1;omega) (by show(v1:Int)<=1000000;omega) (by show(0:Int)<=y;omega) (by show(y:Int)<1099511627776;omega) (by show(1099511627776:Int)<=1099511627776;omega) (by show es.length<=16;omega) q1 (a2) (a1) (fun x h=>(q2 x h).2)⟩, ?_⟩;rw[an xaD];rcases q3 with⟨rfl,rfl,rfl⟩|⟨rfl,rfl⟩
   ·simp only[bg,mZ,Man.sv,dl,cT]at O Z L g5 C H E F I gd ⊢
    simp only[go_sem,Q0,Q1,Q2,Q3,Q4,Q5,Q6,Q7,Q8,Q9,Qa,Qb,Qc,Qd,Qe,Qf,Qg,Qh,Qi,Qj,Qk,reduceCtorEq,reduceIte,O,Z,L,g5,C,H,E,F,jC,gv,pt,h2,Q,db,W,gd,CK,n3,e5,z,<-hU,I]
   ·simp only[bg,mZ,Man.sv,dl,cT]at O Z L g5 C H E F I gd ⊢
    simp only[go_sem,Q0,Q1,Q2,Q3,Q4,Q5,Q6,Q7,Q8,Q9,Qa,Qb,Qc,Qd,Qe,Qf,Qg,Qh,Qi,Qj,Qk,reduceCtorEq,reduceIte,O,Z,L,g5,C,H,E,F,jC,gv,pt,h2,Q,db,W,gd,CK,n3,e5,z,<-hU,I]
  ·have z:¬(v8:Int)=0:=by omega
   obtain⟨a0,t',tk',j',q1,q2,q3,I⟩:=l41 B J nv (v1:Int) (v5:Int) (y:Int) U (bP es) v9 [] j9 (by simp only[aY];omega) (fun x h=>by cases h) .clip [] (.inl ⟨rfl,rfl,rfl⟩);refine⟨⟨nv,v1,v5,y,U,es,a0⟩,j',⟨by show nv.length<=100;omega,a7,q1,hb.e,fun x h=>(q2 x h).1,i7 a3 (by show(0:Int)<=v5;omega) (by show(v5:Int)<=v1;omega) (by show(v1:Int)<=1000000;omega) (by show(0:Int)<=y;omega) (by show(y:Int)<U;omega) (by show(U:Int)<=1099511627776;omega) (by show es.length<=16;omega) q1 (a2) (a1) (fun x h=>(q2 x h).2)⟩, ?_⟩;rw[an xaD];rcases q3 with⟨rfl,rfl,rfl⟩|⟨rfl,rfl⟩
   ·simp only[bg,mZ,Man.sv,dl,cT]at O Z L g5 C H E F I gd ⊢
    simp only[go_sem,Q0,Q1,Q2,Q3,Q4,Q5,Q6,Q7,Q8,Q9,Qa,Qb,Qc,Qd,Qe,Qf,Qg,Qh,Qi,Qj,Qk,reduceCtorEq,reduceIte,O,Z,L,g5,C,H,E,F,jC,gv,pt,h2,Q,db,W,gd,CK,n3,e5,z,<-hU,I]
   ·simp only[bg,mZ,Man.sv,dl,cT]at O Z L g5 C H E F I gd ⊢
    simp only[go_sem,Q0,Q1,Q2,Q3,Q4,Q5,Q6,Q7,Q8,Q9,Qa,Qb,Qc,Qd,Qe,Qf,Qg,Qh,Qi,Qj,Qk,reduceCtorEq,reduceIte,O,Z,L,g5,C,H,E,F,jC,gv,pt,h2,Q,db,W,gd,CK,n3,e5,z,<-hU,I]
end
theorem xfB(x:Img)(a:Int):((sY (fm x) a).getD 0 []).length<=1000/\((sY (fm x) a).getD 1 []).length<=1000:=by
 have h:=Fh (fm x);have y:=kY (fm x);unfold sY;split
 ·exact⟨bH _,bH _⟩
 ·constructor
  ·rw[bZ]
   split
   ·omega
   ·exact bH _
  ·rw[cz,bZ]
   split
   ·omega
   ·exact bH _
theorem xhX{x:Img}(a:Int)(h:eX x=0):EvS (ofI x a):=by obtain⟨I,L,y,J,z,H⟩:=mw h;have hn:=gh z;obtain⟨v,F⟩:=Int.eq_ofNat_of_zero_le y;have O:=mh 6 v (by omega);obtain⟨E,C⟩:=xfB x a;refine⟨Gq _ _, ?_,E,C⟩;show(wK x.name x.ver).length<=1000;unfold wK;rw[F,ac,aA];show x.name.length+((dec v).length+1)<=1000;omega
end Go.Proofs.YtkcjdeofknkndaaGreatDoor
