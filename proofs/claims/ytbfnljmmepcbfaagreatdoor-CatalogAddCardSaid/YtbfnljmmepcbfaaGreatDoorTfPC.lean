/- Contracts. No condition. -/
import Derived.Test.YtbfnljmmepcbfaaGreatDoorTdPC
import Derived.Test.YtbfnljmmepcbfaaGreatDoorTePC
open Bool renaming and_eq_true -> aD, false_or -> tT, not_eq_true' -> dj
open Int renaming fdiv_eq_ediv_of_nonneg -> je, natCast_zero -> az
open Go.IntKind renaming i64 -> af, u64 -> aQ, wrap_u64 -> bV
open List renaming Pairwise -> fO, append_assoc -> ay, append_nil -> bA, cons -> mU, cons_append -> bp, drop -> iH, drop_eq_getElem_cons -> bz, drop_eq_nil_of_le -> bT, drop_length -> bK, drop_zero -> bj, flatMap_cons -> ek, foldl_nil -> iP, getD_cons_succ -> jk, getD_eq_getElem?_getD -> aa, getElem?_append_left -> bt, getElem?_append_right -> bD, getElem?_eq_getElem -> ac, getElem_mem -> bv, getElem_of_mem -> bg, length_append -> ae, length_cons -> al, length_drop -> aE, length_eq_zero_iff -> b8, length_map -> aV, length_nil -> aB, length_replicate -> dG, length_set -> nE, length_singleton -> aG, length_take -> an, map_append -> co, map_cons -> aI, map_drop -> mF, map_nil -> bO, map_take -> fN, mem_append -> am, mem_cons -> av, mem_cons_of_mem -> aw, mem_cons_self -> aA, mem_of_mem_drop -> cH, mem_of_mem_take -> bF, mem_range -> dt, mem_singleton -> bq, nil_append -> aF, pairwise_append -> dX, pairwise_cons -> bJ, pairwise_iff_getElem -> cD, replicate -> aL, take -> eS, take_append_drop -> cT, take_length -> dy
open Nat renaming add_zero -> fm, le_refl -> aK, lt_or_ge -> bQ, mul_one -> dq, sub_self -> sI, zero_add -> bY, zero_le -> aY
open Go.Op renaming bytesLess -> bN
open Option renaming getD_some -> aM
open UInt8 renaming ofInt -> cf
set_option maxRecDepth 100000
set_option maxHeartbeats 16000000
set_option linter.unusedSimpArgs false
set_option linter.unusedVariables false
namespace Go.Proofs.YtbfnljmmepcbfaaGreatDoor
open Go.Sy
open UInt8 renaming reduceLT -> Q0, reduceLE -> Q3
open Int renaming reduceToNat -> Q4, reduceLE -> Q5, reduceLT -> Q6, reduceEq -> Q7, reduceNe -> Q8, reduceNeg -> Q9, reduceAdd -> Qa, reduceSub -> Qb, reduceMul -> Qc
open Nat renaming reducePow -> Qd, reduceDiv -> Qe, reduceMod -> Qf, reduceAdd -> Qg, reduceSub -> Qh, reduceMul -> Qi, reduceLT -> Qj, reduceLeDiff -> Qk, reduceEqDiff -> Ql, reduceBEq -> Qm
theorem ku(B:d9)(C:B.length<=1000)(j n:Nat)(hn:0<n):∃v y:Nat,v<n/\call T 17 [.ptr 0 0,.int .i64 (n:Int)] [aX B j] 0=some ⟨.int .i64 (v:Int),[(0,aX B y)],[]⟩:=
 ⟨dZ B j n,cI B j,eH B j n hn,f17 B j n hn (by omega)⟩
def gT(x:Ent):List Ent->Nat
 |[]=>0
 |y::r=>if jd y x=true then gT x r+1 else 0
theorem vP(x:Ent):∀l,gT x l<=l.length
 |[]=>aK _
 |y::r=>by have:=vP x r;rw[gT,al];split<;>omega
def mO(v:d9)(y:Int)(l:List Ent)(tk:Tok):aH:= .rc [.str v,.int .i64 y,.int .i64 0,.int .i64 0,.int .i64 1099511627776,.lst 4 (di l) tk,.lst 4 [] .clip]
def mZ:aH:= .rc [.str [],.int .i64 0,.int .i64 0,.int .i64 0,.int .i64 0,.lst 4 [] .clip,.lst 4 [] .clip]
theorem xwv(I:d8)(v:d9)(ve i:Int)(l:List Ent)(x:Ent)(hl:l.length<=1000)(hd:∀y∈l,y.dig.length<=1000):∀(n k:Nat),l.length-k=n->k<=l.length->
 run T (.loop BY) ⟨[(2,.lst 4 I .no),(6,.ptr 106 0),(7,.ptr 107 0),(8,.int .i64 i),(10,.ptr 110 0),(11,.int .i64 k)],[(106,mZ),(107,mO v ve l .no),(110,.rc x.sv)],[]⟩=
  some (.x 2,⟨[(2,.lst 4 I .no),(6,.ptr 106 0),(7,.ptr 107 0),(8,.int .i64 i),(10,.ptr 110 0),(11,.int .i64 ((k+gT x (l.drop k):Nat):Int))],[(106,mZ),(107,mO v ve l .no),(110,.rc x.sv)],[]⟩):=by
 intro n;induction n with
 |zero=>
  intro k h0 h1;have:k=l.length:=by omega
  subst this;have Q:=dn l;rw[bK,ai];simp only[gT,fm,mO,mZ];simp only[go_sem,Qd,Qe,Qf,Qg,Qj,Qk,Ql,Qm,reduceIte,Q]
 |succ n ih=>
  intro k h0 h1;have O:k<l.length:=by omega
  have e1:=cr k (by omega);have F:=ih (k+1) (by omega) (by omega);have Q:=dn l;have J:=fR l k O;have W:l.drop k=l.getD k en0::l.drop (k+1):=by rw[bz O,aa,ac O];rfl
  have hm:=bP l en0 k O;have C:=xoo (l.getD k en0) x (by have:=hd _ hm;omega);have E:(k:Int)<(l.length:Int):=by omega
  rw[W,gT,ai];generalize l.getD k en0=y at*;obtain⟨x1,x2,x3,Z⟩:=x;obtain⟨y1,y2,y3,y4⟩:=y
  by_cases L:jd ⟨y1,y2,y3,y4⟩ ⟨x1,x2,x3,Z⟩=true
  ·rw[if_pos L]
   rw[L]at C;rw[show k+(gT ⟨x1,x2,x3,Z⟩ (l.drop (k+1))+1)=k+1+gT ⟨x1,x2,x3,Z⟩ (l.drop (k+1))from by omega];simp only[mO,mZ,Ent.sv]at F C J ⊢;simp only[go_sem,Qd,Qe,Qf,Qg,Qj,Qk,Ql,Qm,reduceIte,E,e1,Q,J,C,xW,F]
  ·rw[if_neg L]
   rw[eq_false_of_ne_true L]at C;rw[fm];simp only[mO,mZ,Ent.sv]at C J ⊢;simp only[go_sem,Qd,Qe,Qf,Qg,Qj,Qk,Ql,Qm,reduceIte,E,Q,J,C,xW]
theorem Gj{x:Img}(h:kF x=0):¬(oy x).length=0:=by unfold oy;rw[if_pos h,eP];omega
def uL(y:Img):Ent:=⟨y.role,y.name,y.ver,sha (oy y)⟩
def zm(x:Ent)(l:List Ent):List Ent:=if gT x l<l.length/\jd x (l.getD (gT x l) en0)=false then l else l.take (gT x l)++x::l.drop (gT x l)
def uZ(y:Img)(l:List Ent):List Ent:=if y.role=4 then l else zm (uL y) l
theorem s34(I:List Img)(hc:∀i,i<I.length->kF (I.getD i im0)=0)(a7:I.length<=1000)(v:d9)(ve:Int)(l:List Ent)(hl:l.length<=900)(hd:∀y∈l,y.dig.length<=1000)(i:Nat)(hi:i<I.length):
 run T (.loop nl) ⟨[(2,.lst 4 (jC I) .no),(6,.ptr 106 0),(7,.ptr 107 0),(8,.int .i64 i)],[(106,mZ),(107,mO v ve l .no)],[]⟩=
 run T (.loop nl) ⟨[(2,.lst 4 (jC I) .no),(6,.ptr 106 0),(7,.ptr 107 0),(8,.int .i64 ((i+1:Nat):Int))],[(106,mZ),(107,mO v ve (uZ (I.getD i im0) l) .no)],[]⟩:=by
 have L:(i:Int)<(I.length:Int):=by omega
 have hv:=ke I;have hg:=rZ I i hi;have h0:=hc i hi;have e1:=cr i (by omega);generalize I.getD i im0=y at*;obtain⟨u1,u2⟩:=CW h0;have W:=xvd y u1 u2;have a8:=zO y u1 u2;have g2:=f68 (oy y) (by omega);have b5:¬(oy y).length=0:=Gj h0;have F:¬((oy y).length:Int)=0:=by omega
 have b0:=iu (oy y);have C:=xwv (jC I) v ve i l (uL y) (by omega) hd l.length 0 (by omega) (aY _);rw[bY,bj,show((0:Nat):Int)=0 from rfl]at C;have a6:=vP (uL y) l;have J:=dn l;unfold uZ zm;generalize hE:oy y=E at*
 by_cases h4:y.role=4
 ·rw[if_pos h4]
  obtain⟨y1,y2,y3,y4⟩:=y;simp only at h4;subst h4;rw[ai];simp only[mO,mZ,Img.sv]at W hg ⊢;simp only[go_sem,Qg,Qj,Qk,Ql,Qm,reduceIte,L,hv,hg,W,BI,F,e1]
 ·rw[if_neg h4]
  have a2:uL y=⟨y.role,y.name,y.ver,sha E⟩:=by rw[<-hE];rfl
  rw[a2]at C a6 ⊢
  by_cases hk:gT ⟨y.role,y.name,y.ver,sha E⟩ l<l.length
  ·have Z:=xoo ⟨y.role,y.name,y.ver,sha E⟩ (l.getD (gT ⟨y.role,y.name,y.ver,sha E⟩ l) en0) (by show(sha E).length<=_;omega)
   have Q:=fR l _ hk;have O:(gT ⟨y.role,y.name,y.ver,sha E⟩ l:Int)<(l.length:Int):=by omega
   have e2:di (l.take (gT ⟨y.role,y.name,y.ver,sha E⟩ l)++⟨y.role,y.name,y.ver,sha E⟩::l.drop (gT ⟨y.role,y.name,y.ver,sha E⟩ l))=eS (gT ⟨y.role,y.name,y.ver,sha E⟩ l) (di l)++(Ent.sv ⟨y.role,y.name,y.ver,sha E⟩::iH (gT ⟨y.role,y.name,y.ver,sha E⟩ l) (di l)):=by rw[di,di,co,aI,fN,mF]
   generalize gT ⟨y.role,y.name,y.ver,sha E⟩ l=k at*;generalize l.getD k en0=z at*;have a1:k<=l.length:=by omega
   have tf:eS l.length (di l)=di l:=by rw[<-J,dy]
   have vA:(eS k (di l)).length=k:=by rw[an,J];omega
   have vD:(iH k (di l)).length=l.length-k:=by rw[aE,J]
   have b1:k*56<=140737488355328:=by omega
   have b3:(k+1)*56<=140737488355328:=by omega
   have b2:(k+(1+(l.length-k)))*56<=140737488355328:=by omega
   have b4:(k+1+(l.length-k))*56<=140737488355328:=by omega
   obtain⟨y1,y2,y3,y4⟩:=y;obtain⟨z1,z2,z3,z4⟩:=z
   by_cases hb:jd ⟨y1,y2,y3,sha E⟩ ⟨z1,z2,z3,z4⟩=false
   ·rw[if_pos ⟨hk,hb⟩]
    simp only at Z;rw[hb]at Z;rw[ai];simp only[mO,mZ,Img.sv,Ent.sv]at W hg C Z Q ⊢;simp only[go_sem,Qd,Qe,Qf,Qg,Qj,Qk,Ql,Qm,reduceCtorEq,reduceIte,L,hv,hg,W,BI,F,h4,g2,GJ,C,J,O,Q,Z,xW,e1]
   ·rw[if_neg (fun h=>hb h.2)]
    simp only at Z;rw[eq_true_of_ne_false hb]at Z;rw[ai];simp only[mO,e2];simp only[mO,mZ,Img.sv,Ent.sv]at W hg C Z Q ⊢;simp only[go_sem,Q4,Q5,Qd,Qe,Qf,Qg,Qj,Qk,Ql,Qm,reduceCtorEq,reduceIte,L,hv,hg,W,BI,F,h4,g2,GJ,C,J,O,a1,Q,Z,xW,e1,tf,vA,vD,b1,b3,b4]
  ·have O:¬(gT ⟨y.role,y.name,y.ver,sha E⟩ l:Int)<(l.length:Int):=by omega
   rw[if_neg (fun h=>hk h.1)]
   have e2:di (l.take (gT ⟨y.role,y.name,y.ver,sha E⟩ l)++⟨y.role,y.name,y.ver,sha E⟩::l.drop (gT ⟨y.role,y.name,y.ver,sha E⟩ l))=eS (gT ⟨y.role,y.name,y.ver,sha E⟩ l) (di l)++(Ent.sv ⟨y.role,y.name,y.ver,sha E⟩::iH (gT ⟨y.role,y.name,y.ver,sha E⟩ l) (di l)):=by rw[di,di,co,aI,fN,mF]
   generalize gT ⟨y.role,y.name,y.ver,sha E⟩ l=k at*;have a1:k<=l.length:=by omega
   have tf:eS l.length (di l)=di l:=by rw[<-J,dy]
   have vA:(eS k (di l)).length=k:=by rw[an,J];omega
   have vD:(iH k (di l)).length=l.length-k:=by rw[aE,J]
   have b1:k*56<=140737488355328:=by omega
   have b3:(k+1)*56<=140737488355328:=by omega
   have b2:(k+(1+(l.length-k)))*56<=140737488355328:=by omega
   have b4:(k+1+(l.length-k))*56<=140737488355328:=by omega
   obtain⟨y1,y2,y3,y4⟩:=y;rw[ai];simp only[mO,e2];simp only[mO,mZ,Img.sv,Ent.sv]at W hg C ⊢;simp only[go_sem,Q4,Q5,Qd,Qe,Qf,Qg,Qj,Qk,Ql,Qm,reduceCtorEq,reduceIte,L,hv,hg,W,BI,F,h4,g2,GJ,C,J,O,a1,e1,tf,vA,vD,b1,b3,b4]
structure nD(l:List Ent)(n:Nat):Prop where
 len:l.length<=n
 e:∀x∈l,x.name.length<=1000000/\x.dig.length=32
theorem KF{x z:Ent}{l:List Ent}(h:z∈zm x l):z=x\/z∈l:=by
 unfold zm at h;split at h
 ·exact .inr h
 ·rw[am,av]at h
  rcases h with h|h|h
  ·exact .inr (bF h)
  ·exact .inl h
  ·exact .inr (cH h)
theorem KM(x:Ent)(l:List Ent):(zm x l).length<=l.length+1:=by
 unfold zm;have:=vP x l;split
 ·omega
 ·rw[ae,al,an,aE];omega
theorem KV{y:Img}(h:kF y=0):y.name.length<=1000000:=(CW h).1
theorem wW{y:Img}(E:kF y=0){l:List Ent}{n:Nat}(h:nD l n):nD (uZ y l) (n+1):=by
 unfold uZ;split
 ·exact⟨Nat.le_succ_of_le h.len,h.e⟩
 ·refine⟨?_,fun x C=> ?_⟩
  ·have:=KM (uL y) l
   have:=h.len;omega
  ·rcases KF C with rfl|C
   ·exact⟨KV E,iu _⟩
   ·exact h.e x C
def uO(l:List Img)(es:List Ent):List Ent:=l.foldl (fun a y=>uZ y a) es
theorem Gl:∀(l:List Img)(es:List Ent)(n:Nat),(∀y∈l,kF y=0)->nD es n->nD (uO l es) (n+l.length)
 |[],es,n,_,h=>h
 |y::r,es,n,hl,h=>by have:=Gl r (uZ y es) (n+1) (fun z hz=>hl z (aw _ hz)) (wW (hl y aA) h);rw[al,show n+(r.length+1)=n+1+r.length from by omega];exact this
theorem xv0(C:List Img)(a1:C.length<=1000)(hi:0<C.length)(L:kF (C.getD 0 im0)=0)(h1:(C.getD 0 im0).role=1)(v:d9)(Z:Int):
 run T (.loop nl) ⟨[(2,.lst 4 (jC C) .no),(6,.ptr 106 0),(7,.ptr 107 0),(8,.int .i64 0)],[(106,mZ),(107,mO v Z [] .clip)],[]⟩=
 run T (.loop nl) ⟨[(2,.lst 4 (jC C) .no),(6,.ptr 106 0),(7,.ptr 107 0),(8,.int .i64 1)],[(106,mZ),(107,mO v Z [uL (C.getD 0 im0)] .no)],[]⟩:=by
 have J:(0:Int)<(C.length:Int):=by omega
 have hv:=ke C;have W:=rZ C 0 hi;have e1:af.wrap 1=1:=rfl;generalize C.getD 0 im0=y at*;obtain⟨O,u2⟩:=CW L;have Q:=xvd y O u2;have a2:=zO y O u2;have g2:=f68 (oy y) (by omega);have a6:¬(oy y).length=0:=Gj L;have I:¬((oy y).length:Int)=0:=by omega
 have F:uL y=⟨y.role,y.name,y.ver,sha (oy y)⟩:=rfl;rw[F];generalize oy y=E at*;obtain⟨y1,y2,y3,y4⟩:=y;simp only at h1;subst h1;rw[ai];simp only[mO,mZ,Img.sv,di,bO,aI,Ent.sv]at Q W ⊢;simp only[go_sem,Q4,Q5,Q7,Qd,Qe,Qf,Qg,Qj,Qk,Ql,Qm,reduceCtorEq,reduceIte,J,hv,W,Q,BI,I,g2,GJ];rw[ai];simp only[go_sem,Q4,Q5,Q6,Qa,Qd,Qe,Qf,Qg,Qi,Qj,Qk,Ql,Qm,reduceCtorEq,reduceIte,e1]
theorem l69(C:List Img)(I:∀i,i<C.length->kF (C.getD i im0)=0)(J:C.length<=800)(v:d9)(F:Int):∀(n i:Nat)(es:List Ent),C.length-i=n->i<=C.length->nD es i->
 run T (.loop nl) ⟨[(2,.lst 4 (jC C) .no),(6,.ptr 106 0),(7,.ptr 107 0),(8,.int .i64 i)],[(106,mZ),(107,mO v F es .no)],[]⟩=
 some (.x 0,⟨[(6,.ptr 106 0),(7,.ptr 107 0)],[(106,mZ),(107,mO v F (uO (C.drop i) es) .no)],[]⟩):=by
 intro n;induction n with
 |zero=>
  intro i es L W E;have:i=C.length:=by omega
  subst this;have Q:=ke C;rw[bK,ai];simp only[mO,mZ,uO,iP];simp only[go_sem,Qj,Ql,Qm,reduceIte,Q]
 |succ n O=>
  intro i es L W E;have hi:i<C.length:=by omega
  have hd:C.drop i=C.getD i im0::C.drop (i+1):=by rw[bz hi,aa,ac hi];rfl
  have hl:=E.len;rw[s34 C I (by omega) v F es (by omega) (fun y Z=>by have:=(E.e y Z).2;omega) i hi,O (i+1) _ (by omega) (by omega) (wW (I i hi) E),hd];rfl
theorem yi{y:List Img}(C:iG y):(y.getD 0 im0).role=1:=by
 obtain⟨i,hi,I⟩:=C.fw
 have key:∀k,k<y.length->(y.getD 0 im0).role<=(y.getD k im0).role:=by
  intro k;induction k with
  |zero=>intro _;exact Int.le_refl _
  |succ k E=>intro h;exact Int.le_trans (E (by omega)) (C.ord k h)
 have F:=key i hi;have J:=(we (C.ok 0 (by have:=C.n1;omega))).1;omega
theorem f69(y:List Img)(C:iG y)(v:d9)(E:Int):call T 69 [.str v,.int .i64 E,.lst 4 (jC y) .no] [] 0=some ⟨.agg [.str v,.int .i64 E,.int .i64 0,.int .i64 0,.int .i64 1099511627776,.lst 4 (di (uO y [])) .no,.lst 4 [] .clip],[],[]⟩:=by
 have n1:=C.n1;have n8:=C.n8;have I:=yi C;have F:=C.ok 0 (by omega);have z:=xv0 y (by omega) (by omega) F I v E
 have J:uZ (y.getD 0 im0) []=[uL (y.getD 0 im0)]:=by unfold uZ zm;rw[if_neg (by rw[I];decide),if_neg (by simp)];rfl
 have L:nD [uL (y.getD 0 im0)] 1:=by rw[<-J];exact wW F ⟨aK _,fun x O=>by cases O⟩
 have l:=l69 y C.ok (by omega) v E _ 1 [uL (y.getD 0 im0)] rfl (by omega) L
 have hd:uO (y.drop 1) [uL (y.getD 0 im0)]=uO y []:=by
  have:y=y.getD 0 im0::y.drop 1:=by
   rw[aa,ac (by omega:0<y.length)];cases y with
   |nil=>simp at n1
   |cons x r=>rfl
  conv=>rhs;rw[this]
  rw[<-J];rfl
 rw[hd]at l;rw[show((1:Nat):Int)=1 from rfl]at l;rw[l]at z;rw[aj xyD];simp only[mO,mZ,di,bO]at z;simp only[di];simp only[go_sem,Qg,Qj,Qk,Ql,Qm,reduceCtorEq,reduceIte,z]
theorem xaG{C:List Img}(E:iG C):nD (uO C []) 8:=by
 have:=Gl C [] 0 (fun y F=>by obtain⟨i,hi,rfl⟩:=bg F;have:=E.ok i hi;rwa[aa,ac hi]at this) ⟨aK _,fun x I=>by cases I⟩
 have n8:=E.n8;exact⟨by have:=this.len;omega,this.e⟩
section
open SortT
theorem f24:call T 24 [] [] 0=some ⟨.agg [.str [97,99,109,101],.str [118,50],.str [120,45,121]],[],[]⟩:=by rw[aj xy5];simp only[go_sem,Qg,Qi,Qk,Ql,Qm,reduceCtorEq,reduceIte]
theorem xvQ(v:Nat)(h:v<3):∃n:d9,(n.length<=10/\Pr.nameB n=true)/\(iH v [SV.str [97,99,109,101],.str [118,50],.str [120,45,121]]).getD 0 .undef= .str n:=by
 have:v=0\/v=1\/v=2:=by omega
 rcases this with rfl|rfl|rfl
 ·exact⟨[97,99,109,101],⟨by decide,by decide⟩,rfl⟩
 ·exact⟨[118,50],⟨by decide,by decide⟩,rfl⟩
 ·exact⟨[120,45,121],⟨by decide,by decide⟩,rfl⟩
theorem Hx(l:List Rul)(x:Rul):dS l++ [x.sv]=dS (l++ [x]):=by rw[dS,dS,co];rfl
theorem l44(B:d9)(hB:B.length<=1000)(v:d9)(m1 m2 m3 m4:Int)(es:d8)(J:Tok)(I:J= .no\/J= .clip/\es=[]):∀(n:Nat)(rs:List Rul)(j:Nat),rs.length+n<=8->(∀x∈rs,x.text.length<=20/\p6 x=0)->∀(t:Tok)(tk:t8),(t= .clip/\tk=[]/\rs=[])\/(t= .id 160/\tk=[160])->
 ∃(y:List Rul)(F:Tok)(tk':t8)(j':Nat),y.length<=8/\(∀x∈y,x.text.length<=20/\p6 x=0)/\((F= .clip/\tk'=[]/\y=[])\/(F= .id 160/\tk'=[160]))/\
 run T (.loop Cl) ⟨[(0,.ptr 0 0),(4,.ptr 104 0),(6,.ptr 106 0),(7,.int .i64 (n:Int))],[(0,aX B j),(104,mZ),(106,.rc [.str v,.int .i64 m1,.int .i64 m2,.int .i64 m3,.int .i64 m4,.lst 4 es J,.lst 4 (dS rs) t])],tk⟩=
 some (.x 0,⟨[(4,.ptr 104 0),(6,.ptr 106 0)],[(0,aX B j'),(104,mZ),(106,.rc [.str v,.int .i64 m1,.int .i64 m2,.int .i64 m3,.int .i64 m4,.lst 4 es J,.lst 4 (dS y) F])],tk'⟩):=by
 intro n;induction n with
 |zero=>
  intro rs j h1 h2 t tk O;refine⟨rs,t,tk,j,by omega,h2,O, ?_⟩;rw[ai];rcases I with rfl|⟨rfl,rfl⟩<;>rcases O with⟨rfl,rfl,rfl⟩|⟨rfl,rfl⟩
  all_goals
   simp only[aX,mZ];simp only[go_sem,Q6,Qj,Ql,Qm,reduceCtorEq,reduceIte]
 |succ n ih=>
  intro rs j h1 h2 t tk O;obtain⟨k,t1,lo,hi,j1,hk,Z,g⟩:=f70 B j hB;have Q:(0:Int)<((n+1:Nat):Int):=by omega
  have W:af.wrap (((n+1:Nat):Int)-1)=(n:Int):=wZ (by omega)
  obtain⟨y,F,tk',j',q1,q2,q3,E⟩:=ih (rs++ [⟨k,t1,lo,hi⟩]) j1 (by rw[ae,aG];omega) (fun x L=>by
   rw[am,bq]at L;rcases L with L|rfl
   ·exact h2 x L
   ·exact⟨Z,hk⟩) (.id 160) [160] (.inr ⟨rfl,rfl⟩)
  refine⟨y,F,tk',j',q1,q2,q3, ?_⟩;have hv:=dM rs;have b1:(rs.length+1)*40<=140737488355328:=by omega
  rw[<-Hx]at E;rw[ai];rcases I with rfl|⟨rfl,rfl⟩<;>rcases O with⟨rfl,rfl,rfl⟩|⟨rfl,rfl⟩
  ·have C:dS []=[]:=rfl
   simp only[aX,mZ,Rul.sv,C,aF]at g E ⊢;simp only[go_sem,Qd,Qe,Qf,Qg,Qi,Qj,Qk,Ql,Qm,reduceCtorEq,reduceIte,Q,g,xiz,W,E]
  ·simp only[aX,mZ,Rul.sv]at g E ⊢
   simp only[go_sem,Qd,Qe,Qf,Qg,Qi,Qj,Qk,Ql,Qm,reduceCtorEq,reduceIte,Q,g,xiz,hv,b1,W,E]
  ·have C:dS []=[]:=rfl
   simp only[aX,mZ,Rul.sv,C,aF]at g E ⊢;simp only[go_sem,Qd,Qe,Qf,Qg,Qi,Qj,Qk,Ql,Qm,reduceCtorEq,reduceIte,Q,g,xiz,W,E]
  ·simp only[aX,mZ,Rul.sv]at g E ⊢
   simp only[go_sem,Qd,Qe,Qf,Qg,Qi,Qj,Qk,Ql,Qm,reduceCtorEq,reduceIte,Q,g,xiz,hv,b1,W,E]
theorem Ga(x:Ent):∀l:List Ent,zm x l=Bf jd x l
 |[]=>by simp[zm,Bf,gT]
 |y::r=>by
  have I:=Ga x r;unfold Bf;rw[<-I];unfold zm
  by_cases h:jd y x=true
  ·have F:gT x (y::r)=gT x r+1:=by rw[gT,if_pos h]
   rw[F,if_pos h,jk,List.take_succ_cons,List.drop_succ_cons,al]
   by_cases C:gT x r<r.length/\jd x (r.getD (gT x r) en0)=false
   ·rw[if_pos C,if_pos ⟨by omega,C.2⟩]
   ·rw[if_neg C,if_neg (fun k=>C ⟨by omega,k.2⟩),bp]
  ·have F:gT x (y::r)=0:=by rw[gT,if_neg h]
   rw[F,if_neg h,List.getD_cons_zero,List.take_zero,bj,aF]
   by_cases E:jd x y=true
   ·rw[if_pos E,if_neg (fun k=>by rw[E]at k;exact absurd k.2 (by simp))]
   ·rw[if_neg E,if_pos ⟨by simp,by simpa using E⟩]
theorem xau{y:Img}(h:kF y=0)(E:¬y.role=4):rE (uL y):=by obtain⟨C,F,a3,a4,a5,I⟩:=we h;exact⟨C,by show y.role<=3;omega,a3,a4,iu _,a5⟩
theorem Gk:∀(l:List Img)(es:List Ent),(∀y∈l,kF y=0)->(∀x∈es,rE x)->Str jd es->(∀x∈uO l es,rE x)/\Str jd (uO l es)
 |[],es,_,h1,h2=>⟨h1,h2⟩
 |y::r,es,h0,h1,h2=>by
  have F:=h0 y aA
  have key:(∀x∈uZ y es,rE x)/\Str jd (uZ y es):=by
   unfold uZ
   by_cases C:y.role=4
   ·rw[if_pos C];exact⟨h1,h2⟩
   ·rw[if_neg C,Ga]
    refine⟨fun x E=> ?_,zl UM _ _ h2⟩;rcases (rY UM _ _ _).1 E with rfl|E
    ·exact xau F C
    ·exact h1 x E
  exact Gk r (uZ y es) (fun z hz=>h0 z (aw _ hz)) key.1 key.2
theorem Ip{C:List Img}(E:iG C):∀y∈C,kF y=0:=by intro y F;obtain⟨i,hi,rfl⟩:=bg F;have:=E.ok i hi;rwa[aa,ac hi]at this
theorem xnU{y:List Img}(C:iG y):(∀x∈uO y [],rE x)/\Str jd (uO y []):=Gk y [] (Ip C) (fun x E=>by cases E) fO.nil
structure UW(m:Man):Prop where
 v:m.vendor.length<=100
 en:m.ents.length<=8
 rn:m.ruls.length<=8
 e:∀x∈m.ents,x.name.length<=1000000/\x.dig.length=32
 r:∀x∈m.ruls,x.text.length<=20
 ok:fj m=0
theorem UW.bd{m:Man}(h:UW m):dC m:=⟨by have:=h.v;omega,by have:=h.en;omega,by have:=h.rn;omega,fun x y=>by have:=h.e x y;omega,fun x y=>by have:=h.r x y;omega⟩
theorem f44(B:d9)(Q:B.length<=1000)(j:Nat)(ch:List Img)(hc:iG ch):∃(m:Man)(j':Nat),UW m/\call T 44 [.ptr 0 0,.lst 4 (jC ch) .no] [aX B j] 0=some ⟨.agg m.sv,[(0,aX B j')],[]⟩:=by
 have gv:=f24;obtain⟨v1,j1,h1,g1⟩:=ku B Q j 4 (by omega);rw[cz4]at g1;obtain⟨v2,j2,h2,g2⟩:=ku B Q j1 3 (by omega);rw[cz3]at g2;obtain⟨nv,⟨b6,b1⟩,W⟩:=xvQ v2 h2;have a1:(v2:Int)<3:=by omega
 have gd:=f69 ch hc nv (v1:Int);have hb:=xaG hc;obtain⟨a8,b0⟩:=xnU hc;generalize uO ch []=es at*;obtain⟨v3,j3,h3,Z⟩:=ku B Q j2 3 (by omega);rw[cz3]at Z;have a7:=dn es;have b4:=hb.len;have e4:=cr es.length (by omega)
 by_cases p3:v3=1
 ·have n3:(v3:Int)=1:=by omega
  obtain⟨v4,j4,h4,g4⟩:=ku B Q j3 (es.length+1) (by omega);have b7:v4<=es.length:=by omega
  have a6:(v4:Int)<=(es.length:Int):=by omega
  have tA:eS v4 (di es)=di (es.take v4):=by rw[di,di,fN]
  obtain⟨v5,j5,h5,g5⟩:=ku B Q j4 (v1+1) (by omega);have e5:=cr v1 (by omega);obtain⟨C,j6,h6,J⟩:=ku B Q j5 12 (by omega);rw[c12]at J;obtain⟨v7,j7,h7,L⟩:=ku B Q j6 30 (by omega);rw[c30]at L;obtain⟨v8,j8,h8,F⟩:=ku B Q j7 2 (by omega);rw[c2]at F;obtain⟨v9,j9,h9,I⟩:=ku B Q j8 4 (by omega);rw[cz4]at I;have b3:af.wrap (af.wrap ((C:Int)+1)+(v7:Int))=(C:Int)+1+v7:=by rw[w64 (n:=(C:Int)+1) (by omega) (by omega),w64 (by omega) (by omega)]
  obtain⟨U,hU⟩:∃U,U=af.wrap (af.wrap ((C:Int)+1)+(v7:Int)):=⟨_,rfl⟩;have b5:U=(C:Int)+1+v7:=hU.trans b3
  by_cases p8:v8=0
  ·have E:(v8:Int)=0:=by omega
   obtain⟨a2,t',tk',j',q1,q2,q3,O⟩:=l44 B Q nv (v1:Int) (v5:Int) (C:Int) 1099511627776 (di (es.take v4)) .no (.inl rfl) v9 [] j9 (by simp only[aB];omega) (fun x y=>by cases y) .clip [] (.inl ⟨rfl,rfl,rfl⟩);refine⟨⟨nv,v1,v5,C,1099511627776,es.take v4,a2⟩,j',⟨by show nv.length<=100;omega,by show(es.take v4).length<=8;rw[an];omega,q1,fun x y=>hb.e x (bF y),fun x y=>(q2 x y).1,nO b1 (by show(0:Int)<=v5;omega) (by show(v5:Int)<=v1;omega) (by show(v1:Int)<=1000000;omega) (by show(0:Int)<=C;omega) (by show(C:Int)<1099511627776;omega) (by show(1099511627776:Int)<=1099511627776;omega) (by show(es.take v4).length<=16;rw[an];omega) q1 (fun x y=>a8 x (bF y)) (fO.sublist (List.take_sublist _ _) b0) (fun x y=>(q2 x y).2)⟩, ?_⟩;rw[aj xim];rcases q3 with⟨rfl,rfl,rfl⟩|⟨rfl,rfl⟩
   ·simp only[aX,mZ,Man.sv,dS,bO]at g1 g2 Z g5 J L F I O gd g4 ⊢
    simp only[go_sem,Q4,Q5,Qd,Qe,Qf,Qg,Qi,Qj,Qk,Ql,Qm,reduceCtorEq,reduceIte,g1,g2,Z,g5,J,L,F,I,gO,gv,GO,a1,dq,W,gd,GI,n3,e5,E,<-hU,O,g4,e4,a7,a6,tA]
   ·simp only[aX,mZ,Man.sv,dS,bO]at g1 g2 Z g5 J L F I O gd g4 ⊢
    simp only[go_sem,Q4,Q5,Qd,Qe,Qf,Qg,Qi,Qj,Qk,Ql,Qm,reduceCtorEq,reduceIte,g1,g2,Z,g5,J,L,F,I,gO,gv,GO,a1,dq,W,gd,GI,n3,e5,E,<-hU,O,g4,e4,a7,a6,tA]
  ·have E:¬(v8:Int)=0:=by omega
   obtain⟨a2,t',tk',j',q1,q2,q3,O⟩:=l44 B Q nv (v1:Int) (v5:Int) (C:Int) U (di (es.take v4)) .no (.inl rfl) v9 [] j9 (by simp only[aB];omega) (fun x y=>by cases y) .clip [] (.inl ⟨rfl,rfl,rfl⟩);refine⟨⟨nv,v1,v5,C,U,es.take v4,a2⟩,j',⟨by show nv.length<=100;omega,by show(es.take v4).length<=8;rw[an];omega,q1,fun x y=>hb.e x (bF y),fun x y=>(q2 x y).1,nO b1 (by show(0:Int)<=v5;omega) (by show(v5:Int)<=v1;omega) (by show(v1:Int)<=1000000;omega) (by show(0:Int)<=C;omega) (by show(C:Int)<U;omega) (by show(U:Int)<=1099511627776;omega) (by show(es.take v4).length<=16;rw[an];omega) q1 (fun x y=>a8 x (bF y)) (fO.sublist (List.take_sublist _ _) b0) (fun x y=>(q2 x y).2)⟩, ?_⟩;rw[aj xim];rcases q3 with⟨rfl,rfl,rfl⟩|⟨rfl,rfl⟩
   ·simp only[aX,mZ,Man.sv,dS,bO]at g1 g2 Z g5 J L F I O gd g4 ⊢
    simp only[go_sem,Q4,Q5,Qd,Qe,Qf,Qg,Qi,Qj,Qk,Ql,Qm,reduceCtorEq,reduceIte,g1,g2,Z,g5,J,L,F,I,gO,gv,GO,a1,dq,W,gd,GI,n3,e5,E,<-hU,O,g4,e4,a7,a6,tA]
   ·simp only[aX,mZ,Man.sv,dS,bO]at g1 g2 Z g5 J L F I O gd g4 ⊢
    simp only[go_sem,Q4,Q5,Qd,Qe,Qf,Qg,Qi,Qj,Qk,Ql,Qm,reduceCtorEq,reduceIte,g1,g2,Z,g5,J,L,F,I,gO,gv,GO,a1,dq,W,gd,GI,n3,e5,E,<-hU,O,g4,e4,a7,a6,tA]
 ·have n3:¬(v3:Int)=1:=by omega
  obtain⟨v5,j5,h5,g5⟩:=ku B Q j3 (v1+1) (by omega);have e5:=cr v1 (by omega);obtain⟨C,j6,h6,J⟩:=ku B Q j5 12 (by omega);rw[c12]at J;obtain⟨v7,j7,h7,L⟩:=ku B Q j6 30 (by omega);rw[c30]at L;obtain⟨v8,j8,h8,F⟩:=ku B Q j7 2 (by omega);rw[c2]at F;obtain⟨v9,j9,h9,I⟩:=ku B Q j8 4 (by omega);rw[cz4]at I;have b3:af.wrap (af.wrap ((C:Int)+1)+(v7:Int))=(C:Int)+1+v7:=by rw[w64 (n:=(C:Int)+1) (by omega) (by omega),w64 (by omega) (by omega)]
  obtain⟨U,hU⟩:∃U,U=af.wrap (af.wrap ((C:Int)+1)+(v7:Int)):=⟨_,rfl⟩;have b5:U=(C:Int)+1+v7:=hU.trans b3
  by_cases p8:v8=0
  ·have E:(v8:Int)=0:=by omega
   obtain⟨a2,t',tk',j',q1,q2,q3,O⟩:=l44 B Q nv (v1:Int) (v5:Int) (C:Int) 1099511627776 (di es) .no (.inl rfl) v9 [] j9 (by simp only[aB];omega) (fun x y=>by cases y) .clip [] (.inl ⟨rfl,rfl,rfl⟩);refine⟨⟨nv,v1,v5,C,1099511627776,es,a2⟩,j',⟨by show nv.length<=100;omega,b4,q1,hb.e,fun x y=>(q2 x y).1,nO b1 (by show(0:Int)<=v5;omega) (by show(v5:Int)<=v1;omega) (by show(v1:Int)<=1000000;omega) (by show(0:Int)<=C;omega) (by show(C:Int)<1099511627776;omega) (by show(1099511627776:Int)<=1099511627776;omega) (by show es.length<=16;omega) q1 (a8) (b0) (fun x y=>(q2 x y).2)⟩, ?_⟩;rw[aj xim];rcases q3 with⟨rfl,rfl,rfl⟩|⟨rfl,rfl⟩
   ·simp only[aX,mZ,Man.sv,dS,bO]at g1 g2 Z g5 J L F I O gd ⊢
    simp only[go_sem,Qd,Qe,Qf,Qg,Qi,Qj,Qk,Ql,Qm,reduceCtorEq,reduceIte,g1,g2,Z,g5,J,L,F,I,gO,gv,GO,a1,dq,W,gd,GI,n3,e5,E,<-hU,O]
   ·simp only[aX,mZ,Man.sv,dS,bO]at g1 g2 Z g5 J L F I O gd ⊢
    simp only[go_sem,Qd,Qe,Qf,Qg,Qi,Qj,Qk,Ql,Qm,reduceCtorEq,reduceIte,g1,g2,Z,g5,J,L,F,I,gO,gv,GO,a1,dq,W,gd,GI,n3,e5,E,<-hU,O]
  ·have E:¬(v8:Int)=0:=by omega
   obtain⟨a2,t',tk',j',q1,q2,q3,O⟩:=l44 B Q nv (v1:Int) (v5:Int) (C:Int) U (di es) .no (.inl rfl) v9 [] j9 (by simp only[aB];omega) (fun x y=>by cases y) .clip [] (.inl ⟨rfl,rfl,rfl⟩);refine⟨⟨nv,v1,v5,C,U,es,a2⟩,j',⟨by show nv.length<=100;omega,b4,q1,hb.e,fun x y=>(q2 x y).1,nO b1 (by show(0:Int)<=v5;omega) (by show(v5:Int)<=v1;omega) (by show(v1:Int)<=1000000;omega) (by show(0:Int)<=C;omega) (by show(C:Int)<U;omega) (by show(U:Int)<=1099511627776;omega) (by show es.length<=16;omega) q1 (a8) (b0) (fun x y=>(q2 x y).2)⟩, ?_⟩;rw[aj xim];rcases q3 with⟨rfl,rfl,rfl⟩|⟨rfl,rfl⟩
   ·simp only[aX,mZ,Man.sv,dS,bO]at g1 g2 Z g5 J L F I O gd ⊢
    simp only[go_sem,Qd,Qe,Qf,Qg,Qi,Qj,Qk,Ql,Qm,reduceCtorEq,reduceIte,g1,g2,Z,g5,J,L,F,I,gO,gv,GO,a1,dq,W,gd,GI,n3,e5,E,<-hU,O]
   ·simp only[aX,mZ,Man.sv,dS,bO]at g1 g2 Z g5 J L F I O gd ⊢
    simp only[go_sem,Qd,Qe,Qf,Qg,Qi,Qj,Qk,Ql,Qm,reduceCtorEq,reduceIte,g1,g2,Z,g5,J,L,F,I,gO,gv,GO,a1,dq,W,gd,GI,n3,e5,E,<-hU,O]
end
def li(y:t8):d9:=y.flatMap fun t=>i7 t++ [10]
theorem HG(y:t8)(t:Nat):li (y++ [t])=li y++(i7 t++ [10]):=by simp[li]
theorem uw(t:Nat):(i7 t).length<=8:=by unfold i7;split<;>simp
theorem yQ(y:t8):(li y).length<=9*y.length:=by
 induction y with
 |nil=>simp[li]
 |cons t r C=>rw[li,ek,ae,ae,al,al,aB];have:=uw t;unfold li at C;omega
theorem KL(t:Nat)(r:d9)(o:List d9)(y:o.length<4):lnF (i7 t++10::r) o []=lnF r (o++ [i7 t]) []:=by
 have h:¬(4:Int)<=o.length:=by omega
 unfold i7;split<;>simp[lnF,h]
theorem F2:∀(y:t8)(o:List d9),o.length+y.length<=4->lnF (li y) o []=some (o++y.map i7,[])
 |[],o,_=>by simp[li,lnF]
 |t::r,o,h=>by
  rw[al]at h;have e:li (t::r)=i7 t++10::li r:=by simp[li]
  rw[e,KL t _ o (by omega),F2 r _ (by rw[ae,aG];omega)];simp
theorem A9(y:t8)(h:y.length<=4):kZ (li y)=y.map i7:=by unfold kZ;rw[F2 y [] (by simpa using h)];simp
theorem l72(B:d9)(W:B.length<=1000):∀(k:Nat)(y:t8)(j:Nat),k<=4->y.length+k<=100->∃us E,us.length=k/\
 run T (.loop Vo) ⟨[(0,.ptr 0 0),(3,.byt (li y) (.id 103)),(4,.int .i64 k)],[(0,aX B j)],[103]⟩=some (.x 0,⟨[(3,.byt (li (y++us)) (.id 103))],[(0,aX B E)],[103]⟩):=by
 intro k;induction k with
 |zero=>intro y j Q O;refine⟨[],j,rfl, ?_⟩;rw[ai,bA];simp only[go_sem,Q6,Qj,Ql,Qm,reduceCtorEq,reduceIte]
 |succ k J=>
  intro y j Q O;obtain⟨us,E,hu,C⟩:=J (y++ [dZ B j 6]) (cI B j) (by omega) (by rw[ae,aG];omega);refine⟨dZ B j 6::us,E,by rw[al,hu], ?_⟩;have g:=xvc B j W;have Z:=yQ y;have L:=uw (dZ B j 6);have F:af.wrap (((k+1:Nat):Int)-1)=(k:Int):=wZ (by omega)
  have I:(0:Int)<((k+1:Nat):Int):=by omega
  have c1:(li y).length+(i7 (dZ B j 6)).length<=140737488355328:=by omega
  have c2:(li y).length+(i7 (dZ B j 6)).length+1<=140737488355328:=by omega
  rw[HG]at C;rw[show y++dZ B j 6::us=y++ [dZ B j 6]++us from by simp];rw[ai];simp only[aX]at g C ⊢;simp only[go_sem,Qg,Qi,Qj,Qk,Ql,Qm,reduceCtorEq,reduceIte,I,g,xi2,c1,c2,F,C]
theorem f72(B:d9)(i:Nat)(E:B.length<=1000):∃y j,1<=y.length/\y.length<=4/\call T 72 [.ptr 0 0] [aX B i] 0=some ⟨.byt (li y) .no,[(0,aX B j)],[]⟩:=by
 have g:=f17 B i 4 (by omega) (by omega);have F:=eH B i 4 (by omega);obtain⟨us,j,hu,h⟩:=l72 B E (1+dZ B i 4) [] (cI B i) (by omega) (by simp only[aB];omega);have e:af.wrap (1+((dZ B i 4:Nat):Int))=((1+dZ B i 4:Nat):Int):=wZ (by omega)
 refine⟨us,j,by omega,by omega, ?_⟩;have C:li []=[]:=rfl;rw[C,aF]at h;rw[cz4]at g;simp only[aX]at g h ⊢;rw[aj xyB];simp only[go_sem,Qg,Qi,Qj,Qk,Ql,Qm,reduceCtorEq,reduceIte,g,gO,e,h]
def gE:Nat->d9
 |0=> [97]
 |1=> [103,114,117,98]
 |2=> [108,105,110,117,120]
 |3=> [110,101,116,45,48]
 |_=> [116,119,101,108,118,101,45,98,121,116,101,115]
theorem f71:call T 71 [] [] 0=some ⟨.agg [.str (gE 0),.str (gE 1),.str (gE 2),.str (gE 3),.str (gE 4)],[],[]⟩:=by rw[aj xyC];simp only[go_sem,Qg,Qi,Qk,Ql,Qm,reduceCtorEq,reduceIte,gE]
theorem KC:∀v,v<5->Pr.nameB (gE v)=true:=by decide
theorem l45(B:d9)(hB:B.length<=1000)(role J:Int)(F:d9):∀(n i:Nat)(l:d9)(j:Nat),l.length-i=n->i<=l.length->l.length<=6->∃y E,y.length=l.length/\
 run T (.loop xx) ⟨[(0,.ptr 0 0),(4,.ptr 104 0),(5,.ptr 105 0),(6,.int .i64 i)],[(0,aX B j),(104,.rc [.int .i64 0,.str [],.int .i64 0,.byt [] .clip]),(105,.rc [.int .i64 role,.str F,.int .i64 J,.psl 130 1 0 l.length (some l.length)]),(130,.bar l)],[]⟩=
  some (.x 0,⟨[(4,.ptr 104 0),(5,.ptr 105 0)],[(0,aX B E),(104,.rc [.int .i64 0,.str [],.int .i64 0,.byt [] .clip]),(105,.rc [.int .i64 role,.str F,.int .i64 J,.psl 130 1 0 l.length (some l.length)]),(130,.bar y)],[]⟩):=by
 intro n;induction n with
 |zero=>
  intro i l j L Z W;have:i=l.length:=by omega
  refine⟨l,j,rfl, ?_⟩;subst this;rw[ai];simp only[go_sem,Qg,Qj,Ql,Qm,reduceCtorEq,reduceIte]
 |succ n Q=>
  intro i l j L Z W;have hi:i<l.length:=by omega
  have O:=cr i (by omega);have g:=f17 B j 256 (by omega) (by omega);rw[xx6]at g;obtain⟨y,E,I,C⟩:=Q (i+1) (l.set i (cf ((dZ B j 256:Nat):Int))) (cI B j) (by rw[nE];omega) (by rw[nE];omega) (by rw[nE];omega);rw[nE]at I C;refine⟨y,E,I, ?_⟩;rw[ai];simp only[aX]at g C ⊢;simp only[go_sem,Qd,Qe,Qf,Qg,Qi,Qj,Qk,Ql,Qm,reduceCtorEq,reduceIte,hi,O,g,gO,C]
theorem f45(B:d9)(j:Nat)(hB:B.length<=1000)(role:Int)(h1:1<=role)(h4:role<=4):∃(x:Img)(F:Nat),kF x=0/\x.role=role/\
 call T 45 [.ptr 0 0,.int .i64 role] [aX B j] 0=some ⟨.agg x.sv,[(0,aX B F)],[]⟩:=by
 have g1:=f71;have g2:=f17 B j 5 (by omega) (by omega);have v2:=eH B j 5 (by omega);have g3:=f17 B (cI B j) 5 (by omega) (by omega);have v3:=eH B (cI B j) 5 (by omega);have g4:=f17 B (cI B (cI B j)) 9 (by omega) (by omega);have g5:=f17 B (cI B (cI B (cI B j))) 3 (by omega) (by omega);have v5:=eH B (cI B (cI B (cI B j))) 3 (by omega);rw[cz5]at g2 g3;rw[c9]at g4;rw[cz3]at g5;generalize dZ B j 5=y at*;generalize dZ B (cI B j) 5=w3 at*;generalize dZ B (cI B (cI B j)) 9=w4 at*;generalize dZ B (cI B (cI B (cI B j))) 3=w5 at*;simp only[aX]at g2 g3 g4 g5
 have hN:(iH y [SV.str (gE 0),.str (gE 1),.str (gE 2),.str (gE 3),.str (gE 4)]).getD 0 .undef= .str (gE y):=by
  have hn:y=0\/y=1\/y=2\/y=3\/y=4:=by omega
  rcases hn with rfl|rfl|rfl|rfl|rfl<;>rfl
 have O:(y:Int)<5:=by omega
 have em:y*1=y:=dq _;have a1:=KC y v2;have ew:af.wrap (1000000-(w5:Int))=1000000-(w5:Int):=w64 (by omega) (by omega)
 have key:∀(I:Nat)(E:Int),0<=E->E<=1000000->∃(x:Img)(F:Nat),kF x=0/\x.role=role/\x.name=gE y/\x.ver=E/\
  (role=4->call T 72 [.ptr 0 0] [aX B I] 0=some ⟨.byt x.pay .no,[(0,aX B F)],[]⟩)/\
  (¬role=4->∃(j1 n:Nat),n<7/\call T 17 [.ptr 0 0,.int .i64 7] [aX B I] 0=some ⟨.int .i64 (n:Int),[(0,aX B j1)],[]⟩/\x.pay.length=n/\
   run T (.loop xx) ⟨[(0,.ptr 0 0),(4,.ptr 104 0),(5,.ptr 105 0),(6,.int .i64 0)],[(0,aX B j1),(104,.rc [.int .i64 0,.str [],.int .i64 0,.byt [] .clip]),(105,.rc [.int .i64 role,.str (gE y),.int .i64 E,.psl 130 1 0 n (some n)]),(130,.bar (aL n 0))],[]⟩=
    some (.x 0,⟨[(4,.ptr 104 0),(5,.ptr 105 0)],[(0,aX B F),(104,.rc [.int .i64 0,.str [],.int .i64 0,.byt [] .clip]),(105,.rc [.int .i64 role,.str (gE y),.int .i64 E,.psl 130 1 0 n (some n)]),(130,.bar x.pay)],[]⟩)):=by
  intro I E a7 a6
  by_cases C:role=4
  ·obtain⟨ts,F,t1,t2,t3⟩:=f72 B I hB
   refine⟨⟨role,gE y,E,li ts⟩,F, ?_,rfl,rfl,rfl,fun _=>t3,fun h=>absurd C h⟩;have hl:=yQ ts;have hL:=A9 ts t2;unfold kF;rw[if_neg (by show ¬role<1;omega),if_neg (by show ¬4<role;omega),if_neg (by show ¬E<0;omega),if_neg (by show ¬1000000<E;omega),if_neg (by show ¬Pr.nameB (gE y)=false;rw[a1];simp),if_neg (by show ¬(64:Int)<(li ts).length;omega)];show(if role=4 then(if((kZ (li ts)).length:Int)=0 then 40 else 0)else 0)=(0:Int);rw[if_pos C,hL,if_neg];rw[aV];omega
  ·have g7:=f17 B I 7 (by omega) (by omega)
   have v7:=eH B I 7 (by omega);rw[show((7:Nat):Int)=7 from rfl]at g7;obtain⟨l',F,q1,q2⟩:=l45 B hB role E (gE y) (dZ B I 7) 0 (aL (dZ B I 7) 0) (cI B I) (by rw[dG];rfl) (aY _) (by rw[dG];omega);rw[dG]at q1 q2;refine⟨⟨role,gE y,E,l'⟩,F, ?_,rfl,rfl,rfl,fun h=>absurd h C,fun _=>⟨cI B I,dZ B I 7,v7,g7,q1,q2⟩⟩;unfold kF;rw[if_neg (by show ¬role<1;omega),if_neg (by show ¬4<role;omega),if_neg (by show ¬E<0;omega),if_neg (by show ¬1000000<E;omega),if_neg (by show ¬Pr.nameB (gE y)=false;rw[a1];simp),if_neg (by show ¬(64:Int)<l'.length;omega)];show(if role=4 then(if((kZ l').length:Int)=0 then 40 else 0)else 0)=(0:Int);rw[if_neg C]
 by_cases p4:w4=8
 ·have J:(w4:Int)=8:=by omega
  obtain⟨⟨xr,xn,xv,L⟩,F,e0,e1,e2,e3,e4,e5⟩:=key (cI B (cI B (cI B (cI B j)))) (1000000-(w5:Int)) (by omega) (by omega);simp only at e1 e2 e3 e4 e5;subst e1 e2 e3;refine⟨_,F,e0,rfl, ?_⟩;rw[aj xvw]
  by_cases C:xr=4
  ·have t:=e4 C
   simp only[aX,Img.sv]at t ⊢;simp only[go_sem,Qd,Qe,Qf,Qg,Qi,Qj,Qk,Ql,Qm,reduceCtorEq,reduceIte,g1,xiy,g2,gO,g3,g4,g5,J,ew,C,hN,O,em,t,xvF]
  ·obtain⟨j1,n,hn,t1,t2,t3⟩:=e5 C
   have Q:L.length=n:=t2;have Z:n<=L.length:=by omega
   have hq:eS n L=L:=by rw[<-Q,dy]
   have a2:(n:Int)<7:=by omega
   have W:(n:Int)<=140737488355328:=by omega
   simp only[aX,Img.sv]at t1 t3 ⊢;simp only[go_sem,Qd,Qe,Qf,Qg,Qi,Qj,Qk,Ql,Qm,reduceCtorEq,reduceIte,g1,xiy,g2,gO,g3,g4,g5,J,ew,C,hN,O,em,t1,W,t3,Z,hq]
 ·have J:¬(w4:Int)=8:=by omega
  obtain⟨⟨xr,xn,xv,L⟩,F,e0,e1,e2,e3,e4,e5⟩:=key (cI B (cI B (cI B j))) (w3:Int) (by omega) (by omega);simp only at e1 e2 e3 e4 e5;subst e1 e2 e3;refine⟨_,F,e0,rfl, ?_⟩;rw[aj xvw]
  by_cases C:xr=4
  ·have t:=e4 C
   simp only[aX,Img.sv]at t ⊢;simp only[go_sem,Qd,Qe,Qf,Qg,Qi,Qj,Qk,Ql,Qm,reduceCtorEq,reduceIte,g1,xiy,g2,gO,g3,g4,J,C,hN,O,em,t,xvF]
  ·obtain⟨j1,n,hn,t1,t2,t3⟩:=e5 C
   have Q:L.length=n:=t2;have Z:n<=L.length:=by omega
   have hq:eS n L=L:=by rw[<-Q,dy]
   have a2:(n:Int)<7:=by omega
   have W:(n:Int)<=140737488355328:=by omega
   simp only[aX,Img.sv]at t1 t3 ⊢;simp only[go_sem,Qd,Qe,Qf,Qg,Qi,Qj,Qk,Ql,Qm,reduceCtorEq,reduceIte,g1,xiy,g2,gO,g3,g4,J,C,hN,O,em,t1,W,t3,Z,hq]
theorem H5(l:List Img)(i:Nat)(h:i<l.length):l.getD i im0∈l:=by rw[aa,ac h];exact bv _
theorem kL{α:Type}(l:List α)(x d:α)(i:Nat)(h:i<l.length):(l++ [x]).getD i d=l.getD i d:=by rw[aa,aa,bt h]
theorem pV{α:Type}(l:List α)(x d:α):(l++ [x]).getD l.length d=x:=by rw[aa,bD (aK _),sI];rfl
structure ChP(l:List Img)(role:Int):Prop where
 ok:∀i,i<l.length->kF (l.getD i im0)=0
 le:∀i,i<l.length->(l.getD i im0).role<=role
 ord:∀i,i+1<l.length->(l.getD i im0).role<=(l.getD (i+1) im0).role
 dup:∀i,i<l.length->∀k,k<i->(l.getD k im0).role=(l.getD i im0).role->(l.getD k im0).name≠(l.getD i im0).name
def agn(x:Img)(l:List Img):Bool:=l.any fun y=>decide (y.role=x.role)&&decide (y.name=x.name)
theorem ChP.snoc{l:List Img}{role:Int}(h:ChP l role){x:Img}(O:kF x=0)(I:x.role=role)(E:agn x l=false):ChP (l++ [x]) role:=by
 have F:(l++ [x]).length=l.length+1:=by simp
 refine⟨fun i hi=> ?_,fun i hi=> ?_,fun i hi=> ?_,fun i hi k C=> ?_⟩
 ·rcases bQ i l.length with y|y
  ·rw[kL l x im0 i y];exact h.ok i y
  ·rw[show i=l.length from by omega,pV];exact O
 ·rcases bQ i l.length with y|y
  ·rw[kL l x im0 i y];exact h.le i y
  ·rw[show i=l.length from by omega,pV,I];exact Int.le_refl _
 ·rw[kL l x im0 i (by omega)]
  rcases bQ (i+1) l.length with y|y
  ·rw[kL l x im0 (i+1) y];exact h.ord i y
  ·rw[show i+1=l.length from by omega,pV,I];exact h.le i (by omega)
 ·rcases bQ i l.length with y|y
  ·rw[kL l x im0 i y,kL l x im0 k (by omega)];exact h.dup i y k C
  ·rw[show i=l.length from by omega]at C ⊢
   rw[pV,kL l x im0 k C];intro J L;unfold agn at E;rw[List.any_eq_false]at E;have:=E (l.getD k im0) (H5 l k C);rw[decide_eq_true J,decide_eq_true L]at this;exact this rfl
theorem ChP.up{l:List Img}{r y:Int}(h:ChP l r)(C:r<=y):ChP l y:=⟨h.ok,fun i hi=>Int.le_trans (h.le i hi) C,h.ord,h.dup⟩
theorem xwT(B:d9)(j:Nat)(l:List Img)(x:Img)(role n:Int)(hl:l.length<=100):∀(k i:Nat)(F:Bool),l.length-i=k->i<=l.length->
 run T (.loop Cq) ⟨[(3,.ptr 12100 0),(4,.lst 4 (jC l) (.id 104)),(5,.int .i64 role),(6,.int .i64 n),(7,.ptr 107 0),(8,.bool F),(9,.int .i64 i)],[(107,.rc x.sv),(12100,aX B j)],[104]⟩=
 some (.x 4,⟨[(3,.ptr 12100 0),(4,.lst 4 (jC l) (.id 104)),(5,.int .i64 role),(6,.int .i64 n),(7,.ptr 107 0),(8,.bool (F||agn x (l.drop i)))],[(107,.rc x.sv),(12100,aX B j)],[104]⟩):=by
 intro k;induction k with
 |zero=>
  intro i F Q h1;have:i=l.length:=by omega
  subst this;have I:=ke l;obtain⟨a,b,c,d⟩:=x;simp only[aX,Img.sv]at*;rw[ai,bK];simp only[go_sem,Qj,Ql,Qm,reduceIte,I,agn,List.any_nil,Bool.or_false]
 |succ k W=>
  intro i F Q h1;have hi:i<l.length:=by omega
  have J:=cr i (by omega);have C:=W (i+1) (F||(decide ((l.getD i im0).role=x.role)&&decide ((l.getD i im0).name=x.name))) (by omega) (by omega);have I:=ke l;have O:=rZ l i hi;have hd:l.drop i=l.getD i im0::l.drop (i+1):=by rw[bz hi,aa,ac hi];rfl
  have Z:agn x (l.drop i)=((decide ((l.getD i im0).role=x.role)&&decide ((l.getD i im0).name=x.name))||agn x (l.drop (i+1))):=by rw[hd];rfl
  rw[Z,<-Bool.or_assoc];rw[ai];generalize agn x (l.drop (i+1))=R at*;generalize l.getD i im0=y at*;obtain⟨a,b,c,d⟩:=x;obtain⟨a2,b2,c2,d2⟩:=y;simp only[aX,Img.sv]at*;cases F with
  |true=>simp only[Bool.true_or]at C ⊢;simp only[go_sem,Qd,Qe,Qf,Qj,Ql,Qm,reduceIte,hi,J,I,C]
  |false=>
   by_cases E:a2=a
   ·by_cases L:b2=b
    ·rw[decide_eq_true E,decide_eq_true L]at C ⊢
     simp only[Bool.and_self,tT,Bool.true_or]at C ⊢;simp only[go_sem,Qd,Qe,Qf,Qg,Qj,Qk,Ql,Qm,reduceIte,hi,J,I,O,E,L,C]
    ·rw[decide_eq_true E,decide_eq_false L]at C ⊢
     simp only[Bool.and_false,tT]at C ⊢;simp only[go_sem,Qd,Qe,Qf,Qg,Qj,Qk,Ql,Qm,reduceIte,hi,J,I,O,E,L,C]
   ·rw[decide_eq_false E]at C ⊢
    simp only[Bool.false_and,tT]at C ⊢;simp only[go_sem,Qd,Qe,Qf,Qg,Qj,Qk,Ql,Qm,reduceIte,hi,J,I,O,E,C]
theorem uB(l:List Img)(x:Img):jC l++ [x.sv]=jC (l++ [x]):=by rw[jC,jC,co];rfl
theorem Lx{x:Img}{l:List Img}(h:agn x l=true):∃i,i<l.length/\(l.getD i im0).role=x.role:=by unfold agn at h;rw[List.any_eq_true]at h;obtain⟨y,C,h⟩:=h;obtain⟨i,hi,rfl⟩:=bg C;refine⟨i,hi, ?_⟩;rw[aD]at h;rw[aa,ac hi];exact of_decide_eq_true h.1
theorem xhW(B:d9)(hB:B.length<=1000)(role:Int)(r1:1<=role)(r4:role<=4):∀(n:Nat)(l:List Img)(j:Nat),l.length+n<=8->ChP l role->
 ∃r E,ChP (l++r) role/\r.length<=n/\(1<=n->∃i,i<(l++r).length/\((l++r).getD i im0).role=role)/\
 run T (.loop Cp) ⟨[(3,.ptr 12100 0),(4,.lst 4 (jC l) (.id 104)),(5,.int .i64 role),(6,.int .i64 (n:Int))],[(12100,aX B j)],[104]⟩=
  some (.x 2,⟨[(3,.ptr 12100 0),(4,.lst 4 (jC (l++r)) (.id 104)),(5,.int .i64 role)],[(12100,aX B E)],[104]⟩):=by
 intro n;induction n with
 |zero=>intro l j hl I;refine⟨[],j,by rw[bA];exact I,aY _,fun h=>absurd h (by omega), ?_⟩;rw[bA,ai];simp only[aX];simp only[go_sem,Q6,Qj,Ql,Qm,reduceIte]
 |succ n Q=>
  intro l j hl I;obtain⟨x,J,hx,L,g⟩:=f45 B j hB role r1 r4;have y:=xwT B J l x role ((n+1:Nat):Int) (by omega) l.length 0 false (by omega) (aY _);have W:(0:Int)<((n+1:Nat):Int):=by omega
  have Z:af.wrap (((n+1:Nat):Int)-1)=(n:Int):=wZ (by omega)
  have hv:=ke l;have hs:=uB l x;have c1:(l.length+1)*56<=140737488355328:=by omega
  rw[bj,tT,show((0:Nat):Int)=0 from rfl]at y;cases ha:agn x l with
  |true=>
   rw[ha]at y;obtain⟨r,E,F,q2,O,C⟩:=Q l J (by omega) I;refine⟨r,E,F,by omega,fun _=> ?_, ?_⟩
   ·obtain⟨i,hi,e⟩:=Lx ha
    refine⟨i,by rw[ae];omega, ?_⟩;rw[aa,bt hi,<-aa,e,L]
   ·rw[ai]
    obtain⟨a,b,c,d⟩:=x;simp only[aX,Img.sv]at g y C hs ⊢;simp only[go_sem,Qg,Qi,Qj,Qk,Ql,Qm,reduceIte,W,g,xvH,Z,y,C]
  |false=>
   rw[ha]at y;obtain⟨r,E,F,q2,O,C⟩:=Q (l++ [x]) J (by rw[ae,aG];omega) (I.snoc hx L ha);rw[ay]at F O C;refine⟨[x]++r,E,F,by rw[ae,aG];omega,fun _=> ?_, ?_⟩
   ·refine⟨l.length,by rw[ae,ae,aG];omega, ?_⟩
    rw[aa,bD (aK _),sI];exact L
   ·rw[ai]
    obtain⟨a,b,c,d⟩:=x;rw[<-ay,<-uB]at*;simp only[aX,Img.sv]at g y C ⊢;simp only[go_sem,Qg,Qi,Qj,Qk,Ql,Qm,reduceIte,W,g,xvH,Z,y,hv,c1,C]
theorem xR{l r:List Img}{c:Int}(h:∃i,i<l.length/\(l.getD i im0).role=c):∃i,i<(l++r).length/\((l++r).getD i im0).role=c:=by obtain⟨i,hi,e⟩:=h;refine⟨i,by rw[ae];omega, ?_⟩;rw[aa,bt hi,<-aa,e]
theorem xhV(B:d9)(O:B.length<=1000)(role:Int)(r1:1<=role)(r4:role<=4)(l:List Img)(j:Nat)(Z:l.length+2<=8)(L:ChP l role):
 ∃r E,ChP (l++r) role/\r.length<=2/\(role=1\/role=3->∃i,i<(l++r).length/\((l++r).getD i im0).role=role)/\
 run T (.loop sZ) ⟨[(3,.ptr 12100 0),(4,.lst 4 (jC l) (.id 104)),(5,.int .i64 role)],[(12100,aX B j)],[104]⟩=
 run T (.loop sZ) ⟨[(3,.ptr 12100 0),(4,.lst 4 (jC (l++r)) (.id 104)),(5,.int .i64 (role+1))],[(12100,aX B E)],[104]⟩:=by
 have C:=f17 B j 3 (by omega) (by omega);have F:=f17 B (cI B j) 2 (by omega) (by omega);have v1:=eH B j 3 (by omega);have v2:=eH B (cI B j) 2 (by omega);rw[cz3]at C;rw[c2]at F;have e:af.wrap (1+((dZ B (cI B j) 2:Nat):Int))=((1+dZ B (cI B j) 2:Nat):Int):=wZ (by omega)
 have W:role=1\/role=2\/role=3\/role=4:=by omega
 rcases W with rfl|rfl|rfl|rfl
 ·obtain⟨r,E,I,Q,J,y⟩:=xhW B O 1 (by decide) (by decide) (1+dZ B (cI B j) 2) l (cI B (cI B j)) (by omega) L
  refine⟨r,E,I,by omega,fun _=>J (by omega), ?_⟩;rw[ai];simp only[aX]at C F y ⊢;simp only[go_sem,Q5,Q7,Qa,Qg,Qi,Qj,Qk,Ql,Qm,reduceIte,C,F,gO,e,y];rfl
 ·obtain⟨r,E,I,Q,J,y⟩:=xhW B O 2 (by decide) (by decide) (dZ B j 3) l (cI B j) (by omega) L
  refine⟨r,E,I,by omega,fun h=>absurd h (by decide), ?_⟩;rw[ai];simp only[aX]at C F y ⊢;simp only[go_sem,Q5,Q7,Qa,Qg,Qi,Qj,Qk,Ql,Qm,reduceIte,C,gO,y];rfl
 ·obtain⟨r,E,I,Q,J,y⟩:=xhW B O 3 (by decide) (by decide) (1+dZ B (cI B j) 2) l (cI B (cI B j)) (by omega) L
  refine⟨r,E,I,by omega,fun _=>J (by omega), ?_⟩;rw[ai];simp only[aX]at C F y ⊢;simp only[go_sem,Q5,Q7,Qa,Qg,Qi,Qj,Qk,Ql,Qm,reduceIte,C,F,gO,e,y];rfl
 ·obtain⟨r,E,I,Q,J,y⟩:=xhW B O 4 (by decide) (by decide) (dZ B j 3) l (cI B j) (by omega) L
  refine⟨r,E,I,by omega,fun h=>absurd h (by decide), ?_⟩;rw[ai];simp only[aX]at C F y ⊢;simp only[go_sem,Q5,Q7,Qa,Qg,Qi,Qj,Qk,Ql,Qm,reduceIte,C,gO,y];rfl
theorem CY{l:List Img}{a b:Int}(h:ChP l a)(y:a<=b):ChP l b:=⟨h.ok,fun i hi=>Int.le_trans (h.le i hi) y,h.ord,h.dup⟩
theorem f15(y:d9):∃l,iG l/\call T 15 [.byt y .no] [] 0=some ⟨.lst 4 (jC l) .no,[],[]⟩:=by
 have I:(y.take 200).length<=1000:=by rw[an];omega
 have g:=f16 y 200;rw[xx7]at g;generalize y.take 200=B at*;have W:ChP [] 1:=⟨fun i hi=>absurd hi (by simp),fun i hi=>absurd hi (by simp),fun i hi=>absurd hi (by simp),fun i hi=>absurd hi (by simp)⟩;obtain⟨E,Z,O,n1,w1,C⟩:=xhV B I 1 (by decide) (by decide) [] 0 (by decide) W;rw[aF]at O w1 C;obtain⟨F,j2,p2,n2,w2,J⟩:=xhV B I 2 (by decide) (by decide) E Z (by omega) (CY O (by decide));obtain⟨a3,j3,p3,n3,w3,t3⟩:=xhV B I 3 (by decide) (by decide) (E++F) j2 (by rw[ae];omega) (CY p2 (by decide));obtain⟨a4,Q,L,n4,w4,t4⟩:=xhV B I 4 (by decide) (by decide) (E++F++a3) j3 (by simp only[ae];omega) (CY p3 (by decide));refine⟨E++F++a3++a4,⟨?_, ?_,L.ok,L.ord,L.dup,xR (xR (xR (w1 (Or.inl rfl)))),xR (w3 (Or.inr rfl))⟩, ?_⟩
 ·obtain⟨i,hi,_⟩:=w1 (Or.inl rfl)
  simp only[ae];omega
 ·simp only[ae];omega
 ·rw[aj xzb]
  rw[show(1:Int)+1=2 from rfl]at C;rw[show(2:Int)+1=3 from rfl]at J;rw[show(3:Int)+1=4 from rfl]at t3;rw[show(4:Int)+1=5 from rfl]at t4
  have t5:run T (.loop sZ) ⟨[(3,.ptr 12100 0),(4,.lst 4 (jC (E++F++a3++a4)) (.id 104)),(5,.int .i64 5)],[(12100,aX B Q)],[104]⟩=some (.x 0,⟨[(4,.lst 4 (jC (E++F++a3++a4)) (.id 104))],[(12100,aX B Q)],[104]⟩):=by rw[ai];simp only[aX,go_sem,Q5,Qj,Ql,Qm,reduceIte]
  rw[t5]at t4;rw[t4]at t3;rw[t3]at J;rw[J]at C;have e0:jC []=[]:=rfl;rw[e0]at C;simp only[aX,c0,ay]at g C;simp only[go_sem,Qg,Qi,Qj,Qk,Ql,Qm,reduceCtorEq,reduceIte,g,xiO,C,ay]
theorem xn4{l:List Au}{i:Nat}(h:auE l i=0):1<=(l.getD i au0).id/\(l.getD i au0).id<=1000:=by
 unfold auE at h;split at h
 ·cases h
 ·split at h
  ·cases h
  ·constructor<;>omega
theorem wU{l:List Au}:∀(n i:Nat),mT l n i=0->∀k,i<=k->k<i+n->auE l k=0
 |0,i,_,k,h1,h2=>by omega
 |n+1,i,h,k,h1,h2=>by
  have C:(if auE l i=0 then mT l n (i+1)else auE l i)=0:=h
  by_cases y:auE l i=0
  ·rw[if_pos y]at C
   by_cases e:k=i
   ·subst e;exact y
   ·exact wU n (i+1) C k (by omega) (by omega)
  ·rw[if_neg y]at C;exact absurd C y
theorem xbo{t:Tr}(h:trE t=0)(B:d9)(ms:List Mk)(C:ms.length<=1000)(E:B.length<=100000000):xa5 t B ms:=by
 unfold trE at h;split at h
 ·cases h
 ·rename_i I
  split at h
  ·rename_i y
   split at h
   ·cases h
   ·split at h
    ·cases h
    ·refine⟨by omega,by omega,C,E,fun a F=> ?_⟩
     obtain⟨i,hi,rfl⟩:=bg F;have:=xn4 (wU _ 0 y i (aY _) (by omega));rw[aa,ac hi]at this;simp only[aM]at this;omega
  ·rename_i y;exact absurd h y
open Classical in
noncomputable def mV(t:Tr)(B:d9)(ms:List Mk):Int:=
 if trE t=0 then(if 4<ms.length then 4 else if jU B=none/\lK B=none then 30 else if((sgL t B ms).length:Int)<t.thr then 44 else 0)else trE t
theorem f46(t:Tr)(B:d9)(ms:List Mk)(W:B.length<=100000000):call U 46 [.agg t.sv,.agg (cJ B ms)] [] 0=some ⟨.int .i64 (mV t B ms),[],[]⟩:=by
 have E:=up (f39 t);have y:=fy ms;unfold mV
 by_cases hE:trE t=0
 ·rw[if_pos hE]
  rw[hE]at E
  by_cases J:4<ms.length
  ·rw[if_pos J]
   have I:(4:Int)<ms.length:=by omega
   unfold Tr.sv cJ at*;rw[aj xa4];simp only[go_sem,Qg,Qj,Qk,Ql,Qm,reduceCtorEq,reduceIte,US,E,BE,y,I]
  ·rw[if_neg J]
   have I:¬(4:Int)<ms.length:=by omega
   have C:=up (f47 B (by omega));have F:=up (f49 B (by omega));have Q:=f73 (xbo hE B ms (by omega) W);have T:=ot (sgL t B ms);unfold zU zV at C;generalize sgL t B ms=L at*;unfold Tr.sv cJ at*;cases hp:jU B with
   |some m=>
    rw[hp]at C;rw[if_neg (fun h=>by cases h.1)];obtain⟨v,m1,m2,m3,m4,es,rs⟩:=m;simp only[Man.sv]at C;rw[aj xa4]
    by_cases O:(L.length:Int)<t.thr
    ·simp only[go_sem,Qd,Qe,Qf,Qg,Qj,Qk,Ql,Qm,reduceCtorEq,reduceIte,US,E,BE,y,I,C,Jv,Q,xix,T,O]
    ·simp only[go_sem,Qd,Qe,Qf,Qg,Qj,Qk,Ql,Qm,reduceCtorEq,reduceIte,US,E,BE,y,I,C,Jv,Q,xix,T,O]
   |none=>
    rw[hp]at C;simp only[mnz,Man.sv,di,dS,bO]at C;cases hw:lK B with
    |some w=>
     rw[hw]at F;rw[if_neg (fun h=>by cases h.2)];obtain⟨Z,wf⟩:=w;simp only[wdO,Wd.sv]at F;rw[aj xa4]
     by_cases O:(L.length:Int)<t.thr
     ·simp only[go_sem,Q7,Qd,Qe,Qf,Qg,Qj,Qk,Ql,Qm,reduceCtorEq,reduceIte,US,E,BE,y,I,C,Jv,F,xiC,Q,xix,T,O]
     ·simp only[go_sem,Q7,Qd,Qe,Qf,Qg,Qj,Qk,Ql,Qm,reduceCtorEq,reduceIte,US,E,BE,y,I,C,Jv,F,xiC,Q,xix,T,O]
    |none=>rw[hw]at F;rw[if_pos ⟨rfl,rfl⟩];simp only[wdO]at F;rw[aj xa4];simp only[go_sem,Q7,Qg,Qj,Qk,Ql,Qm,reduceCtorEq,reduceIte,US,E,BE,y,I,C,Jv,F,xiC]
 ·rw[if_neg hE]
  unfold Tr.sv cJ at*;generalize trE t=e at*;rw[aj xa4];simp only[go_sem,Qg,Qj,Qk,Ql,Qm,reduceCtorEq,reduceIte,US,E,BE,hE]
theorem f51(t:Tr)(B:d9)(ms:List Mk)(hB:B.length<=100000000):call T 51 [.agg t.sv,.agg (cJ B ms)] [] 0=some ⟨.int .i64 (mV t B ms),[],[]⟩:=by
 have F:=f40 t;have y:=fy ms;unfold mV
 by_cases hE:trE t=0
 ·rw[if_pos hE]
  rw[hE]at F
  by_cases W:4<ms.length
  ·rw[if_pos W]
   have I:(4:Int)<ms.length:=by omega
   unfold Tr.sv cJ at*;rw[aj UP];simp only[go_sem,Qg,Qj,Qk,Ql,Qm,reduceCtorEq,reduceIte,F,wX,y,I]
  ·rw[if_neg W]
   have I:¬(4:Int)<ms.length:=by omega
   have E:=f52 B (by omega);have C:=f54 B (by omega);have Z:=xbo hE B ms (by omega) hB;have O:=f92 t B ms (by have:=Z.n2;omega) hB (by omega);have Q:=ot (sgL t B ms);unfold zU zV at E;generalize sgL t B ms=L at*;unfold Tr.sv cJ at*;cases hp:jU B with
   |some m=>
    rw[hp]at E;rw[if_neg (fun h=>by cases h.1)];obtain⟨v,m1,m2,m3,m4,es,rs⟩:=m;simp only[Man.sv]at E;cases hw:lK B with
    |some w=>
     rw[hw]at C;obtain⟨wm,wf⟩:=w;simp only[wdO,Wd.sv]at C;rw[aj UP]
     by_cases J:(L.length:Int)<t.thr
     ·simp only[go_sem,Qd,Qe,Qf,Qg,Qj,Qk,Ql,Qm,reduceCtorEq,reduceIte,F,wX,y,I,E,tz,C,Ab,O,UQ,Q,J]
     ·simp only[go_sem,Qd,Qe,Qf,Qg,Qj,Qk,Ql,Qm,reduceCtorEq,reduceIte,F,wX,y,I,E,tz,C,Ab,O,UQ,Q,J]
    |none=>
     rw[hw]at C;simp only[wdO]at C;rw[aj UP]
     by_cases J:(L.length:Int)<t.thr
     ·simp only[go_sem,Q7,Qd,Qe,Qf,Qg,Qj,Qk,Ql,Qm,reduceCtorEq,reduceIte,F,wX,y,I,E,tz,C,Ab,O,UQ,Q,J]
     ·simp only[go_sem,Q7,Qd,Qe,Qf,Qg,Qj,Qk,Ql,Qm,reduceCtorEq,reduceIte,F,wX,y,I,E,tz,C,Ab,O,UQ,Q,J]
   |none=>
    rw[hp]at E;simp only[mnz,Man.sv,di,dS,bO]at E;cases hw:lK B with
    |some w=>
     rw[hw]at C;rw[if_neg (fun h=>by cases h.2)];obtain⟨wm,wf⟩:=w;simp only[wdO,Wd.sv]at C;rw[aj UP]
     by_cases J:(L.length:Int)<t.thr
     ·simp only[go_sem,Q7,Qd,Qe,Qf,Qg,Qj,Qk,Ql,Qm,reduceCtorEq,reduceIte,F,wX,y,I,E,tz,C,Ab,O,UQ,Q,J]
     ·simp only[go_sem,Q7,Qd,Qe,Qf,Qg,Qj,Qk,Ql,Qm,reduceCtorEq,reduceIte,F,wX,y,I,E,tz,C,Ab,O,UQ,Q,J]
    |none=>rw[hw]at C;rw[if_pos ⟨rfl,rfl⟩];simp only[wdO]at C;rw[aj UP];simp only[go_sem,Q7,Qg,Qj,Qk,Ql,Qm,reduceCtorEq,reduceIte,F,wX,y,I,E,tz,C,Ab]
 ·rw[if_neg hE]
  unfold Tr.sv cJ at*;generalize trE t=e at*;rw[aj UP];simp only[go_sem,Qg,Qj,Qk,Ql,Qm,reduceCtorEq,reduceIte,F,wX,hE]
def bI(w:Int)(i:Nat):Int:=cx .and .i64 (w.fdiv (2^min i 64)) 1
def mkS(i:Nat)(B:d9):Mk:=⟨3+2*(i:Int),sgn (eM (3+2*i)) 1 (if i=1 then 1 else 0) B⟩
def jN(w:Int)(B:d9)(i:Nat)(ms:List Mk):List Mk:=if bI w i=1 then ms++ [mkS i B]else ms
def gi(w:Int)(B:d9):List Mk:=jN w B 2 (jN w B 1 (jN w B 0 []))
theorem lN(w:Int)(B:d9)(i:Nat)(ms:List Mk):(jN w B i ms).length<=ms.length+1:=by
 unfold jN;split
 ·rw[ae];exact aK _
 ·omega
theorem J7(w:Int)(B:d9):(gi w B).length<=3:=by have y:=lN w B 0 [];have C:=lN w B 1 (jN w B 0 []);have E:=lN w B 2 (jN w B 1 (jN w B 0 []));unfold gi;rw[aB]at y;omega
def o6:aH:= .rc [.byt [] .clip,.lst 2 [] .clip]
theorem xpa(w:Int)(B:d9)(hB:B.length<=100000000)(ms:List Mk)(hm:ms.length<=10)(L:Tok)(E:L= .no\/L= .clip/\ms=[]):∃F,(F= .no\/F= .clip/\jN w B 0 ms=[])/\
 run T (.loop nK) ⟨[(1,.int .i64 w),(4,.ptr 104 0),(5,.ptr 105 0),(6,.int .i64 0)],[(104,o6),(105,.rc [.byt B .no,.lst 2 (jz ms) L])],[]⟩=
  run T (.loop nK) ⟨[(1,.int .i64 w),(4,.ptr 104 0),(5,.ptr 105 0),(6,.int .i64 1)],[(104,o6),(105,.rc [.byt B .no,.lst 2 (jz (jN w B 0 ms)) F])],[]⟩:=by
 have u:aQ.wrap 0=0:=by decide
 have k1:af.wrap (0+1)=1:=by decide
 have y:af.wrap 1=1:=by decide
 have k2:af.wrap (2*0)=0:=by decide
 have I:af.wrap 0=0:=by decide
 have W:af.wrap 3=3:=by decide
 have kl:cx .and .i64 0 1=0:=by decide
 have O:=f38 3;have J:=f61 B ms 3 (eM 3) 1 0 (by omega) (by rw[fc];decide) hB (.inr (.inr (.inr rfl)));have hv:=fy ms;rw[show((3:Nat):Int)=3 from rfl]at O;have em:mkS 0 B=⟨3,sgn (eM 3) 1 0 B⟩:=rfl
 by_cases C:bI w 0=1
 ·refine⟨.no,.inl rfl, ?_⟩
  have Q:jN w B 0 ms=ms++ [mkS 0 B]:=if_pos C;rw[Q,em];unfold cJ at J;generalize jz (ms++ [⟨3,sgn (eM 3) 1 0 B⟩])=Z at*;generalize eM 3=S at*;unfold bI at C;unfold o6
  conv=>lhs;rw[ai]
  rcases E with rfl|⟨rfl,rfl⟩
  ·simp only[go_sem,Q4,Q5,Q6,Qa,Qc,Qd,Qe,Qf,Qg,Qj,Ql,Qm,reduceCtorEq,reduceIte,u,C,y,I,W,kl,O,vf,J,UT]
  ·have h0:jz []=[]:=rfl
   simp only[h0]at J ⊢;simp only[go_sem,Q4,Q5,Q6,Qa,Qc,Qd,Qe,Qf,Qg,Qj,Ql,Qm,reduceCtorEq,reduceIte,u,C,y,I,W,kl,O,vf,J,UT]
 ·have Q:jN w B 0 ms=ms:=if_neg C
  rw[Q];refine⟨L,E, ?_⟩;unfold bI at C;unfold o6
  conv=>lhs;rw[ai]
  rcases E with rfl|⟨rfl,rfl⟩
  ·simp only[go_sem,Q4,Q5,Q6,Qa,Qc,Qg,Qj,Ql,Qm,reduceCtorEq,reduceIte,u,C,y]
  ·simp only[go_sem,Q4,Q5,Q6,Qa,Qc,Qg,Qj,Ql,Qm,reduceCtorEq,reduceIte,u,C,y]
theorem xo9(w:Int)(B:d9)(hB:B.length<=100000000)(ms:List Mk)(hm:ms.length<=10)(J:Tok)(E:J= .no\/J= .clip/\ms=[]):∃F,(F= .no\/F= .clip/\jN w B 1 ms=[])/\
 run T (.loop nK) ⟨[(1,.int .i64 w),(4,.ptr 104 0),(5,.ptr 105 0),(6,.int .i64 1)],[(104,o6),(105,.rc [.byt B .no,.lst 2 (jz ms) J])],[]⟩=
  run T (.loop nK) ⟨[(1,.int .i64 w),(4,.ptr 104 0),(5,.ptr 105 0),(6,.int .i64 2)],[(104,o6),(105,.rc [.byt B .no,.lst 2 (jz (jN w B 1 ms)) F])],[]⟩:=by
 have u:aQ.wrap 1=1:=by decide
 have k1:af.wrap (1+1)=2:=by decide
 have y:af.wrap 2=2:=by decide
 have k2:af.wrap (2*1)=2:=by decide
 have a1:af.wrap 2=2:=by decide
 have Q:af.wrap 5=5:=by decide
 have W:cx .and .i64 1 1=1:=by decide
 have L:=f38 5;have I:=f61 B ms 5 (eM 5) 1 1 (by omega) (by rw[fc];decide) hB (.inr (.inr (.inr rfl)));have hv:=fy ms;rw[show((5:Nat):Int)=5 from rfl]at L;have em:mkS 1 B=⟨5,sgn (eM 5) 1 1 B⟩:=rfl
 by_cases C:bI w 1=1
 ·refine⟨.no,.inl rfl, ?_⟩
  have O:jN w B 1 ms=ms++ [mkS 1 B]:=if_pos C;rw[O,em];unfold cJ at I;generalize jz (ms++ [⟨5,sgn (eM 5) 1 1 B⟩])=Z at*;generalize eM 5=S at*;unfold bI at C;unfold o6
  conv=>lhs;rw[ai]
  rcases E with rfl|⟨rfl,rfl⟩
  ·simp only[go_sem,Q4,Q5,Q6,Qa,Qc,Qd,Qe,Qf,Qg,Qj,Ql,Qm,reduceCtorEq,reduceIte,u,C,y,Q,W,L,vf,I,UT]
  ·have h0:jz []=[]:=rfl
   simp only[h0]at I ⊢;simp only[go_sem,Q4,Q5,Q6,Qa,Qc,Qd,Qe,Qf,Qg,Qj,Ql,Qm,reduceCtorEq,reduceIte,u,C,y,Q,W,L,vf,I,UT]
 ·have O:jN w B 1 ms=ms:=if_neg C
  rw[O];refine⟨J,E, ?_⟩;unfold bI at C;unfold o6
  conv=>lhs;rw[ai]
  rcases E with rfl|⟨rfl,rfl⟩
  ·simp only[go_sem,Q4,Q5,Q6,Qa,Qc,Qg,Qj,Ql,Qm,reduceCtorEq,reduceIte,u,C,y]
  ·simp only[go_sem,Q4,Q5,Q6,Qa,Qc,Qg,Qj,Ql,Qm,reduceCtorEq,reduceIte,u,C,y]
theorem xo8(w:Int)(B:d9)(hB:B.length<=100000000)(ms:List Mk)(hm:ms.length<=10)(L:Tok)(E:L= .no\/L= .clip/\ms=[]):∃F,(F= .no\/F= .clip/\jN w B 2 ms=[])/\
 run T (.loop nK) ⟨[(1,.int .i64 w),(4,.ptr 104 0),(5,.ptr 105 0),(6,.int .i64 2)],[(104,o6),(105,.rc [.byt B .no,.lst 2 (jz ms) L])],[]⟩=
  run T (.loop nK) ⟨[(1,.int .i64 w),(4,.ptr 104 0),(5,.ptr 105 0),(6,.int .i64 3)],[(104,o6),(105,.rc [.byt B .no,.lst 2 (jz (jN w B 2 ms)) F])],[]⟩:=by
 have u:aQ.wrap 2=2:=by decide
 have k1:af.wrap (2+1)=3:=by decide
 have y:af.wrap 3=3:=by decide
 have k2:af.wrap (2*2)=4:=by decide
 have I:af.wrap 4=4:=by decide
 have W:af.wrap 7=7:=by decide
 have kl:cx .and .i64 2 1=0:=by decide
 have O:=f38 7;have J:=f61 B ms 7 (eM 7) 1 0 (by omega) (by rw[fc];decide) hB (.inr (.inr (.inr rfl)));have hv:=fy ms;rw[show((7:Nat):Int)=7 from rfl]at O;have em:mkS 2 B=⟨7,sgn (eM 7) 1 0 B⟩:=rfl
 by_cases C:bI w 2=1
 ·refine⟨.no,.inl rfl, ?_⟩
  have Q:jN w B 2 ms=ms++ [mkS 2 B]:=if_pos C;rw[Q,em];unfold cJ at J;generalize jz (ms++ [⟨7,sgn (eM 7) 1 0 B⟩])=Z at*;generalize eM 7=S at*;unfold bI at C;unfold o6
  conv=>lhs;rw[ai]
  rcases E with rfl|⟨rfl,rfl⟩
  ·simp only[go_sem,Q4,Q5,Q6,Qa,Qc,Qd,Qe,Qf,Qg,Qj,Ql,Qm,reduceCtorEq,reduceIte,u,C,y,I,W,kl,O,vf,J,UT]
  ·have h0:jz []=[]:=rfl
   simp only[h0]at J ⊢;simp only[go_sem,Q4,Q5,Q6,Qa,Qc,Qd,Qe,Qf,Qg,Qj,Ql,Qm,reduceCtorEq,reduceIte,u,C,y,I,W,kl,O,vf,J,UT]
 ·have Q:jN w B 2 ms=ms:=if_neg C
  rw[Q];refine⟨L,E, ?_⟩;unfold bI at C;unfold o6
  conv=>lhs;rw[ai]
  rcases E with rfl|⟨rfl,rfl⟩
  ·simp only[go_sem,Q4,Q5,Q6,Qa,Qc,Qg,Qj,Ql,Qm,reduceCtorEq,reduceIte,u,C,y]
  ·simp only[go_sem,Q4,Q5,Q6,Qa,Qc,Qg,Qj,Ql,Qm,reduceCtorEq,reduceIte,u,C,y]
theorem f33(B:d9)(C:B.length<=100000000)(w:Int):call T 33 [.byt B .no,.int .i64 w] [] 0=some ⟨.agg (cJ B (gi w B)),[],[]⟩:=by
 have Z:=lN w B 0 [];have l1:=lN w B 1 (jN w B 0 []);rw[aB]at Z;obtain⟨t0,Q,W⟩:=xpa w B C [] (by simp) .clip (.inr ⟨rfl,rfl⟩);obtain⟨F,J,L⟩:=xo9 w B C _ (by omega) t0 Q;obtain⟨y,O,e2⟩:=xo8 w B C _ (by omega) F J;have e:=W.trans (L.trans e2);have E:jz []=[]:=rfl;rw[E]at e;change _=run T (.loop nK) ⟨_,[_,(105,.rc [.byt B .no,.lst 2 (jz (gi w B)) y])],_⟩at e
 have I:run T (.loop nK) ⟨[(1,.int .i64 w),(4,.ptr 104 0),(5,.ptr 105 0),(6,.int .i64 3)],[(104,o6),(105,.rc [.byt B .no,.lst 2 (jz (gi w B)) y])],[]⟩=some (.x 0,⟨[(4,.ptr 104 0),(5,.ptr 105 0)],[(104,o6),(105,.rc [.byt B .no,.lst 2 (jz (gi w B)) y])],[]⟩):=by rw[ai];unfold o6;rcases O with rfl|⟨rfl,_⟩<;>simp only[go_sem,Q6,Qj,Ql,Qm,reduceIte]
 rw[I]at e;unfold o6 at e;unfold cJ;rw[aj xyY];simp only[go_sem,Qg,Qj,Qk,Ql,Qm,reduceCtorEq,reduceIte,e]
def td(B:d9):Prop:=jU B≠none\/lK B≠none
theorem H6{α:Type}(l:List α)(d x:α):x∈l↔∃i,i<l.length/\l.getD i d=x:=by
 constructor
 ·intro h
  obtain⟨i,hi,e⟩:=bg h;exact⟨i,hi,by rw[aa,ac hi];exact e⟩
 ·rintro⟨i,hi,rfl⟩
  exact wh l d i hi
theorem ZM(t:Tr)(B:d9)(ms:List Mk)(x:Int):x∈sgO t B ms↔∃m∈ms,gdB t B m=true/\m.auth=x:=by
 unfold sgO;rw[vW];constructor
 ·rintro⟨j,C,y,E⟩
  exact⟨ms.getD j mk0,wh _ _ _ C,y,E⟩
 ·rintro⟨m,C,y,E⟩
  obtain⟨j,F,rfl⟩:=(H6 ms mk0 m).1 C;exact⟨j,F,y,E⟩
def xaK(w:Int):Nat->Nat
 |0=>0
 |n+1=>xaK w n+(if bI w n=1 then 1 else 0)
def Bg(w:Int):Nat->List Int
 |0=> []
 |n+1=>Bg w n++(if bI w n=1 then [3+2*(n:Int)]else [])
theorem zo(w:Int):∀n,(Bg w n).length=xaK w n
 |0=>rfl
 |n+1=>by rw[Bg,xaK,ae,zo w n];split<;>rfl
theorem rS(w x:Int):∀n,x∈Bg w n↔∃i,i<n/\bI w i=1/\3+2*(i:Int)=x
 |0=>by simp[Bg]
 |n+1=>by
  rw[Bg,am,rS w x n];constructor
  ·rintro(⟨i,F,y⟩|h)
   ·exact⟨i,by omega,y⟩
   ·split at h
    ·rename_i E
     exact⟨n,by omega,E,(bq.1 h).symm⟩
    ·cases h
  ·rintro⟨i,F,y,C⟩
   by_cases e:i=n
   ·subst e
    refine .inr ?_;rw[if_pos y];simp[C]
   ·exact .inl ⟨i,by omega,y,C⟩
theorem wg(w:Int):∀n,(Bg w n).Pairwise (· < ·)
 |0=>fO.nil
 |n+1=>by
  rw[Bg];refine dX.2 ⟨wg w n,by split<;>simp,fun a C b y=> ?_⟩;obtain⟨i,E,_,rfl⟩:=(rS w a n).1 C;split at y
  ·rw[bq.1 y];omega
  ·cases y
theorem y0(w:Int)(B:d9)(m:Mk):m∈gi w B↔∃i,i<3/\bI w i=1/\m=mkS i B:=by
 have key:∀i ms,m∈jN w B i ms↔m∈ms\/(bI w i=1/\m=mkS i B):=fun i ms=>by
  unfold jN;split
  ·rename_i h;simp[h]
  ·rename_i h;simp[h]
 unfold gi;rw[key,key,key];constructor
 ·rintro(((h|h)|h)|h)
  ·cases h
  ·exact⟨0,by decide,h⟩
  ·exact⟨1,by decide,h⟩
  ·exact⟨2,by decide,h⟩
 ·rintro⟨i,hi,h⟩
  rcases (by omega:i=0\/i=1\/i=2)with rfl|rfl|rfl
  ·exact .inl (.inl (.inr h))
  ·exact .inl (.inr h)
  ·exact .inr h
theorem xad(t:Tr)(B:d9)(m:Mk):gdB t B m=true↔∃i,i<t.au.length/\(t.au.getD i au0).id=m.auth/\gK (t.au.getD i au0).key B m.sig=true:=by
 unfold gdB;rw[List.any_eq_true];constructor
 ·rintro⟨i,hi,h⟩
  simp only[aD,decide_eq_true_eq]at h;exact⟨i,dt.1 hi,h.1,h.2⟩
 ·rintro⟨i,hi,C,y⟩
  exact⟨i,dt.2 hi,by rw[y,decide_eq_true C];rfl⟩
theorem UC(k:Nat)(thr:Int)(B:d9)(i:Nat)(hi:i<3):gdB (trL k thr) B (mkS i B)=true↔i<k+1:=by
 rw[xad];have C:=Gy k;show(∃j,j<(auL k).length/\((auL k).getD j au0).id=(mkS i B).auth/\gK ((auL k).getD j au0).key B (mkS i B).sig=true)↔_;rw[C];constructor
 ·rintro⟨j,E,y,_⟩
  rw[oB k j (by omega)]at y;have:(3:Int)+2*(j:Int)=3+2*(i:Int):=y;omega
 ·intro h
  refine⟨i,h, ?_, ?_⟩
  ·rw[oB k i (by omega)];rfl
  ·rw[oB k i (by omega)]
   show gK (jv (eM (3+2*i)) 1) B (sgn (eM (3+2*i)) 1 (if i=1 then 1 else 0) B)=true
   by_cases e:i=1
   ·rw[if_pos e,LM];exact DW _ _ _ (by decide)
   ·rw[if_neg e,LN];exact DW _ _ _ (by decide)
theorem Hs(k:Nat)(I:k<=2)(thr w:Int)(B:d9):sgL (trL k thr) B (gi w B)=Bg w (k+1):=by
 rw[<-uc (wg w (k+1))];refine rH (lU _ _ _ _ _) (y8 (wg _ _)) fun x=> ?_
 show x∈sgO (trL k thr) B (gi w B)↔_;rw[ZM,rS];constructor
 ·rintro⟨m,E,C,F⟩
  obtain⟨i,hi,y,rfl⟩:=(y0 w B m).1 E;exact⟨i,(UC k thr B i hi).1 C,y,F⟩
 ·rintro⟨i,hi,y,h⟩
  exact⟨mkS i B,(y0 w B _).2 ⟨i,by omega,y,rfl⟩,(UC k thr B i (by omega)).2 hi,h⟩
theorem sB(m:Man):(bU m).length<=32:=by
 unfold bU;split
 ·simp
 ·exact Nat.le_of_eq (iu _)
theorem f32(m:Man)(I:dC m):call T 32 [.agg m.sv] [] 0=some ⟨.byt (bU m) .no,[],[]⟩:=by
 have F:=f59 m I;have Q:=kg m I;have J:=f60 21 (eO m) (by omega);obtain⟨O,L,m2,m3,m4,es,rs⟩:=m;unfold bU;simp only[Man.sv]at*;rw[aj xyZ];generalize eO ⟨O,L,m2,m3,m4,es,rs⟩=E at*
 by_cases C:E=[]
 ·subst C
  simp only[go_sem,Qg,Qj,Qk,Ql,Qm,reduceCtorEq,reduceIte,F,GL]
 ·have y:¬(E.length:Int)=0:=by
   intro h;exact C (b8.1 (by omega))
  rw[if_neg C];simp only[go_sem,Qg,Qj,Qk,Ql,Qm,reduceCtorEq,reduceIte,F,GL,y,J,xa8]
theorem f36(m:Man)(I:dC m):call T 36 [.agg m.sv] [] 0=some ⟨.byt (bU m) .no,[],[]⟩:=by
 have F:=f34 m I;have Q:=kg m I;have J:=f65 21 (eO m) (by omega);obtain⟨O,L,m2,m3,m4,es,rs⟩:=m;unfold bU;simp only[Man.sv]at*;rw[aj xyW];generalize eO ⟨O,L,m2,m3,m4,es,rs⟩=E at*
 by_cases C:E=[]
 ·subst C
  simp only[go_sem,Qg,Qj,Qk,Ql,Qm,reduceCtorEq,reduceIte,F,xa9]
 ·have y:¬(E.length:Int)=0:=by
   intro h;exact C (b8.1 (by omega))
  rw[if_neg C];simp only[go_sem,Qg,Qj,Qk,Ql,Qm,reduceCtorEq,reduceIte,F,xa9,y,J,xa6]
theorem f84(a b:d9):call T 84 [.byt a .no,.byt b .no] [] 0=some ⟨.bool (decide (a=b)),[],[]⟩:=by rw[aj xyq];simp only[go_sem,Qg,Qj,Qk,Ql,Qm,reduceCtorEq,reduceIte]
theorem f82(m:Man)(E:dC m)(d:d9):call T 82 [.agg m.sv,.byt d .no] [] 0=some ⟨.int .i64 (Lib.compareBytes (bU m) d),[],[]⟩:=by have C:=f32 m E;have y:=f83 (bU m) d;obtain⟨I,F,m2,m3,m4,es,rs⟩:=m;simp only[Man.sv]at*;rw[aj xys];simp only[go_sem,Qg,Qj,Qk,Ql,Qm,reduceCtorEq,reduceIte,C,wY,y,xow]
def or2(a b:Int):Int:=if a≠0 then a else b
theorem xrK(a b:Int):call T 133 [.lst 1 [[.int .i64 a],[.int .i64 b]] .no] [] 0=some ⟨.int .i64 (or2 a b),[],[]⟩:=by
 have k1:af.wrap (0+1)=1:=by decide
 have k2:af.wrap (1+1)=2:=by decide
 have y:af.wrap 1=1:=by decide
 have C:af.wrap 2=2:=by decide
 unfold or2;rw[aj xio]
 by_cases F:a=0
 ·subst F
  by_cases E:b=0
  ·subst E
   simp only[go_sem,Qg,Qj,Qk,Ql,Qm,reduceCtorEq,reduceIte];rw[ai];simp only[go_sem,Q4,Q5,Q6,Qa,Qg,Qj,Ql,Qm,reduceIte,y];rw[ai];simp only[go_sem,Q4,Q5,Q6,Qa,Qg,Qj,Ql,Qm,reduceIte,C];rw[ai];simp only[go_sem,Q6,Qj,Ql,Qm,reduceIte]
  ·simp only[go_sem,Qg,Qj,Qk,Ql,Qm,reduceCtorEq,reduceIte]
   rw[ai];simp only[go_sem,Q4,Q5,Q6,Qa,Qg,Qj,Ql,Qm,reduceIte,y];rw[ai];simp only[go_sem,Q4,Q5,Q6,Qg,Qj,Ql,Qm,reduceIte,E]
 ·simp only[go_sem,Qg,Qj,Qk,Ql,Qm,reduceCtorEq,reduceIte]
  rw[ai];simp only[go_sem,Q4,Q5,Q6,Qg,Qj,Ql,Qm,reduceIte,F]
def FO(x y:Wd):Int:=or2 (Lib.compareBytes x.man y.man) (rf x.frm y.frm)
theorem f89(x y:Wd):call T 89 [.agg x.sv,.agg y.sv] [] 0=some ⟨.int .i64 (FO x y),[],[]⟩:=by have J:=f83 x.man y.man;have E:=xol x.frm y.frm;obtain⟨I,O⟩:=x;obtain⟨F,L⟩:=y;simp only[Wd.sv,FO]at*;have C:=xrK (Lib.compareBytes I F) (rf O L);rw[aj xym];simp only[go_sem,Qd,Qe,Qf,Qg,Qj,Qk,Ql,Qm,reduceCtorEq,reduceIte,J,xow,E,xiY,C,xiZ]
def wdB(y:Int)(d:d9)(w:Wd):Bool:=decide (w.frm<=y)&&decide (w.man=d)
theorem xx1(w:Wd)(y:Int)(d:d9):call T 100 [.agg w.sv,.ptr 0 0,.ptr 1 0] [.rc [.int .i64 y],.rc [.byt d .no]] 0=some ⟨.bool (wdB y d w),[(0,.rc [.int .i64 y]),(1,.rc [.byt d .no])],[]⟩:=by
 have C:=f84 w.man d;obtain⟨E,wf⟩:=w;unfold wdB;simp only[Wd.sv]at*;rw[aj xs5]
 by_cases h:wf<=y
 ·simp only[go_sem,Qg,Qj,Qk,Ql,Qm,reduceCtorEq,reduceIte,h,C,xiu]
 ·simp only[go_sem,Qg,Qj,Qk,Ql,Qm,reduceCtorEq,reduceIte,h]
theorem w9{α:Type}(p:α->Bool)(d0:α):∀(L:List α),L.Pairwise (fun a b=>p b=true->p a=true)->∀k,k<L.length->(p (L.getD k d0)=true↔k<(L.takeWhile p).length)
 |[],_,k,h=>by simp at h
 |x::r,hs,k,hk=>by
  obtain⟨F,C⟩:=bJ.1 hs;have E:=w9 p d0 r C;rw[List.takeWhile_cons]
  by_cases y:p x=true
  ·rw[if_pos y,al]
   cases k with
   |zero=>rw[List.getD_cons_zero];exact⟨fun _=>by omega,fun _=>y⟩
   |succ k=>rw[jk,E k (by rw[al]at hk;omega)];omega
  ·rw[if_neg y]
   simp only[aB,Nat.not_lt_zero,iff_false];cases k with
   |zero=>rw[List.getD_cons_zero];exact y
   |succ k=>rw[jk];intro I;rw[al]at hk;exact y (F _ (by rw[aa,ac (by omega:k<r.length)];exact bv _) I)
theorem U3{α:Type}(p:α->Bool)(L:List α):(L.takeWhile p).length<=L.length:=(List.takeWhile_sublist p).length_le
theorem zW{a b:d9}(h:Lib.compareBytes a b<0):¬Lib.compareBytes b a<0:=fun k=>by have:=nC a b a h k;rw[iD]at this;exact absurd this (by decide)
theorem In{a b c:d9}(h:¬Lib.compareBytes b a<0)(k:Lib.compareBytes b c<0):Lib.compareBytes a c<0:=by
 by_cases e:Lib.compareBytes b a=0
 ·rw[<-(gM b a).1 e];exact k
 ·exact nC a b c (jh h e) k
theorem Im{a b c:d9}(h:¬Lib.compareBytes b a<0)(k:Lib.compareBytes c a<0):Lib.compareBytes c b<0:=by
 by_cases e:Lib.compareBytes b a=0
 ·rw[(gM b a).1 e];exact k
 ·exact nC c a b k (jh h e)
def pd(L:List Man):Prop:=L.Pairwise fun a b=>¬Lib.compareBytes (bU b) (bU a)<0
def lbM(L:List Man)(d:d9):Nat:=(L.takeWhile fun x=>decide (Lib.compareBytes (bU x) d<0)).length
def ubM(L:List Man)(d:d9):Nat:=(L.takeWhile fun x=> !decide (Lib.compareBytes d (bU x)<0)).length
theorem Uv(L:List Man)(d:d9):lbM L d<=L.length:=U3 _ _
theorem kR(L:List Man)(d:d9):ubM L d<=L.length:=U3 _ _
theorem qF{L:List Man}(y:pd L)(d:d9)(k:Nat)(C:k<L.length):Lib.compareBytes (bU (L.getD k mnz)) d<0↔k<lbM L d:=by
 have:=w9 (fun x=>decide (Lib.compareBytes (bU x) d<0)) mnz L (y.imp fun{a b} h hb=>by rw[decide_eq_true_eq]at hb ⊢;exact In h hb) k C
 rw[decide_eq_true_eq]at this;exact this
theorem mc{L:List Man}(y:pd L)(d:d9)(k:Nat)(C:k<L.length):¬Lib.compareBytes d (bU (L.getD k mnz))<0↔k<ubM L d:=by
 have:=w9 (fun x=> !decide (Lib.compareBytes d (bU x)<0)) mnz L (y.imp fun{a b} h hb=>by simp only[dj,decide_eq_false_iff_not]at hb ⊢;exact fun k=>hb (Im h k)) k C
 simp only[dj,decide_eq_false_iff_not]at this;exact this
theorem xrj{L:List Man}(y:pd L)(d:d9):lbM L d<=ubM L d:=by
 rcases bQ (ubM L d) (lbM L d)with h|h
 ·have E:=Uv L d
  have C:=(qF y d (ubM L d) (by omega)).2 h;exact absurd ((mc y d (ubM L d) (by omega)).1 (zW C)) (by omega)
 ·exact h
theorem FZ{L:List Man}(y:pd L)(d:d9)(k:Nat)(C:k<L.length)(F:lbM L d<=k):bU (L.getD k mnz)=d↔k<ubM L d:=by
 rw[<-mc y d k C];have E:¬Lib.compareBytes (bU (L.getD k mnz)) d<0:=fun h=>by have:=(qF y d k C).1 h;omega
 constructor
 ·rintro rfl;rw[iD];decide
 ·intro h
  by_cases e:Lib.compareBytes (bU (L.getD k mnz)) d=0
  ·exact(gM _ _).1 e
  ·exact absurd (jh E e) h
theorem iw{α:Type}(l:List α)(d x:α):x∈l↔∃i,i<l.length/\l.getD i d=x:=by
 constructor
 ·intro h
  obtain⟨i,hi,e⟩:=bg h;exact⟨i,hi,by rw[aa,ac hi];exact e⟩
 ·rintro⟨i,hi,rfl⟩
  rw[aa,ac hi];exact bv _
theorem F0{L:List Man}(y:pd L)(m:Man):m∈L↔∃k,lbM L (bU m)<=k/\k<ubM L (bU m)/\L.getD k mnz=m:=by
 have E:=kR L (bU m);constructor
 ·intro h
  obtain⟨k,C,rfl⟩:=(iw L mnz m).1 h;refine⟨k, ?_, ?_,rfl⟩
  ·rcases bQ k (lbM L (bU (L.getD k mnz)))with h|h
   ·have:=(qF y _ k C).2 h
    rw[iD]at this;exact absurd this (by decide)
   ·exact h
  ·rw[<-mc y _ k C,iD];decide
 ·rintro⟨k,I,F,rfl⟩
  exact(iw L mnz _).2 ⟨k,by omega,rfl⟩
def mz(L:List Man)(m:Man):List Man:=L.take (ubM L (bU m))++m::L.drop (ubM L (bU m))
theorem rX(L:List Man)(m:Man):(mz L m).length=L.length+1:=by have:=kR L (bU m);unfold mz;rw[ae,al,an,aE];omega
theorem rQ(L:List Man)(m x:Man):x∈mz L m↔x=m\/x∈L:=by
 unfold mz;rw[am,av];constructor
 ·rintro(h|h|h)
  ·exact .inr (bF h)
  ·exact .inl h
  ·exact .inr (cH h)
 ·rintro(h|h)
  ·exact .inr (.inl h)
  ·rw[<-cT (ubM L (bU m)) L,am]at h
   rcases h with h|h
   ·exact .inl h
   ·exact .inr (.inr h)
theorem KU{L:List Man}(I:pd L)(m:Man):pd (mz L m):=by
 have Q:=kR L (bU m);have E:=mc I (bU m)
 have Z:∀x∈L.take (ubM L (bU m)),¬Lib.compareBytes (bU m) (bU x)<0:=fun x C=>by obtain⟨k,J,rfl⟩:=bg C;rw[an]at J;have:=(E k (by omega)).2 (by omega);rw[aa,ac (by omega),aM]at this;rw[List.getElem_take];exact this
 have O:∀x∈L.drop (ubM L (bU m)),Lib.compareBytes (bU m) (bU x)<0:=fun x C=>by
  obtain⟨k,J,rfl⟩:=bg C;rw[aE]at J;rw[List.getElem_drop]
  by_cases h:Lib.compareBytes (bU m) (bU (L[ubM L (bU m)+k]'(by omega)))<0
  ·exact h
  ·have:=(E (ubM L (bU m)+k) (by omega)).1 (by rw[aa,ac (by omega),aM];exact h)
   omega
 have e:L=L.take (ubM L (bU m))++L.drop (ubM L (bU m)):=(cT _ _).symm;unfold pd at I;rw[e]at I;obtain⟨W,T,a3⟩:=dX.1 I;refine dX.2 ⟨W,bJ.2 ⟨fun y F=>zW (O y F),T⟩,fun x C y F=> ?_⟩;rcases av.1 F with rfl|F
 ·exact Z x C
 ·exact a3 x C y F
def kJ(a b:Wd):Prop:=Lib.compareBytes a.man b.man<0\/a.man=b.man/\a.frm<b.frm
instance (a b:Wd):Decidable (kJ a b):=by unfold kJ;infer_instance
theorem z7(a:Wd):¬kJ a a:=by
 rintro(h|⟨_,h⟩)
 ·rw[iD]at h;exact absurd h (by decide)
 ·omega
theorem Gx{a b c:Wd}(h:kJ a b)(k:kJ b c):kJ a c:=by
 rcases h with h|⟨h1,h2⟩<;>rcases k with k|⟨k1,k2⟩
 ·exact .inl (nC _ _ _ h k)
 ·exact .inl (by rw[<-k1];exact h)
 ·exact .inl (by rw[h1];exact k)
 ·exact .inr ⟨h1.trans k1,by omega⟩
theorem Lu{a b:Wd}(h:¬kJ a b)(k:¬kJ b a):a=b:=by
 unfold kJ at h k
 have e:a.man=b.man:=by
  by_cases e:Lib.compareBytes a.man b.man=0
  ·exact(gM _ _).1 e
  ·exact absurd (.inl (jh (fun q=>h (.inl q)) e)) k
 obtain⟨E,y⟩:=a;obtain⟨C,b2⟩:=b;simp only at e h k;subst e
 have:y=b2:=by
  rcases Int.lt_trichotomy y b2 with q|q|q
  ·exact absurd (.inr ⟨rfl,q⟩) h
  ·exact q
  ·exact absurd (.inr ⟨rfl,q⟩) k
 rw[this]
def wd0:Wd:=⟨[],0⟩
def vd(L:List Wd):Prop:=L.Pairwise kJ
def lbW(L:List Wd)(w:Wd):Nat:=(L.takeWhile fun x=>decide (kJ x w)).length
theorem nz(L:List Wd)(w:Wd):lbW L w<=L.length:=U3 _ _
theorem my{L:List Wd}(y:vd L)(w:Wd)(k:Nat)(C:k<L.length):kJ (L.getD k wd0) w↔k<lbW L w:=by
 have:=w9 (fun x=>decide (kJ x w)) wd0 L (y.imp fun{a b} h hb=>by rw[decide_eq_true_eq]at hb ⊢;exact Gx h hb) k C
 rw[decide_eq_true_eq]at this;exact this
theorem ZN{L:List Wd}(E:vd L)(w:Wd):w∈L↔lbW L w<L.length/\L.getD (lbW L w) wd0=w:=by
 constructor
 ·intro h
  obtain⟨k,F,rfl⟩:=(iw L wd0 w).1 h;have I:¬k<lbW L (L.getD k wd0):=fun h=>z7 _ ((my E _ k F).2 h)
  have y:lbW L (L.getD k wd0)<L.length:=by omega
  refine⟨y, ?_⟩
  have C:¬kJ (L.getD (lbW L (L.getD k wd0)) wd0) (L.getD k wd0):=fun h=>by have:=(my E _ _ y).1 h;omega
  rcases bQ (lbW L (L.getD k wd0)) k with J|J
  ·have:=cD.1 E _ _ y F J
   have O:L.getD (lbW L (L.getD k wd0)) wd0=L[lbW L (L.getD k wd0)]:=by rw[aa,ac y];rfl
   have Q:L.getD k wd0=L[k]:=by rw[aa,ac F];rfl
   rw[<-O,<-Q]at this;exact absurd this C
  ·have:lbW L (L.getD k wd0)=k:=by omega
   rw[this]
 ·rintro⟨I,C⟩
  exact(iw L wd0 w).2 ⟨_,I,C⟩
def tj(L:List Wd)(w:Wd):List Wd:=L.take (lbW L w)++w::L.drop (lbW L w)
theorem zi(L:List Wd)(w:Wd):(tj L w).length=L.length+1:=by have:=nz L w;unfold tj;rw[ae,al,an,aE];omega
theorem rP(L:List Wd)(w x:Wd):x∈tj L w↔x=w\/x∈L:=by
 unfold tj;rw[am,av];constructor
 ·rintro(h|h|h)
  ·exact .inr (bF h)
  ·exact .inl h
  ·exact .inr (cH h)
 ·rintro(h|h)
  ·exact .inr (.inl h)
  ·rw[<-cT (lbW L w) L,am]at h
   rcases h with h|h
   ·exact .inl h
   ·exact .inr (.inr h)
theorem KS{L:List Wd}(F:vd L)(w:Wd)(O:w∉L):vd (tj L w):=by
 have Z:=nz L w;have E:=my F w
 have h1:∀x∈L.take (lbW L w),kJ x w:=fun x C=>by obtain⟨k,I,rfl⟩:=bg C;rw[an]at I;have:=(E k (by omega)).2 (by omega);rw[aa,ac (by omega),aM]at this;rw[List.getElem_take];exact this
 have W:∀x∈L.drop (lbW L w),kJ w x:=fun x C=>by
  have Q:=cH C;obtain⟨k,I,rfl⟩:=bg C;rw[aE]at I;rw[List.getElem_drop]at Q ⊢
  by_cases h:kJ w (L[lbW L w+k]'(by omega))
  ·exact h
  ·by_cases T:kJ (L[lbW L w+k]'(by omega)) w
   ·have:=(E (lbW L w+k) (by omega)).1 (by rw[aa,ac (by omega),aM];exact T)
    omega
   ·rw[Lu h T]at O
    exact absurd Q O
 have e:L=L.take (lbW L w)++L.drop (lbW L w):=(cT _ _).symm;unfold vd at F;rw[e]at F;obtain⟨a1,a2,a3⟩:=dX.1 F;refine dX.2 ⟨a1,bJ.2 ⟨W,a2⟩,fun x C y J=> ?_⟩;rcases av.1 J with rfl|J
 ·exact h1 x C
 ·exact a3 x C y J
structure Cat where
 t:Tr
 ms:List Man
 ws:List Wd
def fi(l:List Wd):d8:=l.map Wd.sv
def dQ(l:List Man):d8:=l.map Man.sv
theorem dd(l:List Man):(dQ l).length=l.length:=aV ..
theorem fd(l:List Man)(i:Nat)(h:i<l.length):(dQ l).getD i []=(l.getD i mnz).sv:=by simp[dQ,aa,h]
theorem eG(l:List Wd):(fi l).length=l.length:=aV ..
theorem jf(l:List Wd)(i:Nat)(h:i<l.length):(fi l).getD i []=(l.getD i wd0).sv:=by simp[fi,aa,h]
theorem KD(l:List Man)(k:Nat)(m:Man):kO (dQ l) k m.sv=dQ (l.take k++m::l.drop k):=by simp[kO,dQ,fN,mF]
theorem Jy(l:List Wd)(k:Nat)(w:Wd):kO (fi l) k w.sv=fi (l.take k++w::l.drop k):=by simp[kO,fi,fN,mF]
def Cat.sv(c:Cat):f8:=[.lst 2 (o8 c.t.au) .no,.int .i64 c.t.thr,.lst 7 (dQ c.ms) .no,.lst 2 (fi c.ws) .no]
def pI:Cat:=⟨⟨[],0⟩,[],[]⟩
structure ge(c:Cat):Prop where
 sm:pd c.ms
 sw:vd c.ws
 m:∀x∈c.ms,dC x/\fj x=0
 w:∀x∈c.ws,oc x
 n:c.ms.length+c.ws.length<=16
open Classical in
noncomputable def mN(c:Cat)(m:Man):Cat×Int:=if m∈c.ms then(c,0)else if 16<=c.ms.length+c.ws.length then(pI,25)else(⟨c.t,mz c.ms m,c.ws⟩,0)
open Classical in
noncomputable def ng(c:Cat)(w:Wd):Cat×Int:=if w∈c.ws then(c,0)else if 16<=c.ms.length+c.ws.length then(pI,25)else(⟨c.t,c.ms,tj c.ws w⟩,0)
theorem xaO{c:Cat}(h:ge c){m:Man}(I:dC m)(J:fj m=0)(y:(mN c m).2=0):ge (mN c m).1:=by
 unfold mN at y ⊢;split at y
 ·rename_i C;rw[if_pos C];exact h
 ·rename_i C
  rw[if_neg C];split at y
  ·exact absurd y (by decide)
  ·rename_i F
   rw[if_neg F]
   exact⟨KU h.sm m,h.sw,fun x E=>by
    rcases (rQ _ _ _).1 E with rfl|E
    ·exact⟨I,J⟩
    ·exact h.m x E,h.w,by show(mz c.ms m).length+c.ws.length<=16;rw[rX];omega⟩
theorem xaN{c:Cat}(h:ge c){w:Wd}(F:oc w)(y:(ng c w).2=0):ge (ng c w).1:=by
 unfold ng at y ⊢;split at y
 ·rename_i C;rw[if_pos C];exact h
 ·rename_i C
  rw[if_neg C];split at y
  ·exact absurd y (by decide)
  ·rename_i I
   rw[if_neg I]
   exact⟨h.sm,KS h.sw w C,h.m,fun x E=>by
    rcases (rP _ _ _).1 E with rfl|E
    ·exact F
    ·exact h.w x E,by show c.ms.length+(tj c.ws w).length<=16;rw[zi];omega⟩
def LK(L:List Man)(d:d9)(i j:Nat):CSt:=
 ⟨[(0,.lst 7 (dQ L) .no),(1,.byt d .no),(2,.fn 82 [] []),(8,.int .i64 L.length),(9,.int .i64 i),(10,.int .i64 j)],[],[]⟩
theorem l81(L:List Man)(hb:∀x∈L,dC x)(d:d9)(hs:pd L)(hn:L.length<=1000000000):∀(m i j:Nat),j-i<=m->i<=lbM L d->lbM L d<=j->j<=L.length->
 run T (.loop Vd) (LK L d i j)=some (.x 0,⟨[(0,.lst 7 (dQ L) .no),(1,.byt d .no),(2,.fn 82 [] []),(8,.int .i64 L.length),(9,.int .i64 (lbM L d))],[],[]⟩):=by
 intro m;induction m with
 |zero=>
  intro i j h0 h1 h2 h3;have C:j=i:=by omega
  have E:lbM L d=i:=by omega
  subst C;rw[E,LK,ai];simp only[go_sem,Qj,Ql,Qm,reduceCtorEq,reduceIte]
 |succ m Z=>
  intro i j h0 h1 h2 h3
  by_cases C:i<j
  ·have hv:=dd L
   have W:af.wrap ((i:Int)+(j:Int))=((i+j:Nat):Int):=wZ (by omega)
   have e2:aQ.wrap ((i+j:Nat):Int)=((i+j:Nat):Int):=by rw[bV];omega
   have e3:Int.fdiv ((i+j:Nat):Int) (2^min 1 64)=(((i+j)/2:Nat):Int):=by rw[show min 1 64=1 from rfl,je _ (by decide)];rfl
   have e4:af.wrap (((i+j)/2:Nat):Int)=(((i+j)/2:Nat):Int):=w64 (by omega) (by omega);have e5:aQ.wrap (((i+j)/2:Nat):Int)=(((i+j)/2:Nat):Int):=by rw[bV];omega
   have e6:af.wrap ((((i+j)/2:Nat):Int)+1)=(((i+j)/2+1:Nat):Int):=cr _ (by omega);have I:(i+j)/2<L.length:=by omega
   have O:=fd L ((i+j)/2) I;have F:=qF hs d ((i+j)/2) I;have g:=f82 (L.getD ((i+j)/2) mnz) (hb _ (bP L mnz _ I)) d;have ha:i<=(i+j)/2:=by omega
   have hb:(i+j)/2<j:=by omega
   generalize (i+j)/2=k at*;generalize L.getD k mnz=x at*;simp only[Man.sv]at O g
   by_cases J:Lib.compareBytes (bU x) d<0
   ·have y:=Z (k+1) j (by omega) (by have:=F.1 J;omega) h2 h3
    rw[LK]at y ⊢;rw[ai];simp only[go_sem,Q4,Q5,Qg,Qj,Ql,Qm,reduceCtorEq,reduceIte,C,W,e2,e3,e4,hv,I,O,g,xiv,J,e6,y]
   ·have y:=Z i k (by omega) h1 (by have:=mt F.2 J;omega) (by omega)
    rw[LK]at y ⊢;rw[ai];simp only[go_sem,Q4,Q5,Qg,Qj,Ql,Qm,reduceCtorEq,reduceIte,C,W,e2,e3,e4,hv,I,O,g,xiv,J,y]
  ·have Q:j=i:=by omega
   have E:lbM L d=i:=by omega
   subst Q;rw[E,LK,ai];simp only[go_sem,Qj,Ql,Qm,reduceCtorEq,reduceIte]
theorem f81(L:List Man)(J:∀x∈L,dC x)(d:d9)(O:pd L)(hn:L.length<=1000000000):
 ∃b:Bool,call T 81 [.lst 7 (dQ L) .no,.byt d .no,.fn 82 [] []] [] 0=some ⟨.tup [.int .i64 (lbM L d),.bool b],[],[]⟩:=by
 have C:=l81 L J d O hn _ 0 L.length (aK _) (aY _) (Uv L d) (aK _);rw[LK,az]at C;have F:=dd L;rw[aj xyt]
 by_cases y:lbM L d<L.length
 ·have E:=fd L _ y
  have g:=f82 (L.getD (lbM L d) mnz) (J _ (bP L mnz _ y)) d;generalize lbM L d=q at*;generalize L.getD q mnz=x at*;simp only[Man.sv]at E g
  by_cases I:Lib.compareBytes (bU x) d=0
  ·exact⟨true,by simp only[go_sem,Qg,Qj,Qk,Ql,Qm,reduceCtorEq,reduceIte,F,C,y,E,g,xiv,I]⟩
  ·exact⟨false,by simp only[go_sem,Qg,Qj,Qk,Ql,Qm,reduceCtorEq,reduceIte,F,C,y,E,g,xiv,I]⟩
 ·generalize lbM L d=q at*
  exact⟨false,by simp only[go_sem,Qg,Qj,Qk,Ql,Qm,reduceCtorEq,reduceIte,F,C,y]⟩
theorem Zz(x y:Wd):FO x y<0↔kJ x y:=by
 unfold FO or2 kJ rf;have C:=gM x.man y.man
 by_cases h:Lib.compareBytes x.man y.man=0
 ·rw[if_neg (by simpa using h)]
  rw[h];have e:=C.1 h;constructor
  ·intro k;right;refine⟨e, ?_⟩
   split at k
   ·assumption
   ·split at k<;>omega
  ·rintro(k|⟨_,k⟩)
   ·omega
   ·rw[if_pos k];decide
 ·rw[if_pos h]
  constructor
  ·exact .inl
  ·rintro(k|⟨k,_⟩)
   ·exact k
   ·exact absurd (C.2 k) h
theorem ZA(x y:Wd):FO x y=0↔x=y:=by
 unfold FO or2 rf;have C:=gM x.man y.man;obtain⟨F,J⟩:=x;obtain⟨E,I⟩:=y;simp only[Wd.mk.injEq]at*
 by_cases h:Lib.compareBytes F E=0
 ·rw[if_neg (by simpa using h),C.1 h]
  constructor
  ·intro k;refine⟨rfl, ?_⟩
   split at k
   ·omega
   ·split at k<;>omega
  ·rintro⟨_,rfl⟩
   rw[if_neg (by omega),if_neg (by omega)]
 ·rw[if_pos h]
  constructor
  ·intro k;exact absurd k h
  ·rintro⟨k,_⟩;exact absurd (C.2 k) h
def LJ(L:List Wd)(w:Wd)(i j:Nat):CSt:=
 ⟨[(0,.lst 2 (fi L) .no),(2,.fn 89 [] []),(4,.ptr 104 0),(8,.int .i64 L.length),(9,.int .i64 i),(10,.int .i64 j)],[(104,.rc w.sv)],[]⟩
theorem l88(L:List Wd)(w:Wd)(hs:vd L)(hn:L.length<=1000000000):∀(m i j:Nat),j-i<=m->i<=lbW L w->lbW L w<=j->j<=L.length->
 run T (.loop Vc) (LJ L w i j)=some (.x 0,⟨[(0,.lst 2 (fi L) .no),(2,.fn 89 [] []),(4,.ptr 104 0),(8,.int .i64 L.length),(9,.int .i64 (lbW L w))],[(104,.rc w.sv)],[]⟩):=by
 intro m;induction m with
 |zero=>
  intro i j h0 h1 h2 h3;have C:j=i:=by omega
  have E:lbW L w=i:=by omega
  subst C;rw[E,LJ,ai];simp only[go_sem,Qj,Ql,Qm,reduceCtorEq,reduceIte]
 |succ m Z=>
  intro i j h0 h1 h2 h3
  by_cases C:i<j
  ·have hv:=eG L
   have W:af.wrap ((i:Int)+(j:Int))=((i+j:Nat):Int):=wZ (by omega)
   have e2:aQ.wrap ((i+j:Nat):Int)=((i+j:Nat):Int):=by rw[bV];omega
   have e3:Int.fdiv ((i+j:Nat):Int) (2^min 1 64)=(((i+j)/2:Nat):Int):=by rw[show min 1 64=1 from rfl,je _ (by decide)];rfl
   have e4:af.wrap (((i+j)/2:Nat):Int)=(((i+j)/2:Nat):Int):=w64 (by omega) (by omega);have e5:aQ.wrap (((i+j)/2:Nat):Int)=(((i+j)/2:Nat):Int):=by rw[bV];omega
   have e6:af.wrap ((((i+j)/2:Nat):Int)+1)=(((i+j)/2+1:Nat):Int):=cr _ (by omega);have I:(i+j)/2<L.length:=by omega
   have Q:=jf L ((i+j)/2) I;have F:=my hs w ((i+j)/2) I;have g:=f89 (L.getD ((i+j)/2) wd0) w;have ho:=Zz (L.getD ((i+j)/2) wd0) w;have ha:i<=(i+j)/2:=by omega
   have hb:(i+j)/2<j:=by omega
   generalize (i+j)/2=k at*;generalize L.getD k wd0=x at*
   by_cases J:FO x w<0
   ·have y:=Z (k+1) j (by omega) (by have:=F.1 (ho.1 J);omega) h2 h3
    rw[LJ]at y ⊢;rw[ai];obtain⟨wm,wf⟩:=w;simp only[Wd.sv]at*;simp only[go_sem,Q4,Q5,Qd,Qe,Qf,Qg,Qj,Ql,Qm,reduceCtorEq,reduceIte,C,W,e2,e3,e4,hv,I,Q,g,xis,J,e6,y]
   ·have y:=Z i k (by omega) h1 (by have:=mt F.2 (mt ho.2 J);omega) (by omega)
    rw[LJ]at y ⊢;rw[ai];obtain⟨wm,wf⟩:=w;simp only[Wd.sv]at*;simp only[go_sem,Q4,Q5,Qd,Qe,Qf,Qg,Qj,Ql,Qm,reduceCtorEq,reduceIte,C,W,e2,e3,e4,hv,I,Q,g,xis,J,y]
  ·have O:j=i:=by omega
   have E:lbW L w=i:=by omega
   subst O;rw[E,LJ,ai];simp only[go_sem,Qj,Ql,Qm,reduceCtorEq,reduceIte]
def zq(L:List Wd)(w:Wd):Bool:=decide (lbW L w<L.length/\L.getD (lbW L w) wd0=w)
theorem f88(L:List Wd)(w:Wd)(Q:vd L)(hn:L.length<=1000000000):
 call T 88 [.lst 2 (fi L) .no,.agg w.sv,.fn 89 [] []] [] 0=some ⟨.tup [.int .i64 (lbW L w),.bool (zq L w)],[],[]⟩:=by
 have E:=l88 L w Q hn _ 0 L.length (aK _) (aY _) (nz L w) (aK _);rw[LJ,az]at E;have F:=eG L;rw[aj xyn];unfold zq
 by_cases y:lbW L w<L.length
 ·have J:=jf L _ y
  have g:=f89 (L.getD (lbW L w) wd0) w;have O:=ZA (L.getD (lbW L w) wd0) w
  by_cases C:FO (L.getD (lbW L w) wd0) w=0
  ·rw[decide_eq_true ⟨y,O.1 C⟩]
   generalize lbW L w=q at*;generalize L.getD q wd0=x at*;obtain⟨I,wf⟩:=w;simp only[Wd.sv]at*;simp only[go_sem,Qd,Qe,Qf,Qg,Qj,Qk,Ql,Qm,reduceCtorEq,reduceIte,F,E,y,J,g,xis,C]
  ·rw[decide_eq_false (fun h=>C (O.2 h.2))]
   generalize lbW L w=q at*;generalize L.getD q wd0=x at*;obtain⟨I,wf⟩:=w;simp only[Wd.sv]at*;simp only[go_sem,Qd,Qe,Qf,Qg,Qj,Qk,Ql,Qm,reduceCtorEq,reduceIte,F,E,y,J,g,xis,C]
 ·rw[decide_eq_false (fun h=>y h.1)]
  generalize lbW L w=q at*;obtain⟨I,wf⟩:=w;simp only[Wd.sv]at*;simp only[go_sem,Qd,Qe,Qf,Qg,Qj,Qk,Ql,Qm,reduceCtorEq,reduceIte,F,E,y]
def mS(v:d9)(C y a3 a4:Int)(es:List Ent)(rs:List Rul):aH:= .rc [.str v,.int .i64 C,.int .i64 y,.int .i64 a3,.int .i64 a4,.lst 4 (di es) .no,.lst 4 (dS rs) .no]
theorem hJ{α:Type}(l:List α)(d:α)(i:Nat)(h:i<l.length):l.drop i=l.getD i d::l.drop (i+1):=by rw[bz h,aa,ac h];rfl
theorem xwD(
 v:d9)(I F a3 a4:Int)(es E:List Ent)(rs O:List Rul)(hl:es.length=E.length)(hn:es.length<=1000000)(hd:∀x∈es,x.dig.length<=1000000):∀(k i:Nat),es.length-i=k->i<=es.length->
 (es.drop i=E.drop i->run T (.loop IE) ⟨[(2,.ptr 102 0),(3,.ptr 103 0),(5,.int .i64 i)],[(102,mS v I F a3 a4 es rs),(103,mS v I F a3 a4 E O)],[]⟩=some (.x 0,⟨[(2,.ptr 102 0),(3,.ptr 103 0)],[(102,mS v I F a3 a4 es rs),(103,mS v I F a3 a4 E O)],[]⟩))/\
 (¬es.drop i=E.drop i->∃ob,run T (.loop IE) ⟨[(2,.ptr 102 0),(3,.ptr 103 0),(5,.int .i64 i)],[(102,mS v I F a3 a4 es rs),(103,mS v I F a3 a4 E O)],[]⟩=some (.r,⟨[(4,.bool false)],ob,[]⟩)):=by
 intro k;induction k with
 |zero=>
  intro i h1 h2;have J:¬i<es.length:=by omega
  have e1:es.drop i=[]:=bT (by omega);have e2:E.drop i=[]:=bT (by omega);have L:=dn es;refine⟨fun _=> ?_,fun h=>absurd (e1.trans e2.symm) h⟩;rw[ai];simp only[mS,go_sem,Qg,Qj,Qk,Ql,Qm,reduceIte,L,J]
 |succ k ih=>
  intro i h1 h2;have J:i<es.length:=by omega
  have C:i<E.length:=by omega
  have L:=dn es;have Q:=dn E;have hg:=fR es i J;have hh:=fR E i C;have dE:=hJ es en0 i J;have dF:=hJ E en0 i C;have a6:=ih (i+1) (by omega) (by omega);have e1:=cr i (by omega);have a7:=hd _ (bP es en0 i J);rw[dE,dF];generalize es.drop (i+1)=R at*;generalize E.drop (i+1)=S at*;generalize es.getD i en0=x at*;generalize E.getD i en0=y at*;obtain⟨r1,n1,v1,W⟩:=x;obtain⟨r2,n2,v2,Z⟩:=y;have g:=f31 W Z (by simp only at a7;omega);clear a7 dE dF hd ih;simp only[mS,Ent.sv]at*
  by_cases q1:r1=r2
  ·subst q1
   by_cases q2:n1=n2
   ·subst q2
    by_cases q3:v1=v2
    ·subst q3
     by_cases q4:W=Z
     ·subst q4
      rw[decide_eq_true rfl]at g;refine⟨fun h=> ?_,fun h=> ?_⟩
      ·have q:=a6.1 (mU.inj h).2
       rw[ai];simp only[go_sem,Qd,Qe,Qf,Qg,Qj,Qk,Ql,Qm,reduceCtorEq,reduceIte,J,C,L,Q,hg,hh,e1,g,vg,q]
      ·obtain⟨ob,q⟩:=a6.2 (fun h'=>h (by rw[h']))
       refine⟨ob, ?_⟩;rw[ai];simp only[go_sem,Qd,Qe,Qf,Qg,Qj,Qk,Ql,Qm,reduceCtorEq,reduceIte,J,C,L,Q,hg,hh,e1,g,vg,q]
     ·rw[decide_eq_false q4]at g
      refine⟨fun h=>absurd h (by simp[q4]),fun _=>⟨[(102,.rc [.str v,.int .i64 I,.int .i64 F,.int .i64 a3,.int .i64 a4,.lst 4 (di es) .no,.lst 4 (dS rs) .no]),(103,.rc [.str v,.int .i64 I,.int .i64 F,.int .i64 a3,.int .i64 a4,.lst 4 (di E) .no,.lst 4 (dS O) .no]),(106,.rc [.int .i64 r1,.str n1,.int .i64 v1,.byt W .no]),(107,.rc [.int .i64 r1,.str n1,.int .i64 v1,.byt Z .no])], ?_⟩⟩;rw[ai];simp only[go_sem,Qd,Qe,Qf,Qg,Qj,Qk,Ql,Qm,reduceCtorEq,reduceIte,J,C,L,Q,hg,hh,g,vg]
    ·refine⟨fun h=>absurd h (by simp[q3]),fun _=>⟨[(102,.rc [.str v,.int .i64 I,.int .i64 F,.int .i64 a3,.int .i64 a4,.lst 4 (di es) .no,.lst 4 (dS rs) .no]),(103,.rc [.str v,.int .i64 I,.int .i64 F,.int .i64 a3,.int .i64 a4,.lst 4 (di E) .no,.lst 4 (dS O) .no]),(106,.rc [.int .i64 r1,.str n1,.int .i64 v1,.byt W .no]),(107,.rc [.int .i64 r1,.str n1,.int .i64 v2,.byt Z .no])], ?_⟩⟩
     rw[ai];simp only[go_sem,Qd,Qe,Qf,Qg,Qj,Qk,Ql,Qm,reduceCtorEq,reduceIte,J,C,L,Q,hg,hh,q3]
   ·refine⟨fun h=>absurd h (by simp[q2]),fun _=>⟨[(102,.rc [.str v,.int .i64 I,.int .i64 F,.int .i64 a3,.int .i64 a4,.lst 4 (di es) .no,.lst 4 (dS rs) .no]),(103,.rc [.str v,.int .i64 I,.int .i64 F,.int .i64 a3,.int .i64 a4,.lst 4 (di E) .no,.lst 4 (dS O) .no]),(106,.rc [.int .i64 r1,.str n1,.int .i64 v1,.byt W .no]),(107,.rc [.int .i64 r1,.str n2,.int .i64 v2,.byt Z .no])], ?_⟩⟩
    rw[ai];simp only[go_sem,Qd,Qe,Qf,Qg,Qj,Qk,Ql,Qm,reduceCtorEq,reduceIte,J,C,L,Q,hg,hh,q2]
  ·refine⟨fun h=>absurd h (by simp[q1]),fun _=>⟨[(102,.rc [.str v,.int .i64 I,.int .i64 F,.int .i64 a3,.int .i64 a4,.lst 4 (di es) .no,.lst 4 (dS rs) .no]),(103,.rc [.str v,.int .i64 I,.int .i64 F,.int .i64 a3,.int .i64 a4,.lst 4 (di E) .no,.lst 4 (dS O) .no]),(106,.rc [.int .i64 r1,.str n1,.int .i64 v1,.byt W .no]),(107,.rc [.int .i64 r2,.str n2,.int .i64 v2,.byt Z .no])], ?_⟩⟩
   rw[ai];simp only[go_sem,Qd,Qe,Qf,Qg,Qj,Qk,Ql,Qm,reduceCtorEq,reduceIte,J,C,L,Q,hg,hh,q1]
theorem xwC(
 v:d9)(I L a3 a4:Int)(es fs:List Ent)(rs E:List Rul)(hl:rs.length=E.length)(hn:rs.length<=1000000):∀(k i:Nat),rs.length-i=k->i<=rs.length->
 (rs.drop i=E.drop i->run T (.loop xo) ⟨[(2,.ptr 102 0),(3,.ptr 103 0),(8,.int .i64 i)],[(102,mS v I L a3 a4 es rs),(103,mS v I L a3 a4 fs E)],[]⟩=some (.x 2,⟨[],[(102,mS v I L a3 a4 es rs),(103,mS v I L a3 a4 fs E)],[]⟩))/\
 (¬rs.drop i=E.drop i->run T (.loop xo) ⟨[(2,.ptr 102 0),(3,.ptr 103 0),(8,.int .i64 i)],[(102,mS v I L a3 a4 es rs),(103,mS v I L a3 a4 fs E)],[]⟩=some (.r,⟨[(4,.bool false)],[(102,mS v I L a3 a4 es rs),(103,mS v I L a3 a4 fs E)],[]⟩)):=by
 intro k;induction k with
 |zero=>
  intro i h1 h2;have F:¬i<rs.length:=by omega
  have e1:rs.drop i=[]:=bT (by omega);have e2:E.drop i=[]:=bT (by omega);have J:=dM rs;refine⟨fun _=> ?_,fun h=>absurd (e1.trans e2.symm) h⟩;rw[ai];simp only[mS,go_sem,Qg,Qj,Ql,Qm,reduceIte,J,F]
 |succ k ih=>
  intro i h1 h2;have F:i<rs.length:=by omega
  have C:i<E.length:=by omega
  have J:=dM rs;have O:=dM E;have W:=jY rs i F;have Q:=jY E i C;have dE:=hJ rs rl0 i F;have dF:=hJ E rl0 i C;have Z:=ih (i+1) (by omega) (by omega);have e1:=cr i (by omega);rw[dE,dF];generalize rs.drop (i+1)=R at*;generalize E.drop (i+1)=S at*;generalize rs.getD i rl0=x at*;generalize E.getD i rl0=y at*;obtain⟨r1,n1,v1,d1⟩:=x;obtain⟨r2,n2,v2,d2⟩:=y;clear dE dF ih;simp only[mS,Rul.sv]at*
  by_cases q1:r1=r2
  ·subst q1
   by_cases q2:n1=n2
   ·subst q2
    by_cases q3:v1=v2
    ·subst q3
     by_cases q4:d1=d2
     ·subst q4
      refine⟨fun h=> ?_,fun h=> ?_⟩
      ·have q:=Z.1 (mU.inj h).2
       rw[ai];simp only[go_sem,Qg,Qj,Ql,Qm,reduceIte,F,C,J,O,W,Q,e1,q]
      ·have q:=Z.2 (fun h'=>h (by rw[h']))
       rw[ai];simp only[go_sem,Qg,Qj,Ql,Qm,reduceIte,F,C,J,O,W,Q,e1,q]
     ·refine⟨fun h=>absurd h (by simp[q4]),fun _=> ?_⟩
      rw[ai];simp only[go_sem,Qg,Qj,Ql,Qm,reduceIte,F,C,J,O,W,Q,q4]
    ·refine⟨fun h=>absurd h (by simp[q3]),fun _=> ?_⟩
     rw[ai];simp only[go_sem,Qg,Qj,Ql,Qm,reduceIte,F,C,J,O,W,Q,q3]
   ·refine⟨fun h=>absurd h (by simp[q2]),fun _=> ?_⟩
    rw[ai];simp only[go_sem,Qg,Qj,Ql,Qm,reduceIte,F,C,J,O,W,Q,q2]
  ·refine⟨fun h=>absurd h (by simp[q1]),fun _=> ?_⟩
   rw[ai];simp only[go_sem,Qg,Qj,Ql,Qm,reduceIte,F,C,J,O,W,Q,q1]
noncomputable def eqM(m n:Man):Bool:= @decide (m=n) (Classical.propDecidable _)
theorem VV{m n:Man}(h:m=n):eqM m n=true:=by unfold eqM;exact @decide_eq_true _ (Classical.propDecidable _) h
theorem nS{m n:Man}(h:¬m=n):eqM m n=false:=by unfold eqM;exact @decide_eq_false _ (Classical.propDecidable _) h
theorem f56(m n:Man)(Q:dC m):call T 56 [.agg m.sv,.agg n.sv] [] 0=some ⟨.bool (eqM m n),[],[]⟩:=by
 have a8:=Q.en;have a6:=Q.rn;have a7:∀x∈m.ents,x.dig.length<=1000000:=fun x hx=>(Q.e x hx).2
 have O:=dn m.ents;have L:=dn n.ents;have E:=dM m.ruls;have F:=dM n.ruls;clear Q;obtain⟨v,a1,a2,a3,a4,es,rs⟩:=m;obtain⟨w,b1,b2,b3,b4,I,J⟩:=n;rw[aj xyL];simp only[Man.sv]at*
 by_cases q1:v=w
 ·subst q1
  by_cases q2:a1=b1
  ·subst q2
   by_cases q3:a2=b2
   ·subst q3
    by_cases q4:a3=b3
    ·subst q4
     by_cases q5:a4=b4
     ·subst q5
      by_cases q6:es.length=I.length
      ·have y:(es.length:Int)=I.length:=by omega
       by_cases q7:rs.length=J.length
       ·have C:(rs.length:Int)=J.length:=by omega
        have h1:=xwD v a1 a2 a3 a4 es I rs J q6 a8 a7 _ 0 rfl (aY _);have h2:=xwC v a1 a2 a3 a4 es I rs J q7 a6 _ 0 rfl (aY _);simp only[az,bj,mS]at h1 h2
        by_cases W:es=I
        ·have k1:=h1.1 W
         by_cases Z:rs=J
         ·have k2:=h2.1 Z
          rw[VV (by rw[W,Z])];simp only[go_sem,Qg,Qj,Qk,Ql,Qm,reduceCtorEq,reduceIte,O,L,E,F,y,C,k1,k2]
         ·have k2:=h2.2 Z
          rw[nS (fun h=>Z (Man.mk.inj h).2.2.2.2.2.2)];simp only[go_sem,Qg,Qj,Qk,Ql,Qm,reduceCtorEq,reduceIte,O,L,E,F,y,C,k1,k2]
        ·obtain⟨ob,k1⟩:=h1.2 W
         rw[nS (fun h=>W (Man.mk.inj h).2.2.2.2.2.1)];simp only[go_sem,Qg,Qj,Qk,Ql,Qm,reduceCtorEq,reduceIte,O,L,E,F,y,C,k1]
       ·have C:¬(rs.length:Int)=J.length:=by omega
        rw[nS (fun h=>q7 (by rw[(Man.mk.inj h).2.2.2.2.2.2]))];simp only[go_sem,Qg,Qj,Qk,Ql,Qm,reduceCtorEq,reduceIte,O,L,E,F,y,C]
      ·have y:¬(es.length:Int)=I.length:=by omega
       rw[nS (fun h=>q6 (by rw[(Man.mk.inj h).2.2.2.2.2.1]))];simp only[go_sem,Qg,Qj,Qk,Ql,Qm,reduceCtorEq,reduceIte,O,L,E,F,y]
     ·rw[nS (fun h=>q5 (Man.mk.inj h).2.2.2.2.1)]
      simp only[go_sem,Qg,Qj,Qk,Ql,Qm,reduceCtorEq,reduceIte,q5]
    ·rw[nS (fun h=>q4 (Man.mk.inj h).2.2.2.1)]
     simp only[go_sem,Qg,Qj,Qk,Ql,Qm,reduceCtorEq,reduceIte,q4]
   ·rw[nS (fun h=>q3 (Man.mk.inj h).2.2.1)]
    simp only[go_sem,Qg,Qj,Qk,Ql,Qm,reduceCtorEq,reduceIte,q3]
  ·rw[nS (fun h=>q2 (Man.mk.inj h).2.1)]
   simp only[go_sem,Qg,Qj,Qk,Ql,Qm,reduceCtorEq,reduceIte,q2]
 ·rw[nS (fun h=>q1 (Man.mk.inj h).1)]
  simp only[go_sem,Qg,Qj,Qk,Ql,Qm,reduceCtorEq,reduceIte,q1]
def wdL(y:Int)(d:d9)(W:List Wd):Bool:=W.any (wdB y d)
theorem xwY(W:List Wd)(y:Int)(d:d9)(hn:W.length<=1000000):∀(n i:Nat),W.length-i=n->i<=W.length->
 if(W.drop i).any (wdB y d)then ∃k:Nat,run T (.loop xE) ⟨[(0,.lst 2 (fi W) .no),(1,.fn 100 [] [.ptr 0 0,.ptr 1 0]),(7,.int .i64 W.length),(8,.int .i64 i)],[(0,.rc [.int .i64 y]),(1,.rc [.byt d .no])],[]⟩=some (.r,⟨[(4,.int .i64 k)],[(0,.rc [.int .i64 y]),(1,.rc [.byt d .no])],[]⟩)
 else run T (.loop xE) ⟨[(0,.lst 2 (fi W) .no),(1,.fn 100 [] [.ptr 0 0,.ptr 1 0]),(7,.int .i64 W.length),(8,.int .i64 i)],[(0,.rc [.int .i64 y]),(1,.rc [.byt d .no])],[]⟩=some (.x 0,⟨[],[(0,.rc [.int .i64 y]),(1,.rc [.byt d .no])],[]⟩):=by
 intro n;have L:=eG W;induction n with
 |zero=>
  intro i Q h1;have hi:i=W.length:=by omega
  subst hi;rw[bK,List.any_nil,if_neg (by decide),ai];simp only[go_sem,Qj,Ql,Qm,reduceCtorEq,reduceIte]
 |succ n ih=>
  intro i Q h1;have F:i<W.length:=by omega
  have O:=cr i (by omega);have I:=jf W i F;have g:=xx1 (W.getD i wd0) y d;have C:=ih (i+1) (by omega) (by omega);rw[hJ W wd0 i F,List.any_cons];generalize (W.drop (i+1)).any (wdB y d)=Z at*;generalize W.getD i wd0=w at*
  by_cases J:wdB y d w=true
  ·rw[J,Bool.true_or,if_pos rfl]
   refine⟨i, ?_⟩;obtain⟨wm,wf⟩:=w;simp only[Wd.sv]at*;rw[J]at g;rw[ai];simp only[go_sem,Qg,Qi,Qj,Qk,Ql,Qm,reduceCtorEq,reduceIte,F,L,I,g,Yg]
  ·have E:wdB y d w=false:=by simpa using J
   rw[E,tT];obtain⟨wm,wf⟩:=w;simp only[Wd.sv]at*;rw[E]at g
   by_cases hz:Z=true
   ·rw[if_pos hz]at C ⊢
    obtain⟨k,C⟩:=C;refine⟨k, ?_⟩;rw[ai];simp only[go_sem,Qg,Qi,Qj,Qk,Ql,Qm,reduceCtorEq,reduceIte,F,L,I,g,Yg,O,C]
   ·rw[if_neg hz]at C ⊢
    rw[ai];simp only[go_sem,Qg,Qi,Qj,Qk,Ql,Qm,reduceCtorEq,reduceIte,F,L,I,g,Yg,O,C]
theorem xxM(W:List Wd)(y:Int)(d:d9)(hn:W.length<=1000000):∃k:Int,(0<=k↔wdL y d W=true)/\
 call T 140 [.lst 2 (fi W) .no,.fn 100 [] [.ptr 0 0,.ptr 1 0]] [.rc [.int .i64 y],.rc [.byt d .no]] 0=some ⟨.int .i64 k,[(0,.rc [.int .i64 y]),(1,.rc [.byt d .no])],[]⟩:=by
 have E:=eG W;have C:=xwY W y d hn _ 0 rfl (aY _);rw[bj,az]at C;unfold wdL;rw[aj xsD]
 by_cases hz:W.any (wdB y d)=true
 ·rw[if_pos hz]at C
  obtain⟨k,C⟩:=C;exact⟨k,⟨fun _=>hz,fun _=>by omega⟩,by simp only[go_sem,Q9,Qg,Qj,Qk,Ql,Qm,reduceCtorEq,reduceIte,E,C]⟩
 ·rw[if_neg hz]at C
  exact⟨-1,⟨fun h=>absurd h (by decide),fun h=>absurd h hz⟩,by simp only[go_sem,Q9,Qg,Qj,Qk,Ql,Qm,reduceCtorEq,reduceIte,E,C]⟩
theorem f99(W:List Wd)(y:Int)(d:d9)(hn:W.length<=1000000):
 call T 99 [.lst 2 (fi W) .no,.fn 100 [] [.ptr 0 0,.ptr 1 0]] [.rc [.int .i64 y],.rc [.byt d .no]] 0=some ⟨.bool (wdL y d W),[(0,.rc [.int .i64 y]),(1,.rc [.byt d .no])],[]⟩:=by
 obtain⟨k,C,g⟩:=xxM W y d hn;rw[aj xyd]
 by_cases h:0<=k
 ·rw[C.1 h]
  simp only[go_sem,Qg,Qi,Qj,Qk,Ql,Qm,reduceCtorEq,reduceIte,g,xiW,h]
 ·have E:wdL y d W=false:=by
   have:=mt C.2 h;simpa using this
  rw[E];simp only[go_sem,Qg,Qi,Qj,Qk,Ql,Qm,reduceCtorEq,reduceIte,g,xiW,h]
theorem f57(c:Cat)(F:c.ws.length<=1000000)(m:Man)(C:dC m)(y:Int):call T 57 [.agg c.sv,.agg m.sv,.int .i64 y] [] 0=some ⟨.bool (wdL y (bU m) c.ws),[],[]⟩:=by have g0:=f32 m C;have E:=f99 c.ws y (bU m) F;generalize bU m=D at*;obtain⟨I,O,m2,m3,m4,J,L⟩:=m;obtain⟨⟨au,Q⟩,ms,ws⟩:=c;simp only[Man.sv,Cat.sv]at*;rw[aj xyK];simp only[go_sem,Qg,Qi,Qj,Qk,Ql,Qm,reduceCtorEq,reduceIte,g0,wY,E,xze]
theorem l55(L:List Wd)(w:Wd)(hs:vd L)(hw:w.man.length<=32)(hL:∀x∈L,x.man.length<=32)(hn:L.length<=1000000):∀(n i:Nat),lbW L w-i=n->i<=lbW L w->
 run T (.loop Vr) ⟨[(0,.lst 2 (fi L) .no),(3,.ptr 103 0),(6,.int .i64 i)],[(103,.rc w.sv)],[]⟩=some (.x 0,⟨[(0,.lst 2 (fi L) .no),(3,.ptr 103 0),(6,.int .i64 (lbW L w))],[(103,.rc w.sv)],[]⟩):=by
 intro n;have hv:=eG L;have a1:=nz L w;induction n with
 |zero=>
  intro i h0 h1;have hi:i=lbW L w:=by omega
  by_cases C:i<L.length
  ·have Q:=jf L i C
   have F:=my hs w i C;have hx:=hL _ (bP L wd0 i C);rw[<-hi]at*;have I:¬kJ (L.getD i wd0) w:=fun h=>by have:=F.1 h;omega
   generalize L.getD i wd0=x at*;have O:=f98 x.man w.man (by omega);have g2:=f31 x.man w.man (by omega);obtain⟨W,wf⟩:=w;obtain⟨J,xf⟩:=x;unfold kJ at I;simp only[Wd.sv]at*;have y:¬bN J W=true:=fun h=>I (.inl ((ec _ _).2 h))
   rw[ai]
   by_cases he:J=W
   ·subst he
    have E:¬xf<wf:=fun h=>I (.inr ⟨rfl,h⟩)
    simp only[go_sem,Qd,Qe,Qf,Qg,Qj,Qk,Ql,Qm,reduceCtorEq,reduceIte,hv,C,Q,O,GD,y,g2,vg,E]
   ·simp only[go_sem,Qd,Qe,Qf,Qg,Qj,Qk,Ql,Qm,reduceCtorEq,reduceIte,hv,C,Q,O,GD,y,g2,vg,he]
  ·rw[<-hi,ai]
   simp only[go_sem,Qd,Qe,Qf,Qj,Ql,Qm,reduceCtorEq,reduceIte,hv,C]
 |succ n ih=>
  intro i h0 h1;have C:i<L.length:=by omega
  have e1:=cr i (by omega);have Q:=jf L i C;have F:=my hs w i C;have hx:=hL _ (bP L wd0 i C);have hb:kJ (L.getD i wd0) w:=F.2 (by omega);have Z:=ih (i+1) (by omega) (by omega);generalize lbW L w=K at*;generalize L.getD i wd0=x at*;have O:=f98 x.man w.man (by omega);have g2:=f31 x.man w.man (by omega);obtain⟨W,wf⟩:=w;obtain⟨J,xf⟩:=x;unfold kJ at hb;simp only[Wd.sv]at*;rw[ai]
  by_cases y:bN J W=true
  ·simp only[go_sem,Qd,Qe,Qf,Qg,Qj,Qk,Ql,Qm,reduceCtorEq,reduceIte,hv,C,Q,O,GD,y,e1,Z]
  ·have E:J=W/\xf<wf:=hb.resolve_left (fun h=>y ((ec _ _).1 h))
   obtain⟨rfl,E⟩:=E;simp only[go_sem,Qd,Qe,Qf,Qg,Qj,Qk,Ql,Qm,reduceCtorEq,reduceIte,hv,C,Q,O,GD,y,g2,vg,E,e1,Z]
theorem f55(L:List Wd)(w:Wd)(Z:vd L)(O:w.man.length<=32)(hL:∀x∈L,x.man.length<=32)(hn:L.length<=1000000):
 call T 55 [.lst 2 (fi L) .no,.agg w.sv] [] 0=some ⟨.tup [.int .i64 (lbW L w),.bool (zq L w)],[],[]⟩:=by
 have C:=l55 L w Z O hL hn _ 0 rfl (aY _);rw[az]at C;have F:=eG L;unfold zq;rw[aj xyM]
 by_cases y:lbW L w<L.length
 ·have I:=jf L _ y
  have hx:=hL _ (bP L wd0 _ y);generalize lbW L w=q at*;generalize L.getD q wd0=x at*;have g:=f41 x w (by omega)
  by_cases E:x=w
  ·rw[decide_eq_true ⟨y,E⟩]
   rw[decide_eq_true E]at g;obtain⟨J,wf⟩:=w;obtain⟨Q,W⟩:=x;simp only[Wd.sv]at*;simp only[go_sem,Qd,Qe,Qf,Qg,Qj,Qk,Ql,Qm,reduceCtorEq,reduceIte,F,C,y,I,g,xoB]
  ·rw[decide_eq_false (fun h=>E h.2)]
   rw[decide_eq_false E]at g;obtain⟨J,wf⟩:=w;obtain⟨Q,W⟩:=x;simp only[Wd.sv]at*;simp only[go_sem,Qd,Qe,Qf,Qg,Qj,Qk,Ql,Qm,reduceCtorEq,reduceIte,F,C,y,I,g,xoB]
 ·rw[decide_eq_false (fun h=>y h.1)]
  generalize lbW L w=q at*;obtain⟨J,wf⟩:=w;simp only[Wd.sv]at*;simp only[go_sem,Qd,Qe,Qf,Qg,Qj,Qk,Ql,Qm,reduceCtorEq,reduceIte,F,C,y]
theorem l53(L:List Man)(m:Man)(hb:∀x∈L,dC x)(hm:dC m)(hs:pd L)(hn:L.length<=1000000):∀(n i:Nat),ubM L (bU m)-i=n->i<=ubM L (bU m)->(∀k,k<i->L.getD k mnz≠m)->
 ((m∉L/\run T (.loop xq) ⟨[(0,.lst 7 (dQ L) .no),(3,.ptr 103 0),(6,.byt (bU m) .no),(7,.int .i64 i)],[(103,.rc m.sv)],[]⟩=some (.x 0,⟨[(7,.int .i64 (ubM L (bU m)))],[(103,.rc m.sv)],[]⟩))\/
  (m∈L/\∃k:Nat,run T (.loop xq) ⟨[(0,.lst 7 (dQ L) .no),(3,.ptr 103 0),(6,.byt (bU m) .no),(7,.int .i64 i)],[(103,.rc m.sv)],[]⟩=some (.r,⟨[(4,.int .i64 k),(5,.bool true)],[(103,.rc m.sv)],[]⟩))):=by
 intro n;have hv:=dd L;have a6:=kR L (bU m);induction n with
 |zero=>
  intro i h0 h1 J;have hi:i=ubM L (bU m):=by omega
  left;refine⟨fun h=> ?_, ?_⟩
  ·obtain⟨k,k1,k2,k3⟩:=(F0 hs m).1 h
   exact J k (by omega) k3
  by_cases y:i<L.length
  ·have W:=fd L i y
   have I:=mc hs (bU m) i y;have F:=hb _ (bP L mnz i y);rw[<-hi]at*
   have E:Lib.compareBytes (bU m) (bU (L.getD i mnz))<0:=by
    by_cases h:Lib.compareBytes (bU m) (bU (L.getD i mnz))<0
    ·exact h
    ·have:=I.1 h;omega
   generalize L.getD i mnz=x at*;have g0:=f36 x F;have hd:=sB m;generalize bU m=D at*;generalize bU x=X at*;have O:=f98 D X (by omega);have C:bN D X=true:=(ec _ _).1 E;obtain⟨xv,x1,x2,x3,x4,xe,xr⟩:=x;simp only[Man.sv]at*;rw[ai];simp only[go_sem,Qg,Qj,Ql,Qm,reduceCtorEq,reduceIte,hv,y,W,g0,GN,O,GD,C]
  ·rw[<-hi,ai]
   generalize bU m=D at*;simp only[go_sem,Qj,Ql,Qm,reduceCtorEq,reduceIte,hv,y]
 |succ n ih=>
  intro i h0 h1 J;have y:i<L.length:=by omega
  have e1:=cr i (by omega);have W:=fd L i y;have I:=mc hs (bU m) i y;have F:=hb _ (bP L mnz i y);have E:¬Lib.compareBytes (bU m) (bU (L.getD i mnz))<0:=I.2 (by omega)
  by_cases Z:L.getD i mnz=m
  ·right
   refine⟨(iw L mnz m).2 ⟨i,y,Z⟩,i, ?_⟩;rw[Z]at W E;have g0:=f36 m hm;have Q:=f56 m m hm;rw[VV rfl]at Q;have hd:=sB m;generalize bU m=D at*;have O:=f98 D D (by omega);have C:¬bN D D=true:=fun h=>E ((ec _ _).2 h)
   obtain⟨xv,x1,x2,x3,x4,xe,xr⟩:=m;simp only[Man.sv]at*;rw[ai];simp only[go_sem,Qd,Qe,Qf,Qg,Qj,Ql,Qm,reduceCtorEq,reduceIte,hv,y,W,g0,GN,O,GD,C,Q,xox]
  ·have a1:=ih (i+1) (by omega) (by omega) (fun k hk=>by
    rcases bQ k i with h|h
    ·exact J k h
    ·rw[show k=i by omega];exact Z)
   have a2:run T (.loop xq) ⟨[(0,.lst 7 (dQ L) .no),(3,.ptr 103 0),(6,.byt (bU m) .no),(7,.int .i64 i)],[(103,.rc m.sv)],[]⟩=
    run T (.loop xq) ⟨[(0,.lst 7 (dQ L) .no),(3,.ptr 103 0),(6,.byt (bU m) .no),(7,.int .i64 ((i+1:Nat):Int))],[(103,.rc m.sv)],[]⟩:=by
    generalize L.getD i mnz=x at*;have g0:=f36 x F;have Q:=f56 x m F;rw[nS Z]at Q;have hd:=sB m;generalize bU m=D at*;generalize bU x=X at*;have O:=f98 D X (by omega);have C:¬bN D X=true:=fun h=>E ((ec _ _).2 h)
    obtain⟨xv,x1,x2,x3,x4,xe,xr⟩:=x;obtain⟨mv,m1,m2,m3,m4,me,mr⟩:=m;simp only[Man.sv]at*
    conv=>lhs;rw[ai]
    simp only[go_sem,Qd,Qe,Qf,Qg,Qj,Ql,Qm,reduceCtorEq,reduceIte,hv,y,W,g0,GN,O,GD,C,Q,xox,e1]
   rw[a2];exact a1
theorem f53(L:List Man)(m:Man)(E:∀x∈L,dC x)(C:dC m)(Q:pd L)(hn:L.length<=1000000):
 (m∉L/\call T 53 [.lst 7 (dQ L) .no,.agg m.sv] [] 0=some ⟨.tup [.int .i64 (ubM L (bU m)),.bool false],[],[]⟩)\/
 (m∈L/\∃k:Nat,call T 53 [.lst 7 (dQ L) .no,.agg m.sv] [] 0=some ⟨.tup [.int .i64 k,.bool true],[],[]⟩):=by
 have y:=l53 L m E C Q hn _ 0 rfl (aY _) (fun k W=>by omega);rw[az]at y;have g0:=f36 m C;rcases y with⟨h,y⟩|⟨h,k,y⟩
 ·left
  refine⟨h, ?_⟩;generalize ubM L (bU m)=K at*;generalize bU m=D at*;obtain⟨F,O,m2,m3,m4,I,J⟩:=m;simp only[Man.sv]at*;rw[aj xvu];simp only[go_sem,Qg,Qj,Qk,Ql,Qm,reduceCtorEq,reduceIte,g0,GN,y]
 ·right
  refine⟨h,k, ?_⟩;generalize bU m=D at*;obtain⟨F,O,m2,m3,m4,I,J⟩:=m;simp only[Man.sv]at*;rw[aj xvu];simp only[go_sem,Qg,Qj,Qk,Ql,Qm,reduceCtorEq,reduceIte,g0,GN,y]
end Go.Proofs.YtbfnljmmepcbfaaGreatDoor
