/- Contracts. No condition. -/
import Derived.Test.YtbfnljmmepcbfaaGreatDoorTdPB
import Derived.Test.YtbfnljmmepcbfaaGreatDoorTePB
open Bool renaming and_eq_true -> aC, false_or -> jC, not_eq_true' -> cT
open Int renaming fdiv_eq_ediv_of_nonneg -> jc, natCast_zero -> ay
open Go.IntKind renaming i64 -> af, u64 -> aQ, wrap_u64 -> bO
open List renaming Pairwise -> fP, append_assoc -> az, append_nil -> bx, cons -> mP, cons_append -> bi, drop -> iD, drop_eq_getElem_cons -> bt, drop_eq_nil_of_le -> bN, drop_length -> bw, drop_zero -> aW, flatMap_cons -> eo, foldl_nil -> fo, getD_cons_succ -> jg, getD_eq_getElem?_getD -> aa, getElem?_append_left -> bo, getElem?_append_right -> bA, getElem?_eq_getElem -> ac, getElem_mem -> bv, getElem_of_mem -> bp, length_append -> ae, length_cons -> al, length_drop -> aG, length_eq_zero_iff -> cu, length_map -> aY, length_nil -> aA, length_replicate -> dJ, length_set -> ny, length_singleton -> aF, length_take -> aq, map_append -> cf, map_cons -> aI, map_drop -> tH, map_nil -> bJ, map_take -> ic, mem_append -> am, mem_cons -> av, mem_cons_of_mem -> aw, mem_cons_self -> aB, mem_of_mem_drop -> cB, mem_of_mem_take -> bC, mem_range -> eV, mem_singleton -> bj, nil_append -> aE, pairwise_append -> dX, pairwise_cons -> bV, pairwise_iff_getElem -> iS, replicate -> aL, take -> eT, take_append_drop -> dH, take_length -> dA
open Nat renaming add_zero -> ft, le_refl -> aJ, lt_or_ge -> bK, mul_one -> dp, sub_self -> sA, zero_add -> bT, zero_le -> aX
open Go.Op renaming bytesLess -> bH
open Option renaming getD_some -> aM
open UInt8 renaming ofInt -> b8
set_option maxRecDepth 100000
set_option maxHeartbeats 16000000
set_option linter.unusedSimpArgs false
set_option linter.unusedVariables false
namespace Go.Proofs.YtbfnljmmepcbfaaGreatDoor
open Go.Sy
open UInt8 renaming reduceLT -> Q0, reduceLE -> Q1
open Int renaming reduceToNat -> Q2, reduceLE -> Q3, reduceLT -> Q4, reduceEq -> Q5, reduceNe -> Q6, reduceNeg -> Q7, reduceAdd -> Q8, reduceSub -> Q9, reduceMul -> Qa
open Nat renaming reducePow -> Qb, reduceDiv -> Qc, reduceMod -> Qd, reduceAdd -> Qe, reduceSub -> Qf, reduceMul -> Qg, reduceLT -> Qh, reduceLeDiff -> Qi, reduceEqDiff -> Qj, reduceBEq -> Qk
theorem mq(B:d9)(y:B.length<=1000)(j n:Nat)(hn:0<n):∃v h:Nat,v<n/\call T 17 [.ptr 0 0,.int .i64 (n:Int)] [bq B j] 0=some ⟨.int .i64 (v:Int),[(0,bq B h)],[]⟩:=
 ⟨ec B j n,cC B j,eH B j n hn,f17 B j n hn (by omega)⟩
def gU(x:Ent):List Ent->Nat
 |[]=>0
 |y::r=>if jb y x=true then gU x r+1 else 0
theorem vI(x:Ent):∀l,gU x l<=l.length
 |[]=>aJ _
 |y::r=>by have:=vI x r;rw[gU,al];split<;>omega
def mO(v:d9)(h:Int)(l:List Ent)(tk:Tok):aH:= .rc [.str v,.int .i64 h,.int .i64 0,.int .i64 0,.int .i64 1099511627776,.lst 4 (df l) tk,.lst 4 [] .clip]
def mZ:aH:= .rc [.str [],.int .i64 0,.int .i64 0,.int .i64 0,.int .i64 0,.lst 4 [] .clip,.lst 4 [] .clip]
theorem xwD(I:d8)(v:d9)(ve i:Int)(l:List Ent)(x:Ent)(hl:l.length<=1000)(hd:∀y∈l,y.dig.length<=1000):∀(n k:Nat),l.length-k=n->k<=l.length->
 run T (.loop BM) ⟨[(2,.lst 4 I .no),(6,.ptr 106 0),(7,.ptr 107 0),(8,.int .i64 i),(10,.ptr 110 0),(11,.int .i64 k)],[(106,mZ),(107,mO v ve l .no),(110,.rc x.sv)],[]⟩=
  some (.x 2,⟨[(2,.lst 4 I .no),(6,.ptr 106 0),(7,.ptr 107 0),(8,.int .i64 i),(10,.ptr 110 0),(11,.int .i64 ((k+gU x (l.drop k):Nat):Int))],[(106,mZ),(107,mO v ve l .no),(110,.rc x.sv)],[]⟩):=by
 intro n;induction n with
 |zero=>
  intro k h0 h1;have:k=l.length:=by omega
  subst this;have J:=dk l;rw[bw,ai];simp only[gU,ft,mO,mZ];simp only[go_sem,Qb,Qc,Qd,Qe,Qh,Qi,Qj,Qk,reduceIte,J]
 |succ n ih=>
  intro k h0 h1;have L:k<l.length:=by omega
  have e1:=cg k (by omega);have C:=ih (k+1) (by omega) (by omega);have J:=dk l;have O:=fU l k L;have Z:l.drop k=l.getD k en0::l.drop (k+1):=by rw[bt L,aa,ac L];rfl
  have hm:=bS l en0 k L;have h:=xog (l.getD k en0) x (by have:=hd _ hm;omega);have E:(k:Int)<(l.length:Int):=by omega
  rw[Z,gU,ai];generalize l.getD k en0=y at*;obtain⟨x1,x2,W,Q⟩:=x;obtain⟨y1,y2,y3,y4⟩:=y
  by_cases F:jb ⟨y1,y2,y3,y4⟩ ⟨x1,x2,W,Q⟩=true
  ·rw[if_pos F]
   rw[F]at h;rw[show k+(gU ⟨x1,x2,W,Q⟩ (l.drop (k+1))+1)=k+1+gU ⟨x1,x2,W,Q⟩ (l.drop (k+1))from by omega];simp only[mO,mZ,Ent.sv]at C h O ⊢;simp only[go_sem,Qb,Qc,Qd,Qe,Qh,Qi,Qj,Qk,reduceIte,E,e1,J,O,h,xO,C]
  ·rw[if_neg F]
   rw[eq_false_of_ne_true F]at h;rw[ft];simp only[mO,mZ,Ent.sv]at h O ⊢;simp only[go_sem,Qb,Qc,Qd,Qe,Qh,Qi,Qj,Qk,reduceIte,E,J,O,h,xO]
theorem F1{x:Img}(h:kE x=0):¬(oq x).length=0:=by unfold oq;rw[if_pos h,eQ];omega
def uC(y:Img):Ent:=⟨y.role,y.name,y.ver,sha (oq y)⟩
def y9(x:Ent)(l:List Ent):List Ent:=if gU x l<l.length/\jb x (l.getD (gU x l) en0)=false then l else l.take (gU x l)++x::l.drop (gU x l)
def uQ(y:Img)(l:List Ent):List Ent:=if y.role=4 then l else y9 (uC y) l
theorem s34(I:List Img)(hc:∀i,i<I.length->kE (I.getD i im0)=0)(a8:I.length<=1000)(v:d9)(ve:Int)(l:List Ent)(hl:l.length<=900)(hd:∀y∈l,y.dig.length<=1000)(i:Nat)(hi:i<I.length):
 run T (.loop ng) ⟨[(2,.lst 4 (jx I) .no),(6,.ptr 106 0),(7,.ptr 107 0),(8,.int .i64 i)],[(106,mZ),(107,mO v ve l .no)],[]⟩=
 run T (.loop ng) ⟨[(2,.lst 4 (jx I) .no),(6,.ptr 106 0),(7,.ptr 107 0),(8,.int .i64 ((i+1:Nat):Int))],[(106,mZ),(107,mO v ve (uQ (I.getD i im0) l) .no)],[]⟩:=by
 have L:(i:Int)<(I.length:Int):=by omega
 have hv:=kd I;have hg:=rT I i hi;have h0:=hc i hi;have e1:=cg i (by omega);generalize I.getD i im0=y at*;obtain⟨u1,u2⟩:=CL h0;have W:=xvi y u1 u2;have a7:=zH y u1 u2;have g2:=f68 (oq y) (by omega);have b5:¬(oq y).length=0:=F1 h0;have F:¬((oq y).length:Int)=0:=by omega
 have b0:=ir (oq y);have C:=xwD (jx I) v ve i l (uC y) (by omega) hd l.length 0 (by omega) (aX _);rw[bT,aW,show((0:Nat):Int)=0 from rfl]at C;have a6:=vI (uC y) l;have Q:=dk l;unfold uQ y9;generalize hE:oq y=E at*
 by_cases h4:y.role=4
 ·rw[if_pos h4]
  obtain⟨y1,y2,y3,y4⟩:=y;simp only at h4;subst h4;rw[ai];simp only[mO,mZ,Img.sv]at W hg ⊢;simp only[go_sem,Qe,Qh,Qi,Qj,Qk,reduceIte,L,hv,hg,W,Bw,F,e1]
 ·rw[if_neg h4]
  have a2:uC y=⟨y.role,y.name,y.ver,sha E⟩:=by rw[<-hE];rfl
  rw[a2]at C a6 ⊢
  by_cases hk:gU ⟨y.role,y.name,y.ver,sha E⟩ l<l.length
  ·have Z:=xog ⟨y.role,y.name,y.ver,sha E⟩ (l.getD (gU ⟨y.role,y.name,y.ver,sha E⟩ l) en0) (by show(sha E).length<=_;omega)
   have J:=fU l _ hk;have O:(gU ⟨y.role,y.name,y.ver,sha E⟩ l:Int)<(l.length:Int):=by omega
   have e2:df (l.take (gU ⟨y.role,y.name,y.ver,sha E⟩ l)++⟨y.role,y.name,y.ver,sha E⟩::l.drop (gU ⟨y.role,y.name,y.ver,sha E⟩ l))=eT (gU ⟨y.role,y.name,y.ver,sha E⟩ l) (df l)++(Ent.sv ⟨y.role,y.name,y.ver,sha E⟩::iD (gU ⟨y.role,y.name,y.ver,sha E⟩ l) (df l)):=by rw[df,df,cf,aI,ic,tH]
   generalize gU ⟨y.role,y.name,y.ver,sha E⟩ l=k at*;generalize l.getD k en0=z at*;have a1:k<=l.length:=by omega
   have tf:eT l.length (df l)=df l:=by rw[<-Q,dA]
   have vA:(eT k (df l)).length=k:=by rw[aq,Q];omega
   have vD:(iD k (df l)).length=l.length-k:=by rw[aG,Q]
   have b1:k*56<=140737488355328:=by omega
   have b3:(k+1)*56<=140737488355328:=by omega
   have b2:(k+(1+(l.length-k)))*56<=140737488355328:=by omega
   have b4:(k+1+(l.length-k))*56<=140737488355328:=by omega
   obtain⟨y1,y2,y3,y4⟩:=y;obtain⟨z1,z2,z3,z4⟩:=z
   by_cases hb:jb ⟨y1,y2,y3,sha E⟩ ⟨z1,z2,z3,z4⟩=false
   ·rw[if_pos ⟨hk,hb⟩]
    simp only at Z;rw[hb]at Z;rw[ai];simp only[mO,mZ,Img.sv,Ent.sv]at W hg C Z J ⊢;simp only[go_sem,Qb,Qc,Qd,Qe,Qh,Qi,Qj,Qk,reduceCtorEq,reduceIte,L,hv,hg,W,Bw,F,h4,g2,Gu,C,Q,O,J,Z,xO,e1]
   ·rw[if_neg (fun h=>hb h.2)]
    simp only at Z;rw[eq_true_of_ne_false hb]at Z;rw[ai];simp only[mO,e2];simp only[mO,mZ,Img.sv,Ent.sv]at W hg C Z J ⊢;simp only[go_sem,Q2,Q3,Qb,Qc,Qd,Qe,Qh,Qi,Qj,Qk,reduceCtorEq,reduceIte,L,hv,hg,W,Bw,F,h4,g2,Gu,C,Q,O,a1,J,Z,xO,e1,tf,vA,vD,b1,b3,b4]
  ·have O:¬(gU ⟨y.role,y.name,y.ver,sha E⟩ l:Int)<(l.length:Int):=by omega
   rw[if_neg (fun h=>hk h.1)]
   have e2:df (l.take (gU ⟨y.role,y.name,y.ver,sha E⟩ l)++⟨y.role,y.name,y.ver,sha E⟩::l.drop (gU ⟨y.role,y.name,y.ver,sha E⟩ l))=eT (gU ⟨y.role,y.name,y.ver,sha E⟩ l) (df l)++(Ent.sv ⟨y.role,y.name,y.ver,sha E⟩::iD (gU ⟨y.role,y.name,y.ver,sha E⟩ l) (df l)):=by rw[df,df,cf,aI,ic,tH]
   generalize gU ⟨y.role,y.name,y.ver,sha E⟩ l=k at*;have a1:k<=l.length:=by omega
   have tf:eT l.length (df l)=df l:=by rw[<-Q,dA]
   have vA:(eT k (df l)).length=k:=by rw[aq,Q];omega
   have vD:(iD k (df l)).length=l.length-k:=by rw[aG,Q]
   have b1:k*56<=140737488355328:=by omega
   have b3:(k+1)*56<=140737488355328:=by omega
   have b2:(k+(1+(l.length-k)))*56<=140737488355328:=by omega
   have b4:(k+1+(l.length-k))*56<=140737488355328:=by omega
   obtain⟨y1,y2,y3,y4⟩:=y;rw[ai];simp only[mO,e2];simp only[mO,mZ,Img.sv,Ent.sv]at W hg C ⊢;simp only[go_sem,Q2,Q3,Qb,Qc,Qd,Qe,Qh,Qi,Qj,Qk,reduceCtorEq,reduceIte,L,hv,hg,W,Bw,F,h4,g2,Gu,C,Q,O,a1,e1,tf,vA,vD,b1,b3,b4]
structure nu(l:List Ent)(n:Nat):Prop where
 len:l.length<=n
 e:∀x∈l,x.name.length<=1000000/\x.dig.length=32
theorem Kp{x z:Ent}{l:List Ent}(h:z∈y9 x l):z=x\/z∈l:=by
 unfold y9 at h;split at h
 ·exact .inr h
 ·rw[am,av]at h
  rcases h with h|h|h
  ·exact .inr (bC h)
  ·exact .inl h
  ·exact .inr (cB h)
theorem Kw(x:Ent)(l:List Ent):(y9 x l).length<=l.length+1:=by
 unfold y9;have:=vI x l;split
 ·omega
 ·rw[ae,al,aq,aG];omega
theorem KF{y:Img}(h:kE y=0):y.name.length<=1000000:=(CL h).1
theorem wP{y:Img}(E:kE y=0){l:List Ent}{n:Nat}(h:nu l n):nu (uQ y l) (n+1):=by
 unfold uQ;split
 ·exact⟨Nat.le_succ_of_le h.len,h.e⟩
 ·refine⟨?_,fun x C=> ?_⟩
  ·have:=Kw (uC y) l
   have:=h.len;omega
  ·rcases Kp C with rfl|C
   ·exact⟨KF E,ir _⟩
   ·exact h.e x C
def uF(l:List Img)(es:List Ent):List Ent:=l.foldl (fun a y=>uQ y a) es
theorem F4:∀(l:List Img)(es:List Ent)(n:Nat),(∀y∈l,kE y=0)->nu es n->nu (uF l es) (n+l.length)
 |[],es,n,_,h=>h
 |y::r,es,n,hl,h=>by have:=F4 r (uQ y es) (n+1) (fun z hz=>hl z (aw _ hz)) (wP (hl y aB) h);rw[al,show n+(r.length+1)=n+1+r.length from by omega];exact this
theorem xv7(h:List Img)(a2:h.length<=1000)(hi:0<h.length)(Q:kE (h.getD 0 im0)=0)(Z:(h.getD 0 im0).role=1)(v:d9)(J:Int):
 run T (.loop ng) ⟨[(2,.lst 4 (jx h) .no),(6,.ptr 106 0),(7,.ptr 107 0),(8,.int .i64 0)],[(106,mZ),(107,mO v J [] .clip)],[]⟩=
 run T (.loop ng) ⟨[(2,.lst 4 (jx h) .no),(6,.ptr 106 0),(7,.ptr 107 0),(8,.int .i64 1)],[(106,mZ),(107,mO v J [uC (h.getD 0 im0)] .no)],[]⟩:=by
 have I:(0:Int)<(h.length:Int):=by omega
 have hv:=kd h;have hg:=rT h 0 hi;have e1:af.wrap 1=1:=rfl;generalize h.getD 0 im0=y at*;obtain⟨W,L⟩:=CL Q;have O:=xvi y W L;have a1:=zH y W L;have g2:=f68 (oq y) (by omega);have a6:¬(oq y).length=0:=F1 Q;have C:¬((oq y).length:Int)=0:=by omega
 have F:uC y=⟨y.role,y.name,y.ver,sha (oq y)⟩:=rfl;rw[F];generalize oq y=E at*;obtain⟨y1,y2,y3,y4⟩:=y;simp only at Z;subst Z;rw[ai];simp only[mO,mZ,Img.sv,df,bJ,aI,Ent.sv]at O hg ⊢;simp only[go_sem,Q2,Q3,Q5,Qb,Qc,Qd,Qe,Qh,Qi,Qj,Qk,reduceCtorEq,reduceIte,I,hv,hg,O,Bw,C,g2,Gu];rw[ai];simp only[go_sem,Q2,Q3,Q4,Q8,Qb,Qc,Qd,Qe,Qg,Qh,Qi,Qj,Qk,reduceCtorEq,reduceIte,e1]
theorem l69(h:List Img)(F:∀i,i<h.length->kE (h.getD i im0)=0)(O:h.length<=800)(v:d9)(E:Int):∀(n i:Nat)(es:List Ent),h.length-i=n->i<=h.length->nu es i->
 run T (.loop ng) ⟨[(2,.lst 4 (jx h) .no),(6,.ptr 106 0),(7,.ptr 107 0),(8,.int .i64 i)],[(106,mZ),(107,mO v E es .no)],[]⟩=
 some (.x 0,⟨[(6,.ptr 106 0),(7,.ptr 107 0)],[(106,mZ),(107,mO v E (uF (h.drop i) es) .no)],[]⟩):=by
 intro n;induction n with
 |zero=>
  intro i es L Q C;have:i=h.length:=by omega
  subst this;have J:=kd h;rw[bw,ai];simp only[mO,mZ,uF,fo];simp only[go_sem,Qh,Qj,Qk,reduceIte,J]
 |succ n W=>
  intro i es L Q C;have hi:i<h.length:=by omega
  have hd:h.drop i=h.getD i im0::h.drop (i+1):=by rw[bt hi,aa,ac hi];rfl
  have Z:=C.len;rw[s34 h F (by omega) v E es (by omega) (fun y I=>by have:=(C.e y I).2;omega) i hi,W (i+1) _ (by omega) (by omega) (wP (F i hi) C),hd];rfl
theorem x6{y:List Img}(C:iC y):(y.getD 0 im0).role=1:=by
 obtain⟨i,hi,I⟩:=C.fw
 have key:∀k,k<y.length->(y.getD 0 im0).role<=(y.getD k im0).role:=by
  intro k;induction k with
  |zero=>intro _;exact Int.le_refl _
  |succ k E=>intro h;exact Int.le_trans (E (by omega)) (C.ord k h)
 have J:=key i hi;have F:=(vU (C.ok 0 (by have:=C.n1;omega))).1;omega
theorem f69(h:List Img)(y:iC h)(v:d9)(C:Int):call T 69 [.str v,.int .i64 C,.lst 4 (jx h) .no] [] 0=some ⟨.agg [.str v,.int .i64 C,.int .i64 0,.int .i64 0,.int .i64 1099511627776,.lst 4 (df (uF h [])) .no,.lst 4 [] .clip],[],[]⟩:=by
 have n1:=y.n1;have n8:=y.n8;have F:=x6 y;have E:=y.ok 0 (by omega);have z:=xv7 h (by omega) (by omega) E F v C
 have I:uQ (h.getD 0 im0) []=[uC (h.getD 0 im0)]:=by unfold uQ y9;rw[if_neg (by rw[F];decide),if_neg (by simp)];rfl
 have L:nu [uC (h.getD 0 im0)] 1:=by rw[<-I];exact wP E ⟨aJ _,fun x J=>by cases J⟩
 have l:=l69 h y.ok (by omega) v C _ 1 [uC (h.getD 0 im0)] rfl (by omega) L
 have hd:uF (h.drop 1) [uC (h.getD 0 im0)]=uF h []:=by
  have:h=h.getD 0 im0::h.drop 1:=by
   rw[aa,ac (by omega:0<h.length)];cases h with
   |nil=>simp at n1
   |cons x r=>rfl
  conv=>rhs;rw[this]
  rw[<-I];rfl
 rw[hd]at l;rw[show((1:Nat):Int)=1 from rfl]at l;rw[l]at z;rw[aj xyJ];simp only[mO,mZ,df,bJ]at z;simp only[df];simp only[go_sem,Qe,Qh,Qi,Qj,Qk,reduceCtorEq,reduceIte,z]
theorem xaw{h:List Img}(C:iC h):nu (uF h []) 8:=by
 have:=F4 h [] 0 (fun y F=>by obtain⟨i,hi,rfl⟩:=bp F;have:=C.ok i hi;rwa[aa,ac hi]at this) ⟨aJ _,fun x E=>by cases E⟩
 have n8:=C.n8;exact⟨by have:=this.len;omega,this.e⟩
section
open SortT
theorem f24:call T 24 [] [] 0=some ⟨.agg [.str [97,99,109,101],.str [118,50],.str [120,45,121]],[],[]⟩:=by rw[aj xzd];simp only[go_sem,Qe,Qg,Qi,Qj,Qk,reduceCtorEq,reduceIte]
theorem xvX(v:Nat)(h:v<3):∃n:d9,(n.length<=10/\Pr.nameB n=true)/\(iD v [SV.str [97,99,109,101],.str [118,50],.str [120,45,121]]).getD 0 .undef= .str n:=by
 have:v=0\/v=1\/v=2:=by omega
 rcases this with rfl|rfl|rfl
 ·exact⟨[97,99,109,101],⟨by decide,by decide⟩,rfl⟩
 ·exact⟨[118,50],⟨by decide,by decide⟩,rfl⟩
 ·exact⟨[120,45,121],⟨by decide,by decide⟩,rfl⟩
theorem Hh(l:List Rul)(x:Rul):dS l++ [x.sv]=dS (l++ [x]):=by rw[dS,dS,cf];rfl
theorem l44(B:d9)(hB:B.length<=1000)(v:d9)(m1 m2 m3 m4:Int)(es:d8)(I:Tok)(F:I= .no\/I= .clip/\es=[]):∀(n:Nat)(rs:List Rul)(j:Nat),rs.length+n<=8->(∀x∈rs,x.text.length<=20/\pY x=0)->∀(t:Tok)(tk:LAa),(t= .clip/\tk=[]/\rs=[])\/(t= .id 160/\tk=[160])->
 ∃(h:List Rul)(E:Tok)(tk':LAa)(j':Nat),h.length<=8/\(∀x∈h,x.text.length<=20/\pY x=0)/\((E= .clip/\tk'=[]/\h=[])\/(E= .id 160/\tk'=[160]))/\
 run T (.loop B0) ⟨[(0,.ptr 0 0),(4,.ptr 104 0),(6,.ptr 106 0),(7,.int .i64 (n:Int))],[(0,bq B j),(104,mZ),(106,.rc [.str v,.int .i64 m1,.int .i64 m2,.int .i64 m3,.int .i64 m4,.lst 4 es I,.lst 4 (dS rs) t])],tk⟩=
 some (.x 0,⟨[(4,.ptr 104 0),(6,.ptr 106 0)],[(0,bq B j'),(104,mZ),(106,.rc [.str v,.int .i64 m1,.int .i64 m2,.int .i64 m3,.int .i64 m4,.lst 4 es I,.lst 4 (dS h) E])],tk'⟩):=by
 intro n;induction n with
 |zero=>
  intro rs j h1 W t tk Q;refine⟨rs,t,tk,j,by omega,W,Q, ?_⟩;rw[ai];rcases F with rfl|⟨rfl,rfl⟩<;>rcases Q with⟨rfl,rfl,rfl⟩|⟨rfl,rfl⟩
  all_goals
   simp only[bq,mZ];simp only[go_sem,Q4,Qh,Qj,Qk,reduceCtorEq,reduceIte]
 |succ n ih=>
  intro rs j h1 W t tk Q;obtain⟨k,t1,lo,hi,j1,hk,Z,g⟩:=f70 B j hB;have L:(0:Int)<((n+1:Nat):Int):=by omega
  have J:af.wrap (((n+1:Nat):Int)-1)=(n:Int):=wZ (by omega)
  obtain⟨h,E,tk',j',q1,q2,q3,C⟩:=ih (rs++ [⟨k,t1,lo,hi⟩]) j1 (by rw[ae,aF];omega) (fun x O=>by
   rw[am,bj]at O;rcases O with O|rfl
   ·exact W x O
   ·exact⟨Z,hk⟩) (.id 160) [160] (.inr ⟨rfl,rfl⟩)
  refine⟨h,E,tk',j',q1,q2,q3, ?_⟩;have hv:=dP rs;have b1:(rs.length+1)*40<=140737488355328:=by omega
  rw[<-Hh]at C;rw[ai];rcases F with rfl|⟨rfl,rfl⟩<;>rcases Q with⟨rfl,rfl,rfl⟩|⟨rfl,rfl⟩
  ·have y:dS []=[]:=rfl
   simp only[bq,mZ,Rul.sv,y,aE]at g C ⊢;simp only[go_sem,Qb,Qc,Qd,Qe,Qg,Qh,Qi,Qj,Qk,reduceCtorEq,reduceIte,L,g,xiw,J,C]
  ·simp only[bq,mZ,Rul.sv]at g C ⊢
   simp only[go_sem,Qb,Qc,Qd,Qe,Qg,Qh,Qi,Qj,Qk,reduceCtorEq,reduceIte,L,g,xiw,hv,b1,J,C]
  ·have y:dS []=[]:=rfl
   simp only[bq,mZ,Rul.sv,y,aE]at g C ⊢;simp only[go_sem,Qb,Qc,Qd,Qe,Qg,Qh,Qi,Qj,Qk,reduceCtorEq,reduceIte,L,g,xiw,J,C]
  ·simp only[bq,mZ,Rul.sv]at g C ⊢
   simp only[go_sem,Qb,Qc,Qd,Qe,Qg,Qh,Qi,Qj,Qk,reduceCtorEq,reduceIte,L,g,xiw,hv,b1,J,C]
theorem FT(x:Ent):∀l:List Ent,y9 x l=A2 jb x l
 |[]=>by simp[y9,A2,gU]
 |y::r=>by
  have I:=FT x r;unfold A2;rw[<-I];unfold y9
  by_cases h:jb y x=true
  ·have F:gU x (y::r)=gU x r+1:=by rw[gU,if_pos h]
   rw[F,if_pos h,jg,List.take_succ_cons,List.drop_succ_cons,al]
   by_cases E:gU x r<r.length/\jb x (r.getD (gU x r) en0)=false
   ·rw[if_pos E,if_pos ⟨by omega,E.2⟩]
   ·rw[if_neg E,if_neg (fun k=>E ⟨by omega,k.2⟩),bi]
  ·have F:gU x (y::r)=0:=by rw[gU,if_neg h]
   rw[F,if_neg h,List.getD_cons_zero,List.take_zero,aW,aE]
   by_cases C:jb x y=true
   ·rw[if_pos C,if_neg (fun k=>by rw[C]at k;exact absurd k.2 (by simp))]
   ·rw[if_neg C,if_pos ⟨by simp,by simpa using C⟩]
theorem xak{y:Img}(h:kE y=0)(F:¬y.role=4):rA (uC y):=by obtain⟨C,I,a3,a4,a5,E⟩:=vU h;exact⟨C,by show y.role<=3;omega,a3,a4,ir _,a5⟩
theorem F2:∀(l:List Img)(es:List Ent),(∀y∈l,kE y=0)->(∀x∈es,rA x)->Str jb es->(∀x∈uF l es,rA x)/\Str jb (uF l es)
 |[],es,_,h1,h2=>⟨h1,h2⟩
 |y::r,es,h0,h1,h2=>by
  have E:=h0 y aB
  have key:(∀x∈uQ y es,rA x)/\Str jb (uQ y es):=by
   unfold uQ
   by_cases C:y.role=4
   ·rw[if_pos C];exact⟨h1,h2⟩
   ·rw[if_neg C,FT]
    refine⟨fun x h=> ?_,y8 Ur _ _ h2⟩;rcases (rS Ur _ _ _).1 h with rfl|h
    ·exact xak E C
    ·exact h1 x h
  exact F2 r (uQ y es) (fun z hz=>h0 z (aw _ hz)) key.1 key.2
theorem H3{h:List Img}(C:iC h):∀y∈h,kE y=0:=by intro y E;obtain⟨i,hi,rfl⟩:=bp E;have:=C.ok i hi;rwa[aa,ac hi]at this
theorem xnM{h:List Img}(C:iC h):(∀x∈uF h [],rA x)/\Str jb (uF h []):=F2 h [] (H3 C) (fun x y=>by cases y) fP.nil
structure UA(m:Man):Prop where
 v:m.vendor.length<=100
 en:m.ents.length<=8
 rn:m.ruls.length<=8
 e:∀x∈m.ents,x.name.length<=1000000/\x.dig.length=32
 r:∀x∈m.ruls,x.text.length<=20
 ok:fq m=0
theorem UA.bd{m:Man}(h:UA m):dx m:=⟨by have:=h.v;omega,by have:=h.en;omega,by have:=h.rn;omega,fun x y=>by have:=h.e x y;omega,fun x y=>by have:=h.r x y;omega⟩
theorem f44(B:d9)(O:B.length<=1000)(j:Nat)(ch:List Img)(hc:iC ch):∃(m:Man)(j':Nat),UA m/\call T 44 [.ptr 0 0,.lst 4 (jx ch) .no] [bq B j] 0=some ⟨.agg m.sv,[(0,bq B j')],[]⟩:=by
 have gv:=f24;obtain⟨v1,j1,h1,g1⟩:=mq B O j 4 (by omega);rw[cz4]at g1;obtain⟨v2,j2,h2,W⟩:=mq B O j1 3 (by omega);rw[cz3]at W;obtain⟨nv,⟨b6,b1⟩,a1⟩:=xvX v2 h2;have Z:(v2:Int)<3:=by omega
 have gd:=f69 ch hc nv (v1:Int);have hb:=xaw hc;obtain⟨a8,b0⟩:=xnM hc;generalize uF ch []=es at*;obtain⟨v3,j3,h3,g3⟩:=mq B O j2 3 (by omega);rw[cz3]at g3;have a7:=dk es;have b4:=hb.len;have e4:=cg es.length (by omega)
 by_cases p3:v3=1
 ·have n3:(v3:Int)=1:=by omega
  obtain⟨v4,j4,h4,g4⟩:=mq B O j3 (es.length+1) (by omega);have b7:v4<=es.length:=by omega
  have a6:(v4:Int)<=(es.length:Int):=by omega
  have tA:eT v4 (df es)=df (es.take v4):=by rw[df,df,ic]
  obtain⟨v5,j5,h5,Q⟩:=mq B O j4 (v1+1) (by omega);have e5:=cg v1 (by omega);obtain⟨y,j6,h6,L⟩:=mq B O j5 12 (by omega);rw[c12]at L;obtain⟨v7,j7,h7,E⟩:=mq B O j6 30 (by omega);rw[c30]at E;obtain⟨v8,j8,h8,J⟩:=mq B O j7 2 (by omega);rw[c2]at J;obtain⟨v9,j9,h9,F⟩:=mq B O j8 4 (by omega);rw[cz4]at F;have b3:af.wrap (af.wrap ((y:Int)+1)+(v7:Int))=(y:Int)+1+v7:=by rw[w64 (n:=(y:Int)+1) (by omega) (by omega),w64 (by omega) (by omega)]
  obtain⟨U,hU⟩:∃U,U=af.wrap (af.wrap ((y:Int)+1)+(v7:Int)):=⟨_,rfl⟩;have b5:U=(y:Int)+1+v7:=hU.trans b3
  by_cases p8:v8=0
  ·have C:(v8:Int)=0:=by omega
   obtain⟨a2,t',tk',j',q1,q2,q3,I⟩:=l44 B O nv (v1:Int) (v5:Int) (y:Int) 1099511627776 (df (es.take v4)) .no (.inl rfl) v9 [] j9 (by simp only[aA];omega) (fun x h=>by cases h) .clip [] (.inl ⟨rfl,rfl,rfl⟩);refine⟨⟨nv,v1,v5,y,1099511627776,es.take v4,a2⟩,j',⟨by show nv.length<=100;omega,by show(es.take v4).length<=8;rw[aq];omega,q1,fun x h=>hb.e x (bC h),fun x h=>(q2 x h).1,nJ b1 (by show(0:Int)<=v5;omega) (by show(v5:Int)<=v1;omega) (by show(v1:Int)<=1000000;omega) (by show(0:Int)<=y;omega) (by show(y:Int)<1099511627776;omega) (by show(1099511627776:Int)<=1099511627776;omega) (by show(es.take v4).length<=16;rw[aq];omega) q1 (fun x h=>a8 x (bC h)) (fP.sublist (List.take_sublist _ _) b0) (fun x h=>(q2 x h).2)⟩, ?_⟩;rw[aj xij];rcases q3 with⟨rfl,rfl,rfl⟩|⟨rfl,rfl⟩
   ·simp only[bq,mZ,Man.sv,dS,bJ]at g1 W g3 Q L E J F I gd g4 ⊢
    simp only[go_sem,Q2,Q3,Qb,Qc,Qd,Qe,Qg,Qh,Qi,Qj,Qk,reduceCtorEq,reduceIte,g1,W,g3,Q,L,E,J,F,jL,gv,uT,Z,dp,a1,gd,Gt,n3,e5,C,<-hU,I,g4,e4,a7,a6,tA]
   ·simp only[bq,mZ,Man.sv,dS,bJ]at g1 W g3 Q L E J F I gd g4 ⊢
    simp only[go_sem,Q2,Q3,Qb,Qc,Qd,Qe,Qg,Qh,Qi,Qj,Qk,reduceCtorEq,reduceIte,g1,W,g3,Q,L,E,J,F,jL,gv,uT,Z,dp,a1,gd,Gt,n3,e5,C,<-hU,I,g4,e4,a7,a6,tA]
  ·have C:¬(v8:Int)=0:=by omega
   obtain⟨a2,t',tk',j',q1,q2,q3,I⟩:=l44 B O nv (v1:Int) (v5:Int) (y:Int) U (df (es.take v4)) .no (.inl rfl) v9 [] j9 (by simp only[aA];omega) (fun x h=>by cases h) .clip [] (.inl ⟨rfl,rfl,rfl⟩);refine⟨⟨nv,v1,v5,y,U,es.take v4,a2⟩,j',⟨by show nv.length<=100;omega,by show(es.take v4).length<=8;rw[aq];omega,q1,fun x h=>hb.e x (bC h),fun x h=>(q2 x h).1,nJ b1 (by show(0:Int)<=v5;omega) (by show(v5:Int)<=v1;omega) (by show(v1:Int)<=1000000;omega) (by show(0:Int)<=y;omega) (by show(y:Int)<U;omega) (by show(U:Int)<=1099511627776;omega) (by show(es.take v4).length<=16;rw[aq];omega) q1 (fun x h=>a8 x (bC h)) (fP.sublist (List.take_sublist _ _) b0) (fun x h=>(q2 x h).2)⟩, ?_⟩;rw[aj xij];rcases q3 with⟨rfl,rfl,rfl⟩|⟨rfl,rfl⟩
   ·simp only[bq,mZ,Man.sv,dS,bJ]at g1 W g3 Q L E J F I gd g4 ⊢
    simp only[go_sem,Q2,Q3,Qb,Qc,Qd,Qe,Qg,Qh,Qi,Qj,Qk,reduceCtorEq,reduceIte,g1,W,g3,Q,L,E,J,F,jL,gv,uT,Z,dp,a1,gd,Gt,n3,e5,C,<-hU,I,g4,e4,a7,a6,tA]
   ·simp only[bq,mZ,Man.sv,dS,bJ]at g1 W g3 Q L E J F I gd g4 ⊢
    simp only[go_sem,Q2,Q3,Qb,Qc,Qd,Qe,Qg,Qh,Qi,Qj,Qk,reduceCtorEq,reduceIte,g1,W,g3,Q,L,E,J,F,jL,gv,uT,Z,dp,a1,gd,Gt,n3,e5,C,<-hU,I,g4,e4,a7,a6,tA]
 ·have n3:¬(v3:Int)=1:=by omega
  obtain⟨v5,j5,h5,Q⟩:=mq B O j3 (v1+1) (by omega);have e5:=cg v1 (by omega);obtain⟨y,j6,h6,L⟩:=mq B O j5 12 (by omega);rw[c12]at L;obtain⟨v7,j7,h7,E⟩:=mq B O j6 30 (by omega);rw[c30]at E;obtain⟨v8,j8,h8,J⟩:=mq B O j7 2 (by omega);rw[c2]at J;obtain⟨v9,j9,h9,F⟩:=mq B O j8 4 (by omega);rw[cz4]at F;have b3:af.wrap (af.wrap ((y:Int)+1)+(v7:Int))=(y:Int)+1+v7:=by rw[w64 (n:=(y:Int)+1) (by omega) (by omega),w64 (by omega) (by omega)]
  obtain⟨U,hU⟩:∃U,U=af.wrap (af.wrap ((y:Int)+1)+(v7:Int)):=⟨_,rfl⟩;have b5:U=(y:Int)+1+v7:=hU.trans b3
  by_cases p8:v8=0
  ·have C:(v8:Int)=0:=by omega
   obtain⟨a2,t',tk',j',q1,q2,q3,I⟩:=l44 B O nv (v1:Int) (v5:Int) (y:Int) 1099511627776 (df es) .no (.inl rfl) v9 [] j9 (by simp only[aA];omega) (fun x h=>by cases h) .clip [] (.inl ⟨rfl,rfl,rfl⟩);refine⟨⟨nv,v1,v5,y,1099511627776,es,a2⟩,j',⟨by show nv.length<=100;omega,b4,q1,hb.e,fun x h=>(q2 x h).1,nJ b1 (by show(0:Int)<=v5;omega) (by show(v5:Int)<=v1;omega) (by show(v1:Int)<=1000000;omega) (by show(0:Int)<=y;omega) (by show(y:Int)<1099511627776;omega) (by show(1099511627776:Int)<=1099511627776;omega) (by show es.length<=16;omega) q1 (a8) (b0) (fun x h=>(q2 x h).2)⟩, ?_⟩;rw[aj xij];rcases q3 with⟨rfl,rfl,rfl⟩|⟨rfl,rfl⟩
   ·simp only[bq,mZ,Man.sv,dS,bJ]at g1 W g3 Q L E J F I gd ⊢
    simp only[go_sem,Qb,Qc,Qd,Qe,Qg,Qh,Qi,Qj,Qk,reduceCtorEq,reduceIte,g1,W,g3,Q,L,E,J,F,jL,gv,uT,Z,dp,a1,gd,Gt,n3,e5,C,<-hU,I]
   ·simp only[bq,mZ,Man.sv,dS,bJ]at g1 W g3 Q L E J F I gd ⊢
    simp only[go_sem,Qb,Qc,Qd,Qe,Qg,Qh,Qi,Qj,Qk,reduceCtorEq,reduceIte,g1,W,g3,Q,L,E,J,F,jL,gv,uT,Z,dp,a1,gd,Gt,n3,e5,C,<-hU,I]
  ·have C:¬(v8:Int)=0:=by omega
   obtain⟨a2,t',tk',j',q1,q2,q3,I⟩:=l44 B O nv (v1:Int) (v5:Int) (y:Int) U (df es) .no (.inl rfl) v9 [] j9 (by simp only[aA];omega) (fun x h=>by cases h) .clip [] (.inl ⟨rfl,rfl,rfl⟩);refine⟨⟨nv,v1,v5,y,U,es,a2⟩,j',⟨by show nv.length<=100;omega,b4,q1,hb.e,fun x h=>(q2 x h).1,nJ b1 (by show(0:Int)<=v5;omega) (by show(v5:Int)<=v1;omega) (by show(v1:Int)<=1000000;omega) (by show(0:Int)<=y;omega) (by show(y:Int)<U;omega) (by show(U:Int)<=1099511627776;omega) (by show es.length<=16;omega) q1 (a8) (b0) (fun x h=>(q2 x h).2)⟩, ?_⟩;rw[aj xij];rcases q3 with⟨rfl,rfl,rfl⟩|⟨rfl,rfl⟩
   ·simp only[bq,mZ,Man.sv,dS,bJ]at g1 W g3 Q L E J F I gd ⊢
    simp only[go_sem,Qb,Qc,Qd,Qe,Qg,Qh,Qi,Qj,Qk,reduceCtorEq,reduceIte,g1,W,g3,Q,L,E,J,F,jL,gv,uT,Z,dp,a1,gd,Gt,n3,e5,C,<-hU,I]
   ·simp only[bq,mZ,Man.sv,dS,bJ]at g1 W g3 Q L E J F I gd ⊢
    simp only[go_sem,Qb,Qc,Qd,Qe,Qg,Qh,Qi,Qj,Qk,reduceCtorEq,reduceIte,g1,W,g3,Q,L,E,J,F,jL,gv,uT,Z,dp,a1,gd,Gt,n3,e5,C,<-hU,I]
end
def lf(h:LAa):d9:=h.flatMap fun t=>i5 t++ [10]
theorem Ho(h:LAa)(t:Nat):lf (h++ [t])=lf h++(i5 t++ [10]):=by simp[lf]
theorem ui(t:Nat):(i5 t).length<=8:=by unfold i5;split<;>simp
theorem yE(h:LAa):(lf h).length<=9*h.length:=by
 induction h with
 |nil=>simp[lf]
 |cons t r y=>rw[lf,eo,ae,ae,al,al,aA];have:=ui t;unfold lf at y;omega
theorem Kv(t:Nat)(r:d9)(o:List d9)(y:o.length<4):lnF (i5 t++10::r) o []=lnF r (o++ [i5 t]) []:=by
 have h:¬(4:Int)<=o.length:=by omega
 unfold i5;split<;>simp[lnF,h]
theorem FO:∀(y:LAa)(o:List d9),o.length+y.length<=4->lnF (lf y) o []=some (o++y.map i5,[])
 |[],o,_=>by simp[lf,lnF]
 |t::r,o,h=>by
  rw[al]at h;have e:lf (t::r)=i5 t++10::lf r:=by simp[lf]
  rw[e,Kv t _ o (by omega),FO r _ (by rw[ae,aF];omega)];simp
theorem AY(y:LAa)(h:y.length<=4):kW (lf y)=y.map i5:=by unfold kW;rw[FO y [] (by simpa using h)];simp
theorem l72(B:d9)(Q:B.length<=1000):∀(k:Nat)(h:LAa)(j:Nat),k<=4->h.length+k<=100->∃us C,us.length=k/\
 run T (.loop U4) ⟨[(0,.ptr 0 0),(3,.byt (lf h) (.id 103)),(4,.int .i64 k)],[(0,bq B j)],[103]⟩=some (.x 0,⟨[(3,.byt (lf (h++us)) (.id 103))],[(0,bq B C)],[103]⟩):=by
 intro k;induction k with
 |zero=>intro h j J F;refine⟨[],j,rfl, ?_⟩;rw[ai,bx];simp only[go_sem,Q4,Qh,Qj,Qk,reduceCtorEq,reduceIte]
 |succ k O=>
  intro h j J F;obtain⟨us,C,hu,y⟩:=O (h++ [ec B j 6]) (cC B j) (by omega) (by rw[ae,aF];omega);refine⟨ec B j 6::us,C,by rw[al,hu], ?_⟩;have g:=xvh B j Q;have W:=yE h;have E:=ui (ec B j 6);have I:af.wrap (((k+1:Nat):Int)-1)=(k:Int):=wZ (by omega)
  have L:(0:Int)<((k+1:Nat):Int):=by omega
  have c1:(lf h).length+(i5 (ec B j 6)).length<=140737488355328:=by omega
  have c2:(lf h).length+(i5 (ec B j 6)).length+1<=140737488355328:=by omega
  rw[Ho]at y;rw[show h++ec B j 6::us=h++ [ec B j 6]++us from by simp];rw[ai];simp only[bq]at g y ⊢;simp only[go_sem,Qe,Qg,Qh,Qi,Qj,Qk,reduceCtorEq,reduceIte,L,g,xiZ,c1,c2,I,y]
theorem f72(B:d9)(i:Nat)(E:B.length<=1000):∃y j,1<=y.length/\y.length<=4/\call T 72 [.ptr 0 0] [bq B i] 0=some ⟨.byt (lf y) .no,[(0,bq B j)],[]⟩:=by
 have g:=f17 B i 4 (by omega) (by omega);have F:=eH B i 4 (by omega);obtain⟨us,j,hu,h⟩:=l72 B E (1+ec B i 4) [] (cC B i) (by omega) (by simp only[aA];omega);have e:af.wrap (1+((ec B i 4:Nat):Int))=((1+ec B i 4:Nat):Int):=wZ (by omega)
 refine⟨us,j,by omega,by omega, ?_⟩;have C:lf []=[]:=rfl;rw[C,aE]at h;rw[cz4]at g;simp only[bq]at g h ⊢;rw[aj xyH];simp only[go_sem,Qe,Qg,Qh,Qi,Qj,Qk,reduceCtorEq,reduceIte,g,jL,e,h]
def gF:Nat->d9
 |0=> [97]
 |1=> [103,114,117,98]
 |2=> [108,105,110,117,120]
 |3=> [110,101,116,45,48]
 |_=> [116,119,101,108,118,101,45,98,121,116,101,115]
theorem f71:call T 71 [] [] 0=some ⟨.agg [.str (gF 0),.str (gF 1),.str (gF 2),.str (gF 3),.str (gF 4)],[],[]⟩:=by rw[aj xyI];simp only[go_sem,Qe,Qg,Qi,Qj,Qk,reduceCtorEq,reduceIte,gF]
theorem Km:∀v,v<5->Pr.nameB (gF v)=true:=by decide
theorem l45(B:d9)(Z:B.length<=1000)(role I:Int)(F:d9):∀(n i:Nat)(l:d9)(j:Nat),l.length-i=n->i<=l.length->l.length<=6->∃h C,h.length=l.length/\
 run T (.loop xg) ⟨[(0,.ptr 0 0),(4,.ptr 104 0),(5,.ptr 105 0),(6,.int .i64 i)],[(0,bq B j),(104,.rc [.int .i64 0,.str [],.int .i64 0,.byt [] .clip]),(105,.rc [.int .i64 role,.str F,.int .i64 I,.psl 130 1 0 l.length (some l.length)]),(130,.bar l)],[]⟩=
  some (.x 0,⟨[(4,.ptr 104 0),(5,.ptr 105 0)],[(0,bq B C),(104,.rc [.int .i64 0,.str [],.int .i64 0,.byt [] .clip]),(105,.rc [.int .i64 role,.str F,.int .i64 I,.psl 130 1 0 l.length (some l.length)]),(130,.bar h)],[]⟩):=by
 intro n;induction n with
 |zero=>
  intro i l j L Q J;have:i=l.length:=by omega
  refine⟨l,j,rfl, ?_⟩;subst this;rw[ai];simp only[go_sem,Qe,Qh,Qj,Qk,reduceCtorEq,reduceIte]
 |succ n W=>
  intro i l j L Q J;have hi:i<l.length:=by omega
  have O:=cg i (by omega);have g:=f17 B j 256 (by omega) (by omega);rw[xyc]at g;obtain⟨h,C,E,y⟩:=W (i+1) (l.set i (b8 ((ec B j 256:Nat):Int))) (cC B j) (by rw[ny];omega) (by rw[ny];omega) (by rw[ny];omega);rw[ny]at E y;refine⟨h,C,E, ?_⟩;rw[ai];simp only[bq]at g y ⊢;simp only[go_sem,Qb,Qc,Qd,Qe,Qg,Qh,Qi,Qj,Qk,reduceCtorEq,reduceIte,hi,O,g,jL,y]
theorem f45(B:d9)(j:Nat)(hB:B.length<=1000)(role:Int)(h1:1<=role)(h4:role<=4):∃(x:Img)(F:Nat),kE x=0/\x.role=role/\
 call T 45 [.ptr 0 0,.int .i64 role] [bq B j] 0=some ⟨.agg x.sv,[(0,bq B F)],[]⟩:=by
 have g1:=f71;have g2:=f17 B j 5 (by omega) (by omega);have v2:=eH B j 5 (by omega);have g3:=f17 B (cC B j) 5 (by omega) (by omega);have v3:=eH B (cC B j) 5 (by omega);have g4:=f17 B (cC B (cC B j)) 9 (by omega) (by omega);have g5:=f17 B (cC B (cC B (cC B j))) 3 (by omega) (by omega);have v5:=eH B (cC B (cC B (cC B j))) 3 (by omega);rw[cz5]at g2 g3;rw[c9]at g4;rw[cz3]at g5;generalize ec B j 5=y at*;generalize ec B (cC B j) 5=w3 at*;generalize ec B (cC B (cC B j)) 9=w4 at*;generalize ec B (cC B (cC B (cC B j))) 3=w5 at*;simp only[bq]at g2 g3 g4 g5
 have hN:(iD y [SV.str (gF 0),.str (gF 1),.str (gF 2),.str (gF 3),.str (gF 4)]).getD 0 .undef= .str (gF y):=by
  have hn:y=0\/y=1\/y=2\/y=3\/y=4:=by omega
  rcases hn with rfl|rfl|rfl|rfl|rfl<;>rfl
 have O:(y:Int)<5:=by omega
 have em:y*1=y:=dp _;have a1:=Km y v2;have ew:af.wrap (1000000-(w5:Int))=1000000-(w5:Int):=w64 (by omega) (by omega)
 have key:∀(I:Nat)(E:Int),0<=E->E<=1000000->∃(x:Img)(F:Nat),kE x=0/\x.role=role/\x.name=gF y/\x.ver=E/\
  (role=4->call T 72 [.ptr 0 0] [bq B I] 0=some ⟨.byt x.pay .no,[(0,bq B F)],[]⟩)/\
  (¬role=4->∃(j1 n:Nat),n<7/\call T 17 [.ptr 0 0,.int .i64 7] [bq B I] 0=some ⟨.int .i64 (n:Int),[(0,bq B j1)],[]⟩/\x.pay.length=n/\
   run T (.loop xg) ⟨[(0,.ptr 0 0),(4,.ptr 104 0),(5,.ptr 105 0),(6,.int .i64 0)],[(0,bq B j1),(104,.rc [.int .i64 0,.str [],.int .i64 0,.byt [] .clip]),(105,.rc [.int .i64 role,.str (gF y),.int .i64 E,.psl 130 1 0 n (some n)]),(130,.bar (aL n 0))],[]⟩=
    some (.x 0,⟨[(4,.ptr 104 0),(5,.ptr 105 0)],[(0,bq B F),(104,.rc [.int .i64 0,.str [],.int .i64 0,.byt [] .clip]),(105,.rc [.int .i64 role,.str (gF y),.int .i64 E,.psl 130 1 0 n (some n)]),(130,.bar x.pay)],[]⟩)):=by
  intro I E a6 a7
  by_cases C:role=4
  ·obtain⟨ts,F,t1,t2,t3⟩:=f72 B I hB
   refine⟨⟨role,gF y,E,lf ts⟩,F, ?_,rfl,rfl,rfl,fun _=>t3,fun h=>absurd C h⟩;have hl:=yE ts;have hL:=AY ts t2;unfold kE;rw[if_neg (by show ¬role<1;omega),if_neg (by show ¬4<role;omega),if_neg (by show ¬E<0;omega),if_neg (by show ¬1000000<E;omega),if_neg (by show ¬Pr.nameB (gF y)=false;rw[a1];simp),if_neg (by show ¬(64:Int)<(lf ts).length;omega)];show(if role=4 then(if((kW (lf ts)).length:Int)=0 then 40 else 0)else 0)=(0:Int);rw[if_pos C,hL,if_neg];rw[aY];omega
  ·have g7:=f17 B I 7 (by omega) (by omega)
   have v7:=eH B I 7 (by omega);rw[show((7:Nat):Int)=7 from rfl]at g7;obtain⟨l',F,q1,q2⟩:=l45 B hB role E (gF y) (ec B I 7) 0 (aL (ec B I 7) 0) (cC B I) (by rw[dJ];rfl) (aX _) (by rw[dJ];omega);rw[dJ]at q1 q2;refine⟨⟨role,gF y,E,l'⟩,F, ?_,rfl,rfl,rfl,fun h=>absurd h C,fun _=>⟨cC B I,ec B I 7,v7,g7,q1,q2⟩⟩;unfold kE;rw[if_neg (by show ¬role<1;omega),if_neg (by show ¬4<role;omega),if_neg (by show ¬E<0;omega),if_neg (by show ¬1000000<E;omega),if_neg (by show ¬Pr.nameB (gF y)=false;rw[a1];simp),if_neg (by show ¬(64:Int)<l'.length;omega)];show(if role=4 then(if((kW l').length:Int)=0 then 40 else 0)else 0)=(0:Int);rw[if_neg C]
 by_cases p4:w4=8
 ·have J:(w4:Int)=8:=by omega
  obtain⟨⟨xr,xn,xv,L⟩,F,e0,e1,e2,e3,e4,e5⟩:=key (cC B (cC B (cC B (cC B j)))) (1000000-(w5:Int)) (by omega) (by omega);simp only at e1 e2 e3 e4 e5;subst e1 e2 e3;refine⟨_,F,e0,rfl, ?_⟩;rw[aj xvB]
  by_cases C:xr=4
  ·have t:=e4 C
   simp only[bq,Img.sv]at t ⊢;simp only[go_sem,Qb,Qc,Qd,Qe,Qg,Qh,Qi,Qj,Qk,reduceCtorEq,reduceIte,g1,xiv,g2,jL,g3,g4,g5,J,ew,C,hN,O,em,t,xvK]
  ·obtain⟨j1,n,hn,t1,t2,t3⟩:=e5 C
   have Q:L.length=n:=t2;have W:n<=L.length:=by omega
   have hq:eT n L=L:=by rw[<-Q,dA]
   have a2:(n:Int)<7:=by omega
   have Z:(n:Int)<=140737488355328:=by omega
   simp only[bq,Img.sv]at t1 t3 ⊢;simp only[go_sem,Qb,Qc,Qd,Qe,Qg,Qh,Qi,Qj,Qk,reduceCtorEq,reduceIte,g1,xiv,g2,jL,g3,g4,g5,J,ew,C,hN,O,em,t1,Z,t3,W,hq]
 ·have J:¬(w4:Int)=8:=by omega
  obtain⟨⟨xr,xn,xv,L⟩,F,e0,e1,e2,e3,e4,e5⟩:=key (cC B (cC B (cC B j))) (w3:Int) (by omega) (by omega);simp only at e1 e2 e3 e4 e5;subst e1 e2 e3;refine⟨_,F,e0,rfl, ?_⟩;rw[aj xvB]
  by_cases C:xr=4
  ·have t:=e4 C
   simp only[bq,Img.sv]at t ⊢;simp only[go_sem,Qb,Qc,Qd,Qe,Qg,Qh,Qi,Qj,Qk,reduceCtorEq,reduceIte,g1,xiv,g2,jL,g3,g4,J,C,hN,O,em,t,xvK]
  ·obtain⟨j1,n,hn,t1,t2,t3⟩:=e5 C
   have Q:L.length=n:=t2;have W:n<=L.length:=by omega
   have hq:eT n L=L:=by rw[<-Q,dA]
   have a2:(n:Int)<7:=by omega
   have Z:(n:Int)<=140737488355328:=by omega
   simp only[bq,Img.sv]at t1 t3 ⊢;simp only[go_sem,Qb,Qc,Qd,Qe,Qg,Qh,Qi,Qj,Qk,reduceCtorEq,reduceIte,g1,xiv,g2,jL,g3,g4,J,C,hN,O,em,t1,Z,t3,W,hq]
theorem HJ(l:List Img)(i:Nat)(h:i<l.length):l.getD i im0∈l:=by rw[aa,ac h];exact bv _
theorem kJ{α:Type}(l:List α)(x d:α)(i:Nat)(h:i<l.length):(l++ [x]).getD i d=l.getD i d:=by rw[aa,aa,bo h]
theorem pT{α:Type}(l:List α)(x d:α):(l++ [x]).getD l.length d=x:=by rw[aa,bA (aJ _),sA];rfl
structure ChP(l:List Img)(role:Int):Prop where
 ok:∀i,i<l.length->kE (l.getD i im0)=0
 le:∀i,i<l.length->(l.getD i im0).role<=role
 ord:∀i,i+1<l.length->(l.getD i im0).role<=(l.getD (i+1) im0).role
 dup:∀i,i<l.length->∀k,k<i->(l.getD k im0).role=(l.getD i im0).role->(l.getD k im0).name≠(l.getD i im0).name
def agn(x:Img)(l:List Img):Bool:=l.any fun y=>decide (y.role=x.role)&&decide (y.name=x.name)
theorem ChP.snoc{l:List Img}{role:Int}(h:ChP l role){x:Img}(J:kE x=0)(I:x.role=role)(E:agn x l=false):ChP (l++ [x]) role:=by
 have F:(l++ [x]).length=l.length+1:=by simp
 refine⟨fun i hi=> ?_,fun i hi=> ?_,fun i hi=> ?_,fun i hi k C=> ?_⟩
 ·rcases bK i l.length with y|y
  ·rw[kJ l x im0 i y];exact h.ok i y
  ·rw[show i=l.length from by omega,pT];exact J
 ·rcases bK i l.length with y|y
  ·rw[kJ l x im0 i y];exact h.le i y
  ·rw[show i=l.length from by omega,pT,I];exact Int.le_refl _
 ·rw[kJ l x im0 i (by omega)]
  rcases bK (i+1) l.length with y|y
  ·rw[kJ l x im0 (i+1) y];exact h.ord i y
  ·rw[show i+1=l.length from by omega,pT,I];exact h.le i (by omega)
 ·rcases bK i l.length with y|y
  ·rw[kJ l x im0 i y,kJ l x im0 k (by omega)];exact h.dup i y k C
  ·rw[show i=l.length from by omega]at C ⊢
   rw[pT,kJ l x im0 k C];intro L O;unfold agn at E;rw[List.any_eq_false]at E;have:=E (l.getD k im0) (HJ l k C);rw[decide_eq_true L,decide_eq_true O]at this;exact this rfl
theorem ChP.up{l:List Img}{r y:Int}(h:ChP l r)(C:r<=y):ChP l y:=⟨h.ok,fun i hi=>Int.le_trans (h.le i hi) C,h.ord,h.dup⟩
theorem xwZ(B:d9)(j:Nat)(l:List Img)(x:Img)(role n:Int)(hl:l.length<=100):∀(k i:Nat)(E:Bool),l.length-i=k->i<=l.length->
 run T (.loop Cf) ⟨[(3,.ptr 12100 0),(4,.lst 4 (jx l) (.id 104)),(5,.int .i64 role),(6,.int .i64 n),(7,.ptr 107 0),(8,.bool E),(9,.int .i64 i)],[(107,.rc x.sv),(12100,bq B j)],[104]⟩=
 some (.x 4,⟨[(3,.ptr 12100 0),(4,.lst 4 (jx l) (.id 104)),(5,.int .i64 role),(6,.int .i64 n),(7,.ptr 107 0),(8,.bool (E||agn x (l.drop i)))],[(107,.rc x.sv),(12100,bq B j)],[104]⟩):=by
 intro k;induction k with
 |zero=>
  intro i E Q W;have:i=l.length:=by omega
  subst this;have C:=kd l;obtain⟨a,b,c,d⟩:=x;simp only[bq,Img.sv]at*;rw[ai,bw];simp only[go_sem,Qh,Qj,Qk,reduceIte,C,agn,List.any_nil,Bool.or_false]
 |succ k ih=>
  intro i E Q W;have hi:i<l.length:=by omega
  have I:=cg i (by omega);have h:=ih (i+1) (E||(decide ((l.getD i im0).role=x.role)&&decide ((l.getD i im0).name=x.name))) (by omega) (by omega);have C:=kd l;have L:=rT l i hi;have hd:l.drop i=l.getD i im0::l.drop (i+1):=by rw[bt hi,aa,ac hi];rfl
  have Z:agn x (l.drop i)=((decide ((l.getD i im0).role=x.role)&&decide ((l.getD i im0).name=x.name))||agn x (l.drop (i+1))):=by rw[hd];rfl
  rw[Z,<-Bool.or_assoc];rw[ai];generalize agn x (l.drop (i+1))=R at*;generalize l.getD i im0=y at*;obtain⟨a,b,c,d⟩:=x;obtain⟨O,b2,c2,d2⟩:=y;simp only[bq,Img.sv]at*;cases E with
  |true=>simp only[Bool.true_or]at h ⊢;simp only[go_sem,Qb,Qc,Qd,Qh,Qj,Qk,reduceIte,hi,I,C,h]
  |false=>
   by_cases F:O=a
   ·by_cases J:b2=b
    ·rw[decide_eq_true F,decide_eq_true J]at h ⊢
     simp only[Bool.and_self,jC,Bool.true_or]at h ⊢;simp only[go_sem,Qb,Qc,Qd,Qe,Qh,Qi,Qj,Qk,reduceIte,hi,I,C,L,F,J,h]
    ·rw[decide_eq_true F,decide_eq_false J]at h ⊢
     simp only[Bool.and_false,jC]at h ⊢;simp only[go_sem,Qb,Qc,Qd,Qe,Qh,Qi,Qj,Qk,reduceIte,hi,I,C,L,F,J,h]
   ·rw[decide_eq_false F]at h ⊢
    simp only[Bool.false_and,jC]at h ⊢;simp only[go_sem,Qb,Qc,Qd,Qe,Qh,Qi,Qj,Qk,reduceIte,hi,I,C,L,F,h]
theorem ur(l:List Img)(x:Img):jx l++ [x.sv]=jx (l++ [x]):=by rw[jx,jx,cf];rfl
theorem Lj{x:Img}{l:List Img}(h:agn x l=true):∃i,i<l.length/\(l.getD i im0).role=x.role:=by unfold agn at h;rw[List.any_eq_true]at h;obtain⟨y,C,h⟩:=h;obtain⟨i,hi,rfl⟩:=bp C;refine⟨i,hi, ?_⟩;rw[aC]at h;rw[aa,ac hi];exact of_decide_eq_true h.1
theorem xhU(B:d9)(hB:B.length<=1000)(role:Int)(r1:1<=role)(r4:role<=4):∀(n:Nat)(l:List Img)(j:Nat),l.length+n<=8->ChP l role->
 ∃r E,ChP (l++r) role/\r.length<=n/\(1<=n->∃i,i<(l++r).length/\((l++r).getD i im0).role=role)/\
 run T (.loop Ce) ⟨[(3,.ptr 12100 0),(4,.lst 4 (jx l) (.id 104)),(5,.int .i64 role),(6,.int .i64 (n:Int))],[(12100,bq B j)],[104]⟩=
  some (.x 2,⟨[(3,.ptr 12100 0),(4,.lst 4 (jx (l++r)) (.id 104)),(5,.int .i64 role)],[(12100,bq B E)],[104]⟩):=by
 intro n;induction n with
 |zero=>intro l j hl I;refine⟨[],j,by rw[bx];exact I,aX _,fun h=>absurd h (by omega), ?_⟩;rw[bx,ai];simp only[bq];simp only[go_sem,Q4,Qh,Qj,Qk,reduceIte]
 |succ n W=>
  intro l j hl I;obtain⟨x,L,hx,J,g⟩:=f45 B j hB role r1 r4;have y:=xwZ B L l x role ((n+1:Nat):Int) (by omega) l.length 0 false (by omega) (aX _);have Q:(0:Int)<((n+1:Nat):Int):=by omega
  have O:af.wrap (((n+1:Nat):Int)-1)=(n:Int):=wZ (by omega)
  have hv:=kd l;have hs:=ur l x;have c1:(l.length+1)*56<=140737488355328:=by omega
  rw[aW,jC,show((0:Nat):Int)=0 from rfl]at y;cases ha:agn x l with
  |true=>
   rw[ha]at y;obtain⟨r,E,F,q2,Z,C⟩:=W l L (by omega) I;refine⟨r,E,F,by omega,fun _=> ?_, ?_⟩
   ·obtain⟨i,hi,e⟩:=Lj ha
    refine⟨i,by rw[ae];omega, ?_⟩;rw[aa,bo hi,<-aa,e,J]
   ·rw[ai]
    obtain⟨a,b,c,d⟩:=x;simp only[bq,Img.sv]at g y C hs ⊢;simp only[go_sem,Qe,Qg,Qh,Qi,Qj,Qk,reduceIte,Q,g,xvN,O,y,C]
  |false=>
   rw[ha]at y;obtain⟨r,E,F,q2,Z,C⟩:=W (l++ [x]) L (by rw[ae,aF];omega) (I.snoc hx J ha);rw[az]at F Z C;refine⟨[x]++r,E,F,by rw[ae,aF];omega,fun _=> ?_, ?_⟩
   ·refine⟨l.length,by rw[ae,ae,aF];omega, ?_⟩
    rw[aa,bA (aJ _),sA];exact J
   ·rw[ai]
    obtain⟨a,b,c,d⟩:=x;rw[<-az,<-ur]at*;simp only[bq,Img.sv]at g y C ⊢;simp only[go_sem,Qe,Qg,Qh,Qi,Qj,Qk,reduceIte,Q,g,xvN,O,y,hv,c1,C]
theorem xI{l r:List Img}{c:Int}(h:∃i,i<l.length/\(l.getD i im0).role=c):∃i,i<(l++r).length/\((l++r).getD i im0).role=c:=by obtain⟨i,hi,e⟩:=h;refine⟨i,by rw[ae];omega, ?_⟩;rw[aa,bo hi,<-aa,e]
theorem xhT(B:d9)(O:B.length<=1000)(role:Int)(r1:1<=role)(r4:role<=4)(l:List Img)(j:Nat)(Z:l.length+2<=8)(L:ChP l role):
 ∃r E,ChP (l++r) role/\r.length<=2/\(role=1\/role=3->∃i,i<(l++r).length/\((l++r).getD i im0).role=role)/\
 run T (.loop sP) ⟨[(3,.ptr 12100 0),(4,.lst 4 (jx l) (.id 104)),(5,.int .i64 role)],[(12100,bq B j)],[104]⟩=
 run T (.loop sP) ⟨[(3,.ptr 12100 0),(4,.lst 4 (jx (l++r)) (.id 104)),(5,.int .i64 (role+1))],[(12100,bq B E)],[104]⟩:=by
 have C:=f17 B j 3 (by omega) (by omega);have I:=f17 B (cC B j) 2 (by omega) (by omega);have v1:=eH B j 3 (by omega);have v2:=eH B (cC B j) 2 (by omega);rw[cz3]at C;rw[c2]at I;have e:af.wrap (1+((ec B (cC B j) 2:Nat):Int))=((1+ec B (cC B j) 2:Nat):Int):=wZ (by omega)
 have W:role=1\/role=2\/role=3\/role=4:=by omega
 rcases W with rfl|rfl|rfl|rfl
 ·obtain⟨r,E,F,Q,J,y⟩:=xhU B O 1 (by decide) (by decide) (1+ec B (cC B j) 2) l (cC B (cC B j)) (by omega) L
  refine⟨r,E,F,by omega,fun _=>J (by omega), ?_⟩;rw[ai];simp only[bq]at C I y ⊢;simp only[go_sem,Q3,Q5,Q8,Qe,Qg,Qh,Qi,Qj,Qk,reduceIte,C,I,jL,e,y];rfl
 ·obtain⟨r,E,F,Q,J,y⟩:=xhU B O 2 (by decide) (by decide) (ec B j 3) l (cC B j) (by omega) L
  refine⟨r,E,F,by omega,fun h=>absurd h (by decide), ?_⟩;rw[ai];simp only[bq]at C I y ⊢;simp only[go_sem,Q3,Q5,Q8,Qe,Qg,Qh,Qi,Qj,Qk,reduceIte,C,jL,y];rfl
 ·obtain⟨r,E,F,Q,J,y⟩:=xhU B O 3 (by decide) (by decide) (1+ec B (cC B j) 2) l (cC B (cC B j)) (by omega) L
  refine⟨r,E,F,by omega,fun _=>J (by omega), ?_⟩;rw[ai];simp only[bq]at C I y ⊢;simp only[go_sem,Q3,Q5,Q8,Qe,Qg,Qh,Qi,Qj,Qk,reduceIte,C,I,jL,e,y];rfl
 ·obtain⟨r,E,F,Q,J,y⟩:=xhU B O 4 (by decide) (by decide) (ec B j 3) l (cC B j) (by omega) L
  refine⟨r,E,F,by omega,fun h=>absurd h (by decide), ?_⟩;rw[ai];simp only[bq]at C I y ⊢;simp only[go_sem,Q3,Q5,Q8,Qe,Qg,Qh,Qi,Qj,Qk,reduceIte,C,jL,y];rfl
theorem CN{l:List Img}{a b:Int}(h:ChP l a)(y:a<=b):ChP l b:=⟨h.ok,fun i hi=>Int.le_trans (h.le i hi) y,h.ord,h.dup⟩
theorem f15(h:d9):∃l,iC l/\call T 15 [.byt h .no] [] 0=some ⟨.lst 4 (jx l) .no,[],[]⟩:=by
 have F:(h.take 200).length<=1000:=by rw[aq];omega
 have g:=f16 h 200;rw[xyd]at g;generalize h.take 200=B at*;have h0:ChP [] 1:=⟨fun i hi=>absurd hi (by simp),fun i hi=>absurd hi (by simp),fun i hi=>absurd hi (by simp),fun i hi=>absurd hi (by simp)⟩;obtain⟨C,W,L,n1,w1,y⟩:=xhT B F 1 (by decide) (by decide) [] 0 (by decide) h0;rw[aE]at L w1 y;obtain⟨E,Z,p2,n2,w2,I⟩:=xhT B F 2 (by decide) (by decide) C W (by omega) (CN L (by decide));obtain⟨a3,j3,p3,n3,Q,t3⟩:=xhT B F 3 (by decide) (by decide) (C++E) Z (by rw[ae];omega) (CN p2 (by decide));obtain⟨a4,O,J,n4,w4,t4⟩:=xhT B F 4 (by decide) (by decide) (C++E++a3) j3 (by simp only[ae];omega) (CN p3 (by decide));refine⟨C++E++a3++a4,⟨?_, ?_,J.ok,J.ord,J.dup,xI (xI (xI (w1 (Or.inl rfl)))),xI (Q (Or.inr rfl))⟩, ?_⟩
 ·obtain⟨i,hi,_⟩:=w1 (Or.inl rfl)
  simp only[ae];omega
 ·simp only[ae];omega
 ·rw[aj xzj]
  rw[show(1:Int)+1=2 from rfl]at y;rw[show(2:Int)+1=3 from rfl]at I;rw[show(3:Int)+1=4 from rfl]at t3;rw[show(4:Int)+1=5 from rfl]at t4
  have t5:run T (.loop sP) ⟨[(3,.ptr 12100 0),(4,.lst 4 (jx (C++E++a3++a4)) (.id 104)),(5,.int .i64 5)],[(12100,bq B O)],[104]⟩=some (.x 0,⟨[(4,.lst 4 (jx (C++E++a3++a4)) (.id 104))],[(12100,bq B O)],[104]⟩):=by rw[ai];simp only[bq,go_sem,Q3,Qh,Qj,Qk,reduceIte]
  rw[t5]at t4;rw[t4]at t3;rw[t3]at I;rw[I]at y;have e0:jx []=[]:=rfl;rw[e0]at y;simp only[bq,c0,az]at g y;simp only[go_sem,Qe,Qg,Qh,Qi,Qj,Qk,reduceCtorEq,reduceIte,g,xvS,y,az]
theorem xnV{l:List Au}{i:Nat}(h:auE l i=0):1<=(l.getD i au0).id/\(l.getD i au0).id<=1000:=by
 unfold auE at h;split at h
 ·cases h
 ·split at h
  ·cases h
  ·constructor<;>omega
theorem wL{l:List Au}:∀(n i:Nat),mN l n i=0->∀k,i<=k->k<i+n->auE l k=0
 |0,i,_,k,h1,h2=>by omega
 |n+1,i,h,k,h1,h2=>by
  have C:(if auE l i=0 then mN l n (i+1)else auE l i)=0:=h
  by_cases y:auE l i=0
  ·rw[if_pos y]at C
   by_cases e:k=i
   ·subst e;exact y
   ·exact wL n (i+1) C k (by omega) (by omega)
  ·rw[if_neg y]at C;exact absurd C y
theorem xbh{t:Tr}(h:trE t=0)(B:d9)(ms:List Mk)(C:ms.length<=1000)(F:B.length<=100000000):xaW t B ms:=by
 unfold trE at h;split at h
 ·cases h
 ·rename_i I
  split at h
  ·rename_i y
   split at h
   ·cases h
   ·split at h
    ·cases h
    ·refine⟨by omega,by omega,C,F,fun a E=> ?_⟩
     obtain⟨i,hi,rfl⟩:=bp E;have:=xnV (wL _ 0 y i (aX _) (by omega));rw[aa,ac hi]at this;simp only[aM]at this;omega
  ·rename_i y;exact absurd h y
open Classical in
noncomputable def mQ(t:Tr)(B:d9)(ms:List Mk):Int:=
 if trE t=0 then(if 4<ms.length then 4 else if jT B=none/\lJ B=none then 30 else if((sgL t B ms).length:Int)<t.thr then 44 else 0)else trE t
theorem f46(t:Tr)(B:d9)(ms:List Mk)(W:B.length<=100000000):call U 46 [.agg t.sv,.agg (cU B ms)] [] 0=some ⟨.int .i64 (mQ t B ms),[],[]⟩:=by
 have E:=up (f39 t);have y:=fT ms;unfold mQ
 by_cases hE:trE t=0
 ·rw[if_pos hE]
  rw[hE]at E
  by_cases O:4<ms.length
  ·rw[if_pos O]
   have F:(4:Int)<ms.length:=by omega
   unfold Tr.sv cU at*;rw[aj xaV];simp only[go_sem,Qe,Qh,Qi,Qj,Qk,reduceCtorEq,reduceIte,US,E,Bt,y,F]
  ·rw[if_neg O]
   have F:¬(4:Int)<ms.length:=by omega
   have C:=up (f47 B (by omega));have I:=up (f49 B (by omega));have Q:=f73 (xbh hE B ms (by omega) W);have T:=og (sgL t B ms);unfold zL zM at C;generalize sgL t B ms=L at*;unfold Tr.sv cU at*;cases hp:jT B with
   |some m=>
    rw[hp]at C;rw[if_neg (fun h=>by cases h.1)];obtain⟨v,Z,m2,m3,m4,es,rs⟩:=m;simp only[Man.sv]at C;rw[aj xaV]
    by_cases J:(L.length:Int)<t.thr
    ·simp only[go_sem,Qb,Qc,Qd,Qe,Qh,Qi,Qj,Qk,reduceCtorEq,reduceIte,US,E,Bt,y,F,C,Jf,Q,xiu,T,J]
    ·simp only[go_sem,Qb,Qc,Qd,Qe,Qh,Qi,Qj,Qk,reduceCtorEq,reduceIte,US,E,Bt,y,F,C,Jf,Q,xiu,T,J]
   |none=>
    rw[hp]at C;simp only[mnz,Man.sv,df,dS,bJ]at C;cases hw:lJ B with
    |some w=>
     rw[hw]at I;rw[if_neg (fun h=>by cases h.2)];obtain⟨wm,wf⟩:=w;simp only[wdO,Wd.sv]at I;rw[aj xaV]
     by_cases J:(L.length:Int)<t.thr
     ·simp only[go_sem,Q5,Qb,Qc,Qd,Qe,Qh,Qi,Qj,Qk,reduceCtorEq,reduceIte,US,E,Bt,y,F,C,Jf,I,xiz,Q,xiu,T,J]
     ·simp only[go_sem,Q5,Qb,Qc,Qd,Qe,Qh,Qi,Qj,Qk,reduceCtorEq,reduceIte,US,E,Bt,y,F,C,Jf,I,xiz,Q,xiu,T,J]
    |none=>rw[hw]at I;rw[if_pos ⟨rfl,rfl⟩];simp only[wdO]at I;rw[aj xaV];simp only[go_sem,Q5,Qe,Qh,Qi,Qj,Qk,reduceCtorEq,reduceIte,US,E,Bt,y,F,C,Jf,I,xiz]
 ·rw[if_neg hE]
  unfold Tr.sv cU at*;generalize trE t=e at*;rw[aj xaV];simp only[go_sem,Qe,Qh,Qi,Qj,Qk,reduceCtorEq,reduceIte,US,E,Bt,hE]
theorem f51(t:Tr)(B:d9)(ms:List Mk)(hB:B.length<=100000000):call T 51 [.agg t.sv,.agg (cU B ms)] [] 0=some ⟨.int .i64 (mQ t B ms),[],[]⟩:=by
 have F:=f40 t;have y:=fT ms;unfold mQ
 by_cases hE:trE t=0
 ·rw[if_pos hE]
  rw[hE]at F
  by_cases W:4<ms.length
  ·rw[if_pos W]
   have I:(4:Int)<ms.length:=by omega
   unfold Tr.sv cU at*;rw[aj Uu];simp only[go_sem,Qe,Qh,Qi,Qj,Qk,reduceCtorEq,reduceIte,F,wQ,y,I]
  ·rw[if_neg W]
   have I:¬(4:Int)<ms.length:=by omega
   have E:=f52 B (by omega);have C:=f54 B (by omega);have Z:=xbh hE B ms (by omega) hB;have O:=f92 t B ms (by have:=Z.n2;omega) hB (by omega);have Q:=og (sgL t B ms);unfold zL zM at E;generalize sgL t B ms=L at*;unfold Tr.sv cU at*;cases hp:jT B with
   |some m=>
    rw[hp]at E;rw[if_neg (fun h=>by cases h.1)];obtain⟨v,m1,m2,m3,m4,es,rs⟩:=m;simp only[Man.sv]at E;cases hw:lJ B with
    |some w=>
     rw[hw]at C;obtain⟨wm,wf⟩:=w;simp only[wdO,Wd.sv]at C;rw[aj Uu]
     by_cases J:(L.length:Int)<t.thr
     ·simp only[go_sem,Qb,Qc,Qd,Qe,Qh,Qi,Qj,Qk,reduceCtorEq,reduceIte,F,wQ,y,I,E,tg,C,zW,O,Uv,Q,J]
     ·simp only[go_sem,Qb,Qc,Qd,Qe,Qh,Qi,Qj,Qk,reduceCtorEq,reduceIte,F,wQ,y,I,E,tg,C,zW,O,Uv,Q,J]
    |none=>
     rw[hw]at C;simp only[wdO]at C;rw[aj Uu]
     by_cases J:(L.length:Int)<t.thr
     ·simp only[go_sem,Q5,Qb,Qc,Qd,Qe,Qh,Qi,Qj,Qk,reduceCtorEq,reduceIte,F,wQ,y,I,E,tg,C,zW,O,Uv,Q,J]
     ·simp only[go_sem,Q5,Qb,Qc,Qd,Qe,Qh,Qi,Qj,Qk,reduceCtorEq,reduceIte,F,wQ,y,I,E,tg,C,zW,O,Uv,Q,J]
   |none=>
    rw[hp]at E;simp only[mnz,Man.sv,df,dS,bJ]at E;cases hw:lJ B with
    |some w=>
     rw[hw]at C;rw[if_neg (fun h=>by cases h.2)];obtain⟨wm,wf⟩:=w;simp only[wdO,Wd.sv]at C;rw[aj Uu]
     by_cases J:(L.length:Int)<t.thr
     ·simp only[go_sem,Q5,Qb,Qc,Qd,Qe,Qh,Qi,Qj,Qk,reduceCtorEq,reduceIte,F,wQ,y,I,E,tg,C,zW,O,Uv,Q,J]
     ·simp only[go_sem,Q5,Qb,Qc,Qd,Qe,Qh,Qi,Qj,Qk,reduceCtorEq,reduceIte,F,wQ,y,I,E,tg,C,zW,O,Uv,Q,J]
    |none=>rw[hw]at C;rw[if_pos ⟨rfl,rfl⟩];simp only[wdO]at C;rw[aj Uu];simp only[go_sem,Q5,Qe,Qh,Qi,Qj,Qk,reduceCtorEq,reduceIte,F,wQ,y,I,E,tg,C,zW]
 ·rw[if_neg hE]
  unfold Tr.sv cU at*;generalize trE t=e at*;rw[aj Uu];simp only[go_sem,Qe,Qh,Qi,Qj,Qk,reduceCtorEq,reduceIte,F,wQ,hE]
def bI(w:Int)(i:Nat):Int:=cn .and .i64 (w.fdiv (2^min i 64)) 1
def mkS(i:Nat)(B:d9):Mk:=⟨3+2*(i:Int),sgn (eM (3+2*i)) 1 (if i=1 then 1 else 0) B⟩
def jK(w:Int)(B:d9)(i:Nat)(ms:List Mk):List Mk:=if bI w i=1 then ms++ [mkS i B]else ms
def gN(w:Int)(B:d9):List Mk:=jK w B 2 (jK w B 1 (jK w B 0 []))
theorem lM(w:Int)(B:d9)(i:Nat)(ms:List Mk):(jK w B i ms).length<=ms.length+1:=by
 unfold jK;split
 ·rw[ae];exact aJ _
 ·omega
theorem JR(w:Int)(B:d9):(gN w B).length<=3:=by have h:=lM w B 0 [];have C:=lM w B 1 (jK w B 0 []);have y:=lM w B 2 (jK w B 1 (jK w B 0 []));unfold gN;rw[aA]at h;omega
def oX:aH:= .rc [.byt [] .clip,.lst 2 [] .clip]
theorem xo2(w:Int)(B:d9)(hB:B.length<=100000000)(ms:List Mk)(hm:ms.length<=10)(I:Tok)(C:I= .no\/I= .clip/\ms=[]):∃E,(E= .no\/E= .clip/\jK w B 0 ms=[])/\
 run T (.loop nE) ⟨[(1,.int .i64 w),(4,.ptr 104 0),(5,.ptr 105 0),(6,.int .i64 0)],[(104,oX),(105,.rc [.byt B .no,.lst 2 (kv ms) I])],[]⟩=
  run T (.loop nE) ⟨[(1,.int .i64 w),(4,.ptr 104 0),(5,.ptr 105 0),(6,.int .i64 1)],[(104,oX),(105,.rc [.byt B .no,.lst 2 (kv (jK w B 0 ms)) E])],[]⟩:=by
 have u:aQ.wrap 0=0:=by decide
 have k1:af.wrap (0+1)=1:=by decide
 have h:af.wrap 1=1:=by decide
 have k2:af.wrap (2*0)=0:=by decide
 have F:af.wrap 0=0:=by decide
 have Q:af.wrap 3=3:=by decide
 have W:cn .and .i64 0 1=0:=by decide
 have L:=f38 3;have J:=f61 B ms 3 (eM 3) 1 0 (by omega) (by rw[fg];decide) hB (.inr (.inr (.inr rfl)));have hv:=fT ms;rw[show((3:Nat):Int)=3 from rfl]at L;have em:mkS 0 B=⟨3,sgn (eM 3) 1 0 B⟩:=rfl
 by_cases y:bI w 0=1
 ·refine⟨.no,.inl rfl, ?_⟩
  have O:jK w B 0 ms=ms++ [mkS 0 B]:=if_pos y;rw[O,em];unfold cU at J;generalize kv (ms++ [⟨3,sgn (eM 3) 1 0 B⟩])=Z at*;generalize eM 3=S at*;unfold bI at y;unfold oX
  conv=>lhs;rw[ai]
  rcases C with rfl|⟨rfl,rfl⟩
  ·simp only[go_sem,Q2,Q3,Q4,Q8,Qa,Qb,Qc,Qd,Qe,Qh,Qj,Qk,reduceCtorEq,reduceIte,u,y,h,F,Q,W,L,uS,J,Ux]
  ·have h0:kv []=[]:=rfl
   simp only[h0]at J ⊢;simp only[go_sem,Q2,Q3,Q4,Q8,Qa,Qb,Qc,Qd,Qe,Qh,Qj,Qk,reduceCtorEq,reduceIte,u,y,h,F,Q,W,L,uS,J,Ux]
 ·have O:jK w B 0 ms=ms:=if_neg y
  rw[O];refine⟨I,C, ?_⟩;unfold bI at y;unfold oX
  conv=>lhs;rw[ai]
  rcases C with rfl|⟨rfl,rfl⟩
  ·simp only[go_sem,Q2,Q3,Q4,Q8,Qa,Qe,Qh,Qj,Qk,reduceCtorEq,reduceIte,u,y,h]
  ·simp only[go_sem,Q2,Q3,Q4,Q8,Qa,Qe,Qh,Qj,Qk,reduceCtorEq,reduceIte,u,y,h]
theorem xo1(w:Int)(B:d9)(hB:B.length<=100000000)(ms:List Mk)(hm:ms.length<=10)(F:Tok)(C:F= .no\/F= .clip/\ms=[]):∃E,(E= .no\/E= .clip/\jK w B 1 ms=[])/\
 run T (.loop nE) ⟨[(1,.int .i64 w),(4,.ptr 104 0),(5,.ptr 105 0),(6,.int .i64 1)],[(104,oX),(105,.rc [.byt B .no,.lst 2 (kv ms) F])],[]⟩=
  run T (.loop nE) ⟨[(1,.int .i64 w),(4,.ptr 104 0),(5,.ptr 105 0),(6,.int .i64 2)],[(104,oX),(105,.rc [.byt B .no,.lst 2 (kv (jK w B 1 ms)) E])],[]⟩:=by
 have u:aQ.wrap 1=1:=by decide
 have k1:af.wrap (1+1)=2:=by decide
 have h:af.wrap 2=2:=by decide
 have k2:af.wrap (2*1)=2:=by decide
 have W:af.wrap 2=2:=by decide
 have O:af.wrap 5=5:=by decide
 have Q:cn .and .i64 1 1=1:=by decide
 have J:=f38 5;have I:=f61 B ms 5 (eM 5) 1 1 (by omega) (by rw[fg];decide) hB (.inr (.inr (.inr rfl)));have hv:=fT ms;rw[show((5:Nat):Int)=5 from rfl]at J;have em:mkS 1 B=⟨5,sgn (eM 5) 1 1 B⟩:=rfl
 by_cases y:bI w 1=1
 ·refine⟨.no,.inl rfl, ?_⟩
  have L:jK w B 1 ms=ms++ [mkS 1 B]:=if_pos y;rw[L,em];unfold cU at I;generalize kv (ms++ [⟨5,sgn (eM 5) 1 1 B⟩])=Z at*;generalize eM 5=S at*;unfold bI at y;unfold oX
  conv=>lhs;rw[ai]
  rcases C with rfl|⟨rfl,rfl⟩
  ·simp only[go_sem,Q2,Q3,Q4,Q8,Qa,Qb,Qc,Qd,Qe,Qh,Qj,Qk,reduceCtorEq,reduceIte,u,y,h,O,Q,J,uS,I,Ux]
  ·have h0:kv []=[]:=rfl
   simp only[h0]at I ⊢;simp only[go_sem,Q2,Q3,Q4,Q8,Qa,Qb,Qc,Qd,Qe,Qh,Qj,Qk,reduceCtorEq,reduceIte,u,y,h,O,Q,J,uS,I,Ux]
 ·have L:jK w B 1 ms=ms:=if_neg y
  rw[L];refine⟨F,C, ?_⟩;unfold bI at y;unfold oX
  conv=>lhs;rw[ai]
  rcases C with rfl|⟨rfl,rfl⟩
  ·simp only[go_sem,Q2,Q3,Q4,Q8,Qa,Qe,Qh,Qj,Qk,reduceCtorEq,reduceIte,u,y,h]
  ·simp only[go_sem,Q2,Q3,Q4,Q8,Qa,Qe,Qh,Qj,Qk,reduceCtorEq,reduceIte,u,y,h]
theorem xo0(w:Int)(B:d9)(hB:B.length<=100000000)(ms:List Mk)(hm:ms.length<=10)(I:Tok)(C:I= .no\/I= .clip/\ms=[]):∃E,(E= .no\/E= .clip/\jK w B 2 ms=[])/\
 run T (.loop nE) ⟨[(1,.int .i64 w),(4,.ptr 104 0),(5,.ptr 105 0),(6,.int .i64 2)],[(104,oX),(105,.rc [.byt B .no,.lst 2 (kv ms) I])],[]⟩=
  run T (.loop nE) ⟨[(1,.int .i64 w),(4,.ptr 104 0),(5,.ptr 105 0),(6,.int .i64 3)],[(104,oX),(105,.rc [.byt B .no,.lst 2 (kv (jK w B 2 ms)) E])],[]⟩:=by
 have u:aQ.wrap 2=2:=by decide
 have k1:af.wrap (2+1)=3:=by decide
 have h:af.wrap 3=3:=by decide
 have k2:af.wrap (2*2)=4:=by decide
 have F:af.wrap 4=4:=by decide
 have Q:af.wrap 7=7:=by decide
 have W:cn .and .i64 2 1=0:=by decide
 have L:=f38 7;have J:=f61 B ms 7 (eM 7) 1 0 (by omega) (by rw[fg];decide) hB (.inr (.inr (.inr rfl)));have hv:=fT ms;rw[show((7:Nat):Int)=7 from rfl]at L;have em:mkS 2 B=⟨7,sgn (eM 7) 1 0 B⟩:=rfl
 by_cases y:bI w 2=1
 ·refine⟨.no,.inl rfl, ?_⟩
  have O:jK w B 2 ms=ms++ [mkS 2 B]:=if_pos y;rw[O,em];unfold cU at J;generalize kv (ms++ [⟨7,sgn (eM 7) 1 0 B⟩])=Z at*;generalize eM 7=S at*;unfold bI at y;unfold oX
  conv=>lhs;rw[ai]
  rcases C with rfl|⟨rfl,rfl⟩
  ·simp only[go_sem,Q2,Q3,Q4,Q8,Qa,Qb,Qc,Qd,Qe,Qh,Qj,Qk,reduceCtorEq,reduceIte,u,y,h,F,Q,W,L,uS,J,Ux]
  ·have h0:kv []=[]:=rfl
   simp only[h0]at J ⊢;simp only[go_sem,Q2,Q3,Q4,Q8,Qa,Qb,Qc,Qd,Qe,Qh,Qj,Qk,reduceCtorEq,reduceIte,u,y,h,F,Q,W,L,uS,J,Ux]
 ·have O:jK w B 2 ms=ms:=if_neg y
  rw[O];refine⟨I,C, ?_⟩;unfold bI at y;unfold oX
  conv=>lhs;rw[ai]
  rcases C with rfl|⟨rfl,rfl⟩
  ·simp only[go_sem,Q2,Q3,Q4,Q8,Qa,Qe,Qh,Qj,Qk,reduceCtorEq,reduceIte,u,y,h]
  ·simp only[go_sem,Q2,Q3,Q4,Q8,Qa,Qe,Qh,Qj,Qk,reduceCtorEq,reduceIte,u,y,h]
theorem f33(B:d9)(y:B.length<=100000000)(w:Int):call T 33 [.byt B .no,.int .i64 w] [] 0=some ⟨.agg (cU B (gN w B)),[],[]⟩:=by
 have F:=lM w B 0 [];have l1:=lM w B 1 (jK w B 0 []);rw[aA]at F;obtain⟨t0,Z,E⟩:=xo2 w B y [] (by simp) .clip (.inr ⟨rfl,rfl⟩);obtain⟨O,C,J⟩:=xo1 w B y _ (by omega) t0 Z;obtain⟨h,L,W⟩:=xo0 w B y _ (by omega) O C;have e:=E.trans (J.trans W);have I:kv []=[]:=rfl;rw[I]at e;change _=run T (.loop nE) ⟨_,[_,(105,.rc [.byt B .no,.lst 2 (kv (gN w B)) h])],_⟩at e
 have Q:run T (.loop nE) ⟨[(1,.int .i64 w),(4,.ptr 104 0),(5,.ptr 105 0),(6,.int .i64 3)],[(104,oX),(105,.rc [.byt B .no,.lst 2 (kv (gN w B)) h])],[]⟩=some (.x 0,⟨[(4,.ptr 104 0),(5,.ptr 105 0)],[(104,oX),(105,.rc [.byt B .no,.lst 2 (kv (gN w B)) h])],[]⟩):=by rw[ai];unfold oX;rcases L with rfl|⟨rfl,_⟩<;>simp only[go_sem,Q4,Qh,Qj,Qk,reduceIte]
 rw[Q]at e;unfold oX at e;unfold cU;rw[aj xy5];simp only[go_sem,Qe,Qh,Qi,Qj,Qk,reduceCtorEq,reduceIte,e]
def sW(B:d9):Prop:=jT B≠none\/lJ B≠none
theorem HK{α:Type}(l:List α)(d x:α):x∈l↔∃i,i<l.length/\l.getD i d=x:=by
 constructor
 ·intro h
  obtain⟨i,hi,e⟩:=bp h;exact⟨i,hi,by rw[aa,ac hi];exact e⟩
 ·rintro⟨i,hi,rfl⟩
  exact vX l d i hi
theorem ZB(t:Tr)(B:d9)(ms:List Mk)(x:Int):x∈sgO t B ms↔∃m∈ms,gdB t B m=true/\m.auth=x:=by
 unfold sgO;rw[vP];constructor
 ·rintro⟨j,y,C,h⟩
  exact⟨ms.getD j mk0,vX _ _ _ y,C,h⟩
 ·rintro⟨m,y,C,h⟩
  obtain⟨j,E,rfl⟩:=(HK ms mk0 m).1 y;exact⟨j,E,C,h⟩
def xaA(w:Int):Nat->Nat
 |0=>0
 |n+1=>xaA w n+(if bI w n=1 then 1 else 0)
def A3(w:Int):Nat->List Int
 |0=> []
 |n+1=>A3 w n++(if bI w n=1 then [3+2*(n:Int)]else [])
theorem zb(w:Int):∀n,(A3 w n).length=xaA w n
 |0=>rfl
 |n+1=>by rw[A3,xaA,ae,zb w n];split<;>rfl
theorem rM(w x:Int):∀n,x∈A3 w n↔∃i,i<n/\bI w i=1/\3+2*(i:Int)=x
 |0=>by simp[A3]
 |n+1=>by
  rw[A3,am,rM w x n];constructor
  ·rintro(⟨i,F,y⟩|h)
   ·exact⟨i,by omega,y⟩
   ·split at h
    ·rename_i E
     exact⟨n,by omega,E,(bj.1 h).symm⟩
    ·cases h
  ·rintro⟨i,F,y,C⟩
   by_cases e:i=n
   ·subst e
    refine .inr ?_;rw[if_pos y];simp[C]
   ·exact .inl ⟨i,by omega,y,C⟩
theorem vV(w:Int):∀n,(A3 w n).Pairwise (· < ·)
 |0=>fP.nil
 |n+1=>by
  rw[A3];refine dX.2 ⟨vV w n,by split<;>simp,fun a y b h=> ?_⟩;obtain⟨i,C,_,rfl⟩:=(rM w a n).1 y;split at h
  ·rw[bj.1 h];omega
  ·cases h
theorem yN(w:Int)(B:d9)(m:Mk):m∈gN w B↔∃i,i<3/\bI w i=1/\m=mkS i B:=by
 have key:∀i ms,m∈jK w B i ms↔m∈ms\/(bI w i=1/\m=mkS i B):=fun i ms=>by
  unfold jK;split
  ·rename_i h;simp[h]
  ·rename_i h;simp[h]
 unfold gN;rw[key,key,key];constructor
 ·rintro(((h|h)|h)|h)
  ·cases h
  ·exact⟨0,by decide,h⟩
  ·exact⟨1,by decide,h⟩
  ·exact⟨2,by decide,h⟩
 ·rintro⟨i,hi,h⟩
  rcases (by omega:i=0\/i=1\/i=2)with rfl|rfl|rfl
  ·exact .inl (.inl (.inr h))
  ·exact .inl (.inr h)
  ·exact .inr h
theorem Z2(t:Tr)(B:d9)(m:Mk):gdB t B m=true↔∃i,i<t.au.length/\(t.au.getD i au0).id=m.auth/\gM (t.au.getD i au0).key B m.sig=true:=by
 unfold gdB;rw[List.any_eq_true];constructor
 ·rintro⟨i,hi,h⟩
  simp only[aC,decide_eq_true_eq]at h;exact⟨i,eV.1 hi,h.1,h.2⟩
 ·rintro⟨i,hi,y,C⟩
  exact⟨i,eV.2 hi,by rw[C,decide_eq_true y];rfl⟩
theorem Uf(k:Nat)(thr:Int)(B:d9)(i:Nat)(hi:i<3):gdB (trL k thr) B (mkS i B)=true↔i<k+1:=by
 rw[Z2];have C:=Gj k;show(∃j,j<(auL k).length/\((auL k).getD j au0).id=(mkS i B).auth/\gM ((auL k).getD j au0).key B (mkS i B).sig=true)↔_;rw[C];constructor
 ·rintro⟨j,E,y,_⟩
  rw[ox k j (by omega)]at y;have:(3:Int)+2*(j:Int)=3+2*(i:Int):=y;omega
 ·intro h
  refine⟨i,h, ?_, ?_⟩
  ·rw[ox k i (by omega)];rfl
  ·rw[ox k i (by omega)]
   show gM (js (eM (3+2*i)) 1) B (sgn (eM (3+2*i)) 1 (if i=1 then 1 else 0) B)=true
   by_cases e:i=1
   ·rw[if_pos e,Lx];exact DJ _ _ _ (by decide)
   ·rw[if_neg e,Ly];exact DJ _ _ _ (by decide)
theorem Hc(k:Nat)(I:k<=2)(thr w:Int)(B:d9):sgL (trL k thr) B (gN w B)=A3 w (k+1):=by
 rw[<-tP (vV w (k+1))];refine rD (lT _ _ _ _ _) (yT (vV _ _)) fun x=> ?_
 show x∈sgO (trL k thr) B (gN w B)↔_;rw[ZB,rM];constructor
 ·rintro⟨m,E,F,C⟩
  obtain⟨i,hi,y,rfl⟩:=(yN w B m).1 E;exact⟨i,(Uf k thr B i hi).1 F,y,C⟩
 ·rintro⟨i,hi,y,h⟩
  exact⟨mkS i B,(yN w B _).2 ⟨i,by omega,y,rfl⟩,(Uf k thr B i (by omega)).2 hi,h⟩
theorem sj(m:Man):(bX m).length<=32:=by
 unfold bX;split
 ·simp
 ·exact Nat.le_of_eq (ir _)
theorem f32(m:Man)(F:dx m):call T 32 [.agg m.sv] [] 0=some ⟨.byt (bX m) .no,[],[]⟩:=by
 have I:=f59 m F;have Q:=kf m F;have O:=f60 21 (eP m) (by omega);obtain⟨J,L,m2,m3,m4,es,rs⟩:=m;unfold bX;simp only[Man.sv]at*;rw[aj xy6];generalize eP ⟨J,L,m2,m3,m4,es,rs⟩=E at*
 by_cases y:E=[]
 ·subst y
  simp only[go_sem,Qe,Qh,Qi,Qj,Qk,reduceCtorEq,reduceIte,I,Gw]
 ·have C:¬(E.length:Int)=0:=by
   intro h;exact y (cu.1 (by omega))
  rw[if_neg y];simp only[go_sem,Qe,Qh,Qi,Qj,Qk,reduceCtorEq,reduceIte,I,Gw,C,O,xaZ]
theorem f36(m:Man)(F:dx m):call T 36 [.agg m.sv] [] 0=some ⟨.byt (bX m) .no,[],[]⟩:=by
 have I:=f34 m F;have Q:=kf m F;have O:=f65 21 (eP m) (by omega);obtain⟨J,L,m2,m3,m4,es,rs⟩:=m;unfold bX;simp only[Man.sv]at*;rw[aj xy3];generalize eP ⟨J,L,m2,m3,m4,es,rs⟩=E at*
 by_cases y:E=[]
 ·subst y
  simp only[go_sem,Qe,Qh,Qi,Qj,Qk,reduceCtorEq,reduceIte,I,xa0]
 ·have C:¬(E.length:Int)=0:=by
   intro h;exact y (cu.1 (by omega))
  rw[if_neg y];simp only[go_sem,Qe,Qh,Qi,Qj,Qk,reduceCtorEq,reduceIte,I,xa0,C,O,xaX]
theorem f84(a b:d9):call T 84 [.byt a .no,.byt b .no] [] 0=some ⟨.bool (decide (a=b)),[],[]⟩:=by rw[aj xyw];simp only[go_sem,Qe,Qh,Qi,Qj,Qk,reduceCtorEq,reduceIte]
theorem f82(m:Man)(y:dx m)(d:d9):call T 82 [.agg m.sv,.byt d .no] [] 0=some ⟨.int .i64 (Lib.compareBytes (bX m) d),[],[]⟩:=by have C:=f32 m y;have h:=f83 (bX m) d;obtain⟨E,F,m2,m3,m4,es,rs⟩:=m;simp only[Man.sv]at*;rw[aj xyy];simp only[go_sem,Qe,Qh,Qi,Qj,Qk,reduceCtorEq,reduceIte,C,zY,h,xon]
def or2(a b:Int):Int:=if a≠0 then a else b
theorem xrF(a b:Int):call T 133 [.lst 1 [[.int .i64 a],[.int .i64 b]] .no] [] 0=some ⟨.int .i64 (or2 a b),[],[]⟩:=by
 have k1:af.wrap (0+1)=1:=by decide
 have k2:af.wrap (1+1)=2:=by decide
 have h:af.wrap 1=1:=by decide
 have y:af.wrap 2=2:=by decide
 unfold or2;rw[aj xil]
 by_cases E:a=0
 ·subst E
  by_cases C:b=0
  ·subst C
   simp only[go_sem,Qe,Qh,Qi,Qj,Qk,reduceCtorEq,reduceIte];rw[ai];simp only[go_sem,Q2,Q3,Q4,Q8,Qe,Qh,Qj,Qk,reduceIte,h];rw[ai];simp only[go_sem,Q2,Q3,Q4,Q8,Qe,Qh,Qj,Qk,reduceIte,y];rw[ai];simp only[go_sem,Q4,Qh,Qj,Qk,reduceIte]
  ·simp only[go_sem,Qe,Qh,Qi,Qj,Qk,reduceCtorEq,reduceIte]
   rw[ai];simp only[go_sem,Q2,Q3,Q4,Q8,Qe,Qh,Qj,Qk,reduceIte,h];rw[ai];simp only[go_sem,Q2,Q3,Q4,Qe,Qh,Qj,Qk,reduceIte,C]
 ·simp only[go_sem,Qe,Qh,Qi,Qj,Qk,reduceCtorEq,reduceIte]
  rw[ai];simp only[go_sem,Q2,Q3,Q4,Qe,Qh,Qj,Qk,reduceIte,E]
def Fx(x y:Wd):Int:=or2 (Lib.compareBytes x.man y.man) (qX x.frm y.frm)
theorem f89(x y:Wd):call T 89 [.agg x.sv,.agg y.sv] [] 0=some ⟨.int .i64 (Fx x y),[],[]⟩:=by have J:=f83 x.man y.man;have E:=xoc x.frm y.frm;obtain⟨h,I⟩:=x;obtain⟨F,L⟩:=y;simp only[Wd.sv,Fx]at*;have C:=xrF (Lib.compareBytes h F) (qX I L);rw[aj xys];simp only[go_sem,Qb,Qc,Qd,Qe,Qh,Qi,Qj,Qk,reduceCtorEq,reduceIte,J,xon,E,xiV,C,xiW]
def wdB(h:Int)(d:d9)(w:Wd):Bool:=decide (w.frm<=h)&&decide (w.man=d)
theorem xx7(w:Wd)(y:Int)(d:d9):call T 100 [.agg w.sv,.ptr 0 0,.ptr 1 0] [.rc [.int .i64 y],.rc [.byt d .no]] 0=some ⟨.bool (wdB y d w),[(0,.rc [.int .i64 y]),(1,.rc [.byt d .no])],[]⟩:=by
 have C:=f84 w.man d;obtain⟨E,wf⟩:=w;unfold wdB;simp only[Wd.sv]at*;rw[aj xs0]
 by_cases h:wf<=y
 ·simp only[go_sem,Qe,Qh,Qi,Qj,Qk,reduceCtorEq,reduceIte,h,C,xir]
 ·simp only[go_sem,Qe,Qh,Qi,Qj,Qk,reduceCtorEq,reduceIte,h]
theorem wV{α:Type}(p:α->Bool)(d0:α):∀(L:List α),L.Pairwise (fun a b=>p b=true->p a=true)->∀k,k<L.length->(p (L.getD k d0)=true↔k<(L.takeWhile p).length)
 |[],_,k,h=>by simp at h
 |x::r,hs,k,hk=>by
  obtain⟨C,F⟩:=bV.1 hs;have I:=wV p d0 r F;rw[List.takeWhile_cons]
  by_cases y:p x=true
  ·rw[if_pos y,al]
   cases k with
   |zero=>rw[List.getD_cons_zero];exact⟨fun _=>by omega,fun _=>y⟩
   |succ k=>rw[jg,I k (by rw[al]at hk;omega)];omega
  ·rw[if_neg y]
   simp only[aA,Nat.not_lt_zero,iff_false];cases k with
   |zero=>rw[List.getD_cons_zero];exact y
   |succ k=>rw[jg];intro E;rw[al]at hk;exact y (C _ (by rw[aa,ac (by omega:k<r.length)];exact bv _) E)
theorem UH{α:Type}(p:α->Bool)(L:List α):(L.takeWhile p).length<=L.length:=(List.takeWhile_sublist p).length_le
theorem zN{a b:d9}(h:Lib.compareBytes a b<0):¬Lib.compareBytes b a<0:=fun k=>by have:=pD a b a h k;rw[je]at this;exact absurd this (by decide)
theorem H1{a b c:d9}(h:¬Lib.compareBytes b a<0)(k:Lib.compareBytes b c<0):Lib.compareBytes a c<0:=by
 by_cases e:Lib.compareBytes b a=0
 ·rw[<-(iz b a).1 e];exact k
 ·exact pD a b c (kg h e) k
theorem HZ{a b c:d9}(h:¬Lib.compareBytes b a<0)(k:Lib.compareBytes c a<0):Lib.compareBytes c b<0:=by
 by_cases e:Lib.compareBytes b a=0
 ·rw[(iz b a).1 e];exact k
 ·exact pD c a b k (kg h e)
def td(L:List Man):Prop:=L.Pairwise fun a b=>¬Lib.compareBytes (bX b) (bX a)<0
def lbM(L:List Man)(d:d9):Nat:=(L.takeWhile fun x=>decide (Lib.compareBytes (bX x) d<0)).length
def ubM(L:List Man)(d:d9):Nat:=(L.takeWhile fun x=> !decide (Lib.compareBytes d (bX x)<0)).length
theorem T8(L:List Man)(d:d9):lbM L d<=L.length:=UH _ _
theorem kO(L:List Man)(d:d9):ubM L d<=L.length:=UH _ _
theorem qB{L:List Man}(y:td L)(d:d9)(k:Nat)(C:k<L.length):Lib.compareBytes (bX (L.getD k mnz)) d<0↔k<lbM L d:=by
 have:=wV (fun x=>decide (Lib.compareBytes (bX x) d<0)) mnz L (y.imp fun{a b} h hb=>by rw[decide_eq_true_eq]at hb ⊢;exact H1 h hb) k C
 rw[decide_eq_true_eq]at this;exact this
theorem mc{L:List Man}(y:td L)(d:d9)(k:Nat)(C:k<L.length):¬Lib.compareBytes d (bX (L.getD k mnz))<0↔k<ubM L d:=by
 have:=wV (fun x=> !decide (Lib.compareBytes d (bX x)<0)) mnz L (y.imp fun{a b} h hb=>by simp only[cT,decide_eq_false_iff_not]at hb ⊢;exact fun k=>hb (HZ h k)) k C
 simp only[cT,decide_eq_false_iff_not]at this;exact this
theorem xrg{L:List Man}(y:td L)(d:d9):lbM L d<=ubM L d:=by
 rcases bK (ubM L d) (lbM L d)with h|h
 ·have C:=T8 L d
  have E:=(qB y d (ubM L d) (by omega)).2 h;exact absurd ((mc y d (ubM L d) (by omega)).1 (zN E)) (by omega)
 ·exact h
theorem FL{L:List Man}(C:td L)(d:d9)(k:Nat)(y:k<L.length)(F:lbM L d<=k):bX (L.getD k mnz)=d↔k<ubM L d:=by
 rw[<-mc C d k y];have E:¬Lib.compareBytes (bX (L.getD k mnz)) d<0:=fun h=>by have:=(qB C d k y).1 h;omega
 constructor
 ·rintro rfl;rw[je];decide
 ·intro h
  by_cases e:Lib.compareBytes (bX (L.getD k mnz)) d=0
  ·exact(iz _ _).1 e
  ·exact absurd (kg E e) h
theorem lF{α:Type}(l:List α)(d x:α):x∈l↔∃i,i<l.length/\l.getD i d=x:=by
 constructor
 ·intro h
  obtain⟨i,hi,e⟩:=bp h;exact⟨i,hi,by rw[aa,ac hi];exact e⟩
 ·rintro⟨i,hi,rfl⟩
  rw[aa,ac hi];exact bv _
theorem FM{L:List Man}(C:td L)(m:Man):m∈L↔∃k,lbM L (bX m)<=k/\k<ubM L (bX m)/\L.getD k mnz=m:=by
 have E:=kO L (bX m);constructor
 ·intro h
  obtain⟨k,y,rfl⟩:=(lF L mnz m).1 h;refine⟨k, ?_, ?_,rfl⟩
  ·rcases bK k (lbM L (bX (L.getD k mnz)))with h|h
   ·have:=(qB C _ k y).2 h
    rw[je]at this;exact absurd this (by decide)
   ·exact h
  ·rw[<-mc C _ k y,je];decide
 ·rintro⟨k,F,I,rfl⟩
  exact(lF L mnz _).2 ⟨k,by omega,rfl⟩
def oj(L:List Man)(m:Man):List Man:=L.take (ubM L (bX m))++m::L.drop (ubM L (bX m))
theorem rR(L:List Man)(m:Man):(oj L m).length=L.length+1:=by have:=kO L (bX m);unfold oj;rw[ae,al,aq,aG];omega
theorem yQ(L:List Man)(m x:Man):x∈oj L m↔x=m\/x∈L:=by
 unfold oj;rw[am,av];constructor
 ·rintro(h|h|h)
  ·exact .inr (bC h)
  ·exact .inl h
  ·exact .inr (cB h)
 ·rintro(h|h)
  ·exact .inr (.inl h)
  ·rw[<-dH (ubM L (bX m)) L,am]at h
   rcases h with h|h
   ·exact .inl h
   ·exact .inr (.inr h)
theorem KE{L:List Man}(I:td L)(m:Man):td (oj L m):=by
 have Q:=kO L (bX m);have E:=mc I (bX m)
 have W:∀x∈L.take (ubM L (bX m)),¬Lib.compareBytes (bX m) (bX x)<0:=fun x C=>by obtain⟨k,J,rfl⟩:=bp C;rw[aq]at J;have:=(E k (by omega)).2 (by omega);rw[aa,ac (by omega),aM]at this;rw[List.getElem_take];exact this
 have O:∀x∈L.drop (ubM L (bX m)),Lib.compareBytes (bX m) (bX x)<0:=fun x C=>by
  obtain⟨k,J,rfl⟩:=bp C;rw[aG]at J;rw[List.getElem_drop]
  by_cases h:Lib.compareBytes (bX m) (bX (L[ubM L (bX m)+k]'(by omega)))<0
  ·exact h
  ·have:=(E (ubM L (bX m)+k) (by omega)).1 (by rw[aa,ac (by omega),aM];exact h)
   omega
 have e:L=L.take (ubM L (bX m))++L.drop (ubM L (bX m)):=(dH _ _).symm;unfold td at I;rw[e]at I;obtain⟨Z,T,a3⟩:=dX.1 I;refine dX.2 ⟨Z,bV.2 ⟨fun y F=>zN (O y F),T⟩,fun x C y F=> ?_⟩;rcases av.1 F with rfl|F
 ·exact W x C
 ·exact a3 x C y F
def kH(a b:Wd):Prop:=Lib.compareBytes a.man b.man<0\/a.man=b.man/\a.frm<b.frm
instance (a b:Wd):Decidable (kH a b):=by unfold kH;infer_instance
theorem Lf(a:Wd):¬kH a a:=by
 rintro(h|⟨_,h⟩)
 ·rw[je]at h;exact absurd h (by decide)
 ·omega
theorem xaL{a b c:Wd}(h:kH a b)(k:kH b c):kH a c:=by
 rcases h with h|⟨h1,h2⟩<;>rcases k with k|⟨k1,k2⟩
 ·exact .inl (pD _ _ _ h k)
 ·exact .inl (by rw[<-k1];exact h)
 ·exact .inl (by rw[h1];exact k)
 ·exact .inr ⟨h1.trans k1,by omega⟩
theorem Le{a b:Wd}(h:¬kH a b)(k:¬kH b a):a=b:=by
 unfold kH at h k
 have e:a.man=b.man:=by
  by_cases e:Lib.compareBytes a.man b.man=0
  ·exact(iz _ _).1 e
  ·exact absurd (.inl (kg (fun q=>h (.inl q)) e)) k
 obtain⟨E,y⟩:=a;obtain⟨C,b2⟩:=b;simp only at e h k;subst e
 have:y=b2:=by
  rcases Int.lt_trichotomy y b2 with q|q|q
  ·exact absurd (.inr ⟨rfl,q⟩) h
  ·exact q
  ·exact absurd (.inr ⟨rfl,q⟩) k
 rw[this]
def wd0:Wd:=⟨[],0⟩
def zV(L:List Wd):Prop:=L.Pairwise kH
def lbW(L:List Wd)(w:Wd):Nat:=(L.takeWhile fun x=>decide (kH x w)).length
theorem nq(L:List Wd)(w:Wd):lbW L w<=L.length:=UH _ _
theorem mw{L:List Wd}(y:zV L)(w:Wd)(k:Nat)(C:k<L.length):kH (L.getD k wd0) w↔k<lbW L w:=by
 have:=wV (fun x=>decide (kH x w)) wd0 L (y.imp fun{a b} h hb=>by rw[decide_eq_true_eq]at hb ⊢;exact xaL h hb) k C
 rw[decide_eq_true_eq]at this;exact this
theorem ZC{L:List Wd}(F:zV L)(w:Wd):w∈L↔lbW L w<L.length/\L.getD (lbW L w) wd0=w:=by
 constructor
 ·intro h
  obtain⟨k,C,rfl⟩:=(lF L wd0 w).1 h;have J:¬k<lbW L (L.getD k wd0):=fun h=>Lf _ ((mw F _ k C).2 h)
  have y:lbW L (L.getD k wd0)<L.length:=by omega
  refine⟨y, ?_⟩
  have E:¬kH (L.getD (lbW L (L.getD k wd0)) wd0) (L.getD k wd0):=fun h=>by have:=(mw F _ _ y).1 h;omega
  rcases bK (lbW L (L.getD k wd0)) k with I|I
  ·have:=iS.1 F _ _ y C I
   have O:L.getD (lbW L (L.getD k wd0)) wd0=L[lbW L (L.getD k wd0)]:=by rw[aa,ac y];rfl
   have Q:L.getD k wd0=L[k]:=by rw[aa,ac C];rfl
   rw[<-O,<-Q]at this;exact absurd this E
  ·have:lbW L (L.getD k wd0)=k:=by omega
   rw[this]
 ·rintro⟨J,E⟩
  exact(lF L wd0 w).2 ⟨_,J,E⟩
def um(L:List Wd)(w:Wd):List Wd:=L.take (lbW L w)++w::L.drop (lbW L w)
theorem y5(L:List Wd)(w:Wd):(um L w).length=L.length+1:=by have:=nq L w;unfold um;rw[ae,al,aq,aG];omega
theorem yP(L:List Wd)(w x:Wd):x∈um L w↔x=w\/x∈L:=by
 unfold um;rw[am,av];constructor
 ·rintro(h|h|h)
  ·exact .inr (bC h)
  ·exact .inl h
  ·exact .inr (cB h)
 ·rintro(h|h)
  ·exact .inr (.inl h)
  ·rw[<-dH (lbW L w) L,am]at h
   rcases h with h|h
   ·exact .inl h
   ·exact .inr (.inr h)
theorem KC{L:List Wd}(F:zV L)(w:Wd)(T:w∉L):zV (um L w):=by
 have Z:=nq L w;have E:=mw F w
 have h1:∀x∈L.take (lbW L w),kH x w:=fun x C=>by obtain⟨k,J,rfl⟩:=bp C;rw[aq]at J;have:=(E k (by omega)).2 (by omega);rw[aa,ac (by omega),aM]at this;rw[List.getElem_take];exact this
 have W:∀x∈L.drop (lbW L w),kH w x:=fun x C=>by
  have O:=cB C;obtain⟨k,J,rfl⟩:=bp C;rw[aG]at J;rw[List.getElem_drop]at O ⊢
  by_cases h:kH w (L[lbW L w+k]'(by omega))
  ·exact h
  ·by_cases Q:kH (L[lbW L w+k]'(by omega)) w
   ·have:=(E (lbW L w+k) (by omega)).1 (by rw[aa,ac (by omega),aM];exact Q)
    omega
   ·rw[Le h Q]at T
    exact absurd O T
 have e:L=L.take (lbW L w)++L.drop (lbW L w):=(dH _ _).symm;unfold zV at F;rw[e]at F;obtain⟨a1,a2,a3⟩:=dX.1 F;refine dX.2 ⟨a1,bV.2 ⟨W,a2⟩,fun x C y I=> ?_⟩;rcases av.1 I with rfl|I
 ·exact h1 x C
 ·exact a3 x C y I
structure Cat where
 t:Tr
 ms:List Man
 ws:List Wd
def fp(l:List Wd):d8:=l.map Wd.sv
def dn(l:List Man):d8:=l.map Man.sv
theorem cP(l:List Man):(dn l).length=l.length:=aY ..
theorem eO(l:List Man)(i:Nat)(h:i<l.length):(dn l).getD i []=(l.getD i mnz).sv:=by simp[dn,aa,h]
theorem dY(l:List Wd):(fp l).length=l.length:=aY ..
theorem gA(l:List Wd)(i:Nat)(h:i<l.length):(fp l).getD i []=(l.getD i wd0).sv:=by simp[fp,aa,h]
theorem Kn(l:List Man)(k:Nat)(m:Man):kM (dn l) k m.sv=dn (l.take k++m::l.drop k):=by simp[kM,dn,ic,tH]
theorem Ji(l:List Wd)(k:Nat)(w:Wd):kM (fp l) k w.sv=fp (l.take k++w::l.drop k):=by simp[kM,fp,ic,tH]
def Cat.sv(c:Cat):t8:=[.lst 2 (mM c.t.au) .no,.int .i64 c.t.thr,.lst 7 (dn c.ms) .no,.lst 2 (fp c.ws) .no]
def pG:Cat:=⟨⟨[],0⟩,[],[]⟩
structure im(c:Cat):Prop where
 sm:td c.ms
 sw:zV c.ws
 m:∀x∈c.ms,dx x/\fq x=0
 w:∀x∈c.ws,nV x
 n:c.ms.length+c.ws.length<=16
open Classical in
noncomputable def ow(c:Cat)(m:Man):Cat×Int:=if m∈c.ms then(c,0)else if 16<=c.ms.length+c.ws.length then(pG,25)else(⟨c.t,oj c.ms m,c.ws⟩,0)
open Classical in
noncomputable def oZ(c:Cat)(w:Wd):Cat×Int:=if w∈c.ws then(c,0)else if 16<=c.ms.length+c.ws.length then(pG,25)else(⟨c.t,c.ms,um c.ws w⟩,0)
theorem xaD{c:Cat}(h:im c){m:Man}(F:dx m)(J:fq m=0)(y:(ow c m).2=0):im (ow c m).1:=by
 unfold ow at y ⊢;split at y
 ·rename_i E;rw[if_pos E];exact h
 ·rename_i E
  rw[if_neg E];split at y
  ·exact absurd y (by decide)
  ·rename_i I
   rw[if_neg I]
   exact⟨KE h.sm m,h.sw,fun x C=>by
    rcases (yQ _ _ _).1 C with rfl|C
    ·exact⟨F,J⟩
    ·exact h.m x C,h.w,by show(oj c.ms m).length+c.ws.length<=16;rw[rR];omega⟩
theorem xaC{c:Cat}(h:im c){w:Wd}(F:nV w)(y:(oZ c w).2=0):im (oZ c w).1:=by
 unfold oZ at y ⊢;split at y
 ·rename_i C;rw[if_pos C];exact h
 ·rename_i C
  rw[if_neg C];split at y
  ·exact absurd y (by decide)
  ·rename_i I
   rw[if_neg I]
   exact⟨h.sm,KC h.sw w C,h.m,fun x E=>by
    rcases (yP _ _ _).1 E with rfl|E
    ·exact F
    ·exact h.w x E,by show c.ms.length+(um c.ws w).length<=16;rw[y5];omega⟩
def Lv(L:List Man)(d:d9)(i j:Nat):CSt:=
 ⟨[(0,.lst 7 (dn L) .no),(1,.byt d .no),(2,.fn 82 [] []),(8,.int .i64 L.length),(9,.int .i64 i),(10,.int .i64 j)],[],[]⟩
theorem l81(L:List Man)(Q:∀x∈L,dx x)(d:d9)(hs:td L)(hn:L.length<=1000000000):∀(m i j:Nat),j-i<=m->i<=lbM L d->lbM L d<=j->j<=L.length->
 run T (.loop UT) (Lv L d i j)=some (.x 0,⟨[(0,.lst 7 (dn L) .no),(1,.byt d .no),(2,.fn 82 [] []),(8,.int .i64 L.length),(9,.int .i64 (lbM L d))],[],[]⟩):=by
 intro m;induction m with
 |zero=>
  intro i j h0 h1 h2 W;have y:j=i:=by omega
  have C:lbM L d=i:=by omega
  subst y;rw[C,Lv,ai];simp only[go_sem,Qh,Qj,Qk,reduceCtorEq,reduceIte]
 |succ m ih=>
  intro i j h0 h1 h2 W
  by_cases y:i<j
  ·have hv:=cP L
   have e1:af.wrap ((i:Int)+(j:Int))=((i+j:Nat):Int):=wZ (by omega)
   have e2:aQ.wrap ((i+j:Nat):Int)=((i+j:Nat):Int):=by rw[bO];omega
   have e3:Int.fdiv ((i+j:Nat):Int) (2^min 1 64)=(((i+j)/2:Nat):Int):=by rw[show min 1 64=1 from rfl,jc _ (by decide)];rfl
   have Z:af.wrap (((i+j)/2:Nat):Int)=(((i+j)/2:Nat):Int):=w64 (by omega) (by omega);have e5:aQ.wrap (((i+j)/2:Nat):Int)=(((i+j)/2:Nat):Int):=by rw[bO];omega
   have e6:af.wrap ((((i+j)/2:Nat):Int)+1)=(((i+j)/2+1:Nat):Int):=cg _ (by omega);have F:(i+j)/2<L.length:=by omega
   have O:=eO L ((i+j)/2) F;have E:=qB hs d ((i+j)/2) F;have g:=f82 (L.getD ((i+j)/2) mnz) (Q _ (bS L mnz _ F)) d;have ha:i<=(i+j)/2:=by omega
   have Q:(i+j)/2<j:=by omega
   generalize (i+j)/2=k at*;generalize L.getD k mnz=x at*;simp only[Man.sv]at O g
   by_cases I:Lib.compareBytes (bX x) d<0
   ·have h:=ih (k+1) j (by omega) (by have:=E.1 I;omega) h2 W
    rw[Lv]at h ⊢;rw[ai];simp only[go_sem,Q2,Q3,Qe,Qh,Qj,Qk,reduceCtorEq,reduceIte,y,e1,e2,e3,Z,hv,F,O,g,xis,I,e6,h]
   ·have h:=ih i k (by omega) h1 (by have:=mt E.2 I;omega) (by omega)
    rw[Lv]at h ⊢;rw[ai];simp only[go_sem,Q2,Q3,Qe,Qh,Qj,Qk,reduceCtorEq,reduceIte,y,e1,e2,e3,Z,hv,F,O,g,xis,I,h]
  ·have J:j=i:=by omega
   have C:lbM L d=i:=by omega
   subst J;rw[C,Lv,ai];simp only[go_sem,Qh,Qj,Qk,reduceCtorEq,reduceIte]
theorem f81(L:List Man)(F:∀x∈L,dx x)(d:d9)(J:td L)(hn:L.length<=1000000000):
 ∃b:Bool,call T 81 [.lst 7 (dn L) .no,.byt d .no,.fn 82 [] []] [] 0=some ⟨.tup [.int .i64 (lbM L d),.bool b],[],[]⟩:=by
 have y:=l81 L F d J hn _ 0 L.length (aJ _) (aX _) (T8 L d) (aJ _);rw[Lv,ay]at y;have C:=cP L;rw[aj xyz]
 by_cases h:lbM L d<L.length
 ·have E:=eO L _ h
  have g:=f82 (L.getD (lbM L d) mnz) (F _ (bS L mnz _ h)) d;generalize lbM L d=q at*;generalize L.getD q mnz=x at*;simp only[Man.sv]at E g
  by_cases I:Lib.compareBytes (bX x) d=0
  ·exact⟨true,by simp only[go_sem,Qe,Qh,Qi,Qj,Qk,reduceCtorEq,reduceIte,C,y,h,E,g,xis,I]⟩
  ·exact⟨false,by simp only[go_sem,Qe,Qh,Qi,Qj,Qk,reduceCtorEq,reduceIte,C,y,h,E,g,xis,I]⟩
 ·generalize lbM L d=q at*
  exact⟨false,by simp only[go_sem,Qe,Qh,Qi,Qj,Qk,reduceCtorEq,reduceIte,C,y,h]⟩
theorem Zo(x y:Wd):Fx x y<0↔kH x y:=by
 unfold Fx or2 kH qX;have C:=iz x.man y.man
 by_cases h:Lib.compareBytes x.man y.man=0
 ·rw[if_neg (by simpa using h)]
  rw[h];have e:=C.1 h;constructor
  ·intro k;right;refine⟨e, ?_⟩
   split at k
   ·assumption
   ·split at k<;>omega
  ·rintro(k|⟨_,k⟩)
   ·omega
   ·rw[if_pos k];decide
 ·rw[if_pos h]
  constructor
  ·exact .inl
  ·rintro(k|⟨k,_⟩)
   ·exact k
   ·exact absurd (C.2 k) h
theorem Zp(x y:Wd):Fx x y=0↔x=y:=by
 unfold Fx or2 qX;have C:=iz x.man y.man;obtain⟨E,I⟩:=x;obtain⟨F,J⟩:=y;simp only[Wd.mk.injEq]at*
 by_cases h:Lib.compareBytes E F=0
 ·rw[if_neg (by simpa using h),C.1 h]
  constructor
  ·intro k;refine⟨rfl, ?_⟩
   split at k
   ·omega
   ·split at k<;>omega
  ·rintro⟨_,rfl⟩
   rw[if_neg (by omega),if_neg (by omega)]
 ·rw[if_pos h]
  constructor
  ·intro k;exact absurd k h
  ·rintro⟨k,_⟩;exact absurd (C.2 k) h
def Lu(L:List Wd)(w:Wd)(i j:Nat):CSt:=
 ⟨[(0,.lst 2 (fp L) .no),(2,.fn 89 [] []),(4,.ptr 104 0),(8,.int .i64 L.length),(9,.int .i64 i),(10,.int .i64 j)],[(104,.rc w.sv)],[]⟩
theorem l88(L:List Wd)(w:Wd)(hs:zV L)(hn:L.length<=1000000000):∀(m i j:Nat),j-i<=m->i<=lbW L w->lbW L w<=j->j<=L.length->
 run T (.loop UR) (Lu L w i j)=some (.x 0,⟨[(0,.lst 2 (fp L) .no),(2,.fn 89 [] []),(4,.ptr 104 0),(8,.int .i64 L.length),(9,.int .i64 (lbW L w))],[(104,.rc w.sv)],[]⟩):=by
 intro m;induction m with
 |zero=>
  intro i j h0 h1 h2 O;have y:j=i:=by omega
  have C:lbW L w=i:=by omega
  subst y;rw[C,Lu,ai];simp only[go_sem,Qh,Qj,Qk,reduceCtorEq,reduceIte]
 |succ m ih=>
  intro i j h0 h1 h2 O
  by_cases y:i<j
  ·have W:=dY L
   have e1:af.wrap ((i:Int)+(j:Int))=((i+j:Nat):Int):=wZ (by omega)
   have e2:aQ.wrap ((i+j:Nat):Int)=((i+j:Nat):Int):=by rw[bO];omega
   have Z:Int.fdiv ((i+j:Nat):Int) (2^min 1 64)=(((i+j)/2:Nat):Int):=by rw[show min 1 64=1 from rfl,jc _ (by decide)];rfl
   have Q:af.wrap (((i+j)/2:Nat):Int)=(((i+j)/2:Nat):Int):=w64 (by omega) (by omega);have e5:aQ.wrap (((i+j)/2:Nat):Int)=(((i+j)/2:Nat):Int):=by rw[bO];omega
   have e6:af.wrap ((((i+j)/2:Nat):Int)+1)=(((i+j)/2+1:Nat):Int):=cg _ (by omega);have I:(i+j)/2<L.length:=by omega
   have hg:=gA L ((i+j)/2) I;have E:=mw hs w ((i+j)/2) I;have g:=f89 (L.getD ((i+j)/2) wd0) w;have ho:=Zo (L.getD ((i+j)/2) wd0) w;have ha:i<=(i+j)/2:=by omega
   have hb:(i+j)/2<j:=by omega
   generalize (i+j)/2=k at*;generalize L.getD k wd0=x at*
   by_cases F:Fx x w<0
   ·have h:=ih (k+1) j (by omega) (by have:=E.1 (ho.1 F);omega) h2 O
    rw[Lu]at h ⊢;rw[ai];obtain⟨wm,wf⟩:=w;simp only[Wd.sv]at*;simp only[go_sem,Q2,Q3,Qb,Qc,Qd,Qe,Qh,Qj,Qk,reduceCtorEq,reduceIte,y,e1,e2,Z,Q,W,I,hg,g,xip,F,e6,h]
   ·have h:=ih i k (by omega) h1 (by have:=mt E.2 (mt ho.2 F);omega) (by omega)
    rw[Lu]at h ⊢;rw[ai];obtain⟨wm,wf⟩:=w;simp only[Wd.sv]at*;simp only[go_sem,Q2,Q3,Qb,Qc,Qd,Qe,Qh,Qj,Qk,reduceCtorEq,reduceIte,y,e1,e2,Z,Q,W,I,hg,g,xip,F,h]
  ·have J:j=i:=by omega
   have C:lbW L w=i:=by omega
   subst J;rw[C,Lu,ai];simp only[go_sem,Qh,Qj,Qk,reduceCtorEq,reduceIte]
def zf(L:List Wd)(w:Wd):Bool:=decide (lbW L w<L.length/\L.getD (lbW L w) wd0=w)
theorem f88(L:List Wd)(w:Wd)(Q:zV L)(hn:L.length<=1000000000):
 call T 88 [.lst 2 (fp L) .no,.agg w.sv,.fn 89 [] []] [] 0=some ⟨.tup [.int .i64 (lbW L w),.bool (zf L w)],[],[]⟩:=by
 have C:=l88 L w Q hn _ 0 L.length (aJ _) (aX _) (nq L w) (aJ _);rw[Lu,ay]at C;have F:=dY L;rw[aj xyt];unfold zf
 by_cases y:lbW L w<L.length
 ·have O:=gA L _ y
  have g:=f89 (L.getD (lbW L w) wd0) w;have J:=Zp (L.getD (lbW L w) wd0) w
  by_cases E:Fx (L.getD (lbW L w) wd0) w=0
  ·rw[decide_eq_true ⟨y,J.1 E⟩]
   generalize lbW L w=q at*;generalize L.getD q wd0=x at*;obtain⟨I,wf⟩:=w;simp only[Wd.sv]at*;simp only[go_sem,Qb,Qc,Qd,Qe,Qh,Qi,Qj,Qk,reduceCtorEq,reduceIte,F,C,y,O,g,xip,E]
  ·rw[decide_eq_false (fun h=>E (J.2 h.2))]
   generalize lbW L w=q at*;generalize L.getD q wd0=x at*;obtain⟨I,wf⟩:=w;simp only[Wd.sv]at*;simp only[go_sem,Qb,Qc,Qd,Qe,Qh,Qi,Qj,Qk,reduceCtorEq,reduceIte,F,C,y,O,g,xip,E]
 ·rw[decide_eq_false (fun h=>y h.1)]
  generalize lbW L w=q at*;obtain⟨I,wf⟩:=w;simp only[Wd.sv]at*;simp only[go_sem,Qb,Qc,Qd,Qe,Qh,Qi,Qj,Qk,reduceCtorEq,reduceIte,F,C,y]
def mS(v:d9)(h y a3 a4:Int)(es:List Ent)(rs:List Rul):aH:= .rc [.str v,.int .i64 h,.int .i64 y,.int .i64 a3,.int .i64 a4,.lst 4 (df es) .no,.lst 4 (dS rs) .no]
theorem eY{α:Type}(l:List α)(d:α)(i:Nat)(h:i<l.length):l.drop i=l.getD i d::l.drop (i+1):=by rw[bt h,aa,ac h];rfl
theorem xwL(
 v:d9)(I F a3 a4:Int)(es C:List Ent)(rs O:List Rul)(hl:es.length=C.length)(hn:es.length<=1000000)(hd:∀x∈es,x.dig.length<=1000000):∀(k i:Nat),es.length-i=k->i<=es.length->
 (es.drop i=C.drop i->run T (.loop Iq) ⟨[(2,.ptr 102 0),(3,.ptr 103 0),(5,.int .i64 i)],[(102,mS v I F a3 a4 es rs),(103,mS v I F a3 a4 C O)],[]⟩=some (.x 0,⟨[(2,.ptr 102 0),(3,.ptr 103 0)],[(102,mS v I F a3 a4 es rs),(103,mS v I F a3 a4 C O)],[]⟩))/\
 (¬es.drop i=C.drop i->∃ob,run T (.loop Iq) ⟨[(2,.ptr 102 0),(3,.ptr 103 0),(5,.int .i64 i)],[(102,mS v I F a3 a4 es rs),(103,mS v I F a3 a4 C O)],[]⟩=some (.r,⟨[(4,.bool false)],ob,[]⟩)):=by
 intro k;induction k with
 |zero=>
  intro i h1 h2;have J:¬i<es.length:=by omega
  have e1:es.drop i=[]:=bN (by omega);have e2:C.drop i=[]:=bN (by omega);have L:=dk es;refine⟨fun _=> ?_,fun h=>absurd (e1.trans e2.symm) h⟩;rw[ai];simp only[mS,go_sem,Qe,Qh,Qi,Qj,Qk,reduceIte,L,J]
 |succ k ih=>
  intro i h1 h2;have J:i<es.length:=by omega
  have E:i<C.length:=by omega
  have L:=dk es;have W:=dk C;have hg:=fU es i J;have Z:=fU C i E;have dE:=eY es en0 i J;have dF:=eY C en0 i E;have a7:=ih (i+1) (by omega) (by omega);have e1:=cg i (by omega);have a6:=hd _ (bS es en0 i J);rw[dE,dF];generalize es.drop (i+1)=R at*;generalize C.drop (i+1)=S at*;generalize es.getD i en0=x at*;generalize C.getD i en0=y at*;obtain⟨r1,n1,v1,Q⟩:=x;obtain⟨r2,n2,v2,d2⟩:=y;have g:=f31 Q d2 (by simp only at a6;omega);clear a6 dE dF hd ih;simp only[mS,Ent.sv]at*
  by_cases q1:r1=r2
  ·subst q1
   by_cases q2:n1=n2
   ·subst q2
    by_cases q3:v1=v2
    ·subst q3
     by_cases q4:Q=d2
     ·subst q4
      rw[decide_eq_true rfl]at g;refine⟨fun h=> ?_,fun h=> ?_⟩
      ·have q:=a7.1 (mP.inj h).2
       rw[ai];simp only[go_sem,Qb,Qc,Qd,Qe,Qh,Qi,Qj,Qk,reduceCtorEq,reduceIte,J,E,L,W,hg,Z,e1,g,tj,q]
      ·obtain⟨ob,q⟩:=a7.2 (fun h'=>h (by rw[h']))
       refine⟨ob, ?_⟩;rw[ai];simp only[go_sem,Qb,Qc,Qd,Qe,Qh,Qi,Qj,Qk,reduceCtorEq,reduceIte,J,E,L,W,hg,Z,e1,g,tj,q]
     ·rw[decide_eq_false q4]at g
      refine⟨fun h=>absurd h (by simp[q4]),fun _=>⟨[(102,.rc [.str v,.int .i64 I,.int .i64 F,.int .i64 a3,.int .i64 a4,.lst 4 (df es) .no,.lst 4 (dS rs) .no]),(103,.rc [.str v,.int .i64 I,.int .i64 F,.int .i64 a3,.int .i64 a4,.lst 4 (df C) .no,.lst 4 (dS O) .no]),(106,.rc [.int .i64 r1,.str n1,.int .i64 v1,.byt Q .no]),(107,.rc [.int .i64 r1,.str n1,.int .i64 v1,.byt d2 .no])], ?_⟩⟩;rw[ai];simp only[go_sem,Qb,Qc,Qd,Qe,Qh,Qi,Qj,Qk,reduceCtorEq,reduceIte,J,E,L,W,hg,Z,g,tj]
    ·refine⟨fun h=>absurd h (by simp[q3]),fun _=>⟨[(102,.rc [.str v,.int .i64 I,.int .i64 F,.int .i64 a3,.int .i64 a4,.lst 4 (df es) .no,.lst 4 (dS rs) .no]),(103,.rc [.str v,.int .i64 I,.int .i64 F,.int .i64 a3,.int .i64 a4,.lst 4 (df C) .no,.lst 4 (dS O) .no]),(106,.rc [.int .i64 r1,.str n1,.int .i64 v1,.byt Q .no]),(107,.rc [.int .i64 r1,.str n1,.int .i64 v2,.byt d2 .no])], ?_⟩⟩
     rw[ai];simp only[go_sem,Qb,Qc,Qd,Qe,Qh,Qi,Qj,Qk,reduceCtorEq,reduceIte,J,E,L,W,hg,Z,q3]
   ·refine⟨fun h=>absurd h (by simp[q2]),fun _=>⟨[(102,.rc [.str v,.int .i64 I,.int .i64 F,.int .i64 a3,.int .i64 a4,.lst 4 (df es) .no,.lst 4 (dS rs) .no]),(103,.rc [.str v,.int .i64 I,.int .i64 F,.int .i64 a3,.int .i64 a4,.lst 4 (df C) .no,.lst 4 (dS O) .no]),(106,.rc [.int .i64 r1,.str n1,.int .i64 v1,.byt Q .no]),(107,.rc [.int .i64 r1,.str n2,.int .i64 v2,.byt d2 .no])], ?_⟩⟩
    rw[ai];simp only[go_sem,Qb,Qc,Qd,Qe,Qh,Qi,Qj,Qk,reduceCtorEq,reduceIte,J,E,L,W,hg,Z,q2]
  ·refine⟨fun h=>absurd h (by simp[q1]),fun _=>⟨[(102,.rc [.str v,.int .i64 I,.int .i64 F,.int .i64 a3,.int .i64 a4,.lst 4 (df es) .no,.lst 4 (dS rs) .no]),(103,.rc [.str v,.int .i64 I,.int .i64 F,.int .i64 a3,.int .i64 a4,.lst 4 (df C) .no,.lst 4 (dS O) .no]),(106,.rc [.int .i64 r1,.str n1,.int .i64 v1,.byt Q .no]),(107,.rc [.int .i64 r2,.str n2,.int .i64 v2,.byt d2 .no])], ?_⟩⟩
   rw[ai];simp only[go_sem,Qb,Qc,Qd,Qe,Qh,Qi,Qj,Qk,reduceCtorEq,reduceIte,J,E,L,W,hg,Z,q1]
theorem xwK(
 v:d9)(L I a3 a4:Int)(es fs:List Ent)(rs E:List Rul)(hl:rs.length=E.length)(hn:rs.length<=1000000):∀(k i:Nat),rs.length-i=k->i<=rs.length->
 (rs.drop i=E.drop i->run T (.loop xb) ⟨[(2,.ptr 102 0),(3,.ptr 103 0),(8,.int .i64 i)],[(102,mS v L I a3 a4 es rs),(103,mS v L I a3 a4 fs E)],[]⟩=some (.x 2,⟨[],[(102,mS v L I a3 a4 es rs),(103,mS v L I a3 a4 fs E)],[]⟩))/\
 (¬rs.drop i=E.drop i->run T (.loop xb) ⟨[(2,.ptr 102 0),(3,.ptr 103 0),(8,.int .i64 i)],[(102,mS v L I a3 a4 es rs),(103,mS v L I a3 a4 fs E)],[]⟩=some (.r,⟨[(4,.bool false)],[(102,mS v L I a3 a4 es rs),(103,mS v L I a3 a4 fs E)],[]⟩)):=by
 intro k;induction k with
 |zero=>
  intro i h1 h2;have F:¬i<rs.length:=by omega
  have e1:rs.drop i=[]:=bN (by omega);have e2:E.drop i=[]:=bN (by omega);have J:=dP rs;refine⟨fun _=> ?_,fun h=>absurd (e1.trans e2.symm) h⟩;rw[ai];simp only[mS,go_sem,Qe,Qh,Qj,Qk,reduceIte,J,F]
 |succ k ih=>
  intro i h1 h2;have F:i<rs.length:=by omega
  have C:i<E.length:=by omega
  have J:=dP rs;have O:=dP E;have W:=jY rs i F;have Q:=jY E i C;have dE:=eY rs rl0 i F;have dF:=eY E rl0 i C;have Z:=ih (i+1) (by omega) (by omega);have e1:=cg i (by omega);rw[dE,dF];generalize rs.drop (i+1)=R at*;generalize E.drop (i+1)=S at*;generalize rs.getD i rl0=x at*;generalize E.getD i rl0=y at*;obtain⟨r1,n1,v1,d1⟩:=x;obtain⟨r2,n2,v2,d2⟩:=y;clear dE dF ih;simp only[mS,Rul.sv]at*
  by_cases q1:r1=r2
  ·subst q1
   by_cases q2:n1=n2
   ·subst q2
    by_cases q3:v1=v2
    ·subst q3
     by_cases q4:d1=d2
     ·subst q4
      refine⟨fun h=> ?_,fun h=> ?_⟩
      ·have q:=Z.1 (mP.inj h).2
       rw[ai];simp only[go_sem,Qe,Qh,Qj,Qk,reduceIte,F,C,J,O,W,Q,e1,q]
      ·have q:=Z.2 (fun h'=>h (by rw[h']))
       rw[ai];simp only[go_sem,Qe,Qh,Qj,Qk,reduceIte,F,C,J,O,W,Q,e1,q]
     ·refine⟨fun h=>absurd h (by simp[q4]),fun _=> ?_⟩
      rw[ai];simp only[go_sem,Qe,Qh,Qj,Qk,reduceIte,F,C,J,O,W,Q,q4]
    ·refine⟨fun h=>absurd h (by simp[q3]),fun _=> ?_⟩
     rw[ai];simp only[go_sem,Qe,Qh,Qj,Qk,reduceIte,F,C,J,O,W,Q,q3]
   ·refine⟨fun h=>absurd h (by simp[q2]),fun _=> ?_⟩
    rw[ai];simp only[go_sem,Qe,Qh,Qj,Qk,reduceIte,F,C,J,O,W,Q,q2]
  ·refine⟨fun h=>absurd h (by simp[q1]),fun _=> ?_⟩
   rw[ai];simp only[go_sem,Qe,Qh,Qj,Qk,reduceIte,F,C,J,O,W,Q,q1]
noncomputable def eqM(m n:Man):Bool:= @decide (m=n) (Classical.propDecidable _)
theorem VF{m n:Man}(h:m=n):eqM m n=true:=by unfold eqM;exact @decide_eq_true _ (Classical.propDecidable _) h
theorem nN{m n:Man}(h:¬m=n):eqM m n=false:=by unfold eqM;exact @decide_eq_false _ (Classical.propDecidable _) h
theorem f56(m n:Man)(Z:dx m):call T 56 [.agg m.sv,.agg n.sv] [] 0=some ⟨.bool (eqM m n),[],[]⟩:=by
 have a8:=Z.en;have a7:=Z.rn;have a6:∀x∈m.ents,x.dig.length<=1000000:=fun x hx=>(Z.e x hx).2
 have L:=dk m.ents;have O:=dk n.ents;have E:=dP m.ruls;have C:=dP n.ruls;clear Z;obtain⟨v,a1,a2,a3,a4,es,rs⟩:=m;obtain⟨w,b1,b2,b3,b4,J,I⟩:=n;rw[aj xyS];simp only[Man.sv]at*
 by_cases q1:v=w
 ·subst q1
  by_cases q2:a1=b1
  ·subst q2
   by_cases q3:a2=b2
   ·subst q3
    by_cases q4:a3=b3
    ·subst q4
     by_cases q5:a4=b4
     ·subst q5
      by_cases q6:es.length=J.length
      ·have y:(es.length:Int)=J.length:=by omega
       by_cases q7:rs.length=I.length
       ·have F:(rs.length:Int)=I.length:=by omega
        have h1:=xwL v a1 a2 a3 a4 es J rs I q6 a8 a6 _ 0 rfl (aX _);have h2:=xwK v a1 a2 a3 a4 es J rs I q7 a7 _ 0 rfl (aX _);simp only[ay,aW,mS]at h1 h2
        by_cases W:es=J
        ·have k1:=h1.1 W
         by_cases Q:rs=I
         ·have k2:=h2.1 Q
          rw[VF (by rw[W,Q])];simp only[go_sem,Qe,Qh,Qi,Qj,Qk,reduceCtorEq,reduceIte,L,O,E,C,y,F,k1,k2]
         ·have k2:=h2.2 Q
          rw[nN (fun h=>Q (Man.mk.inj h).2.2.2.2.2.2)];simp only[go_sem,Qe,Qh,Qi,Qj,Qk,reduceCtorEq,reduceIte,L,O,E,C,y,F,k1,k2]
        ·obtain⟨ob,k1⟩:=h1.2 W
         rw[nN (fun h=>W (Man.mk.inj h).2.2.2.2.2.1)];simp only[go_sem,Qe,Qh,Qi,Qj,Qk,reduceCtorEq,reduceIte,L,O,E,C,y,F,k1]
       ·have F:¬(rs.length:Int)=I.length:=by omega
        rw[nN (fun h=>q7 (by rw[(Man.mk.inj h).2.2.2.2.2.2]))];simp only[go_sem,Qe,Qh,Qi,Qj,Qk,reduceCtorEq,reduceIte,L,O,E,C,y,F]
      ·have y:¬(es.length:Int)=J.length:=by omega
       rw[nN (fun h=>q6 (by rw[(Man.mk.inj h).2.2.2.2.2.1]))];simp only[go_sem,Qe,Qh,Qi,Qj,Qk,reduceCtorEq,reduceIte,L,O,E,C,y]
     ·rw[nN (fun h=>q5 (Man.mk.inj h).2.2.2.2.1)]
      simp only[go_sem,Qe,Qh,Qi,Qj,Qk,reduceCtorEq,reduceIte,q5]
    ·rw[nN (fun h=>q4 (Man.mk.inj h).2.2.2.1)]
     simp only[go_sem,Qe,Qh,Qi,Qj,Qk,reduceCtorEq,reduceIte,q4]
   ·rw[nN (fun h=>q3 (Man.mk.inj h).2.2.1)]
    simp only[go_sem,Qe,Qh,Qi,Qj,Qk,reduceCtorEq,reduceIte,q3]
  ·rw[nN (fun h=>q2 (Man.mk.inj h).2.1)]
   simp only[go_sem,Qe,Qh,Qi,Qj,Qk,reduceCtorEq,reduceIte,q2]
 ·rw[nN (fun h=>q1 (Man.mk.inj h).1)]
  simp only[go_sem,Qe,Qh,Qi,Qj,Qk,reduceCtorEq,reduceIte,q1]
def wdL(h:Int)(d:d9)(W:List Wd):Bool:=W.any (wdB h d)
theorem xw4(W:List Wd)(h:Int)(d:d9)(hn:W.length<=1000000):∀(n i:Nat),W.length-i=n->i<=W.length->
 if(W.drop i).any (wdB h d)then ∃k:Nat,run T (.loop xu) ⟨[(0,.lst 2 (fp W) .no),(1,.fn 100 [] [.ptr 0 0,.ptr 1 0]),(7,.int .i64 W.length),(8,.int .i64 i)],[(0,.rc [.int .i64 h]),(1,.rc [.byt d .no])],[]⟩=some (.r,⟨[(4,.int .i64 k)],[(0,.rc [.int .i64 h]),(1,.rc [.byt d .no])],[]⟩)
 else run T (.loop xu) ⟨[(0,.lst 2 (fp W) .no),(1,.fn 100 [] [.ptr 0 0,.ptr 1 0]),(7,.int .i64 W.length),(8,.int .i64 i)],[(0,.rc [.int .i64 h]),(1,.rc [.byt d .no])],[]⟩=some (.x 0,⟨[],[(0,.rc [.int .i64 h]),(1,.rc [.byt d .no])],[]⟩):=by
 intro n;have I:=dY W;induction n with
 |zero=>
  intro i Q h1;have hi:i=W.length:=by omega
  subst hi;rw[bw,List.any_nil,if_neg (by decide),ai];simp only[go_sem,Qh,Qj,Qk,reduceCtorEq,reduceIte]
 |succ n ih=>
  intro i Q h1;have C:i<W.length:=by omega
  have L:=cg i (by omega);have J:=gA W i C;have g:=xx7 (W.getD i wd0) h d;have y:=ih (i+1) (by omega) (by omega);rw[eY W wd0 i C,List.any_cons];generalize (W.drop (i+1)).any (wdB h d)=Z at*;generalize W.getD i wd0=w at*
  by_cases F:wdB h d w=true
  ·rw[F,Bool.true_or,if_pos rfl]
   refine⟨i, ?_⟩;obtain⟨O,wf⟩:=w;simp only[Wd.sv]at*;rw[F]at g;rw[ai];simp only[go_sem,Qe,Qg,Qh,Qi,Qj,Qk,reduceCtorEq,reduceIte,C,I,J,g,X5]
  ·have E:wdB h d w=false:=by simpa using F
   rw[E,jC];obtain⟨O,wf⟩:=w;simp only[Wd.sv]at*;rw[E]at g
   by_cases hz:Z=true
   ·rw[if_pos hz]at y ⊢
    obtain⟨k,y⟩:=y;refine⟨k, ?_⟩;rw[ai];simp only[go_sem,Qe,Qg,Qh,Qi,Qj,Qk,reduceCtorEq,reduceIte,C,I,J,g,X5,L,y]
   ·rw[if_neg hz]at y ⊢
    rw[ai];simp only[go_sem,Qe,Qg,Qh,Qi,Qj,Qk,reduceCtorEq,reduceIte,C,I,J,g,X5,L,y]
theorem xxS(W:List Wd)(y:Int)(d:d9)(hn:W.length<=1000000):∃k:Int,(0<=k↔wdL y d W=true)/\
 call T 140 [.lst 2 (fp W) .no,.fn 100 [] [.ptr 0 0,.ptr 1 0]] [.rc [.int .i64 y],.rc [.byt d .no]] 0=some ⟨.int .i64 k,[(0,.rc [.int .i64 y]),(1,.rc [.byt d .no])],[]⟩:=by
 have E:=dY W;have C:=xw4 W y d hn _ 0 rfl (aX _);rw[aW,ay]at C;unfold wdL;rw[aj xsy]
 by_cases hz:W.any (wdB y d)=true
 ·rw[if_pos hz]at C
  obtain⟨k,C⟩:=C;exact⟨k,⟨fun _=>hz,fun _=>by omega⟩,by simp only[go_sem,Q7,Qe,Qh,Qi,Qj,Qk,reduceCtorEq,reduceIte,E,C]⟩
 ·rw[if_neg hz]at C
  exact⟨-1,⟨fun h=>absurd h (by decide),fun h=>absurd h hz⟩,by simp only[go_sem,Q7,Qe,Qh,Qi,Qj,Qk,reduceCtorEq,reduceIte,E,C]⟩
theorem f99(W:List Wd)(y:Int)(d:d9)(hn:W.length<=1000000):
 call T 99 [.lst 2 (fp W) .no,.fn 100 [] [.ptr 0 0,.ptr 1 0]] [.rc [.int .i64 y],.rc [.byt d .no]] 0=some ⟨.bool (wdL y d W),[(0,.rc [.int .i64 y]),(1,.rc [.byt d .no])],[]⟩:=by
 obtain⟨k,C,g⟩:=xxS W y d hn;rw[aj xyj]
 by_cases h:0<=k
 ·rw[C.1 h]
  simp only[go_sem,Qe,Qg,Qh,Qi,Qj,Qk,reduceCtorEq,reduceIte,g,xiS,h]
 ·have E:wdL y d W=false:=by
   have:=mt C.2 h;simpa using this
  rw[E];simp only[go_sem,Qe,Qg,Qh,Qi,Qj,Qk,reduceCtorEq,reduceIte,g,xiS,h]
theorem f57(c:Cat)(C:c.ws.length<=1000000)(m:Man)(y:dx m)(h:Int):call T 57 [.agg c.sv,.agg m.sv,.int .i64 h] [] 0=some ⟨.bool (wdL h (bX m) c.ws),[],[]⟩:=by have g0:=f32 m y;have E:=f99 c.ws h (bX m) C;generalize bX m=D at*;obtain⟨L,O,m2,m3,m4,J,F⟩:=m;obtain⟨⟨au,I⟩,ms,ws⟩:=c;simp only[Man.sv,Cat.sv]at*;rw[aj xyR];simp only[go_sem,Qe,Qg,Qh,Qi,Qj,Qk,reduceCtorEq,reduceIte,g0,zY,E,xzm]
theorem l55(L:List Wd)(w:Wd)(hs:zV L)(hw:w.man.length<=32)(hL:∀x∈L,x.man.length<=32)(hn:L.length<=1000000):∀(n i:Nat),lbW L w-i=n->i<=lbW L w->
 run T (.loop U8) ⟨[(0,.lst 2 (fp L) .no),(3,.ptr 103 0),(6,.int .i64 i)],[(103,.rc w.sv)],[]⟩=some (.x 0,⟨[(0,.lst 2 (fp L) .no),(3,.ptr 103 0),(6,.int .i64 (lbW L w))],[(103,.rc w.sv)],[]⟩):=by
 intro n;have J:=dY L;have a1:=nq L w;induction n with
 |zero=>
  intro i h0 h1;have hi:i=lbW L w:=by omega
  by_cases C:i<L.length
  ·have hg:=gA L i C
   have F:=mw hs w i C;have hx:=hL _ (bS L wd0 i C);rw[<-hi]at*;have I:¬kH (L.getD i wd0) w:=fun h=>by have:=F.1 h;omega
   generalize L.getD i wd0=x at*;have Q:=f98 x.man w.man (by omega);have g2:=f31 x.man w.man (by omega);obtain⟨Z,wf⟩:=w;obtain⟨W,xf⟩:=x;unfold kH at I;simp only[Wd.sv]at*;have y:¬bH W Z=true:=fun h=>I (.inl ((ed _ _).2 h))
   rw[ai]
   by_cases he:W=Z
   ·subst he
    have E:¬xf<wf:=fun h=>I (.inr ⟨rfl,h⟩)
    simp only[go_sem,Qb,Qc,Qd,Qe,Qh,Qi,Qj,Qk,reduceCtorEq,reduceIte,J,C,hg,Q,Gn,y,g2,tj,E]
   ·simp only[go_sem,Qb,Qc,Qd,Qe,Qh,Qi,Qj,Qk,reduceCtorEq,reduceIte,J,C,hg,Q,Gn,y,g2,tj,he]
  ·rw[<-hi,ai]
   simp only[go_sem,Qb,Qc,Qd,Qh,Qj,Qk,reduceCtorEq,reduceIte,J,C]
 |succ n ih=>
  intro i h0 h1;have C:i<L.length:=by omega
  have e1:=cg i (by omega);have hg:=gA L i C;have F:=mw hs w i C;have hx:=hL _ (bS L wd0 i C);have hb:kH (L.getD i wd0) w:=F.2 (by omega);have O:=ih (i+1) (by omega) (by omega);generalize lbW L w=K at*;generalize L.getD i wd0=x at*;have Q:=f98 x.man w.man (by omega);have g2:=f31 x.man w.man (by omega);obtain⟨Z,wf⟩:=w;obtain⟨W,xf⟩:=x;unfold kH at hb;simp only[Wd.sv]at*;rw[ai]
  by_cases y:bH W Z=true
  ·simp only[go_sem,Qb,Qc,Qd,Qe,Qh,Qi,Qj,Qk,reduceCtorEq,reduceIte,J,C,hg,Q,Gn,y,e1,O]
  ·have E:W=Z/\xf<wf:=hb.resolve_left (fun h=>y ((ed _ _).1 h))
   obtain⟨rfl,E⟩:=E;simp only[go_sem,Qb,Qc,Qd,Qe,Qh,Qi,Qj,Qk,reduceCtorEq,reduceIte,J,C,hg,Q,Gn,y,g2,tj,E,e1,O]
theorem f55(L:List Wd)(w:Wd)(Z:zV L)(W:w.man.length<=32)(hL:∀x∈L,x.man.length<=32)(hn:L.length<=1000000):
 call T 55 [.lst 2 (fp L) .no,.agg w.sv] [] 0=some ⟨.tup [.int .i64 (lbW L w),.bool (zf L w)],[],[]⟩:=by
 have E:=l55 L w Z W hL hn _ 0 rfl (aX _);rw[ay]at E;have F:=dY L;unfold zf;rw[aj xyT]
 by_cases y:lbW L w<L.length
 ·have I:=gA L _ y
  have hx:=hL _ (bS L wd0 _ y);generalize lbW L w=q at*;generalize L.getD q wd0=x at*;have g:=f41 x w (by omega)
  by_cases C:x=w
  ·rw[decide_eq_true ⟨y,C⟩]
   rw[decide_eq_true C]at g;obtain⟨J,wf⟩:=w;obtain⟨Q,O⟩:=x;simp only[Wd.sv]at*;simp only[go_sem,Qb,Qc,Qd,Qe,Qh,Qi,Qj,Qk,reduceCtorEq,reduceIte,F,E,y,I,g,xot]
  ·rw[decide_eq_false (fun h=>C h.2)]
   rw[decide_eq_false C]at g;obtain⟨J,wf⟩:=w;obtain⟨Q,O⟩:=x;simp only[Wd.sv]at*;simp only[go_sem,Qb,Qc,Qd,Qe,Qh,Qi,Qj,Qk,reduceCtorEq,reduceIte,F,E,y,I,g,xot]
 ·rw[decide_eq_false (fun h=>y h.1)]
  generalize lbW L w=q at*;obtain⟨J,wf⟩:=w;simp only[Wd.sv]at*;simp only[go_sem,Qb,Qc,Qd,Qe,Qh,Qi,Qj,Qk,reduceCtorEq,reduceIte,F,E,y]
theorem l53(L:List Man)(m:Man)(hb:∀x∈L,dx x)(hm:dx m)(hs:td L)(hn:L.length<=1000000):∀(n i:Nat),ubM L (bX m)-i=n->i<=ubM L (bX m)->(∀k,k<i->L.getD k mnz≠m)->
 ((m∉L/\run T (.loop xc) ⟨[(0,.lst 7 (dn L) .no),(3,.ptr 103 0),(6,.byt (bX m) .no),(7,.int .i64 i)],[(103,.rc m.sv)],[]⟩=some (.x 0,⟨[(7,.int .i64 (ubM L (bX m)))],[(103,.rc m.sv)],[]⟩))\/
  (m∈L/\∃k:Nat,run T (.loop xc) ⟨[(0,.lst 7 (dn L) .no),(3,.ptr 103 0),(6,.byt (bX m) .no),(7,.int .i64 i)],[(103,.rc m.sv)],[]⟩=some (.r,⟨[(4,.int .i64 k),(5,.bool true)],[(103,.rc m.sv)],[]⟩))):=by
 intro n;have Z:=cP L;have a6:=kO L (bX m);induction n with
 |zero=>
  intro i h0 h1 J;have hi:i=ubM L (bX m):=by omega
  left;refine⟨fun h=> ?_, ?_⟩
  ·obtain⟨k,k1,k2,k3⟩:=(FM hs m).1 h
   exact J k (by omega) k3
  by_cases y:i<L.length
  ·have Q:=eO L i y
   have I:=mc hs (bX m) i y;have F:=hb _ (bS L mnz i y);rw[<-hi]at*
   have C:Lib.compareBytes (bX m) (bX (L.getD i mnz))<0:=by
    by_cases h:Lib.compareBytes (bX m) (bX (L.getD i mnz))<0
    ·exact h
    ·have:=I.1 h;omega
   generalize L.getD i mnz=x at*;have g0:=f36 x F;have hd:=sj m;generalize bX m=D at*;generalize bX x=X at*;have W:=f98 D X (by omega);have E:bH D X=true:=(ed _ _).1 C;obtain⟨xv,x1,x2,x3,x4,xe,xr⟩:=x;simp only[Man.sv]at*;rw[ai];simp only[go_sem,Qe,Qh,Qj,Qk,reduceCtorEq,reduceIte,Z,y,Q,g0,zX,W,Gn,E]
  ·rw[<-hi,ai]
   generalize bX m=D at*;simp only[go_sem,Qh,Qj,Qk,reduceCtorEq,reduceIte,Z,y]
 |succ n ih=>
  intro i h0 h1 J;have y:i<L.length:=by omega
  have e1:=cg i (by omega);have Q:=eO L i y;have I:=mc hs (bX m) i y;have F:=hb _ (bS L mnz i y);have C:¬Lib.compareBytes (bX m) (bX (L.getD i mnz))<0:=I.2 (by omega)
  by_cases he:L.getD i mnz=m
  ·right
   refine⟨(lF L mnz m).2 ⟨i,y,he⟩,i, ?_⟩;rw[he]at Q C;have g0:=f36 m hm;have O:=f56 m m hm;rw[VF rfl]at O;have hd:=sj m;generalize bX m=D at*;have W:=f98 D D (by omega);have E:¬bH D D=true:=fun h=>C ((ed _ _).2 h)
   obtain⟨xv,x1,x2,x3,x4,xe,xr⟩:=m;simp only[Man.sv]at*;rw[ai];simp only[go_sem,Qb,Qc,Qd,Qe,Qh,Qj,Qk,reduceCtorEq,reduceIte,Z,y,Q,g0,zX,W,Gn,E,O,xoo]
  ·have a2:=ih (i+1) (by omega) (by omega) (fun k hk=>by
    rcases bK k i with h|h
    ·exact J k h
    ·rw[show k=i by omega];exact he)
   have a1:run T (.loop xc) ⟨[(0,.lst 7 (dn L) .no),(3,.ptr 103 0),(6,.byt (bX m) .no),(7,.int .i64 i)],[(103,.rc m.sv)],[]⟩=
    run T (.loop xc) ⟨[(0,.lst 7 (dn L) .no),(3,.ptr 103 0),(6,.byt (bX m) .no),(7,.int .i64 ((i+1:Nat):Int))],[(103,.rc m.sv)],[]⟩:=by
    generalize L.getD i mnz=x at*;have g0:=f36 x F;have O:=f56 x m F;rw[nN he]at O;have hd:=sj m;generalize bX m=D at*;generalize bX x=X at*;have W:=f98 D X (by omega);have E:¬bH D X=true:=fun h=>C ((ed _ _).2 h)
    obtain⟨xv,x1,x2,x3,x4,xe,xr⟩:=x;obtain⟨mv,m1,m2,m3,m4,me,mr⟩:=m;simp only[Man.sv]at*
    conv=>lhs;rw[ai]
    simp only[go_sem,Qb,Qc,Qd,Qe,Qh,Qj,Qk,reduceCtorEq,reduceIte,Z,y,Q,g0,zX,W,Gn,E,O,xoo,e1]
   rw[a1];exact a2
theorem f53(L:List Man)(m:Man)(E:∀x∈L,dx x)(C:dx m)(Q:td L)(hn:L.length<=1000000):
 (m∉L/\call T 53 [.lst 7 (dn L) .no,.agg m.sv] [] 0=some ⟨.tup [.int .i64 (ubM L (bX m)),.bool false],[],[]⟩)\/
 (m∈L/\∃k:Nat,call T 53 [.lst 7 (dn L) .no,.agg m.sv] [] 0=some ⟨.tup [.int .i64 k,.bool true],[],[]⟩):=by
 have y:=l53 L m E C Q hn _ 0 rfl (aX _) (fun k W=>by omega);rw[ay]at y;have g0:=f36 m C;rcases y with⟨h,y⟩|⟨h,k,y⟩
 ·left
  refine⟨h, ?_⟩;generalize ubM L (bX m)=K at*;generalize bX m=D at*;obtain⟨I,O,m2,m3,m4,F,J⟩:=m;simp only[Man.sv]at*;rw[aj xvz];simp only[go_sem,Qe,Qh,Qi,Qj,Qk,reduceCtorEq,reduceIte,g0,zX,y]
 ·right
  refine⟨h,k, ?_⟩;generalize bX m=D at*;obtain⟨I,O,m2,m3,m4,F,J⟩:=m;simp only[Man.sv]at*;rw[aj xvz];simp only[go_sem,Qe,Qh,Qi,Qj,Qk,reduceCtorEq,reduceIte,g0,zX,y]
end Go.Proofs.YtbfnljmmepcbfaaGreatDoor
