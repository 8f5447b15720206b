/- Contracts. No condition. -/
import Derived.Test.YtkcjdeofknkndaaGreatDoorTfDF
import Derived.Test.YtkcjdeofknkndaaGreatDoorTgDF
import Derived.Test.YtkcjdeofknkndaaGreatDoorThDF
open Int renaming natCast_zero -> aD
open Go.IntKind renaming i64 -> ai, u64 -> aZ, wrap_u64 -> cn
open List renaming append_assoc -> ax, append_nil -> bf, cons_append -> aV, drop_eq_getElem_cons -> aY, drop_length -> bv, drop_zero -> bh, flatten_cons -> cN, foldl_cons -> cz, getD_cons_succ -> bQ, getD_cons_zero -> bF, getD_eq_getElem?_getD -> aa, getElem?_eq_getElem -> ab, getElem_of_mem -> bM, length_append -> af, length_cons -> ay, length_nil -> bl, length_take -> aA, map_cons -> aG, mem_append -> ak, mem_cons -> am, mem_cons_of_mem -> an, mem_cons_self -> aw, mem_singleton -> aW, nil_append -> aK, take -> dn, take_of_length_le -> bT
open Nat renaming add_mul -> bA, lt_or_ge -> bL, mod_eq_of_lt -> dm, mul_comm -> cD, zero_add -> cf, zero_le -> bD, zero_mul -> iF
open UInt8 renaming ofInt -> dj
set_option maxRecDepth 100000
set_option maxHeartbeats 16000000
set_option linter.unusedSimpArgs false
set_option linter.unusedVariables false
namespace Go.Proofs.YtkcjdeofknkndaaGreatDoor
open Go.Sy
open UInt8 renaming reduceLT -> Q0, reduceLE -> Q1
open Int renaming reduceToNat -> Q2, reduceLE -> Q3, reduceLT -> Q4, reduceEq -> Q5, reduceNe -> Q6, reduceNeg -> Q7, reduceAdd -> Q8, reduceSub -> Q9, reduceMul -> Qa
open Nat renaming reducePow -> Qb, reduceDiv -> Qc, reduceMod -> Qd, reduceAdd -> Qe, reduceSub -> Qf, reduceMul -> Qg, reduceLT -> Qh, reduceLeDiff -> Qi, reduceEqDiff -> Qj, reduceBEq -> Qk
def iA{α:Type}(p:α->Bool):List α->Nat->Int
 |[],_=> -1
 |x::r,i=>if p x=true then(i:Int)else iA p r (i+1)
def itE(e:Ev)(x:Ent):Bool:=decide (e.reg=ur x.role)&&(decide (e.dg.getD 1 []=x.dig)&&decide (e.data=qR x.name x.ver))
def DN(x:Ent):Prop:=0<=x.ver/\x.ver<=1000000/\x.name.length<=1000000
theorem Qz{l:List Ent}{i:Nat}(h:qe l i=0):1<=(l.getD i en0).role/\(l.getD i en0).role<=3/\0<=(l.getD i en0).ver/\(l.getD i en0).ver<=1000000/\(l.getD i en0).dig.length=32/\Pr.nameB (l.getD i en0).name=true:=by
 unfold qe at h;generalize l.getD i en0=x at*
 repeat' split at h
 all_goals first|omega|skip
 all_goals (refine⟨by omega,by omega,by omega,by omega,by omega,by assumption⟩)
theorem uW(l:List Ent):∀(n i:Nat),jG l n i=0->∀k,i<=k->k<i+n->qe l k=0
 |0,i,_,k,h1,h2=>by omega
 |n+1,i,h,k,h1,h2=>by
  unfold jG at h
  by_cases y:qe l i=0
  ·rw[if_pos y]at h
   rcases bL i k with z|z
   ·exact uW l n (i+1) h k (by omega) (by omega)
   ·have:k=i:=by omega
    rw[this];exact y
  ·rw[if_neg y]at h;exact absurd h y
theorem se{m:Man}(h:gJ m=0):jG m.ents m.ents.length 0=0/\kr m.ruls=0/\m.ents.length<=16/\m.ruls.length<=8/\Pr.nameB m.vendor=true/\0<=m.flr/\m.flr<=m.ver/\m.ver<=1000000/\0<=m.frm/\m.frm<m.til/\m.til<=1099511627776:=by
 unfold gJ at h
 by_cases y:Pr.nameB m.vendor=true
 ·rw[if_pos y]at h
  repeat' split at h
  all_goals first|(exfalso;omega)|skip
  refine⟨by assumption,h,by omega,by omega,y,by omega,by omega,by omega,by omega,by omega,by omega⟩
 ·rw[if_neg y]at h;omega
theorem BK{m:Man}(h:gJ m=0):∀x∈m.ents,1<=x.role/\x.role<=3/\DN x/\x.dig.length=32/\Pr.nameB x.name=true:=by
 intro x z;obtain⟨i,hi,rfl⟩:=bM z;have y:=Qz (uW m.ents _ 0 (se h).1 i (bD _) (by omega));have e:m.ents.getD i en0=m.ents[i]:=by rw[aa,ab hi];rfl
 rw[e]at y;obtain⟨a,b,c,d,f,g⟩:=y;have:=iK g;exact⟨a,b,⟨c,d,by omega⟩,f,g⟩
theorem f76(e:Ev)(x:Ent)(hd:e.dg.length=2)(U:DN x):call T 76 [.agg x.sv,.ptr 0 0] [.rc e.sv] 0=some ⟨.bool (itE e x),[(0,.rc e.sv)],[]⟩:=by
 obtain⟨O,Z,W⟩:=U;have y:=f33 x.role;have h:=f77 (e.dg.getD 1 []) x.dig;obtain⟨v,I⟩:=Int.eq_ofNat_of_zero_le O;have J:=f78 v (by omega);have hl:=kg 6 v (by omega);obtain⟨g,k,E,b⟩:=e;obtain⟨Q,H,ve,L⟩:=x;simp only at hd I W y h;subst I;rw[two E [] hd]at*;generalize E.getD 0 []=d0 at*;generalize E.getD 1 []=d1 at*;have F:bls [d0,d1]=[[.byt d0 .no],[.byt d1 .no]]:=rfl;simp only[bF,bQ]at h;rw[au xk4];unfold itE Ev.sv Ent.sv qR;have c1:H.length+1<=9223372036854775807:=by omega
 have c2:H.length+1+(dec v).length<=9223372036854775807:=by omega
 simp only[F,bF,bQ,Int.toNat_natCast]
 by_cases C:g=ur Q
 ·by_cases z:d1=L
  ·rw[decide_eq_true z]at h
   simp only[go_sem,Q0,Q1,Q2,Q3,Q4,Q5,Q6,Q7,Q8,Q9,Qa,Qb,Qc,Qd,Qe,Qf,Qg,Qh,Qi,Qj,Qk,reduceCtorEq,reduceIte,y,wQ,C,h,vj,J,xiQ,c1,c2,decide_eq_true z]
  ·rw[decide_eq_false z]at h
   simp only[go_sem,Q0,Q1,Q2,Q3,Q4,Q5,Q6,Q7,Q8,Q9,Qa,Qb,Qc,Qd,Qe,Qf,Qg,Qh,Qi,Qj,Qk,reduceCtorEq,reduceIte,y,wQ,C,h,vj,decide_eq_false z]
 ·simp only[go_sem,Q0,Q1,Q2,Q3,Q4,Q5,Q6,Q7,Q8,Q9,Qa,Qb,Qc,Qd,Qe,Qf,Qg,Qh,Qi,Qj,Qk,reduceCtorEq,reduceIte,y,wQ,C]
theorem l75(e:Ev)(es:List Ent)(hd:e.dg.length=2)(U:∀x∈es,DN x)(hn:es.length<=1000000):∀(n i:Nat),es.length-i=n->i<=es.length->
 run T (.loop Nz) ⟨[(0,.lst 4 (cd es) .no),(1,.fn 76 [] [.ptr 0 0]),(7,.int .i64 es.length),(8,.int .i64 i)],[(0,.rc e.sv)],[]⟩=
 if iA (itE e) (es.drop i) i= -1 then some (.x 0,⟨[],[(0,.rc e.sv)],[]⟩)else some (.r,⟨[(4,.int .i64 (iA (itE e) (es.drop i) i))],[(0,.rc e.sv)],[]⟩):=by
 intro n;induction n with
 |zero=>
  intro i J H;have:i=es.length:=by omega
  subst this;rw[al,bv];simp only[go_sem,Q0,Q1,Q2,Q3,Q4,Q5,Q6,Q7,Q8,Q9,Qa,Qb,Qc,Qd,Qe,Qf,Qg,Qh,Qi,Qj,Qk,reduceCtorEq,reduceIte,iA]
 |succ n W=>
  intro i J H;have hi:i<es.length:=by omega
  have E:=cA i (by omega);have h:=W (i+1) (by omega) (by omega);have F:=cw es;have C:=dM es i hi;have g:=f76 e (es.getD i en0) hd (U _ (dd es en0 i hi));have z:es.drop i=es.getD i en0::es.drop (i+1):=by rw[aY hi,aa,ab hi];rfl
  rw[z];generalize es.drop (i+1)=R at*;generalize es.getD i en0=x at*;obtain⟨L,O,Q,I⟩:=x;simp only[Ev.sv,Ent.sv]at*;rw[al];unfold iA;cases hb:itE e ⟨L,O,Q,I⟩with
  |true=>
   rw[hb]at g;have y:¬(i:Int)= -1:=by omega
   simp only[go_sem,Q0,Q1,Q2,Q3,Q4,Q5,Q6,Q7,Q8,Q9,Qa,Qb,Qc,Qd,Qe,Qf,Qg,Qh,Qi,Qj,Qk,reduceCtorEq,reduceIte,hi,E,F,C,g,xiR,y]
  |false=>rw[hb]at g;simp only[go_sem,Q0,Q1,Q2,Q3,Q4,Q5,Q6,Q7,Q8,Q9,Qa,Qb,Qc,Qd,Qe,Qf,Qg,Qh,Qi,Qj,Qk,reduceCtorEq,reduceIte,hi,E,F,C,g,xiR,h]
theorem f75(e:Ev)(es:List Ent)(hd:e.dg.length=2)(C:∀x∈es,DN x)(hn:es.length<=1000000):
 call T 75 [.lst 4 (cd es) .no,.fn 76 [] [.ptr 0 0]] [.rc e.sv] 0=some ⟨.int .i64 (iA (itE e) es 0),[(0,.rc e.sv)],[]⟩:=by
 have h:=l75 e es hd C hn _ 0 rfl (by omega);simp only[aD,bh]at h;have z:=cw es;rw[au xk5];unfold Ev.sv at h ⊢
 by_cases y:iA (itE e) es 0= -1
 ·rw[if_pos y]at h
  simp only[go_sem,Q0,Q1,Q2,Q3,Q4,Q5,Q6,Q7,Q8,Q9,Qa,Qb,Qc,Qd,Qe,Qf,Qg,Qh,Qi,Qj,Qk,reduceCtorEq,reduceIte,z,h,y]
 ·rw[if_neg y]at h
  simp only[go_sem,Q0,Q1,Q2,Q3,Q4,Q5,Q6,Q7,Q8,Q9,Qa,Qb,Qc,Qd,Qe,Qf,Qg,Qh,Qi,Qj,Qk,reduceCtorEq,reduceIte,z,h]
def alR(b:t6)(r:Rul):Bool:=alw r.kind r.text r.lo r.hi b
theorem f81(e:Ev)(r:Rul)(y:r.text.length<=1000000)(z:e.data.length<=1000000):call T 81 [.agg r.sv,.ptr 0 0] [.rc e.sv] 0=some ⟨.bool (alR e.data r),[(0,.rc e.sv)],[]⟩:=by have g:=f35 r.kind r.text r.lo r.hi e.data (by omega) (by omega);obtain⟨h,k,C,b⟩:=e;obtain⟨q,t,lo,hi⟩:=r;rw[au xkZ];unfold alR Ev.sv Rul.sv;simp only[go_sem,Q0,Q1,Q2,Q3,Q4,Q5,Q6,Q7,Q8,Q9,Qa,Qb,Qc,Qd,Qe,Qf,Qg,Qh,Qi,Qj,Qk,reduceCtorEq,reduceIte,g,xlR]
theorem l80(e:Ev)(rs:List Rul)(h:e.data.length<=1000000)(O:∀x∈rs,x.text.length<=1000000)(hn:rs.length<=1000000):∀(n i:Nat),rs.length-i=n->i<=rs.length->
 run T (.loop Nw) ⟨[(0,.lst 4 (fk rs) .no),(1,.fn 81 [] [.ptr 0 0]),(7,.int .i64 rs.length),(8,.int .i64 i)],[(0,.rc e.sv)],[]⟩=
 if iA (alR e.data) (rs.drop i) i= -1 then some (.x 0,⟨[],[(0,.rc e.sv)],[]⟩)else some (.r,⟨[(4,.int .i64 (iA (alR e.data) (rs.drop i) i))],[(0,.rc e.sv)],[]⟩):=by
 intro n;induction n with
 |zero=>
  intro i L J;have:i=rs.length:=by omega
  subst this;rw[al,bv];simp only[go_sem,Q0,Q1,Q2,Q3,Q4,Q5,Q6,Q7,Q8,Q9,Qa,Qb,Qc,Qd,Qe,Qf,Qg,Qh,Qi,Qj,Qk,reduceCtorEq,reduceIte,iA]
 |succ n Q=>
  intro i L J;have hi:i<rs.length:=by omega
  have H:=cA i (by omega);have y:=Q (i+1) (by omega) (by omega);have I:=ek rs;have F:=j6 rs i hi;have g:=f81 e (rs.getD i rl0) (O _ (dd rs rl0 i hi)) h;have E:rs.drop i=rs.getD i rl0::rs.drop (i+1):=by rw[aY hi,aa,ab hi];rfl
  rw[E];generalize rs.drop (i+1)=R at*;generalize rs.getD i rl0=x at*;obtain⟨q,t,lo,C⟩:=x;simp only[Ev.sv,Rul.sv]at*;rw[al];unfold iA;cases h:alR e.data ⟨q,t,lo,C⟩with
  |true=>
   rw[h]at g;have z:¬(i:Int)= -1:=by omega
   simp only[go_sem,Q0,Q1,Q2,Q3,Q4,Q5,Q6,Q7,Q8,Q9,Qa,Qb,Qc,Qd,Qe,Qf,Qg,Qh,Qi,Qj,Qk,reduceCtorEq,reduceIte,hi,H,I,F,g,xiO,z]
  |false=>rw[h]at g;simp only[go_sem,Q0,Q1,Q2,Q3,Q4,Q5,Q6,Q7,Q8,Q9,Qa,Qb,Qc,Qd,Qe,Qf,Qg,Qh,Qi,Qj,Qk,reduceCtorEq,reduceIte,hi,H,I,F,g,xiO,y]
theorem f80(e:Ev)(rs:List Rul)(C:e.data.length<=1000000)(E:∀x∈rs,x.text.length<=1000000)(hn:rs.length<=1000000):
 call T 80 [.lst 4 (fk rs) .no,.fn 81 [] [.ptr 0 0]] [.rc e.sv] 0=some ⟨.int .i64 (iA (alR e.data) rs 0),[(0,.rc e.sv)],[]⟩:=by
 have h:=l80 e rs C E hn _ 0 rfl (by omega);simp only[aD,bh]at h;have z:=ek rs;rw[au xk0];unfold Ev.sv at h ⊢
 by_cases y:iA (alR e.data) rs 0= -1
 ·rw[if_pos y]at h
  simp only[go_sem,Q0,Q1,Q2,Q3,Q4,Q5,Q6,Q7,Q8,Q9,Qa,Qb,Qc,Qd,Qe,Qf,Qg,Qh,Qi,Qj,Qk,reduceCtorEq,reduceIte,z,h,y]
 ·rw[if_neg y]at h
  simp only[go_sem,Q0,Q1,Q2,Q3,Q4,Q5,Q6,Q7,Q8,Q9,Qa,Qb,Qc,Qd,Qe,Qf,Qg,Qh,Qi,Qj,Qk,reduceCtorEq,reduceIte,z,h]
theorem BP{α:Type}(p:α->Bool):∀(l:List α)(i:Nat),iA p l i= -1\/((i:Int)<=iA p l i/\iA p l i<i+l.length)
 |[],_=> .inl rfl
 |x::r,i=>by
  unfold iA
  by_cases h:p x=true
  ·rw[if_pos h,ay];right;omega
  ·rw[if_neg h,ay]
   rcases BP p r (i+1)with h|h
   ·exact .inl h
   ·right;omega
structure xiZ(e:Ev):Prop where
 d2:e.dg.length=2
 b:e.data.length<=1000000
 d0:(e.dg.getD 0 []).length<=1000000
 d1:(e.dg.getD 1 []).length<=1000000
def iH(m:Man)(e:Ev):Int:=
 if gJ m=0 then
  (if e.kind=1 then iA (itE e) m.ents 0
  else if e.kind=3 then(if e.reg=9 then(if Yf e=true then(if 0<=iA (alR e.data) m.ruls 0 then(m.ents.length:Int)+iA (alR e.data) m.ruls 0 else-1)else-1)else-1)
  else-1)
 else-1
theorem f31(m:Man)(E:gu m)(e:Ev)(I:xiZ e):call T 31 [.agg m.sv,.agg e.sv] [] 0=some ⟨.int .i64 (iH m e),[],[]⟩:=by
 have C:=f13 m E;have F:=f33 4;have k9:ur 4=9:=rfl;have H:=f79 e I.d2 I.b;have Q:=f80 e m.ruls I.b E.r E.rn;have hr:=BP (alR e.data) m.ruls 0;have hv:=cw m.ents;have a1:=E.en;have a0:=E.rn;rw[k9]at F;have Z:gJ m=0->call T 75 [.lst 4 (cd m.ents) .no,.fn 76 [] [.ptr 0 0]] [.rc e.sv] 0=some ⟨.int .i64 (iA (itE e) m.ents 0),[(0,.rc e.sv)],[]⟩:=fun h=>f75 e m.ents I.d2 (fun x hx=>(BK h x hx).2.2.1) E.en
 clear E I;obtain⟨mv,m1,m2,m3,m4,es,rs⟩:=m;obtain⟨W,k,ds,b⟩:=e;rw[au xlx];unfold iH;simp only[Man.sv,Ev.sv]at*
 by_cases y:gJ ⟨mv,m1,m2,m3,m4,es,rs⟩=0
 ·have J:=Z y
  rw[y]at C
  by_cases L:k=1
  ·subst L
   simp only[go_sem,Q0,Q1,Q2,Q3,Q4,Q5,Q6,Q7,Q8,Q9,Qa,Qb,Qc,Qd,Qe,Qf,Qg,Qh,Qi,Qj,Qk,reduceCtorEq,reduceIte,C,nb,y,J,xlM]
  ·by_cases U:k=3
   ·subst U
    by_cases O:W=9
    ·subst O
     cases hc:Yf ⟨9,3,ds,b⟩with
     |false=>rw[hc]at H;simp only[go_sem,Q0,Q1,Q2,Q3,Q4,Q5,Q6,Q7,Q8,Q9,Qa,Qb,Qc,Qd,Qe,Qf,Qg,Qh,Qi,Qj,Qk,reduceCtorEq,reduceIte,C,nb,y,F,wQ,H,xdc]
     |true=>
      rw[hc]at H;generalize iA (alR b) rs 0=z at*
      by_cases hz:0<=z
      ·have ew:ai.wrap ((es.length:Int)+z)=(es.length:Int)+z:=w64 (by omega) (by omega)
       simp only[go_sem,Q0,Q1,Q2,Q3,Q4,Q5,Q6,Q7,Q8,Q9,Qa,Qb,Qc,Qd,Qe,Qf,Qg,Qh,Qi,Qj,Qk,reduceCtorEq,reduceIte,C,nb,y,F,wQ,H,xdc,Q,xiP,hz,hv,ew]
      ·simp only[go_sem,Q0,Q1,Q2,Q3,Q4,Q5,Q6,Q7,Q8,Q9,Qa,Qb,Qc,Qd,Qe,Qf,Qg,Qh,Qi,Qj,Qk,reduceCtorEq,reduceIte,C,nb,y,F,wQ,H,xdc,Q,xiP,hz]
    ·simp only[go_sem,Q0,Q1,Q2,Q3,Q4,Q5,Q6,Q7,Q8,Q9,Qa,Qb,Qc,Qd,Qe,Qf,Qg,Qh,Qi,Qj,Qk,reduceCtorEq,reduceIte,C,nb,y,F,wQ,O]
   ·simp only[go_sem,Q0,Q1,Q2,Q3,Q4,Q5,Q6,Q7,Q8,Q9,Qa,Qb,Qc,Qd,Qe,Qf,Qg,Qh,Qi,Qj,Qk,reduceCtorEq,reduceIte,C,nb,y,L,U]
 ·simp only[go_sem,Q0,Q1,Q2,Q3,Q4,Q5,Q6,Q7,Q8,Q9,Qa,Qb,Qc,Qd,Qe,Qf,Qg,Qh,Qi,Qj,Qk,reduceCtorEq,reduceIte,C,nb,y]
theorem Ga(v s:Nat):(gY (v:Int) s).toNat=v/2^s % 256:=by
 unfold gY
 have e:Int.fdiv (v:Int) (2^s)=((v/2^s:Nat):Int):=by
  have p:((2:Int)^s)=((2^s:Nat):Int):=by rw[Int.natCast_pow];rfl
  rw[p,Int.fdiv_eq_ediv_of_nonneg _ (Int.natCast_nonneg _)];rfl
 rw[e];show(dj ((v/2^s:Nat):Int)).toNat=_;generalize v/2^s=q;simp[dj];omega
theorem XX:∀(k a v:Nat),nF a (be k (v:Int))=a*256^k+v % 256^k
 |0,a,v=>by simp[be,nF,Nat.mod_one]
 |k+1,a,v=>by
  have h:(gY (v:Int) (8*k)).toNat=v/256^k % 256:=by rw[Ga,Nat.pow_mul]
  show nF (a*256+(gY (v:Int) (8*k)).toNat) (be k (v:Int))=_;rw[XX k,h,Nat.mod_pow_succ,Nat.pow_succ,bA,Nat.mul_assoc a,cD 256,cD (v/256^k % 256)];omega
theorem jE(k:Nat)(v:Int)(y:0<=v)(h:v<((256^k:Nat):Int))(z:v<18446744073709551616):((nB (bu k v):Nat):Int)=v:=by
 unfold bu nB;have e:aZ.wrap v=((v.toNat:Nat):Int):=by rw[cn];omega
 rw[e,XX,iF,cf,dm (by omega)];omega
theorem oY{B P X S:t6}(h:B=P++(X++S)):(B.drop P.length).take X.length=X/\P.length+X.length<=B.length:=by
 subst h;constructor
 ·rw[List.drop_left',List.take_left']
  ·rfl
  ·rfl
 ·rw[af,af];omega
theorem kj{B P X S:t6}(n:Nat)(h:B=P++(X++S))(hn:X.length=n):uR B n ⟨P.length,0⟩=(((nB X:Nat):Int),⟨(P++X).length,0⟩):=by subst hn;obtain⟨y,z⟩:=oY h;unfold uR;rw[if_pos rfl];simp only;rw[if_pos z,y,af]
theorem xdB{B P X S:t6}(n:Nat)(h:B=P++(X++S))(hn:X.length=n):wR B n ⟨P.length,0⟩=(X,⟨(P++X).length,0⟩):=by subst hn;obtain⟨y,z⟩:=oY h;unfold wR;rw[if_pos rfl];simp only;rw[if_pos z,y,af]
theorem N6{B P X S:t6}(m:Nat)(h:B=P++((bu 2 (X.length:Int)++X)++S))(I:X.length<=m)(L:X.length<65536):bR B m ⟨P.length,0⟩=(X,⟨(P++(bu 2 (X.length:Int)++X)).length,0⟩):=by
 have hn:nB (bu 2 (X.length:Int))=X.length:=by
  have J:((256^2:Nat):Int)=65536:=by decide
  have:=jE 2 (X.length:Int) (by omega) (by rw[J];omega) (by omega);omega
 have z:(bu 2 (X.length:Int)).length=2:=cT ..;have C:B=P++(bu 2 (X.length:Int)++(X++S)):=by rw[h,ax (bu 2 _)]
 have y:B=(P++bu 2 (X.length:Int))++(X++S):=by rw[C,ax]
 obtain⟨E,F⟩:=oY C;obtain⟨b1,H⟩:=oY y;rw[z]at E F;rw[af,z]at b1 H;unfold bR;rw[if_pos rfl];simp only;rw[if_pos F,E,hn,if_pos I,if_pos H,b1];rw[af,af,z]
def oQ(x:Ent):t6:=bu 1 x.role++(bu 2 (x.name.length:Int)++x.name)++bu 4 x.ver++x.dig
def rh(r:Rul):t6:=bu 1 r.kind++(bu 2 (r.text.length:Int)++r.text)++bu 4 r.lo++bu 4 r.hi
theorem sC(B X:t6)(h:X.length<65536):jo B X=B++(bu 2 (X.length:Int)++X):=by unfold jo bu;rw[bT (by omega),ax]
theorem QJ(B:t6)(x:Ent)(h:x.name.length<65536):qh B x=B++oQ x:=by unfold qh oQ;rw[sC _ _ h];simp only[ax]
theorem Pc(B:t6)(x:Rul)(h:x.text.length<65536):nK B x=B++rh x:=by unfold nK rh;rw[sC _ _ h];simp only[ax]
theorem uN:∀(l:List Ent)(B:t6),(∀x∈l,x.name.length<65536)->l.foldl qh B=B++(l.map oQ).flatten
 |[],B,_=>by simp
 |x::r,B,h=>by rw[cz,QJ _ _ (h x aw),uN r _ (fun y z=>h y (an _ z)),aG,cN,ax]
theorem uM:∀(l:List Rul)(B:t6),(∀x∈l,x.text.length<65536)->l.foldl nK B=B++(l.map rh).flatten
 |[],B,_=>by simp
 |x::r,B,h=>by rw[cz,Pc _ _ (h x aw),uM r _ (fun y z=>h y (an _ z)),aG,cN,ax]
structure xdo(x:Ent):Prop where
 r0:0<=x.role
 r1:x.role<256
 n:x.name.length<=12
 v0:0<=x.ver
 v1:x.ver<4294967296
 d:x.dig.length=32
structure xdm(x:Rul):Prop where
 r0:0<=x.kind
 r1:x.kind<256
 n:x.text.length<=32
 v0:0<=x.lo
 v1:x.lo<4294967296
 w0:0<=x.hi
 w1:x.hi<4294967296
theorem pp1:((256^1:Nat):Int)=256:=by decide
theorem pp4:((256^4:Nat):Int)=4294967296:=by decide
theorem pp6:((256^6:Nat):Int)=281474976710656:=by decide
theorem Qx{B P S:t6}{x:Ent}(y:xdo x)(h:B=P++(oQ x++S)):oP B ⟨P.length,0⟩=(x,⟨(P++oQ x).length,0⟩):=by unfold oQ at h;have C:=kj (B:=B) (P:=P) (X:=bu 1 x.role) (S:=(bu 2 (x.name.length:Int)++x.name)++(bu 4 x.ver++(x.dig++S))) 1 (by rw[h];simp only[ax]) (cT ..);have F:=N6 (B:=B) (P:=P++bu 1 x.role) (X:=x.name) (S:=bu 4 x.ver++(x.dig++S)) 12 (by rw[h];simp only[ax]) y.n (by have:=y.n;omega);have z:=kj (B:=B) (P:=P++bu 1 x.role++(bu 2 (x.name.length:Int)++x.name)) (X:=bu 4 x.ver) (S:=x.dig++S) 4 (by rw[h];simp only[ax]) (cT ..);have E:=xdB (B:=B) (P:=P++bu 1 x.role++(bu 2 (x.name.length:Int)++x.name)++bu 4 x.ver) (X:=x.dig) (S:=S) 32 (by rw[h];simp only[ax]) y.d;rw[jE 1 x.role y.r0 (by rw[pp1];exact y.r1) (by have:=y.r1;omega)]at C;rw[jE 4 x.ver y.v0 (by rw[pp4];exact y.v1) (by have:=y.v1;omega)]at z;unfold oP;rw[C];simp only;rw[F];simp only;rw[z];simp only;rw[E];unfold oQ;simp only[ax]
theorem O9{B P S:t6}{x:Rul}(y:xdm x)(h:B=P++(rh x++S)):oi B ⟨P.length,0⟩=(x,⟨(P++rh x).length,0⟩):=by unfold rh at h;have E:=kj (B:=B) (P:=P) (X:=bu 1 x.kind) (S:=(bu 2 (x.text.length:Int)++x.text)++(bu 4 x.lo++(bu 4 x.hi++S))) 1 (by rw[h];simp only[ax]) (cT ..);have F:=N6 (B:=B) (P:=P++bu 1 x.kind) (X:=x.text) (S:=bu 4 x.lo++(bu 4 x.hi++S)) 32 (by rw[h];simp only[ax]) y.n (by have:=y.n;omega);have z:=kj (B:=B) (P:=P++bu 1 x.kind++(bu 2 (x.text.length:Int)++x.text)) (X:=bu 4 x.lo) (S:=bu 4 x.hi++S) 4 (by rw[h];simp only[ax]) (cT ..);have C:=kj (B:=B) (P:=P++bu 1 x.kind++(bu 2 (x.text.length:Int)++x.text)++bu 4 x.lo) (X:=bu 4 x.hi) (S:=S) 4 (by rw[h];simp only[ax]) (cT ..);rw[jE 1 x.kind y.r0 (by rw[pp1];exact y.r1) (by have:=y.r1;omega)]at E;rw[jE 4 x.lo y.v0 (by rw[pp4];exact y.v1) (by have:=y.v1;omega)]at z;rw[jE 4 x.hi y.w0 (by rw[pp4];exact y.w1) (by have:=y.w1;omega)]at C;unfold oi;rw[E];simp only;rw[F];simp only;rw[z];simp only;rw[C];unfold rh;simp only[ax]
theorem uV{B:t6}:∀(l:List Ent)(es:List Ent)(P S:t6),(∀x∈l,xdo x)->B=P++((l.map oQ).flatten++S)->fv B l.length es ⟨P.length,0⟩=(es++l,⟨(P++(l.map oQ).flatten).length,0⟩)
 |[],es,P,S,_,_=>by simp[fv]
 |x::r,es,P,S,hx,h=>by have a:=Qx (B:=B) (P:=P) (S:=(r.map oQ).flatten++S) (hx x aw) (by rw[h,aG,cN];simp only[ax]);rw[ay];unfold fv;rw[if_pos rfl,a];simp only;rw[uV r (es++ [x]) (P++oQ x) S (fun y z=>hx y (an _ z)) (by rw[h,aG,cN];simp only[ax]),aG,cN];simp only[ax,aV,aK]
theorem um{B:t6}:∀(l:List Rul)(es:List Rul)(P S:t6),(∀x∈l,xdm x)->B=P++((l.map rh).flatten++S)->ft B l.length es ⟨P.length,0⟩=(es++l,⟨(P++(l.map rh).flatten).length,0⟩)
 |[],es,P,S,_,_=>by simp[ft]
 |x::r,es,P,S,hx,h=>by have a:=O9 (B:=B) (P:=P) (S:=(r.map rh).flatten++S) (hx x aw) (by rw[h,aG,cN];simp only[ax]);rw[ay];unfold ft;rw[if_pos rfl,a];simp only;rw[um r (es++ [x]) (P++rh x) S (fun y z=>hx y (an _ z)) (by rw[h,aG,cN];simp only[ax]),aG,cN];simp only[ax,aV,aK]
def hV(B:t6):t6×Rs:=bR B 12 (uR B 1 ⟨0,0⟩).2
def hE(B:t6):Int×Rs:=uR B 4 (hV B).2
def hF(B:t6):Int×Rs:=uR B 4 (hE B).2
def hM(B:t6):Int×Rs:=uR B 6 (hF B).2
def hT(B:t6):Int×Rs:=uR B 6 (hM B).2
def hN(B:t6):Int×Rs:=uR B 1 (hT B).2
def hL(B:t6):List Ent×Rs:=fv B (hN B).1.toNat [] (hN B).2
def hK(B:t6):Int×Rs:=uR B 1 (hL B).2
def hR(B:t6):List Rul×Rs:=ft B (hK B).1.toNat [] (hK B).2
def sd(B:t6):Man:=⟨(hV B).1,(hE B).1,(hF B).1,(hM B).1,(hT B).1,(hL B).1,(hR B).1⟩
def okP(B:t6):Prop:=(uR B 1 ⟨0,0⟩).1=21/\eR B (hR B).2=0/\gJ (sd B)=0
instance (B:List UInt8):Decidable (okP B):=by unfold okP;infer_instance
def wE(B:t6):Option Man:=if okP B then some (sd B)else none
theorem xcV{k:Int}{t:t6}{lo hi:Int}(h:chk k t lo hi=0):1<=k/\k<=4/\t.length<=32/\0<=lo/\lo<=1000000000/\0<=hi/\hi<=1000000000:=by
 unfold chk at h
 repeat' split at h
 all_goals first|(exfalso;omega)|skip
 ·refine⟨by omega,by omega,by omega,by omega,by omega,by omega,by omega⟩
 ·rename_i y
  refine⟨by omega,by omega,by rw[y];simp,by omega,by omega,by omega,by omega⟩
 ·refine⟨by omega,by omega,by omega,by omega,by omega,by omega,by omega⟩
theorem ui:∀{l:List Rul},kr l=0->∀r∈l,vQ r=0
 |[],_,r,hr=>by cases hr
 |x::t,h,r,hr=>by
  unfold kr at h
  by_cases y:vQ x=0
  ·rw[if_pos y]at h
   rcases am.1 hr with rfl|hr
   ·exact y
   ·exact ui h r hr
  ·rw[if_neg y]at h;exact absurd h y
theorem Fo{m:Man}(h:gJ m=0):∀x∈m.ents,xdo x:=by intro x E;obtain⟨H,I,⟨y,F,J⟩,C,z⟩:=BK h x E;exact⟨by omega,by omega,(iK z).2,y,by omega,C⟩
theorem Fl{m:Man}(h:gJ m=0):∀x∈m.ruls,xdm x:=by intro x C;obtain⟨H,I,y,E,J,z,F⟩:=xcV (ui (se h).2.1 x C);exact⟨by omega,by omega,y,E,by omega,z,by omega⟩
theorem BX{m:Man}(h:gJ m=0):wE (kX m)=some m:=by
 obtain⟨-, -,hn,hr,hv,u0,u1,u2,u3,u4,u5⟩:=se h;have E:=Fo h;have C:=Fl h;have Q:=(iK hv).2
 have y:kX m=bu 1 21++((bu 2 (m.vendor.length:Int)++m.vendor)++(bu 4 m.ver++(bu 4 m.flr++(bu 6 m.frm++(bu 6 m.til++(bu 1 (m.ents.length:Int)++((m.ents.map oQ).flatten++(bu 1 (m.ruls.length:Int)++((m.ruls.map rh).flatten++ []))))))))):=by unfold kX hdM;rw[if_pos h,uN _ _ (fun x O=>by have:=(E x O).n;omega),uM _ _ (fun x O=>by have:=(C x O).n;omega),sC _ _ (by omega)];simp only[ax,aK,bf]
 generalize kX m=B at*;have H:=kj (B:=B) (P:=[]) 1 y (cT 1 21);have a1:=N6 (B:=B) (P:=bu 1 21) 12 y Q (by omega);have a2:=kj (B:=B) (P:=bu 1 21++(bu 2 (m.vendor.length:Int)++m.vendor)) 4 (by rw[y];simp only[ax];rfl) (cT 4 m.ver);have a3:=kj (B:=B) (P:=bu 1 21++(bu 2 (m.vendor.length:Int)++m.vendor)++bu 4 m.ver) 4 (by rw[y];simp only[ax];rfl) (cT 4 m.flr);have a4:=kj (B:=B) (P:=bu 1 21++(bu 2 (m.vendor.length:Int)++m.vendor)++bu 4 m.ver++bu 4 m.flr) 6 (by rw[y];simp only[ax];rfl) (cT 6 m.frm);have a5:=kj (B:=B) (P:=bu 1 21++(bu 2 (m.vendor.length:Int)++m.vendor)++bu 4 m.ver++bu 4 m.flr++bu 6 m.frm) 6 (by rw[y];simp only[ax];rfl) (cT 6 m.til);have a6:=kj (B:=B) (P:=bu 1 21++(bu 2 (m.vendor.length:Int)++m.vendor)++bu 4 m.ver++bu 4 m.flr++bu 6 m.frm++bu 6 m.til) 1 (by rw[y];simp only[ax];rfl) (cT 1 (m.ents.length:Int));have a7:=uV (B:=B) m.ents [] (bu 1 21++(bu 2 (m.vendor.length:Int)++m.vendor)++bu 4 m.ver++bu 4 m.flr++bu 6 m.frm++bu 6 m.til++bu 1 (m.ents.length:Int)) _ E (by rw[y];simp only[ax];rfl);have a8:=kj (B:=B) (P:=bu 1 21++(bu 2 (m.vendor.length:Int)++m.vendor)++bu 4 m.ver++bu 4 m.flr++bu 6 m.frm++bu 6 m.til++bu 1 (m.ents.length:Int)++(m.ents.map oQ).flatten) 1 (by rw[y];simp only[ax];rfl) (cT 1 (m.ruls.length:Int));have a9:=um (B:=B) m.ruls [] (bu 1 21++(bu 2 (m.vendor.length:Int)++m.vendor)++bu 4 m.ver++bu 4 m.flr++bu 6 m.frm++bu 6 m.til++bu 1 (m.ents.length:Int)++(m.ents.map oQ).flatten++bu 1 (m.ruls.length:Int)) [] C (by rw[y];simp only[ax])
 rw[jE 1 21 (by omega) (by rw[pp1];omega) (by omega)]at H;rw[jE 4 m.ver (by omega) (by rw[pp4];omega) (by omega)]at a2;rw[jE 4 m.flr (by omega) (by rw[pp4];omega) (by omega)]at a3;rw[jE 6 m.frm (by omega) (by rw[pp6];omega) (by omega)]at a4;rw[jE 6 m.til (by omega) (by rw[pp6];omega) (by omega)]at a5;rw[jE 1 (m.ents.length:Int) (by omega) (by rw[pp1];omega) (by omega)]at a6;rw[jE 1 (m.ruls.length:Int) (by omega) (by rw[pp1];omega) (by omega)]at a8;rw[bl,aK]at H;have U:=(congrArg (fun z:Int×Rs=>bR B 12 z.2) H).trans a1;change hV B=_ at U;have T:=(congrArg (fun z:t6×Rs=>uR B 4 z.2) U).trans a2;change hE B=_ at T;have W:=(congrArg (fun z:Int×Rs=>uR B 4 z.2) T).trans a3;change hF B=_ at W;have J:=(congrArg (fun z:Int×Rs=>uR B 6 z.2) W).trans a4;change hM B=_ at J;have L:=(congrArg (fun z:Int×Rs=>uR B 6 z.2) J).trans a5;change hT B=_ at L;have q6:=(congrArg (fun z:Int×Rs=>uR B 1 z.2) L).trans a6;change hN B=_ at q6;have I:=(congrArg (fun z:Int×Rs=>fv B z.1.toNat [] z.2) q6).trans a7;change hL B=_ at I;have q8:=(congrArg (fun z:List Ent×Rs=>uR B 1 z.2) I).trans a8;change hK B=_ at q8;have Z:=(congrArg (fun z:Int×Rs=>ft B z.1.toNat [] z.2) q8).trans a9;change hR B=_ at Z
 have hm:sd B=m:=by unfold sd;rw[U,T,W,J,L,I,Z];rfl
 have F:eR B (hR B).2=0:=by
  rw[Z];unfold eR;rw[if_pos rfl,if_neg];simp only
  conv=>rhs;rw[y]
  simp only[ax,bf];omega
 unfold wE;rw[if_pos ⟨by rw[H],F,by rw[hm];exact h⟩,hm]
theorem yh(B:t6)(m:Nat)(s:Rs):(bR B m s).1.length<=m:=by
 unfold bR;split
 ·split
  ·split
   ·split
    ·rename_i h _;show(dn _ _).length<=_;rw[aA];omega
    ·exact bD _
   ·exact bD _
  ·exact bD _
 ·exact bD _
theorem ZO(B:t6)(m:Nat)(s:Rs):(wR B m s).1.length<=m:=by
 unfold wR;split
 ·split
  ·show(dn _ _).length<=_;rw[aA];omega
  ·exact bD _
 ·exact bD _
theorem sY(B:t6)(s:Rs):0<=(uR B 1 s).1/\(uR B 1 s).1<256:=by
 unfold uR;split
 ·split
  ·have h:=NZ ((B.drop s.a).take 1)
   have y:((B.drop s.a).take 1).length<=1:=by rw[aA];omega
   have z:256^((B.drop s.a).take 1).length<=256^1:=Nat.pow_le_pow_right (by decide) y;have C:(256:Nat)^1=256:=by decide
   constructor
   ·exact Int.natCast_nonneg _
   ·show((nB _:Nat):Int)<256;omega
  ·exact⟨Int.le_refl _,by show(0:Int)<256;decide⟩
 ·exact⟨Int.le_refl _,by show(0:Int)<256;decide⟩
theorem uU{B:t6}:∀{n:Nat}{es:List Ent}{s:Rs},(∀x∈es,x.name.length<=12/\x.dig.length<=32)->∀x∈(fv B n es s).1,x.name.length<=12/\x.dig.length<=32
 |0,_,_,h=>h
 |n+1,es,s,h=>by
  unfold fv;split
  ·refine uU fun x y=> ?_
   rw[ak,aW]at y;rcases y with y|rfl
   ·exact h x y
   ·exact⟨yh _ _ _,ZO _ _ _⟩
  ·exact h
theorem ul{B:t6}:∀{n:Nat}{es:List Rul}{s:Rs},(∀x∈es,x.text.length<=32)->∀x∈(ft B n es s).1,x.text.length<=32
 |0,_,_,h=>h
 |n+1,es,s,h=>by
  unfold ft;split
  ·refine ul fun x y=> ?_
   rw[ak,aW]at y;rcases y with y|rfl
   ·exact h x y
   ·exact yh _ _ _
  ·exact h
theorem BL(B:t6):gu (sd B):=by
 have y:=rf (B:=B) (n:=(hN B).1.toNat) (es:=[]) (s:=(hN B).2);have C:=qG (B:=B) (n:=(hK B).1.toNat) (es:=[]) (s:=(hK B).2);have z:=sY B (hT B).2;have E:=sY B (hL B).2;change 0<=(hN B).1/\(hN B).1<256 at z;change 0<=(hK B).1/\(hK B).1<256 at E;rw[bl]at y C
 exact⟨by have:=yh B 12 (uR B 1 ⟨0,0⟩).2;show(hV B).1.length<=_;unfold hV;omega,by show(hL B).1.length<=_;unfold hL;omega,by show(hR B).1.length<=_;unfold hR;omega,
  fun x h=>by have:=uU (B:=B) (n:=(hN B).1.toNat) (es:=[]) (s:=(hN B).2) (fun x h=>by cases h) x h;omega,
  fun x h=>by have:=ul (B:=B) (n:=(hK B).1.toNat) (es:=[]) (s:=(hK B).2) (fun x h=>by cases h) x h;omega⟩
def mnz:Man:=⟨[],0,0,0,0,[],[]⟩
def xc6(B:t6):Man:=match wE B with|some m=>m|none=>mnz
def xc7(B:t6):Int:=match wE B with|some _=>0|none=>30
theorem xjt(B:t6)(F:B.length<=1000000000)(v:t6)(y fl fr z:Int)(es:List Ent)(s:Rs)(H:gk B s)(t:Tok)(tk:t8)(h:Nat)
 (E:t= .clip/\tk=[]/\es=[]\/t= .id 160/\tk=[160]) (C:h=34060\/h=55060\/h=39060):
 run T (.ops pV) ⟨[(2,.ptr 102 0),(4,.ptr 12100 0),(5,.ptr 105 0)],[(102,zR),(105,mR v y fl fr z es t [] .clip),(12100,rdO B h s)],tk++ [h]⟩=
  some (.n,⟨[(2,.ptr 102 0),(4,.ptr 12100 0),(5,.ptr 105 0),(8,.int .i64 (uR B 1 s).1)],[(102,zR),(105,mR v y fl fr z es t [] .clip),(12100,rdO B 64060 (uR B 1 s).2)],tk++ [64060]⟩):=by
 have g:=f51 B F 1 (by omega) (by omega) s H;rw[show((1:Nat):Int)=1 from rfl]at g;simp only[zR,mR,rdO]at g ⊢;rcases E with⟨rfl,rfl,rfl⟩|⟨rfl,rfl⟩<;>rcases C with rfl|rfl|rfl<;>simp only[go_sem,Q0,Q1,Q2,Q3,Q4,Q5,Q6,Q7,Q8,Q9,Qa,Qb,Qc,Qd,Qe,Qf,Qg,Qh,Qi,Qj,Qk,reduceCtorEq,reduceIte,g,wP]
theorem xjs(B:t6)(L:B.length<=1000000000)(v:t6)(y fl fr h:Int)(es:List Ent)(s:Rs)(O:gk B s)(t:Tok)(tk:t8)(rs:List Rul)(u:Tok)(C:t8)(z:Nat)
 (J:gu ⟨v,y,fl,fr,h,es,rs⟩)
 (F:t= .clip/\tk=[]/\es=[]\/t= .id 160/\tk=[160]) (hu:u= .clip/\C=[]/\rs=[]\/u= .id 190/\C=[190]) (E:z=64060\/z=85060\/z=69060):
 run T (.ops pU) ⟨[(2,.ptr 102 0),(4,.ptr 12100 0),(5,.ptr 105 0)],[(102,zR),(105,mR v y fl fr h es t rs u),(12100,rdO B z s)],tk++(C++ [z])⟩=
  some (.n,⟨[(2,.ptr 102 0),(5,.ptr 105 0),(99,.bool (!decide (eR B s=0/\gJ ⟨v,y,fl,fr,h,es,rs⟩=0)))],[(102,zR),(105,mR v y fl fr h es t rs u),(12100,rdO B 94060 s)],tk++(C++ [94060])⟩):=by
 have g:=f55 B L s O;have gm:=f13 ⟨v,y,fl,fr,h,es,rs⟩ J;generalize gJ ⟨v,y,fl,fr,h,es,rs⟩=q at*;generalize eR B s=p at*
 by_cases I:p=0
 ·subst I
  by_cases H:q=0
  ·subst H
   simp only[zR,mR,rdO,Man.sv]at g gm ⊢;rcases F with⟨rfl,rfl,rfl⟩|⟨rfl,rfl⟩<;>rcases hu with⟨rfl,rfl,rfl⟩|⟨rfl,rfl⟩<;>rcases E with rfl|rfl|rfl<;>simp only[go_sem,Q0,Q1,Q2,Q3,Q4,Q5,Q6,Q7,Q8,Q9,Qa,Qb,Qc,Qd,Qe,Qf,Qg,Qh,Qi,Qj,Qk,reduceCtorEq,reduceIte,g,xde,gm,nb]
  ·simp only[zR,mR,rdO,Man.sv]at g gm ⊢
   rcases F with⟨rfl,rfl,rfl⟩|⟨rfl,rfl⟩<;>rcases hu with⟨rfl,rfl,rfl⟩|⟨rfl,rfl⟩<;>rcases E with rfl|rfl|rfl<;>simp only[go_sem,Q0,Q1,Q2,Q3,Q4,Q5,Q6,Q7,Q8,Q9,Qa,Qb,Qc,Qd,Qe,Qf,Qg,Qh,Qi,Qj,Qk,reduceCtorEq,reduceIte,g,xde,gm,nb,H]
 ·simp only[zR,mR,rdO,Man.sv]at g gm ⊢
  rcases F with⟨rfl,rfl,rfl⟩|⟨rfl,rfl⟩<;>rcases hu with⟨rfl,rfl,rfl⟩|⟨rfl,rfl⟩<;>rcases E with rfl|rfl|rfl<;>simp only[go_sem,Q0,Q1,Q2,Q3,Q4,Q5,Q6,Q7,Q8,Q9,Qa,Qb,Qc,Qd,Qe,Qf,Qg,Qh,Qi,Qj,Qk,reduceCtorEq,reduceIte,g,xde,I]
attribute [-go_sem] pV pU
theorem f17(B:t6)(y:B.length<=1000000000):call T 17 [.byt B .no] [] 0=some ⟨.tup [.agg (xc6 B).sv,.int .i64 (xc7 B)],[],[]⟩:=by
 have g0:=f50 B y;have k0:gk B ⟨0,0⟩:=⟨bD _⟩;have E:=f51 B y 1 (by omega) (by omega) ⟨0,0⟩ k0;have k1:=ia (n:=1) k0;have L:=f52 B y 12 (by omega) _ k1;have k2:gk B (hV B).2:=wK (n:=12) k1;have O:=f51 B y 4 (by omega) (by omega) _ k2;have k3:gk B (hE B).2:=ia (n:=4) k2;have U:=f51 B y 4 (by omega) (by omega) _ k3;have k4:gk B (hF B).2:=ia (n:=4) k3;have J:=f51 B y 6 (by omega) (by omega) _ k4;have k5:gk B (hM B).2:=ia (n:=6) k4;have W:=f51 B y 6 (by omega) (by omega) _ k5;have k6:gk B (hT B).2:=ia (n:=6) k5;have Q:=f51 B y 1 (by omega) (by omega) _ k6;have k7:gk B (hN B).2:=ia (n:=1) k6;have n1:=sY B (hT B).2;have n2:=sY B (hL B).2;change 0<=(hN B).1/\(hN B).1<256 at n1;change 0<=(hK B).1/\(hK B).1<256 at n2;have nn:(hN B).1=(((hN B).1.toNat:Nat):Int):=by omega
 have nk:(hK B).1=(((hK B).1.toNat:Nat):Int):=by omega
 obtain⟨H,tk',t1,q1,q2,F⟩:=xjO B y (hV B).1 (hE B).1 (hF B).1 (hM B).1 (hT B).1 (hN B).1.toNat [] (hN B).2 .clip [] 34060 (by rw[bl];omega) k7 (.inl ⟨rfl,rfl,rfl⟩) (.inl rfl);have k8:gk B (hL B).2:=uT k7;have g8:=f51 B y 1 (by omega) (by omega) _ k8;have k9:gk B (hK B).2:=ia (n:=1) k8;have gm:=f13 (sd B) (BL B);change (H= .clip/\tk'=[]/\(hL B).1=[]\/H= .id 160/\tk'=[160])at q1;obtain⟨u',a2,u1,r1,r2,r3⟩:=xjN B y (hV B).1 (hE B).1 (hF B).1 (hM B).1 (hT B).1 (hL B).1 H tk' q1 (hK B).1.toNat [] (hK B).2 .clip [] 64060 (by rw[bl];omega) k9 (.inl ⟨rfl,rfl,rfl⟩) (.inl rfl);have Z:gk B (hR B).2:=uj k9;have g9:=f55 B y _ Z;change _/\_/\(hR B).1=[]\/_ at r1;rw[<-nn]at F;rw[<-nk]at r3;change run T _ _=some (Ex.x 0,⟨_,[_,(105,mR _ _ _ _ _ (hL B).1 H [] .clip),(12100,rdO B t1 (hL B).2)],_⟩)at F;change run T _ _=some (Ex.x 2,⟨_,[_,(105,mR _ _ _ _ _ (hL B).1 H (hR B).1 u'),(12100,rdO B u1 (hR B).2)],_⟩)at r3;change call T 51 _ _ _=some ⟨.int .i64 (hE B).1,[(0,rdO B 60 (hE B).2)],[60]⟩at O;change call T 51 _ _ _=some ⟨.int .i64 (hF B).1,[(0,rdO B 60 (hF B).2)],[60]⟩at U;change call T 51 _ _ _=some ⟨.int .i64 (hM B).1,[(0,rdO B 60 (hM B).2)],[60]⟩at J;change call T 51 _ _ _=some ⟨.int .i64 (hT B).1,[(0,rdO B 60 (hT B).2)],[60]⟩at W;change call T 51 _ _ _=some ⟨.int .i64 (hN B).1,[(0,rdO B 60 (hN B).2)],[60]⟩at Q;change call T 51 _ _ _=some ⟨.int .i64 (hK B).1,[(0,rdO B 60 (hK B).2)],[60]⟩at g8;change call T 52 _ _ _=some ⟨.byt (hV B).1 .no,[(0,rdO B 60 (hV B).2)],[60]⟩at L
 have o1:=xjt B y (hV B).1 (hE B).1 (hF B).1 (hM B).1 (hT B).1 (hL B).1 (hL B).2 k8 H tk' t1 q1 q2;have I:=xjs B y (hV B).1 (hE B).1 (hF B).1 (hM B).1 (hT B).1 (hL B).1 (hR B).2 Z H tk' (hR B).1 u' a2 u1 (BL B) q1 r1 r2;change run T _ _=some (Ex.n,⟨[_,_,_,(8,SV.int .i64 (hK B).1)],[_,_,(12100,rdO B 64060 (hK B).2)],_⟩)at o1;change run T _ _=some (Ex.n,⟨[_,_,(99,SV.bool (!decide (eR B (hR B).2=0/\gJ (sd B)=0)))],_,_⟩)at I
 have a0:wE B=if(uR B 1 ⟨0,0⟩).1=21/\eR B (hR B).2=0/\gJ (sd B)=0 then some (sd B)else none:=by unfold wE okP;rfl
 have a1:(sd B).sv=[.str (hV B).1,.int .i64 (hE B).1,.int .i64 (hF B).1,.int .i64 (hM B).1,.int .i64 (hT B).1,.lst 4 (cd (hL B).1) .no,.lst 4 (fk (hR B).1) .no]:=rfl;have z:cd []=[]:=rfl;have C:fk []=[]:=rfl;rw[show((1:Nat):Int)=1 from rfl]at E Q;rw[show((12:Nat):Int)=12 from rfl]at L;rw[show((4:Nat):Int)=4 from rfl]at O U;rw[show((6:Nat):Int)=6 from rfl]at J W;unfold xc6 xc7;rw[a0];rw[au xlD];simp only[aK]at F r3
 by_cases ht:(uR B 1 ⟨0,0⟩).1=21
 ·by_cases hb:eR B (hR B).2=0/\gJ (sd B)=0
  ·rw[if_pos ⟨ht,hb⟩]
   rw[decide_eq_true hb]at I;simp only[a1];simp only[zR,mR,rdO,z,C,aD]at g0 E L O U J W Q F r3 o1 I;rw[ht]at E;simp only[go_sem,Q0,Q1,Q2,Q3,Q4,Q5,Q6,Q7,Q8,Q9,Qa,Qb,Qc,Qd,Qe,Qf,Qg,Qh,Qi,Qj,Qk,reduceCtorEq,reduceIte,g0,xdf,E,wP,L,Ec,O,U,J,W,Q,F,o1,r3,I]
  ·rw[if_neg (fun h=>hb h.2)]
   rw[decide_eq_false hb]at I;simp only[zR,mR,rdO,z,C,aD]at g0 E L O U J W Q F r3 o1 I;rw[ht]at E;simp only[go_sem,Q0,Q1,Q2,Q3,Q4,Q5,Q6,Q7,Q8,Q9,Qa,Qb,Qc,Qd,Qe,Qf,Qg,Qh,Qi,Qj,Qk,reduceCtorEq,reduceIte,g0,xdf,E,wP,L,Ec,O,U,J,W,Q,F,o1,r3,I];rcases q1 with⟨rfl,rfl,hz⟩|⟨rfl,rfl⟩<;>rcases r1 with⟨rfl,rfl,a3⟩|⟨rfl,rfl⟩<;>simp only[go_sem,Q0,Q1,Q2,Q3,Q4,Q5,Q6,Q7,Q8,Q9,Qa,Qb,Qc,Qd,Qe,Qf,Qg,Qh,Qi,Qj,Qk,reduceCtorEq,reduceIte,z,C,mnz,Man.sv]
 ·rw[if_neg (fun h=>ht h.1)]
  simp only[zR,mR,rdO,z,C,aD]at g0 E;simp only[go_sem,Q0,Q1,Q2,Q3,Q4,Q5,Q6,Q7,Q8,Q9,Qa,Qb,Qc,Qd,Qe,Qf,Qg,Qh,Qi,Qj,Qk,reduceCtorEq,reduceIte,g0,xdf,E,wP,ht,mnz,Man.sv,z,C]
attribute [go_sem] pV pU
end Go.Proofs.YtkcjdeofknkndaaGreatDoor
