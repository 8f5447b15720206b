/- Contracts. No condition. -/
import Derived.Test.YtdafipacemgcoaaGreatDoorTiMD
open Int renaming natCast_zero -> aH, toNat_natCast -> gP
open Go.IntKind renaming i64 -> aj, u64 -> bd, wrap_u64 -> cz
open List renaming Pairwise -> iI, drop_eq_getElem_cons -> aU, drop_length -> bh, drop_zero -> bi, foldl_cons -> cx, getD_cons_succ -> bF, getD_cons_zero -> bp, getD_eq_getElem?_getD -> aa, getElem?_eq_getElem -> af, getElem_of_mem -> bl, length_append -> ah, length_cons -> av, length_drop -> aE, length_eq_zero_iff -> bP, length_nil -> bg, length_take -> aD, map_append -> dh, map_cons -> aO, mem_cons -> an, mem_cons_of_mem -> aq, mem_cons_self -> ax, mem_singleton -> aN, pairwise_append -> dP, pairwise_cons -> bA, pairwise_iff_getElem -> gZ, take -> dj, take_length -> bt
open Nat renaming add_mul -> bD, le_refl -> aI, zero_le -> cu
open Option renaming getD_some -> ba
set_option maxRecDepth 100000
set_option maxHeartbeats 16000000
set_option linter.unusedSimpArgs false
set_option linter.unusedVariables false
namespace Go.Proofs.YtdafipacemgcoaaGreatDoor
open Go.Sy
open UInt8 renaming reduceLT -> Q0, reduceLE -> Q1
open Int renaming reduceToNat -> Q2, reduceLE -> Q3, reduceLT -> Q4, reduceEq -> Q5, reduceNe -> Q6, reduceNeg -> Q7, reduceAdd -> Q8, reduceSub -> Q9, reduceMul -> Qa
open Nat renaming reducePow -> Qb, reduceDiv -> Qc, reduceMod -> Qd, reduceAdd -> Qe, reduceSub -> Qf, reduceMul -> Qg, reduceLT -> Qh, reduceLeDiff -> Qi, reduceEqDiff -> Qj, reduceBEq -> Qk
def ckO(h:List Man)(e:Ev)(p:Int×Int):Bool:=
 if e.kind=5 then(decide (p.1= -1)&&decide (p.2= -1))else if e.kind=2 then(decide (p.1= -1)&&decide (p.2= -1))
 else if p.1<0 then false else if(h.length:Int)<=p.1 then false else if p.2<0 then false else decide (fq (h.getD p.1.toNat mn0) e=p.2)
def ckL(h:List Man):List Ev->List (Int×Int)->Bool
 |e::r,p::q=>if ckO h e p=true then ckL h r q else false
 |_,_=>true
def ckV(h:List Ev)(z:List Man)(rs:List (Int×Int)):Bool:=if exE h z=0 then(if(rs.length:Int)=h.length then ckL z h rs else false)else false
theorem s16(a z:Int)(B:List Ev)(he:nA B)(H:List Man)(hm:p6 H)(rs:List (Int×Int))(hl:rs.length=B.length)(i:Nat)(hi:i<B.length):
 (ckO H (B.getD i ev0) (rs.getD i (0,0))=true->run T (.loop lD) ⟨[(1,.lst 7 (ld H) .no),(2,.lst 2 (rsv rs) .no),(31,.lst 4 (eG B) .no),(32,.int .i64 B.length),(33,.int .i64 i)],[(103,.rc [.int .i64 a,.int .i64 z,.lst 4 (eG B) .no])],[]⟩=
  run T (.loop lD) ⟨[(1,.lst 7 (ld H) .no),(2,.lst 2 (rsv rs) .no),(31,.lst 4 (eG B) .no),(32,.int .i64 B.length),(33,.int .i64 ((i+1:Nat):Int))],[(103,.rc [.int .i64 a,.int .i64 z,.lst 4 (eG B) .no])],[]⟩)/\
 (ckO H (B.getD i ev0) (rs.getD i (0,0))=false->∃ob,run T (.loop lD) ⟨[(1,.lst 7 (ld H) .no),(2,.lst 2 (rsv rs) .no),(31,.lst 4 (eG B) .no),(32,.int .i64 B.length),(33,.int .i64 i)],[(103,.rc [.int .i64 a,.int .i64 z,.lst 4 (eG B) .no])],[]⟩=
  some (.r,⟨[(6,.bool false)],ob,[]⟩)):=by
 have hn:=he.n;have L:=cA i (by omega);have Q:=qV B i hi;have O:=gE B;have C:i<rs.length:=by omega
 have F:=rK rs i C;have E:=kJ rs;have W:=kb H;have a0:=he.get hi;unfold ckO;generalize B.getD i ev0=e at*;generalize rs.getD i (0,0)=p at*;have a7:∀k:Nat,k<H.length->call T 15 [.agg (H.getD k mn0).sv,.agg e.sv] [] 0=some ⟨.int .i64 (fq (H.getD k mn0) e),[],[]⟩:=fun k hk=>f15 _ (hm.m _ (cJ H mn0 k hk)) e a0
 have a8:∀k:Nat,k<H.length->(ld H).getD k []=(H.getD k mn0).sv:=fun k hk=>oZ H k hk
 clear he a0 hm;obtain⟨p1,I⟩:=p;obtain⟨Z,k,ds,b⟩:=e;simp only[Ev.sv]at*
 by_cases h5:k=5
 ·subst h5
  by_cases q1:p1= -1
  ·subst q1
   by_cases q2:I= -1
   ·subst q2
    refine⟨fun _=> ?_,fun h=>by simp at h⟩;rw[al];simp only[go_sem,Q0,Q1,Q2,Q3,Q4,Q5,Q6,Q7,Q8,Q9,Qa,Qb,Qc,Qd,Qe,Qf,Qg,Qh,Qi,Qj,Qk,reduceCtorEq,reduceIte,hi,L,Q,O,C,F,E]
   ·refine⟨fun h=>by simp[q2]at h,fun _=>⟨[(103,.rc [.int .i64 a,.int .i64 z,.lst 4 (eG B) .no]),(111,.rc [.int .i64 Z,.int .i64 5,.lst 1 (bls ds) .no,.byt b .no]),(112,.rc [.int .i64 (-1),.int .i64 I])], ?_⟩⟩
    rw[al];simp only[go_sem,Q0,Q1,Q2,Q3,Q4,Q5,Q6,Q7,Q8,Q9,Qa,Qb,Qc,Qd,Qe,Qf,Qg,Qh,Qi,Qj,Qk,reduceCtorEq,reduceIte,hi,L,Q,O,C,F,E,q2]
  ·refine⟨fun h=>by simp[q1]at h,fun _=>⟨[(103,.rc [.int .i64 a,.int .i64 z,.lst 4 (eG B) .no]),(111,.rc [.int .i64 Z,.int .i64 5,.lst 1 (bls ds) .no,.byt b .no]),(112,.rc [.int .i64 p1,.int .i64 I])], ?_⟩⟩
   rw[al];simp only[go_sem,Q0,Q1,Q2,Q3,Q4,Q5,Q6,Q7,Q8,Q9,Qa,Qb,Qc,Qd,Qe,Qf,Qg,Qh,Qi,Qj,Qk,reduceCtorEq,reduceIte,hi,L,Q,O,C,F,E,q1]
 by_cases h2:k=2
 ·subst h2
  by_cases q1:p1= -1
  ·subst q1
   by_cases q2:I= -1
   ·subst q2
    refine⟨fun _=> ?_,fun h=>by simp at h⟩;rw[al];simp only[go_sem,Q0,Q1,Q2,Q3,Q4,Q5,Q6,Q7,Q8,Q9,Qa,Qb,Qc,Qd,Qe,Qf,Qg,Qh,Qi,Qj,Qk,reduceCtorEq,reduceIte,hi,L,Q,O,C,F,E]
   ·refine⟨fun h=>by simp[q2]at h,fun _=>⟨[(103,.rc [.int .i64 a,.int .i64 z,.lst 4 (eG B) .no]),(111,.rc [.int .i64 Z,.int .i64 2,.lst 1 (bls ds) .no,.byt b .no]),(112,.rc [.int .i64 (-1),.int .i64 I])], ?_⟩⟩
    rw[al];simp only[go_sem,Q0,Q1,Q2,Q3,Q4,Q5,Q6,Q7,Q8,Q9,Qa,Qb,Qc,Qd,Qe,Qf,Qg,Qh,Qi,Qj,Qk,reduceCtorEq,reduceIte,hi,L,Q,O,C,F,E,q2]
  ·refine⟨fun h=>by simp[q1]at h,fun _=>⟨[(103,.rc [.int .i64 a,.int .i64 z,.lst 4 (eG B) .no]),(111,.rc [.int .i64 Z,.int .i64 2,.lst 1 (bls ds) .no,.byt b .no]),(112,.rc [.int .i64 p1,.int .i64 I])], ?_⟩⟩
   rw[al];simp only[go_sem,Q0,Q1,Q2,Q3,Q4,Q5,Q6,Q7,Q8,Q9,Qa,Qb,Qc,Qd,Qe,Qf,Qg,Qh,Qi,Qj,Qk,reduceCtorEq,reduceIte,hi,L,Q,O,C,F,E,q1]
 rw[if_neg h5,if_neg h2]
 by_cases U:p1<0
 ·refine⟨fun h=>by simp[U]at h,fun _=>⟨[(103,.rc [.int .i64 a,.int .i64 z,.lst 4 (eG B) .no]),(111,.rc [.int .i64 Z,.int .i64 k,.lst 1 (bls ds) .no,.byt b .no]),(112,.rc [.int .i64 p1,.int .i64 I])], ?_⟩⟩
  rw[al];simp only[go_sem,Q0,Q1,Q2,Q3,Q4,Q5,Q6,Q7,Q8,Q9,Qa,Qb,Qc,Qd,Qe,Qf,Qg,Qh,Qi,Qj,Qk,reduceCtorEq,reduceIte,hi,L,Q,O,C,F,E,h5,h2,U]
 by_cases a2:(H.length:Int)<=p1
 ·refine⟨fun h=>by simp[U,a2]at h,fun _=>⟨[(103,.rc [.int .i64 a,.int .i64 z,.lst 4 (eG B) .no]),(111,.rc [.int .i64 Z,.int .i64 k,.lst 1 (bls ds) .no,.byt b .no]),(112,.rc [.int .i64 p1,.int .i64 I])], ?_⟩⟩
  rw[al];simp only[go_sem,Q0,Q1,Q2,Q3,Q4,Q5,Q6,Q7,Q8,Q9,Qa,Qb,Qc,Qd,Qe,Qf,Qg,Qh,Qi,Qj,Qk,reduceCtorEq,reduceIte,hi,L,Q,O,C,F,E,h5,h2,U,a2,W]
 by_cases a3:I<0
 ·refine⟨fun h=>by simp[U,a2,a3]at h,fun _=>⟨[(103,.rc [.int .i64 a,.int .i64 z,.lst 4 (eG B) .no]),(111,.rc [.int .i64 Z,.int .i64 k,.lst 1 (bls ds) .no,.byt b .no]),(112,.rc [.int .i64 p1,.int .i64 I])], ?_⟩⟩
  rw[al];simp only[go_sem,Q0,Q1,Q2,Q3,Q4,Q5,Q6,Q7,Q8,Q9,Qa,Qb,Qc,Qd,Qe,Qf,Qg,Qh,Qi,Qj,Qk,reduceCtorEq,reduceIte,hi,L,Q,O,C,F,E,h5,h2,U,a2,a3,W]
 rw[if_neg U,if_neg a2,if_neg a3];obtain⟨q,rfl⟩:=Int.eq_ofNat_of_zero_le (by omega:0<=p1);rw[gP];have hq:q<H.length:=by omega
 have S:=a7 q hq;have J:=a8 q hq;have a9:¬(q:Int)<0:=U;have a5:(q:Int)<(H.length:Int):=by omega
 have a6:(0:Int)<=(q:Int):=by omega
 generalize H.getD q mn0=m at*;obtain⟨mv,m1,m2,m3,m4,es,rl⟩:=m;simp only[Man.sv]at S J;generalize fq ⟨mv,m1,m2,m3,m4,es,rl⟩ ⟨Z,k,ds,b⟩=zz at*
 by_cases a4:zz=I
 ·subst a4
  refine⟨fun _=> ?_,fun h=>by simp at h⟩;rw[al];simp only[go_sem,Q0,Q1,Q2,Q3,Q4,Q5,Q6,Q7,Q8,Q9,Qa,Qb,Qc,Qd,Qe,Qf,Qg,Qh,Qi,Qj,Qk,reduceCtorEq,reduceIte,hi,L,Q,O,C,F,E,h5,h2,U,a2,a3,W,S,Rd,J,hq,a5,a6]
 ·refine⟨fun h=>by simp[a4]at h,fun _=>⟨[(103,.rc [.int .i64 a,.int .i64 z,.lst 4 (eG B) .no]),(111,.rc [.int .i64 Z,.int .i64 k,.lst 1 (bls ds) .no,.byt b .no]),(112,.rc [.int .i64 q,.int .i64 I])], ?_⟩⟩
  rw[al];simp only[go_sem,Q0,Q1,Q2,Q3,Q4,Q5,Q6,Q7,Q8,Q9,Qa,Qb,Qc,Qd,Qe,Qf,Qg,Qh,Qi,Qj,Qk,reduceCtorEq,reduceIte,hi,L,Q,O,C,F,E,h5,h2,U,a2,a3,W,S,Rd,J,hq,a5,a6,a4]
theorem l16(a z:Int)(B:List Ev)(J:nA B)(C:List Man)(H:p6 C)(rs:List (Int×Int))(E:rs.length=B.length):∀(n i:Nat),B.length-i=n->i<=B.length->
 (ckL C (B.drop i) (rs.drop i)=true->run T (.loop lD) ⟨[(1,.lst 7 (ld C) .no),(2,.lst 2 (rsv rs) .no),(31,.lst 4 (eG B) .no),(32,.int .i64 B.length),(33,.int .i64 i)],[(103,.rc [.int .i64 a,.int .i64 z,.lst 4 (eG B) .no])],[]⟩=some (.x 0,⟨[],[(103,.rc [.int .i64 a,.int .i64 z,.lst 4 (eG B) .no])],[]⟩))/\
 (ckL C (B.drop i) (rs.drop i)=false->∃ob,run T (.loop lD) ⟨[(1,.lst 7 (ld C) .no),(2,.lst 2 (rsv rs) .no),(31,.lst 4 (eG B) .no),(32,.int .i64 B.length),(33,.int .i64 i)],[(103,.rc [.int .i64 a,.int .i64 z,.lst 4 (eG B) .no])],[]⟩=
  some (.r,⟨[(6,.bool false)],ob,[]⟩)):=by
 intro n;induction n with
 |zero=>
  intro i F I;have hi:i=B.length:=by omega
  subst hi;rw[bh];refine⟨fun _=> ?_,fun h=>by simp[ckL]at h⟩;rw[al];simp only[go_sem,Q0,Q1,Q2,Q3,Q4,Q5,Q6,Q7,Q8,Q9,Qa,Qb,Qc,Qd,Qe,Qf,Qg,Qh,Qi,Qj,Qk,reduceCtorEq,reduceIte]
 |succ n Q=>
  intro i F I;have hi:i<B.length:=by omega
  obtain⟨s1,s2⟩:=s16 a z B J C H rs E i hi;obtain⟨O,L⟩:=Q (i+1) (by omega) (by omega);rw[uL B i hi,mL rs (0,0) i (by omega)];unfold ckL;cases h:ckO C (B.getD i ev0) (rs.getD i (0,0))with
  |true=>rw[if_pos rfl,s1 h];exact⟨O,L⟩
  |false=>rw[if_neg (by simp)];exact⟨fun h=>by simp at h,fun _=>s2 h⟩
theorem f16(a z:Int)(h:List Ev)(Q:nA h)(C:List Man)(O:p6 C)(rs:List (Int×Int)):
 call T 16 [.agg [.int .i64 a,.int .i64 z,.lst 4 (eG h) .no],.lst 7 (ld C) .no,.lst 2 (rsv rs) .no] [] 0=some ⟨.bool (ckV h C rs),[],[]⟩:=by
 have g:=f12 a z h Q C O;have J:=gE h;have E:=kJ rs;have S:=l16 a z h Q C O rs;rw[az xlm];unfold ckV;unfold exS at g
 by_cases F:exE h C=0
 ·rw[F]at g
  by_cases H:rs.length=h.length
  ·have B:(rs.length:Int)=(h.length:Int):=by omega
   obtain⟨k1,k2⟩:=S H _ 0 rfl (by omega);simp only[aH,bi]at k1 k2;cases hk:ckL C h rs with
   |true=>have I:=k1 hk;simp only[go_sem,Q0,Q1,Q2,Q3,Q4,Q5,Q6,Q7,Q8,Q9,Qa,Qb,Qc,Qd,Qe,Qf,Qg,Qh,Qi,Qj,Qk,reduceCtorEq,reduceIte,g,wS,F,J,E,B,H,I,hk]
   |false=>obtain⟨ob,L⟩:=k2 hk;simp only[go_sem,Q0,Q1,Q2,Q3,Q4,Q5,Q6,Q7,Q8,Q9,Qa,Qb,Qc,Qd,Qe,Qf,Qg,Qh,Qi,Qj,Qk,reduceCtorEq,reduceIte,g,wS,F,J,E,B,H,L,hk]
  ·have B:¬(rs.length:Int)=(h.length:Int):=by omega
   simp only[go_sem,Q0,Q1,Q2,Q3,Q4,Q5,Q6,Q7,Q8,Q9,Qa,Qb,Qc,Qd,Qe,Qf,Qg,Qh,Qi,Qj,Qk,reduceCtorEq,reduceIte,g,wS,F,J,E,B,H]
 ·simp only[go_sem,Q0,Q1,Q2,Q3,Q4,Q5,Q6,Q7,Q8,Q9,Qa,Qb,Qc,Qd,Qe,Qf,Qg,Qh,Qi,Qj,Qk,reduceCtorEq,reduceIte,g,wS,F]
def bu(k:Nat)(v:Int):t6:=be k (bd.wrap v)
def hdM(m:Man):t6:=kU ([]++bu 1 21) m.vendor++bu 4 m.ver++bu 4 m.flr++bu 6 m.frm++bu 6 m.til++bu 1 (m.ents.length:Int)
theorem eM(k:Nat)(v:Int):(bu k v).length=k:=eg ..
theorem kx(B:t6)(k:Nat)(v:Int)(h:1<=k)(C:k<=8)(z:B.length<=10000000000000):
 call T 117 [.byt B .no,.int .i64 k,.int .i64 v] [] 0=some ⟨.byt (B++bu k v) (.id 60),[],[60]⟩:=Yv B k v h C z
def uP(B:t6)(x:Ent):t6:=kU (B++bu 1 x.role) x.name++bu 4 x.ver++x.dig
def qx(B:t6)(r:Rul):t6:=kU (B++bu 1 r.kind) r.text++bu 4 r.lo++bu 4 r.hi
theorem uO(B:t6)(x:Ent)(hn:x.name.length<=1000000)(hd:x.dig.length<=1000000):(uP B x).length<=B.length+2000007:=by unfold uP;rw[ah,ah,dy,ah,eM,eM];omega
theorem ul(B:t6)(x:Rul)(hn:x.text.length<=1000000):(qx B x).length<=B.length+2000007:=by unfold qx;rw[ah,ah,dy,ah,eM,eM,eM];omega
def tkA:Bool->t8
 |false=> [103,12060,17060,21060,24060,28060,31060]
 |true=> [103,12060,17060,21060,24060,28060,31060,51060]
theorem xd2(m:Man)(z:jL m)(b:Bool)(i:Nat)(hi:i<m.ents.length)(B:t6)(hB:B.length<=1000000000):
 run T (.loop ma) ⟨[(1,.ptr 101 0),(3,.byt B (.id 103)),(37,.lst 4 (cO m.ents) .no),(38,.int .i64 m.ents.length),(39,.int .i64 i)],[(101,.rc m.sv)],tkA b⟩=
 run T (.loop ma) ⟨[(1,.ptr 101 0),(3,.byt (uP B (m.ents.getD i en0)) (.id 103)),(37,.lst 4 (cO m.ents) .no),(38,.int .i64 m.ents.length),(39,.int .i64 ((i+1:Nat):Int))],[(101,.rc m.sv)],tkA true⟩:=by
 have k1:((1:Nat):Int)=1:=rfl;have Q:((4:Nat):Int)=4:=rfl;have U:=z.en;have J:=cA i (by omega);have O:=eE m.ents i hi;have h:=dd m.ents;obtain⟨Z,W⟩:=z.e _ (cJ m.ents en0 i hi);clear z;generalize m.ents.getD i en0=x at*;unfold uP;have H:=kx B 1 x.role (by omega) (by omega) (by omega);rw[k1]at H;have n1:(B++bu 1 x.role).length<=1000000001:=by rw[ah,eM];omega
 generalize B++bu 1 x.role=C at*;have I:=P0 C x.name (by omega) (by omega);have n2:(kU C x.name).length<=1010000000:=by rw[dy];omega
 generalize kU C x.name=F at*;have E:=kx F 4 x.ver (by omega) (by omega) (by omega);rw[Q]at E;have n3:(F++bu 4 x.ver).length<=1010000004:=by rw[ah,eM];omega
 generalize F++bu 4 x.ver=S at*;have L:S.length+x.dig.length<=140737488355328:=by omega
 obtain⟨mv,m1,m2,m3,m4,es,rs⟩:=m;obtain⟨x1,x2,x3,x4⟩:=x;simp only[Man.sv,Ent.sv]at*;cases b with
 |false=>rw[al];simp only[tkA];simp only[go_sem,Q0,Q1,Q2,Q3,Q4,Q5,Q6,Q7,Q8,Q9,Qa,Qb,Qc,Qd,Qe,Qf,Qg,Qh,Qi,Qj,Qk,reduceCtorEq,reduceIte,hi,J,O,h,H,I,E,L,jK,ll]
 |true=>rw[al];simp only[tkA];simp only[go_sem,Q0,Q1,Q2,Q3,Q4,Q5,Q6,Q7,Q8,Q9,Qa,Qb,Qc,Qd,Qe,Qf,Qg,Qh,Qi,Qj,Qk,reduceCtorEq,reduceIte,hi,J,O,h,H,I,E,L,jK,ll]
theorem xfU(m:Man)(E:jL m)(O:m.ents.length<=16):∀(n i:Nat)(b:Bool)(B:t6),m.ents.length-i=n->i<=m.ents.length->B.length<=20000000+i*2000007->
 ∃H,run T (.loop ma) ⟨[(1,.ptr 101 0),(3,.byt B (.id 103)),(37,.lst 4 (cO m.ents) .no),(38,.int .i64 m.ents.length),(39,.int .i64 i)],[(101,.rc m.sv)],tkA b⟩=
 some (.x 0,⟨[(1,.ptr 101 0),(3,.byt ((m.ents.drop i).foldl uP B) (.id 103))],[(101,.rc m.sv)],tkA H⟩):=by
 intro n;induction n with
 |zero=>
  intro i b B J I F;have:i=m.ents.length:=by omega
  subst this;refine⟨b, ?_⟩;rw[bh,List.foldl_nil,al];cases b with
  |false=>simp only[tkA];simp only[go_sem,Q0,Q1,Q2,Q3,Q4,Q5,Q6,Q7,Q8,Q9,Qa,Qb,Qc,Qd,Qe,Qf,Qg,Qh,Qi,Qj,Qk,reduceCtorEq,reduceIte]
  |true=>simp only[tkA];simp only[go_sem,Q0,Q1,Q2,Q3,Q4,Q5,Q6,Q7,Q8,Q9,Qa,Qb,Qc,Qd,Qe,Qf,Qg,Qh,Qi,Qj,Qk,reduceCtorEq,reduceIte]
 |succ n L=>
  intro i b B J I F;have hi:i<m.ents.length:=by omega
  have z:m.ents.drop i=m.ents.getD i en0::m.ents.drop (i+1):=by rw[aU hi,aa,af hi];rfl
  obtain⟨C,h⟩:=E.e _ (cJ m.ents en0 i hi);have Q:=uO B (m.ents.getD i en0) C h;rw[xd2 m E b i hi B (by omega),z,cx];exact L (i+1) true _ (by omega) (by omega) (by omega)
def tkB:Bool->t8
 |false=> [103,12060,17060,21060,24060,28060,31060,64060]
 |true=> [103,12060,17060,21060,24060,28060,31060,51060,64060]
def tkC:Bool->t8
 |false=> [103,12060,17060,21060,24060,28060,31060,64060,79060,86060]
 |true=> [103,12060,17060,21060,24060,28060,31060,51060,64060,79060,86060]
theorem xd1(m:Man)(b:Bool)(t:Nat)(tk:t8)(W:(t=64060/\tk=tkB b)\/(t=86060/\tk=tkC b))(rs:List Rul)(Q:∀x∈rs,x.text.length<=1000000)(hn:rs.length<=1000000)(i:Nat)(hi:i<rs.length)(B:t6)(hB:B.length<=1000000000):
 run T (.loop l9) ⟨[(3,.byt B (.id t)),(65,.lst 4 (kK rs) .no),(66,.int .i64 rs.length),(67,.int .i64 i)],[(101,.rc m.sv)],tk⟩=
 run T (.loop l9) ⟨[(3,.byt (qx B (rs.getD i rl0)) (.id 86060)),(65,.lst 4 (kK rs) .no),(66,.int .i64 rs.length),(67,.int .i64 ((i+1:Nat):Int))],[(101,.rc m.sv)],tkC b⟩:=by
 have k1:((1:Nat):Int)=1:=rfl;have O:((4:Nat):Int)=4:=rfl;have H:=cA i (by omega);have I:=oX rs i hi;have h:=iZ rs;have Z:=Q _ (cJ rs rl0 i hi);generalize rs.getD i rl0=x at*;unfold qx;have C:=kx B 1 x.kind (by omega) (by omega) (by omega);rw[k1]at C;have n1:(B++bu 1 x.kind).length<=1000000001:=by rw[ah,eM];omega
 generalize B++bu 1 x.kind=J at*;have F:=P0 J x.text (by omega) (by omega);have n2:(kU J x.text).length<=1010000000:=by rw[dy];omega
 generalize kU J x.text=L at*;have z:=kx L 4 x.lo (by omega) (by omega) (by omega);rw[O]at z;have n3:(L++bu 4 x.lo).length<=1010000004:=by rw[ah,eM];omega
 generalize L++bu 4 x.lo=U at*;have E:=kx U 4 x.hi (by omega) (by omega) (by omega);rw[O]at E;obtain⟨mv,m1,m2,m3,m4,es,S⟩:=m;obtain⟨x1,x2,x3,x4⟩:=x;simp only[Rul.sv,Man.sv]at*;rcases W with⟨rfl,rfl⟩|⟨rfl,rfl⟩
 ·cases b with
  |false=>rw[al];simp only[tkB,tkC];simp only[go_sem,Q0,Q1,Q2,Q3,Q4,Q5,Q6,Q7,Q8,Q9,Qa,Qb,Qc,Qd,Qe,Qf,Qg,Qh,Qi,Qj,Qk,reduceCtorEq,reduceIte,hi,H,I,h,C,F,z,E,jK,ll]
  |true=>rw[al];simp only[tkB,tkC];simp only[go_sem,Q0,Q1,Q2,Q3,Q4,Q5,Q6,Q7,Q8,Q9,Qa,Qb,Qc,Qd,Qe,Qf,Qg,Qh,Qi,Qj,Qk,reduceCtorEq,reduceIte,hi,H,I,h,C,F,z,E,jK,ll]
 ·cases b with
  |false=>rw[al];simp only[tkB,tkC];simp only[go_sem,Q0,Q1,Q2,Q3,Q4,Q5,Q6,Q7,Q8,Q9,Qa,Qb,Qc,Qd,Qe,Qf,Qg,Qh,Qi,Qj,Qk,reduceCtorEq,reduceIte,hi,H,I,h,C,F,z,E,jK,ll]
  |true=>rw[al];simp only[tkB,tkC];simp only[go_sem,Q0,Q1,Q2,Q3,Q4,Q5,Q6,Q7,Q8,Q9,Qa,Qb,Qc,Qd,Qe,Qf,Qg,Qh,Qi,Qj,Qk,reduceCtorEq,reduceIte,hi,H,I,h,C,F,z,E,jK,ll]
theorem xfT(m:Man)(b:Bool)(rs:List Rul)(E:∀x∈rs,x.text.length<=1000000)(hn:rs.length<=8):∀(n i t:Nat)(tk:t8)(B:t6),(t=64060/\tk=tkB b)\/(t=86060/\tk=tkC b)->rs.length-i=n->i<=rs.length->B.length<=100000000+i*2000007->
 ∃z tk',((z=64060/\tk'=tkB b)\/(z=86060/\tk'=tkC b))/\run T (.loop l9) ⟨[(3,.byt B (.id t)),(65,.lst 4 (kK rs) .no),(66,.int .i64 rs.length),(67,.int .i64 i)],[(101,.rc m.sv)],tk⟩=
 some (.x 2,⟨[(3,.byt ((rs.drop i).foldl qx B) (.id z))],[(101,.rc m.sv)],tk'⟩):=by
 intro n;induction n with
 |zero=>
  intro i t tk B h F I H;have:i=rs.length:=by omega
  subst this;refine⟨t,tk,h, ?_⟩;rw[bh,List.foldl_nil,al];rcases h with⟨rfl,rfl⟩|⟨rfl,rfl⟩
  ·cases b with
   |false=>simp only[tkB];simp only[go_sem,Q0,Q1,Q2,Q3,Q4,Q5,Q6,Q7,Q8,Q9,Qa,Qb,Qc,Qd,Qe,Qf,Qg,Qh,Qi,Qj,Qk,reduceCtorEq,reduceIte]
   |true=>simp only[tkB];simp only[go_sem,Q0,Q1,Q2,Q3,Q4,Q5,Q6,Q7,Q8,Q9,Qa,Qb,Qc,Qd,Qe,Qf,Qg,Qh,Qi,Qj,Qk,reduceCtorEq,reduceIte]
  ·cases b with
   |false=>simp only[tkC];simp only[go_sem,Q0,Q1,Q2,Q3,Q4,Q5,Q6,Q7,Q8,Q9,Qa,Qb,Qc,Qd,Qe,Qf,Qg,Qh,Qi,Qj,Qk,reduceCtorEq,reduceIte]
   |true=>simp only[tkC];simp only[go_sem,Q0,Q1,Q2,Q3,Q4,Q5,Q6,Q7,Q8,Q9,Qa,Qb,Qc,Qd,Qe,Qf,Qg,Qh,Qi,Qj,Qk,reduceCtorEq,reduceIte]
 |succ n J=>
  intro i t tk B h F I H;have hi:i<rs.length:=by omega
  have C:rs.drop i=rs.getD i rl0::rs.drop (i+1):=by rw[aU hi,aa,af hi];rfl
  have L:=ul B (rs.getD i rl0) (E _ (cJ rs rl0 i hi));rw[xd1 m b t tk h rs E (by omega) i hi B (by omega),C,cx];exact J (i+1) 86060 _ _ (.inr ⟨rfl,rfl⟩) (by omega) (by omega) (by omega)
def Ci(m:Man):t6:=if js m=0 then m.ruls.foldl qx (m.ents.foldl uP (hdM m)++bu 1 (m.ruls.length:Int))else []
theorem mH:∀(l:List Ent)(B:t6),(∀x∈l,x.name.length<=1000000/\x.dig.length<=1000000)->(l.foldl uP B).length<=B.length+l.length*2000007
 |[],B,_=>by simp
 |x::r,B,h=>by rw[cx,av];have C:=mH r (uP B x) (fun y z=>h y (aq _ z));obtain⟨a,c⟩:=h x ax;have E:=uO B x a c;rw[bD];omega
theorem qS:∀(l:List Rul)(B:t6),(∀x∈l,x.text.length<=1000000)->B.length<=(l.foldl qx B).length/\(l.foldl qx B).length<=B.length+l.length*2000007
 |[],B,_=>by simp
 |x::r,B,h=>by
  rw[cx,av];have C:=qS r (qx B x) (fun y z=>h y (aq _ z));have E:=ul B x (h x ax)
  have F:B.length<=(qx B x).length:=by unfold qx;rw[ah,ah,dy,ah];omega
  rw[bD];omega
theorem qF{m:Man}(h:js m=0):m.ents.length<=16/\m.ruls.length<=8:=by
 unfold js at h
 repeat' split at h
 all_goals first|(exfalso;omega)|skip
 exact⟨by omega,by omega⟩
theorem xkl(m:Man)(E:jL m):call T 101 [.agg m.sv] [] 0=some ⟨.byt (Ci m) .no,[],[]⟩:=by
 have F:=f44 m E;have k1:((1:Nat):Int)=1:=rfl;have k4:((4:Nat):Int)=4:=rfl;have k6:((6:Nat):Int)=6:=rfl;have a9:=E.v;have b2:=E.rn;have B:=dd m.ents;have h:=iZ m.ruls;unfold Ci
 by_cases S:js m=0
 ·obtain⟨a7,h8⟩:=qF S
  rw[S]at F;rw[if_pos S];unfold hdM;have O:=kx [] 1 21 (by omega) (by omega) (by decide);rw[k1]at O;generalize a3:([]++bu 1 21:t6)=B1 at*;have n1:B1.length<=1000:=by rw[<-a3];simp[eM]
  have W:=P0 B1 m.vendor (by omega) (by omega);generalize a6:kU B1 m.vendor=B2 at*;have n2:B2.length<=10000000:=by rw[<-a6,dy];omega
  have J:=kx B2 4 m.ver (by omega) (by omega) (by omega);rw[k4]at J;generalize a0:B2++bu 4 m.ver=B3 at*;have n3:B3.length<=10000004:=by rw[<-a0,ah,eM];omega
  have Q:=kx B3 4 m.flr (by omega) (by omega) (by omega);rw[k4]at Q;generalize a2:B3++bu 4 m.flr=B4 at*;have n4:B4.length<=10000008:=by rw[<-a2,ah,eM];omega
  have H:=kx B4 6 m.frm (by omega) (by omega) (by omega);rw[k6]at H;generalize Z:B4++bu 6 m.frm=B5 at*;have n5:B5.length<=10000014:=by rw[<-Z,ah,eM];omega
  have L:=kx B5 6 m.til (by omega) (by omega) (by omega);rw[k6]at L;generalize a4:B5++bu 6 m.til=B6 at*;have n6:B6.length<=10000020:=by rw[<-a4,ah,eM];omega
  have I:=kx B6 1 (m.ents.length:Int) (by omega) (by omega) (by omega);rw[k1]at I;generalize a5:B6++bu 1 (m.ents.length:Int)=U at*;have n7:U.length<=10000021:=by rw[<-a5,ah,eM];omega
  obtain⟨b,z⟩:=xfU m E a7 _ 0 false U rfl (by omega) (by omega);have n8:=mH m.ents U E.e;rw[bi,aH]at z;generalize m.ents.foldl uP U=B8 at*;have u8:=kx B8 1 (m.ruls.length:Int) (by omega) (by omega) (by omega);rw[k1]at u8;generalize a1:B8++bu 1 (m.ruls.length:Int)=B9 at*;have n9:B9.length<=10000022+16*2000007:=by rw[<-a1,ah,eM];omega
  obtain⟨t',tk',ht,C⟩:=xfT m b m.ruls E.r h8 _ 0 64060 (tkB b) B9 (.inl ⟨rfl,rfl⟩) rfl (by omega) (by omega);rw[bi,aH]at C;generalize m.ruls.foldl qx B9=a8 at*;obtain⟨mv,m1,m2,m3,m4,es,rs⟩:=m;simp only[Man.sv]at*;rw[az YO];cases b with
  |false=>
   rcases ht with⟨rfl,rfl⟩|⟨rfl,rfl⟩
   ·simp only[tkA,tkB,tkC]at z C
    simp only[go_sem,Q0,Q1,Q2,Q3,Q4,Q5,Q6,Q7,Q8,Q9,Qa,Qb,Qc,Qd,Qe,Qf,Qg,Qh,Qi,Qj,Qk,reduceCtorEq,reduceIte,F,rp,O,W,J,Q,H,L,I,jK,ll,B,z,u8,h,C]
   ·simp only[tkA,tkB,tkC]at z C
    simp only[go_sem,Q0,Q1,Q2,Q3,Q4,Q5,Q6,Q7,Q8,Q9,Qa,Qb,Qc,Qd,Qe,Qf,Qg,Qh,Qi,Qj,Qk,reduceCtorEq,reduceIte,F,rp,O,W,J,Q,H,L,I,jK,ll,B,z,u8,h,C]
  |true=>
   rcases ht with⟨rfl,rfl⟩|⟨rfl,rfl⟩
   ·simp only[tkA,tkB,tkC]at z C
    simp only[go_sem,Q0,Q1,Q2,Q3,Q4,Q5,Q6,Q7,Q8,Q9,Qa,Qb,Qc,Qd,Qe,Qf,Qg,Qh,Qi,Qj,Qk,reduceCtorEq,reduceIte,F,rp,O,W,J,Q,H,L,I,jK,ll,B,z,u8,h,C]
   ·simp only[tkA,tkB,tkC]at z C
    simp only[go_sem,Q0,Q1,Q2,Q3,Q4,Q5,Q6,Q7,Q8,Q9,Qa,Qb,Qc,Qd,Qe,Qf,Qg,Qh,Qi,Qj,Qk,reduceCtorEq,reduceIte,F,rp,O,W,J,Q,H,L,I,jK,ll,B,z,u8,h,C]
 ·rw[if_neg S]
  obtain⟨mv,m1,m2,m3,m4,es,rs⟩:=m;simp only[Man.sv]at*;rw[az YO];simp only[go_sem,Q0,Q1,Q2,Q3,Q4,Q5,Q6,Q7,Q8,Q9,Qa,Qb,Qc,Qd,Qe,Qf,Qg,Qh,Qi,Qj,Qk,reduceCtorEq,reduceIte,F,rp,S]
def uT(m:Man):t6:=if Ci m=[]then []else NG 21 (Ci m)
theorem Gg(m:Man)(z:jL m):(Ci m).length<=100000000:=by
 unfold Ci
 by_cases h:js m=0
 ·rw[if_pos h]
  obtain⟨B,H⟩:=qF h;have E:=mH m.ents (hdM m) z.e;have C:=qS m.ruls (m.ents.foldl uP (hdM m)++bu 1 (m.ruls.length:Int)) z.r
  have F:(hdM m).length<=10000000:=by have:=z.v;unfold hdM;simp only[ah,dy,eM,bg];omega
  rw[ah,eM]at C;omega
 ·rw[if_neg h];exact cu _
theorem f59(m:Man)(F:jL m):call T 59 [.agg m.sv] [] 0=some ⟨.byt (uT m) .no,[],[]⟩:=by
 have C:=xkl m F;have Q:=Gg m F;have J:=xkk 21 (Ci m) (by omega);obtain⟨H,L,O,m3,m4,I,rs⟩:=m;unfold uT;simp only[Man.sv]at*;rw[az xkV];generalize Ci ⟨H,L,O,m3,m4,I,rs⟩=E at*
 by_cases z:E=[]
 ·subst z
  simp only[go_sem,Q0,Q1,Q2,Q3,Q4,Q5,Q6,Q7,Q8,Q9,Qa,Qb,Qc,Qd,Qe,Qf,Qg,Qh,Qi,Qj,Qk,reduceCtorEq,reduceIte,C,Y8]
 ·have B:¬(E.length:Int)=0:=by
   intro h;exact z (bP.1 (by omega))
  rw[if_neg z];simp only[go_sem,Q0,Q1,Q2,Q3,Q4,Q5,Q6,Q7,Q8,Q9,Qa,Qb,Qc,Qd,Qe,Qf,Qg,Qh,Qi,Qj,Qk,reduceCtorEq,reduceIte,C,Y8,B,J,xha]
def Cs(L:List t6):Prop:=L.Pairwise fun a b=>Lib.compareBytes a b<0
def lbB(L:List t6)(d:t6):Nat:=(L.takeWhile fun x=>decide (Lib.compareBytes x d<0)).length
theorem pQ:∀(L:List t6)(d:t6),lbB L d<=L.length
 |[],_=>aI _
 |x::r,d=>by
  unfold lbB;rw[List.takeWhile_cons];split
  ·rw[av,av];exact Nat.succ_le_succ (pQ r d)
  ·exact cu _
theorem r5:∀(L:List t6)(d:t6),Cs L->∀k,k<L.length->(Lib.compareBytes (L.getD k []) d<0↔k<lbB L d)
 |[],_,_,k,h=>by simp at h
 |x::r,d,hs,k,hk=>by
  obtain⟨C,H⟩:=bA.1 hs;have E:=r5 r d H;unfold lbB;rw[List.takeWhile_cons]
  by_cases z:Lib.compareBytes x d<0
  ·rw[if_pos (decide_eq_true z),av]
   cases k with
   |zero=>rw[bp];exact⟨fun _=>by omega,fun _=>z⟩
   |succ k=>rw[bF,E k (by rw[av]at hk;omega)];unfold lbB;omega
  ·rw[if_neg (by simpa using z)]
   simp only[bg,Nat.not_lt_zero,iff_false];cases k with
   |zero=>rw[bp];exact z
   |succ k=>rw[bF];intro B;rw[av]at hk;have F:r.getD k []∈r:=cJ r [] k (by omega);exact z (tu _ _ _ (C _ F) B)
def Ce(L:List t6)(d:t6):Bool:=decide (lbB L d<L.length/\L.getD (lbB L d) []=d)
def qJ(L:List t6)(d:t6):List t6:=if Ce L d=true then L else L.take (lbB L d)++d::L.drop (lbB L d)
theorem F2(L:List t6)(d:t6):(qJ L d).length<=L.length+1:=by
 have:=pQ L d;unfold qJ;split
 ·omega
 ·rw[ah,av,aD,aE];omega
theorem F0(L:List t6)(d:t6)(B:Cs L):Cs (qJ L d):=by
 unfold qJ
 by_cases h:Ce L d=true
 ·rw[if_pos h];exact B
 ·rw[if_neg h]
  have U:=pQ L d;have z:=r5 L d B
  have C:∀x∈L.take (lbB L d),Lib.compareBytes x d<0:=fun x H=>by obtain⟨k,I,rfl⟩:=bl H;rw[aD]at I;rw[List.getElem_take];have:=(z k (by omega)).2 (by omega);rwa[aa,af (by omega)]at this
  have E:∀x∈L.drop (lbB L d),Lib.compareBytes d x<0:=fun x H=>by
   obtain⟨k,I,rfl⟩:=bl H;rw[aE]at I;rw[List.getElem_drop]
   have Q:¬Lib.compareBytes (L.getD (lbB L d+k) []) d<0:=fun h=>by have:=(z (lbB L d+k) (by omega)).1 h;omega
   rw[aa,af (by omega),ba]at Q
   have W:L[lbB L d+k]'(by omega)≠d:=by
    intro e
    by_cases F:k=0
    ·subst F
     refine h ?_;unfold Ce;refine decide_eq_true ⟨by omega, ?_⟩;rw[aa,af (by omega)];exact e
    ·have S:=(gZ.1 B) (lbB L d) (lbB L d+k) (by omega) (by omega) (by omega)
     rw[e]at S;have Z:=(z (lbB L d) (by omega)).1 (by rw[aa,af (by omega)];exact S);omega
   have T:¬Lib.compareBytes (L[lbB L d+k]'(by omega)) d=0:=fun e=>W ((gH _ _).1 e)
   exact py Q T
  refine dP.2 ⟨B.sublist (List.take_sublist _ _),bA.2 ⟨E,B.sublist (List.drop_sublist _ _)⟩,fun a O b J=> ?_⟩;rcases an.1 J with rfl|J
  ·exact C a O
  ·exact tu _ _ _ (C a O) (E b J)
theorem QM(L:List t6)(k:Nat)(d:t6):lw (bls L) k (.byt d .no)=bls (L.take k++d::L.drop k):=by unfold lw bls;rw[dh,aO,List.map_take,List.map_drop]
theorem xjT(d:t6):call T 60 [.lst 1 [] .no,.byt d .no,.fn 61 [] []] [] 0=some ⟨.tup [.int .i64 0,.bool false],[],[]⟩:=by rw[az xiF];simp only[go_sem,Q0,Q1,Q2,Q3,Q4,Q5,Q6,Q7,Q8,Q9,Qa,Qb,Qc,Qd,Qe,Qf,Qg,Qh,Qi,Qj,Qk,reduceCtorEq,reduceIte];rw[al];simp only[go_sem,Q0,Q1,Q2,Q3,Q4,Q5,Q6,Q7,Q8,Q9,Qa,Qb,Qc,Qd,Qe,Qf,Qg,Qh,Qi,Qj,Qk,reduceCtorEq,reduceIte,c0]
def GD(L:List t6)(d:t6)(i j:Nat):CSt:=
 ⟨[(0,.psl 0 1 0 L.length none),(1,.byt d .no),(2,.fn 61 [] []),(8,.int .i64 L.length),(9,.int .i64 i),(10,.int .i64 j)],[(0,.arr 1 (bls L))],[]⟩
theorem l60(L:List t6)(d:t6)(hs:Cs L)(hn:L.length<=1000000000):∀(m i j:Nat),j-i<=m->i<=lbB L d->lbB L d<=j->j<=L.length->
 run T (.loop Nn) (GD L d i j)=some (.x 0,⟨[(0,.psl 0 1 0 L.length none),(1,.byt d .no),(2,.fn 61 [] []),(8,.int .i64 L.length),(9,.int .i64 (lbB L d))],[(0,.arr 1 (bls L))],[]⟩):=by
 intro m;induction m with
 |zero=>
  intro i j h0 U O h3;have z:j=i:=by omega
  have B:lbB L d=i:=by omega
  subst z;rw[B,GD,al];simp only[go_sem,Q0,Q1,Q2,Q3,Q4,Q5,Q6,Q7,Q8,Q9,Qa,Qb,Qc,Qd,Qe,Qf,Qg,Qh,Qi,Qj,Qk,reduceCtorEq,reduceIte]
 |succ m ih=>
  intro i j h0 U O h3
  by_cases z:i<j
  ·have W:=fK L
   have J:aj.wrap ((i:Int)+(j:Int))=((i+j:Nat):Int):=wZ (by omega)
   have S:bd.wrap ((i+j:Nat):Int)=((i+j:Nat):Int):=by rw[cz];omega
   have I:Int.fdiv ((i+j:Nat):Int) (2^min 1 64)=(((i+j)/2:Nat):Int):=by rw[show min 1 64=1 from rfl,Int.fdiv_eq_ediv_of_nonneg _ (by decide)];rfl
   have Q:aj.wrap (((i+j)/2:Nat):Int)=(((i+j)/2:Nat):Int):=w64 (by omega) (by omega);have Z:bd.wrap (((i+j)/2:Nat):Int)=(((i+j)/2:Nat):Int):=by rw[cz];omega
   have e6:aj.wrap ((((i+j)/2:Nat):Int)+1)=(((i+j)/2+1:Nat):Int):=cA _ (by omega);have E:(i+j)/2<L.length:=by omega
   have hg:=sn L ((i+j)/2) E;have C:=r5 L d hs ((i+j)/2) E;have g:=f61 (L.getD ((i+j)/2) []) d;have ha:i<=(i+j)/2:=by omega
   have hb:(i+j)/2<j:=by omega
   generalize (i+j)/2=k at*
   by_cases F:Lib.compareBytes (L.getD k []) d<0
   ·have h:=ih (k+1) j (by omega) (by have:=C.1 F;omega) O h3
    rw[GD]at h ⊢;rw[al];simp only[go_sem,Q0,Q1,Q2,Q3,Q4,Q5,Q6,Q7,Q8,Q9,Qa,Qb,Qc,Qd,Qe,Qf,Qg,Qh,Qi,Qj,Qk,reduceCtorEq,reduceIte,z,J,S,I,Q,Z,W,E,hg,g,Ra,F,e6,h]
   ·have h:=ih i k (by omega) U (by have:=mt C.2 F;omega) (by omega)
    rw[GD]at h ⊢;rw[al];simp only[go_sem,Q0,Q1,Q2,Q3,Q4,Q5,Q6,Q7,Q8,Q9,Qa,Qb,Qc,Qd,Qe,Qf,Qg,Qh,Qi,Qj,Qk,reduceCtorEq,reduceIte,z,J,S,I,Q,Z,W,E,hg,g,Ra,F,h]
  ·have H:j=i:=by omega
   have B:lbB L d=i:=by omega
   subst H;rw[B,GD,al];simp only[go_sem,Q0,Q1,Q2,Q3,Q4,Q5,Q6,Q7,Q8,Q9,Qa,Qb,Qc,Qd,Qe,Qf,Qg,Qh,Qi,Qj,Qk,reduceCtorEq,reduceIte]
theorem f60(L:List t6)(d:t6)(I:Cs L)(hn:L.length<=1000000000):
 call T 60 [.psl 0 1 0 L.length none,.byt d .no,.fn 61 [] []] [.arr 1 (bls L)] 0=some ⟨.tup [.int .i64 (lbB L d),.bool (Ce L d)],[(0,.arr 1 (bls L))],[]⟩:=by
 have B:=l60 L d I hn _ 0 L.length (aI _) (cu _) (pQ L d) (aI _);rw[GD,aH]at B;have C:=fK L;rw[az xiF];unfold Ce
 by_cases z:lbB L d<L.length
 ·have H:=sn L _ z
  have g:=f61 (L.getD (lbB L d) []) d;have F:=gH (L.getD (lbB L d) []) d
  by_cases hd:L.getD (lbB L d) []=d
  ·have E:Lib.compareBytes (L.getD (lbB L d) []) d=0:=F.2 hd
   rw[decide_eq_true ⟨z,hd⟩];generalize lbB L d=q at*;simp only[go_sem,Q0,Q1,Q2,Q3,Q4,Q5,Q6,Q7,Q8,Q9,Qa,Qb,Qc,Qd,Qe,Qf,Qg,Qh,Qi,Qj,Qk,reduceCtorEq,reduceIte,C,B,z,H,g,Ra,E]
  ·have E:¬Lib.compareBytes (L.getD (lbB L d) []) d=0:=fun h=>hd (F.1 h)
   rw[decide_eq_false (fun h=>hd h.2)];generalize lbB L d=q at*;simp only[go_sem,Q0,Q1,Q2,Q3,Q4,Q5,Q6,Q7,Q8,Q9,Qa,Qb,Qc,Qd,Qe,Qf,Qg,Qh,Qi,Qj,Qk,reduceCtorEq,reduceIte,C,B,z,H,g,Ra,E]
 ·rw[decide_eq_false (fun h=>z h.1)]
  generalize lbB L d=q at*;simp only[go_sem,Q0,Q1,Q2,Q3,Q4,Q5,Q6,Q7,Q8,Q9,Qa,Qb,Qc,Qd,Qe,Qf,Qg,Qh,Qi,Qj,Qk,reduceCtorEq,reduceIte,C,B,z]
theorem xjS(d:t6):call T 62 [.lst 1 [] .clip,.int .i64 0,.lst 1 [[.byt d .no]] .no] [] 0=some ⟨.psl 100 1 0 1 none,[(100,.arr 1 [[.byt d .no]])],[]⟩:=by rw[gX xiE];rfl
theorem f62(L:List t6)(k:Nat)(d:t6)(h:k<=L.length)(hn:L.length<=1000000000):
 call T 62 [.psl 0 1 0 L.length none,.int .i64 k,.lst 1 [[.byt d .no]] .no] [.arr 1 (bls L)] 0=some ⟨.psl 100 1 0 (L.length+1) none,[(100,.arr 1 (bls (L.take k++d::L.drop k)))],[]⟩:=by
 rw[gX xiE];show(if(bls L).length=L.length/\(0:Int)<=(k:Int)/\(k:Int)<=((L.length:Nat):Int)/\L.length<=1000000000 then some (⟨.psl 100 1 0 (L.length+1) none,[(100,.arr 1 (lw (bls L) (k:Int).toNat (.byt d .no)))],[]⟩:dY)else none)=_;rw[if_pos ⟨fK L,by omega,by omega,hn⟩,gP,QM]
def grS(h:List Man)(L:List t6)(p:Int×Int):List t6:=if p.1<0\/(h.length:Int)<=p.1 then L else qJ L (uT (h.getD p.1.toNat mn0))
def grV(h:List Man)(rs:List (Int×Int)):List t6:=rs.foldl (grS h) []
theorem PN(h:List Man)(L:List t6)(p:Int×Int):(grS h L p).length<=L.length+1:=by
 unfold grS;split
 ·omega
 ·exact F2 _ _
theorem PM(z:List Man)(L:List t6)(p:Int×Int)(h:Cs L):Cs (grS z L p):=by
 unfold grS;split
 ·exact h
 ·exact F0 _ _ h
def uq(L:List t6):SV:=if L=[]then .lst 1 [] .clip else .psl 105 1 0 L.length none
def ur(L:List t6):List (Nat×aC):=if L=[]then []else [(105,.arr 1 (bls L))]
theorem l21(z:List Man)(hm:p6 z)(rs:List (Int×Int))(hr:rs.length<=1000000):∀(n i:Nat)(L:List t6),rs.length-i=n->i<=rs.length->Cs L->L.length<=i->
 run T (.loop xF) ⟨[(0,.lst 7 (ld z) .no),(5,uq L),(11,.lst 2 (rsv rs) .no),(12,.int .i64 rs.length),(13,.int .i64 i)],ur L,[]⟩=
  some (.x 0,⟨[(5,uq ((rs.drop i).foldl (grS z) L))],ur ((rs.drop i).foldl (grS z) L),[]⟩):=by
 intro n;induction n with
 |zero=>
  intro i L h0 h1 hs hL;have hi:i=rs.length:=by omega
  subst hi;rw[bh,List.foldl_nil,al];simp only[go_sem,Q0,Q1,Q2,Q3,Q4,Q5,Q6,Q7,Q8,Q9,Qa,Qb,Qc,Qd,Qe,Qf,Qg,Qh,Qi,Qj,Qk,reduceCtorEq,reduceIte]
 |succ n ih=>
  intro i L h0 h1 hs hL;have hi:i<rs.length:=by omega
  have J:=cA i (by omega);have Q:=kJ rs;have H:=rK rs i hi;have C:=kb z;rw[mL rs (0,0) i hi,cx];have h:=ih (i+1) (grS z L (rs.getD i (0,0))) (by omega) (by omega) (PM _ _ _ hs) (by have:=PN z L (rs.getD i (0,0));omega);generalize (rs.drop (i+1)).foldl (grS z) (grS z L (rs.getD i (0,0)))=Z at*;generalize rs.getD i (0,0)=p at*;obtain⟨p1,p2⟩:=p;simp only at H
  by_cases B:p1<0
  ·unfold grS at h
   rw[if_pos (.inl B)]at h
   by_cases hz:L=[]
   ·subst hz
    simp only[uq,ur,reduceIte]at h ⊢;rw[al];simp only[go_sem,Q0,Q1,Q2,Q3,Q4,Q5,Q6,Q7,Q8,Q9,Qa,Qb,Qc,Qd,Qe,Qf,Qg,Qh,Qi,Qj,Qk,reduceCtorEq,reduceIte,hi,Q,H,B,J,h]
   ·simp only[uq,ur,if_neg hz]at h ⊢
    rw[al];simp only[go_sem,Q0,Q1,Q2,Q3,Q4,Q5,Q6,Q7,Q8,Q9,Qa,Qb,Qc,Qd,Qe,Qf,Qg,Qh,Qi,Qj,Qk,reduceCtorEq,reduceIte,hi,Q,H,B,J,h]
  ·by_cases I:(z.length:Int)<=p1
   ·unfold grS at h
    rw[if_pos (.inr I)]at h;have a4:¬p1<(z.length:Int):=by omega
    by_cases hz:L=[]
    ·subst hz
     simp only[uq,ur,reduceIte]at h ⊢;rw[al];simp only[go_sem,Q0,Q1,Q2,Q3,Q4,Q5,Q6,Q7,Q8,Q9,Qa,Qb,Qc,Qd,Qe,Qf,Qg,Qh,Qi,Qj,Qk,reduceCtorEq,reduceIte,hi,Q,H,B,C,I,J,h]
    ·simp only[uq,ur,if_neg hz]at h ⊢
     rw[al];simp only[go_sem,Q0,Q1,Q2,Q3,Q4,Q5,Q6,Q7,Q8,Q9,Qa,Qb,Qc,Qd,Qe,Qf,Qg,Qh,Qi,Qj,Qk,reduceCtorEq,reduceIte,hi,Q,H,B,C,I,J,h]
   ·unfold grS at h
    rw[if_neg (by omega)]at h;obtain⟨k,rfl⟩:∃k:Nat,p1=k:=⟨p1.toNat,by omega⟩;have U:k<z.length:=by omega
    have O:¬z.length<=k:=by omega
    have F:=oZ z k U;have gd:=f59 (z.getD k mn0) (hm.2 _ (cJ z mn0 k U));rw[gP]at h;generalize uT (z.getD k mn0)=d at*;generalize z.getD k mn0=mm at*;obtain⟨mv,m1,m2,m3,m4,es,rl⟩:=mm;simp only[Man.sv]at F gd
    by_cases hz:L=[]
    ·subst hz
     have S:=xjT d;have g2:=xjS d;have E:qJ [] d=[d]:=rfl;rw[E]at h;have b1:bls [d]=[[.byt d .no]]:=rfl;have b2:[d].length=1:=rfl;simp only[uq,ur,reduceIte,List.cons_ne_nil,b1,b2]at h ⊢;rw[al];simp only[go_sem,Q0,Q1,Q2,Q3,Q4,Q5,Q6,Q7,Q8,Q9,Qa,Qb,Qc,Qd,Qe,Qf,Qg,Qh,Qi,Qj,Qk,reduceCtorEq,reduceIte,hi,Q,H,B,C,U,O,F,gd,xdA,S,xdz,g2,xiN,J,h]
    ·have S:=f60 L d hs (by omega)
     have a0:=pQ L d
     by_cases W:Ce L d=true
     ·have E:qJ L d=L:=by unfold qJ;rw[if_pos W]
      rw[W]at S;rw[E]at h;simp only[uq,ur,if_neg hz]at h ⊢;rw[al];simp only[go_sem,Q0,Q1,Q2,Q3,Q4,Q5,Q6,Q7,Q8,Q9,Qa,Qb,Qc,Qd,Qe,Qf,Qg,Qh,Qi,Qj,Qk,reduceCtorEq,reduceIte,hi,Q,H,B,C,U,O,F,gd,xdA,S,xdz,J,h]
     ·have E:qJ L d=L.take (lbB L d)++d::L.drop (lbB L d):=by unfold qJ;rw[if_neg W]
      have a1:Ce L d=false:=by simpa using W
      rw[a1]at S;rw[E]at h;have g2:=f62 L (lbB L d) d a0 (by omega);have a3:(L.take (lbB L d)++d::L.drop (lbB L d)).length=L.length+1:=by rw[ah,av,aD,aE];omega
      have a2:¬L.take (lbB L d)++d::L.drop (lbB L d)=[]:=by simp
      simp only[uq,ur,if_neg hz,if_neg a2,a3]at h ⊢;generalize L.take (lbB L d)++d::L.drop (lbB L d)=LL at*;rw[al];simp only[go_sem,Q0,Q1,Q2,Q3,Q4,Q5,Q6,Q7,Q8,Q9,Qa,Qb,Qc,Qd,Qe,Qf,Qg,Qh,Qi,Qj,Qk,reduceCtorEq,reduceIte,hi,Q,H,B,C,U,O,F,gd,xdA,S,xdz,g2,xiN,J,h]
theorem f21(z:List Man)(F:p6 z)(rs:List (Int×Int))(H:rs.length<=1000000):call T 21 [.lst 7 (ld z) .no,.lst 2 (rsv rs) .no] [] 0=some ⟨.lst 1 (bls (grV z rs)) .no,[],[]⟩:=by
 have h:=l21 z F rs H _ 0 [] rfl (cu _) iI.nil (aI _);rw[aH,bi]at h;have C:=kJ rs;unfold grV;generalize rs.foldl (grS z) []=Z at*;rw[az xlk];unfold uq ur at h
 by_cases hz:Z=[]
 ·subst hz
  simp only[reduceIte]at h;simp only[go_sem,Q0,Q1,Q2,Q3,Q4,Q5,Q6,Q7,Q8,Q9,Qa,Qb,Qc,Qd,Qe,Qf,Qg,Qh,Qi,Qj,Qk,reduceCtorEq,reduceIte,C,h];rfl
 ·simp only[reduceIte,if_neg hz]at h
  have B:=fK Z;have E:dj Z.length (bls Z)=bls Z:=by rw[<-B,bt]
  simp only[go_sem,Q0,Q1,Q2,Q3,Q4,Q5,Q6,Q7,Q8,Q9,Qa,Qb,Qc,Qd,Qe,Qf,Qg,Qh,Qi,Qj,Qk,reduceCtorEq,reduceIte,C,h,B,E,aI]
theorem F1(d:t6):qJ [d] d=[d]:=by
 have h:lbB [d] d=0:=by unfold lbB;rw[List.takeWhile_cons,px];rfl
 unfold qJ Ce;rw[h,if_pos (decide_eq_true ⟨by simp,rfl⟩)]
theorem x7(m:Man):∀(rs:List (Int×Int))(L:List t6),(L=[]\/L=[uT m])->(L=[uT m]\/∃p∈rs,p.1=0)->rs.foldl (grS [m]) L=[uT m]
 |[],L,_,h=>by
  rcases h with h|⟨p,z,_⟩
  ·exact h
  ·cases z
 |p::r,L,h1,h2=>by
  rw[cx]
  by_cases z:p.1<0\/(1:Int)<=p.1
  ·have e:grS [m] L p=L:=by unfold grS;exact if_pos z
   rw[e];refine x7 m r L h1 (h2.imp id fun⟨q,B,h⟩=> ?_);rcases an.1 B with rfl|B
   ·omega
   ·exact⟨q,B,h⟩
  ·have e:grS [m] L p=[uT m]:=by
    unfold grS;rw[if_neg (by show ¬(p.1<0\/(1:Int)<=p.1);exact z)];have C:p.1.toNat=0:=by omega
    rw[C];rcases h1 with rfl|rfl
    ·rfl
    ·exact F1 _
   rw[e];exact x7 m r _ (.inr rfl) (.inl rfl)
theorem xjW(m:Man)(B:jL m)(rs:List (Int×Int))(hn:rs.length<=1000000)(h:∃p∈rs,p.1=0):
 call T 21 [.lst 7 [m.sv] .no,.lst 2 (rsv rs) .no] [] 0=some ⟨.lst 1 [[.byt (uT m) .no]] .no,[],[]⟩:=by
 have C:p6 [m]:=⟨by simp,fun x z=>by rw[aN.1 z];exact B⟩;have g:=f21 [m] C rs hn;unfold grV at g;rw[x7 m rs [] (.inl rfl) (.inr h)]at g;exact g
end Go.Proofs.YtdafipacemgcoaaGreatDoor
