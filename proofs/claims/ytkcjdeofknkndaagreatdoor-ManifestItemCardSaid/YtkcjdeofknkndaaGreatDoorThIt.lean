/- What the functions come to. No condition. -/
import Derived.Test.YtkcjdeofknkndaaGreatDoorTeIt
open Int renaming natCast_zero -> av
open Go.IntKind renaming i64 -> ac, u64 -> aZ, wrap_u64 -> cB
open List renaming append_assoc -> aA, cons -> iv, cons_append -> aJ, drop_eq_getElem_cons -> aS, drop_eq_nil_of_le -> bo, drop_length -> aX, drop_zero -> bh, foldl_cons -> cT, getD_eq_getElem?_getD -> aa, getElem?_eq_getElem -> ab, length_append -> af, length_cons -> aC, length_drop -> aH, length_eq_zero_iff -> bi, length_map -> au, length_nil -> aB, length_singleton -> aM, length_take -> aj, map_append -> cn, map_cons -> aI, map_nil -> bn, map_take -> eC, mem_cons_of_mem -> aq, mem_cons_self -> aD, nil_append -> aF, singleton_append -> cX, take_nil -> b9, take_of_length_le -> ay
open Nat renaming add_mul -> bI, le_refl -> aQ, mod_eq_of_lt -> dV, mul_comm -> cL, mul_le_mul_right -> bF, zero_add -> cK, zero_le -> bU
set_option maxRecDepth 100000
set_option maxHeartbeats 16000000
set_option linter.unusedSimpArgs false
set_option linter.unusedVariables false
namespace Go.Proofs.YtkcjdeofknkndaaGreatDoor
open Go.Sy
open UInt8 renaming reduceLT -> Q0, reduceLE -> Q1
open Int renaming reduceToNat -> Q2, reduceLE -> Q3, reduceLT -> Q4, reduceEq -> Q5, reduceNe -> Q6, reduceNeg -> Q7, reduceAdd -> Q8, reduceSub -> Q9, reduceMul -> Qa
open Nat renaming reducePow -> Qb, reduceDiv -> Qc, reduceMod -> Qd, reduceAdd -> Qe, reduceSub -> Qf, reduceMul -> Qg, reduceLT -> Qh, reduceLeDiff -> Qi, reduceEqDiff -> Qj, reduceBEq -> Qk
def bu(k:Nat)(v:Int):List UInt8:=be k (aZ.wrap v)
def hdM(m:Man):List UInt8:=ju ([]++bu 1 21) m.vendor++bu 4 m.ver++bu 4 m.flr++bu 6 m.frm++bu 6 m.til++bu 1 (m.ents.length:Int)
theorem dd(k:Nat)(v:Int):(bu k v).length=k:=eS ..
theorem r8(B:List UInt8)(k:Nat)(v:Int)(h1:1<=k)(h8:k<=8)(hB:B.length<=10000000000000):
 call T 48 [.byt B .no,.int .i64 k,.int .i64 v] [] 0=some ⟨.byt (B++bu k v) (.id 60),[],[60]⟩:=f48 B k v h1 h8 hB
def qP(B:List UInt8)(x:Ent):List UInt8:=ju (B++bu 1 x.role) x.name++bu 4 x.ver++x.dig
def oq(B:List UInt8)(r:Rul):List UInt8:=ju (B++bu 1 r.kind) r.text++bu 4 r.lo++bu 4 r.hi
theorem wg(B:List UInt8)(x:Ent)(hn:x.name.length<=1000000)(hd:x.dig.length<=1000000):(qP B x).length<=B.length+2000007:=by unfold qP;rw[af,af,eG,af,dd,dd];omega
theorem vv(B:List UInt8)(x:Rul)(hn:x.text.length<=1000000):(oq B x).length<=B.length+2000007:=by unfold oq;rw[af,af,eG,af,dd,dd,dd];omega
def tkA:Bool->List Nat
 |false=> [103,12060,17060,21060,24060,28060,31060]
 |true=> [103,12060,17060,21060,24060,28060,31060,51060]
theorem xgf(m:Man)(hm:eI m)(b:Bool)(i:Nat)(hi:i<m.ents.length)(B:List UInt8)(hB:B.length<=1000000000):
 run T (.loop qD) ⟨[(1,.ptr 101 0),(3,.byt B (.id 103)),(37,.lst 4 (bD m.ents) .no),(38,.int .i64 m.ents.length),(39,.int .i64 i)],[(101,.rc m.sv)],tkA b⟩=
 run T (.loop qD) ⟨[(1,.ptr 101 0),(3,.byt (qP B (m.ents.getD i en0)) (.id 103)),(37,.lst 4 (bD m.ents) .no),(38,.int .i64 m.ents.length),(39,.int .i64 ((i+1:Nat):Int))],[(101,.rc m.sv)],tkA true⟩:=by
 have k1:((1:Nat):Int)=1:=rfl;have k4:((4:Nat):Int)=4:=rfl;have hen:=hm.en;have e1:=cg i (by omega);have hg:=dm m.ents i hi;have hel:=bf m.ents;obtain⟨hxn,hxd⟩:=hm.e _ (cY m.ents en0 i hi);clear hm;generalize m.ents.getD i en0=x at*;unfold qP;have u1:=r8 B 1 x.role (by omega) (by omega) (by omega);rw[k1]at u1;have n1:(B++bu 1 x.role).length<=1000000001:=by rw[af,dd];omega
 generalize B++bu 1 x.role=B1 at*;have u2:=f49 B1 x.name (by omega) (by omega);have n2:(ju B1 x.name).length<=1010000000:=by rw[eG];omega
 generalize ju B1 x.name=B2 at*;have u3:=r8 B2 4 x.ver (by omega) (by omega) (by omega);rw[k4]at u3;have n3:(B2++bu 4 x.ver).length<=1010000004:=by rw[af,dd];omega
 generalize B2++bu 4 x.ver=B3 at*;have n4:B3.length+x.dig.length<=140737488355328:=by omega
 obtain⟨mv,m1,m2,m3,m4,es,rs⟩:=m;obtain⟨x1,x2,x3,x4⟩:=x;simp only[Man.sv,Ent.sv]at*;cases b with
 |false=>rw[ai];simp only[tkA];simp only[go_sem,Q0,Q1,Q2,Q3,Q4,Q5,Q6,Q7,Q8,Q9,Qa,Qb,Qc,Qd,Qe,Qf,Qg,Qh,Qi,Qj,Qk,reduceCtorEq,reduceIte,hi,e1,hg,hel,u1,u2,u3,n4,qU,tV]
 |true=>rw[ai];simp only[tkA];simp only[go_sem,Q0,Q1,Q2,Q3,Q4,Q5,Q6,Q7,Q8,Q9,Qa,Qb,Qc,Qd,Qe,Qf,Qg,Qh,Qi,Qj,Qk,reduceCtorEq,reduceIte,hi,e1,hg,hel,u1,u2,u3,n4,qU,tV]
theorem xme(m:Man)(hm:eI m)(h16:m.ents.length<=16):∀(n i:Nat)(b:Bool)(B:List UInt8),m.ents.length-i=n->i<=m.ents.length->B.length<=20000000+i*2000007->
 ∃b',run T (.loop qD) ⟨[(1,.ptr 101 0),(3,.byt B (.id 103)),(37,.lst 4 (bD m.ents) .no),(38,.int .i64 m.ents.length),(39,.int .i64 i)],[(101,.rc m.sv)],tkA b⟩=
 some (.x 0,⟨[(1,.ptr 101 0),(3,.byt ((m.ents.drop i).foldl qP B) (.id 103))],[(101,.rc m.sv)],tkA b'⟩):=by
 intro n;induction n with
 |zero=>
  intro i b B h0 h1 h2;have:i=m.ents.length:=by omega
  subst this;refine⟨b, ?_⟩;rw[aX,List.foldl_nil,ai];cases b with
  |false=>simp only[tkA];simp only[go_sem,Q0,Q1,Q2,Q3,Q4,Q5,Q6,Q7,Q8,Q9,Qa,Qb,Qc,Qd,Qe,Qf,Qg,Qh,Qi,Qj,Qk,reduceCtorEq,reduceIte]
  |true=>simp only[tkA];simp only[go_sem,Q0,Q1,Q2,Q3,Q4,Q5,Q6,Q7,Q8,Q9,Qa,Qb,Qc,Qd,Qe,Qf,Qg,Qh,Qi,Qj,Qk,reduceCtorEq,reduceIte]
 |succ n ih=>
  intro i b B h0 h1 h2;have hi:i<m.ents.length:=by omega
  have hdr:m.ents.drop i=m.ents.getD i en0::m.ents.drop (i+1):=by rw[aS hi,aa,ab hi];rfl
  obtain⟨hxn,hxd⟩:=hm.e _ (cY m.ents en0 i hi);have hl:=wg B (m.ents.getD i en0) hxn hxd;rw[xgf m hm b i hi B (by omega),hdr,cT];exact ih (i+1) true _ (by omega) (by omega) (by omega)
def tkB:Bool->List Nat
 |false=> [103,12060,17060,21060,24060,28060,31060,64060]
 |true=> [103,12060,17060,21060,24060,28060,31060,51060,64060]
def tkC:Bool->List Nat
 |false=> [103,12060,17060,21060,24060,28060,31060,64060,79060,86060]
 |true=> [103,12060,17060,21060,24060,28060,31060,51060,64060,79060,86060]
theorem xge(m:Man)(b:Bool)(t:Nat)(tk:List Nat)(ht:(t=64060/\tk=tkB b)\/(t=86060/\tk=tkC b))(rs:List Rul)(hx:∀x∈rs,x.text.length<=1000000)(hn:rs.length<=1000000)(i:Nat)(hi:i<rs.length)(B:List UInt8)(hB:B.length<=1000000000):
 run T (.loop qC) ⟨[(3,.byt B (.id t)),(65,.lst 4 (bT rs) .no),(66,.int .i64 rs.length),(67,.int .i64 i)],[(101,.rc m.sv)],tk⟩=
 run T (.loop qC) ⟨[(3,.byt (oq B (rs.getD i rl0)) (.id 86060)),(65,.lst 4 (bT rs) .no),(66,.int .i64 rs.length),(67,.int .i64 ((i+1:Nat):Int))],[(101,.rc m.sv)],tkC b⟩:=by
 have k1:((1:Nat):Int)=1:=rfl;have k4:((4:Nat):Int)=4:=rfl;have e1:=cg i (by omega);have hg:=gK rs i hi;have hel:=bj rs;have hxn:=hx _ (cY rs rl0 i hi);generalize rs.getD i rl0=x at*;unfold oq;have u1:=r8 B 1 x.kind (by omega) (by omega) (by omega);rw[k1]at u1;have n1:(B++bu 1 x.kind).length<=1000000001:=by rw[af,dd];omega
 generalize B++bu 1 x.kind=B1 at*;have u2:=f49 B1 x.text (by omega) (by omega);have n2:(ju B1 x.text).length<=1010000000:=by rw[eG];omega
 generalize ju B1 x.text=B2 at*;have u3:=r8 B2 4 x.lo (by omega) (by omega) (by omega);rw[k4]at u3;have n3:(B2++bu 4 x.lo).length<=1010000004:=by rw[af,dd];omega
 generalize B2++bu 4 x.lo=B3 at*;have u4:=r8 B3 4 x.hi (by omega) (by omega) (by omega);rw[k4]at u4;obtain⟨mv,m1,m2,m3,m4,es,rs'⟩:=m;obtain⟨x1,x2,x3,x4⟩:=x;simp only[Rul.sv,Man.sv]at*;rcases ht with⟨rfl,rfl⟩|⟨rfl,rfl⟩
 ·cases b with
  |false=>rw[ai];simp only[tkB,tkC];simp only[go_sem,Q0,Q1,Q2,Q3,Q4,Q5,Q6,Q7,Q8,Q9,Qa,Qb,Qc,Qd,Qe,Qf,Qg,Qh,Qi,Qj,Qk,reduceCtorEq,reduceIte,hi,e1,hg,hel,u1,u2,u3,u4,qU,tV]
  |true=>rw[ai];simp only[tkB,tkC];simp only[go_sem,Q0,Q1,Q2,Q3,Q4,Q5,Q6,Q7,Q8,Q9,Qa,Qb,Qc,Qd,Qe,Qf,Qg,Qh,Qi,Qj,Qk,reduceCtorEq,reduceIte,hi,e1,hg,hel,u1,u2,u3,u4,qU,tV]
 ·cases b with
  |false=>rw[ai];simp only[tkB,tkC];simp only[go_sem,Q0,Q1,Q2,Q3,Q4,Q5,Q6,Q7,Q8,Q9,Qa,Qb,Qc,Qd,Qe,Qf,Qg,Qh,Qi,Qj,Qk,reduceCtorEq,reduceIte,hi,e1,hg,hel,u1,u2,u3,u4,qU,tV]
  |true=>rw[ai];simp only[tkB,tkC];simp only[go_sem,Q0,Q1,Q2,Q3,Q4,Q5,Q6,Q7,Q8,Q9,Qa,Qb,Qc,Qd,Qe,Qf,Qg,Qh,Qi,Qj,Qk,reduceCtorEq,reduceIte,hi,e1,hg,hel,u1,u2,u3,u4,qU,tV]
theorem xmd(m:Man)(b:Bool)(rs:List Rul)(hx:∀x∈rs,x.text.length<=1000000)(hn:rs.length<=8):∀(n i t:Nat)(tk:List Nat)(B:List UInt8),(t=64060/\tk=tkB b)\/(t=86060/\tk=tkC b)->rs.length-i=n->i<=rs.length->B.length<=100000000+i*2000007->
 ∃t' tk',((t'=64060/\tk'=tkB b)\/(t'=86060/\tk'=tkC b))/\run T (.loop qC) ⟨[(3,.byt B (.id t)),(65,.lst 4 (bT rs) .no),(66,.int .i64 rs.length),(67,.int .i64 i)],[(101,.rc m.sv)],tk⟩=
 some (.x 2,⟨[(3,.byt ((rs.drop i).foldl oq B) (.id t'))],[(101,.rc m.sv)],tk'⟩):=by
 intro n;induction n with
 |zero=>
  intro i t tk B ht h0 h1 h2;have:i=rs.length:=by omega
  subst this;refine⟨t,tk,ht, ?_⟩;rw[aX,List.foldl_nil,ai];rcases ht with⟨rfl,rfl⟩|⟨rfl,rfl⟩
  ·cases b with
   |false=>simp only[tkB];simp only[go_sem,Q0,Q1,Q2,Q3,Q4,Q5,Q6,Q7,Q8,Q9,Qa,Qb,Qc,Qd,Qe,Qf,Qg,Qh,Qi,Qj,Qk,reduceCtorEq,reduceIte]
   |true=>simp only[tkB];simp only[go_sem,Q0,Q1,Q2,Q3,Q4,Q5,Q6,Q7,Q8,Q9,Qa,Qb,Qc,Qd,Qe,Qf,Qg,Qh,Qi,Qj,Qk,reduceCtorEq,reduceIte]
  ·cases b with
   |false=>simp only[tkC];simp only[go_sem,Q0,Q1,Q2,Q3,Q4,Q5,Q6,Q7,Q8,Q9,Qa,Qb,Qc,Qd,Qe,Qf,Qg,Qh,Qi,Qj,Qk,reduceCtorEq,reduceIte]
   |true=>simp only[tkC];simp only[go_sem,Q0,Q1,Q2,Q3,Q4,Q5,Q6,Q7,Q8,Q9,Qa,Qb,Qc,Qd,Qe,Qf,Qg,Qh,Qi,Qj,Qk,reduceCtorEq,reduceIte]
 |succ n ih=>
  intro i t tk B ht h0 h1 h2;have hi:i<rs.length:=by omega
  have hdr:rs.drop i=rs.getD i rl0::rs.drop (i+1):=by rw[aS hi,aa,ab hi];rfl
  have hl:=vv B (rs.getD i rl0) (hx _ (cY rs rl0 i hi));rw[xge m b t tk ht rs hx (by omega) i hi B (by omega),hdr,cT];exact ih (i+1) 86060 _ _ (.inr ⟨rfl,rfl⟩) (by omega) (by omega) (by omega)
def lu(m:Man):List UInt8:=if gA m=0 then m.ruls.foldl oq (m.ents.foldl qP (hdM m)++bu 1 (m.ruls.length:Int))else []
theorem m7:∀(l:List Ent)(B:List UInt8),(∀x∈l,x.name.length<=1000000/\x.dig.length<=1000000)->(l.foldl qP B).length<=B.length+l.length*2000007
 |[],B,_=>by simp
 |x::r,B,h=>by rw[cT,aC];have h1:=m7 r (qP B x) (fun y hy=>h y (aq _ hy));obtain⟨a,c⟩:=h x aD;have h2:=wg B x a c;rw[bI];omega
theorem r5:∀(l:List Rul)(B:List UInt8),(∀x∈l,x.text.length<=1000000)->B.length<=(l.foldl oq B).length/\(l.foldl oq B).length<=B.length+l.length*2000007
 |[],B,_=>by simp
 |x::r,B,h=>by
  rw[cT,aC];have h1:=r5 r (oq B x) (fun y hy=>h y (aq _ hy));have h2:=vv B x (h x aD)
  have h3:B.length<=(oq B x).length:=by unfold oq;rw[af,af,eG,af];omega
  rw[bI];omega
theorem rN{m:Man}(h:gA m=0):m.ents.length<=16/\m.ruls.length<=8:=by
 unfold gA at h
 repeat' split at h
 all_goals first|(exfalso;omega)|skip
 exact⟨by omega,by omega⟩
theorem f16(m:Man)(hm:eI m):call T 16 [.agg m.sv] [] 0=some ⟨.byt (lu m) .no,[],[]⟩:=by
 have g1:=f13 m hm;have k1:((1:Nat):Int)=1:=rfl;have k4:((4:Nat):Int)=4:=rfl;have k6:((6:Nat):Int)=6:=rfl;have hvl:=hm.v;have hrn:=hm.rn;have hel:=bf m.ents;have hrl:=bj m.ruls;unfold lu
 by_cases hv:gA m=0
 ·obtain⟨h16,h8⟩:=rN hv
  rw[hv]at g1;rw[if_pos hv];unfold hdM;have u1:=r8 [] 1 21 (by omega) (by omega) (by decide);rw[k1]at u1;generalize hB1:([]++bu 1 21:List UInt8)=B1 at*;have n1:B1.length<=1000:=by rw[<-hB1];simp[dd]
  have u2:=f49 B1 m.vendor (by omega) (by omega);generalize hB2:ju B1 m.vendor=B2 at*;have n2:B2.length<=10000000:=by rw[<-hB2,eG];omega
  have u3:=r8 B2 4 m.ver (by omega) (by omega) (by omega);rw[k4]at u3;generalize hB3:B2++bu 4 m.ver=B3 at*;have n3:B3.length<=10000004:=by rw[<-hB3,af,dd];omega
  have u4:=r8 B3 4 m.flr (by omega) (by omega) (by omega);rw[k4]at u4;generalize hB4:B3++bu 4 m.flr=B4 at*;have n4:B4.length<=10000008:=by rw[<-hB4,af,dd];omega
  have u5:=r8 B4 6 m.frm (by omega) (by omega) (by omega);rw[k6]at u5;generalize hB5:B4++bu 6 m.frm=B5 at*;have n5:B5.length<=10000014:=by rw[<-hB5,af,dd];omega
  have u6:=r8 B5 6 m.til (by omega) (by omega) (by omega);rw[k6]at u6;generalize hB6:B5++bu 6 m.til=B6 at*;have n6:B6.length<=10000020:=by rw[<-hB6,af,dd];omega
  have u7:=r8 B6 1 (m.ents.length:Int) (by omega) (by omega) (by omega);rw[k1]at u7;generalize hB7:B6++bu 1 (m.ents.length:Int)=B7 at*;have n7:B7.length<=10000021:=by rw[<-hB7,af,dd];omega
  obtain⟨b,la⟩:=xme m hm h16 _ 0 false B7 rfl (by omega) (by omega);have n8:=m7 m.ents B7 hm.e;rw[bh,av]at la;generalize m.ents.foldl qP B7=B8 at*;have u8:=r8 B8 1 (m.ruls.length:Int) (by omega) (by omega) (by omega);rw[k1]at u8;generalize hB9:B8++bu 1 (m.ruls.length:Int)=B9 at*;have n9:B9.length<=10000022+16*2000007:=by rw[<-hB9,af,dd];omega
  obtain⟨t',tk',ht,lb⟩:=xmd m b m.ruls hm.r h8 _ 0 64060 (tkB b) B9 (.inl ⟨rfl,rfl⟩) rfl (by omega) (by omega);rw[bh,av]at lb;generalize m.ruls.foldl oq B9=B10 at*;obtain⟨mv,m1,m2,m3,m4,es,rs⟩:=m;simp only[Man.sv]at*;rw[ao xk8];cases b with
  |false=>
   rcases ht with⟨rfl,rfl⟩|⟨rfl,rfl⟩
   ·simp only[tkA,tkB,tkC]at la lb
    simp only[go_sem,Q0,Q1,Q2,Q3,Q4,Q5,Q6,Q7,Q8,Q9,Qa,Qb,Qc,Qd,Qe,Qf,Qg,Qh,Qi,Qj,Qk,reduceCtorEq,reduceIte,g1,pG,u1,u2,u3,u4,u5,u6,u7,qU,tV,hel,la,u8,hrl,lb]
   ·simp only[tkA,tkB,tkC]at la lb
    simp only[go_sem,Q0,Q1,Q2,Q3,Q4,Q5,Q6,Q7,Q8,Q9,Qa,Qb,Qc,Qd,Qe,Qf,Qg,Qh,Qi,Qj,Qk,reduceCtorEq,reduceIte,g1,pG,u1,u2,u3,u4,u5,u6,u7,qU,tV,hel,la,u8,hrl,lb]
  |true=>
   rcases ht with⟨rfl,rfl⟩|⟨rfl,rfl⟩
   ·simp only[tkA,tkB,tkC]at la lb
    simp only[go_sem,Q0,Q1,Q2,Q3,Q4,Q5,Q6,Q7,Q8,Q9,Qa,Qb,Qc,Qd,Qe,Qf,Qg,Qh,Qi,Qj,Qk,reduceCtorEq,reduceIte,g1,pG,u1,u2,u3,u4,u5,u6,u7,qU,tV,hel,la,u8,hrl,lb]
   ·simp only[tkA,tkB,tkC]at la lb
    simp only[go_sem,Q0,Q1,Q2,Q3,Q4,Q5,Q6,Q7,Q8,Q9,Qa,Qb,Qc,Qd,Qe,Qf,Qg,Qh,Qi,Qj,Qk,reduceCtorEq,reduceIte,g1,pG,u1,u2,u3,u4,u5,u6,u7,qU,tV,hel,la,u8,hrl,lb]
 ·rw[if_neg hv]
  obtain⟨mv,m1,m2,m3,m4,es,rs⟩:=m;simp only[Man.sv]at*;rw[ao xk8];simp only[go_sem,Q0,Q1,Q2,Q3,Q4,Q5,Q6,Q7,Q8,Q9,Qa,Qb,Qc,Qd,Qe,Qf,Qg,Qh,Qi,Qj,Qk,reduceCtorEq,reduceIte,g1,pG,hv]
def Ty(m:Man):List UInt8:=if lu m=[]then []else E3 21 (lu m)
theorem we(m:Man)(hm:eI m):(lu m).length<=100000000:=by
 unfold lu
 by_cases hv:gA m=0
 ·rw[if_pos hv]
  obtain⟨h16,h8⟩:=rN hv;have h1:=m7 m.ents (hdM m) hm.e;have h2:=r5 m.ruls (m.ents.foldl qP (hdM m)++bu 1 (m.ruls.length:Int)) hm.r
  have h3:(hdM m).length<=10000000:=by have:=hm.v;unfold hdM;simp only[af,eG,dd,aB];omega
  rw[af,dd]at h2;omega
 ·rw[if_neg hv];exact bU _
theorem f21(m:Man)(hm:eI m):call T 21 [.agg m.sv] [] 0=some ⟨.byt (Ty m) .no,[],[]⟩:=by
 have g1:=f16 m hm;have hl:=we m hm;have g2:=f58 21 (lu m) (by omega);obtain⟨mv,m1,m2,m3,m4,es,rs⟩:=m;unfold Ty;simp only[Man.sv]at*;rw[ao xn6];generalize lu ⟨mv,m1,m2,m3,m4,es,rs⟩=E at*
 by_cases he:E=[]
 ·subst he
  simp only[go_sem,Q0,Q1,Q2,Q3,Q4,Q5,Q6,Q7,Q8,Q9,Qa,Qb,Qc,Qd,Qe,Qf,Qg,Qh,Qi,Qj,Qk,reduceCtorEq,reduceIte,g1,xfL]
 ·have hne:¬(E.length:Int)=0:=by
   intro h;exact he (bi.1 (by omega))
  rw[if_neg he];simp only[go_sem,Q0,Q1,Q2,Q3,Q4,Q5,Q6,Q7,Q8,Q9,Qa,Qb,Qc,Qd,Qe,Qf,Qg,Qh,Qi,Qj,Qk,reduceCtorEq,reduceIte,g1,xfL,hne,g2,xol]
def nF(v:Nat)(l:List UInt8):Nat:=l.foldl (fun v b=>v*256+b.toNat) v
def nB(l:List UInt8):Nat:=nF 0 l
theorem Qq:∀(l:List UInt8)(v k:Nat),v<256^k->nF v l<256^(k+l.length)
 |[],v,k,h=>h
 |b::r,v,k,h=>by
  have hb:=b.toNat_lt
  have h2:v*256+b.toNat<256^(k+1):=by have:(v+1)*256<=256^k*256:=bF _ h;rw[Nat.pow_succ];omega
  have:=Qq r (v*256+b.toNat) (k+1) h2;rw[aC,show k+(r.length+1)=k+1+r.length from by omega];exact this
theorem Qr(l:List UInt8):nB l<256^l.length:=by have:=Qq l 0 0 (by decide);rwa[cK]at this
theorem Gu(l:List UInt8)(h:l.length<=6):nB l<281474976710656:=by
 have h1:=Qr l;have h2:256^l.length<=256^6:=Nat.pow_le_pow_right (by decide) h;have h3:(256:Nat)^6=281474976710656:=by decide
 omega
theorem orW(v:Nat)(hv:v<1099511627776)(b:UInt8):bC .or .u64 (aZ.wrap ((v:Int)*2^min 8 64)) (b.toNat:Int)=((v*256+b.toNat:Nat):Int):=by
 have hb:=b.toNat_lt;have p:((2:Int)^min 8 64)=256:=by decide
 have e:aZ.wrap ((v:Int)*2^min 8 64)=((v*256:Nat):Int):=by rw[p,cB];omega
 rw[e];unfold bC;simp only[BitVec.ofInt_natCast]
 have e1:(BitVec.ofNat 64 (v*256)|||BitVec.ofNat 64 b.toNat).toNat=v*256+b.toNat:=by rw[BitVec.toNat_or,BitVec.toNat_ofNat,BitVec.toNat_ofNat,dV (by omega),dV (by omega)];have:=Nat.two_pow_add_eq_or_of_lt (i:=8) (b:=b.toNat) (by omega) v;rw[show(2:Nat)^8=256 from by decide]at this;rw[cL v 256,<-this]
 show aZ.wrap (((BitVec.ofNat 64 (v*256)|||BitVec.ofNat 64 b.toNat).toNat:Nat):Int)=_;rw[e1,cB];omega
structure Rs where
 a:Nat
 e:Int
def rdO(B:List UInt8)(t:Nat)(s:Rs):aG:= .rc [.byt B (.id t),.int .i64 s.a,.int .i64 s.e]
def uR(B:List UInt8)(n:Nat)(s:Rs):Int×Rs:=if s.e=0 then(if s.a+n<=B.length then(((nB ((B.drop s.a).take n):Nat):Int),⟨s.a+n,0⟩)else(0,⟨s.a,2⟩))else(0,s)
def wR(B:List UInt8)(n:Nat)(s:Rs):List UInt8×Rs:=if s.e=0 then(if s.a+n<=B.length then((B.drop s.a).take n,⟨s.a+n,0⟩)else([],⟨s.a,2⟩))else([],s)
def bR(B:List UInt8)(m:Nat)(s:Rs):List UInt8×Rs:=
 if s.e=0 then(if s.a+2<=B.length then(if nB ((B.drop s.a).take 2)<=m then(if s.a+2+nB ((B.drop s.a).take 2)<=B.length then((B.drop (s.a+2)).take (nB ((B.drop s.a).take 2)),⟨s.a+(2+nB ((B.drop s.a).take 2)),0⟩)else([],⟨s.a,2⟩))else([],⟨s.a,4⟩))else([],⟨s.a,2⟩))else([],s)
def eR(B:List UInt8)(s:Rs):Int:=if s.e=0 then(if s.a<B.length then 3 else 0)else s.e
structure gB(B:List UInt8)(s:Rs):Prop where
 a:s.a<=B.length
theorem iw{B:List UInt8}{n:Nat}{s:Rs}(h:gB B s):gB B (uR B n s).2:=by
 unfold uR;split
 ·split
  ·rename_i h2;exact⟨h2⟩
  ·exact⟨h.a⟩
 ·exact h
theorem xf0{B:List UInt8}{n:Nat}{s:Rs}(h:gB B s):gB B (wR B n s).2:=by
 unfold wR;split
 ·split
  ·rename_i h2;exact⟨h2⟩
  ·exact⟨h.a⟩
 ·exact h
theorem xR{B:List UInt8}{n:Nat}{s:Rs}(h:gB B s):gB B (bR B n s).2:=by
 unfold bR;split
 ·split
  ·split
   ·split
    ·rename_i h2;exact⟨by show s.a+(2+_)<=_;omega⟩
    ·exact⟨h.a⟩
   ·exact⟨h.a⟩
  ·exact⟨h.a⟩
 ·exact h
theorem f50(B:List UInt8)(hB:B.length<=1000000000):call T 50 [.byt B .no] [] 0=some ⟨.ptr 100 0,[(100,rdO B 60 ⟨0,0⟩)],[60]⟩:=by
 rw[ao xnL];unfold rdO;have h:0+B.length<=140737488355328:=by omega
 have h':B.length<=140737488355328:=by omega
 simp only[go_sem,Q0,Q1,Q2,Q3,Q4,Q5,Q6,Q7,Q8,Q9,Qa,Qb,Qc,Qd,Qe,Qf,Qg,Qh,Qi,Qj,Qk,reduceCtorEq,reduceIte,h,h',av]
theorem xae(B:List UInt8)(a e x:Int):call T 109 [.ptr 0 0,.int .i64 x] [.rc [.byt B (.id 50),.int .i64 a,.int .i64 e]] 1=some ⟨.tup [],[(0,.rc [.byt B (.id 60),.int .i64 a,.int .i64 x])],[60]⟩:=by rw[ao xje];simp only[go_sem,Q0,Q1,Q2,Q3,Q4,Q5,Q6,Q7,Q8,Q9,Qa,Qb,Qc,Qd,Qe,Qf,Qg,Qh,Qi,Qj,Qk,reduceCtorEq,reduceIte]
theorem xad(B:List UInt8)(e:Int)(hB:B.length<=1000000000)(a n p:Nat)(ha:a<=B.length)(hp:p<=1000000000)(hn:n<=1000000):call T 110 [.ptr 0 0,.int .i64 a,.int .i64 n] [.rc [.byt B (.id 50),.int .i64 p,.int .i64 e]] 1=
 if a+n<=B.length then some ⟨.tup [.byt ((B.drop a).take n) .no,.int .i64 0],[(0,.rc [.byt B (.id 60),.int .i64 p,.int .i64 e])],[60]⟩else some ⟨.tup [.byt [] .no,.int .i64 2],[(0,.rc [.byt B (.id 60),.int .i64 p,.int .i64 e])],[60]⟩:=by
 have e1:ac.wrap ((B.length:Int)-(a:Int))=((B.length-a:Nat):Int):=wZ (by omega)
 have e2:ac.wrap ((a:Int)+(n:Int))=((a+n:Nat):Int):=wZ (by omega)
 rw[ao xjd]
 by_cases h:a+n<=B.length
 ·rw[if_pos h]
  have h1:¬B.length-a<n:=by omega
  have h2:a<=a+n:=by omega
  have h3:(B.take (a+n)).drop a=(B.drop a).take n:=by rw[List.drop_take];congr 1;omega
  simp only[go_sem,Q0,Q1,Q2,Q3,Q4,Q5,Q6,Q7,Q8,Q9,Qa,Qb,Qc,Qd,Qe,Qf,Qg,Qh,Qi,Qj,Qk,reduceCtorEq,reduceIte,e1,e2,h,h1,h2,h3]
 ·rw[if_neg h]
  have h1:B.length-a<n:=by omega
  simp only[go_sem,Q0,Q1,Q2,Q3,Q4,Q5,Q6,Q7,Q8,Q9,Qa,Qb,Qc,Qd,Qe,Qf,Qg,Qh,Qi,Qj,Qk,reduceCtorEq,reduceIte,e1,e2,h1]
theorem l51(t:Nat)(O:aG)(n:Int)(X:List UInt8)(hX:X.length<=6)(hO:∃B s,O=rdO B t s):∀(m i v:Nat),X.length-i=m->i<=X.length->v<256^i->
 run T (.loop yv) ⟨[(0,.ptr 0 0),(1,.int .i64 n),(7,.int .u64 v),(38,.byt X .no),(39,.int .i64 X.length),(40,.int .i64 i)],[(0,O)],[t]⟩=
  some (.x 0,⟨[(0,.ptr 0 0),(1,.int .i64 n),(7,.int .u64 ((nF v (X.drop i):Nat):Int))],[(0,O)],[t]⟩):=by
 obtain⟨B,s,rfl⟩:=hO;intro m;induction m with
 |zero=>
  intro i v h0 h1 h2;have:i=X.length:=by omega
  subst this;rw[aX,ai];simp only[rdO,go_sem,Q0,Q1,Q2,Q3,Q4,Q5,Q6,Q7,Q8,Q9,Qa,Qb,Qc,Qd,Qe,Qf,Qg,Qh,Qi,Qj,Qk,reduceCtorEq,reduceIte,nF,List.foldl_nil]
 |succ m ih=>
  intro i v h0 h1 h2;have hi:i<X.length:=by omega
  have hiI:(i:Int)<(X.length:Int):=by omega
  have e1:=cg i (by omega)
  have hv:v<1099511627776:=by
   have:256^i<=256^5:=Nat.pow_le_pow_right (by decide) (by omega);have h3:(256:Nat)^5=1099511627776:=by decide
   omega
  have h3:=Qq [X.getD i 0] v i h2;have ih':=ih (i+1) (v*256+(X.getD i 0).toNat) (by omega) (by omega) h3;have ho:=orW v hv (X.getD i 0);have hd:nF v (X.drop i)=nF (v*256+(X.getD i 0).toNat) (X.drop (i+1)):=by rw[cN X i hi];rfl
  rw[hd];generalize hc:X.getD i 0=c at*;rw[ai];simp only[rdO]at ih' ⊢;simp only[go_sem,Q0,Q1,Q2,Q3,Q4,Q5,Q6,Q7,Q8,Q9,Qa,Qb,Qc,Qd,Qe,Qf,Qg,Qh,Qi,Qj,Qk,reduceCtorEq,reduceIte,hi,hiI,e1,hc,ho,ih']
theorem f51(B:List UInt8)(hB:B.length<=1000000000)(n:Nat)(h1:1<=n)(h6:n<=6)(s:Rs)(hs:gB B s):call T 51 [.ptr 0 0,.int .i64 n] [rdO B 50 s] 1=some ⟨.int .i64 (uR B n s).1,[(0,rdO B 60 (uR B n s).2)],[60]⟩:=by
 have ha:=hs.a;have g1:=xad B 0 hB s.a n s.a ha (by omega) (by omega);have g2:=xae B s.a 0 2;have hX:((B.drop s.a).take n).length<=6:=by rw[aj];omega
 have hl:=l51 31060 (rdO B 31060 s) n ((B.drop s.a).take n) hX ⟨B,s,rfl⟩ _ 0 0 rfl (bU _) (by decide);have hsm:=Gu _ hX;have n1:¬(n:Int)<1:=by omega
 have n8:¬(8:Int)<n:=by omega
 have e2:ac.wrap ((s.a:Int)+(n:Int))=((s.a+n:Nat):Int):=wZ (by omega)
 rw[ao xnK];unfold uR
 by_cases h0:s.e=0
 ·rw[if_pos h0]
  obtain⟨a,e⟩:=s;simp only at h0 g1 g2 hl e2 hsm;subst h0
  by_cases h:a+n<=B.length
  ·rw[if_pos h]at g1
   rw[if_pos h];rw[av,bh]at hl;change run T _ _=some (Ex.x 0,⟨[(0,SV.ptr 0 0),(1,SV.int .i64 n),(7,SV.int .u64 ((nB ((B.drop a).take n):Nat):Int))],_,_⟩)at hl;have m1:¬(9223372036854775807:Int)<((nB ((B.drop a).take n):Nat):Int):=by omega
   have m2:ac.wrap ((nB ((B.drop a).take n):Nat):Int)=((nB ((B.drop a).take n):Nat):Int):=w64 (by omega) (by omega);generalize nB ((B.drop a).take n)=V at*;generalize (B.drop a).take n=X at*;simp only[rdO]at hl ⊢;simp only[go_sem,Q0,Q1,Q2,Q3,Q4,Q5,Q6,Q7,Q8,Q9,Qa,Qb,Qc,Qd,Qe,Qf,Qg,Qh,Qi,Qj,Qk,reduceCtorEq,reduceIte,n1,n8,g1,pI,hl,m1,m2,e2]
  ·rw[if_neg h]at g1
   rw[if_neg h];simp only[rdO];simp only[go_sem,Q0,Q1,Q2,Q3,Q4,Q5,Q6,Q7,Q8,Q9,Qa,Qb,Qc,Qd,Qe,Qf,Qg,Qh,Qi,Qj,Qk,reduceCtorEq,reduceIte,n1,n8,g1,pI,g2,x6]
 ·rw[if_neg h0]
  obtain⟨a,e⟩:=s;simp only at h0;simp only[rdO];simp only[go_sem,Q0,Q1,Q2,Q3,Q4,Q5,Q6,Q7,Q8,Q9,Qa,Qb,Qc,Qd,Qe,Qf,Qg,Qh,Qi,Qj,Qk,reduceCtorEq,reduceIte,h0]
theorem f54(B:List UInt8)(hB:B.length<=1000000000)(n:Nat)(h6:n<=1000000)(s:Rs)(hs:gB B s):call T 54 [.ptr 0 0,.int .i64 n] [rdO B 50 s] 1=some ⟨.byt (wR B n s).1 .no,[(0,rdO B 60 (wR B n s).2)],[60]⟩:=by
 have ha:=hs.a;have g1:=xad B 0 hB s.a n s.a ha (by omega) (by omega);have g2:=xae B s.a 0 2;have n1:¬(n:Int)<0:=by omega
 have e2:ac.wrap ((s.a:Int)+(n:Int))=((s.a+n:Nat):Int):=wZ (by omega)
 have hX:0+((B.drop s.a).take n).length<=140737488355328:=by rw[aj];omega
 have hX':((B.drop s.a).take n).length<=140737488355328:=by rw[aj];omega
 rw[ao xnH];unfold wR
 by_cases h0:s.e=0
 ·rw[if_pos h0]
  obtain⟨a,e⟩:=s;simp only at h0 g1 g2 e2 hX hX';subst h0
  by_cases h:a+n<=B.length
  ·rw[if_pos h]at g1
   rw[if_pos h];generalize (B.drop a).take n=X at*;simp only[rdO];simp only[go_sem,Q0,Q1,Q2,Q3,Q4,Q5,Q6,Q7,Q8,Q9,Qa,Qb,Qc,Qd,Qe,Qf,Qg,Qh,Qi,Qj,Qk,reduceCtorEq,reduceIte,n1,g1,pI,e2,hX,hX']
  ·rw[if_neg h]at g1
   rw[if_neg h];simp only[rdO];simp only[go_sem,Q0,Q1,Q2,Q3,Q4,Q5,Q6,Q7,Q8,Q9,Qa,Qb,Qc,Qd,Qe,Qf,Qg,Qh,Qi,Qj,Qk,reduceCtorEq,reduceIte,n1,g1,pI,g2,x6]
 ·rw[if_neg h0]
  obtain⟨a,e⟩:=s;simp only at h0;simp only[rdO];simp only[go_sem,Q0,Q1,Q2,Q3,Q4,Q5,Q6,Q7,Q8,Q9,Qa,Qb,Qc,Qd,Qe,Qf,Qg,Qh,Qi,Qj,Qk,reduceCtorEq,reduceIte,h0]
theorem f53(B:List UInt8)(s:Rs):call T 53 [.ptr 0 0] [rdO B 50 s] 1=some ⟨.int .i64 s.e,[(0,rdO B 60 s)],[60]⟩:=by rw[ao xnI];simp only[rdO];simp only[go_sem,Q0,Q1,Q2,Q3,Q4,Q5,Q6,Q7,Q8,Q9,Qa,Qb,Qc,Qd,Qe,Qf,Qg,Qh,Qi,Qj,Qk,reduceCtorEq,reduceIte]
theorem xmY(B:List UInt8)(hB:B.length<=1000000000)(s:Rs)(hs:gB B s):call T 111 [.ptr 0 0] [rdO B 50 s] 1=some ⟨.int .i64 ((B.length-s.a:Nat):Int),[(0,rdO B 60 s)],[60]⟩:=by
 have ha:=hs.a;have e1:ac.wrap ((B.length:Int)-(s.a:Int))=((B.length-s.a:Nat):Int):=wZ (by omega)
 rw[ao xjc];simp only[rdO];simp only[go_sem,Q0,Q1,Q2,Q3,Q4,Q5,Q6,Q7,Q8,Q9,Qa,Qb,Qc,Qd,Qe,Qf,Qg,Qh,Qi,Qj,Qk,reduceCtorEq,reduceIte,e1]
theorem f55(B:List UInt8)(hB:B.length<=1000000000)(s:Rs)(hs:gB B s):call T 55 [.ptr 0 0] [rdO B 50 s] 1=some ⟨.int .i64 (eR B s),[(0,rdO B 60 s)],[60]⟩:=by
 have g:=xmY B hB s hs;rw[ao xnG];unfold eR;obtain⟨a,e⟩:=s;simp only[rdO]at g ⊢
 by_cases h0:e=0
 ·subst h0
  by_cases h:a<B.length
  ·have h1:(0:Int)<((B.length-a:Nat):Int):=by omega
   simp only[go_sem,Q0,Q1,Q2,Q3,Q4,Q5,Q6,Q7,Q8,Q9,Qa,Qb,Qc,Qd,Qe,Qf,Qg,Qh,Qi,Qj,Qk,reduceCtorEq,reduceIte,g,xaO,h,h1]
  ·have h1:¬(0:Int)<((B.length-a:Nat):Int):=by omega
   simp only[go_sem,Q0,Q1,Q2,Q3,Q4,Q5,Q6,Q7,Q8,Q9,Qa,Qb,Qc,Qd,Qe,Qf,Qg,Qh,Qi,Qj,Qk,reduceCtorEq,reduceIte,g,xaO,h,h1]
 ·simp only[go_sem,Q0,Q1,Q2,Q3,Q4,Q5,Q6,Q7,Q8,Q9,Qa,Qb,Qc,Qd,Qe,Qf,Qg,Qh,Qi,Qj,Qk,reduceCtorEq,reduceIte,h0]
theorem xik(B:List UInt8)(a:Nat)(h:a+2<=B.length):∃x y,(B.drop a).take 2=[x,y]:=by
 have:((B.drop a).take 2).length=2:=by rw[aj,aH];omega
 match (B.drop a).take 2,this with
 |[x,y],_=>exact⟨x,y,rfl⟩
theorem xlJ(x y:UInt8):bC .or .i64 (ac.wrap ((x.toNat:Int)*2^min 8 64)) (y.toNat:Int)=((nB [x,y]:Nat):Int):=by
 have hx:=x.toNat_lt;have hy:=y.toNat_lt;have p:((2:Int)^min 8 64)=256:=by decide
 have e:ac.wrap ((x.toNat:Int)*2^min 8 64)=((x.toNat*256:Nat):Int):=by rw[p,w64 (by omega) (by omega)];omega
 rw[e];unfold bC;simp only[BitVec.ofInt_natCast]
 have e1:(BitVec.ofNat 64 (x.toNat*256)|||BitVec.ofNat 64 y.toNat).toNat=x.toNat*256+y.toNat:=by rw[BitVec.toNat_or,BitVec.toNat_ofNat,BitVec.toNat_ofNat,dV (by omega),dV (by omega)];have:=Nat.two_pow_add_eq_or_of_lt (i:=8) (b:=y.toNat) (by omega) x.toNat;rw[show(2:Nat)^8=256 from by decide]at this;rw[cL x.toNat 256,<-this]
 show ac.wrap (((BitVec.ofNat 64 (x.toNat*256)|||BitVec.ofNat 64 y.toNat).toNat:Nat):Int)=_;have e2:nB [x,y]=x.toNat*256+y.toNat:=by simp[nB,nF]
 rw[e1,e2,w64 (by omega) (by omega)]
theorem f52(B:List UInt8)(hB:B.length<=1000000000)(m:Nat)(hm:m<=65535)(s:Rs)(hs:gB B s):call T 52 [.ptr 0 0,.int .i64 m] [rdO B 50 s] 1=some ⟨.byt (bR B m s).1 .no,[(0,rdO B 60 (bR B m s).2)],[60]⟩:=by
 have ha:=hs.a;have g1:=xad B 0 hB s.a 2 s.a ha (by omega) (by omega);have g2:=xae B s.a 0 2;have g4:=xae B s.a 0 4;rw[show((2:Nat):Int)=2 from rfl]at g1;rw[ao xnJ];unfold bR
 by_cases h0:s.e=0
 ·rw[if_pos h0]
  obtain⟨a,e⟩:=s;simp only at h0 g1 g2 g4 ha;subst h0
  by_cases h:a+2<=B.length
  ·rw[if_pos h]at g1
   rw[if_pos h];obtain⟨x,y,hxy⟩:=xik B a h;simp only[hxy]at g1 ⊢;have ho:=xlJ x y
   have hn:nB [x,y]<65536:=by
    have:=Qr [x,y];have p:(256:Nat)^ [x,y].length=65536:=by show(256:Nat)^2=65536;decide
    omega
   have e1:ac.wrap ((a:Int)+2)=((a+2:Nat):Int):=wZ (by omega)
   have e2:ac.wrap (2+((nB [x,y]:Nat):Int))=((2+nB [x,y]:Nat):Int):=wZ (by omega)
   have e3:ac.wrap ((a:Int)+((2+nB [x,y]:Nat):Int))=((a+(2+nB [x,y]):Nat):Int):=wZ (by omega)
   have g3:=xad B 0 hB (a+2) (nB [x,y]) a h (by omega) (by omega);generalize nB [x,y]=n at*
   by_cases hq:n<=m
   ·have hq':¬(m:Int)<(n:Int):=by omega
    have hq'':¬m<n:=by omega
    rw[if_pos hq];have hX:0+((B.drop (a+2)).take n).length<=140737488355328:=by rw[aj];omega
    have hX':((B.drop (a+2)).take n).length<=140737488355328:=by rw[aj];omega
    by_cases hr:a+2+n<=B.length
    ·rw[if_pos hr]at g3
     rw[if_pos hr];generalize (B.drop (a+2)).take n=X at*;simp only[rdO];simp only[go_sem,Q0,Q1,Q2,Q3,Q4,Q5,Q6,Q7,Q8,Q9,Qa,Qb,Qc,Qd,Qe,Qf,Qg,Qh,Qi,Qj,Qk,reduceCtorEq,reduceIte,g1,pI,ho,hq',hq'',g3,e1,e2,e3,hX,hX']
    ·rw[if_neg hr]at g3
     rw[if_neg hr];simp only[rdO];simp only[go_sem,Q0,Q1,Q2,Q3,Q4,Q5,Q6,Q7,Q8,Q9,Qa,Qb,Qc,Qd,Qe,Qf,Qg,Qh,Qi,Qj,Qk,reduceCtorEq,reduceIte,g1,pI,ho,hq',hq'',g3,e1,g2,x6]
   ·have hq':(m:Int)<(n:Int):=by omega
    have hq'':m<n:=by omega
    rw[if_neg hq];simp only[rdO];simp only[go_sem,Q0,Q1,Q2,Q3,Q4,Q5,Q6,Q7,Q8,Q9,Qa,Qb,Qc,Qd,Qe,Qf,Qg,Qh,Qi,Qj,Qk,reduceCtorEq,reduceIte,g1,pI,ho,hq',hq'',g4,x6]
  ·rw[if_neg h]at g1
   rw[if_neg h];simp only[rdO];simp only[go_sem,Q0,Q1,Q2,Q3,Q4,Q5,Q6,Q7,Q8,Q9,Qa,Qb,Qc,Qd,Qe,Qf,Qg,Qh,Qi,Qj,Qk,reduceCtorEq,reduceIte,g1,pI,g2,x6]
 ·rw[if_neg h0]
  obtain⟨a,e⟩:=s;simp only at h0;simp only[rdO];simp only[go_sem,Q0,Q1,Q2,Q3,Q4,Q5,Q6,Q7,Q8,Q9,Qa,Qb,Qc,Qd,Qe,Qf,Qg,Qh,Qi,Qj,Qk,reduceCtorEq,reduceIte,h0]
def pq(B:List UInt8)(s:Rs):Ent×Rs:=(⟨(uR B 1 s).1,(bR B 12 (uR B 1 s).2).1,(uR B 4 (bR B 12 (uR B 1 s).2).2).1,(wR B 32 (uR B 4 (bR B 12 (uR B 1 s).2).2).2).1⟩,(wR B 32 (uR B 4 (bR B 12 (uR B 1 s).2).2).2).2)
def oL(B:List UInt8)(s:Rs):Rul×Rs:=(⟨(uR B 1 s).1,(bR B 32 (uR B 1 s).2).1,(uR B 4 (bR B 32 (uR B 1 s).2).2).1,(uR B 4 (uR B 4 (bR B 32 (uR B 1 s).2).2).2).1⟩,(uR B 4 (uR B 4 (bR B 32 (uR B 1 s).2).2).2).2)
def fE(B:List UInt8):Nat->List Ent->Rs->List Ent×Rs
 |0,es,s=>(es,s)
 |n+1,es,s=>if s.e=0 then fE B n (es++ [(pq B s).1]) (pq B s).2 else(es,s)
def fB(B:List UInt8):Nat->List Rul->Rs->List Rul×Rs
 |0,es,s=>(es,s)
 |n+1,es,s=>if s.e=0 then fB B n (es++ [(oL B s).1]) (oL B s).2 else(es,s)
theorem C7{B:List UInt8}{s:Rs}(h:gB B s):gB B (pq B s).2:=xf0 (iw (xR (iw h)))
theorem AF{B:List UInt8}{s:Rs}(h:gB B s):gB B (oL B s).2:=iw (iw (xR (iw h)))
theorem vY{B:List UInt8}:∀{n:Nat}{es:List Ent}{s:Rs},gB B s->gB B (fE B n es s).2
 |0,_,_,h=>h
 |n+1,es,s,h=>by
  unfold fE;split
  ·exact vY (C7 h)
  ·exact h
theorem vn{B:List UInt8}:∀{n:Nat}{es:List Rul}{s:Rs},gB B s->gB B (fB B n es s).2
 |0,_,_,h=>h
 |n+1,es,s,h=>by
  unfold fB;split
  ·exact vn (AF h)
  ·exact h
theorem sd{B:List UInt8}:∀{n:Nat}{es:List Ent}{s:Rs},(fE B n es s).1.length<=es.length+n
 |0,_,_=>aQ _
 |n+1,es,s=>by
  unfold fE;split
  ·have:=sd (B:=B) (n:=n) (es:=es++ [(pq B s).1]) (s:=(pq B s).2)
   rw[af,aM]at this;omega
  ·show es.length<=_;omega
theorem rD{B:List UInt8}:∀{n:Nat}{es:List Rul}{s:Rs},(fB B n es s).1.length<=es.length+n
 |0,_,_=>aQ _
 |n+1,es,s=>by
  unfold fB;split
  ·have:=rD (B:=B) (n:=n) (es:=es++ [(oL B s).1]) (s:=(oL B s).2)
   rw[af,aM]at this;omega
  ·show es.length<=_;omega
def mR(v:List UInt8)(ve fl fr ti:Int)(es:List Ent)(t:Tok)(rs:List Rul)(t2:Tok):aG:= .rc [.str v,.int .i64 ve,.int .i64 fl,.int .i64 fr,.int .i64 ti,.lst 4 (bD es) t,.lst 4 (bT rs) t2]
def zR:aG:= .rc [.str [],.int .i64 0,.int .i64 0,.int .i64 0,.int .i64 0,.lst 4 [] .clip,.lst 4 [] .clip]
theorem GY(l:List Ent)(x:Ent):bD (l++ [x])=bD l++ [x.sv]:=by rw[bD,bD,cn];rfl
theorem F8(l:List Rul)(x:Rul):bT (l++ [x])=bT l++ [x.sv]:=by rw[bT,bT,cn];rfl
theorem xmc(B:List UInt8)(hB:B.length<=1000000000)(v:List UInt8)(ve fl fr ti:Int):∀(n:Nat)(es:List Ent)(s:Rs)(t:Tok)(tk:List Nat)(t0:Nat),es.length+n<=1000->gB B s->
 (t= .clip/\tk=[]/\es=[]\/t= .id 160/\tk=[160])->(t0=34060\/t0=55060)->
 ∃(t':Tok)(tk':List Nat)(t1:Nat),(t'= .clip/\tk'=[]/\(fE B n es s).1=[]\/t'= .id 160/\tk'=[160])/\(t1=34060\/t1=55060\/t1=39060)/\
  run T (.loop yG) ⟨[(2,.ptr 102 0),(4,.ptr 12100 0),(5,.ptr 105 0),(6,.int .i64 n)],[(102,zR),(105,mR v ve fl fr ti es t [] .clip),(12100,rdO B t0 s)],tk++ [t0]⟩=
   some (.x 0,⟨[(2,.ptr 102 0),(4,.ptr 12100 0),(5,.ptr 105 0)],[(102,zR),(105,mR v ve fl fr ti (fE B n es s).1 t' [] .clip),(12100,rdO B t1 (fE B n es s).2)],tk'++ [t1]⟩):=by
 intro n;induction n with
 |zero=>intro es s t tk t0 h1 h2 ht ht0;refine⟨t,tk,t0,ht,by omega, ?_⟩;unfold fE;rw[ai];rcases ht with⟨rfl,rfl,rfl⟩|⟨rfl,rfl⟩<;>rcases ht0 with rfl|rfl<;>simp only[zR,mR,rdO]<;>simp only[go_sem,Q0,Q1,Q2,Q3,Q4,Q5,Q6,Q7,Q8,Q9,Qa,Qb,Qc,Qd,Qe,Qf,Qg,Qh,Qi,Qj,Qk,reduceCtorEq,reduceIte,av]
 |succ n ih=>
  intro es s t tk t0 h1 h2 ht ht0;have hp:(0:Int)<((n+1:Nat):Int):=by omega
  have e1:ac.wrap (((n+1:Nat):Int)-1)=(n:Int):=wZ (by omega)
  have g0:=f53 B s
  by_cases he:s.e=0
  ·obtain⟨t',tk',t1,q1,q2,q3⟩:=ih (es++ [(pq B s).1]) (pq B s).2 (.id 160) [160] 55060 (by rw[af,aM];omega) (C7 h2) (.inr ⟨rfl,rfl⟩) (.inr rfl)
   have hu:fE B (n+1) es s=fE B n (es++ [(pq B s).1]) (pq B s).2:=by
    conv=>lhs;unfold fE
    rw[if_pos he]
   rw[hu];refine⟨t',tk',t1,q1,q2, ?_⟩;have hv:=bf es;have b1:(es.length+1)*56<=140737488355328:=by omega
   generalize fE B n (es++ [(pq B s).1]) (pq B s).2=Z at*;have k1:=iw (n:=1) h2;have g1:=f51 B hB 1 (by omega) (by omega) s h2;unfold pq mR at q3;rw[GY]at q3;generalize uR B 1 s=p1 at*;obtain⟨x1,s1⟩:=p1;simp only at k1 g1 q3;have k2:=xR (n:=12) k1;have g2:=f52 B hB 12 (by omega) s1 k1;generalize bR B 12 s1=p2 at*;obtain⟨x2,s2⟩:=p2;simp only at k2 g2 q3;have k3:=iw (n:=4) k2;have g3:=f51 B hB 4 (by omega) (by omega) s2 k2;generalize uR B 4 s2=p3 at*;obtain⟨x3,s3⟩:=p3;simp only at k3 g3 q3;have g4:=f54 B hB 32 (by omega) s3 k3;generalize wR B 32 s3=p4 at*;obtain⟨x4,s4⟩:=p4;simp only at g4 q3;rw[show((1:Nat):Int)=1 from rfl]at g1;rw[show((12:Nat):Int)=12 from rfl]at g2;rw[show((4:Nat):Int)=4 from rfl]at g3;rw[show((32:Nat):Int)=32 from rfl]at g4;rw[he]at g0;simp only[zR,mR,rdO,Ent.sv,aJ,aF]at g0 g1 g2 g3 g4 q3 ⊢;rw[he]at g0 g1;rw[he];rw[ai];rcases ht with⟨rfl,rfl,rfl⟩|⟨rfl,rfl⟩<;>rcases ht0 with rfl|rfl
   ·have hnil:bD []=[]:=rfl
    simp only[hnil,aF]at q3 ⊢;simp only[go_sem,Q0,Q1,Q2,Q3,Q4,Q5,Q6,Q7,Q8,Q9,Qa,Qb,Qc,Qd,Qe,Qf,Qg,Qh,Qi,Qj,Qk,reduceCtorEq,reduceIte,hp,e1,g0,Fp,g1,xX,g2,Fq,g3,g4,xay,q3]
   ·have hnil:bD []=[]:=rfl
    simp only[hnil,aF]at q3 ⊢;simp only[go_sem,Q0,Q1,Q2,Q3,Q4,Q5,Q6,Q7,Q8,Q9,Qa,Qb,Qc,Qd,Qe,Qf,Qg,Qh,Qi,Qj,Qk,reduceCtorEq,reduceIte,hp,e1,g0,Fp,g1,xX,g2,Fq,g3,g4,xay,q3]
   ·simp only[aJ,aF]
    simp only[go_sem,Q0,Q1,Q2,Q3,Q4,Q5,Q6,Q7,Q8,Q9,Qa,Qb,Qc,Qd,Qe,Qf,Qg,Qh,Qi,Qj,Qk,reduceCtorEq,reduceIte,hp,e1,g0,Fp,g1,xX,g2,Fq,g3,g4,xay,hv,b1,q3]
   ·simp only[aJ,aF]
    simp only[go_sem,Q0,Q1,Q2,Q3,Q4,Q5,Q6,Q7,Q8,Q9,Qa,Qb,Qc,Qd,Qe,Qf,Qg,Qh,Qi,Qj,Qk,reduceCtorEq,reduceIte,hp,e1,g0,Fp,g1,xX,g2,Fq,g3,g4,xay,hv,b1,q3]
  ·have hu:fE B (n+1) es s=(es,s):=by
    unfold fE;rw[if_neg he]
   rw[hu];refine⟨t,tk,39060,ht,by omega, ?_⟩;rw[ai];simp only[zR,mR,rdO]at g0 ⊢;rcases ht with⟨rfl,rfl,rfl⟩|⟨rfl,rfl⟩<;>rcases ht0 with rfl|rfl<;>simp only[go_sem,Q0,Q1,Q2,Q3,Q4,Q5,Q6,Q7,Q8,Q9,Qa,Qb,Qc,Qd,Qe,Qf,Qg,Qh,Qi,Qj,Qk,reduceCtorEq,reduceIte,hp,g0,Fp,he,aJ,aF]
theorem xmb(B:List UInt8)(hB:B.length<=1000000000)(v:List UInt8)(ve fl fr ti:Int)(es:List Ent)(t2:Tok)(tk2:List Nat)(ht2:t2= .clip/\tk2=[]/\es=[]\/t2= .id 160/\tk2=[160]):∀(n:Nat)(rs:List Rul)(s:Rs)(t:Tok)(tk:List Nat)(t0:Nat),rs.length+n<=1000->gB B s->
 (t= .clip/\tk=[]/\rs=[]\/t= .id 190/\tk=[190])->(t0=64060\/t0=85060)->
 ∃(t':Tok)(tk':List Nat)(t1:Nat),(t'= .clip/\tk'=[]/\(fB B n rs s).1=[]\/t'= .id 190/\tk'=[190])/\(t1=64060\/t1=85060\/t1=69060)/\
  run T (.loop yF) ⟨[(2,.ptr 102 0),(4,.ptr 12100 0),(5,.ptr 105 0),(8,.int .i64 n)],[(102,zR),(105,mR v ve fl fr ti es t2 rs t),(12100,rdO B t0 s)],tk2++(tk++ [t0])⟩=
   some (.x 2,⟨[(2,.ptr 102 0),(4,.ptr 12100 0),(5,.ptr 105 0)],[(102,zR),(105,mR v ve fl fr ti es t2 (fB B n rs s).1 t'),(12100,rdO B t1 (fB B n rs s).2)],tk2++(tk'++ [t1])⟩):=by
 intro n;induction n with
 |zero=>intro rs s t tk t0 h1 h2 ht ht0;refine⟨t,tk,t0,ht,by omega, ?_⟩;unfold fB;rw[ai];rcases ht2 with⟨rfl,rfl,rfl⟩|⟨rfl,rfl⟩<;>rcases ht with⟨rfl,rfl,rfl⟩|⟨rfl,rfl⟩<;>rcases ht0 with rfl|rfl<;>simp only[zR,mR,rdO]<;>simp only[go_sem,Q0,Q1,Q2,Q3,Q4,Q5,Q6,Q7,Q8,Q9,Qa,Qb,Qc,Qd,Qe,Qf,Qg,Qh,Qi,Qj,Qk,reduceCtorEq,reduceIte,av]
 |succ n ih=>
  intro rs s t tk t0 h1 h2 ht ht0;have hp:(0:Int)<((n+1:Nat):Int):=by omega
  have e1:ac.wrap (((n+1:Nat):Int)-1)=(n:Int):=wZ (by omega)
  have g0:=f53 B s
  by_cases he:s.e=0
  ·obtain⟨t',tk',t1,q1,q2,q3⟩:=ih (rs++ [(oL B s).1]) (oL B s).2 (.id 190) [190] 85060 (by rw[af,aM];omega) (AF h2) (.inr ⟨rfl,rfl⟩) (.inr rfl)
   have hu:fB B (n+1) rs s=fB B n (rs++ [(oL B s).1]) (oL B s).2:=by
    conv=>lhs;unfold fB
    rw[if_pos he]
   rw[hu];refine⟨t',tk',t1,q1,q2, ?_⟩;have hv:=bj rs;have b1:(rs.length+1)*40<=140737488355328:=by omega
   generalize fB B n (rs++ [(oL B s).1]) (oL B s).2=Z at*;have k1:=iw (n:=1) h2;have g1:=f51 B hB 1 (by omega) (by omega) s h2;unfold oL mR at q3;rw[F8]at q3;generalize uR B 1 s=p1 at*;obtain⟨x1,s1⟩:=p1;simp only at k1 g1 q3;have k2:=xR (n:=32) k1;have g2:=f52 B hB 32 (by omega) s1 k1;generalize bR B 32 s1=p2 at*;obtain⟨x2,s2⟩:=p2;simp only at k2 g2 q3;have k3:=iw (n:=4) k2;have g3:=f51 B hB 4 (by omega) (by omega) s2 k2;generalize uR B 4 s2=p3 at*;obtain⟨x3,s3⟩:=p3;simp only at k3 g3 q3;have g4:=f51 B hB 4 (by omega) (by omega) s3 k3;generalize uR B 4 s3=p4 at*;obtain⟨x4,s4⟩:=p4;simp only at g4 q3;rw[show((1:Nat):Int)=1 from rfl]at g1;rw[show((32:Nat):Int)=32 from rfl]at g2;rw[show((4:Nat):Int)=4 from rfl]at g3 g4;rw[he]at g0;simp only[zR,mR,rdO,Rul.sv,aJ,aF]at g0 g1 g2 g3 g4 q3 ⊢;rw[he]at g0 g1;rw[he];rw[ai];rcases ht2 with⟨rfl,rfl,rfl⟩|⟨rfl,rfl⟩<;>rcases ht with⟨rfl,rfl,rfl⟩|⟨rfl,rfl⟩<;>rcases ht0 with rfl|rfl
   all_goals
    have hnil:bT []=[]:=rfl;have hnil2:bD []=[]:=rfl;simp only[hnil,hnil2,aF,aJ]at q3 ⊢;simp only[go_sem,Q0,Q1,Q2,Q3,Q4,Q5,Q6,Q7,Q8,Q9,Qa,Qb,Qc,Qd,Qe,Qf,Qg,Qh,Qi,Qj,Qk,reduceCtorEq,reduceIte,hp,e1,g0,Fp,g1,xX,g2,Fq,g3,g4,hv,b1,q3]
  ·have hu:fB B (n+1) rs s=(rs,s):=by
    unfold fB;rw[if_neg he]
   rw[hu];refine⟨t,tk,69060,ht,by omega, ?_⟩;rw[ai];simp only[zR,mR,rdO]at g0 ⊢;rcases ht2 with⟨rfl,rfl,rfl⟩|⟨rfl,rfl⟩<;>rcases ht with⟨rfl,rfl,rfl⟩|⟨rfl,rfl⟩<;>rcases ht0 with rfl|rfl<;>simp only[go_sem,Q0,Q1,Q2,Q3,Q4,Q5,Q6,Q7,Q8,Q9,Qa,Qb,Qc,Qd,Qe,Qf,Qg,Qh,Qi,Qj,Qk,reduceCtorEq,reduceIte,hp,g0,Fp,he,aJ,aF]
def mS(v:List UInt8)(a1 a2 a3 a4:Int)(es:List Ent)(rs:List Rul):aG:= .rc [.str v,.int .i64 a1,.int .i64 a2,.int .i64 a3,.int .i64 a4,.lst 4 (bD es) .no,.lst 4 (bT rs) .no]
theorem kQ{α:Type}(l:List α)(d:α)(i:Nat)(h:i<l.length):l.drop i=l.getD i d::l.drop (i+1):=by rw[aS h,aa,ab h];rfl
theorem xma(
 v:List UInt8)(a1 a2 a3 a4:Int)(es fs:List Ent)(rs qs:List Rul)(hl:es.length=fs.length)(hn:es.length<=1000000)(hd:∀x∈es,x.dig.length<=1000000):∀(k i:Nat),es.length-i=k->i<=es.length->
 (es.drop i=fs.drop i->run T (.loop EO) ⟨[(2,.ptr 102 0),(3,.ptr 103 0),(5,.int .i64 i)],[(102,mS v a1 a2 a3 a4 es rs),(103,mS v a1 a2 a3 a4 fs qs)],[]⟩=some (.x 0,⟨[(2,.ptr 102 0),(3,.ptr 103 0)],[(102,mS v a1 a2 a3 a4 es rs),(103,mS v a1 a2 a3 a4 fs qs)],[]⟩))/\
 (¬es.drop i=fs.drop i->∃ob,run T (.loop EO) ⟨[(2,.ptr 102 0),(3,.ptr 103 0),(5,.int .i64 i)],[(102,mS v a1 a2 a3 a4 es rs),(103,mS v a1 a2 a3 a4 fs qs)],[]⟩=some (.r,⟨[(4,.bool false)],ob,[]⟩)):=by
 intro k;induction k with
 |zero=>
  intro i h1 h2;have h3:¬i<es.length:=by omega
  have e1:es.drop i=[]:=bo (by omega);have e2:fs.drop i=[]:=bo (by omega);have hv:=bf es;refine⟨fun _=> ?_,fun h=>absurd (e1.trans e2.symm) h⟩;rw[ai];simp only[mS,go_sem,Q0,Q1,Q2,Q3,Q4,Q5,Q6,Q7,Q8,Q9,Qa,Qb,Qc,Qd,Qe,Qf,Qg,Qh,Qi,Qj,Qk,reduceCtorEq,reduceIte,hv,h3]
 |succ k ih=>
  intro i h1 h2;have h3:i<es.length:=by omega
  have h3f:i<fs.length:=by omega
  have hv:=bf es;have hw:=bf fs;have hg:=dm es i h3;have hh:=dm fs i h3f;have dE:=kQ es en0 i h3;have dF:=kQ fs en0 i h3f;have ih':=ih (i+1) (by omega) (by omega);have e1:=cg i (by omega);have hdx:=hd _ (cY es en0 i h3);rw[dE,dF];generalize es.drop (i+1)=R at*;generalize fs.drop (i+1)=S at*;generalize es.getD i en0=x at*;generalize fs.getD i en0=y at*;obtain⟨r1,n1,v1,d1⟩:=x;obtain⟨r2,n2,v2,d2⟩:=y;have g:=f19 d1 d2 (by simp only at hdx;omega);clear hdx dE dF hd ih;simp only[mS,Ent.sv]at*
  by_cases q1:r1=r2
  ·subst q1
   by_cases q2:n1=n2
   ·subst q2
    by_cases q3:v1=v2
    ·subst q3
     by_cases q4:d1=d2
     ·subst q4
      rw[decide_eq_true rfl]at g;refine⟨fun h=> ?_,fun h=> ?_⟩
      ·have q:=ih'.1 (iv.inj h).2
       rw[ai];simp only[go_sem,Q0,Q1,Q2,Q3,Q4,Q5,Q6,Q7,Q8,Q9,Qa,Qb,Qc,Qd,Qe,Qf,Qg,Qh,Qi,Qj,Qk,reduceCtorEq,reduceIte,h3,h3f,hv,hw,hg,hh,e1,g,jB,q]
      ·obtain⟨ob,q⟩:=ih'.2 (fun h'=>h (by rw[h']))
       refine⟨ob, ?_⟩;rw[ai];simp only[go_sem,Q0,Q1,Q2,Q3,Q4,Q5,Q6,Q7,Q8,Q9,Qa,Qb,Qc,Qd,Qe,Qf,Qg,Qh,Qi,Qj,Qk,reduceCtorEq,reduceIte,h3,h3f,hv,hw,hg,hh,e1,g,jB,q]
     ·rw[decide_eq_false q4]at g
      refine⟨fun h=>absurd h (by simp[q4]),fun _=>⟨[(102,.rc [.str v,.int .i64 a1,.int .i64 a2,.int .i64 a3,.int .i64 a4,.lst 4 (bD es) .no,.lst 4 (bT rs) .no]),(103,.rc [.str v,.int .i64 a1,.int .i64 a2,.int .i64 a3,.int .i64 a4,.lst 4 (bD fs) .no,.lst 4 (bT qs) .no]),(106,.rc [.int .i64 r1,.str n1,.int .i64 v1,.byt d1 .no]),(107,.rc [.int .i64 r1,.str n1,.int .i64 v1,.byt d2 .no])], ?_⟩⟩;rw[ai];simp only[go_sem,Q0,Q1,Q2,Q3,Q4,Q5,Q6,Q7,Q8,Q9,Qa,Qb,Qc,Qd,Qe,Qf,Qg,Qh,Qi,Qj,Qk,reduceCtorEq,reduceIte,h3,h3f,hv,hw,hg,hh,e1,g,jB]
    ·refine⟨fun h=>absurd h (by simp[q3]),fun _=>⟨[(102,.rc [.str v,.int .i64 a1,.int .i64 a2,.int .i64 a3,.int .i64 a4,.lst 4 (bD es) .no,.lst 4 (bT rs) .no]),(103,.rc [.str v,.int .i64 a1,.int .i64 a2,.int .i64 a3,.int .i64 a4,.lst 4 (bD fs) .no,.lst 4 (bT qs) .no]),(106,.rc [.int .i64 r1,.str n1,.int .i64 v1,.byt d1 .no]),(107,.rc [.int .i64 r1,.str n1,.int .i64 v2,.byt d2 .no])], ?_⟩⟩
     rw[ai];simp only[go_sem,Q0,Q1,Q2,Q3,Q4,Q5,Q6,Q7,Q8,Q9,Qa,Qb,Qc,Qd,Qe,Qf,Qg,Qh,Qi,Qj,Qk,reduceCtorEq,reduceIte,h3,h3f,hv,hw,hg,hh,e1,q3]
   ·refine⟨fun h=>absurd h (by simp[q2]),fun _=>⟨[(102,.rc [.str v,.int .i64 a1,.int .i64 a2,.int .i64 a3,.int .i64 a4,.lst 4 (bD es) .no,.lst 4 (bT rs) .no]),(103,.rc [.str v,.int .i64 a1,.int .i64 a2,.int .i64 a3,.int .i64 a4,.lst 4 (bD fs) .no,.lst 4 (bT qs) .no]),(106,.rc [.int .i64 r1,.str n1,.int .i64 v1,.byt d1 .no]),(107,.rc [.int .i64 r1,.str n2,.int .i64 v2,.byt d2 .no])], ?_⟩⟩
    rw[ai];simp only[go_sem,Q0,Q1,Q2,Q3,Q4,Q5,Q6,Q7,Q8,Q9,Qa,Qb,Qc,Qd,Qe,Qf,Qg,Qh,Qi,Qj,Qk,reduceCtorEq,reduceIte,h3,h3f,hv,hw,hg,hh,e1,q2]
  ·refine⟨fun h=>absurd h (by simp[q1]),fun _=>⟨[(102,.rc [.str v,.int .i64 a1,.int .i64 a2,.int .i64 a3,.int .i64 a4,.lst 4 (bD es) .no,.lst 4 (bT rs) .no]),(103,.rc [.str v,.int .i64 a1,.int .i64 a2,.int .i64 a3,.int .i64 a4,.lst 4 (bD fs) .no,.lst 4 (bT qs) .no]),(106,.rc [.int .i64 r1,.str n1,.int .i64 v1,.byt d1 .no]),(107,.rc [.int .i64 r2,.str n2,.int .i64 v2,.byt d2 .no])], ?_⟩⟩
   rw[ai];simp only[go_sem,Q0,Q1,Q2,Q3,Q4,Q5,Q6,Q7,Q8,Q9,Qa,Qb,Qc,Qd,Qe,Qf,Qg,Qh,Qi,Qj,Qk,reduceCtorEq,reduceIte,h3,h3f,hv,hw,hg,hh,e1,q1]
theorem xl9(
 v:List UInt8)(a1 a2 a3 a4:Int)(es fs:List Ent)(rs qs:List Rul)(hl:rs.length=qs.length)(hn:rs.length<=1000000):∀(k i:Nat),rs.length-i=k->i<=rs.length->
 (rs.drop i=qs.drop i->run T (.loop up) ⟨[(2,.ptr 102 0),(3,.ptr 103 0),(8,.int .i64 i)],[(102,mS v a1 a2 a3 a4 es rs),(103,mS v a1 a2 a3 a4 fs qs)],[]⟩=some (.x 2,⟨[],[(102,mS v a1 a2 a3 a4 es rs),(103,mS v a1 a2 a3 a4 fs qs)],[]⟩))/\
 (¬rs.drop i=qs.drop i->run T (.loop up) ⟨[(2,.ptr 102 0),(3,.ptr 103 0),(8,.int .i64 i)],[(102,mS v a1 a2 a3 a4 es rs),(103,mS v a1 a2 a3 a4 fs qs)],[]⟩=some (.r,⟨[(4,.bool false)],[(102,mS v a1 a2 a3 a4 es rs),(103,mS v a1 a2 a3 a4 fs qs)],[]⟩)):=by
 intro k;induction k with
 |zero=>
  intro i h1 h2;have h3:¬i<rs.length:=by omega
  have e1:rs.drop i=[]:=bo (by omega);have e2:qs.drop i=[]:=bo (by omega);have hv:=bj rs;refine⟨fun _=> ?_,fun h=>absurd (e1.trans e2.symm) h⟩;rw[ai];simp only[mS,go_sem,Q0,Q1,Q2,Q3,Q4,Q5,Q6,Q7,Q8,Q9,Qa,Qb,Qc,Qd,Qe,Qf,Qg,Qh,Qi,Qj,Qk,reduceCtorEq,reduceIte,hv,h3]
 |succ k ih=>
  intro i h1 h2;have h3:i<rs.length:=by omega
  have h3f:i<qs.length:=by omega
  have hv:=bj rs;have hw:=bj qs;have hg:=gK rs i h3;have hh:=gK qs i h3f;have dE:=kQ rs rl0 i h3;have dF:=kQ qs rl0 i h3f;have ih':=ih (i+1) (by omega) (by omega);have e1:=cg i (by omega);rw[dE,dF];generalize rs.drop (i+1)=R at*;generalize qs.drop (i+1)=S at*;generalize rs.getD i rl0=x at*;generalize qs.getD i rl0=y at*;obtain⟨r1,n1,v1,d1⟩:=x;obtain⟨r2,n2,v2,d2⟩:=y;clear dE dF ih;simp only[mS,Rul.sv]at*
  by_cases q1:r1=r2
  ·subst q1
   by_cases q2:n1=n2
   ·subst q2
    by_cases q3:v1=v2
    ·subst q3
     by_cases q4:d1=d2
     ·subst q4
      refine⟨fun h=> ?_,fun h=> ?_⟩
      ·have q:=ih'.1 (iv.inj h).2
       rw[ai];simp only[go_sem,Q0,Q1,Q2,Q3,Q4,Q5,Q6,Q7,Q8,Q9,Qa,Qb,Qc,Qd,Qe,Qf,Qg,Qh,Qi,Qj,Qk,reduceCtorEq,reduceIte,h3,h3f,hv,hw,hg,hh,e1,q]
      ·have q:=ih'.2 (fun h'=>h (by rw[h']))
       rw[ai];simp only[go_sem,Q0,Q1,Q2,Q3,Q4,Q5,Q6,Q7,Q8,Q9,Qa,Qb,Qc,Qd,Qe,Qf,Qg,Qh,Qi,Qj,Qk,reduceCtorEq,reduceIte,h3,h3f,hv,hw,hg,hh,e1,q]
     ·refine⟨fun h=>absurd h (by simp[q4]),fun _=> ?_⟩
      rw[ai];simp only[go_sem,Q0,Q1,Q2,Q3,Q4,Q5,Q6,Q7,Q8,Q9,Qa,Qb,Qc,Qd,Qe,Qf,Qg,Qh,Qi,Qj,Qk,reduceCtorEq,reduceIte,h3,h3f,hv,hw,hg,hh,e1,q4]
    ·refine⟨fun h=>absurd h (by simp[q3]),fun _=> ?_⟩
     rw[ai];simp only[go_sem,Q0,Q1,Q2,Q3,Q4,Q5,Q6,Q7,Q8,Q9,Qa,Qb,Qc,Qd,Qe,Qf,Qg,Qh,Qi,Qj,Qk,reduceCtorEq,reduceIte,h3,h3f,hv,hw,hg,hh,e1,q3]
   ·refine⟨fun h=>absurd h (by simp[q2]),fun _=> ?_⟩
    rw[ai];simp only[go_sem,Q0,Q1,Q2,Q3,Q4,Q5,Q6,Q7,Q8,Q9,Qa,Qb,Qc,Qd,Qe,Qf,Qg,Qh,Qi,Qj,Qk,reduceCtorEq,reduceIte,h3,h3f,hv,hw,hg,hh,e1,q2]
  ·refine⟨fun h=>absurd h (by simp[q1]),fun _=> ?_⟩
   rw[ai];simp only[go_sem,Q0,Q1,Q2,Q3,Q4,Q5,Q6,Q7,Q8,Q9,Qa,Qb,Qc,Qd,Qe,Qf,Qg,Qh,Qi,Qj,Qk,reduceCtorEq,reduceIte,h3,h3f,hv,hw,hg,hh,e1,q1]
noncomputable def eqM(m n:Man):Bool:= @decide (m=n) (Classical.propDecidable _)
theorem xah{m n:Man}(h:m=n):eqM m n=true:=by unfold eqM;exact @decide_eq_true _ (Classical.propDecidable _) h
theorem nV{m n:Man}(h:¬m=n):eqM m n=false:=by unfold eqM;exact @decide_eq_false _ (Classical.propDecidable _) h
theorem f18(m n:Man)(hm:eI m):call T 18 [.agg m.sv,.agg n.sv] [] 0=some ⟨.bool (eqM m n),[],[]⟩:=by
 have hen:=hm.en;have hrn:=hm.rn;have hed:∀x∈m.ents,x.dig.length<=1000000:=fun x hx=>(hm.e x hx).2
 have hv:=bf m.ents;have hw:=bf n.ents;have hv2:=bj m.ruls;have hw2:=bj n.ruls;clear hm;obtain⟨v,a1,a2,a3,a4,es,rs⟩:=m;obtain⟨w,b1,b2,b3,b4,fs,qs⟩:=n;rw[ao xn8];simp only[Man.sv]at*
 by_cases q1:v=w
 ·subst q1
  by_cases q2:a1=b1
  ·subst q2
   by_cases q3:a2=b2
   ·subst q3
    by_cases q4:a3=b3
    ·subst q4
     by_cases q5:a4=b4
     ·subst q5
      by_cases q6:es.length=fs.length
      ·have q6':(es.length:Int)=fs.length:=by omega
       by_cases q7:rs.length=qs.length
       ·have q7':(rs.length:Int)=qs.length:=by omega
        have h1:=xma v a1 a2 a3 a4 es fs rs qs q6 hen hed _ 0 rfl (bU _);have h2:=xl9 v a1 a2 a3 a4 es fs rs qs q7 hrn _ 0 rfl (bU _);simp only[av,bh,mS]at h1 h2
        by_cases q8:es=fs
        ·have k1:=h1.1 q8
         by_cases q9:rs=qs
         ·have k2:=h2.1 q9
          rw[xah (by rw[q8,q9])];simp only[go_sem,Q0,Q1,Q2,Q3,Q4,Q5,Q6,Q7,Q8,Q9,Qa,Qb,Qc,Qd,Qe,Qf,Qg,Qh,Qi,Qj,Qk,reduceCtorEq,reduceIte,hv,hw,hv2,hw2,q6',q7',k1,k2]
         ·have k2:=h2.2 q9
          rw[nV (fun h=>q9 (Man.mk.inj h).2.2.2.2.2.2)];simp only[go_sem,Q0,Q1,Q2,Q3,Q4,Q5,Q6,Q7,Q8,Q9,Qa,Qb,Qc,Qd,Qe,Qf,Qg,Qh,Qi,Qj,Qk,reduceCtorEq,reduceIte,hv,hw,hv2,hw2,q6',q7',k1,k2]
        ·obtain⟨ob,k1⟩:=h1.2 q8
         rw[nV (fun h=>q8 (Man.mk.inj h).2.2.2.2.2.1)];simp only[go_sem,Q0,Q1,Q2,Q3,Q4,Q5,Q6,Q7,Q8,Q9,Qa,Qb,Qc,Qd,Qe,Qf,Qg,Qh,Qi,Qj,Qk,reduceCtorEq,reduceIte,hv,hw,hv2,hw2,q6',q7',k1]
       ·have q7':¬(rs.length:Int)=qs.length:=by omega
        rw[nV (fun h=>q7 (by rw[(Man.mk.inj h).2.2.2.2.2.2]))];simp only[go_sem,Q0,Q1,Q2,Q3,Q4,Q5,Q6,Q7,Q8,Q9,Qa,Qb,Qc,Qd,Qe,Qf,Qg,Qh,Qi,Qj,Qk,reduceCtorEq,reduceIte,hv,hw,hv2,hw2,q6',q7',q7]
      ·have q6':¬(es.length:Int)=fs.length:=by omega
       rw[nV (fun h=>q6 (by rw[(Man.mk.inj h).2.2.2.2.2.1]))];simp only[go_sem,Q0,Q1,Q2,Q3,Q4,Q5,Q6,Q7,Q8,Q9,Qa,Qb,Qc,Qd,Qe,Qf,Qg,Qh,Qi,Qj,Qk,reduceCtorEq,reduceIte,hv,hw,hv2,hw2,q6',q6]
     ·rw[nV (fun h=>q5 (Man.mk.inj h).2.2.2.2.1)]
      simp only[go_sem,Q0,Q1,Q2,Q3,Q4,Q5,Q6,Q7,Q8,Q9,Qa,Qb,Qc,Qd,Qe,Qf,Qg,Qh,Qi,Qj,Qk,reduceCtorEq,reduceIte,q5]
    ·rw[nV (fun h=>q4 (Man.mk.inj h).2.2.2.1)]
     simp only[go_sem,Q0,Q1,Q2,Q3,Q4,Q5,Q6,Q7,Q8,Q9,Qa,Qb,Qc,Qd,Qe,Qf,Qg,Qh,Qi,Qj,Qk,reduceCtorEq,reduceIte,q4]
   ·rw[nV (fun h=>q3 (Man.mk.inj h).2.2.1)]
    simp only[go_sem,Q0,Q1,Q2,Q3,Q4,Q5,Q6,Q7,Q8,Q9,Qa,Qb,Qc,Qd,Qe,Qf,Qg,Qh,Qi,Qj,Qk,reduceCtorEq,reduceIte,q3]
  ·rw[nV (fun h=>q2 (Man.mk.inj h).2.1)]
   simp only[go_sem,Q0,Q1,Q2,Q3,Q4,Q5,Q6,Q7,Q8,Q9,Qa,Qb,Qc,Qd,Qe,Qf,Qg,Qh,Qi,Qj,Qk,reduceCtorEq,reduceIte,q2]
 ·rw[nV (fun h=>q1 (Man.mk.inj h).1)]
  simp only[go_sem,Q0,Q1,Q2,Q3,Q4,Q5,Q6,Q7,Q8,Q9,Qa,Qb,Qc,Qd,Qe,Qf,Qg,Qh,Qi,Qj,Qk,reduceCtorEq,reduceIte,q1]
theorem f23(a:List UInt8)(n:Nat)(hn:n<=1000000):call T 23 [.byt a .no,.int .i64 n] [] 0=some ⟨.byt (a.take n) .no,[],[]⟩:=by
 rw[ao xn5]
 by_cases h:n<a.length
 ·have h1:(n:Int)<(a.length:Int):=by omega
  have h2:n<=a.length:=by omega
  simp only[go_sem,Q0,Q1,Q2,Q3,Q4,Q5,Q6,Q7,Q8,Q9,Qa,Qb,Qc,Qd,Qe,Qf,Qg,Qh,Qi,Qj,Qk,reduceCtorEq,reduceIte,h,h1,h2]
 ·have h1:¬(n:Int)<(a.length:Int):=by omega
  rw[ay (by omega)];simp only[go_sem,Q0,Q1,Q2,Q3,Q4,Q5,Q6,Q7,Q8,Q9,Qa,Qb,Qc,Qd,Qe,Qf,Qg,Qh,Qi,Qj,Qk,reduceCtorEq,reduceIte,h,h1]
def fp(x:Ent):Ent:=⟨x.role,x.name.take 30,x.ver,x.dig.take 40⟩
def ij(r:Rul):Rul:=⟨r.kind,r.text.take 60,r.lo,r.hi⟩
def xaa(m:Man):Man:=⟨m.vendor.take 30,m.ver,m.flr,m.frm,m.til,(m.ents.take 20).map fp,(m.ruls.take 12).map ij⟩
theorem Tk(A B:List Ent)(x:Ent):(bD (A++x::B)).getD A.length []=x.sv:=by rw[dm _ _ (by simp)];simp[aa]
theorem C8(A B:List Ent)(x y:Ent):(bD (A++x::B)).set A.length y.sv=bD (A++y::B):=by unfold bD;rw[cn,cn,List.set_append_right _ _ (by simp)];simp
theorem RW(A B:List Rul)(x:Rul):(bT (A++x::B)).getD A.length []=x.sv:=by rw[gK _ _ (by simp)];simp[aa]
theorem RU(A B:List Rul)(x y:Rul):(bT (A++x::B)).set A.length y.sv=bT (A++y::B):=by unfold bT;rw[cn,cn,List.set_append_right _ _ (by simp)];simp
theorem Z3(O1 O2:aG)(N:Nat)(hN:N<=1000):∀(B A:List Ent),A.length+B.length=N->
 run T (.loop uv) ⟨[(1,.ptr 101 0),(2,.ptr 102 0),(3,.psl 134 4 0 N none),(4,.int .i64 (A.length:Int))],[(101,O1),(102,O2),(134,.arr 4 (bD (A++B)))],[]⟩=
  some (.x 0,⟨[(1,.ptr 101 0),(2,.ptr 102 0),(3,.psl 134 4 0 N none)],[(101,O1),(102,O2),(134,.arr 4 (bD (A++B.map fp)))],[]⟩):=by
 intro B;induction B with
 |nil=>
  intro A h;have h1:¬A.length<N:=by rw[aB]at h;omega
  rw[ai];simp only[go_sem,Q0,Q1,Q2,Q3,Q4,Q5,Q6,Q7,Q8,Q9,Qa,Qb,Qc,Qd,Qe,Qf,Qg,Qh,Qi,Qj,Qk,reduceCtorEq,reduceIte,h1,bn]
 |cons x B ih=>
  intro A h;rw[aC]at h;have h1:A.length<N:=by omega
  have e1:=cg A.length (by omega);obtain⟨r,n,v,d⟩:=x;have g:=f23 d 40 (by decide);rw[show((40:Nat):Int)=40 from rfl]at g;have hl1:∀y:Ent,(bD (A++y::B)).length=N:=fun y=>by rw[bf,af,aC];omega
  have m1:=fun d=>Tk A B ⟨r,n,v,d⟩
  have s1:=C8 A B ⟨r,n,v,d⟩ ⟨r,n,v,d.take 40⟩;have s2:=C8 A B ⟨r,n,v,d.take 40⟩ ⟨r,n.take 30,v,d.take 40⟩;have k:=ih (A++ [fp ⟨r,n,v,d⟩]) (by simp;omega);rw[aA,aA,af,aM]at k;simp only[fp,Ent.sv,cX,aI]at k m1 s1 s2 ⊢
  by_cases hn:30<n.length
  ·have hn1:(30:Int)<(n.length:Int):=by omega
   have hn2:30<=n.length:=by omega
   have hn3:(30:Int)<=(n.length:Int):=by omega
   rw[ai];simp only[go_sem,Q0,Q1,Q2,Q3,Q4,Q5,Q6,Q7,Q8,Q9,Qa,Qb,Qc,Qd,Qe,Qf,Qg,Qh,Qi,Qj,Qk,reduceCtorEq,reduceIte,h1,e1,g,xlk,hl1,m1,s1,s2,hn,hn1,hn2,hn3,k]
  ·have hn1:¬(30:Int)<(n.length:Int):=by omega
   rw[ay (show n.length<=30 by omega)]at k ⊢;rw[ai];simp only[go_sem,Q0,Q1,Q2,Q3,Q4,Q5,Q6,Q7,Q8,Q9,Qa,Qb,Qc,Qd,Qe,Qf,Qg,Qh,Qi,Qj,Qk,reduceCtorEq,reduceIte,h1,e1,g,xlk,hl1,m1,s1,hn,hn1,k]
theorem rR(O1 O2:aG)(V3:SV)(OB:List (Nat×aG))(hV:V3= .lst 4 [] .clip/\OB=[]\/∃N E,V3= .psl 134 4 0 N none/\OB=[(134,.arr 4 E)])(N:Nat)(hN:N<=1000):∀(B A:List Rul),A.length+B.length=N->
 run T (.loop uu) ⟨[(1,.ptr 101 0),(2,.ptr 102 0),(3,V3),(5,.psl 171 4 0 N none),(6,.int .i64 (A.length:Int))],(101,O1)::(102,O2)::(OB++ [(171,.arr 4 (bT (A++B)))]),[]⟩=
  some (.x 2,⟨[(1,.ptr 101 0),(2,.ptr 102 0),(3,V3),(5,.psl 171 4 0 N none)],(101,O1)::(102,O2)::(OB++ [(171,.arr 4 (bT (A++B.map ij)))]),[]⟩):=by
 intro B;induction B with
 |nil=>
  intro A h;have h1:¬A.length<N:=by rw[aB]at h;omega
  rw[ai];rcases hV with⟨rfl,rfl⟩|⟨N',E,rfl,rfl⟩<;>simp only[go_sem,Q0,Q1,Q2,Q3,Q4,Q5,Q6,Q7,Q8,Q9,Qa,Qb,Qc,Qd,Qe,Qf,Qg,Qh,Qi,Qj,Qk,reduceCtorEq,reduceIte,h1,bn,aF,aJ]
 |cons x B ih=>
  intro A h;rw[aC]at h;have h1:A.length<N:=by omega
  have e1:=cg A.length (by omega);obtain⟨r,n,v,d⟩:=x;have hl1:∀y:Rul,(bT (A++y::B)).length=N:=fun y=>by rw[bj,af,aC];omega
  have m1:=fun n=>RW A B ⟨r,n,v,d⟩
  have s2:=RU A B ⟨r,n,v,d⟩ ⟨r,n.take 60,v,d⟩;have k:=ih (A++ [ij ⟨r,n,v,d⟩]) (by simp;omega);rw[aA,aA,af,aM]at k;simp only[ij,Rul.sv,cX,aI]at k m1 s2 ⊢
  by_cases hn:60<n.length
  ·have hn1:(60:Int)<(n.length:Int):=by omega
   have hn2:60<=n.length:=by omega
   have hn3:(60:Int)<=(n.length:Int):=by omega
   rw[ai];rcases hV with⟨rfl,rfl⟩|⟨N',E,rfl,rfl⟩
   ·simp only[aF,aJ]at k ⊢
    simp only[go_sem,Q0,Q1,Q2,Q3,Q4,Q5,Q6,Q7,Q8,Q9,Qa,Qb,Qc,Qd,Qe,Qf,Qg,Qh,Qi,Qj,Qk,reduceCtorEq,reduceIte,h1,e1,hl1,m1,s2,hn,hn1,hn2,hn3,k]
   ·simp only[aF,aJ]at k ⊢
    simp only[go_sem,Q0,Q1,Q2,Q3,Q4,Q5,Q6,Q7,Q8,Q9,Qa,Qb,Qc,Qd,Qe,Qf,Qg,Qh,Qi,Qj,Qk,reduceCtorEq,reduceIte,h1,e1,hl1,m1,s2,hn,hn1,hn2,hn3,k]
  ·have hn1:¬(60:Int)<(n.length:Int):=by omega
   rw[ay (show n.length<=60 by omega)]at k ⊢;rw[ai];rcases hV with⟨rfl,rfl⟩|⟨N',E,rfl,rfl⟩
   ·simp only[aF,aJ]at k ⊢
    simp only[go_sem,Q0,Q1,Q2,Q3,Q4,Q5,Q6,Q7,Q8,Q9,Qa,Qb,Qc,Qd,Qe,Qf,Qg,Qh,Qi,Qj,Qk,reduceCtorEq,reduceIte,h1,e1,hl1,m1,hn,hn1,k]
   ·simp only[aF,aJ]at k ⊢
    simp only[go_sem,Q0,Q1,Q2,Q3,Q4,Q5,Q6,Q7,Q8,Q9,Qa,Qb,Qc,Qd,Qe,Qf,Qg,Qh,Qi,Qj,Qk,reduceCtorEq,reduceIte,h1,e1,hl1,m1,hn,hn1,k]
theorem uz(O1 O2:aG):run T (.loop uv) ⟨[(1,.ptr 101 0),(2,.ptr 102 0),(3,.lst 4 [] .clip),(4,.int .i64 0)],[(101,O1),(102,O2)],[]⟩=
 some (.x 0,⟨[(1,.ptr 101 0),(2,.ptr 102 0),(3,.lst 4 [] .clip)],[(101,O1),(102,O2)],[]⟩):=by
 rw[ai];simp only[go_sem,Q0,Q1,Q2,Q3,Q4,Q5,Q6,Q7,Q8,Q9,Qa,Qb,Qc,Qd,Qe,Qf,Qg,Qh,Qi,Qj,Qk,reduceCtorEq,reduceIte]
theorem uy(O1 O2:aG)(V3:SV)(OB:List (Nat×aG))(hV:V3= .lst 4 [] .clip/\OB=[]\/∃N E,V3= .psl 134 4 0 N none/\OB=[(134,.arr 4 E)]):run T (.loop uu) ⟨[(1,.ptr 101 0),(2,.ptr 102 0),(3,V3),(5,.lst 4 [] .clip),(6,.int .i64 0)],(101,O1)::(102,O2)::OB,[]⟩=
 some (.x 2,⟨[(1,.ptr 101 0),(2,.ptr 102 0),(3,V3),(5,.lst 4 [] .clip)],(101,O1)::(102,O2)::OB,[]⟩):=by
 rw[ai];rcases hV with⟨rfl,rfl⟩|⟨N',E,rfl,rfl⟩<;>simp only[go_sem,Q0,Q1,Q2,Q3,Q4,Q5,Q6,Q7,Q8,Q9,Qa,Qb,Qc,Qd,Qe,Qf,Qg,Qh,Qi,Qj,Qk,reduceCtorEq,reduceIte]
theorem f11(m:Man):call T 11 [.agg m.sv] [] 0=some ⟨.agg (xaa m).sv,[],[]⟩:=by
 obtain⟨v,a1,a2,a3,a4,es,rs⟩:=m;rw[ao xoe];have hEl:=bf es;have hRl:=bj rs;have z0:bD ([]:List Ent)=[]:=rfl;have z1:bT ([]:List Rul)=[]:=rfl;simp only[xaa,Man.sv]
 by_cases hv:30<v.length
 ·have v1:(30:Int)<(v.length:Int):=by omega
  have v2:30<=v.length:=by omega
  have v3:(30:Int)<=(v.length:Int):=by omega
  rcases (show 20<es.length\/(es.length<=20/\0<es.length)\/es.length=0 by omega)with hE|hE|hE
  ·have e1:(20:Int)<(es.length:Int):=by omega
   have e2:20<=es.length:=by omega
   have e3:(20:Int)<=(es.length:Int):=by omega
   have et:(bD es).take 20=bD (es.take 20):=by unfold bD;rw[eC]
   have en:(es.take 20).length<=20:=by rw[aj];omega
   have ep:0<(es.take 20).length:=by rw[aj];omega
   have em:min 20 es.length=(es.take 20).length:=by rw[aj]
   have eq:(es.take 20).length=20:=by rw[aj];omega
   generalize es.take 20=L at*;have el:(bD L).length=L.length:=bf L;have ez:¬bD L=[]:=fun e=>by rw[e]at el;exact absurd el (by simp;omega)
   have eb:(0+L.length)*56<=140737488355328:=by omega
   have eb':L.length*56<=140737488355328:=by omega
   have kE:=fun O1 O2=>Z3 O1 O2 L.length (by omega) L [] (by simp)
   simp only[aB,aF,av]at kE;rcases (show 12<rs.length\/(rs.length<=12/\0<rs.length)\/rs.length=0 by omega)with hR|hR|hR
   ·have r1:(12:Int)<(rs.length:Int):=by omega
    have r2:12<=rs.length:=by omega
    have r3:(12:Int)<=(rs.length:Int):=by omega
    have rt:(bT rs).take 12=bT (rs.take 12):=by unfold bT;rw[eC]
    have rn:(rs.take 12).length<=12:=by rw[aj];omega
    have rp:0<(rs.take 12).length:=by rw[aj];omega
    have rm:min 12 rs.length=(rs.take 12).length:=by rw[aj]
    have rq:(rs.take 12).length=12:=by rw[aj];omega
    generalize rs.take 12=M at*;have rl:(bT M).length=M.length:=bj M;have rz:¬bT M=[]:=fun e=>by rw[e]at rl;exact absurd rl (by simp;omega)
    have rb:(0+M.length)*40<=140737488355328:=by omega
    have rb':M.length*40<=140737488355328:=by omega
    have kR:=fun O1 O2=>rR O1 O2 _ _ (.inr ⟨L.length,bD (L.map fp),rfl,rfl⟩) M.length (by omega) M [] (by simp)
    simp only[aB,aF,aJ,av]at kR;simp only[go_sem,Q0,Q1,Q2,Q3,Q4,Q5,Q6,Q7,Q8,Q9,Qa,Qb,Qc,Qd,Qe,Qf,Qg,Qh,Qi,Qj,Qk,reduceCtorEq,reduceIte,hv,v1,v2,v3,hEl,hRl,e1,e2,e3,et,el,ez,eb,eb',kE,r1,r2,r3,rt,rl,rz,rb,rb',kR,show(bD (L.map fp)).length=L.length from by rw[bf,au],show(bT (M.map ij)).length=M.length from by rw[bj,au],ay (show(bD (L.map fp)).length<=L.length by rw[bf,au];omega),ay (show(bT (M.map ij)).length<=M.length by rw[bj,au];omega),bn,b9,aB]
   ·have r1:¬(12:Int)<(rs.length:Int):=by omega
    have rt:rs.take 12=rs:=ay (by omega);have rn:rs.length<=12:=by omega
    have rp:0<rs.length:=by omega
    have r2:True:=trivial;have r3:True:=trivial;have rq:rs.length=rs.length:=rfl;rw[rt];have rl:(bT rs).length=rs.length:=bj rs;have rz:¬bT rs=[]:=fun e=>by rw[e]at rl;exact absurd rl (by simp;omega)
    have rb:(0+rs.length)*40<=140737488355328:=by omega
    have rb':rs.length*40<=140737488355328:=by omega
    have kR:=fun O1 O2=>rR O1 O2 _ _ (.inr ⟨L.length,bD (L.map fp),rfl,rfl⟩) rs.length (by omega) rs [] (by simp)
    simp only[aB,aF,aJ,av]at kR;simp only[go_sem,Q0,Q1,Q2,Q3,Q4,Q5,Q6,Q7,Q8,Q9,Qa,Qb,Qc,Qd,Qe,Qf,Qg,Qh,Qi,Qj,Qk,reduceCtorEq,reduceIte,hv,v1,v2,v3,hEl,hRl,e1,e2,e3,et,el,ez,eb,eb',kE,r1,rl,rz,rb,rb',kR,show(bD (L.map fp)).length=L.length from by rw[bf,au],show(bT (rs.map ij)).length=rs.length from by rw[bj,au],ay (show(bD (L.map fp)).length<=L.length by rw[bf,au];omega),ay (show(bT (rs.map ij)).length<=rs.length by rw[bj,au];omega),bn,b9,aB]
   ·obtain rfl:rs=[]:=bi.1 (by omega)
    have kR:=fun O1 O2=>uy O1 O2 _ _ (.inr ⟨L.length,bD (L.map fp),rfl,rfl⟩)
    simp only[go_sem,Q0,Q1,Q2,Q3,Q4,Q5,Q6,Q7,Q8,Q9,Qa,Qb,Qc,Qd,Qe,Qf,Qg,Qh,Qi,Qj,Qk,reduceCtorEq,reduceIte,hv,v1,v2,v3,hEl,hRl,e1,e2,e3,et,el,ez,eb,eb',kE,z1,kR,show(bD (L.map fp)).length=L.length from by rw[bf,au],ay (show(bD (L.map fp)).length<=L.length by rw[bf,au];omega),bn,b9,aB]
  ·have e1:¬(20:Int)<(es.length:Int):=by omega
   have et:es.take 20=es:=ay (by omega);have en:es.length<=20:=by omega
   have ep:0<es.length:=by omega
   have e2:True:=trivial;have e3:True:=trivial;have eq:es.length=es.length:=rfl;rw[et];have el:(bD es).length=es.length:=bf es;have ez:¬bD es=[]:=fun e=>by rw[e]at el;exact absurd el (by simp;omega)
   have eb:(0+es.length)*56<=140737488355328:=by omega
   have eb':es.length*56<=140737488355328:=by omega
   have kE:=fun O1 O2=>Z3 O1 O2 es.length (by omega) es [] (by simp)
   simp only[aB,aF,av]at kE;rcases (show 12<rs.length\/(rs.length<=12/\0<rs.length)\/rs.length=0 by omega)with hR|hR|hR
   ·have r1:(12:Int)<(rs.length:Int):=by omega
    have r2:12<=rs.length:=by omega
    have r3:(12:Int)<=(rs.length:Int):=by omega
    have rt:(bT rs).take 12=bT (rs.take 12):=by unfold bT;rw[eC]
    have rn:(rs.take 12).length<=12:=by rw[aj];omega
    have rp:0<(rs.take 12).length:=by rw[aj];omega
    have rm:min 12 rs.length=(rs.take 12).length:=by rw[aj]
    have rq:(rs.take 12).length=12:=by rw[aj];omega
    generalize rs.take 12=M at*;have rl:(bT M).length=M.length:=bj M;have rz:¬bT M=[]:=fun e=>by rw[e]at rl;exact absurd rl (by simp;omega)
    have rb:(0+M.length)*40<=140737488355328:=by omega
    have rb':M.length*40<=140737488355328:=by omega
    have kR:=fun O1 O2=>rR O1 O2 _ _ (.inr ⟨es.length,bD (es.map fp),rfl,rfl⟩) M.length (by omega) M [] (by simp)
    simp only[aB,aF,aJ,av]at kR;simp only[go_sem,Q0,Q1,Q2,Q3,Q4,Q5,Q6,Q7,Q8,Q9,Qa,Qb,Qc,Qd,Qe,Qf,Qg,Qh,Qi,Qj,Qk,reduceCtorEq,reduceIte,hv,v1,v2,v3,hEl,hRl,e1,el,ez,eb,eb',kE,r1,r2,r3,rt,rl,rz,rb,rb',kR,show(bD (es.map fp)).length=es.length from by rw[bf,au],show(bT (M.map ij)).length=M.length from by rw[bj,au],ay (show(bD (es.map fp)).length<=es.length by rw[bf,au];omega),ay (show(bT (M.map ij)).length<=M.length by rw[bj,au];omega),bn,b9,aB]
   ·have r1:¬(12:Int)<(rs.length:Int):=by omega
    have rt:rs.take 12=rs:=ay (by omega);have rn:rs.length<=12:=by omega
    have rp:0<rs.length:=by omega
    have r2:True:=trivial;have r3:True:=trivial;have rq:rs.length=rs.length:=rfl;rw[rt];have rl:(bT rs).length=rs.length:=bj rs;have rz:¬bT rs=[]:=fun e=>by rw[e]at rl;exact absurd rl (by simp;omega)
    have rb:(0+rs.length)*40<=140737488355328:=by omega
    have rb':rs.length*40<=140737488355328:=by omega
    have kR:=fun O1 O2=>rR O1 O2 _ _ (.inr ⟨es.length,bD (es.map fp),rfl,rfl⟩) rs.length (by omega) rs [] (by simp)
    simp only[aB,aF,aJ,av]at kR;simp only[go_sem,Q0,Q1,Q2,Q3,Q4,Q5,Q6,Q7,Q8,Q9,Qa,Qb,Qc,Qd,Qe,Qf,Qg,Qh,Qi,Qj,Qk,reduceCtorEq,reduceIte,hv,v1,v2,v3,hEl,hRl,e1,el,ez,eb,eb',kE,r1,rl,rz,rb,rb',kR,show(bD (es.map fp)).length=es.length from by rw[bf,au],show(bT (rs.map ij)).length=rs.length from by rw[bj,au],ay (show(bD (es.map fp)).length<=es.length by rw[bf,au];omega),ay (show(bT (rs.map ij)).length<=rs.length by rw[bj,au];omega),bn,b9,aB]
   ·obtain rfl:rs=[]:=bi.1 (by omega)
    have kR:=fun O1 O2=>uy O1 O2 _ _ (.inr ⟨es.length,bD (es.map fp),rfl,rfl⟩)
    simp only[go_sem,Q0,Q1,Q2,Q3,Q4,Q5,Q6,Q7,Q8,Q9,Qa,Qb,Qc,Qd,Qe,Qf,Qg,Qh,Qi,Qj,Qk,reduceCtorEq,reduceIte,hv,v1,v2,v3,hEl,hRl,e1,el,ez,eb,eb',kE,z1,kR,show(bD (es.map fp)).length=es.length from by rw[bf,au],ay (show(bD (es.map fp)).length<=es.length by rw[bf,au];omega),bn,b9,aB]
  ·obtain rfl:es=[]:=bi.1 (by omega)
   rcases (show 12<rs.length\/(rs.length<=12/\0<rs.length)\/rs.length=0 by omega)with hR|hR|hR
   ·have r1:(12:Int)<(rs.length:Int):=by omega
    have r2:12<=rs.length:=by omega
    have r3:(12:Int)<=(rs.length:Int):=by omega
    have rt:(bT rs).take 12=bT (rs.take 12):=by unfold bT;rw[eC]
    have rn:(rs.take 12).length<=12:=by rw[aj];omega
    have rp:0<(rs.take 12).length:=by rw[aj];omega
    have rm:min 12 rs.length=(rs.take 12).length:=by rw[aj]
    have rq:(rs.take 12).length=12:=by rw[aj];omega
    generalize rs.take 12=M at*;have rl:(bT M).length=M.length:=bj M;have rz:¬bT M=[]:=fun e=>by rw[e]at rl;exact absurd rl (by simp;omega)
    have rb:(0+M.length)*40<=140737488355328:=by omega
    have rb':M.length*40<=140737488355328:=by omega
    have kR:=fun O1 O2=>rR O1 O2 _ _ (.inl ⟨rfl,rfl⟩) M.length (by omega) M [] (by simp)
    simp only[aB,aF,aJ,av]at kR;simp only[go_sem,Q0,Q1,Q2,Q3,Q4,Q5,Q6,Q7,Q8,Q9,Qa,Qb,Qc,Qd,Qe,Qf,Qg,Qh,Qi,Qj,Qk,reduceCtorEq,reduceIte,hv,v1,v2,v3,hEl,hRl,z0,uz,r1,r2,r3,rt,rl,rz,rb,rb',kR,show(bT (M.map ij)).length=M.length from by rw[bj,au],ay (show(bT (M.map ij)).length<=M.length by rw[bj,au];omega),bn,b9,aB]
   ·have r1:¬(12:Int)<(rs.length:Int):=by omega
    have rt:rs.take 12=rs:=ay (by omega);have rn:rs.length<=12:=by omega
    have rp:0<rs.length:=by omega
    have r2:True:=trivial;have r3:True:=trivial;have rq:rs.length=rs.length:=rfl;rw[rt];have rl:(bT rs).length=rs.length:=bj rs;have rz:¬bT rs=[]:=fun e=>by rw[e]at rl;exact absurd rl (by simp;omega)
    have rb:(0+rs.length)*40<=140737488355328:=by omega
    have rb':rs.length*40<=140737488355328:=by omega
    have kR:=fun O1 O2=>rR O1 O2 _ _ (.inl ⟨rfl,rfl⟩) rs.length (by omega) rs [] (by simp)
    simp only[aB,aF,aJ,av]at kR;simp only[go_sem,Q0,Q1,Q2,Q3,Q4,Q5,Q6,Q7,Q8,Q9,Qa,Qb,Qc,Qd,Qe,Qf,Qg,Qh,Qi,Qj,Qk,reduceCtorEq,reduceIte,hv,v1,v2,v3,hEl,hRl,z0,uz,r1,rl,rz,rb,rb',kR,show(bT (rs.map ij)).length=rs.length from by rw[bj,au],ay (show(bT (rs.map ij)).length<=rs.length by rw[bj,au];omega),bn,b9,aB]
   ·obtain rfl:rs=[]:=bi.1 (by omega)
    have kR:=fun O1 O2=>uy O1 O2 _ _ (.inl ⟨rfl,rfl⟩)
    simp only[go_sem,Q0,Q1,Q2,Q3,Q4,Q5,Q6,Q7,Q8,Q9,Qa,Qb,Qc,Qd,Qe,Qf,Qg,Qh,Qi,Qj,Qk,reduceCtorEq,reduceIte,hv,v1,v2,v3,hEl,hRl,z0,uz,z1,kR,bn,b9,aB]
 ·have v1:¬(30:Int)<(v.length:Int):=by omega
  have v2:True:=trivial;have v3:True:=trivial;rw[ay (show v.length<=30 by omega)];rcases (show 20<es.length\/(es.length<=20/\0<es.length)\/es.length=0 by omega)with hE|hE|hE
  ·have e1:(20:Int)<(es.length:Int):=by omega
   have e2:20<=es.length:=by omega
   have e3:(20:Int)<=(es.length:Int):=by omega
   have et:(bD es).take 20=bD (es.take 20):=by unfold bD;rw[eC]
   have en:(es.take 20).length<=20:=by rw[aj];omega
   have ep:0<(es.take 20).length:=by rw[aj];omega
   have em:min 20 es.length=(es.take 20).length:=by rw[aj]
   have eq:(es.take 20).length=20:=by rw[aj];omega
   generalize es.take 20=L at*;have el:(bD L).length=L.length:=bf L;have ez:¬bD L=[]:=fun e=>by rw[e]at el;exact absurd el (by simp;omega)
   have eb:(0+L.length)*56<=140737488355328:=by omega
   have eb':L.length*56<=140737488355328:=by omega
   have kE:=fun O1 O2=>Z3 O1 O2 L.length (by omega) L [] (by simp)
   simp only[aB,aF,av]at kE;rcases (show 12<rs.length\/(rs.length<=12/\0<rs.length)\/rs.length=0 by omega)with hR|hR|hR
   ·have r1:(12:Int)<(rs.length:Int):=by omega
    have r2:12<=rs.length:=by omega
    have r3:(12:Int)<=(rs.length:Int):=by omega
    have rt:(bT rs).take 12=bT (rs.take 12):=by unfold bT;rw[eC]
    have rn:(rs.take 12).length<=12:=by rw[aj];omega
    have rp:0<(rs.take 12).length:=by rw[aj];omega
    have rm:min 12 rs.length=(rs.take 12).length:=by rw[aj]
    have rq:(rs.take 12).length=12:=by rw[aj];omega
    generalize rs.take 12=M at*;have rl:(bT M).length=M.length:=bj M;have rz:¬bT M=[]:=fun e=>by rw[e]at rl;exact absurd rl (by simp;omega)
    have rb:(0+M.length)*40<=140737488355328:=by omega
    have rb':M.length*40<=140737488355328:=by omega
    have kR:=fun O1 O2=>rR O1 O2 _ _ (.inr ⟨L.length,bD (L.map fp),rfl,rfl⟩) M.length (by omega) M [] (by simp)
    simp only[aB,aF,aJ,av]at kR;simp only[go_sem,Q0,Q1,Q2,Q3,Q4,Q5,Q6,Q7,Q8,Q9,Qa,Qb,Qc,Qd,Qe,Qf,Qg,Qh,Qi,Qj,Qk,reduceCtorEq,reduceIte,hv,v1,v2,v3,hEl,hRl,e1,e2,e3,et,el,ez,eb,eb',kE,r1,r2,r3,rt,rl,rz,rb,rb',kR,show(bD (L.map fp)).length=L.length from by rw[bf,au],show(bT (M.map ij)).length=M.length from by rw[bj,au],ay (show(bD (L.map fp)).length<=L.length by rw[bf,au];omega),ay (show(bT (M.map ij)).length<=M.length by rw[bj,au];omega),bn,b9,aB]
   ·have r1:¬(12:Int)<(rs.length:Int):=by omega
    have rt:rs.take 12=rs:=ay (by omega);have rn:rs.length<=12:=by omega
    have rp:0<rs.length:=by omega
    have r2:True:=trivial;have r3:True:=trivial;have rq:rs.length=rs.length:=rfl;rw[rt];have rl:(bT rs).length=rs.length:=bj rs;have rz:¬bT rs=[]:=fun e=>by rw[e]at rl;exact absurd rl (by simp;omega)
    have rb:(0+rs.length)*40<=140737488355328:=by omega
    have rb':rs.length*40<=140737488355328:=by omega
    have kR:=fun O1 O2=>rR O1 O2 _ _ (.inr ⟨L.length,bD (L.map fp),rfl,rfl⟩) rs.length (by omega) rs [] (by simp)
    simp only[aB,aF,aJ,av]at kR;simp only[go_sem,Q0,Q1,Q2,Q3,Q4,Q5,Q6,Q7,Q8,Q9,Qa,Qb,Qc,Qd,Qe,Qf,Qg,Qh,Qi,Qj,Qk,reduceCtorEq,reduceIte,hv,v1,v2,v3,hEl,hRl,e1,e2,e3,et,el,ez,eb,eb',kE,r1,rl,rz,rb,rb',kR,show(bD (L.map fp)).length=L.length from by rw[bf,au],show(bT (rs.map ij)).length=rs.length from by rw[bj,au],ay (show(bD (L.map fp)).length<=L.length by rw[bf,au];omega),ay (show(bT (rs.map ij)).length<=rs.length by rw[bj,au];omega),bn,b9,aB]
   ·obtain rfl:rs=[]:=bi.1 (by omega)
    have kR:=fun O1 O2=>uy O1 O2 _ _ (.inr ⟨L.length,bD (L.map fp),rfl,rfl⟩)
    simp only[go_sem,Q0,Q1,Q2,Q3,Q4,Q5,Q6,Q7,Q8,Q9,Qa,Qb,Qc,Qd,Qe,Qf,Qg,Qh,Qi,Qj,Qk,reduceCtorEq,reduceIte,hv,v1,v2,v3,hEl,hRl,e1,e2,e3,et,el,ez,eb,eb',kE,z1,kR,show(bD (L.map fp)).length=L.length from by rw[bf,au],ay (show(bD (L.map fp)).length<=L.length by rw[bf,au];omega),bn,b9,aB]
  ·have e1:¬(20:Int)<(es.length:Int):=by omega
   have et:es.take 20=es:=ay (by omega);have en:es.length<=20:=by omega
   have ep:0<es.length:=by omega
   have e2:True:=trivial;have e3:True:=trivial;have eq:es.length=es.length:=rfl;rw[et];have el:(bD es).length=es.length:=bf es;have ez:¬bD es=[]:=fun e=>by rw[e]at el;exact absurd el (by simp;omega)
   have eb:(0+es.length)*56<=140737488355328:=by omega
   have eb':es.length*56<=140737488355328:=by omega
   have kE:=fun O1 O2=>Z3 O1 O2 es.length (by omega) es [] (by simp)
   simp only[aB,aF,av]at kE;rcases (show 12<rs.length\/(rs.length<=12/\0<rs.length)\/rs.length=0 by omega)with hR|hR|hR
   ·have r1:(12:Int)<(rs.length:Int):=by omega
    have r2:12<=rs.length:=by omega
    have r3:(12:Int)<=(rs.length:Int):=by omega
    have rt:(bT rs).take 12=bT (rs.take 12):=by unfold bT;rw[eC]
    have rn:(rs.take 12).length<=12:=by rw[aj];omega
    have rp:0<(rs.take 12).length:=by rw[aj];omega
    have rm:min 12 rs.length=(rs.take 12).length:=by rw[aj]
    have rq:(rs.take 12).length=12:=by rw[aj];omega
    generalize rs.take 12=M at*;have rl:(bT M).length=M.length:=bj M;have rz:¬bT M=[]:=fun e=>by rw[e]at rl;exact absurd rl (by simp;omega)
    have rb:(0+M.length)*40<=140737488355328:=by omega
    have rb':M.length*40<=140737488355328:=by omega
    have kR:=fun O1 O2=>rR O1 O2 _ _ (.inr ⟨es.length,bD (es.map fp),rfl,rfl⟩) M.length (by omega) M [] (by simp)
    simp only[aB,aF,aJ,av]at kR;simp only[go_sem,Q0,Q1,Q2,Q3,Q4,Q5,Q6,Q7,Q8,Q9,Qa,Qb,Qc,Qd,Qe,Qf,Qg,Qh,Qi,Qj,Qk,reduceCtorEq,reduceIte,hv,v1,v2,v3,hEl,hRl,e1,el,ez,eb,eb',kE,r1,r2,r3,rt,rl,rz,rb,rb',kR,show(bD (es.map fp)).length=es.length from by rw[bf,au],show(bT (M.map ij)).length=M.length from by rw[bj,au],ay (show(bD (es.map fp)).length<=es.length by rw[bf,au];omega),ay (show(bT (M.map ij)).length<=M.length by rw[bj,au];omega),bn,b9,aB]
   ·have r1:¬(12:Int)<(rs.length:Int):=by omega
    have rt:rs.take 12=rs:=ay (by omega);have rn:rs.length<=12:=by omega
    have rp:0<rs.length:=by omega
    have r2:True:=trivial;have r3:True:=trivial;have rq:rs.length=rs.length:=rfl;rw[rt];have rl:(bT rs).length=rs.length:=bj rs;have rz:¬bT rs=[]:=fun e=>by rw[e]at rl;exact absurd rl (by simp;omega)
    have rb:(0+rs.length)*40<=140737488355328:=by omega
    have rb':rs.length*40<=140737488355328:=by omega
    have kR:=fun O1 O2=>rR O1 O2 _ _ (.inr ⟨es.length,bD (es.map fp),rfl,rfl⟩) rs.length (by omega) rs [] (by simp)
    simp only[aB,aF,aJ,av]at kR;simp only[go_sem,Q0,Q1,Q2,Q3,Q4,Q5,Q6,Q7,Q8,Q9,Qa,Qb,Qc,Qd,Qe,Qf,Qg,Qh,Qi,Qj,Qk,reduceCtorEq,reduceIte,hv,v1,v2,v3,hEl,hRl,e1,el,ez,eb,eb',kE,r1,rl,rz,rb,rb',kR,show(bD (es.map fp)).length=es.length from by rw[bf,au],show(bT (rs.map ij)).length=rs.length from by rw[bj,au],ay (show(bD (es.map fp)).length<=es.length by rw[bf,au];omega),ay (show(bT (rs.map ij)).length<=rs.length by rw[bj,au];omega),bn,b9,aB]
   ·obtain rfl:rs=[]:=bi.1 (by omega)
    have kR:=fun O1 O2=>uy O1 O2 _ _ (.inr ⟨es.length,bD (es.map fp),rfl,rfl⟩)
    simp only[go_sem,Q0,Q1,Q2,Q3,Q4,Q5,Q6,Q7,Q8,Q9,Qa,Qb,Qc,Qd,Qe,Qf,Qg,Qh,Qi,Qj,Qk,reduceCtorEq,reduceIte,hv,v1,v2,v3,hEl,hRl,e1,el,ez,eb,eb',kE,z1,kR,show(bD (es.map fp)).length=es.length from by rw[bf,au],ay (show(bD (es.map fp)).length<=es.length by rw[bf,au];omega),bn,b9,aB]
  ·obtain rfl:es=[]:=bi.1 (by omega)
   rcases (show 12<rs.length\/(rs.length<=12/\0<rs.length)\/rs.length=0 by omega)with hR|hR|hR
   ·have r1:(12:Int)<(rs.length:Int):=by omega
    have r2:12<=rs.length:=by omega
    have r3:(12:Int)<=(rs.length:Int):=by omega
    have rt:(bT rs).take 12=bT (rs.take 12):=by unfold bT;rw[eC]
    have rn:(rs.take 12).length<=12:=by rw[aj];omega
    have rp:0<(rs.take 12).length:=by rw[aj];omega
    have rm:min 12 rs.length=(rs.take 12).length:=by rw[aj]
    have rq:(rs.take 12).length=12:=by rw[aj];omega
    generalize rs.take 12=M at*;have rl:(bT M).length=M.length:=bj M;have rz:¬bT M=[]:=fun e=>by rw[e]at rl;exact absurd rl (by simp;omega)
    have rb:(0+M.length)*40<=140737488355328:=by omega
    have rb':M.length*40<=140737488355328:=by omega
    have kR:=fun O1 O2=>rR O1 O2 _ _ (.inl ⟨rfl,rfl⟩) M.length (by omega) M [] (by simp)
    simp only[aB,aF,aJ,av]at kR;simp only[go_sem,Q0,Q1,Q2,Q3,Q4,Q5,Q6,Q7,Q8,Q9,Qa,Qb,Qc,Qd,Qe,Qf,Qg,Qh,Qi,Qj,Qk,reduceCtorEq,reduceIte,hv,v1,v2,v3,hEl,hRl,z0,uz,r1,r2,r3,rt,rl,rz,rb,rb',kR,show(bT (M.map ij)).length=M.length from by rw[bj,au],ay (show(bT (M.map ij)).length<=M.length by rw[bj,au];omega),bn,b9,aB]
   ·have r1:¬(12:Int)<(rs.length:Int):=by omega
    have rt:rs.take 12=rs:=ay (by omega);have rn:rs.length<=12:=by omega
    have rp:0<rs.length:=by omega
    have r2:True:=trivial;have r3:True:=trivial;have rq:rs.length=rs.length:=rfl;rw[rt];have rl:(bT rs).length=rs.length:=bj rs;have rz:¬bT rs=[]:=fun e=>by rw[e]at rl;exact absurd rl (by simp;omega)
    have rb:(0+rs.length)*40<=140737488355328:=by omega
    have rb':rs.length*40<=140737488355328:=by omega
    have kR:=fun O1 O2=>rR O1 O2 _ _ (.inl ⟨rfl,rfl⟩) rs.length (by omega) rs [] (by simp)
    simp only[aB,aF,aJ,av]at kR;simp only[go_sem,Q0,Q1,Q2,Q3,Q4,Q5,Q6,Q7,Q8,Q9,Qa,Qb,Qc,Qd,Qe,Qf,Qg,Qh,Qi,Qj,Qk,reduceCtorEq,reduceIte,hv,v1,v2,v3,hEl,hRl,z0,uz,r1,rl,rz,rb,rb',kR,show(bT (rs.map ij)).length=rs.length from by rw[bj,au],ay (show(bT (rs.map ij)).length<=rs.length by rw[bj,au];omega),bn,b9,aB]
   ·obtain rfl:rs=[]:=bi.1 (by omega)
    have kR:=fun O1 O2=>uy O1 O2 _ _ (.inl ⟨rfl,rfl⟩)
    simp only[go_sem,Q0,Q1,Q2,Q3,Q4,Q5,Q6,Q7,Q8,Q9,Qa,Qb,Qc,Qd,Qe,Qf,Qg,Qh,Qi,Qj,Qk,reduceCtorEq,reduceIte,hv,v1,v2,v3,hEl,hRl,z0,uz,z1,kR,bn,b9,aB]
end Go.Proofs.YtkcjdeofknkndaaGreatDoor
