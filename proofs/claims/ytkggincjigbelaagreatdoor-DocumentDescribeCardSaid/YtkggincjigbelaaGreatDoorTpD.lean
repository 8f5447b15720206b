/- What the functions come to. No condition. -/
import Derived.Test.YtkggincjigbelaaGreatDoorTiD
import Derived.Test.YtkggincjigbelaaGreatDoorToD
open Int renaming natCast_zero -> aB
open List renaming drop_eq_getElem_cons -> bq, drop_length -> bP, drop_zero -> bj, foldl_cons -> cr, foldl_nil -> Du, getD_eq_getElem?_getD -> aa, getElem?_eq_getElem -> ab, length_append -> ac, length_cons -> ai, length_nil -> aw, mem_cons_of_mem -> ao, mem_cons_self -> ay
open Nat renaming add_mul -> bz, zero_le -> bJ
set_option maxRecDepth 100000
set_option maxHeartbeats 16000000
set_option linter.unusedSimpArgs false
set_option linter.unusedVariables false
namespace Go.Proofs.YtkggincjigbelaaGreatDoor
open Go.Sy
open UInt8 renaming reduceLT -> Q0, reduceLE -> Q1
open Int renaming reduceToNat -> Q2, reduceLE -> Q3, reduceLT -> Q4, reduceEq -> Q5, reduceNe -> Q6, reduceNeg -> Q7, reduceAdd -> Q8, reduceSub -> Q9, reduceMul -> Qa
open Nat renaming reducePow -> Qb, reduceDiv -> Qc, reduceMod -> Qd, reduceAdd -> Qe, reduceSub -> Qf, reduceMul -> Qg, reduceLT -> Qh, reduceLeDiff -> Qi, reduceEqDiff -> Qj, reduceBEq -> Qk
def hdM(m:Man):List UInt8:=jv ([]++bu 1 21) m.vendor++bu 4 m.ver++bu 4 m.flr++bu 6 m.frm++bu 6 m.til++bu 1 (m.ents.length:Int)
theorem cQ(k:Nat)(v:Int):(bu k v).length=k:=dQ ..
theorem qb(B:List UInt8)(k:Nat)(v:Int)(h1:1<=k)(h8:k<=8)(hB:B.length<=10000000000000):
 call T 40 [.byt B .no,.int .i64 k,.int .i64 v] [] 0=some ⟨.byt (B++bu k v) (.id 60),[],[60]⟩:=f40 B k v h1 h8 hB
def pd(B:List UInt8)(x:Ent):List UInt8:=jv (B++bu 1 x.role) x.name++bu 4 x.ver++x.dig
def mF(B:List UInt8)(r:Rul):List UInt8:=jv (B++bu 1 r.kind) r.text++bu 4 r.lo++bu 4 r.hi
theorem uC(B:List UInt8)(x:Ent)(hn:x.name.length<=1000000)(hd:x.dig.length<=1000000):(pd B x).length<=B.length+2000007:=by unfold pd;rw[ac,ac,eo,ac,cQ,cQ];omega
theorem tO(B:List UInt8)(x:Rul)(hn:x.text.length<=1000000):(mF B x).length<=B.length+2000007:=by unfold mF;rw[ac,ac,eo,ac,cQ,cQ,cQ];omega
def tkA:Bool->List Nat
 |false=> [103,12060,17060,21060,24060,28060,31060]
 |true=> [103,12060,17060,21060,24060,28060,31060,51060]
theorem xdQ(m:Man)(hm:kF m)(b:Bool)(i:Nat)(hi:i<m.ents.length)(B:List UInt8)(hB:B.length<=1000000000):
 run T (.loop oS) ⟨[(1,.ptr 101 0),(3,.byt B (.id 103)),(37,.lst 4 (dh m.ents) .no),(38,.int .i64 m.ents.length),(39,.int .i64 i)],[(101,.rc m.sv)],tkA b⟩=
 run T (.loop oS) ⟨[(1,.ptr 101 0),(3,.byt (pd B (m.ents.getD i en0)) (.id 103)),(37,.lst 4 (dh m.ents) .no),(38,.int .i64 m.ents.length),(39,.int .i64 ((i+1:Nat):Int))],[(101,.rc m.sv)],tkA true⟩:=by
 have k1:((1:Nat):Int)=1:=rfl;have k4:((4:Nat):Int)=4:=rfl;have hen:=hm.en;have e1:=cR i (by omega);have hg:=fg m.ents i hi;have hel:=dP m.ents;obtain⟨hxn,hxd⟩:=hm.e _ (fB m.ents en0 i hi);clear hm;generalize m.ents.getD i en0=x at*;unfold pd;have u1:=qb B 1 x.role (by omega) (by omega) (by omega);rw[k1]at u1;have n1:(B++bu 1 x.role).length<=1000000001:=by rw[ac,cQ];omega
 generalize B++bu 1 x.role=B1 at*;have u2:=f72 B1 x.name (by omega) (by omega);have n2:(jv B1 x.name).length<=1010000000:=by rw[eo];omega
 generalize jv B1 x.name=B2 at*;have u3:=qb B2 4 x.ver (by omega) (by omega) (by omega);rw[k4]at u3;have n3:(B2++bu 4 x.ver).length<=1010000004:=by rw[ac,cQ];omega
 generalize B2++bu 4 x.ver=B3 at*;have n4:B3.length+x.dig.length<=140737488355328:=by omega
 obtain⟨mv,m1,m2,m3,m4,es,rs⟩:=m;obtain⟨x1,x2,x3,x4⟩:=x;simp only[Man.sv,Ent.sv]at*;cases b with
 |false=>rw[ah];simp only[tkA];simp only[go_sem,Q0,Q1,Q2,Q3,Q4,Q5,Q6,Q7,Q8,Q9,Qa,Qb,Qc,Qd,Qe,Qf,Qg,Qh,Qi,Qj,Qk,reduceCtorEq,reduceIte,hi,e1,hg,hel,u1,u2,u3,n4,nV,r8]
 |true=>rw[ah];simp only[tkA];simp only[go_sem,Q0,Q1,Q2,Q3,Q4,Q5,Q6,Q7,Q8,Q9,Qa,Qb,Qc,Qd,Qe,Qf,Qg,Qh,Qi,Qj,Qk,reduceCtorEq,reduceIte,hi,e1,hg,hel,u1,u2,u3,n4,nV,r8]
theorem xky(m:Man)(hm:kF m)(h16:m.ents.length<=16):∀(n i:Nat)(b:Bool)(B:List UInt8),m.ents.length-i=n->i<=m.ents.length->B.length<=20000000+i*2000007->
 ∃b',run T (.loop oS) ⟨[(1,.ptr 101 0),(3,.byt B (.id 103)),(37,.lst 4 (dh m.ents) .no),(38,.int .i64 m.ents.length),(39,.int .i64 i)],[(101,.rc m.sv)],tkA b⟩=
 some (.x 0,⟨[(1,.ptr 101 0),(3,.byt ((m.ents.drop i).foldl pd B) (.id 103))],[(101,.rc m.sv)],tkA b'⟩):=by
 intro n;induction n with
 |zero=>
  intro i b B h0 h1 h2;have:i=m.ents.length:=by omega
  subst this;refine⟨b, ?_⟩;rw[bP,Du,ah];cases b with
  |false=>simp only[tkA];simp only[go_sem,Q0,Q1,Q2,Q3,Q4,Q5,Q6,Q7,Q8,Q9,Qa,Qb,Qc,Qd,Qe,Qf,Qg,Qh,Qi,Qj,Qk,reduceCtorEq,reduceIte]
  |true=>simp only[tkA];simp only[go_sem,Q0,Q1,Q2,Q3,Q4,Q5,Q6,Q7,Q8,Q9,Qa,Qb,Qc,Qd,Qe,Qf,Qg,Qh,Qi,Qj,Qk,reduceCtorEq,reduceIte]
 |succ n ih=>
  intro i b B h0 h1 h2;have hi:i<m.ents.length:=by omega
  have hdr:m.ents.drop i=m.ents.getD i en0::m.ents.drop (i+1):=by rw[bq hi,aa,ab hi];rfl
  obtain⟨hxn,hxd⟩:=hm.e _ (fB m.ents en0 i hi);have hl:=uC B (m.ents.getD i en0) hxn hxd;rw[xdQ m hm b i hi B (by omega),hdr,cr];exact ih (i+1) true _ (by omega) (by omega) (by omega)
def tkB:Bool->List Nat
 |false=> [103,12060,17060,21060,24060,28060,31060,64060]
 |true=> [103,12060,17060,21060,24060,28060,31060,51060,64060]
def tkC:Bool->List Nat
 |false=> [103,12060,17060,21060,24060,28060,31060,64060,79060,86060]
 |true=> [103,12060,17060,21060,24060,28060,31060,51060,64060,79060,86060]
theorem xdP(m:Man)(b:Bool)(t:Nat)(tk:List Nat)(ht:(t=64060/\tk=tkB b)\/(t=86060/\tk=tkC b))(rs:List Rul)(hx:∀x∈rs,x.text.length<=1000000)(hn:rs.length<=1000000)(i:Nat)(hi:i<rs.length)(B:List UInt8)(hB:B.length<=1000000000):
 run T (.loop oR) ⟨[(3,.byt B (.id t)),(65,.lst 4 (gP rs) .no),(66,.int .i64 rs.length),(67,.int .i64 i)],[(101,.rc m.sv)],tk⟩=
 run T (.loop oR) ⟨[(3,.byt (mF B (rs.getD i rl0)) (.id 86060)),(65,.lst 4 (gP rs) .no),(66,.int .i64 rs.length),(67,.int .i64 ((i+1:Nat):Int))],[(101,.rc m.sv)],tkC b⟩:=by
 have k1:((1:Nat):Int)=1:=rfl;have k4:((4:Nat):Int)=4:=rfl;have e1:=cR i (by omega);have hg:=tK rs i hi;have hel:=jJ rs;have hxn:=hx _ (fB rs rl0 i hi);generalize rs.getD i rl0=x at*;unfold mF;have u1:=qb B 1 x.kind (by omega) (by omega) (by omega);rw[k1]at u1;have n1:(B++bu 1 x.kind).length<=1000000001:=by rw[ac,cQ];omega
 generalize B++bu 1 x.kind=B1 at*;have u2:=f72 B1 x.text (by omega) (by omega);have n2:(jv B1 x.text).length<=1010000000:=by rw[eo];omega
 generalize jv B1 x.text=B2 at*;have u3:=qb B2 4 x.lo (by omega) (by omega) (by omega);rw[k4]at u3;have n3:(B2++bu 4 x.lo).length<=1010000004:=by rw[ac,cQ];omega
 generalize B2++bu 4 x.lo=B3 at*;have u4:=qb B3 4 x.hi (by omega) (by omega) (by omega);rw[k4]at u4;obtain⟨mv,m1,m2,m3,m4,es,rs'⟩:=m;obtain⟨x1,x2,x3,x4⟩:=x;simp only[Rul.sv,Man.sv]at*;rcases ht with⟨rfl,rfl⟩|⟨rfl,rfl⟩
 ·cases b with
  |false=>rw[ah];simp only[tkB,tkC];simp only[go_sem,Q0,Q1,Q2,Q3,Q4,Q5,Q6,Q7,Q8,Q9,Qa,Qb,Qc,Qd,Qe,Qf,Qg,Qh,Qi,Qj,Qk,reduceCtorEq,reduceIte,hi,e1,hg,hel,u1,u2,u3,u4,nV,r8]
  |true=>rw[ah];simp only[tkB,tkC];simp only[go_sem,Q0,Q1,Q2,Q3,Q4,Q5,Q6,Q7,Q8,Q9,Qa,Qb,Qc,Qd,Qe,Qf,Qg,Qh,Qi,Qj,Qk,reduceCtorEq,reduceIte,hi,e1,hg,hel,u1,u2,u3,u4,nV,r8]
 ·cases b with
  |false=>rw[ah];simp only[tkB,tkC];simp only[go_sem,Q0,Q1,Q2,Q3,Q4,Q5,Q6,Q7,Q8,Q9,Qa,Qb,Qc,Qd,Qe,Qf,Qg,Qh,Qi,Qj,Qk,reduceCtorEq,reduceIte,hi,e1,hg,hel,u1,u2,u3,u4,nV,r8]
  |true=>rw[ah];simp only[tkB,tkC];simp only[go_sem,Q0,Q1,Q2,Q3,Q4,Q5,Q6,Q7,Q8,Q9,Qa,Qb,Qc,Qd,Qe,Qf,Qg,Qh,Qi,Qj,Qk,reduceCtorEq,reduceIte,hi,e1,hg,hel,u1,u2,u3,u4,nV,r8]
theorem xkx(m:Man)(b:Bool)(rs:List Rul)(hx:∀x∈rs,x.text.length<=1000000)(hn:rs.length<=8):∀(n i t:Nat)(tk:List Nat)(B:List UInt8),(t=64060/\tk=tkB b)\/(t=86060/\tk=tkC b)->rs.length-i=n->i<=rs.length->B.length<=100000000+i*2000007->
 ∃t' tk',((t'=64060/\tk'=tkB b)\/(t'=86060/\tk'=tkC b))/\run T (.loop oR) ⟨[(3,.byt B (.id t)),(65,.lst 4 (gP rs) .no),(66,.int .i64 rs.length),(67,.int .i64 i)],[(101,.rc m.sv)],tk⟩=
 some (.x 2,⟨[(3,.byt ((rs.drop i).foldl mF B) (.id t'))],[(101,.rc m.sv)],tk'⟩):=by
 intro n;induction n with
 |zero=>
  intro i t tk B ht h0 h1 h2;have:i=rs.length:=by omega
  subst this;refine⟨t,tk,ht, ?_⟩;rw[bP,Du,ah];rcases ht with⟨rfl,rfl⟩|⟨rfl,rfl⟩
  ·cases b with
   |false=>simp only[tkB];simp only[go_sem,Q0,Q1,Q2,Q3,Q4,Q5,Q6,Q7,Q8,Q9,Qa,Qb,Qc,Qd,Qe,Qf,Qg,Qh,Qi,Qj,Qk,reduceCtorEq,reduceIte]
   |true=>simp only[tkB];simp only[go_sem,Q0,Q1,Q2,Q3,Q4,Q5,Q6,Q7,Q8,Q9,Qa,Qb,Qc,Qd,Qe,Qf,Qg,Qh,Qi,Qj,Qk,reduceCtorEq,reduceIte]
  ·cases b with
   |false=>simp only[tkC];simp only[go_sem,Q0,Q1,Q2,Q3,Q4,Q5,Q6,Q7,Q8,Q9,Qa,Qb,Qc,Qd,Qe,Qf,Qg,Qh,Qi,Qj,Qk,reduceCtorEq,reduceIte]
   |true=>simp only[tkC];simp only[go_sem,Q0,Q1,Q2,Q3,Q4,Q5,Q6,Q7,Q8,Q9,Qa,Qb,Qc,Qd,Qe,Qf,Qg,Qh,Qi,Qj,Qk,reduceCtorEq,reduceIte]
 |succ n ih=>
  intro i t tk B ht h0 h1 h2;have hi:i<rs.length:=by omega
  have hdr:rs.drop i=rs.getD i rl0::rs.drop (i+1):=by rw[bq hi,aa,ab hi];rfl
  have hl:=tO B (rs.getD i rl0) (hx _ (fB rs rl0 i hi));rw[xdP m b t tk ht rs hx (by omega) i hi B (by omega),hdr,cr];exact ih (i+1) 86060 _ _ (.inr ⟨rfl,rfl⟩) (by omega) (by omega) (by omega)
def v6(m:Man):List UInt8:=if jb m=0 then m.ruls.foldl mF (m.ents.foldl pd (hdM m)++bu 1 (m.ruls.length:Int))else []
theorem lS:∀(l:List Ent)(B:List UInt8),(∀x∈l,x.name.length<=1000000/\x.dig.length<=1000000)->(l.foldl pd B).length<=B.length+l.length*2000007
 |[],B,_=>by simp
 |x::r,B,h=>by rw[cr,ai];have h1:=lS r (pd B x) (fun y hy=>h y (ao _ hy));obtain⟨a,c⟩:=h x ay;have h2:=uC B x a c;rw[bz];omega
theorem p9:∀(l:List Rul)(B:List UInt8),(∀x∈l,x.text.length<=1000000)->B.length<=(l.foldl mF B).length/\(l.foldl mF B).length<=B.length+l.length*2000007
 |[],B,_=>by simp
 |x::r,B,h=>by
  rw[cr,ai];have h1:=p9 r (mF B x) (fun y hy=>h y (ao _ hy));have h2:=tO B x (h x ay)
  have h3:B.length<=(mF B x).length:=by unfold mF;rw[ac,ac,eo,ac];omega
  rw[bz];omega
theorem pS{m:Man}(h:jb m=0):m.ents.length<=16/\m.ruls.length<=8:=by
 unfold jb at h
 repeat' split at h
 all_goals first|(exfalso;omega)|skip
 exact⟨by omega,by omega⟩
theorem f38(m:Man)(hm:kF m):call T 38 [.agg m.sv] [] 0=some ⟨.byt (v6 m) .no,[],[]⟩:=by
 have g1:=f71 m hm;have k1:((1:Nat):Int)=1:=rfl;have k4:((4:Nat):Int)=4:=rfl;have k6:((6:Nat):Int)=6:=rfl;have hvl:=hm.v;have hrn:=hm.rn;have hel:=dP m.ents;have hrl:=jJ m.ruls;unfold v6
 by_cases hv:jb m=0
 ·obtain⟨h16,h8⟩:=pS hv
  rw[hv]at g1;rw[if_pos hv];unfold hdM;have u1:=qb [] 1 21 (by omega) (by omega) (by decide);rw[k1]at u1;generalize hB1:([]++bu 1 21:List UInt8)=B1 at*;have n1:B1.length<=1000:=by rw[<-hB1];simp[cQ]
  have u2:=f72 B1 m.vendor (by omega) (by omega);generalize hB2:jv B1 m.vendor=B2 at*;have n2:B2.length<=10000000:=by rw[<-hB2,eo];omega
  have u3:=qb B2 4 m.ver (by omega) (by omega) (by omega);rw[k4]at u3;generalize hB3:B2++bu 4 m.ver=B3 at*;have n3:B3.length<=10000004:=by rw[<-hB3,ac,cQ];omega
  have u4:=qb B3 4 m.flr (by omega) (by omega) (by omega);rw[k4]at u4;generalize hB4:B3++bu 4 m.flr=B4 at*;have n4:B4.length<=10000008:=by rw[<-hB4,ac,cQ];omega
  have u5:=qb B4 6 m.frm (by omega) (by omega) (by omega);rw[k6]at u5;generalize hB5:B4++bu 6 m.frm=B5 at*;have n5:B5.length<=10000014:=by rw[<-hB5,ac,cQ];omega
  have u6:=qb B5 6 m.til (by omega) (by omega) (by omega);rw[k6]at u6;generalize hB6:B5++bu 6 m.til=B6 at*;have n6:B6.length<=10000020:=by rw[<-hB6,ac,cQ];omega
  have u7:=qb B6 1 (m.ents.length:Int) (by omega) (by omega) (by omega);rw[k1]at u7;generalize hB7:B6++bu 1 (m.ents.length:Int)=B7 at*;have n7:B7.length<=10000021:=by rw[<-hB7,ac,cQ];omega
  obtain⟨b,la⟩:=xky m hm h16 _ 0 false B7 rfl (by omega) (by omega);have n8:=lS m.ents B7 hm.e;rw[bj,aB]at la;generalize m.ents.foldl pd B7=B8 at*;have u8:=qb B8 1 (m.ruls.length:Int) (by omega) (by omega) (by omega);rw[k1]at u8;generalize hB9:B8++bu 1 (m.ruls.length:Int)=B9 at*;have n9:B9.length<=10000022+16*2000007:=by rw[<-hB9,ac,cQ];omega
  obtain⟨t',tk',ht,lb⟩:=xkx m b m.ruls hm.r h8 _ 0 64060 (tkB b) B9 (.inl ⟨rfl,rfl⟩) rfl (by omega) (by omega);rw[bj,aB]at lb;generalize m.ruls.foldl mF B9=B10 at*;obtain⟨mv,m1,m2,m3,m4,es,rs⟩:=m;simp only[Man.sv]at*;rw[aj xjz];cases b with
  |false=>
   rcases ht with⟨rfl,rfl⟩|⟨rfl,rfl⟩
   ·simp only[tkA,tkB,tkC]at la lb
    simp only[go_sem,Q0,Q1,Q2,Q3,Q4,Q5,Q6,Q7,Q8,Q9,Qa,Qb,Qc,Qd,Qe,Qf,Qg,Qh,Qi,Qj,Qk,reduceCtorEq,reduceIte,g1,DI,u1,u2,u3,u4,u5,u6,u7,nV,r8,hel,la,u8,hrl,lb]
   ·simp only[tkA,tkB,tkC]at la lb
    simp only[go_sem,Q0,Q1,Q2,Q3,Q4,Q5,Q6,Q7,Q8,Q9,Qa,Qb,Qc,Qd,Qe,Qf,Qg,Qh,Qi,Qj,Qk,reduceCtorEq,reduceIte,g1,DI,u1,u2,u3,u4,u5,u6,u7,nV,r8,hel,la,u8,hrl,lb]
  |true=>
   rcases ht with⟨rfl,rfl⟩|⟨rfl,rfl⟩
   ·simp only[tkA,tkB,tkC]at la lb
    simp only[go_sem,Q0,Q1,Q2,Q3,Q4,Q5,Q6,Q7,Q8,Q9,Qa,Qb,Qc,Qd,Qe,Qf,Qg,Qh,Qi,Qj,Qk,reduceCtorEq,reduceIte,g1,DI,u1,u2,u3,u4,u5,u6,u7,nV,r8,hel,la,u8,hrl,lb]
   ·simp only[tkA,tkB,tkC]at la lb
    simp only[go_sem,Q0,Q1,Q2,Q3,Q4,Q5,Q6,Q7,Q8,Q9,Qa,Qb,Qc,Qd,Qe,Qf,Qg,Qh,Qi,Qj,Qk,reduceCtorEq,reduceIte,g1,DI,u1,u2,u3,u4,u5,u6,u7,nV,r8,hel,la,u8,hrl,lb]
 ·rw[if_neg hv]
  obtain⟨mv,m1,m2,m3,m4,es,rs⟩:=m;simp only[Man.sv]at*;rw[aj xjz];simp only[go_sem,Q0,Q1,Q2,Q3,Q4,Q5,Q6,Q7,Q8,Q9,Qa,Qb,Qc,Qd,Qe,Qf,Qg,Qh,Qi,Qj,Qk,reduceCtorEq,reduceIte,g1,DI,hv]
theorem Ff(m:Man)(hm:kF m):(v6 m).length<=100000000:=by
 unfold v6
 by_cases hv:jb m=0
 ·rw[if_pos hv]
  obtain⟨h16,h8⟩:=pS hv;have h1:=lS m.ents (hdM m) hm.e;have h2:=p9 m.ruls (m.ents.foldl pd (hdM m)++bu 1 (m.ruls.length:Int)) hm.r
  have h3:(hdM m).length<=10000000:=by have:=hm.v;unfold hdM;simp only[ac,eo,cQ,aw];omega
  rw[ac,cQ]at h2;omega
 ·rw[if_neg hv];exact bJ _
end Go.Proofs.YtkggincjigbelaaGreatDoor
