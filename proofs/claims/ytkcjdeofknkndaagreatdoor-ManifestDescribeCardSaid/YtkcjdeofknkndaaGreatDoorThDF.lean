/- Contracts. No condition. -/
import Derived.Test.YtkcjdeofknkndaaGreatDoorTeDF
open Int renaming natCast_zero -> aD
open Go.IntKind renaming i64 -> ai, u64 -> aZ, wrap_u64 -> cn
open List renaming cons -> jp, cons_append -> aV, drop_eq_getElem_cons -> aY, drop_eq_nil_of_le -> br, drop_length -> bv, drop_zero -> bh, foldl_cons -> cz, getD_eq_getElem?_getD -> aa, getElem?_eq_getElem -> ab, length_append -> af, length_cons -> ay, length_drop -> aL, length_eq_zero_iff -> cx, length_nil -> bl, length_singleton -> aP, length_take -> aA, map_append -> df, mem_cons_of_mem -> an, mem_cons_self -> aw, nil_append -> aK
open Nat renaming add_mul -> bA, le_refl -> aN, mod_eq_of_lt -> dm, mul_comm -> cD, mul_le_mul_right -> bz, zero_add -> cf, zero_le -> bD
set_option maxRecDepth 100000
set_option maxHeartbeats 16000000
set_option linter.unusedSimpArgs false
set_option linter.unusedVariables false
namespace Go.Proofs.YtkcjdeofknkndaaGreatDoor
open Go.Sy
open UInt8 renaming reduceLT -> Q0, reduceLE -> Q1
open Int renaming reduceToNat -> Q2, reduceLE -> Q3, reduceLT -> Q4, reduceEq -> Q5, reduceNe -> Q6, reduceNeg -> Q7, reduceAdd -> Q8, reduceSub -> Q9, reduceMul -> Qa
open Nat renaming reducePow -> Qb, reduceDiv -> Qc, reduceMod -> Qd, reduceAdd -> Qe, reduceSub -> Qf, reduceMul -> Qg, reduceLT -> Qh, reduceLeDiff -> Qi, reduceEqDiff -> Qj, reduceBEq -> Qk
def bu(k:Nat)(v:Int):t6:=be k (aZ.wrap v)
def hdM(m:Man):t6:=jo ([]++bu 1 21) m.vendor++bu 4 m.ver++bu 4 m.flr++bu 6 m.frm++bu 6 m.til++bu 1 (m.ents.length:Int)
theorem cT(k:Nat)(v:Int):(bu k v).length=k:=eG ..
theorem rb(B:t6)(k:Nat)(v:Int)(h:1<=k)(z:k<=8)(y:B.length<=10000000000000):
 call T 48 [.byt B .no,.int .i64 k,.int .i64 v] [] 0=some ⟨.byt (B++bu k v) (.id 60),[],[60]⟩:=f48 B k v h z y
def qh(B:t6)(x:Ent):t6:=jo (B++bu 1 x.role) x.name++bu 4 x.ver++x.dig
def nK(B:t6)(r:Rul):t6:=jo (B++bu 1 r.kind) r.text++bu 4 r.lo++bu 4 r.hi
theorem uY(B:t6)(x:Ent)(hn:x.name.length<=1000000)(hd:x.dig.length<=1000000):(qh B x).length<=B.length+2000007:=by unfold qh;rw[af,af,ey,af,cT,cT];omega
theorem ut(B:t6)(x:Rul)(hn:x.text.length<=1000000):(nK B x).length<=B.length+2000007:=by unfold nK;rw[af,af,ey,af,cT,cT,cT];omega
def tkA:Bool->t8
 |false=> [103,12060,17060,21060,24060,28060,31060]
 |true=> [103,12060,17060,21060,24060,28060,31060,51060]
theorem xdQ(m:Man)(y:gu m)(b:Bool)(i:Nat)(hi:i<m.ents.length)(B:t6)(hB:B.length<=1000000000):
 run T (.loop pX) ⟨[(1,.ptr 101 0),(3,.byt B (.id 103)),(37,.lst 4 (cd m.ents) .no),(38,.int .i64 m.ents.length),(39,.int .i64 i)],[(101,.rc m.sv)],tkA b⟩=
 run T (.loop pX) ⟨[(1,.ptr 101 0),(3,.byt (qh B (m.ents.getD i en0)) (.id 103)),(37,.lst 4 (cd m.ents) .no),(38,.int .i64 m.ents.length),(39,.int .i64 ((i+1:Nat):Int))],[(101,.rc m.sv)],tkA true⟩:=by
 have k1:((1:Nat):Int)=1:=rfl;have Z:((4:Nat):Int)=4:=rfl;have W:=y.en;have L:=cA i (by omega);have H:=dM m.ents i hi;have h:=cw m.ents;obtain⟨Q,U⟩:=y.e _ (dd m.ents en0 i hi);clear y;generalize m.ents.getD i en0=x at*;unfold qh;have C:=rb B 1 x.role (by omega) (by omega) (by omega);rw[k1]at C;have n1:(B++bu 1 x.role).length<=1000000001:=by rw[af,cT];omega
 generalize B++bu 1 x.role=E at*;have I:=f49 E x.name (by omega) (by omega);have n2:(jo E x.name).length<=1010000000:=by rw[ey];omega
 generalize jo E x.name=z at*;have F:=rb z 4 x.ver (by omega) (by omega) (by omega);rw[Z]at F;have n3:(z++bu 4 x.ver).length<=1010000004:=by rw[af,cT];omega
 generalize z++bu 4 x.ver=O at*;have J:O.length+x.dig.length<=140737488355328:=by omega
 obtain⟨mv,m1,m2,m3,m4,es,rs⟩:=m;obtain⟨x1,x2,x3,x4⟩:=x;simp only[Man.sv,Ent.sv]at*;cases b with
 |false=>rw[al];simp only[tkA];simp only[go_sem,Q0,Q1,Q2,Q3,Q4,Q5,Q6,Q7,Q8,Q9,Qa,Qb,Qc,Qd,Qe,Qf,Qg,Qh,Qi,Qj,Qk,reduceCtorEq,reduceIte,hi,L,H,h,C,I,F,J,qk,sV]
 |true=>rw[al];simp only[tkA];simp only[go_sem,Q0,Q1,Q2,Q3,Q4,Q5,Q6,Q7,Q8,Q9,Qa,Qb,Qc,Qd,Qe,Qf,Qg,Qh,Qi,Qj,Qk,reduceCtorEq,reduceIte,hi,L,H,h,C,I,F,J,qk,sV]
theorem xjQ(m:Man)(C:gu m)(F:m.ents.length<=16):∀(n i:Nat)(b:Bool)(B:t6),m.ents.length-i=n->i<=m.ents.length->B.length<=20000000+i*2000007->
 ∃H,run T (.loop pX) ⟨[(1,.ptr 101 0),(3,.byt B (.id 103)),(37,.lst 4 (cd m.ents) .no),(38,.int .i64 m.ents.length),(39,.int .i64 i)],[(101,.rc m.sv)],tkA b⟩=
 some (.x 0,⟨[(1,.ptr 101 0),(3,.byt ((m.ents.drop i).foldl qh B) (.id 103))],[(101,.rc m.sv)],tkA H⟩):=by
 intro n;induction n with
 |zero=>
  intro i b B I E J;have:i=m.ents.length:=by omega
  subst this;refine⟨b, ?_⟩;rw[bv,List.foldl_nil,al];cases b with
  |false=>simp only[tkA];simp only[go_sem,Q0,Q1,Q2,Q3,Q4,Q5,Q6,Q7,Q8,Q9,Qa,Qb,Qc,Qd,Qe,Qf,Qg,Qh,Qi,Qj,Qk,reduceCtorEq,reduceIte]
  |true=>simp only[tkA];simp only[go_sem,Q0,Q1,Q2,Q3,Q4,Q5,Q6,Q7,Q8,Q9,Qa,Qb,Qc,Qd,Qe,Qf,Qg,Qh,Qi,Qj,Qk,reduceCtorEq,reduceIte]
 |succ n L=>
  intro i b B I E J;have hi:i<m.ents.length:=by omega
  have z:m.ents.drop i=m.ents.getD i en0::m.ents.drop (i+1):=by rw[aY hi,aa,ab hi];rfl
  obtain⟨y,h⟩:=C.e _ (dd m.ents en0 i hi);have O:=uY B (m.ents.getD i en0) y h;rw[xdQ m C b i hi B (by omega),z,cz];exact L (i+1) true _ (by omega) (by omega) (by omega)
def tkB:Bool->t8
 |false=> [103,12060,17060,21060,24060,28060,31060,64060]
 |true=> [103,12060,17060,21060,24060,28060,31060,51060,64060]
def tkC:Bool->t8
 |false=> [103,12060,17060,21060,24060,28060,31060,64060,79060,86060]
 |true=> [103,12060,17060,21060,24060,28060,31060,51060,64060,79060,86060]
theorem xdP(m:Man)(b:Bool)(t:Nat)(tk:t8)(Z:(t=64060/\tk=tkB b)\/(t=86060/\tk=tkC b))(rs:List Rul)(O:∀x∈rs,x.text.length<=1000000)(hn:rs.length<=1000000)(i:Nat)(hi:i<rs.length)(B:t6)(hB:B.length<=1000000000):
 run T (.loop pW) ⟨[(3,.byt B (.id t)),(65,.lst 4 (fk rs) .no),(66,.int .i64 rs.length),(67,.int .i64 i)],[(101,.rc m.sv)],tk⟩=
 run T (.loop pW) ⟨[(3,.byt (nK B (rs.getD i rl0)) (.id 86060)),(65,.lst 4 (fk rs) .no),(66,.int .i64 rs.length),(67,.int .i64 ((i+1:Nat):Int))],[(101,.rc m.sv)],tkC b⟩:=by
 have k1:((1:Nat):Int)=1:=rfl;have L:((4:Nat):Int)=4:=rfl;have H:=cA i (by omega);have F:=j6 rs i hi;have h:=ek rs;have U:=O _ (dd rs rl0 i hi);generalize rs.getD i rl0=x at*;unfold nK;have C:=rb B 1 x.kind (by omega) (by omega) (by omega);rw[k1]at C;have n1:(B++bu 1 x.kind).length<=1000000001:=by rw[af,cT];omega
 generalize B++bu 1 x.kind=J at*;have E:=f49 J x.text (by omega) (by omega);have n2:(jo J x.text).length<=1010000000:=by rw[ey];omega
 generalize jo J x.text=I at*;have y:=rb I 4 x.lo (by omega) (by omega) (by omega);rw[L]at y;have n3:(I++bu 4 x.lo).length<=1010000004:=by rw[af,cT];omega
 generalize I++bu 4 x.lo=Q at*;have z:=rb Q 4 x.hi (by omega) (by omega) (by omega);rw[L]at z;obtain⟨mv,m1,m2,m3,m4,es,W⟩:=m;obtain⟨x1,x2,x3,x4⟩:=x;simp only[Rul.sv,Man.sv]at*;rcases Z with⟨rfl,rfl⟩|⟨rfl,rfl⟩
 ·cases b with
  |false=>rw[al];simp only[tkB,tkC];simp only[go_sem,Q0,Q1,Q2,Q3,Q4,Q5,Q6,Q7,Q8,Q9,Qa,Qb,Qc,Qd,Qe,Qf,Qg,Qh,Qi,Qj,Qk,reduceCtorEq,reduceIte,hi,H,F,h,C,E,y,z,qk,sV]
  |true=>rw[al];simp only[tkB,tkC];simp only[go_sem,Q0,Q1,Q2,Q3,Q4,Q5,Q6,Q7,Q8,Q9,Qa,Qb,Qc,Qd,Qe,Qf,Qg,Qh,Qi,Qj,Qk,reduceCtorEq,reduceIte,hi,H,F,h,C,E,y,z,qk,sV]
 ·cases b with
  |false=>rw[al];simp only[tkB,tkC];simp only[go_sem,Q0,Q1,Q2,Q3,Q4,Q5,Q6,Q7,Q8,Q9,Qa,Qb,Qc,Qd,Qe,Qf,Qg,Qh,Qi,Qj,Qk,reduceCtorEq,reduceIte,hi,H,F,h,C,E,y,z,qk,sV]
  |true=>rw[al];simp only[tkB,tkC];simp only[go_sem,Q0,Q1,Q2,Q3,Q4,Q5,Q6,Q7,Q8,Q9,Qa,Qb,Qc,Qd,Qe,Qf,Qg,Qh,Qi,Qj,Qk,reduceCtorEq,reduceIte,hi,H,F,h,C,E,y,z,qk,sV]
theorem xjP(m:Man)(b:Bool)(rs:List Rul)(C:∀x∈rs,x.text.length<=1000000)(hn:rs.length<=8):∀(n i t:Nat)(tk:t8)(B:t6),(t=64060/\tk=tkB b)\/(t=86060/\tk=tkC b)->rs.length-i=n->i<=rs.length->B.length<=100000000+i*2000007->
 ∃y tk',((y=64060/\tk'=tkB b)\/(y=86060/\tk'=tkC b))/\run T (.loop pW) ⟨[(3,.byt B (.id t)),(65,.lst 4 (fk rs) .no),(66,.int .i64 rs.length),(67,.int .i64 i)],[(101,.rc m.sv)],tk⟩=
 some (.x 2,⟨[(3,.byt ((rs.drop i).foldl nK B) (.id y))],[(101,.rc m.sv)],tk'⟩):=by
 intro n;induction n with
 |zero=>
  intro i t tk B h F E H;have:i=rs.length:=by omega
  subst this;refine⟨t,tk,h, ?_⟩;rw[bv,List.foldl_nil,al];rcases h with⟨rfl,rfl⟩|⟨rfl,rfl⟩
  ·cases b with
   |false=>simp only[tkB];simp only[go_sem,Q0,Q1,Q2,Q3,Q4,Q5,Q6,Q7,Q8,Q9,Qa,Qb,Qc,Qd,Qe,Qf,Qg,Qh,Qi,Qj,Qk,reduceCtorEq,reduceIte]
   |true=>simp only[tkB];simp only[go_sem,Q0,Q1,Q2,Q3,Q4,Q5,Q6,Q7,Q8,Q9,Qa,Qb,Qc,Qd,Qe,Qf,Qg,Qh,Qi,Qj,Qk,reduceCtorEq,reduceIte]
  ·cases b with
   |false=>simp only[tkC];simp only[go_sem,Q0,Q1,Q2,Q3,Q4,Q5,Q6,Q7,Q8,Q9,Qa,Qb,Qc,Qd,Qe,Qf,Qg,Qh,Qi,Qj,Qk,reduceCtorEq,reduceIte]
   |true=>simp only[tkC];simp only[go_sem,Q0,Q1,Q2,Q3,Q4,Q5,Q6,Q7,Q8,Q9,Qa,Qb,Qc,Qd,Qe,Qf,Qg,Qh,Qi,Qj,Qk,reduceCtorEq,reduceIte]
 |succ n I=>
  intro i t tk B h F E H;have hi:i<rs.length:=by omega
  have z:rs.drop i=rs.getD i rl0::rs.drop (i+1):=by rw[aY hi,aa,ab hi];rfl
  have J:=ut B (rs.getD i rl0) (C _ (dd rs rl0 i hi));rw[xdP m b t tk h rs C (by omega) i hi B (by omega),z,cz];exact I (i+1) 86060 _ _ (.inr ⟨rfl,rfl⟩) (by omega) (by omega) (by omega)
def kX(m:Man):t6:=if gJ m=0 then m.ruls.foldl nK (m.ents.foldl qh (hdM m)++bu 1 (m.ruls.length:Int))else []
theorem mG:∀(l:List Ent)(B:t6),(∀x∈l,x.name.length<=1000000/\x.dig.length<=1000000)->(l.foldl qh B).length<=B.length+l.length*2000007
 |[],B,_=>by simp
 |x::r,B,h=>by rw[cz,ay];have C:=mG r (qh B x) (fun y z=>h y (an _ z));obtain⟨a,c⟩:=h x aw;have E:=uY B x a c;rw[bA];omega
theorem qZ:∀(l:List Rul)(B:t6),(∀x∈l,x.text.length<=1000000)->B.length<=(l.foldl nK B).length/\(l.foldl nK B).length<=B.length+l.length*2000007
 |[],B,_=>by simp
 |x::r,B,h=>by
  rw[cz,ay];have E:=qZ r (nK B x) (fun y z=>h y (an _ z));have F:=ut B x (h x aw)
  have C:B.length<=(nK B x).length:=by unfold nK;rw[af,af,ey,af];omega
  rw[bA];omega
theorem qO{m:Man}(h:gJ m=0):m.ents.length<=16/\m.ruls.length<=8:=by
 unfold gJ at h
 repeat' split at h
 all_goals first|(exfalso;omega)|skip
 exact⟨by omega,by omega⟩
theorem f16(m:Man)(E:gu m):call T 16 [.agg m.sv] [] 0=some ⟨.byt (kX m) .no,[],[]⟩:=by
 have F:=f13 m E;have k1:((1:Nat):Int)=1:=rfl;have k4:((4:Nat):Int)=4:=rfl;have k6:((6:Nat):Int)=6:=rfl;have b3:=E.v;have a9:=E.rn;have h:=cw m.ents;have z:=ek m.ruls;unfold kX
 by_cases Q:gJ m=0
 ·obtain⟨a7,h8⟩:=qO Q
  rw[Q]at F;rw[if_pos Q];unfold hdM;have J:=rb [] 1 21 (by omega) (by omega) (by decide);rw[k1]at J;generalize a1:([]++bu 1 21:t6)=B1 at*;have n1:B1.length<=1000:=by rw[<-a1];simp[cT]
  have Z:=f49 B1 m.vendor (by omega) (by omega);generalize a6:jo B1 m.vendor=B2 at*;have n2:B2.length<=10000000:=by rw[<-a6,ey];omega
  have O:=rb B2 4 m.ver (by omega) (by omega) (by omega);rw[k4]at O;generalize a4:B2++bu 4 m.ver=B3 at*;have n3:B3.length<=10000004:=by rw[<-a4,af,cT];omega
  have I:=rb B3 4 m.flr (by omega) (by omega) (by omega);rw[k4]at I;generalize a0:B3++bu 4 m.flr=B4 at*;have n4:B4.length<=10000008:=by rw[<-a0,af,cT];omega
  have U:=rb B4 6 m.frm (by omega) (by omega) (by omega);rw[k6]at U;generalize a8:B4++bu 6 m.frm=B5 at*;have n5:B5.length<=10000014:=by rw[<-a8,af,cT];omega
  have H:=rb B5 6 m.til (by omega) (by omega) (by omega);rw[k6]at H;generalize a2:B5++bu 6 m.til=B6 at*;have n6:B6.length<=10000020:=by rw[<-a2,af,cT];omega
  have L:=rb B6 1 (m.ents.length:Int) (by omega) (by omega) (by omega);rw[k1]at L;generalize a3:B6++bu 1 (m.ents.length:Int)=W at*;have n7:W.length<=10000021:=by rw[<-a3,af,cT];omega
  obtain⟨b,y⟩:=xjQ m E a7 _ 0 false W rfl (by omega) (by omega);have n8:=mG m.ents W E.e;rw[bh,aD]at y;generalize m.ents.foldl qh W=B8 at*;have u8:=rb B8 1 (m.ruls.length:Int) (by omega) (by omega) (by omega);rw[k1]at u8;generalize a5:B8++bu 1 (m.ruls.length:Int)=B9 at*;have n9:B9.length<=10000022+16*2000007:=by rw[<-a5,af,cT];omega
  obtain⟨t',tk',ht,C⟩:=xjP m b m.ruls E.r h8 _ 0 64060 (tkB b) B9 (.inl ⟨rfl,rfl⟩) rfl (by omega) (by omega);rw[bh,aD]at C;generalize m.ruls.foldl nK B9=b2 at*;obtain⟨mv,m1,m2,m3,m4,es,rs⟩:=m;simp only[Man.sv]at*;rw[au xiJ];cases b with
  |false=>
   rcases ht with⟨rfl,rfl⟩|⟨rfl,rfl⟩
   ·simp only[tkA,tkB,tkC]at y C
    simp only[go_sem,Q0,Q1,Q2,Q3,Q4,Q5,Q6,Q7,Q8,Q9,Qa,Qb,Qc,Qd,Qe,Qf,Qg,Qh,Qi,Qj,Qk,reduceCtorEq,reduceIte,F,nb,J,Z,O,I,U,H,L,qk,sV,h,y,u8,z,C]
   ·simp only[tkA,tkB,tkC]at y C
    simp only[go_sem,Q0,Q1,Q2,Q3,Q4,Q5,Q6,Q7,Q8,Q9,Qa,Qb,Qc,Qd,Qe,Qf,Qg,Qh,Qi,Qj,Qk,reduceCtorEq,reduceIte,F,nb,J,Z,O,I,U,H,L,qk,sV,h,y,u8,z,C]
  |true=>
   rcases ht with⟨rfl,rfl⟩|⟨rfl,rfl⟩
   ·simp only[tkA,tkB,tkC]at y C
    simp only[go_sem,Q0,Q1,Q2,Q3,Q4,Q5,Q6,Q7,Q8,Q9,Qa,Qb,Qc,Qd,Qe,Qf,Qg,Qh,Qi,Qj,Qk,reduceCtorEq,reduceIte,F,nb,J,Z,O,I,U,H,L,qk,sV,h,y,u8,z,C]
   ·simp only[tkA,tkB,tkC]at y C
    simp only[go_sem,Q0,Q1,Q2,Q3,Q4,Q5,Q6,Q7,Q8,Q9,Qa,Qb,Qc,Qd,Qe,Qf,Qg,Qh,Qi,Qj,Qk,reduceCtorEq,reduceIte,F,nb,J,Z,O,I,U,H,L,qk,sV,h,y,u8,z,C]
 ·rw[if_neg Q]
  obtain⟨mv,m1,m2,m3,m4,es,rs⟩:=m;simp only[Man.sv]at*;rw[au xiJ];simp only[go_sem,Q0,Q1,Q2,Q3,Q4,Q5,Q6,Q7,Q8,Q9,Qa,Qb,Qc,Qd,Qe,Qf,Qg,Qh,Qi,Qj,Qk,reduceCtorEq,reduceIte,F,nb,Q]
def QM(m:Man):t6:=if kX m=[]then []else DZ 21 (kX m)
theorem uX(m:Man)(y:gu m):(kX m).length<=100000000:=by
 unfold kX
 by_cases h:gJ m=0
 ·rw[if_pos h]
  obtain⟨C,H⟩:=qO h;have F:=mG m.ents (hdM m) y.e;have z:=qZ m.ruls (m.ents.foldl qh (hdM m)++bu 1 (m.ruls.length:Int)) y.r
  have E:(hdM m).length<=10000000:=by have:=y.v;unfold hdM;simp only[af,ey,cT,bl];omega
  rw[af,cT]at z;omega
 ·rw[if_neg h];exact bD _
theorem f21(m:Man)(C:gu m):call T 21 [.agg m.sv] [] 0=some ⟨.byt (QM m) .no,[],[]⟩:=by
 have F:=f16 m C;have Q:=uX m C;have J:=f58 21 (kX m) (by omega);obtain⟨I,O,L,m3,H,es,rs⟩:=m;unfold QM;simp only[Man.sv]at*;rw[au xlA];generalize kX ⟨I,O,L,m3,H,es,rs⟩=E at*
 by_cases y:E=[]
 ·subst y
  simp only[go_sem,Q0,Q1,Q2,Q3,Q4,Q5,Q6,Q7,Q8,Q9,Qa,Qb,Qc,Qd,Qe,Qf,Qg,Qh,Qi,Qj,Qk,reduceCtorEq,reduceIte,F,xdk]
 ·have z:¬(E.length:Int)=0:=by
   intro h;exact y (cx.1 (by omega))
  rw[if_neg y];simp only[go_sem,Q0,Q1,Q2,Q3,Q4,Q5,Q6,Q7,Q8,Q9,Qa,Qb,Qc,Qd,Qe,Qf,Qg,Qh,Qi,Qj,Qk,reduceCtorEq,reduceIte,F,xdk,z,J,xlO]
def nF(v:Nat)(l:t6):Nat:=l.foldl (fun v b=>v*256+b.toNat) v
def nB(l:t6):Nat:=nF 0 l
theorem NY:∀(l:t6)(v k:Nat),v<256^k->nF v l<256^(k+l.length)
 |[],v,k,h=>h
 |b::r,v,k,h=>by
  have z:=b.toNat_lt
  have y:v*256+b.toNat<256^(k+1):=by have:(v+1)*256<=256^k*256:=bz _ h;rw[Nat.pow_succ];omega
  have:=NY r (v*256+b.toNat) (k+1) y;rw[ay,show k+(r.length+1)=k+1+r.length from by omega];exact this
theorem NZ(l:t6):nB l<256^l.length:=by have:=NY l 0 0 (by decide);rwa[cf]at this
theorem Fe(l:t6)(h:l.length<=6):nB l<281474976710656:=by
 have z:=NZ l;have C:256^l.length<=256^6:=Nat.pow_le_pow_right (by decide) h;have y:(256:Nat)^6=281474976710656:=by decide
 omega
theorem orW(v:Nat)(y:v<1099511627776)(b:UInt8):bt .or .u64 (aZ.wrap ((v:Int)*2^min 8 64)) (b.toNat:Int)=((v*256+b.toNat:Nat):Int):=by
 have z:=b.toNat_lt;have p:((2:Int)^min 8 64)=256:=by decide
 have e:aZ.wrap ((v:Int)*2^min 8 64)=((v*256:Nat):Int):=by rw[p,cn];omega
 rw[e];unfold bt;simp only[BitVec.ofInt_natCast]
 have h:(BitVec.ofNat 64 (v*256)|||BitVec.ofNat 64 b.toNat).toNat=v*256+b.toNat:=by rw[BitVec.toNat_or,BitVec.toNat_ofNat,BitVec.toNat_ofNat,dm (by omega),dm (by omega)];have:=Nat.two_pow_add_eq_or_of_lt (i:=8) (b:=b.toNat) (by omega) v;rw[show(2:Nat)^8=256 from by decide]at this;rw[cD v 256,<-this]
 show aZ.wrap (((BitVec.ofNat 64 (v*256)|||BitVec.ofNat 64 b.toNat).toNat:Nat):Int)=_;rw[h,cn];omega
structure Rs where
 a:Nat
 e:Int
def rdO(B:t6)(t:Nat)(s:Rs):aC:= .rc [.byt B (.id t),.int .i64 s.a,.int .i64 s.e]
def uR(B:t6)(n:Nat)(s:Rs):Int×Rs:=if s.e=0 then(if s.a+n<=B.length then(((nB ((B.drop s.a).take n):Nat):Int),⟨s.a+n,0⟩)else(0,⟨s.a,2⟩))else(0,s)
def wR(B:t6)(n:Nat)(s:Rs):t6×Rs:=if s.e=0 then(if s.a+n<=B.length then((B.drop s.a).take n,⟨s.a+n,0⟩)else([],⟨s.a,2⟩))else([],s)
def bR(B:t6)(m:Nat)(s:Rs):t6×Rs:=
 if s.e=0 then(if s.a+2<=B.length then(if nB ((B.drop s.a).take 2)<=m then(if s.a+2+nB ((B.drop s.a).take 2)<=B.length then((B.drop (s.a+2)).take (nB ((B.drop s.a).take 2)),⟨s.a+(2+nB ((B.drop s.a).take 2)),0⟩)else([],⟨s.a,2⟩))else([],⟨s.a,4⟩))else([],⟨s.a,2⟩))else([],s)
def eR(B:t6)(s:Rs):Int:=if s.e=0 then(if s.a<B.length then 3 else 0)else s.e
structure gk(B:List UInt8)(s:Rs):Prop where
 a:s.a<=B.length
theorem ia{B:t6}{n:Nat}{s:Rs}(h:gk B s):gk B (uR B n s).2:=by
 unfold uR;split
 ·split
  ·rename_i y;exact⟨y⟩
  ·exact⟨h.a⟩
 ·exact h
theorem xdA{B:t6}{n:Nat}{s:Rs}(h:gk B s):gk B (wR B n s).2:=by
 unfold wR;split
 ·split
  ·rename_i y;exact⟨y⟩
  ·exact⟨h.a⟩
 ·exact h
theorem wK{B:t6}{n:Nat}{s:Rs}(h:gk B s):gk B (bR B n s).2:=by
 unfold bR;split
 ·split
  ·split
   ·split
    ·rename_i y;exact⟨by show s.a+(2+_)<=_;omega⟩
    ·exact⟨h.a⟩
   ·exact⟨h.a⟩
  ·exact⟨h.a⟩
 ·exact h
theorem f50(B:t6)(z:B.length<=1000000000):call T 50 [.byt B .no] [] 0=some ⟨.ptr 100 0,[(100,rdO B 60 ⟨0,0⟩)],[60]⟩:=by
 rw[au xli];unfold rdO;have h:0+B.length<=140737488355328:=by omega
 have y:B.length<=140737488355328:=by omega
 simp only[go_sem,Q0,Q1,Q2,Q3,Q4,Q5,Q6,Q7,Q8,Q9,Qa,Qb,Qc,Qd,Qe,Qf,Qg,Qh,Qi,Qj,Qk,reduceCtorEq,reduceIte,h,y,aD]
theorem Yb(B:t6)(a e x:Int):call T 109 [.ptr 0 0,.int .i64 x] [.rc [.byt B (.id 50),.int .i64 a,.int .i64 e]] 1=some ⟨.tup [],[(0,.rc [.byt B (.id 60),.int .i64 a,.int .i64 x])],[60]⟩:=by rw[au xgI];simp only[go_sem,Q0,Q1,Q2,Q3,Q4,Q5,Q6,Q7,Q8,Q9,Qa,Qb,Qc,Qd,Qe,Qf,Qg,Qh,Qi,Qj,Qk,reduceCtorEq,reduceIte]
theorem Ya(B:t6)(e:Int)(J:B.length<=1000000000)(a n p:Nat)(H:a<=B.length)(I:p<=1000000000)(hn:n<=1000000):call T 110 [.ptr 0 0,.int .i64 a,.int .i64 n] [.rc [.byt B (.id 50),.int .i64 p,.int .i64 e]] 1=
 if a+n<=B.length then some ⟨.tup [.byt ((B.drop a).take n) .no,.int .i64 0],[(0,.rc [.byt B (.id 60),.int .i64 p,.int .i64 e])],[60]⟩else some ⟨.tup [.byt [] .no,.int .i64 2],[(0,.rc [.byt B (.id 60),.int .i64 p,.int .i64 e])],[60]⟩:=by
 have C:ai.wrap ((B.length:Int)-(a:Int))=((B.length-a:Nat):Int):=wZ (by omega)
 have z:ai.wrap ((a:Int)+(n:Int))=((a+n:Nat):Int):=wZ (by omega)
 rw[au xgH]
 by_cases h:a+n<=B.length
 ·rw[if_pos h]
  have y:¬B.length-a<n:=by omega
  have F:a<=a+n:=by omega
  have E:(B.take (a+n)).drop a=(B.drop a).take n:=by rw[List.drop_take];congr 1;omega
  simp only[go_sem,Q0,Q1,Q2,Q3,Q4,Q5,Q6,Q7,Q8,Q9,Qa,Qb,Qc,Qd,Qe,Qf,Qg,Qh,Qi,Qj,Qk,reduceCtorEq,reduceIte,C,z,h,y,F,E]
 ·rw[if_neg h]
  have y:B.length-a<n:=by omega
  simp only[go_sem,Q0,Q1,Q2,Q3,Q4,Q5,Q6,Q7,Q8,Q9,Qa,Qb,Qc,Qd,Qe,Qf,Qg,Qh,Qi,Qj,Qk,reduceCtorEq,reduceIte,C,z,y]
theorem l51(t:Nat)(O:aC)(n:Int)(X:t6)(hX:X.length<=6)(J:∃B s,O=rdO B t s):∀(m i v:Nat),X.length-i=m->i<=X.length->v<256^i->
 run T (.loop xC) ⟨[(0,.ptr 0 0),(1,.int .i64 n),(7,.int .u64 v),(38,.byt X .no),(39,.int .i64 X.length),(40,.int .i64 i)],[(0,O)],[t]⟩=
  some (.x 0,⟨[(0,.ptr 0 0),(1,.int .i64 n),(7,.int .u64 ((nF v (X.drop i):Nat):Int))],[(0,O)],[t]⟩):=by
 obtain⟨B,s,rfl⟩:=J;intro m;induction m with
 |zero=>
  intro i v H F C;have:i=X.length:=by omega
  subst this;rw[bv,al];simp only[rdO,go_sem,Q0,Q1,Q2,Q3,Q4,Q5,Q6,Q7,Q8,Q9,Qa,Qb,Qc,Qd,Qe,Qf,Qg,Qh,Qi,Qj,Qk,reduceCtorEq,reduceIte,nF,List.foldl_nil]
 |succ m U=>
  intro i v H F C;have hi:i<X.length:=by omega
  have y:(i:Int)<(X.length:Int):=by omega
  have I:=cA i (by omega)
  have Q:v<1099511627776:=by
   have:256^i<=256^5:=Nat.pow_le_pow_right (by decide) (by omega);have z:(256:Nat)^5=1099511627776:=by decide
   omega
  have z:=NY [X.getD i 0] v i C;have h:=U (i+1) (v*256+(X.getD i 0).toNat) (by omega) (by omega) z;have L:=orW v Q (X.getD i 0);have hd:nF v (X.drop i)=nF (v*256+(X.getD i 0).toNat) (X.drop (i+1)):=by rw[da X i hi];rfl
  rw[hd];generalize E:X.getD i 0=c at*;rw[al];simp only[rdO]at h ⊢;simp only[go_sem,Q0,Q1,Q2,Q3,Q4,Q5,Q6,Q7,Q8,Q9,Qa,Qb,Qc,Qd,Qe,Qf,Qg,Qh,Qi,Qj,Qk,reduceCtorEq,reduceIte,hi,y,I,E,L,h]
theorem f51(B:t6)(L:B.length<=1000000000)(n:Nat)(U:1<=n)(W:n<=6)(s:Rs)(O:gk B s):call T 51 [.ptr 0 0,.int .i64 n] [rdO B 50 s] 1=some ⟨.int .i64 (uR B n s).1,[(0,rdO B 60 (uR B n s).2)],[60]⟩:=by
 have J:=O.a;have C:=Ya B 0 L s.a n s.a J (by omega) (by omega);have F:=Yb B s.a 0 2;have hX:((B.drop s.a).take n).length<=6:=by rw[aA];omega
 have z:=l51 31060 (rdO B 31060 s) n ((B.drop s.a).take n) hX ⟨B,s,rfl⟩ _ 0 0 rfl (bD _) (by decide);have E:=Fe _ hX;have n1:¬(n:Int)<1:=by omega
 have n8:¬(8:Int)<n:=by omega
 have H:ai.wrap ((s.a:Int)+(n:Int))=((s.a+n:Nat):Int):=wZ (by omega)
 rw[au xlh];unfold uR
 by_cases y:s.e=0
 ·rw[if_pos y]
  obtain⟨a,e⟩:=s;simp only at y C F z H E;subst y
  by_cases h:a+n<=B.length
  ·rw[if_pos h]at C
   rw[if_pos h];rw[aD,bh]at z;change run T _ _=some (Ex.x 0,⟨[(0,SV.ptr 0 0),(1,SV.int .i64 n),(7,SV.int .u64 ((nB ((B.drop a).take n):Nat):Int))],_,_⟩)at z;have I:¬(9223372036854775807:Int)<((nB ((B.drop a).take n):Nat):Int):=by omega
   have Q:ai.wrap ((nB ((B.drop a).take n):Nat):Int)=((nB ((B.drop a).take n):Nat):Int):=w64 (by omega) (by omega);generalize nB ((B.drop a).take n)=V at*;generalize (B.drop a).take n=X at*;simp only[rdO]at z ⊢;simp only[go_sem,Q0,Q1,Q2,Q3,Q4,Q5,Q6,Q7,Q8,Q9,Qa,Qb,Qc,Qd,Qe,Qf,Qg,Qh,Qi,Qj,Qk,reduceCtorEq,reduceIte,n1,n8,C,pb,z,I,Q,H]
  ·rw[if_neg h]at C
   rw[if_neg h];simp only[rdO];simp only[go_sem,Q0,Q1,Q2,Q3,Q4,Q5,Q6,Q7,Q8,Q9,Qa,Qb,Qc,Qd,Qe,Qf,Qg,Qh,Qi,Qj,Qk,reduceCtorEq,reduceIte,n1,n8,C,pb,F,wV]
 ·rw[if_neg y]
  obtain⟨a,e⟩:=s;simp only at y;simp only[rdO];simp only[go_sem,Q0,Q1,Q2,Q3,Q4,Q5,Q6,Q7,Q8,Q9,Qa,Qb,Qc,Qd,Qe,Qf,Qg,Qh,Qi,Qj,Qk,reduceCtorEq,reduceIte,y]
theorem f54(B:t6)(I:B.length<=1000000000)(n:Nat)(L:n<=1000000)(s:Rs)(J:gk B s):call T 54 [.ptr 0 0,.int .i64 n] [rdO B 50 s] 1=some ⟨.byt (wR B n s).1 .no,[(0,rdO B 60 (wR B n s).2)],[60]⟩:=by
 have H:=J.a;have z:=Ya B 0 I s.a n s.a H (by omega) (by omega);have E:=Yb B s.a 0 2;have n1:¬(n:Int)<0:=by omega
 have F:ai.wrap ((s.a:Int)+(n:Int))=((s.a+n:Nat):Int):=wZ (by omega)
 have hX:0+((B.drop s.a).take n).length<=140737488355328:=by rw[aA];omega
 have C:((B.drop s.a).take n).length<=140737488355328:=by rw[aA];omega
 rw[au xle];unfold wR
 by_cases y:s.e=0
 ·rw[if_pos y]
  obtain⟨a,e⟩:=s;simp only at y z E F hX C;subst y
  by_cases h:a+n<=B.length
  ·rw[if_pos h]at z
   rw[if_pos h];generalize (B.drop a).take n=X at*;simp only[rdO];simp only[go_sem,Q0,Q1,Q2,Q3,Q4,Q5,Q6,Q7,Q8,Q9,Qa,Qb,Qc,Qd,Qe,Qf,Qg,Qh,Qi,Qj,Qk,reduceCtorEq,reduceIte,n1,z,pb,F,hX,C]
  ·rw[if_neg h]at z
   rw[if_neg h];simp only[rdO];simp only[go_sem,Q0,Q1,Q2,Q3,Q4,Q5,Q6,Q7,Q8,Q9,Qa,Qb,Qc,Qd,Qe,Qf,Qg,Qh,Qi,Qj,Qk,reduceCtorEq,reduceIte,n1,z,pb,E,wV]
 ·rw[if_neg y]
  obtain⟨a,e⟩:=s;simp only at y;simp only[rdO];simp only[go_sem,Q0,Q1,Q2,Q3,Q4,Q5,Q6,Q7,Q8,Q9,Qa,Qb,Qc,Qd,Qe,Qf,Qg,Qh,Qi,Qj,Qk,reduceCtorEq,reduceIte,y]
theorem f53(B:t6)(s:Rs):call T 53 [.ptr 0 0] [rdO B 50 s] 1=some ⟨.int .i64 s.e,[(0,rdO B 60 s)],[60]⟩:=by rw[au xlf];simp only[rdO];simp only[go_sem,Q0,Q1,Q2,Q3,Q4,Q5,Q6,Q7,Q8,Q9,Qa,Qb,Qc,Qd,Qe,Qf,Qg,Qh,Qi,Qj,Qk,reduceCtorEq,reduceIte]
theorem xkA(B:t6)(z:B.length<=1000000000)(s:Rs)(h:gk B s):call T 111 [.ptr 0 0] [rdO B 50 s] 1=some ⟨.int .i64 ((B.length-s.a:Nat):Int),[(0,rdO B 60 s)],[60]⟩:=by
 have C:=h.a;have y:ai.wrap ((B.length:Int)-(s.a:Int))=((B.length-s.a:Nat):Int):=wZ (by omega)
 rw[au xgG];simp only[rdO];simp only[go_sem,Q0,Q1,Q2,Q3,Q4,Q5,Q6,Q7,Q8,Q9,Qa,Qb,Qc,Qd,Qe,Qf,Qg,Qh,Qi,Qj,Qk,reduceCtorEq,reduceIte,y]
theorem f55(B:t6)(C:B.length<=1000000000)(s:Rs)(E:gk B s):call T 55 [.ptr 0 0] [rdO B 50 s] 1=some ⟨.int .i64 (eR B s),[(0,rdO B 60 s)],[60]⟩:=by
 have g:=xkA B C s E;rw[au xld];unfold eR;obtain⟨a,e⟩:=s;simp only[rdO]at g ⊢
 by_cases z:e=0
 ·subst z
  by_cases h:a<B.length
  ·have y:(0:Int)<((B.length-a:Nat):Int):=by omega
   simp only[go_sem,Q0,Q1,Q2,Q3,Q4,Q5,Q6,Q7,Q8,Q9,Qa,Qb,Qc,Qd,Qe,Qf,Qg,Qh,Qi,Qj,Qk,reduceCtorEq,reduceIte,g,YK,h,y]
  ·have y:¬(0:Int)<((B.length-a:Nat):Int):=by omega
   simp only[go_sem,Q0,Q1,Q2,Q3,Q4,Q5,Q6,Q7,Q8,Q9,Qa,Qb,Qc,Qd,Qe,Qf,Qg,Qh,Qi,Qj,Qk,reduceCtorEq,reduceIte,g,YK,h,y]
 ·simp only[go_sem,Q0,Q1,Q2,Q3,Q4,Q5,Q6,Q7,Q8,Q9,Qa,Qb,Qc,Qd,Qe,Qf,Qg,Qh,Qi,Qj,Qk,reduceCtorEq,reduceIte,z]
theorem xfJ(B:t6)(a:Nat)(h:a+2<=B.length):∃x y,(B.drop a).take 2=[x,y]:=by
 have:((B.drop a).take 2).length=2:=by rw[aA,aL];omega
 match (B.drop a).take 2,this with
 |[x,y],_=>exact⟨x,y,rfl⟩
theorem xjo(x y:UInt8):bt .or .i64 (ai.wrap ((x.toNat:Int)*2^min 8 64)) (y.toNat:Int)=((nB [x,y]:Nat):Int):=by
 have C:=x.toNat_lt;have E:=y.toNat_lt;have p:((2:Int)^min 8 64)=256:=by decide
 have e:ai.wrap ((x.toNat:Int)*2^min 8 64)=((x.toNat*256:Nat):Int):=by rw[p,w64 (by omega) (by omega)];omega
 rw[e];unfold bt;simp only[BitVec.ofInt_natCast]
 have z:(BitVec.ofNat 64 (x.toNat*256)|||BitVec.ofNat 64 y.toNat).toNat=x.toNat*256+y.toNat:=by rw[BitVec.toNat_or,BitVec.toNat_ofNat,BitVec.toNat_ofNat,dm (by omega),dm (by omega)];have:=Nat.two_pow_add_eq_or_of_lt (i:=8) (b:=y.toNat) (by omega) x.toNat;rw[show(2:Nat)^8=256 from by decide]at this;rw[cD x.toNat 256,<-this]
 show ai.wrap (((BitVec.ofNat 64 (x.toNat*256)|||BitVec.ofNat 64 y.toNat).toNat:Nat):Int)=_;have h:nB [x,y]=x.toNat*256+y.toNat:=by simp[nB,nF]
 rw[z,h,w64 (by omega) (by omega)]
theorem f52(B:t6)(hB:B.length<=1000000000)(m:Nat)(hm:m<=65535)(s:Rs)(hs:gk B s):call T 52 [.ptr 0 0,.int .i64 m] [rdO B 50 s] 1=some ⟨.byt (bR B m s).1 .no,[(0,rdO B 60 (bR B m s).2)],[60]⟩:=by
 have ha:=hs.a;have E:=Ya B 0 hB s.a 2 s.a ha (by omega) (by omega);have J:=Yb B s.a 0 2;have Z:=Yb B s.a 0 4;rw[show((2:Nat):Int)=2 from rfl]at E;rw[au xlg];unfold bR
 by_cases F:s.e=0
 ·rw[if_pos F]
  obtain⟨a,e⟩:=s;simp only at F E J Z ha;subst F
  by_cases h:a+2<=B.length
  ·rw[if_pos h]at E
   rw[if_pos h];obtain⟨x,y,L⟩:=xfJ B a h;simp only[L]at E ⊢;have O:=xjo x y
   have hn:nB [x,y]<65536:=by
    have:=NZ [x,y];have p:(256:Nat)^ [x,y].length=65536:=by show(256:Nat)^2=65536;decide
    omega
   have W:ai.wrap ((a:Int)+2)=((a+2:Nat):Int):=wZ (by omega)
   have e2:ai.wrap (2+((nB [x,y]:Nat):Int))=((2+nB [x,y]:Nat):Int):=wZ (by omega)
   have e3:ai.wrap ((a:Int)+((2+nB [x,y]:Nat):Int))=((a+(2+nB [x,y]):Nat):Int):=wZ (by omega)
   have H:=Ya B 0 hB (a+2) (nB [x,y]) a h (by omega) (by omega);generalize nB [x,y]=n at*
   by_cases U:n<=m
   ·have C:¬(m:Int)<(n:Int):=by omega
    have z:¬m<n:=by omega
    rw[if_pos U];have hX:0+((B.drop (a+2)).take n).length<=140737488355328:=by rw[aA];omega
    have Q:((B.drop (a+2)).take n).length<=140737488355328:=by rw[aA];omega
    by_cases I:a+2+n<=B.length
    ·rw[if_pos I]at H
     rw[if_pos I];generalize (B.drop (a+2)).take n=X at*;simp only[rdO];simp only[go_sem,Q0,Q1,Q2,Q3,Q4,Q5,Q6,Q7,Q8,Q9,Qa,Qb,Qc,Qd,Qe,Qf,Qg,Qh,Qi,Qj,Qk,reduceCtorEq,reduceIte,E,pb,O,C,z,H,W,e2,e3,hX,Q]
    ·rw[if_neg I]at H
     rw[if_neg I];simp only[rdO];simp only[go_sem,Q0,Q1,Q2,Q3,Q4,Q5,Q6,Q7,Q8,Q9,Qa,Qb,Qc,Qd,Qe,Qf,Qg,Qh,Qi,Qj,Qk,reduceCtorEq,reduceIte,E,pb,O,C,z,H,W,J,wV]
   ·have C:(m:Int)<(n:Int):=by omega
    have z:m<n:=by omega
    rw[if_neg U];simp only[rdO];simp only[go_sem,Q0,Q1,Q2,Q3,Q4,Q5,Q6,Q7,Q8,Q9,Qa,Qb,Qc,Qd,Qe,Qf,Qg,Qh,Qi,Qj,Qk,reduceCtorEq,reduceIte,E,pb,O,C,z,Z,wV]
  ·rw[if_neg h]at E
   rw[if_neg h];simp only[rdO];simp only[go_sem,Q0,Q1,Q2,Q3,Q4,Q5,Q6,Q7,Q8,Q9,Qa,Qb,Qc,Qd,Qe,Qf,Qg,Qh,Qi,Qj,Qk,reduceCtorEq,reduceIte,E,pb,J,wV]
 ·rw[if_neg F]
  obtain⟨a,e⟩:=s;simp only at F;simp only[rdO];simp only[go_sem,Q0,Q1,Q2,Q3,Q4,Q5,Q6,Q7,Q8,Q9,Qa,Qb,Qc,Qd,Qe,Qf,Qg,Qh,Qi,Qj,Qk,reduceCtorEq,reduceIte,F]
def oP(B:t6)(s:Rs):Ent×Rs:=(⟨(uR B 1 s).1,(bR B 12 (uR B 1 s).2).1,(uR B 4 (bR B 12 (uR B 1 s).2).2).1,(wR B 32 (uR B 4 (bR B 12 (uR B 1 s).2).2).2).1⟩,(wR B 32 (uR B 4 (bR B 12 (uR B 1 s).2).2).2).2)
def oi(B:t6)(s:Rs):Rul×Rs:=(⟨(uR B 1 s).1,(bR B 32 (uR B 1 s).2).1,(uR B 4 (bR B 32 (uR B 1 s).2).2).1,(uR B 4 (uR B 4 (bR B 32 (uR B 1 s).2).2).2).1⟩,(uR B 4 (uR B 4 (bR B 32 (uR B 1 s).2).2).2).2)
def fv(B:t6):Nat->List Ent->Rs->List Ent×Rs
 |0,es,s=>(es,s)
 |n+1,es,s=>if s.e=0 then fv B n (es++ [(oP B s).1]) (oP B s).2 else(es,s)
def ft(B:t6):Nat->List Rul->Rs->List Rul×Rs
 |0,es,s=>(es,s)
 |n+1,es,s=>if s.e=0 then ft B n (es++ [(oi B s).1]) (oi B s).2 else(es,s)
theorem BU{B:t6}{s:Rs}(h:gk B s):gk B (oP B s).2:=xdA (ia (wK (ia h)))
theorem zw{B:t6}{s:Rs}(h:gk B s):gk B (oi B s).2:=ia (ia (wK (ia h)))
theorem uT{B:t6}:∀{n:Nat}{es:List Ent}{s:Rs},gk B s->gk B (fv B n es s).2
 |0,_,_,h=>h
 |n+1,es,s,h=>by
  unfold fv;split
  ·exact uT (BU h)
  ·exact h
theorem uj{B:t6}:∀{n:Nat}{es:List Rul}{s:Rs},gk B s->gk B (ft B n es s).2
 |0,_,_,h=>h
 |n+1,es,s,h=>by
  unfold ft;split
  ·exact uj (zw h)
  ·exact h
theorem rf{B:t6}:∀{n:Nat}{es:List Ent}{s:Rs},(fv B n es s).1.length<=es.length+n
 |0,_,_=>aN _
 |n+1,es,s=>by
  unfold fv;split
  ·have:=rf (B:=B) (n:=n) (es:=es++ [(oP B s).1]) (s:=(oP B s).2)
   rw[af,aP]at this;omega
  ·show es.length<=_;omega
theorem qG{B:t6}:∀{n:Nat}{es:List Rul}{s:Rs},(ft B n es s).1.length<=es.length+n
 |0,_,_=>aN _
 |n+1,es,s=>by
  unfold ft;split
  ·have:=qG (B:=B) (n:=n) (es:=es++ [(oi B s).1]) (s:=(oi B s).2)
   rw[af,aP]at this;omega
  ·show es.length<=_;omega
def mR(v:t6)(h fl fr z:Int)(es:List Ent)(t:Tok)(rs:List Rul)(y:Tok):aC:= .rc [.str v,.int .i64 h,.int .i64 fl,.int .i64 fr,.int .i64 z,.lst 4 (cd es) t,.lst 4 (fk rs) y]
def zR:aC:= .rc [.str [],.int .i64 0,.int .i64 0,.int .i64 0,.int .i64 0,.lst 4 [] .clip,.lst 4 [] .clip]
theorem FQ(l:List Ent)(x:Ent):cd (l++ [x])=cd l++ [x.sv]:=by rw[cd,cd,df];rfl
theorem ER(l:List Rul)(x:Rul):fk (l++ [x])=fk l++ [x.sv]:=by rw[fk,fk,df];rfl
theorem xjO(B:t6)(hB:B.length<=1000000000)(v:t6)(ve fl fr ti:Int):∀(n:Nat)(es:List Ent)(s:Rs)(t:Tok)(tk:t8)(I:Nat),es.length+n<=1000->gk B s->
 (t= .clip/\tk=[]/\es=[]\/t= .id 160/\tk=[160])->(I=34060\/I=55060)->
 ∃(U:Tok)(tk':t8)(E:Nat),(U= .clip/\tk'=[]/\(fv B n es s).1=[]\/U= .id 160/\tk'=[160])/\(E=34060\/E=55060\/E=39060)/\
  run T (.loop xK) ⟨[(2,.ptr 102 0),(4,.ptr 12100 0),(5,.ptr 105 0),(6,.int .i64 n)],[(102,zR),(105,mR v ve fl fr ti es t [] .clip),(12100,rdO B I s)],tk++ [I]⟩=
   some (.x 0,⟨[(2,.ptr 102 0),(4,.ptr 12100 0),(5,.ptr 105 0)],[(102,zR),(105,mR v ve fl fr ti (fv B n es s).1 U [] .clip),(12100,rdO B E (fv B n es s).2)],tk'++ [E]⟩):=by
 intro n;induction n with
 |zero=>intro es s t tk I h1 W L z;refine⟨t,tk,I,L,by omega, ?_⟩;unfold fv;rw[al];rcases L with⟨rfl,rfl,rfl⟩|⟨rfl,rfl⟩<;>rcases z with rfl|rfl<;>simp only[zR,mR,rdO]<;>simp only[go_sem,Q0,Q1,Q2,Q3,Q4,Q5,Q6,Q7,Q8,Q9,Qa,Qb,Qc,Qd,Qe,Qf,Qg,Qh,Qi,Qj,Qk,reduceCtorEq,reduceIte,aD]
 |succ n ih=>
  intro es s t tk I h1 W L z;have Q:(0:Int)<((n+1:Nat):Int):=by omega
  have e1:ai.wrap (((n+1:Nat):Int)-1)=(n:Int):=wZ (by omega)
  have g0:=f53 B s
  by_cases O:s.e=0
  ·obtain⟨U,tk',E,q1,q2,h⟩:=ih (es++ [(oP B s).1]) (oP B s).2 (.id 160) [160] 55060 (by rw[af,aP];omega) (BU W) (.inr ⟨rfl,rfl⟩) (.inr rfl)
   have hu:fv B (n+1) es s=fv B n (es++ [(oP B s).1]) (oP B s).2:=by
    conv=>lhs;unfold fv
    rw[if_pos O]
   rw[hu];refine⟨U,tk',E,q1,q2, ?_⟩;have hv:=cw es;have b1:(es.length+1)*56<=140737488355328:=by omega
   generalize fv B n (es++ [(oP B s).1]) (oP B s).2=Z at*;have k1:=ia (n:=1) W;have C:=f51 B hB 1 (by omega) (by omega) s W;unfold oP mR at h;rw[FQ]at h;generalize uR B 1 s=p1 at*;obtain⟨x1,s1⟩:=p1;simp only at k1 C h;have k2:=wK (n:=12) k1;have F:=f52 B hB 12 (by omega) s1 k1;generalize bR B 12 s1=p2 at*;obtain⟨x2,s2⟩:=p2;simp only at k2 F h;have k3:=ia (n:=4) k2;have H:=f51 B hB 4 (by omega) (by omega) s2 k2;generalize uR B 4 s2=p3 at*;obtain⟨x3,s3⟩:=p3;simp only at k3 H h;have J:=f54 B hB 32 (by omega) s3 k3;generalize wR B 32 s3=p4 at*;obtain⟨x4,s4⟩:=p4;simp only at J h;rw[show((1:Nat):Int)=1 from rfl]at C;rw[show((12:Nat):Int)=12 from rfl]at F;rw[show((4:Nat):Int)=4 from rfl]at H;rw[show((32:Nat):Int)=32 from rfl]at J;rw[O]at g0;simp only[zR,mR,rdO,Ent.sv,aV,aK]at g0 C F H J h ⊢;rw[O]at g0 C;rw[O];rw[al];rcases L with⟨rfl,rfl,rfl⟩|⟨rfl,rfl⟩<;>rcases z with rfl|rfl
   ·have y:cd []=[]:=rfl
    simp only[y,aK]at h ⊢;simp only[go_sem,Q0,Q1,Q2,Q3,Q4,Q5,Q6,Q7,Q8,Q9,Qa,Qb,Qc,Qd,Qe,Qf,Qg,Qh,Qi,Qj,Qk,reduceCtorEq,reduceIte,Q,e1,g0,Eb,C,wP,F,Ec,H,J,Yu,h]
   ·have y:cd []=[]:=rfl
    simp only[y,aK]at h ⊢;simp only[go_sem,Q0,Q1,Q2,Q3,Q4,Q5,Q6,Q7,Q8,Q9,Qa,Qb,Qc,Qd,Qe,Qf,Qg,Qh,Qi,Qj,Qk,reduceCtorEq,reduceIte,Q,e1,g0,Eb,C,wP,F,Ec,H,J,Yu,h]
   ·simp only[aV,aK]
    simp only[go_sem,Q0,Q1,Q2,Q3,Q4,Q5,Q6,Q7,Q8,Q9,Qa,Qb,Qc,Qd,Qe,Qf,Qg,Qh,Qi,Qj,Qk,reduceCtorEq,reduceIte,Q,e1,g0,Eb,C,wP,F,Ec,H,J,Yu,hv,b1,h]
   ·simp only[aV,aK]
    simp only[go_sem,Q0,Q1,Q2,Q3,Q4,Q5,Q6,Q7,Q8,Q9,Qa,Qb,Qc,Qd,Qe,Qf,Qg,Qh,Qi,Qj,Qk,reduceCtorEq,reduceIte,Q,e1,g0,Eb,C,wP,F,Ec,H,J,Yu,hv,b1,h]
  ·have hu:fv B (n+1) es s=(es,s):=by
    unfold fv;rw[if_neg O]
   rw[hu];refine⟨t,tk,39060,L,by omega, ?_⟩;rw[al];simp only[zR,mR,rdO]at g0 ⊢;rcases L with⟨rfl,rfl,rfl⟩|⟨rfl,rfl⟩<;>rcases z with rfl|rfl<;>simp only[go_sem,Q0,Q1,Q2,Q3,Q4,Q5,Q6,Q7,Q8,Q9,Qa,Qb,Qc,Qd,Qe,Qf,Qg,Qh,Qi,Qj,Qk,reduceCtorEq,reduceIte,Q,g0,Eb,O,aV,aK]
theorem xjN(B:t6)(hB:B.length<=1000000000)(v:t6)(ve fl fr ti:Int)(es:List Ent)(t2:Tok)(z:t8)(F:t2= .clip/\z=[]/\es=[]\/t2= .id 160/\z=[160]):∀(n:Nat)(rs:List Rul)(s:Rs)(t:Tok)(tk:t8)(H:Nat),rs.length+n<=1000->gk B s->
 (t= .clip/\tk=[]/\rs=[]\/t= .id 190/\tk=[190])->(H=64060\/H=85060)->
 ∃(Q:Tok)(tk':t8)(C:Nat),(Q= .clip/\tk'=[]/\(ft B n rs s).1=[]\/Q= .id 190/\tk'=[190])/\(C=64060\/C=85060\/C=69060)/\
  run T (.loop xJ) ⟨[(2,.ptr 102 0),(4,.ptr 12100 0),(5,.ptr 105 0),(8,.int .i64 n)],[(102,zR),(105,mR v ve fl fr ti es t2 rs t),(12100,rdO B H s)],z++(tk++ [H])⟩=
   some (.x 2,⟨[(2,.ptr 102 0),(4,.ptr 12100 0),(5,.ptr 105 0)],[(102,zR),(105,mR v ve fl fr ti es t2 (ft B n rs s).1 Q),(12100,rdO B C (ft B n rs s).2)],z++(tk'++ [C])⟩):=by
 intro n;induction n with
 |zero=>intro rs s t tk H h1 U I h;refine⟨t,tk,H,I,by omega, ?_⟩;unfold ft;rw[al];rcases F with⟨rfl,rfl,rfl⟩|⟨rfl,rfl⟩<;>rcases I with⟨rfl,rfl,rfl⟩|⟨rfl,rfl⟩<;>rcases h with rfl|rfl<;>simp only[zR,mR,rdO]<;>simp only[go_sem,Q0,Q1,Q2,Q3,Q4,Q5,Q6,Q7,Q8,Q9,Qa,Qb,Qc,Qd,Qe,Qf,Qg,Qh,Qi,Qj,Qk,reduceCtorEq,reduceIte,aD]
 |succ n ih=>
  intro rs s t tk H h1 U I h;have hp:(0:Int)<((n+1:Nat):Int):=by omega
  have e1:ai.wrap (((n+1:Nat):Int)-1)=(n:Int):=wZ (by omega)
  have g0:=f53 B s
  by_cases J:s.e=0
  ·obtain⟨Q,tk',C,q1,q2,y⟩:=ih (rs++ [(oi B s).1]) (oi B s).2 (.id 190) [190] 85060 (by rw[af,aP];omega) (zw U) (.inr ⟨rfl,rfl⟩) (.inr rfl)
   have hu:ft B (n+1) rs s=ft B n (rs++ [(oi B s).1]) (oi B s).2:=by
    conv=>lhs;unfold ft
    rw[if_pos J]
   rw[hu];refine⟨Q,tk',C,q1,q2, ?_⟩;have hv:=ek rs;have b1:(rs.length+1)*40<=140737488355328:=by omega
   generalize ft B n (rs++ [(oi B s).1]) (oi B s).2=Z at*;have k1:=ia (n:=1) U;have O:=f51 B hB 1 (by omega) (by omega) s U;unfold oi mR at y;rw[ER]at y;generalize uR B 1 s=p1 at*;obtain⟨x1,s1⟩:=p1;simp only at k1 O y;have k2:=wK (n:=32) k1;have W:=f52 B hB 32 (by omega) s1 k1;generalize bR B 32 s1=p2 at*;obtain⟨x2,s2⟩:=p2;simp only at k2 W y;have k3:=ia (n:=4) k2;have g3:=f51 B hB 4 (by omega) (by omega) s2 k2;generalize uR B 4 s2=p3 at*;obtain⟨x3,s3⟩:=p3;simp only at k3 g3 y;have g4:=f51 B hB 4 (by omega) (by omega) s3 k3;generalize uR B 4 s3=p4 at*;obtain⟨x4,s4⟩:=p4;simp only at g4 y;rw[show((1:Nat):Int)=1 from rfl]at O;rw[show((32:Nat):Int)=32 from rfl]at W;rw[show((4:Nat):Int)=4 from rfl]at g3 g4;rw[J]at g0;simp only[zR,mR,rdO,Rul.sv,aV,aK]at g0 O W g3 g4 y ⊢;rw[J]at g0 O;rw[J];rw[al];rcases F with⟨rfl,rfl,rfl⟩|⟨rfl,rfl⟩<;>rcases I with⟨rfl,rfl,rfl⟩|⟨rfl,rfl⟩<;>rcases h with rfl|rfl
   all_goals
    have L:fk []=[]:=rfl;have E:cd []=[]:=rfl;simp only[L,E,aK,aV]at y ⊢;simp only[go_sem,Q0,Q1,Q2,Q3,Q4,Q5,Q6,Q7,Q8,Q9,Qa,Qb,Qc,Qd,Qe,Qf,Qg,Qh,Qi,Qj,Qk,reduceCtorEq,reduceIte,hp,e1,g0,Eb,O,wP,W,Ec,g3,g4,hv,b1,y]
  ·have hu:ft B (n+1) rs s=(rs,s):=by
    unfold ft;rw[if_neg J]
   rw[hu];refine⟨t,tk,69060,I,by omega, ?_⟩;rw[al];simp only[zR,mR,rdO]at g0 ⊢;rcases F with⟨rfl,rfl,rfl⟩|⟨rfl,rfl⟩<;>rcases I with⟨rfl,rfl,rfl⟩|⟨rfl,rfl⟩<;>rcases h with rfl|rfl<;>simp only[go_sem,Q0,Q1,Q2,Q3,Q4,Q5,Q6,Q7,Q8,Q9,Qa,Qb,Qc,Qd,Qe,Qf,Qg,Qh,Qi,Qj,Qk,reduceCtorEq,reduceIte,hp,g0,Eb,J,aV,aK]
def mS(v:t6)(z C h y:Int)(es:List Ent)(rs:List Rul):aC:= .rc [.str v,.int .i64 z,.int .i64 C,.int .i64 h,.int .i64 y,.lst 4 (cd es) .no,.lst 4 (fk rs) .no]
theorem kA{α:Type}(l:List α)(d:α)(i:Nat)(h:i<l.length):l.drop i=l.getD i d::l.drop (i+1):=by rw[aY h,aa,ab h];rfl
theorem xjM(
 v:t6)(I E F H:Int)(es z:List Ent)(rs Q:List Rul)(hl:es.length=z.length)(hn:es.length<=1000000)(hd:∀x∈es,x.dig.length<=1000000):∀(k i:Nat),es.length-i=k->i<=es.length->
 (es.drop i=z.drop i->run T (.loop DJ) ⟨[(2,.ptr 102 0),(3,.ptr 103 0),(5,.int .i64 i)],[(102,mS v I E F H es rs),(103,mS v I E F H z Q)],[]⟩=some (.x 0,⟨[(2,.ptr 102 0),(3,.ptr 103 0)],[(102,mS v I E F H es rs),(103,mS v I E F H z Q)],[]⟩))/\
 (¬es.drop i=z.drop i->∃ob,run T (.loop DJ) ⟨[(2,.ptr 102 0),(3,.ptr 103 0),(5,.int .i64 i)],[(102,mS v I E F H es rs),(103,mS v I E F H z Q)],[]⟩=some (.r,⟨[(4,.bool false)],ob,[]⟩)):=by
 intro k;induction k with
 |zero=>
  intro i h1 h2;have J:¬i<es.length:=by omega
  have O:es.drop i=[]:=br (by omega);have e2:z.drop i=[]:=br (by omega);have L:=cw es;refine⟨fun _=> ?_,fun h=>absurd (O.trans e2.symm) h⟩;rw[al];simp only[mS,go_sem,Q0,Q1,Q2,Q3,Q4,Q5,Q6,Q7,Q8,Q9,Qa,Qb,Qc,Qd,Qe,Qf,Qg,Qh,Qi,Qj,Qk,reduceCtorEq,reduceIte,L,J]
 |succ k ih=>
  intro i h1 h2;have J:i<es.length:=by omega
  have C:i<z.length:=by omega
  have L:=cw es;have Z:=cw z;have W:=dM es i J;have U:=dM z i C;have dE:=kA es en0 i J;have dF:=kA z en0 i C;have a0:=ih (i+1) (by omega) (by omega);have O:=cA i (by omega);have a5:=hd _ (dd es en0 i J);rw[dE,dF];generalize es.drop (i+1)=R at*;generalize z.drop (i+1)=S at*;generalize es.getD i en0=x at*;generalize z.getD i en0=y at*;obtain⟨r1,n1,v1,d1⟩:=x;obtain⟨r2,n2,v2,d2⟩:=y;have g:=f19 d1 d2 (by simp only at a5;omega);clear a5 dE dF hd ih;simp only[mS,Ent.sv]at*
  by_cases q1:r1=r2
  ·subst q1
   by_cases q2:n1=n2
   ·subst q2
    by_cases q3:v1=v2
    ·subst q3
     by_cases q4:d1=d2
     ·subst q4
      rw[decide_eq_true rfl]at g;refine⟨fun h=> ?_,fun h=> ?_⟩
      ·have q:=a0.1 (jp.inj h).2
       rw[al];simp only[go_sem,Q0,Q1,Q2,Q3,Q4,Q5,Q6,Q7,Q8,Q9,Qa,Qb,Qc,Qd,Qe,Qf,Qg,Qh,Qi,Qj,Qk,reduceCtorEq,reduceIte,J,C,L,Z,W,U,O,g,xdi,q]
      ·obtain⟨ob,q⟩:=a0.2 (fun h'=>h (by rw[h']))
       refine⟨ob, ?_⟩;rw[al];simp only[go_sem,Q0,Q1,Q2,Q3,Q4,Q5,Q6,Q7,Q8,Q9,Qa,Qb,Qc,Qd,Qe,Qf,Qg,Qh,Qi,Qj,Qk,reduceCtorEq,reduceIte,J,C,L,Z,W,U,O,g,xdi,q]
     ·rw[decide_eq_false q4]at g
      refine⟨fun h=>absurd h (by simp[q4]),fun _=>⟨[(102,.rc [.str v,.int .i64 I,.int .i64 E,.int .i64 F,.int .i64 H,.lst 4 (cd es) .no,.lst 4 (fk rs) .no]),(103,.rc [.str v,.int .i64 I,.int .i64 E,.int .i64 F,.int .i64 H,.lst 4 (cd z) .no,.lst 4 (fk Q) .no]),(106,.rc [.int .i64 r1,.str n1,.int .i64 v1,.byt d1 .no]),(107,.rc [.int .i64 r1,.str n1,.int .i64 v1,.byt d2 .no])], ?_⟩⟩;rw[al];simp only[go_sem,Q0,Q1,Q2,Q3,Q4,Q5,Q6,Q7,Q8,Q9,Qa,Qb,Qc,Qd,Qe,Qf,Qg,Qh,Qi,Qj,Qk,reduceCtorEq,reduceIte,J,C,L,Z,W,U,O,g,xdi]
    ·refine⟨fun h=>absurd h (by simp[q3]),fun _=>⟨[(102,.rc [.str v,.int .i64 I,.int .i64 E,.int .i64 F,.int .i64 H,.lst 4 (cd es) .no,.lst 4 (fk rs) .no]),(103,.rc [.str v,.int .i64 I,.int .i64 E,.int .i64 F,.int .i64 H,.lst 4 (cd z) .no,.lst 4 (fk Q) .no]),(106,.rc [.int .i64 r1,.str n1,.int .i64 v1,.byt d1 .no]),(107,.rc [.int .i64 r1,.str n1,.int .i64 v2,.byt d2 .no])], ?_⟩⟩
     rw[al];simp only[go_sem,Q0,Q1,Q2,Q3,Q4,Q5,Q6,Q7,Q8,Q9,Qa,Qb,Qc,Qd,Qe,Qf,Qg,Qh,Qi,Qj,Qk,reduceCtorEq,reduceIte,J,C,L,Z,W,U,O,q3]
   ·refine⟨fun h=>absurd h (by simp[q2]),fun _=>⟨[(102,.rc [.str v,.int .i64 I,.int .i64 E,.int .i64 F,.int .i64 H,.lst 4 (cd es) .no,.lst 4 (fk rs) .no]),(103,.rc [.str v,.int .i64 I,.int .i64 E,.int .i64 F,.int .i64 H,.lst 4 (cd z) .no,.lst 4 (fk Q) .no]),(106,.rc [.int .i64 r1,.str n1,.int .i64 v1,.byt d1 .no]),(107,.rc [.int .i64 r1,.str n2,.int .i64 v2,.byt d2 .no])], ?_⟩⟩
    rw[al];simp only[go_sem,Q0,Q1,Q2,Q3,Q4,Q5,Q6,Q7,Q8,Q9,Qa,Qb,Qc,Qd,Qe,Qf,Qg,Qh,Qi,Qj,Qk,reduceCtorEq,reduceIte,J,C,L,Z,W,U,O,q2]
  ·refine⟨fun h=>absurd h (by simp[q1]),fun _=>⟨[(102,.rc [.str v,.int .i64 I,.int .i64 E,.int .i64 F,.int .i64 H,.lst 4 (cd es) .no,.lst 4 (fk rs) .no]),(103,.rc [.str v,.int .i64 I,.int .i64 E,.int .i64 F,.int .i64 H,.lst 4 (cd z) .no,.lst 4 (fk Q) .no]),(106,.rc [.int .i64 r1,.str n1,.int .i64 v1,.byt d1 .no]),(107,.rc [.int .i64 r2,.str n2,.int .i64 v2,.byt d2 .no])], ?_⟩⟩
   rw[al];simp only[go_sem,Q0,Q1,Q2,Q3,Q4,Q5,Q6,Q7,Q8,Q9,Qa,Qb,Qc,Qd,Qe,Qf,Qg,Qh,Qi,Qj,Qk,reduceCtorEq,reduceIte,J,C,L,Z,W,U,O,q1]
theorem xjL(
 v:t6)(I J H O:Int)(es fs:List Ent)(rs C:List Rul)(hl:rs.length=C.length)(hn:rs.length<=1000000):∀(k i:Nat),rs.length-i=k->i<=rs.length->
 (rs.drop i=C.drop i->run T (.loop te) ⟨[(2,.ptr 102 0),(3,.ptr 103 0),(8,.int .i64 i)],[(102,mS v I J H O es rs),(103,mS v I J H O fs C)],[]⟩=some (.x 2,⟨[],[(102,mS v I J H O es rs),(103,mS v I J H O fs C)],[]⟩))/\
 (¬rs.drop i=C.drop i->run T (.loop te) ⟨[(2,.ptr 102 0),(3,.ptr 103 0),(8,.int .i64 i)],[(102,mS v I J H O es rs),(103,mS v I J H O fs C)],[]⟩=some (.r,⟨[(4,.bool false)],[(102,mS v I J H O es rs),(103,mS v I J H O fs C)],[]⟩)):=by
 intro k;induction k with
 |zero=>
  intro i h1 h2;have E:¬i<rs.length:=by omega
  have L:rs.drop i=[]:=br (by omega);have e2:C.drop i=[]:=br (by omega);have F:=ek rs;refine⟨fun _=> ?_,fun h=>absurd (L.trans e2.symm) h⟩;rw[al];simp only[mS,go_sem,Q0,Q1,Q2,Q3,Q4,Q5,Q6,Q7,Q8,Q9,Qa,Qb,Qc,Qd,Qe,Qf,Qg,Qh,Qi,Qj,Qk,reduceCtorEq,reduceIte,F,E]
 |succ k ih=>
  intro i h1 h2;have E:i<rs.length:=by omega
  have z:i<C.length:=by omega
  have F:=ek rs;have W:=ek C;have U:=j6 rs i E;have Q:=j6 C i z;have dE:=kA rs rl0 i E;have dF:=kA C rl0 i z;have Z:=ih (i+1) (by omega) (by omega);have L:=cA i (by omega);rw[dE,dF];generalize rs.drop (i+1)=R at*;generalize C.drop (i+1)=S at*;generalize rs.getD i rl0=x at*;generalize C.getD i rl0=y at*;obtain⟨r1,n1,v1,d1⟩:=x;obtain⟨r2,n2,v2,d2⟩:=y;clear dE dF ih;simp only[mS,Rul.sv]at*
  by_cases q1:r1=r2
  ·subst q1
   by_cases q2:n1=n2
   ·subst q2
    by_cases q3:v1=v2
    ·subst q3
     by_cases q4:d1=d2
     ·subst q4
      refine⟨fun h=> ?_,fun h=> ?_⟩
      ·have q:=Z.1 (jp.inj h).2
       rw[al];simp only[go_sem,Q0,Q1,Q2,Q3,Q4,Q5,Q6,Q7,Q8,Q9,Qa,Qb,Qc,Qd,Qe,Qf,Qg,Qh,Qi,Qj,Qk,reduceCtorEq,reduceIte,E,z,F,W,U,Q,L,q]
      ·have q:=Z.2 (fun h'=>h (by rw[h']))
       rw[al];simp only[go_sem,Q0,Q1,Q2,Q3,Q4,Q5,Q6,Q7,Q8,Q9,Qa,Qb,Qc,Qd,Qe,Qf,Qg,Qh,Qi,Qj,Qk,reduceCtorEq,reduceIte,E,z,F,W,U,Q,L,q]
     ·refine⟨fun h=>absurd h (by simp[q4]),fun _=> ?_⟩
      rw[al];simp only[go_sem,Q0,Q1,Q2,Q3,Q4,Q5,Q6,Q7,Q8,Q9,Qa,Qb,Qc,Qd,Qe,Qf,Qg,Qh,Qi,Qj,Qk,reduceCtorEq,reduceIte,E,z,F,W,U,Q,L,q4]
    ·refine⟨fun h=>absurd h (by simp[q3]),fun _=> ?_⟩
     rw[al];simp only[go_sem,Q0,Q1,Q2,Q3,Q4,Q5,Q6,Q7,Q8,Q9,Qa,Qb,Qc,Qd,Qe,Qf,Qg,Qh,Qi,Qj,Qk,reduceCtorEq,reduceIte,E,z,F,W,U,Q,L,q3]
   ·refine⟨fun h=>absurd h (by simp[q2]),fun _=> ?_⟩
    rw[al];simp only[go_sem,Q0,Q1,Q2,Q3,Q4,Q5,Q6,Q7,Q8,Q9,Qa,Qb,Qc,Qd,Qe,Qf,Qg,Qh,Qi,Qj,Qk,reduceCtorEq,reduceIte,E,z,F,W,U,Q,L,q2]
  ·refine⟨fun h=>absurd h (by simp[q1]),fun _=> ?_⟩
   rw[al];simp only[go_sem,Q0,Q1,Q2,Q3,Q4,Q5,Q6,Q7,Q8,Q9,Qa,Qb,Qc,Qd,Qe,Qf,Qg,Qh,Qi,Qj,Qk,reduceCtorEq,reduceIte,E,z,F,W,U,Q,L,q1]
noncomputable def eqM(m n:Man):Bool:= @decide (m=n) (Classical.propDecidable _)
theorem N3{m n:Man}(h:m=n):eqM m n=true:=by unfold eqM;exact @decide_eq_true _ (Classical.propDecidable _) h
theorem ny{m n:Man}(h:¬m=n):eqM m n=false:=by unfold eqM;exact @decide_eq_false _ (Classical.propDecidable _) h
theorem f18(m n:Man)(Q:gu m):call T 18 [.agg m.sv,.agg n.sv] [] 0=some ⟨.bool (eqM m n),[],[]⟩:=by
 have a0:=Q.en;have Z:=Q.rn;have a5:∀x∈m.ents,x.dig.length<=1000000:=fun x hx=>(Q.e x hx).2
 have I:=cw m.ents;have J:=cw n.ents;have z:=ek m.ruls;have E:=ek n.ruls;clear Q;obtain⟨v,a1,a2,a3,a4,es,rs⟩:=m;obtain⟨w,b1,b2,b3,b4,F,H⟩:=n;rw[au xlC];simp only[Man.sv]at*
 by_cases q1:v=w
 ·subst q1
  by_cases q2:a1=b1
  ·subst q2
   by_cases q3:a2=b2
   ·subst q3
    by_cases q4:a3=b3
    ·subst q4
     by_cases q5:a4=b4
     ·subst q5
      by_cases q6:es.length=F.length
      ·have y:(es.length:Int)=F.length:=by omega
       by_cases U:rs.length=H.length
       ·have C:(rs.length:Int)=H.length:=by omega
        have W:=xjM v a1 a2 a3 a4 es F rs H q6 a0 a5 _ 0 rfl (bD _);have h2:=xjL v a1 a2 a3 a4 es F rs H U Z _ 0 rfl (bD _);simp only[aD,bh,mS]at W h2
        by_cases O:es=F
        ·have k1:=W.1 O
         by_cases L:rs=H
         ·have k2:=h2.1 L
          rw[N3 (by rw[O,L])];simp only[go_sem,Q0,Q1,Q2,Q3,Q4,Q5,Q6,Q7,Q8,Q9,Qa,Qb,Qc,Qd,Qe,Qf,Qg,Qh,Qi,Qj,Qk,reduceCtorEq,reduceIte,I,J,z,E,y,C,k1,k2]
         ·have k2:=h2.2 L
          rw[ny (fun h=>L (Man.mk.inj h).2.2.2.2.2.2)];simp only[go_sem,Q0,Q1,Q2,Q3,Q4,Q5,Q6,Q7,Q8,Q9,Qa,Qb,Qc,Qd,Qe,Qf,Qg,Qh,Qi,Qj,Qk,reduceCtorEq,reduceIte,I,J,z,E,y,C,k1,k2]
        ·obtain⟨ob,k1⟩:=W.2 O
         rw[ny (fun h=>O (Man.mk.inj h).2.2.2.2.2.1)];simp only[go_sem,Q0,Q1,Q2,Q3,Q4,Q5,Q6,Q7,Q8,Q9,Qa,Qb,Qc,Qd,Qe,Qf,Qg,Qh,Qi,Qj,Qk,reduceCtorEq,reduceIte,I,J,z,E,y,C,k1]
       ·have C:¬(rs.length:Int)=H.length:=by omega
        rw[ny (fun h=>U (by rw[(Man.mk.inj h).2.2.2.2.2.2]))];simp only[go_sem,Q0,Q1,Q2,Q3,Q4,Q5,Q6,Q7,Q8,Q9,Qa,Qb,Qc,Qd,Qe,Qf,Qg,Qh,Qi,Qj,Qk,reduceCtorEq,reduceIte,I,J,z,E,y,C,U]
      ·have y:¬(es.length:Int)=F.length:=by omega
       rw[ny (fun h=>q6 (by rw[(Man.mk.inj h).2.2.2.2.2.1]))];simp only[go_sem,Q0,Q1,Q2,Q3,Q4,Q5,Q6,Q7,Q8,Q9,Qa,Qb,Qc,Qd,Qe,Qf,Qg,Qh,Qi,Qj,Qk,reduceCtorEq,reduceIte,I,J,z,E,y,q6]
     ·rw[ny (fun h=>q5 (Man.mk.inj h).2.2.2.2.1)]
      simp only[go_sem,Q0,Q1,Q2,Q3,Q4,Q5,Q6,Q7,Q8,Q9,Qa,Qb,Qc,Qd,Qe,Qf,Qg,Qh,Qi,Qj,Qk,reduceCtorEq,reduceIte,q5]
    ·rw[ny (fun h=>q4 (Man.mk.inj h).2.2.2.1)]
     simp only[go_sem,Q0,Q1,Q2,Q3,Q4,Q5,Q6,Q7,Q8,Q9,Qa,Qb,Qc,Qd,Qe,Qf,Qg,Qh,Qi,Qj,Qk,reduceCtorEq,reduceIte,q4]
   ·rw[ny (fun h=>q3 (Man.mk.inj h).2.2.1)]
    simp only[go_sem,Q0,Q1,Q2,Q3,Q4,Q5,Q6,Q7,Q8,Q9,Qa,Qb,Qc,Qd,Qe,Qf,Qg,Qh,Qi,Qj,Qk,reduceCtorEq,reduceIte,q3]
  ·rw[ny (fun h=>q2 (Man.mk.inj h).2.1)]
   simp only[go_sem,Q0,Q1,Q2,Q3,Q4,Q5,Q6,Q7,Q8,Q9,Qa,Qb,Qc,Qd,Qe,Qf,Qg,Qh,Qi,Qj,Qk,reduceCtorEq,reduceIte,q2]
 ·rw[ny (fun h=>q1 (Man.mk.inj h).1)]
  simp only[go_sem,Q0,Q1,Q2,Q3,Q4,Q5,Q6,Q7,Q8,Q9,Qa,Qb,Qc,Qd,Qe,Qf,Qg,Qh,Qi,Qj,Qk,reduceCtorEq,reduceIte,q1]
end Go.Proofs.YtkcjdeofknkndaaGreatDoor
