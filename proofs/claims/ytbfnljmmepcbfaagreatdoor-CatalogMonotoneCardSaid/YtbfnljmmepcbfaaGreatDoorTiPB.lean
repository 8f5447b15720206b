/- Contracts. No condition. -/
import Derived.Test.YtbfnljmmepcbfaaGreatDoorTgPB
open Int renaming natCast_zero -> ay
open Go.IntKind renaming i64 -> af
open List renaming mem_cons_self -> aB
open Nat renaming zero_le -> aX
set_option maxRecDepth 100000
set_option maxHeartbeats 16000000
set_option linter.unusedSimpArgs false
set_option linter.unusedVariables false
namespace Go.Proofs.YtbfnljmmepcbfaaGreatDoor
open Go.Sy
open UInt8 renaming reduceLT -> Q0, reduceLE -> Q1
open Int renaming reduceToNat -> Q2, reduceLE -> Q3, reduceLT -> Q4, reduceEq -> Q5, reduceNe -> Q6, reduceNeg -> Q7, reduceAdd -> Q8, reduceSub -> Q9, reduceMul -> Qa
open Nat renaming reducePow -> Qb, reduceDiv -> Qc, reduceMod -> Qd, reduceAdd -> Qe, reduceSub -> Qf, reduceMul -> Qg, reduceLT -> Qh, reduceLeDiff -> Qi, reduceEqDiff -> Qj, reduceBEq -> Qk
theorem U_8:U.fn 8=some (.code F8):=IW.fn 8 _ T_8
theorem xkJ(c:CSt):run U Il c=run U II c:=rfl
theorem xkI(c:CSt):run U Ik c=run U IH c:=rfl
theorem xkH(c:CSt):run U Ij c=run U IG c:=rfl
attribute [go_sem] xkJ xkI xkH
def ob8(c d:Cat):Bool->List (Nat×aH)
 |true=> [(112,.rc c.sv),(113,.rc d.sv),(115,.rc d.sv),(117,vns)]
 |false=> [(112,.rc c.sv),(113,.rc d.sv),(117,vns)]
theorem l8a(c d:Cat)(b:Bool)(N h:Int)(J:c.ms.length<=1000000)(hd:d.ms.length<=1000000)(L:∀v,flr c.ms v N<=flr c.ms v h)(O:∀v,flr c.ms v N<=flr d.ms v N):
 run U (.loop Il) ⟨[(3,.int .i64 N),(4,.int .i64 h),(12,.ptr 112 0),(13,.ptr 113 0),(17,.ptr 117 0),(18,.int .i64 0)],ob8 c d b,[]⟩=some (.x 0,⟨[(3,.int .i64 N),(4,.int .i64 h),(12,.ptr 112 0)],ob8 c d b,[]⟩):=by
 have y:∀v:d9,∃F G H:Int,call U 25 [.agg c.sv,.str v,.int .i64 N] [] 0=some ⟨.int .i64 F,[],[]⟩/\call U 25 [.agg c.sv,.str v,.int .i64 h] [] 0=some ⟨.int .i64 G,[],[]⟩/\call U 25 [.agg d.sv,.str v,.int .i64 N] [] 0=some ⟨.int .i64 H,[],[]⟩/\¬F>G/\¬F>H:=fun v=>
  ⟨_,_,_,up (f25 c J v N),up (f25 c J v h),up (f25 d hd v N),by have:=L v;omega,by have:=O v;omega⟩
 obtain⟨a1,b1,c1,p1,p2,p3,W,Z⟩:=y [97,99,109,101];obtain⟨a2,b2,c2,q1,Q,q3,q4,q5⟩:=y [118,50];obtain⟨a3,b3,c3,T,s2,s3,s4,s5⟩:=y [120,45,121];have k1:af.wrap (0+1)=1:=by decide
 have E:af.wrap 1=1:=by decide
 have k2:af.wrap (1+1)=2:=by decide
 have I:af.wrap 2=2:=by decide
 have k3:af.wrap (2+1)=3:=by decide
 have C:af.wrap 3=3:=by decide
 clear y L O J hd;obtain⟨⟨au,th⟩,ms,ws⟩:=c;obtain⟨⟨du,dh⟩,dm,dw⟩:=d;cases b<;>
 ·simp only[Cat.sv,vns,ob8]at*
  rw[ai];simp only[go_sem,Q2,Q3,Q4,Q8,Qb,Qc,Qd,Qe,Qh,Qj,Qk,reduceCtorEq,reduceIte,US,p1,p2,p3,W,Z,tn,E];rw[ai];simp only[go_sem,Q2,Q3,Q4,Q8,Qb,Qc,Qd,Qe,Qh,Qj,Qk,reduceCtorEq,reduceIte,US,q1,Q,q3,q4,q5,tn,I];rw[ai];simp only[go_sem,Q2,Q3,Q4,Q8,Qb,Qc,Qd,Qe,Qh,Qj,Qk,reduceCtorEq,reduceIte,US,T,s2,s3,s4,s5,tn,C];rw[ai];simp only[go_sem,Q4,Qh,Qj,Qk,reduceIte]
theorem l8c(c d:Cat)(b:Bool)(J:mb c)(N T:Int)(Z:List Man)(i:Nat)(hi:i<Z.length)(hm:dx (Z.getD i mnz))(Q:∀w∈c.ws,w.frm<=N->w.man≠bX (Z.getD i mnz)):∀(n j:Nat),c.ws.length-j=n->j<=c.ws.length->
 run U (.loop Ik) ⟨[(3,.int .i64 N),(4,.int .i64 T),(12,.ptr 112 0),(19,.lst 7 (dn Z) .no),(20,.int .i64 i),(21,.int .i64 j)],ob8 c d b,[]⟩=some (.x 4,⟨[(3,.int .i64 N),(4,.int .i64 T),(12,.ptr 112 0),(19,.lst 7 (dn Z) .no),(20,.int .i64 i)],ob8 c d b,[]⟩):=by
 intro n;have a1:=J.nw;have I:=dY c.ws;have y:=cP Z;induction n with
 |zero=>
  intro j h0 h1;have hj:j=c.ws.length:=by omega
  rw[hj];obtain⟨⟨au,th⟩,ms,ws⟩:=c;obtain⟨⟨du,dh⟩,dm,dw⟩:=d;cases b<;>
  ·simp only[Cat.sv,vns,ob8]at*
   rw[ai];simp only[go_sem,Qe,Qh,Qj,Qk,reduceIte,I]
 |succ n ih=>
  intro j h0 h1;have E:j<c.ws.length:=by omega
  have O:=cg j (by omega);have hg:=gA c.ws j E;have h:=eO Z i hi;have hx:=J.w _ (bS c.ws wd0 j E);have F:=Q _ (bS c.ws wd0 j E);have C:=ih (j+1) (by omega) (by omega);generalize c.ws.getD j wd0=w at*;generalize Z.getD i mnz=m at*;have g1:=up (f32 m hm);have W:=up (f31 w.man (bX m) (by omega));clear ih J Q;generalize bX m=D at*;obtain⟨wm,wf⟩:=w;obtain⟨mv,m1,m2,m3,m4,me,mr⟩:=m;obtain⟨⟨au,th⟩,ms,ws⟩:=c;obtain⟨⟨du,dh⟩,dm,dw⟩:=d
  by_cases q:wf<=N
  ·have L:¬wm=D:=F q
   rw[decide_eq_false L]at W;cases b<;>
   ·simp only[Cat.sv,Man.sv,Wd.sv,vns,ob8]at*
    rw[ai];simp only[go_sem,Qb,Qc,Qd,Qe,Qh,Qi,Qj,Qk,reduceCtorEq,reduceIte,US,I,y,E,hi,hg,h,q,g1,zY,W,tj,O,C]
  ·cases b<;>
   ·simp only[Cat.sv,Man.sv,Wd.sv,vns,ob8]at*
    rw[ai];simp only[go_sem,Q9,Qa,Qb,Qc,Qd,Qe,Qf,Qg,Qh,Qi,Qj,Qk,reduceCtorEq,reduceIte,US,I,y,E,hi,hg,h,q,O,C]
theorem l8b(c d:Cat)(b:Bool)(Q:mb c)(N y:Int)(hN:N<=y):∀(n i:Nat),(iM c y).length-i=n->i<=(iM c y).length->
 ∃ob,run U (.loop Ij) ⟨[(3,.int .i64 N),(4,.int .i64 y),(12,.ptr 112 0),(19,.lst 7 (dn (iM c y)) .no),(20,.int .i64 i)],ob8 c d b,[]⟩=some (.x 2,⟨[],ob,[]⟩):=by
 intro n;have a2:(iM c y).length<=c.ms.length:=List.length_filter_le _ _;have a1:=Q.nm;have I:=cP (iM c y);induction n with
 |zero=>
  intro i h0 h1;have hi:i=(iM c y).length:=by omega
  refine⟨ob8 c d b, ?_⟩;rw[hi];generalize iM c y=Z at*;obtain⟨⟨au,th⟩,ms,ws⟩:=c;obtain⟨⟨du,dh⟩,dm,dw⟩:=d;cases b<;>
  ·simp only[Cat.sv,vns,ob8]at*
   rw[ai];simp only[go_sem,Q0,Q1,Q2,Q3,Q4,Q5,Q6,Q7,Q8,Q9,Qa,Qb,Qc,Qd,Qe,Qf,Qg,Qh,Qi,Qj,Qk,reduceCtorEq,reduceIte,I]
 |succ n T=>
  intro i h0 h1;have J:i<(iM c y).length:=by omega
  have e1:=cg i (by omega);have L:=eO (iM c y) i J;obtain⟨f1,f2,f3,f4,W⟩:=HH (bS (iM c y) mnz i J);have C:=Q.m _ f1;have g1:=up (f25 c (by omega) ((iM c y).getD i mnz).vendor y);have E:=l8c c d b Q N y (iM c y) i J C (fun w hw h=>W w hw (by omega)) _ 0 rfl (aX _);rw[ay]at E;obtain⟨ob,O⟩:=T (i+1) (by omega) (by omega);refine⟨ob, ?_⟩;clear T W C;generalize iM c y=Z at*;generalize Z.getD i mnz=m at*;generalize flr c.ms m.vendor y=F at*;have n1:¬m.ver<F:=by omega
  have n2:¬m.frm>y:=by omega
  have n3:¬m.til<=y:=by omega
  obtain⟨mv,m1,m2,m3,m4,me,mr⟩:=m;obtain⟨⟨au,th⟩,ms,ws⟩:=c;obtain⟨⟨du,dh⟩,dm,dw⟩:=d;cases b<;>
  ·simp only[Cat.sv,Man.sv,vns,ob8]at*
   rw[ai];simp only[go_sem,Q0,Q1,Q2,Q3,Q4,Q5,Q6,Q7,Q8,Q9,Qa,Qb,Qc,Qd,Qe,Qf,Qg,Qh,Qi,Qj,Qk,reduceCtorEq,reduceIte,US,I,J,L,g1,tn,n1,n2,n3,E,e1,O]
theorem f8(W O b6:d9)(F y:Int)(n1: -9223372036854775808<=F)(n2:F<=9223372036854775807)(l1: -9223372036854775808<=y)(l2:y<=9223372036854775807):
 call U 8 [.byt W .no,.byt O .no,.byt b6 .no,.int .i64 F,.int .i64 y] [] 0=some ⟨.bool true,[],[]⟩:=by
 have g9:=f9;have d5:=up xof;obtain⟨ch,a7,b0⟩:=f15 O;replace b0:=up b0;obtain⟨L,b3,d4,T⟩:=f14 W ch a7 6 (by decide);replace T:=up T;rw[show((6:Nat):Int)=6 from rfl]at T;obtain⟨X,I,a6,C⟩:=f14 b6 ch a7 1 (by decide);replace C:=up C;rw[show((1:Nat):Int)=1 from rfl]at C;have d3:=up (f23 (trL 0 0) L b3 (by omega));have hD:=uL (k:=0) (thr:=0) (by decide) L 0 _ b3 (by omega) (K1 (by decide) 0);generalize L.foldl qY (o4 (trL 0 0)).1=c at*;have e2:=up f24;have b5:=up (f21 F 40 n1 n2 (by decide));have b4:=up (f21 y 20 l1 l2 (by decide));have b1:=jG F 40 (by decide);have b2:=jG y 20 (by decide);generalize gO F 40=N at*;generalize gO y 20=K at*;have eL:af.wrap (N+K)=N+K:=w64 (by omega) (by omega);have a8:N<=N+K:=by omega
 have J:=hD.s.ok.bd;have d6:=up (f28 c J (N+K));have c7:c.ms.length<=1000000:=by have:=J.nm;omega
 have b7:=lK X
 match X,I,a6,b7 with
 |[],I,a6,b7=>have a1:=l8a c c false N (N+K) c7 c7 (fun v=>rZ v a8 (fun m h=>h)) (fun v=>Int.le_refl _);obtain⟨ob,a2⟩:=l8b c c false J N (N+K) a8 _ 0 rfl (aX _);clear hD J b3 d4 I a7;rw[ay]at a2;have d0:ou []=[]:=rfl;rw[d0]at C;generalize iM c (N+K)=Z at*;generalize c5:N+K=La at*;generalize trL 0 0=t at*;obtain⟨au,th⟩:=t;obtain⟨⟨ca,ct⟩,cm,cw⟩:=c;simp only[Cat.sv,Tr.sv,vns,ob8]at*;rw[aj U_8];simp only[go_sem,Q2,Q3,Q4,Qe,Qg,Qh,Qi,Qj,Qk,reduceCtorEq,reduceIte,US,g9,S_9,b0,xiQ,d5,Gy,T,xiT,d3,xiA,C,b5,uU,b4,c5,eL,e2,uT,a1,d6,xa2,a2]
 |[x],I,a6,b7=>
  have hx:=I x aB;obtain⟨e0,e1,m1,m2⟩:=Gg (by decide) (by omega) hD hx;have d2:=f19 c hD.s.ok x.body (gN 7 x.body) (zT hx);change call U 19 _ _ _=some ⟨fQ (oY c x),[],[]⟩at d2;have d7:(oY c x).1.ms.length<=1000000:=by have:=e1.s.ok.bd.nm;omega
  have c3:∀v,flr c.ms v N<=flr (oY c x).1.ms v N:=fun v=>rZ v (Int.le_refl _) m1
  have d1:ou [x]=[cU x.body (gN 7 x.body)]:=rfl;rw[d1]at C;clear m1 m2 e1;generalize x.body=E at*;generalize gN 7 E=S at*;generalize oY c x=Q at*;obtain⟨d,e⟩:=Q;simp only at e0 c3 d7;subst e0;have a1:=l8a c d true N (N+K) c7 d7 (fun v=>rZ v a8 (fun m h=>h)) c3;obtain⟨ob,a2⟩:=l8b c d true J N (N+K) a8 _ 0 rfl (aX _);clear hD J b3 d4 I a7 c3 hx;rw[ay]at a2;generalize iM c (N+K)=Z at*;generalize c5:N+K=La at*;generalize trL 0 0=t at*;obtain⟨au,th⟩:=t;obtain⟨⟨ca,ct⟩,cm,cw⟩:=c;obtain⟨⟨da,dt⟩,dm,dw⟩:=d;simp only[Cat.sv,Tr.sv,vns,ob8,fQ,cU]at*;rw[aj U_8];simp only[go_sem,Q2,Q3,Q4,Qb,Qc,Qd,Qe,Qg,Qh,Qi,Qj,Qk,reduceCtorEq,reduceIte,US,g9,S_9,b0,xiQ,d5,Gy,T,xiT,d3,xiA,C,d2,xvR,b5,uU,b4,c5,eL,e2,uT,a1,d6,xa2,a2]
 |_::_::_,_,a6,_=>simp at a6
end Go.Proofs.YtbfnljmmepcbfaaGreatDoor
