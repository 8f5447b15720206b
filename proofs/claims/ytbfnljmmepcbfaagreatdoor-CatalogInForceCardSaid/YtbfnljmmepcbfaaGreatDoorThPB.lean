/- Contracts. No condition. -/
import Derived.Test.YtbfnljmmepcbfaaGreatDoorTgPB
open Go.IntKind renaming i64 -> af
set_option maxRecDepth 100000
set_option maxHeartbeats 16000000
set_option linter.unusedSimpArgs false
set_option linter.unusedVariables false
namespace Go.Proofs.YtbfnljmmepcbfaaGreatDoor
open Go.Sy
open UInt8 renaming reduceLT -> Q0, reduceLE -> Q1
open Int renaming reduceToNat -> Q2, reduceLE -> Q3, reduceLT -> Q4, reduceEq -> Q5, reduceNe -> Q6, reduceNeg -> Q7, reduceAdd -> Q8, reduceSub -> Q9, reduceMul -> Qa
open Nat renaming reducePow -> Qb, reduceDiv -> Qc, reduceMod -> Qd, reduceAdd -> Qe, reduceSub -> Qf, reduceMul -> Qg, reduceLT -> Qh, reduceLeDiff -> Qi, reduceEqDiff -> Qj, reduceBEq -> Qk
theorem U_6:U.fn 6=some (.code F6):=IW.fn 6 _ T_6
theorem xkK(c:CSt):run U In c=run U IJ c:=rfl
attribute [go_sem] xkK
theorem l6(c:Cat)(F:im c)(h:Int)(v:d9):run U (.loop In) ⟨[(2,.int .i64 h),(3,.str v),(11,.ptr 111 0),(12,.ptr 112 0),(13,.int .i64 0)],[(111,.rc c.sv),(112,vns)],[]⟩=
 some (.x 0,⟨[(2,.int .i64 h),(3,.str v),(11,.ptr 111 0)],[(111,.rc c.sv),(112,vns)],[]⟩):=by
 have hn:c.ms.length<=1000000:=by have:=F.n;omega
 have O:=up (f25 c hn [97,99,109,101] h);have I:=up (f25 c hn [118,50] h);have a3:=up (f25 c hn [120,45,121] h);have L:=up (f26 c hn [97,99,109,101] h);have b2:=up (f26 c hn [118,50] h);have J:=up (f26 c hn [120,45,121] h);have k1:af.wrap (0+1)=1:=by decide
 have E:af.wrap 1=1:=by decide
 have k2:af.wrap (1+1)=2:=by decide
 have y:af.wrap 2=2:=by decide
 have Q:af.wrap (2+1)=3:=by decide
 have C:af.wrap 3=3:=by decide
 clear F hn;obtain⟨⟨au,T⟩,ms,ws⟩:=c;simp only[Cat.sv,vns]at*;rw[ai];simp only[go_sem,Q2,Q3,Q4,Q8,Qb,Qc,Qd,Qe,Qh,Qj,Qk,reduceCtorEq,reduceIte,US,O,L,tn,Gx,E];rw[ai];simp only[go_sem,Q2,Q3,Q4,Q8,Qb,Qc,Qd,Qe,Qh,Qj,Qk,reduceCtorEq,reduceIte,US,I,b2,tn,Gx,y];rw[ai];simp only[go_sem,Q2,Q3,Q4,Q8,Qb,Qc,Qd,Qe,Qh,Qj,Qk,reduceCtorEq,reduceIte,US,a3,J,tn,Gx,C];rw[ai];simp only[go_sem,Q4,Qh,Qj,Qk,reduceIte]
theorem f6(I C:d9)(h:Int)(v:d9)(any:Bool)(n1: -9223372036854775808<=h)(n2:h<=9223372036854775807):
 call U 6 [.byt I .no,.byt C .no,.int .i64 h,.str v,.bool any] [] 0=some ⟨.bool true,[],[]⟩:=by
 have g9:=f9;have a6:=up xof;obtain⟨ch,a1,L⟩:=f15 C;replace L:=up L;obtain⟨l,a2,b0,E⟩:=f14 I ch a1 7 (by decide);replace E:=up E;rw[show((7:Nat):Int)=7 from rfl]at E;have W:=up (f23 (trL 0 0) l a2 (by omega));have T:=Z5 l (xL (trL 0 0));generalize l.foldl qY (o4 (trL 0 0)).1=c at*;have a7:=up f24;have a8:=up (f21 h 45 n1 n2 (by decide))
 have y:∀h:Int,∃Z:List Man,call U 28 [.agg c.sv,.int .i64 h] [] 0=some ⟨.lst 7 (dn Z) .no,[],[]⟩/\call U 29 [.agg c.sv,.int .i64 h] [] 0=some ⟨.lst 7 (dn Z) .no,[],[]⟩/\
  call U 27 [.lst 7 (dn Z) .no,.lst 7 (dn Z) .no] [] 0=some ⟨.bool true,[],[]⟩:=fun h=>
  ⟨iM c h,up (f28 c T.ok.bd h),up (f29 c T.ok.bd h),up (f27 _ (FV T.ok h).1 (FV T.ok h).2)⟩
 have hm:c.ms.length<=1000000:=by have:=T.ok.n;omega
 have Q:∀h:Int,call U 25 [.agg c.sv,.str v,.int .i64 h] [] 0=some ⟨.int .i64 (flr c.ms v h),[],[]⟩:=fun h=>up (f25 c hm v h)
 have J:∀h:Int,call U 26 [.agg c.sv,.str v,.int .i64 h] [] 0=some ⟨.int .i64 (flr c.ms v h),[],[]⟩:=fun h=>up (f26 c hm v h)
 have O:∀h:Int,_:=fun h=>l6 c T.ok h v
 clear T hm a2 b0 a1;cases any with
 |false=>obtain⟨Z,z1,z2,z3⟩:=y (gO h 45);have z4:=Q (gO h 45);have z5:=J (gO h 45);have z6:=O (gO h 45);clear y Q J O;generalize flr c.ms v (gO h 45)=F at*;generalize gO h 45=N at*;generalize trL 0 0=t at*;obtain⟨au,th⟩:=t;obtain⟨⟨ca,ct⟩,cm,cw⟩:=c;simp only[Cat.sv,Tr.sv,vns]at*;rw[aj U_6];simp only[go_sem,Qb,Qc,Qd,Qe,Qg,Qh,Qi,Qj,Qk,reduceCtorEq,reduceIte,US,g9,S_9,a8,uU,a6,Gy,L,xiQ,E,xiT,W,xiA,a7,uT,z6,z1,xa2,z2,xvP,z3,xov,z4,tn,z5,Gx]
 |true=>obtain⟨Z,z1,z2,z3⟩:=y h;have z4:=Q h;have z5:=J h;have z6:=O h;clear y Q J O;generalize flr c.ms v h=F at*;generalize trL 0 0=t at*;obtain⟨au,th⟩:=t;obtain⟨⟨ca,ct⟩,cm,cw⟩:=c;simp only[Cat.sv,Tr.sv,vns]at*;rw[aj U_6];simp only[go_sem,Qb,Qc,Qd,Qe,Qg,Qh,Qi,Qj,Qk,reduceCtorEq,reduceIte,US,g9,S_9,a6,Gy,L,xiQ,E,xiT,W,xiA,a7,uT,z6,z1,xa2,z2,xvP,z3,xov,z4,tn,z5,Gx]
end Go.Proofs.YtbfnljmmepcbfaaGreatDoor
