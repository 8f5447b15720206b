/- Contracts. No condition. -/
import Derived.Test.YtdafipacemgcoaaGreatDoorTmMD
import Derived.Test.YtdafipacemgcoaaGreatDoorTnMD
import Derived.Test.YtdafipacemgcoaaGreatDoorToMD
open List renaming length_set -> cw, mem_singleton -> aN, take_of_length_le -> cg
set_option maxRecDepth 100000
set_option maxHeartbeats 16000000
set_option linter.unusedSimpArgs false
set_option linter.unusedVariables false
namespace Go.Proofs.YtdafipacemgcoaaGreatDoor
open Go.Sy
open UInt8 renaming reduceLT -> Q0, reduceLE -> Q1
open Int renaming reduceToNat -> Q2, reduceLE -> Q3, reduceLT -> Q4, reduceEq -> Q5, reduceNe -> Q6, reduceNeg -> Q7, reduceAdd -> Q8, reduceSub -> Q9, reduceMul -> Qa
open Nat renaming reducePow -> Qb, reduceDiv -> Qc, reduceMod -> Qd, reduceAdd -> Qe, reduceSub -> Qf, reduceMul -> Qg, reduceLT -> Qh, reduceLeDiff -> Qi, reduceEqDiff -> Qj, reduceBEq -> Qk
def Eo(x y:t6):Bool:= !decide (x=y)&&decide (sha x=sha y)
theorem f32(x y:t6)(H:x.length<=100000000000)(C:y.length<=100000000000):call T 32 [.byt x .no,.byt y .no,.int .i64 32] [] 0=some ⟨.bool (Eo x y),[],[]⟩:=by
 have g:=f25 x y (by omega);have z:=f80 x H;have E:=f80 y C;have s1:=eZ x;have s2:=eZ y;have F:=f25 (sha x) (sha y) (by omega);have I:(sha x).take 32=sha x:=cg (by omega);have B:(sha y).take 32=sha y:=cg (by omega);rw[az xle];unfold Eo;generalize sha x=p at*;generalize sha y=q at*
 by_cases h:x=y
 ·rw[decide_eq_true h]at g ⊢
  simp only[go_sem,Q0,Q1,Q2,Q3,Q4,Q5,Q6,Q7,Q8,Q9,Qa,Qb,Qc,Qd,Qe,Qf,Qg,Qh,Qi,Qj,Qk,reduceCtorEq,reduceIte,g,xiR]
 ·rw[decide_eq_false h]at g ⊢
  simp only[go_sem,Q0,Q1,Q2,Q3,Q4,Q5,Q6,Q7,Q8,Q9,Qa,Qb,Qc,Qd,Qe,Qf,Qg,Qh,Qi,Qj,Qk,reduceCtorEq,reduceIte,g,xiR,z,E,Et,s1,s2,I,B,F]
theorem OG(l:List Img)(i:Nat)(y:Img):(eP l).set i y.sv=eP (l.set i y):=by unfold eP;rw[List.map_set]
theorem uw(n m:Int)(h:1<=m):0<=me n m/\me n m<m:=by
 unfold me;rw[if_neg (by omega)];have z:=Int.tmod_lt_of_pos n (show(0:Int)<m by omega)
 have B: -m<n.tmod m:=by have:=Int.lt_tmod_of_pos n (show(0:Int)<m by omega);exact this
 split<;>constructor<;>omega
theorem FK(n:Int)(m:Nat)(h:0<m):∃k:Nat,me n m=k/\k<m:=by obtain⟨z,B⟩:=uw n m (by omega);exact⟨(me n m).toNat,by omega,by omega⟩
theorem MS{l:List Img}(h:cd l)(a:Int):nA (evF l a):=by have hn:=(P3 h a).2;refine⟨by omega,fun e z=> ?_⟩;have:=xf5 h a e z;exact⟨this.d2,by have:=this.b;omega,by have:=this.d0;omega,by have:=this.d1;omega⟩
theorem Ck{l:List Img}(B:cd l):p6 [pX l]:=by refine⟨show(1:Nat)<=1000000 by decide,fun m E=> ?_⟩;obtain rfl:=aN.1 E;have h:=Cl B;exact⟨show(4:Nat)<=1000000 by decide,by have:=h.len;show(gO l []).length<=_;omega,show(1:Nat)<=1000000 by decide,fun x C=>by have:=h.e x C;omega,fun r z=>by rw[aN.1 z];decide⟩
theorem f9(z:t6)(H B:Int)(b:UInt8)(h0: -9223372036854775808<=H)(h1:H<=9223372036854775807)(a0: -9223372036854775808<=B)(a1:B<=9223372036854775807):
 call T 9 [.byt z .no,.int .i64 H,.int .i64 B,.u8 b] [] 0=some ⟨.bool true,[],[]⟩:=by
 have ga:=f10;obtain⟨l,E,O,g⟩:=xjV z;have gs:=f29 H h0 h1;have hm:=uw H 2 (by decide);have ha:2+me H 2=2\/2+me H 2=3:=by omega
 generalize 2+me H 2=a at*;have Q:vd a:=by rcases ha with rfl|rfl;exact .inr (.inl rfl);exact .inr (.inr rfl)
 have n8:=E.n8;have n1:=E.n1;have gd:=xjU l (by omega) [97,99,109,101] 1;rw[wC E]at gd;have ge:=f31 l E a Q;have gx:=f12 a 0 (evF l a) (MS E a) [pX l] (Ck E);obtain⟨⟨p1,p2⟩,W⟩:=O7 ha E O;have gm:=f18 B (l.length:Int) a0 a1 (by omega);obtain⟨i,ei,hi⟩:=FK B l.length (by omega);rw[ei]at gm;have W:=W i b hi;have C:=E.ok i hi;obtain⟨u1,u2⟩:=gV C;have gi:=f33 (l.getD i im0) u1 u2;have a2:=OG l i (chg (l.getD i im0) b);have a3:=eO l i hi;have I:=eO (l.set i (chg (l.getD i im0) b)) i (by rw[cw];exact hi);rw[eD l i _ hi,if_pos rfl]at I;have U:=dx l;have J:=dx (l.set i (chg (l.getD i im0) b));rw[cw,<-U]at J;have ey:=yb C
 have gj:¬(l.getD i im0).role=4->call T 33 [.agg (chg (l.getD i im0) b).sv] [] 0=some ⟨.byt (dl (chg (l.getD i im0) b)) .no,[],[]⟩:=fun h=>by obtain⟨v1,v2⟩:=gV (ey h (O i hi h) b);exact f33 _ v1 v2
 have gc:¬(l.getD i im0).role=4->call T 32 [.byt (dl (l.getD i im0)) .no,.byt (dl (chg (l.getD i im0) b)) .no,.int .i64 32] [] 0=some ⟨.bool (Eo (dl (l.getD i im0)) (dl (chg (l.getD i im0) b))),[],[]⟩:=fun h=>by obtain⟨v1,v2⟩:=gV (ey h (O i hi h) b);have e1:=jc _ u1 u2;have e2:=jc _ v1 v2;exact f32 _ _ (by omega) (by omega)
 have L:¬(l.getD i im0).role=4->Eo (dl (l.getD i im0)) (dl (chg (l.getD i im0) b))=false->¬sha (dl (chg (l.getD i im0) b))=sha (dl (l.getD i im0)):=fun h F hq=>by have hn:=QH C h (O i hi h) b;unfold Eo at F;rw[decide_eq_false (fun e=>hn e.symm),decide_eq_true hq.symm]at F;exact absurd F (by decide)
 have S:¬(l.getD i im0).role=4->cd (l.set i (chg (l.getD i im0) b)):=fun h=>re E (ey h (O i hi h) b) rfl rfl
 have gy:¬(l.getD i im0).role=4->call T 31 [.lst 4 (eP (l.set i (chg (l.getD i im0) b))) .no,.int .i64 a] [] 0=some ⟨.lst 4 (eG (evF (l.set i (chg (l.getD i im0) b)) a)) .no,[],[]⟩:=fun h=>f31 _ (S h) a Q
 have gz:=fun h=>f12 a 0 (evF (l.set i (chg (l.getD i im0) b)) a) (MS (S h) a) [pX l] (Ck E)
 unfold exS at gx gz;rw[p1]at gx
 have Z:∀h,Eo (dl (l.getD i im0)) (dl (chg (l.getD i im0) b))=false->_:=fun h F=>by have k:=gz h;rw[(W h (L h F)).1]at k;exact k
 exact f9k z H B b a (eP l) (eP (l.set i (chg (l.getD i im0) b))) (by omega) i (by omega) (l.getD i im0).role (l.getD i im0).ver (l.getD i im0).name (l.getD i im0).pay (by omega) a3 a2 I J
  (cO (gO l [])) (eG (evF l a)) (eG (evF (l.set i (chg (l.getD i im0) b)) a)) (rsv (exV (evF l a) [pX l]).rs) (rsv (exV (evF (l.set i (chg (l.getD i im0) b)) a) [pX l]).rs)
  (((exV (evF l a) [pX l]).at':Nat):Int) (((exV (evF (l.set i (chg (l.getD i im0) b)) a) [pX l]).at':Nat):Int) (dl (l.getD i im0)) (dl (chg (l.getD i im0) b)) (Eo (dl (l.getD i im0)) (dl (chg (l.getD i im0) b)))
  ga g gs gd ge gx (by omega) (by rw[U];exact gm) gi gj gc (fun h _=>gy h) (fun h F=>Z h F) (fun h F=>by rw[(W h (L h F)).2];split<;>rfl)
end Go.Proofs.YtdafipacemgcoaaGreatDoor
