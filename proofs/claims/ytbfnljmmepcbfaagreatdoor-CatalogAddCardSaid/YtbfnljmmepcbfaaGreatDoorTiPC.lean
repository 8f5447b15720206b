/- Contracts. No condition. -/
import Derived.Test.YtbfnljmmepcbfaaGreatDoorTgPC
open List renaming length_take -> an, map_take -> fN, take_of_length_le -> aT
open Nat renaming zero_le -> aY
set_option maxRecDepth 100000
set_option maxHeartbeats 16000000
set_option linter.unusedSimpArgs false
set_option linter.unusedVariables false
namespace Go.Proofs.YtbfnljmmepcbfaaGreatDoor
open Go.Sy
open UInt8 renaming reduceLT -> Q0, reduceLE -> Q3
open Int renaming reduceToNat -> Q4, reduceLE -> Q5, reduceLT -> Q6, reduceEq -> Q7, reduceNe -> Q8, reduceNeg -> Q9, reduceAdd -> Qa, reduceSub -> Qb, reduceMul -> Qc
open Nat renaming reducePow -> Qd, reduceDiv -> Qe, reduceMod -> Qf, reduceAdd -> Qg, reduceSub -> Qh, reduceMul -> Qi, reduceLT -> Qj, reduceLeDiff -> Qk, reduceEqDiff -> Ql, reduceBEq -> Qm
theorem f18(B:d9)(n:Nat)(h:n<=1000):call T 18 [.byt B .no,.int .i64 n] [] 0=some ⟨.byt (B.take n) .no,[],[]⟩:=by
 rw[aj xy8]
 by_cases F:n<B.length
 ·have y:(n:Int)<(B.length:Int):=by omega
  have C:n<=B.length:=by omega
  simp only[go_sem,Q4,Q5,Qg,Qj,Qk,Ql,Qm,reduceCtorEq,reduceIte,y,C]
 ·have y:¬(n:Int)<(B.length:Int):=by omega
  have E:B.take n=B:=aT (by omega);simp only[go_sem,Q4,Q5,Qg,Qj,Qk,Ql,Qm,reduceCtorEq,reduceIte,y,E]
theorem HQ(ms:List Mk)(k:Nat):(jz ms).take k=jz (ms.take k):=by simp[jz,fN]
theorem U_4:U.fn 4=some (.code F4):=LH.fn 4 _ T_4
theorem xkN(c:CSt):run U xw c=run U IZ c:=rfl
attribute [go_sem] xkN
theorem cc8:((8:Nat):Int)=8:=rfl
theorem cc9:((9:Nat):Int)=9:=rfl
noncomputable def st4(t:Tr)(raw:d9)(l:List Itm)(c:Cat)(W:d9)(j i:Nat):CSt:=
 ⟨[(5,.byt raw .no),(14,.lst 2 (pH l) .no),(15,.ptr 115 0),(17,.ptr 117 0),(19,.ptr 51100 0),(20,.int .i64 i)],[(113,.rc t.sv),(115,.rc c.sv),(117,.rc c.sv),(51100,aX W j)],[]⟩
theorem s4(t:Tr)(raw:d9)(l:List Itm)(hd:DcS l)(hl:l.length<=1000)(W:d9)(hW:W.length<=1000)(c:Cat)(hc:w6 c)(j i:Nat)(hi:i<l.length):
 ∃(c':Cat)(j':Nat),w6 c'/\run U (.loop xw) (st4 t raw l c W j i)=run U (.loop xw) (st4 t raw l c' W j' (i+1)):=by
 obtain⟨k,j1,hk,g1⟩:=ku W hW j l.length (by omega);obtain⟨k8,j2,a8,T⟩:=ku W hW j1 8 (by omega);rw[cc8]at T;obtain⟨k9,j3,b0,J⟩:=ku W hW j2 9 (by omega);rw[cc9]at J;replace g1:=up g1;replace T:=up T;replace J:=up J;have hg:=sC l k hk;have hx:=hd _ (bP l (.w wd0) k hk);have hv:=iB l;have e1:=cr i (by omega);generalize l.getD k (.w wd0)=x at*;have a6:=sG hx;have a1:=up (f18 raw 60 (by decide));rw[show((60:Nat):Int)=60 from rfl]at a1;have a7:(raw.take 60).length<=100000000:=by rw[an];omega
 have C:=fy (gi 7 x.body);have a2:=HQ (gi 7 x.body) k8;generalize x.body=E at*;generalize gi 7 E=S at*;generalize raw.take 60=R at*
 have hA:∀(B:d9)(ms:List Mk),B.length<=100000000->∃Q:Cat×Int,w6 (if Q.2=0 then Q.1 else c)/\call U 19 [.agg c.sv,.agg (cJ B ms)] [] 0=some ⟨fk Q,[],[]⟩/\call U 20 [.agg c.sv,.agg (cJ B ms)] [] 0=some ⟨fk Q,[],[]⟩/\call U 13 [.agg Q.1.sv,.agg Q.1.sv] [] 0=some ⟨.bool true,[],[]⟩:=fun B ms hB=>by
  refine⟨kQ c B ms, ?_,f19 c hc.ok B ms hB,up (f20 c hc.ok B ms hB),up (xva (CZ hc B ms))⟩;split
  ·exact CZ hc B ms
  ·exact hc
 clear hd hx hc
 by_cases p1:k8<S.length
 ·have y:(k8:Int)<(S.length:Int):=by omega
  have I:k8<=S.length:=by omega
  by_cases p2:k9=8
  ·obtain⟨Q,hQ,q1,O,L⟩:=hA R (S.take k8) a7
   refine⟨_,j3,hQ, ?_⟩;subst p2;rw[cc8]at J;obtain⟨⟨⟨qa,qt⟩,qm,qw⟩,qe⟩:=Q;obtain⟨⟨au,th⟩,ms,ws⟩:=c;obtain⟨ta,tt⟩:=t;unfold st4;clear hQ hA
   by_cases F:qe=0
   ·subst F
    simp only[Cat.sv,Tr.sv,fk,cJ,aX,reduceIte]at*
    conv=>lhs;rw[ai]
    simp only[go_sem,Q4,Q5,Qd,Qe,Qf,Qg,Qi,Qj,Qk,Ql,Qm,reduceCtorEq,reduceIte,US,hv,hi,g1,gO,hk,hg,T,C,y,I,a2,J,a1,xiH,q1,Ad,O,GP,L,BG,e1]
   ·simp only[Cat.sv,Tr.sv,fk,cJ,aX,if_neg F]at*
    conv=>lhs;rw[ai]
    simp only[go_sem,Q4,Q5,Qd,Qe,Qf,Qg,Qi,Qj,Qk,Ql,Qm,reduceCtorEq,reduceIte,US,hv,hi,g1,gO,hk,hg,T,C,y,I,a2,J,a1,xiH,q1,Ad,O,GP,L,BG,F,e1]
  ·have Z:¬(k9:Int)=8:=by omega
   obtain⟨Q,hQ,q1,O,L⟩:=hA E (S.take k8) a6;refine⟨_,j3,hQ, ?_⟩;obtain⟨⟨⟨qa,qt⟩,qm,qw⟩,qe⟩:=Q;obtain⟨⟨au,th⟩,ms,ws⟩:=c;obtain⟨ta,tt⟩:=t;unfold st4;clear hQ hA
   by_cases F:qe=0
   ·subst F
    simp only[Cat.sv,Tr.sv,fk,cJ,aX,reduceIte]at*
    conv=>lhs;rw[ai]
    simp only[go_sem,Q4,Q5,Qd,Qe,Qf,Qg,Qi,Qj,Qk,Ql,Qm,reduceCtorEq,reduceIte,US,hv,hi,g1,gO,hk,hg,T,C,y,I,a2,J,Z,q1,Ad,O,GP,L,BG,e1]
   ·simp only[Cat.sv,Tr.sv,fk,cJ,aX,if_neg F]at*
    conv=>lhs;rw[ai]
    simp only[go_sem,Q4,Q5,Qd,Qe,Qf,Qg,Qi,Qj,Qk,Ql,Qm,reduceCtorEq,reduceIte,US,hv,hi,g1,gO,hk,hg,T,C,y,I,a2,J,Z,q1,Ad,O,GP,L,BG,F,e1]
 ·have y:¬(k8:Int)<(S.length:Int):=by omega
  by_cases p2:k9=8
  ·obtain⟨Q,hQ,q1,O,L⟩:=hA R S a7
   refine⟨_,j3,hQ, ?_⟩;subst p2;rw[cc8]at J;obtain⟨⟨⟨qa,qt⟩,qm,qw⟩,qe⟩:=Q;obtain⟨⟨au,th⟩,ms,ws⟩:=c;obtain⟨ta,tt⟩:=t;unfold st4;clear hQ hA
   by_cases F:qe=0
   ·subst F
    simp only[Cat.sv,Tr.sv,fk,cJ,aX,reduceIte]at*
    conv=>lhs;rw[ai]
    simp only[go_sem,Q4,Q5,Qd,Qe,Qf,Qg,Qi,Qj,Qk,Ql,Qm,reduceCtorEq,reduceIte,US,hv,hi,g1,gO,hk,hg,T,C,y,J,a1,xiH,q1,Ad,O,GP,L,BG,e1]
   ·simp only[Cat.sv,Tr.sv,fk,cJ,aX,if_neg F]at*
    conv=>lhs;rw[ai]
    simp only[go_sem,Q4,Q5,Qd,Qe,Qf,Qg,Qi,Qj,Qk,Ql,Qm,reduceCtorEq,reduceIte,US,hv,hi,g1,gO,hk,hg,T,C,y,J,a1,xiH,q1,Ad,O,GP,L,BG,F,e1]
  ·have Z:¬(k9:Int)=8:=by omega
   obtain⟨Q,hQ,q1,O,L⟩:=hA E S a6;refine⟨_,j3,hQ, ?_⟩;obtain⟨⟨⟨qa,qt⟩,qm,qw⟩,qe⟩:=Q;obtain⟨⟨au,th⟩,ms,ws⟩:=c;obtain⟨ta,tt⟩:=t;unfold st4;clear hQ hA
   by_cases F:qe=0
   ·subst F
    simp only[Cat.sv,Tr.sv,fk,cJ,aX,reduceIte]at*
    conv=>lhs;rw[ai]
    simp only[go_sem,Q4,Q5,Qd,Qe,Qf,Qg,Qi,Qj,Qk,Ql,Qm,reduceCtorEq,reduceIte,US,hv,hi,g1,gO,hk,hg,T,C,y,J,Z,q1,Ad,O,GP,L,BG,e1]
   ·simp only[Cat.sv,Tr.sv,fk,cJ,aX,if_neg F]at*
    conv=>lhs;rw[ai]
    simp only[go_sem,Q4,Q5,Qd,Qe,Qf,Qg,Qi,Qj,Qk,Ql,Qm,reduceCtorEq,reduceIte,US,hv,hi,g1,gO,hk,hg,T,C,y,J,Z,q1,Ad,O,GP,L,BG,F,e1]
theorem l4(t:Tr)(raw:d9)(l:List Itm)(hd:DcS l)(I:l.length<=1000)(W:d9)(O:W.length<=1000):∀(n i:Nat)(c:Cat)(j:Nat),w6 c->l.length-i=n->i<=l.length->
 ∃ob,run U (.loop xw) (st4 t raw l c W j i)=some (.x 0,⟨[],ob,[]⟩):=by
 intro n;induction n with
 |zero=>
  intro i c j C E T;have hi:i=l.length:=by omega
  have Q:=iB l;rw[hi];refine⟨[(113,.rc t.sv),(115,.rc c.sv),(117,.rc c.sv),(51100,aX W j)], ?_⟩;obtain⟨⟨au,th⟩,ms,ws⟩:=c;obtain⟨Z,tt⟩:=t;unfold st4;simp only[Cat.sv,Tr.sv,aX];rw[ai];simp only[go_sem,Qj,Ql,Qm,reduceIte,Q]
 |succ n F=>intro i c j C E T;obtain⟨L,J,y,e⟩:=s4 t raw l hd I W O c C j i (by omega);rw[e];exact F (i+1) L J y (by omega) (by omega)
theorem f4(y C E:d9)(n thr:Int)(raw:d9)(n1: -9223372036854775808<=n)(n2:n<=9223372036854775807)(h1: -9223372036854775808<=thr)(h2:thr<=9223372036854775807):
 call U 4 [.byt y .no,.byt C .no,.byt E .no,.int .i64 n,.int .i64 thr,.byt raw .no] [] 0=some ⟨.bool true,[],[]⟩:=by
 have g9:=f9;obtain⟨k,hk, -,J⟩:=f10 n thr h1 h2 n1 n2;replace J:=up J;obtain⟨ch,T,I⟩:=f15 C;replace I:=up I;obtain⟨l,L,a2,F⟩:=f14 y ch T 7 (by decide);replace F:=up F;rw[show((7:Nat):Int)=7 from rfl]at F;have Z:=up (f11 (trL k thr));have a1:=up (f12 (trL k thr));have O:=up (f16 E 20);rw[show((20:Nat):Int)=20 from rfl]at O;have hW:(E.take 20).length<=1000:=by rw[an];omega
 generalize E.take 20=W at*;obtain⟨ob,hl⟩:=l4 (trL k thr) raw l L (by omega) W hW _ 0 (kI (trL k thr)).1 0 (UI _) rfl (aY _);have hE:(kI (trL k thr)).2=0:=by unfold kI;rw[if_pos (Ai k hk thr)]
 generalize kI (trL k thr)=Q at*;generalize trL k thr=t at*;clear L a2 T;obtain⟨⟨⟨qa,qt⟩,qm,qw⟩,qe⟩:=Q;obtain⟨ta,tt⟩:=t;simp only at hE;subst hE;unfold st4 at hl;simp only[Cat.sv,Tr.sv,fk,aX,c0]at*;rw[aj U_4];simp only[go_sem,Qg,Qi,Qj,Qk,Ql,Qm,reduceCtorEq,reduceIte,US,g9,S_9,J,xi8,I,xoD,F,xoE,Z,xi4,a1,xzj,O,xiO,hl]
end Go.Proofs.YtbfnljmmepcbfaaGreatDoor
