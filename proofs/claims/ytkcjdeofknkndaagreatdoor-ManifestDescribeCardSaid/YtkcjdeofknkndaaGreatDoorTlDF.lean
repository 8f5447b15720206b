/- Contracts. No condition. -/
import Derived.Test.YtkcjdeofknkndaaGreatDoorTfDF
import Derived.Test.YtkcjdeofknkndaaGreatDoorTiDF
open Int renaming natCast_zero -> aD
open Go.IntKind renaming i64 -> ai
open List renaming append_assoc -> ax, getD_eq_getElem?_getD -> aa, getElem?_take -> bE, length_append -> af, length_pos_iff -> mb, length_singleton -> aP, length_take -> aA, replicate -> ao
set_option maxRecDepth 100000
set_option maxHeartbeats 16000000
set_option linter.unusedSimpArgs false
set_option linter.unusedVariables false
namespace Go.Proofs.YtkcjdeofknkndaaGreatDoor
open Go.Sy
open UInt8 renaming reduceLT -> Q0, reduceLE -> Q1
open Int renaming reduceToNat -> Q2, reduceLE -> Q3, reduceLT -> Q4, reduceEq -> Q5, reduceNe -> Q6, reduceNeg -> Q7, reduceAdd -> Q8, reduceSub -> Q9, reduceMul -> Qa
open Nat renaming reducePow -> Qb, reduceDiv -> Qc, reduceMod -> Qd, reduceAdd -> Qe, reduceSub -> Qf, reduceMul -> Qg, reduceLT -> Qh, reduceLeDiff -> Qi, reduceEqDiff -> Qj, reduceBEq -> Qk
theorem xiB:bt BinOp.and ai (Int.fdiv 1 (2^min 0 64)) 1=1:=by decide
theorem xiA:bt BinOp.and ai (Int.fdiv 1 (2^min 1 64)) 1=0:=by decide
theorem xiz:bt BinOp.and ai (Int.fdiv 2 (2^min 0 64)) 1=0:=by decide
theorem xiy:bt BinOp.and ai (Int.fdiv 2 (2^min 1 64)) 1=1:=by decide
theorem xix:bt BinOp.and ai (Int.fdiv 3 (2^min 0 64)) 1=1:=by decide
theorem xiw:bt BinOp.and ai (Int.fdiv 3 (2^min 1 64)) 1=1:=by decide
theorem xkn(b:t6)(h:¬b=[])(y:b.length<=1000000):call T 140 [.byt b .no] [] 0=some ⟨.byt b .no,[],[]⟩:=by
 have c1:b.length<=140737488355328:=by omega
 rw[au xgk];simp only[go_sem,Q0,Q1,Q2,Q3,Q4,Q5,Q6,Q7,Q8,Q9,Qa,Qb,Qc,Qd,Qe,Qf,Qg,Qh,Qi,Qj,Qk,reduceCtorEq,reduceIte,h,c1]
theorem xkq(x:Img)(a:Int)(I:vi a)(h:dT x=0):call T 137 [.agg x.sv,.int .i64 a] [] 0=some ⟨.lst 1 (bls (nL (dN x) a)) .no,[],[]⟩:=by
 have g0:=xih x;have O:=sw x;have F:=xc1 (dN x) (by omega);have H:=f90 (dN x) (by omega);have z:¬dN x=[]:=fun e=>ml h (by rw[e];rfl)
 have C:0<(dN x).length:=mb.2 z;have y:(0:Int)<(dN x).length:=by omega
 have k1:ai.wrap 1=1:=rfl;have k2:ai.wrap 2=2:=rfl;obtain⟨E,J,L,p⟩:=x;simp only[Img.sv]at*;generalize dN ⟨E,J,L,p⟩=b at*;rw[au xgn];unfold nL bls;rw[if_neg z];rcases I with rfl|rfl|rfl<;>
 ·simp only[go_sem,Q0,Q1,Q2,Q3,Q4,Q5,Q6,Q7,Q8,Q9,Qa,Qb,Qc,Qd,Qe,Qf,Qg,Qh,Qi,Qj,Qk,reduceCtorEq,reduceIte,g0,xc9,ao]
  iterate 3
   rw[al];simp only[go_sem,Q0,Q1,Q2,Q3,Q4,Q5,Q6,Q7,Q8,Q9,Qa,Qb,Qc,Qd,Qe,Qf,Qg,Qh,Qi,Qj,Qk,reduceCtorEq,reduceIte,k1,k2,C,y,F,H,sT,fA,ao,sm,xiB,xiA,xiz,xiy,xix,xiw]
theorem f97(x:Img)(a:Int)(U:vi a)(h:dT x=0)(C:¬x.role=4):call T 97 [.agg x.sv,.int .i64 a] [] 0=some ⟨.agg (ofI x a).sv,[],[]⟩:=by
 obtain⟨H,F,O,q4,q5,q6⟩:=iz h;have hn:=(kU h).1;have g0:=X9 x;have L:=f33 x.role;have I:=xkq x a U h;obtain⟨v,E⟩:=Int.eq_ofNat_of_zero_le O;have J:=f78 v (by omega);rw[h]at g0;have hl:=kg 6 v (by omega);obtain⟨ro,y,ve,p⟩:=x;simp only at E C H F hn;subst E;have c1:(y++([32]++dec v)).length<=140737488355328:=by rw[af,af,aP];omega
 have c2:y.length<=9223372036854775806:=by omega
 have W:(dec v).length<=9223372036854775806-y.length:=by omega
 have Q:y.length+(1+(dec v).length)<=140737488355328:=by omega
 have c5:y.length+1+(dec v).length<=9223372036854775807:=by omega
 have Z:y.length+1<=9223372036854775807-(dec v).length:=by omega
 have z:qR y (v:Int)=y++([32]++dec v):=rfl;unfold ofI;rw[z];simp only[Img.sv,Ev.sv]at*;rw[au xkR];simp only[go_sem,Q0,Q1,Q2,Q3,Q4,Q5,Q6,Q7,Q8,Q9,Qa,Qb,Qc,Qd,Qe,Qf,Qg,Qh,Qi,Qj,Qk,reduceCtorEq,reduceIte,g0,o9,C,L,wQ,I,xgX,J,xiQ,ax,c1,c2,W,Q,c5,Z]
theorem f99(reg kind a:Int)(data:t6)(C:vi a)(y:¬kind=5)(h:¬data=[])(hd:data.length<=1000000):call T 99 [.int .i64 reg,.int .i64 kind,.int .i64 a,.byt data .no] [] 0=some ⟨.agg (mkV reg kind a data).sv,[],[]⟩:=by
 have F:=xkn data h hd;have E:=xc1 data (by omega);have z:=f90 data (by omega);have k1:ai.wrap 1=1:=rfl;have k2:ai.wrap 2=2:=rfl;rw[au xkP];unfold mkV Ev.sv bls;rw[if_neg y];rcases C with rfl|rfl|rfl<;>
 ·simp only[go_sem,Q0,Q1,Q2,Q3,Q4,Q5,Q6,Q7,Q8,Q9,Qa,Qb,Qc,Qd,Qe,Qf,Qg,Qh,Qi,Qj,Qk,reduceCtorEq,reduceIte,F,xgW,ao]
  iterate 3
   rw[al];simp only[go_sem,Q0,Q1,Q2,Q3,Q4,Q5,Q6,Q7,Q8,Q9,Qa,Qb,Qc,Qd,Qe,Qf,Qg,Qh,Qi,Qj,Qk,reduceCtorEq,reduceIte,k1,k2,y,E,z,sT,fA,ao,sm,xiB,xiA,xiz,xiy,xix,xiw]
theorem xjy(l:List Img)(h:ej l)(Q:f8)(i:Nat)(hi:i<l.length):∀(n j:Nat),i-j=n->j<=i->
 run T (.loop xh) ⟨[(0,.lst 4 (dS l) .no),(3,.ptr 103 0),(5,.ptr 105 0),(17,.lst 4 (dS l) .no),(18,.int .i64 l.length),(19,.int .i64 i),(44,.lst 4 ((dS l).take i) .no),(45,.int .i64 i),(46,.int .i64 j)],[(103,.arr 1 Q),(105,.rc (l.getD i im0).sv)],[]⟩=
 some (.x 2,⟨[(0,.lst 4 (dS l) .no),(3,.ptr 103 0),(5,.ptr 105 0),(17,.lst 4 (dS l) .no),(18,.int .i64 l.length),(19,.int .i64 i)],[(103,.arr 1 Q),(105,.rc (l.getD i im0).sv)],[]⟩):=by
 intro n;induction n with
 |zero=>
  intro j h0 h1;have:j=i:=by omega
  subst this;generalize l.getD j im0=x at*;obtain⟨U,Z,ve,p⟩:=x;rw[al];simp only[Img.sv];simp only[go_sem,Q0,Q1,Q2,Q3,Q4,Q5,Q6,Q7,Q8,Q9,Qa,Qb,Qc,Qd,Qe,Qf,Qg,Qh,Qi,Qj,Qk,reduceCtorEq,reduceIte]
 |succ n ih=>
  intro j h0 h1;have F:j<i:=by omega
  have O:j<l.length:=by omega
  have W:=cA j (by have:=h.n8;omega);have z:=ih (j+1) (by omega) (by omega);have hv:=dY l;have E:((dS l).take i).length=i:=by rw[aA,hv];omega
  have C:((dS l).take i).getD j []=(l.getD j im0).sv:=by rw[aa,bE,if_pos F,<-aa];exact gA l j O
  have hd:=h.dup i hi j F;generalize (dS l).take i=I at*;rw[al];generalize l.getD i im0=x at*;generalize l.getD j im0=y at*;obtain⟨U,Z,ve,p⟩:=x;obtain⟨L,J,a0,p2⟩:=y;simp only[Img.sv]at*
  by_cases H:L=U
  ·have hn:¬J=Z:=hd H
   simp only[go_sem,Q0,Q1,Q2,Q3,Q4,Q5,Q6,Q7,Q8,Q9,Qa,Qb,Qc,Qd,Qe,Qf,Qg,Qh,Qi,Qj,Qk,reduceCtorEq,reduceIte,F,E,W,C,H,hn,z]
  ·simp only[go_sem,Q0,Q1,Q2,Q3,Q4,Q5,Q6,Q7,Q8,Q9,Qa,Qb,Qc,Qd,Qe,Qf,Qg,Qh,Qi,Qj,Qk,reduceCtorEq,reduceIte,F,E,W,C,H,z]
def snO(l:List Img)(i:Nat):aC:= .arr 1 [[.bool false],[.bool (iN l 1 i)],[.bool (iN l 2 i)],[.bool (iN l 3 i)],[.bool (iN l 4 i)]]
theorem l96(l:List Img)(h:ej l):∀(n i:Nat),l.length-i=n->i<=l.length->
 run T (.loop xg) ⟨[(0,.lst 4 (dS l) .no),(3,.ptr 103 0),(17,.lst 4 (dS l) .no),(18,.int .i64 l.length),(19,.int .i64 i)],[(103,snO l i)],[]⟩=
 some (.x 0,⟨[(3,.ptr 103 0)],[(103,snO l l.length)],[]⟩):=by
 intro n;induction n with
 |zero=>
  intro i h0 h1;have:i=l.length:=by omega
  subst this;rw[al];unfold snO;simp only[go_sem,Q0,Q1,Q2,Q3,Q4,Q5,Q6,Q7,Q8,Q9,Qa,Qb,Qc,Qd,Qe,Qf,Qg,Qh,Qi,Qj,Qk,reduceCtorEq,reduceIte]
 |succ n ih=>
  intro i h0 h1;have hi:i<l.length:=by omega
  have F:(i:Int)<(l.length:Int):=by omega
  have e1:=cA i (by have:=h.n8;omega);have z:=ih (i+1) (by omega) (by omega);have Z:=dY l;have hg:=gA l i hi;have I:=h.ok i hi;have g:=X9 (l.getD i im0);rw[I]at g
  have C:(l.getD i im0).role=1\/(l.getD i im0).role=2\/(l.getD i im0).role=3\/(l.getD i im0).role=4:=by obtain⟨r1,r2,_⟩:=iz I;omega
  have J:=xjy l h [[.bool false],[.bool (iN l 1 i)],[.bool (iN l 2 i)],[.bool (iN l 3 i)],[.bool (iN l 4 i)]] i hi _ 0 rfl (by omega);rw[aD]at J;unfold snO at z;rw[kD l 1 i hi,kD l 2 i hi,kD l 3 i hi,kD l 4 i hi]at z;unfold snO;have O:((dS l).take i).length=i:=by rw[aA,Z];omega
  have H:i<=l.length:=by omega
  have E:(i:Int)<=(l.length:Int):=by omega
  generalize iN l 1 l.length=z1 at*;generalize iN l 2 l.length=z2 at*;generalize iN l 3 l.length=z3 at*;generalize iN l 4 l.length=z4 at*;generalize iN l 1 i=q1 at*;generalize iN l 2 i=q2 at*;generalize iN l 3 i=q3 at*;generalize iN l 4 i=q4 at*
  by_cases W:i=0
  ·subst W
   generalize l.getD 0 im0=x at*;obtain⟨ro,na,ve,p⟩:=x;simp only at C;have c1:((0+1:Nat):Int)=1:=rfl;have kw:ai.wrap 1=1:=rfl;rw[c1]at z;rw[aD]at J F ⊢;rw[List.take_zero]at J;rw[al];rcases C with rfl|rfl|rfl|rfl<;>
   ·simp only[Img.sv,Bool.or_false,Bool.or_true,decide_true,decide_false,Int.reduceEq,eq_self]at*
    simp only[go_sem,Q0,Q1,Q2,Q3,Q4,Q5,Q6,Q7,Q8,Q9,Qa,Qb,Qc,Qd,Qe,Qf,Qg,Qh,Qi,Qj,Qk,reduceCtorEq,reduceIte,hi,F,kw,Z,O,H,E,hg,g,o9,J,fA,z]
  ·have hp:0<i:=by omega
   have a1:(0:Int)<(i:Nat):=by omega
   have es:ai.wrap ((i:Int)-1)=((i-1:Nat):Int):=by rw[w64 (by omega) (by have:=h.n8;omega)];omega
   have L:i-1<l.length:=by omega
   have Q:=gA l (i-1) L;have ho:=h.ord (i-1) (by omega);rw[show i-1+1=i from by omega]at ho;generalize l.getD i im0=x at*;generalize l.getD (i-1) im0=y at*;obtain⟨ro,na,ve,p⟩:=x;obtain⟨a0,a2,a3,p2⟩:=y;simp only at C ho;have U:¬ro<a0:=by omega
   rw[al];rcases C with rfl|rfl|rfl|rfl<;>
   ·simp only[Img.sv,Bool.or_false,Bool.or_true,decide_true,decide_false,Int.reduceEq,eq_self]at*
    simp only[go_sem,Q0,Q1,Q2,Q3,Q4,Q5,Q6,Q7,Q8,Q9,Qa,Qb,Qc,Qd,Qe,Qf,Qg,Qh,Qi,Qj,Qk,reduceCtorEq,reduceIte,hi,F,hp,a1,L,es,e1,Z,O,H,E,hg,Q,U,g,o9,J,fA,z]
theorem f96(l:List Img)(h:ej l):call T 96 [.lst 4 (dS l) .no] [] 0=some ⟨.int .i64 0,[],[]⟩:=by
 have g:=l96 l h _ 0 rfl (by omega);rw[aD]at g;unfold snO at g;have z1:iN l 1 0=false:=rfl;have C:iN l 2 0=false:=rfl;have y:iN l 3 0=false:=rfl;have z:iN l 4 0=false:=rfl;rw[z1,C,y,z,vd h.fw,vd h.kn]at g;have E:=dY l;have n1:=h.n1;have n8:=h.n8;have k1:¬(l.length:Int)=0:=by omega
 have k2:¬(8:Int)<l.length:=by omega
 rw[au xkS];simp only[go_sem,Q0,Q1,Q2,Q3,Q4,Q5,Q6,Q7,Q8,Q9,Qa,Qb,Qc,Qd,Qe,Qf,Qg,Qh,Qi,Qj,Qk,reduceCtorEq,reduceIte,E,k1,k2,g,ao]
end Go.Proofs.YtkcjdeofknkndaaGreatDoor
