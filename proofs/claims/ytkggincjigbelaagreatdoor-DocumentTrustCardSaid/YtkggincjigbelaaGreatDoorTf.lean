/- What the functions come to. No condition. -/
import Derived.Test.YtkggincjigbelaaGreatDoorTc
open Int renaming fdiv_eq_ediv_of_nonneg -> m4, natCast_zero -> aJ
open Go.IntKind renaming i64 -> af
open List renaming drop_eq_getElem_cons -> c9, drop_length -> jf, getD_eq_getElem?_getD -> aa, getElem?_eq_getElem -> ab, getElem_mem -> bd, nil_append -> aQ
open Nat renaming mod_eq_of_lt -> cr
open Option renaming getD_some -> aV
set_option maxRecDepth 100000
set_option maxHeartbeats 16000000
set_option linter.unusedSimpArgs false
set_option linter.unusedVariables false
namespace Go.Proofs.YtkggincjigbelaaGreatDoor
open Go.Sy
open UInt8 renaming reduceLT -> Q0, reduceLE -> Q1
open Int renaming reduceToNat -> Q2, reduceLE -> Q3, reduceLT -> Q4, reduceEq -> Q5, reduceNe -> Q6, reduceNeg -> Q7, reduceAdd -> Q8, reduceSub -> Q9, reduceMul -> Qa
open Nat renaming reducePow -> Qb, reduceDiv -> Qc, reduceMod -> Qd, reduceAdd -> Qe, reduceSub -> Qf, reduceMul -> Qg, reduceLT -> Qh, reduceLeDiff -> Qi, reduceEqDiff -> Qj, reduceBEq -> Qk
theorem Zo(n:Nat)(h:n<4611686018427387904):bD .and .i64 (n:Int) 1=((n % 2:Nat):Int):=by
 have e1:(BitVec.ofNat 64 n&&&BitVec.ofNat 64 1).toNat=n % 2:=by rw[BitVec.toNat_and,BitVec.toNat_ofNat,BitVec.toNat_ofNat,cr (by omega)];exact Nat.and_one_is_mod n
 unfold bD;rw[show(1:Int)=((1:Nat):Int)from rfl];simp only[BitVec.ofInt_natCast];show af.wrap (((BitVec.ofNat 64 n&&&BitVec.ofNat 64 1).toNat:Nat):Int)=_;rw[e1];exact w64 (by omega) (by omega)
theorem RS(h i:Nat)(a b:List UInt8)(ha:a.length<=1000000)(hb:b.length<=1000000):call T 150 [.int .i64 h,.int .i64 i,.byt a .no,.byt b .no] [] 0=some ⟨.byt (gD h i a b) .no,[],[]⟩:=by have g:=t183 3 [ub h,ub i] a b (by simp) (by omega) (by omega);have hl:=gE 3 [[ub h,ub i],a,b];unfold ub at g hl;rw[ao Vc];simp only[go_sem,Q0,Q1,Q2,Q3,Q4,Q5,Q6,Q7,Q8,Q9,Qa,Qb,Qc,Qd,Qe,Qf,Qg,Qh,Qi,Qj,Qk,reduceCtorEq,reduceIte,g,xK,hl,c32,gD,h16,ub]
theorem Y1(h i:Nat)(a b:List UInt8)(ha:a.length<=1000000)(hb:b.length<=1000000):call T 179 [.int .i64 h,.int .i64 i,.byt a .no,.byt b .no] [] 0=some ⟨.byt (gD h i a b) .no,[],[]⟩:=by have g:=X0 3 [ub h,ub i] a b (by simp) (by omega) (by omega);have hl:=gE 3 [[ub h,ub i],a,b];unfold ub at g hl;rw[ao U9];simp only[go_sem,Q0,Q1,Q2,Q3,Q4,Q5,Q6,Q7,Q8,Q9,Qa,Qb,Qc,Qd,Qe,Qf,Qg,Qh,Qi,Qj,Qk,reduceCtorEq,reduceIte,g,Fe,hl,c32,gD,h16,ub]
theorem UG:call T 139 [.int .i64 1] [] 0=some ⟨.int .i64 0,[],[]⟩:=by rw[ao M7];simp only[go_sem,Q0,Q1,Q2,Q3,Q4,Q5,Q6,Q7,Q8,Q9,Qa,Qb,Qc,Qd,Qe,Qf,Qg,Qh,Qi,Qj,Qk,reduceCtorEq,reduceIte];rw[aq];simp (config:= {decide:=true}) only[go_sem,Q0,Q1,Q2,Q3,Q4,Q5,Q6,Q7,Q8,Q9,Qa,Qb,Qc,Qd,Qe,Qf,Qg,Qh,Qi,Qj,Qk,reduceCtorEq,reduceIte]
theorem MX:call T 139 [.int .i64 2] [] 0=some ⟨.int .i64 1,[],[]⟩:=by have k1:af.wrap 1=1:=rfl;rw[ao M7];simp only[go_sem,Q0,Q1,Q2,Q3,Q4,Q5,Q6,Q7,Q8,Q9,Qa,Qb,Qc,Qd,Qe,Qf,Qg,Qh,Qi,Qj,Qk,reduceCtorEq,reduceIte,k1];rw[aq];simp (config:= {decide:=true}) only[go_sem,Q0,Q1,Q2,Q3,Q4,Q5,Q6,Q7,Q8,Q9,Qa,Qb,Qc,Qd,Qe,Qf,Qg,Qh,Qi,Qj,Qk,reduceCtorEq,reduceIte,k1];rw[aq];simp (config:= {decide:=true}) only[go_sem,Q0,Q1,Q2,Q3,Q4,Q5,Q6,Q7,Q8,Q9,Qa,Qb,Qc,Qd,Qe,Qf,Qg,Qh,Qi,Qj,Qk,reduceCtorEq,reduceIte,k1]
theorem Zb(B:List UInt8)(h:B.length<=1000000000):call T 124 [.byt B .no] [] 0=some ⟨.byt B .no,[],[]⟩:=by
 have c1:0+B.length<=140737488355328:=by omega
 have c2:B.length<=140737488355328:=by omega
 rw[ao Vt];simp only[go_sem,Q0,Q1,Q2,Q3,Q4,Q5,Q6,Q7,Q8,Q9,Qa,Qb,Qc,Qd,Qe,Qf,Qg,Qh,Qi,Qj,Qk,reduceCtorEq,reduceIte,c1,c2,aQ]
theorem l95(P:List (List UInt8))(hP:P.length<=3)(hb:∀s∈P,s.length<=1000000):∀(n h i:Nat)(x:List UInt8)(q:Tok),P.length-h=n->h<=P.length->i<1000->x.length<=1000000->
 run T (.loop sh) ⟨[(1,.int .i64 i),(7,.byt x q),(29,.lst 1 (bys P) .no),(30,.int .i64 P.length),(31,.int .i64 h)],[],[128]⟩=
 some (.x 0,⟨[(7,.byt (mZ h i (P.drop h) x) (if h=P.length then q else .no))],[],[128]⟩):=by
 intro n;induction n with
 |zero=>
  intro h i x q h0 h1 h2 hx;have hi:h=P.length:=by omega
  subst hi;rw[jf,aq];simp only[go_sem,Q0,Q1,Q2,Q3,Q4,Q5,Q6,Q7,Q8,Q9,Qa,Qb,Qc,Qd,Qe,Qf,Qg,Qh,Qi,Qj,Qk,reduceCtorEq,reduceIte,mZ,if_true]
 |succ n ih=>
  intro h i x q h0 h1 h2 hx;have hh:h<P.length:=by omega
  have hI:(h:Int)<(P.length:Int):=by omega
  have e1:=dF h (by omega);have hg:=oD P h hh;have hl:=im P;have ha:=Zo i (by omega)
  have hs:(P.getD h []).length<=1000000:=by rw[aa,ab hh,aV];exact hb _ (bd hh)
  have hd:P.drop h=P.getD h []::P.drop (h+1):=by rw[c9 hh,aa,ab hh,aV]
  rw[hd];generalize hc:P.getD h []=s at*;have hne:¬h=P.length:=by omega
  rw[if_neg hne];have e2:((i:Int)/2)=((i/2:Nat):Int):=by omega
  have e3:(i:Int).fdiv (2^min 1 64)=((i/2:Nat):Int):=by rw[show(2:Int)^min 1 64=2 from by decide,m4 _ (by decide)];omega
  have e4:af.wrap ((i/2:Nat):Int)=((i/2:Nat):Int):=w64 (by omega) (by omega);rw[aq]
  by_cases ho:i % 2=1
  ·have ih':=ih (h+1) (i/2) (gD h (i/2) s x) .no (by omega) (by omega) (by omega) (by rw[gD,dt];omega)
   rw[ite_self]at ih';have g:=RS h (i/2) s x hs hx;rw[ho]at ha;simp only[Int.natCast_one]at ha;simp only[go_sem,Q0,Q1,Q2,Q3,Q4,Q5,Q6,Q7,Q8,Q9,Qa,Qb,Qc,Qd,Qe,Qf,Qg,Qh,Qi,Qj,Qk,reduceCtorEq,reduceIte,hh,hI,e1,hg,hl,hc,ha,e2,e3,e4,g,Fg,ih',mZ,ho]
  ·have ho2:i % 2=0:=by omega
   have ih':=ih (h+1) (i/2) (gD h (i/2) x s) .no (by omega) (by omega) (by omega) (by rw[gD,dt];omega);rw[ite_self]at ih';have g:=RS h (i/2) x s hx hs;rw[ho2]at ha;simp only[aJ]at ha;have z1:¬(0:Int)=1:=by decide
   have z2:¬(0:Nat)=1:=by decide
   simp only[go_sem,Q0,Q1,Q2,Q3,Q4,Q5,Q6,Q7,Q8,Q9,Qa,Qb,Qc,Qd,Qe,Qf,Qg,Qh,Qi,Qj,Qk,reduceCtorEq,reduceIte,hh,hI,e1,hg,hl,hc,ha,e2,e3,e4,g,Fg,ih',mZ,ho2,z1,z2]
end Go.Proofs.YtkggincjigbelaaGreatDoor
