/- What the functions come to. No condition. -/
import Derived.Test.YtkggincjigbelaaGreatDoorTdB
import Derived.Test.YtkggincjigbelaaGreatDoorTfB
open Int renaming natCast_zero -> aw, tmod_eq_emod_of_nonneg -> ey
open Go.IntKind renaming i64 -> af, u64 -> aN, wrap_u64 -> bH
open List renaming drop_eq_getElem_cons -> bF, drop_length -> bG, drop_zero -> bj, getD_eq_getElem?_getD -> aa, getElem?_eq_getElem -> ab, getElem_mem -> bh, length_cons -> aj, length_nil -> aq, map_cons -> aC, map_nil -> bp, nil_append -> az
open Nat renaming zero_le -> bt
open Option renaming getD_some -> aY
set_option maxRecDepth 100000
set_option maxHeartbeats 16000000
set_option linter.unusedSimpArgs false
set_option linter.unusedVariables false
namespace Go.Proofs.YtkggincjigbelaaGreatDoor
open Go.Sy
open UInt8 renaming reduceLT -> Q0, reduceLE -> Q1
open Int renaming reduceToNat -> Q2, reduceLE -> Q3, reduceLT -> Q4, reduceEq -> Q5, reduceNe -> Q6, reduceNeg -> Q7, reduceAdd -> Q8, reduceSub -> Q9, reduceMul -> Qa
open Nat renaming reducePow -> Qb, reduceDiv -> Qc, reduceMod -> Qd, reduceAdd -> Qe, reduceSub -> Qf, reduceMul -> Qg, reduceLT -> Qh, reduceLeDiff -> Qi, reduceEqDiff -> Qj, reduceBEq -> Qk
theorem kw0:af.wrap 0=0:=by decide
theorem kw1:af.wrap 1=1:=by decide
theorem kw2:af.wrap 2=2:=by decide
theorem y00:bP .xor .i64 (Int.fdiv 0 (2^min (aN.wrap 0).toNat 64)) 1=1:=by decide
theorem y01:bP .xor .i64 (Int.fdiv 1 (2^min (aN.wrap 0).toNat 64)) 1=0:=by decide
theorem n1c:((1:Nat):Int)=1:=rfl
theorem n2c:((2:Nat):Int)=2:=rfl
theorem sh3(n:Nat)(h:n<=3):af.wrap (1*2^min n 64)=((2^n:Nat):Int):=by rcases (by omega:n=0\/n=1\/n=2\/n=3)with rfl|rfl|rfl|rfl<;>decide
theorem f95(x:List UInt8)(i:Nat)(P:List (List UInt8))(hP:P.length<=3)(hb:∀s∈P,s.length<=1000000)(hi:i<2^P.length)(hx:x.length<=1000000):
 call T 95 [.byt x .no,.int .i64 i,.lst 1 (bys P) .no] [] 0=some ⟨.byt (jT 0 i P x) .no,[],[]⟩:=by
 have hl:=fL P;have h8:(2:Nat)^P.length<=2^3:=Nat.pow_le_pow_right (by decide) hP;have g:=l95 P hP hb _ 0 i x (.id 128) rfl (bt _) (by omega) hx;have h1:¬(3:Int)<P.length:=by omega
 have h1n:¬3<P.length:=by omega
 have h2:¬(i:Int)<0:=by omega
 have e1:aN.wrap (P.length:Int)=P.length:=by rw[bH];omega
 have e2:=sh3 P.length hP;have h3:¬(2:Nat)^P.length<=i:=by omega
 have h3I:¬((2^P.length:Nat):Int)<=(i:Int):=by omega
 have c2:x.length<=140737488355328:=by omega
 simp only[aw,bj]at g;rw[ah xo9]
 by_cases hz:0=P.length
 ·simp only[go_sem,Q0,Q1,Q2,Q3,Q4,Q5,Q6,Q7,Q8,Q9,Qa,Qb,Qc,Qd,Qe,Qf,Qg,Qh,Qi,Qj,Qk,reduceCtorEq,reduceIte,hl,h1,h1n,h2,e1,e2,h3,h3I,c2,g,az,if_pos hz]
 ·simp only[go_sem,Q0,Q1,Q2,Q3,Q4,Q5,Q6,Q7,Q8,Q9,Qa,Qb,Qc,Qd,Qe,Qf,Qg,Qh,Qi,Qj,Qk,reduceCtorEq,reduceIte,hl,h1,h1n,h2,e1,e2,h3,h3I,c2,g,az,if_neg hz]
theorem xnK(P:List (List UInt8))(hP:P.length<=3)(hb:∀s∈P,s.length<=1000000):∀(n h i:Nat)(x:List UInt8),P.length-h=n->h<=P.length->i<1000->x.length<=1000000->
 run T (.loop sO) ⟨[(1,.int .i64 i),(2,.lst 1 (bys P) .no),(7,.byt x .no),(8,.int .i64 h)],[],[]⟩=
 some (.x 0,⟨[(7,.byt (jT h i (P.drop h) x) .no)],[],[]⟩):=by
 intro n;induction n with
 |zero=>
  intro h i x h0 h1 h2 hx;have hi:h=P.length:=by omega
  have hl:=fL P;subst hi;rw[bG,ai];simp only[go_sem,Q0,Q1,Q2,Q3,Q4,Q5,Q6,Q7,Q8,Q9,Qa,Qb,Qc,Qd,Qe,Qf,Qg,Qh,Qi,Qj,Qk,reduceCtorEq,reduceIte,hl,jT]
 |succ n ih=>
  intro h i x h0 h1 h2 hx;have hh:h<P.length:=by omega
  have hI:(h:Int)<(P.length:Int):=by omega
  have e1:=cA h (by omega);have hg:=pd P h hh;have hl:=fL P
  have hs:(P.getD h []).length<=1000000:=by rw[aa,ab hh,aY];exact hb _ (bh hh)
  have hd:P.drop h=P.getD h []::P.drop (h+1):=by rw[bF hh,aa,ab hh,aY]
  rw[hd];generalize hc:P.getD h []=s at*;have e2:(i:Int).tdiv 2=((i/2:Nat):Int):=by rw[Int.tdiv_eq_ediv_of_nonneg (by omega)];omega
  have e3:(i:Int).tmod 2=((i % 2:Nat):Int):=by rw[ey (by omega)];omega
  have e4:af.wrap ((i/2:Nat):Int)=((i/2:Nat):Int):=w64 (by omega) (by omega);rw[ai]
  by_cases ho:i % 2=1
  ·have ih':=ih (h+1) (i/2) (gT h (i/2) s x) (by omega) (by omega) (by omega) (by rw[gT,db];omega)
   have g:=xff h (i/2) s x hs hx;have z1:¬(1:Nat)=0:=by decide
   have z2:¬(1:Int)=0:=by decide
   rw[ho]at e3;simp only[Int.natCast_one]at e3;simp only[go_sem,Q0,Q1,Q2,Q3,Q4,Q5,Q6,Q7,Q8,Q9,Qa,Qb,Qc,Qd,Qe,Qf,Qg,Qh,Qi,Qj,Qk,reduceCtorEq,reduceIte,hh,hI,e1,hg,hl,hc,e2,e3,e4,g,Pq,ih',jT,ho,z1,z2]
  ·have ho2:i % 2=0:=by omega
   have ih':=ih (h+1) (i/2) (gT h (i/2) x s) (by omega) (by omega) (by omega) (by rw[gT,db];omega);have g:=xff h (i/2) x s hx hs;rw[ho2]at e3;simp only[aw]at e3;have z2:¬(0:Nat)=1:=by decide
   simp only[go_sem,Q0,Q1,Q2,Q3,Q4,Q5,Q6,Q7,Q8,Q9,Qa,Qb,Qc,Qd,Qe,Qf,Qg,Qh,Qi,Qj,Qk,reduceCtorEq,reduceIte,hh,hI,e1,hg,hl,hc,e2,e3,e4,g,Pq,ih',jT,ho2,z2]
theorem xoD(x:List UInt8)(i:Nat)(P:List (List UInt8))(hP:P.length<=3)(hb:∀s∈P,s.length<=1000000)(hi:i<2^P.length)(hx:x.length<=1000000):
 call T 163 [.byt x .no,.int .i64 i,.lst 1 (bys P) .no] [] 0=some ⟨.byt (jT 0 i P x) .no,[],[]⟩:=by
 have hl:=fL P;have h8:(2:Nat)^P.length<=2^3:=Nat.pow_le_pow_right (by decide) hP;have g:=xnK P hP hb _ 0 i x rfl (bt _) (by omega) hx;have h1:¬(3:Int)<P.length:=by omega
 have h1n:¬3<P.length:=by omega
 have h2:¬(i:Int)<0:=by omega
 have e1:aN.wrap (P.length:Int)=P.length:=by rw[bH];omega
 have e2:=sh3 P.length hP;have h3:¬(2:Nat)^P.length<=i:=by omega
 have h3I:¬((2^P.length:Nat):Int)<=(i:Int):=by omega
 have gc:=ZI x (by omega);simp only[aw,bj]at g;rw[ah xi3];simp only[go_sem,Q0,Q1,Q2,Q3,Q4,Q5,Q6,Q7,Q8,Q9,Qa,Qb,Qc,Qd,Qe,Qf,Qg,Qh,Qi,Qj,Qk,reduceCtorEq,reduceIte,hl,h1,h1n,h2,e1,e2,h3,h3I,gc,Ee,g]
theorem xiz:call T 122 [.int .i64 1] [] 0=some ⟨.bool true,[],[]⟩:=by rw[ah ZZ];simp (config:= {decide:=true}) only[go_sem,Q0,Q1,Q2,Q3,Q4,Q5,Q6,Q7,Q8,Q9,Qa,Qb,Qc,Qd,Qe,Qf,Qg,Qh,Qi,Qj,Qk,reduceCtorEq,reduceIte,n1c,n2c,kw0,kw1,kw2,y00,y01,aj,aq]
theorem OY:call T 122 [.int .i64 2] [] 0=some ⟨.bool true,[],[]⟩:=by rw[ah ZZ];simp (config:= {decide:=true}) only[go_sem,Q0,Q1,Q2,Q3,Q4,Q5,Q6,Q7,Q8,Q9,Qa,Qb,Qc,Qd,Qe,Qf,Qg,Qh,Qi,Qj,Qk,reduceCtorEq,reduceIte,n1c,n2c,kw0,kw1,kw2,y00,y01,aj,aq]
theorem xfl(A B:List UInt8)(hA:A.length<=1000000)(hB:B.length<=1000000):call T 123 [.int .i64 0,.lst 1 [[.byt A .no],[.byt B .no]] .no] [] 0=some ⟨.lst 1 [[.byt (gT 0 0 A B) .no]] .no,[],[]⟩:=by have g:=xff 0 0 A B hA hB;simp only[aw]at g;rw[ah xjt];simp only[go_sem,Q0,Q1,Q2,Q3,Q4,Q5,Q6,Q7,Q8,Q9,Qa,Qb,Qc,Qd,Qe,Qf,Qg,Qh,Qi,Qj,Qk,reduceCtorEq,reduceIte];rw[ai];simp (config:= {decide:=true}) only[go_sem,Q0,Q1,Q2,Q3,Q4,Q5,Q6,Q7,Q8,Q9,Qa,Qb,Qc,Qd,Qe,Qf,Qg,Qh,Qi,Qj,Qk,reduceCtorEq,reduceIte,n1c,n2c,kw0,kw1,kw2,y00,y01,aj,aq,g,Pq];rw[ai];simp (config:= {decide:=true}) only[go_sem,Q0,Q1,Q2,Q3,Q4,Q5,Q6,Q7,Q8,Q9,Qa,Qb,Qc,Qd,Qe,Qf,Qg,Qh,Qi,Qj,Qk,reduceCtorEq,reduceIte,n1c,n2c,kw0,kw1,kw2,y00,y01,aj,aq]
theorem xod(A B:List UInt8)(hA:A.length<=1000000)(hB:B.length<=1000000):call T 79 [.lst 1 [[.byt A .no],[.byt B .no]] .no] [] 0=some ⟨.byt (gT 0 0 A B) .no,[],[]⟩:=by have g:=ZI (gT 0 0 A B) (by rw[gT,db];decide);have g0:=OY;have g1:=xfl A B hA hB;rw[ah xpj];simp (config:= {decide:=true}) only[go_sem,Q0,Q1,Q2,Q3,Q4,Q5,Q6,Q7,Q8,Q9,Qa,Qb,Qc,Qd,Qe,Qf,Qg,Qh,Qi,Qj,Qk,reduceCtorEq,reduceIte,n1c,n2c,kw0,kw1,kw2,y00,y01,aj,aq,g0,Ef];rw[ai];simp (config:= {decide:=true}) only[go_sem,Q0,Q1,Q2,Q3,Q4,Q5,Q6,Q7,Q8,Q9,Qa,Qb,Qc,Qd,Qe,Qf,Qg,Qh,Qi,Qj,Qk,reduceCtorEq,reduceIte,n1c,n2c,kw0,kw1,kw2,y00,y01,aj,aq,g1,PD];rw[ai];simp (config:= {decide:=true}) only[go_sem,Q0,Q1,Q2,Q3,Q4,Q5,Q6,Q7,Q8,Q9,Qa,Qb,Qc,Qd,Qe,Qf,Qg,Qh,Qi,Qj,Qk,reduceCtorEq,reduceIte,n1c,n2c,kw0,kw1,kw2,y00,y01,aj,aq,g,Ee]
theorem xn6(A:List UInt8):call T 93 [.int .i64 0,.lst 1 [[.byt A .no]] .no] [] 0=some ⟨.lst 1 [] .no,[],[]⟩:=by have g0:=xiz;rw[ah xfo];simp (config:= {decide:=true}) only[go_sem,Q0,Q1,Q2,Q3,Q4,Q5,Q6,Q7,Q8,Q9,Qa,Qb,Qc,Qd,Qe,Qf,Qg,Qh,Qi,Qj,Qk,reduceCtorEq,reduceIte,n1c,n2c,kw0,kw1,kw2,y00,y01,aj,aq,g0,Ef];rw[ai];simp (config:= {decide:=true}) only[go_sem,Q0,Q1,Q2,Q3,Q4,Q5,Q6,Q7,Q8,Q9,Qa,Qb,Qc,Qd,Qe,Qf,Qg,Qh,Qi,Qj,Qk,reduceCtorEq,reduceIte,n1c,n2c,kw0,kw1,kw2,y00,y01,aj,aq]
theorem x10:bP .xor .i64 0 1=1:=by decide
theorem x11:bP .xor .i64 1 1=0:=by decide
theorem xn5(A B:List UInt8)(hA:A.length<=1000000)(hB:B.length<=1000000):call T 93 [.int .i64 0,.lst 1 [[.byt A .no],[.byt B .no]] .no] [] 0=some ⟨.lst 1 [[.byt B .no]] .no,[],[]⟩:=by have g:=ZI B (by omega);have g0:=OY;have g1:=xfl A B hA hB;rw[ah xfo];simp (config:= {decide:=true}) only[go_sem,Q0,Q1,Q2,Q3,Q4,Q5,Q6,Q7,Q8,Q9,Qa,Qb,Qc,Qd,Qe,Qf,Qg,Qh,Qi,Qj,Qk,reduceCtorEq,reduceIte,n1c,n2c,kw0,kw1,kw2,y00,y01,aj,aq,g0,Ef];rw[ai];simp (config:= {decide:=true}) only[go_sem,Q0,Q1,Q2,Q3,Q4,Q5,Q6,Q7,Q8,Q9,Qa,Qb,Qc,Qd,Qe,Qf,Qg,Qh,Qi,Qj,Qk,reduceCtorEq,reduceIte,n1c,n2c,kw0,kw1,kw2,y00,y01,aj,aq,x10,g,g1,PD,Ee];rw[ai];simp (config:= {decide:=true}) only[go_sem,Q0,Q1,Q2,Q3,Q4,Q5,Q6,Q7,Q8,Q9,Qa,Qb,Qc,Qd,Qe,Qf,Qg,Qh,Qi,Qj,Qk,reduceCtorEq,reduceIte,n1c,n2c,kw0,kw1,kw2,y00,y01,aj,aq]
theorem xn4(A B:List UInt8)(hA:A.length<=1000000)(hB:B.length<=1000000):call T 93 [.int .i64 1,.lst 1 [[.byt A .no],[.byt B .no]] .no] [] 0=some ⟨.lst 1 [[.byt A .no]] .no,[],[]⟩:=by have g:=ZI A (by omega);have g0:=OY;have g1:=xfl A B hA hB;rw[ah xfo];simp (config:= {decide:=true}) only[go_sem,Q0,Q1,Q2,Q3,Q4,Q5,Q6,Q7,Q8,Q9,Qa,Qb,Qc,Qd,Qe,Qf,Qg,Qh,Qi,Qj,Qk,reduceCtorEq,reduceIte,n1c,n2c,kw0,kw1,kw2,y00,y01,aj,aq,g0,Ef];rw[ai];simp (config:= {decide:=true}) only[go_sem,Q0,Q1,Q2,Q3,Q4,Q5,Q6,Q7,Q8,Q9,Qa,Qb,Qc,Qd,Qe,Qf,Qg,Qh,Qi,Qj,Qk,reduceCtorEq,reduceIte,n1c,n2c,kw0,kw1,kw2,y00,y01,aj,aq,x11,g,g1,PD,Ee];rw[ai];simp (config:= {decide:=true}) only[go_sem,Q0,Q1,Q2,Q3,Q4,Q5,Q6,Q7,Q8,Q9,Qa,Qb,Qc,Qd,Qe,Qf,Qg,Qh,Qi,Qj,Qk,reduceCtorEq,reduceIte,n1c,n2c,kw0,kw1,kw2,y00,y01,aj,aq]
theorem xiu(A:List UInt8):call T 140 [.lst 1 [[.byt A .no]] .no] [] 0=some ⟨.lst 1 [[.lst 1 [[.byt A .no]] .no]] .no,[],[]⟩:=by rw[ah ZX];simp (config:= {decide:=true}) only[go_sem,Q0,Q1,Q2,Q3,Q4,Q5,Q6,Q7,Q8,Q9,Qa,Qb,Qc,Qd,Qe,Qf,Qg,Qh,Qi,Qj,Qk,reduceCtorEq,reduceIte,n1c,n2c,kw0,kw1,kw2,y00,y01,aj,aq];rw[ai];simp (config:= {decide:=true}) only[go_sem,Q0,Q1,Q2,Q3,Q4,Q5,Q6,Q7,Q8,Q9,Qa,Qb,Qc,Qd,Qe,Qf,Qg,Qh,Qi,Qj,Qk,reduceCtorEq,reduceIte,n1c,n2c,kw0,kw1,kw2,y00,y01,aj,aq]
theorem ZG(A B:List UInt8)(hA:A.length<=1000000)(hB:B.length<=1000000):call T 140 [.lst 1 [[.byt A .no],[.byt B .no]] .no] [] 0=
 some ⟨.lst 1 [[.lst 1 [[.byt A .no],[.byt B .no]] .no],[.lst 1 [[.byt (gT 0 0 A B) .no]] .no]] .no,[],[]⟩:=by
 have g:=xfg 0 0 A B hA hB;simp only[aw]at g;rw[ah ZX];simp (config:= {decide:=true}) only[go_sem,Q0,Q1,Q2,Q3,Q4,Q5,Q6,Q7,Q8,Q9,Qa,Qb,Qc,Qd,Qe,Qf,Qg,Qh,Qi,Qj,Qk,reduceCtorEq,reduceIte,n1c,n2c,kw0,kw1,kw2,y00,y01,aj,aq];rw[ai];simp (config:= {decide:=true}) only[go_sem,Q0,Q1,Q2,Q3,Q4,Q5,Q6,Q7,Q8,Q9,Qa,Qb,Qc,Qd,Qe,Qf,Qg,Qh,Qi,Qj,Qk,reduceCtorEq,reduceIte,n1c,n2c,kw0,kw1,kw2,y00,y01,aj,aq];rw[ai];simp (config:= {decide:=true}) only[go_sem,Q0,Q1,Q2,Q3,Q4,Q5,Q6,Q7,Q8,Q9,Qa,Qb,Qc,Qd,Qe,Qf,Qg,Qh,Qi,Qj,Qk,reduceCtorEq,reduceIte,n1c,n2c,kw0,kw1,kw2,y00,y01,aj,aq,g,Pu];rw[ai];simp (config:= {decide:=true}) only[go_sem,Q0,Q1,Q2,Q3,Q4,Q5,Q6,Q7,Q8,Q9,Qa,Qb,Qc,Qd,Qe,Qf,Qg,Qh,Qi,Qj,Qk,reduceCtorEq,reduceIte,n1c,n2c,kw0,kw1,kw2,y00,y01,aj,aq];rw[ai];simp (config:= {decide:=true}) only[go_sem,Q0,Q1,Q2,Q3,Q4,Q5,Q6,Q7,Q8,Q9,Qa,Qb,Qc,Qd,Qe,Qf,Qg,Qh,Qi,Qj,Qk,reduceCtorEq,reduceIte,n1c,n2c,kw0,kw1,kw2,y00,y01,aj,aq]
theorem xoa(A:List UInt8):call T 89 [.int .i64 0,.lst 1 [[.byt A .no]] .no] [] 0=some ⟨.lst 1 [] .no,[],[]⟩:=by have g0:=xiv;have g1:=xiu A;rw[ah xfp];simp (config:= {decide:=true}) only[go_sem,Q0,Q1,Q2,Q3,Q4,Q5,Q6,Q7,Q8,Q9,Qa,Qb,Qc,Qd,Qe,Qf,Qg,Qh,Qi,Qj,Qk,reduceCtorEq,reduceIte,n1c,n2c,kw0,kw1,kw2,y00,y01,aj,aq,g0,g1,Py,Px];rw[ai];simp (config:= {decide:=true}) only[go_sem,Q0,Q1,Q2,Q3,Q4,Q5,Q6,Q7,Q8,Q9,Qa,Qb,Qc,Qd,Qe,Qf,Qg,Qh,Qi,Qj,Qk,reduceCtorEq,reduceIte,n1c,n2c,kw0,kw1,kw2,y00,y01,aj,aq]
theorem xn9(A B:List UInt8)(hA:A.length<=1000000)(hB:B.length<=1000000):call T 89 [.int .i64 0,.lst 1 [[.byt A .no],[.byt B .no]] .no] [] 0=some ⟨.lst 1 [[.byt B .no]] .no,[],[]⟩:=by
 have g0:=ZH;have g1:=ZG A B hA hB;have c1:B.length<=140737488355328:=by omega
 rw[ah xfp];simp (config:= {decide:=true}) only[go_sem,Q0,Q1,Q2,Q3,Q4,Q5,Q6,Q7,Q8,Q9,Qa,Qb,Qc,Qd,Qe,Qf,Qg,Qh,Qi,Qj,Qk,reduceCtorEq,reduceIte,n1c,n2c,kw0,kw1,kw2,y00,y01,aj,aq,g0,g1,Py,Px];rw[ai];simp (config:= {decide:=true}) only[go_sem,Q0,Q1,Q2,Q3,Q4,Q5,Q6,Q7,Q8,Q9,Qa,Qb,Qc,Qd,Qe,Qf,Qg,Qh,Qi,Qj,Qk,reduceCtorEq,reduceIte,n1c,n2c,kw0,kw1,kw2,y00,y01,aj,aq,x10,c1];rw[ai];simp (config:= {decide:=true}) only[go_sem,Q0,Q1,Q2,Q3,Q4,Q5,Q6,Q7,Q8,Q9,Qa,Qb,Qc,Qd,Qe,Qf,Qg,Qh,Qi,Qj,Qk,reduceCtorEq,reduceIte,n1c,n2c,kw0,kw1,kw2,y00,y01,aj,aq]
theorem xn8(A B:List UInt8)(hA:A.length<=1000000)(hB:B.length<=1000000):call T 89 [.int .i64 1,.lst 1 [[.byt A .no],[.byt B .no]] .no] [] 0=some ⟨.lst 1 [[.byt A .no]] .no,[],[]⟩:=by
 have g0:=ZH;have g1:=ZG A B hA hB;have c1:A.length<=140737488355328:=by omega
 rw[ah xfp];simp (config:= {decide:=true}) only[go_sem,Q0,Q1,Q2,Q3,Q4,Q5,Q6,Q7,Q8,Q9,Qa,Qb,Qc,Qd,Qe,Qf,Qg,Qh,Qi,Qj,Qk,reduceCtorEq,reduceIte,n1c,n2c,kw0,kw1,kw2,y00,y01,aj,aq,g0,g1,Py,Px];rw[ai];simp (config:= {decide:=true}) only[go_sem,Q0,Q1,Q2,Q3,Q4,Q5,Q6,Q7,Q8,Q9,Qa,Qb,Qc,Qd,Qe,Qf,Qg,Qh,Qi,Qj,Qk,reduceCtorEq,reduceIte,n1c,n2c,kw0,kw1,kw2,y00,y01,aj,aq,x11,c1];rw[ai];simp (config:= {decide:=true}) only[go_sem,Q0,Q1,Q2,Q3,Q4,Q5,Q6,Q7,Q8,Q9,Qa,Qb,Qc,Qd,Qe,Qf,Qg,Qh,Qi,Qj,Qk,reduceCtorEq,reduceIte,n1c,n2c,kw0,kw1,kw2,y00,y01,aj,aq]
theorem f86(h:Nat)(hh:h<=3):call T 86 [.int .i64 h] [] 0=some ⟨.bool true,[],[]⟩:=by
 have h1:(0:Int)<=(h:Int):=by omega
 have h2:(h:Int)<=3:=by omega
 rw[ah xms];simp only[go_sem,Q0,Q1,Q2,Q3,Q4,Q5,Q6,Q7,Q8,Q9,Qa,Qb,Qc,Qd,Qe,Qf,Qg,Qh,Qi,Qj,Qk,reduceCtorEq,reduceIte,h1,h2]
theorem xfc(h:Int)(hh:h<0\/3<h):call T 86 [.int .i64 h] [] 0=some ⟨.bool false,[],[]⟩:=by
 rw[ah xms]
 by_cases h1:(0:Int)<=h
 ·have h2:¬h<=3:=by omega
  simp only[go_sem,Q0,Q1,Q2,Q3,Q4,Q5,Q6,Q7,Q8,Q9,Qa,Qb,Qc,Qd,Qe,Qf,Qg,Qh,Qi,Qj,Qk,reduceCtorEq,reduceIte,h1,h2]
 ·simp only[go_sem,Q0,Q1,Q2,Q3,Q4,Q5,Q6,Q7,Q8,Q9,Qa,Qb,Qc,Qd,Qe,Qf,Qg,Qh,Qi,Qj,Qk,reduceCtorEq,reduceIte,h1]
theorem f88(seed:List UInt8)(h:Nat)(hs:seed.length<=64):call T 88 [.byt seed .no,.int .i64 h] [] 0=some ⟨.byt (lsV seed h) .no,[],[]⟩:=by have g:=xmf seed Ei [ub h] 32 (by decide) (by decide) hs (by decide) (by simp);unfold Ei ub at g;rw[c32]at g;rw[ah xpd];simp only[go_sem,Q0,Q1,Q2,Q3,Q4,Q5,Q6,Q7,Q8,Q9,Qa,Qb,Qc,Qd,Qe,Qf,Qg,Qh,Qi,Qj,Qk,reduceCtorEq,reduceIte,g,xal,lsV,Ei,ub]
theorem f92(seed:List UInt8)(h:Nat)(hs:seed.length<=64):call T 92 [.byt seed .no,.int .i64 h] [] 0=some ⟨.byt (lsV seed h) .no,[],[]⟩:=by have g:=xmc seed Ei [ub h] 32 (by decide) (by decide) hs (by decide) (by simp);unfold Ei ub at g;rw[c32]at g;rw[ah xpb];simp only[go_sem,Q0,Q1,Q2,Q3,Q4,Q5,Q6,Q7,Q8,Q9,Qa,Qb,Qc,Qd,Qe,Qf,Qg,Qh,Qi,Qj,Qk,reduceCtorEq,reduceIte,g,xai,lsV,Ei,ub]
theorem Zr(seed:List UInt8)(h:Nat):lvs seed h (2^0)=[pubL (lsV seed h) 0]:=rfl
theorem El(seed:List UInt8)(h:Nat):lvs seed h (2^1)=[pubL (lsV seed h) 0,pubL (lsV seed h) 1]:=rfl
theorem Zq(seed:List UInt8)(h:Nat):lvs seed h 1=[pubL (lsV seed h) 0]:=rfl
theorem Zp(seed:List UInt8)(h:Nat):lvs seed h 2=[pubL (lsV seed h) 0,pubL (lsV seed h) 1]:=rfl
theorem xn7(seed:List UInt8)(hs:seed.length<=64):call T 90 [.byt seed .no,.int .i64 0] [] 0=some ⟨.lst 1 (bys (lvs seed 0 (2^0))) .no,[],[]⟩:=by have g0:=f88 seed 0 hs;have g1:=xfi (lsV seed 0) 0 (by rw[e9];decide) (by omega);simp only[aw]at g0 g1;rw[ah xmr];simp (config:= {decide:=true}) only[go_sem,Q0,Q1,Q2,Q3,Q4,Q5,Q6,Q7,Q8,Q9,Qa,Qb,Qc,Qd,Qe,Qf,Qg,Qh,Qi,Qj,Qk,reduceCtorEq,reduceIte,kw0,kw1,kw2,g0,SS];rw[ai];simp (config:= {decide:=true}) only[go_sem,Q0,Q1,Q2,Q3,Q4,Q5,Q6,Q7,Q8,Q9,Qa,Qb,Qc,Qd,Qe,Qf,Qg,Qh,Qi,Qj,Qk,reduceCtorEq,reduceIte,kw0,kw1,kw2,g1,Pw];rw[ai];simp (config:= {decide:=true}) only[go_sem,Q0,Q1,Q2,Q3,Q4,Q5,Q6,Q7,Q8,Q9,Qa,Qb,Qc,Qd,Qe,Qf,Qg,Qh,Qi,Qj,Qk,reduceCtorEq,reduceIte,kw0,kw1,kw2,Zq,Zr,bys,aC,bp]
theorem xl4(seed:List UInt8)(hs:seed.length<=64):call T 90 [.byt seed .no,.int .i64 1] [] 0=some ⟨.lst 1 (bys (lvs seed 1 (2^1))) .no,[],[]⟩:=by have g0:=f88 seed 1 hs;have g1:=xfi (lsV seed 1) 0 (by rw[e9];decide) (by omega);have g2:=xfi (lsV seed 1) 1 (by rw[e9];decide) (by omega);simp only[aw,Int.natCast_one]at g0 g1 g2;rw[ah xmr];simp (config:= {decide:=true}) only[go_sem,Q0,Q1,Q2,Q3,Q4,Q5,Q6,Q7,Q8,Q9,Qa,Qb,Qc,Qd,Qe,Qf,Qg,Qh,Qi,Qj,Qk,reduceCtorEq,reduceIte,kw0,kw1,kw2,g0,SS];rw[ai];simp (config:= {decide:=true}) only[go_sem,Q0,Q1,Q2,Q3,Q4,Q5,Q6,Q7,Q8,Q9,Qa,Qb,Qc,Qd,Qe,Qf,Qg,Qh,Qi,Qj,Qk,reduceCtorEq,reduceIte,kw0,kw1,kw2,g1,Pw];rw[ai];simp (config:= {decide:=true}) only[go_sem,Q0,Q1,Q2,Q3,Q4,Q5,Q6,Q7,Q8,Q9,Qa,Qb,Qc,Qd,Qe,Qf,Qg,Qh,Qi,Qj,Qk,reduceCtorEq,reduceIte,kw0,kw1,kw2,g2,Pw];rw[ai];simp (config:= {decide:=true}) only[go_sem,Q0,Q1,Q2,Q3,Q4,Q5,Q6,Q7,Q8,Q9,Qa,Qb,Qc,Qd,Qe,Qf,Qg,Qh,Qi,Qj,Qk,reduceCtorEq,reduceIte,kw0,kw1,kw2,Zp,El,bys,aC,bp]
theorem xoc(seed:List UInt8)(hs:seed.length<=64):call T 80 [.byt seed .no,.int .i64 0] [] 0=some ⟨.lst 1 (bys (lvs seed 0 (2^0))) .no,[],[]⟩:=by have g0:=f92 seed 0 hs;have g1:=f125 (lsV seed 0) 0 (by rw[e9];decide) (by omega);simp only[aw]at g0 g1;rw[ah xmt];simp (config:= {decide:=true}) only[go_sem,Q0,Q1,Q2,Q3,Q4,Q5,Q6,Q7,Q8,Q9,Qa,Qb,Qc,Qd,Qe,Qf,Qg,Qh,Qi,Qj,Qk,reduceCtorEq,reduceIte,kw0,kw1,kw2,g0,SR];rw[ai];simp (config:= {decide:=true}) only[go_sem,Q0,Q1,Q2,Q3,Q4,Q5,Q6,Q7,Q8,Q9,Qa,Qb,Qc,Qd,Qe,Qf,Qg,Qh,Qi,Qj,Qk,reduceCtorEq,reduceIte,kw0,kw1,kw2,g1,PC];rw[ai];simp (config:= {decide:=true}) only[go_sem,Q0,Q1,Q2,Q3,Q4,Q5,Q6,Q7,Q8,Q9,Qa,Qb,Qc,Qd,Qe,Qf,Qg,Qh,Qi,Qj,Qk,reduceCtorEq,reduceIte,kw0,kw1,kw2,Zq,Zr,bys,aC,bp]
theorem xfd(seed:List UInt8)(hs:seed.length<=64):call T 80 [.byt seed .no,.int .i64 1] [] 0=some ⟨.lst 1 (bys (lvs seed 1 (2^1))) .no,[],[]⟩:=by have g0:=f92 seed 1 hs;have g1:=f125 (lsV seed 1) 0 (by rw[e9];decide) (by omega);have g2:=f125 (lsV seed 1) 1 (by rw[e9];decide) (by omega);simp only[aw,Int.natCast_one]at g0 g1 g2;rw[ah xmt];simp (config:= {decide:=true}) only[go_sem,Q0,Q1,Q2,Q3,Q4,Q5,Q6,Q7,Q8,Q9,Qa,Qb,Qc,Qd,Qe,Qf,Qg,Qh,Qi,Qj,Qk,reduceCtorEq,reduceIte,kw0,kw1,kw2,g0,SR];rw[ai];simp (config:= {decide:=true}) only[go_sem,Q0,Q1,Q2,Q3,Q4,Q5,Q6,Q7,Q8,Q9,Qa,Qb,Qc,Qd,Qe,Qf,Qg,Qh,Qi,Qj,Qk,reduceCtorEq,reduceIte,kw0,kw1,kw2,g1,PC];rw[ai];simp (config:= {decide:=true}) only[go_sem,Q0,Q1,Q2,Q3,Q4,Q5,Q6,Q7,Q8,Q9,Qa,Qb,Qc,Qd,Qe,Qf,Qg,Qh,Qi,Qj,Qk,reduceCtorEq,reduceIte,kw0,kw1,kw2,g2,PC];rw[ai];simp (config:= {decide:=true}) only[go_sem,Q0,Q1,Q2,Q3,Q4,Q5,Q6,Q7,Q8,Q9,Qa,Qb,Qc,Qd,Qe,Qf,Qg,Qh,Qi,Qj,Qk,reduceCtorEq,reduceIte,kw0,kw1,kw2,Zp,El,bys,aC,bp]
end Go.Proofs.YtkggincjigbelaaGreatDoor
