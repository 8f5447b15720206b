/- What the functions come to. No condition. -/
import Derived.Test.YtkggincjigbelaaGreatDoorTdD
import Derived.Test.YtkggincjigbelaaGreatDoorTfD
open Int renaming natCast_zero -> aB
open Go.IntKind renaming i64 -> af, u64 -> aI, wrap_u64 -> bQ
open List renaming drop_zero -> bj, length_cons -> ai, length_nil -> aw, map_cons -> aC, map_nil -> bH, nil_append -> aF
open Nat renaming zero_le -> bJ
set_option maxRecDepth 100000
set_option maxHeartbeats 16000000
set_option linter.unusedSimpArgs false
set_option linter.unusedVariables false
namespace Go.Proofs.YtkggincjigbelaaGreatDoor
open Go.Sy
open UInt8 renaming reduceLT -> Q0, reduceLE -> Q1
open Int renaming reduceToNat -> Q2, reduceLE -> Q3, reduceLT -> Q4, reduceEq -> Q5, reduceNe -> Q6, reduceNeg -> Q7, reduceAdd -> Q8, reduceSub -> Q9, reduceMul -> Qa
open Nat renaming reducePow -> Qb, reduceDiv -> Qc, reduceMod -> Qd, reduceAdd -> Qe, reduceSub -> Qf, reduceMul -> Qg, reduceLT -> Qh, reduceLeDiff -> Qi, reduceEqDiff -> Qj, reduceBEq -> Qk
theorem kw0:af.wrap 0=0:=by decide
theorem kw1:af.wrap 1=1:=by decide
theorem kw2:af.wrap 2=2:=by decide
theorem y00:bS .xor .i64 (Int.fdiv 0 (2^min (aI.wrap 0).toNat 64)) 1=1:=by decide
theorem y01:bS .xor .i64 (Int.fdiv 1 (2^min (aI.wrap 0).toNat 64)) 1=0:=by decide
theorem n1c:((1:Nat):Int)=1:=rfl
theorem n2c:((2:Nat):Int)=2:=rfl
theorem sh3(n:Nat)(h:n<=3):af.wrap (1*2^min n 64)=((2^n:Nat):Int):=by rcases (by omega:n=0\/n=1\/n=2\/n=3)with rfl|rfl|rfl|rfl<;>decide
theorem f95(x:List UInt8)(i:Nat)(P:List (List UInt8))(hP:P.length<=3)(hb:∀s∈P,s.length<=1000000)(hi:i<2^P.length)(hx:x.length<=1000000):
 call T 95 [.byt x .no,.int .i64 i,.lst 1 (bys P) .no] [] 0=some ⟨.byt (ph 0 i P x) .no,[],[]⟩:=by
 have hl:=jd P;have h8:(2:Nat)^P.length<=2^3:=Nat.pow_le_pow_right (by decide) hP;have g:=l95 P hP hb _ 0 i x (.id 128) rfl (bJ _) (by omega) hx;have h1:¬(3:Int)<P.length:=by omega
 have h1n:¬3<P.length:=by omega
 have h2:¬(i:Int)<0:=by omega
 have e1:aI.wrap (P.length:Int)=P.length:=by rw[bQ];omega
 have e2:=sh3 P.length hP;have h3:¬(2:Nat)^P.length<=i:=by omega
 have h3I:¬((2^P.length:Nat):Int)<=(i:Int):=by omega
 have c2:x.length<=140737488355328:=by omega
 simp only[aB,bj]at g;rw[aj xmb]
 by_cases hz:0=P.length
 ·simp only[go_sem,Q0,Q1,Q2,Q3,Q4,Q5,Q6,Q7,Q8,Q9,Qa,Qb,Qc,Qd,Qe,Qf,Qg,Qh,Qi,Qj,Qk,reduceCtorEq,reduceIte,hl,h1,h1n,h2,e1,e2,h3,h3I,c2,g,aF,if_pos hz]
 ·simp only[go_sem,Q0,Q1,Q2,Q3,Q4,Q5,Q6,Q7,Q8,Q9,Qa,Qb,Qc,Qd,Qe,Qf,Qg,Qh,Qi,Qj,Qk,reduceCtorEq,reduceIte,hl,h1,h1n,h2,e1,e2,h3,h3I,c2,g,aF,if_neg hz]
theorem xf8:call T 122 [.int .i64 1] [] 0=some ⟨.bool true,[],[]⟩:=by rw[aj XN];simp (config:= {decide:=true}) only[go_sem,Q0,Q1,Q2,Q3,Q4,Q5,Q6,Q7,Q8,Q9,Qa,Qb,Qc,Qd,Qe,Qf,Qg,Qh,Qi,Qj,Qk,reduceCtorEq,reduceIte,n1c,n2c,kw0,kw1,kw2,y00,y01,ai,aw]
theorem Nu:call T 122 [.int .i64 2] [] 0=some ⟨.bool true,[],[]⟩:=by rw[aj XN];simp (config:= {decide:=true}) only[go_sem,Q0,Q1,Q2,Q3,Q4,Q5,Q6,Q7,Q8,Q9,Qa,Qb,Qc,Qd,Qe,Qf,Qg,Qh,Qi,Qj,Qk,reduceCtorEq,reduceIte,n1c,n2c,kw0,kw1,kw2,y00,y01,ai,aw]
theorem xc4(A B:List UInt8)(hA:A.length<=1000000)(hB:B.length<=1000000):call T 123 [.int .i64 0,.lst 1 [[.byt A .no],[.byt B .no]] .no] [] 0=some ⟨.lst 1 [[.byt (ie 0 0 A B) .no]] .no,[],[]⟩:=by have g:=xlv 0 0 A B hA hB;simp only[aB]at g;rw[aj xg1];simp only[go_sem,Q0,Q1,Q2,Q3,Q4,Q5,Q6,Q7,Q8,Q9,Qa,Qb,Qc,Qd,Qe,Qf,Qg,Qh,Qi,Qj,Qk,reduceCtorEq,reduceIte];rw[ah];simp (config:= {decide:=true}) only[go_sem,Q0,Q1,Q2,Q3,Q4,Q5,Q6,Q7,Q8,Q9,Qa,Qb,Qc,Qd,Qe,Qf,Qg,Qh,Qi,Qj,Qk,reduceCtorEq,reduceIte,n1c,n2c,kw0,kw1,kw2,y00,y01,ai,aw,g,xhs];rw[ah];simp (config:= {decide:=true}) only[go_sem,Q0,Q1,Q2,Q3,Q4,Q5,Q6,Q7,Q8,Q9,Qa,Qb,Qc,Qd,Qe,Qf,Qg,Qh,Qi,Qj,Qk,reduceCtorEq,reduceIte,n1c,n2c,kw0,kw1,kw2,y00,y01,ai,aw]
theorem xk7(A B:List UInt8)(hA:A.length<=1000000)(hB:B.length<=1000000):call T 79 [.lst 1 [[.byt A .no],[.byt B .no]] .no] [] 0=some ⟨.byt (ie 0 0 A B) .no,[],[]⟩:=by have g:=xc3 (ie 0 0 A B) (by rw[ie,dC];decide);have g0:=Nu;have g1:=xc4 A B hA hB;rw[aj xmi];simp (config:= {decide:=true}) only[go_sem,Q0,Q1,Q2,Q3,Q4,Q5,Q6,Q7,Q8,Q9,Qa,Qb,Qc,Qd,Qe,Qf,Qg,Qh,Qi,Qj,Qk,reduceCtorEq,reduceIte,n1c,n2c,kw0,kw1,kw2,y00,y01,ai,aw,g0,Dr];rw[ah];simp (config:= {decide:=true}) only[go_sem,Q0,Q1,Q2,Q3,Q4,Q5,Q6,Q7,Q8,Q9,Qa,Qb,Qc,Qd,Qe,Qf,Qg,Qh,Qi,Qj,Qk,reduceCtorEq,reduceIte,n1c,n2c,kw0,kw1,kw2,y00,y01,ai,aw,g1,NZ];rw[ah];simp (config:= {decide:=true}) only[go_sem,Q0,Q1,Q2,Q3,Q4,Q5,Q6,Q7,Q8,Q9,Qa,Qb,Qc,Qd,Qe,Qf,Qg,Qh,Qi,Qj,Qk,reduceCtorEq,reduceIte,n1c,n2c,kw0,kw1,kw2,y00,y01,ai,aw,g,NY]
theorem xk1(A:List UInt8):call T 93 [.int .i64 0,.lst 1 [[.byt A .no]] .no] [] 0=some ⟨.lst 1 [] .no,[],[]⟩:=by have g0:=xf8;rw[aj xc8];simp (config:= {decide:=true}) only[go_sem,Q0,Q1,Q2,Q3,Q4,Q5,Q6,Q7,Q8,Q9,Qa,Qb,Qc,Qd,Qe,Qf,Qg,Qh,Qi,Qj,Qk,reduceCtorEq,reduceIte,n1c,n2c,kw0,kw1,kw2,y00,y01,ai,aw,g0,Dr];rw[ah];simp (config:= {decide:=true}) only[go_sem,Q0,Q1,Q2,Q3,Q4,Q5,Q6,Q7,Q8,Q9,Qa,Qb,Qc,Qd,Qe,Qf,Qg,Qh,Qi,Qj,Qk,reduceCtorEq,reduceIte,n1c,n2c,kw0,kw1,kw2,y00,y01,ai,aw]
theorem x10:bS .xor .i64 0 1=1:=by decide
theorem x11:bS .xor .i64 1 1=0:=by decide
theorem xk0(A B:List UInt8)(hA:A.length<=1000000)(hB:B.length<=1000000):call T 93 [.int .i64 0,.lst 1 [[.byt A .no],[.byt B .no]] .no] [] 0=some ⟨.lst 1 [[.byt B .no]] .no,[],[]⟩:=by have g:=xc3 B (by omega);have g0:=Nu;have g1:=xc4 A B hA hB;rw[aj xc8];simp (config:= {decide:=true}) only[go_sem,Q0,Q1,Q2,Q3,Q4,Q5,Q6,Q7,Q8,Q9,Qa,Qb,Qc,Qd,Qe,Qf,Qg,Qh,Qi,Qj,Qk,reduceCtorEq,reduceIte,n1c,n2c,kw0,kw1,kw2,y00,y01,ai,aw,g0,Dr];rw[ah];simp (config:= {decide:=true}) only[go_sem,Q0,Q1,Q2,Q3,Q4,Q5,Q6,Q7,Q8,Q9,Qa,Qb,Qc,Qd,Qe,Qf,Qg,Qh,Qi,Qj,Qk,reduceCtorEq,reduceIte,n1c,n2c,kw0,kw1,kw2,y00,y01,ai,aw,x10,g,g1,NZ,NY];rw[ah];simp (config:= {decide:=true}) only[go_sem,Q0,Q1,Q2,Q3,Q4,Q5,Q6,Q7,Q8,Q9,Qa,Qb,Qc,Qd,Qe,Qf,Qg,Qh,Qi,Qj,Qk,reduceCtorEq,reduceIte,n1c,n2c,kw0,kw1,kw2,y00,y01,ai,aw]
theorem xkZ(A B:List UInt8)(hA:A.length<=1000000)(hB:B.length<=1000000):call T 93 [.int .i64 1,.lst 1 [[.byt A .no],[.byt B .no]] .no] [] 0=some ⟨.lst 1 [[.byt A .no]] .no,[],[]⟩:=by have g:=xc3 A (by omega);have g0:=Nu;have g1:=xc4 A B hA hB;rw[aj xc8];simp (config:= {decide:=true}) only[go_sem,Q0,Q1,Q2,Q3,Q4,Q5,Q6,Q7,Q8,Q9,Qa,Qb,Qc,Qd,Qe,Qf,Qg,Qh,Qi,Qj,Qk,reduceCtorEq,reduceIte,n1c,n2c,kw0,kw1,kw2,y00,y01,ai,aw,g0,Dr];rw[ah];simp (config:= {decide:=true}) only[go_sem,Q0,Q1,Q2,Q3,Q4,Q5,Q6,Q7,Q8,Q9,Qa,Qb,Qc,Qd,Qe,Qf,Qg,Qh,Qi,Qj,Qk,reduceCtorEq,reduceIte,n1c,n2c,kw0,kw1,kw2,y00,y01,ai,aw,x11,g,g1,NZ,NY];rw[ah];simp (config:= {decide:=true}) only[go_sem,Q0,Q1,Q2,Q3,Q4,Q5,Q6,Q7,Q8,Q9,Qa,Qb,Qc,Qd,Qe,Qf,Qg,Qh,Qi,Qj,Qk,reduceCtorEq,reduceIte,n1c,n2c,kw0,kw1,kw2,y00,y01,ai,aw]
theorem xf3(A:List UInt8):call T 140 [.lst 1 [[.byt A .no]] .no] [] 0=some ⟨.lst 1 [[.lst 1 [[.byt A .no]] .no]] .no,[],[]⟩:=by rw[aj XL];simp (config:= {decide:=true}) only[go_sem,Q0,Q1,Q2,Q3,Q4,Q5,Q6,Q7,Q8,Q9,Qa,Qb,Qc,Qd,Qe,Qf,Qg,Qh,Qi,Qj,Qk,reduceCtorEq,reduceIte,n1c,n2c,kw0,kw1,kw2,y00,y01,ai,aw];rw[ah];simp (config:= {decide:=true}) only[go_sem,Q0,Q1,Q2,Q3,Q4,Q5,Q6,Q7,Q8,Q9,Qa,Qb,Qc,Qd,Qe,Qf,Qg,Qh,Qi,Qj,Qk,reduceCtorEq,reduceIte,n1c,n2c,kw0,kw1,kw2,y00,y01,ai,aw]
theorem Xt(A B:List UInt8)(hA:A.length<=1000000)(hB:B.length<=1000000):call T 140 [.lst 1 [[.byt A .no],[.byt B .no]] .no] [] 0=
 some ⟨.lst 1 [[.lst 1 [[.byt A .no],[.byt B .no]] .no],[.lst 1 [[.byt (ie 0 0 A B) .no]] .no]] .no,[],[]⟩:=by
 have g:=xc0 0 0 A B hA hB;simp only[aB]at g;rw[aj XL];simp (config:= {decide:=true}) only[go_sem,Q0,Q1,Q2,Q3,Q4,Q5,Q6,Q7,Q8,Q9,Qa,Qb,Qc,Qd,Qe,Qf,Qg,Qh,Qi,Qj,Qk,reduceCtorEq,reduceIte,n1c,n2c,kw0,kw1,kw2,y00,y01,ai,aw];rw[ah];simp (config:= {decide:=true}) only[go_sem,Q0,Q1,Q2,Q3,Q4,Q5,Q6,Q7,Q8,Q9,Qa,Qb,Qc,Qd,Qe,Qf,Qg,Qh,Qi,Qj,Qk,reduceCtorEq,reduceIte,n1c,n2c,kw0,kw1,kw2,y00,y01,ai,aw];rw[ah];simp (config:= {decide:=true}) only[go_sem,Q0,Q1,Q2,Q3,Q4,Q5,Q6,Q7,Q8,Q9,Qa,Qb,Qc,Qd,Qe,Qf,Qg,Qh,Qi,Qj,Qk,reduceCtorEq,reduceIte,n1c,n2c,kw0,kw1,kw2,y00,y01,ai,aw,g,NR];rw[ah];simp (config:= {decide:=true}) only[go_sem,Q0,Q1,Q2,Q3,Q4,Q5,Q6,Q7,Q8,Q9,Qa,Qb,Qc,Qd,Qe,Qf,Qg,Qh,Qi,Qj,Qk,reduceCtorEq,reduceIte,n1c,n2c,kw0,kw1,kw2,y00,y01,ai,aw];rw[ah];simp (config:= {decide:=true}) only[go_sem,Q0,Q1,Q2,Q3,Q4,Q5,Q6,Q7,Q8,Q9,Qa,Qb,Qc,Qd,Qe,Qf,Qg,Qh,Qi,Qj,Qk,reduceCtorEq,reduceIte,n1c,n2c,kw0,kw1,kw2,y00,y01,ai,aw]
theorem xk5(A:List UInt8):call T 89 [.int .i64 0,.lst 1 [[.byt A .no]] .no] [] 0=some ⟨.lst 1 [] .no,[],[]⟩:=by have g0:=xf4;have g1:=xf3 A;rw[aj xc9];simp (config:= {decide:=true}) only[go_sem,Q0,Q1,Q2,Q3,Q4,Q5,Q6,Q7,Q8,Q9,Qa,Qb,Qc,Qd,Qe,Qf,Qg,Qh,Qi,Qj,Qk,reduceCtorEq,reduceIte,n1c,n2c,kw0,kw1,kw2,y00,y01,ai,aw,g0,g1,NU,NT];rw[ah];simp (config:= {decide:=true}) only[go_sem,Q0,Q1,Q2,Q3,Q4,Q5,Q6,Q7,Q8,Q9,Qa,Qb,Qc,Qd,Qe,Qf,Qg,Qh,Qi,Qj,Qk,reduceCtorEq,reduceIte,n1c,n2c,kw0,kw1,kw2,y00,y01,ai,aw]
theorem xk4(A B:List UInt8)(hA:A.length<=1000000)(hB:B.length<=1000000):call T 89 [.int .i64 0,.lst 1 [[.byt A .no],[.byt B .no]] .no] [] 0=some ⟨.lst 1 [[.byt B .no]] .no,[],[]⟩:=by
 have g0:=Xu;have g1:=Xt A B hA hB;have c1:B.length<=140737488355328:=by omega
 rw[aj xc9];simp (config:= {decide:=true}) only[go_sem,Q0,Q1,Q2,Q3,Q4,Q5,Q6,Q7,Q8,Q9,Qa,Qb,Qc,Qd,Qe,Qf,Qg,Qh,Qi,Qj,Qk,reduceCtorEq,reduceIte,n1c,n2c,kw0,kw1,kw2,y00,y01,ai,aw,g0,g1,NU,NT];rw[ah];simp (config:= {decide:=true}) only[go_sem,Q0,Q1,Q2,Q3,Q4,Q5,Q6,Q7,Q8,Q9,Qa,Qb,Qc,Qd,Qe,Qf,Qg,Qh,Qi,Qj,Qk,reduceCtorEq,reduceIte,n1c,n2c,kw0,kw1,kw2,y00,y01,ai,aw,x10,c1];rw[ah];simp (config:= {decide:=true}) only[go_sem,Q0,Q1,Q2,Q3,Q4,Q5,Q6,Q7,Q8,Q9,Qa,Qb,Qc,Qd,Qe,Qf,Qg,Qh,Qi,Qj,Qk,reduceCtorEq,reduceIte,n1c,n2c,kw0,kw1,kw2,y00,y01,ai,aw]
theorem xk3(A B:List UInt8)(hA:A.length<=1000000)(hB:B.length<=1000000):call T 89 [.int .i64 1,.lst 1 [[.byt A .no],[.byt B .no]] .no] [] 0=some ⟨.lst 1 [[.byt A .no]] .no,[],[]⟩:=by
 have g0:=Xu;have g1:=Xt A B hA hB;have c1:A.length<=140737488355328:=by omega
 rw[aj xc9];simp (config:= {decide:=true}) only[go_sem,Q0,Q1,Q2,Q3,Q4,Q5,Q6,Q7,Q8,Q9,Qa,Qb,Qc,Qd,Qe,Qf,Qg,Qh,Qi,Qj,Qk,reduceCtorEq,reduceIte,n1c,n2c,kw0,kw1,kw2,y00,y01,ai,aw,g0,g1,NU,NT];rw[ah];simp (config:= {decide:=true}) only[go_sem,Q0,Q1,Q2,Q3,Q4,Q5,Q6,Q7,Q8,Q9,Qa,Qb,Qc,Qd,Qe,Qf,Qg,Qh,Qi,Qj,Qk,reduceCtorEq,reduceIte,n1c,n2c,kw0,kw1,kw2,y00,y01,ai,aw,x11,c1];rw[ah];simp (config:= {decide:=true}) only[go_sem,Q0,Q1,Q2,Q3,Q4,Q5,Q6,Q7,Q8,Q9,Qa,Qb,Qc,Qd,Qe,Qf,Qg,Qh,Qi,Qj,Qk,reduceCtorEq,reduceIte,n1c,n2c,kw0,kw1,kw2,y00,y01,ai,aw]
theorem f86(h:Nat)(hh:h<=3):call T 86 [.int .i64 h] [] 0=some ⟨.bool true,[],[]⟩:=by
 have h1:(0:Int)<=(h:Int):=by omega
 have h2:(h:Int)<=3:=by omega
 rw[aj xjs];simp only[go_sem,Q0,Q1,Q2,Q3,Q4,Q5,Q6,Q7,Q8,Q9,Qa,Qb,Qc,Qd,Qe,Qf,Qg,Qh,Qi,Qj,Qk,reduceCtorEq,reduceIte,h1,h2]
theorem xcX(h:Int)(hh:h<0\/3<h):call T 86 [.int .i64 h] [] 0=some ⟨.bool false,[],[]⟩:=by
 rw[aj xjs]
 by_cases h1:(0:Int)<=h
 ·have h2:¬h<=3:=by omega
  simp only[go_sem,Q0,Q1,Q2,Q3,Q4,Q5,Q6,Q7,Q8,Q9,Qa,Qb,Qc,Qd,Qe,Qf,Qg,Qh,Qi,Qj,Qk,reduceCtorEq,reduceIte,h1,h2]
 ·simp only[go_sem,Q0,Q1,Q2,Q3,Q4,Q5,Q6,Q7,Q8,Q9,Qa,Qb,Qc,Qd,Qe,Qf,Qg,Qh,Qi,Qj,Qk,reduceCtorEq,reduceIte,h1]
theorem f88(seed:List UInt8)(h:Nat)(hs:seed.length<=64):call T 88 [.byt seed .no,.int .i64 h] [] 0=some ⟨.byt (lsV seed h) .no,[],[]⟩:=by have g:=xjf seed Dx [ub h] 32 (by decide) (by decide) hs (by decide) (by simp);unfold Dx ub at g;rw[c32]at g;rw[aj xmf];simp only[go_sem,Q0,Q1,Q2,Q3,Q4,Q5,Q6,Q7,Q8,Q9,Qa,Qb,Qc,Qd,Qe,Qf,Qg,Qh,Qi,Qj,Qk,reduceCtorEq,reduceIte,g,X5,lsV,Dx,ub]
theorem f92(seed:List UInt8)(h:Nat)(hs:seed.length<=64):call T 92 [.byt seed .no,.int .i64 h] [] 0=some ⟨.byt (lsV seed h) .no,[],[]⟩:=by have g:=xjc seed Dx [ub h] 32 (by decide) (by decide) hs (by decide) (by simp);unfold Dx ub at g;rw[c32]at g;rw[aj xmd];simp only[go_sem,Q0,Q1,Q2,Q3,Q4,Q5,Q6,Q7,Q8,Q9,Qa,Qb,Qc,Qd,Qe,Qf,Qg,Qh,Qi,Qj,Qk,reduceCtorEq,reduceIte,g,X2,lsV,Dx,ub]
theorem Xe(seed:List UInt8)(h:Nat):lvs seed h (2^0)=[pubL (lsV seed h) 0]:=rfl
theorem Dy(seed:List UInt8)(h:Nat):lvs seed h (2^1)=[pubL (lsV seed h) 0,pubL (lsV seed h) 1]:=rfl
theorem Xd(seed:List UInt8)(h:Nat):lvs seed h 1=[pubL (lsV seed h) 0]:=rfl
theorem Xc(seed:List UInt8)(h:Nat):lvs seed h 2=[pubL (lsV seed h) 0,pubL (lsV seed h) 1]:=rfl
theorem xk2(seed:List UInt8)(hs:seed.length<=64):call T 90 [.byt seed .no,.int .i64 0] [] 0=some ⟨.lst 1 (bys (lvs seed 0 (2^0))) .no,[],[]⟩:=by have g0:=f88 seed 0 hs;have g1:=xc1 (lsV seed 0) 0 (by rw[eJ];decide) (by omega);simp only[aB]at g0 g1;rw[aj xjr];simp (config:= {decide:=true}) only[go_sem,Q0,Q1,Q2,Q3,Q4,Q5,Q6,Q7,Q8,Q9,Qa,Qb,Qc,Qd,Qe,Qf,Qg,Qh,Qi,Qj,Qk,reduceCtorEq,reduceIte,kw0,kw1,kw2,g0,Rc];rw[ah];simp (config:= {decide:=true}) only[go_sem,Q0,Q1,Q2,Q3,Q4,Q5,Q6,Q7,Q8,Q9,Qa,Qb,Qc,Qd,Qe,Qf,Qg,Qh,Qi,Qj,Qk,reduceCtorEq,reduceIte,kw0,kw1,kw2,g1,NS];rw[ah];simp (config:= {decide:=true}) only[go_sem,Q0,Q1,Q2,Q3,Q4,Q5,Q6,Q7,Q8,Q9,Qa,Qb,Qc,Qd,Qe,Qf,Qg,Qh,Qi,Qj,Qk,reduceCtorEq,reduceIte,kw0,kw1,kw2,Xd,Xe,bys,aC,bH]
theorem xi5(seed:List UInt8)(hs:seed.length<=64):call T 90 [.byt seed .no,.int .i64 1] [] 0=some ⟨.lst 1 (bys (lvs seed 1 (2^1))) .no,[],[]⟩:=by have g0:=f88 seed 1 hs;have g1:=xc1 (lsV seed 1) 0 (by rw[eJ];decide) (by omega);have g2:=xc1 (lsV seed 1) 1 (by rw[eJ];decide) (by omega);simp only[aB,Int.natCast_one]at g0 g1 g2;rw[aj xjr];simp (config:= {decide:=true}) only[go_sem,Q0,Q1,Q2,Q3,Q4,Q5,Q6,Q7,Q8,Q9,Qa,Qb,Qc,Qd,Qe,Qf,Qg,Qh,Qi,Qj,Qk,reduceCtorEq,reduceIte,kw0,kw1,kw2,g0,Rc];rw[ah];simp (config:= {decide:=true}) only[go_sem,Q0,Q1,Q2,Q3,Q4,Q5,Q6,Q7,Q8,Q9,Qa,Qb,Qc,Qd,Qe,Qf,Qg,Qh,Qi,Qj,Qk,reduceCtorEq,reduceIte,kw0,kw1,kw2,g1,NS];rw[ah];simp (config:= {decide:=true}) only[go_sem,Q0,Q1,Q2,Q3,Q4,Q5,Q6,Q7,Q8,Q9,Qa,Qb,Qc,Qd,Qe,Qf,Qg,Qh,Qi,Qj,Qk,reduceCtorEq,reduceIte,kw0,kw1,kw2,g2,NS];rw[ah];simp (config:= {decide:=true}) only[go_sem,Q0,Q1,Q2,Q3,Q4,Q5,Q6,Q7,Q8,Q9,Qa,Qb,Qc,Qd,Qe,Qf,Qg,Qh,Qi,Qj,Qk,reduceCtorEq,reduceIte,kw0,kw1,kw2,Xc,Dy,bys,aC,bH]
theorem xk6(seed:List UInt8)(hs:seed.length<=64):call T 80 [.byt seed .no,.int .i64 0] [] 0=some ⟨.lst 1 (bys (lvs seed 0 (2^0))) .no,[],[]⟩:=by have g0:=f92 seed 0 hs;have g1:=f125 (lsV seed 0) 0 (by rw[eJ];decide) (by omega);simp only[aB]at g0 g1;rw[aj xjt];simp (config:= {decide:=true}) only[go_sem,Q0,Q1,Q2,Q3,Q4,Q5,Q6,Q7,Q8,Q9,Qa,Qb,Qc,Qd,Qe,Qf,Qg,Qh,Qi,Qj,Qk,reduceCtorEq,reduceIte,kw0,kw1,kw2,g0,Rb];rw[ah];simp (config:= {decide:=true}) only[go_sem,Q0,Q1,Q2,Q3,Q4,Q5,Q6,Q7,Q8,Q9,Qa,Qb,Qc,Qd,Qe,Qf,Qg,Qh,Qi,Qj,Qk,reduceCtorEq,reduceIte,kw0,kw1,kw2,g1,NX];rw[ah];simp (config:= {decide:=true}) only[go_sem,Q0,Q1,Q2,Q3,Q4,Q5,Q6,Q7,Q8,Q9,Qa,Qb,Qc,Qd,Qe,Qf,Qg,Qh,Qi,Qj,Qk,reduceCtorEq,reduceIte,kw0,kw1,kw2,Xd,Xe,bys,aC,bH]
theorem xcY(seed:List UInt8)(hs:seed.length<=64):call T 80 [.byt seed .no,.int .i64 1] [] 0=some ⟨.lst 1 (bys (lvs seed 1 (2^1))) .no,[],[]⟩:=by have g0:=f92 seed 1 hs;have g1:=f125 (lsV seed 1) 0 (by rw[eJ];decide) (by omega);have g2:=f125 (lsV seed 1) 1 (by rw[eJ];decide) (by omega);simp only[aB,Int.natCast_one]at g0 g1 g2;rw[aj xjt];simp (config:= {decide:=true}) only[go_sem,Q0,Q1,Q2,Q3,Q4,Q5,Q6,Q7,Q8,Q9,Qa,Qb,Qc,Qd,Qe,Qf,Qg,Qh,Qi,Qj,Qk,reduceCtorEq,reduceIte,kw0,kw1,kw2,g0,Rb];rw[ah];simp (config:= {decide:=true}) only[go_sem,Q0,Q1,Q2,Q3,Q4,Q5,Q6,Q7,Q8,Q9,Qa,Qb,Qc,Qd,Qe,Qf,Qg,Qh,Qi,Qj,Qk,reduceCtorEq,reduceIte,kw0,kw1,kw2,g1,NX];rw[ah];simp (config:= {decide:=true}) only[go_sem,Q0,Q1,Q2,Q3,Q4,Q5,Q6,Q7,Q8,Q9,Qa,Qb,Qc,Qd,Qe,Qf,Qg,Qh,Qi,Qj,Qk,reduceCtorEq,reduceIte,kw0,kw1,kw2,g2,NX];rw[ah];simp (config:= {decide:=true}) only[go_sem,Q0,Q1,Q2,Q3,Q4,Q5,Q6,Q7,Q8,Q9,Qa,Qb,Qc,Qd,Qe,Qf,Qg,Qh,Qi,Qj,Qk,reduceCtorEq,reduceIte,kw0,kw1,kw2,Xc,Dy,bys,aC,bH]
end Go.Proofs.YtkggincjigbelaaGreatDoor
