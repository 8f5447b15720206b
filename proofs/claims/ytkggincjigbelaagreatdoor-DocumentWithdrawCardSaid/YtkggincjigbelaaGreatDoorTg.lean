/- What the functions come to. No condition. -/
import Derived.Test.YtkggincjigbelaaGreatDoorTd
import Derived.Test.YtkggincjigbelaaGreatDoorTe
import Derived.Test.YtkggincjigbelaaGreatDoorTf
open Int renaming natCast_zero -> aJ
open Go.IntKind renaming i64 -> af, u64 -> aW, wrap_u64 -> bJ
open List renaming drop_zero -> bK, length_cons -> aj, length_nil -> ay, map_cons -> aD, map_nil -> b8, nil_append -> aQ
open Nat renaming zero_le -> dB
set_option maxRecDepth 100000
set_option maxHeartbeats 16000000
set_option linter.unusedSimpArgs false
set_option linter.unusedVariables false
namespace Go.Proofs.YtkggincjigbelaaGreatDoor
open Go.Sy
open UInt8 renaming reduceLT -> Q0, reduceLE -> Q1
open Int renaming reduceToNat -> Q2, reduceLE -> Q3, reduceLT -> Q4, reduceEq -> Q5, reduceNe -> Q6, reduceNeg -> Q7, reduceAdd -> Q8, reduceSub -> Q9, reduceMul -> Qa
open Nat renaming reducePow -> Qb, reduceDiv -> Qc, reduceMod -> Qd, reduceAdd -> Qe, reduceSub -> Qf, reduceMul -> Qg, reduceLT -> Qh, reduceLeDiff -> Qi, reduceEqDiff -> Qj, reduceBEq -> Qk
theorem kw0:af.wrap 0=0:=by decide
theorem kw1:af.wrap 1=1:=by decide
theorem kw2:af.wrap 2=2:=by decide
theorem y00:bD .xor .i64 (Int.fdiv 0 (2^min (aW.wrap 0).toNat 64)) 1=1:=by decide
theorem y01:bD .xor .i64 (Int.fdiv 1 (2^min (aW.wrap 0).toNat 64)) 1=0:=by decide
theorem n1c:((1:Nat):Int)=1:=rfl
theorem n2c:((2:Nat):Int)=2:=rfl
theorem sh3(n:Nat)(h:n<=3):af.wrap (1*2^min n 64)=((2^n:Nat):Int):=by rcases (by omega:n=0\/n=1\/n=2\/n=3)with rfl|rfl|rfl|rfl<;>decide
theorem f95(x:List UInt8)(i:Nat)(P:List (List UInt8))(hP:P.length<=3)(hb:∀s∈P,s.length<=1000000)(hi:i<2^P.length)(hx:x.length<=1000000):
 call T 95 [.byt x .no,.int .i64 i,.lst 1 (bys P) .no] [] 0=some ⟨.byt (mZ 0 i P x) .no,[],[]⟩:=by
 have hl:=im P;have h8:(2:Nat)^P.length<=2^3:=Nat.pow_le_pow_right (by decide) hP;have g:=l95 P hP hb _ 0 i x (.id 128) rfl (dB _) (by omega) hx;have h1:¬(3:Int)<P.length:=by omega
 have h1n:¬3<P.length:=by omega
 have h2:¬(i:Int)<0:=by omega
 have e1:aW.wrap (P.length:Int)=P.length:=by rw[bJ];omega
 have e2:=sh3 P.length hP;have h3:¬(2:Nat)^P.length<=i:=by omega
 have h3I:¬((2^P.length:Nat):Int)<=(i:Int):=by omega
 have c2:x.length<=140737488355328:=by omega
 simp only[aJ,bK]at g;rw[ao Zs]
 by_cases hz:0=P.length
 ·simp only[go_sem,Q0,Q1,Q2,Q3,Q4,Q5,Q6,Q7,Q8,Q9,Qa,Qb,Qc,Qd,Qe,Qf,Qg,Qh,Qi,Qj,Qk,reduceCtorEq,reduceIte,hl,h1,h1n,h2,e1,e2,h3,h3I,c2,g,aQ,if_pos hz]
 ·simp only[go_sem,Q0,Q1,Q2,Q3,Q4,Q5,Q6,Q7,Q8,Q9,Qa,Qb,Qc,Qd,Qe,Qf,Qg,Qh,Qi,Qj,Qk,reduceCtorEq,reduceIte,hl,h1,h1n,h2,e1,e2,h3,h3I,c2,g,aQ,if_neg hz]
theorem UK:call T 122 [.int .i64 2] [] 0=some ⟨.bool true,[],[]⟩:=by rw[ao Vv];simp (config:= {decide:=true}) only[go_sem,Q0,Q1,Q2,Q3,Q4,Q5,Q6,Q7,Q8,Q9,Qa,Qb,Qc,Qd,Qe,Qf,Qg,Qh,Qi,Qj,Qk,reduceCtorEq,reduceIte,n1c,n2c,kw0,kw1,kw2,y00,y01,aj,ay]
theorem Zc(A B:List UInt8)(hA:A.length<=1000000)(hB:B.length<=1000000):call T 123 [.int .i64 0,.lst 1 [[.byt A .no],[.byt B .no]] .no] [] 0=some ⟨.lst 1 [[.byt (gD 0 0 A B) .no]] .no,[],[]⟩:=by have g:=Y1 0 0 A B hA hB;simp only[aJ]at g;rw[ao Vu];simp only[go_sem,Q0,Q1,Q2,Q3,Q4,Q5,Q6,Q7,Q8,Q9,Qa,Qb,Qc,Qd,Qe,Qf,Qg,Qh,Qi,Qj,Qk,reduceCtorEq,reduceIte];rw[aq];simp (config:= {decide:=true}) only[go_sem,Q0,Q1,Q2,Q3,Q4,Q5,Q6,Q7,Q8,Q9,Qa,Qb,Qc,Qd,Qe,Qf,Qg,Qh,Qi,Qj,Qk,reduceCtorEq,reduceIte,n1c,n2c,kw0,kw1,kw2,y00,y01,aj,ay,g,VM];rw[aq];simp (config:= {decide:=true}) only[go_sem,Q0,Q1,Q2,Q3,Q4,Q5,Q6,Q7,Q8,Q9,Qa,Qb,Qc,Qd,Qe,Qf,Qg,Qh,Qi,Qj,Qk,reduceCtorEq,reduceIte,n1c,n2c,kw0,kw1,kw2,y00,y01,aj,ay]
theorem YN(A B:List UInt8)(hA:A.length<=1000000)(hB:B.length<=1000000):call T 79 [.lst 1 [[.byt A .no],[.byt B .no]] .no] [] 0=some ⟨.byt (gD 0 0 A B) .no,[],[]⟩:=by have g:=Zb (gD 0 0 A B) (by rw[gD,dt];decide);have g0:=UK;have g1:=Zc A B hA hB;rw[ao Zy];simp (config:= {decide:=true}) only[go_sem,Q0,Q1,Q2,Q3,Q4,Q5,Q6,Q7,Q8,Q9,Qa,Qb,Qc,Qd,Qe,Qf,Qg,Qh,Qi,Qj,Qk,reduceCtorEq,reduceIte,n1c,n2c,kw0,kw1,kw2,y00,y01,aj,ay,g0,VW];rw[aq];simp (config:= {decide:=true}) only[go_sem,Q0,Q1,Q2,Q3,Q4,Q5,Q6,Q7,Q8,Q9,Qa,Qb,Qc,Qd,Qe,Qf,Qg,Qh,Qi,Qj,Qk,reduceCtorEq,reduceIte,n1c,n2c,kw0,kw1,kw2,y00,y01,aj,ay,g1,VV];rw[aq];simp (config:= {decide:=true}) only[go_sem,Q0,Q1,Q2,Q3,Q4,Q5,Q6,Q7,Q8,Q9,Qa,Qb,Qc,Qd,Qe,Qf,Qg,Qh,Qi,Qj,Qk,reduceCtorEq,reduceIte,n1c,n2c,kw0,kw1,kw2,y00,y01,aj,ay,g,VU]
theorem x10:bD .xor .i64 0 1=1:=by decide
theorem x11:bD .xor .i64 1 1=0:=by decide
theorem UF(A:List UInt8):call T 140 [.lst 1 [[.byt A .no]] .no] [] 0=some ⟨.lst 1 [[.lst 1 [[.byt A .no]] .no]] .no,[],[]⟩:=by rw[ao M6];simp (config:= {decide:=true}) only[go_sem,Q0,Q1,Q2,Q3,Q4,Q5,Q6,Q7,Q8,Q9,Qa,Qb,Qc,Qd,Qe,Qf,Qg,Qh,Qi,Qj,Qk,reduceCtorEq,reduceIte,n1c,n2c,kw0,kw1,kw2,y00,y01,aj,ay];rw[aq];simp (config:= {decide:=true}) only[go_sem,Q0,Q1,Q2,Q3,Q4,Q5,Q6,Q7,Q8,Q9,Qa,Qb,Qc,Qd,Qe,Qf,Qg,Qh,Qi,Qj,Qk,reduceCtorEq,reduceIte,n1c,n2c,kw0,kw1,kw2,y00,y01,aj,ay]
theorem MW(A B:List UInt8)(hA:A.length<=1000000)(hB:B.length<=1000000):call T 140 [.lst 1 [[.byt A .no],[.byt B .no]] .no] [] 0=
 some ⟨.lst 1 [[.lst 1 [[.byt A .no],[.byt B .no]] .no],[.lst 1 [[.byt (gD 0 0 A B) .no]] .no]] .no,[],[]⟩:=by
 have g:=RS 0 0 A B hA hB;simp only[aJ]at g;rw[ao M6];simp (config:= {decide:=true}) only[go_sem,Q0,Q1,Q2,Q3,Q4,Q5,Q6,Q7,Q8,Q9,Qa,Qb,Qc,Qd,Qe,Qf,Qg,Qh,Qi,Qj,Qk,reduceCtorEq,reduceIte,n1c,n2c,kw0,kw1,kw2,y00,y01,aj,ay];rw[aq];simp (config:= {decide:=true}) only[go_sem,Q0,Q1,Q2,Q3,Q4,Q5,Q6,Q7,Q8,Q9,Qa,Qb,Qc,Qd,Qe,Qf,Qg,Qh,Qi,Qj,Qk,reduceCtorEq,reduceIte,n1c,n2c,kw0,kw1,kw2,y00,y01,aj,ay];rw[aq];simp (config:= {decide:=true}) only[go_sem,Q0,Q1,Q2,Q3,Q4,Q5,Q6,Q7,Q8,Q9,Qa,Qb,Qc,Qd,Qe,Qf,Qg,Qh,Qi,Qj,Qk,reduceCtorEq,reduceIte,n1c,n2c,kw0,kw1,kw2,y00,y01,aj,ay,g,Fg];rw[aq];simp (config:= {decide:=true}) only[go_sem,Q0,Q1,Q2,Q3,Q4,Q5,Q6,Q7,Q8,Q9,Qa,Qb,Qc,Qd,Qe,Qf,Qg,Qh,Qi,Qj,Qk,reduceCtorEq,reduceIte,n1c,n2c,kw0,kw1,kw2,y00,y01,aj,ay];rw[aq];simp (config:= {decide:=true}) only[go_sem,Q0,Q1,Q2,Q3,Q4,Q5,Q6,Q7,Q8,Q9,Qa,Qb,Qc,Qd,Qe,Qf,Qg,Qh,Qi,Qj,Qk,reduceCtorEq,reduceIte,n1c,n2c,kw0,kw1,kw2,y00,y01,aj,ay]
theorem YL(A:List UInt8):call T 89 [.int .i64 0,.lst 1 [[.byt A .no]] .no] [] 0=some ⟨.lst 1 [] .no,[],[]⟩:=by have g0:=UG;have g1:=UF A;rw[ao RX];simp (config:= {decide:=true}) only[go_sem,Q0,Q1,Q2,Q3,Q4,Q5,Q6,Q7,Q8,Q9,Qa,Qb,Qc,Qd,Qe,Qf,Qg,Qh,Qi,Qj,Qk,reduceCtorEq,reduceIte,n1c,n2c,kw0,kw1,kw2,y00,y01,aj,ay,g0,g1,Fl,Fj];rw[aq];simp (config:= {decide:=true}) only[go_sem,Q0,Q1,Q2,Q3,Q4,Q5,Q6,Q7,Q8,Q9,Qa,Qb,Qc,Qd,Qe,Qf,Qg,Qh,Qi,Qj,Qk,reduceCtorEq,reduceIte,n1c,n2c,kw0,kw1,kw2,y00,y01,aj,ay]
theorem YK(A B:List UInt8)(hA:A.length<=1000000)(hB:B.length<=1000000):call T 89 [.int .i64 0,.lst 1 [[.byt A .no],[.byt B .no]] .no] [] 0=some ⟨.lst 1 [[.byt B .no]] .no,[],[]⟩:=by
 have g0:=MX;have g1:=MW A B hA hB;have c1:B.length<=140737488355328:=by omega
 rw[ao RX];simp (config:= {decide:=true}) only[go_sem,Q0,Q1,Q2,Q3,Q4,Q5,Q6,Q7,Q8,Q9,Qa,Qb,Qc,Qd,Qe,Qf,Qg,Qh,Qi,Qj,Qk,reduceCtorEq,reduceIte,n1c,n2c,kw0,kw1,kw2,y00,y01,aj,ay,g0,g1,Fl,Fj];rw[aq];simp (config:= {decide:=true}) only[go_sem,Q0,Q1,Q2,Q3,Q4,Q5,Q6,Q7,Q8,Q9,Qa,Qb,Qc,Qd,Qe,Qf,Qg,Qh,Qi,Qj,Qk,reduceCtorEq,reduceIte,n1c,n2c,kw0,kw1,kw2,y00,y01,aj,ay,x10,c1];rw[aq];simp (config:= {decide:=true}) only[go_sem,Q0,Q1,Q2,Q3,Q4,Q5,Q6,Q7,Q8,Q9,Qa,Qb,Qc,Qd,Qe,Qf,Qg,Qh,Qi,Qj,Qk,reduceCtorEq,reduceIte,n1c,n2c,kw0,kw1,kw2,y00,y01,aj,ay]
theorem YJ(A B:List UInt8)(hA:A.length<=1000000)(hB:B.length<=1000000):call T 89 [.int .i64 1,.lst 1 [[.byt A .no],[.byt B .no]] .no] [] 0=some ⟨.lst 1 [[.byt A .no]] .no,[],[]⟩:=by
 have g0:=MX;have g1:=MW A B hA hB;have c1:A.length<=140737488355328:=by omega
 rw[ao RX];simp (config:= {decide:=true}) only[go_sem,Q0,Q1,Q2,Q3,Q4,Q5,Q6,Q7,Q8,Q9,Qa,Qb,Qc,Qd,Qe,Qf,Qg,Qh,Qi,Qj,Qk,reduceCtorEq,reduceIte,n1c,n2c,kw0,kw1,kw2,y00,y01,aj,ay,g0,g1,Fl,Fj];rw[aq];simp (config:= {decide:=true}) only[go_sem,Q0,Q1,Q2,Q3,Q4,Q5,Q6,Q7,Q8,Q9,Qa,Qb,Qc,Qd,Qe,Qf,Qg,Qh,Qi,Qj,Qk,reduceCtorEq,reduceIte,n1c,n2c,kw0,kw1,kw2,y00,y01,aj,ay,x11,c1];rw[aq];simp (config:= {decide:=true}) only[go_sem,Q0,Q1,Q2,Q3,Q4,Q5,Q6,Q7,Q8,Q9,Qa,Qb,Qc,Qd,Qe,Qf,Qg,Qh,Qi,Qj,Qk,reduceCtorEq,reduceIte,n1c,n2c,kw0,kw1,kw2,y00,y01,aj,ay]
theorem f86(h:Nat)(hh:h<=3):call T 86 [.int .i64 h] [] 0=some ⟨.bool true,[],[]⟩:=by
 have h1:(0:Int)<=(h:Int):=by omega
 have h2:(h:Int)<=3:=by omega
 rw[ao XB];simp only[go_sem,Q0,Q1,Q2,Q3,Q4,Q5,Q6,Q7,Q8,Q9,Qa,Qb,Qc,Qd,Qe,Qf,Qg,Qh,Qi,Qj,Qk,reduceCtorEq,reduceIte,h1,h2]
theorem RQ(h:Int)(hh:h<0\/3<h):call T 86 [.int .i64 h] [] 0=some ⟨.bool false,[],[]⟩:=by
 rw[ao XB]
 by_cases h1:(0:Int)<=h
 ·have h2:¬h<=3:=by omega
  simp only[go_sem,Q0,Q1,Q2,Q3,Q4,Q5,Q6,Q7,Q8,Q9,Qa,Qb,Qc,Qd,Qe,Qf,Qg,Qh,Qi,Qj,Qk,reduceCtorEq,reduceIte,h1,h2]
 ·simp only[go_sem,Q0,Q1,Q2,Q3,Q4,Q5,Q6,Q7,Q8,Q9,Qa,Qb,Qc,Qd,Qe,Qf,Qg,Qh,Qi,Qj,Qk,reduceCtorEq,reduceIte,h1]
theorem f88(seed:List UInt8)(h:Nat)(hs:seed.length<=64):call T 88 [.byt seed .no,.int .i64 h] [] 0=some ⟨.byt (lsV seed h) .no,[],[]⟩:=by have g:=Xr seed xN [ub h] 32 (by decide) (by decide) hs (by decide) (by simp);unfold xN ub at g;rw[c32]at g;rw[ao Zv];simp only[go_sem,Q0,Q1,Q2,Q3,Q4,Q5,Q6,Q7,Q8,Q9,Qa,Qb,Qc,Qd,Qe,Qf,Qg,Qh,Qi,Qj,Qk,reduceCtorEq,reduceIte,g,Nj,lsV,xN,ub]
theorem f92(seed:List UInt8)(h:Nat)(hs:seed.length<=64):call T 92 [.byt seed .no,.int .i64 h] [] 0=some ⟨.byt (lsV seed h) .no,[],[]⟩:=by have g:=Xq seed xN [ub h] 32 (by decide) (by decide) hs (by decide) (by simp);unfold xN ub at g;rw[c32]at g;rw[ao Zu];simp only[go_sem,Q0,Q1,Q2,Q3,Q4,Q5,Q6,Q7,Q8,Q9,Qa,Qb,Qc,Qd,Qe,Qf,Qg,Qh,Qi,Qj,Qk,reduceCtorEq,reduceIte,g,Ni,lsV,xN,ub]
theorem Xi(seed:List UInt8)(h:Nat):lvs seed h (2^0)=[pubL (lsV seed h) 0]:=rfl
theorem GU(seed:List UInt8)(h:Nat):lvs seed h (2^1)=[pubL (lsV seed h) 0,pubL (lsV seed h) 1]:=rfl
theorem Uh(seed:List UInt8)(h:Nat):lvs seed h 1=[pubL (lsV seed h) 0]:=rfl
theorem MI(seed:List UInt8)(h:Nat):lvs seed h 2=[pubL (lsV seed h) 0,pubL (lsV seed h) 1]:=rfl
theorem YI(seed:List UInt8)(hs:seed.length<=64):call T 90 [.byt seed .no,.int .i64 0] [] 0=some ⟨.lst 1 (bys (lvs seed 0 (2^0))) .no,[],[]⟩:=by have g0:=f88 seed 0 hs;have g1:=RT (lsV seed 0) 0 (by rw[gC];decide) (by omega);simp only[aJ]at g0 g1;rw[ao XA];simp (config:= {decide:=true}) only[go_sem,Q0,Q1,Q2,Q3,Q4,Q5,Q6,Q7,Q8,Q9,Qa,Qb,Qc,Qd,Qe,Qf,Qg,Qh,Qi,Qj,Qk,reduceCtorEq,reduceIte,kw0,kw1,kw2,g0,HY];rw[aq];simp (config:= {decide:=true}) only[go_sem,Q0,Q1,Q2,Q3,Q4,Q5,Q6,Q7,Q8,Q9,Qa,Qb,Qc,Qd,Qe,Qf,Qg,Qh,Qi,Qj,Qk,reduceCtorEq,reduceIte,kw0,kw1,kw2,g1,Fh];rw[aq];simp (config:= {decide:=true}) only[go_sem,Q0,Q1,Q2,Q3,Q4,Q5,Q6,Q7,Q8,Q9,Qa,Qb,Qc,Qd,Qe,Qf,Qg,Qh,Qi,Qj,Qk,reduceCtorEq,reduceIte,kw0,kw1,kw2,Uh,Xi,bys,aD,b8]
theorem Xk(seed:List UInt8)(hs:seed.length<=64):call T 90 [.byt seed .no,.int .i64 1] [] 0=some ⟨.lst 1 (bys (lvs seed 1 (2^1))) .no,[],[]⟩:=by have g0:=f88 seed 1 hs;have g1:=RT (lsV seed 1) 0 (by rw[gC];decide) (by omega);have g2:=RT (lsV seed 1) 1 (by rw[gC];decide) (by omega);simp only[aJ,Int.natCast_one]at g0 g1 g2;rw[ao XA];simp (config:= {decide:=true}) only[go_sem,Q0,Q1,Q2,Q3,Q4,Q5,Q6,Q7,Q8,Q9,Qa,Qb,Qc,Qd,Qe,Qf,Qg,Qh,Qi,Qj,Qk,reduceCtorEq,reduceIte,kw0,kw1,kw2,g0,HY];rw[aq];simp (config:= {decide:=true}) only[go_sem,Q0,Q1,Q2,Q3,Q4,Q5,Q6,Q7,Q8,Q9,Qa,Qb,Qc,Qd,Qe,Qf,Qg,Qh,Qi,Qj,Qk,reduceCtorEq,reduceIte,kw0,kw1,kw2,g1,Fh];rw[aq];simp (config:= {decide:=true}) only[go_sem,Q0,Q1,Q2,Q3,Q4,Q5,Q6,Q7,Q8,Q9,Qa,Qb,Qc,Qd,Qe,Qf,Qg,Qh,Qi,Qj,Qk,reduceCtorEq,reduceIte,kw0,kw1,kw2,g2,Fh];rw[aq];simp (config:= {decide:=true}) only[go_sem,Q0,Q1,Q2,Q3,Q4,Q5,Q6,Q7,Q8,Q9,Qa,Qb,Qc,Qd,Qe,Qf,Qg,Qh,Qi,Qj,Qk,reduceCtorEq,reduceIte,kw0,kw1,kw2,MI,GU,bys,aD,b8]
theorem YM(seed:List UInt8)(hs:seed.length<=64):call T 80 [.byt seed .no,.int .i64 1] [] 0=some ⟨.lst 1 (bys (lvs seed 1 (2^1))) .no,[],[]⟩:=by have g0:=f92 seed 1 hs;have g1:=f125 (lsV seed 1) 0 (by rw[gC];decide) (by omega);have g2:=f125 (lsV seed 1) 1 (by rw[gC];decide) (by omega);simp only[aJ,Int.natCast_one]at g0 g1 g2;rw[ao Zx];simp (config:= {decide:=true}) only[go_sem,Q0,Q1,Q2,Q3,Q4,Q5,Q6,Q7,Q8,Q9,Qa,Qb,Qc,Qd,Qe,Qf,Qg,Qh,Qi,Qj,Qk,reduceCtorEq,reduceIte,kw0,kw1,kw2,g0,Z5];rw[aq];simp (config:= {decide:=true}) only[go_sem,Q0,Q1,Q2,Q3,Q4,Q5,Q6,Q7,Q8,Q9,Qa,Qb,Qc,Qd,Qe,Qf,Qg,Qh,Qi,Qj,Qk,reduceCtorEq,reduceIte,kw0,kw1,kw2,g1,Nn];rw[aq];simp (config:= {decide:=true}) only[go_sem,Q0,Q1,Q2,Q3,Q4,Q5,Q6,Q7,Q8,Q9,Qa,Qb,Qc,Qd,Qe,Qf,Qg,Qh,Qi,Qj,Qk,reduceCtorEq,reduceIte,kw0,kw1,kw2,g2,Nn];rw[aq];simp (config:= {decide:=true}) only[go_sem,Q0,Q1,Q2,Q3,Q4,Q5,Q6,Q7,Q8,Q9,Qa,Qb,Qc,Qd,Qe,Qf,Qg,Qh,Qi,Qj,Qk,reduceCtorEq,reduceIte,kw0,kw1,kw2,MI,GU,bys,aD,b8]
end Go.Proofs.YtkggincjigbelaaGreatDoor
