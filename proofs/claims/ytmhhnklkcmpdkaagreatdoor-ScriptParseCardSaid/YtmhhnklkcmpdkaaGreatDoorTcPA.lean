/- Contracts. No condition. -/
import Derived.Test.YtmhhnklkcmpdkaaGreatDoorTbPA
open Int renaming cast_ofNat_Int -> dw, natCast_zero -> aA
open Go.IntKind renaming i64 -> ai, u64 -> aS, wrap_u64 -> dU
open List renaming cons_append -> br, getD_eq_getElem?_getD -> aa, length_append -> ac, length_cons -> ah, length_drop -> aX, length_map -> aC, length_nil -> au, length_replicate -> dG, length_take -> av, map_cons -> aG, map_nil -> cV, mem_append -> an, mem_map -> aT, mem_singleton -> bX, nil_append -> aR, replicate -> aJ, take_of_length_le -> bh
open Nat renaming le_refl -> bc, zero_le -> bC
open UInt8 renaming ofInt -> dQ
set_option maxRecDepth 100000
set_option maxHeartbeats 16000000
set_option linter.unusedSimpArgs false
set_option linter.unusedVariables false
namespace Go.Proofs.YtmhhnklkcmpdkaaGreatDoor
open Go.Sy
open UInt8 renaming reduceLT -> Q0, reduceLE -> Q1
open Int renaming reduceToNat -> Q2, reduceLE -> Q3, reduceLT -> Q4, reduceEq -> Q5, reduceNe -> Q6, reduceNeg -> Q7, reduceAdd -> Q8, reduceSub -> Q9, reduceMul -> Qa
open Nat renaming reducePow -> Qb, reduceDiv -> Qc, reduceMod -> Qd, reduceAdd -> Qe, reduceSub -> Qf, reduceMul -> Qg, reduceLT -> Qh, reduceLeDiff -> Qi, reduceEqDiff -> Qj, reduceBEq -> Qk
attribute [go_sem] dw
theorem kw0:ai.wrap 0=0:=by decide
theorem kw1:ai.wrap 1=1:=by decide
theorem kw2:ai.wrap 2=2:=by decide
theorem y00:b9 .xor .i64 (Int.fdiv 0 (2^min (aS.wrap 0).toNat 64)) 1=1:=by decide
theorem y01:b9 .xor .i64 (Int.fdiv 1 (2^min (aS.wrap 0).toNat 64)) 1=0:=by decide
theorem n1c:((1:Nat):Int)=1:=rfl
theorem n2c:((2:Nat):Int)=2:=rfl
theorem xhc:call T 236 [.int .i64 1] [] 0=some ⟨.bool true,[],[]⟩:=by rw[am Zg];simp+decide only[go_sem,Q0,Q1,Q2,Q3,Q4,Q5,Q6,Q7,Q8,Q9,Qa,Qb,Qc,Qd,Qe,Qf,Qg,Qh,Qi,Qj,Qk,reduceCtorEq,reduceIte,n1c,n2c,kw0,kw1,kw2,y00,y01,ah,au]
theorem Y5:call T 236 [.int .i64 2] [] 0=some ⟨.bool true,[],[]⟩:=by rw[am Zg];simp+decide only[go_sem,Q0,Q1,Q2,Q3,Q4,Q5,Q6,Q7,Q8,Q9,Qa,Qb,Qc,Qd,Qe,Qf,Qg,Qh,Qi,Qj,Qk,reduceCtorEq,reduceIte,n1c,n2c,kw0,kw1,kw2,y00,y01,ah,au]
theorem xkZ(A B:d9)(y:A.length<=1000000)(h:B.length<=1000000):call T 237 [.int .i64 0,.lst 1 [[.byt A .no],[.byt B .no]] .no] [] 0=some ⟨.lst 1 [[.byt (xev 0 0 A B) .no]] .no,[],[]⟩:=by have g:=xmZ 0 0 A B y h;simp only[aA]at g;rw[am xhP];simp only[go_sem,Q0,Q1,Q2,Q3,Q4,Q5,Q6,Q7,Q8,Q9,Qa,Qb,Qc,Qd,Qe,Qf,Qg,Qh,Qi,Qj,Qk,reduceCtorEq,reduceIte];rw[aj];simp+decide only[go_sem,Q0,Q1,Q2,Q3,Q4,Q5,Q6,Q7,Q8,Q9,Qa,Qb,Qc,Qd,Qe,Qf,Qg,Qh,Qi,Qj,Qk,reduceCtorEq,reduceIte,n1c,n2c,kw0,kw1,kw2,y00,y01,ah,au,g,xiB];rw[aj];simp+decide only[go_sem,Q0,Q1,Q2,Q3,Q4,Q5,Q6,Q7,Q8,Q9,Qa,Qb,Qc,Qd,Qe,Qf,Qg,Qh,Qi,Qj,Qk,reduceCtorEq,reduceIte,n1c,n2c,kw0,kw1,kw2,y00,y01,ah,au]
theorem xhg(A:d9):call T 213 [.int .i64 0,.lst 1 [[.byt A .no]] .no] [] 0=some ⟨.lst 1 [] .no,[],[]⟩:=by have g0:=xhc;rw[am Pz];simp+decide only[go_sem,Q0,Q1,Q2,Q3,Q4,Q5,Q6,Q7,Q8,Q9,Qa,Qb,Qc,Qd,Qe,Qf,Qg,Qh,Qi,Qj,Qk,reduceCtorEq,reduceIte,n1c,n2c,kw0,kw1,kw2,y00,y01,ah,au,g0,PD];rw[aj];simp+decide only[go_sem,Q0,Q1,Q2,Q3,Q4,Q5,Q6,Q7,Q8,Q9,Qa,Qb,Qc,Qd,Qe,Qf,Qg,Qh,Qi,Qj,Qk,reduceCtorEq,reduceIte,n1c,n2c,kw0,kw1,kw2,y00,y01,ah,au]
theorem x10:b9 .xor .i64 0 1=1:=by decide
theorem x11:b9 .xor .i64 1 1=0:=by decide
theorem xhf(A B:d9)(y:A.length<=1000000)(h:B.length<=1000000):call T 213 [.int .i64 0,.lst 1 [[.byt A .no],[.byt B .no]] .no] [] 0=some ⟨.lst 1 [[.byt B .no]] .no,[],[]⟩:=by have g:=xkY B (by omega);have g0:=Y5;have g1:=xkZ A B y h;rw[am Pz];simp+decide only[go_sem,Q0,Q1,Q2,Q3,Q4,Q5,Q6,Q7,Q8,Q9,Qa,Qb,Qc,Qd,Qe,Qf,Qg,Qh,Qi,Qj,Qk,reduceCtorEq,reduceIte,n1c,n2c,kw0,kw1,kw2,y00,y01,ah,au,g0,PD];rw[aj];simp+decide only[go_sem,Q0,Q1,Q2,Q3,Q4,Q5,Q6,Q7,Q8,Q9,Qa,Qb,Qc,Qd,Qe,Qf,Qg,Qh,Qi,Qj,Qk,reduceCtorEq,reduceIte,n1c,n2c,kw0,kw1,kw2,y00,y01,ah,au,x10,g,g1,ZB,ZA];rw[aj];simp+decide only[go_sem,Q0,Q1,Q2,Q3,Q4,Q5,Q6,Q7,Q8,Q9,Qa,Qb,Qc,Qd,Qe,Qf,Qg,Qh,Qi,Qj,Qk,reduceCtorEq,reduceIte,n1c,n2c,kw0,kw1,kw2,y00,y01,ah,au]
theorem xhe(A B:d9)(y:A.length<=1000000)(h:B.length<=1000000):call T 213 [.int .i64 1,.lst 1 [[.byt A .no],[.byt B .no]] .no] [] 0=some ⟨.lst 1 [[.byt A .no]] .no,[],[]⟩:=by have g:=xkY A (by omega);have g0:=Y5;have g1:=xkZ A B y h;rw[am Pz];simp+decide only[go_sem,Q0,Q1,Q2,Q3,Q4,Q5,Q6,Q7,Q8,Q9,Qa,Qb,Qc,Qd,Qe,Qf,Qg,Qh,Qi,Qj,Qk,reduceCtorEq,reduceIte,n1c,n2c,kw0,kw1,kw2,y00,y01,ah,au,g0,PD];rw[aj];simp+decide only[go_sem,Q0,Q1,Q2,Q3,Q4,Q5,Q6,Q7,Q8,Q9,Qa,Qb,Qc,Qd,Qe,Qf,Qg,Qh,Qi,Qj,Qk,reduceCtorEq,reduceIte,n1c,n2c,kw0,kw1,kw2,y00,y01,ah,au,x11,g,g1,ZB,ZA];rw[aj];simp+decide only[go_sem,Q0,Q1,Q2,Q3,Q4,Q5,Q6,Q7,Q8,Q9,Qa,Qb,Qc,Qd,Qe,Qf,Qg,Qh,Qi,Qj,Qk,reduceCtorEq,reduceIte,n1c,n2c,kw0,kw1,kw2,y00,y01,ah,au]
theorem Sg(y:d9)(h:Nat)(z:y.length<=64):call T 212 [.byt y .no,.int .i64 h] [] 0=some ⟨.byt (lsV y h) .no,[],[]⟩:=by have g:=f244 y Tf [ub h] 32 (by decide) (by decide) z (by decide) (by simp);unfold Tf ub at g;rw[c32]at g;rw[am xh2];simp only[go_sem,Q0,Q1,Q2,Q3,Q4,Q5,Q6,Q7,Q8,Q9,Qa,Qb,Qc,Qd,Qe,Qf,Qg,Qh,Qi,Qj,Qk,reduceCtorEq,reduceIte,g,Zz,lsV,Tf,ub]
theorem xkS(y:d9)(h:Nat):lvs y h (2^0)=[pubL (lsV y h) 0]:=rfl
theorem xeu(y:d9)(h:Nat):lvs y h (2^1)=[pubL (lsV y h) 0,pubL (lsV y h) 1]:=rfl
theorem xgQ(y:d9)(h:Nat):lvs y h 1=[pubL (lsV y h) 0]:=rfl
theorem xgP(y:d9)(h:Nat):lvs y h 2=[pubL (lsV y h) 0,pubL (lsV y h) 1]:=rfl
theorem xhi(h:d9)(y:h.length<=64):call T 174 [.byt h .no,.int .i64 0] [] 0=some ⟨.lst 1 (bys (lvs h 0 (2^0))) .no,[],[]⟩:=by have g0:=Sg h 0 y;have g1:=xeA (lsV h 0) 0 (by rw[lQ];decide) (by omega);simp only[aA]at g0 g1;rw[am Zk];simp+decide only[go_sem,Q0,Q1,Q2,Q3,Q4,Q5,Q6,Q7,Q8,Q9,Qa,Qb,Qc,Qd,Qe,Qf,Qg,Qh,Qi,Qj,Qk,reduceCtorEq,reduceIte,kw0,kw1,kw2,g0,yl];rw[aj];simp+decide only[go_sem,Q0,Q1,Q2,Q3,Q4,Q5,Q6,Q7,Q8,Q9,Qa,Qb,Qc,Qd,Qe,Qf,Qg,Qh,Qi,Qj,Qk,reduceCtorEq,reduceIte,kw0,kw1,kw2,g1,PC];rw[aj];simp+decide only[go_sem,Q0,Q1,Q2,Q3,Q4,Q5,Q6,Q7,Q8,Q9,Qa,Qb,Qc,Qd,Qe,Qf,Qg,Qh,Qi,Qj,Qk,reduceCtorEq,reduceIte,kw0,kw1,kw2,xgQ,xkS,bys,aG,cV]
theorem Y6(h:d9)(z:h.length<=64):call T 174 [.byt h .no,.int .i64 1] [] 0=some ⟨.lst 1 (bys (lvs h 1 (2^1))) .no,[],[]⟩:=by have g0:=Sg h 1 z;have g1:=xeA (lsV h 1) 0 (by rw[lQ];decide) (by omega);have y:=xeA (lsV h 1) 1 (by rw[lQ];decide) (by omega);simp only[aA,Int.natCast_one]at g0 g1 y;rw[am Zk];simp+decide only[go_sem,Q0,Q1,Q2,Q3,Q4,Q5,Q6,Q7,Q8,Q9,Qa,Qb,Qc,Qd,Qe,Qf,Qg,Qh,Qi,Qj,Qk,reduceCtorEq,reduceIte,kw0,kw1,kw2,g0,yl];rw[aj];simp+decide only[go_sem,Q0,Q1,Q2,Q3,Q4,Q5,Q6,Q7,Q8,Q9,Qa,Qb,Qc,Qd,Qe,Qf,Qg,Qh,Qi,Qj,Qk,reduceCtorEq,reduceIte,kw0,kw1,kw2,g1,PC];rw[aj];simp+decide only[go_sem,Q0,Q1,Q2,Q3,Q4,Q5,Q6,Q7,Q8,Q9,Qa,Qb,Qc,Qd,Qe,Qf,Qg,Qh,Qi,Qj,Qk,reduceCtorEq,reduceIte,kw0,kw1,kw2,y,PC];rw[aj];simp+decide only[go_sem,Q0,Q1,Q2,Q3,Q4,Q5,Q6,Q7,Q8,Q9,Qa,Qb,Qc,Qd,Qe,Qf,Qg,Qh,Qi,Qj,Qk,reduceCtorEq,reduceIte,kw0,kw1,kw2,xgP,xeu,bys,aG,cV]
def tN(h y:Int):Prop:=h<0\/3<h\/y<0\/ai.wrap (1*2^min (aS.wrap h).toNat 64)<=y
instance (h leaf:Int):Decidable (tN h leaf):=by unfold tN;infer_instance
def sgn(z:d9)(h y:Int)(C:d9):d9:=if tN h y then []else th z h.toNat y.toNat C
theorem xdG(h:Int):tN 0 h↔(h<0\/1<=h):=by
 have e:ai.wrap (1*2^min (aS.wrap 0).toNat 64)=1:=by decide
 unfold tN;rw[e];omega
theorem xdF(h:Int):tN 1 h↔(h<0\/2<=h):=by
 have e:ai.wrap (1*2^min (aS.wrap 1).toNat 64)=2:=by decide
 unfold tN;rw[e];omega
theorem w0:aS.wrap 0=0:=by decide
theorem w1:aS.wrap 1=1:=by decide
theorem n57(z:d9)(h y:Int)(E:d9)(hn:tN h y):call T 143 [.byt z .no,.int .i64 h,.int .i64 y,.byt E .no] [] 0=some ⟨.byt [] .no,[],[]⟩:=by
 rw[am El]
 by_cases C:h<0
 ·simp only[go_sem,Q0,Q1,Q2,Q3,Q4,Q5,Q6,Q7,Q8,Q9,Qa,Qb,Qc,Qd,Qe,Qf,Qg,Qh,Qi,Qj,Qk,reduceCtorEq,reduceIte,C]
 by_cases F:3<h
 ·simp only[go_sem,Q0,Q1,Q2,Q3,Q4,Q5,Q6,Q7,Q8,Q9,Qa,Qb,Qc,Qd,Qe,Qf,Qg,Qh,Qi,Qj,Qk,reduceCtorEq,reduceIte,C,F]
 by_cases H:y<0
 ·simp only[go_sem,Q0,Q1,Q2,Q3,Q4,Q5,Q6,Q7,Q8,Q9,Qa,Qb,Qc,Qd,Qe,Qf,Qg,Qh,Qi,Qj,Qk,reduceCtorEq,reduceIte,C,F,H]
 have J:ai.wrap (1*2^min (aS.wrap h).toNat 64)<=y:=by unfold tN at hn;omega
 have I:0<=aS.wrap h:=by rw[dU];omega
 simp only[go_sem,Q0,Q1,Q2,Q3,Q4,Q5,Q6,Q7,Q8,Q9,Qa,Qb,Qc,Qd,Qe,Qf,Qg,Qh,Qi,Qj,Qk,reduceCtorEq,reduceIte,C,F,H,J,I]
theorem xhm(h y:d9)(E:h.length<=64)(I:y.length<=100000000):call T 143 [.byt h .no,.int .i64 0,.int .i64 0,.byt y .no] [] 0=some ⟨.byt (th h 0 0 y) .no,[],[]⟩:=by
 have g1:=Sg h 0 E;have H:=xeD (lsV h 0) 0 y (by rw[lQ];decide) (by decide) I;have g3:=xhi h E;have g4:=xhg (pubL (lsV h 0) 0);have F:=mO (lsV h 0) 0 y;have z:=fF (lsV h 0) 0;have C:=fF (lsV h 0) 1;rw[xkS]at g3;simp only[bys,aG,cV]at g3;simp only[c0,c1]at*;have e:th h 0 0 y=dQ 0::(xk (lsV h 0) 0 y++ []):=rfl;rw[e];generalize xk (lsV h 0) 0 y=S at*;generalize pubL (lsV h 0) 0=A at*;generalize pubL (lsV h 0) 1=B at*;have c2:1+S.length<=140737488355328:=by omega
 have c3:S.length+1<=140737488355328:=by omega
 have c4:1+S.length+16<=140737488355328:=by omega
 have c5:S.length+1+16<=140737488355328:=by omega
 rw[am El];simp+decide only[go_sem,Q0,Q1,Q2,Q3,Q4,Q5,Q6,Q7,Q8,Q9,Qa,Qb,Qc,Qd,Qe,Qf,Qg,Qh,Qi,Qj,Qk,reduceCtorEq,reduceIte,w0,w1,g1,H,g3,g4,yl,PG,PH,PF,c2,c3,F];rw[aj];simp+decide only[go_sem,Q0,Q1,Q2,Q3,Q4,Q5,Q6,Q7,Q8,Q9,Qa,Qb,Qc,Qd,Qe,Qf,Qg,Qh,Qi,Qj,Qk,reduceCtorEq,reduceIte,F,z,C,c2,c3,c4,c5]
theorem xhl(h y:d9)(E:h.length<=64)(I:y.length<=100000000):call T 143 [.byt h .no,.int .i64 1,.int .i64 0,.byt y .no] [] 0=some ⟨.byt (th h 1 0 y) .no,[],[]⟩:=by
 have g1:=Sg h 1 E;have H:=xeD (lsV h 1) 0 y (by rw[lQ];decide) (by decide) I;have g3:=Y6 h E;have g4:=xhf (pubL (lsV h 1) 0) (pubL (lsV h 1) 1) (by rw[fF];decide) (by rw[fF];decide);have F:=mO (lsV h 1) 0 y;have z:=fF (lsV h 1) 0;have C:=fF (lsV h 1) 1;rw[xeu]at g3;simp only[bys,aG,cV]at g3;simp only[c0,c1]at*;have e:th h 1 0 y=dQ 0::(xk (lsV h 1) 0 y++(pubL (lsV h 1) 1)):=rfl;rw[e];generalize xk (lsV h 1) 0 y=S at*;generalize pubL (lsV h 1) 0=A at*;generalize pubL (lsV h 1) 1=B at*;have c2:1+S.length<=140737488355328:=by omega
 have c3:S.length+1<=140737488355328:=by omega
 have c4:1+S.length+16<=140737488355328:=by omega
 have c5:S.length+1+16<=140737488355328:=by omega
 rw[am El];simp+decide only[go_sem,Q0,Q1,Q2,Q3,Q4,Q5,Q6,Q7,Q8,Q9,Qa,Qb,Qc,Qd,Qe,Qf,Qg,Qh,Qi,Qj,Qk,reduceCtorEq,reduceIte,w0,w1,g1,H,g3,g4,yl,PG,PH,PF,c2,c3,F];rw[aj];simp+decide only[go_sem,Q0,Q1,Q2,Q3,Q4,Q5,Q6,Q7,Q8,Q9,Qa,Qb,Qc,Qd,Qe,Qf,Qg,Qh,Qi,Qj,Qk,reduceCtorEq,reduceIte,F,z,C,c2,c3,c4,c5];rw[aj];simp+decide only[go_sem,Q0,Q1,Q2,Q3,Q4,Q5,Q6,Q7,Q8,Q9,Qa,Qb,Qc,Qd,Qe,Qf,Qg,Qh,Qi,Qj,Qk,reduceCtorEq,reduceIte]
theorem xhk(h y:d9)(E:h.length<=64)(I:y.length<=100000000):call T 143 [.byt h .no,.int .i64 1,.int .i64 1,.byt y .no] [] 0=some ⟨.byt (th h 1 1 y) .no,[],[]⟩:=by
 have g1:=Sg h 1 E;have H:=xeD (lsV h 1) 1 y (by rw[lQ];decide) (by decide) I;have g3:=Y6 h E;have g4:=xhe (pubL (lsV h 1) 0) (pubL (lsV h 1) 1) (by rw[fF];decide) (by rw[fF];decide);have F:=mO (lsV h 1) 1 y;have z:=fF (lsV h 1) 0;have C:=fF (lsV h 1) 1;rw[xeu]at g3;simp only[bys,aG,cV]at g3;simp only[c0,c1]at*;have e:th h 1 1 y=dQ 1::(xk (lsV h 1) 1 y++(pubL (lsV h 1) 0)):=rfl;rw[e];generalize xk (lsV h 1) 1 y=S at*;generalize pubL (lsV h 1) 0=A at*;generalize pubL (lsV h 1) 1=B at*;have c2:1+S.length<=140737488355328:=by omega
 have c3:S.length+1<=140737488355328:=by omega
 have c4:1+S.length+16<=140737488355328:=by omega
 have c5:S.length+1+16<=140737488355328:=by omega
 rw[am El];simp+decide only[go_sem,Q0,Q1,Q2,Q3,Q4,Q5,Q6,Q7,Q8,Q9,Qa,Qb,Qc,Qd,Qe,Qf,Qg,Qh,Qi,Qj,Qk,reduceCtorEq,reduceIte,w0,w1,g1,H,g3,g4,yl,PG,PH,PF,c2,c3,F];rw[aj];simp+decide only[go_sem,Q0,Q1,Q2,Q3,Q4,Q5,Q6,Q7,Q8,Q9,Qa,Qb,Qc,Qd,Qe,Qf,Qg,Qh,Qi,Qj,Qk,reduceCtorEq,reduceIte,F,z,C,c2,c3,c4,c5];rw[aj];simp+decide only[go_sem,Q0,Q1,Q2,Q3,Q4,Q5,Q6,Q7,Q8,Q9,Qa,Qb,Qc,Qd,Qe,Qf,Qg,Qh,Qi,Qj,Qk,reduceCtorEq,reduceIte]
theorem xfh(h y:d9):sgn h 0 0 y=th h 0 0 y:=by unfold sgn;rw[if_neg (by decide)];rfl
theorem xbA(h y:d9):sgn h 1 0 y=th h 1 0 y:=by unfold sgn;rw[if_neg (by decide)];rfl
theorem xbz(h y:d9):sgn h 1 1 y=th h 1 1 y:=by unfold sgn;rw[if_neg (by decide)];rfl
theorem f143(z:d9)(h y:Int)(C:d9)(F:z.length<=64)(E:C.length<=100000000)(J:h<0\/3<h\/h=0\/h=1):
 call T 143 [.byt z .no,.int .i64 h,.int .i64 y,.byt C .no] [] 0=some ⟨.byt (sgn z h y C) .no,[],[]⟩:=by
 by_cases hn:tN h y
 ·have:sgn z h y C=[]:=if_pos hn
  rw[this];exact n57 z h y C hn
 ·have I:h=0\/h=1:=by unfold tN at hn;omega
  rcases I with rfl|rfl
  ·have H:y=0:=by have:=(not_congr (xdG y)).1 hn;omega
   subst H;rw[xfh];exact xhm z C F E
  ·have H:y=0\/y=1:=by have:=(not_congr (xdF y)).1 hn;omega
   rcases H with rfl|rfl
   ·rw[xbA];exact xhl z C F E
   ·rw[xbz];exact xhk z C F E
structure Mk where
 auth:Int
 sig:List UInt8
def Mk.sv(m:Mk):t6:=[.int .i64 m.auth,.byt m.sig .no]
def mk0:Mk:=⟨0,[]⟩
def dZ(l:List Mk):d8:=l.map Mk.sv
theorem cS(l:List Mk):(dZ l).length=l.length:=aC ..
theorem mV(l:List Mk)(i:Nat)(h:i<l.length):(dZ l).getD i []=(l.getD i mk0).sv:=by simp[dZ,aa,h]
def nf(B:d9)(h:List Mk):t6:=[.byt B .no,.lst 2 (dZ h) .no]
structure Wd where
 man:List UInt8
 frm:Int
 deriving DecidableEq
def Wd.sv(w:Wd):t6:=[.byt w.man .no,.int .i64 w.frm]
def S5(w:Wd):Prop:=w.man.length=32/\0<=w.frm/\w.frm<=1099511627776
instance (w:Wd):Decidable (S5 w):=by unfold S5;infer_instance
def ow(w:Wd):d9:=if S5 w then 22::(w.man++be 6 (aS.wrap w.frm))else []
theorem f30(w:Wd):call T 30 [.agg w.sv] [] 0=some ⟨.byt (ow w) .no,[],[]⟩:=by
 obtain⟨m,f⟩:=w;unfold ow S5 Wd.sv;rw[am xnZ]
 by_cases F:m.length=32
 ·have h:(m.length:Int)=32:=by omega
  by_cases z:f<0
  ·have y:¬(m.length=32/\0<=f/\f<=1099511627776):=by omega
   simp only[go_sem,Q0,Q1,Q2,Q3,Q4,Q5,Q6,Q7,Q8,Q9,Qa,Qb,Qc,Qd,Qe,Qf,Qg,Qh,Qi,Qj,Qk,reduceCtorEq,reduceIte,h,z,y]
  ·by_cases E:1099511627776<f
   ·have y:¬(m.length=32/\0<=f/\f<=1099511627776):=by omega
    simp only[go_sem,Q0,Q1,Q2,Q3,Q4,Q5,Q6,Q7,Q8,Q9,Qa,Qb,Qc,Qd,Qe,Qf,Qg,Qh,Qi,Qj,Qk,reduceCtorEq,reduceIte,h,z,E,y]
   ·have y:m.length=32/\0<=f/\f<=1099511627776:=by omega
    have C:=f74 (22::m) 6 f (by decide) (by decide) (by rw[ah,F];decide);rw[c6]at C;simp only[go_sem,Q0,Q1,Q2,Q3,Q4,Q5,Q6,Q7,Q8,Q9,Qa,Qb,Qc,Qd,Qe,Qf,Qg,Qh,Qi,Qj,Qk,reduceCtorEq,reduceIte,h,F,z,E,y,C,S2,br,aR]
    trace_state
 ·have h:¬(m.length:Int)=32:=by omega
  have y:¬(m.length=32/\0<=f/\f<=1099511627776):=by omega
  simp only[go_sem,Q0,Q1,Q2,Q3,Q4,Q5,Q6,Q7,Q8,Q9,Qa,Qb,Qc,Qd,Qe,Qf,Qg,Qh,Qi,Qj,Qk,reduceCtorEq,reduceIte,h,y]
def oj(i:Nat):d9:=sha [107,ub i]
theorem qC(i:Nat):(oj i).length=32:=pr _
theorem f73(i:Nat):call T 73 [.int .i64 i] [] 0=some ⟨.byt (oj i) .no,[],[]⟩:=by have g:=Sh [107,ub i] (by simp);unfold ub at g;rw[am xnO];simp only[go_sem,Q0,Q1,Q2,Q3,Q4,Q5,Q6,Q7,Q8,Q9,Qa,Qb,Qc,Qd,Qe,Qf,Qg,Qh,Qi,Qj,Qk,reduceCtorEq,reduceIte,g,Et,oj,ub]
theorem nY(h:List Mk)(m:Mk):dZ (h++ [m])=dZ h++ [m.sv]:=by simp[dZ]
theorem f72(B:d9)(C:List Mk)(a:Int)(y:d9)(h z:Int)(J:C.length<=1000)(I:y.length<=64)(E:B.length<=100000000)(F:h<0\/3<h\/h=0\/h=1):
 call T 72 [.agg (nf B C),.int .i64 a,.byt y .no,.int .i64 h,.int .i64 z] [] 0=some ⟨.agg (nf B (C++ [⟨a,sgn y h z B⟩])),[],[]⟩:=by
 have g1:=f143 y h z B I E F;have H:=cS C;have c1:(C.length+1)*32<=140737488355328:=by omega
 have c2:C.length*32<=140737488355328:=by omega
 unfold nf;rw[nY];simp only[Mk.sv];rw[am xnP];simp only[go_sem,Q0,Q1,Q2,Q3,Q4,Q5,Q6,Q7,Q8,Q9,Qa,Qb,Qc,Qd,Qe,Qf,Qg,Qh,Qi,Qj,Qk,reduceCtorEq,reduceIte,g1,xiO,H,c1,c2]
theorem Rh(i:Nat)(l:List d9)(h:∀x∈l,x.length=16):(xeq i l).length<=16:=by
 unfold xeq;split
 ·rename_i a b
  split
  ·have:=h b (by simp);omega
  ·have:=h a (by simp);omega
 ·exact bC _
theorem QA(z C:d9)(h y:Int):(sgn z h y C).length<=1000:=by
 unfold sgn;split
 ·exact bC _
 ·have F:=mO (lsV z h.toNat) y.toNat C
  have H:=Rh y.toNat (lvs z h.toNat (2^h.toNat)) (fun x E=>by obtain⟨i,_,rfl⟩:=aT.1 E;exact fF _ _)
  rw[th,ah,ac,F];omega
def bI(w:Int)(i:Nat):Int:=b9 .and .i64 (w.fdiv (2^min i 64)) 1
def mkS(i:Nat)(B:d9):Mk:=⟨3+2*(i:Int),sgn (oj (3+2*i)) 1 (if i=1 then 1 else 0) B⟩
def iZ(w:Int)(B:d9)(i:Nat)(h:List Mk):List Mk:=if bI w i=1 then h++ [mkS i B]else h
def tj(w:Int)(B:d9):List Mk:=iZ w B 2 (iZ w B 1 (iZ w B 0 []))
theorem lk(w:Int)(B:d9)(i:Nat)(h:List Mk):(iZ w B i h).length<=h.length+1:=by
 unfold iZ;split
 ·rw[ac];exact bc _
 ·omega
theorem vL(w:Int)(B:d9):(tj w B).length<=3:=by have h:=lk w B 0 [];have z:=lk w B 1 (iZ w B 0 []);have y:=lk w B 2 (iZ w B 1 (iZ w B 0 []));unfold tj;rw[au]at h;omega
theorem qY(w:Int)(B:d9)(i:Nat)(z:List Mk)(h:∀m∈z,m.sig.length<=1000):∀m∈iZ w B i z,m.sig.length<=1000:=by
 unfold iZ;split
 ·intro m y
  rcases an.1 y with y|y
  ·exact h m y
  ·rw[bX.1 y];exact QA _ _ _ _
 ·exact h
theorem E9(w:Int)(B:d9):∀m∈tj w B,m.sig.length<=1000:=qY _ _ _ _ (qY _ _ _ _ (qY _ _ _ _ (fun m h=>by cases h)))
def oy:aB:= .rc [.byt [] .clip,.lst 2 [] .clip]
theorem xfk(w:Int)(B:d9)(Q:B.length<=100000000)(h:List Mk)(hm:h.length<=10)(I:Tok)(E:I= .no\/I= .clip/\h=[]):∃C,(C= .no\/C= .clip/\iZ w B 0 h=[])/\
 run T (.loop mQ) ⟨[(1,.int .i64 w),(4,.ptr 104 0),(5,.ptr 105 0),(6,.int .i64 0)],[(104,oy),(105,.rc [.byt B .no,.lst 2 (dZ h) I])],[]⟩=
  run T (.loop mQ) ⟨[(1,.int .i64 w),(4,.ptr 104 0),(5,.ptr 105 0),(6,.int .i64 1)],[(104,oy),(105,.rc [.byt B .no,.lst 2 (dZ (iZ w B 0 h)) C])],[]⟩:=by
 have u:aS.wrap 0=0:=by decide
 have k1:ai.wrap (0+1)=1:=by decide
 have y:ai.wrap 1=1:=by decide
 have k2:ai.wrap (2*0)=0:=by decide
 have F:ai.wrap 0=0:=by decide
 have O:ai.wrap 3=3:=by decide
 have L:b9 .and .i64 0 1=0:=by decide
 have g1:=f73 3;have H:=f72 B h 3 (oj 3) 1 0 (by omega) (by rw[qC];decide) Q (.inr (.inr (.inr rfl)));have hv:=cS h;rw[show((3:Nat):Int)=3 from rfl]at g1;have em:mkS 0 B=⟨3,sgn (oj 3) 1 0 B⟩:=rfl
 by_cases z:bI w 0=1
 ·refine⟨.no,.inl rfl, ?_⟩
  have J:iZ w B 0 h=h++ [mkS 0 B]:=if_pos z;rw[J,em];unfold nf at H;generalize dZ (h++ [⟨3,sgn (oj 3) 1 0 B⟩])=Z at*;generalize oj 3=S at*;unfold bI at z;unfold oy
  conv=>lhs;rw[aj]
  rcases E with rfl|⟨rfl,rfl⟩
  ·simp only[go_sem,Q0,Q1,Q2,Q3,Q4,Q5,Q6,Q7,Q8,Q9,Qa,Qb,Qc,Qd,Qe,Qf,Qg,Qh,Qi,Qj,Qk,reduceCtorEq,reduceIte,u,z,k1,y,k2,F,O,L,g1,N7,H,N8]
  ·have W:dZ []=[]:=rfl
   simp only[W]at H ⊢;simp only[go_sem,Q0,Q1,Q2,Q3,Q4,Q5,Q6,Q7,Q8,Q9,Qa,Qb,Qc,Qd,Qe,Qf,Qg,Qh,Qi,Qj,Qk,reduceCtorEq,reduceIte,u,z,k1,y,k2,F,O,L,g1,N7,H,N8]
 ·have J:iZ w B 0 h=h:=if_neg z
  rw[J];refine⟨I,E, ?_⟩;unfold bI at z;unfold oy
  conv=>lhs;rw[aj]
  rcases E with rfl|⟨rfl,rfl⟩
  ·simp only[go_sem,Q0,Q1,Q2,Q3,Q4,Q5,Q6,Q7,Q8,Q9,Qa,Qb,Qc,Qd,Qe,Qf,Qg,Qh,Qi,Qj,Qk,reduceCtorEq,reduceIte,u,z,k1,y]
  ·simp only[go_sem,Q0,Q1,Q2,Q3,Q4,Q5,Q6,Q7,Q8,Q9,Qa,Qb,Qc,Qd,Qe,Qf,Qg,Qh,Qi,Qj,Qk,reduceCtorEq,reduceIte,u,z,k1,y]
theorem xfj(w:Int)(B:d9)(Q:B.length<=100000000)(h:List Mk)(hm:h.length<=10)(I:Tok)(E:I= .no\/I= .clip/\h=[]):∃C,(C= .no\/C= .clip/\iZ w B 1 h=[])/\
 run T (.loop mQ) ⟨[(1,.int .i64 w),(4,.ptr 104 0),(5,.ptr 105 0),(6,.int .i64 1)],[(104,oy),(105,.rc [.byt B .no,.lst 2 (dZ h) I])],[]⟩=
  run T (.loop mQ) ⟨[(1,.int .i64 w),(4,.ptr 104 0),(5,.ptr 105 0),(6,.int .i64 2)],[(104,oy),(105,.rc [.byt B .no,.lst 2 (dZ (iZ w B 1 h)) C])],[]⟩:=by
 have u:aS.wrap 1=1:=by decide
 have k1:ai.wrap (1+1)=2:=by decide
 have y:ai.wrap 2=2:=by decide
 have k2:ai.wrap (2*1)=2:=by decide
 have F:ai.wrap 2=2:=by decide
 have O:ai.wrap 5=5:=by decide
 have L:b9 .and .i64 1 1=1:=by decide
 have g1:=f73 5;have H:=f72 B h 5 (oj 5) 1 1 (by omega) (by rw[qC];decide) Q (.inr (.inr (.inr rfl)));have hv:=cS h;rw[show((5:Nat):Int)=5 from rfl]at g1;have em:mkS 1 B=⟨5,sgn (oj 5) 1 1 B⟩:=rfl
 by_cases z:bI w 1=1
 ·refine⟨.no,.inl rfl, ?_⟩
  have J:iZ w B 1 h=h++ [mkS 1 B]:=if_pos z;rw[J,em];unfold nf at H;generalize dZ (h++ [⟨5,sgn (oj 5) 1 1 B⟩])=Z at*;generalize oj 5=S at*;unfold bI at z;unfold oy
  conv=>lhs;rw[aj]
  rcases E with rfl|⟨rfl,rfl⟩
  ·simp only[go_sem,Q0,Q1,Q2,Q3,Q4,Q5,Q6,Q7,Q8,Q9,Qa,Qb,Qc,Qd,Qe,Qf,Qg,Qh,Qi,Qj,Qk,reduceCtorEq,reduceIte,u,z,k1,y,k2,F,O,L,g1,N7,H,N8]
  ·have W:dZ []=[]:=rfl
   simp only[W]at H ⊢;simp only[go_sem,Q0,Q1,Q2,Q3,Q4,Q5,Q6,Q7,Q8,Q9,Qa,Qb,Qc,Qd,Qe,Qf,Qg,Qh,Qi,Qj,Qk,reduceCtorEq,reduceIte,u,z,k1,y,k2,F,O,L,g1,N7,H,N8]
 ·have J:iZ w B 1 h=h:=if_neg z
  rw[J];refine⟨I,E, ?_⟩;unfold bI at z;unfold oy
  conv=>lhs;rw[aj]
  rcases E with rfl|⟨rfl,rfl⟩
  ·simp only[go_sem,Q0,Q1,Q2,Q3,Q4,Q5,Q6,Q7,Q8,Q9,Qa,Qb,Qc,Qd,Qe,Qf,Qg,Qh,Qi,Qj,Qk,reduceCtorEq,reduceIte,u,z,k1,y]
  ·simp only[go_sem,Q0,Q1,Q2,Q3,Q4,Q5,Q6,Q7,Q8,Q9,Qa,Qb,Qc,Qd,Qe,Qf,Qg,Qh,Qi,Qj,Qk,reduceCtorEq,reduceIte,u,z,k1,y]
theorem xfi(w:Int)(B:d9)(Q:B.length<=100000000)(h:List Mk)(hm:h.length<=10)(I:Tok)(E:I= .no\/I= .clip/\h=[]):∃C,(C= .no\/C= .clip/\iZ w B 2 h=[])/\
 run T (.loop mQ) ⟨[(1,.int .i64 w),(4,.ptr 104 0),(5,.ptr 105 0),(6,.int .i64 2)],[(104,oy),(105,.rc [.byt B .no,.lst 2 (dZ h) I])],[]⟩=
  run T (.loop mQ) ⟨[(1,.int .i64 w),(4,.ptr 104 0),(5,.ptr 105 0),(6,.int .i64 3)],[(104,oy),(105,.rc [.byt B .no,.lst 2 (dZ (iZ w B 2 h)) C])],[]⟩:=by
 have u:aS.wrap 2=2:=by decide
 have k1:ai.wrap (2+1)=3:=by decide
 have y:ai.wrap 3=3:=by decide
 have k2:ai.wrap (2*2)=4:=by decide
 have F:ai.wrap 4=4:=by decide
 have O:ai.wrap 7=7:=by decide
 have L:b9 .and .i64 2 1=0:=by decide
 have g1:=f73 7;have H:=f72 B h 7 (oj 7) 1 0 (by omega) (by rw[qC];decide) Q (.inr (.inr (.inr rfl)));have hv:=cS h;rw[show((7:Nat):Int)=7 from rfl]at g1;have em:mkS 2 B=⟨7,sgn (oj 7) 1 0 B⟩:=rfl
 by_cases z:bI w 2=1
 ·refine⟨.no,.inl rfl, ?_⟩
  have J:iZ w B 2 h=h++ [mkS 2 B]:=if_pos z;rw[J,em];unfold nf at H;generalize dZ (h++ [⟨7,sgn (oj 7) 1 0 B⟩])=Z at*;generalize oj 7=S at*;unfold bI at z;unfold oy
  conv=>lhs;rw[aj]
  rcases E with rfl|⟨rfl,rfl⟩
  ·simp only[go_sem,Q0,Q1,Q2,Q3,Q4,Q5,Q6,Q7,Q8,Q9,Qa,Qb,Qc,Qd,Qe,Qf,Qg,Qh,Qi,Qj,Qk,reduceCtorEq,reduceIte,u,z,k1,y,k2,F,O,L,g1,N7,H,N8]
  ·have W:dZ []=[]:=rfl
   simp only[W]at H ⊢;simp only[go_sem,Q0,Q1,Q2,Q3,Q4,Q5,Q6,Q7,Q8,Q9,Qa,Qb,Qc,Qd,Qe,Qf,Qg,Qh,Qi,Qj,Qk,reduceCtorEq,reduceIte,u,z,k1,y,k2,F,O,L,g1,N7,H,N8]
 ·have J:iZ w B 2 h=h:=if_neg z
  rw[J];refine⟨I,E, ?_⟩;unfold bI at z;unfold oy
  conv=>lhs;rw[aj]
  rcases E with rfl|⟨rfl,rfl⟩
  ·simp only[go_sem,Q0,Q1,Q2,Q3,Q4,Q5,Q6,Q7,Q8,Q9,Qa,Qb,Qc,Qd,Qe,Qf,Qg,Qh,Qi,Qj,Qk,reduceCtorEq,reduceIte,u,z,k1,y]
  ·simp only[go_sem,Q0,Q1,Q2,Q3,Q4,Q5,Q6,Q7,Q8,Q9,Qa,Qb,Qc,Qd,Qe,Qf,Qg,Qh,Qi,Qj,Qk,reduceCtorEq,reduceIte,u,z,k1,y]
theorem f29(B:d9)(h:B.length<=100000000)(w:Int):call T 29 [.byt B .no,.int .i64 w] [] 0=some ⟨.agg (nf B (tj w B)),[],[]⟩:=by
 have J:=lk w B 0 [];have Q:=lk w B 1 (iZ w B 0 []);rw[au]at J;obtain⟨t0,H,L⟩:=xfk w B h [] (by simp) .clip (.inr ⟨rfl,rfl⟩);obtain⟨E,O,F⟩:=xfj w B h _ (by omega) t0 H;obtain⟨t2,I,C⟩:=xfi w B h _ (by omega) E O;have e:=L.trans (F.trans C);have y:dZ []=[]:=rfl;rw[y]at e;change _=run T (.loop mQ) ⟨_,[_,(105,.rc [.byt B .no,.lst 2 (dZ (tj w B)) t2])],_⟩at e
 have z:run T (.loop mQ) ⟨[(1,.int .i64 w),(4,.ptr 104 0),(5,.ptr 105 0),(6,.int .i64 3)],[(104,oy),(105,.rc [.byt B .no,.lst 2 (dZ (tj w B)) t2])],[]⟩=some (.x 0,⟨[(4,.ptr 104 0),(5,.ptr 105 0)],[(104,oy),(105,.rc [.byt B .no,.lst 2 (dZ (tj w B)) t2])],[]⟩):=by rw[aj];unfold oy;rcases I with rfl|⟨rfl,_⟩<;>simp only[go_sem,Q0,Q1,Q2,Q3,Q4,Q5,Q6,Q7,Q8,Q9,Qa,Qb,Qc,Qd,Qe,Qf,Qg,Qh,Qi,Qj,Qk,reduceCtorEq,reduceIte]
 rw[z]at e;unfold oy at e;unfold nf;rw[am xn0];simp only[go_sem,Q0,Q1,Q2,Q3,Q4,Q5,Q6,Q7,Q8,Q9,Qa,Qb,Qc,Qd,Qe,Qf,Qg,Qh,Qi,Qj,Qk,reduceCtorEq,reduceIte,e]
def gK(B:d9):d9:=B.take 32++List.drop (B.take 32).length (aJ 32 0)
theorem nT(B:d9):(gK B).length=32:=by unfold gK;rw[ac,aX,dG,av];omega
theorem f31(B:d9):call T 31 [.byt B .no] [] 0=some ⟨.byt (gK B) .no,[],[]⟩:=by have y:=nT B;have h:(gK B).take 32=gK B:=bh (by omega);unfold gK at*;rw[am xnY];simp only[go_sem,Q0,Q1,Q2,Q3,Q4,Q5,Q6,Q7,Q8,Q9,Qa,Qb,Qc,Qd,Qe,Qf,Qg,Qh,Qi,Qj,Qk,reduceCtorEq,reduceIte,y,h]
theorem f20(B:d9)(j:Nat):call T 20 [.ptr 0 0] [bg B j] 0=some ⟨.bool (decide (j<B.length)),[(0,bg B j)],[]⟩:=by
 rw[am xn2];simp only[bg]
 by_cases h:j<B.length
 ·simp only[go_sem,Q0,Q1,Q2,Q3,Q4,Q5,Q6,Q7,Q8,Q9,Qa,Qb,Qc,Qd,Qe,Qf,Qg,Qh,Qi,Qj,Qk,reduceCtorEq,reduceIte,h]
 ·simp only[go_sem,Q0,Q1,Q2,Q3,Q4,Q5,Q6,Q7,Q8,Q9,Qa,Qb,Qc,Qd,Qe,Qf,Qg,Qh,Qi,Qj,Qk,reduceCtorEq,reduceIte,h]
end Go.Proofs.YtmhhnklkcmpdkaaGreatDoor
