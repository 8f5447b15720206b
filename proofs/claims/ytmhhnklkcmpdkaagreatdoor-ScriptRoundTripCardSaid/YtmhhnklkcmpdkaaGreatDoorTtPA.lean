/- Contracts. No condition. -/
import Derived.Test.YtmhhnklkcmpdkaaGreatDoorTpPA
open List renaming length_pos_iff -> nq
set_option maxRecDepth 100000
set_option maxHeartbeats 16000000
set_option linter.unusedSimpArgs false
set_option linter.unusedVariables false
namespace Go.Proofs.YtmhhnklkcmpdkaaGreatDoor
open Go.Sy
open UInt8 renaming reduceLT -> Q0, reduceLE -> Q1
open Int renaming reduceToNat -> Q2, reduceLE -> Q3, reduceLT -> Q4, reduceEq -> Q5, reduceNe -> Q6, reduceNeg -> Q7, reduceAdd -> Q8, reduceSub -> Q9, reduceMul -> Qa
open Nat renaming reducePow -> Qb, reduceDiv -> Qc, reduceMod -> Qd, reduceAdd -> Qe, reduceSub -> Qf, reduceMul -> Qg, reduceLT -> Qh, reduceLeDiff -> Qi, reduceEqDiff -> Qj, reduceBEq -> Qk
theorem f4(h:d9):call U 4 [.byt h .no] [] 0=some ⟨.bool true,[],[]⟩:=by
 obtain⟨l,h1,Z,E⟩:=yv h 8 (by decide) false;replace E:=up E;have F:∀x∈l,Wrt okC x:=fun x O=>(Z x O).wr rfl
 have z:=f10 (l:=l) (by omega);rw[vc F,if_pos rfl]at z;have Q:=YM F;have y:=up (f12 xey (fi bK l) (by omega));rw[YG F]at y;simp only[if_true]at y;have C:=up (f13 l (by omega) (fun x O=>smW (F x O)));have W:=f7;have hv:=co l;have a1:=tT l;rw[show((8:Nat):Int)=8 from rfl]at E;rw[am U_4]
 by_cases T:l=[]
 ·subst T
  change call U 9 [.byt h .no,.int .i64 8,.bool false] [] 0=some ⟨.lst 7 [] .no,[],[]⟩at E;change call U 10 [.lst 7 [] .no] [] 0=some ⟨.str [],[],[]⟩at z;change call U 12 [.str []] [] 0=some ⟨.tup [.lst 7 [] .no,.int .i64 0,.int .i64 0],[],[]⟩at y;change call U 13 [.lst 7 [] .no,.lst 7 [] .no] [] 0=some ⟨.bool true,[],[]⟩at C;simp only[go_sem,Q0,Q1,Q2,Q3,Q4,Q5,Q6,Q7,Q8,Q9,Qa,Qb,Qc,Qd,Qe,Qf,Qg,Qh,Qi,Qj,Qk,reduceCtorEq,reduceIte,US,W,S_7,E,S_9,z,Od,y,EF,C,EE]
 ·have H:0<l.length:=nq.2 T
  have L:(0:Int)<(l.length:Int):=by omega
  have I:0<(fi bK l).length:=by omega
  have J:(0:Int)<((fi bK l).length:Int):=by omega
  generalize fi bK l=tx at*;simp only[go_sem,Q0,Q1,Q2,Q3,Q4,Q5,Q6,Q7,Q8,Q9,Qa,Qb,Qc,Qd,Qe,Qf,Qg,Qh,Qi,Qj,Qk,reduceCtorEq,reduceIte,US,W,S_7,E,S_9,z,Od,y,EF,C,EE,hv,H,L,I,J]
end Go.Proofs.YtmhhnklkcmpdkaaGreatDoor
