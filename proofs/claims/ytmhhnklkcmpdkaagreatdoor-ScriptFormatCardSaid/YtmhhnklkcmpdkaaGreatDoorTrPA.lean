/- Contracts. No condition. -/
import Derived.Test.YtmhhnklkcmpdkaaGreatDoorTpPA
open List renaming length_map -> aC, length_take -> av
set_option maxRecDepth 100000
set_option maxHeartbeats 16000000
set_option linter.unusedSimpArgs false
set_option linter.unusedVariables false
namespace Go.Proofs.YtmhhnklkcmpdkaaGreatDoor
open Go.Sy
open UInt8 renaming reduceLT -> Q0, reduceLE -> Q1
open Int renaming reduceToNat -> Q2, reduceLE -> Q3, reduceLT -> Q4, reduceEq -> Q5, reduceNe -> Q6, reduceNeg -> Q7, reduceAdd -> Q8, reduceSub -> Q9, reduceMul -> Qa
open Nat renaming reducePow -> Qb, reduceDiv -> Qc, reduceMod -> Qd, reduceAdd -> Qe, reduceSub -> Qf, reduceMul -> Qg, reduceLT -> Qh, reduceLeDiff -> Qi, reduceEqDiff -> Qj, reduceBEq -> Qk
theorem f3(raw:List Stp)(h:d9)(y:Bool):call U 3 [.lst 7 (dO raw) .no,.byt h .no,.bool y] [] 0=some ⟨.bool true,[],[]⟩:=by
 obtain⟨l,T,Q,F⟩:=yv h 8 (by decide) y;replace F:=up F;have I:=f10 (l:=l) (by omega);have H:=up (f11 l (by omega));have L:=up (f8 raw);have J:((raw.take 6).map mf).length<=1000000:=by rw[aC,av];omega
 have C:=f10 J;have z:=up (f11 _ J);have O:=f7;rw[show((8:Nat):Int)=8 from rfl]at F;generalize (raw.take 6).map mf=E at*;generalize (if l.all wrB=true then fi bK l else [])=X at*;generalize (if E.all wrB=true then fi bK E else [])=Y at*;rw[am U_3];simp only[go_sem,Q0,Q1,Q2,Q3,Q4,Q5,Q6,Q7,Q8,Q9,Qa,Qb,Qc,Qd,Qe,Qf,Qg,Qh,Qi,Qj,Qk,reduceCtorEq,reduceIte,US,O,S_7,L,S_8,F,S_9,I,Od,C,H,S3,z]
end Go.Proofs.YtmhhnklkcmpdkaaGreatDoor
