/- Contracts. No condition. -/
import Derived.Test.YtdafipacemgcoaaGreatDoorTaMD
open Int renaming cast_ofNat_Int -> bX
open Go.IntKind renaming i64 -> aj
open List renaming drop_eq_getElem_cons -> aU, getD_eq_getElem?_getD -> aa, getElem?_eq_getElem -> af, length_map -> aQ
set_option maxRecDepth 100000
set_option maxHeartbeats 16000000
set_option linter.unusedSimpArgs false
set_option linter.unusedVariables false
namespace Go.Proofs.YtdafipacemgcoaaGreatDoor
open Go.Sy
open UInt8 renaming reduceLT -> Q0, reduceLE -> Q1
open Int renaming reduceToNat -> Q2, reduceLE -> Q3, reduceLT -> Q4, reduceEq -> Q5, reduceNe -> Q6, reduceNeg -> Q7, reduceAdd -> Q8, reduceSub -> Q9, reduceMul -> Qa
open Nat renaming reducePow -> Qb, reduceDiv -> Qc, reduceMod -> Qd, reduceAdd -> Qe, reduceSub -> Qf, reduceMul -> Qg, reduceLT -> Qh, reduceLeDiff -> Qi, reduceEqDiff -> Qj, reduceBEq -> Qk
attribute [go_sem] bX
structure Ev where
 reg:Int
 kind:Int
 dg:List (List UInt8)
 data:List UInt8
def bls(l:List t6):f8:=l.map fun d=> [.byt d .no]
def Ev.sv(e:Ev):t7:=[.int .i64 e.reg,.int .i64 e.kind,.lst 1 (bls e.dg) .no,.byt e.data .no]
def eG(l:List Ev):f8:=l.map Ev.sv
theorem gE(l:List Ev):(eG l).length=l.length:=aQ ..
theorem Gd(l:List Ev)(i:Nat)(h:i<l.length):(eG l).getD i []=(l.getD i ⟨0,0,[],[]⟩).sv:=by simp[eG,aa,h]
def phP(e:Ev):Int:=
 if e.kind=1/\e.reg=0 then 1 else if e.kind=1/\e.reg=4 then 2 else if e.kind=2/\0<=e.reg/\e.reg<8 then 3 else if e.kind=1/\e.reg=8 then 4 else if e.kind=3/\e.reg=9 then 5 else 0
theorem f88(e:Ev):call T 88 [.agg e.sv] [] 0=some ⟨.int .i64 (phP e),[],[]⟩:=by
 obtain⟨g,k,d,b⟩:=e;rw[az xkF];unfold phP Ev.sv
 by_cases F:k=1
 ·subst F
  by_cases h:g=0
  ·subst h;simp only[go_sem,Q0,Q1,Q2,Q3,Q4,Q5,Q6,Q7,Q8,Q9,Qa,Qb,Qc,Qd,Qe,Qf,Qg,Qh,Qi,Qj,Qk,reduceCtorEq,reduceIte]
  ·by_cases B:g=4
   ·subst B;simp only[go_sem,Q0,Q1,Q2,Q3,Q4,Q5,Q6,Q7,Q8,Q9,Qa,Qb,Qc,Qd,Qe,Qf,Qg,Qh,Qi,Qj,Qk,reduceCtorEq,reduceIte]
   ·by_cases z:g=8
    ·subst z;simp only[go_sem,Q0,Q1,Q2,Q3,Q4,Q5,Q6,Q7,Q8,Q9,Qa,Qb,Qc,Qd,Qe,Qf,Qg,Qh,Qi,Qj,Qk,reduceCtorEq,reduceIte]
    ·simp only[go_sem,Q0,Q1,Q2,Q3,Q4,Q5,Q6,Q7,Q8,Q9,Qa,Qb,Qc,Qd,Qe,Qf,Qg,Qh,Qi,Qj,Qk,reduceCtorEq,reduceIte,h,B,z]
 ·by_cases C:k=2
  ·subst C
   by_cases h:0<=g
   ·by_cases B:g<8
    ·simp only[go_sem,Q0,Q1,Q2,Q3,Q4,Q5,Q6,Q7,Q8,Q9,Qa,Qb,Qc,Qd,Qe,Qf,Qg,Qh,Qi,Qj,Qk,reduceCtorEq,reduceIte,h,B]
    ·simp only[go_sem,Q0,Q1,Q2,Q3,Q4,Q5,Q6,Q7,Q8,Q9,Qa,Qb,Qc,Qd,Qe,Qf,Qg,Qh,Qi,Qj,Qk,reduceCtorEq,reduceIte,h,B]
   ·simp only[go_sem,Q0,Q1,Q2,Q3,Q4,Q5,Q6,Q7,Q8,Q9,Qa,Qb,Qc,Qd,Qe,Qf,Qg,Qh,Qi,Qj,Qk,reduceCtorEq,reduceIte,h]
  ·by_cases E:k=3
   ·subst E
    by_cases z:g=9
    ·subst z;simp only[go_sem,Q0,Q1,Q2,Q3,Q4,Q5,Q6,Q7,Q8,Q9,Qa,Qb,Qc,Qd,Qe,Qf,Qg,Qh,Qi,Qj,Qk,reduceCtorEq,reduceIte]
    ·simp only[go_sem,Q0,Q1,Q2,Q3,Q4,Q5,Q6,Q7,Q8,Q9,Qa,Qb,Qc,Qd,Qe,Qf,Qg,Qh,Qi,Qj,Qk,reduceCtorEq,reduceIte,z]
   ·simp only[go_sem,Q0,Q1,Q2,Q3,Q4,Q5,Q6,Q7,Q8,Q9,Qa,Qb,Qc,Qd,Qe,Qf,Qg,Qh,Qi,Qj,Qk,reduceCtorEq,reduceIte,F,C,E]
structure Wk where
 ph:Int
 nx:Int
 s0:Bool
 s1:Bool
 s2:Bool
 s3:Bool
 s4:Bool
 s5:Bool
def Wk.sv(w:Wk):t7:=[.int .i64 w.ph,.int .i64 w.nx,.bool w.s0,.bool w.s1,.bool w.s2,.bool w.s3,.bool w.s4,.bool w.s5]
def w0:Wk:=⟨0,0,false,false,false,false,false,false⟩
def okW(w:Wk)(e:Ev):Bool:=
 if e.kind=5 then true else if phP e=0 then false else if phP e<w.ph then false else if 1<phP e/\w.s1=false then false
 else if phP e=3/\e.reg≠w.nx then false else if 3<phP e/\w.nx≠8 then false else true
def stW(w:Wk)(e:Ev):Wk:=
 if okW w e=false\/e.kind=5 then w else
 {ph:=phP e,nx:=if phP e=3 then aj.wrap (w.nx+1)else w.nx,s0:=w.s0,s1:=w.s1||decide (phP e=1),s2:=w.s2||decide (phP e=2),s3:=w.s3||decide (phP e=3),s4:=w.s4||decide (phP e=4),s5:=w.s5||decide (phP e=5)}
theorem xbt(e:Ev):phP e=0\/phP e=1\/phP e=2\/phP e=3\/phP e=4\/phP e=5:=by
 unfold phP;repeat' split
 all_goals simp
theorem f39(w:Wk)(e:Ev):call T 39 [.ptr 0 0,.agg e.sv] [.rc w.sv] 0=some ⟨.bool (okW w e),[(0,.rc (stW w e).sv)],[]⟩:=by
 have g:=f88 e;have C:=xbt e;have E:phP e=5->e.kind≠5:=by unfold phP;repeat' split<;>simp_all
 obtain⟨ph,nx,s0,s1,s2,s3,s4,s5⟩:=w;rw[az xk9];unfold stW okW;generalize phP e=p at*;obtain⟨r,k,d,b⟩:=e;simp only[Ev.sv,Wk.sv]at*
 by_cases z:k=5
 ·subst z;simp only[go_sem,Q0,Q1,Q2,Q3,Q4,Q5,Q6,Q7,Q8,Q9,Qa,Qb,Qc,Qd,Qe,Qf,Qg,Qh,Qi,Qj,Qk,reduceCtorEq,reduceIte]
 ·rcases C with rfl|rfl|rfl|rfl|rfl|rfl
  ·simp only[go_sem,Q0,Q1,Q2,Q3,Q4,Q5,Q6,Q7,Q8,Q9,Qa,Qb,Qc,Qd,Qe,Qf,Qg,Qh,Qi,Qj,Qk,reduceCtorEq,reduceIte,z,g,mu]
  ·by_cases h:(1:Int)<ph
   ·simp only[go_sem,Q0,Q1,Q2,Q3,Q4,Q5,Q6,Q7,Q8,Q9,Qa,Qb,Qc,Qd,Qe,Qf,Qg,Qh,Qi,Qj,Qk,reduceCtorEq,reduceIte,z,g,mu,h]
   ·cases s1<;>simp only[go_sem,Q0,Q1,Q2,Q3,Q4,Q5,Q6,Q7,Q8,Q9,Qa,Qb,Qc,Qd,Qe,Qf,Qg,Qh,Qi,Qj,Qk,reduceCtorEq,reduceIte,z,g,mu,h]
  ·by_cases h:(2:Int)<ph
   ·simp only[go_sem,Q0,Q1,Q2,Q3,Q4,Q5,Q6,Q7,Q8,Q9,Qa,Qb,Qc,Qd,Qe,Qf,Qg,Qh,Qi,Qj,Qk,reduceCtorEq,reduceIte,z,g,mu,h]
   ·cases s1<;>simp only[go_sem,Q0,Q1,Q2,Q3,Q4,Q5,Q6,Q7,Q8,Q9,Qa,Qb,Qc,Qd,Qe,Qf,Qg,Qh,Qi,Qj,Qk,reduceCtorEq,reduceIte,z,g,mu,h]
  ·by_cases h:(3:Int)<ph
   ·simp only[go_sem,Q0,Q1,Q2,Q3,Q4,Q5,Q6,Q7,Q8,Q9,Qa,Qb,Qc,Qd,Qe,Qf,Qg,Qh,Qi,Qj,Qk,reduceCtorEq,reduceIte,z,g,mu,h]
   ·cases s1
    ·simp only[go_sem,Q0,Q1,Q2,Q3,Q4,Q5,Q6,Q7,Q8,Q9,Qa,Qb,Qc,Qd,Qe,Qf,Qg,Qh,Qi,Qj,Qk,reduceCtorEq,reduceIte,z,g,mu,h]
    ·by_cases B:r=nx
     ·subst B;simp only[go_sem,Q0,Q1,Q2,Q3,Q4,Q5,Q6,Q7,Q8,Q9,Qa,Qb,Qc,Qd,Qe,Qf,Qg,Qh,Qi,Qj,Qk,reduceCtorEq,reduceIte,z,g,mu,h]
     ·simp only[go_sem,Q0,Q1,Q2,Q3,Q4,Q5,Q6,Q7,Q8,Q9,Qa,Qb,Qc,Qd,Qe,Qf,Qg,Qh,Qi,Qj,Qk,reduceCtorEq,reduceIte,z,g,mu,h,B]
  ·by_cases h:(4:Int)<ph
   ·simp only[go_sem,Q0,Q1,Q2,Q3,Q4,Q5,Q6,Q7,Q8,Q9,Qa,Qb,Qc,Qd,Qe,Qf,Qg,Qh,Qi,Qj,Qk,reduceCtorEq,reduceIte,z,g,mu,h]
   ·cases s1
    ·simp only[go_sem,Q0,Q1,Q2,Q3,Q4,Q5,Q6,Q7,Q8,Q9,Qa,Qb,Qc,Qd,Qe,Qf,Qg,Qh,Qi,Qj,Qk,reduceCtorEq,reduceIte,z,g,mu,h]
    ·by_cases B:nx=8
     ·subst B;simp only[go_sem,Q0,Q1,Q2,Q3,Q4,Q5,Q6,Q7,Q8,Q9,Qa,Qb,Qc,Qd,Qe,Qf,Qg,Qh,Qi,Qj,Qk,reduceCtorEq,reduceIte,z,g,mu,h]
     ·simp only[go_sem,Q0,Q1,Q2,Q3,Q4,Q5,Q6,Q7,Q8,Q9,Qa,Qb,Qc,Qd,Qe,Qf,Qg,Qh,Qi,Qj,Qk,reduceCtorEq,reduceIte,z,g,mu,h,B]
  ·by_cases h:(5:Int)<ph
   ·simp only[go_sem,Q0,Q1,Q2,Q3,Q4,Q5,Q6,Q7,Q8,Q9,Qa,Qb,Qc,Qd,Qe,Qf,Qg,Qh,Qi,Qj,Qk,reduceCtorEq,reduceIte,z,g,mu,h]
   ·cases s1
    ·simp only[go_sem,Q0,Q1,Q2,Q3,Q4,Q5,Q6,Q7,Q8,Q9,Qa,Qb,Qc,Qd,Qe,Qf,Qg,Qh,Qi,Qj,Qk,reduceCtorEq,reduceIte,z,g,mu,h]
    ·by_cases B:nx=8
     ·subst B;simp only[go_sem,Q0,Q1,Q2,Q3,Q4,Q5,Q6,Q7,Q8,Q9,Qa,Qb,Qc,Qd,Qe,Qf,Qg,Qh,Qi,Qj,Qk,reduceCtorEq,reduceIte,z,g,mu,h]
     ·simp only[go_sem,Q0,Q1,Q2,Q3,Q4,Q5,Q6,Q7,Q8,Q9,Qa,Qb,Qc,Qd,Qe,Qf,Qg,Qh,Qi,Qj,Qk,reduceCtorEq,reduceIte,z,g,mu,h,B]
def ev0:Ev:=⟨0,0,[],[]⟩
theorem uL(l:List Ev)(i:Nat)(h:i<l.length):l.drop i=l.getD i ev0::l.drop (i+1):=by rw[aU h,aa,af h];rfl
theorem xar{w:Wk}{e:Ev}(h:okW w e=false):stW w e=w:=by unfold stW;rw[if_pos (.inl h)]
theorem qV(l:List Ev)(i:Nat)(h:i<l.length):(eG l).getD i []=(l.getD i ev0).sv:=Gd l i h
theorem xdO:w0.sv=[.int .i64 0,.int .i64 0,.bool false,.bool false,.bool false,.bool false,.bool false,.bool false]:=rfl
end Go.Proofs.YtdafipacemgcoaaGreatDoor
