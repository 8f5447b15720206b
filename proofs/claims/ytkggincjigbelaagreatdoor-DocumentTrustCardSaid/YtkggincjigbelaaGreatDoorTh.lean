/- What the functions come to. No condition. -/
import Derived.Test.YtkggincjigbelaaGreatDoorTg
open Go.IntKind renaming i64 -> af, u64 -> aW, wrap_u64 -> bJ
open List renaming map_cons -> aD, map_nil -> b8
open UInt8 renaming ofInt -> cW
set_option maxRecDepth 100000
set_option maxHeartbeats 16000000
set_option linter.unusedSimpArgs false
set_option linter.unusedVariables false
namespace Go.Proofs.YtkggincjigbelaaGreatDoor
open Go.Sy
open UInt8 renaming reduceLT -> Q0, reduceLE -> Q1
open Int renaming reduceToNat -> Q2, reduceLE -> Q3, reduceLT -> Q4, reduceEq -> Q5, reduceNe -> Q6, reduceNeg -> Q7, reduceAdd -> Q8, reduceSub -> Q9, reduceMul -> Qa
open Nat renaming reducePow -> Qb, reduceDiv -> Qc, reduceMod -> Qd, reduceAdd -> Qe, reduceSub -> Qf, reduceMul -> Qg, reduceLT -> Qh, reduceLeDiff -> Qi, reduceEqDiff -> Qj, reduceBEq -> Qk
def oz(h leaf:Int):Prop:=h<0\/3<h\/leaf<0\/af.wrap (1*2^min (aW.wrap h).toNat 64)<=leaf
instance (h leaf:Int):Decidable (oz h leaf):=by unfold oz;infer_instance
def sgn(seed:List UInt8)(h leaf:Int)(msg:List UInt8):List UInt8:=if oz h leaf then []else jw seed h.toNat leaf.toNat msg
theorem QU(leaf:Int):oz 0 leaf↔(leaf<0\/1<=leaf):=by
 have e:af.wrap (1*2^min (aW.wrap 0).toNat 64)=1:=by decide
 unfold oz;rw[e];omega
theorem QT(leaf:Int):oz 1 leaf↔(leaf<0\/2<=leaf):=by
 have e:af.wrap (1*2^min (aW.wrap 1).toNat 64)=2:=by decide
 unfold oz;rw[e];omega
theorem w0:aW.wrap 0=0:=by decide
theorem w1:aW.wrap 1=1:=by decide
theorem n55(seed:List UInt8)(h leaf:Int)(msg:List UInt8)(hn:oz h leaf):call T 55 [.byt seed .no,.int .i64 h,.int .i64 leaf,.byt msg .no] [] 0=some ⟨.byt [] .no,[],[]⟩:=by
 rw[ao M3]
 by_cases h1:h<0
 ·have g:=RQ h (by omega)
  simp only[go_sem,Q0,Q1,Q2,Q3,Q4,Q5,Q6,Q7,Q8,Q9,Qa,Qb,Qc,Qd,Qe,Qf,Qg,Qh,Qi,Qj,Qk,reduceCtorEq,reduceIte,h1,g,nR]
 by_cases h2:3<h
 ·have g:=RQ h (by omega)
  simp only[go_sem,Q0,Q1,Q2,Q3,Q4,Q5,Q6,Q7,Q8,Q9,Qa,Qb,Qc,Qd,Qe,Qf,Qg,Qh,Qi,Qj,Qk,reduceCtorEq,reduceIte,h1,h2,g,nR]
 obtain⟨m,rfl⟩:∃m:Nat,h=(m:Int):=⟨h.toNat,by omega⟩;have g:=f86 m (by omega)
 by_cases h3:leaf<0
 ·simp only[go_sem,Q0,Q1,Q2,Q3,Q4,Q5,Q6,Q7,Q8,Q9,Qa,Qb,Qc,Qd,Qe,Qf,Qg,Qh,Qi,Qj,Qk,reduceCtorEq,reduceIte,h1,h2,h3,g,nR]
 have h4:af.wrap (1*2^min (aW.wrap (m:Int)).toNat 64)<=leaf:=by unfold oz at hn;omega
 have h5:0<=aW.wrap (m:Int):=by rw[bJ];omega
 simp only[go_sem,Q0,Q1,Q2,Q3,Q4,Q5,Q6,Q7,Q8,Q9,Qa,Qb,Qc,Qd,Qe,Qf,Qg,Qh,Qi,Qj,Qk,reduceCtorEq,reduceIte,h1,h2,h3,h4,h5,g,nR]
theorem YT(seed msg:List UInt8)(hs:seed.length<=64)(hm:msg.length<=100000000):call T 55 [.byt seed .no,.int .i64 0,.int .i64 0,.byt msg .no] [] 0=some ⟨.byt (jw seed 0 0 msg) .no,[],[]⟩:=by
 have g0:=f86 0 (by decide);have g1:=f88 seed 0 hs;have g2:=f87 (lsV seed 0) 0 msg (by rw[gC];decide) (by decide) hm;have g3:=YI seed hs;have g4:=YL (pubL (lsV seed 0) 0);have hl:=jS (lsV seed 0) 0 msg;have hp0:=dq (lsV seed 0) 0;have hp1:=dq (lsV seed 0) 1;rw[Xi]at g3;simp only[bys,aD,b8]at g3;simp only[c0,c1]at*;have e:jw seed 0 0 msg=cW 0::(lz (lsV seed 0) 0 msg++ []):=rfl;rw[e];generalize lz (lsV seed 0) 0 msg=S at*;generalize pubL (lsV seed 0) 0=A at*;generalize pubL (lsV seed 0) 1=B at*;have c2:1+S.length<=140737488355328:=by omega
 have c3:S.length+1<=140737488355328:=by omega
 have c4:1+S.length+16<=140737488355328:=by omega
 have c5:S.length+1+16<=140737488355328:=by omega
 rw[ao M3];simp (config:= {decide:=true}) only[go_sem,Q0,Q1,Q2,Q3,Q4,Q5,Q6,Q7,Q8,Q9,Qa,Qb,Qc,Qd,Qe,Qf,Qg,Qh,Qi,Qj,Qk,reduceCtorEq,reduceIte,w0,w1,g0,nR,g1,g2,g3,g4,HY,R4,R2,R3,c2,c3,hl];rw[aq];simp (config:= {decide:=true}) only[go_sem,Q0,Q1,Q2,Q3,Q4,Q5,Q6,Q7,Q8,Q9,Qa,Qb,Qc,Qd,Qe,Qf,Qg,Qh,Qi,Qj,Qk,reduceCtorEq,reduceIte,hl,hp0,hp1,c2,c3,c4,c5]
theorem YS(seed msg:List UInt8)(hs:seed.length<=64)(hm:msg.length<=100000000):call T 55 [.byt seed .no,.int .i64 1,.int .i64 0,.byt msg .no] [] 0=some ⟨.byt (jw seed 1 0 msg) .no,[],[]⟩:=by
 have g0:=f86 1 (by decide);have g1:=f88 seed 1 hs;have g2:=f87 (lsV seed 1) 0 msg (by rw[gC];decide) (by decide) hm;have g3:=Xk seed hs;have g4:=YK (pubL (lsV seed 1) 0) (pubL (lsV seed 1) 1) (by rw[dq];decide) (by rw[dq];decide);have hl:=jS (lsV seed 1) 0 msg;have hp0:=dq (lsV seed 1) 0;have hp1:=dq (lsV seed 1) 1;rw[GU]at g3;simp only[bys,aD,b8]at g3;simp only[c0,c1]at*;have e:jw seed 1 0 msg=cW 0::(lz (lsV seed 1) 0 msg++(pubL (lsV seed 1) 1)):=rfl;rw[e];generalize lz (lsV seed 1) 0 msg=S at*;generalize pubL (lsV seed 1) 0=A at*;generalize pubL (lsV seed 1) 1=B at*;have c2:1+S.length<=140737488355328:=by omega
 have c3:S.length+1<=140737488355328:=by omega
 have c4:1+S.length+16<=140737488355328:=by omega
 have c5:S.length+1+16<=140737488355328:=by omega
 rw[ao M3];simp (config:= {decide:=true}) only[go_sem,Q0,Q1,Q2,Q3,Q4,Q5,Q6,Q7,Q8,Q9,Qa,Qb,Qc,Qd,Qe,Qf,Qg,Qh,Qi,Qj,Qk,reduceCtorEq,reduceIte,w0,w1,g0,nR,g1,g2,g3,g4,HY,R4,R2,R3,c2,c3,hl];rw[aq];simp (config:= {decide:=true}) only[go_sem,Q0,Q1,Q2,Q3,Q4,Q5,Q6,Q7,Q8,Q9,Qa,Qb,Qc,Qd,Qe,Qf,Qg,Qh,Qi,Qj,Qk,reduceCtorEq,reduceIte,hl,hp0,hp1,c2,c3,c4,c5];rw[aq];simp (config:= {decide:=true}) only[go_sem,Q0,Q1,Q2,Q3,Q4,Q5,Q6,Q7,Q8,Q9,Qa,Qb,Qc,Qd,Qe,Qf,Qg,Qh,Qi,Qj,Qk,reduceCtorEq,reduceIte]
theorem YR(seed msg:List UInt8)(hs:seed.length<=64)(hm:msg.length<=100000000):call T 55 [.byt seed .no,.int .i64 1,.int .i64 1,.byt msg .no] [] 0=some ⟨.byt (jw seed 1 1 msg) .no,[],[]⟩:=by
 have g0:=f86 1 (by decide);have g1:=f88 seed 1 hs;have g2:=f87 (lsV seed 1) 1 msg (by rw[gC];decide) (by decide) hm;have g3:=Xk seed hs;have g4:=YJ (pubL (lsV seed 1) 0) (pubL (lsV seed 1) 1) (by rw[dq];decide) (by rw[dq];decide);have hl:=jS (lsV seed 1) 1 msg;have hp0:=dq (lsV seed 1) 0;have hp1:=dq (lsV seed 1) 1;rw[GU]at g3;simp only[bys,aD,b8]at g3;simp only[c0,c1]at*;have e:jw seed 1 1 msg=cW 1::(lz (lsV seed 1) 1 msg++(pubL (lsV seed 1) 0)):=rfl;rw[e];generalize lz (lsV seed 1) 1 msg=S at*;generalize pubL (lsV seed 1) 0=A at*;generalize pubL (lsV seed 1) 1=B at*;have c2:1+S.length<=140737488355328:=by omega
 have c3:S.length+1<=140737488355328:=by omega
 have c4:1+S.length+16<=140737488355328:=by omega
 have c5:S.length+1+16<=140737488355328:=by omega
 rw[ao M3];simp (config:= {decide:=true}) only[go_sem,Q0,Q1,Q2,Q3,Q4,Q5,Q6,Q7,Q8,Q9,Qa,Qb,Qc,Qd,Qe,Qf,Qg,Qh,Qi,Qj,Qk,reduceCtorEq,reduceIte,w0,w1,g0,nR,g1,g2,g3,g4,HY,R4,R2,R3,c2,c3,hl];rw[aq];simp (config:= {decide:=true}) only[go_sem,Q0,Q1,Q2,Q3,Q4,Q5,Q6,Q7,Q8,Q9,Qa,Qb,Qc,Qd,Qe,Qf,Qg,Qh,Qi,Qj,Qk,reduceCtorEq,reduceIte,hl,hp0,hp1,c2,c3,c4,c5];rw[aq];simp (config:= {decide:=true}) only[go_sem,Q0,Q1,Q2,Q3,Q4,Q5,Q6,Q7,Q8,Q9,Qa,Qb,Qc,Qd,Qe,Qf,Qg,Qh,Qi,Qj,Qk,reduceCtorEq,reduceIte]
theorem SH(seed msg:List UInt8):sgn seed 0 0 msg=jw seed 0 0 msg:=by unfold sgn;rw[if_neg (by decide)];rfl
theorem OU(seed msg:List UInt8):sgn seed 1 0 msg=jw seed 1 0 msg:=by unfold sgn;rw[if_neg (by decide)];rfl
theorem zQ(seed msg:List UInt8):sgn seed 1 1 msg=jw seed 1 1 msg:=by unfold sgn;rw[if_neg (by decide)];rfl
theorem f55(seed:List UInt8)(h leaf:Int)(msg:List UInt8)(hs:seed.length<=64)(hm:msg.length<=100000000)(hh:h<0\/3<h\/h=0\/h=1):
 call T 55 [.byt seed .no,.int .i64 h,.int .i64 leaf,.byt msg .no] [] 0=some ⟨.byt (sgn seed h leaf msg) .no,[],[]⟩:=by
 by_cases hn:oz h leaf
 ·have:sgn seed h leaf msg=[]:=if_pos hn
  rw[this];exact n55 seed h leaf msg hn
 ·have h1:h=0\/h=1:=by unfold oz at hn;omega
  rcases h1 with rfl|rfl
  ·have h2:leaf=0:=by have:=(not_congr (QU leaf)).1 hn;omega
   subst h2;rw[SH];exact YT seed msg hs hm
  ·have h2:leaf=0\/leaf=1:=by have:=(not_congr (QT leaf)).1 hn;omega
   rcases h2 with rfl|rfl
   ·rw[OU];exact YS seed msg hs hm
   ·rw[zQ];exact YR seed msg hs hm
end Go.Proofs.YtkggincjigbelaaGreatDoor
