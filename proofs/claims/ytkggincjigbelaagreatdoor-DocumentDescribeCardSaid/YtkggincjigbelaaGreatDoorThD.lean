/- What the functions come to. No condition. -/
import Derived.Test.YtkggincjigbelaaGreatDoorTgD
open Go.IntKind renaming i64 -> af, u64 -> aI, wrap_u64 -> bQ
open List renaming append_assoc -> av, append_nil -> aZ, drop_take -> Dv, length_append -> ac, length_cons -> ai, length_drop -> aQ, length_singleton -> aV, length_take -> ax, map_cons -> aC, map_nil -> bH, mem_cons -> an, nil_append -> aF, singleton_append -> dA, take_length -> bY, take_of_length_le -> bf
open UInt8 renaming ofInt -> co
set_option maxRecDepth 100000
set_option maxHeartbeats 16000000
set_option linter.unusedSimpArgs false
set_option linter.unusedVariables false
namespace Go.Proofs.YtkggincjigbelaaGreatDoor
open Go.Sy
open UInt8 renaming reduceLT -> Q0, reduceLE -> Q1
open Int renaming reduceToNat -> Q2, reduceLE -> Q3, reduceLT -> Q4, reduceEq -> Q5, reduceNe -> Q6, reduceNeg -> Q7, reduceAdd -> Q8, reduceSub -> Q9, reduceMul -> Qa
open Nat renaming reducePow -> Qb, reduceDiv -> Qc, reduceMod -> Qd, reduceAdd -> Qe, reduceSub -> Qf, reduceMul -> Qg, reduceLT -> Qh, reduceLeDiff -> Qi, reduceEqDiff -> Qj, reduceBEq -> Qk
def mH(h leaf:Int):Prop:=h<0\/3<h\/leaf<0\/af.wrap (1*2^min (aI.wrap h).toNat 64)<=leaf
instance (h leaf:Int):Decidable (mH h leaf):=by unfold mH;infer_instance
def sgn(seed:List UInt8)(h leaf:Int)(msg:List UInt8):List UInt8:=if mH h leaf then []else ip seed h.toNat leaf.toNat msg
theorem Mu(leaf:Int):mH 0 leaf↔(leaf<0\/1<=leaf):=by
 have e:af.wrap (1*2^min (aI.wrap 0).toNat 64)=1:=by decide
 unfold mH;rw[e];omega
theorem Mt(leaf:Int):mH 1 leaf↔(leaf<0\/2<=leaf):=by
 have e:af.wrap (1*2^min (aI.wrap 1).toNat 64)=2:=by decide
 unfold mH;rw[e];omega
theorem w0:aI.wrap 0=0:=by decide
theorem w1:aI.wrap 1=1:=by decide
theorem n55(seed:List UInt8)(h leaf:Int)(msg:List UInt8)(hn:mH h leaf):call T 55 [.byt seed .no,.int .i64 h,.int .i64 leaf,.byt msg .no] [] 0=some ⟨.byt [] .no,[],[]⟩:=by
 rw[aj XF]
 by_cases h1:h<0
 ·have g:=xcX h (by omega)
  simp only[go_sem,Q0,Q1,Q2,Q3,Q4,Q5,Q6,Q7,Q8,Q9,Qa,Qb,Qc,Qd,Qe,Qf,Qg,Qh,Qi,Qj,Qk,reduceCtorEq,reduceIte,h1,g,qx]
 by_cases h2:3<h
 ·have g:=xcX h (by omega)
  simp only[go_sem,Q0,Q1,Q2,Q3,Q4,Q5,Q6,Q7,Q8,Q9,Qa,Qb,Qc,Qd,Qe,Qf,Qg,Qh,Qi,Qj,Qk,reduceCtorEq,reduceIte,h1,h2,g,qx]
 obtain⟨m,rfl⟩:∃m:Nat,h=(m:Int):=⟨h.toNat,by omega⟩;have g:=f86 m (by omega)
 by_cases h3:leaf<0
 ·simp only[go_sem,Q0,Q1,Q2,Q3,Q4,Q5,Q6,Q7,Q8,Q9,Qa,Qb,Qc,Qd,Qe,Qf,Qg,Qh,Qi,Qj,Qk,reduceCtorEq,reduceIte,h1,h2,h3,g,qx]
 have h4:af.wrap (1*2^min (aI.wrap (m:Int)).toNat 64)<=leaf:=by unfold mH at hn;omega
 have h5:0<=aI.wrap (m:Int):=by rw[bQ];omega
 simp only[go_sem,Q0,Q1,Q2,Q3,Q4,Q5,Q6,Q7,Q8,Q9,Qa,Qb,Qc,Qd,Qe,Qf,Qg,Qh,Qi,Qj,Qk,reduceCtorEq,reduceIte,h1,h2,h3,h4,h5,g,qx]
theorem xlj(seed msg:List UInt8)(hs:seed.length<=64)(hm:msg.length<=100000000):call T 55 [.byt seed .no,.int .i64 0,.int .i64 0,.byt msg .no] [] 0=some ⟨.byt (ip seed 0 0 msg) .no,[],[]⟩:=by
 have g0:=f86 0 (by decide);have g1:=f88 seed 0 hs;have g2:=f87 (lsV seed 0) 0 msg (by rw[eJ];decide) (by decide) hm;have g3:=xk2 seed hs;have g4:=xk5 (pubL (lsV seed 0) 0);have hl:=gF (lsV seed 0) 0 msg;have hp0:=cu (lsV seed 0) 0;have hp1:=cu (lsV seed 0) 1;rw[Xe]at g3;simp only[bys,aC,bH]at g3;simp only[c0,c1]at*;have e:ip seed 0 0 msg=co 0::(jH (lsV seed 0) 0 msg++ []):=rfl;rw[e];generalize jH (lsV seed 0) 0 msg=S at*;generalize pubL (lsV seed 0) 0=A at*;generalize pubL (lsV seed 0) 1=B at*;have c2:1+S.length<=140737488355328:=by omega
 have c3:S.length+1<=140737488355328:=by omega
 have c4:1+S.length+16<=140737488355328:=by omega
 have c5:S.length+1+16<=140737488355328:=by omega
 rw[aj XF];simp (config:= {decide:=true}) only[go_sem,Q0,Q1,Q2,Q3,Q4,Q5,Q6,Q7,Q8,Q9,Qa,Qb,Qc,Qd,Qe,Qf,Qg,Qh,Qi,Qj,Qk,reduceCtorEq,reduceIte,w0,w1,g0,qx,g1,g2,g3,g4,Rc,xdf,xdd,xde,c2,c3,hl];rw[ah];simp (config:= {decide:=true}) only[go_sem,Q0,Q1,Q2,Q3,Q4,Q5,Q6,Q7,Q8,Q9,Qa,Qb,Qc,Qd,Qe,Qf,Qg,Qh,Qi,Qj,Qk,reduceCtorEq,reduceIte,hl,hp0,hp1,c2,c3,c4,c5]
theorem xli(seed msg:List UInt8)(hs:seed.length<=64)(hm:msg.length<=100000000):call T 55 [.byt seed .no,.int .i64 1,.int .i64 0,.byt msg .no] [] 0=some ⟨.byt (ip seed 1 0 msg) .no,[],[]⟩:=by
 have g0:=f86 1 (by decide);have g1:=f88 seed 1 hs;have g2:=f87 (lsV seed 1) 0 msg (by rw[eJ];decide) (by decide) hm;have g3:=xi5 seed hs;have g4:=xk4 (pubL (lsV seed 1) 0) (pubL (lsV seed 1) 1) (by rw[cu];decide) (by rw[cu];decide);have hl:=gF (lsV seed 1) 0 msg;have hp0:=cu (lsV seed 1) 0;have hp1:=cu (lsV seed 1) 1;rw[Dy]at g3;simp only[bys,aC,bH]at g3;simp only[c0,c1]at*;have e:ip seed 1 0 msg=co 0::(jH (lsV seed 1) 0 msg++(pubL (lsV seed 1) 1)):=rfl;rw[e];generalize jH (lsV seed 1) 0 msg=S at*;generalize pubL (lsV seed 1) 0=A at*;generalize pubL (lsV seed 1) 1=B at*;have c2:1+S.length<=140737488355328:=by omega
 have c3:S.length+1<=140737488355328:=by omega
 have c4:1+S.length+16<=140737488355328:=by omega
 have c5:S.length+1+16<=140737488355328:=by omega
 rw[aj XF];simp (config:= {decide:=true}) only[go_sem,Q0,Q1,Q2,Q3,Q4,Q5,Q6,Q7,Q8,Q9,Qa,Qb,Qc,Qd,Qe,Qf,Qg,Qh,Qi,Qj,Qk,reduceCtorEq,reduceIte,w0,w1,g0,qx,g1,g2,g3,g4,Rc,xdf,xdd,xde,c2,c3,hl];rw[ah];simp (config:= {decide:=true}) only[go_sem,Q0,Q1,Q2,Q3,Q4,Q5,Q6,Q7,Q8,Q9,Qa,Qb,Qc,Qd,Qe,Qf,Qg,Qh,Qi,Qj,Qk,reduceCtorEq,reduceIte,hl,hp0,hp1,c2,c3,c4,c5];rw[ah];simp (config:= {decide:=true}) only[go_sem,Q0,Q1,Q2,Q3,Q4,Q5,Q6,Q7,Q8,Q9,Qa,Qb,Qc,Qd,Qe,Qf,Qg,Qh,Qi,Qj,Qk,reduceCtorEq,reduceIte]
theorem xlh(seed msg:List UInt8)(hs:seed.length<=64)(hm:msg.length<=100000000):call T 55 [.byt seed .no,.int .i64 1,.int .i64 1,.byt msg .no] [] 0=some ⟨.byt (ip seed 1 1 msg) .no,[],[]⟩:=by
 have g0:=f86 1 (by decide);have g1:=f88 seed 1 hs;have g2:=f87 (lsV seed 1) 1 msg (by rw[eJ];decide) (by decide) hm;have g3:=xi5 seed hs;have g4:=xk3 (pubL (lsV seed 1) 0) (pubL (lsV seed 1) 1) (by rw[cu];decide) (by rw[cu];decide);have hl:=gF (lsV seed 1) 1 msg;have hp0:=cu (lsV seed 1) 0;have hp1:=cu (lsV seed 1) 1;rw[Dy]at g3;simp only[bys,aC,bH]at g3;simp only[c0,c1]at*;have e:ip seed 1 1 msg=co 1::(jH (lsV seed 1) 1 msg++(pubL (lsV seed 1) 0)):=rfl;rw[e];generalize jH (lsV seed 1) 1 msg=S at*;generalize pubL (lsV seed 1) 0=A at*;generalize pubL (lsV seed 1) 1=B at*;have c2:1+S.length<=140737488355328:=by omega
 have c3:S.length+1<=140737488355328:=by omega
 have c4:1+S.length+16<=140737488355328:=by omega
 have c5:S.length+1+16<=140737488355328:=by omega
 rw[aj XF];simp (config:= {decide:=true}) only[go_sem,Q0,Q1,Q2,Q3,Q4,Q5,Q6,Q7,Q8,Q9,Qa,Qb,Qc,Qd,Qe,Qf,Qg,Qh,Qi,Qj,Qk,reduceCtorEq,reduceIte,w0,w1,g0,qx,g1,g2,g3,g4,Rc,xdf,xdd,xde,c2,c3,hl];rw[ah];simp (config:= {decide:=true}) only[go_sem,Q0,Q1,Q2,Q3,Q4,Q5,Q6,Q7,Q8,Q9,Qa,Qb,Qc,Qd,Qe,Qf,Qg,Qh,Qi,Qj,Qk,reduceCtorEq,reduceIte,hl,hp0,hp1,c2,c3,c4,c5];rw[ah];simp (config:= {decide:=true}) only[go_sem,Q0,Q1,Q2,Q3,Q4,Q5,Q6,Q7,Q8,Q9,Qa,Qb,Qc,Qd,Qe,Qf,Qg,Qh,Qi,Qj,Qk,reduceCtorEq,reduceIte]
theorem n57(seed:List UInt8)(h leaf:Int)(msg:List UInt8)(hn:mH h leaf):call T 57 [.byt seed .no,.int .i64 h,.int .i64 leaf,.byt msg .no] [] 0=some ⟨.byt [] .no,[],[]⟩:=by
 rw[aj XE]
 by_cases h1:h<0
 ·simp only[go_sem,Q0,Q1,Q2,Q3,Q4,Q5,Q6,Q7,Q8,Q9,Qa,Qb,Qc,Qd,Qe,Qf,Qg,Qh,Qi,Qj,Qk,reduceCtorEq,reduceIte,h1]
 by_cases h2:3<h
 ·simp only[go_sem,Q0,Q1,Q2,Q3,Q4,Q5,Q6,Q7,Q8,Q9,Qa,Qb,Qc,Qd,Qe,Qf,Qg,Qh,Qi,Qj,Qk,reduceCtorEq,reduceIte,h1,h2]
 by_cases h3:leaf<0
 ·simp only[go_sem,Q0,Q1,Q2,Q3,Q4,Q5,Q6,Q7,Q8,Q9,Qa,Qb,Qc,Qd,Qe,Qf,Qg,Qh,Qi,Qj,Qk,reduceCtorEq,reduceIte,h1,h2,h3]
 have h4:af.wrap (1*2^min (aI.wrap h).toNat 64)<=leaf:=by unfold mH at hn;omega
 have h5:0<=aI.wrap h:=by rw[bQ];omega
 simp only[go_sem,Q0,Q1,Q2,Q3,Q4,Q5,Q6,Q7,Q8,Q9,Qa,Qb,Qc,Qd,Qe,Qf,Qg,Qh,Qi,Qj,Qk,reduceCtorEq,reduceIte,h1,h2,h3,h4,h5]
theorem xle(seed msg:List UInt8)(hs:seed.length<=64)(hm:msg.length<=100000000):call T 57 [.byt seed .no,.int .i64 0,.int .i64 0,.byt msg .no] [] 0=some ⟨.byt (ip seed 0 0 msg) .no,[],[]⟩:=by
 have g1:=f92 seed 0 hs;have g2:=f91 (lsV seed 0) 0 msg (by rw[eJ];decide) (by decide) hm;have g3:=xk6 seed hs;have g4:=xk1 (pubL (lsV seed 0) 0);have hl:=gF (lsV seed 0) 0 msg;have hp0:=cu (lsV seed 0) 0;have hp1:=cu (lsV seed 0) 1;rw[Xe]at g3;simp only[bys,aC,bH]at g3;simp only[c0,c1]at*;have e:ip seed 0 0 msg=co 0::(jH (lsV seed 0) 0 msg++ []):=rfl;rw[e];generalize jH (lsV seed 0) 0 msg=S at*;generalize pubL (lsV seed 0) 0=A at*;generalize pubL (lsV seed 0) 1=B at*;have c2:1+S.length<=140737488355328:=by omega
 have c3:S.length+1<=140737488355328:=by omega
 have c4:1+S.length+16<=140737488355328:=by omega
 have c5:S.length+1+16<=140737488355328:=by omega
 rw[aj XE];simp (config:= {decide:=true}) only[go_sem,Q0,Q1,Q2,Q3,Q4,Q5,Q6,Q7,Q8,Q9,Qa,Qb,Qc,Qd,Qe,Qf,Qg,Qh,Qi,Qj,Qk,reduceCtorEq,reduceIte,w0,w1,g1,g2,g3,g4,Rb,xdc,XP,xdb,c2,c3,hl];rw[ah];simp (config:= {decide:=true}) only[go_sem,Q0,Q1,Q2,Q3,Q4,Q5,Q6,Q7,Q8,Q9,Qa,Qb,Qc,Qd,Qe,Qf,Qg,Qh,Qi,Qj,Qk,reduceCtorEq,reduceIte,hl,hp0,hp1,c2,c3,c4,c5]
theorem xld(seed msg:List UInt8)(hs:seed.length<=64)(hm:msg.length<=100000000):call T 57 [.byt seed .no,.int .i64 1,.int .i64 0,.byt msg .no] [] 0=some ⟨.byt (ip seed 1 0 msg) .no,[],[]⟩:=by
 have g1:=f92 seed 1 hs;have g2:=f91 (lsV seed 1) 0 msg (by rw[eJ];decide) (by decide) hm;have g3:=xcY seed hs;have g4:=xk0 (pubL (lsV seed 1) 0) (pubL (lsV seed 1) 1) (by rw[cu];decide) (by rw[cu];decide);have hl:=gF (lsV seed 1) 0 msg;have hp0:=cu (lsV seed 1) 0;have hp1:=cu (lsV seed 1) 1;rw[Dy]at g3;simp only[bys,aC,bH]at g3;simp only[c0,c1]at*;have e:ip seed 1 0 msg=co 0::(jH (lsV seed 1) 0 msg++(pubL (lsV seed 1) 1)):=rfl;rw[e];generalize jH (lsV seed 1) 0 msg=S at*;generalize pubL (lsV seed 1) 0=A at*;generalize pubL (lsV seed 1) 1=B at*;have c2:1+S.length<=140737488355328:=by omega
 have c3:S.length+1<=140737488355328:=by omega
 have c4:1+S.length+16<=140737488355328:=by omega
 have c5:S.length+1+16<=140737488355328:=by omega
 rw[aj XE];simp (config:= {decide:=true}) only[go_sem,Q0,Q1,Q2,Q3,Q4,Q5,Q6,Q7,Q8,Q9,Qa,Qb,Qc,Qd,Qe,Qf,Qg,Qh,Qi,Qj,Qk,reduceCtorEq,reduceIte,w0,w1,g1,g2,g3,g4,Rb,xdc,XP,xdb,c2,c3,hl];rw[ah];simp (config:= {decide:=true}) only[go_sem,Q0,Q1,Q2,Q3,Q4,Q5,Q6,Q7,Q8,Q9,Qa,Qb,Qc,Qd,Qe,Qf,Qg,Qh,Qi,Qj,Qk,reduceCtorEq,reduceIte,hl,hp0,hp1,c2,c3,c4,c5];rw[ah];simp (config:= {decide:=true}) only[go_sem,Q0,Q1,Q2,Q3,Q4,Q5,Q6,Q7,Q8,Q9,Qa,Qb,Qc,Qd,Qe,Qf,Qg,Qh,Qi,Qj,Qk,reduceCtorEq,reduceIte]
theorem xlc(seed msg:List UInt8)(hs:seed.length<=64)(hm:msg.length<=100000000):call T 57 [.byt seed .no,.int .i64 1,.int .i64 1,.byt msg .no] [] 0=some ⟨.byt (ip seed 1 1 msg) .no,[],[]⟩:=by
 have g1:=f92 seed 1 hs;have g2:=f91 (lsV seed 1) 1 msg (by rw[eJ];decide) (by decide) hm;have g3:=xcY seed hs;have g4:=xkZ (pubL (lsV seed 1) 0) (pubL (lsV seed 1) 1) (by rw[cu];decide) (by rw[cu];decide);have hl:=gF (lsV seed 1) 1 msg;have hp0:=cu (lsV seed 1) 0;have hp1:=cu (lsV seed 1) 1;rw[Dy]at g3;simp only[bys,aC,bH]at g3;simp only[c0,c1]at*;have e:ip seed 1 1 msg=co 1::(jH (lsV seed 1) 1 msg++(pubL (lsV seed 1) 0)):=rfl;rw[e];generalize jH (lsV seed 1) 1 msg=S at*;generalize pubL (lsV seed 1) 0=A at*;generalize pubL (lsV seed 1) 1=B at*;have c2:1+S.length<=140737488355328:=by omega
 have c3:S.length+1<=140737488355328:=by omega
 have c4:1+S.length+16<=140737488355328:=by omega
 have c5:S.length+1+16<=140737488355328:=by omega
 rw[aj XE];simp (config:= {decide:=true}) only[go_sem,Q0,Q1,Q2,Q3,Q4,Q5,Q6,Q7,Q8,Q9,Qa,Qb,Qc,Qd,Qe,Qf,Qg,Qh,Qi,Qj,Qk,reduceCtorEq,reduceIte,w0,w1,g1,g2,g3,g4,Rb,xdc,XP,xdb,c2,c3,hl];rw[ah];simp (config:= {decide:=true}) only[go_sem,Q0,Q1,Q2,Q3,Q4,Q5,Q6,Q7,Q8,Q9,Qa,Qb,Qc,Qd,Qe,Qf,Qg,Qh,Qi,Qj,Qk,reduceCtorEq,reduceIte,hl,hp0,hp1,c2,c3,c4,c5];rw[ah];simp (config:= {decide:=true}) only[go_sem,Q0,Q1,Q2,Q3,Q4,Q5,Q6,Q7,Q8,Q9,Qa,Qb,Qc,Qd,Qe,Qf,Qg,Qh,Qi,Qj,Qk,reduceCtorEq,reduceIte]
theorem Rw(seed msg:List UInt8):sgn seed 0 0 msg=ip seed 0 0 msg:=by unfold sgn;rw[if_neg (by decide)];rfl
theorem wJ(seed msg:List UInt8):sgn seed 1 0 msg=ip seed 1 0 msg:=by unfold sgn;rw[if_neg (by decide)];rfl
theorem sr(seed msg:List UInt8):sgn seed 1 1 msg=ip seed 1 1 msg:=by unfold sgn;rw[if_neg (by decide)];rfl
theorem f55(seed:List UInt8)(h leaf:Int)(msg:List UInt8)(hs:seed.length<=64)(hm:msg.length<=100000000)(hh:h<0\/3<h\/h=0\/h=1):
 call T 55 [.byt seed .no,.int .i64 h,.int .i64 leaf,.byt msg .no] [] 0=some ⟨.byt (sgn seed h leaf msg) .no,[],[]⟩:=by
 by_cases hn:mH h leaf
 ·have:sgn seed h leaf msg=[]:=if_pos hn
  rw[this];exact n55 seed h leaf msg hn
 ·have h1:h=0\/h=1:=by unfold mH at hn;omega
  rcases h1 with rfl|rfl
  ·have h2:leaf=0:=by have:=(not_congr (Mu leaf)).1 hn;omega
   subst h2;rw[Rw];exact xlj seed msg hs hm
  ·have h2:leaf=0\/leaf=1:=by have:=(not_congr (Mt leaf)).1 hn;omega
   rcases h2 with rfl|rfl
   ·rw[wJ];exact xli seed msg hs hm
   ·rw[sr];exact xlh seed msg hs hm
theorem f57(seed:List UInt8)(h leaf:Int)(msg:List UInt8)(hs:seed.length<=64)(hm:msg.length<=100000000)(hh:h<0\/3<h\/h=0\/h=1):
 call T 57 [.byt seed .no,.int .i64 h,.int .i64 leaf,.byt msg .no] [] 0=some ⟨.byt (sgn seed h leaf msg) .no,[],[]⟩:=by
 by_cases hn:mH h leaf
 ·have:sgn seed h leaf msg=[]:=if_pos hn
  rw[this];exact n57 seed h leaf msg hn
 ·have h1:h=0\/h=1:=by unfold mH at hn;omega
  rcases h1 with rfl|rfl
  ·have h2:leaf=0:=by have:=(not_congr (Mu leaf)).1 hn;omega
   subst h2;rw[Rw];exact xle seed msg hs hm
  ·have h2:leaf=0\/leaf=1:=by have:=(not_congr (Mt leaf)).1 hn;omega
   rcases h2 with rfl|rfl
   ·rw[wJ];exact xld seed msg hs hm
   ·rw[sr];exact xlc seed msg hs hm
theorem FH(P:List (List UInt8))(s:List UInt8):bys (P++ [s])=bys P++ [[.byt s .no]]:=by simp[bys]
theorem y9:∀(n:Nat)(l:List UInt8),(rws n l).length=n
 |0,_=>rfl
 |n+1,l=>by rw[rws,ai,y9 n]
theorem FV:∀(n:Nat)(l:List UInt8),∀s∈rws n l,s.length<=1000000
 |0,_=>fun s h=>by cases h
 |n+1,l=>fun s h=>by
  rw[rws]at h;rcases an.1 h with rfl|h
  ·rw[ax];omega
  ·exact FV n _ s h
theorem l58(pub x:List UInt8)(leaf:Int):∀(n:Nat)(rest:List UInt8)(P:List (List UInt8)),rest.length=16*n->P.length+n<=3->
 run T (.loop w8) ⟨[(0,.byt pub .no),(6,.int .i64 leaf),(9,.byt x .no),(10,.lst 1 (bys P) (.id 110)),(11,.byt rest .no)],[],[110]⟩=
 some (.x 0,⟨[(0,.byt pub .no),(6,.int .i64 leaf),(9,.byt x .no),(10,.lst 1 (bys (P++rws n rest)) (.id 110))],[],[110]⟩):=by
 intro n;induction n with
 |zero=>
  intro rest P h0 h1;have hz:¬0<rest.length:=by omega
  have hzI:¬(0:Int)<(rest.length:Int):=by omega
  rw[ah,rws,aZ];simp only[go_sem,Q0,Q1,Q2,Q3,Q4,Q5,Q6,Q7,Q8,Q9,Qa,Qb,Qc,Qd,Qe,Qf,Qg,Qh,Qi,Qj,Qk,reduceCtorEq,reduceIte,hz,hzI]
 |succ n ih=>
  intro rest P h0 h1;have hz:0<rest.length:=by omega
  have hzI:(0:Int)<(rest.length:Int):=by omega
  have h16:16<=rest.length:=by omega
  have h16I:(16:Int)<=(rest.length:Int):=by omega
  have ih':=ih (rest.drop 16) (P++ [rest.take 16]) (by rw[aQ];omega) (by rw[ac,aV];omega);rw[FH,av,dA]at ih';have hl:=jd P;have c1:(P.length+1)*24<=140737488355328:=by omega
  have t2:rest.take rest.length=rest:=bY;rw[ah,rws];simp only[go_sem,Q0,Q1,Q2,Q3,Q4,Q5,Q6,Q7,Q8,Q9,Qa,Qb,Qc,Qd,Qe,Qf,Qg,Qh,Qi,Qj,Qk,reduceCtorEq,reduceIte,hz,hzI,h16,h16I,hl,c1,t2,ih']
def Rp(pub msg sig:List UInt8):SV:= .tup [.int .i64 (if jq pub msg sig=true then((sig.getD 0 0).toNat:Int)else 0),.bool (jq pub msg sig)]
theorem xj3(n:Nat)(h:n<=3):af.wrap (1*2^min (aI.wrap (n:Int)).toNat 64)=((2^n:Nat):Int):=by rcases (by omega:n=0\/n=1\/n=2\/n=3)with rfl|rfl|rfl|rfl<;>decide
theorem mO{pub msg sig:List UInt8}(h:jq pub msg sig=false):Rp pub msg sig= .tup [.int .i64 0,.bool false]:=by unfold Rp;rw[h];rfl
theorem f58(pub msg sig:List UInt8)(hm:msg.length<=100000000):call T 58 [.byt pub .no,.byt msg .no,.byt sig .no] [] 0=some ⟨Rp pub msg sig,[],[]⟩:=by
 by_cases h1:pub.length=17
 ·have h1I:(pub.length:Int)=17:=by omega
  have h0:0<pub.length:=by omega
  by_cases h2:(pub.getD 0 0).toNat<=3
  ·have g1:=f86 _ h2
   by_cases h3:sig.length=561+16*(pub.getD 0 0).toNat
   ·have h4:0<sig.length:=by omega
    have hz0:(0:Int)<((561+16*(pub.getD 0 0).toNat:Nat):Int):=by omega
    have t3:sig.take (561+16*(pub.getD 0 0).toNat)=sig:=bf (by omega);have t4:pub.take 17=pub:=bf (by omega);have e2:=xj3 _ h2;have m1:af.wrap (16*((pub.getD 0 0).toNat:Int))=((16*(pub.getD 0 0).toNat:Nat):Int):=wZ (by omega)
    have m2:af.wrap (561+((16*(pub.getD 0 0).toNat:Nat):Int))=((561+16*(pub.getD 0 0).toNat:Nat):Int):=wZ (by omega)
    have h5u:0<=aI.wrap ((pub.getD 0 0).toNat:Int):=by rw[bQ];omega
    by_cases h5:(sig.getD 0 0).toNat<2^(pub.getD 0 0).toNat
    ·have h5n:¬2^(pub.getD 0 0).toNat<=(sig.getD 0 0).toNat:=by omega
     have g2:=f94 (sig.getD 0 0).toNat msg ((sig.drop 1).take 560) (by have:=(sig.getD 0 0).toNat_lt;omega) (by rw[ax,aQ];omega) hm;have g3:=l58 pub (tN (sig.getD 0 0).toNat msg ((sig.drop 1).take 560)) (sig.getD 0 0).toNat (pub.getD 0 0).toNat (sig.drop 561) [] (by rw[aQ];omega) (by simpa using h2);have hrl:=y9 (pub.getD 0 0).toNat (sig.drop 561);have g4:=f95 (tN (sig.getD 0 0).toNat msg ((sig.drop 1).take 560)) (sig.getD 0 0).toNat (rws (pub.getD 0 0).toNat (sig.drop 561)) (by rw[hrl];exact h2) (FV _ _) (by rw[hrl];exact h5) (by rw[tN,tn,dC];decide)
     have hv:jq pub msg sig=decide (ph 0 (sig.getD 0 0).toNat (rws (pub.getD 0 0).toNat (sig.drop 561)) (tN (sig.getD 0 0).toNat msg ((sig.drop 1).take 560))=pub.drop 1):=by unfold jq;rw[if_pos ⟨h1,h2⟩,if_pos ⟨h3,h5⟩]
     have t1:(sig.take 561).drop 1=(sig.drop 1).take 560:=by rw[Dv]
     have a1:561<=sig.length:=by omega
     have a2:1<=pub.length:=by omega
     have a3:561<=561+16*(pub.getD 0 0).toNat:=by omega
     have a4:1<=17:=by decide
     have a5:(561:Int)<=((561+16*(pub.getD 0 0).toNat:Nat):Int):=by omega
     unfold Rp;rw[hv];generalize tN (sig.getD 0 0).toNat msg ((sig.drop 1).take 560)=X at*;generalize rws (pub.getD 0 0).toNat (sig.drop 561)=R at*;generalize ph 0 (sig.getD 0 0).toNat R X=Y at*;have b0:bys []=[]:=rfl;simp only[aF,b0]at g3;generalize hp0:pub.getD 0 0=pb at*;generalize hs0:sig.getD 0 0=sb at*;rw[aj Ra]
     by_cases hY:Y=pub.drop 1
     ·simp only[go_sem,Q0,Q1,Q2,Q3,Q4,Q5,Q6,Q7,Q8,Q9,Qa,Qb,Qc,Qd,Qe,Qf,Qg,Qh,Qi,Qj,Qk,reduceCtorEq,reduceIte,h1,h1I,h0,hp0,hs0,g1,qx,h3,h4,hz0,t3,t4,e2,m1,m2,h5,h5n,h5u,t1,g2,xjF,a1,a3,a4,a5,g3,g4,xjE,hY]
     ·simp only[go_sem,Q0,Q1,Q2,Q3,Q4,Q5,Q6,Q7,Q8,Q9,Qa,Qb,Qc,Qd,Qe,Qf,Qg,Qh,Qi,Qj,Qk,reduceCtorEq,reduceIte,h1,h1I,h0,hp0,hs0,g1,qx,h3,h4,hz0,t3,t4,e2,m1,m2,h5,h5n,h5u,t1,g2,xjF,a1,a3,a4,a5,g3,g4,xjE,hY]
    ·have h5n:2^(pub.getD 0 0).toNat<=(sig.getD 0 0).toNat:=by omega
     have hv:jq pub msg sig=false:=by unfold jq;rw[if_pos ⟨h1,h2⟩,if_neg (fun h=>h5 h.2)]
     rw[mO hv];generalize hp0:pub.getD 0 0=pb at*;generalize hs0:sig.getD 0 0=sb at*;rw[aj Ra];simp only[go_sem,Q0,Q1,Q2,Q3,Q4,Q5,Q6,Q7,Q8,Q9,Qa,Qb,Qc,Qd,Qe,Qf,Qg,Qh,Qi,Qj,Qk,reduceCtorEq,reduceIte,h1,h1I,h0,hp0,hs0,g1,qx,h3,h4,hz0,t3,t4,e2,m1,m2,h5,h5n,h5u]
   ·have hv:jq pub msg sig=false:=by
     unfold jq;rw[if_pos ⟨h1,h2⟩,if_neg (fun h=>h3 h.1)]
    have m1:af.wrap (16*((pub.getD 0 0).toNat:Int))=((16*(pub.getD 0 0).toNat:Nat):Int):=wZ (by omega)
    have m2:af.wrap (561+((16*(pub.getD 0 0).toNat:Nat):Int))=((561+16*(pub.getD 0 0).toNat:Nat):Int):=wZ (by omega)
    have h3I:¬(sig.length:Int)=((561+16*(pub.getD 0 0).toNat:Nat):Int):=by omega
    rw[mO hv];generalize hp0:pub.getD 0 0=pb at*;rw[aj Ra];simp only[go_sem,Q0,Q1,Q2,Q3,Q4,Q5,Q6,Q7,Q8,Q9,Qa,Qb,Qc,Qd,Qe,Qf,Qg,Qh,Qi,Qj,Qk,reduceCtorEq,reduceIte,h1,h1I,h0,hp0,g1,qx,h3,h3I,m1,m2]
  ·have g1:=xcX ((pub.getD 0 0).toNat:Int) (by omega)
   have hv:jq pub msg sig=false:=by unfold jq;rw[if_neg (fun h=>h2 h.2)]
   rw[mO hv];generalize hp0:pub.getD 0 0=pb at*;rw[aj Ra];simp only[go_sem,Q0,Q1,Q2,Q3,Q4,Q5,Q6,Q7,Q8,Q9,Qa,Qb,Qc,Qd,Qe,Qf,Qg,Qh,Qi,Qj,Qk,reduceCtorEq,reduceIte,h1,h1I,h0,hp0,g1,qx]
 ·have h1I:¬(pub.length:Int)=17:=by omega
  have hv:jq pub msg sig=false:=by unfold jq;rw[if_neg (fun h=>h1 h.1)]
  rw[mO hv,aj Ra];simp only[go_sem,Q0,Q1,Q2,Q3,Q4,Q5,Q6,Q7,Q8,Q9,Qa,Qb,Qc,Qd,Qe,Qf,Qg,Qh,Qi,Qj,Qk,reduceCtorEq,reduceIte,h1,h1I]
end Go.Proofs.YtkggincjigbelaaGreatDoor
