/- What the functions come to. No condition. -/
import Derived.Test.YtkggincjigbelaaGreatDoorTgB
open Int renaming natCast_zero -> aw
open Go.IntKind renaming i64 -> af, u64 -> aN, wrap_u64 -> bH
open List renaming append_assoc -> ay, append_nil -> bg, drop_take -> fd, length_append -> ac, length_cons -> aj, length_drop -> aI, length_singleton -> aW, length_take -> ax, map_cons -> aC, map_nil -> bp, mem_cons -> av, nil_append -> az, singleton_append -> dd, take_length -> cK, take_of_length_le -> aO
open Nat renaming zero_add -> bX
open UInt8 renaming ofInt -> bK
set_option maxRecDepth 100000
set_option maxHeartbeats 16000000
set_option linter.unusedSimpArgs false
set_option linter.unusedVariables false
namespace Go.Proofs.YtkggincjigbelaaGreatDoor
open Go.Sy
open UInt8 renaming reduceLT -> Q0, reduceLE -> Q1
open Int renaming reduceToNat -> Q2, reduceLE -> Q3, reduceLT -> Q4, reduceEq -> Q5, reduceNe -> Q6, reduceNeg -> Q7, reduceAdd -> Q8, reduceSub -> Q9, reduceMul -> Qa
open Nat renaming reducePow -> Qb, reduceDiv -> Qc, reduceMod -> Qd, reduceAdd -> Qe, reduceSub -> Qf, reduceMul -> Qg, reduceLT -> Qh, reduceLeDiff -> Qi, reduceEqDiff -> Qj, reduceBEq -> Qk
def nT(h leaf:Int):Prop:=h<0\/3<h\/leaf<0\/af.wrap (1*2^min (aN.wrap h).toNat 64)<=leaf
instance (h leaf:Int):Decidable (nT h leaf):=by unfold nT;infer_instance
def sgn(seed:List UInt8)(h leaf:Int)(msg:List UInt8):List UInt8:=if nT h leaf then []else iw seed h.toNat leaf.toNat msg
theorem NO(leaf:Int):nT 0 leaf↔(leaf<0\/1<=leaf):=by
 have e:af.wrap (1*2^min (aN.wrap 0).toNat 64)=1:=by decide
 unfold nT;rw[e];omega
theorem NN(leaf:Int):nT 1 leaf↔(leaf<0\/2<=leaf):=by
 have e:af.wrap (1*2^min (aN.wrap 1).toNat 64)=2:=by decide
 unfold nT;rw[e];omega
theorem w0:aN.wrap 0=0:=by decide
theorem w1:aN.wrap 1=1:=by decide
theorem n55(seed:List UInt8)(h leaf:Int)(msg:List UInt8)(hn:nT h leaf):call T 55 [.byt seed .no,.int .i64 h,.int .i64 leaf,.byt msg .no] [] 0=some ⟨.byt [] .no,[],[]⟩:=by
 rw[ah ZR]
 by_cases h1:h<0
 ·have g:=xfc h (by omega)
  simp only[go_sem,Q0,Q1,Q2,Q3,Q4,Q5,Q6,Q7,Q8,Q9,Qa,Qb,Qc,Qd,Qe,Qf,Qg,Qh,Qi,Qj,Qk,reduceCtorEq,reduceIte,h1,g,se]
 by_cases h2:3<h
 ·have g:=xfc h (by omega)
  simp only[go_sem,Q0,Q1,Q2,Q3,Q4,Q5,Q6,Q7,Q8,Q9,Qa,Qb,Qc,Qd,Qe,Qf,Qg,Qh,Qi,Qj,Qk,reduceCtorEq,reduceIte,h1,h2,g,se]
 obtain⟨m,rfl⟩:∃m:Nat,h=(m:Int):=⟨h.toNat,by omega⟩;have g:=f86 m (by omega)
 by_cases h3:leaf<0
 ·simp only[go_sem,Q0,Q1,Q2,Q3,Q4,Q5,Q6,Q7,Q8,Q9,Qa,Qb,Qc,Qd,Qe,Qf,Qg,Qh,Qi,Qj,Qk,reduceCtorEq,reduceIte,h1,h2,h3,g,se]
 have h4:af.wrap (1*2^min (aN.wrap (m:Int)).toNat 64)<=leaf:=by unfold nT at hn;omega
 have h5:0<=aN.wrap (m:Int):=by rw[bH];omega
 simp only[go_sem,Q0,Q1,Q2,Q3,Q4,Q5,Q6,Q7,Q8,Q9,Qa,Qb,Qc,Qd,Qe,Qf,Qg,Qh,Qi,Qj,Qk,reduceCtorEq,reduceIte,h1,h2,h3,h4,h5,g,se]
theorem xon(seed msg:List UInt8)(hs:seed.length<=64)(hm:msg.length<=100000000):call T 55 [.byt seed .no,.int .i64 0,.int .i64 0,.byt msg .no] [] 0=some ⟨.byt (iw seed 0 0 msg) .no,[],[]⟩:=by
 have g0:=f86 0 (by decide);have g1:=f88 seed 0 hs;have g2:=f87 (lsV seed 0) 0 msg (by rw[e9];decide) (by decide) hm;have g3:=xn7 seed hs;have g4:=xoa (pubL (lsV seed 0) 0);have hl:=gr (lsV seed 0) 0 msg;have hp0:=co (lsV seed 0) 0;have hp1:=co (lsV seed 0) 1;rw[Zr]at g3;simp only[bys,aC,bp]at g3;simp only[c0,c1]at*;have e:iw seed 0 0 msg=bK 0::(kg (lsV seed 0) 0 msg++ []):=rfl;rw[e];generalize kg (lsV seed 0) 0 msg=S at*;generalize pubL (lsV seed 0) 0=A at*;generalize pubL (lsV seed 0) 1=B at*;have c2:1+S.length<=140737488355328:=by omega
 have c3:S.length+1<=140737488355328:=by omega
 have c4:1+S.length+16<=140737488355328:=by omega
 have c5:S.length+1+16<=140737488355328:=by omega
 rw[ah ZR];simp (config:= {decide:=true}) only[go_sem,Q0,Q1,Q2,Q3,Q4,Q5,Q6,Q7,Q8,Q9,Qa,Qb,Qc,Qd,Qe,Qf,Qg,Qh,Qi,Qj,Qk,reduceCtorEq,reduceIte,w0,w1,g0,se,g1,g2,g3,g4,SS,xfw,xfu,xfv,c2,c3,hl];rw[ai];simp (config:= {decide:=true}) only[go_sem,Q0,Q1,Q2,Q3,Q4,Q5,Q6,Q7,Q8,Q9,Qa,Qb,Qc,Qd,Qe,Qf,Qg,Qh,Qi,Qj,Qk,reduceCtorEq,reduceIte,hl,hp0,hp1,c2,c3,c4,c5]
theorem xom(seed msg:List UInt8)(hs:seed.length<=64)(hm:msg.length<=100000000):call T 55 [.byt seed .no,.int .i64 1,.int .i64 0,.byt msg .no] [] 0=some ⟨.byt (iw seed 1 0 msg) .no,[],[]⟩:=by
 have g0:=f86 1 (by decide);have g1:=f88 seed 1 hs;have g2:=f87 (lsV seed 1) 0 msg (by rw[e9];decide) (by decide) hm;have g3:=xl4 seed hs;have g4:=xn9 (pubL (lsV seed 1) 0) (pubL (lsV seed 1) 1) (by rw[co];decide) (by rw[co];decide);have hl:=gr (lsV seed 1) 0 msg;have hp0:=co (lsV seed 1) 0;have hp1:=co (lsV seed 1) 1;rw[El]at g3;simp only[bys,aC,bp]at g3;simp only[c0,c1]at*;have e:iw seed 1 0 msg=bK 0::(kg (lsV seed 1) 0 msg++(pubL (lsV seed 1) 1)):=rfl;rw[e];generalize kg (lsV seed 1) 0 msg=S at*;generalize pubL (lsV seed 1) 0=A at*;generalize pubL (lsV seed 1) 1=B at*;have c2:1+S.length<=140737488355328:=by omega
 have c3:S.length+1<=140737488355328:=by omega
 have c4:1+S.length+16<=140737488355328:=by omega
 have c5:S.length+1+16<=140737488355328:=by omega
 rw[ah ZR];simp (config:= {decide:=true}) only[go_sem,Q0,Q1,Q2,Q3,Q4,Q5,Q6,Q7,Q8,Q9,Qa,Qb,Qc,Qd,Qe,Qf,Qg,Qh,Qi,Qj,Qk,reduceCtorEq,reduceIte,w0,w1,g0,se,g1,g2,g3,g4,SS,xfw,xfu,xfv,c2,c3,hl];rw[ai];simp (config:= {decide:=true}) only[go_sem,Q0,Q1,Q2,Q3,Q4,Q5,Q6,Q7,Q8,Q9,Qa,Qb,Qc,Qd,Qe,Qf,Qg,Qh,Qi,Qj,Qk,reduceCtorEq,reduceIte,hl,hp0,hp1,c2,c3,c4,c5];rw[ai];simp (config:= {decide:=true}) only[go_sem,Q0,Q1,Q2,Q3,Q4,Q5,Q6,Q7,Q8,Q9,Qa,Qb,Qc,Qd,Qe,Qf,Qg,Qh,Qi,Qj,Qk,reduceCtorEq,reduceIte]
theorem xol(seed msg:List UInt8)(hs:seed.length<=64)(hm:msg.length<=100000000):call T 55 [.byt seed .no,.int .i64 1,.int .i64 1,.byt msg .no] [] 0=some ⟨.byt (iw seed 1 1 msg) .no,[],[]⟩:=by
 have g0:=f86 1 (by decide);have g1:=f88 seed 1 hs;have g2:=f87 (lsV seed 1) 1 msg (by rw[e9];decide) (by decide) hm;have g3:=xl4 seed hs;have g4:=xn8 (pubL (lsV seed 1) 0) (pubL (lsV seed 1) 1) (by rw[co];decide) (by rw[co];decide);have hl:=gr (lsV seed 1) 1 msg;have hp0:=co (lsV seed 1) 0;have hp1:=co (lsV seed 1) 1;rw[El]at g3;simp only[bys,aC,bp]at g3;simp only[c0,c1]at*;have e:iw seed 1 1 msg=bK 1::(kg (lsV seed 1) 1 msg++(pubL (lsV seed 1) 0)):=rfl;rw[e];generalize kg (lsV seed 1) 1 msg=S at*;generalize pubL (lsV seed 1) 0=A at*;generalize pubL (lsV seed 1) 1=B at*;have c2:1+S.length<=140737488355328:=by omega
 have c3:S.length+1<=140737488355328:=by omega
 have c4:1+S.length+16<=140737488355328:=by omega
 have c5:S.length+1+16<=140737488355328:=by omega
 rw[ah ZR];simp (config:= {decide:=true}) only[go_sem,Q0,Q1,Q2,Q3,Q4,Q5,Q6,Q7,Q8,Q9,Qa,Qb,Qc,Qd,Qe,Qf,Qg,Qh,Qi,Qj,Qk,reduceCtorEq,reduceIte,w0,w1,g0,se,g1,g2,g3,g4,SS,xfw,xfu,xfv,c2,c3,hl];rw[ai];simp (config:= {decide:=true}) only[go_sem,Q0,Q1,Q2,Q3,Q4,Q5,Q6,Q7,Q8,Q9,Qa,Qb,Qc,Qd,Qe,Qf,Qg,Qh,Qi,Qj,Qk,reduceCtorEq,reduceIte,hl,hp0,hp1,c2,c3,c4,c5];rw[ai];simp (config:= {decide:=true}) only[go_sem,Q0,Q1,Q2,Q3,Q4,Q5,Q6,Q7,Q8,Q9,Qa,Qb,Qc,Qd,Qe,Qf,Qg,Qh,Qi,Qj,Qk,reduceCtorEq,reduceIte]
theorem n57(seed:List UInt8)(h leaf:Int)(msg:List UInt8)(hn:nT h leaf):call T 57 [.byt seed .no,.int .i64 h,.int .i64 leaf,.byt msg .no] [] 0=some ⟨.byt [] .no,[],[]⟩:=by
 rw[ah ZQ]
 by_cases h1:h<0
 ·simp only[go_sem,Q0,Q1,Q2,Q3,Q4,Q5,Q6,Q7,Q8,Q9,Qa,Qb,Qc,Qd,Qe,Qf,Qg,Qh,Qi,Qj,Qk,reduceCtorEq,reduceIte,h1]
 by_cases h2:3<h
 ·simp only[go_sem,Q0,Q1,Q2,Q3,Q4,Q5,Q6,Q7,Q8,Q9,Qa,Qb,Qc,Qd,Qe,Qf,Qg,Qh,Qi,Qj,Qk,reduceCtorEq,reduceIte,h1,h2]
 by_cases h3:leaf<0
 ·simp only[go_sem,Q0,Q1,Q2,Q3,Q4,Q5,Q6,Q7,Q8,Q9,Qa,Qb,Qc,Qd,Qe,Qf,Qg,Qh,Qi,Qj,Qk,reduceCtorEq,reduceIte,h1,h2,h3]
 have h4:af.wrap (1*2^min (aN.wrap h).toNat 64)<=leaf:=by unfold nT at hn;omega
 have h5:0<=aN.wrap h:=by rw[bH];omega
 simp only[go_sem,Q0,Q1,Q2,Q3,Q4,Q5,Q6,Q7,Q8,Q9,Qa,Qb,Qc,Qd,Qe,Qf,Qg,Qh,Qi,Qj,Qk,reduceCtorEq,reduceIte,h1,h2,h3,h4,h5]
theorem xoi(seed msg:List UInt8)(hs:seed.length<=64)(hm:msg.length<=100000000):call T 57 [.byt seed .no,.int .i64 0,.int .i64 0,.byt msg .no] [] 0=some ⟨.byt (iw seed 0 0 msg) .no,[],[]⟩:=by
 have g1:=f92 seed 0 hs;have g2:=f91 (lsV seed 0) 0 msg (by rw[e9];decide) (by decide) hm;have g3:=xoc seed hs;have g4:=xn6 (pubL (lsV seed 0) 0);have hl:=gr (lsV seed 0) 0 msg;have hp0:=co (lsV seed 0) 0;have hp1:=co (lsV seed 0) 1;rw[Zr]at g3;simp only[bys,aC,bp]at g3;simp only[c0,c1]at*;have e:iw seed 0 0 msg=bK 0::(kg (lsV seed 0) 0 msg++ []):=rfl;rw[e];generalize kg (lsV seed 0) 0 msg=S at*;generalize pubL (lsV seed 0) 0=A at*;generalize pubL (lsV seed 0) 1=B at*;have c2:1+S.length<=140737488355328:=by omega
 have c3:S.length+1<=140737488355328:=by omega
 have c4:1+S.length+16<=140737488355328:=by omega
 have c5:S.length+1+16<=140737488355328:=by omega
 rw[ah ZQ];simp (config:= {decide:=true}) only[go_sem,Q0,Q1,Q2,Q3,Q4,Q5,Q6,Q7,Q8,Q9,Qa,Qb,Qc,Qd,Qe,Qf,Qg,Qh,Qi,Qj,Qk,reduceCtorEq,reduceIte,w0,w1,g1,g2,g3,g4,SR,xft,Z2,xfs,c2,c3,hl];rw[ai];simp (config:= {decide:=true}) only[go_sem,Q0,Q1,Q2,Q3,Q4,Q5,Q6,Q7,Q8,Q9,Qa,Qb,Qc,Qd,Qe,Qf,Qg,Qh,Qi,Qj,Qk,reduceCtorEq,reduceIte,hl,hp0,hp1,c2,c3,c4,c5]
theorem xoh(seed msg:List UInt8)(hs:seed.length<=64)(hm:msg.length<=100000000):call T 57 [.byt seed .no,.int .i64 1,.int .i64 0,.byt msg .no] [] 0=some ⟨.byt (iw seed 1 0 msg) .no,[],[]⟩:=by
 have g1:=f92 seed 1 hs;have g2:=f91 (lsV seed 1) 0 msg (by rw[e9];decide) (by decide) hm;have g3:=xfd seed hs;have g4:=xn5 (pubL (lsV seed 1) 0) (pubL (lsV seed 1) 1) (by rw[co];decide) (by rw[co];decide);have hl:=gr (lsV seed 1) 0 msg;have hp0:=co (lsV seed 1) 0;have hp1:=co (lsV seed 1) 1;rw[El]at g3;simp only[bys,aC,bp]at g3;simp only[c0,c1]at*;have e:iw seed 1 0 msg=bK 0::(kg (lsV seed 1) 0 msg++(pubL (lsV seed 1) 1)):=rfl;rw[e];generalize kg (lsV seed 1) 0 msg=S at*;generalize pubL (lsV seed 1) 0=A at*;generalize pubL (lsV seed 1) 1=B at*;have c2:1+S.length<=140737488355328:=by omega
 have c3:S.length+1<=140737488355328:=by omega
 have c4:1+S.length+16<=140737488355328:=by omega
 have c5:S.length+1+16<=140737488355328:=by omega
 rw[ah ZQ];simp (config:= {decide:=true}) only[go_sem,Q0,Q1,Q2,Q3,Q4,Q5,Q6,Q7,Q8,Q9,Qa,Qb,Qc,Qd,Qe,Qf,Qg,Qh,Qi,Qj,Qk,reduceCtorEq,reduceIte,w0,w1,g1,g2,g3,g4,SR,xft,Z2,xfs,c2,c3,hl];rw[ai];simp (config:= {decide:=true}) only[go_sem,Q0,Q1,Q2,Q3,Q4,Q5,Q6,Q7,Q8,Q9,Qa,Qb,Qc,Qd,Qe,Qf,Qg,Qh,Qi,Qj,Qk,reduceCtorEq,reduceIte,hl,hp0,hp1,c2,c3,c4,c5];rw[ai];simp (config:= {decide:=true}) only[go_sem,Q0,Q1,Q2,Q3,Q4,Q5,Q6,Q7,Q8,Q9,Qa,Qb,Qc,Qd,Qe,Qf,Qg,Qh,Qi,Qj,Qk,reduceCtorEq,reduceIte]
theorem xog(seed msg:List UInt8)(hs:seed.length<=64)(hm:msg.length<=100000000):call T 57 [.byt seed .no,.int .i64 1,.int .i64 1,.byt msg .no] [] 0=some ⟨.byt (iw seed 1 1 msg) .no,[],[]⟩:=by
 have g1:=f92 seed 1 hs;have g2:=f91 (lsV seed 1) 1 msg (by rw[e9];decide) (by decide) hm;have g3:=xfd seed hs;have g4:=xn4 (pubL (lsV seed 1) 0) (pubL (lsV seed 1) 1) (by rw[co];decide) (by rw[co];decide);have hl:=gr (lsV seed 1) 1 msg;have hp0:=co (lsV seed 1) 0;have hp1:=co (lsV seed 1) 1;rw[El]at g3;simp only[bys,aC,bp]at g3;simp only[c0,c1]at*;have e:iw seed 1 1 msg=bK 1::(kg (lsV seed 1) 1 msg++(pubL (lsV seed 1) 0)):=rfl;rw[e];generalize kg (lsV seed 1) 1 msg=S at*;generalize pubL (lsV seed 1) 0=A at*;generalize pubL (lsV seed 1) 1=B at*;have c2:1+S.length<=140737488355328:=by omega
 have c3:S.length+1<=140737488355328:=by omega
 have c4:1+S.length+16<=140737488355328:=by omega
 have c5:S.length+1+16<=140737488355328:=by omega
 rw[ah ZQ];simp (config:= {decide:=true}) only[go_sem,Q0,Q1,Q2,Q3,Q4,Q5,Q6,Q7,Q8,Q9,Qa,Qb,Qc,Qd,Qe,Qf,Qg,Qh,Qi,Qj,Qk,reduceCtorEq,reduceIte,w0,w1,g1,g2,g3,g4,SR,xft,Z2,xfs,c2,c3,hl];rw[ai];simp (config:= {decide:=true}) only[go_sem,Q0,Q1,Q2,Q3,Q4,Q5,Q6,Q7,Q8,Q9,Qa,Qb,Qc,Qd,Qe,Qf,Qg,Qh,Qi,Qj,Qk,reduceCtorEq,reduceIte,hl,hp0,hp1,c2,c3,c4,c5];rw[ai];simp (config:= {decide:=true}) only[go_sem,Q0,Q1,Q2,Q3,Q4,Q5,Q6,Q7,Q8,Q9,Qa,Qb,Qc,Qd,Qe,Qf,Qg,Qh,Qi,Qj,Qk,reduceCtorEq,reduceIte]
theorem Tc(seed msg:List UInt8):sgn seed 0 0 msg=iw seed 0 0 msg:=by unfold sgn;rw[if_neg (by decide)];rfl
theorem tZ(seed msg:List UInt8):sgn seed 1 0 msg=iw seed 1 0 msg:=by unfold sgn;rw[if_neg (by decide)];rfl
theorem p9(seed msg:List UInt8):sgn seed 1 1 msg=iw seed 1 1 msg:=by unfold sgn;rw[if_neg (by decide)];rfl
theorem f55(seed:List UInt8)(h leaf:Int)(msg:List UInt8)(hs:seed.length<=64)(hm:msg.length<=100000000)(hh:h<0\/3<h\/h=0\/h=1):
 call T 55 [.byt seed .no,.int .i64 h,.int .i64 leaf,.byt msg .no] [] 0=some ⟨.byt (sgn seed h leaf msg) .no,[],[]⟩:=by
 by_cases hn:nT h leaf
 ·have:sgn seed h leaf msg=[]:=if_pos hn
  rw[this];exact n55 seed h leaf msg hn
 ·have h1:h=0\/h=1:=by unfold nT at hn;omega
  rcases h1 with rfl|rfl
  ·have h2:leaf=0:=by have:=(not_congr (NO leaf)).1 hn;omega
   subst h2;rw[Tc];exact xon seed msg hs hm
  ·have h2:leaf=0\/leaf=1:=by have:=(not_congr (NN leaf)).1 hn;omega
   rcases h2 with rfl|rfl
   ·rw[tZ];exact xom seed msg hs hm
   ·rw[p9];exact xol seed msg hs hm
theorem f57(seed:List UInt8)(h leaf:Int)(msg:List UInt8)(hs:seed.length<=64)(hm:msg.length<=100000000)(hh:h<0\/3<h\/h=0\/h=1):
 call T 57 [.byt seed .no,.int .i64 h,.int .i64 leaf,.byt msg .no] [] 0=some ⟨.byt (sgn seed h leaf msg) .no,[],[]⟩:=by
 by_cases hn:nT h leaf
 ·have:sgn seed h leaf msg=[]:=if_pos hn
  rw[this];exact n57 seed h leaf msg hn
 ·have h1:h=0\/h=1:=by unfold nT at hn;omega
  rcases h1 with rfl|rfl
  ·have h2:leaf=0:=by have:=(not_congr (NO leaf)).1 hn;omega
   subst h2;rw[Tc];exact xoi seed msg hs hm
  ·have h2:leaf=0\/leaf=1:=by have:=(not_congr (NN leaf)).1 hn;omega
   rcases h2 with rfl|rfl
   ·rw[tZ];exact xoh seed msg hs hm
   ·rw[p9];exact xog seed msg hs hm
theorem wy(P:List (List UInt8))(s:List UInt8):bys (P++ [s])=bys P++ [[.byt s .no]]:=by simp[bys]
theorem sK:∀(n:Nat)(l:List UInt8),(rws n l).length=n
 |0,_=>rfl
 |n+1,l=>by rw[rws,aj,sK n]
theorem yl:∀(n:Nat)(l:List UInt8),∀s∈rws n l,s.length<=1000000
 |0,_=>fun s h=>by cases h
 |n+1,l=>fun s h=>by
  rw[rws]at h;rcases av.1 h with rfl|h
  ·rw[ax];omega
  ·exact yl n _ s h
theorem l58(pub x:List UInt8)(leaf:Int):∀(n:Nat)(rest:List UInt8)(P:List (List UInt8)),rest.length=16*n->P.length+n<=3->
 run T (.loop yF) ⟨[(0,.byt pub .no),(6,.int .i64 leaf),(9,.byt x .no),(10,.lst 1 (bys P) (.id 110)),(11,.byt rest .no)],[],[110]⟩=
 some (.x 0,⟨[(0,.byt pub .no),(6,.int .i64 leaf),(9,.byt x .no),(10,.lst 1 (bys (P++rws n rest)) (.id 110))],[],[110]⟩):=by
 intro n;induction n with
 |zero=>
  intro rest P h0 h1;have hz:¬0<rest.length:=by omega
  have hzI:¬(0:Int)<(rest.length:Int):=by omega
  rw[ai,rws,bg];simp only[go_sem,Q0,Q1,Q2,Q3,Q4,Q5,Q6,Q7,Q8,Q9,Qa,Qb,Qc,Qd,Qe,Qf,Qg,Qh,Qi,Qj,Qk,reduceCtorEq,reduceIte,hz,hzI]
 |succ n ih=>
  intro rest P h0 h1;have hz:0<rest.length:=by omega
  have hzI:(0:Int)<(rest.length:Int):=by omega
  have h16:16<=rest.length:=by omega
  have h16I:(16:Int)<=(rest.length:Int):=by omega
  have ih':=ih (rest.drop 16) (P++ [rest.take 16]) (by rw[aI];omega) (by rw[ac,aW];omega);rw[wy,ay,dd]at ih';have hl:=fL P;have c1:(P.length+1)*24<=140737488355328:=by omega
  have t2:rest.take rest.length=rest:=cK;rw[ai,rws];simp only[go_sem,Q0,Q1,Q2,Q3,Q4,Q5,Q6,Q7,Q8,Q9,Qa,Qb,Qc,Qd,Qe,Qf,Qg,Qh,Qi,Qj,Qk,reduceCtorEq,reduceIte,hz,hzI,h16,h16I,hl,c1,t2,ih']
theorem l98(pub sig x:List UInt8)(leaf:Int)(h:Nat)(hh:h<=3)(hs:sig.length=561+16*h):∀(n i:Nat)(P:List (List UInt8)),i+n=h->P.length+n<=3->
 run T (.loop yo) ⟨[(0,.byt pub .no),(2,.byt sig .no),(8,.int .i64 h),(9,.int .i64 leaf),(10,.int .i64 ((561+16*i:Nat):Int)),(11,.byt x .no),(13,.lst 1 (bys P) (.id 113)),(14,.int .i64 i)],[],[113]⟩=
 some (.x 0,⟨[(0,.byt pub .no),(9,.int .i64 leaf),(11,.byt x .no),(13,.lst 1 (bys (P++rws n (sig.drop (561+16*i)))) (.id 113))],[],[113]⟩):=by
 intro n;induction n with
 |zero=>
  intro i P h0 h1;have hi:i=h:=by omega
  subst hi;rw[ai,rws,bg];simp only[go_sem,Q0,Q1,Q2,Q3,Q4,Q5,Q6,Q7,Q8,Q9,Qa,Qb,Qc,Qd,Qe,Qf,Qg,Qh,Qi,Qj,Qk,reduceCtorEq,reduceIte]
 |succ n ih=>
  intro i P h0 h1;have hi:i<h:=by omega
  have hiI:(i:Int)<(h:Int):=by omega
  have e1:=cA i (by omega);have m1:af.wrap (((561+16*i:Nat):Int)+16)=((561+16*i+16:Nat):Int):=wZ (by omega)
  have a1:561+16*i<=561+16*i+16:=by omega
  have a2:561+16*i+16<=561+16*h:=by omega
  have a3:(sig.take (561+16*i+16)).drop (561+16*i)=(sig.drop (561+16*i)).take 16:=by rw[fd];congr 1;omega
  have a4:(sig.drop (561+16*i)).drop 16=sig.drop (561+16*i+16):=by rw[List.drop_drop]
  have a5:561+16*(i+1)=561+16*i+16:=by omega
  have ih':=ih (i+1) (P++ [(sig.drop (561+16*i)).take 16]) (by omega) (by rw[ac,aW];omega);rw[a5,wy,ay,dd]at ih';have hl:=fL P;have c1:(P.length+1)*24<=140737488355328:=by omega
  rw[ai,rws,a4];generalize 561+16*i=q at*;simp only[go_sem,Q0,Q1,Q2,Q3,Q4,Q5,Q6,Q7,Q8,Q9,Qa,Qb,Qc,Qd,Qe,Qf,Qg,Qh,Qi,Qj,Qk,reduceCtorEq,reduceIte,hi,hiI,e1,m1,a1,a2,a3,hs,hl,c1,ih']
def Eh(pub msg sig:List UInt8):SV:= .tup [.int .i64 (if fw pub msg sig=true then((sig.getD 0 0).toNat:Int)else 0),.bool (fw pub msg sig)]
theorem xkh(n:Nat)(h:n<=3):af.wrap (1*2^min (aN.wrap (n:Int)).toNat 64)=((2^n:Nat):Int):=by rcases (by omega:n=0\/n=1\/n=2\/n=3)with rfl|rfl|rfl|rfl<;>decide
theorem iN{pub msg sig:List UInt8}(h:fw pub msg sig=false):Eh pub msg sig= .tup [.int .i64 0,.bool false]:=by unfold Eh;rw[h];rfl
theorem f58(pub msg sig:List UInt8)(hm:msg.length<=100000000):call T 58 [.byt pub .no,.byt msg .no,.byt sig .no] [] 0=some ⟨Eh pub msg sig,[],[]⟩:=by
 by_cases h1:pub.length=17
 ·have h1I:(pub.length:Int)=17:=by omega
  have h0:0<pub.length:=by omega
  by_cases h2:(pub.getD 0 0).toNat<=3
  ·have g1:=f86 _ h2
   by_cases h3:sig.length=561+16*(pub.getD 0 0).toNat
   ·have h4:0<sig.length:=by omega
    have hz0:(0:Int)<((561+16*(pub.getD 0 0).toNat:Nat):Int):=by omega
    have t3:sig.take (561+16*(pub.getD 0 0).toNat)=sig:=aO (by omega);have t4:pub.take 17=pub:=aO (by omega);have e2:=xkh _ h2;have m1:af.wrap (16*((pub.getD 0 0).toNat:Int))=((16*(pub.getD 0 0).toNat:Nat):Int):=wZ (by omega)
    have m2:af.wrap (561+((16*(pub.getD 0 0).toNat:Nat):Int))=((561+16*(pub.getD 0 0).toNat:Nat):Int):=wZ (by omega)
    have h5u:0<=aN.wrap ((pub.getD 0 0).toNat:Int):=by rw[bH];omega
    by_cases h5:(sig.getD 0 0).toNat<2^(pub.getD 0 0).toNat
    ·have h5n:¬2^(pub.getD 0 0).toNat<=(sig.getD 0 0).toNat:=by omega
     have g2:=f94 (sig.getD 0 0).toNat msg ((sig.drop 1).take 560) (by have:=(sig.getD 0 0).toNat_lt;omega) (by rw[ax,aI];omega) hm;have g3:=l58 pub (lx (sig.getD 0 0).toNat msg ((sig.drop 1).take 560)) (sig.getD 0 0).toNat (pub.getD 0 0).toNat (sig.drop 561) [] (by rw[aI];omega) (by simpa using h2);have hrl:=sK (pub.getD 0 0).toNat (sig.drop 561);have g4:=f95 (lx (sig.getD 0 0).toNat msg ((sig.drop 1).take 560)) (sig.getD 0 0).toNat (rws (pub.getD 0 0).toNat (sig.drop 561)) (by rw[hrl];exact h2) (yl _ _) (by rw[hrl];exact h5) (by rw[lx,pX,db];decide)
     have hv:fw pub msg sig=decide (jT 0 (sig.getD 0 0).toNat (rws (pub.getD 0 0).toNat (sig.drop 561)) (lx (sig.getD 0 0).toNat msg ((sig.drop 1).take 560))=pub.drop 1):=by unfold fw;rw[if_pos ⟨h1,h2⟩,if_pos ⟨h3,h5⟩]
     have t1:(sig.take 561).drop 1=(sig.drop 1).take 560:=by rw[fd]
     have a1:561<=sig.length:=by omega
     have a2:1<=pub.length:=by omega
     have a3:561<=561+16*(pub.getD 0 0).toNat:=by omega
     have a4:1<=17:=by decide
     have a5:(561:Int)<=((561+16*(pub.getD 0 0).toNat:Nat):Int):=by omega
     unfold Eh;rw[hv];generalize lx (sig.getD 0 0).toNat msg ((sig.drop 1).take 560)=X at*;generalize rws (pub.getD 0 0).toNat (sig.drop 561)=R at*;generalize jT 0 (sig.getD 0 0).toNat R X=Y at*;have b0:bys []=[]:=rfl;simp only[az,b0]at g3;generalize hp0:pub.getD 0 0=pb at*;generalize hs0:sig.getD 0 0=sb at*;rw[ah SQ]
     by_cases hY:Y=pub.drop 1
     ·simp only[go_sem,Q0,Q1,Q2,Q3,Q4,Q5,Q6,Q7,Q8,Q9,Qa,Qb,Qc,Qd,Qe,Qf,Qg,Qh,Qi,Qj,Qk,reduceCtorEq,reduceIte,h1,h1I,h0,hp0,hs0,g1,se,h3,h4,hz0,t3,t4,e2,m1,m2,h5,h5n,h5u,t1,g2,xmD,a1,a3,a4,a5,g3,g4,xmC,hY]
     ·simp only[go_sem,Q0,Q1,Q2,Q3,Q4,Q5,Q6,Q7,Q8,Q9,Qa,Qb,Qc,Qd,Qe,Qf,Qg,Qh,Qi,Qj,Qk,reduceCtorEq,reduceIte,h1,h1I,h0,hp0,hs0,g1,se,h3,h4,hz0,t3,t4,e2,m1,m2,h5,h5n,h5u,t1,g2,xmD,a1,a3,a4,a5,g3,g4,xmC,hY]
    ·have h5n:2^(pub.getD 0 0).toNat<=(sig.getD 0 0).toNat:=by omega
     have hv:fw pub msg sig=false:=by unfold fw;rw[if_pos ⟨h1,h2⟩,if_neg (fun h=>h5 h.2)]
     rw[iN hv];generalize hp0:pub.getD 0 0=pb at*;generalize hs0:sig.getD 0 0=sb at*;rw[ah SQ];simp only[go_sem,Q0,Q1,Q2,Q3,Q4,Q5,Q6,Q7,Q8,Q9,Qa,Qb,Qc,Qd,Qe,Qf,Qg,Qh,Qi,Qj,Qk,reduceCtorEq,reduceIte,h1,h1I,h0,hp0,hs0,g1,se,h3,h4,hz0,t3,t4,e2,m1,m2,h5,h5n,h5u]
   ·have hv:fw pub msg sig=false:=by
     unfold fw;rw[if_pos ⟨h1,h2⟩,if_neg (fun h=>h3 h.1)]
    have m1:af.wrap (16*((pub.getD 0 0).toNat:Int))=((16*(pub.getD 0 0).toNat:Nat):Int):=wZ (by omega)
    have m2:af.wrap (561+((16*(pub.getD 0 0).toNat:Nat):Int))=((561+16*(pub.getD 0 0).toNat:Nat):Int):=wZ (by omega)
    have h3I:¬(sig.length:Int)=((561+16*(pub.getD 0 0).toNat:Nat):Int):=by omega
    rw[iN hv];generalize hp0:pub.getD 0 0=pb at*;rw[ah SQ];simp only[go_sem,Q0,Q1,Q2,Q3,Q4,Q5,Q6,Q7,Q8,Q9,Qa,Qb,Qc,Qd,Qe,Qf,Qg,Qh,Qi,Qj,Qk,reduceCtorEq,reduceIte,h1,h1I,h0,hp0,g1,se,h3,h3I,m1,m2]
  ·have g1:=xfc ((pub.getD 0 0).toNat:Int) (by omega)
   have hv:fw pub msg sig=false:=by unfold fw;rw[if_neg (fun h=>h2 h.2)]
   rw[iN hv];generalize hp0:pub.getD 0 0=pb at*;rw[ah SQ];simp only[go_sem,Q0,Q1,Q2,Q3,Q4,Q5,Q6,Q7,Q8,Q9,Qa,Qb,Qc,Qd,Qe,Qf,Qg,Qh,Qi,Qj,Qk,reduceCtorEq,reduceIte,h1,h1I,h0,hp0,g1,se]
 ·have h1I:¬(pub.length:Int)=17:=by omega
  have hv:fw pub msg sig=false:=by unfold fw;rw[if_neg (fun h=>h1 h.1)]
  rw[iN hv,ah SQ];simp only[go_sem,Q0,Q1,Q2,Q3,Q4,Q5,Q6,Q7,Q8,Q9,Qa,Qb,Qc,Qd,Qe,Qf,Qg,Qh,Qi,Qj,Qk,reduceCtorEq,reduceIte,h1,h1I]
theorem f98(pub msg sig:List UInt8)(hm:msg.length<=100000000):call T 98 [.byt pub .no,.byt msg .no,.byt sig .no] [] 0=some ⟨Eh pub msg sig,[],[]⟩:=by
 by_cases h1:pub.length=17
 ·have h1I:(pub.length:Int)=17:=by omega
  have h0:0<pub.length:=by omega
  by_cases h2:(pub.getD 0 0).toNat<=3
  ·have g1:¬(3:Int)<((pub.getD 0 0).toNat:Int):=by omega
   have g1n:¬3<(pub.getD 0 0).toNat:=by omega
   by_cases h3:sig.length=561+16*(pub.getD 0 0).toNat
   ·have h4:0<sig.length:=by omega
    have hz0:(0:Int)<((561+16*(pub.getD 0 0).toNat:Nat):Int):=by omega
    have t3:sig.take (561+16*(pub.getD 0 0).toNat)=sig:=aO (by omega);have t4:pub.take 17=pub:=aO (by omega);have e2:=xkh _ h2;have m1:af.wrap (16*((pub.getD 0 0).toNat:Int))=((16*(pub.getD 0 0).toNat:Nat):Int):=wZ (by omega)
    have m2:af.wrap (561+((16*(pub.getD 0 0).toNat:Nat):Int))=((561+16*(pub.getD 0 0).toNat:Nat):Int):=wZ (by omega)
    have h5u:0<=aN.wrap ((pub.getD 0 0).toNat:Int):=by rw[bH];omega
    by_cases h5:(sig.getD 0 0).toNat<2^(pub.getD 0 0).toNat
    ·have h5n:¬2^(pub.getD 0 0).toNat<=(sig.getD 0 0).toNat:=by omega
     have g2:=xoE (sig.getD 0 0).toNat msg ((sig.drop 1).take 560) (by have:=(sig.getD 0 0).toNat_lt;omega) (by rw[ax,aI];omega) hm;have g3:=l98 pub sig (lx (sig.getD 0 0).toNat msg ((sig.drop 1).take 560)) (sig.getD 0 0).toNat (pub.getD 0 0).toNat h2 h3 (pub.getD 0 0).toNat 0 [] (bX _) (by simpa using h2);have hrl:=sK (pub.getD 0 0).toNat (sig.drop 561);have g4:=xoD (lx (sig.getD 0 0).toNat msg ((sig.drop 1).take 560)) (sig.getD 0 0).toNat (rws (pub.getD 0 0).toNat (sig.drop 561)) (by rw[hrl];exact h2) (yl _ _) (by rw[hrl];exact h5) (by rw[lx,pX,db];decide)
     have hv:fw pub msg sig=decide (jT 0 (sig.getD 0 0).toNat (rws (pub.getD 0 0).toNat (sig.drop 561)) (lx (sig.getD 0 0).toNat msg ((sig.drop 1).take 560))=pub.drop 1):=by unfold fw;rw[if_pos ⟨h1,h2⟩,if_pos ⟨h3,h5⟩]
     have t1:(sig.take 561).drop 1=(sig.drop 1).take 560:=by rw[fd]
     have a1:561<=sig.length:=by omega
     have a2:1<=pub.length:=by omega
     have a3:561<=561+16*(pub.getD 0 0).toNat:=by omega
     have a4:1<=17:=by decide
     have a5:(561:Int)<=((561+16*(pub.getD 0 0).toNat:Nat):Int):=by omega
     have gy:=f18 (jT 0 (sig.getD 0 0).toNat (rws (pub.getD 0 0).toNat (sig.drop 561)) (lx (sig.getD 0 0).toNat msg ((sig.drop 1).take 560))) (pub.drop 1) (by rw[wv _ _ _ _ (by rw[lx,pX,db])];decide);unfold Eh;rw[hv];generalize lx (sig.getD 0 0).toNat msg ((sig.drop 1).take 560)=X at*;generalize rws (pub.getD 0 0).toNat (sig.drop 561)=R at*;generalize jT 0 (sig.getD 0 0).toNat R X=Y at*;have b0:bys []=[]:=rfl;have b1:561+16*0=561:=rfl;have b2:((561:Nat):Int)=561:=rfl;simp only[az,b0,b1,b2,aw]at g3;generalize hp0:pub.getD 0 0=pb at*;generalize hs0:sig.getD 0 0=sb at*;rw[ah SP]
     by_cases hY:Y=pub.drop 1
     ·rw[hY]at gy
      simp only[go_sem,Q0,Q1,Q2,Q3,Q4,Q5,Q6,Q7,Q8,Q9,Qa,Qb,Qc,Qd,Qe,Qf,Qg,Qh,Qi,Qj,Qk,reduceCtorEq,reduceIte,h1,h1I,h0,hp0,hs0,g1,g1n,h3,h4,hz0,t3,t4,e2,m1,m2,h5,h5n,h5u,t1,g2,xaf,a1,a3,a4,a5,g3,g4,xae,gy,yb,hY]
     ·simp only[go_sem,Q0,Q1,Q2,Q3,Q4,Q5,Q6,Q7,Q8,Q9,Qa,Qb,Qc,Qd,Qe,Qf,Qg,Qh,Qi,Qj,Qk,reduceCtorEq,reduceIte,h1,h1I,h0,hp0,hs0,g1,g1n,h3,h4,hz0,t3,t4,e2,m1,m2,h5,h5n,h5u,t1,g2,xaf,a1,a3,a4,a5,g3,g4,xae,gy,yb,hY]
    ·have h5n:2^(pub.getD 0 0).toNat<=(sig.getD 0 0).toNat:=by omega
     have hv:fw pub msg sig=false:=by unfold fw;rw[if_pos ⟨h1,h2⟩,if_neg (fun h=>h5 h.2)]
     rw[iN hv];generalize hp0:pub.getD 0 0=pb at*;generalize hs0:sig.getD 0 0=sb at*;rw[ah SP];simp only[go_sem,Q0,Q1,Q2,Q3,Q4,Q5,Q6,Q7,Q8,Q9,Qa,Qb,Qc,Qd,Qe,Qf,Qg,Qh,Qi,Qj,Qk,reduceCtorEq,reduceIte,h1,h1I,h0,hp0,hs0,g1,g1n,h3,h4,hz0,t3,t4,e2,m1,m2,h5,h5n,h5u]
   ·have hv:fw pub msg sig=false:=by
     unfold fw;rw[if_pos ⟨h1,h2⟩,if_neg (fun h=>h3 h.1)]
    have m1:af.wrap (16*((pub.getD 0 0).toNat:Int))=((16*(pub.getD 0 0).toNat:Nat):Int):=wZ (by omega)
    have m2:af.wrap (561+((16*(pub.getD 0 0).toNat:Nat):Int))=((561+16*(pub.getD 0 0).toNat:Nat):Int):=wZ (by omega)
    have h3I:¬(sig.length:Int)=((561+16*(pub.getD 0 0).toNat:Nat):Int):=by omega
    rw[iN hv];generalize hp0:pub.getD 0 0=pb at*;rw[ah SP];simp only[go_sem,Q0,Q1,Q2,Q3,Q4,Q5,Q6,Q7,Q8,Q9,Qa,Qb,Qc,Qd,Qe,Qf,Qg,Qh,Qi,Qj,Qk,reduceCtorEq,reduceIte,h1,h1I,h0,hp0,g1,g1n,h3,h3I,m1,m2]
  ·have g1:(3:Int)<((pub.getD 0 0).toNat:Int):=by omega
   have g1n:3<(pub.getD 0 0).toNat:=by omega
   have hv:fw pub msg sig=false:=by unfold fw;rw[if_neg (fun h=>h2 h.2)]
   rw[iN hv];generalize hp0:pub.getD 0 0=pb at*;rw[ah SP];simp only[go_sem,Q0,Q1,Q2,Q3,Q4,Q5,Q6,Q7,Q8,Q9,Qa,Qb,Qc,Qd,Qe,Qf,Qg,Qh,Qi,Qj,Qk,reduceCtorEq,reduceIte,h1,h1I,h0,hp0,g1,g1n]
 ·have h1I:¬(pub.length:Int)=17:=by omega
  have hv:fw pub msg sig=false:=by unfold fw;rw[if_neg (fun h=>h1 h.1)]
  rw[iN hv,ah SP];simp only[go_sem,Q0,Q1,Q2,Q3,Q4,Q5,Q6,Q7,Q8,Q9,Qa,Qb,Qc,Qd,Qe,Qf,Qg,Qh,Qi,Qj,Qk,reduceCtorEq,reduceIte,h1,h1I]
end Go.Proofs.YtkggincjigbelaaGreatDoor
