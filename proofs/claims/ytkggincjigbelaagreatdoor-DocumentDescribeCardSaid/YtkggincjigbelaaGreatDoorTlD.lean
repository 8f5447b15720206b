/- What the functions come to. No condition. -/
import Derived.Test.YtkggincjigbelaaGreatDoorTkD
open Go.IntKind renaming i64 -> af
open List renaming cons_append -> aS, length_cons -> ai, length_nil -> aw, map_cons -> aC, map_nil -> bH, nil_append -> aF, range -> bD, take_length -> bY
open UInt8 renaming ofInt -> co
set_option maxRecDepth 100000
set_option maxHeartbeats 16000000
set_option linter.unusedSimpArgs false
set_option linter.unusedVariables false
namespace Go.Proofs.YtkggincjigbelaaGreatDoor
open Go.Sy
open UInt8 renaming reduceLT -> Q0, reduceLE -> Q1
open Int renaming reduceToNat -> Q2, reduceLE -> Q3, reduceLT -> Q4, reduceEq -> Q5, reduceNe -> Q6, reduceNeg -> Q7, reduceAdd -> Q8, reduceSub -> Q9, reduceMul -> Qa
open Nat renaming reducePow -> Qb, reduceDiv -> Qc, reduceMod -> Qd, reduceAdd -> Qe, reduceSub -> Qf, reduceMul -> Qg, reduceLT -> Qh, reduceLeDiff -> Qi, reduceEqDiff -> Qj, reduceBEq -> Qk
def dr(i:Nat):List UInt8:=sha [107,ub i]
theorem dN(i:Nat):(dr i).length=32:=i9 _
theorem f39(i:Nat):call T 39 [.int .i64 i] [] 0=some ⟨.byt (dr i) .no,[],[]⟩:=by have g:=f73 [107,ub i] (by simp);unfold ub at g;rw[aj xmI];simp only[go_sem,Q0,Q1,Q2,Q3,Q4,Q5,Q6,Q7,Q8,Q9,Qa,Qb,Qc,Qd,Qe,Qf,Qg,Qh,Qi,Qj,Qk,reduceCtorEq,reduceIte,g,XR,dr,ub]
theorem f50(seed:List UInt8)(hs:seed.length<=64):call T 50 [.byt seed .no,.int .i64 1] [] 0=some ⟨.byt (gx seed 1) .no,[],[]⟩:=by
 have g1:=xcY seed hs;rw[Dy]at g1;simp only[bys,aC,bH]at g1;have g2:=xk7 (pubL (lsV seed 1) 0) (pubL (lsV seed 1) 1) (by rw[cu];decide) (by rw[cu];decide);have e:gx seed 1=co 1::ie 0 0 (pubL (lsV seed 1) 0) (pubL (lsV seed 1) 1):=rfl;have hl:(ie 0 0 (pubL (lsV seed 1) 0) (pubL (lsV seed 1) 1)).length=16:=dC _ _;rw[e];generalize ie 0 0 (pubL (lsV seed 1) 0) (pubL (lsV seed 1) 1)=J at*;generalize pubL (lsV seed 1) 0=A at*;generalize pubL (lsV seed 1) 1=B at*;have c1:1+16<=140737488355328:=by decide
 have c2:16+1<=140737488355328:=by decide
 rw[aj xmx];simp (config:= {decide:=true}) only[go_sem,Q0,Q1,Q2,Q3,Q4,Q5,Q6,Q7,Q8,Q9,Qa,Qb,Qc,Qd,Qe,Qf,Qg,Qh,Qi,Qj,Qk,reduceCtorEq,reduceIte,g1,g2,XP,xmX,hl,c1,c2]
def auV(i:Nat):Au:=⟨3+2*(i:Int),gx (dr (3+2*i)) 1⟩
def auL(k:Nat):List Au:=(bD (k+1)).map auV
def trL(k:Nat)(thr:Int):Tr:=⟨auL k,1+gS thr ((k+1:Nat):Int)⟩
theorem pP(ms:List Mk)(m:Mk):ib (ms++ [m])=ib ms++ [m.sv]:=by simp[ib]
theorem xlg(xs:List (List SV))(hx:xs≠ [])(hd:xs.length<=1000):call T 56 [.lst 2 xs .no] [] 0=some ⟨.lst 2 xs (.id 60),[],[60]⟩:=by
 have ht:xs.take xs.length=xs:=bY
 obtain⟨y,r,rfl⟩:∃y r,xs=y::r:=by
  cases xs with
  |nil=>exact absurd rfl hx
  |cons y r=>exact⟨y,r,rfl⟩
 rw[aj xjy];simp only[go_sem,Q0,Q1,Q2,Q3,Q4,Q5,Q6,Q7,Q8,Q9,Qa,Qb,Qc,Qd,Qe,Qf,Qg,Qh,Qi,Qj,Qk,reduceCtorEq,reduceIte,ht,bY]
theorem xlf:call T 56 [.lst 2 [] .no] [] 0=some ⟨.lst 2 [] .clip,[],[]⟩:=by rw[aj xjy];simp only[go_sem,Q0,Q1,Q2,Q3,Q4,Q5,Q6,Q7,Q8,Q9,Qa,Qb,Qc,Qd,Qe,Qf,Qg,Qh,Qi,Qj,Qk,reduceCtorEq,reduceIte]
theorem f28(B:List UInt8)(ms:List Mk)(a:Int)(seed:List UInt8)(h leaf:Int)(hm:ms.length<=1000)(hs:seed.length<=64)(hB:B.length<=100000000)(hh:h<0\/3<h\/h=0\/h=1):
 call T 28 [.agg (dX B ms),.int .i64 a,.byt seed .no,.int .i64 h,.int .i64 leaf] [] 0=some ⟨.agg (dX B (ms++ [⟨a,sgn seed h leaf B⟩])),[],[]⟩:=by
 have g1:=f55 seed h leaf B hs hB hh;have hl:=fe ms;have c1:(ms.length+1)*32<=140737488355328:=by omega
 unfold dX;rw[pP];simp only[Mk.sv];rw[aj xmN]
 by_cases hz:ib ms=[]
 ·have g2:=xlf
  rw[hz];simp only[go_sem,Q0,Q1,Q2,Q3,Q4,Q5,Q6,Q7,Q8,Q9,Qa,Qb,Qc,Qd,Qe,Qf,Qg,Qh,Qi,Qj,Qk,reduceCtorEq,reduceIte,g1,g2,xjN,xjM]
 ·have g2:=xlg (ib ms) hz (by rw[hl];exact hm)
  simp only[go_sem,Q0,Q1,Q2,Q3,Q4,Q5,Q6,Q7,Q8,Q9,Qa,Qb,Qc,Qd,Qe,Qf,Qg,Qh,Qi,Qj,Qk,reduceCtorEq,reduceIte,g1,g2,xjN,xjM,hl,c1]
theorem f29(B:List UInt8)(ms:List Mk)(a:Int)(seed:List UInt8)(h leaf:Int)(hm:ms.length<=1000)(hs:seed.length<=64)(hB:B.length<=100000000)(hh:h<0\/3<h\/h=0\/h=1):
 call T 29 [.agg (dX B ms),.int .i64 a,.byt seed .no,.int .i64 h,.int .i64 leaf] [] 0=some ⟨.agg (dX B (ms++ [⟨a,sgn seed h leaf B⟩])),[],[]⟩:=by
 have g1:=f57 seed h leaf B hs hB hh;have hl:=fe ms;have c1:(ms.length+1)*32<=140737488355328:=by omega
 have c2:ms.length*32<=140737488355328:=by omega
 unfold dX;rw[pP];simp only[Mk.sv];rw[aj xmM];simp only[go_sem,Q0,Q1,Q2,Q3,Q4,Q5,Q6,Q7,Q8,Q9,Qa,Qb,Qc,Qd,Qe,Qf,Qg,Qh,Qi,Qj,Qk,reduceCtorEq,reduceIte,g1,xmY,hl,c1,c2]
theorem xl4:auL 0=[auV 0]:=rfl
theorem kw3:af.wrap 3=3:=by decide
theorem kw4:af.wrap 4=4:=by decide
theorem kw5:af.wrap 5=5:=by decide
theorem kw7:af.wrap 7=7:=by decide
theorem ly(a b:Int)(h:1<=b):0<=gS a b/\gS a b<b:=by
 unfold gS;rw[if_neg (by omega)];have h1:=Int.tmod_lt_of_pos a (show 0<b by omega)
 have h2: -b<a.tmod b:=by have:=Int.tmod_lt_of_pos (-a) (show 0<b by omega);rw[Int.neg_tmod]at this;omega
 split<;>omega
theorem xf0(n thr:Int)(h0: -9223372036854775808<=thr)(h1:thr<=9223372036854775807)(hn0: -9223372036854775808<=n)(hn1:n<=9223372036854775807)(hk:gS n 3=0):call T 22 [.int .i64 n,.int .i64 thr] [] 0=some ⟨.agg (trL 0 thr).sv,[],[]⟩:=by
 have gm:=f14 n 3 hn0 hn1 (by decide);rw[hk]at gm;have gt:=f14 thr 1 h0 h1 (by decide);have hb:=ly thr 1 (by decide);have ht:af.wrap (1+gS thr 1)=1+gS thr 1:=w64 (by omega) (by omega);have s0:=f39 3;have p0:=f50 (dr 3) (by rw[dN];decide);have s1:=f39 5;have p1:=f50 (dr 5) (by rw[dN];decide);have s2:=f39 7;have p2:=f50 (dr 7) (by rw[dN];decide);have e3:((3:Nat):Int)=3:=rfl;have e5:((5:Nat):Int)=5:=rfl;have e7:((7:Nat):Int)=7:=rfl;rw[e3]at s0;rw[e5]at s1;rw[e7]at s2;have e:(trL 0 thr).sv=[.lst 2 [[.int .i64 3,.byt (gx (dr 3) 1) .no]] .no,.int .i64 (1+gS thr 1)]:=rfl;rw[e];generalize gx (dr 3) 1=P0 at*;generalize gx (dr 5) 1=P1 at*;generalize gx (dr 7) 1=P2 at*;generalize dr 3=S0 at*;generalize dr 5=S1 at*;generalize dr 7=S2 at*;rw[aj xda];simp (config:= {decide:=true}) only[go_sem,Q0,Q1,Q2,Q3,Q4,Q5,Q6,Q7,Q8,Q9,Qa,Qb,Qc,Qd,Qe,Qf,Qg,Qh,Qi,Qj,Qk,reduceCtorEq,reduceIte];rw[ah];simp (config:= {decide:=true}) only[go_sem,Q0,Q1,Q2,Q3,Q4,Q5,Q6,Q7,Q8,Q9,Qa,Qb,Qc,Qd,Qe,Qf,Qg,Qh,Qi,Qj,Qk,reduceCtorEq,reduceIte,gm,pk,kw0,kw1,kw2,kw3,kw4,kw5,kw7,s0,p0,s1,p1,s2,p2,me,wv,ai,aw,aS,aF];rw[ah];simp (config:= {decide:=true}) only[go_sem,Q0,Q1,Q2,Q3,Q4,Q5,Q6,Q7,Q8,Q9,Qa,Qb,Qc,Qd,Qe,Qf,Qg,Qh,Qi,Qj,Qk,reduceCtorEq,reduceIte,gm,pk,kw0,kw1,kw2,kw3,kw4,kw5,kw7,s0,p0,s1,p1,s2,p2,me,wv,ai,aw,aS,aF]
 simp (config:= {decide:=true}) only[go_sem,Q0,Q1,Q2,Q3,Q4,Q5,Q6,Q7,Q8,Q9,Qa,Qb,Qc,Qd,Qe,Qf,Qg,Qh,Qi,Qj,Qk,reduceCtorEq,reduceIte,gt,pk,ht,ai,aw,n1c,n2c,e3]
 trace_state
theorem xfZ(n thr:Int)(h0: -9223372036854775808<=thr)(h1:thr<=9223372036854775807)(hn0: -9223372036854775808<=n)(hn1:n<=9223372036854775807)(hk:gS n 3=1):call T 22 [.int .i64 n,.int .i64 thr] [] 0=some ⟨.agg (trL 1 thr).sv,[],[]⟩:=by
 have gm:=f14 n 3 hn0 hn1 (by decide);rw[hk]at gm;have gt:=f14 thr 2 h0 h1 (by decide);have hb:=ly thr 2 (by decide);have ht:af.wrap (1+gS thr 2)=1+gS thr 2:=w64 (by omega) (by omega);have s0:=f39 3;have p0:=f50 (dr 3) (by rw[dN];decide);have s1:=f39 5;have p1:=f50 (dr 5) (by rw[dN];decide);have s2:=f39 7;have p2:=f50 (dr 7) (by rw[dN];decide);have e3:((3:Nat):Int)=3:=rfl;have e5:((5:Nat):Int)=5:=rfl;have e7:((7:Nat):Int)=7:=rfl;rw[e3]at s0;rw[e5]at s1;rw[e7]at s2;have e:(trL 1 thr).sv=[.lst 2 [[.int .i64 3,.byt (gx (dr 3) 1) .no],[.int .i64 5,.byt (gx (dr 5) 1) .no]] .no,.int .i64 (1+gS thr 2)]:=rfl;rw[e];generalize gx (dr 3) 1=P0 at*;generalize gx (dr 5) 1=P1 at*;generalize gx (dr 7) 1=P2 at*;generalize dr 3=S0 at*;generalize dr 5=S1 at*;generalize dr 7=S2 at*;rw[aj xda];simp (config:= {decide:=true}) only[go_sem,Q0,Q1,Q2,Q3,Q4,Q5,Q6,Q7,Q8,Q9,Qa,Qb,Qc,Qd,Qe,Qf,Qg,Qh,Qi,Qj,Qk,reduceCtorEq,reduceIte];rw[ah];simp (config:= {decide:=true}) only[go_sem,Q0,Q1,Q2,Q3,Q4,Q5,Q6,Q7,Q8,Q9,Qa,Qb,Qc,Qd,Qe,Qf,Qg,Qh,Qi,Qj,Qk,reduceCtorEq,reduceIte,gm,pk,kw0,kw1,kw2,kw3,kw4,kw5,kw7,s0,p0,s1,p1,s2,p2,me,wv,ai,aw,aS,aF];rw[ah];simp (config:= {decide:=true}) only[go_sem,Q0,Q1,Q2,Q3,Q4,Q5,Q6,Q7,Q8,Q9,Qa,Qb,Qc,Qd,Qe,Qf,Qg,Qh,Qi,Qj,Qk,reduceCtorEq,reduceIte,gm,pk,kw0,kw1,kw2,kw3,kw4,kw5,kw7,s0,p0,s1,p1,s2,p2,me,wv,ai,aw,aS,aF]
 rw[ah];simp (config:= {decide:=true}) only[go_sem,Q0,Q1,Q2,Q3,Q4,Q5,Q6,Q7,Q8,Q9,Qa,Qb,Qc,Qd,Qe,Qf,Qg,Qh,Qi,Qj,Qk,reduceCtorEq,reduceIte,gm,pk,kw0,kw1,kw2,kw3,kw4,kw5,kw7,s0,p0,s1,p1,s2,p2,me,wv,ai,aw,aS,aF];simp (config:= {decide:=true}) only[go_sem,Q0,Q1,Q2,Q3,Q4,Q5,Q6,Q7,Q8,Q9,Qa,Qb,Qc,Qd,Qe,Qf,Qg,Qh,Qi,Qj,Qk,reduceCtorEq,reduceIte,gt,pk,ht,ai,aw,n1c,n2c,e3]
 trace_state
theorem xfY(n thr:Int)(h0: -9223372036854775808<=thr)(h1:thr<=9223372036854775807)(hn0: -9223372036854775808<=n)(hn1:n<=9223372036854775807)(hk:gS n 3=2):call T 22 [.int .i64 n,.int .i64 thr] [] 0=some ⟨.agg (trL 2 thr).sv,[],[]⟩:=by
 have gm:=f14 n 3 hn0 hn1 (by decide);rw[hk]at gm;have gt:=f14 thr 3 h0 h1 (by decide);have hb:=ly thr 3 (by decide);have ht:af.wrap (1+gS thr 3)=1+gS thr 3:=w64 (by omega) (by omega);have s0:=f39 3;have p0:=f50 (dr 3) (by rw[dN];decide);have s1:=f39 5;have p1:=f50 (dr 5) (by rw[dN];decide);have s2:=f39 7;have p2:=f50 (dr 7) (by rw[dN];decide);have e3:((3:Nat):Int)=3:=rfl;have e5:((5:Nat):Int)=5:=rfl;have e7:((7:Nat):Int)=7:=rfl;rw[e3]at s0;rw[e5]at s1;rw[e7]at s2;have e:(trL 2 thr).sv=[.lst 2 [[.int .i64 3,.byt (gx (dr 3) 1) .no],[.int .i64 5,.byt (gx (dr 5) 1) .no],[.int .i64 7,.byt (gx (dr 7) 1) .no]] .no,.int .i64 (1+gS thr 3)]:=rfl;rw[e];generalize gx (dr 3) 1=P0 at*;generalize gx (dr 5) 1=P1 at*;generalize gx (dr 7) 1=P2 at*;generalize dr 3=S0 at*;generalize dr 5=S1 at*;generalize dr 7=S2 at*;rw[aj xda];simp (config:= {decide:=true}) only[go_sem,Q0,Q1,Q2,Q3,Q4,Q5,Q6,Q7,Q8,Q9,Qa,Qb,Qc,Qd,Qe,Qf,Qg,Qh,Qi,Qj,Qk,reduceCtorEq,reduceIte];rw[ah];simp (config:= {decide:=true}) only[go_sem,Q0,Q1,Q2,Q3,Q4,Q5,Q6,Q7,Q8,Q9,Qa,Qb,Qc,Qd,Qe,Qf,Qg,Qh,Qi,Qj,Qk,reduceCtorEq,reduceIte,gm,pk,kw0,kw1,kw2,kw3,kw4,kw5,kw7,s0,p0,s1,p1,s2,p2,me,wv,ai,aw,aS,aF];rw[ah];simp (config:= {decide:=true}) only[go_sem,Q0,Q1,Q2,Q3,Q4,Q5,Q6,Q7,Q8,Q9,Qa,Qb,Qc,Qd,Qe,Qf,Qg,Qh,Qi,Qj,Qk,reduceCtorEq,reduceIte,gm,pk,kw0,kw1,kw2,kw3,kw4,kw5,kw7,s0,p0,s1,p1,s2,p2,me,wv,ai,aw,aS,aF]
 rw[ah];simp (config:= {decide:=true}) only[go_sem,Q0,Q1,Q2,Q3,Q4,Q5,Q6,Q7,Q8,Q9,Qa,Qb,Qc,Qd,Qe,Qf,Qg,Qh,Qi,Qj,Qk,reduceCtorEq,reduceIte,gm,pk,kw0,kw1,kw2,kw3,kw4,kw5,kw7,s0,p0,s1,p1,s2,p2,me,wv,ai,aw,aS,aF];rw[ah];simp (config:= {decide:=true}) only[go_sem,Q0,Q1,Q2,Q3,Q4,Q5,Q6,Q7,Q8,Q9,Qa,Qb,Qc,Qd,Qe,Qf,Qg,Qh,Qi,Qj,Qk,reduceCtorEq,reduceIte,gm,pk,kw0,kw1,kw2,kw3,kw4,kw5,kw7,s0,p0,s1,p1,s2,p2,me,wv,ai,aw,aS,aF];simp (config:= {decide:=true}) only[go_sem,Q0,Q1,Q2,Q3,Q4,Q5,Q6,Q7,Q8,Q9,Qa,Qb,Qc,Qd,Qe,Qf,Qg,Qh,Qi,Qj,Qk,reduceCtorEq,reduceIte,gt,pk,ht,ai,aw,n1c,n2c,e3]
 trace_state
end Go.Proofs.YtkggincjigbelaaGreatDoor
