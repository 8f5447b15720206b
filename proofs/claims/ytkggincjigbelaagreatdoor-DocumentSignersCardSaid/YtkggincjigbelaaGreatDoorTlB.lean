/- What the functions come to. No condition. -/
import Derived.Test.YtkggincjigbelaaGreatDoorTkB
open Int renaming natCast_zero -> aw
open Go.IntKind renaming i64 -> af
open List renaming cons_append -> aU, length_cons -> aj, length_nil -> aq, map_cons -> aC, map_nil -> bp, nil_append -> az, range -> bE, take_length -> cK
open Nat renaming zero_le -> bt
open UInt8 renaming ofInt -> bK
set_option maxRecDepth 100000
set_option maxHeartbeats 16000000
set_option linter.unusedSimpArgs false
set_option linter.unusedVariables false
namespace Go.Proofs.YtkggincjigbelaaGreatDoor
open Go.Sy
open UInt8 renaming reduceLT -> Q0, reduceLE -> Q1
open Int renaming reduceToNat -> Q2, reduceLE -> Q3, reduceLT -> Q4, reduceEq -> Q5, reduceNe -> Q6, reduceNeg -> Q7, reduceAdd -> Q8, reduceSub -> Q9, reduceMul -> Qa
open Nat renaming reducePow -> Qb, reduceDiv -> Qc, reduceMod -> Qd, reduceAdd -> Qe, reduceSub -> Qf, reduceMul -> Qg, reduceLT -> Qh, reduceLeDiff -> Qi, reduceEqDiff -> Qj, reduceBEq -> Qk
def dA(i:Nat):List UInt8:=sha [107,ub i]
theorem ec(i:Nat):(dA i).length=32:=md _
theorem f39(i:Nat):call T 39 [.int .i64 i] [] 0=some ⟨.byt (dA i) .no,[],[]⟩:=by have g:=f73 [107,ub i] (by simp);unfold ub at g;rw[ah xpJ];simp only[go_sem,Q0,Q1,Q2,Q3,Q4,Q5,Q6,Q7,Q8,Q9,Qa,Qb,Qc,Qd,Qe,Qf,Qg,Qh,Qi,Qj,Qk,reduceCtorEq,reduceIte,g,Z3,dA,ub]
theorem f50(seed:List UInt8)(hs:seed.length<=64):call T 50 [.byt seed .no,.int .i64 1] [] 0=some ⟨.byt (ii seed 1) .no,[],[]⟩:=by
 have g1:=xfd seed hs;rw[El]at g1;simp only[bys,aC,bp]at g1;have g2:=xod (pubL (lsV seed 1) 0) (pubL (lsV seed 1) 1) (by rw[co];decide) (by rw[co];decide);have e:ii seed 1=bK 1::gT 0 0 (pubL (lsV seed 1) 0) (pubL (lsV seed 1) 1):=rfl;have hl:(gT 0 0 (pubL (lsV seed 1) 0) (pubL (lsV seed 1) 1)).length=16:=db _ _;rw[e];generalize gT 0 0 (pubL (lsV seed 1) 0) (pubL (lsV seed 1) 1)=J at*;generalize pubL (lsV seed 1) 0=A at*;generalize pubL (lsV seed 1) 1=B at*;have c1:1+16<=140737488355328:=by decide
 have c2:16+1<=140737488355328:=by decide
 rw[ah xpy];simp (config:= {decide:=true}) only[go_sem,Q0,Q1,Q2,Q3,Q4,Q5,Q6,Q7,Q8,Q9,Qa,Qb,Qc,Qd,Qe,Qf,Qg,Qh,Qi,Qj,Qk,reduceCtorEq,reduceIte,g1,g2,Z2,xp2,hl,c1,c2]
def auV(i:Nat):Au:=⟨3+2*(i:Int),ii (dA (3+2*i)) 1⟩
def auL(k:Nat):List Au:=(bE (k+1)).map auV
def trL(k:Nat)(thr:Int):Tr:=⟨auL k,1+ik thr ((k+1:Nat):Int)⟩
theorem kJ(ms:List Mk)(m:Mk):cW (ms++ [m])=cW ms++ [m.sv]:=by simp[cW]
theorem xok(xs:List (List SV))(hx:xs≠ [])(hd:xs.length<=1000):call T 56 [.lst 2 xs .no] [] 0=some ⟨.lst 2 xs (.id 60),[],[60]⟩:=by
 have ht:xs.take xs.length=xs:=cK
 obtain⟨y,r,rfl⟩:∃y r,xs=y::r:=by
  cases xs with
  |nil=>exact absurd rfl hx
  |cons y r=>exact⟨y,r,rfl⟩
 rw[ah xmv];simp only[go_sem,Q0,Q1,Q2,Q3,Q4,Q5,Q6,Q7,Q8,Q9,Qa,Qb,Qc,Qd,Qe,Qf,Qg,Qh,Qi,Qj,Qk,reduceCtorEq,reduceIte,ht,cK]
theorem xoj:call T 56 [.lst 2 [] .no] [] 0=some ⟨.lst 2 [] .clip,[],[]⟩:=by rw[ah xmv];simp only[go_sem,Q0,Q1,Q2,Q3,Q4,Q5,Q6,Q7,Q8,Q9,Qa,Qb,Qc,Qd,Qe,Qf,Qg,Qh,Qi,Qj,Qk,reduceCtorEq,reduceIte]
theorem f28(B:List UInt8)(ms:List Mk)(a:Int)(seed:List UInt8)(h leaf:Int)(hm:ms.length<=1000)(hs:seed.length<=64)(hB:B.length<=100000000)(hh:h<0\/3<h\/h=0\/h=1):
 call T 28 [.agg (bS B ms),.int .i64 a,.byt seed .no,.int .i64 h,.int .i64 leaf] [] 0=some ⟨.agg (bS B (ms++ [⟨a,sgn seed h leaf B⟩])),[],[]⟩:=by
 have g1:=f55 seed h leaf B hs hB hh;have hl:=cx ms;have c1:(ms.length+1)*32<=140737488355328:=by omega
 unfold bS;rw[kJ];simp only[Mk.sv];rw[ah xpP]
 by_cases hz:cW ms=[]
 ·have g2:=xoj
  rw[hz];simp only[go_sem,Q0,Q1,Q2,Q3,Q4,Q5,Q6,Q7,Q8,Q9,Qa,Qb,Qc,Qd,Qe,Qf,Qg,Qh,Qi,Qj,Qk,reduceCtorEq,reduceIte,g1,g2,xmK,xmJ]
 ·have g2:=xok (cW ms) hz (by rw[hl];exact hm)
  simp only[go_sem,Q0,Q1,Q2,Q3,Q4,Q5,Q6,Q7,Q8,Q9,Qa,Qb,Qc,Qd,Qe,Qf,Qg,Qh,Qi,Qj,Qk,reduceCtorEq,reduceIte,g1,g2,xmK,xmJ,hl,c1]
theorem f29(B:List UInt8)(ms:List Mk)(a:Int)(seed:List UInt8)(h leaf:Int)(hm:ms.length<=1000)(hs:seed.length<=64)(hB:B.length<=100000000)(hh:h<0\/3<h\/h=0\/h=1):
 call T 29 [.agg (bS B ms),.int .i64 a,.byt seed .no,.int .i64 h,.int .i64 leaf] [] 0=some ⟨.agg (bS B (ms++ [⟨a,sgn seed h leaf B⟩])),[],[]⟩:=by
 have g1:=f57 seed h leaf B hs hB hh;have hl:=cx ms;have c1:(ms.length+1)*32<=140737488355328:=by omega
 have c2:ms.length*32<=140737488355328:=by omega
 unfold bS;rw[kJ];simp only[Mk.sv];rw[ah xpO];simp only[go_sem,Q0,Q1,Q2,Q3,Q4,Q5,Q6,Q7,Q8,Q9,Qa,Qb,Qc,Qd,Qe,Qf,Qg,Qh,Qi,Qj,Qk,reduceCtorEq,reduceIte,g1,xp3,hl,c1,c2]
theorem l27(B:List UInt8)(ms:List Mk)(hm:ms.length<=1000)(hs:∀m∈ms,m.sig.length<=140737488355328):∀(n i:Nat),ms.length-i=n->i<=ms.length->
 run T (.loop OJ) ⟨[(2,.ptr 102 0),(3,.ptr 103 0),(5,.int .i64 i)],[(102,.rc (bS B ms)),(103,.rc (bS B ms))],[]⟩=some (.x 0,⟨[],[(102,.rc (bS B ms)),(103,.rc (bS B ms))],[]⟩):=by
 intro n;induction n with
 |zero=>
  intro i h0 h1;have hi:i=ms.length:=by omega
  have hl:=cx ms;subst hi;unfold bS;rw[ai];simp only[go_sem,Q0,Q1,Q2,Q3,Q4,Q5,Q6,Q7,Q8,Q9,Qa,Qb,Qc,Qd,Qe,Qf,Qg,Qh,Qi,Qj,Qk,reduceCtorEq,reduceIte,hl]
 |succ n ih=>
  intro i h0 h1;have hi:i<ms.length:=by omega
  have hiI:(i:Int)<(ms.length:Int):=by omega
  have e1:=cA i (by omega);have hl:=cx ms;have hg:=ir ms i hi;have hsg:=hs _ (mq ms mk0 i hi);have ih':=ih (i+1) (by omega) (by omega);unfold bS at ih' ⊢;generalize hc:ms.getD i mk0=m at*;obtain⟨a,g⟩:=m;have g1:=f18 g g hsg;simp only[Mk.sv]at hg;rw[ai];simp only[go_sem,Q0,Q1,Q2,Q3,Q4,Q5,Q6,Q7,Q8,Q9,Qa,Qb,Qc,Qd,Qe,Qf,Qg,Qh,Qi,Qj,Qk,reduceCtorEq,reduceIte,hl,hi,hiI,e1,hg,g1,yb,ih']
  trace_state
theorem f27(B:List UInt8)(ms:List Mk)(hm:ms.length<=1000)(hB:B.length<=140737488355328)(hs:∀m∈ms,m.sig.length<=140737488355328):call T 27 [.agg (bS B ms),.agg (bS B ms)] [] 0=some ⟨.bool true,[],[]⟩:=by
 have g:=l27 B ms hm hs _ 0 rfl (bt _);have g1:=f18 B B hB;have hl:=cx ms;unfold bS at g ⊢;simp only[aw]at g;rw[ah xpQ];simp only[go_sem,Q0,Q1,Q2,Q3,Q4,Q5,Q6,Q7,Q8,Q9,Qa,Qb,Qc,Qd,Qe,Qf,Qg,Qh,Qi,Qj,Qk,reduceCtorEq,reduceIte,g1,yb,hl,g]
 trace_state
theorem xo4:auL 0=[auV 0]:=rfl
theorem kw3:af.wrap 3=3:=by decide
theorem kw4:af.wrap 4=4:=by decide
theorem kw5:af.wrap 5=5:=by decide
theorem kw7:af.wrap 7=7:=by decide
theorem ld(a b:Int)(h:1<=b):0<=ik a b/\ik a b<b:=by
 unfold ik;rw[if_neg (by omega)];have h1:=Int.tmod_lt_of_pos a (show 0<b by omega)
 have h2: -b<a.tmod b:=by have:=Int.tmod_lt_of_pos (-a) (show 0<b by omega);rw[Int.neg_tmod]at this;omega
 split<;>omega
theorem ZF(n thr:Int)(h0: -9223372036854775808<=thr)(h1:thr<=9223372036854775807)(hn0: -9223372036854775808<=n)(hn1:n<=9223372036854775807)(hk:ik n 3=0):call T 22 [.int .i64 n,.int .i64 thr] [] 0=some ⟨.agg (trL 0 thr).sv,[],[]⟩:=by
 have gm:=f14 n 3 hn0 hn1 (by decide);rw[hk]at gm;have gt:=f14 thr 1 h0 h1 (by decide);have hb:=ld thr 1 (by decide);have ht:af.wrap (1+ik thr 1)=1+ik thr 1:=w64 (by omega) (by omega);have s0:=f39 3;have p0:=f50 (dA 3) (by rw[ec];decide);have s1:=f39 5;have p1:=f50 (dA 5) (by rw[ec];decide);have s2:=f39 7;have p2:=f50 (dA 7) (by rw[ec];decide);have e3:((3:Nat):Int)=3:=rfl;have e5:((5:Nat):Int)=5:=rfl;have e7:((7:Nat):Int)=7:=rfl;rw[e3]at s0;rw[e5]at s1;rw[e7]at s2;have e:(trL 0 thr).sv=[.lst 2 [[.int .i64 3,.byt (ii (dA 3) 1) .no]] .no,.int .i64 (1+ik thr 1)]:=rfl;rw[e];generalize ii (dA 3) 1=P0 at*;generalize ii (dA 5) 1=P1 at*;generalize ii (dA 7) 1=P2 at*;generalize dA 3=S0 at*;generalize dA 5=S1 at*;generalize dA 7=S2 at*;rw[ah xfq];simp (config:= {decide:=true}) only[go_sem,Q0,Q1,Q2,Q3,Q4,Q5,Q6,Q7,Q8,Q9,Qa,Qb,Qc,Qd,Qe,Qf,Qg,Qh,Qi,Qj,Qk,reduceCtorEq,reduceIte];rw[ai];simp (config:= {decide:=true}) only[go_sem,Q0,Q1,Q2,Q3,Q4,Q5,Q6,Q7,Q8,Q9,Qa,Qb,Qc,Qd,Qe,Qf,Qg,Qh,Qi,Qj,Qk,reduceCtorEq,reduceIte,gm,qO,kw0,kw1,kw2,kw3,kw4,kw5,kw7,s0,p0,s1,p1,s2,p2,ni,x6,aj,aq,aU,az];rw[ai];simp (config:= {decide:=true}) only[go_sem,Q0,Q1,Q2,Q3,Q4,Q5,Q6,Q7,Q8,Q9,Qa,Qb,Qc,Qd,Qe,Qf,Qg,Qh,Qi,Qj,Qk,reduceCtorEq,reduceIte,gm,qO,kw0,kw1,kw2,kw3,kw4,kw5,kw7,s0,p0,s1,p1,s2,p2,ni,x6,aj,aq,aU,az]
 simp (config:= {decide:=true}) only[go_sem,Q0,Q1,Q2,Q3,Q4,Q5,Q6,Q7,Q8,Q9,Qa,Qb,Qc,Qd,Qe,Qf,Qg,Qh,Qi,Qj,Qk,reduceCtorEq,reduceIte,gt,qO,ht,aj,aq,n1c,n2c,e3]
 trace_state
theorem xit(n thr:Int)(h0: -9223372036854775808<=thr)(h1:thr<=9223372036854775807)(hn0: -9223372036854775808<=n)(hn1:n<=9223372036854775807)(hk:ik n 3=1):call T 22 [.int .i64 n,.int .i64 thr] [] 0=some ⟨.agg (trL 1 thr).sv,[],[]⟩:=by
 have gm:=f14 n 3 hn0 hn1 (by decide);rw[hk]at gm;have gt:=f14 thr 2 h0 h1 (by decide);have hb:=ld thr 2 (by decide);have ht:af.wrap (1+ik thr 2)=1+ik thr 2:=w64 (by omega) (by omega);have s0:=f39 3;have p0:=f50 (dA 3) (by rw[ec];decide);have s1:=f39 5;have p1:=f50 (dA 5) (by rw[ec];decide);have s2:=f39 7;have p2:=f50 (dA 7) (by rw[ec];decide);have e3:((3:Nat):Int)=3:=rfl;have e5:((5:Nat):Int)=5:=rfl;have e7:((7:Nat):Int)=7:=rfl;rw[e3]at s0;rw[e5]at s1;rw[e7]at s2;have e:(trL 1 thr).sv=[.lst 2 [[.int .i64 3,.byt (ii (dA 3) 1) .no],[.int .i64 5,.byt (ii (dA 5) 1) .no]] .no,.int .i64 (1+ik thr 2)]:=rfl;rw[e];generalize ii (dA 3) 1=P0 at*;generalize ii (dA 5) 1=P1 at*;generalize ii (dA 7) 1=P2 at*;generalize dA 3=S0 at*;generalize dA 5=S1 at*;generalize dA 7=S2 at*;rw[ah xfq];simp (config:= {decide:=true}) only[go_sem,Q0,Q1,Q2,Q3,Q4,Q5,Q6,Q7,Q8,Q9,Qa,Qb,Qc,Qd,Qe,Qf,Qg,Qh,Qi,Qj,Qk,reduceCtorEq,reduceIte];rw[ai];simp (config:= {decide:=true}) only[go_sem,Q0,Q1,Q2,Q3,Q4,Q5,Q6,Q7,Q8,Q9,Qa,Qb,Qc,Qd,Qe,Qf,Qg,Qh,Qi,Qj,Qk,reduceCtorEq,reduceIte,gm,qO,kw0,kw1,kw2,kw3,kw4,kw5,kw7,s0,p0,s1,p1,s2,p2,ni,x6,aj,aq,aU,az];rw[ai];simp (config:= {decide:=true}) only[go_sem,Q0,Q1,Q2,Q3,Q4,Q5,Q6,Q7,Q8,Q9,Qa,Qb,Qc,Qd,Qe,Qf,Qg,Qh,Qi,Qj,Qk,reduceCtorEq,reduceIte,gm,qO,kw0,kw1,kw2,kw3,kw4,kw5,kw7,s0,p0,s1,p1,s2,p2,ni,x6,aj,aq,aU,az]
 rw[ai];simp (config:= {decide:=true}) only[go_sem,Q0,Q1,Q2,Q3,Q4,Q5,Q6,Q7,Q8,Q9,Qa,Qb,Qc,Qd,Qe,Qf,Qg,Qh,Qi,Qj,Qk,reduceCtorEq,reduceIte,gm,qO,kw0,kw1,kw2,kw3,kw4,kw5,kw7,s0,p0,s1,p1,s2,p2,ni,x6,aj,aq,aU,az];simp (config:= {decide:=true}) only[go_sem,Q0,Q1,Q2,Q3,Q4,Q5,Q6,Q7,Q8,Q9,Qa,Qb,Qc,Qd,Qe,Qf,Qg,Qh,Qi,Qj,Qk,reduceCtorEq,reduceIte,gt,qO,ht,aj,aq,n1c,n2c,e3]
 trace_state
theorem xis(n thr:Int)(h0: -9223372036854775808<=thr)(h1:thr<=9223372036854775807)(hn0: -9223372036854775808<=n)(hn1:n<=9223372036854775807)(hk:ik n 3=2):call T 22 [.int .i64 n,.int .i64 thr] [] 0=some ⟨.agg (trL 2 thr).sv,[],[]⟩:=by
 have gm:=f14 n 3 hn0 hn1 (by decide);rw[hk]at gm;have gt:=f14 thr 3 h0 h1 (by decide);have hb:=ld thr 3 (by decide);have ht:af.wrap (1+ik thr 3)=1+ik thr 3:=w64 (by omega) (by omega);have s0:=f39 3;have p0:=f50 (dA 3) (by rw[ec];decide);have s1:=f39 5;have p1:=f50 (dA 5) (by rw[ec];decide);have s2:=f39 7;have p2:=f50 (dA 7) (by rw[ec];decide);have e3:((3:Nat):Int)=3:=rfl;have e5:((5:Nat):Int)=5:=rfl;have e7:((7:Nat):Int)=7:=rfl;rw[e3]at s0;rw[e5]at s1;rw[e7]at s2;have e:(trL 2 thr).sv=[.lst 2 [[.int .i64 3,.byt (ii (dA 3) 1) .no],[.int .i64 5,.byt (ii (dA 5) 1) .no],[.int .i64 7,.byt (ii (dA 7) 1) .no]] .no,.int .i64 (1+ik thr 3)]:=rfl;rw[e];generalize ii (dA 3) 1=P0 at*;generalize ii (dA 5) 1=P1 at*;generalize ii (dA 7) 1=P2 at*;generalize dA 3=S0 at*;generalize dA 5=S1 at*;generalize dA 7=S2 at*;rw[ah xfq];simp (config:= {decide:=true}) only[go_sem,Q0,Q1,Q2,Q3,Q4,Q5,Q6,Q7,Q8,Q9,Qa,Qb,Qc,Qd,Qe,Qf,Qg,Qh,Qi,Qj,Qk,reduceCtorEq,reduceIte];rw[ai];simp (config:= {decide:=true}) only[go_sem,Q0,Q1,Q2,Q3,Q4,Q5,Q6,Q7,Q8,Q9,Qa,Qb,Qc,Qd,Qe,Qf,Qg,Qh,Qi,Qj,Qk,reduceCtorEq,reduceIte,gm,qO,kw0,kw1,kw2,kw3,kw4,kw5,kw7,s0,p0,s1,p1,s2,p2,ni,x6,aj,aq,aU,az];rw[ai];simp (config:= {decide:=true}) only[go_sem,Q0,Q1,Q2,Q3,Q4,Q5,Q6,Q7,Q8,Q9,Qa,Qb,Qc,Qd,Qe,Qf,Qg,Qh,Qi,Qj,Qk,reduceCtorEq,reduceIte,gm,qO,kw0,kw1,kw2,kw3,kw4,kw5,kw7,s0,p0,s1,p1,s2,p2,ni,x6,aj,aq,aU,az]
 rw[ai];simp (config:= {decide:=true}) only[go_sem,Q0,Q1,Q2,Q3,Q4,Q5,Q6,Q7,Q8,Q9,Qa,Qb,Qc,Qd,Qe,Qf,Qg,Qh,Qi,Qj,Qk,reduceCtorEq,reduceIte,gm,qO,kw0,kw1,kw2,kw3,kw4,kw5,kw7,s0,p0,s1,p1,s2,p2,ni,x6,aj,aq,aU,az];rw[ai];simp (config:= {decide:=true}) only[go_sem,Q0,Q1,Q2,Q3,Q4,Q5,Q6,Q7,Q8,Q9,Qa,Qb,Qc,Qd,Qe,Qf,Qg,Qh,Qi,Qj,Qk,reduceCtorEq,reduceIte,gm,qO,kw0,kw1,kw2,kw3,kw4,kw5,kw7,s0,p0,s1,p1,s2,p2,ni,x6,aj,aq,aU,az];simp (config:= {decide:=true}) only[go_sem,Q0,Q1,Q2,Q3,Q4,Q5,Q6,Q7,Q8,Q9,Qa,Qb,Qc,Qd,Qe,Qf,Qg,Qh,Qi,Qj,Qk,reduceCtorEq,reduceIte,gt,qO,ht,aj,aq,n1c,n2c,e3]
 trace_state
end Go.Proofs.YtkggincjigbelaaGreatDoor
