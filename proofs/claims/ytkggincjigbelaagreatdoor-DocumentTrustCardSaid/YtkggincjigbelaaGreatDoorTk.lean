/- What the functions come to. No condition. -/
import Derived.Test.YtkggincjigbelaaGreatDoorTj
open Int renaming natCast_zero -> aJ
open Go.IntKind renaming u64 -> aW
open List renaming append_assoc -> aY, append_nil -> br, cons_append -> bo, length_append -> ai, length_cons -> aj, nil_append -> aQ
open Nat renaming zero_le -> dB
set_option maxRecDepth 100000
set_option maxHeartbeats 16000000
set_option linter.unusedSimpArgs false
set_option linter.unusedVariables false
namespace Go.Proofs.YtkggincjigbelaaGreatDoor
open Go.Sy
open UInt8 renaming reduceLT -> Q0, reduceLE -> Q1
open Int renaming reduceToNat -> Q2, reduceLE -> Q3, reduceLT -> Q4, reduceEq -> Q5, reduceNe -> Q6, reduceNeg -> Q7, reduceAdd -> Q8, reduceSub -> Q9, reduceMul -> Qa
open Nat renaming reducePow -> Qb, reduceDiv -> Qc, reduceMod -> Qd, reduceAdd -> Qe, reduceSub -> Qf, reduceMul -> Qg, reduceLT -> Qh, reduceLeDiff -> Qi, reduceEqDiff -> Qj, reduceBEq -> Qk
structure Wd where
 man:List UInt8
 frm:Int
 deriving DecidableEq
def Wd.sv(w:Wd):List SV:=[.byt w.man .no,.int .i64 w.frm]
def pD(w:Wd):Prop:=w.man.length=32/\0<=w.frm/\w.frm<=1099511627776
instance (w:Wd):Decidable (pD w):=by unfold pD;infer_instance
def fS(w:Wd):List UInt8:=if pD w then 22::(w.man++be 6 (aW.wrap w.frm))else []
theorem RD:be 1 (aW.wrap 22)=[22]:=by decide
theorem f15(w:Wd):call T 15 [.agg w.sv] [] 0=some ⟨.byt (fS w) .no,[],[]⟩:=by
 have g1:=f40 [] 1 22 (by decide) (by decide) (by decide);rw[RD]at g1;rw[c1]at g1;simp only[aQ]at g1;obtain⟨m,f⟩:=w;unfold fS pD Wd.sv;rw[ao ZZ]
 by_cases h1:m.length=32
 ·have h1I:(m.length:Int)=32:=by omega
  by_cases h2:f<0
  ·have h3:¬(m.length=32/\0<=f/\f<=1099511627776):=by omega
   simp only[go_sem,Q0,Q1,Q2,Q3,Q4,Q5,Q6,Q7,Q8,Q9,Qa,Qb,Qc,Qd,Qe,Qf,Qg,Qh,Qi,Qj,Qk,reduceCtorEq,reduceIte,h1I,h2,h3]
  ·by_cases h4:1099511627776<f
   ·have h3:¬(m.length=32/\0<=f/\f<=1099511627776):=by omega
    simp only[go_sem,Q0,Q1,Q2,Q3,Q4,Q5,Q6,Q7,Q8,Q9,Qa,Qb,Qc,Qd,Qe,Qf,Qg,Qh,Qi,Qj,Qk,reduceCtorEq,reduceIte,h1I,h2,h4,h3]
   ·have h3:m.length=32/\0<=f/\f<=1099511627776:=by omega
    have g2:=f40 (22::m) 6 f (by decide) (by decide) (by rw[aj,h1];decide);rw[c6]at g2;simp only[go_sem,Q0,Q1,Q2,Q3,Q4,Q5,Q6,Q7,Q8,Q9,Qa,Qb,Qc,Qd,Qe,Qf,Qg,Qh,Qi,Qj,Qk,reduceCtorEq,reduceIte,h1I,h1,h2,h4,h3,g1,g2,Z9,bo,aQ]
    trace_state
 ·have h1I:¬(m.length:Int)=32:=by omega
  have h3:¬(m.length=32/\0<=f/\f<=1099511627776):=by omega
  simp only[go_sem,Q0,Q1,Q2,Q3,Q4,Q5,Q6,Q7,Q8,Q9,Qa,Qb,Qc,Qd,Qe,Qf,Qg,Qh,Qi,Qj,Qk,reduceCtorEq,reduceIte,h1I,h3]
theorem f19(w:Wd):call T 19 [.agg w.sv] [] 0=some ⟨.byt (fS w) .no,[],[]⟩:=by
 obtain⟨m,f⟩:=w;unfold fS pD Wd.sv;rw[ao ZX]
 by_cases h1:m.length=32
 ·have h1I:(m.length:Int)=32:=by omega
  by_cases h2:f<0
  ·have h3:¬(m.length=32/\0<=f/\f<=1099511627776):=by omega
   simp only[go_sem,Q0,Q1,Q2,Q3,Q4,Q5,Q6,Q7,Q8,Q9,Qa,Qb,Qc,Qd,Qe,Qf,Qg,Qh,Qi,Qj,Qk,reduceCtorEq,reduceIte,h1I,h2,h3]
  ·by_cases h4:1099511627776<f
   ·have h3:¬(m.length=32/\0<=f/\f<=1099511627776):=by omega
    simp only[go_sem,Q0,Q1,Q2,Q3,Q4,Q5,Q6,Q7,Q8,Q9,Qa,Qb,Qc,Qd,Qe,Qf,Qg,Qh,Qi,Qj,Qk,reduceCtorEq,reduceIte,h1I,h2,h4,h3]
   ·have h3:m.length=32/\0<=f/\f<=1099511627776:=by omega
    have g2:=f45 (22::m) 6 f (by decide) (by decide) (by rw[aj,h1];decide);rw[c6]at g2;simp only[go_sem,Q0,Q1,Q2,Q3,Q4,Q5,Q6,Q7,Q8,Q9,Qa,Qb,Qc,Qd,Qe,Qf,Qg,Qh,Qi,Qj,Qk,reduceCtorEq,reduceIte,h1I,h1,h2,h4,h3,g2,Z8,bo,aQ]
    trace_state
 ·have h1I:¬(m.length:Int)=32:=by omega
  have h3:¬(m.length=32/\0<=f/\f<=1099511627776):=by omega
  simp only[go_sem,Q0,Q1,Q2,Q3,Q4,Q5,Q6,Q7,Q8,Q9,Qa,Qb,Qc,Qd,Qe,Qf,Qg,Qh,Qi,Qj,Qk,reduceCtorEq,reduceIte,h1I,h3]
def wT(B:List UInt8):Int×Rs:=uR B 1 ⟨0,0⟩
def wM(B:List UInt8):List UInt8×Rs:=wR B 32 (wT B).2
def wF(B:List UInt8):Int×Rs:=uR B 6 (wM B).2
def wdP(B:List UInt8):Prop:=eR B (wF B).2=0/\(wT B).1=22/\(wF B).1<=1099511627776
instance (B:List UInt8):Decidable (wdP B):=by unfold wdP;infer_instance
def mY(B:List UInt8):Option Wd:=if wdP B then some ⟨(wM B).1,(wF B).1⟩else none
def wdO:Option Wd->SV
 |some w=> .tup [.agg w.sv,.int .i64 0]
 |none=> .tup [.agg [.byt [] .no,.int .i64 0],.int .i64 30]
theorem f16(B:List UInt8)(hB:B.length<=1000000000):call T 16 [.byt B .no] [] 0=some ⟨wdO (mY B),[],[]⟩:=by
 have o0:iB B ⟨0,0⟩:=⟨dB _⟩;have o1:iB B (wT B).2:=xg o0;have o2:iB B (wM B).2:=H8 o1;have o3:iB B (wF B).2:=xg o2;have g0:=f41 B hB;have g1:=f42 B hB 1 (by decide) (by decide) ⟨0,0⟩ o0;have g2:=f43 B hB 32 (by decide) (wT B).2 o1;have g3:=f42 B hB 6 (by decide) (by decide) (wM B).2 o2;have g4:=f44 B hB (wF B).2 o3;change call T 42 _ _ _=some ⟨.int .i64 (wT B).1,[(0,rdO B 60 (wT B).2)],[60]⟩at g1;change call T 43 _ _ _=some ⟨.byt (wM B).1 .no,[(0,rdO B 60 (wM B).2)],[60]⟩at g2;change call T 42 _ _ _=some ⟨.int .i64 (wF B).1,[(0,rdO B 60 (wF B).2)],[60]⟩at g3;rw[c1]at g1;rw[c32]at g2;rw[c6]at g3
 by_cases hp:wdP B
 ·rw[show mY B=some ⟨(wM B).1,(wF B).1⟩from if_pos hp]
  obtain⟨h1,h2,h4⟩:=hp;have h3:¬1099511627776<(wF B).1:=by omega
  generalize wT B=t at*;generalize wM B=m at*;generalize wF B=f at*;obtain⟨t1,t2⟩:=t;obtain⟨m1,m2⟩:=m;obtain⟨f1,f2⟩:=f;simp only[rdO,aJ]at g0 g1 g2 g3 g4 h1 h2 h3 ⊢;generalize eR B f2=e at*;rw[ao XF];simp only[go_sem,Q0,Q1,Q2,Q3,Q4,Q5,Q6,Q7,Q8,Q9,Qa,Qb,Qc,Qd,Qe,Qf,Qg,Qh,Qi,Qj,Qk,reduceCtorEq,reduceIte,g0,g1,g2,g3,g4,En,Em,H5,H4,h1,h2,h3,wdO,Wd.sv]
 ·rw[show mY B=none from if_neg hp]
  unfold wdP at hp;generalize wT B=t at*;generalize wM B=m at*;generalize wF B=f at*;obtain⟨t1,t2⟩:=t;obtain⟨m1,m2⟩:=m;obtain⟨f1,f2⟩:=f;simp only[rdO,aJ]at g0 g1 g2 g3 g4 hp ⊢;generalize eR B f2=e at*;rw[ao XF]
  by_cases h1:e=0
  ·by_cases h2:t1=22
   ·have h3:1099511627776<f1:=by omega
    simp only[go_sem,Q0,Q1,Q2,Q3,Q4,Q5,Q6,Q7,Q8,Q9,Qa,Qb,Qc,Qd,Qe,Qf,Qg,Qh,Qi,Qj,Qk,reduceCtorEq,reduceIte,g0,g1,g2,g3,g4,En,Em,H5,H4,h1,h2,h3,wdO]
   ·simp only[go_sem,Q0,Q1,Q2,Q3,Q4,Q5,Q6,Q7,Q8,Q9,Qa,Qb,Qc,Qd,Qe,Qf,Qg,Qh,Qi,Qj,Qk,reduceCtorEq,reduceIte,g0,g1,g2,g3,g4,En,Em,H5,H4,h1,h2,wdO]
  ·by_cases h2:t1=22
   ·simp only[go_sem,Q0,Q1,Q2,Q3,Q4,Q5,Q6,Q7,Q8,Q9,Qa,Qb,Qc,Qd,Qe,Qf,Qg,Qh,Qi,Qj,Qk,reduceCtorEq,reduceIte,g0,g1,g2,g3,g4,En,Em,H5,H4,h1,h2,wdO]
   ·simp only[go_sem,Q0,Q1,Q2,Q3,Q4,Q5,Q6,Q7,Q8,Q9,Qa,Qb,Qc,Qd,Qe,Qf,Qg,Qh,Qi,Qj,Qk,reduceCtorEq,reduceIte,g0,g1,g2,g3,g4,En,Em,H5,H4,h1,h2,wdO]
theorem f20(B:List UInt8)(hB:B.length<=1000000000):call T 20 [.byt B .no] [] 0=some ⟨wdO (mY B),[],[]⟩:=by
 have o0:iB B ⟨0,0⟩:=⟨dB _⟩;have o1:iB B (wT B).2:=xg o0;have o2:iB B (wM B).2:=H8 o1;have o3:iB B (wF B).2:=xg o2;have g0:=f46 B;have g1:=f47 B hB 1 (by decide) (by decide) ⟨0,0⟩ o0;have g2:=f48 B hB 32 (by decide) (wT B).2 o1;have g3:=f47 B hB 6 (by decide) (by decide) (wM B).2 o2;have g4:=f49 B hB (wF B).2 o3;change call T 47 _ _ _=some ⟨.int .i64 (wT B).1,[(0,rqO B (wT B).2)],[]⟩at g1;change call T 48 _ _ _=some ⟨.byt (wM B).1 .no,[(0,rqO B (wM B).2)],[]⟩at g2;change call T 47 _ _ _=some ⟨.int .i64 (wF B).1,[(0,rqO B (wF B).2)],[]⟩at g3;rw[c1]at g1;rw[c32]at g2;rw[c6]at g3
 by_cases hp:wdP B
 ·rw[show mY B=some ⟨(wM B).1,(wF B).1⟩from if_pos hp]
  obtain⟨h1,h2,h4⟩:=hp;have h3:¬1099511627776<(wF B).1:=by omega
  generalize wT B=t at*;generalize wM B=m at*;generalize wF B=f at*;obtain⟨t1,t2⟩:=t;obtain⟨m1,m2⟩:=m;obtain⟨f1,f2⟩:=f;simp only[rqO,aJ]at g0 g1 g2 g3 g4 h1 h2 h3 ⊢;generalize eR B f2=e at*;rw[ao XD];simp only[go_sem,Q0,Q1,Q2,Q3,Q4,Q5,Q6,Q7,Q8,Q9,Qa,Qb,Qc,Qd,Qe,Qf,Qg,Qh,Qi,Qj,Qk,reduceCtorEq,reduceIte,g0,g1,g2,g3,g4,H3,H2,H1,HZ,h1,h2,h3,wdO,Wd.sv]
 ·rw[show mY B=none from if_neg hp]
  unfold wdP at hp;generalize wT B=t at*;generalize wM B=m at*;generalize wF B=f at*;obtain⟨t1,t2⟩:=t;obtain⟨m1,m2⟩:=m;obtain⟨f1,f2⟩:=f;simp only[rqO,aJ]at g0 g1 g2 g3 g4 hp ⊢;generalize eR B f2=e at*;rw[ao XD]
  by_cases h1:e=0
  ·by_cases h2:t1=22
   ·have h3:1099511627776<f1:=by omega
    simp only[go_sem,Q0,Q1,Q2,Q3,Q4,Q5,Q6,Q7,Q8,Q9,Qa,Qb,Qc,Qd,Qe,Qf,Qg,Qh,Qi,Qj,Qk,reduceCtorEq,reduceIte,g0,g1,g2,g3,g4,H3,H2,H1,HZ,h1,h2,h3,wdO]
   ·simp only[go_sem,Q0,Q1,Q2,Q3,Q4,Q5,Q6,Q7,Q8,Q9,Qa,Qb,Qc,Qd,Qe,Qf,Qg,Qh,Qi,Qj,Qk,reduceCtorEq,reduceIte,g0,g1,g2,g3,g4,H3,H2,H1,HZ,h1,h2,wdO]
  ·by_cases h2:t1=22
   ·simp only[go_sem,Q0,Q1,Q2,Q3,Q4,Q5,Q6,Q7,Q8,Q9,Qa,Qb,Qc,Qd,Qe,Qf,Qg,Qh,Qi,Qj,Qk,reduceCtorEq,reduceIte,g0,g1,g2,g3,g4,H3,H2,H1,HZ,h1,h2,wdO]
   ·simp only[go_sem,Q0,Q1,Q2,Q3,Q4,Q5,Q6,Q7,Q8,Q9,Qa,Qb,Qc,Qd,Qe,Qf,Qg,Qh,Qi,Qj,Qk,reduceCtorEq,reduceIte,g0,g1,g2,g3,g4,H3,H2,H1,HZ,h1,h2,wdO]
theorem f17(v w:Wd)(h:v.man.length<=140737488355328):call T 17 [.agg v.sv,.agg w.sv] [] 0=some ⟨.bool (decide (v=w)),[],[]⟩:=by
 obtain⟨a,b⟩:=v;obtain⟨c,d⟩:=w;have g:=f18 a c h
 by_cases h1:b=d
 ·have e:decide ((⟨a,b⟩:Wd)=⟨c,d⟩)=decide (a=c):=by subst h1;simp
  rw[e];unfold Wd.sv;rw[ao XE];simp only[go_sem,Q0,Q1,Q2,Q3,Q4,Q5,Q6,Q7,Q8,Q9,Qa,Qb,Qc,Qd,Qe,Qf,Qg,Qh,Qi,Qj,Qk,reduceCtorEq,reduceIte,g,R7,h1]
 ·have e:decide ((⟨a,b⟩:Wd)=⟨c,d⟩)=false:=by simp[h1]
  rw[e];unfold Wd.sv;rw[ao XE];simp only[go_sem,Q0,Q1,Q2,Q3,Q4,Q5,Q6,Q7,Q8,Q9,Qa,Qb,Qc,Qd,Qe,Qf,Qg,Qh,Qi,Qj,Qk,reduceCtorEq,reduceIte,h1]
theorem j3(w:Wd)(h:pD w):(fS w).length=39:=by rw[fS,if_pos h,aj,ai,pj,h.1]
theorem qw(w:Wd)(h:pD w):mY (fS w)=some w:=by
 have hb:be 6 (aW.wrap w.frm)=bu 6 w.frm:=rfl;have e:fS w=[]++([22]++(w.man++bu 6 w.frm)):=by rw[fS,if_pos h,hb];rfl
 have h1:wT (fS w)=(22,⟨1,0⟩):=by have:=If (B:=fS w) (P:=[]) (X:=[22]) 1 e rfl;exact this
 have e2:fS w=[22]++(w.man++bu 6 w.frm):=e
 have h2:wM (fS w)=(w.man,⟨33,0⟩):=by have:=Sn (B:=fS w) (P:=[22]) (X:=w.man) 32 e2 h.1;rw[ai,h.1]at this;unfold wM;rw[h1];exact this
 have e3:fS w=([22]++w.man)++(bu 6 w.frm++ []):=by rw[br,aY];exact e2
 have hn:=Ub 6 w.frm h.2.1 (by rw[pp6];have:=h.2.2;omega) (by have:=h.2.2;omega)
 have h3:wF (fS w)=(w.frm,⟨39,0⟩):=by
  have:=If (B:=fS w) (P:=[22]++w.man) (X:=bu 6 w.frm) 6 e3 (pj _ _);have l1:([22]++w.man).length=33:=by rw[ai,h.1];rfl
  have l2:([22]++w.man++bu 6 w.frm).length=39:=by rw[ai,l1,bu,pj]
  rw[l1,l2,hn]at this;unfold wF;rw[h2];exact this
 have h4:wdP (fS w):=by unfold wdP;rw[h3,h1];refine⟨?_,rfl,h.2.2⟩;unfold eR;rw[j3 w h];rfl
 unfold mY;rw[if_pos h4,h2,h3]
end Go.Proofs.YtkggincjigbelaaGreatDoor
