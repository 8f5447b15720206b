/- Contracts. No condition. -/
import Derived.Test.YtdafipacemgcoaaGreatDoorTfMD
open Int renaming natCast_zero -> aH
open Go.IntKind renaming i64 -> aj
open List renaming all_cons -> iH, drop -> lm, drop_length -> bh, drop_zero -> bi, getD_cons_succ -> bF, getD_cons_zero -> bp, replicate -> au
set_option maxRecDepth 100000
set_option maxHeartbeats 16000000
set_option linter.unusedSimpArgs false
set_option linter.unusedVariables false
namespace Go.Proofs.YtdafipacemgcoaaGreatDoor
open Go.Sy
open UInt8 renaming reduceLT -> Q0, reduceLE -> Q1
open Int renaming reduceToNat -> Q2, reduceLE -> Q3, reduceLT -> Q4, reduceEq -> Q5, reduceNe -> Q6, reduceNeg -> Q7, reduceAdd -> Q8, reduceSub -> Q9, reduceMul -> Qa
open Nat renaming reducePow -> Qb, reduceDiv -> Qc, reduceMod -> Qd, reduceAdd -> Qe, reduceSub -> Qf, reduceMul -> Qg, reduceLT -> Qh, reduceLeDiff -> Qi, reduceEqDiff -> Qj, reduceBEq -> Qk

theorem f47(role:Int):call T 47 [.int .i64 role] [] 0=some ⟨.int .i64 (oa role),[],[]⟩:=by
 rw[az xk4];unfold oa
 by_cases h:role=1
 ·subst h;simp only[go_sem,Q0,Q1,Q2,Q3,Q4,Q5,Q6,Q7,Q8,Q9,Qa,Qb,Qc,Qd,Qe,Qf,Qg,Qh,Qi,Qj,Qk,reduceCtorEq,reduceIte,np]
 by_cases B:role=2
 ·subst B;simp only[go_sem,Q0,Q1,Q2,Q3,Q4,Q5,Q6,Q7,Q8,Q9,Qa,Qb,Qc,Qd,Qe,Qf,Qg,Qh,Qi,Qj,Qk,reduceCtorEq,reduceIte,np]
 by_cases C:role=3
 ·subst C;simp only[go_sem,Q0,Q1,Q2,Q3,Q4,Q5,Q6,Q7,Q8,Q9,Qa,Qb,Qc,Qd,Qe,Qf,Qg,Qh,Qi,Qj,Qk,reduceCtorEq,reduceIte,np]
 by_cases z:role=4
 ·subst z;simp only[go_sem,Q0,Q1,Q2,Q3,Q4,Q5,Q6,Q7,Q8,Q9,Qa,Qb,Qc,Qd,Qe,Qf,Qg,Qh,Qi,Qj,Qk,reduceCtorEq,reduceIte,np]
 by_cases H:role=0
 ·subst H;simp only[go_sem,Q0,Q1,Q2,Q3,Q4,Q5,Q6,Q7,Q8,Q9,Qa,Qb,Qc,Qd,Qe,Qf,Qg,Qh,Qi,Qj,Qk,reduceCtorEq,reduceIte,np]
 by_cases E:role<0
 ·simp only[go_sem,Q0,Q1,Q2,Q3,Q4,Q5,Q6,Q7,Q8,Q9,Qa,Qb,Qc,Qd,Qe,Qf,Qg,Qh,Qi,Qj,Qk,reduceCtorEq,reduceIte,h,B,C,z,E]
 ·have F:5<=role:=by omega
  simp only[go_sem,Q0,Q1,Q2,Q3,Q4,Q5,Q6,Q7,Q8,Q9,Qa,Qb,Qc,Qd,Qe,Qf,Qg,Qh,Qi,Qj,Qk,reduceCtorEq,reduceIte,h,B,C,z,E,F]
theorem f48(a b:t6):call T 48 [.byt a .no,.byt b .no] [] 0=some ⟨.bool (decide (a=b)),[],[]⟩:=by rw[az xk3];simp only[go_sem,Q0,Q1,Q2,Q3,Q4,Q5,Q6,Q7,Q8,Q9,Qa,Qb,Qc,Qd,Qe,Qf,Qg,Qh,Qi,Qj,Qk,reduceCtorEq,reduceIte]
def nG(b:t6):Bool:=b.all fun c=> !(decide (c<32)||decide (126<c))
def kS(m:Bool)(d s:t6):Bool:=if(0:Int)<d.length then(m&&decide (d=s))else true
def q9(e:Ev):Bool:=
 if e.kind=1 then true
 else if e.kind=2 then(if e.data=[0,0,0,0]then kS true (e.dg.getD 0 []) (jx e.data)&&kS true (e.dg.getD 1 []) (sha e.data)else false)
 else if e.kind=3 then(if(e.data.length:Int)=0 then false else if nG e.data=true then kS true (e.dg.getD 0 []) (jx e.data)&&kS true (e.dg.getD 1 []) (sha e.data)else false)
 else if e.kind=4 then kS true (e.dg.getD 0 []) (jx e.data)&&kS true (e.dg.getD 1 []) (sha e.data)
 else if e.kind=5 then kS false (e.dg.getD 0 []) []&&kS false (e.dg.getD 1 []) []
 else false
theorem xjr(O:SV)(m:Bool)(ob:List (Nat×aC))(b:t6)(J:b.length<=1000000000000):∀(n i:Nat),b.length-i=n->i<=b.length->
 run T (.loop xw) ⟨[(1,O),(3,.bool m),(34,.byt b .no),(35,.int .i64 b.length),(36,.int .i64 i)],ob,[]⟩=
 if nG (b.drop i)=true then some (.x 1,⟨[(1,O),(3,.bool m)],ob,[]⟩)else some (.r,⟨[(2,.bool false)],ob,[]⟩):=by
 intro n;induction n with
 |zero=>
  intro i H F;have hi:i=b.length:=by omega
  subst hi;rw[al,bh];simp only[go_sem,Q0,Q1,Q2,Q3,Q4,Q5,Q6,Q7,Q8,Q9,Qa,Qb,Qc,Qd,Qe,Qf,Qg,Qh,Qi,Qj,Qk,reduceCtorEq,reduceIte,nG]
 |succ n I=>
  intro i H F;have hi:i<b.length:=by omega
  have C:=cA i (by omega);have h:=I (i+1) (by omega) (by omega);rw[al,dp b i hi];unfold nG at h ⊢;rw[iH];generalize z:b.getD i 0=c at*;generalize (lm (i+1) b).all _=q at*
  by_cases B:c<32
  ·simp only[go_sem,Q0,Q1,Q2,Q3,Q4,Q5,Q6,Q7,Q8,Q9,Qa,Qb,Qc,Qd,Qe,Qf,Qg,Qh,Qi,Qj,Qk,reduceCtorEq,reduceIte,hi,z,C,B]
  ·by_cases E:126<c
   ·simp only[go_sem,Q0,Q1,Q2,Q3,Q4,Q5,Q6,Q7,Q8,Q9,Qa,Qb,Qc,Qd,Qe,Qf,Qg,Qh,Qi,Qj,Qk,reduceCtorEq,reduceIte,hi,z,C,B,E]
   ·simp only[go_sem,Q0,Q1,Q2,Q3,Q4,Q5,Q6,Q7,Q8,Q9,Qa,Qb,Qc,Qd,Qe,Qf,Qg,Qh,Qi,Qj,Qk,reduceCtorEq,reduceIte,hi,z,C,B,E,h]
theorem xh8(
 m:Bool)(g k:Int)(d0 d1 b s0 s1:t6)(O:b.length<=1000000)(J:m=true->s0=jx b)(L:m=true->s1=sha b):
 run T (.loop xu) ⟨[(1,.ptr 101 0),(3,.bool m),(53,.int .i64 2),(54,.int .i64 0)],[(101,.rc [.int .i64 g,.int .i64 k,.lst 1 [[.byt d0 .no],[.byt d1 .no]] .no,.byt b .no])],[]⟩=
 if(kS m d0 s0&&kS m d1 s1)=true then some (.x 3,⟨[],[(101,.rc [.int .i64 g,.int .i64 k,.lst 1 [[.byt d0 .no],[.byt d1 .no]] .no,.byt b .no])],[]⟩)
 else some (.r,⟨[(2,.bool false)],[(101,.rc [.int .i64 g,.int .i64 k,.lst 1 [[.byt d0 .no],[.byt d1 .no]] .no,.byt b .no])],[]⟩):=by
 have g0:=xjQ b (by omega);have F:=f69 b (by omega);have I:=f48 d0 (jx b);have H:=f48 d1 (sha b);have k1:aj.wrap 1=1:=rfl;have k2:aj.wrap 2=2:=rfl;unfold kS;cases m with
 |false=>
  by_cases B:(0:Int)<d0.length
  ·rw[al];simp only[go_sem,Q0,Q1,Q2,Q3,Q4,Q5,Q6,Q7,Q8,Q9,Qa,Qb,Qc,Qd,Qe,Qf,Qg,Qh,Qi,Qj,Qk,reduceCtorEq,reduceIte,B]
  ·by_cases C:(0:Int)<d1.length
   ·iterate 2
     rw[al];simp only[go_sem,Q0,Q1,Q2,Q3,Q4,Q5,Q6,Q7,Q8,Q9,Qa,Qb,Qc,Qd,Qe,Qf,Qg,Qh,Qi,Qj,Qk,reduceCtorEq,reduceIte,B,C,k1,k2]
   ·iterate 3
     rw[al];simp only[go_sem,Q0,Q1,Q2,Q3,Q4,Q5,Q6,Q7,Q8,Q9,Qa,Qb,Qc,Qd,Qe,Qf,Qg,Qh,Qi,Qj,Qk,reduceCtorEq,reduceIte,B,C,k1,k2]
 |true=>
  rw[J rfl,L rfl]
  by_cases B:(0:Int)<d0.length
  ·by_cases b1:d0=jx b
   ·have z:call T 48 [.byt d0 .no,.byt (jx b) .no] [] 0=some ⟨.bool true,[],[]⟩:=by rw[I,decide_eq_true b1]
    by_cases C:(0:Int)<d1.length
    ·by_cases E:d1=sha b
     ·have h:call T 48 [.byt d1 .no,.byt (sha b) .no] [] 0=some ⟨.bool true,[],[]⟩:=by rw[H,decide_eq_true E]
      rw[decide_eq_true b1,decide_eq_true E]
      iterate 3
       rw[al];simp only[go_sem,Q0,Q1,Q2,Q3,Q4,Q5,Q6,Q7,Q8,Q9,Qa,Qb,Qc,Qd,Qe,Qf,Qg,Qh,Qi,Qj,Qk,reduceCtorEq,reduceIte,B,C,k1,k2,g0,F,z,h,wO,vf]
     ·have h:call T 48 [.byt d1 .no,.byt (sha b) .no] [] 0=some ⟨.bool false,[],[]⟩:=by rw[H,decide_eq_false E]
      rw[decide_eq_true b1,decide_eq_false E]
      iterate 2
       rw[al];simp only[go_sem,Q0,Q1,Q2,Q3,Q4,Q5,Q6,Q7,Q8,Q9,Qa,Qb,Qc,Qd,Qe,Qf,Qg,Qh,Qi,Qj,Qk,reduceCtorEq,reduceIte,B,C,k1,k2,g0,F,z,h,wO,vf]
    ·rw[decide_eq_true b1]
     iterate 3
      rw[al];simp only[go_sem,Q0,Q1,Q2,Q3,Q4,Q5,Q6,Q7,Q8,Q9,Qa,Qb,Qc,Qd,Qe,Qf,Qg,Qh,Qi,Qj,Qk,reduceCtorEq,reduceIte,B,C,k1,k2,g0,F,z,wO,vf]
   ·have z:call T 48 [.byt d0 .no,.byt (jx b) .no] [] 0=some ⟨.bool false,[],[]⟩:=by rw[I,decide_eq_false b1]
    rw[decide_eq_false b1];rw[al];simp only[go_sem,Q0,Q1,Q2,Q3,Q4,Q5,Q6,Q7,Q8,Q9,Qa,Qb,Qc,Qd,Qe,Qf,Qg,Qh,Qi,Qj,Qk,reduceCtorEq,reduceIte,B,k1,k2,g0,F,z,wO,vf]
  ·by_cases C:(0:Int)<d1.length
   ·by_cases E:d1=sha b
    ·have h:call T 48 [.byt d1 .no,.byt (sha b) .no] [] 0=some ⟨.bool true,[],[]⟩:=by rw[H,decide_eq_true E]
     rw[decide_eq_true E]
     iterate 3
      rw[al];simp only[go_sem,Q0,Q1,Q2,Q3,Q4,Q5,Q6,Q7,Q8,Q9,Qa,Qb,Qc,Qd,Qe,Qf,Qg,Qh,Qi,Qj,Qk,reduceCtorEq,reduceIte,B,C,k1,k2,g0,F,h,wO,vf]
    ·have h:call T 48 [.byt d1 .no,.byt (sha b) .no] [] 0=some ⟨.bool false,[],[]⟩:=by rw[H,decide_eq_false E]
     rw[decide_eq_false E]
     iterate 2
      rw[al];simp only[go_sem,Q0,Q1,Q2,Q3,Q4,Q5,Q6,Q7,Q8,Q9,Qa,Qb,Qc,Qd,Qe,Qf,Qg,Qh,Qi,Qj,Qk,reduceCtorEq,reduceIte,B,C,k1,k2,g0,F,h,wO,vf]
   ·iterate 3
     rw[al];simp only[go_sem,Q0,Q1,Q2,Q3,Q4,Q5,Q6,Q7,Q8,Q9,Qa,Qb,Qc,Qd,Qe,Qf,Qg,Qh,Qi,Qj,Qk,reduceCtorEq,reduceIte,B,C,k1,k2]
theorem two{α:Type}(l:List α)(d:α)(h:l.length=2):l=[l.getD 0 d,l.getD 1 d]:=by
 match l,h with
 |[a,b],_=>rfl
theorem f50(e:Ev)(hd:e.dg.length=2)(H:e.data.length<=1000000):call T 50 [.agg e.sv] [] 0=some ⟨.bool (q9 e),[],[]⟩:=by
 obtain⟨g,k,I,b⟩:=e;simp only at hd H;rw[two I [] hd];generalize I.getD 0 []=d0;generalize I.getD 1 []=d1;clear hd;have Q:=xh8 false g k d0 d1 b [] [] H (fun h=>by cases h) (fun h=>by cases h);have B:=xh8 true g k d0 d1 b (jx b) (sha b) H (fun _=>rfl) (fun _=>rfl);have p:=xjr (.ptr 101 0) true [(101,.rc [.int .i64 g,.int .i64 k,.lst 1 [[.byt d0 .no],[.byt d1 .no]] .no,.byt b .no])] b (by omega) _ 0 rfl (by omega);have E:=f48 b [0,0,0,0];simp only[aH,bi]at p;have F:bls [d0,d1]=[[.byt d0 .no],[.byt d1 .no]]:=rfl;rw[az xk1];unfold q9 Ev.sv;simp only[F,bp,bF];generalize (kS false d0 []&&kS false d1 [])=z0 at*;generalize (kS true d0 (jx b)&&kS true d1 (sha b))=z1 at*
 by_cases L:k=1
 ·subst L;simp only[go_sem,Q0,Q1,Q2,Q3,Q4,Q5,Q6,Q7,Q8,Q9,Qa,Qb,Qc,Qd,Qe,Qf,Qg,Qh,Qi,Qj,Qk,reduceCtorEq,reduceIte]
 by_cases O:k=2
 ·subst O
  by_cases z:b=[0,0,0,0]
  ·rw[decide_eq_true z]at E
   cases z1<;>simp only[go_sem,Q0,Q1,Q2,Q3,Q4,Q5,Q6,Q7,Q8,Q9,Qa,Qb,Qc,Qd,Qe,Qf,Qg,Qh,Qi,Qj,Qk,reduceCtorEq,reduceIte,z,au]at E B ⊢ <;>simp only[go_sem,Q0,Q1,Q2,Q3,Q4,Q5,Q6,Q7,Q8,Q9,Qa,Qb,Qc,Qd,Qe,Qf,Qg,Qh,Qi,Qj,Qk,reduceCtorEq,reduceIte,E,vf,B,au]
  ·rw[decide_eq_false z]at E
   simp only[go_sem,Q0,Q1,Q2,Q3,Q4,Q5,Q6,Q7,Q8,Q9,Qa,Qb,Qc,Qd,Qe,Qf,Qg,Qh,Qi,Qj,Qk,reduceCtorEq,reduceIte,z,E,vf,au]
 by_cases z:k=3
 ·subst z
  by_cases C:(b.length:Int)=0
  ·simp only[go_sem,Q0,Q1,Q2,Q3,Q4,Q5,Q6,Q7,Q8,Q9,Qa,Qb,Qc,Qd,Qe,Qf,Qg,Qh,Qi,Qj,Qk,reduceCtorEq,reduceIte,C]
  ·cases hp:nG b with
   |true=>rw[if_pos hp]at p;cases z1<;>simp only[go_sem,Q0,Q1,Q2,Q3,Q4,Q5,Q6,Q7,Q8,Q9,Qa,Qb,Qc,Qd,Qe,Qf,Qg,Qh,Qi,Qj,Qk,reduceCtorEq,reduceIte]at B<;>simp only[go_sem,Q0,Q1,Q2,Q3,Q4,Q5,Q6,Q7,Q8,Q9,Qa,Qb,Qc,Qd,Qe,Qf,Qg,Qh,Qi,Qj,Qk,reduceCtorEq,reduceIte,C,p,B,hp]
   |false=>rw[if_neg (by rw[hp];simp)]at p;simp only[go_sem,Q0,Q1,Q2,Q3,Q4,Q5,Q6,Q7,Q8,Q9,Qa,Qb,Qc,Qd,Qe,Qf,Qg,Qh,Qi,Qj,Qk,reduceCtorEq,reduceIte,C,p,hp]
 by_cases C:k=4
 ·subst C
  cases z1<;>simp only[go_sem,Q0,Q1,Q2,Q3,Q4,Q5,Q6,Q7,Q8,Q9,Qa,Qb,Qc,Qd,Qe,Qf,Qg,Qh,Qi,Qj,Qk,reduceCtorEq,reduceIte]at B<;>simp only[go_sem,Q0,Q1,Q2,Q3,Q4,Q5,Q6,Q7,Q8,Q9,Qa,Qb,Qc,Qd,Qe,Qf,Qg,Qh,Qi,Qj,Qk,reduceCtorEq,reduceIte,B]
 by_cases J:k=5
 ·subst J
  cases z0<;>simp only[go_sem,Q0,Q1,Q2,Q3,Q4,Q5,Q6,Q7,Q8,Q9,Qa,Qb,Qc,Qd,Qe,Qf,Qg,Qh,Qi,Qj,Qk,reduceCtorEq,reduceIte]at Q<;>simp only[go_sem,Q0,Q1,Q2,Q3,Q4,Q5,Q6,Q7,Q8,Q9,Qa,Qb,Qc,Qd,Qe,Qf,Qg,Qh,Qi,Qj,Qk,reduceCtorEq,reduceIte,Q]
 simp only[go_sem,Q0,Q1,Q2,Q3,Q4,Q5,Q6,Q7,Q8,Q9,Qa,Qb,Qc,Qd,Qe,Qf,Qg,Qh,Qi,Qj,Qk,reduceCtorEq,reduceIte,L,O,z,C,J]

end Go.Proofs.YtdafipacemgcoaaGreatDoor
