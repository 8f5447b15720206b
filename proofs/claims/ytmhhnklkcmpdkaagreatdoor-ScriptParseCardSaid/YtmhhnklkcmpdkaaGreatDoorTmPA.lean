/- Contracts. No condition. -/
import Derived.Test.YtmhhnklkcmpdkaaGreatDoorTkPA
import Derived.Test.YtmhhnklkcmpdkaaGreatDoorTlPA
open Bool renaming and_eq_true -> aw, false_eq_true -> az
open Int renaming tmod_eq_emod_of_nonneg -> fv
open Go.IntKind renaming i64 -> ai
open List renaming cons -> bp, drop_eq_getElem_cons -> aF, drop_length -> bB, getD_eq_getElem?_getD -> aa, getElem?_eq_getElem -> ab, getElem?_map -> aN, getElem_mem -> aU, length_append -> ac, length_cons -> ah, length_nil -> au, length_singleton -> aD, nil -> ll
open Nat renaming le_trans -> gf
open Option renaming getD_none -> fB, getD_some -> aO, isSome_none -> eh, isSome_some -> eT
set_option maxRecDepth 100000
set_option maxHeartbeats 16000000
set_option linter.unusedSimpArgs false
set_option linter.unusedVariables false
namespace Go.Proofs.YtmhhnklkcmpdkaaGreatDoor
open Go.Sy
open UInt8 renaming reduceLT -> Q0, reduceLE -> Q1
open Int renaming reduceToNat -> Q2, reduceLE -> Q3, reduceLT -> Q4, reduceEq -> Q5, reduceNe -> Q6, reduceNeg -> Q7, reduceAdd -> Q8, reduceSub -> Q9, reduceMul -> Qa
open Nat renaming reducePow -> Qb, reduceDiv -> Qc, reduceMod -> Qd, reduceAdd -> Qe, reduceSub -> Qf, reduceMul -> Qg, reduceLT -> Qh, reduceLeDiff -> Qi, reduceEqDiff -> Qj, reduceBEq -> Qk
section
open Pr (wsv)
theorem l40(y w0:d9)(r:List d9)(hr:r.length<=1000000):∀(n k:Nat),1<=k->k+n=13->(k:Int)<=aM w0->
 run T (.loop OP) ⟨[(0,.str y),(2,.ptr 102 0),(4,.lst 1 (.cons [.str w0] (wsv r)) .no),(5,.ptr 105 0)],[(102,.rc (z7 .clip)),(105,.rc [.int .i64 k,.int .i64 0,.int .i64 0,.int .i64 0,.byt [] .clip,.lst 2 [] .clip,.lst 4 [] .clip])],[]⟩=
 some (.x 0,⟨[(0,.str y),(2,.ptr 102 0),(4,.lst 1 (.cons [.str w0] (wsv r)) .no),(5,.ptr 105 0)],[(102,.rc (z7 .clip)),(105,.rc [.int .i64 (aM w0),.int .i64 0,.int .i64 0,.int .i64 0,.byt [] .clip,.lst 2 [] .clip,.lst 4 [] .clip])],[]⟩):=by
 have Q:=cP w0;unfold z7;intro n;induction n with
 |zero=>
  intro k J W L;have:k=13:=by omega
  subst this;have F:aM w0=13:=by omega
  rw[F,aj];simp only[go_sem,Q0,Q1,Q2,Q3,Q4,Q5,Q6,Q7,Q8,Q9,Qa,Qb,Qc,Qd,Qe,Qf,Qg,Qh,Qi,Qj,Qk,reduceCtorEq,reduceIte,c13]
 |succ n O=>
  intro k J W L;have z:=f80 k;have I:(0:Int)<((r.length+1:Nat):Int):=by omega
  have k12:(k:Int)<=12:=by omega
  have H:=cX k (by omega);have hv:=cH r;rcases Int.lt_or_eq_of_le L with h|h
  ·have C:=pO w0 k J h
   have E:=O (k+1) (by omega) (by omega) (by omega);generalize bZ (k:Int)=Z at*;rw[<-E,aj];simp only[go_sem,Q0,Q1,Q2,Q3,Q4,Q5,Q6,Q7,Q8,Q9,Qa,Qb,Qc,Qd,Qe,Qf,Qg,Qh,Qi,Qj,Qk,reduceCtorEq,reduceIte,z,EC,I,k12,H,hv,C]
  ·have C:=Q.2.2 (by omega)
   rw[<-h]at C ⊢;rw[C]at z;rw[aj];simp only[go_sem,Q0,Q1,Q2,Q3,Q4,Q5,Q6,Q7,Q8,Q9,Qa,Qb,Qc,Qd,Qe,Qf,Qg,Qh,Qi,Qj,Qk,reduceCtorEq,reduceIte,z,EC,I,k12,H,hv]
def atO(w:d9):Option Int:=match Lib.atoiAll w with
 | .ok v=>some v
 |_=>none
theorem jO{n:Int}(h:jc n):atO (nmW n)=some n:=by
 obtain⟨y,z⟩:=h;unfold atO nmW;rw[Gw _ (by omega)];simp only
 congr 1;omega
theorem rK(w:d9)(h:w.length<=1000000000):(∃v,atO w=some v/\call T 157 [.str w] [] 0=some ⟨.tup [.int .i64 v,.nili],[],[]⟩)\/(∃v,atO w=none/\call T 157 [.str w] [] 0=some ⟨.tup [.int .i64 v,.ife],[],[]⟩):=by
 have g:=xna w h;unfold atO;unfold Pr.atoR at g;cases hA:Lib.atoiAll w with
 |ok v=>rw[hA]at g;exact .inl ⟨v,rfl,g⟩
 |range=>rw[hA]at g;exact .inr ⟨_,rfl,g⟩
 |_=>rw[hA]at g;exact .inr ⟨_,rfl,g⟩
end
section
open Pr (wsv)
def s7(k a b c:Int)(t:Nat):t6:=[.int .i64 k,.int .i64 a,.int .i64 b,.int .i64 c,.byt [] (.id t),.lst 2 [] (.id (t+1)),.lst 4 [] (.id (t+2))]
theorem xmN(k:Int)(ws:List d9)(I:∀w∈ws,w.length<=1000000000):∃(ok:Bool)(v:Int),call T 92 [.lst 1 (wsv ws) .no,.psl 0 1 0 1 (some 1)] [.rc [.ptr 1 1],.rc (s7 k 0 0 0 50)] 3=some ⟨.bool ok,[(0,.rc [.ptr 1 1]),(1,.rc (s7 k v 0 0 60))],[60,61,62]⟩/\∀w u,ws=[w]->atO w=some u->ok=true/\v=u:=by
 have hv:=cH ws
 by_cases F:ws.length=1
 ·obtain⟨w,rfl⟩:∃w,ws=[w]:=List.length_eq_one_iff.1 F
  have i0:(0:Int)<((1:Nat):Int):=by decide
  have y:((1:Nat):Int)=1:=rfl;have kw1:ai.wrap 1=1:=rfl;have kw0:ai.wrap (0+1)=1:=rfl;rcases rK w (I w (by simp))with⟨v,C,g⟩|⟨v,C,g⟩
  ·refine⟨true,v, ?_,fun w' u e h=> ?_⟩
   ·have H:run T (.loop fD) ⟨[(1,.psl 0 1 0 1 (some 1)),(14,.lst 1 [[.str w]] .no),(15,.int .i64 1),(16,.int .i64 1)],[(0,.rc [.ptr 1 1]),(1,.rc (s7 k v 0 0 50))],[50,51,52]⟩=some (.x 0,⟨[],[(0,.rc [.ptr 1 1]),(1,.rc (s7 k v 0 0 50))],[50,51,52]⟩):=by
     unfold s7;rw[aj];simp only[go_sem,Q0,Q1,Q2,Q3,Q4,Q5,Q6,Q7,Q8,Q9,Qa,Qb,Qc,Qd,Qe,Qf,Qg,Qh,Qi,Qj,Qk,reduceCtorEq,reduceIte]
    have E:run T (.loop fD) ⟨[(1,.psl 0 1 0 1 (some 1)),(14,.lst 1 [[.str w]] .no),(15,.int .i64 1),(16,.int .i64 0)],[(0,.rc [.ptr 1 1]),(1,.rc (s7 k 0 0 0 50))],[50,51,52]⟩=some (.x 0,⟨[],[(0,.rc [.ptr 1 1]),(1,.rc (s7 k v 0 0 50))],[50,51,52]⟩):=by rw[<-H];unfold s7;rw[aj];simp only[go_sem,Q0,Q1,Q2,Q3,Q4,Q5,Q6,Q7,Q8,Q9,Qa,Qb,Qc,Qd,Qe,Qf,Qg,Qh,Qi,Qj,Qk,reduceCtorEq,reduceIte,g,gl,i0,y,kw1,kw0]
    unfold s7 at*;rw[am uB];change o5 F92 _ (oZ _ F92 [.lst 1 [[.str w]] .no,_] _ _)=_;simp only[go_sem,Q0,Q1,Q2,Q3,Q4,Q5,Q6,Q7,Q8,Q9,Qa,Qb,Qc,Qd,Qe,Qf,Qg,Qh,Qi,Qj,Qk,reduceCtorEq,reduceIte,E,y]
   ·cases e;rw[C]at h;cases h;exact⟨rfl,rfl⟩
  ·refine⟨false,0, ?_,fun w' u e h=> ?_⟩
   ·have E:run T (.loop fD) ⟨[(1,.psl 0 1 0 1 (some 1)),(14,.lst 1 [[.str w]] .no),(15,.int .i64 1),(16,.int .i64 0)],[(0,.rc [.ptr 1 1]),(1,.rc (s7 k 0 0 0 50))],[50,51,52]⟩=some (.r,⟨[(4,.bool false)],[(0,.rc [.ptr 1 1]),(1,.rc (s7 k 0 0 0 50))],[50,51,52]⟩):=by
     unfold s7;rw[aj];simp only[go_sem,Q0,Q1,Q2,Q3,Q4,Q5,Q6,Q7,Q8,Q9,Qa,Qb,Qc,Qd,Qe,Qf,Qg,Qh,Qi,Qj,Qk,reduceCtorEq,reduceIte,g,gl,i0,y,kw1,kw0]
    unfold s7 at*;rw[am uB];change o5 F92 _ (oZ _ F92 [.lst 1 [[.str w]] .no,_] _ _)=_;simp only[go_sem,Q0,Q1,Q2,Q3,Q4,Q5,Q6,Q7,Q8,Q9,Qa,Qb,Qc,Qd,Qe,Qf,Qg,Qh,Qi,Qj,Qk,reduceCtorEq,reduceIte,E,y]
   ·cases e;rw[C]at h;cases h
 ·refine⟨false,0, ?_,fun w u e _=>absurd (by rw[e];rfl) F⟩
  have z:¬(ws.length:Int)=1:=by omega
  have y:((1:Nat):Int)=1:=rfl;unfold s7;rw[am uB];simp only[go_sem,Q0,Q1,Q2,Q3,Q4,Q5,Q6,Q7,Q8,Q9,Qa,Qb,Qc,Qd,Qe,Qf,Qg,Qh,Qi,Qj,Qk,reduceCtorEq,reduceIte,hv,F,z,y]
theorem Y4(k:Int)(ws:List d9)(I:∀w∈ws,w.length<=1000000000):∃(ok:Bool)(v:Int),call T 92 [.lst 1 (wsv ws) .no,.psl 0 1 0 1 (some 1)] [.rc [.ptr 1 2],.rc (s7 k 0 0 0 50)] 3=some ⟨.bool ok,[(0,.rc [.ptr 1 2]),(1,.rc (s7 k 0 v 0 60))],[60,61,62]⟩/\∀w u,ws=[w]->atO w=some u->ok=true/\v=u:=by
 have hv:=cH ws
 by_cases F:ws.length=1
 ·obtain⟨w,rfl⟩:∃w,ws=[w]:=List.length_eq_one_iff.1 F
  have i0:(0:Int)<((1:Nat):Int):=by decide
  have y:((1:Nat):Int)=1:=rfl;have kw1:ai.wrap 1=1:=rfl;have kw0:ai.wrap (0+1)=1:=rfl;rcases rK w (I w (by simp))with⟨v,C,g⟩|⟨v,C,g⟩
  ·refine⟨true,v, ?_,fun w' u e h=> ?_⟩
   ·have H:run T (.loop fD) ⟨[(1,.psl 0 1 0 1 (some 1)),(14,.lst 1 [[.str w]] .no),(15,.int .i64 1),(16,.int .i64 1)],[(0,.rc [.ptr 1 2]),(1,.rc (s7 k 0 v 0 50))],[50,51,52]⟩=some (.x 0,⟨[],[(0,.rc [.ptr 1 2]),(1,.rc (s7 k 0 v 0 50))],[50,51,52]⟩):=by
     unfold s7;rw[aj];simp only[go_sem,Q0,Q1,Q2,Q3,Q4,Q5,Q6,Q7,Q8,Q9,Qa,Qb,Qc,Qd,Qe,Qf,Qg,Qh,Qi,Qj,Qk,reduceCtorEq,reduceIte]
    have E:run T (.loop fD) ⟨[(1,.psl 0 1 0 1 (some 1)),(14,.lst 1 [[.str w]] .no),(15,.int .i64 1),(16,.int .i64 0)],[(0,.rc [.ptr 1 2]),(1,.rc (s7 k 0 0 0 50))],[50,51,52]⟩=some (.x 0,⟨[],[(0,.rc [.ptr 1 2]),(1,.rc (s7 k 0 v 0 50))],[50,51,52]⟩):=by rw[<-H];unfold s7;rw[aj];simp only[go_sem,Q0,Q1,Q2,Q3,Q4,Q5,Q6,Q7,Q8,Q9,Qa,Qb,Qc,Qd,Qe,Qf,Qg,Qh,Qi,Qj,Qk,reduceCtorEq,reduceIte,g,gl,i0,y,kw1,kw0]
    unfold s7 at*;rw[am uB];change o5 F92 _ (oZ _ F92 [.lst 1 [[.str w]] .no,_] _ _)=_;simp only[go_sem,Q0,Q1,Q2,Q3,Q4,Q5,Q6,Q7,Q8,Q9,Qa,Qb,Qc,Qd,Qe,Qf,Qg,Qh,Qi,Qj,Qk,reduceCtorEq,reduceIte,E,y]
   ·cases e;rw[C]at h;cases h;exact⟨rfl,rfl⟩
  ·refine⟨false,0, ?_,fun w' u e h=> ?_⟩
   ·have E:run T (.loop fD) ⟨[(1,.psl 0 1 0 1 (some 1)),(14,.lst 1 [[.str w]] .no),(15,.int .i64 1),(16,.int .i64 0)],[(0,.rc [.ptr 1 2]),(1,.rc (s7 k 0 0 0 50))],[50,51,52]⟩=some (.r,⟨[(4,.bool false)],[(0,.rc [.ptr 1 2]),(1,.rc (s7 k 0 0 0 50))],[50,51,52]⟩):=by
     unfold s7;rw[aj];simp only[go_sem,Q0,Q1,Q2,Q3,Q4,Q5,Q6,Q7,Q8,Q9,Qa,Qb,Qc,Qd,Qe,Qf,Qg,Qh,Qi,Qj,Qk,reduceCtorEq,reduceIte,g,gl,i0,y,kw1,kw0]
    unfold s7 at*;rw[am uB];change o5 F92 _ (oZ _ F92 [.lst 1 [[.str w]] .no,_] _ _)=_;simp only[go_sem,Q0,Q1,Q2,Q3,Q4,Q5,Q6,Q7,Q8,Q9,Qa,Qb,Qc,Qd,Qe,Qf,Qg,Qh,Qi,Qj,Qk,reduceCtorEq,reduceIte,E,y]
   ·cases e;rw[C]at h;cases h
 ·refine⟨false,0, ?_,fun w u e _=>absurd (by rw[e];rfl) F⟩
  have z:¬(ws.length:Int)=1:=by omega
  have y:((1:Nat):Int)=1:=rfl;unfold s7;rw[am uB];simp only[go_sem,Q0,Q1,Q2,Q3,Q4,Q5,Q6,Q7,Q8,Q9,Qa,Qb,Qc,Qd,Qe,Qf,Qg,Qh,Qi,Qj,Qk,reduceCtorEq,reduceIte,hv,F,z,y]
theorem xmM(k:Int)(ws:List d9)(hw:∀w∈ws,w.length<=1000000000):∃(ok:Bool)(a b c:Int),call T 92 [.lst 1 (wsv ws) .no,.psl 0 1 0 3 (some 3)] [.rc [.ptr 1 1,.ptr 1 2,.ptr 1 3],.rc (s7 k 0 0 0 50)] 3=some ⟨.bool ok,[(0,.rc [.ptr 1 1,.ptr 1 2,.ptr 1 3]),(1,.rc (s7 k a b c 60))],[60,61,62]⟩/\∀w1 h C x y z,ws=[w1,h,C]->atO w1=some x->atO h=some y->atO C=some z->ok=true/\a=x/\b=y/\c=z:=by
 have hv:=cH ws
 by_cases h1:ws.length=3
 ·obtain⟨w1,h,C,rfl⟩:∃w1 h C,ws=[w1,h,C]:=by
   match ws,h1 with
   |[a,b,c],_=>exact⟨a,b,c,rfl⟩
  have i0:(0:Int)<((3:Nat):Int):=by decide
  have J:(1:Int)<((3:Nat):Int):=by decide
  have i2:(2:Int)<((3:Nat):Int):=by decide
  have i3:((3:Nat):Int)=3:=rfl;have kw0:ai.wrap 0=0:=rfl;have kw1:ai.wrap 1=1:=rfl;have kw2:ai.wrap 2=2:=rfl;have H:ai.wrap 3=3:=rfl;have E:ai.wrap (0+1)=1:=rfl;have k12:ai.wrap (1+1)=2:=rfl;have F:ai.wrap (2+1)=3:=rfl;rcases rK w1 (hw w1 (by simp))with⟨I,a1,g1⟩|⟨I,a1,g1⟩
  rotate_left
  ·refine⟨false,0,0,0, ?_,fun a b c x y z e Z O L=> ?_⟩
   rotate_left
   ·cases e;rw[a1]at Z;cases Z
   have e0:run T (.loop fD) ⟨[(1,.psl 0 1 0 3 (some 3)),(14,.lst 1 (bp [.str w1] (bp [.str h] (bp [.str C] ll))) .no),(15,.int .i64 3),(16,.int .i64 0)],[(0,.rc [.ptr 1 1,.ptr 1 2,.ptr 1 3]),(1,.rc (s7 k 0 0 0 50))],[50,51,52]⟩=some (.r,⟨[(4,.bool false)],[(0,.rc [.ptr 1 1,.ptr 1 2,.ptr 1 3]),(1,.rc (s7 k 0 0 0 50))],[50,51,52]⟩):=by unfold s7;rw[aj];simp only[go_sem,Q0,Q1,Q2,Q3,Q4,Q5,Q6,Q7,Q8,Q9,Qa,Qb,Qc,Qd,Qe,Qf,Qg,Qh,Qi,Qj,Qk,reduceCtorEq,reduceIte,g1,gl,i0,J,i2,i3,kw1,kw0,kw2,H,E,k12,F]
   unfold s7 at*;rw[am uB];change o5 F92 _ (oZ _ F92 [.lst 1 (bp [.str w1] (bp [.str h] (bp [.str C] ll))) .no,_] _ _)=_;simp only[go_sem,Q0,Q1,Q2,Q3,Q4,Q5,Q6,Q7,Q8,Q9,Qa,Qb,Qc,Qd,Qe,Qf,Qg,Qh,Qi,Qj,Qk,reduceCtorEq,reduceIte,e0,i3]
  rcases rK h (hw h (by simp))with⟨v2,Q,g2⟩|⟨v2,Q,g2⟩
  rotate_left
  ·refine⟨false,I,0,0, ?_,fun a b c x y z e Z O L=> ?_⟩
   rotate_left
   ·cases e;rw[Q]at O;cases O
   have e1:run T (.loop fD) ⟨[(1,.psl 0 1 0 3 (some 3)),(14,.lst 1 (bp [.str w1] (bp [.str h] (bp [.str C] ll))) .no),(15,.int .i64 3),(16,.int .i64 1)],[(0,.rc [.ptr 1 1,.ptr 1 2,.ptr 1 3]),(1,.rc (s7 k I 0 0 50))],[50,51,52]⟩=some (.r,⟨[(4,.bool false)],[(0,.rc [.ptr 1 1,.ptr 1 2,.ptr 1 3]),(1,.rc (s7 k I 0 0 50))],[50,51,52]⟩):=by unfold s7;rw[aj];simp only[go_sem,Q0,Q1,Q2,Q3,Q4,Q5,Q6,Q7,Q8,Q9,Qa,Qb,Qc,Qd,Qe,Qf,Qg,Qh,Qi,Qj,Qk,reduceCtorEq,reduceIte,g2,gl,i0,J,i2,i3,kw1,kw0,kw2,H,E,k12,F]
   have e0:run T (.loop fD) ⟨[(1,.psl 0 1 0 3 (some 3)),(14,.lst 1 (bp [.str w1] (bp [.str h] (bp [.str C] ll))) .no),(15,.int .i64 3),(16,.int .i64 0)],[(0,.rc [.ptr 1 1,.ptr 1 2,.ptr 1 3]),(1,.rc (s7 k 0 0 0 50))],[50,51,52]⟩=some (.r,⟨[(4,.bool false)],[(0,.rc [.ptr 1 1,.ptr 1 2,.ptr 1 3]),(1,.rc (s7 k I 0 0 50))],[50,51,52]⟩):=by rw[<-e1];unfold s7;rw[aj];simp only[go_sem,Q0,Q1,Q2,Q3,Q4,Q5,Q6,Q7,Q8,Q9,Qa,Qb,Qc,Qd,Qe,Qf,Qg,Qh,Qi,Qj,Qk,reduceCtorEq,reduceIte,g1,gl,i0,J,i2,i3,kw1,kw0,kw2,H,E,k12,F]
   unfold s7 at*;rw[am uB];change o5 F92 _ (oZ _ F92 [.lst 1 (bp [.str w1] (bp [.str h] (bp [.str C] ll))) .no,_] _ _)=_;simp only[go_sem,Q0,Q1,Q2,Q3,Q4,Q5,Q6,Q7,Q8,Q9,Qa,Qb,Qc,Qd,Qe,Qf,Qg,Qh,Qi,Qj,Qk,reduceCtorEq,reduceIte,e0,i3]
  rcases rK C (hw C (by simp))with⟨v3,W,g3⟩|⟨v3,W,g3⟩
  rotate_left
  ·refine⟨false,I,v2,0, ?_,fun a b c x y z e Z O L=> ?_⟩
   rotate_left
   ·cases e;rw[W]at L;cases L
   have e2:run T (.loop fD) ⟨[(1,.psl 0 1 0 3 (some 3)),(14,.lst 1 (bp [.str w1] (bp [.str h] (bp [.str C] ll))) .no),(15,.int .i64 3),(16,.int .i64 2)],[(0,.rc [.ptr 1 1,.ptr 1 2,.ptr 1 3]),(1,.rc (s7 k I v2 0 50))],[50,51,52]⟩=some (.r,⟨[(4,.bool false)],[(0,.rc [.ptr 1 1,.ptr 1 2,.ptr 1 3]),(1,.rc (s7 k I v2 0 50))],[50,51,52]⟩):=by unfold s7;rw[aj];simp only[go_sem,Q0,Q1,Q2,Q3,Q4,Q5,Q6,Q7,Q8,Q9,Qa,Qb,Qc,Qd,Qe,Qf,Qg,Qh,Qi,Qj,Qk,reduceCtorEq,reduceIte,g3,gl,i0,J,i2,i3,kw1,kw0,kw2,H,E,k12,F]
   have e1:run T (.loop fD) ⟨[(1,.psl 0 1 0 3 (some 3)),(14,.lst 1 (bp [.str w1] (bp [.str h] (bp [.str C] ll))) .no),(15,.int .i64 3),(16,.int .i64 1)],[(0,.rc [.ptr 1 1,.ptr 1 2,.ptr 1 3]),(1,.rc (s7 k I 0 0 50))],[50,51,52]⟩=some (.r,⟨[(4,.bool false)],[(0,.rc [.ptr 1 1,.ptr 1 2,.ptr 1 3]),(1,.rc (s7 k I v2 0 50))],[50,51,52]⟩):=by rw[<-e2];unfold s7;rw[aj];simp only[go_sem,Q0,Q1,Q2,Q3,Q4,Q5,Q6,Q7,Q8,Q9,Qa,Qb,Qc,Qd,Qe,Qf,Qg,Qh,Qi,Qj,Qk,reduceCtorEq,reduceIte,g2,gl,i0,J,i2,i3,kw1,kw0,kw2,H,E,k12,F]
   have e0:run T (.loop fD) ⟨[(1,.psl 0 1 0 3 (some 3)),(14,.lst 1 (bp [.str w1] (bp [.str h] (bp [.str C] ll))) .no),(15,.int .i64 3),(16,.int .i64 0)],[(0,.rc [.ptr 1 1,.ptr 1 2,.ptr 1 3]),(1,.rc (s7 k 0 0 0 50))],[50,51,52]⟩=some (.r,⟨[(4,.bool false)],[(0,.rc [.ptr 1 1,.ptr 1 2,.ptr 1 3]),(1,.rc (s7 k I v2 0 50))],[50,51,52]⟩):=by rw[<-e1];unfold s7;rw[aj];simp only[go_sem,Q0,Q1,Q2,Q3,Q4,Q5,Q6,Q7,Q8,Q9,Qa,Qb,Qc,Qd,Qe,Qf,Qg,Qh,Qi,Qj,Qk,reduceCtorEq,reduceIte,g1,gl,i0,J,i2,i3,kw1,kw0,kw2,H,E,k12,F]
   unfold s7 at*;rw[am uB];change o5 F92 _ (oZ _ F92 [.lst 1 (bp [.str w1] (bp [.str h] (bp [.str C] ll))) .no,_] _ _)=_;simp only[go_sem,Q0,Q1,Q2,Q3,Q4,Q5,Q6,Q7,Q8,Q9,Qa,Qb,Qc,Qd,Qe,Qf,Qg,Qh,Qi,Qj,Qk,reduceCtorEq,reduceIte,e0,i3]
  refine⟨true,I,v2,v3, ?_,fun a b c x y z e Z O L=> ?_⟩
  rotate_left
  ·cases e;rw[a1]at Z;rw[Q]at O;rw[W]at L;cases Z;cases O;cases L;exact⟨rfl,rfl,rfl,rfl⟩
  have e3:run T (.loop fD) ⟨[(1,.psl 0 1 0 3 (some 3)),(14,.lst 1 (bp [.str w1] (bp [.str h] (bp [.str C] ll))) .no),(15,.int .i64 3),(16,.int .i64 3)],[(0,.rc [.ptr 1 1,.ptr 1 2,.ptr 1 3]),(1,.rc (s7 k I v2 v3 50))],[50,51,52]⟩=some (.x 0,⟨[],[(0,.rc [.ptr 1 1,.ptr 1 2,.ptr 1 3]),(1,.rc (s7 k I v2 v3 50))],[50,51,52]⟩):=by unfold s7;rw[aj];simp only[go_sem,Q0,Q1,Q2,Q3,Q4,Q5,Q6,Q7,Q8,Q9,Qa,Qb,Qc,Qd,Qe,Qf,Qg,Qh,Qi,Qj,Qk,reduceCtorEq,reduceIte,gl,i0,J,i2,i3,kw1,kw0,kw2,H,E,k12,F]
  have e2:run T (.loop fD) ⟨[(1,.psl 0 1 0 3 (some 3)),(14,.lst 1 (bp [.str w1] (bp [.str h] (bp [.str C] ll))) .no),(15,.int .i64 3),(16,.int .i64 2)],[(0,.rc [.ptr 1 1,.ptr 1 2,.ptr 1 3]),(1,.rc (s7 k I v2 0 50))],[50,51,52]⟩=some (.x 0,⟨[],[(0,.rc [.ptr 1 1,.ptr 1 2,.ptr 1 3]),(1,.rc (s7 k I v2 v3 50))],[50,51,52]⟩):=by rw[<-e3];unfold s7;rw[aj];simp only[go_sem,Q0,Q1,Q2,Q3,Q4,Q5,Q6,Q7,Q8,Q9,Qa,Qb,Qc,Qd,Qe,Qf,Qg,Qh,Qi,Qj,Qk,reduceCtorEq,reduceIte,g3,gl,i0,J,i2,i3,kw1,kw0,kw2,H,E,k12,F]
  have e1:run T (.loop fD) ⟨[(1,.psl 0 1 0 3 (some 3)),(14,.lst 1 (bp [.str w1] (bp [.str h] (bp [.str C] ll))) .no),(15,.int .i64 3),(16,.int .i64 1)],[(0,.rc [.ptr 1 1,.ptr 1 2,.ptr 1 3]),(1,.rc (s7 k I 0 0 50))],[50,51,52]⟩=some (.x 0,⟨[],[(0,.rc [.ptr 1 1,.ptr 1 2,.ptr 1 3]),(1,.rc (s7 k I v2 v3 50))],[50,51,52]⟩):=by rw[<-e2];unfold s7;rw[aj];simp only[go_sem,Q0,Q1,Q2,Q3,Q4,Q5,Q6,Q7,Q8,Q9,Qa,Qb,Qc,Qd,Qe,Qf,Qg,Qh,Qi,Qj,Qk,reduceCtorEq,reduceIte,g2,gl,i0,J,i2,i3,kw1,kw0,kw2,H,E,k12,F]
  have e0:run T (.loop fD) ⟨[(1,.psl 0 1 0 3 (some 3)),(14,.lst 1 (bp [.str w1] (bp [.str h] (bp [.str C] ll))) .no),(15,.int .i64 3),(16,.int .i64 0)],[(0,.rc [.ptr 1 1,.ptr 1 2,.ptr 1 3]),(1,.rc (s7 k 0 0 0 50))],[50,51,52]⟩=some (.x 0,⟨[],[(0,.rc [.ptr 1 1,.ptr 1 2,.ptr 1 3]),(1,.rc (s7 k I v2 v3 50))],[50,51,52]⟩):=by rw[<-e1];unfold s7;rw[aj];simp only[go_sem,Q0,Q1,Q2,Q3,Q4,Q5,Q6,Q7,Q8,Q9,Qa,Qb,Qc,Qd,Qe,Qf,Qg,Qh,Qi,Qj,Qk,reduceCtorEq,reduceIte,g1,gl,i0,J,i2,i3,kw1,kw0,kw2,H,E,k12,F]
  unfold s7 at*;rw[am uB];change o5 F92 _ (oZ _ F92 [.lst 1 (bp [.str w1] (bp [.str h] (bp [.str C] ll))) .no,_] _ _)=_;simp only[go_sem,Q0,Q1,Q2,Q3,Q4,Q5,Q6,Q7,Q8,Q9,Qa,Qb,Qc,Qd,Qe,Qf,Qg,Qh,Qi,Qj,Qk,reduceCtorEq,reduceIte,e0,i3]
 ·refine⟨false,0,0,0, ?_,fun w1 h C x y z e _ _ _=>absurd (by rw[e];rfl) h1⟩
  have a6:¬(ws.length:Int)=3:=by omega
  have J:((3:Nat):Int)=3:=rfl;unfold s7;rw[am uB];simp only[go_sem,Q0,Q1,Q2,Q3,Q4,Q5,Q6,Q7,Q8,Q9,Qa,Qb,Qc,Qd,Qe,Qf,Qg,Qh,Qi,Qj,Qk,reduceCtorEq,reduceIte,hv,h1,a6,J]
end
section
open Pr (wsv)
theorem Av:∀(s l:d9),rf s=some l->l.length<=s.length
 |[],l,h=>by cases h;simp
 |[_],l,h=>by cases h
 |a::b::r,l,h=>by
  rw[rf]at h;split at h
  ·cases h
  ·split at h
   ·rename_i z y
    cases h;have:=Av r z y;simp only[ah];omega
   ·cases h
theorem PY(s l:d9)(h:nu s=some l):l.length<=s.length:=by
 unfold nu at h;split at h
 ·cases h;simp
 ·exact Av s l h
def inX(ws:List d9):Int×List Img×Bool:=match ws with
 |[a,b]=>match atO a,nu b with
  |some v,some B=>(v,(dcC B).1,decide ((dcC B).2=0))
  |_,_=>(0,[],false)
 |_=>(0,[],false)
theorem f94(ws:List d9)(H:∀w∈ws,w.length<=1000000000):call T 94 [.lst 1 (wsv ws) .no] [] 0=some ⟨.tup [.agg [.int .i64 9,.int .i64 (inX ws).1,.int .i64 0,.int .i64 0,.byt [] .no,.lst 2 [] .no,.lst 4 (cZ (inX ws).2.1) .no],.bool (inX ws).2.2],[],[]⟩:=by
 have hv:=cH ws
 by_cases L:ws.length=2
 ·obtain⟨w1,y,rfl⟩:∃w1 y,ws=[w1,y]:=by
   match ws,L with
   |[a,b],_=>exact⟨a,b,rfl⟩
  have i0:(0:Int)<((2:Nat):Int):=by decide
  have E:(1:Int)<((2:Nat):Int):=by decide
  have i2:((2:Nat):Int)=2:=rfl;have z:=xeG y (H y (by simp));have O:wsv [w1,y]=[[.str w1],[.str y]]:=rfl;rw[O]
  have C:atO w1=none\/nu y=none->inX [w1,y]=(0,[],false):=by
   intro h;rcases h with h|h
   ·simp only[inX,h]
   ·simp only[inX,h]
    cases atO w1<;>rfl
  rcases rK w1 (H w1 (by simp))with⟨v,I,g1⟩|⟨v,I,g1⟩
  ·cases hU:nu y with
   |none=>rw[hU]at z;rw[C (.inr hU),am Ze];simp only[fB,eh]at z;simp only[go_sem,Q0,Q1,Q2,Q3,Q4,Q5,Q6,Q7,Q8,Q9,Qa,Qb,Qc,Qd,Qe,Qf,Qg,Qh,Qi,Qj,Qk,reduceCtorEq,reduceIte,g1,gl,z,mj,i0,E,i2];rfl
   |some B=>
    rw[hU]at z;have g3:=xm9 B (gf (PY y B hU) (H y (by simp)));have J:inX [w1,y]=(v,(dcC B).1,decide ((dcC B).2=0)):=by simp only[inX,I,hU]
    rw[J,am Ze];simp only[aO,eT]at z;generalize dcC B=D at*;obtain⟨c,e⟩:=D;simp only at g3 ⊢;simp only[go_sem,Q0,Q1,Q2,Q3,Q4,Q5,Q6,Q7,Q8,Q9,Qa,Qb,Qc,Qd,Qe,Qf,Qg,Qh,Qi,Qj,Qk,reduceCtorEq,reduceIte,g1,gl,z,mj,g3,xiK,i0,E,i2]
  ·rw[C (.inl I),am Ze]
   cases hU:nu y with
   |none=>rw[hU]at z;simp only[fB,eh]at z;simp only[go_sem,Q0,Q1,Q2,Q3,Q4,Q5,Q6,Q7,Q8,Q9,Qa,Qb,Qc,Qd,Qe,Qf,Qg,Qh,Qi,Qj,Qk,reduceCtorEq,reduceIte,g1,gl,z,mj,i0,E,i2];rfl
   |some B=>rw[hU]at z;simp only[aO,eT]at z;simp only[go_sem,Q0,Q1,Q2,Q3,Q4,Q5,Q6,Q7,Q8,Q9,Qa,Qb,Qc,Qd,Qe,Qf,Qg,Qh,Qi,Qj,Qk,reduceCtorEq,reduceIte,g1,gl,z,mj,i0,E,i2];rfl
 ·have J:inX ws=(0,[],false):=by
   unfold inX;split
   ·exact absurd rfl L
   ·rfl
  have F:¬(ws.length:Int)=2:=by omega
  rw[J,am Ze];simp only[go_sem,Q0,Q1,Q2,Q3,Q4,Q5,Q6,Q7,Q8,Q9,Qa,Qb,Qc,Qd,Qe,Qf,Qg,Qh,Qi,Qj,Qk,reduceCtorEq,reduceIte,hv,L,F];rfl
def dmX:List d9->List Mk->List Mk×Bool
 |a::b::r,acc=>match atO a,nu b with
  |some v,some B=>dmX r (acc++ [⟨v,B⟩])
  |_,_=>(acc,false)
 |_,acc=>(acc,true)
theorem ta(ws:List d9)(i:Nat)(h:i<ws.length):(wsv ws).getD i []=[.str (ws.getD i [])]:=by unfold wsv;rw[aa,aN,ab h,aa,ab h];rfl
theorem yp(ws:List d9)(i:Nat)(h:i<ws.length):ws.getD i []∈ws:=by rw[aa,ab h];exact aU h
theorem GE(ws:List d9)(i:Nat)(h:i+1<ws.length):ws.drop i=ws.getD i []::ws.getD (i+1) []::ws.drop (i+2):=by rw[aF (by omega),aF h,aa,ab (by omega),aa,ab h];rfl
theorem l93(ws:List d9)(hw:∀w∈ws,w.length<=1000000000)(hl:ws.length<=1000000)(B:d9):∀(n i:Nat)(acc:List Mk)(t:Tok)(tk:t7),i+2*n=ws.length->acc.length+n<=2000000->
 ((t= .clip/\tk=[])\/(t= .id 163/\tk=[163]))-> 
 ∃(J:Tok)(tk':t7),((J= .clip/\tk'=[])\/(J= .id 163/\tk'=[163]))/\
 run T (.loop yA) ⟨[(0,.lst 1 (wsv ws) .no),(2,.ptr 102 0),(4,.ptr 104 0),(6,.int .i64 i)],[(102,.rc [.byt [] .clip,.lst 2 [] .clip]),(104,.rc [.byt B .no,.lst 2 (dZ acc) t])],tk⟩=
  if(dmX (ws.drop i) acc).2=true then some (.x 0,⟨[(2,.ptr 102 0),(4,.ptr 104 0)],[(102,.rc [.byt [] .clip,.lst 2 [] .clip]),(104,.rc [.byt B .no,.lst 2 (dZ (dmX (ws.drop i) acc).1) J])],tk'⟩)
  else some (.r,⟨[(2,.ptr 102 0),(3,.bool false)],[(102,.rc [.byt B .no,.lst 2 (dZ (dmX (ws.drop i) acc).1) J]),(104,.rc [.byt B .no,.lst 2 (dZ (dmX (ws.drop i) acc).1) J])],tk'⟩):=by
 intro n;induction n with
 |zero=>
  intro i acc t tk h0 h1 H;have hv:=cH ws;have:i=ws.length:=by omega
  subst this;refine⟨t,tk,H, ?_⟩;rw[aj,bB]
  rcases H with⟨rfl,rfl⟩|⟨rfl,rfl⟩<;>
   simp only[go_sem,Q0,Q1,Q2,Q3,Q4,Q5,Q6,Q7,Q8,Q9,Qa,Qb,Qc,Qd,Qe,Qf,Qg,Qh,Qi,Qj,Qk,reduceCtorEq,reduceIte,hv,dmX]
 |succ n ih=>
  intro i acc t tk h0 h1 H;have hv:=cH ws;have hi:i<ws.length:=by omega
  have y:i+1<ws.length:=by omega
  have E:(i:Int)<(ws.length:Int):=by omega
  have z:((i+1:Nat):Int)<(ws.length:Int):=by omega
  have O:=cX i (by omega);have e2:ai.wrap ((i:Int)+2)=((i+2:Nat):Int):=wZ (by omega)
  have L:=ta ws i hi;have F:=ta ws (i+1) y;have W:(acc.length+1)*32<=140737488355328:=by omega
  have Q:=cS acc;have C:=xeG (ws.getD (i+1) []) (hw _ (yp ws (i+1) y))
  have I:atO (ws.getD i [])=none\/nu (ws.getD (i+1) [])=none->dmX (ws.drop i) acc=(acc,false):=by
   intro h;rw[GE ws i y];rcases h with h|h
   ·simp only[dmX,h]
   ·simp only[dmX,h]
    cases atO (ws.getD i [])<;>rfl
  rcases rK (ws.getD i []) (hw _ (yp ws i hi))with⟨v,hA,g1⟩|⟨v,hA,g1⟩
  ·cases hU:nu (ws.getD (i+1) [])with
   |none=>
    rw[hU]at C;simp only[fB,eh]at C;refine⟨t,tk,H, ?_⟩;rw[I (.inr hU),aj]
    rcases H with⟨rfl,rfl⟩|⟨rfl,rfl⟩<;>
     simp only[go_sem,Q0,Q1,Q2,Q3,Q4,Q5,Q6,Q7,Q8,Q9,Qa,Qb,Qc,Qd,Qe,Qf,Qg,Qh,Qi,Qj,Qk,reduceCtorEq,reduceIte,hv,hi,y,E,z,O,L,F,g1,gl,C,mj,Q,W]
   |some Z=>
    rw[hU]at C;simp only[aO,eT]at C;obtain⟨J,tk',a6,a1⟩:=ih (i+2) (acc++ [⟨v,Z⟩]) (.id 163) [163] (by omega) (by simp only[ac,aD];omega) (.inr ⟨rfl,rfl⟩);refine⟨J,tk',a6, ?_⟩
    have hd:dmX (ws.drop i) acc=dmX (ws.drop (i+2)) (acc++ [⟨v,Z⟩]):=by rw[GE ws i y];simp only[dmX,hA,hU]
    rw[hd,<-a1,nY,aj];simp only[Mk.sv]
    rcases H with⟨rfl,rfl⟩|⟨rfl,rfl⟩<;>
     simp only[go_sem,Q0,Q1,Q2,Q3,Q4,Q5,Q6,Q7,Q8,Q9,Qa,Qb,Qc,Qd,Qe,Qf,Qg,Qh,Qi,Qj,Qk,reduceCtorEq,reduceIte,hv,hi,y,E,z,O,e2,L,F,g1,gl,C,mj,Q,W]
  ·refine⟨t,tk,H, ?_⟩
   rw[I (.inl hA),aj];cases hU:nu (ws.getD (i+1) [])with
   |none=>
    rw[hU]at C;simp only[fB,eh]at C
    rcases H with⟨rfl,rfl⟩|⟨rfl,rfl⟩<;>
     simp only[go_sem,Q0,Q1,Q2,Q3,Q4,Q5,Q6,Q7,Q8,Q9,Qa,Qb,Qc,Qd,Qe,Qf,Qg,Qh,Qi,Qj,Qk,reduceCtorEq,reduceIte,hv,hi,y,E,z,O,L,F,g1,gl,C,mj,Q,W]
   |some Z=>
    rw[hU]at C;simp only[aO,eT]at C
    rcases H with⟨rfl,rfl⟩|⟨rfl,rfl⟩<;>
     simp only[go_sem,Q0,Q1,Q2,Q3,Q4,Q5,Q6,Q7,Q8,Q9,Qa,Qb,Qc,Qd,Qe,Qf,Qg,Qh,Qi,Qj,Qk,reduceCtorEq,reduceIte,hv,hi,y,E,z,O,L,F,g1,gl,C,mj,Q,W]
def doX(ws:List d9):d9×List Mk×Bool:=
 if ws.length % 2=0 then([],[],false)else match nu (ws.getD 0 [])with
  |none=>([],[],false)
  |some B=>(B,(dmX (ws.drop 1) []).1,(dmX (ws.drop 1) []).2)
theorem f93(ws:List d9)(J:∀w∈ws,w.length<=1000000000)(L:ws.length<=1000000):call T 93 [.lst 1 (wsv ws) .no] [] 0=some ⟨.tup [.agg [.byt (doX ws).1 .no,.lst 2 (dZ (doX ws).2.1) .no],.bool (doX ws).2.2],[],[]⟩:=by
 have hv:=cH ws;have F:Int.tmod (ws.length:Int) 2=((ws.length % 2:Nat):Int):=by rw[fv (by omega)];omega
 have w1:ai.wrap ((ws.length % 2:Nat):Int)=((ws.length % 2:Nat):Int):=by rw[w64 (by omega) (by omega)]
 rw[am xnA]
 by_cases I:ws.length % 2=0
 ·have m3:((ws.length % 2:Nat):Int)=0:=by omega
  have E:doX ws=([],[],false):=if_pos I;rw[E];simp only[go_sem,Q0,Q1,Q2,Q3,Q4,Q5,Q6,Q7,Q8,Q9,Qa,Qb,Qc,Qd,Qe,Qf,Qg,Qh,Qi,Qj,Qk,reduceCtorEq,reduceIte,hv,F,w1,m3];rfl
 ·have m3:¬((ws.length % 2:Nat):Int)=0:=by omega
  have z:0<ws.length:=by omega
  have y:(0:Int)<(ws.length:Int):=by omega
  have H:=ta ws 0 z;have h:=xeG (ws.getD 0 []) (J _ (yp ws 0 z));cases hU:nu (ws.getD 0 [])with
  |none=>
   rw[hU]at h;simp only[fB,eh]at h;have E:doX ws=([],[],false):=by unfold doX;rw[if_neg I,hU]
   rw[E];simp only[go_sem,Q0,Q1,Q2,Q3,Q4,Q5,Q6,Q7,Q8,Q9,Qa,Qb,Qc,Qd,Qe,Qf,Qg,Qh,Qi,Qj,Qk,reduceCtorEq,reduceIte,hv,F,w1,m3,z,y,H,h,mj];rfl
  |some B=>
   rw[hU]at h;simp only[aO,eT]at h;have E:doX ws=(B,(dmX (ws.drop 1) []).1,(dmX (ws.drop 1) []).2):=by unfold doX;rw[if_neg I,hU]
   rw[E];obtain⟨O,tk',C,g⟩:=l93 ws J L B (ws.length/2) 1 [] .clip [] (by omega) (by simp only[au];omega) (.inl ⟨rfl,rfl⟩);rw[show((1:Nat):Int)=1 from rfl,show(dZ []:d8)=[]from rfl]at g;generalize dmX (ws.drop 1) []=Q at*;obtain⟨M,b⟩:=Q;cases b with
   |false=>
    simp only[az,if_false]at g ⊢
    rcases C with⟨rfl,rfl⟩|⟨rfl,rfl⟩<;>
     simp only[go_sem,Q0,Q1,Q2,Q3,Q4,Q5,Q6,Q7,Q8,Q9,Qa,Qb,Qc,Qd,Qe,Qf,Qg,Qh,Qi,Qj,Qk,reduceCtorEq,reduceIte,hv,F,w1,m3,z,y,H,h,mj,g]
   |true=>
    simp only[if_true]at g ⊢
    rcases C with⟨rfl,rfl⟩|⟨rfl,rfl⟩<;>
     simp only[go_sem,Q0,Q1,Q2,Q3,Q4,Q5,Q6,Q7,Q8,Q9,Qa,Qb,Qc,Qd,Qe,Qf,Qg,Qh,Qi,Qj,Qk,reduceCtorEq,reduceIte,hv,F,w1,m3,z,y,H,h,mj,g]
end
section
open Pr (wsv)
def H91:Prop:=∀s:d9,s.length<=1000000000->call T 91 [.str s,.str [32]] [] 0=some ⟨.lst 1 (wsv (dY s)) .no,[],[]⟩
def np(ws:List d9)(x:Stp)(ok:Bool):Prop:=∀y:Stp,Wrt okC y->ws=wds bK y->ok=true/\x=y
theorem xg7{h:d9}{x:Stp}{ok:Bool}(J:np (dY h) x ok):
 (rd okC bK h=if(ok&&(wrB x&&decide (eV x=h++ [10])))=true then some x else none):=by
 cases hb:(ok&&(wrB x&&decide (eV x=h++ [10])))with
 |true=>rw[if_pos rfl];simp only[aw,decide_eq_true_iff]at hb;obtain⟨E,C⟩:=Ch hb.2.2;have:=Om hdD E;rwa[C]at this
 |false=>
  rw[if_neg (by simp)];apply AJ;intro y z F;have I:dY h=wds bK y:=by rw[<-F,yw]
  obtain⟨E,C⟩:=J y z I
  have H:eV y=h++ [10]:=by unfold eV;rw[if_pos ((bM y).2 z),F]
  rw[E,C,(bM y).2 z,H]at hb;simp at hb
theorem t40(y:d9)(z:y.length<=900000)(x:Stp)(ok:Bool):(wrB x=true->call T 35 [.agg x.sv] [] 0=some ⟨.str (ln bK x),[],[]⟩):=fun h=>f35 ((bM x).1 h)
theorem lR(y:d9)(x:Stp)(h:wrB x=true):decide (eV x=y++ [10])=decide (ln bK x=y):=by
 unfold eV;rw[if_pos h]
 by_cases e:ln bK x=y
 ·rw[decide_eq_true e,decide_eq_true (by rw[e])]
 ·rw[decide_eq_false e,decide_eq_false (fun q=>e (List.append_cancel_right q))]
end
end Go.Proofs.YtmhhnklkcmpdkaaGreatDoor
