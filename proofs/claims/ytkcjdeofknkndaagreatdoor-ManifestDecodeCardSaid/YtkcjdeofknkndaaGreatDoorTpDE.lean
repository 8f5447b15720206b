/- Contracts. No condition. -/
import Derived.Test.YtkcjdeofknkndaaGreatDoorTkDE
import Derived.Test.YtkcjdeofknkndaaGreatDoorTlDE
import Derived.Test.YtkcjdeofknkndaaGreatDoorTnDE
open Int renaming fdiv_eq_ediv_of_nonneg -> qP, natCast_zero -> aB
open Go.IntKind renaming i64 -> af
open List renaming drop_zero -> aV, getD_eq_getElem?_getD -> aa, length_map -> aS, length_nil -> aY, length_pos_iff -> mi, length_set -> cB, length_take -> aw, take -> dd, take_length -> bi
set_option maxRecDepth 100000
set_option maxHeartbeats 16000000
set_option linter.unusedSimpArgs false
set_option linter.unusedVariables false
namespace Go.Proofs.YtkcjdeofknkndaaGreatDoor
open Go.Sy
open UInt8 renaming reduceLT -> Q0, reduceLE -> Q1
open Int renaming reduceToNat -> Q2, reduceLE -> Q3, reduceLT -> Q4, reduceEq -> Q5, reduceNe -> Q6, reduceNeg -> Q7, reduceAdd -> Q8, reduceSub -> Q9, reduceMul -> Qa
open Nat renaming reducePow -> Qb, reduceDiv -> Qc, reduceMod -> Qd, reduceAdd -> Qe, reduceSub -> Qf, reduceMul -> Qg, reduceLT -> Qh, reduceLeDiff -> Qi, reduceEqDiff -> Qj, reduceBEq -> Qk
theorem SS(B:t7):dV (kv B):=by
 unfold kv;rw[<-CB]
 by_cases h:okQ B
 ·rw[if_pos h];exact Cr B
 ·rw[if_neg h]
  exact⟨by show([]:t7).length<=_;simp,by show([]:List Ent).length<=_;simp,by show([]:List Rul).length<=_;simp,fun x y=>(by cases y),fun x y=>(by cases y)⟩
theorem Gs{B:t7}(h:sZ B=0):fX (kv B)=B:=by
 unfold sZ at h;unfold kv;cases hd:nT B with
 |some m=>exact SA hd
 |none=>rw[hd]at h;exact absurd h (by decide)
structure One(B:List UInt8):Prop where
 d1:call T 17 [.byt B .no] [] 0=some ⟨.tup [.agg (kv B).sv,.int .i64 (sZ B)],[],[]⟩
 d2:call T 24 [.byt B .no] [] 0=some ⟨.tup [.agg (kv B).sv,.int .i64 (sZ B)],[],[]⟩
 sm:call T 18 [.agg (kv B).sv,.agg (kv B).sv] [] 0=some ⟨.bool true,[],[]⟩
 en:call T 16 [.agg (kv B).sv] [] 0=some ⟨.byt (fX (kv B)) .no,[],[]⟩
 sb:sZ B=0->call T 19 [.byt (fX (kv B)) .no,.byt B .no] [] 0=some ⟨.bool true,[],[]⟩
theorem xdI{B:t7}(z:B.length<=1000000000):One B:=by
 have y:=SS B;refine⟨f17 B z,f24 B z, ?_,f16 _ y,fun h=> ?_⟩
 ·have:=f18 (kv B) (kv B) y
  rwa[PO rfl]at this
 ·have:=f19 (fX (kv B)) B (by have:=md _ y;omega)
  rwa[decide_eq_true (Gs h)]at this
theorem FU(n m:Int)(h:1<=m):0<=Cp n m/\Cp n m<m:=by
 unfold Cp;rw[if_neg (by omega)];have z:=Int.tmod_lt_of_pos n (show(0:Int)<m by omega)
 have y: -m<n.tmod m:=by have:=Int.lt_tmod_of_pos n (show(0:Int)<m by omega);exact this
 split<;>constructor<;>omega
theorem uX(n:Int)(m:Nat)(h:0<m):∃k:Nat,Cp n m=k/\k<m:=by obtain⟨z,y⟩:=FU n m (by omega);exact⟨(Cp n m).toNat,by omega,by omega⟩
theorem xaQ:Tv.sg 10= {}:=xo0
theorem xaP:Tv.sg 12= {}:=xoZ
theorem xaO:Tv.sg 15= {}:=xoY
theorem xjI:Tv.sg 16= {}:=xaU
theorem xaN:Tv.sg 17= {}:=xlM
theorem xaM:Tv.sg 18= {}:=xlL
theorem xjH:Tv.sg 19= {}:=xaT
theorem xaL:Tv.sg 20= {}:=xoX
theorem xaK:Tv.sg 23= {}:=xoV
theorem xaJ:Tv.sg 24= {}:=xoU
theorem xfH(L:List t7)(i:Nat)(h:i<L.length):(bls L).getD i []=[.byt (L.getD i []) .no]:=by simp[bls,aa,h]
theorem l5b(L:List t7)(hn:L.length<=1000)(hL:∀i,i<L.length->One (L.getD i [])):∀(n i:Nat),L.length-i=n->i<=L.length->
 run Tv (.loop xS) ⟨[(70,.lst 1 (bls L) .clip),(71,.int .i64 (L.length:Nat)),(72,.int .i64 i)],[],[]⟩=some (.x 2,⟨[],[],[]⟩):=by
 intro n;induction n with
 |zero=>
  intro i Q O;have:i=L.length:=by omega
  subst this;rw[ai];simp only[go_sem,Q0,Q1,Q2,Q3,Q4,Q5,Q6,Q7,Q8,Q9,Qa,Qb,Qc,Qd,Qe,Qf,Qg,Qh,Qi,Qj,Qk,reduceCtorEq,reduceIte]
 |succ n T=>
  intro i Q O;have hi:i<L.length:=by omega
  have y:(i:Int)<(L.length:Int):=by omega
  have F:=bW i (by omega);have z:=T (i+1) (by omega) (by omega);have I:=lm L;have J:=xfH L i hi;obtain⟨d1,d2,sm,en,sb⟩:=hL i hi;have d1:=upv d1;have d2:=upv d2;have sm:=upv sm;have en:=upv en;have sb:=fun h=>upv (sb h)
  generalize L.getD i []=B at*;generalize fX (kv B)=E at*;generalize sZ B=e at*;generalize kv B=m at*;obtain⟨v,U,Z,W,a4,es,rs⟩:=m;simp only[Man.sv]at*;rw[ai]
  by_cases H:e=0
  ·subst H
   have C:=sb rfl;simp only[go_sem,Q0,Q1,Q2,Q3,Q4,Q5,Q6,Q7,Q8,Q9,Qa,Qb,Qc,Qd,Qe,Qf,Qg,Qh,Qi,Qj,Qk,reduceCtorEq,reduceIte,hi,y,F,I,J,d1,d2,sm,en,C,xaN,xaJ,xaM,xjI,xjH,z]
  ·simp only[go_sem,Q0,Q1,Q2,Q3,Q4,Q5,Q6,Q7,Q8,Q9,Qa,Qb,Qc,Qd,Qe,Qf,Qg,Qh,Qi,Qj,Qk,reduceCtorEq,reduceIte,hi,y,F,I,J,d1,d2,sm,H,xaN,xaJ,xaM,z]
def iv(l:List Int):f8:=l.map fun z=> [SV.int .i64 z]
theorem OK(l:List Int):(iv l).length=l.length:=aS ..
theorem xe1(l:List Int)(i:Nat)(h:i<l.length):(iv l).getD i []=[.int .i64 (l.getD i 0)]:=by simp[iv,aa,h]
theorem l5a(raw:t7)(h:List Int)(hz:∀z∈h, -9223372036854775808<=z/\z<=9223372036854775807)(H:t7)(I:Int):∀(n i:Nat)(B:t7),2-i=n->i<=2->¬B=[]->B.length<=1000000000->
 ∃J:t7,J.length=B.length/\run Tv (.loop Vs) ⟨[(0,.byt raw .no),(3,.lst 1 (iv h) .no),(4,.byt H .no),(5,.int .i64 I),(13,.psl 27100 1 0 B.length none),(14,.int .i64 i)],[(27100,.bar B)],[]⟩=
  some (.x 0,⟨[(0,.byt raw .no),(5,.int .i64 I),(13,.psl 27100 1 0 B.length none)],[(27100,.bar J)],[]⟩):=by
 intro n;induction n with
 |zero=>
  intro i B Z W L O;have:i=2:=by omega
  subst this;have E:=OK h;have k2:((2:Nat):Int)=2:=rfl;refine⟨B,rfl, ?_⟩;rw[ai]
  by_cases c1:(2:Int)<h.length
  ·by_cases c2:(2:Int)<H.length
   ·simp only[go_sem,Q0,Q1,Q2,Q3,Q4,Q5,Q6,Q7,Q8,Q9,Qa,Qb,Qc,Qd,Qe,Qf,Qg,Qh,Qi,Qj,Qk,reduceCtorEq,reduceIte,k2,E,c1,c2]
   ·simp only[go_sem,Q0,Q1,Q2,Q3,Q4,Q5,Q6,Q7,Q8,Q9,Qa,Qb,Qc,Qd,Qe,Qf,Qg,Qh,Qi,Qj,Qk,reduceCtorEq,reduceIte,k2,E,c1,c2]
  ·simp only[go_sem,Q0,Q1,Q2,Q3,Q4,Q5,Q6,Q7,Q8,Q9,Qa,Qb,Qc,Qd,Qe,Qf,Qg,Qh,Qi,Qj,Qk,reduceCtorEq,reduceIte,k2,E,c1]
 |succ n ih=>
  intro i B Z W L O;have E:=OK h;have F:(i:Int)<2:=by omega
  have U:=bW i (by omega)
  by_cases c1:i<h.length
  ·have y:(i:Int)<(h.length:Int):=by omega
   by_cases c2:i<H.length
   ·have C:(i:Int)<(H.length:Int):=by omega
    have hg:=xe1 h i c1;obtain⟨b0,b1⟩:=hz _ (cf h 0 i c1);have hB:0<B.length:=mi.2 L;have g:=upv (f15 (h.getD i 0) (B.length:Int) b0 b1 (by omega));obtain⟨k,ek,hk⟩:=uX (h.getD i 0) B.length hB;rw[ek]at g;obtain⟨J,Q,T⟩:=ih (i+1) (B.set k (H.getD i 0)) (by omega) (by omega) (by intro e;have:=congrArg List.length e;rw[cB,aY]at this;omega) (by rw[cB];exact O);rw[cB]at Q T;refine⟨J,Q, ?_⟩;rw[ai];simp only[go_sem,Q0,Q1,Q2,Q3,Q4,Q5,Q6,Q7,Q8,Q9,Qa,Qb,Qc,Qd,Qe,Qf,Qg,Qh,Qi,Qj,Qk,reduceCtorEq,reduceIte,F,c1,y,c2,C,E,hg,g,xaO,hk,U,T]
   ·have C:¬(i:Int)<(H.length:Int):=by omega
    refine⟨B,rfl, ?_⟩;rw[ai];simp only[go_sem,Q0,Q1,Q2,Q3,Q4,Q5,Q6,Q7,Q8,Q9,Qa,Qb,Qc,Qd,Qe,Qf,Qg,Qh,Qi,Qj,Qk,reduceCtorEq,reduceIte,F,c1,y,c2,C,E]
  ·have y:¬(i:Int)<(h.length:Int):=by omega
   refine⟨B,rfl, ?_⟩;rw[ai];simp only[go_sem,Q0,Q1,Q2,Q3,Q4,Q5,Q6,Q7,Q8,Q9,Qa,Qb,Qc,Qd,Qe,Qf,Qg,Qh,Qi,Qj,Qk,reduceCtorEq,reduceIte,F,c1,y,E]
theorem f5k(raw F E ys:t7)(zs:List Int)(hz:∀z∈zs, -9223372036854775808<=z/\z<=9223372036854775807)(y:Int)(c0: -9223372036854775808<=y)(c1:y<=9223372036854775807)
 (v:t7) (a1 a2 a3 a4:Int) (es rs:f8) (B:t7) (W:¬B=[]) (a7:B.length<=100000000)
 (Q:call T 10 [] [] 0=some ⟨.bool true,[],[]⟩)
 (g:call T 12 [.byt F .no,.byt E .no] [] 0=some ⟨.agg [.str v,.int .i64 a1,.int .i64 a2,.int .i64 a3,.int .i64 a4,.lst 4 es .no,.lst 4 rs .no],[],[]⟩)
 (ge:call Tv 20 [.agg [.str v,.int .i64 a1,.int .i64 a2,.int .i64 a3,.int .i64 a4,.lst 4 es .no,.lst 4 rs .no]] [] 0=some ⟨.psl 100 1 0 B.length none,[(100,.bar B)],[]⟩)
 (gc:call T 23 [.byt raw .no,.int .i64 600] [] 0=some ⟨.byt (raw.take 600) .no,[],[]⟩)
 (H:∀B:t7,B.length<=1000000000->One B):
 call Tv 5 [.byt raw .no,.byt F .no,.byt E .no,.lst 1 (iv zs) .no,.byt ys .no,.int .i64 y] [] 0=some ⟨.bool true,[],[]⟩:=by
 have Q:=upv Q;have g:=upv g;have gc:=upv gc;obtain⟨O,q1,Z⟩:=l5a raw zs hz ys y 2 0 B rfl (by omega) W (by omega);rw[aB]at Z;have I:=H (raw.take 600) (by rw[aw];omega)
 have J:∀C:t7,C.length<=1000000000->run Tv (.loop xS) ⟨[(70,.lst 1 [[.byt (raw.take 600) .no],[.byt C .no]] .clip),(71,.int .i64 ((2:Nat):Int)),(72,.int .i64 0)],[],[]⟩=some (.x 2,⟨[],[],[]⟩):=fun C hC=>by
  have h:=l5b [raw.take 600,C] (by simp) (fun i hi=> ?_) 2 0 rfl (by simp)
  ·exact h
  ·match i,hi with
   |0,_=>exact I
   |1,_=>exact H C hC
   |i+2,hi=>exact absurd hi (by simp)
 have k2:((2:Nat):Int)=2:=rfl
 by_cases hb:bt BinOp.and af y 1=1
 ·have hf: -9223372036854775808<=y.fdiv (2^min 1 64)/\y.fdiv (2^min 1 64)<=9223372036854775807:=by
   have:y.fdiv (2^min 1 64)=y/2:=by rw[qP _ (by decide)];rfl
   rw[this];omega
  have e1:=bW B.length (by omega);generalize a6:y.fdiv (2^min 1 64)=z at*;have L:=upv (f15 z ((B.length+1:Nat):Int) hf.1 hf.2 (by omega));obtain⟨k,ek,hk⟩:=uX z (B.length+1) (by omega);rw[ek]at L;have a0:k<=B.length:=by omega
  have a5:(k:Int)<=(B.length:Int):=by omega
  have U:=J (O.take k) (by rw[aw];omega);rw[k2]at U;rw[an xlr];simp only[go_sem,Q0,Q1,Q2,Q3,Q4,Q5,Q6,Q7,Q8,Q9,Qa,Qb,Qc,Qd,Qe,Qf,Qg,Qh,Qi,Qj,Qk,reduceCtorEq,reduceIte,Q,xaQ,g,xaP,ge,xaL,Z,hb,a6,L,xaO,e1,a0,a5,gc,xaK,q1,aV,Nat.sub_zero,U]
 ·have U:=J O (by omega)
  rw[k2]at U
  have ht:dd B.length O=O:=by rw[<-q1,bi]
  rw[an xlr];simp only[go_sem,Q0,Q1,Q2,Q3,Q4,Q5,Q6,Q7,Q8,Q9,Qa,Qb,Qc,Qd,Qe,Qf,Qg,Qh,Qi,Qj,Qk,reduceCtorEq,reduceIte,Q,xaQ,g,xaP,ge,xaL,Z,hb,gc,xaK,q1,aV,ht,U]
theorem f5(raw h y:t7)(F:List Int)(hz:∀z∈F, -9223372036854775808<=z/\z<=9223372036854775807)(H:t7)(C:Int)(c0: -9223372036854775808<=C)(c1:C<=9223372036854775807):
 call Tv 5 [.byt raw .no,.byt h .no,.byt y .no,.lst 1 (F.map fun z=> [SV.int .i64 z]) .no,.byt H .no,.int .i64 C] [] 0=some ⟨.bool true,[],[]⟩:=by
 obtain⟨m,E,gm⟩:=f12 h y;have I:=xm3 m E.bd E.ok;have J:=md m E.bd;have gc:=f23 raw 600 (by omega);rw[show((600:Nat):Int)=600 from rfl]at gc;exact f5k raw h y H F hz C c0 c1 m.vendor m.ver m.flr m.frm m.til (bP m.ents) (dl m.ruls) (fX m) (Cy E.ok) J f10 gm I gc (fun B L=>xdI L)
end Go.Proofs.YtkcjdeofknkndaaGreatDoor
