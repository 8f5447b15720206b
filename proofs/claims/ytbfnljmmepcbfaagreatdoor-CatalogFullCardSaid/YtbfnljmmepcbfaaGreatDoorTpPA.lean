/- What the functions come to. No condition. -/
import Derived.Test.YtbfnljmmepcbfaaGreatDoorToPA
open Go.IntKind renaming i64 -> ah
open List renaming map_nil -> bX
open Nat renaming le_refl -> aK, zero_le -> bH
set_option maxRecDepth 100000
set_option maxHeartbeats 16000000
set_option linter.unusedSimpArgs false
set_option linter.unusedVariables false
namespace Go.Proofs.YtbfnljmmepcbfaaGreatDoor
open Go.Sy
open UInt8 renaming reduceLT -> Q0, reduceLE -> Q1
open Int renaming reduceToNat -> Q2, reduceLE -> Q3, reduceLT -> Q4, reduceEq -> Q5, reduceNe -> Q6, reduceNeg -> Q7, reduceAdd -> Q8, reduceSub -> Q9, reduceMul -> Qa
open Nat renaming reducePow -> Qb, reduceDiv -> Qc, reduceMod -> Qd, reduceAdd -> Qe, reduceSub -> Qf, reduceMul -> Qg, reduceLT -> Qh, reduceLeDiff -> Qi, reduceEqDiff -> Qj, reduceBEq -> Qk
theorem U_5:U.fn 5=some (.code F5):=GN.fn 5 _ T_5
theorem xay(c:CSt):run U nY c=run U D2 c:=rfl
attribute [go_sem] xay
theorem yR(i:Nat)(hi:i<=1000):(nuI i).body.length<=100000000:=pK (yS i hi)
def st5(n a:Nat)(c:Cat)(i:Nat):CSt:=⟨[(0,.int .i64 n),(1,.int .i64 a),(5,.ptr 105 0),(7,.int .i64 i)],[(105,.rc c.sv)],[]⟩
theorem s5a(n a:Nat)(hn:n<=18)(c:Cat)(i:Nat)(h:tu c i)(hi:i<n)(h16:i<16):run U (.loop nY) (st5 n a c i)=run U (.loop nY) (st5 n a (iS c i).1 (i+1)):=by
 have e1:=cZ i (by omega);have g1:=up (f22 i (by omega));have g2:=f19 c h.s.ok (nuI i).body (fS 1 (nuI i).body) (yR i (by omega));obtain⟨q1,q2, -⟩:=sJ h h16 i (aK _) (by omega);change call U 19 _ _ _=some ⟨gp (iS c i),[],[]⟩at g2;clear h;generalize iS c i=Q at*;generalize (nuI i).body=E at*;generalize fS 1 E=S at*;have hvm:=dV Q.1.ms;have hvw:=eQ Q.1.ws;have w1:ah.wrap ((Q.1.ms.length:Int)+(Q.1.ws.length:Int))=((i+1:Nat):Int):=wZ (by omega)
 have hge:¬(i:Int)≥16:=by omega
 obtain⟨⟨⟨qa,qt⟩,qm,qw⟩,qe⟩:=Q;obtain⟨⟨au,th⟩,ms,ws⟩:=c;simp only at q1;subst q1;unfold st5;simp only[Cat.sv,gp,dX]at*
 conv=>lhs;rw[ai]
 simp only[go_sem,Q5,Qb,Qc,Qd,Qe,Qh,Qi,Qj,Qk,reduceCtorEq,reduceIte,US,hi,g1,YI,g2,Sc,hge,hvm,hvw,w1,e1]
theorem s5b(n a:Nat)(hn:n<=18)(c:Cat)(i:Nat)(h:tu c 16)(hi:i<n)(h16:16<=i):run U (.loop nY) (st5 n a c i)=run U (.loop nY) (st5 n a c (i+1)):=by
 have e1:=cZ i (by omega);have g1:=up (f22 i (by omega));have g2:=f19 c h.s.ok (nuI i).body (fS 1 (nuI i).body) (yR i (by omega));have q:=Gf h i h16 (by omega);change call U 19 _ _ _=some ⟨gp (iS c i),[],[]⟩at g2;rw[q]at g2;clear h q;generalize (nuI i).body=E at*;generalize fS 1 E=S at*;have hge:(i:Int)≥16:=by omega
 obtain⟨⟨au,th⟩,ms,ws⟩:=c;unfold st5;simp only[Cat.sv,gp,dX,oR]at*
 conv=>lhs;rw[ai]
 simp only[go_sem,Qb,Qc,Qd,Qe,Qh,Qi,Qj,Qk,reduceCtorEq,reduceIte,US,hi,g1,YI,g2,Sc,hge,e1]
theorem l5(n a:Nat)(hn:n<=18):∀(m i:Nat)(c:Cat),n-i=m->i<=n->tu c (min i 16)->∃c',tu c' (min n 16)/\run U (.loop nY) (st5 n a c i)=some (.x 0,⟨[(0,.int .i64 n),(1,.int .i64 a),(5,.ptr 105 0)],[(105,.rc c'.sv)],[]⟩):=by
 intro m;induction m with
 |zero=>
  intro i c h0 h1 h;have hi:i=n:=by omega
  subst hi;refine⟨c,h, ?_⟩;obtain⟨⟨au,th⟩,ms,ws⟩:=c;unfold st5;simp only[Cat.sv];rw[ai];simp only[go_sem,Qh,Qj,Qk,reduceCtorEq,reduceIte]
 |succ m ih=>
  intro i c h0 h1 h
  by_cases h16:i<16
  ·rw[show min i 16=i by omega]at h
   rw[s5a n a hn c i h (by omega) h16];have hf:=(sJ h h16 i (aK _) (by omega)).2.2 rfl;exact ih (i+1) _ (by omega) (by omega) (by rw[show min (i+1) 16=i+1 by omega];exact hf)
  ·rw[show min i 16=16 by omega]at h
   rw[s5b n a hn c i h (by omega) (by omega)];exact ih (i+1) _ (by omega) (by omega) (by rw[show min (i+1) 16=16 by omega];exact h)
theorem f5(n0 a0:Int)(n1: -9223372036854775808<=n0)(n2:n0<=9223372036854775807)(a1: -9223372036854775808<=a0)(a2:a0<=9223372036854775807):
 call U 5 [.int .i64 n0,.int .i64 a0] [] 0=some ⟨.bool true,[],[]⟩:=by
 have g9:=f9;have g10:=up xjH;have g11:=up (f11 (trL 0 0));rw[show v8 (trL 0 0)=(⟨trL 0 0,[],[]⟩,0)from if_pos (DE 0 (by decide) 0)]at g11;have m1:=up (f21 n0 19 n1 n2 (by decide));have m2:=up (f21 a0 16 a1 a2 (by decide));have b1:=jt n0 19 (by decide);have b2:=jt a0 16 (by decide);obtain⟨n,hn⟩:∃n:Nat,gN n0 19=n:=⟨(gN n0 19).toNat,by omega⟩;obtain⟨a,ha⟩:∃a:Nat,gN a0 16=a:=⟨(gN a0 16).toNat,by omega⟩;rw[hn]at m1 b1;rw[ha]at m2 b2;obtain⟨c,hc,hl⟩:=l5 n a (by omega) _ 0 _ rfl (bH _) Rd;have g1:=up (f22 a (by omega));have g2:=f19 c hc.s.ok (nuI a).body (fS 1 (nuI a).body) (yR a (by omega));change call U 19 _ _ _=some ⟨gp (iS c a),[],[]⟩at g2;unfold st5 at hl;rw[c0]at hl
 by_cases q:a<n
 ·have e:=De hc a (by omega) (by omega)
  rw[e]at g2;have g13:=up (xjF hc.s);clear hc e;generalize (nuI a).body=E at*;generalize fS 1 E=S at*;generalize trL 0 0=t at*;obtain⟨ta,tt⟩:=t;obtain⟨⟨au,th⟩,ms,ws⟩:=c;simp only[Cat.sv,Tr.sv,gp,dX,eH,gy,bX]at*;rw[an U_5];simp only[go_sem,Qb,Qc,Qd,Qe,Qh,Qi,Qj,Qk,reduceCtorEq,reduceIte,US,g9,S_9,m1,tq,m2,g10,NB,g11,NA,hl,g1,YI,g2,Sc,q,g13,YW]
 ·have hcn:tu c n:=by rw[show min n 16=n by omega]at hc;exact hc
  obtain⟨e, -, -⟩:=sJ hcn (by omega) a (by omega) (by omega);clear hc hcn;generalize iS c a=Q at*;generalize (nuI a).body=E at*;generalize fS 1 E=S at*;generalize trL 0 0=t at*;obtain⟨ta,tt⟩:=t;obtain⟨⟨⟨qa,qt⟩,qm,qw⟩,qe⟩:=Q;obtain⟨⟨au,th⟩,ms,ws⟩:=c;simp only at e;subst e;have hn16:(n:Int)<16:=by omega
  simp only[Cat.sv,Tr.sv,gp,dX,eH,gy,bX]at*;rw[an U_5];simp only[go_sem,Qb,Qc,Qd,Qe,Qh,Qi,Qj,Qk,reduceCtorEq,reduceIte,US,g9,S_9,m1,tq,m2,g10,NB,g11,NA,hl,g1,YI,g2,Sc,q,hn16]
end Go.Proofs.YtbfnljmmepcbfaaGreatDoor
