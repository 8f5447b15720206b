/- What the functions come to. No condition. -/
import Derived.Test.YtkggincjigbelaaGreatDoorTrB
import Derived.Test.YtkggincjigbelaaGreatDoorTuB
import Derived.Test.YtkggincjigbelaaGreatDoorTvB
open Int renaming natCast_zero -> aw
open Go.IntKind renaming i64 -> af, u64 -> aN
open List renaming length_append -> ac, length_cons -> aj, length_nil -> aq, length_singleton -> aW, length_take -> ax, mem_append -> al, mem_map -> aT, mem_singleton -> bf
open Nat renaming le_refl -> aH, zero_le -> bt
open UInt8 renaming ofInt -> bK
set_option maxRecDepth 100000
set_option maxHeartbeats 16000000
set_option linter.unusedSimpArgs false
set_option linter.unusedVariables false
namespace Go.Proofs.YtkggincjigbelaaGreatDoor
open Go.Sy
open UInt8 renaming reduceLT -> Q0, reduceLE -> Q1
open Int renaming reduceToNat -> Q2, reduceLE -> Q3, reduceLT -> Q4, reduceEq -> Q5, reduceNe -> Q6, reduceNeg -> Q7, reduceAdd -> Q8, reduceSub -> Q9, reduceMul -> Qa
open Nat renaming reducePow -> Qb, reduceDiv -> Qc, reduceMod -> Qd, reduceAdd -> Qe, reduceSub -> Qf, reduceMul -> Qg, reduceLT -> Qh, reduceLeDiff -> Qi, reduceEqDiff -> Qj, reduceBEq -> Qk
theorem Ra(i:Nat)(l:List (List UInt8))(h:∀x∈l,x.length=16):(Ej i l).length<=16:=by
 unfold Ej;split
 ·rename_i a b
  split
  ·have:=h b (by simp);omega
  ·have:=h a (by simp);omega
 ·exact bt _
theorem sG(seed msg:List UInt8)(h leaf:Int):(sgn seed h leaf msg).length<=1000:=by
 unfold sgn;split
 ·exact bt _
 ·have h1:=gr (lsV seed h.toNat) leaf.toNat msg
  have h2:=Ra leaf.toNat (lvs seed h.toNat (2^h.toNat)) (fun x hx=>by obtain⟨i,_,rfl⟩:=aT.1 hx;exact co _ _)
  rw[iw,aj,ac,h1];omega
def bI(w:Int)(i:Nat):Int:=bP .and .i64 (w.fdiv (2^min i 64)) 1
def mkS(i:Nat)(B:List UInt8):Mk:=⟨3+2*(i:Int),sgn (dA (3+2*i)) 1 (if i=1 then 1 else 0) B⟩
def gU(w:Int)(B:List UInt8)(i:Nat)(ms:List Mk):List Mk:=if bI w i=1 then ms++ [mkS i B]else ms
def i5(w:Int)(B:List UInt8):List Mk:=gU w B 2 (gU w B 1 (gU w B 0 []))
theorem kA(w:Int)(B:List UInt8)(i:Nat)(ms:List Mk):(gU w B i ms).length<=ms.length+1:=by
 unfold gU;split
 ·rw[ac];exact aH _
 ·omega
theorem lR(w:Int)(B:List UInt8):(i5 w B).length<=3:=by have h0:=kA w B 0 [];have h1:=kA w B 1 (gU w B 0 []);have h2:=kA w B 2 (gU w B 1 (gU w B 0 []));unfold i5;rw[aq]at h0;omega
theorem pS(w:Int)(B:List UInt8)(i:Nat)(ms:List Mk)(h:∀m∈ms,m.sig.length<=1000):∀m∈gU w B i ms,m.sig.length<=1000:=by
 unfold gU;split
 ·intro m hm
  rcases al.1 hm with hm|hm
  ·exact h m hm
  ·rw[bf.1 hm];exact sG _ _ _ _
 ·exact h
theorem E8(w:Int)(B:List UInt8):∀m∈i5 w B,m.sig.length<=1000:=pS _ _ _ _ (pS _ _ _ _ (pS _ _ _ _ (fun m hm=>by cases hm)))
def iV:aF:= .rc [.byt [] .clip,.lst 2 [] .clip]
theorem xf5(w:Int)(B:List UInt8)(hB:B.length<=100000000)(ms:List Mk)(hm:ms.length<=10)(te:Tok)(hte:te= .no\/te= .clip/\ms=[]):∃te',(te'= .no\/te'= .clip/\gU w B 0 ms=[])/\
 run T (.loop lT) ⟨[(1,.int .i64 w),(4,.ptr 104 0),(5,.ptr 105 0),(6,.int .i64 0)],[(104,iV),(105,.rc [.byt B .no,.lst 2 (cW ms) te])],[]⟩=
  run T (.loop lT) ⟨[(1,.int .i64 w),(4,.ptr 104 0),(5,.ptr 105 0),(6,.int .i64 1)],[(104,iV),(105,.rc [.byt B .no,.lst 2 (cW (gU w B 0 ms)) te'])],[]⟩:=by
 have u:aN.wrap 0=0:=by decide
 have k1:af.wrap (0+1)=1:=by decide
 have k1':af.wrap 1=1:=by decide
 have k2:af.wrap (2*0)=0:=by decide
 have k2':af.wrap 0=0:=by decide
 have k3:af.wrap 3=3:=by decide
 have kl:bP .and .i64 0 1=0:=by decide
 have g1:=f39 3;have g2:=f29 B ms 3 (dA 3) 1 0 (by omega) (by rw[ec];decide) hB (.inr (.inr (.inr rfl)));have hv:=cx ms;rw[show((3:Nat):Int)=3 from rfl]at g1;have em:mkS 0 B=⟨3,sgn (dA 3) 1 0 B⟩:=rfl
 by_cases hb:bI w 0=1
 ·refine⟨.no,.inl rfl, ?_⟩
  have ha:gU w B 0 ms=ms++ [mkS 0 B]:=if_pos hb;rw[ha,em];unfold bS at g2;generalize cW (ms++ [⟨3,sgn (dA 3) 1 0 B⟩])=Z at*;generalize dA 3=S at*;unfold bI at hb;unfold iV
  conv=>lhs;rw[ai]
  rcases hte with rfl|⟨rfl,rfl⟩
  ·simp only[go_sem,Q0,Q1,Q2,Q3,Q4,Q5,Q6,Q7,Q8,Q9,Qa,Qb,Qc,Qd,Qe,Qf,Qg,Qh,Qi,Qj,Qk,reduceCtorEq,reduceIte,u,hb,k1,k1',k2,k2',k3,kl,g1,ni,g2,wA]
  ·have h0:cW []=[]:=rfl
   simp only[h0]at g2 ⊢;simp only[go_sem,Q0,Q1,Q2,Q3,Q4,Q5,Q6,Q7,Q8,Q9,Qa,Qb,Qc,Qd,Qe,Qf,Qg,Qh,Qi,Qj,Qk,reduceCtorEq,reduceIte,u,hb,k1,k1',k2,k2',k3,kl,g1,ni,g2,wA]
 ·have ha:gU w B 0 ms=ms:=if_neg hb
  rw[ha];refine⟨te,hte, ?_⟩;unfold bI at hb;unfold iV
  conv=>lhs;rw[ai]
  rcases hte with rfl|⟨rfl,rfl⟩
  ·simp only[go_sem,Q0,Q1,Q2,Q3,Q4,Q5,Q6,Q7,Q8,Q9,Qa,Qb,Qc,Qd,Qe,Qf,Qg,Qh,Qi,Qj,Qk,reduceCtorEq,reduceIte,u,hb,k1,k1']
  ·simp only[go_sem,Q0,Q1,Q2,Q3,Q4,Q5,Q6,Q7,Q8,Q9,Qa,Qb,Qc,Qd,Qe,Qf,Qg,Qh,Qi,Qj,Qk,reduceCtorEq,reduceIte,u,hb,k1,k1']
theorem xf4(w:Int)(B:List UInt8)(hB:B.length<=100000000)(ms:List Mk)(hm:ms.length<=10)(te:Tok)(hte:te= .no\/te= .clip/\ms=[]):∃te',(te'= .no\/te'= .clip/\gU w B 1 ms=[])/\
 run T (.loop lT) ⟨[(1,.int .i64 w),(4,.ptr 104 0),(5,.ptr 105 0),(6,.int .i64 1)],[(104,iV),(105,.rc [.byt B .no,.lst 2 (cW ms) te])],[]⟩=
  run T (.loop lT) ⟨[(1,.int .i64 w),(4,.ptr 104 0),(5,.ptr 105 0),(6,.int .i64 2)],[(104,iV),(105,.rc [.byt B .no,.lst 2 (cW (gU w B 1 ms)) te'])],[]⟩:=by
 have u:aN.wrap 1=1:=by decide
 have k1:af.wrap (1+1)=2:=by decide
 have k1':af.wrap 2=2:=by decide
 have k2:af.wrap (2*1)=2:=by decide
 have k2':af.wrap 2=2:=by decide
 have k3:af.wrap 5=5:=by decide
 have kl:bP .and .i64 1 1=1:=by decide
 have g1:=f39 5;have g2:=f29 B ms 5 (dA 5) 1 1 (by omega) (by rw[ec];decide) hB (.inr (.inr (.inr rfl)));have hv:=cx ms;rw[show((5:Nat):Int)=5 from rfl]at g1;have em:mkS 1 B=⟨5,sgn (dA 5) 1 1 B⟩:=rfl
 by_cases hb:bI w 1=1
 ·refine⟨.no,.inl rfl, ?_⟩
  have ha:gU w B 1 ms=ms++ [mkS 1 B]:=if_pos hb;rw[ha,em];unfold bS at g2;generalize cW (ms++ [⟨5,sgn (dA 5) 1 1 B⟩])=Z at*;generalize dA 5=S at*;unfold bI at hb;unfold iV
  conv=>lhs;rw[ai]
  rcases hte with rfl|⟨rfl,rfl⟩
  ·simp only[go_sem,Q0,Q1,Q2,Q3,Q4,Q5,Q6,Q7,Q8,Q9,Qa,Qb,Qc,Qd,Qe,Qf,Qg,Qh,Qi,Qj,Qk,reduceCtorEq,reduceIte,u,hb,k1,k1',k2,k2',k3,kl,g1,ni,g2,wA]
  ·have h0:cW []=[]:=rfl
   simp only[h0]at g2 ⊢;simp only[go_sem,Q0,Q1,Q2,Q3,Q4,Q5,Q6,Q7,Q8,Q9,Qa,Qb,Qc,Qd,Qe,Qf,Qg,Qh,Qi,Qj,Qk,reduceCtorEq,reduceIte,u,hb,k1,k1',k2,k2',k3,kl,g1,ni,g2,wA]
 ·have ha:gU w B 1 ms=ms:=if_neg hb
  rw[ha];refine⟨te,hte, ?_⟩;unfold bI at hb;unfold iV
  conv=>lhs;rw[ai]
  rcases hte with rfl|⟨rfl,rfl⟩
  ·simp only[go_sem,Q0,Q1,Q2,Q3,Q4,Q5,Q6,Q7,Q8,Q9,Qa,Qb,Qc,Qd,Qe,Qf,Qg,Qh,Qi,Qj,Qk,reduceCtorEq,reduceIte,u,hb,k1,k1']
  ·simp only[go_sem,Q0,Q1,Q2,Q3,Q4,Q5,Q6,Q7,Q8,Q9,Qa,Qb,Qc,Qd,Qe,Qf,Qg,Qh,Qi,Qj,Qk,reduceCtorEq,reduceIte,u,hb,k1,k1']
theorem xf3(w:Int)(B:List UInt8)(hB:B.length<=100000000)(ms:List Mk)(hm:ms.length<=10)(te:Tok)(hte:te= .no\/te= .clip/\ms=[]):∃te',(te'= .no\/te'= .clip/\gU w B 2 ms=[])/\
 run T (.loop lT) ⟨[(1,.int .i64 w),(4,.ptr 104 0),(5,.ptr 105 0),(6,.int .i64 2)],[(104,iV),(105,.rc [.byt B .no,.lst 2 (cW ms) te])],[]⟩=
  run T (.loop lT) ⟨[(1,.int .i64 w),(4,.ptr 104 0),(5,.ptr 105 0),(6,.int .i64 3)],[(104,iV),(105,.rc [.byt B .no,.lst 2 (cW (gU w B 2 ms)) te'])],[]⟩:=by
 have u:aN.wrap 2=2:=by decide
 have k1:af.wrap (2+1)=3:=by decide
 have k1':af.wrap 3=3:=by decide
 have k2:af.wrap (2*2)=4:=by decide
 have k2':af.wrap 4=4:=by decide
 have k3:af.wrap 7=7:=by decide
 have kl:bP .and .i64 2 1=0:=by decide
 have g1:=f39 7;have g2:=f29 B ms 7 (dA 7) 1 0 (by omega) (by rw[ec];decide) hB (.inr (.inr (.inr rfl)));have hv:=cx ms;rw[show((7:Nat):Int)=7 from rfl]at g1;have em:mkS 2 B=⟨7,sgn (dA 7) 1 0 B⟩:=rfl
 by_cases hb:bI w 2=1
 ·refine⟨.no,.inl rfl, ?_⟩
  have ha:gU w B 2 ms=ms++ [mkS 2 B]:=if_pos hb;rw[ha,em];unfold bS at g2;generalize cW (ms++ [⟨7,sgn (dA 7) 1 0 B⟩])=Z at*;generalize dA 7=S at*;unfold bI at hb;unfold iV
  conv=>lhs;rw[ai]
  rcases hte with rfl|⟨rfl,rfl⟩
  ·simp only[go_sem,Q0,Q1,Q2,Q3,Q4,Q5,Q6,Q7,Q8,Q9,Qa,Qb,Qc,Qd,Qe,Qf,Qg,Qh,Qi,Qj,Qk,reduceCtorEq,reduceIte,u,hb,k1,k1',k2,k2',k3,kl,g1,ni,g2,wA]
  ·have h0:cW []=[]:=rfl
   simp only[h0]at g2 ⊢;simp only[go_sem,Q0,Q1,Q2,Q3,Q4,Q5,Q6,Q7,Q8,Q9,Qa,Qb,Qc,Qd,Qe,Qf,Qg,Qh,Qi,Qj,Qk,reduceCtorEq,reduceIte,u,hb,k1,k1',k2,k2',k3,kl,g1,ni,g2,wA]
 ·have ha:gU w B 2 ms=ms:=if_neg hb
  rw[ha];refine⟨te,hte, ?_⟩;unfold bI at hb;unfold iV
  conv=>lhs;rw[ai]
  rcases hte with rfl|⟨rfl,rfl⟩
  ·simp only[go_sem,Q0,Q1,Q2,Q3,Q4,Q5,Q6,Q7,Q8,Q9,Qa,Qb,Qc,Qd,Qe,Qf,Qg,Qh,Qi,Qj,Qk,reduceCtorEq,reduceIte,u,hb,k1,k1']
  ·simp only[go_sem,Q0,Q1,Q2,Q3,Q4,Q5,Q6,Q7,Q8,Q9,Qa,Qb,Qc,Qd,Qe,Qf,Qg,Qh,Qi,Qj,Qk,reduceCtorEq,reduceIte,u,hb,k1,k1']
theorem f25(B:List UInt8)(hB:B.length<=100000000)(w:Int):call T 25 [.byt B .no,.int .i64 w] [] 0=some ⟨.agg (bS B (i5 w B)),[],[]⟩:=by
 have l0:=kA w B 0 [];have l1:=kA w B 1 (gU w B 0 []);rw[aq]at l0;obtain⟨t0,q0,e0⟩:=xf5 w B hB [] (by simp) .clip (.inr ⟨rfl,rfl⟩);obtain⟨t1,q1,e1⟩:=xf4 w B hB _ (by omega) t0 q0;obtain⟨t2,q2,e2⟩:=xf3 w B hB _ (by omega) t1 q1;have e:=e0.trans (e1.trans e2);have h0:cW []=[]:=rfl;rw[h0]at e;change _=run T (.loop lT) ⟨_,[_,(105,.rc [.byt B .no,.lst 2 (cW (i5 w B)) t2])],_⟩at e
 have e4:run T (.loop lT) ⟨[(1,.int .i64 w),(4,.ptr 104 0),(5,.ptr 105 0),(6,.int .i64 3)],[(104,iV),(105,.rc [.byt B .no,.lst 2 (cW (i5 w B)) t2])],[]⟩=some (.x 0,⟨[(4,.ptr 104 0),(5,.ptr 105 0)],[(104,iV),(105,.rc [.byt B .no,.lst 2 (cW (i5 w B)) t2])],[]⟩):=by rw[ai];unfold iV;rcases q2 with rfl|⟨rfl,_⟩<;>simp only[go_sem,Q0,Q1,Q2,Q3,Q4,Q5,Q6,Q7,Q8,Q9,Qa,Qb,Qc,Qd,Qe,Qf,Qg,Qh,Qi,Qj,Qk,reduceCtorEq,reduceIte]
 rw[e4]at e;unfold iV at e;unfold bS;rw[ah xpR];simp only[go_sem,Q0,Q1,Q2,Q3,Q4,Q5,Q6,Q7,Q8,Q9,Qa,Qb,Qc,Qd,Qe,Qf,Qg,Qh,Qi,Qj,Qk,reduceCtorEq,reduceIte,e]
def xez(B:List UInt8):Prop:=qE B≠none\/nf B≠none
theorem f26(codes:List UInt8)(kind:Int):∃B:List UInt8,B.length<=100000000/\xez B/\call T 26 [.byt codes .no,.int .i64 kind] [] 0=some ⟨.byt B .no,[],[]⟩:=by
 have hT:(codes.take 40).length<=1000:=by rw[ax];omega
 have g1:=f51 codes 40;rw[show((40:Nat):Int)=40 from rfl]at g1
 by_cases hb:bP .and .i64 kind 1=1
 ·obtain⟨v1,j1,h1,g2⟩:=jQ (codes.take 40) hT 0 9 (by decide)
  obtain⟨v2,j2,h2,g3⟩:=jQ (codes.take 40) hT j1 99 (by decide);rw[show((9:Nat):Int)=9 from rfl]at g2;rw[show((99:Nat):Int)=99 from rfl]at g3;have g4:=f13 [bK (v1:Int)];have hs:=mE [bK (v1:Int)];have hok:wC ⟨kD [bK (v1:Int)],(v2:Int)⟩:=⟨hs,by show(0:Int)<=v2;omega,by show(v2:Int)<=1099511627776;omega⟩;have g5:=f19 ⟨kD [bK (v1:Int)],(v2:Int)⟩;have hd:=wq _ hok;have hl:=pN _ hok;refine⟨jS ⟨kD [bK (v1:Int)],(v2:Int)⟩,by rw[hl];decide,.inr (by rw[hd];exact fun h=>by cases h), ?_⟩;generalize jS ⟨kD [bK (v1:Int)],(v2:Int)⟩=E at*;generalize kD [bK (v1:Int)]=Q at*;simp only[bO,aw,Wd.sv]at g1 g2 g3 g5;rw[ah xmx];simp only[go_sem,Q0,Q1,Q2,Q3,Q4,Q5,Q6,Q7,Q8,Q9,Qa,Qb,Qc,Qd,Qe,Qf,Qg,Qh,Qi,Qj,Qk,reduceCtorEq,reduceIte,g1,xfy,hb,g2,li,g4,SZ,g3,g5,xp8]
 ·obtain⟨m,j,hm,g2⟩:=xoo (codes.take 40) hT 0
  have g3:=f53 m hm.bd;refine⟨wh m,Gd m hm.bd,.inl (by rw[Sp hm.ok];exact fun h=>by cases h), ?_⟩;generalize wh m=E at*;obtain⟨v,m1,m2,m3,m4,es,rs⟩:=m;simp only[bO,aw,Man.sv]at g1 g2 g3;rw[ah xmx];simp only[go_sem,Q0,Q1,Q2,Q3,Q4,Q5,Q6,Q7,Q8,Q9,Qa,Qb,Qc,Qd,Qe,Qf,Qg,Qh,Qi,Qj,Qk,reduceCtorEq,reduceIte,g1,xfy,hb,g2,xp4,g3,xp5]
theorem f5(codes:List UInt8)(kind au h leaf:Int)(seed:List UInt8)(any:Bool)(h1: -9223372036854775808<=h)(h2:h<=9223372036854775807)(l1: -9223372036854775808<=leaf)(l2:leaf<=9223372036854775807):
 call U 5 [.byt codes .no,.int .i64 kind,.int .i64 au,.int .i64 h,.int .i64 leaf,.byt seed .no,.bool any] [] 0=some ⟨.bool true,[],[]⟩:=by
 have g11:=f11;have gh:=up (f14 h 2 h1 h2 (by decide));have gl:=up (f14 leaf 2 l1 l2 (by decide));have hb:=ld h 2 (by decide);have g13:=up (f13 seed);have hs:=mE seed;generalize kD seed=S at*;obtain⟨B,hB,_,g⟩:=f26 codes kind;have g26:=up g;have g25:=fun w=>up (f25 B hB w)
 have hl3:=fun w=>lR w B
 have hsg:=fun w=>E8 w B
 have key:∀(H L:Int),(H<0\/3<H\/H=0\/H=1)->∀w,∃Z:List Mk,call U 28 [.agg (bS B (i5 w B)),.int .i64 au,.byt S .no,.int .i64 H,.int .i64 L] [] 0=some ⟨.agg (bS B Z),[],[]⟩/\call U 29 [.agg (bS B (i5 w B)),.int .i64 au,.byt S .no,.int .i64 H,.int .i64 L] [] 0=some ⟨.agg (bS B Z),[],[]⟩/\call U 27 [.agg (bS B Z),.agg (bS B Z)] [] 0=some ⟨.bool true,[],[]⟩:=by
  intro H L hH w;have q:=hl3 w;refine⟨_,up (f28 B (i5 w B) au S H L (by omega) (by rw[hs];decide) hB hH),up (f29 B (i5 w B) au S H L (by omega) (by rw[hs];decide) hB hH),up (f27 B _ (by rw[ac,aW];omega) (by omega) (fun m hm=> ?_))⟩;rcases al.1 hm with hm|hm
  ·have:=hsg w m hm;omega
  ·rw[bf.1 hm];have:=sG S B H L;show(sgn S H L B).length<=_;omega
 generalize hmh:ik h 2=mh at*;generalize hml:ik leaf 2=ml at*;clear hl3 hsg hs hB;have fin:∀(H L w:Int),(H<0\/3<H\/H=0\/H=1)->True:=fun _ _ _ _=>trivial
 generalize hw0:bP .and .i64 (kind.fdiv (2^min 1 64)) 1=w at*;cases any with
 |false=>
  have hn1:¬1<mh:=by omega
  obtain⟨Z,k1,k2,k3⟩:=key mh ml (by omega) w;have k4:=g25 w;unfold bS at k1 k2 k3 k4;rw[ah U_5];simp only[go_sem,Q0,Q1,Q2,Q3,Q4,Q5,Q6,Q7,Q8,Q9,Qa,Qb,Qc,Qd,Qe,Qf,Qg,Qh,Qi,Qj,Qk,reduceCtorEq,reduceIte,US,g11,nX,gh,gl,qO,hn1,g13,SZ,g26,qI,hw0,k4,qJ,k1,SY,k2,wA,k3,Z5]
 |true=>
  by_cases c1:1<h
  ·by_cases c3:h<=3
   ·obtain⟨Z,k1,k2,k3⟩:=key 1 leaf (by omega) w
    have k4:=g25 w;unfold bS at k1 k2 k3 k4;rw[ah U_5];simp only[go_sem,Q0,Q1,Q2,Q3,Q4,Q5,Q6,Q7,Q8,Q9,Qa,Qb,Qc,Qd,Qe,Qf,Qg,Qh,Qi,Qj,Qk,reduceCtorEq,reduceIte,US,g11,nX,c1,c3,g13,SZ,g26,qI,hw0,k4,qJ,k1,SY,k2,wA,k3,Z5]
   ·obtain⟨Z,k1,k2,k3⟩:=key h leaf (by omega) w
    have k4:=g25 w;unfold bS at k1 k2 k3 k4;rw[ah U_5];simp only[go_sem,Q0,Q1,Q2,Q3,Q4,Q5,Q6,Q7,Q8,Q9,Qa,Qb,Qc,Qd,Qe,Qf,Qg,Qh,Qi,Qj,Qk,reduceCtorEq,reduceIte,US,g11,nX,c1,c3,g13,SZ,g26,qI,hw0,k4,qJ,k1,SY,k2,wA,k3,Z5]
  ·obtain⟨Z,k1,k2,k3⟩:=key h leaf (by omega) w
   have k4:=g25 w;unfold bS at k1 k2 k3 k4;rw[ah U_5];simp only[go_sem,Q0,Q1,Q2,Q3,Q4,Q5,Q6,Q7,Q8,Q9,Qa,Qb,Qc,Qd,Qe,Qf,Qg,Qh,Qi,Qj,Qk,reduceCtorEq,reduceIte,US,g11,nX,c1,g13,SZ,g26,qI,hw0,k4,qJ,k1,SY,k2,wA,k3,Z5]
theorem U_7:U.fn 7=some (.code F7):=Al.fn 7 _ T_7
theorem U_8:U.fn 8=some (.code F8):=Al.fn 8 _ T_8
theorem xb5(c:CSt):run U DP c=run U Ea c:=rfl
theorem U_9:U.fn 9=some (.code F9):=Al.fn 9 _ T_9
theorem U_6:U.fn 6=some (.code F6):=Al.fn 6 _ T_6
attribute [go_sem] xb5
theorem f7(raw:Tr)(b codes:List UInt8)(kind n:Int)(bad:Bool)(n1: -9223372036854775808<=n)(n2:n<=9223372036854775807):
 call U 7 [.agg raw.sv,.byt b .no,.byt codes .no,.int .i64 kind,.int .i64 n,.bool bad] [] 0=some ⟨.bool true,[],[]⟩:=by
 have g11:=f11;obtain⟨k,_,_,g22⟩:=f22 n 0 (by decide) (by decide) n1 n2;have g22:=up g22;obtain⟨B,hB,_,g⟩:=f26 codes kind;have g26:=up g;have g25:=up (f25 B hB 7);generalize i5 7 B=ms at*;generalize trL k 0=t at*;cases bad with
 |true=>have g21:=up (f21 raw);generalize xfb raw=R at*;have p1:=f34 R B ms hB;have p2:=up (f35 R B ms hB);generalize rh R B ms=e at*;unfold Tr.sv bS at*;rw[ah U_7];simp only[go_sem,Q0,Q1,Q2,Q3,Q4,Q5,Q6,Q7,Q8,Q9,Qa,Qb,Qc,Qd,Qe,Qf,Qg,Qh,Qi,Qj,Qk,reduceCtorEq,reduceIte,US,g11,nX,g22,sh,g26,qI,g25,qJ,g21,xp7,p1,sf,p2,SX]
 |false=>
  have g12:=up (f12 b 100 (by decide));rw[show((100:Nat):Int)=100 from rfl]at g12;have hD:(b.take 100).length<=100000000:=by rw[ax];omega
  generalize b.take 100=D at*;have g25b:=up (f25 D hD 7);generalize i5 7 D=ns at*;have p1:=f34 t D ns hD;have p2:=up (f35 t D ns hD);generalize rh t D ns=e at*;unfold Tr.sv bS at*;rw[ah U_7];simp only[go_sem,Q0,Q1,Q2,Q3,Q4,Q5,Q6,Q7,Q8,Q9,Qa,Qb,Qc,Qd,Qe,Qf,Qg,Qh,Qi,Qj,Qk,reduceCtorEq,reduceIte,US,g11,nX,g22,sh,g26,qI,g25,qJ,g12,xmL,g25b,p1,sf,p2,SX]
end Go.Proofs.YtkggincjigbelaaGreatDoor
