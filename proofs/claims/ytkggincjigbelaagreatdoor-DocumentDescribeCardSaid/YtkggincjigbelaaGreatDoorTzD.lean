/- What the functions come to. No condition. -/
import Derived.Test.YtkggincjigbelaaGreatDoorTvD
import Derived.Test.YtkggincjigbelaaGreatDoorTxD
import Derived.Test.YtkggincjigbelaaGreatDoorTyD
open List renaming map_nil -> bH
set_option maxRecDepth 100000
set_option maxHeartbeats 16000000
set_option linter.unusedSimpArgs false
set_option linter.unusedVariables false
namespace Go.Proofs.YtkggincjigbelaaGreatDoor
open Go.Sy
open UInt8 renaming reduceLT -> Q0, reduceLE -> Q1
open Int renaming reduceToNat -> Q2, reduceLE -> Q3, reduceLT -> Q4, reduceEq -> Q5, reduceNe -> Q6, reduceNeg -> Q7, reduceAdd -> Q8, reduceSub -> Q9, reduceMul -> Qa
open Nat renaming reducePow -> Qb, reduceDiv -> Qc, reduceMod -> Qd, reduceAdd -> Qe, reduceSub -> Qf, reduceMul -> Qg, reduceLT -> Qh, reduceLeDiff -> Qi, reduceEqDiff -> Qj, reduceBEq -> Qk
section
open SortT
theorem xl8:U.fn 10=some (.code F10):=Ru.fn 10 _ xmU
def py:List UInt8:=[97,99,109,101]
theorem Cz{y:Img}(h:gz y=0):N1 y:=by obtain⟨a1,a2,a3,a4,a5,a6⟩:=rA h;have:=(ir a5).2;exact⟨by omega,by have:=(MD h).2;omega⟩
theorem f10(codes:List UInt8)(ver:Int)(v1: -9223372036854775808<=ver)(v2:ver<=9223372036854775807):
 call U 10 [.byt codes .no,.int .i64 ver] [] 0=some ⟨.bool true,[],[]⟩:=by
 have g11:=f11;have g14:=up (f14 ver 1000 v1 v2 (by decide));obtain⟨hm0,hm1⟩:=ly ver 1000 (by decide);obtain⟨ch,hc,gch⟩:=f37 codes;have g37:=up gch;have n8:=hc.n8;have g36:=up (f36 ch (fun y hy=>Cz (lV hc y hy)) (by omega) py (gS ver 1000));rw[wb hc]at g36;have hbd:=QD hc;obtain⟨ho1,ho2⟩:=xcK hc;generalize uD ch []=es at*;generalize gS ver 1000=V at*;have hl8:=hbd.len;have hmE:jb ⟨py,V,0,0,1099511627776,es,[]⟩=0:=EO (by show Pr.nameB py=true;decide) (by show(0:Int)<=0;decide) (by show(0:Int)<=V;omega) (by show V<=1000000;omega) (by show(0:Int)<=0;decide) (by show(0:Int)<1099511627776;decide) (by show(1099511627776:Int)<=1099511627776;decide) (by show es.length<=16;omega) (by show 0<=8;decide) ho1 ho2 (fun r hr=>by cases hr);have hmB:kF ⟨py,V,0,0,1099511627776,es,[]⟩:=⟨by show py.length<=_;decide,by show es.length<=_;omega,by show 0<=_;omega,fun x hx=>by have:=hbd.e x hx;omega,fun x hx=>by cases hx⟩;have g38:=up (f38 _ hmB);have hB:=Ff _ hmB;have hd:=QF hmE;generalize v6 ⟨py,V,0,0,1099511627776,es,[]⟩=B at*;have g25:=up (f25 B hB 3);have hl:=Ed 3 B;have e1:gS 1 3=1:=by decide
 have e2:gS 2 3=2:=by decide
 have g22a:=up (xfZ 1 1 (by decide) (by decide) (by decide) (by decide) e1);have g22b:=up (xfY 2 2 (by decide) (by decide) (by decide) (by decide) e2);have p1:=f34 (trL 1 1) B (m7 3 B) hB;have p2:=f34 (trL 2 2) B (m7 3 B) hB
 have q:∀(k:Nat)(thr:Int),k<=2->Rq (trL k thr) B (m7 3 B)=if(Xy 3 (k+1):Int)<1+gS thr ((k+1:Nat):Int)then 44 else 0:=by intro k thr hk;unfold Rq;rw[if_pos (xdH k hk thr),if_neg (by omega),if_neg (fun h=>by rw[hd]at h;cases h.1),BX k hk thr 3 B,ui];rfl
 rw[q 1 1 (by decide),if_neg (by decide)]at p1;rw[q 2 2 (by decide),if_pos (by decide)]at p2;generalize m7 3 B=ms at*;generalize trL 1 1=ta at*;generalize trL 2 2=tb at*;have hac:py=[97,99,109,101]:=rfl;rw[hac]at g36 g38;simp only[Man.sv,gP,bH]at g38;unfold Tr.sv dX at*;rw[aj xl8];simp only[go_sem,Q0,Q1,Q2,Q3,Q4,Q5,Q6,Q7,Q8,Q9,Qa,Qb,Qc,Qd,Qe,Qf,Qg,Qh,Qi,Qj,Qk,reduceCtorEq,reduceIte,US,g11,xm7,g14,pk,g37,xm1,g36,xm2,g38,xm0,g25,xm4,g22a,xjP,g22b,p1,xjO,p2]
end
end Go.Proofs.YtkggincjigbelaaGreatDoor
