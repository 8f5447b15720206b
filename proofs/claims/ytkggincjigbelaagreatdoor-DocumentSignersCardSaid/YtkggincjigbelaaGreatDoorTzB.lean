/- What the functions come to. No condition. -/
import Derived.Test.YtkggincjigbelaaGreatDoorTwB
open Int renaming natCast_zero -> aw
open Go.IntKind renaming i64 -> af
open List renaming drop -> gJ, length_append -> ac, length_cons -> aj, length_drop -> aI, length_set -> cT, length_take -> ax, mem_append -> al, mem_of_mem_drop -> DG, mem_of_mem_take -> b8, mem_singleton -> bf, take -> fv, take_length -> cK, take_of_length_le -> aO
open Nat renaming le_refl -> aH
set_option maxRecDepth 100000
set_option maxHeartbeats 16000000
set_option linter.unusedSimpArgs false
set_option linter.unusedVariables false
namespace Go.Proofs.YtkggincjigbelaaGreatDoor
open Go.Sy
open UInt8 renaming reduceLT -> Q0, reduceLE -> Q1
open Int renaming reduceToNat -> Q2, reduceLE -> Q3, reduceLT -> Q4, reduceEq -> Q5, reduceNe -> Q6, reduceNeg -> Q7, reduceAdd -> Q8, reduceSub -> Q9, reduceMul -> Qa
open Nat renaming reducePow -> Qb, reduceDiv -> Qc, reduceMod -> Qd, reduceAdd -> Qe, reduceSub -> Qf, reduceMul -> Qg, reduceLT -> Qh, reduceLeDiff -> Qi, reduceEqDiff -> Qj, reduceBEq -> Qk
def MkL(ms:List Mk):Prop:=∀m∈ms,1<=m.sig.length/\m.sig.length<=1000
theorem lV(l:List Mk)(k:Nat)(m:Mk):(cW l).set k m.sv=cW (l.set k m):=by simp[cW]
theorem C8(l:List Mk)(k:Nat):(cW l).take k=cW (l.take k):=by simp[cW,List.map_take]
theorem C9(l:List Mk)(k:Nat):(cW l).drop k=cW (l.drop k):=by simp[cW,List.map_drop]
theorem FN(a b:List Mk):cW a++cW b=cW (a++b):=by simp[cW]
theorem MkL.set{l:List Mk}(h:MkL l)(k:Nat){m:Mk}(hm:1<=m.sig.length/\m.sig.length<=1000):MkL (l.set k m):=fun x hx=>by
 rcases List.mem_or_eq_of_mem_set hx with hx|rfl
 ·exact h x hx
 ·exact hm
theorem MkL.get{l:List Mk}(h:MkL l){k:Nat}(hk:k<l.length):1<=(l.getD k mk0).sig.length/\(l.getD k mk0).sig.length<=1000:=h _ (mq _ _ _ hk)
def sF(B C:List UInt8)(ms:List Mk)(n j:Nat):CSt:=⟨[(8,.ptr 108 0),(9,.ptr 109 0),(10,.ptr 23100 0),(11,.int .i64 n)],[(108,iV),(109,.rc [.byt B .no,.lst 2 (cW ms) .no]),(23100,bO C j)],[]⟩
theorem s30(B C:List UInt8)(hC:C.length<=1000)(ms:List Mk)(hl:ms.length<=20)(h0:0<ms.length)(hk:MkL ms)(n j:Nat)(hn:n<=10):
 ∃(ms':List Mk)(j':Nat),MkL ms'/\ms'.length<=ms.length+1/\run T (.loop nO) (sF B C ms (n+1) j)=run T (.loop nO) (sF B C ms' n j'):=by
 have hv:=cx ms;have hp:(0:Int)<((n+1:Nat):Int):=by omega
 have e1:af.wrap (((n+1:Nat):Int)-1)=(n:Int):=wZ (by omega)
 obtain⟨k,j1,hkl,g1⟩:=jQ C hC j ms.length h0;obtain⟨v,j2,hv5,g2⟩:=jQ C hC j1 5 (by decide);rw[show((5:Nat):Int)=5 from rfl]at g2;have hkl':k<=ms.length:=by omega
 have h0I:(0:Int)<(ms.length:Int):=by omega
 have hne:¬cW ms=[]:=fun e=>by rw[e]at hv;simp at hv;omega
 have b1:ms.length*32<=140737488355328:=by omega
 have b2:(ms.length+1)*32<=140737488355328:=by omega
 have hg:=ir ms k hkl;have tk:(cW ms).take ms.length=cW ms:=by rw[<-hv,cK]
 have hgk:=hk.get hkl;have ts2:∀L:List (List SV),L.length=ms.length->L.take ms.length=L:=fun L h=>by rw[<-h,cK]
 have lle:ms.length<=ms.length:=aH _;rcases (by omega:v=0\/v=1\/v=2\/v=3\/v=4)with rfl|rfl|rfl|rfl|rfl
 ·refine⟨ms++ [ms.getD k mk0],j2,fun m hm=> ?_,by simp, ?_⟩
  ·rcases al.1 hm with hm|hm
   ·exact hk m hm
   ·rw[bf.1 hm];exact hgk
  ·have tq:∀x:List SV,(cW ms++ [x]).take (ms.length+1)=cW ms++ [x]:=fun x=>aO (by rw[ac,hv];exact aH _)
   have ll:ms.length+1<=ms.length+1:=aH _;unfold sF;rw[kJ];generalize hmk:ms.getD k mk0=m at*;obtain⟨a,s⟩:=m;simp only[Mk.sv]at*;simp only[iV,bO]at g1 g2 ⊢
   conv=>lhs;rw[ai]
   simp only[go_sem,Q0,Q1,Q2,Q3,Q4,Q5,Q6,Q7,Q8,Q9,Qa,Qb,Qc,Qd,Qe,Qf,Qg,Qh,Qi,Qj,Qk,reduceCtorEq,reduceIte,hp,h0,h0I,hv,cT,g1,li,hne,b1,b2,g2,hkl,hg,tk,e1,cz0,tq]
 ·obtain⟨q,j3,hq,g3⟩:=jQ C hC j2 ms.length h0
  have hgq:=ir ms q hq;refine⟨(ms.set k (ms.getD q mk0)).set q (ms.getD k mk0),j3,(hk.set k (hk.get hq)).set q hgk,by simp, ?_⟩;unfold sF;rw[<-lV,<-lV];generalize hmk:ms.getD k mk0=m at*;generalize hmq:ms.getD q mk0=u at*;obtain⟨a,s⟩:=m;obtain⟨c,d⟩:=u;simp only[Mk.sv]at*;simp only[iV,bO]at g1 g2 g3 ⊢
  conv=>lhs;rw[ai]
  simp only[go_sem,Q0,Q1,Q2,Q3,Q4,Q5,Q6,Q7,Q8,Q9,Qa,Qb,Qc,Qd,Qe,Qf,Qg,Qh,Qi,Qj,Qk,reduceCtorEq,reduceIte,hp,h0,h0I,hv,cT,g1,li,hne,b1,b2,g2,g3,hkl,hq,hg,hgq,tk,e1,cz1,lle,ts2 _ (show(((cW ms).set k [SV.int .i64 c,SV.byt d .no]).set q [SV.int .i64 a,SV.byt s .no]).length=ms.length by rw[cT,cT,hv])]
 ·obtain⟨u,j3,hu,g3⟩:=jQ C hC j2 6 (by decide)
  rw[show((6:Nat):Int)=6 from rfl]at g3;have e3:af.wrap (3+(u:Int))=3+(u:Int):=w64 (by omega) (by omega);refine⟨ms.set k ⟨3+(u:Int),(ms.getD k mk0).sig⟩,j3,hk.set k hgk,by simp, ?_⟩;unfold sF;rw[<-lV];generalize hmk:ms.getD k mk0=m at*;obtain⟨a,s⟩:=m;simp only[Mk.sv]at*;simp only[iV,bO]at g1 g2 g3 ⊢
  conv=>lhs;rw[ai]
  simp only[go_sem,Q0,Q1,Q2,Q3,Q4,Q5,Q6,Q7,Q8,Q9,Qa,Qb,Qc,Qd,Qe,Qf,Qg,Qh,Qi,Qj,Qk,reduceCtorEq,reduceIte,hp,h0,h0I,hv,cT,g1,li,hne,b1,b2,g2,g3,hkl,hg,tk,e1,e3,cz2,lle,ts2 _ (show((cW ms).set k [SV.int .i64 (3+(u:Int)),SV.byt s .no]).length=ms.length by rw[cT,hv])]
 ·obtain⟨p,j3,hp3,g3⟩:=jQ C hC j2 (ms.getD k mk0).sig.length (by omega)
  refine⟨ms.set k ⟨(ms.getD k mk0).auth,(ms.getD k mk0).sig.set p ((ms.getD k mk0).sig.getD p 0^^^1)⟩,j3,hk.set k (by simp only[cT];exact hgk),by simp, ?_⟩;unfold sF;rw[<-lV];generalize hmk:ms.getD k mk0=m at*;obtain⟨a,s⟩:=m;simp only[Mk.sv]at*;have hs0:¬s=[]:=fun e=>by rw[e]at hgk;simp at hgk
  have b3:s.length<=140737488355328:=by omega
  have ts:s.take s.length=s:=cK;have tS:(s.set p (s.getD p 0^^^1)).take s.length=s.set p (s.getD p 0^^^1):=aO (by rw[cT];exact aH _);simp only[iV,bO]at g1 g2 g3 ⊢
  conv=>lhs;rw[ai]
  simp only[go_sem,Q0,Q1,Q2,Q3,Q4,Q5,Q6,Q7,Q8,Q9,Qa,Qb,Qc,Qd,Qe,Qf,Qg,Qh,Qi,Qj,Qk,reduceCtorEq,reduceIte,hp,h0,h0I,hv,cT,g1,li,hne,b1,b2,g2,g3,hkl,hg,tk,e1,cz3,hs0,b3,hp3,ts,tS,lle,ts2 _ (show((cW ms).set k [SV.int .i64 a,SV.byt (s.set p (s.getD p 0^^^1)) .no]).length=ms.length by rw[cT,hv])]
 ·refine⟨ms.take k++ms.drop (k+1),j2,fun m hm=> ?_,by simp;omega, ?_⟩
  ·rcases al.1 hm with hm|hm
   ·exact hk m (b8 hm)
   ·exact hk m (DG hm)
  ·have e4:=cA k (by omega)
   have b4:(k+(ms.length-(k+1)))*32<=140737488355328:=by omega
   have hd:(cW (ms.drop (k+1))).length=ms.length-(k+1):=by rw[cx,aI]
   have ht:(cW (ms.take k)).length=k:=by rw[cx,ax];omega
   have hk1:k+1<=ms.length:=by omega
   have hA:k+1+(ms.length-(k+1))<=ms.length:=by omega
   have hTD:fv (ms.length-(k+1)) (gJ (k+1) ms)=gJ (k+1) ms:=aO (by rw[aI];exact aH _);have hLE:k+(ms.length-(k+1))<=k+(ms.length-(k+1)):=aH _;have hTA:fv (k+(ms.length-(k+1))) (cW (fv k ms)++cW (gJ (k+1) ms))=cW (fv k ms)++cW (gJ (k+1) ms):=aO (by rw[ac,hd,ht];exact aH _);unfold sF;rw[<-FN];simp only[iV,bO]at g1 g2 ⊢
   conv=>lhs;rw[ai]
   simp only[go_sem,Q0,Q1,Q2,Q3,Q4,Q5,Q6,Q7,Q8,Q9,Qa,Qb,Qc,Qd,Qe,Qf,Qg,Qh,Qi,Qj,Qk,reduceCtorEq,reduceIte,hp,h0,h0I,hv,cT,g1,li,hne,b1,b2,g2,hkl,hkl',hg,tk,e1,e4,b4,hd,ht,hk1,C8,C9,Nat.sub_zero,cz4,hA,hTD,hTA]
theorem uU(B C:List UInt8)(ms:List Mk)(n j:Nat)(h:n=0\/ms.length=0):run T (.loop nO) (sF B C ms n j)=some (.x 0,⟨[(8,.ptr 108 0),(9,.ptr 109 0)],[(108,iV),(109,.rc [.byt B .no,.lst 2 (cW ms) .no]),(23100,bO C j)],[]⟩):=by
 have hv:=cx ms;unfold sF;simp only[iV,bO];rw[ai]
 by_cases hn:n=0
 ·subst hn
  have k0:¬(0:Int)<((0:Nat):Int):=by decide
  simp only[go_sem,Q0,Q1,Q2,Q3,Q4,Q5,Q6,Q7,Q8,Q9,Qa,Qb,Qc,Qd,Qe,Qf,Qg,Qh,Qi,Qj,Qk,reduceCtorEq,reduceIte,k0,aw]
 ·have hz:ms.length=0:=h.resolve_left hn
  have hp:(0:Int)<(n:Int):=by omega
  have k0:¬(0:Int)<((0:Nat):Int):=by decide
  rw[hz]at hv;simp only[go_sem,Q0,Q1,Q2,Q3,Q4,Q5,Q6,Q7,Q8,Q9,Qa,Qb,Qc,Qd,Qe,Qf,Qg,Qh,Qi,Qj,Qk,reduceCtorEq,reduceIte,hp,hv,k0,aw]
theorem l30(B C:List UInt8)(hC:C.length<=1000):∀(n:Nat)(ms:List Mk)(j:Nat),ms.length+n<=10->n<=10->MkL ms->
 ∃(ms':List Mk)(j':Nat),MkL ms'/\ms'.length<=10/\run T (.loop nO) (sF B C ms n j)=some (.x 0,⟨[(8,.ptr 108 0),(9,.ptr 109 0)],[(108,iV),(109,.rc [.byt B .no,.lst 2 (cW ms') .no]),(23100,bO C j')],[]⟩)
 |0,ms,j,h1,h2,h3=>⟨ms,j,h3,by omega,uU B C ms 0 j (.inl rfl)⟩
 |n+1,ms,j,h1,h2,h3=>by
  by_cases hz:ms.length=0
  ·exact⟨ms,j,h3,by omega,uU B C ms (n+1) j (.inr hz)⟩
  ·obtain⟨ms',j',q1,q2,q3⟩:=s30 B C hC ms (by omega) (by omega) h3 n j (by omega)
   obtain⟨ms2,j2,p1,p2,p3⟩:=l30 B C hC n ms' j' (by omega) (by omega) q1;exact⟨ms2,j2,p1,p2,q3.trans p3⟩
theorem E7(seed msg:List UInt8)(i:Nat):1<=(sgn seed 1 (if i=1 then 1 else 0) msg).length:=by
 by_cases e:i=1
 ·rw[if_pos e,p9,iw,aj];omega
 ·rw[if_neg e,tZ,iw,aj];omega
theorem tP(w:Int)(B:List UInt8)(i:Nat){ms:List Mk}(h:MkL ms):MkL (gU w B i ms):=by
 unfold gU;split
 ·intro m hm
  rcases al.1 hm with hm|hm
  ·exact h m hm
  ·rw[bf.1 hm];exact⟨E7 _ _ _,sG _ _ _ _⟩
 ·exact h
theorem Qx(w:Int)(B:List UInt8):MkL (i5 w B):=tP _ _ _ (tP _ _ _ (tP _ _ _ (fun m hm=>by cases hm)))
theorem f30(codes ch:List UInt8)(kind who:Int):∃(B:List UInt8)(ms:List Mk),B.length<=100000000/\ms.length<=10/\call T 30 [.byt codes .no,.byt ch .no,.int .i64 kind,.int .i64 who] [] 0=some ⟨.agg (bS B ms),[],[]⟩:=by
 obtain⟨B,hB,_,g26⟩:=f26 codes kind;have g25:=f25 B hB who;have hl:=lR who B;have hk:=Qx who B;have hC:(ch.take 20).length<=1000:=by rw[ax];omega
 have g51:=f51 ch 20;rw[show((20:Nat):Int)=20 from rfl]at g51;generalize ch.take 20=C at*;obtain⟨v,j1,hv,g52⟩:=jQ C hC 0 3 (by decide);rw[show((3:Nat):Int)=3 from rfl]at g52;obtain⟨ms',j',q1,q2,q3⟩:=l30 B C hC v (i5 who B) j1 (by omega) (by omega) hk;refine⟨B,ms',hB,q2, ?_⟩;generalize i5 who B=ms at*;unfold sF at q3;unfold bS at*;simp only[iV,bO,aw]at g51 g52 q3;rw[ah xpN];simp only[go_sem,Q0,Q1,Q2,Q3,Q4,Q5,Q6,Q7,Q8,Q9,Qa,Qb,Qc,Qd,Qe,Qf,Qg,Qh,Qi,Qj,Qk,reduceCtorEq,reduceIte,g26,qI,g25,qJ,g51,xfy,g52,li,q3]
theorem f6(raw:List Mk)(codes ch:List UInt8)(kind who n thr:Int)(wild:Bool)(n1: -9223372036854775808<=n)(n2:n<=9223372036854775807)(t1: -9223372036854775808<=thr)(t2:thr<=9223372036854775807):
 call U 6 [.lst 2 (cW raw) .no,.byt codes .no,.byt ch .no,.int .i64 kind,.int .i64 who,.int .i64 n,.int .i64 thr,.bool wild] [] 0=some ⟨.bool true,[],[]⟩:=by
 have g11:=f11;obtain⟨k,hk2,_,g22⟩:=f22 n thr t1 t2 n1 n2;have g22:=up g22;have hE:=Oi k hk2 thr;obtain⟨B,ms,hB,hl,g⟩:=f30 codes ch kind who;have g30:=up g;generalize trL k thr=t at*;have ok:=fun(ns:List Mk)(h:ns.length<=1000)=>xd hE B ns h hB
 have fin:∀ns:List Mk,ns.length<=1000->∃(L:List Int)(E:Int),call U 32 [.agg t.sv,.agg (bS B ns)] [] 0=some ⟨.lst 1 (isv L) .no,[],[]⟩/\call U 33 [.agg t.sv,.agg (bS B ns)] [] 0=some ⟨.lst 1 (isv L) .no,[],[]⟩/\call U 31 [.lst 1 (isv L) .no,.lst 1 (isv L) .no] [] 0=some ⟨.bool true,[],[]⟩/\call U 34 [.agg t.sv,.agg (bS B ns)] [] 0=some ⟨.int .i64 E,[],[]⟩/\call U 35 [.agg t.sv,.agg (bS B ns)] [] 0=some ⟨.int .i64 E,[],[]⟩:=by intro ns h;have s3:=up (f31 (sgL t B ns) (sgL t B ns) (by rw[sH];have:=oz (mA t) (m5 ns) (oe t B ns) t.au.length ns.length;omega));rw[decide_eq_true rfl]at s3;exact⟨_,_,f32 (ok ns h),up (f33 t B ns (by have:=(ok ns h).n2;omega) hB (by omega)),s3,f34 t B ns hB,up (f35 t B ns hB)⟩
 have hrv:=cx raw;have hmv:=cx ms
 by_cases hw:wild=true/\raw.length<7
 ·obtain⟨rfl,h7⟩:=hw
  have h7I:(raw.length:Int)<7:=by omega
  obtain⟨L,E,p1,p2,p3,p4,p5⟩:=fin (ms++raw) (by rw[ac];omega);have b1:ms.length*32<=140737488355328:=by omega
  have b2:(ms.length+raw.length)*32<=140737488355328:=by omega
  unfold bS at*;rw[show cW (ms++raw)=cW ms++cW raw by simp[cW]]at*;unfold Tr.sv at*;rw[ah U_6];simp only[go_sem,Q0,Q1,Q2,Q3,Q4,Q5,Q6,Q7,Q8,Q9,Qa,Qb,Qc,Qd,Qe,Qf,Qg,Qh,Qi,Qj,Qk,reduceCtorEq,reduceIte,US,g11,nX,g22,sh,g30,xfz,hrv,hmv,h7,h7I,b1,b2,p1,nW,p2,tQ,p3,EB,p4,sf,p5,SX]
 ·obtain⟨L,E,p1,p2,p3,p4,p5⟩:=fin ms (by omega)
  unfold bS Tr.sv at*;rw[ah U_6];cases wild with
  |false=>simp only[go_sem,Q0,Q1,Q2,Q3,Q4,Q5,Q6,Q7,Q8,Q9,Qa,Qb,Qc,Qd,Qe,Qf,Qg,Qh,Qi,Qj,Qk,reduceCtorEq,reduceIte,US,g11,nX,g22,sh,g30,xfz,hrv,hmv,p1,nW,p2,tQ,p3,EB,p4,sf,p5,SX]
  |true=>
   have h7I:¬(raw.length:Int)<7:=fun h=>hw ⟨rfl,by omega⟩
   simp only[go_sem,Q0,Q1,Q2,Q3,Q4,Q5,Q6,Q7,Q8,Q9,Qa,Qb,Qc,Qd,Qe,Qf,Qg,Qh,Qi,Qj,Qk,reduceCtorEq,reduceIte,US,g11,nX,g22,sh,g30,xfz,hrv,hmv,h7I,p1,nW,p2,tQ,p3,EB,p4,sf,p5,SX]
end Go.Proofs.YtkggincjigbelaaGreatDoor
