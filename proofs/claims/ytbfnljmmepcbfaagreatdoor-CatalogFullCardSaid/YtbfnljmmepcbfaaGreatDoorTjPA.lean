/- What the functions come to. No condition. -/
import Derived.Test.YtbfnljmmepcbfaaGreatDoorTgPA
import Derived.Test.YtbfnljmmepcbfaaGreatDoorTiPA
open Bool renaming and_eq_true -> aA
open Go.IntKind renaming i64 -> ah, u64 -> aU
open List renaming Pairwise -> qH, getD_eq_getElem?_getD -> aa, getElem?_eq_getElem -> ac, getElem_of_mem -> bn, length_append -> af, length_nil -> aB, map_nil -> bX, mem_append -> al, mem_range -> dJ, mem_singleton -> bw, pairwise_append -> dw
open Nat renaming le_refl -> aK, zero_le -> bH
open Option renaming getD_some -> aM
set_option maxRecDepth 100000
set_option maxHeartbeats 16000000
set_option linter.unusedSimpArgs false
set_option linter.unusedVariables false
namespace Go.Proofs.YtbfnljmmepcbfaaGreatDoor
open Go.Sy
open UInt8 renaming reduceLT -> Q0, reduceLE -> Q1
open Int renaming reduceToNat -> Q2, reduceLE -> Q3, reduceLT -> Q4, reduceEq -> Q5, reduceNe -> Q6, reduceNeg -> Q7, reduceAdd -> Q8, reduceSub -> Q9, reduceMul -> Qa
open Nat renaming reducePow -> Qb, reduceDiv -> Qc, reduceMod -> Qd, reduceAdd -> Qe, reduceSub -> Qf, reduceMul -> Qg, reduceLT -> Qh, reduceLeDiff -> Qi, reduceEqDiff -> Qj, reduceBEq -> Qk


section
open SortT
structure xkb(m:Man):Prop where
 v:m.vendor.length<=100
 en:m.ents.length<=8
 rn:m.ruls.length<=8
 e:∀x∈m.ents,x.name.length<=1000000/\x.dig.length=32
 r:∀x∈m.ruls,x.text.length<=20
 ok:fm m=0
theorem xkb.bd{m:Man}(h:xkb m):dz m:=⟨by have:=h.v;omega,by have:=h.en;omega,by have:=h.rn;omega,fun x hx=>by have:=h.e x hx;omega,fun x hx=>by have:=h.r x hx;omega⟩
end

structure ChP(l:List Img)(role:Int):Prop where
 ok:∀i,i<l.length->xlo (l.getD i im0)=0
 le:∀i,i<l.length->(l.getD i im0).role<=role
 ord:∀i,i+1<l.length->(l.getD i im0).role<=(l.getD (i+1) im0).role
 dup:∀i,i<l.length->∀k,k<i->(l.getD k im0).role=(l.getD i im0).role->(l.getD k im0).name≠(l.getD i im0).name
theorem ChP.up{l:List Img}{r r':Int}(h:ChP l r)(hr:r<=r'):ChP l r':=⟨h.ok,fun i hi=>Int.le_trans (h.le i hi) hr,h.ord,h.dup⟩
theorem xdr{l:List Au}{i:Nat}(h:auE l i=0):1<=(l.getD i au0).id/\(l.getD i au0).id<=1000:=by
 unfold auE at h;split at h
 ·cases h
 ·split at h
  ·cases h
  ·constructor<;>omega
theorem tj{l:List Au}:∀(n i:Nat),kY l n i=0->∀k,i<=k->k<i+n->auE l k=0
 |0,i,_,k,h1,h2=>by omega
 |n+1,i,h,k,h1,h2=>by
  have h':(if auE l i=0 then kY l n (i+1)else auE l i)=0:=h
  by_cases h0:auE l i=0
  ·rw[if_pos h0]at h'
   by_cases e:k=i
   ·subst e;exact h0
   ·exact tj n (i+1) h' k (by omega) (by omega)
  ·rw[if_neg h0]at h';exact absurd h' h0
theorem xem{t:Tr}(h:trE t=0)(B:List UInt8)(ms:List Mk)(hm:ms.length<=1000)(hB:B.length<=100000000):R8 t B ms:=by
 unfold trE at h;split at h
 ·cases h
 ·rename_i h4
  split at h
  ·rename_i h0
   split at h
   ·cases h
   ·split at h
    ·cases h
    ·refine⟨by omega,by omega,hm,hB,fun a ha=> ?_⟩
     obtain⟨i,hi,rfl⟩:=bn ha;have:=xdr (tj _ 0 h0 i (bH _) (by omega));rw[aa,ac hi]at this;simp only[aM]at this;omega
  ·rename_i h0;exact absurd h h0
open Classical in
noncomputable def pM(t:Tr)(B:List UInt8)(ms:List Mk):Int:=
 if trE t=0 then(if 4<ms.length then 4 else if kU B=none/\mW B=none then 30 else if((sgL t B ms).length:Int)<t.thr then 44 else 0)else trE t
theorem f46(t:Tr)(B:List UInt8)(ms:List Mk)(hB:B.length<=100000000):call U 46 [.agg t.sv,.agg (dX B ms)] [] 0=some ⟨.int .i64 (pM t B ms),[],[]⟩:=by
 have g1:=up (f39 t);have hml:=ii ms;unfold pM
 by_cases hE:trE t=0
 ·rw[if_pos hE]
  rw[hE]at g1
  by_cases h4n:4<ms.length
  ·rw[if_pos h4n]
   have h4:(4:Int)<ms.length:=by omega
   unfold Tr.sv dX at*;rw[an R7];simp only[go_sem,Qe,Qh,Qi,Qj,Qk,reduceCtorEq,reduceIte,US,g1,xT,hml,h4]
  ·rw[if_neg h4n]
   have h4:¬(4:Int)<ms.length:=by omega
   have g2:=up (f47 B (by omega));have g3:=up (f49 B (by omega));have g4:=f73 (xem hE B ms (by omega) hB);have hl:=Bz (sgL t B ms);unfold RK RL at g2;generalize sgL t B ms=L at*;unfold Tr.sv dX at*;cases hp:kU B with
   |some m=>
    rw[hp]at g2;rw[if_neg (fun h=>by cases h.1)];obtain⟨v,m1,m2,m3,m4,es,rs⟩:=m;simp only[Man.sv]at g2;rw[an R7]
    by_cases hc:(L.length:Int)<t.thr
    ·simp only[go_sem,Qb,Qc,Qd,Qe,Qh,Qi,Qj,Qk,reduceCtorEq,reduceIte,US,g1,xT,hml,h4,g2,Ew,g4,YB,hl,hc]
    ·simp only[go_sem,Qb,Qc,Qd,Qe,Qh,Qi,Qj,Qk,reduceCtorEq,reduceIte,US,g1,xT,hml,h4,g2,Ew,g4,YB,hl,hc]
   |none=>
    rw[hp]at g2;simp only[mnz,Man.sv,eC,eG,bX]at g2;cases hw:mW B with
    |some w=>
     rw[hw]at g3;rw[if_neg (fun h=>by cases h.2)];obtain⟨wm,wf⟩:=w;simp only[wdO,Wd.sv]at g3;rw[an R7]
     by_cases hc:(L.length:Int)<t.thr
     ·simp only[go_sem,Q5,Qb,Qc,Qd,Qe,Qh,Qi,Qj,Qk,reduceCtorEq,reduceIte,US,g1,xT,hml,h4,g2,Ew,g3,YF,g4,YB,hl,hc]
     ·simp only[go_sem,Q5,Qb,Qc,Qd,Qe,Qh,Qi,Qj,Qk,reduceCtorEq,reduceIte,US,g1,xT,hml,h4,g2,Ew,g3,YF,g4,YB,hl,hc]
    |none=>rw[hw]at g3;rw[if_pos ⟨rfl,rfl⟩];simp only[wdO]at g3;rw[an R7];simp only[go_sem,Q5,Qe,Qh,Qi,Qj,Qk,reduceCtorEq,reduceIte,US,g1,xT,hml,h4,g2,Ew,g3,YF]
 ·rw[if_neg hE]
  unfold Tr.sv dX at*;generalize trE t=e at*;rw[an R7];simp only[go_sem,Qe,Qh,Qi,Qj,Qk,reduceCtorEq,reduceIte,US,g1,xT,hE]
def bI(w:Int)(i:Nat):Int:=bZ .and .i64 (w.fdiv (2^min i 64)) 1
def mkS(i:Nat)(B:List UInt8):Mk:=⟨3+2*(i:Int),sgn (ed (3+2*i)) 1 (if i=1 then 1 else 0) B⟩
def iO(w:Int)(B:List UInt8)(i:Nat)(ms:List Mk):List Mk:=if bI w i=1 then ms++ [mkS i B]else ms
def fS(w:Int)(B:List UInt8):List Mk:=iO w B 2 (iO w B 1 (iO w B 0 []))
theorem j9(w:Int)(B:List UInt8)(i:Nat)(ms:List Mk):(iO w B i ms).length<=ms.length+1:=by
 unfold iO;split
 ·rw[af];exact aK _
 ·omega
theorem Fc(w:Int)(B:List UInt8):(fS w B).length<=3:=by have h0:=j9 w B 0 [];have h1:=j9 w B 1 (iO w B 0 []);have h2:=j9 w B 2 (iO w B 1 (iO w B 0 []));unfold fS;rw[aB]at h0;omega
def mV:aC:= .rc [.byt [] .clip,.lst 2 [] .clip]
theorem xep(w:Int)(B:List UInt8)(hB:B.length<=100000000)(ms:List Mk)(hm:ms.length<=10)(te:Tok)(hte:te= .no\/te= .clip/\ms=[]):∃te',(te'= .no\/te'= .clip/\iO w B 0 ms=[])/\
 run T (.loop lG) ⟨[(1,.int .i64 w),(4,.ptr 104 0),(5,.ptr 105 0),(6,.int .i64 0)],[(104,mV),(105,.rc [.byt B .no,.lst 2 (ju ms) te])],[]⟩=
  run T (.loop lG) ⟨[(1,.int .i64 w),(4,.ptr 104 0),(5,.ptr 105 0),(6,.int .i64 1)],[(104,mV),(105,.rc [.byt B .no,.lst 2 (ju (iO w B 0 ms)) te'])],[]⟩:=by
 have u:aU.wrap 0=0:=by decide
 have k1:ah.wrap (0+1)=1:=by decide
 have k1':ah.wrap 1=1:=by decide
 have k2:ah.wrap (2*0)=0:=by decide
 have k2':ah.wrap 0=0:=by decide
 have k3:ah.wrap 3=3:=by decide
 have kl:bZ .and .i64 0 1=0:=by decide
 have g1:=f38 3;have g2:=f61 B ms 3 (ed 3) 1 0 (by omega) (by rw[eD];decide) hB (.inr (.inr (.inr rfl)));have hv:=ii ms;rw[show((3:Nat):Int)=3 from rfl]at g1;have em:mkS 0 B=⟨3,sgn (ed 3) 1 0 B⟩:=rfl
 by_cases hb:bI w 0=1
 ·refine⟨.no,.inl rfl, ?_⟩
  have ha:iO w B 0 ms=ms++ [mkS 0 B]:=if_pos hb;rw[ha,em];unfold dX at g2;generalize ju (ms++ [⟨3,sgn (ed 3) 1 0 B⟩])=Z at*;generalize ed 3=S at*;unfold bI at hb;unfold mV
  conv=>lhs;rw[ai]
  rcases hte with rfl|⟨rfl,rfl⟩
  ·simp only[go_sem,Q2,Q3,Q4,Q8,Qa,Qb,Qc,Qd,Qe,Qh,Qj,Qk,reduceCtorEq,reduceIte,u,hb,k1',k2',k3,kl,g1,rK,g2,Ny]
  ·have h0:ju []=[]:=rfl
   simp only[h0]at g2 ⊢;simp only[go_sem,Q2,Q3,Q4,Q8,Qa,Qb,Qc,Qd,Qe,Qh,Qj,Qk,reduceCtorEq,reduceIte,u,hb,k1',k2',k3,kl,g1,rK,g2,Ny]
 ·have ha:iO w B 0 ms=ms:=if_neg hb
  rw[ha];refine⟨te,hte, ?_⟩;unfold bI at hb;unfold mV
  conv=>lhs;rw[ai]
  rcases hte with rfl|⟨rfl,rfl⟩
  ·simp only[go_sem,Q2,Q3,Q4,Q8,Qa,Qe,Qh,Qj,Qk,reduceCtorEq,reduceIte,u,hb,k1']
  ·simp only[go_sem,Q2,Q3,Q4,Q8,Qa,Qe,Qh,Qj,Qk,reduceCtorEq,reduceIte,u,hb,k1']
theorem xeo(w:Int)(B:List UInt8)(hB:B.length<=100000000)(ms:List Mk)(hm:ms.length<=10)(te:Tok)(hte:te= .no\/te= .clip/\ms=[]):∃te',(te'= .no\/te'= .clip/\iO w B 1 ms=[])/\
 run T (.loop lG) ⟨[(1,.int .i64 w),(4,.ptr 104 0),(5,.ptr 105 0),(6,.int .i64 1)],[(104,mV),(105,.rc [.byt B .no,.lst 2 (ju ms) te])],[]⟩=
  run T (.loop lG) ⟨[(1,.int .i64 w),(4,.ptr 104 0),(5,.ptr 105 0),(6,.int .i64 2)],[(104,mV),(105,.rc [.byt B .no,.lst 2 (ju (iO w B 1 ms)) te'])],[]⟩:=by
 have u:aU.wrap 1=1:=by decide
 have k1:ah.wrap (1+1)=2:=by decide
 have k1':ah.wrap 2=2:=by decide
 have k2:ah.wrap (2*1)=2:=by decide
 have k2':ah.wrap 2=2:=by decide
 have k3:ah.wrap 5=5:=by decide
 have kl:bZ .and .i64 1 1=1:=by decide
 have g1:=f38 5;have g2:=f61 B ms 5 (ed 5) 1 1 (by omega) (by rw[eD];decide) hB (.inr (.inr (.inr rfl)));have hv:=ii ms;rw[show((5:Nat):Int)=5 from rfl]at g1;have em:mkS 1 B=⟨5,sgn (ed 5) 1 1 B⟩:=rfl
 by_cases hb:bI w 1=1
 ·refine⟨.no,.inl rfl, ?_⟩
  have ha:iO w B 1 ms=ms++ [mkS 1 B]:=if_pos hb;rw[ha,em];unfold dX at g2;generalize ju (ms++ [⟨5,sgn (ed 5) 1 1 B⟩])=Z at*;generalize ed 5=S at*;unfold bI at hb;unfold mV
  conv=>lhs;rw[ai]
  rcases hte with rfl|⟨rfl,rfl⟩
  ·simp only[go_sem,Q2,Q3,Q4,Q8,Qa,Qb,Qc,Qd,Qe,Qh,Qj,Qk,reduceCtorEq,reduceIte,u,hb,k1',k3,kl,g1,rK,g2,Ny]
  ·have h0:ju []=[]:=rfl
   simp only[h0]at g2 ⊢;simp only[go_sem,Q2,Q3,Q4,Q8,Qa,Qb,Qc,Qd,Qe,Qh,Qj,Qk,reduceCtorEq,reduceIte,u,hb,k1',k3,kl,g1,rK,g2,Ny]
 ·have ha:iO w B 1 ms=ms:=if_neg hb
  rw[ha];refine⟨te,hte, ?_⟩;unfold bI at hb;unfold mV
  conv=>lhs;rw[ai]
  rcases hte with rfl|⟨rfl,rfl⟩
  ·simp only[go_sem,Q2,Q3,Q4,Q8,Qa,Qe,Qh,Qj,Qk,reduceCtorEq,reduceIte,u,hb,k1']
  ·simp only[go_sem,Q2,Q3,Q4,Q8,Qa,Qe,Qh,Qj,Qk,reduceCtorEq,reduceIte,u,hb,k1']
theorem xen(w:Int)(B:List UInt8)(hB:B.length<=100000000)(ms:List Mk)(hm:ms.length<=10)(te:Tok)(hte:te= .no\/te= .clip/\ms=[]):∃te',(te'= .no\/te'= .clip/\iO w B 2 ms=[])/\
 run T (.loop lG) ⟨[(1,.int .i64 w),(4,.ptr 104 0),(5,.ptr 105 0),(6,.int .i64 2)],[(104,mV),(105,.rc [.byt B .no,.lst 2 (ju ms) te])],[]⟩=
  run T (.loop lG) ⟨[(1,.int .i64 w),(4,.ptr 104 0),(5,.ptr 105 0),(6,.int .i64 3)],[(104,mV),(105,.rc [.byt B .no,.lst 2 (ju (iO w B 2 ms)) te'])],[]⟩:=by
 have u:aU.wrap 2=2:=by decide
 have k1:ah.wrap (2+1)=3:=by decide
 have k1':ah.wrap 3=3:=by decide
 have k2:ah.wrap (2*2)=4:=by decide
 have k2':ah.wrap 4=4:=by decide
 have k3:ah.wrap 7=7:=by decide
 have kl:bZ .and .i64 2 1=0:=by decide
 have g1:=f38 7;have g2:=f61 B ms 7 (ed 7) 1 0 (by omega) (by rw[eD];decide) hB (.inr (.inr (.inr rfl)));have hv:=ii ms;rw[show((7:Nat):Int)=7 from rfl]at g1;have em:mkS 2 B=⟨7,sgn (ed 7) 1 0 B⟩:=rfl
 by_cases hb:bI w 2=1
 ·refine⟨.no,.inl rfl, ?_⟩
  have ha:iO w B 2 ms=ms++ [mkS 2 B]:=if_pos hb;rw[ha,em];unfold dX at g2;generalize ju (ms++ [⟨7,sgn (ed 7) 1 0 B⟩])=Z at*;generalize ed 7=S at*;unfold bI at hb;unfold mV
  conv=>lhs;rw[ai]
  rcases hte with rfl|⟨rfl,rfl⟩
  ·simp only[go_sem,Q2,Q3,Q4,Q8,Qa,Qb,Qc,Qd,Qe,Qh,Qj,Qk,reduceCtorEq,reduceIte,u,hb,k1',k2',k3,kl,g1,rK,g2,Ny]
  ·have h0:ju []=[]:=rfl
   simp only[h0]at g2 ⊢;simp only[go_sem,Q2,Q3,Q4,Q8,Qa,Qb,Qc,Qd,Qe,Qh,Qj,Qk,reduceCtorEq,reduceIte,u,hb,k1',k2',k3,kl,g1,rK,g2,Ny]
 ·have ha:iO w B 2 ms=ms:=if_neg hb
  rw[ha];refine⟨te,hte, ?_⟩;unfold bI at hb;unfold mV
  conv=>lhs;rw[ai]
  rcases hte with rfl|⟨rfl,rfl⟩
  ·simp only[go_sem,Q2,Q3,Q4,Q8,Qa,Qe,Qh,Qj,Qk,reduceCtorEq,reduceIte,u,hb,k1']
  ·simp only[go_sem,Q2,Q3,Q4,Q8,Qa,Qe,Qh,Qj,Qk,reduceCtorEq,reduceIte,u,hb,k1']
theorem f33(B:List UInt8)(hB:B.length<=100000000)(w:Int):call T 33 [.byt B .no,.int .i64 w] [] 0=some ⟨.agg (dX B (fS w B)),[],[]⟩:=by
 have l0:=j9 w B 0 [];have l1:=j9 w B 1 (iO w B 0 []);rw[aB]at l0;obtain⟨t0,q0,e0⟩:=xep w B hB [] (by simp) .clip (.inr ⟨rfl,rfl⟩);obtain⟨t1,q1,e1⟩:=xeo w B hB _ (by omega) t0 q0;obtain⟨t2,q2,e2⟩:=xen w B hB _ (by omega) t1 q1;have e:=e0.trans (e1.trans e2);have h0:ju []=[]:=rfl;rw[h0]at e;change _=run T (.loop lG) ⟨_,[_,(105,.rc [.byt B .no,.lst 2 (ju (fS w B)) t2])],_⟩at e
 have e4:run T (.loop lG) ⟨[(1,.int .i64 w),(4,.ptr 104 0),(5,.ptr 105 0),(6,.int .i64 3)],[(104,mV),(105,.rc [.byt B .no,.lst 2 (ju (fS w B)) t2])],[]⟩=some (.x 0,⟨[(4,.ptr 104 0),(5,.ptr 105 0)],[(104,mV),(105,.rc [.byt B .no,.lst 2 (ju (fS w B)) t2])],[]⟩):=by rw[ai];unfold mV;rcases q2 with rfl|⟨rfl,_⟩<;>simp only[go_sem,Q4,Qh,Qj,Qk,reduceIte]
 rw[e4]at e;unfold mV at e;unfold dX;rw[an xmP];simp only[go_sem,Qe,Qh,Qi,Qj,Qk,reduceCtorEq,reduceIte,e]
def uc(B:List UInt8):Prop:=kU B≠none\/mW B≠none
theorem Dd{α:Type}(l:List α)(d x:α):x∈l↔∃i,i<l.length/\l.getD i d=x:=by
 constructor
 ·intro h
  obtain⟨i,hi,e⟩:=bn h;exact⟨i,hi,by rw[aa,ac hi];exact e⟩
 ·rintro⟨i,hi,rfl⟩
  exact sI l d i hi
theorem QC(t:Tr)(B:List UInt8)(ms:List Mk)(x:Int):x∈sgO t B ms↔∃m∈ms,gdB t B m=true/\m.auth=x:=by
 unfold sgO;rw[Bx];constructor
 ·rintro⟨j,h1,h2,h3⟩
  exact⟨ms.getD j mk0,sI _ _ _ h1,h2,h3⟩
 ·rintro⟨m,h1,h2,h3⟩
  obtain⟨j,hj,rfl⟩:=(Dd ms mk0 m).1 h1;exact⟨j,hj,h2,h3⟩
def Yj(w:Int):Nat->Nat
 |0=>0
 |n+1=>Yj w n+(if bI w n=1 then 1 else 0)
def xw(w:Int):Nat->List Int
 |0=> []
 |n+1=>xw w n++(if bI w n=1 then [3+2*(n:Int)]else [])
theorem vH(w:Int):∀n,(xw w n).length=Yj w n
 |0=>rfl
 |n+1=>by rw[xw,Yj,af,vH w n];split<;>rfl
theorem pj(w x:Int):∀n,x∈xw w n↔∃i,i<n/\bI w i=1/\3+2*(i:Int)=x
 |0=>by simp[xw]
 |n+1=>by
  rw[xw,al,pj w x n];constructor
  ·rintro(⟨i,h1,h2⟩|h)
   ·exact⟨i,by omega,h2⟩
   ·split at h
    ·rename_i hb
     exact⟨n,by omega,hb,(bw.1 h).symm⟩
    ·cases h
  ·rintro⟨i,h1,h2,h3⟩
   by_cases e:i=n
   ·subst e
    refine .inr ?_;rw[if_pos h2];simp[h3]
   ·exact .inl ⟨i,by omega,h2,h3⟩
theorem sH(w:Int):∀n,(xw w n).Pairwise (· < ·)
 |0=>qH.nil
 |n+1=>by
  rw[xw];refine dw.2 ⟨sH w n,by split<;>simp,fun a ha b hb=> ?_⟩;obtain⟨i,h1,_,rfl⟩:=(pj w a n).1 ha;split at hb
  ·rw[bw.1 hb];omega
  ·cases hb
theorem vt(w:Int)(B:List UInt8)(m:Mk):m∈fS w B↔∃i,i<3/\bI w i=1/\m=mkS i B:=by
 have key:∀i ms,m∈iO w B i ms↔m∈ms\/(bI w i=1/\m=mkS i B):=fun i ms=>by
  unfold iO;split
  ·rename_i h;simp[h]
  ·rename_i h;simp[h]
 unfold fS;rw[key,key,key];constructor
 ·rintro(((h|h)|h)|h)
  ·cases h
  ·exact⟨0,by decide,h⟩
  ·exact⟨1,by decide,h⟩
  ·exact⟨2,by decide,h⟩
 ·rintro⟨i,hi,h⟩
  rcases (by omega:i=0\/i=1\/i=2)with rfl|rfl|rfl
  ·exact .inl (.inl (.inr h))
  ·exact .inl (.inr h)
  ·exact .inr h
theorem Rc(t:Tr)(B:List UInt8)(m:Mk):gdB t B m=true↔∃i,i<t.au.length/\(t.au.getD i au0).id=m.auth/\jT (t.au.getD i au0).key B m.sig=true:=by
 unfold gdB;rw[List.any_eq_true];constructor
 ·rintro⟨i,hi,h⟩
  simp only[aA,decide_eq_true_eq]at h;exact⟨i,dJ.1 hi,h.1,h.2⟩
 ·rintro⟨i,hi,h1,h2⟩
  exact⟨i,dJ.2 hi,by rw[h2,decide_eq_true h1];rfl⟩
theorem Nk(k:Nat)(thr:Int)(B:List UInt8)(i:Nat)(hi:i<3):gdB (trL k thr) B (mkS i B)=true↔i<k+1:=by
 rw[Rc];have hl:=BT k;show(∃j,j<(auL k).length/\((auL k).getD j au0).id=(mkS i B).auth/\jT ((auL k).getD j au0).key B (mkS i B).sig=true)↔_;rw[hl];constructor
 ·rintro⟨j,h1,h2,_⟩
  rw[md k j (by omega)]at h2;have:(3:Int)+2*(j:Int)=3+2*(i:Int):=h2;omega
 ·intro h
  refine⟨i,h, ?_, ?_⟩
  ·rw[md k i (by omega)];rfl
  ·rw[md k i (by omega)]
   show jT (iB (ed (3+2*i)) 1) B (sgn (ed (3+2*i)) 1 (if i=1 then 1 else 0) B)=true
   by_cases e:i=1
   ·rw[if_pos e,GS];exact zM _ _ _ (by decide)
   ·rw[if_neg e,GT];exact zM _ _ _ (by decide)
theorem CK(k:Nat)(hk:k<=2)(thr w:Int)(B:List UInt8):sgL (trL k thr) B (fS w B)=xw w (k+1):=by
 rw[<-Cu (sH w (k+1))];refine uJ (mm _ _ _ _ _) (FV (sH _ _)) fun x=> ?_
 show x∈sgO (trL k thr) B (fS w B)↔_;rw[QC,pj];constructor
 ·rintro⟨m,h1,h2,h3⟩
  obtain⟨i,hi,hb,rfl⟩:=(vt w B m).1 h1;exact⟨i,(Nk k thr B i hi).1 h2,hb,h3⟩
 ·rintro⟨i,hi,hb,h⟩
  exact⟨mkS i B,(vt w B _).2 ⟨i,by omega,hb,rfl⟩,(Nk k thr B i (by omega)).2 hi,h⟩
end Go.Proofs.YtbfnljmmepcbfaaGreatDoor
