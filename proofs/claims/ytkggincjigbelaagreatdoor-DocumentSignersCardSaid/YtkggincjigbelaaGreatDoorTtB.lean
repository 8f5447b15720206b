/- What the functions come to. No condition. -/
import Derived.Test.YtkggincjigbelaaGreatDoorTkB
open Bool renaming and_eq_true -> aB, or_eq_true -> eH
open Int renaming natCast_zero -> aw
open List renaming Pairwise -> ge, cons -> nZ, drop -> gJ, drop_length -> bG, drop_zero -> bj, length_cons -> aj, length_drop -> aI, length_take -> ax, mem_append -> al, mem_cons -> av, mem_range -> dy, mem_singleton -> bf, pairwise_cons -> cC, range -> bE, range' -> qP, take -> fv, take_length -> cK
open Nat renaming le_refl -> aH, zero_add -> bX, zero_le -> bt
set_option maxRecDepth 100000
set_option maxHeartbeats 16000000
set_option linter.unusedSimpArgs false
set_option linter.unusedVariables false
namespace Go.Proofs.YtkggincjigbelaaGreatDoor
open Go.Sy
open UInt8 renaming reduceLT -> Q0, reduceLE -> Q1
open Int renaming reduceToNat -> Q2, reduceLE -> Q3, reduceLT -> Q4, reduceEq -> Q5, reduceNe -> Q6, reduceNeg -> Q7, reduceAdd -> Q8, reduceSub -> Q9, reduceMul -> Qa
open Nat renaming reducePow -> Qb, reduceDiv -> Qc, reduceMod -> Qd, reduceAdd -> Qe, reduceSub -> Qf, reduceMul -> Qg, reduceLT -> Qh, reduceLeDiff -> Qi, reduceEqDiff -> Qj, reduceBEq -> Qk
def oS(x:Int):List Int->List Int
 |[]=> [x]
 |y::r=>if y<x then y::oS x r else if y=x then y::r else x::y::r
def lbI(x:Int):List Int->Nat
 |[]=>0
 |y::r=>if y<x then lbI x r+1 else 0
theorem zh(x:Int):∀l,lbI x l<=l.length
 |[]=>aH _
 |y::r=>by
  unfold lbI;split
  ·have:=zh x r;rw[aj];omega
  ·exact bt _
theorem NV(x:Int):∀(l:List Int)(i:Nat),i<lbI x l->l.getD i 0<x
 |[],i,h=>by cases h
 |y::r,i,h=>by
  unfold lbI at h;split at h
  ·rename_i hy
   cases i with
   |zero=>exact hy
   |succ i=>exact NV x r i (by omega)
  ·omega
theorem NW(x:Int):∀(l:List Int),lbI x l<l.length->¬l.getD (lbI x l) 0<x
 |[],h=>by cases h
 |y::r,h=>by
  unfold lbI at h ⊢;split
  ·rename_i hy
   rw[if_pos hy,aj]at h;exact NW x r (by omega)
  ·rename_i hy;exact hy
theorem BP(x:Int):∀(l:List Int),oS x l=if lbI x l<l.length/\l.getD (lbI x l) 0=x then l else l.take (lbI x l)++x::l.drop (lbI x l)
 |[]=>by simp[oS,lbI]
 |y::r=>by
  unfold oS lbI
  by_cases hy:y<x
  ·rw[if_pos hy,if_pos hy,BP x r]
   by_cases hc:lbI x r<r.length/\r.getD (lbI x r) 0=x
   ·rw[if_pos hc,if_pos (by rw[aj];exact⟨by omega,hc.2⟩)]
   ·rw[if_neg hc,if_neg (by rw[aj];exact fun h=>hc ⟨by omega,h.2⟩)]
    rfl
  ·rw[if_neg hy,if_neg hy]
   by_cases e:y=x
   ·rw[if_pos e,if_pos ⟨by simp,e⟩]
   ·rw[if_neg e,if_neg (fun h=>e h.2)];rfl
theorem pz(x y:Int):∀l,y∈oS x l↔y=x\/y∈l
 |[]=>by simp[oS]
 |z::r=>by
  unfold oS;split
  ·rw[av,pz x y r,av]
   constructor
   ·rintro(h|h|h)
    ·exact .inr (.inl h)
    ·exact .inl h
    ·exact .inr (.inr h)
   ·rintro(h|h|h)
    ·exact .inr (.inl h)
    ·exact .inl h
    ·exact .inr (.inr h)
  ·split
   ·rename_i h;subst h;simp
   ·simp
theorem BO(x:Int):∀l:List Int,l.Pairwise (· < ·)->(oS x l).Pairwise (· < ·)
 |[],_=>by simp[oS]
 |z::r,h=>by
  obtain⟨h1,h2⟩:=cC.1 h;unfold oS;split
  ·rename_i hz
   refine cC.2 ⟨fun y hy=> ?_,BO x r h2⟩;rcases (pz x y r).1 hy with rfl|hy
   ·exact hz
   ·exact h1 y hy
  ·rename_i hz
   split
   ·exact h
   ·rename_i hx
    refine cC.2 ⟨fun y hy=> ?_,h⟩;rcases av.1 hy with rfl|hy
    ·omega
    ·have:=h1 y hy;omega
section
variable (aid mid : Nat -> Int) (V : Nat -> Nat -> Bool)
def gdF(n j:Nat):Bool:=(bE n).any fun i=>decide (aid i=mid j)&&V i j
theorem BU(n j:Nat):gdF aid mid V n j=true↔∃i,i<n/\aid i=mid j/\V i j=true:=by
 unfold gdF;rw[List.any_eq_true];constructor
 ·rintro⟨i,hi,h⟩
  simp only[aB,decide_eq_true_eq]at h;exact⟨i,dy.1 hi,h.1,h.2⟩
 ·rintro⟨i,hi,h1,h2⟩
  exact⟨i,dy.2 hi,by simp[h1,h2]⟩
def rsg(n:Nat):Nat->List Int
 |0=> []
 |j+1=>if gdF aid mid V n j=true then oS (mid j) (rsg n j)else rsg n j
theorem ua(n:Nat):∀m,(rsg aid mid V n m).Pairwise (· < ·)
 |0=>ge.nil
 |m+1=>by
  unfold rsg;split
  ·exact BO _ _ (ua n m)
  ·exact ua n m
theorem s9(n:Nat)(x:Int):∀m,x∈rsg aid mid V n m↔∃j,j<m/\gdF aid mid V n j=true/\mid j=x
 |0=>by simp[rsg]
 |m+1=>by
  unfold rsg;split
  ·rename_i hg
   rw[pz,s9 n x m];constructor
   ·rintro(h|⟨j,h1,h2,h3⟩)
    ·exact⟨m,by omega,hg,h.symm⟩
    ·exact⟨j,by omega,h2,h3⟩
   ·rintro⟨j,h1,h2,h3⟩
    by_cases e:j=m
    ·subst e;exact .inl h3.symm
    ·exact .inr ⟨j,by omega,h2,h3⟩
  ·rename_i hg
   rw[s9 n x m];constructor
   ·rintro⟨j,h1,h2,h3⟩;exact⟨j,by omega,h2,h3⟩
   ·rintro⟨j,h1,h2,h3⟩
    by_cases e:j=m
    ·subst e;exact absurd h2 hg
    ·exact⟨j,by omega,h2,h3⟩
theorem BL(j:Nat)(ks:List Int)(x:Int):∀n,x∈Si.inn aid mid V j ks n↔x∈ks\/∃i,i<n/\aid i=mid j/\V i j=true/\aid i=x
 |0=>by simp[Si.inn]
 |n+1=>by
  have ih:=BL j ks x n;show x∈Si.stp aid mid V (Si.inn aid mid V j ks n) n j↔_
  have e:(∃i,i<n+1/\aid i=mid j/\V i j=true/\aid i=x)↔(∃i,i<n/\aid i=mid j/\V i j=true/\aid i=x)\/(aid n=mid j/\V n j=true/\aid n=x):=by
   constructor
   ·rintro⟨i,h1,h2⟩
    by_cases e:i=n
    ·subst e;exact .inr h2
    ·exact .inl ⟨i,by omega,h2⟩
   ·rintro(⟨i,h1,h2⟩|h2)
    ·exact⟨i,by omega,h2⟩
    ·exact⟨n,by omega,h2⟩
  rw[e];unfold Si.stp;split
  ·rename_i hc
   rw[al,ih,bf];constructor
   ·rintro((h|h)|h)
    ·exact .inl h
    ·exact .inr (.inl h)
    ·exact .inr (.inr ⟨hc.1,hc.2.2,h.symm⟩)
   ·rintro(h|h|h)
    ·exact .inl (.inl h)
    ·exact .inl (.inr h)
    ·exact .inr h.2.2.symm
  ·rename_i hc
   constructor
   ·intro h
    rcases ih.1 h with h|h
    ·exact .inl h
    ·exact .inr (.inl h)
   ·rintro(h|h|h)
    ·exact ih.2 (.inl h)
    ·exact ih.2 (.inr h)
    ·by_cases hm:aid n∈Si.inn aid mid V j ks n
     ·rw[<-h.2.2];exact hm
     ·exact absurd ⟨h.1,hm,h.2.1⟩ hc
theorem ta(n:Nat)(x:Int):∀m,x∈Si.out aid mid V n m↔∃j,j<m/\gdF aid mid V n j=true/\mid j=x
 |0=>by simp[Si.out]
 |m+1=>by
  show x∈Si.inn aid mid V m (Si.out aid mid V n m) n↔_;rw[BL,ta n x m];constructor
  ·rintro(⟨j,h1,h2,h3⟩|⟨i,h1,h2,h3,h4⟩)
   ·exact⟨j,by omega,h2,h3⟩
   ·exact⟨m,by omega,(BU aid mid V n m).2 ⟨i,h1,h2,h3⟩,by rw[<-h2];exact h4⟩
  ·rintro⟨j,h1,h2,h3⟩
   by_cases e:j=m
   ·subst e
    obtain⟨i,k1,k2,k3⟩:=(BU aid mid V n j).1 h2;exact .inr ⟨i,k1,k2,k3,by rw[k2];exact h3⟩
   ·exact .inl ⟨j,by omega,h2,h3⟩
end
theorem vE{l:List Int}(h:l.Pairwise (· < ·)):l.Nodup:=h.imp fun h e=>by omega
theorem rl{l:List Int}(h:l.Pairwise (· < ·)):Si.srt l=l:=by
 have tr:∀a b c:Int,decide (a<=b)=true->decide (b<=c)=true->decide (a<=c)=true:=fun a b c h1 h2=>by simp only[decide_eq_true_eq]at*;omega
 have to:∀a b:Int,(decide (a<=b)||decide (b<=a))=true:=fun a b=>by simp only[eH,decide_eq_true_eq];omega
 refine List.Perm.eq_of_pairwise (le:=fun a b=>decide (a<=b)=true) (fun a b _ _ h1 h2=> ?_) (List.pairwise_mergeSort tr to l) (h.imp fun h=>by simp only[decide_eq_true_eq];omega) (List.mergeSort_perm l _);simp only[decide_eq_true_eq]at h1 h2;omega
theorem sH(t:Tr)(B:List UInt8)(ms:List Mk):sgL t B ms=rsg (mA t) (m5 ms) (oe t B ms) t.au.length ms.length:=by unfold sgL sgO;rw[<-rl (ua (mA t) (m5 ms) (oe t B ms) t.au.length ms.length)];exact lQ (gY _ _ _ _ _) (vE (ua _ _ _ _ _)) fun x=>by rw[ta,s9]
theorem oZ(l:List Int)(i:Nat)(h:i<l.length):l.drop i=l.getD i 0::l.drop (i+1):=mP l i h
theorem l31(a b:List Int)(hl:a.length<=1000000000)(hab:a.length=b.length):∀(n i:Nat),a.length-i=n->i<=a.length->
 run T (.loop OH) ⟨[(0,.lst 1 (isv a) .no),(1,.lst 1 (isv b) .no),(5,.int .i64 i)],[],[]⟩=if a.drop i=b.drop i then some (.x 0,⟨[],[],[]⟩)else some (.r,⟨[(4,.bool false)],[],[]⟩):=by
 intro n;have hv:=fK a;have hw:=fK b;induction n with
 |zero=>
  intro i h0 h1;have hi:i=a.length:=by omega
  subst hi;have e:gJ a.length b=[]:=by rw[hab,bG]
  rw[ai];simp only[go_sem,Q0,Q1,Q2,Q3,Q4,Q5,Q6,Q7,Q8,Q9,Qa,Qb,Qc,Qd,Qe,Qf,Qg,Qh,Qi,Qj,Qk,reduceCtorEq,reduceIte,bG,e,hv]
 |succ n ih=>
  intro i h0 h1;have hi:i<a.length:=by omega
  have hi2:i<b.length:=by omega
  have g1:=jD a i hi;have g2:=jD b i hi2;have e1:=cA i (by omega);rw[ai,oZ a i hi,oZ b i hi2];simp only[go_sem,Q0,Q1,Q2,Q3,Q4,Q5,Q6,Q7,Q8,Q9,Qa,Qb,Qc,Qd,Qe,Qf,Qg,Qh,Qi,Qj,Qk,reduceCtorEq,reduceIte,hi,hi2,hv,hw,g1,g2,e1,ih (i+1) (by omega) (by omega),nZ.injEq]
  by_cases hc:a.getD i 0=b.getD i 0<;>simp only[hc,go_sem,Q0,Q1,Q2,Q3,Q4,Q5,Q6,Q7,Q8,Q9,Qa,Qb,Qc,Qd,Qe,Qf,Qg,Qh,Qi,Qj,Qk,reduceCtorEq,reduceIte]
theorem f31(a b:List Int)(hl:a.length<=1000000000):call T 31 [.lst 1 (isv a) .no,.lst 1 (isv b) .no] [] 0=some ⟨.bool (decide (a=b)),[],[]⟩:=by
 have hv:=fK a;have hw:=fK b;rw[ah xpM]
 by_cases hab:a.length=b.length
 ·have h:=l31 a b hl hab _ 0 rfl (by omega)
  simp only[aw,bj]at h;simp only[go_sem,Q0,Q1,Q2,Q3,Q4,Q5,Q6,Q7,Q8,Q9,Qa,Qb,Qc,Qd,Qe,Qf,Qg,Qh,Qi,Qj,Qk,reduceCtorEq,reduceIte,hv,hw,hab,h]
  by_cases hc:a=b<;>simp only[hc,go_sem,Q0,Q1,Q2,Q3,Q4,Q5,Q6,Q7,Q8,Q9,Qa,Qb,Qc,Qd,Qe,Qf,Qg,Qh,Qi,Qj,Qk,reduceCtorEq,reduceIte]
 ·have hc:a≠b:=fun e=>hab (by rw[e])
  simp only[go_sem,Q0,Q1,Q2,Q3,Q4,Q5,Q6,Q7,Q8,Q9,Qa,Qb,Qc,Qd,Qe,Qf,Qg,Qh,Qi,Qj,Qk,reduceCtorEq,reduceIte,hv,hw,hab,hc]
def gdB(t:Tr)(B:List UInt8)(m:Mk):Bool:=(bE t.au.length).any fun i=>decide ((t.au.getD i au0).id=m.auth)&&fw (t.au.getD i au0).key B m.sig
def gdS(t:Tr)(B:List UInt8)(m:Mk):Nat->Nat->Bool
 |0,_=>false
 |n+1,i=>(decide ((t.au.getD i au0).id=m.auth)&&fw (t.au.getD i au0).key B m.sig)||gdS t B m n (i+1)
theorem BT(t:Tr)(B:List UInt8)(m:Mk):∀n i,gdS t B m n i=(qP i n).any fun i=>decide ((t.au.getD i au0).id=m.auth)&&fw (t.au.getD i au0).key B m.sig
 |0,_=>rfl
 |n+1,i=>by rw[gdS,BT t B m n (i+1),List.range'_succ,List.any_cons]
theorem RR(t:Tr)(B:List UInt8)(m:Mk):gdS t B m t.au.length 0=gdB t B m:=by rw[BT,gdB,List.range_eq_range']
theorem l60(t:Tr)(B:List UInt8)(m:Mk)(hn:t.au.length<=1000000000)(hB:B.length<=100000000):∀(n i:Nat),i+n=t.au.length->
 run T (.loop Ox) ⟨[(1,.byt B .no),(3,.ptr 103 0),(5,.ptr 105 0),(7,.int .i64 i)],[(103,.rc t.sv),(105,.rc m.sv)],[]⟩=
  if gdS t B m n i=true then some (.r,⟨[(6,.bool true)],[(103,.rc t.sv),(105,.rc m.sv)],[]⟩)else some (.x 0,⟨[],[(103,.rc t.sv),(105,.rc m.sv)],[]⟩):=by
 intro n;induction n with
 |zero=>
  intro i h;have hi:i=t.au.length:=by omega
  have hv:=dx t.au;subst hi;have e:gdS t B m 0 t.au.length=false:=rfl;rw[e,ai];simp only[Tr.sv,go_sem,Q0,Q1,Q2,Q3,Q4,Q5,Q6,Q7,Q8,Q9,Qa,Qb,Qc,Qd,Qe,Qf,Qg,Qh,Qi,Qj,Qk,reduceCtorEq,reduceIte,hv]
 |succ n ih=>
  intro i h;have hi:i<t.au.length:=by omega
  have hv:=dx t.au;have hg:=gH t.au i hi;have e1:=cA i (by omega);have ih':=ih (i+1) (by omega);have e:gdS t B m (n+1) i=((decide ((t.au.getD i au0).id=m.auth)&&fw (t.au.getD i au0).key B m.sig)||gdS t B m n (i+1)):=rfl;rw[e];generalize gdS t B m n (i+1)=Z at*;have g98:=f98 (t.au.getD i au0).key B m.sig hB;unfold Eh at g98;generalize hx:t.au.getD i au0=x at*;obtain⟨d,k⟩:=x;obtain⟨au,th⟩:=t;obtain⟨a,g⟩:=m;simp only[Tr.sv,Mk.sv,Au.sv]at*;generalize fw k B g=V at*;generalize (if V=true then((g.getD 0 0).toNat:Int)else 0)=L at*;rw[ai]
  by_cases h1:d=a
  ·cases V with
   |true=>simp only[go_sem,Q0,Q1,Q2,Q3,Q4,Q5,Q6,Q7,Q8,Q9,Qa,Qb,Qc,Qd,Qe,Qf,Qg,Qh,Qi,Qj,Qk,reduceCtorEq,reduceIte,hi,hv,hg,h1,g98,xmB,decide_true,Bool.and_self,Bool.true_or]
   |false=>simp only[go_sem,Q0,Q1,Q2,Q3,Q4,Q5,Q6,Q7,Q8,Q9,Qa,Qb,Qc,Qd,Qe,Qf,Qg,Qh,Qi,Qj,Qk,reduceCtorEq,reduceIte,hi,hv,hg,h1,g98,xmB,e1,ih',Bool.and_false,Bool.false_or]
  ·simp only[go_sem,Q0,Q1,Q2,Q3,Q4,Q5,Q6,Q7,Q8,Q9,Qa,Qb,Qc,Qd,Qe,Qf,Qg,Qh,Qi,Qj,Qk,reduceCtorEq,reduceIte,hi,hv,hg,h1,e1,ih',decide_false,Bool.false_and,Bool.false_or]
theorem f60(t:Tr)(B:List UInt8)(m:Mk)(hn:t.au.length<=1000000000)(hB:B.length<=100000000):call T 60 [.agg t.sv,.byt B .no,.agg m.sv] [] 0=some ⟨.bool (gdB t B m),[],[]⟩:=by
 have h:=l60 t B m hn hB t.au.length 0 (bX _);rw[RR,aw]at h;obtain⟨au,th⟩:=t;obtain⟨a,g⟩:=m;simp only[Tr.sv,Mk.sv]at*;rw[ah xpv]
 by_cases hc:gdB ⟨au,th⟩ B ⟨a,g⟩=true
 ·rw[if_pos hc]at h
  rw[hc];simp only[go_sem,Q0,Q1,Q2,Q3,Q4,Q5,Q6,Q7,Q8,Q9,Qa,Qb,Qc,Qd,Qe,Qf,Qg,Qh,Qi,Qj,Qk,reduceCtorEq,reduceIte,h]
 ·rw[if_neg hc]at h
  rw[Bool.not_eq_true]at hc;rw[hc];simp only[go_sem,Q0,Q1,Q2,Q3,Q4,Q5,Q6,Q7,Q8,Q9,Qa,Qb,Qc,Qd,Qe,Qf,Qg,Qh,Qi,Qj,Qk,reduceCtorEq,reduceIte,h]
theorem vL(x:Int):∀l,(oS x l).length<=l.length+1
 |[]=>aH _
 |y::r=>by
  unfold oS;split
  ·have:=vL x r;rw[aj,aj];omega
  ·split
   ·omega
   ·exact aH _
theorem oz(aid mid:Nat->Int)(V:Nat->Nat->Bool)(n:Nat):∀m,(rsg aid mid V n m).length<=m
 |0=>aH _
 |m+1=>by
  have:=oz aid mid V n m;unfold rsg;split
  ·have:=vL (mid m) (rsg aid mid V n m);omega
  ·omega
def Tb(t:Tr)(B:List UInt8)(ms:List Mk)(L:List Int)(j:Nat):CSt:=⟨[(2,.ptr 102 0),(3,.ptr 103 0),(5,.lst 1 (isv L) (.id 105)),(6,.int .i64 j)],[(102,.rc t.sv),(103,.rc (bS B ms))],[105]⟩
theorem xnD(O1 O2:aF)(L:List Int)(x j:Int)(hn:L.length<=1000000000):∀(m k:Nat),lbI x L-k=m->k<=lbI x L->
 run T (.loop OG) ⟨[(2,.ptr 102 0),(3,.ptr 103 0),(5,.lst 1 (isv L) (.id 105)),(6,.int .i64 j),(7,.int .i64 x),(8,.int .i64 k)],[(102,O1),(103,O2)],[105]⟩=
  some (.x 2,⟨[(2,.ptr 102 0),(3,.ptr 103 0),(5,.lst 1 (isv L) (.id 105)),(6,.int .i64 j),(7,.int .i64 x),(8,.int .i64 (lbI x L))],[(102,O1),(103,O2)],[105]⟩):=by
 intro m;have hv:=fK L;have hle:=zh x L;induction m with
 |zero=>
  intro k h0 h1;have hk:lbI x L=k:=by omega
  by_cases hq:k<L.length
  ·have hg:=jD L k hq
   have hc:¬L.getD k 0<x:=by rw[<-hk];exact NW x L (by omega)
   rw[hk,ai];simp only[go_sem,Q0,Q1,Q2,Q3,Q4,Q5,Q6,Q7,Q8,Q9,Qa,Qb,Qc,Qd,Qe,Qf,Qg,Qh,Qi,Qj,Qk,reduceCtorEq,reduceIte,hv,hq,hg,hc]
  ·rw[hk,ai]
   simp only[go_sem,Q0,Q1,Q2,Q3,Q4,Q5,Q6,Q7,Q8,Q9,Qa,Qb,Qc,Qd,Qe,Qf,Qg,Qh,Qi,Qj,Qk,reduceCtorEq,reduceIte,hv,hq]
 |succ m ih=>
  intro k h0 h1;have hq:k<L.length:=by omega
  have hg:=jD L k hq;have hc:L.getD k 0<x:=NV x L k (by omega);have e1:=cA k (by omega);have ih':=ih (k+1) (by omega) (by omega);rw[ai];simp only[go_sem,Q0,Q1,Q2,Q3,Q4,Q5,Q6,Q7,Q8,Q9,Qa,Qb,Qc,Qd,Qe,Qf,Qg,Qh,Qi,Qj,Qk,reduceCtorEq,reduceIte,hv,hq,hg,hc,e1,ih']
theorem l33(t:Tr)(B:List UInt8)(ms:List Mk)(hn:t.au.length<=1000000000)(hB:B.length<=100000000)(hm:ms.length<=1000000):∀(n j:Nat),ms.length-j=n->j<=ms.length->
 run T (.loop yK) (Tb t B ms (rsg (mA t) (m5 ms) (oe t B ms) t.au.length j) j)=
  some (.x 0,⟨[(5,.lst 1 (isv (rsg (mA t) (m5 ms) (oe t B ms) t.au.length ms.length)) (.id 105))],[(102,.rc t.sv),(103,.rc (bS B ms))],[105]⟩):=by
 intro n;induction n with
 |zero=>
  intro j h0 h1;have hj:j=ms.length:=by omega
  have hv:=cx ms;subst hj;unfold Tb;rw[ai];simp only[bS,go_sem,Q0,Q1,Q2,Q3,Q4,Q5,Q6,Q7,Q8,Q9,Qa,Qb,Qc,Qd,Qe,Qf,Qg,Qh,Qi,Qj,Qk,reduceCtorEq,reduceIte,hv]
 |succ n ih=>
  intro j h0 h1;have hj:j<ms.length:=by omega
  have hv:=cx ms;have hg:=ir ms j hj;have e1:=cA j (by omega);have ih':=ih (j+1) (by omega) (by omega);have hs:rsg (mA t) (m5 ms) (oe t B ms) t.au.length (j+1)=if gdB t B (ms.getD j mk0)=true then oS (ms.getD j mk0).auth (rsg (mA t) (m5 ms) (oe t B ms) t.au.length j)else rsg (mA t) (m5 ms) (oe t B ms) t.au.length j:=rfl
  have hl:=oz (mA t) (m5 ms) (oe t B ms) t.au.length j;rw[hs]at ih';generalize rsg (mA t) (m5 ms) (oe t B ms) t.au.length j=L at*;have g:=f60 t B (ms.getD j mk0) hn hB;generalize hmk:ms.getD j mk0=mk at*;obtain⟨a,s⟩:=mk;obtain⟨au,th⟩:=t;have hvl:=fK L;unfold Tb at ih' ⊢;simp only[Tr.sv,Mk.sv,bS]at*
  by_cases hc:gdB ⟨au,th⟩ B ⟨a,s⟩=true
  ·rw[if_pos hc]at ih'
   rw[hc]at g;have gl:=xnD (.rc [.lst 2 (eX au) .no,.int .i64 th]) (.rc [.byt B .no,.lst 2 (cW ms) .no]) L a j (by omega) _ 0 rfl (bt _);rw[aw]at gl;have hle:=zh a L;rw[BP]at ih'
   by_cases hq:lbI a L<L.length
   ·have hgq:=jD L _ hq
    by_cases hd:L.getD (lbI a L) 0=a
    ·rw[if_pos ⟨hq,hd⟩]at ih'
     generalize lbI a L=q at*;rw[ai];simp only[go_sem,Q0,Q1,Q2,Q3,Q4,Q5,Q6,Q7,Q8,Q9,Qa,Qb,Qc,Qd,Qe,Qf,Qg,Qh,Qi,Qj,Qk,reduceCtorEq,reduceIte,hj,hv,hg,g,Z4,gl,hvl,hq,hgq,hd,e1,ih']
    ·rw[if_neg (fun h=>hd h.2)]at ih'
     have tf:fv L.length (isv L)=isv L:=by rw[<-hvl,cK]
     have vA:(fv (lbI a L) (isv L)).length=lbI a L:=by rw[ax,hvl];omega
     have vD:(gJ (lbI a L) (isv L)).length=L.length-lbI a L:=by rw[aI,hvl]
     have b1:lbI a L*8<=140737488355328:=by omega
     have b3:(lbI a L+1)*8<=140737488355328:=by omega
     have b2:(lbI a L+(1+(L.length-lbI a L)))*8<=140737488355328:=by omega
     have b4:(lbI a L+1+(L.length-lbI a L))*8<=140737488355328:=by omega
     have ei:isv (L.take (lbI a L)++a::L.drop (lbI a L))=(isv L).take (lbI a L)++([.int .i64 a]::(isv L).drop (lbI a L)):=by simp[isv,List.map_take,List.map_drop]
     rw[ei]at ih';generalize lbI a L=q at*;rw[ai];simp only[go_sem,Q0,Q1,Q2,Q3,Q4,Q5,Q6,Q7,Q8,Q9,Qa,Qb,Qc,Qd,Qe,Qf,Qg,Qh,Qi,Qj,Qk,reduceCtorEq,reduceIte,hj,hv,hg,g,Z4,gl,hvl,hq,hle,hgq,hd,tf,vA,vD,b1,b2,b3,b4,e1,ih']
   ·rw[if_neg (fun h=>hq h.1)]at ih'
    have tf:fv L.length (isv L)=isv L:=by rw[<-hvl,cK]
    have vA:(fv (lbI a L) (isv L)).length=lbI a L:=by rw[ax,hvl];omega
    have vD:(gJ (lbI a L) (isv L)).length=L.length-lbI a L:=by rw[aI,hvl]
    have b1:lbI a L*8<=140737488355328:=by omega
    have b3:(lbI a L+1)*8<=140737488355328:=by omega
    have b2:(lbI a L+(1+(L.length-lbI a L)))*8<=140737488355328:=by omega
    have b4:(lbI a L+1+(L.length-lbI a L))*8<=140737488355328:=by omega
    have ei:isv (L.take (lbI a L)++a::L.drop (lbI a L))=(isv L).take (lbI a L)++([.int .i64 a]::(isv L).drop (lbI a L)):=by simp[isv,List.map_take,List.map_drop]
    rw[ei]at ih';generalize lbI a L=q at*;rw[ai];simp only[go_sem,Q0,Q1,Q2,Q3,Q4,Q5,Q6,Q7,Q8,Q9,Qa,Qb,Qc,Qd,Qe,Qf,Qg,Qh,Qi,Qj,Qk,reduceCtorEq,reduceIte,hj,hv,hg,g,Z4,gl,hvl,hq,hle,tf,vA,vD,b1,b2,b3,b4,e1,ih']
  ·rw[if_neg hc]at ih'
   rw[Bool.not_eq_true]at hc;rw[hc]at g;rw[ai];simp only[go_sem,Q0,Q1,Q2,Q3,Q4,Q5,Q6,Q7,Q8,Q9,Qa,Qb,Qc,Qd,Qe,Qf,Qg,Qh,Qi,Qj,Qk,reduceCtorEq,reduceIte,hj,hv,hg,g,Z4,e1,ih']
theorem f33(t:Tr)(B:List UInt8)(ms:List Mk)(hn:t.au.length<=1000000000)(hB:B.length<=100000000)(hm:ms.length<=1000000):call T 33 [.agg t.sv,.agg (bS B ms)] [] 0=some ⟨.lst 1 (isv (sgL t B ms)) .no,[],[]⟩:=by have h:=l33 t B ms hn hB hm _ 0 rfl (bt _);have e:rsg (mA t) (m5 ms) (oe t B ms) t.au.length 0=[]:=rfl;rw[<-sH]at h;rw[e]at h;unfold Tb at h;have h0:isv []=[]:=rfl;rw[h0,aw]at h;simp only[Tr.sv,bS]at h ⊢;rw[ah xpL];simp only[go_sem,Q0,Q1,Q2,Q3,Q4,Q5,Q6,Q7,Q8,Q9,Qa,Qb,Qc,Qd,Qe,Qf,Qg,Qh,Qi,Qj,Qk,reduceCtorEq,reduceIte,h]
end Go.Proofs.YtkggincjigbelaaGreatDoor
