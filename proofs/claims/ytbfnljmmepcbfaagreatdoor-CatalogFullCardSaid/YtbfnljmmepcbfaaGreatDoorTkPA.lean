/- What the functions come to. No condition. -/
import Derived.Test.YtbfnljmmepcbfaaGreatDoorTiPA
open Bool renaming not_eq_true' -> cV
open Int renaming fdiv_eq_ediv_of_nonneg -> ic, natCast_zero -> aD
open Go.IntKind renaming i64 -> ah, u64 -> aU, wrap_u64 -> bM
open List renaming cons -> kZ, drop_eq_getElem_cons -> bE, drop_eq_nil_of_le -> bD, drop_length -> bP, drop_zero -> bh, getD_cons_succ -> lT, getD_eq_getElem?_getD -> aa, getElem?_eq_getElem -> ac, getElem_mem -> bo, getElem_of_mem -> bn, length_append -> af, length_cons -> am, length_drop -> aL, length_eq_zero_iff -> cd, length_map -> aY, length_nil -> aB, length_take -> ax, mem_append -> al, mem_cons -> aw, mem_of_mem_drop -> cI, mem_of_mem_take -> bQ, pairwise_append -> dw, pairwise_cons -> cK, pairwise_iff_getElem -> nJ, take_append_drop -> dk
open Nat renaming le_refl -> aK, lt_or_ge -> bO, zero_le -> bH
open Option renaming getD_some -> aM
set_option maxRecDepth 100000
set_option maxHeartbeats 16000000
set_option linter.unusedSimpArgs false
set_option linter.unusedVariables false
namespace Go.Proofs.YtbfnljmmepcbfaaGreatDoor
open Go.Sy
open UInt8 renaming reduceLT -> Q0, reduceLE -> Q1
open Int renaming reduceToNat -> Q2, reduceLE -> Q3, reduceLT -> Q4, reduceEq -> Q5, reduceNe -> Q6, reduceNeg -> Q7, reduceAdd -> Q8, reduceSub -> Q9, reduceMul -> Qa
open Nat renaming reducePow -> Qb, reduceDiv -> Qc, reduceMod -> Qd, reduceAdd -> Qe, reduceSub -> Qf, reduceMul -> Qg, reduceLT -> Qh, reduceLeDiff -> Qi, reduceEqDiff -> Qj, reduceBEq -> Qk
theorem f32(m:Man)(hm:dz m):call T 32 [.agg m.sv] [] 0=some ⟨.byt (cD m) .no,[],[]⟩:=by
 have g1:=f59 m hm;have hl:=j5 m hm;have g2:=f60 21 (dZ m) (by omega);obtain⟨mv,m1,m2,m3,m4,es,rs⟩:=m;unfold cD;simp only[Man.sv]at*;rw[an xmQ];generalize dZ ⟨mv,m1,m2,m3,m4,es,rs⟩=E at*
 by_cases he:E=[]
 ·subst he
  simp only[go_sem,Qe,Qh,Qi,Qj,Qk,reduceCtorEq,reduceIte,g1,B0]
 ·have hne:¬(E.length:Int)=0:=by
   intro h;exact he (cd.1 (by omega))
  rw[if_neg he];simp only[go_sem,Qe,Qh,Qi,Qj,Qk,reduceCtorEq,reduceIte,g1,B0,hne,g2,Sa]
theorem f36(m:Man)(hm:dz m):call T 36 [.agg m.sv] [] 0=some ⟨.byt (cD m) .no,[],[]⟩:=by
 have g1:=f34 m hm;have hl:=j5 m hm;have g2:=f65 21 (dZ m) (by omega);obtain⟨mv,m1,m2,m3,m4,es,rs⟩:=m;unfold cD;simp only[Man.sv]at*;rw[an xmN];generalize dZ ⟨mv,m1,m2,m3,m4,es,rs⟩=E at*
 by_cases he:E=[]
 ·subst he
  simp only[go_sem,Qe,Qh,Qi,Qj,Qk,reduceCtorEq,reduceIte,g1,YG]
 ·have hne:¬(E.length:Int)=0:=by
   intro h;exact he (cd.1 (by omega))
  rw[if_neg he];simp only[go_sem,Qe,Qh,Qi,Qj,Qk,reduceCtorEq,reduceIte,g1,YG,hne,g2,R9]
theorem f84(a b:List UInt8):call T 84 [.byt a .no,.byt b .no] [] 0=some ⟨.bool (decide (a=b)),[],[]⟩:=by rw[an xmo];simp only[go_sem,Qe,Qh,Qi,Qj,Qk,reduceCtorEq,reduceIte]
theorem f82(m:Man)(hm:dz m)(d:List UInt8):call T 82 [.agg m.sv,.byt d .no] [] 0=some ⟨.int .i64 (Lib.compareBytes (cD m) d),[],[]⟩:=by have g1:=f32 m hm;have g2:=f83 (cD m) d;obtain⟨mv,m1,m2,m3,m4,es,rs⟩:=m;simp only[Man.sv]at*;rw[an xmq];simp only[go_sem,Qe,Qh,Qi,Qj,Qk,reduceCtorEq,reduceIte,g1,xU,g2,xdP]
def or2(a b:Int):Int:=if a≠0 then a else b
theorem xgo(a b:Int):call T 133 [.lst 1 [[.int .i64 a],[.int .i64 b]] .no] [] 0=some ⟨.int .i64 (or2 a b),[],[]⟩:=by
 have k1:ah.wrap (0+1)=1:=by decide
 have k2:ah.wrap (1+1)=2:=by decide
 have k1':ah.wrap 1=1:=by decide
 have k2':ah.wrap 2=2:=by decide
 unfold or2;rw[an Ys]
 by_cases ha:a=0
 ·subst ha
  by_cases hb:b=0
  ·subst hb
   simp only[go_sem,Qe,Qh,Qi,Qj,Qk,reduceCtorEq,reduceIte];rw[ai];simp only[go_sem,Q2,Q3,Q4,Q8,Qe,Qh,Qj,Qk,reduceIte,k1'];rw[ai];simp only[go_sem,Q2,Q3,Q4,Q8,Qe,Qh,Qj,Qk,reduceIte,k2'];rw[ai];simp only[go_sem,Q4,Qh,Qj,Qk,reduceIte]
  ·simp only[go_sem,Qe,Qh,Qi,Qj,Qk,reduceCtorEq,reduceIte]
   rw[ai];simp only[go_sem,Q2,Q3,Q4,Q8,Qe,Qh,Qj,Qk,reduceIte,k1'];rw[ai];simp only[go_sem,Q2,Q3,Q4,Qe,Qh,Qj,Qk,reduceIte,hb]
 ·simp only[go_sem,Qe,Qh,Qi,Qj,Qk,reduceCtorEq,reduceIte]
  rw[ai];simp only[go_sem,Q2,Q3,Q4,Qe,Qh,Qj,Qk,reduceIte,ha]
def Bl(x y:Wd):Int:=or2 (Lib.compareBytes x.man y.man) (oP x.frm y.frm)
theorem f89(x y:Wd):call T 89 [.agg x.sv,.agg y.sv] [] 0=some ⟨.int .i64 (Bl x y),[],[]⟩:=by have g1:=f83 x.man y.man;have g2:=xdE x.frm y.frm;obtain⟨xm,xf⟩:=x;obtain⟨ym,yf⟩:=y;simp only[Wd.sv,Bl]at*;have g3:=xgo (Lib.compareBytes xm ym) (oP xf yf);rw[an xmk];simp only[go_sem,Qb,Qc,Qd,Qe,Qh,Qi,Qj,Qk,reduceCtorEq,reduceIte,g1,xdP,g2,YU,g3,YV]
def wdB(now:Int)(d:List UInt8)(w:Wd):Bool:=decide (w.frm<=now)&&decide (w.man=d)
theorem xl7(w:Wd)(now:Int)(d:List UInt8):call T 100 [.agg w.sv,.ptr 0 0,.ptr 1 0] [.rc [.int .i64 now],.rc [.byt d .no]] 0=some ⟨.bool (wdB now d w),[(0,.rc [.int .i64 now]),(1,.rc [.byt d .no])],[]⟩:=by
 have g1:=f84 w.man d;obtain⟨wm,wf⟩:=w;unfold wdB;simp only[Wd.sv]at*;rw[an xhB]
 by_cases h:wf<=now
 ·simp only[go_sem,Qe,Qh,Qi,Qj,Qk,reduceCtorEq,reduceIte,h,g1,Yy]
 ·simp only[go_sem,Qe,Qh,Qi,Qj,Qk,reduceCtorEq,reduceIte,h]
theorem tz{α:Type}(p:α->Bool)(d0:α):∀(L:List α),L.Pairwise (fun a b=>p b=true->p a=true)->∀k,k<L.length->(p (L.getD k d0)=true↔k<(L.takeWhile p).length)
 |[],_,k,h=>by simp at h
 |x::r,hs,k,hk=>by
  obtain⟨h1,h2⟩:=cK.1 hs;have ih:=tz p d0 r h2;rw[List.takeWhile_cons]
  by_cases hx:p x=true
  ·rw[if_pos hx,am]
   cases k with
   |zero=>rw[List.getD_cons_zero];exact⟨fun _=>by omega,fun _=>hx⟩
   |succ k=>rw[lT,ih k (by rw[am]at hk;omega)];omega
  ·rw[if_neg hx]
   simp only[aB,Nat.not_lt_zero,iff_false];cases k with
   |zero=>rw[List.getD_cons_zero];exact hx
   |succ k=>rw[lT];intro hy;rw[am]at hk;exact hx (h1 _ (by rw[aa,ac (by omega:k<r.length)];exact bo _) hy)
theorem NG{α:Type}(p:α->Bool)(L:List α):(L.takeWhile p).length<=L.length:=(List.takeWhile_sublist p).length_le
theorem vZ{a b:List UInt8}(h:Lib.compareBytes a b<0):¬Lib.compareBytes b a<0:=fun k=>by have:=qp a b a h k;rw[i9]at this;exact absurd this (by decide)
theorem Dv{a b c:List UInt8}(h:¬Lib.compareBytes b a<0)(k:Lib.compareBytes b c<0):Lib.compareBytes a c<0:=by
 by_cases e:Lib.compareBytes b a=0
 ·rw[<-(hU b a).1 e];exact k
 ·exact qp a b c (j6 h e) k
theorem Du{a b c:List UInt8}(h:¬Lib.compareBytes b a<0)(k:Lib.compareBytes c a<0):Lib.compareBytes c b<0:=by
 by_cases e:Lib.compareBytes b a=0
 ·rw[(hU b a).1 e];exact k
 ·exact qp c a b k (j6 h e)
def tp(L:List Man):Prop:=L.Pairwise fun a b=>¬Lib.compareBytes (cD b) (cD a)<0
def lbM(L:List Man)(d:List UInt8):Nat:=(L.takeWhile fun x=>decide (Lib.compareBytes (cD x) d<0)).length
def ubM(L:List Man)(d:List UInt8):Nat:=(L.takeWhile fun x=> !decide (Lib.compareBytes d (cD x)<0)).length
theorem Nd(L:List Man)(d:List UInt8):lbM L d<=L.length:=NG _ _
theorem ll(L:List Man)(d:List UInt8):ubM L d<=L.length:=NG _ _
theorem oA{L:List Man}(hs:tp L)(d:List UInt8)(k:Nat)(hk:k<L.length):Lib.compareBytes (cD (L.getD k mnz)) d<0↔k<lbM L d:=by
 have:=tz (fun x=>decide (Lib.compareBytes (cD x) d<0)) mnz L (hs.imp fun{a b} h hb=>by rw[decide_eq_true_eq]at hb ⊢;exact Dv h hb) k hk
 rw[decide_eq_true_eq]at this;exact this
theorem nN{L:List Man}(hs:tp L)(d:List UInt8)(k:Nat)(hk:k<L.length):¬Lib.compareBytes d (cD (L.getD k mnz))<0↔k<ubM L d:=by
 have:=tz (fun x=> !decide (Lib.compareBytes d (cD x)<0)) mnz L (hs.imp fun{a b} h hb=>by simp only[cV,decide_eq_false_iff_not]at hb ⊢;exact fun k=>hb (Du h k)) k hk
 simp only[cV,decide_eq_false_iff_not]at this;exact this
theorem xfZ{L:List Man}(hs:tp L)(d:List UInt8):lbM L d<=ubM L d:=by
 rcases bO (ubM L d) (lbM L d)with h|h
 ·have hle:=Nd L d
  have h1:=(oA hs d (ubM L d) (by omega)).2 h;exact absurd ((nN hs d (ubM L d) (by omega)).1 (vZ h1)) (by omega)
 ·exact h
theorem Bw{L:List Man}(hs:tp L)(d:List UInt8)(k:Nat)(hk:k<L.length)(h1:lbM L d<=k):cD (L.getD k mnz)=d↔k<ubM L d:=by
 rw[<-nN hs d k hk];have h2:¬Lib.compareBytes (cD (L.getD k mnz)) d<0:=fun h=>by have:=(oA hs d k hk).1 h;omega
 constructor
 ·rintro rfl;rw[i9];decide
 ·intro h
  by_cases e:Lib.compareBytes (cD (L.getD k mnz)) d=0
  ·exact(hU _ _).1 e
  ·exact absurd (j6 h2 e) h
theorem lL{α:Type}(l:List α)(d x:α):x∈l↔∃i,i<l.length/\l.getD i d=x:=by
 constructor
 ·intro h
  obtain⟨i,hi,e⟩:=bn h;exact⟨i,hi,by rw[aa,ac hi];exact e⟩
 ·rintro⟨i,hi,rfl⟩
  rw[aa,ac hi];exact bo _
theorem QD{L:List Man}(hs:tp L)(m:Man):m∈L↔∃k,lbM L (cD m)<=k/\k<ubM L (cD m)/\L.getD k mnz=m:=by
 have hle:=ll L (cD m);constructor
 ·intro h
  obtain⟨k,hk,rfl⟩:=(lL L mnz m).1 h;refine⟨k, ?_, ?_,rfl⟩
  ·rcases bO k (lbM L (cD (L.getD k mnz)))with h|h
   ·have:=(oA hs _ k hk).2 h
    rw[i9]at this;exact absurd this (by decide)
   ·exact h
  ·rw[<-nN hs _ k hk,i9];decide
 ·rintro⟨k,h1,h2,rfl⟩
  exact(lL L mnz _).2 ⟨k,by omega,rfl⟩
def kT(L:List Man)(m:Man):List Man:=L.take (ubM L (cD m))++m::L.drop (ubM L (cD m))
theorem po(L:List Man)(m:Man):(kT L m).length=L.length+1:=by have:=ll L (cD m);unfold kT;rw[af,am,ax,aL];omega
theorem vw(L:List Man)(m x:Man):x∈kT L m↔x=m\/x∈L:=by
 unfold kT;rw[al,aw];constructor
 ·rintro(h|h|h)
  ·exact .inr (bQ h)
  ·exact .inl h
  ·exact .inr (cI h)
 ·rintro(h|h)
  ·exact .inr (.inl h)
  ·rw[<-dk (ubM L (cD m)) L,al]at h
   rcases h with h|h
   ·exact .inl h
   ·exact .inr (.inr h)
theorem F6{L:List Man}(hs:tp L)(m:Man):tp (kT L m):=by
 have hle:=ll L (cD m);have hif:=nN hs (cD m)
 have h1:∀x∈L.take (ubM L (cD m)),¬Lib.compareBytes (cD m) (cD x)<0:=fun x hx=>by obtain⟨k,hk,rfl⟩:=bn hx;rw[ax]at hk;have:=(hif k (by omega)).2 (by omega);rw[aa,ac (by omega),aM]at this;rw[List.getElem_take];exact this
 have h2:∀x∈L.drop (ubM L (cD m)),Lib.compareBytes (cD m) (cD x)<0:=fun x hx=>by
  obtain⟨k,hk,rfl⟩:=bn hx;rw[aL]at hk;rw[List.getElem_drop]
  by_cases h:Lib.compareBytes (cD m) (cD (L[ubM L (cD m)+k]'(by omega)))<0
  ·exact h
  ·have:=(hif (ubM L (cD m)+k) (by omega)).1 (by rw[aa,ac (by omega),aM];exact h)
   omega
 have e:L=L.take (ubM L (cD m))++L.drop (ubM L (cD m)):=(dk _ _).symm;unfold tp at hs;rw[e]at hs;obtain⟨a1,a2,a3⟩:=dw.1 hs;refine dw.2 ⟨a1,cK.2 ⟨fun y hy=>vZ (h2 y hy),a2⟩,fun x hx y hy=> ?_⟩;rcases aw.1 hy with rfl|hy
 ·exact h1 x hx
 ·exact a3 x hx y hy
def kI(a b:Wd):Prop:=Lib.compareBytes a.man b.man<0\/a.man=b.man/\a.frm<b.frm
instance (a b:Wd):Decidable (kI a b):=by unfold kI;infer_instance
theorem GD(a:Wd):¬kI a a:=by
 rintro(h|⟨_,h⟩)
 ·rw[i9]at h;exact absurd h (by decide)
 ·omega
theorem RU{a b c:Wd}(h:kI a b)(k:kI b c):kI a c:=by
 rcases h with h|⟨h1,h2⟩<;>rcases k with k|⟨k1,k2⟩
 ·exact .inl (qp _ _ _ h k)
 ·exact .inl (by rw[<-k1];exact h)
 ·exact .inl (by rw[h1];exact k)
 ·exact .inr ⟨h1.trans k1,by omega⟩
theorem GC{a b:Wd}(h:¬kI a b)(k:¬kI b a):a=b:=by
 unfold kI at h k
 have e:a.man=b.man:=by
  by_cases e:Lib.compareBytes a.man b.man=0
  ·exact(hU _ _).1 e
  ·exact absurd (.inl (j6 (fun q=>h (.inl q)) e)) k
 obtain⟨a1,a2⟩:=a;obtain⟨b1,b2⟩:=b;simp only at e h k;subst e
 have:a2=b2:=by
  rcases Int.lt_trichotomy a2 b2 with q|q|q
  ·exact absurd (.inr ⟨rfl,q⟩) h
  ·exact q
  ·exact absurd (.inr ⟨rfl,q⟩) k
 rw[this]
def wd0:Wd:=⟨[],0⟩
def BX(L:List Wd):Prop:=L.Pairwise kI
def lbW(L:List Wd)(w:Wd):Nat:=(L.takeWhile fun x=>decide (kI x w)).length
theorem qb(L:List Wd)(w:Wd):lbW L w<=L.length:=NG _ _
theorem oz{L:List Wd}(hs:BX L)(w:Wd)(k:Nat)(hk:k<L.length):kI (L.getD k wd0) w↔k<lbW L w:=by
 have:=tz (fun x=>decide (kI x w)) wd0 L (hs.imp fun{a b} h hb=>by rw[decide_eq_true_eq]at hb ⊢;exact RU h hb) k hk
 rw[decide_eq_true_eq]at this;exact this
theorem QE{L:List Wd}(hs:BX L)(w:Wd):w∈L↔lbW L w<L.length/\L.getD (lbW L w) wd0=w:=by
 constructor
 ·intro h
  obtain⟨k,hk,rfl⟩:=(lL L wd0 w).1 h;have h1:¬k<lbW L (L.getD k wd0):=fun h=>GD _ ((oz hs _ k hk).2 h)
  have hlt:lbW L (L.getD k wd0)<L.length:=by omega
  refine⟨hlt, ?_⟩
  have h2:¬kI (L.getD (lbW L (L.getD k wd0)) wd0) (L.getD k wd0):=fun h=>by have:=(oz hs _ _ hlt).1 h;omega
  rcases bO (lbW L (L.getD k wd0)) k with h3|h3
  ·have:=nJ.1 hs _ _ hlt hk h3
   have e1:L.getD (lbW L (L.getD k wd0)) wd0=L[lbW L (L.getD k wd0)]:=by rw[aa,ac hlt];rfl
   have e2:L.getD k wd0=L[k]:=by rw[aa,ac hk];rfl
   rw[<-e1,<-e2]at this;exact absurd this h2
  ·have:lbW L (L.getD k wd0)=k:=by omega
   rw[this]
 ·rintro⟨h1,h2⟩
  exact(lL L wd0 w).2 ⟨_,h1,h2⟩
def oG(L:List Wd)(w:Wd):List Wd:=L.take (lbW L w)++w::L.drop (lbW L w)
theorem vF(L:List Wd)(w:Wd):(oG L w).length=L.length+1:=by have:=qb L w;unfold oG;rw[af,am,ax,aL];omega
theorem vv(L:List Wd)(w x:Wd):x∈oG L w↔x=w\/x∈L:=by
 unfold oG;rw[al,aw];constructor
 ·rintro(h|h|h)
  ·exact .inr (bQ h)
  ·exact .inl h
  ·exact .inr (cI h)
 ·rintro(h|h)
  ·exact .inr (.inl h)
  ·rw[<-dk (lbW L w) L,al]at h
   rcases h with h|h
   ·exact .inl h
   ·exact .inr (.inr h)
theorem F2{L:List Wd}(hs:BX L)(w:Wd)(hw:w∉L):BX (oG L w):=by
 have hle:=qb L w;have hif:=oz hs w
 have h1:∀x∈L.take (lbW L w),kI x w:=fun x hx=>by obtain⟨k,hk,rfl⟩:=bn hx;rw[ax]at hk;have:=(hif k (by omega)).2 (by omega);rw[aa,ac (by omega),aM]at this;rw[List.getElem_take];exact this
 have h2:∀x∈L.drop (lbW L w),kI w x:=fun x hx=>by
  have hm:=cI hx;obtain⟨k,hk,rfl⟩:=bn hx;rw[aL]at hk;rw[List.getElem_drop]at hm ⊢
  by_cases h:kI w (L[lbW L w+k]'(by omega))
  ·exact h
  ·by_cases h':kI (L[lbW L w+k]'(by omega)) w
   ·have:=(hif (lbW L w+k) (by omega)).1 (by rw[aa,ac (by omega),aM];exact h')
    omega
   ·rw[GC h h']at hw
    exact absurd hm hw
 have e:L=L.take (lbW L w)++L.drop (lbW L w):=(dk _ _).symm;unfold BX at hs;rw[e]at hs;obtain⟨a1,a2,a3⟩:=dw.1 hs;refine dw.2 ⟨a1,cK.2 ⟨h2,a2⟩,fun x hx y hy=> ?_⟩;rcases aw.1 hy with rfl|hy
 ·exact h1 x hx
 ·exact a3 x hx y hy
structure Cat where
 t:Tr
 ms:List Man
 ws:List Wd
def gy(l:List Wd):List (List SV):=l.map Wd.sv
def eH(l:List Man):List (List SV):=l.map Man.sv
theorem dV(l:List Man):(eH l).length=l.length:=aY ..
theorem ig(l:List Man)(i:Nat)(h:i<l.length):(eH l).getD i []=(l.getD i mnz).sv:=by simp[eH,aa,h]
theorem eQ(l:List Wd):(gy l).length=l.length:=aY ..
theorem ly(l:List Wd)(i:Nat)(h:i<l.length):(gy l).getD i []=(l.getD i wd0).sv:=by simp[gy,aa,h]
theorem FP(l:List Man)(k:Nat)(m:Man):jx (eH l) k m.sv=eH (l.take k++m::l.drop k):=by simp[jx,eH,List.map_take,List.map_drop]
theorem EB(l:List Wd)(k:Nat)(w:Wd):jx (gy l) k w.sv=gy (l.take k++w::l.drop k):=by simp[jx,gy,List.map_take,List.map_drop]
def Cat.sv(c:Cat):List SV:=[.lst 2 (kX c.t.au) .no,.int .i64 c.t.thr,.lst 7 (eH c.ms) .no,.lst 2 (gy c.ws) .no]
def oR:Cat:=⟨⟨[],0⟩,[],[]⟩
structure iA(c:Cat):Prop where
 sm:tp c.ms
 sw:BX c.ws
 m:∀x∈c.ms,dz x/\fm x=0
 w:∀x∈c.ws,nz x
 n:c.ms.length+c.ws.length<=16
open Classical in
noncomputable def j7(c:Cat)(m:Man):Cat×Int:=if m∈c.ms then(c,0)else if 16<=c.ms.length+c.ws.length then(oR,25)else(⟨c.t,kT c.ms m,c.ws⟩,0)
open Classical in
noncomputable def kG(c:Cat)(w:Wd):Cat×Int:=if w∈c.ws then(c,0)else if 16<=c.ms.length+c.ws.length then(oR,25)else(⟨c.t,c.ms,oG c.ws w⟩,0)
theorem RN{c:Cat}(h:iA c){m:Man}(hb:dz m)(he:fm m=0)(h0:(j7 c m).2=0):iA (j7 c m).1:=by
 unfold j7 at h0 ⊢;split at h0
 ·rename_i hm;rw[if_pos hm];exact h
 ·rename_i hm
  rw[if_neg hm];split at h0
  ·exact absurd h0 (by decide)
  ·rename_i hf
   rw[if_neg hf]
   exact⟨F6 h.sm m,h.sw,fun x hx=>by
    rcases (vw _ _ _).1 hx with rfl|hx
    ·exact⟨hb,he⟩
    ·exact h.m x hx,h.w,by show(kT c.ms m).length+c.ws.length<=16;rw[po];omega⟩
theorem RM{c:Cat}(h:iA c){w:Wd}(hw:nz w)(h0:(kG c w).2=0):iA (kG c w).1:=by
 unfold kG at h0 ⊢;split at h0
 ·rename_i hm;rw[if_pos hm];exact h
 ·rename_i hm
  rw[if_neg hm];split at h0
  ·exact absurd h0 (by decide)
  ·rename_i hf
   rw[if_neg hf]
   exact⟨h.sm,F2 h.sw w hm,h.m,fun x hx=>by
    rcases (vv _ _ _).1 hx with rfl|hx
    ·exact hw
    ·exact h.w x hx,by show c.ms.length+(oG c.ws w).length<=16;rw[vF];omega⟩
def GQ(L:List Man)(d:List UInt8)(i j:Nat):CSt:=
 ⟨[(0,.lst 7 (eH L) .no),(1,.byt d .no),(2,.fn 82 [] []),(8,.int .i64 L.length),(9,.int .i64 i),(10,.int .i64 j)],[],[]⟩
theorem l81(L:List Man)(hb:∀x∈L,dz x)(d:List UInt8)(hs:tp L)(hn:L.length<=1000000000):∀(m i j:Nat),j-i<=m->i<=lbM L d->lbM L d<=j->j<=L.length->
 run T (.loop NP) (GQ L d i j)=some (.x 0,⟨[(0,.lst 7 (eH L) .no),(1,.byt d .no),(2,.fn 82 [] []),(8,.int .i64 L.length),(9,.int .i64 (lbM L d))],[],[]⟩):=by
 intro m;induction m with
 |zero=>
  intro i j h0 h1 h2 h3;have hij:j=i:=by omega
  have hli:lbM L d=i:=by omega
  subst hij;rw[hli,GQ,ai];simp only[go_sem,Qh,Qj,Qk,reduceCtorEq,reduceIte]
 |succ m ih=>
  intro i j h0 h1 h2 h3
  by_cases hij:i<j
  ·have hv:=dV L
   have e1:ah.wrap ((i:Int)+(j:Int))=((i+j:Nat):Int):=wZ (by omega)
   have e2:aU.wrap ((i+j:Nat):Int)=((i+j:Nat):Int):=by rw[bM];omega
   have e3:Int.fdiv ((i+j:Nat):Int) (2^min 1 64)=(((i+j)/2:Nat):Int):=by rw[show min 1 64=1 from rfl,ic _ (by decide)];rfl
   have e4:ah.wrap (((i+j)/2:Nat):Int)=(((i+j)/2:Nat):Int):=w64 (by omega) (by omega);have e5:aU.wrap (((i+j)/2:Nat):Int)=(((i+j)/2:Nat):Int):=by rw[bM];omega
   have e6:ah.wrap ((((i+j)/2:Nat):Int)+1)=(((i+j)/2+1:Nat):Int):=cZ _ (by omega);have hk:(i+j)/2<L.length:=by omega
   have hg:=ig L ((i+j)/2) hk;have hif:=oA hs d ((i+j)/2) hk;have g:=f82 (L.getD ((i+j)/2) mnz) (hb _ (cE L mnz _ hk)) d;have ha:i<=(i+j)/2:=by omega
   have hb:(i+j)/2<j:=by omega
   generalize (i+j)/2=k at*;generalize L.getD k mnz=x at*;simp only[Man.sv]at hg g
   by_cases hc:Lib.compareBytes (cD x) d<0
   ·have ih':=ih (k+1) j (by omega) (by have:=hif.1 hc;omega) h2 h3
    rw[GQ]at ih' ⊢;rw[ai];simp only[go_sem,Q2,Q3,Qe,Qh,Qj,Qk,reduceCtorEq,reduceIte,hij,e1,e2,e3,e4,hv,hk,hg,g,Yz,hc,e6,ih']
   ·have ih':=ih i k (by omega) h1 (by have:=mt hif.2 hc;omega) (by omega)
    rw[GQ]at ih' ⊢;rw[ai];simp only[go_sem,Q2,Q3,Qe,Qh,Qj,Qk,reduceCtorEq,reduceIte,hij,e1,e2,e3,e4,hv,hk,hg,g,Yz,hc,ih']
  ·have hji:j=i:=by omega
   have hli:lbM L d=i:=by omega
   subst hji;rw[hli,GQ,ai];simp only[go_sem,Qh,Qj,Qk,reduceCtorEq,reduceIte]
theorem f81(L:List Man)(hb:∀x∈L,dz x)(d:List UInt8)(hs:tp L)(hn:L.length<=1000000000):
 ∃b:Bool,call T 81 [.lst 7 (eH L) .no,.byt d .no,.fn 82 [] []] [] 0=some ⟨.tup [.int .i64 (lbM L d),.bool b],[],[]⟩:=by
 have hl:=l81 L hb d hs hn _ 0 L.length (aK _) (bH _) (Nd L d) (aK _);rw[GQ,aD]at hl;have hv:=dV L;rw[an xmr]
 by_cases hq:lbM L d<L.length
 ·have hg:=ig L _ hq
  have g:=f82 (L.getD (lbM L d) mnz) (hb _ (cE L mnz _ hq)) d;generalize lbM L d=q at*;generalize L.getD q mnz=x at*;simp only[Man.sv]at hg g
  by_cases h0:Lib.compareBytes (cD x) d=0
  ·exact⟨true,by simp only[go_sem,Qe,Qh,Qi,Qj,Qk,reduceCtorEq,reduceIte,hv,hl,hq,hg,g,Yz,h0]⟩
  ·exact⟨false,by simp only[go_sem,Qe,Qh,Qi,Qj,Qk,reduceCtorEq,reduceIte,hv,hl,hq,hg,g,Yz,h0]⟩
 ·generalize lbM L d=q at*
  exact⟨false,by simp only[go_sem,Qe,Qh,Qi,Qj,Qk,reduceCtorEq,reduceIte,hv,hl,hq]⟩
theorem Qp(x y:Wd):Bl x y<0↔kI x y:=by
 unfold Bl or2 kI oP;have he:=hU x.man y.man
 by_cases h:Lib.compareBytes x.man y.man=0
 ·rw[if_neg (by simpa using h)]
  rw[h];have e:=he.1 h;constructor
  ·intro k;right;refine⟨e, ?_⟩
   split at k
   ·assumption
   ·split at k<;>omega
  ·rintro(k|⟨_,k⟩)
   ·omega
   ·rw[if_pos k];decide
 ·rw[if_pos h]
  constructor
  ·exact .inl
  ·rintro(k|⟨k,_⟩)
   ·exact k
   ·exact absurd (he.2 k) h
theorem Qq(x y:Wd):Bl x y=0↔x=y:=by
 unfold Bl or2 oP;have he:=hU x.man y.man;obtain⟨xm,xf⟩:=x;obtain⟨ym,yf⟩:=y;simp only[Wd.mk.injEq]at*
 by_cases h:Lib.compareBytes xm ym=0
 ·rw[if_neg (by simpa using h),he.1 h]
  constructor
  ·intro k;refine⟨rfl, ?_⟩
   split at k
   ·omega
   ·split at k<;>omega
  ·rintro⟨_,rfl⟩
   rw[if_neg (by omega),if_neg (by omega)]
 ·rw[if_pos h]
  constructor
  ·intro k;exact absurd k h
  ·rintro⟨k,_⟩;exact absurd (he.2 k) h
def GP(L:List Wd)(w:Wd)(i j:Nat):CSt:=
 ⟨[(0,.lst 2 (gy L) .no),(2,.fn 89 [] []),(4,.ptr 104 0),(8,.int .i64 L.length),(9,.int .i64 i),(10,.int .i64 j)],[(104,.rc w.sv)],[]⟩
theorem l88(L:List Wd)(w:Wd)(hs:BX L)(hn:L.length<=1000000000):∀(m i j:Nat),j-i<=m->i<=lbW L w->lbW L w<=j->j<=L.length->
 run T (.loop NO) (GP L w i j)=some (.x 0,⟨[(0,.lst 2 (gy L) .no),(2,.fn 89 [] []),(4,.ptr 104 0),(8,.int .i64 L.length),(9,.int .i64 (lbW L w))],[(104,.rc w.sv)],[]⟩):=by
 intro m;induction m with
 |zero=>
  intro i j h0 h1 h2 h3;have hij:j=i:=by omega
  have hli:lbW L w=i:=by omega
  subst hij;rw[hli,GP,ai];simp only[go_sem,Qh,Qj,Qk,reduceCtorEq,reduceIte]
 |succ m ih=>
  intro i j h0 h1 h2 h3
  by_cases hij:i<j
  ·have hv:=eQ L
   have e1:ah.wrap ((i:Int)+(j:Int))=((i+j:Nat):Int):=wZ (by omega)
   have e2:aU.wrap ((i+j:Nat):Int)=((i+j:Nat):Int):=by rw[bM];omega
   have e3:Int.fdiv ((i+j:Nat):Int) (2^min 1 64)=(((i+j)/2:Nat):Int):=by rw[show min 1 64=1 from rfl,ic _ (by decide)];rfl
   have e4:ah.wrap (((i+j)/2:Nat):Int)=(((i+j)/2:Nat):Int):=w64 (by omega) (by omega);have e5:aU.wrap (((i+j)/2:Nat):Int)=(((i+j)/2:Nat):Int):=by rw[bM];omega
   have e6:ah.wrap ((((i+j)/2:Nat):Int)+1)=(((i+j)/2+1:Nat):Int):=cZ _ (by omega);have hk:(i+j)/2<L.length:=by omega
   have hg:=ly L ((i+j)/2) hk;have hif:=oz hs w ((i+j)/2) hk;have g:=f89 (L.getD ((i+j)/2) wd0) w;have ho:=Qp (L.getD ((i+j)/2) wd0) w;have ha:i<=(i+j)/2:=by omega
   have hb:(i+j)/2<j:=by omega
   generalize (i+j)/2=k at*;generalize L.getD k wd0=x at*
   by_cases hc:Bl x w<0
   ·have ih':=ih (k+1) j (by omega) (by have:=hif.1 (ho.1 hc);omega) h2 h3
    rw[GP]at ih' ⊢;rw[ai];obtain⟨wm,wf⟩:=w;simp only[Wd.sv]at*;simp only[go_sem,Q2,Q3,Qb,Qc,Qd,Qe,Qh,Qj,Qk,reduceCtorEq,reduceIte,hij,e1,e2,e3,e4,hv,hk,hg,g,Yw,hc,e6,ih']
   ·have ih':=ih i k (by omega) h1 (by have:=mt hif.2 (mt ho.2 hc);omega) (by omega)
    rw[GP]at ih' ⊢;rw[ai];obtain⟨wm,wf⟩:=w;simp only[Wd.sv]at*;simp only[go_sem,Q2,Q3,Qb,Qc,Qd,Qe,Qh,Qj,Qk,reduceCtorEq,reduceIte,hij,e1,e2,e3,e4,hv,hk,hg,g,Yw,hc,ih']
  ·have hji:j=i:=by omega
   have hli:lbW L w=i:=by omega
   subst hji;rw[hli,GP,ai];simp only[go_sem,Qh,Qj,Qk,reduceCtorEq,reduceIte]
def Nj(L:List Wd)(w:Wd):Bool:=decide (lbW L w<L.length/\L.getD (lbW L w) wd0=w)
theorem f88(L:List Wd)(w:Wd)(hs:BX L)(hn:L.length<=1000000000):
 call T 88 [.lst 2 (gy L) .no,.agg w.sv,.fn 89 [] []] [] 0=some ⟨.tup [.int .i64 (lbW L w),.bool (Nj L w)],[],[]⟩:=by
 have hl:=l88 L w hs hn _ 0 L.length (aK _) (bH _) (qb L w) (aK _);rw[GP,aD]at hl;have hv:=eQ L;rw[an xml];unfold Nj
 by_cases hq:lbW L w<L.length
 ·have hg:=ly L _ hq
  have g:=f89 (L.getD (lbW L w) wd0) w;have ho:=Qq (L.getD (lbW L w) wd0) w
  by_cases h0:Bl (L.getD (lbW L w) wd0) w=0
  ·rw[decide_eq_true ⟨hq,ho.1 h0⟩]
   generalize lbW L w=q at*;generalize L.getD q wd0=x at*;obtain⟨wm,wf⟩:=w;simp only[Wd.sv]at*;simp only[go_sem,Qb,Qc,Qd,Qe,Qh,Qi,Qj,Qk,reduceCtorEq,reduceIte,hv,hl,hq,hg,g,Yw,h0]
  ·rw[decide_eq_false (fun h=>h0 (ho.2 h.2))]
   generalize lbW L w=q at*;generalize L.getD q wd0=x at*;obtain⟨wm,wf⟩:=w;simp only[Wd.sv]at*;simp only[go_sem,Qb,Qc,Qd,Qe,Qh,Qi,Qj,Qk,reduceCtorEq,reduceIte,hv,hl,hq,hg,g,Yw,h0]
 ·rw[decide_eq_false (fun h=>hq h.1)]
  generalize lbW L w=q at*;obtain⟨wm,wf⟩:=w;simp only[Wd.sv]at*;simp only[go_sem,Qb,Qc,Qd,Qe,Qh,Qi,Qj,Qk,reduceCtorEq,reduceIte,hv,hl,hq]
def mS(v:List UInt8)(a1 a2 a3 a4:Int)(es:List Ent)(rs:List Rul):aC:= .rc [.str v,.int .i64 a1,.int .i64 a2,.int .i64 a3,.int .i64 a4,.lst 4 (eC es) .no,.lst 4 (eG rs) .no]
theorem gh{α:Type}(l:List α)(d:α)(i:Nat)(h:i<l.length):l.drop i=l.getD i d::l.drop (i+1):=by rw[bE h,aa,ac h];rfl
theorem xkY(
 v:List UInt8)(a1 a2 a3 a4:Int)(es fs:List Ent)(rs qs:List Rul)(hl:es.length=fs.length)(hn:es.length<=1000000)(hd:∀x∈es,x.dig.length<=1000000):∀(k i:Nat),es.length-i=k->i<=es.length->
 (es.drop i=fs.drop i->run T (.loop DM) ⟨[(2,.ptr 102 0),(3,.ptr 103 0),(5,.int .i64 i)],[(102,mS v a1 a2 a3 a4 es rs),(103,mS v a1 a2 a3 a4 fs qs)],[]⟩=some (.x 0,⟨[(2,.ptr 102 0),(3,.ptr 103 0)],[(102,mS v a1 a2 a3 a4 es rs),(103,mS v a1 a2 a3 a4 fs qs)],[]⟩))/\
 (¬es.drop i=fs.drop i->∃ob,run T (.loop DM) ⟨[(2,.ptr 102 0),(3,.ptr 103 0),(5,.int .i64 i)],[(102,mS v a1 a2 a3 a4 es rs),(103,mS v a1 a2 a3 a4 fs qs)],[]⟩=some (.r,⟨[(4,.bool false)],ob,[]⟩)):=by
 intro k;induction k with
 |zero=>
  intro i h1 h2;have h3:¬i<es.length:=by omega
  have e1:es.drop i=[]:=bD (by omega);have e2:fs.drop i=[]:=bD (by omega);have hv:=dH es;refine⟨fun _=> ?_,fun h=>absurd (e1.trans e2.symm) h⟩;rw[ai];simp only[mS,go_sem,Qe,Qh,Qi,Qj,Qk,reduceIte,hv,h3]
 |succ k ih=>
  intro i h1 h2;have h3:i<es.length:=by omega
  have h3f:i<fs.length:=by omega
  have hv:=dH es;have hw:=dH fs;have hg:=gE es i h3;have hh:=gE fs i h3f;have dE:=gh es en0 i h3;have dF:=gh fs en0 i h3f;have ih':=ih (i+1) (by omega) (by omega);have e1:=cZ i (by omega);have hdx:=hd _ (cE es en0 i h3);rw[dE,dF];generalize es.drop (i+1)=R at*;generalize fs.drop (i+1)=S at*;generalize es.getD i en0=x at*;generalize fs.getD i en0=y at*;obtain⟨r1,n1,v1,d1⟩:=x;obtain⟨r2,n2,v2,d2⟩:=y;have g:=f31 d1 d2 (by simp only at hdx;omega);clear hdx dE dF hd ih;simp only[mS,Ent.sv]at*
  by_cases q1:r1=r2
  ·subst q1
   by_cases q2:n1=n2
   ·subst q2
    by_cases q3:v1=v2
    ·subst q3
     by_cases q4:d1=d2
     ·subst q4
      rw[decide_eq_true rfl]at g;refine⟨fun h=> ?_,fun h=> ?_⟩
      ·have q:=ih'.1 (kZ.inj h).2
       rw[ai];simp only[go_sem,Qb,Qc,Qd,Qe,Qh,Qi,Qj,Qk,reduceCtorEq,reduceIte,h3,h3f,hv,hw,hg,hh,e1,g,Sb,q]
      ·obtain⟨ob,q⟩:=ih'.2 (fun h'=>h (by rw[h']))
       refine⟨ob, ?_⟩;rw[ai];simp only[go_sem,Qb,Qc,Qd,Qe,Qh,Qi,Qj,Qk,reduceCtorEq,reduceIte,h3,h3f,hv,hw,hg,hh,e1,g,Sb,q]
     ·rw[decide_eq_false q4]at g
      refine⟨fun h=>absurd h (by simp[q4]),fun _=>⟨[(102,.rc [.str v,.int .i64 a1,.int .i64 a2,.int .i64 a3,.int .i64 a4,.lst 4 (eC es) .no,.lst 4 (eG rs) .no]),(103,.rc [.str v,.int .i64 a1,.int .i64 a2,.int .i64 a3,.int .i64 a4,.lst 4 (eC fs) .no,.lst 4 (eG qs) .no]),(106,.rc [.int .i64 r1,.str n1,.int .i64 v1,.byt d1 .no]),(107,.rc [.int .i64 r1,.str n1,.int .i64 v1,.byt d2 .no])], ?_⟩⟩;rw[ai];simp only[go_sem,Qb,Qc,Qd,Qe,Qh,Qi,Qj,Qk,reduceCtorEq,reduceIte,h3,h3f,hv,hw,hg,hh,g,Sb]
    ·refine⟨fun h=>absurd h (by simp[q3]),fun _=>⟨[(102,.rc [.str v,.int .i64 a1,.int .i64 a2,.int .i64 a3,.int .i64 a4,.lst 4 (eC es) .no,.lst 4 (eG rs) .no]),(103,.rc [.str v,.int .i64 a1,.int .i64 a2,.int .i64 a3,.int .i64 a4,.lst 4 (eC fs) .no,.lst 4 (eG qs) .no]),(106,.rc [.int .i64 r1,.str n1,.int .i64 v1,.byt d1 .no]),(107,.rc [.int .i64 r1,.str n1,.int .i64 v2,.byt d2 .no])], ?_⟩⟩
     rw[ai];simp only[go_sem,Qb,Qc,Qd,Qe,Qh,Qi,Qj,Qk,reduceCtorEq,reduceIte,h3,h3f,hv,hw,hg,hh,q3]
   ·refine⟨fun h=>absurd h (by simp[q2]),fun _=>⟨[(102,.rc [.str v,.int .i64 a1,.int .i64 a2,.int .i64 a3,.int .i64 a4,.lst 4 (eC es) .no,.lst 4 (eG rs) .no]),(103,.rc [.str v,.int .i64 a1,.int .i64 a2,.int .i64 a3,.int .i64 a4,.lst 4 (eC fs) .no,.lst 4 (eG qs) .no]),(106,.rc [.int .i64 r1,.str n1,.int .i64 v1,.byt d1 .no]),(107,.rc [.int .i64 r1,.str n2,.int .i64 v2,.byt d2 .no])], ?_⟩⟩
    rw[ai];simp only[go_sem,Qb,Qc,Qd,Qe,Qh,Qi,Qj,Qk,reduceCtorEq,reduceIte,h3,h3f,hv,hw,hg,hh,q2]
  ·refine⟨fun h=>absurd h (by simp[q1]),fun _=>⟨[(102,.rc [.str v,.int .i64 a1,.int .i64 a2,.int .i64 a3,.int .i64 a4,.lst 4 (eC es) .no,.lst 4 (eG rs) .no]),(103,.rc [.str v,.int .i64 a1,.int .i64 a2,.int .i64 a3,.int .i64 a4,.lst 4 (eC fs) .no,.lst 4 (eG qs) .no]),(106,.rc [.int .i64 r1,.str n1,.int .i64 v1,.byt d1 .no]),(107,.rc [.int .i64 r2,.str n2,.int .i64 v2,.byt d2 .no])], ?_⟩⟩
   rw[ai];simp only[go_sem,Qb,Qc,Qd,Qe,Qh,Qi,Qj,Qk,reduceCtorEq,reduceIte,h3,h3f,hv,hw,hg,hh,q1]
theorem xkX(
 v:List UInt8)(a1 a2 a3 a4:Int)(es fs:List Ent)(rs qs:List Rul)(hl:rs.length=qs.length)(hn:rs.length<=1000000):∀(k i:Nat),rs.length-i=k->i<=rs.length->
 (rs.drop i=qs.drop i->run T (.loop tM) ⟨[(2,.ptr 102 0),(3,.ptr 103 0),(8,.int .i64 i)],[(102,mS v a1 a2 a3 a4 es rs),(103,mS v a1 a2 a3 a4 fs qs)],[]⟩=some (.x 2,⟨[],[(102,mS v a1 a2 a3 a4 es rs),(103,mS v a1 a2 a3 a4 fs qs)],[]⟩))/\
 (¬rs.drop i=qs.drop i->run T (.loop tM) ⟨[(2,.ptr 102 0),(3,.ptr 103 0),(8,.int .i64 i)],[(102,mS v a1 a2 a3 a4 es rs),(103,mS v a1 a2 a3 a4 fs qs)],[]⟩=some (.r,⟨[(4,.bool false)],[(102,mS v a1 a2 a3 a4 es rs),(103,mS v a1 a2 a3 a4 fs qs)],[]⟩)):=by
 intro k;induction k with
 |zero=>
  intro i h1 h2;have h3:¬i<rs.length:=by omega
  have e1:rs.drop i=[]:=bD (by omega);have e2:qs.drop i=[]:=bD (by omega);have hv:=dD rs;refine⟨fun _=> ?_,fun h=>absurd (e1.trans e2.symm) h⟩;rw[ai];simp only[mS,go_sem,Qe,Qh,Qj,Qk,reduceIte,hv,h3]
 |succ k ih=>
  intro i h1 h2;have h3:i<rs.length:=by omega
  have h3f:i<qs.length:=by omega
  have hv:=dD rs;have hw:=dD qs;have hg:=iY rs i h3;have hh:=iY qs i h3f;have dE:=gh rs rl0 i h3;have dF:=gh qs rl0 i h3f;have ih':=ih (i+1) (by omega) (by omega);have e1:=cZ i (by omega);rw[dE,dF];generalize rs.drop (i+1)=R at*;generalize qs.drop (i+1)=S at*;generalize rs.getD i rl0=x at*;generalize qs.getD i rl0=y at*;obtain⟨r1,n1,v1,d1⟩:=x;obtain⟨r2,n2,v2,d2⟩:=y;clear dE dF ih;simp only[mS,Rul.sv]at*
  by_cases q1:r1=r2
  ·subst q1
   by_cases q2:n1=n2
   ·subst q2
    by_cases q3:v1=v2
    ·subst q3
     by_cases q4:d1=d2
     ·subst q4
      refine⟨fun h=> ?_,fun h=> ?_⟩
      ·have q:=ih'.1 (kZ.inj h).2
       rw[ai];simp only[go_sem,Qe,Qh,Qj,Qk,reduceIte,h3,h3f,hv,hw,hg,hh,e1,q]
      ·have q:=ih'.2 (fun h'=>h (by rw[h']))
       rw[ai];simp only[go_sem,Qe,Qh,Qj,Qk,reduceIte,h3,h3f,hv,hw,hg,hh,e1,q]
     ·refine⟨fun h=>absurd h (by simp[q4]),fun _=> ?_⟩
      rw[ai];simp only[go_sem,Qe,Qh,Qj,Qk,reduceIte,h3,h3f,hv,hw,hg,hh,q4]
    ·refine⟨fun h=>absurd h (by simp[q3]),fun _=> ?_⟩
     rw[ai];simp only[go_sem,Qe,Qh,Qj,Qk,reduceIte,h3,h3f,hv,hw,hg,hh,q3]
   ·refine⟨fun h=>absurd h (by simp[q2]),fun _=> ?_⟩
    rw[ai];simp only[go_sem,Qe,Qh,Qj,Qk,reduceIte,h3,h3f,hv,hw,hg,hh,q2]
  ·refine⟨fun h=>absurd h (by simp[q1]),fun _=> ?_⟩
   rw[ai];simp only[go_sem,Qe,Qh,Qj,Qk,reduceIte,h3,h3f,hv,hw,hg,hh,q1]
noncomputable def eqM(m n:Man):Bool:= @decide (m=n) (Classical.propDecidable _)
theorem Yh{m n:Man}(h:m=n):eqM m n=true:=by unfold eqM;exact @decide_eq_true _ (Classical.propDecidable _) h
theorem np{m n:Man}(h:¬m=n):eqM m n=false:=by unfold eqM;exact @decide_eq_false _ (Classical.propDecidable _) h
theorem f56(m n:Man)(hm:dz m):call T 56 [.agg m.sv,.agg n.sv] [] 0=some ⟨.bool (eqM m n),[],[]⟩:=by
 have hen:=hm.en;have hrn:=hm.rn;have hed:∀x∈m.ents,x.dig.length<=1000000:=fun x hx=>(hm.e x hx).2
 have hv:=dH m.ents;have hw:=dH n.ents;have hv2:=dD m.ruls;have hw2:=dD n.ruls;clear hm;obtain⟨v,a1,a2,a3,a4,es,rs⟩:=m;obtain⟨w,b1,b2,b3,b4,fs,qs⟩:=n;rw[an xmG];simp only[Man.sv]at*
 by_cases q1:v=w
 ·subst q1
  by_cases q2:a1=b1
  ·subst q2
   by_cases q3:a2=b2
   ·subst q3
    by_cases q4:a3=b3
    ·subst q4
     by_cases q5:a4=b4
     ·subst q5
      by_cases q6:es.length=fs.length
      ·have q6':(es.length:Int)=fs.length:=by omega
       by_cases q7:rs.length=qs.length
       ·have q7':(rs.length:Int)=qs.length:=by omega
        have h1:=xkY v a1 a2 a3 a4 es fs rs qs q6 hen hed _ 0 rfl (bH _);have h2:=xkX v a1 a2 a3 a4 es fs rs qs q7 hrn _ 0 rfl (bH _);simp only[aD,bh,mS]at h1 h2
        by_cases q8:es=fs
        ·have k1:=h1.1 q8
         by_cases q9:rs=qs
         ·have k2:=h2.1 q9
          rw[Yh (by rw[q8,q9])];simp only[go_sem,Qe,Qh,Qi,Qj,Qk,reduceCtorEq,reduceIte,hv,hw,hv2,hw2,q6',q7',k1,k2]
         ·have k2:=h2.2 q9
          rw[np (fun h=>q9 (Man.mk.inj h).2.2.2.2.2.2)];simp only[go_sem,Qe,Qh,Qi,Qj,Qk,reduceCtorEq,reduceIte,hv,hw,hv2,hw2,q6',q7',k1,k2]
        ·obtain⟨ob,k1⟩:=h1.2 q8
         rw[np (fun h=>q8 (Man.mk.inj h).2.2.2.2.2.1)];simp only[go_sem,Qe,Qh,Qi,Qj,Qk,reduceCtorEq,reduceIte,hv,hw,hv2,hw2,q6',q7',k1]
       ·have q7':¬(rs.length:Int)=qs.length:=by omega
        rw[np (fun h=>q7 (by rw[(Man.mk.inj h).2.2.2.2.2.2]))];simp only[go_sem,Qe,Qh,Qi,Qj,Qk,reduceCtorEq,reduceIte,hv,hw,hv2,hw2,q6',q7']
      ·have q6':¬(es.length:Int)=fs.length:=by omega
       rw[np (fun h=>q6 (by rw[(Man.mk.inj h).2.2.2.2.2.1]))];simp only[go_sem,Qe,Qh,Qi,Qj,Qk,reduceCtorEq,reduceIte,hv,hw,hv2,hw2,q6']
     ·rw[np (fun h=>q5 (Man.mk.inj h).2.2.2.2.1)]
      simp only[go_sem,Qe,Qh,Qi,Qj,Qk,reduceCtorEq,reduceIte,q5]
    ·rw[np (fun h=>q4 (Man.mk.inj h).2.2.2.1)]
     simp only[go_sem,Qe,Qh,Qi,Qj,Qk,reduceCtorEq,reduceIte,q4]
   ·rw[np (fun h=>q3 (Man.mk.inj h).2.2.1)]
    simp only[go_sem,Qe,Qh,Qi,Qj,Qk,reduceCtorEq,reduceIte,q3]
  ·rw[np (fun h=>q2 (Man.mk.inj h).2.1)]
   simp only[go_sem,Qe,Qh,Qi,Qj,Qk,reduceCtorEq,reduceIte,q2]
 ·rw[np (fun h=>q1 (Man.mk.inj h).1)]
  simp only[go_sem,Qe,Qh,Qi,Qj,Qk,reduceCtorEq,reduceIte,q1]
def wdL(now:Int)(d:List UInt8)(W:List Wd):Bool:=W.any (wdB now d)
theorem xla(W:List Wd)(now:Int)(d:List UInt8)(hn:W.length<=1000000):∀(n i:Nat),W.length-i=n->i<=W.length->
 if(W.drop i).any (wdB now d)then ∃k:Nat,run T (.loop tT) ⟨[(0,.lst 2 (gy W) .no),(1,.fn 100 [] [.ptr 0 0,.ptr 1 0]),(7,.int .i64 W.length),(8,.int .i64 i)],[(0,.rc [.int .i64 now]),(1,.rc [.byt d .no])],[]⟩=some (.r,⟨[(4,.int .i64 k)],[(0,.rc [.int .i64 now]),(1,.rc [.byt d .no])],[]⟩)
 else run T (.loop tT) ⟨[(0,.lst 2 (gy W) .no),(1,.fn 100 [] [.ptr 0 0,.ptr 1 0]),(7,.int .i64 W.length),(8,.int .i64 i)],[(0,.rc [.int .i64 now]),(1,.rc [.byt d .no])],[]⟩=some (.x 0,⟨[],[(0,.rc [.int .i64 now]),(1,.rc [.byt d .no])],[]⟩):=by
 intro n;have hv:=eQ W;induction n with
 |zero=>
  intro i h0 h1;have hi:i=W.length:=by omega
  subst hi;rw[bP,List.any_nil,if_neg (by decide),ai];simp only[go_sem,Qh,Qj,Qk,reduceCtorEq,reduceIte]
 |succ n ih=>
  intro i h0 h1;have hq:i<W.length:=by omega
  have e1:=cZ i (by omega);have hg:=ly W i hq;have g:=xl7 (W.getD i wd0) now d;have ih':=ih (i+1) (by omega) (by omega);rw[gh W wd0 i hq,List.any_cons];generalize (W.drop (i+1)).any (wdB now d)=Z at*;generalize W.getD i wd0=w at*
  by_cases hb:wdB now d w=true
  ·rw[hb,Bool.true_or,if_pos rfl]
   refine⟨i, ?_⟩;obtain⟨wm,wf⟩:=w;simp only[Wd.sv]at*;rw[hb]at g;rw[ai];simp only[go_sem,Qe,Qg,Qh,Qi,Qj,Qk,reduceCtorEq,reduceIte,hq,hv,hg,g,OQ]
  ·have hb':wdB now d w=false:=by simpa using hb
   rw[hb',Bool.false_or];obtain⟨wm,wf⟩:=w;simp only[Wd.sv]at*;rw[hb']at g
   by_cases hz:Z=true
   ·rw[if_pos hz]at ih' ⊢
    obtain⟨k,ih'⟩:=ih';refine⟨k, ?_⟩;rw[ai];simp only[go_sem,Qe,Qg,Qh,Qi,Qj,Qk,reduceCtorEq,reduceIte,hq,hv,hg,g,OQ,e1,ih']
   ·rw[if_neg hz]at ih' ⊢
    rw[ai];simp only[go_sem,Qe,Qg,Qh,Qi,Qj,Qk,reduceCtorEq,reduceIte,hq,hv,hg,g,OQ,e1,ih']
theorem xlU(W:List Wd)(now:Int)(d:List UInt8)(hn:W.length<=1000000):∃k:Int,(0<=k↔wdL now d W=true)/\
 call T 140 [.lst 2 (gy W) .no,.fn 100 [] [.ptr 0 0,.ptr 1 0]] [.rc [.int .i64 now],.rc [.byt d .no]] 0=some ⟨.int .i64 k,[(0,.rc [.int .i64 now]),(1,.rc [.byt d .no])],[]⟩:=by
 have hv:=eQ W;have hl:=xla W now d hn _ 0 rfl (bH _);rw[bh,aD]at hl;unfold wdL;rw[an xhe]
 by_cases hz:W.any (wdB now d)=true
 ·rw[if_pos hz]at hl
  obtain⟨k,hl⟩:=hl;exact⟨k,⟨fun _=>hz,fun _=>by omega⟩,by simp only[go_sem,Q7,Qe,Qh,Qi,Qj,Qk,reduceCtorEq,reduceIte,hv,hl]⟩
 ·rw[if_neg hz]at hl
  exact⟨-1,⟨fun h=>absurd h (by decide),fun h=>absurd h hz⟩,by simp only[go_sem,Q7,Qe,Qh,Qi,Qj,Qk,reduceCtorEq,reduceIte,hv,hl]⟩
theorem f99(W:List Wd)(now:Int)(d:List UInt8)(hn:W.length<=1000000):
 call T 99 [.lst 2 (gy W) .no,.fn 100 [] [.ptr 0 0,.ptr 1 0]] [.rc [.int .i64 now],.rc [.byt d .no]] 0=some ⟨.bool (wdL now d W),[(0,.rc [.int .i64 now]),(1,.rc [.byt d .no])],[]⟩:=by
 obtain⟨k,hk,g⟩:=xlU W now d hn;rw[an xmh]
 by_cases h:0<=k
 ·rw[hk.1 h]
  simp only[go_sem,Qe,Qg,Qh,Qi,Qj,Qk,reduceCtorEq,reduceIte,g,YT,h]
 ·have hf:wdL now d W=false:=by
   have:=mt hk.2 h;simpa using this
  rw[hf];simp only[go_sem,Qe,Qg,Qh,Qi,Qj,Qk,reduceCtorEq,reduceIte,g,YT,h]
theorem f57(c:Cat)(hc:c.ws.length<=1000000)(m:Man)(hm:dz m)(now:Int):call T 57 [.agg c.sv,.agg m.sv,.int .i64 now] [] 0=some ⟨.bool (wdL now (cD m) c.ws),[],[]⟩:=by have g0:=f32 m hm;have g1:=f99 c.ws now (cD m) hc;generalize cD m=D at*;obtain⟨mv,m1,m2,m3,m4,me,mr⟩:=m;obtain⟨⟨au,th⟩,ms,ws⟩:=c;simp only[Man.sv,Cat.sv]at*;rw[an xmF];simp only[go_sem,Qe,Qg,Qh,Qi,Qj,Qk,reduceCtorEq,reduceIte,g0,xU,g1,xmY]
end Go.Proofs.YtbfnljmmepcbfaaGreatDoor
