/- What the functions come to. No condition. -/
import Derived.Test.YtkcjdeofknkndaaGreatDoorTdIt
open Int renaming cast_ofNat_Int -> cr, natCast_zero -> av
open Go.IntKind renaming i64 -> ac, u64 -> aZ, wrap_u64 -> cB
open List renaming Pairwise -> eD, all_cons -> gx, append_assoc -> aA, append_nil -> bJ, cons_append -> aJ, drop -> iu, drop_drop -> dY, drop_eq_getElem_cons -> aS, drop_eq_nil_of_le -> bo, drop_length -> aX, drop_zero -> bh, foldl_cons -> cT, getD_eq_getElem?_getD -> aa, getElem?_drop -> bE, getElem?_eq_getElem -> ab, getElem_mem -> bp, length_append -> af, length_cons -> aC, length_drop -> aH, length_map -> au, length_replicate -> ca, length_set -> dr, length_singleton -> aM, length_take -> aj, map_take -> eC, mem_append -> al, mem_cons -> an, mem_cons_of_mem -> aq, mem_cons_self -> aD, mem_singleton -> ba, nil_append -> aF, not_mem_nil -> cz, pairwise_append -> eW, pairwise_cons -> bQ, pairwise_iff_getElem -> ox, pairwise_singleton -> sI, replicate -> am, singleton_append -> cX, take -> du, take_length -> bv, take_succ_cons -> mz
open Nat renaming add_sub_cancel -> jC, le_refl -> aQ
open Go.Op renaming bytesLess -> bP
open UInt8 renaming ofInt -> bO
set_option maxRecDepth 100000
set_option maxHeartbeats 16000000
set_option linter.unusedSimpArgs false
set_option linter.unusedVariables false
namespace Go.Proofs.YtkcjdeofknkndaaGreatDoor
open Go.Sy
open UInt8 renaming reduceLT -> Q0, reduceLE -> Q1
open Int renaming reduceToNat -> Q2, reduceLE -> Q3, reduceLT -> Q4, reduceEq -> Q5, reduceNe -> Q6, reduceNeg -> Q7, reduceAdd -> Q8, reduceSub -> Q9, reduceMul -> Qa
open Nat renaming reducePow -> Qb, reduceDiv -> Qc, reduceMod -> Qd, reduceAdd -> Qe, reduceSub -> Qf, reduceMul -> Qg, reduceLT -> Qh, reduceLeDiff -> Qi, reduceEqDiff -> Qj, reduceBEq -> Qk
end Go.Proofs.YtkcjdeofknkndaaGreatDoor
namespace SortT
variable {α : Type}
structure SO(lt:α->α->Bool):Prop where
 irr:∀x,lt x x=false
 tr:∀x y z,lt x y=true->lt y z=true->lt x z=true
 tri:∀x y,lt x y=false->lt y x=false->x=y
def Str(lt:α->α->Bool)(l:List α):Prop:=l.Pairwise fun x y=>lt x y=true
def Wk(lt:α->α->Bool)(l:List α):Prop:=l.Pairwise fun x y=>lt y x=false
theorem Au{lt:α->α->Bool}(h:SO lt):∀{a b:List α},Str lt a->Str lt b->(∀x,x∈a↔x∈b)->a=b
 |[],[],_,_,_=>rfl
 |[],y::b,_,_,he=>absurd ((he y).2 aD) cz
 |x::a,[],_,_,he=>absurd ((he x).1 aD) cz
 |x::a,y::b,ha,hb,he=>by
  obtain⟨h1,h2⟩:=bQ.1 ha;obtain⟨h3,h4⟩:=bQ.1 hb
  have hxy:x=y:=by
   rcases an.1 ((he x).1 aD)with e|hx
   ·exact e
   ·rcases an.1 ((he y).2 aD)with e|hy
    ·exact e.symm
    ·have:=h.tr x y x (h1 y hy) (h3 x hx)
     rw[h.irr]at this;cases this
  subst hxy
  have key:∀z,z∈a↔z∈b:=by
   intro z;constructor
   ·intro hz
    rcases an.1 ((he z).1 (aq _ hz))with e|hz'
    ·subst e
     have:=h1 z hz;rw[h.irr]at this;cases this
    ·exact hz'
   ·intro hz
    rcases an.1 ((he z).2 (aq _ hz))with e|hz'
    ·subst e
     have:=h3 z hz;rw[h.irr]at this;cases this
    ·exact hz'
  rw[Au h h2 h4 key]
def swp(d:α)(L:List α)(j:Nat):List α:=(L.set j (L.getD (j-1) d)).set (j-1) (L.getD j d)
def bub(lt:α->α->Bool)(d:α):Nat->List α->List α
 |0,L=>L
 |j+1,L=>if lt (L.getD (j+1) d) (L.getD j d)=true then bub lt d j (swp d L (j+1))else L
def isr(lt:α->α->Bool)(d:α):Nat->Nat->List α->List α
 |0,_,L=>L
 |m+1,i,L=>isr lt d m (i+1) (bub lt d i L)
theorem oB(d:α)(L:List α)(j:Nat):(swp d L j).length=L.length:=by simp[swp]
theorem mL(lt:α->α->Bool)(d:α):∀(j:Nat)(L:List α),(bub lt d j L).length=L.length
 |0,L=>rfl
 |j+1,L=>by
  unfold bub;split
  ·rw[mL lt d j,oB]
  ·rfl
theorem C3(lt:α->α->Bool)(d:α):∀(m i:Nat)(L:List α),(isr lt d m i L).length=L.length
 |0,_,L=>rfl
 |m+1,i,L=>by unfold isr;rw[C3 lt d m,mL]
theorem Rp(d:α)(A:List α)(y x:α)(B:List α):swp d (A++y::x::B) (A.length+1)=A++x::y::B:=by
 unfold swp;rw[jC];have e1:(A++y::x::B).getD A.length d=y:=by simp[aa]
 have e2:(A++y::x::B).getD (A.length+1) d=x:=by simp[aa]
 rw[e1,e2,List.set_append_right _ _ (by omega),List.set_append_right _ _ (by omega)];simp
theorem Rr:∀(A:List α)(n:Nat),A.length=n+1->∃A' y,A=A'++ [y]/\A'.length=n:=by
 intro A n h;have hne:A≠ []:=by intro e;subst e;simp at h
 refine⟨A.dropLast,A.getLast hne,(List.dropLast_concat_getLast hne).symm, ?_⟩;rw[List.length_dropLast];omega
theorem TL{lt:α->α->Bool}(h:SO lt)(d:α):∀(n:Nat)(A:List α)(x:α)(B:List α),A.length=n->Wk lt A->
 ∃A',bub lt d n (A++x::B)=A'++B/\Wk lt A'/\A'.length=n+1/\∀z,z∈A'↔z=x\/z∈A:=by
 intro n;induction n with
 |zero=>intro A x B hA hs;have:A=[]:=List.eq_nil_of_length_eq_zero hA;subst this;exact⟨[x],rfl,sI _ _,rfl,fun z=>by simp⟩
 |succ n ih=>
  intro A x B hA hs;obtain⟨A',y,rfl,hl⟩:=Rr A n hA;have e1:(A'++ [y]++x::B).getD n d=y:=by subst hl;simp[aa]
  have e2:(A'++ [y]++x::B).getD (n+1) d=x:=by subst hl;simp[aa]
  obtain⟨hs1, -,hs2⟩:=eW.1 hs;unfold bub;rw[e1,e2]
  by_cases hc:lt x y=true
  ·rw[if_pos hc]
   have e3:A'++ [y]++x::B=A'++y::x::B:=by simp
   rw[e3,<-hl,Rp,hl];obtain⟨A2,g1,g2,g3,g4⟩:=ih A' x (y::B) hl hs1;refine⟨A2++ [y],by rw[g1];simp, ?_,by simp[g3],fun z=> ?_⟩
   ·refine eW.2 ⟨g2,sI _ _,fun a ha b hb=> ?_⟩
    rw[ba]at hb;subst hb;rcases (g4 a).1 ha with rfl|ha
    ·cases hq:lt b a with
     |false=>rfl
     |true=>have:=h.tr _ _ _ hc hq;rw[h.irr]at this;cases this
    ·exact hs2 a ha b (ba.2 rfl)
   ·rw[al,ba,g4,al,ba,or_assoc]
  ·rw[if_neg hc]
   have hc':lt x y=false:=by simpa using hc
   refine⟨A'++ [y]++ [x],by simp, ?_,by simp[hl],fun z=>by simp only[al,ba];constructor<;>(intro h;rcases h with h|h<;>simp[h])⟩;refine eW.2 ⟨hs,sI _ _,fun a ha b hb=> ?_⟩;rw[ba]at hb;subst hb;rcases al.1 ha with ha|ha
   ·have h1:=hs2 a ha y (ba.2 rfl)
    cases hq:lt b a with
    |false=>rfl
    |true=>
     cases hr:lt a y with
     |true=>have:=h.tr _ _ _ hq hr;rw[hc']at this;cases this
     |false=>have:=h.tri _ _ hr h1;subst this;rw[hc']at hq;cases hq
   ·rw[ba]at ha
    subst ha;exact hc'
theorem xeI{lt:α->α->Bool}(h:SO lt)(d:α):∀(m i:Nat)(A B:List α),A.length=i->B.length=m->Wk lt A->
 Wk lt (isr lt d m i (A++B))/\∀z,z∈isr lt d m i (A++B)↔z∈A++B:=by
 intro m;induction m with
 |zero=>intro i A B hA hB hs;have:B=[]:=List.eq_nil_of_length_eq_zero hB;subst this;rw[bJ];exact⟨hs,fun z=>Iff.rfl⟩
 |succ m ih=>
  intro i A B hA hB hs;cases B with
  |nil=>simp at hB
  |cons x B=>
   obtain⟨A',g1,g2,g3,g4⟩:=TL h d i A x B hA hs;unfold isr;rw[g1];obtain⟨k1,k2⟩:=ih (i+1) A' B g3 (by simpa using hB) g2;refine⟨k1,fun z=> ?_⟩;rw[k2,al,g4,al,an];constructor
   ·rintro((h|h)|h)<;>simp[h]
   ·rintro(h|h|h)<;>simp[h]
def cp(eq:α->α->Bool):α->List α->List α
 |_,[]=> []
 |p,x::r=>if eq x p=true then cp eq x r else x::cp eq x r
def cpt(eq:α->α->Bool):List α->List α
 |[]=> []
 |x::r=>x::cp eq x r
theorem za{lt eq:α->α->Bool}(h:SO lt)(hq:∀x y,eq x y=true↔x=y):∀(l:List α)(p:α),∀z,z∈p::cp eq p l↔z∈p::l
 |[],p,z=>Iff.rfl
 |x::r,p,z=>by
  have ih:=za h hq r x z;unfold cp;split
  ·rename_i he
   have:x=p:=(hq _ _).1 he;subst this;rw[ih,an (l:=x::r)];constructor
   ·intro h;exact .inr h
   ·rintro(h|h)
    ·subst h;exact aD
    ·exact h
  ·rw[an,ih,an (l:=x::r)]
theorem Po{lt eq:α->α->Bool}(h:SO lt)(hq:∀x y,eq x y=true↔x=y):∀(l:List α)(p:α),Wk lt (p::l)->Str lt (p::cp eq p l)
 |[],_,_=>sI _ _
 |x::r,p,hw=>by
  obtain⟨h1,h2⟩:=bQ.1 hw;have ih:=Po h hq r x h2;unfold cp;split
  ·rename_i he
   have:x=p:=(hq _ _).1 he;subst this;exact ih
  ·rename_i he
   have hne:¬x=p:=fun e=>he ((hq _ _).2 e)
   have hpx:lt p x=true:=by
    cases hc:lt p x with
    |true=>rfl
    |false=>exact absurd (h.tri _ _ (h1 x aD) hc) hne
   refine bQ.2 ⟨fun z hz=> ?_,ih⟩;rcases an.1 ((za h hq r x z).1 hz)with rfl|hz
   ·exact hpx
   ·have h3:=(bQ.1 h2).1 z hz
    cases hc:lt x z with
    |true=>exact h.tr _ _ _ hpx hc
    |false=>have:=h.tri _ _ hc h3;subst this;exact hpx
theorem TF{lt eq:α->α->Bool}(h:SO lt)(hq:∀x y,eq x y=true↔x=y)(l:List α):∀z,z∈cpt eq l↔z∈l:=by
 cases l with
 |nil=>exact fun z=>Iff.rfl
 |cons x r=>exact za h hq r x
theorem TE{lt eq:α->α->Bool}(h:SO lt)(hq:∀x y,eq x y=true↔x=y)(l:List α)(hw:Wk lt l):Str lt (cpt eq l):=by
 cases l with
 |nil=>exact eD.nil
 |cons x r=>exact Po h hq r x hw
def inn(eq:α->α->Bool)(d:α):Nat->List α->Nat->Nat->List α×Nat
 |0,B,k,_=>(B,k)
 |m+1,B,k,p=>if eq (B.getD p d) (B.getD (p-1) d)=true then inn eq d m B k (p+1)else inn eq d m (B.set k (B.getD p d)) (k+1) (p+1)
theorem tp(eq:α->α->Bool)(d:α):∀(m:Nat)(B:List α)(k p:Nat),(inn eq d m B k p).1.length=B.length/\(inn eq d m B k p).2<=k+m
 |0,B,k,p=>⟨rfl,aQ _⟩
 |m+1,B,k,p=>by
  unfold inn;split
  ·have:=tp eq d m B k (p+1);omega
  ·have:=tp eq d m (B.set k (B.getD p d)) (k+1) (p+1)
   rw[dr]at this;omega
theorem jr(l:List α)(d:α)(p q:Nat)(h:p<=q):(l.drop p).getD (q-p) d=l.getD q d:=by
 simp only[aa,bE]
 congr 2;omega
theorem xeJ(eq:α->α->Bool)(d:α)(S:List α):∀(m:Nat)(B:List α)(k p:Nat),p+m=S.length->B.length=S.length->1<=p->k<=p-1->B.drop (p-1)=S.drop (p-1)->
 (inn eq d m B k p).1.take (inn eq d m B k p).2=B.take k++cp eq (S.getD (p-1) d) (S.drop p):=by
 intro m;induction m with
 |zero=>intro B k p h1 h2 h3 h4 h5;have:S.drop p=[]:=bo (by omega);rw[this];simp[inn,cp]
 |succ m ih=>
  intro B k p h1 h2 h3 h4 h5;have e1:B.getD (p-1) d=S.getD (p-1) d:=by rw[<-jr B d (p-1) (p-1) (aQ _),h5,jr S d _ _ (aQ _)]
  have e2:B.getD p d=S.getD p d:=by rw[<-jr B d (p-1) p (by omega),h5,jr S d _ _ (by omega)]
  have e3:S.drop p=S.getD p d::S.drop (p+1):=by rw[aS (by omega),aa,ab (by omega)];rfl
  have e4:B.drop p=S.drop p:=by
   have:∀l:List α,l.drop p=(l.drop (p-1)).drop 1:=fun l=>by rw[dY];congr 1;omega
   rw[this B,this S,h5]
  unfold inn;rw[e1,e2,e3];unfold cp;split
  ·rw[ih B k (p+1) (by omega) h2 (by omega) (by omega) (by rw[jC];exact e4),jC]
  ·rw[ih (B.set k (S.getD p d)) (k+1) (p+1) (by omega) (by rw[dr];exact h2) (by omega) (by omega) (by
    rw[jC,List.drop_set_of_lt (by omega)];exact e4),jC]
   have e5:(B.set k (S.getD p d)).take (k+1)=B.take k++ [S.getD p d]:=by rw[List.take_succ_eq_append_getElem (by rw[dr];omega),List.take_set_of_le (aQ _)];simp
   rw[e5];simp
theorem xfl(eq:α->α->Bool)(d:α)(S:List α)(k:Nat)(h0:1<=k)(hk:k<S.length)(h:S.take k++cp eq (S.getD (k-1) d) (S.drop k)=cpt eq S)(hn:¬eq (S.getD k d) (S.getD (k-1) d)=true):
 S.take (k+1)++cp eq (S.getD (k+1-1) d) (S.drop (k+1))=cpt eq S:=by
 have e3:S.drop k=S.getD k d::S.drop (k+1):=by rw[aS (by omega),aa,ab (by omega)];rfl
 rw[<-h,e3,jC]
 conv=>rhs;unfold cp
 rw[if_neg hn,List.take_succ_eq_append_getElem (by omega),aa,ab (by omega),aA];rfl
theorem xfk(eq:α->α->Bool)(d:α)(S:List α)(k:Nat)(h0:1<=k)(hk:k<S.length)(h:S.take k++cp eq (S.getD (k-1) d) (S.drop k)=cpt eq S)(hy:eq (S.getD k d) (S.getD (k-1) d)=true):
 (inn eq d (S.length-(k+1)) S k (k+1)).1.take (inn eq d (S.length-(k+1)) S k (k+1)).2=cpt eq S:=by
 have e3:S.drop k=S.getD k d::S.drop (k+1):=by rw[aS (by omega),aa,ab (by omega)];rfl
 rw[xeJ eq d S _ S k (k+1) (by omega) rfl (by omega) (by omega) rfl,<-h,e3,jC]
 conv=>rhs;unfold cp
 rw[if_pos hy]
theorem TG(eq:α->α->Bool)(d:α)(S:List α)(h:S.take S.length++cp eq (S.getD (S.length-1) d) (S.drop S.length)=cpt eq S):cpt eq S=S:=by rw[<-h,aX,bv];simp[cp]
def pf(lt:α->α->Bool)(x:α):List α->List α
 |[]=> [x]
 |y::r=>if lt y x=true then y::pf lt x r else if lt x y=true then x::y::r else y::r
theorem mn{lt:α->α->Bool}(h:SO lt)(x:α):∀(l:List α),∀z,z∈pf lt x l↔z=x\/z∈l
 |[],z=>by simp[pf]
 |y::r,z=>by
  have ih:=mn h x r z;unfold pf;split
  ·rw[an,ih,an]
   constructor
   ·rintro(h|h|h)<;>simp[h]
   ·rintro(h|h|h)<;>simp[h]
  ·rename_i h1
   split
   ·rw[an]
   ·rename_i h2
    have:x=y:=h.tri _ _ (by simpa using h2) (by simpa using h1);subst this;rw[an];constructor
    ·exact .inr
    ·rintro(h|h)
     ·exact .inl h
     ·exact h
theorem pW{lt:α->α->Bool}(h:SO lt)(x:α):∀(l:List α),Str lt l->Str lt (pf lt x l)
 |[],_=>sI _ _
 |y::r,hs=>by
  obtain⟨h1,h2⟩:=bQ.1 hs;unfold pf;split
  ·rename_i hc
   refine bQ.2 ⟨fun z hz=> ?_,pW h x r h2⟩;rcases (mn h x r z).1 hz with rfl|hz
   ·exact hc
   ·exact h1 z hz
  ·split
   ·rename_i hc
    refine bQ.2 ⟨fun z hz=> ?_,hs⟩;rcases an.1 hz with rfl|hz
    ·exact hc
    ·exact h.tr _ _ _ hc (h1 z hz)
   ·exact hs
theorem vO{lt:α->α->Bool}(h:SO lt):∀(es l:List α),Str lt l->Str lt (es.foldl (fun a x=>pf lt x a) l)
 |[],_,hs=>hs
 |x::es,l,hs=>vO h es _ (pW h x l hs)
theorem vP{lt:α->α->Bool}(h:SO lt):∀(es l:List α),∀z,z∈es.foldl (fun a x=>pf lt x a) l↔z∈es\/z∈l
 |[],l,z=>by simp
 |x::es,l,z=>by
  rw[cT,vP h es,mn h,an];constructor
  ·rintro(h|h|h)<;>simp[h]
  ·rintro((h|h)|h)<;>simp[h]
theorem FJ{lt eq:α->α->Bool}(h:SO lt)(hq:∀x y,eq x y=true↔x=y)(d:α)(es:List α):cpt eq (isr lt d (es.length-1) 1 es)=es.foldl (fun a x=>pf lt x a) []:=by
 have key:Wk lt (isr lt d (es.length-1) 1 es)/\∀z,z∈isr lt d (es.length-1) 1 es↔z∈es:=by
  cases es with
  |nil=>exact⟨eD.nil,fun z=>Iff.rfl⟩
  |cons x r=>exact xeI h d r.length 1 [x] r rfl rfl (sI _ _)
 refine Au h (TE h hq _ key.1) (vO h es [] eD.nil) fun z=> ?_
 rw[TF h hq,key.2,vP h];simp
end SortT
namespace Go.Proofs.YtkcjdeofknkndaaGreatDoor
open Go.Sy
open UInt8 renaming reduceLT -> Q0, reduceLE -> Q1
open Int renaming reduceToNat -> Q2, reduceLE -> Q3, reduceLT -> Q4, reduceEq -> Q5, reduceNe -> Q6, reduceNeg -> Q7, reduceAdd -> Q8, reduceSub -> Q9, reduceMul -> Qa
open Nat renaming reducePow -> Qb, reduceDiv -> Qc, reduceMod -> Qd, reduceAdd -> Qe, reduceSub -> Qf, reduceMul -> Qg, reduceLT -> Qh, reduceLeDiff -> Qi, reduceEqDiff -> Qj, reduceBEq -> Qk
def sj(a b:Int):Int:=if a<b then-1 else if b<a then 1 else 0
theorem xkQ(a:Int):call T 141 [.int .i64 a] [] 0=some ⟨.bool false,[],[]⟩:=by rw[ao xiP];simp only[go_sem,Q0,Q1,Q2,Q3,Q4,Q5,Q6,Q7,Q8,Q9,Qa,Qb,Qc,Qd,Qe,Qf,Qg,Qh,Qi,Qj,Qk,reduceCtorEq,reduceIte]
theorem xk0(a b:Int):call T 105 [.int .i64 a,.int .i64 b] [] 0=some ⟨.int .i64 (sj a b),[],[]⟩:=by
 have g1:=xkQ a;have g2:=xkQ b;rw[ao xji];unfold sj
 by_cases h1:a<b
 ·simp only[go_sem,Q0,Q1,Q2,Q3,Q4,Q5,Q6,Q7,Q8,Q9,Qa,Qb,Qc,Qd,Qe,Qf,Qg,Qh,Qi,Qj,Qk,reduceCtorEq,reduceIte,g1,g2,QP,h1]
 ·by_cases h2:b<a
  ·simp only[go_sem,Q0,Q1,Q2,Q3,Q4,Q5,Q6,Q7,Q8,Q9,Qa,Qb,Qc,Qd,Qe,Qf,Qg,Qh,Qi,Qj,Qk,reduceCtorEq,reduceIte,g1,g2,QP,h1,h2]
  ·simp only[go_sem,Q0,Q1,Q2,Q3,Q4,Q5,Q6,Q7,Q8,Q9,Qa,Qb,Qc,Qd,Qe,Qf,Qg,Qh,Qi,Qj,Qk,reduceCtorEq,reduceIte,g1,g2,QP,h1,h2]
theorem xm0(a b:List UInt8):call T 107 [.byt a .no,.byt b .no] [] 0=some ⟨.int .i64 (Lib.compareBytes a b),[],[]⟩:=by rw[kU xjg];rfl
theorem xmK(a b:List UInt8):call T 142 [.str a,.str b] [] 0=some ⟨.int .i64 (Lib.compareBytes a b),[],[]⟩:=by rw[kU xiO];rfl
theorem xkU(a:List UInt8):call T 130 [.str a] [] 0=some ⟨.bool (Pr.nameB a),[],[]⟩:=by rw[kU xiX];rfl
theorem xm1(a b:List UInt8):call T 106 [.str a,.str b] [] 0=some ⟨.int .i64 (Lib.compareBytes a b),[],[]⟩:=by have g:=xmK a b;rw[ao xjh];simp only[go_sem,Q0,Q1,Q2,Q3,Q4,Q5,Q6,Q7,Q8,Q9,Qa,Qb,Qc,Qd,Qe,Qf,Qg,Qh,Qi,Qj,Qk,reduceCtorEq,reduceIte,g,xjt]
def orI(a b c d:Int):Int:=if a≠0 then a else if b≠0 then b else if c≠0 then c else d
theorem xm2(a b c d:Int):call T 104 [.lst 1 [[.int .i64 a],[.int .i64 b],[.int .i64 c],[.int .i64 d]] .no] [] 0=some ⟨.int .i64 (orI a b c d),[],[]⟩:=by
 have k1:ac.wrap 1=1:=rfl;have k2:ac.wrap 2=2:=rfl;have k3:ac.wrap 3=3:=rfl;have k4:ac.wrap 4=4:=rfl;rw[ao xjj];unfold orI
 by_cases h1:a=0
 ·subst h1
  by_cases h2:b=0
  ·subst h2
   by_cases h3:c=0
   ·subst h3
    by_cases h4:d=0
    ·subst h4
     simp only[go_sem,Q0,Q1,Q2,Q3,Q4,Q5,Q6,Q7,Q8,Q9,Qa,Qb,Qc,Qd,Qe,Qf,Qg,Qh,Qi,Qj,Qk,reduceCtorEq,reduceIte]
     iterate 5
      rw[ai];simp only[go_sem,Q0,Q1,Q2,Q3,Q4,Q5,Q6,Q7,Q8,Q9,Qa,Qb,Qc,Qd,Qe,Qf,Qg,Qh,Qi,Qj,Qk,reduceCtorEq,reduceIte,k1,k2,k3,k4]
    ·simp only[go_sem,Q0,Q1,Q2,Q3,Q4,Q5,Q6,Q7,Q8,Q9,Qa,Qb,Qc,Qd,Qe,Qf,Qg,Qh,Qi,Qj,Qk,reduceCtorEq,reduceIte]
     iterate 4
      rw[ai];simp only[go_sem,Q0,Q1,Q2,Q3,Q4,Q5,Q6,Q7,Q8,Q9,Qa,Qb,Qc,Qd,Qe,Qf,Qg,Qh,Qi,Qj,Qk,reduceCtorEq,reduceIte,k1,k2,k3,k4,h4]
   ·simp only[go_sem,Q0,Q1,Q2,Q3,Q4,Q5,Q6,Q7,Q8,Q9,Qa,Qb,Qc,Qd,Qe,Qf,Qg,Qh,Qi,Qj,Qk,reduceCtorEq,reduceIte]
    iterate 3
     rw[ai];simp only[go_sem,Q0,Q1,Q2,Q3,Q4,Q5,Q6,Q7,Q8,Q9,Qa,Qb,Qc,Qd,Qe,Qf,Qg,Qh,Qi,Qj,Qk,reduceCtorEq,reduceIte,k1,k2,k3,k4,h3]
  ·simp only[go_sem,Q0,Q1,Q2,Q3,Q4,Q5,Q6,Q7,Q8,Q9,Qa,Qb,Qc,Qd,Qe,Qf,Qg,Qh,Qi,Qj,Qk,reduceCtorEq,reduceIte]
   iterate 2
    rw[ai];simp only[go_sem,Q0,Q1,Q2,Q3,Q4,Q5,Q6,Q7,Q8,Q9,Qa,Qb,Qc,Qd,Qe,Qf,Qg,Qh,Qi,Qj,Qk,reduceCtorEq,reduceIte,k1,k2,k3,k4,h2]
 ·simp only[go_sem,Q0,Q1,Q2,Q3,Q4,Q5,Q6,Q7,Q8,Q9,Qa,Qb,Qc,Qd,Qe,Qf,Qg,Qh,Qi,Qj,Qk,reduceCtorEq,reduceIte]
  rw[ai];simp only[go_sem,Q0,Q1,Q2,Q3,Q4,Q5,Q6,Q7,Q8,Q9,Qa,Qb,Qc,Qd,Qe,Qf,Qg,Qh,Qi,Qj,Qk,reduceCtorEq,reduceIte,k1,k2,k3,k4,h1]
structure Ent where
 role:Int
 name:List UInt8
 ver:Int
 dig:List UInt8
def Ent.sv(x:Ent):List SV:=[.int .i64 x.role,.str x.name,.int .i64 x.ver,.byt x.dig .no]
def s8(x y:Ent):Int:=orI (sj x.role y.role) (Lib.compareBytes x.name y.name) (sj x.ver y.ver) (Lib.compareBytes x.dig y.dig)
theorem f43(x y:Ent):call T 43 [.agg x.sv,.agg y.sv] [] 0=some ⟨.int .i64 (s8 x y),[],[]⟩:=by have g1:=xk0 x.role y.role;have g2:=xm1 x.name y.name;have g3:=xk0 x.ver y.ver;have g4:=xm0 x.dig y.dig;have g5:=xm2 (sj x.role y.role) (Lib.compareBytes x.name y.name) (sj x.ver y.ver) (Lib.compareBytes x.dig y.dig);obtain⟨r,n,v,d⟩:=x;obtain⟨r2,n2,v2,d2⟩:=y;simp only[Ent.sv]at*;rw[ao xnS];unfold s8;simp only[go_sem,Q0,Q1,Q2,Q3,Q4,Q5,Q6,Q7,Q8,Q9,Qa,Qb,Qc,Qd,Qe,Qf,Qg,Qh,Qi,Qj,Qk,reduceCtorEq,reduceIte,g1,xjE,g2,xjD,g3,g4,xjC,g5,xjF]
def lsF:List UInt8->List UInt8->Option Bool
 |a::x,b::y=>if a=b then lsF x y else some (decide (a<b))
 |_,_=>none
theorem vG:∀x y:List UInt8,bP x y=match lsF x y with|some q=>q|none=>decide (x.length<y.length)
 |[],[]=>by simp[lsF,bP]
 |[],_::_=>by simp[lsF,bP]
 |_::_,[]=>by simp[lsF,bP]
 |a::x,b::y=>by
  unfold lsF bP
  by_cases h:a=b
  ·subst h
   rw[if_pos rfl,vG x y];have:¬a<a:=UInt8.lt_irrefl a;simp[this]
  ·rw[if_neg h]
   simp[h]
theorem xmq(a b:List UInt8)(ha:a.length<=1000000000000):∀(n i:Nat),a.length-i=n->i<=a.length->i<=b.length->
 run T (.loop yX) ⟨[(0,.byt a .no),(1,.byt b .no),(5,.int .i64 i)],[],[]⟩=
 match lsF (a.drop i) (b.drop i)with
 |some q=>some (.r,⟨[(4,.bool q)],[],[]⟩)
 |none=>some (.x 0,⟨[(0,.byt a .no),(1,.byt b .no)],[],[]⟩):=by
 intro n;induction n with
 |zero=>
  intro i h0 h1 h2;have:i=a.length:=by omega
  subst this;have e:lsF [] (b.drop a.length)=none:=by unfold lsF;rfl
  rw[ai,aX,e];simp only[go_sem,Q0,Q1,Q2,Q3,Q4,Q5,Q6,Q7,Q8,Q9,Qa,Qb,Qc,Qd,Qe,Qf,Qg,Qh,Qi,Qj,Qk,reduceCtorEq,reduceIte]
 |succ n ih=>
  intro i h0 h1 h2;have hi:i<a.length:=by omega
  have e1:=cg i (by omega);rw[ai,cN a i hi]
  by_cases hj:i<b.length
  ·have ih':=ih (i+1) (by omega) (by omega) (by omega)
   rw[cN b i hj];unfold lsF
   by_cases hc:a.getD i 0=b.getD i 0
   ·rw[if_pos hc]
    simp only[go_sem,Q0,Q1,Q2,Q3,Q4,Q5,Q6,Q7,Q8,Q9,Qa,Qb,Qc,Qd,Qe,Qf,Qg,Qh,Qi,Qj,Qk,reduceCtorEq,reduceIte,hi,hj,e1,hc,ih']
   ·rw[if_neg hc]
    simp only[go_sem,Q0,Q1,Q2,Q3,Q4,Q5,Q6,Q7,Q8,Q9,Qa,Qb,Qc,Qd,Qe,Qf,Qg,Qh,Qi,Qj,Qk,reduceCtorEq,reduceIte,hi,hj,e1,hc]
  ·have hb:b.drop i=[]:=bo (by omega)
   have e:lsF (a.getD i 0::a.drop (i+1)) []=none:=by unfold lsF;rfl
   rw[hb,e];simp only[go_sem,Q0,Q1,Q2,Q3,Q4,Q5,Q6,Q7,Q8,Q9,Qa,Qb,Qc,Qd,Qe,Qf,Qg,Qh,Qi,Qj,Qk,reduceCtorEq,reduceIte,hi,hj]
theorem xmZ(a b:List UInt8)(ha:a.length<=1000000000000):call T 108 [.byt a .no,.byt b .no] [] 0=some ⟨.bool (bP a b),[],[]⟩:=by
 have h:=xmq a b ha _ 0 rfl (by omega) (by omega);simp only[av,bh]at h;rw[ao xjf,vG];cases hq:lsF a b with
 |some q=>rw[hq]at h;simp only[go_sem,Q0,Q1,Q2,Q3,Q4,Q5,Q6,Q7,Q8,Q9,Qa,Qb,Qc,Qd,Qe,Qf,Qg,Qh,Qi,Qj,Qk,reduceCtorEq,reduceIte,h]
 |none=>rw[hq]at h;simp only[go_sem,Q0,Q1,Q2,Q3,Q4,Q5,Q6,Q7,Q8,Q9,Qa,Qb,Qc,Qd,Qe,Qf,Qg,Qh,Qi,Qj,Qk,reduceCtorEq,reduceIte,h]
def eV(x y:Ent):Bool:=if x.role=y.role then(if x.name=y.name then(if x.ver=y.ver then bP x.dig y.dig else decide (x.ver<y.ver))else bP x.name y.name)else decide (x.role<y.role)
theorem f46(x y:Ent)(hx:x.dig.length<=1000000000000):call T 46 [.agg x.sv,.agg y.sv] [] 0=some ⟨.bool (eV x y),[],[]⟩:=by
 have g:=xmZ x.dig y.dig hx;obtain⟨r,n,v,d⟩:=x;obtain⟨r2,n2,v2,d2⟩:=y;simp only[Ent.sv]at*;rw[ao xnP];unfold eV
 by_cases h1:r=r2
 ·by_cases h2:n=n2
  ·by_cases h3:v=v2
   ·simp only[go_sem,Q0,Q1,Q2,Q3,Q4,Q5,Q6,Q7,Q8,Q9,Qa,Qb,Qc,Qd,Qe,Qf,Qg,Qh,Qi,Qj,Qk,reduceCtorEq,reduceIte,h1,h2,h3,g,xjB]
   ·simp only[go_sem,Q0,Q1,Q2,Q3,Q4,Q5,Q6,Q7,Q8,Q9,Qa,Qb,Qc,Qd,Qe,Qf,Qg,Qh,Qi,Qj,Qk,reduceCtorEq,reduceIte,h1,h2,h3]
  ·simp only[go_sem,Q0,Q1,Q2,Q3,Q4,Q5,Q6,Q7,Q8,Q9,Qa,Qb,Qc,Qd,Qe,Qf,Qg,Qh,Qi,Qj,Qk,reduceCtorEq,reduceIte,h1,h2]
 ·simp only[go_sem,Q0,Q1,Q2,Q3,Q4,Q5,Q6,Q7,Q8,Q9,Qa,Qb,Qc,Qd,Qe,Qf,Qg,Qh,Qi,Qj,Qk,reduceCtorEq,reduceIte,h1]
theorem fg:∀x y:List UInt8,Lib.compareBytes x y<0↔bP x y=true
 |[],[]=>by simp[Lib.compareBytes,bP]
 |[],_::_=>by simp[Lib.compareBytes,bP]
 |_::_,[]=>by simp[Lib.compareBytes,bP]
 |a::x,b::y=>by
  unfold Lib.compareBytes bP;have ih:=fg x y
  by_cases h1:a<b
  ·simp[h1]
  ·by_cases h2:b<a
   ·have h3:¬a=b:=by intro e;subst e;exact h1 h2
    simp[h1,h2,h3]
   ·have h3:a=b:=UInt8.le_antisymm (UInt8.not_lt.1 h2) (UInt8.not_lt.1 h1)
    subst h3;simp[h1,ih]
theorem iQ:∀x y:List UInt8,Lib.compareBytes x y=0↔x=y
 |[],[]=>by simp[Lib.compareBytes]
 |[],_::_=>by simp[Lib.compareBytes]
 |_::_,[]=>by simp[Lib.compareBytes]
 |a::x,b::y=>by
  unfold Lib.compareBytes;have ih:=iQ x y
  by_cases h1:a<b
  ·have h3:¬a=b:=by intro e;subst e;exact UInt8.lt_irrefl a h1
   simp[h1,h3]
  ·by_cases h2:b<a
   ·have h3:¬a=b:=by intro e;subst e;exact h1 h2
    simp[h1,h2,h3]
   ·have h3:a=b:=UInt8.le_antisymm (UInt8.not_lt.1 h2) (UInt8.not_lt.1 h1)
    subst h3;simp[h1,ih]
theorem Db(a b:Int):sj a b<0↔a<b:=by
 unfold sj;repeat' split
 all_goals omega
theorem iP(a b:Int):sj a b=0↔a=b:=by
 unfold sj;repeat' split
 all_goals omega
theorem s7(x y:Ent):s8 x y<0↔eV x y=true:=by
 unfold s8 orI eV
 by_cases h1:x.role=y.role
 ·rw[if_neg (by simp[iP,h1]),if_pos h1]
  by_cases h2:x.name=y.name
  ·rw[if_neg (by simp[iQ,h2]),if_pos h2]
   by_cases h3:x.ver=y.ver
   ·rw[if_neg (by simp[iP,h3]),if_pos h3];exact fg _ _
   ·rw[if_pos (by simp[iP,h3]),if_neg h3,decide_eq_true_eq];exact Db _ _
  ·rw[if_pos (by simp[iQ,h2]),if_neg h2];exact fg _ _
 ·rw[if_pos (by simp[iP,h1]),if_neg h1,decide_eq_true_eq];exact Db _ _
theorem xmz(s:List UInt8):call T 89 [.agg [.int .i64 1,.str s,.int .i64 0,.byt [] .no]] [] 0=some ⟨.int .i64 (if Pr.nameB s=true then 0 else 43),[],[]⟩:=by
 have g:=xkU s;rw[ao xk6];cases h:Pr.nameB s with
 |true=>rw[h]at g;simp only[go_sem,Q0,Q1,Q2,Q3,Q4,Q5,Q6,Q7,Q8,Q9,Qa,Qb,Qc,Qd,Qe,Qf,Qg,Qh,Qi,Qj,Qk,reduceCtorEq,reduceIte,g,ri]
 |false=>rw[h]at g;simp only[go_sem,Q0,Q1,Q2,Q3,Q4,Q5,Q6,Q7,Q8,Q9,Qa,Qb,Qc,Qd,Qe,Qf,Qg,Qh,Qi,Qj,Qk,reduceCtorEq,reduceIte,g,ri]
theorem f42(s:List UInt8):call T 42 [.str s] [] 0=some ⟨.bool (Pr.nameB s),[],[]⟩:=by
 have g:=xmz s;rw[ao xnT];cases h:Pr.nameB s with
 |true=>rw[h]at g;simp only[go_sem,Q0,Q1,Q2,Q3,Q4,Q5,Q6,Q7,Q8,Q9,Qa,Qb,Qc,Qd,Qe,Qf,Qg,Qh,Qi,Qj,Qk,reduceCtorEq,reduceIte,g,wu]
 |false=>rw[h]at g;simp only[go_sem,Q0,Q1,Q2,Q3,Q4,Q5,Q6,Q7,Q8,Q9,Qa,Qb,Qc,Qd,Qe,Qf,Qg,Qh,Qi,Qj,Qk,reduceCtorEq,reduceIte,g,wu]
structure Rul where
 kind:Int
 text:List UInt8
 lo:Int
 hi:Int
def Rul.sv(r:Rul):List SV:=[.int .i64 r.kind,.str r.text,.int .i64 r.lo,.int .i64 r.hi]
structure Man where
 vendor:List UInt8
 ver:Int
 flr:Int
 frm:Int
 til:Int
 ents:List Ent
 ruls:List Rul
def bD(l:List Ent):List (List SV):=l.map Ent.sv
def bT(l:List Rul):List (List SV):=l.map Rul.sv
def Man.sv(m:Man):List SV:=[.str m.vendor,.int .i64 m.ver,.int .i64 m.flr,.int .i64 m.frm,.int .i64 m.til,.lst 4 (bD m.ents) .no,.lst 4 (bT m.ruls) .no]
def en0:Ent:=⟨0,[],0,[]⟩
def rl0:Rul:=⟨0,[],0,0⟩
theorem bf(l:List Ent):(bD l).length=l.length:=au ..
theorem bj(l:List Rul):(bT l).length=l.length:=au ..
theorem dm(l:List Ent)(i:Nat)(h:i<l.length):(bD l).getD i []=(l.getD i en0).sv:=by simp[bD,aa,h]
theorem gK(l:List Rul)(i:Nat)(h:i<l.length):(bT l).getD i []=(l.getD i rl0).sv:=by simp[bT,aa,h]
structure eI(m:Man):Prop where
 v:m.vendor.length<=1000000
 en:m.ents.length<=1000000
 rn:m.ruls.length<=1000000
 e:∀x∈m.ents,x.name.length<=1000000/\x.dig.length<=1000000
 r:∀x∈m.ruls,x.text.length<=1000000
theorem cY{α:Type}(l:List α)(d:α)(i:Nat)(h:i<l.length):l.getD i d∈l:=by rw[aa,ab h];exact bp _
def lQ(l:List Ent)(i:Nat):Int:=
 if(l.getD i en0).role<1 then 1 else if 3<(l.getD i en0).role then 1 else if(l.getD i en0).ver<0 then 1 else if 1000000<(l.getD i en0).ver then 1
 else if((l.getD i en0).dig.length:Int)=32 then(if Pr.nameB (l.getD i en0).name=true then(if i=0 then 0 else if eV (l.getD (i-1) en0) (l.getD i en0)=true then 0 else 41)else 43)else 1
def gW(l:List Ent):Nat->Nat->Int
 |0,_=>0
 |n+1,i=>if lQ l i=0 then gW l n (i+1)else lQ l i
def oM(r:Rul):Int:=chk r.kind r.text r.lo r.hi
def ie:List Rul->Int
 |[]=>0
 |r::t=>if oM r=0 then ie t else oM r
def gA(m:Man):Int:=
 if Pr.nameB m.vendor=true then
  (if m.flr<0 then 1 else if m.ver<m.flr then 1 else if 1000000<m.ver then 1 else if m.frm<0 then 1 else if m.til<=m.frm then 1 else if 1099511627776<m.til then 1
  else if(16:Int)<m.ents.length then 4 else if(8:Int)<m.ruls.length then 4 else if gW m.ents m.ents.length 0=0 then ie m.ruls else gW m.ents m.ents.length 0)
 else 43
def Ay(m:Man)(i:Nat):CSt:=⟨[(1,.ptr 101 0),(58,.lst 4 (bD m.ents) .no),(59,.int .i64 m.ents.length),(60,.int .i64 i)],[(101,.rc m.sv)],[]⟩
theorem s44(m:Man)(hm:eI m)(i:Nat)(hi:i<m.ents.length):
 (lQ m.ents i=0->run T (.loop lX) (Ay m i)=run T (.loop lX) (Ay m (i+1)))/\
 (lQ m.ents i≠0->∃ob,run T (.loop lX) (Ay m i)=some (.r,⟨[(2,.int .i64 (lQ m.ents i))],ob,[]⟩)):=by
 have e1:=cg i (by have:=hm.en;omega);have hv:=bf m.ents;have hg:=dm m.ents i hi;have g1:=f42 (m.ents.getD i en0).name;have g2:=f43 (m.ents.getD (i-1) en0) (m.ents.getD i en0);have hb:=s7 (m.ents.getD (i-1) en0) (m.ents.getD i en0);have es:0<i->ac.wrap ((i:Int)-1)=((i-1:Nat):Int):=fun h=>by rw[w64 (by omega) (by have:=hm.en;omega)];omega
 have hi1:i-1<m.ents.length:=by omega
 have hg1:=dm m.ents (i-1) hi1;unfold lQ;obtain⟨mv,m1,m2,m3,m4,es0,rs⟩:=m;simp only[Ay,Man.sv]at*;generalize es0.getD i en0=x at*;generalize es0.getD (i-1) en0=y at*;obtain⟨r,n,v,d⟩:=x;obtain⟨r2,n2,v2,d2⟩:=y;simp only[Ent.sv]at*
 by_cases a1:r<1
 ·refine⟨fun h=>by simp[a1]at h,fun _=>⟨[(101,.rc [.str mv,.int .i64 m1,.int .i64 m2,.int .i64 m3,.int .i64 m4,.lst 4 (bD es0) .no,.lst 4 (bT rs) .no]),(104,.rc [.int .i64 r,.str n,.int .i64 v,.byt d .no])], ?_⟩⟩
  rw[ai];simp only[go_sem,Q0,Q1,Q2,Q3,Q4,Q5,Q6,Q7,Q8,Q9,Qa,Qb,Qc,Qd,Qe,Qf,Qg,Qh,Qi,Qj,Qk,reduceCtorEq,reduceIte,hi,e1,hv,hg,a1]
 by_cases a2:3<r
 ·refine⟨fun h=>by simp[a1,a2]at h,fun _=>⟨[(101,.rc [.str mv,.int .i64 m1,.int .i64 m2,.int .i64 m3,.int .i64 m4,.lst 4 (bD es0) .no,.lst 4 (bT rs) .no]),(104,.rc [.int .i64 r,.str n,.int .i64 v,.byt d .no])], ?_⟩⟩
  rw[ai];simp only[go_sem,Q0,Q1,Q2,Q3,Q4,Q5,Q6,Q7,Q8,Q9,Qa,Qb,Qc,Qd,Qe,Qf,Qg,Qh,Qi,Qj,Qk,reduceCtorEq,reduceIte,hi,e1,hv,hg,a1,a2]
 by_cases a3:v<0
 ·refine⟨fun h=>by simp[a1,a2,a3]at h,fun _=>⟨[(101,.rc [.str mv,.int .i64 m1,.int .i64 m2,.int .i64 m3,.int .i64 m4,.lst 4 (bD es0) .no,.lst 4 (bT rs) .no]),(104,.rc [.int .i64 r,.str n,.int .i64 v,.byt d .no])], ?_⟩⟩
  rw[ai];simp only[go_sem,Q0,Q1,Q2,Q3,Q4,Q5,Q6,Q7,Q8,Q9,Qa,Qb,Qc,Qd,Qe,Qf,Qg,Qh,Qi,Qj,Qk,reduceCtorEq,reduceIte,hi,e1,hv,hg,a1,a2,a3]
 by_cases a4:1000000<v
 ·refine⟨fun h=>by simp[a1,a2,a3,a4]at h,fun _=>⟨[(101,.rc [.str mv,.int .i64 m1,.int .i64 m2,.int .i64 m3,.int .i64 m4,.lst 4 (bD es0) .no,.lst 4 (bT rs) .no]),(104,.rc [.int .i64 r,.str n,.int .i64 v,.byt d .no])], ?_⟩⟩
  rw[ai];simp only[go_sem,Q0,Q1,Q2,Q3,Q4,Q5,Q6,Q7,Q8,Q9,Qa,Qb,Qc,Qd,Qe,Qf,Qg,Qh,Qi,Qj,Qk,reduceCtorEq,reduceIte,hi,e1,hv,hg,a1,a2,a3,a4]
 by_cases a5:(d.length:Int)=32
 ·cases a6:Pr.nameB n with
  |false=>rw[a6]at g1;refine⟨fun h=>by simp[a1,a2,a3,a4,a5,a6]at h,fun _=>⟨[(101,.rc [.str mv,.int .i64 m1,.int .i64 m2,.int .i64 m3,.int .i64 m4,.lst 4 (bD es0) .no,.lst 4 (bT rs) .no]),(104,.rc [.int .i64 r,.str n,.int .i64 v,.byt d .no])], ?_⟩⟩;rw[ai];simp only[go_sem,Q0,Q1,Q2,Q3,Q4,Q5,Q6,Q7,Q8,Q9,Qa,Qb,Qc,Qd,Qe,Qf,Qg,Qh,Qi,Qj,Qk,reduceCtorEq,reduceIte,hi,e1,hv,hg,a1,a2,a3,a4,a5,a6,g1,nI]
  |true=>
   rw[a6]at g1
   by_cases a7:i=0
   ·subst a7
    have hp:(0:Int)<es0.length:=by omega
    have kw:ac.wrap 1=1:=rfl;refine⟨fun _=> ?_,fun h=>by simp[a1,a2,a3,a4,a5,a6]at h⟩;rw[ai];simp only[go_sem,Q0,Q1,Q2,Q3,Q4,Q5,Q6,Q7,Q8,Q9,Qa,Qb,Qc,Qd,Qe,Qf,Qg,Qh,Qi,Qj,Qk,reduceCtorEq,reduceIte,hi,hp,kw,e1,hv,hg,a1,a2,a3,a4,a5,a6,g1,nI]
   ·have hp:(0:Int)<(i:Nat):=by omega
    have hp0:0<i:=by omega
    have es':=es hp0;cases a8:eV ⟨r2,n2,v2,d2⟩ ⟨r,n,v,d⟩with
    |true=>
     have h9:¬0<=s8 ⟨r2,n2,v2,d2⟩ ⟨r,n,v,d⟩:=by have:=hb.2 a8;omega
     refine⟨fun _=> ?_,fun h=>by simp[a1,a2,a3,a4,a5,a6,a7,a8]at h⟩;rw[ai];simp only[go_sem,Q0,Q1,Q2,Q3,Q4,Q5,Q6,Q7,Q8,Q9,Qa,Qb,Qc,Qd,Qe,Qf,Qg,Qh,Qi,Qj,Qk,reduceCtorEq,reduceIte,hi,hp,hp0,hi1,es',hg1,e1,hv,hg,a1,a2,a3,a4,a5,a6,g1,nI,g2,T2,h9]
    |false=>
     have h9:0<=s8 ⟨r2,n2,v2,d2⟩ ⟨r,n,v,d⟩:=by
      rcases Int.lt_or_le (s8 ⟨r2,n2,v2,d2⟩ ⟨r,n,v,d⟩) 0 with h|h
      ·rw[hb.1 h]at a8;cases a8
      ·exact h
     refine⟨fun h=>by simp[a1,a2,a3,a4,a5,a6,a7,a8]at h,fun _=>⟨[(101,.rc [.str mv,.int .i64 m1,.int .i64 m2,.int .i64 m3,.int .i64 m4,.lst 4 (bD es0) .no,.lst 4 (bT rs) .no]),(104,.rc [.int .i64 r,.str n,.int .i64 v,.byt d .no])], ?_⟩⟩;rw[ai];simp only[go_sem,Q0,Q1,Q2,Q3,Q4,Q5,Q6,Q7,Q8,Q9,Qa,Qb,Qc,Qd,Qe,Qf,Qg,Qh,Qi,Qj,Qk,reduceCtorEq,reduceIte,hi,hp,hp0,hi1,es',hg1,e1,hv,hg,a1,a2,a3,a4,a5,a6,g1,nI,g2,T2,h9,a7,a8]
 ·refine⟨fun h=>by simp[a1,a2,a3,a4,a5]at h,fun _=>⟨[(101,.rc [.str mv,.int .i64 m1,.int .i64 m2,.int .i64 m3,.int .i64 m4,.lst 4 (bD es0) .no,.lst 4 (bT rs) .no]),(104,.rc [.int .i64 r,.str n,.int .i64 v,.byt d .no])], ?_⟩⟩
  rw[ai];simp only[go_sem,Q0,Q1,Q2,Q3,Q4,Q5,Q6,Q7,Q8,Q9,Qa,Qb,Qc,Qd,Qe,Qf,Qg,Qh,Qi,Qj,Qk,reduceCtorEq,reduceIte,hi,e1,hv,hg,a1,a2,a3,a4,a5]
theorem l13(m:Man)(hm:eI m):∀(n i:Nat),m.ents.length-i=n->i<=m.ents.length->
 (gW m.ents n i=0->run T (.loop lX) (Ay m i)=some (.x 1,⟨[(1,.ptr 101 0)],[(101,.rc m.sv)],[]⟩))/\
 (gW m.ents n i≠0->∃ob,run T (.loop lX) (Ay m i)=some (.r,⟨[(2,.int .i64 (gW m.ents n i))],ob,[]⟩)):=by
 intro n;induction n with
 |zero=>
  intro i h0 h1;have:i=m.ents.length:=by omega
  subst this;refine⟨fun _=> ?_,fun h=>absurd rfl h⟩;rw[ai];simp only[Ay,go_sem,Q0,Q1,Q2,Q3,Q4,Q5,Q6,Q7,Q8,Q9,Qa,Qb,Qc,Qd,Qe,Qf,Qg,Qh,Qi,Qj,Qk,reduceCtorEq,reduceIte]
 |succ n ih=>
  intro i h0 h1;obtain⟨s1,s2⟩:=s44 m hm i (by omega);obtain⟨i1,i2⟩:=ih (i+1) (by omega) (by omega);unfold gW
  by_cases h:lQ m.ents i=0
  ·rw[if_pos h,s1 h];exact⟨i1,i2⟩
  ·rw[if_neg h];exact⟨fun h'=>absurd h' h,s2⟩
theorem xmk(m:Man)(hm:eI m)(ob:List (Nat×aG))(hob:ob=[(101,.rc m.sv)]):∀(n i:Nat),m.ruls.length-i=n->i<=m.ruls.length->
 (ie (m.ruls.drop i)=0->run T (.loop ur) ⟨[(111,.lst 4 (bT m.ruls) .no),(112,.int .i64 m.ruls.length),(113,.int .i64 i)],ob,[]⟩=some (.x 4,⟨[],ob,[]⟩))/\
 (ie (m.ruls.drop i)≠0->∃ob',run T (.loop ur) ⟨[(111,.lst 4 (bT m.ruls) .no),(112,.int .i64 m.ruls.length),(113,.int .i64 i)],ob,[]⟩=some (.r,⟨[(2,.int .i64 (ie (m.ruls.drop i)))],ob',[]⟩)):=by
 intro n;induction n with
 |zero=>
  intro i h0 h1;have:i=m.ruls.length:=by omega
  subst this;rw[aX];refine⟨fun _=> ?_,fun h=>absurd rfl h⟩;rw[ai];simp only[go_sem,Q0,Q1,Q2,Q3,Q4,Q5,Q6,Q7,Q8,Q9,Qa,Qb,Qc,Qd,Qe,Qf,Qg,Qh,Qi,Qj,Qk,reduceCtorEq,reduceIte]
 |succ n ih=>
  intro i h0 h1;have hi:i<m.ruls.length:=by omega
  obtain⟨i1,i2⟩:=ih (i+1) (by omega) (by omega);have e1:=cg i (by have:=hm.rn;omega);have hv:=bj m.ruls;have hg:=gK m.ruls i hi;have hd:m.ruls.drop i=m.ruls.getD i rl0::m.ruls.drop (i+1):=by rw[aS hi,aa,ab hi];rfl
  have hb:=hm.r _ (cY m.ruls rl0 i hi);rw[hd];unfold ie;generalize m.ruls.drop (i+1)=R at*;generalize m.ruls.getD i rl0=x at*;obtain⟨mv,m1,m2,m3,m4,es0,rs⟩:=m;obtain⟨k,t,lo,hi'⟩:=x;simp only[Man.sv,Rul.sv]at*;subst hob;have g:=f44 k t lo hi' (by omega)
  by_cases h:oM ⟨k,t,lo,hi'⟩=0
  ·rw[if_pos h]
   unfold oM at h;simp only at h;rw[h]at g;refine⟨fun h2=> ?_,fun h2=> ?_⟩
   ·have i1':=i1 h2
    rw[ai];simp only[go_sem,Q0,Q1,Q2,Q3,Q4,Q5,Q6,Q7,Q8,Q9,Qa,Qb,Qc,Qd,Qe,Qf,Qg,Qh,Qi,Qj,Qk,reduceCtorEq,reduceIte,hi,e1,hv,hg,g,tW,i1']
   ·obtain⟨ob',i2'⟩:=i2 h2
    refine⟨ob', ?_⟩;rw[ai];simp only[go_sem,Q0,Q1,Q2,Q3,Q4,Q5,Q6,Q7,Q8,Q9,Qa,Qb,Qc,Qd,Qe,Qf,Qg,Qh,Qi,Qj,Qk,reduceCtorEq,reduceIte,hi,e1,hv,hg,g,tW,i2']
  ·rw[if_neg h]
   unfold oM at h ⊢;simp only at h ⊢;refine⟨fun h2=>absurd h2 h,fun h2=>⟨[(101,.rc [.str mv,.int .i64 m1,.int .i64 m2,.int .i64 m3,.int .i64 m4,.lst 4 (bD es0) .no,.lst 4 (bT rs) .no]),(106,.rc [.int .i64 k,.str t,.int .i64 lo,.int .i64 hi'])], ?_⟩⟩;rw[ai];simp only[go_sem,Q0,Q1,Q2,Q3,Q4,Q5,Q6,Q7,Q8,Q9,Qa,Qb,Qc,Qd,Qe,Qf,Qg,Qh,Qi,Qj,Qk,reduceCtorEq,reduceIte,hi,e1,hv,hg,g,tW,h]
theorem f13(m:Man)(hm:eI m):call T 13 [.agg m.sv] [] 0=some ⟨.int .i64 (gA m),[],[]⟩:=by
 have g1:=f42 m.vendor;obtain⟨l1,l2⟩:=l13 m hm _ 0 rfl (by omega);obtain⟨r1,r2⟩:=xmk m hm _ rfl _ 0 rfl (by omega);have hv:=bf m.ents;have hr:=bj m.ruls;obtain⟨mv,m1,m2,m3,m4,es0,rs⟩:=m;simp only[Ay,Man.sv,av,bh,Nat.sub_zero]at*;rw[ao xoc];unfold gA;simp only;cases a0:Pr.nameB mv with
 |false=>rw[a0]at g1;simp only[go_sem,Q0,Q1,Q2,Q3,Q4,Q5,Q6,Q7,Q8,Q9,Qa,Qb,Qc,Qd,Qe,Qf,Qg,Qh,Qi,Qj,Qk,reduceCtorEq,reduceIte,g1,nI,a0]
 |true=>
  rw[a0]at g1
  by_cases a1:m2<0
  ·simp only[go_sem,Q0,Q1,Q2,Q3,Q4,Q5,Q6,Q7,Q8,Q9,Qa,Qb,Qc,Qd,Qe,Qf,Qg,Qh,Qi,Qj,Qk,reduceCtorEq,reduceIte,g1,nI,a0,a1]
  by_cases a2:m1<m2
  ·simp only[go_sem,Q0,Q1,Q2,Q3,Q4,Q5,Q6,Q7,Q8,Q9,Qa,Qb,Qc,Qd,Qe,Qf,Qg,Qh,Qi,Qj,Qk,reduceCtorEq,reduceIte,g1,nI,a0,a1,a2]
  by_cases a3:1000000<m1
  ·simp only[go_sem,Q0,Q1,Q2,Q3,Q4,Q5,Q6,Q7,Q8,Q9,Qa,Qb,Qc,Qd,Qe,Qf,Qg,Qh,Qi,Qj,Qk,reduceCtorEq,reduceIte,g1,nI,a0,a1,a2,a3]
  by_cases a4:m3<0
  ·simp only[go_sem,Q0,Q1,Q2,Q3,Q4,Q5,Q6,Q7,Q8,Q9,Qa,Qb,Qc,Qd,Qe,Qf,Qg,Qh,Qi,Qj,Qk,reduceCtorEq,reduceIte,g1,nI,a0,a1,a2,a3,a4]
  by_cases a5:m4<=m3
  ·simp only[go_sem,Q0,Q1,Q2,Q3,Q4,Q5,Q6,Q7,Q8,Q9,Qa,Qb,Qc,Qd,Qe,Qf,Qg,Qh,Qi,Qj,Qk,reduceCtorEq,reduceIte,g1,nI,a0,a1,a2,a3,a4,a5]
  by_cases a6:1099511627776<m4
  ·simp only[go_sem,Q0,Q1,Q2,Q3,Q4,Q5,Q6,Q7,Q8,Q9,Qa,Qb,Qc,Qd,Qe,Qf,Qg,Qh,Qi,Qj,Qk,reduceCtorEq,reduceIte,g1,nI,a0,a1,a2,a3,a4,a5,a6]
  by_cases a7:(16:Int)<es0.length
  ·simp only[go_sem,Q0,Q1,Q2,Q3,Q4,Q5,Q6,Q7,Q8,Q9,Qa,Qb,Qc,Qd,Qe,Qf,Qg,Qh,Qi,Qj,Qk,reduceCtorEq,reduceIte,g1,nI,a0,a1,a2,a3,a4,a5,a6,a7,hv]
  by_cases a8:(8:Int)<rs.length
  ·simp only[go_sem,Q0,Q1,Q2,Q3,Q4,Q5,Q6,Q7,Q8,Q9,Qa,Qb,Qc,Qd,Qe,Qf,Qg,Qh,Qi,Qj,Qk,reduceCtorEq,reduceIte,g1,nI,a0,a1,a2,a3,a4,a5,a6,a7,a8,hv,hr]
  by_cases a9:gW es0 es0.length 0=0
  ·have l1':=l1 a9
   by_cases b0:ie rs=0
   ·have r1':=r1 b0
    simp only[go_sem,Q0,Q1,Q2,Q3,Q4,Q5,Q6,Q7,Q8,Q9,Qa,Qb,Qc,Qd,Qe,Qf,Qg,Qh,Qi,Qj,Qk,reduceCtorEq,reduceIte,g1,nI,a0,a1,a2,a3,a4,a5,a6,a7,a8,hv,hr,l1',a9,r1',b0]
   ·obtain⟨ob,r2'⟩:=r2 b0
    simp only[go_sem,Q0,Q1,Q2,Q3,Q4,Q5,Q6,Q7,Q8,Q9,Qa,Qb,Qc,Qd,Qe,Qf,Qg,Qh,Qi,Qj,Qk,reduceCtorEq,reduceIte,g1,nI,a0,a1,a2,a3,a4,a5,a6,a7,a8,hv,hr,l1',a9,r2']
  ·obtain⟨ob,l2'⟩:=l2 a9
   simp only[go_sem,Q0,Q1,Q2,Q3,Q4,Q5,Q6,Q7,Q8,Q9,Qa,Qb,Qc,Qd,Qe,Qf,Qg,Qh,Qi,Qj,Qk,reduceCtorEq,reduceIte,g1,nI,a0,a1,a2,a3,a4,a5,a6,a7,a8,hv,hr,l2',a9]
section
open SortT
theorem wj:∀a:List UInt8,Lib.compareBytes a a=0
 |[]=>rfl
 |x::r=>by have h:=wj r;simp[Lib.compareBytes,h]
theorem Pp:∀a b c:List UInt8,Lib.compareBytes a b<0->Lib.compareBytes b c<0->Lib.compareBytes a c<0
 |[],[],_,h,_=>by simp[Lib.compareBytes]at h
 |[],_::_,[],_,k=>by simp[Lib.compareBytes]at k
 |[],_::_,_::_,_,_=>by simp[Lib.compareBytes]
 |_::_,[],_,h,_=>by simp[Lib.compareBytes]at h
 |_::_,_::_,[],_,k=>by simp[Lib.compareBytes]at k
 |x::r,y::s,z::t,h,k=>by
  have ih:=Pp r s t;unfold Lib.compareBytes at h k ⊢;have e1:(x<y)=(x.toNat<y.toNat):=rfl;have e2:(y<z)=(y.toNat<z.toNat):=rfl;have e3:(x<z)=(x.toNat<z.toNat):=rfl;have e4:(y<x)=(y.toNat<x.toNat):=rfl;have e5:(z<y)=(z.toNat<y.toNat):=rfl;have e6:(z<x)=(z.toNat<x.toNat):=rfl;simp only[e1,e2,e3,e4,e5,e6]at h k ⊢
  by_cases a1:x.toNat<y.toNat
  ·by_cases a2:y.toNat<z.toNat
   ·rw[if_pos (by omega)];decide
   ·rw[if_neg a2]at k
    by_cases a3:z.toNat<y.toNat
    ·rw[if_pos a3]at k;exact absurd k (by decide)
    ·rw[if_pos (by omega)];decide
  ·rw[if_neg a1]at h
   by_cases a4:y.toNat<x.toNat
   ·rw[if_pos a4]at h;exact absurd h (by decide)
   ·rw[if_neg a4]at h
    by_cases a2:y.toNat<z.toNat
    ·rw[if_pos (by omega)];decide
    ·rw[if_neg a2]at k
     by_cases a3:z.toNat<y.toNat
     ·rw[if_pos a3]at k;exact absurd k (by decide)
     ·rw[if_neg a3]at k
      rw[if_neg (by omega),if_neg (by omega)];exact ih h k
theorem wk:∀{a b:List UInt8},¬Lib.compareBytes a b<0->¬Lib.compareBytes a b=0->Lib.compareBytes b a<0
 |[],[],_,k=>absurd rfl k
 |[],_::_,h,_=>absurd (by simp[Lib.compareBytes]) h
 |_::_,[],_,_=>by simp[Lib.compareBytes]
 |x::r,y::s,h,k=>by
  unfold Lib.compareBytes at h k ⊢
  by_cases a1:x<y
  ·rw[if_pos a1]at h;exact absurd (by decide) h
  ·rw[if_neg a1]at h k
   by_cases a2:y<x
   ·rw[if_pos a2];decide
   ·rw[if_neg a2]at h k
    rw[if_neg a2,if_neg a1];exact wk h k
theorem zd(a:List UInt8):¬bP a a=true:=fun h=>by have:=(fg a a).2 h;rw[wj]at this;omega
theorem xam{a b c:List UInt8}(h:bP a b=true)(k:bP b c=true):bP a c=true:=(fg _ _).1 (Pp _ _ _ ((fg _ _).2 h) ((fg _ _).2 k))
theorem Pq{a b:List UInt8}(h:¬bP a b=true)(k:¬bP b a=true):a=b:=by refine(iQ a b).1 (Classical.byContradiction fun e=> ?_);exact k ((fg _ _).1 (wk (fun h2=>h ((fg _ _).1 h2)) e))
theorem tD(x y:Ent):eV x y=true↔x.role<y.role\/(x.role=y.role/\(bP x.name y.name=true\/(x.name=y.name/\(x.ver<y.ver\/(x.ver=y.ver/\bP x.dig y.dig=true))))):=by
 unfold eV
 by_cases h1:x.role=y.role
 ·rw[if_pos h1]
  by_cases h2:x.name=y.name
  ·rw[if_pos h2]
   have n2:¬bP x.name y.name=true:=by rw[h2];exact zd _
   by_cases h3:x.ver=y.ver
   ·rw[if_pos h3]
    constructor
    ·intro h;exact .inr ⟨h1,.inr ⟨h2,.inr ⟨h3,h⟩⟩⟩
    ·rintro(h|⟨-,h|⟨-,h|⟨-,h⟩⟩⟩)
     ·omega
     ·exact absurd h n2
     ·omega
     ·exact h
   ·rw[if_neg h3,decide_eq_true_eq]
    constructor
    ·intro h;exact .inr ⟨h1,.inr ⟨h2,.inl h⟩⟩
    ·rintro(h|⟨-,h|⟨-,h|⟨h, -⟩⟩⟩)
     ·omega
     ·exact absurd h n2
     ·exact h
     ·exact absurd h h3
  ·rw[if_neg h2]
   constructor
   ·intro h;exact .inr ⟨h1,.inl h⟩
   ·rintro(h|⟨-,h|⟨h, -⟩⟩)
    ·omega
    ·exact h
    ·exact absurd h h2
 ·rw[if_neg h1,decide_eq_true_eq]
  constructor
  ·intro h;exact .inl h
  ·rintro(h|⟨h, -⟩)
   ·exact h
   ·exact absurd h h1
theorem qS:SO eV where
 irr:=fun x=>by
  cases h:eV x x with
  |false=>rfl
  |true=>
   rcases (tD x x).1 h with h|⟨-,h|⟨-,h|⟨-,h⟩⟩⟩
   ·omega
   ·exact absurd h (zd _)
   ·omega
   ·exact absurd h (zd _)
 tr:=fun x y z h1 h2=>by
  rw[tD]at h1 h2 ⊢;rcases h1 with h1|⟨e1,h1⟩
  ·rcases h2 with h2|⟨e2,h2⟩
   ·left;omega
   ·left;omega
  ·rcases h2 with h2|⟨e2,h2⟩
   ·left;omega
   ·refine .inr ⟨e1.trans e2, ?_⟩
    rcases h1 with h1|⟨n1,h1⟩
    ·rcases h2 with h2|⟨n2,h2⟩
     ·exact .inl (xam h1 h2)
     ·rw[n2]at h1;exact .inl h1
    ·rcases h2 with h2|⟨n2,h2⟩
     ·rw[<-n1]at h2;exact .inl h2
     ·refine .inr ⟨n1.trans n2, ?_⟩
      rcases h1 with h1|⟨v1,h1⟩
      ·rcases h2 with h2|⟨v2,h2⟩
       ·left;omega
       ·left;omega
      ·rcases h2 with h2|⟨v2,h2⟩
       ·left;omega
       ·exact .inr ⟨v1.trans v2,xam h1 h2⟩
 tri:=fun x y h1 h2=>by
  have n1:¬eV x y=true:=by rw[h1];simp
  have n2:¬eV y x=true:=by rw[h2];simp
  rw[tD]at n1 n2
  have e1:x.role=y.role:=by
   have a:¬x.role<y.role:=fun h=>n1 (.inl h)
   have b:¬y.role<x.role:=fun h=>n2 (.inl h)
   omega
  have e2:x.name=y.name:=Pq (fun h=>n1 (.inr ⟨e1,.inl h⟩)) (fun h=>n2 (.inr ⟨e1.symm,.inl h⟩))
  have e3:x.ver=y.ver:=by
   have a:¬x.ver<y.ver:=fun h=>n1 (.inr ⟨e1,.inr ⟨e2,.inl h⟩⟩)
   have b:¬y.ver<x.ver:=fun h=>n2 (.inr ⟨e1.symm,.inr ⟨e2.symm,.inl h⟩⟩)
   omega
  have e4:x.dig=y.dig:=Pq (fun h=>n1 (.inr ⟨e1,.inr ⟨e2,.inr ⟨e3,h⟩⟩⟩)) (fun h=>n2 (.inr ⟨e1.symm,.inr ⟨e2.symm,.inr ⟨e3.symm,h⟩⟩⟩));obtain⟨r,n,v,d⟩:=x;obtain⟨r2,n2,v2,d2⟩:=y;simp only at e1 e2 e3 e4;subst e1;subst e2;subst e3;subst e4;rfl
def eqE(x y:Ent):Bool:=decide (s8 x y=0)
theorem Tg(x y:Ent):eqE x y=true↔x=y:=by
 unfold eqE;rw[decide_eq_true_eq];constructor
 ·intro h
  have h1:¬eV x y=true:=fun k=>by have:=(s7 x y).2 k;omega
  refine qS.tri x y (by simpa using h1) ?_;unfold s8 orI at h;obtain⟨r,n,v,d⟩:=x;obtain⟨r2,n2,v2,d2⟩:=y;simp only at h
  by_cases a1:sj r r2=0
  ·rw[if_neg (by simp[a1])]at h
   by_cases a2:Lib.compareBytes n n2=0
   ·rw[if_neg (by simp[a2])]at h
    by_cases a3:sj v v2=0
    ·rw[if_neg (by simp[a3])]at h
     have e1:=(iP _ _).1 a1;have e2:=(iQ _ _).1 a2;have e3:=(iP _ _).1 a3;have e4:=(iQ _ _).1 h;subst e1;subst e2;subst e3;subst e4;exact qS.irr _
    ·rw[if_pos a3]at h;exact absurd h a3
   ·rw[if_pos a2]at h;exact absurd h a2
  ·rw[if_pos a1]at h;exact absurd h a1
 ·rintro rfl
  unfold s8 orI;have e1:=(iP x.role x.role).2 rfl;have e2:=(iQ x.name x.name).2 rfl;have e3:=(iP x.ver x.ver).2 rfl;have e4:=(iQ x.dig x.dig).2 rfl;rw[e1,e2,e3,e4];rfl
structure pK(x:Ent):Prop where
 r1:1<=x.role
 r3:x.role<=3
 v0:0<=x.ver
 v1:x.ver<=1000000
 d:x.dig.length=32
 n:Pr.nameB x.name=true
theorem GX{l:List Ent}(h:∀x∈l,pK x)(hs:Str eV l)(i:Nat)(hi:i<l.length):lQ l i=0:=by
 obtain⟨h1,h2,h3,h4,h5,h6⟩:=h _ (cY l en0 i hi);unfold lQ;rw[if_neg (by omega),if_neg (by omega),if_neg (by omega),if_neg (by omega),if_pos (by omega),if_pos h6]
 by_cases h0:i=0
 ·rw[if_pos h0]
 ·have hb:eV (l.getD (i-1) en0) (l.getD i en0)=true:=by
   have:=ox.1 hs (i-1) i (by omega) hi (by omega);rw[aa,aa,ab (by omega),ab hi];exact this
  rw[if_neg h0,if_pos hb]
theorem sa{l:List Ent}(h:∀x∈l,pK x)(hs:Str eV l):∀(n i:Nat),i+n<=l.length->gW l n i=0
 |0,_,_=>rfl
 |n+1,i,hi=>by unfold gW;rw[if_pos (GX h hs i (by omega))];exact sa h hs n (i+1) (by omega)
theorem rC:∀{l:List Rul},(∀r∈l,oM r=0)->ie l=0
 |[],_=>rfl
 |r::t,h=>by unfold ie;rw[if_pos (h r aD)];exact rC fun x hx=>h x (aq _ hx)
theorem i6{m:Man}(h1:Pr.nameB m.vendor=true)(h2:0<=m.flr)(h3:m.flr<=m.ver)(h4:m.ver<=1000000)(h5:0<=m.frm)(h6:m.frm<m.til)(h7:m.til<=1099511627776)(h8:m.ents.length<=16)(h9:m.ruls.length<=8)
 (he:∀x∈m.ents,pK x) (hs:Str eV m.ents) (hr:∀r∈m.ruls,oM r=0):gA m=0:=by
 unfold gA;rw[if_pos h1,if_neg (by omega),if_neg (by omega),if_neg (by omega),if_neg (by omega),if_neg (by omega),if_neg (by omega),if_neg (by omega),if_neg (by omega),if_pos (sa he hs _ 0 (by omega))];exact rC hr
end
section
open SortT
theorem ma(n:Int):(bO n).toNat<cs0.length:=by have:cs0.length=256:=rfl;have:=(bO n).toNat_lt;omega
theorem xip(n:Nat)(hn:n<=12):∃k:Int,call T 167 [.int .u64 n] [] 0=some ⟨.int .i64 k,[],[]⟩:=by
 have h1:¬(4294967296:Int)<=n:=by omega
 have h2:¬(65536:Int)<=n:=by omega
 have h3:¬(256:Int)<=n:=by omega
 have hl:=ma (n:Int);rw[ao xat];simp only[go_sem,Q0,Q1,Q2,Q3,Q4,Q5,Q6,Q7,Q8,Q9,Qa,Qb,Qc,Qd,Qe,Qf,Qg,Qh,Qi,Qj,Qk,reduceCtorEq,reduceIte,h1,h2,h3,hl];exact⟨_,rfl⟩
theorem xkR(n:Nat)(hn:n<=12):∃k:Int,call T 136 [.int .u64 n] [] 0=some ⟨.int .i64 k,[],[]⟩:=by obtain⟨k,g⟩:=xip n hn;refine⟨k, ?_⟩;rw[ao xiS];simp only[go_sem,Q0,Q1,Q2,Q3,Q4,Q5,Q6,Q7,Q8,Q9,Qa,Qb,Qc,Qd,Qe,Qf,Qg,Qh,Qi,Qj,Qk,reduceCtorEq,reduceIte,g,jR]
theorem qe(L:List Ent)(i:Nat)(x:Ent):bD (L.set i x)=(bD L).set i x.sv:=by unfold bD;rw[List.map_set]
def EG(L:List Ent)(i j:Nat):CSt:=⟨[(0,.psl 0 4 0 L.length none),(1,.int .i64 0),(2,.int .i64 L.length),(3,.fn 43 [] []),(8,.int .i64 i),(9,.int .i64 j)],[(0,.arr 4 (bD L))],[]⟩
theorem xmf(i:Nat):∀(j:Nat)(L:List Ent),j<L.length->L.length<=1000000->
 run T (.loop yI) (EG L i j)=some (.x 2,⟨[(0,.psl 0 4 0 L.length none),(1,.int .i64 0),(2,.int .i64 L.length),(3,.fn 43 [] []),(8,.int .i64 i)],[(0,.arr 4 (bD (bub eV en0 j L)))],[]⟩):=by
 intro j;induction j with
 |zero=>intro L hj hn;rw[EG,ai];simp only[go_sem,Q0,Q1,Q2,Q3,Q4,Q5,Q6,Q7,Q8,Q9,Qa,Qb,Qc,Qd,Qe,Qf,Qg,Qh,Qi,Qj,Qk,reduceCtorEq,reduceIte,bub,av,Int.lt_irrefl]
 |succ j ih=>
  intro L hj hn;have hv:=bf L;have h0:(0:Int)<((j+1:Nat):Int):=by omega
  have e1:ac.wrap (((j+1:Nat):Int)-1)=(j:Int):=wZ (by omega)
  have hj0:j<L.length:=by omega
  have g1:=dm L (j+1) hj;have g2:=dm L j hj0;have g:=f43 (L.getD (j+1) en0) (L.getD j en0);have hlt:=s7 (L.getD (j+1) en0) (L.getD j en0);have ih':=ih (swp en0 L (j+1)) (by rw[oB];exact hj0) (by rw[oB];exact hn);unfold bub;unfold EG at ih' ⊢;rw[oB]at ih';unfold swp at ih' ⊢;rw[jC]at ih' ⊢;rw[qe,qe]at ih';generalize L.getD (j+1) en0=x at*;generalize L.getD j en0=y at*;obtain⟨x1,x2,x3,x4⟩:=x;obtain⟨y1,y2,y3,y4⟩:=y
  by_cases hc:eV ⟨x1,x2,x3,x4⟩ ⟨y1,y2,y3,y4⟩=true
  ·rw[if_pos hc]
   have hcl:=hlt.2 hc;simp only[Ent.sv]at g g1 g2 ih';rw[ai];simp only[go_sem,Q0,Q1,Q2,Q3,Q4,Q5,Q6,Q7,Q8,Q9,Qa,Qb,Qc,Qd,Qe,Qf,Qg,Qh,Qi,Qj,Qk,reduceCtorEq,reduceIte,h0,e1,hv,hj,hj0,g1,g2,g,T2,hcl,dr,ih']
  ·rw[if_neg hc]
   have hcl:¬s8 ⟨x1,x2,x3,x4⟩ ⟨y1,y2,y3,y4⟩<0:=fun h=>hc (hlt.1 h)
   simp only[Ent.sv]at g g1 g2;rw[ai];simp only[go_sem,Q0,Q1,Q2,Q3,Q4,Q5,Q6,Q7,Q8,Q9,Qa,Qb,Qc,Qd,Qe,Qf,Qg,Qh,Qi,Qj,Qk,reduceCtorEq,reduceIte,h0,e1,hv,hj,hj0,g1,g2,g,T2,hcl]
theorem xh3:∀(m i:Nat)(L:List Ent),i+m=L.length->L.length<=1000000->
 run T (.loop yH) ⟨[(0,.psl 0 4 0 L.length none),(1,.int .i64 0),(2,.int .i64 L.length),(3,.fn 43 [] []),(8,.int .i64 i)],[(0,.arr 4 (bD L))],[]⟩=
  some (.x 0,⟨[],[(0,.arr 4 (bD (isr eV en0 m i L)))],[]⟩):=by
 intro m;induction m with
 |zero=>
  intro i L h1 hn;have:i=L.length:=by omega
  subst this;rw[ai];simp only[go_sem,Q0,Q1,Q2,Q3,Q4,Q5,Q6,Q7,Q8,Q9,Qa,Qb,Qc,Qd,Qe,Qf,Qg,Qh,Qi,Qj,Qk,reduceCtorEq,reduceIte,isr,Int.lt_irrefl]
 |succ m ih=>
  intro i L h1 hn;have hi:i<L.length:=by omega
  have hiI:(i:Int)<(L.length:Int):=by omega
  have e1:=cg i (by omega);have hl:=xmf i i L hi hn;unfold EG at hl;have ih':=ih (i+1) (bub eV en0 i L) (by rw[mL];omega) (by rw[mL];exact hn);rw[mL]at ih';unfold isr;rw[ai];simp only[go_sem,Q0,Q1,Q2,Q3,Q4,Q5,Q6,Q7,Q8,Q9,Qa,Qb,Qc,Qd,Qe,Qf,Qg,Qh,Qi,Qj,Qk,reduceCtorEq,reduceIte,hi,hiI,e1,hl,ih']
theorem xmE(L:List Ent)(h0:0<L.length)(hn:L.length<=1000000):
 call T 158 [.psl 0 4 0 L.length none,.int .i64 0,.int .i64 L.length,.fn 43 [] []] [.arr 4 (bD L)] 0=some ⟨.tup [],[(0,.arr 4 (bD (isr eV en0 (L.length-1) 1 L)))],[]⟩:=by
 have h:=xh3 (L.length-1) 1 L (by omega) hn;have k1:ac.wrap 1=1:=rfl;rw[show((1:Nat):Int)=1 from rfl]at h;rw[ao xau];simp only[go_sem,Q0,Q1,Q2,Q3,Q4,Q5,Q6,Q7,Q8,Q9,Qa,Qb,Qc,Qd,Qe,Qf,Qg,Qh,Qi,Qj,Qk,reduceCtorEq,reduceIte,k1,h]
theorem xmN(L:List Ent)(h0:0<L.length)(hn:L.length<=12)(k:Int):
 call T 135 [.psl 0 4 0 L.length none,.int .i64 0,.int .i64 L.length,.int .i64 k,.fn 43 [] []] [.arr 4 (bD L)] 0=some ⟨.tup [],[(0,.arr 4 (bD (isr eV en0 (L.length-1) 1 L)))],[]⟩:=by
 have g:=xmE L h0 (by omega);have e1:ac.wrap ((L.length:Int)-0)=(L.length:Int):=wZ (by omega)
 have h12:(L.length:Int)<=12:=by omega
 rw[ao xav];simp only[go_sem,Q0,Q1,Q2,Q3,Q4,Q5,Q6,Q7,Q8,Q9,Qa,Qb,Qc,Qd,Qe,Qf,Qg,Qh,Qi,Qj,Qk,reduceCtorEq,reduceIte];rw[ai];simp only[go_sem,Q0,Q1,Q2,Q3,Q4,Q5,Q6,Q7,Q8,Q9,Qa,Qb,Qc,Qd,Qe,Qf,Qg,Qh,Qi,Qj,Qk,reduceCtorEq,reduceIte,e1,h12,hn,g,xaA]
theorem f92(L:List Ent)(h0:0<L.length)(hn:L.length<=12):
 call T 92 [.psl 0 4 0 L.length none,.fn 43 [] []] [.arr 4 (bD L)] 0=some ⟨.tup [],[(0,.arr 4 (bD (isr eV en0 (L.length-1) 1 L)))],[]⟩:=by
 obtain⟨k,g1⟩:=xkR L.length hn;have g2:=xmN L h0 hn k;have e1:aZ.wrap (L.length:Int)=(L.length:Int):=by rw[cB];omega
 rw[ao xk4];simp only[go_sem,Q0,Q1,Q2,Q3,Q4,Q5,Q6,Q7,Q8,Q9,Qa,Qb,Qc,Qd,Qe,Qf,Qg,Qh,Qi,Qj,Qk,reduceCtorEq,reduceIte,e1,g1,xaD,g2,xaE]
theorem xiq:call T 158 [.lst 4 [] .no,.int .i64 0,.int .i64 0,.fn 43 [] []] [] 0=some ⟨.tup [],[],[]⟩:=by have k1:ac.wrap 1=1:=rfl;rw[ao xau];simp only[go_sem,Q0,Q1,Q2,Q3,Q4,Q5,Q6,Q7,Q8,Q9,Qa,Qb,Qc,Qd,Qe,Qf,Qg,Qh,Qi,Qj,Qk,reduceCtorEq,reduceIte,k1];rw[ai];simp only[go_sem,Q0,Q1,Q2,Q3,Q4,Q5,Q6,Q7,Q8,Q9,Qa,Qb,Qc,Qd,Qe,Qf,Qg,Qh,Qi,Qj,Qk,reduceCtorEq,reduceIte,k1]
theorem xmx:call T 92 [.lst 4 [] .no,.fn 43 [] []] [] 0=some ⟨.tup [],[],[]⟩:=by
 obtain⟨k,g1⟩:=xkR 0 (by omega);have g3:=xiq;have k0:ac.wrap 0=0:=rfl;have k0':aZ.wrap 0=0:=rfl;rw[av]at g1
 have g2:call T 135 [.lst 4 [] .no,.int .i64 0,.int .i64 0,.int .i64 k,.fn 43 [] []] [] 0=some ⟨.tup [],[],[]⟩:=by rw[ao xav];simp only[go_sem,Q0,Q1,Q2,Q3,Q4,Q5,Q6,Q7,Q8,Q9,Qa,Qb,Qc,Qd,Qe,Qf,Qg,Qh,Qi,Qj,Qk,reduceCtorEq,reduceIte];rw[ai];simp only[go_sem,Q0,Q1,Q2,Q3,Q4,Q5,Q6,Q7,Q8,Q9,Qa,Qb,Qc,Qd,Qe,Qf,Qg,Qh,Qi,Qj,Qk,reduceCtorEq,reduceIte,k0,g3,xaA]
 rw[ao xk4];simp only[go_sem,Q0,Q1,Q2,Q3,Q4,Q5,Q6,Q7,Q8,Q9,Qa,Qb,Qc,Qd,Qe,Qf,Qg,Qh,Qi,Qj,Qk,reduceCtorEq,reduceIte,k0,k0',g1,xaD,g2,xaE,av]
theorem f94(x y:Ent):call T 94 [.agg x.sv,.agg y.sv] [] 0=some ⟨.bool (eqE x y),[],[]⟩:=by have g:=f43 x y;obtain⟨r,n,v,d⟩:=x;obtain⟨r2,n2,v2,d2⟩:=y;simp only[Ent.sv]at*;rw[ao xng];unfold eqE;simp only[go_sem,Q0,Q1,Q2,Q3,Q4,Q5,Q6,Q7,Q8,Q9,Qa,Qb,Qc,Qd,Qe,Qf,Qg,Qh,Qi,Qj,Qk,reduceCtorEq,reduceIte,g,T2]
theorem xlV(n:Nat)(hn:n<=1000)(k0:Nat):∀(m:Nat)(B:List Ent)(k k2:Nat),B.length=n->k0+k2+m=n->1<=k2->k<k0+k2->
 run T (.loop yg) ⟨[(0,.psl 0 4 0 n none),(1,.fn 94 [] []),(5,.int .i64 k),(6,.psl 0 4 k0 (n-k0) none),(7,.int .i64 k2)],[(0,.arr 4 (bD B))],[]⟩=
  some (.x 2,⟨[(0,.psl 0 4 0 n none),(5,.int .i64 ((inn eqE en0 m B k (k0+k2)).2:Nat))],[(0,.arr 4 (bD (inn eqE en0 m B k (k0+k2)).1))],[]⟩):=by
 intro m;induction m with
 |zero=>
  intro B k k2 h1 h2 h3 h4;have:¬k2<n-k0:=by omega
  rw[ai];simp only[go_sem,Q0,Q1,Q2,Q3,Q4,Q5,Q6,Q7,Q8,Q9,Qa,Qb,Qc,Qd,Qe,Qf,Qg,Qh,Qi,Qj,Qk,reduceCtorEq,reduceIte,inn,this]
 |succ m ih=>
  intro B k k2 h1 h2 h3 h4;have hc:k2<n-k0:=by omega
  have hc1:k2-1<n-k0:=by omega
  have hp:k0+k2<B.length:=by omega
  have hp1:k0+(k2-1)<B.length:=by omega
  have hv:=bf B;have g1:=dm B (k0+k2) hp;have g2:=dm B (k0+(k2-1)) hp1;have e1:ac.wrap ((k2:Int)-1)=((k2-1:Nat):Int):=wZ (by omega)
  have e2:=cg k2 (by omega);have e3:=cg k (by omega);have g:=f94 (B.getD (k0+k2) en0) (B.getD (k0+(k2-1)) en0);have ihA:=ih B k (k2+1) h1 (by omega) (by omega) (by omega);have ihB:=ih (B.set k (B.getD (k0+k2) en0)) (k+1) (k2+1) (by rw[dr];exact h1) (by omega) (by omega) (by omega);have hpe:k0+k2-1=k0+(k2-1):=by omega
  have hk:k<B.length:=by omega
  have hkn:k<n:=by omega
  unfold inn;rw[hpe];rw[qe]at ihB;rw[show k0+(k2+1)=k0+k2+1 from by omega]at ihA ihB;generalize B.getD (k0+k2) en0=x at*;generalize B.getD (k0+(k2-1)) en0=y at*;obtain⟨x1,x2,x3,x4⟩:=x;obtain⟨y1,y2,y3,y4⟩:=y;simp only[Ent.sv]at g g1 g2 ihB;cases hq:eqE ⟨x1,x2,x3,x4⟩ ⟨y1,y2,y3,y4⟩with
  |true=>rw[hq]at g;rw[if_pos rfl];rw[ai];simp only[go_sem,Q0,Q1,Q2,Q3,Q4,Q5,Q6,Q7,Q8,Q9,Qa,Qb,Qc,Qd,Qe,Qf,Qg,Qh,Qi,Qj,Qk,reduceCtorEq,reduceIte,hc,hc1,hp,hp1,hv,g1,g2,e1,e2,g,T0,ihA]
  |false=>rw[hq]at g;rw[if_neg (by simp)];rw[ai];simp only[go_sem,Q0,Q1,Q2,Q3,Q4,Q5,Q6,Q7,Q8,Q9,Qa,Qb,Qc,Qd,Qe,Qf,Qg,Qh,Qi,Qj,Qk,reduceCtorEq,reduceIte,hc,hc1,hp,hp1,hv,g1,g2,e1,e2,e3,g,T0,hk,hkn,dr,ihB]
theorem l93(S:List Ent)(hn:S.length<=1000):∀(m k:Nat),k+m=S.length->1<=k->S.take k++cp eqE (S.getD (k-1) en0) (S.drop k)=cpt eqE S->
 (cpt eqE S=S/\run T (.loop ue) ⟨[(0,.psl 0 4 0 S.length none),(1,.fn 94 [] []),(5,.int .i64 k)],[(0,.arr 4 (bD S))],[]⟩=
  some (.x 0,⟨[(0,.psl 0 4 0 S.length none)],[(0,.arr 4 (bD S))],[]⟩))\/
 (∃(R:List (List SV))(k':Nat),R.length=S.length/\k'<=S.length/\R.take k'=bD (cpt eqE S)/\run T (.loop ue) ⟨[(0,.psl 0 4 0 S.length none),(1,.fn 94 [] []),(5,.int .i64 k)],[(0,.arr 4 (bD S))],[]⟩=
  some (.r,⟨[(4,.psl 0 4 0 k' none)],[(0,.arr 4 R)],[]⟩)):=by
 intro m;induction m with
 |zero=>
  intro k h1 h2 h3;have:k=S.length:=by omega
  subst this;refine .inl ⟨TG eqE en0 S h3, ?_⟩;rw[ai];simp only[go_sem,Q0,Q1,Q2,Q3,Q4,Q5,Q6,Q7,Q8,Q9,Qa,Qb,Qc,Qd,Qe,Qf,Qg,Qh,Qi,Qj,Qk,reduceCtorEq,reduceIte]
 |succ m ih=>
  intro k h1 h2 h3;have hk:k<S.length:=by omega
  have hk1:k-1<S.length:=by omega
  have hv:=bf S;have g1:=dm S k hk;have g2:=dm S (k-1) hk1;have e1:ac.wrap ((k:Int)-1)=((k-1:Nat):Int):=wZ (by omega)
  have e3:=cg k (by omega);have g:=f94 (S.getD k en0) (S.getD (k-1) en0);have hin:=fun hy=>xfk eqE en0 S k h2 hk h3 hy
  have hat:=fun hy=>xfl eqE en0 S k h2 hk h3 hy
  have hli:=xlV S.length hn k (S.length-(k+1)) S k 1 rfl (by omega) (aQ _) (by omega);obtain⟨len1,len2⟩:=tp eqE en0 (S.length-(k+1)) S k (k+1);generalize S.getD k en0=x at*;generalize S.getD (k-1) en0=y at*;cases hq:eqE x y with
  |true=>
   have hin':=hin hq;right;generalize inn eqE en0 (S.length-(k+1)) S k (k+1)=z at*;obtain⟨B,k'⟩:=z;simp only at hin' len1 len2 hli;have hvB:=bf B;have c1:k'<=S.length:=by omega
   have c2:0<S.length-k':=by omega
   have c3:k'+(S.length-k')<=B.length:=by omega
   have c4:k<=S.length:=by omega
   have c5:k'+(S.length-k')<=S.length:=by omega
   rw[hq]at g;obtain⟨x1,x2,x3,x4⟩:=x;obtain⟨y1,y2,y3,y4⟩:=y;simp only[Ent.sv]at g g1 g2;rw[show((1:Nat):Int)=1 from rfl]at hli;refine⟨(bD B).take k'++am (S.length-k') [.int .i64 0,.str [],.int .i64 0,.byt [] .no]++(bD B).drop (k'+(S.length-k')),k', ?_,c1, ?_, ?_⟩
   ·rw[af,af,aj,ca,aH];omega
   ·rw[aA,List.take_append_of_le_length (by rw[aj];omega),List.take_take,Nat.min_self,<-hin',bD,bD,eC]
   ·rw[ai]
    simp only[go_sem,Q0,Q1,Q2,Q3,Q4,Q5,Q6,Q7,Q8,Q9,Qa,Qb,Qc,Qd,Qe,Qf,Qg,Qh,Qi,Qj,Qk,reduceCtorEq,reduceIte,hk,hk1,hv,g1,g2,e1,g,T0,c4,hli,c1,c2,c3,hvB,len1,c5,Nat.sub_zero]
  |false=>
   rw[hq]at g;have ih':=ih (k+1) (by omega) (by omega) (hat (by rw[hq];simp));obtain⟨x1,x2,x3,x4⟩:=x;obtain⟨y1,y2,y3,y4⟩:=y;simp only[Ent.sv]at g g1 g2;rcases ih' with⟨q1,q2⟩|⟨R,k',q1,q2,q3,q4⟩
   ·refine .inl ⟨q1, ?_⟩
    rw[ai];simp only[go_sem,Q0,Q1,Q2,Q3,Q4,Q5,Q6,Q7,Q8,Q9,Qa,Qb,Qc,Qd,Qe,Qf,Qg,Qh,Qi,Qj,Qk,reduceCtorEq,reduceIte,hk,hk1,hv,g1,g2,e1,e3,g,T0,q2]
   ·refine .inr ⟨R,k',q1,q2,q3, ?_⟩
    rw[ai];simp only[go_sem,Q0,Q1,Q2,Q3,Q4,Q5,Q6,Q7,Q8,Q9,Qa,Qb,Qc,Qd,Qe,Qf,Qg,Qh,Qi,Qj,Qk,reduceCtorEq,reduceIte,hk,hk1,hv,g1,g2,e1,e3,g,T0,q4]
theorem f93(S:List Ent)(h0:0<S.length)(hn:S.length<=1000):∃(R:List (List SV))(k':Nat),R.length=S.length/\k'<=S.length/\R.take k'=bD (cpt eqE S)/\
 call T 93 [.psl 0 4 0 S.length none,.fn 94 [] []] [.arr 4 (bD S)] 0=some ⟨.psl 0 4 0 k' none,[(0,.arr 4 R)],[]⟩:=by
 have hv:=bf S
 by_cases h2:S.length<2
 ·have h2':(S.length:Int)<2:=by omega
  refine⟨bD S,S.length,hv,aQ _, ?_, ?_⟩
  ·have:cpt eqE S=S:=by
    match S,h0,h2 with
    |[x],_,_=>rfl
    |_::_::_,_,h=>simp only[aC]at h;omega
   rw[this,<-hv,bv]
  ·rw[ao xar]
   simp only[go_sem,Q0,Q1,Q2,Q3,Q4,Q5,Q6,Q7,Q8,Q9,Qa,Qb,Qc,Qd,Qe,Qf,Qg,Qh,Qi,Qj,Qk,reduceCtorEq,reduceIte,hv,h2,h2']
 ·have h2':¬(S.length:Int)<2:=by omega
  have hs:S.take 1++cp eqE (S.getD (1-1) en0) (S.drop 1)=cpt eqE S:=by
   match S,h0 with
   |x::r,_=>rfl
  have h:=l93 S hn (S.length-1) 1 (by omega) (aQ _) hs;rw[show((1:Nat):Int)=1 from rfl]at h;rcases h with⟨q1,q2⟩|⟨R,k',q1,q2,q3,q4⟩
  ·refine⟨bD S,S.length,hv,aQ _,by rw[q1,<-hv,bv], ?_⟩
   rw[ao xar];simp only[go_sem,Q0,Q1,Q2,Q3,Q4,Q5,Q6,Q7,Q8,Q9,Qa,Qb,Qc,Qd,Qe,Qf,Qg,Qh,Qi,Qj,Qk,reduceCtorEq,reduceIte,hv,h2,h2',q2]
  ·refine⟨R,k',q1,q2,q3, ?_⟩
   rw[ao xar];simp only[go_sem,Q0,Q1,Q2,Q3,Q4,Q5,Q6,Q7,Q8,Q9,Qa,Qb,Qc,Qd,Qe,Qf,Qg,Qh,Qi,Qj,Qk,reduceCtorEq,reduceIte,hv,h2,h2',q4]
theorem xmw:call T 93 [.lst 4 [] .no,.fn 94 [] []] [] 0=some ⟨.lst 4 [] .no,[],[]⟩:=by rw[ao xar];simp only[go_sem,Q0,Q1,Q2,Q3,Q4,Q5,Q6,Q7,Q8,Q9,Qa,Qb,Qc,Qd,Qe,Qf,Qg,Qh,Qi,Qj,Qk,reduceCtorEq,reduceIte]
end
def okp(c:UInt8):Bool:= !(decide (c<32)||decide (126<c))
theorem xmM(l:List UInt8)(c:UInt8):call T 138 [.byt l .no,.u8 c] [] 0=some ⟨.int .i64 (tq l c),[],[]⟩:=by rw[kU xiR];rfl
theorem xml(l:List UInt8)(hl:l.length<=1000000000000):∀(n i:Nat),l.length-i=n->i<=l.length->
 run T (.loop yL) ⟨[(5,.byt l .no),(6,.int .i64 l.length),(7,.int .i64 i)],[],[]⟩=if(l.drop i).all okp=true then some (.x 0,⟨[],[],[]⟩)else some (.r,⟨[(2,.bool false)],[],[]⟩):=by
 intro n;induction n with
 |zero=>
  intro i h0 h1;have hi:i=l.length:=by omega
  subst hi;rw[ai,aX];simp only[go_sem,Q0,Q1,Q2,Q3,Q4,Q5,Q6,Q7,Q8,Q9,Qa,Qb,Qc,Qd,Qe,Qf,Qg,Qh,Qi,Qj,Qk,reduceCtorEq,reduceIte]
 |succ n ih=>
  intro i h0 h1;have hi:i<l.length:=by omega
  have e1:=cg i (by omega);have ih':=ih (i+1) (by omega) (by omega);rw[ai,cN l i hi,gx];unfold okp at ih' ⊢;generalize hc:l.getD i 0=c at*;generalize List.all (iu (i+1) l) _=q at*
  by_cases a1:c<32
  ·simp only[go_sem,Q0,Q1,Q2,Q3,Q4,Q5,Q6,Q7,Q8,Q9,Qa,Qb,Qc,Qd,Qe,Qf,Qg,Qh,Qi,Qj,Qk,reduceCtorEq,reduceIte,hi,hc,a1]
  ·by_cases a2:126<c
   ·simp only[go_sem,Q0,Q1,Q2,Q3,Q4,Q5,Q6,Q7,Q8,Q9,Qa,Qb,Qc,Qd,Qe,Qf,Qg,Qh,Qi,Qj,Qk,reduceCtorEq,reduceIte,hi,hc,a1,a2]
   ·simp only[go_sem,Q0,Q1,Q2,Q3,Q4,Q5,Q6,Q7,Q8,Q9,Qa,Qb,Qc,Qd,Qe,Qf,Qg,Qh,Qi,Qj,Qk,reduceCtorEq,reduceIte,hi,hc,e1,a1,a2,ih']
theorem xmL(l:List UInt8)(hl:l.length<=1000000000000):call T 139 [.byt l .no] [] 0=some ⟨.bool (l.all okp),[],[]⟩:=by
 have h:=xml l hl _ 0 rfl (by omega);simp only[av,bh]at h;rw[ao xiQ];cases hq:l.all okp with
 |true=>rw[if_pos hq]at h;simp only[go_sem,Q0,Q1,Q2,Q3,Q4,Q5,Q6,Q7,Q8,Q9,Qa,Qb,Qc,Qd,Qe,Qf,Qg,Qh,Qi,Qj,Qk,reduceCtorEq,reduceIte,h,hq]
 |false=>rw[if_neg (by rw[hq];simp)]at h;simp only[go_sem,Q0,Q1,Q2,Q3,Q4,Q5,Q6,Q7,Q8,Q9,Qa,Qb,Qc,Qd,Qe,Qf,Qg,Qh,Qi,Qj,Qk,reduceCtorEq,reduceIte,h,hq]
theorem rU(l:List UInt8)(c:UInt8):(tq l c= -1/\c∉l)\/∃k:Nat,tq l c=k/\k<l.length/\l=l.take k++c::l.drop (k+1)/\c∉l.take k:=by
 have e:tq l c=Lib.indexByte l c:=Lib.firstIdx_eq _ _;rw[e];clear e;induction l with
 |nil=>exact .inl ⟨rfl,cz⟩
 |cons b l ih=>
  unfold Lib.indexByte
  by_cases hb:b=c
  ·subst hb
   exact .inr ⟨0,by simp,by simp,by simp,by simp⟩
  ·have hb':¬(b==c)=true:=by simpa using hb
   rw[if_neg hb'];rcases ih with⟨h1,h2⟩|⟨k,h1,h2,h3,h4⟩
   ·rw[h1]
    refine .inl ⟨rfl, ?_⟩;rw[an,not_or];exact⟨fun e=>hb e.symm,h2⟩
   ·rw[h1]
    refine .inr ⟨k+1, ?_,by simpa using h2, ?_, ?_⟩
    ·have:¬((k:Int)== -1)=true:=by simp
     rw[if_neg this];omega
    ·rw[mz,List.drop_succ_cons,aJ,<-h3]
    ·rw[mz,an,not_or]
     exact⟨fun e=>hb e.symm,h4⟩
def lnP:Nat->List UInt8->List (List UInt8)->List (List UInt8)
 |0,_,o=>o
 |n+1,r,o=>if r=[]then o else if tq r 10<1 then []else if o.length=4 then []else if(r.take (tq r 10).toNat).all okp=true then lnP n (r.drop ((tq r 10).toNat+1)) (o++ [r.take (tq r 10).toNat])else []
theorem y7:∀(a:List UInt8)(o:List (List UInt8))(l r:List UInt8),(10:UInt8)∉a->lnF (a++r) o l=if a.all okp=true then lnF r o (l++a)else none
 |[],o,l,r,_=>by simp
 |c::a,o,l,r,h=>by
  rw[an,not_or]at h;rw[aJ,gx]
  conv=>lhs;unfold lnF
  rw[if_neg (fun e=>h.1 e.symm),y7 a o (l++ [c]) r h.2,aA,cX];generalize List.all a okp=q;generalize lnF r o (l++c::a)=z;unfold okp
  by_cases h1:c<32
  ·simp[h1]
  ·by_cases h2:126<c
   ·simp[h1,h2]
   ·simp[h1,h2]
def lnW(p:Option (List (List UInt8)×List UInt8)):List (List UInt8):=match p with
 |some (o,l)=>if(0:Int)<l.length then []else o
 |none=> []
theorem Ph:∀(n:Nat)(r:List UInt8)(o:List (List UInt8)),r.length<n->o.length<=4->lnP n r o=lnW (lnF r o [])
 |0,r,o,h,_=>by omega
 |n+1,r,o,h,ho=>by
  unfold lnP
  by_cases hr:r=[]
  ·subst hr
   rw[if_pos rfl];simp[lnF,lnW]
  ·rw[if_neg hr]
   rcases rU r 10 with⟨h1,h2⟩|⟨k,h1,h2,h3,h4⟩
   ·rw[h1,if_pos (by omega)]
    have e:lnF r o []=if r.all okp=true then some (o,r)else none:=by have:=y7 r o [] [] h2;rw[bJ]at this;rw[this];simp[lnF]
    rw[e]
    have hl:(0:Int)<r.length:=by have:0<r.length:=List.length_pos_iff.2 hr;omega
    split
    ·simp only[lnW];rw[if_pos hl]
    ·rfl
   ·rw[h1,Int.toNat_natCast]
    have e:lnF r o []=if(r.take k).all okp=true then lnF (10::r.drop (k+1)) o (r.take k)else none:=by
     conv=>lhs;rw[h3]
     rw[y7 _ o [] _ h4,aF]
    rw[e];have hk:(r.take k).length=k:=by rw[aj];omega
    unfold lnF;rw[if_pos rfl,hk]
    by_cases k0:k=0
    ·have i1:(k:Int)<1:=by omega
     have i2:(k:Int)=0:=by omega
     simp only[if_pos i1,if_pos i2,ite_self];rfl
    ·have i1:¬(k:Int)<1:=by omega
     have i2:¬(k:Int)=0:=by omega
     simp only[if_neg i1,if_neg i2]
     by_cases o4:o.length=4
     ·have i4:(4:Int)<=o.length:=by omega
      simp only[if_pos o4,if_pos i4,ite_self];rfl
     ·have i4:¬(4:Int)<=o.length:=by omega
      simp only[if_neg o4,if_neg i4];split
      ·exact Ph n _ _ (by rw[aH];omega) (by rw[af,aM];omega)
      ·rfl
theorem l98(ro:Int)(na:List UInt8)(ve:Int)(p:List UInt8)(hp:p.length<=1000000000000):∀(n:Nat)(r:List UInt8)(o:List (List UInt8)),r.length<n->r.length<=p.length->o.length<=4->
 ((
  ∃o',lnP n r o=o'/\run T (.loop EK) ⟨[(3,.lst 1 (bls o) (.id 103)),(4,.byt r .no)],[(101,.rc [.int .i64 ro,.str na,.int .i64 ve,.byt p .no])],[103]⟩=some (.x 0,⟨[(3,.lst 1 (bls o') (.id 103))],[(101,.rc [.int .i64 ro,.str na,.int .i64 ve,.byt p .no])],[103]⟩))\/
  (lnP n r o=[]/\run T (.loop EK) ⟨[(3,.lst 1 (bls o) (.id 103)),(4,.byt r .no)],[(101,.rc [.int .i64 ro,.str na,.int .i64 ve,.byt p .no])],[103]⟩=some (.r,⟨[(2,.lst 1 [] .clip)],[(101,.rc [.int .i64 ro,.str na,.int .i64 ve,.byt p .no])],[103]⟩))):=by
 intro n;induction n with
 |zero=>intro r o h0;omega
 |succ n ih=>
  intro r o h0 h1 h2;have hb:=lw o;unfold lnP
  by_cases hr:r=[]
  ·subst hr
   rw[if_pos rfl];refine .inl ⟨o,rfl, ?_⟩;rw[ai];simp only[go_sem,Q0,Q1,Q2,Q3,Q4,Q5,Q6,Q7,Q8,Q9,Qa,Qb,Qc,Qd,Qe,Qf,Qg,Qh,Qi,Qj,Qk,reduceCtorEq,reduceIte]
  ·rw[if_neg hr]
   have hpos:0<r.length:=List.length_pos_iff.2 hr;have hposI:(0:Int)<r.length:=by omega
   have g:=xmM r 10;rcases rU r 10 with⟨h3,_⟩|⟨k,h3,h4,_,_⟩
   ·rw[h3]at g ⊢
    rw[if_pos (by omega)];refine .inr ⟨rfl, ?_⟩;rw[ai];simp only[go_sem,Q0,Q1,Q2,Q3,Q4,Q5,Q6,Q7,Q8,Q9,Qa,Qb,Qc,Qd,Qe,Qf,Qg,Qh,Qi,Qj,Qk,reduceCtorEq,reduceIte,hpos,hposI,g,uK]
   ·rw[h3]at g ⊢
    rw[Int.toNat_natCast]
    by_cases k0:k=0
    ·subst k0
     rw[if_pos (by omega)];refine .inr ⟨rfl, ?_⟩;rw[ai];simp only[go_sem,Q0,Q1,Q2,Q3,Q4,Q5,Q6,Q7,Q8,Q9,Qa,Qb,Qc,Qd,Qe,Qf,Qg,Qh,Qi,Qj,Qk,reduceCtorEq,reduceIte,hpos,hposI,g,uK,av]
    ·have k1:¬(k:Int)<1:=by omega
     have k2:k<=r.length:=by omega
     have k2':(k:Int)<=r.length:=by omega
     have gp:=xmL (r.take k) (by rw[aj];omega);rw[if_neg k1]
     by_cases o4:o.length=4
     ·rw[if_pos o4]
      have o4':(o.length:Int)=4:=by omega
      refine .inr ⟨rfl, ?_⟩;rw[ai];simp only[go_sem,Q0,Q1,Q2,Q3,Q4,Q5,Q6,Q7,Q8,Q9,Qa,Qb,Qc,Qd,Qe,Qf,Qg,Qh,Qi,Qj,Qk,reduceCtorEq,reduceIte,hpos,hposI,g,uK,k1,hb,o4,o4']
     ·rw[if_neg o4]
      have o4':¬(o.length:Int)=4:=by omega
      cases hq:(r.take k).all okp with
      |false=>rw[if_neg (by simp)];rw[hq]at gp;refine .inr ⟨rfl, ?_⟩;rw[ai];simp only[go_sem,Q0,Q1,Q2,Q3,Q4,Q5,Q6,Q7,Q8,Q9,Qa,Qb,Qc,Qd,Qe,Qf,Qg,Qh,Qi,Qj,Qk,reduceCtorEq,reduceIte,hpos,hposI,g,uK,k1,k2,k2',hb,o4,o4',gp,QQ]
      |true=>
       rw[if_pos rfl];rw[hq]at gp;have ih':=ih (r.drop (k+1)) (o++ [r.take k]) (by rw[aH];omega) (by rw[aH];omega) (by rw[af,aM];omega);rw[Dd]at ih';have e1:=cg k (by omega);have k3:k+1<=r.length:=by omega
       have tf:du r.length r=r:=bv;have c2:(o.length+1)*24<=140737488355328:=by omega
       rcases ih' with⟨o',g1,g2⟩|⟨g1,g2⟩
       ·refine .inl ⟨o',g1, ?_⟩
        rw[ai];simp only[go_sem,Q0,Q1,Q2,Q3,Q4,Q5,Q6,Q7,Q8,Q9,Qa,Qb,Qc,Qd,Qe,Qf,Qg,Qh,Qi,Qj,Qk,reduceCtorEq,reduceIte,hpos,hposI,g,uK,k1,k2,k2',k3,hb,o4,o4',gp,QQ,e1,tf,c2,g2]
       ·refine .inr ⟨g1, ?_⟩
        rw[ai];simp only[go_sem,Q0,Q1,Q2,Q3,Q4,Q5,Q6,Q7,Q8,Q9,Qa,Qb,Qc,Qd,Qe,Qf,Qg,Qh,Qi,Qj,Qk,reduceCtorEq,reduceIte,hpos,hposI,g,uK,k1,k2,k2',k3,hb,o4,o4',gp,QQ,e1,tf,c2,g2]
theorem f98(x:Img)(hp:x.pay.length<=1000000000000):call T 98 [.agg x.sv] [] 0=some ⟨.lst 1 (bls (eQ x.pay)) .no,[],[]⟩:=by
 obtain⟨ro,na,ve,p⟩:=x;have he:eQ p=lnP (p.length+1) p []:=by rw[Ph _ _ _ (by omega) (by simp)];rfl
 have h:=l98 ro na ve p hp (p.length+1) p [] (by omega) (aQ _) (by simp);rw[<-he]at h;have hb:bls []=[]:=rfl;rw[hb]at h;rw[ao xne];simp only[Img.sv];rcases h with⟨o',h1,h2⟩|⟨h1,h2⟩
 ·rw[h1]
  simp only[go_sem,Q0,Q1,Q2,Q3,Q4,Q5,Q6,Q7,Q8,Q9,Qa,Qb,Qc,Qd,Qe,Qf,Qg,Qh,Qi,Qj,Qk,reduceCtorEq,reduceIte,h2]
 ·rw[h1,hb]
  simp only[go_sem,Q0,Q1,Q2,Q3,Q4,Q5,Q6,Q7,Q8,Q9,Qa,Qb,Qc,Qd,Qe,Qf,Qg,Qh,Qi,Qj,Qk,reduceCtorEq,reduceIte,h2]
theorem f89(x:Img)(hp:x.pay.length<=1000000000000):call T 89 [.agg x.sv] [] 0=some ⟨.int .i64 (fv x),[],[]⟩:=by
 have g1:=xkU x.name;have g2:=f98 x hp;obtain⟨ro,na,ve,p⟩:=x;have hb:=lw (eQ p);simp only[Img.sv]at g1 g2 ⊢;rw[ao xk6];unfold fv
 by_cases a1:ro<1
 ·simp only[go_sem,Q0,Q1,Q2,Q3,Q4,Q5,Q6,Q7,Q8,Q9,Qa,Qb,Qc,Qd,Qe,Qf,Qg,Qh,Qi,Qj,Qk,reduceCtorEq,reduceIte,a1]
 by_cases a2:4<ro
 ·simp only[go_sem,Q0,Q1,Q2,Q3,Q4,Q5,Q6,Q7,Q8,Q9,Qa,Qb,Qc,Qd,Qe,Qf,Qg,Qh,Qi,Qj,Qk,reduceCtorEq,reduceIte,a1,a2]
 by_cases a3:ve<0
 ·simp only[go_sem,Q0,Q1,Q2,Q3,Q4,Q5,Q6,Q7,Q8,Q9,Qa,Qb,Qc,Qd,Qe,Qf,Qg,Qh,Qi,Qj,Qk,reduceCtorEq,reduceIte,a1,a2,a3]
 by_cases a4:1000000<ve
 ·simp only[go_sem,Q0,Q1,Q2,Q3,Q4,Q5,Q6,Q7,Q8,Q9,Qa,Qb,Qc,Qd,Qe,Qf,Qg,Qh,Qi,Qj,Qk,reduceCtorEq,reduceIte,a1,a2,a3,a4]
 cases a5:Pr.nameB na with
 |false=>rw[a5]at g1;simp only[go_sem,Q0,Q1,Q2,Q3,Q4,Q5,Q6,Q7,Q8,Q9,Qa,Qb,Qc,Qd,Qe,Qf,Qg,Qh,Qi,Qj,Qk,reduceCtorEq,reduceIte,a1,a2,a3,a4,a5,g1,ri]
 |true=>
  rw[a5]at g1
  by_cases a6:(64:Int)<p.length
  ·simp only[go_sem,Q0,Q1,Q2,Q3,Q4,Q5,Q6,Q7,Q8,Q9,Qa,Qb,Qc,Qd,Qe,Qf,Qg,Qh,Qi,Qj,Qk,reduceCtorEq,reduceIte,a1,a2,a3,a4,a5,g1,ri,a6]
  by_cases a7:ro=4
  ·subst a7
   by_cases a8:((eQ p).length:Int)=0
   ·simp only[go_sem,Q0,Q1,Q2,Q3,Q4,Q5,Q6,Q7,Q8,Q9,Qa,Qb,Qc,Qd,Qe,Qf,Qg,Qh,Qi,Qj,Qk,reduceCtorEq,reduceIte,a1,a2,a3,a4,a5,g1,ri,a6,g2,xk9,hb,a8]
   ·simp only[go_sem,Q0,Q1,Q2,Q3,Q4,Q5,Q6,Q7,Q8,Q9,Qa,Qb,Qc,Qd,Qe,Qf,Qg,Qh,Qi,Qj,Qk,reduceCtorEq,reduceIte,a1,a2,a3,a4,a5,g1,ri,a6,g2,xk9,hb,a8]
  ·simp only[go_sem,Q0,Q1,Q2,Q3,Q4,Q5,Q6,Q7,Q8,Q9,Qa,Qb,Qc,Qd,Qe,Qf,Qg,Qh,Qi,Qj,Qk,reduceCtorEq,reduceIte,a1,a2,a3,a4,a5,g1,ri,a6,a7]
theorem f91(x:Img)(hn:x.name.length<=1000000)(hp:x.pay.length<=1000000):call T 91 [.agg x.sv] [] 0=some ⟨.byt (gk x) .no,[],[]⟩:=by
 have g0:=f89 x (by omega);have g1:=f48 [] 1 x.role (by omega) (by omega) (by simp);have g2:=f48 (be 1 (aZ.wrap x.role)) 4 x.ver (by omega) (by omega) (by rw[eS];omega);have g3:=f49 (be 1 (aZ.wrap x.role)++be 4 (aZ.wrap x.ver)) x.name (by rw[af,eS,eS];omega) (by omega);have g4:=f49 (ju (be 1 (aZ.wrap x.role)++be 4 (aZ.wrap x.ver)) x.name) x.pay (by rw[eG,af,eS,eS];omega) (by omega);simp only[cr,aF]at g1 g2;obtain⟨ro,na,ve,p⟩:=x;simp only[Img.sv]at*;rw[ao xnh];unfold gk
 by_cases h:fv ⟨ro,na,ve,p⟩=0
 ·rw[if_pos h]
  rw[h]at g0;simp only[go_sem,Q0,Q1,Q2,Q3,Q4,Q5,Q6,Q7,Q8,Q9,Qa,Qb,Qc,Qd,Qe,Qf,Qg,Qh,Qi,Qj,Qk,reduceCtorEq,reduceIte,g0,wu,g1,qU,g2,g3,tV,g4]
 ·rw[if_neg h]
  simp only[go_sem,Q0,Q1,Q2,Q3,Q4,Q5,Q6,Q7,Q8,Q9,Qa,Qb,Qc,Qd,Qe,Qf,Qg,Qh,Qi,Qj,Qk,reduceCtorEq,reduceIte,g0,wu,h]
end Go.Proofs.YtkcjdeofknkndaaGreatDoor
