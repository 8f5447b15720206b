/- Contracts. No condition. -/
import Derived.Test.YtdafipacemgcoaaGreatDoorTeMD
open Int renaming natCast_zero -> aH
open Go.IntKind renaming i64 -> aj, u64 -> bd, wrap_u64 -> cz
open List renaming Pairwise -> iI, append_assoc -> aZ, append_nil -> bK, drop_drop -> fp, drop_eq_getElem_cons -> aU, drop_eq_nil_of_le -> bO, drop_length -> bh, drop_zero -> bi, foldl_cons -> cx, getD_eq_getElem?_getD -> aa, getElem?_drop -> bf, getElem?_eq_getElem -> af, getElem_mem -> bo, length_append -> ah, length_cons -> av, length_drop -> aE, length_map -> aQ, length_replicate -> bQ, length_set -> cw, length_take -> aD, mem_append -> ak, mem_cons -> an, mem_cons_of_mem -> aq, mem_cons_self -> ax, mem_singleton -> aN, not_mem_nil -> cj, pairwise_append -> dP, pairwise_cons -> bA, pairwise_iff_getElem -> gZ, pairwise_singleton -> rE, replicate -> au, take_length -> bt
open Nat renaming add_sub_cancel -> jA, le_refl -> aI
open Go.Op renaming bytesLess -> bI
open UInt8 renaming ofInt -> dO
set_option maxRecDepth 100000
set_option maxHeartbeats 16000000
set_option linter.unusedSimpArgs false
set_option linter.unusedVariables false
namespace Go.Proofs.YtdafipacemgcoaaGreatDoor
open Go.Sy
open UInt8 renaming reduceLT -> Q0, reduceLE -> Q1
open Int renaming reduceToNat -> Q2, reduceLE -> Q3, reduceLT -> Q4, reduceEq -> Q5, reduceNe -> Q6, reduceNeg -> Q7, reduceAdd -> Q8, reduceSub -> Q9, reduceMul -> Qa
open Nat renaming reducePow -> Qb, reduceDiv -> Qc, reduceMod -> Qd, reduceAdd -> Qe, reduceSub -> Qf, reduceMul -> Qg, reduceLT -> Qh, reduceLeDiff -> Qi, reduceEqDiff -> Qj, reduceBEq -> Qk
end Go.Proofs.YtdafipacemgcoaaGreatDoor
namespace SortT
variable {α : Type}
structure SO(lt:α->α->Bool):Prop where
 irr:∀x,lt x x=false
 tr:∀x y z,lt x y=true->lt y z=true->lt x z=true
 tri:∀x y,lt x y=false->lt y x=false->x=y
def Str(lt:α->α->Bool)(l:List α):Prop:=l.Pairwise fun x y=>lt x y=true
def Wk(lt:α->α->Bool)(l:List α):Prop:=l.Pairwise fun x y=>lt y x=false
theorem zd{lt:α->α->Bool}(h:SO lt):∀{a b:List α},Str lt a->Str lt b->(∀x,x∈a↔x∈b)->a=b
 |[],[],_,_,_=>rfl
 |[],y::b,_,_,he=>absurd ((he y).2 ax) cj
 |x::a,[],_,_,he=>absurd ((he x).1 ax) cj
 |x::a,y::b,ha,hb,he=>by
  obtain⟨E,I⟩:=bA.1 ha;obtain⟨F,H⟩:=bA.1 hb
  have B:x=y:=by
   rcases an.1 ((he x).1 ax)with e|hx
   ·exact e
   ·rcases an.1 ((he y).2 ax)with e|hy
    ·exact e.symm
    ·have:=h.tr x y x (E y hy) (F x hx)
     rw[h.irr]at this;cases this
  subst B
  have C:∀z,z∈a↔z∈b:=by
   intro z;constructor
   ·intro hz
    rcases an.1 ((he z).1 (aq _ hz))with e|hz'
    ·subst e
     have:=E z hz;rw[h.irr]at this;cases this
    ·exact hz'
   ·intro hz
    rcases an.1 ((he z).2 (aq _ hz))with e|hz'
    ·subst e
     have:=F z hz;rw[h.irr]at this;cases this
    ·exact hz'
  rw[zd h I H C]
def swp(d:α)(L:List α)(j:Nat):List α:=(L.set j (L.getD (j-1) d)).set (j-1) (L.getD j d)
def bub(lt:α->α->Bool)(d:α):Nat->List α->List α
 |0,L=>L
 |j+1,L=>if lt (L.getD (j+1) d) (L.getD j d)=true then bub lt d j (swp d L (j+1))else L
def isr(lt:α->α->Bool)(d:α):Nat->Nat->List α->List α
 |0,_,L=>L
 |m+1,i,L=>isr lt d m (i+1) (bub lt d i L)
theorem nQ(d:α)(L:List α)(j:Nat):(swp d L j).length=L.length:=by simp[swp]
theorem mn(lt:α->α->Bool)(d:α):∀(j:Nat)(L:List α),(bub lt d j L).length=L.length
 |0,L=>rfl
 |j+1,L=>by
  unfold bub;split
  ·rw[mn lt d j,nQ]
  ·rfl
theorem BX(lt:α->α->Bool)(d:α):∀(m i:Nat)(L:List α),(isr lt d m i L).length=L.length
 |0,_,L=>rfl
 |m+1,i,L=>by unfold isr;rw[BX lt d m,mn]
theorem On(d:α)(A:List α)(y x:α)(B:List α):swp d (A++y::x::B) (A.length+1)=A++x::y::B:=by
 unfold swp;rw[jA];have h:(A++y::x::B).getD A.length d=y:=by simp[aa]
 have z:(A++y::x::B).getD (A.length+1) d=x:=by simp[aa]
 rw[h,z,List.set_append_right _ _ (by omega),List.set_append_right _ _ (by omega)];simp
theorem Oq:∀(A:List α)(n:Nat),A.length=n+1->∃B y,A=B++ [y]/\B.length=n:=by
 intro A n h;have z:A≠ []:=by intro e;subst e;simp at h
 refine⟨A.dropLast,A.getLast z,(List.dropLast_concat_getLast z).symm, ?_⟩;rw[List.length_dropLast];omega
theorem QL{lt:α->α->Bool}(h:SO lt)(d:α):∀(n:Nat)(A:List α)(x:α)(B:List α),A.length=n->Wk lt A->
 ∃C,bub lt d n (A++x::B)=C++B/\Wk lt C/\C.length=n+1/\∀z,z∈C↔z=x\/z∈A:=by
 intro n;induction n with
 |zero=>intro A x B S O;have:A=[]:=List.eq_nil_of_length_eq_zero S;subst this;exact⟨[x],rfl,rE _ _,rfl,fun z=>by simp⟩
 |succ n ih=>
  intro A x B S O;obtain⟨C,y,rfl,H⟩:=Oq A n S;have Z:(C++ [y]++x::B).getD n d=y:=by subst H;simp[aa]
  have e2:(C++ [y]++x::B).getD (n+1) d=x:=by subst H;simp[aa]
  obtain⟨Q, -,J⟩:=dP.1 O;unfold bub;rw[Z,e2]
  by_cases L:lt x y=true
  ·rw[if_pos L]
   have U:C++ [y]++x::B=C++y::x::B:=by simp
   rw[U,<-H,On,H];obtain⟨A2,g1,g2,W,T⟩:=ih C x (y::B) H Q;refine⟨A2++ [y],by rw[g1];simp, ?_,by simp[W],fun z=> ?_⟩
   ·refine dP.2 ⟨g2,rE _ _,fun a E b I=> ?_⟩
    rw[aN]at I;subst I;rcases (T a).1 E with rfl|E
    ·cases hq:lt b a with
     |false=>rfl
     |true=>have:=h.tr _ _ _ L hq;rw[h.irr]at this;cases this
    ·exact J a E b (aN.2 rfl)
   ·rw[ak,aN,T,ak,aN,or_assoc]
  ·rw[if_neg L]
   have F:lt x y=false:=by simpa using L
   refine⟨C++ [y]++ [x],by simp, ?_,by simp[H],fun z=>by simp only[ak,aN];constructor<;>(intro h;rcases h with h|h<;>simp[h])⟩;refine dP.2 ⟨O,rE _ _,fun a E b I=> ?_⟩;rw[aN]at I;subst I;rcases ak.1 E with E|E
   ·have h1:=J a E y (aN.2 rfl)
    cases hq:lt b a with
    |false=>rfl
    |true=>
     cases hr:lt a y with
     |true=>have:=h.tr _ _ _ hq hr;rw[F]at this;cases this
     |false=>have:=h.tri _ _ hr h1;subst this;rw[F]at hq;cases hq
   ·rw[aN]at E
    subst E;exact F
theorem xcF{lt:α->α->Bool}(h:SO lt)(d:α):∀(m i:Nat)(A B:List α),A.length=i->B.length=m->Wk lt A->
 Wk lt (isr lt d m i (A++B))/\∀z,z∈isr lt d m i (A++B)↔z∈A++B:=by
 intro m;induction m with
 |zero=>intro i A B F C E;have:B=[]:=List.eq_nil_of_length_eq_zero C;subst this;rw[bK];exact⟨E,fun z=>Iff.rfl⟩
 |succ m L=>
  intro i A B F C E;cases B with
  |nil=>simp at C
  |cons x B=>
   obtain⟨O,I,J,H,Q⟩:=QL h d i A x B F E;unfold isr;rw[I];obtain⟨k1,k2⟩:=L (i+1) O B H (by simpa using C) J;refine⟨k1,fun z=> ?_⟩;rw[k2,ak,Q,ak,an];constructor
   ·rintro((h|h)|h)<;>simp[h]
   ·rintro(h|h|h)<;>simp[h]
def cp(h:α->α->Bool):α->List α->List α
 |_,[]=> []
 |p,x::r=>if h x p=true then cp h x r else x::cp h x r
def cpt(h:α->α->Bool):List α->List α
 |[]=> []
 |x::r=>x::cp h x r
theorem x9{lt B:α->α->Bool}(h:SO lt)(C:∀x y,B x y=true↔x=y):∀(l:List α)(p:α),∀z,z∈p::cp B p l↔z∈p::l
 |[],p,z=>Iff.rfl
 |x::r,p,z=>by
  have E:=x9 h C r x z;unfold cp;split
  ·rename_i F
   have:x=p:=(C _ _).1 F;subst this;rw[E,an (l:=x::r)];constructor
   ·intro h;exact .inr h
   ·rintro(h|h)
    ·subst h;exact ax
    ·exact h
  ·rw[an,E,an (l:=x::r)]
theorem MW{lt H:α->α->Bool}(h:SO lt)(C:∀x y,H x y=true↔x=y):∀(l:List α)(p:α),Wk lt (p::l)->Str lt (p::cp H p l)
 |[],_,_=>rE _ _
 |x::r,p,hw=>by
  obtain⟨L,J⟩:=bA.1 hw;have I:=MW h C r x J;unfold cp;split
  ·rename_i E
   have:x=p:=(C _ _).1 E;subst this;exact I
  ·rename_i E
   have F:¬x=p:=fun e=>E ((C _ _).2 e)
   have B:lt p x=true:=by
    cases hc:lt p x with
    |true=>rfl
    |false=>exact absurd (h.tri _ _ (L x ax) hc) F
   refine bA.2 ⟨fun z hz=> ?_,I⟩;rcases an.1 ((x9 h C r x z).1 hz)with rfl|hz
   ·exact B
   ·have O:=(bA.1 J).1 z hz
    cases hc:lt x z with
    |true=>exact h.tr _ _ _ B hc
    |false=>have:=h.tri _ _ hc O;subst this;exact B
theorem QD{lt B:α->α->Bool}(h:SO lt)(C:∀x y,B x y=true↔x=y)(l:List α):∀z,z∈cpt B l↔z∈l:=by
 cases l with
 |nil=>exact fun z=>Iff.rfl
 |cons x r=>exact x9 h C r x
theorem QC{lt z:α->α->Bool}(h:SO lt)(B:∀x y,z x y=true↔x=y)(l:List α)(C:Wk lt l):Str lt (cpt z l):=by
 cases l with
 |nil=>exact iI.nil
 |cons x r=>exact MW h B r x C
def inn(h:α->α->Bool)(d:α):Nat->List α->Nat->Nat->List α×Nat
 |0,B,k,_=>(B,k)
 |m+1,B,k,p=>if h (B.getD p d) (B.getD (p-1) d)=true then inn h d m B k (p+1)else inn h d m (B.set k (B.getD p d)) (k+1) (p+1)
theorem sa(h:α->α->Bool)(d:α):∀(m:Nat)(B:List α)(k p:Nat),(inn h d m B k p).1.length=B.length/\(inn h d m B k p).2<=k+m
 |0,B,k,p=>⟨rfl,aI _⟩
 |m+1,B,k,p=>by
  unfold inn;split
  ·have:=sa h d m B k (p+1);omega
  ·have:=sa h d m (B.set k (B.getD p d)) (k+1) (p+1)
   rw[cw]at this;omega
theorem jv(l:List α)(d:α)(p q:Nat)(h:p<=q):(l.drop p).getD (q-p) d=l.getD q d:=by
 simp only[aa,bf]
 congr 2;omega
theorem xcG(C:α->α->Bool)(d:α)(S:List α):∀(m:Nat)(B:List α)(k p:Nat),p+m=S.length->B.length=S.length->1<=p->k<=p-1->B.drop (p-1)=S.drop (p-1)->
 (inn C d m B k p).1.take (inn C d m B k p).2=B.take k++cp C (S.getD (p-1) d) (S.drop p):=by
 intro m;induction m with
 |zero=>intro B k p O z T J h;have:S.drop p=[]:=bO (by omega);rw[this];simp[inn,cp]
 |succ m F=>
  intro B k p O z T J h;have I:B.getD (p-1) d=S.getD (p-1) d:=by rw[<-jv B d (p-1) (p-1) (aI _),h,jv S d _ _ (aI _)]
  have L:B.getD p d=S.getD p d:=by rw[<-jv B d (p-1) p (by omega),h,jv S d _ _ (by omega)]
  have H:S.drop p=S.getD p d::S.drop (p+1):=by rw[aU (by omega),aa,af (by omega)];rfl
  have E:B.drop p=S.drop p:=by
   have:∀l:List α,l.drop p=(l.drop (p-1)).drop 1:=fun l=>by rw[fp];congr 1;omega
   rw[this B,this S,h]
  unfold inn;rw[I,L,H];unfold cp;split
  ·rw[F B k (p+1) (by omega) z (by omega) (by omega) (by rw[jA];exact E),jA]
  ·rw[F (B.set k (S.getD p d)) (k+1) (p+1) (by omega) (by rw[cw];exact z) (by omega) (by omega) (by
    rw[jA,List.drop_set_of_lt (by omega)];exact E),jA]
   have Q:(B.set k (S.getD p d)).take (k+1)=B.take k++ [S.getD p d]:=by rw[List.take_succ_eq_append_getElem (by rw[cw];omega),List.take_set_of_le (aI _)];simp
   rw[Q];simp
theorem xdi(z:α->α->Bool)(d:α)(S:List α)(k:Nat)(C:1<=k)(E:k<S.length)(h:S.take k++cp z (S.getD (k-1) d) (S.drop k)=cpt z S)(hn:¬z (S.getD k d) (S.getD (k-1) d)=true):
 S.take (k+1)++cp z (S.getD (k+1-1) d) (S.drop (k+1))=cpt z S:=by
 have B:S.drop k=S.getD k d::S.drop (k+1):=by rw[aU (by omega),aa,af (by omega)];rfl
 rw[<-h,B,jA]
 conv=>rhs;unfold cp
 rw[if_neg hn,List.take_succ_eq_append_getElem (by omega),aa,af (by omega),aZ];rfl
theorem xdh(z:α->α->Bool)(d:α)(S:List α)(k:Nat)(E:1<=k)(F:k<S.length)(h:S.take k++cp z (S.getD (k-1) d) (S.drop k)=cpt z S)(B:z (S.getD k d) (S.getD (k-1) d)=true):
 (inn z d (S.length-(k+1)) S k (k+1)).1.take (inn z d (S.length-(k+1)) S k (k+1)).2=cpt z S:=by
 have C:S.drop k=S.getD k d::S.drop (k+1):=by rw[aU (by omega),aa,af (by omega)];rfl
 rw[xcG z d S _ S k (k+1) (by omega) rfl (by omega) (by omega) rfl,<-h,C,jA]
 conv=>rhs;unfold cp
 rw[if_pos B]
theorem QE(z:α->α->Bool)(d:α)(S:List α)(h:S.take S.length++cp z (S.getD (S.length-1) d) (S.drop S.length)=cpt z S):cpt z S=S:=by rw[<-h,bh,bt];simp[cp]
def oB(lt:α->α->Bool)(x:α):List α->List α
 |[]=> [x]
 |y::r=>if lt y x=true then y::oB lt x r else if lt x y=true then x::y::r else y::r
theorem lV{lt:α->α->Bool}(h:SO lt)(x:α):∀(l:List α),∀z,z∈oB lt x l↔z=x\/z∈l
 |[],z=>by simp[oB]
 |y::r,z=>by
  have C:=lV h x r z;unfold oB;split
  ·rw[an,C,an]
   constructor
   ·rintro(h|h|h)<;>simp[h]
   ·rintro(h|h|h)<;>simp[h]
  ·rename_i B
   split
   ·rw[an]
   ·rename_i E
    have:x=y:=h.tri _ _ (by simpa using E) (by simpa using B);subst this;rw[an];constructor
    ·exact .inr
    ·rintro(h|h)
     ·exact .inl h
     ·exact h
theorem pb{lt:α->α->Bool}(h:SO lt)(x:α):∀(l:List α),Str lt l->Str lt (oB lt x l)
 |[],_=>rE _ _
 |y::r,hs=>by
  obtain⟨C,E⟩:=bA.1 hs;unfold oB;split
  ·rename_i B
   refine bA.2 ⟨fun z hz=> ?_,pb h x r E⟩;rcases (lV h x r z).1 hz with rfl|hz
   ·exact B
   ·exact C z hz
  ·split
   ·rename_i B
    refine bA.2 ⟨fun z hz=> ?_,hs⟩;rcases an.1 hz with rfl|hz
    ·exact B
    ·exact h.tr _ _ _ B (C z hz)
   ·exact hs
theorem uF{lt:α->α->Bool}(h:SO lt):∀(z l:List α),Str lt l->Str lt (z.foldl (fun a x=>oB lt x a) l)
 |[],_,hs=>hs
 |x::z,l,hs=>uF h z _ (pb h x l hs)
theorem uG{lt:α->α->Bool}(h:SO lt):∀(B l:List α),∀z,z∈B.foldl (fun a x=>oB lt x a) l↔z∈B\/z∈l
 |[],l,z=>by simp
 |x::B,l,z=>by
  rw[cx,uG h B,lV h,an];constructor
  ·rintro(h|h|h)<;>simp[h]
  ·rintro((h|h)|h)<;>simp[h]
theorem EL{lt E:α->α->Bool}(h:SO lt)(F:∀x y,E x y=true↔x=y)(d:α)(B:List α):cpt E (isr lt d (B.length-1) 1 B)=B.foldl (fun a x=>oB lt x a) []:=by
 have C:Wk lt (isr lt d (B.length-1) 1 B)/\∀z,z∈isr lt d (B.length-1) 1 B↔z∈B:=by
  cases B with
  |nil=>exact⟨iI.nil,fun z=>Iff.rfl⟩
  |cons x r=>exact xcF h d r.length 1 [x] r rfl rfl (rE _ _)
 refine zd h (QC h F _ C.1) (uF h B [] iI.nil) fun z=> ?_
 rw[QD h F,C.2,uG h];simp
end SortT
namespace Go.Proofs.YtdafipacemgcoaaGreatDoor
open Go.Sy
open UInt8 renaming reduceLT -> Q0, reduceLE -> Q1
open Int renaming reduceToNat -> Q2, reduceLE -> Q3, reduceLT -> Q4, reduceEq -> Q5, reduceNe -> Q6, reduceNeg -> Q7, reduceAdd -> Q8, reduceSub -> Q9, reduceMul -> Qa
open Nat renaming reducePow -> Qb, reduceDiv -> Qc, reduceMod -> Qd, reduceAdd -> Qe, reduceSub -> Qf, reduceMul -> Qg, reduceLT -> Qh, reduceLeDiff -> Qi, reduceEqDiff -> Qj, reduceBEq -> Qk
def ra(a b:Int):Int:=if a<b then-1 else if b<a then 1 else 0
theorem xih(a:Int):call T 153 [.int .i64 a] [] 0=some ⟨.bool false,[],[]⟩:=by rw[az xgo];simp only[go_sem,Q0,Q1,Q2,Q3,Q4,Q5,Q6,Q7,Q8,Q9,Qa,Qb,Qc,Qd,Qe,Qf,Qg,Qh,Qi,Qj,Qk,reduceCtorEq,reduceIte]
theorem xin(a b:Int):call T 122 [.int .i64 a,.int .i64 b] [] 0=some ⟨.int .i64 (ra a b),[],[]⟩:=by
 have h:=xih a;have z:=xih b;rw[az xgG];unfold ra
 by_cases B:a<b
 ·simp only[go_sem,Q0,Q1,Q2,Q3,Q4,Q5,Q6,Q7,Q8,Q9,Qa,Qb,Qc,Qd,Qe,Qf,Qg,Qh,Qi,Qj,Qk,reduceCtorEq,reduceIte,h,z,NW,B]
 ·by_cases C:b<a
  ·simp only[go_sem,Q0,Q1,Q2,Q3,Q4,Q5,Q6,Q7,Q8,Q9,Qa,Qb,Qc,Qd,Qe,Qf,Qg,Qh,Qi,Qj,Qk,reduceCtorEq,reduceIte,h,z,NW,B,C]
  ·simp only[go_sem,Q0,Q1,Q2,Q3,Q4,Q5,Q6,Q7,Q8,Q9,Qa,Qb,Qc,Qd,Qe,Qf,Qg,Qh,Qi,Qj,Qk,reduceCtorEq,reduceIte,h,z,NW,B,C]
theorem f61(a b:t6):call T 61 [.byt a .no,.byt b .no] [] 0=some ⟨.int .i64 (Lib.compareBytes a b),[],[]⟩:=by rw[gX xkU];rfl
theorem xj3(a b:t6):call T 154 [.str a,.str b] [] 0=some ⟨.int .i64 (Lib.compareBytes a b),[],[]⟩:=by rw[gX xgn];rfl
theorem xdr(a:t6):call T 111 [.str a] [] 0=some ⟨.bool (Pr.nameB a),[],[]⟩:=by rw[gX xgQ];rfl
theorem xkd(a b:t6):call T 123 [.str a,.str b] [] 0=some ⟨.int .i64 (Lib.compareBytes a b),[],[]⟩:=by have g:=xj3 a b;rw[az xgF];simp only[go_sem,Q0,Q1,Q2,Q3,Q4,Q5,Q6,Q7,Q8,Q9,Qa,Qb,Qc,Qd,Qe,Qf,Qg,Qh,Qi,Qj,Qk,reduceCtorEq,reduceIte,g,xgY]
def orI(a b c d:Int):Int:=if a≠0 then a else if b≠0 then b else if c≠0 then c else d
theorem xke(a b c d:Int):call T 121 [.lst 1 [[.int .i64 a],[.int .i64 b],[.int .i64 c],[.int .i64 d]] .no] [] 0=some ⟨.int .i64 (orI a b c d),[],[]⟩:=by
 have k1:aj.wrap 1=1:=rfl;have k2:aj.wrap 2=2:=rfl;have z:aj.wrap 3=3:=rfl;have h:aj.wrap 4=4:=rfl;rw[az xgH];unfold orI
 by_cases E:a=0
 ·subst E
  by_cases C:b=0
  ·subst C
   by_cases F:c=0
   ·subst F
    by_cases B:d=0
    ·subst B
     simp only[go_sem,Q0,Q1,Q2,Q3,Q4,Q5,Q6,Q7,Q8,Q9,Qa,Qb,Qc,Qd,Qe,Qf,Qg,Qh,Qi,Qj,Qk,reduceCtorEq,reduceIte]
     iterate 5
      rw[al];simp only[go_sem,Q0,Q1,Q2,Q3,Q4,Q5,Q6,Q7,Q8,Q9,Qa,Qb,Qc,Qd,Qe,Qf,Qg,Qh,Qi,Qj,Qk,reduceCtorEq,reduceIte,k1,k2,z,h]
    ·simp only[go_sem,Q0,Q1,Q2,Q3,Q4,Q5,Q6,Q7,Q8,Q9,Qa,Qb,Qc,Qd,Qe,Qf,Qg,Qh,Qi,Qj,Qk,reduceCtorEq,reduceIte]
     iterate 4
      rw[al];simp only[go_sem,Q0,Q1,Q2,Q3,Q4,Q5,Q6,Q7,Q8,Q9,Qa,Qb,Qc,Qd,Qe,Qf,Qg,Qh,Qi,Qj,Qk,reduceCtorEq,reduceIte,k1,k2,z,h,B]
   ·simp only[go_sem,Q0,Q1,Q2,Q3,Q4,Q5,Q6,Q7,Q8,Q9,Qa,Qb,Qc,Qd,Qe,Qf,Qg,Qh,Qi,Qj,Qk,reduceCtorEq,reduceIte]
    iterate 3
     rw[al];simp only[go_sem,Q0,Q1,Q2,Q3,Q4,Q5,Q6,Q7,Q8,Q9,Qa,Qb,Qc,Qd,Qe,Qf,Qg,Qh,Qi,Qj,Qk,reduceCtorEq,reduceIte,k1,k2,z,h,F]
  ·simp only[go_sem,Q0,Q1,Q2,Q3,Q4,Q5,Q6,Q7,Q8,Q9,Qa,Qb,Qc,Qd,Qe,Qf,Qg,Qh,Qi,Qj,Qk,reduceCtorEq,reduceIte]
   iterate 2
    rw[al];simp only[go_sem,Q0,Q1,Q2,Q3,Q4,Q5,Q6,Q7,Q8,Q9,Qa,Qb,Qc,Qd,Qe,Qf,Qg,Qh,Qi,Qj,Qk,reduceCtorEq,reduceIte,k1,k2,z,h,C]
 ·simp only[go_sem,Q0,Q1,Q2,Q3,Q4,Q5,Q6,Q7,Q8,Q9,Qa,Qb,Qc,Qd,Qe,Qf,Qg,Qh,Qi,Qj,Qk,reduceCtorEq,reduceIte]
  rw[al];simp only[go_sem,Q0,Q1,Q2,Q3,Q4,Q5,Q6,Q7,Q8,Q9,Qa,Qb,Qc,Qd,Qe,Qf,Qg,Qh,Qi,Qj,Qk,reduceCtorEq,reduceIte,k1,k2,z,h,E]
structure Ent where
 role:Int
 name:List UInt8
 ver:Int
 dig:List UInt8
def Ent.sv(x:Ent):t7:=[.int .i64 x.role,.str x.name,.int .i64 x.ver,.byt x.dig .no]
def rX(x y:Ent):Int:=orI (ra x.role y.role) (Lib.compareBytes x.name y.name) (ra x.ver y.ver) (Lib.compareBytes x.dig y.dig)
theorem f72(x y:Ent):call T 72 [.agg x.sv,.agg y.sv] [] 0=some ⟨.int .i64 (rX x y),[],[]⟩:=by have h:=xin x.role y.role;have z:=xkd x.name y.name;have B:=xin x.ver y.ver;have C:=f61 x.dig y.dig;have E:=xke (ra x.role y.role) (Lib.compareBytes x.name y.name) (ra x.ver y.ver) (Lib.compareBytes x.dig y.dig);obtain⟨r,n,v,d⟩:=x;obtain⟨H,n2,F,d2⟩:=y;simp only[Ent.sv]at*;rw[az xkS];unfold rX;simp only[go_sem,Q0,Q1,Q2,Q3,Q4,Q5,Q6,Q7,Q8,Q9,Qa,Qb,Qc,Qd,Qe,Qf,Qg,Qh,Qi,Qj,Qk,reduceCtorEq,reduceIte,h,xg6,z,xg5,B,C,Ra,E,xg7]
def lsF:t6->t6->Option Bool
 |a::x,b::y=>if a=b then lsF x y else some (decide (a<b))
 |_,_=>none
theorem uz:∀x y:t6,bI x y=match lsF x y with|some q=>q|none=>decide (x.length<y.length)
 |[],[]=>by simp[lsF,bI]
 |[],_::_=>by simp[lsF,bI]
 |_::_,[]=>by simp[lsF,bI]
 |a::x,b::y=>by
  unfold lsF bI
  by_cases h:a=b
  ·subst h
   rw[if_pos rfl,uz x y];have:¬a<a:=UInt8.lt_irrefl a;simp[this]
  ·rw[if_neg h]
   simp[h]
theorem l63(a b:t6)(L:a.length<=1000000000000):∀(n i:Nat),a.length-i=n->i<=a.length->i<=b.length->
 run T (.loop Nl) ⟨[(0,.byt a .no),(1,.byt b .no),(5,.int .i64 i)],[],[]⟩=
 match lsF (a.drop i) (b.drop i)with
 |some q=>some (.r,⟨[(4,.bool q)],[],[]⟩)
 |none=>some (.x 0,⟨[(0,.byt a .no),(1,.byt b .no)],[],[]⟩):=by
 intro n;induction n with
 |zero=>
  intro i H F E;have:i=a.length:=by omega
  subst this;have e:lsF [] (b.drop a.length)=none:=by unfold lsF;rfl
  rw[al,bh,e];simp only[go_sem,Q0,Q1,Q2,Q3,Q4,Q5,Q6,Q7,Q8,Q9,Qa,Qb,Qc,Qd,Qe,Qf,Qg,Qh,Qi,Qj,Qk,reduceCtorEq,reduceIte]
 |succ n I=>
  intro i H F E;have hi:i<a.length:=by omega
  have C:=cA i (by omega);rw[al,dp a i hi]
  by_cases z:i<b.length
  ·have B:=I (i+1) (by omega) (by omega) (by omega)
   rw[dp b i z];unfold lsF
   by_cases h:a.getD i 0=b.getD i 0
   ·rw[if_pos h]
    simp only[go_sem,Q0,Q1,Q2,Q3,Q4,Q5,Q6,Q7,Q8,Q9,Qa,Qb,Qc,Qd,Qe,Qf,Qg,Qh,Qi,Qj,Qk,reduceCtorEq,reduceIte,hi,z,C,h,B]
   ·rw[if_neg h]
    simp only[go_sem,Q0,Q1,Q2,Q3,Q4,Q5,Q6,Q7,Q8,Q9,Qa,Qb,Qc,Qd,Qe,Qf,Qg,Qh,Qi,Qj,Qk,reduceCtorEq,reduceIte,hi,z,C,h]
  ·have J:b.drop i=[]:=bO (by omega)
   have e:lsF (a.getD i 0::a.drop (i+1)) []=none:=by unfold lsF;rfl
   rw[J,e];simp only[go_sem,Q0,Q1,Q2,Q3,Q4,Q5,Q6,Q7,Q8,Q9,Qa,Qb,Qc,Qd,Qe,Qf,Qg,Qh,Qi,Qj,Qk,reduceCtorEq,reduceIte,hi,z]
theorem f63(a b:t6)(z:a.length<=1000000000000):call T 63 [.byt a .no,.byt b .no] [] 0=some ⟨.bool (bI a b),[],[]⟩:=by
 have h:=l63 a b z _ 0 rfl (by omega) (by omega);simp only[aH,bi]at h;rw[az xkT,uz];cases hq:lsF a b with
 |some q=>rw[hq]at h;simp only[go_sem,Q0,Q1,Q2,Q3,Q4,Q5,Q6,Q7,Q8,Q9,Qa,Qb,Qc,Qd,Qe,Qf,Qg,Qh,Qi,Qj,Qk,reduceCtorEq,reduceIte,h]
 |none=>rw[hq]at h;simp only[go_sem,Q0,Q1,Q2,Q3,Q4,Q5,Q6,Q7,Q8,Q9,Qa,Qb,Qc,Qd,Qe,Qf,Qg,Qh,Qi,Qj,Qk,reduceCtorEq,reduceIte,h]
def eo(x y:Ent):Bool:=if x.role=y.role then(if x.name=y.name then(if x.ver=y.ver then bI x.dig y.dig else decide (x.ver<y.ver))else bI x.name y.name)else decide (x.role<y.role)
theorem f84(x y:Ent)(E:x.dig.length<=1000000000000):call T 84 [.agg x.sv,.agg y.sv] [] 0=some ⟨.bool (eo x y),[],[]⟩:=by
 have g:=f63 x.dig y.dig E;obtain⟨r,n,v,d⟩:=x;obtain⟨F,n2,C,d2⟩:=y;simp only[Ent.sv]at*;rw[az xkH];unfold eo
 by_cases h:r=F
 ·by_cases z:n=n2
  ·by_cases B:v=C
   ·simp only[go_sem,Q0,Q1,Q2,Q3,Q4,Q5,Q6,Q7,Q8,Q9,Qa,Qb,Qc,Qd,Qe,Qf,Qg,Qh,Qi,Qj,Qk,reduceCtorEq,reduceIte,h,z,B,g,xlx]
   ·simp only[go_sem,Q0,Q1,Q2,Q3,Q4,Q5,Q6,Q7,Q8,Q9,Qa,Qb,Qc,Qd,Qe,Qf,Qg,Qh,Qi,Qj,Qk,reduceCtorEq,reduceIte,h,z,B]
  ·simp only[go_sem,Q0,Q1,Q2,Q3,Q4,Q5,Q6,Q7,Q8,Q9,Qa,Qb,Qc,Qd,Qe,Qf,Qg,Qh,Qi,Qj,Qk,reduceCtorEq,reduceIte,h,z]
 ·simp only[go_sem,Q0,Q1,Q2,Q3,Q4,Q5,Q6,Q7,Q8,Q9,Qa,Qb,Qc,Qd,Qe,Qf,Qg,Qh,Qi,Qj,Qk,reduceCtorEq,reduceIte,h]
theorem eU:∀x y:t6,Lib.compareBytes x y<0↔bI x y=true
 |[],[]=>by simp[Lib.compareBytes,bI]
 |[],_::_=>by simp[Lib.compareBytes,bI]
 |_::_,[]=>by simp[Lib.compareBytes,bI]
 |a::x,b::y=>by
  unfold Lib.compareBytes bI;have C:=eU x y
  by_cases h:a<b
  ·simp[h]
  ·by_cases z:b<a
   ·have B:¬a=b:=by intro e;subst e;exact h z
    simp[h,z,B]
   ·have B:a=b:=UInt8.le_antisymm (UInt8.not_lt.1 z) (UInt8.not_lt.1 h)
    subst B;simp[h,C]
theorem gH:∀x y:t6,Lib.compareBytes x y=0↔x=y
 |[],[]=>by simp[Lib.compareBytes]
 |[],_::_=>by simp[Lib.compareBytes]
 |_::_,[]=>by simp[Lib.compareBytes]
 |a::x,b::y=>by
  unfold Lib.compareBytes;have C:=gH x y
  by_cases h:a<b
  ·have z:¬a=b:=by intro e;subst e;exact UInt8.lt_irrefl a h
   simp[h,z]
  ·by_cases B:b<a
   ·have z:¬a=b:=by intro e;subst e;exact h B
    simp[h,B,z]
   ·have z:a=b:=UInt8.le_antisymm (UInt8.not_lt.1 B) (UInt8.not_lt.1 h)
    subst z;simp[h,C]
theorem Co(a b:Int):ra a b<0↔a<b:=by
 unfold ra;repeat' split
 all_goals omega
theorem iN(a b:Int):ra a b=0↔a=b:=by
 unfold ra;repeat' split
 all_goals omega
theorem rW(x y:Ent):rX x y<0↔eo x y=true:=by
 unfold rX orI eo
 by_cases h:x.role=y.role
 ·rw[if_neg (by simp[iN,h]),if_pos h]
  by_cases z:x.name=y.name
  ·rw[if_neg (by simp[gH,z]),if_pos z]
   by_cases B:x.ver=y.ver
   ·rw[if_neg (by simp[iN,B]),if_pos B];exact eU _ _
   ·rw[if_pos (by simp[iN,B]),if_neg B,decide_eq_true_eq];exact Co _ _
  ·rw[if_pos (by simp[gH,z]),if_neg z];exact eU _ _
 ·rw[if_pos (by simp[iN,h]),if_neg h,decide_eq_true_eq];exact Co _ _
theorem xjR(s:t6):call T 68 [.agg [.int .i64 1,.str s,.int .i64 0,.byt [] .no]] [] 0=some ⟨.int .i64 (if Pr.nameB s=true then 0 else 43),[],[]⟩:=by
 have g:=xdr s;rw[az xdt];cases h:Pr.nameB s with
 |true=>rw[h]at g;simp only[go_sem,Q0,Q1,Q2,Q3,Q4,Q5,Q6,Q7,Q8,Q9,Qa,Qb,Qc,Qd,Qe,Qf,Qg,Qh,Qi,Qj,Qk,reduceCtorEq,reduceIte,g,kD]
 |false=>rw[h]at g;simp only[go_sem,Q0,Q1,Q2,Q3,Q4,Q5,Q6,Q7,Q8,Q9,Qa,Qb,Qc,Qd,Qe,Qf,Qg,Qh,Qi,Qj,Qk,reduceCtorEq,reduceIte,g,kD]
theorem f89(s:t6):call T 89 [.str s] [] 0=some ⟨.bool (Pr.nameB s),[],[]⟩:=by
 have g:=xjR s;rw[az xkE];cases h:Pr.nameB s with
 |true=>rw[h]at g;simp only[go_sem,Q0,Q1,Q2,Q3,Q4,Q5,Q6,Q7,Q8,Q9,Qa,Qb,Qc,Qd,Qe,Qf,Qg,Qh,Qi,Qj,Qk,reduceCtorEq,reduceIte,g,sP]
 |false=>rw[h]at g;simp only[go_sem,Q0,Q1,Q2,Q3,Q4,Q5,Q6,Q7,Q8,Q9,Qa,Qb,Qc,Qd,Qe,Qf,Qg,Qh,Qi,Qj,Qk,reduceCtorEq,reduceIte,g,sP]
structure Rul where
 kind:Int
 text:List UInt8
 lo:Int
 hi:Int
def Rul.sv(r:Rul):t7:=[.int .i64 r.kind,.str r.text,.int .i64 r.lo,.int .i64 r.hi]
structure Man where
 vendor:List UInt8
 ver:Int
 flr:Int
 frm:Int
 til:Int
 ents:List Ent
 ruls:List Rul
def cO(l:List Ent):f8:=l.map Ent.sv
def kK(l:List Rul):f8:=l.map Rul.sv
def Man.sv(m:Man):t7:=[.str m.vendor,.int .i64 m.ver,.int .i64 m.flr,.int .i64 m.frm,.int .i64 m.til,.lst 4 (cO m.ents) .no,.lst 4 (kK m.ruls) .no]
def en0:Ent:=⟨0,[],0,[]⟩
def rl0:Rul:=⟨0,[],0,0⟩
theorem dd(l:List Ent):(cO l).length=l.length:=aQ ..
theorem iZ(l:List Rul):(kK l).length=l.length:=aQ ..
theorem eE(l:List Ent)(i:Nat)(h:i<l.length):(cO l).getD i []=(l.getD i en0).sv:=by simp[cO,aa,h]
theorem oX(l:List Rul)(i:Nat)(h:i<l.length):(kK l).getD i []=(l.getD i rl0).sv:=by simp[kK,aa,h]
structure jL(m:Man):Prop where
 v:m.vendor.length<=1000000
 en:m.ents.length<=1000000
 rn:m.ruls.length<=1000000
 e:∀x∈m.ents,x.name.length<=1000000/\x.dig.length<=1000000
 r:∀x∈m.ruls,x.text.length<=1000000
theorem cJ{α:Type}(l:List α)(d:α)(i:Nat)(h:i<l.length):l.getD i d∈l:=by rw[aa,af h];exact bo _
def mj(l:List Ent)(i:Nat):Int:=
 if(l.getD i en0).role<1 then 1 else if 3<(l.getD i en0).role then 1 else if(l.getD i en0).ver<0 then 1 else if 1000000<(l.getD i en0).ver then 1
 else if((l.getD i en0).dig.length:Int)=32 then(if Pr.nameB (l.getD i en0).name=true then(if i=0 then 0 else if eo (l.getD (i-1) en0) (l.getD i en0)=true then 0 else 41)else 43)else 1
def iv(l:List Ent):Nat->Nat->Int
 |0,_=>0
 |n+1,i=>if mj l i=0 then iv l n (i+1)else mj l i
def zo(r:Rul):Int:=chk r.kind r.text r.lo r.hi
def lK:List Rul->Int
 |[]=>0
 |r::t=>if zo r=0 then lK t else zo r
def js(m:Man):Int:=
 if Pr.nameB m.vendor=true then
  (if m.flr<0 then 1 else if m.ver<m.flr then 1 else if 1000000<m.ver then 1 else if m.frm<0 then 1 else if m.til<=m.frm then 1 else if 1099511627776<m.til then 1
  else if(16:Int)<m.ents.length then 4 else if(8:Int)<m.ruls.length then 4 else if iv m.ents m.ents.length 0=0 then lK m.ruls else iv m.ents m.ents.length 0)
 else 43
def zg(m:Man)(i:Nat):CSt:=⟨[(1,.ptr 101 0),(58,.lst 4 (cO m.ents) .no),(59,.int .i64 m.ents.length),(60,.int .i64 i)],[(101,.rc m.sv)],[]⟩
theorem s44(m:Man)(hm:jL m)(i:Nat)(hi:i<m.ents.length):
 (mj m.ents i=0->run T (.loop lB) (zg m i)=run T (.loop lB) (zg m (i+1)))/\
 (mj m.ents i≠0->∃ob,run T (.loop lB) (zg m i)=some (.r,⟨[(2,.int .i64 (mj m.ents i))],ob,[]⟩)):=by
 have I:=cA i (by have:=hm.en;omega);have J:=dd m.ents;have L:=eE m.ents i hi;have Z:=f89 (m.ents.getD i en0).name;have g2:=f72 (m.ents.getD (i-1) en0) (m.ents.getD i en0);have hb:=rW (m.ents.getD (i-1) en0) (m.ents.getD i en0);have es:0<i->aj.wrap ((i:Int)-1)=((i-1:Nat):Int):=fun h=>by rw[w64 (by omega) (by have:=hm.en;omega)];omega
 have Q:i-1<m.ents.length:=by omega
 have a0:=eE m.ents (i-1) Q;unfold mj;obtain⟨S,U,O,m3,m4,z,rs⟩:=m;simp only[zg,Man.sv]at*;generalize z.getD i en0=x at*;generalize z.getD (i-1) en0=y at*;obtain⟨r,n,v,d⟩:=x;obtain⟨r2,n2,v2,d2⟩:=y;simp only[Ent.sv]at*
 by_cases B:r<1
 ·refine⟨fun h=>by simp[B]at h,fun _=>⟨[(101,.rc [.str S,.int .i64 U,.int .i64 O,.int .i64 m3,.int .i64 m4,.lst 4 (cO z) .no,.lst 4 (kK rs) .no]),(104,.rc [.int .i64 r,.str n,.int .i64 v,.byt d .no])], ?_⟩⟩
  rw[al];simp only[go_sem,Q0,Q1,Q2,Q3,Q4,Q5,Q6,Q7,Q8,Q9,Qa,Qb,Qc,Qd,Qe,Qf,Qg,Qh,Qi,Qj,Qk,reduceCtorEq,reduceIte,hi,I,J,L,B]
 by_cases C:3<r
 ·refine⟨fun h=>by simp[B,C]at h,fun _=>⟨[(101,.rc [.str S,.int .i64 U,.int .i64 O,.int .i64 m3,.int .i64 m4,.lst 4 (cO z) .no,.lst 4 (kK rs) .no]),(104,.rc [.int .i64 r,.str n,.int .i64 v,.byt d .no])], ?_⟩⟩
  rw[al];simp only[go_sem,Q0,Q1,Q2,Q3,Q4,Q5,Q6,Q7,Q8,Q9,Qa,Qb,Qc,Qd,Qe,Qf,Qg,Qh,Qi,Qj,Qk,reduceCtorEq,reduceIte,hi,I,J,L,B,C]
 by_cases E:v<0
 ·refine⟨fun h=>by simp[B,C,E]at h,fun _=>⟨[(101,.rc [.str S,.int .i64 U,.int .i64 O,.int .i64 m3,.int .i64 m4,.lst 4 (cO z) .no,.lst 4 (kK rs) .no]),(104,.rc [.int .i64 r,.str n,.int .i64 v,.byt d .no])], ?_⟩⟩
  rw[al];simp only[go_sem,Q0,Q1,Q2,Q3,Q4,Q5,Q6,Q7,Q8,Q9,Qa,Qb,Qc,Qd,Qe,Qf,Qg,Qh,Qi,Qj,Qk,reduceCtorEq,reduceIte,hi,I,J,L,B,C,E]
 by_cases F:1000000<v
 ·refine⟨fun h=>by simp[B,C,E,F]at h,fun _=>⟨[(101,.rc [.str S,.int .i64 U,.int .i64 O,.int .i64 m3,.int .i64 m4,.lst 4 (cO z) .no,.lst 4 (kK rs) .no]),(104,.rc [.int .i64 r,.str n,.int .i64 v,.byt d .no])], ?_⟩⟩
  rw[al];simp only[go_sem,Q0,Q1,Q2,Q3,Q4,Q5,Q6,Q7,Q8,Q9,Qa,Qb,Qc,Qd,Qe,Qf,Qg,Qh,Qi,Qj,Qk,reduceCtorEq,reduceIte,hi,I,J,L,B,C,E,F]
 by_cases H:(d.length:Int)=32
 ·cases a6:Pr.nameB n with
  |false=>rw[a6]at Z;refine⟨fun h=>by simp[B,C,E,F,H,a6]at h,fun _=>⟨[(101,.rc [.str S,.int .i64 U,.int .i64 O,.int .i64 m3,.int .i64 m4,.lst 4 (cO z) .no,.lst 4 (kK rs) .no]),(104,.rc [.int .i64 r,.str n,.int .i64 v,.byt d .no])], ?_⟩⟩;rw[al];simp only[go_sem,Q0,Q1,Q2,Q3,Q4,Q5,Q6,Q7,Q8,Q9,Qa,Qb,Qc,Qd,Qe,Qf,Qg,Qh,Qi,Qj,Qk,reduceCtorEq,reduceIte,hi,I,J,L,B,C,E,F,H,a6,Z,m5]
  |true=>
   rw[a6]at Z
   by_cases a7:i=0
   ·subst a7
    have hp:(0:Int)<z.length:=by omega
    have kw:aj.wrap 1=1:=rfl;refine⟨fun _=> ?_,fun h=>by simp[B,C,E,F,H,a6]at h⟩;rw[al];simp only[go_sem,Q0,Q1,Q2,Q3,Q4,Q5,Q6,Q7,Q8,Q9,Qa,Qb,Qc,Qd,Qe,Qf,Qg,Qh,Qi,Qj,Qk,reduceCtorEq,reduceIte,hi,hp,kw,I,J,L,B,C,E,F,H,a6,Z,m5]
   ·have hp:(0:Int)<(i:Nat):=by omega
    have W:0<i:=by omega
    have a9:=es W;cases a8:eo ⟨r2,n2,v2,d2⟩ ⟨r,n,v,d⟩with
    |true=>
     have h9:¬0<=rX ⟨r2,n2,v2,d2⟩ ⟨r,n,v,d⟩:=by have:=hb.2 a8;omega
     refine⟨fun _=> ?_,fun h=>by simp[B,C,E,F,H,a6,a7,a8]at h⟩;rw[al];simp only[go_sem,Q0,Q1,Q2,Q3,Q4,Q5,Q6,Q7,Q8,Q9,Qa,Qb,Qc,Qd,Qe,Qf,Qg,Qh,Qi,Qj,Qk,reduceCtorEq,reduceIte,hi,hp,W,Q,a9,a0,I,J,L,B,C,E,F,H,a6,Z,m5,g2,QZ,h9]
    |false=>
     have h9:0<=rX ⟨r2,n2,v2,d2⟩ ⟨r,n,v,d⟩:=by
      rcases Int.lt_or_le (rX ⟨r2,n2,v2,d2⟩ ⟨r,n,v,d⟩) 0 with h|h
      ·rw[hb.1 h]at a8;cases a8
      ·exact h
     refine⟨fun h=>by simp[B,C,E,F,H,a6,a7,a8]at h,fun _=>⟨[(101,.rc [.str S,.int .i64 U,.int .i64 O,.int .i64 m3,.int .i64 m4,.lst 4 (cO z) .no,.lst 4 (kK rs) .no]),(104,.rc [.int .i64 r,.str n,.int .i64 v,.byt d .no])], ?_⟩⟩;rw[al];simp only[go_sem,Q0,Q1,Q2,Q3,Q4,Q5,Q6,Q7,Q8,Q9,Qa,Qb,Qc,Qd,Qe,Qf,Qg,Qh,Qi,Qj,Qk,reduceCtorEq,reduceIte,hi,hp,W,Q,a9,a0,I,J,L,B,C,E,F,H,a6,Z,m5,g2,QZ,h9,a7,a8]
 ·refine⟨fun h=>by simp[B,C,E,F,H]at h,fun _=>⟨[(101,.rc [.str S,.int .i64 U,.int .i64 O,.int .i64 m3,.int .i64 m4,.lst 4 (cO z) .no,.lst 4 (kK rs) .no]),(104,.rc [.int .i64 r,.str n,.int .i64 v,.byt d .no])], ?_⟩⟩
  rw[al];simp only[go_sem,Q0,Q1,Q2,Q3,Q4,Q5,Q6,Q7,Q8,Q9,Qa,Qb,Qc,Qd,Qe,Qf,Qg,Qh,Qi,Qj,Qk,reduceCtorEq,reduceIte,hi,I,J,L,B,C,E,F,H]
theorem l44(m:Man)(F:jL m):∀(n i:Nat),m.ents.length-i=n->i<=m.ents.length->
 (iv m.ents n i=0->run T (.loop lB) (zg m i)=some (.x 1,⟨[(1,.ptr 101 0)],[(101,.rc m.sv)],[]⟩))/\
 (iv m.ents n i≠0->∃ob,run T (.loop lB) (zg m i)=some (.r,⟨[(2,.int .i64 (iv m.ents n i))],ob,[]⟩)):=by
 intro n;induction n with
 |zero=>
  intro i B z;have:i=m.ents.length:=by omega
  subst this;refine⟨fun _=> ?_,fun h=>absurd rfl h⟩;rw[al];simp only[zg,go_sem,Q0,Q1,Q2,Q3,Q4,Q5,Q6,Q7,Q8,Q9,Qa,Qb,Qc,Qd,Qe,Qf,Qg,Qh,Qi,Qj,Qk,reduceCtorEq,reduceIte]
 |succ n I=>
  intro i B z;obtain⟨s1,s2⟩:=s44 m F i (by omega);obtain⟨E,C⟩:=I (i+1) (by omega) (by omega);unfold iv
  by_cases h:mj m.ents i=0
  ·rw[if_pos h,s1 h];exact⟨E,C⟩
  ·rw[if_neg h];exact⟨fun H=>absurd H h,s2⟩
theorem xjs(m:Man)(O:jL m)(ob:List (Nat×aC))(C:ob=[(101,.rc m.sv)]):∀(n i:Nat),m.ruls.length-i=n->i<=m.ruls.length->
 (lK (m.ruls.drop i)=0->run T (.loop s7) ⟨[(111,.lst 4 (kK m.ruls) .no),(112,.int .i64 m.ruls.length),(113,.int .i64 i)],ob,[]⟩=some (.x 4,⟨[],ob,[]⟩))/\
 (lK (m.ruls.drop i)≠0->∃ob',run T (.loop s7) ⟨[(111,.lst 4 (kK m.ruls) .no),(112,.int .i64 m.ruls.length),(113,.int .i64 i)],ob,[]⟩=some (.r,⟨[(2,.int .i64 (lK (m.ruls.drop i)))],ob',[]⟩)):=by
 intro n;induction n with
 |zero=>
  intro i S Z;have:i=m.ruls.length:=by omega
  subst this;rw[bh];refine⟨fun _=> ?_,fun h=>absurd rfl h⟩;rw[al];simp only[go_sem,Q0,Q1,Q2,Q3,Q4,Q5,Q6,Q7,Q8,Q9,Qa,Qb,Qc,Qd,Qe,Qf,Qg,Qh,Qi,Qj,Qk,reduceCtorEq,reduceIte]
 |succ n Q=>
  intro i S Z;have hi:i<m.ruls.length:=by omega
  obtain⟨i1,i2⟩:=Q (i+1) (by omega) (by omega);have E:=cA i (by have:=O.rn;omega);have I:=iZ m.ruls;have J:=oX m.ruls i hi;have hd:m.ruls.drop i=m.ruls.getD i rl0::m.ruls.drop (i+1):=by rw[aU hi,aa,af hi];rfl
  have hb:=O.r _ (cJ m.ruls rl0 i hi);rw[hd];unfold lK;generalize m.ruls.drop (i+1)=R at*;generalize m.ruls.getD i rl0=x at*;obtain⟨W,m1,U,m3,m4,L,rs⟩:=m;obtain⟨k,t,lo,z⟩:=x;simp only[Man.sv,Rul.sv]at*;subst C;have g:=f90 k t lo z (by omega)
  by_cases h:zo ⟨k,t,lo,z⟩=0
  ·rw[if_pos h]
   unfold zo at h;simp only at h;rw[h]at g;refine⟨fun B=> ?_,fun B=> ?_⟩
   ·have F:=i1 B
    rw[al];simp only[go_sem,Q0,Q1,Q2,Q3,Q4,Q5,Q6,Q7,Q8,Q9,Qa,Qb,Qc,Qd,Qe,Qf,Qg,Qh,Qi,Qj,Qk,reduceCtorEq,reduceIte,hi,E,I,J,g,sO,F]
   ·obtain⟨ob',H⟩:=i2 B
    refine⟨ob', ?_⟩;rw[al];simp only[go_sem,Q0,Q1,Q2,Q3,Q4,Q5,Q6,Q7,Q8,Q9,Qa,Qb,Qc,Qd,Qe,Qf,Qg,Qh,Qi,Qj,Qk,reduceCtorEq,reduceIte,hi,E,I,J,g,sO,H]
  ·rw[if_neg h]
   unfold zo at h ⊢;simp only at h ⊢;refine⟨fun B=>absurd B h,fun B=>⟨[(101,.rc [.str W,.int .i64 m1,.int .i64 U,.int .i64 m3,.int .i64 m4,.lst 4 (cO L) .no,.lst 4 (kK rs) .no]),(106,.rc [.int .i64 k,.str t,.int .i64 lo,.int .i64 z])], ?_⟩⟩;rw[al];simp only[go_sem,Q0,Q1,Q2,Q3,Q4,Q5,Q6,Q7,Q8,Q9,Qa,Qb,Qc,Qd,Qe,Qf,Qg,Qh,Qi,Qj,Qk,reduceCtorEq,reduceIte,hi,E,I,J,g,sO,h]
theorem f44(m:Man)(hm:jL m):call T 44 [.agg m.sv] [] 0=some ⟨.int .i64 (js m),[],[]⟩:=by
 have h:=f89 m.vendor;obtain⟨l1,l2⟩:=l44 m hm _ 0 rfl (by omega);obtain⟨r1,r2⟩:=xjs m hm _ rfl _ 0 rfl (by omega);have O:=dd m.ents;have S:=iZ m.ruls;obtain⟨mv,m1,m2,m3,m4,H,rs⟩:=m;simp only[zg,Man.sv,aH,bi,Nat.sub_zero]at*;rw[az xk7];unfold js;simp only;cases a0:Pr.nameB mv with
 |false=>rw[a0]at h;simp only[go_sem,Q0,Q1,Q2,Q3,Q4,Q5,Q6,Q7,Q8,Q9,Qa,Qb,Qc,Qd,Qe,Qf,Qg,Qh,Qi,Qj,Qk,reduceCtorEq,reduceIte,h,m5,a0]
 |true=>
  rw[a0]at h
  by_cases z:m2<0
  ·simp only[go_sem,Q0,Q1,Q2,Q3,Q4,Q5,Q6,Q7,Q8,Q9,Qa,Qb,Qc,Qd,Qe,Qf,Qg,Qh,Qi,Qj,Qk,reduceCtorEq,reduceIte,h,m5,a0,z]
  by_cases B:m1<m2
  ·simp only[go_sem,Q0,Q1,Q2,Q3,Q4,Q5,Q6,Q7,Q8,Q9,Qa,Qb,Qc,Qd,Qe,Qf,Qg,Qh,Qi,Qj,Qk,reduceCtorEq,reduceIte,h,m5,a0,z,B]
  by_cases C:1000000<m1
  ·simp only[go_sem,Q0,Q1,Q2,Q3,Q4,Q5,Q6,Q7,Q8,Q9,Qa,Qb,Qc,Qd,Qe,Qf,Qg,Qh,Qi,Qj,Qk,reduceCtorEq,reduceIte,h,m5,a0,z,B,C]
  by_cases E:m3<0
  ·simp only[go_sem,Q0,Q1,Q2,Q3,Q4,Q5,Q6,Q7,Q8,Q9,Qa,Qb,Qc,Qd,Qe,Qf,Qg,Qh,Qi,Qj,Qk,reduceCtorEq,reduceIte,h,m5,a0,z,B,C,E]
  by_cases F:m4<=m3
  ·simp only[go_sem,Q0,Q1,Q2,Q3,Q4,Q5,Q6,Q7,Q8,Q9,Qa,Qb,Qc,Qd,Qe,Qf,Qg,Qh,Qi,Qj,Qk,reduceCtorEq,reduceIte,h,m5,a0,z,B,C,E,F]
  by_cases I:1099511627776<m4
  ·simp only[go_sem,Q0,Q1,Q2,Q3,Q4,Q5,Q6,Q7,Q8,Q9,Qa,Qb,Qc,Qd,Qe,Qf,Qg,Qh,Qi,Qj,Qk,reduceCtorEq,reduceIte,h,m5,a0,z,B,C,E,F,I]
  by_cases J:(16:Int)<H.length
  ·simp only[go_sem,Q0,Q1,Q2,Q3,Q4,Q5,Q6,Q7,Q8,Q9,Qa,Qb,Qc,Qd,Qe,Qf,Qg,Qh,Qi,Qj,Qk,reduceCtorEq,reduceIte,h,m5,a0,z,B,C,E,F,I,J,O]
  by_cases U:(8:Int)<rs.length
  ·simp only[go_sem,Q0,Q1,Q2,Q3,Q4,Q5,Q6,Q7,Q8,Q9,Qa,Qb,Qc,Qd,Qe,Qf,Qg,Qh,Qi,Qj,Qk,reduceCtorEq,reduceIte,h,m5,a0,z,B,C,E,F,I,J,U,O,S]
  by_cases Q:iv H H.length 0=0
  ·have L:=l1 Q
   by_cases b0:lK rs=0
   ·have Z:=r1 b0
    simp only[go_sem,Q0,Q1,Q2,Q3,Q4,Q5,Q6,Q7,Q8,Q9,Qa,Qb,Qc,Qd,Qe,Qf,Qg,Qh,Qi,Qj,Qk,reduceCtorEq,reduceIte,h,m5,a0,z,B,C,E,F,I,J,U,O,S,L,Q,Z,b0]
   ·obtain⟨ob,b2⟩:=r2 b0
    simp only[go_sem,Q0,Q1,Q2,Q3,Q4,Q5,Q6,Q7,Q8,Q9,Qa,Qb,Qc,Qd,Qe,Qf,Qg,Qh,Qi,Qj,Qk,reduceCtorEq,reduceIte,h,m5,a0,z,B,C,E,F,I,J,U,O,S,L,Q,b2]
  ·obtain⟨ob,W⟩:=l2 Q
   simp only[go_sem,Q0,Q1,Q2,Q3,Q4,Q5,Q6,Q7,Q8,Q9,Qa,Qb,Qc,Qd,Qe,Qf,Qg,Qh,Qi,Qj,Qk,reduceCtorEq,reduceIte,h,m5,a0,z,B,C,E,F,I,J,U,O,S,W,Q]
section
open SortT
theorem px:∀a:t6,Lib.compareBytes a a=0
 |[]=>rfl
 |x::r=>by have h:=px r;simp[Lib.compareBytes,h]
theorem tu:∀a b c:t6,Lib.compareBytes a b<0->Lib.compareBytes b c<0->Lib.compareBytes a c<0
 |[],[],_,h,_=>by simp[Lib.compareBytes]at h
 |[],_::_,[],_,k=>by simp[Lib.compareBytes]at k
 |[],_::_,_::_,_,_=>by simp[Lib.compareBytes]
 |_::_,[],_,h,_=>by simp[Lib.compareBytes]at h
 |_::_,_::_,[],_,k=>by simp[Lib.compareBytes]at k
 |x::r,y::s,z::t,h,k=>by
  have L:=tu r s t;unfold Lib.compareBytes at h k ⊢;have Q:(x<y)=(x.toNat<y.toNat):=rfl;have J:(y<z)=(y.toNat<z.toNat):=rfl;have I:(x<z)=(x.toNat<z.toNat):=rfl;have F:(y<x)=(y.toNat<x.toNat):=rfl;have O:(z<y)=(z.toNat<y.toNat):=rfl;have S:(z<x)=(z.toNat<x.toNat):=rfl;simp only[Q,J,I,F,O,S]at h k ⊢
  by_cases H:x.toNat<y.toNat
  ·by_cases C:y.toNat<z.toNat
   ·rw[if_pos (by omega)];decide
   ·rw[if_neg C]at k
    by_cases B:z.toNat<y.toNat
    ·rw[if_pos B]at k;exact absurd k (by decide)
    ·rw[if_pos (by omega)];decide
  ·rw[if_neg H]at h
   by_cases E:y.toNat<x.toNat
   ·rw[if_pos E]at h;exact absurd h (by decide)
   ·rw[if_neg E]at h
    by_cases C:y.toNat<z.toNat
    ·rw[if_pos (by omega)];decide
    ·rw[if_neg C]at k
     by_cases B:z.toNat<y.toNat
     ·rw[if_pos B]at k;exact absurd k (by decide)
     ·rw[if_neg B]at k
      rw[if_neg (by omega),if_neg (by omega)];exact L h k
theorem py:∀{a b:t6},¬Lib.compareBytes a b<0->¬Lib.compareBytes a b=0->Lib.compareBytes b a<0
 |[],[],_,k=>absurd rfl k
 |[],_::_,h,_=>absurd (by simp[Lib.compareBytes]) h
 |_::_,[],_,_=>by simp[Lib.compareBytes]
 |x::r,y::s,h,k=>by
  unfold Lib.compareBytes at h k ⊢
  by_cases B:x<y
  ·rw[if_pos B]at h;exact absurd (by decide) h
  ·rw[if_neg B]at h k
   by_cases z:y<x
   ·rw[if_pos z];decide
   ·rw[if_neg z]at h k
    rw[if_neg z,if_neg B];exact py h k
theorem yd(a:t6):¬bI a a=true:=fun h=>by have:=(eU a a).2 h;rw[px]at this;omega
theorem YC{a b c:t6}(h:bI a b=true)(k:bI b c=true):bI a c=true:=(eU _ _).1 (tu _ _ _ ((eU _ _).2 h) ((eU _ _).2 k))
theorem MX{a b:t6}(h:¬bI a b=true)(k:¬bI b a=true):a=b:=by refine(gH a b).1 (Classical.byContradiction fun e=> ?_);exact k ((eU _ _).1 (py (fun z=>h ((eU _ _).1 z)) e))
theorem sr(x y:Ent):eo x y=true↔x.role<y.role\/(x.role=y.role/\(bI x.name y.name=true\/(x.name=y.name/\(x.ver<y.ver\/(x.ver=y.ver/\bI x.dig y.dig=true))))):=by
 unfold eo
 by_cases z:x.role=y.role
 ·rw[if_pos z]
  by_cases B:x.name=y.name
  ·rw[if_pos B]
   have n2:¬bI x.name y.name=true:=by rw[B];exact yd _
   by_cases C:x.ver=y.ver
   ·rw[if_pos C]
    constructor
    ·intro h;exact .inr ⟨z,.inr ⟨B,.inr ⟨C,h⟩⟩⟩
    ·rintro(h|⟨-,h|⟨-,h|⟨-,h⟩⟩⟩)
     ·omega
     ·exact absurd h n2
     ·omega
     ·exact h
   ·rw[if_neg C,decide_eq_true_eq]
    constructor
    ·intro h;exact .inr ⟨z,.inr ⟨B,.inl h⟩⟩
    ·rintro(h|⟨-,h|⟨-,h|⟨h, -⟩⟩⟩)
     ·omega
     ·exact absurd h n2
     ·exact h
     ·exact absurd h C
  ·rw[if_neg B]
   constructor
   ·intro h;exact .inr ⟨z,.inl h⟩
   ·rintro(h|⟨-,h|⟨h, -⟩⟩)
    ·omega
    ·exact h
    ·exact absurd h B
 ·rw[if_neg z,decide_eq_true_eq]
  constructor
  ·intro h;exact .inl h
  ·rintro(h|⟨h, -⟩)
   ·exact h
   ·exact absurd h z
theorem nE:SO eo where
 irr:=fun x=>by
  cases h:eo x x with
  |false=>rfl
  |true=>
   rcases (sr x x).1 h with h|⟨-,h|⟨-,h|⟨-,h⟩⟩⟩
   ·omega
   ·exact absurd h (yd _)
   ·omega
   ·exact absurd h (yd _)
 tr:=fun x y z C B=>by
  rw[sr]at C B ⊢;rcases C with C|⟨E,C⟩
  ·rcases B with B|⟨F,B⟩
   ·left;omega
   ·left;omega
  ·rcases B with B|⟨F,B⟩
   ·left;omega
   ·refine .inr ⟨E.trans F, ?_⟩
    rcases C with C|⟨n1,C⟩
    ·rcases B with B|⟨n2,B⟩
     ·exact .inl (YC C B)
     ·rw[n2]at C;exact .inl C
    ·rcases B with B|⟨n2,B⟩
     ·rw[<-n1]at B;exact .inl B
     ·refine .inr ⟨n1.trans n2, ?_⟩
      rcases C with C|⟨v1,C⟩
      ·rcases B with B|⟨I,B⟩
       ·left;omega
       ·left;omega
      ·rcases B with B|⟨I,B⟩
       ·left;omega
       ·exact .inr ⟨v1.trans I,YC C B⟩
 tri:=fun x y C B=>by
  have n1:¬eo x y=true:=by rw[C];simp
  have n2:¬eo y x=true:=by rw[B];simp
  rw[sr]at n1 n2
  have E:x.role=y.role:=by
   have a:¬x.role<y.role:=fun h=>n1 (.inl h)
   have b:¬y.role<x.role:=fun h=>n2 (.inl h)
   omega
  have F:x.name=y.name:=MX (fun h=>n1 (.inr ⟨E,.inl h⟩)) (fun h=>n2 (.inr ⟨E.symm,.inl h⟩))
  have H:x.ver=y.ver:=by
   have a:¬x.ver<y.ver:=fun h=>n1 (.inr ⟨E,.inr ⟨F,.inl h⟩⟩)
   have b:¬y.ver<x.ver:=fun h=>n2 (.inr ⟨E.symm,.inr ⟨F.symm,.inl h⟩⟩)
   omega
  have J:x.dig=y.dig:=MX (fun h=>n1 (.inr ⟨E,.inr ⟨F,.inr ⟨H,h⟩⟩⟩)) (fun h=>n2 (.inr ⟨E.symm,.inr ⟨F.symm,.inr ⟨H.symm,h⟩⟩⟩));obtain⟨r,n,v,d⟩:=x;obtain⟨L,n2,I,d2⟩:=y;simp only at E F H J;subst E;subst F;subst H;subst J;rfl
def eqE(x y:Ent):Bool:=decide (rX x y=0)
theorem P8(x y:Ent):eqE x y=true↔x=y:=by
 unfold eqE;rw[decide_eq_true_eq];constructor
 ·intro h
  have L:¬eo x y=true:=fun k=>by have:=(rW x y).2 k;omega
  refine nE.tri x y (by simpa using L) ?_;unfold rX orI at h;obtain⟨r,n,v,d⟩:=x;obtain⟨O,n2,J,d2⟩:=y;simp only at h
  by_cases z:ra r O=0
  ·rw[if_neg (by simp[z])]at h
   by_cases B:Lib.compareBytes n n2=0
   ·rw[if_neg (by simp[B])]at h
    by_cases C:ra v J=0
    ·rw[if_neg (by simp[C])]at h
     have F:=(iN _ _).1 z;have I:=(gH _ _).1 B;have E:=(iN _ _).1 C;have H:=(gH _ _).1 h;subst F;subst I;subst E;subst H;exact nE.irr _
    ·rw[if_pos C]at h;exact absurd h C
   ·rw[if_pos B]at h;exact absurd h B
  ·rw[if_pos z]at h;exact absurd h z
 ·rintro rfl
  unfold rX orI;have F:=(iN x.role x.role).2 rfl;have I:=(gH x.name x.name).2 rfl;have E:=(iN x.ver x.ver).2 rfl;have H:=(gH x.dig x.dig).2 rfl;rw[F,I,E,H];rfl
structure oT(x:Ent):Prop where
 r1:1<=x.role
 r3:x.role<=3
 v0:0<=x.ver
 v1:x.ver<=1000000
 d:x.dig.length=32
 n:Pr.nameB x.name=true
theorem Gf{l:List Ent}(h:∀x∈l,oT x)(B:Str eo l)(i:Nat)(hi:i<l.length):mj l i=0:=by
 obtain⟨I,F,L,J,H,C⟩:=h _ (cJ l en0 i hi);unfold mj;rw[if_neg (by omega),if_neg (by omega),if_neg (by omega),if_neg (by omega),if_pos (by omega),if_pos C]
 by_cases z:i=0
 ·rw[if_pos z]
 ·have E:eo (l.getD (i-1) en0) (l.getD i en0)=true:=by
   have:=gZ.1 B (i-1) i (by omega) hi (by omega);rw[aa,aa,af (by omega),af hi];exact this
  rw[if_neg z,if_pos E]
theorem qW{l:List Ent}(h:∀x∈l,oT x)(z:Str eo l):∀(n i:Nat),i+n<=l.length->iv l n i=0
 |0,_,_=>rfl
 |n+1,i,hi=>by unfold iv;rw[if_pos (Gf h z i (by omega))];exact qW h z n (i+1) (by omega)
theorem qt:∀{l:List Rul},(∀r∈l,zo r=0)->lK l=0
 |[],_=>rfl
 |r::t,h=>by unfold lK;rw[if_pos (h r ax)];exact qt fun x z=>h x (aq _ z)
theorem FP{m:Man}(z:Pr.nameB m.vendor=true)(L:0<=m.flr)(O:m.flr<=m.ver)(J:m.ver<=1000000)(F:0<=m.frm)(E:m.frm<m.til)(Q:m.til<=1099511627776)(I:m.ents.length<=16)(H:m.ruls.length<=8)
 (B:∀x∈m.ents,oT x) (h:Str eo m.ents) (C:∀r∈m.ruls,zo r=0):js m=0:=by
 unfold js;rw[if_pos z,if_neg (by omega),if_neg (by omega),if_neg (by omega),if_neg (by omega),if_neg (by omega),if_neg (by omega),if_neg (by omega),if_neg (by omega),if_pos (qW B h _ 0 (by omega))];exact qt C
end
section
open SortT
theorem kW(n:Int):(dO n).toNat<cs0.length:=by have:cs0.length=256:=rfl;have:=(dO n).toNat_lt;omega
theorem xf2(n:Nat)(hn:n<=12):∃k:Int,call T 152 [.int .u64 n] [] 0=some ⟨.int .i64 k,[],[]⟩:=by
 have h:¬(4294967296:Int)<=n:=by omega
 have B:¬(65536:Int)<=n:=by omega
 have z:¬(256:Int)<=n:=by omega
 have C:=kW (n:Int);rw[az YK];simp only[go_sem,Q0,Q1,Q2,Q3,Q4,Q5,Q6,Q7,Q8,Q9,Qa,Qb,Qc,Qd,Qe,Qf,Qg,Qh,Qi,Qj,Qk,reduceCtorEq,reduceIte,h,B,z,C];exact⟨_,rfl⟩
theorem xio(n:Nat)(hn:n<=12):∃k:Int,call T 120 [.int .u64 n] [] 0=some ⟨.int .i64 k,[],[]⟩:=by obtain⟨k,g⟩:=xf2 n hn;refine⟨k, ?_⟩;rw[az xgI];simp only[go_sem,Q0,Q1,Q2,Q3,Q4,Q5,Q6,Q7,Q8,Q9,Qa,Qb,Qc,Qd,Qe,Qf,Qg,Qh,Qi,Qj,Qk,reduceCtorEq,reduceIte,g,jJ]
theorem pt(L:List Ent)(i:Nat)(x:Ent):cO (L.set i x)=(cO L).set i x.sv:=by unfold cO;rw[List.map_set]
def DS(L:List Ent)(i j:Nat):CSt:=⟨[(0,.psl 0 4 0 L.length none),(1,.int .i64 0),(2,.int .i64 L.length),(3,.fn 72 [] []),(8,.int .i64 i),(9,.int .i64 j)],[(0,.arr 4 (cO L))],[]⟩
theorem xjz(i:Nat):∀(j:Nat)(L:List Ent),j<L.length->L.length<=1000000->
 run T (.loop xJ) (DS L i j)=some (.x 2,⟨[(0,.psl 0 4 0 L.length none),(1,.int .i64 0),(2,.int .i64 L.length),(3,.fn 72 [] []),(8,.int .i64 i)],[(0,.arr 4 (cO (bub eo en0 j L)))],[]⟩):=by
 intro j;induction j with
 |zero=>intro L J hn;rw[DS,al];simp only[go_sem,Q0,Q1,Q2,Q3,Q4,Q5,Q6,Q7,Q8,Q9,Qa,Qb,Qc,Qd,Qe,Qf,Qg,Qh,Qi,Qj,Qk,reduceCtorEq,reduceIte,bub,aH,Int.lt_irrefl]
 |succ j ih=>
  intro L J hn;have hv:=dd L;have Q:(0:Int)<((j+1:Nat):Int):=by omega
  have U:aj.wrap (((j+1:Nat):Int)-1)=(j:Int):=wZ (by omega)
  have B:j<L.length:=by omega
  have F:=eE L (j+1) J;have I:=eE L j B;have g:=f72 (L.getD (j+1) en0) (L.getD j en0);have E:=rW (L.getD (j+1) en0) (L.getD j en0);have z:=ih (swp en0 L (j+1)) (by rw[nQ];exact B) (by rw[nQ];exact hn);unfold bub;unfold DS at z ⊢;rw[nQ]at z;unfold swp at z ⊢;rw[jA]at z ⊢;rw[pt,pt]at z;generalize L.getD (j+1) en0=x at*;generalize L.getD j en0=y at*;obtain⟨x1,x2,Z,x4⟩:=x;obtain⟨y1,S,W,O⟩:=y
  by_cases H:eo ⟨x1,x2,Z,x4⟩ ⟨y1,S,W,O⟩=true
  ·rw[if_pos H]
   have C:=E.2 H;simp only[Ent.sv]at g F I z;rw[al];simp only[go_sem,Q0,Q1,Q2,Q3,Q4,Q5,Q6,Q7,Q8,Q9,Qa,Qb,Qc,Qd,Qe,Qf,Qg,Qh,Qi,Qj,Qk,reduceCtorEq,reduceIte,Q,U,hv,J,B,F,I,g,QZ,C,cw,z]
  ·rw[if_neg H]
   have C:¬rX ⟨x1,x2,Z,x4⟩ ⟨y1,S,W,O⟩<0:=fun h=>H (E.1 h)
   simp only[Ent.sv]at g F I;rw[al];simp only[go_sem,Q0,Q1,Q2,Q3,Q4,Q5,Q6,Q7,Q8,Q9,Qa,Qb,Qc,Qd,Qe,Qf,Qg,Qh,Qi,Qj,Qk,reduceCtorEq,reduceIte,Q,U,hv,J,B,F,I,g,QZ,C]
theorem xfH:∀(m i:Nat)(L:List Ent),i+m=L.length->L.length<=1000000->
 run T (.loop xI) ⟨[(0,.psl 0 4 0 L.length none),(1,.int .i64 0),(2,.int .i64 L.length),(3,.fn 72 [] []),(8,.int .i64 i)],[(0,.arr 4 (cO L))],[]⟩=
  some (.x 0,⟨[],[(0,.arr 4 (cO (isr eo en0 m i L)))],[]⟩):=by
 intro m;induction m with
 |zero=>
  intro i L C hn;have:i=L.length:=by omega
  subst this;rw[al];simp only[go_sem,Q0,Q1,Q2,Q3,Q4,Q5,Q6,Q7,Q8,Q9,Qa,Qb,Qc,Qd,Qe,Qf,Qg,Qh,Qi,Qj,Qk,reduceCtorEq,reduceIte,isr,Int.lt_irrefl]
 |succ m E=>
  intro i L C hn;have hi:i<L.length:=by omega
  have z:(i:Int)<(L.length:Int):=by omega
  have F:=cA i (by omega);have B:=xjz i i L hi hn;unfold DS at B;have h:=E (i+1) (bub eo en0 i L) (by rw[mn];omega) (by rw[mn];exact hn);rw[mn]at h;unfold isr;rw[al];simp only[go_sem,Q0,Q1,Q2,Q3,Q4,Q5,Q6,Q7,Q8,Q9,Qa,Qb,Qc,Qd,Qe,Qf,Qg,Qh,Qi,Qj,Qk,reduceCtorEq,reduceIte,hi,z,F,B,h]
theorem xj5(L:List Ent)(z:0<L.length)(hn:L.length<=1000000):
 call T 143 [.psl 0 4 0 L.length none,.int .i64 0,.int .i64 L.length,.fn 72 [] []] [.arr 4 (cO L)] 0=some ⟨.tup [],[(0,.arr 4 (cO (isr eo en0 (L.length-1) 1 L)))],[]⟩:=by
 have h:=xfH (L.length-1) 1 L (by omega) hn;have k1:aj.wrap 1=1:=rfl;rw[show((1:Nat):Int)=1 from rfl]at h;rw[az YL];simp only[go_sem,Q0,Q1,Q2,Q3,Q4,Q5,Q6,Q7,Q8,Q9,Qa,Qb,Qc,Qd,Qe,Qf,Qg,Qh,Qi,Qj,Qk,reduceCtorEq,reduceIte,k1,h]
theorem xkf(L:List Ent)(z:0<L.length)(hn:L.length<=12)(k:Int):
 call T 119 [.psl 0 4 0 L.length none,.int .i64 0,.int .i64 L.length,.int .i64 k,.fn 72 [] []] [.arr 4 (cO L)] 0=some ⟨.tup [],[(0,.arr 4 (cO (isr eo en0 (L.length-1) 1 L)))],[]⟩:=by
 have g:=xj5 L z (by omega);have B:aj.wrap ((L.length:Int)-0)=(L.length:Int):=wZ (by omega)
 have h:(L.length:Int)<=12:=by omega
 rw[az YN];simp only[go_sem,Q0,Q1,Q2,Q3,Q4,Q5,Q6,Q7,Q8,Q9,Qa,Qb,Qc,Qd,Qe,Qf,Qg,Qh,Qi,Qj,Qk,reduceCtorEq,reduceIte];rw[al];simp only[go_sem,Q0,Q1,Q2,Q3,Q4,Q5,Q6,Q7,Q8,Q9,Qa,Qb,Qc,Qd,Qe,Qf,Qg,Qh,Qi,Qj,Qk,reduceCtorEq,reduceIte,B,h,hn,g,YV]
theorem f71(L:List Ent)(h:0<L.length)(hn:L.length<=12):
 call T 71 [.psl 0 4 0 L.length none,.fn 72 [] []] [.arr 4 (cO L)] 0=some ⟨.tup [],[(0,.arr 4 (cO (isr eo en0 (L.length-1) 1 L)))],[]⟩:=by
 obtain⟨k,B⟩:=xio L.length hn;have C:=xkf L h hn k;have z:bd.wrap (L.length:Int)=(L.length:Int):=by rw[cz];omega
 rw[az xiA];simp only[go_sem,Q0,Q1,Q2,Q3,Q4,Q5,Q6,Q7,Q8,Q9,Qa,Qb,Qc,Qd,Qe,Qf,Qg,Qh,Qi,Qj,Qk,reduceCtorEq,reduceIte,z,B,Y3,C,Y4]
theorem xf3:call T 143 [.lst 4 [] .no,.int .i64 0,.int .i64 0,.fn 72 [] []] [] 0=some ⟨.tup [],[],[]⟩:=by have k1:aj.wrap 1=1:=rfl;rw[az YL];simp only[go_sem,Q0,Q1,Q2,Q3,Q4,Q5,Q6,Q7,Q8,Q9,Qa,Qb,Qc,Qd,Qe,Qf,Qg,Qh,Qi,Qj,Qk,reduceCtorEq,reduceIte,k1];rw[al];simp only[go_sem,Q0,Q1,Q2,Q3,Q4,Q5,Q6,Q7,Q8,Q9,Qa,Qb,Qc,Qd,Qe,Qf,Qg,Qh,Qi,Qj,Qk,reduceCtorEq,reduceIte,k1]
theorem xjO:call T 71 [.lst 4 [] .no,.fn 72 [] []] [] 0=some ⟨.tup [],[],[]⟩:=by
 obtain⟨k,z⟩:=xio 0 (by omega);have E:=xf3;have B:aj.wrap 0=0:=rfl;have h:bd.wrap 0=0:=rfl;rw[aH]at z
 have C:call T 119 [.lst 4 [] .no,.int .i64 0,.int .i64 0,.int .i64 k,.fn 72 [] []] [] 0=some ⟨.tup [],[],[]⟩:=by rw[az YN];simp only[go_sem,Q0,Q1,Q2,Q3,Q4,Q5,Q6,Q7,Q8,Q9,Qa,Qb,Qc,Qd,Qe,Qf,Qg,Qh,Qi,Qj,Qk,reduceCtorEq,reduceIte];rw[al];simp only[go_sem,Q0,Q1,Q2,Q3,Q4,Q5,Q6,Q7,Q8,Q9,Qa,Qb,Qc,Qd,Qe,Qf,Qg,Qh,Qi,Qj,Qk,reduceCtorEq,reduceIte,B,E,YV]
 rw[az xiA];simp only[go_sem,Q0,Q1,Q2,Q3,Q4,Q5,Q6,Q7,Q8,Q9,Qa,Qb,Qc,Qd,Qe,Qf,Qg,Qh,Qi,Qj,Qk,reduceCtorEq,reduceIte,B,h,z,Y3,C,Y4,aH]
theorem f74(x y:Ent):call T 74 [.agg x.sv,.agg y.sv] [] 0=some ⟨.bool (eqE x y),[],[]⟩:=by have g:=f72 x y;obtain⟨r,n,v,d⟩:=x;obtain⟨z,n2,h,d2⟩:=y;simp only[Ent.sv]at*;rw[az xkR];unfold eqE;simp only[go_sem,Q0,Q1,Q2,Q3,Q4,Q5,Q6,Q7,Q8,Q9,Qa,Qb,Qc,Qd,Qe,Qf,Qg,Qh,Qi,Qj,Qk,reduceCtorEq,reduceIte,g,QZ]
theorem xjp(n:Nat)(hn:n<=1000)(h:Nat):∀(m:Nat)(B:List Ent)(k k2:Nat),B.length=n->h+k2+m=n->1<=k2->k<h+k2->
 run T (.loop xo) ⟨[(0,.psl 0 4 0 n none),(1,.fn 74 [] []),(5,.int .i64 k),(6,.psl 0 4 h (n-h) none),(7,.int .i64 k2)],[(0,.arr 4 (cO B))],[]⟩=
  some (.x 2,⟨[(0,.psl 0 4 0 n none),(5,.int .i64 ((inn eqE en0 m B k (h+k2)).2:Nat))],[(0,.arr 4 (cO (inn eqE en0 m B k (h+k2)).1))],[]⟩):=by
 intro m;induction m with
 |zero=>
  intro B k k2 Q h2 h3 h4;have:¬k2<n-h:=by omega
  rw[al];simp only[go_sem,Q0,Q1,Q2,Q3,Q4,Q5,Q6,Q7,Q8,Q9,Qa,Qb,Qc,Qd,Qe,Qf,Qg,Qh,Qi,Qj,Qk,reduceCtorEq,reduceIte,inn,this]
 |succ m W=>
  intro B k k2 Q h2 h3 h4;have S:k2<n-h:=by omega
  have F:k2-1<n-h:=by omega
  have O:h+k2<B.length:=by omega
  have C:h+(k2-1)<B.length:=by omega
  have hv:=dd B;have I:=eE B (h+k2) O;have L:=eE B (h+(k2-1)) C;have U:aj.wrap ((k2:Int)-1)=((k2-1:Nat):Int):=wZ (by omega)
  have Z:=cA k2 (by omega);have e3:=cA k (by omega);have g:=f74 (B.getD (h+k2) en0) (B.getD (h+(k2-1)) en0);have E:=W B k (k2+1) Q (by omega) (by omega) (by omega);have z:=W (B.set k (B.getD (h+k2) en0)) (k+1) (k2+1) (by rw[cw];exact Q) (by omega) (by omega) (by omega);have H:h+k2-1=h+(k2-1):=by omega
  have hk:k<B.length:=by omega
  have J:k<n:=by omega
  unfold inn;rw[H];rw[pt]at z;rw[show h+(k2+1)=h+k2+1 from by omega]at E z;generalize B.getD (h+k2) en0=x at*;generalize B.getD (h+(k2-1)) en0=y at*;obtain⟨x1,x2,x3,x4⟩:=x;obtain⟨y1,y2,y3,y4⟩:=y;simp only[Ent.sv]at g I L z;cases hq:eqE ⟨x1,x2,x3,x4⟩ ⟨y1,y2,y3,y4⟩with
  |true=>rw[hq]at g;rw[if_pos rfl];rw[al];simp only[go_sem,Q0,Q1,Q2,Q3,Q4,Q5,Q6,Q7,Q8,Q9,Qa,Qb,Qc,Qd,Qe,Qf,Qg,Qh,Qi,Qj,Qk,reduceCtorEq,reduceIte,S,F,O,C,hv,I,L,U,Z,g,QY,E]
  |false=>rw[hq]at g;rw[if_neg (by simp)];rw[al];simp only[go_sem,Q0,Q1,Q2,Q3,Q4,Q5,Q6,Q7,Q8,Q9,Qa,Qb,Qc,Qd,Qe,Qf,Qg,Qh,Qi,Qj,Qk,reduceCtorEq,reduceIte,S,F,O,C,hv,I,L,U,Z,e3,g,QY,hk,J,cw,z]
theorem l73(S:List Ent)(hn:S.length<=1000):∀(m k:Nat),k+m=S.length->1<=k->S.take k++cp eqE (S.getD (k-1) en0) (S.drop k)=cpt eqE S->
 (cpt eqE S=S/\run T (.loop sZ) ⟨[(0,.psl 0 4 0 S.length none),(1,.fn 74 [] []),(5,.int .i64 k)],[(0,.arr 4 (cO S))],[]⟩=
  some (.x 0,⟨[(0,.psl 0 4 0 S.length none)],[(0,.arr 4 (cO S))],[]⟩))\/
 (∃(R:f8)(h:Nat),R.length=S.length/\h<=S.length/\R.take h=cO (cpt eqE S)/\run T (.loop sZ) ⟨[(0,.psl 0 4 0 S.length none),(1,.fn 74 [] []),(5,.int .i64 k)],[(0,.arr 4 (cO S))],[]⟩=
  some (.r,⟨[(4,.psl 0 4 0 h none)],[(0,.arr 4 R)],[]⟩)):=by
 intro m;induction m with
 |zero=>
  intro k h1 h2 Q;have:k=S.length:=by omega
  subst this;refine .inl ⟨QE eqE en0 S Q, ?_⟩;rw[al];simp only[go_sem,Q0,Q1,Q2,Q3,Q4,Q5,Q6,Q7,Q8,Q9,Qa,Qb,Qc,Qd,Qe,Qf,Qg,Qh,Qi,Qj,Qk,reduceCtorEq,reduceIte]
 |succ m ih=>
  intro k h1 h2 Q;have I:k<S.length:=by omega
  have C:k-1<S.length:=by omega
  have hv:=dd S;have L:=eE S k I;have J:=eE S (k-1) C;have e1:aj.wrap ((k:Int)-1)=((k-1:Nat):Int):=wZ (by omega)
  have e3:=cA k (by omega);have g:=f74 (S.getD k en0) (S.getD (k-1) en0);have a1:=fun Z=>xdh eqE en0 S k h2 I Q Z
  have a0:=fun Z=>xdi eqE en0 S k h2 I Q Z
  have H:=xjp S.length hn k (S.length-(k+1)) S k 1 rfl (by omega) (aI _) (by omega);obtain⟨E,O⟩:=sa eqE en0 (S.length-(k+1)) S k (k+1);generalize S.getD k en0=x at*;generalize S.getD (k-1) en0=y at*;cases hq:eqE x y with
  |true=>
   have F:=a1 hq;right;generalize inn eqE en0 (S.length-(k+1)) S k (k+1)=z at*;obtain⟨B,h⟩:=z;simp only at F E O H;have a2:=dd B;have c1:h<=S.length:=by omega
   have c2:0<S.length-h:=by omega
   have c3:h+(S.length-h)<=B.length:=by omega
   have c4:k<=S.length:=by omega
   have c5:h+(S.length-h)<=S.length:=by omega
   rw[hq]at g;obtain⟨x1,x2,x3,x4⟩:=x;obtain⟨y1,y2,y3,y4⟩:=y;simp only[Ent.sv]at g L J;rw[show((1:Nat):Int)=1 from rfl]at H;refine⟨(cO B).take h++au (S.length-h) [.int .i64 0,.str [],.int .i64 0,.byt [] .no]++(cO B).drop (h+(S.length-h)),h, ?_,c1, ?_, ?_⟩
   ·rw[ah,ah,aD,bQ,aE];omega
   ·rw[aZ,List.take_append_of_le_length (by rw[aD];omega),List.take_take,Nat.min_self,<-F,cO,cO,List.map_take]
   ·rw[al]
    simp only[go_sem,Q0,Q1,Q2,Q3,Q4,Q5,Q6,Q7,Q8,Q9,Qa,Qb,Qc,Qd,Qe,Qf,Qg,Qh,Qi,Qj,Qk,reduceCtorEq,reduceIte,I,C,hv,L,J,e1,g,QY,c4,H,c1,c2,c3,a2,E,c5,Nat.sub_zero]
  |false=>
   rw[hq]at g;have W:=ih (k+1) (by omega) (by omega) (a0 (by rw[hq];simp));obtain⟨x1,x2,x3,x4⟩:=x;obtain⟨y1,y2,y3,y4⟩:=y;simp only[Ent.sv]at g L J;rcases W with⟨U,q2⟩|⟨R,h,U,q2,q3,q4⟩
   ·refine .inl ⟨U, ?_⟩
    rw[al];simp only[go_sem,Q0,Q1,Q2,Q3,Q4,Q5,Q6,Q7,Q8,Q9,Qa,Qb,Qc,Qd,Qe,Qf,Qg,Qh,Qi,Qj,Qk,reduceCtorEq,reduceIte,I,C,hv,L,J,e1,e3,g,QY,q2]
   ·refine .inr ⟨R,h,U,q2,q3, ?_⟩
    rw[al];simp only[go_sem,Q0,Q1,Q2,Q3,Q4,Q5,Q6,Q7,Q8,Q9,Qa,Qb,Qc,Qd,Qe,Qf,Qg,Qh,Qi,Qj,Qk,reduceCtorEq,reduceIte,I,C,hv,L,J,e1,e3,g,QY,q4]
theorem f73(S:List Ent)(I:0<S.length)(hn:S.length<=1000):∃(R:f8)(C:Nat),R.length=S.length/\C<=S.length/\R.take C=cO (cpt eqE S)/\
 call T 73 [.psl 0 4 0 S.length none,.fn 74 [] []] [.arr 4 (cO S)] 0=some ⟨.psl 0 4 0 C none,[(0,.arr 4 R)],[]⟩:=by
 have B:=dd S
 by_cases E:S.length<2
 ·have z:(S.length:Int)<2:=by omega
  refine⟨cO S,S.length,B,aI _, ?_, ?_⟩
  ·have:cpt eqE S=S:=by
    match S,I,E with
    |[x],_,_=>rfl
    |_::_::_,_,h=>simp only[av]at h;omega
   rw[this,<-B,bt]
  ·rw[az YJ]
   simp only[go_sem,Q0,Q1,Q2,Q3,Q4,Q5,Q6,Q7,Q8,Q9,Qa,Qb,Qc,Qd,Qe,Qf,Qg,Qh,Qi,Qj,Qk,reduceCtorEq,reduceIte,B,E,z]
 ·have z:¬(S.length:Int)<2:=by omega
  have J:S.take 1++cp eqE (S.getD (1-1) en0) (S.drop 1)=cpt eqE S:=by
   match S,I with
   |x::r,_=>rfl
  have h:=l73 S hn (S.length-1) 1 (by omega) (aI _) J;rw[show((1:Nat):Int)=1 from rfl]at h;rcases h with⟨H,F⟩|⟨R,C,H,F,q3,q4⟩
  ·refine⟨cO S,S.length,B,aI _,by rw[H,<-B,bt], ?_⟩
   rw[az YJ];simp only[go_sem,Q0,Q1,Q2,Q3,Q4,Q5,Q6,Q7,Q8,Q9,Qa,Qb,Qc,Qd,Qe,Qf,Qg,Qh,Qi,Qj,Qk,reduceCtorEq,reduceIte,B,E,z,F]
  ·refine⟨R,C,H,F,q3, ?_⟩
   rw[az YJ];simp only[go_sem,Q0,Q1,Q2,Q3,Q4,Q5,Q6,Q7,Q8,Q9,Qa,Qb,Qc,Qd,Qe,Qf,Qg,Qh,Qi,Qj,Qk,reduceCtorEq,reduceIte,B,E,z,q4]
theorem xjN:call T 73 [.lst 4 [] .no,.fn 74 [] []] [] 0=some ⟨.lst 4 [] .no,[],[]⟩:=by rw[az YJ];simp only[go_sem,Q0,Q1,Q2,Q3,Q4,Q5,Q6,Q7,Q8,Q9,Qa,Qb,Qc,Qd,Qe,Qf,Qg,Qh,Qi,Qj,Qk,reduceCtorEq,reduceIte]
end
end Go.Proofs.YtdafipacemgcoaaGreatDoor
