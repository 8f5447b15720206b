/- Contracts. No condition. -/
import Derived.Test.YtkcjdeofknkndaaGreatDoorTdDE
open Int renaming natCast_zero -> aB
open Go.IntKind renaming i64 -> af, u64 -> aQ, wrap_u64 -> bK
open List renaming Pairwise -> eg, append_assoc -> av, append_nil -> bw, drop_drop -> fq, drop_eq_getElem_cons -> aM, drop_eq_nil_of_le -> bo, drop_length -> ba, drop_zero -> aV, foldl_cons -> bS, getD_eq_getElem?_getD -> aa, getElem?_drop -> br, getElem?_eq_getElem -> ab, getElem_mem -> bx, length_append -> ac, length_cons -> aA, length_drop -> aI, length_map -> aS, length_replicate -> bQ, length_set -> cB, length_take -> aw, mem_append -> ak, mem_cons -> al, mem_cons_of_mem -> am, mem_cons_self -> ax, mem_singleton -> aZ, not_mem_nil -> cC, pairwise_append -> eH, pairwise_cons -> bI, pairwise_iff_getElem -> nY, pairwise_singleton -> sn, replicate -> ao, take_length -> bi
open Nat renaming add_sub_cancel -> jE, le_refl -> aN
open Go.Op renaming bytesLess -> bF
open UInt8 renaming ofInt -> ct
set_option maxRecDepth 100000
set_option maxHeartbeats 16000000
set_option linter.unusedSimpArgs false
set_option linter.unusedVariables false
namespace Go.Proofs.YtkcjdeofknkndaaGreatDoor
open Go.Sy
open UInt8 renaming reduceLT -> Q0, reduceLE -> Q1
open Int renaming reduceToNat -> Q2, reduceLE -> Q3, reduceLT -> Q4, reduceEq -> Q5, reduceNe -> Q6, reduceNeg -> Q7, reduceAdd -> Q8, reduceSub -> Q9, reduceMul -> Qa
open Nat renaming reducePow -> Qb, reduceDiv -> Qc, reduceMod -> Qd, reduceAdd -> Qe, reduceSub -> Qf, reduceMul -> Qg, reduceLT -> Qh, reduceLeDiff -> Qi, reduceEqDiff -> Qj, reduceBEq -> Qk
end Go.Proofs.YtkcjdeofknkndaaGreatDoor
namespace SortT
variable {α : Type}
structure SO(lt:α->α->Bool):Prop where
 irr:∀x,lt x x=false
 tr:∀x y z,lt x y=true->lt y z=true->lt x z=true
 tri:∀x y,lt x y=false->lt y x=false->x=y
def Str(lt:α->α->Bool)(l:List α):Prop:=l.Pairwise fun x y=>lt x y=true
def Wk(lt:α->α->Bool)(l:List α):Prop:=l.Pairwise fun x y=>lt y x=false
theorem zF{lt:α->α->Bool}(h:SO lt):∀{a b:List α},Str lt a->Str lt b->(∀x,x∈a↔x∈b)->a=b
 |[],[],_,_,_=>rfl
 |[],y::b,_,_,he=>absurd ((he y).2 ax) cC
 |x::a,[],_,_,he=>absurd ((he x).1 ax) cC
 |x::a,y::b,ha,hb,he=>by
  obtain⟨F,I⟩:=bI.1 ha;obtain⟨H,J⟩:=bI.1 hb
  have C:x=y:=by
   rcases al.1 ((he x).1 ax)with e|hx
   ·exact e
   ·rcases al.1 ((he y).2 ax)with e|hy
    ·exact e.symm
    ·have:=h.tr x y x (F y hy) (H x hx)
     rw[h.irr]at this;cases this
  subst C
  have E:∀z,z∈a↔z∈b:=by
   intro z;constructor
   ·intro hz
    rcases al.1 ((he z).1 (am _ hz))with e|hz'
    ·subst e
     have:=F z hz;rw[h.irr]at this;cases this
    ·exact hz'
   ·intro hz
    rcases al.1 ((he z).2 (am _ hz))with e|hz'
    ·subst e
     have:=H z hz;rw[h.irr]at this;cases this
    ·exact hz'
  rw[zF h I J E]
def swp(d:α)(L:List α)(j:Nat):List α:=(L.set j (L.getD (j-1) d)).set (j-1) (L.getD j d)
def bub(lt:α->α->Bool)(d:α):Nat->List α->List α
 |0,L=>L
 |j+1,L=>if lt (L.getD (j+1) d) (L.getD j d)=true then bub lt d j (swp d L (j+1))else L
def isr(lt:α->α->Bool)(d:α):Nat->Nat->List α->List α
 |0,_,L=>L
 |m+1,i,L=>isr lt d m (i+1) (bub lt d i L)
theorem od(d:α)(L:List α)(j:Nat):(swp d L j).length=L.length:=by simp[swp]
theorem mB(lt:α->α->Bool)(d:α):∀(j:Nat)(L:List α),(bub lt d j L).length=L.length
 |0,L=>rfl
 |j+1,L=>by
  unfold bub;split
  ·rw[mB lt d j,od]
  ·rfl
theorem Cu(lt:α->α->Bool)(d:α):∀(m i:Nat)(L:List α),(isr lt d m i L).length=L.length
 |0,_,L=>rfl
 |m+1,i,L=>by unfold isr;rw[Cu lt d m,mB]
theorem QG(d:α)(A:List α)(y x:α)(B:List α):swp d (A++y::x::B) (A.length+1)=A++x::y::B:=by
 unfold swp;rw[jE];have h:(A++y::x::B).getD A.length d=y:=by simp[aa]
 have z:(A++y::x::B).getD (A.length+1) d=x:=by simp[aa]
 rw[h,z,List.set_append_right _ _ (by omega),List.set_append_right _ _ (by omega)];simp
theorem QI:∀(A:List α)(n:Nat),A.length=n+1->∃C y,A=C++ [y]/\C.length=n:=by
 intro A n h;have z:A≠ []:=by intro e;subst e;simp at h
 refine⟨A.dropLast,A.getLast z,(List.dropLast_concat_getLast z).symm, ?_⟩;rw[List.length_dropLast];omega
theorem S4{lt:α->α->Bool}(h:SO lt)(d:α):∀(n:Nat)(A:List α)(x:α)(B:List α),A.length=n->Wk lt A->
 ∃C,bub lt d n (A++x::B)=C++B/\Wk lt C/\C.length=n+1/\∀z,z∈C↔z=x\/z∈A:=by
 intro n;induction n with
 |zero=>intro A x B O Q;have:A=[]:=List.eq_nil_of_length_eq_zero O;subst this;exact⟨[x],rfl,sn _ _,rfl,fun z=>by simp⟩
 |succ n ih=>
  intro A x B O Q;obtain⟨C,y,rfl,H⟩:=QI A n O;have W:(C++ [y]++x::B).getD n d=y:=by subst H;simp[aa]
  have e2:(C++ [y]++x::B).getD (n+1) d=x:=by subst H;simp[aa]
  obtain⟨T, -,J⟩:=eH.1 Q;unfold bub;rw[W,e2]
  by_cases L:lt x y=true
  ·rw[if_pos L]
   have e3:C++ [y]++x::B=C++y::x::B:=by simp
   rw[e3,<-H,QG,H];obtain⟨A2,g1,g2,Z,U⟩:=ih C x (y::B) H T;refine⟨A2++ [y],by rw[g1];simp, ?_,by simp[Z],fun z=> ?_⟩
   ·refine eH.2 ⟨g2,sn _ _,fun a E b I=> ?_⟩
    rw[aZ]at I;subst I;rcases (U a).1 E with rfl|E
    ·cases hq:lt b a with
     |false=>rfl
     |true=>have:=h.tr _ _ _ L hq;rw[h.irr]at this;cases this
    ·exact J a E b (aZ.2 rfl)
   ·rw[ak,aZ,U,ak,aZ,or_assoc]
  ·rw[if_neg L]
   have F:lt x y=false:=by simpa using L
   refine⟨C++ [y]++ [x],by simp, ?_,by simp[H],fun z=>by simp only[ak,aZ];constructor<;>(intro h;rcases h with h|h<;>simp[h])⟩;refine eH.2 ⟨Q,sn _ _,fun a E b I=> ?_⟩;rw[aZ]at I;subst I;rcases ak.1 E with E|E
   ·have h1:=J a E y (aZ.2 rfl)
    cases hq:lt b a with
    |false=>rfl
    |true=>
     cases hr:lt a y with
     |true=>have:=h.tr _ _ _ hq hr;rw[F]at this;cases this
     |false=>have:=h.tri _ _ hr h1;subst this;rw[F]at hq;cases hq
   ·rw[aZ]at E
    subst E;exact F
theorem xe4{lt:α->α->Bool}(h:SO lt)(d:α):∀(m i:Nat)(A B:List α),A.length=i->B.length=m->Wk lt A->
 Wk lt (isr lt d m i (A++B))/\∀z,z∈isr lt d m i (A++B)↔z∈A++B:=by
 intro m;induction m with
 |zero=>intro i A B E y C;have:B=[]:=List.eq_nil_of_length_eq_zero y;subst this;rw[bw];exact⟨C,fun z=>Iff.rfl⟩
 |succ m O=>
  intro i A B E y C;cases B with
  |nil=>simp at y
  |cons x B=>
   obtain⟨I,H,L,F,J⟩:=S4 h d i A x B E C;unfold isr;rw[H];obtain⟨k1,k2⟩:=O (i+1) I B F (by simpa using y) L;refine⟨k1,fun z=> ?_⟩;rw[k2,ak,J,ak,al];constructor
   ·rintro((h|h)|h)<;>simp[h]
   ·rintro(h|h|h)<;>simp[h]
def cp(h:α->α->Bool):α->List α->List α
 |_,[]=> []
 |p,x::r=>if h x p=true then cp h x r else x::cp h x r
def cpt(h:α->α->Bool):List α->List α
 |[]=> []
 |x::r=>x::cp h x r
theorem yx{lt E:α->α->Bool}(h:SO lt)(C:∀x y,E x y=true↔x=y):∀(l:List α)(p:α),∀z,z∈p::cp E p l↔z∈p::l
 |[],p,z=>Iff.rfl
 |x::r,p,z=>by
  have F:=yx h C r x z;unfold cp;split
  ·rename_i H
   have:x=p:=(C _ _).1 H;subst this;rw[F,al (l:=x::r)];constructor
   ·intro h;exact .inr h
   ·rintro(h|h)
    ·subst h;exact ax
    ·exact h
  ·rw[al,F,al (l:=x::r)]
theorem OS{lt J:α->α->Bool}(h:SO lt)(E:∀x y,J x y=true↔x=y):∀(l:List α)(p:α),Wk lt (p::l)->Str lt (p::cp J p l)
 |[],_,_=>sn _ _
 |x::r,p,hw=>by
  obtain⟨O,I⟩:=bI.1 hw;have L:=OS h E r x I;unfold cp;split
  ·rename_i H
   have:x=p:=(E _ _).1 H;subst this;exact L
  ·rename_i H
   have F:¬x=p:=fun e=>H ((E _ _).2 e)
   have C:lt p x=true:=by
    cases hc:lt p x with
    |true=>rfl
    |false=>exact absurd (h.tri _ _ (O x ax) hc) F
   refine bI.2 ⟨fun z hz=> ?_,L⟩;rcases al.1 ((yx h E r x z).1 hz)with rfl|hz
   ·exact C
   ·have Q:=(bI.1 I).1 z hz
    cases hc:lt x z with
    |true=>exact h.tr _ _ _ C hc
    |false=>have:=h.tri _ _ hc Q;subst this;exact C
theorem SY{lt C:α->α->Bool}(h:SO lt)(E:∀x y,C x y=true↔x=y)(l:List α):∀z,z∈cpt C l↔z∈l:=by
 cases l with
 |nil=>exact fun z=>Iff.rfl
 |cons x r=>exact yx h E r x
theorem SX{lt z:α->α->Bool}(h:SO lt)(C:∀x y,z x y=true↔x=y)(l:List α)(E:Wk lt l):Str lt (cpt z l):=by
 cases l with
 |nil=>exact eg.nil
 |cons x r=>exact OS h C r x E
def inn(h:α->α->Bool)(d:α):Nat->List α->Nat->Nat->List α×Nat
 |0,B,k,_=>(B,k)
 |m+1,B,k,p=>if h (B.getD p d) (B.getD (p-1) d)=true then inn h d m B k (p+1)else inn h d m (B.set k (B.getD p d)) (k+1) (p+1)
theorem sR(h:α->α->Bool)(d:α):∀(m:Nat)(B:List α)(k p:Nat),(inn h d m B k p).1.length=B.length/\(inn h d m B k p).2<=k+m
 |0,B,k,p=>⟨rfl,aN _⟩
 |m+1,B,k,p=>by
  unfold inn;split
  ·have:=sR h d m B k (p+1);omega
  ·have:=sR h d m (B.set k (B.getD p d)) (k+1) (p+1)
   rw[cB]at this;omega
theorem ju(l:List α)(d:α)(p q:Nat)(h:p<=q):(l.drop p).getD (q-p) d=l.getD q d:=by
 simp only[aa,br]
 congr 2;omega
theorem xe5(z:α->α->Bool)(d:α)(S:List α):∀(m:Nat)(B:List α)(k p:Nat),p+m=S.length->B.length=S.length->1<=p->k<=p-1->B.drop (p-1)=S.drop (p-1)->
 (inn z d m B k p).1.take (inn z d m B k p).2=B.take k++cp z (S.getD (p-1) d) (S.drop p):=by
 intro m;induction m with
 |zero=>intro B k p H y Q J h;have:S.drop p=[]:=bo (by omega);rw[this];simp[inn,cp]
 |succ m E=>
  intro B k p H y Q J h;have F:B.getD (p-1) d=S.getD (p-1) d:=by rw[<-ju B d (p-1) (p-1) (aN _),h,ju S d _ _ (aN _)]
  have L:B.getD p d=S.getD p d:=by rw[<-ju B d (p-1) p (by omega),h,ju S d _ _ (by omega)]
  have O:S.drop p=S.getD p d::S.drop (p+1):=by rw[aM (by omega),aa,ab (by omega)];rfl
  have C:B.drop p=S.drop p:=by
   have:∀l:List α,l.drop p=(l.drop (p-1)).drop 1:=fun l=>by rw[fq];congr 1;omega
   rw[this B,this S,h]
  unfold inn;rw[F,L,O];unfold cp;split
  ·rw[E B k (p+1) (by omega) y (by omega) (by omega) (by rw[jE];exact C),jE]
  ·rw[E (B.set k (S.getD p d)) (k+1) (p+1) (by omega) (by rw[cB];exact y) (by omega) (by omega) (by
    rw[jE,List.drop_set_of_lt (by omega)];exact C),jE]
   have I:(B.set k (S.getD p d)).take (k+1)=B.take k++ [S.getD p d]:=by rw[List.take_succ_eq_append_getElem (by rw[cB];omega),List.take_set_of_le (aN _)];simp
   rw[I];simp
theorem xfF(y:α->α->Bool)(d:α)(S:List α)(k:Nat)(C:1<=k)(E:k<S.length)(h:S.take k++cp y (S.getD (k-1) d) (S.drop k)=cpt y S)(hn:¬y (S.getD k d) (S.getD (k-1) d)=true):
 S.take (k+1)++cp y (S.getD (k+1-1) d) (S.drop (k+1))=cpt y S:=by
 have z:S.drop k=S.getD k d::S.drop (k+1):=by rw[aM (by omega),aa,ab (by omega)];rfl
 rw[<-h,z,jE]
 conv=>rhs;unfold cp
 rw[if_neg hn,List.take_succ_eq_append_getElem (by omega),aa,ab (by omega),av];rfl
theorem xfE(y:α->α->Bool)(d:α)(S:List α)(k:Nat)(E:1<=k)(F:k<S.length)(h:S.take k++cp y (S.getD (k-1) d) (S.drop k)=cpt y S)(z:y (S.getD k d) (S.getD (k-1) d)=true):
 (inn y d (S.length-(k+1)) S k (k+1)).1.take (inn y d (S.length-(k+1)) S k (k+1)).2=cpt y S:=by
 have C:S.drop k=S.getD k d::S.drop (k+1):=by rw[aM (by omega),aa,ab (by omega)];rfl
 rw[xe5 y d S _ S k (k+1) (by omega) rfl (by omega) (by omega) rfl,<-h,C,jE]
 conv=>rhs;unfold cp
 rw[if_pos z]
theorem SZ(y:α->α->Bool)(d:α)(S:List α)(h:S.take S.length++cp y (S.getD (S.length-1) d) (S.drop S.length)=cpt y S):cpt y S=S:=by rw[<-h,ba,bi];simp[cp]
def oU(lt:α->α->Bool)(x:α):List α->List α
 |[]=> [x]
 |y::r=>if lt y x=true then y::oU lt x r else if lt x y=true then x::y::r else y::r
theorem l9{lt:α->α->Bool}(h:SO lt)(x:α):∀(l:List α),∀z,z∈oU lt x l↔z=x\/z∈l
 |[],z=>by simp[oU]
 |y::r,z=>by
  have F:=l9 h x r z;unfold oU;split
  ·rw[al,F,al]
   constructor
   ·rintro(h|h|h)<;>simp[h]
   ·rintro(h|h|h)<;>simp[h]
  ·rename_i E
   split
   ·rw[al]
   ·rename_i C
    have:x=y:=h.tri _ _ (by simpa using C) (by simpa using E);subst this;rw[al];constructor
    ·exact .inr
    ·rintro(h|h)
     ·exact .inl h
     ·exact h
theorem pJ{lt:α->α->Bool}(h:SO lt)(x:α):∀(l:List α),Str lt l->Str lt (oU lt x l)
 |[],_=>sn _ _
 |y::r,hs=>by
  obtain⟨E,F⟩:=bI.1 hs;unfold oU;split
  ·rename_i C
   refine bI.2 ⟨fun z hz=> ?_,pJ h x r F⟩;rcases (l9 h x r z).1 hz with rfl|hz
   ·exact C
   ·exact E z hz
  ·split
   ·rename_i C
    refine bI.2 ⟨fun z hz=> ?_,hs⟩;rcases al.1 hz with rfl|hz
    ·exact C
    ·exact h.tr _ _ _ C (E z hz)
   ·exact hs
theorem vg{lt:α->α->Bool}(h:SO lt):∀(es l:List α),Str lt l->Str lt (es.foldl (fun a x=>oU lt x a) l)
 |[],_,hs=>hs
 |x::es,l,hs=>vg h es _ (pJ h x l hs)
theorem vh{lt:α->α->Bool}(h:SO lt):∀(es l:List α),∀z,z∈es.foldl (fun a x=>oU lt x a) l↔z∈es\/z∈l
 |[],l,z=>by simp
 |x::es,l,z=>by
  rw[bS,vh h es,l9 h,al];constructor
  ·rintro(h|h|h)<;>simp[h]
  ·rintro((h|h)|h)<;>simp[h]
theorem E0{lt F:α->α->Bool}(h:SO lt)(E:∀x y,F x y=true↔x=y)(d:α)(es:List α):cpt F (isr lt d (es.length-1) 1 es)=es.foldl (fun a x=>oU lt x a) []:=by
 have C:Wk lt (isr lt d (es.length-1) 1 es)/\∀z,z∈isr lt d (es.length-1) 1 es↔z∈es:=by
  cases es with
  |nil=>exact⟨eg.nil,fun z=>Iff.rfl⟩
  |cons x r=>exact xe4 h d r.length 1 [x] r rfl rfl (sn _ _)
 refine zF h (SX h E _ C.1) (vg h es [] eg.nil) fun z=> ?_
 rw[SY h E,C.2,vh h];simp
end SortT
namespace Go.Proofs.YtkcjdeofknkndaaGreatDoor
open Go.Sy
open UInt8 renaming reduceLT -> Q0, reduceLE -> Q1
open Int renaming reduceToNat -> Q2, reduceLE -> Q3, reduceLT -> Q4, reduceEq -> Q5, reduceNe -> Q6, reduceNeg -> Q7, reduceAdd -> Q8, reduceSub -> Q9, reduceMul -> Qa
open Nat renaming reducePow -> Qb, reduceDiv -> Qc, reduceMod -> Qd, reduceAdd -> Qe, reduceSub -> Qf, reduceMul -> Qg, reduceLT -> Qh, reduceLeDiff -> Qi, reduceEqDiff -> Qj, reduceBEq -> Qk
def rT(a b:Int):Int:=if a<b then-1 else if b<a then 1 else 0
theorem xlc(a:Int):call T 141 [.int .i64 a] [] 0=some ⟨.bool false,[],[]⟩:=by rw[an xi9];simp only[go_sem,Q0,Q1,Q2,Q3,Q4,Q5,Q6,Q7,Q8,Q9,Qa,Qb,Qc,Qd,Qe,Qf,Qg,Qh,Qi,Qj,Qk,reduceCtorEq,reduceIte]
theorem xlj(a b:Int):call T 105 [.int .i64 a,.int .i64 b] [] 0=some ⟨.int .i64 (rT a b),[],[]⟩:=by
 have z:=xlc a;have y:=xlc b;rw[an xjC];unfold rT
 by_cases h:a<b
 ·simp only[go_sem,Q0,Q1,Q2,Q3,Q4,Q5,Q6,Q7,Q8,Q9,Qa,Qb,Qc,Qd,Qe,Qf,Qg,Qh,Qi,Qj,Qk,reduceCtorEq,reduceIte,z,y,P6,h]
 ·by_cases C:b<a
  ·simp only[go_sem,Q0,Q1,Q2,Q3,Q4,Q5,Q6,Q7,Q8,Q9,Qa,Qb,Qc,Qd,Qe,Qf,Qg,Qh,Qi,Qj,Qk,reduceCtorEq,reduceIte,z,y,P6,h,C]
  ·simp only[go_sem,Q0,Q1,Q2,Q3,Q4,Q5,Q6,Q7,Q8,Q9,Qa,Qb,Qc,Qd,Qe,Qf,Qg,Qh,Qi,Qj,Qk,reduceCtorEq,reduceIte,z,y,P6,h,C]
theorem xns(a b:t7):call T 107 [.byt a .no,.byt b .no] [] 0=some ⟨.int .i64 (Lib.compareBytes a b),[],[]⟩:=by rw[iV xjA];rfl
theorem xnd(a b:t7):call T 142 [.str a,.str b] [] 0=some ⟨.int .i64 (Lib.compareBytes a b),[],[]⟩:=by rw[iV xi8];rfl
theorem xfQ(a:t7):call T 130 [.str a] [] 0=some ⟨.bool (Pr.nameB a),[],[]⟩:=by rw[iV xjh];rfl
theorem xnt(a b:t7):call T 106 [.str a,.str b] [] 0=some ⟨.int .i64 (Lib.compareBytes a b),[],[]⟩:=by have g:=xnd a b;rw[an xjB];simp only[go_sem,Q0,Q1,Q2,Q3,Q4,Q5,Q6,Q7,Q8,Q9,Qa,Qb,Qc,Qd,Qe,Qf,Qg,Qh,Qi,Qj,Qk,reduceCtorEq,reduceIte,g,xjQ]
def orI(a b c d:Int):Int:=if a≠0 then a else if b≠0 then b else if c≠0 then c else d
theorem xnu(a b c d:Int):call T 104 [.lst 1 [[.int .i64 a],[.int .i64 b],[.int .i64 c],[.int .i64 d]] .no] [] 0=some ⟨.int .i64 (orI a b c d),[],[]⟩:=by
 have k1:af.wrap 1=1:=rfl;have k2:af.wrap 2=2:=rfl;have y:af.wrap 3=3:=rfl;have h:af.wrap 4=4:=rfl;rw[an xjD];unfold orI
 by_cases C:a=0
 ·subst C
  by_cases z:b=0
  ·subst z
   by_cases F:c=0
   ·subst F
    by_cases E:d=0
    ·subst E
     simp only[go_sem,Q0,Q1,Q2,Q3,Q4,Q5,Q6,Q7,Q8,Q9,Qa,Qb,Qc,Qd,Qe,Qf,Qg,Qh,Qi,Qj,Qk,reduceCtorEq,reduceIte]
     iterate 5
      rw[ai];simp only[go_sem,Q0,Q1,Q2,Q3,Q4,Q5,Q6,Q7,Q8,Q9,Qa,Qb,Qc,Qd,Qe,Qf,Qg,Qh,Qi,Qj,Qk,reduceCtorEq,reduceIte,k1,k2,y,h]
    ·simp only[go_sem,Q0,Q1,Q2,Q3,Q4,Q5,Q6,Q7,Q8,Q9,Qa,Qb,Qc,Qd,Qe,Qf,Qg,Qh,Qi,Qj,Qk,reduceCtorEq,reduceIte]
     iterate 4
      rw[ai];simp only[go_sem,Q0,Q1,Q2,Q3,Q4,Q5,Q6,Q7,Q8,Q9,Qa,Qb,Qc,Qd,Qe,Qf,Qg,Qh,Qi,Qj,Qk,reduceCtorEq,reduceIte,k1,k2,y,h,E]
   ·simp only[go_sem,Q0,Q1,Q2,Q3,Q4,Q5,Q6,Q7,Q8,Q9,Qa,Qb,Qc,Qd,Qe,Qf,Qg,Qh,Qi,Qj,Qk,reduceCtorEq,reduceIte]
    iterate 3
     rw[ai];simp only[go_sem,Q0,Q1,Q2,Q3,Q4,Q5,Q6,Q7,Q8,Q9,Qa,Qb,Qc,Qd,Qe,Qf,Qg,Qh,Qi,Qj,Qk,reduceCtorEq,reduceIte,k1,k2,y,h,F]
  ·simp only[go_sem,Q0,Q1,Q2,Q3,Q4,Q5,Q6,Q7,Q8,Q9,Qa,Qb,Qc,Qd,Qe,Qf,Qg,Qh,Qi,Qj,Qk,reduceCtorEq,reduceIte]
   iterate 2
    rw[ai];simp only[go_sem,Q0,Q1,Q2,Q3,Q4,Q5,Q6,Q7,Q8,Q9,Qa,Qb,Qc,Qd,Qe,Qf,Qg,Qh,Qi,Qj,Qk,reduceCtorEq,reduceIte,k1,k2,y,h,z]
 ·simp only[go_sem,Q0,Q1,Q2,Q3,Q4,Q5,Q6,Q7,Q8,Q9,Qa,Qb,Qc,Qd,Qe,Qf,Qg,Qh,Qi,Qj,Qk,reduceCtorEq,reduceIte]
  rw[ai];simp only[go_sem,Q0,Q1,Q2,Q3,Q4,Q5,Q6,Q7,Q8,Q9,Qa,Qb,Qc,Qd,Qe,Qf,Qg,Qh,Qi,Qj,Qk,reduceCtorEq,reduceIte,k1,k2,y,h,C]
structure Ent where
 role:Int
 name:List UInt8
 ver:Int
 dig:List UInt8
def Ent.sv(x:Ent):LAa:=[.int .i64 x.role,.str x.name,.int .i64 x.ver,.byt x.dig .no]
def sK(x y:Ent):Int:=orI (rT x.role y.role) (Lib.compareBytes x.name y.name) (rT x.ver y.ver) (Lib.compareBytes x.dig y.dig)
theorem f43(x y:Ent):call T 43 [.agg x.sv,.agg y.sv] [] 0=some ⟨.int .i64 (sK x y),[],[]⟩:=by have F:=xlj x.role y.role;have E:=xnt x.name y.name;have z:=xlj x.ver y.ver;have C:=xns x.dig y.dig;have h:=xnu (rT x.role y.role) (Lib.compareBytes x.name y.name) (rT x.ver y.ver) (Lib.compareBytes x.dig y.dig);obtain⟨r,n,v,d⟩:=x;obtain⟨I,n2,H,d2⟩:=y;simp only[Ent.sv]at*;rw[an xok];unfold sK;simp only[go_sem,Q0,Q1,Q2,Q3,Q4,Q5,Q6,Q7,Q8,Q9,Qa,Qb,Qc,Qd,Qe,Qf,Qg,Qh,Qi,Qj,Qk,reduceCtorEq,reduceIte,F,xj2,E,xj1,z,C,xj0,h,xj3]
def lsF:t7->t7->Option Bool
 |a::x,b::y=>if a=b then lsF x y else some (decide (a<b))
 |_,_=>none
theorem u9:∀x y:t7,bF x y=match lsF x y with|some q=>q|none=>decide (x.length<y.length)
 |[],[]=>by simp[lsF,bF]
 |[],_::_=>by simp[lsF,bF]
 |_::_,[]=>by simp[lsF,bF]
 |a::x,b::y=>by
  unfold lsF bF
  by_cases h:a=b
  ·subst h
   rw[if_pos rfl,u9 x y];have:¬a<a:=UInt8.lt_irrefl a;simp[this]
  ·rw[if_neg h]
   simp[h]
theorem xmQ(a b:t7)(L:a.length<=1000000000000):∀(n i:Nat),a.length-i=n->i<=a.length->i<=b.length->
 run T (.loop yp) ⟨[(0,.byt a .no),(1,.byt b .no),(5,.int .i64 i)],[],[]⟩=
 match lsF (a.drop i) (b.drop i)with
 |some q=>some (.r,⟨[(4,.bool q)],[],[]⟩)
 |none=>some (.x 0,⟨[(0,.byt a .no),(1,.byt b .no)],[],[]⟩):=by
 intro n;induction n with
 |zero=>
  intro i H F E;have:i=a.length:=by omega
  subst this;have e:lsF [] (b.drop a.length)=none:=by unfold lsF;rfl
  rw[ai,ba,e];simp only[go_sem,Q0,Q1,Q2,Q3,Q4,Q5,Q6,Q7,Q8,Q9,Qa,Qb,Qc,Qd,Qe,Qf,Qg,Qh,Qi,Qj,Qk,reduceCtorEq,reduceIte]
 |succ n I=>
  intro i H F E;have hi:i<a.length:=by omega
  have C:=bW i (by omega);rw[ai,cH a i hi]
  by_cases y:i<b.length
  ·have z:=I (i+1) (by omega) (by omega) (by omega)
   rw[cH b i y];unfold lsF
   by_cases h:a.getD i 0=b.getD i 0
   ·rw[if_pos h]
    simp only[go_sem,Q0,Q1,Q2,Q3,Q4,Q5,Q6,Q7,Q8,Q9,Qa,Qb,Qc,Qd,Qe,Qf,Qg,Qh,Qi,Qj,Qk,reduceCtorEq,reduceIte,hi,y,C,h,z]
   ·rw[if_neg h]
    simp only[go_sem,Q0,Q1,Q2,Q3,Q4,Q5,Q6,Q7,Q8,Q9,Qa,Qb,Qc,Qd,Qe,Qf,Qg,Qh,Qi,Qj,Qk,reduceCtorEq,reduceIte,hi,y,C,h]
  ·have J:b.drop i=[]:=bo (by omega)
   have e:lsF (a.getD i 0::a.drop (i+1)) []=none:=by unfold lsF;rfl
   rw[J,e];simp only[go_sem,Q0,Q1,Q2,Q3,Q4,Q5,Q6,Q7,Q8,Q9,Qa,Qb,Qc,Qd,Qe,Qf,Qg,Qh,Qi,Qj,Qk,reduceCtorEq,reduceIte,hi,y]
theorem xnr(a b:t7)(y:a.length<=1000000000000):call T 108 [.byt a .no,.byt b .no] [] 0=some ⟨.bool (bF a b),[],[]⟩:=by
 have h:=xmQ a b y _ 0 rfl (by omega) (by omega);simp only[aB,aV]at h;rw[an xjz,u9];cases hq:lsF a b with
 |some q=>rw[hq]at h;simp only[go_sem,Q0,Q1,Q2,Q3,Q4,Q5,Q6,Q7,Q8,Q9,Qa,Qb,Qc,Qd,Qe,Qf,Qg,Qh,Qi,Qj,Qk,reduceCtorEq,reduceIte,h]
 |none=>rw[hq]at h;simp only[go_sem,Q0,Q1,Q2,Q3,Q4,Q5,Q6,Q7,Q8,Q9,Qa,Qb,Qc,Qd,Qe,Qf,Qg,Qh,Qi,Qj,Qk,reduceCtorEq,reduceIte,h]
def eG(x y:Ent):Bool:=if x.role=y.role then(if x.name=y.name then(if x.ver=y.ver then bF x.dig y.dig else decide (x.ver<y.ver))else bF x.name y.name)else decide (x.role<y.role)
theorem f46(x y:Ent)(H:x.dig.length<=1000000000000):call T 46 [.agg x.sv,.agg y.sv] [] 0=some ⟨.bool (eG x y),[],[]⟩:=by
 have g:=xnr x.dig y.dig H;obtain⟨r,n,v,d⟩:=x;obtain⟨F,n2,E,d2⟩:=y;simp only[Ent.sv]at*;rw[an xoh];unfold eG
 by_cases h:r=F
 ·by_cases z:n=n2
  ·by_cases C:v=E
   ·simp only[go_sem,Q0,Q1,Q2,Q3,Q4,Q5,Q6,Q7,Q8,Q9,Qa,Qb,Qc,Qd,Qe,Qf,Qg,Qh,Qi,Qj,Qk,reduceCtorEq,reduceIte,h,z,C,g,xjZ]
   ·simp only[go_sem,Q0,Q1,Q2,Q3,Q4,Q5,Q6,Q7,Q8,Q9,Qa,Qb,Qc,Qd,Qe,Qf,Qg,Qh,Qi,Qj,Qk,reduceCtorEq,reduceIte,h,z,C]
  ·simp only[go_sem,Q0,Q1,Q2,Q3,Q4,Q5,Q6,Q7,Q8,Q9,Qa,Qb,Qc,Qd,Qe,Qf,Qg,Qh,Qi,Qj,Qk,reduceCtorEq,reduceIte,h,z]
 ·simp only[go_sem,Q0,Q1,Q2,Q3,Q4,Q5,Q6,Q7,Q8,Q9,Qa,Qb,Qc,Qd,Qe,Qf,Qg,Qh,Qi,Qj,Qk,reduceCtorEq,reduceIte,h]
theorem eP:∀x y:t7,Lib.compareBytes x y<0↔bF x y=true
 |[],[]=>by simp[Lib.compareBytes,bF]
 |[],_::_=>by simp[Lib.compareBytes,bF]
 |_::_,[]=>by simp[Lib.compareBytes,bF]
 |a::x,b::y=>by
  unfold Lib.compareBytes bF;have E:=eP x y
  by_cases h:a<b
  ·simp[h]
  ·by_cases z:b<a
   ·have C:¬a=b:=by intro e;subst e;exact h z
    simp[h,z,C]
   ·have C:a=b:=UInt8.le_antisymm (UInt8.not_lt.1 z) (UInt8.not_lt.1 h)
    subst C;simp[h,E]
theorem iN:∀x y:t7,Lib.compareBytes x y=0↔x=y
 |[],[]=>by simp[Lib.compareBytes]
 |[],_::_=>by simp[Lib.compareBytes]
 |_::_,[]=>by simp[Lib.compareBytes]
 |a::x,b::y=>by
  unfold Lib.compareBytes;have E:=iN x y
  by_cases h:a<b
  ·have z:¬a=b:=by intro e;subst e;exact UInt8.lt_irrefl a h
   simp[h,z]
  ·by_cases C:b<a
   ·have z:¬a=b:=by intro e;subst e;exact h C
    simp[h,C,z]
   ·have z:a=b:=UInt8.le_antisymm (UInt8.not_lt.1 C) (UInt8.not_lt.1 h)
    subst z;simp[h,E]
theorem CC(a b:Int):rT a b<0↔a<b:=by
 unfold rT;repeat' split
 all_goals omega
theorem iM(a b:Int):rT a b=0↔a=b:=by
 unfold rT;repeat' split
 all_goals omega
theorem sJ(x y:Ent):sK x y<0↔eG x y=true:=by
 unfold sK orI eG
 by_cases z:x.role=y.role
 ·rw[if_neg (by simp[iM,z]),if_pos z]
  by_cases h:x.name=y.name
  ·rw[if_neg (by simp[iN,h]),if_pos h]
   by_cases C:x.ver=y.ver
   ·rw[if_neg (by simp[iM,C]),if_pos C];exact eP _ _
   ·rw[if_pos (by simp[iM,C]),if_neg C,decide_eq_true_eq];exact CC _ _
  ·rw[if_pos (by simp[iN,h]),if_neg h];exact eP _ _
 ·rw[if_pos (by simp[iM,z]),if_neg z,decide_eq_true_eq];exact CC _ _
theorem xm0(s:t7):call T 89 [.agg [.int .i64 1,.str s,.int .i64 0,.byt [] .no]] [] 0=some ⟨.int .i64 (if Pr.nameB s=true then 0 else 43),[],[]⟩:=by
 have g:=xfQ s;rw[an xfS];cases h:Pr.nameB s with
 |true=>rw[h]at g;simp only[go_sem,Q0,Q1,Q2,Q3,Q4,Q5,Q6,Q7,Q8,Q9,Qa,Qb,Qc,Qd,Qe,Qf,Qg,Qh,Qi,Qj,Qk,reduceCtorEq,reduceIte,g,kR]
 |false=>rw[h]at g;simp only[go_sem,Q0,Q1,Q2,Q3,Q4,Q5,Q6,Q7,Q8,Q9,Qa,Qb,Qc,Qd,Qe,Qf,Qg,Qh,Qi,Qj,Qk,reduceCtorEq,reduceIte,g,kR]
theorem f42(s:t7):call T 42 [.str s] [] 0=some ⟨.bool (Pr.nameB s),[],[]⟩:=by
 have g:=xm0 s;rw[an xol];cases h:Pr.nameB s with
 |true=>rw[h]at g;simp only[go_sem,Q0,Q1,Q2,Q3,Q4,Q5,Q6,Q7,Q8,Q9,Qa,Qb,Qc,Qd,Qe,Qf,Qg,Qh,Qi,Qj,Qk,reduceCtorEq,reduceIte,g,tx]
 |false=>rw[h]at g;simp only[go_sem,Q0,Q1,Q2,Q3,Q4,Q5,Q6,Q7,Q8,Q9,Qa,Qb,Qc,Qd,Qe,Qf,Qg,Qh,Qi,Qj,Qk,reduceCtorEq,reduceIte,g,tx]
structure Rul where
 kind:Int
 text:List UInt8
 lo:Int
 hi:Int
def Rul.sv(r:Rul):LAa:=[.int .i64 r.kind,.str r.text,.int .i64 r.lo,.int .i64 r.hi]
structure Man where
 vendor:List UInt8
 ver:Int
 flr:Int
 frm:Int
 til:Int
 ents:List Ent
 ruls:List Rul
def bP(l:List Ent):f8:=l.map Ent.sv
def dl(l:List Rul):f8:=l.map Rul.sv
def Man.sv(m:Man):LAa:=[.str m.vendor,.int .i64 m.ver,.int .i64 m.flr,.int .i64 m.frm,.int .i64 m.til,.lst 4 (bP m.ents) .no,.lst 4 (dl m.ruls) .no]
def en0:Ent:=⟨0,[],0,[]⟩
def rl0:Rul:=⟨0,[],0,0⟩
theorem bL(l:List Ent):(bP l).length=l.length:=aS ..
theorem cK(l:List Rul):(dl l).length=l.length:=aS ..
theorem df(l:List Ent)(i:Nat)(h:i<l.length):(bP l).getD i []=(l.getD i en0).sv:=by simp[bP,aa,h]
theorem gC(l:List Rul)(i:Nat)(h:i<l.length):(dl l).getD i []=(l.getD i rl0).sv:=by simp[dl,aa,h]
structure dV(m:Man):Prop where
 v:m.vendor.length<=1000000
 en:m.ents.length<=1000000
 rn:m.ruls.length<=1000000
 e:∀x∈m.ents,x.name.length<=1000000/\x.dig.length<=1000000
 r:∀x∈m.ruls,x.text.length<=1000000
theorem cf{α:Type}(l:List α)(d:α)(i:Nat)(h:i<l.length):l.getD i d∈l:=by rw[aa,ab h];exact bx _
def lG(l:List Ent)(i:Nat):Int:=
 if(l.getD i en0).role<1 then 1 else if 3<(l.getD i en0).role then 1 else if(l.getD i en0).ver<0 then 1 else if 1000000<(l.getD i en0).ver then 1
 else if((l.getD i en0).dig.length:Int)=32 then(if Pr.nameB (l.getD i en0).name=true then(if i=0 then 0 else if eG (l.getD (i-1) en0) (l.getD i en0)=true then 0 else 41)else 43)else 1
def gR(l:List Ent):Nat->Nat->Int
 |0,_=>0
 |n+1,i=>if lG l i=0 then gR l n (i+1)else lG l i
def ow(r:Rul):Int:=chk r.kind r.text r.lo r.hi
def hJ:List Rul->Int
 |[]=>0
 |r::t=>if ow r=0 then hJ t else ow r
def fj(m:Man):Int:=
 if Pr.nameB m.vendor=true then
  (if m.flr<0 then 1 else if m.ver<m.flr then 1 else if 1000000<m.ver then 1 else if m.frm<0 then 1 else if m.til<=m.frm then 1 else if 1099511627776<m.til then 1
  else if(16:Int)<m.ents.length then 4 else if(8:Int)<m.ruls.length then 4 else if gR m.ents m.ents.length 0=0 then hJ m.ruls else gR m.ents m.ents.length 0)
 else 43
def zJ(m:Man)(i:Nat):CSt:=⟨[(1,.ptr 101 0),(58,.lst 4 (bP m.ents) .no),(59,.int .i64 m.ents.length),(60,.int .i64 i)],[(101,.rc m.sv)],[]⟩
theorem s44(m:Man)(hm:dV m)(i:Nat)(hi:i<m.ents.length):
 (lG m.ents i=0->run T (.loop lO) (zJ m i)=run T (.loop lO) (zJ m (i+1)))/\
 (lG m.ents i≠0->∃ob,run T (.loop lO) (zJ m i)=some (.r,⟨[(2,.int .i64 (lG m.ents i))],ob,[]⟩)):=by
 have J:=bW i (by have:=hm.en;omega);have L:=bL m.ents;have O:=df m.ents i hi;have g1:=f42 (m.ents.getD i en0).name;have g2:=f43 (m.ents.getD (i-1) en0) (m.ents.getD i en0);have hb:=sJ (m.ents.getD (i-1) en0) (m.ents.getD i en0);have es:0<i->af.wrap ((i:Int)-1)=((i-1:Nat):Int):=fun h=>by rw[w64 (by omega) (by have:=hm.en;omega)];omega
 have W:i-1<m.ents.length:=by omega
 have a9:=df m.ents (i-1) W;unfold lG;obtain⟨mv,Q,U,m3,Z,z,rs⟩:=m;simp only[zJ,Man.sv]at*;generalize z.getD i en0=x at*;generalize z.getD (i-1) en0=y at*;obtain⟨r,n,v,d⟩:=x;obtain⟨r2,n2,v2,d2⟩:=y;simp only[Ent.sv]at*
 by_cases C:r<1
 ·refine⟨fun h=>by simp[C]at h,fun _=>⟨[(101,.rc [.str mv,.int .i64 Q,.int .i64 U,.int .i64 m3,.int .i64 Z,.lst 4 (bP z) .no,.lst 4 (dl rs) .no]),(104,.rc [.int .i64 r,.str n,.int .i64 v,.byt d .no])], ?_⟩⟩
  rw[ai];simp only[go_sem,Q0,Q1,Q2,Q3,Q4,Q5,Q6,Q7,Q8,Q9,Qa,Qb,Qc,Qd,Qe,Qf,Qg,Qh,Qi,Qj,Qk,reduceCtorEq,reduceIte,hi,J,L,O,C]
 by_cases E:3<r
 ·refine⟨fun h=>by simp[C,E]at h,fun _=>⟨[(101,.rc [.str mv,.int .i64 Q,.int .i64 U,.int .i64 m3,.int .i64 Z,.lst 4 (bP z) .no,.lst 4 (dl rs) .no]),(104,.rc [.int .i64 r,.str n,.int .i64 v,.byt d .no])], ?_⟩⟩
  rw[ai];simp only[go_sem,Q0,Q1,Q2,Q3,Q4,Q5,Q6,Q7,Q8,Q9,Qa,Qb,Qc,Qd,Qe,Qf,Qg,Qh,Qi,Qj,Qk,reduceCtorEq,reduceIte,hi,J,L,O,C,E]
 by_cases F:v<0
 ·refine⟨fun h=>by simp[C,E,F]at h,fun _=>⟨[(101,.rc [.str mv,.int .i64 Q,.int .i64 U,.int .i64 m3,.int .i64 Z,.lst 4 (bP z) .no,.lst 4 (dl rs) .no]),(104,.rc [.int .i64 r,.str n,.int .i64 v,.byt d .no])], ?_⟩⟩
  rw[ai];simp only[go_sem,Q0,Q1,Q2,Q3,Q4,Q5,Q6,Q7,Q8,Q9,Qa,Qb,Qc,Qd,Qe,Qf,Qg,Qh,Qi,Qj,Qk,reduceCtorEq,reduceIte,hi,J,L,O,C,E,F]
 by_cases H:1000000<v
 ·refine⟨fun h=>by simp[C,E,F,H]at h,fun _=>⟨[(101,.rc [.str mv,.int .i64 Q,.int .i64 U,.int .i64 m3,.int .i64 Z,.lst 4 (bP z) .no,.lst 4 (dl rs) .no]),(104,.rc [.int .i64 r,.str n,.int .i64 v,.byt d .no])], ?_⟩⟩
  rw[ai];simp only[go_sem,Q0,Q1,Q2,Q3,Q4,Q5,Q6,Q7,Q8,Q9,Qa,Qb,Qc,Qd,Qe,Qf,Qg,Qh,Qi,Qj,Qk,reduceCtorEq,reduceIte,hi,J,L,O,C,E,F,H]
 by_cases I:(d.length:Int)=32
 ·cases a6:Pr.nameB n with
  |false=>rw[a6]at g1;refine⟨fun h=>by simp[C,E,F,H,I,a6]at h,fun _=>⟨[(101,.rc [.str mv,.int .i64 Q,.int .i64 U,.int .i64 m3,.int .i64 Z,.lst 4 (bP z) .no,.lst 4 (dl rs) .no]),(104,.rc [.int .i64 r,.str n,.int .i64 v,.byt d .no])], ?_⟩⟩;rw[ai];simp only[go_sem,Q0,Q1,Q2,Q3,Q4,Q5,Q6,Q7,Q8,Q9,Qa,Qb,Qc,Qd,Qe,Qf,Qg,Qh,Qi,Qj,Qk,reduceCtorEq,reduceIte,hi,J,L,O,C,E,F,H,I,a6,g1,nh]
  |true=>
   rw[a6]at g1
   by_cases a7:i=0
   ·subst a7
    have hp:(0:Int)<z.length:=by omega
    have kw:af.wrap 1=1:=rfl;refine⟨fun _=> ?_,fun h=>by simp[C,E,F,H,I,a6]at h⟩;rw[ai];simp only[go_sem,Q0,Q1,Q2,Q3,Q4,Q5,Q6,Q7,Q8,Q9,Qa,Qb,Qc,Qd,Qe,Qf,Qg,Qh,Qi,Qj,Qk,reduceCtorEq,reduceIte,hi,hp,kw,J,L,O,C,E,F,H,I,a6,g1,nh]
   ·have hp:(0:Int)<(i:Nat):=by omega
    have a0:0<i:=by omega
    have b2:=es a0;cases a8:eG ⟨r2,n2,v2,d2⟩ ⟨r,n,v,d⟩with
    |true=>
     have h9:¬0<=sK ⟨r2,n2,v2,d2⟩ ⟨r,n,v,d⟩:=by have:=hb.2 a8;omega
     refine⟨fun _=> ?_,fun h=>by simp[C,E,F,H,I,a6,a7,a8]at h⟩;rw[ai];simp only[go_sem,Q0,Q1,Q2,Q3,Q4,Q5,Q6,Q7,Q8,Q9,Qa,Qb,Qc,Qd,Qe,Qf,Qg,Qh,Qi,Qj,Qk,reduceCtorEq,reduceIte,hi,hp,a0,W,b2,a9,J,L,O,C,E,F,H,I,a6,g1,nh,g2,Th,h9]
    |false=>
     have h9:0<=sK ⟨r2,n2,v2,d2⟩ ⟨r,n,v,d⟩:=by
      rcases Int.lt_or_le (sK ⟨r2,n2,v2,d2⟩ ⟨r,n,v,d⟩) 0 with h|h
      ·rw[hb.1 h]at a8;cases a8
      ·exact h
     refine⟨fun h=>by simp[C,E,F,H,I,a6,a7,a8]at h,fun _=>⟨[(101,.rc [.str mv,.int .i64 Q,.int .i64 U,.int .i64 m3,.int .i64 Z,.lst 4 (bP z) .no,.lst 4 (dl rs) .no]),(104,.rc [.int .i64 r,.str n,.int .i64 v,.byt d .no])], ?_⟩⟩;rw[ai];simp only[go_sem,Q0,Q1,Q2,Q3,Q4,Q5,Q6,Q7,Q8,Q9,Qa,Qb,Qc,Qd,Qe,Qf,Qg,Qh,Qi,Qj,Qk,reduceCtorEq,reduceIte,hi,hp,a0,W,b2,a9,J,L,O,C,E,F,H,I,a6,g1,nh,g2,Th,h9,a7,a8]
 ·refine⟨fun h=>by simp[C,E,F,H,I]at h,fun _=>⟨[(101,.rc [.str mv,.int .i64 Q,.int .i64 U,.int .i64 m3,.int .i64 Z,.lst 4 (bP z) .no,.lst 4 (dl rs) .no]),(104,.rc [.int .i64 r,.str n,.int .i64 v,.byt d .no])], ?_⟩⟩
  rw[ai];simp only[go_sem,Q0,Q1,Q2,Q3,Q4,Q5,Q6,Q7,Q8,Q9,Qa,Qb,Qc,Qd,Qe,Qf,Qg,Qh,Qi,Qj,Qk,reduceCtorEq,reduceIte,hi,J,L,O,C,E,F,H,I]
theorem l13(m:Man)(H:dV m):∀(n i:Nat),m.ents.length-i=n->i<=m.ents.length->
 (gR m.ents n i=0->run T (.loop lO) (zJ m i)=some (.x 1,⟨[(1,.ptr 101 0)],[(101,.rc m.sv)],[]⟩))/\
 (gR m.ents n i≠0->∃ob,run T (.loop lO) (zJ m i)=some (.r,⟨[(2,.int .i64 (gR m.ents n i))],ob,[]⟩)):=by
 intro n;induction n with
 |zero=>
  intro i I C;have:i=m.ents.length:=by omega
  subst this;refine⟨fun _=> ?_,fun h=>absurd rfl h⟩;rw[ai];simp only[zJ,go_sem,Q0,Q1,Q2,Q3,Q4,Q5,Q6,Q7,Q8,Q9,Qa,Qb,Qc,Qd,Qe,Qf,Qg,Qh,Qi,Qj,Qk,reduceCtorEq,reduceIte]
 |succ n J=>
  intro i I C;obtain⟨L,F⟩:=s44 m H i (by omega);obtain⟨E,y⟩:=J (i+1) (by omega) (by omega);unfold gR
  by_cases h:lG m.ents i=0
  ·rw[if_pos h,L h];exact⟨E,y⟩
  ·rw[if_neg h];exact⟨fun z=>absurd z h,F⟩
theorem xmL(m:Man)(Q:dV m)(ob:List (Nat×aC))(H:ob=[(101,.rc m.sv)]):∀(n i:Nat),m.ruls.length-i=n->i<=m.ruls.length->
 (hJ (m.ruls.drop i)=0->run T (.loop tP) ⟨[(111,.lst 4 (dl m.ruls) .no),(112,.int .i64 m.ruls.length),(113,.int .i64 i)],ob,[]⟩=some (.x 4,⟨[],ob,[]⟩))/\
 (hJ (m.ruls.drop i)≠0->∃z,run T (.loop tP) ⟨[(111,.lst 4 (dl m.ruls) .no),(112,.int .i64 m.ruls.length),(113,.int .i64 i)],ob,[]⟩=some (.r,⟨[(2,.int .i64 (hJ (m.ruls.drop i)))],z,[]⟩)):=by
 intro n;induction n with
 |zero=>
  intro i Z U;have:i=m.ruls.length:=by omega
  subst this;rw[ba];refine⟨fun _=> ?_,fun h=>absurd rfl h⟩;rw[ai];simp only[go_sem,Q0,Q1,Q2,Q3,Q4,Q5,Q6,Q7,Q8,Q9,Qa,Qb,Qc,Qd,Qe,Qf,Qg,Qh,Qi,Qj,Qk,reduceCtorEq,reduceIte]
 |succ n ih=>
  intro i Z U;have hi:i<m.ruls.length:=by omega
  obtain⟨i1,i2⟩:=ih (i+1) (by omega) (by omega);have E:=bW i (by have:=Q.rn;omega);have I:=cK m.ruls;have O:=gC m.ruls i hi;have hd:m.ruls.drop i=m.ruls.getD i rl0::m.ruls.drop (i+1):=by rw[aM hi,aa,ab hi];rfl
  have hb:=Q.r _ (cf m.ruls rl0 i hi);rw[hd];unfold hJ;generalize m.ruls.drop (i+1)=R at*;generalize m.ruls.getD i rl0=x at*;obtain⟨W,m1,m2,m3,m4,J,rs⟩:=m;obtain⟨k,t,lo,y⟩:=x;simp only[Man.sv,Rul.sv]at*;subst H;have g:=f44 k t lo y (by omega)
  by_cases h:ow ⟨k,t,lo,y⟩=0
  ·rw[if_pos h]
   unfold ow at h;simp only at h;rw[h]at g;refine⟨fun C=> ?_,fun C=> ?_⟩
   ·have L:=i1 C
    rw[ai];simp only[go_sem,Q0,Q1,Q2,Q3,Q4,Q5,Q6,Q7,Q8,Q9,Qa,Qb,Qc,Qd,Qe,Qf,Qg,Qh,Qi,Qj,Qk,reduceCtorEq,reduceIte,hi,E,I,O,g,tB,L]
   ·obtain⟨z,F⟩:=i2 C
    refine⟨z, ?_⟩;rw[ai];simp only[go_sem,Q0,Q1,Q2,Q3,Q4,Q5,Q6,Q7,Q8,Q9,Qa,Qb,Qc,Qd,Qe,Qf,Qg,Qh,Qi,Qj,Qk,reduceCtorEq,reduceIte,hi,E,I,O,g,tB,F]
  ·rw[if_neg h]
   unfold ow at h ⊢;simp only at h ⊢;refine⟨fun C=>absurd C h,fun C=>⟨[(101,.rc [.str W,.int .i64 m1,.int .i64 m2,.int .i64 m3,.int .i64 m4,.lst 4 (bP J) .no,.lst 4 (dl rs) .no]),(106,.rc [.int .i64 k,.str t,.int .i64 lo,.int .i64 y])], ?_⟩⟩;rw[ai];simp only[go_sem,Q0,Q1,Q2,Q3,Q4,Q5,Q6,Q7,Q8,Q9,Qa,Qb,Qc,Qd,Qe,Qf,Qg,Qh,Qi,Qj,Qk,reduceCtorEq,reduceIte,hi,E,I,O,g,tB,h]
theorem f13(m:Man)(hm:dV m):call T 13 [.agg m.sv] [] 0=some ⟨.int .i64 (fj m),[],[]⟩:=by
 have h:=f42 m.vendor;obtain⟨l1,l2⟩:=l13 m hm _ 0 rfl (by omega);obtain⟨r1,r2⟩:=xmL m hm _ rfl _ 0 rfl (by omega);have L:=bL m.ents;have W:=cK m.ruls;obtain⟨mv,m1,m2,m3,m4,H,rs⟩:=m;simp only[zJ,Man.sv,aB,aV,Nat.sub_zero]at*;rw[an xoE];unfold fj;simp only;cases a0:Pr.nameB mv with
 |false=>rw[a0]at h;simp only[go_sem,Q0,Q1,Q2,Q3,Q4,Q5,Q6,Q7,Q8,Q9,Qa,Qb,Qc,Qd,Qe,Qf,Qg,Qh,Qi,Qj,Qk,reduceCtorEq,reduceIte,h,nh,a0]
 |true=>
  rw[a0]at h
  by_cases y:m2<0
  ·simp only[go_sem,Q0,Q1,Q2,Q3,Q4,Q5,Q6,Q7,Q8,Q9,Qa,Qb,Qc,Qd,Qe,Qf,Qg,Qh,Qi,Qj,Qk,reduceCtorEq,reduceIte,h,nh,a0,y]
  by_cases z:m1<m2
  ·simp only[go_sem,Q0,Q1,Q2,Q3,Q4,Q5,Q6,Q7,Q8,Q9,Qa,Qb,Qc,Qd,Qe,Qf,Qg,Qh,Qi,Qj,Qk,reduceCtorEq,reduceIte,h,nh,a0,y,z]
  by_cases C:1000000<m1
  ·simp only[go_sem,Q0,Q1,Q2,Q3,Q4,Q5,Q6,Q7,Q8,Q9,Qa,Qb,Qc,Qd,Qe,Qf,Qg,Qh,Qi,Qj,Qk,reduceCtorEq,reduceIte,h,nh,a0,y,z,C]
  by_cases E:m3<0
  ·simp only[go_sem,Q0,Q1,Q2,Q3,Q4,Q5,Q6,Q7,Q8,Q9,Qa,Qb,Qc,Qd,Qe,Qf,Qg,Qh,Qi,Qj,Qk,reduceCtorEq,reduceIte,h,nh,a0,y,z,C,E]
  by_cases F:m4<=m3
  ·simp only[go_sem,Q0,Q1,Q2,Q3,Q4,Q5,Q6,Q7,Q8,Q9,Qa,Qb,Qc,Qd,Qe,Qf,Qg,Qh,Qi,Qj,Qk,reduceCtorEq,reduceIte,h,nh,a0,y,z,C,E,F]
  by_cases I:1099511627776<m4
  ·simp only[go_sem,Q0,Q1,Q2,Q3,Q4,Q5,Q6,Q7,Q8,Q9,Qa,Qb,Qc,Qd,Qe,Qf,Qg,Qh,Qi,Qj,Qk,reduceCtorEq,reduceIte,h,nh,a0,y,z,C,E,F,I]
  by_cases J:(16:Int)<H.length
  ·simp only[go_sem,Q0,Q1,Q2,Q3,Q4,Q5,Q6,Q7,Q8,Q9,Qa,Qb,Qc,Qd,Qe,Qf,Qg,Qh,Qi,Qj,Qk,reduceCtorEq,reduceIte,h,nh,a0,y,z,C,E,F,I,J,L]
  by_cases U:(8:Int)<rs.length
  ·simp only[go_sem,Q0,Q1,Q2,Q3,Q4,Q5,Q6,Q7,Q8,Q9,Qa,Qb,Qc,Qd,Qe,Qf,Qg,Qh,Qi,Qj,Qk,reduceCtorEq,reduceIte,h,nh,a0,y,z,C,E,F,I,J,U,L,W]
  by_cases Q:gR H H.length 0=0
  ·have O:=l1 Q
   by_cases b0:hJ rs=0
   ·have Z:=r1 b0
    simp only[go_sem,Q0,Q1,Q2,Q3,Q4,Q5,Q6,Q7,Q8,Q9,Qa,Qb,Qc,Qd,Qe,Qf,Qg,Qh,Qi,Qj,Qk,reduceCtorEq,reduceIte,h,nh,a0,y,z,C,E,F,I,J,U,L,W,O,Q,Z,b0]
   ·obtain⟨ob,b2⟩:=r2 b0
    simp only[go_sem,Q0,Q1,Q2,Q3,Q4,Q5,Q6,Q7,Q8,Q9,Qa,Qb,Qc,Qd,Qe,Qf,Qg,Qh,Qi,Qj,Qk,reduceCtorEq,reduceIte,h,nh,a0,y,z,C,E,F,I,J,U,L,W,O,Q,b2]
  ·obtain⟨ob,b3⟩:=l2 Q
   simp only[go_sem,Q0,Q1,Q2,Q3,Q4,Q5,Q6,Q7,Q8,Q9,Qa,Qb,Qc,Qd,Qe,Qf,Qg,Qh,Qi,Qj,Qk,reduceCtorEq,reduceIte,h,nh,a0,y,z,C,E,F,I,J,U,L,W,b3,Q]
section
open SortT
theorem vz:∀a:t7,Lib.compareBytes a a=0
 |[]=>rfl
 |x::r=>by have h:=vz r;simp[Lib.compareBytes,h]
theorem OT:∀a b c:t7,Lib.compareBytes a b<0->Lib.compareBytes b c<0->Lib.compareBytes a c<0
 |[],[],_,h,_=>by simp[Lib.compareBytes]at h
 |[],_::_,[],_,k=>by simp[Lib.compareBytes]at k
 |[],_::_,_::_,_,_=>by simp[Lib.compareBytes]
 |_::_,[],_,h,_=>by simp[Lib.compareBytes]at h
 |_::_,_::_,[],_,k=>by simp[Lib.compareBytes]at k
 |x::r,y::s,z::t,h,k=>by
  have U:=OT r s t;unfold Lib.compareBytes at h k ⊢;have H:(x<y)=(x.toNat<y.toNat):=rfl;have T:(y<z)=(y.toNat<z.toNat):=rfl;have I:(x<z)=(x.toNat<z.toNat):=rfl;have Q:(y<x)=(y.toNat<x.toNat):=rfl;have L:(z<y)=(z.toNat<y.toNat):=rfl;have O:(z<x)=(z.toNat<x.toNat):=rfl;simp only[H,T,I,Q,L,O]at h k ⊢
  by_cases J:x.toNat<y.toNat
  ·by_cases E:y.toNat<z.toNat
   ·rw[if_pos (by omega)];decide
   ·rw[if_neg E]at k
    by_cases C:z.toNat<y.toNat
    ·rw[if_pos C]at k;exact absurd k (by decide)
    ·rw[if_pos (by omega)];decide
  ·rw[if_neg J]at h
   by_cases F:y.toNat<x.toNat
   ·rw[if_pos F]at h;exact absurd h (by decide)
   ·rw[if_neg F]at h
    by_cases E:y.toNat<z.toNat
    ·rw[if_pos (by omega)];decide
    ·rw[if_neg E]at k
     by_cases C:z.toNat<y.toNat
     ·rw[if_pos C]at k;exact absurd k (by decide)
     ·rw[if_neg C]at k
      rw[if_neg (by omega),if_neg (by omega)];exact U h k
theorem vB:∀{a b:t7},¬Lib.compareBytes a b<0->¬Lib.compareBytes a b=0->Lib.compareBytes b a<0
 |[],[],_,k=>absurd rfl k
 |[],_::_,h,_=>absurd (by simp[Lib.compareBytes]) h
 |_::_,[],_,_=>by simp[Lib.compareBytes]
 |x::r,y::s,h,k=>by
  unfold Lib.compareBytes at h k ⊢
  by_cases C:x<y
  ·rw[if_pos C]at h;exact absurd (by decide) h
  ·rw[if_neg C]at h k
   by_cases z:y<x
   ·rw[if_pos z];decide
   ·rw[if_neg z]at h k
    rw[if_neg z,if_neg C];exact vB h k
theorem yz(a:t7):¬bF a a=true:=fun h=>by have:=(eP a a).2 h;rw[vz]at this;omega
theorem xau{a b c:t7}(h:bF a b=true)(k:bF b c=true):bF a c=true:=(eP _ _).1 (OT _ _ _ ((eP _ _).2 h) ((eP _ _).2 k))
theorem OU{a b:t7}(h:¬bF a b=true)(k:¬bF b a=true):a=b:=by refine(iN a b).1 (Classical.byContradiction fun e=> ?_);exact k ((eP _ _).1 (vB (fun y=>h ((eP _ _).1 y)) e))
theorem s8(x y:Ent):eG x y=true↔x.role<y.role\/(x.role=y.role/\(bF x.name y.name=true\/(x.name=y.name/\(x.ver<y.ver\/(x.ver=y.ver/\bF x.dig y.dig=true))))):=by
 unfold eG
 by_cases C:x.role=y.role
 ·rw[if_pos C]
  by_cases z:x.name=y.name
  ·rw[if_pos z]
   have n2:¬bF x.name y.name=true:=by rw[z];exact yz _
   by_cases E:x.ver=y.ver
   ·rw[if_pos E]
    constructor
    ·intro h;exact .inr ⟨C,.inr ⟨z,.inr ⟨E,h⟩⟩⟩
    ·rintro(h|⟨-,h|⟨-,h|⟨-,h⟩⟩⟩)
     ·omega
     ·exact absurd h n2
     ·omega
     ·exact h
   ·rw[if_neg E,decide_eq_true_eq]
    constructor
    ·intro h;exact .inr ⟨C,.inr ⟨z,.inl h⟩⟩
    ·rintro(h|⟨-,h|⟨-,h|⟨h, -⟩⟩⟩)
     ·omega
     ·exact absurd h n2
     ·exact h
     ·exact absurd h E
  ·rw[if_neg z]
   constructor
   ·intro h;exact .inr ⟨C,.inl h⟩
   ·rintro(h|⟨-,h|⟨h, -⟩⟩)
    ·omega
    ·exact h
    ·exact absurd h z
 ·rw[if_neg C,decide_eq_true_eq]
  constructor
  ·intro h;exact .inl h
  ·rintro(h|⟨h, -⟩)
   ·exact h
   ·exact absurd h C
theorem qJ:SO eG where
 irr:=fun x=>by
  cases h:eG x x with
  |false=>rfl
  |true=>
   rcases (s8 x x).1 h with h|⟨-,h|⟨-,h|⟨-,h⟩⟩⟩
   ·omega
   ·exact absurd h (yz _)
   ·omega
   ·exact absurd h (yz _)
 tr:=fun x y z E C=>by
  rw[s8]at E C ⊢;rcases E with E|⟨F,E⟩
  ·rcases C with C|⟨H,C⟩
   ·left;omega
   ·left;omega
  ·rcases C with C|⟨H,C⟩
   ·left;omega
   ·refine .inr ⟨F.trans H, ?_⟩
    rcases E with E|⟨n1,E⟩
    ·rcases C with C|⟨n2,C⟩
     ·exact .inl (xau E C)
     ·rw[n2]at E;exact .inl E
    ·rcases C with C|⟨n2,C⟩
     ·rw[<-n1]at C;exact .inl C
     ·refine .inr ⟨n1.trans n2, ?_⟩
      rcases E with E|⟨v1,E⟩
      ·rcases C with C|⟨J,C⟩
       ·left;omega
       ·left;omega
      ·rcases C with C|⟨J,C⟩
       ·left;omega
       ·exact .inr ⟨v1.trans J,xau E C⟩
 tri:=fun x y E C=>by
  have n1:¬eG x y=true:=by rw[E];simp
  have n2:¬eG y x=true:=by rw[C];simp
  rw[s8]at n1 n2
  have F:x.role=y.role:=by
   have a:¬x.role<y.role:=fun h=>n1 (.inl h)
   have b:¬y.role<x.role:=fun h=>n2 (.inl h)
   omega
  have H:x.name=y.name:=OU (fun h=>n1 (.inr ⟨F,.inl h⟩)) (fun h=>n2 (.inr ⟨F.symm,.inl h⟩))
  have I:x.ver=y.ver:=by
   have a:¬x.ver<y.ver:=fun h=>n1 (.inr ⟨F,.inr ⟨H,.inl h⟩⟩)
   have b:¬y.ver<x.ver:=fun h=>n2 (.inr ⟨F.symm,.inr ⟨H.symm,.inl h⟩⟩)
   omega
  have L:x.dig=y.dig:=OU (fun h=>n1 (.inr ⟨F,.inr ⟨H,.inr ⟨I,h⟩⟩⟩)) (fun h=>n2 (.inr ⟨F.symm,.inr ⟨H.symm,.inr ⟨I.symm,h⟩⟩⟩));obtain⟨r,n,v,d⟩:=x;obtain⟨O,n2,J,d2⟩:=y;simp only at F H I L;subst F;subst H;subst I;subst L;rfl
def eqE(x y:Ent):Bool:=decide (sK x y=0)
theorem Sv(x y:Ent):eqE x y=true↔x=y:=by
 unfold eqE;rw[decide_eq_true_eq];constructor
 ·intro h
  have L:¬eG x y=true:=fun k=>by have:=(sJ x y).2 k;omega
  refine qJ.tri x y (by simpa using L) ?_;unfold sK orI at h;obtain⟨r,n,v,d⟩:=x;obtain⟨O,n2,Q,d2⟩:=y;simp only at h
  by_cases z:rT r O=0
  ·rw[if_neg (by simp[z])]at h
   by_cases E:Lib.compareBytes n n2=0
   ·rw[if_neg (by simp[E])]at h
    by_cases C:rT v Q=0
    ·rw[if_neg (by simp[C])]at h
     have F:=(iM _ _).1 z;have H:=(iN _ _).1 E;have I:=(iM _ _).1 C;have J:=(iN _ _).1 h;subst F;subst H;subst I;subst J;exact qJ.irr _
    ·rw[if_pos C]at h;exact absurd h C
   ·rw[if_pos E]at h;exact absurd h E
  ·rw[if_pos z]at h;exact absurd h z
 ·rintro rfl
  unfold sK orI;have F:=(iM x.role x.role).2 rfl;have H:=(iN x.name x.name).2 rfl;have I:=(iM x.ver x.ver).2 rfl;have J:=(iN x.dig x.dig).2 rfl;rw[F,H,I,J];rfl
structure pu(x:Ent):Prop where
 r1:1<=x.role
 r3:x.role<=3
 v0:0<=x.ver
 v1:x.ver<=1000000
 d:x.dig.length=32
 n:Pr.nameB x.name=true
theorem Gg{l:List Ent}(h:∀x∈l,pu x)(z:Str eG l)(i:Nat)(hi:i<l.length):lG l i=0:=by
 obtain⟨H,F,I,L,J,C⟩:=h _ (cf l en0 i hi);unfold lG;rw[if_neg (by omega),if_neg (by omega),if_neg (by omega),if_neg (by omega),if_pos (by omega),if_pos C]
 by_cases y:i=0
 ·rw[if_pos y]
 ·have E:eG (l.getD (i-1) en0) (l.getD i en0)=true:=by
   have:=nY.1 z (i-1) i (by omega) hi (by omega);rw[aa,aa,ab (by omega),ab hi];exact this
  rw[if_neg y,if_pos E]
theorem rL{l:List Ent}(h:∀x∈l,pu x)(y:Str eG l):∀(n i:Nat),i+n<=l.length->gR l n i=0
 |0,_,_=>rfl
 |n+1,i,hi=>by unfold gR;rw[if_pos (Gg h y i (by omega))];exact rL h y n (i+1) (by omega)
theorem rh:∀{l:List Rul},(∀r∈l,ow r=0)->hJ l=0
 |[],_=>rfl
 |r::t,h=>by unfold hJ;rw[if_pos (h r ax)];exact rh fun x y=>h x (am _ y)
theorem i7{m:Man}(y:Pr.nameB m.vendor=true)(F:0<=m.flr)(H:m.flr<=m.ver)(O:m.ver<=1000000)(L:0<=m.frm)(I:m.frm<m.til)(E:m.til<=1099511627776)(J:m.ents.length<=16)(Q:m.ruls.length<=8)
 (C:∀x∈m.ents,pu x) (z:Str eG m.ents) (h:∀r∈m.ruls,ow r=0):fj m=0:=by
 unfold fj;rw[if_pos y,if_neg (by omega),if_neg (by omega),if_neg (by omega),if_neg (by omega),if_neg (by omega),if_neg (by omega),if_neg (by omega),if_neg (by omega),if_pos (rL C z _ 0 (by omega))];exact rh h
end
section
open SortT
theorem lq(n:Int):(ct n).toNat<cs0.length:=by have:cs0.length=256:=rfl;have:=(ct n).toNat_lt;omega
theorem xiD(n:Nat)(hn:n<=12):∃k:Int,call T 167 [.int .u64 n] [] 0=some ⟨.int .i64 k,[],[]⟩:=by
 have z:¬(4294967296:Int)<=n:=by omega
 have h:¬(65536:Int)<=n:=by omega
 have C:¬(256:Int)<=n:=by omega
 have y:=lq (n:Int);rw[an xaE];simp only[go_sem,Q0,Q1,Q2,Q3,Q4,Q5,Q6,Q7,Q8,Q9,Qa,Qb,Qc,Qd,Qe,Qf,Qg,Qh,Qi,Qj,Qk,reduceCtorEq,reduceIte,z,h,C,y];exact⟨_,rfl⟩
theorem xld(n:Nat)(hn:n<=12):∃k:Int,call T 136 [.int .u64 n] [] 0=some ⟨.int .i64 k,[],[]⟩:=by obtain⟨k,g⟩:=xiD n hn;refine⟨k, ?_⟩;rw[an xjc];simp only[go_sem,Q0,Q1,Q2,Q3,Q4,Q5,Q6,Q7,Q8,Q9,Qa,Qb,Qc,Qd,Qe,Qf,Qg,Qh,Qi,Qj,Qk,reduceCtorEq,reduceIte,g,jQ]
theorem pV(L:List Ent)(i:Nat)(x:Ent):bP (L.set i x)=(bP L).set i x.sv:=by unfold bP;rw[List.map_set]
def D4(L:List Ent)(i j:Nat):CSt:=⟨[(0,.psl 0 4 0 L.length none),(1,.int .i64 0),(2,.int .i64 L.length),(3,.fn 43 [] []),(8,.int .i64 i),(9,.int .i64 j)],[(0,.arr 4 (bP L))],[]⟩
theorem xmG(i:Nat):∀(j:Nat)(L:List Ent),j<L.length->L.length<=1000000->
 run T (.loop x9) (D4 L i j)=some (.x 2,⟨[(0,.psl 0 4 0 L.length none),(1,.int .i64 0),(2,.int .i64 L.length),(3,.fn 43 [] []),(8,.int .i64 i)],[(0,.arr 4 (bP (bub eG en0 j L)))],[]⟩):=by
 intro j;induction j with
 |zero=>intro L J hn;rw[D4,ai];simp only[go_sem,Q0,Q1,Q2,Q3,Q4,Q5,Q6,Q7,Q8,Q9,Qa,Qb,Qc,Qd,Qe,Qf,Qg,Qh,Qi,Qj,Qk,reduceCtorEq,reduceIte,bub,aB,Int.lt_irrefl]
 |succ j ih=>
  intro L J hn;have Z:=bL L;have W:(0:Int)<((j+1:Nat):Int):=by omega
  have Q:af.wrap (((j+1:Nat):Int)-1)=(j:Int):=wZ (by omega)
  have C:j<L.length:=by omega
  have H:=df L (j+1) J;have O:=df L j C;have g:=f43 (L.getD (j+1) en0) (L.getD j en0);have F:=sJ (L.getD (j+1) en0) (L.getD j en0);have z:=ih (swp en0 L (j+1)) (by rw[od];exact C) (by rw[od];exact hn);unfold bub;unfold D4 at z ⊢;rw[od]at z;unfold swp at z ⊢;rw[jE]at z ⊢;rw[pV,pV]at z;generalize L.getD (j+1) en0=x at*;generalize L.getD j en0=y at*;obtain⟨x1,x2,x3,x4⟩:=x;obtain⟨y1,y2,U,y4⟩:=y
  by_cases I:eG ⟨x1,x2,x3,x4⟩ ⟨y1,y2,U,y4⟩=true
  ·rw[if_pos I]
   have E:=F.2 I;simp only[Ent.sv]at g H O z;rw[ai];simp only[go_sem,Q0,Q1,Q2,Q3,Q4,Q5,Q6,Q7,Q8,Q9,Qa,Qb,Qc,Qd,Qe,Qf,Qg,Qh,Qi,Qj,Qk,reduceCtorEq,reduceIte,W,Q,Z,J,C,H,O,g,Th,E,cB,z]
  ·rw[if_neg I]
   have E:¬sK ⟨x1,x2,x3,x4⟩ ⟨y1,y2,U,y4⟩<0:=fun h=>I (F.1 h)
   simp only[Ent.sv]at g H O;rw[ai];simp only[go_sem,Q0,Q1,Q2,Q3,Q4,Q5,Q6,Q7,Q8,Q9,Qa,Qb,Qc,Qd,Qe,Qf,Qg,Qh,Qi,Qj,Qk,reduceCtorEq,reduceIte,W,Q,Z,J,C,H,O,g,Th,E]
theorem xij:∀(m i:Nat)(L:List Ent),i+m=L.length->L.length<=1000000->
 run T (.loop x8) ⟨[(0,.psl 0 4 0 L.length none),(1,.int .i64 0),(2,.int .i64 L.length),(3,.fn 43 [] []),(8,.int .i64 i)],[(0,.arr 4 (bP L))],[]⟩=
  some (.x 0,⟨[],[(0,.arr 4 (bP (isr eG en0 m i L)))],[]⟩):=by
 intro m;induction m with
 |zero=>
  intro i L E hn;have:i=L.length:=by omega
  subst this;rw[ai];simp only[go_sem,Q0,Q1,Q2,Q3,Q4,Q5,Q6,Q7,Q8,Q9,Qa,Qb,Qc,Qd,Qe,Qf,Qg,Qh,Qi,Qj,Qk,reduceCtorEq,reduceIte,isr,Int.lt_irrefl]
 |succ m F=>
  intro i L E hn;have hi:i<L.length:=by omega
  have y:(i:Int)<(L.length:Int):=by omega
  have C:=bW i (by omega);have z:=xmG i i L hi hn;unfold D4 at z;have h:=F (i+1) (bub eG en0 i L) (by rw[mB];omega) (by rw[mB];exact hn);rw[mB]at h;unfold isr;rw[ai];simp only[go_sem,Q0,Q1,Q2,Q3,Q4,Q5,Q6,Q7,Q8,Q9,Qa,Qb,Qc,Qd,Qe,Qf,Qg,Qh,Qi,Qj,Qk,reduceCtorEq,reduceIte,hi,y,C,z,h]
theorem xm7(L:List Ent)(y:0<L.length)(hn:L.length<=1000000):
 call T 158 [.psl 0 4 0 L.length none,.int .i64 0,.int .i64 L.length,.fn 43 [] []] [.arr 4 (bP L)] 0=some ⟨.tup [],[(0,.arr 4 (bP (isr eG en0 (L.length-1) 1 L)))],[]⟩:=by
 have h:=xij (L.length-1) 1 L (by omega) hn;have k1:af.wrap 1=1:=rfl;rw[show((1:Nat):Int)=1 from rfl]at h;rw[an xaF];simp only[go_sem,Q0,Q1,Q2,Q3,Q4,Q5,Q6,Q7,Q8,Q9,Qa,Qb,Qc,Qd,Qe,Qf,Qg,Qh,Qi,Qj,Qk,reduceCtorEq,reduceIte,k1,h]
theorem xng(L:List Ent)(z:0<L.length)(hn:L.length<=12)(k:Int):
 call T 135 [.psl 0 4 0 L.length none,.int .i64 0,.int .i64 L.length,.int .i64 k,.fn 43 [] []] [.arr 4 (bP L)] 0=some ⟨.tup [],[(0,.arr 4 (bP (isr eG en0 (L.length-1) 1 L)))],[]⟩:=by
 have g:=xm7 L z (by omega);have y:af.wrap ((L.length:Int)-0)=(L.length:Int):=wZ (by omega)
 have h:(L.length:Int)<=12:=by omega
 rw[an xaG];simp only[go_sem,Q0,Q1,Q2,Q3,Q4,Q5,Q6,Q7,Q8,Q9,Qa,Qb,Qc,Qd,Qe,Qf,Qg,Qh,Qi,Qj,Qk,reduceCtorEq,reduceIte];rw[ai];simp only[go_sem,Q0,Q1,Q2,Q3,Q4,Q5,Q6,Q7,Q8,Q9,Qa,Qb,Qc,Qd,Qe,Qf,Qg,Qh,Qi,Qj,Qk,reduceCtorEq,reduceIte,y,h,hn,g,xaV]
theorem f92(L:List Ent)(y:0<L.length)(hn:L.length<=12):
 call T 92 [.psl 0 4 0 L.length none,.fn 43 [] []] [.arr 4 (bP L)] 0=some ⟨.tup [],[(0,.arr 4 (bP (isr eG en0 (L.length-1) 1 L)))],[]⟩:=by
 obtain⟨k,C⟩:=xld L.length hn;have z:=xng L y hn k;have h:aQ.wrap (L.length:Int)=(L.length:Int):=by rw[bK];omega
 rw[an xls];simp only[go_sem,Q0,Q1,Q2,Q3,Q4,Q5,Q6,Q7,Q8,Q9,Qa,Qb,Qc,Qd,Qe,Qf,Qg,Qh,Qi,Qj,Qk,reduceCtorEq,reduceIte,h,C,xaY,z,xaZ]
theorem xiE:call T 158 [.lst 4 [] .no,.int .i64 0,.int .i64 0,.fn 43 [] []] [] 0=some ⟨.tup [],[],[]⟩:=by have k1:af.wrap 1=1:=rfl;rw[an xaF];simp only[go_sem,Q0,Q1,Q2,Q3,Q4,Q5,Q6,Q7,Q8,Q9,Qa,Qb,Qc,Qd,Qe,Qf,Qg,Qh,Qi,Qj,Qk,reduceCtorEq,reduceIte,k1];rw[ai];simp only[go_sem,Q0,Q1,Q2,Q3,Q4,Q5,Q6,Q7,Q8,Q9,Qa,Qb,Qc,Qd,Qe,Qf,Qg,Qh,Qi,Qj,Qk,reduceCtorEq,reduceIte,k1]
theorem xmX:call T 92 [.lst 4 [] .no,.fn 43 [] []] [] 0=some ⟨.tup [],[],[]⟩:=by
 obtain⟨k,z⟩:=xld 0 (by omega);have C:=xiE;have y:af.wrap 0=0:=rfl;have h:aQ.wrap 0=0:=rfl;rw[aB]at z
 have E:call T 135 [.lst 4 [] .no,.int .i64 0,.int .i64 0,.int .i64 k,.fn 43 [] []] [] 0=some ⟨.tup [],[],[]⟩:=by rw[an xaG];simp only[go_sem,Q0,Q1,Q2,Q3,Q4,Q5,Q6,Q7,Q8,Q9,Qa,Qb,Qc,Qd,Qe,Qf,Qg,Qh,Qi,Qj,Qk,reduceCtorEq,reduceIte];rw[ai];simp only[go_sem,Q0,Q1,Q2,Q3,Q4,Q5,Q6,Q7,Q8,Q9,Qa,Qb,Qc,Qd,Qe,Qf,Qg,Qh,Qi,Qj,Qk,reduceCtorEq,reduceIte,y,C,xaV]
 rw[an xls];simp only[go_sem,Q0,Q1,Q2,Q3,Q4,Q5,Q6,Q7,Q8,Q9,Qa,Qb,Qc,Qd,Qe,Qf,Qg,Qh,Qi,Qj,Qk,reduceCtorEq,reduceIte,y,h,z,xaY,E,xaZ,aB]
theorem f94(x y:Ent):call T 94 [.agg x.sv,.agg y.sv] [] 0=some ⟨.bool (eqE x y),[],[]⟩:=by have g:=f43 x y;obtain⟨r,n,v,d⟩:=x;obtain⟨z,n2,h,d2⟩:=y;simp only[Ent.sv]at*;rw[an xnJ];unfold eqE;simp only[go_sem,Q0,Q1,Q2,Q3,Q4,Q5,Q6,Q7,Q8,Q9,Qa,Qb,Qc,Qd,Qe,Qf,Qg,Qh,Qi,Qj,Qk,reduceCtorEq,reduceIte,g,Th]
theorem xmn(n:Nat)(hn:n<=1000)(h:Nat):∀(m:Nat)(B:List Ent)(k k2:Nat),B.length=n->h+k2+m=n->1<=k2->k<h+k2->
 run T (.loop xG) ⟨[(0,.psl 0 4 0 n none),(1,.fn 94 [] []),(5,.int .i64 k),(6,.psl 0 4 h (n-h) none),(7,.int .i64 k2)],[(0,.arr 4 (bP B))],[]⟩=
  some (.x 2,⟨[(0,.psl 0 4 0 n none),(5,.int .i64 ((inn eqE en0 m B k (h+k2)).2:Nat))],[(0,.arr 4 (bP (inn eqE en0 m B k (h+k2)).1))],[]⟩):=by
 intro m;induction m with
 |zero=>
  intro B k k2 J h2 h3 h4;have:¬k2<n-h:=by omega
  rw[ai];simp only[go_sem,Q0,Q1,Q2,Q3,Q4,Q5,Q6,Q7,Q8,Q9,Qa,Qb,Qc,Qd,Qe,Qf,Qg,Qh,Qi,Qj,Qk,reduceCtorEq,reduceIte,inn,this]
 |succ m ih=>
  intro B k k2 J h2 h3 h4;have Z:k2<n-h:=by omega
  have F:k2-1<n-h:=by omega
  have Q:h+k2<B.length:=by omega
  have C:h+(k2-1)<B.length:=by omega
  have W:=bL B;have H:=df B (h+k2) Q;have L:=df B (h+(k2-1)) C;have U:af.wrap ((k2:Int)-1)=((k2-1:Nat):Int):=wZ (by omega)
  have e2:=bW k2 (by omega);have e3:=bW k (by omega);have g:=f94 (B.getD (h+k2) en0) (B.getD (h+(k2-1)) en0);have E:=ih B k (k2+1) J (by omega) (by omega) (by omega);have z:=ih (B.set k (B.getD (h+k2) en0)) (k+1) (k2+1) (by rw[cB];exact J) (by omega) (by omega) (by omega);have I:h+k2-1=h+(k2-1):=by omega
  have hk:k<B.length:=by omega
  have O:k<n:=by omega
  unfold inn;rw[I];rw[pV]at z;rw[show h+(k2+1)=h+k2+1 from by omega]at E z;generalize B.getD (h+k2) en0=x at*;generalize B.getD (h+(k2-1)) en0=y at*;obtain⟨x1,x2,x3,x4⟩:=x;obtain⟨y1,y2,y3,y4⟩:=y;simp only[Ent.sv]at g H L z;cases hq:eqE ⟨x1,x2,x3,x4⟩ ⟨y1,y2,y3,y4⟩with
  |true=>rw[hq]at g;rw[if_pos rfl];rw[ai];simp only[go_sem,Q0,Q1,Q2,Q3,Q4,Q5,Q6,Q7,Q8,Q9,Qa,Qb,Qc,Qd,Qe,Qf,Qg,Qh,Qi,Qj,Qk,reduceCtorEq,reduceIte,Z,F,Q,C,W,H,L,U,e2,g,Tg,E]
  |false=>rw[hq]at g;rw[if_neg (by simp)];rw[ai];simp only[go_sem,Q0,Q1,Q2,Q3,Q4,Q5,Q6,Q7,Q8,Q9,Qa,Qb,Qc,Qd,Qe,Qf,Qg,Qh,Qi,Qj,Qk,reduceCtorEq,reduceIte,Z,F,Q,C,W,H,L,U,e2,e3,g,Tg,hk,O,cB,z]
theorem l93(S:List Ent)(hn:S.length<=1000):∀(m k:Nat),k+m=S.length->1<=k->S.take k++cp eqE (S.getD (k-1) en0) (S.drop k)=cpt eqE S->
 (cpt eqE S=S/\run T (.loop tI) ⟨[(0,.psl 0 4 0 S.length none),(1,.fn 94 [] []),(5,.int .i64 k)],[(0,.arr 4 (bP S))],[]⟩=
  some (.x 0,⟨[(0,.psl 0 4 0 S.length none)],[(0,.arr 4 (bP S))],[]⟩))\/
 (∃(R:f8)(h:Nat),R.length=S.length/\h<=S.length/\R.take h=bP (cpt eqE S)/\run T (.loop tI) ⟨[(0,.psl 0 4 0 S.length none),(1,.fn 94 [] []),(5,.int .i64 k)],[(0,.arr 4 (bP S))],[]⟩=
  some (.r,⟨[(4,.psl 0 4 0 h none)],[(0,.arr 4 R)],[]⟩)):=by
 intro m;induction m with
 |zero=>
  intro k h1 W Q;have:k=S.length:=by omega
  subst this;refine .inl ⟨SZ eqE en0 S Q, ?_⟩;rw[ai];simp only[go_sem,Q0,Q1,Q2,Q3,Q4,Q5,Q6,Q7,Q8,Q9,Qa,Qb,Qc,Qd,Qe,Qf,Qg,Qh,Qi,Qj,Qk,reduceCtorEq,reduceIte]
 |succ m ih=>
  intro k h1 W Q;have I:k<S.length:=by omega
  have C:k-1<S.length:=by omega
  have hv:=bL S;have J:=df S k I;have L:=df S (k-1) C;have U:af.wrap ((k:Int)-1)=((k-1:Nat):Int):=wZ (by omega)
  have e3:=bW k (by omega);have g:=f94 (S.getD k en0) (S.getD (k-1) en0);have Z:=fun hy=>xfE eqE en0 S k W I Q hy
  have a0:=fun hy=>xfF eqE en0 S k W I Q hy
  have H:=xmn S.length hn k (S.length-(k+1)) S k 1 rfl (by omega) (aN _) (by omega);obtain⟨F,O⟩:=sR eqE en0 (S.length-(k+1)) S k (k+1);generalize S.getD k en0=x at*;generalize S.getD (k-1) en0=y at*;cases hq:eqE x y with
  |true=>
   have E:=Z hq;right;generalize inn eqE en0 (S.length-(k+1)) S k (k+1)=z at*;obtain⟨B,h⟩:=z;simp only at E F O H;have a2:=bL B;have c1:h<=S.length:=by omega
   have c2:0<S.length-h:=by omega
   have c3:h+(S.length-h)<=B.length:=by omega
   have c4:k<=S.length:=by omega
   have c5:h+(S.length-h)<=S.length:=by omega
   rw[hq]at g;obtain⟨x1,x2,x3,x4⟩:=x;obtain⟨y1,y2,y3,y4⟩:=y;simp only[Ent.sv]at g J L;rw[show((1:Nat):Int)=1 from rfl]at H;refine⟨(bP B).take h++ao (S.length-h) [.int .i64 0,.str [],.int .i64 0,.byt [] .no]++(bP B).drop (h+(S.length-h)),h, ?_,c1, ?_, ?_⟩
   ·rw[ac,ac,aw,bQ,aI];omega
   ·rw[av,List.take_append_of_le_length (by rw[aw];omega),List.take_take,Nat.min_self,<-E,bP,bP,List.map_take]
   ·rw[ai]
    simp only[go_sem,Q0,Q1,Q2,Q3,Q4,Q5,Q6,Q7,Q8,Q9,Qa,Qb,Qc,Qd,Qe,Qf,Qg,Qh,Qi,Qj,Qk,reduceCtorEq,reduceIte,I,C,hv,J,L,U,g,Tg,c4,H,c1,c2,c3,a2,F,c5,Nat.sub_zero]
  |false=>
   rw[hq]at g;have a1:=ih (k+1) (by omega) (by omega) (a0 (by rw[hq];simp));obtain⟨x1,x2,x3,x4⟩:=x;obtain⟨y1,y2,y3,y4⟩:=y;simp only[Ent.sv]at g J L;rcases a1 with⟨q1,q2⟩|⟨R,h,q1,q2,q3,q4⟩
   ·refine .inl ⟨q1, ?_⟩
    rw[ai];simp only[go_sem,Q0,Q1,Q2,Q3,Q4,Q5,Q6,Q7,Q8,Q9,Qa,Qb,Qc,Qd,Qe,Qf,Qg,Qh,Qi,Qj,Qk,reduceCtorEq,reduceIte,I,C,hv,J,L,U,e3,g,Tg,q2]
   ·refine .inr ⟨R,h,q1,q2,q3, ?_⟩
    rw[ai];simp only[go_sem,Q0,Q1,Q2,Q3,Q4,Q5,Q6,Q7,Q8,Q9,Qa,Qb,Qc,Qd,Qe,Qf,Qg,Qh,Qi,Qj,Qk,reduceCtorEq,reduceIte,I,C,hv,J,L,U,e3,g,Tg,q4]
theorem f93(S:List Ent)(I:0<S.length)(hn:S.length<=1000):∃(R:f8)(C:Nat),R.length=S.length/\C<=S.length/\R.take C=bP (cpt eqE S)/\
 call T 93 [.psl 0 4 0 S.length none,.fn 94 [] []] [.arr 4 (bP S)] 0=some ⟨.psl 0 4 0 C none,[(0,.arr 4 R)],[]⟩:=by
 have z:=bL S
 by_cases E:S.length<2
 ·have y:(S.length:Int)<2:=by omega
  refine⟨bP S,S.length,z,aN _, ?_, ?_⟩
  ·have:cpt eqE S=S:=by
    match S,I,E with
    |[x],_,_=>rfl
    |_::_::_,_,h=>simp only[aA]at h;omega
   rw[this,<-z,bi]
  ·rw[an xaC]
   simp only[go_sem,Q0,Q1,Q2,Q3,Q4,Q5,Q6,Q7,Q8,Q9,Qa,Qb,Qc,Qd,Qe,Qf,Qg,Qh,Qi,Qj,Qk,reduceCtorEq,reduceIte,z,E,y]
 ·have y:¬(S.length:Int)<2:=by omega
  have J:S.take 1++cp eqE (S.getD (1-1) en0) (S.drop 1)=cpt eqE S:=by
   match S,I with
   |x::r,_=>rfl
  have h:=l93 S hn (S.length-1) 1 (by omega) (aN _) J;rw[show((1:Nat):Int)=1 from rfl]at h;rcases h with⟨F,H⟩|⟨R,C,F,H,q3,q4⟩
  ·refine⟨bP S,S.length,z,aN _,by rw[F,<-z,bi], ?_⟩
   rw[an xaC];simp only[go_sem,Q0,Q1,Q2,Q3,Q4,Q5,Q6,Q7,Q8,Q9,Qa,Qb,Qc,Qd,Qe,Qf,Qg,Qh,Qi,Qj,Qk,reduceCtorEq,reduceIte,z,E,y,H]
  ·refine⟨R,C,F,H,q3, ?_⟩
   rw[an xaC];simp only[go_sem,Q0,Q1,Q2,Q3,Q4,Q5,Q6,Q7,Q8,Q9,Qa,Qb,Qc,Qd,Qe,Qf,Qg,Qh,Qi,Qj,Qk,reduceCtorEq,reduceIte,z,E,y,q4]
theorem xmW:call T 93 [.lst 4 [] .no,.fn 94 [] []] [] 0=some ⟨.lst 4 [] .no,[],[]⟩:=by rw[an xaC];simp only[go_sem,Q0,Q1,Q2,Q3,Q4,Q5,Q6,Q7,Q8,Q9,Qa,Qb,Qc,Qd,Qe,Qf,Qg,Qh,Qi,Qj,Qk,reduceCtorEq,reduceIte]
end
end Go.Proofs.YtkcjdeofknkndaaGreatDoor
