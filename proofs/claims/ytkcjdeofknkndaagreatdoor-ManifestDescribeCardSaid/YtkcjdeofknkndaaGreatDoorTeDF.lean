/- Contracts. No condition. -/
import Derived.Test.YtkcjdeofknkndaaGreatDoorTdDF
open Int renaming natCast_zero -> aD
open Go.IntKind renaming i64 -> ai, u64 -> aZ, wrap_u64 -> cn
open List renaming Pairwise -> gg, append_assoc -> ax, append_nil -> bf, drop_drop -> fq, drop_eq_getElem_cons -> aY, drop_eq_nil_of_le -> br, drop_length -> bv, drop_zero -> bh, foldl_cons -> cz, getD_eq_getElem?_getD -> aa, getElem?_drop -> bx, getElem?_eq_getElem -> ab, getElem_mem -> bn, length_append -> af, length_cons -> ay, length_drop -> aL, length_map -> aS, length_replicate -> bO, length_set -> dh, length_take -> aA, mem_append -> ak, mem_cons -> am, mem_cons_of_mem -> an, mem_cons_self -> aw, mem_singleton -> aW, not_mem_nil -> cB, pairwise_append -> eJ, pairwise_cons -> bJ, pairwise_iff_getElem -> nR, pairwise_singleton -> rK, replicate -> ao, take_length -> bB
open Nat renaming add_sub_cancel -> jv, le_refl -> aN
open Go.Op renaming bytesLess -> bH
open UInt8 renaming ofInt -> dj
set_option maxRecDepth 100000
set_option maxHeartbeats 16000000
set_option linter.unusedSimpArgs false
set_option linter.unusedVariables false
namespace Go.Proofs.YtkcjdeofknkndaaGreatDoor
open Go.Sy
open UInt8 renaming reduceLT -> Q0, reduceLE -> Q1
open Int renaming reduceToNat -> Q2, reduceLE -> Q3, reduceLT -> Q4, reduceEq -> Q5, reduceNe -> Q6, reduceNeg -> Q7, reduceAdd -> Q8, reduceSub -> Q9, reduceMul -> Qa
open Nat renaming reducePow -> Qb, reduceDiv -> Qc, reduceMod -> Qd, reduceAdd -> Qe, reduceSub -> Qf, reduceMul -> Qg, reduceLT -> Qh, reduceLeDiff -> Qi, reduceEqDiff -> Qj, reduceBEq -> Qk
end Go.Proofs.YtkcjdeofknkndaaGreatDoor
namespace SortT
variable {α : Type}
structure SO(lt:α->α->Bool):Prop where
 irr:∀x,lt x x=false
 tr:∀x y z,lt x y=true->lt y z=true->lt x z=true
 tri:∀x y,lt x y=false->lt y x=false->x=y
def Str(lt:α->α->Bool)(l:List α):Prop:=l.Pairwise fun x y=>lt x y=true
def Wk(lt:α->α->Bool)(l:List α):Prop:=l.Pairwise fun x y=>lt y x=false
theorem zj{lt:α->α->Bool}(h:SO lt):∀{a b:List α},Str lt a->Str lt b->(∀x,x∈a↔x∈b)->a=b
 |[],[],_,_,_=>rfl
 |[],y::b,_,_,he=>absurd ((he y).2 aw) cB
 |x::a,[],_,_,he=>absurd ((he x).1 aw) cB
 |x::a,y::b,ha,hb,he=>by
  obtain⟨F,I⟩:=bJ.1 ha;obtain⟨H,J⟩:=bJ.1 hb
  have E:x=y:=by
   rcases am.1 ((he x).1 aw)with e|hx
   ·exact e
   ·rcases am.1 ((he y).2 aw)with e|hy
    ·exact e.symm
    ·have:=h.tr x y x (F y hy) (H x hx)
     rw[h.irr]at this;cases this
  subst E
  have C:∀z,z∈a↔z∈b:=by
   intro z;constructor
   ·intro hz
    rcases am.1 ((he z).1 (an _ hz))with e|hz'
    ·subst e
     have:=F z hz;rw[h.irr]at this;cases this
    ·exact hz'
   ·intro hz
    rcases am.1 ((he z).2 (an _ hz))with e|hz'
    ·subst e
     have:=H z hz;rw[h.irr]at this;cases this
    ·exact hz'
  rw[zj h I J C]
def swp(d:α)(L:List α)(j:Nat):List α:=(L.set j (L.getD (j-1) d)).set (j-1) (L.getD j d)
def bub(lt:α->α->Bool)(d:α):Nat->List α->List α
 |0,L=>L
 |j+1,L=>if lt (L.getD (j+1) d) (L.getD j d)=true then bub lt d j (swp d L (j+1))else L
def isr(lt:α->α->Bool)(d:α):Nat->Nat->List α->List α
 |0,_,L=>L
 |m+1,i,L=>isr lt d m (i+1) (bub lt d i L)
theorem nV(d:α)(L:List α)(j:Nat):(swp d L j).length=L.length:=by simp[swp]
theorem mn(lt:α->α->Bool)(d:α):∀(j:Nat)(L:List α),(bub lt d j L).length=L.length
 |0,L=>rfl
 |j+1,L=>by
  unfold bub;split
  ·rw[mn lt d j,nV]
  ·rfl
theorem BN(lt:α->α->Bool)(d:α):∀(m i:Nat)(L:List α),(isr lt d m i L).length=L.length
 |0,_,L=>rfl
 |m+1,i,L=>by unfold isr;rw[BN lt d m,mn]
theorem OM(d:α)(A:List α)(y x:α)(B:List α):swp d (A++y::x::B) (A.length+1)=A++x::y::B:=by
 unfold swp;rw[jv];have z:(A++y::x::B).getD A.length d=y:=by simp[aa]
 have h:(A++y::x::B).getD (A.length+1) d=x:=by simp[aa]
 rw[z,h,List.set_append_right _ _ (by omega),List.set_append_right _ _ (by omega)];simp
theorem OO:∀(A:List α)(n:Nat),A.length=n+1->∃C y,A=C++ [y]/\C.length=n:=by
 intro A n h;have z:A≠ []:=by intro e;subst e;simp at h
 refine⟨A.dropLast,A.getLast z,(List.dropLast_concat_getLast z).symm, ?_⟩;rw[List.length_dropLast];omega
theorem QW{lt:α->α->Bool}(h:SO lt)(d:α):∀(n:Nat)(A:List α)(x:α)(B:List α),A.length=n->Wk lt A->
 ∃C,bub lt d n (A++x::B)=C++B/\Wk lt C/\C.length=n+1/\∀z,z∈C↔z=x\/z∈A:=by
 intro n;induction n with
 |zero=>intro A x B O Q;have:A=[]:=List.eq_nil_of_length_eq_zero O;subst this;exact⟨[x],rfl,rK _ _,rfl,fun z=>by simp⟩
 |succ n ih=>
  intro A x B O Q;obtain⟨C,y,rfl,H⟩:=OO A n O;have e1:(C++ [y]++x::B).getD n d=y:=by subst H;simp[aa]
  have e2:(C++ [y]++x::B).getD (n+1) d=x:=by subst H;simp[aa]
  obtain⟨T, -,I⟩:=eJ.1 Q;unfold bub;rw[e1,e2]
  by_cases L:lt x y=true
  ·rw[if_pos L]
   have e3:C++ [y]++x::B=C++y::x::B:=by simp
   rw[e3,<-H,OM,H];obtain⟨Z,g1,g2,g3,U⟩:=ih C x (y::B) H T;refine⟨Z++ [y],by rw[g1];simp, ?_,by simp[g3],fun z=> ?_⟩
   ·refine eJ.2 ⟨g2,rK _ _,fun a E b J=> ?_⟩
    rw[aW]at J;subst J;rcases (U a).1 E with rfl|E
    ·cases hq:lt b a with
     |false=>rfl
     |true=>have:=h.tr _ _ _ L hq;rw[h.irr]at this;cases this
    ·exact I a E b (aW.2 rfl)
   ·rw[ak,aW,U,ak,aW,or_assoc]
  ·rw[if_neg L]
   have F:lt x y=false:=by simpa using L
   refine⟨C++ [y]++ [x],by simp, ?_,by simp[H],fun z=>by simp only[ak,aW];constructor<;>(intro h;rcases h with h|h<;>simp[h])⟩;refine eJ.2 ⟨Q,rK _ _,fun a E b J=> ?_⟩;rw[aW]at J;subst J;rcases ak.1 E with E|E
   ·have W:=I a E y (aW.2 rfl)
    cases hq:lt b a with
    |false=>rfl
    |true=>
     cases hr:lt a y with
     |true=>have:=h.tr _ _ _ hq hr;rw[F]at this;cases this
     |false=>have:=h.tri _ _ hr W;subst this;rw[F]at hq;cases hq
   ·rw[aW]at E
    subst E;exact F
theorem xcj{lt:α->α->Bool}(h:SO lt)(d:α):∀(m i:Nat)(A B:List α),A.length=i->B.length=m->Wk lt A->
 Wk lt (isr lt d m i (A++B))/\∀z,z∈isr lt d m i (A++B)↔z∈A++B:=by
 intro m;induction m with
 |zero=>intro i A B E y C;have:B=[]:=List.eq_nil_of_length_eq_zero y;subst this;rw[bf];exact⟨C,fun z=>Iff.rfl⟩
 |succ m O=>
  intro i A B E y C;cases B with
  |nil=>simp at y
  |cons x B=>
   obtain⟨L,I,F,H,J⟩:=QW h d i A x B E C;unfold isr;rw[I];obtain⟨k1,k2⟩:=O (i+1) L B H (by simpa using y) F;refine⟨k1,fun z=> ?_⟩;rw[k2,ak,J,ak,am];constructor
   ·rintro((h|h)|h)<;>simp[h]
   ·rintro(h|h|h)<;>simp[h]
def cp(h:α->α->Bool):α->List α->List α
 |_,[]=> []
 |p,x::r=>if h x p=true then cp h x r else x::cp h x r
def cpt(h:α->α->Bool):List α->List α
 |[]=> []
 |x::r=>x::cp h x r
theorem ye{lt E:α->α->Bool}(h:SO lt)(C:∀x y,E x y=true↔x=y):∀(l:List α)(p:α),∀z,z∈p::cp E p l↔z∈p::l
 |[],p,z=>Iff.rfl
 |x::r,p,z=>by
  have F:=ye h C r x z;unfold cp;split
  ·rename_i H
   have:x=p:=(C _ _).1 H;subst this;rw[F,am (l:=x::r)];constructor
   ·intro h;exact .inr h
   ·rintro(h|h)
    ·subst h;exact aw
    ·exact h
  ·rw[am,F,am (l:=x::r)]
theorem Nd{lt J:α->α->Bool}(h:SO lt)(E:∀x y,J x y=true↔x=y):∀(l:List α)(p:α),Wk lt (p::l)->Str lt (p::cp J p l)
 |[],_,_=>rK _ _
 |x::r,p,hw=>by
  obtain⟨O,I⟩:=bJ.1 hw;have L:=Nd h E r x I;unfold cp;split
  ·rename_i F
   have:x=p:=(E _ _).1 F;subst this;exact L
  ·rename_i F
   have H:¬x=p:=fun e=>F ((E _ _).2 e)
   have C:lt p x=true:=by
    cases hc:lt p x with
    |true=>rfl
    |false=>exact absurd (h.tri _ _ (O x aw) hc) H
   refine bJ.2 ⟨fun z hz=> ?_,L⟩;rcases am.1 ((ye h E r x z).1 hz)with rfl|hz
   ·exact C
   ·have Q:=(bJ.1 I).1 z hz
    cases hc:lt x z with
    |true=>exact h.tr _ _ _ C hc
    |false=>have:=h.tri _ _ hc Q;subst this;exact C
theorem QR{lt C:α->α->Bool}(h:SO lt)(E:∀x y,C x y=true↔x=y)(l:List α):∀z,z∈cpt C l↔z∈l:=by
 cases l with
 |nil=>exact fun z=>Iff.rfl
 |cons x r=>exact ye h E r x
theorem QQ{lt z:α->α->Bool}(h:SO lt)(C:∀x y,z x y=true↔x=y)(l:List α)(E:Wk lt l):Str lt (cpt z l):=by
 cases l with
 |nil=>exact gg.nil
 |cons x r=>exact Nd h C r x E
def inn(h:α->α->Bool)(d:α):Nat->List α->Nat->Nat->List α×Nat
 |0,B,k,_=>(B,k)
 |m+1,B,k,p=>if h (B.getD p d) (B.getD (p-1) d)=true then inn h d m B k (p+1)else inn h d m (B.set k (B.getD p d)) (k+1) (p+1)
theorem sj(h:α->α->Bool)(d:α):∀(m:Nat)(B:List α)(k p:Nat),(inn h d m B k p).1.length=B.length/\(inn h d m B k p).2<=k+m
 |0,B,k,p=>⟨rfl,aN _⟩
 |m+1,B,k,p=>by
  unfold inn;split
  ·have:=sj h d m B k (p+1);omega
  ·have:=sj h d m (B.set k (B.getD p d)) (k+1) (p+1)
   rw[dh]at this;omega
theorem jm(l:List α)(d:α)(p q:Nat)(h:p<=q):(l.drop p).getD (q-p) d=l.getD q d:=by
 simp only[aa,bx]
 congr 2;omega
theorem xck(z:α->α->Bool)(d:α)(S:List α):∀(m:Nat)(B:List α)(k p:Nat),p+m=S.length->B.length=S.length->1<=p->k<=p-1->B.drop (p-1)=S.drop (p-1)->
 (inn z d m B k p).1.take (inn z d m B k p).2=B.take k++cp z (S.getD (p-1) d) (S.drop p):=by
 intro m;induction m with
 |zero=>intro B k p F y Q I h;have:S.drop p=[]:=br (by omega);rw[this];simp[inn,cp]
 |succ m E=>
  intro B k p F y Q I h;have L:B.getD (p-1) d=S.getD (p-1) d:=by rw[<-jm B d (p-1) (p-1) (aN _),h,jm S d _ _ (aN _)]
  have O:B.getD p d=S.getD p d:=by rw[<-jm B d (p-1) p (by omega),h,jm S d _ _ (by omega)]
  have H:S.drop p=S.getD p d::S.drop (p+1):=by rw[aY (by omega),aa,ab (by omega)];rfl
  have C:B.drop p=S.drop p:=by
   have:∀l:List α,l.drop p=(l.drop (p-1)).drop 1:=fun l=>by rw[fq];congr 1;omega
   rw[this B,this S,h]
  unfold inn;rw[L,O,H];unfold cp;split
  ·rw[E B k (p+1) (by omega) y (by omega) (by omega) (by rw[jv];exact C),jv]
  ·rw[E (B.set k (S.getD p d)) (k+1) (p+1) (by omega) (by rw[dh];exact y) (by omega) (by omega) (by
    rw[jv,List.drop_set_of_lt (by omega)];exact C),jv]
   have J:(B.set k (S.getD p d)).take (k+1)=B.take k++ [S.getD p d]:=by rw[List.take_succ_eq_append_getElem (by rw[dh];omega),List.take_set_of_le (aN _)];simp
   rw[J];simp
theorem xcU(y:α->α->Bool)(d:α)(S:List α)(k:Nat)(E:1<=k)(C:k<S.length)(h:S.take k++cp y (S.getD (k-1) d) (S.drop k)=cpt y S)(hn:¬y (S.getD k d) (S.getD (k-1) d)=true):
 S.take (k+1)++cp y (S.getD (k+1-1) d) (S.drop (k+1))=cpt y S:=by
 have z:S.drop k=S.getD k d::S.drop (k+1):=by rw[aY (by omega),aa,ab (by omega)];rfl
 rw[<-h,z,jv]
 conv=>rhs;unfold cp
 rw[if_neg hn,List.take_succ_eq_append_getElem (by omega),aa,ab (by omega),ax];rfl
theorem xcT(y:α->α->Bool)(d:α)(S:List α)(k:Nat)(F:1<=k)(E:k<S.length)(h:S.take k++cp y (S.getD (k-1) d) (S.drop k)=cpt y S)(z:y (S.getD k d) (S.getD (k-1) d)=true):
 (inn y d (S.length-(k+1)) S k (k+1)).1.take (inn y d (S.length-(k+1)) S k (k+1)).2=cpt y S:=by
 have C:S.drop k=S.getD k d::S.drop (k+1):=by rw[aY (by omega),aa,ab (by omega)];rfl
 rw[xck y d S _ S k (k+1) (by omega) rfl (by omega) (by omega) rfl,<-h,C,jv]
 conv=>rhs;unfold cp
 rw[if_pos z]
theorem QS(y:α->α->Bool)(d:α)(S:List α)(h:S.take S.length++cp y (S.getD (S.length-1) d) (S.drop S.length)=cpt y S):cpt y S=S:=by rw[<-h,bv,bB];simp[cp]
def oJ(lt:α->α->Bool)(x:α):List α->List α
 |[]=> [x]
 |y::r=>if lt y x=true then y::oJ lt x r else if lt x y=true then x::y::r else y::r
theorem lX{lt:α->α->Bool}(h:SO lt)(x:α):∀(l:List α),∀z,z∈oJ lt x l↔z=x\/z∈l
 |[],z=>by simp[oJ]
 |y::r,z=>by
  have F:=lX h x r z;unfold oJ;split
  ·rw[am,F,am]
   constructor
   ·rintro(h|h|h)<;>simp[h]
   ·rintro(h|h|h)<;>simp[h]
  ·rename_i C
   split
   ·rw[am]
   ·rename_i E
    have:x=y:=h.tri _ _ (by simpa using E) (by simpa using C);subst this;rw[am];constructor
    ·exact .inr
    ·rintro(h|h)
     ·exact .inl h
     ·exact h
theorem pt{lt:α->α->Bool}(h:SO lt)(x:α):∀(l:List α),Str lt l->Str lt (oJ lt x l)
 |[],_=>rK _ _
 |y::r,hs=>by
  obtain⟨E,F⟩:=bJ.1 hs;unfold oJ;split
  ·rename_i C
   refine bJ.2 ⟨fun z hz=> ?_,pt h x r F⟩;rcases (lX h x r z).1 hz with rfl|hz
   ·exact C
   ·exact E z hz
  ·split
   ·rename_i C
    refine bJ.2 ⟨fun z hz=> ?_,hs⟩;rcases am.1 hz with rfl|hz
    ·exact C
    ·exact h.tr _ _ _ C (E z hz)
   ·exact hs
theorem uJ{lt:α->α->Bool}(h:SO lt):∀(es l:List α),Str lt l->Str lt (es.foldl (fun a x=>oJ lt x a) l)
 |[],_,hs=>hs
 |x::es,l,hs=>uJ h es _ (pt h x l hs)
theorem uK{lt:α->α->Bool}(h:SO lt):∀(es l:List α),∀z,z∈es.foldl (fun a x=>oJ lt x a) l↔z∈es\/z∈l
 |[],l,z=>by simp
 |x::es,l,z=>by
  rw[cz,uK h es,lX h,am];constructor
  ·rintro(h|h|h)<;>simp[h]
  ·rintro((h|h)|h)<;>simp[h]
theorem Er{lt F:α->α->Bool}(h:SO lt)(E:∀x y,F x y=true↔x=y)(d:α)(es:List α):cpt F (isr lt d (es.length-1) 1 es)=es.foldl (fun a x=>oJ lt x a) []:=by
 have C:Wk lt (isr lt d (es.length-1) 1 es)/\∀z,z∈isr lt d (es.length-1) 1 es↔z∈es:=by
  cases es with
  |nil=>exact⟨gg.nil,fun z=>Iff.rfl⟩
  |cons x r=>exact xcj h d r.length 1 [x] r rfl rfl (rK _ _)
 refine zj h (QQ h E _ C.1) (uJ h es [] gg.nil) fun z=> ?_
 rw[QR h E,C.2,uK h];simp
end SortT
namespace Go.Proofs.YtkcjdeofknkndaaGreatDoor
open Go.Sy
open UInt8 renaming reduceLT -> Q0, reduceLE -> Q1
open Int renaming reduceToNat -> Q2, reduceLE -> Q3, reduceLT -> Q4, reduceEq -> Q5, reduceNe -> Q6, reduceNeg -> Q7, reduceAdd -> Q8, reduceSub -> Q9, reduceMul -> Qa
open Nat renaming reducePow -> Qb, reduceDiv -> Qc, reduceMod -> Qd, reduceAdd -> Qe, reduceSub -> Qf, reduceMul -> Qg, reduceLT -> Qh, reduceLeDiff -> Qi, reduceEqDiff -> Qj, reduceBEq -> Qk
def rq(a b:Int):Int:=if a<b then-1 else if b<a then 1 else 0
theorem xil(a:Int):call T 141 [.int .i64 a] [] 0=some ⟨.bool false,[],[]⟩:=by rw[au xgj];simp only[go_sem,Q0,Q1,Q2,Q3,Q4,Q5,Q6,Q7,Q8,Q9,Qa,Qb,Qc,Qd,Qe,Qf,Qg,Qh,Qi,Qj,Qk,reduceCtorEq,reduceIte]
theorem xis(a b:Int):call T 105 [.int .i64 a,.int .i64 b] [] 0=some ⟨.int .i64 (rq a b),[],[]⟩:=by
 have z:=xil a;have y:=xil b;rw[au xgM];unfold rq
 by_cases h:a<b
 ·simp only[go_sem,Q0,Q1,Q2,Q3,Q4,Q5,Q6,Q7,Q8,Q9,Qa,Qb,Qc,Qd,Qe,Qf,Qg,Qh,Qi,Qj,Qk,reduceCtorEq,reduceIte,z,y,Ol,h]
 ·by_cases C:b<a
  ·simp only[go_sem,Q0,Q1,Q2,Q3,Q4,Q5,Q6,Q7,Q8,Q9,Qa,Qb,Qc,Qd,Qe,Qf,Qg,Qh,Qi,Qj,Qk,reduceCtorEq,reduceIte,z,y,Ol,h,C]
  ·simp only[go_sem,Q0,Q1,Q2,Q3,Q4,Q5,Q6,Q7,Q8,Q9,Qa,Qb,Qc,Qd,Qe,Qf,Qg,Qh,Qi,Qj,Qk,reduceCtorEq,reduceIte,z,y,Ol,h,C]
theorem xkC(a b:t6):call T 107 [.byt a .no,.byt b .no] [] 0=some ⟨.int .i64 (Lib.compareBytes a b),[],[]⟩:=by rw[kC xgK];rfl
theorem xkm(a b:t6):call T 142 [.str a,.str b] [] 0=some ⟨.int .i64 (Lib.compareBytes a b),[],[]⟩:=by rw[kC xgi];rfl
theorem xc4(a:t6):call T 130 [.str a] [] 0=some ⟨.bool (Pr.nameB a),[],[]⟩:=by rw[kC xgt];rfl
theorem xkD(a b:t6):call T 106 [.str a,.str b] [] 0=some ⟨.int .i64 (Lib.compareBytes a b),[],[]⟩:=by have g:=xkm a b;rw[au xgL];simp only[go_sem,Q0,Q1,Q2,Q3,Q4,Q5,Q6,Q7,Q8,Q9,Qa,Qb,Qc,Qd,Qe,Qf,Qg,Qh,Qi,Qj,Qk,reduceCtorEq,reduceIte,g,xgV]
def orI(a b c d:Int):Int:=if a≠0 then a else if b≠0 then b else if c≠0 then c else d
theorem xkE(a b c d:Int):call T 104 [.lst 1 [[.int .i64 a],[.int .i64 b],[.int .i64 c],[.int .i64 d]] .no] [] 0=some ⟨.int .i64 (orI a b c d),[],[]⟩:=by
 have k1:ai.wrap 1=1:=rfl;have k2:ai.wrap 2=2:=rfl;have h:ai.wrap 3=3:=rfl;have y:ai.wrap 4=4:=rfl;rw[au xgN];unfold orI
 by_cases z:a=0
 ·subst z
  by_cases F:b=0
  ·subst F
   by_cases E:c=0
   ·subst E
    by_cases C:d=0
    ·subst C
     simp only[go_sem,Q0,Q1,Q2,Q3,Q4,Q5,Q6,Q7,Q8,Q9,Qa,Qb,Qc,Qd,Qe,Qf,Qg,Qh,Qi,Qj,Qk,reduceCtorEq,reduceIte]
     iterate 5
      rw[al];simp only[go_sem,Q0,Q1,Q2,Q3,Q4,Q5,Q6,Q7,Q8,Q9,Qa,Qb,Qc,Qd,Qe,Qf,Qg,Qh,Qi,Qj,Qk,reduceCtorEq,reduceIte,k1,k2,h,y]
    ·simp only[go_sem,Q0,Q1,Q2,Q3,Q4,Q5,Q6,Q7,Q8,Q9,Qa,Qb,Qc,Qd,Qe,Qf,Qg,Qh,Qi,Qj,Qk,reduceCtorEq,reduceIte]
     iterate 4
      rw[al];simp only[go_sem,Q0,Q1,Q2,Q3,Q4,Q5,Q6,Q7,Q8,Q9,Qa,Qb,Qc,Qd,Qe,Qf,Qg,Qh,Qi,Qj,Qk,reduceCtorEq,reduceIte,k1,k2,h,y,C]
   ·simp only[go_sem,Q0,Q1,Q2,Q3,Q4,Q5,Q6,Q7,Q8,Q9,Qa,Qb,Qc,Qd,Qe,Qf,Qg,Qh,Qi,Qj,Qk,reduceCtorEq,reduceIte]
    iterate 3
     rw[al];simp only[go_sem,Q0,Q1,Q2,Q3,Q4,Q5,Q6,Q7,Q8,Q9,Qa,Qb,Qc,Qd,Qe,Qf,Qg,Qh,Qi,Qj,Qk,reduceCtorEq,reduceIte,k1,k2,h,y,E]
  ·simp only[go_sem,Q0,Q1,Q2,Q3,Q4,Q5,Q6,Q7,Q8,Q9,Qa,Qb,Qc,Qd,Qe,Qf,Qg,Qh,Qi,Qj,Qk,reduceCtorEq,reduceIte]
   iterate 2
    rw[al];simp only[go_sem,Q0,Q1,Q2,Q3,Q4,Q5,Q6,Q7,Q8,Q9,Qa,Qb,Qc,Qd,Qe,Qf,Qg,Qh,Qi,Qj,Qk,reduceCtorEq,reduceIte,k1,k2,h,y,F]
 ·simp only[go_sem,Q0,Q1,Q2,Q3,Q4,Q5,Q6,Q7,Q8,Q9,Qa,Qb,Qc,Qd,Qe,Qf,Qg,Qh,Qi,Qj,Qk,reduceCtorEq,reduceIte]
  rw[al];simp only[go_sem,Q0,Q1,Q2,Q3,Q4,Q5,Q6,Q7,Q8,Q9,Qa,Qb,Qc,Qd,Qe,Qf,Qg,Qh,Qi,Qj,Qk,reduceCtorEq,reduceIte,k1,k2,h,y,z]
structure Ent where
 role:Int
 name:List UInt8
 ver:Int
 dig:List UInt8
def Ent.sv(x:Ent):t7:=[.int .i64 x.role,.str x.name,.int .i64 x.ver,.byt x.dig .no]
def r6(x y:Ent):Int:=orI (rq x.role y.role) (Lib.compareBytes x.name y.name) (rq x.ver y.ver) (Lib.compareBytes x.dig y.dig)
theorem f43(x y:Ent):call T 43 [.agg x.sv,.agg y.sv] [] 0=some ⟨.int .i64 (r6 x y),[],[]⟩:=by have F:=xis x.role y.role;have z:=xkD x.name y.name;have E:=xis x.ver y.ver;have h:=xkC x.dig y.dig;have C:=xkE (rq x.role y.role) (Lib.compareBytes x.name y.name) (rq x.ver y.ver) (Lib.compareBytes x.dig y.dig);obtain⟨r,n,v,d⟩:=x;obtain⟨H,n2,I,d2⟩:=y;simp only[Ent.sv]at*;rw[au xln];unfold r6;simp only[go_sem,Q0,Q1,Q2,Q3,Q4,Q5,Q6,Q7,Q8,Q9,Qa,Qb,Qc,Qd,Qe,Qf,Qg,Qh,Qi,Qj,Qk,reduceCtorEq,reduceIte,F,xg9,z,xg8,E,h,xg7,C,xha]
def lsF:t6->t6->Option Bool
 |a::x,b::y=>if a=b then lsF x y else some (decide (a<b))
 |_,_=>none
theorem uE:∀x y:t6,bH x y=match lsF x y with|some q=>q|none=>decide (x.length<y.length)
 |[],[]=>by simp[lsF,bH]
 |[],_::_=>by simp[lsF,bH]
 |_::_,[]=>by simp[lsF,bH]
 |a::x,b::y=>by
  unfold lsF bH
  by_cases h:a=b
  ·subst h
   rw[if_pos rfl,uE x y];have:¬a<a:=UInt8.lt_irrefl a;simp[this]
  ·rw[if_neg h]
   simp[h]
theorem xj0(a b:t6)(L:a.length<=1000000000000):∀(n i:Nat),a.length-i=n->i<=a.length->i<=b.length->
 run T (.loop x5) ⟨[(0,.byt a .no),(1,.byt b .no),(5,.int .i64 i)],[],[]⟩=
 match lsF (a.drop i) (b.drop i)with
 |some q=>some (.r,⟨[(4,.bool q)],[],[]⟩)
 |none=>some (.x 0,⟨[(0,.byt a .no),(1,.byt b .no)],[],[]⟩):=by
 intro n;induction n with
 |zero=>
  intro i I E J;have:i=a.length:=by omega
  subst this;have e:lsF [] (b.drop a.length)=none:=by unfold lsF;rfl
  rw[al,bv,e];simp only[go_sem,Q0,Q1,Q2,Q3,Q4,Q5,Q6,Q7,Q8,Q9,Qa,Qb,Qc,Qd,Qe,Qf,Qg,Qh,Qi,Qj,Qk,reduceCtorEq,reduceIte]
 |succ n F=>
  intro i I E J;have hi:i<a.length:=by omega
  have C:=cA i (by omega);rw[al,da a i hi]
  by_cases y:i<b.length
  ·have z:=F (i+1) (by omega) (by omega) (by omega)
   rw[da b i y];unfold lsF
   by_cases h:a.getD i 0=b.getD i 0
   ·rw[if_pos h]
    simp only[go_sem,Q0,Q1,Q2,Q3,Q4,Q5,Q6,Q7,Q8,Q9,Qa,Qb,Qc,Qd,Qe,Qf,Qg,Qh,Qi,Qj,Qk,reduceCtorEq,reduceIte,hi,y,C,h,z]
   ·rw[if_neg h]
    simp only[go_sem,Q0,Q1,Q2,Q3,Q4,Q5,Q6,Q7,Q8,Q9,Qa,Qb,Qc,Qd,Qe,Qf,Qg,Qh,Qi,Qj,Qk,reduceCtorEq,reduceIte,hi,y,C,h]
  ·have H:b.drop i=[]:=br (by omega)
   have e:lsF (a.getD i 0::a.drop (i+1)) []=none:=by unfold lsF;rfl
   rw[H,e];simp only[go_sem,Q0,Q1,Q2,Q3,Q4,Q5,Q6,Q7,Q8,Q9,Qa,Qb,Qc,Qd,Qe,Qf,Qg,Qh,Qi,Qj,Qk,reduceCtorEq,reduceIte,hi,y]
theorem xkB(a b:t6)(y:a.length<=1000000000000):call T 108 [.byt a .no,.byt b .no] [] 0=some ⟨.bool (bH a b),[],[]⟩:=by
 have h:=xj0 a b y _ 0 rfl (by omega) (by omega);simp only[aD,bh]at h;rw[au xgJ,uE];cases hq:lsF a b with
 |some q=>rw[hq]at h;simp only[go_sem,Q0,Q1,Q2,Q3,Q4,Q5,Q6,Q7,Q8,Q9,Qa,Qb,Qc,Qd,Qe,Qf,Qg,Qh,Qi,Qj,Qk,reduceCtorEq,reduceIte,h]
 |none=>rw[hq]at h;simp only[go_sem,Q0,Q1,Q2,Q3,Q4,Q5,Q6,Q7,Q8,Q9,Qa,Qb,Qc,Qd,Qe,Qf,Qg,Qh,Qi,Qj,Qk,reduceCtorEq,reduceIte,h]
def eE(x y:Ent):Bool:=if x.role=y.role then(if x.name=y.name then(if x.ver=y.ver then bH x.dig y.dig else decide (x.ver<y.ver))else bH x.name y.name)else decide (x.role<y.role)
theorem f46(x y:Ent)(E:x.dig.length<=1000000000000):call T 46 [.agg x.sv,.agg y.sv] [] 0=some ⟨.bool (eE x y),[],[]⟩:=by
 have g:=xkB x.dig y.dig E;obtain⟨r,n,v,d⟩:=x;obtain⟨F,n2,H,d2⟩:=y;simp only[Ent.sv]at*;rw[au xll];unfold eE
 by_cases h:r=F
 ·by_cases z:n=n2
  ·by_cases C:v=H
   ·simp only[go_sem,Q0,Q1,Q2,Q3,Q4,Q5,Q6,Q7,Q8,Q9,Qa,Qb,Qc,Qd,Qe,Qf,Qg,Qh,Qi,Qj,Qk,reduceCtorEq,reduceIte,h,z,C,g,xg6]
   ·simp only[go_sem,Q0,Q1,Q2,Q3,Q4,Q5,Q6,Q7,Q8,Q9,Qa,Qb,Qc,Qd,Qe,Qf,Qg,Qh,Qi,Qj,Qk,reduceCtorEq,reduceIte,h,z,C]
  ·simp only[go_sem,Q0,Q1,Q2,Q3,Q4,Q5,Q6,Q7,Q8,Q9,Qa,Qb,Qc,Qd,Qe,Qf,Qg,Qh,Qi,Qj,Qk,reduceCtorEq,reduceIte,h,z]
 ·simp only[go_sem,Q0,Q1,Q2,Q3,Q4,Q5,Q6,Q7,Q8,Q9,Qa,Qb,Qc,Qd,Qe,Qf,Qg,Qh,Qi,Qj,Qk,reduceCtorEq,reduceIte,h]
theorem eO:∀x y:t6,Lib.compareBytes x y<0↔bH x y=true
 |[],[]=>by simp[Lib.compareBytes,bH]
 |[],_::_=>by simp[Lib.compareBytes,bH]
 |_::_,[]=>by simp[Lib.compareBytes,bH]
 |a::x,b::y=>by
  unfold Lib.compareBytes bH;have E:=eO x y
  by_cases h:a<b
  ·simp[h]
  ·by_cases C:b<a
   ·have z:¬a=b:=by intro e;subst e;exact h C
    simp[h,C,z]
   ·have z:a=b:=UInt8.le_antisymm (UInt8.not_lt.1 C) (UInt8.not_lt.1 h)
    subst z;simp[h,E]
theorem iC:∀x y:t6,Lib.compareBytes x y=0↔x=y
 |[],[]=>by simp[Lib.compareBytes]
 |[],_::_=>by simp[Lib.compareBytes]
 |_::_,[]=>by simp[Lib.compareBytes]
 |a::x,b::y=>by
  unfold Lib.compareBytes;have E:=iC x y
  by_cases h:a<b
  ·have z:¬a=b:=by intro e;subst e;exact UInt8.lt_irrefl a h
   simp[h,z]
  ·by_cases C:b<a
   ·have z:¬a=b:=by intro e;subst e;exact h C
    simp[h,C,z]
   ·have z:a=b:=UInt8.le_antisymm (UInt8.not_lt.1 C) (UInt8.not_lt.1 h)
    subst z;simp[h,E]
theorem BY(a b:Int):rq a b<0↔a<b:=by
 unfold rq;repeat' split
 all_goals omega
theorem iB(a b:Int):rq a b=0↔a=b:=by
 unfold rq;repeat' split
 all_goals omega
theorem r5(x y:Ent):r6 x y<0↔eE x y=true:=by
 unfold r6 orI eE
 by_cases h:x.role=y.role
 ·rw[if_neg (by simp[iB,h]),if_pos h]
  by_cases C:x.name=y.name
  ·rw[if_neg (by simp[iC,C]),if_pos C]
   by_cases z:x.ver=y.ver
   ·rw[if_neg (by simp[iB,z]),if_pos z];exact eO _ _
   ·rw[if_pos (by simp[iB,z]),if_neg z,decide_eq_true_eq];exact BY _ _
  ·rw[if_pos (by simp[iC,C]),if_neg C];exact eO _ _
 ·rw[if_pos (by simp[iB,h]),if_neg h,decide_eq_true_eq];exact BY _ _
theorem xj9(s:t6):call T 89 [.agg [.int .i64 1,.str s,.int .i64 0,.byt [] .no]] [] 0=some ⟨.int .i64 (if Pr.nameB s=true then 0 else 43),[],[]⟩:=by
 have g:=xc4 s;rw[au xc8];cases h:Pr.nameB s with
 |true=>rw[h]at g;simp only[go_sem,Q0,Q1,Q2,Q3,Q4,Q5,Q6,Q7,Q8,Q9,Qa,Qb,Qc,Qd,Qe,Qf,Qg,Qh,Qi,Qj,Qk,reduceCtorEq,reduceIte,g,kH]
 |false=>rw[h]at g;simp only[go_sem,Q0,Q1,Q2,Q3,Q4,Q5,Q6,Q7,Q8,Q9,Qa,Qb,Qc,Qd,Qe,Qf,Qg,Qh,Qi,Qj,Qk,reduceCtorEq,reduceIte,g,kH]
theorem f42(s:t6):call T 42 [.str s] [] 0=some ⟨.bool (Pr.nameB s),[],[]⟩:=by
 have g:=xj9 s;rw[au xlo];cases h:Pr.nameB s with
 |true=>rw[h]at g;simp only[go_sem,Q0,Q1,Q2,Q3,Q4,Q5,Q6,Q7,Q8,Q9,Qa,Qb,Qc,Qd,Qe,Qf,Qg,Qh,Qi,Qj,Qk,reduceCtorEq,reduceIte,g,o9]
 |false=>rw[h]at g;simp only[go_sem,Q0,Q1,Q2,Q3,Q4,Q5,Q6,Q7,Q8,Q9,Qa,Qb,Qc,Qd,Qe,Qf,Qg,Qh,Qi,Qj,Qk,reduceCtorEq,reduceIte,g,o9]
structure Rul where
 kind:Int
 text:List UInt8
 lo:Int
 hi:Int
def Rul.sv(r:Rul):t7:=[.int .i64 r.kind,.str r.text,.int .i64 r.lo,.int .i64 r.hi]
structure Man where
 vendor:List UInt8
 ver:Int
 flr:Int
 frm:Int
 til:Int
 ents:List Ent
 ruls:List Rul
def cd(l:List Ent):f8:=l.map Ent.sv
def fk(l:List Rul):f8:=l.map Rul.sv
def Man.sv(m:Man):t7:=[.str m.vendor,.int .i64 m.ver,.int .i64 m.flr,.int .i64 m.frm,.int .i64 m.til,.lst 4 (cd m.ents) .no,.lst 4 (fk m.ruls) .no]
def en0:Ent:=⟨0,[],0,[]⟩
def rl0:Rul:=⟨0,[],0,0⟩
theorem cw(l:List Ent):(cd l).length=l.length:=aS ..
theorem ek(l:List Rul):(fk l).length=l.length:=aS ..
theorem dM(l:List Ent)(i:Nat)(h:i<l.length):(cd l).getD i []=(l.getD i en0).sv:=by simp[cd,aa,h]
theorem j6(l:List Rul)(i:Nat)(h:i<l.length):(fk l).getD i []=(l.getD i rl0).sv:=by simp[fk,aa,h]
structure gu(m:Man):Prop where
 v:m.vendor.length<=1000000
 en:m.ents.length<=1000000
 rn:m.ruls.length<=1000000
 e:∀x∈m.ents,x.name.length<=1000000/\x.dig.length<=1000000
 r:∀x∈m.ruls,x.text.length<=1000000
theorem dd{α:Type}(l:List α)(d:α)(i:Nat)(h:i<l.length):l.getD i d∈l:=by rw[aa,ab h];exact bn _
def qe(l:List Ent)(i:Nat):Int:=
 if(l.getD i en0).role<1 then 1 else if 3<(l.getD i en0).role then 1 else if(l.getD i en0).ver<0 then 1 else if 1000000<(l.getD i en0).ver then 1
 else if((l.getD i en0).dig.length:Int)=32 then(if Pr.nameB (l.getD i en0).name=true then(if i=0 then 0 else if eE (l.getD (i-1) en0) (l.getD i en0)=true then 0 else 41)else 43)else 1
def jG(l:List Ent):Nat->Nat->Int
 |0,_=>0
 |n+1,i=>if qe l i=0 then jG l n (i+1)else qe l i
def vQ(r:Rul):Int:=chk r.kind r.text r.lo r.hi
def kr:List Rul->Int
 |[]=>0
 |r::t=>if vQ r=0 then kr t else vQ r
def gJ(m:Man):Int:=
 if Pr.nameB m.vendor=true then
  (if m.flr<0 then 1 else if m.ver<m.flr then 1 else if 1000000<m.ver then 1 else if m.frm<0 then 1 else if m.til<=m.frm then 1 else if 1099511627776<m.til then 1
  else if(16:Int)<m.ents.length then 4 else if(8:Int)<m.ruls.length then 4 else if jG m.ents m.ents.length 0=0 then kr m.ruls else jG m.ents m.ents.length 0)
 else 43
def zm(m:Man)(i:Nat):CSt:=⟨[(1,.ptr 101 0),(58,.lst 4 (cd m.ents) .no),(59,.int .i64 m.ents.length),(60,.int .i64 i)],[(101,.rc m.sv)],[]⟩
theorem s44(m:Man)(hm:gu m)(i:Nat)(hi:i<m.ents.length):
 (qe m.ents i=0->run T (.loop lH) (zm m i)=run T (.loop lH) (zm m (i+1)))/\
 (qe m.ents i≠0->∃ob,run T (.loop lH) (zm m i)=some (.r,⟨[(2,.int .i64 (qe m.ents i))],ob,[]⟩)):=by
 have O:=cA i (by have:=hm.en;omega);have J:=cw m.ents;have L:=dM m.ents i hi;have g1:=f42 (m.ents.getD i en0).name;have g2:=f43 (m.ents.getD (i-1) en0) (m.ents.getD i en0);have hb:=r5 (m.ents.getD (i-1) en0) (m.ents.getD i en0);have es:0<i->ai.wrap ((i:Int)-1)=((i-1:Nat):Int):=fun h=>by rw[w64 (by omega) (by have:=hm.en;omega)];omega
 have Z:i-1<m.ents.length:=by omega
 have a0:=dM m.ents (i-1) Z;unfold qe;obtain⟨U,W,m2,m3,m4,z,rs⟩:=m;simp only[zm,Man.sv]at*;generalize z.getD i en0=x at*;generalize z.getD (i-1) en0=y at*;obtain⟨r,n,v,d⟩:=x;obtain⟨r2,n2,v2,d2⟩:=y;simp only[Ent.sv]at*
 by_cases C:r<1
 ·refine⟨fun h=>by simp[C]at h,fun _=>⟨[(101,.rc [.str U,.int .i64 W,.int .i64 m2,.int .i64 m3,.int .i64 m4,.lst 4 (cd z) .no,.lst 4 (fk rs) .no]),(104,.rc [.int .i64 r,.str n,.int .i64 v,.byt d .no])], ?_⟩⟩
  rw[al];simp only[go_sem,Q0,Q1,Q2,Q3,Q4,Q5,Q6,Q7,Q8,Q9,Qa,Qb,Qc,Qd,Qe,Qf,Qg,Qh,Qi,Qj,Qk,reduceCtorEq,reduceIte,hi,O,J,L,C]
 by_cases E:3<r
 ·refine⟨fun h=>by simp[C,E]at h,fun _=>⟨[(101,.rc [.str U,.int .i64 W,.int .i64 m2,.int .i64 m3,.int .i64 m4,.lst 4 (cd z) .no,.lst 4 (fk rs) .no]),(104,.rc [.int .i64 r,.str n,.int .i64 v,.byt d .no])], ?_⟩⟩
  rw[al];simp only[go_sem,Q0,Q1,Q2,Q3,Q4,Q5,Q6,Q7,Q8,Q9,Qa,Qb,Qc,Qd,Qe,Qf,Qg,Qh,Qi,Qj,Qk,reduceCtorEq,reduceIte,hi,O,J,L,C,E]
 by_cases F:v<0
 ·refine⟨fun h=>by simp[C,E,F]at h,fun _=>⟨[(101,.rc [.str U,.int .i64 W,.int .i64 m2,.int .i64 m3,.int .i64 m4,.lst 4 (cd z) .no,.lst 4 (fk rs) .no]),(104,.rc [.int .i64 r,.str n,.int .i64 v,.byt d .no])], ?_⟩⟩
  rw[al];simp only[go_sem,Q0,Q1,Q2,Q3,Q4,Q5,Q6,Q7,Q8,Q9,Qa,Qb,Qc,Qd,Qe,Qf,Qg,Qh,Qi,Qj,Qk,reduceCtorEq,reduceIte,hi,O,J,L,C,E,F]
 by_cases H:1000000<v
 ·refine⟨fun h=>by simp[C,E,F,H]at h,fun _=>⟨[(101,.rc [.str U,.int .i64 W,.int .i64 m2,.int .i64 m3,.int .i64 m4,.lst 4 (cd z) .no,.lst 4 (fk rs) .no]),(104,.rc [.int .i64 r,.str n,.int .i64 v,.byt d .no])], ?_⟩⟩
  rw[al];simp only[go_sem,Q0,Q1,Q2,Q3,Q4,Q5,Q6,Q7,Q8,Q9,Qa,Qb,Qc,Qd,Qe,Qf,Qg,Qh,Qi,Qj,Qk,reduceCtorEq,reduceIte,hi,O,J,L,C,E,F,H]
 by_cases I:(d.length:Int)=32
 ·cases a6:Pr.nameB n with
  |false=>rw[a6]at g1;refine⟨fun h=>by simp[C,E,F,H,I,a6]at h,fun _=>⟨[(101,.rc [.str U,.int .i64 W,.int .i64 m2,.int .i64 m3,.int .i64 m4,.lst 4 (cd z) .no,.lst 4 (fk rs) .no]),(104,.rc [.int .i64 r,.str n,.int .i64 v,.byt d .no])], ?_⟩⟩;rw[al];simp only[go_sem,Q0,Q1,Q2,Q3,Q4,Q5,Q6,Q7,Q8,Q9,Qa,Qb,Qc,Qd,Qe,Qf,Qg,Qh,Qi,Qj,Qk,reduceCtorEq,reduceIte,hi,O,J,L,C,E,F,H,I,a6,g1,m9]
  |true=>
   rw[a6]at g1
   by_cases a7:i=0
   ·subst a7
    have hp:(0:Int)<z.length:=by omega
    have kw:ai.wrap 1=1:=rfl;refine⟨fun _=> ?_,fun h=>by simp[C,E,F,H,I,a6]at h⟩;rw[al];simp only[go_sem,Q0,Q1,Q2,Q3,Q4,Q5,Q6,Q7,Q8,Q9,Qa,Qb,Qc,Qd,Qe,Qf,Qg,Qh,Qi,Qj,Qk,reduceCtorEq,reduceIte,hi,hp,kw,O,J,L,C,E,F,H,I,a6,g1,m9]
   ·have hp:(0:Int)<(i:Nat):=by omega
    have Q:0<i:=by omega
    have a9:=es Q;cases a8:eE ⟨r2,n2,v2,d2⟩ ⟨r,n,v,d⟩with
    |true=>
     have h9:¬0<=r6 ⟨r2,n2,v2,d2⟩ ⟨r,n,v,d⟩:=by have:=hb.2 a8;omega
     refine⟨fun _=> ?_,fun h=>by simp[C,E,F,H,I,a6,a7,a8]at h⟩;rw[al];simp only[go_sem,Q0,Q1,Q2,Q3,Q4,Q5,Q6,Q7,Q8,Q9,Qa,Qb,Qc,Qd,Qe,Qf,Qg,Qh,Qi,Qj,Qk,reduceCtorEq,reduceIte,hi,hp,Q,Z,a9,a0,O,J,L,C,E,F,H,I,a6,g1,m9,g2,Rm,h9]
    |false=>
     have h9:0<=r6 ⟨r2,n2,v2,d2⟩ ⟨r,n,v,d⟩:=by
      rcases Int.lt_or_le (r6 ⟨r2,n2,v2,d2⟩ ⟨r,n,v,d⟩) 0 with h|h
      ·rw[hb.1 h]at a8;cases a8
      ·exact h
     refine⟨fun h=>by simp[C,E,F,H,I,a6,a7,a8]at h,fun _=>⟨[(101,.rc [.str U,.int .i64 W,.int .i64 m2,.int .i64 m3,.int .i64 m4,.lst 4 (cd z) .no,.lst 4 (fk rs) .no]),(104,.rc [.int .i64 r,.str n,.int .i64 v,.byt d .no])], ?_⟩⟩;rw[al];simp only[go_sem,Q0,Q1,Q2,Q3,Q4,Q5,Q6,Q7,Q8,Q9,Qa,Qb,Qc,Qd,Qe,Qf,Qg,Qh,Qi,Qj,Qk,reduceCtorEq,reduceIte,hi,hp,Q,Z,a9,a0,O,J,L,C,E,F,H,I,a6,g1,m9,g2,Rm,h9,a7,a8]
 ·refine⟨fun h=>by simp[C,E,F,H,I]at h,fun _=>⟨[(101,.rc [.str U,.int .i64 W,.int .i64 m2,.int .i64 m3,.int .i64 m4,.lst 4 (cd z) .no,.lst 4 (fk rs) .no]),(104,.rc [.int .i64 r,.str n,.int .i64 v,.byt d .no])], ?_⟩⟩
  rw[al];simp only[go_sem,Q0,Q1,Q2,Q3,Q4,Q5,Q6,Q7,Q8,Q9,Qa,Qb,Qc,Qd,Qe,Qf,Qg,Qh,Qi,Qj,Qk,reduceCtorEq,reduceIte,hi,O,J,L,C,E,F,H,I]
theorem l13(m:Man)(H:gu m):∀(n i:Nat),m.ents.length-i=n->i<=m.ents.length->
 (jG m.ents n i=0->run T (.loop lH) (zm m i)=some (.x 1,⟨[(1,.ptr 101 0)],[(101,.rc m.sv)],[]⟩))/\
 (jG m.ents n i≠0->∃ob,run T (.loop lH) (zm m i)=some (.r,⟨[(2,.int .i64 (jG m.ents n i))],ob,[]⟩)):=by
 intro n;induction n with
 |zero=>
  intro i I z;have:i=m.ents.length:=by omega
  subst this;refine⟨fun _=> ?_,fun h=>absurd rfl h⟩;rw[al];simp only[zm,go_sem,Q0,Q1,Q2,Q3,Q4,Q5,Q6,Q7,Q8,Q9,Qa,Qb,Qc,Qd,Qe,Qf,Qg,Qh,Qi,Qj,Qk,reduceCtorEq,reduceIte]
 |succ n F=>
  intro i I z;obtain⟨L,C⟩:=s44 m H i (by omega);obtain⟨J,E⟩:=F (i+1) (by omega) (by omega);unfold jG
  by_cases h:qe m.ents i=0
  ·rw[if_pos h,L h];exact⟨J,E⟩
  ·rw[if_neg h];exact⟨fun y=>absurd y h,C⟩
theorem xjV(m:Man)(Q:gu m)(ob:List (Nat×aC))(I:ob=[(101,.rc m.sv)]):∀(n i:Nat),m.ruls.length-i=n->i<=m.ruls.length->
 (kr (m.ruls.drop i)=0->run T (.loop tn) ⟨[(111,.lst 4 (fk m.ruls) .no),(112,.int .i64 m.ruls.length),(113,.int .i64 i)],ob,[]⟩=some (.x 4,⟨[],ob,[]⟩))/\
 (kr (m.ruls.drop i)≠0->∃z,run T (.loop tn) ⟨[(111,.lst 4 (fk m.ruls) .no),(112,.int .i64 m.ruls.length),(113,.int .i64 i)],ob,[]⟩=some (.r,⟨[(2,.int .i64 (kr (m.ruls.drop i)))],z,[]⟩)):=by
 intro n;induction n with
 |zero=>
  intro i h0 U;have:i=m.ruls.length:=by omega
  subst this;rw[bv];refine⟨fun _=> ?_,fun h=>absurd rfl h⟩;rw[al];simp only[go_sem,Q0,Q1,Q2,Q3,Q4,Q5,Q6,Q7,Q8,Q9,Qa,Qb,Qc,Qd,Qe,Qf,Qg,Qh,Qi,Qj,Qk,reduceCtorEq,reduceIte]
 |succ n ih=>
  intro i h0 U;have hi:i<m.ruls.length:=by omega
  obtain⟨i1,W⟩:=ih (i+1) (by omega) (by omega);have J:=cA i (by have:=Q.rn;omega);have O:=ek m.ruls;have F:=j6 m.ruls i hi;have hd:m.ruls.drop i=m.ruls.getD i rl0::m.ruls.drop (i+1):=by rw[aY hi,aa,ab hi];rfl
  have hb:=Q.r _ (dd m.ruls rl0 i hi);rw[hd];unfold kr;generalize m.ruls.drop (i+1)=R at*;generalize m.ruls.getD i rl0=x at*;obtain⟨mv,Z,m2,m3,m4,L,rs⟩:=m;obtain⟨k,t,lo,y⟩:=x;simp only[Man.sv,Rul.sv]at*;subst I;have g:=f44 k t lo y (by omega)
  by_cases h:vQ ⟨k,t,lo,y⟩=0
  ·rw[if_pos h]
   unfold vQ at h;simp only at h;rw[h]at g;refine⟨fun C=> ?_,fun C=> ?_⟩
   ·have E:=i1 C
    rw[al];simp only[go_sem,Q0,Q1,Q2,Q3,Q4,Q5,Q6,Q7,Q8,Q9,Qa,Qb,Qc,Qd,Qe,Qf,Qg,Qh,Qi,Qj,Qk,reduceCtorEq,reduceIte,hi,J,O,F,g,sW,E]
   ·obtain⟨z,H⟩:=W C
    refine⟨z, ?_⟩;rw[al];simp only[go_sem,Q0,Q1,Q2,Q3,Q4,Q5,Q6,Q7,Q8,Q9,Qa,Qb,Qc,Qd,Qe,Qf,Qg,Qh,Qi,Qj,Qk,reduceCtorEq,reduceIte,hi,J,O,F,g,sW,H]
  ·rw[if_neg h]
   unfold vQ at h ⊢;simp only at h ⊢;refine⟨fun C=>absurd C h,fun C=>⟨[(101,.rc [.str mv,.int .i64 Z,.int .i64 m2,.int .i64 m3,.int .i64 m4,.lst 4 (cd L) .no,.lst 4 (fk rs) .no]),(106,.rc [.int .i64 k,.str t,.int .i64 lo,.int .i64 y])], ?_⟩⟩;rw[al];simp only[go_sem,Q0,Q1,Q2,Q3,Q4,Q5,Q6,Q7,Q8,Q9,Qa,Qb,Qc,Qd,Qe,Qf,Qg,Qh,Qi,Qj,Qk,reduceCtorEq,reduceIte,hi,J,O,F,g,sW,h]
theorem f13(m:Man)(hm:gu m):call T 13 [.agg m.sv] [] 0=some ⟨.int .i64 (gJ m),[],[]⟩:=by
 have h:=f42 m.vendor;obtain⟨l1,l2⟩:=l13 m hm _ 0 rfl (by omega);obtain⟨r1,r2⟩:=xjV m hm _ rfl _ 0 rfl (by omega);have L:=cw m.ents;have W:=ek m.ruls;obtain⟨mv,m1,m2,m3,m4,F,rs⟩:=m;simp only[zm,Man.sv,aD,bh,Nat.sub_zero]at*;rw[au xlF];unfold gJ;simp only;cases a0:Pr.nameB mv with
 |false=>rw[a0]at h;simp only[go_sem,Q0,Q1,Q2,Q3,Q4,Q5,Q6,Q7,Q8,Q9,Qa,Qb,Qc,Qd,Qe,Qf,Qg,Qh,Qi,Qj,Qk,reduceCtorEq,reduceIte,h,m9,a0]
 |true=>
  rw[a0]at h
  by_cases y:m2<0
  ·simp only[go_sem,Q0,Q1,Q2,Q3,Q4,Q5,Q6,Q7,Q8,Q9,Qa,Qb,Qc,Qd,Qe,Qf,Qg,Qh,Qi,Qj,Qk,reduceCtorEq,reduceIte,h,m9,a0,y]
  by_cases z:m1<m2
  ·simp only[go_sem,Q0,Q1,Q2,Q3,Q4,Q5,Q6,Q7,Q8,Q9,Qa,Qb,Qc,Qd,Qe,Qf,Qg,Qh,Qi,Qj,Qk,reduceCtorEq,reduceIte,h,m9,a0,y,z]
  by_cases C:1000000<m1
  ·simp only[go_sem,Q0,Q1,Q2,Q3,Q4,Q5,Q6,Q7,Q8,Q9,Qa,Qb,Qc,Qd,Qe,Qf,Qg,Qh,Qi,Qj,Qk,reduceCtorEq,reduceIte,h,m9,a0,y,z,C]
  by_cases E:m3<0
  ·simp only[go_sem,Q0,Q1,Q2,Q3,Q4,Q5,Q6,Q7,Q8,Q9,Qa,Qb,Qc,Qd,Qe,Qf,Qg,Qh,Qi,Qj,Qk,reduceCtorEq,reduceIte,h,m9,a0,y,z,C,E]
  by_cases H:m4<=m3
  ·simp only[go_sem,Q0,Q1,Q2,Q3,Q4,Q5,Q6,Q7,Q8,Q9,Qa,Qb,Qc,Qd,Qe,Qf,Qg,Qh,Qi,Qj,Qk,reduceCtorEq,reduceIte,h,m9,a0,y,z,C,E,H]
  by_cases I:1099511627776<m4
  ·simp only[go_sem,Q0,Q1,Q2,Q3,Q4,Q5,Q6,Q7,Q8,Q9,Qa,Qb,Qc,Qd,Qe,Qf,Qg,Qh,Qi,Qj,Qk,reduceCtorEq,reduceIte,h,m9,a0,y,z,C,E,H,I]
  by_cases J:(16:Int)<F.length
  ·simp only[go_sem,Q0,Q1,Q2,Q3,Q4,Q5,Q6,Q7,Q8,Q9,Qa,Qb,Qc,Qd,Qe,Qf,Qg,Qh,Qi,Qj,Qk,reduceCtorEq,reduceIte,h,m9,a0,y,z,C,E,H,I,J,L]
  by_cases U:(8:Int)<rs.length
  ·simp only[go_sem,Q0,Q1,Q2,Q3,Q4,Q5,Q6,Q7,Q8,Q9,Qa,Qb,Qc,Qd,Qe,Qf,Qg,Qh,Qi,Qj,Qk,reduceCtorEq,reduceIte,h,m9,a0,y,z,C,E,H,I,J,U,L,W]
  by_cases Q:jG F F.length 0=0
  ·have O:=l1 Q
   by_cases b0:kr rs=0
   ·have b2:=r1 b0
    simp only[go_sem,Q0,Q1,Q2,Q3,Q4,Q5,Q6,Q7,Q8,Q9,Qa,Qb,Qc,Qd,Qe,Qf,Qg,Qh,Qi,Qj,Qk,reduceCtorEq,reduceIte,h,m9,a0,y,z,C,E,H,I,J,U,L,W,O,Q,b2,b0]
   ·obtain⟨ob,Z⟩:=r2 b0
    simp only[go_sem,Q0,Q1,Q2,Q3,Q4,Q5,Q6,Q7,Q8,Q9,Qa,Qb,Qc,Qd,Qe,Qf,Qg,Qh,Qi,Qj,Qk,reduceCtorEq,reduceIte,h,m9,a0,y,z,C,E,H,I,J,U,L,W,O,Q,Z]
  ·obtain⟨ob,b3⟩:=l2 Q
   simp only[go_sem,Q0,Q1,Q2,Q3,Q4,Q5,Q6,Q7,Q8,Q9,Qa,Qb,Qc,Qd,Qe,Qf,Qg,Qh,Qi,Qj,Qk,reduceCtorEq,reduceIte,h,m9,a0,y,z,C,E,H,I,J,U,L,W,b3,Q]
section
open SortT
theorem va:∀a:t6,Lib.compareBytes a a=0
 |[]=>rfl
 |x::r=>by have h:=va r;simp[Lib.compareBytes,h]
theorem Nf:∀a b c:t6,Lib.compareBytes a b<0->Lib.compareBytes b c<0->Lib.compareBytes a c<0
 |[],[],_,h,_=>by simp[Lib.compareBytes]at h
 |[],_::_,[],_,k=>by simp[Lib.compareBytes]at k
 |[],_::_,_::_,_,_=>by simp[Lib.compareBytes]
 |_::_,[],_,h,_=>by simp[Lib.compareBytes]at h
 |_::_,_::_,[],_,k=>by simp[Lib.compareBytes]at k
 |x::r,y::s,z::t,h,k=>by
  have H:=Nf r s t;unfold Lib.compareBytes at h k ⊢;have U:(x<y)=(x.toNat<y.toNat):=rfl;have O:(y<z)=(y.toNat<z.toNat):=rfl;have I:(x<z)=(x.toNat<z.toNat):=rfl;have T:(y<x)=(y.toNat<x.toNat):=rfl;have J:(z<y)=(z.toNat<y.toNat):=rfl;have L:(z<x)=(z.toNat<x.toNat):=rfl;simp only[U,O,I,T,J,L]at h k ⊢
  by_cases Q:x.toNat<y.toNat
  ·by_cases E:y.toNat<z.toNat
   ·rw[if_pos (by omega)];decide
   ·rw[if_neg E]at k
    by_cases C:z.toNat<y.toNat
    ·rw[if_pos C]at k;exact absurd k (by decide)
    ·rw[if_pos (by omega)];decide
  ·rw[if_neg Q]at h
   by_cases F:y.toNat<x.toNat
   ·rw[if_pos F]at h;exact absurd h (by decide)
   ·rw[if_neg F]at h
    by_cases E:y.toNat<z.toNat
    ·rw[if_pos (by omega)];decide
    ·rw[if_neg E]at k
     by_cases C:z.toNat<y.toNat
     ·rw[if_pos C]at k;exact absurd k (by decide)
     ·rw[if_neg C]at k
      rw[if_neg (by omega),if_neg (by omega)];exact H h k
theorem vb:∀{a b:t6},¬Lib.compareBytes a b<0->¬Lib.compareBytes a b=0->Lib.compareBytes b a<0
 |[],[],_,k=>absurd rfl k
 |[],_::_,h,_=>absurd (by simp[Lib.compareBytes]) h
 |_::_,[],_,_=>by simp[Lib.compareBytes]
 |x::r,y::s,h,k=>by
  unfold Lib.compareBytes at h k ⊢
  by_cases z:x<y
  ·rw[if_pos z]at h;exact absurd (by decide) h
  ·rw[if_neg z]at h k
   by_cases C:y<x
   ·rw[if_pos C];decide
   ·rw[if_neg C]at h k
    rw[if_neg C,if_neg z];exact vb h k
theorem yg(a:t6):¬bH a a=true:=fun h=>by have:=(eO a a).2 h;rw[va]at this;omega
theorem Yh{a b c:t6}(h:bH a b=true)(k:bH b c=true):bH a c=true:=(eO _ _).1 (Nf _ _ _ ((eO _ _).2 h) ((eO _ _).2 k))
theorem Ng{a b:t6}(h:¬bH a b=true)(k:¬bH b a=true):a=b:=by refine(iC a b).1 (Classical.byContradiction fun e=> ?_);exact k ((eO _ _).1 (vb (fun y=>h ((eO _ _).1 y)) e))
theorem sD(x y:Ent):eE x y=true↔x.role<y.role\/(x.role=y.role/\(bH x.name y.name=true\/(x.name=y.name/\(x.ver<y.ver\/(x.ver=y.ver/\bH x.dig y.dig=true))))):=by
 unfold eE
 by_cases z:x.role=y.role
 ·rw[if_pos z]
  by_cases C:x.name=y.name
  ·rw[if_pos C]
   have n2:¬bH x.name y.name=true:=by rw[C];exact yg _
   by_cases E:x.ver=y.ver
   ·rw[if_pos E]
    constructor
    ·intro h;exact .inr ⟨z,.inr ⟨C,.inr ⟨E,h⟩⟩⟩
    ·rintro(h|⟨-,h|⟨-,h|⟨-,h⟩⟩⟩)
     ·omega
     ·exact absurd h n2
     ·omega
     ·exact h
   ·rw[if_neg E,decide_eq_true_eq]
    constructor
    ·intro h;exact .inr ⟨z,.inr ⟨C,.inl h⟩⟩
    ·rintro(h|⟨-,h|⟨-,h|⟨h, -⟩⟩⟩)
     ·omega
     ·exact absurd h n2
     ·exact h
     ·exact absurd h E
  ·rw[if_neg C]
   constructor
   ·intro h;exact .inr ⟨z,.inl h⟩
   ·rintro(h|⟨-,h|⟨h, -⟩⟩)
    ·omega
    ·exact h
    ·exact absurd h C
 ·rw[if_neg z,decide_eq_true_eq]
  constructor
  ·intro h;exact .inl h
  ·rintro(h|⟨h, -⟩)
   ·exact h
   ·exact absurd h z
theorem nI:SO eE where
 irr:=fun x=>by
  cases h:eE x x with
  |false=>rfl
  |true=>
   rcases (sD x x).1 h with h|⟨-,h|⟨-,h|⟨-,h⟩⟩⟩
   ·omega
   ·exact absurd h (yg _)
   ·omega
   ·exact absurd h (yg _)
 tr:=fun x y z E C=>by
  rw[sD]at E C ⊢;rcases E with E|⟨F,E⟩
  ·rcases C with C|⟨H,C⟩
   ·left;omega
   ·left;omega
  ·rcases C with C|⟨H,C⟩
   ·left;omega
   ·refine .inr ⟨F.trans H, ?_⟩
    rcases E with E|⟨n1,E⟩
    ·rcases C with C|⟨n2,C⟩
     ·exact .inl (Yh E C)
     ·rw[n2]at E;exact .inl E
    ·rcases C with C|⟨n2,C⟩
     ·rw[<-n1]at C;exact .inl C
     ·refine .inr ⟨n1.trans n2, ?_⟩
      rcases E with E|⟨v1,E⟩
      ·rcases C with C|⟨J,C⟩
       ·left;omega
       ·left;omega
      ·rcases C with C|⟨J,C⟩
       ·left;omega
       ·exact .inr ⟨v1.trans J,Yh E C⟩
 tri:=fun x y E C=>by
  have n1:¬eE x y=true:=by rw[E];simp
  have n2:¬eE y x=true:=by rw[C];simp
  rw[sD]at n1 n2
  have F:x.role=y.role:=by
   have a:¬x.role<y.role:=fun h=>n1 (.inl h)
   have b:¬y.role<x.role:=fun h=>n2 (.inl h)
   omega
  have H:x.name=y.name:=Ng (fun h=>n1 (.inr ⟨F,.inl h⟩)) (fun h=>n2 (.inr ⟨F.symm,.inl h⟩))
  have I:x.ver=y.ver:=by
   have a:¬x.ver<y.ver:=fun h=>n1 (.inr ⟨F,.inr ⟨H,.inl h⟩⟩)
   have b:¬y.ver<x.ver:=fun h=>n2 (.inr ⟨F.symm,.inr ⟨H.symm,.inl h⟩⟩)
   omega
  have L:x.dig=y.dig:=Ng (fun h=>n1 (.inr ⟨F,.inr ⟨H,.inr ⟨I,h⟩⟩⟩)) (fun h=>n2 (.inr ⟨F.symm,.inr ⟨H.symm,.inr ⟨I.symm,h⟩⟩⟩));obtain⟨r,n,v,d⟩:=x;obtain⟨O,n2,J,d2⟩:=y;simp only at F H I L;subst F;subst H;subst I;subst L;rfl
def eqE(x y:Ent):Bool:=decide (r6 x y=0)
theorem Qw(x y:Ent):eqE x y=true↔x=y:=by
 unfold eqE;rw[decide_eq_true_eq];constructor
 ·intro h
  have L:¬eE x y=true:=fun k=>by have:=(r5 x y).2 k;omega
  refine nI.tri x y (by simpa using L) ?_;unfold r6 orI at h;obtain⟨r,n,v,d⟩:=x;obtain⟨Q,n2,O,d2⟩:=y;simp only at h
  by_cases C:rq r Q=0
  ·rw[if_neg (by simp[C])]at h
   by_cases E:Lib.compareBytes n n2=0
   ·rw[if_neg (by simp[E])]at h
    by_cases z:rq v O=0
    ·rw[if_neg (by simp[z])]at h
     have H:=(iB _ _).1 C;have I:=(iC _ _).1 E;have F:=(iB _ _).1 z;have J:=(iC _ _).1 h;subst H;subst I;subst F;subst J;exact nI.irr _
    ·rw[if_pos z]at h;exact absurd h z
   ·rw[if_pos E]at h;exact absurd h E
  ·rw[if_pos C]at h;exact absurd h C
 ·rintro rfl
  unfold r6 orI;have H:=(iB x.role x.role).2 rfl;have I:=(iC x.name x.name).2 rfl;have F:=(iB x.ver x.ver).2 rfl;have J:=(iC x.dig x.dig).2 rfl;rw[H,I,F,J];rfl
structure pd(x:Ent):Prop where
 r1:1<=x.role
 r3:x.role<=3
 v0:0<=x.ver
 v1:x.ver<=1000000
 d:x.dig.length=32
 n:Pr.nameB x.name=true
theorem FP{l:List Ent}(h:∀x∈l,pd x)(C:Str eE l)(i:Nat)(hi:i<l.length):qe l i=0:=by
 obtain⟨F,J,I,L,H,E⟩:=h _ (dd l en0 i hi);unfold qe;rw[if_neg (by omega),if_neg (by omega),if_neg (by omega),if_neg (by omega),if_pos (by omega),if_pos E]
 by_cases y:i=0
 ·rw[if_pos y]
 ·have z:eE (l.getD (i-1) en0) (l.getD i en0)=true:=by
   have:=nR.1 C (i-1) i (by omega) hi (by omega);rw[aa,aa,ab (by omega),ab hi];exact this
  rw[if_neg y,if_pos z]
theorem re{l:List Ent}(h:∀x∈l,pd x)(y:Str eE l):∀(n i:Nat),i+n<=l.length->jG l n i=0
 |0,_,_=>rfl
 |n+1,i,hi=>by unfold jG;rw[if_pos (FP h y i (by omega))];exact re h y n (i+1) (by omega)
theorem qF:∀{l:List Rul},(∀r∈l,vQ r=0)->kr l=0
 |[],_=>rfl
 |r::t,h=>by unfold kr;rw[if_pos (h r aw)];exact qF fun x y=>h x (an _ y)
theorem po{m:Man}(h:Pr.nameB m.vendor=true)(L:0<=m.flr)(I:m.flr<=m.ver)(Q:m.ver<=1000000)(J:0<=m.frm)(O:m.frm<m.til)(F:m.til<=1099511627776)(H:m.ents.length<=16)(E:m.ruls.length<=8)
 (C:∀x∈m.ents,pd x) (z:Str eE m.ents) (y:∀r∈m.ruls,vQ r=0):gJ m=0:=by
 unfold gJ;rw[if_pos h,if_neg (by omega),if_neg (by omega),if_neg (by omega),if_neg (by omega),if_neg (by omega),if_neg (by omega),if_neg (by omega),if_neg (by omega),if_pos (re C z _ 0 (by omega))];exact qF y
end
section
open SortT
theorem lc(n:Int):(dj n).toNat<cs0.length:=by have:cs0.length=256:=rfl;have:=(dj n).toNat_lt;omega
theorem xfP(n:Nat)(hn:n<=12):∃k:Int,call T 167 [.int .u64 n] [] 0=some ⟨.int .i64 k,[],[]⟩:=by
 have h:¬(4294967296:Int)<=n:=by omega
 have z:¬(65536:Int)<=n:=by omega
 have y:¬(256:Int)<=n:=by omega
 have C:=lc (n:Int);rw[au Yn];simp only[go_sem,Q0,Q1,Q2,Q3,Q4,Q5,Q6,Q7,Q8,Q9,Qa,Qb,Qc,Qd,Qe,Qf,Qg,Qh,Qi,Qj,Qk,reduceCtorEq,reduceIte,h,z,y,C];exact⟨_,rfl⟩
theorem xim(n:Nat)(hn:n<=12):∃k:Int,call T 136 [.int .u64 n] [] 0=some ⟨.int .i64 k,[],[]⟩:=by obtain⟨k,g⟩:=xfP n hn;refine⟨k, ?_⟩;rw[au xgo];simp only[go_sem,Q0,Q1,Q2,Q3,Q4,Q5,Q6,Q7,Q8,Q9,Qa,Qb,Qc,Qd,Qe,Qf,Qg,Qh,Qi,Qj,Qk,reduceCtorEq,reduceIte,g,jJ]
theorem pE(L:List Ent)(i:Nat)(x:Ent):cd (L.set i x)=(cd L).set i x.sv:=by unfold cd;rw[List.map_set]
def Dz(L:List Ent)(i j:Nat):CSt:=⟨[(0,.psl 0 4 0 L.length none),(1,.int .i64 0),(2,.int .i64 L.length),(3,.fn 43 [] []),(8,.int .i64 i),(9,.int .i64 j)],[(0,.arr 4 (cd L))],[]⟩
theorem xjR(i:Nat):∀(j:Nat)(L:List Ent),j<L.length->L.length<=1000000->
 run T (.loop xM) (Dz L i j)=some (.x 2,⟨[(0,.psl 0 4 0 L.length none),(1,.int .i64 0),(2,.int .i64 L.length),(3,.fn 43 [] []),(8,.int .i64 i)],[(0,.arr 4 (cd (bub eE en0 j L)))],[]⟩):=by
 intro j;induction j with
 |zero=>intro L J hn;rw[Dz,al];simp only[go_sem,Q0,Q1,Q2,Q3,Q4,Q5,Q6,Q7,Q8,Q9,Qa,Qb,Qc,Qd,Qe,Qf,Qg,Qh,Qi,Qj,Qk,reduceCtorEq,reduceIte,bub,aD,Int.lt_irrefl]
 |succ j ih=>
  intro L J hn;have hv:=cw L;have W:(0:Int)<((j+1:Nat):Int):=by omega
  have e1:ai.wrap (((j+1:Nat):Int)-1)=(j:Int):=wZ (by omega)
  have C:j<L.length:=by omega
  have O:=dM L (j+1) J;have I:=dM L j C;have g:=f43 (L.getD (j+1) en0) (L.getD j en0);have F:=r5 (L.getD (j+1) en0) (L.getD j en0);have z:=ih (swp en0 L (j+1)) (by rw[nV];exact C) (by rw[nV];exact hn);unfold bub;unfold Dz at z ⊢;rw[nV]at z;unfold swp at z ⊢;rw[jv]at z ⊢;rw[pE,pE]at z;generalize L.getD (j+1) en0=x at*;generalize L.getD j en0=y at*;obtain⟨x1,x2,Q,x4⟩:=x;obtain⟨y1,Z,U,y4⟩:=y
  by_cases H:eE ⟨x1,x2,Q,x4⟩ ⟨y1,Z,U,y4⟩=true
  ·rw[if_pos H]
   have E:=F.2 H;simp only[Ent.sv]at g O I z;rw[al];simp only[go_sem,Q0,Q1,Q2,Q3,Q4,Q5,Q6,Q7,Q8,Q9,Qa,Qb,Qc,Qd,Qe,Qf,Qg,Qh,Qi,Qj,Qk,reduceCtorEq,reduceIte,W,e1,hv,J,C,O,I,g,Rm,E,dh,z]
  ·rw[if_neg H]
   have E:¬r6 ⟨x1,x2,Q,x4⟩ ⟨y1,Z,U,y4⟩<0:=fun h=>H (F.1 h)
   simp only[Ent.sv]at g O I;rw[al];simp only[go_sem,Q0,Q1,Q2,Q3,Q4,Q5,Q6,Q7,Q8,Q9,Qa,Qb,Qc,Qd,Qe,Qf,Qg,Qh,Qi,Qj,Qk,reduceCtorEq,reduceIte,W,e1,hv,J,C,O,I,g,Rm,E]
theorem xfu:∀(m i:Nat)(L:List Ent),i+m=L.length->L.length<=1000000->
 run T (.loop xL) ⟨[(0,.psl 0 4 0 L.length none),(1,.int .i64 0),(2,.int .i64 L.length),(3,.fn 43 [] []),(8,.int .i64 i)],[(0,.arr 4 (cd L))],[]⟩=
  some (.x 0,⟨[],[(0,.arr 4 (cd (isr eE en0 m i L)))],[]⟩):=by
 intro m;induction m with
 |zero=>
  intro i L C hn;have:i=L.length:=by omega
  subst this;rw[al];simp only[go_sem,Q0,Q1,Q2,Q3,Q4,Q5,Q6,Q7,Q8,Q9,Qa,Qb,Qc,Qd,Qe,Qf,Qg,Qh,Qi,Qj,Qk,reduceCtorEq,reduceIte,isr,Int.lt_irrefl]
 |succ m E=>
  intro i L C hn;have hi:i<L.length:=by omega
  have y:(i:Int)<(L.length:Int):=by omega
  have F:=cA i (by omega);have z:=xjR i i L hi hn;unfold Dz at z;have h:=E (i+1) (bub eE en0 i L) (by rw[mn];omega) (by rw[mn];exact hn);rw[mn]at h;unfold isr;rw[al];simp only[go_sem,Q0,Q1,Q2,Q3,Q4,Q5,Q6,Q7,Q8,Q9,Qa,Qb,Qc,Qd,Qe,Qf,Qg,Qh,Qi,Qj,Qk,reduceCtorEq,reduceIte,hi,y,F,z,h]
theorem xkg(L:List Ent)(y:0<L.length)(hn:L.length<=1000000):
 call T 158 [.psl 0 4 0 L.length none,.int .i64 0,.int .i64 L.length,.fn 43 [] []] [.arr 4 (cd L)] 0=some ⟨.tup [],[(0,.arr 4 (cd (isr eE en0 (L.length-1) 1 L)))],[]⟩:=by
 have h:=xfu (L.length-1) 1 L (by omega) hn;have k1:ai.wrap 1=1:=rfl;rw[show((1:Nat):Int)=1 from rfl]at h;rw[au Yo];simp only[go_sem,Q0,Q1,Q2,Q3,Q4,Q5,Q6,Q7,Q8,Q9,Qa,Qb,Qc,Qd,Qe,Qf,Qg,Qh,Qi,Qj,Qk,reduceCtorEq,reduceIte,k1,h]
theorem xkr(L:List Ent)(y:0<L.length)(hn:L.length<=12)(k:Int):
 call T 135 [.psl 0 4 0 L.length none,.int .i64 0,.int .i64 L.length,.int .i64 k,.fn 43 [] []] [.arr 4 (cd L)] 0=some ⟨.tup [],[(0,.arr 4 (cd (isr eE en0 (L.length-1) 1 L)))],[]⟩:=by
 have g:=xkg L y (by omega);have z:ai.wrap ((L.length:Int)-0)=(L.length:Int):=wZ (by omega)
 have h:(L.length:Int)<=12:=by omega
 rw[au Yp];simp only[go_sem,Q0,Q1,Q2,Q3,Q4,Q5,Q6,Q7,Q8,Q9,Qa,Qb,Qc,Qd,Qe,Qf,Qg,Qh,Qi,Qj,Qk,reduceCtorEq,reduceIte];rw[al];simp only[go_sem,Q0,Q1,Q2,Q3,Q4,Q5,Q6,Q7,Q8,Q9,Qa,Qb,Qc,Qd,Qe,Qf,Qg,Qh,Qi,Qj,Qk,reduceCtorEq,reduceIte,z,h,hn,g,Yw]
theorem f92(L:List Ent)(h:0<L.length)(hn:L.length<=12):
 call T 92 [.psl 0 4 0 L.length none,.fn 43 [] []] [.arr 4 (cd L)] 0=some ⟨.tup [],[(0,.arr 4 (cd (isr eE en0 (L.length-1) 1 L)))],[]⟩:=by
 obtain⟨k,z⟩:=xim L.length hn;have y:=xkr L h hn k;have C:aZ.wrap (L.length:Int)=(L.length:Int):=by rw[cn];omega
 rw[au xiE];simp only[go_sem,Q0,Q1,Q2,Q3,Q4,Q5,Q6,Q7,Q8,Q9,Qa,Qb,Qc,Qd,Qe,Qf,Qg,Qh,Qi,Qj,Qk,reduceCtorEq,reduceIte,C,z,Yz,y,YA]
theorem xfQ:call T 158 [.lst 4 [] .no,.int .i64 0,.int .i64 0,.fn 43 [] []] [] 0=some ⟨.tup [],[],[]⟩:=by have k1:ai.wrap 1=1:=rfl;rw[au Yo];simp only[go_sem,Q0,Q1,Q2,Q3,Q4,Q5,Q6,Q7,Q8,Q9,Qa,Qb,Qc,Qd,Qe,Qf,Qg,Qh,Qi,Qj,Qk,reduceCtorEq,reduceIte,k1];rw[al];simp only[go_sem,Q0,Q1,Q2,Q3,Q4,Q5,Q6,Q7,Q8,Q9,Qa,Qb,Qc,Qd,Qe,Qf,Qg,Qh,Qi,Qj,Qk,reduceCtorEq,reduceIte,k1]
theorem xj8:call T 92 [.lst 4 [] .no,.fn 43 [] []] [] 0=some ⟨.tup [],[],[]⟩:=by
 obtain⟨k,z⟩:=xim 0 (by omega);have E:=xfQ;have y:ai.wrap 0=0:=rfl;have h:aZ.wrap 0=0:=rfl;rw[aD]at z
 have C:call T 135 [.lst 4 [] .no,.int .i64 0,.int .i64 0,.int .i64 k,.fn 43 [] []] [] 0=some ⟨.tup [],[],[]⟩:=by rw[au Yp];simp only[go_sem,Q0,Q1,Q2,Q3,Q4,Q5,Q6,Q7,Q8,Q9,Qa,Qb,Qc,Qd,Qe,Qf,Qg,Qh,Qi,Qj,Qk,reduceCtorEq,reduceIte];rw[al];simp only[go_sem,Q0,Q1,Q2,Q3,Q4,Q5,Q6,Q7,Q8,Q9,Qa,Qb,Qc,Qd,Qe,Qf,Qg,Qh,Qi,Qj,Qk,reduceCtorEq,reduceIte,y,E,Yw]
 rw[au xiE];simp only[go_sem,Q0,Q1,Q2,Q3,Q4,Q5,Q6,Q7,Q8,Q9,Qa,Qb,Qc,Qd,Qe,Qf,Qg,Qh,Qi,Qj,Qk,reduceCtorEq,reduceIte,y,h,z,Yz,C,YA,aD]
theorem f94(x y:Ent):call T 94 [.agg x.sv,.agg y.sv] [] 0=some ⟨.bool (eqE x y),[],[]⟩:=by have g:=f43 x y;obtain⟨r,n,v,d⟩:=x;obtain⟨h,n2,z,d2⟩:=y;simp only[Ent.sv]at*;rw[au xkT];unfold eqE;simp only[go_sem,Q0,Q1,Q2,Q3,Q4,Q5,Q6,Q7,Q8,Q9,Qa,Qb,Qc,Qd,Qe,Qf,Qg,Qh,Qi,Qj,Qk,reduceCtorEq,reduceIte,g,Rm]
theorem xjz(n:Nat)(hn:n<=1000)(h:Nat):∀(m:Nat)(B:List Ent)(k k2:Nat),B.length=n->h+k2+m=n->1<=k2->k<h+k2->
 run T (.loop xk) ⟨[(0,.psl 0 4 0 n none),(1,.fn 94 [] []),(5,.int .i64 k),(6,.psl 0 4 h (n-h) none),(7,.int .i64 k2)],[(0,.arr 4 (cd B))],[]⟩=
  some (.x 2,⟨[(0,.psl 0 4 0 n none),(5,.int .i64 ((inn eqE en0 m B k (h+k2)).2:Nat))],[(0,.arr 4 (cd (inn eqE en0 m B k (h+k2)).1))],[]⟩):=by
 intro m;induction m with
 |zero=>
  intro B k k2 H h2 h3 h4;have:¬k2<n-h:=by omega
  rw[al];simp only[go_sem,Q0,Q1,Q2,Q3,Q4,Q5,Q6,Q7,Q8,Q9,Qa,Qb,Qc,Qd,Qe,Qf,Qg,Qh,Qi,Qj,Qk,reduceCtorEq,reduceIte,inn,this]
 |succ m Z=>
  intro B k k2 H h2 h3 h4;have hc:k2<n-h:=by omega
  have F:k2-1<n-h:=by omega
  have Q:h+k2<B.length:=by omega
  have C:h+(k2-1)<B.length:=by omega
  have W:=cw B;have O:=dM B (h+k2) Q;have J:=dM B (h+(k2-1)) C;have e1:ai.wrap ((k2:Int)-1)=((k2-1:Nat):Int):=wZ (by omega)
  have U:=cA k2 (by omega);have e3:=cA k (by omega);have g:=f94 (B.getD (h+k2) en0) (B.getD (h+(k2-1)) en0);have E:=Z B k (k2+1) H (by omega) (by omega) (by omega);have z:=Z (B.set k (B.getD (h+k2) en0)) (k+1) (k2+1) (by rw[dh];exact H) (by omega) (by omega) (by omega);have I:h+k2-1=h+(k2-1):=by omega
  have hk:k<B.length:=by omega
  have L:k<n:=by omega
  unfold inn;rw[I];rw[pE]at z;rw[show h+(k2+1)=h+k2+1 from by omega]at E z;generalize B.getD (h+k2) en0=x at*;generalize B.getD (h+(k2-1)) en0=y at*;obtain⟨x1,x2,x3,x4⟩:=x;obtain⟨y1,y2,y3,y4⟩:=y;simp only[Ent.sv]at g O J z;cases hq:eqE ⟨x1,x2,x3,x4⟩ ⟨y1,y2,y3,y4⟩with
  |true=>rw[hq]at g;rw[if_pos rfl];rw[al];simp only[go_sem,Q0,Q1,Q2,Q3,Q4,Q5,Q6,Q7,Q8,Q9,Qa,Qb,Qc,Qd,Qe,Qf,Qg,Qh,Qi,Qj,Qk,reduceCtorEq,reduceIte,hc,F,Q,C,W,O,J,e1,U,g,Rl,E]
  |false=>rw[hq]at g;rw[if_neg (by simp)];rw[al];simp only[go_sem,Q0,Q1,Q2,Q3,Q4,Q5,Q6,Q7,Q8,Q9,Qa,Qb,Qc,Qd,Qe,Qf,Qg,Qh,Qi,Qj,Qk,reduceCtorEq,reduceIte,hc,F,Q,C,W,O,J,e1,U,e3,g,Rl,hk,L,dh,z]
theorem l93(S:List Ent)(hn:S.length<=1000):∀(m k:Nat),k+m=S.length->1<=k->S.take k++cp eqE (S.getD (k-1) en0) (S.drop k)=cpt eqE S->
 (cpt eqE S=S/\run T (.loop s9) ⟨[(0,.psl 0 4 0 S.length none),(1,.fn 94 [] []),(5,.int .i64 k)],[(0,.arr 4 (cd S))],[]⟩=
  some (.x 0,⟨[(0,.psl 0 4 0 S.length none)],[(0,.arr 4 (cd S))],[]⟩))\/
 (∃(R:f8)(h:Nat),R.length=S.length/\h<=S.length/\R.take h=cd (cpt eqE S)/\run T (.loop s9) ⟨[(0,.psl 0 4 0 S.length none),(1,.fn 94 [] []),(5,.int .i64 k)],[(0,.arr 4 (cd S))],[]⟩=
  some (.r,⟨[(4,.psl 0 4 0 h none)],[(0,.arr 4 R)],[]⟩)):=by
 intro m;induction m with
 |zero=>
  intro k h1 Z Q;have:k=S.length:=by omega
  subst this;refine .inl ⟨QS eqE en0 S Q, ?_⟩;rw[al];simp only[go_sem,Q0,Q1,Q2,Q3,Q4,Q5,Q6,Q7,Q8,Q9,Qa,Qb,Qc,Qd,Qe,Qf,Qg,Qh,Qi,Qj,Qk,reduceCtorEq,reduceIte]
 |succ m ih=>
  intro k h1 Z Q;have I:k<S.length:=by omega
  have C:k-1<S.length:=by omega
  have hv:=cw S;have O:=dM S k I;have L:=dM S (k-1) C;have e1:ai.wrap ((k:Int)-1)=((k-1:Nat):Int):=wZ (by omega)
  have e3:=cA k (by omega);have g:=f94 (S.getD k en0) (S.getD (k-1) en0);have a1:=fun hy=>xcT eqE en0 S k Z I Q hy
  have a0:=fun hy=>xcU eqE en0 S k Z I Q hy
  have H:=xjz S.length hn k (S.length-(k+1)) S k 1 rfl (by omega) (aN _) (by omega);obtain⟨F,J⟩:=sj eqE en0 (S.length-(k+1)) S k (k+1);generalize S.getD k en0=x at*;generalize S.getD (k-1) en0=y at*;cases hq:eqE x y with
  |true=>
   have E:=a1 hq;right;generalize inn eqE en0 (S.length-(k+1)) S k (k+1)=z at*;obtain⟨B,h⟩:=z;simp only at E F J H;have W:=cw B;have c1:h<=S.length:=by omega
   have c2:0<S.length-h:=by omega
   have c3:h+(S.length-h)<=B.length:=by omega
   have c4:k<=S.length:=by omega
   have c5:h+(S.length-h)<=S.length:=by omega
   rw[hq]at g;obtain⟨x1,x2,x3,x4⟩:=x;obtain⟨y1,y2,y3,y4⟩:=y;simp only[Ent.sv]at g O L;rw[show((1:Nat):Int)=1 from rfl]at H;refine⟨(cd B).take h++ao (S.length-h) [.int .i64 0,.str [],.int .i64 0,.byt [] .no]++(cd B).drop (h+(S.length-h)),h, ?_,c1, ?_, ?_⟩
   ·rw[af,af,aA,bO,aL];omega
   ·rw[ax,List.take_append_of_le_length (by rw[aA];omega),List.take_take,Nat.min_self,<-E,cd,cd,List.map_take]
   ·rw[al]
    simp only[go_sem,Q0,Q1,Q2,Q3,Q4,Q5,Q6,Q7,Q8,Q9,Qa,Qb,Qc,Qd,Qe,Qf,Qg,Qh,Qi,Qj,Qk,reduceCtorEq,reduceIte,I,C,hv,O,L,e1,g,Rl,c4,H,c1,c2,c3,W,F,c5,Nat.sub_zero]
  |false=>
   rw[hq]at g;have U:=ih (k+1) (by omega) (by omega) (a0 (by rw[hq];simp));obtain⟨x1,x2,x3,x4⟩:=x;obtain⟨y1,y2,y3,y4⟩:=y;simp only[Ent.sv]at g O L;rcases U with⟨q1,q2⟩|⟨R,h,q1,q2,q3,q4⟩
   ·refine .inl ⟨q1, ?_⟩
    rw[al];simp only[go_sem,Q0,Q1,Q2,Q3,Q4,Q5,Q6,Q7,Q8,Q9,Qa,Qb,Qc,Qd,Qe,Qf,Qg,Qh,Qi,Qj,Qk,reduceCtorEq,reduceIte,I,C,hv,O,L,e1,e3,g,Rl,q2]
   ·refine .inr ⟨R,h,q1,q2,q3, ?_⟩
    rw[al];simp only[go_sem,Q0,Q1,Q2,Q3,Q4,Q5,Q6,Q7,Q8,Q9,Qa,Qb,Qc,Qd,Qe,Qf,Qg,Qh,Qi,Qj,Qk,reduceCtorEq,reduceIte,I,C,hv,O,L,e1,e3,g,Rl,q4]
theorem f93(S:List Ent)(I:0<S.length)(hn:S.length<=1000):∃(R:f8)(C:Nat),R.length=S.length/\C<=S.length/\R.take C=cd (cpt eqE S)/\
 call T 93 [.psl 0 4 0 S.length none,.fn 94 [] []] [.arr 4 (cd S)] 0=some ⟨.psl 0 4 0 C none,[(0,.arr 4 R)],[]⟩:=by
 have z:=cw S
 by_cases E:S.length<2
 ·have y:(S.length:Int)<2:=by omega
  refine⟨cd S,S.length,z,aN _, ?_, ?_⟩
  ·have:cpt eqE S=S:=by
    match S,I,E with
    |[x],_,_=>rfl
    |_::_::_,_,h=>simp only[ay]at h;omega
   rw[this,<-z,bB]
  ·rw[au Ym]
   simp only[go_sem,Q0,Q1,Q2,Q3,Q4,Q5,Q6,Q7,Q8,Q9,Qa,Qb,Qc,Qd,Qe,Qf,Qg,Qh,Qi,Qj,Qk,reduceCtorEq,reduceIte,z,E,y]
 ·have y:¬(S.length:Int)<2:=by omega
  have J:S.take 1++cp eqE (S.getD (1-1) en0) (S.drop 1)=cpt eqE S:=by
   match S,I with
   |x::r,_=>rfl
  have h:=l93 S hn (S.length-1) 1 (by omega) (aN _) J;rw[show((1:Nat):Int)=1 from rfl]at h;rcases h with⟨H,F⟩|⟨R,C,H,F,q3,q4⟩
  ·refine⟨cd S,S.length,z,aN _,by rw[H,<-z,bB], ?_⟩
   rw[au Ym];simp only[go_sem,Q0,Q1,Q2,Q3,Q4,Q5,Q6,Q7,Q8,Q9,Qa,Qb,Qc,Qd,Qe,Qf,Qg,Qh,Qi,Qj,Qk,reduceCtorEq,reduceIte,z,E,y,F]
  ·refine⟨R,C,H,F,q3, ?_⟩
   rw[au Ym];simp only[go_sem,Q0,Q1,Q2,Q3,Q4,Q5,Q6,Q7,Q8,Q9,Qa,Qb,Qc,Qd,Qe,Qf,Qg,Qh,Qi,Qj,Qk,reduceCtorEq,reduceIte,z,E,y,q4]
theorem xj7:call T 93 [.lst 4 [] .no,.fn 94 [] []] [] 0=some ⟨.lst 4 [] .no,[],[]⟩:=by rw[au Ym];simp only[go_sem,Q0,Q1,Q2,Q3,Q4,Q5,Q6,Q7,Q8,Q9,Qa,Qb,Qc,Qd,Qe,Qf,Qg,Qh,Qi,Qj,Qk,reduceCtorEq,reduceIte]
end
end Go.Proofs.YtkcjdeofknkndaaGreatDoor
