/- A sound engine for Go code. No condition. -/
import Derived.Test.YtmhhnklkcmpdkaaGreatDoorEbPR
import Derived.Below
import Derived.Carry
import Derived.ChangeSlices
import Derived.JoinedCond
import Derived.OpenShut
import Derived.RowKit3
import Derived.SliceStrings
import Derived.Lib.Bytealg
import Derived.Lib.BytesEntry
import Derived.Laws.IdiomCopy
import Derived.Maps.OwnOps
import Derived.Maps.OwnSet
import Derived.Shelf.Spec.SlicesInsertGrow
open Array renaming getD -> lU, getElem?_eq_some_iff -> cz, getElem?_toList -> dy, length_toList -> bf, replicate -> eE
open Bool renaming and_eq_true -> aE, false_eq_true -> aP, not_eq_true' -> dE, not_true -> vq, or_eq_true -> kg
open Go.IntKind renaming bits -> ll, signed -> iW
open List renaming Nodup -> Bm, Pairwise -> gx, Sublist -> qE, all_eq_true -> aZ, append_nil -> bO, cons_append -> aL, contains_eq_mem -> fV, filter_cons -> fb, filter_eq_self -> gF, getD_cons_succ -> cZ, getD_eq_getElem?_getD -> aa, getElem?_drop -> bH, getElem?_eq_getElem -> ac, getElem?_eq_none -> fI, getElem?_map -> aR, getElem?_range -> cN, getElem?_take -> bZ, getElem_mem -> aF, getElem_of_mem -> cr, length -> uZ, length_append -> af, length_cons -> ai, length_drop -> aQ, length_eq_zero_iff -> cD, length_map -> av, length_take -> aw, map_append -> b9, map_cons -> ax, mem_append -> am, mem_cons -> aq, mem_cons_of_mem -> an, mem_cons_self -> aD, mem_filter -> dY, mem_map -> aS, mem_map_of_mem -> co, mem_range -> gO, mem_singleton -> bC, nil_append -> aA, nodup_cons -> fT, pairwise_append -> iQ, pairwise_cons -> bY, pairwise_iff_getElem -> rx, pairwise_map -> iu, range -> bQ, replicate -> aB
open Nat renaming le_refl -> aM, le_trans -> fi, lt_or_ge -> bq, mod_eq_of_lt -> ek
open Option renaming bind_some -> dm, getD_some -> bn, ite_none_right_eq_some -> bg, map_eq_some_iff -> aj, map_some -> bz, some -> ay
open Prod renaming fst -> cV, mk -> bA
open Go.Result renaming andThen_ok -> ao
open Go.Sem renaming run_bind -> aH, run_pure -> aU
open UInt8 renaming ofNat -> eL
set_option linter.unusedVariables false
set_option linter.unusedSimpArgs false
set_option linter.unnecessarySimpa false
set_option linter.unusedSectionVars false
namespace Go.Sy
variable [bl]
variable {P:Program}{C:Ctx}{x:Sit}{a:Act}{w:World}{N:Nat}{c c':CSt}{s:St}{call:dt}{sg:Nat -> Sig}
variable {ops:Array Oper}{its σ:List FI}{b:List Nat}{cF:CSt}{listed:Array Bool}
structure Nf(P:Program)(N:Nat)(ops:Array Oper)(its:List FI)(b:List Nat):Prop where
 item:∀f∈its,∃o,ops[f.n]? =some o/\ia P ops o=some f.i.er/\f.n<ops.size
 ex:∀j,j<ops.size->∃f∈its,f.n=j
 inj:∀f∈its,∀g∈its,f.n=g.n->f=g
 back:∀(i:Nat)(o:Oper),ops[i]? =some o->∀e∈o.after,Region.binds .any e=true->e.on<i
 bit:∀(i:Nat)(o:Oper)(k:Nat),ops[i]? =some o->k<ops.size->(b.getD i 0).testBit k=true->∃e∈o.after,Region.binds .any e=true/\(e.on=k\/(b.getD e.on 0).testBit k=true)
 ok:∀f∈its,f.i.ok N=true
 self:∀f∈its,CA f
 rd:∀q∈its,q.q=true->∀p∈its,∀d,q.i.dst=some d->d∈p.i.rds->(b.getD p.n 0).testBit q.n=true
structure T1(its:List FI)(b:List Nat)(σ:List FI):Prop where
 mem:∀f,f∈σ↔f∈its
 nd:(σ.map FI.n).Nodup
 nx:σ.Pairwise Nx
 seg:∀pre f r,σ=pre++f::r->f.q=false->∀g∈r,g.q=true->∃h∈f::r,(b.getD g.n 0).testBit h.n=true
open Classical in
theorem Hz(hs:listed.size=ops.size){y g:FI}(I:Nf P N ops its b)(hit:y∈its)(z:g∈its)(hi:y.n<ops.size):(listed.setIfInBounds y.n true).getD g.n true=if g=y then true else listed.getD g.n true:=by
 rw[iF (by omega)]
 by_cases h:g=y
 ·subst h;simp
 ·rw[if_neg (fun e=>h (I.inj g z y hit e)),if_neg h]
theorem H4(I:Nf P N ops its b)(O:T1 its b σ){pre:List FI}{it:FI}(hit:it∈its)(y:∀g∈pre,g∈its)(J:∀f∈pre,f.q=false->listed.getD f.n true=true)
 (Z:∀k,k<ops.size->(b.getD it.n 0).testBit k=true->listed.getD k true=true):∀n∈it.i.rds,n∉(un pre listed).map dOf:=by
 intro n hn hm;obtain⟨g,hg,K⟩:=aS.1 hm;obtain⟨z,F⟩:=da.1 hg
 have Q:g.q=true:=by
  cases hq:g.q with
  |true=>rfl
  |false=>rw[J g z hq]at F;cases F
 obtain⟨d,hd,_⟩:=I.self g (y g z) Q;have a6:d=n:=by unfold dOf at K;rw[hd]at K;exact K
 subst a6;have:=I.rd g (y g z) Q it hit d hd hn;obtain⟨_,_,_,a1⟩:=I.item g (y g z);rw[Z g.n a1 this]at F;cases F
theorem Hv(hs:listed.size=ops.size)(I:Nf P N ops its b)(O:T1 its b σ)(hS:tD call sg N b σ cF listed c){F:FI}(hit:F∈its)(h1:listed.getD F.n true=false)(hq:F.q=true)
 (a6:∀k,k<ops.size->(b.getD F.n 0).testBit k=true->listed.getD k true=true):
 ∃v,qv c F.i=some v/\tD call sg N b σ cF (listed.setIfInBounds F.n true) (c.put F.i.dst v):=by
 classical
 obtain⟨_,_,_,c7⟩:=I.item F hit;have Q:∀g∈its,(listed.setIfInBounds F.n true).getD g.n true=if g=F then true else listed.getD g.n true:=fun g hg=>Hz hs I hit hg c7
 obtain⟨pre,post,p,ps,e,J,b3,d6,Z,K,hA,hV⟩:=hS.ex;have y:∀g∈pre,g∈its:=fun g hg=>(O.mem g).1 (by rw[e];exact am.2 (.inl hg))
 have z:∀g∈post,g∈its:=fun g hg=>(O.mem g).1 (by rw[e];exact am.2 (.inr hg))
 have b5:=H4 (listed:=listed) I O hit y Z a6
 have b4:F∈pre:=by
  have h2:=(O.mem F).2 hit;rw[e]at h2;rcases am.1 h2 with h3|h3
  ·exact h3
  ·exfalso
   rcases J with h4|⟨f0,r,h4,hf0⟩
   ·rw[h4]at h3;cases h3
   ·have h5:F∈r:=by
     rw[h4]at h3;rcases aq.1 h3 with h|h
     ·rw[h,hf0]at hq;cases hq
     ·exact h
    obtain⟨g,hg,d7⟩:=O.seg pre f0 r (by rw[e,h4]) hf0 F h5 hq;have a8:g∈post:=by rw[h4];exact hg
    obtain⟨_,_,_,b7⟩:=I.item g (z g a8);have:=a6 g.n b7 d7;rw[K g a8]at this;cases this
 have d3:F∈un pre listed:=da.2 ⟨b4,h1⟩;have hv:=hV F d3;rw[<-hA.qv b5]at hv;obtain⟨d,hd,d8⟩:=I.self F hit hq;have b1:dOf F=d:=by unfold dOf;rw[hd];rfl
 refine⟨_,hv,⟨pre,post,p,ps,e,J,b3,d6, ?_, ?_, ?_, ?_⟩⟩
 ·intro f hf b8
  rw[Q f (y f hf)];split
  ·rfl
  ·exact Z f hf b8
 ·intro f hf
  rw[Q f (z f hf),if_neg]
  ·exact K f hf
  ·intro e2
   subst e2;have h5:=O.nx;rw[e]at h5;have h6:=(iQ.1 h5).2.2 f b4 f hf hq d hd;exact h6.2 hd
 ·refine⟨fun n hn=> ?_, ?_, ?_,hA.dom⟩
  ·rw[hd,iI]
   split
   ·rename_i e2;rw[e2,b1]
   ·rename_i d5
    refine hA.get n fun hm=>hn ?_
    obtain⟨g,hg,a7⟩:=aS.1 hm;obtain⟨b2,d4⟩:=da.1 hg;refine aS.2 ⟨g,da.2 ⟨b2, ?_⟩,a7⟩;rw[Q g (y g b2),if_neg]
    ·exact d4
    ·intro e2;subst e2;rw[b1]at a7;exact d5 a7.symm
  ·cases F.i.dst<;>exact hA.ob
  ·cases F.i.dst<;>exact hA.tk
 ·intro f hf
  obtain⟨b6,a1⟩:=da.1 hf;refine hV f (da.2 ⟨b6, ?_⟩);rw[Q f (y f b6)]at a1;split at a1
  ·cases a1
  ·exact a1
theorem Mf(l r:List FI):gL (l++r)=gL l++gL r:=List.filterMap_append
theorem JE{l:List FI}(h:∀f∈l,f.q=true):gL l=[]:=by unfold gL;rw[List.filterMap_eq_nil_iff];intro f y;rw[h f y];rfl
theorem tR{l:List FI}{k:Nat}:k∈gL l↔∃f∈l,f.q=false/\f.n=k:=by
 unfold gL;rw[List.mem_filterMap];constructor
 ·rintro⟨f,z,h⟩
  cases y:f.q with
  |true=>rw[y]at h;cases h
  |false=>rw[y]at h;exact⟨f,z,y,by simpa using h⟩
 ·rintro⟨f,z,y,rfl⟩;exact⟨f,z,by rw[y];rfl⟩
theorem lY(k:Nat):∀l:List FI,gL (l.filter fun q=> !decide (q.n=k))=(gL l).filter fun x=> !decide (x=k)
 |[]=>rfl
 |f::r=>by
  have y:=lY k r;rw[fb]
  by_cases h:f.n=k
  ·cases hq:f.q with
   |true=>simp only[h,decide_true,vq,aP,if_false,y];simp[gL,hq]
   |false=>simp only[h,decide_true,vq,aP,if_false,y];simp[gL,hq,h]
  ·cases hq:f.q with
   |true=>simp only[h,decide_false,Bool.not_false,if_true];simp only[gL,List.filterMap_cons,hq,if_true]at y ⊢;exact y
   |false=>simp only[h,decide_false,Bool.not_false,if_true];simp only[gL,List.filterMap_cons,hq,aP,if_false,fb,h,decide_false,Bool.not_false,if_true]at y ⊢;rw[y]
theorem DQ(hs:listed.size=ops.size){k:Nat}(y:k<ops.size)(σ:List FI):un σ (listed.setIfInBounds k true)=(un σ listed).filter fun q=> !decide (q.n=k):=by
 simp only[un,List.filter_filter];apply List.filter_congr;intro q z;rw[iF (by omega)]
 by_cases h:q.n=k<;>simp[h]
theorem Hw(hs:listed.size=ops.size)(I:Nf P N ops its b)(O:T1 its b σ)(hS:tD call sg N b σ cF listed c){it:FI}(hit:it∈its)(h1:listed.getD it.n true=false)(hq:it.q=false)
 (b3:∀k,k<ops.size->(b.getD it.n 0).testBit k=true->listed.getD k true=true) (hh:(gL (un σ listed)).head? =some it.n):
 ∃c1,eO call sg c it.i=some c1/\tD call sg N b σ cF (listed.setIfInBounds it.n true) c1:=by
 classical
 obtain⟨_,_,_,b8⟩:=I.item it hit;have Q:∀g∈its,(listed.setIfInBounds it.n true).getD g.n true=if g=it then true else listed.getD g.n true:=fun g J=>Hz hs I hit J b8
 obtain⟨pre,post,p,ps,e,a8,F,e3,Z,K,hA,hV⟩:=hS.ex;have z:∀g∈pre,g∈its:=fun g J=>(O.mem g).1 (by rw[e];exact am.2 (.inl J))
 have y:∀g∈post,g∈its:=fun g J=>(O.mem g).1 (by rw[e];exact am.2 (.inr J))
 have d3:=H4 (listed:=listed) I O hit z Z b3
 have a6:∀g∈un pre listed,g.q=true:=by
  intro g J;obtain⟨b1,a7⟩:=da.1 J;cases hq:g.q with
  |true=>rfl
  |false=>rw[Z g b1 hq]at a7;cases a7
 have e7:un post listed=post:=gF.2 fun f hf=>by rw[K f hf];rfl
 have hu:gL (un σ listed)=gL post:=by
  have:un σ listed=un pre listed++un post listed:=by rw[e];exact List.filter_append ..
  rw[this,Mf,JE a6,e7];rfl
 rw[hu]at hh
 obtain⟨f0,r,b5,b6⟩:∃f r,post=f::r/\f.q=false:=by
  rcases a8 with h|h
  ·rw[h]at hh;cases hh
  ·exact h
 have c7:it=f0:=by
  rw[b5]at hh;have h2:gL (f0::r)=f0.n::gL r:=by simp[gL,b6]
  rw[h2]at hh;simp only[List.head?_cons,ay.injEq]at hh;exact I.inj it hit f0 (y f0 (by rw[b5];exact aD ..)) hh.symm
 subst c7;subst b5
 have d8:(pre++it::r).Pairwise fun f g=>f.n≠g.n:=by have:=O.nd;rw[e,Bm,iu]at this;exact this
 obtain⟨n,q,i⟩:=it;simp only at b6;subst b6;simp only[gh]at F;cases hs1:eO call sg p i with
 |none=>rw[hs1]at F;simp[uK]at F
 |some p1=>
  rw[hs1]at F;simp only[uK]at F;cases J:gdP (yG (b.getD n 0) p1 ps) p1 with
  |none=>rw[J]at F;simp[uL]at F
  |some f2=>
   rw[J]at F;simp only[uL]at F;obtain⟨d9,rfl⟩:=tX J;obtain⟨c1,f1,e5⟩:=hA.step (I.ok _ hit) d3 hs1;refine⟨c1,f1, ?_⟩;have b2:=O.nx;rw[e]at b2;have e4:=iQ.1 b2
   obtain⟨seg,b4,p2,e8,k1,k2,k3,k4,k5,k6,k7⟩:=pL (V:=un pre listed) F e5 (fun f hf=>I.ok f (y f (an _ hf))) (fun f hf=>I.self f (y f (an _ hf)))
    (bY.1 e4.2.1).2 (fun g J f hf=>e4.2.2 g (da.1 J).1 f (an _ hf))
    (fun g J=>by obtain⟨d,hd,_⟩:=I.self g (z g (da.1 J).1) (a6 g J);exact⟨d,hd⟩)
    (fun g J=>by
     obtain⟨b1,a7⟩:=da.1 J;rcases ua d9 (e3 g b1 (a6 g J))with h|h
     ·obtain⟨_,_,_,e6⟩:=I.item g (z g b1)
      rw[b3 g.n e6 h]at a7;cases a7
     ·exact h)
   have e9:∀g∈pre,g≠⟨n,false,i⟩:=fun g J e2=>by have:=(iQ.1 d8).2.2 g J _ (aD ..);rw[e2]at this;exact this rfl
   have b7:∀g∈r,g≠⟨n,false,i⟩:=fun g J e2=>by have:=(bY.1 (iQ.1 d8).2.1).1 g J;rw[e2]at this;exact this rfl
   have e0:un (pre++⟨n,false,i⟩::seg) (listed.setIfInBounds n true)=un pre listed++seg:=by
    unfold un;rw[List.filter_append,fb];have e1:(listed.setIfInBounds n true).getD n true=true:=by rw[iF (by rw[hs];exact b8)];simp
    simp only[e1,vq,aP,if_false]
    congr 1
    ·apply List.filter_congr
     intro g J;have:=Q g (z g J);simp only at this;rw[this,if_neg (e9 g J)]
    ·apply gF.2
     intro g J;have d7:g∈r:=by rw[k1];exact am.2 (.inl J)
     have d5:g∈⟨n,false,i⟩::r:=an _ d7;have:=Q g (y g d5);simp only at this;rw[this,if_neg (b7 g d7),K g d5];rfl
   refine⟨pre++⟨n,false,i⟩::seg,b4,p2,e8,by rw[e,k1];simp,k3,k4, ?_, ?_, ?_, ?_, ?_⟩
   ·intro f hf a1
    rcases am.1 hf with h|h
    ·exact k5 f (.inl (e3 f h a1))
    ·rcases aq.1 h with rfl|h
     ·cases a1
     ·exact k5 f (.inr h)
   ·intro f hf a1
    rcases am.1 hf with h|h
    ·rw[Q f (z f h)]
     split
     ·rfl
     ·exact Z f h a1
    ·rcases aq.1 h with rfl|h
     ·rw[Q _ hit,if_pos rfl]
     ·rw[k2 f h]at a1;cases a1
   ·intro f hf
    have d6:f∈r:=by rw[k1];exact am.2 (.inr hf)
    have d4:f∈⟨n,false,i⟩::r:=an _ d6;rw[Q f (y f d4),if_neg (b7 f d6)];exact K f d4
   ·rw[e0,b9]
    refine⟨fun m hm=>k6.get m (fun h=>hm ?_),k6.ob,k6.tk,k6.dom⟩;rw[am]at h ⊢;exact h.symm
   ·rw[e0]
    intro f hf;exact k7 f (am.1 hf)
theorem Md{k:Nat}{g:Nat}{A:List LAb}(h:mN b k A=true)(z:∀l,A.head? =some l->g∈l)(F:∀l,A.head? =some l->∀x∈l,x≠g->(b.getD g 0).testBit x=false):
 ∃I,mN b I (A.filterMap fun p=>match p with|x::r=>if x=g then some r else none|[]=>none)=true:=by
 cases A with
 |nil=>cases k<;>simp[mN]at h
 |cons l A=>
  cases l with
  |nil=>have:=z [] rfl;cases this
  |cons y t=>
   cases k with
   |zero=>simp[mN]at h
   |succ k=>
    simp only[mN,aZ]at h;have h1:=h g (z _ rfl);rw[kg]at h1;rcases h1 with h1|h1
    ·exfalso
     rw[List.any_eq_true]at h1;obtain⟨x,J,h2⟩:=h1;rw[aE]at h2;have h3:=of_decide_eq_true h2.1;have:=F _ rfl x J h3;unfold qu at h2;rw[h2.2]at this;cases this
    ·exact⟨k,h1⟩
theorem wu{R R':List FI->LAb}{g:Nat}:∀{A:List (List FI)},(∀σ∈A,∀r,R σ=g::r->R' σ=r)->
 (A.filter fun σ=>decide ((R σ).head? =some g)).map R'=(A.map R).filterMap fun p=>match p with|x::r=>if x=g then some r else none|[]=>none
 |[],_=>rfl
 |σ::A,h=>by
  have z:=wu (R:=R) (R':=R') (g:=g) (A:=A) fun τ I=>h τ (an _ I)
  have h0:=h σ (aD ..);rw[fb,ax,List.filterMap_cons];cases hR:R σ with
  |nil=>simp only[List.head?_nil,reduceCtorEq,decide_false,aP,if_false];exact z
  |cons y t=>
   by_cases F:y=g
   ·subst F
    simp only[List.head?_cons,decide_true,if_true,ax,h0 t hR];rw[z]
   ·have:¬(some y=some g):=fun e=>F (by injection e)
    simp only[List.head?_cons,this,decide_false,aP,if_false,F];exact z
theorem Mo(
 hcal:ik P call)(I:Nf P N ops its b){ords:List (List FI)}(hO:∀σ∈ords,T1 its b σ){Q:LBb}(hQ:∀a w,M C N cF a w->Q .normal a w):
 ∀(Z:Nat)(listed:Array Bool)(c:CSt)(a:Act)(w:World)(A:List (List FI))(k:Nat),(un its listed).length<=Z->listed.size=ops.size->
  (∀(i:Nat)(o:Oper)(k:Nat),ops[i]? =some o->listed.getD i true=true->k<ops.size->(b.getD i 0).testBit k=true->listed.getD k true=true)->
  (∀σ∈A,σ∈ords/\tD call sg N b σ cF listed c)->mN b k (A.map fun σ=>gL (un σ listed))=true->M C N c a w->wpAny P .any ops Q Z listed a w:=by
 classical
 have d5:∀(listed:Array Bool),listed.size=ops.size->∀k,k<ops.size->listed.getD k false=listed.getD k true:=by intro listed hs k hk;simp[lU,hs,hk]
 have done:∀(listed:Array Bool)(c:CSt)(a:Act)(w:World)(A:List (List FI))(k:Nat),un its listed=[]->(∀σ∈A,σ∈ords/\tD call sg N b σ cF listed c)->mN b k (A.map fun σ=>gL (un σ listed))=true->M C N c a w->Region.ready .any ops listed=[]/\Q .normal a w:=by
  intro listed c a w A k h0 h8 F hM;constructor
  ·rw[List.eq_nil_iff_forall_not_mem]
   intro j hj;obtain⟨h1,o,h2,h3⟩:=mem_ready.1 hj;have g7:j<ops.size:=(cz.1 h2).1;obtain⟨z,hit,rfl⟩:=I.ex j g7;have:z∈un its listed:=da.2 ⟨hit,h1⟩;rw[h0]at this;cases this
  ·cases A with
   |nil=>cases k<;>simp[mN]at F
   |cons σ A=>
    obtain⟨hσ,K⟩:=h8 σ (aD ..)
    have e2:un σ listed=[]:=by rw[List.eq_nil_iff_forall_not_mem];intro f hf;obtain⟨h1,h2⟩:=da.1 hf;have:f∈un its listed:=da.2 ⟨((hO σ hσ).mem f).1 h1,h2⟩;rw[h0]at this;cases this
    obtain⟨pre,post,p,ps,e,hp,b1,_,_,d3,hA,_⟩:=K.ex
    have h9:post=[]:=by
     cases post with
     |nil=>rfl
     |cons f r=>have:f∈un σ listed:=da.2 ⟨by rw[e];simp,d3 f (aD ..)⟩;rw[e2]at this;cases this
    subst h9;simp only[gh,ay.injEq]at b1;subst b1;have hD:un pre listed=[]:=by rw[<-e2,e,bO]
    rw[hD]at hA;refine hQ a w ?_;obtain⟨x,s,g2,b3⟩:=hM;refine M.slots (c:=c) ⟨x,s,g2,b3⟩ ⟨hA.dom,by rw[<-hA.ob];exact b3.inv.so,by rw[<-hA.ob];exact b3.inv.wf⟩ hA.ob.symm hA.tk.symm (fun i=> .inl (hA.get i (by simp)).symm)
 intro Z;induction Z with
 |zero=>intro listed c a w A k hf hs d4 K F hM;exact done listed c a w A k (cD.1 (by omega)) K F hM
 |succ Z ih=>
  intro listed c a w A k hf hs d4 K F hM;constructor
  ·intro d8
   by_cases h0:un its listed=[]
   ·exact(done listed c a w A k h0 K F hM).2
   ·exfalso
    have hp:∃n,∃f∈un its listed,f.n=n:=by
     cases hc:un its listed with
     |nil=>exact absurd hc h0
     |cons f r=>exact⟨_,f,aD ..,rfl⟩
    obtain⟨n,⟨f,j3,j6⟩,e7⟩:=Un _ hp;obtain⟨h1,h2⟩:=da.1 j3;obtain⟨o,h3,_,h4⟩:=I.item f h1
    have:f.n∈Region.ready .any ops listed:=by refine mem_ready.2 ⟨h2,o,h3,fun e he hb=> ?_⟩;have e3:=I.back f.n o h3 e he hb;rw[d5 listed hs _ (by omega),<-Bool.not_eq_false];intro g9;obtain⟨g,hg,d9⟩:=I.ex e.on (by omega);have:=e7 e.on ⟨g,da.2 ⟨hg,by rw[d9];exact g9⟩,d9⟩;omega
    rw[d8]at this;cases this
  ·intro i g6
   obtain⟨h1,o,h2,h3⟩:=mem_ready.1 g6;have a7:i<ops.size:=(cz.1 h2).1;obtain⟨z,hit,rfl⟩:=I.ex i a7;obtain⟨o',e9,b2,_⟩:=I.item z hit;rw[h2]at e9;cases e9
   have J:∀k,k<ops.size->(b.getD z.n 0).testBit k=true->listed.getD k true=true:=by
    intro k hk hb;obtain⟨e,he,e0,i1⟩:=I.bit z.n o k h2 hk hb;have b5:=h3 e he e0;have j0:=I.back z.n o h2 e he e0;rw[d5 listed hs _ (by omega)]at b5;rcases i1 with h|h
    ·rw[<-h];exact b5
    ·exact d4 e.on (ops[e.on]'(by omega)) k (by simp) b5 hk h
   have j4:(un its (listed.setIfInBounds z.n true)).length<(un its listed).length:=by rw[DQ hs a7];refine List.length_filter_lt_length_iff_exists.2 ⟨z,da.2 ⟨hit,h1⟩,by simp⟩
   have a8:∀(i:Nat)(o:Oper)(k:Nat),ops[i]? =some o->(listed.setIfInBounds z.n true).getD i true=true->k<ops.size->(b.getD i 0).testBit k=true->(listed.setIfInBounds z.n true).getD k true=true:=by
    intro i2 o2 e5 j2 b6 e4 f0;rw[iF (by omega)]at b6 ⊢;split
    ·rfl
    ·split at b6
     ·rename_i e1
      subst e1;exact J e5 e4 f0
     ·exact d4 i2 o2 e5 j2 b6 e4 f0
   have d7:(listed.setIfInBounds z.n true).size=ops.size:=by simpa using hs
   obtain⟨σ0,A0,a1⟩:∃σ A',A=σ::A':=by
    cases A with
    |nil=>cases k<;>simp[mN]at F
    |cons σ A'=>exact⟨σ,A',rfl⟩
   cases hq:z.q with
   |true=>
    obtain⟨f8,g5⟩:=K σ0 (by rw[a1];exact aD ..);obtain⟨v,hv,_⟩:=Hv hs I (hO σ0 f8) g5 hit h1 hq J;refine iq hcal hM (I.ok z hit) h2 b2 (rC (call:=call) (sg:=sg) hv) fun a' w' b7=> ?_
    refine ih _ _ a' w' A k (by omega) d7 a8 (fun σ hσ=>⟨(K σ hσ).1, ?_⟩) ?_ b7
    ·obtain⟨v',e6,g8⟩:=Hv hs I (hO σ (K σ hσ).1) (K σ hσ).2 hit h1 hq J
     rw[hv]at e6;injection e6 with e;subst e
     exact g8
    ·have:(A.map fun σ=>gL (un σ (listed.setIfInBounds z.n true)))=A.map fun σ=>gL (un σ listed):=by
      apply List.map_congr_left;intro σ hσ;rw[DQ hs a7,lY,gF];intro x hx;obtain⟨f,hf,c7,rfl⟩:=tR.1 hx;have b8:=((hO σ (K σ hσ).1).mem f).1 (da.1 hf).1;have:¬f.n=z.n:=fun e=>by rw[I.inj f b8 z hit e,hq]at c7;cases c7
      simp[this]
     rw[this];exact F
   |false=>
    have b4:∀σ∈A,z.n∈gL (un σ listed):=fun σ hσ=>tR.2 ⟨z,da.2 ⟨((hO σ (K σ hσ).1).mem z).2 hit,h1⟩,hq,rfl⟩
    obtain⟨k',a6⟩:=Md (g:=z.n) F (fun l hl=>by
     rw[a1]at hl;simp only[ax,List.head?_cons,ay.injEq]at hl;rw[<-hl];exact b4 σ0 (by rw[a1];exact aD ..)) (fun l hl y hy j5=>by
     rw[a1]at hl;simp only[ax,List.head?_cons,ay.injEq]at hl;rw[<-hl]at hy;obtain⟨f,hf,c7,rfl⟩:=tR.1 hy;obtain⟨j1,f2⟩:=da.1 hf;have b8:=((hO σ0 (K σ0 (by rw[a1];exact aD ..)).1).mem f).1 j1;obtain⟨_,_,_,e3⟩:=I.item f b8;rw[<-Bool.not_eq_true];intro hb;rw[J f.n e3 hb]at f2;cases f2)
    rw[<-wu (R:=fun σ=>gL (un σ listed)) (R':=fun σ=>gL (un σ (listed.setIfInBounds z.n true))) (fun σ hσ r hR=>by
     show gL (un σ (listed.setIfInBounds z.n true))=r;rw[DQ hs a7,lY];have d6:gL (un σ listed)=z.n::r:=hR;rw[d6,fb];simp only[decide_true,vq,aP,if_false];rw[gF];intro y hy
     have f1:(gL (un σ listed)).Nodup:=by
      have h5:=(hO σ (K σ hσ).1).nd
      have h6:(gL (un σ listed)).Sublist (σ.map FI.n):=by
       have h7:(gL (un σ listed)).Sublist ((un σ listed).map FI.n):=by
        unfold gL;rw[show(fun f:FI=>if f.q=true then none else some f.n)=fun f:FI=>if f.q=true then none else some (FI.n f)from rfl];generalize un σ listed=l;induction l with
        |nil=>exact qE.slnil
        |cons f r ih=>
         rw[List.filterMap_cons,ax];cases hq:f.q with
         |true=>exact qE.cons _ ih
         |false=>exact qE.cons_cons _ ih
       exact h7.trans (qE.map _ List.filter_sublist)
      exact h5.sublist h6
     rw[d6]at f1;have:y≠z.n:=fun e=>by rw[e]at hy;exact(fT.1 f1).1 hy
     simp[this])]at a6
    obtain⟨σ1,f4⟩:∃σ,σ∈A.filter fun σ=>decide ((gL (un σ listed)).head? =some z.n):=by
     cases hX:A.filter fun σ=>decide ((gL (un σ listed)).head? =some z.n)with
     |nil=>rw[hX]at a6;cases k'<;>simp[mN]at a6
     |cons σ _=>exact⟨σ,aD ..⟩
    obtain⟨h4,h5⟩:=dY.1 f4;obtain⟨c1,f3,_⟩:=Hw hs I (hO σ1 (K σ1 h4).1) (K σ1 h4).2 hit h1 hq J (of_decide_eq_true h5);refine iq hcal hM (I.ok z hit) h2 b2 f3 fun a' w' b7=> ?_
    refine ih _ _ a' w' _ k' (by omega) d7 a8 (fun σ hσ=> ?_) a6 b7;obtain⟨h6,h7⟩:=dY.1 hσ;obtain⟨c2,e8,f5⟩:=Hw hs I (hO σ (K σ h6).1) (K σ h6).2 hit h1 hq J (of_decide_eq_true h7);rw[f3]at e8;injection e8 with e;subst e
    exact⟨(K σ h6).1,f5⟩
theorem SN(hl:kY (ia P ops) ops.toList=some (unF its))(hd:drawn ops (unF its)=true)(d6:∀f∈its,f.i.ok N=true)(I:S8 (Region.before ops).toList its=true)
 (a1:(its.map FI.n).Nodup) (F:∀f∈its,f.n<its.length) (b2:∀j∈bQ its.length,(its.map FI.n).contains j=true):
 Nf P N ops its (Region.before ops).toList/\(∀f∈its,∀g∈its,f.n≠g.n->∀d,f.i.dst=some d->g.i.dst≠some d)/\its.length=ops.size:=by
 simp only[S8,aZ,kg,dE]at I;obtain⟨b5,b6⟩:=fS hl;have c7:(unF its).length=its.length:=by simp[unF]
 have d3:its.length=ops.size:=by rw[<-c7,b5,bf]
 have a7:∀f∈its,(unF its).getD f.n ⟨none,none,.nchk (.c .undef)⟩=f.i.er:=by intro f y;have:=F f y;rw[aa];simp only[unF,aR,cN this,bz,bn];exact vZ _ a1 y
 simp only[drawn,aE,decide_eq_true_eq]at hd;obtain⟨⟨hc,ht⟩,K⟩:=hd
 have a6:∀f∈its,∃o,ops[f.n]? =some o/\ia P ops o=some f.i.er/\f.n<ops.size:=by
  intro f y;have e2:=F f y;have b7:f.n<ops.toList.length:=by rw[bf];omega
  refine⟨ops.toList[f.n],by rw[<-dy,ac b7], ?_,by omega⟩;have h1:=b6 f.n b7 (by omega);rw[h1]
  congr 1
  have h2:=a7 f y;rwa[aa,ac (by omega),bn]at h2
 have b1:∀f∈its,∀g∈its,f.n=g.n->f=g:=by
  intro f y g Z e;have:its.Pairwise fun f g=>f.n≠g.n:=by rw[Bm,iu]at a1;exact a1
  rw[rx]at this;obtain⟨i,hi,rfl⟩:=List.mem_iff_getElem.1 y;obtain⟨j,hj,rfl⟩:=List.mem_iff_getElem.1 Z;rcases Nat.lt_trichotomy i j with h|h|h
  ·exact absurd e (this i j hi hj h)
  ·subst h;rfl
  ·exact absurd e.symm (this j i hj hi h)
 have b8:∀f∈its,∀g∈its,f.n≠g.n->∀d,f.i.dst=some d->g.i.dst≠some d:=by
  have J:∀f∈its,∀g∈its,f.n<g.n->∀d,f.i.dst=some d->g.i.dst≠some d:=by
   intro f y g Z b4 d h1 h2
   have b3:(unF its).Pairwise fun u v=>∀d,u.dst=some d->v.dst≠some d:=by rw[Bm,List.pairwise_filterMap]at K;refine K.imp ?_;intro u v d4 d hu hv;exact d4 d hu d hv rfl
   rw[rx]at b3;have e1:=F f y;have e0:=F g Z
   have g1:(unF its)[f.n]'(by omega)=f.i.er:=by have:=a7 f y;rwa[aa,ac (by omega),bn]at this
   have g2:(unF its)[g.n]'(by omega)=g.i.er:=by have:=a7 g Z;rwa[aa,ac (by omega),bn]at this
   exact b3 f.n g.n (by omega) (by omega) b4 d (by rw[g1];exact h1) (by rw[g2];exact h2)
  intro f y g Z d9 d h1 h2;rcases bq f.n g.n with h|h
  ·exact J f y g Z h d h1 h2
  ·exact J g Z f y (by omega) d h2 h1
 have z:∀(i:Nat)(o:Oper),ops[i]? =some o->(∀e∈o.after,Region.binds .any e=true->e.on<i)/\
  ∀k,k<ops.size->((Region.before ops).toList.getD i 0).testBit k=true->∃e∈o.after,Region.binds .any e=true/\(e.on=k\/((Region.before ops).toList.getD e.on 0).testBit k=true):=by
  intro i o ho;unfold uf at hc;rw[aZ]at hc;have hi:i<ops.size:=(cz.1 ho).1
  have h1:=hc (o,i) (by rw[List.mem_zipIdx_iff_getElem?];simpa using ho)
  simp only[aE,Array.all_eq_true_iff_forall_mem,aZ,kg,dE,decide_eq_true_eq]at h1;refine⟨fun e he hb=>(h1.1 e he).resolve_left (by simp[hb]),fun k hk hb=> ?_⟩;have h2:=(h1.2 k (gO.2 hk)).resolve_left (by simp only[hb];simp);obtain⟨_,h3⟩:=h2;rw[<-Array.any_toList,List.any_eq_true]at h3;obtain⟨e,he,h4⟩:=h3;rw[Array.mem_toList_iff]at he;simp only[aE,kg,beq_iff_eq]at h4;exact⟨e,he,h4.1,h4.2⟩
 have hq:∀q∈its,q.q=true->∃d,q.i.dst=some d/\∀p∈its,d∈p.i.rds->((Region.before ops).toList.getD p.n 0).testBit q.n=true/\p.n≠q.n:=by
  intro q hq Q;have h1:=(I q hq).resolve_left (by rw[Q];simp);cases hd:q.i.dst with
  |none=>rw[hd]at h1;cases h1
  |some d=>
   rw[hd]at h1;simp only[aZ,kg,dE,aE,decide_eq_true_eq,qu]at h1;refine⟨d,rfl,fun p hp hr=> ?_⟩;rcases h1 p hp with h2|h2
   ·rw[fV]at h2;simp only[decide_eq_false_iff_not]at h2;exact absurd hr h2
   ·exact h2
 have a8:∀f∈its,CA f:=by intro f y I;obtain⟨d,hd,h1⟩:=hq f y I;exact⟨d,hd,fun h=>(h1 f y h).2 rfl⟩
 have d8:∀q∈its,q.q=true->∀p∈its,∀d,q.i.dst=some d->d∈p.i.rds->((Region.before ops).toList.getD p.n 0).testBit q.n=true:=by intro q d5 Q p hp d hd hr;obtain⟨d',d7,h1⟩:=hq q d5 Q;rw[d7]at hd;cases hd;exact(h1 p hp hr).1
 refine⟨⟨a6,fun j hj=> ?_,b1,fun i o ho=>(z i o ho).1,fun i o k ho hk hb=>(z i o ho).2 k hk hb,d6,a8,d8⟩,b8,d3⟩;have:=b2 j (gO.2 (by omega));rw[fV]at this;simp only[decide_eq_true_eq]at this;obtain⟨f,y,e⟩:=aS.1 this;exact⟨f,y,e⟩
theorem pP{l:List FI}(h:(l.map FI.n).Nodup){f:FI}(y:f∈l):zJ l f.n=f:=by
 induction l with
 |nil=>cases y
 |cons g r z=>
  simp only[ax,fT]at h;simp only[zJ];rcases aq.1 y with rfl|y
  ·rw[if_pos rfl]
  ·rw[if_neg,z h.2 y]
   intro e;apply h.1;rw[e];exact co y
theorem AQ{l:List FI}{f:FI}:∀{p:LAb},f∈jH l p↔∃k∈p,zJ l k=f
 |[]=>by simp[jH]
 |k::r=>by
  simp only[jH,aq,AQ (p:=r)];constructor
  ·rintro(h|⟨j,y,h⟩)
   ·exact⟨k,.inl rfl,h.symm⟩
   ·exact⟨j,.inr y,h⟩
  ·rintro⟨j,rfl|y,h⟩
   ·exact .inl h.symm
   ·exact .inr ⟨j,y,h⟩
theorem AS{l:List FI}(h:(l.map FI.n).Nodup):∀{p:LAb},(∀k∈p,k∈l.map FI.n)->(jH l p).map FI.n=p
 |[],_=>rfl
 |k::r,hp=>by simp only[jH,ax];rw[AS h (p:=r) fun j z=>hp j (an _ z)];obtain⟨f,y,e⟩:=aS.1 (hp k (aD ..));rw[<-e,pP h y]
theorem IT{s:Nat}(l:List FI):BN b (some s) l=true->∀g∈l,g.q=true->(b.getD g.n 0).testBit s=true\/∃h∈l,(b.getD g.n 0).testBit h.n=true:=by
 induction l generalizing s with
 |nil=>intro _ g y;cases y
 |cons f r F=>
  intro h g y z;simp only[BN]at h;split at h
  ·simp only[aE,qu]at h
   rcases aq.1 y with rfl|y
   ·exact .inl h.1
   ·rcases F h.2 g y z with h1|⟨k,hk,h1⟩
    ·exact .inl h1
    ·exact .inr ⟨k,an _ hk,h1⟩
  ·rename_i I
   rcases aq.1 y with rfl|y
   ·exact absurd z I
   ·rcases F h g y z with h1|⟨k,hk,h1⟩
    ·exact .inr ⟨f,aD ..,h1⟩
    ·exact .inr ⟨k,an _ hk,h1⟩
theorem yi:∀{pre:List FI}{s:LAc}{f:FI}{r:List FI},BN b s (pre++f::r)=true->f.q=false->BN b (some f.n) r=true
 |[],s,f,r,h,hf=>by simp only[aA,BN,hf,aP,if_false]at h;exact h
 |g::pre,s,f,r,h,hf=>by
  simp only[aL,BN]at h;split at h
  ·rw[aE]at h;exact yi h.2 hf
  ·exact yi h hf
theorem qk:∀{l:List FI},zK b l=true->l.Pairwise fun p q=>(b.getD p.n 0).testBit q.n=false
 |[],_=>gx.nil
 |p::r,h=>by simp only[zK,aE,aZ]at h;refine bY.2 ⟨fun q y=> ?_,qk h.2⟩;have:=h.1 q y;simpa only[dE,qu]using this
theorem Bk{l:List FI}:∀{ps:List LAb},kt call sg b l ps c=some cF->∀p∈ps,gh call sg b (jH l p) [] c=some cF
 |[],h,p,hp=>by cases hp
 |[q],h,p,hp=>by rw[bC.1 hp];exact h
 |q::J::r,h,p,hp=>by
  simp only[kt]at h;cases h1:gh call sg b (jH l q) [] c with
  |none=>rw[h1]at h;simp[qS]at h
  |some y=>
   cases h2:kt call sg b l (J::r) c with
   |none=>rw[h1,h2]at h;simp[qS]at h
   |some z=>
    rw[h1,h2]at h;obtain⟨I,F⟩:=tX h;rcases aq.1 hp with rfl|hp
    ·rw[h1,F]
    ·exact Bk (h2.trans (by rw[<-I,F])) p hp
theorem Jq(c7:ik P call){id:Nat}(hl:kY (ia P ops) ops.toList=some (unF its))(hd:drawn ops (unF its)=true)(hm:P.follows .mixedOrders=true)
 (b4:its.all (fun f=>f.i.ok N)=true) {ps:List LAb} (a8:Qa (Region.before ops).toList its ps=true) {Q:LBb} (hQ:∀a w,M C N cF a w->Q .normal a w) (hM:M C N c a w)
 (h:kt call sg (Region.before ops).toList its ps c=some cF):(Code.region id ops true).wp P Q a w:=by
 simp only[Qa,aE,decide_eq_true_eq]at a8;obtain⟨⟨⟨⟨⟨d8,Z⟩,b6⟩,a1⟩,d3⟩,hc⟩:=a8;rw[aZ]at b4 b6 a1 d3;obtain⟨I,d5,e1⟩:=SN hl hd b4 d8 Z (fun f y=>of_decide_eq_true (b6 f y)) a1
 have hO:∀σ∈ps.map (jH its),T1 its (Region.before ops).toList σ:=by
  intro σ hσ;obtain⟨p,hp,rfl⟩:=aS.1 hσ;have h1:=d3 p hp;simp only[aE,decide_eq_true_eq,aZ,fV]at h1;obtain⟨⟨⟨⟨e0,b2⟩,d7⟩,a6⟩,K⟩:=h1;have d4:=AS Z b2
  have J:∀f,f∈jH its p↔f∈its:=by
   intro f;rw[AQ];constructor
   ·rintro⟨k,hk,rfl⟩
    obtain⟨g,hg,rfl⟩:=aS.1 (b2 k hk);rw[pP Z hg];exact hg
   ·intro y
    exact⟨f.n,d7 f.n (co y),pP Z y⟩
  have F:((jH its p).map FI.n).Nodup:=by rw[d4];exact e0
  refine⟨J,F, ?_,fun pre f r e y g hg hq=> ?_⟩
  ·have h1:(jH its p).Pairwise fun f g=>f.n≠g.n:=by rw[Bm,iu]at F;exact F
   refine((qk K).and h1).imp_of_mem ?_;rintro u v hu hv ⟨h2,h3⟩ d6 d b5;have b8:=(J u).1 hu;have b7:=(J v).1 hv;refine⟨fun hr=> ?_,fun e=>d5 u b8 v b7 h3 d e b5⟩;rw[I.rd v b7 d6 u b8 d b5 hr]at h2;cases h2
  ·rw[e]at a6
   rcases IT _ (yi a6 y) g hg hq with h1|⟨k,hk,h1⟩
   ·exact⟨f,aD ..,h1⟩
   ·exact⟨k,an _ hk,h1⟩
 have z:∀f∈its,(eE ops.size false).getD f.n true=false:=by intro f y;obtain⟨_,_,_,this⟩:=I.item f y;simp[lU,this]
 refine wp_region_any hm ?_;refine Mo (its:=its) (b:=(Region.before ops).toList) (cF:=cF) (sg:=sg) (ords:=ps.map (jH its)) c7 I hO hQ ops.size _ c a _ (ps.map (jH its)) its.length ?_ (by simp) ?_ (fun σ hσ=>⟨hσ, ?_⟩) ?_ ?_
 ·have:(un its (eE ops.size false)).length<=its.length:=List.length_filter_le _ _
  omega
 ·intro i o k ho hl _ _
  have hi:i<ops.size:=(cz.1 ho).1;simp[lU,hi]at hl
 ·have O:=hO σ hσ
  obtain⟨p,hp,rfl⟩:=aS.1 hσ;have b3:=Bk h p hp;obtain⟨seg,post,p2,d9,k1,k2,k3,k4,k5,k6,k7⟩:=pL (N:=N) (D:=[]) (V:=[]) b3 ⟨fun _ _=>rfl,rfl,rfl,by obtain⟨x,s,_,hS⟩:=hM;exact hS.inv.dom⟩ (fun f y=>I.ok f ((O.mem f).1 y)) (fun f y=>I.self f ((O.mem f).1 y)) O.nx (by simp) (by simp) (by simp)
  have a7:un seg (eE ops.size false)=seg:=by apply gF.2;intro f y;rw[z f ((O.mem f).1 (by rw[k1];exact am.2 (.inl y)))];rfl
  refine⟨seg,post,p2,d9,k1,k3,k4,fun f y _=>k5 f (.inr y),(fun f y hq=>by rw[k2 f y]at hq;cases hq),fun f y=>z f ((O.mem f).1 (by rw[k1];exact am.2 (.inr y))), ?_, ?_⟩
  ·rw[a7];simpa using k6
  ·rw[a7];intro f y;exact k7 f (.inr y)
 ·rw[List.map_map]
  have:(ps.map ((fun σ=>gL (un σ (eE ops.size false)))∘jH its))=ps.map fun p=>gL (jH its p):=by
   apply List.map_congr_left;intro p hp;show gL (un (jH its p) _)=_
   congr 1
   apply gF.2;intro f y;rw[z f (((hO _ (co hp)).mem f).1 y)];rfl
  rw[this];exact hc
 ·obtain⟨x,s,b1,hS⟩:=hM
  exact⟨x,s,⟨b1.tm,b1.defers,b1.heap.drawn _⟩,hS⟩
end Go.Sy
namespace Go.Sy
variable [bl]
variable {P:Program}{C:Ctx}{x:Sit}{a:Act}{w:World}{N:Nat}{c c':CSt}{s:St}{T:iT}
def Ex.out:Ex->Exit
 | .n=> .normal
 | .x id=> .exit id
 | .r=> .ret
def EQ(C:Ctx)(N:Nat)(e:Ex)(c':CSt):LBb:=fun y a w=>y=e.out/\M C N c' a w
def zY(P:Program)(T:iT)(n:Nat):Prop:=
 (∀(r:RC)(c:CSt)(e:Ex)(c':CSt),iA T n r c=some (e,c')->∀(code:Code)(C:Ctx)(N:Nat)(a:Act)(w:World),cK P code=r.er->r.ok N=true->M C N c a w->code.wp P (EQ C N e c') a w)/\
 (∀(b:RC)(c:CSt)(e:Ex)(c':CSt),iA T n (.loop b) c=some (e,c')->∀(code:Code)(C:Ctx)(N:Nat)(a:Act)(w:World),cK P code=b.er->b.ok N=true->M C N c a w->Code.rounds P code (EQ C N e c') n a w)
theorem To{code:Code}{b:ij}(h:bm P code=some (.loop b)):∃F,code= .loop F/\bm P F=some b:=by
 cases code with
 |loop F=>simp only[bm]at h;obtain⟨Q,K,J⟩:=aj.1 h;cases J;exact⟨F,rfl,K⟩
 |region id ops I=>
  simp only[bm]at h;split at h<;>try (cases h;done)
  split at h
  ·rw[bg]at h;cases h.2
  ·cases h
 |seq y z=>simp only[bm]at h;split at h<;>cases h
 |cond c y z=>simp only[bm]at h;split at h<;>cases h
 |block id b=>simp only[bm]at h;obtain⟨_,_,h⟩:=aj.1 h;cases h
 |_=>simp[bm]at h
theorem LZ{code:Code}{id:Nat}{b:ij}(h:bm P code=some (.block id b)):∃F,code= .block id F/\bm P F=some b:=by
 cases code with
 |block id F=>simp only[bm]at h;obtain⟨Q,K,J⟩:=aj.1 h;cases J;exact⟨F,rfl,K⟩
 |region id ops I=>
  simp only[bm]at h;split at h<;>try (cases h;done)
  split at h
  ·rw[bg]at h;cases h.2
  ·cases h
 |seq y z=>simp only[bm]at h;split at h<;>cases h
 |cond c y z=>simp only[bm]at h;split at h<;>cases h
 |loop b=>simp only[bm]at h;obtain⟨_,_,h⟩:=aj.1 h;cases h
 |_=>simp[bm]at h
theorem XO{code:Code}{y z:ij}(h:bm P code=some (.seq y z)):∃F I,code= .seq F I/\bm P F=some y/\bm P I=some z:=by
 cases code with
 |seq F I=>
  simp only[bm]at h;split at h<;>try (cases h;done)
  rename_i Z sz K Q;cases h;exact⟨F,I,rfl,K,Q⟩
 |region id ops J=>
  simp only[bm]at h;split at h<;>try (cases h;done)
  split at h
  ·rw[bg]at h;cases h.2
  ·cases h
 |cond c y z=>simp only[bm]at h;split at h<;>cases h
 |block id b=>simp only[bm]at h;obtain⟨_,_,h⟩:=aj.1 h;cases h
 |loop b=>simp only[bm]at h;obtain⟨_,_,h⟩:=aj.1 h;cases h
 |_=>simp[bm]at h
theorem Tq{code:Code}{k:Arg}{y z:ij}(h:bm P code=some (.cond k y z)):∃J I F,code= .cond J I F/\bG P 0 J=some k/\bm P I=some y/\bm P F=some z:=by
 cases code with
 |cond J I F=>
  simp only[bm]at h;split at h<;>try (cases h;done)
  rename_i sc sy sz K Z hz;cases h;exact⟨J,I,F,rfl,K,Z,hz⟩
 |region id ops Q=>
  simp only[bm]at h;split at h<;>try (cases h;done)
  split at h
  ·rw[bg]at h;cases h.2
  ·cases h
 |seq y z=>simp only[bm]at h;split at h<;>cases h
 |block id b=>simp only[bm]at h;obtain⟨_,_,h⟩:=aj.1 h;cases h
 |loop b=>simp only[bm]at h;obtain⟨_,_,h⟩:=aj.1 h;cases h
 |_=>simp[bm]at h
theorem XQ{code:Code}{l:LAf}(h:bm P code=some (.ops l)):∃id ops,code= .region id ops false/\kY (ia P ops) ops.toList=some l:=by
 cases code with
 |region id ops F=>
  simp only[bm]at h;split at h<;>try (cases h;done)
  rename_i J I;cases F with
  |false=>simp only[aP,if_false,ay.injEq,ij.ops.injEq]at h;subst h;exact⟨id,ops,rfl,I⟩
  |true=>simp only[if_true]at h;rw[bg]at h;cases h.2
 |seq y z=>simp only[bm]at h;split at h<;>cases h
 |cond c y z=>simp only[bm]at h;split at h<;>cases h
 |block id b=>simp only[bm]at h;obtain⟨_,_,h⟩:=aj.1 h;cases h
 |loop b=>simp only[bm]at h;obtain⟨_,_,h⟩:=aj.1 h;cases h
 |_=>simp[bm]at h
theorem M0{code:Code}{b J:LAb}{l:LAf}(h:bm P code=some (.drw b J l)):∃id ops,code= .region id ops true/\kY (ia P ops) ops.toList=some l/\drawn ops l=true/\P.follows .mixedOrders=true/\b=(Region.before ops).toList/\J=xfk l:=by
 cases code with
 |region id ops F=>
  simp only[bm]at h;split at h<;>try (cases h;done)
  rename_i Q K;cases F with
  |false=>simp only[aP,if_false,ay.injEq,reduceCtorEq]at h
  |true=>simp only[if_true]at h;rw[bg]at h;obtain⟨I,h⟩:=h;simp only[ay.injEq,ij.drw.injEq]at h;obtain⟨rfl,rfl,rfl⟩:=h;rw[aE]at I;exact⟨id,ops,rfl,K,I.1,I.2,rfl,rfl⟩
 |seq y z=>simp only[bm]at h;split at h<;>cases h
 |cond c y z=>simp only[bm]at h;split at h<;>cases h
 |block id b=>simp only[bm]at h;obtain⟨_,_,h⟩:=aj.1 h;cases h
 |loop b=>simp only[bm]at h;obtain⟨_,_,h⟩:=aj.1 h;cases h
 |_=>simp[bm]at h
theorem Tn{code:Code}(h:bm P code=some .skip):code= .skip:=by
 cases code with
 |skip=>rfl
 |region id ops F=>
  simp only[bm]at h;split at h<;>try (cases h;done)
  split at h
  ·rw[bg]at h;cases h.2
  ·cases h
 |seq y z=>simp only[bm]at h;split at h<;>cases h
 |cond c y z=>simp only[bm]at h;split at h<;>cases h
 |block id b=>simp only[bm]at h;obtain⟨_,_,h⟩:=aj.1 h;cases h
 |loop b=>simp only[bm]at h;obtain⟨_,_,h⟩:=aj.1 h;cases h
 |_=>simp[bm]at h
theorem XP{code:Code}(h:bm P code=some .ret):code= .ret:=by
 cases code with
 |ret=>rfl
 |region id ops F=>
  simp only[bm]at h;split at h<;>try (cases h;done)
  split at h
  ·rw[bg]at h;cases h.2
  ·cases h
 |seq y z=>simp only[bm]at h;split at h<;>cases h
 |cond c y z=>simp only[bm]at h;split at h<;>cases h
 |block id b=>simp only[bm]at h;obtain⟨_,_,h⟩:=aj.1 h;cases h
 |loop b=>simp only[bm]at h;obtain⟨_,_,h⟩:=aj.1 h;cases h
 |_=>simp[bm]at h
theorem Tp{code:Code}{id:Nat}(h:bm P code=some (.exit id)):code= .exit id:=by
 cases code with
 |exit I=>simp only[bm,ay.injEq,ij.exit.injEq]at h;rw[h]
 |region id ops F=>
  simp only[bm]at h;split at h<;>try (cases h;done)
  split at h
  ·rw[bg]at h;cases h.2
  ·cases h
 |seq y z=>simp only[bm]at h;split at h<;>cases h
 |cond c y z=>simp only[bm]at h;split at h<;>cases h
 |block id b=>simp only[bm]at h;obtain⟨_,_,h⟩:=aj.1 h;cases h
 |loop b=>simp only[bm]at h;obtain⟨_,_,h⟩:=aj.1 h;cases h
 |_=>simp[bm]at h
theorem fZ{id:Nat}{ops:Array Oper}{y:Bool}{s:ij}(h:cK P (.region id ops y)=s)(hs:s≠ .bad):bm P (.region id ops y)=some s:=by
 rw[cK]at h;split at h
 ·rename_i F z;rw[<-h];exact z
 ·exact absurd h.symm hs
theorem jo{k:Operand}{y z:Code}{s:ij}(h:cK P (.cond k y z)=s)(hs:s≠ .bad):∃a,bG P 0 k=some a/\s= .cond a (cK P y) (cK P z):=by
 rw[cK]at h;split at h
 ·rename_i a F;exact⟨a,F,h.symm⟩
 ·exact absurd h.symm hs
theorem Tz{code:Code}{b:ij}(h:cK P code= .loop b):∃F,code= .loop F/\cK P F=b:=by
 cases code with
 |loop F=>rw[cK]at h;cases h;exact⟨F,rfl,rfl⟩
 |region id ops I=>have h1:=fZ h (by simp);have h2:=To h1;simp at h2
 |seq y z=>rw[cK]at h;cases h
 |cond k y z=>obtain⟨a,_,h2⟩:=jo h (by simp);cases h2
 |block id b=>rw[cK]at h;cases h
 |skip=>rw[cK]at h;cases h
 |exit id=>rw[cK]at h;cases h
 |ret=>rw[cK]at h;cases h
 |_=>simp[cK]at h
theorem L9{code:Code}{id:Nat}{b:ij}(h:cK P code= .block id b):∃F,code= .block id F/\cK P F=b:=by
 cases code with
 |block id F=>rw[cK]at h;cases h;exact⟨F,rfl,rfl⟩
 |region id ops I=>have h1:=fZ h (by simp);have h2:=LZ h1;simp at h2
 |seq y z=>rw[cK]at h;cases h
 |cond k y z=>obtain⟨a,_,h2⟩:=jo h (by simp);cases h2
 |loop b=>rw[cK]at h;cases h
 |skip=>rw[cK]at h;cases h
 |exit id=>rw[cK]at h;cases h
 |ret=>rw[cK]at h;cases h
 |_=>simp[cK]at h
theorem XS{code:Code}{y z:ij}(h:cK P code= .seq y z):∃F I,code= .seq F I/\cK P F=y/\cK P I=z:=by
 cases code with
 |seq F I=>rw[cK]at h;cases h;exact⟨F,I,rfl,rfl,rfl⟩
 |region id ops J=>have h1:=fZ h (by simp);have h2:=XO h1;simp at h2
 |cond k y z=>obtain⟨a,_,h2⟩:=jo h (by simp);cases h2
 |block id b=>rw[cK]at h;cases h
 |loop b=>rw[cK]at h;cases h
 |skip=>rw[cK]at h;cases h
 |exit id=>rw[cK]at h;cases h
 |ret=>rw[cK]at h;cases h
 |_=>simp[cK]at h
theorem XV{code:Code}{k:Arg}{y z:ij}(h:cK P code= .cond k y z):∃J F I,code= .cond J F I/\bG P 0 J=some k/\cK P F=y/\cK P I=z:=by
 cases code with
 |cond J F I=>obtain⟨a,h1,h2⟩:=jo h (by simp);cases h2;exact⟨J,F,I,rfl,h1,rfl,rfl⟩
 |region id ops K=>have h1:=fZ h (by simp);have h2:=Tq h1;simp at h2
 |seq y z=>rw[cK]at h;cases h
 |block id b=>rw[cK]at h;cases h
 |loop b=>rw[cK]at h;cases h
 |skip=>rw[cK]at h;cases h
 |exit id=>rw[cK]at h;cases h
 |ret=>rw[cK]at h;cases h
 |_=>simp[cK]at h
theorem Ty{code:Code}(h:cK P code= .skip):code= .skip:=by
 cases code with
 |skip=>rfl
 |region id ops F=>have h1:=fZ h (by simp);have h2:=Tn h1;simp at h2
 |seq y z=>rw[cK]at h;cases h
 |cond k y z=>obtain⟨a,_,h2⟩:=jo h (by simp);cases h2
 |block id b=>rw[cK]at h;cases h
 |loop b=>rw[cK]at h;cases h
 |exit id=>rw[cK]at h;cases h
 |ret=>rw[cK]at h;cases h
 |_=>simp[cK]at h
theorem XT{code:Code}(h:cK P code= .ret):code= .ret:=by
 cases code with
 |ret=>rfl
 |region id ops F=>have h1:=fZ h (by simp);have h2:=XP h1;simp at h2
 |seq y z=>rw[cK]at h;cases h
 |cond k y z=>obtain⟨a,_,h2⟩:=jo h (by simp);cases h2
 |block id b=>rw[cK]at h;cases h
 |loop b=>rw[cK]at h;cases h
 |skip=>rw[cK]at h;cases h
 |exit id=>rw[cK]at h;cases h
 |_=>simp[cK]at h
theorem TA{code:Code}{id:Nat}(h:cK P code= .exit id):code= .exit id:=by
 cases code with
 |exit I=>rw[cK]at h;cases h;rfl
 |region id ops F=>have h1:=fZ h (by simp);have h2:=Tp h1;simp at h2
 |seq y z=>rw[cK]at h;cases h
 |cond k y z=>obtain⟨a,_,h2⟩:=jo h (by simp);cases h2
 |block id b=>rw[cK]at h;cases h
 |loop b=>rw[cK]at h;cases h
 |skip=>rw[cK]at h;cases h
 |ret=>rw[cK]at h;cases h
 |_=>simp[cK]at h
theorem XU{code:Code}{l:LAf}(h:cK P code= .ops l):bm P code=some (.ops l):=by
 cases code with
 |region id ops F=>exact fZ h (by simp)
 |seq y z=>rw[cK]at h;cases h
 |cond k y z=>obtain⟨a,_,h2⟩:=jo h (by simp);cases h2
 |block id b=>rw[cK]at h;cases h
 |loop b=>rw[cK]at h;cases h
 |skip=>rw[cK]at h;cases h
 |exit id=>rw[cK]at h;cases h
 |ret=>rw[cK]at h;cases h
 |_=>simp[cK]at h
theorem M2{code:Code}{b I:LAb}{l:LAf}(h:cK P code= .drw b I l):bm P code=some (.drw b I l):=by
 cases code with
 |region id ops F=>exact fZ h (by simp)
 |seq y z=>rw[cK]at h;cases h
 |cond k y z=>obtain⟨a,_,h2⟩:=jo h (by simp);cases h2
 |block id b=>rw[cK]at h;cases h
 |loop b=>rw[cK]at h;cases h
 |skip=>rw[cK]at h;cases h
 |exit id=>rw[cK]at h;cases h
 |ret=>rw[cK]at h;cases h
 |_=>simp[cK]at h
theorem Af{n:Nat}(hR:zY P T n)(Q:ik P (ge T n)){r:RC}{c:CSt}{e:Ex}{c':CSt}(h:eY (iA T n) (ge T n) T.sg r c=some (e,c'))(hl:∀b,r≠ .loop b){code:Code}{C:Ctx}{N:Nat}{a:Act}{w:World}
 (Z:cK P code=r.er) (F:r.ok N=true) (J:M C N c a w):code.wp P (EQ C N e c') a w:=by
 cases r with
 |skip=>
  cases h;have:=Ty (by simpa[RC.er]using Z);subst this;exact wp_skip ⟨rfl,J⟩
 |ret=>
  cases h;have:=XT (by simpa[RC.er]using Z);subst this;exact wp_ret ⟨rfl,J⟩
 |exit id=>
  cases h;have:=TA (by simpa[RC.er]using Z);subst this;exact wp_exit ⟨rfl,J⟩
 |ops l=>
  obtain⟨id,ops,rfl,hl'⟩:=XQ (XU (by simpa[RC.er]using Z));simp only[eY]at h;cases hs:gU (ge T n) T.sg l c with
  |none=>rw[hs]at h;cases h
  |some c1=>rw[hs]at h;simp only[nrm,tT,ay.injEq,bA.injEq]at h;obtain⟨rfl,rfl⟩:=h;refine wp_region ?_;rw[List.range_eq_range'];exact B7 Q hl' l ops.size 0 (by omega) (by simp) F J hs fun a w h=>⟨rfl,h⟩
 |flt b ds l K=>
  obtain⟨id,ops,rfl,hl',hdr,hmo,rfl,rfl⟩:=M0 (M2 (by simpa[RC.er]using Z));simp only[RC.ok,aE]at F;simp only[eY]at h;cases hs:gh (ge T n) T.sg (Region.before ops).toList l [] c with
  |none=>rw[hs]at h;cases h
  |some c1=>rw[hs]at h;simp only[nrm,ay.injEq,bA.injEq]at h;obtain⟨rfl,rfl⟩:=h;exact Jp Q hl' hdr hmo F.1 F.2 (fun a w h=>⟨rfl,M.kill h K⟩) J hs
 |fla b ds l ps K=>
  obtain⟨id,ops,rfl,hl',hdr,hmo,rfl,rfl⟩:=M0 (M2 (by simpa[RC.er]using Z));simp only[RC.ok,aE]at F;simp only[eY]at h;cases hs:kt (ge T n) T.sg (Region.before ops).toList l ps c with
  |none=>rw[hs]at h;cases h
  |some c1=>rw[hs]at h;simp only[nrm,ay.injEq,bA.injEq]at h;obtain⟨rfl,rfl⟩:=h;exact Jq Q hl' hdr hmo F.1 F.2 (fun a w h=>⟨rfl,M.kill h K⟩) J hs
 |seq y z=>
  obtain⟨y',z',rfl,hy,hz⟩:=XS (by simpa[RC.er]using Z);simp only[RC.ok,aE]at F;simp only[eY]at h;cases hs:iA T n y c with
  |none=>rw[hs]at h;cases h
  |some p=>
   obtain⟨e1,c1⟩:=p;rw[hs]at h;refine wp_seq (wp_mono (hR.1 _ _ _ _ hs y' C N a w hy F.1 J) ?_);rintro e' a' w' ⟨rfl,I⟩;cases e1 with
   |n=>exact hR.1 _ _ _ _ h z' C N a' w' hz F.2 I
   |x id=>cases h;exact⟨rfl,I⟩
   |r=>cases h;exact⟨rfl,I⟩
 |cond k y z=>
  obtain⟨k',y',z',rfl,hk,hy,hz⟩:=XV (by simpa[RC.er]using Z);simp only[RC.ok,aE]at F;simp only[eY]at h;unfold cnd at h;split at h<;>try (cases h;done)
  rename_i t ht
  have hv:a.eval k'= .bool t:=by obtain⟨x,s,a6,hS⟩:=J;have a1:=aV a6 hk;rw[hS.ev,ht]at a1;exact a1.bool_inv
  refine wp_cond_split hv (fun e=> ?_) (fun e=> ?_)
  ·subst e
   rw[if_pos rfl]at h;exact hR.1 _ _ _ _ h y' C N a w hy F.1 J
  ·subst e
   rw[if_neg (by simp)]at h;exact hR.1 _ _ _ _ h z' C N a w hz F.2 J
 |block id b=>
  obtain⟨b',rfl,hb⟩:=L9 (by simpa[RC.er]using Z);simp only[eY]at h;cases hs:iA T n b c with
  |none=>rw[hs]at h;cases h
  |some p=>
   obtain⟨e1,c1⟩:=p;rw[hs]at h;refine wp_block (wp_mono (hR.1 _ _ _ _ hs b' C N a w hb F J) ?_);rintro e' a' w' ⟨rfl,I⟩;cases e1 with
   |n=>cases h;exact⟨rfl,I⟩
   |r=>cases h;exact⟨rfl,I⟩
   |x a7=>
    simp only[blk]at h;simp only[Ex.out,Exit.inBlock];split at h<;>rename_i hid
    ·cases h;rw[if_pos hid];exact⟨rfl,I⟩
    ·cases h;rw[if_neg hid];exact⟨rfl,I⟩
 |loop b=>exact absurd rfl (hl b)
 |bad=>cases h
 |pre ds y=>
  simp only[eY]at h;cases hs:jE c ds with
  |none=>rw[hs]at h;cases h
  |some c1=>rw[hs]at h;exact hR.1 _ _ _ _ h code C N a w (by simpa[RC.er]using Z) F (lX J hs)
 |post y ds=>
  simp only[eY]at h;cases hs:iA T n y c with
  |none=>rw[hs]at h;cases h
  |some p=>
   obtain⟨e1,c1⟩:=p;rw[hs]at h;refine wp_mono (hR.1 _ _ _ _ hs code C N a w (by simpa[RC.er]using Z) F J) ?_;rintro e' a' w' ⟨rfl,I⟩;cases e1 with
   |n=>
    simp only[psD]at h;split at h
    ·rename_i c2 h2;cases h;exact⟨rfl,lX I h2⟩
    ·cases h
   |x id=>cases h;exact⟨rfl,I⟩
   |r=>cases h;exact⟨rfl,I⟩
theorem BQ:zY P T 0:=⟨fun r c e c' h=>by simp[iA]at h,fun b c e c' h=>by simp[iA]at h⟩
theorem BR{n:Nat}(K:zY P T n)(F:ik P (ge T n)):zY P T (n+1):=by
 have h2:∀(b:RC)(c:CSt)(e:Ex)(c':CSt),iA T (n+1) (.loop b) c=some (e,c')->∀(code:Code)(C:Ctx)(N:Nat)(a:Act)(w:World),cK P code=b.er->b.ok N=true->M C N c a w->Code.rounds P code (EQ C N e c') (n+1) a w:=by
  intro b c e c' h code C N a w I y J;rw[iA]at h;simp only[eY]at h;rw[rounds_succ];cases hs:iA T n b c with
  |none=>rw[hs]at h;cases h
  |some p=>
   obtain⟨e1,c1⟩:=p;rw[hs]at h;refine wp_mono (K.1 _ _ _ _ hs code C N a w I y J) ?_;rintro e' a' w' ⟨rfl,z⟩;cases e1 with
   |n=>exact K.2 _ _ _ _ h code C N a' w' I y z
   |x id=>cases h;exact⟨rfl,z⟩
   |r=>cases h;exact⟨rfl,z⟩
 refine⟨fun r c e c' h code C N a w I y J=> ?_,h2⟩
 by_cases Q:∃b,r= .loop b
 ·obtain⟨b,rfl⟩:=Q
  obtain⟨Z,rfl,hb⟩:=Tz (by simpa[RC.er]using I);exact wp_loop_rounds (n+1) (h2 b c e c' h Z C N a w hb y J)
 ·rw[iA]at h
  exact Af K F h (fun b e=>Q ⟨b,e⟩) I y J
def xfL(P:Program):ResultVar->RV->Prop
 | .tmp t,.tmp t'=>t=t'
 | .cell t ty,.cell t' n ag=>t=t'/\gJ P ty=some n/\vM P ty=some ag
 |_,_=>False
def JL(P:Program):List ResultVar->List RV->Prop
 |[],[]=>True
 |a::r,b::s=>xfL P a b/\JL P r s
 |_,_=>False
theorem yj(F:Sim N c s):∀{rs:List ResultVar}{J:List RV}{vs:LAa},JL P rs J->vy c J=some vs->∃p,BT P s rs=some (p,vs)/\p
 |[],[],vs,_,h=>by cases h;exact⟨True,rfl,trivial⟩
 |[],_::_,_,h,_=>h.elim
 |_::_,[],_,h,_=>h.elim
 | .tmp t::r,.tmp t'::q,vs,h,hv=>by obtain⟨h1,h2⟩:=h;have h1:t=t':=h1;subst h1;simp only[vy]at hv;split at hv<;>cases hv;rename_i I z;obtain⟨p,h3,h4⟩:=yj F h2 z;exact⟨p,by simp only[BT,h3,F.get],h4⟩
 | .cell t ty::r,.cell t' n ag::q,vs,h,hv=>by
  obtain⟨⟨rfl,g1,Q⟩,h2⟩:=h;simp only[vy]at hv;split at hv<;>cases hv;rename_i v I K z;obtain⟨p,h3,h4⟩:=yj F h2 z
  have y:(if(ag||n==1)=true then oM c n ag (c.get t)else none)=some v:=by
   rw[<-K]
   congr 1
   simp
  split at y
  ·rename_i hc
   obtain⟨p',h5,Z⟩:=AW F y;refine⟨p'/\p, ?_,Z,h4⟩;simp only[BT,g1,Q,h3,F.get];rw[if_pos hc,h5]
  ·cases y
 | .tmp _::_,.cell _ _ _::_,_,h,_=>h.1.elim
 | .cell _ _::_,.tmp _::_,_,h,_=>h.1.elim
def MK(us:LAd):Value:=if h:us.toArray.size=1 then us.toArray[0]else .tuple us.toArray
theorem ML{vs:LAa}{us:LAd}(h:cB x vs us):Rep x (kU vs) (MK us):=by
 have y:=h.1;unfold MK
 match vs,us,y with
 |[v],[u],_=>simpa[kU]using h.2 0 (by simp)
 |[],[],_=>simp only[kU];exact .tup _ _ h.1 h.2
 |v1::v2::vs,u1::u2::us,_=>simp only[kU];rw[dif_neg (by simp)];exact .tup _ _ h.1 h.2
theorem dA.sel{ob z:List (Nat×aG)}{tk F:LAb}(y:dA C x ob tk w){x2:Sit}(hG:x2.G=x.G)(Q:∀p∈z,fa x2 w p.1 p.2/\∃q∈ob,x2.bk p.1=x.bk q.1)(a7:(z.map cV).Nodup)
 (I:∀p∈z,∀q∈z,(x2.bk p.1).1=(x2.bk q.1).1->p.1=q.1) (J:∀t∈F,(x2.τ t).2.1=(x2.τ t).2.2\/∃u∈tk,x2.τ t=x.τ u)
 (a1:∀t∈F,∀u∈F,t≠u->(x2.τ t).2.1=(x2.τ t).2.2\/(x2.τ u).2.1=(x2.τ u).2.2\/∃t'∈tk,∃u'∈tk,t'≠u'/\x2.τ t=x.τ t'/\x2.τ u=x.τ u') (Z:∀i,i<100->x2.bk i=x.bk i):dA C x2 z F w:=by
 refine⟨fun b o v hv=>y.per b o v (by rw[<-hG];exact hv),fun b o v hv=>by rw[hG];exact y.g0 b o v hv,fun b o v hv=>y.gm b o v (by rw[<-hG];exact hv),y.new, ?_,a7,I, ?_, ?_, ?_,y.os,y.tape,y.output,y.size,y.ext,
  fun i hi=>(Z i hi).trans (y.pin i hi),y.lay⟩
 ·intro p hp
  obtain⟨h1,q,hq,h2⟩:=Q p hp;obtain⟨_,h3,h4⟩:=y.obs q hq;exact⟨h1,by rw[h2];exact h3,fun off=>by rw[hG,h2];exact h4 off⟩
 ·intro t K
  rcases J t K with h|⟨u,hu,h⟩
  ·exact .inl h
  ·have:=y.tks u hu
   unfold jh at this ⊢;rw[h,hG];exact this
 ·intro t K p hp
  obtain⟨_,q,hq,h2⟩:=Q p hp;rcases J t K with h|⟨u,hu,h⟩
  ·exact .inr h
  ·rw[h,h2];exact y.tko u hu q hq
 ·intro t K u hu a6
  rcases a1 t K u hu a6 with h|h|⟨t',ht',u',hu',hne,h1,h2⟩
  ·exact .inr (.inl h)
  ·exact .inr (.inr h)
  ·rw[h1,h2];exact y.tkd t' ht' u' hu' hne
theorem fX{p:Nat×aG}:∀{l:List aG}{k:Nat},p∈hJ k l↔∃i,i<l.length/\p.1=k+i/\p.2=l.getD i (.rc [])
 |[],k=>by simp[hJ]
 |o::r,k=>by
  simp only[hJ,aq,fX];constructor
  ·rintro(rfl|⟨i,h1,h2,h3⟩)
   ·exact⟨0,by simp,rfl,rfl⟩
   ·exact⟨i+1,by simpa using h1,by omega,by simpa using h3⟩
  ·rintro⟨i,h1,h2,h3⟩
   cases i with
   |zero=>left;exact Prod.ext (by simpa using h2) (by simpa using h3)
   |succ i=>exact .inr ⟨i,by simpa using h1,by omega,by simpa using h3⟩
theorem jB:∀(l:List aG)(k:Nat),((hJ k l).map cV).Nodup
 |[],_=>by simp[hJ]
 |o::r,k=>by simp only[hJ,ax,fT];refine⟨fun h=> ?_,jB r (k+1)⟩;obtain⟨p,y,e⟩:=aS.1 h;obtain⟨i,_,h2,_⟩:=fX.1 y;omega
theorem Iy(n i:Nat)(h:i<n):(mQ n).getD i 0=i:=by
 have z:∀n,(mQ n).length=n:=by
  intro n;induction n with
  |zero=>rfl
  |succ n y=>simp[mQ,y]
 induction n with
 |zero=>omega
 |succ n y=>
  simp only[mQ,aa,List.getElem?_append,z]
  by_cases hi:i<n
  ·rw[if_pos hi,<-aa,y hi]
  ·rw[if_neg hi];have:i-n=0:=by omega
   rw[this];simp;omega
theorem Jt{keep raw:LAb}{k:Nat}{vs:LAa}{us:LAd}{q:eI}(hM:aY C x s a w)(hS:Sim N c s)(hk:k<=40)(hv:cB x vs us)(h:Te keep k (fP c vs (kh raw 0 vs))=some q):
 ∃x',Rep x' q.r (MK us)/\dA C x' q.os q.tk w/\(∀p∈q.os,p.2.wf=true)/\∀i,i<100->x'.bk i=C.β0 i:=by
 obtain⟨x1,s1,e2,b5,a8⟩:=kP (l:=kh raw 0 vs) hM hS hv;generalize fP c vs (kh raw 0 vs)=z at h b5 a8;obtain⟨c1,b8⟩:=z;simp only at b5 a8;simp only[Te]at h;have hE:=b5.exact e2;cases hb:(decide (k=0)&&(SV.idsL b8).isEmpty&&keep.isEmpty)with
 |true=>rw[hb]at h;simp only[MW,ay.injEq]at h;subst h;refine⟨x1, ?_,hE.heap.only (by simp) (by simp) (by simp),by simp,fun i hi=>hE.heap.pin i hi⟩;refine ML ?_;rw[mB];refine⟨by simpa using a8.1,fun i hi=> ?_⟩;rw[bi _ (by rfl)];exact(a8.2 i (by simpa using hi)).bare rfl rfl
 |false=>
  rw[hb]at h;simp only[MW]at h;generalize hz:lQ c1.tk keep 60 0 b8=z at h;obtain⟨b1,F⟩:=z;simp only[UB]at h;generalize eP c1 60 [] (mQ k++SV.idsL b1)=m at h;cases ho:looks c1 m with
  |none=>rw[ho]at h;cases h
  |some b3=>
   rw[ho]at h;simp only[UA]at h;generalize b4:fe c1.tk (60+F.length) b3=z2 at h;obtain⟨os,I⟩:=z2;simp only[Uz]at h;cases hb2:(rB (SV.idsL b1++gS os) m&&eB m&&eB (cI (F++I))&&decide (m.take k=mQ k)&&(m.drop k).all fun o=>decide (k<=o))with
   |false=>rw[hb2]at h;cases h
   |true=>
    rw[hb2]at h;simp only[Uy,ay.injEq]at h;subst h;simp only[aE,decide_eq_true_eq,aZ]at hb2;obtain⟨⟨⟨⟨d7,e6⟩,e1⟩,a7⟩,d3⟩:=hb2;obtain⟨f3,e9⟩:=tS ho;have a6:=As d7;have d8:=kV e6;have d5:=kV e1
    have e4:∀n,(mQ n).length=n:=by
     intro n;induction n with
     |zero=>rfl
     |succ n ih=>simp[mQ,ih]
    have f2:k<=m.length:=by have:=congrArg uZ a7;rw[aw,e4]at this;omega
    have b6:∀i,i<k->m.getD i 0=i:=by
     intro i hi;have h1:(m.take k).getD i 0=m.getD i 0:=by simp only[aa,bZ,if_pos hi]
     rw[<-h1,a7,Iy k i hi]
    have c7:∀i,k<=i->i<m.length->k<=m.getD i 0:=by
     intro i h1 h2;refine d3 _ ?_
     have:m.getD i 0=(m.drop k).getD (i-k) 0:=by simp only[aa,bH];congr 2;omega
     rw[this];exact gX (by rw[aQ];omega)
    let τ2:Nat->Nat×Nat×Nat:=fun t=>if 60<=t/\t<60+(F++I).length then NE x1 ((F++I).getD (t-60) none)else(0,0,0)
    let x2:Sit:=⟨x1.G,x1.bk,τ2⟩
    let x3:Sit:=⟨x1.G,fun i=>if i<100 then x1.bk i else x1.bk (m.getD (i-100) 0),τ2⟩
    have hτ:∀y:Sit,y.τ=τ2->rk x1 y 60 (F++I):=by
     intro y hy j hj;rw[hy];show(if _ then _ else _)=_;rw[if_pos ⟨by omega,by omega⟩]
     congr 2;omega
    have J:∀i,i<m.length->(m.getD i 0,b3.getD i (.rc []))∈c1.ob:=fun i hi=>kI (e9 i hi)
    have hβ:∀o∈m,x3.bk (iS k m o)=x1.bk o:=by
     intro o ho;unfold iS;split
     ·rename_i f1
      show(if _ then _ else _)=_;rw[if_pos (by omega)]
     ·show(if _ then _ else _)=_
      rw[if_neg (by omega)];have e:100+iD m o-100=iD m o:=by omega
      rw[e,(pE ho).2]
    have d4:=hτ x2 rfl
    have e8:cB x2 b1 us:=by have:=ow (x:=x1) (x1:=x2) rfl rfl (tk:=c1.tk) (own:=keep) (j:=60) (i:=0) a8 (by rw[hz];exact d4.left);rwa[hz]at this
    have e5:Rep x3 ((kU b1).ren (iS k m) id) (MK us):=by
     refine Rep.renF (x:=x2) (x2:=x3) (fun _ _ _ h=>h) (ML e8) (fun j hj=>hβ j (a6 j (am.2 (.inl ?_)))) (fun t _=>rfl)
     have key:∀l:LAa,∀j∈(kU l).ids,j∈SV.idsL l:=by
      intro l j hj
      match l with
      |[]=>exact hj
      |[v]=>simpa[kU,SV.idsL]using hj
      |v::u::r=>exact hj
     exact key b1 j hj
    obtain⟨b7,b2⟩:=nC (x:=x1) (x1:=x2) (w:=w) rfl rfl (tk:=c1.tk) (obs:=b3) (j:=60+F.length) (f:=fun i=>m.getD i 0)
     (fun i hi=>(hE.heap.obs _ (J i (by omega))).1) (by rw[b4];exact d4.right)
    rw[b4]at b7 b2;simp only at b7 b2
    have e0:∀o∈os,o.wf=true:=by
     intro o e7
     have:=pM (tk:=c1.tk) (obs:=b3) (j:=60+F.length) (fun o h'=>by obtain⟨i,hi,rfl⟩:=cr h';have:=b5.inv.wf _ (J i (by omega));simpa[aa,ac hi]using this) o (by rw[b4];exact e7)
     exact this
    have K:∀p∈hJ 0 (fo (iS k m) id (os.take k))++hJ (100+k) (fo (iS k m) id (os.drop k)),∃i,i<m.length/\p.1=iS k m (m.getD i 0)/\p.2=(os.getD i (.rc [])).ren (iS k m) id/\os.getD i (.rc [])∈os:=by
     intro p Z
     have gd:∀{l:List aG}{i:Nat},i<l.length->(fo (iS k m) id l).getD i (.rc [])=(l.getD i (.rc [])).ren (iS k m) id:=by intro l i hi;rw[il,aa,aa,aR,ac hi];rfl
     have gm:∀{i:Nat},i<os.length->os.getD i (.rc [])∈os:=fun{i} hi=>by rw[aa,ac hi];exact aF _
     rcases am.1 Z with Z|Z
     ·obtain⟨i,h1,h2,h3⟩:=fX.1 Z
      rw[il,av,aw]at h1;have e:(os.take k).getD i (.rc [])=os.getD i (.rc []):=by simp only[aa,bZ,if_pos (show i<k by omega)]
      refine⟨i,by omega, ?_, ?_,gm (by omega)⟩
      ·rw[h2,b6 i (by omega)];unfold iS;rw[if_pos (by omega)];omega
      ·rw[h3,gd (by rw[aw];omega),e]
     ·obtain⟨i,h1,h2,h3⟩:=fX.1 Z
      rw[il,av,aQ]at h1;have hi:k+i<m.length:=by omega
      have e:(os.drop k).getD i (.rc [])=os.getD (k+i) (.rc []):=by simp only[aa,bH]
      refine⟨k+i,hi, ?_, ?_,gm (by omega)⟩
      ·have h5:=c7 (k+i) (by omega) hi
       have h6:=pE (gX hi);have h7:iD m (m.getD (k+i) 0)=k+i:=nK d8 h6.1 hi h6.2;unfold iS;rw[if_neg (by omega),h7,h2];omega
      ·rw[h3,gd (by rw[aQ];omega),e]
    have e3:∀t∈cI (F++I),t∈c1.tk:=by
     intro t Q;rw[gR,am]at Q;rcases Q with Q|Q
     ·exact rA (tk:=c1.tk) (own:=keep) (cs:=b8) (j:=60) (i:=0) t (by rw[hz];exact Q)
     ·exact pN (tk:=c1.tk) (obs:=b3) (j:=60+F.length) t (by rw[b4];exact Q)
    have a1:∀t∈tks 60 (F.length+I.length),(x3.τ t).2.1=(x3.τ t).2.2\/∃u,(F++I).getD (t-60) none=some u/\u∈c1.tk/\x3.τ t=x1.τ u:=by
     intro t Q;obtain⟨h1,h2⟩:=lu.1 Q;have e:=hτ x3 rfl (t-60) (by rw[af];omega);rw[show 60+(t-60)=t by omega]at e;cases hu:(F++I).getD (t-60) none with
     |none=>rw[hu]at e;rw[e];exact .inl rfl
     |some u=>rw[hu]at e;exact .inr ⟨u,rfl,e3 u (jL hu),e⟩
    refine⟨x3,e5,hE.heap.sel (x2:=x3) rfl ?_ ?_ ?_ ?_ ?_ ?_, ?_, ?_⟩
    ·intro p Z
     obtain⟨i,h1,h2,h3,h4⟩:=K p Z;have d9:=gX h1;refine⟨?_,_,J i h1,by rw[h2];exact hβ _ d9⟩;rw[h2,h3];exact(b2 i (by omega)).renF (x2:=x3) (fun _ _ _ h=>h) (hβ _ d9) (fun j hj=>hβ j (a6 j (am.2 (.inr (sN h4 j hj))))) (fun t _=>rfl)
    ·rw[b9,List.nodup_append]
     refine⟨jB _ _,jB _ _,fun u hu v hv e=> ?_⟩;obtain⟨p,Z,rfl⟩:=aS.1 hu;obtain⟨r,hr,rfl⟩:=aS.1 hv;obtain⟨i,h1,h2,_⟩:=fX.1 Z;obtain⟨j,h3,h4,_⟩:=fX.1 hr;rw[il,av,aw]at h1;omega
    ·intro p Z r hr d6
     obtain⟨i,h1,h2,_⟩:=K p Z;obtain⟨j,h3,h4,_⟩:=K r hr;rw[h2,h4,hβ _ (gX h1),hβ _ (gX h3)]at d6;have:=hE.heap.inj _ (J i h1) _ (J j h3) d6;simp only at this;rw[h2,h4,this]
    ·intro t Q
     rcases a1 t Q with g|⟨u,_,g1,g2⟩
     ·exact .inl g
     ·exact .inr ⟨u,g1,g2⟩
    ·intro t Q u hu f0
     rcases a1 t Q with g|⟨t',g0,g1,g2⟩
     ·exact .inl g
     ·rcases a1 u hu with g|⟨u',k0,k1,k2⟩
      ·exact .inr (.inl g)
      ·refine .inr (.inr ⟨t',g1,u',k1,qp d5 ?_ g0 k0,g2,k2⟩)
       have:=lu.1 Q;have:=lu.1 hu;omega
    ·intro i hi
     show(if _ then _ else _)=_;rw[if_pos hi]
    ·intro p Z
     obtain⟨i,h1,h2,h3,h4⟩:=K p Z;rw[h3];exact DU (e0 _ h4)
    ·intro i hi
     show(if _ then _ else _)=_;rw[if_pos hi];exact hE.heap.pin i hi
structure Ni(P:Program)(g:Nat)(F:FnC):Prop where
 fn:∃fn,P.funcs[g]? =some fn/\fn.body.map (cK P)=some F.code.er/\fn.ntmps=F.n/\JL P fn.results.toList F.rs
 cb:fk P g=true
 ok:F.code.ok F.n=true
def oS(P:Program)(T:iT):Prop:=∀g b,T.fn g=some b->match b with
 | .code F=>Ni P g F
 | .prim f=>∀a_ os k q,f a_ os k=some q->gu P g a_ os k (· =q)
theorem Iq(os:List aG):∀o,(idx os).lookup o=jK (hJ 0 os) o:=by
 intro o;have h1:((idx os).map cV).Nodup:=pR os;have h2:=jB os 0
 have y:∀p,p∈idx os↔p∈hJ 0 os:=by
  intro p;rw[jY,fX];constructor
  ·rintro⟨g1,z⟩;exact⟨p.1,g1,by omega,z⟩
  ·rintro⟨i,g1,z,g3⟩
   have e:p.1=i:=by omega
   rw[e];exact⟨g1,g3⟩
 rw[jC];refine yy (fun v hv=> ?_) (fun v hv=> ?_)
 ·exact kE (p:=(o,v)) h2 ((y _).1 (kI hv))
 ·exact kE (p:=(o,v)) h1 ((y _).2 (kI hv))
theorem vN(n:Nat):∀(l:LAa)(i:Nat),fD (qP i l) n=if i<=n then l.getD (n-i) .undef else .undef
 |[],i=>by simp[qP,fD]
 |v::r,i=>by
  simp only[qP,fD,vN n r (i+1)]
  by_cases h:i=n
  ·subst h;simp
  ·rw[if_neg h]
   by_cases h2:i<=n
   ·rw[if_pos h2,if_pos (by omega)]
    obtain⟨k,y⟩:∃k,n-i=k+1:=⟨n-i-1,by omega⟩;rw[y,cZ];congr 1;omega
   ·rw[if_neg h2,if_neg (by omega)]
theorem vJ{p:Nat×SV}:∀{l:LAa}{i:Nat},p∈qP i l->p.1<i+l.length
 |v::r,i,h=>by
  simp only[qP]at h;rcases aq.1 h with e|e
  ·rw[e];simp
  ·have:=vJ e;simp only[ai];omega
theorem Av:∀(l:List aG)(k:Nat),((hJ k l).map cV).Pairwise (· < ·)
 |[],_=>by simp[hJ]
 |o::r,k=>by simp only[hJ,ax,bY];refine⟨fun n z=> ?_,Av r (k+1)⟩;obtain⟨p,y,rfl⟩:=aS.1 z;obtain⟨i,_,h2,_⟩:=fX.1 y;omega
theorem qz{n:Nat}(hR:zY P T n)(hT:oS P T):ik P (ge T n):=by
 intro g a_ os k q y;unfold ge at y;cases hg:T.fn g with
 |none=>rw[hg]at y;cases y
 |some b=>
  have hb:=hT g b hg;cases b with
  |prim f=>rw[hg]at y;exact hb a_ os k q y
  |code F=>
   rw[hg]at y;simp only[qR,Cf]at y;obtain⟨⟨fn,b5,z,b1,a7⟩,a6,b4⟩:=hb;refine⟨a6, ?_⟩;split at y
   case isFalse=>cases y
   rename_i b8;intro C x w vs c7 b7 b6 Q a8 hH I;cases hbd:fn.body with
   |none=>simp[hbd]at z
   |some code=>
    simp only[hbd,dm]at z;refine calls_of_wp b5 hbd ?_;have hl:=I.1
    let s0:St:=⟨a_++aB (F.n-a_.length) .undef,idx os,tks 50 k⟩
    have b3:aY C x s0 {tmps:=(⟨vs⟩:LAe)++eE (fn.ntmps-(⟨vs⟩:LAe).size) undef,defers:=[]} w:=by
     refine⟨?_,rfl,hH⟩
     have e1:((⟨vs⟩:LAe)++eE (fn.ntmps-(⟨vs⟩:LAe).size) undef).toList=vs++aB (F.n-a_.length) undef:=by simp[b1,hl]
     rw[e1];refine I.append ⟨by simp,fun i hi=> ?_⟩;rw[ja _ _ _ _ (by simpa using hi)];exact .undef _
    have b2:Sim F.n (vm a_ os k) s0:=by
     refine⟨⟨fun p hp=> ?_,Av os 0,fun p hp=> ?_⟩, ?_,fun o=>Iq os o,fun t=>Iff.rfl⟩
     ·have:=vJ hp;omega
     ·obtain⟨i,h1,_,h3⟩:=fX.1 hp
      rw[h3,aa,ac h1];exact a8 _ (aF _)
     ·apply List.ext_getElem?
      intro i;show(a_++aB (F.n-a_.length) SV.undef)[i]? =_;rw[aR];rcases bq i F.n with hi|hi
      ·rw[cN hi]
       have e:(vm a_ os k).get i=a_.getD i .undef:=by show fD (qP 0 a_) i=_;rw[vN];simp
       simp only[bz,e,List.getElem?_append,List.getElem?_replicate]
       by_cases h:i<a_.length
       ·rw[if_pos h,aa,ac h];rfl
       ·rw[if_neg h,if_pos (by omega),aa,fI (by omega)];rfl
      ·rw[fI (by simp;omega),fI (by simpa using hi)];rfl
    cases hs:iA T n F.code (vm a_ os k)with
    |none=>rw[hs]at y;cases y
    |some p=>
     obtain⟨e,c1⟩:=p;rw[hs]at y;refine wp_mono (hR.1 _ _ _ _ hs code C F.n _ w (by simpa using z) b4 ⟨x,s0,b3,b2⟩) ?_;rintro e' a' w' ⟨rfl,x1,s1,K,Z⟩
     have J:MX F.keep F.raw os.length c1 (vy c1 F.rs)=some q->a'.defers=[]/\∃v,(results fn a'.tmps).run P w'= .ok v w'/\∃v',∃x':Sit,∃q',Ending.returned v= .returned v'/\q'=q/\Rep x' q'.r v'/\dA C x' q'.os q'.tk w'/\(∀p∈q'.os,p.2.wf=true)/\∀i,i<os.length->x'.bk i=x.bk i:=by
      intro hf;cases hrc:vy c1 F.rs with
      |none=>rw[hrc]at hf;cases hf
      |some rv=>
       rw[hrc]at hf;obtain⟨p,h1,h2⟩:=yj (P:=P) Z a7 hrc;obtain⟨us,a1,hl⟩:=uu K h1 h2;obtain⟨x',g1,g2,g3,g4⟩:=Jt K Z Q hl hf;refine⟨K.defers,MK us, ?_,MK us,x',q,rfl,rfl,g1,g2,g3,fun i hi=> ?_⟩
       ·rw[BS,Array.mapM_eq_mapM_toList]
        simp only[aH,Sem.run_map,a1,ao,aU];rfl
       ·rw[g4 i (by omega)];exact(hH.pin i (by omega)).symm
     cases e with
     |n=>exact J y
     |r=>exact J y
     |x id=>cases y
theorem NG(y:oS P T):∀n,zY P T n
 |0=>BQ
 |n+1=>BR (NG y n) (qz (NG y n) y)
theorem lh(y:oS P T):ik P (call T):=by intro g a_ os k q z;obtain⟨n,F⟩:=sM z;exact qz (NG y n) y g a_ os k q F
theorem S9(hT:oS P T){g:Nat}{a_:LAa}{r:SV}(h:call T g a_ [] 0=some ⟨r,[],[]⟩)(J:r.toks=[]):Fn P g a_ r:=by obtain⟨h1,h2⟩:=lh hT _ _ _ _ _ h;refine⟨h1,fun C x w vs z Z hm hl F hv=> ?_⟩;refine(h2 C x w vs z Z (fun b K=>(hm b K).imp id (fun⟨i,hi,_⟩=>by simp at hi)) (by simp) (by simp) F hv).mono ?_;rintro en w' ⟨v,x',q,rfl,rfl,I,y,_,Q⟩;exact⟨v,x',r,[],rfl,⟨rfl,rfl⟩,I,by rw[J];exact y,Q⟩
def Ud(P:Program):ResultVar->RV->Bool
 | .tmp t,.tmp t'=>decide (t=t')
 | .cell t ty,.cell t' n ag=>decide (t=t')&&decide (gJ P ty=some n)&&decide (vM P ty=some ag)
 |_,_=>false
def ut(P:Program):List ResultVar->List RV->Bool
 |[],[]=>true
 |a::r,b::s=>Ud P a b&&ut P r s
 |_,_=>false
theorem AA:∀{rs:List ResultVar}{y:List RV},ut P rs y=true->JL P rs y
 |[],[],_=>trivial
 |[],_::_,h=>by cases h
 |_::_,[],h=>by cases h
 |a::r,b::s,h=>by
  simp only[ut,aE]at h;refine⟨?_,AA h.2⟩;have h1:=h.1;cases a<;>cases b<;>simp only[Ud,aE,decide_eq_true_eq]at h1<;>first|(cases h1;done)|skip
  ·exact h1
  ·exact⟨h1.1.1,h1.1.2,h1.2⟩
theorem Ta{g:Nat}{F:FnC}{fn:Func}(h1:P.funcs[g]? =some fn)(h2:fn.body.map (cK P)=some F.code.er)(h3:fn.ntmps=F.n)(h4:ut P fn.results.toList F.rs=true)(z:fk P g=true)(y:F.code.ok F.n=true):Ni P g F:=
 ⟨⟨fn,h1,h2,h3,AA h4⟩,z,y⟩
open Go.RowKit Go.ChangeShapes Go.WideShapes
def GW(w:World):GM:=fun b o=>w.cell? ⟨b,o,none⟩
def rJ(w:World):Sit:=⟨GW w,fun _=>(0,0),fun _=>(0,0,0)⟩
theorem Uv(w:World)(y:Lay (GW w)):dA ⟨w,GW w,fun b=>w.heap.size<=b,fun _=>(0,0)⟩ (rJ w) [] [] w where
 per:=fun _ _ _ h=>h
 g0:=fun _ _ _ h=>h
 gm:=fun _ _ _ h=> .inl h
 new:=fun _ h=>h
 obs:=by simp
 nd:=List.nodup_nil
 inj:=by simp
 tks:=by simp
 tko:=by simp
 tkd:=by simp
 os:=rfl
 tape:=rfl
 output:=rfl
 size:=aM _
 ext:=fun _ _=>rfl
 pin:=fun _ _=>rfl
 lay:=y
theorem wG{x:Sit}{b:Bool}{v:Value}(h:Rep x (.bool b) v):v= .bool b:=by
 cases h with
 |dat _ _ h _=>cases h;rfl
theorem I6{P:Program}{f:Nat}{a_:LAa}(h:Fn P f a_ (.bool true)){W:World}{vs:LAd}(hv:cB (rJ W) a_ vs)(K:Lay (GW W)):
 Calls P f ⟨vs⟩ W fun e z=>e= .returned (.bool true)/\Below W.heap.size W z:=by
 refine(h.2 ⟨W,GW W,fun b=>W.heap.size<=b,fun _=>(0,0)⟩ (rJ W) W vs rfl rfl (fun b I=> .inl I) (by simp) (Uv W K) hv).mono ?_;rintro e z ⟨v,x',r,J,rfl,⟨rfl,rfl⟩,F,y,_⟩;obtain rfl:=wG F;exact⟨rfl,y.os,y.tape,y.output,y.size,fun k Q=>y.ext k (by simp;omega)⟩
section
variable {H:Type}{enc:TypeId × Value -> H}{base:Nat}{sp:Nat -> Bool}{hd:Bool}{r:Reach}{b0:Nat}{t e:TypeId}{v:Value}{d:DataW H}{ps:List MemPlace}
theorem TU{k:IntKind}(F:P.underlying t=some (.int k))(y:Value.okWide P w r b0 t v)(h:DataW.Trod enc P w base sp hd t v d ps):∃n,k.has n/\Rep (rJ w) (.int k n) v:=by obtain⟨n,rfl,_,_,z⟩:=open_int F y h;simp only[Lit.wf,aE,decide_eq_true_eq]at z;exact⟨n,z,.dat _ _ (.int k n) trivial⟩
theorem By{a:Addr}{len cap:Nat}(z:P.underlying t=some (.slice e))(y:Value.okWide P w r b0 t (.slice (some a) len cap)):a.spot=none:=by simp only[Value.okWide,z,Cell.okWide,Cell.ok]at y;exact y.2.2.2.1
theorem Vm{n:Int}(h:(Lit.int .u8 n).wf=true):((eL n.toNat).toNat:Int)=n:=by
 simp only[Lit.wf,IntKind.min,IntKind.max,iW,ll,aE,decide_eq_true_eq]at h;rw[UInt8.toNat_ofNat'];have:n.toNat<256:=by simp at h;omega
 rw[ek this];simp at h;omega
theorem wk(I:P.underlying t=some (.slice e))(he:P.underlying e=some (.int .u8))(hc:P.cellsOf e=1)(z:Value.okWide P w r b0 t v)(h:DataW.Trod enc P w base sp hd t v d ps):
 ∃l:t8,l.length<=maxLen/\Rep (rJ w) (.byt l .no) v:=by
 obtain⟨a0,len,cap,rfl⟩:=okWide_slice I z;obtain⟨J,Q⟩:=h;rcases open_ints I he hc Q with⟨y,_⟩|⟨a,len',cap',zs,y,_,hl,hm,hz,_,hcell,hwf⟩
 ·simp[Value.cells]at y
  obtain⟨rfl,rfl,rfl⟩:=y;exact⟨[],by simp,.dat _ _ (.bytN .no) trivial⟩
 ·simp[Value.cells]at y
  obtain⟨rfl,rfl,rfl⟩:=y;have hs:=By I z;obtain⟨b,off,K⟩:=a;simp only at hs;subst hs;have a1:len<=zs.length:=by rw[hz];split<;>omega
  refine⟨(zs.take len).map fun n=>eL n.toNat,by simp;omega,.dat _ _ (.byt _ .no b off cap len (by simp;omega) hl (fun i hi=> ?_)) trivial⟩;have h1:=hcell i (by omega);have F:i<zs.length:=by omega
  rw[add_plain]at h1
  have Z:((zs.take len).map fun n=>eL n.toNat).getD i 0=eL (zs.getD i 0).toNat:=by simp[aa,F,hi]
  show w.cell? _=_;rw[h1,Z]
  congr 2
  refine(Vm (hwf _ ?_)).symm;rw[aa,ac F];exact aF F
end
theorem K9{x:Sit}:cB x [] []:=⟨rfl,by simp⟩
section
variable {H:Type}{enc:TypeId × Value -> H}
theorem Lk{f:Func}{s:ChangeSpec}{I fresh y a1:Bool}{W W':World}{args:LAe}{v:Value}{ds gs:List (DataW H)}{before pa pv:List MemPlace}
 (hW:DataW.Whole enc P f.params.toList s.vars I W args.toList ds gs before)
 (Z:∀(b:Nat)(sp:Nat->Bool)(hd:Bool),DataW.TrodAll enc P W' b sp hd f.resultTypes.toList (v.resultList f.resultTypes.size) (s.fn H (ds++gs)).results [])
 (z:∀sp:Nat->Bool,(∀p∈before,sp p.block=true)->DataW.TrodAll enc P W' 0 sp true f.params.toList args.toList (s.fn H (ds++gs)).args pa)
 (F:∀sp:Nat->Bool,(∀p∈before,sp p.block=true)->DataW.TrodVars enc P W' sp s.vars (s.fn H (ds++gs)).vars pv)
 (K:before=pa++pv) (hb:Below W.heap.size W W')
 (a8:∀(j:Nat)(t:TypeId)(r:Value),f.resultTypes[j]? =some t->(v.resultList f.resultTypes.size)[j]? =some r->Value.okWide P W' .any 0 t r):
 s.post enc P f I fresh y a1 W args v W':=by
 have a6:=hW.lt;have Q:∀p∈before,(fun b=>decide (b<W.heap.size)) p.block=true:=fun p J=>by simpa using a6 p J
 refine⟨ds,gs,before,[],pa,pv,hW,Z _ _ _,z _ Q,F _ Q,World.keptBut_mono (fun p J=>⟨J, ?_⟩) (hb.frame (· ∈before)),fun _=> ?_⟩
 ·rw[K,am]at J
  exact Or.inr J
 ·obtain⟨_,_,_,_,_,hz,hn⟩:=hW
  refine⟨a8,_,_,([]++pa)++pv,⟨[]++pa,pv,trodAll_append (z _ (fun _ _=>rfl)) (Z _ _ _),F _ (fun _ _=>rfl),rfl, ?_, ?_⟩, ?_⟩
  ·intro b off J
   have a7:MemPlace.cell b off∈before:=by rw[K];simpa using J
   rw[hb.frozen (p:=⟨b,off,none⟩) (a6 _ a7)];exact hz b off a7
  ·intro ha
   have:=hn ha;rw[K]at this;simpa using this
  ·intro p J _
   rw[K];simpa using J
theorem mS(F:laidOutB P=true){W K:World}(I:Below W.heap.size W K):∀{z:List TypeId}{vs:LAd}{J:List (DataW H)}{p:List MemPlace},(z.all fun t=>P.readableRec t&&decide (t<P.types.size))=true->
 DataW.TrodAll enc P W 0 (fun _=>true) true z vs J p->(∀x∈p,x.block<W.heap.size)->∀sp:Nat->Bool,(∀x∈p,sp x.block=true)->DataW.TrodAll enc P K 0 sp true z vs J p
 |[],_,_,_,_,h,_,_,_=>by obtain⟨rfl,rfl,rfl⟩:=trodAll_nil h;exact trodAll_mk0
 |t::z,_,_,_,hr,h,hlt,sp,hsp=>by obtain⟨v,Z,d,Q,a,b,rfl,rfl,rfl,h1,h2⟩:=trodAll_cons h;simp only[List.all_cons,aE,decide_eq_true_eq]at hr;refine trodAll_cons_mk ?_ (mS F I (by simpa using hr.2) h2 (fun x y=>hlt x (List.mem_append_right _ y)) sp (fun x y=>hsp x (List.mem_append_right _ y)));exact WideElems.Trod_stays F hr.1.1 hr.1.2 h1 (fun x y=>I.same (hlt x (List.mem_append_left _ y))) (fun x y=>hsp x (List.mem_append_left _ y))
theorem LH{f:Func}{s:ChangeSpec}{W W':World}{args:LAe}{K gs:List (DataW H)}{before:List MemPlace}{tb:TypeId}(hl:laidOutB P=true)
 (hr:(f.params.toList.all fun t=>P.readableRec t&&decide (t<P.types.size))=true) (J:f.resultTypes= #[tb]) (Q:P.underlying tb=some .bool) (y:s.vars=[])
 (a1:(s.fn H (K++gs)).results=[.lit (.bool true)]) (Z:(s.fn H (K++gs)).args=K) (a6:(s.fn H (K++gs)).vars=[])
 (hW:DataW.Whole enc P f.params.toList s.vars false W args.toList K gs before) (hb:Below W.heap.size W W'):
 s.post enc P f false true false false W args (.bool true) W':=by
 have z:=hW.lt;have F:=hW;obtain⟨p,q,hA,hV,rfl,a7,a8⟩:=hW;rw[y]at hV;obtain⟨rfl,rfl⟩:=trodVars_none hV;simp only[bO]at z F a7;refine Lk (pa:=p) (pv:=[]) (before:=p) (gs:=[]) F (fun b sp hd=> ?_) (fun sp I=> ?_) (fun sp I=> ?_) (by simp) hb (ok_one J rfl (okWide_bool_mk Q _))
 ·rw[a1,J]
  exact trodAll_cons_mk (shut_bool Q _) trodAll_mk0
 ·rw[Z]
  exact mS hl hb hr hA z sp I
 ·rw[y,a6]
  rfl
end
open Go.RowKit Go.ChangeShapes Go.WideShapes
variable {w':World}
theorem gf.below{b:Nat}{c:LAe}{e:TypeId}{fl fh:Nat}(h:gf w b c e fl fh)(y:Below w.heap.size w w'):gf w' b c e fl fh:=h.of_heap (y.block b h.lt)
theorem dA.below{ob:List (Nat×aG)}{tk:LAb}(h:dA C x ob tk w)(y:Below w.heap.size w w'):dA C x ob tk w' where
 per:=fun b o v hv=>by rw[dV (y.block b (h.ltG hv))];exact h.per b o v hv
 g0:=h.g0
 gm:=h.gm
 new:=h.new
 obs:=fun p I=>by obtain⟨⟨c,e,fl,fh,z,r⟩,q⟩:=h.obs p I;exact⟨⟨c,e,fl,fh,z.below y,r⟩,q⟩
 nd:=h.nd
 inj:=h.inj
 tks:=fun t J=>(h.tks t J).imp id fun⟨⟨c,e,fl,fh,z,r⟩,q⟩=>⟨⟨c,e,fl,fh,z.below y,r⟩,q⟩
 tko:=h.tko
 tkd:=h.tkd
 os:=y.os.trans h.os
 tape:=y.tape.trans h.tape
 output:=y.output.trans h.output
 size:=fi h.size y.size
 ext:=fun b F=>by
  rcases bq b w.heap.size with h1|h1
  ·rw[y.block b h1];exact h.ext b F
  ·exact absurd (h.new b (fi h.size h1)) F
 pin:=h.pin
 lay:=h.lay
theorem lA{l:t8}{v:Value}(h:Rep x (.str l) v):v= .string ⟨⟨l⟩⟩:=by
 cases h with
 |dat _ _ h _=>cases h;rfl
theorem Zq{b:UInt8}{v:Value}(h:Rep x (.u8 b) v):v= .int .u8 b.toNat:=by
 cases h with
 |dat _ _ h _=>cases h;rfl
theorem kS{g:Nat}{a_:LAa}{r:SV}(y:fk P g=true)
 (h:∀(x:Sit)(w:World)(vs:LAd),cB x a_ vs->(∀b o v,x.G b o=some v->w.cell? ⟨b,o,none⟩=some v)->
  Calls P g ⟨vs⟩ w fun e w'=>∃v,e= .returned v/\Rep x r v/\Below w.heap.size w w'):gu P g a_ [] 0 (· =⟨r,[],[]⟩):=by
 refine⟨y,fun C x w vs Q hG hm Z K z I=>(h x w vs I z.per).mono ?_⟩;rintro e w' ⟨v,rfl,hv,J⟩;exact⟨v,x,_,rfl,rfl,hv,z.below J,fun p F=>by simp at F,fun i hi=>rfl⟩
variable {T':iT}
variable {ob:List (Nat × aG)}{tk:List Nat}
open Go.RowKit Go.ChangeShapes Go.WideShapes
open Go.RowKit Go.ChangeShapes Go.WideShapes
def Sit.grow(x:Sit)(w w':World):Sit:=⟨fun b o=>if w.heap.size<=b then w'.cell? ⟨b,o,none⟩else x.G b o,x.bk,x.τ⟩
theorem cx{b o:Nat}{v:Value}(h:w.cell? ⟨b,o,none⟩=some v):b<w.heap.size:=by
 rcases bq b w.heap.size with h1|h1
 ·exact h1
 ·have h2:w.heap[b]? =none:=Array.getElem?_eq_none h1
  simp only[World.cell?,h2]at h;cases h
theorem LP(y:∀b o v,x.G b o=some v->w.cell? ⟨b,o,none⟩=some v){b o:Nat}{v:Value}(h:x.G b o=some v):(x.grow w w').G b o=some v:=by show(if w.heap.size<=b then _ else _)=_;rw[if_neg (by have:=cx (y _ _ _ h);omega)];exact h
theorem hU{g:Nat}{a_:LAa}{r:SV}(I:fk P g=true)
 (h:∀(x:Sit)(w:World)(vs:LAd),cB x a_ vs->(∀b o v,x.G b o=some v->w.cell? ⟨b,o,none⟩=some v)->Lay x.G->
  Calls P g ⟨vs⟩ w fun e w'=>∃v,e= .returned v/\Rep (x.grow w w') r v/\Below w.heap.size w w'):gu P g a_ [] 0 (· =⟨r,[],[]⟩):=by
 refine⟨I,fun C x w vs K hG hm hl a1 z Z=>(h x w vs Z z.per (hG ▸ z.lay)).mono ?_⟩;rintro e w' ⟨v,rfl,hv,hb⟩;have h1:=z.below hb;refine⟨v,x.grow w w',_,rfl,rfl,hv,⟨?_, ?_, ?_,h1.new,by simp,by simp,by simp,by simp,by simp,by simp,h1.os,h1.tape,h1.output,h1.size,h1.ext,fun i hi=>h1.pin i hi,h1.lay⟩,fun p Q=>by simp at Q,fun i hi=>rfl⟩
 ·intro b o u F
  have y:(if w.heap.size<=b then w'.cell? ⟨b,o,none⟩else x.G b o)=some u:=F;split at y
  ·exact y
  ·exact h1.per _ _ _ y
 ·intro b o u F
  exact LP z.per (z.g0 _ _ _ F)
 ·intro b o u F
  have y:(if w.heap.size<=b then w'.cell? ⟨b,o,none⟩else x.G b o)=some u:=F;split at y
  ·rename_i J
   exact .inr (z.new b (by rw[K];exact J))
  ·exact z.gm _ _ _ y
theorem jv(I:oS P T){g:Nat}{a_:LAa}{r:SV}(h:call T g a_ [] 0=some ⟨r,[],[]⟩){vs:LAd}(hv:cB (rJ w) a_ vs)(J:Lay (GW w)):
 Calls P g ⟨vs⟩ w fun e w'=>∃v x',e= .returned v/\Rep x' r v/\Below w.heap.size w w':=by
 obtain⟨h1,h2⟩:=lh I _ _ _ _ _ h;refine(h2 ⟨w,GW w,fun b=>w.heap.size<=b,fun _=>(0,0)⟩ (rJ w) w vs rfl rfl (fun b F=> .inl F) (by simp) (by simp) (Uv w J) hv).mono ?_;rintro e w' ⟨v,x',q,rfl,rfl,z,y,_⟩;exact⟨v,x',rfl,z,y.os,y.tape,y.output,y.size,fun k K=>y.ext k (by simp;omega)⟩
end Go.Sy
namespace Go
open Go.Maps (Keyed)
end Go
namespace Go.Sy
variable [bl]
variable {P:Program}{C:Ctx}{x:Sit}{w w':World}{ob:List (Nat × aG)}{tk:List Nat}
open Go.RowKit Go.ChangeShapes Go.WideShapes
open Go.RowKit Go.ChangeShapes Go.WideShapes Go.Shelf Go.Lib Go.Proofs
variable {T:iT}{f:Nat -> Option FnB}
noncomputable def iT.over(T:iT)(f:Nat->Option FnB):iT:=
 ⟨fun k=>match f k with
  |some b=>some b
  |none=>match T.fn k with
   |some _=>some (.prim (call T k))
   |none=>none,T.sg⟩
theorem mf{g:Nat}{b:FnB}(h:f g=some b):(T.over f).fn g=some b:=by show(match f g with|some b=>some b|none=>_)=_;rw[h]
theorem AN{g:Nat}{b:FnB}(h:f g=none)(y:T.fn g=some b):(T.over f).fn g=some (.prim (call T g)):=by show(match f g with|some b=>some b|none=>match T.fn g with|some _=>some (.prim (call T g))|none=>none)=_;rw[h,y]
theorem Sl(I:oS P T)(z:∀k b,f k=some b->match b with
 | .code F=>Ni P k F
 | .prim p=>∀a_ os n q,p a_ os n=some q->gu P k a_ os n (· =q)):oS P (T.over f):=by
 intro g b y;cases hg:f g with
 |some J=>rw[mf hg]at y;cases y;exact z g _ hg
 |none=>
  cases ht:T.fn g with
  |some J=>rw[AN hg ht]at y;cases y;exact fun a_ os n q h=>lh I _ _ _ _ _ h
  |none=>have:(match f g with|some b=>some b|none=>match T.fn g with|some _=>some (FnB.prim (call T g))|none=>none)=some b:=y;rw[hg,ht]at this;cases this
end Go.Sy
