/- An engine that steps through Go code with symbolic values: sound by proof. No condition. -/
import Derived.Test.YtdafipacemgcoaaGreatDoorEdR
import Derived.Below
import Derived.Carry
import Derived.ChangeSlices
import Derived.JoinedCond
import Derived.OpenShut
import Derived.RowKit3
import Derived.SliceStrings
import Derived.Lib.Bytealg
import Derived.Lib.BytesEntry
open Array renaming getD → fK, getElem?_eq_some_iff → bX, getElem?_toList → cJ, length_toList → aO, replicate → dE
open Bool renaming and_eq_true → an, false_eq_true → aD, not_eq_true' → bZ, not_true → lQ, or_eq_true → b9
open List renaming Nodup → pf, Sublist → ka, all_cons → iZ, all_eq_true → aM, any_eq_true → tj, append_nil → bj, cons_append → bG, contains_eq_mem → dn, filter_cons → iq, filter_eq_self → dI, getD_cons_succ → bw, getD_eq_getElem?_getD → aa, getElem?_drop → bx, getElem?_eq_getElem → ab, getElem?_eq_none → ky, getElem?_map → aJ, getElem?_range → cy, getElem?_take → bM, getElem_mem → aT, getElem_of_mem → bV, length → rH, length_append → ah, length_cons → ax, length_drop → aF, length_eq_zero_iff → bJ, length_map → aQ, length_take → ay, map_append → bz, map_congr_left → cY, map_cons → aL, mem_append → aj, mem_cons → ao, mem_cons_of_mem → au, mem_cons_self → aA, mem_iff_getElem → lP, mem_map → aS, mem_map_of_mem → cX, mem_range → dL, mem_singleton → aV, nil_append → bp, nodup_cons → dN, pairwise_append → dY, pairwise_cons → bS, pairwise_iff_getElem → ip, pairwise_map → gE, range → cg, replicate → am
open Nat renaming le_refl → aZ, le_trans → cu, lt_or_ge → bR, mod_eq_of_lt → yB
open Option renaming bind_some → cQ, getD_some → bg, ite_none_right_eq_some → aN, map_eq_some_iff → ai, map_some → bf, some → av
open Prod renaming fst → bv, mk → bh
open Go.Result renaming andThen_ok → al
open Go.Sem renaming run_bind → az, run_pure → aE
open UInt8 renaming ofNat → wM
set_option linter.unusedVariables false
set_option linter.unusedSimpArgs false
set_option linter.unnecessarySimpa false
set_option linter.unusedSectionVars false
namespace Go.Sy
variable [ba]
variable {P : Program} {C : Ctx} {x : Sit} {a : Act} {w : World} {N : Nat} {c c' : CSt} {s : St} {call : cr} {sg : Nat → Sig}
variable {ops : Array Oper} {its σ : List FI} {b : List Nat} {cF : CSt} {listed : Array Bool}
structure QS (P:Program) (N:Nat) (ops:Array Oper) (its:List FI) (b:List Nat):Prop where
 item:∀f∈its,∃o,ops[f.n]? =some o∧fF P ops o=some f.i∧f.n<ops.size
 ex:∀j,j<ops.size→∃f∈its,f.n=j
 inj:∀f∈its,∀g∈its,f.n=g.n→f=g
 back:∀(i:Nat) (o:Oper),ops[i]? =some o→∀e∈o.after,Region.binds .any e=true→e.on<i
 bit:∀(i:Nat) (o:Oper) (k:Nat),ops[i]? =some o→k<ops.size→(b.getD i 0).testBit k=true→∃e∈o.after,Region.binds .any e=true∧(e.on=k∨(b.getD e.on 0).testBit k=true)
 ok:∀f∈its,f.i.ok N=true
 self:∀f∈its,yp f
 rd:∀q∈its,q.q=true→∀p∈its,∀d,q.i.dst=some d→d∈p.i.rds→(b.getD p.n 0).testBit q.n=true
structure UK (its:List FI) (b:List Nat) (σ:List FI):Prop where
 mem:∀f,f∈σ↔f∈its
 nd:(σ.map FI.n).Nodup
 nx:σ.Pairwise Nx
 seg:∀pre f r,σ=pre++f::r→f.q=false→∀g∈r,g.q=true→∃h∈f::r,(b.getD g.n 0).testBit h.n=true
open Classical in
theorem AN (hs:listed.size=ops.size) {it g:FI} (I:QS P N ops its b) (hit:it∈its) (hg:g∈its) (hi:it.n<ops.size):(listed.setIfInBounds it.n true).getD g.n true=if g=it then true else listed.getD g.n true:=by
 rw [fu (by omega)]
 by_cases h:g=it
 ·subst h;simp
 ·rw [if_neg (fun e=>h (I.inj g hg it hit e)),if_neg h]
theorem Da (I:QS P N ops its b) (O:UK its b σ) {pre:List FI} {it:FI} (hit:it∈its) (hpre:∀g∈pre,g∈its) (hprel:∀f∈pre,f.q=false→listed.getD f.n true=true)
 (hdep:∀k,k<ops.size→(b.getD it.n 0).testBit k=true→listed.getD k true=true):∀n∈it.i.rds,n∉(un pre listed).map dOf:=by
 intro n hn hm;obtain⟨g,hg,hgd⟩:=aS.1 hm;obtain⟨hg1,hg2⟩:=cN.1 hg
 have hgq:g.q=true:=by
  cases hq:g.q with
  |true=>rfl
  |false=>rw [hprel g hg1 hq]at hg2;cases hg2
 obtain⟨d,hd,_⟩:=I.self g (hpre g hg1) hgq;have hdn:d=n:=by unfold dOf at hgd;rw [hd]at hgd;exact hgd
 subst hdn;have:=I.rd g (hpre g hg1) hgq it hit d hd hn;obtain⟨_,_,_,hlt⟩:=I.item g (hpre g hg1);rw [hdep g.n hlt this]at hg2;cases hg2
theorem AG (hs:listed.size=ops.size) (I:QS P N ops its b) (O:UK its b σ) (hS:qu call sg N b σ cF listed c) {it:FI} (hit:it∈its) (h1:listed.getD it.n true=false) (hq:it.q=true)
 (hdep:∀k,k<ops.size→(b.getD it.n 0).testBit k=true→listed.getD k true=true):
 ∃v,qv c it.i=some v∧qu call sg N b σ cF (listed.setIfInBounds it.n true) (c.put it.i.dst v):=by
 classical
 obtain⟨_,_,_,hi'⟩:=I.item it hit;have hset:∀g∈its,(listed.setIfInBounds it.n true).getD g.n true=if g=it then true else listed.getD g.n true:=fun g hg=>AN hs I hit hg hi'
 obtain⟨pre,post,p,ps,e,hpost0,hrun,hps,hprel,hpostu,hA,hV⟩:=hS.ex;have hpre_in:∀g∈pre,g∈its:=fun g hg=>(O.mem g).1 (by rw [e];exact aj.2 (.inl hg))
 have hpost_in:∀g∈post,g∈its:=fun g hg=>(O.mem g).1 (by rw [e];exact aj.2 (.inr hg))
 have hrds:=Da (listed:=listed) I O hit hpre_in hprel hdep
 have hin:it∈pre:=by
  have h2:=(O.mem it).2 hit;rw [e]at h2;rcases aj.1 h2 with h3|h3
  ·exact h3
  ·exfalso
   rcases hpost0 with h4|⟨f0,r,h4,hf0⟩
   ·rw [h4]at h3;cases h3
   ·have h5:it∈r:=by
     rw [h4]at h3;rcases ao.1 h3 with h|h
     ·rw [h,hf0]at hq;cases hq
     ·exact h
    obtain⟨g,hg,hgb⟩:=O.seg pre f0 r (by rw [e,h4]) hf0 it h5 hq;have hgi:g∈post:=by rw [h4];exact hg
    obtain⟨_,_,_,hlt⟩:=I.item g (hpost_in g hgi);have:=hdep g.n hlt hgb;rw [hpostu g hgi]at this;cases this
 have hiu:it∈un pre listed:=cN.2 ⟨hin,h1⟩;have hv:=hV it hiu;rw [←hA.qv hrds]at hv;obtain⟨d,hd,hdr⟩:=I.self it hit hq;have hdo:dOf it=d:=by unfold dOf;rw [hd];rfl
 refine⟨_,hv,⟨pre,post,p,ps,e,hpost0,hrun,hps, ?_, ?_, ?_, ?_⟩⟩
 ·intro f hf hfq
  rw [hset f (hpre_in f hf)];split
  ·rfl
  ·exact hprel f hf hfq
 ·intro f hf
  rw [hset f (hpost_in f hf),if_neg]
  ·exact hpostu f hf
  ·intro e2
   subst e2;have h5:=O.nx;rw [e]at h5;have h6:=(dY.1 h5).2.2 f hin f hf hq d hd;exact h6.2 hd
 ·refine⟨fun n hn=> ?_, ?_, ?_,hA.dom⟩
  ·rw [hd,gQ]
   split
   ·rename_i e2;rw [e2,hdo]
   ·rename_i hnd
    refine hA.get n fun hm=>hn ?_
    obtain⟨g,hg,hgd⟩:=aS.1 hm;obtain⟨hg1,hg2⟩:=cN.1 hg;refine aS.2 ⟨g,cN.2 ⟨hg1, ?_⟩,hgd⟩;rw [hset g (hpre_in g hg1),if_neg]
    ·exact hg2
    ·intro e2;subst e2;rw [hdo]at hgd;exact hnd hgd.symm
  ·cases it.i.dst<;>exact hA.ob
  ·cases it.i.dst<;>exact hA.tk
 ·intro f hf
  obtain⟨hf1,hf2⟩:=cN.1 hf;refine hV f (cN.2 ⟨hf1, ?_⟩);rw [hset f (hpre_in f hf1)]at hf2;split at hf2
  ·cases hf2
  ·exact hf2
theorem GY (l r:List FI):fB (l++r)=fB l++fB r:=List.filterMap_append
theorem EN {l:List FI} (h:∀f∈l,f.q=true):fB l=[]:=by unfold fB;rw [List.filterMap_eq_nil_iff];intro f hf;rw [h f hf];rfl
theorem qK {l:List FI} {k:Nat}:k∈fB l↔∃f∈l,f.q=false∧f.n=k:=by
 unfold fB;rw [List.mem_filterMap];constructor
 ·rintro⟨f,hf,h⟩
  cases hq:f.q with
  |true=>rw [hq]at h;cases h
  |false=>rw [hq]at h;exact⟨f,hf,hq,by simpa using h⟩
 ·rintro⟨f,hf,hq,rfl⟩;exact⟨f,hf,by rw [hq];rfl⟩
theorem ku (k:Nat):∀l:List FI,fB (l.filter fun q=> !decide (q.n=k))=(fB l).filter fun x=> !decide (x=k)
 |[]=>rfl
 |f::r=>by
  have ih:=ku k r;rw [iq]
  by_cases h:f.n=k
  ·cases hq:f.q with
   |true=>simp only [h,decide_true,lQ,aD,if_false,ih];simp [fB,hq]
   |false=>simp only [h,decide_true,lQ,aD,if_false,ih];simp [fB,hq,h]
  ·cases hq:f.q with
   |true=>simp only [h,decide_false,Bool.not_false,if_true];simp only [fB,List.filterMap_cons,hq,if_true]at ih ⊢;exact ih
   |false=>simp only [h,decide_false,Bool.not_false,if_true];simp only [fB,List.filterMap_cons,hq,aD,if_false,iq,h,decide_false,Bool.not_false,if_true]at ih ⊢;rw [ih]
theorem yE (hs:listed.size=ops.size) {k:Nat} (hk:k<ops.size) (σ:List FI):un σ (listed.setIfInBounds k true)=(un σ listed).filter fun q=> !decide (q.n=k):=by
 simp only [un,List.filter_filter];apply List.filter_congr;intro q hq;rw [fu (by omega)]
 by_cases h:q.n=k<;>simp [h]
theorem AH (hs:listed.size=ops.size) (I:QS P N ops its b) (O:UK its b σ) (hS:qu call sg N b σ cF listed c) {it:FI} (hit:it∈its) (h1:listed.getD it.n true=false) (hq:it.q=false)
 (hdep:∀k,k<ops.size→(b.getD it.n 0).testBit k=true→listed.getD k true=true) (hh:(fB (un σ listed)).head? =some it.n):
 ∃c1,dS call sg c it.i=some c1∧qu call sg N b σ cF (listed.setIfInBounds it.n true) c1:=by
 classical
 obtain⟨_,_,_,hi'⟩:=I.item it hit;have hset:∀g∈its,(listed.setIfInBounds it.n true).getD g.n true=if g=it then true else listed.getD g.n true:=fun g hg=>AN hs I hit hg hi'
 obtain⟨pre,post,p,ps,e,hpost0,hrun,hps,hprel,hpostu,hA,hV⟩:=hS.ex;have hpre_in:∀g∈pre,g∈its:=fun g hg=>(O.mem g).1 (by rw [e];exact aj.2 (.inl hg))
 have hpost_in:∀g∈post,g∈its:=fun g hg=>(O.mem g).1 (by rw [e];exact aj.2 (.inr hg))
 have hrds:=Da (listed:=listed) I O hit hpre_in hprel hdep
 have hsub:∀g∈un pre listed,g.q=true:=by
  intro g hg;obtain⟨hg1,hg2⟩:=cN.1 hg;cases hq:g.q with
  |true=>rfl
  |false=>rw [hprel g hg1 hq]at hg2;cases hg2
 have hup:un post listed=post:=dI.2 fun f hf=>by rw [hpostu f hf];rfl
 have hu:fB (un σ listed)=fB post:=by
  have:un σ listed=un pre listed++un post listed:=by rw [e];exact List.filter_append ..
  rw [this,GY,EN hsub,hup];rfl
 rw [hu]at hh
 obtain⟨f0,r,hpe,hf0⟩:∃f r,post=f::r∧f.q=false:=by
  rcases hpost0 with h|h
  ·rw [h]at hh;cases hh
  ·exact h
 have hit0:it=f0:=by
  rw [hpe]at hh;have h2:fB (f0::r)=f0.n::fB r:=by simp [fB,hf0]
  rw [h2]at hh;simp only [List.head?_cons,av.injEq]at hh;exact I.inj it hit f0 (hpost_in f0 (by rw [hpe];exact aA ..)) hh.symm
 subst hit0;subst hpe
 have hnd:(pre++it::r).Pairwise fun f g=>f.n≠g.n:=by have:=O.nd;rw [e,pf,gE]at this;exact this
 obtain⟨n,q,i⟩:=it;simp only at hf0;subst hf0;simp only [fe]at hrun;cases hs1:dS call sg p i with
 |none=>rw [hs1]at hrun;simp [rx]at hrun
 |some p1=>
  rw [hs1]at hrun;simp only [rx]at hrun;cases hg:gdP (tU (b.getD n 0) p1 ps) p1 with
  |none=>rw [hg]at hrun;simp [ry]at hrun
  |some p1'=>
   rw [hg]at hrun;simp only [ry]at hrun;obtain⟨hchk,rfl⟩:=qS hg;obtain⟨c1,hc1,hA1⟩:=hA.step (I.ok _ hit) hrds hs1;refine⟨c1,hc1, ?_⟩;have hnx':=O.nx;rw [e]at hnx';have hpa:=dY.1 hnx'
   obtain⟨seg,post',p2,ps2,k1,k2,k3,k4,k5,k6,k7⟩:=ny (V:=un pre listed) hrun hA1 (fun f hf=>I.ok f (hpost_in f (au _ hf))) (fun f hf=>I.self f (hpost_in f (au _ hf)))
    (bS.1 hpa.2.1).2 (fun g hg f hf=>hpa.2.2 g (cN.1 hg).1 f (au _ hf))
    (fun g hg=>by obtain⟨d,hd,_⟩:=I.self g (hpre_in g (cN.1 hg).1) (hsub g hg);exact⟨d,hd⟩)
    (fun g hg=>by
     obtain⟨hg1,hg2⟩:=cN.1 hg;rcases qW hchk (hps g hg1 (hsub g hg))with h|h
     ·obtain⟨_,_,_,hlt⟩:=I.item g (hpre_in g hg1)
      rw [hdep g.n hlt h]at hg2;cases hg2
     ·exact h)
   have hnp:∀g∈pre,g≠⟨n,false,i⟩:=fun g hg e2=>by have:=(dY.1 hnd).2.2 g hg _ (aA ..);rw [e2]at this;exact this rfl
   have hnr:∀g∈r,g≠⟨n,false,i⟩:=fun g hg e2=>by have:=(bS.1 (dY.1 hnd).2.1).1 g hg;rw [e2]at this;exact this rfl
   have hun:un (pre++⟨n,false,i⟩::seg) (listed.setIfInBounds n true)=un pre listed++seg:=by
    unfold un;rw [List.filter_append,iq];have e1:(listed.setIfInBounds n true).getD n true=true:=by rw [fu (by rw [hs];exact hi')];simp
    simp only [e1,lQ,aD,if_false]
    congr 1
    ·apply List.filter_congr
     intro g hg;have:=hset g (hpre_in g hg);simp only at this;rw [this,if_neg (hnp g hg)]
    ·apply dI.2
     intro g hg;have hgr:g∈r:=by rw [k1];exact aj.2 (.inl hg)
     have hgi:g∈⟨n,false,i⟩::r:=au _ hgr;have:=hset g (hpost_in g hgi);simp only at this;rw [this,if_neg (hnr g hgr),hpostu g hgi];rfl
   refine⟨pre++⟨n,false,i⟩::seg,post',p2,ps2,by rw [e,k1];simp,k3,k4, ?_, ?_, ?_, ?_, ?_⟩
   ·intro f hf hfq
    rcases aj.1 hf with h|h
    ·exact k5 f (.inl (hps f h hfq))
    ·rcases ao.1 h with rfl|h
     ·cases hfq
     ·exact k5 f (.inr h)
   ·intro f hf hfq
    rcases aj.1 hf with h|h
    ·rw [hset f (hpre_in f h)]
     split
     ·rfl
     ·exact hprel f h hfq
    ·rcases ao.1 h with rfl|h
     ·rw [hset _ hit,if_pos rfl]
     ·rw [k2 f h]at hfq;cases hfq
   ·intro f hf
    have hfr:f∈r:=by rw [k1];exact aj.2 (.inr hf)
    have hfi:f∈⟨n,false,i⟩::r:=au _ hfr;rw [hset f (hpost_in f hfi),if_neg (hnr f hfr)];exact hpostu f hfi
   ·rw [hun,bz]
    refine⟨fun m hm=>k6.get m (fun h=>hm ?_),k6.ob,k6.tk,k6.dom⟩;rw [aj]at h ⊢;exact h.symm
   ·rw [hun]
    intro f hf;exact k7 f (aj.1 hf)
theorem GV {k:Nat} {g:Nat} {A:List (List Nat)} (h:lg b k A=true) (hg:∀l,A.head? =some l→g∈l) (hr:∀l,A.head? =some l→∀x∈l,x≠g→(b.getD g 0).testBit x=false):
 ∃k',lg b k' (A.filterMap fun p=>match p with|x::r=>if x=g then some r else none|[]=>none)=true:=by
 cases A with
 |nil=>cases k<;>simp [lg]at h
 |cons l A=>
  cases l with
  |nil=>have:=hg [] rfl;cases this
  |cons y t=>
   cases k with
   |zero=>simp [lg]at h
   |succ k=>
    simp only [lg,aM]at h;have h1:=h g (hg _ rfl);rw [b9]at h1;rcases h1 with h1|h1
    ·exfalso
     rw [tj]at h1;obtain⟨x,hx,h2⟩:=h1;rw [an]at h2;have h3:=of_decide_eq_true h2.1;have:=hr _ rfl x hx h3;unfold oA at h2;rw [h2.2]at this;cases this
    ·exact⟨k,h1⟩
theorem sT {R R':List FI→List Nat} {g:Nat}:∀ {A:List (List FI)},(∀σ∈A,∀r,R σ=g::r→R' σ=r)→
 (A.filter fun σ=>decide ((R σ).head? =some g)).map R'=(A.map R).filterMap fun p=>match p with|x::r=>if x=g then some r else none|[]=>none
 |[],_=>rfl
 |σ::A,h=>by
  have ih:=sT (R:=R) (R':=R') (g:=g) (A:=A) fun τ hτ=>h τ (au _ hτ)
  have h0:=h σ (aA ..);rw [iq,aL,List.filterMap_cons];cases hR:R σ with
  |nil=>simp only [List.head?_nil,reduceCtorEq,decide_false,aD,if_false];exact ih
  |cons y t=>
   by_cases hy:y=g
   ·subst hy
    simp only [List.head?_cons,decide_true,if_true,aL,h0 t hR];rw [ih]
   ·have:¬(some y=some g):=fun e=>hy (by injection e)
    simp only [List.head?_cons,this,decide_false,aD,if_false,hy];exact ih
theorem Hd (
 hcal:fN P call) (I:QS P N ops its b) {ords:List (List FI)} (hO:∀σ∈ords,UK its b σ) {Q:Exit→Act→World→Prop} (hQ:∀a w,M C N cF a w→Q .normal a w):
 ∀(fuel:Nat) (listed:Array Bool) (c:CSt) (a:Act) (w:World) (A:List (List FI)) (k:Nat),(un its listed).length≤fuel→listed.size=ops.size→
  (∀(i:Nat) (o:Oper) (k:Nat),ops[i]? =some o→listed.getD i true=true→k<ops.size→(b.getD i 0).testBit k=true→listed.getD k true=true)→
  (∀σ∈A,σ∈ords∧qu call sg N b σ cF listed c)→lg b k (A.map fun σ=>fB (un σ listed))=true→M C N c a w→wpAny P .any ops Q fuel listed a w:=by
 classical
 have hd2:∀(listed:Array Bool),listed.size=ops.size→∀k,k<ops.size→listed.getD k false=listed.getD k true:=by intro listed hs k hk;simp [fK,hs,hk]
 have done:∀(listed:Array Bool) (c:CSt) (a:Act) (w:World) (A:List (List FI)) (k:Nat),un its listed=[]→(∀σ∈A,σ∈ords∧qu call sg N b σ cF listed c)→lg b k (A.map fun σ=>fB (un σ listed))=true→M C N c a w→Region.ready .any ops listed=[]∧Q .normal a w:=by
  intro listed c a w A k h0 hA' hcov hM;constructor
  ·rw [List.eq_nil_iff_forall_not_mem]
   intro j hj;obtain⟨h1,o,h2,h3⟩:=mem_ready.1 hj;have hj':j<ops.size:=(bX.1 h2).1;obtain⟨it,hit,rfl⟩:=I.ex j hj';have:it∈un its listed:=cN.2 ⟨hit,h1⟩;rw [h0]at this;cases this
  ·cases A with
   |nil=>cases k<;>simp [lg]at hcov
   |cons σ A=>
    obtain⟨hσ,hS⟩:=hA' σ (aA ..)
    have h0':un σ listed=[]:=by rw [List.eq_nil_iff_forall_not_mem];intro f hf;obtain⟨h1,h2⟩:=cN.1 hf;have:f∈un its listed:=cN.2 ⟨((hO σ hσ).mem f).1 h1,h2⟩;rw [h0]at this;cases this
    obtain⟨pre,post,p,ps,e,hp,hrun,_,_,hpost,hA,_⟩:=hS.ex
    have hp0:post=[]:=by
     cases post with
     |nil=>rfl
     |cons f r=>have:f∈un σ listed:=cN.2 ⟨by rw [e];simp,hpost f (aA ..)⟩;rw [h0']at this;cases this
    subst hp0;simp only [fe,av.injEq]at hrun;subst hrun;have hD:un pre listed=[]:=by rw [←h0',e,bj]
    rw [hD]at hA;refine hQ a w ?_;obtain⟨x,s,hMo,hSi⟩:=hM;refine M.slots (c:=c) ⟨x,s,hMo,hSi⟩ ⟨hA.dom,by rw [←hA.ob];exact hSi.inv.so,by rw [←hA.ob];exact hSi.inv.wf⟩ hA.ob.symm hA.tk.symm (fun i=> .inl (hA.get i (by simp)).symm)
 intro fuel;induction fuel with
 |zero=>intro listed c a w A k hf hs hcl hS hcov hM;exact done listed c a w A k (bJ.1 (by omega)) hS hcov hM
 |succ fuel ih=>
  intro listed c a w A k hf hs hcl hS hcov hM;constructor
  ·intro hnil
   by_cases h0:un its listed=[]
   ·exact(done listed c a w A k h0 hS hcov hM).2
   ·exfalso
    have hp:∃n,∃f∈un its listed,f.n=n:=by
     cases hc:un its listed with
     |nil=>exact absurd hc h0
     |cons f r=>exact⟨_,f,aA ..,rfl⟩
    obtain⟨n,⟨f,hfu,hfn⟩,hmin⟩:=xeC _ hp;obtain⟨h1,h2⟩:=cN.1 hfu;obtain⟨o,h3,_,h4⟩:=I.item f h1
    have:f.n∈Region.ready .any ops listed:=by refine mem_ready.2 ⟨h2,o,h3,fun e he hb=> ?_⟩;have hlt:=I.back f.n o h3 e he hb;rw [hd2 listed hs _ (by omega),←Bool.not_eq_false];intro hfl;obtain⟨g,hg,hgn⟩:=I.ex e.on (by omega);have:=hmin e.on ⟨g,cN.2 ⟨hg,by rw [hgn];exact hfl⟩,hgn⟩;omega
    rw [hnil]at this;cases this
  ·intro i hir
   obtain⟨h1,o,h2,h3⟩:=mem_ready.1 hir;have hi':i<ops.size:=(bX.1 h2).1;obtain⟨it,hit,rfl⟩:=I.ex i hi';obtain⟨o',ho',hres,_⟩:=I.item it hit;rw [h2]at ho';cases ho'
   have hdep:∀k,k<ops.size→(b.getD it.n 0).testBit k=true→listed.getD k true=true:=by
    intro k hk hb;obtain⟨e,he,hbd,hor⟩:=I.bit it.n o k h2 hk hb;have hon:=h3 e he hbd;have honlt:=I.back it.n o h2 e he hbd;rw [hd2 listed hs _ (by omega)]at hon;rcases hor with h|h
    ·rw [←h];exact hon
    ·exact hcl e.on (ops[e.on]'(by omega)) k (by simp) hon hk h
   have hlen:(un its (listed.setIfInBounds it.n true)).length<(un its listed).length:=by rw [yE hs hi'];refine List.length_filter_lt_length_iff_exists.2 ⟨it,cN.2 ⟨hit,h1⟩,by simp⟩
   have hcl':∀(i:Nat) (o:Oper) (k:Nat),ops[i]? =some o→(listed.setIfInBounds it.n true).getD i true=true→k<ops.size→(b.getD i 0).testBit k=true→(listed.setIfInBounds it.n true).getD k true=true:=by
    intro i2 o2 k2' ho2 hl2 hk2 hb2;rw [fu (by omega)]at hl2 ⊢;split
    ·rfl
    ·split at hl2
     ·rename_i e1
      subst e1;exact hdep k2' hk2 hb2
     ·exact hcl i2 o2 k2' ho2 hl2 hk2 hb2
   have hsz:(listed.setIfInBounds it.n true).size=ops.size:=by simpa using hs
   obtain⟨σ0,A0,hA0⟩:∃σ A',A=σ::A':=by
    cases A with
    |nil=>cases k<;>simp [lg]at hcov
    |cons σ A'=>exact⟨σ,A',rfl⟩
   cases hq:it.q with
   |true=>
    obtain⟨hσ0,hS0⟩:=hS σ0 (by rw [hA0];exact aA ..);obtain⟨v,hv,_⟩:=AG hs I (hO σ0 hσ0) hS0 hit h1 hq hdep;refine eQ hcal hM (I.ok it hit) h2 hres (pq (call:=call) (sg:=sg) hv) fun a' w' hM'=> ?_
    refine ih _ _ a' w' A k (by omega) hsz hcl' (fun σ hσ=>⟨(hS σ hσ).1, ?_⟩) ?_ hM'
    ·obtain⟨v',hv',hS'⟩:=AG hs I (hO σ (hS σ hσ).1) (hS σ hσ).2 hit h1 hq hdep
     rw [hv]at hv';injection hv' with e;subst e
     exact hS'
    ·have:(A.map fun σ=>fB (un σ (listed.setIfInBounds it.n true)))=A.map fun σ=>fB (un σ listed):=by
      apply cY;intro σ hσ;rw [yE hs hi',ku,dI];intro x hx;obtain⟨f,hf,hfq,rfl⟩:=qK.1 hx;have hfi:=((hO σ (hS σ hσ).1).mem f).1 (cN.1 hf).1;have:¬f.n=it.n:=fun e=>by rw [I.inj f hfi it hit e,hq]at hfq;cases hfq
      simp [this]
     rw [this];exact hcov
   |false=>
    have hmemR:∀σ∈A,it.n∈fB (un σ listed):=fun σ hσ=>qK.2 ⟨it,cN.2 ⟨((hO σ (hS σ hσ).1).mem it).2 hit,h1⟩,hq,rfl⟩
    obtain⟨k',hk'⟩:=GV (g:=it.n) hcov (fun l hl=>by
     rw [hA0]at hl;simp only [aL,List.head?_cons,av.injEq]at hl;rw [←hl];exact hmemR σ0 (by rw [hA0];exact aA ..)) (fun l hl y hy hne=>by
     rw [hA0]at hl;simp only [aL,List.head?_cons,av.injEq]at hl;rw [←hl]at hy;obtain⟨f,hf,hfq,rfl⟩:=qK.1 hy;obtain⟨hf1,hf2⟩:=cN.1 hf;have hfi:=((hO σ0 (hS σ0 (by rw [hA0];exact aA ..)).1).mem f).1 hf1;obtain⟨_,_,_,hlt⟩:=I.item f hfi;rw [←Bool.not_eq_true];intro hb;rw [hdep f.n hlt hb]at hf2;cases hf2)
    rw [←sT (R:=fun σ=>fB (un σ listed)) (R':=fun σ=>fB (un σ (listed.setIfInBounds it.n true))) (fun σ hσ r hR=>by
     show fB (un σ (listed.setIfInBounds it.n true))=r;rw [yE hs hi',ku];have hR':fB (un σ listed)=it.n::r:=hR;rw [hR',iq];simp only [decide_true,lQ,aD,if_false];rw [dI];intro y hy
     have hnd:(fB (un σ listed)).Nodup:=by
      have h5:=(hO σ (hS σ hσ).1).nd
      have h6:(fB (un σ listed)).Sublist (σ.map FI.n):=by
       have h7:(fB (un σ listed)).Sublist ((un σ listed).map FI.n):=by
        unfold fB;rw [show(fun f:FI=>if f.q=true then none else some f.n)=fun f:FI=>if f.q=true then none else some (FI.n f)from rfl];generalize un σ listed=l;induction l with
        |nil=>exact ka.slnil
        |cons f r ih=>
         rw [List.filterMap_cons,aL];cases hq:f.q with
         |true=>exact ka.cons _ ih
         |false=>exact ka.cons_cons _ ih
       exact h7.trans (ka.map _ List.filter_sublist)
      exact h5.sublist h6
     rw [hR']at hnd;have:y≠it.n:=fun e=>by rw [e]at hy;exact(dN.1 hnd).1 hy
     simp [this])]at hk'
    obtain⟨σ1,hσ1⟩:∃σ,σ∈A.filter fun σ=>decide ((fB (un σ listed)).head? =some it.n):=by
     cases hX:A.filter fun σ=>decide ((fB (un σ listed)).head? =some it.n)with
     |nil=>rw [hX]at hk';cases k'<;>simp [lg]at hk'
     |cons σ _=>exact⟨σ,aA ..⟩
    obtain⟨h4,h5⟩:=List.mem_filter.1 hσ1;obtain⟨c1,hc1,_⟩:=AH hs I (hO σ1 (hS σ1 h4).1) (hS σ1 h4).2 hit h1 hq hdep (of_decide_eq_true h5);refine eQ hcal hM (I.ok it hit) h2 hres hc1 fun a' w' hM'=> ?_
    refine ih _ _ a' w' _ k' (by omega) hsz hcl' (fun σ hσ=> ?_) hk' hM';obtain⟨h6,h7⟩:=List.mem_filter.1 hσ;obtain⟨c2,hc2,hS2⟩:=AH hs I (hO σ (hS σ h6).1) (hS σ h6).2 hit h1 hq hdep (of_decide_eq_true h7);rw [hc1]at hc2;injection hc2 with e;subst e
    exact⟨(hS σ h6).1,hS2⟩
theorem Tv (hl:i5 (fF P ops) ops.toList=some (unF its)) (hd:drawn ops (unF its)=true) (hok:∀f∈its,f.i.ok N=true) (hfq:TI (Region.before ops).toList its=true)
 (hnd:(its.map FI.n).Nodup) (hlt:∀f∈its,f.n<its.length) (hcov:∀j∈cg its.length,(its.map FI.n).contains j=true):
 QS P N ops its (Region.before ops).toList∧(∀f∈its,∀g∈its,f.n≠g.n→∀d,f.i.dst=some d→g.i.dst≠some d)∧its.length=ops.size:=by
 simp only [TI,aM,b9,bZ]at hfq;obtain⟨hlen,hget⟩:=ej hl;have hul:(unF its).length=its.length:=by simp [unF]
 have hsz:its.length=ops.size:=by rw [←hul,hlen,aO]
 have hun:∀f∈its,(unF its).getD f.n ⟨none,none,.lenC 0⟩=f.i:=by intro f hf;have:=hlt f hf;rw [aa];simp only [unF,aJ,cy this,bf,bg];exact sE _ hnd hf
 simp only [drawn,an,decide_eq_true_eq]at hd;obtain⟨⟨hc,ht⟩,hdst⟩:=hd
 have hitem:∀f∈its,∃o,ops[f.n]? =some o∧fF P ops o=some f.i∧f.n<ops.size:=by
  intro f hf;have hfl:=hlt f hf;have hj2:f.n<ops.toList.length:=by rw [aO];omega
  refine⟨ops.toList[f.n],by rw [←cJ,ab hj2], ?_,by omega⟩;have h1:=hget f.n hj2 (by omega);rw [h1]
  congr 1
  have h2:=hun f hf;rwa [aa,ab (by omega),bg]at h2
 have hinj:∀f∈its,∀g∈its,f.n=g.n→f=g:=by
  intro f hf g hg e;have:its.Pairwise fun f g=>f.n≠g.n:=by rw [pf,gE]at hnd;exact hnd
  rw [ip]at this;obtain⟨i,hi,rfl⟩:=lP.1 hf;obtain⟨j,hj,rfl⟩:=lP.1 hg;rcases Nat.lt_trichotomy i j with h|h|h
  ·exact absurd e (this i j hi hj h)
  ·subst h;rfl
  ·exact absurd e.symm (this j i hj hi h)
 have hdd:∀f∈its,∀g∈its,f.n≠g.n→∀d,f.i.dst=some d→g.i.dst≠some d:=by
  have main:∀f∈its,∀g∈its,f.n<g.n→∀d,f.i.dst=some d→g.i.dst≠some d:=by
   intro f hf g hg hlt' d h1 h2
   have hpl:(unF its).Pairwise fun u v=>∀d,u.dst=some d→v.dst≠some d:=by rw [pf,List.pairwise_filterMap]at hdst;refine hdst.imp ?_;intro u v huv d hu hv;exact huv d hu d hv rfl
   rw [ip]at hpl;have hf':=hlt f hf;have hg':=hlt g hg
   have g1:(unF its)[f.n]'(by omega)=f.i:=by have:=hun f hf;rwa [aa,ab (by omega),bg]at this
   have g2:(unF its)[g.n]'(by omega)=g.i:=by have:=hun g hg;rwa [aa,ab (by omega),bg]at this
   exact hpl f.n g.n (by omega) (by omega) hlt' d (by rw [g1];exact h1) (by rw [g2];exact h2)
  intro f hf g hg hne d h1 h2;rcases bR f.n g.n with h|h
  ·exact main f hf g hg h d h1 h2
  ·exact main g hg f hf (by omega) d h2 h1
 have hclosed:∀(i:Nat) (o:Oper),ops[i]? =some o→(∀e∈o.after,Region.binds .any e=true→e.on<i)∧
  ∀k,k<ops.size→((Region.before ops).toList.getD i 0).testBit k=true→∃e∈o.after,Region.binds .any e=true∧(e.on=k∨((Region.before ops).toList.getD e.on 0).testBit k=true):=by
  intro i o ho;unfold mY at hc;rw [aM]at hc;have hi:i<ops.size:=(bX.1 ho).1
  have h1:=hc (o,i) (by rw [List.mem_zipIdx_iff_getElem?];simpa using ho)
  simp only [an,Array.all_eq_true_iff_forall_mem,aM,b9,bZ,decide_eq_true_eq]at h1;refine⟨fun e he hb=>(h1.1 e he).resolve_left (by simp [hb]),fun k hk hb=> ?_⟩;have h2:=(h1.2 k (dL.2 hk)).resolve_left (by simp only [hb];simp);obtain⟨_,h3⟩:=h2;rw [←Array.any_toList,tj]at h3;obtain⟨e,he,h4⟩:=h3;rw [Array.mem_toList_iff]at he;simp only [an,b9,beq_iff_eq]at h4;exact⟨e,he,h4.1,h4.2⟩
 have hq:∀q∈its,q.q=true→∃d,q.i.dst=some d∧∀p∈its,d∈p.i.rds→((Region.before ops).toList.getD p.n 0).testBit q.n=true∧p.n≠q.n:=by
  intro q hq hqq;have h1:=(hfq q hq).resolve_left (by rw [hqq];simp);cases hd:q.i.dst with
  |none=>rw [hd]at h1;cases h1
  |some d=>
   rw [hd]at h1;simp only [aM,b9,bZ,an,decide_eq_true_eq,oA]at h1;refine⟨d,rfl,fun p hp hr=> ?_⟩;rcases h1 p hp with h2|h2
   ·rw [dn]at h2;simp only [decide_eq_false_iff_not]at h2;exact absurd hr h2
   ·exact h2
 have hself:∀f∈its,yp f:=by intro f hf hfq;obtain⟨d,hd,h1⟩:=hq f hf hfq;exact⟨d,hd,fun h=>(h1 f hf h).2 rfl⟩
 have hrd:∀q∈its,q.q=true→∀p∈its,∀d,q.i.dst=some d→d∈p.i.rds→((Region.before ops).toList.getD p.n 0).testBit q.n=true:=by intro q hq' hqq p hp d hd hr;obtain⟨d',hd',h1⟩:=hq q hq' hqq;rw [hd']at hd;cases hd;exact(h1 p hp hr).1
 refine⟨⟨hitem,fun j hj=> ?_,hinj,fun i o ho=>(hclosed i o ho).1,fun i o k ho hk hb=>(hclosed i o ho).2 k hk hb,hok,hself,hrd⟩,hdd,hsz⟩;have:=hcov j (dL.2 (by omega));rw [dn]at this;simp only [decide_eq_true_eq]at this;obtain⟨f,hf,e⟩:=aS.1 this;exact⟨f,hf,e⟩
theorem nH {l:List FI} (h:(l.map FI.n).Nodup) {f:FI} (hf:f∈l):uL l f.n=f:=by
 induction l with
 |nil=>cases hf
 |cons g r ih=>
  simp only [aL,dN]at h;simp only [uL];rcases ao.1 hf with rfl|hf
  ·rw [if_pos rfl]
  ·rw [if_neg,ih h.2 hf]
   intro e;apply h.1;rw [e];exact cX hf
theorem vT {l:List FI} {f:FI}:∀ {p:List Nat},f∈iV l p↔∃k∈p,uL l k=f
 |[]=>by simp [iV]
 |k::r=>by
  simp only [iV,ao,vT (p:=r)];constructor
  ·rintro(h|⟨j,hj,h⟩)
   ·exact⟨k,.inl rfl,h.symm⟩
   ·exact⟨j,.inr hj,h⟩
  ·rintro⟨j,rfl|hj,h⟩
   ·exact .inl h.symm
   ·exact .inr ⟨j,hj,h⟩
theorem vU {l:List FI} (h:(l.map FI.n).Nodup):∀ {p:List Nat},(∀k∈p,k∈l.map FI.n)→(iV l p).map FI.n=p
 |[],_=>rfl
 |k::r,hp=>by simp only [iV,aL];rw [vU h (p:=r) fun j hj=>hp j (au _ hj)];obtain⟨f,hf,e⟩:=aS.1 (hp k (aA ..));rw [←e,nH h hf]
theorem D1 {s:Nat} (l:List FI):xq b (some s) l=true→∀g∈l,g.q=true→(b.getD g.n 0).testBit s=true∨∃h∈l,(b.getD g.n 0).testBit h.n=true:=by
 induction l generalizing s with
 |nil=>intro _ g hg;cases hg
 |cons f r ih=>
  intro h g hg hq;simp only [xq]at h;split at h
  ·simp only [an,oA]at h
   rcases ao.1 hg with rfl|hg
   ·exact .inl h.1
   ·rcases ih h.2 g hg hq with h1|⟨k,hk,h1⟩
    ·exact .inl h1
    ·exact .inr ⟨k,au _ hk,h1⟩
  ·rename_i hf
   rcases ao.1 hg with rfl|hg
   ·exact absurd hq hf
   ·rcases ih h g hg hq with h1|⟨k,hk,h1⟩
    ·exact .inr ⟨f,aA ..,h1⟩
    ·exact .inr ⟨k,au _ hk,h1⟩
theorem tu:∀ {pre:List FI} {s:Option Nat} {f:FI} {r:List FI},xq b s (pre++f::r)=true→f.q=false→xq b (some f.n) r=true
 |[],s,f,r,h,hf=>by simp only [bp,xq,hf,aD,if_false]at h;exact h
 |g::pre,s,f,r,h,hf=>by
  simp only [bG,xq]at h;split at h
  ·rw [an]at h;exact tu h.2 hf
  ·exact tu h hf
theorem ou:∀ {l:List FI},uM b l=true→l.Pairwise fun p q=>(b.getD p.n 0).testBit q.n=false
 |[],_=>List.Pairwise.nil
 |p::r,h=>by simp only [uM,an,aM]at h;refine bS.2 ⟨fun q hq=> ?_,ou h.2⟩;have:=h.1 q hq;simpa only [bZ,oA]using this
theorem wJ {l:List FI}:∀ {ps:List (List Nat)},jg call sg b l ps c=some cF→∀p∈ps,fe call sg b (iV l p) [] c=some cF
 |[],h,p,hp=>by cases hp
 |[q],h,p,hp=>by rw [aV.1 hp];exact h
 |q::q'::r,h,p,hp=>by
  simp only [jg]at h;cases h1:fe call sg b (iV l q) [] c with
  |none=>rw [h1]at h;simp [oV]at h
  |some y=>
   cases h2:jg call sg b l (q'::r) c with
   |none=>rw [h1,h2]at h;simp [oV]at h
   |some z=>
    rw [h1,h2]at h;obtain⟨e1,e2⟩:=qS h;rcases ao.1 hp with rfl|hp
    ·rw [h1,e2]
    ·exact wJ (h2.trans (by rw [←e1,e2])) p hp
theorem EB (hcal:fN P call) {id:Nat} (hl:i5 (fF P ops) ops.toList=some (unF its)) (hd:drawn ops (unF its)=true) (hm:P.follows .mixedOrders=true)
 (hok:its.all (fun f=>f.i.ok N)=true) {ps:List (List Nat)} (halt:RN (Region.before ops).toList its ps=true) {Q:Exit→Act→World→Prop} (hQ:∀a w,M C N cF a w→Q .normal a w) (hM:M C N c a w)
 (h:jg call sg (Region.before ops).toList its ps c=some cF):(Code.region id ops true).wp P Q a w:=by
 simp only [RN,an,decide_eq_true_eq]at halt;obtain⟨⟨⟨⟨⟨hfq,hnd⟩,hlt⟩,hcov⟩,hps⟩,hc⟩:=halt;rw [aM]at hok hlt hcov hps;obtain⟨I,hdd,hsz⟩:=Tv hl hd hok hfq hnd (fun f hf=>of_decide_eq_true (hlt f hf)) hcov
 have hO:∀σ∈ps.map (iV its),UK its (Region.before ops).toList σ:=by
  intro σ hσ;obtain⟨p,hp,rfl⟩:=aS.1 hσ;have h1:=hps p hp;simp only [an,decide_eq_true_eq,aM,dn]at h1;obtain⟨⟨⟨⟨hpn,hpi⟩,hip⟩,hseg⟩,hpairs⟩:=h1;have hmap:=vU hnd hpi
  have hmem:∀f,f∈iV its p↔f∈its:=by
   intro f;rw [vT];constructor
   ·rintro⟨k,hk,rfl⟩
    obtain⟨g,hg,rfl⟩:=aS.1 (hpi k hk);rw [nH hnd hg];exact hg
   ·intro hf
    exact⟨f.n,hip f.n (cX hf),nH hnd hf⟩
  have hnd':((iV its p).map FI.n).Nodup:=by rw [hmap];exact hpn
  refine⟨hmem,hnd', ?_,fun pre f r e hf g hg hq=> ?_⟩
  ·have h1:(iV its p).Pairwise fun f g=>f.n≠g.n:=by rw [pf,gE]at hnd';exact hnd'
   refine((ou hpairs).and h1).imp_of_mem ?_;rintro u v hu hv ⟨h2,h3⟩ hqq d hd';have hu':=(hmem u).1 hu;have hv':=(hmem v).1 hv;refine⟨fun hr=> ?_,fun e=>hdd u hu' v hv' h3 d e hd'⟩;rw [I.rd v hv' hqq u hu' d hd' hr]at h2;cases h2
  ·rw [e]at hseg
   rcases D1 _ (tu hseg hf) g hg hq with h1|⟨k,hk,h1⟩
   ·exact⟨f,aA ..,h1⟩
   ·exact⟨k,au _ hk,h1⟩
 have hfalse:∀f∈its,(dE ops.size false).getD f.n true=false:=by intro f hf;obtain⟨_,_,_,this⟩:=I.item f hf;simp [fK,this]
 refine wp_region_any hm ?_;refine Hd (its:=its) (b:=(Region.before ops).toList) (cF:=cF) (sg:=sg) (ords:=ps.map (iV its)) hcal I hO hQ ops.size _ c a _ (ps.map (iV its)) its.length ?_ (by simp) ?_ (fun σ hσ=>⟨hσ, ?_⟩) ?_ ?_
 ·have:(un its (dE ops.size false)).length≤its.length:=List.length_filter_le _ _
  omega
 ·intro i o k ho hl _ _
  have hi:i<ops.size:=(bX.1 ho).1;simp [fK,hi]at hl
 ·have O:=hO σ hσ
  obtain⟨p,hp,rfl⟩:=aS.1 hσ;have hrun:=wJ h p hp;obtain⟨seg,post,p2,ps2,k1,k2,k3,k4,k5,k6,k7⟩:=ny (N:=N) (D:=[]) (V:=[]) hrun ⟨fun _ _=>rfl,rfl,rfl,by obtain⟨x,s,_,hS⟩:=hM;exact hS.inv.dom⟩ (fun f hf=>I.ok f ((O.mem f).1 hf)) (fun f hf=>I.self f ((O.mem f).1 hf)) O.nx (by simp) (by simp) (by simp)
  have hunf:un seg (dE ops.size false)=seg:=by apply dI.2;intro f hf;rw [hfalse f ((O.mem f).1 (by rw [k1];exact aj.2 (.inl hf)))];rfl
  refine⟨seg,post,p2,ps2,k1,k3,k4,fun f hf _=>k5 f (.inr hf),(fun f hf hq=>by rw [k2 f hf]at hq;cases hq),fun f hf=>hfalse f ((O.mem f).1 (by rw [k1];exact aj.2 (.inr hf))), ?_, ?_⟩
  ·rw [hunf];simpa using k6
  ·rw [hunf];intro f hf;exact k7 f (.inr hf)
 ·rw [List.map_map]
  have:(ps.map ((fun σ=>fB (un σ (dE ops.size false)))∘iV its))=ps.map fun p=>fB (iV its p):=by
   apply cY;intro p hp;show fB (un (iV its p) _)=_
   congr 1
   apply dI.2;intro f hf;rw [hfalse f (((hO _ (cX hp)).mem f).1 hf)];rfl
  rw [this];exact hc
 ·obtain⟨x,s,hMo,hS⟩:=hM
  exact⟨x,s,⟨hMo.tm,hMo.defers,hMo.heap.drawn _⟩,hS⟩
end Go.Sy
namespace Go.Sy
variable [ba]
variable {P : Program} {C : Ctx} {x : Sit} {a : Act} {w : World} {N : Nat} {c c' : CSt} {s : St} {T : oW}
def Ex.out:Ex→Exit
 | .n=> .normal
 | .x id=> .exit id
 | .r=> .ret
def EQ (C:Ctx) (N:Nat) (e:Ex) (c':CSt):Exit→Act→World→Prop:=fun e' a w=>e'=e.out∧M C N c' a w
def u0 (P:Program) (T:oW) (n:Nat):Prop:=
 (∀(r:RC) (c:CSt) (e:Ex) (c':CSt),gM T n r c=some (e,c')→∀(code:Code) (C:Ctx) (N:Nat) (a:Act) (w:World),cx P code=r.er→r.ok N=true→M C N c a w→code.wp P (EQ C N e c') a w)∧
 (∀(b:RC) (c:CSt) (e:Ex) (c':CSt),gM T n (.loop b) c=some (e,c')→∀(code:Code) (C:Ctx) (N:Nat) (a:Act) (w:World),cx P code=b.er→b.ok N=true→M C N c a w→Code.rounds P code (EQ C N e c') n a w)
theorem TY {code:Code} {b:gz} (h:aW P code=some (.loop b)):∃b',code= .loop b'∧aW P b'=some b:=by
 cases code with
 |loop b'=>simp only [aW]at h;obtain⟨sb,hb,he⟩:=ai.1 h;cases he;exact⟨b',rfl,hb⟩
 |region id ops draw=>
  simp only [aW]at h;split at h<;>try (cases h;done)
  split at h
  ·rw [aN]at h;cases h.2
  ·cases h
 |seq y z=>simp only [aW]at h;split at h<;>cases h
 |cond c y z=>simp only [aW]at h;split at h<;>cases h
 |block id b=>simp only [aW]at h;obtain⟨_,_,h⟩:=ai.1 h;cases h
 |_=>simp [aW]at h
theorem GG {code:Code} {id:Nat} {b:gz} (h:aW P code=some (.block id b)):∃b',code= .block id b'∧aW P b'=some b:=by
 cases code with
 |block id b'=>simp only [aW]at h;obtain⟨sb,hb,he⟩:=ai.1 h;cases he;exact⟨b',rfl,hb⟩
 |region id ops draw=>
  simp only [aW]at h;split at h<;>try (cases h;done)
  split at h
  ·rw [aN]at h;cases h.2
  ·cases h
 |seq y z=>simp only [aW]at h;split at h<;>cases h
 |cond c y z=>simp only [aW]at h;split at h<;>cases h
 |loop b=>simp only [aW]at h;obtain⟨_,_,h⟩:=ai.1 h;cases h
 |_=>simp [aW]at h
theorem xiY {code:Code} {y z:gz} (h:aW P code=some (.seq y z)):∃y' z',code= .seq y' z'∧aW P y'=some y∧aW P z'=some z:=by
 cases code with
 |seq y' z'=>
  simp only [aW]at h;split at h<;>try (cases h;done)
  rename_i sy sz hy hz;cases h;exact⟨y',z',rfl,hy,hz⟩
 |region id ops draw=>
  simp only [aW]at h;split at h<;>try (cases h;done)
  split at h
  ·rw [aN]at h;cases h.2
  ·cases h
 |cond c y z=>simp only [aW]at h;split at h<;>cases h
 |block id b=>simp only [aW]at h;obtain⟨_,_,h⟩:=ai.1 h;cases h
 |loop b=>simp only [aW]at h;obtain⟨_,_,h⟩:=ai.1 h;cases h
 |_=>simp [aW]at h
theorem T0 {code:Code} {k:Arg} {y z:gz} (h:aW P code=some (.cond k y z)):∃k' y' z',code= .cond k' y' z'∧bn P 0 k'=some k∧aW P y'=some y∧aW P z'=some z:=by
 cases code with
 |cond k' y' z'=>
  simp only [aW]at h;split at h<;>try (cases h;done)
  rename_i sc sy sz hcc hy hz;cases h;exact⟨k',y',z',rfl,hcc,hy,hz⟩
 |region id ops draw=>
  simp only [aW]at h;split at h<;>try (cases h;done)
  split at h
  ·rw [aN]at h;cases h.2
  ·cases h
 |seq y z=>simp only [aW]at h;split at h<;>cases h
 |block id b=>simp only [aW]at h;obtain⟨_,_,h⟩:=ai.1 h;cases h
 |loop b=>simp only [aW]at h;obtain⟨_,_,h⟩:=ai.1 h;cases h
 |_=>simp [aW]at h
theorem xi0 {code:Code} {l:List SI} (h:aW P code=some (.ops l)):∃id ops,code= .region id ops false∧i5 (fF P ops) ops.toList=some l:=by
 cases code with
 |region id ops draw=>
  simp only [aW]at h;split at h<;>try (cases h;done)
  rename_i l' hl;cases draw with
  |false=>simp only [aD,if_false,av.injEq,gz.ops.injEq]at h;subst h;exact⟨id,ops,rfl,hl⟩
  |true=>simp only [if_true]at h;rw [aN]at h;cases h.2
 |seq y z=>simp only [aW]at h;split at h<;>cases h
 |cond c y z=>simp only [aW]at h;split at h<;>cases h
 |block id b=>simp only [aW]at h;obtain⟨_,_,h⟩:=ai.1 h;cases h
 |loop b=>simp only [aW]at h;obtain⟨_,_,h⟩:=ai.1 h;cases h
 |_=>simp [aW]at h
theorem zq {code:Code} {b ds:List Nat} {l:List SI} (h:aW P code=some (.drw b ds l)):∃id ops,code= .region id ops true∧i5 (fF P ops) ops.toList=some l∧drawn ops l=true∧P.follows .mixedOrders=true∧b=(Region.before ops).toList∧ds=sG l:=by
 cases code with
 |region id ops draw=>
  simp only [aW]at h;split at h<;>try (cases h;done)
  rename_i l' hl;cases draw with
  |false=>simp only [aD,if_false,av.injEq,reduceCtorEq]at h
  |true=>simp only [if_true]at h;rw [aN]at h;obtain⟨hc,h⟩:=h;simp only [av.injEq,gz.drw.injEq]at h;obtain⟨rfl,rfl,rfl⟩:=h;rw [an]at hc;exact⟨id,ops,rfl,hl,hc.1,hc.2,rfl,rfl⟩
 |seq y z=>simp only [aW]at h;split at h<;>cases h
 |cond c y z=>simp only [aW]at h;split at h<;>cases h
 |block id b=>simp only [aW]at h;obtain⟨_,_,h⟩:=ai.1 h;cases h
 |loop b=>simp only [aW]at h;obtain⟨_,_,h⟩:=ai.1 h;cases h
 |_=>simp [aW]at h
theorem TX {code:Code} (h:aW P code=some .skip):code= .skip:=by
 cases code with
 |skip=>rfl
 |region id ops draw=>
  simp only [aW]at h;split at h<;>try (cases h;done)
  split at h
  ·rw [aN]at h;cases h.2
  ·cases h
 |seq y z=>simp only [aW]at h;split at h<;>cases h
 |cond c y z=>simp only [aW]at h;split at h<;>cases h
 |block id b=>simp only [aW]at h;obtain⟨_,_,h⟩:=ai.1 h;cases h
 |loop b=>simp only [aW]at h;obtain⟨_,_,h⟩:=ai.1 h;cases h
 |_=>simp [aW]at h
theorem xiZ {code:Code} (h:aW P code=some .ret):code= .ret:=by
 cases code with
 |ret=>rfl
 |region id ops draw=>
  simp only [aW]at h;split at h<;>try (cases h;done)
  split at h
  ·rw [aN]at h;cases h.2
  ·cases h
 |seq y z=>simp only [aW]at h;split at h<;>cases h
 |cond c y z=>simp only [aW]at h;split at h<;>cases h
 |block id b=>simp only [aW]at h;obtain⟨_,_,h⟩:=ai.1 h;cases h
 |loop b=>simp only [aW]at h;obtain⟨_,_,h⟩:=ai.1 h;cases h
 |_=>simp [aW]at h
theorem TZ {code:Code} {id:Nat} (h:aW P code=some (.exit id)):code= .exit id:=by
 cases code with
 |exit id'=>simp only [aW,av.injEq,gz.exit.injEq]at h;rw [h]
 |region id ops draw=>
  simp only [aW]at h;split at h<;>try (cases h;done)
  split at h
  ·rw [aN]at h;cases h.2
  ·cases h
 |seq y z=>simp only [aW]at h;split at h<;>cases h
 |cond c y z=>simp only [aW]at h;split at h<;>cases h
 |block id b=>simp only [aW]at h;obtain⟨_,_,h⟩:=ai.1 h;cases h
 |loop b=>simp only [aW]at h;obtain⟨_,_,h⟩:=ai.1 h;cases h
 |_=>simp [aW]at h
theorem fc {id:Nat} {ops:Array Oper} {draw:Bool} {s:gz} (h:cx P (.region id ops draw)=s) (hs:s≠ .bad):aW P (.region id ops draw)=some s:=by
 rw [cx]at h;split at h
 ·rename_i s' h';rw [←h];exact h'
 ·exact absurd h.symm hs
theorem iA {k:Operand} {y z:Code} {s:gz} (h:cx P (.cond k y z)=s) (hs:s≠ .bad):∃a,bn P 0 k=some a∧s= .cond a (cx P y) (cx P z):=by
 rw [cx]at h;split at h
 ·rename_i a ha;exact⟨a,ha,h.symm⟩
 ·exact absurd h.symm hs
theorem T8 {code:Code} {b:gz} (h:cx P code= .loop b):∃b',code= .loop b'∧cx P b'=b:=by
 cases code with
 |loop b'=>rw [cx]at h;cases h;exact⟨b',rfl,rfl⟩
 |region id ops draw=>have h1:=fc h (by simp);have h2:=TY h1;simp at h2
 |seq y z=>rw [cx]at h;cases h
 |cond k y z=>obtain⟨a,_,h2⟩:=iA h (by simp);cases h2
 |block id b=>rw [cx]at h;cases h
 |skip=>rw [cx]at h;cases h
 |exit id=>rw [cx]at h;cases h
 |ret=>rw [cx]at h;cases h
 |_=>simp [cx]at h
theorem GK {code:Code} {id:Nat} {b:gz} (h:cx P code= .block id b):∃b',code= .block id b'∧cx P b'=b:=by
 cases code with
 |block id b'=>rw [cx]at h;cases h;exact⟨b',rfl,rfl⟩
 |region id ops draw=>have h1:=fc h (by simp);have h2:=GG h1;simp at h2
 |seq y z=>rw [cx]at h;cases h
 |cond k y z=>obtain⟨a,_,h2⟩:=iA h (by simp);cases h2
 |loop b=>rw [cx]at h;cases h
 |skip=>rw [cx]at h;cases h
 |exit id=>rw [cx]at h;cases h
 |ret=>rw [cx]at h;cases h
 |_=>simp [cx]at h
theorem xi1 {code:Code} {y z:gz} (h:cx P code= .seq y z):∃y' z',code= .seq y' z'∧cx P y'=y∧cx P z'=z:=by
 cases code with
 |seq y' z'=>rw [cx]at h;cases h;exact⟨y',z',rfl,rfl,rfl⟩
 |region id ops draw=>have h1:=fc h (by simp);have h2:=xiY h1;simp at h2
 |cond k y z=>obtain⟨a,_,h2⟩:=iA h (by simp);cases h2
 |block id b=>rw [cx]at h;cases h
 |loop b=>rw [cx]at h;cases h
 |skip=>rw [cx]at h;cases h
 |exit id=>rw [cx]at h;cases h
 |ret=>rw [cx]at h;cases h
 |_=>simp [cx]at h
theorem xi4 {code:Code} {k:Arg} {y z:gz} (h:cx P code= .cond k y z):∃k' y' z',code= .cond k' y' z'∧bn P 0 k'=some k∧cx P y'=y∧cx P z'=z:=by
 cases code with
 |cond k' y' z'=>obtain⟨a,h1,h2⟩:=iA h (by simp);cases h2;exact⟨k',y',z',rfl,h1,rfl,rfl⟩
 |region id ops draw=>have h1:=fc h (by simp);have h2:=T0 h1;simp at h2
 |seq y z=>rw [cx]at h;cases h
 |block id b=>rw [cx]at h;cases h
 |loop b=>rw [cx]at h;cases h
 |skip=>rw [cx]at h;cases h
 |exit id=>rw [cx]at h;cases h
 |ret=>rw [cx]at h;cases h
 |_=>simp [cx]at h
theorem T7 {code:Code} (h:cx P code= .skip):code= .skip:=by
 cases code with
 |skip=>rfl
 |region id ops draw=>have h1:=fc h (by simp);have h2:=TX h1;simp at h2
 |seq y z=>rw [cx]at h;cases h
 |cond k y z=>obtain⟨a,_,h2⟩:=iA h (by simp);cases h2
 |block id b=>rw [cx]at h;cases h
 |loop b=>rw [cx]at h;cases h
 |exit id=>rw [cx]at h;cases h
 |ret=>rw [cx]at h;cases h
 |_=>simp [cx]at h
theorem xi2 {code:Code} (h:cx P code= .ret):code= .ret:=by
 cases code with
 |ret=>rfl
 |region id ops draw=>have h1:=fc h (by simp);have h2:=xiZ h1;simp at h2
 |seq y z=>rw [cx]at h;cases h
 |cond k y z=>obtain⟨a,_,h2⟩:=iA h (by simp);cases h2
 |block id b=>rw [cx]at h;cases h
 |loop b=>rw [cx]at h;cases h
 |skip=>rw [cx]at h;cases h
 |exit id=>rw [cx]at h;cases h
 |_=>simp [cx]at h
theorem T9 {code:Code} {id:Nat} (h:cx P code= .exit id):code= .exit id:=by
 cases code with
 |exit id'=>rw [cx]at h;cases h;rfl
 |region id ops draw=>have h1:=fc h (by simp);have h2:=TZ h1;simp at h2
 |seq y z=>rw [cx]at h;cases h
 |cond k y z=>obtain⟨a,_,h2⟩:=iA h (by simp);cases h2
 |block id b=>rw [cx]at h;cases h
 |loop b=>rw [cx]at h;cases h
 |skip=>rw [cx]at h;cases h
 |ret=>rw [cx]at h;cases h
 |_=>simp [cx]at h
theorem xi3 {code:Code} {l:List SI} (h:cx P code= .ops l):aW P code=some (.ops l):=by
 cases code with
 |region id ops draw=>exact fc h (by simp)
 |seq y z=>rw [cx]at h;cases h
 |cond k y z=>obtain⟨a,_,h2⟩:=iA h (by simp);cases h2
 |block id b=>rw [cx]at h;cases h
 |loop b=>rw [cx]at h;cases h
 |skip=>rw [cx]at h;cases h
 |exit id=>rw [cx]at h;cases h
 |ret=>rw [cx]at h;cases h
 |_=>simp [cx]at h
theorem zt {code:Code} {b ds:List Nat} {l:List SI} (h:cx P code= .drw b ds l):aW P code=some (.drw b ds l):=by
 cases code with
 |region id ops draw=>exact fc h (by simp)
 |seq y z=>rw [cx]at h;cases h
 |cond k y z=>obtain⟨a,_,h2⟩:=iA h (by simp);cases h2
 |block id b=>rw [cx]at h;cases h
 |loop b=>rw [cx]at h;cases h
 |skip=>rw [cx]at h;cases h
 |exit id=>rw [cx]at h;cases h
 |ret=>rw [cx]at h;cases h
 |_=>simp [cx]at h
theorem vf {n:Nat} (hR:u0 P T n) (hcal:fN P (eh T n)) {r:RC} {c:CSt} {e:Ex} {c':CSt} (h:dx (gM T n) (eh T n) T.sg r c=some (e,c')) (hl:∀b,r≠ .loop b) {code:Code} {C:Ctx} {N:Nat} {a:Act} {w:World}
 (hr:cx P code=r.er) (hok:r.ok N=true) (hM:M C N c a w):code.wp P (EQ C N e c') a w:=by
 cases r with
 |skip=>
  cases h;have:=T7 (by simpa [RC.er]using hr);subst this;exact wp_skip ⟨rfl,hM⟩
 |ret=>
  cases h;have:=xi2 (by simpa [RC.er]using hr);subst this;exact wp_ret ⟨rfl,hM⟩
 |exit id=>
  cases h;have:=T9 (by simpa [RC.er]using hr);subst this;exact wp_exit ⟨rfl,hM⟩
 |ops l=>
  obtain⟨id,ops,rfl,hl'⟩:=xi0 (xi3 (by simpa [RC.er]using hr));simp only [dx]at h;cases hs:fP (eh T n) T.sg l c with
  |none=>rw [hs]at h;cases h
  |some c1=>rw [hs]at h;simp only [nrm,qM,av.injEq,bh.injEq]at h;obtain⟨rfl,rfl⟩:=h;refine wp_region ?_;rw [List.range_eq_range'];exact xJ hcal hl' l ops.size 0 (by omega) (by simp) hok hM hs fun a w h=>⟨rfl,h⟩
 |drw b ds l dead=>
  obtain⟨id,ops,rfl,hl',hdr,hmo,rfl,rfl⟩:=zq (zt (by simpa [RC.er]using hr));simp only [dx]at h;cases hs:iT (eh T n) T.sg (Region.before ops).toList l [] (gcC c (sG l))with
  |none=>rw [hs]at h;cases h
  |some c1=>rw [hs]at h;simp only [nrm,av.injEq,bh.injEq]at h;obtain⟨rfl,rfl⟩:=h;obtain⟨x,s,hMo,hS⟩:=hM;exact yd hl' hdr hmo (k:=Sim N c1) (fun a w h=>⟨rfl,M.kill h dead⟩) hMo (xz hcal hok (QD hS) hs)
 |flt b ds l dead=>
  obtain⟨id,ops,rfl,hl',hdr,hmo,rfl,rfl⟩:=zq (zt (by simpa [RC.er]using hr));simp only [RC.ok,an]at hok;simp only [dx]at h;cases hs:fe (eh T n) T.sg (Region.before ops).toList l [] c with
  |none=>rw [hs]at h;cases h
  |some c1=>rw [hs]at h;simp only [nrm,av.injEq,bh.injEq]at h;obtain⟨rfl,rfl⟩:=h;exact EA hcal hl' hdr hmo hok.1 hok.2 (fun a w h=>⟨rfl,M.kill h dead⟩) hM hs
 |fla b ds l ps dead=>
  obtain⟨id,ops,rfl,hl',hdr,hmo,rfl,rfl⟩:=zq (zt (by simpa [RC.er]using hr));simp only [RC.ok,an]at hok;simp only [dx]at h;cases hs:jg (eh T n) T.sg (Region.before ops).toList l ps c with
  |none=>rw [hs]at h;cases h
  |some c1=>rw [hs]at h;simp only [nrm,av.injEq,bh.injEq]at h;obtain⟨rfl,rfl⟩:=h;exact EB hcal hl' hdr hmo hok.1 hok.2 (fun a w h=>⟨rfl,M.kill h dead⟩) hM hs
 |seq y z=>
  obtain⟨y',z',rfl,hy,hz⟩:=xi1 (by simpa [RC.er]using hr);simp only [RC.ok,an]at hok;simp only [dx]at h;cases hs:gM T n y c with
  |none=>rw [hs]at h;cases h
  |some p=>
   obtain⟨e1,c1⟩:=p;rw [hs]at h;refine wp_seq (wp_mono (hR.1 _ _ _ _ hs y' C N a w hy hok.1 hM) ?_);rintro e' a' w' ⟨rfl,hM'⟩;cases e1 with
   |n=>exact hR.1 _ _ _ _ h z' C N a' w' hz hok.2 hM'
   |x id=>cases h;exact⟨rfl,hM'⟩
   |r=>cases h;exact⟨rfl,hM'⟩
 |cond k y z=>
  obtain⟨k',y',z',rfl,hk,hy,hz⟩:=xi4 (by simpa [RC.er]using hr);simp only [RC.ok,an]at hok;simp only [dx]at h;unfold cnd at h;split at h<;>try (cases h;done)
  rename_i t ht
  have hv:a.eval k'= .bool t:=by obtain⟨x,s,hMo,hS⟩:=hM;have hrep:=aK hMo hk;rw [hS.ev,ht]at hrep;exact hrep.bool_inv
  refine wp_cond_split hv (fun e=> ?_) (fun e=> ?_)
  ·subst e
   rw [if_pos rfl]at h;exact hR.1 _ _ _ _ h y' C N a w hy hok.1 hM
  ·subst e
   rw [if_neg (by simp)]at h;exact hR.1 _ _ _ _ h z' C N a w hz hok.2 hM
 |block id b=>
  obtain⟨b',rfl,hb⟩:=GK (by simpa [RC.er]using hr);simp only [dx]at h;cases hs:gM T n b c with
  |none=>rw [hs]at h;cases h
  |some p=>
   obtain⟨e1,c1⟩:=p;rw [hs]at h;refine wp_block (wp_mono (hR.1 _ _ _ _ hs b' C N a w hb hok hM) ?_);rintro e' a' w' ⟨rfl,hM'⟩;cases e1 with
   |n=>cases h;exact⟨rfl,hM'⟩
   |r=>cases h;exact⟨rfl,hM'⟩
   |x id'=>
    simp only [blk]at h;simp only [Ex.out,Exit.inBlock];split at h<;>rename_i hid
    ·cases h;rw [if_pos hid];exact⟨rfl,hM'⟩
    ·cases h;rw [if_neg hid];exact⟨rfl,hM'⟩
 |loop b=>exact absurd rfl (hl b)
 |bad=>cases h
 |pre ds y=>
  simp only [dx]at h;cases hs:iQ c ds with
  |none=>rw [hs]at h;cases h
  |some c1=>rw [hs]at h;exact hR.1 _ _ _ _ h code C N a w (by simpa [RC.er]using hr) hok (kt hM hs)
 |post y ds=>
  simp only [dx]at h;cases hs:gM T n y c with
  |none=>rw [hs]at h;cases h
  |some p=>
   obtain⟨e1,c1⟩:=p;rw [hs]at h;refine wp_mono (hR.1 _ _ _ _ hs code C N a w (by simpa [RC.er]using hr) hok hM) ?_;rintro e' a' w' ⟨rfl,hM'⟩;cases e1 with
   |n=>
    simp only [psD]at h;split at h
    ·rename_i c2 h2;cases h;exact⟨rfl,kt hM' h2⟩
    ·cases h
   |x id=>cases h;exact⟨rfl,hM'⟩
   |r=>cases h;exact⟨rfl,hM'⟩
theorem xx:u0 P T 0:=⟨fun r c e c' h=>by simp [gM]at h,fun b c e c' h=>by simp [gM]at h⟩
theorem xy {n:Nat} (hR:u0 P T n) (hcal:fN P (eh T n)):u0 P T (n+1):=by
 have h2:∀(b:RC) (c:CSt) (e:Ex) (c':CSt),gM T (n+1) (.loop b) c=some (e,c')→∀(code:Code) (C:Ctx) (N:Nat) (a:Act) (w:World),cx P code=b.er→b.ok N=true→M C N c a w→Code.rounds P code (EQ C N e c') (n+1) a w:=by
  intro b c e c' h code C N a w hr hok hM;rw [gM]at h;simp only [dx]at h;rw [rounds_succ];cases hs:gM T n b c with
  |none=>rw [hs]at h;cases h
  |some p=>
   obtain⟨e1,c1⟩:=p;rw [hs]at h;refine wp_mono (hR.1 _ _ _ _ hs code C N a w hr hok hM) ?_;rintro e' a' w' ⟨rfl,hM'⟩;cases e1 with
   |n=>exact hR.2 _ _ _ _ h code C N a' w' hr hok hM'
   |x id=>cases h;exact⟨rfl,hM'⟩
   |r=>cases h;exact⟨rfl,hM'⟩
 refine⟨fun r c e c' h code C N a w hr hok hM=> ?_,h2⟩
 by_cases hl:∃b,r= .loop b
 ·obtain⟨b,rfl⟩:=hl
  obtain⟨b',rfl,hb⟩:=T8 (by simpa [RC.er]using hr);exact wp_loop_rounds (n+1) (h2 b c e c' h b' C N a w hb hok hM)
 ·rw [gM]at h
  exact vf hR hcal h (fun b e=>hl ⟨b,e⟩) hr hok hM
def xpK (P:Program):ResultVar→RV→Prop
 | .tmp t,.tmp t'=>t=t'
 | .cell t ty,.cell t' n ag=>t=t'∧fp P ty=some n∧rq P ty=some ag
 |_,_=>False
def EU (P:Program):List ResultVar→List RV→Prop
 |[],[]=>True
 |a::r,b::s=>xpK P a b∧EU P r s
 |_,_=>False
theorem tw (hS:Sim N c s):∀ {rs:List ResultVar} {rv:List RV} {vs:List SV},EU P rs rv→rZ c rv=some vs→∃p,xB P s rs=some (p,vs)∧p
 |[],[],vs,_,h=>by cases h;exact⟨True,rfl,trivial⟩
 |[],_::_,_,h,_=>h.elim
 |_::_,[],_,h,_=>h.elim
 | .tmp t::r,.tmp t'::q,vs,h,hv=>by obtain⟨h1,h2⟩:=h;have h1:t=t':=h1;subst h1;simp only [rZ]at hv;split at hv<;>cases hv;rename_i vs' hv';obtain⟨p,h3,h4⟩:=tw hS h2 hv';exact⟨p,by simp only [xB,h3,hS.get],h4⟩
 | .cell t ty::r,.cell t' n ag::q,vs,h,hv=>by
  obtain⟨⟨rfl,g1,g2⟩,h2⟩:=h;simp only [rZ]at hv;split at hv<;>cases hv;rename_i v vs' hl hv';obtain⟨p,h3,h4⟩:=tw hS h2 hv'
  have hl':(if(ag||n==1)=true then lZ c n ag (c.get t)else none)=some v:=by
   rw [←hl]
   congr 1
   simp
  split at hl'
  ·rename_i hc
   obtain⟨p',h5,h6⟩:=vX hS hl';refine⟨p'∧p, ?_,h6,h4⟩;simp only [xB,g1,g2,h3,hS.get];rw [if_pos hc,h5]
  ·cases hl'
 | .tmp _::_,.cell _ _ _::_,_,h,_=>h.1.elim
 | .cell _ _::_,.tmp _::_,_,h,_=>h.1.elim
def Qw (us:List Value):Value:=if h:us.toArray.size=1 then us.toArray[0]else .tuple us.toArray
theorem Qx {vs:List SV} {us:List Value} (h:cn x vs us):Rep x (jw vs) (Qw us):=by
 have hlen:=h.1;unfold Qw
 match vs,us,hlen with
 |[v],[u],_=>simpa [jw]using h.2 0 (by simp)
 |[],[],_=>simp only [jw];exact .tup _ _ h.1 h.2
 |v1::v2::vs,u1::u2::us,_=>simp only [jw];rw [dif_neg (by simp)];exact .tup _ _ h.1 h.2
theorem cZ.sel {ob ob2:List (Nat×aB)} {tk tk2:List Nat} (hH:cZ C x ob tk w) {x2:Sit} (hG:x2.G=x.G) (hob:∀p∈ob2,dU x2 w p.1 p.2∧∃q∈ob,x2.β p.1=x.β q.1) (hnd:(ob2.map bv).Nodup)
 (hinj:∀p∈ob2,∀q∈ob2,x2.β p.1=x2.β q.1→p.1=q.1) (htk:∀t∈tk2,(x2.τ t).2.1=(x2.τ t).2.2∨∃u∈tk,x2.τ t=x.τ u)
 (htd:∀t∈tk2,∀u∈tk2,t≠u→(x2.τ t).2.1=(x2.τ t).2.2∨(x2.τ u).2.1=(x2.τ u).2.2∨∃t'∈tk,∃u'∈tk,t'≠u'∧x2.τ t=x.τ t'∧x2.τ u=x.τ u') (hpin:∀i,i<100→x2.β i=x.β i):cZ C x2 ob2 tk2 w:=by
 refine⟨fun b o v hv=>hH.per b o v (by rw [←hG];exact hv),fun b o v hv=>by rw [hG];exact hH.g0 b o v hv,fun b o v hv=>hH.gm b o v (by rw [←hG];exact hv),hH.new, ?_,hnd,hinj, ?_, ?_, ?_,hH.os,hH.tape,hH.output,hH.size,hH.ext,
  fun i hi=>(hpin i hi).trans (hH.pin i hi),hH.lay⟩
 ·intro p hp
  obtain⟨h1,q,hq,h2⟩:=hob p hp;obtain⟨_,h3,h4⟩:=hH.obs q hq;exact⟨h1,by rw [h2];exact h3,fun off=>by rw [hG,h2];exact h4 off⟩
 ·intro t ht
  rcases htk t ht with h|⟨u,hu,h⟩
  ·exact .inl h
  ·have:=hH.tks u hu
   unfold io at this ⊢;rw [h,hG];exact this
 ·intro t ht p hp
  obtain⟨_,q,hq,h2⟩:=hob p hp;rcases htk t ht with h|⟨u,hu,h⟩
  ·exact .inr h
  ·rw [h,h2];exact hH.tko u hu q hq
 ·intro t ht u hu htu
  rcases htd t ht u hu htu with h|h|⟨t',ht',u',hu',hne,h1,h2⟩
  ·exact .inr (.inl h)
  ·exact .inr (.inr h)
  ·rw [h1,h2];exact hH.tkd t' ht' u' hu' hne
theorem fa {p:Nat×aB}:∀ {l:List aB} {k:Nat},p∈gg k l↔∃i,i<l.length∧p.1=k+i∧p.2=l.getD i (.rc [])
 |[],k=>by simp [gg]
 |o::r,k=>by
  simp only [gg,ao,fa];constructor
  ·rintro(rfl|⟨i,h1,h2,h3⟩)
   ·exact⟨0,by simp,rfl,rfl⟩
   ·exact⟨i+1,by simpa using h1,by omega,by simpa using h3⟩
  ·rintro⟨i,h1,h2,h3⟩
   cases i with
   |zero=>left;exact Prod.ext (by simpa using h2) (by simpa using h3)
   |succ i=>exact .inr ⟨i,by simpa using h1,by omega,by simpa using h3⟩
theorem iN:∀(l:List aB) (k:Nat),((gg k l).map bv).Nodup
 |[],_=>by simp [gg]
 |o::r,k=>by simp only [gg,aL,dN];refine⟨fun h=> ?_,iN r (k+1)⟩;obtain⟨p,hp,e⟩:=aS.1 h;obtain⟨i,_,h2,_⟩:=fa.1 hp;omega
theorem DF (n i:Nat) (h:i<n):(lq n).getD i 0=i:=by
 have hl:∀n,(lq n).length=n:=by
  intro n;induction n with
  |zero=>rfl
  |succ n ih=>simp [lq,ih]
 induction n with
 |zero=>omega
 |succ n ih=>
  simp only [lq,aa,List.getElem?_append,hl]
  by_cases hi:i<n
  ·rw [if_pos hi,←aa,ih hi]
  ·rw [if_neg hi];have:i-n=0:=by omega
   rw [this];simp;omega
theorem EC {keep raw:List Nat} {k:Nat} {vs:List SV} {us:List Value} {q:ec} (hM:aI C x s a w) (hS:Sim N c s) (hk:k≤40) (hv:cn x vs us) (h:TR keep k (eV c vs (i7 raw 0 vs))=some q):
 ∃x',Rep x' q.r (Qw us)∧cZ C x' q.os q.tk w∧(∀p∈q.os,p.2.wf=true)∧∀i,i<100→x'.β i=C.β0 i:=by
 obtain⟨x1,s1,hM1,hS1,hv1⟩:=js (l:=i7 raw 0 vs) hM hS hv;generalize eV c vs (i7 raw 0 vs)=z at h hS1 hv1;obtain⟨c1,vs1⟩:=z;simp only at hS1 hv1;simp only [TR]at h;have hE:=hS1.exact hM1;cases hb:(decide (k=0)&&(SV.idsL vs1).isEmpty&&keep.isEmpty)with
 |true=>rw [hb]at h;simp only [QF,av.injEq]at h;subst h;refine⟨x1, ?_,hE.heap.only (by simp) (by simp) (by simp),by simp,fun i hi=>hE.heap.pin i hi⟩;refine Qx ?_;rw [fv];refine⟨by simpa using hv1.1,fun i hi=> ?_⟩;rw [aP _ (by rfl)];exact(hv1.2 i (by simpa using hi)).bare rfl rfl
 |false=>
  rw [hb]at h;simp only [QF]at h;generalize hz:kb c1.tk keep 60 0 vs1=z at h;obtain⟨vs2,mt1⟩:=z;simp only [xeM]at h;generalize dO c1 60 [] (lq k++SV.idsL vs2)=m at h;cases ho:gF c1 m with
  |none=>rw [ho]at h;cases h
  |some os0=>
   rw [ho]at h;simp only [xeL]at h;generalize hz2:ed c1.tk (60+mt1.length) os0=z2 at h;obtain⟨os,mt2⟩:=z2;simp only [xeK]at h;cases hb2:(po (SV.idsL vs2++fL os) m&&dB m&&dB (cB (mt1++mt2))&&decide (m.take k=lq k)&&(m.drop k).all fun o=>decide (k≤o))with
   |false=>rw [hb2]at h;cases h
   |true=>
    rw [hb2]at h;simp only [xeJ,av.injEq]at h;subst h;simp only [an,decide_eq_true_eq,aM]at hb2;obtain⟨⟨⟨⟨hsub,hmn⟩,htn⟩,htake⟩,hdrop⟩:=hb2;obtain⟨hol,hog⟩:=qL ho;have hsubm:=vx hsub;have hmnd:=jx hmn;have htnd:=jx htn
    have hul:∀n,(lq n).length=n:=by
     intro n;induction n with
     |zero=>rfl
     |succ n ih=>simp [lq,ih]
    have hkm:k≤m.length:=by have:=congrArg rH htake;rw [ay,hul]at this;omega
    have hfirst:∀i,i<k→m.getD i 0=i:=by
     intro i hi;have h1:(m.take k).getD i 0=m.getD i 0:=by simp only [aa,bM,if_pos hi]
     rw [←h1,htake,DF k i hi]
    have hrest:∀i,k≤i→i<m.length→k≤m.getD i 0:=by
     intro i h1 h2;refine hdrop _ ?_
     have:m.getD i 0=(m.drop k).getD (i-k) 0:=by simp only [aa,bx];congr 2;omega
     rw [this];exact fV (by rw [aF];omega)
    let τ2:Nat→Nat×Nat×Nat:=fun t=>if 60≤t∧t<60+(mt1++mt2).length then QW x1 ((mt1++mt2).getD (t-60) none)else(0,0,0)
    let x2:Sit:=⟨x1.G,x1.β,τ2⟩
    let x3:Sit:=⟨x1.G,fun i=>if i<100 then x1.β i else x1.β (m.getD (i-100) 0),τ2⟩
    have hτ:∀y:Sit,y.τ=τ2→qr x1 y 60 (mt1++mt2):=by
     intro y hy j hj;rw [hy];show(if _ then _ else _)=_;rw [if_pos ⟨by omega,by omega⟩]
     congr 2;omega
    have hmem:∀i,i<m.length→(m.getD i 0,os0.getD i (.rc []))∈c1.ob:=fun i hi=>iF (hog i hi)
    have hβ:∀o∈m,x3.β (gY k m o)=x1.β o:=by
     intro o ho;unfold gY;split
     ·rename_i hlt
      show(if _ then _ else _)=_;rw [if_pos (by omega)]
     ·show(if _ then _ else _)=_
      rw [if_neg (by omega)];have e:100+eB m o-100=eB m o:=by omega
      rw [e,(nm ho).2]
    have hT2:=hτ x2 rfl
    have ha2:cn x2 vs2 us:=by have:=mK (x:=x1) (x1:=x2) rfl rfl (tk:=c1.tk) (own:=keep) (j:=60) (i:=0) hv1 (by rw [hz];exact hT2.left);rwa [hz]at this
    have hrr:Rep x3 ((jw vs2).ren (gY k m) id) (Qw us):=by
     refine Rep.renF (x:=x2) (x2:=x3) (fun _ _ _ h=>h) (Qx ha2) (fun j hj=>hβ j (hsubm j (aj.2 (.inl ?_)))) (fun t _=>rfl)
     have key:∀l:List SV,∀j∈(jw l).ids,j∈SV.idsL l:=by
      intro l j hj
      match l with
      |[]=>exact hj
      |[v]=>simpa [jw,SV.idsL]using hj
      |v::u::r=>exact hj
     exact key vs2 j hj
    obtain⟨hosl,hosr⟩:=lR (x:=x1) (x1:=x2) (w:=w) rfl rfl (tk:=c1.tk) (obs:=os0) (j:=60+mt1.length) (f:=fun i=>m.getD i 0)
     (fun i hi=>(hE.heap.obs _ (hmem i (by omega))).1) (by rw [hz2];exact hT2.right)
    rw [hz2]at hosl hosr;simp only at hosl hosr
    have hwf:∀o∈os,o.wf=true:=by
     intro o ho'
     have:=nF (tk:=c1.tk) (obs:=os0) (j:=60+mt1.length) (fun o h'=>by obtain⟨i,hi,rfl⟩:=bV h';have:=hS1.inv.wf _ (hmem i (by omega));simpa [aa,ab hi]using this) o (by rw [hz2];exact ho')
     exact this
    have hall:∀p∈gg 0 (ei (gY k m) id (os.take k))++gg (100+k) (ei (gY k m) id (os.drop k)),∃i,i<m.length∧p.1=gY k m (m.getD i 0)∧p.2=(os.getD i (.rc [])).ren (gY k m) id∧os.getD i (.rc [])∈os:=by
     intro p hp
     have gd:∀ {l:List aB} {i:Nat},i<l.length→(ei (gY k m) id l).getD i (.rc [])=(l.getD i (.rc [])).ren (gY k m) id:=by intro l i hi;rw [gB,aa,aa,aJ,ab hi];rfl
     have gm:∀ {i:Nat},i<os.length→os.getD i (.rc [])∈os:=fun {i} hi=>by rw [aa,ab hi];exact aT _
     rcases aj.1 hp with hp|hp
     ·obtain⟨i,h1,h2,h3⟩:=fa.1 hp
      rw [gB,aQ,ay]at h1;have e:(os.take k).getD i (.rc [])=os.getD i (.rc []):=by simp only [aa,bM,if_pos (show i<k by omega)]
      refine⟨i,by omega, ?_, ?_,gm (by omega)⟩
      ·rw [h2,hfirst i (by omega)];unfold gY;rw [if_pos (by omega)];omega
      ·rw [h3,gd (by rw [ay];omega),e]
     ·obtain⟨i,h1,h2,h3⟩:=fa.1 hp
      rw [gB,aQ,aF]at h1;have hi:k+i<m.length:=by omega
      have e:(os.drop k).getD i (.rc [])=os.getD (k+i) (.rc []):=by simp only [aa,bx]
      refine⟨k+i,hi, ?_, ?_,gm (by omega)⟩
      ·have h5:=hrest (k+i) (by omega) hi
       have h6:=nm (fV hi);have h7:eB m (m.getD (k+i) 0)=k+i:=lV hmnd h6.1 hi h6.2;unfold gY;rw [if_neg (by omega),h7,h2];omega
      ·rw [h3,gd (by rw [aF];omega),e]
    have hmt:∀t∈cB (mt1++mt2),t∈c1.tk:=by
     intro t ht;rw [fI,aj]at ht;rcases ht with ht|ht
     ·exact pn (tk:=c1.tk) (own:=keep) (cs:=vs1) (j:=60) (i:=0) t (by rw [hz];exact ht)
     ·exact nG (tk:=c1.tk) (obs:=os0) (j:=60+mt1.length) t (by rw [hz2];exact ht)
    have htok:∀t∈tks 60 (mt1.length+mt2.length),(x3.τ t).2.1=(x3.τ t).2.2∨∃u,(mt1++mt2).getD (t-60) none=some u∧u∈c1.tk∧x3.τ t=x1.τ u:=by
     intro t ht;obtain⟨h1,h2⟩:=jJ.1 ht;have e:=hτ x3 rfl (t-60) (by rw [ah];omega);rw [show 60+(t-60)=t by omega]at e;cases hu:(mt1++mt2).getD (t-60) none with
     |none=>rw [hu]at e;rw [e];exact .inl rfl
     |some u=>rw [hu]at e;exact .inr ⟨u,rfl,hmt u (iX hu),e⟩
    refine⟨x3,hrr,hE.heap.sel (x2:=x3) rfl ?_ ?_ ?_ ?_ ?_ ?_, ?_, ?_⟩
    ·intro p hp
     obtain⟨i,h1,h2,h3,h4⟩:=hall p hp;have hm':=fV h1;refine⟨?_,_,hmem i h1,by rw [h2];exact hβ _ hm'⟩;rw [h2,h3];exact(hosr i (by omega)).renF (x2:=x3) (fun _ _ _ h=>h) (hβ _ hm') (fun j hj=>hβ j (hsubm j (aj.2 (.inr (pL h4 j hj))))) (fun t _=>rfl)
    ·rw [bz,List.nodup_append]
     refine⟨iN _ _,iN _ _,fun u hu v hv e=> ?_⟩;obtain⟨p,hp,rfl⟩:=aS.1 hu;obtain⟨r,hr,rfl⟩:=aS.1 hv;obtain⟨i,h1,h2,_⟩:=fa.1 hp;obtain⟨j,h3,h4,_⟩:=fa.1 hr;rw [gB,aQ,ay]at h1;omega
    ·intro p hp r hr hpr
     obtain⟨i,h1,h2,_⟩:=hall p hp;obtain⟨j,h3,h4,_⟩:=hall r hr;rw [h2,h4,hβ _ (fV h1),hβ _ (fV h3)]at hpr;have:=hE.heap.inj _ (hmem i h1) _ (hmem j h3) hpr;simp only at this;rw [h2,h4,this]
    ·intro t ht
     rcases htok t ht with g|⟨u,_,g1,g2⟩
     ·exact .inl g
     ·exact .inr ⟨u,g1,g2⟩
    ·intro t ht u hu htu
     rcases htok t ht with g|⟨t',g0,g1,g2⟩
     ·exact .inl g
     ·rcases htok u hu with g|⟨u',k0,k1,k2⟩
      ·exact .inr (.inl g)
      ·refine .inr (.inr ⟨t',g1,u',k1,ov htnd ?_ g0 k0,g2,k2⟩)
       have:=jJ.1 ht;have:=jJ.1 hu;omega
    ·intro i hi
     show(if _ then _ else _)=_;rw [if_pos hi]
    ·intro p hp
     obtain⟨i,h1,h2,h3,h4⟩:=hall p hp;rw [h3];exact yI (hwf _ h4)
    ·intro i hi
     show(if _ then _ else _)=_;rw [if_pos hi];exact hE.heap.pin i hi
structure bO (P:Program) (g:Nat) (F:FnC):Prop where
 fn:∃fn,P.funcs[g]? =some fn∧fn.body.map (cx P)=some F.code.er∧fn.ntmps=F.n∧EU P fn.results.toList F.rs
 cb:eg P g=true
 ok:F.code.ok F.n=true
def yn (P:Program) (T:oW):Prop:=∀g b,T.fn g=some b→match b with
 | .code F=>bO P g F
 | .prim f=>∀as os k q,f as os k=some q→oX P g as os k (· =q)
theorem Dv (os:List aB):∀o,(idx os).lookup o=iW (gg 0 os) o:=by
 intro o;have h1:((idx os).map bv).Nodup:=nJ os;have h2:=iN os 0
 have hm:∀p,p∈idx os↔p∈gg 0 os:=by
  intro p;rw [fj,fa];constructor
  ·rintro⟨g1,g2⟩;exact⟨p.1,g1,by omega,g2⟩
  ·rintro⟨i,g1,g2,g3⟩
   have e:p.1=i:=by omega
   rw [e];exact⟨g1,g3⟩
 rw [iO];refine tO (fun v hv=> ?_) (fun v hv=> ?_)
 ·exact jl (p:=(o,v)) h2 ((hm _).1 (iF hv))
 ·exact jl (p:=(o,v)) h1 ((hm _).2 (iF hv))
theorem sm (n:Nat):∀(l:List SV) (i:Nat),eE (oQ i l) n=if i≤n then l.getD (n-i) .undef else .undef
 |[],i=>by simp [oQ,eE]
 |v::r,i=>by
  simp only [oQ,eE,sm n r (i+1)]
  by_cases h:i=n
  ·subst h;simp
  ·rw [if_neg h]
   by_cases h2:i≤n
   ·rw [if_pos h2,if_pos (by omega)]
    obtain⟨k,hk⟩:∃k,n-i=k+1:=⟨n-i-1,by omega⟩;rw [hk,bw];congr 1;omega
   ·rw [if_neg h2,if_neg (by omega)]
theorem sh {p:Nat×SV}:∀ {l:List SV} {i:Nat},p∈oQ i l→p.1<i+l.length
 |v::r,i,h=>by
  simp only [oQ]at h;rcases ao.1 h with e|e
  ·rw [e];simp
  ·have:=sh e;simp only [ax];omega
theorem vz:∀(l:List aB) (k:Nat),((gg k l).map bv).Pairwise (· < ·)
 |[],_=>by simp [gg]
 |o::r,k=>by simp only [gg,aL,bS];refine⟨fun n hn=> ?_,vz r (k+1)⟩;obtain⟨p,hp,rfl⟩:=aS.1 hn;obtain⟨i,_,h2,_⟩:=fa.1 hp;omega
theorem oB {n:Nat} (hR:u0 P T n) (hT:yn P T):fN P (eh T n):=by
 intro g as os k q hq;unfold eh at hq;cases hg:T.fn g with
 |none=>rw [hg]at hq;cases hq
 |some b=>
  have hb:=hT g b hg;cases b with
  |prim f=>rw [hg]at hq;exact hb as os k q hq
  |code F=>
   rw [hg]at hq;simp only [oU,Fc]at hq;obtain⟨⟨fn,hfn,hbody,hnt,hrv⟩,hcb,hok⟩:=hb;refine⟨hcb, ?_⟩;split at hq
   case isFalse=>cases hq
   rename_i hle;intro C x w vs hw0 hG0 hmine hlen hwf hH hargs;cases hbd:fn.body with
   |none=>simp [hbd]at hbody
   |some code=>
    simp only [hbd,cQ]at hbody;refine calls_of_wp hfn hbd ?_;have hl:=hargs.1
    let s0:St:=⟨as++am (F.n-as.length) .undef,idx os,tks 50 k⟩
    have hM0:aI C x s0 {tmps:=(⟨vs⟩:Array Value)++dE (fn.ntmps-(⟨vs⟩:Array Value).size) Go.undef,defers:=[]} w:=by
     refine⟨?_,rfl,hH⟩
     have e1:((⟨vs⟩:Array Value)++dE (fn.ntmps-(⟨vs⟩:Array Value).size) Go.undef).toList=vs++am (F.n-as.length) Go.undef:=by simp [hnt,hl]
     rw [e1];refine hargs.append ⟨by simp,fun i hi=> ?_⟩;rw [fG _ _ _ _ (by simpa using hi)];exact .undef _
    have hS0:Sim F.n (rM as os k) s0:=by
     refine⟨⟨fun p hp=> ?_,vz os 0,fun p hp=> ?_⟩, ?_,fun o=>Dv os o,fun t=>Iff.rfl⟩
     ·have:=sh hp;omega
     ·obtain⟨i,h1,_,h3⟩:=fa.1 hp
      rw [h3,aa,ab h1];exact hwf _ (aT _)
     ·apply List.ext_getElem?
      intro i;show(as++am (F.n-as.length) SV.undef)[i]? =_;rw [aJ];rcases bR i F.n with hi|hi
      ·rw [cy hi]
       have e:(rM as os k).get i=as.getD i .undef:=by show eE (oQ 0 as) i=_;rw [sm];simp
       simp only [bf,e,List.getElem?_append,List.getElem?_replicate]
       by_cases h:i<as.length
       ·rw [if_pos h,aa,ab h];rfl
       ·rw [if_neg h,if_pos (by omega),aa,ky (by omega)];rfl
      ·rw [ky (by simp;omega),ky (by simpa using hi)];rfl
    cases hs:gM T n F.code (rM as os k)with
    |none=>rw [hs]at hq;cases hq
    |some p=>
     obtain⟨e,c1⟩:=p;rw [hs]at hq;refine wp_mono (hR.1 _ _ _ _ hs code C F.n _ w (by simpa using hbody) hok ⟨x,s0,hM0,hS0⟩) ?_;rintro e' a' w' ⟨rfl,x1,s1,hM1,hS1⟩
     have main:QG F.keep F.raw os.length c1 (rZ c1 F.rs)=some q→a'.defers=[]∧∃v,(results fn a'.tmps).run P w'= .ok v w'∧∃v',∃x':Sit,∃q',Ending.returned v= .returned v'∧q'=q∧Rep x' q'.r v'∧cZ C x' q'.os q'.tk w'∧(∀p∈q'.os,p.2.wf=true)∧∀i,i<os.length→x'.β i=x.β i:=by
      intro hf;cases hrc:rZ c1 F.rs with
      |none=>rw [hrc]at hf;cases hf
      |some rv=>
       rw [hrc]at hf;obtain⟨p,h1,h2⟩:=tw (P:=P) hS1 hrv hrc;obtain⟨us,hrun,hl⟩:=rh hM1 h1 h2;obtain⟨x',g1,g2,g3,g4⟩:=EC hM1 hS1 hlen hl hf;refine⟨hM1.defers,Qw us, ?_,Qw us,x',q,rfl,rfl,g1,g2,g3,fun i hi=> ?_⟩
       ·rw [xA,Array.mapM_eq_mapM_toList]
        simp only [az,Sem.run_map,hrun,al,aE];rfl
       ·rw [g4 i (by omega)];exact(hH.pin i (by omega)).symm
     cases e with
     |n=>exact main hq
     |r=>exact main hq
     |x id=>cases hq
theorem QY (hT:yn P T):∀n,u0 P T n
 |0=>xx
 |n+1=>xy (QY hT n) (oB (QY hT n) hT)
theorem ye (hT:yn P T):fN P (call T):=by intro g as os k q hq;obtain⟨n,hn⟩:=ly hq;exact oB (QY hT n) hT g as os k q hn
theorem TL (hT:yn P T) {g:Nat} {as:List SV} {r:SV} (h:call T g as [] 0=some ⟨r,[],[]⟩) (ht:r.toks=[]):Fn P g as r:=by obtain⟨h1,h2⟩:=ye hT _ _ _ _ _ h;refine⟨h1,fun C x w vs hw hG hm hl hH hv=> ?_⟩;refine(h2 C x w vs hw hG (fun b hb=>(hm b hb).imp id (fun⟨i,hi,_⟩=>by simp at hi)) (by simp) (by simp) hH hv).mono ?_;rintro en w' ⟨v,x',q,rfl,rfl,hr,hH',_,hg⟩;exact⟨v,x',r,[],rfl,⟨rfl,rfl⟩,hr,by rw [ht];exact hH',hg⟩
def UW (P:Program):ResultVar→RV→Bool
 | .tmp t,.tmp t'=>decide (t=t')
 | .cell t ty,.cell t' n ag=>decide (t=t')&&decide (fp P ty=some n)&&decide (rq P ty=some ag)
 |_,_=>false
def rf (P:Program):List ResultVar→List RV→Bool
 |[],[]=>true
 |a::r,b::s=>UW P a b&&rf P r s
 |_,_=>false
theorem vG:∀ {rs:List ResultVar} {rv:List RV},rf P rs rv=true→EU P rs rv
 |[],[],_=>trivial
 |[],_::_,h=>by cases h
 |_::_,[],h=>by cases h
 |a::r,b::s,h=>by
  simp only [rf,an]at h;refine⟨?_,vG h.2⟩;have h1:=h.1;cases a<;>cases b<;>simp only [UW,an,decide_eq_true_eq]at h1<;>first|(cases h1;done)|skip
  ·exact h1
  ·exact⟨h1.1.1,h1.1.2,h1.2⟩
theorem TN {g:Nat} {F:FnC} {fn:Func} (h1:P.funcs[g]? =some fn) (h2:fn.body.map (cx P)=some F.code.er) (h3:fn.ntmps=F.n) (h4:rf P fn.results.toList F.rs=true) (h5:eg P g=true) (h6:F.code.ok F.n=true):bO P g F:=
 ⟨⟨fn,h1,h2,h3,vG h4⟩,h5,h6⟩
end Go.Sy
namespace Go.Sy
variable [ba]
open Go.RowKit Go.ChangeShapes Go.WideShapes
def GW (w:World):GM:=fun b o=>w.cell? ⟨b,o,none⟩
def Sq (w:World):Sit:=⟨GW w,fun _=>0,fun _=>(0,0,0)⟩
theorem xmp (w:World) (hL:Lay (GW w)):cZ ⟨w,GW w,fun b=>w.heap.size≤b,fun _=>0⟩ (Sq w) [] [] w where
 per:=fun _ _ _ h=>h
 g0:=fun _ _ _ h=>h
 gm:=fun _ _ _ h=> .inl h
 new:=fun _ h=>h
 obs:=by simp
 nd:=List.nodup_nil
 inj:=by simp
 tks:=by simp
 tko:=by simp
 tkd:=by simp
 os:=rfl
 tape:=rfl
 output:=rfl
 size:=aZ _
 ext:=fun _ _=>rfl
 pin:=fun _ _=>rfl
 lay:=hL
theorem ta {x:Sit} {b:Bool} {v:Value} (h:Rep x (.bool b) v):v= .bool b:=by
 cases h with
 |dat _ _ h _=>cases h;rfl
theorem Eh {P:Program} {f:Nat} {as:List SV} (h:Fn P f as (.bool true)) {W:World} {vs:List Value} (hv:cn (Sq W) as vs) (hL:Lay (GW W)):
 Calls P f ⟨vs⟩ W fun e W'=>e= .returned (.bool true)∧Below W.heap.size W W':=by
 refine(h.2 ⟨W,GW W,fun b=>W.heap.size≤b,fun _=>0⟩ (Sq W) W vs rfl rfl (fun b hb=> .inl hb) (by simp) (xmp W hL) hv).mono ?_;rintro e W' ⟨v,x',r,os',rfl,⟨rfl,rfl⟩,hr,hH,_⟩;obtain rfl:=ta hr;exact⟨rfl,hH.os,hH.tape,hH.output,hH.size,fun k hk=>hH.ext k (by simp;omega)⟩
section
variable {H : Type} {enc : TypeId × Value → H} {P : Program} {w : World} {base : Nat} {sp : Nat → Bool} {hd : Bool} {r : Reach} {b0 : Nat} {t e : TypeId} {v : Value} {d : DataW H} {ps : List MemPlace}
theorem UD {k:IntKind} (ht:P.underlying t=some (.int k)) (hval:Value.okWide P w r b0 t v) (h:DataW.Trod enc P w base sp hd t v d ps):∃n,k.has n∧Rep (Sq w) (.int k n) v:=by obtain⟨n,rfl,_,_,hw⟩:=open_int ht hval h;simp only [Lit.wf,an,decide_eq_true_eq]at hw;exact⟨n,hw,.dat _ _ (.int k n) trivial⟩
theorem wY {a:Addr} {len cap:Nat} (ht:P.underlying t=some (.slice e)) (hval:Value.okWide P w r b0 t (.slice (some a) len cap)):a.spot=none:=by simp only [Value.okWide,ht,Cell.okWide,Cell.ok]at hval;exact hval.2.2.2.1
theorem xgf {n:Int} (h:(Lit.int .u8 n).wf=true):((wM n.toNat).toNat:Int)=n:=by
 simp only [Lit.wf,IntKind.min,IntKind.max,IntKind.signed,IntKind.bits,an,decide_eq_true_eq]at h;rw [UInt8.toNat_ofNat'];have:n.toNat<256:=by simp at h;omega
 rw [yB this];simp at h;omega
theorem nZ (ht:P.underlying t=some (.slice e)) (he:P.underlying e=some (.int .u8)) (hc:P.cellsOf e=1) (hval:Value.okWide P w r b0 t v) (h:DataW.Trod enc P w base sp hd t v d ps):
 ∃l:List UInt8,l.length≤maxLen∧Rep (Sq w) (.byt l .no) v:=by
 obtain⟨a0,len,cap,rfl⟩:=okWide_slice ht hval;obtain⟨fuel,hf⟩:=h;rcases open_ints ht he hc hf with⟨hcs,_⟩|⟨a,len',cap',zs,hcs,_,hl,hm,hz,_,hcell,hwf⟩
 ·simp [Value.cells]at hcs
  obtain⟨rfl,rfl,rfl⟩:=hcs;exact⟨[],by simp,.dat _ _ (.bytN .no) trivial⟩
 ·simp [Value.cells]at hcs
  obtain⟨rfl,rfl,rfl⟩:=hcs;have hs:=wY ht hval;obtain⟨b,off,spot⟩:=a;simp only at hs;subst hs;have hzl:len≤zs.length:=by rw [hz];split<;>omega
  refine⟨(zs.take len).map fun n=>wM n.toNat,by simp;omega,.dat _ _ (.byt _ .no b off cap len (by simp;omega) hl (fun i hi=> ?_)) trivial⟩;have h1:=hcell i (by omega);have hi':i<zs.length:=by omega
  rw [add_plain]at h1
  have e1:((zs.take len).map fun n=>wM n.toNat).getD i 0=wM (zs.getD i 0).toNat:=by simp [aa,hi',hi]
  show w.cell? _=_;rw [h1,e1]
  congr 2
  refine(xgf (hwf _ ?_)).symm;rw [aa,ab hi'];exact aT hi'
end
theorem F1 {x:Sit}:cn x [] []:=⟨rfl,by simp⟩
section
variable {H : Type} {enc : TypeId × Value → H} {P : Program}
theorem Ga {f:Func} {s:ChangeSpec} {apart fresh handsOn again:Bool} {W W':World} {args:Array Value} {v:Value} {ds gs:List (DataW H)} {before pa pv:List MemPlace}
 (hW:DataW.Whole enc P f.params.toList s.vars apart W args.toList ds gs before)
 (hres:∀(b:Nat) (sp:Nat→Bool) (hd:Bool),DataW.TrodAll enc P W' b sp hd f.resultTypes.toList (v.resultList f.resultTypes.size) (s.fn H (ds++gs)).results [])
 (hargs:∀sp:Nat→Bool,(∀p∈before,sp p.block=true)→DataW.TrodAll enc P W' 0 sp true f.params.toList args.toList (s.fn H (ds++gs)).args pa)
 (hvars:∀sp:Nat→Bool,(∀p∈before,sp p.block=true)→DataW.TrodVars enc P W' sp s.vars (s.fn H (ds++gs)).vars pv)
 (hps:before=pa++pv) (hb:Below W.heap.size W W')
 (hok:∀(j:Nat) (t:TypeId) (r:Value),f.resultTypes[j]? =some t→(v.resultList f.resultTypes.size)[j]? =some r→Value.okWide P W' .any 0 t r):
 s.post enc P f apart fresh handsOn again W args v W':=by
 have hlt:=hW.lt;have hold:∀p∈before,(fun b=>decide (b<W.heap.size)) p.block=true:=fun p hp=>by simpa using hlt p hp
 refine⟨ds,gs,before,[],pa,pv,hW,hres _ _ _,hargs _ hold,hvars _ hold,World.keptBut_mono (fun p hp=>⟨hp, ?_⟩) (hb.frame (· ∈before)),fun _=> ?_⟩
 ·rw [hps,aj]at hp
  exact Or.inr hp
 ·obtain⟨_,_,_,_,_,hz,hn⟩:=hW
  refine⟨hok,_,_,([]++pa)++pv,⟨[]++pa,pv,trodAll_append (hargs _ (fun _ _=>rfl)) (hres _ _ _),hvars _ (fun _ _=>rfl),rfl, ?_, ?_⟩, ?_⟩
  ·intro b off hp
   have hp':MemPlace.cell b off∈before:=by rw [hps];simpa using hp
   rw [hb.frozen (p:=⟨b,off,none⟩) (hlt _ hp')];exact hz b off hp'
  ·intro ha
   have:=hn ha;rw [hps]at this;simpa using this
  ·intro p hp _
   rw [hps];simpa using hp
theorem lr (hl:laidOutB P=true) {W W':World} (hb:Below W.heap.size W W'):∀ {ts:List TypeId} {vs:List Value} {ds:List (DataW H)} {p:List MemPlace},(ts.all fun t=>P.readableRec t&&decide (t<P.types.size))=true→
 DataW.TrodAll enc P W 0 (fun _=>true) true ts vs ds p→(∀x∈p,x.block<W.heap.size)→∀sp:Nat→Bool,(∀x∈p,sp x.block=true)→DataW.TrodAll enc P W' 0 sp true ts vs ds p
 |[],_,_,_,_,h,_,_,_=>by obtain⟨rfl,rfl,rfl⟩:=trodAll_nil h;exact trodAll_mk0
 |t::ts,_,_,_,hr,h,hlt,sp,hsp=>by obtain⟨v,vs1,d,ds1,a,b,rfl,rfl,rfl,h1,h2⟩:=trodAll_cons h;simp only [iZ,an,decide_eq_true_eq]at hr;refine trodAll_cons_mk ?_ (lr hl hb (by simpa using hr.2) h2 (fun x hx=>hlt x (List.mem_append_right _ hx)) sp (fun x hx=>hsp x (List.mem_append_right _ hx)));exact WideElems.Trod_stays hl hr.1.1 hr.1.2 h1 (fun x hx=>hb.same (hlt x (List.mem_append_left _ hx))) (fun x hx=>hsp x (List.mem_append_left _ hx))
theorem Gr {f:Func} {s:ChangeSpec} {W W':World} {args:Array Value} {ds gs:List (DataW H)} {before:List MemPlace} {tb:TypeId} (hl:laidOutB P=true)
 (hr:(f.params.toList.all fun t=>P.readableRec t&&decide (t<P.types.size))=true) (hrt:f.resultTypes= #[tb]) (htb:P.underlying tb=some .bool) (hvars:s.vars=[])
 (hfn:(s.fn H (ds++gs)).results=[.lit (.bool true)]) (hfa:(s.fn H (ds++gs)).args=ds) (hfv:(s.fn H (ds++gs)).vars=[])
 (hW:DataW.Whole enc P f.params.toList s.vars false W args.toList ds gs before) (hb:Below W.heap.size W W'):
 s.post enc P f false true false false W args (.bool true) W':=by
 have hlt:=hW.lt;have hW':=hW;obtain⟨p,q,hA,hV,rfl,hfz,hnd⟩:=hW;rw [hvars]at hV;obtain⟨rfl,rfl⟩:=trodVars_none hV;simp only [bj]at hlt hW' hfz;refine Ga (pa:=p) (pv:=[]) (before:=p) (gs:=[]) hW' (fun b sp hd=> ?_) (fun sp hsp=> ?_) (fun sp hsp=> ?_) (by simp) hb (ok_one hrt rfl (okWide_bool_mk htb _))
 ·rw [hfn,hrt]
  exact trodAll_cons_mk (shut_bool htb _) trodAll_mk0
 ·rw [hfa]
  exact lr hl hb hr hA hlt sp hsp
 ·rw [hvars,hfv]
  rfl
end
end Go.Sy
namespace Go.Sy
variable [ba]
open Go.RowKit Go.ChangeShapes Go.WideShapes
variable {P : Program} {C : Ctx} {x : Sit} {w w' : World}
theorem fd.below {b:Nat} {c:Array Value} {e:TypeId} {fl fh:Nat} (h:fd w b c e fl fh) (hb:Below w.heap.size w w'):fd w' b c e fl fh:=h.of_heap (hb.block b h.lt)
theorem cZ.below {ob:List (Nat×aB)} {tk:List Nat} (h:cZ C x ob tk w) (hb:Below w.heap.size w w'):cZ C x ob tk w' where
 per:=fun b o v hv=>by rw [de (hb.block b (h.ltG hv))];exact h.per b o v hv
 g0:=h.g0
 gm:=h.gm
 new:=h.new
 obs:=fun p hp=>by obtain⟨⟨c,e,fl,fh,hO,r⟩,q⟩:=h.obs p hp;exact⟨⟨c,e,fl,fh,hO.below hb,r⟩,q⟩
 nd:=h.nd
 inj:=h.inj
 tks:=fun t ht=>(h.tks t ht).imp id fun⟨⟨c,e,fl,fh,hO,r⟩,q⟩=>⟨⟨c,e,fl,fh,hO.below hb,r⟩,q⟩
 tko:=h.tko
 tkd:=h.tkd
 os:=hb.os.trans h.os
 tape:=hb.tape.trans h.tape
 output:=hb.output.trans h.output
 size:=cu h.size hb.size
 ext:=fun b hn=>by
  rcases bR b w.heap.size with h1|h1
  ·rw [hb.block b h1];exact h.ext b hn
  ·exact absurd (h.new b (cu h.size h1)) hn
 pin:=h.pin
 lay:=h.lay
def lK (w:World) (l:List UInt8) (v:Value):Prop:=
 (l=[]∧v= .slice none 0 0)∨∃b off n cap,v= .slice (some ⟨b,off,none⟩) n cap∧n=l.length∧∀i,i<n→w.cell? ⟨b,off+i,none⟩=some (.int .u8 (l.getD i 0).toNat)
theorem qh {l:List UInt8} {t:Tok} {v:Value} (h:Rep x (.byt l t) v) (hp:∀b o v,x.G b o=some v→w.cell? ⟨b,o,none⟩=some v):lK w l v:=by
 cases h with
 |dat _ _ h _=>
  cases h with
  |bytN=>exact .inl ⟨rfl,rfl⟩
  |byt _ _ b off cap n hn hc h=>exact .inr ⟨b,off,n,cap,rfl,hn,fun i hi=>hp _ _ _ (h i hi)⟩
theorem yG {l:List UInt8} {v:Value} (h:Rep x (.str l) v):v= .string ⟨⟨l⟩⟩:=by
 cases h with
 |dat _ _ h _=>cases h;rfl
theorem lS {g:Nat} {as:List SV} {r:SV} (hcb:eg P g=true)
 (h:∀(x:Sit) (w:World) (vs:List Value),cn x as vs→(∀b o v,x.G b o=some v→w.cell? ⟨b,o,none⟩=some v)→
  Calls P g ⟨vs⟩ w fun e w'=>∃v,e= .returned v∧Rep x r v∧Below w.heap.size w w'):oX P g as [] 0 (· =⟨r,[],[]⟩):=by
 refine⟨hcb,fun C x w vs hw hG hm hl hwf hH hr=>(h x w vs hr hH.per).mono ?_⟩;rintro e w' ⟨v,rfl,hv,hb⟩;exact⟨v,x,_,rfl,rfl,hv,hH.below hb,fun p hp=>by simp at hp,fun i hi=>rfl⟩
theorem ol {l:List UInt8} {v:Value} (h:lK w l v):(Extern.Bytes.bytesOf v).run P w= .ok ⟨⟨l⟩⟩ w:=by
 rcases h with⟨rfl,rfl⟩|⟨b,off,n,cap,rfl,hn,hc⟩
 ·rfl
 ·have hl:=Lib.run_loadBytesX (P:=P) w (l.map fun c=>(c.toNat:Int)) ⟨b,off,none⟩ .empty (fun j z hj=>by
   have hj':j<l.length:=by have:=(List.getElem?_eq_some_iff.1 hj).1;simpa using this
   have e:(⟨b,off,none⟩:Addr).add j=⟨b,off+j,none⟩:=by unfold Addr.add;split<;>simp_all
   rw [e,hc j (by omega)];simp only [aJ,ab hj',bf,av.injEq]at hj;rw [aa,ab hj',bg,←hj])
  have e2:(⟨ByteArray.empty.data++(Lib.bytesOf (l.map fun c=>(c.toNat:Int))).toArray⟩:ByteArray)=⟨⟨l⟩⟩:=by
   apply ByteArray.ext;show(#[]:Array UInt8)++(Lib.bytesOf _).toArray=⟨l⟩
   have:Lib.bytesOf (l.map fun c=>(c.toNat:Int))=l:=by unfold Lib.bytesOf;rw [List.map_map];refine(cY (g:=id) fun c _=> ?_).trans (List.map_id _);simp
   rw [this];simp
  rw [aQ,e2]at hl;rw [hn];exact hl
theorem rg {a b:List UInt8} {u v:Value} (ha:lK w a u) (hb:lK w b v):(Extern.BytealgCompare.compare #[u,v]).run P w= .ok (.int .i64 (Lib.compareBytes a b)) w:=by change Sem.run P (do pure (goInt (Extern.BytealgCompare.cmp (←Extern.Bytes.bytesOf u) (←Extern.Bytes.bytesOf v)))) w=_;simp only [az,ol ha,ol hb,Result.andThen,aE,Lib.cmp_eq];rfl
end Go.Sy
