/- An engine that steps through Go code with symbolic values: sound by proof. No condition. -/
import Derived.Test.YtdafipacemgcoaaGreatDoorEb
open Array renaming getD → fK, getElem?_eq_some_iff → bW, getElem?_toList → cJ, length_toList → aO, replicate → dE
open Bool renaming and_eq_true → an, false_eq_true → aD, not_eq_true' → bY, not_true → lP, or_eq_true → b9
open List renaming Nodup → pe, all_eq_true → aM, any_eq_true → th, append_assoc → aZ, append_nil → bw, contains_eq_mem → dn, filter_cons → ip, filter_eq_self → dI, getD_eq_getElem?_getD → aa, getElem?_drop → bv, getElem?_eq_getElem → ab, getElem?_eq_none → kx, getElem?_map → aJ, getElem?_range → cy, getElem?_set → jN, getElem?_take → bM, getElem_mem → aT, length_append → ah, length_cons → ax, length_drop → aF, length_eq_zero_iff → bJ, length_map → aQ, length_take → ay, lookup → eG, map_congr_left → cX, map_cons → aL, map_nil → bS, mem_append → aj, mem_cons → ao, mem_cons_of_mem → aq, mem_cons_self → aA, mem_iff_getElem → lO, mem_map → aS, mem_map_of_mem → cW, mem_of_mem_drop → gU, mem_of_mem_take → bH, mem_range → dL, nil_append → bn, nodup_cons → dN, pairwise_append → dY, pairwise_cons → bR, pairwise_iff_getElem → io, range → cg, range' → jC, replicate → am
open Nat renaming add_mul → bO, add_zero → eO, le_max_left → pb, le_max_right → mH, lt_or_ge → bQ, min_eq_left → dr, mod_eq_of_lt → yw, mul_comm → dv, mul_le_mul_right → bB, succ_mul → dR
open Go.Op renaming bytesLess → cG
open Option renaming bind_some → cO, getD_some → bg, map_eq_some_iff → ai, map_some → bf, some → av
open Prod renaming fst → bt, mk → bh
open Go.Result renaming andThen_ok → al
open Go.Sem renaming run_bind → az, run_pure → aE
set_option linter.unusedVariables false
set_option linter.unusedSimpArgs false
set_option linter.unnecessarySimpa false
set_option linter.unusedSectionVars false
namespace Go.Sy
variable [ba]
variable {P : Program} {C : Ctx} {x : Sit} {s : St} {a : Act} {w : World}
theorem aI.purge (hM:aI C x s a w) (lo hi:Nat):aI C x (s.purge lo hi) a w:=by
 have hH:=hM.heap;refine⟨hM.tm.mono (fun _ _ _ h=>h) (fun _ _=>rfl) (fun _ _=>rfl),hM.defers,⟨hH.per,hH.g0,hH.gm,hH.new, ?_, ?_, ?_, ?_, ?_, ?_,hH.os,hH.tape,hH.output,hH.size,hH.ext,hH.pin,hH.lay⟩⟩
 ·intro p hp
  obtain⟨h1,o,h2,h3⟩:=cC hp;obtain⟨h4,h5⟩:=hH.obs _ h2;refine⟨?_,h5⟩;rw [h3];exact h4.of_heap rfl (fun _ _ _ h=>h) (fun _ _=>rfl) (fun _ _=>rfl) h1
 ·show((bC lo hi s.ob).map bt).Nodup
  rw [eU];exact hH.nd.filter _
 ·intro p hp q hq
  obtain⟨_,o,h2,_⟩:=cC hp;obtain⟨_,o',h3,_⟩:=cC hq;exact hH.inj (p.1,o) h2 (q.1,o') h3
 ·intro t ht;exact hH.tks t (br.1 ht).1
 ·intro t ht p hp
  obtain⟨_,o,h2,_⟩:=cC hp;exact hH.tko t (br.1 ht).1 (p.1,o) h2
 ·intro t ht u hu;exact hH.tkd t (br.1 ht).1 u (br.1 hu).1
theorem aI.forget:∀ {ds:List Nat} {s:St},aI C x s a w→aI C x (s.forget ds) a w
 |[],_,h=>h
 |d::r,s,h=>by simp only [St.forget];exact aI.forget (h.purge d (d+1))
theorem oy {n lo hi:Nat} (h:s.Fresh n∨(lo≤n∧n<hi)):(s.purge lo hi).Fresh n:=by
 refine⟨fun hn=> ?_,fun o ob ho=> ?_,fun hn=> ?_⟩
 ·obtain⟨h1,h2⟩:=mg hn
  exact h.elim (fun h=>h.tm h1) h2
 ·simp only [St.look,St.purge,gq]at ho
  split at ho<;>try (cases ho;done)
  rename_i hno;obtain⟨c,hc,rfl⟩:=ai.1 ho;refine⟨?_,fun hn=> ?_⟩
  ·rcases h with h|h
   ·exact(h.ob o c hc).1
   ·rintro rfl;exact hno h
  ·obtain⟨h1,h2⟩:=mf hn
   exact h.elim (fun h=>(h.ob o c hc).2 h1) h2
 ·obtain⟨h1,h2⟩:=br.1 hn
  exact h.elim (fun h=>h.tk h1) h2
theorem mm {n:Nat}:∀ {ds:List Nat} {s:St},s.Fresh n∨n∈ds→(s.forget ds).Fresh n
 |[],s,h=>h.elim id (by simp)
 |d::r,s,h=>by
  simp only [St.forget];apply mm;rcases h with h|h
  ·exact .inl (oy (.inl h))
  ·rcases ao.1 h with h|h
   ·subst h;exact .inl (oy (.inr (by omega)))
   ·exact .inr h
theorem TR {d:Option Nat} {so:SOp} {e:Eff} (h:eff s d so=some e) (hn:e.num d≠ []):Re so=true:=by
 cases so with
 |new o=>rfl
 |box p=>rfl
 |mk z b n c=>rfl
 |mkB n c=>rfl
 |app sz b p q=>rfl
 |store n p q=>
  exfalso;apply hn;simp only [eff]at h;split at h<;>try (cases h;done)
  cases hu:s.ev p with
  |ptr o off=>
   simp only [hu,ig]at h;split at h<;>try (cases h;done)
   ·cases h;rfl
   ·cases h;rfl
   ·split at h<;>first|(cases h;done)|(cases h;rfl)
  |ap o sz i j=>
   simp only [hu,ig]at h;split at h<;>try (cases h;done)
   ·cases h;rfl
   ·split at h<;>first|(cases h;done)|(cases h;rfl)
  |_=>simp [hu,ig]at h
 |cpy sz p q=>
  exfalso;apply hn;simp only [eff]at h;split at h<;>try (cases h;done)
  split at h<;>try (cases h;done)
  ·split at h<;>first|(cases h;done)|(cases h;rfl)
  ·split at h<;>first|(cases h;done)|(cases h;rfl)
 |pick _ _ _=>cases h
 |call _ _=>cases h
 |appM _ _ _ _=>cases h
 |isnil _ _=>cases h
 |_=>exfalso;apply hn;simp only [eff]at h;split at h<;>first|(cases h;done)|(cases h;rfl)
theorem DA {i:SI} {e:Eff} (h:eJ P i s (fun e'=>e'=e)):∀n∈e.num i.dst,Re i.op=true∧n=i.dst.getD 0+100:=by
 intro n hn;refine⟨?_,by unfold Eff.num at hn;split at hn<;>simp at hn<;>exact hn⟩;obtain⟨dst,g,op⟩:=i;have hne:e.num dst≠ []:=by intro h;simp only [h]at hn;cases hn
 by_cases hp:∃c q r,op= .pick c q r
 ·obtain⟨c,q,r,rfl⟩:=hp
  exfalso;apply hne;simp only [eJ]at h;split at h<;>try (exact h.elim)
  rename_i t ht;cases t with
  |true=>rw [←h.1 rfl];rfl
  |false=>rw [←h.2 rfl];rfl
 by_cases hc:∃f as,op= .call f as
 ·obtain⟨f,as,rfl⟩:=hc
  exfalso;apply hne;simp only [eJ]at h;split at h<;>try (exact h.elim)
  obtain⟨e',he,rfl⟩:=h;obtain⟨h1,h2,_⟩:=Ef he;unfold Eff.num;rw [h1,h2]
 have hE:eJ P ⟨dst,g,op⟩ s (fun e'=>e'=e)=(match eff s dst op with|some e'=>e'.pre∧e'=e|none=>False):=by
  cases op<;>first|rfl|(exfalso;exact hp ⟨_,_,_,rfl⟩)|(exfalso;exact hc ⟨_,_,rfl⟩)
 rw [hE]at h;split at h<;>try (exact h.elim)
 rename_i e' he;obtain⟨_,rfl⟩:=h;exact TR he hne
theorem pr {i:SI} {k:Eff→Prop} (h:eJ P i s k):∃e,eJ P i s (fun e'=>e'=e)∧k e:=by
 obtain⟨dst,g,op⟩:=i
 by_cases hp:∃c q r,op= .pick c q r
 ·obtain⟨c,q,r,rfl⟩:=hp
  simp only [eJ]at h ⊢;split at h<;>try (exact h.elim)
  rename_i t ht;cases t with
  |true=>exact⟨_,⟨fun _=>rfl,fun h=>(by cases h)⟩,h.1 rfl⟩
  |false=>exact⟨_,⟨(fun h=>(by cases h)),fun _=>rfl⟩,h.2 rfl⟩
 by_cases hc:∃f as,op= .call f as
 ·obtain⟨f,as,rfl⟩:=hc
  simp only [eJ]at h ⊢;split at h<;>try (exact h.elim)
  obtain⟨e,h1,h2⟩:=h;exact⟨e,⟨e,h1,rfl⟩,h2⟩
 have hE:∀k,eJ P ⟨dst,g,op⟩ s k=(match eff s dst op with|some e'=>e'.pre∧k e'|none=>False):=by intro k;cases op<;>first|rfl|(exfalso;exact hp ⟨_,_,_,rfl⟩)|(exfalso;exact hc ⟨_,_,rfl⟩)
 rw [hE]at h;split at h<;>try (exact h.elim)
 rename_i e' he;refine⟨e', ?_,h.2⟩;rw [hE,he];exact⟨h.1,rfl⟩
theorem r9 {d:Option Nat} {e:Eff} (h:(s.ob.map bt).Nodup):((s.app d e).ob.map bt).Nodup:=by
 have hput:∀(u:St) v,(u.put d v).ob=u.ob:=by intro u v;cases d<;>rfl
 unfold St.app;split
 ·rw [hput]
  simp only [St.addO,St.purge,aL,dN];rw [eU];exact⟨by simp,h.filter _⟩
 ·rw [hput]
  simp only [St.grew];rw [eU];exact h.filter _
 ·rw [hput,Qt];exact h
theorem rP {b:List Nat} {k:St→Prop}:∀ {l:List SI} {fs:List eN} {s:St},vcD P b l fs k s→(s.ob.map bt).Nodup→∃(its:List Itm) (t:St),its.map Itm.i=l∧its.map Itm.n=jC fs.length l.length∧
 (∀it∈its,∀n∈it.f.n,n∈sE l)∧((fs.reverse++its.map Itm.f).all eN.quiet||mE b (fs.reverse++its.map Itm.f))=true∧yr P its s t∧(t.ob.map bt).Nodup∧k t
 |[],fs,s,h,hnd=>by refine⟨[],s,rfl,by simp,by simp, ?_,Eqv.refl s,hnd,h.2⟩;simp only [bS,bw,List.all_reverse];exact h.1
 |i::r,fs,s,h,hnd=>by
  have go:∀o:Option Eff,iP P i o s→vcD P b r (dy s i o::fs) k (s.appO i.dst o)→((s.appO i.dst o).ob.map bt).Nodup→(∀n∈(dy s i o).n,n∈sE (i::r))→
   ∃(its:List Itm) (t:St),its.map Itm.i=i::r∧its.map Itm.n=jC fs.length (i::r).length∧
    (∀it∈its,∀n∈it.f.n,n∈sE (i::r))∧((fs.reverse++its.map Itm.f).all eN.quiet||mE b (fs.reverse++its.map Itm.f))=true∧yr P its s t∧(t.ob.map bt).Nodup∧k t:=by
   intro o h1 h2 h3 h4;obtain⟨its,t,e1,e2,e3,e4,e5,e6,e7⟩:=rP h2 h3;refine⟨⟨fs.length,i,o,dy s i o⟩::its,t,by simp [e1], ?_, ?_, ?_,⟨h1,rfl,e5⟩,e6,e7⟩
   ·simp only [aL,ax,e2];rfl
   ·intro it hit n hn
    rcases ao.1 hit with rfl|hit
    ·exact h4 n hn
    ·have:=e3 it hit n hn
     simp only [sE,List.filterMap_cons];split
     ·exact this
     ·exact aq _ this
   ·simpa [aZ]using e4
  have hd:∀e,eJ P i s (fun e'=>e'=e)→∀n∈(dy s i (some e)).n,n∈sE (i::r):=by intro e he n hn;obtain⟨h1,h2⟩:=DA he n (by rw [fS]at hn;exact hn);simp only [sE,List.filterMap_cons,h1,if_true];rw [h2];exact aA ..
  simp only [vcD]at h;split at h
  ·rename_i hg
   obtain⟨e,he,hk⟩:=pr h;exact go (some e) (by unfold iP;rw [hg];exact he) hk (r9 hnd) (hd e he)
  ·rename_i g want hg
   split at h<;>try (exact h.elim)
   rename_i t ht
   by_cases htw:t=want
   ·obtain⟨e,he,hk⟩:=pr (h.1 htw)
    exact go (some e) (by unfold iP;rw [hg];exact⟨by rw [ht,htw],he⟩) hk (r9 hnd) (hd e he)
   ·have htw':t= !want:=by cases t<;>cases want<;>simp at htw ⊢
    refine go none (by unfold iP;rw [hg];show s.get g=_;rw [ht,htw']) (h.2 htw') ?_ (by simp [dy,fA]);cases hdst:i.dst<;>exact hnd
theorem vt (hM:aI C x s a w) {o:Oper} {i:SI} (hr:bm P o=some i.op) (hdst:i.dst=o.dst) {e:Eff} (h:eJ P i s (fun e'=>e'=e)) {K:Act→World→Prop} {Q:Exit→Act→World→Prop}
 (hK:∀a w,qu C (fun s'=>s'=s.app i.dst e) a w→K a w):o.wp P a w K Q:=by
 obtain⟨dst,g,op⟩:=i;simp only at hr hdst hK;subst hdst
 by_cases hp:∃c q r,op= .pick c q r
 ·obtain⟨c,q,r,rfl⟩:=hp
  refine rT hM hr ?_ hK;simp only [eJ]at h;simp only [sym];split at h<;>try (exact h.elim)
  exact⟨fun e1=>by rw [←h.1 e1];rfl,fun e1=>by rw [←h.2 e1];rfl⟩
 by_cases hc:∃f as,op= .call f as
 ·obtain⟨f,as,rfl⟩:=hc
  refine rT hM hr ?_ hK;simp only [eJ]at h;simp only [sym];split at h<;>try (exact h.elim)
  obtain⟨e',he,rfl⟩:=h;exact .inl ⟨e',he,rfl⟩
 have hE:eJ P ⟨o.dst,g,op⟩ s (fun e'=>e'=e)=(match eff s o.dst op with|some e'=>e'.pre∧e'=e|none=>False):=by
  cases op<;>first|rfl|(exfalso;exact hp ⟨_,_,_,rfl⟩)|(exfalso;exact hc ⟨_,_,rfl⟩)
 rw [hE]at h;split at h<;>try (exact h.elim)
 rename_i e' he;obtain⟨h1,rfl⟩:=h;exact cA (k:=fun s'=>s'=s.app o.dst e') (tV hM hr he h1) rfl hK
theorem rU {i:SI} {F:Eff→Prop} (h:eJ P i s F):∀xs,i.op≠ .newB xs:=by obtain⟨d,g,op⟩:=i;rintro xs rfl;simp [eJ,eff,val]at h
theorem Fo (hM:aI C x s a w) {ops:Array Oper} {n:Nat} {o:Oper} {i:SI} (ho:ops[n]? =some o) (hr:fF P ops o=some i) {oe:Option Eff} (h:iP P i oe s) {K:Act→World→Prop} {Q:Exit→Act→World→Prop}
 (hK:∀a w,qu C (fun s'=>s'=s.appO i.dst oe) a w→K a w):wpOp P ops Q n K a w:=by
 obtain⟨h1,h2,h3⟩:=kT hr;unfold wpOp;rw [ho];simp only;unfold iP at h;rcases h3 with⟨hg,hog⟩|⟨j,b,g,hg,hog,hd⟩
 ·rw [hg]at h
  rw [iK hog,if_pos rfl];cases oe with
  |none=>exact h.elim
  |some e=>exact .inl (vt hM (h1.old (rU h)) h2 h hK)
 ·rw [hg]at h
  cases oe with
  |some e=>obtain⟨hlt,hv,hs⟩:=qN hM h.1;rw [kg hog hd hv,if_pos (by simp)];exact .inl (vt hM (h1.old (rU h.2)) h2 h.2 hK)
  |none=>obtain⟨hlt,hv,hs⟩:=qN hM h;rw [kg hog hd hv,if_neg (by cases b<;>simp)];refine hK _ _ ⟨x,_, ?_,rfl⟩;rw [←h2];exact hM.put i.dst (.undef _)
theorem pQ {ob:List (Nat×aB)} (h:(ob.map bt).Nodup) {p:Nat×aB} (hp:p∈ob):ob.lookup p.1=some p.2:=by
 induction ob with
 |nil=>cases hp
 |cons q r ih=>
  simp only [aL,dN]at h;rcases ao.1 hp with rfl|hp
  ·simp [eG]
  ·have:(p.1==q.1)=false:=by
    rw [beq_eq_false_iff_ne];intro e;apply h.1;rw [←e];exact cW hp
   simp only [eG,this];exact ih h.2 hp
theorem aI.eqv {t:St} (hM:aI C x s a w) (h:Eqv s t) (hn:(t.ob.map bt).Nodup):aI C x t a w:=by refine⟨h.tm ▸ hM.tm,hM.defers,hM.heap.only (fun p hp=> ?_) hn (fun n hn=>(h.tk n).2 hn)⟩;have:=pQ hn hp;exact cV ((h.ob p.1).trans this)
section
variable {ops : Array Oper} {l : List SI} {its : List Itm} {b : List Nat}
def left (its:List Itm) (listed:Array Bool):List Itm:=its.filter fun it=> !listed.getD it.n true
theorem iD {listed:Array Bool} {it:Itm}:it∈left its listed↔it∈its∧listed.getD it.n true=false:=by simp [left]
theorem rq {listed:Array Bool} {i:Nat} (hi:i<listed.size):(listed.setIfInBounds i true).getD i true=true:=by simp [fK,hi]
theorem fu {listed:Array Bool} {i j:Nat} (hi:i<listed.size):(listed.setIfInBounds i true).getD j true=if j=i then true else listed.getD j true:=by
 by_cases h:j=i
 ·subst h;rw [if_pos rfl];exact rq hi
 ·rw [if_neg h,getD_set_ne true (fun e=>h e.symm)]
theorem EA (hl:iZ (fF P ops) ops.toList=some l) (hi:its.map Itm.i=l) (hn:its.map Itm.n=jC 0 l.length)
 (hback:∀(i:Nat) (o:Oper),ops[i]? =some o→∀e∈o.after,Region.binds .any e=true→e.on<i)
 (hbit:∀(i:Nat) (o:Oper) (k:Nat),ops[i]? =some o→k<ops.size→(b.getD i 0).testBit k=true→∃e∈o.after,Region.binds .any e=true∧(e.on=k∨(b.getD e.on 0).testBit k=true))
 (hfree:∀p∈its,∀q∈its,p.n<q.n→(b.getD q.n 0).testBit p.n=false→xjv p q)
 (hrise:∀p∈its,∀q∈its,p.n<q.n→p.f.before q.f=true)
 {sN:St} {Q:Exit→Act→World→Prop} (hQ:∀x t a w,aI C x t a w→Eqv t sN→Q .normal a w):
 ∀(fuel:Nat) (listed:Array Bool) (x:Sit) (t:St) (a:Act) (w:World),(left its listed).length≤fuel→listed.size=ops.size→
  (∀(i:Nat) (o:Oper) (k:Nat),ops[i]? =some o→listed.getD i true=true→k<ops.size→(b.getD i 0).testBit k=true→listed.getD k true=true)→
  aI C x t a w→jo (left its listed) t→yr P (left its listed) t sN→wpAny P .any ops Q fuel listed a w:=by
 obtain⟨hlen,hget⟩:=ej hl;have hlen':its.length=ops.size:=by rw [←aO,←hlen,←hi,aQ]
 have hnth:∀(j:Nat) (h:j<its.length),its[j].n=j:=by
  intro j h;have h1:(its.map Itm.n)[j]? =some its[j].n:=by rw [aJ,ab h];rfl
  rw [hn,List.getElem?_range' (by rw [hlen,aO];omega)]at h1;simp at h1;omega
 have hex:∀j,j<ops.size→∃it∈its,it.n=j:=fun j hj=>⟨its[j]'(by omega),aT _,hnth j (by omega)⟩
 have hpw:its.Pairwise fun p q=>p.n<q.n:=by rw [io];intro i j hi' hj' hij;rw [hnth i hi',hnth j hj'];exact hij
 have hitem:∀it∈its,∃o,ops[it.n]? =some o∧fF P ops o=some it.i∧it.n<ops.size:=by
  intro it hit;obtain⟨j,hj,rfl⟩:=lO.1 hit;have hj2:j<ops.toList.length:=by rw [aO];omega
  refine⟨ops.toList[j],by rw [hnth j hj,←cJ,ab hj2], ?_,by rw [hnth j hj];omega⟩;have:=hget j hj2 (by omega);rw [this]
  congr 1
  subst hi;simp
 have hd2:∀(listed:Array Bool),listed.size=ops.size→∀k,k<ops.size→listed.getD k false=listed.getD k true:=by intro listed hs k hk;simp [fK,hs,hk]
 have done:∀(listed:Array Bool) (x:Sit) (t:St) (a:Act) (w:World),left its listed=[]→aI C x t a w→yr P (left its listed) t sN→Region.ready .any ops listed=[]∧Q .normal a w:=by
  intro listed x t a w h0 hM hrun;constructor
  ·rw [List.eq_nil_iff_forall_not_mem]
   intro j hj;obtain⟨h1,o,h2,h3⟩:=mem_ready.1 hj;have hj':j<ops.size:=(bW.1 h2).1;obtain⟨it,hit,rfl⟩:=hex j hj';have:it∈left its listed:=iD.2 ⟨hit,h1⟩;rw [h0]at this;cases this
  ·rw [h0]at hrun
   exact hQ x t a w hM hrun
 intro fuel;induction fuel with
 |zero=>intro listed x t a w hf hs hcl hM hN hrun;exact done listed x t a w (bJ.1 (by omega)) hM hrun
 |succ fuel ih=>
  intro listed x t a w hf hs hcl hM hN hrun;constructor
  ·intro hnil
   cases hc:left its listed with
   |nil=>exact(done listed x t a w hc hM hrun).2
   |cons it r=>
    exfalso;have hin:it∈left its listed:=by rw [hc];exact aA ..
    obtain⟨h1,h2⟩:=iD.1 hin;obtain⟨o,h3,_,h4⟩:=hitem it h1
    have:it.n∈Region.ready .any ops listed:=by
     refine mem_ready.2 ⟨h2,o,h3,fun e he hb=> ?_⟩;have hlt:=hback it.n o h3 e he hb;rw [hd2 listed hs _ (by omega)];rw [←Bool.not_eq_false];intro hfl;obtain⟨it',hit',hn'⟩:=hex e.on (by omega);have hin':it'∈left its listed:=iD.2 ⟨hit',by rw [hn'];exact hfl⟩;have hp:=(hpw.sublist (List.filter_sublist (p:=fun it=> !listed.getD it.n true)));change (left its listed).Pairwise _ at hp;rw [hc]at hp hin';rcases ao.1 hin' with rfl|hin'
     ·omega
     ·have:=(bR.1 hp).1 it' hin'
      omega
    rw [hnil]at this;cases this
  ·intro i hir
   obtain⟨h1,o,h2,h3⟩:=mem_ready.1 hir;have hi':i<ops.size:=(bW.1 h2).1;obtain⟨it,hit,rfl⟩:=hex i hi';have hin:it∈left its listed:=iD.2 ⟨hit,h1⟩;obtain⟨pre,post,hsp⟩:=List.append_of_mem hin;obtain⟨o',ho',hres,_⟩:=hitem it hit;have hp:(left its listed).Pairwise fun p q=>p.n<q.n:=hpw.sublist List.filter_sublist
   have hrising:Am (left its listed):=by refine List.Pairwise.imp_of_mem (fun {p q} hp1 hq1 hlt=> ?_) hp;exact hrise p (iD.1 hp1).1 q (iD.1 hq1).1 hlt
   have hpre:∀j∈pre,xjv j it:=by
    intro j hj;have hj':j∈left its listed:=by rw [hsp];exact aj.2 (.inl hj)
    obtain⟨h4,h5⟩:=iD.1 hj'
    have hlt:j.n<it.n:=by rw [hsp]at hp;exact(dY.1 hp).2.2 j hj it (aA ..)
    refine hfree j h4 it hit hlt ?_;rw [←Bool.not_eq_true];intro hb;obtain⟨e,he,hbd,hor⟩:=hbit it.n o j.n h2 (by omega) hb;have hon:=h3 e he hbd;have honlt:=hback it.n o h2 e he hbd;rw [hd2 listed hs _ (by omega)]at hon;rcases hor with h|h
    ·rw [h]at hon;rw [hon]at h5;cases h5
    ·have:=hcl e.on (ops[e.on]'(by omega)) j.n (by simp) hon (by omega) h
     rw [this]at h5;cases h5
   have hrun':=hrun;rw [hsp]at hrun' hN hrising;have hfr:=xek hpre hN hrising hrun';obtain⟨k1,k2,k3⟩:=hfr
   have hleft:left its (listed.setIfInBounds it.n true)=pre++post:=by
    have:left its (listed.setIfInBounds it.n true)=(left its listed).filter fun q=> !decide (q.n=it.n):=by
     simp only [left,List.filter_filter];apply List.filter_congr;intro q hq;rw [fu (by omega)]
     by_cases h:q.n=it.n<;>simp [h]
    rw [this,hsp];rw [hsp]at hp;have hp1:=dY.1 hp;rw [List.filter_append,ip];simp only [decide_true,lP,aD,if_false]
    congr 1
    ·apply dI.2
     intro q hq;have:=hp1.2.2 q hq it (aA ..);simp;omega
    ·apply dI.2
     intro q hq;have:=(bR.1 hp1.2.1).1 q hq;simp;omega
   refine Fo hM ho' hres k1 ?_;rintro a' w' ⟨x',s',hM',rfl⟩;refine ih _ x' _ a' w' ?_ ?_ ?_ hM' ?_ ?_
   ·rw [hleft]
    rw [hsp]at hf;simp only [ah,ax]at hf ⊢;omega
   ·simpa using hs
   ·intro i2 o2 k2' ho2 hl2 hk2 hb2
    rw [fu (by omega)]at hl2 ⊢;split
    ·rfl
    ·split at hl2
     ·rename_i e1
      subst e1;obtain⟨e,he,hbd,hor⟩:=hbit it.n o2 k2' ho2 hk2 hb2;rw [h2]at ho2;cases ho2;have hon:=h3 e he hbd;have honlt:=hback it.n o h2 e he hbd;rw [hd2 listed hs _ (by omega)]at hon;rcases hor with h|h
      ·rw [←h];exact hon
      ·exact hcl e.on (ops[e.on]'(by omega)) k2' (by simp) hon hk2 h
     ·exact hcl i2 o2 k2' ho2 hl2 hk2 hb2
   ·rw [hleft]
    intro q hq n hn;have hnum:∀k∈o7 it.i.dst it.o,t.Fresh k:=fun k hk=>hN it (by simp) k (by rw [←k2,fS];exact hk)
    have hb:n∉it.f.n∧n∉it.f.m:=by
     rcases aj.1 hq with hq|hq
     ·have hp:=(hpre q hq).pc.n1 n hn
      exact⟨hp.2.2.2.2,hp.2.2.2.1⟩
     ·have:=(dY.1 hrising).2.1
      exact kv ((bR.1 this).1 q hq) n hn
    rw [←k2]at hb;refine iB hnum (hN q ?_ n hn) hb.1 hb.2;rcases aj.1 hq with hq|hq
    ·exact aj.2 (.inl hq)
    ·exact aj.2 (.inr (aq _ hq))
   ·rw [hleft];exact k3
end
theorem vh {b:List Nat} {fs:List eN} (h:mE b fs=true) {i j:Nat} (hj:j<fs.length) (hij:i<j):
 (fs.getD i fA).before (fs.getD j fA)=true∧((b.getD j 0).testBit i=false→(fs.getD i fA).clash (fs.getD j fA)=false):=by
 unfold mE at h;rw [aM]at h;have h1:=h j (dL.2 hj);rw [aM]at h1;have h2:=h1 i (dL.2 hij);rw [an,b9]at h2;refine⟨h2.1,fun hb=> ?_⟩;rw [hb]at h2;simpa using h2.2
theorem xx {p q:eN} (hp:p.quiet=true) (hq:q.quiet=true):p.before q=true∧p.clash q=false:=by simp only [eN.quiet,an,List.isEmpty_iff]at hp hq;obtain⟨⟨h1,h2⟩,h3⟩:=hp;obtain⟨⟨h4,h5⟩,h6⟩:=hq;simp [eN.before,eN.clash,lW,h1,h2,h3,h4,h5,h6]
theorem x8 {id:Nat} {ops:Array Oper} {l:List SI} (hl:iZ (fF P ops) ops.toList=some l) (hd:drawn ops l=true) (hm:P.follows .mixedOrders=true) {k:St→Prop} {Q:Exit→Act→World→Prop} (hQ:∀a w,qu C k a w→Q .normal a w)
 (hM:aI C x s a w) (h:vcD P (Region.before ops).toList l [] k (s.forget (sE l))):(Code.region id ops true).wp P Q a w:=by
 have hM0:aI C x (s.forget (sE l)) a w:=hM.forget;obtain⟨its,sN,e1,e2,e3,e4,e5,e6,e7⟩:=rP h hM0.heap.nd;obtain⟨hlen,hget⟩:=ej hl;have hsz:its.length=l.length:=by rw [←e1,aQ]
 have hsz2:l.length=ops.size:=by rw [hlen,aO]
 simp only [drawn,an,decide_eq_true_eq]at hd;obtain⟨⟨hc,ht⟩,hdst⟩:=hd
 have hnth:∀p∈its,p.n<its.length∧its[p.n]? =some p:=by
  intro p hp;obtain⟨j,hj,rfl⟩:=lO.1 hp;have h1:(its.map Itm.n)[j]? =some its[j].n:=by rw [aJ,ab hj];rfl
  rw [e2,List.getElem?_range' (by omega)]at h1;simp at h1;have h2:its[j].n=j:=h1.symm;rw [h2];exact⟨hj,ab hj⟩
 have hfoot:∀p∈its,(its.map Itm.f).getD p.n fA=p.f:=by intro p hp;rw [aa,aJ,(hnth p hp).2];rfl
 have hinst:∀p∈its,l.getD p.n ⟨none,none,.lenC 0⟩=p.i:=by intro p hp;rw [←e1,aa,aJ,(hnth p hp).2];rfl
 simp only [List.reverse_nil,bn,b9]at e4
 have hpair:∀p∈its,∀q∈its,p.n<q.n→p.f.before q.f=true∧(((Region.before ops).toList.getD q.n 0).testBit p.n=false→p.f.clash q.f=false):=by
  intro p hp q hq hlt;rcases e4 with e4|e4
  ·rw [aM]at e4
   have:=xx (e4 p.f (cW hp)) (e4 q.f (cW hq));exact⟨this.1,fun _=>this.2⟩
  ·have:=vh e4 (i:=p.n) (j:=q.n) (by rw [aQ];exact(hnth q hq).1) hlt
   rw [hfoot p hp,hfoot q hq]at this;exact this
 have htemps:∀p∈its,∀q∈its,p.n≠q.n→((Region.before ops).toList.getD (max p.n q.n) 0).testBit (min p.n q.n)=false→∀d,p.i.dst=some d→d∉q.i.reads:=by
  intro p hp q hq hne hb d hd hr;unfold Aw at ht;rw [aM]at ht;have h1:=ht q.n (dL.2 (by rw [←hsz];exact(hnth q hq).1));rw [aM]at h1;have h2:=h1 p.n (dL.2 (by rw [←hsz];exact(hnth p hp).1));rw [hinst p hp,hinst q hq,hd,hb]at h2;simp only [b9,beq_iff_eq,bY,Bool.or_false]at h2;rcases h2 with h2|h2
  ·exact hne h2
  ·rw [dn]at h2
   simp only [decide_eq_false_iff_not]at h2;exact h2 hr
 have hdd:∀p∈its,∀q∈its,p.n<q.n→∀d,p.i.dst=some d→q.i.dst≠some d:=by
  intro p hp q hq hlt d h1 h2
  have hpl:l.Pairwise fun u v=>∀d,u.dst=some d→v.dst≠some d:=by rw [pe,List.pairwise_filterMap]at hdst;refine hdst.imp ?_;intro u v huv d hu hv;exact huv d hu d hv rfl
  rw [io]at hpl;have hp':=hnth p hp;have hq':=hnth q hq
  have g1:l[p.n]'(by omega)=p.i:=by have:=hinst p hp;rwa [aa,ab (by omega),bg]at this
  have g2:l[q.n]'(by omega)=q.i:=by have:=hinst q hq;rwa [aa,ab (by omega),bg]at this
  exact hpl p.n q.n (by omega) (by omega) hlt d (by rw [g1];exact h1) (by rw [g2];exact h2)
 have hclosed:∀(i:Nat) (o:Oper),ops[i]? =some o→(∀e∈o.after,Region.binds .any e=true→e.on<i)∧
  ∀k,k<ops.size→((Region.before ops).toList.getD i 0).testBit k=true→∃e∈o.after,Region.binds .any e=true∧(e.on=k∨((Region.before ops).toList.getD e.on 0).testBit k=true):=by
  intro i o ho;unfold mX at hc;rw [aM]at hc;have hi:i<ops.size:=(bW.1 ho).1
  have h1:=hc (o,i) (by rw [List.mem_zipIdx_iff_getElem?];simpa using ho)
  simp only [an,Array.all_eq_true_iff_forall_mem,aM,b9,bY,decide_eq_true_eq]at h1;refine⟨fun e he hb=>(h1.1 e he).resolve_left (by simp [hb]),fun k hk hb=> ?_⟩;have h2:=(h1.2 k (dL.2 hk)).resolve_left (by simp only [hb];simp);obtain⟨_,h3⟩:=h2;rw [←Array.any_toList,th]at h3;obtain⟨e,he,h4⟩:=h3;rw [Array.mem_toList_iff]at he;simp only [an,b9,beq_iff_eq]at h4;exact⟨e,he,h4.1,h4.2⟩
 refine wp_region_any hm ?_;have hM1:aI C x (s.forget (sE l)) a {w with drawn:=w.drawn+1}:=⟨hM0.tm,hM0.defers,hM0.heap.drawn _⟩
 have hleft:left its (dE ops.size false)=its:=by
  apply dI.2;intro p hp;have:=(hnth p hp).1;have h2:p.n<ops.size:=by omega
  simp [fK,h2]
 refine EA (its:=its) (b:=(Region.before ops).toList) (sN:=sN) hl e1 (by simpa using e2) (fun i o ho=>(hclosed i o ho).1) (fun i o k ho hk hb=>(hclosed i o ho).2 k hk hb) ?_ (fun p hp q hq hlt=>(hpair p hp q hq hlt).1) ?_ ops.size _ x _ a _ ?_ (by simp) ?_ hM1 ?_ ?_
 ·intro p hp q hq hlt hb
  refine⟨htemps p hp q hq (by omega) ?_,htemps q hq p hp (by omega) ?_,hdd p hp q hq hlt,xj9 ((hpair p hp q hq hlt).2 hb)⟩
  ·rw [Nat.max_eq_right (by omega),dr (by omega)];exact hb
  ·rw [Nat.max_eq_left (by omega),Nat.min_eq_right (by omega)];exact hb
 ·intro x t a w hM heq
  exact hQ a w ⟨x,sN,hM.eqv heq e6,e7⟩
 ·rw [hleft];omega
 ·intro i o k ho hl _ _
  have hi:i<ops.size:=(bW.1 ho).1;simp [fK,hi]at hl
 ·rw [hleft]
  intro it hit n hn;exact mm (.inr (e3 it hit n hn))
 ·rw [hleft];exact e5
end Go.Sy
namespace Go.Sy
variable [ba]
variable {P : Program} {C : Ctx} {x : Sit} {s : St} {a : Act} {w : World}
theorem xee (p:Nat→Prop) (h:∃n,p n):∃n,p n∧∀m,p m→n≤m:=by
 obtain⟨n,hn⟩:=h;induction n using Nat.strongRecOn with
 |_ n ih=>
  by_cases hex:∃m,m<n∧p m
  ·obtain⟨m,hm,hpm⟩:=hex;exact ih m hm hpm
  ·exact⟨n,hn,fun m hpm=>Nat.le_of_not_lt fun hlt=>hex ⟨m,hlt,hpm⟩⟩
def xw (P:Program) (s:St):List ResultVar→Option (Prop×List SV)
 |[]=>some (True,[])
 | .tmp t::r=>match xw P s r with
  |some (p,vs)=>some (p,s.get t::vs)
  |none=>none
 | .cell t ty::r=>match fp P ty,rm P ty,xw P s r with
  |some n,some ag,some (p,vs)=>match (if ag||n==1 then fM s n ag (s.get t)else none)with
   |some (q,v)=>some (q∧p,v::vs)
   |none=>none
  |_,_,_=>none
def jv:List SV→SV
 |[v]=>v
 |vs=> .tup vs
theorem rk (hM:aI C x s a w) {t:TypeId} {n:Nat} {ag:Bool} {u c:SV} {v:Value} {p:Prop} (hn:fp P t=some n) (hag:rm P t=some ag) (hu:Rep x u v) (h:(if ag||n==1 then fM s n ag u else none)=some (p,c)) (hp:p):
 ∃ad r,v= .pointer (some ad)∧(loadVar t ad).run P w= .ok r w∧Rep x c r:=by
 split at h<;>try (cases h;done)
 rename_i h1;obtain⟨b,off,cs,rfl,rfl,hc⟩:=mh hM hu h hp;obtain⟨r,hr,hrep⟩:=pN (P:=P) hc hn hag h1;exact⟨_,r,rfl,hr,hrep⟩
def UM (tmps:Array Value):ResultVar→Sem Value
 | .tmp t=>pure (tmps.getD t Go.undef)
 | .cell a t=>do loadVar t (←asAddr (tmps.getD a Go.undef))
theorem xu (fn:Func) (tmps:Array Value):results fn tmps=(do let vs←fn.results.mapM (UM tmps);pure (if h:vs.size=1 then vs[0]else .tuple vs)):=by
 unfold results
 congr 1
theorem rf (hM:aI C x s a w):∀ {rs:List ResultVar} {p:Prop} {vs:List SV},xw P s rs=some (p,vs)→p→
 ∃us,(rs.mapM (UM a.tmps)).run P w= .ok us w∧cn x vs us:=by
 intro rs;induction rs with
 |nil=>intro p vs h _;simp only [xw,av.injEq,bh.injEq]at h;obtain⟨_,rfl⟩:=h;exact⟨[],rfl,rfl,fun i hi=>by simp at hi⟩
 |cons r rs ih=>
  intro p vs h hp
  have cons:∀ {c:SV} {u:Value} {cs:List SV} {us:List Value},Rep x c u→cn x cs us→cn x (c::cs) (u::us):=by
   intro c u cs us h1 h2
   exact⟨by simp [h2.1],fun i hi=>by
    cases i with
    |zero=>exact h1
    |succ i=>simpa using h2.2 i (by simpa using hi)⟩
  cases r with
  |tmp t=>
   simp only [xw]at h;split at h<;>try (cases h;done)
   rename_i q vs' hq;simp only [av.injEq,bh.injEq]at h;obtain⟨rfl,rfl⟩:=h;obtain⟨us,hrun,hl⟩:=ih hq hp;refine⟨_, ?_,cons (hM.slot t) hl⟩;simp only [List.mapM_cons,UM,az,aE,al,hrun]
  |cell t ty=>
   simp only [xw]at h;split at h<;>try (cases h;done)
   rename_i n ag q vs' hn hag hq;split at h<;>try (cases h;done)
   rename_i q' v' hv;simp only [av.injEq,bh.injEq]at h;obtain⟨rfl,rfl⟩:=h;obtain⟨us,hrun,hl⟩:=ih hq hp.2;obtain⟨ad,r,hadr,hlr,hrep⟩:=rk hM hn hag (hM.slot t) hv hp.1;refine⟨_, ?_,cons hrep hl⟩;have hA:(asAddr (a.tmps.getD t Go.undef)).run P w= .ok ad w:=by rw [hadr];rfl
   simp only [List.mapM_cons,UM,az,hA,aE,al,hlr,hrun]
end Go.Sy
namespace Go.Sy
variable [ba]
variable {P : Program}
end Go.Sy
namespace Go.Sy
variable [ba]
variable {P : Program} {C : Ctx} {x : Sit} {s : St} {a : Act} {w : World}
def leT (t:Nat) (a b:SV):Prop:=∀(x:Sit) (v:Value),Rep x a v→Rep (x.newT t 0 0 0) b v
theorem leT.keep (t:Nat) (a:SV):leT t a (a.purge t (t+1)):=fun x v h=>h.mono (x:=x) (x':=x.newT t 0 0 0) (lo:=t) (hi:=t+1) (fun _ _ _ h=>h) (fun _ _=>rfl) (Sit.newT_ne x t 0 0 0)
theorem leT.le {t:Nat} {a b:SV} (h:rD a b) (hi:t∉b.ids) (ht:t∉b.toks):leT t a b:=fun x v hv=>by have:=leT.keep t b x v (h x v hv);rwa [pE b hi ht]at this
theorem leT.undef (t:Nat) (a:SV):leT t a .undef:=fun _ v _=> .undef v
theorem leT.lst (t sz:Nat) (xs:List (List SV)):leT t (.lst sz xs .clip) (.lst sz xs (.id t)):=fun x v hv=>by obtain⟨b,cap,he,_,hD,hsp⟩:=hv.lst_inv;obtain⟨a',n',he'⟩:=hsp;exact .dat _ _ (hD.tok (.lst sz xs (.id t)) (.inr ⟨sz,xs,_,_,rfl,rfl⟩)) ⟨a',n',n',he',.inl rfl⟩
theorem leT.byt (t:Nat) (l:List UInt8):leT t (.byt l .clip) (.byt l (.id t)):=fun x v hv=>by obtain⟨b,cap,he,_,hD,hsp⟩:=hv.byt_inv;obtain⟨a',n',he'⟩:=hsp;exact .dat _ _ (hD.tok (.byt l (.id t)) (.inl ⟨l,_,_,rfl,rfl⟩)) ⟨a',n',n',he',.inl rfl⟩
def leP (o sz:Nat) (xs:List (List SV)) (a b:SV):Prop:=∀(x x':Sit) (v:Value),x'.β=x.β→x'.τ=x.τ→(∀b i u,x.G b i=some u→x'.G b i=some u)→
 (∀k,k<xs.length*sz→∃u,x'.G (x.β o) k=some u∧cR x'.G ((xs.getD (k/sz) []).getD (k % sz) .undef) u)→Rep x a v→Rep x' b v
theorem leP.le {o sz:Nat} {xs:List (List SV)} {a b:SV} (h:rD a b):leP o sz xs a b:=fun x x' v hβ hτ hG _ hv=>(h x v hv).grow hG hβ hτ
theorem leP.undef (o sz:Nat) (xs:List (List SV)) (a:SV):leP o sz xs a .undef:=fun _ _ v _ _ _ _ _=> .undef v
theorem leP.psl {o sz off n:Nat} {cap:Option Nat} {xs:List (List SV)} (hb:off+n≤xs.length) (hrows:∀y∈xs,y.length=sz):leP o sz xs (.psl o sz off n cap) (.lst sz ((xs.drop off).take n) .no):=by
 intro x x' v hβ hτ hG hc hv;obtain⟨cap,hnc,_,off',he,hoff⟩:=hv.psl_inv;rw [he];have hlen:((xs.drop off).take n).length=n:=by simp;omega
 refine .dat _ _ ?_ trivial
 by_cases hn:n=0
 ·subst hn
  refine .lst _ _ _ _ _ _ _ (fun _ _=>Go.undef) hlen.symm hnc (fun i hi=>by omega) (fun i j hi=>by omega) (fun i j hi=>by omega)
 ·have hoff':off'=off*sz:=by omega
  have hrow:∀i,i<n→(((xs.drop off).take n).getD i [])=xs.getD (off+i) []:=fun i hi=>by simp only [aa,bM,if_pos hi,bv]
  have hl:∀i,i<n→(xs.getD (off+i) []).length=sz:=fun i hi=>by rw [aa,ab (by omega)];exact hrows _ (aT _)
  have hk:∀i j,i<n→j<sz→off*sz+i*sz+j<xs.length*sz:=fun i j hi hj=>by have:=bB sz (show off+i+1≤xs.length by omega);simp only [bO,Nat.one_mul]at this;omega
  have hdm:∀i j,j<sz→(off*sz+i*sz+j)/sz=off+i∧(off*sz+i*sz+j) % sz=j:=fun i j hj=>by rw [←bO,dv,Nat.mul_add_div (by omega),Nat.div_eq_of_lt hj,eO];exact⟨rfl,by rw [Nat.mul_add_mod,yw hj]⟩
  refine .lst _ _ _ _ _ _ _ (fun i j=>(x'.G (x.β o) (off*sz+i*sz+j)).getD Go.undef) hlen.symm hnc (fun i hi=>by rw [hrow i hi];exact hl i hi) (fun i j hi hj=> ?_) (fun i j hi hj=> ?_)
  ·obtain⟨u,hu,_⟩:=hc _ (hk i j hi hj)
   rw [hoff',hu];rfl
  ·obtain⟨u,hu,hr⟩:=hc _ (hk i j hi hj)
   rw [hu,hrow i hi];rw [(hdm i j hj).1,(hdm i j hj).2]at hr;exact hr
end Go.Sy
namespace Go.Sy
variable [ba]
structure CSt where
 tm:List (Nat×SV)
 ob:List (Nat×aB)
 tk:List Nat
def eD:List (Nat×SV)→Nat→SV
 |[],_=> .undef
 |p::r,n=>if p.1=n then p.2 else eD r n
def jH:List (Nat×SV)→Nat→SV→List (Nat×SV)
 |[],n,v=> [(n,v)]
 |p::r,n,v=>if n<p.1 then(n,v)::p::r else if n=p.1 then(n,v)::r else p::jH r n v
def wv:List (Nat×SV)→List Nat→List (Nat×SV)
 |[],_=> []
 |p::r,l=>if l.contains p.1 then wv r l else p::wv r l
def iU:List (Nat×aB)→Nat→Option aB
 |[],_=>none
 |p::r,n=>if p.1=n then some p.2 else iU r n
def jb:List (Nat×aB)→Nat→aB→List (Nat×aB)
 |[],n,v=> [(n,v)]
 |p::r,n,v=>if n<p.1 then(n,v)::p::r else if n=p.1 then(n,v)::r else p::jb r n v
def xjb:List (Nat×aB)→Nat→List (Nat×aB)
 |[],_=> []
 |p::r,n=>if p.1=n then xjb r n else p::xjb r n
def ng:List Nat→Nat→List Nat
 |[],n=> [n]
 |p::r,n=>if n<p then n::p::r else if n=p then p::r else p::ng r n
def dA (lo hi:Nat):List (Nat×SV)→List (Nat×SV)
 |[]=> []
 |p::r=>(p.1,p.2.purge lo hi)::dA lo hi r
def CSt.get (c:CSt) (n:Nat):SV:=eD c.tm n
def CSt.ev (c:CSt):Arg→SV
 | .t n=>c.get n
 | .c v=>v
 | .f g=> .fn g [] []
def evL (c:CSt):List Arg→List SV
 |[]=> []
 |a::r=>c.ev a::evL c r
def CSt.put (c:CSt) (d:Option Nat) (v:SV):CSt:=
 match d with
 |some d=>⟨jH c.tm d v,c.ob,c.tk⟩
 |none=>c
def CSt.look (c:CSt) (o:Nat):Option aB:=iU c.ob o
def CSt.purge (c:CSt) (lo hi:Nat):CSt:=⟨dA lo hi c.tm,bC lo hi c.ob,cK lo hi c.tk⟩
def CSt.kill (c:CSt) (l:List Nat):CSt:=
 match l with
 |[]=>c
 |l=>⟨wv c.tm l,c.ob,c.tk⟩
def gd {α:Type} (p:Prop) [Decidable p] (v:α):Option α:=if p then some v else none
def xU (op:BinOp) (k:IntKind) (a b:Int):Option SV:=
 match op with
 | .add=>some (.int k (k.wrap (a+b)))
 | .sub=>some (.int k (k.wrap (a-b)))
 | .mul=>some (.int k (k.wrap (a*b)))
 | .quo=>gd (b≠0) (.int k (k.wrap (a.tdiv b)))
 | .rem=>gd (b≠0) (.int k (a.tmod b))
 | .and=>some (.int k (bp .and k a b))
 | .or=>some (.int k (bp .or k a b))
 | .xor=>some (.int k (bp .xor k a b))
 | .andNot=>some (.int k (bp .andNot k a b))
 | .shl=>gd (0≤b) (.int k (k.wrap (a*2^(min b.toNat k.bits))))
 | .shr=>gd (0≤b) (.int k (a.fdiv (2^(min b.toNat k.bits))))
 | .eql=>some (.bool (decide (a=b)))
 | .neq=>some (.bool (decide (a≠b)))
 | .lss=>some (.bool (decide (a<b)))
 | .leq=>some (.bool (decide (a≤b)))
 | .gtr=>some (.bool (decide (b<a)))
 | .geq=>some (.bool (decide (b≤a)))
def yA (op:BinOp) (a b:UInt8):Option SV:=
 match op with
 | .add=>some (.u8 (a+b))
 | .sub=>some (.u8 (a-b))
 | .mul=>some (.u8 (a*b))
 | .quo=>gd (b≠0) (.u8 (a/b))
 | .rem=>gd (b≠0) (.u8 (a % b))
 | .and=>some (.u8 (a&&&b))
 | .or=>some (.u8 (a|||b))
 | .xor=>some (.u8 (a^^^b))
 | .andNot=>some (.u8 (a&&& ~~~b))
 | .eql=>some (.bool (decide (a=b)))
 | .neq=>some (.bool (decide (a≠b)))
 | .lss=>some (.bool (decide (a<b)))
 | .leq=>some (.bool (decide (a≤b)))
 | .gtr=>some (.bool (decide (b<a)))
 | .geq=>some (.bool (decide (b≤a)))
 |_=>none
def QP (op:BinOp) (a b:List UInt8):Option SV:=
 match op with
 | .add=>gd (a.length+b.length≤9223372036854775807) (.str (a++b))
 | .eql=>some (.bool (decide (a=b)))
 | .neq=>some (.bool (decide (a≠b)))
 | .lss=>some (.bool (cG a b))
 | .leq=>some (.bool (cG a b||decide (a=b)))
 | .gtr=>some (.bool (!(cG a b||decide (a=b))))
 | .geq=>some (.bool (!cG a b))
 |_=>none
def nm:BinOp→Bool
 | .shl| .shr=>true
 |_=>false
def Db (op:BinOp):SV→SV→Option SV
 | .int k a,.int k' b=>if nm op=true∨k=k' then xU op k a b else none
 | .u8 a,.u8 b=>yA op a b
 | .str a,.str b=>QP op a b
 |_,_=>none
def lY (c:CSt) (n:Nat) (ag:Bool):SV→Option SV
 | .pp cs=>gd (n≤cs.length) (dC ag n (cs.map SV.data))
 | .ptr o off=>match c.look o with
  |some (.rc cs)=>gd (off+n≤cs.length) (dC ag n (cs.drop off))
  |some (.arr _ xs)=>gd (off=0∧n≤xs.flatten.length) (dC ag n (xs.flatten.map SV.data))
  |some (.bar l)=>gd (off=0∧n≤l.length) (dC ag n (l.map .u8))
  |none=>none
 | .ap o sz i j=>match c.look o with
  |some (.arr sz' xs)=>gd (sz=sz'∧i<xs.length∧j+n≤sz) (dC ag n (((xs.getD i []).drop j).map SV.data))
  |some (.bar l)=>gd (sz=1∧j=0∧n=1∧i<l.length) (dC ag n [.u8 (l.getD i 0)])
  |_=>none
 |_=>none
def kC (c:CSt) (x:Option Arg) (dflt:Int):Option Int:=
 match x with
 |none=>some dflt
 |some a=>(c.ev a).num
def og (c:CSt) (sz:Nat) (x:SV) (lo hi mx:Option Arg):Option SV:=
 match x with
 | .byt l t=>
  match kC c lo 0,kC c hi l.length,kC c mx l.length with
  |some a,some b,some m=>gd (0≤a∧a≤b∧b≤m∧m≤l.length∧sz=1∧(mx.isSome=true→b=m)) (.byt ((l.take b.toNat).drop a.toNat) (mr t hi.isNone mx.isSome))
  |_,_,_=>none
 | .lst sz' l t=>
  match kC c lo 0,kC c hi l.length,kC c mx l.length with
  |some a,some b,some m=>gd (0≤a∧a≤b∧b≤m∧m≤l.length∧sz=sz'∧(mx.isSome=true→b=m)) (.lst sz ((l.take b.toNat).drop a.toNat) (mr t hi.isNone mx.isSome))
  |_,_,_=>none
 | .psl o sz' off n none=>
  match kC c lo 0,kC c hi n,mx with
  |some a,some b,none=>gd (0≤a∧a≤b∧b≤n∧sz=sz') (.psl o sz (off+a.toNat) (b.toNat-a.toNat) none)
  |_,_,_=>none
 | .psl o sz' off n (some cap)=>
  match kC c lo 0,kC c hi n,kC c mx cap with
  |some a,some b,some m=>gd (0≤a∧a≤b∧b≤m∧m≤cap∧sz=sz') (.psl o sz (off+a.toNat) (b.toNat-a.toNat) (some (m.toNat-a.toNat)))
  |_,_,_=>none
 |_=>none
def eW (c:CSt):SV→Option (List UInt8)
 | .byt l _=>some l
 | .str l=>some l
 | .psl o sz off n _=>match c.look o with
  |some (.bar l)=>gd (sz=1∧off+n≤l.length) ((l.drop off).take n)
  |_=>none
 |_=>none
def i6 (c:CSt) (sz:Nat):SV→Option (List (List SV))
 | .lst sz' xs _=>gd (sz=sz') xs
 | .psl o sz' off n _=>match c.look o with
  |some (.arr sz'' xs)=>gd (sz=sz'∧sz=sz''∧off+n≤xs.length) ((xs.drop off).take n)
  |_=>none
 |_=>none
def psC (c:CSt):List (Nat×Nat×Arg)→List (Nat×Nat×SV)
 |[]=> []
 |(o,n,x)::r=>(o,n,c.ev x)::psC c r
def iI (t:Bool) (a b:SV):SV:=if t=true then a else b
def cD (c:CSt):SOp→Option SV
 | .mov x=>some (c.ev x)
 | .build z ps=>(ii z (psC c ps)).map .agg
 | .lit sz xs=>(rows sz (evL c xs)).map fun r=> .lst sz r .clip
 | .litB xs=>(toB (evL c xs)).map fun r=> .byt r .clip
 | .load n ag a=>lY c n ag (c.ev a)
 | .nchk x=>match c.ev x with
  | .ptr o off=>some (.ptr o off)
  | .ap o sz i j=>some (.ap o sz i j)
  | .pp cs=>some (.pp cs)
  | .fn f a b=>some (.fn f a b)
  |_=>none
 | .bin op x y=>Db op (c.ev x) (c.ev y)
 | .beq ne x y=>match c.ev x,c.ev y with
  | .bool a,.bool b=>some (.bool (if ne then decide (a≠b)else decide (a=b)))
  |_,_=>none
 | .eqS ne ts x y=>match c.ev x,c.ev y with
  | .agg cs,.agg ds=>(gO ts cs ds).map fun b=> .bool (if ne then !b else b)
  |_,_=>none
 | .un op x=>vo op (c.ev x)
 | .toInt k x=>gI k (c.ev x)
 | .toStr x=>match c.ev x with| .str l=>some (.str l)|_=>none
 | .slid _=>none
 | .newB _=>none
 | .isni ne x=>match c.ev x with| .nili=>some (.bool (!ne))|_=>none
 | .s2b x=>match c.ev x with| .str l=>some (.byt l .no)|_=>none
 | .b2s x=>match c.ev x with
  | .str _=>none
  |v=>(eW c v).map .str
 | .mkfn f a b=>some (.fn f (evL c a) (evL c b))
 | .slcS x lo hi=>match c.ev x with
  | .str l=>match kC c lo 0,kC c hi l.length with
   |some a,some b=>gd (0≤a∧a≤b∧b≤l.length) (.str ((l.take b.toNat).drop a.toNat))
   |_,_=>none
  |_=>none
 | .slcL sz x lo hi mx=>og c sz (c.ev x) lo hi mx
 | .slcA len sz x lo hi mx=>match c.ev x with
  | .ptr o off=>if off=0 then og c sz (.psl o sz 0 len (some len)) lo hi mx else none
  |_=>none
 | .faddr off x=>match c.ev x with
  | .ptr o k=>some (.ptr o (k+off))
  | .ap o sz i j=>some (.ap o sz i (j+off))
  | .pp cs=>some (.pp (cs.drop off))
  |_=>none
 | .fld off n ag x=>match c.ev x with
  | .agg cs=>gd (off+n≤cs.length) (dC ag n (cs.drop off))
  |_=>none
 | .iaddrL sz x i=>match c.ev x,(c.ev i).num with
  | .byt l _,some n=>gd (0≤n∧n<l.length∧sz=1) (.pp [.u8 (l.getD n.toNat 0)])
  | .lst sz' xs _,some n=>gd (0≤n∧n<xs.length∧sz=sz') (.pp (xs.getD n.toNat []))
  | .psl o sz' off k _,some n=>gd (0≤n∧n<k∧sz=sz') (.ap o sz (off+n.toNat) 0)
  |_,_=>none
 | .iaddrA len sz x i=>match c.ev x,(c.ev i).num with
  | .ptr o off,some n=>match c.look o with
   |some (.rc _)=>gd (0≤n∧n<len) (.ptr o (off+n.toNat*sz))
   |some _=>gd (off=0∧0≤n∧n<len) (.ap o sz n.toNat 0)
   |none=>none
  | .pp cs,some n=>gd (0≤n∧n<len∧cs.length=len*sz) (.pp (cs.drop (n.toNat*sz)))
  |_,_=>none
 | .idxA len sz ag x i=>match c.ev x,(c.ev i).num with
  | .agg cs,some n=>gd (0≤n∧n<len∧cs.length=len*sz) (dC ag sz (cs.drop (n.toNat*sz)))
  |_,_=>none
 | .idxS x i=>match c.ev x,(c.ev i).num with
  | .str l,some n=>gd (0≤n∧n<l.length) (.u8 (l.getD n.toNat 0))
  |_,_=>none
 | .ext x i=>match c.ev x with
  | .tup vs=>gd (i<vs.length) (vs.getD i .undef)
  |_=>none
 | .len b x=>(jz b (c.ev x)).map fun n=> .int .i64 (n:Nat)
 | .lenC n=>some (.int .i64 n)
 | .cap x=>match c.ev x with
  | .psl _ _ _ _ (some m)=>some (.int .i64 m)
  | .byt l t=>if t= .clip then some (.int .i64 l.length)else none
  | .lst _ xs t=>if t= .clip then some (.int .i64 xs.length)else none
  |_=>none
 | .mini x y=>match c.ev x,c.ev y with
  | .int k a,.int k' b=>if k=k' then some (.int k (if b<a then b else a))else none
  |_,_=>none
 | .maxi x y=>match c.ev x,c.ev y with
  | .int k a,.int k' b=>if k=k' then some (.int k (if a<b then b else a))else none
  |_,_=>none
 |_=>none
structure fD where
 val:SV
 wr:List (Nat×aB):=[]
 new:Option aB:=none
 eat:Tok:= .no
 tok:Bool:=false
def Arg.isT:Arg→Bool
 | .t _=>true
 |_=>false
def aB.wf:aB→Bool
 | .arr sz xs=>xs.all fun x=>decide (x.length=sz)
 |_=>true
def jQ (c:CSt) (n:Nat) (v:List SV):SV→Option fD
 | .ptr o off=>match c.look o with
  |some (.rc cs)=>gd (off+n≤cs.length∧v.length=n∧v.all SV.one=true) {val:= .undef,wr:=[(o,.rc (gK cs off v))]}
  |some (.arr sz xs)=>gd (off=0∧n=xs.length*sz∧v.length=n∧v.all SV.isData=true) {val:= .undef,wr:=[(o,.arr sz (jB sz xs.length (v.map SV.data)))]}
  |some (.bar l)=>match toB v with
   |some l'=>gd (off=0∧n=l.length∧l'.length=n) {val:= .undef,wr:=[(o,.bar l')]}
   |none=>none
  |_=>none
 | .ap o sz i j=>match c.look o with
  |some (.arr sz' xs)=>gd (sz=sz'∧i<xs.length∧j+n≤sz∧v.length=n∧v.all SV.isData=true) {val:= .undef,wr:=[(o,.arr sz' (fy sz xs i j n (v.map SV.data)))]}
  |some (.bar l)=>match v with
   |[.u8 b]=>gd (sz=1∧j=0∧n=1∧i<l.length) {val:= .undef,wr:=[(o,.bar (l.set i b))]}
   |_=>none
  |_=>none
 |_=>none
def Tok.readyC (c:CSt):Tok→Bool
 | .no=>false
 | .clip=>true
 | .id t=>c.tk.contains t
def dJ (c:CSt) (d:Option Nat):SOp→Option fD
 | .new o=>match d with
  |some d=>gd (o.wf=true) {val:= .ptr (d+100) 0,new:=some o}
  |none=>none
 | .box x=>match d with
  |some d=>some {val:= .ptr (d+100) 0,new:=some (.rc (c.ev x).cells)}
  |none=>none
 | .mk z bytes n m=>match d,c.ev n,c.ev m with
  |some d,.int _ n,.int _ m=>gd (0≤n∧n≤m∧bytes*m≤140737488355328∧m≤9223372036854775807) {val:= .psl (d+100) z.length 0 n.toNat (some m.toNat),new:=some (.arr z.length (am m.toNat z))}
  |_,_,_=>none
 | .mkB n m=>match d,c.ev n,c.ev m with
  |some d,.int _ n,.int _ m=>gd (0≤n∧n≤m∧m≤140737488355328) {val:= .psl (d+100) 1 0 n.toNat (some m.toNat),new:=some (.bar (am m.toNat 0))}
  |_,_,_=>none
 | .store n a x=>if(c.ev x).isDef=true then jQ c n (c.ev x).cells (c.ev a)else none
 | .app z bytes x y=>match d with
  |some d=>match c.ev x with
   | .byt l t=>(eW c (c.ev y)).bind fun l'=>gd (z.length=1∧bytes=1∧t.readyC c=true∧l.length+l'.length≤140737488355328) {val:= .byt (l++l') (.id (d+100)),eat:=t,tok:=true}
   | .lst sz' l t=>(i6 c z.length (c.ev y)).bind fun l'=>gd (z.length=sz'∧t.readyC c=true∧(l.length+l'.length)*bytes≤140737488355328) {val:= .lst z.length (l++l') (.id (d+100)),eat:=t,tok:=true}
   |_=>none
  |none=>none
 | .cpy sz x y=>match c.ev x with
  | .psl o sz' off n _=>match c.look o with
   |some (.bar l)=>(eW c (c.ev y)).bind fun l'=>gd (sz=1∧sz'=1∧off+n≤l.length) {val:= .int .i64 (min l'.length n:Nat),wr:=[(o,.bar (l.take off++l'.take n++l.drop (off+(l'.take n).length)))]}
   |some (.arr sz'' xs)=>(i6 c sz (c.ev y)).bind fun l'=>gd (y.isT=true∧sz=sz'∧sz=sz''∧off+n≤xs.length) {val:= .int .i64 (min l'.length n:Nat),wr:=[(o,.arr sz (xs.take off++l'.take n++xs.drop (off+(l'.take n).length)))]}
   |_=>none
  |_=>none
 | .pick k a b=>match c.ev k with
  | .bool t=>some {val:=iI t (c.ev a) (c.ev b)}
  |_=>none
 | .call _ _=>none
 | .isnil ne x=>match c.ev x with
  | .byt l _=>gd (l≠ []) {val:= .bool ne}
  | .lst _ xs _=>gd (xs≠ []) {val:= .bool ne}
  | .psl _ _ _ _ _=>some {val:= .bool ne}
  |_=>none
 |so=>match cD c so with
  |some v=>some {val:=v}
  |none=>none
def CSt.wr (c:CSt):List (Nat×aB)→CSt
 |[]=>c
 |p::r=>CSt.wr ⟨c.tm,jb c.ob p.1 p.2,c.tk⟩ r
def CSt.app (c:CSt) (d:Option Nat) (e:fD):CSt:=
 match e.new,e.tok with
 |some o,_=>CSt.put ⟨dA (d.getD 0+100) (d.getD 0+101) c.tm,jb (bC (d.getD 0+100) (d.getD 0+101) c.ob) (d.getD 0+100) (o.purge (d.getD 0+100) (d.getD 0+101)),cK (d.getD 0+100) (d.getD 0+101) c.tk⟩ d e.val
 |none,true=>CSt.put ⟨dA (d.getD 0+100) (d.getD 0+101) c.tm,bC (d.getD 0+100) (d.getD 0+101) c.ob,ng (cK (d.getD 0+100) (d.getD 0+101) (e.eat.eat c.tk)) (d.getD 0+100)⟩ d e.val
 |none,false=>(c.wr e.wr).put d e.val
end Go.Sy
namespace Go.Sy
variable [ba]
mutual
def SV.bare:SV→SV
 | .byt l _=> .byt l .no
 | .lst sz xs _=> .lst sz xs .no
 | .agg cs=> .agg (SV.bareL cs)
 | .tup cs=> .tup (SV.bareL cs)
 | .fn f a b=> .fn f (SV.bareL a) (SV.bareL b)
 |v=>v
def SV.bareL:List SV→List SV
 |[]=> []
 |v::r=>v.bare::SV.bareL r
end
def xy (obj:aB) (sz off n:Nat) (cap:Option Nat):SV:=
 match obj with
 | .arr sz' xs=>if sz'=sz∧off+n≤xs.length then .lst sz ((xs.drop off).take n) (if cap=some n then .clip else .no)else .undef
 | .bar l=>if sz=1∧off+n≤l.length then .byt ((l.drop off).take n) (if cap=some n then .clip else .no)else .undef
 | .rc _=> .undef
mutual
def SV.pub (o:Nat) (obj:aB):SV→SV
 | .psl o' sz off n cap=>if o'=o then xy obj sz off n cap else .psl o' sz off n cap
 | .ptr o' off=>if o'=o then .undef else .ptr o' off
 | .ap o' sz i j=>if o'=o then .undef else .ap o' sz i j
 | .agg cs=> .agg (SV.pubL o obj cs)
 | .tup cs=> .tup (SV.pubL o obj cs)
 | .fn f a b=> .fn f (SV.pubL o obj a) (SV.pubL o obj b)
 |v=>v
def SV.pubL (o:Nat) (obj:aB):List SV→List SV
 |[]=> []
 |v::r=>v.pub o obj::SV.pubL o obj r
end
def me (o:Nat) (obj:aB):List (Nat×SV)→List (Nat×SV)
 |[]=> []
 |p::r=>(p.1,p.2.pub o obj)::me o obj r
def oN (o:Nat) (obj:aB):aB→aB
 | .rc cs=> .rc (SV.pubL o obj cs)
 |ob=>ob
def lw (o:Nat) (obj:aB):List (Nat×aB)→List (Nat×aB)
 |[]=> []
 |p::r=>if p.1=o then lw o obj r else(p.1,oN o obj p.2)::lw o obj r
def CSt.publish (c:CSt) (o:Nat) (vs:List SV):CSt×List SV:=
 match c.look o with
 |some (.arr sz xs)=>(⟨me o (.arr sz xs) c.tm,lw o (.arr sz xs) c.ob,c.tk⟩,SV.pubL o (.arr sz xs) vs)
 |some (.bar l)=>(⟨me o (.bar l) c.tm,lw o (.bar l) c.ob,c.tk⟩,SV.pubL o (.bar l) vs)
 |_=>(c,vs)
def gV:SV→List Nat
 | .psl o _ _ _ _=> [o]
 |_=> []
def uv:List SV→List Nat
 |[]=> []
 |v::r=>gV v++uv r
def m9 (raw:List Nat) (i:Nat):SV→List Nat
 | .psl o _ _ _ _=>if raw.contains i=true then []else [o]
 | .agg cs=>if raw.contains i=true then []else uv cs
 |_=> []
def i5 (raw:List Nat):Nat→List SV→List Nat
 |_,[]=> []
 |i,v::r=>m9 raw i v++i5 raw (i+1) r
def eV (c:CSt) (vs:List SV):List Nat→CSt×List SV
 |[]=>(c,vs)
 |o::r=>eV (c.publish o vs).1 (c.publish o vs).2 r
def Tok.kc:Tok→Bool→Tok
 | .clip,b=>if b=true then .clip else .no
 | .no,_=> .no
 | .id _,_=> .no
def SV.kclip:SV→SV
 | .lst sz xs t=> .lst sz xs (t.kc xs.isEmpty)
 | .byt l t=> .byt l (t.kc l.isEmpty)
 |v=>v.bare
def jD (tk:List Nat) (j:Nat):SV→SV×List (Option Nat)
 | .agg cs=>(.agg (cs.map SV.kclip),[])
 | .byt l .no=>(.byt l .no,[])
 | .byt l .clip=>(.byt l (.id j),[none])
 | .byt l (.id t)=>if tk.contains t=true then(.byt l (.id j),[some t])else(.byt l .no,[])
 | .lst sz xs .no=>(.lst sz xs .no,[])
 | .lst sz xs .clip=>(.lst sz xs (.id j),[none])
 | .lst sz xs (.id t)=>if tk.contains t=true then(.lst sz xs (.id j),[some t])else(.lst sz xs .no,[])
 |v=>(v.bare,[])
def ka (tk:List Nat) (own:List Nat):Nat→Nat→List SV→List SV×List (Option Nat)
 |_,_,[]=>([],[])
 |j,i,v::r=>
  if own.contains i=true then
   ((jD tk j v).1::(ka tk own (j+(jD tk j v).2.length) (i+1) r).1,(jD tk j v).2++(ka tk own (j+(jD tk j v).2.length) (i+1) r).2)
  else(v.bare::(ka tk own j (i+1) r).1,(ka tk own j (i+1) r).2)
def tj (tk:List Nat):Nat→List SV→List SV×List (Option Nat)
 |_,[]=>([],[])
 |j,v::r=>((jD tk j v).1::(tj tk (j+(jD tk j v).2.length) r).1,(jD tk j v).2++(tj tk (j+(jD tk j v).2.length) r).2)
def jP (tk:List Nat) (j:Nat):aB→aB×List (Option Nat)
 | .rc cs=>(.rc (tj tk j cs).1,(tj tk j cs).2)
 |o=>(o,[])
def ed (tk:List Nat):Nat→List aB→List aB×List (Option Nat)
 |_,[]=>([],[])
 |j,v::r=>((jP tk j v).1::(ed tk (j+(jP tk j v).2.length) r).1,(jP tk j v).2++(ed tk (j+(jP tk j v).2.length) r).2)
def cB:List (Option Nat)→List Nat
 |[]=> []
 |none::r=>cB r
 |some t::r=>t::cB r
def dO (c:CSt):Nat→List Nat→List Nat→List Nat
 |0,acc,_=>acc
 |_+1,acc,[]=>acc
 |
  f+1,acc,o::t=>if acc.contains o=true then dO c f acc t else
  match c.look o with
  |some ob=>dO c f (acc++ [o]) (t++ob.ids)
  |none=>dO c f acc t
def gE (c:CSt):List Nat→Option (List aB)
 |[]=>some []
 |o::r=>match c.look o,gE c r with
  |some ob,some l=>some (ob::l)
  |_,_=>none
def eB:List Nat→Nat→Nat
 |[],_=>0
 |p::r,o=>if p=o then 0 else eB r o+1
def fL:List aB→List Nat
 |[]=> []
 |o::r=>o.ids++fL r
def dB:List Nat→Bool
 |[]=>true
 |a::r=> !r.contains a&&dB r
def pn (a b:List Nat):Bool:=a.all b.contains
def ei (mo mt:Nat→Nat):List aB→List aB
 |[]=> []
 |o::r=>o.ren mo mt::ei mo mt r
structure ec where
 r:SV
 os:List (Nat×aB)
 tk:List Nat
structure Sig where
 own:List Nat:=[]
 raw:List Nat:=[]
def rI (ob:List (Nat×aB)):List (Nat×aB)→List (Nat×aB)
 |[]=>ob
 |p::r=>rI (jb ob p.1 p.2) r
def rJ (tk:List Nat):List Nat→List Nat
 |[]=>tk
 |t::r=>rJ (ng tk t) r
def mW (l:List Nat):List Nat→List Nat
 |[]=> []
 |t::r=>if l.contains t=true then mW l r else t::mW l r
def rH (d:Nat):List Nat→List Nat
 |[]=> []
 |t::r=>gY d t::rH d r
def ec.small (q:ec):Bool:=q.os.all (fun p=>decide (p.1<1000)&&p.2.ids.all (fun k=>decide (k<1000))&&p.2.toks.all (fun k=>decide (k<1000)))&&q.r.ids.all (fun k=>decide (k<1000))&&q.r.toks.all (fun k=>decide (k<1000))&&q.tk.all (fun k=>decide (k<1000))
def jY (c:CSt) (d:Option Nat) (m mt:List Nat) (q:ec):CSt:=
 CSt.put ⟨dA ((d.getD 0+1)*1000) ((d.getD 0+2)*1000) c.tm,
  rI (fk m (bC ((d.getD 0+1)*1000) ((d.getD 0+2)*1000) c.ob)) (pC (d.getD 0) m q.os),
  rJ (mW mt (cK ((d.getD 0+1)*1000) ((d.getD 0+2)*1000) c.tk)) (rH (d.getD 0) q.tk)⟩ d (q.r.ren (fx (d.getD 0) m) (gY (d.getD 0)))
abbrev cr:=Nat→List SV→List aB→Nat→Option ec
def ec.bare (q:ec):Bool:=q.os.isEmpty&&q.tk.isEmpty&&q.r.ids.isEmpty&&q.r.toks.isEmpty
def x5 (c:CSt) (d:Option Nat) (q:ec):Bool→Option CSt
 |true=>some (jY c d [] [] q)
 |false=>none
def oQ (c:CSt) (d:Option Nat) (q:ec):Bool→Option CSt
 |true=>some (c.put d q.r)
 |false=>x5 c d q q.small
def mT (c:CSt) (d:Option Nat):Option ec→Option CSt
 |some q=>oQ c d q q.bare
 |none=>none
def wW (c:CSt) (d:Option Nat) (m mt:List Nat) (q:ec):Bool→Option CSt
 |true=>some (jY c d m mt q)
 |false=>none
def px (c:CSt) (d:Option Nat) (m mt:List Nat):Option ec→Option CSt
 |some q=>wW c d m mt q q.small
 |none=>none
def oH (call:cr) (c:CSt) (d:Option Nat) (g:Nat) (as:List SV) (mt1:List (Option Nat)) (m:List Nat) (os:List aB) (mt2:List (Option Nat)):Bool→Option CSt
 |true=>px c d m (cB (mt1++mt2)) (call g (SV.renL (eB m) id as) (ei (eB m) id os) (mt1.length+mt2.length))
 |false=>none
def oI (call:cr) (c:CSt) (d:Option Nat) (g:Nat) (as:List SV) (mt1:List (Option Nat)) (m:List Nat):List aB×List (Option Nat)→Option CSt
 |(os,mt2)=>oH call c d g as mt1 m os mt2 (pn (SV.idsL as++fL os) m&&dB m&&dB (cB (mt1++mt2))&&decide (m.length≤40)&&m.all fun o=> !inR (d.getD 0) o)
def lS (call:cr) (c:CSt) (d:Option Nat) (g:Nat) (as:List SV) (mt1:List (Option Nat)) (m:List Nat):Option (List aB)→Option CSt
 |some os=>oI call c d g as mt1 m (ed c.tk (50+mt1.length) os)
 |none=>none
def oJ (call:cr) (c:CSt) (d:Option Nat) (g:Nat):List SV×List (Option Nat)→Option CSt
 |(as,mt1)=>lS call c d g as mt1 (dO c 60 [] (SV.idsL as)) (gE c (dO c 60 [] (SV.idsL as)))
def jR (call:cr) (sg:Sig) (d:Option Nat) (g:Nat):CSt×List SV→Option CSt
 |(c,as)=>oJ call c d g (ka c.tk sg.own 50 0 as)
def jW (call:cr) (sg:Sig) (c:CSt) (d:Option Nat) (g:Nat) (as:List SV):Bool→Option CSt
 |true=>mT c d (call g (SV.bareL as) [] 0)
 |false=>jR call sg d g (eV c as (i5 sg.raw 0 as))
def iA (call:cr) (sg:Sig) (c:CSt) (d:Option Nat) (g:Nat) (as:List SV):Option CSt:=
 jW call sg c d g as ((SV.idsL as).isEmpty&&sg.own.isEmpty)
inductive Dir where
 |kill (l:List Nat)
 |gc (l:List Nat)
 |gcr (lo hi:Nat)
 |pub (n:Nat)
 |pubo (o:Nat)
 |tok (n id:Nat)
inductive RI where
 |op (i:SI) (dead:List Nat)
 |grp (g:Nat) (b:Bool) (l:List SI) (dead:List Nat)
 |own (i:SI) (dead:List Nat)
 |tks (i:SI) (dead:List Nat)
 |dir (d:Dir)
structure FI where
 n:Nat
 q:Bool
 i:SI
inductive RC where
 |skip
 |ops (l:List RI)
 |drw (b ds:List Nat) (l:List SI) (dead:List Nat)
 |flt (b ds:List Nat) (l:List FI) (dead:List Nat)
 |fla (b ds:List Nat) (l:List FI) (ps:List (List Nat)) (dead:List Nat)
 |seq (a b:RC)
 |cond (c:Arg) (a b:RC)
 |block (id:Nat) (b:RC)
 |loop (b:RC)
 |exit (id:Nat)
 |ret
 |pre (ds:List Dir) (a:RC)
 |post (a:RC) (ds:List Dir)
 |bad
def erL:List RI→List SI
 |[]=> []
 | .op i _::r=>i::erL r
 | .grp _ _ l _::r=>l++erL r
 | .own i _::r=>i::erL r
 | .tks i _::r=>i::erL r
 | .dir _::r=>erL r
def ET:List FI→Nat→SI
 |[],_=>⟨none,none,.lenC 0⟩
 |f::r,k=>if f.n=k then f.i else ET r k
def unF (l:List FI):List SI:=(cg l.length).map (ET l)
def RC.er:RC→gy
 | .skip=> .skip
 | .ops l=> .ops (erL l)
 | .drw b ds l _=> .drw b ds l
 | .flt b ds l _=> .drw b ds (unF l)
 | .fla b ds l _ _=> .drw b ds (unF l)
 | .seq a b=> .seq a.er b.er
 | .cond c a b=> .cond c a.er b.er
 | .block id b=> .block id b.er
 | .loop b=> .loop b.er
 | .exit id=> .exit id
 | .ret=> .ret
 | .pre _ a=>a.er
 | .post a _=>a.er
 | .bad=> .bad
def gcC (c:CSt):List Nat→CSt
 |[]=>c
 |o::r=>gcC (c.purge o (o+1)) r
def EL (c:CSt) (n id o:Nat) (obj:aB) (v:SV):CSt:=
 ⟨jH (dA id (id+1) (me o obj c.tm)) n v,bC id (id+1) (lw o obj c.ob),ng (cK id (id+1) c.tk) id⟩
def RR (c:CSt) (n id o sz off k cp:Nat):Option aB→Option CSt
 |some (.bar l)=>if sz=1∧off+cp≤l.length∧k≤cp then some (EL c n id o (.bar (l.take (off+k))) (.byt ((l.drop off).take k) (.id id)))else some c
 |some (.arr sz' xs)=>if sz'=sz∧off+cp≤xs.length∧k≤cp then some (EL c n id o (.arr sz' (xs.take (off+k))) (.lst sz ((xs.drop off).take k) (.id id)))else some c
 |_=>some c
def RS (c:CSt) (n id:Nat):SV→Option CSt
 | .byt l t=>match t with
  | .no=>some c
  | .clip=>some ⟨jH (dA id (id+1) c.tm) n (.byt l (.id id)),bC id (id+1) c.ob,ng (cK id (id+1) c.tk) id⟩
  | .id t=>if t=id then some c else if c.tk.contains t=true then some ⟨jH (dA id (id+1) c.tm) n (.byt l (.id id)),bC id (id+1) c.ob,ng (cK id (id+1) (cK t (t+1) c.tk)) id⟩else none
 | .lst sz xs t=>match t with
  | .no=>some c
  | .clip=>some ⟨jH (dA id (id+1) c.tm) n (.lst sz xs (.id id)),bC id (id+1) c.ob,ng (cK id (id+1) c.tk) id⟩
  | .id t=>if t=id then some c else if c.tk.contains t=true then some ⟨jH (dA id (id+1) c.tm) n (.lst sz xs (.id id)),bC id (id+1) c.ob,ng (cK id (id+1) (cK t (t+1) c.tk)) id⟩else none
 | .psl o sz off k (some cp)=>RR c n id o sz off k cp (c.look o)
 |_=>some c
def sH (c:CSt):Dir→Option CSt
 | .kill l=>some (c.kill l)
 | .gc l=>some (gcC c l)
 | .gcr lo hi=>some (c.purge lo hi)
 | .pubo o=>some (c.publish o []).1
 | .pub n=>match c.get n with
  | .psl o _ _ _ _=>some (c.publish o []).1
  |_=>some c
 | .tok n id=>if id=99 then none else RS c n id (c.get n)
def iO (c:CSt):List Dir→Option CSt
 |[]=>some c
 |d::r=>match sH c d with
  |some c'=>iO c' r
  |none=>none
inductive Ex where
 |n
 |x (id:Nat)
 |r
abbrev gQ:=Option (Ex×CSt)
def o8 (c:CSt) (d:Option Nat):Option fD→Option CSt
 |some e=>some (c.app d e)
 |none=>none
def oO (c:CSt):Option Nat→Option (List UInt8)→Option CSt
 |some k,some l=>some (c.app (some k) {val:= .psl (k+100) 1 0 l.length (some l.length),new:=some (.bar l)})
 |_,_=>none
def py (c:CSt) (d:Option Nat) (o off n:Nat) (cap:Option Nat):Option aB→Option CSt
 |some (.bar l)=>if off+n≤l.length∧cap=some n then some (((c.publish o []).1).put d (.byt ((l.drop off).take n) .clip))else none
 |_=>none
def rG (c:CSt) (d:Option Nat):SV→Option CSt
 | .psl o 1 off n cap=>py c d o off n cap (c.look o)
 |_=>none
def opC (call:cr) (sg:Nat→Sig) (c:CSt) (d:Option Nat) (o:SOp):Option CSt:=
 match o with
 | .newB xs=>oO c d (toB (evL c xs))
 | .slid x=>rG c d (c.ev x)
 | .call f as=>match c.ev f with
  | .fn g a b=>iA call (sg g) c d g (a++evL c as++b)
  |_=>none
 |o=>o8 c d (dJ c d o)
def dS (call:cr) (sg:Nat→Sig) (c:CSt) (i:SI):Option CSt:=
 match i.g with
 |none=>opC call sg c i.dst i.op
 |some (g,b)=>match c.get g with
  | .bool t=>if t=b then opC call sg c i.dst i.op else some (c.put i.dst (.tup []))
  | .tup []=>some (c.put i.dst (.tup []))
  |_=>none
mutual
def plC (call:cr) (sg:Nat→Sig):List SI→CSt→Option CSt
 |[],c=>some c
 |i::r,c=>nxP call sg r (opC call sg c i.dst i.op)
def nxP (call:cr) (sg:Nat→Sig):List SI→Option CSt→Option CSt
 |r,some c=>plC call sg r c
 |_,none=>none
end
def unL (c:CSt):List SI→CSt
 |[]=>c
 |i::r=>unL (c.put i.dst (.tup [])) r
def pY (call:cr) (sg:Nat→Sig) (b:Bool) (l:List SI) (c:CSt):SV→Option CSt
 | .bool t=>if t=b then plC call sg l c else some (unL c l)
 | .tup []=>some (unL c l)
 |_=>none
def SR (c:CSt):Option Nat→SV→Option CSt
 |some k,.str l=>some (c.app (some k) {val:= .psl (k+100) 1 0 l.length none,new:=some (.bar l)})
 |_,_=>none
def xi5 (c:CSt) (z:List SV) (bytes:Nat) (l:List UInt8):Option Nat→Option (List UInt8)→Option CSt
 |some k,some l'=>if z.length≠1 then none else if l'=[]then some (c.put (some k) (.byt l .clip))else if bytes=1∧l.length+l'.length≤140737488355328 then some (c.app (some k) {val:= .psl (k+100) 1 0 (l.length+l'.length) none,new:=some (.bar (l++l'))})else none
 |_,_=>none
def xi4 (c:CSt) (z:List SV) (bytes sz:Nat) (l:List (List SV)):Option Nat→Option (List (List SV))→Option CSt
 |some k,some l'=>if l'=[]then some (c.put (some k) (.lst sz l .clip))else if z.length=sz∧(l.length+l'.length)*bytes≤140737488355328 then some (c.app (some k) {val:= .psl (k+100) sz 0 (l.length+l'.length) none,new:=some (.arr sz (l++l'))})else none
 |_,_=>none
def SQ (c:CSt) (d:Option Nat) (z:List SV) (bytes:Nat) (y:Arg):SV→Option CSt
 | .byt l t=>if t= .clip then xi5 c z bytes l d (eW c (c.ev y))else none
 | .lst sz l t=>if t= .clip then xi4 c z bytes sz l d (i6 c z.length (c.ev y))else none
 |_=>none
def SP (c:CSt) (sz:Nat):Option Nat→Option (List (List SV))→Option CSt
 |some k,some xs=>some (c.app (some k) {val:= .psl (k+100) sz 0 xs.length (some xs.length),new:=some (.arr sz xs)})
 |_,_=>none
def xog (c:CSt) (d:Option Nat):SOp→Option CSt
 | .lit sz xs=>SP c sz d (rows sz (evL c xs))
 | .litB xs=>oO c d (toB (evL c xs))
 | .s2b x=>SR c d (c.ev x)
 | .app z bytes x y=>SQ c d z bytes y (c.ev x)
 |_=>none
def RW (c:CSt):Option Nat→SV→Option CSt
 |some k,.str l=>some (c.app (some k) {val:= .byt l (.id (k+100)),tok:=true})
 |_,_=>none
def xnp (c:CSt) (d:Option Nat):SOp→Option CSt
 | .s2b x=>RW c d (c.ev x)
 |_=>none
def Av (c:CSt) (i:SI):Option CSt:=match i.g with
 |none=>xnp c i.dst i.op
 |some _=>none
def tL (c:CSt) (i:SI):Option CSt:=match i.g with
 |none=>xog c i.dst i.op
 |some _=>none
mutual
def fP (call:cr) (sg:Nat→Sig):List RI→CSt→Option CSt
 |[],c=>some c
 | .op i dead::r,c=>nxC call sg dead r (dS call sg c i)
 | .grp g b l dead::r,c=>nxC call sg dead r (pY call sg b l c (c.get g))
 | .own i dead::r,c=>nxC call sg dead r (tL c i)
 | .tks i dead::r,c=>nxC call sg dead r (Av c i)
 | .dir d::r,c=>nxC call sg [] r (sH c d)
def nxC (call:cr) (sg:Nat→Sig) (dead:List Nat):List RI→Option CSt→Option CSt
 |r,some c=>fP call sg r (c.kill dead)
 |_,none=>none
end
def kX (c:CSt) (so:SOp) (d:Option Nat) (e:fD):eN:=
 ⟨SV.idsL (evL c so.args),e.wr.map bt,e.eat.ids,(match e.new,e.tok with|none,false=> []|_,_=> [d.getD 0+100]),e.val.names++jg e.wr++(match e.new with|some o=>o.names|none=> []),if so.blind=true then []else SV.idsL (evL c so.args)⟩
def uO (q:ec):Bool→Option fD
 |true=>some {val:=q.r}
 |false=>none
def uP:Option ec→Option fD
 |some q=>uO q q.bare
 |none=>none
def uM (o:Nat) (r:SV) (cs:List SV):Bool→Option fD
 |true=>some {val:=r,wr:=[(o,.rc cs)]}
 |false=>none
def uN (o:Nat):Option ec→Option fD
 |some ⟨r,[(0,.rc cs)],[]⟩=>uM o r cs (r.ids.isEmpty&&r.toks.isEmpty&&(SV.idsL cs).isEmpty&&(SV.toksL cs).isEmpty)
 |_=>none
def o5 (call:cr) (o g:Nat) (as:List SV) (ob:aB):Bool→Option fD
 |true=>uN o (call g (SV.renL (eB [o]) id as) [ob] 0)
 |false=>none
def o6 (call:cr) (o g:Nat) (as:List SV):Option aB→Option fD
 |some ob=>o5 call o g as ob (ob.ids.isEmpty&&ob.toks.isEmpty&&(SV.idsL as).all (fun k=>decide (k=o))&&(SV.idsL (SV.renL (eB [o]) id as)).all (fun k=>decide (k=0)))
 |none=>none
def qd (call:cr) (c:CSt) (g:Nat) (as:List SV):List Nat→Option fD
 |o::_=>o6 call o g as (c.look o)
 |[]=>none
def o4 (call:cr) (c:CSt) (g:Nat) (as:List SV):Bool→Option fD
 |true=>qd call c g (SV.bareL as) (SV.idsL as)
 |false=>none
def jX (call:cr) (c:CSt) (own:Bool) (g:Nat) (as:List SV):Bool→Option fD
 |true=>uP (call g (SV.bareL as) [] 0)
 |false=>o4 call c g as own
def lH (call:cr) (sg:Nat→Sig) (c:CSt) (as:List SV):SV→Option fD
 | .fn g a b=>jX call c (sg g).own.isEmpty g (a++as++b) ((SV.idsL (a++as++b)).isEmpty&&(sg g).own.isEmpty)
 |_=>none
def dQ (call:cr) (sg:Nat→Sig) (c:CSt) (i:SI):Option fD:=
 match i.op with
 | .call f as=>lH call sg c (evL c as) (c.ev f)
 | .isnil _ _=>none
 | .cpy _ _ _=>none
 |so=>dJ c i.dst so
mutual
def iR (call:cr) (sg:Nat→Sig) (b:List Nat):List SI→List eN→CSt→Option CSt
 |[],fs,c=>gd ((fs.all eN.quiet||mE b fs.reverse)=true) c
 |i::r,fs,c=>match i.g with
  |none=>nxD call sg b i.op i.dst r fs c (dQ call sg c i)
  |some (g,want)=>match c.get g with
   | .bool t=>if t=want then nxD call sg b i.op i.dst r fs c (dQ call sg c i)else iR call sg b r (fA::fs) (c.put i.dst .undef)
   |_=>none
def nxD (call:cr) (sg:Nat→Sig) (b:List Nat) (op:SOp) (d:Option Nat):List SI→List eN→CSt→Option fD→Option CSt
 |r,fs,c,some e=>iR call sg b r (kX c op d e::fs) (c.app d e)
 |_,_,_,none=>none
end
def cT (c:CSt):SOp→Option SV
 | .pick k a b=>match c.ev k with
  | .bool t=>some (iI t (c.ev a) (c.ev b))
  |_=>none
 |so=>cD c so
def qg (c:CSt) (o:SOp) (b:Bool):SV→Option SV
 | .bool t=>if t=b then cT c o else some (.tup [])
 | .tup []=>some (.tup [])
 |_=>none
def qv (c:CSt) (i:SI):Option SV:=match i.g with
 |none=>cT c i.op
 |some (g,b)=>qg c i.op b (c.get g)
def tS (m:Nat) (c:CSt):List FI→Prop
 |[]=>True
 |p::r=>(m/2^p.n % 2=1∨qv c p.i=some (c.get (p.i.dst.getD 0)))∧tS m c r
open Classical in
noncomputable def gdP {α:Type} (p:Prop) (v:α):Option α:=if p then some v else none
mutual
noncomputable def fe (call:cr) (sg:Nat→Sig) (b:List Nat):List FI→List FI→CSt→Option CSt
 |[],_,c=>some c
 |⟨n,true,i⟩::r,ps,c=>we call sg b r (⟨n,true,i⟩::ps) c i.dst (qv c i)
 |⟨n,false,i⟩::r,ps,c=>rt call sg b r ps (b.getD n 0) (dS call sg c i)
noncomputable def we (call:cr) (sg:Nat→Sig) (b:List Nat):List FI→List FI→CSt→Option Nat→Option SV→Option CSt
 |r,ps,c,d,some v=>fe call sg b r ps (c.put d v)
 |_,_,_,_,none=>none
noncomputable def rt (call:cr) (sg:Nat→Sig) (b:List Nat):List FI→List FI→Nat→Option CSt→Option CSt
 |r,ps,m,some c=>ru call sg b r ps (gdP (tS m c ps) c)
 |_,_,_,none=>none
noncomputable def ru (call:cr) (sg:Nat→Sig) (b:List Nat):List FI→List FI→Option CSt→Option CSt
 |r,ps,some c=>fe call sg b r ps c
 |_,_,none=>none
end
def uG:List FI→Nat→FI
 |[],k=>⟨k,false,⟨none,none,.lenC 0⟩⟩
 |f::r,k=>if f.n=k then f else uG r k
def iT (l:List FI):List Nat→List FI
 |[]=> []
 |k::r=>uG l k::iT l r
noncomputable def oU:Option CSt→Option CSt→Option CSt
 |some a,some b=>gdP (a=b) a
 |_,_=>none
noncomputable def je (call:cr) (sg:Nat→Sig) (b:List Nat) (l:List FI):List (List Nat)→CSt→Option CSt
 |[],_=>none
 |[p],c=>fe call sg b (iT l p) [] c
 |p::q::r,c=>oU (fe call sg b (iT l p) [] c) (je call sg b l (q::r) c)
def nrm (dead:List Nat):Option CSt→gQ
 |some c=>some (.n,c.kill dead)
 |none=>none
def sq (rn:RC→CSt→gQ) (b:RC):gQ→gQ
 |some (.n,c)=>rn b c
 |r=>r
def cnd (rn:RC→CSt→gQ) (a b:RC) (c:CSt):SV→gQ
 | .bool t=>if t=true then rn a c else rn b c
 |_=>none
def blk (id:Nat):gQ→gQ
 |some (.x id',c)=>if id'=id then some (.n,c)else some (.x id',c)
 |r=>r
def lp (rn:RC→CSt→gQ) (b:RC):gQ→gQ
 |some (.n,c)=>rn (.loop b) c
 |r=>r
def prD (rn:RC→CSt→gQ) (a:RC):Option CSt→gQ
 |some c=>rn a c
 |none=>none
def psD (ds:List Dir):gQ→gQ
 |some (.n,c)=>match iO c ds with
  |some c'=>some (.n,c')
  |none=>none
 |r=>r
noncomputable def dx (rn:RC→CSt→gQ) (call:cr) (sg:Nat→Sig):RC→CSt→gQ
 | .skip,c=>some (.n,c)
 | .ops l,c=>nrm [] (fP call sg l c)
 | .drw b ds l dead,c=>nrm dead (iR call sg b l [] (gcC c ds))
 | .flt b _ l dead,c=>nrm dead (fe call sg b l [] c)
 | .fla b _ l ps dead,c=>nrm dead (je call sg b l ps c)
 | .seq a b,c=>sq rn b (rn a c)
 | .cond k a b,c=>cnd rn a b c (c.ev k)
 | .block id b,c=>blk id (rn b c)
 | .loop b,c=>lp rn b (rn b c)
 | .exit id,c=>some (.x id,c)
 | .ret,c=>some (.r,c)
 | .pre ds a,c=>prD rn a (iO c ds)
 | .post a ds,c=>psD ds (rn a c)
 | .bad,_=>none
def SI.ok (N:Nat) (i:SI):Bool:=match i.dst with
 |some d=>decide (d<N)
 |none=>true
def SI.okG (N g:Nat) (b:Bool) (i:SI):Bool:=i.ok N&&(match i.g with|some (g',b')=>decide (g'=g)&&(b'==b)|none=>false)&&decide (i.dst≠some g)
def RI.ok (N:Nat):RI→Bool
 | .op i _=>i.ok N
 | .grp g b l _=>l.all (SI.okG N g b)
 | .own i _=>i.ok N
 | .tks i _=>i.ok N
 | .dir _=>true
def oz (b:List Nat) (i j:Nat):Bool:=(b.getD j 0).testBit i
def oL (b:List Nat):Option Nat→List FI→Bool
 |_,[]=>true
 |
  s,f::r=>if f.q then(match s with|some s=>oz b s f.n|none=>true)&&oL b s r
  else(match s with|some s=>oz b s f.n|none=>true)&&oL b (some f.n) r
def P8 (b:List Nat) (p q:FI):Bool:= !oz b q.n p.n&&(p.q||q.q||oz b p.n q.n)
def pJ (b:List Nat):List FI→Bool
 |[]=>true
 |p::r=>r.all (P8 b p)&&pJ b r
def SI.rds (i:SI):List Nat:=i.op.args.filterMap (fun| .t n=>some n|_=>none)++(match i.g with|some (g,_)=> [g]|none=> [])
def Tw (b:List Nat) (l:List FI):Bool:=l.all fun q=> !q.q||(match q.i.dst with|some d=>l.all fun p=> !p.i.rds.contains d||(oz b q.n p.n&&decide (p.n≠q.n))|none=>false)
def Rg (b:List Nat) (l:List FI):Bool:=oL b none l&&pJ b l&&Tw b l&&decide ((l.map FI.n).Nodup)&&l.all (fun f=>decide (f.n<l.length))&&(cg l.length).all (l.map FI.n).contains
def xh (b:List Nat):Option Nat→List FI→Bool
 |_,[]=>true
 |s,f::r=>if f.q then(match s with|some s=>oz b s f.n|none=>true)&&xh b s r else xh b (some f.n) r
def uH (b:List Nat):List FI→Bool
 |[]=>true
 |p::r=>r.all (fun q=> !oz b q.n p.n)&&uH b r
def fB (l:List FI):List Nat:=l.filterMap fun f=>if f.q then none else some f.n
def lf (b:List Nat):Nat→List (List Nat)→Bool
 |_,[]=>false
 |_,[]::_=>true
 |0,_=>false
 |k+1,A@((h::t)::_)=>(h::t).all fun g=>(h::t).any (fun x=>decide (x≠g)&&oz b x g)||lf b k (A.filterMap fun p=>match p with|x::r=>if x=g then some r else none|[]=>none)
def Rz (b:List Nat) (l:List FI) (ps:List (List Nat)):Bool:=
 Tw b l&&decide ((l.map FI.n).Nodup)&&l.all (fun f=>decide (f.n<l.length))&&(cg l.length).all (l.map FI.n).contains&&
 ps.all (fun p=>decide p.Nodup&&p.all (l.map FI.n).contains&&(l.map FI.n).all p.contains&&xh b none (iT l p)&&uH b (iT l p))&&lf b l.length (ps.map fun p=>fB (iT l p))
def RC.ok (N:Nat):RC→Bool
 | .ops l=>l.all (RI.ok N)
 | .drw _ _ l _=>l.all (SI.ok N)
 | .flt b _ l _=>l.all (fun f=>f.i.ok N)&&Rg b l
 | .fla b _ l ps _=>l.all (fun f=>f.i.ok N)&&Rz b l ps
 | .seq a b=>a.ok N&&b.ok N
 | .cond _ a b=>a.ok N&&b.ok N
 | .block _ b=>b.ok N
 | .loop b=>b.ok N
 | .pre _ a=>a.ok N
 | .post a _=>a.ok N
 |_=>true
inductive RV where
 |tmp (t:Nat)
 |cell (t n:Nat) (ag:Bool)
structure FnC where
 code:RC
 n:Nat
 rs:List RV
 keep:List Nat:=[]
 raw:List Nat:=[]
inductive FnB where
 |code (F:FnC)
 |prim (f:List SV→List aB→Nat→Option ec)
structure oV where
 fn:Nat→Option FnB
 sg:Nat→Sig
def rX (c:CSt):List RV→Option (List SV)
 |[]=>some []
 | .tmp t::r=>match rX c r with
  |some vs=>some (c.get t::vs)
  |none=>none
 | .cell t n ag::r=>match (if ag=true∨n=1 then lY c n ag (c.get t)else none),rX c r with
  |some v,some vs=>some (v::vs)
  |_,_=>none
def ln:Nat→List Nat
 |0=> []
 |n+1=>ln n++ [n]
def f8 (k:Nat):List aB→List (Nat×aB)
 |[]=> []
 |o::r=>(k,o)::f8 (k+1) r
def gX (k:Nat) (m:List Nat) (o:Nat):Nat:=if o<k then o else 100+eB m o
def tks (b n:Nat):List Nat:=(ln n).map (b+ ·)
def xel (k:Nat) (vs:List SV) (mt1:List (Option Nat)) (m:List Nat) (os:List aB) (mt2:List (Option Nat)):Bool→Option ec
 |true=>some ⟨(jv vs).ren (gX k m) id,(f8 0 (ei (gX k m) id (os.take k)))++(f8 (100+k) (ei (gX k m) id (os.drop k))),tks 60 (mt1.length+mt2.length)⟩
 |false=>none
def xem (k:Nat) (vs:List SV) (mt1:List (Option Nat)) (m:List Nat):List aB×List (Option Nat)→Option ec
 |(os,mt2)=>xel k vs mt1 m os mt2 (pn (SV.idsL vs++fL os) m&&dB m&&dB (cB (mt1++mt2))&&decide (m.take k=ln k)&&(m.drop k).all fun o=>decide (k≤o))
def xen (k:Nat) (c:CSt) (vs:List SV) (mt1:List (Option Nat)) (m:List Nat):Option (List aB)→Option ec
 |some os=>xem k vs mt1 m (ed c.tk (60+mt1.length) os)
 |none=>none
def xeo (k:Nat) (c:CSt):List SV×List (Option Nat)→Option ec
 |(vs,mt1)=>xen k c vs mt1 (dO c 60 [] (ln k++SV.idsL vs)) (gE c (dO c 60 [] (ln k++SV.idsL vs)))
def Qu (keep:List Nat) (k:Nat) (c:CSt) (vs:List SV):Bool→Option ec
 |true=>some ⟨jv (SV.bareL vs),[],[]⟩
 |false=>xeo k c (ka c.tk keep 60 0 vs)
def TE (keep:List Nat) (k:Nat):CSt×List SV→Option ec
 |(c,vs)=>Qu keep k c vs (decide (k=0)&&(SV.idsL vs).isEmpty&&keep.isEmpty)
def Qv (keep raw:List Nat) (k:Nat) (c:CSt):Option (List SV)→Option ec
 |some vs=>TE keep k (eV c vs (i5 raw 0 vs))
 |none=>none
def E2 (F:FnC) (k:Nat):gQ→Option ec
 |some (.n,c)=>Qv F.keep F.raw k c (rX c F.rs)
 |some (.r,c)=>Qv F.keep F.raw k c (rX c F.rs)
 |_=>none
def oP:Nat→List SV→List (Nat×SV)
 |_,[]=> []
 |i,v::r=>(i,v)::oP (i+1) r
def rK (args:List SV) (os:List aB) (k:Nat):CSt:=⟨oP 0 args,f8 0 os,tks 50 k⟩
def E1 (rn:RC→CSt→gQ) (F:FnC) (args:List SV) (os:List aB) (k:Nat):gQ:=if args.length≤F.n then rn F.code (rK args os k)else none
def oT (rn:RC→CSt→gQ):Option FnB→List SV→List aB→Nat→Option ec
 |some (.code F),args,os,k=>E2 F os.length (E1 rn F args os k)
 |some (.prim f),args,os,k=>f args os k
 |none,_,_,_=>none
noncomputable def gL (T:oV):Nat→RC→CSt→gQ
 |0,_,_=>none
 |n+1,r,c=>dx (gL T n) (fun g args os k=>oT (gL T n) (T.fn g) args os k) T.sg r c
noncomputable def eh (T:oV) (n:Nat):cr:=fun g args os k=>oT (gL T n) (T.fn g) args os k
noncomputable def lim {α:Type} (g:Nat→Option α):Option α:=open Classical in if h:∃n x,g n=some x then g (Classical.choose h)else none
noncomputable def run (T:oV) (r:RC) (c:CSt):gQ:=lim fun n=>gL T n r c
noncomputable def call (T:oV):cr:=fun g args os k=>lim fun n=>eh T n g args os k
end Go.Sy
namespace Go.Sy
variable [ba]
def leR (f g:RC→CSt→gQ):Prop:=∀r c x,f r c=some x→g r c=some x
def leC (f g:cr):Prop:=∀a b o k x,f a b o k=some x→g a b o k=some x
theorem xZ {c:CSt} {d:Option Nat} {x:CSt} {a b:Option ec} (h:∀q,a=some q→b=some q) (k:mT c d a=some x):mT c d b=some x:=by
 cases a with
 |none=>cases k
 |some q=>rw [h q rfl];exact k
theorem wX {c:CSt} {d:Option Nat} {m mt:List Nat} {x:CSt} {a b:Option ec} (h:∀q,a=some q→b=some q) (k:px c d m mt a=some x):px c d m mt b=some x:=by
 cases a with
 |none=>cases k
 |some q=>rw [h q rfl];exact k
theorem wY {f g:cr} (h:leC f g) {c:CSt} {d:Option Nat} {n:Nat} {as:List SV} {mt1:List (Option Nat)} {m:List Nat} {o:Option (List aB)} {x:CSt}
 (k:lS f c d n as mt1 m o=some x):lS g c d n as mt1 m o=some x:=by
 cases o with
 |none=>cases k
 |some os=>
  simp only [lS]at k ⊢;generalize ed c.tk (50+mt1.length) os=z at k ⊢;obtain⟨os',mt2⟩:=z;simp only [oI]at k ⊢;generalize (pn (SV.idsL as++fL os') m&&dB m&&dB (cB (mt1++mt2))&&decide (m.length≤40)&&m.all fun o=> !inR (d.getD 0) o)=b at k ⊢;cases b with
  |false=>cases k
  |true=>simp only [oH]at k ⊢;exact wX (fun q hq=>h _ _ _ _ _ hq) k
theorem wV {f g:cr} (h:leC f g) {sg:Sig} {d:Option Nat} {n:Nat} {p:CSt×List SV} {x:CSt} (k:jR f sg d n p=some x):jR g sg d n p=some x:=by obtain⟨c,as⟩:=p;simp only [jR]at k ⊢;generalize ka c.tk sg.own 50 0 as=z at k ⊢;obtain⟨as',mt1⟩:=z;simp only [oJ]at k ⊢;exact wY h k
theorem yd {f g:cr} (h:leC f g) {sg:Sig} {c:CSt} {d:Option Nat} {n:Nat} {as:List SV} {x:CSt} (k:iA f sg c d n as=some x):iA g sg c d n as=some x:=by
 unfold iA at k ⊢;generalize ((SV.idsL as).isEmpty&&sg.own.isEmpty)=b at k ⊢;cases b with
 |true=>exact xZ (fun q hq=>h _ _ _ _ _ hq) k
 |false=>exact wV h k
theorem mP {f g:cr} (h:leC f g) {sg:Nat→Sig} {c:CSt} {d:Option Nat} {o:SOp} {x:CSt} (k:opC f sg c d o=some x):opC g sg c d o=some x:=by
 cases o with
 |call a as=>simp only [opC]at k ⊢;split at k<;>first|exact yd h k|cases k
 |_=>exact k
theorem js {f g:cr} (h:leC f g) {sg:Nat→Sig} {c:CSt} {i:SI} {x:CSt} (k:dS f sg c i=some x):dS g sg c i=some x:=by
 unfold dS at k ⊢;split at k
 ·exact mP h k
 ·split at k
  ·split at k
   ·rename_i hc;rw [if_pos hc];exact mP h k
   ·rename_i hc;rw [if_neg hc];exact k
  ·exact k
  ·cases k
theorem vJ {f g:cr} (h:leC f g) {sg:Nat→Sig}:∀ {l:List SI} {c x:CSt},plC f sg l c=some x→plC g sg l c=some x:=by
 intro l;induction l with
 |nil=>intro c x k;simpa [plC]using k
 |cons i r ih=>
  intro c x k;simp only [plC]at k ⊢;cases hs:opC f sg c i.dst i.op with
  |none=>rw [hs]at k;simp [nxP]at k
  |some c1=>rw [hs]at k;rw [mP h hs];simp only [nxP]at k ⊢;exact ih k
theorem sn {f g:cr} (h:leC f g) {sg:Nat→Sig} {b:Bool} {l:List SI} {c x:CSt} {v:SV} (k:pY f sg b l c v=some x):pY g sg b l c v=some x:=by
 unfold pY at k ⊢;split at k
 ·split at k
  ·rename_i hc;rw [if_pos hc];exact vJ h k
  ·rename_i hc;rw [if_neg hc];exact k
 ·exact k
 ·cases k
theorem nH {f g:cr} (h:leC f g) {sg:Nat→Sig}:∀ {l:List RI} {c x:CSt},fP f sg l c=some x→fP g sg l c=some x:=by
 intro l;induction l with
 |nil=>intro c x k;simpa [fP]using k
 |cons i r ih=>
  intro c x k;cases i with
  |op i dead=>
   simp only [fP]at k ⊢;cases hs:dS f sg c i with
   |none=>rw [hs]at k;simp [nxC]at k
   |some c1=>rw [hs]at k;rw [js h hs];simp only [nxC]at k ⊢;exact ih k
  |grp q b l dead=>
   simp only [fP]at k ⊢;cases hs:pY f sg b l c (c.get q)with
   |none=>rw [hs]at k;simp [nxC]at k
   |some c1=>rw [hs]at k;rw [sn h hs];simp only [nxC]at k ⊢;exact ih k
  |own i dead=>
   simp only [fP]at k ⊢;cases hs:tL c i with
   |none=>rw [hs]at k;simp [nxC]at k
   |some c1=>rw [hs]at k;simp only [nxC]at k ⊢;exact ih k
  |tks i dead=>
   simp only [fP]at k ⊢;cases hs:Av c i with
   |none=>rw [hs]at k;simp [nxC]at k
   |some c1=>rw [hs]at k;simp only [nxC]at k ⊢;exact ih k
  |dir d=>
   simp only [fP]at k ⊢;cases hs:sH c d with
   |none=>rw [hs]at k;simp [nxC]at k
   |some c1=>rw [hs]at k;simp only [nxC]at k ⊢;exact ih k
theorem yb {x:fD} {a b:Option ec} (h:∀q,a=some q→b=some q) (k:uP a=some x):uP b=some x:=by
 cases a with
 |none=>cases k
 |some q=>rw [h q rfl];exact k
theorem ya {f g:cr} (h:leC f g) {c:CSt} {n:Nat} {as:List SV} {l:List Nat} {x:fD} (k:qd f c n as l=some x):qd g c n as l=some x:=by
 cases l with
 |nil=>cases k
 |cons o r=>
  simp only [qd]at k ⊢;cases hl:c.look o with
  |none=>rw [hl]at k;cases k
  |some ob=>
   rw [hl]at k;simp only [o6]at k ⊢;generalize (ob.ids.isEmpty&&ob.toks.isEmpty&&(SV.idsL as).all (fun k=>decide (k=o))&&(SV.idsL (SV.renL (eB [o]) id as)).all (fun k=>decide (k=0)))=q at k ⊢;cases q with
   |false=>cases k
   |true=>
    simp only [o5]at k ⊢;cases hq:f n (SV.renL (eB [o]) id as) [ob] 0 with
    |none=>rw [hq]at k;cases k
    |some q=>rw [h _ _ _ _ _ hq];rw [hq]at k;exact k
theorem vj {f g:cr} (h:leC f g) {sg:Nat→Sig} {c:CSt} {as:List SV} {v:SV} {x:fD} (k:lH f sg c as v=some x):lH g sg c as v=some x:=by
 cases v with
 |fn n a b=>
  simp only [lH]at k ⊢;generalize ((SV.idsL (a++as++b)).isEmpty&&(sg n).own.isEmpty)=q at k ⊢;cases q with
  |false=>
   simp only [jX]at k ⊢;generalize (sg n).own.isEmpty=q at k ⊢;cases q with
   |false=>cases k
   |true=>exact ya h k
  |true=>exact yb (fun q hq=>h _ _ _ _ _ hq) k
 |_=>cases k
theorem nR {f g:cr} (h:leC f g) {sg:Nat→Sig} {c:CSt} {i:SI} {x:fD} (k:dQ f sg c i=some x):dQ g sg c i=some x:=by
 unfold dQ at k ⊢;split at k
 ·exact vj h k
 ·exact k
 ·exact k
 ·exact k
theorem jc {f g:cr} (h:leC f g) {sg:Nat→Sig} {b:List Nat}:∀ {l ps:List FI} {c x:CSt},fe f sg b l ps c=some x→fe g sg b l ps c=some x:=by
 intro l;induction l with
 |nil=>intro ps c x k;simpa [fe]using k
 |cons i r ih=>
  intro ps c x k;obtain⟨n,q,i⟩:=i;cases q with
  |true=>
   simp only [fe]at k ⊢;cases hq:qv c i with
   |none=>rw [hq]at k;simp [we]at k
   |some v=>rw [hq]at k;simp only [we]at k ⊢;exact ih k
  |false=>
   simp only [fe]at k ⊢;cases hs:dS f sg c i with
   |none=>rw [hs]at k;simp [rt]at k
   |some c1=>
    rw [hs]at k;rw [js h hs];simp only [rt]at k ⊢;cases hg:gdP (tS (b.getD n 0) c1 ps) c1 with
    |none=>rw [hg]at k;simp [ru]at k
    |some c2=>rw [hg]at k;simp only [ru]at k ⊢;exact ih k
theorem nZ {f g:cr} (h:leC f g) {sg:Nat→Sig} {b:List Nat} {l:List FI}:∀ {ps:List (List Nat)} {c x:CSt},je f sg b l ps c=some x→je g sg b l ps c=some x
 |[],c,x,k=>by simp [je]at k
 |[p],c,x,k=>jc h k
 |p::q::r,c,x,k=>by
  simp only [je]at k ⊢;cases h1:fe f sg b (iT l p) [] c with
  |none=>rw [h1]at k;simp [oU]at k
  |some y=>
   cases h2:je f sg b l (q::r) c with
   |none=>rw [h1,h2]at k;simp [oU]at k
   |some z=>rw [h1,h2]at k;rw [jc h h1,nZ h h2];exact k
theorem rW {f g:cr} (h:leC f g) {sg:Nat→Sig} {b:List Nat}:∀ {l:List SI} {fs:List eN} {c x:CSt},iR f sg b l fs c=some x→iR g sg b l fs c=some x:=by
 intro l;induction l with
 |nil=>intro fs c x k;simpa [iR]using k
 |cons i r ih=>
  intro fs c x k
  have nx:∀ {o:Option fD} {o':Option fD},(∀e,o=some e→o'=some e)→nxD f sg b i.op i.dst r fs c o=some x→nxD g sg b i.op i.dst r fs c o'=some x:=by
   intro o o' ho hk;cases o with
   |none=>simp [nxD]at hk
   |some e=>rw [ho e rfl];simp only [nxD]at hk ⊢;exact ih hk
  simp only [iR]at k ⊢;split at k
  ·exact nx (fun e he=>nR h he) k
  ·split at k
   ·split at k
    ·rename_i hc;rw [if_pos hc];exact nx (fun e he=>nR h he) k
    ·rename_i hc;rw [if_neg hc];exact ih k
   ·cases k
theorem pq {rn rn':RC→CSt→gQ} {f g:cr} (hr:leR rn rn') (h:leC f g) {sg:Nat→Sig} {r:RC} {c:CSt} {x:Ex×CSt} (k:dx rn f sg r c=some x):dx rn' g sg r c=some x:=by
 cases r with
 |skip=>exact k
 |ret=>exact k
 |exit id=>exact k
 |ops l=>
  simp only [dx]at k ⊢;cases hs:fP f sg l c with
  |none=>rw [hs]at k;cases k
  |some c1=>rw [hs]at k;rw [nH h hs];exact k
 |drw b ds l dead=>
  simp only [dx]at k ⊢;cases hs:iR f sg b l [] (gcC c ds)with
  |none=>rw [hs]at k;cases k
  |some c1=>rw [hs]at k;rw [rW h hs];exact k
 |flt b ds l dead=>
  simp only [dx]at k ⊢;cases hs:fe f sg b l [] c with
  |none=>rw [hs]at k;simp [nrm]at k
  |some c1=>rw [hs]at k;rw [jc h hs];exact k
 |fla b ds l ps dead=>
  simp only [dx]at k ⊢;cases hs:je f sg b l ps c with
  |none=>rw [hs]at k;simp [nrm]at k
  |some c1=>rw [hs]at k;rw [nZ h hs];exact k
 |seq a b=>
  simp only [dx]at k ⊢;cases hs:rn a c with
  |none=>rw [hs]at k;cases k
  |some p=>
   rw [hs]at k;rw [hr _ _ _ hs];obtain⟨e,c1⟩:=p;cases e with
   |n=>exact hr _ _ _ k
   |x id=>exact k
   |r=>exact k
 |cond a y z=>
  simp only [dx]at k ⊢;unfold cnd at k ⊢;split at k
  ·split at k
   ·rename_i hc;rw [if_pos hc];exact hr _ _ _ k
   ·rename_i hc;rw [if_neg hc];exact hr _ _ _ k
  ·cases k
 |block id b=>
  simp only [dx]at k ⊢;cases hs:rn b c with
  |none=>rw [hs]at k;cases k
  |some p=>rw [hs]at k;rw [hr _ _ _ hs];exact k
 |loop b=>
  simp only [dx]at k ⊢;cases hs:rn b c with
  |none=>rw [hs]at k;cases k
  |some p=>
   rw [hs]at k;rw [hr _ _ _ hs];obtain⟨e,c1⟩:=p;cases e with
   |n=>exact hr _ _ _ k
   |x id=>exact k
   |r=>exact k
 |pre ds a=>
  simp only [dx]at k ⊢;cases hs:iO c ds with
  |none=>rw [hs]at k;cases k
  |some c1=>rw [hs]at k;exact hr _ _ _ k
 |bad=>cases k
 |post a ds=>
  simp only [dx]at k ⊢;cases hs:rn a c with
  |none=>rw [hs]at k;cases k
  |some p=>rw [hs]at k;rw [hr _ _ _ hs];exact k
theorem l7 {rn rn':RC→CSt→gQ} (hr:leR rn rn') {o:Option FnB} {a:List SV} {os:List aB} {k:Nat} {x:ec} (h:oT rn o a os k=some x):oT rn' o a os k=some x:=by
 cases o with
 |none=>cases h
 |some b=>
  cases b with
  |prim f=>exact h
  |code F=>
   simp only [oT,E1]at h ⊢;split at h
   ·rename_i hc
    rw [if_pos hc];cases hs:rn F.code (rK a os k)with
    |none=>rw [hs]at h;cases h
    |some p=>rw [hs]at h;rw [hr _ _ _ hs];exact h
   ·cases h
variable {T : oV}
theorem rV:∀n,leR (gL T n) (gL T (n+1))
 |0=>fun r c x h=>by simp [gL]at h
 |n+1=>fun r c x h=>by have ih:=rV n;rw [gL]at h ⊢;exact pq ih (fun g a os k x h=>l7 ih h) h
theorem kS {n m:Nat} (h:n≤m):leR (gL T n) (gL T m):=by
 induction m with
 |zero=>
  have:n=0:=by omega
  subst this;exact fun _ _ _ h=>h
 |succ m ih=>
  rcases bQ n (m+1)with h1|h1
  ·exact fun r c x hx=>rV m r c x (ih (by omega) r c x hx)
  ·have:n=m+1:=by omega
   subst this;exact fun _ _ _ h=>h
theorem da {n m:Nat} (h:n≤m):leC (eh T n) (eh T m):=fun _ _ _ _ _ hx=>l7 (kS h) hx
theorem vV {α:Type} {g:Nat→Option α} (hm:∀n m x,n≤m→g n=some x→g m=some x) {n:Nat} {x:α} (h:g n=some x):lim g=some x:=by have hex:∃n x,g n=some x:=⟨n,x,h⟩;unfold lim;rw [dif_pos hex];obtain⟨y,hy⟩:=Classical.choose_spec hex;have h1:=hm _ (max n (Classical.choose hex)) _ (mH _ _) hy;have h2:=hm _ (max n (Classical.choose hex)) _ (pb _ _) h;rw [hy,←h1,h2]
theorem Qn {α:Type} {g:Nat→Option α} {x:α} (h:lim g=some x):∃n,g n=some x:=by
 unfold lim at h;split at h
 ·exact⟨_,h⟩
 ·cases h
theorem Hm {n:Nat} {r:RC} {c:CSt} {x:Ex×CSt} (h:gL T n r c=some x):run T r c=some x:=vV (fun _ _ _ hnm h=>kS hnm _ _ _ h) h
theorem gT {r:RC} {c:CSt} {x:Ex×CSt} (h:run T r c=some x):∃n,gL T n r c=some x:=Qn h
theorem tZ {n:Nat} {g:Nat} {a:List SV} {os:List aB} {k:Nat} {x:ec} (h:eh T n g a os k=some x):call T g a os k=some x:=vV (fun _ _ _ hnm h=>da hnm _ _ _ _ _ h) h
theorem lx {g:Nat} {a:List SV} {os:List aB} {k:Nat} {x:ec} (h:call T g a os k=some x):∃n,eh T n g a os k=some x:=Qn h
theorem Hn (n:Nat):leR (gL T n) (run T):=fun _ _ _ h=>Hm h
theorem Ud (n:Nat):leC (eh T n) (call T):=fun _ _ _ _ _ h=>tZ h
theorem ye {sg:Sig} {c:CSt} {d:Option Nat} {g:Nat} {as:List SV} {x:CSt} (k:iA (call T) sg c d g as=some x):∃n,iA (eh T n) sg c d g as=some x:=by
 unfold iA at k ⊢;generalize ((SV.idsL as).isEmpty&&sg.own.isEmpty)=b at k ⊢;cases b with
 |true=>
  simp only [jW]at k ⊢;cases hq:call T g (SV.bareL as) [] 0 with
  |none=>rw [hq]at k;cases k
  |some q=>obtain⟨n,hn⟩:=lx hq;exact⟨n,by rw [hn];rw [hq]at k;exact k⟩
 |false=>
  simp only [jW]at k ⊢;generalize eV c as (i5 sg.raw 0 as)=z at k ⊢;obtain⟨c1,as1⟩:=z;simp only [jR]at k ⊢;generalize ka c1.tk sg.own 50 0 as1=z at k ⊢;obtain⟨as',mt1⟩:=z;simp only [oJ]at k ⊢;cases ho:gE c1 (dO c1 60 [] (SV.idsL as'))with
  |none=>rw [ho]at k;cases k
  |some os=>
   rw [ho]at k;simp only [lS]at k ⊢;generalize ed c1.tk (50+mt1.length) os=z at k ⊢;obtain⟨os',mt2⟩:=z;simp only [oI]at k ⊢;generalize (pn (SV.idsL as'++fL os') (dO c1 60 [] (SV.idsL as'))&&dB (dO c1 60 [] (SV.idsL as'))&&dB (cB (mt1++mt2))&&decide ((dO c1 60 [] (SV.idsL as')).length≤40)&&(dO c1 60 [] (SV.idsL as')).all fun o=> !inR (d.getD 0) o)=b at k ⊢;cases b with
   |false=>cases k
   |true=>
    simp only [oH]at k ⊢;cases hq:call T g (SV.renL (eB (dO c1 60 [] (SV.idsL as'))) id as') (ei (eB (dO c1 60 [] (SV.idsL as'))) id os') (mt1.length+mt2.length)with
    |none=>rw [hq]at k;cases k
    |some q=>obtain⟨n,hn⟩:=lx hq;exact⟨n,by rw [hn];rw [hq]at k;exact k⟩
theorem qE {sg:Nat→Sig} {c:CSt} {d:Option Nat} {o:SOp} {x:CSt} (k:opC (call T) sg c d o=some x):∃n,opC (eh T n) sg c d o=some x:=by
 cases o with
 |call a as=>simp only [opC]at k ⊢;split at k<;>first|exact ye k|cases k
 |_=>exact⟨0,k⟩
theorem pt {sg:Nat→Sig} {c:CSt} {i:SI} {x:CSt} (k:dS (call T) sg c i=some x):∃n,dS (eh T n) sg c i=some x:=by
 unfold dS at k ⊢;split at k
 ·exact qE k
 ·split at k
  ·split at k
   ·rename_i hc;simp only [if_pos hc];exact qE k
   ·rename_i hc;simp only [if_neg hc];exact⟨0,k⟩
  ·exact⟨0,k⟩
  ·cases k
theorem FZ {sg:Nat→Sig}:∀ {l:List SI} {c x:CSt},plC (call T) sg l c=some x→∃n,plC (eh T n) sg l c=some x:=by
 intro l;induction l with
 |nil=>intro c x k;exact⟨0,by simpa [plC]using k⟩
 |cons i r ih=>
  intro c x k;simp only [plC]at k ⊢;cases hs:opC (call T) sg c i.dst i.op with
  |none=>rw [hs]at k;simp [nxP]at k
  |some c1=>rw [hs]at k;simp only [nxP]at k;obtain⟨n,hn⟩:=qE hs;obtain⟨m,hm⟩:=ih k;refine⟨max n m, ?_⟩;rw [mP (da (pb n m)) hn];simp only [nxP];exact vJ (da (mH n m)) hm
theorem Eh {sg:Nat→Sig} {b:Bool} {l:List SI} {c x:CSt} {v:SV} (k:pY (call T) sg b l c v=some x):∃n,pY (eh T n) sg b l c v=some x:=by
 unfold pY at k ⊢;split at k
 ·split at k
  ·rename_i hc;simp only [if_pos hc];exact FZ k
  ·rename_i hc;simp only [if_neg hc];exact⟨0,k⟩
 ·exact⟨0,k⟩
 ·cases k
theorem D2 {sg:Nat→Sig}:∀ {l:List RI} {c x:CSt},fP (call T) sg l c=some x→∃n,fP (eh T n) sg l c=some x:=by
 intro l;induction l with
 |nil=>intro c x k;exact⟨0,by simpa [fP]using k⟩
 |cons i r ih=>
  intro c x k;cases i with
  |op i dead=>
   simp only [fP]at k ⊢;cases hs:dS (call T) sg c i with
   |none=>rw [hs]at k;simp [nxC]at k
   |some c1=>rw [hs]at k;simp only [nxC]at k;obtain⟨n,hn⟩:=pt hs;obtain⟨m,hm⟩:=ih k;refine⟨max n m, ?_⟩;rw [js (da (pb n m)) hn];simp only [nxC];exact nH (da (mH n m)) hm
  |grp q b l dead=>
   simp only [fP]at k ⊢;cases hs:pY (call T) sg b l c (c.get q)with
   |none=>rw [hs]at k;simp [nxC]at k
   |some c1=>rw [hs]at k;simp only [nxC]at k;obtain⟨n,hn⟩:=Eh hs;obtain⟨m,hm⟩:=ih k;refine⟨max n m, ?_⟩;rw [sn (da (pb n m)) hn];simp only [nxC];exact nH (da (mH n m)) hm
  |own i dead=>
   simp only [fP]at k ⊢;cases hs:tL c i with
   |none=>rw [hs]at k;simp [nxC]at k
   |some c1=>rw [hs]at k;simp only [nxC]at k ⊢;exact ih k
  |tks i dead=>
   simp only [fP]at k ⊢;cases hs:Av c i with
   |none=>rw [hs]at k;simp [nxC]at k
   |some c1=>rw [hs]at k;simp only [nxC]at k ⊢;exact ih k
  |dir d=>
   simp only [fP]at k ⊢;cases hs:sH c d with
   |none=>rw [hs]at k;simp [nxC]at k
   |some c1=>rw [hs]at k;simp only [nxC]at k ⊢;exact ih k
theorem Ey {sg:Nat→Sig} {c:CSt} {i:SI} {x:fD} (k:dQ (call T) sg c i=some x):∃n,dQ (eh T n) sg c i=some x:=by
 unfold dQ at k ⊢;split at k
 ·rename_i f as _
  cases hv:c.ev f with
  |fn n a b=>
   rw [hv]at k;simp only [lH]at k ⊢;generalize ((SV.idsL (a++evL c as++b)).isEmpty&&(sg n).own.isEmpty)=q at k ⊢;cases q with
   |false=>
    simp only [jX]at k ⊢;generalize (sg n).own.isEmpty=q at k ⊢;cases q with
    |false=>cases k
    |true=>
     simp only [o4]at k ⊢;generalize SV.idsL (a++evL c as++b)=ids at k ⊢;cases ids with
     |nil=>cases k
     |cons o r=>
      simp only [qd]at k ⊢;cases hl:c.look o with
      |none=>rw [hl]at k;cases k
      |some ob=>
       rw [hl]at k;simp only [o6]at k ⊢;generalize (ob.ids.isEmpty&&ob.toks.isEmpty&&(SV.idsL (SV.bareL (a++evL c as++b))).all (fun k=>decide (k=o))&&(SV.idsL (SV.renL (eB [o]) id (SV.bareL (a++evL c as++b)))).all (fun k=>decide (k=0)))=q at k ⊢;cases q with
       |false=>cases k
       |true=>
        simp only [o5]at k ⊢;cases hq:call T n (SV.renL (eB [o]) id (SV.bareL (a++evL c as++b))) [ob] 0 with
        |none=>rw [hq]at k;cases k
        |some q=>obtain⟨n,hn⟩:=lx hq;exact⟨n,by rw [hn];rw [hq]at k;exact k⟩
   |true=>
    simp only [jX]at k ⊢;cases hq:call T n (SV.bareL (a++evL c as++b)) [] 0 with
    |none=>rw [hq]at k;cases k
    |some q=>obtain⟨n,hn⟩:=lx hq;exact⟨n,by rw [hn];rw [hq]at k;exact k⟩
  |_=>rw [hv]at k;cases k
 ·exact⟨0,k⟩
 ·exact⟨0,k⟩
 ·exact⟨0,k⟩
theorem nP {sg:Nat→Sig} {b:List Nat}:∀ {l ps:List FI} {c x:CSt},fe (call T) sg b l ps c=some x→∃n,fe (eh T n) sg b l ps c=some x:=by
 intro l;induction l with
 |nil=>intro ps c x k;exact⟨0,by simpa [fe]using k⟩
 |cons i r ih=>
  intro ps c x k;obtain⟨n,q,i⟩:=i;cases q with
  |true=>
   simp only [fe]at k ⊢;cases hq:qv c i with
   |none=>rw [hq]at k;simp [we]at k
   |some v=>rw [hq]at k;simp only [we]at k ⊢;exact ih k
  |false=>
   simp only [fe]at k ⊢;cases hs:dS (call T) sg c i with
   |none=>rw [hs]at k;simp [rt]at k
   |some c1=>
    rw [hs]at k;simp only [rt]at k;cases hg:gdP (tS (b.getD n 0) c1 ps) c1 with
    |none=>rw [hg]at k;simp [ru]at k
    |some c2=>rw [hg]at k;simp only [ru]at k;obtain⟨m1,hm1⟩:=pt hs;obtain⟨m2,hm2⟩:=ih k;refine⟨max m1 m2, ?_⟩;rw [js (da (pb m1 m2)) hm1];simp only [rt];rw [hg];simp only [ru];exact jc (da (mH m1 m2)) hm2
theorem sQ {sg:Nat→Sig} {b:List Nat} {l:List FI}:∀ {ps:List (List Nat)} {c x:CSt},je (call T) sg b l ps c=some x→∃n,je (eh T n) sg b l ps c=some x
 |[],c,x,k=>by simp [je]at k
 |[p],c,x,k=>nP k
 |p::q::r,c,x,k=>by
  simp only [je]at k ⊢;cases h1:fe (call T) sg b (iT l p) [] c with
  |none=>rw [h1]at k;simp [oU]at k
  |some y=>
   cases h2:je (call T) sg b l (q::r) c with
   |none=>rw [h1,h2]at k;simp [oU]at k
   |some z=>rw [h1,h2]at k;obtain⟨n,hn⟩:=nP h1;obtain⟨m,hm⟩:=sQ h2;exact⟨max n m,by rw [jc (da (pb n m)) hn,nZ (da (mH n m)) hm];exact k⟩
theorem DV {sg:Nat→Sig} {b:List Nat}:∀ {l:List SI} {fs:List eN} {c x:CSt},iR (call T) sg b l fs c=some x→∃n,iR (eh T n) sg b l fs c=some x:=by
 intro l;induction l with
 |nil=>intro fs c x k;exact⟨0,by simpa [iR]using k⟩
 |cons i r ih=>
  intro fs c x k
  have nx:nxD (call T) sg b i.op i.dst r fs c (dQ (call T) sg c i)=some x→∃n,nxD (eh T n) sg b i.op i.dst r fs c (dQ (eh T n) sg c i)=some x:=by
   intro hk;cases ho:dQ (call T) sg c i with
   |none=>rw [ho]at hk;simp [nxD]at hk
   |some e=>rw [ho]at hk;simp only [nxD]at hk;obtain⟨n,hn⟩:=Ey ho;obtain⟨m,hm⟩:=ih hk;refine⟨max n m, ?_⟩;rw [nR (da (pb n m)) hn];simp only [nxD];exact rW (da (mH n m)) hm
  simp only [iR]at k ⊢;split at k
  ·exact nx k
  ·split at k
   ·split at k
    ·rename_i hc;simp only [if_pos hc];exact nx k
    ·rename_i hc;simp only [if_neg hc];exact ih k
   ·cases k
theorem two {r s:RC} {c d:CSt} {x y:Ex×CSt} (h:run T r c=some x) (k:run T s d=some y):∃n,gL T n r c=some x∧gL T n s d=some y:=by obtain⟨n,hn⟩:=gT h;obtain⟨m,hm⟩:=gT k;exact⟨max n m,kS (pb n m) _ _ _ hn,kS (mH n m) _ _ _ hm⟩
theorem wP {r:RC} {c:CSt} {x:Ex×CSt} (k:dx (run T) (call T) T.sg r c=some x):∃n,dx (gL T n) (eh T n) T.sg r c=some x:=by
 cases r with
 |skip=>exact⟨0,k⟩
 |ret=>exact⟨0,k⟩
 |exit id=>exact⟨0,k⟩
 |ops l=>
  simp only [dx]at k ⊢;cases hs:fP (call T) T.sg l c with
  |none=>rw [hs]at k;cases k
  |some c1=>obtain⟨n,hn⟩:=D2 hs;exact⟨n,by rw [hn];rw [hs]at k;exact k⟩
 |drw b ds l dead=>
  simp only [dx]at k ⊢;cases hs:iR (call T) T.sg b l [] (gcC c ds)with
  |none=>rw [hs]at k;cases k
  |some c1=>obtain⟨n,hn⟩:=DV hs;exact⟨n,by rw [hn];rw [hs]at k;exact k⟩
 |flt b ds l dead=>
  simp only [dx]at k ⊢;cases hs:fe (call T) T.sg b l [] c with
  |none=>rw [hs]at k;simp [nrm]at k
  |some c1=>obtain⟨n,hn⟩:=nP hs;exact⟨n,by rw [hn];rw [hs]at k;exact k⟩
 |fla b ds l ps dead=>
  simp only [dx]at k ⊢;cases hs:je (call T) T.sg b l ps c with
  |none=>rw [hs]at k;simp [nrm]at k
  |some c1=>obtain⟨n,hn⟩:=sQ hs;exact⟨n,by rw [hn];rw [hs]at k;exact k⟩
 |seq a b=>
  simp only [dx]at k ⊢;cases hs:run T a c with
  |none=>rw [hs]at k;cases k
  |some p=>
   rw [hs]at k;obtain⟨e,c1⟩:=p;cases e with
   |n=>obtain⟨n,h1,h2⟩:=two hs k;exact⟨n,by rw [h1];exact h2⟩
   |x id=>obtain⟨n,hn⟩:=gT hs;exact⟨n,by rw [hn];exact k⟩
   |r=>obtain⟨n,hn⟩:=gT hs;exact⟨n,by rw [hn];exact k⟩
 |cond a y z=>
  simp only [dx]at k ⊢;unfold cnd at k ⊢;split at k
  ·split at k
   ·rename_i hc;simp only [if_pos hc];exact gT k
   ·rename_i hc;simp only [if_neg hc];exact gT k
  ·cases k
 |block id b=>
  simp only [dx]at k ⊢;cases hs:run T b c with
  |none=>rw [hs]at k;cases k
  |some p=>obtain⟨n,hn⟩:=gT hs;exact⟨n,by rw [hn];rw [hs]at k;exact k⟩
 |loop b=>
  simp only [dx]at k ⊢;cases hs:run T b c with
  |none=>rw [hs]at k;cases k
  |some p=>
   rw [hs]at k;obtain⟨e,c1⟩:=p;cases e with
   |n=>obtain⟨n,h1,h2⟩:=two hs k;exact⟨n,by rw [h1];exact h2⟩
   |x id=>obtain⟨n,hn⟩:=gT hs;exact⟨n,by rw [hn];exact k⟩
   |r=>obtain⟨n,hn⟩:=gT hs;exact⟨n,by rw [hn];exact k⟩
 |pre ds a=>
  simp only [dx]at k ⊢;cases hs:iO c ds with
  |none=>rw [hs]at k;cases k
  |some c1=>rw [hs]at k;exact gT k
 |bad=>cases k
 |post a ds=>
  simp only [dx]at k ⊢;cases hs:run T a c with
  |none=>rw [hs]at k;cases k
  |some p=>obtain⟨n,hn⟩:=gT hs;exact⟨n,by rw [hn];rw [hs]at k;exact k⟩
theorem tM {α:Type} {a b:Option α} (h:∀x,a=some x→b=some x) (k:∀x,b=some x→a=some x):a=b:=by
 cases a with
 |none=>cases b with
  |none=>rfl
  |some x=>exact absurd (k x rfl) (by simp)
 |some x=>exact(h x rfl).symm
theorem gS (r:RC) (c:CSt):run T r c=dx (run T) (call T) T.sg r c:=by
 refine tM (fun x h=> ?_) (fun x h=> ?_)
 ·obtain⟨n,hn⟩:=gT h
  cases n with
  |zero=>simp [gL]at hn
  |succ n=>rw [gL]at hn;exact pq (Hn n) (Ud n) hn
 ·obtain⟨n,hn⟩:=wP h
  exact Hm (n:=n+1) (by rw [gL];exact hn)
theorem Da (g:Nat) (a:List SV) (os:List aB) (k:Nat):call T g a os k=oT (run T) (T.fn g) a os k:=by
 refine tM (fun x h=> ?_) (fun x h=> ?_)
 ·obtain⟨n,hn⟩:=lx h
  exact l7 (Hn n) hn
 ·cases hF:T.fn g with
  |none=>rw [hF]at h;cases h
  |some b=>
   cases b with
   |prim f=>exact tZ (n:=0) (by unfold eh;rw [hF];rw [hF]at h;exact h)
   |code F=>
    rw [hF]at h;simp only [oT,E1]at h;split at h
    ·rename_i hc
     cases hs:run T F.code (rK a os k)with
     |none=>rw [hs]at h;cases h
     |some p=>obtain⟨n,hn⟩:=gT hs;refine tZ (n:=n) ?_;unfold eh;rw [hF];simp only [oT,E1,if_pos hc];rw [hn];rw [hs]at h;exact h
    ·cases h
theorem FK (c:CSt):run T .skip c=some (.n,c):=gS _ _
theorem Sh (c:CSt):run T .ret c=some (.r,c):=gS _ _
theorem FO (id:Nat) (c:CSt):run T (.exit id) c=some (.x id,c):=gS _ _
theorem Sj (l:List RI) (c:CSt):run T (.ops l) c=nrm [] (fP (call T) T.sg l c):=gS _ _
theorem Sl (b ds:List Nat) (l:List FI) (ps:List (List Nat)) (dead:List Nat) (c:CSt):run T (.fla b ds l ps dead) c=nrm dead (je (call T) T.sg b l ps c):=gS _ _
theorem Sk (b ds:List Nat) (l:List FI) (dead:List Nat) (c:CSt):run T (.flt b ds l dead) c=nrm dead (fe (call T) T.sg b l [] c):=gS _ _
theorem Sm (b ds:List Nat) (l:List SI) (dead:List Nat) (c:CSt):run T (.drw b ds l dead) c=nrm dead (iR (call T) T.sg b l [] (gcC c ds)):=gS _ _
theorem Sg (a b:RC) (c:CSt):run T (.seq a b) c=sq (run T) b (run T a c):=gS _ _
theorem FP (k:Arg) (a b:RC) (c:CSt):run T (.cond k a b) c=cnd (run T) a b c (c.ev k):=gS _ _
theorem DU (id:Nat) (b:RC) (c:CSt):run T (.block id b) c=blk id (run T b c):=gS _ _
theorem ak (b:RC) (c:CSt):run T (.loop b) c=lp (run T) b (run T b c):=gS _ _
theorem Si (ds:List Dir) (a:RC) (c:CSt):run T (.pre ds a) c=prD (run T) a (iO c ds):=gS _ _
theorem FM (a:RC) (ds:List Dir) (c:CSt):run T (.post a ds) c=psD ds (run T a c):=gS _ _
theorem au {g:Nat} {F:FnC} (h:T.fn g=some (.code F)) (a:List SV) (os:List aB) (k:Nat):call T g a os k=E2 F os.length (E1 (run T) F a os k):=by rw [Da,h];rfl
theorem nW {g:Nat} {f:List SV→List aB→Nat→Option ec} (h:T.fn g=some (.prim f)) (a:List SV) (os:List aB) (k:Nat):call T g a os k=f a os k:=by rw [Da,h];rfl
end Go.Sy
namespace Go.Sy
variable [ba]
variable {call : cr} {sg : Nat → Sig} {c : CSt} {d : Option Nat} {k : Nat}
theorem jV {α:Type} {p:Prop} [Decidable p] {v:α} (h:p):gd p v=some v:=if_pos h
def fJ (c:CSt) (d:Option Nat):Option SV→Option CSt
 |some v=>some (c.put d v)
 |none=>none
theorem DX (v:SV):fJ c d (some v)=some (c.put d v):=rfl
theorem DY:fJ c d none=none:=rfl
theorem FT (l:List (Nat×SV)) (o:List (Nat×aB)) (t:List Nat) (v:SV):CSt.put ⟨l,o,t⟩ (some k) v=⟨jH l k v,o,t⟩:=rfl
theorem FU (v:SV):CSt.put c none v=c:=rfl
theorem xih (l:List (Nat×SV)) (o:List (Nat×aB)) (t:List Nat) (n:Nat):CSt.get ⟨l,o,t⟩ n=eD l n:=rfl
theorem Tf (l:List (Nat×SV)) (o:List (Nat×aB)) (t:List Nat) (n:Nat):CSt.look ⟨l,o,t⟩ n=iU o n:=rfl
theorem xqr (n:Nat):c.ev (.t n)=c.get n:=rfl
theorem xqt (v:SV):c.ev (.c v)=v:=rfl
theorem xqs (g:Nat):c.ev (.f g)= .fn g [] []:=rfl
theorem qK:c.kill []=c:=rfl
theorem D8 (l:List (Nat×SV)) (o:List (Nat×aB)) (t:List Nat) (n:Nat) (r:List Nat):CSt.kill ⟨l,o,t⟩ (n::r)=⟨wv l (n::r),o,t⟩:=rfl
def fg:Option SV→Option fD
 |some v=>some {val:=v}
 |none=>none
theorem Dt (v:SV):fg (some v)=some {val:=v}:=rfl
theorem Du:fg none=none:=rfl
theorem qX {so:SOp} {o:Option SV} (h:dJ c d so=fg o):o8 c d (dJ c d so)=fJ c d o:=by rw [h];cases o<;>rfl
theorem RM (o:Option SV):(match o with|some v=>some {val:=v}|none=>none:Option fD)=fg o:=by cases o<;>rfl
def xH:SV→Option SV
 | .ptr o off=>some (.ptr o off)
 | .ap o sz i j=>some (.ap o sz i j)
 | .pp cs=>some (.pp cs)
 | .fn f a b=>some (.fn f a b)
 |_=>none
def Uo (ne:Bool):SV→SV→Option SV
 | .bool a,.bool b=>some (.bool (if ne then decide (a≠b)else decide (a=b)))
 |_,_=>none
def TP (ne:Bool) (ts:List Nat):SV→SV→Option SV
 | .agg cs,.agg ds=>(gO ts cs ds).map fun b=> .bool (if ne then !b else b)
 |_,_=>none
def q9:SV→Option SV
 | .str l=>some (.str l)
 |_=>none
def xQ (ne:Bool):SV→Option SV
 | .nili=>some (.bool (!ne))
 |_=>none
def Se:SV→Option SV
 | .str l=>some (.byt l .no)
 |_=>none
def Uq (c:CSt):SV→Option SV
 | .str _=>none
 |v=>(eW c v).map .str
def Hj (l:List UInt8):Option Int→Option Int→Option SV
 |some a,some b=>gd (0≤a∧a≤b∧b≤l.length) (.str ((l.take b.toNat).drop a.toNat))
 |_,_=>none
def xa (c:CSt) (lo hi:Option Arg):SV→Option SV
 | .str l=>Hj l (kC c lo 0) (kC c hi l.length)
 |_=>none
def xb (c:CSt) (len sz:Nat) (lo hi mx:Option Arg):SV→Option SV
 | .ptr o off=>if off=0 then og c sz (.psl o sz 0 len (some len)) lo hi mx else none
 |_=>none
def rx (off:Nat):SV→Option SV
 | .ptr o k=>some (.ptr o (k+off))
 | .ap o sz i j=>some (.ap o sz i (j+off))
 | .pp cs=>some (.pp (cs.drop off))
 |_=>none
def TB (off n:Nat) (ag:Bool):SV→Option SV
 | .agg cs=>gd (off+n≤cs.length) (dC ag n (cs.drop off))
 |_=>none
def np (sz:Nat):SV→Option Int→Option SV
 | .byt l _,some n=>gd (0≤n∧n<l.length∧sz=1) (.pp [.u8 (l.getD n.toNat 0)])
 | .lst sz' xs _,some n=>gd (0≤n∧n<xs.length∧sz=sz') (.pp (xs.getD n.toNat []))
 | .psl o sz' off k _,some n=>gd (0≤n∧n<k∧sz=sz') (.ap o sz (off+n.toNat) 0)
 |_,_=>none
def qL (len sz o off:Nat) (n:Int):Option aB→Option SV
 |some (.rc _)=>gd (0≤n∧n<len) (.ptr o (off+n.toNat*sz))
 |some _=>gd (off=0∧0≤n∧n<len) (.ap o sz n.toNat 0)
 |none=>none
def lE (c:CSt) (len sz:Nat):SV→Option Int→Option SV
 | .ptr o off,some n=>qL len sz o off n (c.look o)
 | .pp cs,some n=>gd (0≤n∧n<len∧cs.length=len*sz) (.pp (cs.drop (n.toNat*sz)))
 |_,_=>none
def xT (len sz:Nat) (ag:Bool):SV→Option Int→Option SV
 | .agg cs,some n=>gd (0≤n∧n<len∧cs.length=len*sz) (dC ag sz (cs.drop (n.toNat*sz)))
 |_,_=>none
def xS:SV→Option Int→Option SV
 | .str l,some n=>gd (0≤n∧n<l.length) (.u8 (l.getD n.toNat 0))
 |_,_=>none
def TJ (i:Nat):SV→Option SV
 | .tup vs=>gd (i<vs.length) (vs.getD i .undef)
 |_=>none
def lenC:Option Nat→Option SV
 |some n=>some (.int .i64 (n:Nat))
 |none=>none
def Uc:SV→Option SV
 | .psl _ _ _ _ (some m)=>some (.int .i64 m)
 | .byt l t=>if t= .clip then some (.int .i64 l.length)else none
 | .lst _ xs t=>if t= .clip then some (.int .i64 xs.length)else none
 |_=>none
def xI:SV→SV→Option SV
 | .int k a,.int k' b=>if k=k' then some (.int k (if b<a then b else a))else none
 |_,_=>none
def xJ:SV→SV→Option SV
 | .int k a,.int k' b=>if k=k' then some (.int k (if a<b then b else a))else none
 |_,_=>none
def rA:Option (List SV)→Option SV
 |some l=>some (.agg l)
 |none=>none
def Tg (sz:Nat):Option (List (List SV))→Option SV
 |some r=>some (.lst sz r .clip)
 |none=>none
def xL:Option (List UInt8)→Option SV
 |some r=>some (.byt r .clip)
 |none=>none
theorem UB (x:Arg):cD c (.mov x)=some (c.ev x):=rfl
theorem ti (z:List SV) (ps:List (Nat×Nat×Arg)):cD c (.build z ps)=rA (ii z (psC c ps)):=by simp only [cD];cases ii z (psC c ps)<;>rfl
theorem QL (sz:Nat) (xs:List Arg):cD c (.lit sz xs)=Tg sz (rows sz (evL c xs)):=by simp only [cD];cases rows sz (evL c xs)<;>rfl
theorem yy (xs:List Arg):cD c (.litB xs)=xL (toB (evL c xs)):=by simp only [cD];cases toB (evL c xs)<;>rfl
theorem Hd (n:Nat) (ag:Bool) (a:Arg):cD c (.load n ag a)=lY c n ag (c.ev a):=rfl
theorem G9 (x:Arg):cD c (.nchk x)=xH (c.ev x):=rfl
theorem UG (op:BinOp) (x y:Arg):cD c (.bin op x y)=Db op (c.ev x) (c.ev y):=rfl
theorem UH (ne:Bool) (x y:Arg):cD c (.beq ne x y)=Uo ne (c.ev x) (c.ev y):=rfl
theorem UE (ne:Bool) (ts:List Nat) (x y:Arg):cD c (.eqS ne ts x y)=TP ne ts (c.ev x) (c.ev y):=rfl
theorem xno (op:UnOp) (x:Arg):cD c (.un op x)=vo op (c.ev x):=rfl
theorem Ar (q:IntKind) (x:Arg):cD c (.toInt q x)=gI q (c.ev x):=rfl
theorem Aq (x:Arg):cD c (.toStr x)=q9 (c.ev x):=rfl
theorem Hf (ne:Bool) (x:Arg):cD c (.isni ne x)=xQ ne (c.ev x):=rfl
theorem UA (x:Arg):cD c (.s2b x)=Se (c.ev x):=rfl
theorem UI (x:Arg):cD c (.b2s x)=Uq c (c.ev x):=rfl
theorem Ha (f:Nat) (a b:List Arg):cD c (.mkfn f a b)=some (.fn f (evL c a) (evL c b)):=rfl
theorem yx (x:Arg) (lo hi:Option Arg):cD c (.slcS x lo hi)=xa c lo hi (c.ev x):=by simp only [cD];cases c.ev x<;>rfl
theorem G7 (sz:Nat) (x:Arg) (lo hi mx:Option Arg):cD c (.slcL sz x lo hi mx)=og c sz (c.ev x) lo hi mx:=rfl
theorem G8 (len sz:Nat) (x:Arg) (lo hi mx:Option Arg):cD c (.slcA len sz x lo hi mx)=xb c len sz lo hi mx (c.ev x):=rfl
theorem As (off:Nat) (x:Arg):cD c (.faddr off x)=rx off (c.ev x):=rfl
theorem UC (off n:Nat) (ag:Bool) (x:Arg):cD c (.fld off n ag x)=TB off n ag (c.ev x):=rfl
theorem vn (sz:Nat) (x i:Arg):cD c (.iaddrL sz x i)=np sz (c.ev x) (c.ev i).num:=rfl
theorem qx (len sz:Nat) (x i:Arg):cD c (.iaddrA len sz x i)=lE c len sz (c.ev x) (c.ev i).num:=by simp only [cD];unfold lE qL;rfl
theorem Hh (len sz:Nat) (ag:Bool) (x i:Arg):cD c (.idxA len sz ag x i)=xT len sz ag (c.ev x) (c.ev i).num:=rfl
theorem Hg (x i:Arg):cD c (.idxS x i)=xS (c.ev x) (c.ev i).num:=rfl
theorem UD (x:Arg) (i:Nat):cD c (.ext x i)=TJ i (c.ev x):=rfl
theorem QM (b:Bool) (x:Arg):cD c (.len b x)=lenC (jz b (c.ev x)):=by simp only [cD];cases jz b (c.ev x)<;>rfl
theorem He (n:Nat):cD c (.lenC n)=some (.int .i64 n):=rfl
theorem UF (x:Arg):cD c (.cap x)=Uc (c.ev x):=rfl
theorem Hb (x y:Arg):cD c (.mini x y)=xI (c.ev x) (c.ev y):=rfl
theorem Hc (x y:Arg):cD c (.maxi x y)=xJ (c.ev x) (c.ev y):=rfl
def SOp.pure:SOp→Bool
 | .new _| .box _| .mk _ _ _ _| .mkB _ _| .store _ _ _| .app _ _ _ _| .cpy _ _ _| .pick _ _ _| .call _ _| .isnil _ _| .newB _| .slid _=>false
 |_=>true
theorem nS {so:SOp} (h:so.pure=true):dJ c d so=fg (cD c so):=by
 cases so<;>first|cases h;done|rfl|exact RM _
theorem bT {so:SOp} (h:so.pure=true):opC call sg c d so=fJ c d (cD c so):=by
 have h1:opC call sg c d so=o8 c d (dJ c d so):=by cases so<;>first|rfl|cases h
 rw [h1];exact qX (nS h)
theorem xls (x:Arg):opC call sg c d (.mov x)=fJ c d (some (c.ev x)):=bT rfl
theorem S3 (z:List SV) (ps:List (Nat×Nat×Arg)):opC call sg c d (.build z ps)=fJ c d (rA (ii z (psC c ps))):=(bT rfl).trans (by rw [ti])
theorem xlu (sz:Nat) (xs:List Arg):opC call sg c d (.lit sz xs)=fJ c d (Tg sz (rows sz (evL c xs))):=(bT rfl).trans (by rw [QL])
theorem xhZ (xs:List Arg):opC call sg c d (.litB xs)=fJ c d (xL (toB (evL c xs))):=(bT rfl).trans (by rw [yy])
theorem xhY (n:Nat) (ag:Bool) (a:Arg):opC call sg c d (.load n ag a)=fJ c d (lY c n ag (c.ev a)):=bT rfl
theorem xhU (x:Arg):opC call sg c d (.nchk x)=fJ c d (xH (c.ev x)):=bT rfl
theorem xlC (op:BinOp) (x y:Arg):opC call sg c d (.bin op x y)=fJ c d (Db op (c.ev x) (c.ev y)):=bT rfl
theorem xlD (ne:Bool) (x y:Arg):opC call sg c d (.beq ne x y)=fJ c d (Uo ne (c.ev x) (c.ev y)):=bT rfl
theorem xly (ne:Bool) (ts:List Nat) (x y:Arg):opC call sg c d (.eqS ne ts x y)=fJ c d (TP ne ts (c.ev x) (c.ev y)):=bT rfl
theorem xpk (op:UnOp) (x:Arg):opC call sg c d (.un op x)=fJ c d (vo op (c.ev x)):=bT rfl
theorem SZ (q:IntKind) (x:Arg):opC call sg c d (.toInt q x)=fJ c d (gI q (c.ev x)):=bT rfl
theorem SY (x:Arg):opC call sg c d (.toStr x)=fJ c d (q9 (c.ev x)):=bT rfl
theorem xhT (xs:List Arg):opC call sg c d (.newB xs)=oO c d (toB (evL c xs)):=rfl
theorem xhO (x:Arg):opC call sg c d (.slid x)=rG c d (c.ev x):=rfl
theorem xG (k:Nat) (l:List UInt8):oO c (some k) (some l)=some (CSt.app c (some k) {val:= .psl (k+100) 1 0 l.length (some l.length),new:=some (.bar l)}):=rfl
theorem DC (o off n:Nat) (cap:Option Nat):rG c d (.psl o 1 off n cap)=py c d o off n cap (c.look o):=rfl
theorem DD (o off n:Nat) (cap:Option Nat) (l:List UInt8):py c d o off n cap (some (.bar l))=if off+n≤l.length∧cap=some n then some (((c.publish o []).1).put d (.byt ((l.drop off).take n) .clip))else none:=rfl
theorem xh1 (ne:Bool) (x:Arg):opC call sg c d (.isni ne x)=fJ c d (xQ ne (c.ev x)):=bT rfl
theorem xlq (x:Arg):opC call sg c d (.s2b x)=fJ c d (Se (c.ev x)):=bT rfl
theorem xlE (x:Arg):opC call sg c d (.b2s x)=fJ c d (Uq c (c.ev x)):=bT rfl
theorem xhV (f:Nat) (a b:List Arg):opC call sg c d (.mkfn f a b)=fJ c d (some (.fn f (evL c a) (evL c b))):=bT rfl
theorem xhP (x:Arg) (lo hi:Option Arg):opC call sg c d (.slcS x lo hi)=fJ c d (xa c lo hi (c.ev x)):=(bT rfl).trans (by rw [yx])
theorem xhQ (sz:Nat) (x:Arg) (lo hi mx:Option Arg):opC call sg c d (.slcL sz x lo hi mx)=fJ c d (og c sz (c.ev x) lo hi mx):=bT rfl
theorem xhR (len sz:Nat) (x:Arg) (lo hi mx:Option Arg):opC call sg c d (.slcA len sz x lo hi mx)=fJ c d (xb c len sz lo hi mx (c.ev x)):=bT rfl
theorem S2 (off:Nat) (x:Arg):opC call sg c d (.faddr off x)=fJ c d (rx off (c.ev x)):=bT rfl
theorem xlw (off n:Nat) (ag:Bool) (x:Arg):opC call sg c d (.fld off n ag x)=fJ c d (TB off n ag (c.ev x)):=bT rfl
theorem F2 (sz:Nat) (x i:Arg):opC call sg c d (.iaddrL sz x i)=fJ c d (np sz (c.ev x) (c.ev i).num):=bT rfl
theorem F4 (len sz:Nat) (x i:Arg):opC call sg c d (.iaddrA len sz x i)=fJ c d (lE c len sz (c.ev x) (c.ev i).num):=(bT rfl).trans (by rw [qx])
theorem xh3 (len sz:Nat) (ag:Bool) (x i:Arg):opC call sg c d (.idxA len sz ag x i)=fJ c d (xT len sz ag (c.ev x) (c.ev i).num):=bT rfl
theorem xh2 (x i:Arg):opC call sg c d (.idxS x i)=fJ c d (xS (c.ev x) (c.ev i).num):=bT rfl
theorem xlx (x:Arg) (i:Nat):opC call sg c d (.ext x i)=fJ c d (TJ i (c.ev x)):=bT rfl
theorem xlv (b:Bool) (x:Arg):opC call sg c d (.len b x)=fJ c d (lenC (jz b (c.ev x))):=(bT rfl).trans (by rw [QM])
theorem xh0 (n:Nat):opC call sg c d (.lenC n)=fJ c d (some (.int .i64 n)):=bT rfl
theorem xlA (x:Arg):opC call sg c d (.cap x)=fJ c d (Uc (c.ev x)):=bT rfl
theorem xhW (x y:Arg):opC call sg c d (.mini x y)=fJ c d (xI (c.ev x) (c.ev y)):=bT rfl
theorem xhX (x y:Arg):opC call sg c d (.maxi x y)=fJ c d (xJ (c.ev x) (c.ev y)):=bT rfl
def xz (a b:SV):SV→Option SV
 | .bool t=>some (iI t a b)
 |_=>none
theorem Qz (q a b:Arg):dJ c d (.pick q a b)=fg (xz (c.ev a) (c.ev b) (c.ev q)):=by simp only [dJ];cases c.ev q<;>rfl
theorem xhS (q a b:Arg):opC call sg c d (.pick q a b)=fJ c d (xz (c.ev a) (c.ev b) (c.ev q)):=qX (Qz q a b)
def uI (ne:Bool):SV→Option SV
 | .byt l _=>gd (l≠ []) (.bool ne)
 | .lst _ xs _=>gd (xs≠ []) (.bool ne)
 | .psl _ _ _ _ _=>some (.bool ne)
 |_=>none
theorem TY (ne:Bool) (x:Arg):dJ c d (.isnil ne x)=fg (uI ne (c.ev x)):=by simp only [dJ];cases c.ev x<;>first|rfl|(simp only [uI];unfold gd;split<;>rfl)
theorem S1 (ne:Bool) (x:Arg):opC call sg c d (.isnil ne x)=fJ c d (uI ne (c.ev x)):=qX (TY ne x)
def Df (c:CSt) (k:Nat) (o:aB) (v:SV):CSt:=CSt.app c (some k) {val:=v,new:=some o}
theorem Uv (l:List (Nat×SV)) (ob:List (Nat×aB)) (t:List Nat) (o:aB) (v:SV):
 Df ⟨l,ob,t⟩ k o v=⟨jH (dA (k+100) (k+101) l) k v,jb (bC (k+100) (k+101) ob) (k+100) (o.purge (k+100) (k+101)),cK (k+100) (k+101) t⟩:=rfl
def xoE (c:CSt) (k:Nat) (v:SV):Option aB→Option CSt
 |some o=>some (Df c k o v)
 |none=>none
theorem EF (v:SV) (o:aB):xoE c k v (some o)=some (Df c k o v):=rfl
theorem xlr (o:aB):opC call sg c (some k) (.new o)=xoE c k (.ptr (k+100) 0) (gd (o.wf=true) o):=by show o8 c (some k) (gd _ _)=_;unfold gd;split<;>rfl
theorem xlB (x:Arg):opC call sg c (some k) (.box x)=some (Df c k (.rc (c.ev x).cells) (.ptr (k+100) 0)):=rfl
def mkE (bytes:Nat):SV→SV→Option (Nat×Nat)
 | .int _ n,.int _ m=>gd (0≤n∧n≤m∧bytes*m≤140737488355328∧m≤9223372036854775807) (n.toNat,m.toNat)
 |_,_=>none
def mkS (c:CSt) (k:Nat) (z:List SV):Option (Nat×Nat)→Option CSt
 |some p=>some (Df c k (.arr z.length (am p.2 z)) (.psl (k+100) z.length 0 p.1 (some p.2)))
 |none=>none
theorem xpl (z:List SV) (bytes:Nat) (n m:Arg):opC call sg c (some k) (.mk z bytes n m)=mkS c k z (mkE bytes (c.ev n) (c.ev m)):=by show o8 c (some k) (dJ c (some k) (.mk z bytes n m))=_;simp only [dJ];cases h1:c.ev n<;>cases h2:c.ev m<;>first|rfl|(simp only [mkE];unfold gd;split<;>rfl)
def Tb:SV→SV→Option (Nat×Nat)
 | .int _ n,.int _ m=>gd (0≤n∧n≤m∧m≤140737488355328) (n.toNat,m.toNat)
 |_,_=>none
def xoh (c:CSt) (k:Nat):Option (Nat×Nat)→Option CSt
 |some p=>some (Df c k (.bar (am p.2 0)) (.psl (k+100) 1 0 p.1 (some p.2)))
 |none=>none
theorem xlt (n m:Arg):opC call sg c (some k) (.mkB n m)=xoh c k (Tb (c.ev n) (c.ev m)):=by show o8 c (some k) (dJ c (some k) (.mkB n m))=_;simp only [dJ];cases h1:c.ev n<;>cases h2:c.ev m<;>first|rfl|(simp only [Tb];unfold gd;split<;>rfl)
def stC (c:CSt) (n:Nat) (v:List SV):SV→Option (Nat×aB)
 | .ptr o off=>match c.look o with
  |some (.rc cs)=>gd (off+n≤cs.length∧v.length=n∧v.all SV.one=true) (o,.rc (gK cs off v))
  |some (.arr sz xs)=>gd (off=0∧n=xs.length*sz∧v.length=n∧v.all SV.isData=true) (o,.arr sz (jB sz xs.length (v.map SV.data)))
  |some (.bar l)=>match toB v with
   |some l'=>gd (off=0∧n=l.length∧l'.length=n) (o,.bar l')
   |none=>none
  |_=>none
 | .ap o sz i j=>match c.look o with
  |some (.arr sz' xs)=>gd (sz=sz'∧i<xs.length∧j+n≤sz∧v.length=n∧v.all SV.isData=true) (o,.arr sz' (fy sz xs i j n (v.map SV.data)))
  |some (.bar l)=>match v with
   |[.u8 b]=>gd (sz=1∧j=0∧n=1∧i<l.length) (o,.bar (l.set i b))
   |_=>none
  |_=>none
 |_=>none
def stS (c:CSt):Option (Nat×aB)→Option CSt
 |some p=>some ⟨c.tm,jb c.ob p.1 p.2,c.tk⟩
 |none=>none
theorem Fp (l:List (Nat×SV)) (ob:List (Nat×aB)) (t:List Nat) (p:Nat×aB):stS ⟨l,ob,t⟩ (some p)=some ⟨l,jb ob p.1 p.2,t⟩:=rfl
theorem Dy (n:Nat) (v:List SV) (a:SV):jQ c n v a=(stC c n v a).map fun p=> {val:= .undef,wr:=[p]}:=by
 cases a with
 |ptr o off=>
  simp only [jQ,stC];cases c.look o with
  |none=>rfl
  |some ob=>
   cases ob with
   |rc cs=>simp only;unfold gd;split<;>rfl
   |arr sz' xs=>simp only;unfold gd;split<;>rfl
   |bar l=>simp only;cases toB v<;>first|rfl|(simp only;unfold gd;split<;>rfl)
 |ap o sz i j=>
  simp only [jQ,stC];cases c.look o with
  |none=>rfl
  |some ob=>
   cases ob with
   |rc cs=>rfl
   |arr sz' xs=>simp only;unfold gd;split<;>rfl
   |bar l=>
    rcases v with _|⟨u,_|⟨u2,r⟩⟩
    ·rfl
    ·cases u<;>first|rfl|(simp only;unfold gd;split<;>rfl)
    ·cases u<;>rfl
 |_=>rfl
theorem S0 (n:Nat) (a x:Arg):opC call sg c none (.store n a x)=if(c.ev x).isDef=true then stS c (stC c n (c.ev x).cells (c.ev a))else none:=by
 show o8 c none (dJ c none (.store n a x))=_;simp only [dJ];split
 ·rw [Dy];cases stC c n (c.ev x).cells (c.ev a)<;>rfl
 ·rfl
def apB (c:CSt) (k:Nat) (l:List UInt8) (t:Tok) (z:List SV) (bytes:Nat):Option (List UInt8)→Option CSt
 |some l'=>if z.length=1∧bytes=1∧t.readyC c=true∧l.length+l'.length≤140737488355328 then some (CSt.app c (some k) {val:= .byt (l++l') (.id (k+100)),eat:=t,tok:=true})else none
 |none=>none
def apL (c:CSt) (k:Nat) (sz':Nat) (l:List (List SV)) (t:Tok) (z:List SV) (bytes:Nat):Option (List (List SV))→Option CSt
 |some l'=>if z.length=sz'∧t.readyC c=true∧(l.length+l'.length)*bytes≤140737488355328 then some (CSt.app c (some k) {val:= .lst z.length (l++l') (.id (k+100)),eat:=t,tok:=true})else none
 |none=>none
theorem Uu (l:List (Nat×SV)) (ob:List (Nat×aB)) (t:List Nat) (v:SV) (e:Tok):
 CSt.app ⟨l,ob,t⟩ (some k) {val:=v,eat:=e,tok:=true}=⟨jH (dA (k+100) (k+101) l) k v,bC (k+100) (k+101) ob,ng (cK (k+100) (k+101) (e.eat t)) (k+100)⟩:=rfl
def apS (c:CSt) (k:Nat) (z:List SV) (bytes:Nat) (y:SV):SV→Option CSt
 | .byt l t=>apB c k l t z bytes (eW c y)
 | .lst sz' l t=>apL c k sz' l t z bytes (i6 c z.length y)
 |_=>none
theorem xlF (z:List SV) (bytes:Nat) (x y:Arg):opC call sg c (some k) (.app z bytes x y)=apS c k z bytes (c.ev y) (c.ev x):=by
 show o8 c (some k) (dJ c (some k) (.app z bytes x y))=_;simp only [dJ];cases c.ev x<;>try rfl
 ·simp only [apS]
  cases eW c (c.ev y)with
  |none=>rfl
  |some l'=>simp only [cO,apB];unfold gd;split<;>rfl
 ·simp only [apS]
  cases i6 c z.length (c.ev y)with
  |none=>rfl
  |some l'=>simp only [cO,apL];unfold gd;split<;>rfl
def cpB (o off n:Nat) (sz sz':Nat) (l:List UInt8):Option (List UInt8)→Option (SV×Nat×aB)
 |some l'=>gd (sz=1∧sz'=1∧off+n≤l.length) (.int .i64 (min l'.length n:Nat),o,.bar (l.take off++l'.take n++l.drop (off+(l'.take n).length)))
 |none=>none
def cpL (b:Bool) (o off n:Nat) (sz sz' sz'':Nat) (xs:List (List SV)):Option (List (List SV))→Option (SV×Nat×aB)
 |some l'=>gd (b=true∧sz=sz'∧sz=sz''∧off+n≤xs.length) (.int .i64 (min l'.length n:Nat),o,.arr sz (xs.take off++l'.take n++xs.drop (off+(l'.take n).length)))
 |none=>none
def cp2 (b:Bool) (c:CSt) (sz o sz' off n:Nat) (y:SV):Option aB→Option (SV×Nat×aB)
 |some (.bar l)=>cpB o off n sz sz' l (eW c y)
 |some (.arr sz'' xs)=>cpL b o off n sz sz' sz'' xs (i6 c sz y)
 |_=>none
def cpC (b:Bool) (c:CSt) (sz:Nat) (y:SV):SV→Option (SV×Nat×aB)
 | .psl o sz' off n _=>cp2 b c sz o sz' off n y (c.look o)
 |_=>none
def cpS (c:CSt) (d:Option Nat):Option (SV×Nat×aB)→Option CSt
 |some p=>some (CSt.put ⟨c.tm,jb c.ob p.2.1 p.2.2,c.tk⟩ d p.1)
 |none=>none
theorem xlz (sz:Nat) (x y:Arg):opC call sg c d (.cpy sz x y)=cpS c d (cpC y.isT c sz (c.ev y) (c.ev x)):=by
 show o8 c d (dJ c d (.cpy sz x y))=_;simp only [dJ];cases c.ev x<;>try rfl
 rename_i o sz' off n cap;simp only [cpC];cases c.look o with
 |none=>rfl
 |some ob=>
  cases ob with
  |rc cs=>rfl
  |bar l=>
   simp only [cp2];cases eW c (c.ev y)with
   |none=>rfl
   |some l'=>simp only [cO,cpB];unfold gd;split<;>rfl
  |arr sz'' xs=>
   simp only [cp2];cases i6 c sz (c.ev y)with
   |none=>rfl
   |some l'=>simp only [cO,cpL];unfold gd;split<;>rfl
def Ri (call:cr) (sg:Nat→Sig) (c:CSt) (d:Option Nat) (as:List SV):SV→Option CSt
 | .fn g a b=>iA call (sg g) c d g (a++as++b)
 |_=>none
theorem xh4 (f:Arg) (as:List Arg):opC call sg c d (.call f as)=Ri call sg c d (evL c as) (c.ev f):=by simp only [opC];unfold Ri;rfl
theorem xf1 (o:SOp):dS call sg c ⟨d,none,o⟩=opC call sg c d o:=rfl
theorem xg5 (g:Option (Nat×Bool)) (o:SOp) (r:List SI):plC call sg (⟨d,g,o⟩::r) c=nxP call sg r (opC call sg c d o):=by rw [plC]
theorem CQ:fP call sg [] c=some c:=by rw [fP]
theorem P9 (i:SI) (dead:List Nat) (r:List RI):fP call sg (.op i dead::r) c=nxC call sg dead r (dS call sg c i):=by rw [fP]
theorem CR (g:Nat) (b:Bool) (l:List SI) (dead:List Nat) (r:List RI):fP call sg (.grp g b l dead::r) c=nxC call sg dead r (pY call sg b l c (c.get g)):=by rw [fP]
theorem CO (i:SI) (dead:List Nat) (r:List RI):fP call sg (.tks i dead::r) c=nxC call sg dead r (Av c i):=by rw [fP]
theorem RU (d:Option Nat) (x:Arg):Av c ⟨d,none,.s2b x⟩=RW c d (c.ev x):=rfl
theorem xfS (k:Nat) (l:List UInt8):RW c (some k) (.str l)=some (CSt.app c (some k) {val:= .byt l (.id (k+100)),tok:=true}):=rfl
theorem CP (i:SI) (dead:List Nat) (r:List RI):fP call sg (.own i dead::r) c=nxC call sg dead r (tL c i):=by rw [fP]
theorem SM (d:Option Nat) (x:Arg):tL c ⟨d,none,.s2b x⟩=SR c d (c.ev x):=rfl
theorem SN (d:Option Nat) (sz:Nat) (xs:List Arg):tL c ⟨d,none,.lit sz xs⟩=SP c sz d (rows sz (evL c xs)):=rfl
theorem F1 (d:Option Nat) (xs:List Arg):tL c ⟨d,none,.litB xs⟩=oO c d (toB (evL c xs)):=rfl
theorem SO (d:Option Nat) (z:List SV) (b:Nat) (x y:Arg):tL c ⟨d,none,.app z b x y⟩=SQ c d z b y (c.ev x):=rfl
theorem CS (q:Dir) (r:List RI):fP call sg (.dir q::r) c=nxC call sg [] r (sH c q):=by rw [fP]
theorem ly (dead:List Nat) (r:List RI):nxC call sg dead r (some c)=fP call sg r (c.kill dead):=by rw [nxC]
theorem lz (dead:List Nat) (r:List RI):nxC call sg dead r none=none:=by rw [nxC]
theorem P6:plC call sg [] c=some c:=by rw [plC]
theorem CV (r:List SI):nxP call sg r (some c)=plC call sg r c:=by rw [nxP]
theorem CW (r:List SI):nxP call sg r none=none:=by rw [nxP]
theorem xfQ:unL c []=c:=rfl
theorem RO (g:Option (Nat×Bool)) (o:SOp) (r:List SI):unL c (⟨d,g,o⟩::r)=unL (c.put d (.tup [])) r:=rfl
theorem xlY (b:Bool) (l:List SI):pY call sg b l c (.tup [])=some (unL c l):=rfl
theorem xlZ (b t:Bool) (l:List SI):pY call sg b l c (.bool t)=if t=b then plC call sg l c else some (unL c l):=rfl
theorem xh5 (dead:List Nat) (r:List RI) (p:Prop) [Decidable p] (a b:Option CSt):nxC call sg dead r (if p then a else b)=if p then nxC call sg dead r a else nxC call sg dead r b:=by split<;>rfl
theorem xid (p:Prop) [Decidable p] (l l':List (Nat×SV)) (o:List (Nat×aB)) (t:List Nat):(if p then some (CSt.mk l o t)else some (CSt.mk l' o t))=some (CSt.mk (if p then l else l') o t):=by split<;>rfl
theorem xic (p:Prop) [Decidable p] (n:Nat) (v w:SV) (l l':List (Nat×SV)):(if p then(n,v)::l else(n,w)::l')=(n,if p then v else w)::(if p then l else l'):=by split<;>rfl
theorem Tl (p:Prop) [Decidable p]:(if p then([]:List (Nat×SV))else [])=[]:=by split<;>rfl
theorem Gh {α:Type} (p:Prop) [Decidable p] (a:α):(if p then a else a)=a:=by split<;>rfl
theorem Gg (p:Prop) [Decidable p] (q:IntKind) (a b:Int):(if p then SV.int q a else SV.int q b)= .int q (if p then a else b):=by split<;>rfl
theorem Ec (p:Prop) [Decidable p] (a b:Bool):(if p then SV.bool a else SV.bool b)= .bool (if p then a else b):=by split<;>rfl
theorem Tk (p:Prop) [Decidable p] (a b:UInt8):(if p then SV.u8 a else SV.u8 b)= .u8 (if p then a else b):=by split<;>rfl
theorem Ee (t a b:Bool):iI t (.bool a) (.bool b)= .bool (if t=true then a else b):=by cases t<;>rfl
theorem Gi (t:Bool) (q:IntKind) (a b:Int):iI t (.int q a) (.int q b)= .int q (if t=true then a else b):=by cases t<;>rfl
theorem Tm (t:Bool) (a b:UInt8):iI t (.u8 a) (.u8 b)= .u8 (if t=true then a else b):=by cases t<;>rfl
theorem Ed (a b:SV):iI true a b=a:=rfl
theorem xP (a b:SV):iI false a b=b:=rfl
variable {rn : RC → CSt → gQ}
theorem F6 (dead:List Nat):nrm dead (some c)=some (.n,c.kill dead):=rfl
theorem F7 (dead:List Nat):nrm dead none=none:=rfl
theorem S8 (dead:List Nat) (p:Prop) [Decidable p] (a b:Option CSt):nrm dead (if p then a else b)=if p then nrm dead a else nrm dead b:=by split<;>rfl
theorem xo5 (b:RC):sq rn b (some (.n,c))=rn b c:=rfl
theorem xo3 (b:RC) (id:Nat):sq rn b (some (.x id,c))=some (.x id,c):=rfl
theorem xo4 (b:RC):sq rn b (some (.r,c))=some (.r,c):=rfl
theorem RX (b:RC):sq rn b none=none:=rfl
theorem xfW (b:RC) (p:Prop) [Decidable p] (x y:gQ):sq rn b (if p then x else y)=if p then sq rn b x else sq rn b y:=by split<;>rfl
theorem xmj (a b:RC) (t:Bool):cnd rn a b c (.bool t)=if t=true then rn a c else rn b c:=rfl
theorem xmm (id:Nat):blk id (some (.n,c))=some (.n,c):=rfl
theorem xml (id:Nat):blk id (some (.r,c))=some (.r,c):=rfl
theorem xmk (id id':Nat):blk id (some (.x id',c))=if id'=id then some (.n,c)else some (.x id',c):=rfl
theorem G1 (id:Nat):blk id none=none:=rfl
theorem Uk (id:Nat) (p:Prop) [Decidable p] (x y:gQ):blk id (if p then x else y)=if p then blk id x else blk id y:=by split<;>rfl
theorem xpr (b:RC):lp rn b (some (.n,c))=rn (.loop b) c:=rfl
theorem xpp (b:RC) (id:Nat):lp rn b (some (.x id,c))=some (.x id,c):=rfl
theorem xpq (b:RC):lp rn b (some (.r,c))=some (.r,c):=rfl
theorem Te (b:RC):lp rn b none=none:=rfl
theorem xh8 (b:RC) (p:Prop) [Decidable p] (x y:gQ):lp rn b (if p then x else y)=if p then lp rn b x else lp rn b y:=by split<;>rfl
theorem FX (a:RC):prD rn a (some c)=rn a c:=rfl
theorem xj8 (ds:List Dir):psD ds (some (.n,c))=prD (fun _ c=>some (.n,c)) .skip (iO c ds):=by simp only [psD];cases iO c ds<;>rfl
theorem xj6 (ds:List Dir) (id:Nat):psD ds (some (.x id,c))=some (.x id,c):=rfl
theorem xj7 (ds:List Dir):psD ds (some (.r,c))=some (.r,c):=rfl
theorem FW (ds:List Dir):psD ds none=none:=rfl
theorem SL (ds:List Dir) (p:Prop) [Decidable p] (x y:gQ):psD ds (if p then x else y)=if p then psD ds x else psD ds y:=by split<;>rfl
theorem GB:iO c []=some c:=rfl
def xoC (ds:List Dir):Option CSt→Option CSt
 |some c=>iO c ds
 |none=>none
theorem EB (q:Dir) (ds:List Dir):iO c (q::ds)=xoC ds (sH c q):=by simp only [iO];cases sH c q<;>rfl
theorem EC (ds:List Dir):xoC ds (some c)=iO c ds:=rfl
theorem xl2 (F:FnC) (n:Nat):E2 F n (some (.n,c))=Qv F.keep F.raw n c (rX c F.rs):=rfl
theorem xl1 (F:FnC) (n:Nat):E2 F n (some (.r,c))=Qv F.keep F.raw n c (rX c F.rs):=rfl
theorem TD (F:FnC) (n:Nat) (p:Prop) [Decidable p] (x y:gQ):E2 F n (if p then x else y)=if p then E2 F n x else E2 F n y:=by split<;>rfl
theorem GX (sg:Sig) (g:Nat) (as:List SV):iA call sg c d g as=jW call sg c d g as ((SV.idsL as).isEmpty&&sg.own.isEmpty):=rfl
theorem Uf (sg:Sig) (g:Nat) (as:List SV):jW call sg c d g as true=mT c d (call g (SV.bareL as) [] 0):=rfl
theorem Ug (sg:Sig) (g:Nat) (as:List SV):jW call sg c d g as false=jR call sg d g (eV c as (i5 sg.raw 0 as)):=rfl
theorem TF (q:ec):mT c d (some q)=oQ c d q q.bare:=rfl
theorem TH (q:ec):oQ c d q true=some (c.put d q.r):=rfl
theorem TI (q:ec):oQ c d q false=x5 c d q q.small:=rfl
theorem TG (q:ec):x5 c d q true=some (jY c d [] [] q):=rfl
theorem Up (r:SV) (os:List (Nat×aB)) (tk:List Nat):(ec.mk r os tk).bare=(os.isEmpty&&tk.isEmpty&&r.ids.isEmpty&&r.toks.isEmpty):=rfl
theorem Fq (r:SV) (os:List (Nat×aB)) (tk:List Nat):(ec.mk r os tk).small=(os.all (fun p=>decide (p.1<1000)&&p.2.ids.all (fun k=>decide (k<1000))&&p.2.toks.all (fun k=>decide (k<1000)))&&r.ids.all (fun k=>decide (k<1000))&&r.toks.all (fun k=>decide (k<1000))&&tk.all (fun k=>decide (k<1000))):=rfl
theorem RY (sg:Sig) (g:Nat) (as:List SV):jR call sg d g (c,as)=oJ call c d g (ka c.tk sg.own 50 0 as):=rfl
theorem R6 (g:Nat) (as:List SV) (mt1:List (Option Nat)):oJ call c d g (as,mt1)=lS call c d g as mt1 (dO c 60 [] (SV.idsL as)) (gE c (dO c 60 [] (SV.idsL as))):=rfl
theorem R5 (g:Nat) (as:List SV) (mt1:List (Option Nat)) (m:List Nat) (os:List aB):lS call c d g as mt1 m (some os)=oI call c d g as mt1 m (ed c.tk (50+mt1.length) os):=rfl
theorem R4 (g:Nat) (as:List SV) (mt1:List (Option Nat)) (m:List Nat) (os:List aB) (mt2:List (Option Nat)):oI call c d g as mt1 m (os,mt2)=
 oH call c d g as mt1 m os mt2 (pn (SV.idsL as++fL os) m&&dB m&&dB (cB (mt1++mt2))&&decide (m.length≤40)&&m.all fun o=> !inR (d.getD 0) o):=rfl
theorem R3 (g:Nat) (as:List SV) (mt1:List (Option Nat)) (m:List Nat) (os:List aB) (mt2:List (Option Nat)):oH call c d g as mt1 m os mt2 true=
 px c d m (cB (mt1++mt2)) (call g (SV.renL (eB m) id as) (ei (eB m) id os) (mt1.length+mt2.length)):=rfl
theorem R2 (m mt:List Nat) (q:ec):px c d m mt (some q)=wW c d m mt q q.small:=rfl
theorem RZ (m mt:List Nat) (q:ec):wW c d m mt q true=some (jY c d m mt q):=rfl
theorem xir (keep raw:List Nat) (vs:List SV):Qv keep raw k c (some vs)=TE keep k (eV c vs (i5 raw 0 vs)):=rfl
theorem xik (keep:List Nat) (vs:List SV):TE keep k (c,vs)=Qu keep k c vs (decide (k=0)&&(SV.idsL vs).isEmpty&&keep.isEmpty):=rfl
theorem xip (keep:List Nat) (vs:List SV):Qu keep k c vs true=some ⟨jv (SV.bareL vs),[],[]⟩:=rfl
theorem xiq (keep:List Nat) (vs:List SV):Qu keep k c vs false=xeo k c (ka c.tk keep 60 0 vs):=rfl
theorem xio (vs:List SV) (mt1:List (Option Nat)):xeo k c (vs,mt1)=xen k c vs mt1 (dO c 60 [] (ln k++SV.idsL vs)) (gE c (dO c 60 [] (ln k++SV.idsL vs))):=rfl
theorem xin (vs:List SV) (mt1:List (Option Nat)) (m:List Nat) (os:List aB):xen k c vs mt1 m (some os)=xem k vs mt1 m (ed c.tk (60+mt1.length) os):=rfl
theorem xim (vs:List SV) (mt1:List (Option Nat)) (m:List Nat) (os:List aB) (mt2:List (Option Nat)):xem k vs mt1 m (os,mt2)=
 xel k vs mt1 m os mt2 (pn (SV.idsL vs++fL os) m&&dB m&&dB (cB (mt1++mt2))&&decide (m.take k=ln k)&&(m.drop k).all fun o=>decide (k≤o)):=rfl
theorem xil (vs:List SV) (mt1:List (Option Nat)) (m:List Nat) (os:List aB) (mt2:List (Option Nat)):xel k vs mt1 m os mt2 true=
 some ⟨(jv vs).ren (gX k m) id,(f8 0 (ei (gX k m) id (os.take k)))++(f8 (100+k) (ei (gX k m) id (os.drop k))),tks 60 (mt1.length+mt2.length)⟩:=rfl
theorem SW (v:SV):jv [v]=v:=rfl
theorem SU (v w:SV) (r:List SV):jv (v::w::r)= .tup (v::w::r):=rfl
theorem SX:jv []= .tup []:=rfl
theorem Uh (q:ec):uP (some q)=uO q q.bare:=rfl
theorem GV (q:ec):uO q true=some {val:=q.r}:=rfl
theorem GT (b:Bool) (g:Nat) (as:List SV):jX call c b g as true=uP (call g (SV.bareL as) [] 0):=rfl
theorem GU (b:Bool) (g:Nat) (as:List SV):jX call c b g as false=o4 call c g as b:=rfl
theorem GN (g:Nat) (as:List SV):o4 call c g as true=qd call c g (SV.bareL as) (SV.idsL as):=rfl
theorem Ue (g:Nat) (as:List SV) (o:Nat) (r:List Nat):qd call c g as (o::r)=o6 call o g as (c.look o):=rfl
theorem GR (o g:Nat) (as:List SV) (ob:aB):o6 call o g as (some ob)=o5 call o g as ob (ob.ids.isEmpty&&ob.toks.isEmpty&&(SV.idsL as).all (fun k=>decide (k=o))&&(SV.idsL (SV.renL (eB [o]) id as)).all (fun k=>decide (k=0))):=rfl
theorem GQ (o g:Nat) (as:List SV) (ob:aB):o5 call o g as ob true=uN o (call g (SV.renL (eB [o]) id as) [ob] 0):=rfl
theorem GP (o:Nat) (r:SV) (cs:List SV):uN o (some ⟨r,[(0,.rc cs)],[]⟩)=uM o r cs (r.ids.isEmpty&&r.toks.isEmpty&&(SV.idsL cs).isEmpty&&(SV.toksL cs).isEmpty):=rfl
theorem GO (o:Nat) (r:SV) (cs:List SV):uM o r cs true=some {val:=r,wr:=[(o,.rc cs)]}:=rfl
theorem GS (sg:Nat→Sig) (g:Nat) (a as b:List SV):lH call sg c as (.fn g a b)=jX call c (sg g).own.isEmpty g (a++as++b) ((SV.idsL (a++as++b)).isEmpty&&(sg g).own.isEmpty):=rfl
theorem Fy (raw:List Nat) (i:Nat) (q:IntKind) (n:Int):m9 raw i (.int q n)=[]:=rfl
theorem DG (raw:List Nat) (i:Nat) (b:Bool):m9 raw i (.bool b)=[]:=rfl
theorem R9 (raw:List Nat) (i:Nat) (b:UInt8):m9 raw i (.u8 b)=[]:=rfl
theorem Fu (raw:List Nat) (i:Nat) (l:List UInt8):m9 raw i (.str l)=[]:=rfl
theorem FA (raw:List Nat) (i:Nat) (l:List UInt8) (t:Tok):m9 raw i (.byt l t)=[]:=rfl
theorem Fx (raw:List Nat) (i sz:Nat) (l:List (List SV)) (t:Tok):m9 raw i (.lst sz l t)=[]:=rfl
theorem DE (raw:List Nat) (i:Nat):m9 raw i .nilp=[]:=rfl
theorem DF (raw:List Nat) (i:Nat):m9 raw i .nili=[]:=rfl
theorem xc (raw:List Nat) (i:Nat):m9 raw i .undef=[]:=rfl
theorem Sa (raw:List Nat) (i:Nat) (l:List SV):m9 raw i (.pp l)=[]:=rfl
theorem Fv (raw:List Nat) (i o off:Nat):m9 raw i (.ptr o off)=[]:=rfl
theorem Sc (raw:List Nat) (i o sz a b:Nat):m9 raw i (.ap o sz a b)=[]:=rfl
theorem FB (raw:List Nat) (i:Nat) (l:List SV):m9 raw i (.agg l)=if raw.contains i=true then []else uv l:=rfl
theorem DP:uv []=[]:=rfl
theorem xg (v:SV) (r:List SV):uv (v::r)=gV v++uv r:=rfl
theorem DM (q:IntKind) (n:Int):gV (.int q n)=[]:=rfl
theorem xf (b:Bool):gV (.bool b)=[]:=rfl
theorem FC (b:UInt8):gV (.u8 b)=[]:=rfl
theorem DI (l:List UInt8):gV (.str l)=[]:=rfl
theorem DN (l:List UInt8) (t:Tok):gV (.byt l t)=[]:=rfl
theorem DL (sz:Nat) (l:List (List SV)) (t:Tok):gV (.lst sz l t)=[]:=rfl
theorem xd:gV .nilp=[]:=rfl
theorem xe:gV .nili=[]:=rfl
theorem vc:gV .undef=[]:=rfl
theorem FD (l:List SV):gV (.pp l)=[]:=rfl
theorem DJ (o off:Nat):gV (.ptr o off)=[]:=rfl
theorem FF (o sz a b:Nat):gV (.ap o sz a b)=[]:=rfl
theorem DO (l:List SV):gV (.agg l)=[]:=rfl
theorem DH (l:List SV):gV (.tup l)=[]:=rfl
theorem FE (f:Nat) (a b:List SV):gV (.fn f a b)=[]:=rfl
theorem DK (o sz off n:Nat) (m:Option Nat):gV (.psl o sz off n m)=[o]:=rfl
theorem Ft (raw:List Nat) (i:Nat) (l:List SV):m9 raw i (.tup l)=[]:=rfl
theorem Sb (raw:List Nat) (i f:Nat) (a b:List SV):m9 raw i (.fn f a b)=[]:=rfl
theorem Fw (raw:List Nat) (i o sz off n:Nat) (m:Option Nat):m9 raw i (.psl o sz off n m)=if raw.contains i=true then []else [o]:=rfl
theorem Ts (p:Prop) [Decidable p] (a b v:SV):iI (decide p) (if p then a else b) v=iI (decide p) a v:=by by_cases h:p<;>simp [iI,h]
theorem Tr (p:Prop) [Decidable p] (a b v:SV):iI (decide p) v (if ¬p then a else b)=iI (decide p) v a:=by by_cases h:p<;>simp [iI,h]
theorem To (t:Bool) (a b v:SV):iI t (if t=true then a else b) v=iI t a v:=by cases t<;>simp [iI]
theorem Tn (t:Bool) (a b v:SV):iI t v (if t=false then a else b)=iI t v a:=by cases t<;>simp [iI]
theorem Tq (t:Bool) (a b v:SV):iI (!t) (if t=false then a else b) v=iI (!t) a v:=by cases t<;>simp [iI]
theorem Tp (t:Bool) (a b v:SV):iI (!t) v (if t=true then a else b)=iI (!t) v a:=by cases t<;>simp [iI]
theorem Un (p q:Prop) [Decidable p] [Decidable q]:(if p then decide q else false)=decide (p∧q):=by by_cases h:p<;>simp [h]
theorem xi0 (p q:Prop) [Decidable p] [Decidable q]:(if p then true else decide q)=decide (p∨q):=by by_cases h:p<;>simp [h]
theorem bF {so:SOp} (g:Option (Nat×Bool)) (h:so.pure=true) (hc:∀q y z,so≠ .cpy q y z):dQ call sg c ⟨d,g,so⟩=fg (cD c so):=by
 have:dQ call sg c ⟨d,g,so⟩=dJ c d so:=by cases so<;>first|rfl|(cases h;done)
 rw [this];exact nS h
theorem xl6 (g:Option (Nat×Bool)) (x:Arg):dQ call sg c ⟨d,g,.mov x⟩=fg ((some (c.ev x))):=(bF g rfl (fun _ _ _ e=>by cases e)).trans (by rw [UB])
theorem T8 (g:Option (Nat×Bool)) (z:List SV) (ps:List (Nat×Nat×Arg)):dQ call sg c ⟨d,g,.build z ps⟩=fg ((rA (ii z (psC c ps)))):=(bF g rfl (fun _ _ _ e=>by cases e)).trans (by rw [ti])
theorem xl8 (g:Option (Nat×Bool)) (sz:Nat) (xs:List Arg):dQ call sg c ⟨d,g,.lit sz xs⟩=fg ((Tg sz (rows sz (evL c xs)))):=(bF g rfl (fun _ _ _ e=>by cases e)).trans (by rw [QL])
theorem xiU (g:Option (Nat×Bool)) (xs:List Arg):dQ call sg c ⟨d,g,.litB xs⟩=fg ((xL (toB (evL c xs)))):=(bF g rfl (fun _ _ _ e=>by cases e)).trans (by rw [yy])
theorem xiT (g:Option (Nat×Bool)) (n:Nat) (ag:Bool) (a:Arg):dQ call sg c ⟨d,g,.load n ag a⟩=fg ((lY c n ag (c.ev a))):=(bF g rfl (fun _ _ _ e=>by cases e)).trans (by rw [Hd])
theorem xiP (g:Option (Nat×Bool)) (x:Arg):dQ call sg c ⟨d,g,.nchk x⟩=fg ((xH (c.ev x))):=(bF g rfl (fun _ _ _ e=>by cases e)).trans (by rw [G9])
theorem xmf (g:Option (Nat×Bool)) (op:BinOp) (x y:Arg):dQ call sg c ⟨d,g,.bin op x y⟩=fg ((Db op (c.ev x) (c.ev y))):=(bF g rfl (fun _ _ _ e=>by cases e)).trans (by rw [UG])
theorem xmg (g:Option (Nat×Bool)) (ne:Bool) (x y:Arg):dQ call sg c ⟨d,g,.beq ne x y⟩=fg ((Uo ne (c.ev x) (c.ev y))):=(bF g rfl (fun _ _ _ e=>by cases e)).trans (by rw [UH])
theorem xmc (g:Option (Nat×Bool)) (ne:Bool) (ts:List Nat) (x y:Arg):dQ call sg c ⟨d,g,.eqS ne ts x y⟩=fg ((TP ne ts (c.ev x) (c.ev y))):=(bF g rfl (fun _ _ _ e=>by cases e)).trans (by rw [UE])
theorem xqv (g:Option (Nat×Bool)) (op:UnOp) (x:Arg):dQ call sg c ⟨d,g,.un op x⟩=fg ((vo op (c.ev x))):=(bF g rfl (fun _ _ _ e=>by cases e)).trans (by rw [xno])
theorem T5 (g:Option (Nat×Bool)) (q:IntKind) (x:Arg):dQ call sg c ⟨d,g,.toInt q x⟩=fg ((gI q (c.ev x))):=(bF g rfl (fun _ _ _ e=>by cases e)).trans (by rw [Ar])
theorem T4 (g:Option (Nat×Bool)) (x:Arg):dQ call sg c ⟨d,g,.toStr x⟩=fg ((q9 (c.ev x))):=(bF g rfl (fun _ _ _ e=>by cases e)).trans (by rw [Aq])
theorem xiW (g:Option (Nat×Bool)) (ne:Bool) (x:Arg):dQ call sg c ⟨d,g,.isni ne x⟩=fg (xQ ne (c.ev x)):=(bF g rfl (fun _ _ _ e=>by cases e)).trans (by rw [Hf])
theorem xl4 (g:Option (Nat×Bool)) (x:Arg):dQ call sg c ⟨d,g,.s2b x⟩=fg ((Se (c.ev x))):=(bF g rfl (fun _ _ _ e=>by cases e)).trans (by rw [UA])
theorem xmh (g:Option (Nat×Bool)) (x:Arg):dQ call sg c ⟨d,g,.b2s x⟩=fg ((Uq c (c.ev x))):=(bF g rfl (fun _ _ _ e=>by cases e)).trans (by rw [UI])
theorem xiQ (g:Option (Nat×Bool)) (f:Nat) (a b:List Arg):dQ call sg c ⟨d,g,.mkfn f a b⟩=fg ((some (.fn f (evL c a) (evL c b)))):=(bF g rfl (fun _ _ _ e=>by cases e)).trans (by rw [Ha])
theorem xiL (g:Option (Nat×Bool)) (x:Arg) (lo hi:Option Arg):dQ call sg c ⟨d,g,.slcS x lo hi⟩=fg ((xa c lo hi (c.ev x))):=(bF g rfl (fun _ _ _ e=>by cases e)).trans (by rw [yx])
theorem xiM (g:Option (Nat×Bool)) (sz:Nat) (x:Arg) (lo hi mx:Option Arg):dQ call sg c ⟨d,g,.slcL sz x lo hi mx⟩=fg ((og c sz (c.ev x) lo hi mx)):=(bF g rfl (fun _ _ _ e=>by cases e)).trans (by rw [G7])
theorem xiN (g:Option (Nat×Bool)) (len sz:Nat) (x:Arg) (lo hi mx:Option Arg):dQ call sg c ⟨d,g,.slcA len sz x lo hi mx⟩=fg ((xb c len sz lo hi mx (c.ev x))):=(bF g rfl (fun _ _ _ e=>by cases e)).trans (by rw [G8])
theorem T7 (g:Option (Nat×Bool)) (off:Nat) (x:Arg):dQ call sg c ⟨d,g,.faddr off x⟩=fg ((rx off (c.ev x))):=(bF g rfl (fun _ _ _ e=>by cases e)).trans (by rw [As])
theorem xma (g:Option (Nat×Bool)) (off n:Nat) (ag:Bool) (x:Arg):dQ call sg c ⟨d,g,.fld off n ag x⟩=fg ((TB off n ag (c.ev x))):=(bF g rfl (fun _ _ _ e=>by cases e)).trans (by rw [UC])
theorem GG (g:Option (Nat×Bool)) (sz:Nat) (x i:Arg):dQ call sg c ⟨d,g,.iaddrL sz x i⟩=fg ((np sz (c.ev x) (c.ev i).num)):=(bF g rfl (fun _ _ _ e=>by cases e)).trans (by rw [vn])
theorem GH (g:Option (Nat×Bool)) (len sz:Nat) (x i:Arg):dQ call sg c ⟨d,g,.iaddrA len sz x i⟩=fg ((lE c len sz (c.ev x) (c.ev i).num)):=(bF g rfl (fun _ _ _ e=>by cases e)).trans (by rw [qx])
theorem xiY (g:Option (Nat×Bool)) (len sz:Nat) (ag:Bool) (x i:Arg):dQ call sg c ⟨d,g,.idxA len sz ag x i⟩=fg ((xT len sz ag (c.ev x) (c.ev i).num)):=(bF g rfl (fun _ _ _ e=>by cases e)).trans (by rw [Hh])
theorem xiX (g:Option (Nat×Bool)) (x i:Arg):dQ call sg c ⟨d,g,.idxS x i⟩=fg ((xS (c.ev x) (c.ev i).num)):=(bF g rfl (fun _ _ _ e=>by cases e)).trans (by rw [Hg])
theorem xmb (g:Option (Nat×Bool)) (x:Arg) (i:Nat):dQ call sg c ⟨d,g,.ext x i⟩=fg ((TJ i (c.ev x))):=(bF g rfl (fun _ _ _ e=>by cases e)).trans (by rw [UD])
theorem xl9 (g:Option (Nat×Bool)) (b:Bool) (x:Arg):dQ call sg c ⟨d,g,.len b x⟩=fg ((lenC (jz b (c.ev x)))):=(bF g rfl (fun _ _ _ e=>by cases e)).trans (by rw [QM])
theorem xiV (g:Option (Nat×Bool)) (n:Nat):dQ call sg c ⟨d,g,.lenC n⟩=fg ((some (.int .i64 n))):=(bF g rfl (fun _ _ _ e=>by cases e)).trans (by rw [He])
theorem xmd (g:Option (Nat×Bool)) (x:Arg):dQ call sg c ⟨d,g,.cap x⟩=fg ((Uc (c.ev x))):=(bF g rfl (fun _ _ _ e=>by cases e)).trans (by rw [UF])
theorem xiR (g:Option (Nat×Bool)) (x y:Arg):dQ call sg c ⟨d,g,.mini x y⟩=fg ((xI (c.ev x) (c.ev y))):=(bF g rfl (fun _ _ _ e=>by cases e)).trans (by rw [Hb])
theorem xiS (g:Option (Nat×Bool)) (x y:Arg):dQ call sg c ⟨d,g,.maxi x y⟩=fg ((xJ (c.ev x) (c.ev y))):=(bF g rfl (fun _ _ _ e=>by cases e)).trans (by rw [Hc])
theorem xiO (g:Option (Nat×Bool)) (q a b:Arg):dQ call sg c ⟨d,g,.pick q a b⟩=fg (xz (c.ev a) (c.ev b) (c.ev q)):=Qz (d:=d) q a b
theorem xl5 (g:Option (Nat×Bool)) (o:aB):dQ call sg c ⟨some k,g,.new o⟩=gd (o.wf=true) {val:= .ptr (k+100) 0,new:=some o}:=rfl
theorem xme (g:Option (Nat×Bool)) (x:Arg):dQ call sg c ⟨some k,g,.box x⟩=some {val:= .ptr (k+100) 0,new:=some (.rc (c.ev x).cells)}:=rfl
theorem T6 (g:Option (Nat×Bool)) (n:Nat) (a x:Arg):dQ call sg c ⟨d,g,.store n a x⟩=if(c.ev x).isDef=true then jQ c n (c.ev x).cells (c.ev a)else none:=rfl
def apE (c:CSt) (k:Nat) (z:List SV) (bytes:Nat) (y:SV):SV→Option fD
 | .byt l t=>(eW c y).bind fun l'=>gd (z.length=1∧bytes=1∧t.readyC c=true∧l.length+l'.length≤140737488355328) {val:= .byt (l++l') (.id (k+100)),eat:=t,tok:=true}
 | .lst sz' l t=>(i6 c z.length y).bind fun l'=>gd (z.length=sz'∧t.readyC c=true∧(l.length+l'.length)*bytes≤140737488355328) {val:= .lst z.length (l++l') (.id (k+100)),eat:=t,tok:=true}
 |_=>none
theorem xmi (g:Option (Nat×Bool)) (z:List SV) (bytes:Nat) (x y:Arg):dQ call sg c ⟨some k,g,.app z bytes x y⟩=apE c k z bytes (c.ev y) (c.ev x):=by show dJ c (some k) (.app z bytes x y)=_;simp only [dJ];cases c.ev x<;>rfl
theorem xqw (g:Option (Nat×Bool)) (z:List SV) (bytes:Nat) (n m:Arg):dQ call sg c ⟨some k,g,.mk z bytes n m⟩=(mkE bytes (c.ev n) (c.ev m)).map fun p=> {val:= .psl (k+100) z.length 0 p.1 (some p.2),new:=some (.arr z.length (am p.2 z))}:=by show dJ c (some k) (.mk z bytes n m)=_;simp only [dJ];cases h1:c.ev n<;>cases h2:c.ev m<;>first|rfl|(simp only [mkE];unfold gd;split<;>rfl)
theorem xl7 (g:Option (Nat×Bool)) (n m:Arg):dQ call sg c ⟨some k,g,.mkB n m⟩=(Tb (c.ev n) (c.ev m)).map fun p=> {val:= .psl (k+100) 1 0 p.1 (some p.2),new:=some (.bar (am p.2 0))}:=by show dJ c (some k) (.mkB n m)=_;simp only [dJ];cases h1:c.ev n<;>cases h2:c.ev m<;>first|rfl|(simp only [Tb];unfold gd;split<;>rfl)
theorem xiZ (g:Option (Nat×Bool)) (f:Arg) (as:List Arg):dQ call sg c ⟨d,g,.call f as⟩=lH call sg c (evL c as) (c.ev f):=rfl
theorem xgc (b:List Nat) (fs:List eN):iR call sg b [] fs c=gd ((fs.all eN.quiet||mE b fs.reverse)=true) c:=by rw [iR]
theorem Sr (b:List Nat) (o:SOp) (r:List SI) (fs:List eN):iR call sg b (⟨d,none,o⟩::r) fs c=nxD call sg b o d r fs c (dQ call sg c ⟨d,none,o⟩):=by rw [iR]
def gdD (call:cr) (sg:Nat→Sig) (b:List Nat) (i:SI) (want:Bool) (r:List SI) (fs:List eN) (c:CSt):SV→Option CSt
 | .bool t=>if t=want then nxD call sg b i.op i.dst r fs c (dQ call sg c i)else iR call sg b r (fA::fs) (c.put i.dst .undef)
 |_=>none
theorem Sq (b:List Nat) (g:Nat) (want:Bool) (o:SOp) (r:List SI) (fs:List eN):iR call sg b (⟨d,some (g,want),o⟩::r) fs c=gdD call sg b ⟨d,some (g,want),o⟩ want r fs c (c.get g):=by rw [iR];unfold gdD;rfl
theorem xl0 (b:List Nat) (i:SI) (want t:Bool) (r:List SI) (fs:List eN):gdD call sg b i want r fs c (.bool t)=if t=want then nxD call sg b i.op i.dst r fs c (dQ call sg c i)else iR call sg b r (fA::fs) (c.put i.dst .undef):=rfl
theorem S9 (b:List Nat) (o:SOp) (r:List SI) (fs:List eN) (e:fD):nxD call sg b o d r fs c (some e)=iR call sg b r (kX c o d e::fs) (c.app d e):=by rw [nxD]
theorem Ta (b:List Nat) (o:SOp) (r:List SI) (fs:List eN):nxD call sg b o d r fs c none=none:=by rw [nxD]
theorem Us (v:SV):c.app d {val:=v}=c.put d v:=rfl
theorem Ut (l:List (Nat×SV)) (ob:List (Nat×aB)) (t:List Nat) (o:aB) (v:SV):
 CSt.app ⟨l,ob,t⟩ (some k) {val:=v,new:=some o}=⟨jH (dA (k+100) (k+101) l) k v,jb (bC (k+100) (k+101) ob) (k+100) (o.purge (k+100) (k+101)),cK (k+100) (k+101) t⟩:=rfl
theorem xi1 (l:List (Nat×SV)) (ob:List (Nat×aB)) (t:List Nat) (v:SV) (p:Nat×aB):CSt.app ⟨l,ob,t⟩ d {val:=v,wr:=[p]}=CSt.put ⟨l,jb ob p.1 p.2,t⟩ d v:=rfl
theorem Gs (o:SOp) (v:SV):kX c o d {val:=v}=⟨SV.idsL (evL c o.args),[],[],[],v.names,if o.blind=true then []else SV.idsL (evL c o.args)⟩:=by simp only [kX,bS,jg,bw];rfl
theorem Gu (o:SOp) (v:SV) (ob:aB):kX c o (some k) {val:=v,new:=some ob}=⟨SV.idsL (evL c o.args),[],[],[k+100],v.names++ob.names,if o.blind=true then []else SV.idsL (evL c o.args)⟩:=by simp only [kX,bS,jg,bw];rfl
theorem Gt (o:SOp) (v:SV) (t:Tok):kX c o (some k) {val:=v,eat:=t,tok:=true}=⟨SV.idsL (evL c o.args),[],t.ids,[k+100],v.names,if o.blind=true then []else SV.idsL (evL c o.args)⟩:=by simp only [kX,bS,jg,bw];rfl
theorem Tx (o:SOp) (v:SV) (p:Nat×aB):kX c o d {val:=v,wr:=[p]}=⟨SV.idsL (evL c o.args),[p.1],[],[],v.names++p.2.names,if o.blind=true then []else SV.idsL (evL c o.args)⟩:=by simp only [kX,aL,bS,jg,bw];rfl
@[congr] theorem nxD_congr {b:List Nat} {o:SOp} {r:List SI} {fs fs':List eN} {c c':CSt} {e e':Option fD} (h:c=c') (h2:e=e') (h3:fs=fs'):nxD call sg b o d r fs c e=nxD call sg b o d r fs' c' e':=by rw [h,h2,h3]
theorem GI (l:List (Nat×SV)) (ob:List (Nat×aB)) (t:List Nat) (p:SV×Nat×aB):cpS ⟨l,ob,t⟩ d (some p)=some (CSt.put ⟨l,jb ob p.2.1 p.2.2,t⟩ d p.1):=rfl
theorem F9 (z:List SV) (p:Nat×Nat):mkS c k z (some p)=some (Df c k (.arr z.length (am p.2 z)) (.psl (k+100) z.length 0 p.1 (some p.2))):=rfl
theorem D6 (p:Nat×Nat):xoh c k (some p)=some (Df c k (.bar (am p.2 0)) (.psl (k+100) 1 0 p.1 (some p.2))):=rfl
theorem xjx (x:Arg):cT c (.mov x)=some (c.ev x):=by simp only [cT];rw [UB]
theorem RH (z:List SV) (ps:List (Nat×Nat×Arg)):cT c (.build z ps)=rA (ii z (psC c ps)):=by simp only [cT];rw [ti]
theorem xjy (sz:Nat) (xs:List Arg):cT c (.lit sz xs)=Tg sz (rows sz (evL c xs)):=by simp only [cT];rw [QL]
theorem xfL (xs:List Arg):cT c (.litB xs)=xL (toB (evL c xs)):=by simp only [cT];rw [yy]
theorem xfK (n:Nat) (ag:Bool) (a:Arg):cT c (.load n ag a)=lY c n ag (c.ev a):=by simp only [cT];rw [Hd]
theorem xfG (x:Arg):cT c (.nchk x)=xH (c.ev x):=by simp only [cT];rw [G9]
theorem xjE (op:BinOp) (x y:Arg):cT c (.bin op x y)=Db op (c.ev x) (c.ev y):=by simp only [cT];rw [UG]
theorem xjF (ne:Bool) (x y:Arg):cT c (.beq ne x y)=Uo ne (c.ev x) (c.ev y):=by simp only [cT];rw [UH]
theorem xjC (ne:Bool) (ts:List Nat) (x y:Arg):cT c (.eqS ne ts x y)=TP ne ts (c.ev x) (c.ev y):=by simp only [cT];rw [UE]
theorem xoW (op:UnOp) (x:Arg):cT c (.un op x)=vo op (c.ev x):=by simp only [cT];rw [xno]
theorem RF (q:IntKind) (x:Arg):cT c (.toInt q x)=gI q (c.ev x):=by simp only [cT];rw [Ar]
theorem RE (x:Arg):cT c (.toStr x)=q9 (c.ev x):=by simp only [cT];rw [Aq]
theorem xfN (ne:Bool) (x:Arg):cT c (.isni ne x)=xQ ne (c.ev x):=by simp only [cT];rw [Hf]
theorem xjw (x:Arg):cT c (.s2b x)=Se (c.ev x):=by simp only [cT];rw [UA]
theorem xjG (x:Arg):cT c (.b2s x)=Uq c (c.ev x):=by simp only [cT];rw [UI]
theorem xfH (f:Nat) (a b:List Arg):cT c (.mkfn f a b)=some (.fn f (evL c a) (evL c b)):=by simp only [cT];rw [Ha]
theorem xfC (x:Arg) (lo hi:Option Arg):cT c (.slcS x lo hi)=xa c lo hi (c.ev x):=by simp only [cT];rw [yx]
theorem xfD (sz:Nat) (x:Arg) (lo hi mx:Option Arg):cT c (.slcL sz x lo hi mx)=og c sz (c.ev x) lo hi mx:=by simp only [cT];rw [G7]
theorem xfE (len sz:Nat) (x:Arg) (lo hi mx:Option Arg):cT c (.slcA len sz x lo hi mx)=xb c len sz lo hi mx (c.ev x):=by simp only [cT];rw [G8]
theorem RG (off:Nat) (x:Arg):cT c (.faddr off x)=rx off (c.ev x):=by simp only [cT];rw [As]
theorem xjA (off n:Nat) (ag:Bool) (x:Arg):cT c (.fld off n ag x)=TB off n ag (c.ev x):=by simp only [cT];rw [UC]
theorem E8 (sz:Nat) (x i:Arg):cT c (.iaddrL sz x i)=np sz (c.ev x) (c.ev i).num:=by simp only [cT];rw [vn]
theorem E9 (len sz:Nat) (x i:Arg):cT c (.iaddrA len sz x i)=lE c len sz (c.ev x) (c.ev i).num:=by simp only [cT];rw [qx]
theorem xfP (len sz:Nat) (ag:Bool) (x i:Arg):cT c (.idxA len sz ag x i)=xT len sz ag (c.ev x) (c.ev i).num:=by simp only [cT];rw [Hh]
theorem xfO (x i:Arg):cT c (.idxS x i)=xS (c.ev x) (c.ev i).num:=by simp only [cT];rw [Hg]
theorem xjB (x:Arg) (i:Nat):cT c (.ext x i)=TJ i (c.ev x):=by simp only [cT];rw [UD]
theorem xjz (b:Bool) (x:Arg):cT c (.len b x)=lenC (jz b (c.ev x)):=by simp only [cT];rw [QM]
theorem xfM (n:Nat):cT c (.lenC n)=some (.int .i64 n):=by simp only [cT];rw [He]
theorem xjD (x:Arg):cT c (.cap x)=Uc (c.ev x):=by simp only [cT];rw [UF]
theorem xfI (x y:Arg):cT c (.mini x y)=xI (c.ev x) (c.ev y):=by simp only [cT];rw [Hb]
theorem xfJ (x y:Arg):cT c (.maxi x y)=xJ (c.ev x) (c.ev y):=by simp only [cT];rw [Hc]
theorem xfF (q a b:Arg):cT c (.pick q a b)=xz (c.ev a) (c.ev b) (c.ev q):=by simp only [cT];cases c.ev q<;>rfl
theorem xpg (o:SOp):qv c ⟨d,none,o⟩=cT c o:=rfl
theorem xpf (g:Nat) (b:Bool) (o:SOp):qv c ⟨d,some (g,b),o⟩=qg c o b (c.get g):=rfl
theorem xpi (b t:Bool) (o:SOp):qg c o b (.bool t)=if t=b then cT c o else some (.tup []):=rfl
theorem xph (b:Bool) (o:SOp):qg c o b (.tup [])=some (.tup []):=rfl
def stG (call:cr) (sg:Nat→Sig) (c:CSt) (d:Option Nat) (o:SOp) (b:Bool):SV→Option CSt
 | .bool t=>if t=b then opC call sg c d o else some (c.put d (.tup []))
 | .tup []=>some (c.put d (.tup []))
 |_=>none
theorem xf0 (g:Nat) (b:Bool) (o:SOp):dS call sg c ⟨d,some (g,b),o⟩=stG call sg c d o b (c.get g):=by unfold dS stG;rfl
theorem xjJ (b t:Bool) (o:SOp):stG call sg c d o b (.bool t)=if t=b then opC call sg c d o else some (c.put d (.tup [])):=rfl
theorem xjI (b:Bool) (o:SOp):stG call sg c d o b (.tup [])=some (c.put d (.tup [])):=rfl
theorem xii (b:List Nat) (ps:List FI):fe call sg b [] ps c=some c:=by rw [fe]
theorem xpQ (b:List Nat) (n:Nat) (i:SI) (r ps:List FI):fe call sg b (⟨n,true,i⟩::r) ps c=we call sg b r (⟨n,true,i⟩::ps) c i.dst (qv c i):=by rw [fe]
theorem xpR (b:List Nat) (n:Nat) (i:SI) (r ps:List FI):fe call sg b (⟨n,false,i⟩::r) ps c=rt call sg b r ps (b.getD n 0) (dS call sg c i):=by rw [fe]
theorem xpO (b:List Nat) (r ps:List FI) (v:SV):we call sg b r ps c d (some v)=fe call sg b r ps (c.put d v):=by rw [we]
theorem xpP (b:List Nat) (r ps:List FI) (m:Nat):rt call sg b r ps m (some c)=ru call sg b r ps (gdP (tS m c ps) c):=by rw [rt]
theorem xpS (b:List Nat) (r ps:List FI):ru call sg b r ps (some c)=fe call sg b r ps c:=by rw [ru]
theorem Tv {α:Type} {p:Prop} (v:α) (h:p):gdP p v=some v:=by unfold gdP;exact if_pos h
theorem xmp (b:List Nat) (l:List FI) (p:List Nat):je call sg b l [p] c=fe call sg b (iT l p) [] c:=by rw [je]
theorem xmo (b:List Nat) (l:List FI) (p q:List Nat) (r:List (List Nat)):je call sg b l (p::q::r) c=oU (fe call sg b (iT l p) [] c) (je call sg b l (q::r) c):=by rw [je]
theorem xqA (a a':CSt):oU (some a) (some a')=gdP (a=a') a:=rfl
theorem xij (m:Nat):tS m c []=True:=rfl
theorem TC (m:Nat) (p:FI) (r:List FI):tS m c (p::r)=((m/2^p.n % 2=1∨qv c p.i=some (c.get (p.i.dst.getD 0)))∧tS m c r):=rfl
end Go.Sy
namespace Go.Sy
variable [ba]
theorem sr {n:Nat}:∀ {l:List (Nat×SV)},(∀p∈l,p.1≠n)→eD l n= .undef
 |[],_=>rfl
 |p::r,h=>by simp only [eD];rw [if_neg (h p (aA ..))];exact sr fun q hq=>h q (aq _ hq)
theorem mS (n:Nat) (v:SV) (m:Nat):∀l:List (Nat×SV),eD (jH l n v) m=if m=n then v else eD l m
 |[]=>by simp only [jH,eD];by_cases h:n=m<;>simp [h,eq_comm]
 |p::r=>by
  simp only [jH];split
  ·simp only [eD]
   by_cases h:n=m
   ·simp [h]
   ·rw [if_neg h,if_neg (Ne.symm h)]
  ·split
   ·rename_i h1 h2
    simp only [eD]
    by_cases h:n=m
    ·simp [h]
    ·rw [if_neg h,if_neg (Ne.symm h),if_neg (by omega)]
   ·rename_i h1 h2
    simp only [eD,mS n v m r]
    by_cases h:p.1=m
    ·rw [if_pos h,if_pos h,if_neg (by omega)]
    ·rw [if_neg h,if_neg h]
theorem mR {n:Nat} {v:SV} {p:Nat×SV}:∀ {l:List (Nat×SV)},p∈jH l n v→p=(n,v)∨p∈l
 |[],h=>by simpa [jH]using h
 |q::r,h=>by
  simp only [jH]at h;split at h
  ·rcases ao.1 h with h|h
   ·exact .inl h
   ·exact .inr h
  ·split at h
   ·rcases ao.1 h with h|h
    ·exact .inl h
    ·exact .inr (aq _ h)
   ·rcases ao.1 h with h|h
    ·exact .inr (h ▸ aA ..)
    ·rcases mR h with h|h
     ·exact .inl h
     ·exact .inr (aq _ h)
theorem gx (lo hi n:Nat):∀l:List (Nat×SV),eD (dA lo hi l) n=(eD l n).purge lo hi
 |[]=>by simp [dA,eD,SV.purge]
 |p::r=>by
  simp only [dA,eD];split
  ·rfl
  ·exact gx lo hi n r
theorem jx {lo hi:Nat} {p:Nat×SV}:∀ {l:List (Nat×SV)},p∈dA lo hi l→∃q∈l,p.1=q.1
 |q::r,h=>by
  simp only [dA]at h;rcases ao.1 h with h|h
  ·exact⟨q,aA ..,by rw [h]⟩
  ·obtain⟨u,h1,h2⟩:=jx h
   exact⟨u,aq _ h1,h2⟩
theorem qH {k:List Nat} {p:Nat×SV}:∀ {l:List (Nat×SV)},p∈wv l k→p∈l
 |q::r,h=>by
  simp only [wv]at h;split at h
  ·exact aq _ (qH h)
  ·rcases ao.1 h with h|h
   ·exact h ▸ aA ..
   ·exact aq _ (qH h)
theorem qO (k:List Nat) (n:Nat):∀l:List (Nat×SV),eD (wv l k) n=if k.contains n=true then .undef else eD l n
 |[]=>by simp [wv,eD]
 |p::r=>by
  simp only [wv,eD];split
  ·rename_i h
   rw [qO k n r]
   by_cases hp:p.1=n
   ·subst hp;rw [if_pos h,if_pos h]
   ·rw [if_neg hp]
  ·rename_i h
   simp only [eD,qO k n r]
   by_cases hp:p.1=n
   ·subst hp;rw [if_pos rfl,if_neg h,if_pos rfl]
   ·rw [if_neg hp,if_neg hp]
theorem qP (n:Nat) (v:aB) (m:Nat):∀l:List (Nat×aB),iU (jb l n v) m=if m=n then some v else iU l m
 |[]=>by simp only [jb,iU];by_cases h:n=m<;>simp [h,eq_comm]
 |p::r=>by
  simp only [jb];split
  ·simp only [iU]
   by_cases h:n=m
   ·simp [h]
   ·rw [if_neg h,if_neg (Ne.symm h)]
  ·split
   ·rename_i h1 h2
    simp only [iU]
    by_cases h:n=m
    ·simp [h]
    ·rw [if_neg h,if_neg (Ne.symm h),if_neg (by omega)]
   ·rename_i h1 h2
    simp only [iU,qP n v m r]
    by_cases h:p.1=m
    ·rw [if_pos h,if_pos h,if_neg (by omega)]
    ·rw [if_neg h,if_neg h]
theorem kF {n:Nat} {v:aB} {p:Nat×aB}:∀ {l:List (Nat×aB)},p∈jb l n v→p=(n,v)∨p∈l
 |[],h=>by simpa [jb]using h
 |q::r,h=>by
  simp only [jb]at h;split at h
  ·rcases ao.1 h with h|h
   ·exact .inl h
   ·exact .inr h
  ·split at h
   ·rcases ao.1 h with h|h
    ·exact .inl h
    ·exact .inr (aq _ h)
   ·rcases ao.1 h with h|h
    ·exact .inr (h ▸ aA ..)
    ·rcases kF h with h|h
     ·exact .inl h
     ·exact .inr (aq _ h)
theorem uu {n:Nat} {v:aB}:∀ {l:List (Nat×aB)},(l.map bt).Pairwise (· < ·)→((jb l n v).map bt).Pairwise (· < ·)
 |[],_=>by simp [jb]
 |p::r,h=>by
  have h0:=h;simp only [aL,bR]at h;simp only [jb];split
  ·rename_i h1
   rw [aL,bR];refine⟨fun k hk=> ?_,h0⟩;rw [aL]at hk;rcases ao.1 hk with e|e
   ·omega
   ·have:=h.1 k e;omega
  ·split
   ·rename_i h1 h2
    rw [aL,bR];exact⟨fun k hk=>by have:=h.1 k hk;omega,h.2⟩
   ·rename_i h1 h2
    rw [aL,bR];refine⟨fun k hk=> ?_,uu h.2⟩;obtain⟨q,hq,rfl⟩:=aS.1 hk;rcases kF hq with e|e
    ·rw [e];show p.1<n;omega
    ·exact h.1 _ (cW e)
theorem iE {l:List (Nat×aB)} {n:Nat} {v:aB} (h:iU l n=some v):(n,v)∈l:=by
 induction l with
 |nil=>cases h
 |cons p r ih=>
  simp only [iU]at h;split at h
  ·rename_i hp
   cases h;subst hp;exact aA ..
  ·exact aq _ (ih h)
theorem ji:∀ {l:List (Nat×aB)},(l.map bt).Nodup→∀ {p:Nat×aB},p∈l→iU l p.1=some p.2
 |q::r,hn,p,h=>by
  simp only [aL,dN]at hn;simp only [iU];rcases ao.1 h with e|e
  ·subst e;rw [if_pos rfl]
  ·rw [if_neg (fun e2=>hn.1 (by rw [e2];exact cW e))]
   exact ji hn.2 e
theorem jf {l:List (Nat×aB)} (h:(l.map bt).Pairwise (· < ·)):(l.map bt).Nodup:=h.imp fun h=>Nat.ne_of_lt h
theorem iM (o:Nat):∀l:List (Nat×aB),l.lookup o=iU l o
 |[]=>rfl
 |p::r=>by
  simp only [eG,iU]
  by_cases h:o=p.1
  ·rw [if_pos h.symm];simp [h]
  ·have:(o==p.1)=false:=by simpa using h
   rw [this,if_neg (Ne.symm h)];exact iM o r
theorem jA (lo hi o:Nat):∀l:List (Nat×aB),iU (bC lo hi l) o=if lo≤o∧o<hi then none else(iU l o).map (aB.purge lo hi)
 |[]=>by simp [bC,iU]
 |p::r=>by
  simp only [bC,iU];split
  ·rename_i hp
   rw [jA lo hi o r]
   by_cases h:p.1=o
   ·subst h;rw [if_pos hp,if_pos hp]
   ·rw [if_neg h]
  ·rename_i hp
   simp only [iU,jA lo hi o r]
   by_cases h:p.1=o
   ·subst h;rw [if_pos rfl,if_neg hp,if_pos rfl];rfl
   ·rw [if_neg h,if_neg h]
theorem vv {lo hi:Nat} {l:List (Nat×aB)} (h:(l.map bt).Pairwise (· < ·)):((bC lo hi l).map bt).Pairwise (· < ·):=by rw [eU];exact h.filter _
theorem kG {n t:Nat}:∀ {l:List Nat},t∈ng l n↔t=n∨t∈l
 |[]=>by simp [ng]
 |p::r=>by
  simp only [ng];split
  ·simp
  ·split
   ·rename_i h;subst h;simp
   ·simp only [ao,kG]
    constructor
    ·rintro(h|h|h)
     ·exact .inr (.inl h)
     ·exact .inl h
     ·exact .inr (.inr h)
    ·rintro(h|h|h)
     ·exact .inr (.inl h)
     ·exact .inl h
     ·exact .inr (.inr h)
theorem qw {lo hi:Nat} {o:aB} (h:o.wf=true):(o.purge lo hi).wf=true:=by cases o<;>simpa [aB.purge,aB.wf]using h
def CSt.st (N:Nat) (c:CSt):St:=⟨(cg N).map c.get,c.ob,c.tk⟩
structure Inv (N:Nat) (c:CSt):Prop where
 dom:∀p∈c.tm,p.1<N
 so:(c.ob.map bt).Pairwise (· < ·)
 wf:∀p∈c.ob,p.2.wf=true
structure Sim (N:Nat) (c:CSt) (s:St):Prop where
 inv:Inv N c
 tm:s.tm=(cg N).map c.get
 look:∀o,s.look o=c.look o
 tk:∀t,t∈s.tk↔t∈c.tk
variable {N : Nat} {c : CSt} {s : St}
theorem Inv.get (h:Inv N c) {n:Nat} (hn:N≤n):c.get n= .undef:=sr fun p hp e=>by have:=h.dom p hp;omega
theorem Sim.of (h:Inv N c):Sim N c (c.st N):=⟨h,rfl,fun o=>iM o c.ob,fun _=>Iff.rfl⟩
theorem Sim.get (h:Sim N c s) (n:Nat):s.get n=c.get n:=by
 unfold St.get;rw [h.tm,aa,aJ];rcases bQ n N with hn|hn
 ·rw [cy hn];rfl
 ·rw [kx (by simpa using hn),h.inv.get hn];rfl
theorem Sim.ev (h:Sim N c s) (a:Arg):s.ev a=c.ev a:=by
 cases a with
 |t n=>exact h.get n
 |c v=>rfl
 |f g=>rfl
theorem Sim.evL (h:Sim N c s) (l:List Arg):Sy.evL c l=l.map s.ev:=by
 induction l with
 |nil=>rfl
 |cons a r ih=>simp only [Sy.evL,aL,ih,h.ev]
theorem Sim.lookmem (h:Sim N c s) {o:Nat} {ob:aB} (hl:c.look o=some ob):ob.wf=true:=h.inv.wf _ (iE hl)
theorem Sim.rows (h:Sim N c s) {o sz:Nat} {xs:List (List SV)} (hl:c.look o=some (.arr sz xs)):∀x∈xs,x.length=sz:=by have:=h.lookmem hl;simpa [aB.wf]using this
theorem Inv.put (h:Inv N c) {d:Option Nat} (hd:∀k,d=some k→k<N) (v:SV):Inv N (c.put d v):=by
 cases d with
 |none=>exact h
 |some k=>
  refine⟨fun p hp=> ?_,h.so,h.wf⟩;rcases mR hp with e|e
  ·rw [e];exact hd k rfl
  ·exact h.dom p e
theorem gP (c:CSt) (k:Nat) (v:SV) (n:Nat):(c.put (some k) v).get n=if n=k then v else c.get n:=mS k v n c.tm
theorem Sim.put (h:Sim N c s) {d:Option Nat} (hd:∀k,d=some k→k<N) (v:SV):Sim N (c.put d v) (s.put d v):=by
 cases d with
 |none=>exact h
 |some k=>
  refine⟨h.inv.put hd v, ?_,h.look,h.tk⟩;show s.tm.set k v=_;rw [h.tm];apply List.ext_getElem?;intro i;rw [jN,aJ,aJ];rcases bQ i N with hi|hi
  ·rw [cy hi]
   simp only [bf,gP,aQ,List.length_range]
   by_cases hk:k=i
   ·rw [if_pos hk,if_pos (by omega),if_pos hk.symm]
   ·rw [if_neg hk,if_neg (Ne.symm hk)]
  ·rw [kx (l:=cg N) (by simpa using hi)]
   have:=hd k rfl;rw [if_neg (by omega)];rfl
theorem bL {α:Type} {p:Prop} [Decidable p] {v u:α} (h:gd p v=some u):p∧v=u:=by
 unfold gd at h;split at h
 ·rename_i hp;cases h;exact⟨hp,rfl⟩
 ·cases h
theorem Gl {op:BinOp} {k:IntKind} {a b:Int} {v:SV} (h:xU op k a b=some v) (hs:nm op=false):∃p,Tt op k a b=some (p,v)∧p:=by
 cases op<;>simp only [xU]at h<;>first
  |(cases hs;done)
  |(obtain⟨h1,rfl⟩:=bL h;exact⟨_,rfl,h1⟩)
  |(cases h;exact⟨True,rfl,trivial⟩)
theorem Um {op:BinOp} {a b v:SV} (h:Db op a b=some v):∃p,yf op a b=some (p,v)∧p:=by
 unfold Db at h;split at h
 ·rename_i k a k' b
  split at h
  ·rename_i hc
   by_cases hs:nm op=true
   ·cases op<;>first
     |(cases hs;done)
     |(simp only [xU]at h;obtain⟨h1,rfl⟩:=bL h;exact⟨_,rfl,h1⟩)
   ·have hs':nm op=false:=by simpa using hs
    have hk:k=k':=hc.resolve_left hs;obtain⟨p,h1,h2⟩:=Gl h hs';refine⟨p, ?_,h2⟩;subst hk;cases op<;>first|(cases hs';done)|(simp only [yf,if_true];exact h1)
  ·cases h
 ·rename_i a b
  show ∃p,EH op a b=some (p,v)∧p
  cases op<;>simp only [yA]at h<;>first
   |(cases h;done)
   |(obtain⟨h1,rfl⟩:=bL h;exact⟨_,rfl,h1⟩)
   |(cases h;exact⟨True,rfl,trivial⟩)
 ·rename_i a b
  show ∃p,UJ op a b=some (p,v)∧p
  cases op<;>simp only [QP]at h<;>first
   |(cases h;done)
   |(obtain⟨h1,rfl⟩:=bL h;exact⟨_,rfl,h1⟩)
   |(cases h;exact⟨True,rfl,trivial⟩)
 ·cases h
theorem vS (hS:Sim N c s) {n:Nat} {ag:Bool} {u v:SV} (h:lY c n ag u=some v):∃p,fM s n ag u=some (p,v)∧p:=by
 cases u with
 |pp cs=>obtain⟨h1,rfl⟩:=bL h;exact⟨_,rfl,h1⟩
 |ptr o off=>
  simp only [lY]at h;simp only [fM,hS.look];split at h
  ·rename_i cs hl;rw [hl];obtain⟨h1,rfl⟩:=bL h;exact⟨_,rfl,h1⟩
  ·rename_i sz xs hl;rw [hl];obtain⟨⟨h1,h2⟩,rfl⟩:=bL h;subst h1;exact⟨_,rfl,h2,hS.rows hl⟩
  ·rename_i l hl;rw [hl];obtain⟨⟨h1,h2⟩,rfl⟩:=bL h;subst h1;exact⟨_,rfl,h2⟩
  ·cases h
 |ap o sz i j=>
  simp only [lY]at h;simp only [fM,hS.look];split at h
  ·rename_i sz' xs hl
   rw [hl];obtain⟨⟨h1,h2,h3⟩,rfl⟩:=bL h;refine⟨_,rfl,h1,h2,h3, ?_⟩;rw [aa,ab h2,h1];exact hS.rows hl _ (aT _)
  ·rename_i l hl;rw [hl];obtain⟨h1,rfl⟩:=bL h;exact⟨_,rfl,h1⟩
  ·cases h
 |_=>cases h
theorem nk (hS:Sim N c s) (x:Option Arg) (n:Int):gZ s x n=kC c x n:=by
 cases x with
 |none=>rfl
 |some a=>simp only [gZ,kC,hS.ev]
theorem AF (hS:Sim N c s) {sz:Nat} {u v:SV} {lo hi mx:Option Arg} (h:og c sz u lo hi mx=some v):∃p,ir s sz u lo hi mx=some (p,v)∧p:=by
 cases u with
 |byt l t=>
  simp only [og]at h;simp only [ir,nk hS];split at h<;>try (cases h;done)
  rename_i a b m h1 h2 h3;rw [h1,h2,h3];obtain⟨h4,rfl⟩:=bL h;exact⟨_,rfl,h4⟩
 |lst sz' l t=>
  simp only [og]at h;simp only [ir,nk hS];split at h<;>try (cases h;done)
  rename_i a b m h1 h2 h3;rw [h1,h2,h3];obtain⟨h4,rfl⟩:=bL h;exact⟨_,rfl,h4⟩
 |psl o sz' off n cap=>
  cases cap with
  |none=>
   simp only [og]at h;simp only [ir,nk hS];split at h<;>try (cases h;done)
   rename_i a b h1 h2;rw [h1,h2];obtain⟨h4,rfl⟩:=bL h;exact⟨_,rfl,h4⟩
  |some cap=>
   simp only [og]at h;simp only [ir,nk hS];split at h<;>try (cases h;done)
   rename_i a b m h1 h2 h3;rw [h1,h2,h3];obtain⟨h4,rfl⟩:=bL h;exact⟨_,rfl,h4⟩
 |_=>cases h
theorem nX (hS:Sim N c s) {u:SV} {l:List UInt8} (h:eW c u=some l):∃p,bytesOf s u=some (p,l)∧p:=by
 cases u with
 |byt l t=>cases h;exact⟨True,rfl,trivial⟩
 |str l=>cases h;exact⟨True,rfl,trivial⟩
 |psl o sz off n cap=>
  simp only [eW]at h;simp only [bytesOf,hS.look];split at h
  ·rename_i l' hl;rw [hl];obtain⟨h1,rfl⟩:=bL h;exact⟨_,rfl,h1⟩
  ·cases h
 |_=>cases h
theorem qC (hS:Sim N c s) {u:SV} {sz:Nat} {l:List (List SV)} (h:i6 c sz u=some l):∃p,eK s sz u=some (p,l)∧p:=by
 cases u with
 |lst sz' l t=>obtain⟨h1,rfl⟩:=bL h;exact⟨_,rfl,h1⟩
 |psl o sz' off n cap=>
  simp only [i6]at h;simp only [eK,hS.look];split at h
  ·rename_i sz'' xs hl
   rw [hl];obtain⟨⟨h1,h2,h3⟩,rfl⟩:=bL h;exact⟨_,rfl,h1,h2,h3,by rw [h2];exact hS.rows hl⟩
  ·cases h
 |_=>cases h
theorem xg3 (hS:Sim N c s) (ps:List (Nat×Nat×Arg)):psC c ps=ps.map fun(o,n,x)=>(o,n,s.ev x):=by
 induction ps with
 |nil=>rfl
 |cons p r ih=>obtain⟨o,n,x⟩:=p;simp only [psC,aL,ih,hS.ev]
theorem RN (hS:Sim N c s) {so:SOp} {v:SV} (h:cD c so=some v):∃p,val s so=some (p,v)∧p:=by
 cases so with
 |mov x=>cases h;exact⟨True,by simp only [val,hS.ev],trivial⟩
 |build z ps=>simp only [cD,xg3 hS]at h;obtain⟨l,h1,rfl⟩:=ai.1 h;exact⟨True,by simp only [val,h1,bf],trivial⟩
 |lit sz xs=>simp only [cD,hS.evL]at h;obtain⟨l,h1,rfl⟩:=ai.1 h;exact⟨True,by simp only [val,h1,bf],trivial⟩
 |litB xs=>simp only [cD,hS.evL]at h;obtain⟨l,h1,rfl⟩:=ai.1 h;exact⟨True,by simp only [val,h1,bf],trivial⟩
 |load n ag a=>simp only [val,hS.ev];exact vS hS h
 |nchk x=>simp only [cD]at h;simp only [val,hS.ev];cases hx:c.ev x<;>rw [hx]at h<;>first|(cases h;done)|(cases h;exact⟨True,rfl,trivial⟩)
 |bin op x y=>simp only [val,hS.ev];exact Um h
 |beq ne x y=>
  simp only [cD]at h;simp only [val,hS.ev];split at h<;>try (cases h;done)
  rename_i a b h1 h2;cases h;rw [h1,h2];exact⟨True,rfl,trivial⟩
 |eqS ne ts x y=>
  simp only [cD]at h;simp only [val,hS.ev];split at h<;>try (cases h;done)
  rename_i a b h1 h2;obtain⟨l,h3,rfl⟩:=ai.1 h;rw [h1,h2];exact⟨True,by simp only [h3,bf],trivial⟩
 |un op x=>simp only [cD]at h;exact⟨True,by simp only [val,hS.ev,h,bf],trivial⟩
 |toInt k x=>simp only [cD]at h;exact⟨True,by simp only [val,hS.ev,h,bf],trivial⟩
 |toStr x=>
  simp only [cD]at h;simp only [val,hS.ev];split at h<;>try (cases h;done)
  all_goals
   rename_i h1;cases h;rw [h1];exact⟨True,rfl,trivial⟩
 |slid x=>simp only [cD]at h;cases h
 |newB x=>simp only [cD]at h;cases h
 |isni ne x=>
  simp only [cD]at h;simp only [val,hS.ev];split at h<;>try (cases h;done)
  rename_i h1;cases h;rw [h1];exact⟨True,rfl,trivial⟩
 |s2b x=>
  simp only [cD]at h;simp only [val,hS.ev];split at h<;>try (cases h;done)
  rename_i l h1;cases h;rw [h1];exact⟨True,rfl,trivial⟩
 |b2s x=>
  simp only [cD]at h;simp only [val,hS.ev];cases hx:c.ev x with
  |byt l t=>rw [hx]at h;cases h;exact⟨True,rfl,trivial⟩
  |psl o sz off n cap=>
   rw [hx]at h;simp only [eW]at h;simp only [uT,hS.look];obtain⟨l,h1,rfl⟩:=ai.1 h;split at h1
   ·rename_i l' hl;rw [hl];obtain⟨h2,rfl⟩:=bL h1;exact⟨_,rfl,h2⟩
   ·cases h1
  |_=>rw [hx]at h;cases h
 |mkfn f a b=>simp only [cD,hS.evL]at h;cases h;exact⟨True,rfl,trivial⟩
 |slcS x lo hi=>
  simp only [cD]at h;simp only [val,hS.ev];split at h<;>try (cases h;done)
  rename_i l hx;rw [hx];simp only [nk hS];split at h<;>try (cases h;done)
  rename_i a b h1 h2;rw [h1,h2];obtain⟨h4,rfl⟩:=bL h;exact⟨_,rfl,h4⟩
 |slcL sz x lo hi mx=>simp only [val,hS.ev];exact AF hS h
 |slcA len sz x lo hi mx=>
  simp only [cD]at h;simp only [val,hS.ev];split at h<;>try (cases h;done)
  rename_i o off hx;split at h<;>try (cases h;done)
  rename_i ho;subst ho;rw [hx];exact AF hS h
 |faddr off x=>simp only [cD]at h;simp only [val,hS.ev];cases hx:c.ev x<;>rw [hx]at h<;>first|(cases h;done)|(cases h;exact⟨True,rfl,trivial⟩)
 |fld off n ag x=>
  simp only [cD]at h;simp only [val,hS.ev];split at h<;>try (cases h;done)
  rename_i cs hx;rw [hx];obtain⟨h4,rfl⟩:=bL h;exact⟨_,rfl,h4⟩
 |iaddrL sz x i=>
  simp only [cD]at h;simp only [val,hS.ev];split at h<;>try (cases h;done)
  all_goals
   rename_i h1 h2;rw [h1,h2];obtain⟨h4,rfl⟩:=bL h;exact⟨_,rfl,h4⟩
 |iaddrA len sz x i=>
  simp only [cD]at h;simp only [val,hS.ev,hS.look];split at h<;>try (cases h;done)
  ·rename_i o off n h1 h2
   rw [h1,h2];simp only;split at h<;>try (cases h;done)
   ·rename_i cs hl
    rw [hl];obtain⟨h4,rfl⟩:=bL h;exact⟨_,rfl,h4⟩
   ·rename_i ob hno hl
    rw [hl];obtain⟨⟨h4,h5⟩,rfl⟩:=bL h;cases ob with
    |rc cs=>exact absurd rfl (hno cs)
    |_=>simp only [h4,if_true];exact⟨_,rfl,h5⟩
  ·rename_i cs n h1 h2
   rw [h1,h2];obtain⟨h4,rfl⟩:=bL h;exact⟨_,rfl,h4⟩
 |idxA len sz ag x i=>
  simp only [cD]at h;simp only [val,hS.ev];split at h<;>try (cases h;done)
  rename_i h1 h2;rw [h1,h2];obtain⟨h4,rfl⟩:=bL h;exact⟨_,rfl,h4⟩
 |idxS x i=>
  simp only [cD]at h;simp only [val,hS.ev];split at h<;>try (cases h;done)
  rename_i h1 h2;rw [h1,h2];obtain⟨h4,rfl⟩:=bL h;exact⟨_,rfl,h4⟩
 |ext x i=>
  simp only [cD]at h;simp only [val,hS.ev];split at h<;>try (cases h;done)
  rename_i vs hx;rw [hx];obtain⟨h4,rfl⟩:=bL h;exact⟨_,rfl,h4⟩
 |len b x=>simp only [cD]at h;obtain⟨n,h1,rfl⟩:=ai.1 h;exact⟨True,by simp only [val,hS.ev,h1],trivial⟩
 |lenC n=>cases h;exact⟨True,rfl,trivial⟩
 |cap x=>
  simp only [cD]at h;simp only [val,hS.ev];cases hx:c.ev x with
  |psl o sz off n m=>cases m<;>rw [hx]at h<;>cases h;exact⟨True,rfl,trivial⟩
  |byt l t=>rw [hx]at h;simp only at h;split at h<;>cases h;rename_i ht;subst ht;exact⟨True,rfl,trivial⟩
  |lst sz l t=>rw [hx]at h;simp only at h;split at h<;>cases h;rename_i ht;subst ht;exact⟨True,rfl,trivial⟩
  |_=>rw [hx]at h;cases h
 |mini x y=>
  simp only [cD]at h;simp only [val,hS.ev];split at h<;>try (cases h;done)
  rename_i h1 h2;rw [h1,h2];simp only;split at h<;>cases h;rename_i hk;exact⟨True,by rw [if_pos hk],trivial⟩
 |maxi x y=>
  simp only [cD]at h;simp only [val,hS.ev];split at h<;>try (cases h;done)
  rename_i h1 h2;rw [h1,h2];simp only;split at h<;>cases h;rename_i hk;exact⟨True,by rw [if_pos hk],trivial⟩
 |_=>cases h
end Go.Sy
namespace Go.Sy
variable [ba]
variable {P : Program} {C : Ctx} {x : Sit} {a : Act} {w : World} {o : Oper} {so : SOp} {N : Nat} {c c' : CSt} {s : St} {d : Option Nat}
def M (C:Ctx) (N:Nat) (c:CSt):Act→World→Prop:=qu C (Sim N c)
theorem Sim.purge (h:Sim N c s) (lo hi:Nat):Sim N (c.purge lo hi) (s.purge lo hi):=by
 refine⟨⟨fun p hp=> ?_,vv h.inv.so,fun p hp=> ?_⟩, ?_,fun o=> ?_,fun t=> ?_⟩
 ·obtain⟨q,hq,e⟩:=jx hp
  rw [e];exact h.inv.dom q hq
 ·obtain⟨_,ob,h1,h2⟩:=cC hp
  rw [h2];exact qw (h.inv.wf _ h1)
 ·show SV.purgeL lo hi s.tm=_
  rw [h.tm,du,List.map_map];apply cX;intro i _;exact(gx lo hi i c.tm).symm
 ·show(bC lo hi s.ob).lookup o=iU (bC lo hi c.ob) o
  have:=h.look o;unfold St.look CSt.look at this;rw [iM]at this ⊢;rw [jA,jA,this]
 ·show t∈cK lo hi s.tk↔t∈cK lo hi c.tk
  rw [br,br,h.tk]
theorem Sim.addO (h:Sim N c s) (k:Nat) {ob:aB} (hw:ob.wf=true):Sim N ⟨c.tm,jb c.ob k ob,c.tk⟩ (s.addO k ob):=by
 refine⟨⟨h.inv.dom,uu h.inv.so,fun p hp=> ?_⟩,h.tm,fun o=> ?_,h.tk⟩
 ·rcases kF hp with e|e
  ·rw [e];exact hw
  ·exact h.inv.wf p e
 ·show((k,ob)::s.ob).lookup o=iU (jb c.ob k ob) o
  have:=h.look o;unfold St.look CSt.look at this;rw [qP];simp only [eG]
  by_cases he:o=k
  ·subst he;simp
  ·have:(o==k)=false:=by simpa using he
   rw [this,if_neg he];exact h.look o
theorem ow (k:Nat) (ob:aB) (o:Nat):∀l:List (Nat×aB),(Sy.setO k ob l).lookup o=if o=k∧(l.lookup k).isSome=true then some ob else l.lookup o
 |[]=>by simp [Sy.setO]
 |p::r=>by
  simp only [Sy.setO]
  by_cases hp:p.1=k
  ·rw [if_pos hp]
   subst hp;simp only [eG]
   by_cases ho:o=p.1
   ·subst ho;simp
   ·have:(o==p.1)=false:=by simpa using ho
    simp [this,ho]
  ·rw [if_neg hp]
   have h1:(k==p.1)=false:=by simpa using Ne.symm hp
   simp only [eG,h1,ow k ob o r]
   by_cases ho:o=p.1
   ·subst ho;simp [hp]
   ·have:(o==p.1)=false:=by simpa using ho
    simp [this]
theorem Sim.setO (h:Sim N c s) {k:Nat} {ob:aB} (hl:(c.look k).isSome=true) (hw:ob.wf=true):Sim N ⟨c.tm,jb c.ob k ob,c.tk⟩ (s.setO k ob):=by
 refine⟨⟨h.inv.dom,uu h.inv.so,fun p hp=> ?_⟩,h.tm,fun o=> ?_,h.tk⟩
 ·rcases kF hp with e|e
  ·rw [e];exact hw
  ·exact h.inv.wf p e
 ·show(Sy.setO k ob s.ob).lookup o=iU (jb c.ob k ob) o
  rw [qP,ow]
  have h1:(s.ob.lookup k).isSome=true:=by have:=h.look k;unfold St.look at this;rw [this];exact hl
  by_cases he:o=k
  ·rw [if_pos ⟨he,h1⟩,if_pos he]
  ·rw [if_neg (fun e=>he e.1),if_neg he];exact h.look o
theorem Sim.tks (h:Sim N c s) {l k:List Nat} (hlk:∀t,t∈l↔t∈k):Sim N ⟨c.tm,c.ob,k⟩ ⟨s.tm,s.ob,l⟩:=⟨⟨h.inv.dom,h.inv.so,h.inv.wf⟩,h.tm,h.look,hlk⟩
theorem Gb {t:Tok} {l k:List Nat} (h:∀t,t∈l↔t∈k) (n:Nat):n∈t.eat l↔n∈t.eat k:=by
 cases t with
 |id t=>simp only [Tok.eat,br,h]
 |_=>exact h n
structure uq (e:fD) (f:Eff):Prop where
 val:f.val=e.val
 wr:f.wr=e.wr
 new:f.new=e.new
 eat:f.eat=e.eat
 tok:f.tok=e.tok
structure sU (c:CSt) (e:fD):Prop where
 new:∀ob,e.new=some ob→ob.wf=true
 wr:e.wr=[]∨∃k ob,e.wr=[(k,ob)]∧(c.look k).isSome=true∧ob.wf=true
theorem Sim.app (h:Sim N c s) (hd:∀k,d=some k→k<N) {e:fD} {f:Eff} (hs:uq e f) (hg:sU c e):Sim N (c.app d e) (s.app d f):=by
 unfold CSt.app St.app;rw [hs.new,hs.tok,hs.val,hs.wr,hs.eat];cases hn:e.new with
 |some ob=>exact((h.purge _ _).addO _ (qw (hg.new ob hn))).put hd _
 |none=>
  cases ht:e.tok with
  |true=>refine Sim.put (c:=⟨_,_,_⟩) ?_ hd _;refine((h.purge (d.getD 0+100) (d.getD 0+100+1)).tks (fun t=> ?_));rw [kG,ao,br,br,Gb h.tk]
  |false=>
   rcases hg.wr with hw|⟨k,ob,hw,h1,h2⟩
   ·rw [hw];exact h.put hd _
   ·rw [hw];exact(h.setO h1 h2).put hd _
theorem uq.v (v:SV) (p:Prop):uq {val:=v} {pre:=p,val:=v}:=⟨rfl,rfl,rfl,rfl,rfl⟩
theorem sU.v (v:SV):sU c {val:=v}:=⟨fun ob h=>(by cases h),.inl rfl⟩
theorem xfA (n:Nat) (z:List SV):(aB.arr z.length (am n z)).wf=true:=by simp only [aB.wf,aM,decide_eq_true_eq];intro y hy;rw [(List.mem_replicate.1 hy).2]
theorem lm {sz:Nat} {xs:List (List SV)}:(aB.arr sz xs).wf=true↔∀y∈xs,y.length=sz:=by simp only [aB.wf,aM,decide_eq_true_eq]
theorem wz (sz:Nat):∀(m:Nat) (v:List SV),v.length=m*sz→∀y∈jB sz m v,y.length=sz
 |0,_,_,y,hy=>by cases hy
 |m+1,v,h,y,hy=>by
  rw [dR]at h;simp only [jB]at hy;rcases ao.1 hy with rfl|hy
  ·rw [ay];omega
  ·exact wz sz m (v.drop sz) (by rw [aF];omega) y hy
theorem DQ {sz:Nat} {xs:List (List SV)} {i j n:Nat} {v:List SV} (h:∀y∈xs,y.length=sz) (hi:i<xs.length) (hj:j+n≤sz) (hv:v.length=n):∀y∈fy sz xs i j n v,y.length=sz:=by
 intro y hy;unfold fy at hy;split at hy
 ·rename_i hc
  rcases List.mem_or_eq_of_mem_set hy with h1|h1
  ·exact h y h1
  ·rw [h1,hv];exact hc.2
 ·rcases List.mem_or_eq_of_mem_set hy with h1|h1
  ·exact h y h1
  ·have:(xs.getD i []).length=sz:=by
    rw [aa,ab hi];exact h _ (aT _)
   rw [h1];simp only [ah,ay,aF,this,hv];omega
theorem rZ (h:Sim N c s) {t:Tok} (hr:t.readyC c=true):t.ready s=true:=by
 cases t with
 |no=>cases hr
 |clip=>rfl
 |id t=>simp only [Tok.readyC,dn,decide_eq_true_eq]at hr;simp only [Tok.ready,dn,decide_eq_true_eq];exact(h.tk t).2 hr
theorem R7 (hM:aI C x s a w) {y:Arg} (hy:y.isT=true):Rep x (s.ev y) (match y with| .t n=>a.tmps.getD n Go.undef|_=>Go.undef):=by
 cases y with
 |t n=>exact hM.slot n
 |_=>cases hy
theorem wm (h:Sim N c s) {e:fD} (he:dJ c d so=some e) (hp:∀q y z,so≠ .pick q y z) (hn:∀ne q,so≠ .isnil ne q) (hcp:∀sz q y,so≠ .cpy sz q y):∃f,eff s d so=some f∧f.pre∧uq e f∧sU c e:=by
 have plain:∀ {so:SOp},dJ c d so=fg (cD c so)→(eff s d so=match val s so with|some (p,v)=>some {pre:=p,val:=v}|none=>none)→dJ c d so=some e→∃f,eff s d so=some f∧f.pre∧uq e f∧sU c e:=by
  intro so h1 h2 h3;rw [h1]at h3;cases hv:cD c so with
  |none=>rw [hv]at h3;cases h3
  |some v=>rw [hv]at h3;cases h3;obtain⟨p,h4,h5⟩:=RN h hv;exact⟨{pre:=p,val:=v},by rw [h2,h4],h5,uq.v v p,sU.v v⟩
 cases so with
 |pick q y z=>exact absurd rfl (hp q y z)
 |isnil ne q=>exact absurd rfl (hn ne q)
 |call _ _=>cases he
 |newB _=>cases he
 |slid _=>cases he
 |new ob=>
  simp only [dJ]at he;split at he<;>try (cases he;done)
  obtain⟨h1,rfl⟩:=bL he;exact⟨_,rfl,trivial,⟨rfl,rfl,rfl,rfl,rfl⟩,⟨fun ob' e=>(by cases e;exact h1),.inl rfl⟩⟩
 |box q=>simp only [dJ]at he;split at he<;>cases he;exact⟨_,rfl,trivial,⟨rfl,rfl,by simp only [h.ev],rfl,rfl⟩,⟨fun ob' e=>(by cases e;rfl),.inl rfl⟩⟩
 |mk z bytes n m=>
  simp only [dJ]at he;simp only [eff,h.ev];split at he<;>try (cases he;done)
  rename_i h1 h2;rw [h1,h2];obtain⟨h1,rfl⟩:=bL he;exact⟨_,rfl,h1,⟨rfl,rfl,rfl,rfl,rfl⟩,⟨fun ob' e=>(by cases e;exact xfA _ z),.inl rfl⟩⟩
 |mkB n m=>
  simp only [dJ]at he;simp only [eff,h.ev];split at he<;>try (cases he;done)
  rename_i h1 h2;rw [h1,h2];obtain⟨h1,rfl⟩:=bL he;exact⟨_,rfl,h1,⟨rfl,rfl,rfl,rfl,rfl⟩,⟨fun ob' e=>(by cases e;rfl),.inl rfl⟩⟩
 |store n q y=>
  simp only [dJ]at he;simp only [eff,h.ev];split at he<;>try (cases he;done)
  rename_i hdef;rw [hdef];simp only;unfold jQ at he;unfold ig;split at he
  ·rename_i o' off hq
   rw [hq];simp only [h.look];split at he<;>try (cases he;done)
   ·rename_i cs hl
    rw [hl];obtain⟨h1,rfl⟩:=bL he;exact⟨_,rfl,h1,⟨rfl,rfl,rfl,rfl,rfl⟩,⟨fun ob' e=>(by cases e),.inr ⟨_,_,rfl,by rw [hl];rfl,rfl⟩⟩⟩
   ·rename_i sz xs hl
    rw [hl];obtain⟨⟨h1,h2,h3,h4⟩,rfl⟩:=bL he
    exact⟨_,rfl,⟨h1,h2,h3,h4⟩,⟨rfl,rfl,rfl,rfl,rfl⟩,
     ⟨fun ob' e=>(by cases e),.inr ⟨_,_,rfl,by rw [hl];rfl,lm.2 (wz sz _ _ (by rw [aQ];omega))⟩⟩⟩
   ·rename_i l hl
    rw [hl];simp only at he ⊢;split at he<;>try (cases he;done)
    rename_i l' hv;rw [hv];obtain⟨h1,rfl⟩:=bL he;exact⟨_,rfl,h1,⟨rfl,rfl,rfl,rfl,rfl⟩,⟨fun ob' e=>(by cases e),.inr ⟨_,_,rfl,by rw [hl];rfl,rfl⟩⟩⟩
  ·rename_i o' sz i j hq
   rw [hq];simp only [h.look];split at he<;>try (cases he;done)
   ·rename_i sz' xs hl
    rw [hl];obtain⟨⟨h1,h2,h3,h4,h5⟩,rfl⟩:=bL he
    exact⟨_,rfl,⟨h1,h2,h3,h4,by rw [h1];exact h.rows hl,h5⟩,⟨rfl,rfl,rfl,rfl,rfl⟩,
     ⟨fun ob' e=>(by cases e),.inr ⟨_,_,rfl,by rw [hl];rfl,lm.2 (by subst h1;exact DQ (h.rows hl) h2 h3 (by simpa using h4))⟩⟩⟩
   ·rename_i l hl
    rw [hl];simp only at he ⊢;split at he<;>try (cases he;done)
    rename_i b hv;rw [hv];obtain⟨h1,rfl⟩:=bL he;exact⟨_,rfl,h1,⟨rfl,rfl,rfl,rfl,rfl⟩,⟨fun ob' e=>(by cases e),.inr ⟨_,_,rfl,by rw [hl];rfl,rfl⟩⟩⟩
  ·cases he
 |app z bytes q y=>
  simp only [dJ]at he;simp only [eff,h.ev];split at he<;>try (cases he;done)
  split at he<;>try (cases he;done)
  ·rename_i l t hq
   rw [hq];obtain⟨l',h1,h2⟩:=Option.bind_eq_some_iff.1 he;obtain⟨p,h3,h4⟩:=nX h h1;obtain⟨⟨g1,g2,g3,g4⟩,rfl⟩:=bL h2;simp only [h3];exact⟨_,rfl,⟨h4,g1,g2,rZ h g3,g4⟩,⟨rfl,rfl,rfl,rfl,rfl⟩,⟨fun ob' e=>(by cases e),.inl rfl⟩⟩
  ·rename_i sz' l t hq
   rw [hq];obtain⟨l',h1,h2⟩:=Option.bind_eq_some_iff.1 he;obtain⟨p,h3,h4⟩:=qC h h1;obtain⟨⟨g1,g3,g4⟩,rfl⟩:=bL h2;simp only [h3];exact⟨_,rfl,⟨h4,g1,rZ h g3,g4⟩,⟨rfl,rfl,rfl,rfl,rfl⟩,⟨fun ob' e=>(by cases e),.inl rfl⟩⟩
 |cpy sz q y=>exact absurd rfl (hcp sz q y)
 |appM z bytes q y=>cases he
 |ovl q y=>cases he
 |_=>exact plain (nS rfl) rfl he
theorem TU (P:Program) (h:Sim N c s) (hM:aI C x s a w) {e:fD} (he:dJ c d so=some e) (hp:∀q y z,so≠ .pick q y z) (hn:∀ne q,so≠ .isnil ne q):∃f,eff s d so=some f∧f.pre∧uq e f∧sU c e:=by
 by_cases hcp:∃sz q y,so= .cpy sz q y
 ·obtain⟨sz,q,y,rfl⟩:=hcp
  simp only [dJ]at he;simp only [eff,h.ev];split at he<;>try (cases he;done)
  rename_i o' sz' off n cap hq;rw [hq];simp only [h.look];split at he<;>try (cases he;done)
  ·rename_i l hl
   rw [hl];obtain⟨l',h1,h2⟩:=Option.bind_eq_some_iff.1 he;obtain⟨p,h3,h4⟩:=nX h h1;obtain⟨⟨g1,g2,g3⟩,rfl⟩:=bL h2;simp only [h3];exact⟨_,rfl,⟨h4,g1,g2,g3⟩,⟨rfl,rfl,rfl,rfl,rfl⟩,⟨fun ob' e=>(by cases e),.inr ⟨_,_,rfl,by rw [hl];rfl,rfl⟩⟩⟩
  ·rename_i sz'' xs hl
   rw [hl];obtain⟨l',h1,h2⟩:=Option.bind_eq_some_iff.1 he;obtain⟨p,h3,h4⟩:=qC h h1;obtain⟨⟨g0,g1,g2,g3⟩,rfl⟩:=bL h2;simp only [h3];have hrows:=h.rows hl;obtain⟨_,hl',_⟩:=mL (P:=P) hM (R7 hM g0) (by rw [h.ev];exact h3) h4;refine⟨_,rfl,⟨h4,g1,g2,g3,by rw [g2];exact hrows⟩,⟨rfl,rfl,rfl,rfl,rfl⟩,⟨fun ob' e=>(by cases e),.inr ⟨_,_,rfl,by rw [hl];rfl,lm.2 ?_⟩⟩⟩;intro r hr;rcases aj.1 hr with hr|hr
   ·rcases aj.1 hr with hr|hr
    ·rw [g2];exact hrows r (bH hr)
    ·exact hl' r (bH hr)
   ·rw [g2];exact hrows r (gU hr)
 ·exact wm h he hp hn (fun sz q y e=>hcp ⟨sz,q,y,e⟩)
theorem xka (h:M C N c a w) (hr:bm P o=some so) (hd:∀k,o.dst=some k→k<N) (hc:o8 c o.dst (dJ c o.dst so)=some c') {K:Act→World→Prop} {Q:Exit→Act→World→Prop} (hK:∀a w,M C N c' a w→K a w):o.wp P a w K Q:=by
 obtain⟨x,s,hM,hS⟩:=h;cases he:dJ c o.dst so with
 |none=>rw [he]at hc;cases hc
 |some e=>
  rw [he]at hc;simp only [o8,av.injEq]at hc;subst hc
  by_cases hp:∃q y z,so= .pick q y z
  ·obtain⟨q,y,z,rfl⟩:=hp
   simp only [dJ]at he;split at he<;>cases he;rename_i t ht;have hd':=sG hM hr (t:=t) (by rw [hS.ev];exact ht);refine cA hd' (k:=Sim N (c.app o.dst {val:=iI t (c.ev y) (c.ev z)})) ?_ hK;have:(if t=true then s.ev y else s.ev z)=iI t (c.ev y) (c.ev z):=by rw [hS.ev,hS.ev];rfl
   rw [this];exact hS.put hd _
  ·by_cases hn:∃ne q,so= .isnil ne q
   ·obtain⟨ne,q,rfl⟩:=hn
    have key:∃b,b=ne∧cm P C o a w (s.put o.dst (.bool b)):=by
     refine p9 hM hr (K:=fun b=>b=ne) ?_;rw [hS.ev];simp only [dJ]at he;split at he<;>try (cases he;done)
     ·rename_i l t hl
      obtain⟨h1,_⟩:=bL he;rw [hl];intro b hb;cases b
      ·cases ne<;>rfl
      ·exact absurd (hb rfl) h1
     ·rename_i sz l t hl
      obtain⟨h1,_⟩:=bL he;rw [hl];intro b hb;cases b
      ·cases ne<;>rfl
      ·exact absurd (hb rfl) h1
     ·rename_i hl
      rw [hl]
    obtain⟨b,rfl,hd'⟩:=key;refine cA hd' (k:=Sim N (c.app o.dst e)) ?_ hK
    have:e= {val:= .bool b}:=by
     simp only [dJ]at he;split at he
     ·obtain⟨_,h2⟩:=bL he;exact h2.symm
     ·obtain⟨_,h2⟩:=bL he;exact h2.symm
     ·exact(av.inj he).symm
     ·cases he
    rw [this];exact hS.put hd _
   ·obtain⟨f,h1,h2,h3,h4⟩:=TU P hS hM he (fun q y z e=>hp ⟨q,y,z,e⟩) (fun ne q e=>hn ⟨ne,q,e⟩)
    exact cA (tV hM hr h1 h2) (k:=Sim N (c.app o.dst e)) (hS.app hd h3 h4) hK
end Go.Sy
