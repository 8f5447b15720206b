/- An engine that steps through Go code with symbolic values: sound by proof. No condition. -/
import Derived.Test.YtdafipacemgcoaaGreatDoorEbR
open Array renaming getD → fK, getElem?_eq_some_iff → bX, getElem?_toList → cJ, length_toList → aO, replicate → dE
open Bool renaming and_eq_true → an, false_eq_true → aD, not_eq_true' → bZ, not_true → lQ, or_eq_true → b9
open List renaming Nodup → pf, all_eq_true → aM, any_eq_true → tj, append_assoc → aU, append_nil → bj, contains_eq_mem → dn, filter_cons → iq, filter_eq_self → dI, getD_eq_getElem?_getD → aa, getElem?_drop → bx, getElem?_eq_getElem → ab, getElem?_eq_none → ky, getElem?_map → aJ, getElem?_range → cy, getElem?_set → jO, getElem?_take → bM, getElem_mem → aT, length_append → ah, length_cons → ax, length_drop → aF, length_eq_zero_iff → bJ, length_map → aQ, length_take → ay, lookup → eH, map_congr_left → cY, map_cons → aL, map_nil → bT, mem_append → aj, mem_cons → ao, mem_cons_of_mem → au, mem_cons_self → aA, mem_iff_getElem → lP, mem_map → aS, mem_map_of_mem → cX, mem_of_mem_drop → gV, mem_of_mem_take → bH, mem_range → dL, nil_append → bp, nodup_cons → dN, pairwise_append → dY, pairwise_cons → bS, pairwise_iff_getElem → ip, range → cg, range' → jD, replicate → am
open Nat renaming add_mul → bP, add_zero → eP, le_max_left → pd, le_max_right → mI, lt_or_ge → bR, min_eq_left → dr, mod_eq_of_lt → yB, mul_comm → dv, mul_le_mul_right → bB, succ_mul → dR
open Go.Op renaming bytesLess → cG
open Option renaming bind_some → cQ, getD_some → bg, map_eq_some_iff → ai, map_some → bf, some → av
open Prod renaming fst → bv, mk → bh
open Go.Result renaming andThen_ok → al
open Go.Sem renaming run_bind → az, run_pure → aE
set_option linter.unusedVariables false
set_option linter.unusedSimpArgs false
set_option linter.unnecessarySimpa false
set_option linter.unusedSectionVars false
namespace Go.Sy
variable [ba]
variable {P : Program} {C : Ctx} {x : Sit} {s : St} {a : Act} {w : World}
theorem aI.purge (hM:aI C x s a w) (lo hi:Nat):aI C x (s.purge lo hi) a w:=by
 have hH:=hM.heap;refine⟨hM.tm.mono (fun _ _ _ h=>h) (fun _ _=>rfl) (fun _ _=>rfl),hM.defers,⟨hH.per,hH.g0,hH.gm,hH.new, ?_, ?_, ?_, ?_, ?_, ?_,hH.os,hH.tape,hH.output,hH.size,hH.ext,hH.pin,hH.lay⟩⟩
 ·intro p hp
  obtain⟨h1,o,h2,h3⟩:=cC hp;obtain⟨h4,h5⟩:=hH.obs _ h2;refine⟨?_,h5⟩;rw [h3];exact h4.of_heap rfl (fun _ _ _ h=>h) (fun _ _=>rfl) (fun _ _=>rfl) h1
 ·show((bC lo hi s.ob).map bv).Nodup
  rw [eU];exact hH.nd.filter _
 ·intro p hp q hq
  obtain⟨_,o,h2,_⟩:=cC hp;obtain⟨_,o',h3,_⟩:=cC hq;exact hH.inj (p.1,o) h2 (q.1,o') h3
 ·intro t ht;exact hH.tks t (bt.1 ht).1
 ·intro t ht p hp
  obtain⟨_,o,h2,_⟩:=cC hp;exact hH.tko t (bt.1 ht).1 (p.1,o) h2
 ·intro t ht u hu;exact hH.tkd t (bt.1 ht).1 u (bt.1 hu).1
theorem aI.forget:∀ {ds:List Nat} {s:St},aI C x s a w→aI C x (s.forget ds) a w
 |[],_,h=>h
 |d::r,s,h=>by simp only [St.forget];exact aI.forget (h.purge d (d+1))
theorem oz {n lo hi:Nat} (h:s.Fresh n∨(lo≤n∧n<hi)):(s.purge lo hi).Fresh n:=by
 refine⟨fun hn=> ?_,fun o ob ho=> ?_,fun hn=> ?_⟩
 ·obtain⟨h1,h2⟩:=mh hn
  exact h.elim (fun h=>h.tm h1) h2
 ·simp only [St.look,St.purge,gu]at ho
  split at ho<;>try (cases ho;done)
  rename_i hno;obtain⟨c,hc,rfl⟩:=ai.1 ho;refine⟨?_,fun hn=> ?_⟩
  ·rcases h with h|h
   ·exact(h.ob o c hc).1
   ·rintro rfl;exact hno h
  ·obtain⟨h1,h2⟩:=mg hn
   exact h.elim (fun h=>(h.ob o c hc).2 h1) h2
 ·obtain⟨h1,h2⟩:=bt.1 hn
  exact h.elim (fun h=>h.tk h1) h2
theorem mn {n:Nat}:∀ {ds:List Nat} {s:St},s.Fresh n∨n∈ds→(s.forget ds).Fresh n
 |[],s,h=>h.elim id (by simp)
 |d::r,s,h=>by
  simp only [St.forget];apply mn;rcases h with h|h
  ·exact .inl (oz (.inl h))
  ·rcases ao.1 h with h|h
   ·subst h;exact .inl (oz (.inr (by omega)))
   ·exact .inr h
theorem T3 {d:Option Nat} {so:SOp} {e:Eff} (h:eff s d so=some e) (hn:e.num d≠ []):Ro so=true:=by
 cases so with
 |new o=>rfl
 |box p=>rfl
 |mk z b n c=>rfl
 |mkB n c=>rfl
 |app sz b p q=>rfl
 |store n p q=>
  exfalso;apply hn;simp only [eff]at h;split at h<;>try (cases h;done)
  cases hu:s.ev p with
  |ptr o off=>
   simp only [hu,ii]at h;split at h<;>try (cases h;done)
   ·cases h;rfl
   ·cases h;rfl
   ·split at h<;>first|(cases h;done)|(cases h;rfl)
  |ap o sz i j=>
   simp only [hu,ii]at h;split at h<;>try (cases h;done)
   ·cases h;rfl
   ·split at h<;>first|(cases h;done)|(cases h;rfl)
  |_=>simp [hu,ii]at h
 |cpy sz p q=>
  exfalso;apply hn;simp only [eff]at h;split at h<;>try (cases h;done)
  split at h<;>try (cases h;done)
  ·split at h<;>first|(cases h;done)|(cases h;rfl)
  ·split at h<;>first|(cases h;done)|(cases h;rfl)
 |pick _ _ _=>cases h
 |call _ _=>cases h
 |appM _ _ _ _=>cases h
 |isnil _ _=>cases h
 |_=>exfalso;apply hn;simp only [eff]at h;split at h<;>first|(cases h;done)|(cases h;rfl)
theorem DK {i:SI} {e:Eff} (h:eK P i s (fun e'=>e'=e)):∀n∈e.num i.dst,Ro i.op=true∧n=i.dst.getD 0+100:=by
 intro n hn;refine⟨?_,by unfold Eff.num at hn;split at hn<;>simp at hn<;>exact hn⟩;obtain⟨dst,g,op⟩:=i;have hne:e.num dst≠ []:=by intro h;simp only [h]at hn;cases hn
 by_cases hp:∃c q r,op= .pick c q r
 ·obtain⟨c,q,r,rfl⟩:=hp
  exfalso;apply hne;simp only [eK]at h;split at h<;>try (exact h.elim)
  rename_i t ht;cases t with
  |true=>rw [←h.1 rfl];rfl
  |false=>rw [←h.2 rfl];rfl
 by_cases hc:∃f as,op= .call f as
 ·obtain⟨f,as,rfl⟩:=hc
  exfalso;apply hne;simp only [eK]at h;split at h<;>try (exact h.elim)
  obtain⟨e',he,rfl⟩:=h;obtain⟨h1,h2,_⟩:=Ep he;unfold Eff.num;rw [h1,h2]
 have hE:eK P ⟨dst,g,op⟩ s (fun e'=>e'=e)=(match eff s dst op with|some e'=>e'.pre∧e'=e|none=>False):=by
  cases op<;>first|rfl|(exfalso;exact hp ⟨_,_,_,rfl⟩)|(exfalso;exact hc ⟨_,_,rfl⟩)
 rw [hE]at h;split at h<;>try (exact h.elim)
 rename_i e' he;obtain⟨_,rfl⟩:=h;exact T3 he hne
theorem pt {i:SI} {k:Eff→Prop} (h:eK P i s k):∃e,eK P i s (fun e'=>e'=e)∧k e:=by
 obtain⟨dst,g,op⟩:=i
 by_cases hp:∃c q r,op= .pick c q r
 ·obtain⟨c,q,r,rfl⟩:=hp
  simp only [eK]at h ⊢;split at h<;>try (exact h.elim)
  rename_i t ht;cases t with
  |true=>exact⟨_,⟨fun _=>rfl,fun h=>(by cases h)⟩,h.1 rfl⟩
  |false=>exact⟨_,⟨(fun h=>(by cases h)),fun _=>rfl⟩,h.2 rfl⟩
 by_cases hc:∃f as,op= .call f as
 ·obtain⟨f,as,rfl⟩:=hc
  simp only [eK]at h ⊢;split at h<;>try (exact h.elim)
  obtain⟨e,h1,h2⟩:=h;exact⟨e,⟨e,h1,rfl⟩,h2⟩
 have hE:∀k,eK P ⟨dst,g,op⟩ s k=(match eff s dst op with|some e'=>e'.pre∧k e'|none=>False):=by intro k;cases op<;>first|rfl|(exfalso;exact hp ⟨_,_,_,rfl⟩)|(exfalso;exact hc ⟨_,_,rfl⟩)
 rw [hE]at h;split at h<;>try (exact h.elim)
 rename_i e' he;refine⟨e', ?_,h.2⟩;rw [hE,he];exact⟨h.1,rfl⟩
theorem sd {d:Option Nat} {e:Eff} (h:(s.ob.map bv).Nodup):((s.app d e).ob.map bv).Nodup:=by
 have hput:∀(u:St) v,(u.put d v).ob=u.ob:=by intro u v;cases d<;>rfl
 unfold St.app;split
 ·rw [hput]
  simp only [St.addO,St.purge,aL,dN];rw [eU];exact⟨by simp,h.filter _⟩
 ·rw [hput]
  simp only [St.grew];rw [eU];exact h.filter _
 ·rw [hput,QE];exact h
theorem rR {b:List Nat} {k:St→Prop}:∀ {l:List SI} {fs:List eO} {s:St},vcD P b l fs k s→(s.ob.map bv).Nodup→∃(its:List Itm) (t:St),its.map Itm.i=l∧its.map Itm.n=jD fs.length l.length∧
 (∀it∈its,∀n∈it.f.n,n∈sG l)∧((fs.reverse++its.map Itm.f).all eO.quiet||mF b (fs.reverse++its.map Itm.f))=true∧yy P its s t∧(t.ob.map bv).Nodup∧k t
 |[],fs,s,h,hnd=>by refine⟨[],s,rfl,by simp,by simp, ?_,Eqv.refl s,hnd,h.2⟩;simp only [bT,bj,List.all_reverse];exact h.1
 |i::r,fs,s,h,hnd=>by
  have go:∀o:Option Eff,iR P i o s→vcD P b r (dy s i o::fs) k (s.appO i.dst o)→((s.appO i.dst o).ob.map bv).Nodup→(∀n∈(dy s i o).n,n∈sG (i::r))→
   ∃(its:List Itm) (t:St),its.map Itm.i=i::r∧its.map Itm.n=jD fs.length (i::r).length∧
    (∀it∈its,∀n∈it.f.n,n∈sG (i::r))∧((fs.reverse++its.map Itm.f).all eO.quiet||mF b (fs.reverse++its.map Itm.f))=true∧yy P its s t∧(t.ob.map bv).Nodup∧k t:=by
   intro o h1 h2 h3 h4;obtain⟨its,t,e1,e2,e3,e4,e5,e6,e7⟩:=rR h2 h3;refine⟨⟨fs.length,i,o,dy s i o⟩::its,t,by simp [e1], ?_, ?_, ?_,⟨h1,rfl,e5⟩,e6,e7⟩
   ·simp only [aL,ax,e2];rfl
   ·intro it hit n hn
    rcases ao.1 hit with rfl|hit
    ·exact h4 n hn
    ·have:=e3 it hit n hn
     simp only [sG,List.filterMap_cons];split
     ·exact this
     ·exact au _ this
   ·simpa [aU]using e4
  have hd:∀e,eK P i s (fun e'=>e'=e)→∀n∈(dy s i (some e)).n,n∈sG (i::r):=by intro e he n hn;obtain⟨h1,h2⟩:=DK he n (by rw [fS]at hn;exact hn);simp only [sG,List.filterMap_cons,h1,if_true];rw [h2];exact aA ..
  simp only [vcD]at h;split at h
  ·rename_i hg
   obtain⟨e,he,hk⟩:=pt h;exact go (some e) (by unfold iR;rw [hg];exact he) hk (sd hnd) (hd e he)
  ·rename_i g want hg
   split at h<;>try (exact h.elim)
   rename_i t ht
   by_cases htw:t=want
   ·obtain⟨e,he,hk⟩:=pt (h.1 htw)
    exact go (some e) (by unfold iR;rw [hg];exact⟨by rw [ht,htw],he⟩) hk (sd hnd) (hd e he)
   ·have htw':t= !want:=by cases t<;>cases want<;>simp at htw ⊢
    refine go none (by unfold iR;rw [hg];show s.get g=_;rw [ht,htw']) (h.2 htw') ?_ (by simp [dy,fA]);cases hdst:i.dst<;>exact hnd
theorem vy (hM:aI C x s a w) {o:Oper} {i:SI} (hr:bo P o=some i.op) (hdst:i.dst=o.dst) {e:Eff} (h:eK P i s (fun e'=>e'=e)) {K:Act→World→Prop} {Q:Exit→Act→World→Prop}
 (hK:∀a w,qx C (fun s'=>s'=s.app i.dst e) a w→K a w):o.wp P a w K Q:=by
 obtain⟨dst,g,op⟩:=i;simp only at hr hdst hK;subst hdst
 by_cases hp:∃c q r,op= .pick c q r
 ·obtain⟨c,q,r,rfl⟩:=hp
  refine rV hM hr ?_ hK;simp only [eK]at h;simp only [sym];split at h<;>try (exact h.elim)
  exact⟨fun e1=>by rw [←h.1 e1];rfl,fun e1=>by rw [←h.2 e1];rfl⟩
 by_cases hc:∃f as,op= .call f as
 ·obtain⟨f,as,rfl⟩:=hc
  refine rV hM hr ?_ hK;simp only [eK]at h;simp only [sym];split at h<;>try (exact h.elim)
  obtain⟨e',he,rfl⟩:=h;exact .inl ⟨e',he,rfl⟩
 have hE:eK P ⟨o.dst,g,op⟩ s (fun e'=>e'=e)=(match eff s o.dst op with|some e'=>e'.pre∧e'=e|none=>False):=by
  cases op<;>first|rfl|(exfalso;exact hp ⟨_,_,_,rfl⟩)|(exfalso;exact hc ⟨_,_,rfl⟩)
 rw [hE]at h;split at h<;>try (exact h.elim)
 rename_i e' he;obtain⟨h1,rfl⟩:=h;exact cA (k:=fun s'=>s'=s.app o.dst e') (tW hM hr he h1) rfl hK
theorem rW {i:SI} {F:Eff→Prop} (h:eK P i s F):∀xs,i.op≠ .newB xs:=by obtain⟨d,g,op⟩:=i;rintro xs rfl;simp [eK,eff,val]at h
theorem FA (hM:aI C x s a w) {ops:Array Oper} {n:Nat} {o:Oper} {i:SI} (ho:ops[n]? =some o) (hr:fF P ops o=some i) {oe:Option Eff} (h:iR P i oe s) {K:Act→World→Prop} {Q:Exit→Act→World→Prop}
 (hK:∀a w,qx C (fun s'=>s'=s.appO i.dst oe) a w→K a w):wpOp P ops Q n K a w:=by
 obtain⟨h1,h2,h3⟩:=kU hr;unfold wpOp;rw [ho];simp only;unfold iR at h;rcases h3 with⟨hg,hog⟩|⟨j,b,g,hg,hog,hd⟩
 ·rw [hg]at h
  rw [iM hog,if_pos rfl];cases oe with
  |none=>exact h.elim
  |some e=>exact .inl (vy hM (h1.old (rW h)) h2 h hK)
 ·rw [hg]at h
  cases oe with
  |some e=>obtain⟨hlt,hv,hs⟩:=qP hM h.1;rw [kh hog hd hv,if_pos (by simp)];exact .inl (vy hM (h1.old (rW h.2)) h2 h.2 hK)
  |none=>obtain⟨hlt,hv,hs⟩:=qP hM h;rw [kh hog hd hv,if_neg (by cases b<;>simp)];refine hK _ _ ⟨x,_, ?_,rfl⟩;rw [←h2];exact hM.put i.dst (.undef _)
theorem pR {ob:List (Nat×aB)} (h:(ob.map bv).Nodup) {p:Nat×aB} (hp:p∈ob):ob.lookup p.1=some p.2:=by
 induction ob with
 |nil=>cases hp
 |cons q r ih=>
  simp only [aL,dN]at h;rcases ao.1 hp with rfl|hp
  ·simp [eH]
  ·have:(p.1==q.1)=false:=by
    rw [beq_eq_false_iff_ne];intro e;apply h.1;rw [←e];exact cX hp
   simp only [eH,this];exact ih h.2 hp
theorem aI.eqv {t:St} (hM:aI C x s a w) (h:Eqv s t) (hn:(t.ob.map bv).Nodup):aI C x t a w:=by refine⟨h.tm ▸ hM.tm,hM.defers,hM.heap.only (fun p hp=> ?_) hn (fun n hn=>(h.tk n).2 hn)⟩;have:=pR hn hp;exact cW ((h.ob p.1).trans this)
section
variable {ops : Array Oper} {l : List SI} {its : List Itm} {b : List Nat}
def left (its:List Itm) (listed:Array Bool):List Itm:=its.filter fun it=> !listed.getD it.n true
theorem iE {listed:Array Bool} {it:Itm}:it∈left its listed↔it∈its∧listed.getD it.n true=false:=by simp [left]
theorem ru {listed:Array Bool} {i:Nat} (hi:i<listed.size):(listed.setIfInBounds i true).getD i true=true:=by simp [fK,hi]
theorem fu {listed:Array Bool} {i j:Nat} (hi:i<listed.size):(listed.setIfInBounds i true).getD j true=if j=i then true else listed.getD j true:=by
 by_cases h:j=i
 ·subst h;rw [if_pos rfl];exact ru hi
 ·rw [if_neg h,getD_set_ne true (fun e=>h e.symm)]
theorem EK (hl:i5 (fF P ops) ops.toList=some l) (hi:its.map Itm.i=l) (hn:its.map Itm.n=jD 0 l.length)
 (hback:∀(i:Nat) (o:Oper),ops[i]? =some o→∀e∈o.after,Region.binds .any e=true→e.on<i)
 (hbit:∀(i:Nat) (o:Oper) (k:Nat),ops[i]? =some o→k<ops.size→(b.getD i 0).testBit k=true→∃e∈o.after,Region.binds .any e=true∧(e.on=k∨(b.getD e.on 0).testBit k=true))
 (hfree:∀p∈its,∀q∈its,p.n<q.n→(b.getD q.n 0).testBit p.n=false→xjV p q)
 (hrise:∀p∈its,∀q∈its,p.n<q.n→p.f.before q.f=true)
 {sN:St} {Q:Exit→Act→World→Prop} (hQ:∀x t a w,aI C x t a w→Eqv t sN→Q .normal a w):
 ∀(fuel:Nat) (listed:Array Bool) (x:Sit) (t:St) (a:Act) (w:World),(left its listed).length≤fuel→listed.size=ops.size→
  (∀(i:Nat) (o:Oper) (k:Nat),ops[i]? =some o→listed.getD i true=true→k<ops.size→(b.getD i 0).testBit k=true→listed.getD k true=true)→
  aI C x t a w→jq (left its listed) t→yy P (left its listed) t sN→wpAny P .any ops Q fuel listed a w:=by
 obtain⟨hlen,hget⟩:=ej hl;have hlen':its.length=ops.size:=by rw [←aO,←hlen,←hi,aQ]
 have hnth:∀(j:Nat) (h:j<its.length),its[j].n=j:=by
  intro j h;have h1:(its.map Itm.n)[j]? =some its[j].n:=by rw [aJ,ab h];rfl
  rw [hn,List.getElem?_range' (by rw [hlen,aO];omega)]at h1;simp at h1;omega
 have hex:∀j,j<ops.size→∃it∈its,it.n=j:=fun j hj=>⟨its[j]'(by omega),aT _,hnth j (by omega)⟩
 have hpw:its.Pairwise fun p q=>p.n<q.n:=by rw [ip];intro i j hi' hj' hij;rw [hnth i hi',hnth j hj'];exact hij
 have hitem:∀it∈its,∃o,ops[it.n]? =some o∧fF P ops o=some it.i∧it.n<ops.size:=by
  intro it hit;obtain⟨j,hj,rfl⟩:=lP.1 hit;have hj2:j<ops.toList.length:=by rw [aO];omega
  refine⟨ops.toList[j],by rw [hnth j hj,←cJ,ab hj2], ?_,by rw [hnth j hj];omega⟩;have:=hget j hj2 (by omega);rw [this]
  congr 1
  subst hi;simp
 have hd2:∀(listed:Array Bool),listed.size=ops.size→∀k,k<ops.size→listed.getD k false=listed.getD k true:=by intro listed hs k hk;simp [fK,hs,hk]
 have done:∀(listed:Array Bool) (x:Sit) (t:St) (a:Act) (w:World),left its listed=[]→aI C x t a w→yy P (left its listed) t sN→Region.ready .any ops listed=[]∧Q .normal a w:=by
  intro listed x t a w h0 hM hrun;constructor
  ·rw [List.eq_nil_iff_forall_not_mem]
   intro j hj;obtain⟨h1,o,h2,h3⟩:=mem_ready.1 hj;have hj':j<ops.size:=(bX.1 h2).1;obtain⟨it,hit,rfl⟩:=hex j hj';have:it∈left its listed:=iE.2 ⟨hit,h1⟩;rw [h0]at this;cases this
  ·rw [h0]at hrun
   exact hQ x t a w hM hrun
 intro fuel;induction fuel with
 |zero=>intro listed x t a w hf hs hcl hM hN hrun;exact done listed x t a w (bJ.1 (by omega)) hM hrun
 |succ fuel ih=>
  intro listed x t a w hf hs hcl hM hN hrun;constructor
  ·intro hnil
   cases hc:left its listed with
   |nil=>exact(done listed x t a w hc hM hrun).2
   |cons it r=>
    exfalso;have hin:it∈left its listed:=by rw [hc];exact aA ..
    obtain⟨h1,h2⟩:=iE.1 hin;obtain⟨o,h3,_,h4⟩:=hitem it h1
    have:it.n∈Region.ready .any ops listed:=by
     refine mem_ready.2 ⟨h2,o,h3,fun e he hb=> ?_⟩;have hlt:=hback it.n o h3 e he hb;rw [hd2 listed hs _ (by omega)];rw [←Bool.not_eq_false];intro hfl;obtain⟨it',hit',hn'⟩:=hex e.on (by omega);have hin':it'∈left its listed:=iE.2 ⟨hit',by rw [hn'];exact hfl⟩;have hp:=(hpw.sublist (List.filter_sublist (p:=fun it=> !listed.getD it.n true)));change (left its listed).Pairwise _ at hp;rw [hc]at hp hin';rcases ao.1 hin' with rfl|hin'
     ·omega
     ·have:=(bS.1 hp).1 it' hin'
      omega
    rw [hnil]at this;cases this
  ·intro i hir
   obtain⟨h1,o,h2,h3⟩:=mem_ready.1 hir;have hi':i<ops.size:=(bX.1 h2).1;obtain⟨it,hit,rfl⟩:=hex i hi';have hin:it∈left its listed:=iE.2 ⟨hit,h1⟩;obtain⟨pre,post,hsp⟩:=List.append_of_mem hin;obtain⟨o',ho',hres,_⟩:=hitem it hit;have hp:(left its listed).Pairwise fun p q=>p.n<q.n:=hpw.sublist List.filter_sublist
   have hrising:At (left its listed):=by refine List.Pairwise.imp_of_mem (fun {p q} hp1 hq1 hlt=> ?_) hp;exact hrise p (iE.1 hp1).1 q (iE.1 hq1).1 hlt
   have hpre:∀j∈pre,xjV j it:=by
    intro j hj;have hj':j∈left its listed:=by rw [hsp];exact aj.2 (.inl hj)
    obtain⟨h4,h5⟩:=iE.1 hj'
    have hlt:j.n<it.n:=by rw [hsp]at hp;exact(dY.1 hp).2.2 j hj it (aA ..)
    refine hfree j h4 it hit hlt ?_;rw [←Bool.not_eq_true];intro hb;obtain⟨e,he,hbd,hor⟩:=hbit it.n o j.n h2 (by omega) hb;have hon:=h3 e he hbd;have honlt:=hback it.n o h2 e he hbd;rw [hd2 listed hs _ (by omega)]at hon;rcases hor with h|h
    ·rw [h]at hon;rw [hon]at h5;cases h5
    ·have:=hcl e.on (ops[e.on]'(by omega)) j.n (by simp) hon (by omega) h
     rw [this]at h5;cases h5
   have hrun':=hrun;rw [hsp]at hrun' hN hrising;have hfr:=xeI hpre hN hrising hrun';obtain⟨k1,k2,k3⟩:=hfr
   have hleft:left its (listed.setIfInBounds it.n true)=pre++post:=by
    have:left its (listed.setIfInBounds it.n true)=(left its listed).filter fun q=> !decide (q.n=it.n):=by
     simp only [left,List.filter_filter];apply List.filter_congr;intro q hq;rw [fu (by omega)]
     by_cases h:q.n=it.n<;>simp [h]
    rw [this,hsp];rw [hsp]at hp;have hp1:=dY.1 hp;rw [List.filter_append,iq];simp only [decide_true,lQ,aD,if_false]
    congr 1
    ·apply dI.2
     intro q hq;have:=hp1.2.2 q hq it (aA ..);simp;omega
    ·apply dI.2
     intro q hq;have:=(bS.1 hp1.2.1).1 q hq;simp;omega
   refine FA hM ho' hres k1 ?_;rintro a' w' ⟨x',s',hM',rfl⟩;refine ih _ x' _ a' w' ?_ ?_ ?_ hM' ?_ ?_
   ·rw [hleft]
    rw [hsp]at hf;simp only [ah,ax]at hf ⊢;omega
   ·simpa using hs
   ·intro i2 o2 k2' ho2 hl2 hk2 hb2
    rw [fu (by omega)]at hl2 ⊢;split
    ·rfl
    ·split at hl2
     ·rename_i e1
      subst e1;obtain⟨e,he,hbd,hor⟩:=hbit it.n o2 k2' ho2 hk2 hb2;rw [h2]at ho2;cases ho2;have hon:=h3 e he hbd;have honlt:=hback it.n o h2 e he hbd;rw [hd2 listed hs _ (by omega)]at hon;rcases hor with h|h
      ·rw [←h];exact hon
      ·exact hcl e.on (ops[e.on]'(by omega)) k2' (by simp) hon hk2 h
     ·exact hcl i2 o2 k2' ho2 hl2 hk2 hb2
   ·rw [hleft]
    intro q hq n hn;have hnum:∀k∈o8 it.i.dst it.o,t.Fresh k:=fun k hk=>hN it (by simp) k (by rw [←k2,fS];exact hk)
    have hb:n∉it.f.n∧n∉it.f.m:=by
     rcases aj.1 hq with hq|hq
     ·have hp:=(hpre q hq).pc.n1 n hn
      exact⟨hp.2.2.2.2,hp.2.2.2.1⟩
     ·have:=(dY.1 hrising).2.1
      exact kx ((bS.1 this).1 q hq) n hn
    rw [←k2]at hb;refine iC hnum (hN q ?_ n hn) hb.1 hb.2;rcases aj.1 hq with hq|hq
    ·exact aj.2 (.inl hq)
    ·exact aj.2 (.inr (au _ hq))
   ·rw [hleft];exact k3
end
theorem vn {b:List Nat} {fs:List eO} (h:mF b fs=true) {i j:Nat} (hj:j<fs.length) (hij:i<j):
 (fs.getD i fA).before (fs.getD j fA)=true∧((b.getD j 0).testBit i=false→(fs.getD i fA).clash (fs.getD j fA)=false):=by
 unfold mF at h;rw [aM]at h;have h1:=h j (dL.2 hj);rw [aM]at h1;have h2:=h1 i (dL.2 hij);rw [an,b9]at h2;refine⟨h2.1,fun hb=> ?_⟩;rw [hb]at h2;simpa using h2.2
theorem xC {p q:eO} (hp:p.quiet=true) (hq:q.quiet=true):p.before q=true∧p.clash q=false:=by simp only [eO.quiet,an,List.isEmpty_iff]at hp hq;obtain⟨⟨h1,h2⟩,h3⟩:=hp;obtain⟨⟨h4,h5⟩,h6⟩:=hq;simp [eO.before,eO.clash,lX,h1,h2,h3,h4,h5,h6]
theorem yd {id:Nat} {ops:Array Oper} {l:List SI} (hl:i5 (fF P ops) ops.toList=some l) (hd:drawn ops l=true) (hm:P.follows .mixedOrders=true) {k:St→Prop} {Q:Exit→Act→World→Prop} (hQ:∀a w,qx C k a w→Q .normal a w)
 (hM:aI C x s a w) (h:vcD P (Region.before ops).toList l [] k (s.forget (sG l))):(Code.region id ops true).wp P Q a w:=by
 have hM0:aI C x (s.forget (sG l)) a w:=hM.forget;obtain⟨its,sN,e1,e2,e3,e4,e5,e6,e7⟩:=rR h hM0.heap.nd;obtain⟨hlen,hget⟩:=ej hl;have hsz:its.length=l.length:=by rw [←e1,aQ]
 have hsz2:l.length=ops.size:=by rw [hlen,aO]
 simp only [drawn,an,decide_eq_true_eq]at hd;obtain⟨⟨hc,ht⟩,hdst⟩:=hd
 have hnth:∀p∈its,p.n<its.length∧its[p.n]? =some p:=by
  intro p hp;obtain⟨j,hj,rfl⟩:=lP.1 hp;have h1:(its.map Itm.n)[j]? =some its[j].n:=by rw [aJ,ab hj];rfl
  rw [e2,List.getElem?_range' (by omega)]at h1;simp at h1;have h2:its[j].n=j:=h1.symm;rw [h2];exact⟨hj,ab hj⟩
 have hfoot:∀p∈its,(its.map Itm.f).getD p.n fA=p.f:=by intro p hp;rw [aa,aJ,(hnth p hp).2];rfl
 have hinst:∀p∈its,l.getD p.n ⟨none,none,.lenC 0⟩=p.i:=by intro p hp;rw [←e1,aa,aJ,(hnth p hp).2];rfl
 simp only [List.reverse_nil,bp,b9]at e4
 have hpair:∀p∈its,∀q∈its,p.n<q.n→p.f.before q.f=true∧(((Region.before ops).toList.getD q.n 0).testBit p.n=false→p.f.clash q.f=false):=by
  intro p hp q hq hlt;rcases e4 with e4|e4
  ·rw [aM]at e4
   have:=xC (e4 p.f (cX hp)) (e4 q.f (cX hq));exact⟨this.1,fun _=>this.2⟩
  ·have:=vn e4 (i:=p.n) (j:=q.n) (by rw [aQ];exact(hnth q hq).1) hlt
   rw [hfoot p hp,hfoot q hq]at this;exact this
 have htemps:∀p∈its,∀q∈its,p.n≠q.n→((Region.before ops).toList.getD (max p.n q.n) 0).testBit (min p.n q.n)=false→∀d,p.i.dst=some d→d∉q.i.reads:=by
  intro p hp q hq hne hb d hd hr;unfold AD at ht;rw [aM]at ht;have h1:=ht q.n (dL.2 (by rw [←hsz];exact(hnth q hq).1));rw [aM]at h1;have h2:=h1 p.n (dL.2 (by rw [←hsz];exact(hnth p hp).1));rw [hinst p hp,hinst q hq,hd,hb]at h2;simp only [b9,beq_iff_eq,bZ,Bool.or_false]at h2;rcases h2 with h2|h2
  ·exact hne h2
  ·rw [dn]at h2
   simp only [decide_eq_false_iff_not]at h2;exact h2 hr
 have hdd:∀p∈its,∀q∈its,p.n<q.n→∀d,p.i.dst=some d→q.i.dst≠some d:=by
  intro p hp q hq hlt d h1 h2
  have hpl:l.Pairwise fun u v=>∀d,u.dst=some d→v.dst≠some d:=by rw [pf,List.pairwise_filterMap]at hdst;refine hdst.imp ?_;intro u v huv d hu hv;exact huv d hu d hv rfl
  rw [ip]at hpl;have hp':=hnth p hp;have hq':=hnth q hq
  have g1:l[p.n]'(by omega)=p.i:=by have:=hinst p hp;rwa [aa,ab (by omega),bg]at this
  have g2:l[q.n]'(by omega)=q.i:=by have:=hinst q hq;rwa [aa,ab (by omega),bg]at this
  exact hpl p.n q.n (by omega) (by omega) hlt d (by rw [g1];exact h1) (by rw [g2];exact h2)
 have hclosed:∀(i:Nat) (o:Oper),ops[i]? =some o→(∀e∈o.after,Region.binds .any e=true→e.on<i)∧
  ∀k,k<ops.size→((Region.before ops).toList.getD i 0).testBit k=true→∃e∈o.after,Region.binds .any e=true∧(e.on=k∨((Region.before ops).toList.getD e.on 0).testBit k=true):=by
  intro i o ho;unfold mY at hc;rw [aM]at hc;have hi:i<ops.size:=(bX.1 ho).1
  have h1:=hc (o,i) (by rw [List.mem_zipIdx_iff_getElem?];simpa using ho)
  simp only [an,Array.all_eq_true_iff_forall_mem,aM,b9,bZ,decide_eq_true_eq]at h1;refine⟨fun e he hb=>(h1.1 e he).resolve_left (by simp [hb]),fun k hk hb=> ?_⟩;have h2:=(h1.2 k (dL.2 hk)).resolve_left (by simp only [hb];simp);obtain⟨_,h3⟩:=h2;rw [←Array.any_toList,tj]at h3;obtain⟨e,he,h4⟩:=h3;rw [Array.mem_toList_iff]at he;simp only [an,b9,beq_iff_eq]at h4;exact⟨e,he,h4.1,h4.2⟩
 refine wp_region_any hm ?_;have hM1:aI C x (s.forget (sG l)) a {w with drawn:=w.drawn+1}:=⟨hM0.tm,hM0.defers,hM0.heap.drawn _⟩
 have hleft:left its (dE ops.size false)=its:=by
  apply dI.2;intro p hp;have:=(hnth p hp).1;have h2:p.n<ops.size:=by omega
  simp [fK,h2]
 refine EK (its:=its) (b:=(Region.before ops).toList) (sN:=sN) hl e1 (by simpa using e2) (fun i o ho=>(hclosed i o ho).1) (fun i o k ho hk hb=>(hclosed i o ho).2 k hk hb) ?_ (fun p hp q hq hlt=>(hpair p hp q hq hlt).1) ?_ ops.size _ x _ a _ ?_ (by simp) ?_ hM1 ?_ ?_
 ·intro p hp q hq hlt hb
  refine⟨htemps p hp q hq (by omega) ?_,htemps q hq p hp (by omega) ?_,hdd p hp q hq hlt,xkB ((hpair p hp q hq hlt).2 hb)⟩
  ·rw [Nat.max_eq_right (by omega),dr (by omega)];exact hb
  ·rw [Nat.max_eq_left (by omega),Nat.min_eq_right (by omega)];exact hb
 ·intro x t a w hM heq
  exact hQ a w ⟨x,sN,hM.eqv heq e6,e7⟩
 ·rw [hleft];omega
 ·intro i o k ho hl _ _
  have hi:i<ops.size:=(bX.1 ho).1;simp [fK,hi]at hl
 ·rw [hleft]
  intro it hit n hn;exact mn (.inr (e3 it hit n hn))
 ·rw [hleft];exact e5
end Go.Sy
namespace Go.Sy
variable [ba]
variable {P : Program} {C : Ctx} {x : Sit} {s : St} {a : Act} {w : World}
theorem xeC (p:Nat→Prop) (h:∃n,p n):∃n,p n∧∀m,p m→n≤m:=by
 obtain⟨n,hn⟩:=h;induction n using Nat.strongRecOn with
 |_ n ih=>
  by_cases hex:∃m,m<n∧p m
  ·obtain⟨m,hm,hpm⟩:=hex;exact ih m hm hpm
  ·exact⟨n,hn,fun m hpm=>Nat.le_of_not_lt fun hlt=>hex ⟨m,hlt,hpm⟩⟩
def xB (P:Program) (s:St):List ResultVar→Option (Prop×List SV)
 |[]=>some (True,[])
 | .tmp t::r=>match xB P s r with
  |some (p,vs)=>some (p,s.get t::vs)
  |none=>none
 | .cell t ty::r=>match fp P ty,rq P ty,xB P s r with
  |some n,some ag,some (p,vs)=>match (if ag||n==1 then fM s n ag (s.get t)else none)with
   |some (q,v)=>some (q∧p,v::vs)
   |none=>none
  |_,_,_=>none
def jw:List SV→SV
 |[v]=>v
 |vs=> .tup vs
theorem rp (hM:aI C x s a w) {t:TypeId} {n:Nat} {ag:Bool} {u c:SV} {v:Value} {p:Prop} (hn:fp P t=some n) (hag:rq P t=some ag) (hu:Rep x u v) (h:(if ag||n==1 then fM s n ag u else none)=some (p,c)) (hp:p):
 ∃ad r,v= .pointer (some ad)∧(loadVar t ad).run P w= .ok r w∧Rep x c r:=by
 split at h<;>try (cases h;done)
 rename_i h1;obtain⟨b,off,cs,rfl,rfl,hc⟩:=mi hM hu h hp;obtain⟨r,hr,hrep⟩:=pO (P:=P) hc hn hag h1;exact⟨_,r,rfl,hr,hrep⟩
def UY (tmps:Array Value):ResultVar→Sem Value
 | .tmp t=>pure (tmps.getD t Go.undef)
 | .cell a t=>do loadVar t (←asAddr (tmps.getD a Go.undef))
theorem xA (fn:Func) (tmps:Array Value):results fn tmps=(do let vs←fn.results.mapM (UY tmps);pure (if h:vs.size=1 then vs[0]else .tuple vs)):=by
 unfold results
 congr 1
theorem rh (hM:aI C x s a w):∀ {rs:List ResultVar} {p:Prop} {vs:List SV},xB P s rs=some (p,vs)→p→
 ∃us,(rs.mapM (UY a.tmps)).run P w= .ok us w∧cn x vs us:=by
 intro rs;induction rs with
 |nil=>intro p vs h _;simp only [xB,av.injEq,bh.injEq]at h;obtain⟨_,rfl⟩:=h;exact⟨[],rfl,rfl,fun i hi=>by simp at hi⟩
 |cons r rs ih=>
  intro p vs h hp
  have cons:∀ {c:SV} {u:Value} {cs:List SV} {us:List Value},Rep x c u→cn x cs us→cn x (c::cs) (u::us):=by
   intro c u cs us h1 h2
   exact⟨by simp [h2.1],fun i hi=>by
    cases i with
    |zero=>exact h1
    |succ i=>simpa using h2.2 i (by simpa using hi)⟩
  cases r with
  |tmp t=>
   simp only [xB]at h;split at h<;>try (cases h;done)
   rename_i q vs' hq;simp only [av.injEq,bh.injEq]at h;obtain⟨rfl,rfl⟩:=h;obtain⟨us,hrun,hl⟩:=ih hq hp;refine⟨_, ?_,cons (hM.slot t) hl⟩;simp only [List.mapM_cons,UY,az,aE,al,hrun]
  |cell t ty=>
   simp only [xB]at h;split at h<;>try (cases h;done)
   rename_i n ag q vs' hn hag hq;split at h<;>try (cases h;done)
   rename_i q' v' hv;simp only [av.injEq,bh.injEq]at h;obtain⟨rfl,rfl⟩:=h;obtain⟨us,hrun,hl⟩:=ih hq hp.2;obtain⟨ad,r,hadr,hlr,hrep⟩:=rp hM hn hag (hM.slot t) hv hp.1;refine⟨_, ?_,cons hrep hl⟩;have hA:(asAddr (a.tmps.getD t Go.undef)).run P w= .ok ad w:=by rw [hadr];rfl
   simp only [List.mapM_cons,UY,az,hA,aE,al,hlr,hrun]
end Go.Sy
namespace Go.Sy
variable [ba]
variable {P : Program}
end Go.Sy
namespace Go.Sy
variable [ba]
variable {P : Program} {C : Ctx} {x : Sit} {s : St} {a : Act} {w : World}
def leT (t:Nat) (a b:SV):Prop:=∀(x:Sit) (v:Value),Rep x a v→Rep (x.newT t 0 0 0) b v
theorem leT.keep (t:Nat) (a:SV):leT t a (a.purge t (t+1)):=fun x v h=>h.mono (x:=x) (x':=x.newT t 0 0 0) (lo:=t) (hi:=t+1) (fun _ _ _ h=>h) (fun _ _=>rfl) (Sit.newT_ne x t 0 0 0)
theorem leT.le {t:Nat} {a b:SV} (h:rF a b) (hi:t∉b.ids) (ht:t∉b.toks):leT t a b:=fun x v hv=>by have:=leT.keep t b x v (h x v hv);rwa [pF b hi ht]at this
theorem leT.undef (t:Nat) (a:SV):leT t a .undef:=fun _ v _=> .undef v
theorem leT.lst (t sz:Nat) (xs:List (List SV)):leT t (.lst sz xs .clip) (.lst sz xs (.id t)):=fun x v hv=>by obtain⟨b,cap,he,_,hD,hsp⟩:=hv.lst_inv;obtain⟨a',n',he'⟩:=hsp;exact .dat _ _ (hD.tok (.lst sz xs (.id t)) (.inr ⟨sz,xs,_,_,rfl,rfl⟩)) ⟨a',n',n',he',.inl rfl⟩
theorem leT.byt (t:Nat) (l:List UInt8):leT t (.byt l .clip) (.byt l (.id t)):=fun x v hv=>by obtain⟨b,cap,he,_,hD,hsp⟩:=hv.byt_inv;obtain⟨a',n',he'⟩:=hsp;exact .dat _ _ (hD.tok (.byt l (.id t)) (.inl ⟨l,_,_,rfl,rfl⟩)) ⟨a',n',n',he',.inl rfl⟩
def leP (o sz:Nat) (xs:List (List SV)) (a b:SV):Prop:=∀(x x':Sit) (v:Value),x'.β=x.β→x'.τ=x.τ→(∀b i u,x.G b i=some u→x'.G b i=some u)→
 (∀k,k<xs.length*sz→∃u,x'.G (x.β o) k=some u∧cS x'.G ((xs.getD (k/sz) []).getD (k % sz) .undef) u)→Rep x a v→Rep x' b v
theorem leP.le {o sz:Nat} {xs:List (List SV)} {a b:SV} (h:rF a b):leP o sz xs a b:=fun x x' v hβ hτ hG _ hv=>(h x v hv).grow hG hβ hτ
theorem leP.undef (o sz:Nat) (xs:List (List SV)) (a:SV):leP o sz xs a .undef:=fun _ _ v _ _ _ _ _=> .undef v
theorem leP.psl {o sz off n:Nat} {cap:Option Nat} {xs:List (List SV)} (hb:off+n≤xs.length) (hrows:∀y∈xs,y.length=sz):leP o sz xs (.psl o sz off n cap) (.lst sz ((xs.drop off).take n) .no):=by
 intro x x' v hβ hτ hG hc hv;obtain⟨cap,hnc,_,off',he,hoff⟩:=hv.psl_inv;rw [he];have hlen:((xs.drop off).take n).length=n:=by simp;omega
 refine .dat _ _ ?_ trivial
 by_cases hn:n=0
 ·subst hn
  refine .lst _ _ _ _ _ _ _ (fun _ _=>Go.undef) hlen.symm hnc (fun i hi=>by omega) (fun i j hi=>by omega) (fun i j hi=>by omega)
 ·have hoff':off'=off*sz:=by omega
  have hrow:∀i,i<n→(((xs.drop off).take n).getD i [])=xs.getD (off+i) []:=fun i hi=>by simp only [aa,bM,if_pos hi,bx]
  have hl:∀i,i<n→(xs.getD (off+i) []).length=sz:=fun i hi=>by rw [aa,ab (by omega)];exact hrows _ (aT _)
  have hk:∀i j,i<n→j<sz→off*sz+i*sz+j<xs.length*sz:=fun i j hi hj=>by have:=bB sz (show off+i+1≤xs.length by omega);simp only [bP,Nat.one_mul]at this;omega
  have hdm:∀i j,j<sz→(off*sz+i*sz+j)/sz=off+i∧(off*sz+i*sz+j) % sz=j:=fun i j hj=>by rw [←bP,dv,Nat.mul_add_div (by omega),Nat.div_eq_of_lt hj,eP];exact⟨rfl,by rw [Nat.mul_add_mod,yB hj]⟩
  refine .lst _ _ _ _ _ _ _ (fun i j=>(x'.G (x.β o) (off*sz+i*sz+j)).getD Go.undef) hlen.symm hnc (fun i hi=>by rw [hrow i hi];exact hl i hi) (fun i j hi hj=> ?_) (fun i j hi hj=> ?_)
  ·obtain⟨u,hu,_⟩:=hc _ (hk i j hi hj)
   rw [hoff',hu];rfl
  ·obtain⟨u,hu,hr⟩:=hc _ (hk i j hi hj)
   rw [hu,hrow i hi];rw [(hdm i j hj).1,(hdm i j hj).2]at hr;exact hr
end Go.Sy
namespace Go.Sy
variable [ba]
structure CSt where
 tm:List (Nat×SV)
 ob:List (Nat×aB)
 tk:List Nat
def eE:List (Nat×SV)→Nat→SV
 |[],_=> .undef
 |p::r,n=>if p.1=n then p.2 else eE r n
def jI:List (Nat×SV)→Nat→SV→List (Nat×SV)
 |[],n,v=> [(n,v)]
 |p::r,n,v=>if n<p.1 then(n,v)::p::r else if n=p.1 then(n,v)::r else p::jI r n v
def wB:List (Nat×SV)→List Nat→List (Nat×SV)
 |[],_=> []
 |p::r,l=>if l.contains p.1 then wB r l else p::wB r l
def iW:List (Nat×aB)→Nat→Option aB
 |[],_=>none
 |p::r,n=>if p.1=n then some p.2 else iW r n
def jd:List (Nat×aB)→Nat→aB→List (Nat×aB)
 |[],n,v=> [(n,v)]
 |p::r,n,v=>if n<p.1 then(n,v)::p::r else if n=p.1 then(n,v)::r else p::jd r n v
def xjz:List (Nat×aB)→Nat→List (Nat×aB)
 |[],_=> []
 |p::r,n=>if p.1=n then xjz r n else p::xjz r n
def nh:List Nat→Nat→List Nat
 |[],n=> [n]
 |p::r,n=>if n<p then n::p::r else if n=p then p::r else p::nh r n
def dA (lo hi:Nat):List (Nat×SV)→List (Nat×SV)
 |[]=> []
 |p::r=>(p.1,p.2.purge lo hi)::dA lo hi r
def CSt.get (c:CSt) (n:Nat):SV:=eE c.tm n
def CSt.ev (c:CSt):Arg→SV
 | .t n=>c.get n
 | .c v=>v
 | .f g=> .fn g [] []
def evL (c:CSt):List Arg→List SV
 |[]=> []
 |a::r=>c.ev a::evL c r
def CSt.put (c:CSt) (d:Option Nat) (v:SV):CSt:=
 match d with
 |some d=>⟨jI c.tm d v,c.ob,c.tk⟩
 |none=>c
def CSt.look (c:CSt) (o:Nat):Option aB:=iW c.ob o
def CSt.purge (c:CSt) (lo hi:Nat):CSt:=⟨dA lo hi c.tm,bC lo hi c.ob,cK lo hi c.tk⟩
def CSt.kill (c:CSt) (l:List Nat):CSt:=
 match l with
 |[]=>c
 |l=>⟨wB c.tm l,c.ob,c.tk⟩
def gd {α:Type} (p:Prop) [Decidable p] (v:α):Option α:=if p then some v else none
def xZ (op:BinOp) (k:IntKind) (a b:Int):Option SV:=
 match op with
 | .add=>some (.int k (k.wrap (a+b)))
 | .sub=>some (.int k (k.wrap (a-b)))
 | .mul=>some (.int k (k.wrap (a*b)))
 | .quo=>gd (b≠0) (.int k (k.wrap (a.tdiv b)))
 | .rem=>gd (b≠0) (.int k (a.tmod b))
 | .and=>some (.int k (bq .and k a b))
 | .or=>some (.int k (bq .or k a b))
 | .xor=>some (.int k (bq .xor k a b))
 | .andNot=>some (.int k (bq .andNot k a b))
 | .shl=>gd (0≤b) (.int k (k.wrap (a*2^(min b.toNat k.bits))))
 | .shr=>gd (0≤b) (.int k (a.fdiv (2^(min b.toNat k.bits))))
 | .eql=>some (.bool (decide (a=b)))
 | .neq=>some (.bool (decide (a≠b)))
 | .lss=>some (.bool (decide (a<b)))
 | .leq=>some (.bool (decide (a≤b)))
 | .gtr=>some (.bool (decide (b<a)))
 | .geq=>some (.bool (decide (b≤a)))
def yF (op:BinOp) (a b:UInt8):Option SV:=
 match op with
 | .add=>some (.u8 (a+b))
 | .sub=>some (.u8 (a-b))
 | .mul=>some (.u8 (a*b))
 | .quo=>gd (b≠0) (.u8 (a/b))
 | .rem=>gd (b≠0) (.u8 (a % b))
 | .and=>some (.u8 (a&&&b))
 | .or=>some (.u8 (a|||b))
 | .xor=>some (.u8 (a^^^b))
 | .andNot=>some (.u8 (a&&& ~~~b))
 | .eql=>some (.bool (decide (a=b)))
 | .neq=>some (.bool (decide (a≠b)))
 | .lss=>some (.bool (decide (a<b)))
 | .leq=>some (.bool (decide (a≤b)))
 | .gtr=>some (.bool (decide (b<a)))
 | .geq=>some (.bool (decide (b≤a)))
 |_=>none
def QX (op:BinOp) (a b:List UInt8):Option SV:=
 match op with
 | .add=>gd (a.length+b.length≤9223372036854775807) (.str (a++b))
 | .eql=>some (.bool (decide (a=b)))
 | .neq=>some (.bool (decide (a≠b)))
 | .lss=>some (.bool (cG a b))
 | .leq=>some (.bool (cG a b||decide (a=b)))
 | .gtr=>some (.bool (!(cG a b||decide (a=b))))
 | .geq=>some (.bool (!cG a b))
 |_=>none
def np:BinOp→Bool
 | .shl| .shr=>true
 |_=>false
def Dk (op:BinOp):SV→SV→Option SV
 | .int k a,.int k' b=>if np op=true∨k=k' then xZ op k a b else none
 | .u8 a,.u8 b=>yF op a b
 | .str a,.str b=>QX op a b
 |_,_=>none
def lZ (c:CSt) (n:Nat) (ag:Bool):SV→Option SV
 | .pp cs=>gd (n≤cs.length) (dC ag n (cs.map SV.data))
 | .ptr o off=>match c.look o with
  |some (.rc cs)=>gd (off+n≤cs.length) (dC ag n (cs.drop off))
  |some (.arr _ xs)=>gd (off=0∧n≤xs.flatten.length) (dC ag n (xs.flatten.map SV.data))
  |some (.bar l)=>gd (off=0∧n≤l.length) (dC ag n (l.map .u8))
  |none=>none
 | .ap o sz i j=>match c.look o with
  |some (.arr sz' xs)=>gd (sz=sz'∧i<xs.length∧j+n≤sz) (dC ag n (((xs.getD i []).drop j).map SV.data))
  |some (.bar l)=>gd (sz=1∧j=0∧n=1∧i<l.length) (dC ag n [.u8 (l.getD i 0)])
  |_=>none
 |_=>none
def kD (c:CSt) (x:Option Arg) (dflt:Int):Option Int:=
 match x with
 |none=>some dflt
 |some a=>(c.ev a).num
def oh (c:CSt) (sz:Nat) (x:SV) (lo hi mx:Option Arg):Option SV:=
 match x with
 | .byt l t=>
  match kD c lo 0,kD c hi l.length,kD c mx l.length with
  |some a,some b,some m=>gd (0≤a∧a≤b∧b≤m∧m≤l.length∧sz=1∧(mx.isSome=true→b=m)) (.byt ((l.take b.toNat).drop a.toNat) (mu t hi.isNone mx.isSome))
  |_,_,_=>none
 | .lst sz' l t=>
  match kD c lo 0,kD c hi l.length,kD c mx l.length with
  |some a,some b,some m=>gd (0≤a∧a≤b∧b≤m∧m≤l.length∧sz=sz'∧(mx.isSome=true→b=m)) (.lst sz ((l.take b.toNat).drop a.toNat) (mu t hi.isNone mx.isSome))
  |_,_,_=>none
 | .psl o sz' off n none=>
  match kD c lo 0,kD c hi n,mx with
  |some a,some b,none=>gd (0≤a∧a≤b∧b≤n∧sz=sz') (.psl o sz (off+a.toNat) (b.toNat-a.toNat) none)
  |_,_,_=>none
 | .psl o sz' off n (some cap)=>
  match kD c lo 0,kD c hi n,kD c mx cap with
  |some a,some b,some m=>gd (0≤a∧a≤b∧b≤m∧m≤cap∧sz=sz') (.psl o sz (off+a.toNat) (b.toNat-a.toNat) (some (m.toNat-a.toNat)))
  |_,_,_=>none
 |_=>none
def eW (c:CSt):SV→Option (List UInt8)
 | .byt l _=>some l
 | .str l=>some l
 | .psl o sz off n _=>match c.look o with
  |some (.bar l)=>gd (sz=1∧off+n≤l.length) ((l.drop off).take n)
  |_=>none
 |_=>none
def i9 (c:CSt) (sz:Nat):SV→Option (List (List SV))
 | .lst sz' xs _=>gd (sz=sz') xs
 | .psl o sz' off n _=>match c.look o with
  |some (.arr sz'' xs)=>gd (sz=sz'∧sz=sz''∧off+n≤xs.length) ((xs.drop off).take n)
  |_=>none
 |_=>none
def psC (c:CSt):List (Nat×Nat×Arg)→List (Nat×Nat×SV)
 |[]=> []
 |(o,n,x)::r=>(o,n,c.ev x)::psC c r
def iK (t:Bool) (a b:SV):SV:=if t=true then a else b
def cD (c:CSt):SOp→Option SV
 | .mov x=>some (c.ev x)
 | .build z ps=>(ij z (psC c ps)).map .agg
 | .lit sz xs=>(rows sz (evL c xs)).map fun r=> .lst sz r .clip
 | .litB xs=>(toB (evL c xs)).map fun r=> .byt r .clip
 | .load n ag a=>lZ c n ag (c.ev a)
 | .nchk x=>match c.ev x with
  | .ptr o off=>some (.ptr o off)
  | .ap o sz i j=>some (.ap o sz i j)
  | .pp cs=>some (.pp cs)
  | .fn f a b=>some (.fn f a b)
  |_=>none
 | .bin op x y=>Dk op (c.ev x) (c.ev y)
 | .beq ne x y=>match c.ev x,c.ev y with
  | .bool a,.bool b=>some (.bool (if ne then decide (a≠b)else decide (a=b)))
  |_,_=>none
 | .eqS ne ts x y=>match c.ev x,c.ev y with
  | .agg cs,.agg ds=>(gP ts cs ds).map fun b=> .bool (if ne then !b else b)
  |_,_=>none
 | .un op x=>vu op (c.ev x)
 | .toInt k x=>gJ k (c.ev x)
 | .toStr x=>match c.ev x with| .str l=>some (.str l)|_=>none
 | .slid _=>none
 | .newB _=>none
 | .isni ne x=>match c.ev x with| .nili=>some (.bool (!ne))|_=>none
 | .s2b x=>match c.ev x with| .str l=>some (.byt l .no)|_=>none
 | .b2s x=>match c.ev x with
  | .str _=>none
  |v=>(eW c v).map .str
 | .mkfn f a b=>some (.fn f (evL c a) (evL c b))
 | .slcS x lo hi=>match c.ev x with
  | .str l=>match kD c lo 0,kD c hi l.length with
   |some a,some b=>gd (0≤a∧a≤b∧b≤l.length) (.str ((l.take b.toNat).drop a.toNat))
   |_,_=>none
  |_=>none
 | .slcL sz x lo hi mx=>oh c sz (c.ev x) lo hi mx
 | .slcA len sz x lo hi mx=>match c.ev x with
  | .ptr o off=>if off=0 then oh c sz (.psl o sz 0 len (some len)) lo hi mx else none
  |_=>none
 | .faddr off x=>match c.ev x with
  | .ptr o k=>some (.ptr o (k+off))
  | .ap o sz i j=>some (.ap o sz i (j+off))
  | .pp cs=>some (.pp (cs.drop off))
  |_=>none
 | .fld off n ag x=>match c.ev x with
  | .agg cs=>gd (off+n≤cs.length) (dC ag n (cs.drop off))
  |_=>none
 | .iaddrL sz x i=>match c.ev x,(c.ev i).num with
  | .byt l _,some n=>gd (0≤n∧n<l.length∧sz=1) (.pp [.u8 (l.getD n.toNat 0)])
  | .lst sz' xs _,some n=>gd (0≤n∧n<xs.length∧sz=sz') (.pp (xs.getD n.toNat []))
  | .psl o sz' off k _,some n=>gd (0≤n∧n<k∧sz=sz') (.ap o sz (off+n.toNat) 0)
  |_,_=>none
 | .iaddrA len sz x i=>match c.ev x,(c.ev i).num with
  | .ptr o off,some n=>match c.look o with
   |some (.rc _)=>gd (0≤n∧n<len) (.ptr o (off+n.toNat*sz))
   |some _=>gd (off=0∧0≤n∧n<len) (.ap o sz n.toNat 0)
   |none=>none
  | .pp cs,some n=>gd (0≤n∧n<len∧cs.length=len*sz) (.pp (cs.drop (n.toNat*sz)))
  |_,_=>none
 | .idxA len sz ag x i=>match c.ev x,(c.ev i).num with
  | .agg cs,some n=>gd (0≤n∧n<len∧cs.length=len*sz) (dC ag sz (cs.drop (n.toNat*sz)))
  |_,_=>none
 | .idxS x i=>match c.ev x,(c.ev i).num with
  | .str l,some n=>gd (0≤n∧n<l.length) (.u8 (l.getD n.toNat 0))
  |_,_=>none
 | .ext x i=>match c.ev x with
  | .tup vs=>gd (i<vs.length) (vs.getD i .undef)
  |_=>none
 | .len b x=>(jA b (c.ev x)).map fun n=> .int .i64 (n:Nat)
 | .lenC n=>some (.int .i64 n)
 | .cap x=>match c.ev x with
  | .psl _ _ _ _ (some m)=>some (.int .i64 m)
  | .byt l t=>if t= .clip then some (.int .i64 l.length)else none
  | .lst _ xs t=>if t= .clip then some (.int .i64 xs.length)else none
  |_=>none
 | .mini x y=>match c.ev x,c.ev y with
  | .int k a,.int k' b=>if k=k' then some (.int k (if b<a then b else a))else none
  |_,_=>none
 | .maxi x y=>match c.ev x,c.ev y with
  | .int k a,.int k' b=>if k=k' then some (.int k (if a<b then b else a))else none
  |_,_=>none
 |_=>none
structure fD where
 val:SV
 wr:List (Nat×aB):=[]
 new:Option aB:=none
 eat:Tok:= .no
 tok:Bool:=false
def Arg.isT:Arg→Bool
 | .t _=>true
 |_=>false
def aB.wf:aB→Bool
 | .arr sz xs=>xs.all fun x=>decide (x.length=sz)
 |_=>true
def jR (c:CSt) (n:Nat) (v:List SV):SV→Option fD
 | .ptr o off=>match c.look o with
  |some (.rc cs)=>gd (off+n≤cs.length∧v.length=n∧v.all SV.one=true) {val:= .undef,wr:=[(o,.rc (gL cs off v))]}
  |some (.arr sz xs)=>gd (off=0∧n=xs.length*sz∧v.length=n∧v.all SV.isData=true) {val:= .undef,wr:=[(o,.arr sz (jC sz xs.length (v.map SV.data)))]}
  |some (.bar l)=>match toB v with
   |some l'=>gd (off=0∧n=l.length∧l'.length=n) {val:= .undef,wr:=[(o,.bar l')]}
   |none=>none
  |_=>none
 | .ap o sz i j=>match c.look o with
  |some (.arr sz' xs)=>gd (sz=sz'∧i<xs.length∧j+n≤sz∧v.length=n∧v.all SV.isData=true) {val:= .undef,wr:=[(o,.arr sz' (fy sz xs i j n (v.map SV.data)))]}
  |some (.bar l)=>match v with
   |[.u8 b]=>gd (sz=1∧j=0∧n=1∧i<l.length) {val:= .undef,wr:=[(o,.bar (l.set i b))]}
   |_=>none
  |_=>none
 |_=>none
def Tok.readyC (c:CSt):Tok→Bool
 | .no=>false
 | .clip=>true
 | .id t=>c.tk.contains t
def dJ (c:CSt) (d:Option Nat):SOp→Option fD
 | .new o=>match d with
  |some d=>gd (o.wf=true) {val:= .ptr (d+100) 0,new:=some o}
  |none=>none
 | .box x=>match d with
  |some d=>some {val:= .ptr (d+100) 0,new:=some (.rc (c.ev x).cells)}
  |none=>none
 | .mk z bytes n m=>match d,c.ev n,c.ev m with
  |some d,.int _ n,.int _ m=>gd (0≤n∧n≤m∧bytes*m≤140737488355328∧m≤9223372036854775807) {val:= .psl (d+100) z.length 0 n.toNat (some m.toNat),new:=some (.arr z.length (am m.toNat z))}
  |_,_,_=>none
 | .mkB n m=>match d,c.ev n,c.ev m with
  |some d,.int _ n,.int _ m=>gd (0≤n∧n≤m∧m≤140737488355328) {val:= .psl (d+100) 1 0 n.toNat (some m.toNat),new:=some (.bar (am m.toNat 0))}
  |_,_,_=>none
 | .store n a x=>if(c.ev x).isDef=true then jR c n (c.ev x).cells (c.ev a)else none
 | .app z bytes x y=>match d with
  |some d=>match c.ev x with
   | .byt l t=>(eW c (c.ev y)).bind fun l'=>gd (z.length=1∧bytes=1∧t.readyC c=true∧l.length+l'.length≤140737488355328) {val:= .byt (l++l') (.id (d+100)),eat:=t,tok:=true}
   | .lst sz' l t=>(i9 c z.length (c.ev y)).bind fun l'=>gd (z.length=sz'∧t.readyC c=true∧(l.length+l'.length)*bytes≤140737488355328) {val:= .lst z.length (l++l') (.id (d+100)),eat:=t,tok:=true}
   |_=>none
  |none=>none
 | .cpy sz x y=>match c.ev x with
  | .psl o sz' off n _=>match c.look o with
   |some (.bar l)=>(eW c (c.ev y)).bind fun l'=>gd (sz=1∧sz'=1∧off+n≤l.length) {val:= .int .i64 (min l'.length n:Nat),wr:=[(o,.bar (l.take off++l'.take n++l.drop (off+(l'.take n).length)))]}
   |some (.arr sz'' xs)=>(i9 c sz (c.ev y)).bind fun l'=>gd (y.isT=true∧sz=sz'∧sz=sz''∧off+n≤xs.length) {val:= .int .i64 (min l'.length n:Nat),wr:=[(o,.arr sz (xs.take off++l'.take n++xs.drop (off+(l'.take n).length)))]}
   |_=>none
  |_=>none
 | .pick k a b=>match c.ev k with
  | .bool t=>some {val:=iK t (c.ev a) (c.ev b)}
  |_=>none
 | .call _ _=>none
 | .isnil ne x=>match c.ev x with
  | .byt l _=>gd (l≠ []) {val:= .bool ne}
  | .lst _ xs _=>gd (xs≠ []) {val:= .bool ne}
  | .psl _ _ _ _ _=>some {val:= .bool ne}
  |_=>none
 |so=>match cD c so with
  |some v=>some {val:=v}
  |none=>none
def CSt.wr (c:CSt):List (Nat×aB)→CSt
 |[]=>c
 |p::r=>CSt.wr ⟨c.tm,jd c.ob p.1 p.2,c.tk⟩ r
def CSt.app (c:CSt) (d:Option Nat) (e:fD):CSt:=
 match e.new,e.tok with
 |some o,_=>CSt.put ⟨dA (d.getD 0+100) (d.getD 0+101) c.tm,jd (bC (d.getD 0+100) (d.getD 0+101) c.ob) (d.getD 0+100) (o.purge (d.getD 0+100) (d.getD 0+101)),cK (d.getD 0+100) (d.getD 0+101) c.tk⟩ d e.val
 |none,true=>CSt.put ⟨dA (d.getD 0+100) (d.getD 0+101) c.tm,bC (d.getD 0+100) (d.getD 0+101) c.ob,nh (cK (d.getD 0+100) (d.getD 0+101) (e.eat.eat c.tk)) (d.getD 0+100)⟩ d e.val
 |none,false=>(c.wr e.wr).put d e.val
end Go.Sy
namespace Go.Sy
variable [ba]
mutual
def SV.bare:SV→SV
 | .byt l _=> .byt l .no
 | .lst sz xs _=> .lst sz xs .no
 | .agg cs=> .agg (SV.bareL cs)
 | .tup cs=> .tup (SV.bareL cs)
 | .fn f a b=> .fn f (SV.bareL a) (SV.bareL b)
 |v=>v
def SV.bareL:List SV→List SV
 |[]=> []
 |v::r=>v.bare::SV.bareL r
end
def xD (obj:aB) (sz off n:Nat) (cap:Option Nat):SV:=
 match obj with
 | .arr sz' xs=>if sz'=sz∧off+n≤xs.length then .lst sz ((xs.drop off).take n) (if cap=some n then .clip else .no)else .undef
 | .bar l=>if sz=1∧off+n≤l.length then .byt ((l.drop off).take n) (if cap=some n then .clip else .no)else .undef
 | .rc _=> .undef
mutual
def SV.pub (o:Nat) (obj:aB):SV→SV
 | .psl o' sz off n cap=>if o'=o then xD obj sz off n cap else .psl o' sz off n cap
 | .ptr o' off=>if o'=o then .undef else .ptr o' off
 | .ap o' sz i j=>if o'=o then .undef else .ap o' sz i j
 | .agg cs=> .agg (SV.pubL o obj cs)
 | .tup cs=> .tup (SV.pubL o obj cs)
 | .fn f a b=> .fn f (SV.pubL o obj a) (SV.pubL o obj b)
 |v=>v
def SV.pubL (o:Nat) (obj:aB):List SV→List SV
 |[]=> []
 |v::r=>v.pub o obj::SV.pubL o obj r
end
def mf (o:Nat) (obj:aB):List (Nat×SV)→List (Nat×SV)
 |[]=> []
 |p::r=>(p.1,p.2.pub o obj)::mf o obj r
def oO (o:Nat) (obj:aB):aB→aB
 | .rc cs=> .rc (SV.pubL o obj cs)
 |ob=>ob
def lx (o:Nat) (obj:aB):List (Nat×aB)→List (Nat×aB)
 |[]=> []
 |p::r=>if p.1=o then lx o obj r else(p.1,oO o obj p.2)::lx o obj r
def CSt.publish (c:CSt) (o:Nat) (vs:List SV):CSt×List SV:=
 match c.look o with
 |some (.arr sz xs)=>(⟨mf o (.arr sz xs) c.tm,lx o (.arr sz xs) c.ob,c.tk⟩,SV.pubL o (.arr sz xs) vs)
 |some (.bar l)=>(⟨mf o (.bar l) c.tm,lx o (.bar l) c.ob,c.tk⟩,SV.pubL o (.bar l) vs)
 |_=>(c,vs)
def gW:SV→List Nat
 | .psl o _ _ _ _=> [o]
 |_=> []
def uA:List SV→List Nat
 |[]=> []
 |v::r=>gW v++uA r
def nb (raw:List Nat) (i:Nat):SV→List Nat
 | .psl o _ _ _ _=>if raw.contains i=true then []else [o]
 | .agg cs=>if raw.contains i=true then []else uA cs
 |_=> []
def i7 (raw:List Nat):Nat→List SV→List Nat
 |_,[]=> []
 |i,v::r=>nb raw i v++i7 raw (i+1) r
def eV (c:CSt) (vs:List SV):List Nat→CSt×List SV
 |[]=>(c,vs)
 |o::r=>eV (c.publish o vs).1 (c.publish o vs).2 r
def Tok.kc:Tok→Bool→Tok
 | .clip,b=>if b=true then .clip else .no
 | .no,_=> .no
 | .id _,_=> .no
def SV.kclip:SV→SV
 | .lst sz xs t=> .lst sz xs (t.kc xs.isEmpty)
 | .byt l t=> .byt l (t.kc l.isEmpty)
 |v=>v.bare
def jE (tk:List Nat) (j:Nat):SV→SV×List (Option Nat)
 | .agg cs=>(.agg (cs.map SV.kclip),[])
 | .byt l .no=>(.byt l .no,[])
 | .byt l .clip=>(.byt l (.id j),[none])
 | .byt l (.id t)=>if tk.contains t=true then(.byt l (.id j),[some t])else(.byt l .no,[])
 | .lst sz xs .no=>(.lst sz xs .no,[])
 | .lst sz xs .clip=>(.lst sz xs (.id j),[none])
 | .lst sz xs (.id t)=>if tk.contains t=true then(.lst sz xs (.id j),[some t])else(.lst sz xs .no,[])
 |v=>(v.bare,[])
def kb (tk:List Nat) (own:List Nat):Nat→Nat→List SV→List SV×List (Option Nat)
 |_,_,[]=>([],[])
 |j,i,v::r=>
  if own.contains i=true then
   ((jE tk j v).1::(kb tk own (j+(jE tk j v).2.length) (i+1) r).1,(jE tk j v).2++(kb tk own (j+(jE tk j v).2.length) (i+1) r).2)
  else(v.bare::(kb tk own j (i+1) r).1,(kb tk own j (i+1) r).2)
def tp (tk:List Nat):Nat→List SV→List SV×List (Option Nat)
 |_,[]=>([],[])
 |j,v::r=>((jE tk j v).1::(tp tk (j+(jE tk j v).2.length) r).1,(jE tk j v).2++(tp tk (j+(jE tk j v).2.length) r).2)
def jQ (tk:List Nat) (j:Nat):aB→aB×List (Option Nat)
 | .rc cs=>(.rc (tp tk j cs).1,(tp tk j cs).2)
 |o=>(o,[])
def ed (tk:List Nat):Nat→List aB→List aB×List (Option Nat)
 |_,[]=>([],[])
 |j,v::r=>((jQ tk j v).1::(ed tk (j+(jQ tk j v).2.length) r).1,(jQ tk j v).2++(ed tk (j+(jQ tk j v).2.length) r).2)
def cB:List (Option Nat)→List Nat
 |[]=> []
 |none::r=>cB r
 |some t::r=>t::cB r
def dO (c:CSt):Nat→List Nat→List Nat→List Nat
 |0,acc,_=>acc
 |_+1,acc,[]=>acc
 |
  f+1,acc,o::t=>if acc.contains o=true then dO c f acc t else
  match c.look o with
  |some ob=>dO c f (acc++ [o]) (t++ob.ids)
  |none=>dO c f acc t
def gF (c:CSt):List Nat→Option (List aB)
 |[]=>some []
 |o::r=>match c.look o,gF c r with
  |some ob,some l=>some (ob::l)
  |_,_=>none
def eB:List Nat→Nat→Nat
 |[],_=>0
 |p::r,o=>if p=o then 0 else eB r o+1
def fL:List aB→List Nat
 |[]=> []
 |o::r=>o.ids++fL r
def dB:List Nat→Bool
 |[]=>true
 |a::r=> !r.contains a&&dB r
def po (a b:List Nat):Bool:=a.all b.contains
def ei (mo mt:Nat→Nat):List aB→List aB
 |[]=> []
 |o::r=>o.ren mo mt::ei mo mt r
structure ec where
 r:SV
 os:List (Nat×aB)
 tk:List Nat
structure Sig where
 own:List Nat:=[]
 raw:List Nat:=[]
def rK (ob:List (Nat×aB)):List (Nat×aB)→List (Nat×aB)
 |[]=>ob
 |p::r=>rK (jd ob p.1 p.2) r
def rL (tk:List Nat):List Nat→List Nat
 |[]=>tk
 |t::r=>rL (nh tk t) r
def mX (l:List Nat):List Nat→List Nat
 |[]=> []
 |t::r=>if l.contains t=true then mX l r else t::mX l r
def rJ (d:Nat):List Nat→List Nat
 |[]=> []
 |t::r=>gZ d t::rJ d r
def ec.small (q:ec):Bool:=q.os.all (fun p=>decide (p.1<1000)&&p.2.ids.all (fun k=>decide (k<1000))&&p.2.toks.all (fun k=>decide (k<1000)))&&q.r.ids.all (fun k=>decide (k<1000))&&q.r.toks.all (fun k=>decide (k<1000))&&q.tk.all (fun k=>decide (k<1000))
def jZ (c:CSt) (d:Option Nat) (m mt:List Nat) (q:ec):CSt:=
 CSt.put ⟨dA ((d.getD 0+1)*1000) ((d.getD 0+2)*1000) c.tm,
  rK (fk m (bC ((d.getD 0+1)*1000) ((d.getD 0+2)*1000) c.ob)) (pD (d.getD 0) m q.os),
  rL (mX mt (cK ((d.getD 0+1)*1000) ((d.getD 0+2)*1000) c.tk)) (rJ (d.getD 0) q.tk)⟩ d (q.r.ren (fx (d.getD 0) m) (gZ (d.getD 0)))
abbrev cr:=Nat→List SV→List aB→Nat→Option ec
def ec.bare (q:ec):Bool:=q.os.isEmpty&&q.tk.isEmpty&&q.r.ids.isEmpty&&q.r.toks.isEmpty
def ya (c:CSt) (d:Option Nat) (q:ec):Bool→Option CSt
 |true=>some (jZ c d [] [] q)
 |false=>none
def oR (c:CSt) (d:Option Nat) (q:ec):Bool→Option CSt
 |true=>some (c.put d q.r)
 |false=>ya c d q q.small
def mU (c:CSt) (d:Option Nat):Option ec→Option CSt
 |some q=>oR c d q q.bare
 |none=>none
def xb (c:CSt) (d:Option Nat) (m mt:List Nat) (q:ec):Bool→Option CSt
 |true=>some (jZ c d m mt q)
 |false=>none
def py (c:CSt) (d:Option Nat) (m mt:List Nat):Option ec→Option CSt
 |some q=>xb c d m mt q q.small
 |none=>none
def oI (call:cr) (c:CSt) (d:Option Nat) (g:Nat) (as:List SV) (mt1:List (Option Nat)) (m:List Nat) (os:List aB) (mt2:List (Option Nat)):Bool→Option CSt
 |true=>py c d m (cB (mt1++mt2)) (call g (SV.renL (eB m) id as) (ei (eB m) id os) (mt1.length+mt2.length))
 |false=>none
def oJ (call:cr) (c:CSt) (d:Option Nat) (g:Nat) (as:List SV) (mt1:List (Option Nat)) (m:List Nat):List aB×List (Option Nat)→Option CSt
 |(os,mt2)=>oI call c d g as mt1 m os mt2 (po (SV.idsL as++fL os) m&&dB m&&dB (cB (mt1++mt2))&&decide (m.length≤40)&&m.all fun o=> !inR (d.getD 0) o)
def lT (call:cr) (c:CSt) (d:Option Nat) (g:Nat) (as:List SV) (mt1:List (Option Nat)) (m:List Nat):Option (List aB)→Option CSt
 |some os=>oJ call c d g as mt1 m (ed c.tk (50+mt1.length) os)
 |none=>none
def oK (call:cr) (c:CSt) (d:Option Nat) (g:Nat):List SV×List (Option Nat)→Option CSt
 |(as,mt1)=>lT call c d g as mt1 (dO c 60 [] (SV.idsL as)) (gF c (dO c 60 [] (SV.idsL as)))
def jS (call:cr) (sg:Sig) (d:Option Nat) (g:Nat):CSt×List SV→Option CSt
 |(c,as)=>oK call c d g (kb c.tk sg.own 50 0 as)
def jX (call:cr) (sg:Sig) (c:CSt) (d:Option Nat) (g:Nat) (as:List SV):Bool→Option CSt
 |true=>mU c d (call g (SV.bareL as) [] 0)
 |false=>jS call sg d g (eV c as (i7 sg.raw 0 as))
def iB (call:cr) (sg:Sig) (c:CSt) (d:Option Nat) (g:Nat) (as:List SV):Option CSt:=
 jX call sg c d g as ((SV.idsL as).isEmpty&&sg.own.isEmpty)
inductive Dir where
 |kill (l:List Nat)
 |gc (l:List Nat)
 |gcr (lo hi:Nat)
 |pub (n:Nat)
 |pubo (o:Nat)
 |tok (n id:Nat)
inductive RI where
 |op (i:SI) (dead:List Nat)
 |grp (g:Nat) (b:Bool) (l:List SI) (dead:List Nat)
 |own (i:SI) (dead:List Nat)
 |tks (i:SI) (dead:List Nat)
 |dir (d:Dir)
structure FI where
 n:Nat
 q:Bool
 i:SI
inductive RC where
 |skip
 |ops (l:List RI)
 |drw (b ds:List Nat) (l:List SI) (dead:List Nat)
 |flt (b ds:List Nat) (l:List FI) (dead:List Nat)
 |fla (b ds:List Nat) (l:List FI) (ps:List (List Nat)) (dead:List Nat)
 |seq (a b:RC)
 |cond (c:Arg) (a b:RC)
 |block (id:Nat) (b:RC)
 |loop (b:RC)
 |exit (id:Nat)
 |ret
 |pre (ds:List Dir) (a:RC)
 |post (a:RC) (ds:List Dir)
 |bad
def erL:List RI→List SI
 |[]=> []
 | .op i _::r=>i::erL r
 | .grp _ _ l _::r=>l++erL r
 | .own i _::r=>i::erL r
 | .tks i _::r=>i::erL r
 | .dir _::r=>erL r
def E3:List FI→Nat→SI
 |[],_=>⟨none,none,.lenC 0⟩
 |f::r,k=>if f.n=k then f.i else E3 r k
def unF (l:List FI):List SI:=(cg l.length).map (E3 l)
def RC.er:RC→gz
 | .skip=> .skip
 | .ops l=> .ops (erL l)
 | .drw b ds l _=> .drw b ds l
 | .flt b ds l _=> .drw b ds (unF l)
 | .fla b ds l _ _=> .drw b ds (unF l)
 | .seq a b=> .seq a.er b.er
 | .cond c a b=> .cond c a.er b.er
 | .block id b=> .block id b.er
 | .loop b=> .loop b.er
 | .exit id=> .exit id
 | .ret=> .ret
 | .pre _ a=>a.er
 | .post a _=>a.er
 | .bad=> .bad
def gcC (c:CSt):List Nat→CSt
 |[]=>c
 |o::r=>gcC (c.purge o (o+1)) r
def EW (c:CSt) (n id o:Nat) (obj:aB) (v:SV):CSt:=
 ⟨jI (dA id (id+1) (mf o obj c.tm)) n v,bC id (id+1) (lx o obj c.ob),nh (cK id (id+1) c.tk) id⟩
def R6 (c:CSt) (n id o sz off k cp:Nat):Option aB→Option CSt
 |some (.bar l)=>if sz=1∧off+cp≤l.length∧k≤cp then some (EW c n id o (.bar (l.take (off+k))) (.byt ((l.drop off).take k) (.id id)))else some c
 |some (.arr sz' xs)=>if sz'=sz∧off+cp≤xs.length∧k≤cp then some (EW c n id o (.arr sz' (xs.take (off+k))) (.lst sz ((xs.drop off).take k) (.id id)))else some c
 |_=>some c
def R7 (c:CSt) (n id:Nat):SV→Option CSt
 | .byt l t=>match t with
  | .no=>some c
  | .clip=>some ⟨jI (dA id (id+1) c.tm) n (.byt l (.id id)),bC id (id+1) c.ob,nh (cK id (id+1) c.tk) id⟩
  | .id t=>if t=id then some c else if c.tk.contains t=true then some ⟨jI (dA id (id+1) c.tm) n (.byt l (.id id)),bC id (id+1) c.ob,nh (cK id (id+1) (cK t (t+1) c.tk)) id⟩else none
 | .lst sz xs t=>match t with
  | .no=>some c
  | .clip=>some ⟨jI (dA id (id+1) c.tm) n (.lst sz xs (.id id)),bC id (id+1) c.ob,nh (cK id (id+1) c.tk) id⟩
  | .id t=>if t=id then some c else if c.tk.contains t=true then some ⟨jI (dA id (id+1) c.tm) n (.lst sz xs (.id id)),bC id (id+1) c.ob,nh (cK id (id+1) (cK t (t+1) c.tk)) id⟩else none
 | .psl o sz off k (some cp)=>R6 c n id o sz off k cp (c.look o)
 |_=>some c
def sJ (c:CSt):Dir→Option CSt
 | .kill l=>some (c.kill l)
 | .gc l=>some (gcC c l)
 | .gcr lo hi=>some (c.purge lo hi)
 | .pubo o=>some (c.publish o []).1
 | .pub n=>match c.get n with
  | .psl o _ _ _ _=>some (c.publish o []).1
  |_=>some c
 | .tok n id=>if id=99 then none else R7 c n id (c.get n)
def iQ (c:CSt):List Dir→Option CSt
 |[]=>some c
 |d::r=>match sJ c d with
  |some c'=>iQ c' r
  |none=>none
inductive Ex where
 |n
 |x (id:Nat)
 |r
abbrev gR:=Option (Ex×CSt)
def o9 (c:CSt) (d:Option Nat):Option fD→Option CSt
 |some e=>some (c.app d e)
 |none=>none
def oP (c:CSt):Option Nat→Option (List UInt8)→Option CSt
 |some k,some l=>some (c.app (some k) {val:= .psl (k+100) 1 0 l.length (some l.length),new:=some (.bar l)})
 |_,_=>none
def pz (c:CSt) (d:Option Nat) (o off n:Nat) (cap:Option Nat):Option aB→Option CSt
 |some (.bar l)=>if off+n≤l.length∧cap=some n then some (((c.publish o []).1).put d (.byt ((l.drop off).take n) .clip))else none
 |_=>none
def rI (c:CSt) (d:Option Nat):SV→Option CSt
 | .psl o 1 off n cap=>pz c d o off n cap (c.look o)
 |_=>none
def opC (call:cr) (sg:Nat→Sig) (c:CSt) (d:Option Nat) (o:SOp):Option CSt:=
 match o with
 | .newB xs=>oP c d (toB (evL c xs))
 | .slid x=>rI c d (c.ev x)
 | .call f as=>match c.ev f with
  | .fn g a b=>iB call (sg g) c d g (a++evL c as++b)
  |_=>none
 |o=>o9 c d (dJ c d o)
def dS (call:cr) (sg:Nat→Sig) (c:CSt) (i:SI):Option CSt:=
 match i.g with
 |none=>opC call sg c i.dst i.op
 |some (g,b)=>match c.get g with
  | .bool t=>if t=b then opC call sg c i.dst i.op else some (c.put i.dst (.tup []))
  | .tup []=>some (c.put i.dst (.tup []))
  |_=>none
mutual
def plC (call:cr) (sg:Nat→Sig):List SI→CSt→Option CSt
 |[],c=>some c
 |i::r,c=>nxP call sg r (opC call sg c i.dst i.op)
def nxP (call:cr) (sg:Nat→Sig):List SI→Option CSt→Option CSt
 |r,some c=>plC call sg r c
 |_,none=>none
end
def unL (c:CSt):List SI→CSt
 |[]=>c
 |i::r=>unL (c.put i.dst (.tup [])) r
def pZ (call:cr) (sg:Nat→Sig) (b:Bool) (l:List SI) (c:CSt):SV→Option CSt
 | .bool t=>if t=b then plC call sg l c else some (unL c l)
 | .tup []=>some (unL c l)
 |_=>none
def S5 (c:CSt):Option Nat→SV→Option CSt
 |some k,.str l=>some (c.app (some k) {val:= .psl (k+100) 1 0 l.length none,new:=some (.bar l)})
 |_,_=>none
def xjt (c:CSt) (z:List SV) (bytes:Nat) (l:List UInt8):Option Nat→Option (List UInt8)→Option CSt
 |some k,some l'=>if z.length≠1 then none else if l'=[]then some (c.put (some k) (.byt l .clip))else if bytes=1∧l.length+l'.length≤140737488355328 then some (c.app (some k) {val:= .psl (k+100) 1 0 (l.length+l'.length) none,new:=some (.bar (l++l'))})else none
 |_,_=>none
def xjs (c:CSt) (z:List SV) (bytes sz:Nat) (l:List (List SV)):Option Nat→Option (List (List SV))→Option CSt
 |some k,some l'=>if l'=[]then some (c.put (some k) (.lst sz l .clip))else if z.length=sz∧(l.length+l'.length)*bytes≤140737488355328 then some (c.app (some k) {val:= .psl (k+100) sz 0 (l.length+l'.length) none,new:=some (.arr sz (l++l'))})else none
 |_,_=>none
def S4 (c:CSt) (d:Option Nat) (z:List SV) (bytes:Nat) (y:Arg):SV→Option CSt
 | .byt l t=>if t= .clip then xjt c z bytes l d (eW c (c.ev y))else none
 | .lst sz l t=>if t= .clip then xjs c z bytes sz l d (i9 c z.length (c.ev y))else none
 |_=>none
def S3 (c:CSt) (sz:Nat):Option Nat→Option (List (List SV))→Option CSt
 |some k,some xs=>some (c.app (some k) {val:= .psl (k+100) sz 0 xs.length (some xs.length),new:=some (.arr sz xs)})
 |_,_=>none
def xoT (c:CSt) (d:Option Nat):SOp→Option CSt
 | .lit sz xs=>S3 c sz d (rows sz (evL c xs))
 | .litB xs=>oP c d (toB (evL c xs))
 | .s2b x=>S5 c d (c.ev x)
 | .app z bytes x y=>S4 c d z bytes y (c.ev x)
 |_=>none
def Sa (c:CSt):Option Nat→SV→Option CSt
 |some k,.str l=>some (c.app (some k) {val:= .byt l (.id (k+100)),tok:=true})
 |_,_=>none
def xnR (c:CSt) (d:Option Nat):SOp→Option CSt
 | .s2b x=>Sa c d (c.ev x)
 |_=>none
def AC (c:CSt) (i:SI):Option CSt:=match i.g with
 |none=>xnR c i.dst i.op
 |some _=>none
def tN (c:CSt) (i:SI):Option CSt:=match i.g with
 |none=>xoT c i.dst i.op
 |some _=>none
mutual
def fP (call:cr) (sg:Nat→Sig):List RI→CSt→Option CSt
 |[],c=>some c
 | .op i dead::r,c=>nxC call sg dead r (dS call sg c i)
 | .grp g b l dead::r,c=>nxC call sg dead r (pZ call sg b l c (c.get g))
 | .own i dead::r,c=>nxC call sg dead r (tN c i)
 | .tks i dead::r,c=>nxC call sg dead r (AC c i)
 | .dir d::r,c=>nxC call sg [] r (sJ c d)
def nxC (call:cr) (sg:Nat→Sig) (dead:List Nat):List RI→Option CSt→Option CSt
 |r,some c=>fP call sg r (c.kill dead)
 |_,none=>none
end
def kY (c:CSt) (so:SOp) (d:Option Nat) (e:fD):eO:=
 ⟨SV.idsL (evL c so.args),e.wr.map bv,e.eat.ids,(match e.new,e.tok with|none,false=> []|_,_=> [d.getD 0+100]),e.val.names++ji e.wr++(match e.new with|some o=>o.names|none=> []),if so.blind=true then []else SV.idsL (evL c so.args)⟩
def uT (q:ec):Bool→Option fD
 |true=>some {val:=q.r}
 |false=>none
def uU:Option ec→Option fD
 |some q=>uT q q.bare
 |none=>none
def uR (o:Nat) (r:SV) (cs:List SV):Bool→Option fD
 |true=>some {val:=r,wr:=[(o,.rc cs)]}
 |false=>none
def uS (o:Nat):Option ec→Option fD
 |some ⟨r,[(0,.rc cs)],[]⟩=>uR o r cs (r.ids.isEmpty&&r.toks.isEmpty&&(SV.idsL cs).isEmpty&&(SV.toksL cs).isEmpty)
 |_=>none
def o6 (call:cr) (o g:Nat) (as:List SV) (ob:aB):Bool→Option fD
 |true=>uS o (call g (SV.renL (eB [o]) id as) [ob] 0)
 |false=>none
def o7 (call:cr) (o g:Nat) (as:List SV):Option aB→Option fD
 |some ob=>o6 call o g as ob (ob.ids.isEmpty&&ob.toks.isEmpty&&(SV.idsL as).all (fun k=>decide (k=o))&&(SV.idsL (SV.renL (eB [o]) id as)).all (fun k=>decide (k=0)))
 |none=>none
def qf (call:cr) (c:CSt) (g:Nat) (as:List SV):List Nat→Option fD
 |o::_=>o7 call o g as (c.look o)
 |[]=>none
def o5 (call:cr) (c:CSt) (g:Nat) (as:List SV):Bool→Option fD
 |true=>qf call c g (SV.bareL as) (SV.idsL as)
 |false=>none
def jY (call:cr) (c:CSt) (own:Bool) (g:Nat) (as:List SV):Bool→Option fD
 |true=>uU (call g (SV.bareL as) [] 0)
 |false=>o5 call c g as own
def lI (call:cr) (sg:Nat→Sig) (c:CSt) (as:List SV):SV→Option fD
 | .fn g a b=>jY call c (sg g).own.isEmpty g (a++as++b) ((SV.idsL (a++as++b)).isEmpty&&(sg g).own.isEmpty)
 |_=>none
def dQ (call:cr) (sg:Nat→Sig) (c:CSt) (i:SI):Option fD:=
 match i.op with
 | .call f as=>lI call sg c (evL c as) (c.ev f)
 | .isnil _ _=>none
 | .cpy _ _ _=>none
 |so=>dJ c i.dst so
mutual
def iT (call:cr) (sg:Nat→Sig) (b:List Nat):List SI→List eO→CSt→Option CSt
 |[],fs,c=>gd ((fs.all eO.quiet||mF b fs.reverse)=true) c
 |i::r,fs,c=>match i.g with
  |none=>nxD call sg b i.op i.dst r fs c (dQ call sg c i)
  |some (g,want)=>match c.get g with
   | .bool t=>if t=want then nxD call sg b i.op i.dst r fs c (dQ call sg c i)else iT call sg b r (fA::fs) (c.put i.dst .undef)
   |_=>none
def nxD (call:cr) (sg:Nat→Sig) (b:List Nat) (op:SOp) (d:Option Nat):List SI→List eO→CSt→Option fD→Option CSt
 |r,fs,c,some e=>iT call sg b r (kY c op d e::fs) (c.app d e)
 |_,_,_,none=>none
end
def cU (c:CSt):SOp→Option SV
 | .pick k a b=>match c.ev k with
  | .bool t=>some (iK t (c.ev a) (c.ev b))
  |_=>none
 |so=>cD c so
def qg (c:CSt) (o:SOp) (b:Bool):SV→Option SV
 | .bool t=>if t=b then cU c o else some (.tup [])
 | .tup []=>some (.tup [])
 |_=>none
def qv (c:CSt) (i:SI):Option SV:=match i.g with
 |none=>cU c i.op
 |some (g,b)=>qg c i.op b (c.get g)
def tU (m:Nat) (c:CSt):List FI→Prop
 |[]=>True
 |p::r=>(m/2^p.n % 2=1∨qv c p.i=some (c.get (p.i.dst.getD 0)))∧tU m c r
open Classical in
noncomputable def gdP {α:Type} (p:Prop) (v:α):Option α:=if p then some v else none
mutual
noncomputable def fe (call:cr) (sg:Nat→Sig) (b:List Nat):List FI→List FI→CSt→Option CSt
 |[],_,c=>some c
 |⟨n,true,i⟩::r,ps,c=>wk call sg b r (⟨n,true,i⟩::ps) c i.dst (qv c i)
 |⟨n,false,i⟩::r,ps,c=>rx call sg b r ps (b.getD n 0) (dS call sg c i)
noncomputable def wk (call:cr) (sg:Nat→Sig) (b:List Nat):List FI→List FI→CSt→Option Nat→Option SV→Option CSt
 |r,ps,c,d,some v=>fe call sg b r ps (c.put d v)
 |_,_,_,_,none=>none
noncomputable def rx (call:cr) (sg:Nat→Sig) (b:List Nat):List FI→List FI→Nat→Option CSt→Option CSt
 |r,ps,m,some c=>ry call sg b r ps (gdP (tU m c ps) c)
 |_,_,_,none=>none
noncomputable def ry (call:cr) (sg:Nat→Sig) (b:List Nat):List FI→List FI→Option CSt→Option CSt
 |r,ps,some c=>fe call sg b r ps c
 |_,_,none=>none
end
def uL:List FI→Nat→FI
 |[],k=>⟨k,false,⟨none,none,.lenC 0⟩⟩
 |f::r,k=>if f.n=k then f else uL r k
def iV (l:List FI):List Nat→List FI
 |[]=> []
 |k::r=>uL l k::iV l r
noncomputable def oV:Option CSt→Option CSt→Option CSt
 |some a,some b=>gdP (a=b) a
 |_,_=>none
noncomputable def jg (call:cr) (sg:Nat→Sig) (b:List Nat) (l:List FI):List (List Nat)→CSt→Option CSt
 |[],_=>none
 |[p],c=>fe call sg b (iV l p) [] c
 |p::q::r,c=>oV (fe call sg b (iV l p) [] c) (jg call sg b l (q::r) c)
def nrm (dead:List Nat):Option CSt→gR
 |some c=>some (.n,c.kill dead)
 |none=>none
def sq (rn:RC→CSt→gR) (b:RC):gR→gR
 |some (.n,c)=>rn b c
 |r=>r
def cnd (rn:RC→CSt→gR) (a b:RC) (c:CSt):SV→gR
 | .bool t=>if t=true then rn a c else rn b c
 |_=>none
def blk (id:Nat):gR→gR
 |some (.x id',c)=>if id'=id then some (.n,c)else some (.x id',c)
 |r=>r
def lp (rn:RC→CSt→gR) (b:RC):gR→gR
 |some (.n,c)=>rn (.loop b) c
 |r=>r
def prD (rn:RC→CSt→gR) (a:RC):Option CSt→gR
 |some c=>rn a c
 |none=>none
def psD (ds:List Dir):gR→gR
 |some (.n,c)=>match iQ c ds with
  |some c'=>some (.n,c')
  |none=>none
 |r=>r
noncomputable def dx (rn:RC→CSt→gR) (call:cr) (sg:Nat→Sig):RC→CSt→gR
 | .skip,c=>some (.n,c)
 | .ops l,c=>nrm [] (fP call sg l c)
 | .drw b ds l dead,c=>nrm dead (iT call sg b l [] (gcC c ds))
 | .flt b _ l dead,c=>nrm dead (fe call sg b l [] c)
 | .fla b _ l ps dead,c=>nrm dead (jg call sg b l ps c)
 | .seq a b,c=>sq rn b (rn a c)
 | .cond k a b,c=>cnd rn a b c (c.ev k)
 | .block id b,c=>blk id (rn b c)
 | .loop b,c=>lp rn b (rn b c)
 | .exit id,c=>some (.x id,c)
 | .ret,c=>some (.r,c)
 | .pre ds a,c=>prD rn a (iQ c ds)
 | .post a ds,c=>psD ds (rn a c)
 | .bad,_=>none
def SI.ok (N:Nat) (i:SI):Bool:=match i.dst with
 |some d=>decide (d<N)
 |none=>true
def SI.okG (N g:Nat) (b:Bool) (i:SI):Bool:=i.ok N&&(match i.g with|some (g',b')=>decide (g'=g)&&(b'==b)|none=>false)&&decide (i.dst≠some g)
def RI.ok (N:Nat):RI→Bool
 | .op i _=>i.ok N
 | .grp g b l _=>l.all (SI.okG N g b)
 | .own i _=>i.ok N
 | .tks i _=>i.ok N
 | .dir _=>true
def oA (b:List Nat) (i j:Nat):Bool:=(b.getD j 0).testBit i
def oM (b:List Nat):Option Nat→List FI→Bool
 |_,[]=>true
 |
  s,f::r=>if f.q then(match s with|some s=>oA b s f.n|none=>true)&&oM b s r
  else(match s with|some s=>oA b s f.n|none=>true)&&oM b (some f.n) r
def Qu (b:List Nat) (p q:FI):Bool:= !oA b q.n p.n&&(p.q||q.q||oA b p.n q.n)
def pK (b:List Nat):List FI→Bool
 |[]=>true
 |p::r=>r.all (Qu b p)&&pK b r
def SI.rds (i:SI):List Nat:=i.op.args.filterMap (fun| .t n=>some n|_=>none)++(match i.g with|some (g,_)=> [g]|none=> [])
def TI (b:List Nat) (l:List FI):Bool:=l.all fun q=> !q.q||(match q.i.dst with|some d=>l.all fun p=> !p.i.rds.contains d||(oA b q.n p.n&&decide (p.n≠q.n))|none=>false)
def Rq (b:List Nat) (l:List FI):Bool:=oM b none l&&pK b l&&TI b l&&decide ((l.map FI.n).Nodup)&&l.all (fun f=>decide (f.n<l.length))&&(cg l.length).all (l.map FI.n).contains
def xq (b:List Nat):Option Nat→List FI→Bool
 |_,[]=>true
 |s,f::r=>if f.q then(match s with|some s=>oA b s f.n|none=>true)&&xq b s r else xq b (some f.n) r
def uM (b:List Nat):List FI→Bool
 |[]=>true
 |p::r=>r.all (fun q=> !oA b q.n p.n)&&uM b r
def fB (l:List FI):List Nat:=l.filterMap fun f=>if f.q then none else some f.n
def lg (b:List Nat):Nat→List (List Nat)→Bool
 |_,[]=>false
 |_,[]::_=>true
 |0,_=>false
 |k+1,A@((h::t)::_)=>(h::t).all fun g=>(h::t).any (fun x=>decide (x≠g)&&oA b x g)||lg b k (A.filterMap fun p=>match p with|x::r=>if x=g then some r else none|[]=>none)
def RN (b:List Nat) (l:List FI) (ps:List (List Nat)):Bool:=
 TI b l&&decide ((l.map FI.n).Nodup)&&l.all (fun f=>decide (f.n<l.length))&&(cg l.length).all (l.map FI.n).contains&&
 ps.all (fun p=>decide p.Nodup&&p.all (l.map FI.n).contains&&(l.map FI.n).all p.contains&&xq b none (iV l p)&&uM b (iV l p))&&lg b l.length (ps.map fun p=>fB (iV l p))
def RC.ok (N:Nat):RC→Bool
 | .ops l=>l.all (RI.ok N)
 | .drw _ _ l _=>l.all (SI.ok N)
 | .flt b _ l _=>l.all (fun f=>f.i.ok N)&&Rq b l
 | .fla b _ l ps _=>l.all (fun f=>f.i.ok N)&&RN b l ps
 | .seq a b=>a.ok N&&b.ok N
 | .cond _ a b=>a.ok N&&b.ok N
 | .block _ b=>b.ok N
 | .loop b=>b.ok N
 | .pre _ a=>a.ok N
 | .post a _=>a.ok N
 |_=>true
inductive RV where
 |tmp (t:Nat)
 |cell (t n:Nat) (ag:Bool)
structure FnC where
 code:RC
 n:Nat
 rs:List RV
 keep:List Nat:=[]
 raw:List Nat:=[]
inductive FnB where
 |code (F:FnC)
 |prim (f:List SV→List aB→Nat→Option ec)
structure oW where
 fn:Nat→Option FnB
 sg:Nat→Sig
def rZ (c:CSt):List RV→Option (List SV)
 |[]=>some []
 | .tmp t::r=>match rZ c r with
  |some vs=>some (c.get t::vs)
  |none=>none
 | .cell t n ag::r=>match (if ag=true∨n=1 then lZ c n ag (c.get t)else none),rZ c r with
  |some v,some vs=>some (v::vs)
  |_,_=>none
def lq:Nat→List Nat
 |0=> []
 |n+1=>lq n++ [n]
def gg (k:Nat):List aB→List (Nat×aB)
 |[]=> []
 |o::r=>(k,o)::gg (k+1) r
def gY (k:Nat) (m:List Nat) (o:Nat):Nat:=if o<k then o else 100+eB m o
def tks (b n:Nat):List Nat:=(lq n).map (b+ ·)
def xeJ (k:Nat) (vs:List SV) (mt1:List (Option Nat)) (m:List Nat) (os:List aB) (mt2:List (Option Nat)):Bool→Option ec
 |true=>some ⟨(jw vs).ren (gY k m) id,(gg 0 (ei (gY k m) id (os.take k)))++(gg (100+k) (ei (gY k m) id (os.drop k))),tks 60 (mt1.length+mt2.length)⟩
 |false=>none
def xeK (k:Nat) (vs:List SV) (mt1:List (Option Nat)) (m:List Nat):List aB×List (Option Nat)→Option ec
 |(os,mt2)=>xeJ k vs mt1 m os mt2 (po (SV.idsL vs++fL os) m&&dB m&&dB (cB (mt1++mt2))&&decide (m.take k=lq k)&&(m.drop k).all fun o=>decide (k≤o))
def xeL (k:Nat) (c:CSt) (vs:List SV) (mt1:List (Option Nat)) (m:List Nat):Option (List aB)→Option ec
 |some os=>xeK k vs mt1 m (ed c.tk (60+mt1.length) os)
 |none=>none
def xeM (k:Nat) (c:CSt):List SV×List (Option Nat)→Option ec
 |(vs,mt1)=>xeL k c vs mt1 (dO c 60 [] (lq k++SV.idsL vs)) (gF c (dO c 60 [] (lq k++SV.idsL vs)))
def QF (keep:List Nat) (k:Nat) (c:CSt) (vs:List SV):Bool→Option ec
 |true=>some ⟨jw (SV.bareL vs),[],[]⟩
 |false=>xeM k c (kb c.tk keep 60 0 vs)
def TR (keep:List Nat) (k:Nat):CSt×List SV→Option ec
 |(c,vs)=>QF keep k c vs (decide (k=0)&&(SV.idsL vs).isEmpty&&keep.isEmpty)
def QG (keep raw:List Nat) (k:Nat) (c:CSt):Option (List SV)→Option ec
 |some vs=>TR keep k (eV c vs (i7 raw 0 vs))
 |none=>none
def Fe (F:FnC) (k:Nat):gR→Option ec
 |some (.n,c)=>QG F.keep F.raw k c (rZ c F.rs)
 |some (.r,c)=>QG F.keep F.raw k c (rZ c F.rs)
 |_=>none
def oQ:Nat→List SV→List (Nat×SV)
 |_,[]=> []
 |i,v::r=>(i,v)::oQ (i+1) r
def rM (args:List SV) (os:List aB) (k:Nat):CSt:=⟨oQ 0 args,gg 0 os,tks 50 k⟩
def Fc (rn:RC→CSt→gR) (F:FnC) (args:List SV) (os:List aB) (k:Nat):gR:=if args.length≤F.n then rn F.code (rM args os k)else none
def oU (rn:RC→CSt→gR):Option FnB→List SV→List aB→Nat→Option ec
 |some (.code F),args,os,k=>Fe F os.length (Fc rn F args os k)
 |some (.prim f),args,os,k=>f args os k
 |none,_,_,_=>none
noncomputable def gM (T:oW):Nat→RC→CSt→gR
 |0,_,_=>none
 |n+1,r,c=>dx (gM T n) (fun g args os k=>oU (gM T n) (T.fn g) args os k) T.sg r c
noncomputable def eh (T:oW) (n:Nat):cr:=fun g args os k=>oU (gM T n) (T.fn g) args os k
noncomputable def lim {α:Type} (g:Nat→Option α):Option α:=open Classical in if h:∃n x,g n=some x then g (Classical.choose h)else none
noncomputable def run (T:oW) (r:RC) (c:CSt):gR:=lim fun n=>gM T n r c
noncomputable def call (T:oW):cr:=fun g args os k=>lim fun n=>eh T n g args os k
end Go.Sy
namespace Go.Sy
variable [ba]
def leR (f g:RC→CSt→gR):Prop:=∀r c x,f r c=some x→g r c=some x
def leC (f g:cr):Prop:=∀a b o k x,f a b o k=some x→g a b o k=some x
theorem x9 {c:CSt} {d:Option Nat} {x:CSt} {a b:Option ec} (h:∀q,a=some q→b=some q) (k:mU c d a=some x):mU c d b=some x:=by
 cases a with
 |none=>cases k
 |some q=>rw [h q rfl];exact k
theorem xc {c:CSt} {d:Option Nat} {m mt:List Nat} {x:CSt} {a b:Option ec} (h:∀q,a=some q→b=some q) (k:py c d m mt a=some x):py c d m mt b=some x:=by
 cases a with
 |none=>cases k
 |some q=>rw [h q rfl];exact k
theorem xd {f g:cr} (h:leC f g) {c:CSt} {d:Option Nat} {n:Nat} {as:List SV} {mt1:List (Option Nat)} {m:List Nat} {o:Option (List aB)} {x:CSt}
 (k:lT f c d n as mt1 m o=some x):lT g c d n as mt1 m o=some x:=by
 cases o with
 |none=>cases k
 |some os=>
  simp only [lT]at k ⊢;generalize ed c.tk (50+mt1.length) os=z at k ⊢;obtain⟨os',mt2⟩:=z;simp only [oJ]at k ⊢;generalize (po (SV.idsL as++fL os') m&&dB m&&dB (cB (mt1++mt2))&&decide (m.length≤40)&&m.all fun o=> !inR (d.getD 0) o)=b at k ⊢;cases b with
  |false=>cases k
  |true=>simp only [oI]at k ⊢;exact xc (fun q hq=>h _ _ _ _ _ hq) k
theorem xa {f g:cr} (h:leC f g) {sg:Sig} {d:Option Nat} {n:Nat} {p:CSt×List SV} {x:CSt} (k:jS f sg d n p=some x):jS g sg d n p=some x:=by obtain⟨c,as⟩:=p;simp only [jS]at k ⊢;generalize kb c.tk sg.own 50 0 as=z at k ⊢;obtain⟨as',mt1⟩:=z;simp only [oK]at k ⊢;exact xd h k
theorem yi {f g:cr} (h:leC f g) {sg:Sig} {c:CSt} {d:Option Nat} {n:Nat} {as:List SV} {x:CSt} (k:iB f sg c d n as=some x):iB g sg c d n as=some x:=by
 unfold iB at k ⊢;generalize ((SV.idsL as).isEmpty&&sg.own.isEmpty)=b at k ⊢;cases b with
 |true=>exact x9 (fun q hq=>h _ _ _ _ _ hq) k
 |false=>exact xa h k
theorem mQ {f g:cr} (h:leC f g) {sg:Nat→Sig} {c:CSt} {d:Option Nat} {o:SOp} {x:CSt} (k:opC f sg c d o=some x):opC g sg c d o=some x:=by
 cases o with
 |call a as=>simp only [opC]at k ⊢;split at k<;>first|exact yi h k|cases k
 |_=>exact k
theorem ju {f g:cr} (h:leC f g) {sg:Nat→Sig} {c:CSt} {i:SI} {x:CSt} (k:dS f sg c i=some x):dS g sg c i=some x:=by
 unfold dS at k ⊢;split at k
 ·exact mQ h k
 ·split at k
  ·split at k
   ·rename_i hc;rw [if_pos hc];exact mQ h k
   ·rename_i hc;rw [if_neg hc];exact k
  ·exact k
  ·cases k
theorem vO {f g:cr} (h:leC f g) {sg:Nat→Sig}:∀ {l:List SI} {c x:CSt},plC f sg l c=some x→plC g sg l c=some x:=by
 intro l;induction l with
 |nil=>intro c x k;simpa [plC]using k
 |cons i r ih=>
  intro c x k;simp only [plC]at k ⊢;cases hs:opC f sg c i.dst i.op with
  |none=>rw [hs]at k;simp [nxP]at k
  |some c1=>rw [hs]at k;rw [mQ h hs];simp only [nxP]at k ⊢;exact ih k
theorem ss {f g:cr} (h:leC f g) {sg:Nat→Sig} {b:Bool} {l:List SI} {c x:CSt} {v:SV} (k:pZ f sg b l c v=some x):pZ g sg b l c v=some x:=by
 unfold pZ at k ⊢;split at k
 ·split at k
  ·rename_i hc;rw [if_pos hc];exact vO h k
  ·rename_i hc;rw [if_neg hc];exact k
 ·exact k
 ·cases k
theorem nI {f g:cr} (h:leC f g) {sg:Nat→Sig}:∀ {l:List RI} {c x:CSt},fP f sg l c=some x→fP g sg l c=some x:=by
 intro l;induction l with
 |nil=>intro c x k;simpa [fP]using k
 |cons i r ih=>
  intro c x k;cases i with
  |op i dead=>
   simp only [fP]at k ⊢;cases hs:dS f sg c i with
   |none=>rw [hs]at k;simp [nxC]at k
   |some c1=>rw [hs]at k;rw [ju h hs];simp only [nxC]at k ⊢;exact ih k
  |grp q b l dead=>
   simp only [fP]at k ⊢;cases hs:pZ f sg b l c (c.get q)with
   |none=>rw [hs]at k;simp [nxC]at k
   |some c1=>rw [hs]at k;rw [ss h hs];simp only [nxC]at k ⊢;exact ih k
  |own i dead=>
   simp only [fP]at k ⊢;cases hs:tN c i with
   |none=>rw [hs]at k;simp [nxC]at k
   |some c1=>rw [hs]at k;simp only [nxC]at k ⊢;exact ih k
  |tks i dead=>
   simp only [fP]at k ⊢;cases hs:AC c i with
   |none=>rw [hs]at k;simp [nxC]at k
   |some c1=>rw [hs]at k;simp only [nxC]at k ⊢;exact ih k
  |dir d=>
   simp only [fP]at k ⊢;cases hs:sJ c d with
   |none=>rw [hs]at k;simp [nxC]at k
   |some c1=>rw [hs]at k;simp only [nxC]at k ⊢;exact ih k
theorem yg {x:fD} {a b:Option ec} (h:∀q,a=some q→b=some q) (k:uU a=some x):uU b=some x:=by
 cases a with
 |none=>cases k
 |some q=>rw [h q rfl];exact k
theorem yf {f g:cr} (h:leC f g) {c:CSt} {n:Nat} {as:List SV} {l:List Nat} {x:fD} (k:qf f c n as l=some x):qf g c n as l=some x:=by
 cases l with
 |nil=>cases k
 |cons o r=>
  simp only [qf]at k ⊢;cases hl:c.look o with
  |none=>rw [hl]at k;cases k
  |some ob=>
   rw [hl]at k;simp only [o7]at k ⊢;generalize (ob.ids.isEmpty&&ob.toks.isEmpty&&(SV.idsL as).all (fun k=>decide (k=o))&&(SV.idsL (SV.renL (eB [o]) id as)).all (fun k=>decide (k=0)))=q at k ⊢;cases q with
   |false=>cases k
   |true=>
    simp only [o6]at k ⊢;cases hq:f n (SV.renL (eB [o]) id as) [ob] 0 with
    |none=>rw [hq]at k;cases k
    |some q=>rw [h _ _ _ _ _ hq];rw [hq]at k;exact k
theorem vp {f g:cr} (h:leC f g) {sg:Nat→Sig} {c:CSt} {as:List SV} {v:SV} {x:fD} (k:lI f sg c as v=some x):lI g sg c as v=some x:=by
 cases v with
 |fn n a b=>
  simp only [lI]at k ⊢;generalize ((SV.idsL (a++as++b)).isEmpty&&(sg n).own.isEmpty)=q at k ⊢;cases q with
  |false=>
   simp only [jY]at k ⊢;generalize (sg n).own.isEmpty=q at k ⊢;cases q with
   |false=>cases k
   |true=>exact yf h k
  |true=>exact yg (fun q hq=>h _ _ _ _ _ hq) k
 |_=>cases k
theorem nS {f g:cr} (h:leC f g) {sg:Nat→Sig} {c:CSt} {i:SI} {x:fD} (k:dQ f sg c i=some x):dQ g sg c i=some x:=by
 unfold dQ at k ⊢;split at k
 ·exact vp h k
 ·exact k
 ·exact k
 ·exact k
theorem je {f g:cr} (h:leC f g) {sg:Nat→Sig} {b:List Nat}:∀ {l ps:List FI} {c x:CSt},fe f sg b l ps c=some x→fe g sg b l ps c=some x:=by
 intro l;induction l with
 |nil=>intro ps c x k;simpa [fe]using k
 |cons i r ih=>
  intro ps c x k;obtain⟨n,q,i⟩:=i;cases q with
  |true=>
   simp only [fe]at k ⊢;cases hq:qv c i with
   |none=>rw [hq]at k;simp [wk]at k
   |some v=>rw [hq]at k;simp only [wk]at k ⊢;exact ih k
  |false=>
   simp only [fe]at k ⊢;cases hs:dS f sg c i with
   |none=>rw [hs]at k;simp [rx]at k
   |some c1=>
    rw [hs]at k;rw [ju h hs];simp only [rx]at k ⊢;cases hg:gdP (tU (b.getD n 0) c1 ps) c1 with
    |none=>rw [hg]at k;simp [ry]at k
    |some c2=>rw [hg]at k;simp only [ry]at k ⊢;exact ih k
theorem oa {f g:cr} (h:leC f g) {sg:Nat→Sig} {b:List Nat} {l:List FI}:∀ {ps:List (List Nat)} {c x:CSt},jg f sg b l ps c=some x→jg g sg b l ps c=some x
 |[],c,x,k=>by simp [jg]at k
 |[p],c,x,k=>je h k
 |p::q::r,c,x,k=>by
  simp only [jg]at k ⊢;cases h1:fe f sg b (iV l p) [] c with
  |none=>rw [h1]at k;simp [oV]at k
  |some y=>
   cases h2:jg f sg b l (q::r) c with
   |none=>rw [h1,h2]at k;simp [oV]at k
   |some z=>rw [h1,h2]at k;rw [je h h1,oa h h2];exact k
theorem rY {f g:cr} (h:leC f g) {sg:Nat→Sig} {b:List Nat}:∀ {l:List SI} {fs:List eO} {c x:CSt},iT f sg b l fs c=some x→iT g sg b l fs c=some x:=by
 intro l;induction l with
 |nil=>intro fs c x k;simpa [iT]using k
 |cons i r ih=>
  intro fs c x k
  have nx:∀ {o:Option fD} {o':Option fD},(∀e,o=some e→o'=some e)→nxD f sg b i.op i.dst r fs c o=some x→nxD g sg b i.op i.dst r fs c o'=some x:=by
   intro o o' ho hk;cases o with
   |none=>simp [nxD]at hk
   |some e=>rw [ho e rfl];simp only [nxD]at hk ⊢;exact ih hk
  simp only [iT]at k ⊢;split at k
  ·exact nx (fun e he=>nS h he) k
  ·split at k
   ·split at k
    ·rename_i hc;rw [if_pos hc];exact nx (fun e he=>nS h he) k
    ·rename_i hc;rw [if_neg hc];exact ih k
   ·cases k
theorem pr {rn rn':RC→CSt→gR} {f g:cr} (hr:leR rn rn') (h:leC f g) {sg:Nat→Sig} {r:RC} {c:CSt} {x:Ex×CSt} (k:dx rn f sg r c=some x):dx rn' g sg r c=some x:=by
 cases r with
 |skip=>exact k
 |ret=>exact k
 |exit id=>exact k
 |ops l=>
  simp only [dx]at k ⊢;cases hs:fP f sg l c with
  |none=>rw [hs]at k;cases k
  |some c1=>rw [hs]at k;rw [nI h hs];exact k
 |drw b ds l dead=>
  simp only [dx]at k ⊢;cases hs:iT f sg b l [] (gcC c ds)with
  |none=>rw [hs]at k;cases k
  |some c1=>rw [hs]at k;rw [rY h hs];exact k
 |flt b ds l dead=>
  simp only [dx]at k ⊢;cases hs:fe f sg b l [] c with
  |none=>rw [hs]at k;simp [nrm]at k
  |some c1=>rw [hs]at k;rw [je h hs];exact k
 |fla b ds l ps dead=>
  simp only [dx]at k ⊢;cases hs:jg f sg b l ps c with
  |none=>rw [hs]at k;simp [nrm]at k
  |some c1=>rw [hs]at k;rw [oa h hs];exact k
 |seq a b=>
  simp only [dx]at k ⊢;cases hs:rn a c with
  |none=>rw [hs]at k;cases k
  |some p=>
   rw [hs]at k;rw [hr _ _ _ hs];obtain⟨e,c1⟩:=p;cases e with
   |n=>exact hr _ _ _ k
   |x id=>exact k
   |r=>exact k
 |cond a y z=>
  simp only [dx]at k ⊢;unfold cnd at k ⊢;split at k
  ·split at k
   ·rename_i hc;rw [if_pos hc];exact hr _ _ _ k
   ·rename_i hc;rw [if_neg hc];exact hr _ _ _ k
  ·cases k
 |block id b=>
  simp only [dx]at k ⊢;cases hs:rn b c with
  |none=>rw [hs]at k;cases k
  |some p=>rw [hs]at k;rw [hr _ _ _ hs];exact k
 |loop b=>
  simp only [dx]at k ⊢;cases hs:rn b c with
  |none=>rw [hs]at k;cases k
  |some p=>
   rw [hs]at k;rw [hr _ _ _ hs];obtain⟨e,c1⟩:=p;cases e with
   |n=>exact hr _ _ _ k
   |x id=>exact k
   |r=>exact k
 |pre ds a=>
  simp only [dx]at k ⊢;cases hs:iQ c ds with
  |none=>rw [hs]at k;cases k
  |some c1=>rw [hs]at k;exact hr _ _ _ k
 |bad=>cases k
 |post a ds=>
  simp only [dx]at k ⊢;cases hs:rn a c with
  |none=>rw [hs]at k;cases k
  |some p=>rw [hs]at k;rw [hr _ _ _ hs];exact k
theorem l8 {rn rn':RC→CSt→gR} (hr:leR rn rn') {o:Option FnB} {a:List SV} {os:List aB} {k:Nat} {x:ec} (h:oU rn o a os k=some x):oU rn' o a os k=some x:=by
 cases o with
 |none=>cases h
 |some b=>
  cases b with
  |prim f=>exact h
  |code F=>
   simp only [oU,Fc]at h ⊢;split at h
   ·rename_i hc
    rw [if_pos hc];cases hs:rn F.code (rM a os k)with
    |none=>rw [hs]at h;cases h
    |some p=>rw [hs]at h;rw [hr _ _ _ hs];exact h
   ·cases h
variable {T : oW}
theorem rX:∀n,leR (gM T n) (gM T (n+1))
 |0=>fun r c x h=>by simp [gM]at h
 |n+1=>fun r c x h=>by have ih:=rX n;rw [gM]at h ⊢;exact pr ih (fun g a os k x h=>l8 ih h) h
theorem kT {n m:Nat} (h:n≤m):leR (gM T n) (gM T m):=by
 induction m with
 |zero=>
  have:n=0:=by omega
  subst this;exact fun _ _ _ h=>h
 |succ m ih=>
  rcases bR n (m+1)with h1|h1
  ·exact fun r c x hx=>rX m r c x (ih (by omega) r c x hx)
  ·have:n=m+1:=by omega
   subst this;exact fun _ _ _ h=>h
theorem da {n m:Nat} (h:n≤m):leC (eh T n) (eh T m):=fun _ _ _ _ _ hx=>l8 (kT h) hx
theorem wa {α:Type} {g:Nat→Option α} (hm:∀n m x,n≤m→g n=some x→g m=some x) {n:Nat} {x:α} (h:g n=some x):lim g=some x:=by have hex:∃n x,g n=some x:=⟨n,x,h⟩;unfold lim;rw [dif_pos hex];obtain⟨y,hy⟩:=Classical.choose_spec hex;have h1:=hm _ (max n (Classical.choose hex)) _ (mI _ _) hy;have h2:=hm _ (max n (Classical.choose hex)) _ (pd _ _) h;rw [hy,←h1,h2]
theorem Qy {α:Type} {g:Nat→Option α} {x:α} (h:lim g=some x):∃n,g n=some x:=by
 unfold lim at h;split at h
 ·exact⟨_,h⟩
 ·cases h
theorem Hx {n:Nat} {r:RC} {c:CSt} {x:Ex×CSt} (h:gM T n r c=some x):run T r c=some x:=wa (fun _ _ _ hnm h=>kT hnm _ _ _ h) h
theorem gU {r:RC} {c:CSt} {x:Ex×CSt} (h:run T r c=some x):∃n,gM T n r c=some x:=Qy h
theorem ua {n:Nat} {g:Nat} {a:List SV} {os:List aB} {k:Nat} {x:ec} (h:eh T n g a os k=some x):call T g a os k=some x:=wa (fun _ _ _ hnm h=>da hnm _ _ _ _ _ h) h
theorem ly {g:Nat} {a:List SV} {os:List aB} {k:Nat} {x:ec} (h:call T g a os k=some x):∃n,eh T n g a os k=some x:=Qy h
theorem Hy (n:Nat):leR (gM T n) (run T):=fun _ _ _ h=>Hx h
theorem Up (n:Nat):leC (eh T n) (call T):=fun _ _ _ _ _ h=>ua h
theorem yj {sg:Sig} {c:CSt} {d:Option Nat} {g:Nat} {as:List SV} {x:CSt} (k:iB (call T) sg c d g as=some x):∃n,iB (eh T n) sg c d g as=some x:=by
 unfold iB at k ⊢;generalize ((SV.idsL as).isEmpty&&sg.own.isEmpty)=b at k ⊢;cases b with
 |true=>
  simp only [jX]at k ⊢;cases hq:call T g (SV.bareL as) [] 0 with
  |none=>rw [hq]at k;cases k
  |some q=>obtain⟨n,hn⟩:=ly hq;exact⟨n,by rw [hn];rw [hq]at k;exact k⟩
 |false=>
  simp only [jX]at k ⊢;generalize eV c as (i7 sg.raw 0 as)=z at k ⊢;obtain⟨c1,as1⟩:=z;simp only [jS]at k ⊢;generalize kb c1.tk sg.own 50 0 as1=z at k ⊢;obtain⟨as',mt1⟩:=z;simp only [oK]at k ⊢;cases ho:gF c1 (dO c1 60 [] (SV.idsL as'))with
  |none=>rw [ho]at k;cases k
  |some os=>
   rw [ho]at k;simp only [lT]at k ⊢;generalize ed c1.tk (50+mt1.length) os=z at k ⊢;obtain⟨os',mt2⟩:=z;simp only [oJ]at k ⊢;generalize (po (SV.idsL as'++fL os') (dO c1 60 [] (SV.idsL as'))&&dB (dO c1 60 [] (SV.idsL as'))&&dB (cB (mt1++mt2))&&decide ((dO c1 60 [] (SV.idsL as')).length≤40)&&(dO c1 60 [] (SV.idsL as')).all fun o=> !inR (d.getD 0) o)=b at k ⊢;cases b with
   |false=>cases k
   |true=>
    simp only [oI]at k ⊢;cases hq:call T g (SV.renL (eB (dO c1 60 [] (SV.idsL as'))) id as') (ei (eB (dO c1 60 [] (SV.idsL as'))) id os') (mt1.length+mt2.length)with
    |none=>rw [hq]at k;cases k
    |some q=>obtain⟨n,hn⟩:=ly hq;exact⟨n,by rw [hn];rw [hq]at k;exact k⟩
theorem qG {sg:Nat→Sig} {c:CSt} {d:Option Nat} {o:SOp} {x:CSt} (k:opC (call T) sg c d o=some x):∃n,opC (eh T n) sg c d o=some x:=by
 cases o with
 |call a as=>simp only [opC]at k ⊢;split at k<;>first|exact yj k|cases k
 |_=>exact⟨0,k⟩
theorem pu {sg:Nat→Sig} {c:CSt} {i:SI} {x:CSt} (k:dS (call T) sg c i=some x):∃n,dS (eh T n) sg c i=some x:=by
 unfold dS at k ⊢;split at k
 ·exact qG k
 ·split at k
  ·split at k
   ·rename_i hc;simp only [if_pos hc];exact qG k
   ·rename_i hc;simp only [if_neg hc];exact⟨0,k⟩
  ·exact⟨0,k⟩
  ·cases k
theorem Gb {sg:Nat→Sig}:∀ {l:List SI} {c x:CSt},plC (call T) sg l c=some x→∃n,plC (eh T n) sg l c=some x:=by
 intro l;induction l with
 |nil=>intro c x k;exact⟨0,by simpa [plC]using k⟩
 |cons i r ih=>
  intro c x k;simp only [plC]at k ⊢;cases hs:opC (call T) sg c i.dst i.op with
  |none=>rw [hs]at k;simp [nxP]at k
  |some c1=>rw [hs]at k;simp only [nxP]at k;obtain⟨n,hn⟩:=qG hs;obtain⟨m,hm⟩:=ih k;refine⟨max n m, ?_⟩;rw [mQ (da (pd n m)) hn];simp only [nxP];exact vO (da (mI n m)) hm
theorem Es {sg:Nat→Sig} {b:Bool} {l:List SI} {c x:CSt} {v:SV} (k:pZ (call T) sg b l c v=some x):∃n,pZ (eh T n) sg b l c v=some x:=by
 unfold pZ at k ⊢;split at k
 ·split at k
  ·rename_i hc;simp only [if_pos hc];exact Gb k
  ·rename_i hc;simp only [if_neg hc];exact⟨0,k⟩
 ·exact⟨0,k⟩
 ·cases k
theorem Ec {sg:Nat→Sig}:∀ {l:List RI} {c x:CSt},fP (call T) sg l c=some x→∃n,fP (eh T n) sg l c=some x:=by
 intro l;induction l with
 |nil=>intro c x k;exact⟨0,by simpa [fP]using k⟩
 |cons i r ih=>
  intro c x k;cases i with
  |op i dead=>
   simp only [fP]at k ⊢;cases hs:dS (call T) sg c i with
   |none=>rw [hs]at k;simp [nxC]at k
   |some c1=>rw [hs]at k;simp only [nxC]at k;obtain⟨n,hn⟩:=pu hs;obtain⟨m,hm⟩:=ih k;refine⟨max n m, ?_⟩;rw [ju (da (pd n m)) hn];simp only [nxC];exact nI (da (mI n m)) hm
  |grp q b l dead=>
   simp only [fP]at k ⊢;cases hs:pZ (call T) sg b l c (c.get q)with
   |none=>rw [hs]at k;simp [nxC]at k
   |some c1=>rw [hs]at k;simp only [nxC]at k;obtain⟨n,hn⟩:=Es hs;obtain⟨m,hm⟩:=ih k;refine⟨max n m, ?_⟩;rw [ss (da (pd n m)) hn];simp only [nxC];exact nI (da (mI n m)) hm
  |own i dead=>
   simp only [fP]at k ⊢;cases hs:tN c i with
   |none=>rw [hs]at k;simp [nxC]at k
   |some c1=>rw [hs]at k;simp only [nxC]at k ⊢;exact ih k
  |tks i dead=>
   simp only [fP]at k ⊢;cases hs:AC c i with
   |none=>rw [hs]at k;simp [nxC]at k
   |some c1=>rw [hs]at k;simp only [nxC]at k ⊢;exact ih k
  |dir d=>
   simp only [fP]at k ⊢;cases hs:sJ c d with
   |none=>rw [hs]at k;simp [nxC]at k
   |some c1=>rw [hs]at k;simp only [nxC]at k ⊢;exact ih k
theorem EI {sg:Nat→Sig} {c:CSt} {i:SI} {x:fD} (k:dQ (call T) sg c i=some x):∃n,dQ (eh T n) sg c i=some x:=by
 unfold dQ at k ⊢;split at k
 ·rename_i f as _
  cases hv:c.ev f with
  |fn n a b=>
   rw [hv]at k;simp only [lI]at k ⊢;generalize ((SV.idsL (a++evL c as++b)).isEmpty&&(sg n).own.isEmpty)=q at k ⊢;cases q with
   |false=>
    simp only [jY]at k ⊢;generalize (sg n).own.isEmpty=q at k ⊢;cases q with
    |false=>cases k
    |true=>
     simp only [o5]at k ⊢;generalize SV.idsL (a++evL c as++b)=ids at k ⊢;cases ids with
     |nil=>cases k
     |cons o r=>
      simp only [qf]at k ⊢;cases hl:c.look o with
      |none=>rw [hl]at k;cases k
      |some ob=>
       rw [hl]at k;simp only [o7]at k ⊢;generalize (ob.ids.isEmpty&&ob.toks.isEmpty&&(SV.idsL (SV.bareL (a++evL c as++b))).all (fun k=>decide (k=o))&&(SV.idsL (SV.renL (eB [o]) id (SV.bareL (a++evL c as++b)))).all (fun k=>decide (k=0)))=q at k ⊢;cases q with
       |false=>cases k
       |true=>
        simp only [o6]at k ⊢;cases hq:call T n (SV.renL (eB [o]) id (SV.bareL (a++evL c as++b))) [ob] 0 with
        |none=>rw [hq]at k;cases k
        |some q=>obtain⟨n,hn⟩:=ly hq;exact⟨n,by rw [hn];rw [hq]at k;exact k⟩
   |true=>
    simp only [jY]at k ⊢;cases hq:call T n (SV.bareL (a++evL c as++b)) [] 0 with
    |none=>rw [hq]at k;cases k
    |some q=>obtain⟨n,hn⟩:=ly hq;exact⟨n,by rw [hn];rw [hq]at k;exact k⟩
  |_=>rw [hv]at k;cases k
 ·exact⟨0,k⟩
 ·exact⟨0,k⟩
 ·exact⟨0,k⟩
theorem nQ {sg:Nat→Sig} {b:List Nat}:∀ {l ps:List FI} {c x:CSt},fe (call T) sg b l ps c=some x→∃n,fe (eh T n) sg b l ps c=some x:=by
 intro l;induction l with
 |nil=>intro ps c x k;exact⟨0,by simpa [fe]using k⟩
 |cons i r ih=>
  intro ps c x k;obtain⟨n,q,i⟩:=i;cases q with
  |true=>
   simp only [fe]at k ⊢;cases hq:qv c i with
   |none=>rw [hq]at k;simp [wk]at k
   |some v=>rw [hq]at k;simp only [wk]at k ⊢;exact ih k
  |false=>
   simp only [fe]at k ⊢;cases hs:dS (call T) sg c i with
   |none=>rw [hs]at k;simp [rx]at k
   |some c1=>
    rw [hs]at k;simp only [rx]at k;cases hg:gdP (tU (b.getD n 0) c1 ps) c1 with
    |none=>rw [hg]at k;simp [ry]at k
    |some c2=>rw [hg]at k;simp only [ry]at k;obtain⟨m1,hm1⟩:=pu hs;obtain⟨m2,hm2⟩:=ih k;refine⟨max m1 m2, ?_⟩;rw [ju (da (pd m1 m2)) hm1];simp only [rx];rw [hg];simp only [ry];exact je (da (mI m1 m2)) hm2
theorem sS {sg:Nat→Sig} {b:List Nat} {l:List FI}:∀ {ps:List (List Nat)} {c x:CSt},jg (call T) sg b l ps c=some x→∃n,jg (eh T n) sg b l ps c=some x
 |[],c,x,k=>by simp [jg]at k
 |[p],c,x,k=>nQ k
 |p::q::r,c,x,k=>by
  simp only [jg]at k ⊢;cases h1:fe (call T) sg b (iV l p) [] c with
  |none=>rw [h1]at k;simp [oV]at k
  |some y=>
   cases h2:jg (call T) sg b l (q::r) c with
   |none=>rw [h1,h2]at k;simp [oV]at k
   |some z=>rw [h1,h2]at k;obtain⟨n,hn⟩:=nQ h1;obtain⟨m,hm⟩:=sS h2;exact⟨max n m,by rw [je (da (pd n m)) hn,oa (da (mI n m)) hm];exact k⟩
theorem D5 {sg:Nat→Sig} {b:List Nat}:∀ {l:List SI} {fs:List eO} {c x:CSt},iT (call T) sg b l fs c=some x→∃n,iT (eh T n) sg b l fs c=some x:=by
 intro l;induction l with
 |nil=>intro fs c x k;exact⟨0,by simpa [iT]using k⟩
 |cons i r ih=>
  intro fs c x k
  have nx:nxD (call T) sg b i.op i.dst r fs c (dQ (call T) sg c i)=some x→∃n,nxD (eh T n) sg b i.op i.dst r fs c (dQ (eh T n) sg c i)=some x:=by
   intro hk;cases ho:dQ (call T) sg c i with
   |none=>rw [ho]at hk;simp [nxD]at hk
   |some e=>rw [ho]at hk;simp only [nxD]at hk;obtain⟨n,hn⟩:=EI ho;obtain⟨m,hm⟩:=ih hk;refine⟨max n m, ?_⟩;rw [nS (da (pd n m)) hn];simp only [nxD];exact rY (da (mI n m)) hm
  simp only [iT]at k ⊢;split at k
  ·exact nx k
  ·split at k
   ·split at k
    ·rename_i hc;simp only [if_pos hc];exact nx k
    ·rename_i hc;simp only [if_neg hc];exact ih k
   ·cases k
theorem two {r s:RC} {c d:CSt} {x y:Ex×CSt} (h:run T r c=some x) (k:run T s d=some y):∃n,gM T n r c=some x∧gM T n s d=some y:=by obtain⟨n,hn⟩:=gU h;obtain⟨m,hm⟩:=gU k;exact⟨max n m,kT (pd n m) _ _ _ hn,kT (mI n m) _ _ _ hm⟩
theorem wU {r:RC} {c:CSt} {x:Ex×CSt} (k:dx (run T) (call T) T.sg r c=some x):∃n,dx (gM T n) (eh T n) T.sg r c=some x:=by
 cases r with
 |skip=>exact⟨0,k⟩
 |ret=>exact⟨0,k⟩
 |exit id=>exact⟨0,k⟩
 |ops l=>
  simp only [dx]at k ⊢;cases hs:fP (call T) T.sg l c with
  |none=>rw [hs]at k;cases k
  |some c1=>obtain⟨n,hn⟩:=Ec hs;exact⟨n,by rw [hn];rw [hs]at k;exact k⟩
 |drw b ds l dead=>
  simp only [dx]at k ⊢;cases hs:iT (call T) T.sg b l [] (gcC c ds)with
  |none=>rw [hs]at k;cases k
  |some c1=>obtain⟨n,hn⟩:=D5 hs;exact⟨n,by rw [hn];rw [hs]at k;exact k⟩
 |flt b ds l dead=>
  simp only [dx]at k ⊢;cases hs:fe (call T) T.sg b l [] c with
  |none=>rw [hs]at k;simp [nrm]at k
  |some c1=>obtain⟨n,hn⟩:=nQ hs;exact⟨n,by rw [hn];rw [hs]at k;exact k⟩
 |fla b ds l ps dead=>
  simp only [dx]at k ⊢;cases hs:jg (call T) T.sg b l ps c with
  |none=>rw [hs]at k;simp [nrm]at k
  |some c1=>obtain⟨n,hn⟩:=sS hs;exact⟨n,by rw [hn];rw [hs]at k;exact k⟩
 |seq a b=>
  simp only [dx]at k ⊢;cases hs:run T a c with
  |none=>rw [hs]at k;cases k
  |some p=>
   rw [hs]at k;obtain⟨e,c1⟩:=p;cases e with
   |n=>obtain⟨n,h1,h2⟩:=two hs k;exact⟨n,by rw [h1];exact h2⟩
   |x id=>obtain⟨n,hn⟩:=gU hs;exact⟨n,by rw [hn];exact k⟩
   |r=>obtain⟨n,hn⟩:=gU hs;exact⟨n,by rw [hn];exact k⟩
 |cond a y z=>
  simp only [dx]at k ⊢;unfold cnd at k ⊢;split at k
  ·split at k
   ·rename_i hc;simp only [if_pos hc];exact gU k
   ·rename_i hc;simp only [if_neg hc];exact gU k
  ·cases k
 |block id b=>
  simp only [dx]at k ⊢;cases hs:run T b c with
  |none=>rw [hs]at k;cases k
  |some p=>obtain⟨n,hn⟩:=gU hs;exact⟨n,by rw [hn];rw [hs]at k;exact k⟩
 |loop b=>
  simp only [dx]at k ⊢;cases hs:run T b c with
  |none=>rw [hs]at k;cases k
  |some p=>
   rw [hs]at k;obtain⟨e,c1⟩:=p;cases e with
   |n=>obtain⟨n,h1,h2⟩:=two hs k;exact⟨n,by rw [h1];exact h2⟩
   |x id=>obtain⟨n,hn⟩:=gU hs;exact⟨n,by rw [hn];exact k⟩
   |r=>obtain⟨n,hn⟩:=gU hs;exact⟨n,by rw [hn];exact k⟩
 |pre ds a=>
  simp only [dx]at k ⊢;cases hs:iQ c ds with
  |none=>rw [hs]at k;cases k
  |some c1=>rw [hs]at k;exact gU k
 |bad=>cases k
 |post a ds=>
  simp only [dx]at k ⊢;cases hs:run T a c with
  |none=>rw [hs]at k;cases k
  |some p=>obtain⟨n,hn⟩:=gU hs;exact⟨n,by rw [hn];rw [hs]at k;exact k⟩
theorem tO {α:Type} {a b:Option α} (h:∀x,a=some x→b=some x) (k:∀x,b=some x→a=some x):a=b:=by
 cases a with
 |none=>cases b with
  |none=>rfl
  |some x=>exact absurd (k x rfl) (by simp)
 |some x=>exact(h x rfl).symm
theorem gT (r:RC) (c:CSt):run T r c=dx (run T) (call T) T.sg r c:=by
 refine tO (fun x h=> ?_) (fun x h=> ?_)
 ·obtain⟨n,hn⟩:=gU h
  cases n with
  |zero=>simp [gM]at hn
  |succ n=>rw [gM]at hn;exact pr (Hy n) (Up n) hn
 ·obtain⟨n,hn⟩:=wU h
  exact Hx (n:=n+1) (by rw [gM];exact hn)
theorem Dj (g:Nat) (a:List SV) (os:List aB) (k:Nat):call T g a os k=oU (run T) (T.fn g) a os k:=by
 refine tO (fun x h=> ?_) (fun x h=> ?_)
 ·obtain⟨n,hn⟩:=ly h
  exact l8 (Hy n) hn
 ·cases hF:T.fn g with
  |none=>rw [hF]at h;cases h
  |some b=>
   cases b with
   |prim f=>exact ua (n:=0) (by unfold eh;rw [hF];rw [hF]at h;exact h)
   |code F=>
    rw [hF]at h;simp only [oU,Fc]at h;split at h
    ·rename_i hc
     cases hs:run T F.code (rM a os k)with
     |none=>rw [hs]at h;cases h
     |some p=>obtain⟨n,hn⟩:=gU hs;refine ua (n:=n) ?_;unfold eh;rw [hF];simp only [oU,Fc,if_pos hc];rw [hn];rw [hs]at h;exact h
    ·cases h
theorem FU (c:CSt):run T .skip c=some (.n,c):=gT _ _
theorem Sv (c:CSt):run T .ret c=some (.r,c):=gT _ _
theorem FY (id:Nat) (c:CSt):run T (.exit id) c=some (.x id,c):=gT _ _
theorem Sx (l:List RI) (c:CSt):run T (.ops l) c=nrm [] (fP (call T) T.sg l c):=gT _ _
theorem SA (b ds:List Nat) (l:List FI) (ps:List (List Nat)) (dead:List Nat) (c:CSt):run T (.fla b ds l ps dead) c=nrm dead (jg (call T) T.sg b l ps c):=gT _ _
theorem Sz (b ds:List Nat) (l:List FI) (dead:List Nat) (c:CSt):run T (.flt b ds l dead) c=nrm dead (fe (call T) T.sg b l [] c):=gT _ _
theorem SB (b ds:List Nat) (l:List SI) (dead:List Nat) (c:CSt):run T (.drw b ds l dead) c=nrm dead (iT (call T) T.sg b l [] (gcC c ds)):=gT _ _
theorem Su (a b:RC) (c:CSt):run T (.seq a b) c=sq (run T) b (run T a c):=gT _ _
theorem FZ (k:Arg) (a b:RC) (c:CSt):run T (.cond k a b) c=cnd (run T) a b c (c.ev k):=gT _ _
theorem D4 (id:Nat) (b:RC) (c:CSt):run T (.block id b) c=blk id (run T b c):=gT _ _
theorem ak (b:RC) (c:CSt):run T (.loop b) c=lp (run T) b (run T b c):=gT _ _
theorem Sw (ds:List Dir) (a:RC) (c:CSt):run T (.pre ds a) c=prD (run T) a (iQ c ds):=gT _ _
theorem FW (a:RC) (ds:List Dir) (c:CSt):run T (.post a ds) c=psD ds (run T a c):=gT _ _
theorem aq {g:Nat} {F:FnC} (h:T.fn g=some (.code F)) (a:List SV) (os:List aB) (k:Nat):call T g a os k=Fe F os.length (Fc (run T) F a os k):=by rw [Dj,h];rfl
theorem nX {g:Nat} {f:List SV→List aB→Nat→Option ec} (h:T.fn g=some (.prim f)) (a:List SV) (os:List aB) (k:Nat):call T g a os k=f a os k:=by rw [Dj,h];rfl
end Go.Sy
namespace Go.Sy
variable [ba]
variable {call : cr} {sg : Nat → Sig} {c : CSt} {d : Option Nat} {k : Nat}
theorem jW {α:Type} {p:Prop} [Decidable p] {v:α} (h:p):gd p v=some v:=if_pos h
def fJ (c:CSt) (d:Option Nat):Option SV→Option CSt
 |some v=>some (c.put d v)
 |none=>none
theorem D7 (v:SV):fJ c d (some v)=some (c.put d v):=rfl
theorem D8:fJ c d none=none:=rfl
theorem F5 (l:List (Nat×SV)) (o:List (Nat×aB)) (t:List Nat) (v:SV):CSt.put ⟨l,o,t⟩ (some k) v=⟨jI l k v,o,t⟩:=rfl
theorem F6 (v:SV):CSt.put c none v=c:=rfl
theorem xiF (l:List (Nat×SV)) (o:List (Nat×aB)) (t:List Nat) (n:Nat):CSt.get ⟨l,o,t⟩ n=eE l n:=rfl
theorem Tr (l:List (Nat×SV)) (o:List (Nat×aB)) (t:List Nat) (n:Nat):CSt.look ⟨l,o,t⟩ n=iW o n:=rfl
theorem xq4 (n:Nat):c.ev (.t n)=c.get n:=rfl
theorem xq6 (v:SV):c.ev (.c v)=v:=rfl
theorem xq5 (g:Nat):c.ev (.f g)= .fn g [] []:=rfl
theorem qM:c.kill []=c:=rfl
theorem Ei (l:List (Nat×SV)) (o:List (Nat×aB)) (t:List Nat) (n:Nat) (r:List Nat):CSt.kill ⟨l,o,t⟩ (n::r)=⟨wB l (n::r),o,t⟩:=rfl
def fg:Option SV→Option fD
 |some v=>some {val:=v}
 |none=>none
theorem DD (v:SV):fg (some v)=some {val:=v}:=rfl
theorem DE:fg none=none:=rfl
theorem qZ {so:SOp} {o:Option SV} (h:dJ c d so=fg o):o9 c d (dJ c d so)=fJ c d o:=by rw [h];cases o<;>rfl
theorem RZ (o:Option SV):(match o with|some v=>some {val:=v}|none=>none:Option fD)=fg o:=by cases o<;>rfl
def xM:SV→Option SV
 | .ptr o off=>some (.ptr o off)
 | .ap o sz i j=>some (.ap o sz i j)
 | .pp cs=>some (.pp cs)
 | .fn f a b=>some (.fn f a b)
 |_=>none
def UA (ne:Bool):SV→SV→Option SV
 | .bool a,.bool b=>some (.bool (if ne then decide (a≠b)else decide (a=b)))
 |_,_=>none
def T1 (ne:Bool) (ts:List Nat):SV→SV→Option SV
 | .agg cs,.agg ds=>(gP ts cs ds).map fun b=> .bool (if ne then !b else b)
 |_,_=>none
def rb:SV→Option SV
 | .str l=>some (.str l)
 |_=>none
def xV (ne:Bool):SV→Option SV
 | .nili=>some (.bool (!ne))
 |_=>none
def Sr:SV→Option SV
 | .str l=>some (.byt l .no)
 |_=>none
def UC (c:CSt):SV→Option SV
 | .str _=>none
 |v=>(eW c v).map .str
def Hu (l:List UInt8):Option Int→Option Int→Option SV
 |some a,some b=>gd (0≤a∧a≤b∧b≤l.length) (.str ((l.take b.toNat).drop a.toNat))
 |_,_=>none
def xf (c:CSt) (lo hi:Option Arg):SV→Option SV
 | .str l=>Hu l (kD c lo 0) (kD c hi l.length)
 |_=>none
def xg (c:CSt) (len sz:Nat) (lo hi mx:Option Arg):SV→Option SV
 | .ptr o off=>if off=0 then oh c sz (.psl o sz 0 len (some len)) lo hi mx else none
 |_=>none
def rz (off:Nat):SV→Option SV
 | .ptr o k=>some (.ptr o (k+off))
 | .ap o sz i j=>some (.ap o sz i (j+off))
 | .pp cs=>some (.pp (cs.drop off))
 |_=>none
def TO (off n:Nat) (ag:Bool):SV→Option SV
 | .agg cs=>gd (off+n≤cs.length) (dC ag n (cs.drop off))
 |_=>none
def nq (sz:Nat):SV→Option Int→Option SV
 | .byt l _,some n=>gd (0≤n∧n<l.length∧sz=1) (.pp [.u8 (l.getD n.toNat 0)])
 | .lst sz' xs _,some n=>gd (0≤n∧n<xs.length∧sz=sz') (.pp (xs.getD n.toNat []))
 | .psl o sz' off k _,some n=>gd (0≤n∧n<k∧sz=sz') (.ap o sz (off+n.toNat) 0)
 |_,_=>none
def qN (len sz o off:Nat) (n:Int):Option aB→Option SV
 |some (.rc _)=>gd (0≤n∧n<len) (.ptr o (off+n.toNat*sz))
 |some _=>gd (off=0∧0≤n∧n<len) (.ap o sz n.toNat 0)
 |none=>none
def lF (c:CSt) (len sz:Nat):SV→Option Int→Option SV
 | .ptr o off,some n=>qN len sz o off n (c.look o)
 | .pp cs,some n=>gd (0≤n∧n<len∧cs.length=len*sz) (.pp (cs.drop (n.toNat*sz)))
 |_,_=>none
def xY (len sz:Nat) (ag:Bool):SV→Option Int→Option SV
 | .agg cs,some n=>gd (0≤n∧n<len∧cs.length=len*sz) (dC ag sz (cs.drop (n.toNat*sz)))
 |_,_=>none
def xX:SV→Option Int→Option SV
 | .str l,some n=>gd (0≤n∧n<l.length) (.u8 (l.getD n.toNat 0))
 |_,_=>none
def TW (i:Nat):SV→Option SV
 | .tup vs=>gd (i<vs.length) (vs.getD i .undef)
 |_=>none
def lenC:Option Nat→Option SV
 |some n=>some (.int .i64 (n:Nat))
 |none=>none
def Uo:SV→Option SV
 | .psl _ _ _ _ (some m)=>some (.int .i64 m)
 | .byt l t=>if t= .clip then some (.int .i64 l.length)else none
 | .lst _ xs t=>if t= .clip then some (.int .i64 xs.length)else none
 |_=>none
def xN:SV→SV→Option SV
 | .int k a,.int k' b=>if k=k' then some (.int k (if b<a then b else a))else none
 |_,_=>none
def xO:SV→SV→Option SV
 | .int k a,.int k' b=>if k=k' then some (.int k (if a<b then b else a))else none
 |_,_=>none
def rC:Option (List SV)→Option SV
 |some l=>some (.agg l)
 |none=>none
def Ts (sz:Nat):Option (List (List SV))→Option SV
 |some r=>some (.lst sz r .clip)
 |none=>none
def xQ:Option (List UInt8)→Option SV
 |some r=>some (.byt r .clip)
 |none=>none
theorem UN (x:Arg):cD c (.mov x)=some (c.ev x):=rfl
theorem tn (z:List SV) (ps:List (Nat×Nat×Arg)):cD c (.build z ps)=rC (ij z (psC c ps)):=by simp only [cD];cases ij z (psC c ps)<;>rfl
theorem QT (sz:Nat) (xs:List Arg):cD c (.lit sz xs)=Ts sz (rows sz (evL c xs)):=by simp only [cD];cases rows sz (evL c xs)<;>rfl
theorem yD (xs:List Arg):cD c (.litB xs)=xQ (toB (evL c xs)):=by simp only [cD];cases toB (evL c xs)<;>rfl
theorem Ho (n:Nat) (ag:Bool) (a:Arg):cD c (.load n ag a)=lZ c n ag (c.ev a):=rfl
theorem Hk (x:Arg):cD c (.nchk x)=xM (c.ev x):=rfl
theorem US (op:BinOp) (x y:Arg):cD c (.bin op x y)=Dk op (c.ev x) (c.ev y):=rfl
theorem UT (ne:Bool) (x y:Arg):cD c (.beq ne x y)=UA ne (c.ev x) (c.ev y):=rfl
theorem UQ (ne:Bool) (ts:List Nat) (x y:Arg):cD c (.eqS ne ts x y)=T1 ne ts (c.ev x) (c.ev y):=rfl
theorem xnQ (op:UnOp) (x:Arg):cD c (.un op x)=vu op (c.ev x):=rfl
theorem Ay (q:IntKind) (x:Arg):cD c (.toInt q x)=gJ q (c.ev x):=rfl
theorem Ax (x:Arg):cD c (.toStr x)=rb (c.ev x):=rfl
theorem Hq (ne:Bool) (x:Arg):cD c (.isni ne x)=xV ne (c.ev x):=rfl
theorem UM (x:Arg):cD c (.s2b x)=Sr (c.ev x):=rfl
theorem UU (x:Arg):cD c (.b2s x)=UC c (c.ev x):=rfl
theorem Hl (f:Nat) (a b:List Arg):cD c (.mkfn f a b)=some (.fn f (evL c a) (evL c b)):=rfl
theorem yC (x:Arg) (lo hi:Option Arg):cD c (.slcS x lo hi)=xf c lo hi (c.ev x):=by simp only [cD];cases c.ev x<;>rfl
theorem Hi (sz:Nat) (x:Arg) (lo hi mx:Option Arg):cD c (.slcL sz x lo hi mx)=oh c sz (c.ev x) lo hi mx:=rfl
theorem Hj (len sz:Nat) (x:Arg) (lo hi mx:Option Arg):cD c (.slcA len sz x lo hi mx)=xg c len sz lo hi mx (c.ev x):=rfl
theorem Az (off:Nat) (x:Arg):cD c (.faddr off x)=rz off (c.ev x):=rfl
theorem UO (off n:Nat) (ag:Bool) (x:Arg):cD c (.fld off n ag x)=TO off n ag (c.ev x):=rfl
theorem vt (sz:Nat) (x i:Arg):cD c (.iaddrL sz x i)=nq sz (c.ev x) (c.ev i).num:=rfl
theorem qA (len sz:Nat) (x i:Arg):cD c (.iaddrA len sz x i)=lF c len sz (c.ev x) (c.ev i).num:=by simp only [cD];unfold lF qN;rfl
theorem Hs (len sz:Nat) (ag:Bool) (x i:Arg):cD c (.idxA len sz ag x i)=xY len sz ag (c.ev x) (c.ev i).num:=rfl
theorem Hr (x i:Arg):cD c (.idxS x i)=xX (c.ev x) (c.ev i).num:=rfl
theorem UP (x:Arg) (i:Nat):cD c (.ext x i)=TW i (c.ev x):=rfl
theorem QU (b:Bool) (x:Arg):cD c (.len b x)=lenC (jA b (c.ev x)):=by simp only [cD];cases jA b (c.ev x)<;>rfl
theorem Hp (n:Nat):cD c (.lenC n)=some (.int .i64 n):=rfl
theorem UR (x:Arg):cD c (.cap x)=Uo (c.ev x):=rfl
theorem Hm (x y:Arg):cD c (.mini x y)=xN (c.ev x) (c.ev y):=rfl
theorem Hn (x y:Arg):cD c (.maxi x y)=xO (c.ev x) (c.ev y):=rfl
def SOp.pure:SOp→Bool
 | .new _| .box _| .mk _ _ _ _| .mkB _ _| .store _ _ _| .app _ _ _ _| .cpy _ _ _| .pick _ _ _| .call _ _| .isnil _ _| .newB _| .slid _=>false
 |_=>true
theorem nT {so:SOp} (h:so.pure=true):dJ c d so=fg (cD c so):=by
 cases so<;>first|cases h;done|rfl|exact RZ _
theorem bU {so:SOp} (h:so.pure=true):opC call sg c d so=fJ c d (cD c so):=by
 have h1:opC call sg c d so=o9 c d (dJ c d so):=by cases so<;>first|rfl|cases h
 rw [h1];exact qZ (nT h)
theorem xlU (x:Arg):opC call sg c d (.mov x)=fJ c d (some (c.ev x)):=bU rfl
theorem Tf (z:List SV) (ps:List (Nat×Nat×Arg)):opC call sg c d (.build z ps)=fJ c d (rC (ij z (psC c ps))):=(bU rfl).trans (by rw [tn])
theorem xlW (sz:Nat) (xs:List Arg):opC call sg c d (.lit sz xs)=fJ c d (Ts sz (rows sz (evL c xs))):=(bU rfl).trans (by rw [QT])
theorem xin (xs:List Arg):opC call sg c d (.litB xs)=fJ c d (xQ (toB (evL c xs))):=(bU rfl).trans (by rw [yD])
theorem xim (n:Nat) (ag:Bool) (a:Arg):opC call sg c d (.load n ag a)=fJ c d (lZ c n ag (c.ev a)):=bU rfl
theorem xii (x:Arg):opC call sg c d (.nchk x)=fJ c d (xM (c.ev x)):=bU rfl
theorem xl4 (op:BinOp) (x y:Arg):opC call sg c d (.bin op x y)=fJ c d (Dk op (c.ev x) (c.ev y)):=bU rfl
theorem xl5 (ne:Bool) (x y:Arg):opC call sg c d (.beq ne x y)=fJ c d (UA ne (c.ev x) (c.ev y)):=bU rfl
theorem xl0 (ne:Bool) (ts:List Nat) (x y:Arg):opC call sg c d (.eqS ne ts x y)=fJ c d (T1 ne ts (c.ev x) (c.ev y)):=bU rfl
theorem xpY (op:UnOp) (x:Arg):opC call sg c d (.un op x)=fJ c d (vu op (c.ev x)):=bU rfl
theorem Tb (q:IntKind) (x:Arg):opC call sg c d (.toInt q x)=fJ c d (gJ q (c.ev x)):=bU rfl
theorem Ta (x:Arg):opC call sg c d (.toStr x)=fJ c d (rb (c.ev x)):=bU rfl
theorem xih (xs:List Arg):opC call sg c d (.newB xs)=oP c d (toB (evL c xs)):=rfl
theorem xic (x:Arg):opC call sg c d (.slid x)=rI c d (c.ev x):=rfl
theorem xL (k:Nat) (l:List UInt8):oP c (some k) (some l)=some (CSt.app c (some k) {val:= .psl (k+100) 1 0 l.length (some l.length),new:=some (.bar l)}):=rfl
theorem DM (o off n:Nat) (cap:Option Nat):rI c d (.psl o 1 off n cap)=pz c d o off n cap (c.look o):=rfl
theorem DN (o off n:Nat) (cap:Option Nat) (l:List UInt8):pz c d o off n cap (some (.bar l))=if off+n≤l.length∧cap=some n then some (((c.publish o []).1).put d (.byt ((l.drop off).take n) .clip))else none:=rfl
theorem xip (ne:Bool) (x:Arg):opC call sg c d (.isni ne x)=fJ c d (xV ne (c.ev x)):=bU rfl
theorem xlS (x:Arg):opC call sg c d (.s2b x)=fJ c d (Sr (c.ev x)):=bU rfl
theorem xl6 (x:Arg):opC call sg c d (.b2s x)=fJ c d (UC c (c.ev x)):=bU rfl
theorem xij (f:Nat) (a b:List Arg):opC call sg c d (.mkfn f a b)=fJ c d (some (.fn f (evL c a) (evL c b))):=bU rfl
theorem xid (x:Arg) (lo hi:Option Arg):opC call sg c d (.slcS x lo hi)=fJ c d (xf c lo hi (c.ev x)):=(bU rfl).trans (by rw [yC])
theorem xie (sz:Nat) (x:Arg) (lo hi mx:Option Arg):opC call sg c d (.slcL sz x lo hi mx)=fJ c d (oh c sz (c.ev x) lo hi mx):=bU rfl
theorem xif (len sz:Nat) (x:Arg) (lo hi mx:Option Arg):opC call sg c d (.slcA len sz x lo hi mx)=fJ c d (xg c len sz lo hi mx (c.ev x)):=bU rfl
theorem Te (off:Nat) (x:Arg):opC call sg c d (.faddr off x)=fJ c d (rz off (c.ev x)):=bU rfl
theorem xlY (off n:Nat) (ag:Bool) (x:Arg):opC call sg c d (.fld off n ag x)=fJ c d (TO off n ag (c.ev x)):=bU rfl
theorem Ge (sz:Nat) (x i:Arg):opC call sg c d (.iaddrL sz x i)=fJ c d (nq sz (c.ev x) (c.ev i).num):=bU rfl
theorem Gf (len sz:Nat) (x i:Arg):opC call sg c d (.iaddrA len sz x i)=fJ c d (lF c len sz (c.ev x) (c.ev i).num):=(bU rfl).trans (by rw [qA])
theorem xir (len sz:Nat) (ag:Bool) (x i:Arg):opC call sg c d (.idxA len sz ag x i)=fJ c d (xY len sz ag (c.ev x) (c.ev i).num):=bU rfl
theorem xiq (x i:Arg):opC call sg c d (.idxS x i)=fJ c d (xX (c.ev x) (c.ev i).num):=bU rfl
theorem xlZ (x:Arg) (i:Nat):opC call sg c d (.ext x i)=fJ c d (TW i (c.ev x)):=bU rfl
theorem xlX (b:Bool) (x:Arg):opC call sg c d (.len b x)=fJ c d (lenC (jA b (c.ev x))):=(bU rfl).trans (by rw [QU])
theorem xio (n:Nat):opC call sg c d (.lenC n)=fJ c d (some (.int .i64 n)):=bU rfl
theorem xl2 (x:Arg):opC call sg c d (.cap x)=fJ c d (Uo (c.ev x)):=bU rfl
theorem xik (x y:Arg):opC call sg c d (.mini x y)=fJ c d (xN (c.ev x) (c.ev y)):=bU rfl
theorem xil (x y:Arg):opC call sg c d (.maxi x y)=fJ c d (xO (c.ev x) (c.ev y)):=bU rfl
def xE (a b:SV):SV→Option SV
 | .bool t=>some (iK t a b)
 |_=>none
theorem QI (q a b:Arg):dJ c d (.pick q a b)=fg (xE (c.ev a) (c.ev b) (c.ev q)):=by simp only [dJ];cases c.ev q<;>rfl
theorem xig (q a b:Arg):opC call sg c d (.pick q a b)=fJ c d (xE (c.ev a) (c.ev b) (c.ev q)):=qZ (QI q a b)
def uN (ne:Bool):SV→Option SV
 | .byt l _=>gd (l≠ []) (.bool ne)
 | .lst _ xs _=>gd (xs≠ []) (.bool ne)
 | .psl _ _ _ _ _=>some (.bool ne)
 |_=>none
theorem Ua (ne:Bool) (x:Arg):dJ c d (.isnil ne x)=fg (uN ne (c.ev x)):=by simp only [dJ];cases c.ev x<;>first|rfl|(simp only [uN];unfold gd;split<;>rfl)
theorem Td (ne:Bool) (x:Arg):opC call sg c d (.isnil ne x)=fJ c d (uN ne (c.ev x)):=qZ (Ua ne x)
def Do (c:CSt) (k:Nat) (o:aB) (v:SV):CSt:=CSt.app c (some k) {val:=v,new:=some o}
theorem UH (l:List (Nat×SV)) (ob:List (Nat×aB)) (t:List Nat) (o:aB) (v:SV):
 Do ⟨l,ob,t⟩ k o v=⟨jI (dA (k+100) (k+101) l) k v,jd (bC (k+100) (k+101) ob) (k+100) (o.purge (k+100) (k+101)),cK (k+100) (k+101) t⟩:=rfl
def xph (c:CSt) (k:Nat) (v:SV):Option aB→Option CSt
 |some o=>some (Do c k o v)
 |none=>none
theorem EP (v:SV) (o:aB):xph c k v (some o)=some (Do c k o v):=rfl
theorem xlT (o:aB):opC call sg c (some k) (.new o)=xph c k (.ptr (k+100) 0) (gd (o.wf=true) o):=by show o9 c (some k) (gd _ _)=_;unfold gd;split<;>rfl
theorem xl3 (x:Arg):opC call sg c (some k) (.box x)=some (Do c k (.rc (c.ev x).cells) (.ptr (k+100) 0)):=rfl
def mkE (bytes:Nat):SV→SV→Option (Nat×Nat)
 | .int _ n,.int _ m=>gd (0≤n∧n≤m∧bytes*m≤140737488355328∧m≤9223372036854775807) (n.toNat,m.toNat)
 |_,_=>none
def mkS (c:CSt) (k:Nat) (z:List SV):Option (Nat×Nat)→Option CSt
 |some p=>some (Do c k (.arr z.length (am p.2 z)) (.psl (k+100) z.length 0 p.1 (some p.2)))
 |none=>none
theorem xpZ (z:List SV) (bytes:Nat) (n m:Arg):opC call sg c (some k) (.mk z bytes n m)=mkS c k z (mkE bytes (c.ev n) (c.ev m)):=by show o9 c (some k) (dJ c (some k) (.mk z bytes n m))=_;simp only [dJ];cases h1:c.ev n<;>cases h2:c.ev m<;>first|rfl|(simp only [mkE];unfold gd;split<;>rfl)
def Tn:SV→SV→Option (Nat×Nat)
 | .int _ n,.int _ m=>gd (0≤n∧n≤m∧m≤140737488355328) (n.toNat,m.toNat)
 |_,_=>none
def xoU (c:CSt) (k:Nat):Option (Nat×Nat)→Option CSt
 |some p=>some (Do c k (.bar (am p.2 0)) (.psl (k+100) 1 0 p.1 (some p.2)))
 |none=>none
theorem xlV (n m:Arg):opC call sg c (some k) (.mkB n m)=xoU c k (Tn (c.ev n) (c.ev m)):=by show o9 c (some k) (dJ c (some k) (.mkB n m))=_;simp only [dJ];cases h1:c.ev n<;>cases h2:c.ev m<;>first|rfl|(simp only [Tn];unfold gd;split<;>rfl)
def stC (c:CSt) (n:Nat) (v:List SV):SV→Option (Nat×aB)
 | .ptr o off=>match c.look o with
  |some (.rc cs)=>gd (off+n≤cs.length∧v.length=n∧v.all SV.one=true) (o,.rc (gL cs off v))
  |some (.arr sz xs)=>gd (off=0∧n=xs.length*sz∧v.length=n∧v.all SV.isData=true) (o,.arr sz (jC sz xs.length (v.map SV.data)))
  |some (.bar l)=>match toB v with
   |some l'=>gd (off=0∧n=l.length∧l'.length=n) (o,.bar l')
   |none=>none
  |_=>none
 | .ap o sz i j=>match c.look o with
  |some (.arr sz' xs)=>gd (sz=sz'∧i<xs.length∧j+n≤sz∧v.length=n∧v.all SV.isData=true) (o,.arr sz' (fy sz xs i j n (v.map SV.data)))
  |some (.bar l)=>match v with
   |[.u8 b]=>gd (sz=1∧j=0∧n=1∧i<l.length) (o,.bar (l.set i b))
   |_=>none
  |_=>none
 |_=>none
def stS (c:CSt):Option (Nat×aB)→Option CSt
 |some p=>some ⟨c.tm,jd c.ob p.1 p.2,c.tk⟩
 |none=>none
theorem FB (l:List (Nat×SV)) (ob:List (Nat×aB)) (t:List Nat) (p:Nat×aB):stS ⟨l,ob,t⟩ (some p)=some ⟨l,jd ob p.1 p.2,t⟩:=rfl
theorem DI (n:Nat) (v:List SV) (a:SV):jR c n v a=(stC c n v a).map fun p=> {val:= .undef,wr:=[p]}:=by
 cases a with
 |ptr o off=>
  simp only [jR,stC];cases c.look o with
  |none=>rfl
  |some ob=>
   cases ob with
   |rc cs=>simp only;unfold gd;split<;>rfl
   |arr sz' xs=>simp only;unfold gd;split<;>rfl
   |bar l=>simp only;cases toB v<;>first|rfl|(simp only;unfold gd;split<;>rfl)
 |ap o sz i j=>
  simp only [jR,stC];cases c.look o with
  |none=>rfl
  |some ob=>
   cases ob with
   |rc cs=>rfl
   |arr sz' xs=>simp only;unfold gd;split<;>rfl
   |bar l=>
    rcases v with _|⟨u,_|⟨u2,r⟩⟩
    ·rfl
    ·cases u<;>first|rfl|(simp only;unfold gd;split<;>rfl)
    ·cases u<;>rfl
 |_=>rfl
theorem Tc (n:Nat) (a x:Arg):opC call sg c none (.store n a x)=if(c.ev x).isDef=true then stS c (stC c n (c.ev x).cells (c.ev a))else none:=by
 show o9 c none (dJ c none (.store n a x))=_;simp only [dJ];split
 ·rw [DI];cases stC c n (c.ev x).cells (c.ev a)<;>rfl
 ·rfl
def apB (c:CSt) (k:Nat) (l:List UInt8) (t:Tok) (z:List SV) (bytes:Nat):Option (List UInt8)→Option CSt
 |some l'=>if z.length=1∧bytes=1∧t.readyC c=true∧l.length+l'.length≤140737488355328 then some (CSt.app c (some k) {val:= .byt (l++l') (.id (k+100)),eat:=t,tok:=true})else none
 |none=>none
def apL (c:CSt) (k:Nat) (sz':Nat) (l:List (List SV)) (t:Tok) (z:List SV) (bytes:Nat):Option (List (List SV))→Option CSt
 |some l'=>if z.length=sz'∧t.readyC c=true∧(l.length+l'.length)*bytes≤140737488355328 then some (CSt.app c (some k) {val:= .lst z.length (l++l') (.id (k+100)),eat:=t,tok:=true})else none
 |none=>none
theorem UG (l:List (Nat×SV)) (ob:List (Nat×aB)) (t:List Nat) (v:SV) (e:Tok):
 CSt.app ⟨l,ob,t⟩ (some k) {val:=v,eat:=e,tok:=true}=⟨jI (dA (k+100) (k+101) l) k v,bC (k+100) (k+101) ob,nh (cK (k+100) (k+101) (e.eat t)) (k+100)⟩:=rfl
def apS (c:CSt) (k:Nat) (z:List SV) (bytes:Nat) (y:SV):SV→Option CSt
 | .byt l t=>apB c k l t z bytes (eW c y)
 | .lst sz' l t=>apL c k sz' l t z bytes (i9 c z.length y)
 |_=>none
theorem xl7 (z:List SV) (bytes:Nat) (x y:Arg):opC call sg c (some k) (.app z bytes x y)=apS c k z bytes (c.ev y) (c.ev x):=by
 show o9 c (some k) (dJ c (some k) (.app z bytes x y))=_;simp only [dJ];cases c.ev x<;>try rfl
 ·simp only [apS]
  cases eW c (c.ev y)with
  |none=>rfl
  |some l'=>simp only [cQ,apB];unfold gd;split<;>rfl
 ·simp only [apS]
  cases i9 c z.length (c.ev y)with
  |none=>rfl
  |some l'=>simp only [cQ,apL];unfold gd;split<;>rfl
def cpB (o off n:Nat) (sz sz':Nat) (l:List UInt8):Option (List UInt8)→Option (SV×Nat×aB)
 |some l'=>gd (sz=1∧sz'=1∧off+n≤l.length) (.int .i64 (min l'.length n:Nat),o,.bar (l.take off++l'.take n++l.drop (off+(l'.take n).length)))
 |none=>none
def cpL (b:Bool) (o off n:Nat) (sz sz' sz'':Nat) (xs:List (List SV)):Option (List (List SV))→Option (SV×Nat×aB)
 |some l'=>gd (b=true∧sz=sz'∧sz=sz''∧off+n≤xs.length) (.int .i64 (min l'.length n:Nat),o,.arr sz (xs.take off++l'.take n++xs.drop (off+(l'.take n).length)))
 |none=>none
def cp2 (b:Bool) (c:CSt) (sz o sz' off n:Nat) (y:SV):Option aB→Option (SV×Nat×aB)
 |some (.bar l)=>cpB o off n sz sz' l (eW c y)
 |some (.arr sz'' xs)=>cpL b o off n sz sz' sz'' xs (i9 c sz y)
 |_=>none
def cpC (b:Bool) (c:CSt) (sz:Nat) (y:SV):SV→Option (SV×Nat×aB)
 | .psl o sz' off n _=>cp2 b c sz o sz' off n y (c.look o)
 |_=>none
def cpS (c:CSt) (d:Option Nat):Option (SV×Nat×aB)→Option CSt
 |some p=>some (CSt.put ⟨c.tm,jd c.ob p.2.1 p.2.2,c.tk⟩ d p.1)
 |none=>none
theorem xl1 (sz:Nat) (x y:Arg):opC call sg c d (.cpy sz x y)=cpS c d (cpC y.isT c sz (c.ev y) (c.ev x)):=by
 show o9 c d (dJ c d (.cpy sz x y))=_;simp only [dJ];cases c.ev x<;>try rfl
 rename_i o sz' off n cap;simp only [cpC];cases c.look o with
 |none=>rfl
 |some ob=>
  cases ob with
  |rc cs=>rfl
  |bar l=>
   simp only [cp2];cases eW c (c.ev y)with
   |none=>rfl
   |some l'=>simp only [cQ,cpB];unfold gd;split<;>rfl
  |arr sz'' xs=>
   simp only [cp2];cases i9 c sz (c.ev y)with
   |none=>rfl
   |some l'=>simp only [cQ,cpL];unfold gd;split<;>rfl
def Rs (call:cr) (sg:Nat→Sig) (c:CSt) (d:Option Nat) (as:List SV):SV→Option CSt
 | .fn g a b=>iB call (sg g) c d g (a++as++b)
 |_=>none
theorem xis (f:Arg) (as:List Arg):opC call sg c d (.call f as)=Rs call sg c d (evL c as) (c.ev f):=by simp only [opC];unfold Rs;rfl
theorem xgp (o:SOp):dS call sg c ⟨d,none,o⟩=opC call sg c d o:=rfl
theorem xht (g:Option (Nat×Bool)) (o:SOp) (r:List SI):plC call sg (⟨d,g,o⟩::r) c=nxP call sg r (opC call sg c d o):=by rw [plC]
theorem CX:fP call sg [] c=some c:=by rw [fP]
theorem Qv (i:SI) (dead:List Nat) (r:List RI):fP call sg (.op i dead::r) c=nxC call sg dead r (dS call sg c i):=by rw [fP]
theorem CY (g:Nat) (b:Bool) (l:List SI) (dead:List Nat) (r:List RI):fP call sg (.grp g b l dead::r) c=nxC call sg dead r (pZ call sg b l c (c.get g)):=by rw [fP]
theorem CV (i:SI) (dead:List Nat) (r:List RI):fP call sg (.tks i dead::r) c=nxC call sg dead r (AC c i):=by rw [fP]
theorem R9 (d:Option Nat) (x:Arg):AC c ⟨d,none,.s2b x⟩=Sa c d (c.ev x):=rfl
theorem xgg (k:Nat) (l:List UInt8):Sa c (some k) (.str l)=some (CSt.app c (some k) {val:= .byt l (.id (k+100)),tok:=true}):=rfl
theorem CW (i:SI) (dead:List Nat) (r:List RI):fP call sg (.own i dead::r) c=nxC call sg dead r (tN c i):=by rw [fP]
theorem S0 (d:Option Nat) (x:Arg):tN c ⟨d,none,.s2b x⟩=S5 c d (c.ev x):=rfl
theorem S1 (d:Option Nat) (sz:Nat) (xs:List Arg):tN c ⟨d,none,.lit sz xs⟩=S3 c sz d (rows sz (evL c xs)):=rfl
theorem Gd (d:Option Nat) (xs:List Arg):tN c ⟨d,none,.litB xs⟩=oP c d (toB (evL c xs)):=rfl
theorem S2 (d:Option Nat) (z:List SV) (b:Nat) (x y:Arg):tN c ⟨d,none,.app z b x y⟩=S4 c d z b y (c.ev x):=rfl
theorem CZ (q:Dir) (r:List RI):fP call sg (.dir q::r) c=nxC call sg [] r (sJ c q):=by rw [fP]
theorem lz (dead:List Nat) (r:List RI):nxC call sg dead r (some c)=fP call sg r (c.kill dead):=by rw [nxC]
theorem lC (dead:List Nat) (r:List RI):nxC call sg dead r none=none:=by rw [nxC]
theorem Qs:plC call sg [] c=some c:=by rw [plC]
theorem C2 (r:List SI):nxP call sg r (some c)=plC call sg r c:=by rw [nxP]
theorem C3 (r:List SI):nxP call sg r none=none:=by rw [nxP]
theorem xge:unL c []=c:=rfl
theorem R3 (g:Option (Nat×Bool)) (o:SOp) (r:List SI):unL c (⟨d,g,o⟩::r)=unL (c.put d (.tup [])) r:=rfl
theorem xmq (b:Bool) (l:List SI):pZ call sg b l c (.tup [])=some (unL c l):=rfl
theorem xmr (b t:Bool) (l:List SI):pZ call sg b l c (.bool t)=if t=b then plC call sg l c else some (unL c l):=rfl
theorem xit (dead:List Nat) (r:List RI) (p:Prop) [Decidable p] (a b:Option CSt):nxC call sg dead r (if p then a else b)=if p then nxC call sg dead r a else nxC call sg dead r b:=by split<;>rfl
theorem xiB (p:Prop) [Decidable p] (l l':List (Nat×SV)) (o:List (Nat×aB)) (t:List Nat):(if p then some (CSt.mk l o t)else some (CSt.mk l' o t))=some (CSt.mk (if p then l else l') o t):=by split<;>rfl
theorem xiA (p:Prop) [Decidable p] (n:Nat) (v w:SV) (l l':List (Nat×SV)):(if p then(n,v)::l else(n,w)::l')=(n,if p then v else w)::(if p then l else l'):=by split<;>rfl
theorem Tx (p:Prop) [Decidable p]:(if p then([]:List (Nat×SV))else [])=[]:=by split<;>rfl
theorem Gt {α:Type} (p:Prop) [Decidable p] (a:α):(if p then a else a)=a:=by split<;>rfl
theorem Gs (p:Prop) [Decidable p] (q:IntKind) (a b:Int):(if p then SV.int q a else SV.int q b)= .int q (if p then a else b):=by split<;>rfl
theorem Em (p:Prop) [Decidable p] (a b:Bool):(if p then SV.bool a else SV.bool b)= .bool (if p then a else b):=by split<;>rfl
theorem Tw (p:Prop) [Decidable p] (a b:UInt8):(if p then SV.u8 a else SV.u8 b)= .u8 (if p then a else b):=by split<;>rfl
theorem Eo (t a b:Bool):iK t (.bool a) (.bool b)= .bool (if t=true then a else b):=by cases t<;>rfl
theorem Gu (t:Bool) (q:IntKind) (a b:Int):iK t (.int q a) (.int q b)= .int q (if t=true then a else b):=by cases t<;>rfl
theorem Ty (t:Bool) (a b:UInt8):iK t (.u8 a) (.u8 b)= .u8 (if t=true then a else b):=by cases t<;>rfl
theorem En (a b:SV):iK true a b=a:=rfl
theorem xU (a b:SV):iK false a b=b:=rfl
variable {rn : RC → CSt → gR}
theorem Gh (dead:List Nat):nrm dead (some c)=some (.n,c.kill dead):=rfl
theorem Gi (dead:List Nat):nrm dead none=none:=rfl
theorem Tk (dead:List Nat) (p:Prop) [Decidable p] (a b:Option CSt):nrm dead (if p then a else b)=if p then nrm dead a else nrm dead b:=by split<;>rfl
theorem xpI (b:RC):sq rn b (some (.n,c))=rn b c:=rfl
theorem xpG (b:RC) (id:Nat):sq rn b (some (.x id,c))=some (.x id,c):=rfl
theorem xpH (b:RC):sq rn b (some (.r,c))=some (.r,c):=rfl
theorem Sb (b:RC):sq rn b none=none:=rfl
theorem xgk (b:RC) (p:Prop) [Decidable p] (x y:gR):sq rn b (if p then x else y)=if p then sq rn b x else sq rn b y:=by split<;>rfl
theorem xmL (a b:RC) (t:Bool):cnd rn a b c (.bool t)=if t=true then rn a c else rn b c:=rfl
theorem xmO (id:Nat):blk id (some (.n,c))=some (.n,c):=rfl
theorem xmN (id:Nat):blk id (some (.r,c))=some (.r,c):=rfl
theorem xmM (id id':Nat):blk id (some (.x id',c))=if id'=id then some (.n,c)else some (.x id',c):=rfl
theorem Hc (id:Nat):blk id none=none:=rfl
theorem Uw (id:Nat) (p:Prop) [Decidable p] (x y:gR):blk id (if p then x else y)=if p then blk id x else blk id y:=by split<;>rfl
theorem xp5 (b:RC):lp rn b (some (.n,c))=rn (.loop b) c:=rfl
theorem xp3 (b:RC) (id:Nat):lp rn b (some (.x id,c))=some (.x id,c):=rfl
theorem xp4 (b:RC):lp rn b (some (.r,c))=some (.r,c):=rfl
theorem Tq (b:RC):lp rn b none=none:=rfl
theorem xiw (b:RC) (p:Prop) [Decidable p] (x y:gR):lp rn b (if p then x else y)=if p then lp rn b x else lp rn b y:=by split<;>rfl
theorem F9 (a:RC):prD rn a (some c)=rn a c:=rfl
theorem xkA (ds:List Dir):psD ds (some (.n,c))=prD (fun _ c=>some (.n,c)) .skip (iQ c ds):=by simp only [psD];cases iQ c ds<;>rfl
theorem xky (ds:List Dir) (id:Nat):psD ds (some (.x id,c))=some (.x id,c):=rfl
theorem xkz (ds:List Dir):psD ds (some (.r,c))=some (.r,c):=rfl
theorem F8 (ds:List Dir):psD ds none=none:=rfl
theorem SZ (ds:List Dir) (p:Prop) [Decidable p] (x y:gR):psD ds (if p then x else y)=if p then psD ds x else psD ds y:=by split<;>rfl
theorem GN:iQ c []=some c:=rfl
def xpf (ds:List Dir):Option CSt→Option CSt
 |some c=>iQ c ds
 |none=>none
theorem EL (q:Dir) (ds:List Dir):iQ c (q::ds)=xpf ds (sJ c q):=by simp only [iQ];cases sJ c q<;>rfl
theorem EM (ds:List Dir):xpf ds (some c)=iQ c ds:=rfl
theorem xmu (F:FnC) (n:Nat):Fe F n (some (.n,c))=QG F.keep F.raw n c (rZ c F.rs):=rfl
theorem xmt (F:FnC) (n:Nat):Fe F n (some (.r,c))=QG F.keep F.raw n c (rZ c F.rs):=rfl
theorem TQ (F:FnC) (n:Nat) (p:Prop) [Decidable p] (x y:gR):Fe F n (if p then x else y)=if p then Fe F n x else Fe F n y:=by split<;>rfl
theorem G9 (sg:Sig) (g:Nat) (as:List SV):iB call sg c d g as=jX call sg c d g as ((SV.idsL as).isEmpty&&sg.own.isEmpty):=rfl
theorem Ur (sg:Sig) (g:Nat) (as:List SV):jX call sg c d g as true=mU c d (call g (SV.bareL as) [] 0):=rfl
theorem Us (sg:Sig) (g:Nat) (as:List SV):jX call sg c d g as false=jS call sg d g (eV c as (i7 sg.raw 0 as)):=rfl
theorem TS (q:ec):mU c d (some q)=oR c d q q.bare:=rfl
theorem TU (q:ec):oR c d q true=some (c.put d q.r):=rfl
theorem TV (q:ec):oR c d q false=ya c d q q.small:=rfl
theorem TT (q:ec):ya c d q true=some (jZ c d [] [] q):=rfl
theorem UB (r:SV) (os:List (Nat×aB)) (tk:List Nat):(ec.mk r os tk).bare=(os.isEmpty&&tk.isEmpty&&r.ids.isEmpty&&r.toks.isEmpty):=rfl
theorem FC (r:SV) (os:List (Nat×aB)) (tk:List Nat):(ec.mk r os tk).small=(os.all (fun p=>decide (p.1<1000)&&p.2.ids.all (fun k=>decide (k<1000))&&p.2.toks.all (fun k=>decide (k<1000)))&&r.ids.all (fun k=>decide (k<1000))&&r.toks.all (fun k=>decide (k<1000))&&tk.all (fun k=>decide (k<1000))):=rfl
theorem Sc (sg:Sig) (g:Nat) (as:List SV):jS call sg d g (c,as)=oK call c d g (kb c.tk sg.own 50 0 as):=rfl
theorem Si (g:Nat) (as:List SV) (mt1:List (Option Nat)):oK call c d g (as,mt1)=lT call c d g as mt1 (dO c 60 [] (SV.idsL as)) (gF c (dO c 60 [] (SV.idsL as))):=rfl
theorem Sh (g:Nat) (as:List SV) (mt1:List (Option Nat)) (m:List Nat) (os:List aB):lT call c d g as mt1 m (some os)=oJ call c d g as mt1 m (ed c.tk (50+mt1.length) os):=rfl
theorem Sg (g:Nat) (as:List SV) (mt1:List (Option Nat)) (m:List Nat) (os:List aB) (mt2:List (Option Nat)):oJ call c d g as mt1 m (os,mt2)=
 oI call c d g as mt1 m os mt2 (po (SV.idsL as++fL os) m&&dB m&&dB (cB (mt1++mt2))&&decide (m.length≤40)&&m.all fun o=> !inR (d.getD 0) o):=rfl
theorem Sf (g:Nat) (as:List SV) (mt1:List (Option Nat)) (m:List Nat) (os:List aB) (mt2:List (Option Nat)):oI call c d g as mt1 m os mt2 true=
 py c d m (cB (mt1++mt2)) (call g (SV.renL (eB m) id as) (ei (eB m) id os) (mt1.length+mt2.length)):=rfl
theorem Se (m mt:List Nat) (q:ec):py c d m mt (some q)=xb c d m mt q q.small:=rfl
theorem Sd (m mt:List Nat) (q:ec):xb c d m mt q true=some (jZ c d m mt q):=rfl
theorem xiP (keep raw:List Nat) (vs:List SV):QG keep raw k c (some vs)=TR keep k (eV c vs (i7 raw 0 vs)):=rfl
theorem xiI (keep:List Nat) (vs:List SV):TR keep k (c,vs)=QF keep k c vs (decide (k=0)&&(SV.idsL vs).isEmpty&&keep.isEmpty):=rfl
theorem xiN (keep:List Nat) (vs:List SV):QF keep k c vs true=some ⟨jw (SV.bareL vs),[],[]⟩:=rfl
theorem xiO (keep:List Nat) (vs:List SV):QF keep k c vs false=xeM k c (kb c.tk keep 60 0 vs):=rfl
theorem xiM (vs:List SV) (mt1:List (Option Nat)):xeM k c (vs,mt1)=xeL k c vs mt1 (dO c 60 [] (lq k++SV.idsL vs)) (gF c (dO c 60 [] (lq k++SV.idsL vs))):=rfl
theorem xiL (vs:List SV) (mt1:List (Option Nat)) (m:List Nat) (os:List aB):xeL k c vs mt1 m (some os)=xeK k vs mt1 m (ed c.tk (60+mt1.length) os):=rfl
theorem xiK (vs:List SV) (mt1:List (Option Nat)) (m:List Nat) (os:List aB) (mt2:List (Option Nat)):xeK k vs mt1 m (os,mt2)=
 xeJ k vs mt1 m os mt2 (po (SV.idsL vs++fL os) m&&dB m&&dB (cB (mt1++mt2))&&decide (m.take k=lq k)&&(m.drop k).all fun o=>decide (k≤o)):=rfl
theorem xiJ (vs:List SV) (mt1:List (Option Nat)) (m:List Nat) (os:List aB) (mt2:List (Option Nat)):xeJ k vs mt1 m os mt2 true=
 some ⟨(jw vs).ren (gY k m) id,(gg 0 (ei (gY k m) id (os.take k)))++(gg (100+k) (ei (gY k m) id (os.drop k))),tks 60 (mt1.length+mt2.length)⟩:=rfl
theorem S8 (v:SV):jw [v]=v:=rfl
theorem S7 (v w:SV) (r:List SV):jw (v::w::r)= .tup (v::w::r):=rfl
theorem S9:jw []= .tup []:=rfl
theorem Ut (q:ec):uU (some q)=uT q q.bare:=rfl
theorem G8 (q:ec):uT q true=some {val:=q.r}:=rfl
theorem G6 (b:Bool) (g:Nat) (as:List SV):jY call c b g as true=uU (call g (SV.bareL as) [] 0):=rfl
theorem G7 (b:Bool) (g:Nat) (as:List SV):jY call c b g as false=o5 call c g as b:=rfl
theorem GZ (g:Nat) (as:List SV):o5 call c g as true=qf call c g (SV.bareL as) (SV.idsL as):=rfl
theorem Uq (g:Nat) (as:List SV) (o:Nat) (r:List Nat):qf call c g as (o::r)=o7 call o g as (c.look o):=rfl
theorem G4 (o g:Nat) (as:List SV) (ob:aB):o7 call o g as (some ob)=o6 call o g as ob (ob.ids.isEmpty&&ob.toks.isEmpty&&(SV.idsL as).all (fun k=>decide (k=o))&&(SV.idsL (SV.renL (eB [o]) id as)).all (fun k=>decide (k=0))):=rfl
theorem G3 (o g:Nat) (as:List SV) (ob:aB):o6 call o g as ob true=uS o (call g (SV.renL (eB [o]) id as) [ob] 0):=rfl
theorem G2 (o:Nat) (r:SV) (cs:List SV):uS o (some ⟨r,[(0,.rc cs)],[]⟩)=uR o r cs (r.ids.isEmpty&&r.toks.isEmpty&&(SV.idsL cs).isEmpty&&(SV.toksL cs).isEmpty):=rfl
theorem G1 (o:Nat) (r:SV) (cs:List SV):uR o r cs true=some {val:=r,wr:=[(o,.rc cs)]}:=rfl
theorem G5 (sg:Nat→Sig) (g:Nat) (a as b:List SV):lI call sg c as (.fn g a b)=jY call c (sg g).own.isEmpty g (a++as++b) ((SV.idsL (a++as++b)).isEmpty&&(sg g).own.isEmpty):=rfl
theorem FK (raw:List Nat) (i:Nat) (q:IntKind) (n:Int):nb raw i (.int q n)=[]:=rfl
theorem DQ (raw:List Nat) (i:Nat) (b:Bool):nb raw i (.bool b)=[]:=rfl
theorem Sl (raw:List Nat) (i:Nat) (b:UInt8):nb raw i (.u8 b)=[]:=rfl
theorem FF (raw:List Nat) (i:Nat) (l:List UInt8):nb raw i (.str l)=[]:=rfl
theorem FL (raw:List Nat) (i:Nat) (l:List UInt8) (t:Tok):nb raw i (.byt l t)=[]:=rfl
theorem FJ (raw:List Nat) (i sz:Nat) (l:List (List SV)) (t:Tok):nb raw i (.lst sz l t)=[]:=rfl
theorem DO (raw:List Nat) (i:Nat):nb raw i .nilp=[]:=rfl
theorem DP (raw:List Nat) (i:Nat):nb raw i .nili=[]:=rfl
theorem xh (raw:List Nat) (i:Nat):nb raw i .undef=[]:=rfl
theorem Sm (raw:List Nat) (i:Nat) (l:List SV):nb raw i (.pp l)=[]:=rfl
theorem FG (raw:List Nat) (i o off:Nat):nb raw i (.ptr o off)=[]:=rfl
theorem Sp (raw:List Nat) (i o sz a b:Nat):nb raw i (.ap o sz a b)=[]:=rfl
theorem FM (raw:List Nat) (i:Nat) (l:List SV):nb raw i (.agg l)=if raw.contains i=true then []else uA l:=rfl
theorem DZ:uA []=[]:=rfl
theorem xo (v:SV) (r:List SV):uA (v::r)=gW v++uA r:=rfl
theorem DW (q:IntKind) (n:Int):gW (.int q n)=[]:=rfl
theorem xl (b:Bool):gW (.bool b)=[]:=rfl
theorem FN (b:UInt8):gW (.u8 b)=[]:=rfl
theorem DS (l:List UInt8):gW (.str l)=[]:=rfl
theorem DX (l:List UInt8) (t:Tok):gW (.byt l t)=[]:=rfl
theorem DV (sz:Nat) (l:List (List SV)) (t:Tok):gW (.lst sz l t)=[]:=rfl
theorem xj:gW .nilp=[]:=rfl
theorem xk:gW .nili=[]:=rfl
theorem vi:gW .undef=[]:=rfl
theorem FO (l:List SV):gW (.pp l)=[]:=rfl
theorem DT (o off:Nat):gW (.ptr o off)=[]:=rfl
theorem FQ (o sz a b:Nat):gW (.ap o sz a b)=[]:=rfl
theorem DY (l:List SV):gW (.agg l)=[]:=rfl
theorem DR (l:List SV):gW (.tup l)=[]:=rfl
theorem FP (f:Nat) (a b:List SV):gW (.fn f a b)=[]:=rfl
theorem DU (o sz off n:Nat) (m:Option Nat):gW (.psl o sz off n m)=[o]:=rfl
theorem FE (raw:List Nat) (i:Nat) (l:List SV):nb raw i (.tup l)=[]:=rfl
theorem Sn (raw:List Nat) (i f:Nat) (a b:List SV):nb raw i (.fn f a b)=[]:=rfl
theorem FH (raw:List Nat) (i o sz off n:Nat) (m:Option Nat):nb raw i (.psl o sz off n m)=if raw.contains i=true then []else [o]:=rfl
theorem TE (p:Prop) [Decidable p] (a b v:SV):iK (decide p) (if p then a else b) v=iK (decide p) a v:=by by_cases h:p<;>simp [iK,h]
theorem TD (p:Prop) [Decidable p] (a b v:SV):iK (decide p) v (if ¬p then a else b)=iK (decide p) v a:=by by_cases h:p<;>simp [iK,h]
theorem TA (t:Bool) (a b v:SV):iK t (if t=true then a else b) v=iK t a v:=by cases t<;>simp [iK]
theorem Tz (t:Bool) (a b v:SV):iK t v (if t=false then a else b)=iK t v a:=by cases t<;>simp [iK]
theorem TC (t:Bool) (a b v:SV):iK (!t) (if t=false then a else b) v=iK (!t) a v:=by cases t<;>simp [iK]
theorem TB (t:Bool) (a b v:SV):iK (!t) v (if t=true then a else b)=iK (!t) v a:=by cases t<;>simp [iK]
theorem Uz (p q:Prop) [Decidable p] [Decidable q]:(if p then decide q else false)=decide (p∧q):=by by_cases h:p<;>simp [h]
theorem xjo (p q:Prop) [Decidable p] [Decidable q]:(if p then true else decide q)=decide (p∨q):=by by_cases h:p<;>simp [h]
theorem bF {so:SOp} (g:Option (Nat×Bool)) (h:so.pure=true) (hc:∀q y z,so≠ .cpy q y z):dQ call sg c ⟨d,g,so⟩=fg (cD c so):=by
 have:dQ call sg c ⟨d,g,so⟩=dJ c d so:=by cases so<;>first|rfl|(cases h;done)
 rw [this];exact nT h
theorem xmy (g:Option (Nat×Bool)) (x:Arg):dQ call sg c ⟨d,g,.mov x⟩=fg ((some (c.ev x))):=(bF g rfl (fun _ _ _ e=>by cases e)).trans (by rw [UN])
theorem Uk (g:Option (Nat×Bool)) (z:List SV) (ps:List (Nat×Nat×Arg)):dQ call sg c ⟨d,g,.build z ps⟩=fg ((rC (ij z (psC c ps)))):=(bF g rfl (fun _ _ _ e=>by cases e)).trans (by rw [tn])
theorem xmA (g:Option (Nat×Bool)) (sz:Nat) (xs:List Arg):dQ call sg c ⟨d,g,.lit sz xs⟩=fg ((Ts sz (rows sz (evL c xs)))):=(bF g rfl (fun _ _ _ e=>by cases e)).trans (by rw [QT])
theorem xji (g:Option (Nat×Bool)) (xs:List Arg):dQ call sg c ⟨d,g,.litB xs⟩=fg ((xQ (toB (evL c xs)))):=(bF g rfl (fun _ _ _ e=>by cases e)).trans (by rw [yD])
theorem xjh (g:Option (Nat×Bool)) (n:Nat) (ag:Bool) (a:Arg):dQ call sg c ⟨d,g,.load n ag a⟩=fg ((lZ c n ag (c.ev a))):=(bF g rfl (fun _ _ _ e=>by cases e)).trans (by rw [Ho])
theorem xjd (g:Option (Nat×Bool)) (x:Arg):dQ call sg c ⟨d,g,.nchk x⟩=fg ((xM (c.ev x))):=(bF g rfl (fun _ _ _ e=>by cases e)).trans (by rw [Hk])
theorem xmH (g:Option (Nat×Bool)) (op:BinOp) (x y:Arg):dQ call sg c ⟨d,g,.bin op x y⟩=fg ((Dk op (c.ev x) (c.ev y))):=(bF g rfl (fun _ _ _ e=>by cases e)).trans (by rw [US])
theorem xmI (g:Option (Nat×Bool)) (ne:Bool) (x y:Arg):dQ call sg c ⟨d,g,.beq ne x y⟩=fg ((UA ne (c.ev x) (c.ev y))):=(bF g rfl (fun _ _ _ e=>by cases e)).trans (by rw [UT])
theorem xmE (g:Option (Nat×Bool)) (ne:Bool) (ts:List Nat) (x y:Arg):dQ call sg c ⟨d,g,.eqS ne ts x y⟩=fg ((T1 ne ts (c.ev x) (c.ev y))):=(bF g rfl (fun _ _ _ e=>by cases e)).trans (by rw [UQ])
theorem xq8 (g:Option (Nat×Bool)) (op:UnOp) (x:Arg):dQ call sg c ⟨d,g,.un op x⟩=fg ((vu op (c.ev x))):=(bF g rfl (fun _ _ _ e=>by cases e)).trans (by rw [xnQ])
theorem Uh (g:Option (Nat×Bool)) (q:IntKind) (x:Arg):dQ call sg c ⟨d,g,.toInt q x⟩=fg ((gJ q (c.ev x))):=(bF g rfl (fun _ _ _ e=>by cases e)).trans (by rw [Ay])
theorem Ug (g:Option (Nat×Bool)) (x:Arg):dQ call sg c ⟨d,g,.toStr x⟩=fg ((rb (c.ev x))):=(bF g rfl (fun _ _ _ e=>by cases e)).trans (by rw [Ax])
theorem xjk (g:Option (Nat×Bool)) (ne:Bool) (x:Arg):dQ call sg c ⟨d,g,.isni ne x⟩=fg (xV ne (c.ev x)):=(bF g rfl (fun _ _ _ e=>by cases e)).trans (by rw [Hq])
theorem xmw (g:Option (Nat×Bool)) (x:Arg):dQ call sg c ⟨d,g,.s2b x⟩=fg ((Sr (c.ev x))):=(bF g rfl (fun _ _ _ e=>by cases e)).trans (by rw [UM])
theorem xmJ (g:Option (Nat×Bool)) (x:Arg):dQ call sg c ⟨d,g,.b2s x⟩=fg ((UC c (c.ev x))):=(bF g rfl (fun _ _ _ e=>by cases e)).trans (by rw [UU])
theorem xje (g:Option (Nat×Bool)) (f:Nat) (a b:List Arg):dQ call sg c ⟨d,g,.mkfn f a b⟩=fg ((some (.fn f (evL c a) (evL c b)))):=(bF g rfl (fun _ _ _ e=>by cases e)).trans (by rw [Hl])
theorem xi9 (g:Option (Nat×Bool)) (x:Arg) (lo hi:Option Arg):dQ call sg c ⟨d,g,.slcS x lo hi⟩=fg ((xf c lo hi (c.ev x))):=(bF g rfl (fun _ _ _ e=>by cases e)).trans (by rw [yC])
theorem xja (g:Option (Nat×Bool)) (sz:Nat) (x:Arg) (lo hi mx:Option Arg):dQ call sg c ⟨d,g,.slcL sz x lo hi mx⟩=fg ((oh c sz (c.ev x) lo hi mx)):=(bF g rfl (fun _ _ _ e=>by cases e)).trans (by rw [Hi])
theorem xjb (g:Option (Nat×Bool)) (len sz:Nat) (x:Arg) (lo hi mx:Option Arg):dQ call sg c ⟨d,g,.slcA len sz x lo hi mx⟩=fg ((xg c len sz lo hi mx (c.ev x))):=(bF g rfl (fun _ _ _ e=>by cases e)).trans (by rw [Hj])
theorem Uj (g:Option (Nat×Bool)) (off:Nat) (x:Arg):dQ call sg c ⟨d,g,.faddr off x⟩=fg ((rz off (c.ev x))):=(bF g rfl (fun _ _ _ e=>by cases e)).trans (by rw [Az])
theorem xmC (g:Option (Nat×Bool)) (off n:Nat) (ag:Bool) (x:Arg):dQ call sg c ⟨d,g,.fld off n ag x⟩=fg ((TO off n ag (c.ev x))):=(bF g rfl (fun _ _ _ e=>by cases e)).trans (by rw [UO])
theorem GS (g:Option (Nat×Bool)) (sz:Nat) (x i:Arg):dQ call sg c ⟨d,g,.iaddrL sz x i⟩=fg ((nq sz (c.ev x) (c.ev i).num)):=(bF g rfl (fun _ _ _ e=>by cases e)).trans (by rw [vt])
theorem GT (g:Option (Nat×Bool)) (len sz:Nat) (x i:Arg):dQ call sg c ⟨d,g,.iaddrA len sz x i⟩=fg ((lF c len sz (c.ev x) (c.ev i).num)):=(bF g rfl (fun _ _ _ e=>by cases e)).trans (by rw [qA])
theorem xjm (g:Option (Nat×Bool)) (len sz:Nat) (ag:Bool) (x i:Arg):dQ call sg c ⟨d,g,.idxA len sz ag x i⟩=fg ((xY len sz ag (c.ev x) (c.ev i).num)):=(bF g rfl (fun _ _ _ e=>by cases e)).trans (by rw [Hs])
theorem xjl (g:Option (Nat×Bool)) (x i:Arg):dQ call sg c ⟨d,g,.idxS x i⟩=fg ((xX (c.ev x) (c.ev i).num)):=(bF g rfl (fun _ _ _ e=>by cases e)).trans (by rw [Hr])
theorem xmD (g:Option (Nat×Bool)) (x:Arg) (i:Nat):dQ call sg c ⟨d,g,.ext x i⟩=fg ((TW i (c.ev x))):=(bF g rfl (fun _ _ _ e=>by cases e)).trans (by rw [UP])
theorem xmB (g:Option (Nat×Bool)) (b:Bool) (x:Arg):dQ call sg c ⟨d,g,.len b x⟩=fg ((lenC (jA b (c.ev x)))):=(bF g rfl (fun _ _ _ e=>by cases e)).trans (by rw [QU])
theorem xjj (g:Option (Nat×Bool)) (n:Nat):dQ call sg c ⟨d,g,.lenC n⟩=fg ((some (.int .i64 n))):=(bF g rfl (fun _ _ _ e=>by cases e)).trans (by rw [Hp])
theorem xmF (g:Option (Nat×Bool)) (x:Arg):dQ call sg c ⟨d,g,.cap x⟩=fg ((Uo (c.ev x))):=(bF g rfl (fun _ _ _ e=>by cases e)).trans (by rw [UR])
theorem xjf (g:Option (Nat×Bool)) (x y:Arg):dQ call sg c ⟨d,g,.mini x y⟩=fg ((xN (c.ev x) (c.ev y))):=(bF g rfl (fun _ _ _ e=>by cases e)).trans (by rw [Hm])
theorem xjg (g:Option (Nat×Bool)) (x y:Arg):dQ call sg c ⟨d,g,.maxi x y⟩=fg ((xO (c.ev x) (c.ev y))):=(bF g rfl (fun _ _ _ e=>by cases e)).trans (by rw [Hn])
theorem xjc (g:Option (Nat×Bool)) (q a b:Arg):dQ call sg c ⟨d,g,.pick q a b⟩=fg (xE (c.ev a) (c.ev b) (c.ev q)):=QI (d:=d) q a b
theorem xmx (g:Option (Nat×Bool)) (o:aB):dQ call sg c ⟨some k,g,.new o⟩=gd (o.wf=true) {val:= .ptr (k+100) 0,new:=some o}:=rfl
theorem xmG (g:Option (Nat×Bool)) (x:Arg):dQ call sg c ⟨some k,g,.box x⟩=some {val:= .ptr (k+100) 0,new:=some (.rc (c.ev x).cells)}:=rfl
theorem Ui (g:Option (Nat×Bool)) (n:Nat) (a x:Arg):dQ call sg c ⟨d,g,.store n a x⟩=if(c.ev x).isDef=true then jR c n (c.ev x).cells (c.ev a)else none:=rfl
def apE (c:CSt) (k:Nat) (z:List SV) (bytes:Nat) (y:SV):SV→Option fD
 | .byt l t=>(eW c y).bind fun l'=>gd (z.length=1∧bytes=1∧t.readyC c=true∧l.length+l'.length≤140737488355328) {val:= .byt (l++l') (.id (k+100)),eat:=t,tok:=true}
 | .lst sz' l t=>(i9 c z.length y).bind fun l'=>gd (z.length=sz'∧t.readyC c=true∧(l.length+l'.length)*bytes≤140737488355328) {val:= .lst z.length (l++l') (.id (k+100)),eat:=t,tok:=true}
 |_=>none
theorem xmK (g:Option (Nat×Bool)) (z:List SV) (bytes:Nat) (x y:Arg):dQ call sg c ⟨some k,g,.app z bytes x y⟩=apE c k z bytes (c.ev y) (c.ev x):=by show dJ c (some k) (.app z bytes x y)=_;simp only [dJ];cases c.ev x<;>rfl
theorem xq9 (g:Option (Nat×Bool)) (z:List SV) (bytes:Nat) (n m:Arg):dQ call sg c ⟨some k,g,.mk z bytes n m⟩=(mkE bytes (c.ev n) (c.ev m)).map fun p=> {val:= .psl (k+100) z.length 0 p.1 (some p.2),new:=some (.arr z.length (am p.2 z))}:=by show dJ c (some k) (.mk z bytes n m)=_;simp only [dJ];cases h1:c.ev n<;>cases h2:c.ev m<;>first|rfl|(simp only [mkE];unfold gd;split<;>rfl)
theorem xmz (g:Option (Nat×Bool)) (n m:Arg):dQ call sg c ⟨some k,g,.mkB n m⟩=(Tn (c.ev n) (c.ev m)).map fun p=> {val:= .psl (k+100) 1 0 p.1 (some p.2),new:=some (.bar (am p.2 0))}:=by show dJ c (some k) (.mkB n m)=_;simp only [dJ];cases h1:c.ev n<;>cases h2:c.ev m<;>first|rfl|(simp only [Tn];unfold gd;split<;>rfl)
theorem xjn (g:Option (Nat×Bool)) (f:Arg) (as:List Arg):dQ call sg c ⟨d,g,.call f as⟩=lI call sg c (evL c as) (c.ev f):=rfl
theorem xgA (b:List Nat) (fs:List eO):iT call sg b [] fs c=gd ((fs.all eO.quiet||mF b fs.reverse)=true) c:=by rw [iT]
theorem SF (b:List Nat) (o:SOp) (r:List SI) (fs:List eO):iT call sg b (⟨d,none,o⟩::r) fs c=nxD call sg b o d r fs c (dQ call sg c ⟨d,none,o⟩):=by rw [iT]
def gdD (call:cr) (sg:Nat→Sig) (b:List Nat) (i:SI) (want:Bool) (r:List SI) (fs:List eO) (c:CSt):SV→Option CSt
 | .bool t=>if t=want then nxD call sg b i.op i.dst r fs c (dQ call sg c i)else iT call sg b r (fA::fs) (c.put i.dst .undef)
 |_=>none
theorem SE (b:List Nat) (g:Nat) (want:Bool) (o:SOp) (r:List SI) (fs:List eO):iT call sg b (⟨d,some (g,want),o⟩::r) fs c=gdD call sg b ⟨d,some (g,want),o⟩ want r fs c (c.get g):=by rw [iT];unfold gdD;rfl
theorem xms (b:List Nat) (i:SI) (want t:Bool) (r:List SI) (fs:List eO):gdD call sg b i want r fs c (.bool t)=if t=want then nxD call sg b i.op i.dst r fs c (dQ call sg c i)else iT call sg b r (fA::fs) (c.put i.dst .undef):=rfl
theorem Tl (b:List Nat) (o:SOp) (r:List SI) (fs:List eO) (e:fD):nxD call sg b o d r fs c (some e)=iT call sg b r (kY c o d e::fs) (c.app d e):=by rw [nxD]
theorem Tm (b:List Nat) (o:SOp) (r:List SI) (fs:List eO):nxD call sg b o d r fs c none=none:=by rw [nxD]
theorem UE (v:SV):c.app d {val:=v}=c.put d v:=rfl
theorem UF (l:List (Nat×SV)) (ob:List (Nat×aB)) (t:List Nat) (o:aB) (v:SV):
 CSt.app ⟨l,ob,t⟩ (some k) {val:=v,new:=some o}=⟨jI (dA (k+100) (k+101) l) k v,jd (bC (k+100) (k+101) ob) (k+100) (o.purge (k+100) (k+101)),cK (k+100) (k+101) t⟩:=rfl
theorem xjp (l:List (Nat×SV)) (ob:List (Nat×aB)) (t:List Nat) (v:SV) (p:Nat×aB):CSt.app ⟨l,ob,t⟩ d {val:=v,wr:=[p]}=CSt.put ⟨l,jd ob p.1 p.2,t⟩ d v:=rfl
theorem GD (o:SOp) (v:SV):kY c o d {val:=v}=⟨SV.idsL (evL c o.args),[],[],[],v.names,if o.blind=true then []else SV.idsL (evL c o.args)⟩:=by simp only [kY,bT,ji,bj];rfl
theorem GF (o:SOp) (v:SV) (ob:aB):kY c o (some k) {val:=v,new:=some ob}=⟨SV.idsL (evL c o.args),[],[],[k+100],v.names++ob.names,if o.blind=true then []else SV.idsL (evL c o.args)⟩:=by simp only [kY,bT,ji,bj];rfl
theorem GE (o:SOp) (v:SV) (t:Tok):kY c o (some k) {val:=v,eat:=t,tok:=true}=⟨SV.idsL (evL c o.args),[],t.ids,[k+100],v.names,if o.blind=true then []else SV.idsL (evL c o.args)⟩:=by simp only [kY,bT,ji,bj];rfl
theorem TJ (o:SOp) (v:SV) (p:Nat×aB):kY c o d {val:=v,wr:=[p]}=⟨SV.idsL (evL c o.args),[p.1],[],[],v.names++p.2.names,if o.blind=true then []else SV.idsL (evL c o.args)⟩:=by simp only [kY,aL,bT,ji,bj];rfl
@[congr] theorem nxD_congr {b:List Nat} {o:SOp} {r:List SI} {fs fs':List eO} {c c':CSt} {e e':Option fD} (h:c=c') (h2:e=e') (h3:fs=fs'):nxD call sg b o d r fs c e=nxD call sg b o d r fs' c' e':=by rw [h,h2,h3]
theorem GU (l:List (Nat×SV)) (ob:List (Nat×aB)) (t:List Nat) (p:SV×Nat×aB):cpS ⟨l,ob,t⟩ d (some p)=some (CSt.put ⟨l,jd ob p.2.1 p.2.2,t⟩ d p.1):=rfl
theorem Gk (z:List SV) (p:Nat×Nat):mkS c k z (some p)=some (Do c k (.arr z.length (am p.2 z)) (.psl (k+100) z.length 0 p.1 (some p.2))):=rfl
theorem Eg (p:Nat×Nat):xoU c k (some p)=some (Do c k (.bar (am p.2 0)) (.psl (k+100) 1 0 p.1 (some p.2))):=rfl
theorem xjX (x:Arg):cU c (.mov x)=some (c.ev x):=by simp only [cU];rw [UN]
theorem RU (z:List SV) (ps:List (Nat×Nat×Arg)):cU c (.build z ps)=rC (ij z (psC c ps)):=by simp only [cU];rw [tn]
theorem xjY (sz:Nat) (xs:List Arg):cU c (.lit sz xs)=Ts sz (rows sz (evL c xs)):=by simp only [cU];rw [QT]
theorem xf9 (xs:List Arg):cU c (.litB xs)=xQ (toB (evL c xs)):=by simp only [cU];rw [yD]
theorem xf8 (n:Nat) (ag:Bool) (a:Arg):cU c (.load n ag a)=lZ c n ag (c.ev a):=by simp only [cU];rw [Ho]
theorem xf4 (x:Arg):cU c (.nchk x)=xM (c.ev x):=by simp only [cU];rw [Hk]
theorem xj4 (op:BinOp) (x y:Arg):cU c (.bin op x y)=Dk op (c.ev x) (c.ev y):=by simp only [cU];rw [US]
theorem xj5 (ne:Bool) (x y:Arg):cU c (.beq ne x y)=UA ne (c.ev x) (c.ev y):=by simp only [cU];rw [UT]
theorem xj2 (ne:Bool) (ts:List Nat) (x y:Arg):cU c (.eqS ne ts x y)=T1 ne ts (c.ev x) (c.ev y):=by simp only [cU];rw [UQ]
theorem xpz (op:UnOp) (x:Arg):cU c (.un op x)=vu op (c.ev x):=by simp only [cU];rw [xnQ]
theorem RS (q:IntKind) (x:Arg):cU c (.toInt q x)=gJ q (c.ev x):=by simp only [cU];rw [Ay]
theorem RR (x:Arg):cU c (.toStr x)=rb (c.ev x):=by simp only [cU];rw [Ax]
theorem xgb (ne:Bool) (x:Arg):cU c (.isni ne x)=xV ne (c.ev x):=by simp only [cU];rw [Hq]
theorem xjW (x:Arg):cU c (.s2b x)=Sr (c.ev x):=by simp only [cU];rw [UM]
theorem xj6 (x:Arg):cU c (.b2s x)=UC c (c.ev x):=by simp only [cU];rw [UU]
theorem xf5 (f:Nat) (a b:List Arg):cU c (.mkfn f a b)=some (.fn f (evL c a) (evL c b)):=by simp only [cU];rw [Hl]
theorem xf0 (x:Arg) (lo hi:Option Arg):cU c (.slcS x lo hi)=xf c lo hi (c.ev x):=by simp only [cU];rw [yC]
theorem xf1 (sz:Nat) (x:Arg) (lo hi mx:Option Arg):cU c (.slcL sz x lo hi mx)=oh c sz (c.ev x) lo hi mx:=by simp only [cU];rw [Hi]
theorem xf2 (len sz:Nat) (x:Arg) (lo hi mx:Option Arg):cU c (.slcA len sz x lo hi mx)=xg c len sz lo hi mx (c.ev x):=by simp only [cU];rw [Hj]
theorem RT (off:Nat) (x:Arg):cU c (.faddr off x)=rz off (c.ev x):=by simp only [cU];rw [Az]
theorem xj0 (off n:Nat) (ag:Bool) (x:Arg):cU c (.fld off n ag x)=TO off n ag (c.ev x):=by simp only [cU];rw [UO]
theorem Fo (sz:Nat) (x i:Arg):cU c (.iaddrL sz x i)=nq sz (c.ev x) (c.ev i).num:=by simp only [cU];rw [vt]
theorem Fp (len sz:Nat) (x i:Arg):cU c (.iaddrA len sz x i)=lF c len sz (c.ev x) (c.ev i).num:=by simp only [cU];rw [qA]
theorem xgd (len sz:Nat) (ag:Bool) (x i:Arg):cU c (.idxA len sz ag x i)=xY len sz ag (c.ev x) (c.ev i).num:=by simp only [cU];rw [Hs]
theorem xgc (x i:Arg):cU c (.idxS x i)=xX (c.ev x) (c.ev i).num:=by simp only [cU];rw [Hr]
theorem xj1 (x:Arg) (i:Nat):cU c (.ext x i)=TW i (c.ev x):=by simp only [cU];rw [UP]
theorem xjZ (b:Bool) (x:Arg):cU c (.len b x)=lenC (jA b (c.ev x)):=by simp only [cU];rw [QU]
theorem xga (n:Nat):cU c (.lenC n)=some (.int .i64 n):=by simp only [cU];rw [Hp]
theorem xj3 (x:Arg):cU c (.cap x)=Uo (c.ev x):=by simp only [cU];rw [UR]
theorem xf6 (x y:Arg):cU c (.mini x y)=xN (c.ev x) (c.ev y):=by simp only [cU];rw [Hm]
theorem xf7 (x y:Arg):cU c (.maxi x y)=xO (c.ev x) (c.ev y):=by simp only [cU];rw [Hn]
theorem xf3 (q a b:Arg):cU c (.pick q a b)=xE (c.ev a) (c.ev b) (c.ev q):=by simp only [cU];cases c.ev q<;>rfl
theorem xpT (o:SOp):qv c ⟨d,none,o⟩=cU c o:=rfl
theorem xpS (g:Nat) (b:Bool) (o:SOp):qv c ⟨d,some (g,b),o⟩=qg c o b (c.get g):=rfl
theorem xpV (b t:Bool) (o:SOp):qg c o b (.bool t)=if t=b then cU c o else some (.tup []):=rfl
theorem xpU (b:Bool) (o:SOp):qg c o b (.tup [])=some (.tup []):=rfl
def stG (call:cr) (sg:Nat→Sig) (c:CSt) (d:Option Nat) (o:SOp) (b:Bool):SV→Option CSt
 | .bool t=>if t=b then opC call sg c d o else some (c.put d (.tup []))
 | .tup []=>some (c.put d (.tup []))
 |_=>none
theorem xgo (g:Nat) (b:Bool) (o:SOp):dS call sg c ⟨d,some (g,b),o⟩=stG call sg c d o b (c.get g):=by unfold dS stG;rfl
theorem xj9 (b t:Bool) (o:SOp):stG call sg c d o b (.bool t)=if t=b then opC call sg c d o else some (c.put d (.tup [])):=rfl
theorem xj8 (b:Bool) (o:SOp):stG call sg c d o b (.tup [])=some (c.put d (.tup [])):=rfl
theorem xiG (b:List Nat) (ps:List FI):fe call sg b [] ps c=some c:=by rw [fe]
theorem xqu (b:List Nat) (n:Nat) (i:SI) (r ps:List FI):fe call sg b (⟨n,true,i⟩::r) ps c=wk call sg b r (⟨n,true,i⟩::ps) c i.dst (qv c i):=by rw [fe]
theorem xqv (b:List Nat) (n:Nat) (i:SI) (r ps:List FI):fe call sg b (⟨n,false,i⟩::r) ps c=rx call sg b r ps (b.getD n 0) (dS call sg c i):=by rw [fe]
theorem xqs (b:List Nat) (r ps:List FI) (v:SV):wk call sg b r ps c d (some v)=fe call sg b r ps (c.put d v):=by rw [wk]
theorem xqt (b:List Nat) (r ps:List FI) (m:Nat):rx call sg b r ps m (some c)=ry call sg b r ps (gdP (tU m c ps) c):=by rw [rx]
theorem xqw (b:List Nat) (r ps:List FI):ry call sg b r ps (some c)=fe call sg b r ps c:=by rw [ry]
theorem TH {α:Type} {p:Prop} (v:α) (h:p):gdP p v=some v:=by unfold gdP;exact if_pos h
theorem xmR (b:List Nat) (l:List FI) (p:List Nat):jg call sg b l [p] c=fe call sg b (iV l p) [] c:=by rw [jg]
theorem xmQ (b:List Nat) (l:List FI) (p q:List Nat) (r:List (List Nat)):jg call sg b l (p::q::r) c=oV (fe call sg b (iV l p) [] c) (jg call sg b l (q::r) c):=by rw [jg]
theorem xrd (a a':CSt):oV (some a) (some a')=gdP (a=a') a:=rfl
theorem xiH (m:Nat):tU m c []=True:=rfl
theorem TP (m:Nat) (p:FI) (r:List FI):tU m c (p::r)=((m/2^p.n % 2=1∨qv c p.i=some (c.get (p.i.dst.getD 0)))∧tU m c r):=rfl
end Go.Sy
namespace Go.Sy
variable [ba]
theorem su {n:Nat}:∀ {l:List (Nat×SV)},(∀p∈l,p.1≠n)→eE l n= .undef
 |[],_=>rfl
 |p::r,h=>by simp only [eE];rw [if_neg (h p (aA ..))];exact su fun q hq=>h q (au _ hq)
theorem mT (n:Nat) (v:SV) (m:Nat):∀l:List (Nat×SV),eE (jI l n v) m=if m=n then v else eE l m
 |[]=>by simp only [jI,eE];by_cases h:n=m<;>simp [h,eq_comm]
 |p::r=>by
  simp only [jI];split
  ·simp only [eE]
   by_cases h:n=m
   ·simp [h]
   ·rw [if_neg h,if_neg (Ne.symm h)]
  ·split
   ·rename_i h1 h2
    simp only [eE]
    by_cases h:n=m
    ·simp [h]
    ·rw [if_neg h,if_neg (Ne.symm h),if_neg (by omega)]
   ·rename_i h1 h2
    simp only [eE,mT n v m r]
    by_cases h:p.1=m
    ·rw [if_pos h,if_pos h,if_neg (by omega)]
    ·rw [if_neg h,if_neg h]
theorem mS {n:Nat} {v:SV} {p:Nat×SV}:∀ {l:List (Nat×SV)},p∈jI l n v→p=(n,v)∨p∈l
 |[],h=>by simpa [jI]using h
 |q::r,h=>by
  simp only [jI]at h;split at h
  ·rcases ao.1 h with h|h
   ·exact .inl h
   ·exact .inr h
  ·split at h
   ·rcases ao.1 h with h|h
    ·exact .inl h
    ·exact .inr (au _ h)
   ·rcases ao.1 h with h|h
    ·exact .inr (h ▸ aA ..)
    ·rcases mS h with h|h
     ·exact .inl h
     ·exact .inr (au _ h)
theorem gy (lo hi n:Nat):∀l:List (Nat×SV),eE (dA lo hi l) n=(eE l n).purge lo hi
 |[]=>by simp [dA,eE,SV.purge]
 |p::r=>by
  simp only [dA,eE];split
  ·rfl
  ·exact gy lo hi n r
theorem jy {lo hi:Nat} {p:Nat×SV}:∀ {l:List (Nat×SV)},p∈dA lo hi l→∃q∈l,p.1=q.1
 |q::r,h=>by
  simp only [dA]at h;rcases ao.1 h with h|h
  ·exact⟨q,aA ..,by rw [h]⟩
  ·obtain⟨u,h1,h2⟩:=jy h
   exact⟨u,au _ h1,h2⟩
theorem qJ {k:List Nat} {p:Nat×SV}:∀ {l:List (Nat×SV)},p∈wB l k→p∈l
 |q::r,h=>by
  simp only [wB]at h;split at h
  ·exact au _ (qJ h)
  ·rcases ao.1 h with h|h
   ·exact h ▸ aA ..
   ·exact au _ (qJ h)
theorem qQ (k:List Nat) (n:Nat):∀l:List (Nat×SV),eE (wB l k) n=if k.contains n=true then .undef else eE l n
 |[]=>by simp [wB,eE]
 |p::r=>by
  simp only [wB,eE];split
  ·rename_i h
   rw [qQ k n r]
   by_cases hp:p.1=n
   ·subst hp;rw [if_pos h,if_pos h]
   ·rw [if_neg hp]
  ·rename_i h
   simp only [eE,qQ k n r]
   by_cases hp:p.1=n
   ·subst hp;rw [if_pos rfl,if_neg h,if_pos rfl]
   ·rw [if_neg hp,if_neg hp]
theorem qR (n:Nat) (v:aB) (m:Nat):∀l:List (Nat×aB),iW (jd l n v) m=if m=n then some v else iW l m
 |[]=>by simp only [jd,iW];by_cases h:n=m<;>simp [h,eq_comm]
 |p::r=>by
  simp only [jd];split
  ·simp only [iW]
   by_cases h:n=m
   ·simp [h]
   ·rw [if_neg h,if_neg (Ne.symm h)]
  ·split
   ·rename_i h1 h2
    simp only [iW]
    by_cases h:n=m
    ·simp [h]
    ·rw [if_neg h,if_neg (Ne.symm h),if_neg (by omega)]
   ·rename_i h1 h2
    simp only [iW,qR n v m r]
    by_cases h:p.1=m
    ·rw [if_pos h,if_pos h,if_neg (by omega)]
    ·rw [if_neg h,if_neg h]
theorem kG {n:Nat} {v:aB} {p:Nat×aB}:∀ {l:List (Nat×aB)},p∈jd l n v→p=(n,v)∨p∈l
 |[],h=>by simpa [jd]using h
 |q::r,h=>by
  simp only [jd]at h;split at h
  ·rcases ao.1 h with h|h
   ·exact .inl h
   ·exact .inr h
  ·split at h
   ·rcases ao.1 h with h|h
    ·exact .inl h
    ·exact .inr (au _ h)
   ·rcases ao.1 h with h|h
    ·exact .inr (h ▸ aA ..)
    ·rcases kG h with h|h
     ·exact .inl h
     ·exact .inr (au _ h)
theorem uz {n:Nat} {v:aB}:∀ {l:List (Nat×aB)},(l.map bv).Pairwise (· < ·)→((jd l n v).map bv).Pairwise (· < ·)
 |[],_=>by simp [jd]
 |p::r,h=>by
  have h0:=h;simp only [aL,bS]at h;simp only [jd];split
  ·rename_i h1
   rw [aL,bS];refine⟨fun k hk=> ?_,h0⟩;rw [aL]at hk;rcases ao.1 hk with e|e
   ·omega
   ·have:=h.1 k e;omega
  ·split
   ·rename_i h1 h2
    rw [aL,bS];exact⟨fun k hk=>by have:=h.1 k hk;omega,h.2⟩
   ·rename_i h1 h2
    rw [aL,bS];refine⟨fun k hk=> ?_,uz h.2⟩;obtain⟨q,hq,rfl⟩:=aS.1 hk;rcases kG hq with e|e
    ·rw [e];show p.1<n;omega
    ·exact h.1 _ (cX e)
theorem iF {l:List (Nat×aB)} {n:Nat} {v:aB} (h:iW l n=some v):(n,v)∈l:=by
 induction l with
 |nil=>cases h
 |cons p r ih=>
  simp only [iW]at h;split at h
  ·rename_i hp
   cases h;subst hp;exact aA ..
  ·exact au _ (ih h)
theorem jl:∀ {l:List (Nat×aB)},(l.map bv).Nodup→∀ {p:Nat×aB},p∈l→iW l p.1=some p.2
 |q::r,hn,p,h=>by
  simp only [aL,dN]at hn;simp only [iW];rcases ao.1 h with e|e
  ·subst e;rw [if_pos rfl]
  ·rw [if_neg (fun e2=>hn.1 (by rw [e2];exact cX e))]
   exact jl hn.2 e
theorem jh {l:List (Nat×aB)} (h:(l.map bv).Pairwise (· < ·)):(l.map bv).Nodup:=h.imp fun h=>Nat.ne_of_lt h
theorem iO (o:Nat):∀l:List (Nat×aB),l.lookup o=iW l o
 |[]=>rfl
 |p::r=>by
  simp only [eH,iW]
  by_cases h:o=p.1
  ·rw [if_pos h.symm];simp [h]
  ·have:(o==p.1)=false:=by simpa using h
   rw [this,if_neg (Ne.symm h)];exact iO o r
theorem jB (lo hi o:Nat):∀l:List (Nat×aB),iW (bC lo hi l) o=if lo≤o∧o<hi then none else(iW l o).map (aB.purge lo hi)
 |[]=>by simp [bC,iW]
 |p::r=>by
  simp only [bC,iW];split
  ·rename_i hp
   rw [jB lo hi o r]
   by_cases h:p.1=o
   ·subst h;rw [if_pos hp,if_pos hp]
   ·rw [if_neg h]
  ·rename_i hp
   simp only [iW,jB lo hi o r]
   by_cases h:p.1=o
   ·subst h;rw [if_pos rfl,if_neg hp,if_pos rfl];rfl
   ·rw [if_neg h,if_neg h]
theorem vB {lo hi:Nat} {l:List (Nat×aB)} (h:(l.map bv).Pairwise (· < ·)):((bC lo hi l).map bv).Pairwise (· < ·):=by rw [eU];exact h.filter _
theorem kH {n t:Nat}:∀ {l:List Nat},t∈nh l n↔t=n∨t∈l
 |[]=>by simp [nh]
 |p::r=>by
  simp only [nh];split
  ·simp
  ·split
   ·rename_i h;subst h;simp
   ·simp only [ao,kH]
    constructor
    ·rintro(h|h|h)
     ·exact .inr (.inl h)
     ·exact .inl h
     ·exact .inr (.inr h)
    ·rintro(h|h|h)
     ·exact .inr (.inl h)
     ·exact .inl h
     ·exact .inr (.inr h)
theorem qz {lo hi:Nat} {o:aB} (h:o.wf=true):(o.purge lo hi).wf=true:=by cases o<;>simpa [aB.purge,aB.wf]using h
def CSt.st (N:Nat) (c:CSt):St:=⟨(cg N).map c.get,c.ob,c.tk⟩
structure Inv (N:Nat) (c:CSt):Prop where
 dom:∀p∈c.tm,p.1<N
 so:(c.ob.map bv).Pairwise (· < ·)
 wf:∀p∈c.ob,p.2.wf=true
structure Sim (N:Nat) (c:CSt) (s:St):Prop where
 inv:Inv N c
 tm:s.tm=(cg N).map c.get
 look:∀o,s.look o=c.look o
 tk:∀t,t∈s.tk↔t∈c.tk
variable {N : Nat} {c : CSt} {s : St}
theorem Inv.get (h:Inv N c) {n:Nat} (hn:N≤n):c.get n= .undef:=su fun p hp e=>by have:=h.dom p hp;omega
theorem Sim.of (h:Inv N c):Sim N c (c.st N):=⟨h,rfl,fun o=>iO o c.ob,fun _=>Iff.rfl⟩
theorem Sim.get (h:Sim N c s) (n:Nat):s.get n=c.get n:=by
 unfold St.get;rw [h.tm,aa,aJ];rcases bR n N with hn|hn
 ·rw [cy hn];rfl
 ·rw [ky (by simpa using hn),h.inv.get hn];rfl
theorem Sim.ev (h:Sim N c s) (a:Arg):s.ev a=c.ev a:=by
 cases a with
 |t n=>exact h.get n
 |c v=>rfl
 |f g=>rfl
theorem Sim.evL (h:Sim N c s) (l:List Arg):Sy.evL c l=l.map s.ev:=by
 induction l with
 |nil=>rfl
 |cons a r ih=>simp only [Sy.evL,aL,ih,h.ev]
theorem Sim.lookmem (h:Sim N c s) {o:Nat} {ob:aB} (hl:c.look o=some ob):ob.wf=true:=h.inv.wf _ (iF hl)
theorem Sim.rows (h:Sim N c s) {o sz:Nat} {xs:List (List SV)} (hl:c.look o=some (.arr sz xs)):∀x∈xs,x.length=sz:=by have:=h.lookmem hl;simpa [aB.wf]using this
theorem Inv.put (h:Inv N c) {d:Option Nat} (hd:∀k,d=some k→k<N) (v:SV):Inv N (c.put d v):=by
 cases d with
 |none=>exact h
 |some k=>
  refine⟨fun p hp=> ?_,h.so,h.wf⟩;rcases mS hp with e|e
  ·rw [e];exact hd k rfl
  ·exact h.dom p e
theorem gQ (c:CSt) (k:Nat) (v:SV) (n:Nat):(c.put (some k) v).get n=if n=k then v else c.get n:=mT k v n c.tm
theorem Sim.put (h:Sim N c s) {d:Option Nat} (hd:∀k,d=some k→k<N) (v:SV):Sim N (c.put d v) (s.put d v):=by
 cases d with
 |none=>exact h
 |some k=>
  refine⟨h.inv.put hd v, ?_,h.look,h.tk⟩;show s.tm.set k v=_;rw [h.tm];apply List.ext_getElem?;intro i;rw [jO,aJ,aJ];rcases bR i N with hi|hi
  ·rw [cy hi]
   simp only [bf,gQ,aQ,List.length_range]
   by_cases hk:k=i
   ·rw [if_pos hk,if_pos (by omega),if_pos hk.symm]
   ·rw [if_neg hk,if_neg (Ne.symm hk)]
  ·rw [ky (l:=cg N) (by simpa using hi)]
   have:=hd k rfl;rw [if_neg (by omega)];rfl
theorem bL {α:Type} {p:Prop} [Decidable p] {v u:α} (h:gd p v=some u):p∧v=u:=by
 unfold gd at h;split at h
 ·rename_i hp;cases h;exact⟨hp,rfl⟩
 ·cases h
theorem Gx {op:BinOp} {k:IntKind} {a b:Int} {v:SV} (h:xZ op k a b=some v) (hs:np op=false):∃p,TF op k a b=some (p,v)∧p:=by
 cases op<;>simp only [xZ]at h<;>first
  |(cases hs;done)
  |(obtain⟨h1,rfl⟩:=bL h;exact⟨_,rfl,h1⟩)
  |(cases h;exact⟨True,rfl,trivial⟩)
theorem Uy {op:BinOp} {a b v:SV} (h:Dk op a b=some v):∃p,yk op a b=some (p,v)∧p:=by
 unfold Dk at h;split at h
 ·rename_i k a k' b
  split at h
  ·rename_i hc
   by_cases hs:np op=true
   ·cases op<;>first
     |(cases hs;done)
     |(simp only [xZ]at h;obtain⟨h1,rfl⟩:=bL h;exact⟨_,rfl,h1⟩)
   ·have hs':np op=false:=by simpa using hs
    have hk:k=k':=hc.resolve_left hs;obtain⟨p,h1,h2⟩:=Gx h hs';refine⟨p, ?_,h2⟩;subst hk;cases op<;>first|(cases hs';done)|(simp only [yk,if_true];exact h1)
  ·cases h
 ·rename_i a b
  show ∃p,ES op a b=some (p,v)∧p
  cases op<;>simp only [yF]at h<;>first
   |(cases h;done)
   |(obtain⟨h1,rfl⟩:=bL h;exact⟨_,rfl,h1⟩)
   |(cases h;exact⟨True,rfl,trivial⟩)
 ·rename_i a b
  show ∃p,UV op a b=some (p,v)∧p
  cases op<;>simp only [QX]at h<;>first
   |(cases h;done)
   |(obtain⟨h1,rfl⟩:=bL h;exact⟨_,rfl,h1⟩)
   |(cases h;exact⟨True,rfl,trivial⟩)
 ·cases h
theorem vX (hS:Sim N c s) {n:Nat} {ag:Bool} {u v:SV} (h:lZ c n ag u=some v):∃p,fM s n ag u=some (p,v)∧p:=by
 cases u with
 |pp cs=>obtain⟨h1,rfl⟩:=bL h;exact⟨_,rfl,h1⟩
 |ptr o off=>
  simp only [lZ]at h;simp only [fM,hS.look];split at h
  ·rename_i cs hl;rw [hl];obtain⟨h1,rfl⟩:=bL h;exact⟨_,rfl,h1⟩
  ·rename_i sz xs hl;rw [hl];obtain⟨⟨h1,h2⟩,rfl⟩:=bL h;subst h1;exact⟨_,rfl,h2,hS.rows hl⟩
  ·rename_i l hl;rw [hl];obtain⟨⟨h1,h2⟩,rfl⟩:=bL h;subst h1;exact⟨_,rfl,h2⟩
  ·cases h
 |ap o sz i j=>
  simp only [lZ]at h;simp only [fM,hS.look];split at h
  ·rename_i sz' xs hl
   rw [hl];obtain⟨⟨h1,h2,h3⟩,rfl⟩:=bL h;refine⟨_,rfl,h1,h2,h3, ?_⟩;rw [aa,ab h2,h1];exact hS.rows hl _ (aT _)
  ·rename_i l hl;rw [hl];obtain⟨h1,rfl⟩:=bL h;exact⟨_,rfl,h1⟩
  ·cases h
 |_=>cases h
theorem nl (hS:Sim N c s) (x:Option Arg) (n:Int):hJ s x n=kD c x n:=by
 cases x with
 |none=>rfl
 |some a=>simp only [hJ,kD,hS.ev]
theorem AM (hS:Sim N c s) {sz:Nat} {u v:SV} {lo hi mx:Option Arg} (h:oh c sz u lo hi mx=some v):∃p,iu s sz u lo hi mx=some (p,v)∧p:=by
 cases u with
 |byt l t=>
  simp only [oh]at h;simp only [iu,nl hS];split at h<;>try (cases h;done)
  rename_i a b m h1 h2 h3;rw [h1,h2,h3];obtain⟨h4,rfl⟩:=bL h;exact⟨_,rfl,h4⟩
 |lst sz' l t=>
  simp only [oh]at h;simp only [iu,nl hS];split at h<;>try (cases h;done)
  rename_i a b m h1 h2 h3;rw [h1,h2,h3];obtain⟨h4,rfl⟩:=bL h;exact⟨_,rfl,h4⟩
 |psl o sz' off n cap=>
  cases cap with
  |none=>
   simp only [oh]at h;simp only [iu,nl hS];split at h<;>try (cases h;done)
   rename_i a b h1 h2;rw [h1,h2];obtain⟨h4,rfl⟩:=bL h;exact⟨_,rfl,h4⟩
  |some cap=>
   simp only [oh]at h;simp only [iu,nl hS];split at h<;>try (cases h;done)
   rename_i a b m h1 h2 h3;rw [h1,h2,h3];obtain⟨h4,rfl⟩:=bL h;exact⟨_,rfl,h4⟩
 |_=>cases h
theorem nY (hS:Sim N c s) {u:SV} {l:List UInt8} (h:eW c u=some l):∃p,bytesOf s u=some (p,l)∧p:=by
 cases u with
 |byt l t=>cases h;exact⟨True,rfl,trivial⟩
 |str l=>cases h;exact⟨True,rfl,trivial⟩
 |psl o sz off n cap=>
  simp only [eW]at h;simp only [bytesOf,hS.look];split at h
  ·rename_i l' hl;rw [hl];obtain⟨h1,rfl⟩:=bL h;exact⟨_,rfl,h1⟩
  ·cases h
 |_=>cases h
theorem qE (hS:Sim N c s) {u:SV} {sz:Nat} {l:List (List SV)} (h:i9 c sz u=some l):∃p,eL s sz u=some (p,l)∧p:=by
 cases u with
 |lst sz' l t=>obtain⟨h1,rfl⟩:=bL h;exact⟨_,rfl,h1⟩
 |psl o sz' off n cap=>
  simp only [i9]at h;simp only [eL,hS.look];split at h
  ·rename_i sz'' xs hl
   rw [hl];obtain⟨⟨h1,h2,h3⟩,rfl⟩:=bL h;exact⟨_,rfl,h1,h2,h3,by rw [h2];exact hS.rows hl⟩
  ·cases h
 |_=>cases h
theorem xhr (hS:Sim N c s) (ps:List (Nat×Nat×Arg)):psC c ps=ps.map fun(o,n,x)=>(o,n,s.ev x):=by
 induction ps with
 |nil=>rfl
 |cons p r ih=>obtain⟨o,n,x⟩:=p;simp only [psC,aL,ih,hS.ev]
theorem R2 (hS:Sim N c s) {so:SOp} {v:SV} (h:cD c so=some v):∃p,val s so=some (p,v)∧p:=by
 cases so with
 |mov x=>cases h;exact⟨True,by simp only [val,hS.ev],trivial⟩
 |build z ps=>simp only [cD,xhr hS]at h;obtain⟨l,h1,rfl⟩:=ai.1 h;exact⟨True,by simp only [val,h1,bf],trivial⟩
 |lit sz xs=>simp only [cD,hS.evL]at h;obtain⟨l,h1,rfl⟩:=ai.1 h;exact⟨True,by simp only [val,h1,bf],trivial⟩
 |litB xs=>simp only [cD,hS.evL]at h;obtain⟨l,h1,rfl⟩:=ai.1 h;exact⟨True,by simp only [val,h1,bf],trivial⟩
 |load n ag a=>simp only [val,hS.ev];exact vX hS h
 |nchk x=>simp only [cD]at h;simp only [val,hS.ev];cases hx:c.ev x<;>rw [hx]at h<;>first|(cases h;done)|(cases h;exact⟨True,rfl,trivial⟩)
 |bin op x y=>simp only [val,hS.ev];exact Uy h
 |beq ne x y=>
  simp only [cD]at h;simp only [val,hS.ev];split at h<;>try (cases h;done)
  rename_i a b h1 h2;cases h;rw [h1,h2];exact⟨True,rfl,trivial⟩
 |eqS ne ts x y=>
  simp only [cD]at h;simp only [val,hS.ev];split at h<;>try (cases h;done)
  rename_i a b h1 h2;obtain⟨l,h3,rfl⟩:=ai.1 h;rw [h1,h2];exact⟨True,by simp only [h3,bf],trivial⟩
 |un op x=>simp only [cD]at h;exact⟨True,by simp only [val,hS.ev,h,bf],trivial⟩
 |toInt k x=>simp only [cD]at h;exact⟨True,by simp only [val,hS.ev,h,bf],trivial⟩
 |toStr x=>
  simp only [cD]at h;simp only [val,hS.ev];split at h<;>try (cases h;done)
  all_goals
   rename_i h1;cases h;rw [h1];exact⟨True,rfl,trivial⟩
 |slid x=>simp only [cD]at h;cases h
 |newB x=>simp only [cD]at h;cases h
 |isni ne x=>
  simp only [cD]at h;simp only [val,hS.ev];split at h<;>try (cases h;done)
  rename_i h1;cases h;rw [h1];exact⟨True,rfl,trivial⟩
 |s2b x=>
  simp only [cD]at h;simp only [val,hS.ev];split at h<;>try (cases h;done)
  rename_i l h1;cases h;rw [h1];exact⟨True,rfl,trivial⟩
 |b2s x=>
  simp only [cD]at h;simp only [val,hS.ev];cases hx:c.ev x with
  |byt l t=>rw [hx]at h;cases h;exact⟨True,rfl,trivial⟩
  |psl o sz off n cap=>
   rw [hx]at h;simp only [eW]at h;simp only [uY,hS.look];obtain⟨l,h1,rfl⟩:=ai.1 h;split at h1
   ·rename_i l' hl;rw [hl];obtain⟨h2,rfl⟩:=bL h1;exact⟨_,rfl,h2⟩
   ·cases h1
  |_=>rw [hx]at h;cases h
 |mkfn f a b=>simp only [cD,hS.evL]at h;cases h;exact⟨True,rfl,trivial⟩
 |slcS x lo hi=>
  simp only [cD]at h;simp only [val,hS.ev];split at h<;>try (cases h;done)
  rename_i l hx;rw [hx];simp only [nl hS];split at h<;>try (cases h;done)
  rename_i a b h1 h2;rw [h1,h2];obtain⟨h4,rfl⟩:=bL h;exact⟨_,rfl,h4⟩
 |slcL sz x lo hi mx=>simp only [val,hS.ev];exact AM hS h
 |slcA len sz x lo hi mx=>
  simp only [cD]at h;simp only [val,hS.ev];split at h<;>try (cases h;done)
  rename_i o off hx;split at h<;>try (cases h;done)
  rename_i ho;subst ho;rw [hx];exact AM hS h
 |faddr off x=>simp only [cD]at h;simp only [val,hS.ev];cases hx:c.ev x<;>rw [hx]at h<;>first|(cases h;done)|(cases h;exact⟨True,rfl,trivial⟩)
 |fld off n ag x=>
  simp only [cD]at h;simp only [val,hS.ev];split at h<;>try (cases h;done)
  rename_i cs hx;rw [hx];obtain⟨h4,rfl⟩:=bL h;exact⟨_,rfl,h4⟩
 |iaddrL sz x i=>
  simp only [cD]at h;simp only [val,hS.ev];split at h<;>try (cases h;done)
  all_goals
   rename_i h1 h2;rw [h1,h2];obtain⟨h4,rfl⟩:=bL h;exact⟨_,rfl,h4⟩
 |iaddrA len sz x i=>
  simp only [cD]at h;simp only [val,hS.ev,hS.look];split at h<;>try (cases h;done)
  ·rename_i o off n h1 h2
   rw [h1,h2];simp only;split at h<;>try (cases h;done)
   ·rename_i cs hl
    rw [hl];obtain⟨h4,rfl⟩:=bL h;exact⟨_,rfl,h4⟩
   ·rename_i ob hno hl
    rw [hl];obtain⟨⟨h4,h5⟩,rfl⟩:=bL h;cases ob with
    |rc cs=>exact absurd rfl (hno cs)
    |_=>simp only [h4,if_true];exact⟨_,rfl,h5⟩
  ·rename_i cs n h1 h2
   rw [h1,h2];obtain⟨h4,rfl⟩:=bL h;exact⟨_,rfl,h4⟩
 |idxA len sz ag x i=>
  simp only [cD]at h;simp only [val,hS.ev];split at h<;>try (cases h;done)
  rename_i h1 h2;rw [h1,h2];obtain⟨h4,rfl⟩:=bL h;exact⟨_,rfl,h4⟩
 |idxS x i=>
  simp only [cD]at h;simp only [val,hS.ev];split at h<;>try (cases h;done)
  rename_i h1 h2;rw [h1,h2];obtain⟨h4,rfl⟩:=bL h;exact⟨_,rfl,h4⟩
 |ext x i=>
  simp only [cD]at h;simp only [val,hS.ev];split at h<;>try (cases h;done)
  rename_i vs hx;rw [hx];obtain⟨h4,rfl⟩:=bL h;exact⟨_,rfl,h4⟩
 |len b x=>simp only [cD]at h;obtain⟨n,h1,rfl⟩:=ai.1 h;exact⟨True,by simp only [val,hS.ev,h1],trivial⟩
 |lenC n=>cases h;exact⟨True,rfl,trivial⟩
 |cap x=>
  simp only [cD]at h;simp only [val,hS.ev];cases hx:c.ev x with
  |psl o sz off n m=>cases m<;>rw [hx]at h<;>cases h;exact⟨True,rfl,trivial⟩
  |byt l t=>rw [hx]at h;simp only at h;split at h<;>cases h;rename_i ht;subst ht;exact⟨True,rfl,trivial⟩
  |lst sz l t=>rw [hx]at h;simp only at h;split at h<;>cases h;rename_i ht;subst ht;exact⟨True,rfl,trivial⟩
  |_=>rw [hx]at h;cases h
 |mini x y=>
  simp only [cD]at h;simp only [val,hS.ev];split at h<;>try (cases h;done)
  rename_i h1 h2;rw [h1,h2];simp only;split at h<;>cases h;rename_i hk;exact⟨True,by rw [if_pos hk],trivial⟩
 |maxi x y=>
  simp only [cD]at h;simp only [val,hS.ev];split at h<;>try (cases h;done)
  rename_i h1 h2;rw [h1,h2];simp only;split at h<;>cases h;rename_i hk;exact⟨True,by rw [if_pos hk],trivial⟩
 |_=>cases h
end Go.Sy
namespace Go.Sy
variable [ba]
variable {P : Program} {C : Ctx} {x : Sit} {a : Act} {w : World} {o : Oper} {so : SOp} {N : Nat} {c c' : CSt} {s : St} {d : Option Nat}
def M (C:Ctx) (N:Nat) (c:CSt):Act→World→Prop:=qx C (Sim N c)
theorem Sim.purge (h:Sim N c s) (lo hi:Nat):Sim N (c.purge lo hi) (s.purge lo hi):=by
 refine⟨⟨fun p hp=> ?_,vB h.inv.so,fun p hp=> ?_⟩, ?_,fun o=> ?_,fun t=> ?_⟩
 ·obtain⟨q,hq,e⟩:=jy hp
  rw [e];exact h.inv.dom q hq
 ·obtain⟨_,ob,h1,h2⟩:=cC hp
  rw [h2];exact qz (h.inv.wf _ h1)
 ·show SV.purgeL lo hi s.tm=_
  rw [h.tm,du,List.map_map];apply cY;intro i _;exact(gy lo hi i c.tm).symm
 ·show(bC lo hi s.ob).lookup o=iW (bC lo hi c.ob) o
  have:=h.look o;unfold St.look CSt.look at this;rw [iO]at this ⊢;rw [jB,jB,this]
 ·show t∈cK lo hi s.tk↔t∈cK lo hi c.tk
  rw [bt,bt,h.tk]
theorem Sim.addO (h:Sim N c s) (k:Nat) {ob:aB} (hw:ob.wf=true):Sim N ⟨c.tm,jd c.ob k ob,c.tk⟩ (s.addO k ob):=by
 refine⟨⟨h.inv.dom,uz h.inv.so,fun p hp=> ?_⟩,h.tm,fun o=> ?_,h.tk⟩
 ·rcases kG hp with e|e
  ·rw [e];exact hw
  ·exact h.inv.wf p e
 ·show((k,ob)::s.ob).lookup o=iW (jd c.ob k ob) o
  have:=h.look o;unfold St.look CSt.look at this;rw [qR];simp only [eH]
  by_cases he:o=k
  ·subst he;simp
  ·have:(o==k)=false:=by simpa using he
   rw [this,if_neg he];exact h.look o
theorem ox (k:Nat) (ob:aB) (o:Nat):∀l:List (Nat×aB),(Sy.setO k ob l).lookup o=if o=k∧(l.lookup k).isSome=true then some ob else l.lookup o
 |[]=>by simp [Sy.setO]
 |p::r=>by
  simp only [Sy.setO]
  by_cases hp:p.1=k
  ·rw [if_pos hp]
   subst hp;simp only [eH]
   by_cases ho:o=p.1
   ·subst ho;simp
   ·have:(o==p.1)=false:=by simpa using ho
    simp [this,ho]
  ·rw [if_neg hp]
   have h1:(k==p.1)=false:=by simpa using Ne.symm hp
   simp only [eH,h1,ox k ob o r]
   by_cases ho:o=p.1
   ·subst ho;simp [hp]
   ·have:(o==p.1)=false:=by simpa using ho
    simp [this]
theorem Sim.setO (h:Sim N c s) {k:Nat} {ob:aB} (hl:(c.look k).isSome=true) (hw:ob.wf=true):Sim N ⟨c.tm,jd c.ob k ob,c.tk⟩ (s.setO k ob):=by
 refine⟨⟨h.inv.dom,uz h.inv.so,fun p hp=> ?_⟩,h.tm,fun o=> ?_,h.tk⟩
 ·rcases kG hp with e|e
  ·rw [e];exact hw
  ·exact h.inv.wf p e
 ·show(Sy.setO k ob s.ob).lookup o=iW (jd c.ob k ob) o
  rw [qR,ox]
  have h1:(s.ob.lookup k).isSome=true:=by have:=h.look k;unfold St.look at this;rw [this];exact hl
  by_cases he:o=k
  ·rw [if_pos ⟨he,h1⟩,if_pos he]
  ·rw [if_neg (fun e=>he e.1),if_neg he];exact h.look o
theorem Sim.tks (h:Sim N c s) {l k:List Nat} (hlk:∀t,t∈l↔t∈k):Sim N ⟨c.tm,c.ob,k⟩ ⟨s.tm,s.ob,l⟩:=⟨⟨h.inv.dom,h.inv.so,h.inv.wf⟩,h.tm,h.look,hlk⟩
theorem Gm {t:Tok} {l k:List Nat} (h:∀t,t∈l↔t∈k) (n:Nat):n∈t.eat l↔n∈t.eat k:=by
 cases t with
 |id t=>simp only [Tok.eat,bt,h]
 |_=>exact h n
structure uw (e:fD) (f:Eff):Prop where
 val:f.val=e.val
 wr:f.wr=e.wr
 new:f.new=e.new
 eat:f.eat=e.eat
 tok:f.tok=e.tok
structure sW (c:CSt) (e:fD):Prop where
 new:∀ob,e.new=some ob→ob.wf=true
 wr:e.wr=[]∨∃k ob,e.wr=[(k,ob)]∧(c.look k).isSome=true∧ob.wf=true
theorem Sim.app (h:Sim N c s) (hd:∀k,d=some k→k<N) {e:fD} {f:Eff} (hs:uw e f) (hg:sW c e):Sim N (c.app d e) (s.app d f):=by
 unfold CSt.app St.app;rw [hs.new,hs.tok,hs.val,hs.wr,hs.eat];cases hn:e.new with
 |some ob=>exact((h.purge _ _).addO _ (qz (hg.new ob hn))).put hd _
 |none=>
  cases ht:e.tok with
  |true=>refine Sim.put (c:=⟨_,_,_⟩) ?_ hd _;refine((h.purge (d.getD 0+100) (d.getD 0+100+1)).tks (fun t=> ?_));rw [kH,ao,bt,bt,Gm h.tk]
  |false=>
   rcases hg.wr with hw|⟨k,ob,hw,h1,h2⟩
   ·rw [hw];exact h.put hd _
   ·rw [hw];exact(h.setO h1 h2).put hd _
theorem uw.v (v:SV) (p:Prop):uw {val:=v} {pre:=p,val:=v}:=⟨rfl,rfl,rfl,rfl,rfl⟩
theorem sW.v (v:SV):sW c {val:=v}:=⟨fun ob h=>(by cases h),.inl rfl⟩
theorem xfY (n:Nat) (z:List SV):(aB.arr z.length (am n z)).wf=true:=by simp only [aB.wf,aM,decide_eq_true_eq];intro y hy;rw [(List.mem_replicate.1 hy).2]
theorem ln {sz:Nat} {xs:List (List SV)}:(aB.arr sz xs).wf=true↔∀y∈xs,y.length=sz:=by simp only [aB.wf,aM,decide_eq_true_eq]
theorem wE (sz:Nat):∀(m:Nat) (v:List SV),v.length=m*sz→∀y∈jC sz m v,y.length=sz
 |0,_,_,y,hy=>by cases hy
 |m+1,v,h,y,hy=>by
  rw [dR]at h;simp only [jC]at hy;rcases ao.1 hy with rfl|hy
  ·rw [ay];omega
  ·exact wE sz m (v.drop sz) (by rw [aF];omega) y hy
theorem D0 {sz:Nat} {xs:List (List SV)} {i j n:Nat} {v:List SV} (h:∀y∈xs,y.length=sz) (hi:i<xs.length) (hj:j+n≤sz) (hv:v.length=n):∀y∈fy sz xs i j n v,y.length=sz:=by
 intro y hy;unfold fy at hy;split at hy
 ·rename_i hc
  rcases List.mem_or_eq_of_mem_set hy with h1|h1
  ·exact h y h1
  ·rw [h1,hv];exact hc.2
 ·rcases List.mem_or_eq_of_mem_set hy with h1|h1
  ·exact h y h1
  ·have:(xs.getD i []).length=sz:=by
    rw [aa,ab hi];exact h _ (aT _)
   rw [h1];simp only [ah,ay,aF,this,hv];omega
theorem r6 (h:Sim N c s) {t:Tok} (hr:t.readyC c=true):t.ready s=true:=by
 cases t with
 |no=>cases hr
 |clip=>rfl
 |id t=>simp only [Tok.readyC,dn,decide_eq_true_eq]at hr;simp only [Tok.ready,dn,decide_eq_true_eq];exact(h.tk t).2 hr
theorem Sj (hM:aI C x s a w) {y:Arg} (hy:y.isT=true):Rep x (s.ev y) (match y with| .t n=>a.tmps.getD n Go.undef|_=>Go.undef):=by
 cases y with
 |t n=>exact hM.slot n
 |_=>cases hy
theorem wu (h:Sim N c s) {e:fD} (he:dJ c d so=some e) (hp:∀q y z,so≠ .pick q y z) (hn:∀ne q,so≠ .isnil ne q) (hcp:∀sz q y,so≠ .cpy sz q y):∃f,eff s d so=some f∧f.pre∧uw e f∧sW c e:=by
 have plain:∀ {so:SOp},dJ c d so=fg (cD c so)→(eff s d so=match val s so with|some (p,v)=>some {pre:=p,val:=v}|none=>none)→dJ c d so=some e→∃f,eff s d so=some f∧f.pre∧uw e f∧sW c e:=by
  intro so h1 h2 h3;rw [h1]at h3;cases hv:cD c so with
  |none=>rw [hv]at h3;cases h3
  |some v=>rw [hv]at h3;cases h3;obtain⟨p,h4,h5⟩:=R2 h hv;exact⟨{pre:=p,val:=v},by rw [h2,h4],h5,uw.v v p,sW.v v⟩
 cases so with
 |pick q y z=>exact absurd rfl (hp q y z)
 |isnil ne q=>exact absurd rfl (hn ne q)
 |call _ _=>cases he
 |newB _=>cases he
 |slid _=>cases he
 |new ob=>
  simp only [dJ]at he;split at he<;>try (cases he;done)
  obtain⟨h1,rfl⟩:=bL he;exact⟨_,rfl,trivial,⟨rfl,rfl,rfl,rfl,rfl⟩,⟨fun ob' e=>(by cases e;exact h1),.inl rfl⟩⟩
 |box q=>simp only [dJ]at he;split at he<;>cases he;exact⟨_,rfl,trivial,⟨rfl,rfl,by simp only [h.ev],rfl,rfl⟩,⟨fun ob' e=>(by cases e;rfl),.inl rfl⟩⟩
 |mk z bytes n m=>
  simp only [dJ]at he;simp only [eff,h.ev];split at he<;>try (cases he;done)
  rename_i h1 h2;rw [h1,h2];obtain⟨h1,rfl⟩:=bL he;exact⟨_,rfl,h1,⟨rfl,rfl,rfl,rfl,rfl⟩,⟨fun ob' e=>(by cases e;exact xfY _ z),.inl rfl⟩⟩
 |mkB n m=>
  simp only [dJ]at he;simp only [eff,h.ev];split at he<;>try (cases he;done)
  rename_i h1 h2;rw [h1,h2];obtain⟨h1,rfl⟩:=bL he;exact⟨_,rfl,h1,⟨rfl,rfl,rfl,rfl,rfl⟩,⟨fun ob' e=>(by cases e;rfl),.inl rfl⟩⟩
 |store n q y=>
  simp only [dJ]at he;simp only [eff,h.ev];split at he<;>try (cases he;done)
  rename_i hdef;rw [hdef];simp only;unfold jR at he;unfold ii;split at he
  ·rename_i o' off hq
   rw [hq];simp only [h.look];split at he<;>try (cases he;done)
   ·rename_i cs hl
    rw [hl];obtain⟨h1,rfl⟩:=bL he;exact⟨_,rfl,h1,⟨rfl,rfl,rfl,rfl,rfl⟩,⟨fun ob' e=>(by cases e),.inr ⟨_,_,rfl,by rw [hl];rfl,rfl⟩⟩⟩
   ·rename_i sz xs hl
    rw [hl];obtain⟨⟨h1,h2,h3,h4⟩,rfl⟩:=bL he
    exact⟨_,rfl,⟨h1,h2,h3,h4⟩,⟨rfl,rfl,rfl,rfl,rfl⟩,
     ⟨fun ob' e=>(by cases e),.inr ⟨_,_,rfl,by rw [hl];rfl,ln.2 (wE sz _ _ (by rw [aQ];omega))⟩⟩⟩
   ·rename_i l hl
    rw [hl];simp only at he ⊢;split at he<;>try (cases he;done)
    rename_i l' hv;rw [hv];obtain⟨h1,rfl⟩:=bL he;exact⟨_,rfl,h1,⟨rfl,rfl,rfl,rfl,rfl⟩,⟨fun ob' e=>(by cases e),.inr ⟨_,_,rfl,by rw [hl];rfl,rfl⟩⟩⟩
  ·rename_i o' sz i j hq
   rw [hq];simp only [h.look];split at he<;>try (cases he;done)
   ·rename_i sz' xs hl
    rw [hl];obtain⟨⟨h1,h2,h3,h4,h5⟩,rfl⟩:=bL he
    exact⟨_,rfl,⟨h1,h2,h3,h4,by rw [h1];exact h.rows hl,h5⟩,⟨rfl,rfl,rfl,rfl,rfl⟩,
     ⟨fun ob' e=>(by cases e),.inr ⟨_,_,rfl,by rw [hl];rfl,ln.2 (by subst h1;exact D0 (h.rows hl) h2 h3 (by simpa using h4))⟩⟩⟩
   ·rename_i l hl
    rw [hl];simp only at he ⊢;split at he<;>try (cases he;done)
    rename_i b hv;rw [hv];obtain⟨h1,rfl⟩:=bL he;exact⟨_,rfl,h1,⟨rfl,rfl,rfl,rfl,rfl⟩,⟨fun ob' e=>(by cases e),.inr ⟨_,_,rfl,by rw [hl];rfl,rfl⟩⟩⟩
  ·cases he
 |app z bytes q y=>
  simp only [dJ]at he;simp only [eff,h.ev];split at he<;>try (cases he;done)
  split at he<;>try (cases he;done)
  ·rename_i l t hq
   rw [hq];obtain⟨l',h1,h2⟩:=Option.bind_eq_some_iff.1 he;obtain⟨p,h3,h4⟩:=nY h h1;obtain⟨⟨g1,g2,g3,g4⟩,rfl⟩:=bL h2;simp only [h3];exact⟨_,rfl,⟨h4,g1,g2,r6 h g3,g4⟩,⟨rfl,rfl,rfl,rfl,rfl⟩,⟨fun ob' e=>(by cases e),.inl rfl⟩⟩
  ·rename_i sz' l t hq
   rw [hq];obtain⟨l',h1,h2⟩:=Option.bind_eq_some_iff.1 he;obtain⟨p,h3,h4⟩:=qE h h1;obtain⟨⟨g1,g3,g4⟩,rfl⟩:=bL h2;simp only [h3];exact⟨_,rfl,⟨h4,g1,r6 h g3,g4⟩,⟨rfl,rfl,rfl,rfl,rfl⟩,⟨fun ob' e=>(by cases e),.inl rfl⟩⟩
 |cpy sz q y=>exact absurd rfl (hcp sz q y)
 |appM z bytes q y=>cases he
 |ovl q y=>cases he
 |_=>exact plain (nT rfl) rfl he
theorem T6 (P:Program) (h:Sim N c s) (hM:aI C x s a w) {e:fD} (he:dJ c d so=some e) (hp:∀q y z,so≠ .pick q y z) (hn:∀ne q,so≠ .isnil ne q):∃f,eff s d so=some f∧f.pre∧uw e f∧sW c e:=by
 by_cases hcp:∃sz q y,so= .cpy sz q y
 ·obtain⟨sz,q,y,rfl⟩:=hcp
  simp only [dJ]at he;simp only [eff,h.ev];split at he<;>try (cases he;done)
  rename_i o' sz' off n cap hq;rw [hq];simp only [h.look];split at he<;>try (cases he;done)
  ·rename_i l hl
   rw [hl];obtain⟨l',h1,h2⟩:=Option.bind_eq_some_iff.1 he;obtain⟨p,h3,h4⟩:=nY h h1;obtain⟨⟨g1,g2,g3⟩,rfl⟩:=bL h2;simp only [h3];exact⟨_,rfl,⟨h4,g1,g2,g3⟩,⟨rfl,rfl,rfl,rfl,rfl⟩,⟨fun ob' e=>(by cases e),.inr ⟨_,_,rfl,by rw [hl];rfl,rfl⟩⟩⟩
  ·rename_i sz'' xs hl
   rw [hl];obtain⟨l',h1,h2⟩:=Option.bind_eq_some_iff.1 he;obtain⟨p,h3,h4⟩:=qE h h1;obtain⟨⟨g0,g1,g2,g3⟩,rfl⟩:=bL h2;simp only [h3];have hrows:=h.rows hl;obtain⟨_,hl',_⟩:=mM (P:=P) hM (Sj hM g0) (by rw [h.ev];exact h3) h4;refine⟨_,rfl,⟨h4,g1,g2,g3,by rw [g2];exact hrows⟩,⟨rfl,rfl,rfl,rfl,rfl⟩,⟨fun ob' e=>(by cases e),.inr ⟨_,_,rfl,by rw [hl];rfl,ln.2 ?_⟩⟩⟩;intro r hr;rcases aj.1 hr with hr|hr
   ·rcases aj.1 hr with hr|hr
    ·rw [g2];exact hrows r (bH hr)
    ·exact hl' r (bH hr)
   ·rw [g2];exact hrows r (gV hr)
 ·exact wu h he hp hn (fun sz q y e=>hcp ⟨sz,q,y,e⟩)
theorem xkC (h:M C N c a w) (hr:bo P o=some so) (hd:∀k,o.dst=some k→k<N) (hc:o9 c o.dst (dJ c o.dst so)=some c') {K:Act→World→Prop} {Q:Exit→Act→World→Prop} (hK:∀a w,M C N c' a w→K a w):o.wp P a w K Q:=by
 obtain⟨x,s,hM,hS⟩:=h;cases he:dJ c o.dst so with
 |none=>rw [he]at hc;cases hc
 |some e=>
  rw [he]at hc;simp only [o9,av.injEq]at hc;subst hc
  by_cases hp:∃q y z,so= .pick q y z
  ·obtain⟨q,y,z,rfl⟩:=hp
   simp only [dJ]at he;split at he<;>cases he;rename_i t ht;have hd':=sI hM hr (t:=t) (by rw [hS.ev];exact ht);refine cA hd' (k:=Sim N (c.app o.dst {val:=iK t (c.ev y) (c.ev z)})) ?_ hK;have:(if t=true then s.ev y else s.ev z)=iK t (c.ev y) (c.ev z):=by rw [hS.ev,hS.ev];rfl
   rw [this];exact hS.put hd _
  ·by_cases hn:∃ne q,so= .isnil ne q
   ·obtain⟨ne,q,rfl⟩:=hn
    have key:∃b,b=ne∧cm P C o a w (s.put o.dst (.bool b)):=by
     refine qb hM hr (K:=fun b=>b=ne) ?_;rw [hS.ev];simp only [dJ]at he;split at he<;>try (cases he;done)
     ·rename_i l t hl
      obtain⟨h1,_⟩:=bL he;rw [hl];intro b hb;cases b
      ·cases ne<;>rfl
      ·exact absurd (hb rfl) h1
     ·rename_i sz l t hl
      obtain⟨h1,_⟩:=bL he;rw [hl];intro b hb;cases b
      ·cases ne<;>rfl
      ·exact absurd (hb rfl) h1
     ·rename_i hl
      rw [hl]
    obtain⟨b,rfl,hd'⟩:=key;refine cA hd' (k:=Sim N (c.app o.dst e)) ?_ hK
    have:e= {val:= .bool b}:=by
     simp only [dJ]at he;split at he
     ·obtain⟨_,h2⟩:=bL he;exact h2.symm
     ·obtain⟨_,h2⟩:=bL he;exact h2.symm
     ·exact(av.inj he).symm
     ·cases he
    rw [this];exact hS.put hd _
   ·obtain⟨f,h1,h2,h3,h4⟩:=T6 P hS hM he (fun q y z e=>hp ⟨q,y,z,e⟩) (fun ne q e=>hn ⟨ne,q,e⟩)
    exact cA (tW hM hr h1 h2) (k:=Sim N (c.app o.dst e)) (hS.app hd h3 h4) hK
end Go.Sy
