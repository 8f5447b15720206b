/- An engine that steps through Go code with symbolic values: sound by proof. No condition. -/
import Derived.Test.YtdafipacemgcoaaGreatDoorEcR
import Derived.LoopN
open Array renaming ext' → dV, getD → fK, getD_eq_getD_getElem? → bA, getElem?_eq_getElem → gS, getElem?_eq_some_iff → bX, getElem?_toList → cJ, length_toList → aO, replicate → dE
open Bool renaming and_eq_true → an, false_eq_true → aD, not_eq_true' → bZ, not_true → lQ, or_eq_true → b9
open List renaming Nodup → pf, Sublist → ka, all_cons → iZ, all_eq_true → aM, any_eq_true → tj, append_eq_nil_iff → ey, append_nil → bj, cons → md, cons_append → bG, contains_eq_mem → dn, drop_eq_getElem_cons → aX, drop_eq_nil_of_le → bE, filter_cons → iq, filter_eq_self → dI, flatten_append → cz, getD_cons_succ → bw, getD_cons_zero → bm, getD_eq_getElem?_getD → aa, getElem?_append_left → bK, getElem?_append_right → bN, getElem?_drop → bx, getElem?_eq_getElem → ab, getElem?_map → aJ, getElem?_range → cy, getElem?_set → jO, getElem?_take → bM, getElem_mem → aT, getElem_of_mem → bV, length_append → ah, length_cons → ax, length_eq_zero_iff → bJ, length_map → aQ, length_set → eZ, length_take → ay, map_append → bz, map_cons → aL, map_nil → bT, mem_append → aj, mem_cons → ao, mem_cons_of_mem → au, mem_cons_self → aA, mem_iff_getElem → lP, mem_map → aS, mem_map_of_mem → cX, mem_of_mem_take → bH, mem_range → dL, mem_singleton → aV, nil_append → bp, nodup_cons → dN, not_mem_nil → dX, pairwise_append → dY, pairwise_cons → bS, pairwise_iff_getElem → ip, pairwise_map → gE, range → cg, range' → jD, take_length → br
open Nat renaming add_assoc → fE, add_mul → bP, add_zero → eP, le_refl → aZ, le_trans → cu, lt_or_ge → bR, min_eq_left → dr, mod_eq_of_lt → yB, mul_comm → dv, mul_le_mul_right → bB, mul_one → dm, zero_add → cO
open Option renaming bind_some → cQ, getD_some → bg, ite_none_right_eq_some → aN, map_eq_some_iff → ai, map_some → bf, some → av
open Prod renaming fst → bv
open Go.Result renaming andThen_ok → al
open Go.Sem renaming run_bind → az, run_pure → aE
set_option linter.unusedVariables false
set_option linter.unusedSimpArgs false
set_option linter.unnecessarySimpa false
set_option linter.unusedSectionVars false
namespace Go.Sy
variable [ba]
variable {P : Program} {C : Ctx} {x : Sit} {a : Act} {w : World} {N : Nat} {c c' : CSt} {s : St}
theorem Sim.exact(h:Sim N c s) (hM:aI C x s a w):aI C x (c.st N) a w:=
 ⟨by show cn x ((cg N).map c.get) _;rw [←h.tm];exact hM.tm,hM.defers,hM.heap.only (fun p hp=>by have h1:=jl (jh h.inv.so) hp;have h2:s.look p.1=some p.2:=(h.look p.1).trans h1;exact cW h2) (jh h.inv.so) (fun t ht=>(h.tk t).2 ht)⟩
theorem M.slots (h:M C N c a w) (hi:Inv N c') (ho:c'.ob=c.ob) (ht:c'.tk=c.tk) (hg:∀i,c'.get i=c.get i∨c'.get i= .undef):M C N c' a w:=by
 obtain⟨x,s,hM,hS⟩:=h;have hE:=hS.exact hM;refine⟨x,c'.st N,⟨⟨?_,fun i hi'=> ?_⟩,hM.defers, ?_⟩,Sim.of hi⟩
 ·have:=hE.tm.1;simpa [CSt.st]using this
 ·have h1:=hE.tm.2 i (by simpa [CSt.st]using hi')
  have hiN:i<N:=by simpa [CSt.st]using hi'
  simp only [CSt.st,aa,aJ,cy hiN,bf,bg]at h1 ⊢;rcases hg i with e|e
  ·rw [e];exact h1
  ·rw [e];exact .undef _
 ·show cZ C x c'.ob c'.tk w
  rw [ho,ht];exact hE.heap
theorem Inv.kill (h:Inv N c) (l:List Nat):Inv N (c.kill l):=by
 cases l with
 |nil=>exact h
 |cons n r=>exact⟨fun p hp=>h.dom p (qJ hp),h.so,h.wf⟩
theorem M.kill (h:M C N c a w) (l:List Nat):M C N (c.kill l) a w:=by
 have hi:Inv N c:=by obtain⟨x,s,_,hS⟩:=h;exact hS.inv
 cases l with
 |nil=>exact h
 |cons n r=>
  refine h.slots (hi.kill _) rfl rfl fun i=> ?_
  have e:=qQ (n::r) i c.tm
  by_cases hc:(n::r).contains i=true
  ·exact .inr (e.trans (if_pos hc))
  ·exact .inl (e.trans (if_neg hc))
theorem M.purge (h:M C N c a w) (lo hi:Nat):M C N (c.purge lo hi) a w:=by obtain⟨x,s,hM,hS⟩:=h;exact⟨x,_,hM.purge lo hi,hS.purge lo hi⟩
theorem M.gc:∀ {l:List Nat} {c:CSt},M C N c a w→M C N (gcC c l) a w
 |[],_,h=>h
 |o::r,c,h=>by show M C N (gcC (c.purge o (o+1)) r) a w;exact M.gc (h.purge o (o+1))
theorem mC {o:Nat} {obj:aB} (cs:List SV):SV.pubL o obj cs=cs.map (SV.pub o obj):=by
 induction cs with
 |nil=>rfl
 |cons c r ih=>simp only [SV.pubL,aL,ih]
theorem Rep.pub {x x':Sit} {o:Nat} {obj:aB} (hβ:x'.β=x.β) (hτ:x'.τ=x.τ) (hG:∀b i u,x.G b i=some u→x'.G b i=some u)
 (hcell:∀k,k<obj.size→∃u,x'.G (x.β o) k=some u∧cS x'.G (obj.cell k) u) (hwf:obj.wf=true) {sv:SV} {v:Value} (h:Rep x sv v):Rep x' (sv.pub o obj) v:=by
 induction h with
 |undef v=>exact .undef v
 |dat s v h ht=>
  have:s.pub o obj=s:=by cases h<;>rfl
  rw [this];exact(Rep.dat s v h ht).grow hG hβ hτ
 |ptr o' off=>
  simp only [SV.pub];split
  ·exact .undef _
  ·rw [←hβ];exact .ptr o' off
 |ap o' sz i j=>
  simp only [SV.pub];split
  ·exact .undef _
  ·rw [←hβ];exact .ap o' sz i j
 |psl o' sz off n cap off' cap' hoff hn hcp=>
  simp only [SV.pub];split
  ·rename_i ho
   subst ho;cases obj with
   |rc cs=>exact .undef _
   |arr sz' xs=>
    simp only [xD];split
    ·rename_i hc
     obtain⟨rfl,hb⟩:=hc;have hrows:=ln.1 hwf;have h1:=leP.psl (o:=o') (cap:=cap) hb hrows x x' _ hβ hτ hG (fun k hk=>hcell k hk) (.psl o' sz' off n cap off' cap' hoff hn hcp);split
     ·rename_i hcap
      have hcn:=hcp _ hcap;obtain⟨b,cq,he,_,hD,_⟩:=h1.lst_inv;exact .dat _ _ (hD.tok (.lst sz' ((xs.drop off).take n) .clip) (.inr ⟨sz',_,_,_,rfl,rfl⟩)) ⟨_,n,by rw [←hcn]⟩
     ·exact h1
    ·exact .undef _
   |bar l=>
    simp only [xD];split
    ·rename_i hc
     obtain⟨rfl,hb⟩:=hc;have hlen:((l.drop off).take n).length=n:=by simp;omega
     have hD:∀t,cS x'.G (.byt ((l.drop off).take n) t) (.slice (some ⟨x.β o',off',none⟩) n cap'):=by
      intro t;refine .byt _ t _ _ _ _ hlen.symm hn fun i hi=> ?_
      have hoff':off'=off:=by omega
      obtain⟨u,hu,hr⟩:=hcell (off+i) (by simp only [aB.size];omega);rw [hoff',hu];simp only [aB.cell]at hr
      have e:((l.drop off).take n).getD i 0=l.getD (off+i) 0:=by simp only [aa,bM,if_pos hi,bx]
      rw [e];cases hr with
      |u8 b=>rfl
     split
     ·rename_i hcap
      have hcn:=hcp _ hcap;exact .dat _ _ (hD .clip) ⟨_,n,by rw [←hcn]⟩
     ·exact .dat _ _ (hD .no) trivial
    ·exact .undef _
  ·rw [←hβ];exact .psl o' sz off n cap off' cap' hoff hn hcp
 |agg cs vs hl _ ih=>simp only [SV.pub,mC];exact .agg _ _ (by simpa using hl) fun i hi=>by rw [aP _ (by rfl)];exact ih i (by simpa using hi)
 |tup cs vs hl _ ih=>simp only [SV.pub,mC];exact .tup _ _ (by simpa using hl) fun i hi=>by rw [aP _ (by rfl)];exact ih i (by simpa using hi)
 |fn f c1 c2 v1 v2 hl1 _ hl2 _ ih1 ih2=>simp only [SV.pub,mC];exact .fn _ _ _ _ _ (by simpa using hl1) (fun i hi=>by rw [aP _ (by rfl)];exact ih1 i (by simpa using hi)) (by simpa using hl2) (fun i hi=>by rw [aP _ (by rfl)];exact ih2 i (by simpa using hi))
theorem kI {o:Nat} {obj:aB} {p:Nat×aB}:∀ {l:List (Nat×aB)},p∈lx o obj l→p.1≠o∧∃q,(p.1,q)∈l∧p.2=oO o obj q
 |q::r,h=>by
  simp only [lx]at h;split at h
  ·obtain⟨h1,u,h2,h3⟩:=kI h
   exact⟨h1,u,au _ h2,h3⟩
  ·rename_i hq
   rcases ao.1 h with e|e
   ·rw [e];exact⟨hq,q.2,aA ..,rfl⟩
   ·obtain⟨h1,u,h2,h3⟩:=kI e
    exact⟨h1,u,au _ h2,h3⟩
theorem qU {o:Nat} {obj:aB}:∀l:List (Nat×aB),(lx o obj l).map bv=(l.map bv).filter fun k=>decide (k≠o)
 |[]=>rfl
 |p::r=>by
  simp only [lx,aL,iq]
  by_cases h:p.1=o
  ·rw [if_pos h,qU r];simp [h]
  ·rw [if_neg h,aL,qU r];simp [h]
theorem qH {o:Nat} {obj:aB} {p:Nat×SV}:∀ {l:List (Nat×SV)},p∈mf o obj l→∃q∈l,p.1=q.1
 |q::r,h=>by
  simp only [mf]at h;rcases ao.1 h with e|e
  ·exact⟨q,aA ..,by rw [e]⟩
  ·obtain⟨u,h1,h2⟩:=qH e
   exact⟨u,au _ h1,h2⟩
theorem kL {o:Nat} {obj:aB} (n:Nat):∀l:List (Nat×SV),eE (mf o obj l) n=(eE l n).pub o obj
 |[]=>rfl
 |p::r=>by
  simp only [mf,eE];split
  ·rfl
  ·exact kL n r
theorem xfZ {o:Nat} {obj q:aB} (h:q.wf=true):(oO o obj q).wf=true:=by cases q<;>simpa [oO,aB.wf]using h
theorem pG {o:Nat} {obj0 obj:aB} (hl:c.look o=some obj0) (hnr:∀cs,obj≠ .rc cs) (hnr0:∀cs,obj0≠ .rc cs) (hle:obj.size≤obj0.size) (hcl:∀k,k<obj.size→obj.cell k=obj0.cell k) (hwf:obj.wf=true) (hM:aI C x s a w) (hS:Sim N c s):
 ∃x',(x'.β=x.β∧x'.τ=x.τ∧(∀b i u,x.G b i=some u→x'.G b i=some u)∧(∀i,obj.size≤i→x'.G (x.β o) i=none)∧(∀k,k<obj.size→∃u,x'.G (x.β o) k=some u∧cS x'.G (obj.cell k) u))∧(∀sv v,Rep x sv v→Rep x' (sv.pub o obj) v)∧∃s',aI C x' s' a w∧Sim N ⟨mf o obj c.tm,lx o obj c.ob,c.tk⟩ s'∧(∀p∈s'.ob,x.β o≠x'.β p.1):=by
 have hls:s.look o=some obj0:=(hS.look o).trans hl;obtain⟨cc,e,fl,fh,hO,hsz,hr⟩:=ft hM hls;have hob:=hM.heap.obs _ (cW hls)
 let x':Sit:= {x with G:=fun b i=>if b=x.β o∧i<obj.size then some (cc.getD i Go.undef)else x.G b i}
 have hG:∀b i u,x.G b i=some u→x'.G b i=some u:=by intro b i u hu;show(if _ then _ else _)=_;rw [if_neg];exact hu;rintro⟨rfl,_⟩;have h0:=hob.2.2 i;simp only at h0;rw [h0]at hu;cases hu
 have hcell:∀k,k<obj.size→∃u,x'.G (x.β o) k=some u∧cS x'.G (obj.cell k) u:=by
  intro k hk;refine⟨cc.getD k Go.undef,if_pos ⟨rfl,hk⟩,cS.mono hG ?_⟩;have:=hr k (by omega);rw [hcl k hk];cases obj0 with
  |rc cs=>exact absurd rfl (hnr0 cs)
  |arr sz xs=>exact this
  |bar l=>exact this
 have hpub:∀sv v,Rep x sv v→Rep x' (sv.pub o obj) v:=fun sv v h=>Rep.pub (x:=x) (x':=x') rfl rfl hG hcell hwf h
 have hH:=hM.heap
 have hinv:Inv N ⟨mf o obj c.tm,lx o obj c.ob,c.tk⟩:=by
  refine⟨fun p hp=> ?_, ?_,fun p hp=> ?_⟩
  ·obtain⟨q,hq,e⟩:=qH hp;rw [e];exact hS.inv.dom q hq
  ·show((lx o obj c.ob).map bv).Pairwise _
   rw [qU];exact hS.inv.so.filter _
  ·obtain⟨_,q,h2,h3⟩:=kI hp;rw [h3];exact xfZ (hS.inv.wf _ h2)
 have hmem:∀p∈lx o obj c.ob,p.1≠o∧∃q,(p.1,q)∈s.ob∧p.2=oO o obj q:=by intro p hp;obtain⟨h1,q,h2,h3⟩:=kI hp;have h4:=jl (jh hS.inv.so) h2;exact⟨h1,q,cW ((hS.look p.1).trans h4),h3⟩
 have hne:∀p∈lx o obj c.ob,x.β p.1≠x.β o:=fun p hp e=>by obtain⟨h1,q,h2,_⟩:=hmem p hp;exact h1 (hH.inj (p.1,q) h2 _ (cW hls) e)
 refine⟨x',⟨rfl,rfl,hG,fun i hi=> ?_,hcell⟩,hpub,_,⟨⟨?_,fun i hi=> ?_⟩,hM.defers, ?_⟩,Sim.of hinv,fun p hp=>(hne p hp).symm⟩
 ·show(if _ then _ else _)=_
  rw [if_neg (by rintro⟨_,h⟩;omega)];exact hob.2.2 i
 ·have:=hM.tm.1;rw [hS.tm]at this;simpa [CSt.st]using this
 ·have hiN:i<N:=by simpa [CSt.st]using hi
  have h1:=hM.tm.2 i (by rw [hS.tm];simpa using hiN);rw [hS.tm]at h1;simp only [CSt.st,aa,aJ,cy hiN,bf,bg]at h1 ⊢;have:(CSt.mk (mf o obj c.tm) (lx o obj c.ob) c.tk).get i=(c.get i).pub o obj:=kL i c.tm;rw [this];exact hpub _ _ h1
 ·refine⟨
   ?_,fun b i v hv=>hG _ _ _ (hH.g0 b i v hv), ?_,hH.new, ?_,jh hinv.so, ?_, ?_,fun n hn p hp=> ?_,fun n hn m hm=>hH.tkd n ((hS.tk n).2 hn) m ((hS.tk m).2 hm),hH.os,hH.tape,hH.output,hH.size,hH.ext,hH.pin,hH.lay⟩
  ·intro b i v hv
   replace hv:(if b=x.β o∧i<obj.size then some (cc.getD i Go.undef)else x.G b i)=some v:=hv;split at hv
   ·rename_i hbi
    obtain⟨rfl,hi⟩:=hbi;cases hv;rw [hO.cell,bA,gS (by omega)];rfl
   ·exact hH.per b i v hv
  ·intro b i v hv
   replace hv:(if b=x.β o∧i<obj.size then some (cc.getD i Go.undef)else x.G b i)=some v:=hv;split at hv
   ·rename_i hbi
    exact .inr (hbi.1 ▸ hob.2.1)
   ·exact hH.gm b i v hv
  ·intro p hp
   obtain⟨h1,q,h2,h3⟩:=hmem p hp;obtain⟨g1,g2,g3⟩:=hH.obs _ h2;refine⟨?_,g2,fun off=> ?_⟩
   ·obtain⟨c',e',fl',fh',hO',hs',hr'⟩:=g1
    rw [h3];refine⟨c',e',fl',fh',hO', ?_,fun k hk=> ?_⟩
    ·cases q<;>simpa [oO,aB.size,mC]using hs'
    ·cases q with
     |rc cs=>
      have hk':k<cs.length:=by simpa [oO,aB.size,mC]using hk
      have:=hr' k hk';simp only [oO,cf,mC]at this ⊢;rw [aP _ (by rfl)];exact hpub _ _ this
     |arr sz xs=>exact cS.mono hG (hr' k hk)
     |bar l=>exact cS.mono hG (hr' k hk)
   ·show(if _ then _ else _)=_
    rw [if_neg (fun h=>hne p hp h.1)];exact g3 off
  ·intro p hp q hq hpq
   obtain⟨_,p',hp',_⟩:=hmem p hp;obtain⟨_,q',hq',_⟩:=hmem q hq;exact hH.inj (p.1,p') hp' (q.1,q') hq' hpq
  ·intro n hn'
   have hn:=(hS.tk n).2 hn';rcases hH.tks n hn with h|⟨h1,h2,h3⟩
   ·exact .inl h
   ·by_cases hlh:(x.τ n).2.1=(x.τ n).2.2
    ·exact .inl hlh
    ·refine .inr ⟨h1,h2,fun off h4 h5=> ?_⟩
     show(if _ then _ else _)=_;rw [if_neg (fun h=>(hH.tko n hn _ (cW hls)).elim (fun hb=>hb h.1) hlh)];exact h3 off h4 h5
  ·obtain⟨_,q,h2,_⟩:=hmem p hp
   exact hH.tko n ((hS.tk n).2 hn) (p.1,q) h2
theorem pH {o:Nat} {obj:aB} (hl:c.look o=some obj) (hnr:∀cs,obj≠ .rc cs) (hM:aI C x s a w) (hS:Sim N c s):
 ∃x',(x'.β=x.β∧x'.τ=x.τ)∧(∀sv v,Rep x sv v→Rep x' (sv.pub o obj) v)∧∃s',aI C x' s' a w∧Sim N ⟨mf o obj c.tm,lx o obj c.ob,c.tk⟩ s':=by
 obtain⟨x',h1,h2,s',h3,h4,_⟩:=pG hl hnr hnr (aZ _) (fun _ _=>rfl) (hS.lookmem hl) hM hS;exact⟨x',⟨h1.1,h1.2.1⟩,h2,s',h3,h4⟩
theorem D9 {o:Nat} {obj:aB} (hl:c.look o=some obj) (hnr:∀cs,obj≠ .rc cs) (hM:aI C x s a w) (hS:Sim N c s):
 ∃x',(∀sv v,Rep x sv v→Rep x' (sv.pub o obj) v)∧∃s',aI C x' s' a w∧Sim N ⟨mf o obj c.tm,lx o obj c.ob,c.tk⟩ s':=by
 obtain⟨x',_,h⟩:=pH hl hnr hM hS;exact⟨x',h⟩
theorem lw {vs:List SV} {us:List Value} {o:Nat} (hM:aI C x s a w) (hS:Sim N c s) (hv:cn x vs us):
 ∃x' s',aI C x' s' a w∧Sim N (c.publish o vs).1 s'∧cn x' (c.publish o vs).2 us:=by
 unfold CSt.publish
 have go:∀ {obj:aB},c.look o=some obj→(∀cs,obj≠ .rc cs)→∃x' s',aI C x' s' a w∧Sim N ⟨mf o obj c.tm,lx o obj c.ob,c.tk⟩ s'∧cn x' (SV.pubL o obj vs) us:=by intro obj hl hnr;obtain⟨x',hp,s',h1,h2⟩:=D9 hl hnr hM hS;refine⟨x',s',h1,h2, ?_⟩;rw [mC];refine⟨by simpa using hv.1,fun i hi=> ?_⟩;rw [aP _ (by rfl)];exact hp _ _ (hv.2 i (by simpa using hi))
 split
 ·rename_i sz xs hl;exact go hl (fun cs e=>by cases e)
 ·rename_i l hl;exact go hl (fun cs e=>by cases e)
 ·exact⟨x,s,hM,hS,hv⟩
theorem js {us:List Value}:∀ {l:List Nat} {c:CSt} {s:St} {x:Sit} {vs:List SV},aI C x s a w→Sim N c s→cn x vs us→
 ∃x' s',aI C x' s' a w∧Sim N (eV c vs l).1 s'∧cn x' (eV c vs l).2 us
 |[],_,_,_,_,hM,hS,hv=>⟨_,_,hM,hS,hv⟩
 |o::r,c,s,x,vs,hM,hS,hv=>by obtain⟨x1,s1,h1,h2,h3⟩:=lw (o:=o) hM hS hv;simp only [eV];exact js h1 h2 h3
theorem M.pub (h:M C N c a w) (o:Nat):M C N (c.publish o []).1 a w:=by obtain⟨x,s,hM,hS⟩:=h;obtain⟨x',s',h1,h2,_⟩:=lw (o:=o) (vs:=[]) (us:=[]) hM hS ⟨rfl,fun i hi=>by simp at hi⟩;exact⟨x',s',h1,h2⟩
theorem R5 (hM:aI C x s a w) (hS:Sim N c s) (id b lo hi:Nat) (hv:lo=hi∨((∃c e fl fh,fd w b c e fl fh∧hi≤c.size)∧C.mine b∧∀o,lo≤o→o<hi→x.G b o=none))
 (hob:∀p∈s.ob,b≠x.β p.1) (htk:∀u∈s.tk,lM (b,lo,hi) (x.τ u)∨(x.τ u).2.1=(x.τ u).2.2) {n:Nat} (hn:n<N) {v:SV}
 (hval:Rep (x.newT id b lo hi) v (a.tmps.toList.getD n Go.undef)):
 M C N ⟨jI (dA id (id+1) c.tm) n v,bC id (id+1) c.ob,nh (cK id (id+1) c.tk) id⟩ a w:=by
 have hadd:cZ C (x.newT id b lo hi) (bC id (id+1) s.ob) (id::cK id (id+1) s.tk) w:=
  hM.heap.addT id b lo hi hv (.inr fun p hp _=>hob p hp) (.inr fun u hu _=>htk u hu)
 have hM1:aI C (x.newT id b lo hi) ⟨SV.purgeL id (id+1) s.tm,bC id (id+1) s.ob,id::cK id (id+1) s.tk⟩ a w:=
  ⟨cn.mono (x:=x) (x':=x.newT id b lo hi) (lo:=id) (hi:=id+1) (fun _ _ _ h=>h) (fun _ _=>rfl) (Sit.newT_ne x id _ _ _) hM.tm,hM.defers,hadd⟩
 have hS1:Sim N ⟨dA id (id+1) c.tm,bC id (id+1) c.ob,nh (cK id (id+1) c.tk) id⟩ ⟨SV.purgeL id (id+1) s.tm,bC id (id+1) s.ob,id::cK id (id+1) s.tk⟩:=
  (hS.purge id (id+1)).tks (fun u=>by rw [kH,ao,bt,bt,hS.tk])
 refine⟨x.newT id b lo hi,_, ?_,hS1.put (d:=some n) (fun k e=>by cases e;exact hn) v⟩;refine⟨⟨?_,fun i hi=> ?_⟩,hM1.defers,hM1.heap⟩
 ·have:=hM1.tm.1;simpa [St.put]using this
 ·simp only [St.put,eZ]at hi
  simp only [St.put,aa,jO]
  by_cases hni:n=i
  ·subst hni
   rw [if_pos rfl,if_pos hi];rw [←aa];exact hval
  ·rw [if_neg hni]
   have:=hM1.tm.2 i hi;simp only [aa]at this;exact this
theorem wP (h:M C N c a w) {n id o sz off k cp:Nat} (hg:c.get n= .psl o sz off k (some cp)) (hc:R6 c n id o sz off k cp (c.look o)=some c') (hn:n<N):M C N c' a w:=by
 cases hl:c.look o with
 |none=>rw [hl]at hc;cases hc;exact h
 |some obj0=>
  rw [hl]at hc
  have main:∀(obj:aB) (v:SV),(∀cs,obj≠ .rc cs)→(∀cs,obj0≠ .rc cs)→obj.size=(off+k)*sz→(off+cp)*sz≤obj0.size→k≤cp→(∀k,k<obj.size→obj.cell k=obj0.cell k)→obj.wf=true→
   (∀(x':Sit) (off':Nat),(cp=0∨off'=off*sz)→(∀k,k<obj.size→∃u,x'.G (x'.β o) k=some u∧cS x'.G (obj.cell k) u)→cS x'.G v (.slice (some ⟨x'.β o,off',none⟩) k cp))→
   (∀x v',QV x v v'=dk x sz (.id id) v')→
   M C N (EW c n id o obj v) a w:=by
   intro obj v hnr hnr0 hsz hle hk hcl hwf hD htok;obtain⟨x,s,hM,hS⟩:=h;have hle':obj.size≤obj0.size:=by rw [hsz];exact cu (bB _ (by omega)) hle
   obtain⟨x',⟨hβ,hτ,hG,hfree,hcell⟩,hpub,s',hM',hS',hne⟩:=pG hl hnr hnr0 hle' hcl hwf hM hS;have hls:s.look o=some obj0:=(hS.look o).trans hl;obtain⟨cc,e,fl,fh,hO,hosz,_⟩:=ft hM hls;have hob:=hM.heap.obs _ (cW hls);have hslot:=hM.slot n;rw [hS.get,hg]at hslot;obtain⟨cp',hkc,hcc,off',he,hoff⟩:=hslot.psl_inv;obtain rfl:=hcc _ rfl
   have hval0:a.tmps.toList.getD n Go.undef= .slice (some ⟨x.β o,off',none⟩) k cp:=by rw [←he];simp [bA,aa]
   refine R5 hM' hS' id (x.β o) ((off+k)*sz) ((off+cp)*sz) (.inr ⟨⟨cc,e,fl,fh,hO,by omega⟩,hob.2.1,fun i h1 h2=>hfree i (by omega)⟩) (fun p hp=>hne p hp) (fun u hu=> ?_) hn ?_
   ·have hu':=(hS'.tk u).1 hu
    have hu2:=(hS.tk u).2 hu';rw [hτ];exact(hM.heap.tko u hu2 _ (cW hls)).imp (fun h e=>h e.symm) (fun h=>h)
   ·rw [hval0]
    have h1:=hD (x'.newT id (x.β o) ((off+k)*sz) ((off+cp)*sz)) off' hoff (by show ∀k,k<obj.size→∃u,x'.G (x'.β o) k=some u∧cS x'.G (obj.cell k) u;rw [hβ];exact hcell)
    have e1:(x'.newT id (x.β o) ((off+k)*sz) ((off+cp)*sz)).β o=x.β o:=by show x'.β o=_;rw [hβ]
    rw [e1]at h1;refine .dat _ _ h1 ?_;rw [htok];refine⟨_,k,cp,rfl, ?_⟩
    by_cases hcz:cp=0
    ·exact .inl (by omega)
    ·refine .inr ⟨_,off',rfl, ?_⟩
     rw [Sit.newT_eq,hoff.resolve_left hcz,bP,bP]
  cases obj0 with
  |rc cs=>cases hc;exact h
  |bar l=>
   simp only [R6]at hc;split at hc<;>cases hc
   ·rename_i hcond
    obtain⟨rfl,h2,h3⟩:=hcond;refine main (.bar (l.take (off+k))) (.byt ((l.drop off).take k) (.id id)) (fun cs e=>by cases e) (fun cs e=>by cases e) (by simp only [aB.size,ay];omega) (by simp only [aB.size];omega) h3 (fun i hi=> ?_) rfl (fun x' off' hoff hcell=> ?_) (fun _ _=>rfl)
    ·simp only [aB.size,ay]at hi
     simp only [aB.cell,aa,bM,if_pos (show i<off+k by omega)]
    ·have hlen:((l.drop off).take k).length=k:=by simp;omega
     refine .byt _ _ _ _ _ _ hlen.symm h3 fun i hi=> ?_
     have hoff':off'=off:=by omega
     obtain⟨u,hu,hr⟩:=hcell (off+i) (by simp only [aB.size,ay];omega);rw [hoff',hu];simp only [aB.cell]at hr
     have e1:((l.drop off).take k).getD i 0=(l.take (off+k)).getD (off+i) 0:=by simp only [aa,bM,if_pos hi,bx,if_pos (show off+i<off+k by omega)]
     rw [e1];cases hr with
     |u8 b=>rfl
   ·exact h
  |arr sz' xs=>
   simp only [R6]at hc;split at hc<;>cases hc
   ·rename_i hcond
    obtain⟨rfl,h2,h3⟩:=hcond;have hwf0:∀y∈xs,y.length=sz':=by obtain⟨x,s,hM,hS⟩:=h;exact ln.1 (hS.lookmem hl)
    have hwt:∀y∈xs.take (off+k),y.length=sz':=fun y hy=>hwf0 y (bH hy)
    have hrow:(xs.drop off).take k=(xs.take (off+k)).drop off:=by rw [List.drop_take,Nat.add_sub_cancel_left]
    refine main (.arr sz' (xs.take (off+k))) (.lst sz' ((xs.drop off).take k) (.id id)) (fun cs e=>by cases e) (fun cs e=>by cases e) (by simp only [aB.size,ay];congr 1;omega) (by simp only [aB.size];exact bB _ h2) h3 (fun i hi=> ?_) (ln.2 hwt) (fun x' off' hoff hcell=> ?_) (fun _ _=>rfl)
    ·simp only [aB.size,ay]at hi
     simp only [aB.cell,aa,bM];have hd:i/sz'<off+k:=Nat.div_lt_of_lt_mul (by rw [dv];exact Nat.lt_of_lt_of_le hi (bB _ (Nat.min_le_left _ _)));rw [if_pos hd]
    ·have hlen:((xs.drop off).take k).length=k:=by simp;omega
     have hgr:∀i,i<k→((xs.drop off).take k).getD i []=(xs.take (off+k)).getD (off+i) []:=fun i hi=>by simp only [aa,bM,if_pos hi,bx,if_pos (show off+i<off+k by omega)]
     have hrl:∀i,i<k→((xs.drop off).take k).getD i []∈xs.take (off+k):=fun i hi=>by rw [hgr i hi,aa,ab (show off+i<(xs.take (off+k)).length by rw [ay];omega)];exact aT _
     have hcl:∀i j,i<k→j<sz'→∃u,x'.G (x'.β o) (off'+i*sz'+j)=some u∧cS x'.G ((((xs.drop off).take k).getD i []).getD j .undef) u:=by
      intro i j hi hj;have hoff':off'=off*sz':=hoff.resolve_left (by omega)
      have hlt:(off+i)*sz'+j<(off+k)*sz':=by have:=bB sz' (show off+i+1≤off+k by omega);rw [bP,Nat.one_mul]at this;omega
      obtain⟨u,hu,hr⟩:=hcell ((off+i)*sz'+j) (by simp only [aB.size,ay];rw [dr (by omega)];exact hlt);refine⟨u,by rw [hoff',←bP];exact hu, ?_⟩;simp only [aB.cell]at hr;have e1:((off+i)*sz'+j)/sz'=off+i:=by rw [dv,Nat.mul_add_div (by omega),Nat.div_eq_of_lt hj,eP]
      have e2:((off+i)*sz'+j) % sz'=j:=by rw [dv,Nat.mul_add_mod,yB hj]
      rw [e1,e2]at hr;rw [hgr i hi];exact hr
     refine .lst _ _ _ _ _ _ _ (fun i j=>(x'.G (x'.β o) (off'+i*sz'+j)).getD Go.undef) hlen.symm h3 (fun i hi=>hwt _ (hrl i hi)) (fun i j hi hj=> ?_) (fun i j hi hj=> ?_)
     ·obtain⟨u,hu,_⟩:=hcl i j hi hj
      rw [hu];rfl
     ·obtain⟨u,hu,hr⟩:=hcl i j hi hj
      rw [hu];exact hr
   ·exact h
theorem kP (hM:aI C x s a w) (hS:Sim N c s) (id:Nat) (t:Option Nat) (ht:∀k,t=some k→k∈c.tk) {n:Nat} (hn:n<N) {v:SV}
 (hv:∀u,Rep x (c.get n) u→Rep (x.newT id ((t.elim (0,0,0) x.τ)).1 ((t.elim (0,0,0) x.τ)).2.1 ((t.elim (0,0,0) x.τ)).2.2) v u):
 M C N ⟨jI (dA id (id+1) c.tm) n v,bC id (id+1) c.ob,nh (cK id (id+1) (t.elim c.tk fun k=>cK k (k+1) c.tk)) id⟩ a w:=by
 generalize hT:t.elim (0,0,0) x.τ=T at hv;generalize hL:(t.elim c.tk fun k=>cK k (k+1) c.tk)=L;have hH:=hM.heap
 have hLs:∀u∈L,u∈s.tk∧∀k,t=some k→u≠k:=by
  intro u hu;rw [←hL]at hu;cases t with
  |none=>exact⟨(hS.tk u).2 hu,fun k e=>by cases e⟩
  |some k=>obtain⟨h1,h2⟩:=bt.1 hu;exact⟨(hS.tk u).2 h1,fun k' e=>by cases e;omega⟩
 have hadd:cZ C (x.newT id T.1 T.2.1 T.2.2) (bC id (id+1) s.ob) (id::cK id (id+1) L) w:=by
  refine(hH.sub (tk':=L) (ka.refl _) (fun u hu=>(hLs u hu).1)).addT id T.1 T.2.1 T.2.2 ?_ ?_ ?_
  ·cases t with
   |none=>subst hT;exact .inl rfl
   |some k=>have:=hH.tks k ((hS.tk k).2 (ht k rfl));unfold io at this;subst hT;exact this
  ·cases t with
   |none=>subst hT;exact .inl rfl
   |some k=>
    by_cases hc:(x.τ k).2.1=(x.τ k).2.2
    ·subst hT;exact .inl hc
    ·subst hT
     exact .inr fun p hp _=>(hH.tko k ((hS.tk k).2 (ht k rfl)) p hp).resolve_right hc
  ·cases t with
   |none=>subst hT;exact .inl rfl
   |some k=>
    by_cases hc:(x.τ k).2.1=(x.τ k).2.2
    ·subst hT;exact .inl hc
    ·subst hT
     refine .inr fun u hu _=> ?_
     obtain⟨h1,h2⟩:=hLs u hu;rcases hH.tkd k ((hS.tk k).2 (ht k rfl)) u h1 (fun e=>h2 k rfl e.symm)with h|h|h
     ·exact .inl h
     ·exact absurd h hc
     ·exact .inr h
 have hM1:aI C (x.newT id T.1 T.2.1 T.2.2) ⟨SV.purgeL id (id+1) s.tm,bC id (id+1) s.ob,id::cK id (id+1) L⟩ a w:=
  ⟨cn.mono (x:=x) (x':=x.newT id T.1 T.2.1 T.2.2) (lo:=id) (hi:=id+1) (fun _ _ _ h=>h) (fun _ _=>rfl) (Sit.newT_ne x id _ _ _) hM.tm,hM.defers,hadd⟩
 have hS1:Sim N ⟨dA id (id+1) c.tm,bC id (id+1) c.ob,nh (cK id (id+1) L) id⟩ ⟨SV.purgeL id (id+1) s.tm,bC id (id+1) s.ob,id::cK id (id+1) L⟩:=
  (hS.purge id (id+1)).tks (fun u=>by rw [kH,ao])
 refine⟨x.newT id T.1 T.2.1 T.2.2,_, ?_,hS1.put (d:=some n) (fun k e=>by cases e;exact hn) v⟩;have hlt:n<s.tm.length:=by rw [hS.tm];simpa using hn
 refine⟨⟨?_,fun i hi=> ?_⟩,hM1.defers,hM1.heap⟩
 ·have:=hM1.tm.1;simpa [St.put]using this
 ·simp only [St.put,eZ]at hi
  simp only [St.put,aa,jO]
  by_cases hni:n=i
  ·subst hni
   rw [if_pos rfl,if_pos hi];refine hv _ ?_;have:=hM.tm.2 n hlt;have e:s.tm.getD n .undef=c.get n:=hS.get n;rw [e]at this;rw [←aa];exact this
  ·rw [if_neg hni,←aa,←aa]
   exact hM1.tm.2 i hi
theorem wQ (h:M C N c a w) {n id:Nat} (hc:R7 c n id (c.get n)=some c'):M C N c' a w:=by
 have hnN:c.get n≠ .undef→n<N:=by
  obtain⟨x,s,hM,hS⟩:=h;intro hne;rcases bR n N with h1|h1
  ·exact h1
  ·exact absurd (hS.inv.get h1) hne
 cases hg:c.get n with
 |byt l t=>
  rw [hg]at hc;have hN:=hnN (by rw [hg];exact fun e=>by cases e);cases t with
  |no=>cases hc;exact h
  |clip=>
   cases hc;obtain⟨x,s,hM,hS⟩:=h;refine kP hM hS id none (fun k e=>by cases e) hN fun u hu=> ?_
   rw [hg]at hu;exact leT.byt id l x u hu
  |id t=>
   simp only [R7]at hc;split at hc
   ·cases hc;exact h
   ·split at hc<;>cases hc
    rename_i h1 h2;obtain⟨x,s,hM,hS⟩:=h;refine kP hM hS id (some t) (fun k e=>by cases e;simpa using h2) hN fun u hu=> ?_
    rw [hg]at hu;obtain⟨b,cap,he,_,hD,hsp⟩:=hu.byt_inv;refine .dat _ _ (hD.tok (.byt l (.id id)) (.inl ⟨l,_,_,rfl,rfl⟩)) ?_;obtain⟨a',n',cap',he',hh⟩:=hsp;refine⟨a',n',cap',he',hh.imp (fun h=>h) ?_⟩;rintro⟨b,off,h3,h4⟩;exact⟨b,off,h3,by rw [Sit.newT_eq];exact h4⟩
 |lst sz xs t=>
  rw [hg]at hc;have hN:=hnN (by rw [hg];exact fun e=>by cases e);cases t with
  |no=>cases hc;exact h
  |clip=>
   cases hc;obtain⟨x,s,hM,hS⟩:=h;refine kP hM hS id none (fun k e=>by cases e) hN fun u hu=> ?_
   rw [hg]at hu;exact leT.lst id sz xs x u hu
  |id t=>
   simp only [R7]at hc;split at hc
   ·cases hc;exact h
   ·split at hc<;>cases hc
    rename_i h1 h2;obtain⟨x,s,hM,hS⟩:=h;refine kP hM hS id (some t) (fun k e=>by cases e;simpa using h2) hN fun u hu=> ?_
    rw [hg]at hu;obtain⟨b,cap,he,_,hD,hsp⟩:=hu.lst_inv;refine .dat _ _ (hD.tok (.lst sz xs (.id id)) (.inr ⟨sz,xs,_,_,rfl,rfl⟩)) ?_;obtain⟨a',n',cap',he',hh⟩:=hsp;refine⟨a',n',cap',he',hh.imp (fun h=>h) ?_⟩;rintro⟨b,off,h3,h4⟩;exact⟨b,off,h3,by rw [Sit.newT_eq];exact h4⟩
 |psl o sz off k cp=>
  rw [hg]at hc;have hN:=hnN (by rw [hg];exact fun e=>by cases e);cases cp with
  |none=>cases hc;exact h
  |some cp=>exact wP h hg hc hN
 |_=>rw [hg]at hc;cases hc;exact h
theorem qc (h:M C N c a w) {q:Dir} (hc:sJ c q=some c'):M C N c' a w:=by
 cases q with
 |kill l=>cases hc;exact h.kill l
 |gc l=>cases hc;exact h.gc
 |gcr lo hi=>cases hc;exact h.purge lo hi
 |pubo o=>cases hc;exact h.pub _
 |pub n=>
  simp only [sJ]at hc;split at hc<;>cases hc
  ·exact h.pub _
  ·exact h
 |tok n id=>
  simp only [sJ]at hc;split at hc
  ·cases hc
  ·exact wQ h hc
theorem kt:∀ {l:List Dir} {c:CSt},M C N c a w→iQ c l=some c'→M C N c' a w
 |[],_,h,hc=>by cases hc;exact h
 |q::r,c,h,hc=>by
  simp only [iQ]at hc;split at hc
  ·rename_i c1 h1;exact kt (qc h h1) hc
  ·cases hc
end Go.Sy
namespace Go.Sy
variable [ba]
variable {P : Program} {C : Ctx} {x : Sit} {a : Act} {w : World} {N : Nat} {c c' : CSt} {s : St}
def oX (P:Program) (f:Nat) (args:List SV) (os:List aB) (k:Nat) (R:ec→Prop):Prop:=
 eg P f=true∧∀(C:Ctx) (x:Sit) (w:World) (vs:List Value),C.w0=w→C.G0=x.G→
  (∀b,C.mine b→w.heap.size≤b∨(∃i,i<os.length∧x.β i=b)∨(∃t,50≤t∧t<50+k∧(x.τ t).2.1≠(x.τ t).2.2∧(x.τ t).1=b))→os.length≤40→
  (∀o∈os,o.wf=true)→cZ C x (idx os) (tks 50 k) w→cn x args vs→
  Calls P f ⟨vs⟩ w fun e w'=>∃v x' q,e= .returned v∧R q∧Rep x' q.r v∧cZ C x' q.os q.tk w'∧(∀p∈q.os,p.2.wf=true)∧∀i,i<os.length→x'.β i=x.β i
theorem fv (cs:List SV):SV.bareL cs=cs.map SV.bare:=by
 induction cs with
 |nil=>rfl
 |cons c r ih=>simp only [SV.bareL,aL,ih]
theorem Rep.bare {x x':Sit} (hG:x'.G=x.G) (hβ:x'.β=x.β) {sv:SV} {v:Value} (h:Rep x sv v):Rep x' sv.bare v:=by
 induction h with
 |undef v=>exact .undef v
 |dat s v h ht=>
  have h':=h.toData;rw [←hG]at h';cases s with
  |byt l t=>exact .dat _ _ h' trivial
  |lst sz xs t=>exact .dat _ _ h' trivial
  |undef=>exact .undef v
  |bool b=>exact .dat _ _ h' trivial
  |int k n=>exact .dat _ _ h' trivial
  |u8 b=>exact .dat _ _ h' trivial
  |str l=>exact .dat _ _ h' trivial
  |nilp=>exact .dat _ _ h' trivial
  |nili=>exact .dat _ _ h' trivial
  |pp cs=>exact .dat _ _ h' trivial
  |ptr o off=>cases h
  |ap o sz i j=>cases h
  |psl o sz off n cap=>cases h
  |agg cs=>cases h
  |tup cs=>cases h
  |fn f a b=>cases h
 |ptr o off=>simp only [SV.bare];rw [←hβ];exact .ptr o off
 |ap o sz i j=>simp only [SV.bare];rw [←hβ];exact .ap o sz i j
 |psl o sz off n cap off' cap' h hn hc=>simp only [SV.bare];rw [←hβ];exact .psl o sz off n cap off' cap' h hn hc
 |agg cs vs hl _ ih=>simp only [SV.bare,fv];exact .agg _ _ (by simpa using hl) fun i hi=>by rw [aP _ (by rfl)];exact ih i (by simpa using hi)
 |tup cs vs hl _ ih=>simp only [SV.bare,fv];exact .tup _ _ (by simpa using hl) fun i hi=>by rw [aP _ (by rfl)];exact ih i (by simpa using hi)
 |fn f c1 c2 v1 v2 hl1 _ hl2 _ ih1 ih2=>simp only [SV.bare,fv];exact .fn _ _ _ _ _ (by simpa using hl1) (fun i hi=>by rw [aP _ (by rfl)];exact ih1 i (by simpa using hi)) (by simpa using hl2) (fun i hi=>by rw [aP _ (by rfl)];exact ih2 i (by simpa using hi))
def QW (x:Sit):Option Nat→Nat×Nat×Nat
 |none=>(0,0,0)
 |some t=>x.τ t
def qr (x x1:Sit) (j:Nat) (l:List (Option Nat)):Prop:=∀k,k<l.length→x1.τ (j+k)=QW x (l.getD k none)
theorem qr.left {x x1:Sit} {j:Nat} {l r:List (Option Nat)} (h:qr x x1 j (l++r)):qr x x1 j l:=fun k hk=>by have:=h k (by simp;omega);rwa [aa,bK hk,←aa]at this
theorem qr.right {x x1:Sit} {j:Nat} {l r:List (Option Nat)} (h:qr x x1 j (l++r)):qr x x1 (j+l.length) r:=fun k hk=>by have:=h (l.length+k) (by simp;omega);rw [aa,bN (by omega),←aa]at this;rw [fE,this];congr 2;omega
theorem kW {t:Nat}:∀ {l:List (Option Nat)},t∈cB l↔some t∈l
 |[]=>by simp [cB]
 |none::r=>by simp [cB,kW]
 |some u::r=>by simp [cB,kW]
theorem fI (l r:List (Option Nat)):cB (l++r)=cB l++cB r:=by
 induction l with
 |nil=>rfl
 |cons o l ih=>cases o<;>simp [cB,ih]
theorem El {x x1:Sit} (hG:x1.G=x.G) (hβ:x1.β=x.β) {v:SV} {u:Value} (h:Rep x v u):Rep x1 v.kclip u:=by
 have hb:=h.bare hG hβ;cases v with
 |lst sz xs t=>
  cases t with
  |no=>exact hb
  |id u=>exact hb
  |clip=>
   cases xs with
   |cons y r=>exact hb
   |nil=>obtain⟨b,cap,he,_,hD,hsp⟩:=h.lst_inv;obtain⟨a',n',he'⟩:=hsp;rw [←hG]at hD;exact .dat _ _ (hD.tok (.lst _ [] .clip) (.inr ⟨_,[],_,_,rfl,rfl⟩)) ⟨a',n',he'⟩
 |byt l t=>
  cases t with
  |no=>exact hb
  |id u=>exact hb
  |clip=>
   cases l with
   |cons y r=>exact hb
   |nil=>obtain⟨b,cap,he,_,hD,hsp⟩:=h.byt_inv;obtain⟨a',n',he'⟩:=hsp;rw [←hG]at hD;exact .dat _ _ (hD.tok (.byt [] .clip) (.inl ⟨[],_,_,rfl,rfl⟩)) ⟨a',n',he'⟩
 |_=>exact hb
theorem xS {x x1:Sit} (hG:x1.G=x.G) (hβ:x1.β=x.β) {cs:List SV} {u:Value} (h:Rep x (.agg cs) u):Rep x1 (.agg (cs.map SV.kclip)) u:=by
 cases h with
 |dat _ _ h _=>cases h
 |agg _ vs hl h=>
  refine .agg _ vs (by rw [aQ];exact hl) fun i hi=> ?_
  rw [aQ]at hi;have h1:=El hG hβ (h i hi);rw [aa,ab hi,bg]at h1;rw [aa,aJ,ab hi,bf,bg];exact h1
theorem vv {x x1:Sit} (hG:x1.G=x.G) (hβ:x1.β=x.β) {tk:List Nat} {j:Nat} {v:SV} {u:Value} (h:Rep x v u) (ht:qr x x1 j (jE tk j v).2):Rep x1 (jE tk j v).1 u:=by
 have hb:=h.bare hG hβ;cases v with
 |byt l t=>
  cases t with
  |no=>exact hb
  |clip=>have e:=ht 0 (by simp [jE]);obtain⟨b,cap,he,_,hD,hsp⟩:=h.byt_inv;obtain⟨a',n',he'⟩:=hsp;rw [←hG]at hD;exact .dat _ _ (hD.tok (.byt l (.id j)) (.inl ⟨l,_,_,rfl,rfl⟩)) ⟨a',n',n',he',.inl rfl⟩
  |id t=>
   by_cases hc:tk.contains t=true
   ·have e:=ht 0 (by simp only [jE,hc,if_true,ax];omega)
    simp only [jE,hc,if_true]at e ⊢;obtain⟨b,cap,he,_,hD,hsp⟩:=h.byt_inv;obtain⟨a',n',cap',he',hh⟩:=hsp;rw [←hG]at hD;refine .dat _ _ (hD.tok (.byt l (.id j)) (.inl ⟨l,_,_,rfl,rfl⟩)) ⟨a',n',cap',he',hh.imp id ?_⟩;rintro⟨b,off,h1,h2⟩;exact⟨b,off,h1,by rw [eP]at e;rw [e];exact h2⟩
   ·simp only [jE,hc,if_false];exact hb
 |lst sz xs t=>
  cases t with
  |no=>exact hb
  |clip=>obtain⟨b,cap,he,_,hD,hsp⟩:=h.lst_inv;obtain⟨a',n',he'⟩:=hsp;rw [←hG]at hD;exact .dat _ _ (hD.tok (.lst sz xs (.id j)) (.inr ⟨sz,xs,_,_,rfl,rfl⟩)) ⟨a',n',n',he',.inl rfl⟩
  |id t=>
   by_cases hc:tk.contains t=true
   ·have e:=ht 0 (by simp only [jE,hc,if_true,ax];omega)
    simp only [jE,hc,if_true]at e ⊢;obtain⟨b,cap,he,_,hD,hsp⟩:=h.lst_inv;obtain⟨a',n',cap',he',hh⟩:=hsp;rw [←hG]at hD;refine .dat _ _ (hD.tok (.lst sz xs (.id j)) (.inr ⟨sz,xs,_,_,rfl,rfl⟩)) ⟨a',n',cap',he',hh.imp id ?_⟩;rintro⟨b,off,h1,h2⟩;exact⟨b,off,h1,by rw [eP]at e;rw [e];exact h2⟩
   ·simp only [jE,hc,if_false];exact hb
 |agg cs=>exact xS hG hβ h
 |_=>exact hb
theorem AA {tk:List Nat} {j:Nat} {v:SV}:∀t∈cB (jE tk j v).2,t∈tk:=by
 intro t ht;cases v with
 |byt l q=>
  cases q with
  |id u=>
   by_cases hc:tk.contains u=true
   ·simp only [jE,hc,if_true,cB,aV]at ht;subst ht;simpa using hc
   ·simp only [jE,hc,if_false,cB]at ht;cases ht
  |_=>cases ht
 |lst sz xs q=>
  cases q with
  |id u=>
   by_cases hc:tk.contains u=true
   ·simp only [jE,hc,if_true,cB,aV]at ht;subst ht;simpa using hc
   ·simp only [jE,hc,if_false,cB]at ht;cases ht
  |_=>cases ht
 |_=>cases ht
theorem gA {x:Sit} {v:SV} {u:Value} {cs:List SV} {us:List Value}:cn x (v::cs) (u::us)↔Rep x v u∧cn x cs us:=by
 constructor
 ·intro h
  exact⟨h.2 0 (by simp),by simpa using h.1,fun i hi=>by simpa using h.2 (i+1) (by simpa using hi)⟩
 ·rintro⟨h1,h2⟩
  exact⟨by simp [h2.1],fun i hi=>by
   cases i with
   |zero=>exact h1
   |succ i=>simpa using h2.2 i (by simpa using hi)⟩
theorem mK {x x1:Sit} (hG:x1.G=x.G) (hβ:x1.β=x.β) {tk own:List Nat}:∀ {cs:List SV} {us:List Value} {j i:Nat},cn x cs us→qr x x1 j (kb tk own j i cs).2→cn x1 (kb tk own j i cs).1 us
 |[],[],_,_,_,_=>⟨rfl,fun i hi=>by simp [kb]at hi⟩
 |[],_::_,_,_,h,_=>absurd h.1 (by simp)
 |_::_,[],_,_,h,_=>absurd h.1 (by simp)
 |v::r,u::us,j,i,h,ht=>by
  obtain⟨h1,h2⟩:=gA.1 h;simp only [kb]at ht ⊢;split
  ·rename_i hc
   rw [if_pos hc]at ht;exact gA.2 ⟨vv hG hβ h1 ht.left,mK hG hβ h2 ht.right⟩
  ·rename_i hc
   rw [if_neg hc]at ht;exact gA.2 ⟨h1.bare hG hβ,mK hG hβ h2 ht⟩
theorem pn {tk own:List Nat}:∀ {cs:List SV} {j i:Nat},∀t∈cB (kb tk own j i cs).2,t∈tk
 |[],_,_,t,ht=>by cases ht
 |v::r,j,i,t,ht=>by
  simp only [kb]at ht;split at ht
  ·rw [fI,aj]at ht
   exact ht.elim (AA t) (pn t)
  ·exact pn t ht
theorem vw {x x1:Sit} (hG:x1.G=x.G) (hβ:x1.β=x.β) {tk:List Nat}:∀ {cs:List SV} {j:Nat} {f:Nat→Value},(∀k,k<cs.length→Rep x (cs.getD k .undef) (f k))→qr x x1 j (tp tk j cs).2→
 (tp tk j cs).1.length=cs.length∧∀k,k<cs.length→Rep x1 ((tp tk j cs).1.getD k .undef) (f k)
 |[],_,_,_,_=>⟨rfl,fun i hi=>by simp at hi⟩
 |v::r,j,f,h,ht=>by
  simp only [tp]at ht ⊢;obtain⟨h1,h2⟩:=vw (f:=fun k=>f (k+1)) hG hβ (fun k hk=>by simpa using h (k+1) (by simpa using hk)) ht.right;refine⟨by simp [h1],fun k hk=> ?_⟩;cases k with
  |zero=>exact vv hG hβ (h 0 (by simp)) ht.left
  |succ k=>simpa using h2 k (by simpa using hk)
theorem AB {tk:List Nat}:∀ {cs:List SV} {j:Nat},∀t∈cB (tp tk j cs).2,t∈tk
 |[],_,t,ht=>by cases ht
 |v::r,j,t,ht=>by simp only [tp]at ht;rw [fI,aj]at ht;exact ht.elim (AA t) (AB t)
theorem DG {x x1:Sit} (hG:x1.G=x.G) (hβ:x1.β=x.β) {tk:List Nat} {j o:Nat} {ob:aB} (h:dU x w o ob) (ht:qr x x1 j (jQ tk j ob).2):dU x1 w o (jQ tk j ob).1:=by
 obtain⟨cc,e,fl,fh,hO,hs,hr⟩:=h;cases ob with
 |rc cs=>obtain⟨h1,h2⟩:=vw (f:=fun k=>cc.getD k Go.undef) hG hβ hr ht;exact⟨cc,e,fl,fh,by rw [hβ];exact hO,by simp only [jQ,aB.size,h1]at hs ⊢;exact hs,fun k hk=>h2 k (by simpa only [jQ,aB.size,h1]using hk)⟩
 |arr sz xs=>exact⟨cc,e,fl,fh,by rw [hβ];exact hO,hs,fun k hk=>by have:=hr k hk;simp only [jQ,cf]at this ⊢;rw [hG];exact this⟩
 |bar l=>exact⟨cc,e,fl,fh,by rw [hβ];exact hO,hs,fun k hk=>by have:=hr k hk;simp only [jQ,cf]at this ⊢;rw [hG];exact this⟩
theorem Fw {tk:List Nat} {j:Nat} {ob:aB} (h:ob.wf=true):(jQ tk j ob).1.wf=true:=by cases ob<;>first|rfl|exact h
theorem Fx {tk:List Nat} {j:Nat} {ob:aB}:∀t∈cB (jQ tk j ob).2,t∈tk:=by
 intro t ht;cases ob with
 |rc cs=>exact AB t ht
 |_=>cases ht
theorem lR {x x1:Sit} (hG:x1.G=x.G) (hβ:x1.β=x.β) {tk:List Nat}:∀ {obs:List aB} {j:Nat} {f:Nat→Nat},(∀k,k<obs.length→dU x w (f k) (obs.getD k (.rc [])))→qr x x1 j (ed tk j obs).2→
 (ed tk j obs).1.length=obs.length∧∀k,k<obs.length→dU x1 w (f k) ((ed tk j obs).1.getD k (.rc []))
 |[],_,_,_,_=>⟨rfl,fun i hi=>by simp at hi⟩
 |v::r,j,f,h,ht=>by
  simp only [ed]at ht ⊢;obtain⟨h1,h2⟩:=lR (f:=fun k=>f (k+1)) hG hβ (fun k hk=>by simpa using h (k+1) (by simpa using hk)) ht.right;refine⟨by simp [h1],fun k hk=> ?_⟩;cases k with
  |zero=>exact DG hG hβ (h 0 (by simp)) ht.left
  |succ k=>simpa using h2 k (by simpa using hk)
theorem nG {tk:List Nat}:∀ {obs:List aB} {j:Nat},∀t∈cB (ed tk j obs).2,t∈tk
 |[],_,t,ht=>by cases ht
 |v::r,j,t,ht=>by simp only [ed]at ht;rw [fI,aj]at ht;exact ht.elim (Fx t) (nG t)
theorem nF {tk:List Nat}:∀ {obs:List aB} {j:Nat},(∀o∈obs,o.wf=true)→∀o∈(ed tk j obs).1,o.wf=true
 |[],_,_,o,ho=>by cases ho
 |v::r,j,h,o,ho=>by
  simp only [ed]at ho;rcases ao.1 ho with e|e
  ·rw [e];exact Fw (h v (aA ..))
  ·exact nF (fun o h'=>h o (au _ h')) o e
theorem nm {m:List Nat} {o:Nat} (h:o∈m):eB m o<m.length∧m.getD (eB m o) 0=o:=by
 induction m with
 |nil=>cases h
 |cons p r ih=>
  simp only [eB];split
  ·rename_i hp;subst hp;simp
  ·rename_i hp
   obtain⟨h1,h2⟩:=ih ((ao.1 h).resolve_left (Ne.symm hp));exact⟨by simpa using h1,by simpa using h2⟩
theorem jx {l:List Nat} (h:dB l=true):l.Nodup:=by
 induction l with
 |nil=>exact List.nodup_nil
 |cons p r ih=>simp only [dB,an,bZ,dn,decide_eq_false_iff_not]at h;exact dN.2 ⟨h.1,ih h.2⟩
theorem vx {l r:List Nat} (h:po l r=true):∀o∈l,o∈r:=by intro o ho;simp only [po,aM,dn,decide_eq_true_eq]at h;exact h o ho
theorem qL:∀ {m:List Nat} {os:List aB},gF c m=some os→os.length=m.length∧∀i,i<m.length→c.look (m.getD i 0)=some (os.getD i (.rc []))
 |[],os,h=>by cases h;exact⟨rfl,fun i hi=>by simp at hi⟩
 |o::r,os,h=>by
  simp only [gF]at h;split at h<;>cases h;rename_i ob l h1 h2;obtain⟨h3,h4⟩:=qL h2;refine⟨by simp [h3],fun i hi=> ?_⟩;cases i with
  |zero=>exact h1
  |succ i=>simpa using h4 i (by simpa using hi)
theorem gB (mo mt:Nat→Nat) (l:List aB):ei mo mt l=l.map fun o=>o.ren mo mt:=by
 induction l with
 |nil=>rfl
 |cons p r ih=>simp only [ei,aL,ih]
theorem pL {l:List aB} {o:aB} (h:o∈l):∀k∈o.ids,k∈fL l:=by
 induction l with
 |nil=>cases h
 |cons p r ih=>
  intro k hk;simp only [fL,aj];rcases ao.1 h with e|e
  ·subst e;exact .inl hk
  ·exact .inr (ih e k hk)
theorem ov {l:List (Option Nat)} (h:(cB l).Nodup):∀ {i j:Nat} {t u:Nat},i≠j→l.getD i none=some t→l.getD j none=some u→t≠u:=by
 have key:∀ {l:List (Option Nat)},(cB l).Nodup→∀ {i j:Nat} {t u:Nat},i<j→l.getD i none=some t→l.getD j none=some u→t≠u:=by
  intro l;induction l with
  |nil=>intro _ i j t u _ h1;simp at h1
  |cons o r ih=>
   intro hn i j t u hij h1 h2
   have hr:(cB r).Nodup:=by cases o with
    |none=>exact hn
    |some q=>exact(dN.1 hn).2
   cases j with
   |zero=>omega
   |succ j=>
    rw [bw]at h2;cases i with
    |zero=>
     rw [bm]at h1;subst h1
     have h3:some u∈r:=by
      rw [aa]at h2;cases hj:r[j]? with
      |none=>rw [hj]at h2;cases h2
      |some q=>rw [hj]at h2;cases h2;exact List.mem_of_getElem? hj
     intro e;subst e;exact(dN.1 hn).1 (kW.2 h3)
    |succ i=>rw [bw]at h1;exact ih hr (by omega) h1 h2
 intro i j t u hij h1 h2;rcases Nat.lt_or_gt_of_ne hij with h3|h3
 ·exact key h h3 h1 h2
 ·exact(key h h3 h2 h1).symm
theorem jJ {b n t:Nat}:t∈tks b n↔b≤t∧t<b+n:=by
 unfold tks
 have:∀n k,k∈lq n↔k<n:=by
  intro n;induction n with
  |zero=>intro k;simp [lq]
  |succ n ih=>intro k;simp only [lq,aj,ih,aV];omega
 simp only [aS,this];constructor
 ·rintro⟨k,h,rfl⟩;omega
 ·rintro⟨h1,h2⟩;exact⟨t-b,by omega,by omega⟩
structure Ff (x x2:Sit) (c:CSt) (m:List Nat) (mt:List (Option Nat)):Prop where
 G:x2.G=x.G
 β:∀i,i<m.length→x2.β i=x.β (m.getD i 0)
 τ:qr x x2 50 mt
 nd:m.Nodup
 ob:∀i,i<m.length→∃ob,(m.getD i 0,ob)∈c.ob
 tnd:(cB mt).Nodup
 tk:∀t∈cB mt,t∈c.tk
def Ctx.took (x2:Sit) (w:World) (n k:Nat):Ctx:=
 ⟨w,x2.G,fun b=>w.heap.size≤b∨(∃i,i<n∧x2.β i=b)∨(∃t,50≤t∧t<50+k∧(x2.τ t).2.1≠(x2.τ t).2.2∧(x2.τ t).1=b),x2.β⟩
theorem fV {m:List Nat} {i:Nat} (h:i<m.length):m.getD i 0∈m:=by rw [aa,ab h];exact aT _
theorem lV {m:List Nat} (h:m.Nodup) {i j:Nat} (hi:i<m.length) (hj:j<m.length) (e:m.getD i 0=m.getD j 0):i=j:=by rw [aa,aa,ab hi,ab hj]at e;exact sa h hi hj e
theorem iX {l:List (Option Nat)} {i t:Nat} (h:l.getD i none=some t):t∈cB l:=by
 rw [aa]at h;cases hj:l[i]? with
 |none=>rw [hj]at h;cases h
 |some q=>rw [hj]at h;cases h;exact kW.2 (List.mem_of_getElem? hj)
theorem Ff.tok {x2:Sit} {m:List Nat} {mt:List (Option Nat)} (h:Ff x x2 c m mt) {t:Nat} (h1:50≤t) (h2:t<50+mt.length):
 (x2.τ t).2.1=(x2.τ t).2.2∨∃u,mt.getD (t-50) none=some u∧x2.τ t=x.τ u∧u∈c.tk∧u∈cB mt:=by
 have e:=h.τ (t-50) (by omega);rw [show 50+(t-50)=t by omega]at e;cases hu:mt.getD (t-50) none with
 |none=>rw [hu]at e;rw [e];exact .inl rfl
 |some u=>rw [hu]at e;exact .inr ⟨u,rfl,e,h.tk u (iX hu),iX hu⟩
theorem rT {x2:Sit} {m:List Nat} {mt:List (Option Nat)} (hH:cZ C x c.ob c.tk w) (h:Ff x x2 c m mt) {objs:List aB} (hl:objs.length=m.length)
 (ho:∀i,i<m.length→dU x2 w i (objs.getD i (.rc []))):cZ (Ctx.took x2 w m.length mt.length) x2 (idx objs) (tks 50 mt.length) w:=by
 refine⟨fun b o v hv=>hH.per b o v (by rw [←h.G];exact hv),fun _ _ _ hv=>hv,fun _ _ _ hv=> .inl hv,fun b hb=> .inl hb, ?_,nJ objs, ?_, ?_, ?_, ?_,rfl,rfl,rfl,aZ _,fun _ _=>rfl,fun _ _=>rfl,hH.lay.mono (fun b o v hv=>by show x2.G b o=some v;rw [h.G];exact hH.g0 b o v hv)⟩
 ·intro p hp
  obtain⟨h1,h2⟩:=fj.1 hp;rw [hl]at h1;obtain⟨ob,h3⟩:=h.ob p.1 h1;refine⟨by rw [h2];exact ho p.1 h1,.inr (.inl ⟨p.1,h1,rfl⟩),fun off=> ?_⟩;rw [h.G,h.β _ h1];exact(hH.obs _ h3).2.2 off
 ·intro p hp q hq hpq
  obtain⟨h1,_⟩:=fj.1 hp;obtain⟨h2,_⟩:=fj.1 hq;rw [hl]at h1 h2;rw [h.β _ h1,h.β _ h2]at hpq;obtain⟨o1,g1⟩:=h.ob _ h1;obtain⟨o2,g2⟩:=h.ob _ h2;exact lV h.nd h1 h2 (hH.inj _ g1 _ g2 hpq)
 ·intro t ht
  obtain⟨h1,h2⟩:=jJ.1 ht;rcases h.tok h1 h2 with h3|⟨u,_,h4,h5,_⟩
  ·exact .inl h3
  ·by_cases hne:(x2.τ t).2.1=(x2.τ t).2.2
   ·exact .inl hne
   ·have:=hH.tks u h5
    unfold io at this ⊢;rw [h4]at hne ⊢;rcases this with g|⟨g1,g2,g3⟩
    ·exact absurd g hne
    ·exact .inr ⟨g1,.inr (.inr ⟨t,h1,h2,by rw [h4];exact hne,by rw [h4]⟩),by rw [h.G];exact g3⟩
 ·intro t ht p hp
  obtain⟨h1,h2⟩:=jJ.1 ht;obtain⟨h6,_⟩:=fj.1 hp;rw [hl]at h6;rcases h.tok h1 h2 with h3|⟨u,_,h4,h5,_⟩
  ·exact .inr h3
  ·obtain⟨o1,g1⟩:=h.ob _ h6
   rw [h4,h.β _ h6];exact hH.tko u h5 _ g1
 ·intro t ht u hu htu
  obtain⟨h1,h2⟩:=jJ.1 ht;obtain⟨h3,h4⟩:=jJ.1 hu;rcases h.tok h1 h2 with g|⟨t',g1,g2,g3,_⟩
  ·exact .inr (.inl g)
  ·rcases h.tok h3 h4 with k|⟨u',k1,k2,k3,_⟩
   ·exact .inr (.inr k)
   ·rw [g2,k2]
    exact hH.tkd t' g3 u' k3 (ov h.tnd (by omega) g1 k1)
end Go.Sy
namespace Go.Sy
variable [ba]
variable {P : Program} {C : Ctx} {x : Sit} {a : Act} {w : World} {N : Nat} {c c' : CSt} {s : St}
theorem F2 (d:Nat) (l:List Nat):rJ d l=l.map (gZ d):=by
 induction l with
 |nil=>rfl
 |cons p r ih=>simp only [rJ,aL,ih]
theorem nM {k:List Nat} {t:Nat}:∀ {l:List Nat},t∈mX k l↔t∈l∧t∉k
 |[]=>by simp [mX]
 |p::r=>by
  simp only [mX];split
  ·rename_i hc
   have hp:p∈k:=by simpa using hc
   rw [nM,ao];constructor
   ·rintro⟨h1,h2⟩;exact⟨.inr h1,h2⟩
   ·rintro⟨h1|h1,h2⟩
    ·exact absurd (h1 ▸ hp) h2
    ·exact⟨h1,h2⟩
  ·rename_i hc
   have hp:p∉k:=by simpa using hc
   rw [ao,nM,ao];constructor
   ·rintro(h1|⟨h1,h2⟩)
    ·exact⟨.inl h1,h1 ▸ hp⟩
    ·exact⟨.inr h1,h2⟩
   ·rintro⟨h1|h1,h2⟩
    ·exact .inl h1
    ·exact .inr ⟨h1,h2⟩
theorem sf {t:Nat}:∀ {r l:List Nat},t∈rL l r↔t∈r∨t∈l
 |[],l=>by simp [rL]
 |p::r,l=>by
  simp only [rL];rw [sf,kH,ao];constructor
  ·rintro(h|h|h)
   ·exact .inl (.inr h)
   ·exact .inl (.inl h)
   ·exact .inr h
  ·rintro((h|h)|h)
   ·exact .inr (.inl h)
   ·exact .inl h
   ·exact .inr (.inr h)
theorem nL {p:Nat×aB}:∀ {r l:List (Nat×aB)},p∈rK l r→p∈r∨p∈l
 |[],l,h=> .inr h
 |q::r,l,h=>by
  simp only [rK]at h;rcases nL h with e|e
  ·exact .inl (au _ e)
  ·rcases kG e with e|e
   ·exact .inl (e ▸ aA ..)
   ·exact .inr e
theorem AK:∀ {r l:List (Nat×aB)},(l.map bv).Pairwise (· < ·)→((rK l r).map bv).Pairwise (· < ·)
 |[],_,h=>h
 |_::r,_,h=>AK (r:=r) (uz h)
theorem yI {mo mt:Nat→Nat} {o:aB} (h:o.wf=true):(o.ren mo mt).wf=true:=by cases o<;>first|rfl|exact h
theorem wN {x2:Sit} {m:List Nat} {mt:List (Option Nat)} (hold:cZ C x c.ob c.tk w) (h:Ff x x2 c m mt) {x':Sit} {w':World} {q:ec} (hH:cZ (Ctx.took x2 w m.length mt.length) x' q.os q.tk w') {D:Nat}
 (hm:∀o∈m,inR D o=false) (hos:∀p∈q.os,p.1<1000∧(∀k∈p.2.ids,k<1000)∧∀k∈p.2.toks,k<1000) (htk:∀t∈q.tk,t<1000) (hg:∀i,i<m.length→x'.β i=x2.β i):
 ∃x3:Sit,x3.G=x'.G∧(∀b o v,x.G b o=some v→x3.G b o=some v)∧(∀k,k<1000→x3.β (fx D m k)=x'.β k)∧(∀k,k<1000→x3.τ (gZ D k)=x'.τ k)∧
  (∀k,¬((D+1)*1000≤k∧k<(D+2)*1000)→x3.β k=x.β k)∧(∀k,¬((D+1)*1000≤k∧k<(D+2)*1000)→x3.τ k=x.τ k)∧
  cZ C x3 (pD D m q.os++fk m (bC ((D+1)*1000) ((D+2)*1000) c.ob)) (rJ D q.tk++mX (cB mt) (cK ((D+1)*1000) ((D+2)*1000) c.tk)) w':=by
 let lo:=(D+1)*1000
 let hi:=(D+2)*1000
 have hlo:lo=(D+1)*1000:=rfl;have hhi:hi=(D+2)*1000:=rfl
 let β2:Nat→Nat:=fun k=>if inR D k then x'.β (k-lo)else x.β k
 let τ2:Nat→Nat×Nat×Nat:=fun k=>if inR D k then x'.τ (k-lo)else x.τ k
 have hin:∀k,k<1000→inR D (lo+k)=true:=by intro k hk;simp only [inR,an,decide_eq_true_eq];omega
 have hout:∀k,¬(lo≤k∧k<hi)→inR D k=false:=by intro k hk;rw [Bool.eq_false_iff];intro h;simp only [inR,an,decide_eq_true_eq]at h;exact hk h
 have hβ2:∀k,¬(lo≤k∧k<hi)→β2 k=x.β k:=fun k hk=>by simp only [β2];rw [hout k hk];rfl
 have hτ2:∀k,¬(lo≤k∧k<hi)→τ2 k=x.τ k:=fun k hk=>by simp only [τ2];rw [hout k hk];rfl
 have hβnew:∀k,k<1000→β2 (fx D m k)=x'.β k:=by
  intro k hk
  by_cases hkm:k<m.length
  ·have h1:fx D m k=m.getD k 0:=if_pos hkm
   simp only [β2];rw [h1,hm _ (fV hkm),hg k hkm,h.β k hkm];rfl
  ·have h1:fx D m k=lo+k:=if_neg hkm
   simp only [β2];rw [h1,hin k hk,if_pos rfl];congr 1;omega
 have hτnew:∀k,k<1000→τ2 (gZ D k)=x'.τ k:=by intro k hk;have h1:gZ D k=lo+k:=rfl;simp only [τ2];rw [h1,hin k hk,if_pos rfl];congr 1;omega
 have hG:∀b o v,x.G b o=some v→x'.G b o=some v:=fun b o v hv=>hH.g0 b o v (by show x2.G b o=_;rw [h.G];exact hv)
 refine⟨⟨x'.G,β2,τ2⟩,rfl,hG,hβnew,hτnew,hβ2,hτ2, ?_⟩;rw [qF,F2]
 have hmine:∀b,(Ctx.took x2 w m.length mt.length).mine b→C.mine b:=by
  rintro b (h1|⟨i,hi,rfl⟩|⟨t,h1,h2,h3,rfl⟩)
  ·exact hold.new b (cu hold.size h1)
  ·obtain⟨ob,hob⟩:=h.ob i hi
   rw [h.β i hi];exact(hold.obs _ hob).2.1
  ·rcases h.tok h1 h2 with g|⟨u,_,g1,g2,_⟩
   ·exact absurd g h3
   ·rw [g1]at h3 ⊢
    rcases hold.tks u g2 with k|⟨_,k,_⟩
    ·exact absurd k h3
    ·exact k
 have hkeep:∀b,b<w.heap.size→(∀i,i<m.length→x.β (m.getD i 0)≠b)→(∀u∈cB mt,(x.τ u).2.1=(x.τ u).2.2∨(x.τ u).1≠b)→w'.heap[b]? =w.heap[b]? ∧((∀off,x.G b off=none)→∀off,x'.G b off=none)∧
  (∀off,x.G b off=none→x'.G b off=none):=by
  intro b hb hne hnt
  have hnm:¬(Ctx.took x2 w m.length mt.length).mine b:=by
   rintro(h1|⟨i,hi,h1⟩|⟨t,h1,h2,h3,h4⟩)
   ·omega
   ·rw [h.β i hi]at h1;exact hne i hi h1
   ·rcases h.tok h1 h2 with g|⟨u,_,g1,_,g3⟩
    ·exact h3 g
    ·rw [g1]at h3 h4
     rcases hnt u g3 with k|k
     ·exact h3 k
     ·exact k h4
  have one:∀off,x.G b off=none→x'.G b off=none:=by
   intro off ho;cases hg:x'.G b off with
   |none=>rfl
   |some v=>
    rcases hH.gm b off v hg with h1|h1
    ·change x2.G b off=some v at h1;rw [h.G,ho]at h1;cases h1
    ·exact absurd h1 hnm
  exact⟨hH.ext b hnm,fun h off=>one off (h off),one⟩
 have hlow:∀p∈fk m (bC lo hi c.ob),∃ob,(p.1,ob)∈c.ob∧p.2=ob.purge lo hi∧¬(lo≤p.1∧p.1<hi)∧p.1∉m∧(∀i,i<m.length→x.β (m.getD i 0)≠x.β p.1)∧(∀u∈cB mt,(x.τ u).2.1=(x.τ u).2.2∨(x.τ u).1≠x.β p.1)∧x.β p.1<w.heap.size:=by
  intro p hp;obtain⟨h1,h2⟩:=ix.1 hp;obtain⟨h3,ob,h4,h5⟩:=cC h1;refine⟨ob,h4,h5,h3,h2,fun i hi e=> ?_,fun u hu=> ?_, ?_⟩
  ·obtain⟨ob',hob'⟩:=h.ob i hi
   have:=hold.inj _ hob' _ h4 e;simp only at this;apply h2;rw [←this];exact fV hi
  ·exact(hold.tko u (h.tk u hu) _ h4).symm
  ·obtain⟨⟨c,e,fl,fh,hO,_⟩,_⟩:=hold.obs _ h4
   exact hO.lt
 have hnew:∀p∈q.os.map (fun p=>(fx D m p.1,p.2.ren (fx D m) (gZ D))),∃r∈q.os,p=(fx D m r.1,r.2.ren (fx D m) (gZ D))∧β2 p.1=x'.β r.1:=by intro p hp;obtain⟨r,hr,rfl⟩:=aS.1 hp;exact⟨r,hr,rfl,hβnew _ (hos r hr).1⟩
 have hnewmine:∀r∈q.os,w.heap.size≤x'.β r.1∨(∃i,i<m.length∧x.β (m.getD i 0)=x'.β r.1)∨(∃u∈cB mt,(x.τ u).2.1≠(x.τ u).2.2∧(x.τ u).1=x'.β r.1):=by
  intro r hr;rcases (hH.obs r hr).2.1 with h1|⟨i,hi,h1⟩|⟨t,h1,h2,h3,h4⟩
  ·exact .inl h1
  ·exact .inr (.inl ⟨i,hi,by rw [←h.β i hi];exact h1⟩)
  ·rcases h.tok h1 h2 with g|⟨u,_,g1,_,g3⟩
   ·exact absurd g h3
   ·rw [g1]at h3 h4;exact .inr (.inr ⟨u,g3,h3,h4⟩)
 have htmine:∀t∈q.tk,(x'.τ t).2.1=(x'.τ t).2.2∨w.heap.size≤(x'.τ t).1∨(∃i,i<m.length∧x.β (m.getD i 0)=(x'.τ t).1)∨(∃u∈cB mt,(x.τ u).2.1≠(x.τ u).2.2∧(x.τ u).1=(x'.τ t).1):=by
  intro t ht;rcases hH.tks t ht with k|⟨_,k,_⟩
  ·exact .inl k
  ·right
   rcases k with h1|⟨i,hi,h1⟩|⟨t',h1,h2,h3,h4⟩
   ·exact .inl h1
   ·exact .inr (.inl ⟨i,hi,by rw [←h.β i hi];exact h1⟩)
   ·rcases h.tok h1 h2 with g|⟨u,_,g1,_,g3⟩
    ·exact absurd g h3
    ·rw [g1]at h3 h4;exact .inr (.inr ⟨u,g3,h3,h4⟩)
 have htold:∀t∈mX (cB mt) (cK lo hi c.tk),t∈c.tk∧¬(lo≤t∧t<hi)∧t∉cB mt:=fun t ht=>by obtain⟨h1,h2⟩:=nM.1 ht;obtain⟨h3,h4⟩:=bt.1 h1;exact⟨h3,h4,h2⟩
 have htblock:∀t∈c.tk,t∉cB mt→(x.τ t).2.1=(x.τ t).2.2∨((x.τ t).1<w.heap.size∧(∀i,i<m.length→x.β (m.getD i 0)≠(x.τ t).1)∧(∀u∈cB mt,(x.τ u).2.1=(x.τ u).2.2∨(x.τ u).1≠(x.τ t).1)):=by
  intro t ht hnt;rcases hold.tks t ht with h1|⟨⟨c,e,fl,fh,hO,_⟩,_⟩
  ·exact .inl h1
  ·by_cases he:(x.τ t).2.1=(x.τ t).2.2
   ·exact .inl he
   ·refine .inr ⟨hO.lt,fun i hi e'=> ?_,fun u hu=> ?_⟩
    ·obtain⟨ob,hob⟩:=h.ob i hi
     rcases hold.tko t ht _ hob with h1|h1
     ·exact h1 e'.symm
     ·exact he h1
    ·rcases hold.tkd u (h.tk u hu) t ht (fun e=>hnt (e ▸ hu))with k|k|k
     ·exact .inr k
     ·exact .inl k
     ·exact absurd k he
 refine⟨hH.per,fun b o v hv=>hG _ _ _ (hold.g0 b o v hv), ?_,hold.new, ?_, ?_, ?_, ?_, ?_, ?_,hH.os.trans hold.os,hH.tape.trans hold.tape,hH.output.trans hold.output,cu hold.size hH.size, ?_,fun i hi=>(hβ2 i (by omega)).trans (hold.pin i hi),hold.lay⟩
 ·intro b o v hv
  rcases hH.gm b o v hv with h1|h1
  ·exact hold.gm b o v (by rw [←h.G];exact h1)
  ·exact .inr (hmine b h1)
 ·intro p hp
  rcases aj.1 hp with hp|hp
  ·obtain⟨r,hr,rfl,hb⟩:=hnew p hp
   obtain⟨h1,h2,h3⟩:=hH.obs r hr;refine⟨h1.renF (x2:=⟨x'.G,β2,τ2⟩) (fun _ _ _ h=>h) (hβnew _ (hos r hr).1) (fun k hk=>hβnew k ((hos r hr).2.1 k hk)) (fun t ht=>hτnew t ((hos r hr).2.2 t ht)), ?_,fun off=> ?_⟩
   ·show C.mine (β2 (fx D m r.1));rw [hβnew _ (hos r hr).1];exact hmine _ h2
   ·show x'.G (β2 (fx D m r.1)) off=none;rw [hβnew _ (hos r hr).1];exact h3 off
  ·obtain⟨ob,h1,h2,h3,h4,h5,h6,h7⟩:=hlow p hp
   obtain⟨g1,g2,g3⟩:=hold.obs _ h1;obtain⟨k1,k2,_⟩:=hkeep _ h7 h5 h6;have hb:β2 p.1=x.β p.1:=hβ2 _ h3;refine⟨?_,by show C.mine (β2 p.1);rw [hb];exact g2,fun off=>by show x'.G (β2 p.1) off=none;rw [hb];exact k2 g3 off⟩;rw [h2];exact dU.of_heap (x':=⟨x'.G,β2,τ2⟩) g1 k1 hG hβ2 hτ2 h3
 ·rw [bz,List.nodup_append]
  refine⟨?_, ?_, ?_⟩
  ·rw [List.map_map]
   have hnd':=gE.1 hH.nd;refine gE.2 (List.Pairwise.imp_of_mem (fun {p r} hp hr hne=> ?_) hnd');intro e;simp only [Function.comp]at e;have:x'.β p.1=x'.β r.1:=by rw [←hβnew _ (hos p hp).1,←hβnew _ (hos r hr).1,e]
   exact hne (hH.inj p hp r hr this)
  ·have h1:(fk m (bC lo hi c.ob)).Sublist (bC lo hi c.ob):=ig _ _
   refine pf.sublist (h1.map bv) ?_;rw [eU];exact hold.nd.filter _
  ·intro o1 h1 o2 h2 e
   subst e;obtain⟨p,hp,rfl⟩:=aS.1 h1;obtain⟨r,hr,hre⟩:=aS.1 h2;obtain⟨u,hu,rfl⟩:=aS.1 hp;obtain⟨ob,k1,k2,k3,k4,_⟩:=hlow r hr;simp only at hre
   by_cases hum:u.1<m.length
   ·apply k4;rw [hre];show fx D m u.1∈m;unfold fx;rw [if_pos hum];exact fV hum
   ·apply k3;rw [hre];show lo≤fx D m u.1∧fx D m u.1<hi
    unfold fx;rw [if_neg hum];have:=(hos u hu).1;omega
 ·intro p hp r hr hpr
  change β2 p.1=β2 r.1 at hpr;rcases aj.1 hp with hp|hp<;>rcases aj.1 hr with hr|hr
  ·obtain⟨p',hp',rfl,hb⟩:=hnew p hp
   obtain⟨r',hr',rfl,hb'⟩:=hnew r hr;rw [hb,hb']at hpr;have:=hH.inj p' hp' r' hr' hpr;simp only;rw [this]
  ·obtain⟨p',hp',rfl,hb⟩:=hnew p hp
   obtain⟨ob,k1,k2,k3,k4,k5,k6,k7⟩:=hlow r hr;rw [hb,hβ2 _ k3]at hpr;rcases hnewmine p' hp' with h1|⟨i,hi,h1⟩|⟨u,hu,h1,h2⟩
   ·omega
   ·exact absurd (h1.trans hpr) (k5 i hi)
   ·rcases k6 u hu with g|g
    ·exact absurd g h1
    ·exact absurd (h2.trans hpr) g
  ·obtain⟨r',hr',rfl,hb⟩:=hnew r hr
   obtain⟨ob,k1,k2,k3,k4,k5,k6,k7⟩:=hlow p hp;rw [hb,hβ2 _ k3]at hpr;rcases hnewmine r' hr' with h1|⟨i,hi,h1⟩|⟨u,hu,h1,h2⟩
   ·omega
   ·exact absurd (h1.trans hpr.symm) (k5 i hi)
   ·rcases k6 u hu with g|g
    ·exact absurd g h1
    ·exact absurd (h2.trans hpr.symm) g
  ·obtain⟨ob,k1,k2,k3,_⟩:=hlow p hp
   obtain⟨ob',k1',k2',k3',_⟩:=hlow r hr;rw [hβ2 _ k3,hβ2 _ k3']at hpr;exact hold.inj (p.1,ob) k1 (r.1,ob') k1' hpr
 ·intro t ht
  rcases aj.1 ht with ht|ht
  ·obtain⟨u,hu,rfl⟩:=aS.1 ht
   have:=hH.tks u hu;unfold io at this ⊢;simp only [hτnew u (htk u hu)];exact this.imp id fun⟨h1,h2,h3⟩=>⟨h1,hmine _ h2,h3⟩
  ·obtain⟨h1,h2,h3⟩:=htold t ht
   have:=hold.tks t h1;unfold io at this ⊢;simp only [hτ2 t h2];rcases this with g|⟨⟨c,e,fl,fh,hO,hc⟩,h4,h5⟩
   ·exact .inl g
   ·rcases htblock t h1 h3 with g|⟨k1,k2,k3⟩
    ·exact .inl g
    ·obtain⟨g1,_,g2⟩:=hkeep _ k1 k2 k3
     exact .inr ⟨⟨c,e,fl,fh,hO.of_heap g1,hc⟩,h4,fun o ho1 ho2=>g2 o (h5 o ho1 ho2)⟩
 ·intro t ht p hp
  rcases aj.1 ht with ht|ht<;>rcases aj.1 hp with hp|hp
  ·obtain⟨u,hu,rfl⟩:=aS.1 ht
   obtain⟨r,hr,rfl,hb⟩:=hnew p hp;show(τ2 (gZ D u)).1≠β2 (fx D m r.1)∨(τ2 (gZ D u)).2.1=(τ2 (gZ D u)).2.2;rw [hτnew u (htk u hu),hβnew _ (hos r hr).1];exact hH.tko u hu r hr
  ·obtain⟨u,hu,rfl⟩:=aS.1 ht
   obtain⟨ob,k1,k2,k3,k4,k5,k6,k7⟩:=hlow p hp;show(τ2 (gZ D u)).1≠β2 p.1∨(τ2 (gZ D u)).2.1=(τ2 (gZ D u)).2.2;rw [hτnew u (htk u hu),hβ2 _ k3];rcases htmine u hu with g|g|⟨i,hi,g⟩|⟨v,hv,g1,g2⟩
   ·exact .inr g
   ·left;intro e;omega
   ·left;intro e;exact k5 i hi (g.trans e)
   ·left;intro e
    rcases k6 v hv with k|k
    ·exact g1 k
    ·exact k (g2.trans e)
  ·obtain⟨h1,h2,h3⟩:=htold t ht
   obtain⟨r,hr,rfl,hb⟩:=hnew p hp;show(τ2 t).1≠β2 (fx D m r.1)∨(τ2 t).2.1=(τ2 t).2.2;rw [hτ2 t h2,hβnew _ (hos r hr).1];rcases htblock t h1 h3 with g|⟨k1,k2,k3⟩
   ·exact .inr g
   ·left;intro e
    rcases hnewmine r hr with g|⟨i,hi,g⟩|⟨v,hv,g1,g2⟩
    ·omega
    ·exact k2 i hi (g.trans e.symm)
    ·rcases k3 v hv with k|k
     ·exact g1 k
     ·exact k (g2.trans e.symm)
  ·obtain⟨h1,h2,h3⟩:=htold t ht
   obtain⟨ob,k1,k2,k3,_⟩:=hlow p hp;show(τ2 t).1≠β2 p.1∨(τ2 t).2.1=(τ2 t).2.2;rw [hτ2 t h2,hβ2 _ k3];exact hold.tko t h1 (p.1,ob) k1
 ·intro t ht u hu htu
  show lM (τ2 t) (τ2 u)∨(τ2 t).2.1=(τ2 t).2.2∨(τ2 u).2.1=(τ2 u).2.2;rcases aj.1 ht with ht|ht<;>rcases aj.1 hu with hu|hu
  ·obtain⟨t',ht',rfl⟩:=aS.1 ht
   obtain⟨u',hu',rfl⟩:=aS.1 hu;rw [hτnew t' (htk t' ht'),hτnew u' (htk u' hu')];exact hH.tkd t' ht' u' hu' (fun e=>htu (by rw [e]))
  ·obtain⟨t',ht',rfl⟩:=aS.1 ht
   obtain⟨h1,h2,h3⟩:=htold u hu;rw [hτnew t' (htk t' ht'),hτ2 u h2];rcases htblock u h1 h3 with k|⟨k1,k2,k3⟩
   ·exact .inr (.inr k)
   ·rcases htmine t' ht' with g|g|⟨i,hi,g⟩|⟨v,hv,g1,g2⟩
    ·exact .inr (.inl g)
    ·exact .inl fun e=>by omega
    ·exact .inl fun e=>k2 i hi (g.trans e)
    ·refine .inl fun e=> ?_
     rcases k3 v hv with k|k
     ·exact g1 k
     ·exact k (g2.trans e)
  ·obtain⟨u',hu',rfl⟩:=aS.1 hu
   obtain⟨h1,h2,h3⟩:=htold t ht;rw [hτnew u' (htk u' hu'),hτ2 t h2];rcases htblock t h1 h3 with k|⟨k1,k2,k3⟩
   ·exact .inr (.inl k)
   ·rcases htmine u' hu' with g|g|⟨i,hi,g⟩|⟨v,hv,g1,g2⟩
    ·exact .inr (.inr g)
    ·exact .inl fun e=>by omega
    ·exact .inl fun e=>k2 i hi (g.trans e.symm)
    ·refine .inl fun e=> ?_
     rcases k3 v hv with k|k
     ·exact g1 k
     ·exact k (g2.trans e.symm)
  ·obtain⟨h1,h2,_⟩:=htold t ht
   obtain⟨h3,h4,_⟩:=htold u hu;rw [hτ2 t h2,hτ2 u h4];exact hold.tkd t h1 u h3 htu
 ·intro b hb
  have hnm:¬(Ctx.took x2 w m.length mt.length).mine b:=fun h=>hb (hmine b h)
  exact(hH.ext b hnm).trans (hold.ext b hb)
end Go.Sy
namespace Go.Sy
variable [ba]
variable {P : Program} {C : Ctx} {x : Sit} {a : Act} {w : World} {N : Nat} {c c' : CSt} {s : St}
theorem wO (t:Tok):t.ren (fun k=>k)=t:=by cases t<;>rfl
theorem xgz (sv:SV):sv.ren (fun k=>k) (fun k=>k)=sv:=by
 refine SV.rec (motive_1:=fun sv=>sv.ren (fun k=>k) (fun k=>k)=sv) (motive_2:=fun _=>True) (motive_3:=fun l=>SV.renL (fun k=>k) (fun k=>k) l=l)
  ?_ ?_ ?_ ?_ ?_ ?_ ?_ ?_ ?_ ?_ ?_ ?_ ?_ ?_ ?_ ?_ ?_ ?_ ?_ ?_ sv
 all_goals intros
 all_goals first
  |trivial
  |rfl
  |(simp only [SV.ren,SV.renL,wO];done)
  |(simp only [SV.ren,SV.renL, *])
theorem xgl {q:ec} (h:q.small=true):(∀p∈q.os,p.1<1000∧(∀k∈p.2.ids,k<1000)∧∀k∈p.2.toks,k<1000)∧(∀k∈q.r.ids,k<1000)∧(∀k∈q.r.toks,k<1000)∧∀k∈q.tk,k<1000:=by simp only [ec.small,an,aM,decide_eq_true_eq]at h;obtain⟨⟨⟨h1,h2⟩,h3⟩,h4⟩:=h;exact⟨fun p hp=>⟨(h1 p hp).1.1,(h1 p hp).1.2,(h1 p hp).2⟩,h2,h3,h4⟩
theorem oD {d:Option Nat} {m:List Nat} {mt:List (Option Nat)} {q:ec} {x2 x':Sit} {w':World} {v:Value} (hM:aI C x s a w) (hS:Sim N c s) (hd:∀k,d=some k→k<N) (h:Ff x x2 c m mt)
 (hH:cZ (Ctx.took x2 w m.length mt.length) x' q.os q.tk w') (hr:Rep x' q.r v) (hwf:∀p∈q.os,p.2.wf=true) (hg:∀i,i<m.length→x'.β i=x2.β i) (hm:∀o∈m,inR (d.getD 0) o=false) (hs:q.small=true):
 M C N (jZ c d m (cB mt) q) (a.put d v) w':=by
 obtain⟨s1,s2,s3,s4⟩:=xgl hs;have hE:=hS.exact hM;obtain⟨x3,g1,g2,g3,g4,g5,g6,g7⟩:=wN hE.heap h hH hm s1 s4 hg
 let c3:CSt:=⟨dA ((d.getD 0+1)*1000) ((d.getD 0+2)*1000) c.tm,rK (fk m (bC ((d.getD 0+1)*1000) ((d.getD 0+2)*1000) c.ob)) (pD (d.getD 0) m q.os),
  rL (mX (cB mt) (cK ((d.getD 0+1)*1000) ((d.getD 0+2)*1000) c.tk)) (rJ (d.getD 0) q.tk)⟩
 have hI:Inv N c3:=by
  refine⟨fun p hp=> ?_,AK ?_,fun p hp=> ?_⟩
  ·obtain⟨r,hr,e⟩:=jy hp
   rw [e];exact hS.inv.dom r hr
  ·exact List.Pairwise.sublist ((ig _ _).map bv) (vB hS.inv.so)
  ·rcases nL hp with e|e
   ·rw [qF]at e
    obtain⟨r,hr,rfl⟩:=aS.1 e;exact yI (hwf r hr)
   ·obtain⟨_,ob,h1,h2⟩:=cC (ix.1 e).1
    rw [h2];exact qz (hS.inv.wf _ h1)
 have hM3:aI C x3 (c3.st N) a w':=by
  refine⟨⟨?_,fun i hi=> ?_⟩,hM.defers,g7.only (fun p hp=> ?_) (jh hI.so) (fun t ht=> ?_)⟩
  ·have:=hE.tm.1;simpa [CSt.st]using this
  ·have hiN:i<N:=by simpa [CSt.st]using hi
   have h1:=hE.tm.2 i (by simpa [CSt.st]using hiN);simp only [CSt.st,aa,aJ,cy hiN,bf,bg]at h1 ⊢;have e:c3.get i=(c.get i).purge ((d.getD 0+1)*1000) ((d.getD 0+2)*1000):=gy _ _ i c.tm;rw [e];exact h1.mono (x':=x3) g2 g5 g6
  ·rcases nL hp with e|e
   ·exact aj.2 (.inl e)
   ·exact aj.2 (.inr e)
  ·rcases sf.1 ht with e|e
   ·exact aj.2 (.inl e)
   ·exact aj.2 (.inr e)
 refine⟨x3,_,hM3.put d (c:=q.r.ren (fx (d.getD 0) m) (gZ (d.getD 0))) ?_,(Sim.of hI).put hd _⟩;exact Rep.renF (x:=x') (x2:=x3) (fun b o v hv=>by rw [g1];exact hv) hr (fun k hk=>g3 k (s2 k hk)) (fun t ht=>g4 t (s3 t ht))
theorem x8 {call:cr} {g:Nat} {d:Option Nat} {as:List SV} {vs:List Value} (hM:aI C x s a w) (hS:Sim N c s) (hd:∀k,d=some k→k<N) (hsp:∀as os k q,call g as os k=some q→oX P g as os k (· =q))
 (hc:mU c d (call g (SV.bareL as) [] 0)=some c') (hvs:cn x as vs):Calls P g ⟨vs⟩ w fun en w'=>∃v,en= .returned v∧M C N c' (a.put d v) w':=by
 cases hq:call g (SV.bareL as) [] 0 with
 |none=>rw [hq]at hc;cases hc
 |some q=>
  rw [hq]at hc
  have hb:cn x (SV.bareL as) vs:=by rw [fv];refine⟨by simpa using hvs.1,fun i hi=> ?_⟩;rw [aP _ (by rfl)];exact(hvs.2 i (by simpa using hi)).bare rfl rfl
  obtain⟨_,hS'⟩:=hsp _ _ _ _ hq
  by_cases hbare:q.bare=true
  ·simp only [mU,hbare,oR,av.injEq]at hc
   subst hc;have hcal:=ko (m:=[]) (os:=[]) (mo:=fun k=>k) (mt:=fun k=>k) hM (fun i hi=>by simp at hi) rfl (by simp) (fun i hi=>by simp at hi);refine(hS' (Ctx.callee x w [] (x.back (fun k=>k) (fun k=>k)).β) x w vs rfl rfl ?_ (by simp) (by simp) hcal hb).mono ?_
   ·rintro b (h|⟨i,hi,_⟩)
    ·exact .inl h
    ·simp at hi
   ·rintro en w' ⟨v,x',q',rfl,hq',hr,hH,hwf,_⟩
    subst hq';simp only [ec.bare,an,List.isEmpty_iff]at hbare;obtain⟨⟨⟨b1,b2⟩,b3⟩,b4⟩:=hbare
    obtain⟨hG,hA⟩:=l5 (m:=[]) (os:=[]) (mo:=fun k=>k) (mt:=fun k=>k) (lo:=0) (hi:=0) (β2:=x.β) (τ2:=x.τ) hM rfl (fun i hi=>by simp at hi) hH (fun i hi=>by simp at hi) (fun i hi=>by omega) (fun _ _=>rfl) (fun _ _=>rfl)
     (fun p hp=>by rw [b1]at hp;cases hp) (fun p hp=>by rw [b1]at hp;cases hp) (fun p hp=>by rw [b1]at hp;cases hp) (fun p hp=>by rw [b1]at hp;cases hp) (fun t ht=>by rw [b2]at ht;cases ht)
    have hA':cZ C ⟨x'.G,x.β,x.τ⟩ s.ob s.tk w':=by
     refine hA.only (fun p hp=> ?_) hM.heap.nd (fun t ht=> ?_)
     ·exact aj.2 (.inr (ix.2 ⟨by rw [vN];exact hp,by simp⟩))
     ·exact aj.2 (.inr (bt.2 ⟨ht,by omega⟩))
    refine⟨v,rfl,⟨x'.G,x.β,x.τ⟩,_, ?_,hS.put hd q'.r⟩;refine aI.put ⟨cn.grow (x:=x) (x':=⟨x'.G,x.β,x.τ⟩) hG rfl rfl hM.tm,hM.defers,hA'⟩ d ?_;have:=Rep.renF (x:=x') (x2:=⟨x'.G,x.β,x.τ⟩) (mo:=fun k=>k) (mt:=fun k=>k) (fun _ _ _ h=>h) hr (fun k hk=>by rw [b3]at hk;cases hk) (fun t ht=>by rw [b4]at ht;cases ht);rwa [xgz]at this
  ·have hbf:q.bare=false:=by simpa using hbare
   simp only [mU,hbf,oR]at hc;cases hsm:q.small with
   |false=>rw [hsm]at hc;cases hc
   |true=>
    rw [hsm]at hc;simp only [ya,av.injEq]at hc;subst hc;have hE:=hS.exact hM;have hT:Ff x x c [] []:=⟨rfl,fun i hi=>by simp at hi,fun k hk=>by simp at hk,by simp,fun i hi=>by simp at hi,by simp [cB],fun t ht=>by simp [cB]at ht⟩;refine(hS' (Ctx.took x w 0 0) x w vs rfl rfl ?_ (by simp) (by simp) (rT hE.heap hT rfl (fun i hi=>by simp at hi)) hb).mono ?_
    ·rintro b h;exact h
    ·rintro en w' ⟨v,x',q',rfl,hq',hr,hH,hwf,_⟩
     subst hq';exact⟨v,rfl,oD hM hS hd hT hH hr hwf (fun i hi=>by simp at hi) (fun o ho=>by simp at ho) hsm⟩
theorem w9 {call:cr} {sg:Sig} {g:Nat} {d:Option Nat} {as:List SV} {vs:List Value} (hM:aI C x s a w) (hS:Sim N c s) (hd:∀k,d=some k→k<N) (hsp:∀as os k q,call g as os k=some q→oX P g as os k (· =q))
 (hc:jS call sg d g (c,as)=some c') (hvs:cn x as vs):Calls P g ⟨vs⟩ w fun en w'=>∃v,en= .returned v∧M C N c' (a.put d v) w':=by
 simp only [jS]at hc;generalize hz:kb c.tk sg.own 50 0 as=z at hc;obtain⟨as2,mt1⟩:=z;simp only [oK]at hc;generalize dO c 60 [] (SV.idsL as2)=m at hc;cases ho:gF c m with
 |none=>rw [ho]at hc;cases hc
 |some os0=>
  rw [ho]at hc;simp only [lT]at hc;generalize hz2:ed c.tk (50+mt1.length) os0=z2 at hc;obtain⟨os,mt2⟩:=z2;simp only [oJ]at hc;cases hb:(po (SV.idsL as2++fL os) m&&dB m&&dB (cB (mt1++mt2))&&decide (m.length≤40)&&m.all fun o=> !inR (d.getD 0) o)with
  |false=>rw [hb]at hc;cases hc
  |true=>
   rw [hb]at hc;simp only [oI]at hc;simp only [an,decide_eq_true_eq,aM,bZ]at hb;obtain⟨⟨⟨⟨hsub,hmn⟩,htn⟩,hlen⟩,hin⟩:=hb;cases hq:call g (SV.renL (eB m) id as2) (ei (eB m) id os) (mt1.length+mt2.length)with
   |none=>rw [hq]at hc;cases hc
   |some q=>
    rw [hq]at hc;simp only [py]at hc;cases hsm:q.small with
    |false=>rw [hsm]at hc;cases hc
    |true=>
     rw [hsm]at hc;simp only [xb,av.injEq]at hc;subst hc;have hE:=hS.exact hM;obtain⟨hol,hog⟩:=qL ho
     let τ2:Nat→Nat×Nat×Nat:=fun t=>if 50≤t∧t<50+(mt1++mt2).length then QW x ((mt1++mt2).getD (t-50) none)else(0,0,0)
     let x1:Sit:=⟨x.G,x.β,τ2⟩
     let x2:Sit:=⟨x.G,fun i=>x.β (m.getD i 0),τ2⟩
     have hτ:∀y:Sit,y.τ=τ2→qr x y 50 (mt1++mt2):=by
      intro y hy k hk;rw [hy];show(if _ then _ else _)=_;rw [if_pos ⟨by omega,by omega⟩]
      congr 2;omega
     have hmem:∀i,i<m.length→(m.getD i 0,os0.getD i (.rc []))∈c.ob:=fun i hi=>iF (hog i hi)
     have hsubm:=vx hsub;have hmnd:=jx hmn
     have hT:Ff x x2 c m (mt1++mt2):=by
      refine⟨rfl,fun _ _=>rfl,hτ x2 rfl,hmnd,fun i hi=>⟨_,hmem i hi⟩,jx htn,fun t ht=> ?_⟩;rw [fI,aj]at ht;rcases ht with ht|ht
      ·have:=pn (tk:=c.tk) (own:=sg.own) (cs:=as) (j:=50) (i:=0) t (by rw [hz];exact ht)
       exact this
      ·have:=nG (tk:=c.tk) (obs:=os0) (j:=50+mt1.length) t (by rw [hz2];exact ht)
       exact this
     have hTx1:=hτ x1 rfl
     have ha1:cn x1 as2 vs:=by have:=mK (x:=x) (x1:=x1) rfl rfl (tk:=c.tk) (own:=sg.own) (j:=50) (i:=0) hvs (by rw [hz];exact hTx1.left);rwa [hz]at this
     have hβ:∀o∈m,x2.β (eB m o)=x.β o:=fun o ho=>by show x.β (m.getD (eB m o) 0)=_;rw [(nm ho).2]
     have ha2:cn x2 (SV.renL (eB m) id as2) vs:=by
      rw [dq];refine⟨by simpa using ha1.1,fun i hi=> ?_⟩;have hi':i<as2.length:=by simpa using hi
      rw [aP _ (by rfl)];exact Rep.renF (x:=x1) (x2:=x2) (fun _ _ _ h=>h) (ha1.2 i hi') (fun k hk=>hβ k (hsubm k (aj.2 (.inl (iy hi' k hk))))) (fun t _=>rfl)
     obtain⟨hosl,hosr⟩:=lR (x:=x) (x1:=x1) (w:=w) rfl rfl (tk:=c.tk) (obs:=os0) (j:=50+mt1.length) (f:=fun i=>m.getD i 0)
      (fun i hi=>(hE.heap.obs _ (hmem i (by omega))).1) (by rw [hz2];exact hTx1.right)
     rw [hz2]at hosl hosr;simp only at hosl hosr
     have hob2:∀i,i<m.length→dU x2 w i ((ei (eB m) id os).getD i (.rc [])):=by
      intro i hi;have h1:=hosr i (by omega);have hio:i<os.length:=by omega
      have e:(ei (eB m) id os).getD i (.rc [])=(os.getD i (.rc [])).ren (eB m) id:=by rw [gB,aa,aa,aJ,ab hio];rfl
      rw [e];have hm':=fV (m:=m) hi;have hos:os.getD i (.rc [])∈os:=by rw [aa,ab hio];exact aT _
      have h2:=h1.renF (x2:=x2) (mo:=eB m) (mt:=id) (fun _ _ _ h=>h) (hβ _ hm') (fun k hk=>hβ k (hsubm k (aj.2 (.inr (pL hos k hk))))) (fun t _=>rfl);have e2:eB m (m.getD i 0)=i:=lV hmnd (nm hm').1 hi (nm hm').2;rwa [e2]at h2
     have hrl:(ei (eB m) id os).length=m.length:=by rw [gB,aQ];omega
     obtain⟨_,hS'⟩:=hsp _ _ _ _ hq;have hl12:mt1.length+mt2.length=(mt1++mt2).length:=by simp
     rw [hl12]at hS';refine(hS' (Ctx.took x2 w m.length (mt1++mt2).length) x2 w vs rfl rfl ?_ (by omega) ?_ (rT hE.heap hT hrl hob2) ha2).mono ?_
     ·rintro b h;rw [hrl];exact h
     ·intro o ho'
      rw [gB]at ho';obtain⟨r,hr,rfl⟩:=aS.1 ho';refine yI ?_
      have:=nF (tk:=c.tk) (obs:=os0) (j:=50+mt1.length) (fun o h'=>by obtain⟨i,hi,rfl⟩:=bV h';have:=hS.inv.wf _ (hmem i (by omega));simpa [aa,ab hi]using this) r (by rw [hz2];exact hr)
      exact this
     ·rintro en w' ⟨v,x',q',rfl,hq',hr,hH,hwf,hg⟩
      subst hq';exact⟨v,rfl,oD hM hS hd hT hH hr hwf (fun i hi=>hg i (by omega)) (fun o ho'=>hin o ho') hsm⟩
theorem vq {call:cr} {sg:Sig} {g:Nat} {d:Option Nat} {as:List SV} {vs:List Value} (hM:aI C x s a w) (hS:Sim N c s) (hd:∀k,d=some k→k<N) (hsp:∀as os k q,call g as os k=some q→oX P g as os k (· =q))
 (hc:iB call sg c d g as=some c') (hvs:cn x as vs):Calls P g ⟨vs⟩ w fun en w'=>∃v,en= .returned v∧M C N c' (a.put d v) w':=by
 unfold iB at hc;generalize ((SV.idsL as).isEmpty&&sg.own.isEmpty)=b at hc;cases b with
 |true=>exact x8 hM hS hd hsp hc hvs
 |false=>simp only [jX]at hc;obtain⟨x1,s1,h1,h2,h3⟩:=js (l:=i7 sg.raw 0 as) hM hS hvs;exact w9 h1 h2 hd hsp hc h3
end Go.Sy
namespace Go.Sy
variable [ba]
variable {P : Program} {C : Ctx} {x : Sit} {a : Act} {w : World} {N : Nat} {c c' : CSt} {s : St} {call : cr} {sg : Nat → Sig}
def fN (P:Program) (call:cr):Prop:=∀g as os k q,call g as os k=some q→oX P g as os k (· =q)
theorem yh {sg:Sig} {d:Option Nat} {g:Nat} {as:List SV} (hc:iB call sg c d g as=some c'):∃as' os k q,call g as' os k=some q:=by
 unfold iB at hc;generalize ((SV.idsL as).isEmpty&&sg.own.isEmpty)=b at hc;cases b with
 |true=>
  simp only [jX]at hc;cases hq:call g (SV.bareL as) [] 0 with
  |none=>rw [hq]at hc;cases hc
  |some q=>exact⟨_,_,_,q,hq⟩
 |false=>
  simp only [jX]at hc;generalize eV c as (i7 sg.raw 0 as)=z at hc;obtain⟨c1,as1⟩:=z;simp only [jS]at hc;generalize kb c1.tk sg.own 50 0 as1=z at hc;obtain⟨as2,mt1⟩:=z;simp only [oK]at hc;cases ho:gF c1 (dO c1 60 [] (SV.idsL as2))with
  |none=>rw [ho]at hc;cases hc
  |some os0=>
   rw [ho]at hc;simp only [lT]at hc;generalize ed c1.tk (50+mt1.length) os0=z at hc;obtain⟨os,mt2⟩:=z;simp only [oJ]at hc;generalize (po (SV.idsL as2++fL os) (dO c1 60 [] (SV.idsL as2))&&dB (dO c1 60 [] (SV.idsL as2))&&dB (cB (mt1++mt2))&&decide ((dO c1 60 [] (SV.idsL as2)).length≤40)&&(dO c1 60 [] (SV.idsL as2)).all fun o=> !inR (d.getD 0) o)=b at hc;cases b with
   |false=>cases hc
   |true=>
    simp only [oI]at hc;cases hq:call g (SV.renL (eB (dO c1 60 [] (SV.idsL as2))) id as2) (ei (eB (dO c1 60 [] (SV.idsL as2))) id os) (mt1.length+mt2.length)with
    |none=>rw [hq]at hc;cases hc
    |some q=>exact⟨_,_,_,q,hq⟩
theorem cZ.freeze {ob:List (Nat×aB)} {tk:List Nat} (h:cZ C x ob tk w) {b:Nat} (hb:C.mine b) (ho:∀p∈ob,x.β p.1≠b) (ht:∀t∈tk,(x.τ t).1≠b∨(x.τ t).2.1=(x.τ t).2.2) (off n:Nat):
 cZ C x ob tk (w.freeze ⟨b,off,none⟩ n):=by
 have hne:∀b',b'≠b→(w.freeze ⟨b,off,none⟩ n).heap[b']? =w.heap[b']? :=by
  intro b' h';unfold World.freeze;split
  ·rfl
  ·simp only [Array.getElem?_modify,if_neg (Ne.symm h')]
 have hcell:∀b' i,(w.freeze ⟨b,off,none⟩ n).cell? ⟨b',i,none⟩=w.cell? ⟨b',i,none⟩:=by
  intro b' i
  by_cases h':b'=b
  ·subst h'
   unfold World.freeze;split
   ·rfl
   ·simp only [World.cell?,Array.getElem?_modify,if_true]
    cases hw:w.heap[b']? with
    |none=>rfl
    |some q=>cases q<;>rfl
  ·exact de (hne b' h')
 have hsz:(w.freeze ⟨b,off,none⟩ n).heap.size=w.heap.size:=by unfold World.freeze;split<;>simp
 have hos:(w.freeze ⟨b,off,none⟩ n).os=w.os∧(w.freeze ⟨b,off,none⟩ n).tape=w.tape∧(w.freeze ⟨b,off,none⟩ n).output=w.output:=by unfold World.freeze;split<;>exact⟨rfl,rfl,rfl⟩
 refine⟨fun b' i v hv=>by rw [hcell];exact h.per b' i v hv,h.g0,h.gm,h.new,fun p hp=> ?_,h.nd,h.inj,fun t ht'=> ?_,h.tko,h.tkd,hos.1.trans h.os,hos.2.1.trans h.tape,hos.2.2.trans h.output,by rw [hsz];exact h.size,fun b' hb'=> ?_,h.pin,h.lay⟩
 ·obtain⟨⟨cc,e,fl,fh,hO,r⟩,q⟩:=h.obs p hp
  exact⟨⟨cc,e,fl,fh,hO.of_heap (hne _ (ho p hp)),r⟩,q⟩
 ·rcases h.tks t ht' with h1|⟨⟨cc,e,fl,fh,hO,h2⟩,h3⟩
  ·exact .inl h1
  ·rcases ht t ht' with h4|h4
   ·exact .inr ⟨⟨cc,e,fl,fh,hO.of_heap (hne _ h4),h2⟩,h3⟩
   ·exact .inl h4
 ·rw [hne b' (fun e=>hb' (e ▸ hb))];exact h.ext b' hb'
theorem Sk {o:Oper} {q:Arg} (hr:bo P o=some (.slid q)):∃src X e,o.op= .convert src src X∧P.underlying src=some (.slice e)∧mm P e=true∧bn P src X=some q:=by
 cases ho:o.op with
 |convert src dst X=>
  simp only [bo,ho]at hr;split at hr<;>try (cases hr;done)
  ·split at hr<;>cases hr
  ·split at hr<;>cases hr
  ·rename_i e q' hs hd hX
   split at hr<;>try (cases hr;done)
   rename_i hc;simp only [an,decide_eq_true_eq]at hc;obtain⟨rfl,h8⟩:=hc;cases hr;exact⟨src,X,e,rfl,hd,h8,hX⟩
 |_=>exfalso;exact absurd hr (by
  intro hr;simp only [bo,ho]at hr
  first
   |(cases hr;done)
   |(obtain⟨_,_,h⟩:=ai.1 hr;cases h;done)
   |(repeat' split at hr)<;>first|(cases hr;done)|contradiction|(obtain⟨_,_,h⟩:=ai.1 hr;first|(cases h;done)|(split at h<;>cases h;done)))
theorem F0 {o:Oper} {xs:List Arg} (hr:bo P o=some (.newB xs)):False:=by
 cases ho:o.op with
 |buildSlice t len parts=>
  simp only [bo,ho]at hr;split at hr<;>try (cases hr;done)
  split at hr<;>try (cases hr;done)
  split at hr<;>try (cases hr;done)
  obtain⟨_,_,h⟩:=ai.1 hr;split at h<;>cases h
 |_=>
  simp only [bo,ho]at hr
  first
   |(cases hr;done)
   |(obtain⟨_,_,h⟩:=ai.1 hr;cases h;done)
   |(repeat' split at hr)<;>first|(cases hr;done)|contradiction|(obtain⟨_,_,h⟩:=ai.1 hr;first|(cases h;done)|(split at h<;>cases h;done))
theorem xe {o:Oper} {q:Arg} (h:M C N c a w) (hr:bo P o=some (.slid q)) (hd:∀k,o.dst=some k→k<N) (hc:rI c o.dst (c.ev q)=some c') {K:Act→World→Prop} {Q:Exit→Act→World→Prop} (hK:∀a w,M C N c' a w→K a w):o.wp P a w K Q:=by
 obtain⟨x,s,hM,hS⟩:=h;unfold rI at hc;split at hc<;>try (cases hc;done)
 rename_i o' off n cap hq;unfold pz at hc;split at hc<;>try (cases hc;done)
 rename_i l hl;split at hc<;>try (cases hc;done)
 rename_i hcond;obtain⟨hb,rfl⟩:=hcond;cases hc;obtain⟨src,X,e,ho,hu,h8,hX⟩:=Sk hr;have hv:=aK hM hX;rw [hS.ev,hq]at hv;obtain⟨cp,hnc,hcp,off',hval,hoff⟩:=hv.psl_inv;have hls:s.look o'=some (.bar l):=(hS.look o').trans hl;obtain⟨cc,e',fl,fh,hO,hsz,_⟩:=ft hM hls;have hob:=hM.heap.obs _ (cW hls);obtain⟨x',⟨hβ,hτ⟩,hp,s',hM',hS'⟩:=pH hl (fun cs e=>by cases e) hM hS
 have hval':Rep x' (.byt ((l.drop off).take n) .clip) (a.eval X):=by have:=hp _ _ hv;simpa only [SV.pub,if_true,xD,true_and,if_pos hb]using this
 have h1:∀p∈s'.ob,x'.β p.1≠x.β o':=by intro p hp' e;rw [hβ]at e;have h2:s'.look p.1=some p.2:=pR hM'.heap.nd hp';rw [hS'.look]at h2;obtain⟨h3,q',h4,_⟩:=kI (iF h2);have h5:=jl (jh hS.inv.so) h4;exact h3 (hM.heap.inj (p.1,q') (cW ((hS.look p.1).trans h5)) _ (cW hls) e)
 have h2:∀t∈s'.tk,(x'.τ t).1≠x.β o'∨(x'.τ t).2.1=(x'.τ t).2.2:=by intro t ht;rw [hτ];exact hM.heap.tko t ((hS.tk t).2 ((hS'.tk t).1 ht)) _ (cW hls)
 have hfr:aI C x' s' a (w.freeze ⟨x.β o',cc.size,none⟩ 1):=⟨hM'.tm,hM'.defers,hM'.heap.freeze hob.2.1 h1 h2 _ _⟩
 have hrun:(execOp a.eval o).run P w= .ok (.value (a.eval X)) (w.freeze ⟨x.β o',cc.size,none⟩ 1):=by have hm:(markStringish ⟨x.β o',off',none⟩).run P w= .ok () (w.freeze ⟨x.β o',cc.size,none⟩ 1):=eC (e:=e') (by simp only [World.shape?,hO.1]);simp only [execOp,ho,hval,convert,az,run_underlying hu,al,beq_self_eq_true,run_underlying (jn h8),hm,aE]
 refine cA ⟨a.eval X,_,x',_,hrun,.inl rfl,hfr.put o.dst hval'⟩ (k:=Sim N _) ?_ hK;have e1:(c.publish o' []).1=⟨mf o' (.bar l) c.tm,lx o' (.bar l) c.ob,c.tk⟩:=by unfold CSt.publish;rw [hl]
 rw [e1];exact hS'.put hd _
theorem pM {o:Oper} {xs:List Arg} (h:M C N c a w) (hr:bo P o=some (.litB xs)) (hd:∀k,o.dst=some k→k<N) (hc:oP c o.dst (toB (evL c xs))=some c') {K:Act→World→Prop} {Q:Exit→Act→World→Prop} (hK:∀a w,M C N c' a w→K a w):o.wp P a w K Q:=by
 obtain⟨x,s,hM,hS⟩:=h;rw [hS.evL]at hc;unfold oP at hc;split at hc<;>try (cases hc;done)
 rename_i k l hk hl;cases hc;obtain⟨t,len,parts,ho⟩:=Tt hr;obtain⟨r,e,hrun,hsz,hcell⟩:=xw hM ho hr hl
 have hM':=hM.newObj (d:=k+100) o.dst (by omega) (.bar l) (val:= .psl (k+100) 1 0 l.length (some l.length)) (u:= .slice (some ⟨w.heap.size,0,none⟩) l.length l.length) (t:=e) hsz (fun i hi=>by
  show cS x.G (.u8 (l.getD i 0)) _;rw [hcell i hi];exact .u8 _) (by
  have:=Rep.psl (x:=x.newO (k+100) w.heap.size) (k+100) 1 0 l.length (some l.length) 0 l.length (.inr rfl) (aZ _) (fun _ e=>by cases e;rfl);rwa [jV]at this)
 refine cA ⟨_,_,_,_,hrun,.inl rfl,hM'⟩ (k:=Sim N _) ?_ hK;have:=hS.app hd (e:= {val:= .psl (k+100) 1 0 l.length (some l.length),new:=some (.bar l)}) (f:= {pre:=True,val:= .psl (k+100) 1 0 l.length (some l.length),new:=some (.bar l)}) ⟨rfl,rfl,rfl,rfl,rfl⟩ ⟨fun ob he=>by cases he;rfl,.inl rfl⟩;rw [hk]at this ⊢;exact this
theorem r9 (hcal:fN P call) {o:Oper} {so:SOp} (h:M C N c a w) (hr0:u9 P o so) (hd:∀k,o.dst=some k→k<N) (hc:opC call sg c o.dst so=some c') {K:Act→World→Prop} {Q:Exit→Act→World→Prop} (hK:∀a w,M C N c' a w→K a w):o.wp P a w K Q:=by
 by_cases hnb:∃xs,so= .newB xs
 ·obtain⟨xs,rfl⟩:=hnb
  rcases hr0 with hr|⟨ys,e,hr⟩
  ·exact(F0 hr).elim
  ·cases e
   exact pM h hr hd hc hK
 have hr:=hr0.old fun xs e=>hnb ⟨xs,e⟩
 by_cases hsl:∃q,so= .slid q
 ·obtain⟨q,rfl⟩:=hsl
  exact xe h hr hd hc hK
 by_cases hcl:∃f as,so= .call f as
 ·obtain⟨f,as,rfl⟩:=hcl
  simp only [opC]at hc;split at hc<;>try (cases hc;done)
  rename_i g c1 c2 hg;obtain⟨x,s,hM,hS⟩:=h;obtain⟨cl,F,ho,hb,h1,h2,h3⟩:=wF hr;obtain⟨as',os',k',q',hq'⟩:=yh hc;have hcb:eg P g=true:=(hcal _ _ _ _ _ hq').1;obtain⟨vs,hrun,hvs⟩:=sF hM ho hb h1 h2 h3 (by rw [hS.ev];exact hg) hcb;rw [←hS.evL]at hvs;exact oc hrun (vq hM hS hd (hcal g) hc hvs) hK
 ·refine xkC h hr hd ?_ hK
  cases so with
  |call f as=>exact absurd ⟨f,as,rfl⟩ hcl
  |newB xs=>exact absurd ⟨xs,rfl⟩ hnb
  |slid q=>exact absurd ⟨q,rfl⟩ hsl
  |_=>exact hc
theorem GB (hM:aI C x s a w) (hS:Sim N c s) {g:Nat} {t:Bool} (h:c.get g= .bool t):a.tmps[g]? =some (.bool t):=(qP hM (by rw [hS.get];exact h)).2.1
theorem vb {ops:Array Oper} {o:Oper} {j g:Nat} {b:Bool} (h:o.guard=some (j,b)) (hg:(ops[j]?).bind (·.dst)=some g) (ht:∀t,a.tmps[g]? ≠some (.bool t)):Region.wanted o (yielded ops a.tmps)=false:=by
 have hy:yielded ops a.tmps j=none:=by
  unfold yielded;rw [hg,cQ];cases hv:a.tmps[g]? with
  |none=>rfl
  |some v=>
   cases v with
   |bool t=>exact absurd hv (ht t)
   |_=>rfl
 simp only [Region.wanted,h,hy];rfl
theorem vL {x:Sit}:Rep x (.tup []) Go.undef:= .tup [] [] rfl fun i hi=>by simp at hi
theorem GC (hM:aI C x s a w) (hS:Sim N c s) {g:Nat} (h:c.get g= .tup []):∀t,a.tmps[g]? ≠some (.bool t):=by
 intro t ht;have h1:=hM.slot g;rw [hS.get,h]at h1
 have h2:a.tmps.getD g Go.undef= .bool t:=by rw [bA,ht];rfl
 replace h1:Rep x (.tup []) (a.tmps.getD g Go.undef):=h1;rw [h2]at h1;cases h1 with
 |dat _ _ h _=>cases h
theorem Hw {o:Oper} {q:Arg} (hr:bo P o=some (.s2b q)):∃src dst X e,o.op= .convert src dst X∧P.underlying src=some .string∧P.underlying dst=some (.slice e)∧mm P e=true∧bn P src X=some q:=by
 cases ho:o.op with
 |convert src dst X=>
  simp only [bo,ho]at hr;split at hr<;>try (cases hr;done)
  ·split at hr<;>cases hr
  ·rename_i e q' hs hd hX
   split at hr<;>try (cases hr;done)
   rename_i h8;cases hr;exact⟨src,dst,X,e,rfl,hs,hd,h8,hX⟩
  ·split at hr<;>cases hr
 |_=>exfalso;exact absurd hr (by
  intro hr;simp only [bo,ho]at hr
  first
   |(cases hr;done)
   |(obtain⟨_,_,h⟩:=ai.1 hr;cases h;done)
   |(repeat' split at hr)<;>first|(cases hr;done)|contradiction|(obtain⟨_,_,h⟩:=ai.1 hr;first|(cases h;done)|(split at h<;>cases h;done)))
theorem xjq {o:Oper} {z:List SV} {b:Nat} {q r:Arg} (hr:bo P o=some (.app z b q r)):∃cl,o.op= .call cl∧cl.callee= .builtin .append:=by
 cases ho:o.op with
 |call cl=>
  refine⟨cl,rfl, ?_⟩;cases hb:cl.callee with
  |builtin bb=>
   cases bb with
   |append=>rfl
   |_=>
    exfalso;simp only [bo,ho,hb]at hr
    first
     |(cases hr;done)
     |(repeat' split at hr)<;>first|(cases hr;done)|contradiction
  |_=>
   exfalso;simp only [bo,ho,hb]at hr
   first
    |(cases hr;done)
    |(repeat' split at hr)<;>first|(cases hr;done)|contradiction
 |_=>exfalso;exact absurd hr (by
  intro hr;simp only [bo,ho]at hr
  first
   |(cases hr;done)
   |(obtain⟨_,_,h⟩:=ai.1 hr;cases h;done)
   |(repeat' split at hr)<;>first|(cases hr;done)|contradiction|(obtain⟨_,_,h⟩:=ai.1 hr;first|(cases h;done)|(split at h<;>cases h;done)))
theorem aI.newObjF (hM:aI C x s a w) {d:Nat} (sl:Option Nat) (hd100:100≤d) {cv:Array Value} {t:TypeId} {fl fh:Nat} (obj:aB) {val:SV} {u:Value} (hf:∀i,i<cv.size→¬(fl≤i∧i<fh)) (hs:obj.size≤cv.size) (hr:∀k,k<obj.size→cf x obj k (cv.getD k Go.undef))
 (hv:Rep (x.newO d w.heap.size) val u) {w':World} (hw:w'.heap=(w.alloc (.cells cv t (fl,fh))).heap) (h1:w'.os=w.os) (h2:w'.tape=w.tape) (h3:w'.output=w.output):
 aI C (x.newO d w.heap.size) (((s.purge d (d+1)).addO d (obj.purge d (d+1))).put sl val) (a.put sl u) w':=by
 refine aI.put ⟨?_,hM.defers, ?_⟩ sl hv
 ·exact cn.mono (x:=x) (x':=x.newO d w.heap.size) (lo:=d) (hi:=d+1) (fun _ _ _ h=>h) (Sit.newO_ne x d _) (fun _ _=>rfl) hM.tm
 ·exact cZ.congr (w:=w.alloc (.cells cv t (fl,fh))) (hM.heap.allocO d hd100 obj hf hs hr) hw h1 h2 h3
theorem aI.drew (hM:aI C x s a w):aI C x s a w.drew:=⟨hM.tm,hM.defers,hM.heap.drew⟩
theorem xI {o:Oper} {q:Arg} (h:M C N c a w) (hr:bo P o=some (.s2b q)) (hd:∀k,o.dst=some k→k<N) (hc:S5 c o.dst (c.ev q)=some c') {K:Act→World→Prop} {Q:Exit→Act→World→Prop} (hK:∀a w,M C N c' a w→K a w):o.wp P a w K Q:=by
 obtain⟨x,s,hM,hS⟩:=h;unfold S5 at hc;split at hc<;>try (cases hc;done)
 rename_i k l hk hl;cases hc;obtain⟨src,dst,X,e,ho,hs,hdd,h8,hX⟩:=Hw hr;have he:=jn h8;have h1:=aK hM hX;rw [hS.ev,hl]at h1;have hf:(Question.appendCap (ByteArray.mk ⟨l⟩).size 0 e).forced=false:=rfl
 obtain⟨cp,hcp,hge⟩:∃cp,(Question.appendCap (ByteArray.mk ⟨l⟩).size 0 e).cut (w.tape w.drawn (Question.appendCap (ByteArray.mk ⟨l⟩).size 0 e))=cp∧l.length≤cp:=by
  refine⟨_,rfl, ?_⟩;simp only [Question.cut];have:(ByteArray.mk ⟨l⟩).size=l.length:=by simp [ByteArray.size]
  omega
 let cs:Array Value:=(ByteArray.mk ⟨l⟩).data.map (fun b=> .int .u8 b.toNat)++dE (cp-(ByteArray.mk ⟨l⟩).size) (.int .u8 0)
 have hsz:(ByteArray.mk ⟨l⟩).size=l.length:=by simp [ByteArray.size]
 have hcs:cs.size=cp:=by simp [cs,hsz];omega
 have hget:∀i,i<l.length→cs[i]? =some (.int .u8 (l.getD i 0).toNat):=by intro i hi;simp only [cs];rw [Array.getElem?_append_left (by simpa using hi)];simp [hi,aa]
 have hrun:(execOp a.eval o).run P w= .ok (.value (.slice (some ⟨w.heap.size,0,none⟩) l.length cp)) ((w.drew.alloc (.cells cs e (0,0))).freeze ⟨w.heap.size,cs.size,none⟩ 1):=by simp only [execOp,ho,h1.str_inv,convert,az,run_underlying hs,run_underlying hdd,al,run_underlying he,Conv.stringToBytes,run_choose_drew,hf,aD,if_false,hcp,newRow,run_newObj_alloc,aE];rw [eC (e:=e) (n:=cs.size) (by simp only [World.shape?];rw [dM])];simp only [al,hsz];rfl
 have hM':=hM.drew.newObjF (d:=k+100) o.dst (by omega) (.bar l) (cv:=cs) (t:=e) (fl:=cs.size) (fh:=cs.size+1) (val:= .psl (k+100) 1 0 l.length none) (u:= .slice (some ⟨w.heap.size,0,none⟩) l.length cp) (fun i hi h=>by omega) (by simp only [aB.size];omega) (fun i hi=>by
  simp only [aB.size]at hi;show cS x.G (.u8 (l.getD i 0)) _;have:cs.getD i Go.undef= .int .u8 (l.getD i 0).toNat:=by rw [bA,hget i hi];rfl
  rw [this];exact .u8 _) (by
  have:=Rep.psl (x:=x.newO (k+100) w.drew.heap.size) (k+100) 1 0 l.length none 0 cp (.inr rfl) hge (fun _ e=>by cases e);rw [jV]at this;exact this) (gG w.drew cs e) rfl rfl rfl
 refine cA ⟨_,_,_,_,hrun,.inl rfl,hM'⟩ (k:=Sim N _) ?_ hK;have:=hS.app hd (e:= {val:= .psl (k+100) 1 0 l.length none,new:=some (.bar l)}) (f:= {pre:=True,val:= .psl (k+100) 1 0 l.length none,new:=some (.bar l)}) ⟨rfl,rfl,rfl,rfl,rfl⟩ ⟨fun ob he=>by cases he;rfl,.inl rfl⟩;rw [hk]at this ⊢;exact this
theorem wS {o:Oper} {q:Arg} (h:M C N c a w) (hr:bo P o=some (.s2b q)) (hd:∀k,o.dst=some k→k<N) (hc:Sa c o.dst (c.ev q)=some c') {K:Act→World→Prop} {Q:Exit→Act→World→Prop} (hK:∀a w,M C N c' a w→K a w):o.wp P a w K Q:=by
 obtain⟨x,s,hM,hS⟩:=h;unfold Sa at hc;split at hc<;>try (cases hc;done)
 rename_i k l hk hl;cases hc;obtain⟨src,dst,X,e,ho,hs,hdd,h8,hX⟩:=Hw hr;have he:=jn h8;have h1:=aK hM hX;rw [hS.ev,hl]at h1;have hf:(Question.appendCap (ByteArray.mk ⟨l⟩).size 0 e).forced=false:=rfl
 obtain⟨cp,hcp,hge⟩:∃cp,(Question.appendCap (ByteArray.mk ⟨l⟩).size 0 e).cut (w.tape w.drawn (Question.appendCap (ByteArray.mk ⟨l⟩).size 0 e))=cp∧l.length≤cp:=by
  refine⟨_,rfl, ?_⟩;simp only [Question.cut];have:(ByteArray.mk ⟨l⟩).size=l.length:=by simp [ByteArray.size]
  omega
 let cs:Array Value:=(ByteArray.mk ⟨l⟩).data.map (fun b=> .int .u8 b.toNat)++dE (cp-(ByteArray.mk ⟨l⟩).size) (.int .u8 0)
 have hsz:(ByteArray.mk ⟨l⟩).size=l.length:=by simp [ByteArray.size]
 have hcs:cs.size=cp:=by simp [cs,hsz];omega
 have hget:∀i,i<l.length→cs[i]? =some (.int .u8 (l.getD i 0).toNat):=by intro i hi;simp only [cs];rw [Array.getElem?_append_left (by simpa using hi)];simp [hi,aa]
 have hrun:(execOp a.eval o).run P w= .ok (.value (.slice (some ⟨w.heap.size,0,none⟩) l.length cp)) ((w.drew.alloc (.cells cs e (0,0))).freeze ⟨w.heap.size,cs.size,none⟩ 1):=by simp only [execOp,ho,h1.str_inv,convert,az,run_underlying hs,run_underlying hdd,al,run_underlying he,Conv.stringToBytes,run_choose_drew,hf,aD,if_false,hcp,newRow,run_newObj_alloc,aE];rw [eC (e:=e) (n:=cs.size) (by simp only [World.shape?];rw [dM])];simp only [al,hsz];rfl
 have hG:∀o,x.G w.heap.size o=none:=by
  intro o;cases hg:x.G w.heap.size o with
  |none=>rfl
  |some v=>exact absurd (hM.heap.ltG hg) (by omega)
 have hle:=hM.heap.newD_le cs l.length;have hH:cZ C (x.newD w.heap.size cs l.length) s.ob s.tk (w.drew.alloc (.cells cs e (cs.size,cs.size+1))):=hM.heap.drew.allocD l.length;have hown:fd (w.drew.alloc (.cells cs e (cs.size,cs.size+1))) w.heap.size cs e cs.size (cs.size+1):=⟨dM (w:=w.drew),fun i _ h=>by omega⟩
 have hH2:cZ C ((x.newD w.heap.size cs l.length).newT (k+100) w.heap.size l.length cp) (bC (k+100) (k+100+1) s.ob) ((k+100)::cK (k+100) (k+100+1) s.tk) (w.drew.alloc (.cells cs e (cs.size,cs.size+1))):=by
  refine hH.addT (k+100) w.heap.size _ _ (.inr ⟨⟨cs,e,_,_,hown,by omega⟩,hM.heap.new _ hM.heap.size,fun o h1 h2=> ?_⟩) (.inr fun p hp _=> ?_) (.inr fun u hu _=> ?_)
  ·simp only [Sit.newD];rw [if_neg (by omega)];exact hG o
  ·obtain⟨⟨c2,e2,fl2,fh2,hO2,_⟩,_⟩:=hM.heap.obs p hp
   have:=hO2.lt;show w.heap.size≠x.β p.1;omega
  ·rcases hM.heap.tks u hu with h|⟨⟨c2,e2,fl2,fh2,hO2,_⟩,_⟩
   ·exact .inr h
   ·have:=hO2.lt
    exact .inl (by show w.heap.size≠(x.τ u).1;omega)
 have hM':aI C ((x.newD w.heap.size cs l.length).newT (k+100) w.heap.size l.length cp) ((s.grew .no (k+100)).put o.dst (.byt l (.id (k+100)))) (a.put o.dst (.slice (some ⟨w.heap.size,0,none⟩) l.length cp)) ((w.drew.alloc (.cells cs e (0,0))).freeze ⟨w.heap.size,cs.size,none⟩ 1):=by
  refine aI.put ⟨?_,hM.defers, ?_⟩ o.dst ?_
  ·exact cn.mono (x:=x) (x':=(x.newD w.heap.size cs l.length).newT (k+100) w.heap.size l.length cp) (lo:=k+100) (hi:=k+100+1) hle (fun _ _=>rfl) (Sit.newT_ne (x.newD w.heap.size cs l.length) (k+100) _ _ _) hM.tm
  ·exact cZ.congr (w:=w.drew.alloc (.cells cs e (cs.size,cs.size+1))) hH2 (gG w.drew cs e) rfl rfl rfl
  ·refine .dat _ _ (.byt l _ w.heap.size 0 cp l.length rfl hge fun i hi=> ?_) ⟨_,l.length,cp,rfl,.inr ⟨w.heap.size,0,rfl, ?_⟩⟩
   ·show(x.newD w.heap.size cs l.length).G w.heap.size (0+i)=_
    simp only [Sit.newD];rw [if_pos ⟨trivial,by omega⟩,cO];exact hget i hi
   ·rw [Sit.newT_eq,dm,dm,cO,cO]
 refine cA ⟨_,_,_,_,hrun,.inl rfl,hM'⟩ (k:=Sim N _) ?_ hK;have:=hS.app hd (e:= {val:= .byt l (.id (k+100)),tok:=true}) (f:= {pre:=True,val:= .byt l (.id (k+100)),tok:=true}) ⟨rfl,rfl,rfl,rfl,rfl⟩ ⟨fun ob he=>(by cases he),.inl rfl⟩;rw [hk]at this ⊢;exact this
theorem sQ (hM:aI C x s a w) {t u el:TypeId} {d2:TypeDesc} {n by_:Nat} {zs:List Value} (hd:P.underlying t=some (.slice el)) (hu:P.underlying u=some d2) (hu2:(∃e',d2= .slice e')∨d2= .string) (hn:fp P el=some n) (hb:ub P el=some by_)
 (hz:gh P el=some zs) (hb0:by_≠0) (hzl:zs.length=n) {ty:TypeId} {X Y:Value} {fl fl':List SV} {ns:List Value} {len m cap:Nat} (hX:Dt x.G n fl X len cap)
 (hlen:∀w',w'.heap=w.heap→(Builtin.lenOf Y).run P w'= .ok m w') (hcells:∀w',w'.heap=w.heap→(Builtin.firstCells n m Y).run P w'= .ok ns.toArray w') (hnl:ns.length=m*n) (hnew:New x ns fl') (hroom:(len+m)*by_≤140737488355328) (hc:¬len+m≤cap):
 ∃nc cv,len+m≤nc∧(Builtin.append_ #[t,u] ty #[X,Y]).run P w= .ok (.slice (some ⟨w.heap.size,0,none⟩) (len+m) nc) (w.drew.alloc (.cells cv el (0,0)))∧(fl++fl').length≤cv.size∧∀k,k<(fl++fl').length→cS x.G ((fl++fl').getD k .undef) (cv.getD k Go.undef):=by
 obtain⟨hfl,hlc,hX'⟩:=hX;obtain⟨z,hzc,hzr⟩:=cM hz
 obtain⟨i,hi,hib⟩:∃i,P.info? el=some i∧i.bytes=by_:=by
  unfold ub at hb;cases hi:P.info? el with
  |none=>simp [hi]at hb
  |some i=>simp [hi]at hb;exact⟨i,rfl,hb⟩
 obtain⟨bs,hXe⟩:∃bs,X= .slice bs len cap:=by
  rcases hX' with⟨b,off,rfl,_⟩|⟨rfl,rfl,rfl⟩
  ·exact⟨_,rfl⟩
  ·exact⟨_,rfl⟩
 subst hXe;have hfl':fl'.length=m*n:=by rw [hnew.len,hnl]
 obtain⟨os,hos,hosl,hosv⟩:∃os:List Value,(∀w',w'.heap=w.heap→(Builtin.firstCells n len (.slice bs len cap)).run P w'= .ok os.toArray w')∧os.length=fl.length∧∀k,k<fl.length→cS x.G (fl.getD k .undef) (os.getD k Go.undef):=by
  rcases hX' with⟨b,off,he,hr⟩|⟨he,h1,h2⟩
  ·simp only [Value.slice.injEq]at he
   obtain⟨rfl,_⟩:=he;refine⟨(cg (len*n)).map fun k=>(w.cell? ⟨b,off+k,none⟩).getD Go.undef,fun w' hw'=> ?_,by simp [hfl],fun k hk=> ?_⟩
   ·simp only [Builtin.firstCells]
    refine run_loadCells w' _ _ _ fun j hj=> ?_
    rw [df,de (w:=w) (by rw [hw'])];obtain⟨v,hv,_⟩:=hr j (by omega);rw [hM.heap.per _ _ _ hv];rfl
   ·obtain⟨v,hv,hrv⟩:=hr k hk
    have:((cg (len*n)).map fun k=>(w.cell? ⟨b,off+k,none⟩).getD Go.undef).getD k Go.undef=v:=by rw [aa];simp [show k<len*n from by omega,hM.heap.per _ _ _ hv]
    rw [this];exact hrv
  ·simp only [Value.slice.injEq]at he
   obtain⟨rfl,_⟩:=he;have:fl=[]:=bJ.1 (by rw [←hfl,h1,Nat.zero_mul]);subst this;exact⟨[],fun w' _=>rfl,rfl,fun k hk=>by simp at hk⟩
 obtain⟨nc,hnc,hrun⟩:=kj (t:=t) (u:=u) (ty:=ty) (Y:=Y) hd hu hu2 hn hi hib hb0 hzr hlen hcells hos hc hroom;refine⟨nc,_,hnc,hrun, ?_,fun k hk=> ?_⟩
 ·simp only [ah,Array.size_append,List.size_toArray,hosl,←hnew.len];omega
 ·have hkl:k<os.length+ns.length:=by rw [hosl,←hnew.len,←ah];exact hk
  rw [bA,oC os ns _ k hkl]
  by_cases hk1:k<fl.length
  ·have e1:(fl++fl').getD k .undef=fl.getD k .undef:=by simp only [aa,bK hk1]
   have e2:((os++ns)[k]?).getD Go.undef=os.getD k Go.undef:=by simp only [aa,bK (show k<os.length by omega)]
   rw [e1,e2];exact hosv k hk1
  ·have e1:(fl++fl').getD k .undef=fl'.getD (k-fl.length) .undef:=by simp only [aa,bN (Nat.le_of_not_lt hk1)]
   have e2:((os++ns)[k]?).getD Go.undef=ns.getD (k-fl.length) Go.undef:=by simp only [aa,bN (show os.length≤k by omega),hosl]
   rw [e1,e2];exact hnew.rep _ (by rw [ah]at hk;omega)
theorem kZ {n:Nat} {fl:List SV} {X:Value} {len cap:Nat} (hX:Dt x.G n fl X len cap) (hsp:dk x n .clip X):cap=len:=by
 obtain⟨a,k,he⟩:=hsp;obtain⟨_,_,hX'⟩:=hX;rcases hX' with⟨b,off,h,_⟩|⟨h,h1,h2⟩
 ·rw [h]at he;simp only [Value.slice.injEq]at he;omega
 ·omega
theorem xH {o:Oper} {z:List SV} {by_:Nat} {r q:Arg} (h:M C N c a w) (hr:bo P o=some (.app z by_ r q)) (hd:∀k,o.dst=some k→k<N) (hc:S4 c o.dst z by_ q (c.ev r)=some c') {K:Act→World→Prop} {Q:Exit→Act→World→Prop} (hK:∀a w,M C N c' a w→K a w):o.wp P a w K Q:=by
 obtain⟨x,s,hM,hS⟩:=h;obtain⟨cl,ho,hb⟩:=xjq hr;simp only [bo,ho,hb]at hr;split at hr<;>try (cases hr;done)
 rename_i X Y t u hX ht;split at hr<;>try (cases hr;done)
 rename_i el d2 r' q' hdd hu hra hrb;split at hr<;>try (cases hr;done)
 rename_i n by' z' hn hby hz
 rw [aN]at hr;obtain⟨hcond,hr⟩:=hr;simp only [an,decide_eq_true_eq]at hcond;obtain⟨⟨hb0,hn0⟩,hzl'⟩:=hcond;obtain⟨zs,hzc,hzl0,_⟩:=jt hz;have hzl:zs.length=n:=by omega
 obtain⟨hu2,rfl,rfl,rfl,rfl⟩:((∃e',d2= .slice e')∨d2= .string)∧z'=z∧by'=by_∧r'=r∧q'=q:=by
  split at hr<;>try (cases hr;done)
  ·cases hr;exact⟨.inl ⟨_,rfl⟩,rfl,rfl,rfl,rfl⟩
  ·rw [aN]at hr
   obtain⟨_,hr⟩:=hr;cases hr;exact⟨.inr rfl,rfl,rfl,rfl,rfl⟩
 have h1:=aK hM hra;have h2:=aK hM hrb;have ea:cl.args= #[X,Y]:=by apply dV;simpa using hX
 have et:cl.argTypes= #[t,u]:=by apply dV;simpa using ht
 have hex:=gn (a:=a) ho hb _ rfl;rw [ea,et]at hex;have em: #[X,Y].map a.eval= #[a.eval X,a.eval Y]:=by simp
 rw [em]at hex
 have hex':∀ {v w'},(Builtin.append_ #[t,u] o.type #[a.eval X,a.eval Y]).run P w= .ok v w'→(execOp a.eval o).run P w= .ok (.value v) w':=by intro v w' hrun;rw [hex];simp [hrun]
 rw [hS.ev]at h1
 have fin:∀ {k nc cv} (obj:aB) (sz m:Nat),o.dst=some k→m≤nc→(Builtin.append_ #[t,u] o.type #[a.eval X,a.eval Y]).run P w= .ok (.slice (some ⟨w.heap.size,0,none⟩) m nc) (w.drew.alloc (.cells cv el (0,0)))→
  obj.size≤cv.size→(∀i,i<obj.size→cf x obj i (cv.getD i Go.undef))→obj.wf=true→c'=c.app (some k) {val:= .psl (k+100) sz 0 m none,new:=some obj}→o.wp P a w K Q:=by
  intro k nc cv obj sz m hk hnc hrun hsz hcell hwf hce;subst hce
  have hM':=hM.drew.newObjF (d:=k+100) o.dst (by omega) obj (cv:=cv) (t:=el) (fl:=0) (fh:=0) (val:= .psl (k+100) sz 0 m none) (u:= .slice (some ⟨w.heap.size,0,none⟩) m nc) (fun i hi h=>by omega) hsz hcell (by have:=Rep.psl (x:=x.newO (k+100) w.drew.heap.size) (k+100) sz 0 m none 0 nc (.inr (by omega)) hnc (fun _ e=>by cases e);rw [jV]at this;exact this) (w':=w.drew.alloc (.cells cv el (0,0))) rfl rfl rfl rfl
  refine cA ⟨_,_,_,_,hex' hrun,.inl rfl,hM'⟩ (k:=Sim N _) ?_ hK;have:=hS.app hd (e:= {val:= .psl (k+100) sz 0 m none,new:=some obj}) (f:= {pre:=True,val:= .psl (k+100) sz 0 m none,new:=some obj}) ⟨rfl,rfl,rfl,rfl,rfl⟩ ⟨fun ob he=>by cases he;exact hwf,.inl rfl⟩;rw [hk]at this ⊢;exact this
 unfold S4 at hc;split at hc<;>try (cases hc;done)
 ·rename_i l tk hl
  rw [aN]at hc;obtain⟨rfl,hc⟩:=hc;unfold xjt at hc;split at hc<;>try (cases hc;done)
  rename_i k l' hk hl';split at hc<;>try (cases hc;done)
  rename_i hz1;have hz1:z'.length=1:=Classical.not_not.1 hz1;obtain rfl:n=1:=by omega
  obtain⟨p,hl'',hp0⟩:=nY hS hl';rw [←hS.ev]at hl'';rw [hl]at h1;obtain⟨g1,g2⟩:=iY (P:=P) hM h2 hl'' hp0;obtain⟨_,_,_,_,_,hsp⟩:=h1.byt_inv;obtain⟨cap,hF,_⟩:=wm (h1.data rfl)
  by_cases hne:l'=[]
  ·rw [if_pos hne]at hc
   cases hc;subst hne
   obtain⟨bs,hXe⟩:∃bs,a.eval X= .slice bs l.length cap:=by
    rcases hF.2.2 with⟨b,off,h,_⟩|⟨h,h1,h2⟩
    ·exact⟨_,h⟩
    ·exact⟨none,by rw [h,h1,h2]⟩
   have hcap:=kZ hF hsp;rw [hXe]at h1 hex'
   have hrun:=gk (P:=P) (t:=t) (u:=u) (ty:=o.type) (Y:=a.eval Y) (ns:=[]) (w:=w) (w1:=w) (m:=0) (bs:=bs) (len:=l.length) (cap:=cap) hdd hu hu2 hn (g1 w rfl) (by have:=g2 0 (aZ _) w rfl;simpa using this) (by omega) (by cases bs<;>rfl)
   refine cA ⟨_,_,_,_,hex' hrun,.inl rfl,hM.put o.dst h1⟩ (k:=Sim N _) ?_ hK;have:=hS.put hd (.byt l .clip);rw [hk]at this ⊢;exact this
  ·rw [if_neg hne]at hc
   rw [aN]at hc;obtain⟨⟨rfl,hroom⟩,hc⟩:=hc;have hcap:=kZ hF hsp;have hpos:0<l'.length:=List.length_pos_iff.2 hne
   obtain⟨nc,cv,hnc,hrun,hsz,hcell⟩:=sQ (ty:=o.type) hM hdd hu hu2 hn hby hzc hb0 hzl hF g1 (fun w' hw'=>by have:=g2 l'.length (aZ _) w' hw';rwa [br]at this) (by simp) (se l') (by omega) (by omega)
   refine fin (.bar (l++l')) 1 _ hk hnc hrun (by simp only [aB.size];simpa using hsz) (fun i hi=> ?_) rfl (av.inj hc).symm;simp only [aB.size]at hi;have:=hcell i (by simpa using hi);rw [←bz,iP _ _ hi]at this;exact this
 ·rename_i sz l tk hl
  rw [aN]at hc;obtain⟨rfl,hc⟩:=hc;unfold xjs at hc;split at hc<;>try (cases hc;done)
  rename_i k l' hk hl';obtain⟨p,hl'',hp0⟩:=qE hS hl';rw [←hS.ev]at hl'';rw [hl]at h1;obtain⟨hrows',g1,ns,hnew,g2⟩:=gX (P:=P) hM h2 hl'' hp0;obtain⟨_,_,_,_,_,hsp⟩:=h1.lst_inv;obtain⟨cap,hF,_,hrows⟩:=qV (h1.data rfl)
  by_cases hne:l'=[]
  ·rw [if_pos hne]at hc
   cases hc;subst hne
   obtain⟨bs,hXe⟩:∃bs,a.eval X= .slice bs l.length cap:=by
    rcases hF.2.2 with⟨b,off,h,_⟩|⟨h,h1,h2⟩
    ·exact⟨_,h⟩
    ·exact⟨none,by rw [h,h1,h2]⟩
   have hcap:=kZ hF hsp;rw [hXe]at h1 hex'
   have hrun:=gk (P:=P) (t:=t) (u:=u) (ty:=o.type) (Y:=a.eval Y) (ns:=[]) (w:=w) (w1:=w) (m:=0) (bs:=bs) (len:=l.length) (cap:=cap) hdd hu hu2 hn (g1 w rfl) (by have:=g2 0 (aZ _) w rfl;rw [hzl']at this;simpa using this) (by omega) (by cases bs<;>rfl)
   refine cA ⟨_,_,_,_,hex' hrun,.inl rfl,hM.put o.dst h1⟩ (k:=Sim N _) ?_ hK;have:=hS.put hd (.lst sz l .clip);rw [hk]at this ⊢;exact this
  ·rw [if_neg hne]at hc
   rw [aN]at hc;obtain⟨⟨rfl,hroom⟩,hc⟩:=hc;obtain rfl:n=z'.length:=by omega
   have hcap:=kZ hF hsp;have hpos:0<l'.length:=List.length_pos_iff.2 hne;have hnl:ns.length=l'.length*z'.length:=by rw [←hnew.len,bI hrows']
   obtain⟨nc,cv,hnc,hrun,hsz,hcell⟩:=sQ (ty:=o.type) hM hdd hu hu2 hn hby hzc hb0 hzl hF g1 (fun w' hw'=>by have:=g2 l'.length (aZ _) w' hw';rwa [←hnl,br]at this) hnl hnew hroom (by omega)
   have hrows2:∀y∈l++l',y.length=z'.length:=fun y hy=>(aj.1 hy).elim (hrows y) (hrows' y)
   have hlen2:(l++l').length*z'.length=(l.flatten++l'.flatten).length:=by rw [←cz,bI hrows2]
   refine fin (.arr z'.length (l++l')) z'.length _ hk hnc hrun (by simp only [aB.size];omega) (fun i hi=> ?_) (ln.2 hrows2) (av.inj hc).symm;simp only [aB.size]at hi;have:=hcell i (by omega);rw [←cz,cV _ hrows2 i hi]at this;exact this
theorem xG {o:Oper} {sz:Nat} {xs:List Arg} (h:M C N c a w) (hr:bo P o=some (.lit sz xs)) (hd:∀k,o.dst=some k→k<N) (hc:S3 c sz o.dst (rows sz (evL c xs))=some c') {K:Act→World→Prop} {Q:Exit→Act→World→Prop} (hK:∀a w,M C N c' a w→K a w):o.wp P a w K Q:=by
 obtain⟨x,s,hM,hS⟩:=h;rw [hS.evL]at hc;unfold S3 at hc;split at hc<;>try (cases hc;done)
 rename_i k l hk hl;cases hc
 obtain⟨t,len,parts,ho⟩:∃t len parts,o.op= .buildSlice t len parts:=by
  cases ho:o.op with
  |buildSlice t len parts=>exact⟨t,len,parts,rfl⟩
  |_=>exfalso;exact absurd hr (by
   intro hr;simp only [bo,ho]at hr
   first
    |(cases hr;done)
    |(obtain⟨_,_,h⟩:=ai.1 hr;cases h;done)
    |(repeat' split at hr)<;>first|(cases hr;done)|contradiction|(obtain⟨_,_,h⟩:=ai.1 hr;first|(cases h;done)|(split at h<;>cases h;done)))
 obtain⟨r,e,hrun,hsz,hrows,hcell⟩:=xu hM ho hr hl
 have hM':=hM.newObj (d:=k+100) o.dst (by omega) (.arr sz l) (val:= .psl (k+100) sz 0 l.length (some l.length)) (u:= .slice (some ⟨w.heap.size,0,none⟩) l.length l.length) (t:=e) (by simp only [aB.size];omega) (fun i hi=>hcell i hi) (by have:=Rep.psl (x:=x.newO (k+100) w.heap.size) (k+100) sz 0 l.length (some l.length) 0 l.length (.inr (by omega)) (aZ _) (fun _ e=>by cases e;rfl);rwa [jV]at this)
 refine cA ⟨_,_,_,_,hrun,.inl rfl,hM'⟩ (k:=Sim N _) ?_ hK;have:=hS.app hd (e:= {val:= .psl (k+100) sz 0 l.length (some l.length),new:=some (.arr sz l)}) (f:= {pre:=True,val:= .psl (k+100) sz 0 l.length (some l.length),new:=some (.arr sz l)}) ⟨rfl,rfl,rfl,rfl,rfl⟩ ⟨fun ob he=>by cases he;exact ln.2 hrows,.inl rfl⟩;rw [hk]at this ⊢;exact this
theorem xF {ops:Array Oper} {n:Nat} {o:Oper} {i:SI} (h:M C N c a w) (hi:i.ok N=true) (ho:ops[n]? =some o) (hr:fF P ops o=some i) (hc:tN c i=some c') {K:Act→World→Prop} {Q:Exit→Act→World→Prop}
 (hK:∀a w,M C N c' a w→K a w):wpOp P ops Q n K a w:=by
 obtain⟨h1,h2,h3⟩:=kU hr
 have hd:∀k,i.dst=some k→k<N:=by intro k hk;unfold SI.ok at hi;rw [hk]at hi;simpa using hi
 unfold wpOp;rw [ho];simp only;unfold tN at hc;split at hc<;>try (cases hc;done)
 rename_i hg;rcases h3 with⟨_,hog⟩|⟨j,b,g,hg',_⟩
 ·rw [iM hog,if_pos rfl]
  rw [h2]at hc hd;left;unfold xoT at hc;split at hc<;>try (cases hc;done)
  ·rename_i sz xs hq
   exact xG h (h1.old (fun xs e=>by rw [e]at hq;cases hq)|>fun e=>by rw [hq]at e;exact e) hd hc hK
  ·rename_i xs hq
   exact pM h (h1.old (fun xs e=>by rw [e]at hq;cases hq)|>fun e=>by rw [hq]at e;exact e) hd hc hK
  ·rename_i q hq
   exact xI h (h1.old (fun xs e=>by rw [e]at hq;cases hq)|>fun e=>by rw [hq]at e;exact e) hd hc hK
  ·rename_i z by_ q y hq
   exact xH h (h1.old (fun xs e=>by rw [e]at hq;cases hq)|>fun e=>by rw [hq]at e;exact e) hd hc hK
 ·rw [hg]at hg';cases hg'
theorem wR {ops:Array Oper} {n:Nat} {o:Oper} {i:SI} (h:M C N c a w) (hi:i.ok N=true) (ho:ops[n]? =some o) (hr:fF P ops o=some i) (hc:AC c i=some c') {K:Act→World→Prop} {Q:Exit→Act→World→Prop}
 (hK:∀a w,M C N c' a w→K a w):wpOp P ops Q n K a w:=by
 obtain⟨h1,h2,h3⟩:=kU hr
 have hd:∀k,i.dst=some k→k<N:=by intro k hk;unfold SI.ok at hi;rw [hk]at hi;simpa using hi
 unfold wpOp;rw [ho];simp only;unfold AC at hc;split at hc<;>try (cases hc;done)
 rename_i hg;rcases h3 with⟨_,hog⟩|⟨j,b,g,hg',_⟩
 ·rw [iM hog,if_pos rfl]
  rw [h2]at hc hd;left;unfold xnR at hc;split at hc<;>try (cases hc;done)
  ·rename_i q hq
   exact wS h (h1.old (fun xs e=>by rw [e]at hq;cases hq)|>fun e=>by rw [hq]at e;exact e) hd hc hK
 ·rw [hg]at hg';cases hg'
theorem eQ (hcal:fN P call) {ops:Array Oper} {n:Nat} {o:Oper} {i:SI} (h:M C N c a w) (hi:i.ok N=true) (ho:ops[n]? =some o) (hr:fF P ops o=some i) (hc:dS call sg c i=some c') {K:Act→World→Prop} {Q:Exit→Act→World→Prop}
 (hK:∀a w,M C N c' a w→K a w):wpOp P ops Q n K a w:=by
 obtain⟨h1,h2,h3⟩:=kU hr
 have hd:∀k,i.dst=some k→k<N:=by intro k hk;unfold SI.ok at hi;rw [hk]at hi;simpa using hi
 unfold wpOp;rw [ho];simp only;unfold dS at hc;rcases h3 with⟨hg,hog⟩|⟨j,b,g,hg,hog,hdg⟩
 ·rw [hg]at hc
  rw [iM hog,if_pos rfl];rw [h2]at hc hd;exact .inl (r9 hcal h h1 hd hc hK)
 ·rw [hg]at hc
  simp only at hc;split at hc<;>try (cases hc;done)
  rotate_left
  ·rename_i ht
   cases hc;obtain⟨x,s,hM,hS⟩:=h;rw [vb hog hdg (GC hM hS ht),if_neg (by simp)];rw [h2]at hd;rw [h2]at hK;exact hK _ _ ⟨x,_,hM.put o.dst vL,hS.put hd _⟩
  rename_i t ht;have hv:a.tmps[g]? =some (.bool t):=by obtain⟨x,s,hM,hS⟩:=h;exact GB hM hS ht
  rw [kh hog hdg hv];split at hc
  ·rename_i htb
   subst htb;rw [if_pos (by simp)];rw [h2]at hc hd;exact .inl (r9 hcal h h1 hd hc hK)
  ·rename_i htb
   cases hc;rw [if_neg (by simpa using htb)];obtain⟨x,s,hM,hS⟩:=h;rw [h2]at hd;rw [h2]at hK;exact hK _ _ ⟨x,_,hM.put o.dst vL,hS.put hd _⟩
theorem jm {d:Option Nat} {g:Nat} {t:Bool} {v:SV} (hd:d≠some g) (h:c.get g= .bool t):(c.put d v).get g= .bool t:=by
 cases d with
 |none=>exact h
 |some k=>rw [gQ,if_neg (fun e=>hd (by rw [e]))];exact h
theorem Ej {d:Option Nat} {g:Nat} {u v:SV} (hd:d≠some g) (h:c.get g=u):(c.put d v).get g=u:=by
 cases d with
 |none=>exact h
 |some k=>rw [gQ,if_neg (fun e=>hd (by rw [e]))];exact h
theorem l3 {g lo hi:Nat} {t:Bool} {l:List (Nat×SV)} (h:eE l g= .bool t):eE (dA lo hi l) g= .bool t:=by rw [gy,h];rfl
theorem wb {d:Option Nat} {g:Nat} {t:Bool} {e:fD} (hd:d≠some g) (h:c.get g= .bool t):(c.app d e).get g= .bool t:=by
 have wr:∀(l:List (Nat×aB)) (c:CSt),(c.wr l).tm=c.tm:=by
  intro l;induction l with
  |nil=>intro c;rfl
  |cons p r ih=>intro c;simp only [CSt.wr];rw [ih]
 unfold CSt.app;split
 ·exact jm (c:=⟨_,_,_⟩) hd (l3 h)
 ·exact jm (c:=⟨_,_,_⟩) hd (l3 h)
 ·refine jm hd ?_
  show eE (c.wr e.wr).tm g=_;rw [wr];exact h
theorem pV {d:Option Nat} {g:Nat} {t:Bool} {m mt:List Nat} {q:ec} (hd:d≠some g) (h:c.get g= .bool t):(jZ c d m mt q).get g= .bool t:=jm (c:=⟨_,_,_⟩) hd (l3 h)
theorem ml {g o:Nat} {t:Bool} {vs:List SV} (h:c.get g= .bool t):(c.publish o vs).1.get g= .bool t:=by
 have k:∀obj,eE (mf o obj c.tm) g= .bool t:=fun obj=>by rw [kL];have:eE c.tm g= .bool t:=h;rw [this];rfl
 unfold CSt.publish;split
 ·exact k _
 ·exact k _
 ·exact h
theorem oy {g:Nat} {t:Bool}:∀ {l:List Nat} {c:CSt} {vs:List SV},c.get g= .bool t→(eV c vs l).1.get g= .bool t
 |[],_,_,h=>h
 |o::r,c,vs,h=>by show(eV (c.publish o vs).1 (c.publish o vs).2 r).1.get g=_;exact oy (ml h)
theorem Ek {sg:Sig} {d:Option Nat} {g n:Nat} {as:List SV} {t:Bool} (hc:iB call sg c d n as=some c') (hd:d≠some g) (h:c.get g= .bool t):c'.get g= .bool t:=by
 unfold iB at hc;generalize ((SV.idsL as).isEmpty&&sg.own.isEmpty)=b at hc;cases b with
 |true=>
  simp only [jX]at hc;cases hq:call n (SV.bareL as) [] 0 with
  |none=>rw [hq]at hc;cases hc
  |some q=>
   rw [hq]at hc;simp only [mU]at hc;cases hb:q.bare with
   |true=>rw [hb]at hc;cases hc;exact jm hd h
   |false=>
    rw [hb]at hc;simp only [oR]at hc;cases hs:q.small with
    |true=>rw [hs]at hc;cases hc;exact pV hd h
    |false=>rw [hs]at hc;cases hc
 |false=>
  simp only [jX]at hc;have hk:=oy (l:=i7 sg.raw 0 as) (vs:=as) h;generalize eV c as (i7 sg.raw 0 as)=z at hc hk;obtain⟨c1,as1⟩:=z;simp only [jS]at hc;generalize kb c1.tk sg.own 50 0 as1=z at hc;obtain⟨as2,mt1⟩:=z;simp only [oK]at hc;generalize dO c1 60 [] (SV.idsL as2)=m at hc;cases ho:gF c1 m with
  |none=>rw [ho]at hc;cases hc
  |some os0=>
   rw [ho]at hc;simp only [lT]at hc;generalize ed c1.tk (50+mt1.length) os0=z at hc;obtain⟨os,mt2⟩:=z;simp only [oJ]at hc;generalize (po (SV.idsL as2++fL os) m&&dB m&&dB (cB (mt1++mt2))&&decide (m.length≤40)&&m.all fun o=> !inR (d.getD 0) o)=b at hc;cases b with
   |false=>cases hc
   |true=>
    simp only [oI]at hc;cases hq:call n (SV.renL (eB m) id as2) (ei (eB m) id os) (mt1.length+mt2.length)with
    |none=>rw [hq]at hc;cases hc
    |some q=>
     rw [hq]at hc;simp only [py]at hc;cases hs:q.small with
     |true=>rw [hs]at hc;cases hc;exact pV hd hk
     |false=>rw [hs]at hc;cases hc
theorem Tu {d:Option Nat} {g:Nat} {o:SOp} {t:Bool} (hc:opC call sg c d o=some c') (hd:d≠some g) (h:c.get g= .bool t):c'.get g= .bool t:=by
 have e:o9 c d (dJ c d o)=some c'→c'.get g= .bool t:=by
  intro hc;cases he:dJ c d o with
  |none=>rw [he]at hc;cases hc
  |some e=>rw [he]at hc;cases hc;exact wb hd h
 cases o with
 |call f as=>
  simp only [opC]at hc;split at hc<;>try (cases hc;done)
  exact Ek hc hd h
 |newB xs=>
  simp only [opC]at hc;unfold oP at hc;split at hc<;>try (cases hc;done)
  cases hc;exact wb hd h
 |slid q=>
  simp only [opC]at hc;unfold rI at hc;split at hc<;>try (cases hc;done)
  unfold pz at hc;split at hc<;>try (cases hc;done)
  split at hc<;>try (cases hc;done)
  cases hc;exact jm hd (ml h)
 |_=>exact e hc
theorem vS {g:Nat} {b:Bool} {i:SI} (h:i.okG N g b=true):(∀k,i.dst=some k→k<N)∧i.g=some (g,b)∧i.dst≠some g:=by
 simp only [SI.okG,an,decide_eq_true_eq]at h;obtain⟨⟨h1,h2⟩,h3⟩:=h;refine⟨fun k hk=> ?_, ?_,h3⟩
 ·unfold SI.ok at h1;rw [hk]at h1;simpa using h1
 ·split at h2
  ·rename_i g' b' hg
   simp only [an,decide_eq_true_eq,beq_iff_eq]at h2;rw [hg,h2.1,h2.2]
  ·cases h2
theorem Ea (hcal:fN P call) {ops:Array Oper} {full rest:List SI} (hl:i5 (fF P ops) ops.toList=some full) {Q:Exit→Act→World→Prop} {g:Nat} {b:Bool} {c1:CSt}
 (fin:∀(m n:Nat),n+m=ops.size→rest=full.drop n→∀a w,M C N c1 a w→wpOps P ops Q (jD n m) a w):
 ∀(l:List SI) (m n:Nat) (c:CSt) (a:Act) (w:World),n+m=ops.size→l++rest=full.drop n→(∀i∈l,i.okG N g b=true)→M C N c a w→c.get g= .bool b→plC call sg l c=some c1→wpOps P ops Q (jD n m) a w:=by
 obtain⟨hlen,hget⟩:=ej hl;intro l;induction l with
 |nil=>intro m n c a w hn he _ hM _ hs;rw [Qs]at hs;cases hs;exact fin m n hn he a w hM
 |cons i l ihl=>
  intro m n c a w hn he hok hM ht hs;obtain⟨g1,g2,g3⟩:=vS (hok i (aA ..));simp only [bG]at he
  have hn1:n<full.length:=by
   rcases bR n full.length with h|h
   ·exact h
   ·rw [bE h]at he;cases he
  rw [aX hn1]at he;obtain⟨he1,he2⟩:=md.inj he;have hn2:n<ops.toList.length:=by omega
  obtain⟨m',rfl⟩:∃m',m=m'+1:=⟨m-1,by rw [hlen,aO]at hn1;omega⟩;simp only [List.range'_succ];rw [wpOps_cons];rw [plC]at hs;cases h1:opC call sg c i.dst i.op with
  |none=>rw [h1,C3]at hs;cases hs
  |some c2=>
   rw [h1,C2]at hs;have hst:dS call sg c i=some c2:=by unfold dS;rw [g2];simp only [ht,if_true];exact h1
   have hik:i.ok N=true:=by
    unfold SI.ok;cases hdd:i.dst with
    |none=>rfl
    |some k=>simpa using g1 k hdd
   refine eQ hcal hM hik (o:=ops.toList[n]) (by rw [←cJ,ab hn2]) (by rw [he1];exact hget n hn2 hn1) hst ?_;intro a' w' hM';exact ihl m' (n+1) c2 a' w' (by omega) he2 (fun j hj=>hok j (au _ hj)) hM' (Tu h1 g3 ht) hs
theorem rS (hcal:fN P call) {ops:Array Oper} {full rest:List SI} (hl:i5 (fF P ops) ops.toList=some full) {Q:Exit→Act→World→Prop} {g:Nat} {b:Bool} {v:SV} (hvv:v= .tup []∨∃t,v= .bool t∧t≠b) {c1:CSt}
 (fin:∀(m n:Nat),n+m=ops.size→rest=full.drop n→∀a w,M C N c1 a w→wpOps P ops Q (jD n m) a w):
 ∀(l:List SI) (m n:Nat) (c:CSt) (a:Act) (w:World),n+m=ops.size→l++rest=full.drop n→(∀i∈l,i.okG N g b=true)→M C N c a w→c.get g=v→unL c l=c1→wpOps P ops Q (jD n m) a w:=by
 obtain⟨hlen,hget⟩:=ej hl;intro l;induction l with
 |nil=>intro m n c a w hn he _ hM _ hs;cases hs;exact fin m n hn he a w hM
 |cons i l ihl=>
  intro m n c a w hn he hok hM ht hs;obtain⟨g1,g2,g3⟩:=vS (hok i (aA ..));simp only [bG]at he
  have hn1:n<full.length:=by
   rcases bR n full.length with h|h
   ·exact h
   ·rw [bE h]at he;cases he
  rw [aX hn1]at he;obtain⟨he1,he2⟩:=md.inj he;have hn2:n<ops.toList.length:=by omega
  obtain⟨m',rfl⟩:∃m',m=m'+1:=⟨m-1,by rw [hlen,aO]at hn1;omega⟩;simp only [List.range'_succ];rw [wpOps_cons]
  have hst:dS call (fun _=> {}) c i=some (c.put i.dst (.tup [])):=by
   unfold dS;rw [g2];simp only [ht];rcases hvv with rfl|⟨t,rfl,htb⟩
   ·rfl
   ·simp only [htb,if_false]
  have hik:i.ok N=true:=by
   unfold SI.ok;cases hdd:i.dst with
   |none=>rfl
   |some k=>simpa using g1 k hdd
  refine eQ hcal hM hik (o:=ops.toList[n]) (by rw [←cJ,ab hn2]) (by rw [he1];exact hget n hn2 hn1) hst ?_;intro a' w' hM';exact ihl m' (n+1) _ a' w' (by omega) he2 (fun j hj=>hok j (au _ hj)) hM' (Ej g3 ht) hs
theorem xJ (hcal:fN P call) {ops:Array Oper} {full:List SI} (hl:i5 (fF P ops) ops.toList=some full) {Q:Exit→Act→World→Prop}:
 ∀(l:List RI) (m n:Nat),n+m=ops.size→erL l=full.drop n→l.all (RI.ok N)=true→∀ {c:CSt} {a:Act} {w:World},M C N c a w→fP call sg l c=some c'→(∀a w,M C N c' a w→Q .normal a w)→wpOps P ops Q (jD n m) a w:=by
 obtain⟨hlen,hget⟩:=ej hl;intro l;induction l with
 |nil=>
  intro m n hn he _ c a w hM hc hQ;have h1:full.length≤n:=List.drop_eq_nil_iff.1 he.symm;rw [hlen,aO]at h1;have:m=0:=by omega
  subst this;simp only [List.range'_zero,wpOps];rw [CX]at hc;cases hc;exact hQ _ _ hM
 |cons q r ih=>
  intro m n hn he hok c a w hM hc hQ;rw [iZ,an]at hok;obtain⟨hok1,hok2⟩:=hok;cases q with
  |dir q=>
   rw [CZ]at hc;cases hd:sJ c q with
   |none=>rw [hd,lC]at hc;cases hc
   |some c1=>rw [hd,lz,qM]at hc;exact ih m n hn he hok2 (qc hM hd) hc hQ
  |own i dead=>
   rw [CW]at hc;simp only [erL]at he
   have hn1:n<full.length:=by
    rcases bR n full.length with h|h
    ·exact h
    ·rw [bE h]at he;cases he
   rw [aX hn1]at he;obtain⟨he1,he2⟩:=md.inj he;have hn2:n<ops.toList.length:=by omega
   obtain⟨m',rfl⟩:∃m',m=m'+1:=⟨m-1,by rw [hlen,aO]at hn1;omega⟩;simp only [List.range'_succ];rw [wpOps_cons];cases hs:tN c i with
   |none=>rw [hs,lC]at hc;cases hc
   |some c1=>rw [hs,lz]at hc;refine xF hM hok1 (o:=ops.toList[n]) (by rw [←cJ,ab hn2]) (by rw [he1];exact hget n hn2 hn1) hs ?_;intro a' w' hM';exact ih m' (n+1) (by omega) he2 hok2 (hM'.kill dead) hc hQ
  |tks i dead=>
   rw [CV]at hc;simp only [erL]at he
   have hn1:n<full.length:=by
    rcases bR n full.length with h|h
    ·exact h
    ·rw [bE h]at he;cases he
   rw [aX hn1]at he;obtain⟨he1,he2⟩:=md.inj he;have hn2:n<ops.toList.length:=by omega
   obtain⟨m',rfl⟩:∃m',m=m'+1:=⟨m-1,by rw [hlen,aO]at hn1;omega⟩;simp only [List.range'_succ];rw [wpOps_cons];cases hs:AC c i with
   |none=>rw [hs,lC]at hc;cases hc
   |some c1=>rw [hs,lz]at hc;refine wR hM hok1 (o:=ops.toList[n]) (by rw [←cJ,ab hn2]) (by rw [he1];exact hget n hn2 hn1) hs ?_;intro a' w' hM';exact ih m' (n+1) (by omega) he2 hok2 (hM'.kill dead) hc hQ
  |op i dead=>
   rw [Qv]at hc;simp only [erL]at he
   have hn1:n<full.length:=by
    rcases bR n full.length with h|h
    ·exact h
    ·rw [bE h]at he;cases he
   rw [aX hn1]at he;obtain⟨he1,he2⟩:=md.inj he;have hn2:n<ops.toList.length:=by omega
   obtain⟨m',rfl⟩:∃m',m=m'+1:=⟨m-1,by rw [hlen,aO]at hn1;omega⟩;simp only [List.range'_succ];rw [wpOps_cons];cases hs:dS call sg c i with
   |none=>rw [hs,lC]at hc;cases hc
   |some c1=>rw [hs,lz]at hc;refine eQ hcal hM hok1 (o:=ops.toList[n]) (by rw [←cJ,ab hn2]) (by rw [he1];exact hget n hn2 hn1) hs ?_;intro a' w' hM';exact ih m' (n+1) (by omega) he2 hok2 (hM'.kill dead) hc hQ
  |grp g b l dead=>
   rw [CY]at hc;cases hs:pZ call sg b l c (c.get g)with
   |none=>rw [hs,lC]at hc;cases hc
   |some c1=>
    rw [hs,lz]at hc;unfold pZ at hs;have hsk:=hs;split at hs<;>try (cases hs;done)
    rotate_left
    ·rename_i ht
     have hok1':∀i∈l,i.okG N g b=true:=by simpa [RI.ok]using hok1
     have fin:∀(m n:Nat),n+m=ops.size→erL r=full.drop n→∀a w,M C N c1 a w→wpOps P ops Q (jD n m) a w:=fun m n hn he a w hM'=>ih m n hn he hok2 (hM'.kill dead) hc hQ
     simp only [erL]at he;cases hs;exact rS hcal hl (.inl rfl) fin l m n c a w hn he hok1' hM ht rfl
    rename_i t ht;have hok1':∀i∈l,i.okG N g b=true:=by simpa [RI.ok]using hok1
    have fin:∀(m n:Nat),n+m=ops.size→erL r=full.drop n→∀a w,M C N c1 a w→wpOps P ops Q (jD n m) a w:=fun m n hn he a w hM'=>ih m n hn he hok2 (hM'.kill dead) hc hQ
    simp only [erL]at he;split at hs
    ·rename_i htb
     exact Ea hcal hl fin l m n c a w hn he hok1' hM (by rw [ht,htb]) hs
    ·rename_i htb
     cases hs;exact rS hcal hl (.inr ⟨t,rfl,htb⟩) fin l m n c a w hn he hok1' hM ht rfl
theorem QD:∀ {l:List Nat} {c:CSt} {s:St},Sim N c s→Sim N (gcC c l) (s.forget l)
 |[],_,_,h=>h
 |o::r,c,s,h=>by show Sim N (gcC (c.purge o (o+1)) r) ((s.purge o (o+1)).forget r);exact QD (h.purge o (o+1))
theorem TK (hS:Sim N c s) {so:SOp} {d:Option Nat} {e:fD} {f:Eff} (h:uw e f):jo s so d f=kY c so d e:=by unfold jo kY Eff.names;rw [h.val,h.wr,h.new,h.eat,h.tok,hS.evL];rfl
theorem r5 (f:Nat→Nat) (sv:SV):sv.ids=[]→sv.ren f id=sv:=by
 refine SV.rec (motive_1:=fun sv=>sv.ids=[]→sv.ren f id=sv) (motive_2:=fun _=>True) (motive_3:=fun l=>SV.idsL l=[]→SV.renL f id l=l)
  ?_ ?_ ?_ ?_ ?_ ?_ ?_ ?_ ?_ ?_ ?_ ?_ ?_ ?_ ?_ ?_ ?_ ?_ ?_ ?_ sv
 ·intro _;rfl
 ·intro _ _;rfl
 ·intro _ _ _;rfl
 ·intro _ _;rfl
 ·intro _ _;rfl
 ·intro l t _;cases t<;>rfl
 ·intro sz xs t _ _;cases t<;>rfl
 ·intro _;rfl
 ·intro _;rfl
 ·intro _ _ _;rfl
 ·intro o off h;simp [SV.ids]at h
 ·intro o sz i j h;simp [SV.ids]at h
 ·intro o sz off n cap h;simp [SV.ids]at h
 ·intro cs ih h;simp only [SV.ids]at h;simp only [SV.ren,ih h]
 ·intro cs ih h;simp only [SV.ids]at h;simp only [SV.ren,ih h]
 ·intro f c1 c2 ih1 ih2 h
  simp only [SV.ids,ey]at h;simp only [SV.ren,ih1 h.1,ih2 h.2]
 ·trivial
 ·intros;trivial
 ·intro _;rfl
 ·intro v l ihv ihl h
  simp only [SV.idsL,ey]at h;simp only [SV.renL,ihv h.1,ihl h.2]
theorem pC (f:Nat→Nat):∀l:List SV,SV.idsL l=[]→SV.renL f id l=l
 |[],_=>rfl
 |v::r,h=>by simp only [SV.idsL,ey]at h;simp only [SV.renL,r5 f v h.1,pC f r h.2]
theorem pB (f:Nat→Nat) (ob:aB) (h:ob.ids=[]):ob.ren f id=ob:=by
 cases ob with
 |rc cs=>simp only [aB.ids]at h;simp only [aB.ren,pC f cs h]
 |arr sz xs=>rfl
 |bar l=>rfl
theorem tg (hcal:fN P call) {b:Bool} {g:Nat} {as:List SV} {e:fD} (hS:Sim N c s) (he:o5 call c g as b=some e):∃f,mG P s g as f∧uw e f∧sW c e:=by
 cases b with
 |false=>cases he
 |true=>
  simp only [o5]at he;generalize SV.idsL as=ids at he;cases ids with
  |nil=>cases he
  |cons o r=>
   simp only [qf]at he;cases hl:c.look o with
   |none=>rw [hl]at he;cases he
   |some ob=>
    rw [hl]at he;simp only [o7]at he;cases hb:(ob.ids.isEmpty&&ob.toks.isEmpty&&(SV.idsL (SV.bareL as)).all (fun k=>decide (k=o))&&(SV.idsL (SV.renL (eB [o]) id (SV.bareL as))).all (fun k=>decide (k=0)))with
    |false=>rw [hb]at he;cases he
    |true=>
     rw [hb]at he;simp only [o6]at he;simp only [an,List.isEmpty_iff,aM,decide_eq_true_eq]at hb;obtain⟨⟨⟨k1,k2⟩,k3⟩,k4⟩:=hb;generalize hA:SV.renL (eB [o]) id (SV.bareL as)=A at he k4;cases hq:call g A [ob] 0 with
     |none=>rw [hq]at he;cases he
     |some q=>
      rw [hq]at he;unfold uS at he;split at he
      ·rename_i x r' cs' hx
       cases hx;cases hb2:(r'.ids.isEmpty&&r'.toks.isEmpty&&(SV.idsL cs').isEmpty&&(SV.toksL cs').isEmpty)with
       |false=>rw [hb2]at he;cases he
       |true=>
        rw [hb2]at he;simp only [uR,av.injEq]at he;subst he;simp only [an,List.isEmpty_iff]at hb2;obtain⟨⟨⟨j1,j2⟩,j3⟩,j4⟩:=hb2;obtain⟨hcb,hS'⟩:=hcal _ _ _ _ _ hq;have hwf:ob.wf=true:=hS.inv.wf _ (iF hl);refine⟨{pre:=True,val:=r',wr:=[(o,.rc cs')]},⟨[o],A,[ob],r',[.rc cs'],⟨hcb, ?_⟩,rfl,rfl,by simp,by simp, ?_, ?_,j2,by rw [j1];simp, ?_, ?_⟩,⟨rfl,rfl,rfl,rfl,rfl⟩,⟨(fun ob h=>by cases h),Or.inr ⟨o,_,rfl,by rw [hl];rfl,rfl⟩⟩⟩
        ·intro C x w vs h1 h2 h3 h4 hH hvs
         refine(hS' C x w vs h1 h2 (fun b hb=>(h3 b hb).imp id (fun⟨i,hi,he⟩=> .inl ⟨i,hi,he⟩)) (by simp) (by simpa using hwf) hH hvs).mono ?_;rintro en w' ⟨v',x',q',rfl,hq',hr,hH',_,hg⟩;subst hq';exact⟨v',x',r',[(0,.rc cs')],rfl,⟨rfl,rfl⟩,hr,by rw [j2];exact hH',hg⟩
        ·subst hA
         refine⟨by rw [dq,dq,fv];simp,fun i hi=> ?_⟩;have hi2:i<(SV.bareL as).length:=by rw [fv];simpa using hi
         have hi3:i<(SV.renL (eB [o]) id (SV.bareL as)).length:=by rw [dq];simpa using hi2
         have e1:(SV.renL (fun k=> [o].getD k 0) id (SV.renL (eB [o]) id (SV.bareL as))).getD i .undef=((SV.renL (eB [o]) id (SV.bareL as)).getD i .undef).ren (fun k=> [o].getD k 0) id:=by rw [dq,aP _ (by rfl)]
         have e2:(SV.renL (eB [o]) id (SV.bareL as)).getD i .undef=((SV.bareL as).getD i .undef).ren (eB [o]) id:=by rw [dq,aP _ (by rfl)]
         have e3:(SV.bareL as).getD i .undef=(as.getD i .undef).bare:=by rw [fv,aP _ (by rfl)]
         rw [e1];intro x v hv;have h1:Rep x ((SV.bareL as).getD i .undef) v:=by rw [e3];exact hv.bare rfl rfl
         let y:Sit:=⟨x.G,fun _=>x.β o,x.τ⟩
         have h2:Rep y ((SV.renL (eB [o]) id (SV.bareL as)).getD i .undef) v:=by rw [e2];exact Rep.renF (x:=x) (x2:=y) (fun _ _ _ h=>h) h1 (fun k hk=>by rw [k3 k (iy hi2 k hk)]) (fun t _=>rfl)
         exact Rep.renF (x:=y) (x2:=x) (fun _ _ _ h=>h) h2 (fun k hk=>by rw [k4 k (iy hi3 k hk)];rfl) (fun t _=>rfl)
        ·intro i hi
         have hi0:i=0:=by simp at hi;omega
         subst hi0;show s.look o=some (ob.ren _ id);rw [pB _ _ k1];have:=hS.look o;rw [this];exact hl
        ·intro o' ho'
         rw [aV.1 ho'];exact⟨j4,fun k hk=>by simp only [aB.ids]at hk;rw [j3]at hk;cases hk⟩
        ·simp only [aL,bT,List.zip_cons_cons,List.zip_nil_right]
         rw [r5 _ _ j1,pB _ (.rc cs') j3]
      ·cases he
theorem xz (hcal:fN P call) {b:List Nat}:∀ {l:List SI} {fs:List eO} {c:CSt} {s:St},l.all (SI.ok N)=true→Sim N c s→iT call sg b l fs c=some c'→vcD P b l fs (Sim N c') s:=by
 intro l;induction l with
 |nil=>intro fs c s _ hS h;simp only [iT]at h;obtain⟨h1,rfl⟩:=bL h;exact⟨h1,hS⟩
 |cons i r ih=>
  intro fs c s hok hS h;rw [iZ,an]at hok;obtain⟨hok1,hok2⟩:=hok
  have hd:∀k,i.dst=some k→k<N:=by intro k hk;unfold SI.ok at hok1;rw [hk]at hok1;simpa using hok1
  have step:nxD call sg b i.op i.dst r fs c (dQ call sg c i)=some c'→eK P i s (xK (vcD P b r) fs (Sim N c') i.op i.dst s):=by
   intro h;cases he:dQ call sg c i with
   |none=>rw [he]at h;simp [nxD]at h
   |some e=>
    rw [he]at h;simp only [nxD]at h
    have next:∀ {f:Eff},uw e f→sW c e→xK (vcD P b r) fs (Sim N c') i.op i.dst s f:=by intro f h1 h2;unfold xK;rw [TK hS h1];exact ih hok2 (hS.app hd h1 h2) h
    unfold dQ at he;unfold eK;split at he
    ·
     rename_i f as hop;rw [hop];simp only;rw [hS.ev];cases hv:c.ev f with
     |fn g u v=>
      rw [hv]at he;simp only [lI]at he;generalize hb:((SV.idsL (u++evL c as++v)).isEmpty&&(sg g).own.isEmpty)=q at he;cases q with
      |false=>simp only [jY]at he;obtain⟨f,hf1,hf2,hf3⟩:=tg (N:=N) (s:=s) hcal hS he;have nx:=next hf2 hf3;rw [hop]at nx;refine⟨f, ?_,nx⟩;rw [←hS.evL];exact hf1
      |true=>
       simp only [jY]at he;cases hq:call g (SV.bareL (u++evL c as++v)) [] 0 with
       |none=>rw [hq]at he;cases he
       |some q=>
        rw [hq]at he;simp only [uU]at he;cases hbare:q.bare with
        |false=>rw [hbare]at he;cases he
        |true=>
         rw [hbare]at he;simp only [uT,av.injEq]at he;subst he;simp only [ec.bare,an,List.isEmpty_iff]at hbare;obtain⟨⟨⟨b1,b2⟩,b3⟩,b4⟩:=hbare;obtain⟨hcb,hS'⟩:=hcal _ _ _ _ _ hq
         have hids:SV.idsL (u++evL c as++v)=[]:=by simp only [an,List.isEmpty_iff]at hb;exact hb.1
         have nx:=next (uw.v q.r True) (sW.v q.r);rw [hop]at nx;refine⟨{pre:=True,val:=q.r},⟨[],SV.bareL (u++evL c as++v),[],q.r,[],⟨hcb, ?_⟩,rfl,rfl,by simp,by simp, ?_,by simp,b4,by rw [b3];simp,by simp, ?_⟩,nx⟩
         ·intro C x w vs h1 h2 h3 h4 hH hvs
          refine(hS' C x w vs h1 h2 (fun b hb=>(h3 b hb).imp id (fun⟨i,hi,_⟩=>by simp at hi)) (by simp) (by simp) hH hvs).mono ?_;rintro en w' ⟨v',x',q',rfl,hq',hr,hH',_,hg⟩;subst hq';exact⟨v',x',q'.r,q'.os,rfl,⟨rfl,by rw [b1];rfl⟩,hr,by rw [b4,←b2];exact hH',hg⟩
         ·rw [←hS.evL]
          have hm:(fun k=>([]:List Nat).getD k 0)=fun _=>0:=by funext k;simp
          have hbi:∀sv:SV,sv.ids=[]→sv.bare.ren (fun k=>([]:List Nat).getD k 0) id=sv.bare:=by
           intro sv;rw [hm]
           refine SV.rec (motive_1:=fun sv=>sv.ids=[]→sv.bare.ren (fun _=>0) id=sv.bare) (motive_2:=fun _=>True) (motive_3:=fun l=>SV.idsL l=[]→SV.renL (fun _=>0) id (SV.bareL l)=SV.bareL l)
            ?_ ?_ ?_ ?_ ?_ ?_ ?_ ?_ ?_ ?_ ?_ ?_ ?_ ?_ ?_ ?_ ?_ ?_ ?_ ?_ sv
           ·intro _;rfl
           ·intro _ _;rfl
           ·intro _ _ _;rfl
           ·intro _ _;rfl
           ·intro _ _;rfl
           ·intro _ _ _;rfl
           ·intro _ _ _ _ _;rfl
           ·intro _;rfl
           ·intro _;rfl
           ·intro _ _ _;rfl
           ·intro o off h;simp [SV.ids]at h
           ·intro o sz i j h;simp [SV.ids]at h
           ·intro o sz off n cap h;simp [SV.ids]at h
           ·intro cs ih h;simp only [SV.ids]at h;simp only [SV.bare,SV.ren,ih h]
           ·intro cs ih h;simp only [SV.ids]at h;simp only [SV.bare,SV.ren,ih h]
           ·intro f c1 c2 ih1 ih2 h
            simp only [SV.ids,ey]at h;simp only [SV.bare,SV.ren,ih1 h.1,ih2 h.2]
           ·trivial
           ·intros;trivial
           ·intro _;rfl
           ·intro v l ihv ihl h
            simp only [SV.idsL,ey]at h;simp only [SV.bareL,SV.renL,ihv h.1,ihl h.2]
          have hall:∀l:List SV,SV.idsL l=[]→∀i,i<l.length→(l.getD i .undef).ids=[]:=by
           intro l hl i hi;cases hz:(l.getD i .undef).ids with
           |nil=>rfl
           |cons k ks=>have:=iy hi k (by rw [hz];exact aA ..);rw [hl]at this;cases this
          refine⟨by rw [dq,fv];simp,fun i hi=> ?_⟩;rw [dq,fv];rw [aP _ (by rfl),aP _ (by rfl),hbi _ (hall _ hids i hi)];exact fun x v hv=>hv.bare rfl rfl
         ·have hm:(fun k=>([]:List Nat).getD k 0)=fun _=>0:=by funext k;simp
          have hrr:∀sv:SV,sv.ids=[]→sv.toks=[]→sv.ren (fun _=>0) id=sv:=by
           intro sv
           refine SV.rec (motive_1:=fun sv=>sv.ids=[]→sv.toks=[]→sv.ren (fun _=>0) id=sv) (motive_2:=fun _=>True) (motive_3:=fun l=>SV.idsL l=[]→SV.toksL l=[]→SV.renL (fun _=>0) id l=l)
            ?_ ?_ ?_ ?_ ?_ ?_ ?_ ?_ ?_ ?_ ?_ ?_ ?_ ?_ ?_ ?_ ?_ ?_ ?_ ?_ sv
           ·intro _ _;rfl
           ·intro _ _ _;rfl
           ·intro _ _ _ _;rfl
           ·intro _ _ _;rfl
           ·intro _ _ _;rfl
           ·intro l t _ _;cases t<;>rfl
           ·intro sz xs t _ _ _;cases t<;>rfl
           ·intro _ _;rfl
           ·intro _ _;rfl
           ·intro _ _ _ _;rfl
           ·intro o off h;simp [SV.ids]at h
           ·intro o sz i j h;simp [SV.ids]at h
           ·intro o sz off n cap h;simp [SV.ids]at h
           ·intro cs ih h k;simp only [SV.ids]at h;simp only [SV.toks]at k;simp only [SV.ren,ih h k]
           ·intro cs ih h k;simp only [SV.ids]at h;simp only [SV.toks]at k;simp only [SV.ren,ih h k]
           ·intro f c1 c2 ih1 ih2 h k
            simp only [SV.ids,ey]at h;simp only [SV.toks,ey]at k;simp only [SV.ren,ih1 h.1 k.1,ih2 h.2 k.2]
           ·trivial
           ·intros;trivial
           ·intro _ _;rfl
           ·intro v l ihv ihl h k
            simp only [SV.idsL,ey]at h;simp only [SV.toksL,ey]at k;simp only [SV.renL,ihv h.1 k.1,ihl h.2 k.2]
          rw [hm,hrr _ b3 b4];rfl
     |_=>rw [hv]at he;cases he
    ·cases he
    ·cases he
    ·
     rename_i so hnc hni hncp
     by_cases hp:∃q y z,i.op= .pick q y z
     ·obtain⟨q,y,z,hop⟩:=hp
      rw [hop]at he;simp only [dJ]at he;split at he<;>cases he;rename_i t ht;have n1:=next (f:= {pre:=True,val:=s.ev y});have n2:=next (f:= {pre:=True,val:=s.ev z});rw [hop]at n1 n2 ⊢;simp only;rw [hS.ev,ht];refine⟨fun e=> ?_,fun e=> ?_⟩
      ·subst e
       exact n1 ⟨hS.ev y,rfl,rfl,rfl,rfl⟩ (sW.v _)
      ·subst e
       exact n2 ⟨hS.ev z,rfl,rfl,rfl,rfl⟩ (sW.v _)
     ·obtain⟨f,h1,h2,h3,h4⟩:=wu hS he (fun q y z e=>hp ⟨q,y,z,e⟩) (fun ne q e=>hni ne q e) (fun sz q y e=>hncp sz q y e)
      split
      ·rename_i q y z e;exact absurd ⟨q,y,z,e⟩ hp
      ·rename_i f' as e;exact absurd e (hnc f' as)
      ·rw [h1];exact⟨h2,next h3 h4⟩
  simp only [iT]at h;simp only [vcD];split at h
  ·rename_i hg
   rw [hg];exact step h
  ·rename_i g want hg
   rw [hg];simp only;rw [hS.get];split at h<;>try (cases h;done)
   rename_i t ht;rw [ht];simp only;split at h
   ·rename_i htw
    exact⟨fun _=>step h,fun e=>by subst htw;cases t<;>cases e⟩
   ·rename_i htw
    exact⟨fun e=>absurd e htw,fun _=>ih hok2 (hS.put hd _) h⟩
end Go.Sy
namespace Go.Sy
variable [ba]
variable {P : Program} {C : Ctx} {x : Sit} {a : Act} {w : World} {N : Nat} {c c' : CSt} {s : St} {call : cr} {sg : Nat → Sig}
abbrev TM:=List (Nat×SV)
structure Uni (d:Option Nat) (F:TM→TM):Prop where
 get:∀tm tm' n,eE tm n=eE tm' n→eE (F tm) n=eE (F tm') n
 dom:∀tm p,p∈F tm→(∃q∈tm,q.1=p.1)∨d=some p.1
theorem Uni.id {d:Option Nat}:Uni d (fun t=>t):=⟨fun _ _ _ h=>h,fun _ p hp=> .inl ⟨p,hp,rfl⟩⟩
theorem Uni.comp {d:Option Nat} {F G:TM→TM} (hF:Uni d F) (hG:Uni d G):Uni d (fun t=>G (F t)):=
 ⟨fun _ _ _ h=>hG.get _ _ _ (hF.get _ _ _ h),fun tm p hp=>by
  rcases hG.dom _ _ hp with⟨q,hq,e⟩|h
  ·rcases hF.dom _ _ hq with⟨q',hq',e'⟩|h
   ·exact .inl ⟨q',hq',e'.trans e⟩
   ·exact .inr (by rw [h,e])
  ·exact .inr h⟩
theorem Uni.purge {d:Option Nat} (lo hi:Nat):Uni d (dA lo hi):=
 ⟨fun tm tm' n h=>by rw [gy,gy,h],fun tm p hp=>by obtain⟨q,hq,e⟩:=jy hp;exact .inl ⟨q,hq,e.symm⟩⟩
theorem Uni.pub {d:Option Nat} (o:Nat) (obj:aB):Uni d (mf o obj):=
 ⟨fun tm tm' n h=>by rw [kL,kL,h],fun tm p hp=>by obtain⟨q,hq,e⟩:=qH hp;exact .inl ⟨q,hq,e.symm⟩⟩
theorem Uni.put (k:Nat) (v:SV):Uni (some k) (fun t=>jI t k v):=
 ⟨fun tm tm' n h=>by
  simp only [mT];rw [h],fun tm p hp=>by
  rcases mS hp with e|e
  ·exact .inr (by rw [e])
  ·exact .inl ⟨p,e,rfl⟩⟩
theorem Uni.weak {d:Option Nat} {F:TM→TM} (h:Uni none F):Uni d F:=⟨h.get,fun tm p hp=>by
 rcases h.dom tm p hp with h|h
 ·exact .inl h
 ·cases h⟩
theorem Uni.cput (d:Option Nat) (v:SV):∃F,Uni d F∧∀tm ob tk,CSt.put ⟨tm,ob,tk⟩ d v=⟨F tm,ob,tk⟩:=by
 cases d with
 |none=>exact⟨fun t=>t,Uni.id,fun _ _ _=>rfl⟩
 |some k=>exact⟨fun t=>jI t k v,Uni.put k v,fun _ _ _=>rfl⟩
section
variable {tm tm' : TM} {ob : List (Nat × aB)} {tk : List Nat}
theorem mN:∀(n:Nat) (acc l:List Nat),dO ⟨tm',ob,tk⟩ n acc l=dO ⟨tm,ob,tk⟩ n acc l
 |0,_,_=>rfl
 |_+1,_,[]=>rfl
 |n+1,acc,o::t=>by
  simp only [dO];show(if _ then _ else match iW ob o with|some ob1=>_|none=>_)=(if _ then _ else match iW ob o with|some ob1=>_|none=>_);split
  ·exact mN n _ _
  ·split
   ·exact mN n _ _
   ·exact mN n _ _
theorem vW:∀l:List Nat,gF ⟨tm',ob,tk⟩ l=gF ⟨tm,ob,tk⟩ l
 |[]=>rfl
 |o::r=>by simp only [gF];rw [vW r];rfl
theorem ot (o:Nat) (vs:List SV):∃F ob' tk' vs',Uni none F∧∀tm,CSt.publish ⟨tm,ob,tk⟩ o vs=(⟨F tm,ob',tk'⟩,vs'):=by
 unfold CSt.publish CSt.look;simp only;split
 ·exact⟨_,_,_,_,Uni.pub _ _,fun _=>rfl⟩
 ·exact⟨_,_,_,_,Uni.pub _ _,fun _=>rfl⟩
 ·exact⟨_,_,_,_,Uni.id,fun _=>rfl⟩
theorem pI:∀(l:List Nat) (ob:List (Nat×aB)) (tk:List Nat) (vs:List SV),∃F ob' tk' vs',Uni none F∧∀tm,eV ⟨tm,ob,tk⟩ vs l=(⟨F tm,ob',tk'⟩,vs')
 |[],ob,tk,vs=>⟨_,_,_,_,Uni.id,fun _=>rfl⟩
 |o::r,ob,tk,vs=>by obtain⟨F,ob1,tk1,vs1,h1,h2⟩:=ot (ob:=ob) (tk:=tk) o vs;obtain⟨G,ob2,tk2,vs2,h3,h4⟩:=pI r ob1 tk1 vs1;refine⟨fun t=>G (F t),ob2,tk2,vs2,h1.comp h3,fun tm=> ?_⟩;simp only [eV];rw [h2];exact h4 _
theorem qm (d:Option Nat) (m mt:List Nat) (q:ec):∃F ob' tk',Uni d F∧∀tm,jZ ⟨tm,ob,tk⟩ d m mt q=⟨F tm,ob',tk'⟩:=by unfold jZ;dsimp only;obtain⟨F,h1,h2⟩:=Uni.cput d (q.r.ren (fx (d.getD 0) m) (gZ (d.getD 0)));exact⟨_,_,_,(Uni.purge ((d.getD 0+1)*1000) ((d.getD 0+2)*1000)).comp h1,fun tm=>h2 _ _ _⟩
theorem FD {sg:Sig} {d:Option Nat} {g:Nat} {as:List SV}:∃F,Uni d F∧∃q:Option (List (Nat×aB)×List Nat),∀tm,jS call sg d g (⟨tm,ob,tk⟩,as)=q.map fun q=>⟨F tm,q.1,q.2⟩:=by
 simp only [jS];generalize kb tk sg.own 50 0 as=z;obtain⟨as2,mt1⟩:=z;simp only [oK];have e1:∀tm,dO ⟨tm,ob,tk⟩ 60 [] (SV.idsL as2)=dO ⟨[],ob,tk⟩ 60 [] (SV.idsL as2):=fun tm=>mN _ _ _
 have e2:∀tm l,gF ⟨tm,ob,tk⟩ l=gF ⟨[],ob,tk⟩ l:=fun tm l=>vW l
 simp only [e1,e2];generalize dO ⟨[],ob,tk⟩ 60 [] (SV.idsL as2)=m;cases ho:gF ⟨[],ob,tk⟩ m with
 |none=>exact⟨_,Uni.id,none,fun _=>rfl⟩
 |some os0=>
  simp only [lT];generalize ed tk (50+mt1.length) os0=z2;obtain⟨os,mt2⟩:=z2;simp only [oJ];generalize (po (SV.idsL as2++fL os) m&&dB m&&dB (cB (mt1++mt2))&&decide (m.length≤40)&&m.all fun o=> !inR (d.getD 0) o)=b;cases b with
  |false=>exact⟨_,Uni.id,none,fun _=>rfl⟩
  |true=>
   simp only [oI];cases hq:call g (SV.renL (eB m) _root_.id as2) (ei (eB m) _root_.id os) (mt1.length+mt2.length)with
   |none=>exact⟨_,Uni.id,none,fun _=>rfl⟩
   |some q=>
    simp only [py];generalize q.small=b;cases b with
    |false=>exact⟨_,Uni.id,none,fun _=>rfl⟩
    |true=>obtain⟨F,ob',tk',h1,h2⟩:=qm (ob:=ob) (tk:=tk) d m (cB (mt1++mt2)) q;exact⟨F,h1,some (ob',tk'),fun tm=>by simp only [xb,bf,h2]⟩
theorem sO {sg:Sig} {d:Option Nat} {g:Nat} {as:List SV}:∃F,Uni d F∧∃q:Option (List (Nat×aB)×List Nat),∀tm,iB call sg ⟨tm,ob,tk⟩ d g as=q.map fun q=>⟨F tm,q.1,q.2⟩:=by
 unfold iB;generalize ((SV.idsL as).isEmpty&&sg.own.isEmpty)=b;cases b with
 |true=>
  simp only [jX];cases hq:call g (SV.bareL as) [] 0 with
  |none=>exact⟨_,Uni.id,none,fun _=>rfl⟩
  |some q=>
   simp only [mU];generalize q.bare=b;cases b with
   |true=>simp only [oR];obtain⟨F,h1,h2⟩:=Uni.cput d q.r;exact⟨F,h1,some (ob,tk),fun tm=>by rw [h2];rfl⟩
   |false=>
    simp only [oR];generalize q.small=b;cases b with
    |false=>exact⟨_,Uni.id,none,fun _=>rfl⟩
    |true=>obtain⟨F,ob',tk',h1,h2⟩:=qm (ob:=ob) (tk:=tk) d [] [] q;exact⟨F,h1,some (ob',tk'),fun tm=>by simp only [ya,h2];rfl⟩
 |false=>simp only [jX];obtain⟨F,ob1,tk1,vs1,h1,h2⟩:=pI (i7 sg.raw 0 as) ob tk as;obtain⟨G,h3,q,h4⟩:=FD (call:=call) (ob:=ob1) (tk:=tk1) (sg:=sg) (d:=d) (g:=g) (as:=vs1);exact⟨fun t=>G (F t),h1.weak.comp h3,q,fun tm=>by rw [h2];exact h4 _⟩
theorem Hh:∀(l:List (Nat×aB)) (tm:TM) (ob:List (Nat×aB)) (tk:List Nat),CSt.wr ⟨tm,ob,tk⟩ l=⟨tm,(CSt.wr ⟨[],ob,tk⟩ l).ob,tk⟩
 |[],_,_,_=>rfl
 |p::r,tm,ob,tk=>by simp only [CSt.wr];exact Hh r tm _ tk
theorem Dl (d:Option Nat) (e:fD):∃F ob' tk',Uni d F∧∀tm,CSt.app ⟨tm,ob,tk⟩ d e=⟨F tm,ob',tk'⟩:=by
 unfold CSt.app;dsimp only;obtain⟨F,h1,h2⟩:=Uni.cput d e.val;split
 ·exact⟨_,_,_,(Uni.purge (d.getD 0+100) (d.getD 0+101)).comp h1,fun tm=>h2 _ _ _⟩
 ·exact⟨_,_,_,(Uni.purge (d.getD 0+100) (d.getD 0+101)).comp h1,fun tm=>h2 _ _ _⟩
 ·exact⟨F,(CSt.wr ⟨[],ob,tk⟩ e.wr).ob,tk,h1,fun tm=>by rw [Hh];exact h2 _ _ _⟩
theorem xmv {x:Arg} (h:∀n,x= .t n→eE tm' n=eE tm n):CSt.ev ⟨tm',ob,tk⟩ x=CSt.ev ⟨tm,ob,tk⟩ x:=by
 cases x with
 |t n=>exact h n rfl
 |c v=>rfl
 |f g=>rfl
theorem mE:∀ {l:List Arg},(∀x∈l,CSt.ev ⟨tm',ob,tk⟩ x=CSt.ev ⟨tm,ob,tk⟩ x)→evL ⟨tm',ob,tk⟩ l=evL ⟨tm,ob,tk⟩ l
 |[],_=>rfl
 |x::r,h=>by simp only [evL];rw [h x (aA ..),mE fun y hy=>h y (au _ hy)]
theorem Qr:∀ {l:List (Nat×Nat×Arg)},(∀x∈l.map (fun p=>p.2.2),CSt.ev ⟨tm',ob,tk⟩ x=CSt.ev ⟨tm,ob,tk⟩ x)→psC ⟨tm',ob,tk⟩ l=psC ⟨tm,ob,tk⟩ l
 |[],_=>rfl
 |(o,n,x)::r,h=>by simp only [psC];rw [h x (by simp),Qr fun y hy=>h y (by simp only [aL,ao];exact .inr hy)]
theorem nk {x:Option Arg} {d:Int} (h:∀y∈x.toList,CSt.ev ⟨tm',ob,tk⟩ y=CSt.ev ⟨tm,ob,tk⟩ y):kD ⟨tm',ob,tk⟩ x d=kD ⟨tm,ob,tk⟩ x d:=by
 cases x with
 |none=>rfl
 |some y=>simp only [kD];rw [h y (by simp)]
theorem AL {sz:Nat} {v:SV} {lo hi mx:Option Arg} (h1:∀y∈lo.toList,CSt.ev ⟨tm',ob,tk⟩ y=CSt.ev ⟨tm,ob,tk⟩ y) (h2:∀y∈hi.toList,CSt.ev ⟨tm',ob,tk⟩ y=CSt.ev ⟨tm,ob,tk⟩ y) (h3:∀y∈mx.toList,CSt.ev ⟨tm',ob,tk⟩ y=CSt.ev ⟨tm,ob,tk⟩ y):
 oh ⟨tm',ob,tk⟩ sz v lo hi mx=oh ⟨tm,ob,tk⟩ sz v lo hi mx:=by
 unfold oh;simp only [nk h1,nk h2,nk h3]
theorem Aw {o:SOp} (h:∀y∈o.args,CSt.ev ⟨tm',ob,tk⟩ y=CSt.ev ⟨tm,ob,tk⟩ y):cD ⟨tm',ob,tk⟩ o=cD ⟨tm,ob,tk⟩ o:=by
 cases o with
 |build z ps=>simp only [SOp.args]at h;simp only [cD];rw [Qr h]
 |lit sz xs=>simp only [SOp.args]at h;simp only [cD];rw [mE h]
 |litB xs=>simp only [SOp.args]at h;simp only [cD];rw [mE h]
 |mkfn f a b=>simp only [SOp.args,aj]at h;simp only [cD];rw [mE fun y hy=>h y (.inl hy),mE fun y hy=>h y (.inr hy)]
 |slcS x lo hi=>simp only [SOp.args,ao,aj]at h;simp only [cD];rw [h x (.inl rfl)];simp only [nk fun y hy=>h y (.inr (.inl hy)),nk fun y hy=>h y (.inr (.inr hy))]
 |slcL sz x lo hi mx=>simp only [SOp.args,ao,aj]at h;simp only [cD];rw [h x (.inl rfl),AL (fun y hy=>h y (.inr (.inl (.inl hy)))) (fun y hy=>h y (.inr (.inl (.inr hy)))) (fun y hy=>h y (.inr (.inr hy)))]
 |slcA len sz x lo hi mx=>simp only [SOp.args,ao,aj]at h;simp only [cD];rw [h x (.inl rfl)];simp only [AL (fun y hy=>h y (.inr (.inl (.inl hy)))) (fun y hy=>h y (.inr (.inl (.inr hy)))) (fun y hy=>h y (.inr (.inr hy)))]
 |_=>
  simp only [SOp.args,ao,dX,or_false,forall_eq_or_imp,forall_eq,aV]at h
  first
   |rfl
   |(simp only [cD];rw [h];rfl)
   |(simp only [cD];rw [h.1,h.2];rfl)
   |(simp only [cD,h];done)
   |(simp only [cD,h.1,h.2];done)
theorem DH {n:Nat} {v:List SV} {u:SV}:jR ⟨tm',ob,tk⟩ n v u=jR ⟨tm,ob,tk⟩ n v u:=by
 cases u<;>rfl
theorem T5 {d:Option Nat} {o:SOp} (h:∀y∈o.args,CSt.ev ⟨tm',ob,tk⟩ y=CSt.ev ⟨tm,ob,tk⟩ y):dJ ⟨tm',ob,tk⟩ d o=dJ ⟨tm,ob,tk⟩ d o:=by
 have hv:=Aw h;cases o with
 |new ob=>rfl
 |call f as=>rfl
 |box x=>simp only [SOp.args,ao,dX,or_false,forall_eq]at h;simp only [dJ];rw [h]
 |mk z b n m=>simp only [SOp.args,ao,dX,or_false,forall_eq_or_imp,forall_eq]at h;simp only [dJ];rw [h.1,h.2]
 |mkB n m=>simp only [SOp.args,ao,dX,or_false,forall_eq_or_imp,forall_eq]at h;simp only [dJ];rw [h.1,h.2]
 |store n a x=>simp only [SOp.args,ao,dX,or_false,forall_eq_or_imp,forall_eq]at h;simp only [dJ];rw [h.1,h.2,DH]
 |app z b x y=>
  simp only [SOp.args,ao,dX,or_false,forall_eq_or_imp,forall_eq]at h;have e1:∀v,eW ⟨tm',ob,tk⟩ v=eW ⟨tm,ob,tk⟩ v:=fun v=>by cases v<;>rfl
  have e2:∀n v,i9 ⟨tm',ob,tk⟩ n v=i9 ⟨tm,ob,tk⟩ n v:=fun n v=>by cases v<;>rfl
  have e3:∀t:Tok,t.readyC ⟨tm',ob,tk⟩=t.readyC ⟨tm,ob,tk⟩:=fun t=>by cases t<;>rfl
  simp only [dJ];rw [h.1,h.2];simp only [e1,e2,e3]
 |cpy sz x y=>
  simp only [SOp.args,ao,dX,or_false,forall_eq_or_imp,forall_eq]at h;have e1:∀v,eW ⟨tm',ob,tk⟩ v=eW ⟨tm,ob,tk⟩ v:=fun v=>by cases v<;>rfl
  have e2:∀n v,i9 ⟨tm',ob,tk⟩ n v=i9 ⟨tm,ob,tk⟩ n v:=fun n v=>by cases v<;>rfl
  simp only [dJ];rw [h.1,h.2];simp only [e1,e2];rfl
 |pick k a b=>simp only [SOp.args,ao,dX,or_false,forall_eq_or_imp,forall_eq]at h;simp only [dJ];rw [h.1,h.2.1,h.2.2]
 |isnil ne x=>simp only [SOp.args,ao,dX,or_false,forall_eq]at h;simp only [dJ];rw [h]
 |_=>simp only [dJ];rw [hv]
theorem C0 {d:Option Nat} {o:SOp} (h:∀y∈o.args,CSt.ev ⟨tm',ob,tk⟩ y=CSt.ev ⟨tm,ob,tk⟩ y) (hc:opC call sg ⟨tm,ob,tk⟩ d o=some c'):∃F,Uni d F∧c'.tm=F tm∧opC call sg ⟨tm',ob,tk⟩ d o=some ⟨F tm',c'.ob,c'.tk⟩:=by
 by_cases hcl:∃f as,o= .call f as
 ·obtain⟨f,as,rfl⟩:=hcl
  simp only [opC]at hc ⊢;simp only [SOp.args,ao]at h;rw [h f (.inl rfl),mE fun y hy=>h y (.inr hy)];split at hc<;>try (cases hc;done)
  obtain⟨F,h1,q,h2⟩:=sO (call:=call) (ob:=ob) (tk:=tk) (sg:=sg ‹_›) (d:=d) (g:= ‹_›) (as:= ‹List SV› ++evL ⟨tm,ob,tk⟩ as++ ‹List SV›);rename_i g u v hfn;obtain⟨F,h1,q,h2⟩:=sO (call:=call) (ob:=ob) (tk:=tk) (sg:=sg g) (d:=d) (g:=g) (as:=u++evL ⟨tm,ob,tk⟩ as++v);rw [h2]at hc;cases q with
  |none=>cases hc
  |some q=>simp only [bf,av.injEq]at hc;subst hc;exact⟨F,h1,rfl,by rw [h2];rfl⟩
 by_cases hnb:∃xs,o= .newB xs
 ·obtain⟨xs,rfl⟩:=hnb
  simp only [opC]at hc ⊢;simp only [SOp.args]at h;rw [mE h];unfold oP at hc ⊢;split at hc<;>try (cases hc;done)
  rename_i k l hk;cases hc;obtain⟨F,ob',tk',h1,h2⟩:=Dl (ob:=ob) (tk:=tk) (some k) {val:= .psl (k+100) 1 0 l.length (some l.length),new:=some (.bar l)};exact⟨F,h1,by rw [h2],by simp only [h2]⟩
 by_cases hsl:∃q,o= .slid q
 ·obtain⟨q,rfl⟩:=hsl
  simp only [opC]at hc ⊢;rw [h q (by simp [SOp.args])];generalize CSt.ev ⟨tm,ob,tk⟩ q=v at hc;unfold rI at hc;split at hc<;>try (cases hc;done)
  rename_i o' off n cap;show ∃F,_∧_∧pz _ d o' off n cap (CSt.look ⟨tm',ob,tk⟩ o')=_;have hlk:CSt.look ⟨tm',ob,tk⟩ o'=CSt.look ⟨tm,ob,tk⟩ o':=rfl;rw [hlk];generalize CSt.look ⟨tm,ob,tk⟩ o'=u at hc;unfold pz at hc;split at hc<;>try (cases hc;done)
  split at hc<;>try (cases hc;done)
  rename_i l hcond;cases hc;obtain⟨F,ob',tk',vs',h1,h2⟩:=ot (ob:=ob) (tk:=tk) o' [];obtain⟨G,g1,g2⟩:=Uni.cput d (.byt ((l.drop off).take n) .clip);refine⟨fun t=>G (F t),h1.weak.comp g1, ?_, ?_⟩
  ·rw [h2 tm];rw [g2]
  ·simp only [pz,if_pos hcond,h2,g2]
 ·have e:∀c,opC call sg c d o=o9 c d (dJ c d o):=by
   intro c;cases o<;>first|rfl|exact absurd ⟨_,_,rfl⟩ hcl|exact absurd ⟨_,rfl⟩ hnb|exact absurd ⟨_,rfl⟩ hsl
  rw [e]at hc;rw [e,T5 h];cases he:dJ ⟨tm,ob,tk⟩ d o with
  |none=>rw [he]at hc;cases hc
  |some q=>rw [he]at hc;simp only [o9,av.injEq]at hc ⊢;obtain⟨F,ob',tk',h1,h2⟩:=Dl (ob:=ob) (tk:=tk) d q;rw [h2]at hc;subst hc;exact⟨F,h1,rfl,h2 _⟩
theorem ut {i:SI} (h:∀n∈i.rds,eE tm' n=eE tm n):∀y∈i.op.args,CSt.ev ⟨tm',ob,tk⟩ y=CSt.ev ⟨tm,ob,tk⟩ y:=by
 intro y hy;refine xmv fun n hn=>h n ?_
 subst hn;unfold SI.rds;rw [aj];exact .inl (List.mem_filterMap.2 ⟨_,hy,rfl⟩)
theorem xeH {i:SI} {g:Nat} {b:Bool} (hg:i.g=some (g,b)):g∈i.rds:=by unfold SI.rds;rw [hg];simp
theorem DL {i:SI} (h:∀n∈i.rds,eE tm' n=eE tm n) (hc:dS call sg ⟨tm,ob,tk⟩ i=some c'):∃F,Uni i.dst F∧c'.tm=F tm∧dS call sg ⟨tm',ob,tk⟩ i=some ⟨F tm',c'.ob,c'.tk⟩:=by
 unfold dS at hc ⊢;split at hc
 ·exact C0 (ut h) hc
 ·rename_i g b hg
  have e:CSt.get ⟨tm',ob,tk⟩ g=CSt.get ⟨tm,ob,tk⟩ g:=h g (xeH hg);rw [e];split at hc<;>try (cases hc;done)
  rotate_left
  ·obtain⟨F,h1,h2⟩:=Uni.cput i.dst (.tup [])
   rw [h2]at hc;cases hc;exact⟨F,h1,rfl,by rw [h2]⟩
  split at hc
  ·rename_i hb
   obtain⟨F,h1,h2,h3⟩:=C0 (ut h) hc;exact⟨F,h1,h2,by simp only [if_pos hb];exact h3⟩
  ·rename_i hb
   obtain⟨F,h1,h2⟩:=Uni.cput i.dst (.tup []);rw [h2]at hc;cases hc;exact⟨F,h1,rfl,by simp only [if_neg hb];rw [h2]⟩
theorem xex {i:SI} (h:∀n∈i.rds,eE tm' n=eE tm n):qv ⟨tm',ob,tk⟩ i=qv ⟨tm,ob,tk⟩ i:=by
 have hq:cU ⟨tm',ob,tk⟩ i.op=cU ⟨tm,ob,tk⟩ i.op:=by
  have ha:=ut (ob:=ob) (tk:=tk) h;generalize i.op=o at ha;have hv:=Aw ha;cases o with
  |pick k a b=>simp only [SOp.args,ao,dX,or_false,forall_eq_or_imp,forall_eq]at ha;simp only [cU];rw [ha.1,ha.2.1,ha.2.2]
  |_=>simp only [cU];rw [hv]
 unfold qv;cases hg:i.g with
 |none=>exact hq
 |some p=>obtain⟨g,b⟩:=p;simp only;have e:CSt.get ⟨tm',ob,tk⟩ g=CSt.get ⟨tm,ob,tk⟩ g:=h g (xeH hg);rw [e];cases CSt.get ⟨tm,ob,tk⟩ g<;>first|rfl|(simp only [qg];rw [hq])
end
theorem pq {i:SI} {v:SV} (h:qv c i=some v):dS call sg c i=some (c.put i.dst v):=by
 have hop:∀o,cU c o=some v→opC call sg c i.dst o=some (c.put i.dst v):=by
  intro o ho;cases o with
  |pick k a b=>simp only [cU]at ho;split at ho<;>cases ho;rename_i t ht;simp only [opC,dJ,ht,o9];rfl
  |_=>
   simp only [cU]at ho
   first
    |(simp only [cD]at ho;cases ho;done)
    |(simp only [opC,dJ];rw [ho];rfl)
    |(simp [cD]at ho;done)
 unfold qv at h;unfold dS;generalize i.g=q at h;cases q with
 |none=>exact hop _ h
 |some q=>
  obtain⟨g,b⟩:=q;simp only at h ⊢;generalize c.get g=u at h
  by_cases hu:u= .tup []
  ·subst hu
   simp only [qg,av.injEq]at h;subst h;rfl
  obtain⟨t,rfl⟩:∃t,u= .bool t:=by
   unfold qg at h;split at h
   ·exact⟨_,rfl⟩
   ·exact absurd rfl hu
   ·cases h
  simp only [qg]at h ⊢;split at h
  ·rename_i hb;rw [if_pos hb];exact hop _ h
  ·rename_i hb;rw [if_neg hb];cases h;rfl
structure Apx (N:Nat) (D:List Nat) (c p:CSt):Prop where
 get:∀n,n∉D→c.get n=p.get n
 ob:c.ob=p.ob
 tk:c.tk=p.tk
 dom:∀q∈p.tm,q.1<N
theorem Apx.step {D:List Nat} {p p1:CSt} {i:SI} (h:Apx N D c p) (hi:i.ok N=true) (hr:∀n∈i.rds,n∉D) (hs:dS call sg p i=some p1):∃c1,dS call sg c i=some c1∧Apx N D c1 p1:=by
 obtain⟨tm',ob',tk'⟩:=c;obtain⟨tm,ob,tk⟩:=p;have h1:=h.ob;have h2:=h.tk;simp only at h1 h2;subst h1;subst h2;obtain⟨F,k1,k2,k3⟩:=DL (tm':=tm') (fun n hn=>h.get n (hr n hn)) hs;refine⟨_,k3,⟨fun n hn=> ?_,rfl,rfl,fun q hq=> ?_⟩⟩
 ·show eE (F tm') n=eE p1.tm n
  rw [k2];exact k1.get _ _ _ (h.get n hn)
 ·rw [k2]at hq
  rcases k1.dom _ _ hq with⟨q',hq',e⟩|e
  ·rw [←e];exact h.dom q' hq'
  ·unfold SI.ok at hi
   rw [e]at hi;simpa using hi
theorem Apx.qv {D:List Nat} {p:CSt} {i:SI} (h:Apx N D c p) (hr:∀n∈i.rds,n∉D):qv c i=qv p i:=by obtain⟨tm',ob',tk'⟩:=c;obtain⟨tm,ob,tk⟩:=p;have h1:=h.ob;have h2:=h.tk;simp only at h1 h2;subst h1;subst h2;exact xex fun n hn=>h.get n (hr n hn)
theorem Apx.put {D:List Nat} {p:CSt} {d:Nat} {v:SV} (h:Apx N D c p) (hd:d<N):Apx N (d::D) c (p.put (some d) v):=by
 refine⟨fun n hn=> ?_,h.ob,h.tk,fun q hq=> ?_⟩
 ·simp only [ao,not_or]at hn
  rw [gQ,if_neg hn.1];exact h.get n hn.2
 ·rcases mS hq with e|e
  ·rw [e];exact hd
  ·exact h.dom q e
theorem Qq {p:CSt} {d:Nat} {v:SV} {i:SI} (h:d∉i.rds):Sy.qv (p.put (some d) v) i=Sy.qv p i:=by
 obtain⟨tm,ob,tk⟩:=p;refine xex (tm:=tm) (tm':=jI tm d v) fun n hn=> ?_
 rw [mT,if_neg (by intro e;subst e;exact h hn)]
theorem qS {α:Type} {p:Prop} {v u:α} (h:gdP p v=some u):p∧v=u:=by
 unfold gdP at h;split at h
 ·rename_i hp;exact⟨hp,by simpa using h⟩
 ·cases h
theorem qW {m:Nat} {p:CSt} {f:FI}:∀ {l:List FI},tU m p l→f∈l→m.testBit f.n=true∨qv p f.i=some (p.get (f.i.dst.getD 0))
 |g::r,h,hf=>by
  rcases ao.1 hf with rfl|hf
  ·rcases h.1 with h1|h1
   ·left
    rw [Nat.testBit_eq_decide_div_mod_eq];simpa using h1
   ·exact .inr h1
  ·exact qW h.2 hf
def Nx (g q:FI):Prop:=q.q=true→∀d,q.i.dst=some d→d∉g.i.rds∧g.i.dst≠some d
def yp (q:FI):Prop:=q.q=true→∃d,q.i.dst=some d∧d∉q.i.rds
def dOf (f:FI):Nat:=f.i.dst.getD 0
theorem ny {b:List Nat} {cF:CSt}:∀ {r ps V:List FI} {p:CSt} {D:List Nat},fe call sg b r ps p=some cF→Apx N D c p→(∀f∈r,f.i.ok N=true)→(∀f∈r,yp f)→r.Pairwise Nx→(∀g∈V,∀f∈r,Nx g f)→
 (∀g∈V,∃d,g.i.dst=some d)→(∀g∈V,qv p g.i=some (p.get (dOf g)))→∃seg post p2 ps2,r=seg++post∧(∀f∈seg,f.q=true)∧(post=[]∨∃f r',post=f::r'∧f.q=false)∧fe call sg b post ps2 p2=some cF∧
  (∀f,f∈ps∨f∈seg→f∈ps2)∧Apx N (seg.map dOf++D) c p2∧∀g,g∈V∨g∈seg→qv p2 g.i=some (p2.get (dOf g))
 |[],ps,V,p,D,h,hA,_,_,_,_,_,hV=>⟨[],[],p,ps,rfl,by simp,.inl rfl,h,by simp,by simpa using hA,by simpa using hV⟩
 |f::r,ps,V,p,D,h,hA,hok,hself,hpw,hVr,hVd,hV=>by
  obtain⟨n,q,i⟩:=f;cases q with
  |false=>exact⟨[],⟨n,false,i⟩::r,p,ps,rfl,by simp,.inr ⟨_,_,rfl,rfl⟩,h,by simp,by simpa using hA,by simpa using hV⟩
  |true=>
   simp only [fe]at h;cases hq:qv p i with
   |none=>rw [hq]at h;simp [wk]at h
   |some v=>
    rw [hq]at h;simp only [wk]at h;obtain⟨d,hd,hdr⟩:=hself _ (aA ..) rfl;simp only at hd hdr
    have hdN:d<N:=by have:=hok _ (aA ..);unfold SI.ok at this;simp only [hd]at this;simpa using this
    rw [hd]at h;rw [bS]at hpw
    have hget:∀g:FI,(∃e,g.i.dst=some e)→g.i.dst≠some d→(p.put (some d) v).get (dOf g)=p.get (dOf g):=by
     rintro g ⟨e,he⟩ hne;have e1:dOf g=e:=by unfold dOf;rw [he];rfl
     rw [e1,gQ,if_neg];intro e2;rw [he,e2]at hne;exact hne rfl
    obtain⟨seg,post,p2,ps2,k1,k2,k3,k4,k5,k6,k7⟩:=ny (V:=⟨n,true,i⟩::V) h (hA.put hdN) (fun f hf=>hok f (au _ hf)) (fun f hf=>hself f (au _ hf)) hpw.2
     (by
      intro g hg f hf;rcases ao.1 hg with rfl|hg
      ·exact hpw.1 f hf
      ·exact hVr g hg f (au _ hf))
     (by
      intro g hg;rcases ao.1 hg with rfl|hg
      ·exact⟨d,hd⟩
      ·exact hVd g hg)
     (by
      intro g hg;rcases ao.1 hg with rfl|hg
      ·have e1:dOf ⟨n,true,i⟩=d:=by unfold dOf;simp only [hd];rfl
       rw [e1,Qq hdr,gQ,if_pos rfl];exact hq
      ·obtain⟨h1,h2⟩:=hVr g hg _ (aA ..) rfl d hd
       rw [Qq h1,hget g (hVd g hg) h2];exact hV g hg)
    refine⟨⟨n,true,i⟩::seg,post,p2,ps2,by rw [k1];rfl, ?_,k3,k4, ?_, ?_, ?_⟩
    ·intro f hf
     rcases ao.1 hf with rfl|hf
     ·rfl
     ·exact k2 f hf
    ·intro f hf
     refine k5 f ?_;rcases hf with hf|hf
     ·exact .inl (au _ hf)
     ·rcases ao.1 hf with rfl|hf
      ·exact .inl (aA ..)
      ·exact .inr hf
    ·have e1:dOf ⟨n,true,i⟩=d:=by unfold dOf;simp only [hd];rfl
     refine⟨fun m hm=>k6.get m (fun h=>hm ?_),k6.ob,k6.tk,k6.dom⟩;simp only [aL,e1,bG,ao,aj]at h ⊢;rcases h with h|h|h
     ·exact .inr (.inl h)
     ·exact .inl h
     ·exact .inr (.inr h)
    ·intro g hg
     refine k7 g ?_;rcases hg with hg|hg
     ·exact .inl (au _ hg)
     ·rcases ao.1 hg with rfl|hg
      ·exact .inl (aA ..)
      ·exact .inr hg
section
variable {ops : Array Oper} {its : List FI} {b : List Nat}
def un (its:List FI) (listed:Array Bool):List FI:=its.filter fun f=> !listed.getD f.n true
theorem cN {listed:Array Bool} {f:FI}:f∈un its listed↔f∈its∧listed.getD f.n true=false:=by simp [un]
structure qu (call:cr) (sg:Nat→Sig) (N:Nat) (b:List Nat) (its:List FI) (cF:CSt) (listed:Array Bool) (c:CSt):Prop where
 ex:∃pre post p ps,its=pre++post∧(post=[]∨∃f r,post=f::r∧f.q=false)∧fe call sg b post ps p=some cF∧(∀f∈pre,f.q=true→f∈ps)∧
  (∀f∈pre,f.q=false→listed.getD f.n true=true)∧(∀f∈post,listed.getD f.n true=false)∧
  Apx N ((un pre listed).map dOf) c p∧∀f∈un pre listed,qv p f.i=some (p.get (dOf f))
theorem x6 (hcal:fN P call) {cF:CSt}
 (hitem:∀f∈its,∃o,ops[f.n]? =some o∧fF P ops o=some f.i∧f.n<ops.size) (hex:∀j,j<ops.size→∃f∈its,f.n=j) (hinj:∀f∈its,∀g∈its,f.n=g.n→f=g)
 (hback:∀(i:Nat) (o:Oper),ops[i]? =some o→∀e∈o.after,Region.binds .any e=true→e.on<i)
 (hbit:∀(i:Nat) (o:Oper) (k:Nat),ops[i]? =some o→k<ops.size→(b.getD i 0).testBit k=true→∃e∈o.after,Region.binds .any e=true∧(e.on=k∨(b.getD e.on 0).testBit k=true))
 (hok:∀f∈its,f.i.ok N=true) (hself:∀f∈its,yp f) (hnx:its.Pairwise Nx)
 (hrd:∀q∈its,q.q=true→∀p∈its,∀d,q.i.dst=some d→d∈p.i.rds→(b.getD p.n 0).testBit q.n=true)
 (hseg:∀pre f r,its=pre++f::r→f.q=false→∀g∈r,∃h∈f::r,(b.getD g.n 0).testBit h.n=true)
 (hdd:∀f∈its,∀g∈its,f.n≠g.n→∀d,f.i.dst=some d→g.i.dst≠some d) {Q:Exit→Act→World→Prop} (hQ:∀a w,M C N cF a w→Q .normal a w):
 ∀(fuel:Nat) (listed:Array Bool) (c:CSt) (a:Act) (w:World),(un its listed).length≤fuel→listed.size=ops.size→
  (∀(i:Nat) (o:Oper) (k:Nat),ops[i]? =some o→listed.getD i true=true→k<ops.size→(b.getD i 0).testBit k=true→listed.getD k true=true)→
  qu call sg N b its cF listed c→M C N c a w→wpAny P .any ops Q fuel listed a w:=by
 classical
 have hd2:∀(listed:Array Bool),listed.size=ops.size→∀k,k<ops.size→listed.getD k false=listed.getD k true:=by intro listed hs k hk;simp [fK,hs,hk]
 have done:∀(listed:Array Bool) (c:CSt) (a:Act) (w:World),un its listed=[]→qu call sg N b its cF listed c→M C N c a w→Region.ready .any ops listed=[]∧Q .normal a w:=by
  intro listed c a w h0 hS hM;constructor
  ·rw [List.eq_nil_iff_forall_not_mem]
   intro j hj;obtain⟨h1,o,h2,h3⟩:=mem_ready.1 hj;have hj':j<ops.size:=(bX.1 h2).1;obtain⟨it,hit,rfl⟩:=hex j hj';have:it∈un its listed:=cN.2 ⟨hit,h1⟩;rw [h0]at this;cases this
  ·obtain⟨pre,post,p,ps,e,hp,hrun,_,_,hpost,hA,_⟩:=hS.ex
   have hp0:post=[]:=by
    cases post with
    |nil=>rfl
    |cons f r=>have:f∈un its listed:=cN.2 ⟨by rw [e];simp,hpost f (aA ..)⟩;rw [h0]at this;cases this
   subst hp0;simp only [fe,av.injEq]at hrun;subst hrun;have hD:un pre listed=[]:=by rw [←h0,e,bj]
   rw [hD]at hA;refine hQ a w ?_;obtain⟨x,s,hMo,hSi⟩:=hM;refine M.slots (c:=c) ⟨x,s,hMo,hSi⟩ ⟨hA.dom,by rw [←hA.ob];exact hSi.inv.so,by rw [←hA.ob];exact hSi.inv.wf⟩ hA.ob.symm hA.tk.symm (fun i=> .inl (hA.get i (by simp)).symm)
 intro fuel;induction fuel with
 |zero=>intro listed c a w hf hs hcl hS hM;exact done listed c a w (bJ.1 (by omega)) hS hM
 |succ fuel ih=>
  intro listed c a w hf hs hcl hS hM;constructor
  ·intro hnil
   by_cases h0:un its listed=[]
   ·exact(done listed c a w h0 hS hM).2
   ·exfalso
    have hp:∃n,∃f∈un its listed,f.n=n:=by
     cases hc:un its listed with
     |nil=>exact absurd hc h0
     |cons f r=>exact⟨_,f,aA ..,rfl⟩
    obtain⟨n,⟨f,hfu,hfn⟩,hmin⟩:=xeC _ hp;obtain⟨h1,h2⟩:=cN.1 hfu;obtain⟨o,h3,_,h4⟩:=hitem f h1
    have:f.n∈Region.ready .any ops listed:=by refine mem_ready.2 ⟨h2,o,h3,fun e he hb=> ?_⟩;have hlt:=hback f.n o h3 e he hb;rw [hd2 listed hs _ (by omega),←Bool.not_eq_false];intro hfl;obtain⟨g,hg,hgn⟩:=hex e.on (by omega);have:=hmin e.on ⟨g,cN.2 ⟨hg,by rw [hgn];exact hfl⟩,hgn⟩;omega
    rw [hnil]at this;cases this
  ·intro i hir
   obtain⟨h1,o,h2,h3⟩:=mem_ready.1 hir;have hi':i<ops.size:=(bX.1 h2).1;obtain⟨it,hit,rfl⟩:=hex i hi';obtain⟨o',ho',hres,_⟩:=hitem it hit;rw [h2]at ho';cases ho'
   have hdep:∀k,k<ops.size→(b.getD it.n 0).testBit k=true→listed.getD k true=true:=by
    intro k hk hb;obtain⟨e,he,hbd,hor⟩:=hbit it.n o k h2 hk hb;have hon:=h3 e he hbd;have honlt:=hback it.n o h2 e he hbd;rw [hd2 listed hs _ (by omega)]at hon;rcases hor with h|h
    ·rw [←h];exact hon
    ·exact hcl e.on (ops[e.on]'(by omega)) k (by simp) hon hk h
   have hlen:(un its (listed.setIfInBounds it.n true)).length<(un its listed).length:=by
    have e1:un its (listed.setIfInBounds it.n true)=(un its listed).filter fun q=> !decide (q.n=it.n):=by
     simp only [un,List.filter_filter];apply List.filter_congr;intro q hq;rw [fu (by omega)]
     by_cases h:q.n=it.n<;>simp [h]
    rw [e1];refine List.length_filter_lt_length_iff_exists.2 ⟨it,cN.2 ⟨hit,h1⟩,by simp⟩
   have hcl':∀(i:Nat) (o:Oper) (k:Nat),ops[i]? =some o→(listed.setIfInBounds it.n true).getD i true=true→k<ops.size→(b.getD i 0).testBit k=true→(listed.setIfInBounds it.n true).getD k true=true:=by
    intro i2 o2 k2' ho2 hl2 hk2 hb2;rw [fu (by omega)]at hl2 ⊢;split
    ·rfl
    ·split at hl2
     ·rename_i e1
      subst e1;exact hdep k2' hk2 hb2
     ·exact hcl i2 o2 k2' ho2 hl2 hk2 hb2
   have hne:∀g∈its,listed.getD g.n true=true→g≠it:=by intro g _ hg e;subst e;rw [h1]at hg;cases hg
   have hset:∀g∈its,(listed.setIfInBounds it.n true).getD g.n true=if g=it then true else listed.getD g.n true:=by
    intro g hg;rw [fu (by omega)]
    by_cases h:g=it
    ·subst h;simp
    ·rw [if_neg (fun e=>h (hinj g hg it hit e)),if_neg h]
   obtain⟨pre,post,p,ps,e,hpost0,hrun,hps,hprel,hpostu,hA,hV⟩:=hS.ex;have hpre_in:∀g∈pre,g∈its:=fun g hg=>by rw [e];exact aj.2 (.inl hg)
   have hpost_in:∀g∈post,g∈its:=fun g hg=>by rw [e];exact aj.2 (.inr hg)
   have hrds:∀n∈it.i.rds,n∉(un pre listed).map dOf:=by
    intro n hn hm;obtain⟨g,hg,hgd⟩:=aS.1 hm;obtain⟨hg1,hg2⟩:=cN.1 hg
    have hgq:g.q=true:=by
     cases hq:g.q with
     |true=>rfl
     |false=>rw [hprel g hg1 hq]at hg2;cases hg2
    obtain⟨d,hd,_⟩:=hself g (hpre_in g hg1) hgq;have hdn:d=n:=by unfold dOf at hgd;rw [hd]at hgd;exact hgd
    subst hdn;have:=hrd g (hpre_in g hg1) hgq it hit d hd hn;obtain⟨_,_,_,hlt⟩:=hitem g (hpre_in g hg1);rw [hdep g.n hlt this]at hg2;cases hg2
   by_cases hin:it∈pre
   ·
    have hq:it.q=true:=by
     cases hq:it.q with
     |true=>rfl
     |false=>rw [hprel it hin hq]at h1;cases h1
    have hiu:it∈un pre listed:=cN.2 ⟨hin,h1⟩;have hv:=hV it hiu;rw [←hA.qv hrds]at hv;obtain⟨d,hd,hdr⟩:=hself it hit hq;have hdo:dOf it=d:=by unfold dOf;rw [hd];rfl
    refine eQ hcal hM (hok it hit) h2 hres (pq (call:=call) (sg:=sg) hv) fun a' w' hM'=> ?_
    refine ih _ _ a' w' (by omega) (by simpa using hs) hcl' ⟨pre,post,p,ps,e,hpost0,hrun,hps, ?_, ?_, ?_, ?_⟩ hM'
    ·intro f hf hfq
     rw [hset f (hpre_in f hf)];split
     ·rfl
     ·exact hprel f hf hfq
    ·intro f hf
     rw [hset f (hpost_in f hf),if_neg]
     ·exact hpostu f hf
     ·intro e2
      subst e2
      have hnd:its.Pairwise fun f g=>f.n≠g.n∨f=g:=List.pairwise_of_forall_mem_list (fun f hf g hg=>by
       by_cases h:f.n=g.n
       ·exact .inr (hinj f hf g hg h)
       ·exact .inl h)
      have h5:=hnx;rw [e]at h5;have h6:=(dY.1 h5).2.2 f hin f hf hq d hd;exact h6.2 hd
    ·refine⟨fun n hn=> ?_, ?_, ?_,hA.dom⟩
     ·rw [hd,gQ]
      split
      ·rename_i e2;rw [e2,hdo]
      ·rename_i hnd
       refine hA.get n fun hm=>hn ?_
       obtain⟨g,hg,hgd⟩:=aS.1 hm;obtain⟨hg1,hg2⟩:=cN.1 hg;refine aS.2 ⟨g,cN.2 ⟨hg1, ?_⟩,hgd⟩;rw [hset g (hpre_in g hg1),if_neg]
       ·exact hg2
       ·intro e2;subst e2;rw [hdo]at hgd;exact hnd hgd.symm
     ·cases it.i.dst<;>exact hA.ob
     ·cases it.i.dst<;>exact hA.tk
    ·intro f hf
     obtain⟨hf1,hf2⟩:=cN.1 hf;refine hV f (cN.2 ⟨hf1, ?_⟩);rw [hset f (hpre_in f hf1)]at hf2;split at hf2
     ·cases hf2
     ·exact hf2
   ·
    have hinp:it∈post:=by rw [e]at hit;exact(aj.1 hit).resolve_left hin
    obtain⟨f0,r,hpe,hf0⟩:∃f r,post=f::r∧f.q=false:=by
     rcases hpost0 with h|h
     ·subst h;cases hinp
     ·exact h
    have hit0:it=f0:=by
     rw [hpe]at hinp;rcases ao.1 hinp with h|h
     ·exact h
     ·exfalso
      obtain⟨g,hg,hgb⟩:=hseg pre f0 r (by rw [e,hpe]) hf0 it h;have hgi:g∈post:=by rw [hpe];exact hg
      obtain⟨_,_,_,hlt⟩:=hitem g (hpost_in g hgi);have:=hdep g.n hlt hgb;rw [hpostu g hgi]at this;cases this
    subst hit0;subst hpe;obtain⟨n,q,i⟩:=it;simp only at hf0;subst hf0;simp only [fe]at hrun;cases hs1:dS call sg p i with
    |none=>rw [hs1]at hrun;simp [rx]at hrun
    |some p1=>
     rw [hs1]at hrun;simp only [rx]at hrun;cases hg:gdP (tU (b.getD n 0) p1 ps) p1 with
     |none=>rw [hg]at hrun;simp [ry]at hrun
     |some p1'=>
      rw [hg]at hrun;simp only [ry]at hrun;obtain⟨hchk,rfl⟩:=qS hg;obtain⟨c1,hc1,hA1⟩:=hA.step (hok _ hit) hrds hs1;refine eQ hcal hM (hok _ hit) h2 hres hc1 fun a' w' hM'=> ?_
      have hsub:∀g∈un pre listed,g.q=true:=by
       intro g hg;obtain⟨hg1,hg2⟩:=cN.1 hg;cases hq:g.q with
       |true=>rfl
       |false=>rw [hprel g hg1 hq]at hg2;cases hg2
      have hnx':=hnx;rw [e]at hnx';have hpa:=dY.1 hnx'
      obtain⟨seg,post',p2,ps2,k1,k2,k3,k4,k5,k6,k7⟩:=ny (V:=un pre listed) hrun hA1 (fun f hf=>hok f (hpost_in f (au _ hf))) (fun f hf=>hself f (hpost_in f (au _ hf)))
       (bS.1 hpa.2.1).2 (fun g hg f hf=>hpa.2.2 g (cN.1 hg).1 f (au _ hf))
       (fun g hg=>by obtain⟨d,hd,_⟩:=hself g (hpre_in g (cN.1 hg).1) (hsub g hg);exact⟨d,hd⟩)
       (fun g hg=>by
        obtain⟨hg1,hg2⟩:=cN.1 hg;rcases qW hchk (hps g hg1 (hsub g hg))with h|h
        ·obtain⟨_,_,_,hlt⟩:=hitem g (hpre_in g hg1)
         rw [hdep g.n hlt h]at hg2;cases hg2
        ·exact h)
      have hun:un (pre++⟨n,false,i⟩::seg) (listed.setIfInBounds n true)=un pre listed++seg:=by
       unfold un;rw [List.filter_append,iq];have e1:(listed.setIfInBounds n true).getD n true=true:=by rw [fu (by rw [hs];exact hi')];simp
       simp only [e1,lQ,aD,if_false]
       congr 1
       ·apply List.filter_congr
        intro g hg;have:=hset g (hpre_in g hg);simp only at this;rw [this,if_neg];intro e2;subst e2;exact hin hg
       ·apply dI.2
        intro g hg;have hgi:g∈⟨n,false,i⟩::r:=by rw [k1];exact au _ (aj.2 (.inl hg))
        have:=hset g (hpost_in g hgi);simp only at this;rw [this,if_neg]
        ·rw [hpostu g hgi];rfl
        ·intro e2;subst e2;have:=k2 _ hg;cases this
      refine ih _ _ a' w' (by omega) (by simpa using hs) hcl' ⟨pre++⟨n,false,i⟩::seg,post',p2,ps2,by rw [e,k1];simp,k3,k4, ?_, ?_, ?_, ?_, ?_⟩ hM'
      ·intro f hf hfq
       rcases aj.1 hf with h|h
       ·exact k5 f (.inl (hps f h hfq))
       ·rcases ao.1 h with rfl|h
        ·cases hfq
        ·exact k5 f (.inr h)
      ·intro f hf hfq
       rcases aj.1 hf with h|h
       ·rw [hset f (hpre_in f h)]
        split
        ·rfl
        ·exact hprel f h hfq
       ·rcases ao.1 h with rfl|h
        ·rw [hset _ hit,if_pos rfl]
        ·rw [k2 f h]at hfq;cases hfq
      ·intro f hf
       have hfi:f∈⟨n,false,i⟩::r:=by rw [k1];exact au _ (aj.2 (.inr hf))
       rw [hset f (hpost_in f hfi),if_neg]
       ·exact hpostu f hfi
       ·intro e2
        subst e2;obtain⟨g,hg,hgb⟩:=hseg pre ⟨n,false,i⟩ r e rfl ⟨n,false,i⟩ (by rw [k1];exact aj.2 (.inr hf));obtain⟨_,_,_,hlt⟩:=hitem g (hpost_in g hg);have:=hdep g.n hlt hgb;rw [hpostu g hg]at this;cases this
      ·rw [hun,bz]
       refine⟨fun m hm=>k6.get m (fun h=>hm ?_),k6.ob,k6.tk,k6.dom⟩;rw [aj]at h ⊢;exact h.symm
      ·rw [hun]
       intro f hf;exact k7 f (aj.1 hf)
end
theorem sE {f:FI} (l:List FI) (h:(l.map FI.n).Nodup) (hf:f∈l):E3 l f.n=f.i:=by
 induction l with
 |nil=>cases hf
 |cons g r ih=>
  simp only [aL,dN]at h;simp only [E3];rcases ao.1 hf with rfl|hf
  ·rw [if_pos rfl]
  ·rw [if_neg,ih h.2 hf]
   intro e;apply h.1;rw [e];exact cX hf
theorem FR {b:List Nat} {s:Nat} (l:List FI):oM b (some s) l=true→∀g∈l,(b.getD g.n 0).testBit s=true∨∃h∈l,(b.getD g.n 0).testBit h.n=true:=by
 induction l generalizing s with
 |nil=>intro _ g hg;cases hg
 |cons f r ih=>
  intro h g hg;simp only [oM]at h;split at h
  ·simp only [an,oA]at h
   rcases ao.1 hg with rfl|hg
   ·exact .inl h.1
   ·rcases ih h.2 g hg with h1|⟨k,hk,h1⟩
    ·exact .inl h1
    ·exact .inr ⟨k,au _ hk,h1⟩
  ·simp only [an,oA]at h
   rcases ao.1 hg with rfl|hg
   ·exact .inl h.1
   ·rcases ih h.2 g hg with h1|⟨k,hk,h1⟩
    ·exact .inr ⟨f,aA ..,h1⟩
    ·exact .inr ⟨k,au _ hk,h1⟩
theorem yH {b:List Nat}:∀ {pre:List FI} {s:Option Nat} {f:FI} {r:List FI},oM b s (pre++f::r)=true→f.q=false→oM b (some f.n) r=true
 |[],s,f,r,h,hf=>by simp only [bp,oM,hf,aD,if_false,an]at h;exact h.2
 |g::pre,s,f,r,h,hf=>by
  simp only [bG,oM]at h;split at h
  ·rw [an]at h;exact yH h.2 hf
  ·rw [an]at h;exact yH h.2 hf
theorem pJ {b:List Nat}:∀ {l:List FI},pK b l=true→l.Pairwise fun p q=>(b.getD p.n 0).testBit q.n=false
 |[],_=>List.Pairwise.nil
 |p::r,h=>by simp only [pK,an,aM]at h;refine bS.2 ⟨fun q hq=> ?_,pJ h.2⟩;have:=h.1 q hq;simp only [Qu,an,bZ,oA]at this;exact this.1
theorem EA (hcal:fN P call) {id:Nat} {ops:Array Oper} {its:List FI} (hl:i5 (fF P ops) ops.toList=some (unF its)) (hd:drawn ops (unF its)=true) (hm:P.follows .mixedOrders=true)
 (hok:its.all (fun f=>f.i.ok N)=true) (hflt:Rq (Region.before ops).toList its=true) {cF:CSt} {Q:Exit→Act→World→Prop} (hQ:∀a w,M C N cF a w→Q .normal a w) (hM:M C N c a w)
 (h:fe call sg (Region.before ops).toList its [] c=some cF):(Code.region id ops true).wp P Q a w:=by
 simp only [Rq,an,decide_eq_true_eq,aM]at hflt;obtain⟨⟨⟨⟨⟨hseg,hpairs⟩,hfq⟩,hnd⟩,hlt⟩,hcov⟩:=hflt;simp only [TI,aM,b9,bZ]at hfq;rw [aM]at hok;obtain⟨hlen,hget⟩:=ej hl;have hul:(unF its).length=its.length:=by simp [unF]
 have hsz:its.length=ops.size:=by rw [←hul,hlen,aO]
 have hun:∀f∈its,(unF its).getD f.n ⟨none,none,.lenC 0⟩=f.i:=by intro f hf;have:=hlt f hf;rw [aa];simp only [unF,aJ,cy this,bf,bg];exact sE _ hnd hf
 simp only [drawn,an,decide_eq_true_eq]at hd;obtain⟨⟨hc,ht⟩,hdst⟩:=hd
 have hitem:∀f∈its,∃o,ops[f.n]? =some o∧fF P ops o=some f.i∧f.n<ops.size:=by
  intro f hf;have hfl:=hlt f hf;have hj2:f.n<ops.toList.length:=by rw [aO];omega
  refine⟨ops.toList[f.n],by rw [←cJ,ab hj2], ?_,by omega⟩;have h1:=hget f.n hj2 (by omega);rw [h1]
  congr 1
  have h2:=hun f hf;rwa [aa,ab (by omega),bg]at h2
 have hinj:∀f∈its,∀g∈its,f.n=g.n→f=g:=by
  intro f hf g hg e;have:its.Pairwise fun f g=>f.n≠g.n:=by rw [pf,gE]at hnd;exact hnd
  rw [ip]at this;obtain⟨i,hi,rfl⟩:=lP.1 hf;obtain⟨j,hj,rfl⟩:=lP.1 hg;rcases Nat.lt_trichotomy i j with h|h|h
  ·exact absurd e (this i j hi hj h)
  ·subst h;rfl
  ·exact absurd e.symm (this j i hj hi h)
 have hdd:∀f∈its,∀g∈its,f.n≠g.n→∀d,f.i.dst=some d→g.i.dst≠some d:=by
  have main:∀f∈its,∀g∈its,f.n<g.n→∀d,f.i.dst=some d→g.i.dst≠some d:=by
   intro f hf g hg hlt' d h1 h2
   have hpl:(unF its).Pairwise fun u v=>∀d,u.dst=some d→v.dst≠some d:=by rw [pf,List.pairwise_filterMap]at hdst;refine hdst.imp ?_;intro u v huv d hu hv;exact huv d hu d hv rfl
   rw [ip]at hpl;have hf':=hlt f hf;have hg':=hlt g hg
   have g1:(unF its)[f.n]'(by omega)=f.i:=by have:=hun f hf;rwa [aa,ab (by omega),bg]at this
   have g2:(unF its)[g.n]'(by omega)=g.i:=by have:=hun g hg;rwa [aa,ab (by omega),bg]at this
   exact hpl f.n g.n (by omega) (by omega) hlt' d (by rw [g1];exact h1) (by rw [g2];exact h2)
  intro f hf g hg hne d h1 h2;rcases bR f.n g.n with h|h
  ·exact main f hf g hg h d h1 h2
  ·exact main g hg f hf (by omega) d h2 h1
 have hclosed:∀(i:Nat) (o:Oper),ops[i]? =some o→(∀e∈o.after,Region.binds .any e=true→e.on<i)∧
  ∀k,k<ops.size→((Region.before ops).toList.getD i 0).testBit k=true→∃e∈o.after,Region.binds .any e=true∧(e.on=k∨((Region.before ops).toList.getD e.on 0).testBit k=true):=by
  intro i o ho;unfold mY at hc;rw [aM]at hc;have hi:i<ops.size:=(bX.1 ho).1
  have h1:=hc (o,i) (by rw [List.mem_zipIdx_iff_getElem?];simpa using ho)
  simp only [an,Array.all_eq_true_iff_forall_mem,aM,b9,bZ,decide_eq_true_eq]at h1;refine⟨fun e he hb=>(h1.1 e he).resolve_left (by simp [hb]),fun k hk hb=> ?_⟩;have h2:=(h1.2 k (dL.2 hk)).resolve_left (by simp only [hb];simp);obtain⟨_,h3⟩:=h2;rw [←Array.any_toList,tj]at h3;obtain⟨e,he,h4⟩:=h3;rw [Array.mem_toList_iff]at he;simp only [an,b9,beq_iff_eq]at h4;exact⟨e,he,h4.1,h4.2⟩
 have hq:∀q∈its,q.q=true→∃d,q.i.dst=some d∧∀p∈its,d∈p.i.rds→((Region.before ops).toList.getD p.n 0).testBit q.n=true∧p.n≠q.n:=by
  intro q hq hqq;have h1:=(hfq q hq).resolve_left (by rw [hqq];simp);cases hd:q.i.dst with
  |none=>rw [hd]at h1;cases h1
  |some d=>
   rw [hd]at h1;simp only [aM,b9,bZ,an,decide_eq_true_eq,oA]at h1;refine⟨d,rfl,fun p hp hr=> ?_⟩;rcases h1 p hp with h2|h2
   ·rw [dn]at h2;simp only [decide_eq_false_iff_not]at h2;exact absurd hr h2
   ·exact h2
 have hself:∀f∈its,yp f:=by intro f hf hfq;obtain⟨d,hd,h1⟩:=hq f hf hfq;exact⟨d,hd,fun h=>(h1 f hf h).2 rfl⟩
 have hrd:∀q∈its,q.q=true→∀p∈its,∀d,q.i.dst=some d→d∈p.i.rds→((Region.before ops).toList.getD p.n 0).testBit q.n=true:=by intro q hq' hqq p hp d hd hr;obtain⟨d',hd',h1⟩:=hq q hq' hqq;rw [hd']at hd;cases hd;exact(h1 p hp hr).1
 have hnx:its.Pairwise Nx:=by
  have h1:its.Pairwise fun f g=>f.n≠g.n:=by rw [pf,gE]at hnd;exact hnd
  refine((pJ hpairs).and h1).imp_of_mem ?_;rintro p q hp hq' ⟨h2,h3⟩ hqq d hd;refine⟨fun hr=> ?_,fun e=>hdd p hp q hq' h3 d e hd⟩;rw [hrd q hq' hqq p hp d hd hr]at h2;cases h2
 obtain⟨seg,post,p2,ps2,k1,k2,k3,k4,k5,k6,k7⟩:=ny (N:=N) (D:=[]) (V:=[]) h ⟨fun _ _=>rfl,rfl,rfl,by obtain⟨x,s,_,hS⟩:=hM;exact hS.inv.dom⟩ (fun f hf=>hok f hf) hself hnx (by simp) (by simp) (by simp)
 have hfalse:∀f∈its,(dE ops.size false).getD f.n true=false:=by
  intro f hf;have:=hlt f hf;have:f.n<ops.size:=by omega
  simp [fK,this]
 have hunf:un seg (dE ops.size false)=seg:=by apply dI.2;intro f hf;rw [hfalse f (by rw [k1];exact aj.2 (.inl hf))];rfl
 refine wp_region_any hm ?_
 refine x6 (its:=its) (b:=(Region.before ops).toList) (cF:=cF) (sg:=sg) hcal hitem (fun j hj=> ?_) hinj (fun i o ho=>(hclosed i o ho).1) (fun i o k ho hk hb=>(hclosed i o ho).2 k hk hb) (fun f hf=>hok f hf) hself hnx hrd
  (fun pre f r e hf g hg=> ?_) hdd hQ ops.size _ c a _ ?_ (by simp) ?_ ⟨seg,post,p2,ps2,k1,k3,k4,fun f hf _=>k5 f (.inr hf),(fun f hf hq=>by rw [k2 f hf]at hq;cases hq),fun f hf=>hfalse f (by rw [k1];exact aj.2 (.inr hf)), ?_, ?_⟩ ?_
 ·have:=hcov j (dL.2 (by omega))
  rw [dn]at this;simp only [decide_eq_true_eq]at this;obtain⟨f,hf,e⟩:=aS.1 this;exact⟨f,hf,e⟩
 ·rw [e]at hseg
  rcases FR _ (yH hseg hf) g hg with h1|⟨k,hk,h1⟩
  ·exact⟨f,aA ..,h1⟩
  ·exact⟨k,au _ hk,h1⟩
 ·have:(un its (dE ops.size false)).length≤its.length:=List.length_filter_le _ _
  omega
 ·intro i o k ho hl _ _
  have hi:i<ops.size:=(bX.1 ho).1;simp [fK,hi]at hl
 ·rw [hunf];simpa using k6
 ·rw [hunf];intro f hf;exact k7 f (.inr hf)
 ·obtain⟨x,s,hMo,hS⟩:=hM
  exact⟨x,s,⟨hMo.tm,hMo.defers,hMo.heap.drawn _⟩,hS⟩
end Go.Sy
