/- An engine that steps through Go code with symbolic values: sound by proof. No condition. -/
import Derived.Test.YtdafipacemgcoaaGreatDoorEd
import Derived.LoopN
set_option linter.unusedVariables false
set_option linter.unusedSimpArgs false
set_option linter.unnecessarySimpa false
set_option linter.unusedSectionVars false
namespace Go.Sy
variable [LaidData]
variable {P : Program} {C : Ctx} {x : Sit} {a : Act} {w : World} {N : Nat} {c c' : CSt} {s : St}
theorem Sim.exact(h:Sim N c s) (hM:Models C x s a w):Models C x (c.st N) a w:=
 ⟨by show RepL x ((List.range N).map c.get) _;rw [←h.tm];exact hM.tm,hM.defers,hM.heap.only (fun p hp=>by have h1:=mem_getO (so_nodup h.inv.so) hp;have h2:s.look p.1=some p.2:=(h.look p.1).trans h1;exact look_mem h2) (so_nodup h.inv.so) (fun t ht=>(h.tk t).2 ht)⟩
theorem M.slots (h:M C N c a w) (hi:Inv N c') (ho:c'.ob=c.ob) (ht:c'.tk=c.tk) (hg:∀i,c'.get i=c.get i∨c'.get i= .undef):M C N c' a w:=by
 obtain⟨x,s,hM,hS⟩:=h;have hE:=hS.exact hM;refine⟨x,c'.st N,⟨⟨?_,fun i hi'=> ?_⟩,hM.defers, ?_⟩,Sim.of hi⟩
 ·have:=hE.tm.1;simpa [CSt.st]using this
 ·have h1:=hE.tm.2 i (by simpa [CSt.st]using hi')
  have hiN:i<N:=by simpa [CSt.st]using hi'
  simp only [CSt.st,List.getD_eq_getElem?_getD,List.getElem?_map,List.getElem?_range hiN,Option.map_some,Option.getD_some]at h1 ⊢;rcases hg i with e|e
  ·rw [e];exact h1
  ·rw [e];exact .undef _
 ·show Heap C x c'.ob c'.tk w
  rw [ho,ht];exact hE.heap
theorem Inv.kill (h:Inv N c) (l:List Nat):Inv N (c.kill l):=by
 cases l with
 |nil=>exact h
 |cons n r=>exact⟨fun p hp=>h.dom p (mem_delT hp),h.so,h.wf⟩
theorem M.kill (h:M C N c a w) (l:List Nat):M C N (c.kill l) a w:=by
 have hi:Inv N c:=by obtain⟨x,s,_,hS⟩:=h;exact hS.inv
 cases l with
 |nil=>exact h
 |cons n r=>
  refine h.slots (hi.kill _) rfl rfl fun i=> ?_
  have e:=getT_del (n::r) i c.tm
  by_cases hc:(n::r).contains i=true
  ·exact .inr (e.trans (if_pos hc))
  ·exact .inl (e.trans (if_neg hc))
theorem M.purge (h:M C N c a w) (lo hi:Nat):M C N (c.purge lo hi) a w:=by obtain⟨x,s,hM,hS⟩:=h;exact⟨x,_,hM.purge lo hi,hS.purge lo hi⟩
theorem M.gc:∀ {l:List Nat} {c:CSt},M C N c a w→M C N (gcC c l) a w
 |[],_,h=>h
 |o::r,c,h=>by show M C N (gcC (c.purge o (o+1)) r) a w;exact M.gc (h.purge o (o+1))
theorem pub_eq {o:Nat} {obj:SObj} (cs:List SV):SV.pubL o obj cs=cs.map (SV.pub o obj):=by
 induction cs with
 |nil=>rfl
 |cons c r ih=>simp only [SV.pubL,List.map_cons,ih]
theorem Rep.pub {x x':Sit} {o:Nat} {obj:SObj} (hβ:x'.β=x.β) (hτ:x'.τ=x.τ) (hG:∀b i u,x.G b i=some u→x'.G b i=some u)
 (hcell:∀k,k<obj.size→∃u,x'.G (x.β o) k=some u∧RepD x'.G (obj.cell k) u) (hwf:obj.wf=true) {sv:SV} {v:Value} (h:Rep x sv v):Rep x' (sv.pub o obj) v:=by
 induction h with
 |undef v=>exact .undef v
 |dat s v h ht=>
  have:s.pub o obj=s:=by cases h<;>rfl
  rw [this];exact(Rep.dat s v h ht).grow hG hβ hτ
 |ptr o' off=>
  simp only [SV.pub];split
  ·exact .undef _
  ·rw [←hβ];exact .ptr o' off
 |ap o' sz i j=>
  simp only [SV.pub];split
  ·exact .undef _
  ·rw [←hβ];exact .ap o' sz i j
 | psl o' sz off n cap off' cap' hoff hn hcp=>
  simp only [SV.pub];split
  ·rename_i ho
   subst ho;cases obj with
   |rc cs=>exact .undef _
   | arr sz' xs=>
    simp only [pubSl];split
    ·rename_i hc
     obtain⟨rfl,hb⟩:=hc;have hrows:=wf_arr.1 hwf;have h1:=leP.psl (o:=o') (cap:=cap) hb hrows x x' _ hβ hτ hG (fun k hk=>hcell k hk) (.psl o' sz' off n cap off' cap' hoff hn hcp);split
     ·rename_i hcap
      have hcn:=hcp _ hcap;obtain⟨b,cq,he,_,hD,_⟩:=h1.lst_inv;exact .dat _ _ (hD.tok (.lst sz' ((xs.drop off).take n) .clip) (.inr ⟨sz',_,_,_,rfl,rfl⟩)) ⟨_,n,by rw [←hcn]⟩
     ·exact h1
    ·exact .undef _
   | bar l=>
    simp only [pubSl];split
    ·rename_i hc
     obtain⟨rfl,hb⟩:=hc;have hlen:((l.drop off).take n).length=n:=by simp;omega
     have hD:∀t,RepD x'.G (.byt ((l.drop off).take n) t) (.slice (some ⟨x.β o',off',none⟩) n cap'):=by
      intro t;refine .byt _ t _ _ _ _ hlen.symm hn fun i hi=> ?_
      have hoff':off'=off:=by omega
      obtain⟨u,hu,hr⟩:=hcell (off+i) (by simp only [SObj.size];omega);rw [hoff',hu];simp only [SObj.cell]at hr
      have e:((l.drop off).take n).getD i 0=l.getD (off+i) 0:=by simp only [List.getD_eq_getElem?_getD,List.getElem?_take,if_pos hi,List.getElem?_drop]
      rw [e];cases hr with
      |u8 b=>rfl
     split
     ·rename_i hcap
      have hcn:=hcp _ hcap;exact .dat _ _ (hD .clip) ⟨_,n,by rw [←hcn]⟩
     ·exact .dat _ _ (hD .no) trivial
    ·exact .undef _
  ·rw [←hβ];exact .psl o' sz off n cap off' cap' hoff hn hcp
 |agg cs vs hl _ ih=>simp only [SV.pub,pub_eq];exact .agg _ _ (by simpa using hl) fun i hi=>by rw [getD_map_undef _ (by rfl)];exact ih i (by simpa using hi)
 |tup cs vs hl _ ih=>simp only [SV.pub,pub_eq];exact .tup _ _ (by simpa using hl) fun i hi=>by rw [getD_map_undef _ (by rfl)];exact ih i (by simpa using hi)
 |fn f c1 c2 v1 v2 hl1 _ hl2 _ ih1 ih2=>simp only [SV.pub,pub_eq];exact .fn _ _ _ _ _ (by simpa using hl1) (fun i hi=>by rw [getD_map_undef _ (by rfl)];exact ih1 i (by simpa using hi)) (by simpa using hl2) (fun i hi=>by rw [getD_map_undef _ (by rfl)];exact ih2 i (by simpa using hi))
theorem mem_pubO {o:Nat} {obj:SObj} {p:Nat×SObj}:∀ {l:List (Nat×SObj)},p∈pubO o obj l→p.1≠o∧∃q,(p.1,q)∈l∧p.2=obPub o obj q
 | q::r,h=>by
  simp only [pubO]at h;split at h
  ·obtain⟨h1,u,h2,h3⟩:=mem_pubO h
   exact⟨h1,u,List.mem_cons_of_mem _ h2,h3⟩
  ·rename_i hq
   rcases List.mem_cons.1 h with e|e
   ·rw [e];exact⟨hq,q.2,List.mem_cons_self ..,rfl⟩
   ·obtain⟨h1,u,h2,h3⟩:=mem_pubO e
    exact⟨h1,u,List.mem_cons_of_mem _ h2,h3⟩
theorem fst_pubO {o:Nat} {obj:SObj}:∀l:List (Nat×SObj),(pubO o obj l).map Prod.fst=(l.map Prod.fst).filter fun k=>decide (k≠o)
 |[]=>rfl
 |p::r=>by
  simp only [pubO,List.map_cons,List.filter_cons]
  by_cases h:p.1=o
  ·rw [if_pos h,fst_pubO r];simp [h]
  ·rw [if_neg h,List.map_cons,fst_pubO r];simp [h]
theorem mem_pubT {o:Nat} {obj:SObj} {p:Nat×SV}:∀ {l:List (Nat×SV)},p∈pubT o obj l→∃q∈l,p.1=q.1
 | q::r,h=>by
  simp only [pubT]at h;rcases List.mem_cons.1 h with e|e
  ·exact⟨q,List.mem_cons_self ..,by rw [e]⟩
  ·obtain⟨u,h1,h2⟩:=mem_pubT e
   exact⟨u,List.mem_cons_of_mem _ h1,h2⟩
theorem getT_pub {o:Nat} {obj:SObj} (n:Nat):∀l:List (Nat×SV),getT (pubT o obj l) n=(getT l n).pub o obj
 |[]=>rfl
 |p::r=>by
  simp only [pubT,getT];split
  ·rfl
  ·exact getT_pub n r
theorem wf_pub {o:Nat} {obj q:SObj} (h:q.wf=true):(obPub o obj q).wf=true:=by cases q<;>simpa [obPub,SObj.wf]using h
theorem pub_sound3 {o:Nat} {obj0 obj:SObj} (hl:c.look o=some obj0) (hnr:∀cs,obj≠ .rc cs) (hnr0:∀cs,obj0≠ .rc cs) (hle:obj.size≤obj0.size) (hcl:∀k,k<obj.size→obj.cell k=obj0.cell k) (hwf:obj.wf=true) (hM:Models C x s a w) (hS:Sim N c s):
 ∃x',(x'.β=x.β∧x'.τ=x.τ∧(∀b i u,x.G b i=some u→x'.G b i=some u)∧(∀i,obj.size≤i→x'.G (x.β o) i=none)∧(∀k,k<obj.size→∃u,x'.G (x.β o) k=some u∧RepD x'.G (obj.cell k) u))∧(∀sv v,Rep x sv v→Rep x' (sv.pub o obj) v)∧∃s',Models C x' s' a w∧Sim N ⟨pubT o obj c.tm,pubO o obj c.ob,c.tk⟩ s'∧(∀p∈s'.ob,x.β o≠x'.β p.1):=by
 have hls:s.look o=some obj0:=(hS.look o).trans hl;obtain⟨cc,e,fl,fh,hO,hsz,hr⟩:=look_obj hM hls;have hob:=hM.heap.obs _ (look_mem hls)
 let x':Sit:= {x with G:=fun b i=>if b=x.β o∧i<obj.size then some (cc.getD i Go.undef)else x.G b i}
 have hG:∀b i u,x.G b i=some u→x'.G b i=some u:=by intro b i u hu;show(if _ then _ else _)=_;rw [if_neg];exact hu;rintro⟨rfl,_⟩;have h0:=hob.2.2 i;simp only at h0;rw [h0]at hu;cases hu
 have hcell:∀k,k<obj.size→∃u,x'.G (x.β o) k=some u∧RepD x'.G (obj.cell k) u:=by
  intro k hk;refine⟨cc.getD k Go.undef,if_pos ⟨rfl,hk⟩,RepD.mono hG ?_⟩;have:=hr k (by omega);rw [hcl k hk];cases obj0 with
  |rc cs=>exact absurd rfl (hnr0 cs)
  |arr sz xs=>exact this
  |bar l=>exact this
 have hpub:∀sv v,Rep x sv v→Rep x' (sv.pub o obj) v:=fun sv v h=>Rep.pub (x:=x) (x':=x') rfl rfl hG hcell hwf h
 have hH:=hM.heap
 have hinv:Inv N ⟨pubT o obj c.tm,pubO o obj c.ob,c.tk⟩:=by
  refine⟨fun p hp=> ?_, ?_,fun p hp=> ?_⟩
  ·obtain⟨q,hq,e⟩:=mem_pubT hp;rw [e];exact hS.inv.dom q hq
  ·show((pubO o obj c.ob).map Prod.fst).Pairwise _
   rw [fst_pubO];exact hS.inv.so.filter _
  ·obtain⟨_,q,h2,h3⟩:=mem_pubO hp;rw [h3];exact wf_pub (hS.inv.wf _ h2)
 have hmem:∀p∈pubO o obj c.ob,p.1≠o∧∃q,(p.1,q)∈s.ob∧p.2=obPub o obj q:=by intro p hp;obtain⟨h1,q,h2,h3⟩:=mem_pubO hp;have h4:=mem_getO (so_nodup hS.inv.so) h2;exact⟨h1,q,look_mem ((hS.look p.1).trans h4),h3⟩
 have hne:∀p∈pubO o obj c.ob,x.β p.1≠x.β o:=fun p hp e=>by obtain⟨h1,q,h2,_⟩:=hmem p hp;exact h1 (hH.inj (p.1,q) h2 _ (look_mem hls) e)
 refine⟨x',⟨rfl,rfl,hG,fun i hi=> ?_,hcell⟩,hpub,_,⟨⟨?_,fun i hi=> ?_⟩,hM.defers, ?_⟩,Sim.of hinv,fun p hp=>(hne p hp).symm⟩
 ·show(if _ then _ else _)=_
  rw [if_neg (by rintro⟨_,h⟩;omega)];exact hob.2.2 i
 ·have:=hM.tm.1;rw [hS.tm]at this;simpa [CSt.st]using this
 ·have hiN:i<N:=by simpa [CSt.st]using hi
  have h1:=hM.tm.2 i (by rw [hS.tm];simpa using hiN);rw [hS.tm]at h1;simp only [CSt.st,List.getD_eq_getElem?_getD,List.getElem?_map,List.getElem?_range hiN,Option.map_some,Option.getD_some]at h1 ⊢;have:(CSt.mk (pubT o obj c.tm) (pubO o obj c.ob) c.tk).get i=(c.get i).pub o obj:=getT_pub i c.tm;rw [this];exact hpub _ _ h1
 ·refine⟨?_,fun b i v hv=>hG _ _ _ (hH.g0 b i v hv), ?_,hH.new, ?_,so_nodup hinv.so, ?_, ?_,fun n hn p hp=> ?_,fun n hn m hm=>hH.tkd n ((hS.tk n).2 hn) m ((hS.tk m).2 hm),hH.os,hH.tape,hH.output,hH.size,hH.ext,hH.pin,hH.lay⟩
  ·intro b i v hv
   replace hv:(if b=x.β o∧i<obj.size then some (cc.getD i Go.undef)else x.G b i)=some v:=hv;split at hv
   ·rename_i hbi
    obtain⟨rfl,hi⟩:=hbi;cases hv;rw [hO.cell,Array.getD_eq_getD_getElem?,Array.getElem?_eq_getElem (by omega)];rfl
   ·exact hH.per b i v hv
  ·intro b i v hv
   replace hv:(if b=x.β o∧i<obj.size then some (cc.getD i Go.undef)else x.G b i)=some v:=hv;split at hv
   ·rename_i hbi
    exact .inr (hbi.1 ▸ hob.2.1)
   ·exact hH.gm b i v hv
  ·intro p hp
   obtain⟨h1,q,h2,h3⟩:=hmem p hp;obtain⟨g1,g2,g3⟩:=hH.obs _ h2;refine⟨?_,g2,fun off=> ?_⟩
   ·obtain⟨c',e',fl',fh',hO',hs',hr'⟩:=g1
    rw [h3];refine⟨c',e',fl',fh',hO', ?_,fun k hk=> ?_⟩
    ·cases q<;>simpa [obPub,SObj.size,pub_eq]using hs'
    ·cases q with
     |rc cs=>
      have hk':k<cs.length:=by simpa [obPub,SObj.size,pub_eq]using hk
      have:=hr' k hk';simp only [obPub,cellRep,pub_eq]at this ⊢;rw [getD_map_undef _ (by rfl)];exact hpub _ _ this
     |arr sz xs=>exact RepD.mono hG (hr' k hk)
     |bar l=>exact RepD.mono hG (hr' k hk)
   ·show(if _ then _ else _)=_
    rw [if_neg (fun h=>hne p hp h.1)];exact g3 off
  ·intro p hp q hq hpq
   obtain⟨_,p',hp',_⟩:=hmem p hp;obtain⟨_,q',hq',_⟩:=hmem q hq;exact hH.inj (p.1,p') hp' (q.1,q') hq' hpq
  ·intro n hn'
   have hn:=(hS.tk n).2 hn';rcases hH.tks n hn with h|⟨h1,h2,h3⟩
   ·exact .inl h
   ·by_cases hlh:(x.τ n).2.1=(x.τ n).2.2
    ·exact .inl hlh
    ·refine .inr ⟨h1,h2,fun off h4 h5=> ?_⟩
     show(if _ then _ else _)=_;rw [if_neg (fun h=>(hH.tko n hn _ (look_mem hls)).elim (fun hb=>hb h.1) hlh)];exact h3 off h4 h5
  ·obtain⟨_,q,h2,_⟩:=hmem p hp
   exact hH.tko n ((hS.tk n).2 hn) (p.1,q) h2
theorem pub_sound2 {o:Nat} {obj:SObj} (hl:c.look o=some obj) (hnr:∀cs,obj≠ .rc cs) (hM:Models C x s a w) (hS:Sim N c s):
 ∃x',(x'.β=x.β∧x'.τ=x.τ)∧(∀sv v,Rep x sv v→Rep x' (sv.pub o obj) v)∧∃s',Models C x' s' a w∧Sim N ⟨pubT o obj c.tm,pubO o obj c.ob,c.tk⟩ s':=by
 obtain⟨x',h1,h2,s',h3,h4,_⟩:=pub_sound3 hl hnr hnr (Nat.le_refl _) (fun _ _=>rfl) (hS.lookmem hl) hM hS;exact⟨x',⟨h1.1,h1.2.1⟩,h2,s',h3,h4⟩
theorem pub_sound {o:Nat} {obj:SObj} (hl:c.look o=some obj) (hnr:∀cs,obj≠ .rc cs) (hM:Models C x s a w) (hS:Sim N c s):
 ∃x',(∀sv v,Rep x sv v→Rep x' (sv.pub o obj) v)∧∃s',Models C x' s' a w∧Sim N ⟨pubT o obj c.tm,pubO o obj c.ob,c.tk⟩ s':=by
 obtain⟨x',_,h⟩:=pub_sound2 hl hnr hM hS;exact⟨x',h⟩
theorem publish_sound {vs:List SV} {us:List Value} {o:Nat} (hM:Models C x s a w) (hS:Sim N c s) (hv:RepL x vs us):
 ∃x' s',Models C x' s' a w∧Sim N (c.publish o vs).1 s'∧RepL x' (c.publish o vs).2 us:=by
 unfold CSt.publish
 have go:∀ {obj:SObj},c.look o=some obj→(∀cs,obj≠ .rc cs)→∃x' s',Models C x' s' a w∧Sim N ⟨pubT o obj c.tm,pubO o obj c.ob,c.tk⟩ s'∧RepL x' (SV.pubL o obj vs) us:=by intro obj hl hnr;obtain⟨x',hp,s',h1,h2⟩:=pub_sound hl hnr hM hS;refine⟨x',s',h1,h2, ?_⟩;rw [pub_eq];refine⟨by simpa using hv.1,fun i hi=> ?_⟩;rw [getD_map_undef _ (by rfl)];exact hp _ _ (hv.2 i (by simpa using hi))
 split
 ·rename_i sz xs hl;exact go hl (fun cs e=>by cases e)
 ·rename_i l hl;exact go hl (fun cs e=>by cases e)
 ·exact⟨x,s,hM,hS,hv⟩
theorem pubAll_sound {us:List Value}:∀ {l:List Nat} {c:CSt} {s:St} {x:Sit} {vs:List SV},Models C x s a w→Sim N c s→RepL x vs us→
 ∃x' s',Models C x' s' a w∧Sim N (pubAll c vs l).1 s'∧RepL x' (pubAll c vs l).2 us
 |[],_,_,_,_,hM,hS,hv=>⟨_,_,hM,hS,hv⟩
 |o::r,c,s,x,vs,hM,hS,hv=>by obtain⟨x1,s1,h1,h2,h3⟩:=publish_sound (o:=o) hM hS hv;simp only [pubAll];exact pubAll_sound h1 h2 h3
theorem M.pub (h:M C N c a w) (o:Nat):M C N (c.publish o []).1 a w:=by obtain⟨x,s,hM,hS⟩:=h;obtain⟨x',s',h1,h2,_⟩:=publish_sound (o:=o) (vs:=[]) (us:=[]) hM hS ⟨rfl,fun i hi=>by simp at hi⟩;exact⟨x',s',h1,h2⟩
theorem tok_new (hM:Models C x s a w) (hS:Sim N c s) (id b lo hi:Nat) (hv:lo=hi∨((∃c e fl fh,Owned w b c e fl fh∧hi≤c.size)∧C.mine b∧∀o,lo≤o→o<hi→x.G b o=none))
 (hob:∀p∈s.ob,b≠x.β p.1) (htk:∀u∈s.tk,apartR (b,lo,hi) (x.τ u)∨(x.τ u).2.1=(x.τ u).2.2) {n:Nat} (hn:n<N) {v:SV}
 (hval:Rep (x.newT id b lo hi) v (a.tmps.toList.getD n Go.undef)):
 M C N ⟨putT (purgeT id (id+1) c.tm) n v,purgeO id (id+1) c.ob,putK (dropT id (id+1) c.tk) id⟩ a w:=by
 have hadd:Heap C (x.newT id b lo hi) (purgeO id (id+1) s.ob) (id::dropT id (id+1) s.tk) w:=
  hM.heap.addT id b lo hi hv (.inr fun p hp _=>hob p hp) (.inr fun u hu _=>htk u hu)
 have hM1:Models C (x.newT id b lo hi) ⟨SV.purgeL id (id+1) s.tm,purgeO id (id+1) s.ob,id::dropT id (id+1) s.tk⟩ a w:=
  ⟨RepL.mono (x:=x) (x':=x.newT id b lo hi) (lo:=id) (hi:=id+1) (fun _ _ _ h=>h) (fun _ _=>rfl) (Sit.newT_ne x id _ _ _) hM.tm,hM.defers,hadd⟩
 have hS1:Sim N ⟨purgeT id (id+1) c.tm,purgeO id (id+1) c.ob,putK (dropT id (id+1) c.tk) id⟩ ⟨SV.purgeL id (id+1) s.tm,purgeO id (id+1) s.ob,id::dropT id (id+1) s.tk⟩:=
  (hS.purge id (id+1)).tks (fun u=>by rw [mem_putK,List.mem_cons,mem_dropT,mem_dropT,hS.tk])
 refine⟨x.newT id b lo hi,_, ?_,hS1.put (d:=some n) (fun k e=>by cases e;exact hn) v⟩;refine⟨⟨?_,fun i hi=> ?_⟩,hM1.defers,hM1.heap⟩
 ·have:=hM1.tm.1;simpa [St.put]using this
 ·simp only [St.put,List.length_set]at hi
  simp only [St.put,List.getD_eq_getElem?_getD,List.getElem?_set]
  by_cases hni:n=i
  ·subst hni
   rw [if_pos rfl,if_pos hi];rw [←List.getD_eq_getElem?_getD];exact hval
  ·rw [if_neg hni]
   have:=hM1.tm.2 i hi;simp only [List.getD_eq_getElem?_getD]at this;exact this
theorem tokP_sound (h:M C N c a w) {n id o sz off k cp:Nat} (hg:c.get n= .psl o sz off k (some cp)) (hc:tokP c n id o sz off k cp (c.look o)=some c') (hn:n<N):M C N c' a w:=by
 cases hl:c.look o with
 |none=>rw [hl]at hc;cases hc;exact h
 | some obj0=>
  rw [hl]at hc
  have main:∀(obj:SObj) (v:SV),(∀cs,obj≠ .rc cs)→(∀cs,obj0≠ .rc cs)→obj.size=(off+k)*sz→(off+cp)*sz≤obj0.size→k≤cp→(∀k,k<obj.size→obj.cell k=obj0.cell k)→obj.wf=true→
   (∀(x':Sit) (off':Nat),(cp=0∨off'=off*sz)→(∀k,k<obj.size→∃u,x'.G (x'.β o) k=some u∧RepD x'.G (obj.cell k) u)→RepD x'.G v (.slice (some ⟨x'.β o,off',none⟩) k cp))→
   (∀x v',tokOK x v v'=spareOK x sz (.id id) v')→
   M C N (pubtC c n id o obj v) a w:=by
   intro obj v hnr hnr0 hsz hle hk hcl hwf hD htok;obtain⟨x,s,hM,hS⟩:=h;have hle':obj.size≤obj0.size:=by rw [hsz];exact Nat.le_trans (Nat.mul_le_mul_right _ (by omega)) hle
   obtain⟨x',⟨hβ,hτ,hG,hfree,hcell⟩,hpub,s',hM',hS',hne⟩:=pub_sound3 hl hnr hnr0 hle' hcl hwf hM hS;have hls:s.look o=some obj0:=(hS.look o).trans hl;obtain⟨cc,e,fl,fh,hO,hosz,_⟩:=look_obj hM hls;have hob:=hM.heap.obs _ (look_mem hls);have hslot:=hM.slot n;rw [hS.get,hg]at hslot;obtain⟨cp',hkc,hcc,off',he,hoff⟩:=hslot.psl_inv;obtain rfl:=hcc _ rfl
   have hval0:a.tmps.toList.getD n Go.undef= .slice (some ⟨x.β o,off',none⟩) k cp:=by rw [←he];simp [Array.getD_eq_getD_getElem?,List.getD_eq_getElem?_getD]
   refine tok_new hM' hS' id (x.β o) ((off+k)*sz) ((off+cp)*sz) (.inr ⟨⟨cc,e,fl,fh,hO,by omega⟩,hob.2.1,fun i h1 h2=>hfree i (by omega)⟩) (fun p hp=>hne p hp) (fun u hu=> ?_) hn ?_
   ·have hu':=(hS'.tk u).1 hu
    have hu2:=(hS.tk u).2 hu';rw [hτ];exact(hM.heap.tko u hu2 _ (look_mem hls)).imp (fun h e=>h e.symm) (fun h=>h)
   ·rw [hval0]
    have h1:=hD (x'.newT id (x.β o) ((off+k)*sz) ((off+cp)*sz)) off' hoff (by show ∀k,k<obj.size→∃u,x'.G (x'.β o) k=some u∧RepD x'.G (obj.cell k) u;rw [hβ];exact hcell)
    have e1:(x'.newT id (x.β o) ((off+k)*sz) ((off+cp)*sz)).β o=x.β o:=by show x'.β o=_;rw [hβ]
    rw [e1]at h1;refine .dat _ _ h1 ?_;rw [htok];refine⟨_,k,cp,rfl, ?_⟩
    by_cases hcz:cp=0
    ·exact .inl (by omega)
    ·refine .inr ⟨_,off',rfl, ?_⟩
     rw [Sit.newT_eq,hoff.resolve_left hcz,Nat.add_mul,Nat.add_mul]
  cases obj0 with
  |rc cs=>cases hc;exact h
  | bar l=>
   simp only [tokP]at hc;split at hc<;>cases hc
   ·rename_i hcond
    obtain⟨rfl,h2,h3⟩:=hcond;refine main (.bar (l.take (off+k))) (.byt ((l.drop off).take k) (.id id)) (fun cs e=>by cases e) (fun cs e=>by cases e) (by simp only [SObj.size,List.length_take];omega) (by simp only [SObj.size];omega) h3 (fun i hi=> ?_) rfl (fun x' off' hoff hcell=> ?_) (fun _ _=>rfl)
    ·simp only [SObj.size,List.length_take]at hi
     simp only [SObj.cell,List.getD_eq_getElem?_getD,List.getElem?_take,if_pos (show i<off+k by omega)]
    ·have hlen:((l.drop off).take k).length=k:=by simp;omega
     refine .byt _ _ _ _ _ _ hlen.symm h3 fun i hi=> ?_
     have hoff':off'=off:=by omega
     obtain⟨u,hu,hr⟩:=hcell (off+i) (by simp only [SObj.size,List.length_take];omega);rw [hoff',hu];simp only [SObj.cell]at hr
     have e1:((l.drop off).take k).getD i 0=(l.take (off+k)).getD (off+i) 0:=by simp only [List.getD_eq_getElem?_getD,List.getElem?_take,if_pos hi,List.getElem?_drop,if_pos (show off+i<off+k by omega)]
     rw [e1];cases hr with
     |u8 b=>rfl
   ·exact h
  | arr sz' xs=>
   simp only [tokP]at hc;split at hc<;>cases hc
   ·rename_i hcond
    obtain⟨rfl,h2,h3⟩:=hcond;have hwf0:∀y∈xs,y.length=sz':=by obtain⟨x,s,hM,hS⟩:=h;exact wf_arr.1 (hS.lookmem hl)
    have hwt:∀y∈xs.take (off+k),y.length=sz':=fun y hy=>hwf0 y (List.mem_of_mem_take hy)
    have hrow:(xs.drop off).take k=(xs.take (off+k)).drop off:=by rw [List.drop_take,Nat.add_sub_cancel_left]
    refine main (.arr sz' (xs.take (off+k))) (.lst sz' ((xs.drop off).take k) (.id id)) (fun cs e=>by cases e) (fun cs e=>by cases e) (by simp only [SObj.size,List.length_take];congr 1;omega) (by simp only [SObj.size];exact Nat.mul_le_mul_right _ h2) h3 (fun i hi=> ?_) (wf_arr.2 hwt) (fun x' off' hoff hcell=> ?_) (fun _ _=>rfl)
    ·simp only [SObj.size,List.length_take]at hi
     simp only [SObj.cell,List.getD_eq_getElem?_getD,List.getElem?_take];have hd:i/sz'<off+k:=Nat.div_lt_of_lt_mul (by rw [Nat.mul_comm];exact Nat.lt_of_lt_of_le hi (Nat.mul_le_mul_right _ (Nat.min_le_left _ _)));rw [if_pos hd]
    ·have hlen:((xs.drop off).take k).length=k:=by simp;omega
     have hgr:∀i,i<k→((xs.drop off).take k).getD i []=(xs.take (off+k)).getD (off+i) []:=fun i hi=>by simp only [List.getD_eq_getElem?_getD,List.getElem?_take,if_pos hi,List.getElem?_drop,if_pos (show off+i<off+k by omega)]
     have hrl:∀i,i<k→((xs.drop off).take k).getD i []∈xs.take (off+k):=fun i hi=>by rw [hgr i hi,List.getD_eq_getElem?_getD,List.getElem?_eq_getElem (show off+i<(xs.take (off+k)).length by rw [List.length_take];omega)];exact List.getElem_mem _
     have hcl:∀i j,i<k→j<sz'→∃u,x'.G (x'.β o) (off'+i*sz'+j)=some u∧RepD x'.G ((((xs.drop off).take k).getD i []).getD j .undef) u:=by
      intro i j hi hj;have hoff':off'=off*sz':=hoff.resolve_left (by omega)
      have hlt:(off+i)*sz'+j<(off+k)*sz':=by have:=Nat.mul_le_mul_right sz' (show off+i+1≤off+k by omega);rw [Nat.add_mul,Nat.one_mul]at this;omega
      obtain⟨u,hu,hr⟩:=hcell ((off+i)*sz'+j) (by simp only [SObj.size,List.length_take];rw [Nat.min_eq_left (by omega)];exact hlt);refine⟨u,by rw [hoff',←Nat.add_mul];exact hu, ?_⟩;simp only [SObj.cell]at hr;have e1:((off+i)*sz'+j)/sz'=off+i:=by rw [Nat.mul_comm,Nat.mul_add_div (by omega),Nat.div_eq_of_lt hj,Nat.add_zero]
      have e2:((off+i)*sz'+j) % sz'=j:=by rw [Nat.mul_comm,Nat.mul_add_mod,Nat.mod_eq_of_lt hj]
      rw [e1,e2]at hr;rw [hgr i hi];exact hr
     refine .lst _ _ _ _ _ _ _ (fun i j=>(x'.G (x'.β o) (off'+i*sz'+j)).getD Go.undef) hlen.symm h3 (fun i hi=>hwt _ (hrl i hi)) (fun i j hi hj=> ?_) (fun i j hi hj=> ?_)
     ·obtain⟨u,hu,_⟩:=hcl i j hi hj
      rw [hu];rfl
     ·obtain⟨u,hu,hr⟩:=hcl i j hi hj
      rw [hu];exact hr
   ·exact h
theorem tok_sound (hM:Models C x s a w) (hS:Sim N c s) (id:Nat) (t:Option Nat) (ht:∀k,t=some k→k∈c.tk) {n:Nat} (hn:n<N) {v:SV}
 (hv:∀u,Rep x (c.get n) u→Rep (x.newT id ((t.elim (0,0,0) x.τ)).1 ((t.elim (0,0,0) x.τ)).2.1 ((t.elim (0,0,0) x.τ)).2.2) v u):
 M C N ⟨putT (purgeT id (id+1) c.tm) n v,purgeO id (id+1) c.ob,putK (dropT id (id+1) (t.elim c.tk fun k=>dropT k (k+1) c.tk)) id⟩ a w:=by
 generalize hT:t.elim (0,0,0) x.τ=T at hv;generalize hL:(t.elim c.tk fun k=>dropT k (k+1) c.tk)=L;have hH:=hM.heap
 have hLs:∀u∈L,u∈s.tk∧∀k,t=some k→u≠k:=by
  intro u hu;rw [←hL]at hu;cases t with
  |none=>exact⟨(hS.tk u).2 hu,fun k e=>by cases e⟩
  |some k=>obtain⟨h1,h2⟩:=mem_dropT.1 hu;exact⟨(hS.tk u).2 h1,fun k' e=>by cases e;omega⟩
 have hadd:Heap C (x.newT id T.1 T.2.1 T.2.2) (purgeO id (id+1) s.ob) (id::dropT id (id+1) L) w:=by
  refine(hH.sub (tk':=L) (List.Sublist.refl _) (fun u hu=>(hLs u hu).1)).addT id T.1 T.2.1 T.2.2 ?_ ?_ ?_
  ·cases t with
   |none=>subst hT;exact .inl rfl
   |some k=>have:=hH.tks k ((hS.tk k).2 (ht k rfl));unfold TokRep at this;subst hT;exact this
  ·cases t with
   |none=>subst hT;exact .inl rfl
   | some k=>
    by_cases hc:(x.τ k).2.1=(x.τ k).2.2
    ·subst hT;exact .inl hc
    ·subst hT
     exact .inr fun p hp _=>(hH.tko k ((hS.tk k).2 (ht k rfl)) p hp).resolve_right hc
  ·cases t with
   |none=>subst hT;exact .inl rfl
   | some k=>
    by_cases hc:(x.τ k).2.1=(x.τ k).2.2
    ·subst hT;exact .inl hc
    ·subst hT
     refine .inr fun u hu _=> ?_
     obtain⟨h1,h2⟩:=hLs u hu;rcases hH.tkd k ((hS.tk k).2 (ht k rfl)) u h1 (fun e=>h2 k rfl e.symm)with h|h|h
     ·exact .inl h
     ·exact absurd h hc
     ·exact .inr h
 have hM1:Models C (x.newT id T.1 T.2.1 T.2.2) ⟨SV.purgeL id (id+1) s.tm,purgeO id (id+1) s.ob,id::dropT id (id+1) L⟩ a w:=
  ⟨RepL.mono (x:=x) (x':=x.newT id T.1 T.2.1 T.2.2) (lo:=id) (hi:=id+1) (fun _ _ _ h=>h) (fun _ _=>rfl) (Sit.newT_ne x id _ _ _) hM.tm,hM.defers,hadd⟩
 have hS1:Sim N ⟨purgeT id (id+1) c.tm,purgeO id (id+1) c.ob,putK (dropT id (id+1) L) id⟩ ⟨SV.purgeL id (id+1) s.tm,purgeO id (id+1) s.ob,id::dropT id (id+1) L⟩:=
  (hS.purge id (id+1)).tks (fun u=>by rw [mem_putK,List.mem_cons])
 refine⟨x.newT id T.1 T.2.1 T.2.2,_, ?_,hS1.put (d:=some n) (fun k e=>by cases e;exact hn) v⟩;have hlt:n<s.tm.length:=by rw [hS.tm];simpa using hn
 refine⟨⟨?_,fun i hi=> ?_⟩,hM1.defers,hM1.heap⟩
 ·have:=hM1.tm.1;simpa [St.put]using this
 ·simp only [St.put,List.length_set]at hi
  simp only [St.put,List.getD_eq_getElem?_getD,List.getElem?_set]
  by_cases hni:n=i
  ·subst hni
   rw [if_pos rfl,if_pos hi];refine hv _ ?_;have:=hM.tm.2 n hlt;have e:s.tm.getD n .undef=c.get n:=hS.get n;rw [e]at this;rw [←List.getD_eq_getElem?_getD];exact this
  ·rw [if_neg hni,←List.getD_eq_getElem?_getD,←List.getD_eq_getElem?_getD]
   exact hM1.tm.2 i hi
theorem tokD_sound (h:M C N c a w) {n id:Nat} (hc:tokD c n id (c.get n)=some c'):M C N c' a w:=by
 have hnN:c.get n≠ .undef→n<N:=by
  obtain⟨x,s,hM,hS⟩:=h;intro hne;rcases Nat.lt_or_ge n N with h1|h1
  ·exact h1
  ·exact absurd (hS.inv.get h1) hne
 cases hg:c.get n with
 | byt l t=>
  rw [hg]at hc;have hN:=hnN (by rw [hg];exact fun e=>by cases e);cases t with
  |no=>cases hc;exact h
  |clip=>
   cases hc;obtain⟨x,s,hM,hS⟩:=h;refine tok_sound hM hS id none (fun k e=>by cases e) hN fun u hu=> ?_
   rw [hg]at hu;exact leT.byt id l x u hu
  | id t=>
   simp only [tokD]at hc;split at hc
   ·cases hc;exact h
   ·split at hc<;>cases hc
    rename_i h1 h2;obtain⟨x,s,hM,hS⟩:=h;refine tok_sound hM hS id (some t) (fun k e=>by cases e;simpa using h2) hN fun u hu=> ?_
    rw [hg]at hu;obtain⟨b,cap,he,_,hD,hsp⟩:=hu.byt_inv;refine .dat _ _ (hD.tok (.byt l (.id id)) (.inl ⟨l,_,_,rfl,rfl⟩)) ?_;obtain⟨a',n',cap',he',hh⟩:=hsp;refine⟨a',n',cap',he',hh.imp (fun h=>h) ?_⟩;rintro⟨b,off,h3,h4⟩;exact⟨b,off,h3,by rw [Sit.newT_eq];exact h4⟩
 | lst sz xs t=>
  rw [hg]at hc;have hN:=hnN (by rw [hg];exact fun e=>by cases e);cases t with
  |no=>cases hc;exact h
  |clip=>
   cases hc;obtain⟨x,s,hM,hS⟩:=h;refine tok_sound hM hS id none (fun k e=>by cases e) hN fun u hu=> ?_
   rw [hg]at hu;exact leT.lst id sz xs x u hu
  | id t=>
   simp only [tokD]at hc;split at hc
   ·cases hc;exact h
   ·split at hc<;>cases hc
    rename_i h1 h2;obtain⟨x,s,hM,hS⟩:=h;refine tok_sound hM hS id (some t) (fun k e=>by cases e;simpa using h2) hN fun u hu=> ?_
    rw [hg]at hu;obtain⟨b,cap,he,_,hD,hsp⟩:=hu.lst_inv;refine .dat _ _ (hD.tok (.lst sz xs (.id id)) (.inr ⟨sz,xs,_,_,rfl,rfl⟩)) ?_;obtain⟨a',n',cap',he',hh⟩:=hsp;refine⟨a',n',cap',he',hh.imp (fun h=>h) ?_⟩;rintro⟨b,off,h3,h4⟩;exact⟨b,off,h3,by rw [Sit.newT_eq];exact h4⟩
 |psl o sz off k cp=>
  rw [hg]at hc;have hN:=hnN (by rw [hg];exact fun e=>by cases e);cases cp with
  |none=>cases hc;exact h
  |some cp=>exact tokP_sound h hg hc hN
 |_=>rw [hg]at hc;cases hc;exact h
theorem dirC_sound (h:M C N c a w) {q:Dir} (hc:dirC c q=some c'):M C N c' a w:=by
 cases q with
 |kill l=>cases hc;exact h.kill l
 |gc l=>cases hc;exact h.gc
 |gcr lo hi=>cases hc;exact h.purge lo hi
 |pubo o=>cases hc;exact h.pub _
 |pub n=>
  simp only [dirC]at hc;split at hc<;>cases hc
  ·exact h.pub _
  ·exact h
 |tok n id=>
  simp only [dirC]at hc;split at hc
  ·cases hc
  ·exact tokD_sound h hc
theorem dirsC_sound:∀ {l:List Dir} {c:CSt},M C N c a w→dirsC c l=some c'→M C N c' a w
 |[],_,h,hc=>by cases hc;exact h
 |q::r,c,h,hc=>by
  simp only [dirsC]at hc;split at hc
  ·rename_i c1 h1;exact dirsC_sound (dirC_sound h h1) hc
  ·cases hc
end Go.Sy
namespace Go.Sy
variable [LaidData]
variable {P : Program} {C : Ctx} {x : Sit} {a : Act} {w : World} {N : Nat} {c c' : CSt} {s : St}
def SpecT (P:Program) (f:Nat) (args:List SV) (os:List SObj) (k:Nat) (R:CRes→Prop):Prop:=
 callableB P f=true∧∀(C:Ctx) (x:Sit) (w:World) (vs:List Value),C.w0=w→C.G0=x.G→
  (∀b,C.mine b→w.heap.size≤b∨(∃i,i<os.length∧x.β i=b)∨(∃t,50≤t∧t<50+k∧(x.τ t).2.1≠(x.τ t).2.2∧(x.τ t).1=b))→os.length≤40→
  (∀o∈os,o.wf=true)→Heap C x (idx os) (tks 50 k) w→RepL x args vs→
  Calls P f ⟨vs⟩ w fun e w'=>∃v x' q,e= .returned v∧R q∧Rep x' q.r v∧Heap C x' q.os q.tk w'∧(∀p∈q.os,p.2.wf=true)∧∀i,i<os.length→x'.β i=x.β i
theorem bareL_eq (cs:List SV):SV.bareL cs=cs.map SV.bare:=by
 induction cs with
 |nil=>rfl
 |cons c r ih=>simp only [SV.bareL,List.map_cons,ih]
theorem Rep.bare {x x':Sit} (hG:x'.G=x.G) (hβ:x'.β=x.β) {sv:SV} {v:Value} (h:Rep x sv v):Rep x' sv.bare v:=by
 induction h with
 |undef v=>exact .undef v
 |dat s v h ht=>
  have h':=h.toData;rw [←hG]at h';cases s with
  |byt l t=>exact .dat _ _ h' trivial
  |lst sz xs t=>exact .dat _ _ h' trivial
  |undef=>exact .undef v
  |bool b=>exact .dat _ _ h' trivial
  |int k n=>exact .dat _ _ h' trivial
  |u8 b=>exact .dat _ _ h' trivial
  |str l=>exact .dat _ _ h' trivial
  |nilp=>exact .dat _ _ h' trivial
  |nili=>exact .dat _ _ h' trivial
  |pp cs=>exact .dat _ _ h' trivial
  |ptr o off=>cases h
  |ap o sz i j=>cases h
  |psl o sz off n cap=>cases h
  |agg cs=>cases h
  |tup cs=>cases h
  |fn f a b=>cases h
 |ptr o off=>simp only [SV.bare];rw [←hβ];exact .ptr o off
 |ap o sz i j=>simp only [SV.bare];rw [←hβ];exact .ap o sz i j
 |psl o sz off n cap off' cap' h hn hc=>simp only [SV.bare];rw [←hβ];exact .psl o sz off n cap off' cap' h hn hc
 |agg cs vs hl _ ih=>simp only [SV.bare,bareL_eq];exact .agg _ _ (by simpa using hl) fun i hi=>by rw [getD_map_undef _ (by rfl)];exact ih i (by simpa using hi)
 |tup cs vs hl _ ih=>simp only [SV.bare,bareL_eq];exact .tup _ _ (by simpa using hl) fun i hi=>by rw [getD_map_undef _ (by rfl)];exact ih i (by simpa using hi)
 |fn f c1 c2 v1 v2 hl1 _ hl2 _ ih1 ih2=>simp only [SV.bare,bareL_eq];exact .fn _ _ _ _ _ (by simpa using hl1) (fun i hi=>by rw [getD_map_undef _ (by rfl)];exact ih1 i (by simpa using hi)) (by simpa using hl2) (fun i hi=>by rw [getD_map_undef _ (by rfl)];exact ih2 i (by simpa using hi))
def tokAt (x:Sit):Option Nat→Nat×Nat×Nat
 |none=>(0,0,0)
 |some t=>x.τ t
def Toks (x x1:Sit) (j:Nat) (l:List (Option Nat)):Prop:=∀k,k<l.length→x1.τ (j+k)=tokAt x (l.getD k none)
theorem Toks.left {x x1:Sit} {j:Nat} {l r:List (Option Nat)} (h:Toks x x1 j (l++r)):Toks x x1 j l:=fun k hk=>by have:=h k (by simp;omega);rwa [List.getD_eq_getElem?_getD,List.getElem?_append_left hk,←List.getD_eq_getElem?_getD]at this
theorem Toks.right {x x1:Sit} {j:Nat} {l r:List (Option Nat)} (h:Toks x x1 j (l++r)):Toks x x1 (j+l.length) r:=fun k hk=>by have:=h (l.length+k) (by simp;omega);rw [List.getD_eq_getElem?_getD,List.getElem?_append_right (by omega),←List.getD_eq_getElem?_getD]at this;rw [Nat.add_assoc,this];congr 2;omega
theorem mem_somes {t:Nat}:∀ {l:List (Option Nat)},t∈somes l↔some t∈l
 |[]=>by simp [somes]
 |none::r=>by simp [somes,mem_somes]
 |some u::r=>by simp [somes,mem_somes]
theorem somes_append (l r:List (Option Nat)):somes (l++r)=somes l++somes r:=by
 induction l with
 |nil=>rfl
 |cons o l ih=>cases o<;>simp [somes,ih]
theorem tokV_rep {x x1:Sit} (hG:x1.G=x.G) (hβ:x1.β=x.β) {tk:List Nat} {j:Nat} {v:SV} {u:Value} (h:Rep x v u) (ht:Toks x x1 j (tokV tk j v).2):Rep x1 (tokV tk j v).1 u:=by
 have hb:=h.bare hG hβ;cases v with
 | byt l t=>
  cases t with
  |no=>exact hb
  |clip=>have e:=ht 0 (by simp [tokV]);obtain⟨b,cap,he,_,hD,hsp⟩:=h.byt_inv;obtain⟨a',n',he'⟩:=hsp;rw [←hG]at hD;exact .dat _ _ (hD.tok (.byt l (.id j)) (.inl ⟨l,_,_,rfl,rfl⟩)) ⟨a',n',n',he',.inl rfl⟩
  | id t=>
   by_cases hc:tk.contains t=true
   ·have e:=ht 0 (by simp only [tokV,hc,if_true,List.length_cons];omega)
    simp only [tokV,hc,if_true]at e ⊢;obtain⟨b,cap,he,_,hD,hsp⟩:=h.byt_inv;obtain⟨a',n',cap',he',hh⟩:=hsp;rw [←hG]at hD;refine .dat _ _ (hD.tok (.byt l (.id j)) (.inl ⟨l,_,_,rfl,rfl⟩)) ⟨a',n',cap',he',hh.imp id ?_⟩;rintro⟨b,off,h1,h2⟩;exact⟨b,off,h1,by rw [Nat.add_zero]at e;rw [e];exact h2⟩
   ·simp only [tokV,hc,if_false];exact hb
 | lst sz xs t=>
  cases t with
  |no=>exact hb
  |clip=>obtain⟨b,cap,he,_,hD,hsp⟩:=h.lst_inv;obtain⟨a',n',he'⟩:=hsp;rw [←hG]at hD;exact .dat _ _ (hD.tok (.lst sz xs (.id j)) (.inr ⟨sz,xs,_,_,rfl,rfl⟩)) ⟨a',n',n',he',.inl rfl⟩
  | id t=>
   by_cases hc:tk.contains t=true
   ·have e:=ht 0 (by simp only [tokV,hc,if_true,List.length_cons];omega)
    simp only [tokV,hc,if_true]at e ⊢;obtain⟨b,cap,he,_,hD,hsp⟩:=h.lst_inv;obtain⟨a',n',cap',he',hh⟩:=hsp;rw [←hG]at hD;refine .dat _ _ (hD.tok (.lst sz xs (.id j)) (.inr ⟨sz,xs,_,_,rfl,rfl⟩)) ⟨a',n',cap',he',hh.imp id ?_⟩;rintro⟨b,off,h1,h2⟩;exact⟨b,off,h1,by rw [Nat.add_zero]at e;rw [e];exact h2⟩
   ·simp only [tokV,hc,if_false];exact hb
 |_=>exact hb
theorem tokV_in {tk:List Nat} {j:Nat} {v:SV}:∀t∈somes (tokV tk j v).2,t∈tk:=by
 intro t ht;cases v with
 | byt l q=>
  cases q with
  |id u=>
   by_cases hc:tk.contains u=true
   ·simp only [tokV,hc,if_true,somes,List.mem_singleton]at ht;subst ht;simpa using hc
   ·simp only [tokV,hc,if_false,somes]at ht;cases ht
  |_=>cases ht
 | lst sz xs q=>
  cases q with
  |id u=>
   by_cases hc:tk.contains u=true
   ·simp only [tokV,hc,if_true,somes,List.mem_singleton]at ht;subst ht;simpa using hc
   ·simp only [tokV,hc,if_false,somes]at ht;cases ht
  |_=>cases ht
 |_=>cases ht
theorem repL_cons {x:Sit} {v:SV} {u:Value} {cs:List SV} {us:List Value}:RepL x (v::cs) (u::us)↔Rep x v u∧RepL x cs us:=by
 constructor
 ·intro h
  exact⟨h.2 0 (by simp),by simpa using h.1,fun i hi=>by simpa using h.2 (i+1) (by simpa using hi)⟩
 ·rintro⟨h1,h2⟩
  exact⟨by simp [h2.1],fun i hi=>by
   cases i with
   |zero=>exact h1
   |succ i=>simpa using h2.2 i (by simpa using hi)⟩
theorem tokL_rep {x x1:Sit} (hG:x1.G=x.G) (hβ:x1.β=x.β) {tk own:List Nat}:∀ {cs:List SV} {us:List Value} {j i:Nat},RepL x cs us→Toks x x1 j (tokL tk own j i cs).2→RepL x1 (tokL tk own j i cs).1 us
 |[],[],_,_,_,_=>⟨rfl,fun i hi=>by simp [tokL]at hi⟩
 |[],_::_,_,_,h,_=>absurd h.1 (by simp)
 |_::_,[],_,_,h,_=>absurd h.1 (by simp)
 | v::r,u::us,j,i,h,ht=>by
  obtain⟨h1,h2⟩:=repL_cons.1 h;simp only [tokL]at ht ⊢;split
  ·rename_i hc
   rw [if_pos hc]at ht;exact repL_cons.2 ⟨tokV_rep hG hβ h1 ht.left,tokL_rep hG hβ h2 ht.right⟩
  ·rename_i hc
   rw [if_neg hc]at ht;exact repL_cons.2 ⟨h1.bare hG hβ,tokL_rep hG hβ h2 ht⟩
theorem tokL_in {tk own:List Nat}:∀ {cs:List SV} {j i:Nat},∀t∈somes (tokL tk own j i cs).2,t∈tk
 |[],_,_,t,ht=>by cases ht
 | v::r,j,i,t,ht=>by
  simp only [tokL]at ht;split at ht
  ·rw [somes_append,List.mem_append]at ht
   exact ht.elim (tokV_in t) (tokL_in t)
  ·exact tokL_in t ht
theorem tokC_rep {x x1:Sit} (hG:x1.G=x.G) (hβ:x1.β=x.β) {tk:List Nat}:∀ {cs:List SV} {j:Nat} {f:Nat→Value},(∀k,k<cs.length→Rep x (cs.getD k .undef) (f k))→Toks x x1 j (tokC tk j cs).2→
 (tokC tk j cs).1.length=cs.length∧∀k,k<cs.length→Rep x1 ((tokC tk j cs).1.getD k .undef) (f k)
 |[],_,_,_,_=>⟨rfl,fun i hi=>by simp at hi⟩
 |v::r,j,f,h,ht=>by
  simp only [tokC]at ht ⊢;obtain⟨h1,h2⟩:=tokC_rep (f:=fun k=>f (k+1)) hG hβ (fun k hk=>by simpa using h (k+1) (by simpa using hk)) ht.right;refine⟨by simp [h1],fun k hk=> ?_⟩;cases k with
  |zero=>exact tokV_rep hG hβ (h 0 (by simp)) ht.left
  |succ k=>simpa using h2 k (by simpa using hk)
theorem tokC_in {tk:List Nat}:∀ {cs:List SV} {j:Nat},∀t∈somes (tokC tk j cs).2,t∈tk
 |[],_,t,ht=>by cases ht
 |v::r,j,t,ht=>by simp only [tokC]at ht;rw [somes_append,List.mem_append]at ht;exact ht.elim (tokV_in t) (tokC_in t)
theorem tokOb_rep {x x1:Sit} (hG:x1.G=x.G) (hβ:x1.β=x.β) {tk:List Nat} {j o:Nat} {ob:SObj} (h:ObjRep x w o ob) (ht:Toks x x1 j (tokOb tk j ob).2):ObjRep x1 w o (tokOb tk j ob).1:=by
 obtain⟨cc,e,fl,fh,hO,hs,hr⟩:=h;cases ob with
 |rc cs=>obtain⟨h1,h2⟩:=tokC_rep (f:=fun k=>cc.getD k Go.undef) hG hβ hr ht;exact⟨cc,e,fl,fh,by rw [hβ];exact hO,by simp only [tokOb,SObj.size,h1]at hs ⊢;exact hs,fun k hk=>h2 k (by simpa only [tokOb,SObj.size,h1]using hk)⟩
 |arr sz xs=>exact⟨cc,e,fl,fh,by rw [hβ];exact hO,hs,fun k hk=>by have:=hr k hk;simp only [tokOb,cellRep]at this ⊢;rw [hG];exact this⟩
 |bar l=>exact⟨cc,e,fl,fh,by rw [hβ];exact hO,hs,fun k hk=>by have:=hr k hk;simp only [tokOb,cellRep]at this ⊢;rw [hG];exact this⟩
theorem tokOb_wf {tk:List Nat} {j:Nat} {ob:SObj} (h:ob.wf=true):(tokOb tk j ob).1.wf=true:=by cases ob<;>first|rfl|exact h
theorem tokOb_in {tk:List Nat} {j:Nat} {ob:SObj}:∀t∈somes (tokOb tk j ob).2,t∈tk:=by
 intro t ht;cases ob with
 |rc cs=>exact tokC_in t ht
 |_=>cases ht
theorem tokObs_rep {x x1:Sit} (hG:x1.G=x.G) (hβ:x1.β=x.β) {tk:List Nat}:∀ {obs:List SObj} {j:Nat} {f:Nat→Nat},(∀k,k<obs.length→ObjRep x w (f k) (obs.getD k (.rc [])))→Toks x x1 j (tokObs tk j obs).2→
 (tokObs tk j obs).1.length=obs.length∧∀k,k<obs.length→ObjRep x1 w (f k) ((tokObs tk j obs).1.getD k (.rc []))
 |[],_,_,_,_=>⟨rfl,fun i hi=>by simp at hi⟩
 |v::r,j,f,h,ht=>by
  simp only [tokObs]at ht ⊢;obtain⟨h1,h2⟩:=tokObs_rep (f:=fun k=>f (k+1)) hG hβ (fun k hk=>by simpa using h (k+1) (by simpa using hk)) ht.right;refine⟨by simp [h1],fun k hk=> ?_⟩;cases k with
  |zero=>exact tokOb_rep hG hβ (h 0 (by simp)) ht.left
  |succ k=>simpa using h2 k (by simpa using hk)
theorem tokObs_in {tk:List Nat}:∀ {obs:List SObj} {j:Nat},∀t∈somes (tokObs tk j obs).2,t∈tk
 |[],_,t,ht=>by cases ht
 |v::r,j,t,ht=>by simp only [tokObs]at ht;rw [somes_append,List.mem_append]at ht;exact ht.elim (tokOb_in t) (tokObs_in t)
theorem tokObs_wf {tk:List Nat}:∀ {obs:List SObj} {j:Nat},(∀o∈obs,o.wf=true)→∀o∈(tokObs tk j obs).1,o.wf=true
 |[],_,_,o,ho=>by cases ho
 |v::r,j,h,o,ho=>by
  simp only [tokObs]at ho;rcases List.mem_cons.1 ho with e|e
  ·rw [e];exact tokOb_wf (h v (List.mem_cons_self ..))
  ·exact tokObs_wf (fun o h'=>h o (List.mem_cons_of_mem _ h')) o e
theorem ixOf_lt {m:List Nat} {o:Nat} (h:o∈m):ixOf m o<m.length∧m.getD (ixOf m o) 0=o:=by
 induction m with
 |nil=>cases h
 | cons p r ih=>
  simp only [ixOf];split
  ·rename_i hp;subst hp;simp
  ·rename_i hp
   obtain⟨h1,h2⟩:=ih ((List.mem_cons.1 h).resolve_left (Ne.symm hp));exact⟨by simpa using h1,by simpa using h2⟩
theorem nodupB_iff {l:List Nat} (h:nodupB l=true):l.Nodup:=by
 induction l with
 |nil=>exact List.nodup_nil
 |cons p r ih=>simp only [nodupB,Bool.and_eq_true,Bool.not_eq_true',List.contains_eq_mem,decide_eq_false_iff_not]at h;exact List.nodup_cons.2 ⟨h.1,ih h.2⟩
theorem subB_iff {l r:List Nat} (h:subB l r=true):∀o∈l,o∈r:=by intro o ho;simp only [subB,List.all_eq_true,List.contains_eq_mem,decide_eq_true_eq]at h;exact h o ho
theorem looks_of:∀ {m:List Nat} {os:List SObj},looks c m=some os→os.length=m.length∧∀i,i<m.length→c.look (m.getD i 0)=some (os.getD i (.rc []))
 |[],os,h=>by cases h;exact⟨rfl,fun i hi=>by simp at hi⟩
 |o::r,os,h=>by
  simp only [looks]at h;split at h<;>cases h;rename_i ob l h1 h2;obtain⟨h3,h4⟩:=looks_of h2;refine⟨by simp [h3],fun i hi=> ?_⟩;cases i with
  |zero=>exact h1
  |succ i=>simpa using h4 i (by simpa using hi)
theorem renObL_eq (mo mt:Nat→Nat) (l:List SObj):renObL mo mt l=l.map fun o=>o.ren mo mt:=by
 induction l with
 |nil=>rfl
 |cons p r ih=>simp only [renObL,List.map_cons,ih]
theorem obsIds_mem {l:List SObj} {o:SObj} (h:o∈l):∀k∈o.ids,k∈obsIds l:=by
 induction l with
 |nil=>cases h
 |cons p r ih=>
  intro k hk;simp only [obsIds,List.mem_append];rcases List.mem_cons.1 h with e|e
  ·subst e;exact .inl hk
  ·exact .inr (ih e k hk)
theorem nodup_somes {l:List (Option Nat)} (h:(somes l).Nodup):∀ {i j:Nat} {t u:Nat},i≠j→l.getD i none=some t→l.getD j none=some u→t≠u:=by
 have key:∀ {l:List (Option Nat)},(somes l).Nodup→∀ {i j:Nat} {t u:Nat},i<j→l.getD i none=some t→l.getD j none=some u→t≠u:=by
  intro l;induction l with
  |nil=>intro _ i j t u _ h1;simp at h1
  | cons o r ih=>
   intro hn i j t u hij h1 h2
   have hr:(somes r).Nodup:=by cases o with
    |none=>exact hn
    |some q=>exact(List.nodup_cons.1 hn).2
   cases j with
   |zero=>omega
   | succ j=>
    rw [List.getD_cons_succ]at h2;cases i with
    | zero=>
     rw [List.getD_cons_zero]at h1;subst h1
     have h3:some u∈r:=by
      rw [List.getD_eq_getElem?_getD]at h2;cases hj:r[j]? with
      |none=>rw [hj]at h2;cases h2
      |some q=>rw [hj]at h2;cases h2;exact List.mem_of_getElem? hj
     intro e;subst e;exact(List.nodup_cons.1 hn).1 (mem_somes.2 h3)
    |succ i=>rw [List.getD_cons_succ]at h1;exact ih hr (by omega) h1 h2
 intro i j t u hij h1 h2;rcases Nat.lt_or_gt_of_ne hij with h3|h3
 ·exact key h h3 h1 h2
 ·exact(key h h3 h2 h1).symm
theorem mem_tks {b n t:Nat}:t∈tks b n↔b≤t∧t<b+n:=by
 unfold tks
 have:∀n k,k∈upto n↔k<n:=by
  intro n;induction n with
  |zero=>intro k;simp [upto]
  |succ n ih=>intro k;simp only [upto,List.mem_append,ih,List.mem_singleton];omega
 simp only [List.mem_map,this];constructor
 ·rintro⟨k,h,rfl⟩;omega
 ·rintro⟨h1,h2⟩;exact⟨t-b,by omega,by omega⟩
structure Took (x x2:Sit) (c:CSt) (m:List Nat) (mt:List (Option Nat)):Prop where
 G:x2.G=x.G
 β:∀i,i<m.length→x2.β i=x.β (m.getD i 0)
 τ:Toks x x2 50 mt
 nd:m.Nodup
 ob:∀i,i<m.length→∃ob,(m.getD i 0,ob)∈c.ob
 tnd:(somes mt).Nodup
 tk:∀t∈somes mt,t∈c.tk
def Ctx.took (x2:Sit) (w:World) (n k:Nat):Ctx:=
 ⟨w,x2.G,fun b=>w.heap.size≤b∨(∃i,i<n∧x2.β i=b)∨(∃t,50≤t∧t<50+k∧(x2.τ t).2.1≠(x2.τ t).2.2∧(x2.τ t).1=b),x2.β⟩
theorem getD_mem {m:List Nat} {i:Nat} (h:i<m.length):m.getD i 0∈m:=by rw [List.getD_eq_getElem?_getD,List.getElem?_eq_getElem h];exact List.getElem_mem _
theorem nodup_getD {m:List Nat} (h:m.Nodup) {i j:Nat} (hi:i<m.length) (hj:j<m.length) (e:m.getD i 0=m.getD j 0):i=j:=by rw [List.getD_eq_getElem?_getD,List.getD_eq_getElem?_getD,List.getElem?_eq_getElem hi,List.getElem?_eq_getElem hj]at e;exact nodup_inj h hi hj e
theorem getD_some_mem {l:List (Option Nat)} {i t:Nat} (h:l.getD i none=some t):t∈somes l:=by
 rw [List.getD_eq_getElem?_getD]at h;cases hj:l[i]? with
 |none=>rw [hj]at h;cases h
 |some q=>rw [hj]at h;cases h;exact mem_somes.2 (List.mem_of_getElem? hj)
theorem Took.tok {x2:Sit} {m:List Nat} {mt:List (Option Nat)} (h:Took x x2 c m mt) {t:Nat} (h1:50≤t) (h2:t<50+mt.length):
 (x2.τ t).2.1=(x2.τ t).2.2∨∃u,mt.getD (t-50) none=some u∧x2.τ t=x.τ u∧u∈c.tk∧u∈somes mt:=by
 have e:=h.τ (t-50) (by omega);rw [show 50+(t-50)=t by omega]at e;cases hu:mt.getD (t-50) none with
 |none=>rw [hu]at e;rw [e];exact .inl rfl
 |some u=>rw [hu]at e;exact .inr ⟨u,rfl,e,h.tk u (getD_some_mem hu),getD_some_mem hu⟩
theorem took_heap {x2:Sit} {m:List Nat} {mt:List (Option Nat)} (hH:Heap C x c.ob c.tk w) (h:Took x x2 c m mt) {objs:List SObj} (hl:objs.length=m.length)
 (ho:∀i,i<m.length→ObjRep x2 w i (objs.getD i (.rc []))):Heap (Ctx.took x2 w m.length mt.length) x2 (idx objs) (tks 50 mt.length) w:=by
 refine⟨fun b o v hv=>hH.per b o v (by rw [←h.G];exact hv),fun _ _ _ hv=>hv,fun _ _ _ hv=> .inl hv,fun b hb=> .inl hb, ?_,nodup_idx objs, ?_, ?_, ?_, ?_,rfl,rfl,rfl,Nat.le_refl _,fun _ _=>rfl,fun _ _=>rfl,hH.lay.mono (fun b o v hv=>by show x2.G b o=some v;rw [h.G];exact hH.g0 b o v hv)⟩
 ·intro p hp
  obtain⟨h1,h2⟩:=mem_idx.1 hp;rw [hl]at h1;obtain⟨ob,h3⟩:=h.ob p.1 h1;refine⟨by rw [h2];exact ho p.1 h1,.inr (.inl ⟨p.1,h1,rfl⟩),fun off=> ?_⟩;rw [h.G,h.β _ h1];exact(hH.obs _ h3).2.2 off
 ·intro p hp q hq hpq
  obtain⟨h1,_⟩:=mem_idx.1 hp;obtain⟨h2,_⟩:=mem_idx.1 hq;rw [hl]at h1 h2;rw [h.β _ h1,h.β _ h2]at hpq;obtain⟨o1,g1⟩:=h.ob _ h1;obtain⟨o2,g2⟩:=h.ob _ h2;exact nodup_getD h.nd h1 h2 (hH.inj _ g1 _ g2 hpq)
 ·intro t ht
  obtain⟨h1,h2⟩:=mem_tks.1 ht;rcases h.tok h1 h2 with h3|⟨u,_,h4,h5,_⟩
  ·exact .inl h3
  ·by_cases hne:(x2.τ t).2.1=(x2.τ t).2.2
   ·exact .inl hne
   ·have:=hH.tks u h5
    unfold TokRep at this ⊢;rw [h4]at hne ⊢;rcases this with g|⟨g1,g2,g3⟩
    ·exact absurd g hne
    ·exact .inr ⟨g1,.inr (.inr ⟨t,h1,h2,by rw [h4];exact hne,by rw [h4]⟩),by rw [h.G];exact g3⟩
 ·intro t ht p hp
  obtain⟨h1,h2⟩:=mem_tks.1 ht;obtain⟨h6,_⟩:=mem_idx.1 hp;rw [hl]at h6;rcases h.tok h1 h2 with h3|⟨u,_,h4,h5,_⟩
  ·exact .inr h3
  ·obtain⟨o1,g1⟩:=h.ob _ h6
   rw [h4,h.β _ h6];exact hH.tko u h5 _ g1
 ·intro t ht u hu htu
  obtain⟨h1,h2⟩:=mem_tks.1 ht;obtain⟨h3,h4⟩:=mem_tks.1 hu;rcases h.tok h1 h2 with g|⟨t',g1,g2,g3,_⟩
  ·exact .inr (.inl g)
  ·rcases h.tok h3 h4 with k|⟨u',k1,k2,k3,_⟩
   ·exact .inr (.inr k)
   ·rw [g2,k2]
    exact hH.tkd t' g3 u' k3 (nodup_somes h.tnd (by omega) g1 k1)
end Go.Sy
namespace Go.Sy
variable [LaidData]
variable {P : Program} {C : Ctx} {x : Sit} {a : Act} {w : World} {N : Nat} {c c' : CSt} {s : St}
theorem renKs_eq (d:Nat) (l:List Nat):renKs d l=l.map (renT d):=by
 induction l with
 |nil=>rfl
 |cons p r ih=>simp only [renKs,List.map_cons,ih]
theorem mem_dropK {k:List Nat} {t:Nat}:∀ {l:List Nat},t∈dropK k l↔t∈l∧t∉k
 |[]=>by simp [dropK]
 | p::r=>by
  simp only [dropK];split
  ·rename_i hc
   have hp:p∈k:=by simpa using hc
   rw [mem_dropK,List.mem_cons];constructor
   ·rintro⟨h1,h2⟩;exact⟨.inr h1,h2⟩
   ·rintro⟨h1|h1,h2⟩
    ·exact absurd (h1 ▸ hp) h2
    ·exact⟨h1,h2⟩
  ·rename_i hc
   have hp:p∉k:=by simpa using hc
   rw [List.mem_cons,mem_dropK,List.mem_cons];constructor
   ·rintro(h1|⟨h1,h2⟩)
    ·exact⟨.inl h1,h1 ▸ hp⟩
    ·exact⟨.inr h1,h2⟩
   ·rintro⟨h1|h1,h2⟩
    ·exact .inl h1
    ·exact .inr ⟨h1,h2⟩
theorem mem_putsK {t:Nat}:∀ {r l:List Nat},t∈putsK l r↔t∈r∨t∈l
 |[],l=>by simp [putsK]
 | p::r,l=>by
  simp only [putsK];rw [mem_putsK,mem_putK,List.mem_cons];constructor
  ·rintro(h|h|h)
   ·exact .inl (.inr h)
   ·exact .inl (.inl h)
   ·exact .inr h
  ·rintro((h|h)|h)
   ·exact .inr (.inl h)
   ·exact .inl h
   ·exact .inr (.inr h)
theorem mem_putsO {p:Nat×SObj}:∀ {r l:List (Nat×SObj)},p∈putsO l r→p∈r∨p∈l
 |[],l,h=> .inr h
 | q::r,l,h=>by
  simp only [putsO]at h;rcases mem_putsO h with e|e
  ·exact .inl (List.mem_cons_of_mem _ e)
  ·rcases mem_putO e with e|e
   ·exact .inl (e ▸ List.mem_cons_self ..)
   ·exact .inr e
theorem so_puts:∀ {r l:List (Nat×SObj)},(l.map Prod.fst).Pairwise (· < ·)→((putsO l r).map Prod.fst).Pairwise (· < ·)
 |[],_,h=>h
 |_::r,_,h=>so_puts (r:=r) (so_put h)
theorem ren_wf {mo mt:Nat→Nat} {o:SObj} (h:o.wf=true):(o.ren mo mt).wf=true:=by cases o<;>first|rfl|exact h
theorem took_after {x2:Sit} {m:List Nat} {mt:List (Option Nat)} (hold:Heap C x c.ob c.tk w) (h:Took x x2 c m mt) {x':Sit} {w':World} {q:CRes} (hH:Heap (Ctx.took x2 w m.length mt.length) x' q.os q.tk w') {D:Nat}
 (hm:∀o∈m,inR D o=false) (hos:∀p∈q.os,p.1<1000∧(∀k∈p.2.ids,k<1000)∧∀k∈p.2.toks,k<1000) (htk:∀t∈q.tk,t<1000) (hg:∀i,i<m.length→x'.β i=x2.β i):
 ∃ x3:Sit,x3.G=x'.G∧(∀b o v,x.G b o=some v→x3.G b o=some v)∧(∀k,k<1000→x3.β (renO D m k)=x'.β k)∧(∀k,k<1000→x3.τ (renT D k)=x'.τ k)∧
   (∀k,¬((D+1)*1000≤k∧k<(D+2)*1000)→x3.β k=x.β k)∧(∀k,¬((D+1)*1000≤k∧k<(D+2)*1000)→x3.τ k=x.τ k)∧
   Heap C x3 (renOs D m q.os++dropOs m (purgeO ((D+1)*1000) ((D+2)*1000) c.ob)) (renKs D q.tk++dropK (somes mt) (dropT ((D+1)*1000) ((D+2)*1000) c.tk)) w':=by
 let lo:=(D+1)*1000
 let hi:=(D+2)*1000
 have hlo:lo=(D+1)*1000:=rfl;have hhi:hi=(D+2)*1000:=rfl
 let β2:Nat→Nat:=fun k=>if inR D k then x'.β (k-lo)else x.β k
 let τ2:Nat→Nat×Nat×Nat:=fun k=>if inR D k then x'.τ (k-lo)else x.τ k
 have hin:∀k,k<1000→inR D (lo+k)=true:=by intro k hk;simp only [inR,Bool.and_eq_true,decide_eq_true_eq];omega
 have hout:∀k,¬(lo≤k∧k<hi)→inR D k=false:=by intro k hk;rw [Bool.eq_false_iff];intro h;simp only [inR,Bool.and_eq_true,decide_eq_true_eq]at h;exact hk h
 have hβ2:∀k,¬(lo≤k∧k<hi)→β2 k=x.β k:=fun k hk=>by simp only [β2];rw [hout k hk];rfl
 have hτ2:∀k,¬(lo≤k∧k<hi)→τ2 k=x.τ k:=fun k hk=>by simp only [τ2];rw [hout k hk];rfl
 have hβnew:∀k,k<1000→β2 (renO D m k)=x'.β k:=by
  intro k hk
  by_cases hkm:k<m.length
  ·have h1:renO D m k=m.getD k 0:=if_pos hkm
   simp only [β2];rw [h1,hm _ (getD_mem hkm),hg k hkm,h.β k hkm];rfl
  ·have h1:renO D m k=lo+k:=if_neg hkm
   simp only [β2];rw [h1,hin k hk,if_pos rfl];congr 1;omega
 have hτnew:∀k,k<1000→τ2 (renT D k)=x'.τ k:=by intro k hk;have h1:renT D k=lo+k:=rfl;simp only [τ2];rw [h1,hin k hk,if_pos rfl];congr 1;omega
 have hG:∀b o v,x.G b o=some v→x'.G b o=some v:=fun b o v hv=>hH.g0 b o v (by show x2.G b o=_;rw [h.G];exact hv)
 refine⟨⟨x'.G,β2,τ2⟩,rfl,hG,hβnew,hτnew,hβ2,hτ2, ?_⟩;rw [renOs_eq,renKs_eq]
 have hmine:∀b,(Ctx.took x2 w m.length mt.length).mine b→C.mine b:=by
  rintro b (h1|⟨i,hi,rfl⟩|⟨t,h1,h2,h3,rfl⟩)
  ·exact hold.new b (Nat.le_trans hold.size h1)
  ·obtain⟨ob,hob⟩:=h.ob i hi
   rw [h.β i hi];exact(hold.obs _ hob).2.1
  ·rcases h.tok h1 h2 with g|⟨u,_,g1,g2,_⟩
   ·exact absurd g h3
   ·rw [g1]at h3 ⊢
    rcases hold.tks u g2 with k|⟨_,k,_⟩
    ·exact absurd k h3
    ·exact k
 have hkeep:∀b,b<w.heap.size→(∀i,i<m.length→x.β (m.getD i 0)≠b)→(∀u∈somes mt,(x.τ u).2.1=(x.τ u).2.2∨(x.τ u).1≠b)→w'.heap[b]? =w.heap[b]? ∧((∀off,x.G b off=none)→∀off,x'.G b off=none)∧
  (∀off,x.G b off=none→x'.G b off=none):=by
  intro b hb hne hnt
  have hnm:¬(Ctx.took x2 w m.length mt.length).mine b:=by
   rintro(h1|⟨i,hi,h1⟩|⟨t,h1,h2,h3,h4⟩)
   ·omega
   ·rw [h.β i hi]at h1;exact hne i hi h1
   ·rcases h.tok h1 h2 with g|⟨u,_,g1,_,g3⟩
    ·exact h3 g
    ·rw [g1]at h3 h4
     rcases hnt u g3 with k|k
     ·exact h3 k
     ·exact k h4
  have one:∀off,x.G b off=none→x'.G b off=none:=by
   intro off ho;cases hg:x'.G b off with
   |none=>rfl
   |some v=>
    rcases hH.gm b off v hg with h1|h1
    ·change x2.G b off=some v at h1;rw [h.G,ho]at h1;cases h1
    ·exact absurd h1 hnm
  exact⟨hH.ext b hnm,fun h off=>one off (h off),one⟩
 have hlow:∀p∈dropOs m (purgeO lo hi c.ob),∃ob,(p.1,ob)∈c.ob∧p.2=ob.purge lo hi∧¬(lo≤p.1∧p.1<hi)∧p.1∉m∧(∀i,i<m.length→x.β (m.getD i 0)≠x.β p.1)∧(∀u∈somes mt,(x.τ u).2.1=(x.τ u).2.2∨(x.τ u).1≠x.β p.1)∧x.β p.1<w.heap.size:=by
  intro p hp;obtain⟨h1,h2⟩:=mem_dropOs.1 hp;obtain⟨h3,ob,h4,h5⟩:=mem_purgeO h1;refine⟨ob,h4,h5,h3,h2,fun i hi e=> ?_,fun u hu=> ?_, ?_⟩
  ·obtain⟨ob',hob'⟩:=h.ob i hi
   have:=hold.inj _ hob' _ h4 e;simp only at this;apply h2;rw [←this];exact getD_mem hi
  ·exact(hold.tko u (h.tk u hu) _ h4).symm
  ·obtain⟨⟨c,e,fl,fh,hO,_⟩,_⟩:=hold.obs _ h4
   exact hO.lt
 have hnew:∀p∈q.os.map (fun p=>(renO D m p.1,p.2.ren (renO D m) (renT D))),∃r∈q.os,p=(renO D m r.1,r.2.ren (renO D m) (renT D))∧β2 p.1=x'.β r.1:=by intro p hp;obtain⟨r,hr,rfl⟩:=List.mem_map.1 hp;exact⟨r,hr,rfl,hβnew _ (hos r hr).1⟩
 have hnewmine:∀r∈q.os,w.heap.size≤x'.β r.1∨(∃i,i<m.length∧x.β (m.getD i 0)=x'.β r.1)∨(∃u∈somes mt,(x.τ u).2.1≠(x.τ u).2.2∧(x.τ u).1=x'.β r.1):=by
  intro r hr;rcases (hH.obs r hr).2.1 with h1|⟨i,hi,h1⟩|⟨t,h1,h2,h3,h4⟩
  ·exact .inl h1
  ·exact .inr (.inl ⟨i,hi,by rw [←h.β i hi];exact h1⟩)
  ·rcases h.tok h1 h2 with g|⟨u,_,g1,_,g3⟩
   ·exact absurd g h3
   ·rw [g1]at h3 h4;exact .inr (.inr ⟨u,g3,h3,h4⟩)
 have htmine:∀t∈q.tk,(x'.τ t).2.1=(x'.τ t).2.2∨w.heap.size≤(x'.τ t).1∨(∃i,i<m.length∧x.β (m.getD i 0)=(x'.τ t).1)∨(∃u∈somes mt,(x.τ u).2.1≠(x.τ u).2.2∧(x.τ u).1=(x'.τ t).1):=by
  intro t ht;rcases hH.tks t ht with k|⟨_,k,_⟩
  ·exact .inl k
  ·right
   rcases k with h1|⟨i,hi,h1⟩|⟨t',h1,h2,h3,h4⟩
   ·exact .inl h1
   ·exact .inr (.inl ⟨i,hi,by rw [←h.β i hi];exact h1⟩)
   ·rcases h.tok h1 h2 with g|⟨u,_,g1,_,g3⟩
    ·exact absurd g h3
    ·rw [g1]at h3 h4;exact .inr (.inr ⟨u,g3,h3,h4⟩)
 have htold:∀t∈dropK (somes mt) (dropT lo hi c.tk),t∈c.tk∧¬(lo≤t∧t<hi)∧t∉somes mt:=fun t ht=>by obtain⟨h1,h2⟩:=mem_dropK.1 ht;obtain⟨h3,h4⟩:=mem_dropT.1 h1;exact⟨h3,h4,h2⟩
 have htblock:∀t∈c.tk,t∉somes mt→(x.τ t).2.1=(x.τ t).2.2∨((x.τ t).1<w.heap.size∧(∀i,i<m.length→x.β (m.getD i 0)≠(x.τ t).1)∧(∀u∈somes mt,(x.τ u).2.1=(x.τ u).2.2∨(x.τ u).1≠(x.τ t).1)):=by
  intro t ht hnt;rcases hold.tks t ht with h1|⟨⟨c,e,fl,fh,hO,_⟩,_⟩
  ·exact .inl h1
  ·by_cases he:(x.τ t).2.1=(x.τ t).2.2
   ·exact .inl he
   ·refine .inr ⟨hO.lt,fun i hi e'=> ?_,fun u hu=> ?_⟩
    ·obtain⟨ob,hob⟩:=h.ob i hi
     rcases hold.tko t ht _ hob with h1|h1
     ·exact h1 e'.symm
     ·exact he h1
    ·rcases hold.tkd u (h.tk u hu) t ht (fun e=>hnt (e ▸ hu))with k|k|k
     ·exact .inr k
     ·exact .inl k
     ·exact absurd k he
 refine⟨hH.per,fun b o v hv=>hG _ _ _ (hold.g0 b o v hv), ?_,hold.new, ?_, ?_, ?_, ?_, ?_, ?_,hH.os.trans hold.os,hH.tape.trans hold.tape,hH.output.trans hold.output,Nat.le_trans hold.size hH.size, ?_,fun i hi=>(hβ2 i (by omega)).trans (hold.pin i hi),hold.lay⟩
 ·intro b o v hv
  rcases hH.gm b o v hv with h1|h1
  ·exact hold.gm b o v (by rw [←h.G];exact h1)
  ·exact .inr (hmine b h1)
 ·intro p hp
  rcases List.mem_append.1 hp with hp|hp
  ·obtain⟨r,hr,rfl,hb⟩:=hnew p hp
   obtain⟨h1,h2,h3⟩:=hH.obs r hr;refine⟨h1.renF (x2:=⟨x'.G,β2,τ2⟩) (fun _ _ _ h=>h) (hβnew _ (hos r hr).1) (fun k hk=>hβnew k ((hos r hr).2.1 k hk)) (fun t ht=>hτnew t ((hos r hr).2.2 t ht)), ?_,fun off=> ?_⟩
   ·show C.mine (β2 (renO D m r.1));rw [hβnew _ (hos r hr).1];exact hmine _ h2
   ·show x'.G (β2 (renO D m r.1)) off=none;rw [hβnew _ (hos r hr).1];exact h3 off
  ·obtain⟨ob,h1,h2,h3,h4,h5,h6,h7⟩:=hlow p hp
   obtain⟨g1,g2,g3⟩:=hold.obs _ h1;obtain⟨k1,k2,_⟩:=hkeep _ h7 h5 h6;have hb:β2 p.1=x.β p.1:=hβ2 _ h3;refine⟨?_,by show C.mine (β2 p.1);rw [hb];exact g2,fun off=>by show x'.G (β2 p.1) off=none;rw [hb];exact k2 g3 off⟩;rw [h2];exact ObjRep.of_heap (x':=⟨x'.G,β2,τ2⟩) g1 k1 hG hβ2 hτ2 h3
 ·rw [List.map_append,List.nodup_append]
  refine⟨?_, ?_, ?_⟩
  ·rw [List.map_map]
   have hnd':=List.pairwise_map.1 hH.nd;refine List.pairwise_map.2 (List.Pairwise.imp_of_mem (fun {p r} hp hr hne=> ?_) hnd');intro e;simp only [Function.comp]at e;have:x'.β p.1=x'.β r.1:=by rw [←hβnew _ (hos p hp).1,←hβnew _ (hos r hr).1,e]
   exact hne (hH.inj p hp r hr this)
  ·have h1:(dropOs m (purgeO lo hi c.ob)).Sublist (purgeO lo hi c.ob):=fst_dropOs_sub _ _
   refine List.Nodup.sublist (h1.map Prod.fst) ?_;rw [fst_purgeO];exact hold.nd.filter _
  ·intro o1 h1 o2 h2 e
   subst e;obtain⟨p,hp,rfl⟩:=List.mem_map.1 h1;obtain⟨r,hr,hre⟩:=List.mem_map.1 h2;obtain⟨u,hu,rfl⟩:=List.mem_map.1 hp;obtain⟨ob,k1,k2,k3,k4,_⟩:=hlow r hr;simp only at hre
   by_cases hum:u.1<m.length
   ·apply k4;rw [hre];show renO D m u.1∈m;unfold renO;rw [if_pos hum];exact getD_mem hum
   ·apply k3;rw [hre];show lo≤renO D m u.1∧renO D m u.1<hi
    unfold renO;rw [if_neg hum];have:=(hos u hu).1;omega
 ·intro p hp r hr hpr
  change β2 p.1=β2 r.1 at hpr;rcases List.mem_append.1 hp with hp|hp<;>rcases List.mem_append.1 hr with hr|hr
  ·obtain⟨p',hp',rfl,hb⟩:=hnew p hp
   obtain⟨r',hr',rfl,hb'⟩:=hnew r hr;rw [hb,hb']at hpr;have:=hH.inj p' hp' r' hr' hpr;simp only;rw [this]
  ·obtain⟨p',hp',rfl,hb⟩:=hnew p hp
   obtain⟨ob,k1,k2,k3,k4,k5,k6,k7⟩:=hlow r hr;rw [hb,hβ2 _ k3]at hpr;rcases hnewmine p' hp' with h1|⟨i,hi,h1⟩|⟨u,hu,h1,h2⟩
   ·omega
   ·exact absurd (h1.trans hpr) (k5 i hi)
   ·rcases k6 u hu with g|g
    ·exact absurd g h1
    ·exact absurd (h2.trans hpr) g
  ·obtain⟨r',hr',rfl,hb⟩:=hnew r hr
   obtain⟨ob,k1,k2,k3,k4,k5,k6,k7⟩:=hlow p hp;rw [hb,hβ2 _ k3]at hpr;rcases hnewmine r' hr' with h1|⟨i,hi,h1⟩|⟨u,hu,h1,h2⟩
   ·omega
   ·exact absurd (h1.trans hpr.symm) (k5 i hi)
   ·rcases k6 u hu with g|g
    ·exact absurd g h1
    ·exact absurd (h2.trans hpr.symm) g
  ·obtain⟨ob,k1,k2,k3,_⟩:=hlow p hp
   obtain⟨ob',k1',k2',k3',_⟩:=hlow r hr;rw [hβ2 _ k3,hβ2 _ k3']at hpr;exact hold.inj (p.1,ob) k1 (r.1,ob') k1' hpr
 ·intro t ht
  rcases List.mem_append.1 ht with ht|ht
  ·obtain⟨u,hu,rfl⟩:=List.mem_map.1 ht
   have:=hH.tks u hu;unfold TokRep at this ⊢;simp only [hτnew u (htk u hu)];exact this.imp id fun⟨h1,h2,h3⟩=>⟨h1,hmine _ h2,h3⟩
  ·obtain⟨h1,h2,h3⟩:=htold t ht
   have:=hold.tks t h1;unfold TokRep at this ⊢;simp only [hτ2 t h2];rcases this with g|⟨⟨c,e,fl,fh,hO,hc⟩,h4,h5⟩
   ·exact .inl g
   ·rcases htblock t h1 h3 with g|⟨k1,k2,k3⟩
    ·exact .inl g
    ·obtain⟨g1,_,g2⟩:=hkeep _ k1 k2 k3
     exact .inr ⟨⟨c,e,fl,fh,hO.of_heap g1,hc⟩,h4,fun o ho1 ho2=>g2 o (h5 o ho1 ho2)⟩
 ·intro t ht p hp
  rcases List.mem_append.1 ht with ht|ht<;>rcases List.mem_append.1 hp with hp|hp
  ·obtain⟨u,hu,rfl⟩:=List.mem_map.1 ht
   obtain⟨r,hr,rfl,hb⟩:=hnew p hp;show(τ2 (renT D u)).1≠β2 (renO D m r.1)∨(τ2 (renT D u)).2.1=(τ2 (renT D u)).2.2;rw [hτnew u (htk u hu),hβnew _ (hos r hr).1];exact hH.tko u hu r hr
  ·obtain⟨u,hu,rfl⟩:=List.mem_map.1 ht
   obtain⟨ob,k1,k2,k3,k4,k5,k6,k7⟩:=hlow p hp;show(τ2 (renT D u)).1≠β2 p.1∨(τ2 (renT D u)).2.1=(τ2 (renT D u)).2.2;rw [hτnew u (htk u hu),hβ2 _ k3];rcases htmine u hu with g|g|⟨i,hi,g⟩|⟨v,hv,g1,g2⟩
   ·exact .inr g
   ·left;intro e;omega
   ·left;intro e;exact k5 i hi (g.trans e)
   ·left;intro e
    rcases k6 v hv with k|k
    ·exact g1 k
    ·exact k (g2.trans e)
  ·obtain⟨h1,h2,h3⟩:=htold t ht
   obtain⟨r,hr,rfl,hb⟩:=hnew p hp;show(τ2 t).1≠β2 (renO D m r.1)∨(τ2 t).2.1=(τ2 t).2.2;rw [hτ2 t h2,hβnew _ (hos r hr).1];rcases htblock t h1 h3 with g|⟨k1,k2,k3⟩
   ·exact .inr g
   ·left;intro e
    rcases hnewmine r hr with g|⟨i,hi,g⟩|⟨v,hv,g1,g2⟩
    ·omega
    ·exact k2 i hi (g.trans e.symm)
    ·rcases k3 v hv with k|k
     ·exact g1 k
     ·exact k (g2.trans e.symm)
  ·obtain⟨h1,h2,h3⟩:=htold t ht
   obtain⟨ob,k1,k2,k3,_⟩:=hlow p hp;show(τ2 t).1≠β2 p.1∨(τ2 t).2.1=(τ2 t).2.2;rw [hτ2 t h2,hβ2 _ k3];exact hold.tko t h1 (p.1,ob) k1
 ·intro t ht u hu htu
  show apartR (τ2 t) (τ2 u)∨(τ2 t).2.1=(τ2 t).2.2∨(τ2 u).2.1=(τ2 u).2.2;rcases List.mem_append.1 ht with ht|ht<;>rcases List.mem_append.1 hu with hu|hu
  ·obtain⟨t',ht',rfl⟩:=List.mem_map.1 ht
   obtain⟨u',hu',rfl⟩:=List.mem_map.1 hu;rw [hτnew t' (htk t' ht'),hτnew u' (htk u' hu')];exact hH.tkd t' ht' u' hu' (fun e=>htu (by rw [e]))
  ·obtain⟨t',ht',rfl⟩:=List.mem_map.1 ht
   obtain⟨h1,h2,h3⟩:=htold u hu;rw [hτnew t' (htk t' ht'),hτ2 u h2];rcases htblock u h1 h3 with k|⟨k1,k2,k3⟩
   ·exact .inr (.inr k)
   ·rcases htmine t' ht' with g|g|⟨i,hi,g⟩|⟨v,hv,g1,g2⟩
    ·exact .inr (.inl g)
    ·exact .inl fun e=>by omega
    ·exact .inl fun e=>k2 i hi (g.trans e)
    ·refine .inl fun e=> ?_
     rcases k3 v hv with k|k
     ·exact g1 k
     ·exact k (g2.trans e)
  ·obtain⟨u',hu',rfl⟩:=List.mem_map.1 hu
   obtain⟨h1,h2,h3⟩:=htold t ht;rw [hτnew u' (htk u' hu'),hτ2 t h2];rcases htblock t h1 h3 with k|⟨k1,k2,k3⟩
   ·exact .inr (.inl k)
   ·rcases htmine u' hu' with g|g|⟨i,hi,g⟩|⟨v,hv,g1,g2⟩
    ·exact .inr (.inr g)
    ·exact .inl fun e=>by omega
    ·exact .inl fun e=>k2 i hi (g.trans e.symm)
    ·refine .inl fun e=> ?_
     rcases k3 v hv with k|k
     ·exact g1 k
     ·exact k (g2.trans e.symm)
  ·obtain⟨h1,h2,_⟩:=htold t ht
   obtain⟨h3,h4,_⟩:=htold u hu;rw [hτ2 t h2,hτ2 u h4];exact hold.tkd t h1 u h3 htu
 ·intro b hb
  have hnm:¬(Ctx.took x2 w m.length mt.length).mine b:=fun h=>hb (hmine b h)
  exact(hH.ext b hnm).trans (hold.ext b hb)
end Go.Sy
namespace Go.Sy
variable [LaidData]
variable {P : Program} {C : Ctx} {x : Sit} {a : Act} {w : World} {N : Nat} {c c' : CSt} {s : St}
theorem tok_ren_id (t:Tok):t.ren (fun k=>k)=t:=by cases t<;>rfl
theorem ren_id (sv:SV):sv.ren (fun k=>k) (fun k=>k)=sv:=by
 refine SV.rec (motive_1:=fun sv=>sv.ren (fun k=>k) (fun k=>k)=sv) (motive_2:=fun _=>True) (motive_3:=fun l=>SV.renL (fun k=>k) (fun k=>k) l=l)
  ?_ ?_ ?_ ?_ ?_ ?_ ?_ ?_ ?_ ?_ ?_ ?_ ?_ ?_ ?_ ?_ ?_ ?_ ?_ ?_ sv
 all_goals intros
 all_goals first
  |trivial
  |rfl
  |(simp only [SV.ren,SV.renL,tok_ren_id];done)
  |(simp only [SV.ren,SV.renL, *])
theorem smallR {q:CRes} (h:q.small=true):(∀p∈q.os,p.1<1000∧(∀k∈p.2.ids,k<1000)∧∀k∈p.2.toks,k<1000)∧(∀k∈q.r.ids,k<1000)∧(∀k∈q.r.toks,k<1000)∧∀k∈q.tk,k<1000:=by simp only [CRes.small,Bool.and_eq_true,List.all_eq_true,decide_eq_true_eq]at h;obtain⟨⟨⟨h1,h2⟩,h3⟩,h4⟩:=h;exact⟨fun p hp=>⟨(h1 p hp).1.1,(h1 p hp).1.2,(h1 p hp).2⟩,h2,h3,h4⟩
theorem after_sound {d:Option Nat} {m:List Nat} {mt:List (Option Nat)} {q:CRes} {x2 x':Sit} {w':World} {v:Value} (hM:Models C x s a w) (hS:Sim N c s) (hd:∀k,d=some k→k<N) (h:Took x x2 c m mt)
 (hH:Heap (Ctx.took x2 w m.length mt.length) x' q.os q.tk w') (hr:Rep x' q.r v) (hwf:∀p∈q.os,p.2.wf=true) (hg:∀i,i<m.length→x'.β i=x2.β i) (hm:∀o∈m,inR (d.getD 0) o=false) (hs:q.small=true):
 M C N (afterC c d m (somes mt) q) (a.put d v) w':=by
 obtain⟨s1,s2,s3,s4⟩:=smallR hs;have hE:=hS.exact hM;obtain⟨x3,g1,g2,g3,g4,g5,g6,g7⟩:=took_after hE.heap h hH hm s1 s4 hg
 let c3:CSt:=⟨purgeT ((d.getD 0+1)*1000) ((d.getD 0+2)*1000) c.tm,putsO (dropOs m (purgeO ((d.getD 0+1)*1000) ((d.getD 0+2)*1000) c.ob)) (renOs (d.getD 0) m q.os),
  putsK (dropK (somes mt) (dropT ((d.getD 0+1)*1000) ((d.getD 0+2)*1000) c.tk)) (renKs (d.getD 0) q.tk)⟩
 have hI:Inv N c3:=by
  refine⟨fun p hp=> ?_,so_puts ?_,fun p hp=> ?_⟩
  ·obtain⟨r,hr,e⟩:=mem_purgeT hp
   rw [e];exact hS.inv.dom r hr
  ·exact List.Pairwise.sublist ((fst_dropOs_sub _ _).map Prod.fst) (so_purge hS.inv.so)
  ·rcases mem_putsO hp with e|e
   ·rw [renOs_eq]at e
    obtain⟨r,hr,rfl⟩:=List.mem_map.1 e;exact ren_wf (hwf r hr)
   ·obtain⟨_,ob,h1,h2⟩:=mem_purgeO (mem_dropOs.1 e).1
    rw [h2];exact wf_purge (hS.inv.wf _ h1)
 have hM3:Models C x3 (c3.st N) a w':=by
  refine⟨⟨?_,fun i hi=> ?_⟩,hM.defers,g7.only (fun p hp=> ?_) (so_nodup hI.so) (fun t ht=> ?_)⟩
  ·have:=hE.tm.1;simpa [CSt.st]using this
  ·have hiN:i<N:=by simpa [CSt.st]using hi
   have h1:=hE.tm.2 i (by simpa [CSt.st]using hiN);simp only [CSt.st,List.getD_eq_getElem?_getD,List.getElem?_map,List.getElem?_range hiN,Option.map_some,Option.getD_some]at h1 ⊢;have e:c3.get i=(c.get i).purge ((d.getD 0+1)*1000) ((d.getD 0+2)*1000):=getT_purge _ _ i c.tm;rw [e];exact h1.mono (x':=x3) g2 g5 g6
  ·rcases mem_putsO hp with e|e
   ·exact List.mem_append.2 (.inl e)
   ·exact List.mem_append.2 (.inr e)
  ·rcases mem_putsK.1 ht with e|e
   ·exact List.mem_append.2 (.inl e)
   ·exact List.mem_append.2 (.inr e)
 refine⟨x3,_,hM3.put d (c:=q.r.ren (renO (d.getD 0) m) (renT (d.getD 0))) ?_,(Sim.of hI).put hd _⟩;exact Rep.renF (x:=x') (x2:=x3) (fun b o v hv=>by rw [g1];exact hv) hr (fun k hk=>g3 k (s2 k hk)) (fun t ht=>g4 t (s3 t ht))
theorem fast_sound {call:CallF} {g:Nat} {d:Option Nat} {as:List SV} {vs:List Value} (hM:Models C x s a w) (hS:Sim N c s) (hd:∀k,d=some k→k<N) (hsp:∀as os k q,call g as os k=some q→SpecT P g as os k (· =q))
 (hc:fastC c d (call g (SV.bareL as) [] 0)=some c') (hvs:RepL x as vs):Calls P g ⟨vs⟩ w fun en w'=>∃v,en= .returned v∧M C N c' (a.put d v) w':=by
 cases hq:call g (SV.bareL as) [] 0 with
 |none=>rw [hq]at hc;cases hc
 | some q=>
  rw [hq]at hc
  have hb:RepL x (SV.bareL as) vs:=by rw [bareL_eq];refine⟨by simpa using hvs.1,fun i hi=> ?_⟩;rw [getD_map_undef _ (by rfl)];exact(hvs.2 i (by simpa using hi)).bare rfl rfl
  obtain⟨_,hS'⟩:=hsp _ _ _ _ hq
  by_cases hbare:q.bare=true
  ·simp only [fastC,hbare,fast2,Option.some.injEq]at hc
   subst hc;have hcal:=heap_callee (m:=[]) (os:=[]) (mo:=fun k=>k) (mt:=fun k=>k) hM (fun i hi=>by simp at hi) rfl (by simp) (fun i hi=>by simp at hi);refine(hS' (Ctx.callee x w [] (x.back (fun k=>k) (fun k=>k)).β) x w vs rfl rfl ?_ (by simp) (by simp) hcal hb).mono ?_
   ·rintro b (h|⟨i,hi,_⟩)
    ·exact .inl h
    ·simp at hi
   ·rintro en w' ⟨v,x',q',rfl,hq',hr,hH,hwf,_⟩
    subst hq';simp only [CRes.bare,Bool.and_eq_true,List.isEmpty_iff]at hbare;obtain⟨⟨⟨b1,b2⟩,b3⟩,b4⟩:=hbare
    obtain⟨hG,hA⟩:=heap_after (m:=[]) (os:=[]) (mo:=fun k=>k) (mt:=fun k=>k) (lo:=0) (hi:=0) (β2:=x.β) (τ2:=x.τ) hM rfl (fun i hi=>by simp at hi) hH (fun i hi=>by simp at hi) (fun i hi=>by omega) (fun _ _=>rfl) (fun _ _=>rfl)
     (fun p hp=>by rw [b1]at hp;cases hp) (fun p hp=>by rw [b1]at hp;cases hp) (fun p hp=>by rw [b1]at hp;cases hp) (fun p hp=>by rw [b1]at hp;cases hp) (fun t ht=>by rw [b2]at ht;cases ht)
    have hA':Heap C ⟨x'.G,x.β,x.τ⟩ s.ob s.tk w':=by
     refine hA.only (fun p hp=> ?_) hM.heap.nd (fun t ht=> ?_)
     ·exact List.mem_append.2 (.inr (mem_dropOs.2 ⟨by rw [purgeO00];exact hp,by simp⟩))
     ·exact List.mem_append.2 (.inr (mem_dropT.2 ⟨ht,by omega⟩))
    refine⟨v,rfl,⟨x'.G,x.β,x.τ⟩,_, ?_,hS.put hd q'.r⟩;refine Models.put ⟨RepL.grow (x:=x) (x':=⟨x'.G,x.β,x.τ⟩) hG rfl rfl hM.tm,hM.defers,hA'⟩ d ?_;have:=Rep.renF (x:=x') (x2:=⟨x'.G,x.β,x.τ⟩) (mo:=fun k=>k) (mt:=fun k=>k) (fun _ _ _ h=>h) hr (fun k hk=>by rw [b3]at hk;cases hk) (fun t ht=>by rw [b4]at ht;cases ht);rwa [ren_id]at this
  ·have hbf:q.bare=false:=by simpa using hbare
   simp only [fastC,hbf,fast2]at hc;cases hsm:q.small with
   |false=>rw [hsm]at hc;cases hc
   | true=>
    rw [hsm]at hc;simp only [fast3,Option.some.injEq]at hc;subst hc;have hE:=hS.exact hM;have hT:Took x x c [] []:=⟨rfl,fun i hi=>by simp at hi,fun k hk=>by simp at hk,by simp,fun i hi=>by simp at hi,by simp [somes],fun t ht=>by simp [somes]at ht⟩;refine(hS' (Ctx.took x w 0 0) x w vs rfl rfl ?_ (by simp) (by simp) (took_heap hE.heap hT rfl (fun i hi=>by simp at hi)) hb).mono ?_
    ·rintro b h;exact h
    ·rintro en w' ⟨v,x',q',rfl,hq',hr,hH,hwf,_⟩
     subst hq';exact⟨v,rfl,after_sound hM hS hd hT hH hr hwf (fun i hi=>by simp at hi) (fun o ho=>by simp at ho) hsm⟩
theorem slow_sound {call:CallF} {sg:Sig} {g:Nat} {d:Option Nat} {as:List SV} {vs:List Value} (hM:Models C x s a w) (hS:Sim N c s) (hd:∀k,d=some k→k<N) (hsp:∀as os k q,call g as os k=some q→SpecT P g as os k (· =q))
 (hc:slowC call sg d g (c,as)=some c') (hvs:RepL x as vs):Calls P g ⟨vs⟩ w fun en w'=>∃v,en= .returned v∧M C N c' (a.put d v) w':=by
 simp only [slowC]at hc;generalize hz:tokL c.tk sg.own 50 0 as=z at hc;obtain⟨as2,mt1⟩:=z;simp only [slow0]at hc;generalize reach c 60 [] (SV.idsL as2)=m at hc;cases ho:looks c m with
 |none=>rw [ho]at hc;cases hc
 | some os0=>
  rw [ho]at hc;simp only [slow1]at hc;generalize hz2:tokObs c.tk (50+mt1.length) os0=z2 at hc;obtain⟨os,mt2⟩:=z2;simp only [slow2]at hc;cases hb:(subB (SV.idsL as2++obsIds os) m&&nodupB m&&nodupB (somes (mt1++mt2))&&decide (m.length≤40)&&m.all fun o=> !inR (d.getD 0) o)with
  |false=>rw [hb]at hc;cases hc
  | true=>
   rw [hb]at hc;simp only [slow3]at hc;simp only [Bool.and_eq_true,decide_eq_true_eq,List.all_eq_true,Bool.not_eq_true']at hb;obtain⟨⟨⟨⟨hsub,hmn⟩,htn⟩,hlen⟩,hin⟩:=hb;cases hq:call g (SV.renL (ixOf m) id as2) (renObL (ixOf m) id os) (mt1.length+mt2.length)with
   |none=>rw [hq]at hc;cases hc
   | some q=>
    rw [hq]at hc;simp only [slow4]at hc;cases hsm:q.small with
    |false=>rw [hsm]at hc;cases hc
    | true=>
     rw [hsm]at hc;simp only [slow5,Option.some.injEq]at hc;subst hc;have hE:=hS.exact hM;obtain⟨hol,hog⟩:=looks_of ho
     let τ2:Nat→Nat×Nat×Nat:=fun t=>if 50≤t∧t<50+(mt1++mt2).length then tokAt x ((mt1++mt2).getD (t-50) none)else(0,0,0)
     let x1:Sit:=⟨x.G,x.β,τ2⟩
     let x2:Sit:=⟨x.G,fun i=>x.β (m.getD i 0),τ2⟩
     have hτ:∀y:Sit,y.τ=τ2→Toks x y 50 (mt1++mt2):=by
      intro y hy k hk;rw [hy];show(if _ then _ else _)=_;rw [if_pos ⟨by omega,by omega⟩]
      congr 2;omega
     have hmem:∀i,i<m.length→(m.getD i 0,os0.getD i (.rc []))∈c.ob:=fun i hi=>getO_mem (hog i hi)
     have hsubm:=subB_iff hsub;have hmnd:=nodupB_iff hmn
     have hT:Took x x2 c m (mt1++mt2):=by
      refine⟨rfl,fun _ _=>rfl,hτ x2 rfl,hmnd,fun i hi=>⟨_,hmem i hi⟩,nodupB_iff htn,fun t ht=> ?_⟩;rw [somes_append,List.mem_append]at ht;rcases ht with ht|ht
      ·have:=tokL_in (tk:=c.tk) (own:=sg.own) (cs:=as) (j:=50) (i:=0) t (by rw [hz];exact ht)
       exact this
      ·have:=tokObs_in (tk:=c.tk) (obs:=os0) (j:=50+mt1.length) t (by rw [hz2];exact ht)
       exact this
     have hTx1:=hτ x1 rfl
     have ha1:RepL x1 as2 vs:=by have:=tokL_rep (x:=x) (x1:=x1) rfl rfl (tk:=c.tk) (own:=sg.own) (j:=50) (i:=0) hvs (by rw [hz];exact hTx1.left);rwa [hz]at this
     have hβ:∀o∈m,x2.β (ixOf m o)=x.β o:=fun o ho=>by show x.β (m.getD (ixOf m o) 0)=_;rw [(ixOf_lt ho).2]
     have ha2:RepL x2 (SV.renL (ixOf m) id as2) vs:=by
      rw [renL_eq];refine⟨by simpa using ha1.1,fun i hi=> ?_⟩;have hi':i<as2.length:=by simpa using hi
      rw [getD_map_undef _ (by rfl)];exact Rep.renF (x:=x1) (x2:=x2) (fun _ _ _ h=>h) (ha1.2 i hi') (fun k hk=>hβ k (hsubm k (List.mem_append.2 (.inl (ids_mem hi' k hk))))) (fun t _=>rfl)
     obtain⟨hosl,hosr⟩:=tokObs_rep (x:=x) (x1:=x1) (w:=w) rfl rfl (tk:=c.tk) (obs:=os0) (j:=50+mt1.length) (f:=fun i=>m.getD i 0)
      (fun i hi=>(hE.heap.obs _ (hmem i (by omega))).1) (by rw [hz2];exact hTx1.right)
     rw [hz2]at hosl hosr;simp only at hosl hosr
     have hob2:∀i,i<m.length→ObjRep x2 w i ((renObL (ixOf m) id os).getD i (.rc [])):=by
      intro i hi;have h1:=hosr i (by omega);have hio:i<os.length:=by omega
      have e:(renObL (ixOf m) id os).getD i (.rc [])=(os.getD i (.rc [])).ren (ixOf m) id:=by rw [renObL_eq,List.getD_eq_getElem?_getD,List.getD_eq_getElem?_getD,List.getElem?_map,List.getElem?_eq_getElem hio];rfl
      rw [e];have hm':=getD_mem (m:=m) hi;have hos:os.getD i (.rc [])∈os:=by rw [List.getD_eq_getElem?_getD,List.getElem?_eq_getElem hio];exact List.getElem_mem _
      have h2:=h1.renF (x2:=x2) (mo:=ixOf m) (mt:=id) (fun _ _ _ h=>h) (hβ _ hm') (fun k hk=>hβ k (hsubm k (List.mem_append.2 (.inr (obsIds_mem hos k hk))))) (fun t _=>rfl);have e2:ixOf m (m.getD i 0)=i:=nodup_getD hmnd (ixOf_lt hm').1 hi (ixOf_lt hm').2;rwa [e2]at h2
     have hrl:(renObL (ixOf m) id os).length=m.length:=by rw [renObL_eq,List.length_map];omega
     obtain⟨_,hS'⟩:=hsp _ _ _ _ hq;have hl12:mt1.length+mt2.length=(mt1++mt2).length:=by simp
     rw [hl12]at hS';refine(hS' (Ctx.took x2 w m.length (mt1++mt2).length) x2 w vs rfl rfl ?_ (by omega) ?_ (took_heap hE.heap hT hrl hob2) ha2).mono ?_
     ·rintro b h;rw [hrl];exact h
     ·intro o ho'
      rw [renObL_eq]at ho';obtain⟨r,hr,rfl⟩:=List.mem_map.1 ho';refine ren_wf ?_
      have:=tokObs_wf (tk:=c.tk) (obs:=os0) (j:=50+mt1.length) (fun o h'=>by obtain⟨i,hi,rfl⟩:=List.getElem_of_mem h';have:=hS.inv.wf _ (hmem i (by omega));simpa [List.getD_eq_getElem?_getD,List.getElem?_eq_getElem hi]using this) r (by rw [hz2];exact hr)
      exact this
     ·rintro en w' ⟨v,x',q',rfl,hq',hr,hH,hwf,hg⟩
      subst hq';exact⟨v,rfl,after_sound hM hS hd hT hH hr hwf (fun i hi=>hg i (by omega)) (fun o ho'=>hin o ho') hsm⟩
theorem callC_sound {call:CallF} {sg:Sig} {g:Nat} {d:Option Nat} {as:List SV} {vs:List Value} (hM:Models C x s a w) (hS:Sim N c s) (hd:∀k,d=some k→k<N) (hsp:∀as os k q,call g as os k=some q→SpecT P g as os k (· =q))
 (hc:callC call sg c d g as=some c') (hvs:RepL x as vs):Calls P g ⟨vs⟩ w fun en w'=>∃v,en= .returned v∧M C N c' (a.put d v) w':=by
 unfold callC at hc;generalize ((SV.idsL as).isEmpty&&sg.own.isEmpty)=b at hc;cases b with
 |true=>exact fast_sound hM hS hd hsp hc hvs
 |false=>simp only [callK]at hc;obtain⟨x1,s1,h1,h2,h3⟩:=pubAll_sound (l:=slIds sg.raw 0 as) hM hS hvs;exact slow_sound h1 h2 hd hsp hc h3
end Go.Sy
namespace Go.Sy
variable [LaidData]
variable {P : Program} {C : Ctx} {x : Sit} {a : Act} {w : World} {N : Nat} {c c' : CSt} {s : St} {call : CallF} {sg : Nat → Sig}
def CallOK (P:Program) (call:CallF):Prop:=∀g as os k q,call g as os k=some q→SpecT P g as os k (· =q)
theorem callC_some {sg:Sig} {d:Option Nat} {g:Nat} {as:List SV} (hc:callC call sg c d g as=some c'):∃as' os k q,call g as' os k=some q:=by
 unfold callC at hc;generalize ((SV.idsL as).isEmpty&&sg.own.isEmpty)=b at hc;cases b with
 |true=>
  simp only [callK]at hc;cases hq:call g (SV.bareL as) [] 0 with
  |none=>rw [hq]at hc;cases hc
  |some q=>exact⟨_,_,_,q,hq⟩
 | false=>
  simp only [callK]at hc;generalize pubAll c as (slIds sg.raw 0 as)=z at hc;obtain⟨c1,as1⟩:=z;simp only [slowC]at hc;generalize tokL c1.tk sg.own 50 0 as1=z at hc;obtain⟨as2,mt1⟩:=z;simp only [slow0]at hc;cases ho:looks c1 (reach c1 60 [] (SV.idsL as2))with
  |none=>rw [ho]at hc;cases hc
  | some os0=>
   rw [ho]at hc;simp only [slow1]at hc;generalize tokObs c1.tk (50+mt1.length) os0=z at hc;obtain⟨os,mt2⟩:=z;simp only [slow2]at hc;generalize (subB (SV.idsL as2++obsIds os) (reach c1 60 [] (SV.idsL as2))&&nodupB (reach c1 60 [] (SV.idsL as2))&&nodupB (somes (mt1++mt2))&&decide ((reach c1 60 [] (SV.idsL as2)).length≤40)&&(reach c1 60 [] (SV.idsL as2)).all fun o=> !inR (d.getD 0) o)=b at hc;cases b with
   |false=>cases hc
   |true=>
    simp only [slow3]at hc;cases hq:call g (SV.renL (ixOf (reach c1 60 [] (SV.idsL as2))) id as2) (renObL (ixOf (reach c1 60 [] (SV.idsL as2))) id os) (mt1.length+mt2.length)with
    |none=>rw [hq]at hc;cases hc
    |some q=>exact⟨_,_,_,q,hq⟩
theorem Heap.freeze {ob:List (Nat×SObj)} {tk:List Nat} (h:Heap C x ob tk w) {b:Nat} (hb:C.mine b) (ho:∀p∈ob,x.β p.1≠b) (ht:∀t∈tk,(x.τ t).1≠b∨(x.τ t).2.1=(x.τ t).2.2) (off n:Nat):
 Heap C x ob tk (w.freeze ⟨b,off,none⟩ n):=by
 have hne:∀b',b'≠b→(w.freeze ⟨b,off,none⟩ n).heap[b']? =w.heap[b']? :=by
  intro b' h';unfold World.freeze;split
  ·rfl
  ·simp only [Array.getElem?_modify,if_neg (Ne.symm h')]
 have hcell:∀b' i,(w.freeze ⟨b,off,none⟩ n).cell? ⟨b',i,none⟩=w.cell? ⟨b',i,none⟩:=by
  intro b' i
  by_cases h':b'=b
  ·subst h'
   unfold World.freeze;split
   ·rfl
   ·simp only [World.cell?,Array.getElem?_modify,if_true]
    cases hw:w.heap[b']? with
    |none=>rfl
    |some q=>cases q<;>rfl
  ·exact cell_of_heap (hne b' h')
 have hsz:(w.freeze ⟨b,off,none⟩ n).heap.size=w.heap.size:=by unfold World.freeze;split<;>simp
 have hos:(w.freeze ⟨b,off,none⟩ n).os=w.os∧(w.freeze ⟨b,off,none⟩ n).tape=w.tape∧(w.freeze ⟨b,off,none⟩ n).output=w.output:=by unfold World.freeze;split<;>exact⟨rfl,rfl,rfl⟩
 refine⟨fun b' i v hv=>by rw [hcell];exact h.per b' i v hv,h.g0,h.gm,h.new,fun p hp=> ?_,h.nd,h.inj,fun t ht'=> ?_,h.tko,h.tkd,hos.1.trans h.os,hos.2.1.trans h.tape,hos.2.2.trans h.output,by rw [hsz];exact h.size,fun b' hb'=> ?_,h.pin,h.lay⟩
 ·obtain⟨⟨cc,e,fl,fh,hO,r⟩,q⟩:=h.obs p hp
  exact⟨⟨cc,e,fl,fh,hO.of_heap (hne _ (ho p hp)),r⟩,q⟩
 ·rcases h.tks t ht' with h1|⟨⟨cc,e,fl,fh,hO,h2⟩,h3⟩
  ·exact .inl h1
  ·rcases ht t ht' with h4|h4
   ·exact .inr ⟨⟨cc,e,fl,fh,hO.of_heap (hne _ h4),h2⟩,h3⟩
   ·exact .inl h4
 ·rw [hne b' (fun e=>hb' (e ▸ hb))];exact h.ext b' hb'
theorem slid_op {o:Oper} {q:Arg} (hr:res1 P o=some (.slid q)):∃src X e,o.op= .convert src src X∧P.underlying src=some (.slice e)∧isU8 P e=true∧resArg P src X=some q:=by
 cases ho:o.op with
 | convert src dst X=>
  simp only [res1,ho]at hr;split at hr<;>try (cases hr;done)
  ·split at hr<;>cases hr
  ·split at hr<;>cases hr
  ·rename_i e q' hs hd hX
   split at hr<;>try (cases hr;done)
   rename_i hc;simp only [Bool.and_eq_true,decide_eq_true_eq]at hc;obtain⟨rfl,h8⟩:=hc;cases hr;exact⟨src,X,e,rfl,hd,h8,hX⟩
 | _=>exfalso;exact absurd hr (by
  intro hr;simp only [res1,ho]at hr
  first
   |(cases hr;done)
   |(obtain⟨_,_,h⟩:=Option.map_eq_some_iff.1 hr;cases h;done)
   |(repeat' split at hr)<;>first|(cases hr;done)|contradiction|(obtain⟨_,_,h⟩:=Option.map_eq_some_iff.1 hr;first|(cases h;done)|(split at h<;>cases h;done)))
theorem res1_new {o:Oper} {xs:List Arg} (hr:res1 P o=some (.newB xs)):False:=by
 cases ho:o.op with
 |buildSlice t len parts=>
  simp only [res1,ho]at hr;split at hr<;>try (cases hr;done)
  split at hr<;>try (cases hr;done)
  split at hr<;>try (cases hr;done)
  obtain⟨_,_,h⟩:=Option.map_eq_some_iff.1 hr;split at h<;>cases h
 | _=>
  simp only [res1,ho]at hr
  first
   |(cases hr;done)
   |(obtain⟨_,_,h⟩:=Option.map_eq_some_iff.1 hr;cases h;done)
   |(repeat' split at hr)<;>first|(cases hr;done)|contradiction|(obtain⟨_,_,h⟩:=Option.map_eq_some_iff.1 hr;first|(cases h;done)|(split at h<;>cases h;done))
theorem slid_sound {o:Oper} {q:Arg} (h:M C N c a w) (hr:res1 P o=some (.slid q)) (hd:∀k,o.dst=some k→k<N) (hc:slidC c o.dst (c.ev q)=some c') {K:Act→World→Prop} {Q:Exit→Act→World→Prop} (hK:∀a w,M C N c' a w→K a w):o.wp P a w K Q:=by
 obtain⟨x,s,hM,hS⟩:=h;unfold slidC at hc;split at hc<;>try (cases hc;done)
 rename_i o' off n cap hq;unfold slid2 at hc;split at hc<;>try (cases hc;done)
 rename_i l hl;split at hc<;>try (cases hc;done)
 rename_i hcond;obtain⟨hb,rfl⟩:=hcond;cases hc;obtain⟨src,X,e,ho,hu,h8,hX⟩:=slid_op hr;have hv:=resArg_rep hM hX;rw [hS.ev,hq]at hv;obtain⟨cp,hnc,hcp,off',hval,hoff⟩:=hv.psl_inv;have hls:s.look o'=some (.bar l):=(hS.look o').trans hl;obtain⟨cc,e',fl,fh,hO,hsz,_⟩:=look_obj hM hls;have hob:=hM.heap.obs _ (look_mem hls);obtain⟨x',⟨hβ,hτ⟩,hp,s',hM',hS'⟩:=pub_sound2 hl (fun cs e=>by cases e) hM hS
 have hval':Rep x' (.byt ((l.drop off).take n) .clip) (a.eval X):=by have:=hp _ _ hv;simpa only [SV.pub,if_true,pubSl,true_and,if_pos hb]using this
 have h1:∀p∈s'.ob,x'.β p.1≠x.β o':=by intro p hp' e;rw [hβ]at e;have h2:s'.look p.1=some p.2:=mem_lookup hM'.heap.nd hp';rw [hS'.look]at h2;obtain⟨h3,q',h4,_⟩:=mem_pubO (getO_mem h2);have h5:=mem_getO (so_nodup hS.inv.so) h4;exact h3 (hM.heap.inj (p.1,q') (look_mem ((hS.look p.1).trans h5)) _ (look_mem hls) e)
 have h2:∀t∈s'.tk,(x'.τ t).1≠x.β o'∨(x'.τ t).2.1=(x'.τ t).2.2:=by intro t ht;rw [hτ];exact hM.heap.tko t ((hS.tk t).2 ((hS'.tk t).1 ht)) _ (look_mem hls)
 have hfr:Models C x' s' a (w.freeze ⟨x.β o',cc.size,none⟩ 1):=⟨hM'.tm,hM'.defers,hM'.heap.freeze hob.2.1 h1 h2 _ _⟩
 have hrun:(execOp a.eval o).run P w= .ok (.value (a.eval X)) (w.freeze ⟨x.β o',cc.size,none⟩ 1):=by have hm:(markStringish ⟨x.β o',off',none⟩).run P w= .ok () (w.freeze ⟨x.β o',cc.size,none⟩ 1):=run_markStringish (e:=e') (by simp only [World.shape?,hO.1]);simp only [execOp,ho,hval,convert,Sem.run_bind,run_underlying hu,Result.andThen_ok,beq_self_eq_true,run_underlying (isU8_inv h8),hm,Sem.run_pure]
 refine wp_of_done ⟨a.eval X,_,x',_,hrun,.inl rfl,hfr.put o.dst hval'⟩ (k:=Sim N _) ?_ hK;have e1:(c.publish o' []).1=⟨pubT o' (.bar l) c.tm,pubO o' (.bar l) c.ob,c.tk⟩:=by unfold CSt.publish;rw [hl]
 rw [e1];exact hS'.put hd _
theorem newB_sound {o:Oper} {xs:List Arg} (h:M C N c a w) (hr:res1 P o=some (.litB xs)) (hd:∀k,o.dst=some k→k<N) (hc:newBC c o.dst (toB (evL c xs))=some c') {K:Act→World→Prop} {Q:Exit→Act→World→Prop} (hK:∀a w,M C N c' a w→K a w):o.wp P a w K Q:=by
 obtain⟨x,s,hM,hS⟩:=h;rw [hS.evL]at hc;unfold newBC at hc;split at hc<;>try (cases hc;done)
 rename_i k l hk hl;cases hc;obtain⟨t,len,parts,ho⟩:=litB_op hr;obtain⟨r,e,hrun,hsz,hcell⟩:=run_buildB hM ho hr hl
 have hM':=hM.newObj (d:=k+100) o.dst (by omega) (.bar l) (val:= .psl (k+100) 1 0 l.length (some l.length)) (u:= .slice (some ⟨w.heap.size,0,none⟩) l.length l.length) (t:=e) hsz (fun i hi=>by
  show RepD x.G (.u8 (l.getD i 0)) _;rw [hcell i hi];exact .u8 _) (by
  have:=Rep.psl (x:=x.newO (k+100) w.heap.size) (k+100) 1 0 l.length (some l.length) 0 l.length (.inr rfl) (Nat.le_refl _) (fun _ e=>by cases e;rfl);rwa [newO_d]at this)
 refine wp_of_done ⟨_,_,_,_,hrun,.inl rfl,hM'⟩ (k:=Sim N _) ?_ hK;have:=hS.app hd (e:= {val:= .psl (k+100) 1 0 l.length (some l.length),new:=some (.bar l)}) (f:= {pre:=True,val:= .psl (k+100) 1 0 l.length (some l.length),new:=some (.bar l)}) ⟨rfl,rfl,rfl,rfl,rfl⟩ ⟨fun ob he=>by cases he;rfl,.inl rfl⟩;rw [hk]at this ⊢;exact this
theorem opC_sound (hcal:CallOK P call) {o:Oper} {so:SOp} (h:M C N c a w) (hr0:ResOf P o so) (hd:∀k,o.dst=some k→k<N) (hc:opC call sg c o.dst so=some c') {K:Act→World→Prop} {Q:Exit→Act→World→Prop} (hK:∀a w,M C N c' a w→K a w):o.wp P a w K Q:=by
 by_cases hnb:∃xs,so= .newB xs
 ·obtain⟨xs,rfl⟩:=hnb
  rcases hr0 with hr|⟨ys,e,hr⟩
  ·exact(res1_new hr).elim
  ·cases e
   exact newB_sound h hr hd hc hK
 have hr:=hr0.old fun xs e=>hnb ⟨xs,e⟩
 by_cases hsl:∃q,so= .slid q
 ·obtain⟨q,rfl⟩:=hsl
  exact slid_sound h hr hd hc hK
 by_cases hcl:∃f as,so= .call f as
 ·obtain⟨f,as,rfl⟩:=hcl
  simp only [opC]at hc;split at hc<;>try (cases hc;done)
  rename_i g c1 c2 hg;obtain⟨x,s,hM,hS⟩:=h;obtain⟨cl,F,ho,hb,h1,h2,h3⟩:=call_inv hr;obtain⟨as',os',k',q',hq'⟩:=callC_some hc;have hcb:callableB P g=true:=(hcal _ _ _ _ _ hq').1;obtain⟨vs,hrun,hvs⟩:=exec_call hM ho hb h1 h2 h3 (by rw [hS.ev];exact hg) hcb;rw [←hS.evL]at hvs;exact wp_of_given hrun (callC_sound hM hS hd (hcal g) hc hvs) hK
 ·refine op_wp h hr hd ?_ hK
  cases so with
  |call f as=>exact absurd ⟨f,as,rfl⟩ hcl
  |newB xs=>exact absurd ⟨xs,rfl⟩ hnb
  |slid q=>exact absurd ⟨q,rfl⟩ hsl
  |_=>exact hc
theorem get_tmps (hM:Models C x s a w) (hS:Sim N c s) {g:Nat} {t:Bool} (h:c.get g= .bool t):a.tmps[g]? =some (.bool t):=(get_bool hM (by rw [hS.get];exact h)).2.1
theorem wanted_skip {ops:Array Oper} {o:Oper} {j g:Nat} {b:Bool} (h:o.guard=some (j,b)) (hg:(ops[j]?).bind (·.dst)=some g) (ht:∀t,a.tmps[g]? ≠some (.bool t)):Region.wanted o (yielded ops a.tmps)=false:=by
 have hy:yielded ops a.tmps j=none:=by
  unfold yielded;rw [hg,Option.bind_some];cases hv:a.tmps[g]? with
  |none=>rfl
  |some v=>
   cases v with
   |bool t=>exact absurd hv (ht t)
   |_=>rfl
 simp only [Region.wanted,h,hy];rfl
theorem rep_skip {x:Sit}:Rep x (.tup []) Go.undef:= .tup [] [] rfl fun i hi=>by simp at hi
theorem get_skip (hM:Models C x s a w) (hS:Sim N c s) {g:Nat} (h:c.get g= .tup []):∀t,a.tmps[g]? ≠some (.bool t):=by
 intro t ht;have h1:=hM.slot g;rw [hS.get,h]at h1
 have h2:a.tmps.getD g Go.undef= .bool t:=by rw [Array.getD_eq_getD_getElem?,ht];rfl
 replace h1:Rep x (.tup []) (a.tmps.getD g Go.undef):=h1;rw [h2]at h1;cases h1 with
 |dat _ _ h _=>cases h
theorem s2b_op {o:Oper} {q:Arg} (hr:res1 P o=some (.s2b q)):∃src dst X e,o.op= .convert src dst X∧P.underlying src=some .string∧P.underlying dst=some (.slice e)∧isU8 P e=true∧resArg P src X=some q:=by
 cases ho:o.op with
 | convert src dst X=>
  simp only [res1,ho]at hr;split at hr<;>try (cases hr;done)
  ·split at hr<;>cases hr
  ·rename_i e q' hs hd hX
   split at hr<;>try (cases hr;done)
   rename_i h8;cases hr;exact⟨src,dst,X,e,rfl,hs,hd,h8,hX⟩
  ·split at hr<;>cases hr
 | _=>exfalso;exact absurd hr (by
  intro hr;simp only [res1,ho]at hr
  first
   |(cases hr;done)
   |(obtain⟨_,_,h⟩:=Option.map_eq_some_iff.1 hr;cases h;done)
   |(repeat' split at hr)<;>first|(cases hr;done)|contradiction|(obtain⟨_,_,h⟩:=Option.map_eq_some_iff.1 hr;first|(cases h;done)|(split at h<;>cases h;done)))
theorem app_op {o:Oper} {z:List SV} {b:Nat} {q r:Arg} (hr:res1 P o=some (.app z b q r)):∃cl,o.op= .call cl∧cl.callee= .builtin .append:=by
 cases ho:o.op with
 | call cl=>
  refine⟨cl,rfl, ?_⟩;cases hb:cl.callee with
  | builtin bb=>
   cases bb with
   |append=>rfl
   | _=>
    exfalso;simp only [res1,ho,hb]at hr
    first
     |(cases hr;done)
     |(repeat' split at hr)<;>first|(cases hr;done)|contradiction
  | _=>
   exfalso;simp only [res1,ho,hb]at hr
   first
    |(cases hr;done)
    |(repeat' split at hr)<;>first|(cases hr;done)|contradiction
 | _=>exfalso;exact absurd hr (by
  intro hr;simp only [res1,ho]at hr
  first
   |(cases hr;done)
   |(obtain⟨_,_,h⟩:=Option.map_eq_some_iff.1 hr;cases h;done)
   |(repeat' split at hr)<;>first|(cases hr;done)|contradiction|(obtain⟨_,_,h⟩:=Option.map_eq_some_iff.1 hr;first|(cases h;done)|(split at h<;>cases h;done)))
theorem Models.newObjF (hM:Models C x s a w) {d:Nat} (sl:Option Nat) (hd100:100≤d) {cv:Array Value} {t:TypeId} {fl fh:Nat} (obj:SObj) {val:SV} {u:Value} (hf:∀i,i<cv.size→¬(fl≤i∧i<fh)) (hs:obj.size≤cv.size) (hr:∀k,k<obj.size→cellRep x obj k (cv.getD k Go.undef))
 (hv:Rep (x.newO d w.heap.size) val u) {w':World} (hw:w'.heap=(w.alloc (.cells cv t (fl,fh))).heap) (h1:w'.os=w.os) (h2:w'.tape=w.tape) (h3:w'.output=w.output):
 Models C (x.newO d w.heap.size) (((s.purge d (d+1)).addO d (obj.purge d (d+1))).put sl val) (a.put sl u) w':=by
 refine Models.put ⟨?_,hM.defers, ?_⟩ sl hv
 ·exact RepL.mono (x:=x) (x':=x.newO d w.heap.size) (lo:=d) (hi:=d+1) (fun _ _ _ h=>h) (Sit.newO_ne x d _) (fun _ _=>rfl) hM.tm
 ·exact Heap.congr (w:=w.alloc (.cells cv t (fl,fh))) (hM.heap.allocO d hd100 obj hf hs hr) hw h1 h2 h3
theorem Models.drew (hM:Models C x s a w):Models C x s a w.drew:=⟨hM.tm,hM.defers,hM.heap.drew⟩
theorem own1_sound {o:Oper} {q:Arg} (h:M C N c a w) (hr:res1 P o=some (.s2b q)) (hd:∀k,o.dst=some k→k<N) (hc:own1 c o.dst (c.ev q)=some c') {K:Act→World→Prop} {Q:Exit→Act→World→Prop} (hK:∀a w,M C N c' a w→K a w):o.wp P a w K Q:=by
 obtain⟨x,s,hM,hS⟩:=h;unfold own1 at hc;split at hc<;>try (cases hc;done)
 rename_i k l hk hl;cases hc;obtain⟨src,dst,X,e,ho,hs,hdd,h8,hX⟩:=s2b_op hr;have he:=isU8_inv h8;have h1:=resArg_rep hM hX;rw [hS.ev,hl]at h1;have hf:(Question.appendCap (ByteArray.mk ⟨l⟩).size 0 e).forced=false:=rfl
 obtain⟨cp,hcp,hge⟩:∃cp,(Question.appendCap (ByteArray.mk ⟨l⟩).size 0 e).cut (w.tape w.drawn (Question.appendCap (ByteArray.mk ⟨l⟩).size 0 e))=cp∧l.length≤cp:=by
  refine⟨_,rfl, ?_⟩;simp only [Question.cut];have:(ByteArray.mk ⟨l⟩).size=l.length:=by simp [ByteArray.size]
  omega
 let cs:Array Value:=(ByteArray.mk ⟨l⟩).data.map (fun b=> .int .u8 b.toNat)++Array.replicate (cp-(ByteArray.mk ⟨l⟩).size) (.int .u8 0)
 have hsz:(ByteArray.mk ⟨l⟩).size=l.length:=by simp [ByteArray.size]
 have hcs:cs.size=cp:=by simp [cs,hsz];omega
 have hget:∀i,i<l.length→cs[i]? =some (.int .u8 (l.getD i 0).toNat):=by intro i hi;simp only [cs];rw [Array.getElem?_append_left (by simpa using hi)];simp [hi,List.getD_eq_getElem?_getD]
 have hrun:(execOp a.eval o).run P w= .ok (.value (.slice (some ⟨w.heap.size,0,none⟩) l.length cp)) ((w.drew.alloc (.cells cs e (0,0))).freeze ⟨w.heap.size,cs.size,none⟩ 1):=by simp only [execOp,ho,h1.str_inv,convert,Sem.run_bind,run_underlying hs,run_underlying hdd,Result.andThen_ok,run_underlying he,Conv.stringToBytes,run_choose_drew,hf,Bool.false_eq_true,if_false,hcp,newRow,run_newObj_alloc,Sem.run_pure];rw [run_markStringish (e:=e) (n:=cs.size) (by simp only [World.shape?];rw [heap_alloc_new])];simp only [Result.andThen_ok,hsz];rfl
 have hM':=hM.drew.newObjF (d:=k+100) o.dst (by omega) (.bar l) (cv:=cs) (t:=e) (fl:=cs.size) (fh:=cs.size+1) (val:= .psl (k+100) 1 0 l.length none) (u:= .slice (some ⟨w.heap.size,0,none⟩) l.length cp) (fun i hi h=>by omega) (by simp only [SObj.size];omega) (fun i hi=>by
  simp only [SObj.size]at hi;show RepD x.G (.u8 (l.getD i 0)) _;have:cs.getD i Go.undef= .int .u8 (l.getD i 0).toNat:=by rw [Array.getD_eq_getD_getElem?,hget i hi];rfl
  rw [this];exact .u8 _) (by
  have:=Rep.psl (x:=x.newO (k+100) w.drew.heap.size) (k+100) 1 0 l.length none 0 cp (.inr rfl) hge (fun _ e=>by cases e);rw [newO_d]at this;exact this) (heap_freeze_new w.drew cs e) rfl rfl rfl
 refine wp_of_done ⟨_,_,_,_,hrun,.inl rfl,hM'⟩ (k:=Sim N _) ?_ hK;have:=hS.app hd (e:= {val:= .psl (k+100) 1 0 l.length none,new:=some (.bar l)}) (f:= {pre:=True,val:= .psl (k+100) 1 0 l.length none,new:=some (.bar l)}) ⟨rfl,rfl,rfl,rfl,rfl⟩ ⟨fun ob he=>by cases he;rfl,.inl rfl⟩;rw [hk]at this ⊢;exact this
theorem tks1_sound {o:Oper} {q:Arg} (h:M C N c a w) (hr:res1 P o=some (.s2b q)) (hd:∀k,o.dst=some k→k<N) (hc:tks1 c o.dst (c.ev q)=some c') {K:Act→World→Prop} {Q:Exit→Act→World→Prop} (hK:∀a w,M C N c' a w→K a w):o.wp P a w K Q:=by
 obtain⟨x,s,hM,hS⟩:=h;unfold tks1 at hc;split at hc<;>try (cases hc;done)
 rename_i k l hk hl;cases hc;obtain⟨src,dst,X,e,ho,hs,hdd,h8,hX⟩:=s2b_op hr;have he:=isU8_inv h8;have h1:=resArg_rep hM hX;rw [hS.ev,hl]at h1;have hf:(Question.appendCap (ByteArray.mk ⟨l⟩).size 0 e).forced=false:=rfl
 obtain⟨cp,hcp,hge⟩:∃cp,(Question.appendCap (ByteArray.mk ⟨l⟩).size 0 e).cut (w.tape w.drawn (Question.appendCap (ByteArray.mk ⟨l⟩).size 0 e))=cp∧l.length≤cp:=by
  refine⟨_,rfl, ?_⟩;simp only [Question.cut];have:(ByteArray.mk ⟨l⟩).size=l.length:=by simp [ByteArray.size]
  omega
 let cs:Array Value:=(ByteArray.mk ⟨l⟩).data.map (fun b=> .int .u8 b.toNat)++Array.replicate (cp-(ByteArray.mk ⟨l⟩).size) (.int .u8 0)
 have hsz:(ByteArray.mk ⟨l⟩).size=l.length:=by simp [ByteArray.size]
 have hcs:cs.size=cp:=by simp [cs,hsz];omega
 have hget:∀i,i<l.length→cs[i]? =some (.int .u8 (l.getD i 0).toNat):=by intro i hi;simp only [cs];rw [Array.getElem?_append_left (by simpa using hi)];simp [hi,List.getD_eq_getElem?_getD]
 have hrun:(execOp a.eval o).run P w= .ok (.value (.slice (some ⟨w.heap.size,0,none⟩) l.length cp)) ((w.drew.alloc (.cells cs e (0,0))).freeze ⟨w.heap.size,cs.size,none⟩ 1):=by simp only [execOp,ho,h1.str_inv,convert,Sem.run_bind,run_underlying hs,run_underlying hdd,Result.andThen_ok,run_underlying he,Conv.stringToBytes,run_choose_drew,hf,Bool.false_eq_true,if_false,hcp,newRow,run_newObj_alloc,Sem.run_pure];rw [run_markStringish (e:=e) (n:=cs.size) (by simp only [World.shape?];rw [heap_alloc_new])];simp only [Result.andThen_ok,hsz];rfl
 have hG:∀o,x.G w.heap.size o=none:=by
  intro o;cases hg:x.G w.heap.size o with
  |none=>rfl
  |some v=>exact absurd (hM.heap.ltG hg) (by omega)
 have hle:=hM.heap.newD_le cs l.length;have hH:Heap C (x.newD w.heap.size cs l.length) s.ob s.tk (w.drew.alloc (.cells cs e (cs.size,cs.size+1))):=hM.heap.drew.allocD l.length;have hown:Owned (w.drew.alloc (.cells cs e (cs.size,cs.size+1))) w.heap.size cs e cs.size (cs.size+1):=⟨heap_alloc_new (w:=w.drew),fun i _ h=>by omega⟩
 have hH2:Heap C ((x.newD w.heap.size cs l.length).newT (k+100) w.heap.size l.length cp) (purgeO (k+100) (k+100+1) s.ob) ((k+100)::dropT (k+100) (k+100+1) s.tk) (w.drew.alloc (.cells cs e (cs.size,cs.size+1))):=by
  refine hH.addT (k+100) w.heap.size _ _ (.inr ⟨⟨cs,e,_,_,hown,by omega⟩,hM.heap.new _ hM.heap.size,fun o h1 h2=> ?_⟩) (.inr fun p hp _=> ?_) (.inr fun u hu _=> ?_)
  ·simp only [Sit.newD];rw [if_neg (by omega)];exact hG o
  ·obtain⟨⟨c2,e2,fl2,fh2,hO2,_⟩,_⟩:=hM.heap.obs p hp
   have:=hO2.lt;show w.heap.size≠x.β p.1;omega
  ·rcases hM.heap.tks u hu with h|⟨⟨c2,e2,fl2,fh2,hO2,_⟩,_⟩
   ·exact .inr h
   ·have:=hO2.lt
    exact .inl (by show w.heap.size≠(x.τ u).1;omega)
 have hM':Models C ((x.newD w.heap.size cs l.length).newT (k+100) w.heap.size l.length cp) ((s.grew .no (k+100)).put o.dst (.byt l (.id (k+100)))) (a.put o.dst (.slice (some ⟨w.heap.size,0,none⟩) l.length cp)) ((w.drew.alloc (.cells cs e (0,0))).freeze ⟨w.heap.size,cs.size,none⟩ 1):=by
  refine Models.put ⟨?_,hM.defers, ?_⟩ o.dst ?_
  ·exact RepL.mono (x:=x) (x':=(x.newD w.heap.size cs l.length).newT (k+100) w.heap.size l.length cp) (lo:=k+100) (hi:=k+100+1) hle (fun _ _=>rfl) (Sit.newT_ne (x.newD w.heap.size cs l.length) (k+100) _ _ _) hM.tm
  ·exact Heap.congr (w:=w.drew.alloc (.cells cs e (cs.size,cs.size+1))) hH2 (heap_freeze_new w.drew cs e) rfl rfl rfl
  ·refine .dat _ _ (.byt l _ w.heap.size 0 cp l.length rfl hge fun i hi=> ?_) ⟨_,l.length,cp,rfl,.inr ⟨w.heap.size,0,rfl, ?_⟩⟩
   ·show(x.newD w.heap.size cs l.length).G w.heap.size (0+i)=_
    simp only [Sit.newD];rw [if_pos ⟨trivial,by omega⟩,Nat.zero_add];exact hget i hi
   ·rw [Sit.newT_eq,Nat.mul_one,Nat.mul_one,Nat.zero_add,Nat.zero_add]
 refine wp_of_done ⟨_,_,_,_,hrun,.inl rfl,hM'⟩ (k:=Sim N _) ?_ hK;have:=hS.app hd (e:= {val:= .byt l (.id (k+100)),tok:=true}) (f:= {pre:=True,val:= .byt l (.id (k+100)),tok:=true}) ⟨rfl,rfl,rfl,rfl,rfl⟩ ⟨fun ob he=>(by cases he),.inl rfl⟩;rw [hk]at this ⊢;exact this
theorem app_fresh (hM:Models C x s a w) {t u el:TypeId} {d2:TypeDesc} {n by_:Nat} {zs:List Value} (hd:P.underlying t=some (.slice el)) (hu:P.underlying u=some d2) (hu2:(∃e',d2= .slice e')∨d2= .string) (hn:szOf P el=some n) (hb:byOf P el=some by_)
 (hz:zcells P el=some zs) (hb0:by_≠0) (hzl:zs.length=n) {ty:TypeId} {X Y:Value} {fl fl':List SV} {ns:List Value} {len m cap:Nat} (hX:Flat x.G n fl X len cap)
 (hlen:∀w',w'.heap=w.heap→(Builtin.lenOf Y).run P w'= .ok m w') (hcells:∀w',w'.heap=w.heap→(Builtin.firstCells n m Y).run P w'= .ok ns.toArray w') (hnl:ns.length=m*n) (hnew:New x ns fl') (hroom:(len+m)*by_≤140737488355328) (hc:¬len+m≤cap):
 ∃nc cv,len+m≤nc∧(Builtin.append_ #[t,u] ty #[X,Y]).run P w= .ok (.slice (some ⟨w.heap.size,0,none⟩) (len+m) nc) (w.drew.alloc (.cells cv el (0,0)))∧(fl++fl').length≤cv.size∧∀k,k<(fl++fl').length→RepD x.G ((fl++fl').getD k .undef) (cv.getD k Go.undef):=by
 obtain⟨hfl,hlc,hX'⟩:=hX;obtain⟨z,hzc,hzr⟩:=zeroValue_run hz
 obtain⟨i,hi,hib⟩:∃i,P.info? el=some i∧i.bytes=by_:=by
  unfold byOf at hb;cases hi:P.info? el with
  |none=>simp [hi]at hb
  |some i=>simp [hi]at hb;exact⟨i,rfl,hb⟩
 obtain⟨bs,hXe⟩:∃bs,X= .slice bs len cap:=by
  rcases hX' with⟨b,off,rfl,_⟩|⟨rfl,rfl,rfl⟩
  ·exact⟨_,rfl⟩
  ·exact⟨_,rfl⟩
 subst hXe;have hfl':fl'.length=m*n:=by rw [hnew.len,hnl]
 obtain⟨os,hos,hosl,hosv⟩:∃os:List Value,(∀w',w'.heap=w.heap→(Builtin.firstCells n len (.slice bs len cap)).run P w'= .ok os.toArray w')∧os.length=fl.length∧∀k,k<fl.length→RepD x.G (fl.getD k .undef) (os.getD k Go.undef):=by
  rcases hX' with⟨b,off,he,hr⟩|⟨he,h1,h2⟩
  ·simp only [Value.slice.injEq]at he
   obtain⟨rfl,_⟩:=he;refine⟨(List.range (len*n)).map fun k=>(w.cell? ⟨b,off+k,none⟩).getD Go.undef,fun w' hw'=> ?_,by simp [hfl],fun k hk=> ?_⟩
   ·simp only [Builtin.firstCells]
    refine run_loadCells w' _ _ _ fun j hj=> ?_
    rw [addr_add,cell_of_heap (w:=w) (by rw [hw'])];obtain⟨v,hv,_⟩:=hr j (by omega);rw [hM.heap.per _ _ _ hv];rfl
   ·obtain⟨v,hv,hrv⟩:=hr k hk
    have:((List.range (len*n)).map fun k=>(w.cell? ⟨b,off+k,none⟩).getD Go.undef).getD k Go.undef=v:=by rw [List.getD_eq_getElem?_getD];simp [show k<len*n from by omega,hM.heap.per _ _ _ hv]
    rw [this];exact hrv
  ·simp only [Value.slice.injEq]at he
   obtain⟨rfl,_⟩:=he;have:fl=[]:=List.length_eq_zero_iff.1 (by rw [←hfl,h1,Nat.zero_mul]);subst this;exact⟨[],fun w' _=>rfl,rfl,fun k hk=>by simp at hk⟩
 obtain⟨nc,hnc,hrun⟩:=run_app_out (t:=t) (u:=u) (ty:=ty) (Y:=Y) hd hu hu2 hn hi hib hb0 hzr hlen hcells hos hc hroom;refine⟨nc,_,hnc,hrun, ?_,fun k hk=> ?_⟩
 ·simp only [List.length_append,Array.size_append,List.size_toArray,hosl,←hnew.len];omega
 ·have hkl:k<os.length+ns.length:=by rw [hosl,←hnew.len,←List.length_append];exact hk
  rw [Array.getD_eq_getD_getElem?,append_get3 os ns _ k hkl]
  by_cases hk1:k<fl.length
  ·have e1:(fl++fl').getD k .undef=fl.getD k .undef:=by simp only [List.getD_eq_getElem?_getD,List.getElem?_append_left hk1]
   have e2:((os++ns)[k]?).getD Go.undef=os.getD k Go.undef:=by simp only [List.getD_eq_getElem?_getD,List.getElem?_append_left (show k<os.length by omega)]
   rw [e1,e2];exact hosv k hk1
  ·have e1:(fl++fl').getD k .undef=fl'.getD (k-fl.length) .undef:=by simp only [List.getD_eq_getElem?_getD,List.getElem?_append_right (Nat.le_of_not_lt hk1)]
   have e2:((os++ns)[k]?).getD Go.undef=ns.getD (k-fl.length) Go.undef:=by simp only [List.getD_eq_getElem?_getD,List.getElem?_append_right (show os.length≤k by omega),hosl]
   rw [e1,e2];exact hnew.rep _ (by rw [List.length_append]at hk;omega)
theorem flat_clip {n:Nat} {fl:List SV} {X:Value} {len cap:Nat} (hX:Flat x.G n fl X len cap) (hsp:spareOK x n .clip X):cap=len:=by
 obtain⟨a,k,he⟩:=hsp;obtain⟨_,_,hX'⟩:=hX;rcases hX' with⟨b,off,h,_⟩|⟨h,h1,h2⟩
 ·rw [h]at he;simp only [Value.slice.injEq]at he;omega
 ·omega
theorem own2_sound {o:Oper} {z:List SV} {by_:Nat} {r q:Arg} (h:M C N c a w) (hr:res1 P o=some (.app z by_ r q)) (hd:∀k,o.dst=some k→k<N) (hc:own2 c o.dst z by_ q (c.ev r)=some c') {K:Act→World→Prop} {Q:Exit→Act→World→Prop} (hK:∀a w,M C N c' a w→K a w):o.wp P a w K Q:=by
 obtain⟨x,s,hM,hS⟩:=h;obtain⟨cl,ho,hb⟩:=app_op hr;simp only [res1,ho,hb]at hr;split at hr<;>try (cases hr;done)
 rename_i X Y t u hX ht;split at hr<;>try (cases hr;done)
 rename_i el d2 r' q' hdd hu hra hrb;split at hr<;>try (cases hr;done)
 rename_i n by' z' hn hby hz
 rw [Option.ite_none_right_eq_some]at hr;obtain⟨hcond,hr⟩:=hr;simp only [Bool.and_eq_true,decide_eq_true_eq]at hcond;obtain⟨⟨hb0,hn0⟩,hzl'⟩:=hcond;obtain⟨zs,hzc,hzl0,_⟩:=zeros_data hz;have hzl:zs.length=n:=by omega
 obtain⟨hu2,rfl,rfl,rfl,rfl⟩:((∃e',d2= .slice e')∨d2= .string)∧z'=z∧by'=by_∧r'=r∧q'=q:=by
  split at hr<;>try (cases hr;done)
  ·cases hr;exact⟨.inl ⟨_,rfl⟩,rfl,rfl,rfl,rfl⟩
  ·rw [Option.ite_none_right_eq_some]at hr
   obtain⟨_,hr⟩:=hr;cases hr;exact⟨.inr rfl,rfl,rfl,rfl,rfl⟩
 have h1:=resArg_rep hM hra;have h2:=resArg_rep hM hrb;have ea:cl.args= #[X,Y]:=by apply Array.ext';simpa using hX
 have et:cl.argTypes= #[t,u]:=by apply Array.ext';simpa using ht
 have hex:=mkCall (a:=a) ho hb _ rfl;rw [ea,et]at hex;have em: #[X,Y].map a.eval= #[a.eval X,a.eval Y]:=by simp
 rw [em]at hex
 have hex':∀ {v w'},(Builtin.append_ #[t,u] o.type #[a.eval X,a.eval Y]).run P w= .ok v w'→(execOp a.eval o).run P w= .ok (.value v) w':=by intro v w' hrun;rw [hex];simp [hrun]
 rw [hS.ev]at h1
 have fin:∀ {k nc cv} (obj:SObj) (sz m:Nat),o.dst=some k→m≤nc→(Builtin.append_ #[t,u] o.type #[a.eval X,a.eval Y]).run P w= .ok (.slice (some ⟨w.heap.size,0,none⟩) m nc) (w.drew.alloc (.cells cv el (0,0)))→
  obj.size≤cv.size→(∀i,i<obj.size→cellRep x obj i (cv.getD i Go.undef))→obj.wf=true→c'=c.app (some k) {val:= .psl (k+100) sz 0 m none,new:=some obj}→o.wp P a w K Q:=by
  intro k nc cv obj sz m hk hnc hrun hsz hcell hwf hce;subst hce
  have hM':=hM.drew.newObjF (d:=k+100) o.dst (by omega) obj (cv:=cv) (t:=el) (fl:=0) (fh:=0) (val:= .psl (k+100) sz 0 m none) (u:= .slice (some ⟨w.heap.size,0,none⟩) m nc) (fun i hi h=>by omega) hsz hcell (by have:=Rep.psl (x:=x.newO (k+100) w.drew.heap.size) (k+100) sz 0 m none 0 nc (.inr (by omega)) hnc (fun _ e=>by cases e);rw [newO_d]at this;exact this) (w':=w.drew.alloc (.cells cv el (0,0))) rfl rfl rfl rfl
  refine wp_of_done ⟨_,_,_,_,hex' hrun,.inl rfl,hM'⟩ (k:=Sim N _) ?_ hK;have:=hS.app hd (e:= {val:= .psl (k+100) sz 0 m none,new:=some obj}) (f:= {pre:=True,val:= .psl (k+100) sz 0 m none,new:=some obj}) ⟨rfl,rfl,rfl,rfl,rfl⟩ ⟨fun ob he=>by cases he;exact hwf,.inl rfl⟩;rw [hk]at this ⊢;exact this
 unfold own2 at hc;split at hc<;>try (cases hc;done)
 ·rename_i l tk hl
  rw [Option.ite_none_right_eq_some]at hc;obtain⟨rfl,hc⟩:=hc;unfold own3 at hc;split at hc<;>try (cases hc;done)
  rename_i k l' hk hl';split at hc<;>try (cases hc;done)
  rename_i hz1;have hz1:z'.length=1:=Classical.not_not.1 hz1;obtain rfl:n=1:=by omega
  obtain⟨p,hl'',hp0⟩:=bytesC_of hS hl';rw [←hS.ev]at hl'';rw [hl]at h1;obtain⟨g1,g2⟩:=bytesOf_sound (P:=P) hM h2 hl'' hp0;obtain⟨_,_,_,_,_,hsp⟩:=h1.byt_inv;obtain⟨cap,hF,_⟩:=flat_byt (h1.data rfl)
  by_cases hne:l'=[]
  ·rw [if_pos hne]at hc
   cases hc;subst hne
   obtain⟨bs,hXe⟩:∃bs,a.eval X= .slice bs l.length cap:=by
    rcases hF.2.2 with⟨b,off,h,_⟩|⟨h,h1,h2⟩
    ·exact⟨_,h⟩
    ·exact⟨none,by rw [h,h1,h2]⟩
   have hcap:=flat_clip hF hsp;rw [hXe]at h1 hex'
   have hrun:=run_app_in (P:=P) (t:=t) (u:=u) (ty:=o.type) (Y:=a.eval Y) (ns:=[]) (w:=w) (w1:=w) (m:=0) (bs:=bs) (len:=l.length) (cap:=cap) hdd hu hu2 hn (g1 w rfl) (by have:=g2 0 (Nat.le_refl _) w rfl;simpa using this) (by omega) (by cases bs<;>rfl)
   refine wp_of_done ⟨_,_,_,_,hex' hrun,.inl rfl,hM.put o.dst h1⟩ (k:=Sim N _) ?_ hK;have:=hS.put hd (.byt l .clip);rw [hk]at this ⊢;exact this
  ·rw [if_neg hne]at hc
   rw [Option.ite_none_right_eq_some]at hc;obtain⟨⟨rfl,hroom⟩,hc⟩:=hc;have hcap:=flat_clip hF hsp;have hpos:0<l'.length:=List.length_pos_iff.2 hne
   obtain⟨nc,cv,hnc,hrun,hsz,hcell⟩:=app_fresh (ty:=o.type) hM hdd hu hu2 hn hby hzc hb0 hzl hF g1 (fun w' hw'=>by have:=g2 l'.length (Nat.le_refl _) w' hw';rwa [List.take_length]at this) (by simp) (new_bytes l') (by omega) (by omega)
   refine fin (.bar (l++l')) 1 _ hk hnc hrun (by simp only [SObj.size];simpa using hsz) (fun i hi=> ?_) rfl (Option.some.inj hc).symm;simp only [SObj.size]at hi;have:=hcell i (by simpa using hi);rw [←List.map_append,getD_map_u8 _ _ hi]at this;exact this
 ·rename_i sz l tk hl
  rw [Option.ite_none_right_eq_some]at hc;obtain⟨rfl,hc⟩:=hc;unfold own4 at hc;split at hc<;>try (cases hc;done)
  rename_i k l' hk hl';obtain⟨p,hl'',hp0⟩:=rowsC_of hS hl';rw [←hS.ev]at hl'';rw [hl]at h1;obtain⟨hrows',g1,ns,hnew,g2⟩:=rowsOf_sound (P:=P) hM h2 hl'' hp0;obtain⟨_,_,_,_,_,hsp⟩:=h1.lst_inv;obtain⟨cap,hF,_,hrows⟩:=flat_lst (h1.data rfl)
  by_cases hne:l'=[]
  ·rw [if_pos hne]at hc
   cases hc;subst hne
   obtain⟨bs,hXe⟩:∃bs,a.eval X= .slice bs l.length cap:=by
    rcases hF.2.2 with⟨b,off,h,_⟩|⟨h,h1,h2⟩
    ·exact⟨_,h⟩
    ·exact⟨none,by rw [h,h1,h2]⟩
   have hcap:=flat_clip hF hsp;rw [hXe]at h1 hex'
   have hrun:=run_app_in (P:=P) (t:=t) (u:=u) (ty:=o.type) (Y:=a.eval Y) (ns:=[]) (w:=w) (w1:=w) (m:=0) (bs:=bs) (len:=l.length) (cap:=cap) hdd hu hu2 hn (g1 w rfl) (by have:=g2 0 (Nat.le_refl _) w rfl;rw [hzl']at this;simpa using this) (by omega) (by cases bs<;>rfl)
   refine wp_of_done ⟨_,_,_,_,hex' hrun,.inl rfl,hM.put o.dst h1⟩ (k:=Sim N _) ?_ hK;have:=hS.put hd (.lst sz l .clip);rw [hk]at this ⊢;exact this
  ·rw [if_neg hne]at hc
   rw [Option.ite_none_right_eq_some]at hc;obtain⟨⟨rfl,hroom⟩,hc⟩:=hc;obtain rfl:n=z'.length:=by omega
   have hcap:=flat_clip hF hsp;have hpos:0<l'.length:=List.length_pos_iff.2 hne;have hnl:ns.length=l'.length*z'.length:=by rw [←hnew.len,flatten_len hrows']
   obtain⟨nc,cv,hnc,hrun,hsz,hcell⟩:=app_fresh (ty:=o.type) hM hdd hu hu2 hn hby hzc hb0 hzl hF g1 (fun w' hw'=>by have:=g2 l'.length (Nat.le_refl _) w' hw';rwa [←hnl,List.take_length]at this) hnl hnew hroom (by omega)
   have hrows2:∀y∈l++l',y.length=z'.length:=fun y hy=>(List.mem_append.1 hy).elim (hrows y) (hrows' y)
   have hlen2:(l++l').length*z'.length=(l.flatten++l'.flatten).length:=by rw [←List.flatten_append,flatten_len hrows2]
   refine fin (.arr z'.length (l++l')) z'.length _ hk hnc hrun (by simp only [SObj.size];omega) (fun i hi=> ?_) (wf_arr.2 hrows2) (Option.some.inj hc).symm;simp only [SObj.size]at hi;have:=hcell i (by omega);rw [←List.flatten_append,flatten_getD _ hrows2 i hi]at this;exact this
theorem own5_sound {o:Oper} {sz:Nat} {xs:List Arg} (h:M C N c a w) (hr:res1 P o=some (.lit sz xs)) (hd:∀k,o.dst=some k→k<N) (hc:own5 c sz o.dst (rows sz (evL c xs))=some c') {K:Act→World→Prop} {Q:Exit→Act→World→Prop} (hK:∀a w,M C N c' a w→K a w):o.wp P a w K Q:=by
 obtain⟨x,s,hM,hS⟩:=h;rw [hS.evL]at hc;unfold own5 at hc;split at hc<;>try (cases hc;done)
 rename_i k l hk hl;cases hc
 obtain⟨t,len,parts,ho⟩:∃t len parts,o.op= .buildSlice t len parts:=by
  cases ho:o.op with
  |buildSlice t len parts=>exact⟨t,len,parts,rfl⟩
  | _=>exfalso;exact absurd hr (by
   intro hr;simp only [res1,ho]at hr
   first
    |(cases hr;done)
    |(obtain⟨_,_,h⟩:=Option.map_eq_some_iff.1 hr;cases h;done)
    |(repeat' split at hr)<;>first|(cases hr;done)|contradiction|(obtain⟨_,_,h⟩:=Option.map_eq_some_iff.1 hr;first|(cases h;done)|(split at h<;>cases h;done)))
 obtain⟨r,e,hrun,hsz,hrows,hcell⟩:=run_buildL hM ho hr hl
 have hM':=hM.newObj (d:=k+100) o.dst (by omega) (.arr sz l) (val:= .psl (k+100) sz 0 l.length (some l.length)) (u:= .slice (some ⟨w.heap.size,0,none⟩) l.length l.length) (t:=e) (by simp only [SObj.size];omega) (fun i hi=>hcell i hi) (by have:=Rep.psl (x:=x.newO (k+100) w.heap.size) (k+100) sz 0 l.length (some l.length) 0 l.length (.inr (by omega)) (Nat.le_refl _) (fun _ e=>by cases e;rfl);rwa [newO_d]at this)
 refine wp_of_done ⟨_,_,_,_,hrun,.inl rfl,hM'⟩ (k:=Sim N _) ?_ hK;have:=hS.app hd (e:= {val:= .psl (k+100) sz 0 l.length (some l.length),new:=some (.arr sz l)}) (f:= {pre:=True,val:= .psl (k+100) sz 0 l.length (some l.length),new:=some (.arr sz l)}) ⟨rfl,rfl,rfl,rfl,rfl⟩ ⟨fun ob he=>by cases he;exact wf_arr.2 hrows,.inl rfl⟩;rw [hk]at this ⊢;exact this
theorem ownS_sound {ops:Array Oper} {n:Nat} {o:Oper} {i:SI} (h:M C N c a w) (hi:i.ok N=true) (ho:ops[n]? =some o) (hr:resSI P ops o=some i) (hc:ownS c i=some c') {K:Act→World→Prop} {Q:Exit→Act→World→Prop}
 (hK:∀a w,M C N c' a w→K a w):wpOp P ops Q n K a w:=by
 obtain⟨h1,h2,h3⟩:=resSI_inv hr
 have hd:∀k,i.dst=some k→k<N:=by intro k hk;unfold SI.ok at hi;rw [hk]at hi;simpa using hi
 unfold wpOp;rw [ho];simp only;unfold ownS at hc;split at hc<;>try (cases hc;done)
 rename_i hg;rcases h3 with⟨_,hog⟩|⟨j,b,g,hg',_⟩
 ·rw [wanted_none hog,if_pos rfl]
  rw [h2]at hc hd;left;unfold ownC at hc;split at hc<;>try (cases hc;done)
  ·rename_i sz xs hq
   exact own5_sound h (h1.old (fun xs e=>by rw [e]at hq;cases hq)|>fun e=>by rw [hq]at e;exact e) hd hc hK
  ·rename_i xs hq
   exact newB_sound h (h1.old (fun xs e=>by rw [e]at hq;cases hq)|>fun e=>by rw [hq]at e;exact e) hd hc hK
  ·rename_i q hq
   exact own1_sound h (h1.old (fun xs e=>by rw [e]at hq;cases hq)|>fun e=>by rw [hq]at e;exact e) hd hc hK
  ·rename_i z by_ q y hq
   exact own2_sound h (h1.old (fun xs e=>by rw [e]at hq;cases hq)|>fun e=>by rw [hq]at e;exact e) hd hc hK
 ·rw [hg]at hg';cases hg'
theorem tksS_sound {ops:Array Oper} {n:Nat} {o:Oper} {i:SI} (h:M C N c a w) (hi:i.ok N=true) (ho:ops[n]? =some o) (hr:resSI P ops o=some i) (hc:tksS c i=some c') {K:Act→World→Prop} {Q:Exit→Act→World→Prop}
 (hK:∀a w,M C N c' a w→K a w):wpOp P ops Q n K a w:=by
 obtain⟨h1,h2,h3⟩:=resSI_inv hr
 have hd:∀k,i.dst=some k→k<N:=by intro k hk;unfold SI.ok at hi;rw [hk]at hi;simpa using hi
 unfold wpOp;rw [ho];simp only;unfold tksS at hc;split at hc<;>try (cases hc;done)
 rename_i hg;rcases h3 with⟨_,hog⟩|⟨j,b,g,hg',_⟩
 ·rw [wanted_none hog,if_pos rfl]
  rw [h2]at hc hd;left;unfold tksP at hc;split at hc<;>try (cases hc;done)
  ·rename_i q hq
   exact tks1_sound h (h1.old (fun xs e=>by rw [e]at hq;cases hq)|>fun e=>by rw [hq]at e;exact e) hd hc hK
 ·rw [hg]at hg';cases hg'
theorem stepC_sound (hcal:CallOK P call) {ops:Array Oper} {n:Nat} {o:Oper} {i:SI} (h:M C N c a w) (hi:i.ok N=true) (ho:ops[n]? =some o) (hr:resSI P ops o=some i) (hc:stepC call sg c i=some c') {K:Act→World→Prop} {Q:Exit→Act→World→Prop}
 (hK:∀a w,M C N c' a w→K a w):wpOp P ops Q n K a w:=by
 obtain⟨h1,h2,h3⟩:=resSI_inv hr
 have hd:∀k,i.dst=some k→k<N:=by intro k hk;unfold SI.ok at hi;rw [hk]at hi;simpa using hi
 unfold wpOp;rw [ho];simp only;unfold stepC at hc;rcases h3 with⟨hg,hog⟩|⟨j,b,g,hg,hog,hdg⟩
 ·rw [hg]at hc
  rw [wanted_none hog,if_pos rfl];rw [h2]at hc hd;exact .inl (opC_sound hcal h h1 hd hc hK)
 ·rw [hg]at hc
  simp only at hc;split at hc<;>try (cases hc;done)
  rotate_left
  ·rename_i ht
   cases hc;obtain⟨x,s,hM,hS⟩:=h;rw [wanted_skip hog hdg (get_skip hM hS ht),if_neg (by simp)];rw [h2]at hd;rw [h2]at hK;exact hK _ _ ⟨x,_,hM.put o.dst rep_skip,hS.put hd _⟩
  rename_i t ht;have hv:a.tmps[g]? =some (.bool t):=by obtain⟨x,s,hM,hS⟩:=h;exact get_tmps hM hS ht
  rw [wanted_some hog hdg hv];split at hc
  ·rename_i htb
   subst htb;rw [if_pos (by simp)];rw [h2]at hc hd;exact .inl (opC_sound hcal h h1 hd hc hK)
  ·rename_i htb
   cases hc;rw [if_neg (by simpa using htb)];obtain⟨x,s,hM,hS⟩:=h;rw [h2]at hd;rw [h2]at hK;exact hK _ _ ⟨x,_,hM.put o.dst rep_skip,hS.put hd _⟩
theorem keep_put {d:Option Nat} {g:Nat} {t:Bool} {v:SV} (hd:d≠some g) (h:c.get g= .bool t):(c.put d v).get g= .bool t:=by
 cases d with
 |none=>exact h
 |some k=>rw [cput_get,if_neg (fun e=>hd (by rw [e]))];exact h
theorem keep_putV {d:Option Nat} {g:Nat} {u v:SV} (hd:d≠some g) (h:c.get g=u):(c.put d v).get g=u:=by
 cases d with
 |none=>exact h
 |some k=>rw [cput_get,if_neg (fun e=>hd (by rw [e]))];exact h
theorem keep_purge {g lo hi:Nat} {t:Bool} {l:List (Nat×SV)} (h:getT l g= .bool t):getT (purgeT lo hi l) g= .bool t:=by rw [getT_purge,h];rfl
theorem keep_app {d:Option Nat} {g:Nat} {t:Bool} {e:CEff} (hd:d≠some g) (h:c.get g= .bool t):(c.app d e).get g= .bool t:=by
 have wr:∀(l:List (Nat×SObj)) (c:CSt),(c.wr l).tm=c.tm:=by
  intro l;induction l with
  |nil=>intro c;rfl
  |cons p r ih=>intro c;simp only [CSt.wr];rw [ih]
 unfold CSt.app;split
 ·exact keep_put (c:=⟨_,_,_⟩) hd (keep_purge h)
 ·exact keep_put (c:=⟨_,_,_⟩) hd (keep_purge h)
 ·refine keep_put hd ?_
  show getT (c.wr e.wr).tm g=_;rw [wr];exact h
theorem keep_after {d:Option Nat} {g:Nat} {t:Bool} {m mt:List Nat} {q:CRes} (hd:d≠some g) (h:c.get g= .bool t):(afterC c d m mt q).get g= .bool t:=keep_put (c:=⟨_,_,_⟩) hd (keep_purge h)
theorem keep_publish {g o:Nat} {t:Bool} {vs:List SV} (h:c.get g= .bool t):(c.publish o vs).1.get g= .bool t:=by
 have k:∀obj,getT (pubT o obj c.tm) g= .bool t:=fun obj=>by rw [getT_pub];have:getT c.tm g= .bool t:=h;rw [this];rfl
 unfold CSt.publish;split
 ·exact k _
 ·exact k _
 ·exact h
theorem keep_pubAll {g:Nat} {t:Bool}:∀ {l:List Nat} {c:CSt} {vs:List SV},c.get g= .bool t→(pubAll c vs l).1.get g= .bool t
 |[],_,_,h=>h
 |o::r,c,vs,h=>by show(pubAll (c.publish o vs).1 (c.publish o vs).2 r).1.get g=_;exact keep_pubAll (keep_publish h)
theorem keep_call {sg:Sig} {d:Option Nat} {g n:Nat} {as:List SV} {t:Bool} (hc:callC call sg c d n as=some c') (hd:d≠some g) (h:c.get g= .bool t):c'.get g= .bool t:=by
 unfold callC at hc;generalize ((SV.idsL as).isEmpty&&sg.own.isEmpty)=b at hc;cases b with
 | true=>
  simp only [callK]at hc;cases hq:call n (SV.bareL as) [] 0 with
  |none=>rw [hq]at hc;cases hc
  | some q=>
   rw [hq]at hc;simp only [fastC]at hc;cases hb:q.bare with
   |true=>rw [hb]at hc;cases hc;exact keep_put hd h
   |false=>
    rw [hb]at hc;simp only [fast2]at hc;cases hs:q.small with
    |true=>rw [hs]at hc;cases hc;exact keep_after hd h
    |false=>rw [hs]at hc;cases hc
 | false=>
  simp only [callK]at hc;have hk:=keep_pubAll (l:=slIds sg.raw 0 as) (vs:=as) h;generalize pubAll c as (slIds sg.raw 0 as)=z at hc hk;obtain⟨c1,as1⟩:=z;simp only [slowC]at hc;generalize tokL c1.tk sg.own 50 0 as1=z at hc;obtain⟨as2,mt1⟩:=z;simp only [slow0]at hc;generalize reach c1 60 [] (SV.idsL as2)=m at hc;cases ho:looks c1 m with
  |none=>rw [ho]at hc;cases hc
  | some os0=>
   rw [ho]at hc;simp only [slow1]at hc;generalize tokObs c1.tk (50+mt1.length) os0=z at hc;obtain⟨os,mt2⟩:=z;simp only [slow2]at hc;generalize (subB (SV.idsL as2++obsIds os) m&&nodupB m&&nodupB (somes (mt1++mt2))&&decide (m.length≤40)&&m.all fun o=> !inR (d.getD 0) o)=b at hc;cases b with
   |false=>cases hc
   | true=>
    simp only [slow3]at hc;cases hq:call n (SV.renL (ixOf m) id as2) (renObL (ixOf m) id os) (mt1.length+mt2.length)with
    |none=>rw [hq]at hc;cases hc
    |some q=>
     rw [hq]at hc;simp only [slow4]at hc;cases hs:q.small with
     |true=>rw [hs]at hc;cases hc;exact keep_after hd hk
     |false=>rw [hs]at hc;cases hc
theorem keep_op {d:Option Nat} {g:Nat} {o:SOp} {t:Bool} (hc:opC call sg c d o=some c') (hd:d≠some g) (h:c.get g= .bool t):c'.get g= .bool t:=by
 have e:effS c d (effC c d o)=some c'→c'.get g= .bool t:=by
  intro hc;cases he:effC c d o with
  |none=>rw [he]at hc;cases hc
  |some e=>rw [he]at hc;cases hc;exact keep_app hd h
 cases o with
 |call f as=>
  simp only [opC]at hc;split at hc<;>try (cases hc;done)
  exact keep_call hc hd h
 |newB xs=>
  simp only [opC]at hc;unfold newBC at hc;split at hc<;>try (cases hc;done)
  cases hc;exact keep_app hd h
 |slid q=>
  simp only [opC]at hc;unfold slidC at hc;split at hc<;>try (cases hc;done)
  unfold slid2 at hc;split at hc<;>try (cases hc;done)
  split at hc<;>try (cases hc;done)
  cases hc;exact keep_put hd (keep_publish h)
 |_=>exact e hc
theorem okG_spec {g:Nat} {b:Bool} {i:SI} (h:i.okG N g b=true):(∀k,i.dst=some k→k<N)∧i.g=some (g,b)∧i.dst≠some g:=by
 simp only [SI.okG,Bool.and_eq_true,decide_eq_true_eq]at h;obtain⟨⟨h1,h2⟩,h3⟩:=h;refine⟨fun k hk=> ?_, ?_,h3⟩
 ·unfold SI.ok at h1;rw [hk]at h1;simpa using h1
 ·split at h2
  ·rename_i g' b' hg
   simp only [Bool.and_eq_true,decide_eq_true_eq,beq_iff_eq]at h2;rw [hg,h2.1,h2.2]
  ·cases h2
theorem plC_sound (hcal:CallOK P call) {ops:Array Oper} {full rest:List SI} (hl:mapO (resSI P ops) ops.toList=some full) {Q:Exit→Act→World→Prop} {g:Nat} {b:Bool} {c1:CSt}
 (fin:∀(m n:Nat),n+m=ops.size→rest=full.drop n→∀a w,M C N c1 a w→wpOps P ops Q (List.range' n m) a w):
 ∀(l:List SI) (m n:Nat) (c:CSt) (a:Act) (w:World),n+m=ops.size→l++rest=full.drop n→(∀i∈l,i.okG N g b=true)→M C N c a w→c.get g= .bool b→plC call sg l c=some c1→wpOps P ops Q (List.range' n m) a w:=by
 obtain⟨hlen,hget⟩:=mapO_get hl;intro l;induction l with
 |nil=>intro m n c a w hn he _ hM _ hs;rw [pl_nil]at hs;cases hs;exact fin m n hn he a w hM
 | cons i l ihl=>
  intro m n c a w hn he hok hM ht hs;obtain⟨g1,g2,g3⟩:=okG_spec (hok i (List.mem_cons_self ..));simp only [List.cons_append]at he
  have hn1:n<full.length:=by
   rcases Nat.lt_or_ge n full.length with h|h
   ·exact h
   ·rw [List.drop_eq_nil_of_le h]at he;cases he
  rw [List.drop_eq_getElem_cons hn1]at he;obtain⟨he1,he2⟩:=List.cons.inj he;have hn2:n<ops.toList.length:=by omega
  obtain⟨m',rfl⟩:∃m',m=m'+1:=⟨m-1,by rw [hlen,Array.length_toList]at hn1;omega⟩;simp only [List.range'_succ];rw [wpOps_cons];rw [plC]at hs;cases h1:opC call sg c i.dst i.op with
  |none=>rw [h1,np_none]at hs;cases hs
  | some c2=>
   rw [h1,np_some]at hs;have hst:stepC call sg c i=some c2:=by unfold stepC;rw [g2];simp only [ht,if_true];exact h1
   have hik:i.ok N=true:=by
    unfold SI.ok;cases hdd:i.dst with
    |none=>rfl
    |some k=>simpa using g1 k hdd
   refine stepC_sound hcal hM hik (o:=ops.toList[n]) (by rw [←Array.getElem?_toList,List.getElem?_eq_getElem hn2]) (by rw [he1];exact hget n hn2 hn1) hst ?_;intro a' w' hM';exact ihl m' (n+1) c2 a' w' (by omega) he2 (fun j hj=>hok j (List.mem_cons_of_mem _ hj)) hM' (keep_op h1 g3 ht) hs
theorem unL_sound (hcal:CallOK P call) {ops:Array Oper} {full rest:List SI} (hl:mapO (resSI P ops) ops.toList=some full) {Q:Exit→Act→World→Prop} {g:Nat} {b:Bool} {v:SV} (hvv:v= .tup []∨∃t,v= .bool t∧t≠b) {c1:CSt}
 (fin:∀(m n:Nat),n+m=ops.size→rest=full.drop n→∀a w,M C N c1 a w→wpOps P ops Q (List.range' n m) a w):
 ∀(l:List SI) (m n:Nat) (c:CSt) (a:Act) (w:World),n+m=ops.size→l++rest=full.drop n→(∀i∈l,i.okG N g b=true)→M C N c a w→c.get g=v→unL c l=c1→wpOps P ops Q (List.range' n m) a w:=by
 obtain⟨hlen,hget⟩:=mapO_get hl;intro l;induction l with
 |nil=>intro m n c a w hn he _ hM _ hs;cases hs;exact fin m n hn he a w hM
 | cons i l ihl=>
  intro m n c a w hn he hok hM ht hs;obtain⟨g1,g2,g3⟩:=okG_spec (hok i (List.mem_cons_self ..));simp only [List.cons_append]at he
  have hn1:n<full.length:=by
   rcases Nat.lt_or_ge n full.length with h|h
   ·exact h
   ·rw [List.drop_eq_nil_of_le h]at he;cases he
  rw [List.drop_eq_getElem_cons hn1]at he;obtain⟨he1,he2⟩:=List.cons.inj he;have hn2:n<ops.toList.length:=by omega
  obtain⟨m',rfl⟩:∃m',m=m'+1:=⟨m-1,by rw [hlen,Array.length_toList]at hn1;omega⟩;simp only [List.range'_succ];rw [wpOps_cons]
  have hst:stepC call (fun _=> {}) c i=some (c.put i.dst (.tup [])):=by
   unfold stepC;rw [g2];simp only [ht];rcases hvv with rfl|⟨t,rfl,htb⟩
   ·rfl
   ·simp only [htb,if_false]
  have hik:i.ok N=true:=by
   unfold SI.ok;cases hdd:i.dst with
   |none=>rfl
   |some k=>simpa using g1 k hdd
  refine stepC_sound hcal hM hik (o:=ops.toList[n]) (by rw [←Array.getElem?_toList,List.getElem?_eq_getElem hn2]) (by rw [he1];exact hget n hn2 hn1) hst ?_;intro a' w' hM';exact ihl m' (n+1) _ a' w' (by omega) he2 (fun j hj=>hok j (List.mem_cons_of_mem _ hj)) hM' (keep_putV g3 ht) hs
theorem opsC_sound (hcal:CallOK P call) {ops:Array Oper} {full:List SI} (hl:mapO (resSI P ops) ops.toList=some full) {Q:Exit→Act→World→Prop}:
 ∀(l:List RI) (m n:Nat),n+m=ops.size→erL l=full.drop n→l.all (RI.ok N)=true→∀ {c:CSt} {a:Act} {w:World},M C N c a w→opsC call sg l c=some c'→(∀a w,M C N c' a w→Q .normal a w)→wpOps P ops Q (List.range' n m) a w:=by
 obtain⟨hlen,hget⟩:=mapO_get hl;intro l;induction l with
 |nil=>
  intro m n hn he _ c a w hM hc hQ;have h1:full.length≤n:=List.drop_eq_nil_iff.1 he.symm;rw [hlen,Array.length_toList]at h1;have:m=0:=by omega
  subst this;simp only [List.range'_zero,wpOps];rw [ops_nil]at hc;cases hc;exact hQ _ _ hM
 | cons q r ih=>
  intro m n hn he hok c a w hM hc hQ;rw [List.all_cons,Bool.and_eq_true]at hok;obtain⟨hok1,hok2⟩:=hok;cases q with
  | dir q=>
   rw [ops_dir]at hc;cases hd:dirC c q with
   |none=>rw [hd,nx_none]at hc;cases hc
   |some c1=>rw [hd,nx_some,kill_nil]at hc;exact ih m n hn he hok2 (dirC_sound hM hd) hc hQ
  | own i dead=>
   rw [ops_own]at hc;simp only [erL]at he
   have hn1:n<full.length:=by
    rcases Nat.lt_or_ge n full.length with h|h
    ·exact h
    ·rw [List.drop_eq_nil_of_le h]at he;cases he
   rw [List.drop_eq_getElem_cons hn1]at he;obtain⟨he1,he2⟩:=List.cons.inj he;have hn2:n<ops.toList.length:=by omega
   obtain⟨m',rfl⟩:∃m',m=m'+1:=⟨m-1,by rw [hlen,Array.length_toList]at hn1;omega⟩;simp only [List.range'_succ];rw [wpOps_cons];cases hs:ownS c i with
   |none=>rw [hs,nx_none]at hc;cases hc
   |some c1=>rw [hs,nx_some]at hc;refine ownS_sound hM hok1 (o:=ops.toList[n]) (by rw [←Array.getElem?_toList,List.getElem?_eq_getElem hn2]) (by rw [he1];exact hget n hn2 hn1) hs ?_;intro a' w' hM';exact ih m' (n+1) (by omega) he2 hok2 (hM'.kill dead) hc hQ
  | tks i dead=>
   rw [ops_tks]at hc;simp only [erL]at he
   have hn1:n<full.length:=by
    rcases Nat.lt_or_ge n full.length with h|h
    ·exact h
    ·rw [List.drop_eq_nil_of_le h]at he;cases he
   rw [List.drop_eq_getElem_cons hn1]at he;obtain⟨he1,he2⟩:=List.cons.inj he;have hn2:n<ops.toList.length:=by omega
   obtain⟨m',rfl⟩:∃m',m=m'+1:=⟨m-1,by rw [hlen,Array.length_toList]at hn1;omega⟩;simp only [List.range'_succ];rw [wpOps_cons];cases hs:tksS c i with
   |none=>rw [hs,nx_none]at hc;cases hc
   |some c1=>rw [hs,nx_some]at hc;refine tksS_sound hM hok1 (o:=ops.toList[n]) (by rw [←Array.getElem?_toList,List.getElem?_eq_getElem hn2]) (by rw [he1];exact hget n hn2 hn1) hs ?_;intro a' w' hM';exact ih m' (n+1) (by omega) he2 hok2 (hM'.kill dead) hc hQ
  | op i dead=>
   rw [ops_op]at hc;simp only [erL]at he
   have hn1:n<full.length:=by
    rcases Nat.lt_or_ge n full.length with h|h
    ·exact h
    ·rw [List.drop_eq_nil_of_le h]at he;cases he
   rw [List.drop_eq_getElem_cons hn1]at he;obtain⟨he1,he2⟩:=List.cons.inj he;have hn2:n<ops.toList.length:=by omega
   obtain⟨m',rfl⟩:∃m',m=m'+1:=⟨m-1,by rw [hlen,Array.length_toList]at hn1;omega⟩;simp only [List.range'_succ];rw [wpOps_cons];cases hs:stepC call sg c i with
   |none=>rw [hs,nx_none]at hc;cases hc
   |some c1=>rw [hs,nx_some]at hc;refine stepC_sound hcal hM hok1 (o:=ops.toList[n]) (by rw [←Array.getElem?_toList,List.getElem?_eq_getElem hn2]) (by rw [he1];exact hget n hn2 hn1) hs ?_;intro a' w' hM';exact ih m' (n+1) (by omega) he2 hok2 (hM'.kill dead) hc hQ
  | grp g b l dead=>
   rw [ops_grp]at hc;cases hs:grpC call sg b l c (c.get g)with
   |none=>rw [hs,nx_none]at hc;cases hc
   | some c1=>
    rw [hs,nx_some]at hc;unfold grpC at hs;have hsk:=hs;split at hs<;>try (cases hs;done)
    rotate_left
    ·rename_i ht
     have hok1':∀i∈l,i.okG N g b=true:=by simpa [RI.ok]using hok1
     have fin:∀(m n:Nat),n+m=ops.size→erL r=full.drop n→∀a w,M C N c1 a w→wpOps P ops Q (List.range' n m) a w:=fun m n hn he a w hM'=>ih m n hn he hok2 (hM'.kill dead) hc hQ
     simp only [erL]at he;cases hs;exact unL_sound hcal hl (.inl rfl) fin l m n c a w hn he hok1' hM ht rfl
    rename_i t ht;have hok1':∀i∈l,i.okG N g b=true:=by simpa [RI.ok]using hok1
    have fin:∀(m n:Nat),n+m=ops.size→erL r=full.drop n→∀a w,M C N c1 a w→wpOps P ops Q (List.range' n m) a w:=fun m n hn he a w hM'=>ih m n hn he hok2 (hM'.kill dead) hc hQ
    simp only [erL]at he;split at hs
    ·rename_i htb
     exact plC_sound hcal hl fin l m n c a w hn he hok1' hM (by rw [ht,htb]) hs
    ·rename_i htb
     cases hs;exact unL_sound hcal hl (.inr ⟨t,rfl,htb⟩) fin l m n c a w hn he hok1' hM ht rfl
theorem gc_sim:∀ {l:List Nat} {c:CSt} {s:St},Sim N c s→Sim N (gcC c l) (s.forget l)
 |[],_,_,h=>h
 |o::r,c,s,h=>by show Sim N (gcC (c.purge o (o+1)) r) ((s.purge o (o+1)).forget r);exact gc_sim (h.purge o (o+1))
theorem foot_eq (hS:Sim N c s) {so:SOp} {d:Option Nat} {e:CEff} {f:Eff} (h:Same e f):footOf s so d f=footC c so d e:=by unfold footOf footC Eff.names;rw [h.val,h.wr,h.new,h.eat,h.tok,hS.evL];rfl
theorem ren_noids (f:Nat→Nat) (sv:SV):sv.ids=[]→sv.ren f id=sv:=by
 refine SV.rec (motive_1:=fun sv=>sv.ids=[]→sv.ren f id=sv) (motive_2:=fun _=>True) (motive_3:=fun l=>SV.idsL l=[]→SV.renL f id l=l)
  ?_ ?_ ?_ ?_ ?_ ?_ ?_ ?_ ?_ ?_ ?_ ?_ ?_ ?_ ?_ ?_ ?_ ?_ ?_ ?_ sv
 ·intro _;rfl
 ·intro _ _;rfl
 ·intro _ _ _;rfl
 ·intro _ _;rfl
 ·intro _ _;rfl
 ·intro l t _;cases t<;>rfl
 ·intro sz xs t _ _;cases t<;>rfl
 ·intro _;rfl
 ·intro _;rfl
 ·intro _ _ _;rfl
 ·intro o off h;simp [SV.ids]at h
 ·intro o sz i j h;simp [SV.ids]at h
 ·intro o sz off n cap h;simp [SV.ids]at h
 ·intro cs ih h;simp only [SV.ids]at h;simp only [SV.ren,ih h]
 ·intro cs ih h;simp only [SV.ids]at h;simp only [SV.ren,ih h]
 ·intro f c1 c2 ih1 ih2 h
  simp only [SV.ids,List.append_eq_nil_iff]at h;simp only [SV.ren,ih1 h.1,ih2 h.2]
 ·trivial
 ·intros;trivial
 ·intro _;rfl
 ·intro v l ihv ihl h
  simp only [SV.idsL,List.append_eq_nil_iff]at h;simp only [SV.renL,ihv h.1,ihl h.2]
theorem ren_noidsL (f:Nat→Nat):∀l:List SV,SV.idsL l=[]→SV.renL f id l=l
 |[],_=>rfl
 |v::r,h=>by simp only [SV.idsL,List.append_eq_nil_iff]at h;simp only [SV.renL,ren_noids f v h.1,ren_noidsL f r h.2]
theorem ren_noidsO (f:Nat→Nat) (ob:SObj) (h:ob.ids=[]):ob.ren f id=ob:=by
 cases ob with
 |rc cs=>simp only [SObj.ids]at h;simp only [SObj.ren,ren_noidsL f cs h]
 |arr sz xs=>rfl
 |bar l=>rfl
theorem callOW_sound (hcal:CallOK P call) {b:Bool} {g:Nat} {as:List SV} {e:CEff} (hS:Sim N c s) (he:callOW call c g as b=some e):∃f,IsCall P s g as f∧Same e f∧Good c e:=by
 cases b with
 |false=>cases he
 | true =>
  simp only [callOW]at he;generalize SV.idsL as=ids at he;cases ids with
  |nil=>cases he
  | cons o r=>
   simp only [callO]at he;cases hl:c.look o with
   |none=>rw [hl]at he;cases he
   | some ob=>
    rw [hl]at he;simp only [callO1]at he;cases hb:(ob.ids.isEmpty&&ob.toks.isEmpty&&(SV.idsL (SV.bareL as)).all (fun k=>decide (k=o))&&(SV.idsL (SV.renL (ixOf [o]) id (SV.bareL as))).all (fun k=>decide (k=0)))with
    |false=>rw [hb]at he;cases he
    | true=>
     rw [hb]at he;simp only [callO2]at he;simp only [Bool.and_eq_true,List.isEmpty_iff,List.all_eq_true,decide_eq_true_eq]at hb;obtain⟨⟨⟨k1,k2⟩,k3⟩,k4⟩:=hb;generalize hA:SV.renL (ixOf [o]) id (SV.bareL as)=A at he k4;cases hq:call g A [ob] 0 with
     |none=>rw [hq]at he;cases he
     | some q=>
      rw [hq]at he;unfold callO3 at he;split at he
      ·rename_i x r' cs' hx
       cases hx;cases hb2:(r'.ids.isEmpty&&r'.toks.isEmpty&&(SV.idsL cs').isEmpty&&(SV.toksL cs').isEmpty)with
       |false=>rw [hb2]at he;cases he
       | true=>
        rw [hb2]at he;simp only [callO4,Option.some.injEq]at he;subst he;simp only [Bool.and_eq_true,List.isEmpty_iff]at hb2;obtain⟨⟨⟨j1,j2⟩,j3⟩,j4⟩:=hb2;obtain⟨hcb,hS'⟩:=hcal _ _ _ _ _ hq;have hwf:ob.wf=true:=hS.inv.wf _ (getO_mem hl);refine⟨{pre:=True,val:=r',wr:=[(o,.rc cs')]},⟨[o],A,[ob],r',[.rc cs'],⟨hcb, ?_⟩,rfl,rfl,by simp,by simp, ?_, ?_,j2,by rw [j1];simp, ?_, ?_⟩,⟨rfl,rfl,rfl,rfl,rfl⟩,⟨(fun ob h=>by cases h),Or.inr ⟨o,_,rfl,by rw [hl];rfl,rfl⟩⟩⟩
        ·intro C x w vs h1 h2 h3 h4 hH hvs
         refine(hS' C x w vs h1 h2 (fun b hb=>(h3 b hb).imp id (fun⟨i,hi,he⟩=> .inl ⟨i,hi,he⟩)) (by simp) (by simpa using hwf) hH hvs).mono ?_;rintro en w' ⟨v',x',q',rfl,hq',hr,hH',_,hg⟩;subst hq';exact⟨v',x',r',[(0,.rc cs')],rfl,⟨rfl,rfl⟩,hr,by rw [j2];exact hH',hg⟩
        ·subst hA
         refine⟨by rw [renL_eq,renL_eq,bareL_eq];simp,fun i hi=> ?_⟩;have hi2:i<(SV.bareL as).length:=by rw [bareL_eq];simpa using hi
         have hi3:i<(SV.renL (ixOf [o]) id (SV.bareL as)).length:=by rw [renL_eq];simpa using hi2
         have e1:(SV.renL (fun k=> [o].getD k 0) id (SV.renL (ixOf [o]) id (SV.bareL as))).getD i .undef=((SV.renL (ixOf [o]) id (SV.bareL as)).getD i .undef).ren (fun k=> [o].getD k 0) id:=by rw [renL_eq,getD_map_undef _ (by rfl)]
         have e2:(SV.renL (ixOf [o]) id (SV.bareL as)).getD i .undef=((SV.bareL as).getD i .undef).ren (ixOf [o]) id:=by rw [renL_eq,getD_map_undef _ (by rfl)]
         have e3:(SV.bareL as).getD i .undef=(as.getD i .undef).bare:=by rw [bareL_eq,getD_map_undef _ (by rfl)]
         rw [e1];intro x v hv;have h1:Rep x ((SV.bareL as).getD i .undef) v:=by rw [e3];exact hv.bare rfl rfl
         let y:Sit:=⟨x.G,fun _=>x.β o,x.τ⟩
         have h2:Rep y ((SV.renL (ixOf [o]) id (SV.bareL as)).getD i .undef) v:=by rw [e2];exact Rep.renF (x:=x) (x2:=y) (fun _ _ _ h=>h) h1 (fun k hk=>by rw [k3 k (ids_mem hi2 k hk)]) (fun t _=>rfl)
         exact Rep.renF (x:=y) (x2:=x) (fun _ _ _ h=>h) h2 (fun k hk=>by rw [k4 k (ids_mem hi3 k hk)];rfl) (fun t _=>rfl)
        ·intro i hi
         have hi0:i=0:=by simp at hi;omega
         subst hi0;show s.look o=some (ob.ren _ id);rw [ren_noidsO _ _ k1];have:=hS.look o;rw [this];exact hl
        ·intro o' ho'
         rw [List.mem_singleton.1 ho'];exact⟨j4,fun k hk=>by simp only [SObj.ids]at hk;rw [j3]at hk;cases hk⟩
        ·simp only [List.map_cons,List.map_nil,List.zip_cons_cons,List.zip_nil_right]
         rw [ren_noids _ _ j1,ren_noidsO _ (.rc cs') j3]
      ·cases he
theorem runD_sound (hcal:CallOK P call) {b:List Nat}:∀ {l:List SI} {fs:List Foot} {c:CSt} {s:St},l.all (SI.ok N)=true→Sim N c s→runD call sg b l fs c=some c'→vcD P b l fs (Sim N c') s:=by
 intro l;induction l with
 |nil=>intro fs c s _ hS h;simp only [runD]at h;obtain⟨h1,rfl⟩:=gd_some h;exact⟨h1,hS⟩
 | cons i r ih=>
  intro fs c s hok hS h;rw [List.all_cons,Bool.and_eq_true]at hok;obtain⟨hok1,hok2⟩:=hok
  have hd:∀k,i.dst=some k→k<N:=by intro k hk;unfold SI.ok at hok1;rw [hk]at hok1;simpa using hok1
  have step :nxD call sg b i.op i.dst r fs c (effD call sg c i)=some c'→stepE P i s (nextD (vcD P b r) fs (Sim N c') i.op i.dst s):=by
   intro h;cases he:effD call sg c i with
   |none=>rw [he]at h;simp [nxD]at h
   | some e =>
    rw [he]at h;simp only [nxD]at h
    have next:∀ {f:Eff},Same e f→Good c e→nextD (vcD P b r) fs (Sim N c') i.op i.dst s f:=by intro f h1 h2;unfold nextD;rw [foot_eq hS h1];exact ih hok2 (hS.app hd h1 h2) h
    unfold effD at he;unfold stepE;split at he
    ·
     rename_i f as hop;rw [hop];simp only;rw [hS.ev];cases hv:c.ev f with
     | fn g u v=>
      rw [hv]at he;simp only [callEV]at he;generalize hb:((SV.idsL (u++evL c as++v)).isEmpty&&(sg g).own.isEmpty)=q at he;cases q with
      |false=>simp only [callEK]at he;obtain⟨f,hf1,hf2,hf3⟩:=callOW_sound (N:=N) (s:=s) hcal hS he;have nx:=next hf2 hf3;rw [hop]at nx;refine⟨f, ?_,nx⟩;rw [←hS.evL];exact hf1
      | true=>
       simp only [callEK]at he;cases hq:call g (SV.bareL (u++evL c as++v)) [] 0 with
       |none=>rw [hq]at he;cases he
       | some q=>
        rw [hq]at he;simp only [callE]at he;cases hbare:q.bare with
        |false=>rw [hbare]at he;cases he
        | true=>
         rw [hbare]at he;simp only [callE2,Option.some.injEq]at he;subst he;simp only [CRes.bare,Bool.and_eq_true,List.isEmpty_iff]at hbare;obtain⟨⟨⟨b1,b2⟩,b3⟩,b4⟩:=hbare;obtain⟨hcb,hS'⟩:=hcal _ _ _ _ _ hq
         have hids:SV.idsL (u++evL c as++v)=[]:=by simp only [Bool.and_eq_true,List.isEmpty_iff]at hb;exact hb.1
         have nx:=next (Same.v q.r True) (Good.v q.r);rw [hop]at nx;refine⟨{pre:=True,val:=q.r},⟨[],SV.bareL (u++evL c as++v),[],q.r,[],⟨hcb, ?_⟩,rfl,rfl,by simp,by simp, ?_,by simp,b4,by rw [b3];simp,by simp, ?_⟩,nx⟩
         ·intro C x w vs h1 h2 h3 h4 hH hvs
          refine(hS' C x w vs h1 h2 (fun b hb=>(h3 b hb).imp id (fun⟨i,hi,_⟩=>by simp at hi)) (by simp) (by simp) hH hvs).mono ?_;rintro en w' ⟨v',x',q',rfl,hq',hr,hH',_,hg⟩;subst hq';exact⟨v',x',q'.r,q'.os,rfl,⟨rfl,by rw [b1];rfl⟩,hr,by rw [b4,←b2];exact hH',hg⟩
         ·rw [←hS.evL]
          have hm:(fun k=>([]:List Nat).getD k 0)=fun _=>0:=by funext k;simp
          have hbi:∀sv:SV,sv.ids=[]→sv.bare.ren (fun k=>([]:List Nat).getD k 0) id=sv.bare:=by
           intro sv;rw [hm]
           refine SV.rec (motive_1:=fun sv=>sv.ids=[]→sv.bare.ren (fun _=>0) id=sv.bare) (motive_2:=fun _=>True) (motive_3:=fun l=>SV.idsL l=[]→SV.renL (fun _=>0) id (SV.bareL l)=SV.bareL l)
            ?_ ?_ ?_ ?_ ?_ ?_ ?_ ?_ ?_ ?_ ?_ ?_ ?_ ?_ ?_ ?_ ?_ ?_ ?_ ?_ sv
           ·intro _;rfl
           ·intro _ _;rfl
           ·intro _ _ _;rfl
           ·intro _ _;rfl
           ·intro _ _;rfl
           ·intro _ _ _;rfl
           ·intro _ _ _ _ _;rfl
           ·intro _;rfl
           ·intro _;rfl
           ·intro _ _ _;rfl
           ·intro o off h;simp [SV.ids]at h
           ·intro o sz i j h;simp [SV.ids]at h
           ·intro o sz off n cap h;simp [SV.ids]at h
           ·intro cs ih h;simp only [SV.ids]at h;simp only [SV.bare,SV.ren,ih h]
           ·intro cs ih h;simp only [SV.ids]at h;simp only [SV.bare,SV.ren,ih h]
           ·intro f c1 c2 ih1 ih2 h
            simp only [SV.ids,List.append_eq_nil_iff]at h;simp only [SV.bare,SV.ren,ih1 h.1,ih2 h.2]
           ·trivial
           ·intros;trivial
           ·intro _;rfl
           ·intro v l ihv ihl h
            simp only [SV.idsL,List.append_eq_nil_iff]at h;simp only [SV.bareL,SV.renL,ihv h.1,ihl h.2]
          have hall:∀l:List SV,SV.idsL l=[]→∀i,i<l.length→(l.getD i .undef).ids=[]:=by
           intro l hl i hi;cases hz:(l.getD i .undef).ids with
           |nil=>rfl
           |cons k ks=>have:=ids_mem hi k (by rw [hz];exact List.mem_cons_self ..);rw [hl]at this;cases this
          refine⟨by rw [renL_eq,bareL_eq];simp,fun i hi=> ?_⟩;rw [renL_eq,bareL_eq];rw [getD_map_undef _ (by rfl),getD_map_undef _ (by rfl),hbi _ (hall _ hids i hi)];exact fun x v hv=>hv.bare rfl rfl
         ·have hm:(fun k=>([]:List Nat).getD k 0)=fun _=>0:=by funext k;simp
          have hrr:∀sv:SV,sv.ids=[]→sv.toks=[]→sv.ren (fun _=>0) id=sv:=by
           intro sv
           refine SV.rec (motive_1:=fun sv=>sv.ids=[]→sv.toks=[]→sv.ren (fun _=>0) id=sv) (motive_2:=fun _=>True) (motive_3:=fun l=>SV.idsL l=[]→SV.toksL l=[]→SV.renL (fun _=>0) id l=l)
            ?_ ?_ ?_ ?_ ?_ ?_ ?_ ?_ ?_ ?_ ?_ ?_ ?_ ?_ ?_ ?_ ?_ ?_ ?_ ?_ sv
           ·intro _ _;rfl
           ·intro _ _ _;rfl
           ·intro _ _ _ _;rfl
           ·intro _ _ _;rfl
           ·intro _ _ _;rfl
           ·intro l t _ _;cases t<;>rfl
           ·intro sz xs t _ _ _;cases t<;>rfl
           ·intro _ _;rfl
           ·intro _ _;rfl
           ·intro _ _ _ _;rfl
           ·intro o off h;simp [SV.ids]at h
           ·intro o sz i j h;simp [SV.ids]at h
           ·intro o sz off n cap h;simp [SV.ids]at h
           ·intro cs ih h k;simp only [SV.ids]at h;simp only [SV.toks]at k;simp only [SV.ren,ih h k]
           ·intro cs ih h k;simp only [SV.ids]at h;simp only [SV.toks]at k;simp only [SV.ren,ih h k]
           ·intro f c1 c2 ih1 ih2 h k
            simp only [SV.ids,List.append_eq_nil_iff]at h;simp only [SV.toks,List.append_eq_nil_iff]at k;simp only [SV.ren,ih1 h.1 k.1,ih2 h.2 k.2]
           ·trivial
           ·intros;trivial
           ·intro _ _;rfl
           ·intro v l ihv ihl h k
            simp only [SV.idsL,List.append_eq_nil_iff]at h;simp only [SV.toksL,List.append_eq_nil_iff]at k;simp only [SV.renL,ihv h.1 k.1,ihl h.2 k.2]
          rw [hm,hrr _ b3 b4];rfl
     |_=>rw [hv]at he;cases he
    ·cases he
    ·cases he
    ·
     rename_i so hnc hni hncp
     by_cases hp:∃q y z,i.op= .pick q y z
     ·obtain⟨q,y,z,hop⟩:=hp
      rw [hop]at he;simp only [effC]at he;split at he<;>cases he;rename_i t ht;have n1:=next (f:= {pre:=True,val:=s.ev y});have n2:=next (f:= {pre:=True,val:=s.ev z});rw [hop]at n1 n2 ⊢;simp only;rw [hS.ev,ht];refine⟨fun e=> ?_,fun e=> ?_⟩
      ·subst e
       exact n1 ⟨hS.ev y,rfl,rfl,rfl,rfl⟩ (Good.v _)
      ·subst e
       exact n2 ⟨hS.ev z,rfl,rfl,rfl,rfl⟩ (Good.v _)
     ·obtain⟨f,h1,h2,h3,h4⟩:=effC_of0 hS he (fun q y z e=>hp ⟨q,y,z,e⟩) (fun ne q e=>hni ne q e) (fun sz q y e=>hncp sz q y e)
      split
      ·rename_i q y z e;exact absurd ⟨q,y,z,e⟩ hp
      ·rename_i f' as e;exact absurd e (hnc f' as)
      ·rw [h1];exact⟨h2,next h3 h4⟩
  simp only [runD]at h;simp only [vcD];split at h
  ·rename_i hg
   rw [hg];exact step h
  ·rename_i g want hg
   rw [hg];simp only;rw [hS.get];split at h<;>try (cases h;done)
   rename_i t ht;rw [ht];simp only;split at h
   ·rename_i htw
    exact⟨fun _=>step h,fun e=>by subst htw;cases t<;>cases e⟩
   ·rename_i htw
    exact⟨fun e=>absurd e htw,fun _=>ih hok2 (hS.put hd _) h⟩
end Go.Sy
