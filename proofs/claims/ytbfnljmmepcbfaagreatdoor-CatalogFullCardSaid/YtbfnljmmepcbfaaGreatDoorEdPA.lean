/- An engine that steps through Go code with symbolic values: sound by proof. No condition. -/
import Derived.Test.YtbfnljmmepcbfaaGreatDoorEcPA
import Derived.Below
import Derived.Carry
import Derived.ChangeSlices
import Derived.JoinedCond
import Derived.OpenShut
import Derived.RowKit3
import Derived.SliceStrings
import Derived.Lib.Bytealg
import Derived.Lib.BytesEntry
import Derived.Laws.IdiomCopy
import Derived.Maps.OwnOps
import Derived.Maps.OwnSet
open Array renaming ext' -> dY, getD -> jK, getD_eq_getD_getElem? -> aQ, getElem?_append_left -> b8, getElem?_eq_some_iff -> cW, getElem?_toList -> cP, length_toList -> aS, replicate -> ei, size_append -> cG
open Bool renaming and_eq_true -> aA, false_eq_true -> aO, not_eq_true' -> cV, or_eq_true -> eV
open List renaming Nodup -> we, Pairwise -> qH, Sublist -> mZ, all_eq_true -> aV, append_nil -> bG, cons -> kZ, cons_append -> bg, contains_eq_mem -> eU, drop_eq_getElem_cons -> bE, drop_eq_nil_of_le -> bD, filter_cons -> fq, filter_eq_self -> il, flatten_append -> bL, getD_cons_succ -> lT, getD_eq_getElem?_getD -> aa, getElem?_append_left -> bq, getElem?_append_right -> bB, getElem?_drop -> bi, getElem?_eq_getElem -> ac, getElem?_eq_none -> gj, getElem?_eq_some_iff -> nK, getElem?_map -> aR, getElem?_range -> ch, getElem?_take -> bC, getElem_mem -> bo, getElem_of_mem -> bn, length_append -> af, length_cons -> am, length_drop -> aL, length_eq_zero_iff -> cd, length_map -> aY, length_take -> ax, map_append -> du, map_cons -> aF, mem_append -> al, mem_cons -> aw, mem_cons_of_mem -> av, mem_cons_self -> aE, mem_map -> aT, mem_map_of_mem -> ik, mem_range -> dJ, mem_singleton -> bw, nil_append -> aI, nodup_cons -> dN, not_mem_nil -> cR, pairwise_append -> dw, pairwise_cons -> cK, pairwise_iff_getElem -> nJ, pairwise_map -> gq, range -> bA, replicate -> aH, size_toArray -> bT, take_append_drop -> dk, take_length -> kp
open Nat renaming add_mul -> bv, le_refl -> aK, le_trans -> kL, lt_or_ge -> bO, mod_eq_of_lt -> cx, mul_le_mul_right -> aX, mul_one -> iJ, zero_add -> bS, zero_mul -> fo
open Option renaming bind_some -> cY, getD_some -> aM, ite_none_right_eq_some -> aG, map_eq_some_iff -> ae, map_some -> bp, some -> aq
open Prod renaming fst -> cH, mk -> bt
open Go.Result renaming andThen_ok -> aj
open Go.Sem renaming run_bind -> az, run_pure -> aJ
open UInt8 renaming ofNat -> gw
set_option linter.unusedVariables false
set_option linter.unusedSimpArgs false
set_option linter.unnecessarySimpa false
set_option linter.unusedSectionVars false
namespace Go.Sy
variable [bf]
variable {P : Program} {C : Ctx} {x : Sit} {a : Act} {w : World} {N : Nat} {c c' : CSt} {s : St} {call : de} {sg : Nat -> Sig}
def gb(P:Program)(call:de):Prop:=∀g as os k q,call g as os k=some q->fz P g as os k (· =q)
theorem xJ{sg:Sig}{d:Option Nat}{g:Nat}{as:List SV}(hc:hZ call sg c d g as=some c'):∃as' os k q,call g as' os k=some q:=by
 unfold hZ at hc;generalize ((SV.idsL as).isEmpty&&sg.own.isEmpty)=b at hc;cases b with
 |true=>
  simp only[jF]at hc;cases hq:call g (SV.bareL as) [] 0 with
  |none=>rw[hq]at hc;cases hc
  |some q=>exact⟨_,_,_,q,hq⟩
 |false=>
  simp only[jF]at hc;generalize eP c as (iQ sg.raw 0 as)=z at hc;obtain⟨c1,as1⟩:=z;simp only[jB]at hc;generalize jI c1.tk sg.own 50 0 as1=z at hc;obtain⟨as2,mt1⟩:=z;simp only[na]at hc;cases ho:gu c1 (dR c1 60 [] (SV.idsL as2))with
  |none=>rw[ho]at hc;cases hc
  |some os0=>
   rw[ho]at hc;simp only[kO]at hc;generalize ek c1.tk (50+mt1.length) os0=z at hc;obtain⟨os,mt2⟩:=z;simp only[m9]at hc;generalize (nQ (SV.idsL as2++fG os) (dR c1 60 [] (SV.idsL as2))&&dB (dR c1 60 [] (SV.idsL as2))&&dB (cy (mt1++mt2))&&decide ((dR c1 60 [] (SV.idsL as2)).length<=40)&&(dR c1 60 [] (SV.idsL as2)).all fun o=> !inR (d.getD 0) o)=b at hc;cases b with
   |false=>cases hc
   |true=>
    simp only[m7]at hc;cases hq:call g (SV.renL (gB (dR c1 60 [] (SV.idsL as2))) id as2) (eu (gB (dR c1 60 [] (SV.idsL as2))) id os) (mt1.length+mt2.length)with
    |none=>rw[hq]at hc;cases hc
    |some q=>exact⟨_,_,_,q,hq⟩
theorem cX.freeze{ob:List (Nat×aC)}{tk:List Nat}(h:cX C x ob tk w){b:Nat}(hb:C.mine b)(ho:∀p∈ob,(x.bk p.1).1≠b)(ht:∀t∈tk,(x.τ t).1≠b\/(x.τ t).2.1=(x.τ t).2.2)(off n:Nat):
 cX C x ob tk (w.freeze ⟨b,off,none⟩ n):=by
 have hne:∀b',b'≠b->(w.freeze ⟨b,off,none⟩ n).heap[b']? =w.heap[b']? :=by
  intro b' h';unfold World.freeze;split
  ·rfl
  ·simp only[Array.getElem?_modify,if_neg (Ne.symm h')]
 have hcell:∀b' i,(w.freeze ⟨b,off,none⟩ n).cell? ⟨b',i,none⟩=w.cell? ⟨b',i,none⟩:=by
  intro b' i
  by_cases h':b'=b
  ·subst h'
   unfold World.freeze;split
   ·rfl
   ·simp only[World.cell?,Array.getElem?_modify,if_true]
    cases hw:w.heap[b']? with
    |none=>rfl
    |some q=>cases q<;>rfl
  ·exact dr (hne b' h')
 have hsz:(w.freeze ⟨b,off,none⟩ n).heap.size=w.heap.size:=by unfold World.freeze;split<;>simp
 have hos:(w.freeze ⟨b,off,none⟩ n).os=w.os/\(w.freeze ⟨b,off,none⟩ n).tape=w.tape/\(w.freeze ⟨b,off,none⟩ n).output=w.output:=by unfold World.freeze;split<;>exact⟨rfl,rfl,rfl⟩
 refine⟨fun b' i v hv=>by rw[hcell];exact h.per b' i v hv,h.g0,h.gm,h.new,fun p hp=> ?_,h.nd,h.inj,fun t ht'=> ?_,h.tko,h.tkd,hos.1.trans h.os,hos.2.1.trans h.tape,hos.2.2.trans h.output,by rw[hsz];exact h.size,fun b' hb'=> ?_,h.pin,h.lay⟩
 ·obtain⟨⟨cc,e,fl,fh,hO,r⟩,q⟩:=h.obs p hp
  exact⟨⟨cc,e,fl,fh,hO.of_heap (hne _ (ho p hp)),r⟩,q⟩
 ·rcases h.tks t ht' with h1|⟨⟨cc,e,fl,fh,hO,h2⟩,h3⟩
  ·exact .inl h1
  ·rcases ht t ht' with h4|h4
   ·exact .inr ⟨⟨cc,e,fl,fh,hO.of_heap (hne _ h4),h2⟩,h3⟩
   ·exact .inl h4
 ·rw[hne b' (fun e=>hb' (e ▸ hb))];exact h.ext b' hb'
theorem Px{o:Oper}{q:Arg}(hr:bz P o=some (.slid q)):∃src X e,o.op= .convert src src X/\P.underlying src=some (.slice e)/\lj P e=true/\bx P src X=some q:=by
 cases ho:o.op with
 |convert src dst X=>
  simp only[bz,ho]at hr;split at hr<;>try (cases hr;done)
  ·split at hr<;>cases hr
  ·split at hr<;>cases hr
  ·rename_i e q' hs hd hX
   split at hr<;>try (cases hr;done)
   rename_i hc;simp only[aA,decide_eq_true_eq]at hc;obtain⟨rfl,h8⟩:=hc;cases hr;exact⟨src,X,e,rfl,hd,h8,hX⟩
 |_=>exfalso;exact absurd hr (by
  intro hr;simp only[bz,ho]at hr
  first
   |(cases hr;done)
   |(obtain⟨_,_,h⟩:=ae.1 hr;cases h;done)
   |(repeat' split at hr)<;>first|(cases hr;done)|contradiction|(obtain⟨_,_,h⟩:=ae.1 hr;first|(cases h;done)|(split at h<;>cases h;done)))
theorem Ft{o:Oper}{xs:List Arg}(hr:bz P o=some (.newB xs)):False:=by
 cases ho:o.op with
 |buildSlice t len parts=>
  simp only[bz,ho]at hr;split at hr<;>try (cases hr;done)
  split at hr<;>try (cases hr;done)
  split at hr<;>try (cases hr;done)
  obtain⟨_,_,h⟩:=ae.1 hr;split at h<;>cases h
 |_=>
  simp only[bz,ho]at hr
  first
   |(cases hr;done)
   |(obtain⟨_,_,h⟩:=ae.1 hr;cases h;done)
   |(repeat' split at hr)<;>first|(cases hr;done)|contradiction|(obtain⟨_,_,h⟩:=ae.1 hr;first|(cases h;done)|(split at h<;>cases h;done))
theorem CP{o:Oper}{z:List SV}{b:Nat}{q y:Arg}(hr:bz P o=some (.appO z b q y)):False:=by
 cases ho:o.op with
 |buildSlice t len parts=>
  simp only[bz,ho]at hr;split at hr<;>try (cases hr;done)
  split at hr<;>try (cases hr;done)
  split at hr<;>try (cases hr;done)
  obtain⟨_,_,h⟩:=ae.1 hr;split at h<;>cases h
 |_=>
  simp only[bz,ho]at hr
  first
   |(cases hr;done)
   |(obtain⟨_,_,h⟩:=ae.1 hr;cases h;done)
   |(repeat' split at hr)<;>first|(cases hr;done)|contradiction|(obtain⟨_,_,h⟩:=ae.1 hr;first|(cases h;done)|(split at h<;>cases h;done))
theorem xgx{ops:Array Oper}{o:Oper}{i:SI}(h:fW P ops o=some i):i.er=i:=by
 obtain⟨h1,_,_⟩:=kf h;obtain⟨d,g,op⟩:=i
 have:op.er=op:=by
  cases op with
  |appO z b q y=>
   rcases h1 with h1|⟨xs,e,_⟩
   ·exact(CP h1).elim
   ·cases e
  |_=>rfl
 show SI.mk d g op.er=_;rw[this]
theorem wL{o:Oper}{q:Arg}(h:M C N c a w)(hr:bz P o=some (.slid q))(hd:∀k,o.dst=some k->k<N)(hc:qz c o.dst (c.ev q)=some c'){K:Act->World->Prop}{Q:Exit->Act->World->Prop}(hK:∀a w,M C N c' a w->K a w):o.wp P a w K Q:=by
 obtain⟨x,s,hM,hS⟩:=h;unfold qz at hc;split at hc<;>try (cases hc;done)
 rename_i o' off n cap hq;unfold nV at hc;split at hc<;>try (cases hc;done)
 rename_i l hl;split at hc<;>try (cases hc;done)
 rename_i hcond;obtain⟨hb,rfl⟩:=hcond;cases hc;obtain⟨src,X,e,ho,hu,h8,hX⟩:=Px hr;have hv:=aP hM hX;rw[hS.ev,hq]at hv;obtain⟨cp,hnc,hcp,off',hval,hoff⟩:=hv.psl_inv;have hls:s.look o'=some (.bar l):=(hS.look o').trans hl;obtain⟨cc,e',fl,fh,hO,hsz,_⟩:=eT hM hls;have hob:=hM.heap.obs _ (db hls);obtain⟨x',⟨hβ,hτ⟩,hp,s',hM',hS'⟩:=oi hl (fun cs e=>by cases e) hM hS
 have hval':Rep x' (.byt ((l.drop off).take n) .clip) (a.eval X):=by have:=hp _ _ hv;simpa only[SV.pub,if_true,xb,true_and,if_pos hb]using this
 have h1:∀p∈s'.ob,(x'.bk p.1).1≠(x.bk o').1:=by intro p hp' e;rw[hβ]at e;have h2:s'.look p.1=some p.2:=xo hM'.heap.nd hp';rw[hS'.look]at h2;obtain⟨h3,q',h4,_⟩:=j2 (i7 h2);have h5:=i5 (iW hS.inv.so) h4;exact h3 (hM.heap.inj (p.1,q') (db ((hS.look p.1).trans h5)) _ (db hls) e)
 have h2:∀t∈s'.tk,(x'.τ t).1≠(x.bk o').1\/(x'.τ t).2.1=(x'.τ t).2.2:=by intro t ht;rw[hτ];exact hM.heap.tko t ((hS.tk t).2 ((hS'.tk t).1 ht)) _ (db hls)
 have hfr:aN C x' s' a (w.freeze ⟨(x.bk o').1,cc.size,none⟩ 1):=⟨hM'.tm,hM'.defers,hM'.heap.freeze hob.2.1 h1 h2 _ _⟩
 have hrun:(execOp a.eval o).run P w= .ok (.value (a.eval X)) (w.freeze ⟨(x.bk o').1,cc.size,none⟩ 1):=by have hm:(markStringish ⟨(x.bk o').1,off',none⟩).run P w= .ok () (w.freeze ⟨(x.bk o').1,cc.size,none⟩ 1):=ez (e:=e') (by simp only[World.shape?,hO.1]);simp only[execOp,ho,hval,convert,az,run_underlying hu,aj,beq_self_eq_true,run_underlying (i6 h8),hm,aJ]
 refine dl ⟨a.eval X,_,x',_,hrun,.inl rfl,hfr.put o.dst hval'⟩ (k:=Sim N _) ?_ hK;have e1:(c.publish o' []).1=⟨ld o' (.bar l) c.tm,ky o' (.bar l) c.ob,c.tk⟩:=by unfold CSt.publish;rw[hl]
 rw[e1];exact hS'.put hd _
theorem ow{o:Oper}{xs:List Arg}(h:M C N c a w)(hr:bz P o=some (.litB xs))(hd:∀k,o.dst=some k->k<N)(hc:ni c o.dst (toB (evL c xs))=some c'){K:Act->World->Prop}{Q:Exit->Act->World->Prop}(hK:∀a w,M C N c' a w->K a w):o.wp P a w K Q:=by
 obtain⟨x,s,hM,hS⟩:=h;rw[hS.evL]at hc;unfold ni at hc;split at hc<;>try (cases hc;done)
 rename_i k l hk hl;cases hc;obtain⟨t,len,parts,ho⟩:=QJ hr;obtain⟨r,e,hrun,hsz,hcell⟩:=wW hM ho hr hl
 have hM':=hM.newObj (d:=k+100) o.dst (by omega) (.bar l) (val:= .psl (k+100) 1 0 l.length (some l.length)) (u:= .slice (some ⟨w.heap.size,0,none⟩) l.length l.length) (t:=e) hsz (fun i hi=>by
  show co x.G (.u8 (l.getD i 0)) _;rw[hcell i hi];exact .u8 _) (by
  have:=Rep.psl (x:=x.newO (k+100) w.heap.size) (k+100) 1 0 l.length (some l.length) 0 l.length (.inr rfl) (aK _) (fun _ e=>by cases e;rfl) (fun e=>by cases e);rwa[iZ]at this)
 refine dl ⟨_,_,_,_,hrun,.inl rfl,hM'⟩ (k:=Sim N _) ?_ hK;have:=hS.app hd (e:= {val:= .psl (k+100) 1 0 l.length (some l.length),new:=some (.bar l)}) (f:= {pre:=True,val:= .psl (k+100) 1 0 l.length (some l.length),new:=some (.bar l)}) ⟨rfl,rfl,rfl,rfl,rfl⟩ ⟨fun ob he=>by cases he;rfl,.inl rfl⟩;rw[hk]at this ⊢;exact this
theorem Gc(hM:aN C x s a w)(hS:Sim N c s){g:Nat}{t:Bool}(h:c.get g= .bool t):a.tmps[g]? =some (.bool t):=(Ge hM (by rw[hS.get];exact h)).2.1
theorem ut{ops:Array Oper}{o:Oper}{j g:Nat}{b:Bool}(h:o.guard=some (j,b))(hg:(ops[j]?).bind (·.dst)=some g)(ht:∀t,a.tmps[g]? ≠some (.bool t)):Region.wanted o (yielded ops a.tmps)=false:=by
 have hy:yielded ops a.tmps j=none:=by
  unfold yielded;rw[hg,cY];cases hv:a.tmps[g]? with
  |none=>rfl
  |some v=>
   cases v with
   |bool t=>exact absurd hv (ht t)
   |_=>rfl
 simp only[Region.wanted,h,hy];rfl
theorem uZ{x:Sit}:Rep x (.tup []) Go.undef:= .tup [] [] rfl fun i hi=>by simp at hi
theorem Gd(hM:aN C x s a w)(hS:Sim N c s){g:Nat}(h:c.get g= .tup []):∀t,a.tmps[g]? ≠some (.bool t):=by
 intro t ht;have h1:=hM.slot g;rw[hS.get,h]at h1
 have h2:a.tmps.getD g Go.undef= .bool t:=by rw[aQ,ht];rfl
 replace h1:Rep x (.tup []) (a.tmps.getD g Go.undef):=h1;rw[h2]at h1;cases h1 with
 |dat _ _ h _=>cases h
theorem GU{o:Oper}{q:Arg}(hr:bz P o=some (.s2b q)):∃src dst X e,o.op= .convert src dst X/\P.underlying src=some .string/\P.underlying dst=some (.slice e)/\lj P e=true/\bx P src X=some q:=by
 cases ho:o.op with
 |convert src dst X=>
  simp only[bz,ho]at hr;split at hr<;>try (cases hr;done)
  ·split at hr<;>cases hr
  ·rename_i e q' hs hd hX
   split at hr<;>try (cases hr;done)
   rename_i h8;cases hr;exact⟨src,dst,X,e,rfl,hs,hd,h8,hX⟩
  ·split at hr<;>cases hr
 |_=>exfalso;exact absurd hr (by
  intro hr;simp only[bz,ho]at hr
  first
   |(cases hr;done)
   |(obtain⟨_,_,h⟩:=ae.1 hr;cases h;done)
   |(repeat' split at hr)<;>first|(cases hr;done)|contradiction|(obtain⟨_,_,h⟩:=ae.1 hr;first|(cases h;done)|(split at h<;>cases h;done)))
theorem xdu{o:Oper}{z:List SV}{b:Nat}{q r:Arg}(hr:bz P o=some (.app z b q r)):∃cl,o.op= .call cl/\cl.callee= .builtin .append:=by
 cases ho:o.op with
 |call cl=>
  refine⟨cl,rfl, ?_⟩;cases hb:cl.callee with
  |builtin bb=>
   cases bb with
   |append=>rfl
   |_=>
    exfalso;simp only[bz,ho,hb]at hr
    first
     |(cases hr;done)
     |(repeat' split at hr)<;>first|(cases hr;done)|contradiction
  |_=>
   exfalso;simp only[bz,ho,hb]at hr
   first
    |(cases hr;done)
    |(repeat' split at hr)<;>first|(cases hr;done)|contradiction
 |_=>exfalso;exact absurd hr (by
  intro hr;simp only[bz,ho]at hr
  first
   |(cases hr;done)
   |(obtain⟨_,_,h⟩:=ae.1 hr;cases h;done)
   |(repeat' split at hr)<;>first|(cases hr;done)|contradiction|(obtain⟨_,_,h⟩:=ae.1 hr;first|(cases h;done)|(split at h<;>cases h;done)))
theorem aN.newObjF(hM:aN C x s a w){d:Nat}(sl:Option Nat)(hd100:100<=d){cv:Array Value}{t:TypeId}{fl fh:Nat}(obj:aC){val:SV}{u:Value}(hf:∀i,i<cv.size->¬(fl<=i/\i<fh))(hs:obj.size<=cv.size)(hr:∀k,k<obj.size->cf x obj k (cv.getD k Go.undef))
 (hmk:obj.arrB=true->¬(fl<=cv.size/\cv.size<fh)) (hv:Rep (x.newO d w.heap.size cv.size) val u) {w':World} (hw:w'.heap=(w.alloc (.cells cv t (fl,fh))).heap) (h1:w'.os=w.os) (h2:w'.tape=w.tape) (h3:w'.output=w.output):
 aN C (x.newO d w.heap.size cv.size) (((s.purge d (d+1)).addO d (obj.purge d (d+1))).put sl val) (a.put sl u) w':=by
 refine aN.put ⟨?_,hM.defers, ?_⟩ sl hv
 ·exact cj.mono (x:=x) (x':=x.newO d w.heap.size cv.size) (lo:=d) (hi:=d+1) (fun _ _ _ h=>h) (Sit.newO_ne x d _) (fun _ _=>rfl) hM.tm
 ·exact cX.congr (w:=w.alloc (.cells cv t (fl,fh))) (hM.heap.allocO d hd100 obj hf hs hr (aK _) hmk) hw h1 h2 h3
theorem aN.drew(hM:aN C x s a w):aN C x s a w.drew:=⟨hM.tm,hM.defers,hM.heap.drew⟩
theorem xh{o:Oper}{q:Arg}(h:M C N c a w)(hr:bz P o=some (.s2b q))(hd:∀k,o.dst=some k->k<N)(hc:Qo c o.dst (c.ev q)=some c'){K:Act->World->Prop}{Q:Exit->Act->World->Prop}(hK:∀a w,M C N c' a w->K a w):o.wp P a w K Q:=by
 obtain⟨x,s,hM,hS⟩:=h;unfold Qo at hc;split at hc<;>try (cases hc;done)
 rename_i k l hk hl;cases hc;obtain⟨src,dst,X,e,ho,hs,hdd,h8,hX⟩:=GU hr;have he:=i6 h8;have h1:=aP hM hX;rw[hS.ev,hl]at h1;have hf:(Question.appendCap (ByteArray.mk ⟨l⟩).size 0 e).forced=false:=rfl
 obtain⟨cp,hcp,hge⟩:∃cp,(Question.appendCap (ByteArray.mk ⟨l⟩).size 0 e).cut (w.tape w.drawn (Question.appendCap (ByteArray.mk ⟨l⟩).size 0 e))=cp/\l.length<=cp:=by
  refine⟨_,rfl, ?_⟩;simp only[Question.cut];have:(ByteArray.mk ⟨l⟩).size=l.length:=by simp[ByteArray.size]
  omega
 let cs:Array Value:=(ByteArray.mk ⟨l⟩).data.map (fun b=> .int .u8 b.toNat)++ei (cp-(ByteArray.mk ⟨l⟩).size) (.int .u8 0)
 have hsz:(ByteArray.mk ⟨l⟩).size=l.length:=by simp[ByteArray.size]
 have hcs:cs.size=cp:=by simp[cs,hsz];omega
 have hget:∀i,i<l.length->cs[i]? =some (.int .u8 (l.getD i 0).toNat):=by intro i hi;simp only[cs];rw[b8 (by simpa using hi)];simp[hi,aa]
 have hrun:(execOp a.eval o).run P w= .ok (.value (.slice (some ⟨w.heap.size,0,none⟩) l.length cp)) ((w.drew.alloc (.cells cs e (0,0))).freeze ⟨w.heap.size,cs.size,none⟩ 1):=by simp only[execOp,ho,h1.str_inv,convert,az,run_underlying hs,run_underlying hdd,aj,run_underlying he,Conv.stringToBytes,run_choose_drew,hf,aO,if_false,hcp,newRow,run_newObj_alloc,aJ];rw[ez (e:=e) (n:=cs.size) (by simp only[World.shape?];rw[heap_alloc_new])];simp only[aj,hsz];rfl
 have hM':=hM.drew.newObjF (d:=k+100) o.dst (by omega) (.bar l) (cv:=cs) (t:=e) (fl:=cs.size) (fh:=cs.size+1) (val:= .psl (k+100) 1 0 l.length none) (u:= .slice (some ⟨w.heap.size,0,none⟩) l.length cp) (fun i hi h=>by omega) (by simp only[aC.size];omega) (fun i hi=>by
  simp only[aC.size]at hi;show co x.G (.u8 (l.getD i 0)) _;have:cs.getD i Go.undef= .int .u8 (l.getD i 0).toNat:=by rw[aQ,hget i hi];rfl
  rw[this];exact .u8 _) (fun h=>by cases h) (by
  have:=Rep.psl (x:=x.newO (k+100) w.drew.heap.size cs.size) (k+100) 1 0 l.length none 0 cp (.inr rfl) hge (fun _ e=>by cases e) (fun _=> .inr (by rw[gX,hcs];omega));rw[iZ]at this;exact this) (gv w.drew cs e) rfl rfl rfl
 refine dl ⟨_,_,_,_,hrun,.inl rfl,hM'⟩ (k:=Sim N _) ?_ hK;have:=hS.app hd (e:= {val:= .psl (k+100) 1 0 l.length none,new:=some (.bar l)}) (f:= {pre:=True,val:= .psl (k+100) 1 0 l.length none,new:=some (.bar l)}) ⟨rfl,rfl,rfl,rfl,rfl⟩ ⟨fun ob he=>by cases he;rfl,.inl rfl⟩;rw[hk]at this ⊢;exact this
theorem wy{o:Oper}{q:Arg}(h:M C N c a w)(hr:bz P o=some (.s2b q))(hd:∀k,o.dst=some k->k<N)(hc:Pi c o.dst (c.ev q)=some c'){K:Act->World->Prop}{Q:Exit->Act->World->Prop}(hK:∀a w,M C N c' a w->K a w):o.wp P a w K Q:=by
 obtain⟨x,s,hM,hS⟩:=h;unfold Pi at hc;split at hc<;>try (cases hc;done)
 rename_i k l hk hl;cases hc;obtain⟨src,dst,X,e,ho,hs,hdd,h8,hX⟩:=GU hr;have he:=i6 h8;have h1:=aP hM hX;rw[hS.ev,hl]at h1;have hf:(Question.appendCap (ByteArray.mk ⟨l⟩).size 0 e).forced=false:=rfl
 obtain⟨cp,hcp,hge⟩:∃cp,(Question.appendCap (ByteArray.mk ⟨l⟩).size 0 e).cut (w.tape w.drawn (Question.appendCap (ByteArray.mk ⟨l⟩).size 0 e))=cp/\l.length<=cp:=by
  refine⟨_,rfl, ?_⟩;simp only[Question.cut];have:(ByteArray.mk ⟨l⟩).size=l.length:=by simp[ByteArray.size]
  omega
 let cs:Array Value:=(ByteArray.mk ⟨l⟩).data.map (fun b=> .int .u8 b.toNat)++ei (cp-(ByteArray.mk ⟨l⟩).size) (.int .u8 0)
 have hsz:(ByteArray.mk ⟨l⟩).size=l.length:=by simp[ByteArray.size]
 have hcs:cs.size=cp:=by simp[cs,hsz];omega
 have hget:∀i,i<l.length->cs[i]? =some (.int .u8 (l.getD i 0).toNat):=by intro i hi;simp only[cs];rw[b8 (by simpa using hi)];simp[hi,aa]
 have hrun:(execOp a.eval o).run P w= .ok (.value (.slice (some ⟨w.heap.size,0,none⟩) l.length cp)) ((w.drew.alloc (.cells cs e (0,0))).freeze ⟨w.heap.size,cs.size,none⟩ 1):=by simp only[execOp,ho,h1.str_inv,convert,az,run_underlying hs,run_underlying hdd,aj,run_underlying he,Conv.stringToBytes,run_choose_drew,hf,aO,if_false,hcp,newRow,run_newObj_alloc,aJ];rw[ez (e:=e) (n:=cs.size) (by simp only[World.shape?];rw[heap_alloc_new])];simp only[aj,hsz];rfl
 have hG:∀o,x.G w.heap.size o=none:=by
  intro o;cases hg:x.G w.heap.size o with
  |none=>rfl
  |some v=>exact absurd (hM.heap.ltG hg) (by omega)
 have hle:=hM.heap.newD_le cs l.length;have hH:cX C (x.newD w.heap.size cs l.length) s.ob s.tk (w.drew.alloc (.cells cs e (cs.size,cs.size+1))):=hM.heap.drew.allocD l.length;have hown:eh (w.drew.alloc (.cells cs e (cs.size,cs.size+1))) w.heap.size cs e cs.size (cs.size+1):=⟨heap_alloc_new (w:=w.drew),fun i _ h=>by omega⟩
 have hH2:cX C ((x.newD w.heap.size cs l.length).newT (k+100) w.heap.size l.length cp) (bF (k+100) (k+100+1) s.ob) ((k+100)::cz (k+100) (k+100+1) s.tk) (w.drew.alloc (.cells cs e (cs.size,cs.size+1))):=by
  refine hH.addT (k+100) w.heap.size _ _ (.inr ⟨⟨cs,e,_,_,hown,by omega⟩,hM.heap.new _ hM.heap.size,fun o h1 h2=> ?_⟩) (.inr fun p hp _=> ?_) (.inr fun u hu _=> ?_)
  ·simp only[Sit.newD];rw[if_neg (by omega)];exact hG o
  ·obtain⟨⟨c2,e2,fl2,fh2,hO2,_⟩,_⟩:=hM.heap.obs p hp
   have:=hO2.lt;show w.heap.size≠(x.bk p.1).1;omega
  ·rcases hM.heap.tks u hu with h|⟨⟨c2,e2,fl2,fh2,hO2,_⟩,_⟩
   ·exact .inr h
   ·have:=hO2.lt
    exact .inl (by show w.heap.size≠(x.τ u).1;omega)
 have hM':aN C ((x.newD w.heap.size cs l.length).newT (k+100) w.heap.size l.length cp) ((s.grew .no (k+100)).put o.dst (.byt l (.id (k+100)))) (a.put o.dst (.slice (some ⟨w.heap.size,0,none⟩) l.length cp)) ((w.drew.alloc (.cells cs e (0,0))).freeze ⟨w.heap.size,cs.size,none⟩ 1):=by
  refine aN.put ⟨?_,hM.defers, ?_⟩ o.dst ?_
  ·exact cj.mono (x:=x) (x':=(x.newD w.heap.size cs l.length).newT (k+100) w.heap.size l.length cp) (lo:=k+100) (hi:=k+100+1) hle (fun _ _=>rfl) (Sit.newT_ne (x.newD w.heap.size cs l.length) (k+100) _ _ _) hM.tm
  ·exact cX.congr (w:=w.drew.alloc (.cells cs e (cs.size,cs.size+1))) hH2 (gv w.drew cs e) rfl rfl rfl
  ·refine .dat _ _ (.byt l _ w.heap.size 0 cp l.length rfl hge fun i hi=> ?_) ⟨_,l.length,cp,rfl,.inr ⟨w.heap.size,0,rfl, ?_⟩⟩
   ·show(x.newD w.heap.size cs l.length).G w.heap.size (0+i)=_
    simp only[Sit.newD];rw[if_pos ⟨trivial,by omega⟩,bS];exact hget i hi
   ·rw[Sit.newT_eq,iJ,iJ,bS,bS]
 refine dl ⟨_,_,_,_,hrun,.inl rfl,hM'⟩ (k:=Sim N _) ?_ hK;have:=hS.app hd (e:= {val:= .byt l (.id (k+100)),tok:=true}) (f:= {pre:=True,val:= .byt l (.id (k+100)),tok:=true}) ⟨rfl,rfl,rfl,rfl,rfl⟩ ⟨fun ob he=>(by cases he),.inl rfl⟩;rw[hk]at this ⊢;exact this
theorem rG(hM:aN C x s a w){t u el:TypeId}{d2:TypeDesc}{n by_:Nat}{zs:List Value}(hd:P.underlying t=some (.slice el))(hu:P.underlying u=some d2)(hu2:(∃e',d2= .slice e')\/d2= .string)(hn:fd P el=some n)(hb:sO P el=some by_)
 (hz:fU P el=some zs) (hb0:by_≠0) (hzl:zs.length=n) {ty:TypeId} {X Y:Value} {fl fl':List SV} {ns:List Value} {len m cap:Nat} (hX:Cb x.G n fl X len cap)
 (hlen:∀w',w'.heap=w.heap->(Builtin.lenOf Y).run P w'= .ok m w') (hcells:∀w',w'.heap=w.heap->(Builtin.firstCells n m Y).run P w'= .ok ns.toArray w') (hnl:ns.length=m*n) (hnew:New x ns fl') (hroom:(len+m)*by_<=140737488355328) (hc:¬len+m<=cap):
 ∃nc cv,len+m<=nc/\(Builtin.append_ #[t,u] ty #[X,Y]).run P w= .ok (.slice (some ⟨w.heap.size,0,none⟩) (len+m) nc) (w.drew.alloc (.cells cv el (0,0)))/\((fl++fl').length<=cv.size/\nc*n<=cv.size)/\∀k,k<(fl++fl').length->co x.G ((fl++fl').getD k .undef) (cv.getD k Go.undef):=by
 obtain⟨hfl,hlc,hX'⟩:=hX;obtain⟨z,hzc,hzr⟩:=cS hz
 obtain⟨i,hi,hib⟩:∃i,P.info? el=some i/\i.bytes=by_:=by
  unfold sO at hb;cases hi:P.info? el with
  |none=>simp[hi]at hb
  |some i=>simp[hi]at hb;exact⟨i,rfl,hb⟩
 obtain⟨bs,hXe⟩:∃bs,X= .slice bs len cap:=by
  rcases hX' with⟨b,off,rfl,_⟩|⟨⟨a,rfl⟩,rfl,rfl⟩
  ·exact⟨_,rfl⟩
  ·exact⟨_,rfl⟩
 subst hXe;have hfl':fl'.length=m*n:=by rw[hnew.len,hnl]
 obtain⟨os,hos,hosl,hosv⟩:∃os:List Value,(∀w',w'.heap=w.heap->(Builtin.firstCells n len (.slice bs len cap)).run P w'= .ok os.toArray w')/\os.length=fl.length/\∀k,k<fl.length->co x.G (fl.getD k .undef) (os.getD k Go.undef):=by
  rcases hX' with⟨b,off,he,hr⟩|⟨he,h1,h2⟩
  ·simp only[Value.slice.injEq]at he
   obtain⟨rfl,_⟩:=he;refine⟨(bA (len*n)).map fun k=>(w.cell? ⟨b,off+k,none⟩).getD Go.undef,fun w' hw'=> ?_,by simp[hfl],fun k hk=> ?_⟩
   ·simp only[Builtin.firstCells]
    refine run_loadCells w' _ _ _ fun j hj=> ?_
    rw[di,dr (w:=w) (by rw[hw'])];obtain⟨v,hv,_⟩:=hr j (by omega);rw[hM.heap.per _ _ _ hv];rfl
   ·obtain⟨v,hv,hrv⟩:=hr k hk
    have:((bA (len*n)).map fun k=>(w.cell? ⟨b,off+k,none⟩).getD Go.undef).getD k Go.undef=v:=by rw[aa];simp[show k<len*n from by omega,hM.heap.per _ _ _ hv]
    rw[this];exact hrv
  ·obtain⟨a,he⟩:=he
   simp only[Value.slice.injEq]at he;obtain⟨rfl,rfl,_⟩:=he;have:fl=[]:=cd.1 (by rw[<-hfl,h1,fo]);subst this;exact⟨[],fun w' _=>by cases bs<;>simp only[Builtin.firstCells,fo]<;>rfl,rfl,fun k hk=>by simp at hk⟩
 obtain⟨nc,hnc,hrun⟩:=eK (t:=t) (u:=u) (ty:=ty) (Y:=Y) hd hu hu2 hn hi hib hb0 hzr hlen hcells hos hc hroom;refine⟨nc,_,hnc,hrun, ?_,fun k hk=> ?_⟩
 ·have hzs:z.cells.size=n:=by rw[<-aS,hzc];exact hzl
  have e3:len*n+m*n+(nc-(len+m))*n=nc*n:=by rw[<-bv,<-bv];congr 1;omega
  simp only[af,cG,bT,hosl,<-hnew.len,bV,hzs];omega
 ·have hkl:k<os.length+ns.length:=by rw[hosl,<-hnew.len,<-af];exact hk
  rw[aQ,jR os ns _ k hkl]
  by_cases hk1:k<fl.length
  ·have e1:(fl++fl').getD k .undef=fl.getD k .undef:=by simp only[aa,bq hk1]
   have e2:((os++ns)[k]?).getD Go.undef=os.getD k Go.undef:=by simp only[aa,bq (show k<os.length by omega)]
   rw[e1,e2];exact hosv k hk1
  ·have e1:(fl++fl').getD k .undef=fl'.getD (k-fl.length) .undef:=by simp only[aa,bB (Nat.le_of_not_lt hk1)]
   have e2:((os++ns)[k]?).getD Go.undef=ns.getD (k-fl.length) Go.undef:=by simp only[aa,bB (show os.length<=k by omega),hosl]
   rw[e1,e2];exact hnew.rep _ (by rw[af]at hk;omega)
theorem kj{n:Nat}{fl:List SV}{X:Value}{len cap:Nat}(hX:Cb x.G n fl X len cap)(hsp:dt x n .clip X):cap=len:=by
 obtain⟨a,k,he⟩:=hsp;obtain⟨_,_,hX'⟩:=hX;rcases hX' with⟨b,off,h,_⟩|⟨h,h1,h2⟩
 ·rw[h]at he;simp only[Value.slice.injEq]at he;omega
 ·omega
theorem mK(o:Nat)(obj:aC):∀l:List (Nat×aC),bF o (o+1) (setO o obj l)=bF o (o+1) l
 |[]=>rfl
 |p::r=>by
  simp only[setO]
  by_cases hp:p.1=o
  ·rw[if_pos hp]
   simp only[bF];rw[if_pos (by omega),if_pos (by omega)]
  ·rw[if_neg hp]
   simp only[bF];rw[if_neg (by omega),if_neg (by omega),mK o obj r]
theorem xd{o:Oper}{z:List SV}{by_ o' sz n:Nat}{r q:Arg}(h:M C N c a w)(hr:bz P o=some (.app z by_ r q))(hd:∀k,o.dst=some k->k<N)(hx:c.ev r= .psl o' sz 0 n none)
 (hc:M0 c z by_ o' sz n o.dst (fM c z.length (.psl o' sz 0 n none)) (fM c z.length (c.ev q))=some c') {K:Act->World->Prop} {Q:Exit->Act->World->Prop} (hK:∀a w,M C N c' a w->K a w):o.wp P a w K Q:=by
 obtain⟨x,s,hM,hS⟩:=h;obtain⟨X,Y,t,u,el,d2,zs,I,hu2,_⟩:=R2 hr (.inl rfl) a;have hu2:=hu2 rfl;have h1:=aP hM I.hX;have h2:=aP hM I.hY;rw[hS.ev,hx]at h1;unfold M0 at hc;split at hc<;>try (cases hc;done)
 rename_i k R0 R1 hk hR0 hR1;rw[aG]at hc;obtain⟨⟨rfl,hR0l,hroom⟩,hc⟩:=hc;obtain⟨p0,hR0',hp0⟩:=jX hS hR0;obtain⟨p1,hR1',hp1⟩:=jX hS hR1;rw[<-hS.ev]at hR1';obtain⟨os,g0,n0,s0⟩:=o9 (P:=P) hM h1 hR0' hp0;obtain⟨ns,g1,n1,s1⟩:=o9 (P:=P) hM h2 hR1' hp1
 obtain⟨xs,hl,hbd,hR0e⟩:∃xs,c.look o'=some (.arr z.length xs)/\n<=xs.length/\R0=xs.take n:=by
  simp only[fM]at hR0;split at hR0
  ·rename_i sz'' xs hl
   obtain⟨⟨_,e1,e2⟩,e3⟩:=bN hR0;exact⟨xs,by rw[hl,<-e1],by omega,by rw[<-e3];rfl⟩
  ·cases hR0
 obtain⟨cp,hncp,off',hXe,hoff,hkk⟩:=h1.psl_invK;have hnl:ns.length=R1.length*z.length:=by rw[<-n1.len,bJ g1]
 have hol:os.length=n*z.length:=by rw[<-n0.len,bJ g0,hR0l]
 have hls:s.look o'=some (.arr z.length xs):=(hS.look o').trans hl;obtain⟨cc,e,fl,fh,hO,⟨hsz,hsz2,hsz3⟩,hcell⟩:=eT hM hls;have hrows:∀y∈R0++R1,y.length=z.length:=fun y hy=>(al.1 hy).elim (g0 y) (g1 y)
 have hrx:∀y∈xs,y.length=z.length:=hS.rows hl;have hN:=n0.append n1;rw[<-bL]at hN;have hsize:(aC.arr z.length (R0++R1)).size=(n+R1.length)*z.length:=by simp only[aC.size,af,hR0l]
 have hsim:=(hS.purge o' (o'+1)).app (d:=o.dst) hd (e:= {val:= .psl (k+100) z.length 0 (n+R1.length) none,new:=some (.arr z.length (R0++R1))}) (f:= {pre:=True,val:= .psl (k+100) z.length 0 (n+R1.length) none,new:=some (.arr z.length (R0++R1))}) ⟨rfl,rfl,rfl,rfl,rfl⟩ ⟨fun ob he=>by cases he;exact fF.2 hrows,.inl rfl⟩;have hce:=aq.inj hc;subst hce;have hex:=I.ex;rw[hXe]at hex;have e5:(n+R1.length)*z.length=n*z.length+R1.length*z.length:=bv _ _ _
 by_cases hfit:n+R1.length<=cp
 ·have hfitc:n*z.length+ns.length<=cc.size:=by
   rcases hkk with h0|h0
   ·have h3:n=0:=by omega
    have h4:R1.length=0:=by omega
    rw[hnl,h3,h4];omega
   ·have h3:(n+R1.length)*z.length<=cp*z.length:=aX _ hfit
    rw[hnl];omega
  obtain⟨q1,q2,q3,q4,q5⟩:=dn ((x.bk o').1) ns w (n*z.length);obtain⟨c2,hO2,hcs,hck⟩:=dd ns w (n*z.length) cc hO hfitc
  have hM1:aN C x (s.setO o' (.arr z.length (R0++R1))) a (bU w ((x.bk o').1) (n*z.length) ns):=
   ⟨hM.tm,hM.defers,hM.heap.block (db hls) q1 q2 q3 q4 q5 ⟨c2,e,fl,fh,hO2,⟨by rw[hsize,hcs];omega,by rw[hcs];exact hsz2,fun h=>by rw[hcs];exact hsz3 rfl⟩,fun i hi=>by
    rw[hsize]at hi;rw[hck i];have hi2:i<(R0++R1).length*z.length:=by rw[af,hR0l];exact hi
    show co x.G ((((R0++R1)).getD (i/z.length) []).getD (i % z.length) .undef) _;rw[<-cJ _ hrows i hi2,bL];have hfl0:R0.flatten.length=n*z.length:=by rw[bJ g0,hR0l]
    by_cases hin:n*z.length<=i
    ·rw[if_pos ⟨hin,by omega⟩]
     have:=n1.rep (i-n*z.length) (by rw[bJ g1];omega);rw[aa,bB (by omega),hfl0,<-aa];exact this
    ·rw[if_neg (fun h=>hin h.1)]
     have hlt:n*z.length<=xs.length*z.length:=aX _ hbd;have h3:=hcell i (by simp only[aC.size];omega);change co x.G ((xs.getD (i/z.length) []).getD (i % z.length) .undef) _ at h3;rw[<-cJ xs hrx i (by omega)]at h3;rw[aa,bq (by omega),hR0e]
     have e6:xs.flatten[i]? =(xs.take n).flatten[i]? :=by
      have:xs.flatten=(xs.take n).flatten++(xs.drop n).flatten:=by rw[<-bL,dk]
      rw[this,bq (by rw[<-hR0e];omega)]
     rw[<-e6,<-aa];exact h3⟩⟩
  have hM2:=hM1.move (d:=k+100) (by omega) (obj:= .arr z.length (R0++R1)) (by show(setO o' _ s.ob).lookup o'=_;have h3:s.ob.lookup o'=some (.arr z.length xs):=hls;rw[jN,if_pos ⟨rfl,by rw[h3];rfl⟩]) (fun cs e=>by cases e)
  have hpe:(s.setO o' (.arr z.length (R0++R1))).purge o' (o'+1)=s.purge o' (o'+1):=by simp only[St.purge,St.setO,mK]
  rw[hpe]at hM2;have hd2:(x.newO (k+100) (x.bk o').1 (x.bk o').2).bk (k+100)=x.bk o':=if_pos rfl
  have hv:Rep (x.newO (k+100) (x.bk o').1 (x.bk o').2) (.psl (k+100) z.length 0 (n+R1.length) none) (.slice (some ⟨(x.bk o').1,off',none⟩) (n+R1.length) cp):=by have:=Rep.psl (x:=x.newO (k+100) (x.bk o').1 (x.bk o').2) (k+100) z.length 0 (n+R1.length) none off' cp hoff hfit (fun _ e=>by cases e) (fun _=>by rw[hd2];exact hkk);rw[hd2]at this;exact this
  have hM3:=hM2.put o.dst hv
  have hrun:=ew (P:=P) (t:=t) (u:=u) (ty:=o.type) (Y:=a.eval Y) (bs:=some ⟨(x.bk o').1,off',none⟩) (len:=n) (m:=R1.length) (cap:=cp) (w1:=bU w ((x.bk o').1) (n*z.length) ns) I.hd I.hu hu2 I.hn (s1.len w rfl) (s1.cells w rfl) hfit (by
   simp only[di]
   by_cases hc0:cp=0
   ·have:ns=[]:=cd.1 (by
     rw[hnl];have:R1.length=0:=by omega
     rw[this,fo])
    rw[this];simp[storeCells,bU]
   ·rw[hoff.resolve_left hc0,fo,bS]
    exact fv (n*z.length) ns w cc 0 hO (by omega) n1.one)
  refine dl ⟨_,_,_,.value _, ?_,.inl rfl,hM3⟩ (k:=Sim N _) ?_ hK
  ·rw[hex];simp only[az,hrun,aj,aJ]
  ·rw[hk]at hsim ⊢
   exact hsim
 ·obtain⟨i,hi,hib⟩:=Dz I.hby
  obtain⟨zv,hzc,hzr⟩:=cS I.hz
  obtain⟨nc,hnc,hrun⟩:=eK (P:=P) (t:=t) (u:=u) (ty:=o.type) (Y:=a.eval Y) (bs:=some ⟨(x.bk o').1,off',none⟩) (len:=n) (m:=R1.length) (cap:=cp) (os:=os) (ns:=ns) I.hd I.hu hu2 I.hn hi hib I.hb0 hzr s1.len s1.cells (by have:=s0.cells;rw[hXe,hR0l]at this;exact this) hfit hroom
  have hzs:zv.cells.size=z.length:=by rw[<-aS,hzc];exact I.hzl.symm
  have hcvs:(os.toArray++ns.toArray++Builtin.zeroCells zv.cells (nc-(n+R1.length))).size=nc*z.length:=by simp only[cG,bT,bV,hzs,hol,hnl];rw[<-bv,<-bv];congr 1;omega
  have hM':=(hM.purge o' (o'+1)).drew.newObjF (d:=k+100) o.dst (by omega) (.arr z.length (R0++R1)) (cv:=os.toArray++ns.toArray++Builtin.zeroCells zv.cells (nc-(n+R1.length))) (t:=el) (fl:=0) (fh:=0) (val:= .psl (k+100) z.length 0 (n+R1.length) none) (u:= .slice (some ⟨w.heap.size,0,none⟩) (n+R1.length) nc) (fun i hi h=>by omega) (by
   rw[hsize,hcvs];exact aX _ hnc) (fun i hi=>by
   rw[hsize]at hi;have h3:=rF hrows hN i (by rw[af,hR0l];exact hi)
   have e7:(os.toArray++ns.toArray++Builtin.zeroCells zv.cells (nc-(n+R1.length))).getD i Go.undef=(⟨os++ns⟩:Array Value).getD i Go.undef:=by rw[aQ,jR os ns _ i (by rw[hol,hnl];omega),aQ];simp
   rw[e7];exact h3) (fun _ h=>by omega) (by
   have:=Rep.psl (x:=x.newO (k+100) w.drew.heap.size (os.toArray++ns.toArray++Builtin.zeroCells zv.cells (nc-(n+R1.length))).size) (k+100) z.length 0 (n+R1.length) none 0 nc (.inr (by omega)) hnc (fun _ e=>by cases e) (fun _=> .inr (by rw[gX,hcvs];omega));rw[iZ]at this;exact this) (w':=w.drew.alloc (.cells (os.toArray++ns.toArray++Builtin.zeroCells zv.cells (nc-(n+R1.length))) el (0,0))) rfl rfl rfl rfl
  refine dl ⟨_,_,_,.value _, ?_,.inl rfl,hM'⟩ (k:=Sim N _) ?_ hK
  ·rw[hex];simp only[az,hrun,aj,aJ]
  ·rw[hk]at hsim ⊢
   exact hsim
theorem ot{o:Oper}{z:List SV}{by_:Nat}{r q:Arg}(h:M C N c a w)(hr:bz P o=some (.app z by_ r q))(hd:∀k,o.dst=some k->k<N)(hc:qW c o.dst z by_ q (c.ev r)=some c'){K:Act->World->Prop}{Q:Exit->Act->World->Prop}(hK:∀a w,M C N c' a w->K a w):o.wp P a w K Q:=by
 by_cases hpsl:∃o' sz n,c.ev r= .psl o' sz 0 n none
 ·obtain⟨o',sz,n,hx⟩:=hpsl
  rw[hx]at hc;exact xd h hr hd hx hc hK
 obtain⟨x,s,hM,hS⟩:=h;obtain⟨cl,ho,hb⟩:=xdu hr;simp only[bz,ho,hb]at hr;split at hr<;>try (cases hr;done)
 rename_i X Y t u hX ht;split at hr<;>try (cases hr;done)
 rename_i el d2 r' q' hdd hu hra hrb;split at hr<;>try (cases hr;done)
 rename_i n by' z' hn hby hz
 rw[aG]at hr;obtain⟨hcond,hr⟩:=hr;simp only[aA,decide_eq_true_eq]at hcond;obtain⟨⟨hb0,hn0⟩,hzl'⟩:=hcond;obtain⟨zs,hzc,hzl0,_⟩:=jc hz;have hzl:zs.length=n:=by omega
 obtain⟨hu2,rfl,rfl,rfl,rfl⟩:((∃e',d2= .slice e')\/d2= .string)/\z'=z/\by'=by_/\r'=r/\q'=q:=by
  split at hr<;>try (cases hr;done)
  ·cases hr;exact⟨.inl ⟨_,rfl⟩,rfl,rfl,rfl,rfl⟩
  ·rw[aG]at hr
   obtain⟨_,hr⟩:=hr;cases hr;exact⟨.inr rfl,rfl,rfl,rfl,rfl⟩
 have h1:=aP hM hra;have h2:=aP hM hrb;have ea:cl.args= #[X,Y]:=by apply dY;simpa using hX
 have et:cl.argTypes= #[t,u]:=by apply dY;simpa using ht
 have hex:=fH (a:=a) ho hb _ rfl;rw[ea,et]at hex;have em: #[X,Y].map a.eval= #[a.eval X,a.eval Y]:=by simp
 rw[em]at hex
 have hex':∀{v w'},(Builtin.append_ #[t,u] o.type #[a.eval X,a.eval Y]).run P w= .ok v w'->(execOp a.eval o).run P w= .ok (.value v) w':=by intro v w' hrun;rw[hex];simp[hrun]
 rw[hS.ev]at h1
 have fin:∀{k nc cv}(obj:aC)(sz m:Nat),o.dst=some k->m<=nc->(Builtin.append_ #[t,u] o.type #[a.eval X,a.eval Y]).run P w= .ok (.slice (some ⟨w.heap.size,0,none⟩) m nc) (w.drew.alloc (.cells cv el (0,0)))->
  obj.size<=cv.size->nc*sz<=cv.size->(∀i,i<obj.size->cf x obj i (cv.getD i Go.undef))->obj.wf=true->c'=c.app (some k) {val:= .psl (k+100) sz 0 m none,new:=some obj}->o.wp P a w K Q:=by
  intro k nc cv obj sz m hk hnc hrun hsz hncs hcell hwf hce;subst hce
  have hM':=hM.drew.newObjF (d:=k+100) o.dst (by omega) obj (cv:=cv) (t:=el) (fl:=0) (fh:=0) (val:= .psl (k+100) sz 0 m none) (u:= .slice (some ⟨w.heap.size,0,none⟩) m nc) (fun i hi h=>by omega) hsz hcell (fun _ h=>by omega) (by have:=Rep.psl (x:=x.newO (k+100) w.drew.heap.size cv.size) (k+100) sz 0 m none 0 nc (.inr (by omega)) hnc (fun _ e=>by cases e) (fun _=> .inr (by rw[gX];omega));rw[iZ]at this;exact this) (w':=w.drew.alloc (.cells cv el (0,0))) rfl rfl rfl rfl
  refine dl ⟨_,_,_,_,hex' hrun,.inl rfl,hM'⟩ (k:=Sim N _) ?_ hK;have:=hS.app hd (e:= {val:= .psl (k+100) sz 0 m none,new:=some obj}) (f:= {pre:=True,val:= .psl (k+100) sz 0 m none,new:=some obj}) ⟨rfl,rfl,rfl,rfl,rfl⟩ ⟨fun ob he=>by cases he;exact hwf,.inl rfl⟩;rw[hk]at this ⊢;exact this
 unfold qW at hc;split at hc<;>try (cases hc;done)
 ·rename_i l tk hl
  rw[aG]at hc;obtain⟨rfl,hc⟩:=hc;unfold Qn at hc;split at hc<;>try (cases hc;done)
  rename_i k l' hk hl';split at hc<;>try (cases hc;done)
  rename_i hz1;have hz1:z'.length=1:=Classical.not_not.1 hz1;obtain rfl:n=1:=by omega
  obtain⟨p,hl'',hp0⟩:=mF hS hl';rw[<-hS.ev]at hl'';rw[hl]at h1;obtain⟨g1,g2⟩:=iI (P:=P) hM h2 hl'' hp0;obtain⟨_,_,_,_,_,hsp⟩:=h1.byt_inv;obtain⟨cap,hF,_⟩:=vN (h1.data rfl)
  by_cases hne:l'=[]
  ·rw[if_pos hne]at hc
   cases hc;subst hne
   obtain⟨bs,hXe⟩:∃bs,a.eval X= .slice bs l.length cap:=by
    rcases hF.2.2 with⟨b,off,h,_⟩|⟨h,h1,h2⟩
    ·exact⟨_,h⟩
    ·exact⟨_,by rw[h.choose_spec,h1,h2]⟩
   have hcap:=kj hF hsp;rw[hXe]at h1 hex'
   have hrun:=ew (P:=P) (t:=t) (u:=u) (ty:=o.type) (Y:=a.eval Y) (ns:=[]) (w:=w) (w1:=w) (m:=0) (bs:=bs) (len:=l.length) (cap:=cap) hdd hu hu2 hn (g1 w rfl) (by have:=g2 0 (aK _) w rfl;simpa using this) (by omega) (by cases bs<;>rfl)
   refine dl ⟨_,_,_,_,hex' hrun,.inl rfl,hM.put o.dst h1⟩ (k:=Sim N _) ?_ hK;have:=hS.put hd (.byt l .clip);rw[hk]at this ⊢;exact this
  ·rw[if_neg hne]at hc
   rw[aG]at hc;obtain⟨⟨rfl,hroom⟩,hc⟩:=hc;have hcap:=kj hF hsp;have hpos:0<l'.length:=List.length_pos_iff.2 hne
   obtain⟨nc,cv,hnc,hrun,hsz,hcell⟩:=rG (ty:=o.type) hM hdd hu hu2 hn hby hzc hb0 hzl hF g1 (fun w' hw'=>by have:=g2 l'.length (aK _) w' hw';rwa[kp]at this) (by simp) (qZ l') (by omega) (by omega)
   refine fin (.bar (l++l')) 1 _ hk hnc hrun (by simp only[aC.size];simpa using hsz.1) hsz.2 (fun i hi=> ?_) rfl (aq.inj hc).symm;simp only[aC.size]at hi;have:=hcell i (by simpa using hi);rw[<-du,iw _ _ hi]at this;exact this
 ·rename_i sz l tk hl
  rw[aG]at hc;obtain⟨rfl,hc⟩:=hc;unfold Qm at hc;split at hc<;>try (cases hc;done)
  rename_i k l' hk hl';obtain⟨p,hl'',hp0⟩:=jX hS hl';rw[<-hS.ev]at hl'';rw[hl]at h1;obtain⟨hrows',g1,ns,hnew,g2⟩:=gL (P:=P) hM h2 hl'' hp0;obtain⟨_,_,_,_,_,hsp⟩:=h1.lst_inv;obtain⟨cap,hF,_,hrows⟩:=px (h1.data rfl)
  by_cases hne:l'=[]
  ·rw[if_pos hne]at hc
   cases hc;subst hne
   obtain⟨bs,hXe⟩:∃bs,a.eval X= .slice bs l.length cap:=by
    rcases hF.2.2 with⟨b,off,h,_⟩|⟨h,h1,h2⟩
    ·exact⟨_,h⟩
    ·exact⟨_,by rw[h.choose_spec,h1,h2]⟩
   have hcap:=kj hF hsp;rw[hXe]at h1 hex'
   have hrun:=ew (P:=P) (t:=t) (u:=u) (ty:=o.type) (Y:=a.eval Y) (ns:=[]) (w:=w) (w1:=w) (m:=0) (bs:=bs) (len:=l.length) (cap:=cap) hdd hu hu2 hn (g1 w rfl) (by have:=g2 0 (aK _) w rfl;rw[hzl']at this;simpa using this) (by omega) (by cases bs<;>rfl)
   refine dl ⟨_,_,_,_,hex' hrun,.inl rfl,hM.put o.dst h1⟩ (k:=Sim N _) ?_ hK;have:=hS.put hd (.lst sz l .clip);rw[hk]at this ⊢;exact this
  ·rw[if_neg hne]at hc
   rw[aG]at hc;obtain⟨⟨rfl,hroom⟩,hc⟩:=hc;obtain rfl:n=z'.length:=by omega
   have hcap:=kj hF hsp;have hpos:0<l'.length:=List.length_pos_iff.2 hne;have hnl:ns.length=l'.length*z'.length:=by rw[<-hnew.len,bJ hrows']
   obtain⟨nc,cv,hnc,hrun,hsz,hcell⟩:=rG (ty:=o.type) hM hdd hu hu2 hn hby hzc hb0 hzl hF g1 (fun w' hw'=>by have:=g2 l'.length (aK _) w' hw';rwa[<-hnl,kp]at this) hnl hnew hroom (by omega)
   have hrows2:∀y∈l++l',y.length=z'.length:=fun y hy=>(al.1 hy).elim (hrows y) (hrows' y)
   have hlen2:(l++l').length*z'.length=(l.flatten++l'.flatten).length:=by rw[<-bL,bJ hrows2]
   refine fin (.arr z'.length (l++l')) z'.length _ hk hnc hrun (by simp only[aC.size];omega) hsz.2 (fun i hi=> ?_) (fF.2 hrows2) (aq.inj hc).symm;simp only[aC.size]at hi;have:=hcell i (by omega);rw[<-bL,cJ _ hrows2 i hi]at this;exact this
 ·rename_i o' sz n hl
  exact absurd ⟨o',sz,n,hl⟩ hpsl
theorem qX(hcal:gb P call){o:Oper}{so:SOp}(h:M C N c a w)(hr0:qG P o so.er)(hd:∀k,o.dst=some k->k<N)(hc:opC call sg c o.dst so=some c'){K:Act->World->Prop}{Q:Exit->Act->World->Prop}(hK:∀a w,M C N c' a w->K a w):o.wp P a w K Q:=by
 by_cases hao:∃z b q y,so= .appO z b q y
 ·obtain⟨z,b,q,y,rfl⟩:=hao
  exact ot h (hr0.old (by intro xs e;cases e)) hd hc hK
 have her:so.er=so:=by cases so<;>first|rfl|exact absurd ⟨_,_,_,_,rfl⟩ hao
 rw[her]at hr0
 by_cases hnb:∃xs,so= .newB xs
 ·obtain⟨xs,rfl⟩:=hnb
  rcases hr0 with hr|⟨ys,e,hr⟩
  ·exact(Ft hr).elim
  ·cases e
   exact ow h hr hd hc hK
 have hr:=hr0.old fun xs e=>hnb ⟨xs,e⟩
 by_cases hsl:∃q,so= .slid q
 ·obtain⟨q,rfl⟩:=hsl
  exact wL h hr hd hc hK
 by_cases hcl:∃f as,so= .call f as
 ·obtain⟨f,as,rfl⟩:=hcl
  simp only[opC]at hc;split at hc<;>try (cases hc;done)
  rename_i g c1 c2 hg;obtain⟨x,s,hM,hS⟩:=h;obtain⟨cl,F,ho,hb,h1,h2,h3⟩:=Gv hr;obtain⟨as',os',k',q',hq'⟩:=xJ hc;have hcb:dL P g=true:=(hcal _ _ _ _ _ hq').1;obtain⟨vs,hrun,hvs⟩:=Dl hM ho hb h1 h2 h3 (by rw[hS.ev];exact hg) hcb;rw[<-hS.evL]at hvs;exact uq hrun (uD hM hS hd (hcal g) hc hvs) hK
 ·refine xeL h hr hd ?_ hK
  cases so with
  |call f as=>exact absurd ⟨f,as,rfl⟩ hcl
  |newB xs=>exact absurd ⟨xs,rfl⟩ hnb
  |slid q=>exact absurd ⟨q,rfl⟩ hsl
  |appO z b q y=>exact absurd ⟨_,_,_,_,rfl⟩ hao
  |_=>exact hc
theorem xg{o:Oper}{sz:Nat}{xs:List Arg}(h:M C N c a w)(hr:bz P o=some (.lit sz xs))(hd:∀k,o.dst=some k->k<N)(hc:Ql c sz o.dst (rows sz (evL c xs))=some c'){K:Act->World->Prop}{Q:Exit->Act->World->Prop}(hK:∀a w,M C N c' a w->K a w):o.wp P a w K Q:=by
 obtain⟨x,s,hM,hS⟩:=h;rw[hS.evL]at hc;unfold Ql at hc;split at hc<;>try (cases hc;done)
 rename_i k l hk hl;cases hc
 obtain⟨t,len,parts,ho⟩:∃t len parts,o.op= .buildSlice t len parts:=by
  cases ho:o.op with
  |buildSlice t len parts=>exact⟨t,len,parts,rfl⟩
  |_=>exfalso;exact absurd hr (by
   intro hr;simp only[bz,ho]at hr
   first
    |(cases hr;done)
    |(obtain⟨_,_,h⟩:=ae.1 hr;cases h;done)
    |(repeat' split at hr)<;>first|(cases hr;done)|contradiction|(obtain⟨_,_,h⟩:=ae.1 hr;first|(cases h;done)|(split at h<;>cases h;done)))
 obtain⟨r,e,hrun,hsz,hrows,hcell⟩:=wV hM ho hr hl
 have hM':=hM.newObj (d:=k+100) o.dst (by omega) (.arr sz l) (val:= .psl (k+100) sz 0 l.length (some l.length)) (u:= .slice (some ⟨w.heap.size,0,none⟩) l.length l.length) (t:=e) (by simp only[aC.size];omega) (fun i hi=>hcell i hi) (by have:=Rep.psl (x:=x.newO (k+100) w.heap.size) (k+100) sz 0 l.length (some l.length) 0 l.length (.inr (by omega)) (aK _) (fun _ e=>by cases e;rfl) (fun e=>by cases e);rwa[iZ]at this)
 refine dl ⟨_,_,_,_,hrun,.inl rfl,hM'⟩ (k:=Sim N _) ?_ hK;have:=hS.app hd (e:= {val:= .psl (k+100) sz 0 l.length (some l.length),new:=some (.arr sz l)}) (f:= {pre:=True,val:= .psl (k+100) sz 0 l.length (some l.length),new:=some (.arr sz l)}) ⟨rfl,rfl,rfl,rfl,rfl⟩ ⟨fun ob he=>by cases he;exact fF.2 hrows,.inl rfl⟩;rw[hk]at this ⊢;exact this
theorem xc{ops:Array Oper}{n:Nat}{o:Oper}{i:SI}(h:M C N c a w)(hi:i.ok N=true)(ho:ops[n]? =some o)(hr:fW P ops o=some i)(hc:sr c i=some c'){K:Act->World->Prop}{Q:Exit->Act->World->Prop}
 (hK:∀a w,M C N c' a w->K a w):wpOp P ops Q n K a w:=by
 obtain⟨h1,h2,h3⟩:=kf hr
 have hd:∀k,i.dst=some k->k<N:=by intro k hk;unfold SI.ok at hi;rw[hk]at hi;simpa using hi
 unfold wpOp;rw[ho];simp only;unfold sr at hc;split at hc<;>try (cases hc;done)
 rename_i hg;rcases h3 with⟨_,hog⟩|⟨j,b,g,hg',_⟩
 ·rw[jL hog,if_pos rfl]
  rw[h2]at hc hd;left;unfold xju at hc;split at hc<;>try (cases hc;done)
  ·rename_i sz xs hq
   exact xg h (h1.old (fun xs e=>by rw[e]at hq;cases hq)|>fun e=>by rw[hq]at e;exact e) hd hc hK
  ·rename_i xs hq
   exact ow h (h1.old (fun xs e=>by rw[e]at hq;cases hq)|>fun e=>by rw[hq]at e;exact e) hd hc hK
  ·rename_i q hq
   exact xh h (h1.old (fun xs e=>by rw[e]at hq;cases hq)|>fun e=>by rw[hq]at e;exact e) hd hc hK
  ·rename_i z by_ q y hq
   exact ot h (h1.old (fun xs e=>by rw[e]at hq;cases hq)|>fun e=>by rw[hq]at e;exact e) hd hc hK
 ·rw[hg]at hg';cases hg'
theorem ww{ops:Array Oper}{n:Nat}{o:Oper}{i:SI}(h:M C N c a w)(hi:i.ok N=true)(ho:ops[n]? =some o)(hr:fW P ops o=some i)(hc:zS c i=some c'){K:Act->World->Prop}{Q:Exit->Act->World->Prop}
 (hK:∀a w,M C N c' a w->K a w):wpOp P ops Q n K a w:=by
 obtain⟨h1,h2,h3⟩:=kf hr
 have hd:∀k,i.dst=some k->k<N:=by intro k hk;unfold SI.ok at hi;rw[hk]at hi;simpa using hi
 unfold wpOp;rw[ho];simp only;unfold zS at hc;split at hc<;>try (cases hc;done)
 rename_i hg;rcases h3 with⟨_,hog⟩|⟨j,b,g,hg',_⟩
 ·rw[jL hog,if_pos rfl]
  rw[h2]at hc hd;left;unfold xh4 at hc;split at hc<;>try (cases hc;done)
  ·rename_i q hq
   exact wy h (h1.old (fun xs e=>by rw[e]at hq;cases hq)|>fun e=>by rw[hq]at e;exact e) hd hc hK
 ·rw[hg]at hg';cases hg'
theorem gl(hcal:gb P call){ops:Array Oper}{n:Nat}{o:Oper}{i:SI}(h:M C N c a w)(hi:i.ok N=true)(ho:ops[n]? =some o)(hr:fW P ops o=some i.er)(hc:dQ call sg c i=some c'){K:Act->World->Prop}{Q:Exit->Act->World->Prop}
 (hK:∀a w,M C N c' a w->K a w):wpOp P ops Q n K a w:=by
 obtain⟨h1,h2,h3⟩:=kf hr;change qG P o i.op.er at h1;change i.dst=o.dst at h2;change (i.g=none/\o.guard=none\/∃j b g,i.g=some (g,b)/\o.guard=some (j,b)/\(ops[j]?).bind (·.dst)=some g)at h3
 have hd:∀k,i.dst=some k->k<N:=by intro k hk;unfold SI.ok at hi;rw[hk]at hi;simpa using hi
 unfold wpOp;rw[ho];simp only;unfold dQ at hc;rcases h3 with⟨hg,hog⟩|⟨j,b,g,hg,hog,hdg⟩
 ·rw[hg]at hc
  rw[jL hog,if_pos rfl];rw[h2]at hc hd;exact .inl (qX hcal h h1 hd hc hK)
 ·rw[hg]at hc
  simp only at hc;split at hc<;>try (cases hc;done)
  rotate_left
  ·rename_i ht
   cases hc;obtain⟨x,s,hM,hS⟩:=h;rw[ut hog hdg (Gd hM hS ht),if_neg (by simp)];rw[h2]at hd;rw[h2]at hK;exact hK _ _ ⟨x,_,hM.put o.dst uZ,hS.put hd _⟩
  rename_i t ht;have hv:a.tmps[g]? =some (.bool t):=by obtain⟨x,s,hM,hS⟩:=h;exact Gc hM hS ht
  rw[ur hog hdg hv];split at hc
  ·rename_i htb
   subst htb;rw[if_pos (by simp)];rw[h2]at hc hd;exact .inl (qX hcal h h1 hd hc hK)
  ·rename_i htb
   cases hc;rw[if_neg (by simpa using htb)];obtain⟨x,s,hM,hS⟩:=h;rw[h2]at hd;rw[h2]at hK;exact hK _ _ ⟨x,_,hM.put o.dst uZ,hS.put hd _⟩
theorem ja(hcal:gb P call){ops:Array Oper}{n:Nat}{o:Oper}{i:SI}(h:M C N c a w)(hi:i.ok N=true)(ho:ops[n]? =some o)(hr:fW P ops o=some i)(hc:dQ call sg c i=some c'){K:Act->World->Prop}{Q:Exit->Act->World->Prop}
 (hK:∀a w,M C N c' a w->K a w):wpOp P ops Q n K a w:=gl hcal h hi ho (by rw[xgx hr];exact hr) hc hK
theorem gA{d:Option Nat}{g:Nat}{t:Bool}{v:SV}(hd:d≠some g)(h:c.get g= .bool t):(c.put d v).get g= .bool t:=by
 cases d with
 |none=>exact h
 |some k=>rw[gF,if_neg (fun e=>hd (by rw[e]))];exact h
theorem C4{d:Option Nat}{g:Nat}{u v:SV}(hd:d≠some g)(h:c.get g=u):(c.put d v).get g=u:=by
 cases d with
 |none=>exact h
 |some k=>rw[gF,if_neg (fun e=>hd (by rw[e]))];exact h
theorem jo{g lo hi:Nat}{t:Bool}{l:List (Nat×SV)}(h:eB l g= .bool t):eB (dp lo hi l) g= .bool t:=by rw[fZ,h];rfl
theorem j3{d:Option Nat}{g:Nat}{t:Bool}{e:nG}(hd:d≠some g)(h:c.get g= .bool t):(c.app d e).get g= .bool t:=by
 have wr:∀(l:List (Nat×aC))(c:CSt),(c.wr l).tm=c.tm:=by
  intro l;induction l with
  |nil=>intro c;rfl
  |cons p r ih=>intro c;simp only[CSt.wr];rw[ih]
 unfold CSt.app;split
 ·exact gA (c:=⟨_,_,_⟩) hd (jo h)
 ·exact gA (c:=⟨_,_,_⟩) hd (jo h)
 ·refine gA hd ?_
  show eB (c.wr e.wr).tm g=_;rw[wr];exact h
theorem oB{d:Option Nat}{g:Nat}{t:Bool}{m mt:List Nat}{q:dv}(hd:d≠some g)(h:c.get g= .bool t):(jG c d m mt q).get g= .bool t:=gA (c:=⟨_,_,_⟩) hd (jo h)
theorem li{g o:Nat}{t:Bool}{vs:List SV}(h:c.get g= .bool t):(c.publish o vs).1.get g= .bool t:=by
 have k:∀obj,eB (ld o obj c.tm) g= .bool t:=fun obj=>by rw[j4];have:eB c.tm g= .bool t:=h;rw[this];rfl
 unfold CSt.publish;split
 ·exact k _
 ·exact k _
 ·exact h
theorem mO{g:Nat}{t:Bool}:∀{l:List Nat}{c:CSt}{vs:List SV},c.get g= .bool t->(eP c vs l).1.get g= .bool t
 |[],_,_,h=>h
 |o::r,c,vs,h=>by show(eP (c.publish o vs).1 (c.publish o vs).2 r).1.get g=_;exact mO (li h)
theorem C6{sg:Sig}{d:Option Nat}{g n:Nat}{as:List SV}{t:Bool}(hc:hZ call sg c d n as=some c')(hd:d≠some g)(h:c.get g= .bool t):c'.get g= .bool t:=by
 unfold hZ at hc;generalize ((SV.idsL as).isEmpty&&sg.own.isEmpty)=b at hc;cases b with
 |true=>
  simp only[jF]at hc;cases hq:call n (SV.bareL as) [] 0 with
  |none=>rw[hq]at hc;cases hc
  |some q=>
   rw[hq]at hc;simp only[lO]at hc;cases hb:q.bare with
   |true=>rw[hb]at hc;cases hc;exact gA hd h
   |false=>
    rw[hb]at hc;simp only[nl]at hc;cases hs:q.small with
    |true=>rw[hs]at hc;cases hc;exact oB hd h
    |false=>rw[hs]at hc;cases hc
 |false=>
  simp only[jF]at hc;have hk:=mO (l:=iQ sg.raw 0 as) (vs:=as) h;generalize eP c as (iQ sg.raw 0 as)=z at hc hk;obtain⟨c1,as1⟩:=z;simp only[jB]at hc;generalize jI c1.tk sg.own 50 0 as1=z at hc;obtain⟨as2,mt1⟩:=z;simp only[na]at hc;generalize dR c1 60 [] (SV.idsL as2)=m at hc;cases ho:gu c1 m with
  |none=>rw[ho]at hc;cases hc
  |some os0=>
   rw[ho]at hc;simp only[kO]at hc;generalize ek c1.tk (50+mt1.length) os0=z at hc;obtain⟨os,mt2⟩:=z;simp only[m9]at hc;generalize (nQ (SV.idsL as2++fG os) m&&dB m&&dB (cy (mt1++mt2))&&decide (m.length<=40)&&m.all fun o=> !inR (d.getD 0) o)=b at hc;cases b with
   |false=>cases hc
   |true=>
    simp only[m7]at hc;cases hq:call n (SV.renL (gB m) id as2) (eu (gB m) id os) (mt1.length+mt2.length)with
    |none=>rw[hq]at hc;cases hc
    |some q=>
     rw[hq]at hc;simp only[nU]at hc;cases hs:q.small with
     |true=>rw[hs]at hc;cases hc;exact oB hd hk
     |false=>rw[hs]at hc;cases hc
theorem C5{d:Option Nat}{g:Nat}{z:List SV}{b:Nat}{y:Arg}{v:SV}{t:Bool}(hc:qW c d z b y v=some c')(hd:d≠some g)(h:c.get g= .bool t):c'.get g= .bool t:=by
 unfold qW at hc;split at hc<;>try (cases hc;done)
 ·split at hc<;>try (cases hc;done)
  unfold Qn at hc;split at hc<;>try (cases hc;done)
  split at hc<;>try (cases hc;done)
  split at hc
  ·cases hc;exact gA hd h
  ·split at hc<;>try (cases hc;done)
   cases hc;exact j3 hd h
 ·split at hc<;>try (cases hc;done)
  unfold Qm at hc;split at hc<;>try (cases hc;done)
  split at hc
  ·cases hc;exact gA hd h
  ·split at hc<;>try (cases hc;done)
   cases hc;exact j3 hd h
 ·unfold M0 at hc
  split at hc<;>try (cases hc;done)
  split at hc<;>try (cases hc;done)
  cases hc;exact j3 hd (jo h)
theorem QN{d:Option Nat}{g:Nat}{o:SOp}{t:Bool}(hc:opC call sg c d o=some c')(hd:d≠some g)(h:c.get g= .bool t):c'.get g= .bool t:=by
 have e:mU c d (ec c d o)=some c'->c'.get g= .bool t:=by
  intro hc;cases he:ec c d o with
  |none=>rw[he]at hc;cases hc
  |some e=>rw[he]at hc;cases hc;exact j3 hd h
 cases o with
 |call f as=>
  simp only[opC]at hc;split at hc<;>try (cases hc;done)
  exact C6 hc hd h
 |appO z b q y=>exact C5 hc hd h
 |newB xs=>
  simp only[opC]at hc;unfold ni at hc;split at hc<;>try (cases hc;done)
  cases hc;exact j3 hd h
 |slid q=>
  simp only[opC]at hc;unfold qz at hc;split at hc<;>try (cases hc;done)
  unfold nV at hc;split at hc<;>try (cases hc;done)
  split at hc<;>try (cases hc;done)
  cases hc;exact gA hd (li h)
 |_=>exact e hc
theorem vo{g:Nat}{b:Bool}{i:SI}(h:i.okG N g b=true):(∀k,i.dst=some k->k<N)/\i.g=some (g,b)/\i.dst≠some g:=by
 simp only[SI.okG,aA,decide_eq_true_eq]at h;obtain⟨⟨h1,h2⟩,h3⟩:=h;refine⟨fun k hk=> ?_, ?_,h3⟩
 ·unfold SI.ok at h1;rw[hk]at h1;simpa using h1
 ·split at h2
  ·rename_i g' b' hg
   simp only[aA,decide_eq_true_eq,beq_iff_eq]at h2;rw[hg,h2.1,h2.2]
  ·cases h2
theorem CU(hcal:gb P call){ops:Array Oper}{full rest:List SI}(hl:jm (fW P ops) ops.toList=some full){Q:Exit->Act->World->Prop}{g:Nat}{b:Bool}{c1:CSt}
 (fin:∀(m n:Nat),n+m=ops.size->rest=full.drop n->∀a w,M C N c1 a w->wpOps P ops Q (List.range' n m) a w):
 ∀(l:List SI)(m n:Nat)(c:CSt)(a:Act)(w:World),n+m=ops.size->l++rest=full.drop n->(∀i∈l,i.okG N g b=true)->M C N c a w->c.get g= .bool b->plC call sg l c=some c1->wpOps P ops Q (List.range' n m) a w:=by
 obtain⟨hlen,hget⟩:=eS hl;intro l;induction l with
 |nil=>intro m n c a w hn he _ hM _ hs;rw[MY]at hs;cases hs;exact fin m n hn he a w hM
 |cons i l ihl=>
  intro m n c a w hn he hok hM ht hs;obtain⟨g1,g2,g3⟩:=vo (hok i (aE ..));simp only[bg]at he
  have hn1:n<full.length:=by
   rcases bO n full.length with h|h
   ·exact h
   ·rw[bD h]at he;cases he
  rw[bE hn1]at he;obtain⟨he1,he2⟩:=kZ.inj he;have hn2:n<ops.toList.length:=by omega
  obtain⟨m',rfl⟩:∃m',m=m'+1:=⟨m-1,by rw[hlen,aS]at hn1;omega⟩;simp only[List.range'_succ];rw[wpOps_cons];rw[plC]at hs;cases h1:opC call sg c i.dst i.op with
  |none=>rw[h1,Bt]at hs;cases hs
  |some c2=>
   rw[h1,Bs]at hs;have hst:dQ call sg c i=some c2:=by unfold dQ;rw[g2];simp only[ht,if_true];exact h1
   have hik:i.ok N=true:=by
    unfold SI.ok;cases hdd:i.dst with
    |none=>rfl
    |some k=>simpa using g1 k hdd
   refine ja hcal hM hik (o:=ops.toList[n]) (by rw[<-cP,ac hn2]) (by rw[he1];exact hget n hn2 hn1) hst ?_;intro a' w' hM';exact ihl m' (n+1) c2 a' w' (by omega) he2 (fun j hj=>hok j (av _ hj)) hM' (QN h1 g3 ht) hs
theorem qJ(hcal:gb P call){ops:Array Oper}{full rest:List SI}(hl:jm (fW P ops) ops.toList=some full){Q:Exit->Act->World->Prop}{g:Nat}{b:Bool}{v:SV}(hvv:v= .tup []\/∃t,v= .bool t/\t≠b){c1:CSt}
 (fin:∀(m n:Nat),n+m=ops.size->rest=full.drop n->∀a w,M C N c1 a w->wpOps P ops Q (List.range' n m) a w):
 ∀(l:List SI)(m n:Nat)(c:CSt)(a:Act)(w:World),n+m=ops.size->l++rest=full.drop n->(∀i∈l,i.okG N g b=true)->M C N c a w->c.get g=v->unL c l=c1->wpOps P ops Q (List.range' n m) a w:=by
 obtain⟨hlen,hget⟩:=eS hl;intro l;induction l with
 |nil=>intro m n c a w hn he _ hM _ hs;cases hs;exact fin m n hn he a w hM
 |cons i l ihl=>
  intro m n c a w hn he hok hM ht hs;obtain⟨g1,g2,g3⟩:=vo (hok i (aE ..));simp only[bg]at he
  have hn1:n<full.length:=by
   rcases bO n full.length with h|h
   ·exact h
   ·rw[bD h]at he;cases he
  rw[bE hn1]at he;obtain⟨he1,he2⟩:=kZ.inj he;have hn2:n<ops.toList.length:=by omega
  obtain⟨m',rfl⟩:∃m',m=m'+1:=⟨m-1,by rw[hlen,aS]at hn1;omega⟩;simp only[List.range'_succ];rw[wpOps_cons]
  have hst:dQ call (fun _=> {}) c i=some (c.put i.dst (.tup [])):=by
   unfold dQ;rw[g2];simp only[ht];rcases hvv with rfl|⟨t,rfl,htb⟩
   ·rfl
   ·simp only[htb,if_false]
  have hik:i.ok N=true:=by
   unfold SI.ok;cases hdd:i.dst with
   |none=>rfl
   |some k=>simpa using g1 k hdd
  refine ja hcal hM hik (o:=ops.toList[n]) (by rw[<-cP,ac hn2]) (by rw[he1];exact hget n hn2 hn1) hst ?_;intro a' w' hM';exact ihl m' (n+1) _ a' w' (by omega) he2 (fun j hj=>hok j (av _ hj)) hM' (C4 g3 ht) hs
theorem xj(hcal:gb P call){ops:Array Oper}{full:List SI}(hl:jm (fW P ops) ops.toList=some full){Q:Exit->Act->World->Prop}:
 ∀(l:List RI)(m n:Nat),n+m=ops.size->erL l=full.drop n->l.all (RI.ok N)=true->∀{c:CSt}{a:Act}{w:World},M C N c a w->fJ call sg l c=some c'->(∀a w,M C N c' a w->Q .normal a w)->wpOps P ops Q (List.range' n m) a w:=by
 obtain⟨hlen,hget⟩:=eS hl;intro l;induction l with
 |nil=>
  intro m n hn he _ c a w hM hc hQ;have h1:full.length<=n:=List.drop_eq_nil_iff.1 he.symm;rw[hlen,aS]at h1;have:m=0:=by omega
  subst this;simp only[List.range'_zero,wpOps];rw[Bo]at hc;cases hc;exact hQ _ _ hM
 |cons q r ih=>
  intro m n hn he hok c a w hM hc hQ;rw[List.all_cons,aA]at hok;obtain⟨hok1,hok2⟩:=hok;cases q with
  |dir q=>
   rw[Bq]at hc;cases hd:ql c q with
   |none=>rw[hd,kC]at hc;cases hc
   |some c1=>rw[hd,kz,pn]at hc;exact ih m n hn he hok2 (oN hM hd) hc hQ
  |own i dead=>
   rw[Bn]at hc;simp only[erL]at he
   have hn1:n<full.length:=by
    rcases bO n full.length with h|h
    ·exact h
    ·rw[bD h]at he;cases he
   rw[bE hn1]at he;obtain⟨he1,he2⟩:=kZ.inj he;have hn2:n<ops.toList.length:=by omega
   obtain⟨m',rfl⟩:∃m',m=m'+1:=⟨m-1,by rw[hlen,aS]at hn1;omega⟩;simp only[List.range'_succ];rw[wpOps_cons];cases hs:sr c i with
   |none=>rw[hs,kC]at hc;cases hc
   |some c1=>rw[hs,kz]at hc;refine xc hM hok1 (o:=ops.toList[n]) (by rw[<-cP,ac hn2]) (by rw[he1];exact hget n hn2 hn1) hs ?_;intro a' w' hM';exact ih m' (n+1) (by omega) he2 hok2 (hM'.kill dead) hc hQ
  |tks i dead=>
   rw[Bm]at hc;simp only[erL]at he
   have hn1:n<full.length:=by
    rcases bO n full.length with h|h
    ·exact h
    ·rw[bD h]at he;cases he
   rw[bE hn1]at he;obtain⟨he1,he2⟩:=kZ.inj he;have hn2:n<ops.toList.length:=by omega
   obtain⟨m',rfl⟩:∃m',m=m'+1:=⟨m-1,by rw[hlen,aS]at hn1;omega⟩;simp only[List.range'_succ];rw[wpOps_cons];cases hs:zS c i with
   |none=>rw[hs,kC]at hc;cases hc
   |some c1=>rw[hs,kz]at hc;refine ww hM hok1 (o:=ops.toList[n]) (by rw[<-cP,ac hn2]) (by rw[he1];exact hget n hn2 hn1) hs ?_;intro a' w' hM';exact ih m' (n+1) (by omega) he2 hok2 (hM'.kill dead) hc hQ
  |op i dead=>
   rw[M1]at hc;simp only[erL]at he
   have hn1:n<full.length:=by
    rcases bO n full.length with h|h
    ·exact h
    ·rw[bD h]at he;cases he
   rw[bE hn1]at he;obtain⟨he1,he2⟩:=kZ.inj he;have hn2:n<ops.toList.length:=by omega
   obtain⟨m',rfl⟩:∃m',m=m'+1:=⟨m-1,by rw[hlen,aS]at hn1;omega⟩;simp only[List.range'_succ];rw[wpOps_cons];cases hs:dQ call sg c i with
   |none=>rw[hs,kC]at hc;cases hc
   |some c1=>rw[hs,kz]at hc;refine ja hcal hM hok1 (o:=ops.toList[n]) (by rw[<-cP,ac hn2]) (by rw[he1];exact hget n hn2 hn1) hs ?_;intro a' w' hM';exact ih m' (n+1) (by omega) he2 hok2 (hM'.kill dead) hc hQ
  |grp g b l dead=>
   rw[Bp]at hc;cases hs:oJ call sg b l c (c.get g)with
   |none=>rw[hs,kC]at hc;cases hc
   |some c1=>
    rw[hs,kz]at hc;unfold oJ at hs;have hsk:=hs;split at hs<;>try (cases hs;done)
    rotate_left
    ·rename_i ht
     have hok1':∀i∈l,i.okG N g b=true:=by simpa[RI.ok]using hok1
     have fin:∀(m n:Nat),n+m=ops.size->erL r=full.drop n->∀a w,M C N c1 a w->wpOps P ops Q (List.range' n m) a w:=fun m n hn he a w hM'=>ih m n hn he hok2 (hM'.kill dead) hc hQ
     simp only[erL]at he;cases hs;exact qJ hcal hl (.inl rfl) fin l m n c a w hn he hok1' hM ht rfl
    rename_i t ht;have hok1':∀i∈l,i.okG N g b=true:=by simpa[RI.ok]using hok1
    have fin:∀(m n:Nat),n+m=ops.size->erL r=full.drop n->∀a w,M C N c1 a w->wpOps P ops Q (List.range' n m) a w:=fun m n hn he a w hM'=>ih m n hn he hok2 (hM'.kill dead) hc hQ
    simp only[erL]at he;split at hs
    ·rename_i htb
     exact CU hcal hl fin l m n c a w hn he hok1' hM (by rw[ht,htb]) hs
    ·rename_i htb
     cases hs;exact qJ hcal hl (.inr ⟨t,rfl,htb⟩) fin l m n c a w hn he hok1' hM ht rfl
end Go.Sy
namespace Go.Sy
variable [bf]
variable {P : Program} {C : Ctx} {x : Sit} {a : Act} {w : World} {N : Nat} {c c' : CSt} {s : St} {call : de} {sg : Nat -> Sig}
abbrev TM:=List (Nat×SV)
structure Uni(d:Option Nat)(F:TM->TM):Prop where
 get:∀tm tm' n,eB tm n=eB tm' n->eB (F tm) n=eB (F tm') n
 dom:∀tm p,p∈F tm->(∃q∈tm,q.1=p.1)\/d=some p.1
theorem Uni.id{d:Option Nat}:Uni d (fun t=>t):=⟨fun _ _ _ h=>h,fun _ p hp=> .inl ⟨p,hp,rfl⟩⟩
theorem Uni.comp{d:Option Nat}{F G:TM->TM}(hF:Uni d F)(hG:Uni d G):Uni d (fun t=>G (F t)):=
 ⟨fun _ _ _ h=>hG.get _ _ _ (hF.get _ _ _ h),fun tm p hp=>by
  rcases hG.dom _ _ hp with⟨q,hq,e⟩|h
  ·rcases hF.dom _ _ hq with⟨q',hq',e'⟩|h
   ·exact .inl ⟨q',hq',e'.trans e⟩
   ·exact .inr (by rw[h,e])
  ·exact .inr h⟩
theorem Uni.purge{d:Option Nat}(lo hi:Nat):Uni d (dp lo hi):=
 ⟨fun tm tm' n h=>by rw[fZ,fZ,h],fun tm p hp=>by obtain⟨q,hq,e⟩:=jk hp;exact .inl ⟨q,hq,e.symm⟩⟩
theorem Uni.pub{d:Option Nat}(o:Nat)(obj:aC):Uni d (ld o obj):=
 ⟨fun tm tm' n h=>by rw[j4,j4,h],fun tm p hp=>by obtain⟨q,hq,e⟩:=ph hp;exact .inl ⟨q,hq,e.symm⟩⟩
theorem Uni.put(k:Nat)(v:SV):Uni (some k) (fun t=>jg t k v):=
 ⟨fun tm tm' n h=>by
  simp only[lN];rw[h],fun tm p hp=>by
  rcases lK hp with e|e
  ·exact .inr (by rw[e])
  ·exact .inl ⟨p,e,rfl⟩⟩
theorem Uni.weak{d:Option Nat}{F:TM->TM}(h:Uni none F):Uni d F:=⟨h.get,fun tm p hp=>by
 rcases h.dom tm p hp with h|h
 ·exact .inl h
 ·cases h⟩
theorem Uni.cput(d:Option Nat)(v:SV):∃F,Uni d F/\∀tm ob tk,CSt.put ⟨tm,ob,tk⟩ d v=⟨F tm,ob,tk⟩:=by
 cases d with
 |none=>exact⟨fun t=>t,Uni.id,fun _ _ _=>rfl⟩
 |some k=>exact⟨fun t=>jg t k v,Uni.put k v,fun _ _ _=>rfl⟩
section
variable {tm tm' : TM} {ob : List (Nat × aC)} {tk : List Nat}
theorem lE:∀(n:Nat)(acc l:List Nat),dR ⟨tm',ob,tk⟩ n acc l=dR ⟨tm,ob,tk⟩ n acc l
 |0,_,_=>rfl
 |_+1,_,[]=>rfl
 |n+1,acc,o::t=>by
  simp only[dR];show(if _ then _ else match iF ob o with|some ob1=>_|none=>_)=(if _ then _ else match iF ob o with|some ob1=>_|none=>_);split
  ·exact lE n _ _
  ·split
   ·exact lE n _ _
   ·exact lE n _ _
theorem vA:∀l:List Nat,gu ⟨tm',ob,tk⟩ l=gu ⟨tm,ob,tk⟩ l
 |[]=>rfl
 |o::r=>by simp only[gu];rw[vA r];rfl
theorem mL(o:Nat)(vs:List SV):∃F ob' tk' vs',Uni none F/\∀tm,CSt.publish ⟨tm,ob,tk⟩ o vs=(⟨F tm,ob',tk'⟩,vs'):=by
 unfold CSt.publish CSt.look;simp only;split
 ·exact⟨_,_,_,_,Uni.pub _ _,fun _=>rfl⟩
 ·exact⟨_,_,_,_,Uni.pub _ _,fun _=>rfl⟩
 ·exact⟨_,_,_,_,Uni.id,fun _=>rfl⟩
theorem oj:∀(l:List Nat)(ob:List (Nat×aC))(tk:List Nat)(vs:List SV),∃F ob' tk' vs',Uni none F/\∀tm,eP ⟨tm,ob,tk⟩ vs l=(⟨F tm,ob',tk'⟩,vs')
 |[],ob,tk,vs=>⟨_,_,_,_,Uni.id,fun _=>rfl⟩
 |o::r,ob,tk,vs=>by obtain⟨F,ob1,tk1,vs1,h1,h2⟩:=mL (ob:=ob) (tk:=tk) o vs;obtain⟨G,ob2,tk2,vs2,h3,h4⟩:=oj r ob1 tk1 vs1;refine⟨fun t=>G (F t),ob2,tk2,vs2,h1.comp h3,fun tm=> ?_⟩;simp only[eP];rw[h2];exact h4 _
theorem oY(d:Option Nat)(m mt:List Nat)(q:dv):∃F ob' tk',Uni d F/\∀tm,jG ⟨tm,ob,tk⟩ d m mt q=⟨F tm,ob',tk'⟩:=by unfold jG;dsimp only;obtain⟨F,h1,h2⟩:=Uni.cput d (q.r.ren (im (d.getD 0) m) (js (d.getD 0)));exact⟨_,_,_,(Uni.purge ((d.getD 0+1)*1000) ((d.getD 0+2)*1000)).comp h1,fun tm=>h2 _ _ _⟩
theorem EY{sg:Sig}{d:Option Nat}{g:Nat}{as:List SV}:∃F,Uni d F/\∃q:Option (List (Nat×aC)×List Nat),∀tm,jB call sg d g (⟨tm,ob,tk⟩,as)=q.map fun q=>⟨F tm,q.1,q.2⟩:=by
 simp only[jB];generalize jI tk sg.own 50 0 as=z;obtain⟨as2,mt1⟩:=z;simp only[na];have e1:∀tm,dR ⟨tm,ob,tk⟩ 60 [] (SV.idsL as2)=dR ⟨[],ob,tk⟩ 60 [] (SV.idsL as2):=fun tm=>lE _ _ _
 have e2:∀tm l,gu ⟨tm,ob,tk⟩ l=gu ⟨[],ob,tk⟩ l:=fun tm l=>vA l
 simp only[e1,e2];generalize dR ⟨[],ob,tk⟩ 60 [] (SV.idsL as2)=m;cases ho:gu ⟨[],ob,tk⟩ m with
 |none=>exact⟨_,Uni.id,none,fun _=>rfl⟩
 |some os0=>
  simp only[kO];generalize ek tk (50+mt1.length) os0=z2;obtain⟨os,mt2⟩:=z2;simp only[m9];generalize (nQ (SV.idsL as2++fG os) m&&dB m&&dB (cy (mt1++mt2))&&decide (m.length<=40)&&m.all fun o=> !inR (d.getD 0) o)=b;cases b with
  |false=>exact⟨_,Uni.id,none,fun _=>rfl⟩
  |true=>
   simp only[m7];cases hq:call g (SV.renL (gB m) _root_.id as2) (eu (gB m) _root_.id os) (mt1.length+mt2.length)with
   |none=>exact⟨_,Uni.id,none,fun _=>rfl⟩
   |some q=>
    simp only[nU];generalize q.small=b;cases b with
    |false=>exact⟨_,Uni.id,none,fun _=>rfl⟩
    |true=>obtain⟨F,ob',tk',h1,h2⟩:=oY (ob:=ob) (tk:=tk) d m (cy (mt1++mt2)) q;exact⟨F,h1,some (ob',tk'),fun tm=>by simp only[wI,bp,h2]⟩
theorem rE{sg:Sig}{d:Option Nat}{g:Nat}{as:List SV}:∃F,Uni d F/\∃q:Option (List (Nat×aC)×List Nat),∀tm,hZ call sg ⟨tm,ob,tk⟩ d g as=q.map fun q=>⟨F tm,q.1,q.2⟩:=by
 unfold hZ;generalize ((SV.idsL as).isEmpty&&sg.own.isEmpty)=b;cases b with
 |true=>
  simp only[jF];cases hq:call g (SV.bareL as) [] 0 with
  |none=>exact⟨_,Uni.id,none,fun _=>rfl⟩
  |some q=>
   simp only[lO];generalize q.bare=b;cases b with
   |true=>simp only[nl];obtain⟨F,h1,h2⟩:=Uni.cput d q.r;exact⟨F,h1,some (ob,tk),fun tm=>by rw[h2];rfl⟩
   |false=>
    simp only[nl];generalize q.small=b;cases b with
    |false=>exact⟨_,Uni.id,none,fun _=>rfl⟩
    |true=>obtain⟨F,ob',tk',h1,h2⟩:=oY (ob:=ob) (tk:=tk) d [] [] q;exact⟨F,h1,some (ob',tk'),fun tm=>by simp only[xE,h2];rfl⟩
 |false=>simp only[jF];obtain⟨F,ob1,tk1,vs1,h1,h2⟩:=oj (iQ sg.raw 0 as) ob tk as;obtain⟨G,h3,q,h4⟩:=EY (call:=call) (ob:=ob1) (tk:=tk1) (sg:=sg) (d:=d) (g:=g) (as:=vs1);exact⟨fun t=>G (F t),h1.weak.comp h3,q,fun tm=>by rw[h2];exact h4 _⟩
theorem GJ:∀(l:List (Nat×aC))(tm:TM)(ob:List (Nat×aC))(tk:List Nat),CSt.wr ⟨tm,ob,tk⟩ l=⟨tm,(CSt.wr ⟨[],ob,tk⟩ l).ob,tk⟩
 |[],_,_,_=>rfl
 |p::r,tm,ob,tk=>by simp only[CSt.wr];exact GJ r tm _ tk
theorem oX(d:Option Nat)(e:nG):∃F ob' tk',Uni d F/\∀tm,CSt.app ⟨tm,ob,tk⟩ d e=⟨F tm,ob',tk'⟩:=by
 unfold CSt.app;dsimp only;obtain⟨F,h1,h2⟩:=Uni.cput d e.val;split
 ·exact⟨_,_,_,(Uni.purge (d.getD 0+100) (d.getD 0+101)).comp h1,fun tm=>h2 _ _ _⟩
 ·exact⟨_,_,_,(Uni.purge (d.getD 0+100) (d.getD 0+101)).comp h1,fun tm=>h2 _ _ _⟩
 ·exact⟨F,(CSt.wr ⟨[],ob,tk⟩ e.wr).ob,tk,h1,fun tm=>by rw[GJ];exact h2 _ _ _⟩
theorem xgw{x:Arg}(h:∀n,x= .t n->eB tm' n=eB tm n):CSt.ev ⟨tm',ob,tk⟩ x=CSt.ev ⟨tm,ob,tk⟩ x:=by
 cases x with
 |t n=>exact h n rfl
 |c v=>rfl
 |f g=>rfl
theorem lx:∀{l:List Arg},(∀x∈l,CSt.ev ⟨tm',ob,tk⟩ x=CSt.ev ⟨tm,ob,tk⟩ x)->evL ⟨tm',ob,tk⟩ l=evL ⟨tm,ob,tk⟩ l
 |[],_=>rfl
 |x::r,h=>by simp only[evL];rw[h x (aE ..),lx fun y hy=>h y (av _ hy)]
theorem MX:∀{l:List (Nat×Nat×Arg)},(∀x∈l.map (fun p=>p.2.2),CSt.ev ⟨tm',ob,tk⟩ x=CSt.ev ⟨tm,ob,tk⟩ x)->psC ⟨tm',ob,tk⟩ l=psC ⟨tm,ob,tk⟩ l
 |[],_=>rfl
 |(o,n,x)::r,h=>by simp only[psC];rw[h x (by simp),MX fun y hy=>h y (by simp only[aF,aw];exact .inr hy)]
theorem lZ{x:Option Arg}{d:Int}(h:∀y∈x.toList,CSt.ev ⟨tm',ob,tk⟩ y=CSt.ev ⟨tm,ob,tk⟩ y):jZ ⟨tm',ob,tk⟩ x d=jZ ⟨tm,ob,tk⟩ x d:=by
 cases x with
 |none=>rfl
 |some y=>simp only[jZ];rw[h y (by simp)]
theorem z6{sz:Nat}{v:SV}{lo hi mx:Option Arg}(h1:∀y∈lo.toList,CSt.ev ⟨tm',ob,tk⟩ y=CSt.ev ⟨tm,ob,tk⟩ y)(h2:∀y∈hi.toList,CSt.ev ⟨tm',ob,tk⟩ y=CSt.ev ⟨tm,ob,tk⟩ y)(h3:∀y∈mx.toList,CSt.ev ⟨tm',ob,tk⟩ y=CSt.ev ⟨tm,ob,tk⟩ y):
 nA ⟨tm',ob,tk⟩ sz v lo hi mx=nA ⟨tm,ob,tk⟩ sz v lo hi mx:=by
 unfold nA;simp only[lZ h1,lZ h2,lZ h3]
theorem zO{o:SOp}(h:∀y∈o.args,CSt.ev ⟨tm',ob,tk⟩ y=CSt.ev ⟨tm,ob,tk⟩ y):cL ⟨tm',ob,tk⟩ o=cL ⟨tm,ob,tk⟩ o:=by
 cases o with
 |build z ps=>simp only[SOp.args]at h;simp only[cL];rw[MX h]
 |lit sz xs=>simp only[SOp.args]at h;simp only[cL];rw[lx h]
 |litB xs=>simp only[SOp.args]at h;simp only[cL];rw[lx h]
 |mkfn f a b=>simp only[SOp.args,al]at h;simp only[cL];rw[lx fun y hy=>h y (.inl hy),lx fun y hy=>h y (.inr hy)]
 |slcS x lo hi=>simp only[SOp.args,aw,al]at h;simp only[cL];rw[h x (.inl rfl)];simp only[lZ fun y hy=>h y (.inr (.inl hy)),lZ fun y hy=>h y (.inr (.inr hy))]
 |slcL sz x lo hi mx=>simp only[SOp.args,aw,al]at h;simp only[cL];rw[h x (.inl rfl),z6 (fun y hy=>h y (.inr (.inl (.inl hy)))) (fun y hy=>h y (.inr (.inl (.inr hy)))) (fun y hy=>h y (.inr (.inr hy)))]
 |slcA len sz x lo hi mx=>simp only[SOp.args,aw,al]at h;simp only[cL];rw[h x (.inl rfl)];simp only[z6 (fun y hy=>h y (.inr (.inl (.inl hy)))) (fun y hy=>h y (.inr (.inl (.inr hy)))) (fun y hy=>h y (.inr (.inr hy)))]
 |_=>
  simp only[SOp.args,aw,cR,or_false,forall_eq_or_imp,forall_eq,bw]at h
  first
   |rfl
   |(simp only[cL];rw[h];rfl)
   |(simp only[cL];rw[h.1,h.2];rfl)
   |(simp only[cL,h];done)
   |(simp only[cL,h.1,h.2];done)
theorem Cr{n:Nat}{v:List SV}{u:SV}:kr ⟨tm',ob,tk⟩ n v u=kr ⟨tm,ob,tk⟩ n v u:=by
 cases u<;>rfl
theorem Rz{d:Option Nat}{o:SOp}(h:∀y∈o.args,CSt.ev ⟨tm',ob,tk⟩ y=CSt.ev ⟨tm,ob,tk⟩ y):ec ⟨tm',ob,tk⟩ d o=ec ⟨tm,ob,tk⟩ d o:=by
 have hv:=zO h;cases o with
 |new ob=>rfl
 |call f as=>rfl
 |box x=>simp only[SOp.args,aw,cR,or_false,forall_eq]at h;simp only[ec];rw[h]
 |mk z b n m=>simp only[SOp.args,aw,cR,or_false,forall_eq_or_imp,forall_eq]at h;simp only[ec];rw[h.1,h.2]
 |mkB n m=>simp only[SOp.args,aw,cR,or_false,forall_eq_or_imp,forall_eq]at h;simp only[ec];rw[h.1,h.2]
 |store n a x=>simp only[SOp.args,aw,cR,or_false,forall_eq_or_imp,forall_eq]at h;simp only[ec];rw[h.1,h.2,Cr]
 |app z b x y=>
  simp only[SOp.args,aw,cR,or_false,forall_eq_or_imp,forall_eq]at h;have e1:∀v,eJ ⟨tm',ob,tk⟩ v=eJ ⟨tm,ob,tk⟩ v:=fun v=>by cases v<;>rfl
  have e2:∀n v,fM ⟨tm',ob,tk⟩ n v=fM ⟨tm,ob,tk⟩ n v:=fun n v=>by cases v<;>rfl
  have e3:∀t:Tok,t.readyC ⟨tm',ob,tk⟩=t.readyC ⟨tm,ob,tk⟩:=fun t=>by cases t<;>rfl
  simp only[ec];rw[h.1,h.2];simp only[e1,e2,e3]
 |clr z x=>simp only[SOp.args,aw,cR,or_false,forall_eq]at h;simp only[ec];rw[h];rfl
 |cpy sz x y=>
  simp only[SOp.args,aw,cR,or_false,forall_eq_or_imp,forall_eq]at h;have e1:∀v,eJ ⟨tm',ob,tk⟩ v=eJ ⟨tm,ob,tk⟩ v:=fun v=>by cases v<;>rfl
  have e2:∀n v,fM ⟨tm',ob,tk⟩ n v=fM ⟨tm,ob,tk⟩ n v:=fun n v=>by cases v<;>rfl
  simp only[ec];rw[h.1,h.2];simp only[e1,e2];rfl
 |pick k a b=>simp only[SOp.args,aw,cR,or_false,forall_eq_or_imp,forall_eq]at h;simp only[ec];rw[h.1,h.2.1,h.2.2]
 |isnil ne x=>simp only[SOp.args,aw,cR,or_false,forall_eq]at h;simp only[ec];rw[h]
 |_=>simp only[ec];rw[hv]
theorem FJ{d:Option Nat}{z:List SV}{b:Nat}{y:Arg}{v:SV}(h:CSt.ev ⟨tm',ob,tk⟩ y=CSt.ev ⟨tm,ob,tk⟩ y)(hc:qW ⟨tm,ob,tk⟩ d z b y v=some c'):∃F,Uni d F/\c'.tm=F tm/\qW ⟨tm',ob,tk⟩ d z b y v=some ⟨F tm',c'.ob,c'.tk⟩:=by
 have e1:∀v,eJ ⟨tm',ob,tk⟩ v=eJ ⟨tm,ob,tk⟩ v:=fun v=>by cases v<;>rfl
 have e2:∀n v,fM ⟨tm',ob,tk⟩ n v=fM ⟨tm,ob,tk⟩ n v:=fun n v=>by cases v<;>rfl
 have put:∀(k:Nat)(u:SV),some (CSt.put ⟨tm,ob,tk⟩ (some k) u)=some c'->∃F,Uni (some k) F/\c'.tm=F tm/\some (CSt.put ⟨tm',ob,tk⟩ (some k) u)=some ⟨F tm',c'.ob,c'.tk⟩:=by intro k u hu;obtain⟨F,h1,h2⟩:=Uni.cput (some k) u;rw[h2]at hu;cases hu;exact⟨F,h1,rfl,by rw[h2]⟩
 have app:∀(k:Nat)(e:nG),some (CSt.app ⟨tm,ob,tk⟩ (some k) e)=some c'->∃F,Uni (some k) F/\c'.tm=F tm/\some (CSt.app ⟨tm',ob,tk⟩ (some k) e)=some ⟨F tm',c'.ob,c'.tk⟩:=by intro k e hu;obtain⟨F,ob',tk',h1,h2⟩:=oX (ob:=ob) (tk:=tk) (some k) e;rw[h2]at hu;cases hu;exact⟨F,h1,rfl,by rw[h2]⟩
 have app6:∀(o' k:Nat)(e:nG),some (CSt.app (CSt.purge ⟨tm,ob,tk⟩ o' (o'+1)) (some k) e)=some c'->∃F,Uni (some k) F/\c'.tm=F tm/\some (CSt.app (CSt.purge ⟨tm',ob,tk⟩ o' (o'+1)) (some k) e)=some ⟨F tm',c'.ob,c'.tk⟩:=by intro o' k e hu;obtain⟨F,ob',tk',h1,h2⟩:=oX (ob:=bF o' (o'+1) ob) (tk:=cz o' (o'+1) tk) (some k) e;simp only[CSt.purge]at hu ⊢;rw[h2]at hu;cases hu;exact⟨fun t=>F (dp o' (o'+1) t),(Uni.purge o' (o'+1)).comp h1,rfl,by rw[h2]⟩
 unfold qW at hc ⊢;split at hc<;>try (cases hc;done)
 ·split at hc<;>try (cases hc;done)
  rename_i ht;simp only[if_pos ht,h,e1];unfold Qn at hc ⊢;split at hc<;>try (cases hc;done)
  split at hc<;>try (cases hc;done)
  rename_i hz;simp only[if_neg hz];split at hc
  ·rename_i hl;simp only[if_pos hl];exact put _ _ hc
  ·rename_i hl
   simp only[if_neg hl];split at hc<;>try (cases hc;done)
   rename_i hb;simp only[if_pos hb];exact app _ _ hc
 ·split at hc<;>try (cases hc;done)
  rename_i ht;simp only[if_pos ht,h,e2];unfold Qm at hc ⊢;split at hc<;>try (cases hc;done)
  split at hc
  ·rename_i hl;simp only[if_pos hl];exact put _ _ hc
  ·rename_i hl
   simp only[if_neg hl];split at hc<;>try (cases hc;done)
   rename_i hb;simp only[if_pos hb];exact app _ _ hc
 ·simp only[h,e2]
  unfold M0 at hc ⊢;split at hc<;>try (cases hc;done)
  split at hc<;>try (cases hc;done)
  rename_i o1 sz1 n1 _ _ _ k1 R1 l1 _ hb;rw[if_pos hb];exact app6 _ _ _ hc
theorem Br{d:Option Nat}{o:SOp}(h:∀y∈o.args,CSt.ev ⟨tm',ob,tk⟩ y=CSt.ev ⟨tm,ob,tk⟩ y)(hc:opC call sg ⟨tm,ob,tk⟩ d o=some c'):∃F,Uni d F/\c'.tm=F tm/\opC call sg ⟨tm',ob,tk⟩ d o=some ⟨F tm',c'.ob,c'.tk⟩:=by
 by_cases hcl:∃f as,o= .call f as
 ·obtain⟨f,as,rfl⟩:=hcl
  simp only[opC]at hc ⊢;simp only[SOp.args,aw]at h;rw[h f (.inl rfl),lx fun y hy=>h y (.inr hy)];split at hc<;>try (cases hc;done)
  obtain⟨F,h1,q,h2⟩:=rE (call:=call) (ob:=ob) (tk:=tk) (sg:=sg ‹_›) (d:=d) (g:= ‹_›) (as:= ‹List SV› ++evL ⟨tm,ob,tk⟩ as++ ‹List SV›);rename_i g u v hfn;obtain⟨F,h1,q,h2⟩:=rE (call:=call) (ob:=ob) (tk:=tk) (sg:=sg g) (d:=d) (g:=g) (as:=u++evL ⟨tm,ob,tk⟩ as++v);rw[h2]at hc;cases q with
  |none=>cases hc
  |some q=>simp only[bp,aq.injEq]at hc;subst hc;exact⟨F,h1,rfl,by rw[h2];rfl⟩
 by_cases hnb:∃xs,o= .newB xs
 ·obtain⟨xs,rfl⟩:=hnb
  simp only[opC]at hc ⊢;simp only[SOp.args]at h;rw[lx h];unfold ni at hc ⊢;split at hc<;>try (cases hc;done)
  rename_i k l hk;cases hc;obtain⟨F,ob',tk',h1,h2⟩:=oX (ob:=ob) (tk:=tk) (some k) {val:= .psl (k+100) 1 0 l.length (some l.length),new:=some (.bar l)};exact⟨F,h1,by rw[h2],by simp only[h2]⟩
 by_cases hsl:∃q,o= .slid q
 ·obtain⟨q,rfl⟩:=hsl
  simp only[opC]at hc ⊢;rw[h q (by simp[SOp.args])];generalize CSt.ev ⟨tm,ob,tk⟩ q=v at hc;unfold qz at hc;split at hc<;>try (cases hc;done)
  rename_i o' off n cap;show ∃F,_/\_/\nV _ d o' off n cap (CSt.look ⟨tm',ob,tk⟩ o')=_;have hlk:CSt.look ⟨tm',ob,tk⟩ o'=CSt.look ⟨tm,ob,tk⟩ o':=rfl;rw[hlk];generalize CSt.look ⟨tm,ob,tk⟩ o'=u at hc;unfold nV at hc;split at hc<;>try (cases hc;done)
  split at hc<;>try (cases hc;done)
  rename_i l hcond;cases hc;obtain⟨F,ob',tk',vs',h1,h2⟩:=mL (ob:=ob) (tk:=tk) o' [];obtain⟨G,g1,g2⟩:=Uni.cput d (.byt ((l.drop off).take n) .clip);refine⟨fun t=>G (F t),h1.weak.comp g1, ?_, ?_⟩
  ·rw[h2 tm];rw[g2]
  ·simp only[nV,if_pos hcond,h2,g2]
 by_cases hao:∃z b q y,o= .appO z b q y
 ·obtain⟨z,b,q,y,rfl⟩:=hao
  simp only[opC]at hc ⊢;simp only[SOp.args,aw,cR,or_false,forall_eq_or_imp,forall_eq]at h;rw[h.1];exact FJ h.2 hc
 ·have e:∀c,opC call sg c d o=mU c d (ec c d o):=by
   intro c;cases o<;>first|rfl|exact absurd ⟨_,_,rfl⟩ hcl|exact absurd ⟨_,rfl⟩ hnb|exact absurd ⟨_,rfl⟩ hsl|exact absurd ⟨_,_,_,_,rfl⟩ hao
  rw[e]at hc;rw[e,Rz h];cases he:ec ⟨tm,ob,tk⟩ d o with
  |none=>rw[he]at hc;cases hc
  |some q=>rw[he]at hc;simp only[mU,aq.injEq]at hc ⊢;obtain⟨F,ob',tk',h1,h2⟩:=oX (ob:=ob) (tk:=tk) d q;rw[h2]at hc;subst hc;exact⟨F,h1,rfl,h2 _⟩
theorem tn{i:SI}(h:∀n∈i.rds,eB tm' n=eB tm n):∀y∈i.op.args,CSt.ev ⟨tm',ob,tk⟩ y=CSt.ev ⟨tm,ob,tk⟩ y:=by
 intro y hy;refine xgw fun n hn=>h n ?_
 subst hn;unfold SI.rds;rw[al];exact .inl (List.mem_filterMap.2 ⟨_,hy,rfl⟩)
theorem X8{i:SI}{g:Nat}{b:Bool}(hg:i.g=some (g,b)):g∈i.rds:=by unfold SI.rds;rw[hg];simp
theorem Ct{i:SI}(h:∀n∈i.rds,eB tm' n=eB tm n)(hc:dQ call sg ⟨tm,ob,tk⟩ i=some c'):∃F,Uni i.dst F/\c'.tm=F tm/\dQ call sg ⟨tm',ob,tk⟩ i=some ⟨F tm',c'.ob,c'.tk⟩:=by
 unfold dQ at hc ⊢;split at hc
 ·exact Br (tn h) hc
 ·rename_i g b hg
  have e:CSt.get ⟨tm',ob,tk⟩ g=CSt.get ⟨tm,ob,tk⟩ g:=h g (X8 hg);rw[e];split at hc<;>try (cases hc;done)
  rotate_left
  ·obtain⟨F,h1,h2⟩:=Uni.cput i.dst (.tup [])
   rw[h2]at hc;cases hc;exact⟨F,h1,rfl,by rw[h2]⟩
  split at hc
  ·rename_i hb
   obtain⟨F,h1,h2,h3⟩:=Br (tn h) hc;exact⟨F,h1,h2,by simp only[if_pos hb];exact h3⟩
  ·rename_i hb
   obtain⟨F,h1,h2⟩:=Uni.cput i.dst (.tup []);rw[h2]at hc;cases hc;exact⟨F,h1,rfl,by simp only[if_neg hb];rw[h2]⟩
theorem XX{i:SI}(h:∀n∈i.rds,eB tm' n=eB tm n):qv ⟨tm',ob,tk⟩ i=qv ⟨tm,ob,tk⟩ i:=by
 have hq:df ⟨tm',ob,tk⟩ i.op=df ⟨tm,ob,tk⟩ i.op:=by
  have ha:=tn (ob:=ob) (tk:=tk) h;generalize i.op=o at ha;have hv:=zO ha;cases o with
  |pick k a b=>simp only[SOp.args,aw,cR,or_false,forall_eq_or_imp,forall_eq]at ha;simp only[df];rw[ha.1,ha.2.1,ha.2.2]
  |_=>simp only[df];rw[hv]
 unfold qv;cases hg:i.g with
 |none=>exact hq
 |some p=>obtain⟨g,b⟩:=p;simp only;have e:CSt.get ⟨tm',ob,tk⟩ g=CSt.get ⟨tm,ob,tk⟩ g:=h g (X8 hg);rw[e];cases CSt.get ⟨tm,ob,tk⟩ g<;>first|rfl|(simp only[qg];rw[hq])
end
theorem nR{i:SI}{v:SV}(h:qv c i=some v):dQ call sg c i=some (c.put i.dst v):=by
 have hop:∀o,df c o=some v->opC call sg c i.dst o=some (c.put i.dst v):=by
  intro o ho;cases o with
  |pick k a b=>simp only[df]at ho;split at ho<;>cases ho;rename_i t ht;simp only[opC,ec,ht,mU];rfl
  |_=>
   simp only[df]at ho
   first
    |(simp only[cL]at ho;cases ho;done)
    |(simp only[opC,ec];rw[ho];rfl)
    |(simp[cL]at ho;done)
 unfold qv at h;unfold dQ;generalize i.g=q at h;cases q with
 |none=>exact hop _ h
 |some q=>
  obtain⟨g,b⟩:=q;simp only at h ⊢;generalize c.get g=u at h
  by_cases hu:u= .tup []
  ·subst hu
   simp only[qg,aq.injEq]at h;subst h;rfl
  obtain⟨t,rfl⟩:∃t,u= .bool t:=by
   unfold qg at h;split at h
   ·exact⟨_,rfl⟩
   ·exact absurd rfl hu
   ·cases h
  simp only[qg]at h ⊢;split at h
  ·rename_i hb;rw[if_pos hb];exact hop _ h
  ·rename_i hb;rw[if_neg hb];cases h;rfl
structure Apx(N:Nat)(D:List Nat)(c p:CSt):Prop where
 get:∀n,n∉D->c.get n=p.get n
 ob:c.ob=p.ob
 tk:c.tk=p.tk
 dom:∀q∈p.tm,q.1<N
theorem Apx.step{D:List Nat}{p p1:CSt}{i:SI}(h:Apx N D c p)(hi:i.ok N=true)(hr:∀n∈i.rds,n∉D)(hs:dQ call sg p i=some p1):∃c1,dQ call sg c i=some c1/\Apx N D c1 p1:=by
 obtain⟨tm',ob',tk'⟩:=c;obtain⟨tm,ob,tk⟩:=p;have h1:=h.ob;have h2:=h.tk;simp only at h1 h2;subst h1;subst h2;obtain⟨F,k1,k2,k3⟩:=Ct (tm':=tm') (fun n hn=>h.get n (hr n hn)) hs;refine⟨_,k3,⟨fun n hn=> ?_,rfl,rfl,fun q hq=> ?_⟩⟩
 ·show eB (F tm') n=eB p1.tm n
  rw[k2];exact k1.get _ _ _ (h.get n hn)
 ·rw[k2]at hq
  rcases k1.dom _ _ hq with⟨q',hq',e⟩|e
  ·rw[<-e];exact h.dom q' hq'
  ·unfold SI.ok at hi
   rw[e]at hi;simpa using hi
theorem Apx.qv{D:List Nat}{p:CSt}{i:SI}(h:Apx N D c p)(hr:∀n∈i.rds,n∉D):qv c i=qv p i:=by obtain⟨tm',ob',tk'⟩:=c;obtain⟨tm,ob,tk⟩:=p;have h1:=h.ob;have h2:=h.tk;simp only at h1 h2;subst h1;subst h2;exact XX fun n hn=>h.get n (hr n hn)
theorem Apx.put{D:List Nat}{p:CSt}{d:Nat}{v:SV}(h:Apx N D c p)(hd:d<N):Apx N (d::D) c (p.put (some d) v):=by
 refine⟨fun n hn=> ?_,h.ob,h.tk,fun q hq=> ?_⟩
 ·simp only[aw,not_or]at hn
  rw[gF,if_neg hn.1];exact h.get n hn.2
 ·rcases lK hq with e|e
  ·rw[e];exact hd
  ·exact h.dom q e
theorem MW{p:CSt}{d:Nat}{v:SV}{i:SI}(h:d∉i.rds):Sy.qv (p.put (some d) v) i=Sy.qv p i:=by
 obtain⟨tm,ob,tk⟩:=p;refine XX (tm:=tm) (tm':=jg tm d v) fun n hn=> ?_
 rw[lN,if_neg (by intro e;subst e;exact h hn)]
theorem pu{α:Type}{p:Prop}{v u:α}(h:gdP p v=some u):p/\v=u:=by
 unfold gdP at h;split at h
 ·rename_i hp;exact⟨hp,by simpa using h⟩
 ·cases h
theorem pz{m:Nat}{p:CSt}{f:FI}:∀{l:List FI},sK m p l->f∈l->m.testBit f.n=true\/qv p f.i=some (p.get (f.i.dst.getD 0))
 |g::r,h,hf=>by
  rcases aw.1 hf with rfl|hf
  ·rcases h.1 with h1|h1
   ·left
    rw[Nat.testBit_eq_decide_div_mod_eq];simpa using h1
   ·exact .inr h1
  ·exact pz h.2 hf
def Nx(g q:FI):Prop:=q.q=true->∀d,q.i.dst=some d->d∉g.i.rds/\g.i.dst≠some d
def xR(q:FI):Prop:=q.q=true->∃d,q.i.dst=some d/\d∉q.i.rds
def dOf(f:FI):Nat:=f.i.dst.getD 0
theorem mg{b:List Nat}{cF:CSt}:∀{r ps V:List FI}{p:CSt}{D:List Nat},fc call sg b r ps p=some cF->Apx N D c p->(∀f∈r,f.i.ok N=true)->(∀f∈r,xR f)->r.Pairwise Nx->(∀g∈V,∀f∈r,Nx g f)->
 (∀g∈V,∃d,g.i.dst=some d)->(∀g∈V,qv p g.i=some (p.get (dOf g)))->∃seg post p2 ps2,r=seg++post/\(∀f∈seg,f.q=true)/\(post=[]\/∃f r',post=f::r'/\f.q=false)/\fc call sg b post ps2 p2=some cF/\
  (∀f,f∈ps\/f∈seg->f∈ps2)/\Apx N (seg.map dOf++D) c p2/\∀g,g∈V\/g∈seg->qv p2 g.i=some (p2.get (dOf g))
 |[],ps,V,p,D,h,hA,_,_,_,_,_,hV=>⟨[],[],p,ps,rfl,by simp,.inl rfl,h,by simp,by simpa using hA,by simpa using hV⟩
 |f::r,ps,V,p,D,h,hA,hok,hself,hpw,hVr,hVd,hV=>by
  obtain⟨n,q,i⟩:=f;cases q with
  |false=>exact⟨[],⟨n,false,i⟩::r,p,ps,rfl,by simp,.inr ⟨_,_,rfl,rfl⟩,h,by simp,by simpa using hA,by simpa using hV⟩
  |true=>
   simp only[fc]at h;cases hq:qv p i with
   |none=>rw[hq]at h;simp[vL]at h
   |some v=>
    rw[hq]at h;simp only[vL]at h;obtain⟨d,hd,hdr⟩:=hself _ (aE ..) rfl;simp only at hd hdr
    have hdN:d<N:=by have:=hok _ (aE ..);unfold SI.ok at this;simp only[hd]at this;simpa using this
    rw[hd]at h;rw[cK]at hpw
    have hget:∀g:FI,(∃e,g.i.dst=some e)->g.i.dst≠some d->(p.put (some d) v).get (dOf g)=p.get (dOf g):=by
     rintro g ⟨e,he⟩ hne;have e1:dOf g=e:=by unfold dOf;rw[he];rfl
     rw[e1,gF,if_neg];intro e2;rw[he,e2]at hne;exact hne rfl
    obtain⟨seg,post,p2,ps2,k1,k2,k3,k4,k5,k6,k7⟩:=mg (V:=⟨n,true,i⟩::V) h (hA.put hdN) (fun f hf=>hok f (av _ hf)) (fun f hf=>hself f (av _ hf)) hpw.2
     (by
      intro g hg f hf;rcases aw.1 hg with rfl|hg
      ·exact hpw.1 f hf
      ·exact hVr g hg f (av _ hf))
     (by
      intro g hg;rcases aw.1 hg with rfl|hg
      ·exact⟨d,hd⟩
      ·exact hVd g hg)
     (by
      intro g hg;rcases aw.1 hg with rfl|hg
      ·have e1:dOf ⟨n,true,i⟩=d:=by unfold dOf;simp only[hd];rfl
       rw[e1,MW hdr,gF,if_pos rfl];exact hq
      ·obtain⟨h1,h2⟩:=hVr g hg _ (aE ..) rfl d hd
       rw[MW h1,hget g (hVd g hg) h2];exact hV g hg)
    refine⟨⟨n,true,i⟩::seg,post,p2,ps2,by rw[k1];rfl, ?_,k3,k4, ?_, ?_, ?_⟩
    ·intro f hf
     rcases aw.1 hf with rfl|hf
     ·rfl
     ·exact k2 f hf
    ·intro f hf
     refine k5 f ?_;rcases hf with hf|hf
     ·exact .inl (av _ hf)
     ·rcases aw.1 hf with rfl|hf
      ·exact .inl (aE ..)
      ·exact .inr hf
    ·have e1:dOf ⟨n,true,i⟩=d:=by unfold dOf;simp only[hd];rfl
     refine⟨fun m hm=>k6.get m (fun h=>hm ?_),k6.ob,k6.tk,k6.dom⟩;simp only[aF,e1,bg,aw,al]at h ⊢;rcases h with h|h|h
     ·exact .inr (.inl h)
     ·exact .inl h
     ·exact .inr (.inr h)
    ·intro g hg
     refine k7 g ?_;rcases hg with hg|hg
     ·exact .inl (av _ hg)
     ·rcases aw.1 hg with rfl|hg
      ·exact .inl (aE ..)
      ·exact .inr hg
section
variable {ops : Array Oper} {its : List FI} {b : List Nat}
def un(its:List FI)(listed:Array Bool):List FI:=its.filter fun f=> !listed.getD f.n true
theorem cT{listed:Array Bool}{f:FI}:f∈un its listed↔f∈its/\listed.getD f.n true=false:=by simp[un]
structure oZ(call:de)(sg:Nat->Sig)(N:Nat)(b:List Nat)(its:List FI)(cF:CSt)(listed:Array Bool)(c:CSt):Prop where
 ex:∃pre post p ps,its=pre++post/\(post=[]\/∃f r,post=f::r/\f.q=false)/\fc call sg b post ps p=some cF/\(∀f∈pre,f.q=true->f∈ps)/\
  (∀f∈pre,f.q=false->listed.getD f.n true=true)/\(∀f∈post,listed.getD f.n true=false)/\
  Apx N ((un pre listed).map dOf) c p/\∀f∈un pre listed,qv p f.i=some (p.get (dOf f))
theorem xA(hcal:gb P call){cF:CSt}
 (hitem:∀f∈its,∃o,ops[f.n]? =some o/\fW P ops o=some f.i.er/\f.n<ops.size) (hex:∀j,j<ops.size->∃f∈its,f.n=j) (hinj:∀f∈its,∀g∈its,f.n=g.n->f=g)
 (hback:∀(i:Nat)(o:Oper),ops[i]? =some o->∀e∈o.after,Region.binds .any e=true->e.on<i)
 (hbit:∀(i:Nat)(o:Oper)(k:Nat),ops[i]? =some o->k<ops.size->(b.getD i 0).testBit k=true->∃e∈o.after,Region.binds .any e=true/\(e.on=k\/(b.getD e.on 0).testBit k=true))
 (hok:∀f∈its,f.i.ok N=true) (hself:∀f∈its,xR f) (hnx:its.Pairwise Nx)
 (hrd:∀q∈its,q.q=true->∀p∈its,∀d,q.i.dst=some d->d∈p.i.rds->(b.getD p.n 0).testBit q.n=true)
 (hseg:∀pre f r,its=pre++f::r->f.q=false->∀g∈r,∃h∈f::r,(b.getD g.n 0).testBit h.n=true)
 (hdd:∀f∈its,∀g∈its,f.n≠g.n->∀d,f.i.dst=some d->g.i.dst≠some d) {Q:Exit->Act->World->Prop} (hQ:∀a w,M C N cF a w->Q .normal a w):
 ∀(fuel:Nat)(listed:Array Bool)(c:CSt)(a:Act)(w:World),(un its listed).length<=fuel->listed.size=ops.size->
  (∀(i:Nat)(o:Oper)(k:Nat),ops[i]? =some o->listed.getD i true=true->k<ops.size->(b.getD i 0).testBit k=true->listed.getD k true=true)->
  oZ call sg N b its cF listed c->M C N c a w->wpAny P .any ops Q fuel listed a w:=by
 classical
 have hd2:∀(listed:Array Bool),listed.size=ops.size->∀k,k<ops.size->listed.getD k false=listed.getD k true:=by intro listed hs k hk;simp[jK,hs,hk]
 have done:∀(listed:Array Bool)(c:CSt)(a:Act)(w:World),un its listed=[]->oZ call sg N b its cF listed c->M C N c a w->Region.ready .any ops listed=[]/\Q .normal a w:=by
  intro listed c a w h0 hS hM;constructor
  ·rw[List.eq_nil_iff_forall_not_mem]
   intro j hj;obtain⟨h1,o,h2,h3⟩:=mem_ready.1 hj;have hj':j<ops.size:=(cW.1 h2).1;obtain⟨it,hit,rfl⟩:=hex j hj';have:it∈un its listed:=cT.2 ⟨hit,h1⟩;rw[h0]at this;cases this
  ·obtain⟨pre,post,p,ps,e,hp,hrun,_,_,hpost,hA,_⟩:=hS.ex
   have hp0:post=[]:=by
    cases post with
    |nil=>rfl
    |cons f r=>have:f∈un its listed:=cT.2 ⟨by rw[e];simp,hpost f (aE ..)⟩;rw[h0]at this;cases this
   subst hp0;simp only[fc,aq.injEq]at hrun;subst hrun;have hD:un pre listed=[]:=by rw[<-h0,e,bG]
   rw[hD]at hA;refine hQ a w ?_;obtain⟨x,s,hMo,hSi⟩:=hM;refine M.slots (c:=c) ⟨x,s,hMo,hSi⟩ ⟨hA.dom,by rw[<-hA.ob];exact hSi.inv.so,by rw[<-hA.ob];exact hSi.inv.wf⟩ hA.ob.symm hA.tk.symm (fun i=> .inl (hA.get i (by simp)).symm)
 intro fuel;induction fuel with
 |zero=>intro listed c a w hf hs hcl hS hM;exact done listed c a w (cd.1 (by omega)) hS hM
 |succ fuel ih=>
  intro listed c a w hf hs hcl hS hM;constructor
  ·intro hnil
   by_cases h0:un its listed=[]
   ·exact(done listed c a w h0 hS hM).2
   ·exfalso
    have hp:∃n,∃f∈un its listed,f.n=n:=by
     cases hc:un its listed with
     |nil=>exact absurd hc h0
     |cons f r=>exact⟨_,f,aE ..,rfl⟩
    obtain⟨n,⟨f,hfu,hfn⟩,hmin⟩:=X4 _ hp;obtain⟨h1,h2⟩:=cT.1 hfu;obtain⟨o,h3,_,h4⟩:=hitem f h1
    have:f.n∈Region.ready .any ops listed:=by refine mem_ready.2 ⟨h2,o,h3,fun e he hb=> ?_⟩;have hlt:=hback f.n o h3 e he hb;rw[hd2 listed hs _ (by omega),<-Bool.not_eq_false];intro hfl;obtain⟨g,hg,hgn⟩:=hex e.on (by omega);have:=hmin e.on ⟨g,cT.2 ⟨hg,by rw[hgn];exact hfl⟩,hgn⟩;omega
    rw[hnil]at this;cases this
  ·intro i hir
   obtain⟨h1,o,h2,h3⟩:=mem_ready.1 hir;have hi':i<ops.size:=(cW.1 h2).1;obtain⟨it,hit,rfl⟩:=hex i hi';obtain⟨o',ho',hres,_⟩:=hitem it hit;rw[h2]at ho';cases ho'
   have hdep:∀k,k<ops.size->(b.getD it.n 0).testBit k=true->listed.getD k true=true:=by
    intro k hk hb;obtain⟨e,he,hbd,hor⟩:=hbit it.n o k h2 hk hb;have hon:=h3 e he hbd;have honlt:=hback it.n o h2 e he hbd;rw[hd2 listed hs _ (by omega)]at hon;rcases hor with h|h
    ·rw[<-h];exact hon
    ·exact hcl e.on (ops[e.on]'(by omega)) k (by simp) hon hk h
   have hlen:(un its (listed.setIfInBounds it.n true)).length<(un its listed).length:=by
    have e1:un its (listed.setIfInBounds it.n true)=(un its listed).filter fun q=> !decide (q.n=it.n):=by
     simp only[un,List.filter_filter];apply List.filter_congr;intro q hq;rw[gC (by omega)]
     by_cases h:q.n=it.n<;>simp[h]
    rw[e1];refine List.length_filter_lt_length_iff_exists.2 ⟨it,cT.2 ⟨hit,h1⟩,by simp⟩
   have hcl':∀(i:Nat)(o:Oper)(k:Nat),ops[i]? =some o->(listed.setIfInBounds it.n true).getD i true=true->k<ops.size->(b.getD i 0).testBit k=true->(listed.setIfInBounds it.n true).getD k true=true:=by
    intro i2 o2 k2' ho2 hl2 hk2 hb2;rw[gC (by omega)]at hl2 ⊢;split
    ·rfl
    ·split at hl2
     ·rename_i e1
      subst e1;exact hdep k2' hk2 hb2
     ·exact hcl i2 o2 k2' ho2 hl2 hk2 hb2
   have hne:∀g∈its,listed.getD g.n true=true->g≠it:=by intro g _ hg e;subst e;rw[h1]at hg;cases hg
   have hset:∀g∈its,(listed.setIfInBounds it.n true).getD g.n true=if g=it then true else listed.getD g.n true:=by
    intro g hg;rw[gC (by omega)]
    by_cases h:g=it
    ·subst h;simp
    ·rw[if_neg (fun e=>h (hinj g hg it hit e)),if_neg h]
   obtain⟨pre,post,p,ps,e,hpost0,hrun,hps,hprel,hpostu,hA,hV⟩:=hS.ex;have hpre_in:∀g∈pre,g∈its:=fun g hg=>by rw[e];exact al.2 (.inl hg)
   have hpost_in:∀g∈post,g∈its:=fun g hg=>by rw[e];exact al.2 (.inr hg)
   have hrds:∀n∈it.i.rds,n∉(un pre listed).map dOf:=by
    intro n hn hm;obtain⟨g,hg,hgd⟩:=aT.1 hm;obtain⟨hg1,hg2⟩:=cT.1 hg
    have hgq:g.q=true:=by
     cases hq:g.q with
     |true=>rfl
     |false=>rw[hprel g hg1 hq]at hg2;cases hg2
    obtain⟨d,hd,_⟩:=hself g (hpre_in g hg1) hgq;have hdn:d=n:=by unfold dOf at hgd;rw[hd]at hgd;exact hgd
    subst hdn;have:=hrd g (hpre_in g hg1) hgq it hit d hd hn;obtain⟨_,_,_,hlt⟩:=hitem g (hpre_in g hg1);rw[hdep g.n hlt this]at hg2;cases hg2
   by_cases hin:it∈pre
   ·
    have hq:it.q=true:=by
     cases hq:it.q with
     |true=>rfl
     |false=>rw[hprel it hin hq]at h1;cases h1
    have hiu:it∈un pre listed:=cT.2 ⟨hin,h1⟩;have hv:=hV it hiu;rw[<-hA.qv hrds]at hv;obtain⟨d,hd,hdr⟩:=hself it hit hq;have hdo:dOf it=d:=by unfold dOf;rw[hd];rfl
    refine gl hcal hM (hok it hit) h2 hres (nR (call:=call) (sg:=sg) hv) fun a' w' hM'=> ?_
    refine ih _ _ a' w' (by omega) (by simpa using hs) hcl' ⟨pre,post,p,ps,e,hpost0,hrun,hps, ?_, ?_, ?_, ?_⟩ hM'
    ·intro f hf hfq
     rw[hset f (hpre_in f hf)];split
     ·rfl
     ·exact hprel f hf hfq
    ·intro f hf
     rw[hset f (hpost_in f hf),if_neg]
     ·exact hpostu f hf
     ·intro e2
      subst e2
      have hnd:its.Pairwise fun f g=>f.n≠g.n\/f=g:=List.pairwise_of_forall_mem_list (fun f hf g hg=>by
       by_cases h:f.n=g.n
       ·exact .inr (hinj f hf g hg h)
       ·exact .inl h)
      have h5:=hnx;rw[e]at h5;have h6:=(dw.1 h5).2.2 f hin f hf hq d hd;exact h6.2 hd
    ·refine⟨fun n hn=> ?_, ?_, ?_,hA.dom⟩
     ·rw[hd,gF]
      split
      ·rename_i e2;rw[e2,hdo]
      ·rename_i hnd
       refine hA.get n fun hm=>hn ?_
       obtain⟨g,hg,hgd⟩:=aT.1 hm;obtain⟨hg1,hg2⟩:=cT.1 hg;refine aT.2 ⟨g,cT.2 ⟨hg1, ?_⟩,hgd⟩;rw[hset g (hpre_in g hg1),if_neg]
       ·exact hg2
       ·intro e2;subst e2;rw[hdo]at hgd;exact hnd hgd.symm
     ·cases it.i.dst<;>exact hA.ob
     ·cases it.i.dst<;>exact hA.tk
    ·intro f hf
     obtain⟨hf1,hf2⟩:=cT.1 hf;refine hV f (cT.2 ⟨hf1, ?_⟩);rw[hset f (hpre_in f hf1)]at hf2;split at hf2
     ·cases hf2
     ·exact hf2
   ·
    have hinp:it∈post:=by rw[e]at hit;exact(al.1 hit).resolve_left hin
    obtain⟨f0,r,hpe,hf0⟩:∃f r,post=f::r/\f.q=false:=by
     rcases hpost0 with h|h
     ·subst h;cases hinp
     ·exact h
    have hit0:it=f0:=by
     rw[hpe]at hinp;rcases aw.1 hinp with h|h
     ·exact h
     ·exfalso
      obtain⟨g,hg,hgb⟩:=hseg pre f0 r (by rw[e,hpe]) hf0 it h;have hgi:g∈post:=by rw[hpe];exact hg
      obtain⟨_,_,_,hlt⟩:=hitem g (hpost_in g hgi);have:=hdep g.n hlt hgb;rw[hpostu g hgi]at this;cases this
    subst hit0;subst hpe;obtain⟨n,q,i⟩:=it;simp only at hf0;subst hf0;simp only[fc]at hrun;cases hs1:dQ call sg p i with
    |none=>rw[hs1]at hrun;simp[qh]at hrun
    |some p1=>
     rw[hs1]at hrun;simp only[qh]at hrun;cases hg:gdP (sK (b.getD n 0) p1 ps) p1 with
     |none=>rw[hg]at hrun;simp[qj]at hrun
     |some p1'=>
      rw[hg]at hrun;simp only[qj]at hrun;obtain⟨hchk,rfl⟩:=pu hg;obtain⟨c1,hc1,hA1⟩:=hA.step (hok _ hit) hrds hs1;refine gl hcal hM (hok _ hit) h2 hres hc1 fun a' w' hM'=> ?_
      have hsub:∀g∈un pre listed,g.q=true:=by
       intro g hg;obtain⟨hg1,hg2⟩:=cT.1 hg;cases hq:g.q with
       |true=>rfl
       |false=>rw[hprel g hg1 hq]at hg2;cases hg2
      have hnx':=hnx;rw[e]at hnx';have hpa:=dw.1 hnx'
      obtain⟨seg,post',p2,ps2,k1,k2,k3,k4,k5,k6,k7⟩:=mg (V:=un pre listed) hrun hA1 (fun f hf=>hok f (hpost_in f (av _ hf))) (fun f hf=>hself f (hpost_in f (av _ hf)))
       (cK.1 hpa.2.1).2 (fun g hg f hf=>hpa.2.2 g (cT.1 hg).1 f (av _ hf))
       (fun g hg=>by obtain⟨d,hd,_⟩:=hself g (hpre_in g (cT.1 hg).1) (hsub g hg);exact⟨d,hd⟩)
       (fun g hg=>by
        obtain⟨hg1,hg2⟩:=cT.1 hg;rcases pz hchk (hps g hg1 (hsub g hg))with h|h
        ·obtain⟨_,_,_,hlt⟩:=hitem g (hpre_in g hg1)
         rw[hdep g.n hlt h]at hg2;cases hg2
        ·exact h)
      have hun:un (pre++⟨n,false,i⟩::seg) (listed.setIfInBounds n true)=un pre listed++seg:=by
       unfold un;rw[List.filter_append,fq];have e1:(listed.setIfInBounds n true).getD n true=true:=by rw[gC (by rw[hs];exact hi')];simp
       simp only[e1,Bool.not_true,aO,if_false]
       congr 1
       ·apply List.filter_congr
        intro g hg;have:=hset g (hpre_in g hg);simp only at this;rw[this,if_neg];intro e2;subst e2;exact hin hg
       ·apply il.2
        intro g hg;have hgi:g∈⟨n,false,i⟩::r:=by rw[k1];exact av _ (al.2 (.inl hg))
        have:=hset g (hpost_in g hgi);simp only at this;rw[this,if_neg]
        ·rw[hpostu g hgi];rfl
        ·intro e2;subst e2;have:=k2 _ hg;cases this
      refine ih _ _ a' w' (by omega) (by simpa using hs) hcl' ⟨pre++⟨n,false,i⟩::seg,post',p2,ps2,by rw[e,k1];simp,k3,k4, ?_, ?_, ?_, ?_, ?_⟩ hM'
      ·intro f hf hfq
       rcases al.1 hf with h|h
       ·exact k5 f (.inl (hps f h hfq))
       ·rcases aw.1 h with rfl|h
        ·cases hfq
        ·exact k5 f (.inr h)
      ·intro f hf hfq
       rcases al.1 hf with h|h
       ·rw[hset f (hpre_in f h)]
        split
        ·rfl
        ·exact hprel f h hfq
       ·rcases aw.1 h with rfl|h
        ·rw[hset _ hit,if_pos rfl]
        ·rw[k2 f h]at hfq;cases hfq
      ·intro f hf
       have hfi:f∈⟨n,false,i⟩::r:=by rw[k1];exact av _ (al.2 (.inr hf))
       rw[hset f (hpost_in f hfi),if_neg]
       ·exact hpostu f hfi
       ·intro e2
        subst e2;obtain⟨g,hg,hgb⟩:=hseg pre ⟨n,false,i⟩ r e rfl ⟨n,false,i⟩ (by rw[k1];exact al.2 (.inr hf));obtain⟨_,_,_,hlt⟩:=hitem g (hpost_in g hg);have:=hdep g.n hlt hgb;rw[hpostu g hg]at this;cases this
      ·rw[hun,du]
       refine⟨fun m hm=>k6.get m (fun h=>hm ?_),k6.ob,k6.tk,k6.dom⟩;rw[al]at h ⊢;exact h.symm
      ·rw[hun]
       intro f hf;exact k7 f (al.1 hf)
end
theorem rq{f:FI}(l:List FI)(h:(l.map FI.n).Nodup)(hf:f∈l):D0 l f.n=f.i.er:=by
 induction l with
 |nil=>cases hf
 |cons g r ih=>
  simp only[aF,dN]at h;simp only[D0];rcases aw.1 hf with rfl|hf
  ·rw[if_pos rfl]
  ·rw[if_neg,ih h.2 hf]
   intro e;apply h.1;rw[e];exact ik hf
theorem Fe{b:List Nat}{s:Nat}(l:List FI):nf b (some s) l=true->∀g∈l,(b.getD g.n 0).testBit s=true\/∃h∈l,(b.getD g.n 0).testBit h.n=true:=by
 induction l generalizing s with
 |nil=>intro _ g hg;cases hg
 |cons f r ih=>
  intro h g hg;simp only[nf]at h;split at h
  ·simp only[aA,mP]at h
   rcases aw.1 hg with rfl|hg
   ·exact .inl h.1
   ·rcases ih h.2 g hg with h1|⟨k,hk,h1⟩
    ·exact .inl h1
    ·exact .inr ⟨k,av _ hk,h1⟩
  ·simp only[aA,mP]at h
   rcases aw.1 hg with rfl|hg
   ·exact .inl h.1
   ·rcases ih h.2 g hg with h1|⟨k,hk,h1⟩
    ·exact .inr ⟨f,aE ..,h1⟩
    ·exact .inr ⟨k,av _ hk,h1⟩
theorem x9{b:List Nat}:∀{pre:List FI}{s:Option Nat}{f:FI}{r:List FI},nf b s (pre++f::r)=true->f.q=false->nf b (some f.n) r=true
 |[],s,f,r,h,hf=>by simp only[aI,nf,hf,aO,if_false,aA]at h;exact h.2
 |g::pre,s,f,r,h,hf=>by
  simp only[bg,nf]at h;split at h
  ·rw[aA]at h;exact x9 h.2 hf
  ·rw[aA]at h;exact x9 h.2 hf
theorem ol{b:List Nat}:∀{l:List FI},oq b l=true->l.Pairwise fun p q=>(b.getD p.n 0).testBit q.n=false
 |[],_=>qH.nil
 |p::r,h=>by simp only[oq,aA,aV]at h;refine cK.2 ⟨fun q hq=> ?_,ol h.2⟩;have:=h.1 q hq;simp only[MZ,aA,cV,mP]at this;exact this.1
theorem Dh(hcal:gb P call){id:Nat}{ops:Array Oper}{its:List FI}(hl:jm (fW P ops) ops.toList=some (unF its))(hd:drawn ops (unF its)=true)(hm:P.follows .mixedOrders=true)
 (hok:its.all (fun f=>f.i.ok N)=true) (hflt:Oh (Region.before ops).toList its=true) {cF:CSt} {Q:Exit->Act->World->Prop} (hQ:∀a w,M C N cF a w->Q .normal a w) (hM:M C N c a w)
 (h:fc call sg (Region.before ops).toList its [] c=some cF):(Code.region id ops true).wp P Q a w:=by
 simp only[Oh,aA,decide_eq_true_eq,aV]at hflt;obtain⟨⟨⟨⟨⟨hseg,hpairs⟩,hfq⟩,hnd⟩,hlt⟩,hcov⟩:=hflt;simp only[Rf,aV,eV,cV]at hfq;rw[aV]at hok;obtain⟨hlen,hget⟩:=eS hl;have hul:(unF its).length=its.length:=by simp[unF]
 have hsz:its.length=ops.size:=by rw[<-hul,hlen,aS]
 have hun:∀f∈its,(unF its).getD f.n ⟨none,none,.lenC 0⟩=f.i.er:=by intro f hf;have:=hlt f hf;rw[aa];simp only[unF,aR,ch this,bp,aM];exact rq _ hnd hf
 simp only[drawn,aA,decide_eq_true_eq]at hd;obtain⟨⟨hc,ht⟩,hdst⟩:=hd
 have hitem:∀f∈its,∃o,ops[f.n]? =some o/\fW P ops o=some f.i.er/\f.n<ops.size:=by
  intro f hf;have hfl:=hlt f hf;have hj2:f.n<ops.toList.length:=by rw[aS];omega
  refine⟨ops.toList[f.n],by rw[<-cP,ac hj2], ?_,by omega⟩;have h1:=hget f.n hj2 (by omega);rw[h1]
  congr 1
  have h2:=hun f hf;rwa[aa,ac (by omega),aM]at h2
 have hinj:∀f∈its,∀g∈its,f.n=g.n->f=g:=by
  intro f hf g hg e;have:its.Pairwise fun f g=>f.n≠g.n:=by rw[we,gq]at hnd;exact hnd
  rw[nJ]at this;obtain⟨i,hi,rfl⟩:=List.mem_iff_getElem.1 hf;obtain⟨j,hj,rfl⟩:=List.mem_iff_getElem.1 hg;rcases Nat.lt_trichotomy i j with h|h|h
  ·exact absurd e (this i j hi hj h)
  ·subst h;rfl
  ·exact absurd e.symm (this j i hj hi h)
 have hdd:∀f∈its,∀g∈its,f.n≠g.n->∀d,f.i.dst=some d->g.i.dst≠some d:=by
  have main:∀f∈its,∀g∈its,f.n<g.n->∀d,f.i.dst=some d->g.i.dst≠some d:=by
   intro f hf g hg hlt' d h1 h2
   have hpl:(unF its).Pairwise fun u v=>∀d,u.dst=some d->v.dst≠some d:=by rw[we,List.pairwise_filterMap]at hdst;refine hdst.imp ?_;intro u v huv d hu hv;exact huv d hu d hv rfl
   rw[nJ]at hpl;have hf':=hlt f hf;have hg':=hlt g hg
   have g1:(unF its)[f.n]'(by omega)=f.i.er:=by have:=hun f hf;rwa[aa,ac (by omega),aM]at this
   have g2:(unF its)[g.n]'(by omega)=g.i.er:=by have:=hun g hg;rwa[aa,ac (by omega),aM]at this
   exact hpl f.n g.n (by omega) (by omega) hlt' d (by rw[g1];exact h1) (by rw[g2];exact h2)
  intro f hf g hg hne d h1 h2;rcases bO f.n g.n with h|h
  ·exact main f hf g hg h d h1 h2
  ·exact main g hg f hf (by omega) d h2 h1
 have hclosed:∀(i:Nat)(o:Oper),ops[i]? =some o->(∀e∈o.after,Region.binds .any e=true->e.on<i)/\
  ∀k,k<ops.size->((Region.before ops).toList.getD i 0).testBit k=true->∃e∈o.after,Region.binds .any e=true/\(e.on=k\/((Region.before ops).toList.getD e.on 0).testBit k=true):=by
  intro i o ho;unfold pH at hc;rw[aV]at hc;have hi:i<ops.size:=(cW.1 ho).1
  have h1:=hc (o,i) (by rw[List.mem_zipIdx_iff_getElem?];simpa using ho)
  simp only[aA,Array.all_eq_true_iff_forall_mem,aV,eV,cV,decide_eq_true_eq]at h1;refine⟨fun e he hb=>(h1.1 e he).resolve_left (by simp[hb]),fun k hk hb=> ?_⟩;have h2:=(h1.2 k (dJ.2 hk)).resolve_left (by simp only[hb];simp);obtain⟨_,h3⟩:=h2;rw[<-Array.any_toList,List.any_eq_true]at h3;obtain⟨e,he,h4⟩:=h3;rw[Array.mem_toList_iff]at he;simp only[aA,eV,beq_iff_eq]at h4;exact⟨e,he,h4.1,h4.2⟩
 have hq:∀q∈its,q.q=true->∃d,q.i.dst=some d/\∀p∈its,d∈p.i.rds->((Region.before ops).toList.getD p.n 0).testBit q.n=true/\p.n≠q.n:=by
  intro q hq hqq;have h1:=(hfq q hq).resolve_left (by rw[hqq];simp);cases hd:q.i.dst with
  |none=>rw[hd]at h1;cases h1
  |some d=>
   rw[hd]at h1;simp only[aV,eV,cV,aA,decide_eq_true_eq,mP]at h1;refine⟨d,rfl,fun p hp hr=> ?_⟩;rcases h1 p hp with h2|h2
   ·rw[eU]at h2;simp only[decide_eq_false_iff_not]at h2;exact absurd hr h2
   ·exact h2
 have hself:∀f∈its,xR f:=by intro f hf hfq;obtain⟨d,hd,h1⟩:=hq f hf hfq;exact⟨d,hd,fun h=>(h1 f hf h).2 rfl⟩
 have hrd:∀q∈its,q.q=true->∀p∈its,∀d,q.i.dst=some d->d∈p.i.rds->((Region.before ops).toList.getD p.n 0).testBit q.n=true:=by intro q hq' hqq p hp d hd hr;obtain⟨d',hd',h1⟩:=hq q hq' hqq;rw[hd']at hd;cases hd;exact(h1 p hp hr).1
 have hnx:its.Pairwise Nx:=by
  have h1:its.Pairwise fun f g=>f.n≠g.n:=by rw[we,gq]at hnd;exact hnd
  refine((ol hpairs).and h1).imp_of_mem ?_;rintro p q hp hq' ⟨h2,h3⟩ hqq d hd;refine⟨fun hr=> ?_,fun e=>hdd p hp q hq' h3 d e hd⟩;rw[hrd q hq' hqq p hp d hd hr]at h2;cases h2
 obtain⟨seg,post,p2,ps2,k1,k2,k3,k4,k5,k6,k7⟩:=mg (N:=N) (D:=[]) (V:=[]) h ⟨fun _ _=>rfl,rfl,rfl,by obtain⟨x,s,_,hS⟩:=hM;exact hS.inv.dom⟩ (fun f hf=>hok f hf) hself hnx (by simp) (by simp) (by simp)
 have hfalse:∀f∈its,(ei ops.size false).getD f.n true=false:=by
  intro f hf;have:=hlt f hf;have:f.n<ops.size:=by omega
  simp[jK,this]
 have hunf:un seg (ei ops.size false)=seg:=by apply il.2;intro f hf;rw[hfalse f (by rw[k1];exact al.2 (.inl hf))];rfl
 refine wp_region_any hm ?_
 refine xA (its:=its) (b:=(Region.before ops).toList) (cF:=cF) (sg:=sg) hcal hitem (fun j hj=> ?_) hinj (fun i o ho=>(hclosed i o ho).1) (fun i o k ho hk hb=>(hclosed i o ho).2 k hk hb) (fun f hf=>hok f hf) hself hnx hrd
  (fun pre f r e hf g hg=> ?_) hdd hQ ops.size _ c a _ ?_ (by simp) ?_ ⟨seg,post,p2,ps2,k1,k3,k4,fun f hf _=>k5 f (.inr hf),(fun f hf hq=>by rw[k2 f hf]at hq;cases hq),fun f hf=>hfalse f (by rw[k1];exact al.2 (.inr hf)), ?_, ?_⟩ ?_
 ·have:=hcov j (dJ.2 (by omega))
  rw[eU]at this;simp only[decide_eq_true_eq]at this;obtain⟨f,hf,e⟩:=aT.1 this;exact⟨f,hf,e⟩
 ·rw[e]at hseg
  rcases Fe _ (x9 hseg hf) g hg with h1|⟨k,hk,h1⟩
  ·exact⟨f,aE ..,h1⟩
  ·exact⟨k,av _ hk,h1⟩
 ·have:(un its (ei ops.size false)).length<=its.length:=List.length_filter_le _ _
  omega
 ·intro i o k ho hl _ _
  have hi:i<ops.size:=(cW.1 ho).1;simp[jK,hi]at hl
 ·rw[hunf];simpa using k6
 ·rw[hunf];intro f hf;exact k7 f (.inr hf)
 ·obtain⟨x,s,hMo,hS⟩:=hM
  exact⟨x,s,⟨hMo.tm,hMo.defers,hMo.heap.drawn _⟩,hS⟩
end Go.Sy
namespace Go.Sy
variable [bf]
variable {P : Program} {C : Ctx} {x : Sit} {a : Act} {w : World} {N : Nat} {c c' : CSt} {s : St} {call : de} {sg : Nat -> Sig}
variable {ops : Array Oper} {its σ : List FI} {b : List Nat} {cF : CSt} {listed : Array Bool}
structure NC(P:Program)(N:Nat)(ops:Array Oper)(its:List FI)(b:List Nat):Prop where
 item:∀f∈its,∃o,ops[f.n]? =some o/\fW P ops o=some f.i.er/\f.n<ops.size
 ex:∀j,j<ops.size->∃f∈its,f.n=j
 inj:∀f∈its,∀g∈its,f.n=g.n->f=g
 back:∀(i:Nat)(o:Oper),ops[i]? =some o->∀e∈o.after,Region.binds .any e=true->e.on<i
 bit:∀(i:Nat)(o:Oper)(k:Nat),ops[i]? =some o->k<ops.size->(b.getD i 0).testBit k=true->∃e∈o.after,Region.binds .any e=true/\(e.on=k\/(b.getD e.on 0).testBit k=true)
 ok:∀f∈its,f.i.ok N=true
 self:∀f∈its,xR f
 rd:∀q∈its,q.q=true->∀p∈its,∀d,q.i.dst=some d->d∈p.i.rds->(b.getD p.n 0).testBit q.n=true
structure Sd(its:List FI)(b:List Nat)(σ:List FI):Prop where
 mem:∀f,f∈σ↔f∈its
 nd:(σ.map FI.n).Nodup
 nx:σ.Pairwise Nx
 seg:∀pre f r,σ=pre++f::r->f.q=false->∀g∈r,g.q=true->∃h∈f::r,(b.getD g.n 0).testBit h.n=true
open Classical in
theorem z8(hs:listed.size=ops.size){it g:FI}(I:NC P N ops its b)(hit:it∈its)(hg:g∈its)(hi:it.n<ops.size):(listed.setIfInBounds it.n true).getD g.n true=if g=it then true else listed.getD g.n true:=by
 rw[gC (by omega)]
 by_cases h:g=it
 ·subst h;simp
 ·rw[if_neg (fun e=>h (I.inj g hg it hit e)),if_neg h]
theorem BF(I:NC P N ops its b)(O:Sd its b σ){pre:List FI}{it:FI}(hit:it∈its)(hpre:∀g∈pre,g∈its)(hprel:∀f∈pre,f.q=false->listed.getD f.n true=true)
 (hdep:∀k,k<ops.size->(b.getD it.n 0).testBit k=true->listed.getD k true=true):∀n∈it.i.rds,n∉(un pre listed).map dOf:=by
 intro n hn hm;obtain⟨g,hg,hgd⟩:=aT.1 hm;obtain⟨hg1,hg2⟩:=cT.1 hg
 have hgq:g.q=true:=by
  cases hq:g.q with
  |true=>rfl
  |false=>rw[hprel g hg1 hq]at hg2;cases hg2
 obtain⟨d,hd,_⟩:=I.self g (hpre g hg1) hgq;have hdn:d=n:=by unfold dOf at hgd;rw[hd]at hgd;exact hgd
 subst hdn;have:=I.rd g (hpre g hg1) hgq it hit d hd hn;obtain⟨_,_,_,hlt⟩:=I.item g (hpre g hg1);rw[hdep g.n hlt this]at hg2;cases hg2
theorem zV(hs:listed.size=ops.size)(I:NC P N ops its b)(O:Sd its b σ)(hS:oZ call sg N b σ cF listed c){it:FI}(hit:it∈its)(h1:listed.getD it.n true=false)(hq:it.q=true)
 (hdep:∀k,k<ops.size->(b.getD it.n 0).testBit k=true->listed.getD k true=true):
 ∃v,qv c it.i=some v/\oZ call sg N b σ cF (listed.setIfInBounds it.n true) (c.put it.i.dst v):=by
 classical
 obtain⟨_,_,_,hi'⟩:=I.item it hit;have hset:∀g∈its,(listed.setIfInBounds it.n true).getD g.n true=if g=it then true else listed.getD g.n true:=fun g hg=>z8 hs I hit hg hi'
 obtain⟨pre,post,p,ps,e,hpost0,hrun,hps,hprel,hpostu,hA,hV⟩:=hS.ex;have hpre_in:∀g∈pre,g∈its:=fun g hg=>(O.mem g).1 (by rw[e];exact al.2 (.inl hg))
 have hpost_in:∀g∈post,g∈its:=fun g hg=>(O.mem g).1 (by rw[e];exact al.2 (.inr hg))
 have hrds:=BF (listed:=listed) I O hit hpre_in hprel hdep
 have hin:it∈pre:=by
  have h2:=(O.mem it).2 hit;rw[e]at h2;rcases al.1 h2 with h3|h3
  ·exact h3
  ·exfalso
   rcases hpost0 with h4|⟨f0,r,h4,hf0⟩
   ·rw[h4]at h3;cases h3
   ·have h5:it∈r:=by
     rw[h4]at h3;rcases aw.1 h3 with h|h
     ·rw[h,hf0]at hq;cases hq
     ·exact h
    obtain⟨g,hg,hgb⟩:=O.seg pre f0 r (by rw[e,h4]) hf0 it h5 hq;have hgi:g∈post:=by rw[h4];exact hg
    obtain⟨_,_,_,hlt⟩:=I.item g (hpost_in g hgi);have:=hdep g.n hlt hgb;rw[hpostu g hgi]at this;cases this
 have hiu:it∈un pre listed:=cT.2 ⟨hin,h1⟩;have hv:=hV it hiu;rw[<-hA.qv hrds]at hv;obtain⟨d,hd,hdr⟩:=I.self it hit hq;have hdo:dOf it=d:=by unfold dOf;rw[hd];rfl
 refine⟨_,hv,⟨pre,post,p,ps,e,hpost0,hrun,hps, ?_, ?_, ?_, ?_⟩⟩
 ·intro f hf hfq
  rw[hset f (hpre_in f hf)];split
  ·rfl
  ·exact hprel f hf hfq
 ·intro f hf
  rw[hset f (hpost_in f hf),if_neg]
  ·exact hpostu f hf
  ·intro e2
   subst e2;have h5:=O.nx;rw[e]at h5;have h6:=(dw.1 h5).2.2 f hin f hf hq d hd;exact h6.2 hd
 ·refine⟨fun n hn=> ?_, ?_, ?_,hA.dom⟩
  ·rw[hd,gF]
   split
   ·rename_i e2;rw[e2,hdo]
   ·rename_i hnd
    refine hA.get n fun hm=>hn ?_
    obtain⟨g,hg,hgd⟩:=aT.1 hm;obtain⟨hg1,hg2⟩:=cT.1 hg;refine aT.2 ⟨g,cT.2 ⟨hg1, ?_⟩,hgd⟩;rw[hset g (hpre_in g hg1),if_neg]
    ·exact hg2
    ·intro e2;subst e2;rw[hdo]at hgd;exact hnd hgd.symm
  ·cases it.i.dst<;>exact hA.ob
  ·cases it.i.dst<;>exact hA.tk
 ·intro f hf
  obtain⟨hf1,hf2⟩:=cT.1 hf;refine hV f (cT.2 ⟨hf1, ?_⟩);rw[hset f (hpre_in f hf1)]at hf2;split at hf2
  ·cases hf2
  ·exact hf2
theorem Gs(l r:List FI):fu (l++r)=fu l++fu r:=List.filterMap_append
theorem Dw{l:List FI}(h:∀f∈l,f.q=true):fu l=[]:=by unfold fu;rw[List.filterMap_eq_nil_iff];intro f hf;rw[h f hf];rfl
theorem pl{l:List FI}{k:Nat}:k∈fu l↔∃f∈l,f.q=false/\f.n=k:=by
 unfold fu;rw[List.mem_filterMap];constructor
 ·rintro⟨f,hf,h⟩
  cases hq:f.q with
  |true=>rw[hq]at h;cases h
  |false=>rw[hq]at h;exact⟨f,hf,hq,by simpa using h⟩
 ·rintro⟨f,hf,hq,rfl⟩;exact⟨f,hf,by rw[hq];rfl⟩
theorem jQ(k:Nat):∀l:List FI,fu (l.filter fun q=> !decide (q.n=k))=(fu l).filter fun x=> !decide (x=k)
 |[]=>rfl
 |f::r=>by
  have ih:=jQ k r;rw[fq]
  by_cases h:f.n=k
  ·cases hq:f.q with
   |true=>simp only[h,decide_true,Bool.not_true,aO,if_false,ih];simp[fu,hq]
   |false=>simp only[h,decide_true,Bool.not_true,aO,if_false,ih];simp[fu,hq,h]
  ·cases hq:f.q with
   |true=>simp only[h,decide_false,Bool.not_false,if_true];simp only[fu,List.filterMap_cons,hq,if_true]at ih ⊢;exact ih
   |false=>simp only[h,decide_false,Bool.not_false,if_true];simp only[fu,List.filterMap_cons,hq,aO,if_false,fq,h,decide_false,Bool.not_false,if_true]at ih ⊢;rw[ih]
theorem x6(hs:listed.size=ops.size){k:Nat}(hk:k<ops.size)(σ:List FI):un σ (listed.setIfInBounds k true)=(un σ listed).filter fun q=> !decide (q.n=k):=by
 simp only[un,List.filter_filter];apply List.filter_congr;intro q hq;rw[gC (by omega)]
 by_cases h:q.n=k<;>simp[h]
theorem zW(hs:listed.size=ops.size)(I:NC P N ops its b)(O:Sd its b σ)(hS:oZ call sg N b σ cF listed c){it:FI}(hit:it∈its)(h1:listed.getD it.n true=false)(hq:it.q=false)
 (hdep:∀k,k<ops.size->(b.getD it.n 0).testBit k=true->listed.getD k true=true) (hh:(fu (un σ listed)).head? =some it.n):
 ∃c1,dQ call sg c it.i=some c1/\oZ call sg N b σ cF (listed.setIfInBounds it.n true) c1:=by
 classical
 obtain⟨_,_,_,hi'⟩:=I.item it hit;have hset:∀g∈its,(listed.setIfInBounds it.n true).getD g.n true=if g=it then true else listed.getD g.n true:=fun g hg=>z8 hs I hit hg hi'
 obtain⟨pre,post,p,ps,e,hpost0,hrun,hps,hprel,hpostu,hA,hV⟩:=hS.ex;have hpre_in:∀g∈pre,g∈its:=fun g hg=>(O.mem g).1 (by rw[e];exact al.2 (.inl hg))
 have hpost_in:∀g∈post,g∈its:=fun g hg=>(O.mem g).1 (by rw[e];exact al.2 (.inr hg))
 have hrds:=BF (listed:=listed) I O hit hpre_in hprel hdep
 have hsub:∀g∈un pre listed,g.q=true:=by
  intro g hg;obtain⟨hg1,hg2⟩:=cT.1 hg;cases hq:g.q with
  |true=>rfl
  |false=>rw[hprel g hg1 hq]at hg2;cases hg2
 have hup:un post listed=post:=il.2 fun f hf=>by rw[hpostu f hf];rfl
 have hu:fu (un σ listed)=fu post:=by
  have:un σ listed=un pre listed++un post listed:=by rw[e];exact List.filter_append ..
  rw[this,Gs,Dw hsub,hup];rfl
 rw[hu]at hh
 obtain⟨f0,r,hpe,hf0⟩:∃f r,post=f::r/\f.q=false:=by
  rcases hpost0 with h|h
  ·rw[h]at hh;cases hh
  ·exact h
 have hit0:it=f0:=by
  rw[hpe]at hh;have h2:fu (f0::r)=f0.n::fu r:=by simp[fu,hf0]
  rw[h2]at hh;simp only[List.head?_cons,aq.injEq]at hh;exact I.inj it hit f0 (hpost_in f0 (by rw[hpe];exact aE ..)) hh.symm
 subst hit0;subst hpe
 have hnd:(pre++it::r).Pairwise fun f g=>f.n≠g.n:=by have:=O.nd;rw[e,we,gq]at this;exact this
 obtain⟨n,q,i⟩:=it;simp only at hf0;subst hf0;simp only[fc]at hrun;cases hs1:dQ call sg p i with
 |none=>rw[hs1]at hrun;simp[qh]at hrun
 |some p1=>
  rw[hs1]at hrun;simp only[qh]at hrun;cases hg:gdP (sK (b.getD n 0) p1 ps) p1 with
  |none=>rw[hg]at hrun;simp[qj]at hrun
  |some p1'=>
   rw[hg]at hrun;simp only[qj]at hrun;obtain⟨hchk,rfl⟩:=pu hg;obtain⟨c1,hc1,hA1⟩:=hA.step (I.ok _ hit) hrds hs1;refine⟨c1,hc1, ?_⟩;have hnx':=O.nx;rw[e]at hnx';have hpa:=dw.1 hnx'
   obtain⟨seg,post',p2,ps2,k1,k2,k3,k4,k5,k6,k7⟩:=mg (V:=un pre listed) hrun hA1 (fun f hf=>I.ok f (hpost_in f (av _ hf))) (fun f hf=>I.self f (hpost_in f (av _ hf)))
    (cK.1 hpa.2.1).2 (fun g hg f hf=>hpa.2.2 g (cT.1 hg).1 f (av _ hf))
    (fun g hg=>by obtain⟨d,hd,_⟩:=I.self g (hpre_in g (cT.1 hg).1) (hsub g hg);exact⟨d,hd⟩)
    (fun g hg=>by
     obtain⟨hg1,hg2⟩:=cT.1 hg;rcases pz hchk (hps g hg1 (hsub g hg))with h|h
     ·obtain⟨_,_,_,hlt⟩:=I.item g (hpre_in g hg1)
      rw[hdep g.n hlt h]at hg2;cases hg2
     ·exact h)
   have hnp:∀g∈pre,g≠⟨n,false,i⟩:=fun g hg e2=>by have:=(dw.1 hnd).2.2 g hg _ (aE ..);rw[e2]at this;exact this rfl
   have hnr:∀g∈r,g≠⟨n,false,i⟩:=fun g hg e2=>by have:=(cK.1 (dw.1 hnd).2.1).1 g hg;rw[e2]at this;exact this rfl
   have hun:un (pre++⟨n,false,i⟩::seg) (listed.setIfInBounds n true)=un pre listed++seg:=by
    unfold un;rw[List.filter_append,fq];have e1:(listed.setIfInBounds n true).getD n true=true:=by rw[gC (by rw[hs];exact hi')];simp
    simp only[e1,Bool.not_true,aO,if_false]
    congr 1
    ·apply List.filter_congr
     intro g hg;have:=hset g (hpre_in g hg);simp only at this;rw[this,if_neg (hnp g hg)]
    ·apply il.2
     intro g hg;have hgr:g∈r:=by rw[k1];exact al.2 (.inl hg)
     have hgi:g∈⟨n,false,i⟩::r:=av _ hgr;have:=hset g (hpost_in g hgi);simp only at this;rw[this,if_neg (hnr g hgr),hpostu g hgi];rfl
   refine⟨pre++⟨n,false,i⟩::seg,post',p2,ps2,by rw[e,k1];simp,k3,k4, ?_, ?_, ?_, ?_, ?_⟩
   ·intro f hf hfq
    rcases al.1 hf with h|h
    ·exact k5 f (.inl (hps f h hfq))
    ·rcases aw.1 h with rfl|h
     ·cases hfq
     ·exact k5 f (.inr h)
   ·intro f hf hfq
    rcases al.1 hf with h|h
    ·rw[hset f (hpre_in f h)]
     split
     ·rfl
     ·exact hprel f h hfq
    ·rcases aw.1 h with rfl|h
     ·rw[hset _ hit,if_pos rfl]
     ·rw[k2 f h]at hfq;cases hfq
   ·intro f hf
    have hfr:f∈r:=by rw[k1];exact al.2 (.inr hf)
    have hfi:f∈⟨n,false,i⟩::r:=av _ hfr;rw[hset f (hpost_in f hfi),if_neg (hnr f hfr)];exact hpostu f hfi
   ·rw[hun,du]
    refine⟨fun m hm=>k6.get m (fun h=>hm ?_),k6.ob,k6.tk,k6.dom⟩;rw[al]at h ⊢;exact h.symm
   ·rw[hun]
    intro f hf;exact k7 f (al.1 hf)
theorem Gr{k:Nat}{g:Nat}{A:List (List Nat)}(h:kn b k A=true)(hg:∀l,A.head? =some l->g∈l)(hr:∀l,A.head? =some l->∀x∈l,x≠g->(b.getD g 0).testBit x=false):
 ∃k',kn b k' (A.filterMap fun p=>match p with|x::r=>if x=g then some r else none|[]=>none)=true:=by
 cases A with
 |nil=>cases k<;>simp[kn]at h
 |cons l A=>
  cases l with
  |nil=>have:=hg [] rfl;cases this
  |cons y t=>
   cases k with
   |zero=>simp[kn]at h
   |succ k=>
    simp only[kn,aV]at h;have h1:=h g (hg _ rfl);rw[eV]at h1;rcases h1 with h1|h1
    ·exfalso
     rw[List.any_eq_true]at h1;obtain⟨x,hx,h2⟩:=h1;rw[aA]at h2;have h3:=of_decide_eq_true h2.1;have:=hr _ rfl x hx h3;unfold mP at h2;rw[h2.2]at this;cases this
    ·exact⟨k,h1⟩
theorem rI{R R':List FI->List Nat}{g:Nat}:∀{A:List (List FI)},(∀σ∈A,∀r,R σ=g::r->R' σ=r)->
 (A.filter fun σ=>decide ((R σ).head? =some g)).map R'=(A.map R).filterMap fun p=>match p with|x::r=>if x=g then some r else none|[]=>none
 |[],_=>rfl
 |σ::A,h=>by
  have ih:=rI (R:=R) (R':=R') (g:=g) (A:=A) fun τ hτ=>h τ (av _ hτ)
  have h0:=h σ (aE ..);rw[fq,aF,List.filterMap_cons];cases hR:R σ with
  |nil=>simp only[List.head?_nil,reduceCtorEq,decide_false,aO,if_false];exact ih
  |cons y t=>
   by_cases hy:y=g
   ·subst hy
    simp only[List.head?_cons,decide_true,if_true,aF,h0 t hR];rw[ih]
   ·have:¬(some y=some g):=fun e=>hy (by injection e)
    simp only[List.head?_cons,this,decide_false,aO,if_false,hy];exact ih
theorem GF(
 hcal:gb P call)(I:NC P N ops its b){ords:List (List FI)}(hO:∀σ∈ords,Sd its b σ){Q:Exit->Act->World->Prop}(hQ:∀a w,M C N cF a w->Q .normal a w):
 ∀(fuel:Nat)(listed:Array Bool)(c:CSt)(a:Act)(w:World)(A:List (List FI))(k:Nat),(un its listed).length<=fuel->listed.size=ops.size->
  (∀(i:Nat)(o:Oper)(k:Nat),ops[i]? =some o->listed.getD i true=true->k<ops.size->(b.getD i 0).testBit k=true->listed.getD k true=true)->
  (∀σ∈A,σ∈ords/\oZ call sg N b σ cF listed c)->kn b k (A.map fun σ=>fu (un σ listed))=true->M C N c a w->wpAny P .any ops Q fuel listed a w:=by
 classical
 have hd2:∀(listed:Array Bool),listed.size=ops.size->∀k,k<ops.size->listed.getD k false=listed.getD k true:=by intro listed hs k hk;simp[jK,hs,hk]
 have done:∀(listed:Array Bool)(c:CSt)(a:Act)(w:World)(A:List (List FI))(k:Nat),un its listed=[]->(∀σ∈A,σ∈ords/\oZ call sg N b σ cF listed c)->kn b k (A.map fun σ=>fu (un σ listed))=true->M C N c a w->Region.ready .any ops listed=[]/\Q .normal a w:=by
  intro listed c a w A k h0 hA' hcov hM;constructor
  ·rw[List.eq_nil_iff_forall_not_mem]
   intro j hj;obtain⟨h1,o,h2,h3⟩:=mem_ready.1 hj;have hj':j<ops.size:=(cW.1 h2).1;obtain⟨it,hit,rfl⟩:=I.ex j hj';have:it∈un its listed:=cT.2 ⟨hit,h1⟩;rw[h0]at this;cases this
  ·cases A with
   |nil=>cases k<;>simp[kn]at hcov
   |cons σ A=>
    obtain⟨hσ,hS⟩:=hA' σ (aE ..)
    have h0':un σ listed=[]:=by rw[List.eq_nil_iff_forall_not_mem];intro f hf;obtain⟨h1,h2⟩:=cT.1 hf;have:f∈un its listed:=cT.2 ⟨((hO σ hσ).mem f).1 h1,h2⟩;rw[h0]at this;cases this
    obtain⟨pre,post,p,ps,e,hp,hrun,_,_,hpost,hA,_⟩:=hS.ex
    have hp0:post=[]:=by
     cases post with
     |nil=>rfl
     |cons f r=>have:f∈un σ listed:=cT.2 ⟨by rw[e];simp,hpost f (aE ..)⟩;rw[h0']at this;cases this
    subst hp0;simp only[fc,aq.injEq]at hrun;subst hrun;have hD:un pre listed=[]:=by rw[<-h0',e,bG]
    rw[hD]at hA;refine hQ a w ?_;obtain⟨x,s,hMo,hSi⟩:=hM;refine M.slots (c:=c) ⟨x,s,hMo,hSi⟩ ⟨hA.dom,by rw[<-hA.ob];exact hSi.inv.so,by rw[<-hA.ob];exact hSi.inv.wf⟩ hA.ob.symm hA.tk.symm (fun i=> .inl (hA.get i (by simp)).symm)
 intro fuel;induction fuel with
 |zero=>intro listed c a w A k hf hs hcl hS hcov hM;exact done listed c a w A k (cd.1 (by omega)) hS hcov hM
 |succ fuel ih=>
  intro listed c a w A k hf hs hcl hS hcov hM;constructor
  ·intro hnil
   by_cases h0:un its listed=[]
   ·exact(done listed c a w A k h0 hS hcov hM).2
   ·exfalso
    have hp:∃n,∃f∈un its listed,f.n=n:=by
     cases hc:un its listed with
     |nil=>exact absurd hc h0
     |cons f r=>exact⟨_,f,aE ..,rfl⟩
    obtain⟨n,⟨f,hfu,hfn⟩,hmin⟩:=X4 _ hp;obtain⟨h1,h2⟩:=cT.1 hfu;obtain⟨o,h3,_,h4⟩:=I.item f h1
    have:f.n∈Region.ready .any ops listed:=by refine mem_ready.2 ⟨h2,o,h3,fun e he hb=> ?_⟩;have hlt:=I.back f.n o h3 e he hb;rw[hd2 listed hs _ (by omega),<-Bool.not_eq_false];intro hfl;obtain⟨g,hg,hgn⟩:=I.ex e.on (by omega);have:=hmin e.on ⟨g,cT.2 ⟨hg,by rw[hgn];exact hfl⟩,hgn⟩;omega
    rw[hnil]at this;cases this
  ·intro i hir
   obtain⟨h1,o,h2,h3⟩:=mem_ready.1 hir;have hi':i<ops.size:=(cW.1 h2).1;obtain⟨it,hit,rfl⟩:=I.ex i hi';obtain⟨o',ho',hres,_⟩:=I.item it hit;rw[h2]at ho';cases ho'
   have hdep:∀k,k<ops.size->(b.getD it.n 0).testBit k=true->listed.getD k true=true:=by
    intro k hk hb;obtain⟨e,he,hbd,hor⟩:=I.bit it.n o k h2 hk hb;have hon:=h3 e he hbd;have honlt:=I.back it.n o h2 e he hbd;rw[hd2 listed hs _ (by omega)]at hon;rcases hor with h|h
    ·rw[<-h];exact hon
    ·exact hcl e.on (ops[e.on]'(by omega)) k (by simp) hon hk h
   have hlen:(un its (listed.setIfInBounds it.n true)).length<(un its listed).length:=by rw[x6 hs hi'];refine List.length_filter_lt_length_iff_exists.2 ⟨it,cT.2 ⟨hit,h1⟩,by simp⟩
   have hcl':∀(i:Nat)(o:Oper)(k:Nat),ops[i]? =some o->(listed.setIfInBounds it.n true).getD i true=true->k<ops.size->(b.getD i 0).testBit k=true->(listed.setIfInBounds it.n true).getD k true=true:=by
    intro i2 o2 k2' ho2 hl2 hk2 hb2;rw[gC (by omega)]at hl2 ⊢;split
    ·rfl
    ·split at hl2
     ·rename_i e1
      subst e1;exact hdep k2' hk2 hb2
     ·exact hcl i2 o2 k2' ho2 hl2 hk2 hb2
   have hsz:(listed.setIfInBounds it.n true).size=ops.size:=by simpa using hs
   obtain⟨σ0,A0,hA0⟩:∃σ A',A=σ::A':=by
    cases A with
    |nil=>cases k<;>simp[kn]at hcov
    |cons σ A'=>exact⟨σ,A',rfl⟩
   cases hq:it.q with
   |true=>
    obtain⟨hσ0,hS0⟩:=hS σ0 (by rw[hA0];exact aE ..);obtain⟨v,hv,_⟩:=zV hs I (hO σ0 hσ0) hS0 hit h1 hq hdep;refine gl hcal hM (I.ok it hit) h2 hres (nR (call:=call) (sg:=sg) hv) fun a' w' hM'=> ?_
    refine ih _ _ a' w' A k (by omega) hsz hcl' (fun σ hσ=>⟨(hS σ hσ).1, ?_⟩) ?_ hM'
    ·obtain⟨v',hv',hS'⟩:=zV hs I (hO σ (hS σ hσ).1) (hS σ hσ).2 hit h1 hq hdep
     rw[hv]at hv';injection hv' with e;subst e
     exact hS'
    ·have:(A.map fun σ=>fu (un σ (listed.setIfInBounds it.n true)))=A.map fun σ=>fu (un σ listed):=by
      apply List.map_congr_left;intro σ hσ;rw[x6 hs hi',jQ,il];intro x hx;obtain⟨f,hf,hfq,rfl⟩:=pl.1 hx;have hfi:=((hO σ (hS σ hσ).1).mem f).1 (cT.1 hf).1;have:¬f.n=it.n:=fun e=>by rw[I.inj f hfi it hit e,hq]at hfq;cases hfq
      simp[this]
     rw[this];exact hcov
   |false=>
    have hmemR:∀σ∈A,it.n∈fu (un σ listed):=fun σ hσ=>pl.2 ⟨it,cT.2 ⟨((hO σ (hS σ hσ).1).mem it).2 hit,h1⟩,hq,rfl⟩
    obtain⟨k',hk'⟩:=Gr (g:=it.n) hcov (fun l hl=>by
     rw[hA0]at hl;simp only[aF,List.head?_cons,aq.injEq]at hl;rw[<-hl];exact hmemR σ0 (by rw[hA0];exact aE ..)) (fun l hl y hy hne=>by
     rw[hA0]at hl;simp only[aF,List.head?_cons,aq.injEq]at hl;rw[<-hl]at hy;obtain⟨f,hf,hfq,rfl⟩:=pl.1 hy;obtain⟨hf1,hf2⟩:=cT.1 hf;have hfi:=((hO σ0 (hS σ0 (by rw[hA0];exact aE ..)).1).mem f).1 hf1;obtain⟨_,_,_,hlt⟩:=I.item f hfi;rw[<-Bool.not_eq_true];intro hb;rw[hdep f.n hlt hb]at hf2;cases hf2)
    rw[<-rI (R:=fun σ=>fu (un σ listed)) (R':=fun σ=>fu (un σ (listed.setIfInBounds it.n true))) (fun σ hσ r hR=>by
     show fu (un σ (listed.setIfInBounds it.n true))=r;rw[x6 hs hi',jQ];have hR':fu (un σ listed)=it.n::r:=hR;rw[hR',fq];simp only[decide_true,Bool.not_true,aO,if_false];rw[il];intro y hy
     have hnd:(fu (un σ listed)).Nodup:=by
      have h5:=(hO σ (hS σ hσ).1).nd
      have h6:(fu (un σ listed)).Sublist (σ.map FI.n):=by
       have h7:(fu (un σ listed)).Sublist ((un σ listed).map FI.n):=by
        unfold fu;rw[show(fun f:FI=>if f.q=true then none else some f.n)=fun f:FI=>if f.q=true then none else some (FI.n f)from rfl];generalize un σ listed=l;induction l with
        |nil=>exact mZ.slnil
        |cons f r ih=>
         rw[List.filterMap_cons,aF];cases hq:f.q with
         |true=>exact mZ.cons _ ih
         |false=>exact mZ.cons_cons _ ih
       exact h7.trans (mZ.map _ List.filter_sublist)
      exact h5.sublist h6
     rw[hR']at hnd;have:y≠it.n:=fun e=>by rw[e]at hy;exact(dN.1 hnd).1 hy
     simp[this])]at hk'
    obtain⟨σ1,hσ1⟩:∃σ,σ∈A.filter fun σ=>decide ((fu (un σ listed)).head? =some it.n):=by
     cases hX:A.filter fun σ=>decide ((fu (un σ listed)).head? =some it.n)with
     |nil=>rw[hX]at hk';cases k'<;>simp[kn]at hk'
     |cons σ _=>exact⟨σ,aE ..⟩
    obtain⟨h4,h5⟩:=List.mem_filter.1 hσ1;obtain⟨c1,hc1,_⟩:=zW hs I (hO σ1 (hS σ1 h4).1) (hS σ1 h4).2 hit h1 hq hdep (of_decide_eq_true h5);refine gl hcal hM (I.ok it hit) h2 hres hc1 fun a' w' hM'=> ?_
    refine ih _ _ a' w' _ k' (by omega) hsz hcl' (fun σ hσ=> ?_) hk' hM';obtain⟨h6,h7⟩:=List.mem_filter.1 hσ;obtain⟨c2,hc2,hS2⟩:=zW hs I (hO σ (hS σ h6).1) (hS σ h6).2 hit h1 hq hdep (of_decide_eq_true h7);rw[hc1]at hc2;injection hc2 with e;subst e
    exact⟨(hS σ h6).1,hS2⟩
theorem QO(hl:jm (fW P ops) ops.toList=some (unF its))(hd:drawn ops (unF its)=true)(hok:∀f∈its,f.i.ok N=true)(hfq:Rf (Region.before ops).toList its=true)
 (hnd:(its.map FI.n).Nodup) (hlt:∀f∈its,f.n<its.length) (hcov:∀j∈bA its.length,(its.map FI.n).contains j=true):
 NC P N ops its (Region.before ops).toList/\(∀f∈its,∀g∈its,f.n≠g.n->∀d,f.i.dst=some d->g.i.dst≠some d)/\its.length=ops.size:=by
 simp only[Rf,aV,eV,cV]at hfq;obtain⟨hlen,hget⟩:=eS hl;have hul:(unF its).length=its.length:=by simp[unF]
 have hsz:its.length=ops.size:=by rw[<-hul,hlen,aS]
 have hun:∀f∈its,(unF its).getD f.n ⟨none,none,.lenC 0⟩=f.i.er:=by intro f hf;have:=hlt f hf;rw[aa];simp only[unF,aR,ch this,bp,aM];exact rq _ hnd hf
 simp only[drawn,aA,decide_eq_true_eq]at hd;obtain⟨⟨hc,ht⟩,hdst⟩:=hd
 have hitem:∀f∈its,∃o,ops[f.n]? =some o/\fW P ops o=some f.i.er/\f.n<ops.size:=by
  intro f hf;have hfl:=hlt f hf;have hj2:f.n<ops.toList.length:=by rw[aS];omega
  refine⟨ops.toList[f.n],by rw[<-cP,ac hj2], ?_,by omega⟩;have h1:=hget f.n hj2 (by omega);rw[h1]
  congr 1
  have h2:=hun f hf;rwa[aa,ac (by omega),aM]at h2
 have hinj:∀f∈its,∀g∈its,f.n=g.n->f=g:=by
  intro f hf g hg e;have:its.Pairwise fun f g=>f.n≠g.n:=by rw[we,gq]at hnd;exact hnd
  rw[nJ]at this;obtain⟨i,hi,rfl⟩:=List.mem_iff_getElem.1 hf;obtain⟨j,hj,rfl⟩:=List.mem_iff_getElem.1 hg;rcases Nat.lt_trichotomy i j with h|h|h
  ·exact absurd e (this i j hi hj h)
  ·subst h;rfl
  ·exact absurd e.symm (this j i hj hi h)
 have hdd:∀f∈its,∀g∈its,f.n≠g.n->∀d,f.i.dst=some d->g.i.dst≠some d:=by
  have main:∀f∈its,∀g∈its,f.n<g.n->∀d,f.i.dst=some d->g.i.dst≠some d:=by
   intro f hf g hg hlt' d h1 h2
   have hpl:(unF its).Pairwise fun u v=>∀d,u.dst=some d->v.dst≠some d:=by rw[we,List.pairwise_filterMap]at hdst;refine hdst.imp ?_;intro u v huv d hu hv;exact huv d hu d hv rfl
   rw[nJ]at hpl;have hf':=hlt f hf;have hg':=hlt g hg
   have g1:(unF its)[f.n]'(by omega)=f.i.er:=by have:=hun f hf;rwa[aa,ac (by omega),aM]at this
   have g2:(unF its)[g.n]'(by omega)=g.i.er:=by have:=hun g hg;rwa[aa,ac (by omega),aM]at this
   exact hpl f.n g.n (by omega) (by omega) hlt' d (by rw[g1];exact h1) (by rw[g2];exact h2)
  intro f hf g hg hne d h1 h2;rcases bO f.n g.n with h|h
  ·exact main f hf g hg h d h1 h2
  ·exact main g hg f hf (by omega) d h2 h1
 have hclosed:∀(i:Nat)(o:Oper),ops[i]? =some o->(∀e∈o.after,Region.binds .any e=true->e.on<i)/\
  ∀k,k<ops.size->((Region.before ops).toList.getD i 0).testBit k=true->∃e∈o.after,Region.binds .any e=true/\(e.on=k\/((Region.before ops).toList.getD e.on 0).testBit k=true):=by
  intro i o ho;unfold pH at hc;rw[aV]at hc;have hi:i<ops.size:=(cW.1 ho).1
  have h1:=hc (o,i) (by rw[List.mem_zipIdx_iff_getElem?];simpa using ho)
  simp only[aA,Array.all_eq_true_iff_forall_mem,aV,eV,cV,decide_eq_true_eq]at h1;refine⟨fun e he hb=>(h1.1 e he).resolve_left (by simp[hb]),fun k hk hb=> ?_⟩;have h2:=(h1.2 k (dJ.2 hk)).resolve_left (by simp only[hb];simp);obtain⟨_,h3⟩:=h2;rw[<-Array.any_toList,List.any_eq_true]at h3;obtain⟨e,he,h4⟩:=h3;rw[Array.mem_toList_iff]at he;simp only[aA,eV,beq_iff_eq]at h4;exact⟨e,he,h4.1,h4.2⟩
 have hq:∀q∈its,q.q=true->∃d,q.i.dst=some d/\∀p∈its,d∈p.i.rds->((Region.before ops).toList.getD p.n 0).testBit q.n=true/\p.n≠q.n:=by
  intro q hq hqq;have h1:=(hfq q hq).resolve_left (by rw[hqq];simp);cases hd:q.i.dst with
  |none=>rw[hd]at h1;cases h1
  |some d=>
   rw[hd]at h1;simp only[aV,eV,cV,aA,decide_eq_true_eq,mP]at h1;refine⟨d,rfl,fun p hp hr=> ?_⟩;rcases h1 p hp with h2|h2
   ·rw[eU]at h2;simp only[decide_eq_false_iff_not]at h2;exact absurd hr h2
   ·exact h2
 have hself:∀f∈its,xR f:=by intro f hf hfq;obtain⟨d,hd,h1⟩:=hq f hf hfq;exact⟨d,hd,fun h=>(h1 f hf h).2 rfl⟩
 have hrd:∀q∈its,q.q=true->∀p∈its,∀d,q.i.dst=some d->d∈p.i.rds->((Region.before ops).toList.getD p.n 0).testBit q.n=true:=by intro q hq' hqq p hp d hd hr;obtain⟨d',hd',h1⟩:=hq q hq' hqq;rw[hd']at hd;cases hd;exact(h1 p hp hr).1
 refine⟨⟨hitem,fun j hj=> ?_,hinj,fun i o ho=>(hclosed i o ho).1,fun i o k ho hk hb=>(hclosed i o ho).2 k hk hb,hok,hself,hrd⟩,hdd,hsz⟩;have:=hcov j (dJ.2 (by omega));rw[eU]at this;simp only[decide_eq_true_eq]at this;obtain⟨f,hf,e⟩:=aT.1 this;exact⟨f,hf,e⟩
theorem mj{l:List FI}(h:(l.map FI.n).Nodup){f:FI}(hf:f∈l):tX l f.n=f:=by
 induction l with
 |nil=>cases hf
 |cons g r ih=>
  simp only[aF,dN]at h;simp only[tX];rcases aw.1 hf with rfl|hf
  ·rw[if_pos rfl]
  ·rw[if_neg,ih h.2 hf]
   intro e;apply h.1;rw[e];exact ik hf
theorem vu{l:List FI}{f:FI}:∀{p:List Nat},f∈iC l p↔∃k∈p,tX l k=f
 |[]=>by simp[iC]
 |k::r=>by
  simp only[iC,aw,vu (p:=r)];constructor
  ·rintro(h|⟨j,hj,h⟩)
   ·exact⟨k,.inl rfl,h.symm⟩
   ·exact⟨j,.inr hj,h⟩
  ·rintro⟨j,rfl|hj,h⟩
   ·exact .inl h.symm
   ·exact .inr ⟨j,hj,h⟩
theorem vx{l:List FI}(h:(l.map FI.n).Nodup):∀{p:List Nat},(∀k∈p,k∈l.map FI.n)->(iC l p).map FI.n=p
 |[],_=>rfl
 |k::r,hp=>by simp only[iC,aF];rw[vx h (p:=r) fun j hj=>hp j (av _ hj)];obtain⟨f,hf,e⟩:=aT.1 (hp k (aE ..));rw[<-e,mj h hf]
theorem CM{s:Nat}(l:List FI):wU b (some s) l=true->∀g∈l,g.q=true->(b.getD g.n 0).testBit s=true\/∃h∈l,(b.getD g.n 0).testBit h.n=true:=by
 induction l generalizing s with
 |nil=>intro _ g hg;cases hg
 |cons f r ih=>
  intro h g hg hq;simp only[wU]at h;split at h
  ·simp only[aA,mP]at h
   rcases aw.1 hg with rfl|hg
   ·exact .inl h.1
   ·rcases ih h.2 g hg hq with h1|⟨k,hk,h1⟩
    ·exact .inl h1
    ·exact .inr ⟨k,av _ hk,h1⟩
  ·rename_i hf
   rcases aw.1 hg with rfl|hg
   ·exact absurd hq hf
   ·rcases ih h g hg hq with h1|⟨k,hk,h1⟩
    ·exact .inr ⟨f,aE ..,h1⟩
    ·exact .inr ⟨k,av _ hk,h1⟩
theorem rU:∀{pre:List FI}{s:Option Nat}{f:FI}{r:List FI},wU b s (pre++f::r)=true->f.q=false->wU b (some f.n) r=true
 |[],s,f,r,h,hf=>by simp only[aI,wU,hf,aO,if_false]at h;exact h
 |g::pre,s,f,r,h,hf=>by
  simp only[bg,wU]at h;split at h
  ·rw[aA]at h;exact rU h.2 hf
  ·exact rU h hf
theorem mM:∀{l:List FI},tY b l=true->l.Pairwise fun p q=>(b.getD p.n 0).testBit q.n=false
 |[],_=>qH.nil
 |p::r,h=>by simp only[tY,aA,aV]at h;refine cK.2 ⟨fun q hq=> ?_,mM h.2⟩;have:=h.1 q hq;simpa only[cV,mP]using this
theorem wb{l:List FI}:∀{ps:List (List Nat)},iV call sg b l ps c=some cF->∀p∈ps,fc call sg b (iC l p) [] c=some cF
 |[],h,p,hp=>by cases hp
 |[q],h,p,hp=>by rw[bw.1 hp];exact h
 |q::q'::r,h,p,hp=>by
  simp only[iV]at h;cases h1:fc call sg b (iC l q) [] c with
  |none=>rw[h1]at h;simp[nq]at h
  |some y=>
   cases h2:iV call sg b l (q'::r) c with
   |none=>rw[h1,h2]at h;simp[nq]at h
   |some z=>
    rw[h1,h2]at h;obtain⟨e1,e2⟩:=pu h;rcases aw.1 hp with rfl|hp
    ·rw[h1,e2]
    ·exact wb (h2.trans (by rw[<-e1,e2])) p hp
theorem Di(hcal:gb P call){id:Nat}(hl:jm (fW P ops) ops.toList=some (unF its))(hd:drawn ops (unF its)=true)(hm:P.follows .mixedOrders=true)
 (hok:its.all (fun f=>f.i.ok N)=true) {ps:List (List Nat)} (halt:OF (Region.before ops).toList its ps=true) {Q:Exit->Act->World->Prop} (hQ:∀a w,M C N cF a w->Q .normal a w) (hM:M C N c a w)
 (h:iV call sg (Region.before ops).toList its ps c=some cF):(Code.region id ops true).wp P Q a w:=by
 simp only[OF,aA,decide_eq_true_eq]at halt;obtain⟨⟨⟨⟨⟨hfq,hnd⟩,hlt⟩,hcov⟩,hps⟩,hc⟩:=halt;rw[aV]at hok hlt hcov hps;obtain⟨I,hdd,hsz⟩:=QO hl hd hok hfq hnd (fun f hf=>of_decide_eq_true (hlt f hf)) hcov
 have hO:∀σ∈ps.map (iC its),Sd its (Region.before ops).toList σ:=by
  intro σ hσ;obtain⟨p,hp,rfl⟩:=aT.1 hσ;have h1:=hps p hp;simp only[aA,decide_eq_true_eq,aV,eU]at h1;obtain⟨⟨⟨⟨hpn,hpi⟩,hip⟩,hseg⟩,hpairs⟩:=h1;have hmap:=vx hnd hpi
  have hmem:∀f,f∈iC its p↔f∈its:=by
   intro f;rw[vu];constructor
   ·rintro⟨k,hk,rfl⟩
    obtain⟨g,hg,rfl⟩:=aT.1 (hpi k hk);rw[mj hnd hg];exact hg
   ·intro hf
    exact⟨f.n,hip f.n (ik hf),mj hnd hf⟩
  have hnd':((iC its p).map FI.n).Nodup:=by rw[hmap];exact hpn
  refine⟨hmem,hnd', ?_,fun pre f r e hf g hg hq=> ?_⟩
  ·have h1:(iC its p).Pairwise fun f g=>f.n≠g.n:=by rw[we,gq]at hnd';exact hnd'
   refine((mM hpairs).and h1).imp_of_mem ?_;rintro u v hu hv ⟨h2,h3⟩ hqq d hd';have hu':=(hmem u).1 hu;have hv':=(hmem v).1 hv;refine⟨fun hr=> ?_,fun e=>hdd u hu' v hv' h3 d e hd'⟩;rw[I.rd v hv' hqq u hu' d hd' hr]at h2;cases h2
  ·rw[e]at hseg
   rcases CM _ (rU hseg hf) g hg hq with h1|⟨k,hk,h1⟩
   ·exact⟨f,aE ..,h1⟩
   ·exact⟨k,av _ hk,h1⟩
 have hfalse:∀f∈its,(ei ops.size false).getD f.n true=false:=by intro f hf;obtain⟨_,_,_,this⟩:=I.item f hf;simp[jK,this]
 refine wp_region_any hm ?_;refine GF (its:=its) (b:=(Region.before ops).toList) (cF:=cF) (sg:=sg) (ords:=ps.map (iC its)) hcal I hO hQ ops.size _ c a _ (ps.map (iC its)) its.length ?_ (by simp) ?_ (fun σ hσ=>⟨hσ, ?_⟩) ?_ ?_
 ·have:(un its (ei ops.size false)).length<=its.length:=List.length_filter_le _ _
  omega
 ·intro i o k ho hl _ _
  have hi:i<ops.size:=(cW.1 ho).1;simp[jK,hi]at hl
 ·have O:=hO σ hσ
  obtain⟨p,hp,rfl⟩:=aT.1 hσ;have hrun:=wb h p hp;obtain⟨seg,post,p2,ps2,k1,k2,k3,k4,k5,k6,k7⟩:=mg (N:=N) (D:=[]) (V:=[]) hrun ⟨fun _ _=>rfl,rfl,rfl,by obtain⟨x,s,_,hS⟩:=hM;exact hS.inv.dom⟩ (fun f hf=>I.ok f ((O.mem f).1 hf)) (fun f hf=>I.self f ((O.mem f).1 hf)) O.nx (by simp) (by simp) (by simp)
  have hunf:un seg (ei ops.size false)=seg:=by apply il.2;intro f hf;rw[hfalse f ((O.mem f).1 (by rw[k1];exact al.2 (.inl hf)))];rfl
  refine⟨seg,post,p2,ps2,k1,k3,k4,fun f hf _=>k5 f (.inr hf),(fun f hf hq=>by rw[k2 f hf]at hq;cases hq),fun f hf=>hfalse f ((O.mem f).1 (by rw[k1];exact al.2 (.inr hf))), ?_, ?_⟩
  ·rw[hunf];simpa using k6
  ·rw[hunf];intro f hf;exact k7 f (.inr hf)
 ·rw[List.map_map]
  have:(ps.map ((fun σ=>fu (un σ (ei ops.size false)))∘iC its))=ps.map fun p=>fu (iC its p):=by
   apply List.map_congr_left;intro p hp;show fu (un (iC its p) _)=_
   congr 1
   apply il.2;intro f hf;rw[hfalse f (((hO _ (ik hp)).mem f).1 hf)];rfl
  rw[this];exact hc
 ·obtain⟨x,s,hMo,hS⟩:=hM
  exact⟨x,s,⟨hMo.tm,hMo.defers,hMo.heap.drawn _⟩,hS⟩
end Go.Sy
namespace Go.Sy
variable [bf]
variable {P : Program} {C : Ctx} {x : Sit} {a : Act} {w : World} {N : Nat} {c c' : CSt} {s : St} {T : fP}
def Ex.out:Ex->Exit
 | .n=> .normal
 | .x id=> .exit id
 | .r=> .ret
def EQ(C:Ctx)(N:Nat)(e:Ex)(c':CSt):Exit->Act->World->Prop:=fun e' a w=>e'=e.out/\M C N c' a w
def um(P:Program)(T:fP)(n:Nat):Prop:=
 (∀(r:RC)(c:CSt)(e:Ex)(c':CSt),fI T n r c=some (e,c')->∀(code:Code)(C:Ctx)(N:Nat)(a:Act)(w:World),cC P code=r.er->r.ok N=true->M C N c a w->code.wp P (EQ C N e c') a w)/\
 (∀(b:RC)(c:CSt)(e:Ex)(c':CSt),fI T n (.loop b) c=some (e,c')->∀(code:Code)(C:Ctx)(N:Nat)(a:Act)(w:World),cC P code=b.er->b.ok N=true->M C N c a w->Code.rounds P code (EQ C N e c') n a w)
theorem Rq{code:Code}{b:fQ}(h:aZ P code=some (.loop b)):∃b',code= .loop b'/\aZ P b'=some b:=by
 cases code with
 |loop b'=>simp only[aZ]at h;obtain⟨sb,hb,he⟩:=ae.1 h;cases he;exact⟨b',rfl,hb⟩
 |region id ops draw=>
  simp only[aZ]at h;split at h<;>try (cases h;done)
  split at h
  ·rw[aG]at h;cases h.2
  ·cases h
 |seq y z=>simp only[aZ]at h;split at h<;>cases h
 |cond c y z=>simp only[aZ]at h;split at h<;>cases h
 |block id b=>simp only[aZ]at h;obtain⟨_,_,h⟩:=ae.1 h;cases h
 |_=>simp[aZ]at h
theorem Gh{code:Code}{id:Nat}{b:fQ}(h:aZ P code=some (.block id b)):∃b',code= .block id b'/\aZ P b'=some b:=by
 cases code with
 |block id b'=>simp only[aZ]at h;obtain⟨sb,hb,he⟩:=ae.1 h;cases he;exact⟨b',rfl,hb⟩
 |region id ops draw=>
  simp only[aZ]at h;split at h<;>try (cases h;done)
  split at h
  ·rw[aG]at h;cases h.2
  ·cases h
 |seq y z=>simp only[aZ]at h;split at h<;>cases h
 |cond c y z=>simp only[aZ]at h;split at h<;>cases h
 |loop b=>simp only[aZ]at h;obtain⟨_,_,h⟩:=ae.1 h;cases h
 |_=>simp[aZ]at h
theorem xda{code:Code}{y z:fQ}(h:aZ P code=some (.seq y z)):∃y' z',code= .seq y' z'/\aZ P y'=some y/\aZ P z'=some z:=by
 cases code with
 |seq y' z'=>
  simp only[aZ]at h;split at h<;>try (cases h;done)
  rename_i sy sz hy hz;cases h;exact⟨y',z',rfl,hy,hz⟩
 |region id ops draw=>
  simp only[aZ]at h;split at h<;>try (cases h;done)
  split at h
  ·rw[aG]at h;cases h.2
  ·cases h
 |cond c y z=>simp only[aZ]at h;split at h<;>cases h
 |block id b=>simp only[aZ]at h;obtain⟨_,_,h⟩:=ae.1 h;cases h
 |loop b=>simp only[aZ]at h;obtain⟨_,_,h⟩:=ae.1 h;cases h
 |_=>simp[aZ]at h
theorem Rt{code:Code}{k:Arg}{y z:fQ}(h:aZ P code=some (.cond k y z)):∃k' y' z',code= .cond k' y' z'/\bx P 0 k'=some k/\aZ P y'=some y/\aZ P z'=some z:=by
 cases code with
 |cond k' y' z'=>
  simp only[aZ]at h;split at h<;>try (cases h;done)
  rename_i sc sy sz hcc hy hz;cases h;exact⟨k',y',z',rfl,hcc,hy,hz⟩
 |region id ops draw=>
  simp only[aZ]at h;split at h<;>try (cases h;done)
  split at h
  ·rw[aG]at h;cases h.2
  ·cases h
 |seq y z=>simp only[aZ]at h;split at h<;>cases h
 |block id b=>simp only[aZ]at h;obtain⟨_,_,h⟩:=ae.1 h;cases h
 |loop b=>simp only[aZ]at h;obtain⟨_,_,h⟩:=ae.1 h;cases h
 |_=>simp[aZ]at h
theorem xdc{code:Code}{l:List SI}(h:aZ P code=some (.ops l)):∃id ops,code= .region id ops false/\jm (fW P ops) ops.toList=some l:=by
 cases code with
 |region id ops draw=>
  simp only[aZ]at h;split at h<;>try (cases h;done)
  rename_i l' hl;cases draw with
  |false=>simp only[aO,if_false,aq.injEq,fQ.ops.injEq]at h;subst h;exact⟨id,ops,rfl,hl⟩
  |true=>simp only[if_true]at h;rw[aG]at h;cases h.2
 |seq y z=>simp only[aZ]at h;split at h<;>cases h
 |cond c y z=>simp only[aZ]at h;split at h<;>cases h
 |block id b=>simp only[aZ]at h;obtain⟨_,_,h⟩:=ae.1 h;cases h
 |loop b=>simp only[aZ]at h;obtain⟨_,_,h⟩:=ae.1 h;cases h
 |_=>simp[aZ]at h
theorem Nn{code:Code}{b ds:List Nat}{l:List SI}(h:aZ P code=some (.drw b ds l)):∃id ops,code= .region id ops true/\jm (fW P ops) ops.toList=some l/\drawn ops l=true/\P.follows .mixedOrders=true/\b=(Region.before ops).toList/\ds=xjL l:=by
 cases code with
 |region id ops draw=>
  simp only[aZ]at h;split at h<;>try (cases h;done)
  rename_i l' hl;cases draw with
  |false=>simp only[aO,if_false,aq.injEq,reduceCtorEq]at h
  |true=>simp only[if_true]at h;rw[aG]at h;obtain⟨hc,h⟩:=h;simp only[aq.injEq,fQ.drw.injEq]at h;obtain⟨rfl,rfl,rfl⟩:=h;rw[aA]at hc;exact⟨id,ops,rfl,hl,hc.1,hc.2,rfl,rfl⟩
 |seq y z=>simp only[aZ]at h;split at h<;>cases h
 |cond c y z=>simp only[aZ]at h;split at h<;>cases h
 |block id b=>simp only[aZ]at h;obtain⟨_,_,h⟩:=ae.1 h;cases h
 |loop b=>simp only[aZ]at h;obtain⟨_,_,h⟩:=ae.1 h;cases h
 |_=>simp[aZ]at h
theorem Rp{code:Code}(h:aZ P code=some .skip):code= .skip:=by
 cases code with
 |skip=>rfl
 |region id ops draw=>
  simp only[aZ]at h;split at h<;>try (cases h;done)
  split at h
  ·rw[aG]at h;cases h.2
  ·cases h
 |seq y z=>simp only[aZ]at h;split at h<;>cases h
 |cond c y z=>simp only[aZ]at h;split at h<;>cases h
 |block id b=>simp only[aZ]at h;obtain⟨_,_,h⟩:=ae.1 h;cases h
 |loop b=>simp only[aZ]at h;obtain⟨_,_,h⟩:=ae.1 h;cases h
 |_=>simp[aZ]at h
theorem xdb{code:Code}(h:aZ P code=some .ret):code= .ret:=by
 cases code with
 |ret=>rfl
 |region id ops draw=>
  simp only[aZ]at h;split at h<;>try (cases h;done)
  split at h
  ·rw[aG]at h;cases h.2
  ·cases h
 |seq y z=>simp only[aZ]at h;split at h<;>cases h
 |cond c y z=>simp only[aZ]at h;split at h<;>cases h
 |block id b=>simp only[aZ]at h;obtain⟨_,_,h⟩:=ae.1 h;cases h
 |loop b=>simp only[aZ]at h;obtain⟨_,_,h⟩:=ae.1 h;cases h
 |_=>simp[aZ]at h
theorem Rr{code:Code}{id:Nat}(h:aZ P code=some (.exit id)):code= .exit id:=by
 cases code with
 |exit id'=>simp only[aZ,aq.injEq,fQ.exit.injEq]at h;rw[h]
 |region id ops draw=>
  simp only[aZ]at h;split at h<;>try (cases h;done)
  split at h
  ·rw[aG]at h;cases h.2
  ·cases h
 |seq y z=>simp only[aZ]at h;split at h<;>cases h
 |cond c y z=>simp only[aZ]at h;split at h<;>cases h
 |block id b=>simp only[aZ]at h;obtain⟨_,_,h⟩:=ae.1 h;cases h
 |loop b=>simp only[aZ]at h;obtain⟨_,_,h⟩:=ae.1 h;cases h
 |_=>simp[aZ]at h
theorem eZ{id:Nat}{ops:Array Oper}{draw:Bool}{s:fQ}(h:cC P (.region id ops draw)=s)(hs:s≠ .bad):aZ P (.region id ops draw)=some s:=by
 rw[cC]at h;split at h
 ·rename_i s' h';rw[<-h];exact h'
 ·exact absurd h.symm hs
theorem hJ{k:Operand}{y z:Code}{s:fQ}(h:cC P (.cond k y z)=s)(hs:s≠ .bad):∃a,bx P 0 k=some a/\s= .cond a (cC P y) (cC P z):=by
 rw[cC]at h;split at h
 ·rename_i a ha;exact⟨a,ha,h.symm⟩
 ·exact absurd h.symm hs
theorem RD{code:Code}{b:fQ}(h:cC P code= .loop b):∃b',code= .loop b'/\cC P b'=b:=by
 cases code with
 |loop b'=>rw[cC]at h;cases h;exact⟨b',rfl,rfl⟩
 |region id ops draw=>have h1:=eZ h (by simp);have h2:=Rq h1;simp at h2
 |seq y z=>rw[cC]at h;cases h
 |cond k y z=>obtain⟨a,_,h2⟩:=hJ h (by simp);cases h2
 |block id b=>rw[cC]at h;cases h
 |skip=>rw[cC]at h;cases h
 |exit id=>rw[cC]at h;cases h
 |ret=>rw[cC]at h;cases h
 |_=>simp[cC]at h
theorem Gl{code:Code}{id:Nat}{b:fQ}(h:cC P code= .block id b):∃b',code= .block id b'/\cC P b'=b:=by
 cases code with
 |block id b'=>rw[cC]at h;cases h;exact⟨b',rfl,rfl⟩
 |region id ops draw=>have h1:=eZ h (by simp);have h2:=Gh h1;simp at h2
 |seq y z=>rw[cC]at h;cases h
 |cond k y z=>obtain⟨a,_,h2⟩:=hJ h (by simp);cases h2
 |loop b=>rw[cC]at h;cases h
 |skip=>rw[cC]at h;cases h
 |exit id=>rw[cC]at h;cases h
 |ret=>rw[cC]at h;cases h
 |_=>simp[cC]at h
theorem xdd{code:Code}{y z:fQ}(h:cC P code= .seq y z):∃y' z',code= .seq y' z'/\cC P y'=y/\cC P z'=z:=by
 cases code with
 |seq y' z'=>rw[cC]at h;cases h;exact⟨y',z',rfl,rfl,rfl⟩
 |region id ops draw=>have h1:=eZ h (by simp);have h2:=xda h1;simp at h2
 |cond k y z=>obtain⟨a,_,h2⟩:=hJ h (by simp);cases h2
 |block id b=>rw[cC]at h;cases h
 |loop b=>rw[cC]at h;cases h
 |skip=>rw[cC]at h;cases h
 |exit id=>rw[cC]at h;cases h
 |ret=>rw[cC]at h;cases h
 |_=>simp[cC]at h
theorem xdg{code:Code}{k:Arg}{y z:fQ}(h:cC P code= .cond k y z):∃k' y' z',code= .cond k' y' z'/\bx P 0 k'=some k/\cC P y'=y/\cC P z'=z:=by
 cases code with
 |cond k' y' z'=>obtain⟨a,h1,h2⟩:=hJ h (by simp);cases h2;exact⟨k',y',z',rfl,h1,rfl,rfl⟩
 |region id ops draw=>have h1:=eZ h (by simp);have h2:=Rt h1;simp at h2
 |seq y z=>rw[cC]at h;cases h
 |block id b=>rw[cC]at h;cases h
 |loop b=>rw[cC]at h;cases h
 |skip=>rw[cC]at h;cases h
 |exit id=>rw[cC]at h;cases h
 |ret=>rw[cC]at h;cases h
 |_=>simp[cC]at h
theorem RB{code:Code}(h:cC P code= .skip):code= .skip:=by
 cases code with
 |skip=>rfl
 |region id ops draw=>have h1:=eZ h (by simp);have h2:=Rp h1;simp at h2
 |seq y z=>rw[cC]at h;cases h
 |cond k y z=>obtain⟨a,_,h2⟩:=hJ h (by simp);cases h2
 |block id b=>rw[cC]at h;cases h
 |loop b=>rw[cC]at h;cases h
 |exit id=>rw[cC]at h;cases h
 |ret=>rw[cC]at h;cases h
 |_=>simp[cC]at h
theorem xde{code:Code}(h:cC P code= .ret):code= .ret:=by
 cases code with
 |ret=>rfl
 |region id ops draw=>have h1:=eZ h (by simp);have h2:=xdb h1;simp at h2
 |seq y z=>rw[cC]at h;cases h
 |cond k y z=>obtain⟨a,_,h2⟩:=hJ h (by simp);cases h2
 |block id b=>rw[cC]at h;cases h
 |loop b=>rw[cC]at h;cases h
 |skip=>rw[cC]at h;cases h
 |exit id=>rw[cC]at h;cases h
 |_=>simp[cC]at h
theorem RE{code:Code}{id:Nat}(h:cC P code= .exit id):code= .exit id:=by
 cases code with
 |exit id'=>rw[cC]at h;cases h;rfl
 |region id ops draw=>have h1:=eZ h (by simp);have h2:=Rr h1;simp at h2
 |seq y z=>rw[cC]at h;cases h
 |cond k y z=>obtain⟨a,_,h2⟩:=hJ h (by simp);cases h2
 |block id b=>rw[cC]at h;cases h
 |loop b=>rw[cC]at h;cases h
 |skip=>rw[cC]at h;cases h
 |ret=>rw[cC]at h;cases h
 |_=>simp[cC]at h
theorem xdf{code:Code}{l:List SI}(h:cC P code= .ops l):aZ P code=some (.ops l):=by
 cases code with
 |region id ops draw=>exact eZ h (by simp)
 |seq y z=>rw[cC]at h;cases h
 |cond k y z=>obtain⟨a,_,h2⟩:=hJ h (by simp);cases h2
 |block id b=>rw[cC]at h;cases h
 |loop b=>rw[cC]at h;cases h
 |skip=>rw[cC]at h;cases h
 |exit id=>rw[cC]at h;cases h
 |ret=>rw[cC]at h;cases h
 |_=>simp[cC]at h
theorem No{code:Code}{b ds:List Nat}{l:List SI}(h:cC P code= .drw b ds l):aZ P code=some (.drw b ds l):=by
 cases code with
 |region id ops draw=>exact eZ h (by simp)
 |seq y z=>rw[cC]at h;cases h
 |cond k y z=>obtain⟨a,_,h2⟩:=hJ h (by simp);cases h2
 |block id b=>rw[cC]at h;cases h
 |loop b=>rw[cC]at h;cases h
 |skip=>rw[cC]at h;cases h
 |exit id=>rw[cC]at h;cases h
 |ret=>rw[cC]at h;cases h
 |_=>simp[cC]at h
theorem uw{n:Nat}(hR:um P T n)(hcal:gb P (eN T n)){r:RC}{c:CSt}{e:Ex}{c':CSt}(h:dP (fI T n) (eN T n) T.sg r c=some (e,c'))(hl:∀b,r≠ .loop b){code:Code}{C:Ctx}{N:Nat}{a:Act}{w:World}
 (hr:cC P code=r.er) (hok:r.ok N=true) (hM:M C N c a w):code.wp P (EQ C N e c') a w:=by
 cases r with
 |skip=>
  cases h;have:=RB (by simpa[RC.er]using hr);subst this;exact wp_skip ⟨rfl,hM⟩
 |ret=>
  cases h;have:=xde (by simpa[RC.er]using hr);subst this;exact wp_ret ⟨rfl,hM⟩
 |exit id=>
  cases h;have:=RE (by simpa[RC.er]using hr);subst this;exact wp_exit ⟨rfl,hM⟩
 |ops l=>
  obtain⟨id,ops,rfl,hl'⟩:=xdc (xdf (by simpa[RC.er]using hr));simp only[dP]at h;cases hs:fJ (eN T n) T.sg l c with
  |none=>rw[hs]at h;cases h
  |some c1=>rw[hs]at h;simp only[nrm,pn,aq.injEq,bt.injEq]at h;obtain⟨rfl,rfl⟩:=h;refine wp_region ?_;rw[List.range_eq_range'];exact xj hcal hl' l ops.size 0 (by omega) (by simp) hok hM hs fun a w h=>⟨rfl,h⟩
 |flt b ds l dead=>
  obtain⟨id,ops,rfl,hl',hdr,hmo,rfl,rfl⟩:=Nn (No (by simpa[RC.er]using hr));simp only[RC.ok,aA]at hok;simp only[dP]at h;cases hs:fc (eN T n) T.sg (Region.before ops).toList l [] c with
  |none=>rw[hs]at h;cases h
  |some c1=>rw[hs]at h;simp only[nrm,aq.injEq,bt.injEq]at h;obtain⟨rfl,rfl⟩:=h;exact Dh hcal hl' hdr hmo hok.1 hok.2 (fun a w h=>⟨rfl,M.kill h dead⟩) hM hs
 |fla b ds l ps dead=>
  obtain⟨id,ops,rfl,hl',hdr,hmo,rfl,rfl⟩:=Nn (No (by simpa[RC.er]using hr));simp only[RC.ok,aA]at hok;simp only[dP]at h;cases hs:iV (eN T n) T.sg (Region.before ops).toList l ps c with
  |none=>rw[hs]at h;cases h
  |some c1=>rw[hs]at h;simp only[nrm,aq.injEq,bt.injEq]at h;obtain⟨rfl,rfl⟩:=h;exact Di hcal hl' hdr hmo hok.1 hok.2 (fun a w h=>⟨rfl,M.kill h dead⟩) hM hs
 |seq y z=>
  obtain⟨y',z',rfl,hy,hz⟩:=xdd (by simpa[RC.er]using hr);simp only[RC.ok,aA]at hok;simp only[dP]at h;cases hs:fI T n y c with
  |none=>rw[hs]at h;cases h
  |some p=>
   obtain⟨e1,c1⟩:=p;rw[hs]at h;refine wp_seq (wp_mono (hR.1 _ _ _ _ hs y' C N a w hy hok.1 hM) ?_);rintro e' a' w' ⟨rfl,hM'⟩;cases e1 with
   |n=>exact hR.1 _ _ _ _ h z' C N a' w' hz hok.2 hM'
   |x id=>cases h;exact⟨rfl,hM'⟩
   |r=>cases h;exact⟨rfl,hM'⟩
 |cond k y z=>
  obtain⟨k',y',z',rfl,hk,hy,hz⟩:=xdg (by simpa[RC.er]using hr);simp only[RC.ok,aA]at hok;simp only[dP]at h;unfold cnd at h;split at h<;>try (cases h;done)
  rename_i t ht
  have hv:a.eval k'= .bool t:=by obtain⟨x,s,hMo,hS⟩:=hM;have hrep:=aP hMo hk;rw[hS.ev,ht]at hrep;exact hrep.bool_inv
  refine wp_cond_split hv (fun e=> ?_) (fun e=> ?_)
  ·subst e
   rw[if_pos rfl]at h;exact hR.1 _ _ _ _ h y' C N a w hy hok.1 hM
  ·subst e
   rw[if_neg (by simp)]at h;exact hR.1 _ _ _ _ h z' C N a w hz hok.2 hM
 |block id b=>
  obtain⟨b',rfl,hb⟩:=Gl (by simpa[RC.er]using hr);simp only[dP]at h;cases hs:fI T n b c with
  |none=>rw[hs]at h;cases h
  |some p=>
   obtain⟨e1,c1⟩:=p;rw[hs]at h;refine wp_block (wp_mono (hR.1 _ _ _ _ hs b' C N a w hb hok hM) ?_);rintro e' a' w' ⟨rfl,hM'⟩;cases e1 with
   |n=>cases h;exact⟨rfl,hM'⟩
   |r=>cases h;exact⟨rfl,hM'⟩
   |x id'=>
    simp only[blk]at h;simp only[Ex.out,Exit.inBlock];split at h<;>rename_i hid
    ·cases h;rw[if_pos hid];exact⟨rfl,hM'⟩
    ·cases h;rw[if_neg hid];exact⟨rfl,hM'⟩
 |loop b=>exact absurd rfl (hl b)
 |bad=>cases h
 |pre ds y=>
  simp only[dP]at h;cases hs:ix c ds with
  |none=>rw[hs]at h;cases h
  |some c1=>rw[hs]at h;exact hR.1 _ _ _ _ h code C N a w (by simpa[RC.er]using hr) hok (jP hM hs)
 |post y ds=>
  simp only[dP]at h;cases hs:fI T n y c with
  |none=>rw[hs]at h;cases h
  |some p=>
   obtain⟨e1,c1⟩:=p;rw[hs]at h;refine wp_mono (hR.1 _ _ _ _ hs code C N a w (by simpa[RC.er]using hr) hok hM) ?_;rintro e' a' w' ⟨rfl,hM'⟩;cases e1 with
   |n=>
    simp only[psD]at h;split at h
    ·rename_i c2 h2;cases h;exact⟨rfl,jP hM' h2⟩
    ·cases h
   |x id=>cases h;exact⟨rfl,hM'⟩
   |r=>cases h;exact⟨rfl,hM'⟩
theorem wX:um P T 0:=⟨fun r c e c' h=>by simp[fI]at h,fun b c e c' h=>by simp[fI]at h⟩
theorem wY{n:Nat}(hR:um P T n)(hcal:gb P (eN T n)):um P T (n+1):=by
 have h2:∀(b:RC)(c:CSt)(e:Ex)(c':CSt),fI T (n+1) (.loop b) c=some (e,c')->∀(code:Code)(C:Ctx)(N:Nat)(a:Act)(w:World),cC P code=b.er->b.ok N=true->M C N c a w->Code.rounds P code (EQ C N e c') (n+1) a w:=by
  intro b c e c' h code C N a w hr hok hM;rw[fI]at h;simp only[dP]at h;rw[rounds_succ];cases hs:fI T n b c with
  |none=>rw[hs]at h;cases h
  |some p=>
   obtain⟨e1,c1⟩:=p;rw[hs]at h;refine wp_mono (hR.1 _ _ _ _ hs code C N a w hr hok hM) ?_;rintro e' a' w' ⟨rfl,hM'⟩;cases e1 with
   |n=>exact hR.2 _ _ _ _ h code C N a' w' hr hok hM'
   |x id=>cases h;exact⟨rfl,hM'⟩
   |r=>cases h;exact⟨rfl,hM'⟩
 refine⟨fun r c e c' h code C N a w hr hok hM=> ?_,h2⟩
 by_cases hl:∃b,r= .loop b
 ·obtain⟨b,rfl⟩:=hl
  obtain⟨b',rfl,hb⟩:=RD (by simpa[RC.er]using hr);exact wp_loop_rounds (n+1) (h2 b c e c' h b' C N a w hb hok hM)
 ·rw[fI]at h
  exact uw hR hcal h (fun b e=>hl ⟨b,e⟩) hr hok hM
def xkq(P:Program):ResultVar->RV->Prop
 | .tmp t,.tmp t'=>t=t'
 | .cell t ty,.cell t' n ag=>t=t'/\fd P ty=some n/\qc P ty=some ag
 |_,_=>False
def DJ(P:Program):List ResultVar->List RV->Prop
 |[],[]=>True
 |a::r,b::s=>xkq P a b/\DJ P r s
 |_,_=>False
theorem rW(hS:Sim N c s):∀{rs:List ResultVar}{rv:List RV}{vs:List SV},DJ P rs rv->qU c rv=some vs->∃p,w7 P s rs=some (p,vs)/\p
 |[],[],vs,_,h=>by cases h;exact⟨True,rfl,trivial⟩
 |[],_::_,_,h,_=>h.elim
 |_::_,[],_,h,_=>h.elim
 | .tmp t::r,.tmp t'::q,vs,h,hv=>by obtain⟨h1,h2⟩:=h;have h1:t=t':=h1;subst h1;simp only[qU]at hv;split at hv<;>cases hv;rename_i vs' hv';obtain⟨p,h3,h4⟩:=rW hS h2 hv';exact⟨p,by simp only[w7,h3,hS.get],h4⟩
 | .cell t ty::r,.cell t' n ag::q,vs,h,hv=>by
  obtain⟨⟨rfl,g1,g2⟩,h2⟩:=h;simp only[qU]at hv;split at hv<;>cases hv;rename_i v vs' hl hv';obtain⟨p,h3,h4⟩:=rW hS h2 hv'
  have hl':(if(ag||n==1)=true then lM c n ag (c.get t)else none)=some v:=by
   rw[<-hl]
   congr 1
   simp
  split at hl'
  ·rename_i hc
   obtain⟨p',h5,h6⟩:=vB hS hl';refine⟨p'/\p, ?_,h6,h4⟩;simp only[w7,g1,g2,h3,hS.get];rw[if_pos hc,h5]
  ·cases hl'
 | .tmp _::_,.cell _ _ _::_,_,h,_=>h.1.elim
 | .cell _ _::_,.tmp _::_,_,h,_=>h.1.elim
def M2(us:List Value):Value:=if h:us.toArray.size=1 then us.toArray[0]else .tuple us.toArray
theorem M3{vs:List SV}{us:List Value}(h:cj x vs us):Rep x (jh vs) (M2 us):=by
 have hlen:=h.1;unfold M2
 match vs,us,hlen with
 |[v],[u],_=>simpa[jh]using h.2 0 (by simp)
 |[],[],_=>simp only[jh];exact .tup _ _ h.1 h.2
 |v1::v2::vs,u1::u2::us,_=>simp only[jh];rw[dif_neg (by simp)];exact .tup _ _ h.1 h.2
theorem cX.sel{ob ob2:List (Nat×aC)}{tk tk2:List Nat}(hH:cX C x ob tk w){x2:Sit}(hG:x2.G=x.G)(hob:∀p∈ob2,dM x2 w p.1 p.2/\∃q∈ob,x2.bk p.1=x.bk q.1)(hnd:(ob2.map cH).Nodup)
 (hinj:∀p∈ob2,∀q∈ob2,(x2.bk p.1).1=(x2.bk q.1).1->p.1=q.1) (htk:∀t∈tk2,(x2.τ t).2.1=(x2.τ t).2.2\/∃u∈tk,x2.τ t=x.τ u)
 (htd:∀t∈tk2,∀u∈tk2,t≠u->(x2.τ t).2.1=(x2.τ t).2.2\/(x2.τ u).2.1=(x2.τ u).2.2\/∃t'∈tk,∃u'∈tk,t'≠u'/\x2.τ t=x.τ t'/\x2.τ u=x.τ u') (hpin:∀i,i<100->x2.bk i=x.bk i):cX C x2 ob2 tk2 w:=by
 refine⟨fun b o v hv=>hH.per b o v (by rw[<-hG];exact hv),fun b o v hv=>by rw[hG];exact hH.g0 b o v hv,fun b o v hv=>hH.gm b o v (by rw[<-hG];exact hv),hH.new, ?_,hnd,hinj, ?_, ?_, ?_,hH.os,hH.tape,hH.output,hH.size,hH.ext,
  fun i hi=>(hpin i hi).trans (hH.pin i hi),hH.lay⟩
 ·intro p hp
  obtain⟨h1,q,hq,h2⟩:=hob p hp;obtain⟨_,h3,h4⟩:=hH.obs q hq;exact⟨h1,by rw[h2];exact h3,fun off=>by rw[hG,h2];exact h4 off⟩
 ·intro t ht
  rcases htk t ht with h|⟨u,hu,h⟩
  ·exact .inl h
  ·have:=hH.tks u hu
   unfold gS at this ⊢;rw[h,hG];exact this
 ·intro t ht p hp
  obtain⟨_,q,hq,h2⟩:=hob p hp;rcases htk t ht with h|⟨u,hu,h⟩
  ·exact .inr h
  ·rw[h,h2];exact hH.tko u hu q hq
 ·intro t ht u hu htu
  rcases htd t ht u hu htu with h|h|⟨t',ht',u',hu',hne,h1,h2⟩
  ·exact .inr (.inl h)
  ·exact .inr (.inr h)
  ·rw[h1,h2];exact hH.tkd t' ht' u' hu' hne
theorem eY{p:Nat×aC}:∀{l:List aC}{k:Nat},p∈fT k l↔∃i,i<l.length/\p.1=k+i/\p.2=l.getD i (.rc [])
 |[],k=>by simp[fT]
 |o::r,k=>by
  simp only[fT,aw,eY];constructor
  ·rintro(rfl|⟨i,h1,h2,h3⟩)
   ·exact⟨0,by simp,rfl,rfl⟩
   ·exact⟨i+1,by simpa using h1,by omega,by simpa using h3⟩
  ·rintro⟨i,h1,h2,h3⟩
   cases i with
   |zero=>left;exact Prod.ext (by simpa using h2) (by simpa using h3)
   |succ i=>exact .inr ⟨i,by simpa using h1,by omega,by simpa using h3⟩
theorem iu:∀(l:List aC)(k:Nat),((fT k l).map cH).Nodup
 |[],_=>by simp[fT]
 |o::r,k=>by simp only[fT,aF,dN];refine⟨fun h=> ?_,iu r (k+1)⟩;obtain⟨p,hp,e⟩:=aT.1 h;obtain⟨i,_,h2,_⟩:=eY.1 hp;omega
theorem Co(n i:Nat)(h:i<n):(jU n).getD i 0=i:=by
 have hl:∀n,(jU n).length=n:=by
  intro n;induction n with
  |zero=>rfl
  |succ n ih=>simp[jU,ih]
 induction n with
 |zero=>omega
 |succ n ih=>
  simp only[jU,aa,List.getElem?_append,hl]
  by_cases hi:i<n
  ·rw[if_pos hi,<-aa,ih hi]
  ·rw[if_neg hi];have:i-n=0:=by omega
   rw[this];simp;omega
theorem Dj{keep raw:List Nat}{k:Nat}{vs:List SV}{us:List Value}{q:dv}(hM:aN C x s a w)(hS:Sim N c s)(hk:k<=40)(hv:cj x vs us)(h:Rj keep k (eP c vs (iQ raw 0 vs))=some q):
 ∃x',Rep x' q.r (M2 us)/\cX C x' q.os q.tk w/\(∀p∈q.os,p.2.wf=true)/\∀i,i<100->x'.bk i=C.β0 i:=by
 obtain⟨x1,s1,hM1,hS1,hv1⟩:=jb (l:=iQ raw 0 vs) hM hS hv;generalize eP c vs (iQ raw 0 vs)=z at h hS1 hv1;obtain⟨c1,vs1⟩:=z;simp only at hS1 hv1;simp only[Rj]at h;have hE:=hS1.exact hM1;cases hb:(decide (k=0)&&(SV.idsL vs1).isEmpty&&keep.isEmpty)with
 |true=>rw[hb]at h;simp only[Nl,aq.injEq]at h;subst h;refine⟨x1, ?_,hE.heap.only (by simp) (by simp) (by simp),by simp,fun i hi=>hE.heap.pin i hi⟩;refine M3 ?_;rw[j8];refine⟨by simpa using hv1.1,fun i hi=> ?_⟩;rw[aW _ (by rfl)];exact(hv1.2 i (by simpa using hi)).bare rfl rfl
 |false=>
  rw[hb]at h;simp only[Nl]at h;generalize hz:jI c1.tk keep 60 0 vs1=z at h;obtain⟨vs2,mt1⟩:=z;simp only[Yd]at h;generalize dR c1 60 [] (jU k++SV.idsL vs2)=m at h;cases ho:gu c1 m with
  |none=>rw[ho]at h;cases h
  |some os0=>
   rw[ho]at h;simp only[Yc]at h;generalize hz2:ek c1.tk (60+mt1.length) os0=z2 at h;obtain⟨os,mt2⟩:=z2;simp only[Yb]at h;cases hb2:(nQ (SV.idsL vs2++fG os) m&&dB m&&dB (cy (mt1++mt2))&&decide (m.take k=jU k)&&(m.drop k).all fun o=>decide (k<=o))with
   |false=>rw[hb2]at h;cases h
   |true=>
    rw[hb2]at h;simp only[Ya,aq.injEq]at h;subst h;simp only[aA,decide_eq_true_eq,aV]at hb2;obtain⟨⟨⟨⟨hsub,hmn⟩,htn⟩,htake⟩,hdrop⟩:=hb2;obtain⟨hol,hog⟩:=pm ho;have hsubm:=uH hsub;have hmnd:=ji hmn;have htnd:=ji htn
    have hul:∀n,(jU n).length=n:=by
     intro n;induction n with
     |zero=>rfl
     |succ n ih=>simp[jU,ih]
    have hkm:k<=m.length:=by have:=congrArg List.length htake;rw[ax,hul]at this;omega
    have hfirst:∀i,i<k->m.getD i 0=i:=by
     intro i hi;have h1:(m.take k).getD i 0=m.getD i 0:=by simp only[aa,bC,if_pos hi]
     rw[<-h1,htake,Co k i hi]
    have hrest:∀i,k<=i->i<m.length->k<=m.getD i 0:=by
     intro i h1 h2;refine hdrop _ ?_
     have:m.getD i 0=(m.drop k).getD (i-k) 0:=by simp only[aa,bi];congr 2;omega
     rw[this];exact fO (by rw[aL];omega)
    let τ2:Nat->Nat×Nat×Nat:=fun t=>if 60<=t/\t<60+(mt1++mt2).length then NI x1 ((mt1++mt2).getD (t-60) none)else(0,0,0)
    let x2:Sit:=⟨x1.G,x1.bk,τ2⟩
    let x3:Sit:=⟨x1.G,fun i=>if i<100 then x1.bk i else x1.bk (m.getD (i-100) 0),τ2⟩
    have hτ:∀y:Sit,y.τ=τ2->nE x1 y 60 (mt1++mt2):=by
     intro y hy j hj;rw[hy];show(if _ then _ else _)=_;rw[if_pos ⟨by omega,by omega⟩]
     congr 2;omega
    have hmem:∀i,i<m.length->(m.getD i 0,os0.getD i (.rc []))∈c1.ob:=fun i hi=>i7 (hog i hi)
    have hβ:∀o∈m,x3.bk (gM k m o)=x1.bk o:=by
     intro o ho;unfold gM;split
     ·rename_i hlt
      show(if _ then _ else _)=_;rw[if_pos (by omega)]
     ·show(if _ then _ else _)=_
      rw[if_neg (by omega)];have e:100+gB m o-100=gB m o:=by omega
      rw[e,(l6 ho).2]
    have hT2:=hτ x2 rfl
    have ha2:cj x2 vs2 us:=by have:=lz (x:=x1) (x1:=x2) rfl rfl (tk:=c1.tk) (own:=keep) (j:=60) (i:=0) hv1 (by rw[hz];exact hT2.left);rwa[hz]at this
    have hrr:Rep x3 ((jh vs2).ren (gM k m) id) (M2 us):=by
     refine Rep.renF (x:=x2) (x2:=x3) (fun _ _ _ h=>h) (M3 ha2) (fun j hj=>hβ j (hsubm j (al.2 (.inl ?_)))) (fun t _=>rfl)
     have key:∀l:List SV,∀j∈(jh l).ids,j∈SV.idsL l:=by
      intro l j hj
      match l with
      |[]=>exact hj
      |[v]=>simpa[jh,SV.idsL]using hj
      |v::u::r=>exact hj
     exact key vs2 j hj
    obtain⟨hosl,hosr⟩:=kM (x:=x1) (x1:=x2) (w:=w) rfl rfl (tk:=c1.tk) (obs:=os0) (j:=60+mt1.length) (f:=fun i=>m.getD i 0)
     (fun i hi=>(hE.heap.obs _ (hmem i (by omega))).1) (by rw[hz2];exact hT2.right)
    rw[hz2]at hosl hosr;simp only at hosl hosr
    have hwf:∀o∈os,o.wf=true:=by
     intro o ho'
     have:=mh (tk:=c1.tk) (obs:=os0) (j:=60+mt1.length) (fun o h'=>by obtain⟨i,hi,rfl⟩:=bn h';have:=hS1.inv.wf _ (hmem i (by omega));simpa[aa,ac hi]using this) o (by rw[hz2];exact ho')
     exact this
    have hall:∀p∈fT 0 (eu (gM k m) id (os.take k))++fT (100+k) (eu (gM k m) id (os.drop k)),∃i,i<m.length/\p.1=gM k m (m.getD i 0)/\p.2=(os.getD i (.rc [])).ren (gM k m) id/\os.getD i (.rc [])∈os:=by
     intro p hp
     have gd:∀{l:List aC}{i:Nat},i<l.length->(eu (gM k m) id l).getD i (.rc [])=(l.getD i (.rc [])).ren (gM k m) id:=by intro l i hi;rw[ge,aa,aa,aR,ac hi];rfl
     have gm:∀{i:Nat},i<os.length->os.getD i (.rc [])∈os:=fun{i} hi=>by rw[aa,ac hi];exact bo _
     rcases al.1 hp with hp|hp
     ·obtain⟨i,h1,h2,h3⟩:=eY.1 hp
      rw[ge,aY,ax]at h1;have e:(os.take k).getD i (.rc [])=os.getD i (.rc []):=by simp only[aa,bC,if_pos (show i<k by omega)]
      refine⟨i,by omega, ?_, ?_,gm (by omega)⟩
      ·rw[h2,hfirst i (by omega)];unfold gM;rw[if_pos (by omega)];omega
      ·rw[h3,gd (by rw[ax];omega),e]
     ·obtain⟨i,h1,h2,h3⟩:=eY.1 hp
      rw[ge,aY,aL]at h1;have hi:k+i<m.length:=by omega
      have e:(os.drop k).getD i (.rc [])=os.getD (k+i) (.rc []):=by simp only[aa,bi]
      refine⟨k+i,hi, ?_, ?_,gm (by omega)⟩
      ·have h5:=hrest (k+i) (by omega) hi
       have h6:=l6 (fO hi);have h7:gB m (m.getD (k+i) 0)=k+i:=kS hmnd h6.1 hi h6.2;unfold gM;rw[if_neg (by omega),h7,h2];omega
      ·rw[h3,gd (by rw[aL];omega),e]
    have hmt:∀t∈cy (mt1++mt2),t∈c1.tk:=by
     intro t ht;rw[fB,al]at ht;rcases ht with ht|ht
     ·exact nP (tk:=c1.tk) (own:=keep) (cs:=vs1) (j:=60) (i:=0) t (by rw[hz];exact ht)
     ·exact mi (tk:=c1.tk) (obs:=os0) (j:=60+mt1.length) t (by rw[hz2];exact ht)
    have htok:∀t∈tks 60 (mt1.length+mt2.length),(x3.τ t).2.1=(x3.τ t).2.2\/∃u,(mt1++mt2).getD (t-60) none=some u/\u∈c1.tk/\x3.τ t=x1.τ u:=by
     intro t ht;obtain⟨h1,h2⟩:=jv.1 ht;have e:=hτ x3 rfl (t-60) (by rw[af];omega);rw[show 60+(t-60)=t by omega]at e;cases hu:(mt1++mt2).getD (t-60) none with
     |none=>rw[hu]at e;rw[e];exact .inl rfl
     |some u=>rw[hu]at e;exact .inr ⟨u,rfl,hmt u (iG hu),e⟩
    refine⟨x3,hrr,hE.heap.sel (x2:=x3) rfl ?_ ?_ ?_ ?_ ?_ ?_, ?_, ?_⟩
    ·intro p hp
     obtain⟨i,h1,h2,h3,h4⟩:=hall p hp;have hm':=fO h1;refine⟨?_,_,hmem i h1,by rw[h2];exact hβ _ hm'⟩;rw[h2,h3];exact(hosr i (by omega)).renF (x2:=x3) (fun _ _ _ h=>h) (hβ _ hm') (fun j hj=>hβ j (hsubm j (al.2 (.inr (ov h4 j hj))))) (fun t _=>rfl)
    ·rw[du,List.nodup_append]
     refine⟨iu _ _,iu _ _,fun u hu v hv e=> ?_⟩;obtain⟨p,hp,rfl⟩:=aT.1 hu;obtain⟨r,hr,rfl⟩:=aT.1 hv;obtain⟨i,h1,h2,_⟩:=eY.1 hp;obtain⟨j,h3,h4,_⟩:=eY.1 hr;rw[ge,aY,ax]at h1;omega
    ·intro p hp r hr hpr
     obtain⟨i,h1,h2,_⟩:=hall p hp;obtain⟨j,h3,h4,_⟩:=hall r hr;rw[h2,h4,hβ _ (fO h1),hβ _ (fO h3)]at hpr;have:=hE.heap.inj _ (hmem i h1) _ (hmem j h3) hpr;simp only at this;rw[h2,h4,this]
    ·intro t ht
     rcases htok t ht with g|⟨u,_,g1,g2⟩
     ·exact .inl g
     ·exact .inr ⟨u,g1,g2⟩
    ·intro t ht u hu htu
     rcases htok t ht with g|⟨t',g0,g1,g2⟩
     ·exact .inl g
     ·rcases htok u hu with g|⟨u',k0,k1,k2⟩
      ·exact .inr (.inl g)
      ·refine .inr (.inr ⟨t',g1,u',k1,mN htnd ?_ g0 k0,g2,k2⟩)
       have:=jv.1 ht;have:=jv.1 hu;omega
    ·intro i hi
     show(if _ then _ else _)=_;rw[if_pos hi]
    ·intro p hp
     obtain⟨i,h1,h2,h3,h4⟩:=hall p hp;rw[h3];exact yb (hwf _ h4)
    ·intro i hi
     show(if _ then _ else _)=_;rw[if_pos hi];exact hE.heap.pin i hi
structure bW(P:Program)(g:Nat)(F:FnC):Prop where
 fn:∃fn,P.funcs[g]? =some fn/\fn.body.map (cC P)=some F.code.er/\fn.ntmps=F.n/\DJ P fn.results.toList F.rs
 cb:dL P g=true
 ok:F.code.ok F.n=true
def nt(P:Program)(T:fP):Prop:=∀g b,T.fn g=some b->match b with
 | .code F=>bW P g F
 | .prim f=>∀as os k q,f as os k=some q->fz P g as os k (· =q)
theorem Cd(os:List aC):∀o,(idx os).lookup o=iF (fT 0 os) o:=by
 intro o;have h1:((idx os).map cH).Nodup:=mp os;have h2:=iu os 0
 have hm:∀p,p∈idx os↔p∈fT 0 os:=by
  intro p;rw[iM,eY];constructor
  ·rintro⟨g1,g2⟩;exact⟨p.1,g1,by omega,g2⟩
  ·rintro⟨i,g1,g2,g3⟩
   have e:p.1=i:=by omega
   rw[e];exact⟨g1,g3⟩
 rw[iv];refine sx (fun v hv=> ?_) (fun v hv=> ?_)
 ·exact i5 (p:=(o,v)) h2 ((hm _).1 (i7 hv))
 ·exact i5 (p:=(o,v)) h1 ((hm _).2 (i7 hv))
theorem rj(n:Nat):∀(l:List SV)(i:Nat),eB (nj i l) n=if i<=n then l.getD (n-i) .undef else .undef
 |[],i=>by simp[nj,eB]
 |v::r,i=>by
  simp only[nj,eB,rj n r (i+1)]
  by_cases h:i=n
  ·subst h;simp
  ·rw[if_neg h]
   by_cases h2:i<=n
   ·rw[if_pos h2,if_pos (by omega)]
    obtain⟨k,hk⟩:∃k,n-i=k+1:=⟨n-i-1,by omega⟩;rw[hk,lT];congr 1;omega
   ·rw[if_neg h2,if_neg (by omega)]
theorem rf{p:Nat×SV}:∀{l:List SV}{i:Nat},p∈nj i l->p.1<i+l.length
 |v::r,i,h=>by
  simp only[nj]at h;rcases aw.1 h with e|e
  ·rw[e];simp
  ·have:=rf e;simp only[am];omega
theorem uK:∀(l:List aC)(k:Nat),((fT k l).map cH).Pairwise (· < ·)
 |[],_=>by simp[fT]
 |o::r,k=>by simp only[fT,aF,cK];refine⟨fun n hn=> ?_,uK r (k+1)⟩;obtain⟨p,hp,rfl⟩:=aT.1 hn;obtain⟨i,_,h2,_⟩:=eY.1 hp;omega
theorem mX{n:Nat}(hR:um P T n)(hT:nt P T):gb P (eN T n):=by
 intro g as os k q hq;unfold eN at hq;cases hg:T.fn g with
 |none=>rw[hg]at hq;cases hq
 |some b=>
  have hb:=hT g b hg;cases b with
  |prim f=>rw[hg]at hq;exact hb as os k q hq
  |code F=>
   rw[hg]at hq;simp only[lR,Ed]at hq;obtain⟨⟨fn,hfn,hbody,hnt,hrv⟩,hcb,hok⟩:=hb;refine⟨hcb, ?_⟩;split at hq
   case isFalse=>cases hq
   rename_i hle;intro C x w vs hw0 hG0 hmine hlen hwf hH hargs;cases hbd:fn.body with
   |none=>simp[hbd]at hbody
   |some code=>
    simp only[hbd,cY]at hbody;refine calls_of_wp hfn hbd ?_;have hl:=hargs.1
    let s0:St:=⟨as++aH (F.n-as.length) .undef,idx os,tks 50 k⟩
    have hM0:aN C x s0 {tmps:=(⟨vs⟩:Array Value)++ei (fn.ntmps-(⟨vs⟩:Array Value).size) Go.undef,defers:=[]} w:=by
     refine⟨?_,rfl,hH⟩
     have e1:((⟨vs⟩:Array Value)++ei (fn.ntmps-(⟨vs⟩:Array Value).size) Go.undef).toList=vs++aH (F.n-as.length) Go.undef:=by simp[hnt,hl]
     rw[e1];refine hargs.append ⟨by simp,fun i hi=> ?_⟩;rw[fx _ _ _ _ (by simpa using hi)];exact .undef _
    have hS0:Sim F.n (qF as os k) s0:=by
     refine⟨⟨fun p hp=> ?_,uK os 0,fun p hp=> ?_⟩, ?_,fun o=>Cd os o,fun t=>Iff.rfl⟩
     ·have:=rf hp;omega
     ·obtain⟨i,h1,_,h3⟩:=eY.1 hp
      rw[h3,aa,ac h1];exact hwf _ (bo _)
     ·apply List.ext_getElem?
      intro i;show(as++aH (F.n-as.length) SV.undef)[i]? =_;rw[aR];rcases bO i F.n with hi|hi
      ·rw[ch hi]
       have e:(qF as os k).get i=as.getD i .undef:=by show eB (nj 0 as) i=_;rw[rj];simp
       simp only[bp,e,List.getElem?_append,List.getElem?_replicate]
       by_cases h:i<as.length
       ·rw[if_pos h,aa,ac h];rfl
       ·rw[if_neg h,if_pos (by omega),aa,gj (by omega)];rfl
      ·rw[gj (by simp;omega),gj (by simpa using hi)];rfl
    cases hs:fI T n F.code (qF as os k)with
    |none=>rw[hs]at hq;cases hq
    |some p=>
     obtain⟨e,c1⟩:=p;rw[hs]at hq;refine wp_mono (hR.1 _ _ _ _ hs code C F.n _ w (by simpa using hbody) hok ⟨x,s0,hM0,hS0⟩) ?_;rintro e' a' w' ⟨rfl,x1,s1,hM1,hS1⟩
     have main:Nm F.keep F.raw os.length c1 (qU c1 F.rs)=some q->a'.defers=[]/\∃v,(results fn a'.tmps).run P w'= .ok v w'/\∃v',∃x':Sit,∃q',Ending.returned v= .returned v'/\q'=q/\Rep x' q'.r v'/\cX C x' q'.os q'.tk w'/\(∀p∈q'.os,p.2.wf=true)/\∀i,i<os.length->x'.bk i=x.bk i:=by
      intro hf;cases hrc:qU c1 F.rs with
      |none=>rw[hrc]at hf;cases hf
      |some rv=>
       rw[hrc]at hf;obtain⟨p,h1,h2⟩:=rW (P:=P) hS1 hrv hrc;obtain⟨us,hrun,hl⟩:=pS hM1 h1 h2;obtain⟨x',g1,g2,g3,g4⟩:=Dj hM1 hS1 hlen hl hf;refine⟨hM1.defers,M2 us, ?_,M2 us,x',q,rfl,rfl,g1,g2,g3,fun i hi=> ?_⟩
       ·rw[w6,Array.mapM_eq_mapM_toList]
        simp only[az,Sem.run_map,hrun,aj,aJ];rfl
       ·rw[g4 i (by omega)];exact(hH.pin i (by omega)).symm
     cases e with
     |n=>exact main hq
     |r=>exact main hq
     |x id=>cases hq
theorem NL(hT:nt P T):∀n,um P T n
 |0=>wX
 |n+1=>wY (NL hT n) (mX (NL hT n) hT)
theorem oS(hT:nt P T):gb P (call T):=by intro g as os k q hq;obtain⟨n,hn⟩:=ou hq;exact mX (NL hT n) hT g as os k q hn
theorem BI(hT:nt P T){g:Nat}{as:List SV}{r:SV}(h:call T g as [] 0=some ⟨r,[],[]⟩)(ht:r.toks=[]):Fn P g as r:=by obtain⟨h1,h2⟩:=oS hT _ _ _ _ _ h;refine⟨h1,fun C x w vs hw hG hm hl hH hv=> ?_⟩;refine(h2 C x w vs hw hG (fun b hb=>(hm b hb).imp id (fun⟨i,hi,_⟩=>by simp at hi)) (by simp) (by simp) hH hv).mono ?_;rintro en w' ⟨v,x',q,rfl,rfl,hr,hH',_,hg⟩;exact⟨v,x',r,[],rfl,⟨rfl,rfl⟩,hr,by rw[ht];exact hH',hg⟩
def Sw(P:Program):ResultVar->RV->Bool
 | .tmp t,.tmp t'=>decide (t=t')
 | .cell t ty,.cell t' n ag=>decide (t=t')&&decide (fd P ty=some n)&&decide (qc P ty=some ag)
 |_,_=>false
def pQ(P:Program):List ResultVar->List RV->Bool
 |[],[]=>true
 |a::r,b::s=>Sw P a b&&pQ P r s
 |_,_=>false
theorem uP:∀{rs:List ResultVar}{rv:List RV},pQ P rs rv=true->DJ P rs rv
 |[],[],_=>trivial
 |[],_::_,h=>by cases h
 |_::_,[],h=>by cases h
 |a::r,b::s,h=>by
  simp only[pQ,aA]at h;refine⟨?_,uP h.2⟩;have h1:=h.1;cases a<;>cases b<;>simp only[Sw,aA,decide_eq_true_eq]at h1<;>first|(cases h1;done)|skip
  ·exact h1
  ·exact⟨h1.1.1,h1.1.2,h1.2⟩
theorem Rg{g:Nat}{F:FnC}{fn:Func}(h1:P.funcs[g]? =some fn)(h2:fn.body.map (cC P)=some F.code.er)(h3:fn.ntmps=F.n)(h4:pQ P fn.results.toList F.rs=true)(h5:dL P g=true)(h6:F.code.ok F.n=true):bW P g F:=
 ⟨⟨fn,h1,h2,h3,uP h4⟩,h5,h6⟩
end Go.Sy
namespace Go.Sy
variable [bf]
open Go.RowKit Go.ChangeShapes Go.WideShapes
def GW(w:World):GM:=fun b o=>w.cell? ⟨b,o,none⟩
def nC(w:World):Sit:=⟨GW w,fun _=>(0,0),fun _=>(0,0,0)⟩
theorem X5(w:World)(hL:Lay (GW w)):cX ⟨w,GW w,fun b=>w.heap.size<=b,fun _=>(0,0)⟩ (nC w) [] [] w where
 per:=fun _ _ _ h=>h
 g0:=fun _ _ _ h=>h
 gm:=fun _ _ _ h=> .inl h
 new:=fun _ h=>h
 obs:=by simp
 nd:=List.nodup_nil
 inj:=by simp
 tks:=by simp
 tko:=by simp
 tkd:=by simp
 os:=rfl
 tape:=rfl
 output:=rfl
 size:=aK _
 ext:=fun _ _=>rfl
 pin:=fun _ _=>rfl
 lay:=hL
theorem rQ{x:Sit}{b:Bool}{v:Value}(h:Rep x (.bool b) v):v= .bool b:=by
 cases h with
 |dat _ _ h _=>cases h;rfl
theorem rg{P:Program}{f:Nat}{as:List SV}(h:Fn P f as (.bool true)){W:World}{vs:List Value}(hv:cj (nC W) as vs)(hL:Lay (GW W)):
 Calls P f ⟨vs⟩ W fun e W'=>e= .returned (.bool true)/\Below W.heap.size W W':=by
 refine(h.2 ⟨W,GW W,fun b=>W.heap.size<=b,fun _=>(0,0)⟩ (nC W) W vs rfl rfl (fun b hb=> .inl hb) (by simp) (X5 W hL) hv).mono ?_;rintro e W' ⟨v,x',r,os',rfl,⟨rfl,rfl⟩,hr,hH,_⟩;obtain rfl:=rQ hr;exact⟨rfl,hH.os,hH.tape,hH.output,hH.size,fun k hk=>hH.ext k (by simp;omega)⟩
section
variable {H : Type} {enc : TypeId × Value -> H} {P : Program} {w : World} {base : Nat} {sp : Nat -> Bool} {hd : Bool} {r : Reach} {b0 : Nat} {t e : TypeId} {v : Value} {d : DataW H} {ps : List MemPlace}
theorem oW{k:IntKind}(ht:P.underlying t=some (.int k))(hval:Value.okWide P w r b0 t v)(h:DataW.Trod enc P w base sp hd t v d ps):∃n,k.has n/\Rep (nC w) (.int k n) v:=by obtain⟨n,rfl,_,_,hw⟩:=open_int ht hval h;simp only[Lit.wf,aA,decide_eq_true_eq]at hw;exact⟨n,hw,.dat _ _ (.int k n) trivial⟩
theorem GE(ht:P.underlying t=some .bool)(hval:Value.okWide P w r b0 t v)(h:DataW.Trod enc P w base sp hd t v d ps):∃b,Rep (nC w) (.bool b) v:=by obtain⟨b,rfl,_,_⟩:=open_bool ht hval h;exact⟨b,.dat _ _ (.bool b) trivial⟩
theorem xaB{n:Int}(h:(Lit.int .u8 n).wf=true):((gw n.toNat).toNat:Int)=n:=by
 simp only[Lit.wf,IntKind.min,IntKind.max,IntKind.signed,IntKind.bits,aA,decide_eq_true_eq]at h;rw[UInt8.toNat_ofNat'];have:n.toNat<256:=by simp at h;omega
 rw[cx this];simp at h;omega
end
theorem vd{x:Sit}:cj x [] []:=⟨rfl,by simp⟩
section
variable {H : Type} {enc : TypeId × Value -> H} {P : Program}
theorem FD{f:Func}{s:ChangeSpec}{apart fresh handsOn again:Bool}{W W':World}{args:Array Value}{v:Value}{ds gs:List (DataW H)}{before pa pv:List MemPlace}
 (hW:DataW.Whole enc P f.params.toList s.vars apart W args.toList ds gs before)
 (hres:∀(b:Nat)(sp:Nat->Bool)(hd:Bool),DataW.TrodAll enc P W' b sp hd f.resultTypes.toList (v.resultList f.resultTypes.size) (s.fn H (ds++gs)).results [])
 (hargs:∀sp:Nat->Bool,(∀p∈before,sp p.block=true)->DataW.TrodAll enc P W' 0 sp true f.params.toList args.toList (s.fn H (ds++gs)).args pa)
 (hvars:∀sp:Nat->Bool,(∀p∈before,sp p.block=true)->DataW.TrodVars enc P W' sp s.vars (s.fn H (ds++gs)).vars pv)
 (hps:before=pa++pv) (hb:Below W.heap.size W W')
 (hok:∀(j:Nat)(t:TypeId)(r:Value),f.resultTypes[j]? =some t->(v.resultList f.resultTypes.size)[j]? =some r->Value.okWide P W' .any 0 t r):
 s.post enc P f apart fresh handsOn again W args v W':=by
 have hlt:=hW.lt;have hold:∀p∈before,(fun b=>decide (b<W.heap.size)) p.block=true:=fun p hp=>by simpa using hlt p hp
 refine⟨ds,gs,before,[],pa,pv,hW,hres _ _ _,hargs _ hold,hvars _ hold,World.keptBut_mono (fun p hp=>⟨hp, ?_⟩) (hb.frame (· ∈before)),fun _=> ?_⟩
 ·rw[hps,al]at hp
  exact Or.inr hp
 ·obtain⟨_,_,_,_,_,hz,hn⟩:=hW
  refine⟨hok,_,_,([]++pa)++pv,⟨[]++pa,pv,trodAll_append (hargs _ (fun _ _=>rfl)) (hres _ _ _),hvars _ (fun _ _=>rfl),rfl, ?_, ?_⟩, ?_⟩
  ·intro b off hp
   have hp':MemPlace.cell b off∈before:=by rw[hps];simpa using hp
   rw[hb.frozen (p:=⟨b,off,none⟩) (hlt _ hp')];exact hz b off hp'
  ·intro ha
   have:=hn ha;rw[hps]at this;simpa using this
  ·intro p hp _
   rw[hps];simpa using hp
theorem kq(hl:laidOutB P=true){W W':World}(hb:Below W.heap.size W W'):∀{ts:List TypeId}{vs:List Value}{ds:List (DataW H)}{p:List MemPlace},(ts.all fun t=>P.readableRec t&&decide (t<P.types.size))=true->
 DataW.TrodAll enc P W 0 (fun _=>true) true ts vs ds p->(∀x∈p,x.block<W.heap.size)->∀sp:Nat->Bool,(∀x∈p,sp x.block=true)->DataW.TrodAll enc P W' 0 sp true ts vs ds p
 |[],_,_,_,_,h,_,_,_=>by obtain⟨rfl,rfl,rfl⟩:=trodAll_nil h;exact trodAll_mk0
 |t::ts,_,_,_,hr,h,hlt,sp,hsp=>by obtain⟨v,vs1,d,ds1,a,b,rfl,rfl,rfl,h1,h2⟩:=trodAll_cons h;simp only[List.all_cons,aA,decide_eq_true_eq]at hr;refine trodAll_cons_mk ?_ (kq hl hb (by simpa using hr.2) h2 (fun x hx=>hlt x (List.mem_append_right _ hx)) sp (fun x hx=>hsp x (List.mem_append_right _ hx)));exact WideElems.Trod_stays hl hr.1.1 hr.1.2 h1 (fun x hx=>hb.same (hlt x (List.mem_append_left _ hx))) (fun x hx=>hsp x (List.mem_append_left _ hx))
theorem vE{f:Func}{s:ChangeSpec}{W W':World}{args:Array Value}{ds gs:List (DataW H)}{before:List MemPlace}{tb:TypeId}(hl:laidOutB P=true)
 (hr:(f.params.toList.all fun t=>P.readableRec t&&decide (t<P.types.size))=true) (hrt:f.resultTypes= #[tb]) (htb:P.underlying tb=some .bool) (hvars:s.vars=[])
 (hfn:(s.fn H (ds++gs)).results=[.lit (.bool true)]) (hfa:(s.fn H (ds++gs)).args=ds) (hfv:(s.fn H (ds++gs)).vars=[])
 (hW:DataW.Whole enc P f.params.toList s.vars false W args.toList ds gs before) (hb:Below W.heap.size W W'):
 s.post enc P f false true false false W args (.bool true) W':=by
 have hlt:=hW.lt;have hW':=hW;obtain⟨p,q,hA,hV,rfl,hfz,hnd⟩:=hW;rw[hvars]at hV;obtain⟨rfl,rfl⟩:=trodVars_none hV;simp only[bG]at hlt hW' hfz;refine FD (pa:=p) (pv:=[]) (before:=p) (gs:=[]) hW' (fun b sp hd=> ?_) (fun sp hsp=> ?_) (fun sp hsp=> ?_) (by simp) hb (ok_one hrt rfl (okWide_bool_mk htb _))
 ·rw[hfn,hrt]
  exact trodAll_cons_mk (shut_bool htb _) trodAll_mk0
 ·rw[hfa]
  exact kq hl hb hr hA hlt sp hsp
 ·rw[hvars,hfv]
  rfl
end
end Go.Sy
namespace Go.Sy
variable [bf]
open Go.RowKit Go.ChangeShapes Go.WideShapes
variable {P : Program} {C : Ctx} {x : Sit} {w w' : World}
theorem eh.below{b:Nat}{c:Array Value}{e:TypeId}{fl fh:Nat}(h:eh w b c e fl fh)(hb:Below w.heap.size w w'):eh w' b c e fl fh:=h.of_heap (hb.block b h.lt)
theorem cX.below{ob:List (Nat×aC)}{tk:List Nat}(h:cX C x ob tk w)(hb:Below w.heap.size w w'):cX C x ob tk w' where
 per:=fun b o v hv=>by rw[dr (hb.block b (h.ltG hv))];exact h.per b o v hv
 g0:=h.g0
 gm:=h.gm
 new:=h.new
 obs:=fun p hp=>by obtain⟨⟨c,e,fl,fh,hO,r⟩,q⟩:=h.obs p hp;exact⟨⟨c,e,fl,fh,hO.below hb,r⟩,q⟩
 nd:=h.nd
 inj:=h.inj
 tks:=fun t ht=>(h.tks t ht).imp id fun⟨⟨c,e,fl,fh,hO,r⟩,q⟩=>⟨⟨c,e,fl,fh,hO.below hb,r⟩,q⟩
 tko:=h.tko
 tkd:=h.tkd
 os:=hb.os.trans h.os
 tape:=hb.tape.trans h.tape
 output:=hb.output.trans h.output
 size:=kL h.size hb.size
 ext:=fun b hn=>by
  rcases bO b w.heap.size with h1|h1
  ·rw[hb.block b h1];exact h.ext b hn
  ·exact absurd (h.new b (kL h.size h1)) hn
 pin:=h.pin
 lay:=h.lay
def iN(w:World)(l:List UInt8)(v:Value):Prop:=
 (l=[]/\∃a,v= .slice a 0 0)\/∃b off n cap,v= .slice (some ⟨b,off,none⟩) n cap/\n=l.length/\∀i,i<n->w.cell? ⟨b,off+i,none⟩=some (.int .u8 (l.getD i 0).toNat)
theorem kV{l:List UInt8}{t:Tok}{v:Value}(h:Rep x (.byt l t) v)(hp:∀b o v,x.G b o=some v->w.cell? ⟨b,o,none⟩=some v):iN w l v:=by
 cases h with
 |dat _ _ h _=>
  cases h with
  |bytN=>exact .inl ⟨rfl,_,rfl⟩
  |bytE=>exact .inl ⟨rfl,_,rfl⟩
  |byt _ _ b off cap n hn hc h=>exact .inr ⟨b,off,n,cap,rfl,hn,fun i hi=>hp _ _ _ (h i hi)⟩
theorem x8{l:List UInt8}{v:Value}(h:Rep x (.str l) v):v= .string ⟨⟨l⟩⟩:=by
 cases h with
 |dat _ _ h _=>cases h;rfl
theorem xeh{b:UInt8}{v:Value}(h:Rep x (.u8 b) v):v= .int .u8 b.toNat:=by
 cases h with
 |dat _ _ h _=>cases h;rfl
theorem je{g:Nat}{as:List SV}{r:SV}(hcb:dL P g=true)
 (h:∀(x:Sit)(w:World)(vs:List Value),cj x as vs->(∀b o v,x.G b o=some v->w.cell? ⟨b,o,none⟩=some v)->
  Calls P g ⟨vs⟩ w fun e w'=>∃v,e= .returned v/\Rep x r v/\Below w.heap.size w w'):fz P g as [] 0 (· =⟨r,[],[]⟩):=by
 refine⟨hcb,fun C x w vs hw hG hm hl hwf hH hr=>(h x w vs hr hH.per).mono ?_⟩;rintro e w' ⟨v,rfl,hv,hb⟩;exact⟨v,x,_,rfl,rfl,hv,hH.below hb,fun p hp=>by simp at hp,fun i hi=>rfl⟩
theorem jM{l:List UInt8}{v:Value}(h:iN w l v):(Extern.Bytes.bytesOf v).run P w= .ok ⟨⟨l⟩⟩ w:=by
 rcases h with⟨rfl,a,rfl⟩|⟨b,off,n,cap,rfl,hn,hc⟩
 ·cases a<;>rfl
 ·have hl:=Lib.run_loadBytesX (P:=P) w (l.map fun c=>(c.toNat:Int)) ⟨b,off,none⟩ .empty (fun j z hj=>by
   have hj':j<l.length:=by have:=(nK.1 hj).1;simpa using this
   have e:(⟨b,off,none⟩:Addr).add j=⟨b,off+j,none⟩:=by unfold Addr.add;split<;>simp_all
   rw[e,hc j (by omega)];simp only[aR,ac hj',bp,aq.injEq]at hj;rw[aa,ac hj',aM,<-hj])
  have e2:(⟨ByteArray.empty.data++(Lib.bytesOf (l.map fun c=>(c.toNat:Int))).toArray⟩:ByteArray)=⟨⟨l⟩⟩:=by
   apply ByteArray.ext;show(#[]:Array UInt8)++(Lib.bytesOf _).toArray=⟨l⟩
   have:Lib.bytesOf (l.map fun c=>(c.toNat:Int))=l:=by unfold Lib.bytesOf;rw[List.map_map];refine(List.map_congr_left (g:=id) fun c _=> ?_).trans (List.map_id _);simp
   rw[this];simp
  rw[aY,e2]at hl;rw[hn];exact hl
theorem pR{a b:List UInt8}{u v:Value}(ha:iN w a u)(hb:iN w b v):(Extern.BytealgCompare.compare #[u,v]).run P w= .ok (.int .i64 (Lib.compareBytes a b)) w:=by change Sem.run P (do pure (goInt (Extern.BytealgCompare.cmp (<-Extern.Bytes.bytesOf u) (<-Extern.Bytes.bytesOf v)))) w=_;simp only[az,jM ha,jM hb,Result.andThen,aJ,Lib.cmp_eq];rfl
def xdB(l:List UInt8)(c:UInt8):Int:=firstIdx ⟨⟨l⟩⟩ c
theorem uz{l:List UInt8}{u:Value}{c:UInt8}(ha:iN w l u):(Extern.BytealgIndexByte.indexByte #[u,.int .u8 c.toNat]).run P w= .ok (.int .i64 (xdB l c)) w:=by
 have hs:=run_indexByte_string (P:=P) ⟨⟨l⟩⟩ c.toNat w
 change Sem.run P (do
  let b<-Extern.Bytes.bytesOf u
  let c'<-Extern.Bytes.asByte (.int .u8 c.toNat)
  match (bA b.size).find? fun i=>b[i]! ==c' with
  |some i=>pure (goInt i)
  |none=>pure (goInt (-1))) w=_
 change Sem.run P (do
  let b<-Extern.Bytes.bytesOf (.string ⟨⟨l⟩⟩)
  let c'<-Extern.Bytes.asByte (.int .u8 c.toNat)
  match (bA b.size).find? fun i=>b[i]! ==c' with
  |some i=>pure (goInt i)
  |none=>pure (goInt (-1))) w=_ at hs
 have e:(((c.toNat:Nat):Int).toNat.toUInt8)=c:=by simp
 rw[e]at hs;simp only[az,jM ha,Result.andThen]at hs ⊢;exact hs
end Go.Sy
namespace Go.Sy
variable [bf]
structure D3(T T':fP):Prop where
 fn:∀g b,T.fn g=some b->T'.fn g=some b
 sg:T.sg=T'.sg
variable {T T' : fP}
theorem uS(h:D3 T T'):∀n,leR (fI T n) (fI T' n)
 |0=>fun _ _ _ h=>by cases h
 |n+1=>fun r c x hx=>by
  have ih:=uS h n;show dP (fI T' n) (fun g args os k=>lR (fI T' n) (T'.fn g) args os k) T'.sg r c=some x;rw[<-h.sg];refine kN ih ?_ hx;intro g a os k q hq;simp only at hq ⊢;cases hf:T.fn g with
  |none=>rw[hf]at hq;cases hq
  |some b=>rw[hf]at hq;rw[h.fn g b hf];exact ia ih hq
theorem QK{α:Type}{g:Nat->Option α}{x:α}(h:lim g=some x):∃n,g n=some x:=by
 unfold lim at h;split at h
 ·exact⟨_,h⟩
 ·cases h
theorem Gu(h:D3 T T'){g:Nat}{a:List SV}{os:List aC}{k:Nat}{q:dv}(hc:call T g a os k=some q):call T' g a os k=some q:=by
 obtain⟨n,hn⟩:=QK hc;refine oT (n:=n) ?_;unfold eN at hn ⊢;cases hf:T.fn g with
 |none=>rw[hf]at hn;cases hn
 |some b=>rw[hf]at hn;rw[h.fn g b hf];exact ia (uS h n) hn
def fP.add(T:fP)(g:Nat)(F:FnC):fP:=⟨fun k=>if k=g then some (.code F)else T.fn k,T.sg⟩
end Go.Sy
namespace Go.Sy
variable [bf]
variable {P : Program} {C : Ctx} {x : Sit} {w w' : World} {ob : List (Nat × aC)} {tk : List Nat}
open Go.RowKit Go.ChangeShapes Go.WideShapes
theorem eO(b:Nat):∀(vs:List Value)(o:Nat)(w:World),w.setCells b o vs=bU w b o vs
 |[],_,_=>rfl
 |v::r,o,w=>by rw[World.setCells,bU];exact eO b r (o+1) _
theorem cX.one(h:cX C x ob tk w)(hb:Below w.heap.size w w'){obj:aC}{K:Nat}(hr:dM (x.newO 100 w.heap.size K) w' 100 obj):cX C (x.newO 100 w.heap.size K) [(100,obj)] [] w':=by
 have h1:=(h.sub (ob':=[]) (tk':=[]) (List.nil_sublist _) (fun t ht=>by cases ht)).below hb;have hd2:(x.newO 100 w.heap.size K).bk 100=(w.heap.size,K):=gX _ _ _;refine⟨h1.per,h1.g0,h1.gm,h1.new, ?_,by simp, ?_,(fun t ht=>by cases ht),(fun t ht=>by cases ht),(fun t ht=>by cases ht),h1.os,h1.tape,h1.output,h1.size,h1.ext,fun i hi=>by rw[Sit.newO_ne _ _ _ _ (by omega)];exact h1.pin i hi,h1.lay⟩
 ·intro p hp
  rw[bw]at hp;subst hp;refine⟨hr,by rw[hd2];exact h.new _ h.size,fun off=> ?_⟩;rw[hd2];show x.G w.heap.size off=none;cases hg:x.G w.heap.size off with
  |none=>rfl
  |some v=>exact absurd (h.ltG hg) (by omega)
 ·intro p hp q hq _
  rw[bw]at hp hq;rw[hp,hq]
theorem SA{a b c:SV}{vs:List Value}(h:cj x [a,b,c] vs):∃u v z,vs=[u,v,z]/\Rep x a u/\Rep x b v/\Rep x c z:=by
 match vs,h with
 |[u,v,z],h=>exact⟨u,v,z,rfl,h.2 0 (by simp),h.2 1 (by simp),h.2 2 (by simp)⟩
 |[],h=>simp[cj]at h
 |[_],h=>simp[cj]at h
 |[_,_],h=>simp[cj]at h
 |_::_::_::_::_,h=>simp[cj]at h
theorem CJ{w:World}{b:Nat}{c:Array Value}{e:TypeId}{fl fh:Nat}(h:eh w b c e fl fh):w.shape? b=some (e,c.size):=by simp only[World.shape?,h.1]
theorem FS{w:World}{b:Nat}{c:Array Value}{e:TypeId}{fl fh:Nat}(h:eh w b c e fl fh)(hm:¬(fl<=c.size/\c.size<fh)):w.frozen? ⟨b,c.size,none⟩=false:=by simp only[World.frozen?,h.1];simpa using hm
end Go.Sy
namespace Go.Sy
variable [bf]
open Go.RowKit Go.ChangeShapes Go.WideShapes
variable {P : Program} {C : Ctx} {x : Sit} {w w' : World} {T T' : fP}
def Sit.grow(x:Sit)(w w':World):Sit:=⟨fun b o=>if w.heap.size<=b then w'.cell? ⟨b,o,none⟩else x.G b o,x.bk,x.τ⟩
theorem jn{b o:Nat}{v:Value}(h:w.cell? ⟨b,o,none⟩=some v):b<w.heap.size:=by
 rcases bO b w.heap.size with h1|h1
 ·exact h1
 ·have h2:w.heap[b]? =none:=Array.getElem?_eq_none h1
  simp only[World.cell?,h2]at h;cases h
theorem Gb(hper:∀b o v,x.G b o=some v->w.cell? ⟨b,o,none⟩=some v){b o:Nat}{v:Value}(h:x.G b o=some v):(x.grow w w').G b o=some v:=by show(if w.heap.size<=b then _ else _)=_;rw[if_neg (by have:=jn (hper _ _ _ h);omega)];exact h
theorem wE{g:Nat}{as:List SV}{r:SV}(hcb:dL P g=true)
 (h:∀(x:Sit)(w:World)(vs:List Value),cj x as vs->(∀b o v,x.G b o=some v->w.cell? ⟨b,o,none⟩=some v)->Lay x.G->
  Calls P g ⟨vs⟩ w fun e w'=>∃v,e= .returned v/\Rep (x.grow w w') r v/\Below w.heap.size w w'):fz P g as [] 0 (· =⟨r,[],[]⟩):=by
 refine⟨hcb,fun C x w vs hw hG hm hl hwf hH hr=>(h x w vs hr hH.per (hG ▸ hH.lay)).mono ?_⟩;rintro e w' ⟨v,rfl,hv,hb⟩;have h1:=hH.below hb;refine⟨v,x.grow w w',_,rfl,rfl,hv,⟨?_, ?_, ?_,h1.new,by simp,by simp,by simp,by simp,by simp,by simp,h1.os,h1.tape,h1.output,h1.size,h1.ext,fun i hi=>h1.pin i hi,h1.lay⟩,fun p hp=>by simp at hp,fun i hi=>rfl⟩
 ·intro b o u hu
  have hu':(if w.heap.size<=b then w'.cell? ⟨b,o,none⟩else x.G b o)=some u:=hu;split at hu'
  ·exact hu'
  ·exact h1.per _ _ _ hu'
 ·intro b o u hu
  exact Gb hH.per (hH.g0 _ _ _ hu)
 ·intro b o u hu
  have hu':(if w.heap.size<=b then w'.cell? ⟨b,o,none⟩else x.G b o)=some u:=hu;split at hu'
  ·rename_i hle
   exact .inr (hH.new b (by rw[hw];exact hle))
  ·exact hH.gm _ _ _ hu'
theorem Gt(hT:nt P T){g:Nat}{as:List SV}{r:SV}(h:call T g as [] 0=some ⟨r,[],[]⟩){vs:List Value}(hv:cj (nC w) as vs)(hL:Lay (GW w)):
 Calls P g ⟨vs⟩ w fun e w'=>∃v x',e= .returned v/\Rep x' r v/\Below w.heap.size w w':=by
 obtain⟨h1,h2⟩:=oS hT _ _ _ _ _ h;refine(h2 ⟨w,GW w,fun b=>w.heap.size<=b,fun _=>(0,0)⟩ (nC w) w vs rfl rfl (fun b hb=> .inl hb) (by simp) (by simp) (X5 w hL) hv).mono ?_;rintro e w' ⟨v,x',q,rfl,rfl,hr,hH,_⟩;exact⟨v,x',rfl,hr,hH.os,hH.tape,hH.output,hH.size,fun k hk=>hH.ext k (by simp;omega)⟩
def fP.addP(T:fP)(g:Nat)(p:List SV->List aC->Nat->Option dv):fP:=⟨fun k=>if k=g then some (.prim p)else T.fn k,T.sg⟩
theorem ET(T:fP){g:Nat}(p:List SV->List aC->Nat->Option dv)(h:T.fn g=none):D3 T (T.addP g p):=⟨fun k b hk=>by show(if k=g then _ else _)=_;rw[if_neg (by rintro rfl;rw[h]at hk;cases hk)];exact hk,rfl⟩
theorem BV(T:fP)(g:Nat)(p:List SV->List aC->Nat->Option dv):(T.addP g p).fn g=some (.prim p):=if_pos rfl
theorem R5(h:nt P T){g:Nat}{p:List SV->List aC->Nat->Option dv}(hp:∀as os k q,p as os k=some q->fz P g as os k (· =q)):nt P (T.addP g p):=by
 intro k b hb
 by_cases e:k=g
 ·subst e
  rw[BV]at hb;cases hb;exact hp
 ·have:T.fn k=some b:=by
   have h2:(if k=g then some (FnB.prim p)else T.fn k)=some b:=hb;rwa[if_neg e]at h2
  exact h k b this
end Go.Sy
namespace Go
open Go.Maps (Keyed)
theorem fg{H:Type}{P:Program}{e:TypeId}(he:P.underlying e=some .bool){v:Value}{z:DataW H×List MemPlace}(h:plainElem P e v=some z):∃a,v= .bool a/\z=(.lit (.bool a),[]):=by unfold plainElem at h;rw[he]at h;cases v<;>simp at h;exact⟨_,rfl,h.symm⟩
theorem C2{H:Type}{P:Program}{w:World}{t k e:TypeId}{b n:Nat}{D:DataW H}(hown:w.ownsMap P k (plainElem P e) b n D)(K:Keyed P k)(ht:P.underlying t=some (.map k e))(he:P.underlying e=some .bool)(hz:(zeroValue e).run P w= .ok (.bool false) w){key:Value}{kl:Lit}(hkey:keyOf P k key=some kl): 
 ∃c:Bool,(Instr.lookup t (.map (some b)) key false).run P w= .ok (.bool c) w/\D.atKey kl (.lit (.bool false))= .lit (.bool c):=by
 obtain⟨v,ps,hrun,hv⟩:=hown.lookup K ht hz (plainElem_bool he false) hkey;obtain⟨c,rfl,hc⟩:=fg he hv;simp only[bt.injEq]at hc;exact⟨c,hrun,hc.1⟩
end Go
