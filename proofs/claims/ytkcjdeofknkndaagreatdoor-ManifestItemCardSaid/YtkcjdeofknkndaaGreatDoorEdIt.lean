/- An engine that steps through Go code with symbolic values: sound by proof. No condition. -/
import Derived.Test.YtkcjdeofknkndaaGreatDoorEcIt
import Derived.Below
import Derived.Carry
import Derived.ChangeSlices
import Derived.JoinedCond
import Derived.OpenShut
import Derived.RowKit3
import Derived.SliceStrings
import Derived.Lib.Bytealg
import Derived.Lib.BytesEntry
import Derived.Laws.IdiomCopy
open Array renaming ext' -> dR, getD -> jX, getD_eq_getD_getElem? -> bt, getElem?_eq_some_iff -> eo, getElem?_toList -> dh, length_toList -> aU, replicate -> dX
open Bool renaming and_eq_true -> az, false_eq_true -> aK, not_eq_true' -> dB, or_eq_true -> eY
open List renaming Nodup -> ww, Pairwise -> eD, Sublist -> nJ, all_cons -> gx, all_eq_true -> aY, append_nil -> bJ, cons -> iv, cons_append -> aJ, contains_eq_mem -> eX, drop_eq_getElem_cons -> aS, drop_eq_nil_of_le -> bo, filter_cons -> kX, filter_eq_self -> iq, flatten_append -> ct, getD_cons_succ -> bY, getD_eq_getElem?_getD -> aa, getElem?_append_left -> bG, getElem?_append_right -> bZ, getElem?_drop -> bE, getElem?_eq_getElem -> ab, getElem?_eq_none -> kj, getElem?_map -> aT, getElem?_range -> cI, getElem?_take -> bV, getElem_mem -> bp, getElem_of_mem -> cf, length -> qV, length_append -> af, length_cons -> aC, length_drop -> aH, length_eq_zero_iff -> bi, length_map -> au, length_take -> aj, map_append -> cn, map_cons -> aI, mem_append -> al, mem_cons -> an, mem_cons_of_mem -> aq, mem_cons_self -> aD, mem_map -> aV, mem_map_of_mem -> ip, mem_range -> gX, mem_singleton -> ba, nil_append -> aF, nodup_cons -> ed, not_mem_nil -> cz, pairwise_append -> eW, pairwise_cons -> bQ, pairwise_iff_getElem -> ox, pairwise_map -> gC, range -> cj, replicate -> am, take_append_drop -> ki, take_length -> bv
open Nat renaming add_mul -> bI, le_refl -> aQ, le_trans -> cM, lt_or_ge -> bX, mod_eq_of_lt -> dV, mul_le_mul_right -> bF, mul_one -> dt, zero_add -> cK, zero_mul -> ly
open Option renaming bind_some -> cZ, getD_some -> bB, ite_none_right_eq_some -> aN, map_eq_some_iff -> ah, map_some -> bx, some -> aw
open Prod renaming fst -> cQ, mk -> bq
open Go.Result renaming andThen_ok -> ak
open Go.Sem renaming run_bind -> aE, run_pure -> aL
open UInt8 renaming ofNat -> iK
set_option linter.unusedVariables false
set_option linter.unusedSimpArgs false
set_option linter.unnecessarySimpa false
set_option linter.unusedSectionVars false
namespace Go.Sy
variable [bg]
variable {P : Program} {C : Ctx} {x : Sit} {a : Act} {w : World} {N : Nat} {c c' : CSt} {s : St} {call : de} {sg : Nat -> Sig}
def gq(P:Program)(call:de):Prop:=∀g as os k q,call g as os k=some q->my P g as os k (· =q)
theorem xN{sg:Sig}{d:Option Nat}{g:Nat}{as:List SV}(hc:ik call sg c d g as=some c'):∃as' os k q,call g as' os k=some q:=by
 unfold ik at hc;generalize ((SV.idsL as).isEmpty&&sg.own.isEmpty)=b at hc;cases b with
 |true=>
  simp only[jO]at hc;cases hq:call g (SV.bareL as) [] 0 with
  |none=>rw[hq]at hc;cases hc
  |some q=>exact⟨_,_,_,q,hq⟩
 |false=>
  simp only[jO]at hc;generalize eP c as (iS sg.raw 0 as)=z at hc;obtain⟨c1,as1⟩:=z;simp only[jF]at hc;generalize jT c1.tk sg.own 50 0 as1=z at hc;obtain⟨as2,mt1⟩:=z;simp only[nN]at hc;cases ho:gF c1 (dL c1 60 [] (SV.idsL as2))with
  |none=>rw[ho]at hc;cases hc
  |some os0=>
   rw[ho]at hc;simp only[lA]at hc;generalize dZ c1.tk (50+mt1.length) os0=z at hc;obtain⟨os,mt2⟩:=z;simp only[nM]at hc;generalize (oC (SV.idsL as2++fJ os) (dL c1 60 [] (SV.idsL as2))&&dy (dL c1 60 [] (SV.idsL as2))&&dy (cD (mt1++mt2))&&decide ((dL c1 60 [] (SV.idsL as2)).length<=40)&&(dL c1 60 [] (SV.idsL as2)).all fun o=> !inR (d.getD 0) o)=b at hc;cases b with
   |false=>cases hc
   |true=>
    simp only[nL]at hc;cases hq:call g (SV.renL (gM (dL c1 60 [] (SV.idsL as2))) id as2) (ee (gM (dL c1 60 [] (SV.idsL as2))) id os) (mt1.length+mt2.length)with
    |none=>rw[hq]at hc;cases hc
    |some q=>exact⟨_,_,_,q,hq⟩
theorem da.freeze{ob:List (Nat×aG)}{tk:List Nat}(h:da C x ob tk w){b:Nat}(hb:C.mine b)(ho:∀p∈ob,(x.bk p.1).1≠b)(ht:∀t∈tk,(x.τ t).1≠b\/(x.τ t).2.1=(x.τ t).2.2)(off n:Nat):
 da C x ob tk (w.freeze ⟨b,off,none⟩ n):=by
 have hne:∀b',b'≠b->(w.freeze ⟨b,off,none⟩ n).heap[b']? =w.heap[b']? :=by
  intro b' h';unfold World.freeze;split
  ·rfl
  ·simp only[Array.getElem?_modify,if_neg (Ne.symm h')]
 have hcell:∀b' i,(w.freeze ⟨b,off,none⟩ n).cell? ⟨b',i,none⟩=w.cell? ⟨b',i,none⟩:=by
  intro b' i
  by_cases h':b'=b
  ·subst h'
   unfold World.freeze;split
   ·rfl
   ·simp only[World.cell?,Array.getElem?_modify,if_true]
    cases hw:w.heap[b']? with
    |none=>rfl
    |some q=>cases q<;>rfl
  ·exact dn (hne b' h')
 have hsz:(w.freeze ⟨b,off,none⟩ n).heap.size=w.heap.size:=by unfold World.freeze;split<;>simp
 have hos:(w.freeze ⟨b,off,none⟩ n).os=w.os/\(w.freeze ⟨b,off,none⟩ n).tape=w.tape/\(w.freeze ⟨b,off,none⟩ n).output=w.output:=by unfold World.freeze;split<;>exact⟨rfl,rfl,rfl⟩
 refine⟨fun b' i v hv=>by rw[hcell];exact h.per b' i v hv,h.g0,h.gm,h.new,fun p hp=> ?_,h.nd,h.inj,fun t ht'=> ?_,h.tko,h.tkd,hos.1.trans h.os,hos.2.1.trans h.tape,hos.2.2.trans h.output,by rw[hsz];exact h.size,fun b' hb'=> ?_,h.pin,h.lay⟩
 ·obtain⟨⟨cc,e,fl,fh,hO,r⟩,q⟩:=h.obs p hp
  exact⟨⟨cc,e,fl,fh,hO.of_heap (hne _ (ho p hp)),r⟩,q⟩
 ·rcases h.tks t ht' with h1|⟨⟨cc,e,fl,fh,hO,h2⟩,h3⟩
  ·exact .inl h1
  ·rcases ht t ht' with h4|h4
   ·exact .inr ⟨⟨cc,e,fl,fh,hO.of_heap (hne _ h4),h2⟩,h3⟩
   ·exact .inl h4
 ·rw[hne b' (fun e=>hb' (e ▸ hb))];exact h.ext b' hb'
theorem RB{o:Oper}{q:Arg}(hr:bA P o=some (.slid q)):∃src X e,o.op= .convert src src X/\P.underlying src=some (.slice e)/\lP P e=true/\bz P src X=some q:=by
 cases ho:o.op with
 |convert src dst X=>
  simp only[bA,ho]at hr;split at hr<;>try (cases hr;done)
  ·split at hr<;>cases hr
  ·split at hr<;>cases hr
  ·rename_i e q' hs hd hX
   split at hr<;>try (cases hr;done)
   rename_i hc;simp only[az,decide_eq_true_eq]at hc;obtain⟨rfl,h8⟩:=hc;cases hr;exact⟨src,X,e,rfl,hd,h8,hX⟩
 |_=>exfalso;exact absurd hr (by
  intro hr;simp only[bA,ho]at hr
  first
   |(cases hr;done)
   |(obtain⟨_,_,h⟩:=ah.1 hr;cases h;done)
   |(repeat' split at hr)<;>first|(cases hr;done)|contradiction|(obtain⟨_,_,h⟩:=ah.1 hr;first|(cases h;done)|(split at h<;>cases h;done)))
theorem F9{o:Oper}{xs:List Arg}(hr:bA P o=some (.newB xs)):False:=by
 cases ho:o.op with
 |buildSlice t len parts=>
  simp only[bA,ho]at hr;split at hr<;>try (cases hr;done)
  split at hr<;>try (cases hr;done)
  split at hr<;>try (cases hr;done)
  obtain⟨_,_,h⟩:=ah.1 hr;split at h<;>cases h
 |_=>
  simp only[bA,ho]at hr
  first
   |(cases hr;done)
   |(obtain⟨_,_,h⟩:=ah.1 hr;cases h;done)
   |(repeat' split at hr)<;>first|(cases hr;done)|contradiction|(obtain⟨_,_,h⟩:=ah.1 hr;first|(cases h;done)|(split at h<;>cases h;done))
theorem DT{o:Oper}{z:List SV}{b:Nat}{q y:Arg}(hr:bA P o=some (.appO z b q y)):False:=by
 cases ho:o.op with
 |buildSlice t len parts=>
  simp only[bA,ho]at hr;split at hr<;>try (cases hr;done)
  split at hr<;>try (cases hr;done)
  split at hr<;>try (cases hr;done)
  obtain⟨_,_,h⟩:=ah.1 hr;split at h<;>cases h
 |_=>
  simp only[bA,ho]at hr
  first
   |(cases hr;done)
   |(obtain⟨_,_,h⟩:=ah.1 hr;cases h;done)
   |(repeat' split at hr)<;>first|(cases hr;done)|contradiction|(obtain⟨_,_,h⟩:=ah.1 hr;first|(cases h;done)|(split at h<;>cases h;done))
theorem xit{ops:Array Oper}{o:Oper}{i:SI}(h:fY P ops o=some i):i.er=i:=by
 obtain⟨h1,_,_⟩:=kL h;obtain⟨d,g,op⟩:=i
 have:op.er=op:=by
  cases op with
  |appO z b q y=>
   rcases h1 with h1|⟨xs,e,_⟩
   ·exact(DT h1).elim
   ·cases e
  |_=>rfl
 show SI.mk d g op.er=_;rw[this]
theorem wM{o:Oper}{q:Arg}(h:M C N c a w)(hr:bA P o=some (.slid q))(hd:∀k,o.dst=some k->k<N)(hc:qW c o.dst (c.ev q)=some c'){K:Act->World->Prop}{Q:Exit->Act->World->Prop}(hK:∀a w,M C N c' a w->K a w):o.wp P a w K Q:=by
 obtain⟨x,s,hM,hS⟩:=h;unfold qW at hc;split at hc<;>try (cases hc;done)
 rename_i o' off n cap hq;unfold oJ at hc;split at hc<;>try (cases hc;done)
 rename_i l hl;split at hc<;>try (cases hc;done)
 rename_i hcond;obtain⟨hb,rfl⟩:=hcond;cases hc;obtain⟨src,X,e,ho,hu,h8,hX⟩:=RB hr;have hv:=aO hM hX;rw[hS.ev,hq]at hv;obtain⟨cp,hnc,hcp,off',hval,hoff⟩:=hv.psl_inv;have hls:s.look o'=some (.bar l):=(hS.look o').trans hl;obtain⟨cc,e',fl,fh,hO,hsz,_⟩:=eU hM hls;have hob:=hM.heap.obs _ (db hls);obtain⟨x',⟨hβ,hτ⟩,hp,s',hM',hS'⟩:=oU hl (fun cs e=>by cases e) hM hS
 have hval':Rep x' (.byt ((l.drop off).take n) .clip) (a.eval X):=by have:=hp _ _ hv;simpa only[SV.pub,if_true,xe,true_and,if_pos hb]using this
 have h1:∀p∈s'.ob,(x'.bk p.1).1≠(x.bk o').1:=by intro p hp' e;rw[hβ]at e;have h2:s'.look p.1=some p.2:=xu hM'.heap.nd hp';rw[hS'.look]at h2;obtain⟨h3,q',h4,_⟩:=kv (i9 h2);have h5:=i5 (i0 hS.inv.so) h4;exact h3 (hM.heap.inj (p.1,q') (db ((hS.look p.1).trans h5)) _ (db hls) e)
 have h2:∀t∈s'.tk,(x'.τ t).1≠(x.bk o').1\/(x'.τ t).2.1=(x'.τ t).2.2:=by intro t ht;rw[hτ];exact hM.heap.tko t ((hS.tk t).2 ((hS'.tk t).1 ht)) _ (db hls)
 have hfr:aP C x' s' a (w.freeze ⟨(x.bk o').1,cc.size,none⟩ 1):=⟨hM'.tm,hM'.defers,hM'.heap.freeze hob.2.1 h1 h2 _ _⟩
 have hrun:(execOp a.eval o).run P w= .ok (.value (a.eval X)) (w.freeze ⟨(x.bk o').1,cc.size,none⟩ 1):=by have hm:(markStringish ⟨(x.bk o').1,off',none⟩).run P w= .ok () (w.freeze ⟨(x.bk o').1,cc.size,none⟩ 1):=eB (e:=e') (by simp only[World.shape?,hO.1]);simp only[execOp,ho,hval,convert,aE,run_underlying hu,ak,beq_self_eq_true,run_underlying (i7 h8),hm,aL]
 refine dk ⟨a.eval X,_,x',_,hrun,.inl rfl,hfr.put o.dst hval'⟩ (k:=Sim N _) ?_ hK;have e1:(c.publish o' []).1=⟨lK o' (.bar l) c.tm,lj o' (.bar l) c.ob,c.tk⟩:=by unfold CSt.publish;rw[hl]
 rw[e1];exact hS'.put hd _
theorem o6{o:Oper}{xs:List Arg}(h:M C N c a w)(hr:bA P o=some (.litB xs))(hd:∀k,o.dst=some k->k<N)(hc:nS c o.dst (toB (evL c xs))=some c'){K:Act->World->Prop}{Q:Exit->Act->World->Prop}(hK:∀a w,M C N c' a w->K a w):o.wp P a w K Q:=by
 obtain⟨x,s,hM,hS⟩:=h;rw[hS.evL]at hc;unfold nS at hc;split at hc<;>try (cases hc;done)
 rename_i k l hk hl;cases hc;obtain⟨t,len,parts,ho⟩:=SJ hr;obtain⟨r,e,hrun,hsz,hcell⟩:=wV hM ho hr hl
 have hM':=hM.newObj (d:=k+100) o.dst (by omega) (.bar l) (val:= .psl (k+100) 1 0 l.length (some l.length)) (u:= .slice (some ⟨w.heap.size,0,none⟩) l.length l.length) (t:=e) hsz (fun i hi=>by
  show cS x.G (.u8 (l.getD i 0)) _;rw[hcell i hi];exact .u8 _) (by
  have:=Rep.psl (x:=x.newO (k+100) w.heap.size) (k+100) 1 0 l.length (some l.length) 0 l.length (.inr rfl) (aQ _) (fun _ e=>by cases e;rfl) (fun e=>by cases e);rwa[jL]at this)
 refine dk ⟨_,_,_,_,hrun,.inl rfl,hM'⟩ (k:=Sim N _) ?_ hK;have:=hS.app hd (e:= {val:= .psl (k+100) 1 0 l.length (some l.length),new:=some (.bar l)}) (f:= {pre:=True,val:= .psl (k+100) 1 0 l.length (some l.length),new:=some (.bar l)}) ⟨rfl,rfl,rfl,rfl,rfl⟩ ⟨fun ob he=>by cases he;rfl,.inl rfl⟩;rw[hk]at this ⊢;exact this
theorem GQ(hM:aP C x s a w)(hS:Sim N c s){g:Nat}{t:Bool}(h:c.get g= .bool t):a.tmps[g]? =some (.bool t):=(GS hM (by rw[hS.get];exact h)).2.1
theorem uO{ops:Array Oper}{o:Oper}{j g:Nat}{b:Bool}(h:o.guard=some (j,b))(hg:(ops[j]?).bind (·.dst)=some g)(ht:∀t,a.tmps[g]? ≠some (.bool t)):Region.wanted o (yielded ops a.tmps)=false:=by
 have hy:yielded ops a.tmps j=none:=by
  unfold yielded;rw[hg,cZ];cases hv:a.tmps[g]? with
  |none=>rfl
  |some v=>
   cases v with
   |bool t=>exact absurd hv (ht t)
   |_=>rfl
 simp only[Region.wanted,h,hy];rfl
theorem vr{x:Sit}:Rep x (.tup []) Go.undef:= .tup [] [] rfl fun i hi=>by simp at hi
theorem GR(hM:aP C x s a w)(hS:Sim N c s){g:Nat}(h:c.get g= .tup []):∀t,a.tmps[g]? ≠some (.bool t):=by
 intro t ht;have h1:=hM.slot g;rw[hS.get,h]at h1
 have h2:a.tmps.getD g Go.undef= .bool t:=by rw[bt,ht];rfl
 replace h1:Rep x (.tup []) (a.tmps.getD g Go.undef):=h1;rw[h2]at h1;cases h1 with
 |dat _ _ h _=>cases h
theorem Hw{o:Oper}{q:Arg}(hr:bA P o=some (.s2b q)):∃src dst X e,o.op= .convert src dst X/\P.underlying src=some .string/\P.underlying dst=some (.slice e)/\lP P e=true/\bz P src X=some q:=by
 cases ho:o.op with
 |convert src dst X=>
  simp only[bA,ho]at hr;split at hr<;>try (cases hr;done)
  ·split at hr<;>cases hr
  ·rename_i e q' hs hd hX
   split at hr<;>try (cases hr;done)
   rename_i h8;cases hr;exact⟨src,dst,X,e,rfl,hs,hd,h8,hX⟩
  ·split at hr<;>cases hr
 |_=>exfalso;exact absurd hr (by
  intro hr;simp only[bA,ho]at hr
  first
   |(cases hr;done)
   |(obtain⟨_,_,h⟩:=ah.1 hr;cases h;done)
   |(repeat' split at hr)<;>first|(cases hr;done)|contradiction|(obtain⟨_,_,h⟩:=ah.1 hr;first|(cases h;done)|(split at h<;>cases h;done)))
theorem xfp{o:Oper}{z:List SV}{b:Nat}{q r:Arg}(hr:bA P o=some (.app z b q r)):∃cl,o.op= .call cl/\cl.callee= .builtin .append:=by
 cases ho:o.op with
 |call cl=>
  refine⟨cl,rfl, ?_⟩;cases hb:cl.callee with
  |builtin bb=>
   cases bb with
   |append=>rfl
   |_=>
    exfalso;simp only[bA,ho,hb]at hr
    first
     |(cases hr;done)
     |(repeat' split at hr)<;>first|(cases hr;done)|contradiction
  |_=>
   exfalso;simp only[bA,ho,hb]at hr
   first
    |(cases hr;done)
    |(repeat' split at hr)<;>first|(cases hr;done)|contradiction
 |_=>exfalso;exact absurd hr (by
  intro hr;simp only[bA,ho]at hr
  first
   |(cases hr;done)
   |(obtain⟨_,_,h⟩:=ah.1 hr;cases h;done)
   |(repeat' split at hr)<;>first|(cases hr;done)|contradiction|(obtain⟨_,_,h⟩:=ah.1 hr;first|(cases h;done)|(split at h<;>cases h;done)))
theorem aP.newObjF(hM:aP C x s a w){d:Nat}(sl:Option Nat)(hd100:100<=d){cv:Array Value}{t:TypeId}{fl fh:Nat}(obj:aG){val:SV}{u:Value}(hf:∀i,i<cv.size->¬(fl<=i/\i<fh))(hs:obj.size<=cv.size)(hr:∀k,k<obj.size->cA x obj k (cv.getD k Go.undef))
 (hmk:obj.arrB=true->¬(fl<=cv.size/\cv.size<fh)) (hv:Rep (x.newO d w.heap.size cv.size) val u) {w':World} (hw:w'.heap=(w.alloc (.cells cv t (fl,fh))).heap) (h1:w'.os=w.os) (h2:w'.tape=w.tape) (h3:w'.output=w.output):
 aP C (x.newO d w.heap.size cv.size) (((s.purge d (d+1)).addO d (obj.purge d (d+1))).put sl val) (a.put sl u) w':=by
 refine aP.put ⟨?_,hM.defers, ?_⟩ sl hv
 ·exact cH.mono (x:=x) (x':=x.newO d w.heap.size cv.size) (lo:=d) (hi:=d+1) (fun _ _ _ h=>h) (Sit.newO_ne x d _) (fun _ _=>rfl) hM.tm
 ·exact da.congr (w:=w.alloc (.cells cv t (fl,fh))) (hM.heap.allocO d hd100 obj hf hs hr (aQ _) hmk) hw h1 h2 h3
theorem aP.drew(hM:aP C x s a w):aP C x s a w.drew:=⟨hM.tm,hM.defers,hM.heap.drew⟩
theorem xj{o:Oper}{q:Arg}(h:M C N c a w)(hr:bA P o=some (.s2b q))(hd:∀k,o.dst=some k->k<N)(hc:Sl c o.dst (c.ev q)=some c'){K:Act->World->Prop}{Q:Exit->Act->World->Prop}(hK:∀a w,M C N c' a w->K a w):o.wp P a w K Q:=by
 obtain⟨x,s,hM,hS⟩:=h;unfold Sl at hc;split at hc<;>try (cases hc;done)
 rename_i k l hk hl;cases hc;obtain⟨src,dst,X,e,ho,hs,hdd,h8,hX⟩:=Hw hr;have he:=i7 h8;have h1:=aO hM hX;rw[hS.ev,hl]at h1;have hf:(Question.appendCap (ByteArray.mk ⟨l⟩).size 0 e).forced=false:=rfl
 obtain⟨cp,hcp,hge⟩:∃cp,(Question.appendCap (ByteArray.mk ⟨l⟩).size 0 e).cut (w.tape w.drawn (Question.appendCap (ByteArray.mk ⟨l⟩).size 0 e))=cp/\l.length<=cp:=by
  refine⟨_,rfl, ?_⟩;simp only[Question.cut];have:(ByteArray.mk ⟨l⟩).size=l.length:=by simp[ByteArray.size]
  omega
 let cs:Array Value:=(ByteArray.mk ⟨l⟩).data.map (fun b=> .int .u8 b.toNat)++dX (cp-(ByteArray.mk ⟨l⟩).size) (.int .u8 0)
 have hsz:(ByteArray.mk ⟨l⟩).size=l.length:=by simp[ByteArray.size]
 have hcs:cs.size=cp:=by simp[cs,hsz];omega
 have hget:∀i,i<l.length->cs[i]? =some (.int .u8 (l.getD i 0).toNat):=by intro i hi;simp only[cs];rw[Array.getElem?_append_left (by simpa using hi)];simp[hi,aa]
 have hrun:(execOp a.eval o).run P w= .ok (.value (.slice (some ⟨w.heap.size,0,none⟩) l.length cp)) ((w.drew.alloc (.cells cs e (0,0))).freeze ⟨w.heap.size,cs.size,none⟩ 1):=by simp only[execOp,ho,h1.str_inv,convert,aE,run_underlying hs,run_underlying hdd,ak,run_underlying he,Conv.stringToBytes,run_choose_drew,hf,aK,if_false,hcp,newRow,run_newObj_alloc,aL];rw[eB (e:=e) (n:=cs.size) (by simp only[World.shape?];rw[dG])];simp only[ak,hsz];rfl
 have hM':=hM.drew.newObjF (d:=k+100) o.dst (by omega) (.bar l) (cv:=cs) (t:=e) (fl:=cs.size) (fh:=cs.size+1) (val:= .psl (k+100) 1 0 l.length none) (u:= .slice (some ⟨w.heap.size,0,none⟩) l.length cp) (fun i hi h=>by omega) (by simp only[aG.size];omega) (fun i hi=>by
  simp only[aG.size]at hi;show cS x.G (.u8 (l.getD i 0)) _;have:cs.getD i Go.undef= .int .u8 (l.getD i 0).toNat:=by rw[bt,hget i hi];rfl
  rw[this];exact .u8 _) (fun h=>by cases h) (by
  have:=Rep.psl (x:=x.newO (k+100) w.drew.heap.size cs.size) (k+100) 1 0 l.length none 0 cp (.inr rfl) hge (fun _ e=>by cases e) (fun _=> .inr (by rw[mF,hcs];omega));rw[jL]at this;exact this) (gG w.drew cs e) rfl rfl rfl
 refine dk ⟨_,_,_,_,hrun,.inl rfl,hM'⟩ (k:=Sim N _) ?_ hK;have:=hS.app hd (e:= {val:= .psl (k+100) 1 0 l.length none,new:=some (.bar l)}) (f:= {pre:=True,val:= .psl (k+100) 1 0 l.length none,new:=some (.bar l)}) ⟨rfl,rfl,rfl,rfl,rfl⟩ ⟨fun ob he=>by cases he;rfl,.inl rfl⟩;rw[hk]at this ⊢;exact this
theorem wD{o:Oper}{q:Arg}(h:M C N c a w)(hr:bA P o=some (.s2b q))(hd:∀k,o.dst=some k->k<N)(hc:Rn c o.dst (c.ev q)=some c'){K:Act->World->Prop}{Q:Exit->Act->World->Prop}(hK:∀a w,M C N c' a w->K a w):o.wp P a w K Q:=by
 obtain⟨x,s,hM,hS⟩:=h;unfold Rn at hc;split at hc<;>try (cases hc;done)
 rename_i k l hk hl;cases hc;obtain⟨src,dst,X,e,ho,hs,hdd,h8,hX⟩:=Hw hr;have he:=i7 h8;have h1:=aO hM hX;rw[hS.ev,hl]at h1;have hf:(Question.appendCap (ByteArray.mk ⟨l⟩).size 0 e).forced=false:=rfl
 obtain⟨cp,hcp,hge⟩:∃cp,(Question.appendCap (ByteArray.mk ⟨l⟩).size 0 e).cut (w.tape w.drawn (Question.appendCap (ByteArray.mk ⟨l⟩).size 0 e))=cp/\l.length<=cp:=by
  refine⟨_,rfl, ?_⟩;simp only[Question.cut];have:(ByteArray.mk ⟨l⟩).size=l.length:=by simp[ByteArray.size]
  omega
 let cs:Array Value:=(ByteArray.mk ⟨l⟩).data.map (fun b=> .int .u8 b.toNat)++dX (cp-(ByteArray.mk ⟨l⟩).size) (.int .u8 0)
 have hsz:(ByteArray.mk ⟨l⟩).size=l.length:=by simp[ByteArray.size]
 have hcs:cs.size=cp:=by simp[cs,hsz];omega
 have hget:∀i,i<l.length->cs[i]? =some (.int .u8 (l.getD i 0).toNat):=by intro i hi;simp only[cs];rw[Array.getElem?_append_left (by simpa using hi)];simp[hi,aa]
 have hrun:(execOp a.eval o).run P w= .ok (.value (.slice (some ⟨w.heap.size,0,none⟩) l.length cp)) ((w.drew.alloc (.cells cs e (0,0))).freeze ⟨w.heap.size,cs.size,none⟩ 1):=by simp only[execOp,ho,h1.str_inv,convert,aE,run_underlying hs,run_underlying hdd,ak,run_underlying he,Conv.stringToBytes,run_choose_drew,hf,aK,if_false,hcp,newRow,run_newObj_alloc,aL];rw[eB (e:=e) (n:=cs.size) (by simp only[World.shape?];rw[dG])];simp only[ak,hsz];rfl
 have hG:∀o,x.G w.heap.size o=none:=by
  intro o;cases hg:x.G w.heap.size o with
  |none=>rfl
  |some v=>exact absurd (hM.heap.ltG hg) (by omega)
 have hle:=hM.heap.newD_le cs l.length;have hH:da C (x.newD w.heap.size cs l.length) s.ob s.tk (w.drew.alloc (.cells cs e (cs.size,cs.size+1))):=hM.heap.drew.allocD l.length;have hown:fj (w.drew.alloc (.cells cs e (cs.size,cs.size+1))) w.heap.size cs e cs.size (cs.size+1):=⟨dG (w:=w.drew),fun i _ h=>by omega⟩
 have hH2:da C ((x.newD w.heap.size cs l.length).newT (k+100) w.heap.size l.length cp) (bH (k+100) (k+100+1) s.ob) ((k+100)::cE (k+100) (k+100+1) s.tk) (w.drew.alloc (.cells cs e (cs.size,cs.size+1))):=by
  refine hH.addT (k+100) w.heap.size _ _ (.inr ⟨⟨cs,e,_,_,hown,by omega⟩,hM.heap.new _ hM.heap.size,fun o h1 h2=> ?_⟩) (.inr fun p hp _=> ?_) (.inr fun u hu _=> ?_)
  ·simp only[Sit.newD];rw[if_neg (by omega)];exact hG o
  ·obtain⟨⟨c2,e2,fl2,fh2,hO2,_⟩,_⟩:=hM.heap.obs p hp
   have:=hO2.lt;show w.heap.size≠(x.bk p.1).1;omega
  ·rcases hM.heap.tks u hu with h|⟨⟨c2,e2,fl2,fh2,hO2,_⟩,_⟩
   ·exact .inr h
   ·have:=hO2.lt
    exact .inl (by show w.heap.size≠(x.τ u).1;omega)
 have hM':aP C ((x.newD w.heap.size cs l.length).newT (k+100) w.heap.size l.length cp) ((s.grew .no (k+100)).put o.dst (.byt l (.id (k+100)))) (a.put o.dst (.slice (some ⟨w.heap.size,0,none⟩) l.length cp)) ((w.drew.alloc (.cells cs e (0,0))).freeze ⟨w.heap.size,cs.size,none⟩ 1):=by
  refine aP.put ⟨?_,hM.defers, ?_⟩ o.dst ?_
  ·exact cH.mono (x:=x) (x':=(x.newD w.heap.size cs l.length).newT (k+100) w.heap.size l.length cp) (lo:=k+100) (hi:=k+100+1) hle (fun _ _=>rfl) (Sit.newT_ne (x.newD w.heap.size cs l.length) (k+100) _ _ _) hM.tm
  ·exact da.congr (w:=w.drew.alloc (.cells cs e (cs.size,cs.size+1))) hH2 (gG w.drew cs e) rfl rfl rfl
  ·refine .dat _ _ (.byt l _ w.heap.size 0 cp l.length rfl hge fun i hi=> ?_) ⟨_,l.length,cp,rfl,.inr ⟨w.heap.size,0,rfl, ?_⟩⟩
   ·show(x.newD w.heap.size cs l.length).G w.heap.size (0+i)=_
    simp only[Sit.newD];rw[if_pos ⟨trivial,by omega⟩,cK];exact hget i hi
   ·rw[Sit.newT_eq,dt,dt,cK,cK]
 refine dk ⟨_,_,_,_,hrun,.inl rfl,hM'⟩ (k:=Sim N _) ?_ hK;have:=hS.app hd (e:= {val:= .byt l (.id (k+100)),tok:=true}) (f:= {pre:=True,val:= .byt l (.id (k+100)),tok:=true}) ⟨rfl,rfl,rfl,rfl,rfl⟩ ⟨fun ob he=>(by cases he),.inl rfl⟩;rw[hk]at this ⊢;exact this
theorem sn(hM:aP C x s a w){t u el:TypeId}{d2:TypeDesc}{n by_:Nat}{zs:List Value}(hd:P.underlying t=some (.slice el))(hu:P.underlying u=some d2)(hu2:(∃e',d2= .slice e')\/d2= .string)(hn:fu P el=some n)(hb:tB P el=some by_)
 (hz:fV P el=some zs) (hb0:by_≠0) (hzl:zs.length=n) {ty:TypeId} {X Y:Value} {fl fl':List SV} {ns:List Value} {len m cap:Nat} (hX:Dj x.G n fl X len cap)
 (hlen:∀w',w'.heap=w.heap->(Builtin.lenOf Y).run P w'= .ok m w') (hcells:∀w',w'.heap=w.heap->(Builtin.firstCells n m Y).run P w'= .ok ns.toArray w') (hnl:ns.length=m*n) (hnew:New x ns fl') (hroom:(len+m)*by_<=140737488355328) (hc:¬len+m<=cap):
 ∃nc cv,len+m<=nc/\(Builtin.append_ #[t,u] ty #[X,Y]).run P w= .ok (.slice (some ⟨w.heap.size,0,none⟩) (len+m) nc) (w.drew.alloc (.cells cv el (0,0)))/\((fl++fl').length<=cv.size/\nc*n<=cv.size)/\∀k,k<(fl++fl').length->cS x.G ((fl++fl').getD k .undef) (cv.getD k Go.undef):=by
 obtain⟨hfl,hlc,hX'⟩:=hX;obtain⟨z,hzc,hzr⟩:=cV hz
 obtain⟨i,hi,hib⟩:∃i,P.info? el=some i/\i.bytes=by_:=by
  unfold tB at hb;cases hi:P.info? el with
  |none=>simp[hi]at hb
  |some i=>simp[hi]at hb;exact⟨i,rfl,hb⟩
 obtain⟨bs,hXe⟩:∃bs,X= .slice bs len cap:=by
  rcases hX' with⟨b,off,rfl,_⟩|⟨⟨a,rfl⟩,rfl,rfl⟩
  ·exact⟨_,rfl⟩
  ·exact⟨_,rfl⟩
 subst hXe;have hfl':fl'.length=m*n:=by rw[hnew.len,hnl]
 obtain⟨os,hos,hosl,hosv⟩:∃os:List Value,(∀w',w'.heap=w.heap->(Builtin.firstCells n len (.slice bs len cap)).run P w'= .ok os.toArray w')/\os.length=fl.length/\∀k,k<fl.length->cS x.G (fl.getD k .undef) (os.getD k Go.undef):=by
  rcases hX' with⟨b,off,he,hr⟩|⟨he,h1,h2⟩
  ·simp only[Value.slice.injEq]at he
   obtain⟨rfl,_⟩:=he;refine⟨(cj (len*n)).map fun k=>(w.cell? ⟨b,off+k,none⟩).getD Go.undef,fun w' hw'=> ?_,by simp[hfl],fun k hk=> ?_⟩
   ·simp only[Builtin.firstCells]
    refine run_loadCells w' _ _ _ fun j hj=> ?_
    rw[dp,dn (w:=w) (by rw[hw'])];obtain⟨v,hv,_⟩:=hr j (by omega);rw[hM.heap.per _ _ _ hv];rfl
   ·obtain⟨v,hv,hrv⟩:=hr k hk
    have:((cj (len*n)).map fun k=>(w.cell? ⟨b,off+k,none⟩).getD Go.undef).getD k Go.undef=v:=by rw[aa];simp[show k<len*n from by omega,hM.heap.per _ _ _ hv]
    rw[this];exact hrv
  ·obtain⟨a,he⟩:=he
   simp only[Value.slice.injEq]at he;obtain⟨rfl,rfl,_⟩:=he;have:fl=[]:=bi.1 (by rw[<-hfl,h1,ly]);subst this;exact⟨[],fun w' _=>by cases bs<;>simp only[Builtin.firstCells,ly]<;>rfl,rfl,fun k hk=>by simp at hk⟩
 obtain⟨nc,hnc,hrun⟩:=j0 (t:=t) (u:=u) (ty:=ty) (Y:=Y) hd hu hu2 hn hi hib hb0 hzr hlen hcells hos hc hroom;refine⟨nc,_,hnc,hrun, ?_,fun k hk=> ?_⟩
 ·have hzs:z.cells.size=n:=by rw[<-aU,hzc];exact hzl
  have e3:len*n+m*n+(nc-(len+m))*n=nc*n:=by rw[<-bI,<-bI];congr 1;omega
  simp only[af,Array.size_append,List.size_toArray,hosl,<-hnew.len,eJ,hzs];omega
 ·have hkl:k<os.length+ns.length:=by rw[hosl,<-hnew.len,<-af];exact hk
  rw[bt,kh os ns _ k hkl]
  by_cases hk1:k<fl.length
  ·have e1:(fl++fl').getD k .undef=fl.getD k .undef:=by simp only[aa,bG hk1]
   have e2:((os++ns)[k]?).getD Go.undef=os.getD k Go.undef:=by simp only[aa,bG (show k<os.length by omega)]
   rw[e1,e2];exact hosv k hk1
  ·have e1:(fl++fl').getD k .undef=fl'.getD (k-fl.length) .undef:=by simp only[aa,bZ (Nat.le_of_not_lt hk1)]
   have e2:((os++ns)[k]?).getD Go.undef=ns.getD (k-fl.length) Go.undef:=by simp only[aa,bZ (show os.length<=k by omega),hosl]
   rw[e1,e2];exact hnew.rep _ (by rw[af]at hk;omega)
theorem kP{n:Nat}{fl:List SV}{X:Value}{len cap:Nat}(hX:Dj x.G n fl X len cap)(hsp:dq x n .clip X):cap=len:=by
 obtain⟨a,k,he⟩:=hsp;obtain⟨_,_,hX'⟩:=hX;rcases hX' with⟨b,off,h,_⟩|⟨h,h1,h2⟩
 ·rw[h]at he;simp only[Value.slice.injEq]at he;omega
 ·omega
theorem nm(o:Nat)(obj:aG):∀l:List (Nat×aG),bH o (o+1) (setO o obj l)=bH o (o+1) l
 |[]=>rfl
 |p::r=>by
  simp only[setO]
  by_cases hp:p.1=o
  ·rw[if_pos hp]
   simp only[bH];rw[if_pos (by omega),if_pos (by omega)]
  ·rw[if_neg hp]
   simp only[bH];rw[if_neg (by omega),if_neg (by omega),nm o obj r]
theorem xg{o:Oper}{z:List SV}{by_ o' sz n:Nat}{r q:Arg}(h:M C N c a w)(hr:bA P o=some (.app z by_ r q))(hd:∀k,o.dst=some k->k<N)(hx:c.ev r= .psl o' sz 0 n none)
 (hc:Pa c z by_ o' sz n o.dst (fN c z.length (.psl o' sz 0 n none)) (fN c z.length (c.ev q))=some c') {K:Act->World->Prop} {Q:Exit->Act->World->Prop} (hK:∀a w,M C N c' a w->K a w):o.wp P a w K Q:=by
 obtain⟨x,s,hM,hS⟩:=h;obtain⟨X,Y,t,u,el,d2,zs,I,hu2,_⟩:=TX hr (.inl rfl) a;have hu2:=hu2 rfl;have h1:=aO hM I.hX;have h2:=aO hM I.hY;rw[hS.ev,hx]at h1;unfold Pa at hc;split at hc<;>try (cases hc;done)
 rename_i k R0 R1 hk hR0 hR1;rw[aN]at hc;obtain⟨⟨rfl,hR0l,hroom⟩,hc⟩:=hc;obtain⟨p0,hR0',hp0⟩:=ko hS hR0;obtain⟨p1,hR1',hp1⟩:=ko hS hR1;rw[<-hS.ev]at hR1';obtain⟨os,g0,n0,s0⟩:=pN (P:=P) hM h1 hR0' hp0;obtain⟨ns,g1,n1,s1⟩:=pN (P:=P) hM h2 hR1' hp1
 obtain⟨xs,hl,hbd,hR0e⟩:∃xs,c.look o'=some (.arr z.length xs)/\n<=xs.length/\R0=xs.take n:=by
  simp only[fN]at hR0;split at hR0
  ·rename_i sz'' xs hl
   obtain⟨⟨_,e1,e2⟩,e3⟩:=bS hR0;exact⟨xs,by rw[hl,<-e1],by omega,by rw[<-e3];rfl⟩
  ·cases hR0
 obtain⟨cp,hncp,off',hXe,hoff,hkk⟩:=h1.psl_invK;have hnl:ns.length=R1.length*z.length:=by rw[<-n1.len,bN g1]
 have hol:os.length=n*z.length:=by rw[<-n0.len,bN g0,hR0l]
 have hls:s.look o'=some (.arr z.length xs):=(hS.look o').trans hl;obtain⟨cc,e,fl,fh,hO,⟨hsz,hsz2,hsz3⟩,hcell⟩:=eU hM hls;have hrows:∀y∈R0++R1,y.length=z.length:=fun y hy=>(al.1 hy).elim (g0 y) (g1 y)
 have hrx:∀y∈xs,y.length=z.length:=hS.rows hl;have hN:=n0.append n1;rw[<-ct]at hN;have hsize:(aG.arr z.length (R0++R1)).size=(n+R1.length)*z.length:=by simp only[aG.size,af,hR0l]
 have hsim:=(hS.purge o' (o'+1)).app (d:=o.dst) hd (e:= {val:= .psl (k+100) z.length 0 (n+R1.length) none,new:=some (.arr z.length (R0++R1))}) (f:= {pre:=True,val:= .psl (k+100) z.length 0 (n+R1.length) none,new:=some (.arr z.length (R0++R1))}) ⟨rfl,rfl,rfl,rfl,rfl⟩ ⟨fun ob he=>by cases he;exact iZ.2 hrows,.inl rfl⟩;have hce:=aw.inj hc;subst hce;have hex:=I.ex;rw[hXe]at hex;have e5:(n+R1.length)*z.length=n*z.length+R1.length*z.length:=bI _ _ _
 by_cases hfit:n+R1.length<=cp
 ·have hfitc:n*z.length+ns.length<=cc.size:=by
   rcases hkk with h0|h0
   ·have h3:n=0:=by omega
    have h4:R1.length=0:=by omega
    rw[hnl,h3,h4];omega
   ·have h3:(n+R1.length)*z.length<=cp*z.length:=bF _ hfit
    rw[hnl];omega
  obtain⟨q1,q2,q3,q4,q5⟩:=fZ ((x.bk o').1) ns w (n*z.length);obtain⟨c2,hO2,hcs,hck⟩:=fC ns w (n*z.length) cc hO hfitc
  have hM1:aP C x (s.setO o' (.arr z.length (R0++R1))) a (cJ w ((x.bk o').1) (n*z.length) ns):=
   ⟨hM.tm,hM.defers,hM.heap.block (db hls) q1 q2 q3 q4 q5 ⟨c2,e,fl,fh,hO2,⟨by rw[hsize,hcs];omega,by rw[hcs];exact hsz2,fun h=>by rw[hcs];exact hsz3 rfl⟩,fun i hi=>by
    rw[hsize]at hi;rw[hck i];have hi2:i<(R0++R1).length*z.length:=by rw[af,hR0l];exact hi
    show cS x.G ((((R0++R1)).getD (i/z.length) []).getD (i % z.length) .undef) _;rw[<-cO _ hrows i hi2,ct];have hfl0:R0.flatten.length=n*z.length:=by rw[bN g0,hR0l]
    by_cases hin:n*z.length<=i
    ·rw[if_pos ⟨hin,by omega⟩]
     have:=n1.rep (i-n*z.length) (by rw[bN g1];omega);rw[aa,bZ (by omega),hfl0,<-aa];exact this
    ·rw[if_neg (fun h=>hin h.1)]
     have hlt:n*z.length<=xs.length*z.length:=bF _ hbd;have h3:=hcell i (by simp only[aG.size];omega);change cS x.G ((xs.getD (i/z.length) []).getD (i % z.length) .undef) _ at h3;rw[<-cO xs hrx i (by omega)]at h3;rw[aa,bG (by omega),hR0e]
     have e6:xs.flatten[i]? =(xs.take n).flatten[i]? :=by
      have:xs.flatten=(xs.take n).flatten++(xs.drop n).flatten:=by rw[<-ct,ki]
      rw[this,bG (by rw[<-hR0e];omega)]
     rw[<-e6,<-aa];exact h3⟩⟩
  have hM2:=hM1.move (d:=k+100) (by omega) (obj:= .arr z.length (R0++R1)) (by show(setO o' _ s.ob).lookup o'=_;have h3:s.ob.lookup o'=some (.arr z.length xs):=hls;rw[kb,if_pos ⟨rfl,by rw[h3];rfl⟩]) (fun cs e=>by cases e)
  have hpe:(s.setO o' (.arr z.length (R0++R1))).purge o' (o'+1)=s.purge o' (o'+1):=by simp only[St.purge,St.setO,nm]
  rw[hpe]at hM2;have hd2:(x.newO (k+100) (x.bk o').1 (x.bk o').2).bk (k+100)=x.bk o':=if_pos rfl
  have hv:Rep (x.newO (k+100) (x.bk o').1 (x.bk o').2) (.psl (k+100) z.length 0 (n+R1.length) none) (.slice (some ⟨(x.bk o').1,off',none⟩) (n+R1.length) cp):=by have:=Rep.psl (x:=x.newO (k+100) (x.bk o').1 (x.bk o').2) (k+100) z.length 0 (n+R1.length) none off' cp hoff hfit (fun _ e=>by cases e) (fun _=>by rw[hd2];exact hkk);rw[hd2]at this;exact this
  have hM3:=hM2.put o.dst hv
  have hrun:=ic (P:=P) (t:=t) (u:=u) (ty:=o.type) (Y:=a.eval Y) (bs:=some ⟨(x.bk o').1,off',none⟩) (len:=n) (m:=R1.length) (cap:=cp) (w1:=cJ w ((x.bk o').1) (n*z.length) ns) I.hd I.hu hu2 I.hn (s1.len w rfl) (s1.cells w rfl) hfit (by
   simp only[dp]
   by_cases hc0:cp=0
   ·have:ns=[]:=bi.1 (by
     rw[hnl];have:R1.length=0:=by omega
     rw[this,ly])
    rw[this];simp[storeCells,cJ]
   ·rw[hoff.resolve_left hc0,ly,cK]
    exact fA (n*z.length) ns w cc 0 hO (by omega) n1.one)
  refine dk ⟨_,_,_,.value _, ?_,.inl rfl,hM3⟩ (k:=Sim N _) ?_ hK
  ·rw[hex];simp only[aE,hrun,ak,aL]
  ·rw[hk]at hsim ⊢
   exact hsim
 ·obtain⟨i,hi,hib⟩:=EA I.hby
  obtain⟨zv,hzc,hzr⟩:=cV I.hz
  obtain⟨nc,hnc,hrun⟩:=j0 (P:=P) (t:=t) (u:=u) (ty:=o.type) (Y:=a.eval Y) (bs:=some ⟨(x.bk o').1,off',none⟩) (len:=n) (m:=R1.length) (cap:=cp) (os:=os) (ns:=ns) I.hd I.hu hu2 I.hn hi hib I.hb0 hzr s1.len s1.cells (by have:=s0.cells;rw[hXe,hR0l]at this;exact this) hfit hroom
  have hzs:zv.cells.size=z.length:=by rw[<-aU,hzc];exact I.hzl.symm
  have hcvs:(os.toArray++ns.toArray++Builtin.zeroCells zv.cells (nc-(n+R1.length))).size=nc*z.length:=by simp only[Array.size_append,List.size_toArray,eJ,hzs,hol,hnl];rw[<-bI,<-bI];congr 1;omega
  have hM':=(hM.purge o' (o'+1)).drew.newObjF (d:=k+100) o.dst (by omega) (.arr z.length (R0++R1)) (cv:=os.toArray++ns.toArray++Builtin.zeroCells zv.cells (nc-(n+R1.length))) (t:=el) (fl:=0) (fh:=0) (val:= .psl (k+100) z.length 0 (n+R1.length) none) (u:= .slice (some ⟨w.heap.size,0,none⟩) (n+R1.length) nc) (fun i hi h=>by omega) (by
   rw[hsize,hcvs];exact bF _ hnc) (fun i hi=>by
   rw[hsize]at hi;have h3:=EB hrows hN i (by rw[af,hR0l];exact hi)
   have e7:(os.toArray++ns.toArray++Builtin.zeroCells zv.cells (nc-(n+R1.length))).getD i Go.undef=(⟨os++ns⟩:Array Value).getD i Go.undef:=by rw[bt,kh os ns _ i (by rw[hol,hnl];omega),bt];simp
   rw[e7];exact h3) (fun _ h=>by omega) (by
   have:=Rep.psl (x:=x.newO (k+100) w.drew.heap.size (os.toArray++ns.toArray++Builtin.zeroCells zv.cells (nc-(n+R1.length))).size) (k+100) z.length 0 (n+R1.length) none 0 nc (.inr (by omega)) hnc (fun _ e=>by cases e) (fun _=> .inr (by rw[mF,hcvs];omega));rw[jL]at this;exact this) (w':=w.drew.alloc (.cells (os.toArray++ns.toArray++Builtin.zeroCells zv.cells (nc-(n+R1.length))) el (0,0))) rfl rfl rfl rfl
  refine dk ⟨_,_,_,.value _, ?_,.inl rfl,hM'⟩ (k:=Sim N _) ?_ hK
  ·rw[hex];simp only[aE,hrun,ak,aL]
  ·rw[hk]at hsim ⊢
   exact hsim
theorem oY{o:Oper}{z:List SV}{by_:Nat}{r q:Arg}(h:M C N c a w)(hr:bA P o=some (.app z by_ r q))(hd:∀k,o.dst=some k->k<N)(hc:rG c o.dst z by_ q (c.ev r)=some c'){K:Act->World->Prop}{Q:Exit->Act->World->Prop}(hK:∀a w,M C N c' a w->K a w):o.wp P a w K Q:=by
 by_cases hpsl:∃o' sz n,c.ev r= .psl o' sz 0 n none
 ·obtain⟨o',sz,n,hx⟩:=hpsl
  rw[hx]at hc;exact xg h hr hd hx hc hK
 obtain⟨x,s,hM,hS⟩:=h;obtain⟨cl,ho,hb⟩:=xfp hr;simp only[bA,ho,hb]at hr;split at hr<;>try (cases hr;done)
 rename_i X Y t u hX ht;split at hr<;>try (cases hr;done)
 rename_i el d2 r' q' hdd hu hra hrb;split at hr<;>try (cases hr;done)
 rename_i n by' z' hn hby hz
 rw[aN]at hr;obtain⟨hcond,hr⟩:=hr;simp only[az,decide_eq_true_eq]at hcond;obtain⟨⟨hb0,hn0⟩,hzl'⟩:=hcond;obtain⟨zs,hzc,hzl0,_⟩:=jd hz;have hzl:zs.length=n:=by omega
 obtain⟨hu2,rfl,rfl,rfl,rfl⟩:((∃e',d2= .slice e')\/d2= .string)/\z'=z/\by'=by_/\r'=r/\q'=q:=by
  split at hr<;>try (cases hr;done)
  ·cases hr;exact⟨.inl ⟨_,rfl⟩,rfl,rfl,rfl,rfl⟩
  ·rw[aN]at hr
   obtain⟨_,hr⟩:=hr;cases hr;exact⟨.inr rfl,rfl,rfl,rfl,rfl⟩
 have h1:=aO hM hra;have h2:=aO hM hrb;have ea:cl.args= #[X,Y]:=by apply dR;simpa using hX
 have et:cl.argTypes= #[t,u]:=by apply dR;simpa using ht
 have hex:=fK (a:=a) ho hb _ rfl;rw[ea,et]at hex;have em: #[X,Y].map a.eval= #[a.eval X,a.eval Y]:=by simp
 rw[em]at hex
 have hex':∀{v w'},(Builtin.append_ #[t,u] o.type #[a.eval X,a.eval Y]).run P w= .ok v w'->(execOp a.eval o).run P w= .ok (.value v) w':=by intro v w' hrun;rw[hex];simp[hrun]
 rw[hS.ev]at h1
 have fin:∀{k nc cv}(obj:aG)(sz m:Nat),o.dst=some k->m<=nc->(Builtin.append_ #[t,u] o.type #[a.eval X,a.eval Y]).run P w= .ok (.slice (some ⟨w.heap.size,0,none⟩) m nc) (w.drew.alloc (.cells cv el (0,0)))->
  obj.size<=cv.size->nc*sz<=cv.size->(∀i,i<obj.size->cA x obj i (cv.getD i Go.undef))->obj.wf=true->c'=c.app (some k) {val:= .psl (k+100) sz 0 m none,new:=some obj}->o.wp P a w K Q:=by
  intro k nc cv obj sz m hk hnc hrun hsz hncs hcell hwf hce;subst hce
  have hM':=hM.drew.newObjF (d:=k+100) o.dst (by omega) obj (cv:=cv) (t:=el) (fl:=0) (fh:=0) (val:= .psl (k+100) sz 0 m none) (u:= .slice (some ⟨w.heap.size,0,none⟩) m nc) (fun i hi h=>by omega) hsz hcell (fun _ h=>by omega) (by have:=Rep.psl (x:=x.newO (k+100) w.drew.heap.size cv.size) (k+100) sz 0 m none 0 nc (.inr (by omega)) hnc (fun _ e=>by cases e) (fun _=> .inr (by rw[mF];omega));rw[jL]at this;exact this) (w':=w.drew.alloc (.cells cv el (0,0))) rfl rfl rfl rfl
  refine dk ⟨_,_,_,_,hex' hrun,.inl rfl,hM'⟩ (k:=Sim N _) ?_ hK;have:=hS.app hd (e:= {val:= .psl (k+100) sz 0 m none,new:=some obj}) (f:= {pre:=True,val:= .psl (k+100) sz 0 m none,new:=some obj}) ⟨rfl,rfl,rfl,rfl,rfl⟩ ⟨fun ob he=>by cases he;exact hwf,.inl rfl⟩;rw[hk]at this ⊢;exact this
 unfold rG at hc;split at hc<;>try (cases hc;done)
 ·rename_i l tk hl
  rw[aN]at hc;obtain⟨rfl,hc⟩:=hc;unfold Sk at hc;split at hc<;>try (cases hc;done)
  rename_i k l' hk hl';split at hc<;>try (cases hc;done)
  rename_i hz1;have hz1:z'.length=1:=Classical.not_not.1 hz1;obtain rfl:n=1:=by omega
  obtain⟨p,hl'',hp0⟩:=nh hS hl';rw[<-hS.ev]at hl'';rw[hl]at h1;obtain⟨g1,g2⟩:=iJ (P:=P) hM h2 hl'' hp0;obtain⟨_,_,_,_,_,hsp⟩:=h1.byt_inv;obtain⟨cap,hF,_⟩:=vU (h1.data rfl)
  by_cases hne:l'=[]
  ·rw[if_pos hne]at hc
   cases hc;subst hne
   obtain⟨bs,hXe⟩:∃bs,a.eval X= .slice bs l.length cap:=by
    rcases hF.2.2 with⟨b,off,h,_⟩|⟨h,h1,h2⟩
    ·exact⟨_,h⟩
    ·exact⟨_,by rw[h.choose_spec,h1,h2]⟩
   have hcap:=kP hF hsp;rw[hXe]at h1 hex'
   have hrun:=ic (P:=P) (t:=t) (u:=u) (ty:=o.type) (Y:=a.eval Y) (ns:=[]) (w:=w) (w1:=w) (m:=0) (bs:=bs) (len:=l.length) (cap:=cap) hdd hu hu2 hn (g1 w rfl) (by have:=g2 0 (aQ _) w rfl;simpa using this) (by omega) (by cases bs<;>rfl)
   refine dk ⟨_,_,_,_,hex' hrun,.inl rfl,hM.put o.dst h1⟩ (k:=Sim N _) ?_ hK;have:=hS.put hd (.byt l .clip);rw[hk]at this ⊢;exact this
  ·rw[if_neg hne]at hc
   rw[aN]at hc;obtain⟨⟨rfl,hroom⟩,hc⟩:=hc;have hcap:=kP hF hsp;have hpos:0<l'.length:=List.length_pos_iff.2 hne
   obtain⟨nc,cv,hnc,hrun,hsz,hcell⟩:=sn (ty:=o.type) hM hdd hu hu2 hn hby hzc hb0 hzl hF g1 (fun w' hw'=>by have:=g2 l'.length (aQ _) w' hw';rwa[bv]at this) (by simp) (rJ l') (by omega) (by omega)
   refine fin (.bar (l++l')) 1 _ hk hnc hrun (by simp only[aG.size];simpa using hsz.1) hsz.2 (fun i hi=> ?_) rfl (aw.inj hc).symm;simp only[aG.size]at hi;have:=hcell i (by simpa using hi);rw[<-cn,iz _ _ hi]at this;exact this
 ·rename_i sz l tk hl
  rw[aN]at hc;obtain⟨rfl,hc⟩:=hc;unfold Sj at hc;split at hc<;>try (cases hc;done)
  rename_i k l' hk hl';obtain⟨p,hl'',hp0⟩:=ko hS hl';rw[<-hS.ev]at hl'';rw[hl]at h1;obtain⟨hrows',g1,ns,hnew,g2⟩:=gU (P:=P) hM h2 hl'' hp0;obtain⟨_,_,_,_,_,hsp⟩:=h1.lst_inv;obtain⟨cap,hF,_,hrows⟩:=qb (h1.data rfl)
  by_cases hne:l'=[]
  ·rw[if_pos hne]at hc
   cases hc;subst hne
   obtain⟨bs,hXe⟩:∃bs,a.eval X= .slice bs l.length cap:=by
    rcases hF.2.2 with⟨b,off,h,_⟩|⟨h,h1,h2⟩
    ·exact⟨_,h⟩
    ·exact⟨_,by rw[h.choose_spec,h1,h2]⟩
   have hcap:=kP hF hsp;rw[hXe]at h1 hex'
   have hrun:=ic (P:=P) (t:=t) (u:=u) (ty:=o.type) (Y:=a.eval Y) (ns:=[]) (w:=w) (w1:=w) (m:=0) (bs:=bs) (len:=l.length) (cap:=cap) hdd hu hu2 hn (g1 w rfl) (by have:=g2 0 (aQ _) w rfl;rw[hzl']at this;simpa using this) (by omega) (by cases bs<;>rfl)
   refine dk ⟨_,_,_,_,hex' hrun,.inl rfl,hM.put o.dst h1⟩ (k:=Sim N _) ?_ hK;have:=hS.put hd (.lst sz l .clip);rw[hk]at this ⊢;exact this
  ·rw[if_neg hne]at hc
   rw[aN]at hc;obtain⟨⟨rfl,hroom⟩,hc⟩:=hc;obtain rfl:n=z'.length:=by omega
   have hcap:=kP hF hsp;have hpos:0<l'.length:=List.length_pos_iff.2 hne;have hnl:ns.length=l'.length*z'.length:=by rw[<-hnew.len,bN hrows']
   obtain⟨nc,cv,hnc,hrun,hsz,hcell⟩:=sn (ty:=o.type) hM hdd hu hu2 hn hby hzc hb0 hzl hF g1 (fun w' hw'=>by have:=g2 l'.length (aQ _) w' hw';rwa[<-hnl,bv]at this) hnl hnew hroom (by omega)
   have hrows2:∀y∈l++l',y.length=z'.length:=fun y hy=>(al.1 hy).elim (hrows y) (hrows' y)
   have hlen2:(l++l').length*z'.length=(l.flatten++l'.flatten).length:=by rw[<-ct,bN hrows2]
   refine fin (.arr z'.length (l++l')) z'.length _ hk hnc hrun (by simp only[aG.size];omega) hsz.2 (fun i hi=> ?_) (iZ.2 hrows2) (aw.inj hc).symm;simp only[aG.size]at hi;have:=hcell i (by omega);rw[<-ct,cO _ hrows2 i hi]at this;exact this
 ·rename_i o' sz n hl
  exact absurd ⟨o',sz,n,hl⟩ hpsl
theorem rH(hcal:gq P call){o:Oper}{so:SOp}(h:M C N c a w)(hr0:rj P o so.er)(hd:∀k,o.dst=some k->k<N)(hc:opC call sg c o.dst so=some c'){K:Act->World->Prop}{Q:Exit->Act->World->Prop}(hK:∀a w,M C N c' a w->K a w):o.wp P a w K Q:=by
 by_cases hao:∃z b q y,so= .appO z b q y
 ·obtain⟨z,b,q,y,rfl⟩:=hao
  exact oY h (hr0.old (by intro xs e;cases e)) hd hc hK
 have her:so.er=so:=by cases so<;>first|rfl|exact absurd ⟨_,_,_,_,rfl⟩ hao
 rw[her]at hr0
 by_cases hnb:∃xs,so= .newB xs
 ·obtain⟨xs,rfl⟩:=hnb
  rcases hr0 with hr|⟨ys,e,hr⟩
  ·exact(F9 hr).elim
  ·cases e
   exact o6 h hr hd hc hK
 have hr:=hr0.old fun xs e=>hnb ⟨xs,e⟩
 by_cases hsl:∃q,so= .slid q
 ·obtain⟨q,rfl⟩:=hsl
  exact wM h hr hd hc hK
 by_cases hcl:∃f as,so= .call f as
 ·obtain⟨f,as,rfl⟩:=hcl
  simp only[opC]at hc;split at hc<;>try (cases hc;done)
  rename_i g c1 c2 hg;obtain⟨x,s,hM,hS⟩:=h;obtain⟨cl,F,ho,hb,h1,h2,h3⟩:=Hg hr;obtain⟨as',os',k',q',hq'⟩:=xN hc;have hcb:eF P g=true:=(hcal _ _ _ _ _ hq').1;obtain⟨vs,hrun,hvs⟩:=Em hM ho hb h1 h2 h3 (by rw[hS.ev];exact hg) hcb;rw[<-hS.evL]at hvs;exact uM hrun (u9 hM hS hd (hcal g) hc hvs) hK
 ·refine xgy h hr hd ?_ hK
  cases so with
  |call f as=>exact absurd ⟨f,as,rfl⟩ hcl
  |newB xs=>exact absurd ⟨xs,rfl⟩ hnb
  |slid q=>exact absurd ⟨q,rfl⟩ hsl
  |appO z b q y=>exact absurd ⟨_,_,_,_,rfl⟩ hao
  |_=>exact hc
theorem xh{o:Oper}{sz:Nat}{xs:List Arg}(h:M C N c a w)(hr:bA P o=some (.lit sz xs))(hd:∀k,o.dst=some k->k<N)(hc:Si c sz o.dst (rows sz (evL c xs))=some c'){K:Act->World->Prop}{Q:Exit->Act->World->Prop}(hK:∀a w,M C N c' a w->K a w):o.wp P a w K Q:=by
 obtain⟨x,s,hM,hS⟩:=h;rw[hS.evL]at hc;unfold Si at hc;split at hc<;>try (cases hc;done)
 rename_i k l hk hl;cases hc
 obtain⟨t,len,parts,ho⟩:∃t len parts,o.op= .buildSlice t len parts:=by
  cases ho:o.op with
  |buildSlice t len parts=>exact⟨t,len,parts,rfl⟩
  |_=>exfalso;exact absurd hr (by
   intro hr;simp only[bA,ho]at hr
   first
    |(cases hr;done)
    |(obtain⟨_,_,h⟩:=ah.1 hr;cases h;done)
    |(repeat' split at hr)<;>first|(cases hr;done)|contradiction|(obtain⟨_,_,h⟩:=ah.1 hr;first|(cases h;done)|(split at h<;>cases h;done)))
 obtain⟨r,e,hrun,hsz,hrows,hcell⟩:=wU hM ho hr hl
 have hM':=hM.newObj (d:=k+100) o.dst (by omega) (.arr sz l) (val:= .psl (k+100) sz 0 l.length (some l.length)) (u:= .slice (some ⟨w.heap.size,0,none⟩) l.length l.length) (t:=e) (by simp only[aG.size];omega) (fun i hi=>hcell i hi) (by have:=Rep.psl (x:=x.newO (k+100) w.heap.size) (k+100) sz 0 l.length (some l.length) 0 l.length (.inr (by omega)) (aQ _) (fun _ e=>by cases e;rfl) (fun e=>by cases e);rwa[jL]at this)
 refine dk ⟨_,_,_,_,hrun,.inl rfl,hM'⟩ (k:=Sim N _) ?_ hK;have:=hS.app hd (e:= {val:= .psl (k+100) sz 0 l.length (some l.length),new:=some (.arr sz l)}) (f:= {pre:=True,val:= .psl (k+100) sz 0 l.length (some l.length),new:=some (.arr sz l)}) ⟨rfl,rfl,rfl,rfl,rfl⟩ ⟨fun ob he=>by cases he;exact iZ.2 hrows,.inl rfl⟩;rw[hk]at this ⊢;exact this
theorem xf{ops:Array Oper}{n:Nat}{o:Oper}{i:SI}(h:M C N c a w)(hi:i.ok N=true)(ho:ops[n]? =some o)(hr:fY P ops o=some i)(hc:s6 c i=some c'){K:Act->World->Prop}{Q:Exit->Act->World->Prop}
 (hK:∀a w,M C N c' a w->K a w):wpOp P ops Q n K a w:=by
 obtain⟨h1,h2,h3⟩:=kL hr
 have hd:∀k,i.dst=some k->k<N:=by intro k hk;unfold SI.ok at hi;rw[hk]at hi;simpa using hi
 unfold wpOp;rw[ho];simp only;unfold s6 at hc;split at hc<;>try (cases hc;done)
 rename_i hg;rcases h3 with⟨_,hog⟩|⟨j,b,g,hg',_⟩
 ·rw[jY hog,if_pos rfl]
  rw[h2]at hc hd;left;unfold xkI at hc;split at hc<;>try (cases hc;done)
  ·rename_i sz xs hq
   exact xh h (h1.old (fun xs e=>by rw[e]at hq;cases hq)|>fun e=>by rw[hq]at e;exact e) hd hc hK
  ·rename_i xs hq
   exact o6 h (h1.old (fun xs e=>by rw[e]at hq;cases hq)|>fun e=>by rw[hq]at e;exact e) hd hc hK
  ·rename_i q hq
   exact xj h (h1.old (fun xs e=>by rw[e]at hq;cases hq)|>fun e=>by rw[hq]at e;exact e) hd hc hK
  ·rename_i z by_ q y hq
   exact oY h (h1.old (fun xs e=>by rw[e]at hq;cases hq)|>fun e=>by rw[hq]at e;exact e) hd hc hK
 ·rw[hg]at hg';cases hg'
theorem wC{ops:Array Oper}{n:Nat}{o:Oper}{i:SI}(h:M C N c a w)(hi:i.ok N=true)(ho:ops[n]? =some o)(hr:fY P ops o=some i)(hc:Ar c i=some c'){K:Act->World->Prop}{Q:Exit->Act->World->Prop}
 (hK:∀a w,M C N c' a w->K a w):wpOp P ops Q n K a w:=by
 obtain⟨h1,h2,h3⟩:=kL hr
 have hd:∀k,i.dst=some k->k<N:=by intro k hk;unfold SI.ok at hi;rw[hk]at hi;simpa using hi
 unfold wpOp;rw[ho];simp only;unfold Ar at hc;split at hc<;>try (cases hc;done)
 rename_i hg;rcases h3 with⟨_,hog⟩|⟨j,b,g,hg',_⟩
 ·rw[jY hog,if_pos rfl]
  rw[h2]at hc hd;left;unfold xjJ at hc;split at hc<;>try (cases hc;done)
  ·rename_i q hq
   exact wD h (h1.old (fun xs e=>by rw[e]at hq;cases hq)|>fun e=>by rw[hq]at e;exact e) hd hc hK
 ·rw[hg]at hg';cases hg'
theorem gy(hcal:gq P call){ops:Array Oper}{n:Nat}{o:Oper}{i:SI}(h:M C N c a w)(hi:i.ok N=true)(ho:ops[n]? =some o)(hr:fY P ops o=some i.er)(hc:dJ call sg c i=some c'){K:Act->World->Prop}{Q:Exit->Act->World->Prop}
 (hK:∀a w,M C N c' a w->K a w):wpOp P ops Q n K a w:=by
 obtain⟨h1,h2,h3⟩:=kL hr;change rj P o i.op.er at h1;change i.dst=o.dst at h2;change (i.g=none/\o.guard=none\/∃j b g,i.g=some (g,b)/\o.guard=some (j,b)/\(ops[j]?).bind (·.dst)=some g)at h3
 have hd:∀k,i.dst=some k->k<N:=by intro k hk;unfold SI.ok at hi;rw[hk]at hi;simpa using hi
 unfold wpOp;rw[ho];simp only;unfold dJ at hc;rcases h3 with⟨hg,hog⟩|⟨j,b,g,hg,hog,hdg⟩
 ·rw[hg]at hc
  rw[jY hog,if_pos rfl];rw[h2]at hc hd;exact .inl (rH hcal h h1 hd hc hK)
 ·rw[hg]at hc
  simp only at hc;split at hc<;>try (cases hc;done)
  rotate_left
  ·rename_i ht
   cases hc;obtain⟨x,s,hM,hS⟩:=h;rw[uO hog hdg (GR hM hS ht),if_neg (by simp)];rw[h2]at hd;rw[h2]at hK;exact hK _ _ ⟨x,_,hM.put o.dst vr,hS.put hd _⟩
  rename_i t ht;have hv:a.tmps[g]? =some (.bool t):=by obtain⟨x,s,hM,hS⟩:=h;exact GQ hM hS ht
  rw[uN hog hdg hv];split at hc
  ·rename_i htb
   subst htb;rw[if_pos (by simp)];rw[h2]at hc hd;exact .inl (rH hcal h h1 hd hc hK)
  ·rename_i htb
   cases hc;rw[if_neg (by simpa using htb)];obtain⟨x,s,hM,hS⟩:=h;rw[h2]at hd;rw[h2]at hK;exact hK _ _ ⟨x,_,hM.put o.dst vr,hS.put hd _⟩
theorem jb(hcal:gq P call){ops:Array Oper}{n:Nat}{o:Oper}{i:SI}(h:M C N c a w)(hi:i.ok N=true)(ho:ops[n]? =some o)(hr:fY P ops o=some i)(hc:dJ call sg c i=some c'){K:Act->World->Prop}{Q:Exit->Act->World->Prop}
 (hK:∀a w,M C N c' a w->K a w):wpOp P ops Q n K a w:=gy hcal h hi ho (by rw[xit hr];exact hr) hc hK
theorem gL{d:Option Nat}{g:Nat}{t:Bool}{v:SV}(hd:d≠some g)(h:c.get g= .bool t):(c.put d v).get g= .bool t:=by
 cases d with
 |none=>exact h
 |some k=>rw[gP,if_neg (fun e=>hd (by rw[e]))];exact h
theorem D6{d:Option Nat}{g:Nat}{u v:SV}(hd:d≠some g)(h:c.get g=u):(c.put d v).get g=u:=by
 cases d with
 |none=>exact h
 |some k=>rw[gP,if_neg (fun e=>hd (by rw[e]))];exact h
theorem jp{g lo hi:Nat}{t:Bool}{l:List (Nat×SV)}(h:eE l g= .bool t):eE (dl lo hi l) g= .bool t:=by rw[gj,h];rfl
theorem kx{d:Option Nat}{g:Nat}{t:Bool}{e:ov}(hd:d≠some g)(h:c.get g= .bool t):(c.app d e).get g= .bool t:=by
 have wr:∀(l:List (Nat×aG))(c:CSt),(c.wr l).tm=c.tm:=by
  intro l;induction l with
  |nil=>intro c;rfl
  |cons p r ih=>intro c;simp only[CSt.wr];rw[ih]
 unfold CSt.app;split
 ·exact gL (c:=⟨_,_,_⟩) hd (jp h)
 ·exact gL (c:=⟨_,_,_⟩) hd (jp h)
 ·refine gL hd ?_
  show eE (c.wr e.wr).tm g=_;rw[wr];exact h
theorem pb{d:Option Nat}{g:Nat}{t:Bool}{m mt:List Nat}{q:eA}(hd:d≠some g)(h:c.get g= .bool t):(jP c d m mt q).get g= .bool t:=gL (c:=⟨_,_,_⟩) hd (jp h)
theorem lO{g o:Nat}{t:Bool}{vs:List SV}(h:c.get g= .bool t):(c.publish o vs).1.get g= .bool t:=by
 have k:∀obj,eE (lK o obj c.tm) g= .bool t:=fun obj=>by rw[kz];have:eE c.tm g= .bool t:=h;rw[this];rfl
 unfold CSt.publish;split
 ·exact k _
 ·exact k _
 ·exact h
theorem nu{g:Nat}{t:Bool}:∀{l:List Nat}{c:CSt}{vs:List SV},c.get g= .bool t->(eP c vs l).1.get g= .bool t
 |[],_,_,h=>h
 |o::r,c,vs,h=>by show(eP (c.publish o vs).1 (c.publish o vs).2 r).1.get g=_;exact nu (lO h)
theorem D8{sg:Sig}{d:Option Nat}{g n:Nat}{as:List SV}{t:Bool}(hc:ik call sg c d n as=some c')(hd:d≠some g)(h:c.get g= .bool t):c'.get g= .bool t:=by
 unfold ik at hc;generalize ((SV.idsL as).isEmpty&&sg.own.isEmpty)=b at hc;cases b with
 |true=>
  simp only[jO]at hc;cases hq:call n (SV.bareL as) [] 0 with
  |none=>rw[hq]at hc;cases hc
  |some q=>
   rw[hq]at hc;simp only[mr]at hc;cases hb:q.bare with
   |true=>rw[hb]at hc;cases hc;exact gL hd h
   |false=>
    rw[hb]at hc;simp only[nU]at hc;cases hs:q.small with
    |true=>rw[hs]at hc;cases hc;exact pb hd h
    |false=>rw[hs]at hc;cases hc
 |false=>
  simp only[jO]at hc;have hk:=nu (l:=iS sg.raw 0 as) (vs:=as) h;generalize eP c as (iS sg.raw 0 as)=z at hc hk;obtain⟨c1,as1⟩:=z;simp only[jF]at hc;generalize jT c1.tk sg.own 50 0 as1=z at hc;obtain⟨as2,mt1⟩:=z;simp only[nN]at hc;generalize dL c1 60 [] (SV.idsL as2)=m at hc;cases ho:gF c1 m with
  |none=>rw[ho]at hc;cases hc
  |some os0=>
   rw[ho]at hc;simp only[lA]at hc;generalize dZ c1.tk (50+mt1.length) os0=z at hc;obtain⟨os,mt2⟩:=z;simp only[nM]at hc;generalize (oC (SV.idsL as2++fJ os) m&&dy m&&dy (cD (mt1++mt2))&&decide (m.length<=40)&&m.all fun o=> !inR (d.getD 0) o)=b at hc;cases b with
   |false=>cases hc
   |true=>
    simp only[nL]at hc;cases hq:call n (SV.renL (gM m) id as2) (ee (gM m) id os) (mt1.length+mt2.length)with
    |none=>rw[hq]at hc;cases hc
    |some q=>
     rw[hq]at hc;simp only[oI]at hc;cases hs:q.small with
     |true=>rw[hs]at hc;cases hc;exact pb hd hk
     |false=>rw[hs]at hc;cases hc
theorem D7{d:Option Nat}{g:Nat}{z:List SV}{b:Nat}{y:Arg}{v:SV}{t:Bool}(hc:rG c d z b y v=some c')(hd:d≠some g)(h:c.get g= .bool t):c'.get g= .bool t:=by
 unfold rG at hc;split at hc<;>try (cases hc;done)
 ·split at hc<;>try (cases hc;done)
  unfold Sk at hc;split at hc<;>try (cases hc;done)
  split at hc<;>try (cases hc;done)
  split at hc
  ·cases hc;exact gL hd h
  ·split at hc<;>try (cases hc;done)
   cases hc;exact kx hd h
 ·split at hc<;>try (cases hc;done)
  unfold Sj at hc;split at hc<;>try (cases hc;done)
  split at hc
  ·cases hc;exact gL hd h
  ·split at hc<;>try (cases hc;done)
   cases hc;exact kx hd h
 ·unfold Pa at hc
  split at hc<;>try (cases hc;done)
  split at hc<;>try (cases hc;done)
  cases hc;exact kx hd (jp h)
theorem SK{d:Option Nat}{g:Nat}{o:SOp}{t:Bool}(hc:opC call sg c d o=some c')(hd:d≠some g)(h:c.get g= .bool t):c'.get g= .bool t:=by
 have e:nz c d (dT c d o)=some c'->c'.get g= .bool t:=by
  intro hc;cases he:dT c d o with
  |none=>rw[he]at hc;cases hc
  |some e=>rw[he]at hc;cases hc;exact kx hd h
 cases o with
 |call f as=>
  simp only[opC]at hc;split at hc<;>try (cases hc;done)
  exact D8 hc hd h
 |appO z b q y=>exact D7 hc hd h
 |newB xs=>
  simp only[opC]at hc;unfold nS at hc;split at hc<;>try (cases hc;done)
  cases hc;exact kx hd h
 |slid q=>
  simp only[opC]at hc;unfold qW at hc;split at hc<;>try (cases hc;done)
  unfold oJ at hc;split at hc<;>try (cases hc;done)
  split at hc<;>try (cases hc;done)
  cases hc;exact gL hd (lO h)
 |_=>exact e hc
theorem vB{g:Nat}{b:Bool}{i:SI}(h:i.okG N g b=true):(∀k,i.dst=some k->k<N)/\i.g=some (g,b)/\i.dst≠some g:=by
 simp only[SI.okG,az,decide_eq_true_eq]at h;obtain⟨⟨h1,h2⟩,h3⟩:=h;refine⟨fun k hk=> ?_, ?_,h3⟩
 ·unfold SI.ok at h1;rw[hk]at h1;simpa using h1
 ·split at h2
  ·rename_i g' b' hg
   simp only[az,decide_eq_true_eq,beq_iff_eq]at h2;rw[hg,h2.1,h2.2]
  ·cases h2
theorem DX(hcal:gq P call){ops:Array Oper}{full rest:List SI}(hl:jo (fY P ops) ops.toList=some full){Q:Exit->Act->World->Prop}{g:Nat}{b:Bool}{c1:CSt}
 (fin:∀(m n:Nat),n+m=ops.size->rest=full.drop n->∀a w,M C N c1 a w->wpOps P ops Q (List.range' n m) a w):
 ∀(l:List SI)(m n:Nat)(c:CSt)(a:Act)(w:World),n+m=ops.size->l++rest=full.drop n->(∀i∈l,i.okG N g b=true)->M C N c a w->c.get g= .bool b->plC call sg l c=some c1->wpOps P ops Q (List.range' n m) a w:=by
 obtain⟨hlen,hget⟩:=eT hl;intro l;induction l with
 |nil=>intro m n c a w hn he _ hM _ hs;rw[O8]at hs;cases hs;exact fin m n hn he a w hM
 |cons i l ihl=>
  intro m n c a w hn he hok hM ht hs;obtain⟨g1,g2,g3⟩:=vB (hok i (aD ..));simp only[aJ]at he
  have hn1:n<full.length:=by
   rcases bX n full.length with h|h
   ·exact h
   ·rw[bo h]at he;cases he
  rw[aS hn1]at he;obtain⟨he1,he2⟩:=iv.inj he;have hn2:n<ops.toList.length:=by omega
  obtain⟨m',rfl⟩:∃m',m=m'+1:=⟨m-1,by rw[hlen,aU]at hn1;omega⟩;simp only[List.range'_succ];rw[wpOps_cons];rw[plC]at hs;cases h1:opC call sg c i.dst i.op with
  |none=>rw[h1,CZ]at hs;cases hs
  |some c2=>
   rw[h1,CY]at hs;have hst:dJ call sg c i=some c2:=by unfold dJ;rw[g2];simp only[ht,if_true];exact h1
   have hik:i.ok N=true:=by
    unfold SI.ok;cases hdd:i.dst with
    |none=>rfl
    |some k=>simpa using g1 k hdd
   refine jb hcal hM hik (o:=ops.toList[n]) (by rw[<-dh,ab hn2]) (by rw[he1];exact hget n hn2 hn1) hst ?_;intro a' w' hM';exact ihl m' (n+1) c2 a' w' (by omega) he2 (fun j hj=>hok j (aq _ hj)) hM' (SK h1 g3 ht) hs
theorem ru(hcal:gq P call){ops:Array Oper}{full rest:List SI}(hl:jo (fY P ops) ops.toList=some full){Q:Exit->Act->World->Prop}{g:Nat}{b:Bool}{v:SV}(hvv:v= .tup []\/∃t,v= .bool t/\t≠b){c1:CSt}
 (fin:∀(m n:Nat),n+m=ops.size->rest=full.drop n->∀a w,M C N c1 a w->wpOps P ops Q (List.range' n m) a w):
 ∀(l:List SI)(m n:Nat)(c:CSt)(a:Act)(w:World),n+m=ops.size->l++rest=full.drop n->(∀i∈l,i.okG N g b=true)->M C N c a w->c.get g=v->unL c l=c1->wpOps P ops Q (List.range' n m) a w:=by
 obtain⟨hlen,hget⟩:=eT hl;intro l;induction l with
 |nil=>intro m n c a w hn he _ hM _ hs;cases hs;exact fin m n hn he a w hM
 |cons i l ihl=>
  intro m n c a w hn he hok hM ht hs;obtain⟨g1,g2,g3⟩:=vB (hok i (aD ..));simp only[aJ]at he
  have hn1:n<full.length:=by
   rcases bX n full.length with h|h
   ·exact h
   ·rw[bo h]at he;cases he
  rw[aS hn1]at he;obtain⟨he1,he2⟩:=iv.inj he;have hn2:n<ops.toList.length:=by omega
  obtain⟨m',rfl⟩:∃m',m=m'+1:=⟨m-1,by rw[hlen,aU]at hn1;omega⟩;simp only[List.range'_succ];rw[wpOps_cons]
  have hst:dJ call (fun _=> {}) c i=some (c.put i.dst (.tup [])):=by
   unfold dJ;rw[g2];simp only[ht];rcases hvv with rfl|⟨t,rfl,htb⟩
   ·rfl
   ·simp only[htb,if_false]
  have hik:i.ok N=true:=by
   unfold SI.ok;cases hdd:i.dst with
   |none=>rfl
   |some k=>simpa using g1 k hdd
  refine jb hcal hM hik (o:=ops.toList[n]) (by rw[<-dh,ab hn2]) (by rw[he1];exact hget n hn2 hn1) hst ?_;intro a' w' hM';exact ihl m' (n+1) _ a' w' (by omega) he2 (fun j hj=>hok j (aq _ hj)) hM' (D6 g3 ht) hs
theorem xk(hcal:gq P call){ops:Array Oper}{full:List SI}(hl:jo (fY P ops) ops.toList=some full){Q:Exit->Act->World->Prop}:
 ∀(l:List RI)(m n:Nat),n+m=ops.size->erL l=full.drop n->l.all (RI.ok N)=true->∀{c:CSt}{a:Act}{w:World},M C N c a w->fL call sg l c=some c'->(∀a w,M C N c' a w->Q .normal a w)->wpOps P ops Q (List.range' n m) a w:=by
 obtain⟨hlen,hget⟩:=eT hl;intro l;induction l with
 |nil=>
  intro m n hn he _ c a w hM hc hQ;have h1:full.length<=n:=List.drop_eq_nil_iff.1 he.symm;rw[hlen,aU]at h1;have:m=0:=by omega
  subst this;simp only[List.range'_zero,wpOps];rw[CT]at hc;cases hc;exact hQ _ _ hM
 |cons q r ih=>
  intro m n hn he hok c a w hM hc hQ;rw[gx,az]at hok;obtain⟨hok1,hok2⟩:=hok;cases q with
  |dir q=>
   rw[CV]at hc;cases hd:qQ c q with
   |none=>rw[hd,ll]at hc;cases hc
   |some c1=>rw[hd,lk,pV]at hc;exact ih m n hn he hok2 (pt hM hd) hc hQ
  |own i dead=>
   rw[CS]at hc;simp only[erL]at he
   have hn1:n<full.length:=by
    rcases bX n full.length with h|h
    ·exact h
    ·rw[bo h]at he;cases he
   rw[aS hn1]at he;obtain⟨he1,he2⟩:=iv.inj he;have hn2:n<ops.toList.length:=by omega
   obtain⟨m',rfl⟩:∃m',m=m'+1:=⟨m-1,by rw[hlen,aU]at hn1;omega⟩;simp only[List.range'_succ];rw[wpOps_cons];cases hs:s6 c i with
   |none=>rw[hs,ll]at hc;cases hc
   |some c1=>rw[hs,lk]at hc;refine xf hM hok1 (o:=ops.toList[n]) (by rw[<-dh,ab hn2]) (by rw[he1];exact hget n hn2 hn1) hs ?_;intro a' w' hM';exact ih m' (n+1) (by omega) he2 hok2 (hM'.kill dead) hc hQ
  |tks i dead=>
   rw[CR]at hc;simp only[erL]at he
   have hn1:n<full.length:=by
    rcases bX n full.length with h|h
    ·exact h
    ·rw[bo h]at he;cases he
   rw[aS hn1]at he;obtain⟨he1,he2⟩:=iv.inj he;have hn2:n<ops.toList.length:=by omega
   obtain⟨m',rfl⟩:∃m',m=m'+1:=⟨m-1,by rw[hlen,aU]at hn1;omega⟩;simp only[List.range'_succ];rw[wpOps_cons];cases hs:Ar c i with
   |none=>rw[hs,ll]at hc;cases hc
   |some c1=>rw[hs,lk]at hc;refine wC hM hok1 (o:=ops.toList[n]) (by rw[<-dh,ab hn2]) (by rw[he1];exact hget n hn2 hn1) hs ?_;intro a' w' hM';exact ih m' (n+1) (by omega) he2 hok2 (hM'.kill dead) hc hQ
  |op i dead=>
   rw[Pb]at hc;simp only[erL]at he
   have hn1:n<full.length:=by
    rcases bX n full.length with h|h
    ·exact h
    ·rw[bo h]at he;cases he
   rw[aS hn1]at he;obtain⟨he1,he2⟩:=iv.inj he;have hn2:n<ops.toList.length:=by omega
   obtain⟨m',rfl⟩:∃m',m=m'+1:=⟨m-1,by rw[hlen,aU]at hn1;omega⟩;simp only[List.range'_succ];rw[wpOps_cons];cases hs:dJ call sg c i with
   |none=>rw[hs,ll]at hc;cases hc
   |some c1=>rw[hs,lk]at hc;refine jb hcal hM hok1 (o:=ops.toList[n]) (by rw[<-dh,ab hn2]) (by rw[he1];exact hget n hn2 hn1) hs ?_;intro a' w' hM';exact ih m' (n+1) (by omega) he2 hok2 (hM'.kill dead) hc hQ
  |grp g b l dead=>
   rw[CU]at hc;cases hs:pm call sg b l c (c.get g)with
   |none=>rw[hs,ll]at hc;cases hc
   |some c1=>
    rw[hs,lk]at hc;unfold pm at hs;have hsk:=hs;split at hs<;>try (cases hs;done)
    rotate_left
    ·rename_i ht
     have hok1':∀i∈l,i.okG N g b=true:=by simpa[RI.ok]using hok1
     have fin:∀(m n:Nat),n+m=ops.size->erL r=full.drop n->∀a w,M C N c1 a w->wpOps P ops Q (List.range' n m) a w:=fun m n hn he a w hM'=>ih m n hn he hok2 (hM'.kill dead) hc hQ
     simp only[erL]at he;cases hs;exact ru hcal hl (.inl rfl) fin l m n c a w hn he hok1' hM ht rfl
    rename_i t ht;have hok1':∀i∈l,i.okG N g b=true:=by simpa[RI.ok]using hok1
    have fin:∀(m n:Nat),n+m=ops.size->erL r=full.drop n->∀a w,M C N c1 a w->wpOps P ops Q (List.range' n m) a w:=fun m n hn he a w hM'=>ih m n hn he hok2 (hM'.kill dead) hc hQ
    simp only[erL]at he;split at hs
    ·rename_i htb
     exact DX hcal hl fin l m n c a w hn he hok1' hM (by rw[ht,htb]) hs
    ·rename_i htb
     cases hs;exact ru hcal hl (.inr ⟨t,rfl,htb⟩) fin l m n c a w hn he hok1' hM ht rfl
end Go.Sy
namespace Go.Sy
variable [bg]
variable {P : Program} {C : Ctx} {x : Sit} {a : Act} {w : World} {N : Nat} {c c' : CSt} {s : St} {call : de} {sg : Nat -> Sig}
abbrev TM:=List (Nat×SV)
structure Uni(d:Option Nat)(F:TM->TM):Prop where
 get:∀tm tm' n,eE tm n=eE tm' n->eE (F tm) n=eE (F tm') n
 dom:∀tm p,p∈F tm->(∃q∈tm,q.1=p.1)\/d=some p.1
theorem Uni.id{d:Option Nat}:Uni d (fun t=>t):=⟨fun _ _ _ h=>h,fun _ p hp=> .inl ⟨p,hp,rfl⟩⟩
theorem Uni.comp{d:Option Nat}{F G:TM->TM}(hF:Uni d F)(hG:Uni d G):Uni d (fun t=>G (F t)):=
 ⟨fun _ _ _ h=>hG.get _ _ _ (hF.get _ _ _ h),fun tm p hp=>by
  rcases hG.dom _ _ hp with⟨q,hq,e⟩|h
  ·rcases hF.dom _ _ hq with⟨q',hq',e'⟩|h
   ·exact .inl ⟨q',hq',e'.trans e⟩
   ·exact .inr (by rw[h,e])
  ·exact .inr h⟩
theorem Uni.purge{d:Option Nat}(lo hi:Nat):Uni d (dl lo hi):=
 ⟨fun tm tm' n h=>by rw[gj,gj,h],fun tm p hp=>by obtain⟨q,hq,e⟩:=jm hp;exact .inl ⟨q,hq,e.symm⟩⟩
theorem Uni.pub{d:Option Nat}(o:Nat)(obj:aG):Uni d (lK o obj):=
 ⟨fun tm tm' n h=>by rw[kz,kz,h],fun tm p hp=>by obtain⟨q,hq,e⟩:=pR hp;exact .inl ⟨q,hq,e.symm⟩⟩
theorem Uni.put(k:Nat)(v:SV):Uni (some k) (fun t=>ji t k v):=
 ⟨fun tm tm' n h=>by
  simp only[mq];rw[h],fun tm p hp=>by
  rcases ml hp with e|e
  ·exact .inr (by rw[e])
  ·exact .inl ⟨p,e,rfl⟩⟩
theorem Uni.weak{d:Option Nat}{F:TM->TM}(h:Uni none F):Uni d F:=⟨h.get,fun tm p hp=>by
 rcases h.dom tm p hp with h|h
 ·exact .inl h
 ·cases h⟩
theorem Uni.cput(d:Option Nat)(v:SV):∃F,Uni d F/\∀tm ob tk,CSt.put ⟨tm,ob,tk⟩ d v=⟨F tm,ob,tk⟩:=by
 cases d with
 |none=>exact⟨fun t=>t,Uni.id,fun _ _ _=>rfl⟩
 |some k=>exact⟨fun t=>ji t k v,Uni.put k v,fun _ _ _=>rfl⟩
section
variable {tm tm' : TM} {ob : List (Nat × aG)} {tk : List Nat}
theorem md:∀(n:Nat)(acc l:List Nat),dL ⟨tm',ob,tk⟩ n acc l=dL ⟨tm,ob,tk⟩ n acc l
 |0,_,_=>rfl
 |_+1,_,[]=>rfl
 |n+1,acc,o::t=>by
  simp only[dL];show(if _ then _ else match iG ob o with|some ob1=>_|none=>_)=(if _ then _ else match iG ob o with|some ob1=>_|none=>_);split
  ·exact md n _ _
  ·split
   ·exact md n _ _
   ·exact md n _ _
theorem vH:∀l:List Nat,gF ⟨tm',ob,tk⟩ l=gF ⟨tm,ob,tk⟩ l
 |[]=>rfl
 |o::r=>by simp only[gF];rw[vH r];rfl
theorem np(o:Nat)(vs:List SV):∃F ob' tk' vs',Uni none F/\∀tm,CSt.publish ⟨tm,ob,tk⟩ o vs=(⟨F tm,ob',tk'⟩,vs'):=by
 unfold CSt.publish CSt.look;simp only;split
 ·exact⟨_,_,_,_,Uni.pub _ _,fun _=>rfl⟩
 ·exact⟨_,_,_,_,Uni.pub _ _,fun _=>rfl⟩
 ·exact⟨_,_,_,_,Uni.id,fun _=>rfl⟩
theorem oV:∀(l:List Nat)(ob:List (Nat×aG))(tk:List Nat)(vs:List SV),∃F ob' tk' vs',Uni none F/\∀tm,eP ⟨tm,ob,tk⟩ vs l=(⟨F tm,ob',tk'⟩,vs')
 |[],ob,tk,vs=>⟨_,_,_,_,Uni.id,fun _=>rfl⟩
 |o::r,ob,tk,vs=>by obtain⟨F,ob1,tk1,vs1,h1,h2⟩:=np (ob:=ob) (tk:=tk) o vs;obtain⟨G,ob2,tk2,vs2,h3,h4⟩:=oV r ob1 tk1 vs1;refine⟨fun t=>G (F t),ob2,tk2,vs2,h1.comp h3,fun tm=> ?_⟩;simp only[eP];rw[h2];exact h4 _
theorem pA(d:Option Nat)(m mt:List Nat)(q:eA):∃F ob' tk',Uni d F/\∀tm,jP ⟨tm,ob,tk⟩ d m mt q=⟨F tm,ob',tk'⟩:=by unfold jP;dsimp only;obtain⟨F,h1,h2⟩:=Uni.cput d (q.r.ren (iL (d.getD 0) m) (kq (d.getD 0)));exact⟨_,_,_,(Uni.purge ((d.getD 0+1)*1000) ((d.getD 0+2)*1000)).comp h1,fun tm=>h2 _ _ _⟩
theorem FL{sg:Sig}{d:Option Nat}{g:Nat}{as:List SV}:∃F,Uni d F/\∃q:Option (List (Nat×aG)×List Nat),∀tm,jF call sg d g (⟨tm,ob,tk⟩,as)=q.map fun q=>⟨F tm,q.1,q.2⟩:=by
 simp only[jF];generalize jT tk sg.own 50 0 as=z;obtain⟨as2,mt1⟩:=z;simp only[nN];have e1:∀tm,dL ⟨tm,ob,tk⟩ 60 [] (SV.idsL as2)=dL ⟨[],ob,tk⟩ 60 [] (SV.idsL as2):=fun tm=>md _ _ _
 have e2:∀tm l,gF ⟨tm,ob,tk⟩ l=gF ⟨[],ob,tk⟩ l:=fun tm l=>vH l
 simp only[e1,e2];generalize dL ⟨[],ob,tk⟩ 60 [] (SV.idsL as2)=m;cases ho:gF ⟨[],ob,tk⟩ m with
 |none=>exact⟨_,Uni.id,none,fun _=>rfl⟩
 |some os0=>
  simp only[lA];generalize dZ tk (50+mt1.length) os0=z2;obtain⟨os,mt2⟩:=z2;simp only[nM];generalize (oC (SV.idsL as2++fJ os) m&&dy m&&dy (cD (mt1++mt2))&&decide (m.length<=40)&&m.all fun o=> !inR (d.getD 0) o)=b;cases b with
  |false=>exact⟨_,Uni.id,none,fun _=>rfl⟩
  |true=>
   simp only[nL];cases hq:call g (SV.renL (gM m) _root_.id as2) (ee (gM m) _root_.id os) (mt1.length+mt2.length)with
   |none=>exact⟨_,Uni.id,none,fun _=>rfl⟩
   |some q=>
    simp only[oI];generalize q.small=b;cases b with
    |false=>exact⟨_,Uni.id,none,fun _=>rfl⟩
    |true=>obtain⟨F,ob',tk',h1,h2⟩:=pA (ob:=ob) (tk:=tk) d m (cD (mt1++mt2)) q;exact⟨F,h1,some (ob',tk'),fun tm=>by simp only[wJ,bx,h2]⟩
theorem sm{sg:Sig}{d:Option Nat}{g:Nat}{as:List SV}:∃F,Uni d F/\∃q:Option (List (Nat×aG)×List Nat),∀tm,ik call sg ⟨tm,ob,tk⟩ d g as=q.map fun q=>⟨F tm,q.1,q.2⟩:=by
 unfold ik;generalize ((SV.idsL as).isEmpty&&sg.own.isEmpty)=b;cases b with
 |true=>
  simp only[jO];cases hq:call g (SV.bareL as) [] 0 with
  |none=>exact⟨_,Uni.id,none,fun _=>rfl⟩
  |some q=>
   simp only[mr];generalize q.bare=b;cases b with
   |true=>simp only[nU];obtain⟨F,h1,h2⟩:=Uni.cput d q.r;exact⟨F,h1,some (ob,tk),fun tm=>by rw[h2];rfl⟩
   |false=>
    simp only[nU];generalize q.small=b;cases b with
    |false=>exact⟨_,Uni.id,none,fun _=>rfl⟩
    |true=>obtain⟨F,ob',tk',h1,h2⟩:=pA (ob:=ob) (tk:=tk) d [] [] q;exact⟨F,h1,some (ob',tk'),fun tm=>by simp only[xH,h2];rfl⟩
 |false=>simp only[jO];obtain⟨F,ob1,tk1,vs1,h1,h2⟩:=oV (iS sg.raw 0 as) ob tk as;obtain⟨G,h3,q,h4⟩:=FL (call:=call) (ob:=ob1) (tk:=tk1) (sg:=sg) (d:=d) (g:=g) (as:=vs1);exact⟨fun t=>G (F t),h1.weak.comp h3,q,fun tm=>by rw[h2];exact h4 _⟩
theorem Hp:∀(l:List (Nat×aG))(tm:TM)(ob:List (Nat×aG))(tk:List Nat),CSt.wr ⟨tm,ob,tk⟩ l=⟨tm,(CSt.wr ⟨[],ob,tk⟩ l).ob,tk⟩
 |[],_,_,_=>rfl
 |p::r,tm,ob,tk=>by simp only[CSt.wr];exact Hp r tm _ tk
theorem py(d:Option Nat)(e:ov):∃F ob' tk',Uni d F/\∀tm,CSt.app ⟨tm,ob,tk⟩ d e=⟨F tm,ob',tk'⟩:=by
 unfold CSt.app;dsimp only;obtain⟨F,h1,h2⟩:=Uni.cput d e.val;split
 ·exact⟨_,_,_,(Uni.purge (d.getD 0+100) (d.getD 0+101)).comp h1,fun tm=>h2 _ _ _⟩
 ·exact⟨_,_,_,(Uni.purge (d.getD 0+100) (d.getD 0+101)).comp h1,fun tm=>h2 _ _ _⟩
 ·exact⟨F,(CSt.wr ⟨[],ob,tk⟩ e.wr).ob,tk,h1,fun tm=>by rw[Hp];exact h2 _ _ _⟩
theorem xir{x:Arg}(h:∀n,x= .t n->eE tm' n=eE tm n):CSt.ev ⟨tm',ob,tk⟩ x=CSt.ev ⟨tm,ob,tk⟩ x:=by
 cases x with
 |t n=>exact h n rfl
 |c v=>rfl
 |f g=>rfl
theorem lZ:∀{l:List Arg},(∀x∈l,CSt.ev ⟨tm',ob,tk⟩ x=CSt.ev ⟨tm,ob,tk⟩ x)->evL ⟨tm',ob,tk⟩ l=evL ⟨tm,ob,tk⟩ l
 |[],_=>rfl
 |x::r,h=>by simp only[evL];rw[h x (aD ..),lZ fun y hy=>h y (aq _ hy)]
theorem O7:∀{l:List (Nat×Nat×Arg)},(∀x∈l.map (fun p=>p.2.2),CSt.ev ⟨tm',ob,tk⟩ x=CSt.ev ⟨tm,ob,tk⟩ x)->psC ⟨tm',ob,tk⟩ l=psC ⟨tm,ob,tk⟩ l
 |[],_=>rfl
 |(o,n,x)::r,h=>by simp only[psC];rw[h x (by simp),O7 fun y hy=>h y (by simp only[aI,an];exact .inr hy)]
theorem mC{x:Option Arg}{d:Int}(h:∀y∈x.toList,CSt.ev ⟨tm',ob,tk⟩ y=CSt.ev ⟨tm,ob,tk⟩ y):ks ⟨tm',ob,tk⟩ x d=ks ⟨tm,ob,tk⟩ x d:=by
 cases x with
 |none=>rfl
 |some y=>simp only[ks];rw[h y (by simp)]
theorem AA{sz:Nat}{v:SV}{lo hi mx:Option Arg}(h1:∀y∈lo.toList,CSt.ev ⟨tm',ob,tk⟩ y=CSt.ev ⟨tm,ob,tk⟩ y)(h2:∀y∈hi.toList,CSt.ev ⟨tm',ob,tk⟩ y=CSt.ev ⟨tm,ob,tk⟩ y)(h3:∀y∈mx.toList,CSt.ev ⟨tm',ob,tk⟩ y=CSt.ev ⟨tm,ob,tk⟩ y):
 ol ⟨tm',ob,tk⟩ sz v lo hi mx=ol ⟨tm,ob,tk⟩ sz v lo hi mx:=by
 unfold ol;simp only[mC h1,mC h2,mC h3]
theorem Ao{o:SOp}(h:∀y∈o.args,CSt.ev ⟨tm',ob,tk⟩ y=CSt.ev ⟨tm,ob,tk⟩ y):cP ⟨tm',ob,tk⟩ o=cP ⟨tm,ob,tk⟩ o:=by
 cases o with
 |build z ps=>simp only[SOp.args]at h;simp only[cP];rw[O7 h]
 |lit sz xs=>simp only[SOp.args]at h;simp only[cP];rw[lZ h]
 |litB xs=>simp only[SOp.args]at h;simp only[cP];rw[lZ h]
 |mkfn f a b=>simp only[SOp.args,al]at h;simp only[cP];rw[lZ fun y hy=>h y (.inl hy),lZ fun y hy=>h y (.inr hy)]
 |slcS x lo hi=>simp only[SOp.args,an,al]at h;simp only[cP];rw[h x (.inl rfl)];simp only[mC fun y hy=>h y (.inr (.inl hy)),mC fun y hy=>h y (.inr (.inr hy))]
 |slcL sz x lo hi mx=>simp only[SOp.args,an,al]at h;simp only[cP];rw[h x (.inl rfl),AA (fun y hy=>h y (.inr (.inl (.inl hy)))) (fun y hy=>h y (.inr (.inl (.inr hy)))) (fun y hy=>h y (.inr (.inr hy)))]
 |slcA len sz x lo hi mx=>simp only[SOp.args,an,al]at h;simp only[cP];rw[h x (.inl rfl)];simp only[AA (fun y hy=>h y (.inr (.inl (.inl hy)))) (fun y hy=>h y (.inr (.inl (.inr hy)))) (fun y hy=>h y (.inr (.inr hy)))]
 |_=>
  simp only[SOp.args,an,cz,or_false,forall_eq_or_imp,forall_eq,ba]at h
  first
   |rfl
   |(simp only[cP];rw[h];rfl)
   |(simp only[cP];rw[h.1,h.2];rfl)
   |(simp only[cP,h];done)
   |(simp only[cP,h.1,h.2];done)
theorem Dv{n:Nat}{v:List SV}{u:SV}:ld ⟨tm',ob,tk⟩ n v u=ld ⟨tm,ob,tk⟩ n v u:=by
 cases u<;>rfl
theorem To{d:Option Nat}{o:SOp}(h:∀y∈o.args,CSt.ev ⟨tm',ob,tk⟩ y=CSt.ev ⟨tm,ob,tk⟩ y):dT ⟨tm',ob,tk⟩ d o=dT ⟨tm,ob,tk⟩ d o:=by
 have hv:=Ao h;cases o with
 |new ob=>rfl
 |call f as=>rfl
 |box x=>simp only[SOp.args,an,cz,or_false,forall_eq]at h;simp only[dT];rw[h]
 |mk z b n m=>simp only[SOp.args,an,cz,or_false,forall_eq_or_imp,forall_eq]at h;simp only[dT];rw[h.1,h.2]
 |mkB n m=>simp only[SOp.args,an,cz,or_false,forall_eq_or_imp,forall_eq]at h;simp only[dT];rw[h.1,h.2]
 |store n a x=>simp only[SOp.args,an,cz,or_false,forall_eq_or_imp,forall_eq]at h;simp only[dT];rw[h.1,h.2,Dv]
 |app z b x y=>
  simp only[SOp.args,an,cz,or_false,forall_eq_or_imp,forall_eq]at h;have e1:∀v,eH ⟨tm',ob,tk⟩ v=eH ⟨tm,ob,tk⟩ v:=fun v=>by cases v<;>rfl
  have e2:∀n v,fN ⟨tm',ob,tk⟩ n v=fN ⟨tm,ob,tk⟩ n v:=fun n v=>by cases v<;>rfl
  have e3:∀t:Tok,t.readyC ⟨tm',ob,tk⟩=t.readyC ⟨tm,ob,tk⟩:=fun t=>by cases t<;>rfl
  simp only[dT];rw[h.1,h.2];simp only[e1,e2,e3]
 |clr z x=>simp only[SOp.args,an,cz,or_false,forall_eq]at h;simp only[dT];rw[h];rfl
 |cpy sz x y=>
  simp only[SOp.args,an,cz,or_false,forall_eq_or_imp,forall_eq]at h;have e1:∀v,eH ⟨tm',ob,tk⟩ v=eH ⟨tm,ob,tk⟩ v:=fun v=>by cases v<;>rfl
  have e2:∀n v,fN ⟨tm',ob,tk⟩ n v=fN ⟨tm,ob,tk⟩ n v:=fun n v=>by cases v<;>rfl
  simp only[dT];rw[h.1,h.2];simp only[e1,e2];rfl
 |pick k a b=>simp only[SOp.args,an,cz,or_false,forall_eq_or_imp,forall_eq]at h;simp only[dT];rw[h.1,h.2.1,h.2.2]
 |isnil ne x=>simp only[SOp.args,an,cz,or_false,forall_eq]at h;simp only[dT];rw[h]
 |_=>simp only[dT];rw[hv]
theorem Gm{d:Option Nat}{z:List SV}{b:Nat}{y:Arg}{v:SV}(h:CSt.ev ⟨tm',ob,tk⟩ y=CSt.ev ⟨tm,ob,tk⟩ y)(hc:rG ⟨tm,ob,tk⟩ d z b y v=some c'):∃F,Uni d F/\c'.tm=F tm/\rG ⟨tm',ob,tk⟩ d z b y v=some ⟨F tm',c'.ob,c'.tk⟩:=by
 have e1:∀v,eH ⟨tm',ob,tk⟩ v=eH ⟨tm,ob,tk⟩ v:=fun v=>by cases v<;>rfl
 have e2:∀n v,fN ⟨tm',ob,tk⟩ n v=fN ⟨tm,ob,tk⟩ n v:=fun n v=>by cases v<;>rfl
 have put:∀(k:Nat)(u:SV),some (CSt.put ⟨tm,ob,tk⟩ (some k) u)=some c'->∃F,Uni (some k) F/\c'.tm=F tm/\some (CSt.put ⟨tm',ob,tk⟩ (some k) u)=some ⟨F tm',c'.ob,c'.tk⟩:=by intro k u hu;obtain⟨F,h1,h2⟩:=Uni.cput (some k) u;rw[h2]at hu;cases hu;exact⟨F,h1,rfl,by rw[h2]⟩
 have app:∀(k:Nat)(e:ov),some (CSt.app ⟨tm,ob,tk⟩ (some k) e)=some c'->∃F,Uni (some k) F/\c'.tm=F tm/\some (CSt.app ⟨tm',ob,tk⟩ (some k) e)=some ⟨F tm',c'.ob,c'.tk⟩:=by intro k e hu;obtain⟨F,ob',tk',h1,h2⟩:=py (ob:=ob) (tk:=tk) (some k) e;rw[h2]at hu;cases hu;exact⟨F,h1,rfl,by rw[h2]⟩
 have app6:∀(o' k:Nat)(e:ov),some (CSt.app (CSt.purge ⟨tm,ob,tk⟩ o' (o'+1)) (some k) e)=some c'->∃F,Uni (some k) F/\c'.tm=F tm/\some (CSt.app (CSt.purge ⟨tm',ob,tk⟩ o' (o'+1)) (some k) e)=some ⟨F tm',c'.ob,c'.tk⟩:=by intro o' k e hu;obtain⟨F,ob',tk',h1,h2⟩:=py (ob:=bH o' (o'+1) ob) (tk:=cE o' (o'+1) tk) (some k) e;simp only[CSt.purge]at hu ⊢;rw[h2]at hu;cases hu;exact⟨fun t=>F (dl o' (o'+1) t),(Uni.purge o' (o'+1)).comp h1,rfl,by rw[h2]⟩
 unfold rG at hc ⊢;split at hc<;>try (cases hc;done)
 ·split at hc<;>try (cases hc;done)
  rename_i ht;simp only[if_pos ht,h,e1];unfold Sk at hc ⊢;split at hc<;>try (cases hc;done)
  split at hc<;>try (cases hc;done)
  rename_i hz;simp only[if_neg hz];split at hc
  ·rename_i hl;simp only[if_pos hl];exact put _ _ hc
  ·rename_i hl
   simp only[if_neg hl];split at hc<;>try (cases hc;done)
   rename_i hb;simp only[if_pos hb];exact app _ _ hc
 ·split at hc<;>try (cases hc;done)
  rename_i ht;simp only[if_pos ht,h,e2];unfold Sj at hc ⊢;split at hc<;>try (cases hc;done)
  split at hc
  ·rename_i hl;simp only[if_pos hl];exact put _ _ hc
  ·rename_i hl
   simp only[if_neg hl];split at hc<;>try (cases hc;done)
   rename_i hb;simp only[if_pos hb];exact app _ _ hc
 ·simp only[h,e2]
  unfold Pa at hc ⊢;split at hc<;>try (cases hc;done)
  split at hc<;>try (cases hc;done)
  rename_i o1 sz1 n1 _ _ _ k1 R1 l1 _ hb;rw[if_pos hb];exact app6 _ _ _ hc
theorem CW{d:Option Nat}{o:SOp}(h:∀y∈o.args,CSt.ev ⟨tm',ob,tk⟩ y=CSt.ev ⟨tm,ob,tk⟩ y)(hc:opC call sg ⟨tm,ob,tk⟩ d o=some c'):∃F,Uni d F/\c'.tm=F tm/\opC call sg ⟨tm',ob,tk⟩ d o=some ⟨F tm',c'.ob,c'.tk⟩:=by
 by_cases hcl:∃f as,o= .call f as
 ·obtain⟨f,as,rfl⟩:=hcl
  simp only[opC]at hc ⊢;simp only[SOp.args,an]at h;rw[h f (.inl rfl),lZ fun y hy=>h y (.inr hy)];split at hc<;>try (cases hc;done)
  obtain⟨F,h1,q,h2⟩:=sm (call:=call) (ob:=ob) (tk:=tk) (sg:=sg ‹_›) (d:=d) (g:= ‹_›) (as:= ‹List SV› ++evL ⟨tm,ob,tk⟩ as++ ‹List SV›);rename_i g u v hfn;obtain⟨F,h1,q,h2⟩:=sm (call:=call) (ob:=ob) (tk:=tk) (sg:=sg g) (d:=d) (g:=g) (as:=u++evL ⟨tm,ob,tk⟩ as++v);rw[h2]at hc;cases q with
  |none=>cases hc
  |some q=>simp only[bx,aw.injEq]at hc;subst hc;exact⟨F,h1,rfl,by rw[h2];rfl⟩
 by_cases hnb:∃xs,o= .newB xs
 ·obtain⟨xs,rfl⟩:=hnb
  simp only[opC]at hc ⊢;simp only[SOp.args]at h;rw[lZ h];unfold nS at hc ⊢;split at hc<;>try (cases hc;done)
  rename_i k l hk;cases hc;obtain⟨F,ob',tk',h1,h2⟩:=py (ob:=ob) (tk:=tk) (some k) {val:= .psl (k+100) 1 0 l.length (some l.length),new:=some (.bar l)};exact⟨F,h1,by rw[h2],by simp only[h2]⟩
 by_cases hsl:∃q,o= .slid q
 ·obtain⟨q,rfl⟩:=hsl
  simp only[opC]at hc ⊢;rw[h q (by simp[SOp.args])];generalize CSt.ev ⟨tm,ob,tk⟩ q=v at hc;unfold qW at hc;split at hc<;>try (cases hc;done)
  rename_i o' off n cap;show ∃F,_/\_/\oJ _ d o' off n cap (CSt.look ⟨tm',ob,tk⟩ o')=_;have hlk:CSt.look ⟨tm',ob,tk⟩ o'=CSt.look ⟨tm,ob,tk⟩ o':=rfl;rw[hlk];generalize CSt.look ⟨tm,ob,tk⟩ o'=u at hc;unfold oJ at hc;split at hc<;>try (cases hc;done)
  split at hc<;>try (cases hc;done)
  rename_i l hcond;cases hc;obtain⟨F,ob',tk',vs',h1,h2⟩:=np (ob:=ob) (tk:=tk) o' [];obtain⟨G,g1,g2⟩:=Uni.cput d (.byt ((l.drop off).take n) .clip);refine⟨fun t=>G (F t),h1.weak.comp g1, ?_, ?_⟩
  ·rw[h2 tm];rw[g2]
  ·simp only[oJ,if_pos hcond,h2,g2]
 by_cases hao:∃z b q y,o= .appO z b q y
 ·obtain⟨z,b,q,y,rfl⟩:=hao
  simp only[opC]at hc ⊢;simp only[SOp.args,an,cz,or_false,forall_eq_or_imp,forall_eq]at h;rw[h.1];exact Gm h.2 hc
 ·have e:∀c,opC call sg c d o=nz c d (dT c d o):=by
   intro c;cases o<;>first|rfl|exact absurd ⟨_,_,rfl⟩ hcl|exact absurd ⟨_,rfl⟩ hnb|exact absurd ⟨_,rfl⟩ hsl|exact absurd ⟨_,_,_,_,rfl⟩ hao
  rw[e]at hc;rw[e,To h];cases he:dT ⟨tm,ob,tk⟩ d o with
  |none=>rw[he]at hc;cases hc
  |some q=>rw[he]at hc;simp only[nz,aw.injEq]at hc ⊢;obtain⟨F,ob',tk',h1,h2⟩:=py (ob:=ob) (tk:=tk) d q;rw[h2]at hc;subst hc;exact⟨F,h1,rfl,h2 _⟩
theorem tS{i:SI}(h:∀n∈i.rds,eE tm' n=eE tm n):∀y∈i.op.args,CSt.ev ⟨tm',ob,tk⟩ y=CSt.ev ⟨tm,ob,tk⟩ y:=by
 intro y hy;refine xir fun n hn=>h n ?_
 subst hn;unfold SI.rds;rw[al];exact .inl (List.mem_filterMap.2 ⟨_,hy,rfl⟩)
theorem Z4{i:SI}{g:Nat}{b:Bool}(hg:i.g=some (g,b)):g∈i.rds:=by unfold SI.rds;rw[hg];simp
theorem Dx{i:SI}(h:∀n∈i.rds,eE tm' n=eE tm n)(hc:dJ call sg ⟨tm,ob,tk⟩ i=some c'):∃F,Uni i.dst F/\c'.tm=F tm/\dJ call sg ⟨tm',ob,tk⟩ i=some ⟨F tm',c'.ob,c'.tk⟩:=by
 unfold dJ at hc ⊢;split at hc
 ·exact CW (tS h) hc
 ·rename_i g b hg
  have e:CSt.get ⟨tm',ob,tk⟩ g=CSt.get ⟨tm,ob,tk⟩ g:=h g (Z4 hg);rw[e];split at hc<;>try (cases hc;done)
  rotate_left
  ·obtain⟨F,h1,h2⟩:=Uni.cput i.dst (.tup [])
   rw[h2]at hc;cases hc;exact⟨F,h1,rfl,by rw[h2]⟩
  split at hc
  ·rename_i hb
   obtain⟨F,h1,h2,h3⟩:=CW (tS h) hc;exact⟨F,h1,h2,by simp only[if_pos hb];exact h3⟩
  ·rename_i hb
   obtain⟨F,h1,h2⟩:=Uni.cput i.dst (.tup []);rw[h2]at hc;cases hc;exact⟨F,h1,rfl,by simp only[if_neg hb];rw[h2]⟩
theorem ZR{i:SI}(h:∀n∈i.rds,eE tm' n=eE tm n):qv ⟨tm',ob,tk⟩ i=qv ⟨tm,ob,tk⟩ i:=by
 have hq:df ⟨tm',ob,tk⟩ i.op=df ⟨tm,ob,tk⟩ i.op:=by
  have ha:=tS (ob:=ob) (tk:=tk) h;generalize i.op=o at ha;have hv:=Ao ha;cases o with
  |pick k a b=>simp only[SOp.args,an,cz,or_false,forall_eq_or_imp,forall_eq]at ha;simp only[df];rw[ha.1,ha.2.1,ha.2.2]
  |_=>simp only[df];rw[hv]
 unfold qv;cases hg:i.g with
 |none=>exact hq
 |some p=>obtain⟨g,b⟩:=p;simp only;have e:CSt.get ⟨tm',ob,tk⟩ g=CSt.get ⟨tm,ob,tk⟩ g:=h g (Z4 hg);rw[e];cases CSt.get ⟨tm,ob,tk⟩ g<;>first|rfl|(simp only[qg];rw[hq])
end
theorem oD{i:SI}{v:SV}(h:qv c i=some v):dJ call sg c i=some (c.put i.dst v):=by
 have hop:∀o,df c o=some v->opC call sg c i.dst o=some (c.put i.dst v):=by
  intro o ho;cases o with
  |pick k a b=>simp only[df]at ho;split at ho<;>cases ho;rename_i t ht;simp only[opC,dT,ht,nz];rfl
  |_=>
   simp only[df]at ho
   first
    |(simp only[cP]at ho;cases ho;done)
    |(simp only[opC,dT];rw[ho];rfl)
    |(simp[cP]at ho;done)
 unfold qv at h;unfold dJ;generalize i.g=q at h;cases q with
 |none=>exact hop _ h
 |some q=>
  obtain⟨g,b⟩:=q;simp only at h ⊢;generalize c.get g=u at h
  by_cases hu:u= .tup []
  ·subst hu
   simp only[qg,aw.injEq]at h;subst h;rfl
  obtain⟨t,rfl⟩:∃t,u= .bool t:=by
   unfold qg at h;split at h
   ·exact⟨_,rfl⟩
   ·exact absurd rfl hu
   ·cases h
  simp only[qg]at h ⊢;split at h
  ·rename_i hb;rw[if_pos hb];exact hop _ h
  ·rename_i hb;rw[if_neg hb];cases h;rfl
structure Apx(N:Nat)(D:List Nat)(c p:CSt):Prop where
 get:∀n,n∉D->c.get n=p.get n
 ob:c.ob=p.ob
 tk:c.tk=p.tk
 dom:∀q∈p.tm,q.1<N
theorem Apx.step{D:List Nat}{p p1:CSt}{i:SI}(h:Apx N D c p)(hi:i.ok N=true)(hr:∀n∈i.rds,n∉D)(hs:dJ call sg p i=some p1):∃c1,dJ call sg c i=some c1/\Apx N D c1 p1:=by
 obtain⟨tm',ob',tk'⟩:=c;obtain⟨tm,ob,tk⟩:=p;have h1:=h.ob;have h2:=h.tk;simp only at h1 h2;subst h1;subst h2;obtain⟨F,k1,k2,k3⟩:=Dx (tm':=tm') (fun n hn=>h.get n (hr n hn)) hs;refine⟨_,k3,⟨fun n hn=> ?_,rfl,rfl,fun q hq=> ?_⟩⟩
 ·show eE (F tm') n=eE p1.tm n
  rw[k2];exact k1.get _ _ _ (h.get n hn)
 ·rw[k2]at hq
  rcases k1.dom _ _ hq with⟨q',hq',e⟩|e
  ·rw[<-e];exact h.dom q' hq'
  ·unfold SI.ok at hi
   rw[e]at hi;simpa using hi
theorem Apx.qv{D:List Nat}{p:CSt}{i:SI}(h:Apx N D c p)(hr:∀n∈i.rds,n∉D):qv c i=qv p i:=by obtain⟨tm',ob',tk'⟩:=c;obtain⟨tm,ob,tk⟩:=p;have h1:=h.ob;have h2:=h.tk;simp only at h1 h2;subst h1;subst h2;exact ZR fun n hn=>h.get n (hr n hn)
theorem Apx.put{D:List Nat}{p:CSt}{d:Nat}{v:SV}(h:Apx N D c p)(hd:d<N):Apx N (d::D) c (p.put (some d) v):=by
 refine⟨fun n hn=> ?_,h.ob,h.tk,fun q hq=> ?_⟩
 ·simp only[an,not_or]at hn
  rw[gP,if_neg hn.1];exact h.get n hn.2
 ·rcases ml hq with e|e
  ·rw[e];exact hd
  ·exact h.dom q e
theorem O6{p:CSt}{d:Nat}{v:SV}{i:SI}(h:d∉i.rds):Sy.qv (p.put (some d) v) i=Sy.qv p i:=by
 obtain⟨tm,ob,tk⟩:=p;refine ZR (tm:=tm) (tm':=ji tm d v) fun n hn=> ?_
 rw[mq,if_neg (by intro e;subst e;exact h hn)]
theorem p9{α:Type}{p:Prop}{v u:α}(h:gdP p v=some u):p/\v=u:=by
 unfold gdP at h;split at h
 ·rename_i hp;exact⟨hp,by simpa using h⟩
 ·cases h
theorem qc{m:Nat}{p:CSt}{f:FI}:∀{l:List FI},tt m p l->f∈l->m.testBit f.n=true\/qv p f.i=some (p.get (f.i.dst.getD 0))
 |g::r,h,hf=>by
  rcases an.1 hf with rfl|hf
  ·rcases h.1 with h1|h1
   ·left
    rw[Nat.testBit_eq_decide_div_mod_eq];simpa using h1
   ·exact .inr h1
  ·exact qc h.2 hf
def Nx(g q:FI):Prop:=q.q=true->∀d,q.i.dst=some d->d∉g.i.rds/\g.i.dst≠some d
def xV(q:FI):Prop:=q.q=true->∃d,q.i.dst=some d/\d∉q.i.rds
def dOf(f:FI):Nat:=f.i.dst.getD 0
theorem mN{b:List Nat}{cF:CSt}:∀{r ps V:List FI}{p:CSt}{D:List Nat},fk call sg b r ps p=some cF->Apx N D c p->(∀f∈r,f.i.ok N=true)->(∀f∈r,xV f)->r.Pairwise Nx->(∀g∈V,∀f∈r,Nx g f)->
 (∀g∈V,∃d,g.i.dst=some d)->(∀g∈V,qv p g.i=some (p.get (dOf g)))->∃seg post p2 ps2,r=seg++post/\(∀f∈seg,f.q=true)/\(post=[]\/∃f r',post=f::r'/\f.q=false)/\fk call sg b post ps2 p2=some cF/\
  (∀f,f∈ps\/f∈seg->f∈ps2)/\Apx N (seg.map dOf++D) c p2/\∀g,g∈V\/g∈seg->qv p2 g.i=some (p2.get (dOf g))
 |[],ps,V,p,D,h,hA,_,_,_,_,_,hV=>⟨[],[],p,ps,rfl,by simp,.inl rfl,h,by simp,by simpa using hA,by simpa using hV⟩
 |f::r,ps,V,p,D,h,hA,hok,hself,hpw,hVr,hVd,hV=>by
  obtain⟨n,q,i⟩:=f;cases q with
  |false=>exact⟨[],⟨n,false,i⟩::r,p,ps,rfl,by simp,.inr ⟨_,_,rfl,rfl⟩,h,by simp,by simpa using hA,by simpa using hV⟩
  |true=>
   simp only[fk]at h;cases hq:qv p i with
   |none=>rw[hq]at h;simp[vT]at h
   |some v=>
    rw[hq]at h;simp only[vT]at h;obtain⟨d,hd,hdr⟩:=hself _ (aD ..) rfl;simp only at hd hdr
    have hdN:d<N:=by have:=hok _ (aD ..);unfold SI.ok at this;simp only[hd]at this;simpa using this
    rw[hd]at h;rw[bQ]at hpw
    have hget:∀g:FI,(∃e,g.i.dst=some e)->g.i.dst≠some d->(p.put (some d) v).get (dOf g)=p.get (dOf g):=by
     rintro g ⟨e,he⟩ hne;have e1:dOf g=e:=by unfold dOf;rw[he];rfl
     rw[e1,gP,if_neg];intro e2;rw[he,e2]at hne;exact hne rfl
    obtain⟨seg,post,p2,ps2,k1,k2,k3,k4,k5,k6,k7⟩:=mN (V:=⟨n,true,i⟩::V) h (hA.put hdN) (fun f hf=>hok f (aq _ hf)) (fun f hf=>hself f (aq _ hf)) hpw.2
     (by
      intro g hg f hf;rcases an.1 hg with rfl|hg
      ·exact hpw.1 f hf
      ·exact hVr g hg f (aq _ hf))
     (by
      intro g hg;rcases an.1 hg with rfl|hg
      ·exact⟨d,hd⟩
      ·exact hVd g hg)
     (by
      intro g hg;rcases an.1 hg with rfl|hg
      ·have e1:dOf ⟨n,true,i⟩=d:=by unfold dOf;simp only[hd];rfl
       rw[e1,O6 hdr,gP,if_pos rfl];exact hq
      ·obtain⟨h1,h2⟩:=hVr g hg _ (aD ..) rfl d hd
       rw[O6 h1,hget g (hVd g hg) h2];exact hV g hg)
    refine⟨⟨n,true,i⟩::seg,post,p2,ps2,by rw[k1];rfl, ?_,k3,k4, ?_, ?_, ?_⟩
    ·intro f hf
     rcases an.1 hf with rfl|hf
     ·rfl
     ·exact k2 f hf
    ·intro f hf
     refine k5 f ?_;rcases hf with hf|hf
     ·exact .inl (aq _ hf)
     ·rcases an.1 hf with rfl|hf
      ·exact .inl (aD ..)
      ·exact .inr hf
    ·have e1:dOf ⟨n,true,i⟩=d:=by unfold dOf;simp only[hd];rfl
     refine⟨fun m hm=>k6.get m (fun h=>hm ?_),k6.ob,k6.tk,k6.dom⟩;simp only[aI,e1,aJ,an,al]at h ⊢;rcases h with h|h|h
     ·exact .inr (.inl h)
     ·exact .inl h
     ·exact .inr (.inr h)
    ·intro g hg
     refine k7 g ?_;rcases hg with hg|hg
     ·exact .inl (aq _ hg)
     ·rcases an.1 hg with rfl|hg
      ·exact .inl (aD ..)
      ·exact .inr hg
section
variable {ops : Array Oper} {its : List FI} {b : List Nat}
def un(its:List FI)(listed:Array Bool):List FI:=its.filter fun f=> !listed.getD f.n true
theorem cW{listed:Array Bool}{f:FI}:f∈un its listed↔f∈its/\listed.getD f.n true=false:=by simp[un]
structure pE(call:de)(sg:Nat->Sig)(N:Nat)(b:List Nat)(its:List FI)(cF:CSt)(listed:Array Bool)(c:CSt):Prop where
 ex:∃pre post p ps,its=pre++post/\(post=[]\/∃f r,post=f::r/\f.q=false)/\fk call sg b post ps p=some cF/\(∀f∈pre,f.q=true->f∈ps)/\
  (∀f∈pre,f.q=false->listed.getD f.n true=true)/\(∀f∈post,listed.getD f.n true=false)/\
  Apx N ((un pre listed).map dOf) c p/\∀f∈un pre listed,qv p f.i=some (p.get (dOf f))
theorem xD(hcal:gq P call){cF:CSt}
 (hitem:∀f∈its,∃o,ops[f.n]? =some o/\fY P ops o=some f.i.er/\f.n<ops.size) (hex:∀j,j<ops.size->∃f∈its,f.n=j) (hinj:∀f∈its,∀g∈its,f.n=g.n->f=g)
 (hback:∀(i:Nat)(o:Oper),ops[i]? =some o->∀e∈o.after,Region.binds .any e=true->e.on<i)
 (hbit:∀(i:Nat)(o:Oper)(k:Nat),ops[i]? =some o->k<ops.size->(b.getD i 0).testBit k=true->∃e∈o.after,Region.binds .any e=true/\(e.on=k\/(b.getD e.on 0).testBit k=true))
 (hok:∀f∈its,f.i.ok N=true) (hself:∀f∈its,xV f) (hnx:its.Pairwise Nx)
 (hrd:∀q∈its,q.q=true->∀p∈its,∀d,q.i.dst=some d->d∈p.i.rds->(b.getD p.n 0).testBit q.n=true)
 (hseg:∀pre f r,its=pre++f::r->f.q=false->∀g∈r,∃h∈f::r,(b.getD g.n 0).testBit h.n=true)
 (hdd:∀f∈its,∀g∈its,f.n≠g.n->∀d,f.i.dst=some d->g.i.dst≠some d) {Q:Exit->Act->World->Prop} (hQ:∀a w,M C N cF a w->Q .normal a w):
 ∀(fuel:Nat)(listed:Array Bool)(c:CSt)(a:Act)(w:World),(un its listed).length<=fuel->listed.size=ops.size->
  (∀(i:Nat)(o:Oper)(k:Nat),ops[i]? =some o->listed.getD i true=true->k<ops.size->(b.getD i 0).testBit k=true->listed.getD k true=true)->
  pE call sg N b its cF listed c->M C N c a w->wpAny P .any ops Q fuel listed a w:=by
 classical
 have hd2:∀(listed:Array Bool),listed.size=ops.size->∀k,k<ops.size->listed.getD k false=listed.getD k true:=by intro listed hs k hk;simp[jX,hs,hk]
 have done:∀(listed:Array Bool)(c:CSt)(a:Act)(w:World),un its listed=[]->pE call sg N b its cF listed c->M C N c a w->Region.ready .any ops listed=[]/\Q .normal a w:=by
  intro listed c a w h0 hS hM;constructor
  ·rw[List.eq_nil_iff_forall_not_mem]
   intro j hj;obtain⟨h1,o,h2,h3⟩:=mem_ready.1 hj;have hj':j<ops.size:=(eo.1 h2).1;obtain⟨it,hit,rfl⟩:=hex j hj';have:it∈un its listed:=cW.2 ⟨hit,h1⟩;rw[h0]at this;cases this
  ·obtain⟨pre,post,p,ps,e,hp,hrun,_,_,hpost,hA,_⟩:=hS.ex
   have hp0:post=[]:=by
    cases post with
    |nil=>rfl
    |cons f r=>have:f∈un its listed:=cW.2 ⟨by rw[e];simp,hpost f (aD ..)⟩;rw[h0]at this;cases this
   subst hp0;simp only[fk,aw.injEq]at hrun;subst hrun;have hD:un pre listed=[]:=by rw[<-h0,e,bJ]
   rw[hD]at hA;refine hQ a w ?_;obtain⟨x,s,hMo,hSi⟩:=hM;refine M.slots (c:=c) ⟨x,s,hMo,hSi⟩ ⟨hA.dom,by rw[<-hA.ob];exact hSi.inv.so,by rw[<-hA.ob];exact hSi.inv.wf⟩ hA.ob.symm hA.tk.symm (fun i=> .inl (hA.get i (by simp)).symm)
 intro fuel;induction fuel with
 |zero=>intro listed c a w hf hs hcl hS hM;exact done listed c a w (bi.1 (by omega)) hS hM
 |succ fuel ih=>
  intro listed c a w hf hs hcl hS hM;constructor
  ·intro hnil
   by_cases h0:un its listed=[]
   ·exact(done listed c a w h0 hS hM).2
   ·exfalso
    have hp:∃n,∃f∈un its listed,f.n=n:=by
     cases hc:un its listed with
     |nil=>exact absurd hc h0
     |cons f r=>exact⟨_,f,aD ..,rfl⟩
    obtain⟨n,⟨f,hfu,hfn⟩,hmin⟩:=ZZ _ hp;obtain⟨h1,h2⟩:=cW.1 hfu;obtain⟨o,h3,_,h4⟩:=hitem f h1
    have:f.n∈Region.ready .any ops listed:=by refine mem_ready.2 ⟨h2,o,h3,fun e he hb=> ?_⟩;have hlt:=hback f.n o h3 e he hb;rw[hd2 listed hs _ (by omega),<-Bool.not_eq_false];intro hfl;obtain⟨g,hg,hgn⟩:=hex e.on (by omega);have:=hmin e.on ⟨g,cW.2 ⟨hg,by rw[hgn];exact hfl⟩,hgn⟩;omega
    rw[hnil]at this;cases this
  ·intro i hir
   obtain⟨h1,o,h2,h3⟩:=mem_ready.1 hir;have hi':i<ops.size:=(eo.1 h2).1;obtain⟨it,hit,rfl⟩:=hex i hi';obtain⟨o',ho',hres,_⟩:=hitem it hit;rw[h2]at ho';cases ho'
   have hdep:∀k,k<ops.size->(b.getD it.n 0).testBit k=true->listed.getD k true=true:=by
    intro k hk hb;obtain⟨e,he,hbd,hor⟩:=hbit it.n o k h2 hk hb;have hon:=h3 e he hbd;have honlt:=hback it.n o h2 e he hbd;rw[hd2 listed hs _ (by omega)]at hon;rcases hor with h|h
    ·rw[<-h];exact hon
    ·exact hcl e.on (ops[e.on]'(by omega)) k (by simp) hon hk h
   have hlen:(un its (listed.setIfInBounds it.n true)).length<(un its listed).length:=by
    have e1:un its (listed.setIfInBounds it.n true)=(un its listed).filter fun q=> !decide (q.n=it.n):=by
     simp only[un,List.filter_filter];apply List.filter_congr;intro q hq;rw[gN (by omega)]
     by_cases h:q.n=it.n<;>simp[h]
    rw[e1];refine List.length_filter_lt_length_iff_exists.2 ⟨it,cW.2 ⟨hit,h1⟩,by simp⟩
   have hcl':∀(i:Nat)(o:Oper)(k:Nat),ops[i]? =some o->(listed.setIfInBounds it.n true).getD i true=true->k<ops.size->(b.getD i 0).testBit k=true->(listed.setIfInBounds it.n true).getD k true=true:=by
    intro i2 o2 k2' ho2 hl2 hk2 hb2;rw[gN (by omega)]at hl2 ⊢;split
    ·rfl
    ·split at hl2
     ·rename_i e1
      subst e1;exact hdep k2' hk2 hb2
     ·exact hcl i2 o2 k2' ho2 hl2 hk2 hb2
   have hne:∀g∈its,listed.getD g.n true=true->g≠it:=by intro g _ hg e;subst e;rw[h1]at hg;cases hg
   have hset:∀g∈its,(listed.setIfInBounds it.n true).getD g.n true=if g=it then true else listed.getD g.n true:=by
    intro g hg;rw[gN (by omega)]
    by_cases h:g=it
    ·subst h;simp
    ·rw[if_neg (fun e=>h (hinj g hg it hit e)),if_neg h]
   obtain⟨pre,post,p,ps,e,hpost0,hrun,hps,hprel,hpostu,hA,hV⟩:=hS.ex;have hpre_in:∀g∈pre,g∈its:=fun g hg=>by rw[e];exact al.2 (.inl hg)
   have hpost_in:∀g∈post,g∈its:=fun g hg=>by rw[e];exact al.2 (.inr hg)
   have hrds:∀n∈it.i.rds,n∉(un pre listed).map dOf:=by
    intro n hn hm;obtain⟨g,hg,hgd⟩:=aV.1 hm;obtain⟨hg1,hg2⟩:=cW.1 hg
    have hgq:g.q=true:=by
     cases hq:g.q with
     |true=>rfl
     |false=>rw[hprel g hg1 hq]at hg2;cases hg2
    obtain⟨d,hd,_⟩:=hself g (hpre_in g hg1) hgq;have hdn:d=n:=by unfold dOf at hgd;rw[hd]at hgd;exact hgd
    subst hdn;have:=hrd g (hpre_in g hg1) hgq it hit d hd hn;obtain⟨_,_,_,hlt⟩:=hitem g (hpre_in g hg1);rw[hdep g.n hlt this]at hg2;cases hg2
   by_cases hin:it∈pre
   ·
    have hq:it.q=true:=by
     cases hq:it.q with
     |true=>rfl
     |false=>rw[hprel it hin hq]at h1;cases h1
    have hiu:it∈un pre listed:=cW.2 ⟨hin,h1⟩;have hv:=hV it hiu;rw[<-hA.qv hrds]at hv;obtain⟨d,hd,hdr⟩:=hself it hit hq;have hdo:dOf it=d:=by unfold dOf;rw[hd];rfl
    refine gy hcal hM (hok it hit) h2 hres (oD (call:=call) (sg:=sg) hv) fun a' w' hM'=> ?_
    refine ih _ _ a' w' (by omega) (by simpa using hs) hcl' ⟨pre,post,p,ps,e,hpost0,hrun,hps, ?_, ?_, ?_, ?_⟩ hM'
    ·intro f hf hfq
     rw[hset f (hpre_in f hf)];split
     ·rfl
     ·exact hprel f hf hfq
    ·intro f hf
     rw[hset f (hpost_in f hf),if_neg]
     ·exact hpostu f hf
     ·intro e2
      subst e2
      have hnd:its.Pairwise fun f g=>f.n≠g.n\/f=g:=List.pairwise_of_forall_mem_list (fun f hf g hg=>by
       by_cases h:f.n=g.n
       ·exact .inr (hinj f hf g hg h)
       ·exact .inl h)
      have h5:=hnx;rw[e]at h5;have h6:=(eW.1 h5).2.2 f hin f hf hq d hd;exact h6.2 hd
    ·refine⟨fun n hn=> ?_, ?_, ?_,hA.dom⟩
     ·rw[hd,gP]
      split
      ·rename_i e2;rw[e2,hdo]
      ·rename_i hnd
       refine hA.get n fun hm=>hn ?_
       obtain⟨g,hg,hgd⟩:=aV.1 hm;obtain⟨hg1,hg2⟩:=cW.1 hg;refine aV.2 ⟨g,cW.2 ⟨hg1, ?_⟩,hgd⟩;rw[hset g (hpre_in g hg1),if_neg]
       ·exact hg2
       ·intro e2;subst e2;rw[hdo]at hgd;exact hnd hgd.symm
     ·cases it.i.dst<;>exact hA.ob
     ·cases it.i.dst<;>exact hA.tk
    ·intro f hf
     obtain⟨hf1,hf2⟩:=cW.1 hf;refine hV f (cW.2 ⟨hf1, ?_⟩);rw[hset f (hpre_in f hf1)]at hf2;split at hf2
     ·cases hf2
     ·exact hf2
   ·
    have hinp:it∈post:=by rw[e]at hit;exact(al.1 hit).resolve_left hin
    obtain⟨f0,r,hpe,hf0⟩:∃f r,post=f::r/\f.q=false:=by
     rcases hpost0 with h|h
     ·subst h;cases hinp
     ·exact h
    have hit0:it=f0:=by
     rw[hpe]at hinp;rcases an.1 hinp with h|h
     ·exact h
     ·exfalso
      obtain⟨g,hg,hgb⟩:=hseg pre f0 r (by rw[e,hpe]) hf0 it h;have hgi:g∈post:=by rw[hpe];exact hg
      obtain⟨_,_,_,hlt⟩:=hitem g (hpost_in g hgi);have:=hdep g.n hlt hgb;rw[hpostu g hgi]at this;cases this
    subst hit0;subst hpe;obtain⟨n,q,i⟩:=it;simp only at hf0;subst hf0;simp only[fk]at hrun;cases hs1:dJ call sg p i with
    |none=>rw[hs1]at hrun;simp[qL]at hrun
    |some p1=>
     rw[hs1]at hrun;simp only[qL]at hrun;cases hg:gdP (tt (b.getD n 0) p1 ps) p1 with
     |none=>rw[hg]at hrun;simp[qM]at hrun
     |some p1'=>
      rw[hg]at hrun;simp only[qM]at hrun;obtain⟨hchk,rfl⟩:=p9 hg;obtain⟨c1,hc1,hA1⟩:=hA.step (hok _ hit) hrds hs1;refine gy hcal hM (hok _ hit) h2 hres hc1 fun a' w' hM'=> ?_
      have hsub:∀g∈un pre listed,g.q=true:=by
       intro g hg;obtain⟨hg1,hg2⟩:=cW.1 hg;cases hq:g.q with
       |true=>rfl
       |false=>rw[hprel g hg1 hq]at hg2;cases hg2
      have hnx':=hnx;rw[e]at hnx';have hpa:=eW.1 hnx'
      obtain⟨seg,post',p2,ps2,k1,k2,k3,k4,k5,k6,k7⟩:=mN (V:=un pre listed) hrun hA1 (fun f hf=>hok f (hpost_in f (aq _ hf))) (fun f hf=>hself f (hpost_in f (aq _ hf)))
       (bQ.1 hpa.2.1).2 (fun g hg f hf=>hpa.2.2 g (cW.1 hg).1 f (aq _ hf))
       (fun g hg=>by obtain⟨d,hd,_⟩:=hself g (hpre_in g (cW.1 hg).1) (hsub g hg);exact⟨d,hd⟩)
       (fun g hg=>by
        obtain⟨hg1,hg2⟩:=cW.1 hg;rcases qc hchk (hps g hg1 (hsub g hg))with h|h
        ·obtain⟨_,_,_,hlt⟩:=hitem g (hpre_in g hg1)
         rw[hdep g.n hlt h]at hg2;cases hg2
        ·exact h)
      have hun:un (pre++⟨n,false,i⟩::seg) (listed.setIfInBounds n true)=un pre listed++seg:=by
       unfold un;rw[List.filter_append,kX];have e1:(listed.setIfInBounds n true).getD n true=true:=by rw[gN (by rw[hs];exact hi')];simp
       simp only[e1,Bool.not_true,aK,if_false]
       congr 1
       ·apply List.filter_congr
        intro g hg;have:=hset g (hpre_in g hg);simp only at this;rw[this,if_neg];intro e2;subst e2;exact hin hg
       ·apply iq.2
        intro g hg;have hgi:g∈⟨n,false,i⟩::r:=by rw[k1];exact aq _ (al.2 (.inl hg))
        have:=hset g (hpost_in g hgi);simp only at this;rw[this,if_neg]
        ·rw[hpostu g hgi];rfl
        ·intro e2;subst e2;have:=k2 _ hg;cases this
      refine ih _ _ a' w' (by omega) (by simpa using hs) hcl' ⟨pre++⟨n,false,i⟩::seg,post',p2,ps2,by rw[e,k1];simp,k3,k4, ?_, ?_, ?_, ?_, ?_⟩ hM'
      ·intro f hf hfq
       rcases al.1 hf with h|h
       ·exact k5 f (.inl (hps f h hfq))
       ·rcases an.1 h with rfl|h
        ·cases hfq
        ·exact k5 f (.inr h)
      ·intro f hf hfq
       rcases al.1 hf with h|h
       ·rw[hset f (hpre_in f h)]
        split
        ·rfl
        ·exact hprel f h hfq
       ·rcases an.1 h with rfl|h
        ·rw[hset _ hit,if_pos rfl]
        ·rw[k2 f h]at hfq;cases hfq
      ·intro f hf
       have hfi:f∈⟨n,false,i⟩::r:=by rw[k1];exact aq _ (al.2 (.inr hf))
       rw[hset f (hpost_in f hfi),if_neg]
       ·exact hpostu f hfi
       ·intro e2
        subst e2;obtain⟨g,hg,hgb⟩:=hseg pre ⟨n,false,i⟩ r e rfl ⟨n,false,i⟩ (by rw[k1];exact al.2 (.inr hf));obtain⟨_,_,_,hlt⟩:=hitem g (hpost_in g hg);have:=hdep g.n hlt hgb;rw[hpostu g hg]at this;cases this
      ·rw[hun,cn]
       refine⟨fun m hm=>k6.get m (fun h=>hm ?_),k6.ob,k6.tk,k6.dom⟩;rw[al]at h ⊢;exact h.symm
      ·rw[hun]
       intro f hf;exact k7 f (al.1 hf)
end
theorem r6{f:FI}(l:List FI)(h:(l.map FI.n).Nodup)(hf:f∈l):E5 l f.n=f.i.er:=by
 induction l with
 |nil=>cases hf
 |cons g r ih=>
  simp only[aI,ed]at h;simp only[E5];rcases an.1 hf with rfl|hf
  ·rw[if_pos rfl]
  ·rw[if_neg,ih h.2 hf]
   intro e;apply h.1;rw[e];exact ip hf
theorem FY{b:List Nat}{s:Nat}(l:List FI):nP b (some s) l=true->∀g∈l,(b.getD g.n 0).testBit s=true\/∃h∈l,(b.getD g.n 0).testBit h.n=true:=by
 induction l generalizing s with
 |nil=>intro _ g hg;cases hg
 |cons f r ih=>
  intro h g hg;simp only[nP]at h;split at h
  ·simp only[az,ny]at h
   rcases an.1 hg with rfl|hg
   ·exact .inl h.1
   ·rcases ih h.2 g hg with h1|⟨k,hk,h1⟩
    ·exact .inl h1
    ·exact .inr ⟨k,aq _ hk,h1⟩
  ·simp only[az,ny]at h
   rcases an.1 hg with rfl|hg
   ·exact .inl h.1
   ·rcases ih h.2 g hg with h1|⟨k,hk,h1⟩
    ·exact .inr ⟨f,aD ..,h1⟩
    ·exact .inr ⟨k,aq _ hk,h1⟩
theorem yd{b:List Nat}:∀{pre:List FI}{s:Option Nat}{f:FI}{r:List FI},nP b s (pre++f::r)=true->f.q=false->nP b (some f.n) r=true
 |[],s,f,r,h,hf=>by simp only[aF,nP,hf,aK,if_false,az]at h;exact h.2
 |g::pre,s,f,r,h,hf=>by
  simp only[aJ,nP]at h;split at h
  ·rw[az]at h;exact yd h.2 hf
  ·rw[az]at h;exact yd h.2 hf
theorem oW{b:List Nat}:∀{l:List FI},oX b l=true->l.Pairwise fun p q=>(b.getD p.n 0).testBit q.n=false
 |[],_=>eD.nil
 |p::r,h=>by simp only[oX,az,aY]at h;refine bQ.2 ⟨fun q hq=> ?_,oW h.2⟩;have:=h.1 q hq;simp only[O9,az,dB,ny]at this;exact this.1
theorem Ej(hcal:gq P call){id:Nat}{ops:Array Oper}{its:List FI}(hl:jo (fY P ops) ops.toList=some (unF its))(hd:drawn ops (unF its)=true)(hm:P.follows .mixedOrders=true)
 (hok:its.all (fun f=>f.i.ok N)=true) (hflt:Qu (Region.before ops).toList its=true) {cF:CSt} {Q:Exit->Act->World->Prop} (hQ:∀a w,M C N cF a w->Q .normal a w) (hM:M C N c a w)
 (h:fk call sg (Region.before ops).toList its [] c=some cF):(Code.region id ops true).wp P Q a w:=by
 simp only[Qu,az,decide_eq_true_eq,aY]at hflt;obtain⟨⟨⟨⟨⟨hseg,hpairs⟩,hfq⟩,hnd⟩,hlt⟩,hcov⟩:=hflt;simp only[S1,aY,eY,dB]at hfq;rw[aY]at hok;obtain⟨hlen,hget⟩:=eT hl;have hul:(unF its).length=its.length:=by simp[unF]
 have hsz:its.length=ops.size:=by rw[<-hul,hlen,aU]
 have hun:∀f∈its,(unF its).getD f.n ⟨none,none,.lenC 0⟩=f.i.er:=by intro f hf;have:=hlt f hf;rw[aa];simp only[unF,aT,cI this,bx,bB];exact r6 _ hnd hf
 simp only[drawn,az,decide_eq_true_eq]at hd;obtain⟨⟨hc,ht⟩,hdst⟩:=hd
 have hitem:∀f∈its,∃o,ops[f.n]? =some o/\fY P ops o=some f.i.er/\f.n<ops.size:=by
  intro f hf;have hfl:=hlt f hf;have hj2:f.n<ops.toList.length:=by rw[aU];omega
  refine⟨ops.toList[f.n],by rw[<-dh,ab hj2], ?_,by omega⟩;have h1:=hget f.n hj2 (by omega);rw[h1]
  congr 1
  have h2:=hun f hf;rwa[aa,ab (by omega),bB]at h2
 have hinj:∀f∈its,∀g∈its,f.n=g.n->f=g:=by
  intro f hf g hg e;have:its.Pairwise fun f g=>f.n≠g.n:=by rw[ww,gC]at hnd;exact hnd
  rw[ox]at this;obtain⟨i,hi,rfl⟩:=List.mem_iff_getElem.1 hf;obtain⟨j,hj,rfl⟩:=List.mem_iff_getElem.1 hg;rcases Nat.lt_trichotomy i j with h|h|h
  ·exact absurd e (this i j hi hj h)
  ·subst h;rfl
  ·exact absurd e.symm (this j i hj hi h)
 have hdd:∀f∈its,∀g∈its,f.n≠g.n->∀d,f.i.dst=some d->g.i.dst≠some d:=by
  have main:∀f∈its,∀g∈its,f.n<g.n->∀d,f.i.dst=some d->g.i.dst≠some d:=by
   intro f hf g hg hlt' d h1 h2
   have hpl:(unF its).Pairwise fun u v=>∀d,u.dst=some d->v.dst≠some d:=by rw[ww,List.pairwise_filterMap]at hdst;refine hdst.imp ?_;intro u v huv d hu hv;exact huv d hu d hv rfl
   rw[ox]at hpl;have hf':=hlt f hf;have hg':=hlt g hg
   have g1:(unF its)[f.n]'(by omega)=f.i.er:=by have:=hun f hf;rwa[aa,ab (by omega),bB]at this
   have g2:(unF its)[g.n]'(by omega)=g.i.er:=by have:=hun g hg;rwa[aa,ab (by omega),bB]at this
   exact hpl f.n g.n (by omega) (by omega) hlt' d (by rw[g1];exact h1) (by rw[g2];exact h2)
  intro f hf g hg hne d h1 h2;rcases bX f.n g.n with h|h
  ·exact main f hf g hg h d h1 h2
  ·exact main g hg f hf (by omega) d h2 h1
 have hclosed:∀(i:Nat)(o:Oper),ops[i]? =some o->(∀e∈o.after,Region.binds .any e=true->e.on<i)/\
  ∀k,k<ops.size->((Region.before ops).toList.getD i 0).testBit k=true->∃e∈o.after,Region.binds .any e=true/\(e.on=k\/((Region.before ops).toList.getD e.on 0).testBit k=true):=by
  intro i o ho;unfold qj at hc;rw[aY]at hc;have hi:i<ops.size:=(eo.1 ho).1
  have h1:=hc (o,i) (by rw[List.mem_zipIdx_iff_getElem?];simpa using ho)
  simp only[az,Array.all_eq_true_iff_forall_mem,aY,eY,dB,decide_eq_true_eq]at h1;refine⟨fun e he hb=>(h1.1 e he).resolve_left (by simp[hb]),fun k hk hb=> ?_⟩;have h2:=(h1.2 k (gX.2 hk)).resolve_left (by simp only[hb];simp);obtain⟨_,h3⟩:=h2;rw[<-Array.any_toList,List.any_eq_true]at h3;obtain⟨e,he,h4⟩:=h3;rw[Array.mem_toList_iff]at he;simp only[az,eY,beq_iff_eq]at h4;exact⟨e,he,h4.1,h4.2⟩
 have hq:∀q∈its,q.q=true->∃d,q.i.dst=some d/\∀p∈its,d∈p.i.rds->((Region.before ops).toList.getD p.n 0).testBit q.n=true/\p.n≠q.n:=by
  intro q hq hqq;have h1:=(hfq q hq).resolve_left (by rw[hqq];simp);cases hd:q.i.dst with
  |none=>rw[hd]at h1;cases h1
  |some d=>
   rw[hd]at h1;simp only[aY,eY,dB,az,decide_eq_true_eq,ny]at h1;refine⟨d,rfl,fun p hp hr=> ?_⟩;rcases h1 p hp with h2|h2
   ·rw[eX]at h2;simp only[decide_eq_false_iff_not]at h2;exact absurd hr h2
   ·exact h2
 have hself:∀f∈its,xV f:=by intro f hf hfq;obtain⟨d,hd,h1⟩:=hq f hf hfq;exact⟨d,hd,fun h=>(h1 f hf h).2 rfl⟩
 have hrd:∀q∈its,q.q=true->∀p∈its,∀d,q.i.dst=some d->d∈p.i.rds->((Region.before ops).toList.getD p.n 0).testBit q.n=true:=by intro q hq' hqq p hp d hd hr;obtain⟨d',hd',h1⟩:=hq q hq' hqq;rw[hd']at hd;cases hd;exact(h1 p hp hr).1
 have hnx:its.Pairwise Nx:=by
  have h1:its.Pairwise fun f g=>f.n≠g.n:=by rw[ww,gC]at hnd;exact hnd
  refine((oW hpairs).and h1).imp_of_mem ?_;rintro p q hp hq' ⟨h2,h3⟩ hqq d hd;refine⟨fun hr=> ?_,fun e=>hdd p hp q hq' h3 d e hd⟩;rw[hrd q hq' hqq p hp d hd hr]at h2;cases h2
 obtain⟨seg,post,p2,ps2,k1,k2,k3,k4,k5,k6,k7⟩:=mN (N:=N) (D:=[]) (V:=[]) h ⟨fun _ _=>rfl,rfl,rfl,by obtain⟨x,s,_,hS⟩:=hM;exact hS.inv.dom⟩ (fun f hf=>hok f hf) hself hnx (by simp) (by simp) (by simp)
 have hfalse:∀f∈its,(dX ops.size false).getD f.n true=false:=by
  intro f hf;have:=hlt f hf;have:f.n<ops.size:=by omega
  simp[jX,this]
 have hunf:un seg (dX ops.size false)=seg:=by apply iq.2;intro f hf;rw[hfalse f (by rw[k1];exact al.2 (.inl hf))];rfl
 refine wp_region_any hm ?_
 refine xD (its:=its) (b:=(Region.before ops).toList) (cF:=cF) (sg:=sg) hcal hitem (fun j hj=> ?_) hinj (fun i o ho=>(hclosed i o ho).1) (fun i o k ho hk hb=>(hclosed i o ho).2 k hk hb) (fun f hf=>hok f hf) hself hnx hrd
  (fun pre f r e hf g hg=> ?_) hdd hQ ops.size _ c a _ ?_ (by simp) ?_ ⟨seg,post,p2,ps2,k1,k3,k4,fun f hf _=>k5 f (.inr hf),(fun f hf hq=>by rw[k2 f hf]at hq;cases hq),fun f hf=>hfalse f (by rw[k1];exact al.2 (.inr hf)), ?_, ?_⟩ ?_
 ·have:=hcov j (gX.2 (by omega))
  rw[eX]at this;simp only[decide_eq_true_eq]at this;obtain⟨f,hf,e⟩:=aV.1 this;exact⟨f,hf,e⟩
 ·rw[e]at hseg
  rcases FY _ (yd hseg hf) g hg with h1|⟨k,hk,h1⟩
  ·exact⟨f,aD ..,h1⟩
  ·exact⟨k,aq _ hk,h1⟩
 ·have:(un its (dX ops.size false)).length<=its.length:=List.length_filter_le _ _
  omega
 ·intro i o k ho hl _ _
  have hi:i<ops.size:=(eo.1 ho).1;simp[jX,hi]at hl
 ·rw[hunf];simpa using k6
 ·rw[hunf];intro f hf;exact k7 f (.inr hf)
 ·obtain⟨x,s,hMo,hS⟩:=hM
  exact⟨x,s,⟨hMo.tm,hMo.defers,hMo.heap.drawn _⟩,hS⟩
end Go.Sy
namespace Go.Sy
variable [bg]
variable {P : Program} {C : Ctx} {x : Sit} {a : Act} {w : World} {N : Nat} {c c' : CSt} {s : St} {call : de} {sg : Nat -> Sig}
variable {ops : Array Oper} {its σ : List FI} {b : List Nat} {cF : CSt} {listed : Array Bool}
structure Py(P:Program)(N:Nat)(ops:Array Oper)(its:List FI)(b:List Nat):Prop where
 item:∀f∈its,∃o,ops[f.n]? =some o/\fY P ops o=some f.i.er/\f.n<ops.size
 ex:∀j,j<ops.size->∃f∈its,f.n=j
 inj:∀f∈its,∀g∈its,f.n=g.n->f=g
 back:∀(i:Nat)(o:Oper),ops[i]? =some o->∀e∈o.after,Region.binds .any e=true->e.on<i
 bit:∀(i:Nat)(o:Oper)(k:Nat),ops[i]? =some o->k<ops.size->(b.getD i 0).testBit k=true->∃e∈o.after,Region.binds .any e=true/\(e.on=k\/(b.getD e.on 0).testBit k=true)
 ok:∀f∈its,f.i.ok N=true
 self:∀f∈its,xV f
 rd:∀q∈its,q.q=true->∀p∈its,∀d,q.i.dst=some d->d∈p.i.rds->(b.getD p.n 0).testBit q.n=true
structure T3(its:List FI)(b:List Nat)(σ:List FI):Prop where
 mem:∀f,f∈σ↔f∈its
 nd:(σ.map FI.n).Nodup
 nx:σ.Pairwise Nx
 seg:∀pre f r,σ=pre++f::r->f.q=false->∀g∈r,g.q=true->∃h∈f::r,(b.getD g.n 0).testBit h.n=true
open Classical in
theorem AC(hs:listed.size=ops.size){it g:FI}(I:Py P N ops its b)(hit:it∈its)(hg:g∈its)(hi:it.n<ops.size):(listed.setIfInBounds it.n true).getD g.n true=if g=it then true else listed.getD g.n true:=by
 rw[gN (by omega)]
 by_cases h:g=it
 ·subst h;simp
 ·rw[if_neg (fun e=>h (I.inj g hg it hit e)),if_neg h]
theorem C4(I:Py P N ops its b)(O:T3 its b σ){pre:List FI}{it:FI}(hit:it∈its)(hpre:∀g∈pre,g∈its)(hprel:∀f∈pre,f.q=false->listed.getD f.n true=true)
 (hdep:∀k,k<ops.size->(b.getD it.n 0).testBit k=true->listed.getD k true=true):∀n∈it.i.rds,n∉(un pre listed).map dOf:=by
 intro n hn hm;obtain⟨g,hg,hgd⟩:=aV.1 hm;obtain⟨hg1,hg2⟩:=cW.1 hg
 have hgq:g.q=true:=by
  cases hq:g.q with
  |true=>rfl
  |false=>rw[hprel g hg1 hq]at hg2;cases hg2
 obtain⟨d,hd,_⟩:=I.self g (hpre g hg1) hgq;have hdn:d=n:=by unfold dOf at hgd;rw[hd]at hgd;exact hgd
 subst hdn;have:=I.rd g (hpre g hg1) hgq it hit d hd hn;obtain⟨_,_,_,hlt⟩:=I.item g (hpre g hg1);rw[hdep g.n hlt this]at hg2;cases hg2
theorem Av(hs:listed.size=ops.size)(I:Py P N ops its b)(O:T3 its b σ)(hS:pE call sg N b σ cF listed c){it:FI}(hit:it∈its)(h1:listed.getD it.n true=false)(hq:it.q=true)
 (hdep:∀k,k<ops.size->(b.getD it.n 0).testBit k=true->listed.getD k true=true):
 ∃v,qv c it.i=some v/\pE call sg N b σ cF (listed.setIfInBounds it.n true) (c.put it.i.dst v):=by
 classical
 obtain⟨_,_,_,hi'⟩:=I.item it hit;have hset:∀g∈its,(listed.setIfInBounds it.n true).getD g.n true=if g=it then true else listed.getD g.n true:=fun g hg=>AC hs I hit hg hi'
 obtain⟨pre,post,p,ps,e,hpost0,hrun,hps,hprel,hpostu,hA,hV⟩:=hS.ex;have hpre_in:∀g∈pre,g∈its:=fun g hg=>(O.mem g).1 (by rw[e];exact al.2 (.inl hg))
 have hpost_in:∀g∈post,g∈its:=fun g hg=>(O.mem g).1 (by rw[e];exact al.2 (.inr hg))
 have hrds:=C4 (listed:=listed) I O hit hpre_in hprel hdep
 have hin:it∈pre:=by
  have h2:=(O.mem it).2 hit;rw[e]at h2;rcases al.1 h2 with h3|h3
  ·exact h3
  ·exfalso
   rcases hpost0 with h4|⟨f0,r,h4,hf0⟩
   ·rw[h4]at h3;cases h3
   ·have h5:it∈r:=by
     rw[h4]at h3;rcases an.1 h3 with h|h
     ·rw[h,hf0]at hq;cases hq
     ·exact h
    obtain⟨g,hg,hgb⟩:=O.seg pre f0 r (by rw[e,h4]) hf0 it h5 hq;have hgi:g∈post:=by rw[h4];exact hg
    obtain⟨_,_,_,hlt⟩:=I.item g (hpost_in g hgi);have:=hdep g.n hlt hgb;rw[hpostu g hgi]at this;cases this
 have hiu:it∈un pre listed:=cW.2 ⟨hin,h1⟩;have hv:=hV it hiu;rw[<-hA.qv hrds]at hv;obtain⟨d,hd,hdr⟩:=I.self it hit hq;have hdo:dOf it=d:=by unfold dOf;rw[hd];rfl
 refine⟨_,hv,⟨pre,post,p,ps,e,hpost0,hrun,hps, ?_, ?_, ?_, ?_⟩⟩
 ·intro f hf hfq
  rw[hset f (hpre_in f hf)];split
  ·rfl
  ·exact hprel f hf hfq
 ·intro f hf
  rw[hset f (hpost_in f hf),if_neg]
  ·exact hpostu f hf
  ·intro e2
   subst e2;have h5:=O.nx;rw[e]at h5;have h6:=(eW.1 h5).2.2 f hin f hf hq d hd;exact h6.2 hd
 ·refine⟨fun n hn=> ?_, ?_, ?_,hA.dom⟩
  ·rw[hd,gP]
   split
   ·rename_i e2;rw[e2,hdo]
   ·rename_i hnd
    refine hA.get n fun hm=>hn ?_
    obtain⟨g,hg,hgd⟩:=aV.1 hm;obtain⟨hg1,hg2⟩:=cW.1 hg;refine aV.2 ⟨g,cW.2 ⟨hg1, ?_⟩,hgd⟩;rw[hset g (hpre_in g hg1),if_neg]
    ·exact hg2
    ·intro e2;subst e2;rw[hdo]at hgd;exact hnd hgd.symm
  ·cases it.i.dst<;>exact hA.ob
  ·cases it.i.dst<;>exact hA.tk
 ·intro f hf
  obtain⟨hf1,hf2⟩:=cW.1 hf;refine hV f (cW.2 ⟨hf1, ?_⟩);rw[hset f (hpre_in f hf1)]at hf2;split at hf2
  ·cases hf2
  ·exact hf2
theorem Hf(l r:List FI):fz (l++r)=fz l++fz r:=List.filterMap_append
theorem Ey{l:List FI}(h:∀f∈l,f.q=true):fz l=[]:=by unfold fz;rw[List.filterMap_eq_nil_iff];intro f hf;rw[h f hf];rfl
theorem pT{l:List FI}{k:Nat}:k∈fz l↔∃f∈l,f.q=false/\f.n=k:=by
 unfold fz;rw[List.mem_filterMap];constructor
 ·rintro⟨f,hf,h⟩
  cases hq:f.q with
  |true=>rw[hq]at h;cases h
  |false=>rw[hq]at h;exact⟨f,hf,hq,by simpa using h⟩
 ·rintro⟨f,hf,hq,rfl⟩;exact⟨f,hf,by rw[hq];rfl⟩
theorem kf(k:Nat):∀l:List FI,fz (l.filter fun q=> !decide (q.n=k))=(fz l).filter fun x=> !decide (x=k)
 |[]=>rfl
 |f::r=>by
  have ih:=kf k r;rw[kX]
  by_cases h:f.n=k
  ·cases hq:f.q with
   |true=>simp only[h,decide_true,Bool.not_true,aK,if_false,ih];simp[fz,hq]
   |false=>simp only[h,decide_true,Bool.not_true,aK,if_false,ih];simp[fz,hq,h]
  ·cases hq:f.q with
   |true=>simp only[h,decide_false,Bool.not_false,if_true];simp only[fz,List.filterMap_cons,hq,if_true]at ih ⊢;exact ih
   |false=>simp only[h,decide_false,Bool.not_false,if_true];simp only[fz,List.filterMap_cons,hq,aK,if_false,kX,h,decide_false,Bool.not_false,if_true]at ih ⊢;rw[ih]
theorem ya(hs:listed.size=ops.size){k:Nat}(hk:k<ops.size)(σ:List FI):un σ (listed.setIfInBounds k true)=(un σ listed).filter fun q=> !decide (q.n=k):=by
 simp only[un,List.filter_filter];apply List.filter_congr;intro q hq;rw[gN (by omega)]
 by_cases h:q.n=k<;>simp[h]
theorem Aw(hs:listed.size=ops.size)(I:Py P N ops its b)(O:T3 its b σ)(hS:pE call sg N b σ cF listed c){it:FI}(hit:it∈its)(h1:listed.getD it.n true=false)(hq:it.q=false)
 (hdep:∀k,k<ops.size->(b.getD it.n 0).testBit k=true->listed.getD k true=true) (hh:(fz (un σ listed)).head? =some it.n):
 ∃c1,dJ call sg c it.i=some c1/\pE call sg N b σ cF (listed.setIfInBounds it.n true) c1:=by
 classical
 obtain⟨_,_,_,hi'⟩:=I.item it hit;have hset:∀g∈its,(listed.setIfInBounds it.n true).getD g.n true=if g=it then true else listed.getD g.n true:=fun g hg=>AC hs I hit hg hi'
 obtain⟨pre,post,p,ps,e,hpost0,hrun,hps,hprel,hpostu,hA,hV⟩:=hS.ex;have hpre_in:∀g∈pre,g∈its:=fun g hg=>(O.mem g).1 (by rw[e];exact al.2 (.inl hg))
 have hpost_in:∀g∈post,g∈its:=fun g hg=>(O.mem g).1 (by rw[e];exact al.2 (.inr hg))
 have hrds:=C4 (listed:=listed) I O hit hpre_in hprel hdep
 have hsub:∀g∈un pre listed,g.q=true:=by
  intro g hg;obtain⟨hg1,hg2⟩:=cW.1 hg;cases hq:g.q with
  |true=>rfl
  |false=>rw[hprel g hg1 hq]at hg2;cases hg2
 have hup:un post listed=post:=iq.2 fun f hf=>by rw[hpostu f hf];rfl
 have hu:fz (un σ listed)=fz post:=by
  have:un σ listed=un pre listed++un post listed:=by rw[e];exact List.filter_append ..
  rw[this,Hf,Ey hsub,hup];rfl
 rw[hu]at hh
 obtain⟨f0,r,hpe,hf0⟩:∃f r,post=f::r/\f.q=false:=by
  rcases hpost0 with h|h
  ·rw[h]at hh;cases hh
  ·exact h
 have hit0:it=f0:=by
  rw[hpe]at hh;have h2:fz (f0::r)=f0.n::fz r:=by simp[fz,hf0]
  rw[h2]at hh;simp only[List.head?_cons,aw.injEq]at hh;exact I.inj it hit f0 (hpost_in f0 (by rw[hpe];exact aD ..)) hh.symm
 subst hit0;subst hpe
 have hnd:(pre++it::r).Pairwise fun f g=>f.n≠g.n:=by have:=O.nd;rw[e,ww,gC]at this;exact this
 obtain⟨n,q,i⟩:=it;simp only at hf0;subst hf0;simp only[fk]at hrun;cases hs1:dJ call sg p i with
 |none=>rw[hs1]at hrun;simp[qL]at hrun
 |some p1=>
  rw[hs1]at hrun;simp only[qL]at hrun;cases hg:gdP (tt (b.getD n 0) p1 ps) p1 with
  |none=>rw[hg]at hrun;simp[qM]at hrun
  |some p1'=>
   rw[hg]at hrun;simp only[qM]at hrun;obtain⟨hchk,rfl⟩:=p9 hg;obtain⟨c1,hc1,hA1⟩:=hA.step (I.ok _ hit) hrds hs1;refine⟨c1,hc1, ?_⟩;have hnx':=O.nx;rw[e]at hnx';have hpa:=eW.1 hnx'
   obtain⟨seg,post',p2,ps2,k1,k2,k3,k4,k5,k6,k7⟩:=mN (V:=un pre listed) hrun hA1 (fun f hf=>I.ok f (hpost_in f (aq _ hf))) (fun f hf=>I.self f (hpost_in f (aq _ hf)))
    (bQ.1 hpa.2.1).2 (fun g hg f hf=>hpa.2.2 g (cW.1 hg).1 f (aq _ hf))
    (fun g hg=>by obtain⟨d,hd,_⟩:=I.self g (hpre_in g (cW.1 hg).1) (hsub g hg);exact⟨d,hd⟩)
    (fun g hg=>by
     obtain⟨hg1,hg2⟩:=cW.1 hg;rcases qc hchk (hps g hg1 (hsub g hg))with h|h
     ·obtain⟨_,_,_,hlt⟩:=I.item g (hpre_in g hg1)
      rw[hdep g.n hlt h]at hg2;cases hg2
     ·exact h)
   have hnp:∀g∈pre,g≠⟨n,false,i⟩:=fun g hg e2=>by have:=(eW.1 hnd).2.2 g hg _ (aD ..);rw[e2]at this;exact this rfl
   have hnr:∀g∈r,g≠⟨n,false,i⟩:=fun g hg e2=>by have:=(bQ.1 (eW.1 hnd).2.1).1 g hg;rw[e2]at this;exact this rfl
   have hun:un (pre++⟨n,false,i⟩::seg) (listed.setIfInBounds n true)=un pre listed++seg:=by
    unfold un;rw[List.filter_append,kX];have e1:(listed.setIfInBounds n true).getD n true=true:=by rw[gN (by rw[hs];exact hi')];simp
    simp only[e1,Bool.not_true,aK,if_false]
    congr 1
    ·apply List.filter_congr
     intro g hg;have:=hset g (hpre_in g hg);simp only at this;rw[this,if_neg (hnp g hg)]
    ·apply iq.2
     intro g hg;have hgr:g∈r:=by rw[k1];exact al.2 (.inl hg)
     have hgi:g∈⟨n,false,i⟩::r:=aq _ hgr;have:=hset g (hpost_in g hgi);simp only at this;rw[this,if_neg (hnr g hgr),hpostu g hgi];rfl
   refine⟨pre++⟨n,false,i⟩::seg,post',p2,ps2,by rw[e,k1];simp,k3,k4, ?_, ?_, ?_, ?_, ?_⟩
   ·intro f hf hfq
    rcases al.1 hf with h|h
    ·exact k5 f (.inl (hps f h hfq))
    ·rcases an.1 h with rfl|h
     ·cases hfq
     ·exact k5 f (.inr h)
   ·intro f hf hfq
    rcases al.1 hf with h|h
    ·rw[hset f (hpre_in f h)]
     split
     ·rfl
     ·exact hprel f h hfq
    ·rcases an.1 h with rfl|h
     ·rw[hset _ hit,if_pos rfl]
     ·rw[k2 f h]at hfq;cases hfq
   ·intro f hf
    have hfr:f∈r:=by rw[k1];exact al.2 (.inr hf)
    have hfi:f∈⟨n,false,i⟩::r:=aq _ hfr;rw[hset f (hpost_in f hfi),if_neg (hnr f hfr)];exact hpostu f hfi
   ·rw[hun,cn]
    refine⟨fun m hm=>k6.get m (fun h=>hm ?_),k6.ob,k6.tk,k6.dom⟩;rw[al]at h ⊢;exact h.symm
   ·rw[hun]
    intro f hf;exact k7 f (al.1 hf)
theorem Hd{k:Nat}{g:Nat}{A:List (List Nat)}(h:kT b k A=true)(hg:∀l,A.head? =some l->g∈l)(hr:∀l,A.head? =some l->∀x∈l,x≠g->(b.getD g 0).testBit x=false):
 ∃k',kT b k' (A.filterMap fun p=>match p with|x::r=>if x=g then some r else none|[]=>none)=true:=by
 cases A with
 |nil=>cases k<;>simp[kT]at h
 |cons l A=>
  cases l with
  |nil=>have:=hg [] rfl;cases this
  |cons y t=>
   cases k with
   |zero=>simp[kT]at h
   |succ k=>
    simp only[kT,aY]at h;have h1:=h g (hg _ rfl);rw[eY]at h1;rcases h1 with h1|h1
    ·exfalso
     rw[List.any_eq_true]at h1;obtain⟨x,hx,h2⟩:=h1;rw[az]at h2;have h3:=of_decide_eq_true h2.1;have:=hr _ rfl x hx h3;unfold ny at h2;rw[h2.2]at this;cases this
    ·exact⟨k,h1⟩
theorem su{R R':List FI->List Nat}{g:Nat}:∀{A:List (List FI)},(∀σ∈A,∀r,R σ=g::r->R' σ=r)->
 (A.filter fun σ=>decide ((R σ).head? =some g)).map R'=(A.map R).filterMap fun p=>match p with|x::r=>if x=g then some r else none|[]=>none
 |[],_=>rfl
 |σ::A,h=>by
  have ih:=su (R:=R) (R':=R') (g:=g) (A:=A) fun τ hτ=>h τ (aq _ hτ)
  have h0:=h σ (aD ..);rw[kX,aI,List.filterMap_cons];cases hR:R σ with
  |nil=>simp only[List.head?_nil,reduceCtorEq,decide_false,aK,if_false];exact ih
  |cons y t=>
   by_cases hy:y=g
   ·subst hy
    simp only[List.head?_cons,decide_true,if_true,aI,h0 t hR];rw[ih]
   ·have:¬(some y=some g):=fun e=>hy (by injection e)
    simp only[List.head?_cons,this,decide_false,aK,if_false,hy];exact ih
theorem Hm(
 hcal:gq P call)(I:Py P N ops its b){ords:List (List FI)}(hO:∀σ∈ords,T3 its b σ){Q:Exit->Act->World->Prop}(hQ:∀a w,M C N cF a w->Q .normal a w):
 ∀(fuel:Nat)(listed:Array Bool)(c:CSt)(a:Act)(w:World)(A:List (List FI))(k:Nat),(un its listed).length<=fuel->listed.size=ops.size->
  (∀(i:Nat)(o:Oper)(k:Nat),ops[i]? =some o->listed.getD i true=true->k<ops.size->(b.getD i 0).testBit k=true->listed.getD k true=true)->
  (∀σ∈A,σ∈ords/\pE call sg N b σ cF listed c)->kT b k (A.map fun σ=>fz (un σ listed))=true->M C N c a w->wpAny P .any ops Q fuel listed a w:=by
 classical
 have hd2:∀(listed:Array Bool),listed.size=ops.size->∀k,k<ops.size->listed.getD k false=listed.getD k true:=by intro listed hs k hk;simp[jX,hs,hk]
 have done:∀(listed:Array Bool)(c:CSt)(a:Act)(w:World)(A:List (List FI))(k:Nat),un its listed=[]->(∀σ∈A,σ∈ords/\pE call sg N b σ cF listed c)->kT b k (A.map fun σ=>fz (un σ listed))=true->M C N c a w->Region.ready .any ops listed=[]/\Q .normal a w:=by
  intro listed c a w A k h0 hA' hcov hM;constructor
  ·rw[List.eq_nil_iff_forall_not_mem]
   intro j hj;obtain⟨h1,o,h2,h3⟩:=mem_ready.1 hj;have hj':j<ops.size:=(eo.1 h2).1;obtain⟨it,hit,rfl⟩:=I.ex j hj';have:it∈un its listed:=cW.2 ⟨hit,h1⟩;rw[h0]at this;cases this
  ·cases A with
   |nil=>cases k<;>simp[kT]at hcov
   |cons σ A=>
    obtain⟨hσ,hS⟩:=hA' σ (aD ..)
    have h0':un σ listed=[]:=by rw[List.eq_nil_iff_forall_not_mem];intro f hf;obtain⟨h1,h2⟩:=cW.1 hf;have:f∈un its listed:=cW.2 ⟨((hO σ hσ).mem f).1 h1,h2⟩;rw[h0]at this;cases this
    obtain⟨pre,post,p,ps,e,hp,hrun,_,_,hpost,hA,_⟩:=hS.ex
    have hp0:post=[]:=by
     cases post with
     |nil=>rfl
     |cons f r=>have:f∈un σ listed:=cW.2 ⟨by rw[e];simp,hpost f (aD ..)⟩;rw[h0']at this;cases this
    subst hp0;simp only[fk,aw.injEq]at hrun;subst hrun;have hD:un pre listed=[]:=by rw[<-h0',e,bJ]
    rw[hD]at hA;refine hQ a w ?_;obtain⟨x,s,hMo,hSi⟩:=hM;refine M.slots (c:=c) ⟨x,s,hMo,hSi⟩ ⟨hA.dom,by rw[<-hA.ob];exact hSi.inv.so,by rw[<-hA.ob];exact hSi.inv.wf⟩ hA.ob.symm hA.tk.symm (fun i=> .inl (hA.get i (by simp)).symm)
 intro fuel;induction fuel with
 |zero=>intro listed c a w A k hf hs hcl hS hcov hM;exact done listed c a w A k (bi.1 (by omega)) hS hcov hM
 |succ fuel ih=>
  intro listed c a w A k hf hs hcl hS hcov hM;constructor
  ·intro hnil
   by_cases h0:un its listed=[]
   ·exact(done listed c a w A k h0 hS hcov hM).2
   ·exfalso
    have hp:∃n,∃f∈un its listed,f.n=n:=by
     cases hc:un its listed with
     |nil=>exact absurd hc h0
     |cons f r=>exact⟨_,f,aD ..,rfl⟩
    obtain⟨n,⟨f,hfu,hfn⟩,hmin⟩:=ZZ _ hp;obtain⟨h1,h2⟩:=cW.1 hfu;obtain⟨o,h3,_,h4⟩:=I.item f h1
    have:f.n∈Region.ready .any ops listed:=by refine mem_ready.2 ⟨h2,o,h3,fun e he hb=> ?_⟩;have hlt:=I.back f.n o h3 e he hb;rw[hd2 listed hs _ (by omega),<-Bool.not_eq_false];intro hfl;obtain⟨g,hg,hgn⟩:=I.ex e.on (by omega);have:=hmin e.on ⟨g,cW.2 ⟨hg,by rw[hgn];exact hfl⟩,hgn⟩;omega
    rw[hnil]at this;cases this
  ·intro i hir
   obtain⟨h1,o,h2,h3⟩:=mem_ready.1 hir;have hi':i<ops.size:=(eo.1 h2).1;obtain⟨it,hit,rfl⟩:=I.ex i hi';obtain⟨o',ho',hres,_⟩:=I.item it hit;rw[h2]at ho';cases ho'
   have hdep:∀k,k<ops.size->(b.getD it.n 0).testBit k=true->listed.getD k true=true:=by
    intro k hk hb;obtain⟨e,he,hbd,hor⟩:=I.bit it.n o k h2 hk hb;have hon:=h3 e he hbd;have honlt:=I.back it.n o h2 e he hbd;rw[hd2 listed hs _ (by omega)]at hon;rcases hor with h|h
    ·rw[<-h];exact hon
    ·exact hcl e.on (ops[e.on]'(by omega)) k (by simp) hon hk h
   have hlen:(un its (listed.setIfInBounds it.n true)).length<(un its listed).length:=by rw[ya hs hi'];refine List.length_filter_lt_length_iff_exists.2 ⟨it,cW.2 ⟨hit,h1⟩,by simp⟩
   have hcl':∀(i:Nat)(o:Oper)(k:Nat),ops[i]? =some o->(listed.setIfInBounds it.n true).getD i true=true->k<ops.size->(b.getD i 0).testBit k=true->(listed.setIfInBounds it.n true).getD k true=true:=by
    intro i2 o2 k2' ho2 hl2 hk2 hb2;rw[gN (by omega)]at hl2 ⊢;split
    ·rfl
    ·split at hl2
     ·rename_i e1
      subst e1;exact hdep k2' hk2 hb2
     ·exact hcl i2 o2 k2' ho2 hl2 hk2 hb2
   have hsz:(listed.setIfInBounds it.n true).size=ops.size:=by simpa using hs
   obtain⟨σ0,A0,hA0⟩:∃σ A',A=σ::A':=by
    cases A with
    |nil=>cases k<;>simp[kT]at hcov
    |cons σ A'=>exact⟨σ,A',rfl⟩
   cases hq:it.q with
   |true=>
    obtain⟨hσ0,hS0⟩:=hS σ0 (by rw[hA0];exact aD ..);obtain⟨v,hv,_⟩:=Av hs I (hO σ0 hσ0) hS0 hit h1 hq hdep;refine gy hcal hM (I.ok it hit) h2 hres (oD (call:=call) (sg:=sg) hv) fun a' w' hM'=> ?_
    refine ih _ _ a' w' A k (by omega) hsz hcl' (fun σ hσ=>⟨(hS σ hσ).1, ?_⟩) ?_ hM'
    ·obtain⟨v',hv',hS'⟩:=Av hs I (hO σ (hS σ hσ).1) (hS σ hσ).2 hit h1 hq hdep
     rw[hv]at hv';injection hv' with e;subst e
     exact hS'
    ·have:(A.map fun σ=>fz (un σ (listed.setIfInBounds it.n true)))=A.map fun σ=>fz (un σ listed):=by
      apply List.map_congr_left;intro σ hσ;rw[ya hs hi',kf,iq];intro x hx;obtain⟨f,hf,hfq,rfl⟩:=pT.1 hx;have hfi:=((hO σ (hS σ hσ).1).mem f).1 (cW.1 hf).1;have:¬f.n=it.n:=fun e=>by rw[I.inj f hfi it hit e,hq]at hfq;cases hfq
      simp[this]
     rw[this];exact hcov
   |false=>
    have hmemR:∀σ∈A,it.n∈fz (un σ listed):=fun σ hσ=>pT.2 ⟨it,cW.2 ⟨((hO σ (hS σ hσ).1).mem it).2 hit,h1⟩,hq,rfl⟩
    obtain⟨k',hk'⟩:=Hd (g:=it.n) hcov (fun l hl=>by
     rw[hA0]at hl;simp only[aI,List.head?_cons,aw.injEq]at hl;rw[<-hl];exact hmemR σ0 (by rw[hA0];exact aD ..)) (fun l hl y hy hne=>by
     rw[hA0]at hl;simp only[aI,List.head?_cons,aw.injEq]at hl;rw[<-hl]at hy;obtain⟨f,hf,hfq,rfl⟩:=pT.1 hy;obtain⟨hf1,hf2⟩:=cW.1 hf;have hfi:=((hO σ0 (hS σ0 (by rw[hA0];exact aD ..)).1).mem f).1 hf1;obtain⟨_,_,_,hlt⟩:=I.item f hfi;rw[<-Bool.not_eq_true];intro hb;rw[hdep f.n hlt hb]at hf2;cases hf2)
    rw[<-su (R:=fun σ=>fz (un σ listed)) (R':=fun σ=>fz (un σ (listed.setIfInBounds it.n true))) (fun σ hσ r hR=>by
     show fz (un σ (listed.setIfInBounds it.n true))=r;rw[ya hs hi',kf];have hR':fz (un σ listed)=it.n::r:=hR;rw[hR',kX];simp only[decide_true,Bool.not_true,aK,if_false];rw[iq];intro y hy
     have hnd:(fz (un σ listed)).Nodup:=by
      have h5:=(hO σ (hS σ hσ).1).nd
      have h6:(fz (un σ listed)).Sublist (σ.map FI.n):=by
       have h7:(fz (un σ listed)).Sublist ((un σ listed).map FI.n):=by
        unfold fz;rw[show(fun f:FI=>if f.q=true then none else some f.n)=fun f:FI=>if f.q=true then none else some (FI.n f)from rfl];generalize un σ listed=l;induction l with
        |nil=>exact nJ.slnil
        |cons f r ih=>
         rw[List.filterMap_cons,aI];cases hq:f.q with
         |true=>exact nJ.cons _ ih
         |false=>exact nJ.cons_cons _ ih
       exact h7.trans (nJ.map _ List.filter_sublist)
      exact h5.sublist h6
     rw[hR']at hnd;have:y≠it.n:=fun e=>by rw[e]at hy;exact(ed.1 hnd).1 hy
     simp[this])]at hk'
    obtain⟨σ1,hσ1⟩:∃σ,σ∈A.filter fun σ=>decide ((fz (un σ listed)).head? =some it.n):=by
     cases hX:A.filter fun σ=>decide ((fz (un σ listed)).head? =some it.n)with
     |nil=>rw[hX]at hk';cases k'<;>simp[kT]at hk'
     |cons σ _=>exact⟨σ,aD ..⟩
    obtain⟨h4,h5⟩:=List.mem_filter.1 hσ1;obtain⟨c1,hc1,_⟩:=Aw hs I (hO σ1 (hS σ1 h4).1) (hS σ1 h4).2 hit h1 hq hdep (of_decide_eq_true h5);refine gy hcal hM (I.ok it hit) h2 hres hc1 fun a' w' hM'=> ?_
    refine ih _ _ a' w' _ k' (by omega) hsz hcl' (fun σ hσ=> ?_) hk' hM';obtain⟨h6,h7⟩:=List.mem_filter.1 hσ;obtain⟨c2,hc2,hS2⟩:=Aw hs I (hO σ (hS σ h6).1) (hS σ h6).2 hit h1 hq hdep (of_decide_eq_true h7);rw[hc1]at hc2;injection hc2 with e;subst e
    exact⟨(hS σ h6).1,hS2⟩
theorem SL(hl:jo (fY P ops) ops.toList=some (unF its))(hd:drawn ops (unF its)=true)(hok:∀f∈its,f.i.ok N=true)(hfq:S1 (Region.before ops).toList its=true)
 (hnd:(its.map FI.n).Nodup) (hlt:∀f∈its,f.n<its.length) (hcov:∀j∈cj its.length,(its.map FI.n).contains j=true):
 Py P N ops its (Region.before ops).toList/\(∀f∈its,∀g∈its,f.n≠g.n->∀d,f.i.dst=some d->g.i.dst≠some d)/\its.length=ops.size:=by
 simp only[S1,aY,eY,dB]at hfq;obtain⟨hlen,hget⟩:=eT hl;have hul:(unF its).length=its.length:=by simp[unF]
 have hsz:its.length=ops.size:=by rw[<-hul,hlen,aU]
 have hun:∀f∈its,(unF its).getD f.n ⟨none,none,.lenC 0⟩=f.i.er:=by intro f hf;have:=hlt f hf;rw[aa];simp only[unF,aT,cI this,bx,bB];exact r6 _ hnd hf
 simp only[drawn,az,decide_eq_true_eq]at hd;obtain⟨⟨hc,ht⟩,hdst⟩:=hd
 have hitem:∀f∈its,∃o,ops[f.n]? =some o/\fY P ops o=some f.i.er/\f.n<ops.size:=by
  intro f hf;have hfl:=hlt f hf;have hj2:f.n<ops.toList.length:=by rw[aU];omega
  refine⟨ops.toList[f.n],by rw[<-dh,ab hj2], ?_,by omega⟩;have h1:=hget f.n hj2 (by omega);rw[h1]
  congr 1
  have h2:=hun f hf;rwa[aa,ab (by omega),bB]at h2
 have hinj:∀f∈its,∀g∈its,f.n=g.n->f=g:=by
  intro f hf g hg e;have:its.Pairwise fun f g=>f.n≠g.n:=by rw[ww,gC]at hnd;exact hnd
  rw[ox]at this;obtain⟨i,hi,rfl⟩:=List.mem_iff_getElem.1 hf;obtain⟨j,hj,rfl⟩:=List.mem_iff_getElem.1 hg;rcases Nat.lt_trichotomy i j with h|h|h
  ·exact absurd e (this i j hi hj h)
  ·subst h;rfl
  ·exact absurd e.symm (this j i hj hi h)
 have hdd:∀f∈its,∀g∈its,f.n≠g.n->∀d,f.i.dst=some d->g.i.dst≠some d:=by
  have main:∀f∈its,∀g∈its,f.n<g.n->∀d,f.i.dst=some d->g.i.dst≠some d:=by
   intro f hf g hg hlt' d h1 h2
   have hpl:(unF its).Pairwise fun u v=>∀d,u.dst=some d->v.dst≠some d:=by rw[ww,List.pairwise_filterMap]at hdst;refine hdst.imp ?_;intro u v huv d hu hv;exact huv d hu d hv rfl
   rw[ox]at hpl;have hf':=hlt f hf;have hg':=hlt g hg
   have g1:(unF its)[f.n]'(by omega)=f.i.er:=by have:=hun f hf;rwa[aa,ab (by omega),bB]at this
   have g2:(unF its)[g.n]'(by omega)=g.i.er:=by have:=hun g hg;rwa[aa,ab (by omega),bB]at this
   exact hpl f.n g.n (by omega) (by omega) hlt' d (by rw[g1];exact h1) (by rw[g2];exact h2)
  intro f hf g hg hne d h1 h2;rcases bX f.n g.n with h|h
  ·exact main f hf g hg h d h1 h2
  ·exact main g hg f hf (by omega) d h2 h1
 have hclosed:∀(i:Nat)(o:Oper),ops[i]? =some o->(∀e∈o.after,Region.binds .any e=true->e.on<i)/\
  ∀k,k<ops.size->((Region.before ops).toList.getD i 0).testBit k=true->∃e∈o.after,Region.binds .any e=true/\(e.on=k\/((Region.before ops).toList.getD e.on 0).testBit k=true):=by
  intro i o ho;unfold qj at hc;rw[aY]at hc;have hi:i<ops.size:=(eo.1 ho).1
  have h1:=hc (o,i) (by rw[List.mem_zipIdx_iff_getElem?];simpa using ho)
  simp only[az,Array.all_eq_true_iff_forall_mem,aY,eY,dB,decide_eq_true_eq]at h1;refine⟨fun e he hb=>(h1.1 e he).resolve_left (by simp[hb]),fun k hk hb=> ?_⟩;have h2:=(h1.2 k (gX.2 hk)).resolve_left (by simp only[hb];simp);obtain⟨_,h3⟩:=h2;rw[<-Array.any_toList,List.any_eq_true]at h3;obtain⟨e,he,h4⟩:=h3;rw[Array.mem_toList_iff]at he;simp only[az,eY,beq_iff_eq]at h4;exact⟨e,he,h4.1,h4.2⟩
 have hq:∀q∈its,q.q=true->∃d,q.i.dst=some d/\∀p∈its,d∈p.i.rds->((Region.before ops).toList.getD p.n 0).testBit q.n=true/\p.n≠q.n:=by
  intro q hq hqq;have h1:=(hfq q hq).resolve_left (by rw[hqq];simp);cases hd:q.i.dst with
  |none=>rw[hd]at h1;cases h1
  |some d=>
   rw[hd]at h1;simp only[aY,eY,dB,az,decide_eq_true_eq,ny]at h1;refine⟨d,rfl,fun p hp hr=> ?_⟩;rcases h1 p hp with h2|h2
   ·rw[eX]at h2;simp only[decide_eq_false_iff_not]at h2;exact absurd hr h2
   ·exact h2
 have hself:∀f∈its,xV f:=by intro f hf hfq;obtain⟨d,hd,h1⟩:=hq f hf hfq;exact⟨d,hd,fun h=>(h1 f hf h).2 rfl⟩
 have hrd:∀q∈its,q.q=true->∀p∈its,∀d,q.i.dst=some d->d∈p.i.rds->((Region.before ops).toList.getD p.n 0).testBit q.n=true:=by intro q hq' hqq p hp d hd hr;obtain⟨d',hd',h1⟩:=hq q hq' hqq;rw[hd']at hd;cases hd;exact(h1 p hp hr).1
 refine⟨⟨hitem,fun j hj=> ?_,hinj,fun i o ho=>(hclosed i o ho).1,fun i o k ho hk hb=>(hclosed i o ho).2 k hk hb,hok,hself,hrd⟩,hdd,hsz⟩;have:=hcov j (gX.2 (by omega));rw[eX]at this;simp only[decide_eq_true_eq]at this;obtain⟨f,hf,e⟩:=aV.1 this;exact⟨f,hf,e⟩
theorem mU{l:List FI}(h:(l.map FI.n).Nodup){f:FI}(hf:f∈l):uw l f.n=f:=by
 induction l with
 |nil=>cases hf
 |cons g r ih=>
  simp only[aI,ed]at h;simp only[uw];rcases an.1 hf with rfl|hf
  ·rw[if_pos rfl]
  ·rw[if_neg,ih h.2 hf]
   intro e;apply h.1;rw[e];exact ip hf
theorem vE{l:List FI}{f:FI}:∀{p:List Nat},f∈iD l p↔∃k∈p,uw l k=f
 |[]=>by simp[iD]
 |k::r=>by
  simp only[iD,an,vE (p:=r)];constructor
  ·rintro(h|⟨j,hj,h⟩)
   ·exact⟨k,.inl rfl,h.symm⟩
   ·exact⟨j,.inr hj,h⟩
  ·rintro⟨j,rfl|hj,h⟩
   ·exact .inl h.symm
   ·exact .inr ⟨j,hj,h⟩
theorem vF{l:List FI}(h:(l.map FI.n).Nodup):∀{p:List Nat},(∀k∈p,k∈l.map FI.n)->(iD l p).map FI.n=p
 |[],_=>rfl
 |k::r,hp=>by simp only[iD,aI];rw[vF h (p:=r) fun j hj=>hp j (aq _ hj)];obtain⟨f,hf,e⟩:=aV.1 (hp k (aD ..));rw[<-e,mU h hf]
theorem DO{s:Nat}(l:List FI):wT b (some s) l=true->∀g∈l,g.q=true->(b.getD g.n 0).testBit s=true\/∃h∈l,(b.getD g.n 0).testBit h.n=true:=by
 induction l generalizing s with
 |nil=>intro _ g hg;cases hg
 |cons f r ih=>
  intro h g hg hq;simp only[wT]at h;split at h
  ·simp only[az,ny]at h
   rcases an.1 hg with rfl|hg
   ·exact .inl h.1
   ·rcases ih h.2 g hg hq with h1|⟨k,hk,h1⟩
    ·exact .inl h1
    ·exact .inr ⟨k,aq _ hk,h1⟩
  ·rename_i hf
   rcases an.1 hg with rfl|hg
   ·exact absurd hq hf
   ·rcases ih h g hg hq with h1|⟨k,hk,h1⟩
    ·exact .inr ⟨f,aD ..,h1⟩
    ·exact .inr ⟨k,aq _ hk,h1⟩
theorem sN:∀{pre:List FI}{s:Option Nat}{f:FI}{r:List FI},wT b s (pre++f::r)=true->f.q=false->wT b (some f.n) r=true
 |[],s,f,r,h,hf=>by simp only[aF,wT,hf,aK,if_false]at h;exact h
 |g::pre,s,f,r,h,hf=>by
  simp only[aJ,wT]at h;split at h
  ·rw[az]at h;exact sN h.2 hf
  ·exact sN h hf
theorem nq:∀{l:List FI},ux b l=true->l.Pairwise fun p q=>(b.getD p.n 0).testBit q.n=false
 |[],_=>eD.nil
 |p::r,h=>by simp only[ux,az,aY]at h;refine bQ.2 ⟨fun q hq=> ?_,nq h.2⟩;have:=h.1 q hq;simpa only[dB,ny]using this
theorem wo{l:List FI}:∀{ps:List (List Nat)},iY call sg b l ps c=some cF->∀p∈ps,fk call sg b (iD l p) [] c=some cF
 |[],h,p,hp=>by cases hp
 |[q],h,p,hp=>by rw[ba.1 hp];exact h
 |q::q'::r,h,p,hp=>by
  simp only[iY]at h;cases h1:fk call sg b (iD l q) [] c with
  |none=>rw[h1]at h;simp[nZ]at h
  |some y=>
   cases h2:iY call sg b l (q'::r) c with
   |none=>rw[h1,h2]at h;simp[nZ]at h
   |some z=>
    rw[h1,h2]at h;obtain⟨e1,e2⟩:=p9 h;rcases an.1 hp with rfl|hp
    ·rw[h1,e2]
    ·exact wo (h2.trans (by rw[<-e1,e2])) p hp
theorem Ek(hcal:gq P call){id:Nat}(hl:jo (fY P ops) ops.toList=some (unF its))(hd:drawn ops (unF its)=true)(hm:P.follows .mixedOrders=true)
 (hok:its.all (fun f=>f.i.ok N)=true) {ps:List (List Nat)} (halt:QO (Region.before ops).toList its ps=true) {Q:Exit->Act->World->Prop} (hQ:∀a w,M C N cF a w->Q .normal a w) (hM:M C N c a w)
 (h:iY call sg (Region.before ops).toList its ps c=some cF):(Code.region id ops true).wp P Q a w:=by
 simp only[QO,az,decide_eq_true_eq]at halt;obtain⟨⟨⟨⟨⟨hfq,hnd⟩,hlt⟩,hcov⟩,hps⟩,hc⟩:=halt;rw[aY]at hok hlt hcov hps;obtain⟨I,hdd,hsz⟩:=SL hl hd hok hfq hnd (fun f hf=>of_decide_eq_true (hlt f hf)) hcov
 have hO:∀σ∈ps.map (iD its),T3 its (Region.before ops).toList σ:=by
  intro σ hσ;obtain⟨p,hp,rfl⟩:=aV.1 hσ;have h1:=hps p hp;simp only[az,decide_eq_true_eq,aY,eX]at h1;obtain⟨⟨⟨⟨hpn,hpi⟩,hip⟩,hseg⟩,hpairs⟩:=h1;have hmap:=vF hnd hpi
  have hmem:∀f,f∈iD its p↔f∈its:=by
   intro f;rw[vE];constructor
   ·rintro⟨k,hk,rfl⟩
    obtain⟨g,hg,rfl⟩:=aV.1 (hpi k hk);rw[mU hnd hg];exact hg
   ·intro hf
    exact⟨f.n,hip f.n (ip hf),mU hnd hf⟩
  have hnd':((iD its p).map FI.n).Nodup:=by rw[hmap];exact hpn
  refine⟨hmem,hnd', ?_,fun pre f r e hf g hg hq=> ?_⟩
  ·have h1:(iD its p).Pairwise fun f g=>f.n≠g.n:=by rw[ww,gC]at hnd';exact hnd'
   refine((nq hpairs).and h1).imp_of_mem ?_;rintro u v hu hv ⟨h2,h3⟩ hqq d hd';have hu':=(hmem u).1 hu;have hv':=(hmem v).1 hv;refine⟨fun hr=> ?_,fun e=>hdd u hu' v hv' h3 d e hd'⟩;rw[I.rd v hv' hqq u hu' d hd' hr]at h2;cases h2
  ·rw[e]at hseg
   rcases DO _ (sN hseg hf) g hg hq with h1|⟨k,hk,h1⟩
   ·exact⟨f,aD ..,h1⟩
   ·exact⟨k,aq _ hk,h1⟩
 have hfalse:∀f∈its,(dX ops.size false).getD f.n true=false:=by intro f hf;obtain⟨_,_,_,this⟩:=I.item f hf;simp[jX,this]
 refine wp_region_any hm ?_;refine Hm (its:=its) (b:=(Region.before ops).toList) (cF:=cF) (sg:=sg) (ords:=ps.map (iD its)) hcal I hO hQ ops.size _ c a _ (ps.map (iD its)) its.length ?_ (by simp) ?_ (fun σ hσ=>⟨hσ, ?_⟩) ?_ ?_
 ·have:(un its (dX ops.size false)).length<=its.length:=List.length_filter_le _ _
  omega
 ·intro i o k ho hl _ _
  have hi:i<ops.size:=(eo.1 ho).1;simp[jX,hi]at hl
 ·have O:=hO σ hσ
  obtain⟨p,hp,rfl⟩:=aV.1 hσ;have hrun:=wo h p hp;obtain⟨seg,post,p2,ps2,k1,k2,k3,k4,k5,k6,k7⟩:=mN (N:=N) (D:=[]) (V:=[]) hrun ⟨fun _ _=>rfl,rfl,rfl,by obtain⟨x,s,_,hS⟩:=hM;exact hS.inv.dom⟩ (fun f hf=>I.ok f ((O.mem f).1 hf)) (fun f hf=>I.self f ((O.mem f).1 hf)) O.nx (by simp) (by simp) (by simp)
  have hunf:un seg (dX ops.size false)=seg:=by apply iq.2;intro f hf;rw[hfalse f ((O.mem f).1 (by rw[k1];exact al.2 (.inl hf)))];rfl
  refine⟨seg,post,p2,ps2,k1,k3,k4,fun f hf _=>k5 f (.inr hf),(fun f hf hq=>by rw[k2 f hf]at hq;cases hq),fun f hf=>hfalse f ((O.mem f).1 (by rw[k1];exact al.2 (.inr hf))), ?_, ?_⟩
  ·rw[hunf];simpa using k6
  ·rw[hunf];intro f hf;exact k7 f (.inr hf)
 ·rw[List.map_map]
  have:(ps.map ((fun σ=>fz (un σ (dX ops.size false)))∘iD its))=ps.map fun p=>fz (iD its p):=by
   apply List.map_congr_left;intro p hp;show fz (un (iD its p) _)=_
   congr 1
   apply iq.2;intro f hf;rw[hfalse f (((hO _ (ip hp)).mem f).1 hf)];rfl
  rw[this];exact hc
 ·obtain⟨x,s,hMo,hS⟩:=hM
  exact⟨x,s,⟨hMo.tm,hMo.defers,hMo.heap.drawn _⟩,hS⟩
end Go.Sy
namespace Go.Sy
variable [bg]
variable {P : Program} {C : Ctx} {x : Sit} {a : Act} {w : World} {N : Nat} {c c' : CSt} {s : St} {T : jQ}
def Ex.out:Ex->Exit
 | .n=> .normal
 | .x id=> .exit id
 | .r=> .ret
def EQ(C:Ctx)(N:Nat)(e:Ex)(c':CSt):Exit->Act->World->Prop:=fun e' a w=>e'=e.out/\M C N c' a w
def uL(P:Program)(T:jQ)(n:Nat):Prop:=
 (∀(r:RC)(c:CSt)(e:Ex)(c':CSt),gJ T n r c=some (e,c')->∀(code:Code)(C:Ctx)(N:Nat)(a:Act)(w:World),cG P code=r.er->r.ok N=true->M C N c a w->code.wp P (EQ C N e c') a w)/\
 (∀(b:RC)(c:CSt)(e:Ex)(c':CSt),gJ T n (.loop b) c=some (e,c')->∀(code:Code)(C:Ctx)(N:Nat)(a:Act)(w:World),cG P code=b.er->b.ok N=true->M C N c a w->Code.rounds P code (EQ C N e c') n a w)
theorem Td{code:Code}{b:gn}(h:bc P code=some (.loop b)):∃b',code= .loop b'/\bc P b'=some b:=by
 cases code with
 |loop b'=>simp only[bc]at h;obtain⟨sb,hb,he⟩:=ah.1 h;cases he;exact⟨b',rfl,hb⟩
 |region id ops draw=>
  simp only[bc]at h;split at h<;>try (cases h;done)
  split at h
  ·rw[aN]at h;cases h.2
  ·cases h
 |seq y z=>simp only[bc]at h;split at h<;>cases h
 |cond c y z=>simp only[bc]at h;split at h<;>cases h
 |block id b=>simp only[bc]at h;obtain⟨_,_,h⟩:=ah.1 h;cases h
 |_=>simp[bc]at h
theorem GV{code:Code}{id:Nat}{b:gn}(h:bc P code=some (.block id b)):∃b',code= .block id b'/\bc P b'=some b:=by
 cases code with
 |block id b'=>simp only[bc]at h;obtain⟨sb,hb,he⟩:=ah.1 h;cases he;exact⟨b',rfl,hb⟩
 |region id ops draw=>
  simp only[bc]at h;split at h<;>try (cases h;done)
  split at h
  ·rw[aN]at h;cases h.2
  ·cases h
 |seq y z=>simp only[bc]at h;split at h<;>cases h
 |cond c y z=>simp only[bc]at h;split at h<;>cases h
 |loop b=>simp only[bc]at h;obtain⟨_,_,h⟩:=ah.1 h;cases h
 |_=>simp[bc]at h
theorem xe6{code:Code}{y z:gn}(h:bc P code=some (.seq y z)):∃y' z',code= .seq y' z'/\bc P y'=some y/\bc P z'=some z:=by
 cases code with
 |seq y' z'=>
  simp only[bc]at h;split at h<;>try (cases h;done)
  rename_i sy sz hy hz;cases h;exact⟨y',z',rfl,hy,hz⟩
 |region id ops draw=>
  simp only[bc]at h;split at h<;>try (cases h;done)
  split at h
  ·rw[aN]at h;cases h.2
  ·cases h
 |cond c y z=>simp only[bc]at h;split at h<;>cases h
 |block id b=>simp only[bc]at h;obtain⟨_,_,h⟩:=ah.1 h;cases h
 |loop b=>simp only[bc]at h;obtain⟨_,_,h⟩:=ah.1 h;cases h
 |_=>simp[bc]at h
theorem Tf{code:Code}{k:Arg}{y z:gn}(h:bc P code=some (.cond k y z)):∃k' y' z',code= .cond k' y' z'/\bz P 0 k'=some k/\bc P y'=some y/\bc P z'=some z:=by
 cases code with
 |cond k' y' z'=>
  simp only[bc]at h;split at h<;>try (cases h;done)
  rename_i sc sy sz hcc hy hz;cases h;exact⟨k',y',z',rfl,hcc,hy,hz⟩
 |region id ops draw=>
  simp only[bc]at h;split at h<;>try (cases h;done)
  split at h
  ·rw[aN]at h;cases h.2
  ·cases h
 |seq y z=>simp only[bc]at h;split at h<;>cases h
 |block id b=>simp only[bc]at h;obtain⟨_,_,h⟩:=ah.1 h;cases h
 |loop b=>simp only[bc]at h;obtain⟨_,_,h⟩:=ah.1 h;cases h
 |_=>simp[bc]at h
theorem xe8{code:Code}{l:List SI}(h:bc P code=some (.ops l)):∃id ops,code= .region id ops false/\jo (fY P ops) ops.toList=some l:=by
 cases code with
 |region id ops draw=>
  simp only[bc]at h;split at h<;>try (cases h;done)
  rename_i l' hl;cases draw with
  |false=>simp only[aK,if_false,aw.injEq,gn.ops.injEq]at h;subst h;exact⟨id,ops,rfl,hl⟩
  |true=>simp only[if_true]at h;rw[aN]at h;cases h.2
 |seq y z=>simp only[bc]at h;split at h<;>cases h
 |cond c y z=>simp only[bc]at h;split at h<;>cases h
 |block id b=>simp only[bc]at h;obtain⟨_,_,h⟩:=ah.1 h;cases h
 |loop b=>simp only[bc]at h;obtain⟨_,_,h⟩:=ah.1 h;cases h
 |_=>simp[bc]at h
theorem Pm{code:Code}{b ds:List Nat}{l:List SI}(h:bc P code=some (.drw b ds l)):∃id ops,code= .region id ops true/\jo (fY P ops) ops.toList=some l/\drawn ops l=true/\P.follows .mixedOrders=true/\b=(Region.before ops).toList/\ds=xk1 l:=by
 cases code with
 |region id ops draw=>
  simp only[bc]at h;split at h<;>try (cases h;done)
  rename_i l' hl;cases draw with
  |false=>simp only[aK,if_false,aw.injEq,reduceCtorEq]at h
  |true=>simp only[if_true]at h;rw[aN]at h;obtain⟨hc,h⟩:=h;simp only[aw.injEq,gn.drw.injEq]at h;obtain⟨rfl,rfl,rfl⟩:=h;rw[az]at hc;exact⟨id,ops,rfl,hl,hc.1,hc.2,rfl,rfl⟩
 |seq y z=>simp only[bc]at h;split at h<;>cases h
 |cond c y z=>simp only[bc]at h;split at h<;>cases h
 |block id b=>simp only[bc]at h;obtain⟨_,_,h⟩:=ah.1 h;cases h
 |loop b=>simp only[bc]at h;obtain⟨_,_,h⟩:=ah.1 h;cases h
 |_=>simp[bc]at h
theorem Tc{code:Code}(h:bc P code=some .skip):code= .skip:=by
 cases code with
 |skip=>rfl
 |region id ops draw=>
  simp only[bc]at h;split at h<;>try (cases h;done)
  split at h
  ·rw[aN]at h;cases h.2
  ·cases h
 |seq y z=>simp only[bc]at h;split at h<;>cases h
 |cond c y z=>simp only[bc]at h;split at h<;>cases h
 |block id b=>simp only[bc]at h;obtain⟨_,_,h⟩:=ah.1 h;cases h
 |loop b=>simp only[bc]at h;obtain⟨_,_,h⟩:=ah.1 h;cases h
 |_=>simp[bc]at h
theorem xe7{code:Code}(h:bc P code=some .ret):code= .ret:=by
 cases code with
 |ret=>rfl
 |region id ops draw=>
  simp only[bc]at h;split at h<;>try (cases h;done)
  split at h
  ·rw[aN]at h;cases h.2
  ·cases h
 |seq y z=>simp only[bc]at h;split at h<;>cases h
 |cond c y z=>simp only[bc]at h;split at h<;>cases h
 |block id b=>simp only[bc]at h;obtain⟨_,_,h⟩:=ah.1 h;cases h
 |loop b=>simp only[bc]at h;obtain⟨_,_,h⟩:=ah.1 h;cases h
 |_=>simp[bc]at h
theorem Te{code:Code}{id:Nat}(h:bc P code=some (.exit id)):code= .exit id:=by
 cases code with
 |exit id'=>simp only[bc,aw.injEq,gn.exit.injEq]at h;rw[h]
 |region id ops draw=>
  simp only[bc]at h;split at h<;>try (cases h;done)
  split at h
  ·rw[aN]at h;cases h.2
  ·cases h
 |seq y z=>simp only[bc]at h;split at h<;>cases h
 |cond c y z=>simp only[bc]at h;split at h<;>cases h
 |block id b=>simp only[bc]at h;obtain⟨_,_,h⟩:=ah.1 h;cases h
 |loop b=>simp only[bc]at h;obtain⟨_,_,h⟩:=ah.1 h;cases h
 |_=>simp[bc]at h
theorem fe{id:Nat}{ops:Array Oper}{draw:Bool}{s:gn}(h:cG P (.region id ops draw)=s)(hs:s≠ .bad):bc P (.region id ops draw)=some s:=by
 rw[cG]at h;split at h
 ·rename_i s' h';rw[<-h];exact h'
 ·exact absurd h.symm hs
theorem ii{k:Operand}{y z:Code}{s:gn}(h:cG P (.cond k y z)=s)(hs:s≠ .bad):∃a,bz P 0 k=some a/\s= .cond a (cG P y) (cG P z):=by
 rw[cG]at h;split at h
 ·rename_i a ha;exact⟨a,ha,h.symm⟩
 ·exact absurd h.symm hs
theorem Tr{code:Code}{b:gn}(h:cG P code= .loop b):∃b',code= .loop b'/\cG P b'=b:=by
 cases code with
 |loop b'=>rw[cG]at h;cases h;exact⟨b',rfl,rfl⟩
 |region id ops draw=>have h1:=fe h (by simp);have h2:=Td h1;simp at h2
 |seq y z=>rw[cG]at h;cases h
 |cond k y z=>obtain⟨a,_,h2⟩:=ii h (by simp);cases h2
 |block id b=>rw[cG]at h;cases h
 |skip=>rw[cG]at h;cases h
 |exit id=>rw[cG]at h;cases h
 |ret=>rw[cG]at h;cases h
 |_=>simp[cG]at h
theorem G3{code:Code}{id:Nat}{b:gn}(h:cG P code= .block id b):∃b',code= .block id b'/\cG P b'=b:=by
 cases code with
 |block id b'=>rw[cG]at h;cases h;exact⟨b',rfl,rfl⟩
 |region id ops draw=>have h1:=fe h (by simp);have h2:=GV h1;simp at h2
 |seq y z=>rw[cG]at h;cases h
 |cond k y z=>obtain⟨a,_,h2⟩:=ii h (by simp);cases h2
 |loop b=>rw[cG]at h;cases h
 |skip=>rw[cG]at h;cases h
 |exit id=>rw[cG]at h;cases h
 |ret=>rw[cG]at h;cases h
 |_=>simp[cG]at h
theorem xfa{code:Code}{y z:gn}(h:cG P code= .seq y z):∃y' z',code= .seq y' z'/\cG P y'=y/\cG P z'=z:=by
 cases code with
 |seq y' z'=>rw[cG]at h;cases h;exact⟨y',z',rfl,rfl,rfl⟩
 |region id ops draw=>have h1:=fe h (by simp);have h2:=xe6 h1;simp at h2
 |cond k y z=>obtain⟨a,_,h2⟩:=ii h (by simp);cases h2
 |block id b=>rw[cG]at h;cases h
 |loop b=>rw[cG]at h;cases h
 |skip=>rw[cG]at h;cases h
 |exit id=>rw[cG]at h;cases h
 |ret=>rw[cG]at h;cases h
 |_=>simp[cG]at h
theorem xfd{code:Code}{k:Arg}{y z:gn}(h:cG P code= .cond k y z):∃k' y' z',code= .cond k' y' z'/\bz P 0 k'=some k/\cG P y'=y/\cG P z'=z:=by
 cases code with
 |cond k' y' z'=>obtain⟨a,h1,h2⟩:=ii h (by simp);cases h2;exact⟨k',y',z',rfl,h1,rfl,rfl⟩
 |region id ops draw=>have h1:=fe h (by simp);have h2:=Tf h1;simp at h2
 |seq y z=>rw[cG]at h;cases h
 |block id b=>rw[cG]at h;cases h
 |loop b=>rw[cG]at h;cases h
 |skip=>rw[cG]at h;cases h
 |exit id=>rw[cG]at h;cases h
 |ret=>rw[cG]at h;cases h
 |_=>simp[cG]at h
theorem Tq{code:Code}(h:cG P code= .skip):code= .skip:=by
 cases code with
 |skip=>rfl
 |region id ops draw=>have h1:=fe h (by simp);have h2:=Tc h1;simp at h2
 |seq y z=>rw[cG]at h;cases h
 |cond k y z=>obtain⟨a,_,h2⟩:=ii h (by simp);cases h2
 |block id b=>rw[cG]at h;cases h
 |loop b=>rw[cG]at h;cases h
 |exit id=>rw[cG]at h;cases h
 |ret=>rw[cG]at h;cases h
 |_=>simp[cG]at h
theorem xfb{code:Code}(h:cG P code= .ret):code= .ret:=by
 cases code with
 |ret=>rfl
 |region id ops draw=>have h1:=fe h (by simp);have h2:=xe7 h1;simp at h2
 |seq y z=>rw[cG]at h;cases h
 |cond k y z=>obtain⟨a,_,h2⟩:=ii h (by simp);cases h2
 |block id b=>rw[cG]at h;cases h
 |loop b=>rw[cG]at h;cases h
 |skip=>rw[cG]at h;cases h
 |exit id=>rw[cG]at h;cases h
 |_=>simp[cG]at h
theorem Ts{code:Code}{id:Nat}(h:cG P code= .exit id):code= .exit id:=by
 cases code with
 |exit id'=>rw[cG]at h;cases h;rfl
 |region id ops draw=>have h1:=fe h (by simp);have h2:=Te h1;simp at h2
 |seq y z=>rw[cG]at h;cases h
 |cond k y z=>obtain⟨a,_,h2⟩:=ii h (by simp);cases h2
 |block id b=>rw[cG]at h;cases h
 |loop b=>rw[cG]at h;cases h
 |skip=>rw[cG]at h;cases h
 |ret=>rw[cG]at h;cases h
 |_=>simp[cG]at h
theorem xfc{code:Code}{l:List SI}(h:cG P code= .ops l):bc P code=some (.ops l):=by
 cases code with
 |region id ops draw=>exact fe h (by simp)
 |seq y z=>rw[cG]at h;cases h
 |cond k y z=>obtain⟨a,_,h2⟩:=ii h (by simp);cases h2
 |block id b=>rw[cG]at h;cases h
 |loop b=>rw[cG]at h;cases h
 |skip=>rw[cG]at h;cases h
 |exit id=>rw[cG]at h;cases h
 |ret=>rw[cG]at h;cases h
 |_=>simp[cG]at h
theorem Pn{code:Code}{b ds:List Nat}{l:List SI}(h:cG P code= .drw b ds l):bc P code=some (.drw b ds l):=by
 cases code with
 |region id ops draw=>exact fe h (by simp)
 |seq y z=>rw[cG]at h;cases h
 |cond k y z=>obtain⟨a,_,h2⟩:=ii h (by simp);cases h2
 |block id b=>rw[cG]at h;cases h
 |loop b=>rw[cG]at h;cases h
 |skip=>rw[cG]at h;cases h
 |exit id=>rw[cG]at h;cases h
 |ret=>rw[cG]at h;cases h
 |_=>simp[cG]at h
theorem uS{n:Nat}(hR:uL P T n)(hcal:gq P (fi T n)){r:RC}{c:CSt}{e:Ex}{c':CSt}(h:dQ (gJ T n) (fi T n) T.sg r c=some (e,c'))(hl:∀b,r≠ .loop b){code:Code}{C:Ctx}{N:Nat}{a:Act}{w:World}
 (hr:cG P code=r.er) (hok:r.ok N=true) (hM:M C N c a w):code.wp P (EQ C N e c') a w:=by
 cases r with
 |skip=>
  cases h;have:=Tq (by simpa[RC.er]using hr);subst this;exact wp_skip ⟨rfl,hM⟩
 |ret=>
  cases h;have:=xfb (by simpa[RC.er]using hr);subst this;exact wp_ret ⟨rfl,hM⟩
 |exit id=>
  cases h;have:=Ts (by simpa[RC.er]using hr);subst this;exact wp_exit ⟨rfl,hM⟩
 |ops l=>
  obtain⟨id,ops,rfl,hl'⟩:=xe8 (xfc (by simpa[RC.er]using hr));simp only[dQ]at h;cases hs:fL (fi T n) T.sg l c with
  |none=>rw[hs]at h;cases h
  |some c1=>rw[hs]at h;simp only[nrm,pV,aw.injEq,bq.injEq]at h;obtain⟨rfl,rfl⟩:=h;refine wp_region ?_;rw[List.range_eq_range'];exact xk hcal hl' l ops.size 0 (by omega) (by simp) hok hM hs fun a w h=>⟨rfl,h⟩
 |flt b ds l dead=>
  obtain⟨id,ops,rfl,hl',hdr,hmo,rfl,rfl⟩:=Pm (Pn (by simpa[RC.er]using hr));simp only[RC.ok,az]at hok;simp only[dQ]at h;cases hs:fk (fi T n) T.sg (Region.before ops).toList l [] c with
  |none=>rw[hs]at h;cases h
  |some c1=>rw[hs]at h;simp only[nrm,aw.injEq,bq.injEq]at h;obtain⟨rfl,rfl⟩:=h;exact Ej hcal hl' hdr hmo hok.1 hok.2 (fun a w h=>⟨rfl,M.kill h dead⟩) hM hs
 |fla b ds l ps dead=>
  obtain⟨id,ops,rfl,hl',hdr,hmo,rfl,rfl⟩:=Pm (Pn (by simpa[RC.er]using hr));simp only[RC.ok,az]at hok;simp only[dQ]at h;cases hs:iY (fi T n) T.sg (Region.before ops).toList l ps c with
  |none=>rw[hs]at h;cases h
  |some c1=>rw[hs]at h;simp only[nrm,aw.injEq,bq.injEq]at h;obtain⟨rfl,rfl⟩:=h;exact Ek hcal hl' hdr hmo hok.1 hok.2 (fun a w h=>⟨rfl,M.kill h dead⟩) hM hs
 |seq y z=>
  obtain⟨y',z',rfl,hy,hz⟩:=xfa (by simpa[RC.er]using hr);simp only[RC.ok,az]at hok;simp only[dQ]at h;cases hs:gJ T n y c with
  |none=>rw[hs]at h;cases h
  |some p=>
   obtain⟨e1,c1⟩:=p;rw[hs]at h;refine wp_seq (wp_mono (hR.1 _ _ _ _ hs y' C N a w hy hok.1 hM) ?_);rintro e' a' w' ⟨rfl,hM'⟩;cases e1 with
   |n=>exact hR.1 _ _ _ _ h z' C N a' w' hz hok.2 hM'
   |x id=>cases h;exact⟨rfl,hM'⟩
   |r=>cases h;exact⟨rfl,hM'⟩
 |cond k y z=>
  obtain⟨k',y',z',rfl,hk,hy,hz⟩:=xfd (by simpa[RC.er]using hr);simp only[RC.ok,az]at hok;simp only[dQ]at h;unfold cnd at h;split at h<;>try (cases h;done)
  rename_i t ht
  have hv:a.eval k'= .bool t:=by obtain⟨x,s,hMo,hS⟩:=hM;have hrep:=aO hMo hk;rw[hS.ev,ht]at hrep;exact hrep.bool_inv
  refine wp_cond_split hv (fun e=> ?_) (fun e=> ?_)
  ·subst e
   rw[if_pos rfl]at h;exact hR.1 _ _ _ _ h y' C N a w hy hok.1 hM
  ·subst e
   rw[if_neg (by simp)]at h;exact hR.1 _ _ _ _ h z' C N a w hz hok.2 hM
 |block id b=>
  obtain⟨b',rfl,hb⟩:=G3 (by simpa[RC.er]using hr);simp only[dQ]at h;cases hs:gJ T n b c with
  |none=>rw[hs]at h;cases h
  |some p=>
   obtain⟨e1,c1⟩:=p;rw[hs]at h;refine wp_block (wp_mono (hR.1 _ _ _ _ hs b' C N a w hb hok hM) ?_);rintro e' a' w' ⟨rfl,hM'⟩;cases e1 with
   |n=>cases h;exact⟨rfl,hM'⟩
   |r=>cases h;exact⟨rfl,hM'⟩
   |x id'=>
    simp only[blk]at h;simp only[Ex.out,Exit.inBlock];split at h<;>rename_i hid
    ·cases h;rw[if_pos hid];exact⟨rfl,hM'⟩
    ·cases h;rw[if_neg hid];exact⟨rfl,hM'⟩
 |loop b=>exact absurd rfl (hl b)
 |bad=>cases h
 |pre ds y=>
  simp only[dQ]at h;cases hs:iA c ds with
  |none=>rw[hs]at h;cases h
  |some c1=>rw[hs]at h;exact hR.1 _ _ _ _ h code C N a w (by simpa[RC.er]using hr) hok (ke hM hs)
 |post y ds=>
  simp only[dQ]at h;cases hs:gJ T n y c with
  |none=>rw[hs]at h;cases h
  |some p=>
   obtain⟨e1,c1⟩:=p;rw[hs]at h;refine wp_mono (hR.1 _ _ _ _ hs code C N a w (by simpa[RC.er]using hr) hok hM) ?_;rintro e' a' w' ⟨rfl,hM'⟩;cases e1 with
   |n=>
    simp only[psD]at h;split at h
    ·rename_i c2 h2;cases h;exact⟨rfl,ke hM' h2⟩
    ·cases h
   |x id=>cases h;exact⟨rfl,hM'⟩
   |r=>cases h;exact⟨rfl,hM'⟩
theorem wW:uL P T 0:=⟨fun r c e c' h=>by simp[gJ]at h,fun b c e c' h=>by simp[gJ]at h⟩
theorem wX{n:Nat}(hR:uL P T n)(hcal:gq P (fi T n)):uL P T (n+1):=by
 have h2:∀(b:RC)(c:CSt)(e:Ex)(c':CSt),gJ T (n+1) (.loop b) c=some (e,c')->∀(code:Code)(C:Ctx)(N:Nat)(a:Act)(w:World),cG P code=b.er->b.ok N=true->M C N c a w->Code.rounds P code (EQ C N e c') (n+1) a w:=by
  intro b c e c' h code C N a w hr hok hM;rw[gJ]at h;simp only[dQ]at h;rw[rounds_succ];cases hs:gJ T n b c with
  |none=>rw[hs]at h;cases h
  |some p=>
   obtain⟨e1,c1⟩:=p;rw[hs]at h;refine wp_mono (hR.1 _ _ _ _ hs code C N a w hr hok hM) ?_;rintro e' a' w' ⟨rfl,hM'⟩;cases e1 with
   |n=>exact hR.2 _ _ _ _ h code C N a' w' hr hok hM'
   |x id=>cases h;exact⟨rfl,hM'⟩
   |r=>cases h;exact⟨rfl,hM'⟩
 refine⟨fun r c e c' h code C N a w hr hok hM=> ?_,h2⟩
 by_cases hl:∃b,r= .loop b
 ·obtain⟨b,rfl⟩:=hl
  obtain⟨b',rfl,hb⟩:=Tr (by simpa[RC.er]using hr);exact wp_loop_rounds (n+1) (h2 b c e c' h b' C N a w hb hok hM)
 ·rw[gJ]at h
  exact uS hR hcal h (fun b e=>hl ⟨b,e⟩) hr hok hM
def xlx(P:Program):ResultVar->RV->Prop
 | .tmp t,.tmp t'=>t=t'
 | .cell t ty,.cell t' n ag=>t=t'/\fu P ty=some n/\qI P ty=some ag
 |_,_=>False
def EJ(P:Program):List ResultVar->List RV->Prop
 |[],[]=>True
 |a::r,b::s=>xlx P a b/\EJ P r s
 |_,_=>False
theorem sP(hS:Sim N c s):∀{rs:List ResultVar}{rv:List RV}{vs:List SV},EJ P rs rv->rE c rv=some vs->∃p,w9 P s rs=some (p,vs)/\p
 |[],[],vs,_,h=>by cases h;exact⟨True,rfl,trivial⟩
 |[],_::_,_,h,_=>h.elim
 |_::_,[],_,h,_=>h.elim
 | .tmp t::r,.tmp t'::q,vs,h,hv=>by obtain⟨h1,h2⟩:=h;have h1:t=t':=h1;subst h1;simp only[rE]at hv;split at hv<;>cases hv;rename_i vs' hv';obtain⟨p,h3,h4⟩:=sP hS h2 hv';exact⟨p,by simp only[w9,h3,hS.get],h4⟩
 | .cell t ty::r,.cell t' n ag::q,vs,h,hv=>by
  obtain⟨⟨rfl,g1,g2⟩,h2⟩:=h;simp only[rE]at hv;split at hv<;>cases hv;rename_i v vs' hl hv';obtain⟨p,h3,h4⟩:=sP hS h2 hv'
  have hl':(if(ag||n==1)=true then mm c n ag (c.get t)else none)=some v:=by
   rw[<-hl]
   congr 1
   simp
  split at hl'
  ·rename_i hc
   obtain⟨p',h5,h6⟩:=vI hS hl';refine⟨p'/\p, ?_,h6,h4⟩;simp only[w9,g1,g2,h3,hS.get];rw[if_pos hc,h5]
  ·cases hl'
 | .tmp _::_,.cell _ _ _::_,_,h,_=>h.1.elim
 | .cell _ _::_,.tmp _::_,_,h,_=>h.1.elim
def Pc(us:List Value):Value:=if h:us.toArray.size=1 then us.toArray[0]else .tuple us.toArray
theorem Pd{vs:List SV}{us:List Value}(h:cH x vs us):Rep x (jk vs) (Pc us):=by
 have hlen:=h.1;unfold Pc
 match vs,us,hlen with
 |[v],[u],_=>simpa[jk]using h.2 0 (by simp)
 |[],[],_=>simp only[jk];exact .tup _ _ h.1 h.2
 |v1::v2::vs,u1::u2::us,_=>simp only[jk];rw[dif_neg (by simp)];exact .tup _ _ h.1 h.2
theorem da.sel{ob ob2:List (Nat×aG)}{tk tk2:List Nat}(hH:da C x ob tk w){x2:Sit}(hG:x2.G=x.G)(hob:∀p∈ob2,dH x2 w p.1 p.2/\∃q∈ob,x2.bk p.1=x.bk q.1)(hnd:(ob2.map cQ).Nodup)
 (hinj:∀p∈ob2,∀q∈ob2,(x2.bk p.1).1=(x2.bk q.1).1->p.1=q.1) (htk:∀t∈tk2,(x2.τ t).2.1=(x2.τ t).2.2\/∃u∈tk,x2.τ t=x.τ u)
 (htd:∀t∈tk2,∀u∈tk2,t≠u->(x2.τ t).2.1=(x2.τ t).2.2\/(x2.τ u).2.1=(x2.τ u).2.2\/∃t'∈tk,∃u'∈tk,t'≠u'/\x2.τ t=x.τ t'/\x2.τ u=x.τ u') (hpin:∀i,i<100->x2.bk i=x.bk i):da C x2 ob2 tk2 w:=by
 refine⟨fun b o v hv=>hH.per b o v (by rw[<-hG];exact hv),fun b o v hv=>by rw[hG];exact hH.g0 b o v hv,fun b o v hv=>hH.gm b o v (by rw[<-hG];exact hv),hH.new, ?_,hnd,hinj, ?_, ?_, ?_,hH.os,hH.tape,hH.output,hH.size,hH.ext,
  fun i hi=>(hpin i hi).trans (hH.pin i hi),hH.lay⟩
 ·intro p hp
  obtain⟨h1,q,hq,h2⟩:=hob p hp;obtain⟨_,h3,h4⟩:=hH.obs q hq;exact⟨h1,by rw[h2];exact h3,fun off=>by rw[hG,h2];exact h4 off⟩
 ·intro t ht
  rcases htk t ht with h|⟨u,hu,h⟩
  ·exact .inl h
  ·have:=hH.tks u hu
   unfold ia at this ⊢;rw[h,hG];exact this
 ·intro t ht p hp
  obtain⟨_,q,hq,h2⟩:=hob p hp;rcases htk t ht with h|⟨u,hu,h⟩
  ·exact .inr h
  ·rw[h,h2];exact hH.tko u hu q hq
 ·intro t ht u hu htu
  rcases htd t ht u hu htu with h|h|⟨t',ht',u',hu',hne,h1,h2⟩
  ·exact .inr (.inl h)
  ·exact .inr (.inr h)
  ·rw[h1,h2];exact hH.tkd t' ht' u' hu' hne
theorem eZ{p:Nat×aG}:∀{l:List aG}{k:Nat},p∈fU k l↔∃i,i<l.length/\p.1=k+i/\p.2=l.getD i (.rc [])
 |[],k=>by simp[fU]
 |o::r,k=>by
  simp only[fU,an,eZ];constructor
  ·rintro(rfl|⟨i,h1,h2,h3⟩)
   ·exact⟨0,by simp,rfl,rfl⟩
   ·exact⟨i+1,by simpa using h1,by omega,by simpa using h3⟩
  ·rintro⟨i,h1,h2,h3⟩
   cases i with
   |zero=>left;exact Prod.ext (by simpa using h2) (by simpa using h3)
   |succ i=>exact .inr ⟨i,by simpa using h1,by omega,by simpa using h3⟩
theorem ix:∀(l:List aG)(k:Nat),((fU k l).map cQ).Nodup
 |[],_=>by simp[fU]
 |o::r,k=>by simp only[fU,aI,ed];refine⟨fun h=> ?_,ix r (k+1)⟩;obtain⟨p,hp,e⟩:=aV.1 h;obtain⟨i,_,h2,_⟩:=eZ.1 hp;omega
theorem Dt(n i:Nat)(h:i<n):(kZ n).getD i 0=i:=by
 have hl:∀n,(kZ n).length=n:=by
  intro n;induction n with
  |zero=>rfl
  |succ n ih=>simp[kZ,ih]
 induction n with
 |zero=>omega
 |succ n ih=>
  simp only[kZ,aa,List.getElem?_append,hl]
  by_cases hi:i<n
  ·rw[if_pos hi,<-aa,ih hi]
  ·rw[if_neg hi];have:i-n=0:=by omega
   rw[this];simp;omega
theorem El{keep raw:List Nat}{k:Nat}{vs:List SV}{us:List Value}{q:eA}(hM:aP C x s a w)(hS:Sim N c s)(hk:k<=40)(hv:cH x vs us)(h:S6 keep k (eP c vs (iS raw 0 vs))=some q):
 ∃x',Rep x' q.r (Pc us)/\da C x' q.os q.tk w/\(∀p∈q.os,p.2.wf=true)/\∀i,i<100->x'.bk i=C.β0 i:=by
 obtain⟨x1,s1,hM1,hS1,hv1⟩:=jc (l:=iS raw 0 vs) hM hS hv;generalize eP c vs (iS raw 0 vs)=z at h hS1 hv1;obtain⟨c1,vs1⟩:=z;simp only at hS1 hv1;simp only[S6]at h;have hE:=hS1.exact hM1;cases hb:(decide (k=0)&&(SV.idsL vs1).isEmpty&&keep.isEmpty)with
 |true=>rw[hb]at h;simp only[Pj,aw.injEq]at h;subst h;refine⟨x1, ?_,hE.heap.only (by simp) (by simp) (by simp),by simp,fun i hi=>hE.heap.pin i hi⟩;refine Pd ?_;rw[kD];refine⟨by simpa using hv1.1,fun i hi=> ?_⟩;rw[aW _ (by rfl)];exact(hv1.2 i (by simpa using hi)).bare rfl rfl
 |false=>
  rw[hb]at h;simp only[Pj]at h;generalize hz:jT c1.tk keep 60 0 vs1=z at h;obtain⟨vs2,mt1⟩:=z;simp only[Z9]at h;generalize dL c1 60 [] (kZ k++SV.idsL vs2)=m at h;cases ho:gF c1 m with
  |none=>rw[ho]at h;cases h
  |some os0=>
   rw[ho]at h;simp only[Z8]at h;generalize hz2:dZ c1.tk (60+mt1.length) os0=z2 at h;obtain⟨os,mt2⟩:=z2;simp only[Z7]at h;cases hb2:(oC (SV.idsL vs2++fJ os) m&&dy m&&dy (cD (mt1++mt2))&&decide (m.take k=kZ k)&&(m.drop k).all fun o=>decide (k<=o))with
   |false=>rw[hb2]at h;cases h
   |true=>
    rw[hb2]at h;simp only[Z6,aw.injEq]at h;subst h;simp only[az,decide_eq_true_eq,aY]at hb2;obtain⟨⟨⟨⟨hsub,hmn⟩,htn⟩,htake⟩,hdrop⟩:=hb2;obtain⟨hol,hog⟩:=pU ho;have hsubm:=vd hsub;have hmnd:=jl hmn;have htnd:=jl htn
    have hul:∀n,(kZ n).length=n:=by
     intro n;induction n with
     |zero=>rfl
     |succ n ih=>simp[kZ,ih]
    have hkm:k<=m.length:=by have:=congrArg qV htake;rw[aj,hul]at this;omega
    have hfirst:∀i,i<k->m.getD i 0=i:=by
     intro i hi;have h1:(m.take k).getD i 0=m.getD i 0:=by simp only[aa,bV,if_pos hi]
     rw[<-h1,htake,Dt k i hi]
    have hrest:∀i,k<=i->i<m.length->k<=m.getD i 0:=by
     intro i h1 h2;refine hdrop _ ?_
     have:m.getD i 0=(m.drop k).getD (i-k) 0:=by simp only[aa,bE];congr 2;omega
     rw[this];exact fR (by rw[aH];omega)
    let τ2:Nat->Nat×Nat×Nat:=fun t=>if 60<=t/\t<60+(mt1++mt2).length then PB x1 ((mt1++mt2).getD (t-60) none)else(0,0,0)
    let x2:Sit:=⟨x1.G,x1.bk,τ2⟩
    let x3:Sit:=⟨x1.G,fun i=>if i<100 then x1.bk i else x1.bk (m.getD (i-100) 0),τ2⟩
    have hτ:∀y:Sit,y.τ=τ2->ou x1 y 60 (mt1++mt2):=by
     intro y hy j hj;rw[hy];show(if _ then _ else _)=_;rw[if_pos ⟨by omega,by omega⟩]
     congr 2;omega
    have hmem:∀i,i<m.length->(m.getD i 0,os0.getD i (.rc []))∈c1.ob:=fun i hi=>i9 (hog i hi)
    have hβ:∀o∈m,x3.bk (gV k m o)=x1.bk o:=by
     intro o ho;unfold gV;split
     ·rename_i hlt
      show(if _ then _ else _)=_;rw[if_pos (by omega)]
     ·show(if _ then _ else _)=_
      rw[if_neg (by omega)];have e:100+gM m o-100=gM m o:=by omega
      rw[e,(mG ho).2]
    have hT2:=hτ x2 rfl
    have ha2:cH x2 vs2 us:=by have:=mb (x:=x1) (x1:=x2) rfl rfl (tk:=c1.tk) (own:=keep) (j:=60) (i:=0) hv1 (by rw[hz];exact hT2.left);rwa[hz]at this
    have hrr:Rep x3 ((jk vs2).ren (gV k m) id) (Pc us):=by
     refine Rep.renF (x:=x2) (x2:=x3) (fun _ _ _ h=>h) (Pd ha2) (fun j hj=>hβ j (hsubm j (al.2 (.inl ?_)))) (fun t _=>rfl)
     have key:∀l:List SV,∀j∈(jk l).ids,j∈SV.idsL l:=by
      intro l j hj
      match l with
      |[]=>exact hj
      |[v]=>simpa[jk,SV.idsL]using hj
      |v::u::r=>exact hj
     exact key vs2 j hj
    obtain⟨hosl,hosr⟩:=lz (x:=x1) (x1:=x2) (w:=w) rfl rfl (tk:=c1.tk) (obs:=os0) (j:=60+mt1.length) (f:=fun i=>m.getD i 0)
     (fun i hi=>(hE.heap.obs _ (hmem i (by omega))).1) (by rw[hz2];exact hT2.right)
    rw[hz2]at hosl hosr;simp only at hosl hosr
    have hwf:∀o∈os,o.wf=true:=by
     intro o ho'
     have:=mQ (tk:=c1.tk) (obs:=os0) (j:=60+mt1.length) (fun o h'=>by obtain⟨i,hi,rfl⟩:=cf h';have:=hS1.inv.wf _ (hmem i (by omega));simpa[aa,ab hi]using this) o (by rw[hz2];exact ho')
     exact this
    have hall:∀p∈fU 0 (ee (gV k m) id (os.take k))++fU (100+k) (ee (gV k m) id (os.drop k)),∃i,i<m.length/\p.1=gV k m (m.getD i 0)/\p.2=(os.getD i (.rc [])).ren (gV k m) id/\os.getD i (.rc [])∈os:=by
     intro p hp
     have gd:∀{l:List aG}{i:Nat},i<l.length->(ee (gV k m) id l).getD i (.rc [])=(l.getD i (.rc [])).ren (gV k m) id:=by intro l i hi;rw[gr,aa,aa,aT,ab hi];rfl
     have gm:∀{i:Nat},i<os.length->os.getD i (.rc [])∈os:=fun{i} hi=>by rw[aa,ab hi];exact bp _
     rcases al.1 hp with hp|hp
     ·obtain⟨i,h1,h2,h3⟩:=eZ.1 hp
      rw[gr,au,aj]at h1;have e:(os.take k).getD i (.rc [])=os.getD i (.rc []):=by simp only[aa,bV,if_pos (show i<k by omega)]
      refine⟨i,by omega, ?_, ?_,gm (by omega)⟩
      ·rw[h2,hfirst i (by omega)];unfold gV;rw[if_pos (by omega)];omega
      ·rw[h3,gd (by rw[aj];omega),e]
     ·obtain⟨i,h1,h2,h3⟩:=eZ.1 hp
      rw[gr,au,aH]at h1;have hi:k+i<m.length:=by omega
      have e:(os.drop k).getD i (.rc [])=os.getD (k+i) (.rc []):=by simp only[aa,bE]
      refine⟨k+i,hi, ?_, ?_,gm (by omega)⟩
      ·have h5:=hrest (k+i) (by omega) hi
       have h6:=mG (fR hi);have h7:gM m (m.getD (k+i) 0)=k+i:=lE hmnd h6.1 hi h6.2;unfold gV;rw[if_neg (by omega),h7,h2];omega
      ·rw[h3,gd (by rw[aH];omega),e]
    have hmt:∀t∈cD (mt1++mt2),t∈c1.tk:=by
     intro t ht;rw[fF,al]at ht;rcases ht with ht|ht
     ·exact oA (tk:=c1.tk) (own:=keep) (cs:=vs1) (j:=60) (i:=0) t (by rw[hz];exact ht)
     ·exact mT (tk:=c1.tk) (obs:=os0) (j:=60+mt1.length) t (by rw[hz2];exact ht)
    have htok:∀t∈tks 60 (mt1.length+mt2.length),(x3.τ t).2.1=(x3.τ t).2.2\/∃u,(mt1++mt2).getD (t-60) none=some u/\u∈c1.tk/\x3.τ t=x1.τ u:=by
     intro t ht;obtain⟨h1,h2⟩:=jy.1 ht;have e:=hτ x3 rfl (t-60) (by rw[af];omega);rw[show 60+(t-60)=t by omega]at e;cases hu:(mt1++mt2).getD (t-60) none with
     |none=>rw[hu]at e;rw[e];exact .inl rfl
     |some u=>rw[hu]at e;exact .inr ⟨u,rfl,hmt u (iH hu),e⟩
    refine⟨x3,hrr,hE.heap.sel (x2:=x3) rfl ?_ ?_ ?_ ?_ ?_ ?_, ?_, ?_⟩
    ·intro p hp
     obtain⟨i,h1,h2,h3,h4⟩:=hall p hp;have hm':=fR h1;refine⟨?_,_,hmem i h1,by rw[h2];exact hβ _ hm'⟩;rw[h2,h3];exact(hosr i (by omega)).renF (x2:=x3) (fun _ _ _ h=>h) (hβ _ hm') (fun j hj=>hβ j (hsubm j (al.2 (.inr (o5 h4 j hj))))) (fun t _=>rfl)
    ·rw[cn,List.nodup_append]
     refine⟨ix _ _,ix _ _,fun u hu v hv e=> ?_⟩;obtain⟨p,hp,rfl⟩:=aV.1 hu;obtain⟨r,hr,rfl⟩:=aV.1 hv;obtain⟨i,h1,h2,_⟩:=eZ.1 hp;obtain⟨j,h3,h4,_⟩:=eZ.1 hr;rw[gr,au,aj]at h1;omega
    ·intro p hp r hr hpr
     obtain⟨i,h1,h2,_⟩:=hall p hp;obtain⟨j,h3,h4,_⟩:=hall r hr;rw[h2,h4,hβ _ (fR h1),hβ _ (fR h3)]at hpr;have:=hE.heap.inj _ (hmem i h1) _ (hmem j h3) hpr;simp only at this;rw[h2,h4,this]
    ·intro t ht
     rcases htok t ht with g|⟨u,_,g1,g2⟩
     ·exact .inl g
     ·exact .inr ⟨u,g1,g2⟩
    ·intro t ht u hu htu
     rcases htok t ht with g|⟨t',g0,g1,g2⟩
     ·exact .inl g
     ·rcases htok u hu with g|⟨u',k0,k1,k2⟩
      ·exact .inr (.inl g)
      ·refine .inr (.inr ⟨t',g1,u',k1,nt htnd ?_ g0 k0,g2,k2⟩)
       have:=jy.1 ht;have:=jy.1 hu;omega
    ·intro i hi
     show(if _ then _ else _)=_;rw[if_pos hi]
    ·intro p hp
     obtain⟨i,h1,h2,h3,h4⟩:=hall p hp;rw[h3];exact ye (hwf _ h4)
    ·intro i hi
     show(if _ then _ else _)=_;rw[if_pos hi];exact hE.heap.pin i hi
structure bW(P:Program)(g:Nat)(F:FnC):Prop where
 fn:∃fn,P.funcs[g]? =some fn/\fn.body.map (cG P)=some F.code.er/\fn.ntmps=F.n/\EJ P fn.results.toList F.rs
 cb:eF P g=true
 ok:F.code.ok F.n=true
def xT(P:Program)(T:jQ):Prop:=∀g b,T.fn g=some b->match b with
 | .code F=>bW P g F
 | .prim f=>∀as os k q,f as os k=some q->my P g as os k (· =q)
theorem Dl(os:List aG):∀o,(idx os).lookup o=iG (fU 0 os) o:=by
 intro o;have h1:((idx os).map cQ).Nodup:=mW os;have h2:=ix os 0
 have hm:∀p,p∈idx os↔p∈fU 0 os:=by
  intro p;rw[iO,eZ];constructor
  ·rintro⟨g1,g2⟩;exact⟨p.1,g1,by omega,g2⟩
  ·rintro⟨i,g1,g2,g3⟩
   have e:p.1=i:=by omega
   rw[e];exact⟨g1,g3⟩
 rw[iy];refine s9 (fun v hv=> ?_) (fun v hv=> ?_)
 ·exact i5 (p:=(o,v)) h2 ((hm _).1 (i9 hv))
 ·exact i5 (p:=(o,v)) h1 ((hm _).2 (i9 hv))
theorem rS(n:Nat):∀(l:List SV)(i:Nat),eE (nT i l) n=if i<=n then l.getD (n-i) .undef else .undef
 |[],i=>by simp[nT,eE]
 |v::r,i=>by
  simp only[nT,eE,rS n r (i+1)]
  by_cases h:i=n
  ·subst h;simp
  ·rw[if_neg h]
   by_cases h2:i<=n
   ·rw[if_pos h2,if_pos (by omega)]
    obtain⟨k,hk⟩:∃k,n-i=k+1:=⟨n-i-1,by omega⟩;rw[hk,bY];congr 1;omega
   ·rw[if_neg h2,if_neg (by omega)]
theorem rM{p:Nat×SV}:∀{l:List SV}{i:Nat},p∈nT i l->p.1<i+l.length
 |v::r,i,h=>by
  simp only[nT]at h;rcases an.1 h with e|e
  ·rw[e];simp
  ·have:=rM e;simp only[aC];omega
theorem vf:∀(l:List aG)(k:Nat),((fU k l).map cQ).Pairwise (· < ·)
 |[],_=>by simp[fU]
 |o::r,k=>by simp only[fU,aI,bQ];refine⟨fun n hn=> ?_,vf r (k+1)⟩;obtain⟨p,hp,rfl⟩:=aV.1 hn;obtain⟨i,_,h2,_⟩:=eZ.1 hp;omega
theorem nC{n:Nat}(hR:uL P T n)(hT:xT P T):gq P (fi T n):=by
 intro g as os k q hq;unfold fi at hq;cases hg:T.fn g with
 |none=>rw[hg]at hq;cases hq
 |some b=>
  have hb:=hT g b hg;cases b with
  |prim f=>rw[hg]at hq;exact hb as os k q hq
  |code F=>
   rw[hg]at hq;simp only[nY,Fc]at hq;obtain⟨⟨fn,hfn,hbody,hnt,hrv⟩,hcb,hok⟩:=hb;refine⟨hcb, ?_⟩;split at hq
   case isFalse=>cases hq
   rename_i hle;intro C x w vs hw0 hG0 hmine hlen hwf hH hargs;cases hbd:fn.body with
   |none=>simp[hbd]at hbody
   |some code=>
    simp only[hbd,cZ]at hbody;refine calls_of_wp hfn hbd ?_;have hl:=hargs.1
    let s0:St:=⟨as++am (F.n-as.length) .undef,idx os,tks 50 k⟩
    have hM0:aP C x s0 {tmps:=(⟨vs⟩:Array Value)++dX (fn.ntmps-(⟨vs⟩:Array Value).size) Go.undef,defers:=[]} w:=by
     refine⟨?_,rfl,hH⟩
     have e1:((⟨vs⟩:Array Value)++dX (fn.ntmps-(⟨vs⟩:Array Value).size) Go.undef).toList=vs++am (F.n-as.length) Go.undef:=by simp[hnt,hl]
     rw[e1];refine hargs.append ⟨by simp,fun i hi=> ?_⟩;rw[fD _ _ _ _ (by simpa using hi)];exact .undef _
    have hS0:Sim F.n (rg as os k) s0:=by
     refine⟨⟨fun p hp=> ?_,vf os 0,fun p hp=> ?_⟩, ?_,fun o=>Dl os o,fun t=>Iff.rfl⟩
     ·have:=rM hp;omega
     ·obtain⟨i,h1,_,h3⟩:=eZ.1 hp
      rw[h3,aa,ab h1];exact hwf _ (bp _)
     ·apply List.ext_getElem?
      intro i;show(as++am (F.n-as.length) SV.undef)[i]? =_;rw[aT];rcases bX i F.n with hi|hi
      ·rw[cI hi]
       have e:(rg as os k).get i=as.getD i .undef:=by show eE (nT 0 as) i=_;rw[rS];simp
       simp only[bx,e,List.getElem?_append,List.getElem?_replicate]
       by_cases h:i<as.length
       ·rw[if_pos h,aa,ab h];rfl
       ·rw[if_neg h,if_pos (by omega),aa,kj (by omega)];rfl
      ·rw[kj (by simp;omega),kj (by simpa using hi)];rfl
    cases hs:gJ T n F.code (rg as os k)with
    |none=>rw[hs]at hq;cases hq
    |some p=>
     obtain⟨e,c1⟩:=p;rw[hs]at hq;refine wp_mono (hR.1 _ _ _ _ hs code C F.n _ w (by simpa using hbody) hok ⟨x,s0,hM0,hS0⟩) ?_;rintro e' a' w' ⟨rfl,x1,s1,hM1,hS1⟩
     have main:Pk F.keep F.raw os.length c1 (rE c1 F.rs)=some q->a'.defers=[]/\∃v,(results fn a'.tmps).run P w'= .ok v w'/\∃v',∃x':Sit,∃q',Ending.returned v= .returned v'/\q'=q/\Rep x' q'.r v'/\da C x' q'.os q'.tk w'/\(∀p∈q'.os,p.2.wf=true)/\∀i,i<os.length->x'.bk i=x.bk i:=by
      intro hf;cases hrc:rE c1 F.rs with
      |none=>rw[hrc]at hf;cases hf
      |some rv=>
       rw[hrc]at hf;obtain⟨p,h1,h2⟩:=sP (P:=P) hS1 hrv hrc;obtain⟨us,hrun,hl⟩:=qu hM1 h1 h2;obtain⟨x',g1,g2,g3,g4⟩:=El hM1 hS1 hlen hl hf;refine⟨hM1.defers,Pc us, ?_,Pc us,x',q,rfl,rfl,g1,g2,g3,fun i hi=> ?_⟩
       ·rw[wY,Array.mapM_eq_mapM_toList]
        simp only[aE,Sem.run_map,hrun,ak,aL];rfl
       ·rw[g4 i (by omega)];exact(hH.pin i (by omega)).symm
     cases e with
     |n=>exact main hq
     |r=>exact main hq
     |x id=>cases hq
theorem PD(hT:xT P T):∀n,uL P T n
 |0=>wW
 |n+1=>wX (PD hT n) (nC (PD hT n) hT)
theorem xM(hT:xT P T):gq P (call T):=by intro g as os k q hq;obtain⟨n,hn⟩:=oZ hq;exact nC (PD hT n) hT g as os k q hn
theorem S2(hT:xT P T){g:Nat}{as:List SV}{r:SV}(h:call T g as [] 0=some ⟨r,[],[]⟩)(ht:r.toks=[]):Fn P g as r:=by obtain⟨h1,h2⟩:=xM hT _ _ _ _ _ h;refine⟨h1,fun C x w vs hw hG hm hl hH hv=> ?_⟩;refine(h2 C x w vs hw hG (fun b hb=>(hm b hb).imp id (fun⟨i,hi,_⟩=>by simp at hi)) (by simp) (by simp) hH hv).mono ?_;rintro en w' ⟨v,x',q,rfl,rfl,hr,hH',_,hg⟩;exact⟨v,x',r,[],rfl,⟨rfl,rfl⟩,hr,by rw[ht];exact hH',hg⟩
def T8(P:Program):ResultVar->RV->Bool
 | .tmp t,.tmp t'=>decide (t=t')
 | .cell t ty,.cell t' n ag=>decide (t=t')&&decide (fu P ty=some n)&&decide (qI P ty=some ag)
 |_,_=>false
def qr(P:Program):List ResultVar->List RV->Bool
 |[],[]=>true
 |a::r,b::s=>T8 P a b&&qr P r s
 |_,_=>false
theorem vj:∀{rs:List ResultVar}{rv:List RV},qr P rs rv=true->EJ P rs rv
 |[],[],_=>trivial
 |[],_::_,h=>by cases h
 |_::_,[],h=>by cases h
 |a::r,b::s,h=>by
  simp only[qr,az]at h;refine⟨?_,vj h.2⟩;have h1:=h.1;cases a<;>cases b<;>simp only[T8,az,decide_eq_true_eq]at h1<;>first|(cases h1;done)|skip
  ·exact h1
  ·exact⟨h1.1.1,h1.1.2,h1.2⟩
theorem S3{g:Nat}{F:FnC}{fn:Func}(h1:P.funcs[g]? =some fn)(h2:fn.body.map (cG P)=some F.code.er)(h3:fn.ntmps=F.n)(h4:qr P fn.results.toList F.rs=true)(h5:eF P g=true)(h6:F.code.ok F.n=true):bW P g F:=
 ⟨⟨fn,h1,h2,h3,vj h4⟩,h5,h6⟩
end Go.Sy
namespace Go.Sy
variable [bg]
open Go.RowKit Go.ChangeShapes Go.WideShapes
def GW(w:World):GM:=fun b o=>w.cell? ⟨b,o,none⟩
def rA(w:World):Sit:=⟨GW w,fun _=>(0,0),fun _=>(0,0,0)⟩
theorem xij(w:World)(hL:Lay (GW w)):da ⟨w,GW w,fun b=>w.heap.size<=b,fun _=>(0,0)⟩ (rA w) [] [] w where
 per:=fun _ _ _ h=>h
 g0:=fun _ _ _ h=>h
 gm:=fun _ _ _ h=> .inl h
 new:=fun _ h=>h
 obs:=by simp
 nd:=List.nodup_nil
 inj:=by simp
 tks:=by simp
 tko:=by simp
 tkd:=by simp
 os:=rfl
 tape:=rfl
 output:=rfl
 size:=aQ _
 ext:=fun _ _=>rfl
 pin:=fun _ _=>rfl
 lay:=hL
theorem sG{x:Sit}{b:Bool}{v:Value}(h:Rep x (.bool b) v):v= .bool b:=by
 cases h with
 |dat _ _ h _=>cases h;rfl
theorem D4{P:Program}{f:Nat}{as:List SV}(h:Fn P f as (.bool true)){W:World}{vs:List Value}(hv:cH (rA W) as vs)(hL:Lay (GW W)):
 Calls P f ⟨vs⟩ W fun e W'=>e= .returned (.bool true)/\Below W.heap.size W W':=by
 refine(h.2 ⟨W,GW W,fun b=>W.heap.size<=b,fun _=>(0,0)⟩ (rA W) W vs rfl rfl (fun b hb=> .inl hb) (by simp) (xij W hL) hv).mono ?_;rintro e W' ⟨v,x',r,os',rfl,⟨rfl,rfl⟩,hr,hH,_⟩;obtain rfl:=sG hr;exact⟨rfl,hH.os,hH.tape,hH.output,hH.size,fun k hk=>hH.ext k (by simp;omega)⟩
section
variable {H : Type} {enc : TypeId × Value -> H} {P : Program} {w : World} {base : Nat} {sp : Nat -> Bool} {hd : Bool} {r : Reach} {b0 : Nat} {t e : TypeId} {v : Value} {d : DataW H} {ps : List MemPlace}
theorem TU{k:IntKind}(ht:P.underlying t=some (.int k))(hval:Value.okWide P w r b0 t v)(h:DataW.Trod enc P w base sp hd t v d ps):∃n,k.has n/\Rep (rA w) (.int k n) v:=by obtain⟨n,rfl,_,_,hw⟩:=open_int ht hval h;simp only[Lit.wf,az,decide_eq_true_eq]at hw;exact⟨n,hw,.dat _ _ (.int k n) trivial⟩
theorem wG{a:Addr}{len cap:Nat}(ht:P.underlying t=some (.slice e))(hval:Value.okWide P w r b0 t (.slice (some a) len cap)):a.spot=none:=by simp only[Value.okWide,ht,Cell.okWide,Cell.ok]at hval;exact hval.2.2.2.1
theorem Hs{n:Int}(h:(Lit.int .u8 n).wf=true):((iK n.toNat).toNat:Int)=n:=by
 simp only[Lit.wf,IntKind.min,IntKind.max,IntKind.signed,IntKind.bits,az,decide_eq_true_eq]at h;rw[UInt8.toNat_ofNat'];have:n.toNat<256:=by simp at h;omega
 rw[dV this];simp at h;omega
theorem ni(ht:P.underlying t=some (.slice e))(he:P.underlying e=some (.int .u8))(hc:P.cellsOf e=1)(hval:Value.okWide P w r b0 t v)(h:DataW.Trod enc P w base sp hd t v d ps):
 ∃l:List UInt8,l.length<=maxLen/\Rep (rA w) (.byt l .no) v:=by
 obtain⟨a0,len,cap,rfl⟩:=okWide_slice ht hval;obtain⟨fuel,hf⟩:=h;rcases open_ints ht he hc hf with⟨hcs,_⟩|⟨a,len',cap',zs,hcs,_,hl,hm,hz,_,hcell,hwf⟩
 ·simp[Value.cells]at hcs
  obtain⟨rfl,rfl,rfl⟩:=hcs;exact⟨[],by simp,.dat _ _ (.bytN .no) trivial⟩
 ·simp[Value.cells]at hcs
  obtain⟨rfl,rfl,rfl⟩:=hcs;have hs:=wG ht hval;obtain⟨b,off,spot⟩:=a;simp only at hs;subst hs;have hzl:len<=zs.length:=by rw[hz];split<;>omega
  refine⟨(zs.take len).map fun n=>iK n.toNat,by simp;omega,.dat _ _ (.byt _ .no b off cap len (by simp;omega) hl (fun i hi=> ?_)) trivial⟩;have h1:=hcell i (by omega);have hi':i<zs.length:=by omega
  rw[add_plain]at h1
  have e1:((zs.take len).map fun n=>iK n.toNat).getD i 0=iK (zs.getD i 0).toNat:=by simp[aa,hi',hi]
  show w.cell? _=_;rw[h1,e1]
  congr 2
  refine(Hs (hwf _ ?_)).symm;rw[aa,ab hi'];exact bp hi'
end
theorem Ga{x:Sit}:cH x [] []:=⟨rfl,by simp⟩
section
variable {H : Type} {enc : TypeId × Value -> H} {P : Program}
theorem Gi{f:Func}{s:ChangeSpec}{apart fresh handsOn again:Bool}{W W':World}{args:Array Value}{v:Value}{ds gs:List (DataW H)}{before pa pv:List MemPlace}
 (hW:DataW.Whole enc P f.params.toList s.vars apart W args.toList ds gs before)
 (hres:∀(b:Nat)(sp:Nat->Bool)(hd:Bool),DataW.TrodAll enc P W' b sp hd f.resultTypes.toList (v.resultList f.resultTypes.size) (s.fn H (ds++gs)).results [])
 (hargs:∀sp:Nat->Bool,(∀p∈before,sp p.block=true)->DataW.TrodAll enc P W' 0 sp true f.params.toList args.toList (s.fn H (ds++gs)).args pa)
 (hvars:∀sp:Nat->Bool,(∀p∈before,sp p.block=true)->DataW.TrodVars enc P W' sp s.vars (s.fn H (ds++gs)).vars pv)
 (hps:before=pa++pv) (hb:Below W.heap.size W W')
 (hok:∀(j:Nat)(t:TypeId)(r:Value),f.resultTypes[j]? =some t->(v.resultList f.resultTypes.size)[j]? =some r->Value.okWide P W' .any 0 t r):
 s.post enc P f apart fresh handsOn again W args v W':=by
 have hlt:=hW.lt;have hold:∀p∈before,(fun b=>decide (b<W.heap.size)) p.block=true:=fun p hp=>by simpa using hlt p hp
 refine⟨ds,gs,before,[],pa,pv,hW,hres _ _ _,hargs _ hold,hvars _ hold,World.keptBut_mono (fun p hp=>⟨hp, ?_⟩) (hb.frame (· ∈before)),fun _=> ?_⟩
 ·rw[hps,al]at hp
  exact Or.inr hp
 ·obtain⟨_,_,_,_,_,hz,hn⟩:=hW
  refine⟨hok,_,_,([]++pa)++pv,⟨[]++pa,pv,trodAll_append (hargs _ (fun _ _=>rfl)) (hres _ _ _),hvars _ (fun _ _=>rfl),rfl, ?_, ?_⟩, ?_⟩
  ·intro b off hp
   have hp':MemPlace.cell b off∈before:=by rw[hps];simpa using hp
   rw[hb.frozen (p:=⟨b,off,none⟩) (hlt _ hp')];exact hz b off hp'
  ·intro ha
   have:=hn ha;rw[hps]at this;simpa using this
  ·intro p hp _
   rw[hps];simpa using hp
theorem lc(hl:laidOutB P=true){W W':World}(hb:Below W.heap.size W W'):∀{ts:List TypeId}{vs:List Value}{ds:List (DataW H)}{p:List MemPlace},(ts.all fun t=>P.readableRec t&&decide (t<P.types.size))=true->
 DataW.TrodAll enc P W 0 (fun _=>true) true ts vs ds p->(∀x∈p,x.block<W.heap.size)->∀sp:Nat->Bool,(∀x∈p,sp x.block=true)->DataW.TrodAll enc P W' 0 sp true ts vs ds p
 |[],_,_,_,_,h,_,_,_=>by obtain⟨rfl,rfl,rfl⟩:=trodAll_nil h;exact trodAll_mk0
 |t::ts,_,_,_,hr,h,hlt,sp,hsp=>by obtain⟨v,vs1,d,ds1,a,b,rfl,rfl,rfl,h1,h2⟩:=trodAll_cons h;simp only[gx,az,decide_eq_true_eq]at hr;refine trodAll_cons_mk ?_ (lc hl hb (by simpa using hr.2) h2 (fun x hx=>hlt x (List.mem_append_right _ hx)) sp (fun x hx=>hsp x (List.mem_append_right _ hx)));exact WideElems.Trod_stays hl hr.1.1 hr.1.2 h1 (fun x hx=>hb.same (hlt x (List.mem_append_left _ hx))) (fun x hx=>hsp x (List.mem_append_left _ hx))
theorem GF{f:Func}{s:ChangeSpec}{W W':World}{args:Array Value}{ds gs:List (DataW H)}{before:List MemPlace}{tb:TypeId}(hl:laidOutB P=true)
 (hr:(f.params.toList.all fun t=>P.readableRec t&&decide (t<P.types.size))=true) (hrt:f.resultTypes= #[tb]) (htb:P.underlying tb=some .bool) (hvars:s.vars=[])
 (hfn:(s.fn H (ds++gs)).results=[.lit (.bool true)]) (hfa:(s.fn H (ds++gs)).args=ds) (hfv:(s.fn H (ds++gs)).vars=[])
 (hW:DataW.Whole enc P f.params.toList s.vars false W args.toList ds gs before) (hb:Below W.heap.size W W'):
 s.post enc P f false true false false W args (.bool true) W':=by
 have hlt:=hW.lt;have hW':=hW;obtain⟨p,q,hA,hV,rfl,hfz,hnd⟩:=hW;rw[hvars]at hV;obtain⟨rfl,rfl⟩:=trodVars_none hV;simp only[bJ]at hlt hW' hfz;refine Gi (pa:=p) (pv:=[]) (before:=p) (gs:=[]) hW' (fun b sp hd=> ?_) (fun sp hsp=> ?_) (fun sp hsp=> ?_) (by simp) hb (ok_one hrt rfl (okWide_bool_mk htb _))
 ·rw[hfn,hrt]
  exact trodAll_cons_mk (shut_bool htb _) trodAll_mk0
 ·rw[hfa]
  exact lc hl hb hr hA hlt sp hsp
 ·rw[hvars,hfv]
  rfl
end
end Go.Sy
namespace Go.Sy
variable [bg]
open Go.RowKit Go.ChangeShapes Go.WideShapes
variable {P : Program} {C : Ctx} {x : Sit} {w w' : World}
theorem fj.below{b:Nat}{c:Array Value}{e:TypeId}{fl fh:Nat}(h:fj w b c e fl fh)(hb:Below w.heap.size w w'):fj w' b c e fl fh:=h.of_heap (hb.block b h.lt)
theorem da.below{ob:List (Nat×aG)}{tk:List Nat}(h:da C x ob tk w)(hb:Below w.heap.size w w'):da C x ob tk w' where
 per:=fun b o v hv=>by rw[dn (hb.block b (h.ltG hv))];exact h.per b o v hv
 g0:=h.g0
 gm:=h.gm
 new:=h.new
 obs:=fun p hp=>by obtain⟨⟨c,e,fl,fh,hO,r⟩,q⟩:=h.obs p hp;exact⟨⟨c,e,fl,fh,hO.below hb,r⟩,q⟩
 nd:=h.nd
 inj:=h.inj
 tks:=fun t ht=>(h.tks t ht).imp id fun⟨⟨c,e,fl,fh,hO,r⟩,q⟩=>⟨⟨c,e,fl,fh,hO.below hb,r⟩,q⟩
 tko:=h.tko
 tkd:=h.tkd
 os:=hb.os.trans h.os
 tape:=hb.tape.trans h.tape
 output:=hb.output.trans h.output
 size:=cM h.size hb.size
 ext:=fun b hn=>by
  rcases bX b w.heap.size with h1|h1
  ·rw[hb.block b h1];exact h.ext b hn
  ·exact absurd (h.new b (cM h.size h1)) hn
 pin:=h.pin
 lay:=h.lay
def iR(w:World)(l:List UInt8)(v:Value):Prop:=
 (l=[]/\∃a,v= .slice a 0 0)\/∃b off n cap,v= .slice (some ⟨b,off,none⟩) n cap/\n=l.length/\∀i,i<n->w.cell? ⟨b,off+i,none⟩=some (.int .u8 (l.getD i 0).toNat)
theorem lH{l:List UInt8}{t:Tok}{v:Value}(h:Rep x (.byt l t) v)(hp:∀b o v,x.G b o=some v->w.cell? ⟨b,o,none⟩=some v):iR w l v:=by
 cases h with
 |dat _ _ h _=>
  cases h with
  |bytN=>exact .inl ⟨rfl,_,rfl⟩
  |bytE=>exact .inl ⟨rfl,_,rfl⟩
  |byt _ _ b off cap n hn hc h=>exact .inr ⟨b,off,n,cap,rfl,hn,fun i hi=>hp _ _ _ (h i hi)⟩
theorem yc{l:List UInt8}{v:Value}(h:Rep x (.str l) v):v= .string ⟨⟨l⟩⟩:=by
 cases h with
 |dat _ _ h _=>cases h;rfl
theorem xgb{b:UInt8}{v:Value}(h:Rep x (.u8 b) v):v= .int .u8 b.toNat:=by
 cases h with
 |dat _ _ h _=>cases h;rfl
theorem jg{g:Nat}{as:List SV}{r:SV}(hcb:eF P g=true)
 (h:∀(x:Sit)(w:World)(vs:List Value),cH x as vs->(∀b o v,x.G b o=some v->w.cell? ⟨b,o,none⟩=some v)->
  Calls P g ⟨vs⟩ w fun e w'=>∃v,e= .returned v/\Rep x r v/\Below w.heap.size w w'):my P g as [] 0 (· =⟨r,[],[]⟩):=by
 refine⟨hcb,fun C x w vs hw hG hm hl hwf hH hr=>(h x w vs hr hH.per).mono ?_⟩;rintro e w' ⟨v,rfl,hv,hb⟩;exact⟨v,x,_,rfl,rfl,hv,hH.below hb,fun p hp=>by simp at hp,fun i hi=>rfl⟩
theorem jZ{l:List UInt8}{v:Value}(h:iR w l v):(Extern.Bytes.bytesOf v).run P w= .ok ⟨⟨l⟩⟩ w:=by
 rcases h with⟨rfl,a,rfl⟩|⟨b,off,n,cap,rfl,hn,hc⟩
 ·cases a<;>rfl
 ·have hl:=Lib.run_loadBytesX (P:=P) w (l.map fun c=>(c.toNat:Int)) ⟨b,off,none⟩ .empty (fun j z hj=>by
   have hj':j<l.length:=by have:=(List.getElem?_eq_some_iff.1 hj).1;simpa using this
   have e:(⟨b,off,none⟩:Addr).add j=⟨b,off+j,none⟩:=by unfold Addr.add;split<;>simp_all
   rw[e,hc j (by omega)];simp only[aT,ab hj',bx,aw.injEq]at hj;rw[aa,ab hj',bB,<-hj])
  have e2:(⟨ByteArray.empty.data++(Lib.bytesOf (l.map fun c=>(c.toNat:Int))).toArray⟩:ByteArray)=⟨⟨l⟩⟩:=by
   apply ByteArray.ext;show(#[]:Array UInt8)++(Lib.bytesOf _).toArray=⟨l⟩
   have:Lib.bytesOf (l.map fun c=>(c.toNat:Int))=l:=by unfold Lib.bytesOf;rw[List.map_map];refine(List.map_congr_left (g:=id) fun c _=> ?_).trans (List.map_id _);simp
   rw[this];simp
  rw[au,e2]at hl;rw[hn];exact hl
theorem qt{a b:List UInt8}{u v:Value}(ha:iR w a u)(hb:iR w b v):(Extern.BytealgCompare.compare #[u,v]).run P w= .ok (.int .i64 (Lib.compareBytes a b)) w:=by change Sem.run P (do pure (goInt (Extern.BytealgCompare.cmp (<-Extern.Bytes.bytesOf u) (<-Extern.Bytes.bytesOf v)))) w=_;simp only[aE,jZ ha,jZ hb,Result.andThen,aL,Lib.cmp_eq];rfl
def tq(l:List UInt8)(c:UInt8):Int:=firstIdx ⟨⟨l⟩⟩ c
theorem uV{l:List UInt8}{u:Value}{c:UInt8}(ha:iR w l u):(Extern.BytealgIndexByte.indexByte #[u,.int .u8 c.toNat]).run P w= .ok (.int .i64 (tq l c)) w:=by
 have hs:=run_indexByte_string (P:=P) ⟨⟨l⟩⟩ c.toNat w
 change Sem.run P (do
  let b<-Extern.Bytes.bytesOf u
  let c'<-Extern.Bytes.asByte (.int .u8 c.toNat)
  match (cj b.size).find? fun i=>b[i]! ==c' with
  |some i=>pure (goInt i)
  |none=>pure (goInt (-1))) w=_
 change Sem.run P (do
  let b<-Extern.Bytes.bytesOf (.string ⟨⟨l⟩⟩)
  let c'<-Extern.Bytes.asByte (.int .u8 c.toNat)
  match (cj b.size).find? fun i=>b[i]! ==c' with
  |some i=>pure (goInt i)
  |none=>pure (goInt (-1))) w=_ at hs
 have e:(((c.toNat:Nat):Int).toNat.toUInt8)=c:=by simp
 rw[e]at hs;simp only[aE,jZ ha,Result.andThen]at hs ⊢;exact hs
end Go.Sy
namespace Go.Sy
variable [bg]
variable {T T' : jQ}
def jQ.add(T:jQ)(g:Nat)(F:FnC):jQ:=⟨fun k=>if k=g then some (.code F)else T.fn k,T.sg⟩
end Go.Sy
namespace Go.Sy
variable [bg]
variable {P : Program} {C : Ctx} {x : Sit} {w w' : World} {ob : List (Nat × aG)} {tk : List Nat}
open Go.RowKit Go.ChangeShapes Go.WideShapes
theorem da.one(h:da C x ob tk w)(hb:Below w.heap.size w w'){obj:aG}{K:Nat}(hr:dH (x.newO 100 w.heap.size K) w' 100 obj):da C (x.newO 100 w.heap.size K) [(100,obj)] [] w':=by
 have h1:=(h.sub (ob':=[]) (tk':=[]) (List.nil_sublist _) (fun t ht=>by cases ht)).below hb;have hd2:(x.newO 100 w.heap.size K).bk 100=(w.heap.size,K):=mF _ _ _;refine⟨h1.per,h1.g0,h1.gm,h1.new, ?_,by simp, ?_,(fun t ht=>by cases ht),(fun t ht=>by cases ht),(fun t ht=>by cases ht),h1.os,h1.tape,h1.output,h1.size,h1.ext,fun i hi=>by rw[Sit.newO_ne _ _ _ _ (by omega)];exact h1.pin i hi,h1.lay⟩
 ·intro p hp
  rw[ba]at hp;subst hp;refine⟨hr,by rw[hd2];exact h.new _ h.size,fun off=> ?_⟩;rw[hd2];show x.G w.heap.size off=none;cases hg:x.G w.heap.size off with
  |none=>rfl
  |some v=>exact absurd (h.ltG hg) (by omega)
 ·intro p hp q hq _
  rw[ba]at hp hq;rw[hp,hq]
end Go.Sy
