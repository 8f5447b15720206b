/- An engine that steps through Go code with symbolic values: sound by proof. No condition. -/
import Derived.Test.YtkggincjigbelaaGreatDoorEcB
import Derived.Below
import Derived.Carry
import Derived.ChangeSlices
import Derived.JoinedCond
import Derived.OpenShut
import Derived.RowKit3
import Derived.SliceStrings
import Derived.Lib.Bytealg
import Derived.Lib.BytesEntry
import Derived.Laws.IdiomCopy
import Derived.Maps.OwnOps
import Derived.Maps.OwnSet
open Array renaming ext' -> dJ, getD -> jU, getD_eq_getD_getElem? -> bi, getElem?_eq_some_iff -> dl, getElem?_toList -> cI, length_toList -> aS, replicate -> dP
open Bool renaming and_eq_true -> aB, false_eq_true -> aK, not_eq_true' -> dv, or_eq_true -> eH
open List renaming Nodup -> wB, Pairwise -> ge, Sublist -> nj, all_eq_true -> aR, append_nil -> bg, cons -> nZ, cons_append -> aU, contains_eq_mem -> eG, drop_eq_getElem_cons -> bF, drop_eq_nil_of_le -> bN, filter_cons -> kR, filter_eq_self -> iv, flatten_append -> bM, getD_eq_getElem?_getD -> aa, getElem?_append_left -> bQ, getElem?_append_right -> bU, getElem?_drop -> bw, getElem?_eq_getElem -> ab, getElem?_eq_none -> eo, getElem?_map -> aQ, getElem?_range -> bV, getElem?_take -> bL, getElem_mem -> bh, getElem_of_mem -> cr, length_append -> ac, length_cons -> aj, length_drop -> aI, length_eq_zero_iff -> dR, length_map -> aP, length_take -> ax, map_append -> ct, map_cons -> aC, mem_append -> al, mem_cons -> av, mem_cons_of_mem -> ao, mem_cons_self -> aD, mem_map -> aT, mem_map_of_mem -> iu, mem_range -> dy, mem_singleton -> bf, nil_append -> az, nodup_cons -> dC, not_mem_nil -> cL, pairwise_append -> lm, pairwise_cons -> cC, pairwise_iff_getElem -> od, pairwise_map -> gj, range -> bE, range' -> qP, replicate -> aE, take_append_drop -> yc, take_length -> cK
open Nat renaming add_mul -> bB, le_refl -> aH, le_trans -> pU, lt_or_ge -> bY, mod_eq_of_lt -> cy, mul_le_mul_right -> bv, mul_one -> cX, zero_add -> bX, zero_mul -> lj
open Option renaming bind_some -> cO, getD_some -> aY, ite_none_right_eq_some -> aJ, map_eq_some_iff -> ae, map_some -> bo, some -> an
open Prod renaming fst -> cE, mk -> bn
open Go.Result renaming andThen_ok -> am
open Go.Sem renaming run_bind -> aA, run_pure -> aG
open UInt8 renaming ofNat -> ee
set_option linter.unusedVariables false
set_option linter.unusedSimpArgs false
set_option linter.unnecessarySimpa false
set_option linter.unusedSectionVars false
namespace Go.Sy
variable [aZ]
variable {P : Program} {C : Ctx} {x : Sit} {a : Act} {w : World} {N : Nat} {c c' : CSt} {s : St} {call : cU} {sg : Nat -> Sig}
def fW(P:Program)(call:cU):Prop:=∀g as os k q,call g as os k=some q->jB P g as os k (· =q)
theorem xV{sg:Sig}{d:Option Nat}{g:Nat}{as:List SV}(hc:io call sg c d g as=some c'):∃as' os k q,call g as' os k=some q:=by
 unfold io at hc;generalize ((SV.idsL as).isEmpty&&sg.own.isEmpty)=b at hc;cases b with
 |true=>
  simp only[jM]at hc;cases hq:call g (SV.bareL as) [] 0 with
  |none=>rw[hq]at hc;cases hc
  |some q=>exact⟨_,_,_,q,hq⟩
 |false=>
  simp only[jM]at hc;generalize eC c as (iY sg.raw 0 as)=z at hc;obtain⟨c1,as1⟩:=z;simp only[jG]at hc;generalize jP c1.tk sg.own 50 0 as1=z at hc;obtain⟨as2,mt1⟩:=z;simp only[nt]at hc;cases ho:gp c1 (dF c1 60 [] (SV.idsL as2))with
  |none=>rw[ho]at hc;cases hc
  |some os0=>
   rw[ho]at hc;simp only[lr]at hc;generalize dQ c1.tk (50+mt1.length) os0=z at hc;obtain⟨os,mt2⟩:=z;simp only[nq]at hc;generalize (oj (SV.idsL as2++ft os) (dF c1 60 [] (SV.idsL as2))&&dr (dF c1 60 [] (SV.idsL as2))&&dr (cf (mt1++mt2))&&decide ((dF c1 60 [] (SV.idsL as2)).length<=40)&&(dF c1 60 [] (SV.idsL as2)).all fun o=> !inR (d.getD 0) o)=b at hc;cases b with
   |false=>cases hc
   |true=>
    simp only[np]at hc;cases hq:call g (SV.renL (gA (dF c1 60 [] (SV.idsL as2))) id as2) (ed (gA (dF c1 60 [] (SV.idsL as2))) id os) (mt1.length+mt2.length)with
    |none=>rw[hq]at hc;cases hc
    |some q=>exact⟨_,_,_,q,hq⟩
theorem cR.freeze{ob:List (Nat×aF)}{tk:List Nat}(h:cR C x ob tk w){b:Nat}(hb:C.mine b)(ho:∀p∈ob,(x.bk p.1).1≠b)(ht:∀t∈tk,(x.τ t).1≠b\/(x.τ t).2.1=(x.τ t).2.2)(off n:Nat):
 cR C x ob tk (w.freeze ⟨b,off,none⟩ n):=by
 have hne:∀b',b'≠b->(w.freeze ⟨b,off,none⟩ n).heap[b']? =w.heap[b']? :=by
  intro b' h';unfold World.freeze;split
  ·rfl
  ·simp only[Array.getElem?_modify,if_neg (Ne.symm h')]
 have hcell:∀b' i,(w.freeze ⟨b,off,none⟩ n).cell? ⟨b',i,none⟩=w.cell? ⟨b',i,none⟩:=by
  intro b' i
  by_cases h':b'=b
  ·subst h'
   unfold World.freeze;split
   ·rfl
   ·simp only[World.cell?,Array.getElem?_modify,if_true]
    cases hw:w.heap[b']? with
    |none=>rfl
    |some q=>cases q<;>rfl
  ·exact dh (hne b' h')
 have hsz:(w.freeze ⟨b,off,none⟩ n).heap.size=w.heap.size:=by unfold World.freeze;split<;>simp
 have hos:(w.freeze ⟨b,off,none⟩ n).os=w.os/\(w.freeze ⟨b,off,none⟩ n).tape=w.tape/\(w.freeze ⟨b,off,none⟩ n).output=w.output:=by unfold World.freeze;split<;>exact⟨rfl,rfl,rfl⟩
 refine⟨fun b' i v hv=>by rw[hcell];exact h.per b' i v hv,h.g0,h.gm,h.new,fun p hp=> ?_,h.nd,h.inj,fun t ht'=> ?_,h.tko,h.tkd,hos.1.trans h.os,hos.2.1.trans h.tape,hos.2.2.trans h.output,by rw[hsz];exact h.size,fun b' hb'=> ?_,h.pin,h.lay⟩
 ·obtain⟨⟨cc,e,fl,fh,hO,r⟩,q⟩:=h.obs p hp
  exact⟨⟨cc,e,fl,fh,hO.of_heap (hne _ (ho p hp)),r⟩,q⟩
 ·rcases h.tks t ht' with h1|⟨⟨cc,e,fl,fh,hO,h2⟩,h3⟩
  ·exact .inl h1
  ·rcases ht t ht' with h4|h4
   ·exact .inr ⟨⟨cc,e,fl,fh,hO.of_heap (hne _ h4),h2⟩,h3⟩
   ·exact .inl h4
 ·rw[hne b' (fun e=>hb' (e ▸ hb))];exact h.ext b' hb'
theorem Qs{o:Oper}{q:Arg}(hr:br P o=some (.slid q)):∃src X e,o.op= .convert src src X/\P.underlying src=some (.slice e)/\lC P e=true/\bq P src X=some q:=by
 cases ho:o.op with
 |convert src dst X=>
  simp only[br,ho]at hr;split at hr<;>try (cases hr;done)
  ·split at hr<;>cases hr
  ·split at hr<;>cases hr
  ·rename_i e q' hs hd hX
   split at hr<;>try (cases hr;done)
   rename_i hc;simp only[aB,decide_eq_true_eq]at hc;obtain⟨rfl,h8⟩:=hc;cases hr;exact⟨src,X,e,rfl,hd,h8,hX⟩
 |_=>exfalso;exact absurd hr (by
  intro hr;simp only[br,ho]at hr
  first
   |(cases hr;done)
   |(obtain⟨_,_,h⟩:=ae.1 hr;cases h;done)
   |(repeat' split at hr)<;>first|(cases hr;done)|contradiction|(obtain⟨_,_,h⟩:=ae.1 hr;first|(cases h;done)|(split at h<;>cases h;done)))
theorem Fq{o:Oper}{xs:List Arg}(hr:br P o=some (.newB xs)):False:=by
 cases ho:o.op with
 |buildSlice t len parts=>
  simp only[br,ho]at hr;split at hr<;>try (cases hr;done)
  split at hr<;>try (cases hr;done)
  split at hr<;>try (cases hr;done)
  obtain⟨_,_,h⟩:=ae.1 hr;split at h<;>cases h
 |_=>
  simp only[br,ho]at hr
  first
   |(cases hr;done)
   |(obtain⟨_,_,h⟩:=ae.1 hr;cases h;done)
   |(repeat' split at hr)<;>first|(cases hr;done)|contradiction|(obtain⟨_,_,h⟩:=ae.1 hr;first|(cases h;done)|(split at h<;>cases h;done))
theorem CY{o:Oper}{z:List SV}{b:Nat}{q y:Arg}(hr:br P o=some (.appO z b q y)):False:=by
 cases ho:o.op with
 |buildSlice t len parts=>
  simp only[br,ho]at hr;split at hr<;>try (cases hr;done)
  split at hr<;>try (cases hr;done)
  split at hr<;>try (cases hr;done)
  obtain⟨_,_,h⟩:=ae.1 hr;split at h<;>cases h
 |_=>
  simp only[br,ho]at hr
  first
   |(cases hr;done)
   |(obtain⟨_,_,h⟩:=ae.1 hr;cases h;done)
   |(repeat' split at hr)<;>first|(cases hr;done)|contradiction|(obtain⟨_,_,h⟩:=ae.1 hr;first|(cases h;done)|(split at h<;>cases h;done))
theorem xiB{ops:Array Oper}{o:Oper}{i:SI}(h:fQ P ops o=some i):i.er=i:=by
 obtain⟨h1,_,_⟩:=kG h;obtain⟨d,g,op⟩:=i
 have:op.er=op:=by
  cases op with
  |appO z b q y=>
   rcases h1 with h1|⟨xs,e,_⟩
   ·exact(CY h1).elim
   ·cases e
  |_=>rfl
 show SI.mk d g op.er=_;rw[this]
theorem w6{o:Oper}{q:Arg}(h:M C N c a w)(hr:br P o=some (.slid q))(hd:∀k,o.dst=some k->k<N)(hc:qQ c o.dst (c.ev q)=some c'){K:Act->World->Prop}{Q:Exit->Act->World->Prop}(hK:∀a w,M C N c' a w->K a w):o.wp P a w K Q:=by
 obtain⟨x,s,hM,hS⟩:=h;unfold qQ at hc;split at hc<;>try (cases hc;done)
 rename_i o' off n cap hq;unfold ov at hc;split at hc<;>try (cases hc;done)
 rename_i l hl;split at hc<;>try (cases hc;done)
 rename_i hcond;obtain⟨hb,rfl⟩:=hcond;cases hc;obtain⟨src,X,e,ho,hu,h8,hX⟩:=Qs hr;have hv:=aL hM hX;rw[hS.ev,hq]at hv;obtain⟨cp,hnc,hcp,off',hval,hoff⟩:=hv.psl_inv;have hls:s.look o'=some (.bar l):=(hS.look o').trans hl;obtain⟨cc,e',fl,fh,hO,hsz,_⟩:=eF hM hls;have hob:=hM.heap.obs _ (cS hls);obtain⟨x',⟨hβ,hτ⟩,hp,s',hM',hS'⟩:=oG hl (fun cs e=>by cases e) hM hS
 have hval':Rep x' (.byt ((l.drop off).take n) .clip) (a.eval X):=by have:=hp _ _ hv;simpa only[SV.pub,if_true,xv,true_and,if_pos hb]using this
 have h1:∀p∈s'.ob,(x'.bk p.1).1≠(x.bk o').1:=by intro p hp' e;rw[hβ]at e;have h2:s'.look p.1=some p.2:=xE hM'.heap.nd hp';rw[hS'.look]at h2;obtain⟨h3,q',h4,_⟩:=kp (jg h2);have h5:=je (jb hS.inv.so) h4;exact h3 (hM.heap.inj (p.1,q') (cS ((hS.look p.1).trans h5)) _ (cS hls) e)
 have h2:∀t∈s'.tk,(x'.τ t).1≠(x.bk o').1\/(x'.τ t).2.1=(x'.τ t).2.2:=by intro t ht;rw[hτ];exact hM.heap.tko t ((hS.tk t).2 ((hS'.tk t).1 ht)) _ (cS hls)
 have hfr:aM C x' s' a (w.freeze ⟨(x.bk o').1,cc.size,none⟩ 1):=⟨hM'.tm,hM'.defers,hM'.heap.freeze hob.2.1 h1 h2 _ _⟩
 have hrun:(execOp a.eval o).run P w= .ok (.value (a.eval X)) (w.freeze ⟨(x.bk o').1,cc.size,none⟩ 1):=by have hm:(markStringish ⟨(x.bk o').1,off',none⟩).run P w= .ok () (w.freeze ⟨(x.bk o').1,cc.size,none⟩ 1):=eh (e:=e') (by simp only[World.shape?,hO.1]);simp only[execOp,ho,hval,convert,aA,run_underlying hu,am,beq_self_eq_true,run_underlying (jf h8),hm,aG]
 refine de ⟨a.eval X,_,x',_,hrun,.inl rfl,hfr.put o.dst hval'⟩ (k:=Sim N _) ?_ hK;have e1:(c.publish o' []).1=⟨ly o' (.bar l) c.tm,kY o' (.bar l) c.ob,c.tk⟩:=by unfold CSt.publish;rw[hl]
 rw[e1];exact hS'.put hd _
theorem oN{o:Oper}{xs:List Arg}(h:M C N c a w)(hr:br P o=some (.litB xs))(hd:∀k,o.dst=some k->k<N)(hc:nG c o.dst (toB (evL c xs))=some c'){K:Act->World->Prop}{Q:Exit->Act->World->Prop}(hK:∀a w,M C N c' a w->K a w):o.wp P a w K Q:=by
 obtain⟨x,s,hM,hS⟩:=h;rw[hS.evL]at hc;unfold nG at hc;split at hc<;>try (cases hc;done)
 rename_i k l hk hl;cases hc;obtain⟨t,len,parts,ho⟩:=Ry hr;obtain⟨r,e,hrun,hsz,hcell⟩:=xg hM ho hr hl
 have hM':=hM.newObj (d:=k+100) o.dst (by omega) (.bar l) (val:= .psl (k+100) 1 0 l.length (some l.length)) (u:= .slice (some ⟨w.heap.size,0,none⟩) l.length l.length) (t:=e) hsz (fun i hi=>by
  show cn x.G (.u8 (l.getD i 0)) _;rw[hcell i hi];exact .u8 _) (by
  have:=Rep.psl (x:=x.newO (k+100) w.heap.size) (k+100) 1 0 l.length (some l.length) 0 l.length (.inr rfl) (aH _) (fun _ e=>by cases e;rfl) (fun e=>by cases e);rwa[jd]at this)
 refine de ⟨_,_,_,_,hrun,.inl rfl,hM'⟩ (k:=Sim N _) ?_ hK;have:=hS.app hd (e:= {val:= .psl (k+100) 1 0 l.length (some l.length),new:=some (.bar l)}) (f:= {pre:=True,val:= .psl (k+100) 1 0 l.length (some l.length),new:=some (.bar l)}) ⟨rfl,rfl,rfl,rfl,rfl⟩ ⟨fun ob he=>by cases he;rfl,.inl rfl⟩;rw[hk]at this ⊢;exact this
theorem F1(hM:aM C x s a w)(hS:Sim N c s){g:Nat}{t:Bool}(h:c.get g= .bool t):a.tmps[g]? =some (.bool t):=(F3 hM (by rw[hS.get];exact h)).2.1
theorem uD{ops:Array Oper}{o:Oper}{j g:Nat}{b:Bool}(h:o.guard=some (j,b))(hg:(ops[j]?).bind (·.dst)=some g)(ht:∀t,a.tmps[g]? ≠some (.bool t)):Region.wanted o (yielded ops a.tmps)=false:=by
 have hy:yielded ops a.tmps j=none:=by
  unfold yielded;rw[hg,cO];cases hv:a.tmps[g]? with
  |none=>rfl
  |some v=>
   cases v with
   |bool t=>exact absurd hv (ht t)
   |_=>rfl
 simp only[Region.wanted,h,hy];rfl
theorem vn{x:Sit}:Rep x (.tup []) Go.undef:= .tup [] [] rfl fun i hi=>by simp at hi
theorem F2(hM:aM C x s a w)(hS:Sim N c s){g:Nat}(h:c.get g= .tup []):∀t,a.tmps[g]? ≠some (.bool t):=by
 intro t ht;have h1:=hM.slot g;rw[hS.get,h]at h1
 have h2:a.tmps.getD g Go.undef= .bool t:=by rw[bi,ht];rfl
 replace h1:Rep x (.tup []) (a.tmps.getD g Go.undef):=h1;rw[h2]at h1;cases h1 with
 |dat _ _ h _=>cases h
theorem GH{o:Oper}{q:Arg}(hr:br P o=some (.s2b q)):∃src dst X e,o.op= .convert src dst X/\P.underlying src=some .string/\P.underlying dst=some (.slice e)/\lC P e=true/\bq P src X=some q:=by
 cases ho:o.op with
 |convert src dst X=>
  simp only[br,ho]at hr;split at hr<;>try (cases hr;done)
  ·split at hr<;>cases hr
  ·rename_i e q' hs hd hX
   split at hr<;>try (cases hr;done)
   rename_i h8;cases hr;exact⟨src,dst,X,e,rfl,hs,hd,h8,hX⟩
  ·split at hr<;>cases hr
 |_=>exfalso;exact absurd hr (by
  intro hr;simp only[br,ho]at hr
  first
   |(cases hr;done)
   |(obtain⟨_,_,h⟩:=ae.1 hr;cases h;done)
   |(repeat' split at hr)<;>first|(cases hr;done)|contradiction|(obtain⟨_,_,h⟩:=ae.1 hr;first|(cases h;done)|(split at h<;>cases h;done)))
theorem xe3{o:Oper}{z:List SV}{b:Nat}{q r:Arg}(hr:br P o=some (.app z b q r)):∃cl,o.op= .call cl/\cl.callee= .builtin .append:=by
 cases ho:o.op with
 |call cl=>
  refine⟨cl,rfl, ?_⟩;cases hb:cl.callee with
  |builtin bb=>
   cases bb with
   |append=>rfl
   |_=>
    exfalso;simp only[br,ho,hb]at hr
    first
     |(cases hr;done)
     |(repeat' split at hr)<;>first|(cases hr;done)|contradiction
  |_=>
   exfalso;simp only[br,ho,hb]at hr
   first
    |(cases hr;done)
    |(repeat' split at hr)<;>first|(cases hr;done)|contradiction
 |_=>exfalso;exact absurd hr (by
  intro hr;simp only[br,ho]at hr
  first
   |(cases hr;done)
   |(obtain⟨_,_,h⟩:=ae.1 hr;cases h;done)
   |(repeat' split at hr)<;>first|(cases hr;done)|contradiction|(obtain⟨_,_,h⟩:=ae.1 hr;first|(cases h;done)|(split at h<;>cases h;done)))
theorem aM.newObjF(hM:aM C x s a w){d:Nat}(sl:Option Nat)(hd100:100<=d){cv:Array Value}{t:TypeId}{fl fh:Nat}(obj:aF){val:SV}{u:Value}(hf:∀i,i<cv.size->¬(fl<=i/\i<fh))(hs:obj.size<=cv.size)(hr:∀k,k<obj.size->bZ x obj k (cv.getD k Go.undef))
 (hmk:obj.arrB=true->¬(fl<=cv.size/\cv.size<fh)) (hv:Rep (x.newO d w.heap.size cv.size) val u) {w':World} (hw:w'.heap=(w.alloc (.cells cv t (fl,fh))).heap) (h1:w'.os=w.os) (h2:w'.tape=w.tape) (h3:w'.output=w.output):
 aM C (x.newO d w.heap.size cv.size) (((s.purge d (d+1)).addO d (obj.purge d (d+1))).put sl val) (a.put sl u) w':=by
 refine aM.put ⟨?_,hM.defers, ?_⟩ sl hv
 ·exact cd.mono (x:=x) (x':=x.newO d w.heap.size cv.size) (lo:=d) (hi:=d+1) (fun _ _ _ h=>h) (Sit.newO_ne x d _) (fun _ _=>rfl) hM.tm
 ·exact cR.congr (w:=w.alloc (.cells cv t (fl,fh))) (hM.heap.allocO d hd100 obj hf hs hr (aH _) hmk) hw h1 h2 h3
theorem aM.drew(hM:aM C x s a w):aM C x s a w.drew:=⟨hM.tm,hM.defers,hM.heap.drew⟩
theorem xz{o:Oper}{q:Arg}(h:M C N c a w)(hr:br P o=some (.s2b q))(hd:∀k,o.dst=some k->k<N)(hc:Rh c o.dst (c.ev q)=some c'){K:Act->World->Prop}{Q:Exit->Act->World->Prop}(hK:∀a w,M C N c' a w->K a w):o.wp P a w K Q:=by
 obtain⟨x,s,hM,hS⟩:=h;unfold Rh at hc;split at hc<;>try (cases hc;done)
 rename_i k l hk hl;cases hc;obtain⟨src,dst,X,e,ho,hs,hdd,h8,hX⟩:=GH hr;have he:=jf h8;have h1:=aL hM hX;rw[hS.ev,hl]at h1;have hf:(Question.appendCap (ByteArray.mk ⟨l⟩).size 0 e).forced=false:=rfl
 obtain⟨cp,hcp,hge⟩:∃cp,(Question.appendCap (ByteArray.mk ⟨l⟩).size 0 e).cut (w.tape w.drawn (Question.appendCap (ByteArray.mk ⟨l⟩).size 0 e))=cp/\l.length<=cp:=by
  refine⟨_,rfl, ?_⟩;simp only[Question.cut];have:(ByteArray.mk ⟨l⟩).size=l.length:=by simp[ByteArray.size]
  omega
 let cs:Array Value:=(ByteArray.mk ⟨l⟩).data.map (fun b=> .int .u8 b.toNat)++dP (cp-(ByteArray.mk ⟨l⟩).size) (.int .u8 0)
 have hsz:(ByteArray.mk ⟨l⟩).size=l.length:=by simp[ByteArray.size]
 have hcs:cs.size=cp:=by simp[cs,hsz];omega
 have hget:∀i,i<l.length->cs[i]? =some (.int .u8 (l.getD i 0).toNat):=by intro i hi;simp only[cs];rw[Array.getElem?_append_left (by simpa using hi)];simp[hi,aa]
 have hrun:(execOp a.eval o).run P w= .ok (.value (.slice (some ⟨w.heap.size,0,none⟩) l.length cp)) ((w.drew.alloc (.cells cs e (0,0))).freeze ⟨w.heap.size,cs.size,none⟩ 1):=by simp only[execOp,ho,h1.str_inv,convert,aA,run_underlying hs,run_underlying hdd,am,run_underlying he,Conv.stringToBytes,run_choose_drew,hf,aK,if_false,hcp,newRow,run_newObj_alloc,aG];rw[eh (e:=e) (n:=cs.size) (by simp only[World.shape?];rw[dz])];simp only[am,hsz];rfl
 have hM':=hM.drew.newObjF (d:=k+100) o.dst (by omega) (.bar l) (cv:=cs) (t:=e) (fl:=cs.size) (fh:=cs.size+1) (val:= .psl (k+100) 1 0 l.length none) (u:= .slice (some ⟨w.heap.size,0,none⟩) l.length cp) (fun i hi h=>by omega) (by simp only[aF.size];omega) (fun i hi=>by
  simp only[aF.size]at hi;show cn x.G (.u8 (l.getD i 0)) _;have:cs.getD i Go.undef= .int .u8 (l.getD i 0).toNat:=by rw[bi,hget i hi];rfl
  rw[this];exact .u8 _) (fun h=>by cases h) (by
  have:=Rep.psl (x:=x.newO (k+100) w.drew.heap.size cs.size) (k+100) 1 0 l.length none 0 cp (.inr rfl) hge (fun _ e=>by cases e) (fun _=> .inr (by rw[mj,hcs];omega));rw[jd]at this;exact this) (gq w.drew cs e) rfl rfl rfl
 refine de ⟨_,_,_,_,hrun,.inl rfl,hM'⟩ (k:=Sim N _) ?_ hK;have:=hS.app hd (e:= {val:= .psl (k+100) 1 0 l.length none,new:=some (.bar l)}) (f:= {pre:=True,val:= .psl (k+100) 1 0 l.length none,new:=some (.bar l)}) ⟨rfl,rfl,rfl,rfl,rfl⟩ ⟨fun ob he=>by cases he;rfl,.inl rfl⟩;rw[hk]at this ⊢;exact this
theorem wK{o:Oper}{q:Arg}(h:M C N c a w)(hr:br P o=some (.s2b q))(hd:∀k,o.dst=some k->k<N)(hc:P5 c o.dst (c.ev q)=some c'){K:Act->World->Prop}{Q:Exit->Act->World->Prop}(hK:∀a w,M C N c' a w->K a w):o.wp P a w K Q:=by
 obtain⟨x,s,hM,hS⟩:=h;unfold P5 at hc;split at hc<;>try (cases hc;done)
 rename_i k l hk hl;cases hc;obtain⟨src,dst,X,e,ho,hs,hdd,h8,hX⟩:=GH hr;have he:=jf h8;have h1:=aL hM hX;rw[hS.ev,hl]at h1;have hf:(Question.appendCap (ByteArray.mk ⟨l⟩).size 0 e).forced=false:=rfl
 obtain⟨cp,hcp,hge⟩:∃cp,(Question.appendCap (ByteArray.mk ⟨l⟩).size 0 e).cut (w.tape w.drawn (Question.appendCap (ByteArray.mk ⟨l⟩).size 0 e))=cp/\l.length<=cp:=by
  refine⟨_,rfl, ?_⟩;simp only[Question.cut];have:(ByteArray.mk ⟨l⟩).size=l.length:=by simp[ByteArray.size]
  omega
 let cs:Array Value:=(ByteArray.mk ⟨l⟩).data.map (fun b=> .int .u8 b.toNat)++dP (cp-(ByteArray.mk ⟨l⟩).size) (.int .u8 0)
 have hsz:(ByteArray.mk ⟨l⟩).size=l.length:=by simp[ByteArray.size]
 have hcs:cs.size=cp:=by simp[cs,hsz];omega
 have hget:∀i,i<l.length->cs[i]? =some (.int .u8 (l.getD i 0).toNat):=by intro i hi;simp only[cs];rw[Array.getElem?_append_left (by simpa using hi)];simp[hi,aa]
 have hrun:(execOp a.eval o).run P w= .ok (.value (.slice (some ⟨w.heap.size,0,none⟩) l.length cp)) ((w.drew.alloc (.cells cs e (0,0))).freeze ⟨w.heap.size,cs.size,none⟩ 1):=by simp only[execOp,ho,h1.str_inv,convert,aA,run_underlying hs,run_underlying hdd,am,run_underlying he,Conv.stringToBytes,run_choose_drew,hf,aK,if_false,hcp,newRow,run_newObj_alloc,aG];rw[eh (e:=e) (n:=cs.size) (by simp only[World.shape?];rw[dz])];simp only[am,hsz];rfl
 have hG:∀o,x.G w.heap.size o=none:=by
  intro o;cases hg:x.G w.heap.size o with
  |none=>rfl
  |some v=>exact absurd (hM.heap.ltG hg) (by omega)
 have hle:=hM.heap.newD_le cs l.length;have hH:cR C (x.newD w.heap.size cs l.length) s.ob s.tk (w.drew.alloc (.cells cs e (cs.size,cs.size+1))):=hM.heap.drew.allocD l.length;have hown:eP (w.drew.alloc (.cells cs e (cs.size,cs.size+1))) w.heap.size cs e cs.size (cs.size+1):=⟨dz (w:=w.drew),fun i _ h=>by omega⟩
 have hH2:cR C ((x.newD w.heap.size cs l.length).newT (k+100) w.heap.size l.length cp) (bx (k+100) (k+100+1) s.ob) ((k+100)::cg (k+100) (k+100+1) s.tk) (w.drew.alloc (.cells cs e (cs.size,cs.size+1))):=by
  refine hH.addT (k+100) w.heap.size _ _ (.inr ⟨⟨cs,e,_,_,hown,by omega⟩,hM.heap.new _ hM.heap.size,fun o h1 h2=> ?_⟩) (.inr fun p hp _=> ?_) (.inr fun u hu _=> ?_)
  ·simp only[Sit.newD];rw[if_neg (by omega)];exact hG o
  ·obtain⟨⟨c2,e2,fl2,fh2,hO2,_⟩,_⟩:=hM.heap.obs p hp
   have:=hO2.lt;show w.heap.size≠(x.bk p.1).1;omega
  ·rcases hM.heap.tks u hu with h|⟨⟨c2,e2,fl2,fh2,hO2,_⟩,_⟩
   ·exact .inr h
   ·have:=hO2.lt
    exact .inl (by show w.heap.size≠(x.τ u).1;omega)
 have hM':aM C ((x.newD w.heap.size cs l.length).newT (k+100) w.heap.size l.length cp) ((s.grew .no (k+100)).put o.dst (.byt l (.id (k+100)))) (a.put o.dst (.slice (some ⟨w.heap.size,0,none⟩) l.length cp)) ((w.drew.alloc (.cells cs e (0,0))).freeze ⟨w.heap.size,cs.size,none⟩ 1):=by
  refine aM.put ⟨?_,hM.defers, ?_⟩ o.dst ?_
  ·exact cd.mono (x:=x) (x':=(x.newD w.heap.size cs l.length).newT (k+100) w.heap.size l.length cp) (lo:=k+100) (hi:=k+100+1) hle (fun _ _=>rfl) (Sit.newT_ne (x.newD w.heap.size cs l.length) (k+100) _ _ _) hM.tm
  ·exact cR.congr (w:=w.drew.alloc (.cells cs e (cs.size,cs.size+1))) hH2 (gq w.drew cs e) rfl rfl rfl
  ·refine .dat _ _ (.byt l _ w.heap.size 0 cp l.length rfl hge fun i hi=> ?_) ⟨_,l.length,cp,rfl,.inr ⟨w.heap.size,0,rfl, ?_⟩⟩
   ·show(x.newD w.heap.size cs l.length).G w.heap.size (0+i)=_
    simp only[Sit.newD];rw[if_pos ⟨trivial,by omega⟩,bX];exact hget i hi
   ·rw[Sit.newT_eq,cX,cX,bX,bX]
 refine de ⟨_,_,_,_,hrun,.inl rfl,hM'⟩ (k:=Sim N _) ?_ hK;have:=hS.app hd (e:= {val:= .byt l (.id (k+100)),tok:=true}) (f:= {pre:=True,val:= .byt l (.id (k+100)),tok:=true}) ⟨rfl,rfl,rfl,rfl,rfl⟩ ⟨fun ob he=>(by cases he),.inl rfl⟩;rw[hk]at this ⊢;exact this
theorem rX(hM:aM C x s a w){t u el:TypeId}{d2:TypeDesc}{n by_:Nat}{zs:List Value}(hd:P.underlying t=some (.slice el))(hu:P.underlying u=some d2)(hu2:(∃e',d2= .slice e')\/d2= .string)(hn:eW P el=some n)(hb:tt P el=some by_)
 (hz:fO P el=some zs) (hb0:by_≠0) (hzl:zs.length=n) {ty:TypeId} {X Y:Value} {fl fl':List SV} {ns:List Value} {len m cap:Nat} (hX:Cn x.G n fl X len cap)
 (hlen:∀w',w'.heap=w.heap->(Builtin.lenOf Y).run P w'= .ok m w') (hcells:∀w',w'.heap=w.heap->(Builtin.firstCells n m Y).run P w'= .ok ns.toArray w') (hnl:ns.length=m*n) (hnew:New x ns fl') (hroom:(len+m)*by_<=140737488355328) (hc:¬len+m<=cap):
 ∃nc cv,len+m<=nc/\(Builtin.append_ #[t,u] ty #[X,Y]).run P w= .ok (.slice (some ⟨w.heap.size,0,none⟩) (len+m) nc) (w.drew.alloc (.cells cv el (0,0)))/\((fl++fl').length<=cv.size/\nc*n<=cv.size)/\∀k,k<(fl++fl').length->cn x.G ((fl++fl').getD k .undef) (cv.getD k Go.undef):=by
 obtain⟨hfl,hlc,hX'⟩:=hX;obtain⟨z,hzc,hzr⟩:=cM hz
 obtain⟨i,hi,hib⟩:∃i,P.info? el=some i/\i.bytes=by_:=by
  unfold tt at hb;cases hi:P.info? el with
  |none=>simp[hi]at hb
  |some i=>simp[hi]at hb;exact⟨i,rfl,hb⟩
 obtain⟨bs,hXe⟩:∃bs,X= .slice bs len cap:=by
  rcases hX' with⟨b,off,rfl,_⟩|⟨⟨a,rfl⟩,rfl,rfl⟩
  ·exact⟨_,rfl⟩
  ·exact⟨_,rfl⟩
 subst hXe;have hfl':fl'.length=m*n:=by rw[hnew.len,hnl]
 obtain⟨os,hos,hosl,hosv⟩:∃os:List Value,(∀w',w'.heap=w.heap->(Builtin.firstCells n len (.slice bs len cap)).run P w'= .ok os.toArray w')/\os.length=fl.length/\∀k,k<fl.length->cn x.G (fl.getD k .undef) (os.getD k Go.undef):=by
  rcases hX' with⟨b,off,he,hr⟩|⟨he,h1,h2⟩
  ·simp only[Value.slice.injEq]at he
   obtain⟨rfl,_⟩:=he;refine⟨(bE (len*n)).map fun k=>(w.cell? ⟨b,off+k,none⟩).getD Go.undef,fun w' hw'=> ?_,by simp[hfl],fun k hk=> ?_⟩
   ·simp only[Builtin.firstCells]
    refine run_loadCells w' _ _ _ fun j hj=> ?_
    rw[di,dh (w:=w) (by rw[hw'])];obtain⟨v,hv,_⟩:=hr j (by omega);rw[hM.heap.per _ _ _ hv];rfl
   ·obtain⟨v,hv,hrv⟩:=hr k hk
    have:((bE (len*n)).map fun k=>(w.cell? ⟨b,off+k,none⟩).getD Go.undef).getD k Go.undef=v:=by rw[aa];simp[show k<len*n from by omega,hM.heap.per _ _ _ hv]
    rw[this];exact hrv
  ·obtain⟨a,he⟩:=he
   simp only[Value.slice.injEq]at he;obtain⟨rfl,rfl,_⟩:=he;have:fl=[]:=dR.1 (by rw[<-hfl,h1,lj]);subst this;exact⟨[],fun w' _=>by cases bs<;>simp only[Builtin.firstCells,lj]<;>rfl,rfl,fun k hk=>by simp at hk⟩
 obtain⟨nc,hnc,hrun⟩:=jX (t:=t) (u:=u) (ty:=ty) (Y:=Y) hd hu hu2 hn hi hib hb0 hzr hlen hcells hos hc hroom;refine⟨nc,_,hnc,hrun, ?_,fun k hk=> ?_⟩
 ·have hzs:z.cells.size=n:=by rw[<-aS,hzc];exact hzl
  have e3:len*n+m*n+(nc-(len+m))*n=nc*n:=by rw[<-bB,<-bB];congr 1;omega
  simp only[ac,Array.size_append,List.size_toArray,hosl,<-hnew.len,eu,hzs];omega
 ·have hkl:k<os.length+ns.length:=by rw[hosl,<-hnew.len,<-ac];exact hk
  rw[bi,kd os ns _ k hkl]
  by_cases hk1:k<fl.length
  ·have e1:(fl++fl').getD k .undef=fl.getD k .undef:=by simp only[aa,bQ hk1]
   have e2:((os++ns)[k]?).getD Go.undef=os.getD k Go.undef:=by simp only[aa,bQ (show k<os.length by omega)]
   rw[e1,e2];exact hosv k hk1
  ·have e1:(fl++fl').getD k .undef=fl'.getD (k-fl.length) .undef:=by simp only[aa,bU (Nat.le_of_not_lt hk1)]
   have e2:((os++ns)[k]?).getD Go.undef=ns.getD (k-fl.length) Go.undef:=by simp only[aa,bU (show os.length<=k by omega),hosl]
   rw[e1,e2];exact hnew.rep _ (by rw[ac]at hk;omega)
theorem kN{n:Nat}{fl:List SV}{X:Value}{len cap:Nat}(hX:Cn x.G n fl X len cap)(hsp:dj x n .clip X):cap=len:=by
 obtain⟨a,k,he⟩:=hsp;obtain⟨_,_,hX'⟩:=hX;rcases hX' with⟨b,off,h,_⟩|⟨h,h1,h2⟩
 ·rw[h]at he;simp only[Value.slice.injEq]at he;omega
 ·omega
theorem mV(o:Nat)(obj:aF):∀l:List (Nat×aF),bx o (o+1) (setO o obj l)=bx o (o+1) l
 |[]=>rfl
 |p::r=>by
  simp only[setO]
  by_cases hp:p.1=o
  ·rw[if_pos hp]
   simp only[bx];rw[if_pos (by omega),if_pos (by omega)]
  ·rw[if_neg hp]
   simp only[bx];rw[if_neg (by omega),if_neg (by omega),mV o obj r]
theorem xx{o:Oper}{z:List SV}{by_ o' sz n:Nat}{r q:Arg}(h:M C N c a w)(hr:br P o=some (.app z by_ r q))(hd:∀k,o.dst=some k->k<N)(hx:c.ev r= .psl o' sz 0 n none)
 (hc:NI c z by_ o' sz n o.dst (fB c z.length (.psl o' sz 0 n none)) (fB c z.length (c.ev q))=some c') {K:Act->World->Prop} {Q:Exit->Act->World->Prop} (hK:∀a w,M C N c' a w->K a w):o.wp P a w K Q:=by
 obtain⟨x,s,hM,hS⟩:=h;obtain⟨X,Y,t,u,el,d2,zs,I,hu2,_⟩:=SL hr (.inl rfl) a;have hu2:=hu2 rfl;have h1:=aL hM I.hX;have h2:=aL hM I.hY;rw[hS.ev,hx]at h1;unfold NI at hc;split at hc<;>try (cases hc;done)
 rename_i k R0 R1 hk hR0 hR1;rw[aJ]at hc;obtain⟨⟨rfl,hR0l,hroom⟩,hc⟩:=hc;obtain⟨p0,hR0',hp0⟩:=kh hS hR0;obtain⟨p1,hR1',hp1⟩:=kh hS hR1;rw[<-hS.ev]at hR1';obtain⟨os,g0,n0,s0⟩:=pr (P:=P) hM h1 hR0' hp0;obtain⟨ns,g1,n1,s1⟩:=pr (P:=P) hM h2 hR1' hp1
 obtain⟨xs,hl,hbd,hR0e⟩:∃xs,c.look o'=some (.arr z.length xs)/\n<=xs.length/\R0=xs.take n:=by
  simp only[fB]at hR0;split at hR0
  ·rename_i sz'' xs hl
   obtain⟨⟨_,e1,e2⟩,e3⟩:=bJ hR0;exact⟨xs,by rw[hl,<-e1],by omega,by rw[<-e3];rfl⟩
  ·cases hR0
 obtain⟨cp,hncp,off',hXe,hoff,hkk⟩:=h1.psl_invK;have hnl:ns.length=R1.length*z.length:=by rw[<-n1.len,bA g1]
 have hol:os.length=n*z.length:=by rw[<-n0.len,bA g0,hR0l]
 have hls:s.look o'=some (.arr z.length xs):=(hS.look o').trans hl;obtain⟨cc,e,fl,fh,hO,⟨hsz,hsz2,hsz3⟩,hcell⟩:=eF hM hls;have hrows:∀y∈R0++R1,y.length=z.length:=fun y hy=>(al.1 hy).elim (g0 y) (g1 y)
 have hrx:∀y∈xs,y.length=z.length:=hS.rows hl;have hN:=n0.append n1;rw[<-bM]at hN;have hsize:(aF.arr z.length (R0++R1)).size=(n+R1.length)*z.length:=by simp only[aF.size,ac,hR0l]
 have hsim:=(hS.purge o' (o'+1)).app (d:=o.dst) hd (e:= {val:= .psl (k+100) z.length 0 (n+R1.length) none,new:=some (.arr z.length (R0++R1))}) (f:= {pre:=True,val:= .psl (k+100) z.length 0 (n+R1.length) none,new:=some (.arr z.length (R0++R1))}) ⟨rfl,rfl,rfl,rfl,rfl⟩ ⟨fun ob he=>by cases he;exact ja.2 hrows,.inl rfl⟩;have hce:=an.inj hc;subst hce;have hex:=I.ex;rw[hXe]at hex;have e5:(n+R1.length)*z.length=n*z.length+R1.length*z.length:=bB _ _ _
 by_cases hfit:n+R1.length<=cp
 ·have hfitc:n*z.length+ns.length<=cc.size:=by
   rcases hkk with h0|h0
   ·have h3:n=0:=by omega
    have h4:R1.length=0:=by omega
    rw[hnl,h3,h4];omega
   ·have h3:(n+R1.length)*z.length<=cp*z.length:=bv _ hfit
    rw[hnl];omega
  obtain⟨q1,q2,q3,q4,q5⟩:=fR ((x.bk o').1) ns w (n*z.length);obtain⟨c2,hO2,hcs,hck⟩:=fg ns w (n*z.length) cc hO hfitc
  have hM1:aM C x (s.setO o' (.arr z.length (R0++R1))) a (cw w ((x.bk o').1) (n*z.length) ns):=
   ⟨hM.tm,hM.defers,hM.heap.block (cS hls) q1 q2 q3 q4 q5 ⟨c2,e,fl,fh,hO2,⟨by rw[hsize,hcs];omega,by rw[hcs];exact hsz2,fun h=>by rw[hcs];exact hsz3 rfl⟩,fun i hi=>by
    rw[hsize]at hi;rw[hck i];have hi2:i<(R0++R1).length*z.length:=by rw[ac,hR0l];exact hi
    show cn x.G ((((R0++R1)).getD (i/z.length) []).getD (i % z.length) .undef) _;rw[<-cB _ hrows i hi2,bM];have hfl0:R0.flatten.length=n*z.length:=by rw[bA g0,hR0l]
    by_cases hin:n*z.length<=i
    ·rw[if_pos ⟨hin,by omega⟩]
     have:=n1.rep (i-n*z.length) (by rw[bA g1];omega);rw[aa,bU (by omega),hfl0,<-aa];exact this
    ·rw[if_neg (fun h=>hin h.1)]
     have hlt:n*z.length<=xs.length*z.length:=bv _ hbd;have h3:=hcell i (by simp only[aF.size];omega);change cn x.G ((xs.getD (i/z.length) []).getD (i % z.length) .undef) _ at h3;rw[<-cB xs hrx i (by omega)]at h3;rw[aa,bQ (by omega),hR0e]
     have e6:xs.flatten[i]? =(xs.take n).flatten[i]? :=by
      have:xs.flatten=(xs.take n).flatten++(xs.drop n).flatten:=by rw[<-bM,yc]
      rw[this,bQ (by rw[<-hR0e];omega)]
     rw[<-e6,<-aa];exact h3⟩⟩
  have hM2:=hM1.move (d:=k+100) (by omega) (obj:= .arr z.length (R0++R1)) (by show(setO o' _ s.ob).lookup o'=_;have h3:s.ob.lookup o'=some (.arr z.length xs):=hls;rw[jY,if_pos ⟨rfl,by rw[h3];rfl⟩]) (fun cs e=>by cases e)
  have hpe:(s.setO o' (.arr z.length (R0++R1))).purge o' (o'+1)=s.purge o' (o'+1):=by simp only[St.purge,St.setO,mV]
  rw[hpe]at hM2;have hd2:(x.newO (k+100) (x.bk o').1 (x.bk o').2).bk (k+100)=x.bk o':=if_pos rfl
  have hv:Rep (x.newO (k+100) (x.bk o').1 (x.bk o').2) (.psl (k+100) z.length 0 (n+R1.length) none) (.slice (some ⟨(x.bk o').1,off',none⟩) (n+R1.length) cp):=by have:=Rep.psl (x:=x.newO (k+100) (x.bk o').1 (x.bk o').2) (k+100) z.length 0 (n+R1.length) none off' cp hoff hfit (fun _ e=>by cases e) (fun _=>by rw[hd2];exact hkk);rw[hd2]at this;exact this
  have hM3:=hM2.put o.dst hv
  have hrun:=ic (P:=P) (t:=t) (u:=u) (ty:=o.type) (Y:=a.eval Y) (bs:=some ⟨(x.bk o').1,off',none⟩) (len:=n) (m:=R1.length) (cap:=cp) (w1:=cw w ((x.bk o').1) (n*z.length) ns) I.hd I.hu hu2 I.hn (s1.len w rfl) (s1.cells w rfl) hfit (by
   simp only[di]
   by_cases hc0:cp=0
   ·have:ns=[]:=dR.1 (by
     rw[hnl];have:R1.length=0:=by omega
     rw[this,lj])
    rw[this];simp[storeCells,cw]
   ·rw[hoff.resolve_left hc0,lj,bX]
    exact fe (n*z.length) ns w cc 0 hO (by omega) n1.one)
  refine de ⟨_,_,_,.value _, ?_,.inl rfl,hM3⟩ (k:=Sim N _) ?_ hK
  ·rw[hex];simp only[aA,hrun,am,aG]
  ·rw[hk]at hsim ⊢
   exact hsim
 ·obtain⟨i,hi,hib⟩:=DE I.hby
  obtain⟨zv,hzc,hzr⟩:=cM I.hz
  obtain⟨nc,hnc,hrun⟩:=jX (P:=P) (t:=t) (u:=u) (ty:=o.type) (Y:=a.eval Y) (bs:=some ⟨(x.bk o').1,off',none⟩) (len:=n) (m:=R1.length) (cap:=cp) (os:=os) (ns:=ns) I.hd I.hu hu2 I.hn hi hib I.hb0 hzr s1.len s1.cells (by have:=s0.cells;rw[hXe,hR0l]at this;exact this) hfit hroom
  have hzs:zv.cells.size=z.length:=by rw[<-aS,hzc];exact I.hzl.symm
  have hcvs:(os.toArray++ns.toArray++Builtin.zeroCells zv.cells (nc-(n+R1.length))).size=nc*z.length:=by simp only[Array.size_append,List.size_toArray,eu,hzs,hol,hnl];rw[<-bB,<-bB];congr 1;omega
  have hM':=(hM.purge o' (o'+1)).drew.newObjF (d:=k+100) o.dst (by omega) (.arr z.length (R0++R1)) (cv:=os.toArray++ns.toArray++Builtin.zeroCells zv.cells (nc-(n+R1.length))) (t:=el) (fl:=0) (fh:=0) (val:= .psl (k+100) z.length 0 (n+R1.length) none) (u:= .slice (some ⟨w.heap.size,0,none⟩) (n+R1.length) nc) (fun i hi h=>by omega) (by
   rw[hsize,hcvs];exact bv _ hnc) (fun i hi=>by
   rw[hsize]at hi;have h3:=rW hrows hN i (by rw[ac,hR0l];exact hi)
   have e7:(os.toArray++ns.toArray++Builtin.zeroCells zv.cells (nc-(n+R1.length))).getD i Go.undef=(⟨os++ns⟩:Array Value).getD i Go.undef:=by rw[bi,kd os ns _ i (by rw[hol,hnl];omega),bi];simp
   rw[e7];exact h3) (fun _ h=>by omega) (by
   have:=Rep.psl (x:=x.newO (k+100) w.drew.heap.size (os.toArray++ns.toArray++Builtin.zeroCells zv.cells (nc-(n+R1.length))).size) (k+100) z.length 0 (n+R1.length) none 0 nc (.inr (by omega)) hnc (fun _ e=>by cases e) (fun _=> .inr (by rw[mj,hcvs];omega));rw[jd]at this;exact this) (w':=w.drew.alloc (.cells (os.toArray++ns.toArray++Builtin.zeroCells zv.cells (nc-(n+R1.length))) el (0,0))) rfl rfl rfl rfl
  refine de ⟨_,_,_,.value _, ?_,.inl rfl,hM'⟩ (k:=Sim N _) ?_ hK
  ·rw[hex];simp only[aA,hrun,am,aG]
  ·rw[hk]at hsim ⊢
   exact hsim
theorem oK{o:Oper}{z:List SV}{by_:Nat}{r q:Arg}(h:M C N c a w)(hr:br P o=some (.app z by_ r q))(hd:∀k,o.dst=some k->k<N)(hc:rz c o.dst z by_ q (c.ev r)=some c'){K:Act->World->Prop}{Q:Exit->Act->World->Prop}(hK:∀a w,M C N c' a w->K a w):o.wp P a w K Q:=by
 by_cases hpsl:∃o' sz n,c.ev r= .psl o' sz 0 n none
 ·obtain⟨o',sz,n,hx⟩:=hpsl
  rw[hx]at hc;exact xx h hr hd hx hc hK
 obtain⟨x,s,hM,hS⟩:=h;obtain⟨cl,ho,hb⟩:=xe3 hr;simp only[br,ho,hb]at hr;split at hr<;>try (cases hr;done)
 rename_i X Y t u hX ht;split at hr<;>try (cases hr;done)
 rename_i el d2 r' q' hdd hu hra hrb;split at hr<;>try (cases hr;done)
 rename_i n by' z' hn hby hz
 rw[aJ]at hr;obtain⟨hcond,hr⟩:=hr;simp only[aB,decide_eq_true_eq]at hcond;obtain⟨⟨hb0,hn0⟩,hzl'⟩:=hcond;obtain⟨zs,hzc,hzl0,_⟩:=jk hz;have hzl:zs.length=n:=by omega
 obtain⟨hu2,rfl,rfl,rfl,rfl⟩:((∃e',d2= .slice e')\/d2= .string)/\z'=z/\by'=by_/\r'=r/\q'=q:=by
  split at hr<;>try (cases hr;done)
  ·cases hr;exact⟨.inl ⟨_,rfl⟩,rfl,rfl,rfl,rfl⟩
  ·rw[aJ]at hr
   obtain⟨_,hr⟩:=hr;cases hr;exact⟨.inr rfl,rfl,rfl,rfl,rfl⟩
 have h1:=aL hM hra;have h2:=aL hM hrb;have ea:cl.args= #[X,Y]:=by apply dJ;simpa using hX
 have et:cl.argTypes= #[t,u]:=by apply dJ;simpa using ht
 have hex:=fu (a:=a) ho hb _ rfl;rw[ea,et]at hex;have em: #[X,Y].map a.eval= #[a.eval X,a.eval Y]:=by simp
 rw[em]at hex
 have hex':∀{v w'},(Builtin.append_ #[t,u] o.type #[a.eval X,a.eval Y]).run P w= .ok v w'->(execOp a.eval o).run P w= .ok (.value v) w':=by intro v w' hrun;rw[hex];simp[hrun]
 rw[hS.ev]at h1
 have fin:∀{k nc cv}(obj:aF)(sz m:Nat),o.dst=some k->m<=nc->(Builtin.append_ #[t,u] o.type #[a.eval X,a.eval Y]).run P w= .ok (.slice (some ⟨w.heap.size,0,none⟩) m nc) (w.drew.alloc (.cells cv el (0,0)))->
  obj.size<=cv.size->nc*sz<=cv.size->(∀i,i<obj.size->bZ x obj i (cv.getD i Go.undef))->obj.wf=true->c'=c.app (some k) {val:= .psl (k+100) sz 0 m none,new:=some obj}->o.wp P a w K Q:=by
  intro k nc cv obj sz m hk hnc hrun hsz hncs hcell hwf hce;subst hce
  have hM':=hM.drew.newObjF (d:=k+100) o.dst (by omega) obj (cv:=cv) (t:=el) (fl:=0) (fh:=0) (val:= .psl (k+100) sz 0 m none) (u:= .slice (some ⟨w.heap.size,0,none⟩) m nc) (fun i hi h=>by omega) hsz hcell (fun _ h=>by omega) (by have:=Rep.psl (x:=x.newO (k+100) w.drew.heap.size cv.size) (k+100) sz 0 m none 0 nc (.inr (by omega)) hnc (fun _ e=>by cases e) (fun _=> .inr (by rw[mj];omega));rw[jd]at this;exact this) (w':=w.drew.alloc (.cells cv el (0,0))) rfl rfl rfl rfl
  refine de ⟨_,_,_,_,hex' hrun,.inl rfl,hM'⟩ (k:=Sim N _) ?_ hK;have:=hS.app hd (e:= {val:= .psl (k+100) sz 0 m none,new:=some obj}) (f:= {pre:=True,val:= .psl (k+100) sz 0 m none,new:=some obj}) ⟨rfl,rfl,rfl,rfl,rfl⟩ ⟨fun ob he=>by cases he;exact hwf,.inl rfl⟩;rw[hk]at this ⊢;exact this
 unfold rz at hc;split at hc<;>try (cases hc;done)
 ·rename_i l tk hl
  rw[aJ]at hc;obtain⟨rfl,hc⟩:=hc;unfold Rg at hc;split at hc<;>try (cases hc;done)
  rename_i k l' hk hl';split at hc<;>try (cases hc;done)
  rename_i hz1;have hz1:z'.length=1:=Classical.not_not.1 hz1;obtain rfl:n=1:=by omega
  obtain⟨p,hl'',hp0⟩:=mS hS hl';rw[<-hS.ev]at hl'';rw[hl]at h1;obtain⟨g1,g2⟩:=iM (P:=P) hM h2 hl'' hp0;obtain⟨_,_,_,_,_,hsp⟩:=h1.byt_inv;obtain⟨cap,hF,_⟩:=vS (h1.data rfl)
  by_cases hne:l'=[]
  ·rw[if_pos hne]at hc
   cases hc;subst hne
   obtain⟨bs,hXe⟩:∃bs,a.eval X= .slice bs l.length cap:=by
    rcases hF.2.2 with⟨b,off,h,_⟩|⟨h,h1,h2⟩
    ·exact⟨_,h⟩
    ·exact⟨_,by rw[h.choose_spec,h1,h2]⟩
   have hcap:=kN hF hsp;rw[hXe]at h1 hex'
   have hrun:=ic (P:=P) (t:=t) (u:=u) (ty:=o.type) (Y:=a.eval Y) (ns:=[]) (w:=w) (w1:=w) (m:=0) (bs:=bs) (len:=l.length) (cap:=cap) hdd hu hu2 hn (g1 w rfl) (by have:=g2 0 (aH _) w rfl;simpa using this) (by omega) (by cases bs<;>rfl)
   refine de ⟨_,_,_,_,hex' hrun,.inl rfl,hM.put o.dst h1⟩ (k:=Sim N _) ?_ hK;have:=hS.put hd (.byt l .clip);rw[hk]at this ⊢;exact this
  ·rw[if_neg hne]at hc
   rw[aJ]at hc;obtain⟨⟨rfl,hroom⟩,hc⟩:=hc;have hcap:=kN hF hsp;have hpos:0<l'.length:=List.length_pos_iff.2 hne
   obtain⟨nc,cv,hnc,hrun,hsz,hcell⟩:=rX (ty:=o.type) hM hdd hu hu2 hn hby hzc hb0 hzl hF g1 (fun w' hw'=>by have:=g2 l'.length (aH _) w' hw';rwa[cK]at this) (by simp) (rC l') (by omega) (by omega)
   refine fin (.bar (l++l')) 1 _ hk hnc hrun (by simp only[aF.size];simpa using hsz.1) hsz.2 (fun i hi=> ?_) rfl (an.inj hc).symm;simp only[aF.size]at hi;have:=hcell i (by simpa using hi);rw[<-ct,iC _ _ hi]at this;exact this
 ·rename_i sz l tk hl
  rw[aJ]at hc;obtain⟨rfl,hc⟩:=hc;unfold Rf at hc;split at hc<;>try (cases hc;done)
  rename_i k l' hk hl';obtain⟨p,hl'',hp0⟩:=kh hS hl';rw[<-hS.ev]at hl'';rw[hl]at h1;obtain⟨hrows',g1,ns,hnew,g2⟩:=gO (P:=P) hM h2 hl'' hp0;obtain⟨_,_,_,_,_,hsp⟩:=h1.lst_inv;obtain⟨cap,hF,_,hrows⟩:=pL (h1.data rfl)
  by_cases hne:l'=[]
  ·rw[if_pos hne]at hc
   cases hc;subst hne
   obtain⟨bs,hXe⟩:∃bs,a.eval X= .slice bs l.length cap:=by
    rcases hF.2.2 with⟨b,off,h,_⟩|⟨h,h1,h2⟩
    ·exact⟨_,h⟩
    ·exact⟨_,by rw[h.choose_spec,h1,h2]⟩
   have hcap:=kN hF hsp;rw[hXe]at h1 hex'
   have hrun:=ic (P:=P) (t:=t) (u:=u) (ty:=o.type) (Y:=a.eval Y) (ns:=[]) (w:=w) (w1:=w) (m:=0) (bs:=bs) (len:=l.length) (cap:=cap) hdd hu hu2 hn (g1 w rfl) (by have:=g2 0 (aH _) w rfl;rw[hzl']at this;simpa using this) (by omega) (by cases bs<;>rfl)
   refine de ⟨_,_,_,_,hex' hrun,.inl rfl,hM.put o.dst h1⟩ (k:=Sim N _) ?_ hK;have:=hS.put hd (.lst sz l .clip);rw[hk]at this ⊢;exact this
  ·rw[if_neg hne]at hc
   rw[aJ]at hc;obtain⟨⟨rfl,hroom⟩,hc⟩:=hc;obtain rfl:n=z'.length:=by omega
   have hcap:=kN hF hsp;have hpos:0<l'.length:=List.length_pos_iff.2 hne;have hnl:ns.length=l'.length*z'.length:=by rw[<-hnew.len,bA hrows']
   obtain⟨nc,cv,hnc,hrun,hsz,hcell⟩:=rX (ty:=o.type) hM hdd hu hu2 hn hby hzc hb0 hzl hF g1 (fun w' hw'=>by have:=g2 l'.length (aH _) w' hw';rwa[<-hnl,cK]at this) hnl hnew hroom (by omega)
   have hrows2:∀y∈l++l',y.length=z'.length:=fun y hy=>(al.1 hy).elim (hrows y) (hrows' y)
   have hlen2:(l++l').length*z'.length=(l.flatten++l'.flatten).length:=by rw[<-bM,bA hrows2]
   refine fin (.arr z'.length (l++l')) z'.length _ hk hnc hrun (by simp only[aF.size];omega) hsz.2 (fun i hi=> ?_) (ja.2 hrows2) (an.inj hc).symm;simp only[aF.size]at hi;have:=hcell i (by omega);rw[<-bM,cB _ hrows2 i hi]at this;exact this
 ·rename_i o' sz n hl
  exact absurd ⟨o',sz,n,hl⟩ hpsl
theorem rA(hcal:fW P call){o:Oper}{so:SOp}(h:M C N c a w)(hr0:rf P o so.er)(hd:∀k,o.dst=some k->k<N)(hc:opC call sg c o.dst so=some c'){K:Act->World->Prop}{Q:Exit->Act->World->Prop}(hK:∀a w,M C N c' a w->K a w):o.wp P a w K Q:=by
 by_cases hao:∃z b q y,so= .appO z b q y
 ·obtain⟨z,b,q,y,rfl⟩:=hao
  exact oK h (hr0.old (by intro xs e;cases e)) hd hc hK
 have her:so.er=so:=by cases so<;>first|rfl|exact absurd ⟨_,_,_,_,rfl⟩ hao
 rw[her]at hr0
 by_cases hnb:∃xs,so= .newB xs
 ·obtain⟨xs,rfl⟩:=hnb
  rcases hr0 with hr|⟨ys,e,hr⟩
  ·exact(Fq hr).elim
  ·cases e
   exact oN h hr hd hc hK
 have hr:=hr0.old fun xs e=>hnb ⟨xs,e⟩
 by_cases hsl:∃q,so= .slid q
 ·obtain⟨q,rfl⟩:=hsl
  exact w6 h hr hd hc hK
 by_cases hcl:∃f as,so= .call f as
 ·obtain⟨f,as,rfl⟩:=hcl
  simp only[opC]at hc;split at hc<;>try (cases hc;done)
  rename_i g c1 c2 hg;obtain⟨x,s,hM,hS⟩:=h;obtain⟨cl,F,ho,hb,h1,h2,h3⟩:=Gq hr;obtain⟨as',os',k',q',hq'⟩:=xV hc;have hcb:dV P g=true:=(hcal _ _ _ _ _ hq').1;obtain⟨vs,hrun,hvs⟩:=Dt hM ho hb h1 h2 h3 (by rw[hS.ev];exact hg) hcb;rw[<-hS.evL]at hvs;exact uB hrun (uN hM hS hd (hcal g) hc hvs) hK
 ·refine xgt h hr hd ?_ hK
  cases so with
  |call f as=>exact absurd ⟨f,as,rfl⟩ hcl
  |newB xs=>exact absurd ⟨xs,rfl⟩ hnb
  |slid q=>exact absurd ⟨q,rfl⟩ hsl
  |appO z b q y=>exact absurd ⟨_,_,_,_,rfl⟩ hao
  |_=>exact hc
theorem xy{o:Oper}{sz:Nat}{xs:List Arg}(h:M C N c a w)(hr:br P o=some (.lit sz xs))(hd:∀k,o.dst=some k->k<N)(hc:Re c sz o.dst (rows sz (evL c xs))=some c'){K:Act->World->Prop}{Q:Exit->Act->World->Prop}(hK:∀a w,M C N c' a w->K a w):o.wp P a w K Q:=by
 obtain⟨x,s,hM,hS⟩:=h;rw[hS.evL]at hc;unfold Re at hc;split at hc<;>try (cases hc;done)
 rename_i k l hk hl;cases hc
 obtain⟨t,len,parts,ho⟩:∃t len parts,o.op= .buildSlice t len parts:=by
  cases ho:o.op with
  |buildSlice t len parts=>exact⟨t,len,parts,rfl⟩
  |_=>exfalso;exact absurd hr (by
   intro hr;simp only[br,ho]at hr
   first
    |(cases hr;done)
    |(obtain⟨_,_,h⟩:=ae.1 hr;cases h;done)
    |(repeat' split at hr)<;>first|(cases hr;done)|contradiction|(obtain⟨_,_,h⟩:=ae.1 hr;first|(cases h;done)|(split at h<;>cases h;done)))
 obtain⟨r,e,hrun,hsz,hrows,hcell⟩:=xf hM ho hr hl
 have hM':=hM.newObj (d:=k+100) o.dst (by omega) (.arr sz l) (val:= .psl (k+100) sz 0 l.length (some l.length)) (u:= .slice (some ⟨w.heap.size,0,none⟩) l.length l.length) (t:=e) (by simp only[aF.size];omega) (fun i hi=>hcell i hi) (by have:=Rep.psl (x:=x.newO (k+100) w.heap.size) (k+100) sz 0 l.length (some l.length) 0 l.length (.inr (by omega)) (aH _) (fun _ e=>by cases e;rfl) (fun e=>by cases e);rwa[jd]at this)
 refine de ⟨_,_,_,_,hrun,.inl rfl,hM'⟩ (k:=Sim N _) ?_ hK;have:=hS.app hd (e:= {val:= .psl (k+100) sz 0 l.length (some l.length),new:=some (.arr sz l)}) (f:= {pre:=True,val:= .psl (k+100) sz 0 l.length (some l.length),new:=some (.arr sz l)}) ⟨rfl,rfl,rfl,rfl,rfl⟩ ⟨fun ob he=>by cases he;exact ja.2 hrows,.inl rfl⟩;rw[hk]at this ⊢;exact this
theorem xw{ops:Array Oper}{n:Nat}{o:Oper}{i:SI}(h:M C N c a w)(hi:i.ok N=true)(ho:ops[n]? =some o)(hr:fQ P ops o=some i)(hc:sX c i=some c'){K:Act->World->Prop}{Q:Exit->Act->World->Prop}
 (hK:∀a w,M C N c' a w->K a w):wpOp P ops Q n K a w:=by
 obtain⟨h1,h2,h3⟩:=kG hr
 have hd:∀k,i.dst=some k->k<N:=by intro k hk;unfold SI.ok at hi;rw[hk]at hi;simpa using hi
 unfold wpOp;rw[ho];simp only;unfold sX at hc;split at hc<;>try (cases hc;done)
 rename_i hg;rcases h3 with⟨_,hog⟩|⟨j,b,g,hg',_⟩
 ·rw[jV hog,if_pos rfl]
  rw[h2]at hc hd;left;unfold xlZ at hc;split at hc<;>try (cases hc;done)
  ·rename_i sz xs hq
   exact xy h (h1.old (fun xs e=>by rw[e]at hq;cases hq)|>fun e=>by rw[hq]at e;exact e) hd hc hK
  ·rename_i xs hq
   exact oN h (h1.old (fun xs e=>by rw[e]at hq;cases hq)|>fun e=>by rw[hq]at e;exact e) hd hc hK
  ·rename_i q hq
   exact xz h (h1.old (fun xs e=>by rw[e]at hq;cases hq)|>fun e=>by rw[hq]at e;exact e) hd hc hK
  ·rename_i z by_ q y hq
   exact oK h (h1.old (fun xs e=>by rw[e]at hq;cases hq)|>fun e=>by rw[hq]at e;exact e) hd hc hK
 ·rw[hg]at hg';cases hg'
theorem wJ{ops:Array Oper}{n:Nat}{o:Oper}{i:SI}(h:M C N c a w)(hi:i.ok N=true)(ho:ops[n]? =some o)(hr:fQ P ops o=some i)(hc:An c i=some c'){K:Act->World->Prop}{Q:Exit->Act->World->Prop}
 (hK:∀a w,M C N c' a w->K a w):wpOp P ops Q n K a w:=by
 obtain⟨h1,h2,h3⟩:=kG hr
 have hd:∀k,i.dst=some k->k<N:=by intro k hk;unfold SI.ok at hi;rw[hk]at hi;simpa using hi
 unfold wpOp;rw[ho];simp only;unfold An at hc;split at hc<;>try (cases hc;done)
 rename_i hg;rcases h3 with⟨_,hog⟩|⟨j,b,g,hg',_⟩
 ·rw[jV hog,if_pos rfl]
  rw[h2]at hc hd;left;unfold xke at hc;split at hc<;>try (cases hc;done)
  ·rename_i q hq
   exact wK h (h1.old (fun xs e=>by rw[e]at hq;cases hq)|>fun e=>by rw[hq]at e;exact e) hd hc hK
 ·rw[hg]at hg';cases hg'
theorem gg(hcal:fW P call){ops:Array Oper}{n:Nat}{o:Oper}{i:SI}(h:M C N c a w)(hi:i.ok N=true)(ho:ops[n]? =some o)(hr:fQ P ops o=some i.er)(hc:dE call sg c i=some c'){K:Act->World->Prop}{Q:Exit->Act->World->Prop}
 (hK:∀a w,M C N c' a w->K a w):wpOp P ops Q n K a w:=by
 obtain⟨h1,h2,h3⟩:=kG hr;change rf P o i.op.er at h1;change i.dst=o.dst at h2;change (i.g=none/\o.guard=none\/∃j b g,i.g=some (g,b)/\o.guard=some (j,b)/\(ops[j]?).bind (·.dst)=some g)at h3
 have hd:∀k,i.dst=some k->k<N:=by intro k hk;unfold SI.ok at hi;rw[hk]at hi;simpa using hi
 unfold wpOp;rw[ho];simp only;unfold dE at hc;rcases h3 with⟨hg,hog⟩|⟨j,b,g,hg,hog,hdg⟩
 ·rw[hg]at hc
  rw[jV hog,if_pos rfl];rw[h2]at hc hd;exact .inl (rA hcal h h1 hd hc hK)
 ·rw[hg]at hc
  simp only at hc;split at hc<;>try (cases hc;done)
  rotate_left
  ·rename_i ht
   cases hc;obtain⟨x,s,hM,hS⟩:=h;rw[uD hog hdg (F2 hM hS ht),if_neg (by simp)];rw[h2]at hd;rw[h2]at hK;exact hK _ _ ⟨x,_,hM.put o.dst vn,hS.put hd _⟩
  rename_i t ht;have hv:a.tmps[g]? =some (.bool t):=by obtain⟨x,s,hM,hS⟩:=h;exact F1 hM hS ht
  rw[uC hog hdg hv];split at hc
  ·rename_i htb
   subst htb;rw[if_pos (by simp)];rw[h2]at hc hd;exact .inl (rA hcal h h1 hd hc hK)
  ·rename_i htb
   cases hc;rw[if_neg (by simpa using htb)];obtain⟨x,s,hM,hS⟩:=h;rw[h2]at hd;rw[h2]at hK;exact hK _ _ ⟨x,_,hM.put o.dst vn,hS.put hd _⟩
theorem ji(hcal:fW P call){ops:Array Oper}{n:Nat}{o:Oper}{i:SI}(h:M C N c a w)(hi:i.ok N=true)(ho:ops[n]? =some o)(hr:fQ P ops o=some i)(hc:dE call sg c i=some c'){K:Act->World->Prop}{Q:Exit->Act->World->Prop}
 (hK:∀a w,M C N c' a w->K a w):wpOp P ops Q n K a w:=gg hcal h hi ho (by rw[xiB hr];exact hr) hc hK
theorem gz{d:Option Nat}{g:Nat}{t:Bool}{v:SV}(hd:d≠some g)(h:c.get g= .bool t):(c.put d v).get g= .bool t:=by
 cases d with
 |none=>exact h
 |some k=>rw[gE,if_neg (fun e=>hd (by rw[e]))];exact h
theorem Dd{d:Option Nat}{g:Nat}{u v:SV}(hd:d≠some g)(h:c.get g=u):(c.put d v).get g=u:=by
 cases d with
 |none=>exact h
 |some k=>rw[gE,if_neg (fun e=>hd (by rw[e]))];exact h
theorem jy{g lo hi:Nat}{t:Bool}{l:List (Nat×SV)}(h:ej l g= .bool t):ej (df lo hi l) g= .bool t:=by rw[fU,h];rfl
theorem kr{d:Option Nat}{g:Nat}{t:Bool}{e:nY}(hd:d≠some g)(h:c.get g= .bool t):(c.app d e).get g= .bool t:=by
 have wr:∀(l:List (Nat×aF))(c:CSt),(c.wr l).tm=c.tm:=by
  intro l;induction l with
  |nil=>intro c;rfl
  |cons p r ih=>intro c;simp only[CSt.wr];rw[ih]
 unfold CSt.app;split
 ·exact gz (c:=⟨_,_,_⟩) hd (jy h)
 ·exact gz (c:=⟨_,_,_⟩) hd (jy h)
 ·refine gz hd ?_
  show ej (c.wr e.wr).tm g=_;rw[wr];exact h
theorem oQ{d:Option Nat}{g:Nat}{t:Bool}{m mt:List Nat}{q:dO}(hd:d≠some g)(h:c.get g= .bool t):(jN c d m mt q).get g= .bool t:=gz (c:=⟨_,_,_⟩) hd (jy h)
theorem lB{g o:Nat}{t:Bool}{vs:List SV}(h:c.get g= .bool t):(c.publish o vs).1.get g= .bool t:=by
 have k:∀obj,ej (ly o obj c.tm) g= .bool t:=fun obj=>by rw[ku];have:ej c.tm g= .bool t:=h;rw[this];rfl
 unfold CSt.publish;split
 ·exact k _
 ·exact k _
 ·exact h
theorem m7{g:Nat}{t:Bool}:∀{l:List Nat}{c:CSt}{vs:List SV},c.get g= .bool t->(eC c vs l).1.get g= .bool t
 |[],_,_,h=>h
 |o::r,c,vs,h=>by show(eC (c.publish o vs).1 (c.publish o vs).2 r).1.get g=_;exact m7 (lB h)
theorem Df{sg:Sig}{d:Option Nat}{g n:Nat}{as:List SV}{t:Bool}(hc:io call sg c d n as=some c')(hd:d≠some g)(h:c.get g= .bool t):c'.get g= .bool t:=by
 unfold io at hc;generalize ((SV.idsL as).isEmpty&&sg.own.isEmpty)=b at hc;cases b with
 |true=>
  simp only[jM]at hc;cases hq:call n (SV.bareL as) [] 0 with
  |none=>rw[hq]at hc;cases hc
  |some q=>
   rw[hq]at hc;simp only[l4]at hc;cases hb:q.bare with
   |true=>rw[hb]at hc;cases hc;exact gz hd h
   |false=>
    rw[hb]at hc;simp only[nI]at hc;cases hs:q.small with
    |true=>rw[hs]at hc;cases hc;exact oQ hd h
    |false=>rw[hs]at hc;cases hc
 |false=>
  simp only[jM]at hc;have hk:=m7 (l:=iY sg.raw 0 as) (vs:=as) h;generalize eC c as (iY sg.raw 0 as)=z at hc hk;obtain⟨c1,as1⟩:=z;simp only[jG]at hc;generalize jP c1.tk sg.own 50 0 as1=z at hc;obtain⟨as2,mt1⟩:=z;simp only[nt]at hc;generalize dF c1 60 [] (SV.idsL as2)=m at hc;cases ho:gp c1 m with
  |none=>rw[ho]at hc;cases hc
  |some os0=>
   rw[ho]at hc;simp only[lr]at hc;generalize dQ c1.tk (50+mt1.length) os0=z at hc;obtain⟨os,mt2⟩:=z;simp only[nq]at hc;generalize (oj (SV.idsL as2++ft os) m&&dr m&&dr (cf (mt1++mt2))&&decide (m.length<=40)&&m.all fun o=> !inR (d.getD 0) o)=b at hc;cases b with
   |false=>cases hc
   |true=>
    simp only[np]at hc;cases hq:call n (SV.renL (gA m) id as2) (ed (gA m) id os) (mt1.length+mt2.length)with
    |none=>rw[hq]at hc;cases hc
    |some q=>
     rw[hq]at hc;simp only[ou]at hc;cases hs:q.small with
     |true=>rw[hs]at hc;cases hc;exact oQ hd hk
     |false=>rw[hs]at hc;cases hc
theorem De{d:Option Nat}{g:Nat}{z:List SV}{b:Nat}{y:Arg}{v:SV}{t:Bool}(hc:rz c d z b y v=some c')(hd:d≠some g)(h:c.get g= .bool t):c'.get g= .bool t:=by
 unfold rz at hc;split at hc<;>try (cases hc;done)
 ·split at hc<;>try (cases hc;done)
  unfold Rg at hc;split at hc<;>try (cases hc;done)
  split at hc<;>try (cases hc;done)
  split at hc
  ·cases hc;exact gz hd h
  ·split at hc<;>try (cases hc;done)
   cases hc;exact kr hd h
 ·split at hc<;>try (cases hc;done)
  unfold Rf at hc;split at hc<;>try (cases hc;done)
  split at hc
  ·cases hc;exact gz hd h
  ·split at hc<;>try (cases hc;done)
   cases hc;exact kr hd h
 ·unfold NI at hc
  split at hc<;>try (cases hc;done)
  split at hc<;>try (cases hc;done)
  cases hc;exact kr hd (jy h)
theorem RD{d:Option Nat}{g:Nat}{o:SOp}{t:Bool}(hc:opC call sg c d o=some c')(hd:d≠some g)(h:c.get g= .bool t):c'.get g= .bool t:=by
 have e:nb c d (dM c d o)=some c'->c'.get g= .bool t:=by
  intro hc;cases he:dM c d o with
  |none=>rw[he]at hc;cases hc
  |some e=>rw[he]at hc;cases hc;exact kr hd h
 cases o with
 |call f as=>
  simp only[opC]at hc;split at hc<;>try (cases hc;done)
  exact Df hc hd h
 |appO z b q y=>exact De hc hd h
 |newB xs=>
  simp only[opC]at hc;unfold nG at hc;split at hc<;>try (cases hc;done)
  cases hc;exact kr hd h
 |slid q=>
  simp only[opC]at hc;unfold qQ at hc;split at hc<;>try (cases hc;done)
  unfold ov at hc;split at hc<;>try (cases hc;done)
  split at hc<;>try (cases hc;done)
  cases hc;exact gz hd (lB h)
 |_=>exact e hc
theorem vv{g:Nat}{b:Bool}{i:SI}(h:i.okG N g b=true):(∀k,i.dst=some k->k<N)/\i.g=some (g,b)/\i.dst≠some g:=by
 simp only[SI.okG,aB,decide_eq_true_eq]at h;obtain⟨⟨h1,h2⟩,h3⟩:=h;refine⟨fun k hk=> ?_, ?_,h3⟩
 ·unfold SI.ok at h1;rw[hk]at h1;simpa using h1
 ·split at h2
  ·rename_i g' b' hg
   simp only[aB,decide_eq_true_eq,beq_iff_eq]at h2;rw[hg,h2.1,h2.2]
  ·cases h2
theorem C4(hcal:fW P call){ops:Array Oper}{full rest:List SI}(hl:jw (fQ P ops) ops.toList=some full){Q:Exit->Act->World->Prop}{g:Nat}{b:Bool}{c1:CSt}
 (fin:∀(m n:Nat),n+m=ops.size->rest=full.drop n->∀a w,M C N c1 a w->wpOps P ops Q (qP n m) a w):
 ∀(l:List SI)(m n:Nat)(c:CSt)(a:Act)(w:World),n+m=ops.size->l++rest=full.drop n->(∀i∈l,i.okG N g b=true)->M C N c a w->c.get g= .bool b->plC call sg l c=some c1->wpOps P ops Q (qP n m) a w:=by
 obtain⟨hlen,hget⟩:=eE hl;intro l;induction l with
 |nil=>intro m n c a w hn he _ hM _ hs;rw[NG]at hs;cases hs;exact fin m n hn he a w hM
 |cons i l ihl=>
  intro m n c a w hn he hok hM ht hs;obtain⟨g1,g2,g3⟩:=vv (hok i (aD ..));simp only[aU]at he
  have hn1:n<full.length:=by
   rcases bY n full.length with h|h
   ·exact h
   ·rw[bN h]at he;cases he
  rw[bF hn1]at he;obtain⟨he1,he2⟩:=nZ.inj he;have hn2:n<ops.toList.length:=by omega
  obtain⟨m',rfl⟩:∃m',m=m'+1:=⟨m-1,by rw[hlen,aS]at hn1;omega⟩;simp only[List.range'_succ];rw[wpOps_cons];rw[plC]at hs;cases h1:opC call sg c i.dst i.op with
  |none=>rw[h1,BI]at hs;cases hs
  |some c2=>
   rw[h1,BH]at hs;have hst:dE call sg c i=some c2:=by unfold dE;rw[g2];simp only[ht,if_true];exact h1
   have hik:i.ok N=true:=by
    unfold SI.ok;cases hdd:i.dst with
    |none=>rfl
    |some k=>simpa using g1 k hdd
   refine ji hcal hM hik (o:=ops.toList[n]) (by rw[<-cI,ab hn2]) (by rw[he1];exact hget n hn2 hn1) hst ?_;intro a' w' hM';exact ihl m' (n+1) c2 a' w' (by omega) he2 (fun j hj=>hok j (ao _ hj)) hM' (RD h1 g3 ht) hs
theorem ri(hcal:fW P call){ops:Array Oper}{full rest:List SI}(hl:jw (fQ P ops) ops.toList=some full){Q:Exit->Act->World->Prop}{g:Nat}{b:Bool}{v:SV}(hvv:v= .tup []\/∃t,v= .bool t/\t≠b){c1:CSt}
 (fin:∀(m n:Nat),n+m=ops.size->rest=full.drop n->∀a w,M C N c1 a w->wpOps P ops Q (qP n m) a w):
 ∀(l:List SI)(m n:Nat)(c:CSt)(a:Act)(w:World),n+m=ops.size->l++rest=full.drop n->(∀i∈l,i.okG N g b=true)->M C N c a w->c.get g=v->unL c l=c1->wpOps P ops Q (qP n m) a w:=by
 obtain⟨hlen,hget⟩:=eE hl;intro l;induction l with
 |nil=>intro m n c a w hn he _ hM _ hs;cases hs;exact fin m n hn he a w hM
 |cons i l ihl=>
  intro m n c a w hn he hok hM ht hs;obtain⟨g1,g2,g3⟩:=vv (hok i (aD ..));simp only[aU]at he
  have hn1:n<full.length:=by
   rcases bY n full.length with h|h
   ·exact h
   ·rw[bN h]at he;cases he
  rw[bF hn1]at he;obtain⟨he1,he2⟩:=nZ.inj he;have hn2:n<ops.toList.length:=by omega
  obtain⟨m',rfl⟩:∃m',m=m'+1:=⟨m-1,by rw[hlen,aS]at hn1;omega⟩;simp only[List.range'_succ];rw[wpOps_cons]
  have hst:dE call (fun _=> {}) c i=some (c.put i.dst (.tup [])):=by
   unfold dE;rw[g2];simp only[ht];rcases hvv with rfl|⟨t,rfl,htb⟩
   ·rfl
   ·simp only[htb,if_false]
  have hik:i.ok N=true:=by
   unfold SI.ok;cases hdd:i.dst with
   |none=>rfl
   |some k=>simpa using g1 k hdd
  refine ji hcal hM hik (o:=ops.toList[n]) (by rw[<-cI,ab hn2]) (by rw[he1];exact hget n hn2 hn1) hst ?_;intro a' w' hM';exact ihl m' (n+1) _ a' w' (by omega) he2 (fun j hj=>hok j (ao _ hj)) hM' (Dd g3 ht) hs
theorem xA(hcal:fW P call){ops:Array Oper}{full:List SI}(hl:jw (fQ P ops) ops.toList=some full){Q:Exit->Act->World->Prop}:
 ∀(l:List RI)(m n:Nat),n+m=ops.size->erL l=full.drop n->l.all (RI.ok N)=true->∀{c:CSt}{a:Act}{w:World},M C N c a w->fz call sg l c=some c'->(∀a w,M C N c' a w->Q .normal a w)->wpOps P ops Q (qP n m) a w:=by
 obtain⟨hlen,hget⟩:=eE hl;intro l;induction l with
 |nil=>
  intro m n hn he _ c a w hM hc hQ;have h1:full.length<=n:=List.drop_eq_nil_iff.1 he.symm;rw[hlen,aS]at h1;have:m=0:=by omega
  subst this;simp only[List.range'_zero,wpOps];rw[BD]at hc;cases hc;exact hQ _ _ hM
 |cons q r ih=>
  intro m n hn he hok c a w hM hc hQ;rw[List.all_cons,aB]at hok;obtain⟨hok1,hok2⟩:=hok;cases q with
  |dir q=>
   rw[BF]at hc;cases hd:qD c q with
   |none=>rw[hd,lc]at hc;cases hc
   |some c1=>rw[hd,kZ,pF]at hc;exact ih m n hn he hok2 (o4 hM hd) hc hQ
  |own i dead=>
   rw[BC]at hc;simp only[erL]at he
   have hn1:n<full.length:=by
    rcases bY n full.length with h|h
    ·exact h
    ·rw[bN h]at he;cases he
   rw[bF hn1]at he;obtain⟨he1,he2⟩:=nZ.inj he;have hn2:n<ops.toList.length:=by omega
   obtain⟨m',rfl⟩:∃m',m=m'+1:=⟨m-1,by rw[hlen,aS]at hn1;omega⟩;simp only[List.range'_succ];rw[wpOps_cons];cases hs:sX c i with
   |none=>rw[hs,lc]at hc;cases hc
   |some c1=>rw[hs,kZ]at hc;refine xw hM hok1 (o:=ops.toList[n]) (by rw[<-cI,ab hn2]) (by rw[he1];exact hget n hn2 hn1) hs ?_;intro a' w' hM';exact ih m' (n+1) (by omega) he2 hok2 (hM'.kill dead) hc hQ
  |tks i dead=>
   rw[BB]at hc;simp only[erL]at he
   have hn1:n<full.length:=by
    rcases bY n full.length with h|h
    ·exact h
    ·rw[bN h]at he;cases he
   rw[bF hn1]at he;obtain⟨he1,he2⟩:=nZ.inj he;have hn2:n<ops.toList.length:=by omega
   obtain⟨m',rfl⟩:∃m',m=m'+1:=⟨m-1,by rw[hlen,aS]at hn1;omega⟩;simp only[List.range'_succ];rw[wpOps_cons];cases hs:An c i with
   |none=>rw[hs,lc]at hc;cases hc
   |some c1=>rw[hs,kZ]at hc;refine wJ hM hok1 (o:=ops.toList[n]) (by rw[<-cI,ab hn2]) (by rw[he1];exact hget n hn2 hn1) hs ?_;intro a' w' hM';exact ih m' (n+1) (by omega) he2 hok2 (hM'.kill dead) hc hQ
  |op i dead=>
   rw[NJ]at hc;simp only[erL]at he
   have hn1:n<full.length:=by
    rcases bY n full.length with h|h
    ·exact h
    ·rw[bN h]at he;cases he
   rw[bF hn1]at he;obtain⟨he1,he2⟩:=nZ.inj he;have hn2:n<ops.toList.length:=by omega
   obtain⟨m',rfl⟩:∃m',m=m'+1:=⟨m-1,by rw[hlen,aS]at hn1;omega⟩;simp only[List.range'_succ];rw[wpOps_cons];cases hs:dE call sg c i with
   |none=>rw[hs,lc]at hc;cases hc
   |some c1=>rw[hs,kZ]at hc;refine ji hcal hM hok1 (o:=ops.toList[n]) (by rw[<-cI,ab hn2]) (by rw[he1];exact hget n hn2 hn1) hs ?_;intro a' w' hM';exact ih m' (n+1) (by omega) he2 hok2 (hM'.kill dead) hc hQ
  |grp g b l dead=>
   rw[BE]at hc;cases hs:oU call sg b l c (c.get g)with
   |none=>rw[hs,lc]at hc;cases hc
   |some c1=>
    rw[hs,kZ]at hc;unfold oU at hs;have hsk:=hs;split at hs<;>try (cases hs;done)
    rotate_left
    ·rename_i ht
     have hok1':∀i∈l,i.okG N g b=true:=by simpa[RI.ok]using hok1
     have fin:∀(m n:Nat),n+m=ops.size->erL r=full.drop n->∀a w,M C N c1 a w->wpOps P ops Q (qP n m) a w:=fun m n hn he a w hM'=>ih m n hn he hok2 (hM'.kill dead) hc hQ
     simp only[erL]at he;cases hs;exact ri hcal hl (.inl rfl) fin l m n c a w hn he hok1' hM ht rfl
    rename_i t ht;have hok1':∀i∈l,i.okG N g b=true:=by simpa[RI.ok]using hok1
    have fin:∀(m n:Nat),n+m=ops.size->erL r=full.drop n->∀a w,M C N c1 a w->wpOps P ops Q (qP n m) a w:=fun m n hn he a w hM'=>ih m n hn he hok2 (hM'.kill dead) hc hQ
    simp only[erL]at he;split at hs
    ·rename_i htb
     exact C4 hcal hl fin l m n c a w hn he hok1' hM (by rw[ht,htb]) hs
    ·rename_i htb
     cases hs;exact ri hcal hl (.inr ⟨t,rfl,htb⟩) fin l m n c a w hn he hok1' hM ht rfl
end Go.Sy
namespace Go.Sy
variable [aZ]
variable {P : Program} {C : Ctx} {x : Sit} {a : Act} {w : World} {N : Nat} {c c' : CSt} {s : St} {call : cU} {sg : Nat -> Sig}
abbrev TM:=List (Nat×SV)
structure Uni(d:Option Nat)(F:TM->TM):Prop where
 get:∀tm tm' n,ej tm n=ej tm' n->ej (F tm) n=ej (F tm') n
 dom:∀tm p,p∈F tm->(∃q∈tm,q.1=p.1)\/d=some p.1
theorem Uni.id{d:Option Nat}:Uni d (fun t=>t):=⟨fun _ _ _ h=>h,fun _ p hp=> .inl ⟨p,hp,rfl⟩⟩
theorem Uni.comp{d:Option Nat}{F G:TM->TM}(hF:Uni d F)(hG:Uni d G):Uni d (fun t=>G (F t)):=
 ⟨fun _ _ _ h=>hG.get _ _ _ (hF.get _ _ _ h),fun tm p hp=>by
  rcases hG.dom _ _ hp with⟨q,hq,e⟩|h
  ·rcases hF.dom _ _ hq with⟨q',hq',e'⟩|h
   ·exact .inl ⟨q',hq',e'.trans e⟩
   ·exact .inr (by rw[h,e])
  ·exact .inr h⟩
theorem Uni.purge{d:Option Nat}(lo hi:Nat):Uni d (df lo hi):=
 ⟨fun tm tm' n h=>by rw[fU,fU,h],fun tm p hp=>by obtain⟨q,hq,e⟩:=ju hp;exact .inl ⟨q,hq,e.symm⟩⟩
theorem Uni.pub{d:Option Nat}(o:Nat)(obj:aF):Uni d (ly o obj):=
 ⟨fun tm tm' n h=>by rw[ku,ku,h],fun tm p hp=>by obtain⟨q,hq,e⟩:=py hp;exact .inl ⟨q,hq,e.symm⟩⟩
theorem Uni.put(k:Nat)(v:SV):Uni (some k) (fun t=>jp t k v):=
 ⟨fun tm tm' n h=>by
  simp only[l3];rw[h],fun tm p hp=>by
  rcases lX hp with e|e
  ·exact .inr (by rw[e])
  ·exact .inl ⟨p,e,rfl⟩⟩
theorem Uni.weak{d:Option Nat}{F:TM->TM}(h:Uni none F):Uni d F:=⟨h.get,fun tm p hp=>by
 rcases h.dom tm p hp with h|h
 ·exact .inl h
 ·cases h⟩
theorem Uni.cput(d:Option Nat)(v:SV):∃F,Uni d F/\∀tm ob tk,CSt.put ⟨tm,ob,tk⟩ d v=⟨F tm,ob,tk⟩:=by
 cases d with
 |none=>exact⟨fun t=>t,Uni.id,fun _ _ _=>rfl⟩
 |some k=>exact⟨fun t=>jp t k v,Uni.put k v,fun _ _ _=>rfl⟩
section
variable {tm tm' : TM} {ob : List (Nat × aF)} {tk : List Nat}
theorem lS:∀(n:Nat)(acc l:List Nat),dF ⟨tm',ob,tk⟩ n acc l=dF ⟨tm,ob,tk⟩ n acc l
 |0,_,_=>rfl
 |_+1,_,[]=>rfl
 |n+1,acc,o::t=>by
  simp only[dF];show(if _ then _ else match iJ ob o with|some ob1=>_|none=>_)=(if _ then _ else match iJ ob o with|some ob1=>_|none=>_);split
  ·exact lS n _ _
  ·split
   ·exact lS n _ _
   ·exact lS n _ _
theorem vG:∀l:List Nat,gp ⟨tm',ob,tk⟩ l=gp ⟨tm,ob,tk⟩ l
 |[]=>rfl
 |o::r=>by simp only[gp];rw[vG r];rfl
theorem mW(o:Nat)(vs:List SV):∃F ob' tk' vs',Uni none F/\∀tm,CSt.publish ⟨tm,ob,tk⟩ o vs=(⟨F tm,ob',tk'⟩,vs'):=by
 unfold CSt.publish CSt.look;simp only;split
 ·exact⟨_,_,_,_,Uni.pub _ _,fun _=>rfl⟩
 ·exact⟨_,_,_,_,Uni.pub _ _,fun _=>rfl⟩
 ·exact⟨_,_,_,_,Uni.id,fun _=>rfl⟩
theorem oH:∀(l:List Nat)(ob:List (Nat×aF))(tk:List Nat)(vs:List SV),∃F ob' tk' vs',Uni none F/\∀tm,eC ⟨tm,ob,tk⟩ vs l=(⟨F tm,ob',tk'⟩,vs')
 |[],ob,tk,vs=>⟨_,_,_,_,Uni.id,fun _=>rfl⟩
 |o::r,ob,tk,vs=>by obtain⟨F,ob1,tk1,vs1,h1,h2⟩:=mW (ob:=ob) (tk:=tk) o vs;obtain⟨G,ob2,tk2,vs2,h3,h4⟩:=oH r ob1 tk1 vs1;refine⟨fun t=>G (F t),ob2,tk2,vs2,h1.comp h3,fun tm=> ?_⟩;simp only[eC];rw[h2];exact h4 _
theorem pk(d:Option Nat)(m mt:List Nat)(q:dO):∃F ob' tk',Uni d F/\∀tm,jN ⟨tm,ob,tk⟩ d m mt q=⟨F tm,ob',tk'⟩:=by unfold jN;dsimp only;obtain⟨F,h1,h2⟩:=Uni.cput d (q.r.ren (iO (d.getD 0) m) (kj (d.getD 0)));exact⟨_,_,_,(Uni.purge ((d.getD 0+1)*1000) ((d.getD 0+2)*1000)).comp h1,fun tm=>h2 _ _ _⟩
theorem EU{sg:Sig}{d:Option Nat}{g:Nat}{as:List SV}:∃F,Uni d F/\∃q:Option (List (Nat×aF)×List Nat),∀tm,jG call sg d g (⟨tm,ob,tk⟩,as)=q.map fun q=>⟨F tm,q.1,q.2⟩:=by
 simp only[jG];generalize jP tk sg.own 50 0 as=z;obtain⟨as2,mt1⟩:=z;simp only[nt];have e1:∀tm,dF ⟨tm,ob,tk⟩ 60 [] (SV.idsL as2)=dF ⟨[],ob,tk⟩ 60 [] (SV.idsL as2):=fun tm=>lS _ _ _
 have e2:∀tm l,gp ⟨tm,ob,tk⟩ l=gp ⟨[],ob,tk⟩ l:=fun tm l=>vG l
 simp only[e1,e2];generalize dF ⟨[],ob,tk⟩ 60 [] (SV.idsL as2)=m;cases ho:gp ⟨[],ob,tk⟩ m with
 |none=>exact⟨_,Uni.id,none,fun _=>rfl⟩
 |some os0=>
  simp only[lr];generalize dQ tk (50+mt1.length) os0=z2;obtain⟨os,mt2⟩:=z2;simp only[nq];generalize (oj (SV.idsL as2++ft os) m&&dr m&&dr (cf (mt1++mt2))&&decide (m.length<=40)&&m.all fun o=> !inR (d.getD 0) o)=b;cases b with
  |false=>exact⟨_,Uni.id,none,fun _=>rfl⟩
  |true=>
   simp only[np];cases hq:call g (SV.renL (gA m) _root_.id as2) (ed (gA m) _root_.id os) (mt1.length+mt2.length)with
   |none=>exact⟨_,Uni.id,none,fun _=>rfl⟩
   |some q=>
    simp only[ou];generalize q.small=b;cases b with
    |false=>exact⟨_,Uni.id,none,fun _=>rfl⟩
    |true=>obtain⟨F,ob',tk',h1,h2⟩:=pk (ob:=ob) (tk:=tk) d m (cf (mt1++mt2)) q;exact⟨F,h1,some (ob',tk'),fun tm=>by simp only[wW,bo,h2]⟩
theorem rU{sg:Sig}{d:Option Nat}{g:Nat}{as:List SV}:∃F,Uni d F/\∃q:Option (List (Nat×aF)×List Nat),∀tm,io call sg ⟨tm,ob,tk⟩ d g as=q.map fun q=>⟨F tm,q.1,q.2⟩:=by
 unfold io;generalize ((SV.idsL as).isEmpty&&sg.own.isEmpty)=b;cases b with
 |true=>
  simp only[jM];cases hq:call g (SV.bareL as) [] 0 with
  |none=>exact⟨_,Uni.id,none,fun _=>rfl⟩
  |some q=>
   simp only[l4];generalize q.bare=b;cases b with
   |true=>simp only[nI];obtain⟨F,h1,h2⟩:=Uni.cput d q.r;exact⟨F,h1,some (ob,tk),fun tm=>by rw[h2];rfl⟩
   |false=>
    simp only[nI];generalize q.small=b;cases b with
    |false=>exact⟨_,Uni.id,none,fun _=>rfl⟩
    |true=>obtain⟨F,ob',tk',h1,h2⟩:=pk (ob:=ob) (tk:=tk) d [] [] q;exact⟨F,h1,some (ob',tk'),fun tm=>by simp only[xR,h2];rfl⟩
 |false=>simp only[jM];obtain⟨F,ob1,tk1,vs1,h1,h2⟩:=oH (iY sg.raw 0 as) ob tk as;obtain⟨G,h3,q,h4⟩:=EU (call:=call) (ob:=ob1) (tk:=tk1) (sg:=sg) (d:=d) (g:=g) (as:=vs1);exact⟨fun t=>G (F t),h1.weak.comp h3,q,fun tm=>by rw[h2];exact h4 _⟩
theorem GA:∀(l:List (Nat×aF))(tm:TM)(ob:List (Nat×aF))(tk:List Nat),CSt.wr ⟨tm,ob,tk⟩ l=⟨tm,(CSt.wr ⟨[],ob,tk⟩ l).ob,tk⟩
 |[],_,_,_=>rfl
 |p::r,tm,ob,tk=>by simp only[CSt.wr];exact GA r tm _ tk
theorem pj(d:Option Nat)(e:nY):∃F ob' tk',Uni d F/\∀tm,CSt.app ⟨tm,ob,tk⟩ d e=⟨F tm,ob',tk'⟩:=by
 unfold CSt.app;dsimp only;obtain⟨F,h1,h2⟩:=Uni.cput d e.val;split
 ·exact⟨_,_,_,(Uni.purge (d.getD 0+100) (d.getD 0+101)).comp h1,fun tm=>h2 _ _ _⟩
 ·exact⟨_,_,_,(Uni.purge (d.getD 0+100) (d.getD 0+101)).comp h1,fun tm=>h2 _ _ _⟩
 ·exact⟨F,(CSt.wr ⟨[],ob,tk⟩ e.wr).ob,tk,h1,fun tm=>by rw[GA];exact h2 _ _ _⟩
theorem xiA{x:Arg}(h:∀n,x= .t n->ej tm' n=ej tm n):CSt.ev ⟨tm',ob,tk⟩ x=CSt.ev ⟨tm,ob,tk⟩ x:=by
 cases x with
 |t n=>exact h n rfl
 |c v=>rfl
 |f g=>rfl
theorem lM:∀{l:List Arg},(∀x∈l,CSt.ev ⟨tm',ob,tk⟩ x=CSt.ev ⟨tm,ob,tk⟩ x)->evL ⟨tm',ob,tk⟩ l=evL ⟨tm,ob,tk⟩ l
 |[],_=>rfl
 |x::r,h=>by simp only[evL];rw[h x (aD ..),lM fun y hy=>h y (ao _ hy)]
theorem NF:∀{l:List (Nat×Nat×Arg)},(∀x∈l.map (fun p=>p.2.2),CSt.ev ⟨tm',ob,tk⟩ x=CSt.ev ⟨tm,ob,tk⟩ x)->psC ⟨tm',ob,tk⟩ l=psC ⟨tm,ob,tk⟩ l
 |[],_=>rfl
 |(o,n,x)::r,h=>by simp only[psC];rw[h x (by simp),NF fun y hy=>h y (by simp only[aC,av];exact .inr hy)]
theorem mg{x:Option Arg}{d:Int}(h:∀y∈x.toList,CSt.ev ⟨tm',ob,tk⟩ y=CSt.ev ⟨tm,ob,tk⟩ y):km ⟨tm',ob,tk⟩ x d=km ⟨tm,ob,tk⟩ x d:=by
 cases x with
 |none=>rfl
 |some y=>simp only[km];rw[h y (by simp)]
theorem Aw{sz:Nat}{v:SV}{lo hi mx:Option Arg}(h1:∀y∈lo.toList,CSt.ev ⟨tm',ob,tk⟩ y=CSt.ev ⟨tm,ob,tk⟩ y)(h2:∀y∈hi.toList,CSt.ev ⟨tm',ob,tk⟩ y=CSt.ev ⟨tm,ob,tk⟩ y)(h3:∀y∈mx.toList,CSt.ev ⟨tm',ob,tk⟩ y=CSt.ev ⟨tm,ob,tk⟩ y):
 nR ⟨tm',ob,tk⟩ sz v lo hi mx=nR ⟨tm,ob,tk⟩ sz v lo hi mx:=by
 unfold nR;simp only[mg h1,mg h2,mg h3]
theorem Aj{o:SOp}(h:∀y∈o.args,CSt.ev ⟨tm',ob,tk⟩ y=CSt.ev ⟨tm,ob,tk⟩ y):cD ⟨tm',ob,tk⟩ o=cD ⟨tm,ob,tk⟩ o:=by
 cases o with
 |build z ps=>simp only[SOp.args]at h;simp only[cD];rw[NF h]
 |lit sz xs=>simp only[SOp.args]at h;simp only[cD];rw[lM h]
 |litB xs=>simp only[SOp.args]at h;simp only[cD];rw[lM h]
 |mkfn f a b=>simp only[SOp.args,al]at h;simp only[cD];rw[lM fun y hy=>h y (.inl hy),lM fun y hy=>h y (.inr hy)]
 |slcS x lo hi=>simp only[SOp.args,av,al]at h;simp only[cD];rw[h x (.inl rfl)];simp only[mg fun y hy=>h y (.inr (.inl hy)),mg fun y hy=>h y (.inr (.inr hy))]
 |slcL sz x lo hi mx=>simp only[SOp.args,av,al]at h;simp only[cD];rw[h x (.inl rfl),Aw (fun y hy=>h y (.inr (.inl (.inl hy)))) (fun y hy=>h y (.inr (.inl (.inr hy)))) (fun y hy=>h y (.inr (.inr hy)))]
 |slcA len sz x lo hi mx=>simp only[SOp.args,av,al]at h;simp only[cD];rw[h x (.inl rfl)];simp only[Aw (fun y hy=>h y (.inr (.inl (.inl hy)))) (fun y hy=>h y (.inr (.inl (.inr hy)))) (fun y hy=>h y (.inr (.inr hy)))]
 |_=>
  simp only[SOp.args,av,cL,or_false,forall_eq_or_imp,forall_eq,bf]at h
  first
   |rfl
   |(simp only[cD];rw[h];rfl)
   |(simp only[cD];rw[h.1,h.2];rfl)
   |(simp only[cD,h];done)
   |(simp only[cD,h.1,h.2];done)
theorem CB{n:Nat}{v:List SV}{u:SV}:kU ⟨tm',ob,tk⟩ n v u=kU ⟨tm,ob,tk⟩ n v u:=by
 cases u<;>rfl
theorem Sf{d:Option Nat}{o:SOp}(h:∀y∈o.args,CSt.ev ⟨tm',ob,tk⟩ y=CSt.ev ⟨tm,ob,tk⟩ y):dM ⟨tm',ob,tk⟩ d o=dM ⟨tm,ob,tk⟩ d o:=by
 have hv:=Aj h;cases o with
 |new ob=>rfl
 |call f as=>rfl
 |box x=>simp only[SOp.args,av,cL,or_false,forall_eq]at h;simp only[dM];rw[h]
 |mk z b n m=>simp only[SOp.args,av,cL,or_false,forall_eq_or_imp,forall_eq]at h;simp only[dM];rw[h.1,h.2]
 |mkB n m=>simp only[SOp.args,av,cL,or_false,forall_eq_or_imp,forall_eq]at h;simp only[dM];rw[h.1,h.2]
 |store n a x=>simp only[SOp.args,av,cL,or_false,forall_eq_or_imp,forall_eq]at h;simp only[dM];rw[h.1,h.2,CB]
 |app z b x y=>
  simp only[SOp.args,av,cL,or_false,forall_eq_or_imp,forall_eq]at h;have e1:∀v,ep ⟨tm',ob,tk⟩ v=ep ⟨tm,ob,tk⟩ v:=fun v=>by cases v<;>rfl
  have e2:∀n v,fB ⟨tm',ob,tk⟩ n v=fB ⟨tm,ob,tk⟩ n v:=fun n v=>by cases v<;>rfl
  have e3:∀t:Tok,t.readyC ⟨tm',ob,tk⟩=t.readyC ⟨tm,ob,tk⟩:=fun t=>by cases t<;>rfl
  simp only[dM];rw[h.1,h.2];simp only[e1,e2,e3]
 |clr z x=>simp only[SOp.args,av,cL,or_false,forall_eq]at h;simp only[dM];rw[h];rfl
 |cpy sz x y=>
  simp only[SOp.args,av,cL,or_false,forall_eq_or_imp,forall_eq]at h;have e1:∀v,ep ⟨tm',ob,tk⟩ v=ep ⟨tm,ob,tk⟩ v:=fun v=>by cases v<;>rfl
  have e2:∀n v,fB ⟨tm',ob,tk⟩ n v=fB ⟨tm,ob,tk⟩ n v:=fun n v=>by cases v<;>rfl
  simp only[dM];rw[h.1,h.2];simp only[e1,e2];rfl
 |pick k a b=>simp only[SOp.args,av,cL,or_false,forall_eq_or_imp,forall_eq]at h;simp only[dM];rw[h.1,h.2.1,h.2.2]
 |isnil ne x=>simp only[SOp.args,av,cL,or_false,forall_eq]at h;simp only[dM];rw[h]
 |_=>simp only[dM];rw[hv]
theorem FH{d:Option Nat}{z:List SV}{b:Nat}{y:Arg}{v:SV}(h:CSt.ev ⟨tm',ob,tk⟩ y=CSt.ev ⟨tm,ob,tk⟩ y)(hc:rz ⟨tm,ob,tk⟩ d z b y v=some c'):∃F,Uni d F/\c'.tm=F tm/\rz ⟨tm',ob,tk⟩ d z b y v=some ⟨F tm',c'.ob,c'.tk⟩:=by
 have e1:∀v,ep ⟨tm',ob,tk⟩ v=ep ⟨tm,ob,tk⟩ v:=fun v=>by cases v<;>rfl
 have e2:∀n v,fB ⟨tm',ob,tk⟩ n v=fB ⟨tm,ob,tk⟩ n v:=fun n v=>by cases v<;>rfl
 have put:∀(k:Nat)(u:SV),some (CSt.put ⟨tm,ob,tk⟩ (some k) u)=some c'->∃F,Uni (some k) F/\c'.tm=F tm/\some (CSt.put ⟨tm',ob,tk⟩ (some k) u)=some ⟨F tm',c'.ob,c'.tk⟩:=by intro k u hu;obtain⟨F,h1,h2⟩:=Uni.cput (some k) u;rw[h2]at hu;cases hu;exact⟨F,h1,rfl,by rw[h2]⟩
 have app:∀(k:Nat)(e:nY),some (CSt.app ⟨tm,ob,tk⟩ (some k) e)=some c'->∃F,Uni (some k) F/\c'.tm=F tm/\some (CSt.app ⟨tm',ob,tk⟩ (some k) e)=some ⟨F tm',c'.ob,c'.tk⟩:=by intro k e hu;obtain⟨F,ob',tk',h1,h2⟩:=pj (ob:=ob) (tk:=tk) (some k) e;rw[h2]at hu;cases hu;exact⟨F,h1,rfl,by rw[h2]⟩
 have app6:∀(o' k:Nat)(e:nY),some (CSt.app (CSt.purge ⟨tm,ob,tk⟩ o' (o'+1)) (some k) e)=some c'->∃F,Uni (some k) F/\c'.tm=F tm/\some (CSt.app (CSt.purge ⟨tm',ob,tk⟩ o' (o'+1)) (some k) e)=some ⟨F tm',c'.ob,c'.tk⟩:=by intro o' k e hu;obtain⟨F,ob',tk',h1,h2⟩:=pj (ob:=bx o' (o'+1) ob) (tk:=cg o' (o'+1) tk) (some k) e;simp only[CSt.purge]at hu ⊢;rw[h2]at hu;cases hu;exact⟨fun t=>F (df o' (o'+1) t),(Uni.purge o' (o'+1)).comp h1,rfl,by rw[h2]⟩
 unfold rz at hc ⊢;split at hc<;>try (cases hc;done)
 ·split at hc<;>try (cases hc;done)
  rename_i ht;simp only[if_pos ht,h,e1];unfold Rg at hc ⊢;split at hc<;>try (cases hc;done)
  split at hc<;>try (cases hc;done)
  rename_i hz;simp only[if_neg hz];split at hc
  ·rename_i hl;simp only[if_pos hl];exact put _ _ hc
  ·rename_i hl
   simp only[if_neg hl];split at hc<;>try (cases hc;done)
   rename_i hb;simp only[if_pos hb];exact app _ _ hc
 ·split at hc<;>try (cases hc;done)
  rename_i ht;simp only[if_pos ht,h,e2];unfold Rf at hc ⊢;split at hc<;>try (cases hc;done)
  split at hc
  ·rename_i hl;simp only[if_pos hl];exact put _ _ hc
  ·rename_i hl
   simp only[if_neg hl];split at hc<;>try (cases hc;done)
   rename_i hb;simp only[if_pos hb];exact app _ _ hc
 ·simp only[h,e2]
  unfold NI at hc ⊢;split at hc<;>try (cases hc;done)
  split at hc<;>try (cases hc;done)
  rename_i o1 sz1 n1 _ _ _ k1 R1 l1 _ hb;rw[if_pos hb];exact app6 _ _ _ hc
theorem BG{d:Option Nat}{o:SOp}(h:∀y∈o.args,CSt.ev ⟨tm',ob,tk⟩ y=CSt.ev ⟨tm,ob,tk⟩ y)(hc:opC call sg ⟨tm,ob,tk⟩ d o=some c'):∃F,Uni d F/\c'.tm=F tm/\opC call sg ⟨tm',ob,tk⟩ d o=some ⟨F tm',c'.ob,c'.tk⟩:=by
 by_cases hcl:∃f as,o= .call f as
 ·obtain⟨f,as,rfl⟩:=hcl
  simp only[opC]at hc ⊢;simp only[SOp.args,av]at h;rw[h f (.inl rfl),lM fun y hy=>h y (.inr hy)];split at hc<;>try (cases hc;done)
  obtain⟨F,h1,q,h2⟩:=rU (call:=call) (ob:=ob) (tk:=tk) (sg:=sg ‹_›) (d:=d) (g:= ‹_›) (as:= ‹List SV› ++evL ⟨tm,ob,tk⟩ as++ ‹List SV›);rename_i g u v hfn;obtain⟨F,h1,q,h2⟩:=rU (call:=call) (ob:=ob) (tk:=tk) (sg:=sg g) (d:=d) (g:=g) (as:=u++evL ⟨tm,ob,tk⟩ as++v);rw[h2]at hc;cases q with
  |none=>cases hc
  |some q=>simp only[bo,an.injEq]at hc;subst hc;exact⟨F,h1,rfl,by rw[h2];rfl⟩
 by_cases hnb:∃xs,o= .newB xs
 ·obtain⟨xs,rfl⟩:=hnb
  simp only[opC]at hc ⊢;simp only[SOp.args]at h;rw[lM h];unfold nG at hc ⊢;split at hc<;>try (cases hc;done)
  rename_i k l hk;cases hc;obtain⟨F,ob',tk',h1,h2⟩:=pj (ob:=ob) (tk:=tk) (some k) {val:= .psl (k+100) 1 0 l.length (some l.length),new:=some (.bar l)};exact⟨F,h1,by rw[h2],by simp only[h2]⟩
 by_cases hsl:∃q,o= .slid q
 ·obtain⟨q,rfl⟩:=hsl
  simp only[opC]at hc ⊢;rw[h q (by simp[SOp.args])];generalize CSt.ev ⟨tm,ob,tk⟩ q=v at hc;unfold qQ at hc;split at hc<;>try (cases hc;done)
  rename_i o' off n cap;show ∃F,_/\_/\ov _ d o' off n cap (CSt.look ⟨tm',ob,tk⟩ o')=_;have hlk:CSt.look ⟨tm',ob,tk⟩ o'=CSt.look ⟨tm,ob,tk⟩ o':=rfl;rw[hlk];generalize CSt.look ⟨tm,ob,tk⟩ o'=u at hc;unfold ov at hc;split at hc<;>try (cases hc;done)
  split at hc<;>try (cases hc;done)
  rename_i l hcond;cases hc;obtain⟨F,ob',tk',vs',h1,h2⟩:=mW (ob:=ob) (tk:=tk) o' [];obtain⟨G,g1,g2⟩:=Uni.cput d (.byt ((l.drop off).take n) .clip);refine⟨fun t=>G (F t),h1.weak.comp g1, ?_, ?_⟩
  ·rw[h2 tm];rw[g2]
  ·simp only[ov,if_pos hcond,h2,g2]
 by_cases hao:∃z b q y,o= .appO z b q y
 ·obtain⟨z,b,q,y,rfl⟩:=hao
  simp only[opC]at hc ⊢;simp only[SOp.args,av,cL,or_false,forall_eq_or_imp,forall_eq]at h;rw[h.1];exact FH h.2 hc
 ·have e:∀c,opC call sg c d o=nb c d (dM c d o):=by
   intro c;cases o<;>first|rfl|exact absurd ⟨_,_,rfl⟩ hcl|exact absurd ⟨_,rfl⟩ hnb|exact absurd ⟨_,rfl⟩ hsl|exact absurd ⟨_,_,_,_,rfl⟩ hao
  rw[e]at hc;rw[e,Sf h];cases he:dM ⟨tm,ob,tk⟩ d o with
  |none=>rw[he]at hc;cases hc
  |some q=>rw[he]at hc;simp only[nb,an.injEq]at hc ⊢;obtain⟨F,ob',tk',h1,h2⟩:=pj (ob:=ob) (tk:=tk) d q;rw[h2]at hc;subst hc;exact⟨F,h1,rfl,h2 _⟩
theorem tO{i:SI}(h:∀n∈i.rds,ej tm' n=ej tm n):∀y∈i.op.args,CSt.ev ⟨tm',ob,tk⟩ y=CSt.ev ⟨tm,ob,tk⟩ y:=by
 intro y hy;refine xiA fun n hn=>h n ?_
 subst hn;unfold SI.rds;rw[al];exact .inl (List.mem_filterMap.2 ⟨_,hy,rfl⟩)
theorem Zz{i:SI}{g:Nat}{b:Bool}(hg:i.g=some (g,b)):g∈i.rds:=by unfold SI.rds;rw[hg];simp
theorem CD{i:SI}(h:∀n∈i.rds,ej tm' n=ej tm n)(hc:dE call sg ⟨tm,ob,tk⟩ i=some c'):∃F,Uni i.dst F/\c'.tm=F tm/\dE call sg ⟨tm',ob,tk⟩ i=some ⟨F tm',c'.ob,c'.tk⟩:=by
 unfold dE at hc ⊢;split at hc
 ·exact BG (tO h) hc
 ·rename_i g b hg
  have e:CSt.get ⟨tm',ob,tk⟩ g=CSt.get ⟨tm,ob,tk⟩ g:=h g (Zz hg);rw[e];split at hc<;>try (cases hc;done)
  rotate_left
  ·obtain⟨F,h1,h2⟩:=Uni.cput i.dst (.tup [])
   rw[h2]at hc;cases hc;exact⟨F,h1,rfl,by rw[h2]⟩
  split at hc
  ·rename_i hb
   obtain⟨F,h1,h2,h3⟩:=BG (tO h) hc;exact⟨F,h1,h2,by simp only[if_pos hb];exact h3⟩
  ·rename_i hb
   obtain⟨F,h1,h2⟩:=Uni.cput i.dst (.tup []);rw[h2]at hc;cases hc;exact⟨F,h1,rfl,by simp only[if_neg hb];rw[h2]⟩
theorem Zk{i:SI}(h:∀n∈i.rds,ej tm' n=ej tm n):qv ⟨tm',ob,tk⟩ i=qv ⟨tm,ob,tk⟩ i:=by
 have hq:cV ⟨tm',ob,tk⟩ i.op=cV ⟨tm,ob,tk⟩ i.op:=by
  have ha:=tO (ob:=ob) (tk:=tk) h;generalize i.op=o at ha;have hv:=Aj ha;cases o with
  |pick k a b=>simp only[SOp.args,av,cL,or_false,forall_eq_or_imp,forall_eq]at ha;simp only[cV];rw[ha.1,ha.2.1,ha.2.2]
  |_=>simp only[cV];rw[hv]
 unfold qv;cases hg:i.g with
 |none=>exact hq
 |some p=>obtain⟨g,b⟩:=p;simp only;have e:CSt.get ⟨tm',ob,tk⟩ g=CSt.get ⟨tm,ob,tk⟩ g:=h g (Zz hg);rw[e];cases CSt.get ⟨tm,ob,tk⟩ g<;>first|rfl|(simp only[qg];rw[hq])
end
theorem ol{i:SI}{v:SV}(h:qv c i=some v):dE call sg c i=some (c.put i.dst v):=by
 have hop:∀o,cV c o=some v->opC call sg c i.dst o=some (c.put i.dst v):=by
  intro o ho;cases o with
  |pick k a b=>simp only[cV]at ho;split at ho<;>cases ho;rename_i t ht;simp only[opC,dM,ht,nb];rfl
  |_=>
   simp only[cV]at ho
   first
    |(simp only[cD]at ho;cases ho;done)
    |(simp only[opC,dM];rw[ho];rfl)
    |(simp[cD]at ho;done)
 unfold qv at h;unfold dE;generalize i.g=q at h;cases q with
 |none=>exact hop _ h
 |some q=>
  obtain⟨g,b⟩:=q;simp only at h ⊢;generalize c.get g=u at h
  by_cases hu:u= .tup []
  ·subst hu
   simp only[qg,an.injEq]at h;subst h;rfl
  obtain⟨t,rfl⟩:∃t,u= .bool t:=by
   unfold qg at h;split at h
   ·exact⟨_,rfl⟩
   ·exact absurd rfl hu
   ·cases h
  simp only[qg]at h ⊢;split at h
  ·rename_i hb;rw[if_pos hb];exact hop _ h
  ·rename_i hb;rw[if_neg hb];cases h;rfl
structure Apx(N:Nat)(D:List Nat)(c p:CSt):Prop where
 get:∀n,n∉D->c.get n=p.get n
 ob:c.ob=p.ob
 tk:c.tk=p.tk
 dom:∀q∈p.tm,q.1<N
theorem Apx.step{D:List Nat}{p p1:CSt}{i:SI}(h:Apx N D c p)(hi:i.ok N=true)(hr:∀n∈i.rds,n∉D)(hs:dE call sg p i=some p1):∃c1,dE call sg c i=some c1/\Apx N D c1 p1:=by
 obtain⟨tm',ob',tk'⟩:=c;obtain⟨tm,ob,tk⟩:=p;have h1:=h.ob;have h2:=h.tk;simp only at h1 h2;subst h1;subst h2;obtain⟨F,k1,k2,k3⟩:=CD (tm':=tm') (fun n hn=>h.get n (hr n hn)) hs;refine⟨_,k3,⟨fun n hn=> ?_,rfl,rfl,fun q hq=> ?_⟩⟩
 ·show ej (F tm') n=ej p1.tm n
  rw[k2];exact k1.get _ _ _ (h.get n hn)
 ·rw[k2]at hq
  rcases k1.dom _ _ hq with⟨q',hq',e⟩|e
  ·rw[<-e];exact h.dom q' hq'
  ·unfold SI.ok at hi
   rw[e]at hi;simpa using hi
theorem Apx.qv{D:List Nat}{p:CSt}{i:SI}(h:Apx N D c p)(hr:∀n∈i.rds,n∉D):qv c i=qv p i:=by obtain⟨tm',ob',tk'⟩:=c;obtain⟨tm,ob,tk⟩:=p;have h1:=h.ob;have h2:=h.tk;simp only at h1 h2;subst h1;subst h2;exact Zk fun n hn=>h.get n (hr n hn)
theorem Apx.put{D:List Nat}{p:CSt}{d:Nat}{v:SV}(h:Apx N D c p)(hd:d<N):Apx N (d::D) c (p.put (some d) v):=by
 refine⟨fun n hn=> ?_,h.ob,h.tk,fun q hq=> ?_⟩
 ·simp only[av,not_or]at hn
  rw[gE,if_neg hn.1];exact h.get n hn.2
 ·rcases lX hq with e|e
  ·rw[e];exact hd
  ·exact h.dom q e
theorem NE{p:CSt}{d:Nat}{v:SV}{i:SI}(h:d∉i.rds):Sy.qv (p.put (some d) v) i=Sy.qv p i:=by
 obtain⟨tm,ob,tk⟩:=p;refine Zk (tm:=tm) (tm':=jp tm d v) fun n hn=> ?_
 rw[l3,if_neg (by intro e;subst e;exact h hn)]
theorem pJ{α:Type}{p:Prop}{v u:α}(h:gdP p v=some u):p/\v=u:=by
 unfold gdP at h;split at h
 ·rename_i hp;exact⟨hp,by simpa using h⟩
 ·cases h
theorem pM{m:Nat}{p:CSt}{f:FI}:∀{l:List FI},tn m p l->f∈l->m.testBit f.n=true\/qv p f.i=some (p.get (f.i.dst.getD 0))
 |g::r,h,hf=>by
  rcases av.1 hf with rfl|hf
  ·rcases h.1 with h1|h1
   ·left
    rw[Nat.testBit_eq_decide_div_mod_eq];simpa using h1
   ·exact .inr h1
  ·exact pM h.2 hf
def Nx(g q:FI):Prop:=q.q=true->∀d,q.i.dst=some d->d∉g.i.rds/\g.i.dst≠some d
def x5(q:FI):Prop:=q.q=true->∃d,q.i.dst=some d/\d∉q.i.rds
def dOf(f:FI):Nat:=f.i.dst.getD 0
theorem mB{b:List Nat}{cF:CSt}:∀{r ps V:List FI}{p:CSt}{D:List Nat},eQ call sg b r ps p=some cF->Apx N D c p->(∀f∈r,f.i.ok N=true)->(∀f∈r,x5 f)->r.Pairwise Nx->(∀g∈V,∀f∈r,Nx g f)->
 (∀g∈V,∃d,g.i.dst=some d)->(∀g∈V,qv p g.i=some (p.get (dOf g)))->∃seg post p2 ps2,r=seg++post/\(∀f∈seg,f.q=true)/\(post=[]\/∃f r',post=f::r'/\f.q=false)/\eQ call sg b post ps2 p2=some cF/\
  (∀f,f∈ps\/f∈seg->f∈ps2)/\Apx N (seg.map dOf++D) c p2/\∀g,g∈V\/g∈seg->qv p2 g.i=some (p2.get (dOf g))
 |[],ps,V,p,D,h,hA,_,_,_,_,_,hV=>⟨[],[],p,ps,rfl,by simp,.inl rfl,h,by simp,by simpa using hA,by simpa using hV⟩
 |f::r,ps,V,p,D,h,hA,hok,hself,hpw,hVr,hVd,hV=>by
  obtain⟨n,q,i⟩:=f;cases q with
  |false=>exact⟨[],⟨n,false,i⟩::r,p,ps,rfl,by simp,.inr ⟨_,_,rfl,rfl⟩,h,by simp,by simpa using hA,by simpa using hV⟩
  |true=>
   simp only[eQ]at h;cases hq:qv p i with
   |none=>rw[hq]at h;simp[vR]at h
   |some v=>
    rw[hq]at h;simp only[vR]at h;obtain⟨d,hd,hdr⟩:=hself _ (aD ..) rfl;simp only at hd hdr
    have hdN:d<N:=by have:=hok _ (aD ..);unfold SI.ok at this;simp only[hd]at this;simpa using this
    rw[hd]at h;rw[cC]at hpw
    have hget:∀g:FI,(∃e,g.i.dst=some e)->g.i.dst≠some d->(p.put (some d) v).get (dOf g)=p.get (dOf g):=by
     rintro g ⟨e,he⟩ hne;have e1:dOf g=e:=by unfold dOf;rw[he];rfl
     rw[e1,gE,if_neg];intro e2;rw[he,e2]at hne;exact hne rfl
    obtain⟨seg,post,p2,ps2,k1,k2,k3,k4,k5,k6,k7⟩:=mB (V:=⟨n,true,i⟩::V) h (hA.put hdN) (fun f hf=>hok f (ao _ hf)) (fun f hf=>hself f (ao _ hf)) hpw.2
     (by
      intro g hg f hf;rcases av.1 hg with rfl|hg
      ·exact hpw.1 f hf
      ·exact hVr g hg f (ao _ hf))
     (by
      intro g hg;rcases av.1 hg with rfl|hg
      ·exact⟨d,hd⟩
      ·exact hVd g hg)
     (by
      intro g hg;rcases av.1 hg with rfl|hg
      ·have e1:dOf ⟨n,true,i⟩=d:=by unfold dOf;simp only[hd];rfl
       rw[e1,NE hdr,gE,if_pos rfl];exact hq
      ·obtain⟨h1,h2⟩:=hVr g hg _ (aD ..) rfl d hd
       rw[NE h1,hget g (hVd g hg) h2];exact hV g hg)
    refine⟨⟨n,true,i⟩::seg,post,p2,ps2,by rw[k1];rfl, ?_,k3,k4, ?_, ?_, ?_⟩
    ·intro f hf
     rcases av.1 hf with rfl|hf
     ·rfl
     ·exact k2 f hf
    ·intro f hf
     refine k5 f ?_;rcases hf with hf|hf
     ·exact .inl (ao _ hf)
     ·rcases av.1 hf with rfl|hf
      ·exact .inl (aD ..)
      ·exact .inr hf
    ·have e1:dOf ⟨n,true,i⟩=d:=by unfold dOf;simp only[hd];rfl
     refine⟨fun m hm=>k6.get m (fun h=>hm ?_),k6.ob,k6.tk,k6.dom⟩;simp only[aC,e1,aU,av,al]at h ⊢;rcases h with h|h|h
     ·exact .inr (.inl h)
     ·exact .inl h
     ·exact .inr (.inr h)
    ·intro g hg
     refine k7 g ?_;rcases hg with hg|hg
     ·exact .inl (ao _ hg)
     ·rcases av.1 hg with rfl|hg
      ·exact .inl (aD ..)
      ·exact .inr hg
section
variable {ops : Array Oper} {its : List FI} {b : List Nat}
def un(its:List FI)(listed:Array Bool):List FI:=its.filter fun f=> !listed.getD f.n true
theorem cN{listed:Array Bool}{f:FI}:f∈un its listed↔f∈its/\listed.getD f.n true=false:=by simp[un]
structure pl(call:cU)(sg:Nat->Sig)(N:Nat)(b:List Nat)(its:List FI)(cF:CSt)(listed:Array Bool)(c:CSt):Prop where
 ex:∃pre post p ps,its=pre++post/\(post=[]\/∃f r,post=f::r/\f.q=false)/\eQ call sg b post ps p=some cF/\(∀f∈pre,f.q=true->f∈ps)/\
  (∀f∈pre,f.q=false->listed.getD f.n true=true)/\(∀f∈post,listed.getD f.n true=false)/\
  Apx N ((un pre listed).map dOf) c p/\∀f∈un pre listed,qv p f.i=some (p.get (dOf f))
theorem xN(hcal:fW P call){cF:CSt}
 (hitem:∀f∈its,∃o,ops[f.n]? =some o/\fQ P ops o=some f.i.er/\f.n<ops.size) (hex:∀j,j<ops.size->∃f∈its,f.n=j) (hinj:∀f∈its,∀g∈its,f.n=g.n->f=g)
 (hback:∀(i:Nat)(o:Oper),ops[i]? =some o->∀e∈o.after,Region.binds .any e=true->e.on<i)
 (hbit:∀(i:Nat)(o:Oper)(k:Nat),ops[i]? =some o->k<ops.size->(b.getD i 0).testBit k=true->∃e∈o.after,Region.binds .any e=true/\(e.on=k\/(b.getD e.on 0).testBit k=true))
 (hok:∀f∈its,f.i.ok N=true) (hself:∀f∈its,x5 f) (hnx:its.Pairwise Nx)
 (hrd:∀q∈its,q.q=true->∀p∈its,∀d,q.i.dst=some d->d∈p.i.rds->(b.getD p.n 0).testBit q.n=true)
 (hseg:∀pre f r,its=pre++f::r->f.q=false->∀g∈r,∃h∈f::r,(b.getD g.n 0).testBit h.n=true)
 (hdd:∀f∈its,∀g∈its,f.n≠g.n->∀d,f.i.dst=some d->g.i.dst≠some d) {Q:Exit->Act->World->Prop} (hQ:∀a w,M C N cF a w->Q .normal a w):
 ∀(fuel:Nat)(listed:Array Bool)(c:CSt)(a:Act)(w:World),(un its listed).length<=fuel->listed.size=ops.size->
  (∀(i:Nat)(o:Oper)(k:Nat),ops[i]? =some o->listed.getD i true=true->k<ops.size->(b.getD i 0).testBit k=true->listed.getD k true=true)->
  pl call sg N b its cF listed c->M C N c a w->wpAny P .any ops Q fuel listed a w:=by
 classical
 have hd2:∀(listed:Array Bool),listed.size=ops.size->∀k,k<ops.size->listed.getD k false=listed.getD k true:=by intro listed hs k hk;simp[jU,hs,hk]
 have done:∀(listed:Array Bool)(c:CSt)(a:Act)(w:World),un its listed=[]->pl call sg N b its cF listed c->M C N c a w->Region.ready .any ops listed=[]/\Q .normal a w:=by
  intro listed c a w h0 hS hM;constructor
  ·rw[List.eq_nil_iff_forall_not_mem]
   intro j hj;obtain⟨h1,o,h2,h3⟩:=mem_ready.1 hj;have hj':j<ops.size:=(dl.1 h2).1;obtain⟨it,hit,rfl⟩:=hex j hj';have:it∈un its listed:=cN.2 ⟨hit,h1⟩;rw[h0]at this;cases this
  ·obtain⟨pre,post,p,ps,e,hp,hrun,_,_,hpost,hA,_⟩:=hS.ex
   have hp0:post=[]:=by
    cases post with
    |nil=>rfl
    |cons f r=>have:f∈un its listed:=cN.2 ⟨by rw[e];simp,hpost f (aD ..)⟩;rw[h0]at this;cases this
   subst hp0;simp only[eQ,an.injEq]at hrun;subst hrun;have hD:un pre listed=[]:=by rw[<-h0,e,bg]
   rw[hD]at hA;refine hQ a w ?_;obtain⟨x,s,hMo,hSi⟩:=hM;refine M.slots (c:=c) ⟨x,s,hMo,hSi⟩ ⟨hA.dom,by rw[<-hA.ob];exact hSi.inv.so,by rw[<-hA.ob];exact hSi.inv.wf⟩ hA.ob.symm hA.tk.symm (fun i=> .inl (hA.get i (by simp)).symm)
 intro fuel;induction fuel with
 |zero=>intro listed c a w hf hs hcl hS hM;exact done listed c a w (dR.1 (by omega)) hS hM
 |succ fuel ih=>
  intro listed c a w hf hs hcl hS hM;constructor
  ·intro hnil
   by_cases h0:un its listed=[]
   ·exact(done listed c a w h0 hS hM).2
   ·exfalso
    have hp:∃n,∃f∈un its listed,f.n=n:=by
     cases hc:un its listed with
     |nil=>exact absurd hc h0
     |cons f r=>exact⟨_,f,aD ..,rfl⟩
    obtain⟨n,⟨f,hfu,hfn⟩,hmin⟩:=Zt _ hp;obtain⟨h1,h2⟩:=cN.1 hfu;obtain⟨o,h3,_,h4⟩:=hitem f h1
    have:f.n∈Region.ready .any ops listed:=by refine mem_ready.2 ⟨h2,o,h3,fun e he hb=> ?_⟩;have hlt:=hback f.n o h3 e he hb;rw[hd2 listed hs _ (by omega),<-Bool.not_eq_false];intro hfl;obtain⟨g,hg,hgn⟩:=hex e.on (by omega);have:=hmin e.on ⟨g,cN.2 ⟨hg,by rw[hgn];exact hfl⟩,hgn⟩;omega
    rw[hnil]at this;cases this
  ·intro i hir
   obtain⟨h1,o,h2,h3⟩:=mem_ready.1 hir;have hi':i<ops.size:=(dl.1 h2).1;obtain⟨it,hit,rfl⟩:=hex i hi';obtain⟨o',ho',hres,_⟩:=hitem it hit;rw[h2]at ho';cases ho'
   have hdep:∀k,k<ops.size->(b.getD it.n 0).testBit k=true->listed.getD k true=true:=by
    intro k hk hb;obtain⟨e,he,hbd,hor⟩:=hbit it.n o k h2 hk hb;have hon:=h3 e he hbd;have honlt:=hback it.n o h2 e he hbd;rw[hd2 listed hs _ (by omega)]at hon;rcases hor with h|h
    ·rw[<-h];exact hon
    ·exact hcl e.on (ops[e.on]'(by omega)) k (by simp) hon hk h
   have hlen:(un its (listed.setIfInBounds it.n true)).length<(un its listed).length:=by
    have e1:un its (listed.setIfInBounds it.n true)=(un its listed).filter fun q=> !decide (q.n=it.n):=by
     simp only[un,List.filter_filter];apply List.filter_congr;intro q hq;rw[gB (by omega)]
     by_cases h:q.n=it.n<;>simp[h]
    rw[e1];refine List.length_filter_lt_length_iff_exists.2 ⟨it,cN.2 ⟨hit,h1⟩,by simp⟩
   have hcl':∀(i:Nat)(o:Oper)(k:Nat),ops[i]? =some o->(listed.setIfInBounds it.n true).getD i true=true->k<ops.size->(b.getD i 0).testBit k=true->(listed.setIfInBounds it.n true).getD k true=true:=by
    intro i2 o2 k2' ho2 hl2 hk2 hb2;rw[gB (by omega)]at hl2 ⊢;split
    ·rfl
    ·split at hl2
     ·rename_i e1
      subst e1;exact hdep k2' hk2 hb2
     ·exact hcl i2 o2 k2' ho2 hl2 hk2 hb2
   have hne:∀g∈its,listed.getD g.n true=true->g≠it:=by intro g _ hg e;subst e;rw[h1]at hg;cases hg
   have hset:∀g∈its,(listed.setIfInBounds it.n true).getD g.n true=if g=it then true else listed.getD g.n true:=by
    intro g hg;rw[gB (by omega)]
    by_cases h:g=it
    ·subst h;simp
    ·rw[if_neg (fun e=>h (hinj g hg it hit e)),if_neg h]
   obtain⟨pre,post,p,ps,e,hpost0,hrun,hps,hprel,hpostu,hA,hV⟩:=hS.ex;have hpre_in:∀g∈pre,g∈its:=fun g hg=>by rw[e];exact al.2 (.inl hg)
   have hpost_in:∀g∈post,g∈its:=fun g hg=>by rw[e];exact al.2 (.inr hg)
   have hrds:∀n∈it.i.rds,n∉(un pre listed).map dOf:=by
    intro n hn hm;obtain⟨g,hg,hgd⟩:=aT.1 hm;obtain⟨hg1,hg2⟩:=cN.1 hg
    have hgq:g.q=true:=by
     cases hq:g.q with
     |true=>rfl
     |false=>rw[hprel g hg1 hq]at hg2;cases hg2
    obtain⟨d,hd,_⟩:=hself g (hpre_in g hg1) hgq;have hdn:d=n:=by unfold dOf at hgd;rw[hd]at hgd;exact hgd
    subst hdn;have:=hrd g (hpre_in g hg1) hgq it hit d hd hn;obtain⟨_,_,_,hlt⟩:=hitem g (hpre_in g hg1);rw[hdep g.n hlt this]at hg2;cases hg2
   by_cases hin:it∈pre
   ·
    have hq:it.q=true:=by
     cases hq:it.q with
     |true=>rfl
     |false=>rw[hprel it hin hq]at h1;cases h1
    have hiu:it∈un pre listed:=cN.2 ⟨hin,h1⟩;have hv:=hV it hiu;rw[<-hA.qv hrds]at hv;obtain⟨d,hd,hdr⟩:=hself it hit hq;have hdo:dOf it=d:=by unfold dOf;rw[hd];rfl
    refine gg hcal hM (hok it hit) h2 hres (ol (call:=call) (sg:=sg) hv) fun a' w' hM'=> ?_
    refine ih _ _ a' w' (by omega) (by simpa using hs) hcl' ⟨pre,post,p,ps,e,hpost0,hrun,hps, ?_, ?_, ?_, ?_⟩ hM'
    ·intro f hf hfq
     rw[hset f (hpre_in f hf)];split
     ·rfl
     ·exact hprel f hf hfq
    ·intro f hf
     rw[hset f (hpost_in f hf),if_neg]
     ·exact hpostu f hf
     ·intro e2
      subst e2
      have hnd:its.Pairwise fun f g=>f.n≠g.n\/f=g:=List.pairwise_of_forall_mem_list (fun f hf g hg=>by
       by_cases h:f.n=g.n
       ·exact .inr (hinj f hf g hg h)
       ·exact .inl h)
      have h5:=hnx;rw[e]at h5;have h6:=(lm.1 h5).2.2 f hin f hf hq d hd;exact h6.2 hd
    ·refine⟨fun n hn=> ?_, ?_, ?_,hA.dom⟩
     ·rw[hd,gE]
      split
      ·rename_i e2;rw[e2,hdo]
      ·rename_i hnd
       refine hA.get n fun hm=>hn ?_
       obtain⟨g,hg,hgd⟩:=aT.1 hm;obtain⟨hg1,hg2⟩:=cN.1 hg;refine aT.2 ⟨g,cN.2 ⟨hg1, ?_⟩,hgd⟩;rw[hset g (hpre_in g hg1),if_neg]
       ·exact hg2
       ·intro e2;subst e2;rw[hdo]at hgd;exact hnd hgd.symm
     ·cases it.i.dst<;>exact hA.ob
     ·cases it.i.dst<;>exact hA.tk
    ·intro f hf
     obtain⟨hf1,hf2⟩:=cN.1 hf;refine hV f (cN.2 ⟨hf1, ?_⟩);rw[hset f (hpre_in f hf1)]at hf2;split at hf2
     ·cases hf2
     ·exact hf2
   ·
    have hinp:it∈post:=by rw[e]at hit;exact(al.1 hit).resolve_left hin
    obtain⟨f0,r,hpe,hf0⟩:∃f r,post=f::r/\f.q=false:=by
     rcases hpost0 with h|h
     ·subst h;cases hinp
     ·exact h
    have hit0:it=f0:=by
     rw[hpe]at hinp;rcases av.1 hinp with h|h
     ·exact h
     ·exfalso
      obtain⟨g,hg,hgb⟩:=hseg pre f0 r (by rw[e,hpe]) hf0 it h;have hgi:g∈post:=by rw[hpe];exact hg
      obtain⟨_,_,_,hlt⟩:=hitem g (hpost_in g hgi);have:=hdep g.n hlt hgb;rw[hpostu g hgi]at this;cases this
    subst hit0;subst hpe;obtain⟨n,q,i⟩:=it;simp only at hf0;subst hf0;simp only[eQ]at hrun;cases hs1:dE call sg p i with
    |none=>rw[hs1]at hrun;simp[qz]at hrun
    |some p1=>
     rw[hs1]at hrun;simp only[qz]at hrun;cases hg:gdP (tn (b.getD n 0) p1 ps) p1 with
     |none=>rw[hg]at hrun;simp[qA]at hrun
     |some p1'=>
      rw[hg]at hrun;simp only[qA]at hrun;obtain⟨hchk,rfl⟩:=pJ hg;obtain⟨c1,hc1,hA1⟩:=hA.step (hok _ hit) hrds hs1;refine gg hcal hM (hok _ hit) h2 hres hc1 fun a' w' hM'=> ?_
      have hsub:∀g∈un pre listed,g.q=true:=by
       intro g hg;obtain⟨hg1,hg2⟩:=cN.1 hg;cases hq:g.q with
       |true=>rfl
       |false=>rw[hprel g hg1 hq]at hg2;cases hg2
      have hnx':=hnx;rw[e]at hnx';have hpa:=lm.1 hnx'
      obtain⟨seg,post',p2,ps2,k1,k2,k3,k4,k5,k6,k7⟩:=mB (V:=un pre listed) hrun hA1 (fun f hf=>hok f (hpost_in f (ao _ hf))) (fun f hf=>hself f (hpost_in f (ao _ hf)))
       (cC.1 hpa.2.1).2 (fun g hg f hf=>hpa.2.2 g (cN.1 hg).1 f (ao _ hf))
       (fun g hg=>by obtain⟨d,hd,_⟩:=hself g (hpre_in g (cN.1 hg).1) (hsub g hg);exact⟨d,hd⟩)
       (fun g hg=>by
        obtain⟨hg1,hg2⟩:=cN.1 hg;rcases pM hchk (hps g hg1 (hsub g hg))with h|h
        ·obtain⟨_,_,_,hlt⟩:=hitem g (hpre_in g hg1)
         rw[hdep g.n hlt h]at hg2;cases hg2
        ·exact h)
      have hun:un (pre++⟨n,false,i⟩::seg) (listed.setIfInBounds n true)=un pre listed++seg:=by
       unfold un;rw[List.filter_append,kR];have e1:(listed.setIfInBounds n true).getD n true=true:=by rw[gB (by rw[hs];exact hi')];simp
       simp only[e1,Bool.not_true,aK,if_false]
       congr 1
       ·apply List.filter_congr
        intro g hg;have:=hset g (hpre_in g hg);simp only at this;rw[this,if_neg];intro e2;subst e2;exact hin hg
       ·apply iv.2
        intro g hg;have hgi:g∈⟨n,false,i⟩::r:=by rw[k1];exact ao _ (al.2 (.inl hg))
        have:=hset g (hpost_in g hgi);simp only at this;rw[this,if_neg]
        ·rw[hpostu g hgi];rfl
        ·intro e2;subst e2;have:=k2 _ hg;cases this
      refine ih _ _ a' w' (by omega) (by simpa using hs) hcl' ⟨pre++⟨n,false,i⟩::seg,post',p2,ps2,by rw[e,k1];simp,k3,k4, ?_, ?_, ?_, ?_, ?_⟩ hM'
      ·intro f hf hfq
       rcases al.1 hf with h|h
       ·exact k5 f (.inl (hps f h hfq))
       ·rcases av.1 h with rfl|h
        ·cases hfq
        ·exact k5 f (.inr h)
      ·intro f hf hfq
       rcases al.1 hf with h|h
       ·rw[hset f (hpre_in f h)]
        split
        ·rfl
        ·exact hprel f h hfq
       ·rcases av.1 h with rfl|h
        ·rw[hset _ hit,if_pos rfl]
        ·rw[k2 f h]at hfq;cases hfq
      ·intro f hf
       have hfi:f∈⟨n,false,i⟩::r:=by rw[k1];exact ao _ (al.2 (.inr hf))
       rw[hset f (hpost_in f hfi),if_neg]
       ·exact hpostu f hfi
       ·intro e2
        subst e2;obtain⟨g,hg,hgb⟩:=hseg pre ⟨n,false,i⟩ r e rfl ⟨n,false,i⟩ (by rw[k1];exact al.2 (.inr hf));obtain⟨_,_,_,hlt⟩:=hitem g (hpost_in g hg);have:=hdep g.n hlt hgb;rw[hpostu g hg]at this;cases this
      ·rw[hun,ct]
       refine⟨fun m hm=>k6.get m (fun h=>hm ?_),k6.ob,k6.tk,k6.dom⟩;rw[al]at h ⊢;exact h.symm
      ·rw[hun]
       intro f hf;exact k7 f (al.1 hf)
end
theorem rN{f:FI}(l:List FI)(h:(l.map FI.n).Nodup)(hf:f∈l):D8 l f.n=f.i.er:=by
 induction l with
 |nil=>cases hf
 |cons g r ih=>
  simp only[aC,dC]at h;simp only[D8];rcases av.1 hf with rfl|hf
  ·rw[if_pos rfl]
  ·rw[if_neg,ih h.2 hf]
   intro e;apply h.1;rw[e];exact iu hf
theorem Fc{b:List Nat}{s:Nat}(l:List FI):ny b (some s) l=true->∀g∈l,(b.getD g.n 0).testBit s=true\/∃h∈l,(b.getD g.n 0).testBit h.n=true:=by
 induction l generalizing s with
 |nil=>intro _ g hg;cases hg
 |cons f r ih=>
  intro h g hg;simp only[ny]at h;split at h
  ·simp only[aB,m9]at h
   rcases av.1 hg with rfl|hg
   ·exact .inl h.1
   ·rcases ih h.2 g hg with h1|⟨k,hk,h1⟩
    ·exact .inl h1
    ·exact .inr ⟨k,ao _ hk,h1⟩
  ·simp only[aB,m9]at h
   rcases av.1 hg with rfl|hg
   ·exact .inl h.1
   ·rcases ih h.2 g hg with h1|⟨k,hk,h1⟩
    ·exact .inr ⟨f,aD ..,h1⟩
    ·exact .inr ⟨k,ao _ hk,h1⟩
theorem yk{b:List Nat}:∀{pre:List FI}{s:Option Nat}{f:FI}{r:List FI},ny b s (pre++f::r)=true->f.q=false->ny b (some f.n) r=true
 |[],s,f,r,h,hf=>by simp only[az,ny,hf,aK,if_false,aB]at h;exact h.2
 |g::pre,s,f,r,h,hf=>by
  simp only[aU,ny]at h;split at h
  ·rw[aB]at h;exact yk h.2 hf
  ·rw[aB]at h;exact yk h.2 hf
theorem oI{b:List Nat}:∀{l:List FI},oJ b l=true->l.Pairwise fun p q=>(b.getD p.n 0).testBit q.n=false
 |[],_=>ge.nil
 |p::r,h=>by simp only[oJ,aB,aR]at h;refine cC.2 ⟨fun q hq=> ?_,oI h.2⟩;have:=h.1 q hq;simp only[NH,aB,dv,m9]at this;exact this.1
theorem Dq(hcal:fW P call){id:Nat}{ops:Array Oper}{its:List FI}(hl:jw (fQ P ops) ops.toList=some (unF its))(hd:drawn ops (unF its)=true)(hm:P.follows .mixedOrders=true)
 (hok:its.all (fun f=>f.i.ok N)=true) (hflt:OX (Region.before ops).toList its=true) {cF:CSt} {Q:Exit->Act->World->Prop} (hQ:∀a w,M C N cF a w->Q .normal a w) (hM:M C N c a w)
 (h:eQ call sg (Region.before ops).toList its [] c=some cF):(Code.region id ops true).wp P Q a w:=by
 simp only[OX,aB,decide_eq_true_eq,aR]at hflt;obtain⟨⟨⟨⟨⟨hseg,hpairs⟩,hfq⟩,hnd⟩,hlt⟩,hcov⟩:=hflt;simp only[RW,aR,eH,dv]at hfq;rw[aR]at hok;obtain⟨hlen,hget⟩:=eE hl;have hul:(unF its).length=its.length:=by simp[unF]
 have hsz:its.length=ops.size:=by rw[<-hul,hlen,aS]
 have hun:∀f∈its,(unF its).getD f.n ⟨none,none,.lenC 0⟩=f.i.er:=by intro f hf;have:=hlt f hf;rw[aa];simp only[unF,aQ,bV this,bo,aY];exact rN _ hnd hf
 simp only[drawn,aB,decide_eq_true_eq]at hd;obtain⟨⟨hc,ht⟩,hdst⟩:=hd
 have hitem:∀f∈its,∃o,ops[f.n]? =some o/\fQ P ops o=some f.i.er/\f.n<ops.size:=by
  intro f hf;have hfl:=hlt f hf;have hj2:f.n<ops.toList.length:=by rw[aS];omega
  refine⟨ops.toList[f.n],by rw[<-cI,ab hj2], ?_,by omega⟩;have h1:=hget f.n hj2 (by omega);rw[h1]
  congr 1
  have h2:=hun f hf;rwa[aa,ab (by omega),aY]at h2
 have hinj:∀f∈its,∀g∈its,f.n=g.n->f=g:=by
  intro f hf g hg e;have:its.Pairwise fun f g=>f.n≠g.n:=by rw[wB,gj]at hnd;exact hnd
  rw[od]at this;obtain⟨i,hi,rfl⟩:=List.mem_iff_getElem.1 hf;obtain⟨j,hj,rfl⟩:=List.mem_iff_getElem.1 hg;rcases Nat.lt_trichotomy i j with h|h|h
  ·exact absurd e (this i j hi hj h)
  ·subst h;rfl
  ·exact absurd e.symm (this j i hj hi h)
 have hdd:∀f∈its,∀g∈its,f.n≠g.n->∀d,f.i.dst=some d->g.i.dst≠some d:=by
  have main:∀f∈its,∀g∈its,f.n<g.n->∀d,f.i.dst=some d->g.i.dst≠some d:=by
   intro f hf g hg hlt' d h1 h2
   have hpl:(unF its).Pairwise fun u v=>∀d,u.dst=some d->v.dst≠some d:=by rw[wB,List.pairwise_filterMap]at hdst;refine hdst.imp ?_;intro u v huv d hu hv;exact huv d hu d hv rfl
   rw[od]at hpl;have hf':=hlt f hf;have hg':=hlt g hg
   have g1:(unF its)[f.n]'(by omega)=f.i.er:=by have:=hun f hf;rwa[aa,ab (by omega),aY]at this
   have g2:(unF its)[g.n]'(by omega)=g.i.er:=by have:=hun g hg;rwa[aa,ab (by omega),aY]at this
   exact hpl f.n g.n (by omega) (by omega) hlt' d (by rw[g1];exact h1) (by rw[g2];exact h2)
  intro f hf g hg hne d h1 h2;rcases bY f.n g.n with h|h
  ·exact main f hf g hg h d h1 h2
  ·exact main g hg f hf (by omega) d h2 h1
 have hclosed:∀(i:Nat)(o:Oper),ops[i]? =some o->(∀e∈o.after,Region.binds .any e=true->e.on<i)/\
  ∀k,k<ops.size->((Region.before ops).toList.getD i 0).testBit k=true->∃e∈o.after,Region.binds .any e=true/\(e.on=k\/((Region.before ops).toList.getD e.on 0).testBit k=true):=by
  intro i o ho;unfold pQ at hc;rw[aR]at hc;have hi:i<ops.size:=(dl.1 ho).1
  have h1:=hc (o,i) (by rw[List.mem_zipIdx_iff_getElem?];simpa using ho)
  simp only[aB,Array.all_eq_true_iff_forall_mem,aR,eH,dv,decide_eq_true_eq]at h1;refine⟨fun e he hb=>(h1.1 e he).resolve_left (by simp[hb]),fun k hk hb=> ?_⟩;have h2:=(h1.2 k (dy.2 hk)).resolve_left (by simp only[hb];simp);obtain⟨_,h3⟩:=h2;rw[<-Array.any_toList,List.any_eq_true]at h3;obtain⟨e,he,h4⟩:=h3;rw[Array.mem_toList_iff]at he;simp only[aB,eH,beq_iff_eq]at h4;exact⟨e,he,h4.1,h4.2⟩
 have hq:∀q∈its,q.q=true->∃d,q.i.dst=some d/\∀p∈its,d∈p.i.rds->((Region.before ops).toList.getD p.n 0).testBit q.n=true/\p.n≠q.n:=by
  intro q hq hqq;have h1:=(hfq q hq).resolve_left (by rw[hqq];simp);cases hd:q.i.dst with
  |none=>rw[hd]at h1;cases h1
  |some d=>
   rw[hd]at h1;simp only[aR,eH,dv,aB,decide_eq_true_eq,m9]at h1;refine⟨d,rfl,fun p hp hr=> ?_⟩;rcases h1 p hp with h2|h2
   ·rw[eG]at h2;simp only[decide_eq_false_iff_not]at h2;exact absurd hr h2
   ·exact h2
 have hself:∀f∈its,x5 f:=by intro f hf hfq;obtain⟨d,hd,h1⟩:=hq f hf hfq;exact⟨d,hd,fun h=>(h1 f hf h).2 rfl⟩
 have hrd:∀q∈its,q.q=true->∀p∈its,∀d,q.i.dst=some d->d∈p.i.rds->((Region.before ops).toList.getD p.n 0).testBit q.n=true:=by intro q hq' hqq p hp d hd hr;obtain⟨d',hd',h1⟩:=hq q hq' hqq;rw[hd']at hd;cases hd;exact(h1 p hp hr).1
 have hnx:its.Pairwise Nx:=by
  have h1:its.Pairwise fun f g=>f.n≠g.n:=by rw[wB,gj]at hnd;exact hnd
  refine((oI hpairs).and h1).imp_of_mem ?_;rintro p q hp hq' ⟨h2,h3⟩ hqq d hd;refine⟨fun hr=> ?_,fun e=>hdd p hp q hq' h3 d e hd⟩;rw[hrd q hq' hqq p hp d hd hr]at h2;cases h2
 obtain⟨seg,post,p2,ps2,k1,k2,k3,k4,k5,k6,k7⟩:=mB (N:=N) (D:=[]) (V:=[]) h ⟨fun _ _=>rfl,rfl,rfl,by obtain⟨x,s,_,hS⟩:=hM;exact hS.inv.dom⟩ (fun f hf=>hok f hf) hself hnx (by simp) (by simp) (by simp)
 have hfalse:∀f∈its,(dP ops.size false).getD f.n true=false:=by
  intro f hf;have:=hlt f hf;have:f.n<ops.size:=by omega
  simp[jU,this]
 have hunf:un seg (dP ops.size false)=seg:=by apply iv.2;intro f hf;rw[hfalse f (by rw[k1];exact al.2 (.inl hf))];rfl
 refine wp_region_any hm ?_
 refine xN (its:=its) (b:=(Region.before ops).toList) (cF:=cF) (sg:=sg) hcal hitem (fun j hj=> ?_) hinj (fun i o ho=>(hclosed i o ho).1) (fun i o k ho hk hb=>(hclosed i o ho).2 k hk hb) (fun f hf=>hok f hf) hself hnx hrd
  (fun pre f r e hf g hg=> ?_) hdd hQ ops.size _ c a _ ?_ (by simp) ?_ ⟨seg,post,p2,ps2,k1,k3,k4,fun f hf _=>k5 f (.inr hf),(fun f hf hq=>by rw[k2 f hf]at hq;cases hq),fun f hf=>hfalse f (by rw[k1];exact al.2 (.inr hf)), ?_, ?_⟩ ?_
 ·have:=hcov j (dy.2 (by omega))
  rw[eG]at this;simp only[decide_eq_true_eq]at this;obtain⟨f,hf,e⟩:=aT.1 this;exact⟨f,hf,e⟩
 ·rw[e]at hseg
  rcases Fc _ (yk hseg hf) g hg with h1|⟨k,hk,h1⟩
  ·exact⟨f,aD ..,h1⟩
  ·exact⟨k,ao _ hk,h1⟩
 ·have:(un its (dP ops.size false)).length<=its.length:=List.length_filter_le _ _
  omega
 ·intro i o k ho hl _ _
  have hi:i<ops.size:=(dl.1 ho).1;simp[jU,hi]at hl
 ·rw[hunf];simpa using k6
 ·rw[hunf];intro f hf;exact k7 f (.inr hf)
 ·obtain⟨x,s,hMo,hS⟩:=hM
  exact⟨x,s,⟨hMo.tm,hMo.defers,hMo.heap.drawn _⟩,hS⟩
end Go.Sy
namespace Go.Sy
variable [aZ]
variable {P : Program} {C : Ctx} {x : Sit} {a : Act} {w : World} {N : Nat} {c c' : CSt} {s : St} {call : cU} {sg : Nat -> Sig}
variable {ops : Array Oper} {its σ : List FI} {b : List Nat} {cF : CSt} {listed : Array Bool}
structure Oe(P:Program)(N:Nat)(ops:Array Oper)(its:List FI)(b:List Nat):Prop where
 item:∀f∈its,∃o,ops[f.n]? =some o/\fQ P ops o=some f.i.er/\f.n<ops.size
 ex:∀j,j<ops.size->∃f∈its,f.n=j
 inj:∀f∈its,∀g∈its,f.n=g.n->f=g
 back:∀(i:Nat)(o:Oper),ops[i]? =some o->∀e∈o.after,Region.binds .any e=true->e.on<i
 bit:∀(i:Nat)(o:Oper)(k:Nat),ops[i]? =some o->k<ops.size->(b.getD i 0).testBit k=true->∃e∈o.after,Region.binds .any e=true/\(e.on=k\/(b.getD e.on 0).testBit k=true)
 ok:∀f∈its,f.i.ok N=true
 self:∀f∈its,x5 f
 rd:∀q∈its,q.q=true->∀p∈its,∀d,q.i.dst=some d->d∈p.i.rds->(b.getD p.n 0).testBit q.n=true
structure S3(its:List FI)(b:List Nat)(σ:List FI):Prop where
 mem:∀f,f∈σ↔f∈its
 nd:(σ.map FI.n).Nodup
 nx:σ.Pairwise Nx
 seg:∀pre f r,σ=pre++f::r->f.q=false->∀g∈r,g.q=true->∃h∈f::r,(b.getD g.n 0).testBit h.n=true
open Classical in
theorem AA(hs:listed.size=ops.size){it g:FI}(I:Oe P N ops its b)(hit:it∈its)(hg:g∈its)(hi:it.n<ops.size):(listed.setIfInBounds it.n true).getD g.n true=if g=it then true else listed.getD g.n true:=by
 rw[gB (by omega)]
 by_cases h:g=it
 ·subst h;simp
 ·rw[if_neg (fun e=>h (I.inj g hg it hit e)),if_neg h]
theorem BS(I:Oe P N ops its b)(O:S3 its b σ){pre:List FI}{it:FI}(hit:it∈its)(hpre:∀g∈pre,g∈its)(hprel:∀f∈pre,f.q=false->listed.getD f.n true=true)
 (hdep:∀k,k<ops.size->(b.getD it.n 0).testBit k=true->listed.getD k true=true):∀n∈it.i.rds,n∉(un pre listed).map dOf:=by
 intro n hn hm;obtain⟨g,hg,hgd⟩:=aT.1 hm;obtain⟨hg1,hg2⟩:=cN.1 hg
 have hgq:g.q=true:=by
  cases hq:g.q with
  |true=>rfl
  |false=>rw[hprel g hg1 hq]at hg2;cases hg2
 obtain⟨d,hd,_⟩:=I.self g (hpre g hg1) hgq;have hdn:d=n:=by unfold dOf at hgd;rw[hd]at hgd;exact hgd
 subst hdn;have:=I.rd g (hpre g hg1) hgq it hit d hd hn;obtain⟨_,_,_,hlt⟩:=I.item g (hpre g hg1);rw[hdep g.n hlt this]at hg2;cases hg2
theorem Aq(hs:listed.size=ops.size)(I:Oe P N ops its b)(O:S3 its b σ)(hS:pl call sg N b σ cF listed c){it:FI}(hit:it∈its)(h1:listed.getD it.n true=false)(hq:it.q=true)
 (hdep:∀k,k<ops.size->(b.getD it.n 0).testBit k=true->listed.getD k true=true):
 ∃v,qv c it.i=some v/\pl call sg N b σ cF (listed.setIfInBounds it.n true) (c.put it.i.dst v):=by
 classical
 obtain⟨_,_,_,hi'⟩:=I.item it hit;have hset:∀g∈its,(listed.setIfInBounds it.n true).getD g.n true=if g=it then true else listed.getD g.n true:=fun g hg=>AA hs I hit hg hi'
 obtain⟨pre,post,p,ps,e,hpost0,hrun,hps,hprel,hpostu,hA,hV⟩:=hS.ex;have hpre_in:∀g∈pre,g∈its:=fun g hg=>(O.mem g).1 (by rw[e];exact al.2 (.inl hg))
 have hpost_in:∀g∈post,g∈its:=fun g hg=>(O.mem g).1 (by rw[e];exact al.2 (.inr hg))
 have hrds:=BS (listed:=listed) I O hit hpre_in hprel hdep
 have hin:it∈pre:=by
  have h2:=(O.mem it).2 hit;rw[e]at h2;rcases al.1 h2 with h3|h3
  ·exact h3
  ·exfalso
   rcases hpost0 with h4|⟨f0,r,h4,hf0⟩
   ·rw[h4]at h3;cases h3
   ·have h5:it∈r:=by
     rw[h4]at h3;rcases av.1 h3 with h|h
     ·rw[h,hf0]at hq;cases hq
     ·exact h
    obtain⟨g,hg,hgb⟩:=O.seg pre f0 r (by rw[e,h4]) hf0 it h5 hq;have hgi:g∈post:=by rw[h4];exact hg
    obtain⟨_,_,_,hlt⟩:=I.item g (hpost_in g hgi);have:=hdep g.n hlt hgb;rw[hpostu g hgi]at this;cases this
 have hiu:it∈un pre listed:=cN.2 ⟨hin,h1⟩;have hv:=hV it hiu;rw[<-hA.qv hrds]at hv;obtain⟨d,hd,hdr⟩:=I.self it hit hq;have hdo:dOf it=d:=by unfold dOf;rw[hd];rfl
 refine⟨_,hv,⟨pre,post,p,ps,e,hpost0,hrun,hps, ?_, ?_, ?_, ?_⟩⟩
 ·intro f hf hfq
  rw[hset f (hpre_in f hf)];split
  ·rfl
  ·exact hprel f hf hfq
 ·intro f hf
  rw[hset f (hpost_in f hf),if_neg]
  ·exact hpostu f hf
  ·intro e2
   subst e2;have h5:=O.nx;rw[e]at h5;have h6:=(lm.1 h5).2.2 f hin f hf hq d hd;exact h6.2 hd
 ·refine⟨fun n hn=> ?_, ?_, ?_,hA.dom⟩
  ·rw[hd,gE]
   split
   ·rename_i e2;rw[e2,hdo]
   ·rename_i hnd
    refine hA.get n fun hm=>hn ?_
    obtain⟨g,hg,hgd⟩:=aT.1 hm;obtain⟨hg1,hg2⟩:=cN.1 hg;refine aT.2 ⟨g,cN.2 ⟨hg1, ?_⟩,hgd⟩;rw[hset g (hpre_in g hg1),if_neg]
    ·exact hg2
    ·intro e2;subst e2;rw[hdo]at hgd;exact hnd hgd.symm
  ·cases it.i.dst<;>exact hA.ob
  ·cases it.i.dst<;>exact hA.tk
 ·intro f hf
  obtain⟨hf1,hf2⟩:=cN.1 hf;refine hV f (cN.2 ⟨hf1, ?_⟩);rw[hset f (hpre_in f hf1)]at hf2;split at hf2
  ·cases hf2
  ·exact hf2
theorem Gm(l r:List FI):fc (l++r)=fc l++fc r:=List.filterMap_append
theorem DB{l:List FI}(h:∀f∈l,f.q=true):fc l=[]:=by unfold fc;rw[List.filterMap_eq_nil_iff];intro f hf;rw[h f hf];rfl
theorem pC{l:List FI}{k:Nat}:k∈fc l↔∃f∈l,f.q=false/\f.n=k:=by
 unfold fc;rw[List.mem_filterMap];constructor
 ·rintro⟨f,hf,h⟩
  cases hq:f.q with
  |true=>rw[hq]at h;cases h
  |false=>rw[hq]at h;exact⟨f,hf,hq,by simpa using h⟩
 ·rintro⟨f,hf,hq,rfl⟩;exact⟨f,hf,by rw[hq];rfl⟩
theorem kb(k:Nat):∀l:List FI,fc (l.filter fun q=> !decide (q.n=k))=(fc l).filter fun x=> !decide (x=k)
 |[]=>rfl
 |f::r=>by
  have ih:=kb k r;rw[kR]
  by_cases h:f.n=k
  ·cases hq:f.q with
   |true=>simp only[h,decide_true,Bool.not_true,aK,if_false,ih];simp[fc,hq]
   |false=>simp only[h,decide_true,Bool.not_true,aK,if_false,ih];simp[fc,hq,h]
  ·cases hq:f.q with
   |true=>simp only[h,decide_false,Bool.not_false,if_true];simp only[fc,List.filterMap_cons,hq,if_true]at ih ⊢;exact ih
   |false=>simp only[h,decide_false,Bool.not_false,if_true];simp only[fc,List.filterMap_cons,hq,aK,if_false,kR,h,decide_false,Bool.not_false,if_true]at ih ⊢;rw[ih]
theorem yh(hs:listed.size=ops.size){k:Nat}(hk:k<ops.size)(σ:List FI):un σ (listed.setIfInBounds k true)=(un σ listed).filter fun q=> !decide (q.n=k):=by
 simp only[un,List.filter_filter];apply List.filter_congr;intro q hq;rw[gB (by omega)]
 by_cases h:q.n=k<;>simp[h]
theorem Ar(hs:listed.size=ops.size)(I:Oe P N ops its b)(O:S3 its b σ)(hS:pl call sg N b σ cF listed c){it:FI}(hit:it∈its)(h1:listed.getD it.n true=false)(hq:it.q=false)
 (hdep:∀k,k<ops.size->(b.getD it.n 0).testBit k=true->listed.getD k true=true) (hh:(fc (un σ listed)).head? =some it.n):
 ∃c1,dE call sg c it.i=some c1/\pl call sg N b σ cF (listed.setIfInBounds it.n true) c1:=by
 classical
 obtain⟨_,_,_,hi'⟩:=I.item it hit;have hset:∀g∈its,(listed.setIfInBounds it.n true).getD g.n true=if g=it then true else listed.getD g.n true:=fun g hg=>AA hs I hit hg hi'
 obtain⟨pre,post,p,ps,e,hpost0,hrun,hps,hprel,hpostu,hA,hV⟩:=hS.ex;have hpre_in:∀g∈pre,g∈its:=fun g hg=>(O.mem g).1 (by rw[e];exact al.2 (.inl hg))
 have hpost_in:∀g∈post,g∈its:=fun g hg=>(O.mem g).1 (by rw[e];exact al.2 (.inr hg))
 have hrds:=BS (listed:=listed) I O hit hpre_in hprel hdep
 have hsub:∀g∈un pre listed,g.q=true:=by
  intro g hg;obtain⟨hg1,hg2⟩:=cN.1 hg;cases hq:g.q with
  |true=>rfl
  |false=>rw[hprel g hg1 hq]at hg2;cases hg2
 have hup:un post listed=post:=iv.2 fun f hf=>by rw[hpostu f hf];rfl
 have hu:fc (un σ listed)=fc post:=by
  have:un σ listed=un pre listed++un post listed:=by rw[e];exact List.filter_append ..
  rw[this,Gm,DB hsub,hup];rfl
 rw[hu]at hh
 obtain⟨f0,r,hpe,hf0⟩:∃f r,post=f::r/\f.q=false:=by
  rcases hpost0 with h|h
  ·rw[h]at hh;cases hh
  ·exact h
 have hit0:it=f0:=by
  rw[hpe]at hh;have h2:fc (f0::r)=f0.n::fc r:=by simp[fc,hf0]
  rw[h2]at hh;simp only[List.head?_cons,an.injEq]at hh;exact I.inj it hit f0 (hpost_in f0 (by rw[hpe];exact aD ..)) hh.symm
 subst hit0;subst hpe
 have hnd:(pre++it::r).Pairwise fun f g=>f.n≠g.n:=by have:=O.nd;rw[e,wB,gj]at this;exact this
 obtain⟨n,q,i⟩:=it;simp only at hf0;subst hf0;simp only[eQ]at hrun;cases hs1:dE call sg p i with
 |none=>rw[hs1]at hrun;simp[qz]at hrun
 |some p1=>
  rw[hs1]at hrun;simp only[qz]at hrun;cases hg:gdP (tn (b.getD n 0) p1 ps) p1 with
  |none=>rw[hg]at hrun;simp[qA]at hrun
  |some p1'=>
   rw[hg]at hrun;simp only[qA]at hrun;obtain⟨hchk,rfl⟩:=pJ hg;obtain⟨c1,hc1,hA1⟩:=hA.step (I.ok _ hit) hrds hs1;refine⟨c1,hc1, ?_⟩;have hnx':=O.nx;rw[e]at hnx';have hpa:=lm.1 hnx'
   obtain⟨seg,post',p2,ps2,k1,k2,k3,k4,k5,k6,k7⟩:=mB (V:=un pre listed) hrun hA1 (fun f hf=>I.ok f (hpost_in f (ao _ hf))) (fun f hf=>I.self f (hpost_in f (ao _ hf)))
    (cC.1 hpa.2.1).2 (fun g hg f hf=>hpa.2.2 g (cN.1 hg).1 f (ao _ hf))
    (fun g hg=>by obtain⟨d,hd,_⟩:=I.self g (hpre_in g (cN.1 hg).1) (hsub g hg);exact⟨d,hd⟩)
    (fun g hg=>by
     obtain⟨hg1,hg2⟩:=cN.1 hg;rcases pM hchk (hps g hg1 (hsub g hg))with h|h
     ·obtain⟨_,_,_,hlt⟩:=I.item g (hpre_in g hg1)
      rw[hdep g.n hlt h]at hg2;cases hg2
     ·exact h)
   have hnp:∀g∈pre,g≠⟨n,false,i⟩:=fun g hg e2=>by have:=(lm.1 hnd).2.2 g hg _ (aD ..);rw[e2]at this;exact this rfl
   have hnr:∀g∈r,g≠⟨n,false,i⟩:=fun g hg e2=>by have:=(cC.1 (lm.1 hnd).2.1).1 g hg;rw[e2]at this;exact this rfl
   have hun:un (pre++⟨n,false,i⟩::seg) (listed.setIfInBounds n true)=un pre listed++seg:=by
    unfold un;rw[List.filter_append,kR];have e1:(listed.setIfInBounds n true).getD n true=true:=by rw[gB (by rw[hs];exact hi')];simp
    simp only[e1,Bool.not_true,aK,if_false]
    congr 1
    ·apply List.filter_congr
     intro g hg;have:=hset g (hpre_in g hg);simp only at this;rw[this,if_neg (hnp g hg)]
    ·apply iv.2
     intro g hg;have hgr:g∈r:=by rw[k1];exact al.2 (.inl hg)
     have hgi:g∈⟨n,false,i⟩::r:=ao _ hgr;have:=hset g (hpost_in g hgi);simp only at this;rw[this,if_neg (hnr g hgr),hpostu g hgi];rfl
   refine⟨pre++⟨n,false,i⟩::seg,post',p2,ps2,by rw[e,k1];simp,k3,k4, ?_, ?_, ?_, ?_, ?_⟩
   ·intro f hf hfq
    rcases al.1 hf with h|h
    ·exact k5 f (.inl (hps f h hfq))
    ·rcases av.1 h with rfl|h
     ·cases hfq
     ·exact k5 f (.inr h)
   ·intro f hf hfq
    rcases al.1 hf with h|h
    ·rw[hset f (hpre_in f h)]
     split
     ·rfl
     ·exact hprel f h hfq
    ·rcases av.1 h with rfl|h
     ·rw[hset _ hit,if_pos rfl]
     ·rw[k2 f h]at hfq;cases hfq
   ·intro f hf
    have hfr:f∈r:=by rw[k1];exact al.2 (.inr hf)
    have hfi:f∈⟨n,false,i⟩::r:=ao _ hfr;rw[hset f (hpost_in f hfi),if_neg (hnr f hfr)];exact hpostu f hfi
   ·rw[hun,ct]
    refine⟨fun m hm=>k6.get m (fun h=>hm ?_),k6.ob,k6.tk,k6.dom⟩;rw[al]at h ⊢;exact h.symm
   ·rw[hun]
    intro f hf;exact k7 f (al.1 hf)
theorem Gl{k:Nat}{g:Nat}{A:List (List Nat)}(h:kP b k A=true)(hg:∀l,A.head? =some l->g∈l)(hr:∀l,A.head? =some l->∀x∈l,x≠g->(b.getD g 0).testBit x=false):
 ∃k',kP b k' (A.filterMap fun p=>match p with|x::r=>if x=g then some r else none|[]=>none)=true:=by
 cases A with
 |nil=>cases k<;>simp[kP]at h
 |cons l A=>
  cases l with
  |nil=>have:=hg [] rfl;cases this
  |cons y t=>
   cases k with
   |zero=>simp[kP]at h
   |succ k=>
    simp only[kP,aR]at h;have h1:=h g (hg _ rfl);rw[eH]at h1;rcases h1 with h1|h1
    ·exfalso
     rw[List.any_eq_true]at h1;obtain⟨x,hx,h2⟩:=h1;rw[aB]at h2;have h3:=of_decide_eq_true h2.1;have:=hr _ rfl x hx h3;unfold m9 at h2;rw[h2.2]at this;cases this
    ·exact⟨k,h1⟩
theorem rZ{R R':List FI->List Nat}{g:Nat}:∀{A:List (List FI)},(∀σ∈A,∀r,R σ=g::r->R' σ=r)->
 (A.filter fun σ=>decide ((R σ).head? =some g)).map R'=(A.map R).filterMap fun p=>match p with|x::r=>if x=g then some r else none|[]=>none
 |[],_=>rfl
 |σ::A,h=>by
  have ih:=rZ (R:=R) (R':=R') (g:=g) (A:=A) fun τ hτ=>h τ (ao _ hτ)
  have h0:=h σ (aD ..);rw[kR,aC,List.filterMap_cons];cases hR:R σ with
  |nil=>simp only[List.head?_nil,reduceCtorEq,decide_false,aK,if_false];exact ih
  |cons y t=>
   by_cases hy:y=g
   ·subst hy
    simp only[List.head?_cons,decide_true,if_true,aC,h0 t hR];rw[ih]
   ·have:¬(some y=some g):=fun e=>hy (by injection e)
    simp only[List.head?_cons,this,decide_false,aK,if_false,hy];exact ih
theorem Gw(
 hcal:fW P call)(I:Oe P N ops its b){ords:List (List FI)}(hO:∀σ∈ords,S3 its b σ){Q:Exit->Act->World->Prop}(hQ:∀a w,M C N cF a w->Q .normal a w):
 ∀(fuel:Nat)(listed:Array Bool)(c:CSt)(a:Act)(w:World)(A:List (List FI))(k:Nat),(un its listed).length<=fuel->listed.size=ops.size->
  (∀(i:Nat)(o:Oper)(k:Nat),ops[i]? =some o->listed.getD i true=true->k<ops.size->(b.getD i 0).testBit k=true->listed.getD k true=true)->
  (∀σ∈A,σ∈ords/\pl call sg N b σ cF listed c)->kP b k (A.map fun σ=>fc (un σ listed))=true->M C N c a w->wpAny P .any ops Q fuel listed a w:=by
 classical
 have hd2:∀(listed:Array Bool),listed.size=ops.size->∀k,k<ops.size->listed.getD k false=listed.getD k true:=by intro listed hs k hk;simp[jU,hs,hk]
 have done:∀(listed:Array Bool)(c:CSt)(a:Act)(w:World)(A:List (List FI))(k:Nat),un its listed=[]->(∀σ∈A,σ∈ords/\pl call sg N b σ cF listed c)->kP b k (A.map fun σ=>fc (un σ listed))=true->M C N c a w->Region.ready .any ops listed=[]/\Q .normal a w:=by
  intro listed c a w A k h0 hA' hcov hM;constructor
  ·rw[List.eq_nil_iff_forall_not_mem]
   intro j hj;obtain⟨h1,o,h2,h3⟩:=mem_ready.1 hj;have hj':j<ops.size:=(dl.1 h2).1;obtain⟨it,hit,rfl⟩:=I.ex j hj';have:it∈un its listed:=cN.2 ⟨hit,h1⟩;rw[h0]at this;cases this
  ·cases A with
   |nil=>cases k<;>simp[kP]at hcov
   |cons σ A=>
    obtain⟨hσ,hS⟩:=hA' σ (aD ..)
    have h0':un σ listed=[]:=by rw[List.eq_nil_iff_forall_not_mem];intro f hf;obtain⟨h1,h2⟩:=cN.1 hf;have:f∈un its listed:=cN.2 ⟨((hO σ hσ).mem f).1 h1,h2⟩;rw[h0]at this;cases this
    obtain⟨pre,post,p,ps,e,hp,hrun,_,_,hpost,hA,_⟩:=hS.ex
    have hp0:post=[]:=by
     cases post with
     |nil=>rfl
     |cons f r=>have:f∈un σ listed:=cN.2 ⟨by rw[e];simp,hpost f (aD ..)⟩;rw[h0']at this;cases this
    subst hp0;simp only[eQ,an.injEq]at hrun;subst hrun;have hD:un pre listed=[]:=by rw[<-h0',e,bg]
    rw[hD]at hA;refine hQ a w ?_;obtain⟨x,s,hMo,hSi⟩:=hM;refine M.slots (c:=c) ⟨x,s,hMo,hSi⟩ ⟨hA.dom,by rw[<-hA.ob];exact hSi.inv.so,by rw[<-hA.ob];exact hSi.inv.wf⟩ hA.ob.symm hA.tk.symm (fun i=> .inl (hA.get i (by simp)).symm)
 intro fuel;induction fuel with
 |zero=>intro listed c a w A k hf hs hcl hS hcov hM;exact done listed c a w A k (dR.1 (by omega)) hS hcov hM
 |succ fuel ih=>
  intro listed c a w A k hf hs hcl hS hcov hM;constructor
  ·intro hnil
   by_cases h0:un its listed=[]
   ·exact(done listed c a w A k h0 hS hcov hM).2
   ·exfalso
    have hp:∃n,∃f∈un its listed,f.n=n:=by
     cases hc:un its listed with
     |nil=>exact absurd hc h0
     |cons f r=>exact⟨_,f,aD ..,rfl⟩
    obtain⟨n,⟨f,hfu,hfn⟩,hmin⟩:=Zt _ hp;obtain⟨h1,h2⟩:=cN.1 hfu;obtain⟨o,h3,_,h4⟩:=I.item f h1
    have:f.n∈Region.ready .any ops listed:=by refine mem_ready.2 ⟨h2,o,h3,fun e he hb=> ?_⟩;have hlt:=I.back f.n o h3 e he hb;rw[hd2 listed hs _ (by omega),<-Bool.not_eq_false];intro hfl;obtain⟨g,hg,hgn⟩:=I.ex e.on (by omega);have:=hmin e.on ⟨g,cN.2 ⟨hg,by rw[hgn];exact hfl⟩,hgn⟩;omega
    rw[hnil]at this;cases this
  ·intro i hir
   obtain⟨h1,o,h2,h3⟩:=mem_ready.1 hir;have hi':i<ops.size:=(dl.1 h2).1;obtain⟨it,hit,rfl⟩:=I.ex i hi';obtain⟨o',ho',hres,_⟩:=I.item it hit;rw[h2]at ho';cases ho'
   have hdep:∀k,k<ops.size->(b.getD it.n 0).testBit k=true->listed.getD k true=true:=by
    intro k hk hb;obtain⟨e,he,hbd,hor⟩:=I.bit it.n o k h2 hk hb;have hon:=h3 e he hbd;have honlt:=I.back it.n o h2 e he hbd;rw[hd2 listed hs _ (by omega)]at hon;rcases hor with h|h
    ·rw[<-h];exact hon
    ·exact hcl e.on (ops[e.on]'(by omega)) k (by simp) hon hk h
   have hlen:(un its (listed.setIfInBounds it.n true)).length<(un its listed).length:=by rw[yh hs hi'];refine List.length_filter_lt_length_iff_exists.2 ⟨it,cN.2 ⟨hit,h1⟩,by simp⟩
   have hcl':∀(i:Nat)(o:Oper)(k:Nat),ops[i]? =some o->(listed.setIfInBounds it.n true).getD i true=true->k<ops.size->(b.getD i 0).testBit k=true->(listed.setIfInBounds it.n true).getD k true=true:=by
    intro i2 o2 k2' ho2 hl2 hk2 hb2;rw[gB (by omega)]at hl2 ⊢;split
    ·rfl
    ·split at hl2
     ·rename_i e1
      subst e1;exact hdep k2' hk2 hb2
     ·exact hcl i2 o2 k2' ho2 hl2 hk2 hb2
   have hsz:(listed.setIfInBounds it.n true).size=ops.size:=by simpa using hs
   obtain⟨σ0,A0,hA0⟩:∃σ A',A=σ::A':=by
    cases A with
    |nil=>cases k<;>simp[kP]at hcov
    |cons σ A'=>exact⟨σ,A',rfl⟩
   cases hq:it.q with
   |true=>
    obtain⟨hσ0,hS0⟩:=hS σ0 (by rw[hA0];exact aD ..);obtain⟨v,hv,_⟩:=Aq hs I (hO σ0 hσ0) hS0 hit h1 hq hdep;refine gg hcal hM (I.ok it hit) h2 hres (ol (call:=call) (sg:=sg) hv) fun a' w' hM'=> ?_
    refine ih _ _ a' w' A k (by omega) hsz hcl' (fun σ hσ=>⟨(hS σ hσ).1, ?_⟩) ?_ hM'
    ·obtain⟨v',hv',hS'⟩:=Aq hs I (hO σ (hS σ hσ).1) (hS σ hσ).2 hit h1 hq hdep
     rw[hv]at hv';injection hv' with e;subst e
     exact hS'
    ·have:(A.map fun σ=>fc (un σ (listed.setIfInBounds it.n true)))=A.map fun σ=>fc (un σ listed):=by
      apply List.map_congr_left;intro σ hσ;rw[yh hs hi',kb,iv];intro x hx;obtain⟨f,hf,hfq,rfl⟩:=pC.1 hx;have hfi:=((hO σ (hS σ hσ).1).mem f).1 (cN.1 hf).1;have:¬f.n=it.n:=fun e=>by rw[I.inj f hfi it hit e,hq]at hfq;cases hfq
      simp[this]
     rw[this];exact hcov
   |false=>
    have hmemR:∀σ∈A,it.n∈fc (un σ listed):=fun σ hσ=>pC.2 ⟨it,cN.2 ⟨((hO σ (hS σ hσ).1).mem it).2 hit,h1⟩,hq,rfl⟩
    obtain⟨k',hk'⟩:=Gl (g:=it.n) hcov (fun l hl=>by
     rw[hA0]at hl;simp only[aC,List.head?_cons,an.injEq]at hl;rw[<-hl];exact hmemR σ0 (by rw[hA0];exact aD ..)) (fun l hl y hy hne=>by
     rw[hA0]at hl;simp only[aC,List.head?_cons,an.injEq]at hl;rw[<-hl]at hy;obtain⟨f,hf,hfq,rfl⟩:=pC.1 hy;obtain⟨hf1,hf2⟩:=cN.1 hf;have hfi:=((hO σ0 (hS σ0 (by rw[hA0];exact aD ..)).1).mem f).1 hf1;obtain⟨_,_,_,hlt⟩:=I.item f hfi;rw[<-Bool.not_eq_true];intro hb;rw[hdep f.n hlt hb]at hf2;cases hf2)
    rw[<-rZ (R:=fun σ=>fc (un σ listed)) (R':=fun σ=>fc (un σ (listed.setIfInBounds it.n true))) (fun σ hσ r hR=>by
     show fc (un σ (listed.setIfInBounds it.n true))=r;rw[yh hs hi',kb];have hR':fc (un σ listed)=it.n::r:=hR;rw[hR',kR];simp only[decide_true,Bool.not_true,aK,if_false];rw[iv];intro y hy
     have hnd:(fc (un σ listed)).Nodup:=by
      have h5:=(hO σ (hS σ hσ).1).nd
      have h6:(fc (un σ listed)).Sublist (σ.map FI.n):=by
       have h7:(fc (un σ listed)).Sublist ((un σ listed).map FI.n):=by
        unfold fc;rw[show(fun f:FI=>if f.q=true then none else some f.n)=fun f:FI=>if f.q=true then none else some (FI.n f)from rfl];generalize un σ listed=l;induction l with
        |nil=>exact nj.slnil
        |cons f r ih=>
         rw[List.filterMap_cons,aC];cases hq:f.q with
         |true=>exact nj.cons _ ih
         |false=>exact nj.cons_cons _ ih
       exact h7.trans (nj.map _ List.filter_sublist)
      exact h5.sublist h6
     rw[hR']at hnd;have:y≠it.n:=fun e=>by rw[e]at hy;exact(dC.1 hnd).1 hy
     simp[this])]at hk'
    obtain⟨σ1,hσ1⟩:∃σ,σ∈A.filter fun σ=>decide ((fc (un σ listed)).head? =some it.n):=by
     cases hX:A.filter fun σ=>decide ((fc (un σ listed)).head? =some it.n)with
     |nil=>rw[hX]at hk';cases k'<;>simp[kP]at hk'
     |cons σ _=>exact⟨σ,aD ..⟩
    obtain⟨h4,h5⟩:=List.mem_filter.1 hσ1;obtain⟨c1,hc1,_⟩:=Ar hs I (hO σ1 (hS σ1 h4).1) (hS σ1 h4).2 hit h1 hq hdep (of_decide_eq_true h5);refine gg hcal hM (I.ok it hit) h2 hres hc1 fun a' w' hM'=> ?_
    refine ih _ _ a' w' _ k' (by omega) hsz hcl' (fun σ hσ=> ?_) hk' hM';obtain⟨h6,h7⟩:=List.mem_filter.1 hσ;obtain⟨c2,hc2,hS2⟩:=Ar hs I (hO σ (hS σ h6).1) (hS σ h6).2 hit h1 hq hdep (of_decide_eq_true h7);rw[hc1]at hc2;injection hc2 with e;subst e
    exact⟨(hS σ h6).1,hS2⟩
theorem RE(hl:jw (fQ P ops) ops.toList=some (unF its))(hd:drawn ops (unF its)=true)(hok:∀f∈its,f.i.ok N=true)(hfq:RW (Region.before ops).toList its=true)
 (hnd:(its.map FI.n).Nodup) (hlt:∀f∈its,f.n<its.length) (hcov:∀j∈bE its.length,(its.map FI.n).contains j=true):
 Oe P N ops its (Region.before ops).toList/\(∀f∈its,∀g∈its,f.n≠g.n->∀d,f.i.dst=some d->g.i.dst≠some d)/\its.length=ops.size:=by
 simp only[RW,aR,eH,dv]at hfq;obtain⟨hlen,hget⟩:=eE hl;have hul:(unF its).length=its.length:=by simp[unF]
 have hsz:its.length=ops.size:=by rw[<-hul,hlen,aS]
 have hun:∀f∈its,(unF its).getD f.n ⟨none,none,.lenC 0⟩=f.i.er:=by intro f hf;have:=hlt f hf;rw[aa];simp only[unF,aQ,bV this,bo,aY];exact rN _ hnd hf
 simp only[drawn,aB,decide_eq_true_eq]at hd;obtain⟨⟨hc,ht⟩,hdst⟩:=hd
 have hitem:∀f∈its,∃o,ops[f.n]? =some o/\fQ P ops o=some f.i.er/\f.n<ops.size:=by
  intro f hf;have hfl:=hlt f hf;have hj2:f.n<ops.toList.length:=by rw[aS];omega
  refine⟨ops.toList[f.n],by rw[<-cI,ab hj2], ?_,by omega⟩;have h1:=hget f.n hj2 (by omega);rw[h1]
  congr 1
  have h2:=hun f hf;rwa[aa,ab (by omega),aY]at h2
 have hinj:∀f∈its,∀g∈its,f.n=g.n->f=g:=by
  intro f hf g hg e;have:its.Pairwise fun f g=>f.n≠g.n:=by rw[wB,gj]at hnd;exact hnd
  rw[od]at this;obtain⟨i,hi,rfl⟩:=List.mem_iff_getElem.1 hf;obtain⟨j,hj,rfl⟩:=List.mem_iff_getElem.1 hg;rcases Nat.lt_trichotomy i j with h|h|h
  ·exact absurd e (this i j hi hj h)
  ·subst h;rfl
  ·exact absurd e.symm (this j i hj hi h)
 have hdd:∀f∈its,∀g∈its,f.n≠g.n->∀d,f.i.dst=some d->g.i.dst≠some d:=by
  have main:∀f∈its,∀g∈its,f.n<g.n->∀d,f.i.dst=some d->g.i.dst≠some d:=by
   intro f hf g hg hlt' d h1 h2
   have hpl:(unF its).Pairwise fun u v=>∀d,u.dst=some d->v.dst≠some d:=by rw[wB,List.pairwise_filterMap]at hdst;refine hdst.imp ?_;intro u v huv d hu hv;exact huv d hu d hv rfl
   rw[od]at hpl;have hf':=hlt f hf;have hg':=hlt g hg
   have g1:(unF its)[f.n]'(by omega)=f.i.er:=by have:=hun f hf;rwa[aa,ab (by omega),aY]at this
   have g2:(unF its)[g.n]'(by omega)=g.i.er:=by have:=hun g hg;rwa[aa,ab (by omega),aY]at this
   exact hpl f.n g.n (by omega) (by omega) hlt' d (by rw[g1];exact h1) (by rw[g2];exact h2)
  intro f hf g hg hne d h1 h2;rcases bY f.n g.n with h|h
  ·exact main f hf g hg h d h1 h2
  ·exact main g hg f hf (by omega) d h2 h1
 have hclosed:∀(i:Nat)(o:Oper),ops[i]? =some o->(∀e∈o.after,Region.binds .any e=true->e.on<i)/\
  ∀k,k<ops.size->((Region.before ops).toList.getD i 0).testBit k=true->∃e∈o.after,Region.binds .any e=true/\(e.on=k\/((Region.before ops).toList.getD e.on 0).testBit k=true):=by
  intro i o ho;unfold pQ at hc;rw[aR]at hc;have hi:i<ops.size:=(dl.1 ho).1
  have h1:=hc (o,i) (by rw[List.mem_zipIdx_iff_getElem?];simpa using ho)
  simp only[aB,Array.all_eq_true_iff_forall_mem,aR,eH,dv,decide_eq_true_eq]at h1;refine⟨fun e he hb=>(h1.1 e he).resolve_left (by simp[hb]),fun k hk hb=> ?_⟩;have h2:=(h1.2 k (dy.2 hk)).resolve_left (by simp only[hb];simp);obtain⟨_,h3⟩:=h2;rw[<-Array.any_toList,List.any_eq_true]at h3;obtain⟨e,he,h4⟩:=h3;rw[Array.mem_toList_iff]at he;simp only[aB,eH,beq_iff_eq]at h4;exact⟨e,he,h4.1,h4.2⟩
 have hq:∀q∈its,q.q=true->∃d,q.i.dst=some d/\∀p∈its,d∈p.i.rds->((Region.before ops).toList.getD p.n 0).testBit q.n=true/\p.n≠q.n:=by
  intro q hq hqq;have h1:=(hfq q hq).resolve_left (by rw[hqq];simp);cases hd:q.i.dst with
  |none=>rw[hd]at h1;cases h1
  |some d=>
   rw[hd]at h1;simp only[aR,eH,dv,aB,decide_eq_true_eq,m9]at h1;refine⟨d,rfl,fun p hp hr=> ?_⟩;rcases h1 p hp with h2|h2
   ·rw[eG]at h2;simp only[decide_eq_false_iff_not]at h2;exact absurd hr h2
   ·exact h2
 have hself:∀f∈its,x5 f:=by intro f hf hfq;obtain⟨d,hd,h1⟩:=hq f hf hfq;exact⟨d,hd,fun h=>(h1 f hf h).2 rfl⟩
 have hrd:∀q∈its,q.q=true->∀p∈its,∀d,q.i.dst=some d->d∈p.i.rds->((Region.before ops).toList.getD p.n 0).testBit q.n=true:=by intro q hq' hqq p hp d hd hr;obtain⟨d',hd',h1⟩:=hq q hq' hqq;rw[hd']at hd;cases hd;exact(h1 p hp hr).1
 refine⟨⟨hitem,fun j hj=> ?_,hinj,fun i o ho=>(hclosed i o ho).1,fun i o k ho hk hb=>(hclosed i o ho).2 k hk hb,hok,hself,hrd⟩,hdd,hsz⟩;have:=hcov j (dy.2 (by omega));rw[eG]at this;simp only[decide_eq_true_eq]at this;obtain⟨f,hf,e⟩:=aT.1 this;exact⟨f,hf,e⟩
theorem mF{l:List FI}(h:(l.map FI.n).Nodup){f:FI}(hf:f∈l):ur l f.n=f:=by
 induction l with
 |nil=>cases hf
 |cons g r ih=>
  simp only[aC,dC]at h;simp only[ur];rcases av.1 hf with rfl|hf
  ·rw[if_pos rfl]
  ·rw[if_neg,ih h.2 hf]
   intro e;apply h.1;rw[e];exact iu hf
theorem vB{l:List FI}{f:FI}:∀{p:List Nat},f∈iG l p↔∃k∈p,ur l k=f
 |[]=>by simp[iG]
 |k::r=>by
  simp only[iG,av,vB (p:=r)];constructor
  ·rintro(h|⟨j,hj,h⟩)
   ·exact⟨k,.inl rfl,h.symm⟩
   ·exact⟨j,.inr hj,h⟩
  ·rintro⟨j,rfl|hj,h⟩
   ·exact .inl h.symm
   ·exact .inr ⟨j,hj,h⟩
theorem vC{l:List FI}(h:(l.map FI.n).Nodup):∀{p:List Nat},(∀k∈p,k∈l.map FI.n)->(iG l p).map FI.n=p
 |[],_=>rfl
 |k::r,hp=>by simp only[iG,aC];rw[vC h (p:=r) fun j hj=>hp j (ao _ hj)];obtain⟨f,hf,e⟩:=aT.1 (hp k (aD ..));rw[<-e,mF h hf]
theorem CU{s:Nat}(l:List FI):xe b (some s) l=true->∀g∈l,g.q=true->(b.getD g.n 0).testBit s=true\/∃h∈l,(b.getD g.n 0).testBit h.n=true:=by
 induction l generalizing s with
 |nil=>intro _ g hg;cases hg
 |cons f r ih=>
  intro h g hg hq;simp only[xe]at h;split at h
  ·simp only[aB,m9]at h
   rcases av.1 hg with rfl|hg
   ·exact .inl h.1
   ·rcases ih h.2 g hg hq with h1|⟨k,hk,h1⟩
    ·exact .inl h1
    ·exact .inr ⟨k,ao _ hk,h1⟩
  ·rename_i hf
   rcases av.1 hg with rfl|hg
   ·exact absurd hq hf
   ·rcases ih h g hg hq with h1|⟨k,hk,h1⟩
    ·exact .inr ⟨f,aD ..,h1⟩
    ·exact .inr ⟨k,ao _ hk,h1⟩
theorem sI:∀{pre:List FI}{s:Option Nat}{f:FI}{r:List FI},xe b s (pre++f::r)=true->f.q=false->xe b (some f.n) r=true
 |[],s,f,r,h,hf=>by simp only[az,xe,hf,aK,if_false]at h;exact h
 |g::pre,s,f,r,h,hf=>by
  simp only[aU,xe]at h;split at h
  ·rw[aB]at h;exact sI h.2 hf
  ·exact sI h hf
theorem mX:∀{l:List FI},ut b l=true->l.Pairwise fun p q=>(b.getD p.n 0).testBit q.n=false
 |[],_=>ge.nil
 |p::r,h=>by simp only[ut,aB,aR]at h;refine cC.2 ⟨fun q hq=> ?_,mX h.2⟩;have:=h.1 q hq;simpa only[dv,m9]using this
theorem wz{l:List FI}:∀{ps:List (List Nat)},i9 call sg b l ps c=some cF->∀p∈ps,eQ call sg b (iG l p) [] c=some cF
 |[],h,p,hp=>by cases hp
 |[q],h,p,hp=>by rw[bf.1 hp];exact h
 |q::q'::r,h,p,hp=>by
  simp only[i9]at h;cases h1:eQ call sg b (iG l q) [] c with
  |none=>rw[h1]at h;simp[nJ]at h
  |some y=>
   cases h2:i9 call sg b l (q'::r) c with
   |none=>rw[h1,h2]at h;simp[nJ]at h
   |some z=>
    rw[h1,h2]at h;obtain⟨e1,e2⟩:=pJ h;rcases av.1 hp with rfl|hp
    ·rw[h1,e2]
    ·exact wz (h2.trans (by rw[<-e1,e2])) p hp
theorem Dr(hcal:fW P call){id:Nat}(hl:jw (fQ P ops) ops.toList=some (unF its))(hd:drawn ops (unF its)=true)(hm:P.follows .mixedOrders=true)
 (hok:its.all (fun f=>f.i.ok N)=true) {ps:List (List Nat)} (halt:Pn (Region.before ops).toList its ps=true) {Q:Exit->Act->World->Prop} (hQ:∀a w,M C N cF a w->Q .normal a w) (hM:M C N c a w)
 (h:i9 call sg (Region.before ops).toList its ps c=some cF):(Code.region id ops true).wp P Q a w:=by
 simp only[Pn,aB,decide_eq_true_eq]at halt;obtain⟨⟨⟨⟨⟨hfq,hnd⟩,hlt⟩,hcov⟩,hps⟩,hc⟩:=halt;rw[aR]at hok hlt hcov hps;obtain⟨I,hdd,hsz⟩:=RE hl hd hok hfq hnd (fun f hf=>of_decide_eq_true (hlt f hf)) hcov
 have hO:∀σ∈ps.map (iG its),S3 its (Region.before ops).toList σ:=by
  intro σ hσ;obtain⟨p,hp,rfl⟩:=aT.1 hσ;have h1:=hps p hp;simp only[aB,decide_eq_true_eq,aR,eG]at h1;obtain⟨⟨⟨⟨hpn,hpi⟩,hip⟩,hseg⟩,hpairs⟩:=h1;have hmap:=vC hnd hpi
  have hmem:∀f,f∈iG its p↔f∈its:=by
   intro f;rw[vB];constructor
   ·rintro⟨k,hk,rfl⟩
    obtain⟨g,hg,rfl⟩:=aT.1 (hpi k hk);rw[mF hnd hg];exact hg
   ·intro hf
    exact⟨f.n,hip f.n (iu hf),mF hnd hf⟩
  have hnd':((iG its p).map FI.n).Nodup:=by rw[hmap];exact hpn
  refine⟨hmem,hnd', ?_,fun pre f r e hf g hg hq=> ?_⟩
  ·have h1:(iG its p).Pairwise fun f g=>f.n≠g.n:=by rw[wB,gj]at hnd';exact hnd'
   refine((mX hpairs).and h1).imp_of_mem ?_;rintro u v hu hv ⟨h2,h3⟩ hqq d hd';have hu':=(hmem u).1 hu;have hv':=(hmem v).1 hv;refine⟨fun hr=> ?_,fun e=>hdd u hu' v hv' h3 d e hd'⟩;rw[I.rd v hv' hqq u hu' d hd' hr]at h2;cases h2
  ·rw[e]at hseg
   rcases CU _ (sI hseg hf) g hg hq with h1|⟨k,hk,h1⟩
   ·exact⟨f,aD ..,h1⟩
   ·exact⟨k,ao _ hk,h1⟩
 have hfalse:∀f∈its,(dP ops.size false).getD f.n true=false:=by intro f hf;obtain⟨_,_,_,this⟩:=I.item f hf;simp[jU,this]
 refine wp_region_any hm ?_;refine Gw (its:=its) (b:=(Region.before ops).toList) (cF:=cF) (sg:=sg) (ords:=ps.map (iG its)) hcal I hO hQ ops.size _ c a _ (ps.map (iG its)) its.length ?_ (by simp) ?_ (fun σ hσ=>⟨hσ, ?_⟩) ?_ ?_
 ·have:(un its (dP ops.size false)).length<=its.length:=List.length_filter_le _ _
  omega
 ·intro i o k ho hl _ _
  have hi:i<ops.size:=(dl.1 ho).1;simp[jU,hi]at hl
 ·have O:=hO σ hσ
  obtain⟨p,hp,rfl⟩:=aT.1 hσ;have hrun:=wz h p hp;obtain⟨seg,post,p2,ps2,k1,k2,k3,k4,k5,k6,k7⟩:=mB (N:=N) (D:=[]) (V:=[]) hrun ⟨fun _ _=>rfl,rfl,rfl,by obtain⟨x,s,_,hS⟩:=hM;exact hS.inv.dom⟩ (fun f hf=>I.ok f ((O.mem f).1 hf)) (fun f hf=>I.self f ((O.mem f).1 hf)) O.nx (by simp) (by simp) (by simp)
  have hunf:un seg (dP ops.size false)=seg:=by apply iv.2;intro f hf;rw[hfalse f ((O.mem f).1 (by rw[k1];exact al.2 (.inl hf)))];rfl
  refine⟨seg,post,p2,ps2,k1,k3,k4,fun f hf _=>k5 f (.inr hf),(fun f hf hq=>by rw[k2 f hf]at hq;cases hq),fun f hf=>hfalse f ((O.mem f).1 (by rw[k1];exact al.2 (.inr hf))), ?_, ?_⟩
  ·rw[hunf];simpa using k6
  ·rw[hunf];intro f hf;exact k7 f (.inr hf)
 ·rw[List.map_map]
  have:(ps.map ((fun σ=>fc (un σ (dP ops.size false)))∘iG its))=ps.map fun p=>fc (iG its p):=by
   apply List.map_congr_left;intro p hp;show fc (un (iG its p) _)=_
   congr 1
   apply iv.2;intro f hf;rw[hfalse f (((hO _ (iu hp)).mem f).1 hf)];rfl
  rw[this];exact hc
 ·obtain⟨x,s,hMo,hS⟩:=hM
  exact⟨x,s,⟨hMo.tm,hMo.defers,hMo.heap.drawn _⟩,hS⟩
end Go.Sy
namespace Go.Sy
variable [aZ]
variable {P : Program} {C : Ctx} {x : Sit} {a : Act} {w : World} {N : Nat} {c c' : CSt} {s : St} {T : fH}
def Ex.out:Ex->Exit
 | .n=> .normal
 | .x id=> .exit id
 | .r=> .ret
def EQ(C:Ctx)(N:Nat)(e:Ex)(c':CSt):Exit->Act->World->Prop:=fun e' a w=>e'=e.out/\M C N c' a w
def uA(P:Program)(T:fH)(n:Nat):Prop:=
 (∀(r:RC)(c:CSt)(e:Ex)(c':CSt),fy T n r c=some (e,c')->∀(code:Code)(C:Ctx)(N:Nat)(a:Act)(w:World),cj P code=r.er->r.ok N=true->M C N c a w->code.wp P (EQ C N e c') a w)/\
 (∀(b:RC)(c:CSt)(e:Ex)(c':CSt),fy T n (.loop b) c=some (e,c')->∀(code:Code)(C:Ctx)(N:Nat)(a:Act)(w:World),cj P code=b.er->b.ok N=true->M C N c a w->Code.rounds P code (EQ C N e c') n a w)
theorem R8{code:Code}{b:fV}(h:aX P code=some (.loop b)):∃b',code= .loop b'/\aX P b'=some b:=by
 cases code with
 |loop b'=>simp only[aX]at h;obtain⟨sb,hb,he⟩:=ae.1 h;cases he;exact⟨b',rfl,hb⟩
 |region id ops draw=>
  simp only[aX]at h;split at h<;>try (cases h;done)
  split at h
  ·rw[aJ]at h;cases h.2
  ·cases h
 |seq y z=>simp only[aX]at h;split at h<;>cases h
 |cond c y z=>simp only[aX]at h;split at h<;>cases h
 |block id b=>simp only[aX]at h;obtain⟨_,_,h⟩:=ae.1 h;cases h
 |_=>simp[aX]at h
theorem Ga{code:Code}{id:Nat}{b:fV}(h:aX P code=some (.block id b)):∃b',code= .block id b'/\aX P b'=some b:=by
 cases code with
 |block id b'=>simp only[aX]at h;obtain⟨sb,hb,he⟩:=ae.1 h;cases he;exact⟨b',rfl,hb⟩
 |region id ops draw=>
  simp only[aX]at h;split at h<;>try (cases h;done)
  split at h
  ·rw[aJ]at h;cases h.2
  ·cases h
 |seq y z=>simp only[aX]at h;split at h<;>cases h
 |cond c y z=>simp only[aX]at h;split at h<;>cases h
 |loop b=>simp only[aX]at h;obtain⟨_,_,h⟩:=ae.1 h;cases h
 |_=>simp[aX]at h
theorem xeO{code:Code}{y z:fV}(h:aX P code=some (.seq y z)):∃y' z',code= .seq y' z'/\aX P y'=some y/\aX P z'=some z:=by
 cases code with
 |seq y' z'=>
  simp only[aX]at h;split at h<;>try (cases h;done)
  rename_i sy sz hy hz;cases h;exact⟨y',z',rfl,hy,hz⟩
 |region id ops draw=>
  simp only[aX]at h;split at h<;>try (cases h;done)
  split at h
  ·rw[aJ]at h;cases h.2
  ·cases h
 |cond c y z=>simp only[aX]at h;split at h<;>cases h
 |block id b=>simp only[aX]at h;obtain⟨_,_,h⟩:=ae.1 h;cases h
 |loop b=>simp only[aX]at h;obtain⟨_,_,h⟩:=ae.1 h;cases h
 |_=>simp[aX]at h
theorem Sa{code:Code}{k:Arg}{y z:fV}(h:aX P code=some (.cond k y z)):∃k' y' z',code= .cond k' y' z'/\bq P 0 k'=some k/\aX P y'=some y/\aX P z'=some z:=by
 cases code with
 |cond k' y' z'=>
  simp only[aX]at h;split at h<;>try (cases h;done)
  rename_i sc sy sz hcc hy hz;cases h;exact⟨k',y',z',rfl,hcc,hy,hz⟩
 |region id ops draw=>
  simp only[aX]at h;split at h<;>try (cases h;done)
  split at h
  ·rw[aJ]at h;cases h.2
  ·cases h
 |seq y z=>simp only[aX]at h;split at h<;>cases h
 |block id b=>simp only[aX]at h;obtain⟨_,_,h⟩:=ae.1 h;cases h
 |loop b=>simp only[aX]at h;obtain⟨_,_,h⟩:=ae.1 h;cases h
 |_=>simp[aX]at h
theorem xeQ{code:Code}{l:List SI}(h:aX P code=some (.ops l)):∃id ops,code= .region id ops false/\jw (fQ P ops) ops.toList=some l:=by
 cases code with
 |region id ops draw=>
  simp only[aX]at h;split at h<;>try (cases h;done)
  rename_i l' hl;cases draw with
  |false=>simp only[aK,if_false,an.injEq,fV.ops.injEq]at h;subst h;exact⟨id,ops,rfl,hl⟩
  |true=>simp only[if_true]at h;rw[aJ]at h;cases h.2
 |seq y z=>simp only[aX]at h;split at h<;>cases h
 |cond c y z=>simp only[aX]at h;split at h<;>cases h
 |block id b=>simp only[aX]at h;obtain⟨_,_,h⟩:=ae.1 h;cases h
 |loop b=>simp only[aX]at h;obtain⟨_,_,h⟩:=ae.1 h;cases h
 |_=>simp[aX]at h
theorem N3{code:Code}{b ds:List Nat}{l:List SI}(h:aX P code=some (.drw b ds l)):∃id ops,code= .region id ops true/\jw (fQ P ops) ops.toList=some l/\drawn ops l=true/\P.follows .mixedOrders=true/\b=(Region.before ops).toList/\ds=xmm l:=by
 cases code with
 |region id ops draw=>
  simp only[aX]at h;split at h<;>try (cases h;done)
  rename_i l' hl;cases draw with
  |false=>simp only[aK,if_false,an.injEq,reduceCtorEq]at h
  |true=>simp only[if_true]at h;rw[aJ]at h;obtain⟨hc,h⟩:=h;simp only[an.injEq,fV.drw.injEq]at h;obtain⟨rfl,rfl,rfl⟩:=h;rw[aB]at hc;exact⟨id,ops,rfl,hl,hc.1,hc.2,rfl,rfl⟩
 |seq y z=>simp only[aX]at h;split at h<;>cases h
 |cond c y z=>simp only[aX]at h;split at h<;>cases h
 |block id b=>simp only[aX]at h;obtain⟨_,_,h⟩:=ae.1 h;cases h
 |loop b=>simp only[aX]at h;obtain⟨_,_,h⟩:=ae.1 h;cases h
 |_=>simp[aX]at h
theorem R7{code:Code}(h:aX P code=some .skip):code= .skip:=by
 cases code with
 |skip=>rfl
 |region id ops draw=>
  simp only[aX]at h;split at h<;>try (cases h;done)
  split at h
  ·rw[aJ]at h;cases h.2
  ·cases h
 |seq y z=>simp only[aX]at h;split at h<;>cases h
 |cond c y z=>simp only[aX]at h;split at h<;>cases h
 |block id b=>simp only[aX]at h;obtain⟨_,_,h⟩:=ae.1 h;cases h
 |loop b=>simp only[aX]at h;obtain⟨_,_,h⟩:=ae.1 h;cases h
 |_=>simp[aX]at h
theorem xeP{code:Code}(h:aX P code=some .ret):code= .ret:=by
 cases code with
 |ret=>rfl
 |region id ops draw=>
  simp only[aX]at h;split at h<;>try (cases h;done)
  split at h
  ·rw[aJ]at h;cases h.2
  ·cases h
 |seq y z=>simp only[aX]at h;split at h<;>cases h
 |cond c y z=>simp only[aX]at h;split at h<;>cases h
 |block id b=>simp only[aX]at h;obtain⟨_,_,h⟩:=ae.1 h;cases h
 |loop b=>simp only[aX]at h;obtain⟨_,_,h⟩:=ae.1 h;cases h
 |_=>simp[aX]at h
theorem R9{code:Code}{id:Nat}(h:aX P code=some (.exit id)):code= .exit id:=by
 cases code with
 |exit id'=>simp only[aX,an.injEq,fV.exit.injEq]at h;rw[h]
 |region id ops draw=>
  simp only[aX]at h;split at h<;>try (cases h;done)
  split at h
  ·rw[aJ]at h;cases h.2
  ·cases h
 |seq y z=>simp only[aX]at h;split at h<;>cases h
 |cond c y z=>simp only[aX]at h;split at h<;>cases h
 |block id b=>simp only[aX]at h;obtain⟨_,_,h⟩:=ae.1 h;cases h
 |loop b=>simp only[aX]at h;obtain⟨_,_,h⟩:=ae.1 h;cases h
 |_=>simp[aX]at h
theorem eN{id:Nat}{ops:Array Oper}{draw:Bool}{s:fV}(h:cj P (.region id ops draw)=s)(hs:s≠ .bad):aX P (.region id ops draw)=some s:=by
 rw[cj]at h;split at h
 ·rename_i s' h';rw[<-h];exact h'
 ·exact absurd h.symm hs
theorem im{k:Operand}{y z:Code}{s:fV}(h:cj P (.cond k y z)=s)(hs:s≠ .bad):∃a,bq P 0 k=some a/\s= .cond a (cj P y) (cj P z):=by
 rw[cj]at h;split at h
 ·rename_i a ha;exact⟨a,ha,h.symm⟩
 ·exact absurd h.symm hs
theorem Sj{code:Code}{b:fV}(h:cj P code= .loop b):∃b',code= .loop b'/\cj P b'=b:=by
 cases code with
 |loop b'=>rw[cj]at h;cases h;exact⟨b',rfl,rfl⟩
 |region id ops draw=>have h1:=eN h (by simp);have h2:=R8 h1;simp at h2
 |seq y z=>rw[cj]at h;cases h
 |cond k y z=>obtain⟨a,_,h2⟩:=im h (by simp);cases h2
 |block id b=>rw[cj]at h;cases h
 |skip=>rw[cj]at h;cases h
 |exit id=>rw[cj]at h;cases h
 |ret=>rw[cj]at h;cases h
 |_=>simp[cj]at h
theorem Gg{code:Code}{id:Nat}{b:fV}(h:cj P code= .block id b):∃b',code= .block id b'/\cj P b'=b:=by
 cases code with
 |block id b'=>rw[cj]at h;cases h;exact⟨b',rfl,rfl⟩
 |region id ops draw=>have h1:=eN h (by simp);have h2:=Ga h1;simp at h2
 |seq y z=>rw[cj]at h;cases h
 |cond k y z=>obtain⟨a,_,h2⟩:=im h (by simp);cases h2
 |loop b=>rw[cj]at h;cases h
 |skip=>rw[cj]at h;cases h
 |exit id=>rw[cj]at h;cases h
 |ret=>rw[cj]at h;cases h
 |_=>simp[cj]at h
theorem xeR{code:Code}{y z:fV}(h:cj P code= .seq y z):∃y' z',code= .seq y' z'/\cj P y'=y/\cj P z'=z:=by
 cases code with
 |seq y' z'=>rw[cj]at h;cases h;exact⟨y',z',rfl,rfl,rfl⟩
 |region id ops draw=>have h1:=eN h (by simp);have h2:=xeO h1;simp at h2
 |cond k y z=>obtain⟨a,_,h2⟩:=im h (by simp);cases h2
 |block id b=>rw[cj]at h;cases h
 |loop b=>rw[cj]at h;cases h
 |skip=>rw[cj]at h;cases h
 |exit id=>rw[cj]at h;cases h
 |ret=>rw[cj]at h;cases h
 |_=>simp[cj]at h
theorem xeU{code:Code}{k:Arg}{y z:fV}(h:cj P code= .cond k y z):∃k' y' z',code= .cond k' y' z'/\bq P 0 k'=some k/\cj P y'=y/\cj P z'=z:=by
 cases code with
 |cond k' y' z'=>obtain⟨a,h1,h2⟩:=im h (by simp);cases h2;exact⟨k',y',z',rfl,h1,rfl,rfl⟩
 |region id ops draw=>have h1:=eN h (by simp);have h2:=Sa h1;simp at h2
 |seq y z=>rw[cj]at h;cases h
 |block id b=>rw[cj]at h;cases h
 |loop b=>rw[cj]at h;cases h
 |skip=>rw[cj]at h;cases h
 |exit id=>rw[cj]at h;cases h
 |ret=>rw[cj]at h;cases h
 |_=>simp[cj]at h
theorem Sh{code:Code}(h:cj P code= .skip):code= .skip:=by
 cases code with
 |skip=>rfl
 |region id ops draw=>have h1:=eN h (by simp);have h2:=R7 h1;simp at h2
 |seq y z=>rw[cj]at h;cases h
 |cond k y z=>obtain⟨a,_,h2⟩:=im h (by simp);cases h2
 |block id b=>rw[cj]at h;cases h
 |loop b=>rw[cj]at h;cases h
 |exit id=>rw[cj]at h;cases h
 |ret=>rw[cj]at h;cases h
 |_=>simp[cj]at h
theorem xeS{code:Code}(h:cj P code= .ret):code= .ret:=by
 cases code with
 |ret=>rfl
 |region id ops draw=>have h1:=eN h (by simp);have h2:=xeP h1;simp at h2
 |seq y z=>rw[cj]at h;cases h
 |cond k y z=>obtain⟨a,_,h2⟩:=im h (by simp);cases h2
 |block id b=>rw[cj]at h;cases h
 |loop b=>rw[cj]at h;cases h
 |skip=>rw[cj]at h;cases h
 |exit id=>rw[cj]at h;cases h
 |_=>simp[cj]at h
theorem Sk{code:Code}{id:Nat}(h:cj P code= .exit id):code= .exit id:=by
 cases code with
 |exit id'=>rw[cj]at h;cases h;rfl
 |region id ops draw=>have h1:=eN h (by simp);have h2:=R9 h1;simp at h2
 |seq y z=>rw[cj]at h;cases h
 |cond k y z=>obtain⟨a,_,h2⟩:=im h (by simp);cases h2
 |block id b=>rw[cj]at h;cases h
 |loop b=>rw[cj]at h;cases h
 |skip=>rw[cj]at h;cases h
 |ret=>rw[cj]at h;cases h
 |_=>simp[cj]at h
theorem xeT{code:Code}{l:List SI}(h:cj P code= .ops l):aX P code=some (.ops l):=by
 cases code with
 |region id ops draw=>exact eN h (by simp)
 |seq y z=>rw[cj]at h;cases h
 |cond k y z=>obtain⟨a,_,h2⟩:=im h (by simp);cases h2
 |block id b=>rw[cj]at h;cases h
 |loop b=>rw[cj]at h;cases h
 |skip=>rw[cj]at h;cases h
 |exit id=>rw[cj]at h;cases h
 |ret=>rw[cj]at h;cases h
 |_=>simp[cj]at h
theorem N4{code:Code}{b ds:List Nat}{l:List SI}(h:cj P code= .drw b ds l):aX P code=some (.drw b ds l):=by
 cases code with
 |region id ops draw=>exact eN h (by simp)
 |seq y z=>rw[cj]at h;cases h
 |cond k y z=>obtain⟨a,_,h2⟩:=im h (by simp);cases h2
 |block id b=>rw[cj]at h;cases h
 |loop b=>rw[cj]at h;cases h
 |skip=>rw[cj]at h;cases h
 |exit id=>rw[cj]at h;cases h
 |ret=>rw[cj]at h;cases h
 |_=>simp[cj]at h
theorem uG{n:Nat}(hR:uA P T n)(hcal:fW P (eB T n)){r:RC}{c:CSt}{e:Ex}{c':CSt}(h:dD (fy T n) (eB T n) T.sg r c=some (e,c'))(hl:∀b,r≠ .loop b){code:Code}{C:Ctx}{N:Nat}{a:Act}{w:World}
 (hr:cj P code=r.er) (hok:r.ok N=true) (hM:M C N c a w):code.wp P (EQ C N e c') a w:=by
 cases r with
 |skip=>
  cases h;have:=Sh (by simpa[RC.er]using hr);subst this;exact wp_skip ⟨rfl,hM⟩
 |ret=>
  cases h;have:=xeS (by simpa[RC.er]using hr);subst this;exact wp_ret ⟨rfl,hM⟩
 |exit id=>
  cases h;have:=Sk (by simpa[RC.er]using hr);subst this;exact wp_exit ⟨rfl,hM⟩
 |ops l=>
  obtain⟨id,ops,rfl,hl'⟩:=xeQ (xeT (by simpa[RC.er]using hr));simp only[dD]at h;cases hs:fz (eB T n) T.sg l c with
  |none=>rw[hs]at h;cases h
  |some c1=>rw[hs]at h;simp only[nrm,pF,an.injEq,bn.injEq]at h;obtain⟨rfl,rfl⟩:=h;refine wp_region ?_;rw[List.range_eq_range'];exact xA hcal hl' l ops.size 0 (by omega) (by simp) hok hM hs fun a w h=>⟨rfl,h⟩
 |flt b ds l dead=>
  obtain⟨id,ops,rfl,hl',hdr,hmo,rfl,rfl⟩:=N3 (N4 (by simpa[RC.er]using hr));simp only[RC.ok,aB]at hok;simp only[dD]at h;cases hs:eQ (eB T n) T.sg (Region.before ops).toList l [] c with
  |none=>rw[hs]at h;cases h
  |some c1=>rw[hs]at h;simp only[nrm,an.injEq,bn.injEq]at h;obtain⟨rfl,rfl⟩:=h;exact Dq hcal hl' hdr hmo hok.1 hok.2 (fun a w h=>⟨rfl,M.kill h dead⟩) hM hs
 |fla b ds l ps dead=>
  obtain⟨id,ops,rfl,hl',hdr,hmo,rfl,rfl⟩:=N3 (N4 (by simpa[RC.er]using hr));simp only[RC.ok,aB]at hok;simp only[dD]at h;cases hs:i9 (eB T n) T.sg (Region.before ops).toList l ps c with
  |none=>rw[hs]at h;cases h
  |some c1=>rw[hs]at h;simp only[nrm,an.injEq,bn.injEq]at h;obtain⟨rfl,rfl⟩:=h;exact Dr hcal hl' hdr hmo hok.1 hok.2 (fun a w h=>⟨rfl,M.kill h dead⟩) hM hs
 |seq y z=>
  obtain⟨y',z',rfl,hy,hz⟩:=xeR (by simpa[RC.er]using hr);simp only[RC.ok,aB]at hok;simp only[dD]at h;cases hs:fy T n y c with
  |none=>rw[hs]at h;cases h
  |some p=>
   obtain⟨e1,c1⟩:=p;rw[hs]at h;refine wp_seq (wp_mono (hR.1 _ _ _ _ hs y' C N a w hy hok.1 hM) ?_);rintro e' a' w' ⟨rfl,hM'⟩;cases e1 with
   |n=>exact hR.1 _ _ _ _ h z' C N a' w' hz hok.2 hM'
   |x id=>cases h;exact⟨rfl,hM'⟩
   |r=>cases h;exact⟨rfl,hM'⟩
 |cond k y z=>
  obtain⟨k',y',z',rfl,hk,hy,hz⟩:=xeU (by simpa[RC.er]using hr);simp only[RC.ok,aB]at hok;simp only[dD]at h;unfold cnd at h;split at h<;>try (cases h;done)
  rename_i t ht
  have hv:a.eval k'= .bool t:=by obtain⟨x,s,hMo,hS⟩:=hM;have hrep:=aL hMo hk;rw[hS.ev,ht]at hrep;exact hrep.bool_inv
  refine wp_cond_split hv (fun e=> ?_) (fun e=> ?_)
  ·subst e
   rw[if_pos rfl]at h;exact hR.1 _ _ _ _ h y' C N a w hy hok.1 hM
  ·subst e
   rw[if_neg (by simp)]at h;exact hR.1 _ _ _ _ h z' C N a w hz hok.2 hM
 |block id b=>
  obtain⟨b',rfl,hb⟩:=Gg (by simpa[RC.er]using hr);simp only[dD]at h;cases hs:fy T n b c with
  |none=>rw[hs]at h;cases h
  |some p=>
   obtain⟨e1,c1⟩:=p;rw[hs]at h;refine wp_block (wp_mono (hR.1 _ _ _ _ hs b' C N a w hb hok hM) ?_);rintro e' a' w' ⟨rfl,hM'⟩;cases e1 with
   |n=>cases h;exact⟨rfl,hM'⟩
   |r=>cases h;exact⟨rfl,hM'⟩
   |x id'=>
    simp only[blk]at h;simp only[Ex.out,Exit.inBlock];split at h<;>rename_i hid
    ·cases h;rw[if_pos hid];exact⟨rfl,hM'⟩
    ·cases h;rw[if_neg hid];exact⟨rfl,hM'⟩
 |loop b=>exact absurd rfl (hl b)
 |bad=>cases h
 |pre ds y=>
  simp only[dD]at h;cases hs:iD c ds with
  |none=>rw[hs]at h;cases h
  |some c1=>rw[hs]at h;exact hR.1 _ _ _ _ h code C N a w (by simpa[RC.er]using hr) hok (j0 hM hs)
 |post y ds=>
  simp only[dD]at h;cases hs:fy T n y c with
  |none=>rw[hs]at h;cases h
  |some p=>
   obtain⟨e1,c1⟩:=p;rw[hs]at h;refine wp_mono (hR.1 _ _ _ _ hs code C N a w (by simpa[RC.er]using hr) hok hM) ?_;rintro e' a' w' ⟨rfl,hM'⟩;cases e1 with
   |n=>
    simp only[psD]at h;split at h
    ·rename_i c2 h2;cases h;exact⟨rfl,j0 hM' h2⟩
    ·cases h
   |x id=>cases h;exact⟨rfl,hM'⟩
   |r=>cases h;exact⟨rfl,hM'⟩
theorem xh:uA P T 0:=⟨fun r c e c' h=>by simp[fy]at h,fun b c e c' h=>by simp[fy]at h⟩
theorem xj{n:Nat}(hR:uA P T n)(hcal:fW P (eB T n)):uA P T (n+1):=by
 have h2:∀(b:RC)(c:CSt)(e:Ex)(c':CSt),fy T (n+1) (.loop b) c=some (e,c')->∀(code:Code)(C:Ctx)(N:Nat)(a:Act)(w:World),cj P code=b.er->b.ok N=true->M C N c a w->Code.rounds P code (EQ C N e c') (n+1) a w:=by
  intro b c e c' h code C N a w hr hok hM;rw[fy]at h;simp only[dD]at h;rw[rounds_succ];cases hs:fy T n b c with
  |none=>rw[hs]at h;cases h
  |some p=>
   obtain⟨e1,c1⟩:=p;rw[hs]at h;refine wp_mono (hR.1 _ _ _ _ hs code C N a w hr hok hM) ?_;rintro e' a' w' ⟨rfl,hM'⟩;cases e1 with
   |n=>exact hR.2 _ _ _ _ h code C N a' w' hr hok hM'
   |x id=>cases h;exact⟨rfl,hM'⟩
   |r=>cases h;exact⟨rfl,hM'⟩
 refine⟨fun r c e c' h code C N a w hr hok hM=> ?_,h2⟩
 by_cases hl:∃b,r= .loop b
 ·obtain⟨b,rfl⟩:=hl
  obtain⟨b',rfl,hb⟩:=Sj (by simpa[RC.er]using hr);exact wp_loop_rounds (n+1) (h2 b c e c' h b' C N a w hb hok hM)
 ·rw[fy]at h
  exact uG hR hcal h (fun b e=>hl ⟨b,e⟩) hr hok hM
def xm1(P:Program):ResultVar->RV->Prop
 | .tmp t,.tmp t'=>t=t'
 | .cell t ty,.cell t' n ag=>t=t'/\eW P ty=some n/\qu P ty=some ag
 |_,_=>False
def DL(P:Program):List ResultVar->List RV->Prop
 |[],[]=>True
 |a::r,b::s=>xm1 P a b/\DL P r s
 |_,_=>False
theorem sL(hS:Sim N c s):∀{rs:List ResultVar}{rv:List RV}{vs:List SV},DL P rs rv->rx c rv=some vs->∃p,xl P s rs=some (p,vs)/\p
 |[],[],vs,_,h=>by cases h;exact⟨True,rfl,trivial⟩
 |[],_::_,_,h,_=>h.elim
 |_::_,[],_,h,_=>h.elim
 | .tmp t::r,.tmp t'::q,vs,h,hv=>by obtain⟨h1,h2⟩:=h;have h1:t=t':=h1;subst h1;simp only[rx]at hv;split at hv<;>cases hv;rename_i vs' hv';obtain⟨p,h3,h4⟩:=sL hS h2 hv';exact⟨p,by simp only[xl,h3,hS.get],h4⟩
 | .cell t ty::r,.cell t' n ag::q,vs,h,hv=>by
  obtain⟨⟨rfl,g1,g2⟩,h2⟩:=h;simp only[rx]at hv;split at hv<;>cases hv;rename_i v vs' hl hv';obtain⟨p,h3,h4⟩:=sL hS h2 hv'
  have hl':(if(ag||n==1)=true then lZ c n ag (c.get t)else none)=some v:=by
   rw[<-hl]
   congr 1
   simp
  split at hl'
  ·rename_i hc
   obtain⟨p',h5,h6⟩:=vH hS hl';refine⟨p'/\p, ?_,h6,h4⟩;simp only[xl,g1,g2,h3,hS.get];rw[if_pos hc,h5]
  ·cases hl'
 | .tmp _::_,.cell _ _ _::_,_,h,_=>h.1.elim
 | .cell _ _::_,.tmp _::_,_,h,_=>h.1.elim
def NK(us:List Value):Value:=if h:us.toArray.size=1 then us.toArray[0]else .tuple us.toArray
theorem NL{vs:List SV}{us:List Value}(h:cd x vs us):Rep x (jq vs) (NK us):=by
 have hlen:=h.1;unfold NK
 match vs,us,hlen with
 |[v],[u],_=>simpa[jq]using h.2 0 (by simp)
 |[],[],_=>simp only[jq];exact .tup _ _ h.1 h.2
 |v1::v2::vs,u1::u2::us,_=>simp only[jq];rw[dif_neg (by simp)];exact .tup _ _ h.1 h.2
theorem cR.sel{ob ob2:List (Nat×aF)}{tk tk2:List Nat}(hH:cR C x ob tk w){x2:Sit}(hG:x2.G=x.G)(hob:∀p∈ob2,dB x2 w p.1 p.2/\∃q∈ob,x2.bk p.1=x.bk q.1)(hnd:(ob2.map cE).Nodup)
 (hinj:∀p∈ob2,∀q∈ob2,(x2.bk p.1).1=(x2.bk q.1).1->p.1=q.1) (htk:∀t∈tk2,(x2.τ t).2.1=(x2.τ t).2.2\/∃u∈tk,x2.τ t=x.τ u)
 (htd:∀t∈tk2,∀u∈tk2,t≠u->(x2.τ t).2.1=(x2.τ t).2.2\/(x2.τ u).2.1=(x2.τ u).2.2\/∃t'∈tk,∃u'∈tk,t'≠u'/\x2.τ t=x.τ t'/\x2.τ u=x.τ u') (hpin:∀i,i<100->x2.bk i=x.bk i):cR C x2 ob2 tk2 w:=by
 refine⟨fun b o v hv=>hH.per b o v (by rw[<-hG];exact hv),fun b o v hv=>by rw[hG];exact hH.g0 b o v hv,fun b o v hv=>hH.gm b o v (by rw[<-hG];exact hv),hH.new, ?_,hnd,hinj, ?_, ?_, ?_,hH.os,hH.tape,hH.output,hH.size,hH.ext,
  fun i hi=>(hpin i hi).trans (hH.pin i hi),hH.lay⟩
 ·intro p hp
  obtain⟨h1,q,hq,h2⟩:=hob p hp;obtain⟨_,h3,h4⟩:=hH.obs q hq;exact⟨h1,by rw[h2];exact h3,fun off=>by rw[hG,h2];exact h4 off⟩
 ·intro t ht
  rcases htk t ht with h|⟨u,hu,h⟩
  ·exact .inl h
  ·have:=hH.tks u hu
   unfold ia at this ⊢;rw[h,hG];exact this
 ·intro t ht p hp
  obtain⟨_,q,hq,h2⟩:=hob p hp;rcases htk t ht with h|⟨u,hu,h⟩
  ·exact .inr h
  ·rw[h,h2];exact hH.tko u hu q hq
 ·intro t ht u hu htu
  rcases htd t ht u hu htu with h|h|⟨t',ht',u',hu',hne,h1,h2⟩
  ·exact .inr (.inl h)
  ·exact .inr (.inr h)
  ·rw[h1,h2];exact hH.tkd t' ht' u' hu' hne
theorem eJ{p:Nat×aF}:∀{l:List aF}{k:Nat},p∈fN k l↔∃i,i<l.length/\p.1=k+i/\p.2=l.getD i (.rc [])
 |[],k=>by simp[fN]
 |o::r,k=>by
  simp only[fN,av,eJ];constructor
  ·rintro(rfl|⟨i,h1,h2,h3⟩)
   ·exact⟨0,by simp,rfl,rfl⟩
   ·exact⟨i+1,by simpa using h1,by omega,by simpa using h3⟩
  ·rintro⟨i,h1,h2,h3⟩
   cases i with
   |zero=>left;exact Prod.ext (by simpa using h2) (by simpa using h3)
   |succ i=>exact .inr ⟨i,by simpa using h1,by omega,by simpa using h3⟩
theorem iA:∀(l:List aF)(k:Nat),((fN k l).map cE).Nodup
 |[],_=>by simp[fN]
 |o::r,k=>by simp only[fN,aC,dC];refine⟨fun h=> ?_,iA r (k+1)⟩;obtain⟨p,hp,e⟩:=aT.1 h;obtain⟨i,_,h2,_⟩:=eJ.1 hp;omega
theorem Cy(n i:Nat)(h:i<n):(kS n).getD i 0=i:=by
 have hl:∀n,(kS n).length=n:=by
  intro n;induction n with
  |zero=>rfl
  |succ n ih=>simp[kS,ih]
 induction n with
 |zero=>omega
 |succ n ih=>
  simp only[kS,aa,List.getElem?_append,hl]
  by_cases hi:i<n
  ·rw[if_pos hi,<-aa,ih hi]
  ·rw[if_neg hi];have:i-n=0:=by omega
   rw[this];simp;omega
theorem Ds{keep raw:List Nat}{k:Nat}{vs:List SV}{us:List Value}{q:dO}(hM:aM C x s a w)(hS:Sim N c s)(hk:k<=40)(hv:cd x vs us)(h:R2 keep k (eC c vs (iY raw 0 vs))=some q):
 ∃x',Rep x' q.r (NK us)/\cR C x' q.os q.tk w/\(∀p∈q.os,p.2.wf=true)/\∀i,i<100->x'.bk i=C.β0 i:=by
 obtain⟨x1,s1,hM1,hS1,hv1⟩:=jj (l:=iY raw 0 vs) hM hS hv;generalize eC c vs (iY raw 0 vs)=z at h hS1 hv1;obtain⟨c1,vs1⟩:=z;simp only at hS1 hv1;simp only[R2]at h;have hE:=hS1.exact hM1;cases hb:(decide (k=0)&&(SV.idsL vs1).isEmpty&&keep.isEmpty)with
 |true=>rw[hb]at h;simp only[N1,an.injEq]at h;subst h;refine⟨x1, ?_,hE.heap.only (by simp) (by simp) (by simp),by simp,fun i hi=>hE.heap.pin i hi⟩;refine NL ?_;rw[kz];refine⟨by simpa using hv1.1,fun i hi=> ?_⟩;rw[aV _ (by rfl)];exact(hv1.2 i (by simpa using hi)).bare rfl rfl
 |false=>
  rw[hb]at h;simp only[N1]at h;generalize hz:jP c1.tk keep 60 0 vs1=z at h;obtain⟨vs2,mt1⟩:=z;simp only[ZE]at h;generalize dF c1 60 [] (kS k++SV.idsL vs2)=m at h;cases ho:gp c1 m with
  |none=>rw[ho]at h;cases h
  |some os0=>
   rw[ho]at h;simp only[ZD]at h;generalize hz2:dQ c1.tk (60+mt1.length) os0=z2 at h;obtain⟨os,mt2⟩:=z2;simp only[ZC]at h;cases hb2:(oj (SV.idsL vs2++ft os) m&&dr m&&dr (cf (mt1++mt2))&&decide (m.take k=kS k)&&(m.drop k).all fun o=>decide (k<=o))with
   |false=>rw[hb2]at h;cases h
   |true=>
    rw[hb2]at h;simp only[ZB,an.injEq]at h;subst h;simp only[aB,decide_eq_true_eq,aR]at hb2;obtain⟨⟨⟨⟨hsub,hmn⟩,htn⟩,htake⟩,hdrop⟩:=hb2;obtain⟨hol,hog⟩:=pE ho;have hsubm:=uS hsub;have hmnd:=jr hmn;have htnd:=jr htn
    have hul:∀n,(kS n).length=n:=by
     intro n;induction n with
     |zero=>rfl
     |succ n ih=>simp[kS,ih]
    have hkm:k<=m.length:=by have:=congrArg List.length htake;rw[ax,hul]at this;omega
    have hfirst:∀i,i<k->m.getD i 0=i:=by
     intro i hi;have h1:(m.take k).getD i 0=m.getD i 0:=by simp only[aa,bL,if_pos hi]
     rw[<-h1,htake,Cy k i hi]
    have hrest:∀i,k<=i->i<m.length->k<=m.getD i 0:=by
     intro i h1 h2;refine hdrop _ ?_
     have:m.getD i 0=(m.drop k).getD (i-k) 0:=by simp only[aa,bw];congr 2;omega
     rw[this];exact fE (by rw[aI];omega)
    let τ2:Nat->Nat×Nat×Nat:=fun t=>if 60<=t/\t<60+(mt1++mt2).length then Ok x1 ((mt1++mt2).getD (t-60) none)else(0,0,0)
    let x2:Sit:=⟨x1.G,x1.bk,τ2⟩
    let x3:Sit:=⟨x1.G,fun i=>if i<100 then x1.bk i else x1.bk (m.getD (i-100) 0),τ2⟩
    have hτ:∀y:Sit,y.τ=τ2->nU x1 y 60 (mt1++mt2):=by
     intro y hy j hj;rw[hy];show(if _ then _ else _)=_;rw[if_pos ⟨by omega,by omega⟩]
     congr 2;omega
    have hmem:∀i,i<m.length->(m.getD i 0,os0.getD i (.rc []))∈c1.ob:=fun i hi=>jg (hog i hi)
    have hβ:∀o∈m,x3.bk (gQ k m o)=x1.bk o:=by
     intro o ho;unfold gQ;split
     ·rename_i hlt
      show(if _ then _ else _)=_;rw[if_pos (by omega)]
     ·show(if _ then _ else _)=_
      rw[if_neg (by omega)];have e:100+gA m o-100=gA m o:=by omega
      rw[e,(mm ho).2]
    have hT2:=hτ x2 rfl
    have ha2:cd x2 vs2 us:=by have:=lO (x:=x1) (x1:=x2) rfl rfl (tk:=c1.tk) (own:=keep) (j:=60) (i:=0) hv1 (by rw[hz];exact hT2.left);rwa[hz]at this
    have hrr:Rep x3 ((jq vs2).ren (gQ k m) id) (NK us):=by
     refine Rep.renF (x:=x2) (x2:=x3) (fun _ _ _ h=>h) (NL ha2) (fun j hj=>hβ j (hsubm j (al.2 (.inl ?_)))) (fun t _=>rfl)
     have key:∀l:List SV,∀j∈(jq l).ids,j∈SV.idsL l:=by
      intro l j hj
      match l with
      |[]=>exact hj
      |[v]=>simpa[jq,SV.idsL]using hj
      |v::u::r=>exact hj
     exact key vs2 j hj
    obtain⟨hosl,hosr⟩:=ln (x:=x1) (x1:=x2) (w:=w) rfl rfl (tk:=c1.tk) (obs:=os0) (j:=60+mt1.length) (f:=fun i=>m.getD i 0)
     (fun i hi=>(hE.heap.obs _ (hmem i (by omega))).1) (by rw[hz2];exact hT2.right)
    rw[hz2]at hosl hosr;simp only at hosl hosr
    have hwf:∀o∈os,o.wf=true:=by
     intro o ho'
     have:=mC (tk:=c1.tk) (obs:=os0) (j:=60+mt1.length) (fun o h'=>by obtain⟨i,hi,rfl⟩:=cr h';have:=hS1.inv.wf _ (hmem i (by omega));simpa[aa,ab hi]using this) o (by rw[hz2];exact ho')
     exact this
    have hall:∀p∈fN 0 (ed (gQ k m) id (os.take k))++fN (100+k) (ed (gQ k m) id (os.drop k)),∃i,i<m.length/\p.1=gQ k m (m.getD i 0)/\p.2=(os.getD i (.rc [])).ren (gQ k m) id/\os.getD i (.rc [])∈os:=by
     intro p hp
     have gd:∀{l:List aF}{i:Nat},i<l.length->(ed (gQ k m) id l).getD i (.rc [])=(l.getD i (.rc [])).ren (gQ k m) id:=by intro l i hi;rw[fX,aa,aa,aQ,ab hi];rfl
     have gm:∀{i:Nat},i<os.length->os.getD i (.rc [])∈os:=fun{i} hi=>by rw[aa,ab hi];exact bh _
     rcases al.1 hp with hp|hp
     ·obtain⟨i,h1,h2,h3⟩:=eJ.1 hp
      rw[fX,aP,ax]at h1;have e:(os.take k).getD i (.rc [])=os.getD i (.rc []):=by simp only[aa,bL,if_pos (show i<k by omega)]
      refine⟨i,by omega, ?_, ?_,gm (by omega)⟩
      ·rw[h2,hfirst i (by omega)];unfold gQ;rw[if_pos (by omega)];omega
      ·rw[h3,gd (by rw[ax];omega),e]
     ·obtain⟨i,h1,h2,h3⟩:=eJ.1 hp
      rw[fX,aP,aI]at h1;have hi:k+i<m.length:=by omega
      have e:(os.drop k).getD i (.rc [])=os.getD (k+i) (.rc []):=by simp only[aa,bw]
      refine⟨k+i,hi, ?_, ?_,gm (by omega)⟩
      ·have h5:=hrest (k+i) (by omega) hi
       have h6:=mm (fE hi);have h7:gA m (m.getD (k+i) 0)=k+i:=ls hmnd h6.1 hi h6.2;unfold gQ;rw[if_neg (by omega),h7,h2];omega
      ·rw[h3,gd (by rw[aI];omega),e]
    have hmt:∀t∈cf (mt1++mt2),t∈c1.tk:=by
     intro t ht;rw[fk,al]at ht;rcases ht with ht|ht
     ·exact oi (tk:=c1.tk) (own:=keep) (cs:=vs1) (j:=60) (i:=0) t (by rw[hz];exact ht)
     ·exact mD (tk:=c1.tk) (obs:=os0) (j:=60+mt1.length) t (by rw[hz2];exact ht)
    have htok:∀t∈tks 60 (mt1.length+mt2.length),(x3.τ t).2.1=(x3.τ t).2.2\/∃u,(mt1++mt2).getD (t-60) none=some u/\u∈c1.tk/\x3.τ t=x1.τ u:=by
     intro t ht;obtain⟨h1,h2⟩:=jC.1 ht;have e:=hτ x3 rfl (t-60) (by rw[ac];omega);rw[show 60+(t-60)=t by omega]at e;cases hu:(mt1++mt2).getD (t-60) none with
     |none=>rw[hu]at e;rw[e];exact .inl rfl
     |some u=>rw[hu]at e;exact .inr ⟨u,rfl,hmt u (iK hu),e⟩
    refine⟨x3,hrr,hE.heap.sel (x2:=x3) rfl ?_ ?_ ?_ ?_ ?_ ?_, ?_, ?_⟩
    ·intro p hp
     obtain⟨i,h1,h2,h3,h4⟩:=hall p hp;have hm':=fE h1;refine⟨?_,_,hmem i h1,by rw[h2];exact hβ _ hm'⟩;rw[h2,h3];exact(hosr i (by omega)).renF (x2:=x3) (fun _ _ _ h=>h) (hβ _ hm') (fun j hj=>hβ j (hsubm j (al.2 (.inr (oM h4 j hj))))) (fun t _=>rfl)
    ·rw[ct,List.nodup_append]
     refine⟨iA _ _,iA _ _,fun u hu v hv e=> ?_⟩;obtain⟨p,hp,rfl⟩:=aT.1 hu;obtain⟨r,hr,rfl⟩:=aT.1 hv;obtain⟨i,h1,h2,_⟩:=eJ.1 hp;obtain⟨j,h3,h4,_⟩:=eJ.1 hr;rw[fX,aP,ax]at h1;omega
    ·intro p hp r hr hpr
     obtain⟨i,h1,h2,_⟩:=hall p hp;obtain⟨j,h3,h4,_⟩:=hall r hr;rw[h2,h4,hβ _ (fE h1),hβ _ (fE h3)]at hpr;have:=hE.heap.inj _ (hmem i h1) _ (hmem j h3) hpr;simp only at this;rw[h2,h4,this]
    ·intro t ht
     rcases htok t ht with g|⟨u,_,g1,g2⟩
     ·exact .inl g
     ·exact .inr ⟨u,g1,g2⟩
    ·intro t ht u hu htu
     rcases htok t ht with g|⟨t',g0,g1,g2⟩
     ·exact .inl g
     ·rcases htok u hu with g|⟨u',k0,k1,k2⟩
      ·exact .inr (.inl g)
      ·refine .inr (.inr ⟨t',g1,u',k1,mY htnd ?_ g0 k0,g2,k2⟩)
       have:=jC.1 ht;have:=jC.1 hu;omega
    ·intro i hi
     show(if _ then _ else _)=_;rw[if_pos hi]
    ·intro p hp
     obtain⟨i,h1,h2,h3,h4⟩:=hall p hp;rw[h3];exact yn (hwf _ h4)
    ·intro i hi
     show(if _ then _ else _)=_;rw[if_pos hi];exact hE.heap.pin i hi
structure bC(P:Program)(g:Nat)(F:FnC):Prop where
 fn:∃fn,P.funcs[g]? =some fn/\fn.body.map (cj P)=some F.code.er/\fn.ntmps=F.n/\DL P fn.results.toList F.rs
 cb:dV P g=true
 ok:F.code.ok F.n=true
def nK(P:Program)(T:fH):Prop:=∀g b,T.fn g=some b->match b with
 | .code F=>bC P g F
 | .prim f=>∀as os k q,f as os k=some q->jB P g as os k (· =q)
theorem Cp(os:List aF):∀o,(idx os).lookup o=iJ (fN 0 os) o:=by
 intro o;have h1:((idx os).map cE).Nodup:=mH os;have h2:=iA os 0
 have hm:∀p,p∈idx os↔p∈fN 0 os:=by
  intro p;rw[iT,eJ];constructor
  ·rintro⟨g1,g2⟩;exact⟨p.1,g1,by omega,g2⟩
  ·rintro⟨i,g1,g2,g3⟩
   have e:p.1=i:=by omega
   rw[e];exact⟨g1,g3⟩
 rw[iB];refine sY (fun v hv=> ?_) (fun v hv=> ?_)
 ·exact je (p:=(o,v)) h2 ((hm _).1 (jg hv))
 ·exact je (p:=(o,v)) h1 ((hm _).2 (jg hv))
theorem rH(n:Nat):∀(l:List SV)(i:Nat),ej (nH i l) n=if i<=n then l.getD (n-i) .undef else .undef
 |[],i=>by simp[nH,ej]
 |v::r,i=>by
  simp only[nH,ej,rH n r (i+1)]
  by_cases h:i=n
  ·subst h;simp
  ·rw[if_neg h]
   by_cases h2:i<=n
   ·rw[if_pos h2,if_pos (by omega)]
    obtain⟨k,hk⟩:∃k,n-i=k+1:=⟨n-i-1,by omega⟩;rw[hk,List.getD_cons_succ];congr 1;omega
   ·rw[if_neg h2,if_neg (by omega)]
theorem rF{p:Nat×SV}:∀{l:List SV}{i:Nat},p∈nH i l->p.1<i+l.length
 |v::r,i,h=>by
  simp only[nH]at h;rcases av.1 h with e|e
  ·rw[e];simp
  ·have:=rF e;simp only[aj];omega
theorem uV:∀(l:List aF)(k:Nat),((fN k l).map cE).Pairwise (· < ·)
 |[],_=>by simp[fN]
 |o::r,k=>by simp only[fN,aC,cC];refine⟨fun n hn=> ?_,uV r (k+1)⟩;obtain⟨p,hp,rfl⟩:=aT.1 hn;obtain⟨i,_,h2,_⟩:=eJ.1 hp;omega
theorem ng{n:Nat}(hR:uA P T n)(hT:nK P T):fW P (eB T n):=by
 intro g as os k q hq;unfold eB at hq;cases hg:T.fn g with
 |none=>rw[hg]at hq;cases hq
 |some b=>
  have hb:=hT g b hg;cases b with
  |prim f=>rw[hg]at hq;exact hb as os k q hq
  |code F=>
   rw[hg]at hq;simp only[ma,Em]at hq;obtain⟨⟨fn,hfn,hbody,hnt,hrv⟩,hcb,hok⟩:=hb;refine⟨hcb, ?_⟩;split at hq
   case isFalse=>cases hq
   rename_i hle;intro C x w vs hw0 hG0 hmine hlen hwf hH hargs;cases hbd:fn.body with
   |none=>simp[hbd]at hbody
   |some code=>
    simp only[hbd,cO]at hbody;refine calls_of_wp hfn hbd ?_;have hl:=hargs.1
    let s0:St:=⟨as++aE (F.n-as.length) .undef,idx os,tks 50 k⟩
    have hM0:aM C x s0 {tmps:=(⟨vs⟩:Array Value)++dP (fn.ntmps-(⟨vs⟩:Array Value).size) Go.undef,defers:=[]} w:=by
     refine⟨?_,rfl,hH⟩
     have e1:((⟨vs⟩:Array Value)++dP (fn.ntmps-(⟨vs⟩:Array Value).size) Go.undef).toList=vs++aE (F.n-as.length) Go.undef:=by simp[hnt,hl]
     rw[e1];refine hargs.append ⟨by simp,fun i hi=> ?_⟩;rw[fi _ _ _ _ (by simpa using hi)];exact .undef _
    have hS0:Sim F.n (ra as os k) s0:=by
     refine⟨⟨fun p hp=> ?_,uV os 0,fun p hp=> ?_⟩, ?_,fun o=>Cp os o,fun t=>Iff.rfl⟩
     ·have:=rF hp;omega
     ·obtain⟨i,h1,_,h3⟩:=eJ.1 hp
      rw[h3,aa,ab h1];exact hwf _ (bh _)
     ·apply List.ext_getElem?
      intro i;show(as++aE (F.n-as.length) SV.undef)[i]? =_;rw[aQ];rcases bY i F.n with hi|hi
      ·rw[bV hi]
       have e:(ra as os k).get i=as.getD i .undef:=by show ej (nH 0 as) i=_;rw[rH];simp
       simp only[bo,e,List.getElem?_append,List.getElem?_replicate]
       by_cases h:i<as.length
       ·rw[if_pos h,aa,ab h];rfl
       ·rw[if_neg h,if_pos (by omega),aa,eo (by omega)];rfl
      ·rw[eo (by simp;omega),eo (by simpa using hi)];rfl
    cases hs:fy T n F.code (ra as os k)with
    |none=>rw[hs]at hq;cases hq
    |some p=>
     obtain⟨e,c1⟩:=p;rw[hs]at hq;refine wp_mono (hR.1 _ _ _ _ hs code C F.n _ w (by simpa using hbody) hok ⟨x,s0,hM0,hS0⟩) ?_;rintro e' a' w' ⟨rfl,x1,s1,hM1,hS1⟩
     have main:N2 F.keep F.raw os.length c1 (rx c1 F.rs)=some q->a'.defers=[]/\∃v,(results fn a'.tmps).run P w'= .ok v w'/\∃v',∃x':Sit,∃q',Ending.returned v= .returned v'/\q'=q/\Rep x' q'.r v'/\cR C x' q'.os q'.tk w'/\(∀p∈q'.os,p.2.wf=true)/\∀i,i<os.length->x'.bk i=x.bk i:=by
      intro hf;cases hrc:rx c1 F.rs with
      |none=>rw[hrc]at hf;cases hf
      |some rv=>
       rw[hrc]at hf;obtain⟨p,h1,h2⟩:=sL (P:=P) hS1 hrv hrc;obtain⟨us,hrun,hl⟩:=qc hM1 h1 h2;obtain⟨x',g1,g2,g3,g4⟩:=Ds hM1 hS1 hlen hl hf;refine⟨hM1.defers,NK us, ?_,NK us,x',q,rfl,rfl,g1,g2,g3,fun i hi=> ?_⟩
       ·rw[xk,Array.mapM_eq_mapM_toList]
        simp only[aA,Sem.run_map,hrun,am,aG];rfl
       ·rw[g4 i (by omega)];exact(hH.pin i (by omega)).symm
     cases e with
     |n=>exact main hq
     |r=>exact main hq
     |x id=>cases hq
theorem On(hT:nK P T):∀n,uA P T n
 |0=>xh
 |n+1=>xj (On hT n) (ng (On hT n) hT)
theorem o8(hT:nK P T):fW P (call T):=by intro g as os k q hq;obtain⟨n,hn⟩:=oL hq;exact ng (On hT n) hT g as os k q hn
theorem mr(hT:nK P T){g:Nat}{as:List SV}{r:SV}(h:call T g as [] 0=some ⟨r,[],[]⟩)(ht:r.toks=[]):Fn P g as r:=by obtain⟨h1,h2⟩:=o8 hT _ _ _ _ _ h;refine⟨h1,fun C x w vs hw hG hm hl hH hv=> ?_⟩;refine(h2 C x w vs hw hG (fun b hb=>(hm b hb).imp id (fun⟨i,hi,_⟩=>by simp at hi)) (by simp) (by simp) hH hv).mono ?_;rintro en w' ⟨v,x',q,rfl,rfl,hr,hH',_,hg⟩;exact⟨v,x',r,[],rfl,⟨rfl,rfl⟩,hr,by rw[ht];exact hH',hg⟩
def Tg(P:Program):ResultVar->RV->Bool
 | .tmp t,.tmp t'=>decide (t=t')
 | .cell t ty,.cell t' n ag=>decide (t=t')&&decide (eW P ty=some n)&&decide (qu P ty=some ag)
 |_,_=>false
def qa(P:Program):List ResultVar->List RV->Bool
 |[],[]=>true
 |a::r,b::s=>Tg P a b&&qa P r s
 |_,_=>false
theorem uZ:∀{rs:List ResultVar}{rv:List RV},qa P rs rv=true->DL P rs rv
 |[],[],_=>trivial
 |[],_::_,h=>by cases h
 |_::_,[],h=>by cases h
 |a::r,b::s,h=>by
  simp only[qa,aB]at h;refine⟨?_,uZ h.2⟩;have h1:=h.1;cases a<;>cases b<;>simp only[Tg,aB,decide_eq_true_eq]at h1<;>first|(cases h1;done)|skip
  ·exact h1
  ·exact⟨h1.1.1,h1.1.2,h1.2⟩
theorem RX{g:Nat}{F:FnC}{fn:Func}(h1:P.funcs[g]? =some fn)(h2:fn.body.map (cj P)=some F.code.er)(h3:fn.ntmps=F.n)(h4:qa P fn.results.toList F.rs=true)(h5:dV P g=true)(h6:F.code.ok F.n=true):bC P g F:=
 ⟨⟨fn,h1,h2,h3,uZ h4⟩,h5,h6⟩
end Go.Sy
namespace Go.Sy
variable [aZ]
open Go.RowKit Go.ChangeShapes Go.WideShapes
def GW(w:World):GM:=fun b o=>w.cell? ⟨b,o,none⟩
def mc(w:World):Sit:=⟨GW w,fun _=>(0,0),fun _=>(0,0,0)⟩
theorem Zv(w:World)(hL:Lay (GW w)):cR ⟨w,GW w,fun b=>w.heap.size<=b,fun _=>(0,0)⟩ (mc w) [] [] w where
 per:=fun _ _ _ h=>h
 g0:=fun _ _ _ h=>h
 gm:=fun _ _ _ h=> .inl h
 new:=fun _ h=>h
 obs:=by simp
 nd:=List.nodup_nil
 inj:=by simp
 tks:=by simp
 tko:=by simp
 tkd:=by simp
 os:=rfl
 tape:=rfl
 output:=rfl
 size:=aH _
 ext:=fun _ _=>rfl
 pin:=fun _ _=>rfl
 lay:=hL
theorem sx{x:Sit}{b:Bool}{v:Value}(h:Rep x (.bool b) v):v= .bool b:=by
 cases h with
 |dat _ _ h _=>cases h;rfl
theorem i6{P:Program}{f:Nat}{as:List SV}(h:Fn P f as (.bool true)){W:World}{vs:List Value}(hv:cd (mc W) as vs)(hL:Lay (GW W)):
 Calls P f ⟨vs⟩ W fun e W'=>e= .returned (.bool true)/\Below W.heap.size W W':=by
 refine(h.2 ⟨W,GW W,fun b=>W.heap.size<=b,fun _=>(0,0)⟩ (mc W) W vs rfl rfl (fun b hb=> .inl hb) (by simp) (Zv W hL) hv).mono ?_;rintro e W' ⟨v,x',r,os',rfl,⟨rfl,rfl⟩,hr,hH,_⟩;obtain rfl:=sx hr;exact⟨rfl,hH.os,hH.tape,hH.output,hH.size,fun k hk=>hH.ext k (by simp;omega)⟩
section
variable {H : Type} {enc : TypeId × Value -> H} {P : Program} {w : World} {base : Nat} {sp : Nat -> Bool} {hd : Bool} {r : Reach} {b0 : Nat} {t e : TypeId} {v : Value} {d : DataW H} {ps : List MemPlace}
theorem dN{k:IntKind}(ht:P.underlying t=some (.int k))(hval:Value.okWide P w r b0 t v)(h:DataW.Trod enc P w base sp hd t v d ps):∃n,k.has n/\Rep (mc w) (.int k n) v:=by obtain⟨n,rfl,_,_,hw⟩:=open_int ht hval h;simp only[Lit.wf,aB,decide_eq_true_eq]at hw;exact⟨n,hw,.dat _ _ (.int k n) trivial⟩
theorem pR(ht:P.underlying t=some .bool)(hval:Value.okWide P w r b0 t v)(h:DataW.Trod enc P w base sp hd t v d ps):∃b,Rep (mc w) (.bool b) v:=by obtain⟨b,rfl,_,_⟩:=open_bool ht hval h;exact⟨b,.dat _ _ (.bool b) trivial⟩
theorem wQ{a:Addr}{len cap:Nat}(ht:P.underlying t=some (.slice e))(hval:Value.okWide P w r b0 t (.slice (some a) len cap)):a.spot=none:=by simp only[Value.okWide,ht,Cell.okWide,Cell.ok]at hval;exact hval.2.2.2.1
theorem GE{n:Int}(h:(Lit.int .u8 n).wf=true):((ee n.toNat).toNat:Int)=n:=by
 simp only[Lit.wf,IntKind.min,IntKind.max,IntKind.signed,IntKind.bits,aB,decide_eq_true_eq]at h;rw[UInt8.toNat_ofNat'];have:n.toNat<256:=by simp at h;omega
 rw[cy this];simp at h;omega
theorem eO(ht:P.underlying t=some (.slice e))(he:P.underlying e=some (.int .u8))(hc:P.cellsOf e=1)(hval:Value.okWide P w r b0 t v)(h:DataW.Trod enc P w base sp hd t v d ps):
 ∃l:List UInt8,l.length<=maxLen/\Rep (mc w) (.byt l .no) v:=by
 obtain⟨a0,len,cap,rfl⟩:=okWide_slice ht hval;obtain⟨fuel,hf⟩:=h;rcases open_ints ht he hc hf with⟨hcs,_⟩|⟨a,len',cap',zs,hcs,_,hl,hm,hz,_,hcell,hwf⟩
 ·simp[Value.cells]at hcs
  obtain⟨rfl,rfl,rfl⟩:=hcs;exact⟨[],by simp,.dat _ _ (.bytN .no) trivial⟩
 ·simp[Value.cells]at hcs
  obtain⟨rfl,rfl,rfl⟩:=hcs;have hs:=wQ ht hval;obtain⟨b,off,spot⟩:=a;simp only at hs;subst hs;have hzl:len<=zs.length:=by rw[hz];split<;>omega
  refine⟨(zs.take len).map fun n=>ee n.toNat,by simp;omega,.dat _ _ (.byt _ .no b off cap len (by simp;omega) hl (fun i hi=> ?_)) trivial⟩;have h1:=hcell i (by omega);have hi':i<zs.length:=by omega
  rw[add_plain]at h1
  have e1:((zs.take len).map fun n=>ee n.toNat).getD i 0=ee (zs.getD i 0).toNat:=by simp[aa,hi',hi]
  show w.cell? _=_;rw[h1,e1]
  congr 2
  refine(GE (hwf _ ?_)).symm;rw[aa,ab hi'];exact bh hi'
end
theorem ki{x:Sit}:cd x [] []:=⟨rfl,by simp⟩
section
variable {H : Type} {enc : TypeId × Value -> H} {P : Program}
theorem FC{f:Func}{s:ChangeSpec}{apart fresh handsOn again:Bool}{W W':World}{args:Array Value}{v:Value}{ds gs:List (DataW H)}{before pa pv:List MemPlace}
 (hW:DataW.Whole enc P f.params.toList s.vars apart W args.toList ds gs before)
 (hres:∀(b:Nat)(sp:Nat->Bool)(hd:Bool),DataW.TrodAll enc P W' b sp hd f.resultTypes.toList (v.resultList f.resultTypes.size) (s.fn H (ds++gs)).results [])
 (hargs:∀sp:Nat->Bool,(∀p∈before,sp p.block=true)->DataW.TrodAll enc P W' 0 sp true f.params.toList args.toList (s.fn H (ds++gs)).args pa)
 (hvars:∀sp:Nat->Bool,(∀p∈before,sp p.block=true)->DataW.TrodVars enc P W' sp s.vars (s.fn H (ds++gs)).vars pv)
 (hps:before=pa++pv) (hb:Below W.heap.size W W')
 (hok:∀(j:Nat)(t:TypeId)(r:Value),f.resultTypes[j]? =some t->(v.resultList f.resultTypes.size)[j]? =some r->Value.okWide P W' .any 0 t r):
 s.post enc P f apart fresh handsOn again W args v W':=by
 have hlt:=hW.lt;have hold:∀p∈before,(fun b=>decide (b<W.heap.size)) p.block=true:=fun p hp=>by simpa using hlt p hp
 refine⟨ds,gs,before,[],pa,pv,hW,hres _ _ _,hargs _ hold,hvars _ hold,World.keptBut_mono (fun p hp=>⟨hp, ?_⟩) (hb.frame (· ∈before)),fun _=> ?_⟩
 ·rw[hps,al]at hp
  exact Or.inr hp
 ·obtain⟨_,_,_,_,_,hz,hn⟩:=hW
  refine⟨hok,_,_,([]++pa)++pv,⟨[]++pa,pv,trodAll_append (hargs _ (fun _ _=>rfl)) (hres _ _ _),hvars _ (fun _ _=>rfl),rfl, ?_, ?_⟩, ?_⟩
  ·intro b off hp
   have hp':MemPlace.cell b off∈before:=by rw[hps];simpa using hp
   rw[hb.frozen (p:=⟨b,off,none⟩) (hlt _ hp')];exact hz b off hp'
  ·intro ha
   have:=hn ha;rw[hps]at this;simpa using this
  ·intro p hp _
   rw[hps];simpa using hp
theorem kT(hl:laidOutB P=true){W W':World}(hb:Below W.heap.size W W'):∀{ts:List TypeId}{vs:List Value}{ds:List (DataW H)}{p:List MemPlace},(ts.all fun t=>P.readableRec t&&decide (t<P.types.size))=true->
 DataW.TrodAll enc P W 0 (fun _=>true) true ts vs ds p->(∀x∈p,x.block<W.heap.size)->∀sp:Nat->Bool,(∀x∈p,sp x.block=true)->DataW.TrodAll enc P W' 0 sp true ts vs ds p
 |[],_,_,_,_,h,_,_,_=>by obtain⟨rfl,rfl,rfl⟩:=trodAll_nil h;exact trodAll_mk0
 |t::ts,_,_,_,hr,h,hlt,sp,hsp=>by obtain⟨v,vs1,d,ds1,a,b,rfl,rfl,rfl,h1,h2⟩:=trodAll_cons h;simp only[List.all_cons,aB,decide_eq_true_eq]at hr;refine trodAll_cons_mk ?_ (kT hl hb (by simpa using hr.2) h2 (fun x hx=>hlt x (List.mem_append_right _ hx)) sp (fun x hx=>hsp x (List.mem_append_right _ hx)));exact WideElems.Trod_stays hl hr.1.1 hr.1.2 h1 (fun x hx=>hb.same (hlt x (List.mem_append_left _ hx))) (fun x hx=>hsp x (List.mem_append_left _ hx))
theorem kq{f:Func}{s:ChangeSpec}{W W':World}{args:Array Value}{ds gs:List (DataW H)}{before:List MemPlace}{tb:TypeId}(hl:laidOutB P=true)
 (hr:(f.params.toList.all fun t=>P.readableRec t&&decide (t<P.types.size))=true) (hrt:f.resultTypes= #[tb]) (htb:P.underlying tb=some .bool) (hvars:s.vars=[])
 (hfn:(s.fn H (ds++gs)).results=[.lit (.bool true)]) (hfa:(s.fn H (ds++gs)).args=ds) (hfv:(s.fn H (ds++gs)).vars=[])
 (hW:DataW.Whole enc P f.params.toList s.vars false W args.toList ds gs before) (hb:Below W.heap.size W W'):
 s.post enc P f false true false false W args (.bool true) W':=by
 have hlt:=hW.lt;have hW':=hW;obtain⟨p,q,hA,hV,rfl,hfz,hnd⟩:=hW;rw[hvars]at hV;obtain⟨rfl,rfl⟩:=trodVars_none hV;simp only[bg]at hlt hW' hfz;refine FC (pa:=p) (pv:=[]) (before:=p) (gs:=[]) hW' (fun b sp hd=> ?_) (fun sp hsp=> ?_) (fun sp hsp=> ?_) (by simp) hb (ok_one hrt rfl (okWide_bool_mk htb _))
 ·rw[hfn,hrt]
  exact trodAll_cons_mk (shut_bool htb _) trodAll_mk0
 ·rw[hfa]
  exact kT hl hb hr hA hlt sp hsp
 ·rw[hvars,hfv]
  rfl
end
end Go.Sy
namespace Go.Sy
variable [aZ]
open Go.RowKit Go.ChangeShapes Go.WideShapes
variable {P : Program} {C : Ctx} {x : Sit} {w w' : World}
theorem eP.below{b:Nat}{c:Array Value}{e:TypeId}{fl fh:Nat}(h:eP w b c e fl fh)(hb:Below w.heap.size w w'):eP w' b c e fl fh:=h.of_heap (hb.block b h.lt)
theorem cR.below{ob:List (Nat×aF)}{tk:List Nat}(h:cR C x ob tk w)(hb:Below w.heap.size w w'):cR C x ob tk w' where
 per:=fun b o v hv=>by rw[dh (hb.block b (h.ltG hv))];exact h.per b o v hv
 g0:=h.g0
 gm:=h.gm
 new:=h.new
 obs:=fun p hp=>by obtain⟨⟨c,e,fl,fh,hO,r⟩,q⟩:=h.obs p hp;exact⟨⟨c,e,fl,fh,hO.below hb,r⟩,q⟩
 nd:=h.nd
 inj:=h.inj
 tks:=fun t ht=>(h.tks t ht).imp id fun⟨⟨c,e,fl,fh,hO,r⟩,q⟩=>⟨⟨c,e,fl,fh,hO.below hb,r⟩,q⟩
 tko:=h.tko
 tkd:=h.tkd
 os:=hb.os.trans h.os
 tape:=hb.tape.trans h.tape
 output:=hb.output.trans h.output
 size:=pU h.size hb.size
 ext:=fun b hn=>by
  rcases bY b w.heap.size with h1|h1
  ·rw[hb.block b h1];exact h.ext b hn
  ·exact absurd (h.new b (pU h.size h1)) hn
 pin:=h.pin
 lay:=h.lay
def iX(w:World)(l:List UInt8)(v:Value):Prop:=
 (l=[]/\∃a,v= .slice a 0 0)\/∃b off n cap,v= .slice (some ⟨b,off,none⟩) n cap/\n=l.length/\∀i,i<n->w.cell? ⟨b,off+i,none⟩=some (.int .u8 (l.getD i 0).toNat)
theorem lu{l:List UInt8}{t:Tok}{v:Value}(h:Rep x (.byt l t) v)(hp:∀b o v,x.G b o=some v->w.cell? ⟨b,o,none⟩=some v):iX w l v:=by
 cases h with
 |dat _ _ h _=>
  cases h with
  |bytN=>exact .inl ⟨rfl,_,rfl⟩
  |bytE=>exact .inl ⟨rfl,_,rfl⟩
  |byt _ _ b off cap n hn hc h=>exact .inr ⟨b,off,n,cap,rfl,hn,fun i hi=>hp _ _ _ (h i hi)⟩
theorem yj{l:List UInt8}{v:Value}(h:Rep x (.str l) v):v= .string ⟨⟨l⟩⟩:=by
 cases h with
 |dat _ _ h _=>cases h;rfl
theorem xfZ{b:UInt8}{v:Value}(h:Rep x (.u8 b) v):v= .int .u8 b.toNat:=by
 cases h with
 |dat _ _ h _=>cases h;rfl
theorem jn{g:Nat}{as:List SV}{r:SV}(hcb:dV P g=true)
 (h:∀(x:Sit)(w:World)(vs:List Value),cd x as vs->(∀b o v,x.G b o=some v->w.cell? ⟨b,o,none⟩=some v)->
  Calls P g ⟨vs⟩ w fun e w'=>∃v,e= .returned v/\Rep x r v/\Below w.heap.size w w'):jB P g as [] 0 (· =⟨r,[],[]⟩):=by
 refine⟨hcb,fun C x w vs hw hG hm hl hwf hH hr=>(h x w vs hr hH.per).mono ?_⟩;rintro e w' ⟨v,rfl,hv,hb⟩;exact⟨v,x,_,rfl,rfl,hv,hH.below hb,fun p hp=>by simp at hp,fun i hi=>rfl⟩
theorem jW{l:List UInt8}{v:Value}(h:iX w l v):(Extern.Bytes.bytesOf v).run P w= .ok ⟨⟨l⟩⟩ w:=by
 rcases h with⟨rfl,a,rfl⟩|⟨b,off,n,cap,rfl,hn,hc⟩
 ·cases a<;>rfl
 ·have hl:=Lib.run_loadBytesX (P:=P) w (l.map fun c=>(c.toNat:Int)) ⟨b,off,none⟩ .empty (fun j z hj=>by
   have hj':j<l.length:=by have:=(List.getElem?_eq_some_iff.1 hj).1;simpa using this
   have e:(⟨b,off,none⟩:Addr).add j=⟨b,off+j,none⟩:=by unfold Addr.add;split<;>simp_all
   rw[e,hc j (by omega)];simp only[aQ,ab hj',bo,an.injEq]at hj;rw[aa,ab hj',aY,<-hj])
  have e2:(⟨ByteArray.empty.data++(Lib.bytesOf (l.map fun c=>(c.toNat:Int))).toArray⟩:ByteArray)=⟨⟨l⟩⟩:=by
   apply ByteArray.ext;show(#[]:Array UInt8)++(Lib.bytesOf _).toArray=⟨l⟩
   have:Lib.bytesOf (l.map fun c=>(c.toNat:Int))=l:=by unfold Lib.bytesOf;rw[List.map_map];refine(List.map_congr_left (g:=id) fun c _=> ?_).trans (List.map_id _);simp
   rw[this];simp
  rw[aP,e2]at hl;rw[hn];exact hl
theorem qb{a b:List UInt8}{u v:Value}(ha:iX w a u)(hb:iX w b v):(Extern.BytealgCompare.compare #[u,v]).run P w= .ok (.int .i64 (Lib.compareBytes a b)) w:=by change Sem.run P (do pure (goInt (Extern.BytealgCompare.cmp (<-Extern.Bytes.bytesOf u) (<-Extern.Bytes.bytesOf v)))) w=_;simp only[aA,jW ha,jW hb,Result.andThen,aG,Lib.cmp_eq];rfl
def xfa(l:List UInt8)(c:UInt8):Int:=firstIdx ⟨⟨l⟩⟩ c
theorem uJ{l:List UInt8}{u:Value}{c:UInt8}(ha:iX w l u):(Extern.BytealgIndexByte.indexByte #[u,.int .u8 c.toNat]).run P w= .ok (.int .i64 (xfa l c)) w:=by
 have hs:=run_indexByte_string (P:=P) ⟨⟨l⟩⟩ c.toNat w
 change Sem.run P (do
  let b<-Extern.Bytes.bytesOf u
  let c'<-Extern.Bytes.asByte (.int .u8 c.toNat)
  match (bE b.size).find? fun i=>b[i]! ==c' with
  |some i=>pure (goInt i)
  |none=>pure (goInt (-1))) w=_
 change Sem.run P (do
  let b<-Extern.Bytes.bytesOf (.string ⟨⟨l⟩⟩)
  let c'<-Extern.Bytes.asByte (.int .u8 c.toNat)
  match (bE b.size).find? fun i=>b[i]! ==c' with
  |some i=>pure (goInt i)
  |none=>pure (goInt (-1))) w=_ at hs
 have e:(((c.toNat:Nat):Int).toNat.toUInt8)=c:=by simp
 rw[e]at hs;simp only[aA,jW ha,Result.andThen]at hs ⊢;exact hs
end Go.Sy
namespace Go.Sy
variable [aZ]
structure Eb(T T':fH):Prop where
 fn:∀g b,T.fn g=some b->T'.fn g=some b
 sg:T.sg=T'.sg
variable {T T' : fH}
theorem u9(h:Eb T T'):∀n,leR (fy T n) (fy T' n)
 |0=>fun _ _ _ h=>by cases h
 |n+1=>fun r c x hx=>by
  have ih:=u9 h n;show dD (fy T' n) (fun g args os k=>ma (fy T' n) (T'.fn g) args os k) T'.sg r c=some x;rw[<-h.sg];refine lq ih ?_ hx;intro g a os k q hq;simp only at hq ⊢;cases hf:T.fn g with
  |none=>rw[hf]at hq;cases hq
  |some b=>rw[hf]at hq;rw[h.fn g b hf];exact ip ih hq
theorem Rz{α:Type}{g:Nat->Option α}{x:α}(h:lim g=some x):∃n,g n=some x:=by
 unfold lim at h;split at h
 ·exact⟨_,h⟩
 ·cases h
theorem Gp(h:Eb T T'){g:Nat}{a:List SV}{os:List aF}{k:Nat}{q:dO}(hc:call T g a os k=some q):call T' g a os k=some q:=by
 obtain⟨n,hn⟩:=Rz hc;refine o9 (n:=n) ?_;unfold eB at hn ⊢;cases hf:T.fn g with
 |none=>rw[hf]at hn;cases hn
 |some b=>rw[hf]at hn;rw[h.fn g b hf];exact ip (u9 h n) hn
def fH.add(T:fH)(g:Nat)(F:FnC):fH:=⟨fun k=>if k=g then some (.code F)else T.fn k,T.sg⟩
end Go.Sy
namespace Go.Sy
variable [aZ]
variable {P : Program} {C : Ctx} {x : Sit} {w w' : World} {ob : List (Nat × aF)} {tk : List Nat}
open Go.RowKit Go.ChangeShapes Go.WideShapes
theorem cR.one(h:cR C x ob tk w)(hb:Below w.heap.size w w'){obj:aF}{K:Nat}(hr:dB (x.newO 100 w.heap.size K) w' 100 obj):cR C (x.newO 100 w.heap.size K) [(100,obj)] [] w':=by
 have h1:=(h.sub (ob':=[]) (tk':=[]) (List.nil_sublist _) (fun t ht=>by cases ht)).below hb;have hd2:(x.newO 100 w.heap.size K).bk 100=(w.heap.size,K):=mj _ _ _;refine⟨h1.per,h1.g0,h1.gm,h1.new, ?_,by simp, ?_,(fun t ht=>by cases ht),(fun t ht=>by cases ht),(fun t ht=>by cases ht),h1.os,h1.tape,h1.output,h1.size,h1.ext,fun i hi=>by rw[Sit.newO_ne _ _ _ _ (by omega)];exact h1.pin i hi,h1.lay⟩
 ·intro p hp
  rw[bf]at hp;subst hp;refine⟨hr,by rw[hd2];exact h.new _ h.size,fun off=> ?_⟩;rw[hd2];show x.G w.heap.size off=none;cases hg:x.G w.heap.size off with
  |none=>rfl
  |some v=>exact absurd (h.ltG hg) (by omega)
 ·intro p hp q hq _
  rw[bf]at hp hq;rw[hp,hq]
end Go.Sy
namespace Go.Sy
variable [aZ]
open Go.RowKit Go.ChangeShapes Go.WideShapes
variable {P : Program} {C : Ctx} {x : Sit} {w w' : World} {T T' : fH}
def Sit.grow(x:Sit)(w w':World):Sit:=⟨fun b o=>if w.heap.size<=b then w'.cell? ⟨b,o,none⟩else x.G b o,x.bk,x.τ⟩
theorem jx{b o:Nat}{v:Value}(h:w.cell? ⟨b,o,none⟩=some v):b<w.heap.size:=by
 rcases bY b w.heap.size with h1|h1
 ·exact h1
 ·have h2:w.heap[b]? =none:=Array.getElem?_eq_none h1
  simp only[World.cell?,h2]at h;cases h
theorem F0(hper:∀b o v,x.G b o=some v->w.cell? ⟨b,o,none⟩=some v){b o:Nat}{v:Value}(h:x.G b o=some v):(x.grow w w').G b o=some v:=by show(if w.heap.size<=b then _ else _)=_;rw[if_neg (by have:=jx (hper _ _ _ h);omega)];exact h
theorem wS{g:Nat}{as:List SV}{r:SV}(hcb:dV P g=true)
 (h:∀(x:Sit)(w:World)(vs:List Value),cd x as vs->(∀b o v,x.G b o=some v->w.cell? ⟨b,o,none⟩=some v)->Lay x.G->
  Calls P g ⟨vs⟩ w fun e w'=>∃v,e= .returned v/\Rep (x.grow w w') r v/\Below w.heap.size w w'):jB P g as [] 0 (· =⟨r,[],[]⟩):=by
 refine⟨hcb,fun C x w vs hw hG hm hl hwf hH hr=>(h x w vs hr hH.per (hG ▸ hH.lay)).mono ?_⟩;rintro e w' ⟨v,rfl,hv,hb⟩;have h1:=hH.below hb;refine⟨v,x.grow w w',_,rfl,rfl,hv,⟨?_, ?_, ?_,h1.new,by simp,by simp,by simp,by simp,by simp,by simp,h1.os,h1.tape,h1.output,h1.size,h1.ext,fun i hi=>h1.pin i hi,h1.lay⟩,fun p hp=>by simp at hp,fun i hi=>rfl⟩
 ·intro b o u hu
  have hu':(if w.heap.size<=b then w'.cell? ⟨b,o,none⟩else x.G b o)=some u:=hu;split at hu'
  ·exact hu'
  ·exact h1.per _ _ _ hu'
 ·intro b o u hu
  exact F0 hH.per (hH.g0 _ _ _ hu)
 ·intro b o u hu
  have hu':(if w.heap.size<=b then w'.cell? ⟨b,o,none⟩else x.G b o)=some u:=hu;split at hu'
  ·rename_i hle
   exact .inr (hH.new b (by rw[hw];exact hle))
  ·exact hH.gm _ _ _ hu'
theorem Gn(hT:nK P T){g:Nat}{as:List SV}{r:SV}(h:call T g as [] 0=some ⟨r,[],[]⟩){vs:List Value}(hv:cd (mc w) as vs)(hL:Lay (GW w)):
 Calls P g ⟨vs⟩ w fun e w'=>∃v x',e= .returned v/\Rep x' r v/\Below w.heap.size w w':=by
 obtain⟨h1,h2⟩:=o8 hT _ _ _ _ _ h;refine(h2 ⟨w,GW w,fun b=>w.heap.size<=b,fun _=>(0,0)⟩ (mc w) w vs rfl rfl (fun b hb=> .inl hb) (by simp) (by simp) (Zv w hL) hv).mono ?_;rintro e w' ⟨v,x',q,rfl,rfl,hr,hH,_⟩;exact⟨v,x',rfl,hr,hH.os,hH.tape,hH.output,hH.size,fun k hk=>hH.ext k (by simp;omega)⟩
def fH.addP(T:fH)(g:Nat)(p:List SV->List aF->Nat->Option dO):fH:=⟨fun k=>if k=g then some (.prim p)else T.fn k,T.sg⟩
theorem EO(T:fH){g:Nat}(p:List SV->List aF->Nat->Option dO)(h:T.fn g=none):Eb T (T.addP g p):=⟨fun k b hk=>by show(if k=g then _ else _)=_;rw[if_neg (by rintro rfl;rw[h]at hk;cases hk)];exact hk,rfl⟩
theorem Ce(T:fH)(g:Nat)(p:List SV->List aF->Nat->Option dO):(T.addP g p).fn g=some (.prim p):=if_pos rfl
theorem SN(h:nK P T){g:Nat}{p:List SV->List aF->Nat->Option dO}(hp:∀as os k q,p as os k=some q->jB P g as os k (· =q)):nK P (T.addP g p):=by
 intro k b hb
 by_cases e:k=g
 ·subst e
  rw[Ce]at hb;cases hb;exact hp
 ·have:T.fn k=some b:=by
   have h2:(if k=g then some (FnB.prim p)else T.fn k)=some b:=hb;rwa[if_neg e]at h2
  exact h k b this
end Go.Sy
namespace Go
open Go.Maps (Keyed)
theorem eU{H:Type}{P:Program}{e:TypeId}(he:P.underlying e=some .bool){v:Value}{z:DataW H×List MemPlace}(h:plainElem P e v=some z):∃a,v= .bool a/\z=(.lit (.bool a),[]):=by unfold plainElem at h;rw[he]at h;cases v<;>simp at h;exact⟨_,rfl,h.symm⟩
theorem Db{H:Type}{P:Program}{w:World}{t k e:TypeId}{b n:Nat}{D:DataW H}(hown:w.ownsMap P k (plainElem P e) b n D)(K:Keyed P k)(ht:P.underlying t=some (.map k e))(he:P.underlying e=some .bool)(hz:(zeroValue e).run P w= .ok (.bool false) w){key:Value}{kl:Lit}(hkey:keyOf P k key=some kl): 
 ∃c:Bool,(Instr.lookup t (.map (some b)) key false).run P w= .ok (.bool c) w/\D.atKey kl (.lit (.bool false))= .lit (.bool c):=by
 obtain⟨v,ps,hrun,hv⟩:=hown.lookup K ht hz (plainElem_bool he false) hkey;obtain⟨c,rfl,hc⟩:=eU he hv;simp only[bn.injEq]at hc;exact⟨c,hrun,hc.1⟩
end Go
