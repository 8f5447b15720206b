/- An engine that steps through Go code with symbolic values: sound by proof. No condition. -/
import Derived.Test.YtkggincjigbelaaGreatDoorEcD
import Derived.Below
import Derived.Carry
import Derived.ChangeSlices
import Derived.JoinedCond
import Derived.OpenShut
import Derived.RowKit3
import Derived.SliceStrings
import Derived.Lib.Bytealg
import Derived.Lib.BytesEntry
import Derived.Laws.IdiomCopy
import Derived.Maps.OwnOps
import Derived.Maps.OwnSet
open Array renaming ext' -> dB, getD -> jw, getD_eq_getD_getElem? -> bg, getElem?_eq_some_iff -> db, getElem?_toList -> cD, length_toList -> aP, replicate -> dG
open Bool renaming and_eq_true -> aA, false_eq_true -> aK, not_eq_true' -> dn, or_eq_true -> eu
open List renaming Nodup -> uN, Pairwise -> gY, Sublist -> mf, all_eq_true -> aU, append_nil -> aZ, cons -> tg, cons_append -> aS, contains_eq_mem -> ep, drop_eq_getElem_cons -> bq, drop_eq_nil_of_le -> bO, filter_cons -> j9, filter_eq_self -> gH, flatten_append -> bN, getD_eq_getElem?_getD -> aa, getElem?_append_left -> bv, getElem?_append_right -> bB, getElem?_drop -> br, getElem?_eq_getElem -> ab, getElem?_eq_none -> dV, getElem?_map -> aO, getElem?_range -> bW, getElem?_take -> bK, getElem_mem -> bi, getElem_of_mem -> bM, length_append -> ac, length_cons -> ai, length_drop -> aQ, length_eq_zero_iff -> dJ, length_map -> aN, length_take -> ax, map_append -> cE, map_cons -> aC, mem_append -> al, mem_cons -> an, mem_cons_of_mem -> ao, mem_cons_self -> ay, mem_map -> aR, mem_map_of_mem -> gG, mem_range -> dH, mem_singleton -> aY, nil_append -> aF, nodup_cons -> du, not_mem_nil -> bU, pairwise_append -> dF, pairwise_cons -> bE, pairwise_iff_getElem -> mN, pairwise_map -> fI, range -> bD, replicate -> aD, take_append_drop -> wB, take_length -> bY
open Nat renaming add_mul -> bz, le_refl -> aH, le_trans -> oH, lt_or_ge -> bL, mod_eq_of_lt -> cx, mul_le_mul_right -> bt, mul_one -> fH, zero_add -> cg, zero_mul -> oG
open Option renaming bind_some -> cJ, getD_some -> aX, ite_none_right_eq_some -> aJ, map_eq_some_iff -> ae, map_some -> bn, some -> aq
open Prod renaming fst -> cB, mk -> bh
open Go.Result renaming andThen_ok -> am
open Go.Sem renaming run_bind -> az, run_pure -> aG
open UInt8 renaming ofNat -> fM
set_option linter.unusedVariables false
set_option linter.unusedSimpArgs false
set_option linter.unnecessarySimpa false
set_option linter.unusedSectionVars false
namespace Go.Sy
variable [bd]
variable {P : Program} {C : Ctx} {x : Sit} {a : Act} {w : World} {N : Nat} {c c' : CSt} {s : St} {call : cN} {sg : Nat -> Sig}
def fz(P:Program)(call:cN):Prop:=∀g as os k q,call g as os k=some q->i6 P g as os k (· =q)
theorem wg{sg:Sig}{d:Option Nat}{g:Nat}{as:List SV}(hc:gC call sg c d g as=some c'):∃as' os k q,call g as' os k=some q:=by
 unfold gC at hc;generalize ((SV.idsL as).isEmpty&&sg.own.isEmpty)=b at hc;cases b with
 |true=>
  simp only[jo]at hc;cases hq:call g (SV.bareL as) [] 0 with
  |none=>rw[hq]at hc;cases hc
  |some q=>exact⟨_,_,_,q,hq⟩
 |false=>
  simp only[jo]at hc;generalize eh c as (il sg.raw 0 as)=z at hc;obtain⟨c1,as1⟩:=z;simp only[jg]at hc;generalize js c1.tk sg.own 50 0 as1=z at hc;obtain⟨as2,mt1⟩:=z;simp only[mj]at hc;cases ho:fK c1 (dx c1 60 [] (SV.idsL as2))with
  |none=>rw[ho]at hc;cases hc
  |some os0=>
   rw[ho]at hc;simp only[kz]at hc;generalize dI c1.tk (50+mt1.length) os0=z at hc;obtain⟨os,mt2⟩:=z;simp only[mi]at hc;generalize (mU (SV.idsL as2++eX os) (dx c1 60 [] (SV.idsL as2))&&di (dx c1 60 [] (SV.idsL as2))&&di (ce (mt1++mt2))&&decide ((dx c1 60 [] (SV.idsL as2)).length<=40)&&(dx c1 60 [] (SV.idsL as2)).all fun o=> !inR (d.getD 0) o)=b at hc;cases b with
   |false=>cases hc
   |true=>
    simp only[mh]at hc;cases hq:call g (SV.renL (fS (dx c1 60 [] (SV.idsL as2))) id as2) (dO (fS (dx c1 60 [] (SV.idsL as2))) id os) (mt1.length+mt2.length)with
    |none=>rw[hq]at hc;cases hc
    |some q=>exact⟨_,_,_,q,hq⟩
theorem cL.freeze{ob:List (Nat×aE)}{tk:List Nat}(h:cL C x ob tk w){b:Nat}(hb:C.mine b)(ho:∀p∈ob,(x.bk p.1).1≠b)(ht:∀t∈tk,(x.τ t).1≠b\/(x.τ t).2.1=(x.τ t).2.2)(off n:Nat):
 cL C x ob tk (w.freeze ⟨b,off,none⟩ n):=by
 have hne:∀b',b'≠b->(w.freeze ⟨b,off,none⟩ n).heap[b']? =w.heap[b']? :=by
  intro b' h';unfold World.freeze;split
  ·rfl
  ·simp only[Array.getElem?_modify,if_neg (Ne.symm h')]
 have hcell:∀b' i,(w.freeze ⟨b,off,none⟩ n).cell? ⟨b',i,none⟩=w.cell? ⟨b',i,none⟩:=by
  intro b' i
  by_cases h':b'=b
  ·subst h'
   unfold World.freeze;split
   ·rfl
   ·simp only[World.cell?,Array.getElem?_modify,if_true]
    cases hw:w.heap[b']? with
    |none=>rfl
    |some q=>cases q<;>rfl
  ·exact cW (hne b' h')
 have hsz:(w.freeze ⟨b,off,none⟩ n).heap.size=w.heap.size:=by unfold World.freeze;split<;>simp
 have hos:(w.freeze ⟨b,off,none⟩ n).os=w.os/\(w.freeze ⟨b,off,none⟩ n).tape=w.tape/\(w.freeze ⟨b,off,none⟩ n).output=w.output:=by unfold World.freeze;split<;>exact⟨rfl,rfl,rfl⟩
 refine⟨fun b' i v hv=>by rw[hcell];exact h.per b' i v hv,h.g0,h.gm,h.new,fun p hp=> ?_,h.nd,h.inj,fun t ht'=> ?_,h.tko,h.tkd,hos.1.trans h.os,hos.2.1.trans h.tape,hos.2.2.trans h.output,by rw[hsz];exact h.size,fun b' hb'=> ?_,h.pin,h.lay⟩
 ·obtain⟨⟨cc,e,fl,fh,hO,r⟩,q⟩:=h.obs p hp
  exact⟨⟨cc,e,fl,fh,hO.of_heap (hne _ (ho p hp)),r⟩,q⟩
 ·rcases h.tks t ht' with h1|⟨⟨cc,e,fl,fh,hO,h2⟩,h3⟩
  ·exact .inl h1
  ·rcases ht t ht' with h4|h4
   ·exact .inr ⟨⟨cc,e,fl,fh,hO.of_heap (hne _ h4),h2⟩,h3⟩
   ·exact .inl h4
 ·rw[hne b' (fun e=>hb' (e ▸ hb))];exact h.ext b' hb'
theorem OE{o:Oper}{q:Arg}(hr:bp P o=some (.slid q)):∃src X e,o.op= .convert src src X/\P.underlying src=some (.slice e)/\kL P e=true/\bo P src X=some q:=by
 cases ho:o.op with
 |convert src dst X=>
  simp only[bp,ho]at hr;split at hr<;>try (cases hr;done)
  ·split at hr<;>cases hr
  ·split at hr<;>cases hr
  ·rename_i e q' hs hd hX
   split at hr<;>try (cases hr;done)
   rename_i hc;simp only[aA,decide_eq_true_eq]at hc;obtain⟨rfl,h8⟩:=hc;cases hr;exact⟨src,X,e,rfl,hd,h8,hX⟩
 |_=>exfalso;exact absurd hr (by
  intro hr;simp only[bp,ho]at hr
  first
   |(cases hr;done)
   |(obtain⟨_,_,h⟩:=ae.1 hr;cases h;done)
   |(repeat' split at hr)<;>first|(cases hr;done)|contradiction|(obtain⟨_,_,h⟩:=ae.1 hr;first|(cases h;done)|(split at h<;>cases h;done)))
theorem Eo{o:Oper}{xs:List Arg}(hr:bp P o=some (.newB xs)):False:=by
 cases ho:o.op with
 |buildSlice t len parts=>
  simp only[bp,ho]at hr;split at hr<;>try (cases hr;done)
  split at hr<;>try (cases hr;done)
  split at hr<;>try (cases hr;done)
  obtain⟨_,_,h⟩:=ae.1 hr;split at h<;>cases h
 |_=>
  simp only[bp,ho]at hr
  first
   |(cases hr;done)
   |(obtain⟨_,_,h⟩:=ae.1 hr;cases h;done)
   |(repeat' split at hr)<;>first|(cases hr;done)|contradiction|(obtain⟨_,_,h⟩:=ae.1 hr;first|(cases h;done)|(split at h<;>cases h;done))
theorem Cc{o:Oper}{z:List SV}{b:Nat}{q y:Arg}(hr:bp P o=some (.appO z b q y)):False:=by
 cases ho:o.op with
 |buildSlice t len parts=>
  simp only[bp,ho]at hr;split at hr<;>try (cases hr;done)
  split at hr<;>try (cases hr;done)
  split at hr<;>try (cases hr;done)
  obtain⟨_,_,h⟩:=ae.1 hr;split at h<;>cases h
 |_=>
  simp only[bp,ho]at hr
  first
   |(cases hr;done)
   |(obtain⟨_,_,h⟩:=ae.1 hr;cases h;done)
   |(repeat' split at hr)<;>first|(cases hr;done)|contradiction|(obtain⟨_,_,h⟩:=ae.1 hr;first|(cases h;done)|(split at h<;>cases h;done))
theorem xga{ops:Array Oper}{o:Oper}{i:SI}(h:fq P ops o=some i):i.er=i:=by
 obtain⟨h1,_,_⟩:=j0 h;obtain⟨d,g,op⟩:=i
 have:op.er=op:=by
  cases op with
  |appO z b q y=>
   rcases h1 with h1|⟨xs,e,_⟩
   ·exact(Cc h1).elim
   ·cases e
  |_=>rfl
 show SI.mk d g op.er=_;rw[this]
theorem vh{o:Oper}{q:Arg}(h:M C N c a w)(hr:bp P o=some (.slid q))(hd:∀k,o.dst=some k->k<N)(hc:pm c o.dst (c.ev q)=some c'){K:Act->World->Prop}{Q:Exit->Act->World->Prop}(hK:∀a w,M C N c' a w->K a w):o.wp P a w K Q:=by
 obtain⟨x,s,hM,hS⟩:=h;unfold pm at hc;split at hc<;>try (cases hc;done)
 rename_i o' off n cap hq;unfold m6 at hc;split at hc<;>try (cases hc;done)
 rename_i l hl;split at hc<;>try (cases hc;done)
 rename_i hcond;obtain⟨hb,rfl⟩:=hcond;cases hc;obtain⟨src,X,e,ho,hu,h8,hX⟩:=OE hr;have hv:=aL hM hX;rw[hS.ev,hq]at hv;obtain⟨cp,hnc,hcp,off',hval,hoff⟩:=hv.psl_inv;have hls:s.look o'=some (.bar l):=(hS.look o').trans hl;obtain⟨cc,e',fl,fh,hO,hsz,_⟩:=ek hM hls;have hob:=hM.heap.obs _ (cM hls);obtain⟨x',⟨hβ,hτ⟩,hp,s',hM',hS'⟩:=ni hl (fun cs e=>by cases e) hM hS
 have hval':Rep x' (.byt ((l.drop off).take n) .clip) (a.eval X):=by have:=hp _ _ hv;simpa only[SV.pub,if_true,vC,true_and,if_pos hb]using this
 have h1:∀p∈s'.ob,(x'.bk p.1).1≠(x.bk o').1:=by intro p hp' e;rw[hβ]at e;have h2:s'.look p.1=some p.2:=vK hM'.heap.nd hp';rw[hS'.look]at h2;obtain⟨h3,q',h4,_⟩:=jO (iG h2);have h5:=iE (iA hS.inv.so) h4;exact h3 (hM.heap.inj (p.1,q') (cM ((hS.look p.1).trans h5)) _ (cM hls) e)
 have h2:∀t∈s'.tk,(x'.τ t).1≠(x.bk o').1\/(x'.τ t).2.1=(x'.τ t).2.2:=by intro t ht;rw[hτ];exact hM.heap.tko t ((hS.tk t).2 ((hS'.tk t).1 ht)) _ (cM hls)
 have hfr:aM C x' s' a (w.freeze ⟨(x.bk o').1,cc.size,none⟩ 1):=⟨hM'.tm,hM'.defers,hM'.heap.freeze hob.2.1 h1 h2 _ _⟩
 have hrun:(execOp a.eval o).run P w= .ok (.value (a.eval X)) (w.freeze ⟨(x.bk o').1,cc.size,none⟩ 1):=by have hm:(markStringish ⟨(x.bk o').1,off',none⟩).run P w= .ok () (w.freeze ⟨(x.bk o').1,cc.size,none⟩ 1):=dR (e:=e') (by simp only[World.shape?,hO.1]);simp only[execOp,ho,hval,convert,az,run_underlying hu,am,beq_self_eq_true,run_underlying (iF h8),hm,aG]
 refine cU ⟨a.eval X,_,x',_,hrun,.inl rfl,hfr.put o.dst hval'⟩ (k:=Sim N _) ?_ hK;have e1:(c.publish o' []).1=⟨kH o' (.bar l) c.tm,ki o' (.bar l) c.ob,c.tk⟩:=by unfold CSt.publish;rw[hl]
 rw[e1];exact hS'.put hd _
theorem nu{o:Oper}{xs:List Arg}(h:M C N c a w)(hr:bp P o=some (.litB xs))(hd:∀k,o.dst=some k->k<N)(hc:mu c o.dst (toB (evL c xs))=some c'){K:Act->World->Prop}{Q:Exit->Act->World->Prop}(hK:∀a w,M C N c' a w->K a w):o.wp P a w K Q:=by
 obtain⟨x,s,hM,hS⟩:=h;rw[hS.evL]at hc;unfold mu at hc;split at hc<;>try (cases hc;done)
 rename_i k l hk hl;cases hc;obtain⟨t,len,parts,ho⟩:=PB hr;obtain⟨r,e,hrun,hsz,hcell⟩:=vr hM ho hr hl
 have hM':=hM.newObj (d:=k+100) o.dst (by omega) (.bar l) (val:= .psl (k+100) 1 0 l.length (some l.length)) (u:= .slice (some ⟨w.heap.size,0,none⟩) l.length l.length) (t:=e) hsz (fun i hi=>by
  show cw x.G (.u8 (l.getD i 0)) _;rw[hcell i hi];exact .u8 _) (by
  have:=Rep.psl (x:=x.newO (k+100) w.heap.size) (k+100) 1 0 l.length (some l.length) 0 l.length (.inr rfl) (aH _) (fun _ e=>by cases e;rfl) (fun e=>by cases e);rwa[iD]at this)
 refine cU ⟨_,_,_,_,hrun,.inl rfl,hM'⟩ (k:=Sim N _) ?_ hK;have:=hS.app hd (e:= {val:= .psl (k+100) 1 0 l.length (some l.length),new:=some (.bar l)}) (f:= {pre:=True,val:= .psl (k+100) 1 0 l.length (some l.length),new:=some (.bar l)}) ⟨rfl,rfl,rfl,rfl,rfl⟩ ⟨fun ob he=>by cases he;rfl,.inl rfl⟩;rw[hk]at this ⊢;exact this
theorem E6(hM:aM C x s a w)(hS:Sim N c s){g:Nat}{t:Bool}(h:c.get g= .bool t):a.tmps[g]? =some (.bool t):=(E8 hM (by rw[hS.get];exact h)).2.1
theorem sW{ops:Array Oper}{o:Oper}{j g:Nat}{b:Bool}(h:o.guard=some (j,b))(hg:(ops[j]?).bind (·.dst)=some g)(ht:∀t,a.tmps[g]? ≠some (.bool t)):Region.wanted o (yielded ops a.tmps)=false:=by
 have hy:yielded ops a.tmps j=none:=by
  unfold yielded;rw[hg,cJ];cases hv:a.tmps[g]? with
  |none=>rfl
  |some v=>
   cases v with
   |bool t=>exact absurd hv (ht t)
   |_=>rfl
 simp only[Region.wanted,h,hy];rfl
theorem tL{x:Sit}:Rep x (.tup []) Go.undef:= .tup [] [] rfl fun i hi=>by simp at hi
theorem E7(hM:aM C x s a w)(hS:Sim N c s){g:Nat}(h:c.get g= .tup []):∀t,a.tmps[g]? ≠some (.bool t):=by
 intro t ht;have h1:=hM.slot g;rw[hS.get,h]at h1
 have h2:a.tmps.getD g Go.undef= .bool t:=by rw[bg,ht];rfl
 replace h1:Rep x (.tup []) (a.tmps.getD g Go.undef):=h1;rw[h2]at h1;cases h1 with
 |dat _ _ h _=>cases h
theorem FU{o:Oper}{q:Arg}(hr:bp P o=some (.s2b q)):∃src dst X e,o.op= .convert src dst X/\P.underlying src=some .string/\P.underlying dst=some (.slice e)/\kL P e=true/\bo P src X=some q:=by
 cases ho:o.op with
 |convert src dst X=>
  simp only[bp,ho]at hr;split at hr<;>try (cases hr;done)
  ·split at hr<;>cases hr
  ·rename_i e q' hs hd hX
   split at hr<;>try (cases hr;done)
   rename_i h8;cases hr;exact⟨src,dst,X,e,rfl,hs,hd,h8,hX⟩
  ·split at hr<;>cases hr
 |_=>exfalso;exact absurd hr (by
  intro hr;simp only[bp,ho]at hr
  first
   |(cases hr;done)
   |(obtain⟨_,_,h⟩:=ae.1 hr;cases h;done)
   |(repeat' split at hr)<;>first|(cases hr;done)|contradiction|(obtain⟨_,_,h⟩:=ae.1 hr;first|(cases h;done)|(split at h<;>cases h;done)))
theorem xcT{o:Oper}{z:List SV}{b:Nat}{q r:Arg}(hr:bp P o=some (.app z b q r)):∃cl,o.op= .call cl/\cl.callee= .builtin .append:=by
 cases ho:o.op with
 |call cl=>
  refine⟨cl,rfl, ?_⟩;cases hb:cl.callee with
  |builtin bb=>
   cases bb with
   |append=>rfl
   |_=>
    exfalso;simp only[bp,ho,hb]at hr
    first
     |(cases hr;done)
     |(repeat' split at hr)<;>first|(cases hr;done)|contradiction
  |_=>
   exfalso;simp only[bp,ho,hb]at hr
   first
    |(cases hr;done)
    |(repeat' split at hr)<;>first|(cases hr;done)|contradiction
 |_=>exfalso;exact absurd hr (by
  intro hr;simp only[bp,ho]at hr
  first
   |(cases hr;done)
   |(obtain⟨_,_,h⟩:=ae.1 hr;cases h;done)
   |(repeat' split at hr)<;>first|(cases hr;done)|contradiction|(obtain⟨_,_,h⟩:=ae.1 hr;first|(cases h;done)|(split at h<;>cases h;done)))
theorem aM.newObjF(hM:aM C x s a w){d:Nat}(sl:Option Nat)(hd100:100<=d){cv:Array Value}{t:TypeId}{fl fh:Nat}(obj:aE){val:SV}{u:Value}(hf:∀i,i<cv.size->¬(fl<=i/\i<fh))(hs:obj.size<=cv.size)(hr:∀k,k<obj.size->bZ x obj k (cv.getD k Go.undef))
 (hmk:obj.arrB=true->¬(fl<=cv.size/\cv.size<fh)) (hv:Rep (x.newO d w.heap.size cv.size) val u) {w':World} (hw:w'.heap=(w.alloc (.cells cv t (fl,fh))).heap) (h1:w'.os=w.os) (h2:w'.tape=w.tape) (h3:w'.output=w.output):
 aM C (x.newO d w.heap.size cv.size) (((s.purge d (d+1)).addO d (obj.purge d (d+1))).put sl val) (a.put sl u) w':=by
 refine aM.put ⟨?_,hM.defers, ?_⟩ sl hv
 ·exact cd.mono (x:=x) (x':=x.newO d w.heap.size cv.size) (lo:=d) (hi:=d+1) (fun _ _ _ h=>h) (Sit.newO_ne x d _) (fun _ _=>rfl) hM.tm
 ·exact cL.congr (w:=w.alloc (.cells cv t (fl,fh))) (hM.heap.allocO d hd100 obj hf hs hr (aH _) hmk) hw h1 h2 h3
theorem aM.drew(hM:aM C x s a w):aM C x s a w.drew:=⟨hM.tm,hM.defers,hM.heap.drew⟩
theorem vG{o:Oper}{q:Arg}(h:M C N c a w)(hr:bp P o=some (.s2b q))(hd:∀k,o.dst=some k->k<N)(hc:Pj c o.dst (c.ev q)=some c'){K:Act->World->Prop}{Q:Exit->Act->World->Prop}(hK:∀a w,M C N c' a w->K a w):o.wp P a w K Q:=by
 obtain⟨x,s,hM,hS⟩:=h;unfold Pj at hc;split at hc<;>try (cases hc;done)
 rename_i k l hk hl;cases hc;obtain⟨src,dst,X,e,ho,hs,hdd,h8,hX⟩:=FU hr;have he:=iF h8;have h1:=aL hM hX;rw[hS.ev,hl]at h1;have hf:(Question.appendCap (ByteArray.mk ⟨l⟩).size 0 e).forced=false:=rfl
 obtain⟨cp,hcp,hge⟩:∃cp,(Question.appendCap (ByteArray.mk ⟨l⟩).size 0 e).cut (w.tape w.drawn (Question.appendCap (ByteArray.mk ⟨l⟩).size 0 e))=cp/\l.length<=cp:=by
  refine⟨_,rfl, ?_⟩;simp only[Question.cut];have:(ByteArray.mk ⟨l⟩).size=l.length:=by simp[ByteArray.size]
  omega
 let cs:Array Value:=(ByteArray.mk ⟨l⟩).data.map (fun b=> .int .u8 b.toNat)++dG (cp-(ByteArray.mk ⟨l⟩).size) (.int .u8 0)
 have hsz:(ByteArray.mk ⟨l⟩).size=l.length:=by simp[ByteArray.size]
 have hcs:cs.size=cp:=by simp[cs,hsz];omega
 have hget:∀i,i<l.length->cs[i]? =some (.int .u8 (l.getD i 0).toNat):=by intro i hi;simp only[cs];rw[Array.getElem?_append_left (by simpa using hi)];simp[hi,aa]
 have hrun:(execOp a.eval o).run P w= .ok (.value (.slice (some ⟨w.heap.size,0,none⟩) l.length cp)) ((w.drew.alloc (.cells cs e (0,0))).freeze ⟨w.heap.size,cs.size,none⟩ 1):=by simp only[execOp,ho,h1.str_inv,convert,az,run_underlying hs,run_underlying hdd,am,run_underlying he,Conv.stringToBytes,run_choose_drew,hf,aK,if_false,hcp,newRow,run_newObj_alloc,aG];rw[dR (e:=e) (n:=cs.size) (by simp only[World.shape?];rw[dq])];simp only[am,hsz];rfl
 have hM':=hM.drew.newObjF (d:=k+100) o.dst (by omega) (.bar l) (cv:=cs) (t:=e) (fl:=cs.size) (fh:=cs.size+1) (val:= .psl (k+100) 1 0 l.length none) (u:= .slice (some ⟨w.heap.size,0,none⟩) l.length cp) (fun i hi h=>by omega) (by simp only[aE.size];omega) (fun i hi=>by
  simp only[aE.size]at hi;show cw x.G (.u8 (l.getD i 0)) _;have:cs.getD i Go.undef= .int .u8 (l.getD i 0).toNat:=by rw[bg,hget i hi];rfl
  rw[this];exact .u8 _) (fun h=>by cases h) (by
  have:=Rep.psl (x:=x.newO (k+100) w.drew.heap.size cs.size) (k+100) 1 0 l.length none 0 cp (.inr rfl) hge (fun _ e=>by cases e) (fun _=> .inr (by rw[lx,hcs];omega));rw[iD]at this;exact this) (fL w.drew cs e) rfl rfl rfl
 refine cU ⟨_,_,_,_,hrun,.inl rfl,hM'⟩ (k:=Sim N _) ?_ hK;have:=hS.app hd (e:= {val:= .psl (k+100) 1 0 l.length none,new:=some (.bar l)}) (f:= {pre:=True,val:= .psl (k+100) 1 0 l.length none,new:=some (.bar l)}) ⟨rfl,rfl,rfl,rfl,rfl⟩ ⟨fun ob he=>by cases he;rfl,.inl rfl⟩;rw[hk]at this ⊢;exact this
theorem uV{o:Oper}{q:Arg}(h:M C N c a w)(hr:bp P o=some (.s2b q))(hd:∀k,o.dst=some k->k<N)(hc:On c o.dst (c.ev q)=some c'){K:Act->World->Prop}{Q:Exit->Act->World->Prop}(hK:∀a w,M C N c' a w->K a w):o.wp P a w K Q:=by
 obtain⟨x,s,hM,hS⟩:=h;unfold On at hc;split at hc<;>try (cases hc;done)
 rename_i k l hk hl;cases hc;obtain⟨src,dst,X,e,ho,hs,hdd,h8,hX⟩:=FU hr;have he:=iF h8;have h1:=aL hM hX;rw[hS.ev,hl]at h1;have hf:(Question.appendCap (ByteArray.mk ⟨l⟩).size 0 e).forced=false:=rfl
 obtain⟨cp,hcp,hge⟩:∃cp,(Question.appendCap (ByteArray.mk ⟨l⟩).size 0 e).cut (w.tape w.drawn (Question.appendCap (ByteArray.mk ⟨l⟩).size 0 e))=cp/\l.length<=cp:=by
  refine⟨_,rfl, ?_⟩;simp only[Question.cut];have:(ByteArray.mk ⟨l⟩).size=l.length:=by simp[ByteArray.size]
  omega
 let cs:Array Value:=(ByteArray.mk ⟨l⟩).data.map (fun b=> .int .u8 b.toNat)++dG (cp-(ByteArray.mk ⟨l⟩).size) (.int .u8 0)
 have hsz:(ByteArray.mk ⟨l⟩).size=l.length:=by simp[ByteArray.size]
 have hcs:cs.size=cp:=by simp[cs,hsz];omega
 have hget:∀i,i<l.length->cs[i]? =some (.int .u8 (l.getD i 0).toNat):=by intro i hi;simp only[cs];rw[Array.getElem?_append_left (by simpa using hi)];simp[hi,aa]
 have hrun:(execOp a.eval o).run P w= .ok (.value (.slice (some ⟨w.heap.size,0,none⟩) l.length cp)) ((w.drew.alloc (.cells cs e (0,0))).freeze ⟨w.heap.size,cs.size,none⟩ 1):=by simp only[execOp,ho,h1.str_inv,convert,az,run_underlying hs,run_underlying hdd,am,run_underlying he,Conv.stringToBytes,run_choose_drew,hf,aK,if_false,hcp,newRow,run_newObj_alloc,aG];rw[dR (e:=e) (n:=cs.size) (by simp only[World.shape?];rw[dq])];simp only[am,hsz];rfl
 have hG:∀o,x.G w.heap.size o=none:=by
  intro o;cases hg:x.G w.heap.size o with
  |none=>rfl
  |some v=>exact absurd (hM.heap.ltG hg) (by omega)
 have hle:=hM.heap.newD_le cs l.length;have hH:cL C (x.newD w.heap.size cs l.length) s.ob s.tk (w.drew.alloc (.cells cs e (cs.size,cs.size+1))):=hM.heap.drew.allocD l.length;have hown:eC (w.drew.alloc (.cells cs e (cs.size,cs.size+1))) w.heap.size cs e cs.size (cs.size+1):=⟨dq (w:=w.drew),fun i _ h=>by omega⟩
 have hH2:cL C ((x.newD w.heap.size cs l.length).newT (k+100) w.heap.size l.length cp) (bw (k+100) (k+100+1) s.ob) ((k+100)::cf (k+100) (k+100+1) s.tk) (w.drew.alloc (.cells cs e (cs.size,cs.size+1))):=by
  refine hH.addT (k+100) w.heap.size _ _ (.inr ⟨⟨cs,e,_,_,hown,by omega⟩,hM.heap.new _ hM.heap.size,fun o h1 h2=> ?_⟩) (.inr fun p hp _=> ?_) (.inr fun u hu _=> ?_)
  ·simp only[Sit.newD];rw[if_neg (by omega)];exact hG o
  ·obtain⟨⟨c2,e2,fl2,fh2,hO2,_⟩,_⟩:=hM.heap.obs p hp
   have:=hO2.lt;show w.heap.size≠(x.bk p.1).1;omega
  ·rcases hM.heap.tks u hu with h|⟨⟨c2,e2,fl2,fh2,hO2,_⟩,_⟩
   ·exact .inr h
   ·have:=hO2.lt
    exact .inl (by show w.heap.size≠(x.τ u).1;omega)
 have hM':aM C ((x.newD w.heap.size cs l.length).newT (k+100) w.heap.size l.length cp) ((s.grew .no (k+100)).put o.dst (.byt l (.id (k+100)))) (a.put o.dst (.slice (some ⟨w.heap.size,0,none⟩) l.length cp)) ((w.drew.alloc (.cells cs e (0,0))).freeze ⟨w.heap.size,cs.size,none⟩ 1):=by
  refine aM.put ⟨?_,hM.defers, ?_⟩ o.dst ?_
  ·exact cd.mono (x:=x) (x':=(x.newD w.heap.size cs l.length).newT (k+100) w.heap.size l.length cp) (lo:=k+100) (hi:=k+100+1) hle (fun _ _=>rfl) (Sit.newT_ne (x.newD w.heap.size cs l.length) (k+100) _ _ _) hM.tm
  ·exact cL.congr (w:=w.drew.alloc (.cells cs e (cs.size,cs.size+1))) hH2 (fL w.drew cs e) rfl rfl rfl
  ·refine .dat _ _ (.byt l _ w.heap.size 0 cp l.length rfl hge fun i hi=> ?_) ⟨_,l.length,cp,rfl,.inr ⟨w.heap.size,0,rfl, ?_⟩⟩
   ·show(x.newD w.heap.size cs l.length).G w.heap.size (0+i)=_
    simp only[Sit.newD];rw[if_pos ⟨trivial,by omega⟩,cg];exact hget i hi
   ·rw[Sit.newT_eq,fH,fH,cg,cg]
 refine cU ⟨_,_,_,_,hrun,.inl rfl,hM'⟩ (k:=Sim N _) ?_ hK;have:=hS.app hd (e:= {val:= .byt l (.id (k+100)),tok:=true}) (f:= {pre:=True,val:= .byt l (.id (k+100)),tok:=true}) ⟨rfl,rfl,rfl,rfl,rfl⟩ ⟨fun ob he=>(by cases he),.inl rfl⟩;rw[hk]at this ⊢;exact this
theorem qt(hM:aM C x s a w){t u el:TypeId}{d2:TypeDesc}{n by_:Nat}{zs:List Value}(hd:P.underlying t=some (.slice el))(hu:P.underlying u=some d2)(hu2:(∃e',d2= .slice e')\/d2= .string)(hn:eH P el=some n)(hb:rH P el=some by_)
 (hz:fm P el=some zs) (hb0:by_≠0) (hzl:zs.length=n) {ty:TypeId} {X Y:Value} {fl fl':List SV} {ns:List Value} {len m cap:Nat} (hX:Br x.G n fl X len cap)
 (hlen:∀w',w'.heap=w.heap->(Builtin.lenOf Y).run P w'= .ok m w') (hcells:∀w',w'.heap=w.heap->(Builtin.firstCells n m Y).run P w'= .ok ns.toArray w') (hnl:ns.length=m*n) (hnew:New x ns fl') (hroom:(len+m)*by_<=140737488355328) (hc:¬len+m<=cap):
 ∃nc cv,len+m<=nc/\(Builtin.append_ #[t,u] ty #[X,Y]).run P w= .ok (.slice (some ⟨w.heap.size,0,none⟩) (len+m) nc) (w.drew.alloc (.cells cv el (0,0)))/\((fl++fl').length<=cv.size/\nc*n<=cv.size)/\∀k,k<(fl++fl').length->cw x.G ((fl++fl').getD k .undef) (cv.getD k Go.undef):=by
 obtain⟨hfl,hlc,hX'⟩:=hX;obtain⟨z,hzc,hzr⟩:=cH hz
 obtain⟨i,hi,hib⟩:∃i,P.info? el=some i/\i.bytes=by_:=by
  unfold rH at hb;cases hi:P.info? el with
  |none=>simp[hi]at hb
  |some i=>simp[hi]at hb;exact⟨i,rfl,hb⟩
 obtain⟨bs,hXe⟩:∃bs,X= .slice bs len cap:=by
  rcases hX' with⟨b,off,rfl,_⟩|⟨⟨a,rfl⟩,rfl,rfl⟩
  ·exact⟨_,rfl⟩
  ·exact⟨_,rfl⟩
 subst hXe;have hfl':fl'.length=m*n:=by rw[hnew.len,hnl]
 obtain⟨os,hos,hosl,hosv⟩:∃os:List Value,(∀w',w'.heap=w.heap->(Builtin.firstCells n len (.slice bs len cap)).run P w'= .ok os.toArray w')/\os.length=fl.length/\∀k,k<fl.length->cw x.G (fl.getD k .undef) (os.getD k Go.undef):=by
  rcases hX' with⟨b,off,he,hr⟩|⟨he,h1,h2⟩
  ·simp only[Value.slice.injEq]at he
   obtain⟨rfl,_⟩:=he;refine⟨(bD (len*n)).map fun k=>(w.cell? ⟨b,off+k,none⟩).getD Go.undef,fun w' hw'=> ?_,by simp[hfl],fun k hk=> ?_⟩
   ·simp only[Builtin.firstCells]
    refine run_loadCells w' _ _ _ fun j hj=> ?_
    rw[cX,cW (w:=w) (by rw[hw'])];obtain⟨v,hv,_⟩:=hr j (by omega);rw[hM.heap.per _ _ _ hv];rfl
   ·obtain⟨v,hv,hrv⟩:=hr k hk
    have:((bD (len*n)).map fun k=>(w.cell? ⟨b,off+k,none⟩).getD Go.undef).getD k Go.undef=v:=by rw[aa];simp[show k<len*n from by omega,hM.heap.per _ _ _ hv]
    rw[this];exact hrv
  ·obtain⟨a,he⟩:=he
   simp only[Value.slice.injEq]at he;obtain⟨rfl,rfl,_⟩:=he;have:fl=[]:=dJ.1 (by rw[<-hfl,h1,oG]);subst this;exact⟨[],fun w' _=>by cases bs<;>simp only[Builtin.firstCells,oG]<;>rfl,rfl,fun k hk=>by simp at hk⟩
 obtain⟨nc,hnc,hrun⟩:=jz (t:=t) (u:=u) (ty:=ty) (Y:=Y) hd hu hu2 hn hi hib hb0 hzr hlen hcells hos hc hroom;refine⟨nc,_,hnc,hrun, ?_,fun k hk=> ?_⟩
 ·have hzs:z.cells.size=n:=by rw[<-aP,hzc];exact hzl
  have e3:len*n+m*n+(nc-(len+m))*n=nc*n:=by rw[<-bz,<-bz];congr 1;omega
  simp only[ac,Array.size_append,List.size_toArray,hosl,<-hnew.len,dZ,hzs];omega
 ·have hkl:k<os.length+ns.length:=by rw[hosl,<-hnew.len,<-ac];exact hk
  rw[bg,jE os ns _ k hkl]
  by_cases hk1:k<fl.length
  ·have e1:(fl++fl').getD k .undef=fl.getD k .undef:=by simp only[aa,bv hk1]
   have e2:((os++ns)[k]?).getD Go.undef=os.getD k Go.undef:=by simp only[aa,bv (show k<os.length by omega)]
   rw[e1,e2];exact hosv k hk1
  ·have e1:(fl++fl').getD k .undef=fl'.getD (k-fl.length) .undef:=by simp only[aa,bB (Nat.le_of_not_lt hk1)]
   have e2:((os++ns)[k]?).getD Go.undef=ns.getD (k-fl.length) Go.undef:=by simp only[aa,bB (show os.length<=k by omega),hosl]
   rw[e1,e2];exact hnew.rep _ (by rw[ac]at hk;omega)
theorem j7{n:Nat}{fl:List SV}{X:Value}{len cap:Nat}(hX:Br x.G n fl X len cap)(hsp:cY x n .clip X):cap=len:=by
 obtain⟨a,k,he⟩:=hsp;obtain⟨_,_,hX'⟩:=hX;rcases hX' with⟨b,off,h,_⟩|⟨h,h1,h2⟩
 ·rw[h]at he;simp only[Value.slice.injEq]at he;omega
 ·omega
theorem l3(o:Nat)(obj:aE):∀l:List (Nat×aE),bw o (o+1) (setO o obj l)=bw o (o+1) l
 |[]=>rfl
 |p::r=>by
  simp only[setO]
  by_cases hp:p.1=o
  ·rw[if_pos hp]
   simp only[bw];rw[if_pos (by omega),if_pos (by omega)]
  ·rw[if_neg hp]
   simp only[bw];rw[if_neg (by omega),if_neg (by omega),l3 o obj r]
theorem vE{o:Oper}{z:List SV}{by_ o' sz n:Nat}{r q:Arg}(h:M C N c a w)(hr:bp P o=some (.app z by_ r q))(hd:∀k,o.dst=some k->k<N)(hx:c.ev r= .psl o' sz 0 n none)
 (hc:Mo c z by_ o' sz n o.dst (fb c z.length (.psl o' sz 0 n none)) (fb c z.length (c.ev q))=some c') {K:Act->World->Prop} {Q:Exit->Act->World->Prop} (hK:∀a w,M C N c' a w->K a w):o.wp P a w K Q:=by
 obtain⟨x,s,hM,hS⟩:=h;obtain⟨X,Y,t,u,el,d2,zs,I,hu2,_⟩:=QV hr (.inl rfl) a;have hu2:=hu2 rfl;have h1:=aL hM I.hX;have h2:=aL hM I.hY;rw[hS.ev,hx]at h1;unfold Mo at hc;split at hc<;>try (cases hc;done)
 rename_i k R0 R1 hk hR0 hR1;rw[aJ]at hc;obtain⟨⟨rfl,hR0l,hroom⟩,hc⟩:=hc;obtain⟨p0,hR0',hp0⟩:=jI hS hR0;obtain⟨p1,hR1',hp1⟩:=jI hS hR1;rw[<-hS.ev]at hR1';obtain⟨os,g0,n0,s0⟩:=nZ (P:=P) hM h1 hR0' hp0;obtain⟨ns,g1,n1,s1⟩:=nZ (P:=P) hM h2 hR1' hp1
 obtain⟨xs,hl,hbd,hR0e⟩:∃xs,c.look o'=some (.arr z.length xs)/\n<=xs.length/\R0=xs.take n:=by
  simp only[fb]at hR0;split at hR0
  ·rename_i sz'' xs hl
   obtain⟨⟨_,e1,e2⟩,e3⟩:=bC hR0;exact⟨xs,by rw[hl,<-e1],by omega,by rw[<-e3];rfl⟩
  ·cases hR0
 obtain⟨cp,hncp,off',hXe,hoff,hkk⟩:=h1.psl_invK;have hnl:ns.length=R1.length*z.length:=by rw[<-n1.len,bx g1]
 have hol:os.length=n*z.length:=by rw[<-n0.len,bx g0,hR0l]
 have hls:s.look o'=some (.arr z.length xs):=(hS.look o').trans hl;obtain⟨cc,e,fl,fh,hO,⟨hsz,hsz2,hsz3⟩,hcell⟩:=ek hM hls;have hrows:∀y∈R0++R1,y.length=z.length:=fun y hy=>(al.1 hy).elim (g0 y) (g1 y)
 have hrx:∀y∈xs,y.length=z.length:=hS.rows hl;have hN:=n0.append n1;rw[<-bN]at hN;have hsize:(aE.arr z.length (R0++R1)).size=(n+R1.length)*z.length:=by simp only[aE.size,ac,hR0l]
 have hsim:=(hS.purge o' (o'+1)).app (d:=o.dst) hd (e:= {val:= .psl (k+100) z.length 0 (n+R1.length) none,new:=some (.arr z.length (R0++R1))}) (f:= {pre:=True,val:= .psl (k+100) z.length 0 (n+R1.length) none,new:=some (.arr z.length (R0++R1))}) ⟨rfl,rfl,rfl,rfl,rfl⟩ ⟨fun ob he=>by cases he;exact iz.2 hrows,.inl rfl⟩;have hce:=aq.inj hc;subst hce;have hex:=I.ex;rw[hXe]at hex;have e5:(n+R1.length)*z.length=n*z.length+R1.length*z.length:=bz _ _ _
 by_cases hfit:n+R1.length<=cp
 ·have hfitc:n*z.length+ns.length<=cc.size:=by
   rcases hkk with h0|h0
   ·have h3:n=0:=by omega
    have h4:R1.length=0:=by omega
    rw[hnl,h3,h4];omega
   ·have h3:(n+R1.length)*z.length<=cp*z.length:=bt _ hfit
    rw[hnl];omega
  obtain⟨q1,q2,q3,q4,q5⟩:=fu ((x.bk o').1) ns w (n*z.length);obtain⟨c2,hO2,hcs,hck⟩:=eP ns w (n*z.length) cc hO hfitc
  have hM1:aM C x (s.setO o' (.arr z.length (R0++R1))) a (ct w ((x.bk o').1) (n*z.length) ns):=
   ⟨hM.tm,hM.defers,hM.heap.block (cM hls) q1 q2 q3 q4 q5 ⟨c2,e,fl,fh,hO2,⟨by rw[hsize,hcs];omega,by rw[hcs];exact hsz2,fun h=>by rw[hcs];exact hsz3 rfl⟩,fun i hi=>by
    rw[hsize]at hi;rw[hck i];have hi2:i<(R0++R1).length*z.length:=by rw[ac,hR0l];exact hi
    show cw x.G ((((R0++R1)).getD (i/z.length) []).getD (i % z.length) .undef) _;rw[<-cz _ hrows i hi2,bN];have hfl0:R0.flatten.length=n*z.length:=by rw[bx g0,hR0l]
    by_cases hin:n*z.length<=i
    ·rw[if_pos ⟨hin,by omega⟩]
     have:=n1.rep (i-n*z.length) (by rw[bx g1];omega);rw[aa,bB (by omega),hfl0,<-aa];exact this
    ·rw[if_neg (fun h=>hin h.1)]
     have hlt:n*z.length<=xs.length*z.length:=bt _ hbd;have h3:=hcell i (by simp only[aE.size];omega);change cw x.G ((xs.getD (i/z.length) []).getD (i % z.length) .undef) _ at h3;rw[<-cz xs hrx i (by omega)]at h3;rw[aa,bv (by omega),hR0e]
     have e6:xs.flatten[i]? =(xs.take n).flatten[i]? :=by
      have:xs.flatten=(xs.take n).flatten++(xs.drop n).flatten:=by rw[<-bN,wB]
      rw[this,bv (by rw[<-hR0e];omega)]
     rw[<-e6,<-aa];exact h3⟩⟩
  have hM2:=hM1.move (d:=k+100) (by omega) (obj:= .arr z.length (R0++R1)) (by show(setO o' _ s.ob).lookup o'=_;have h3:s.ob.lookup o'=some (.arr z.length xs):=hls;rw[jA,if_pos ⟨rfl,by rw[h3];rfl⟩]) (fun cs e=>by cases e)
  have hpe:(s.setO o' (.arr z.length (R0++R1))).purge o' (o'+1)=s.purge o' (o'+1):=by simp only[St.purge,St.setO,l3]
  rw[hpe]at hM2;have hd2:(x.newO (k+100) (x.bk o').1 (x.bk o').2).bk (k+100)=x.bk o':=if_pos rfl
  have hv:Rep (x.newO (k+100) (x.bk o').1 (x.bk o').2) (.psl (k+100) z.length 0 (n+R1.length) none) (.slice (some ⟨(x.bk o').1,off',none⟩) (n+R1.length) cp):=by have:=Rep.psl (x:=x.newO (k+100) (x.bk o').1 (x.bk o').2) (k+100) z.length 0 (n+R1.length) none off' cp hoff hfit (fun _ e=>by cases e) (fun _=>by rw[hd2];exact hkk);rw[hd2]at this;exact this
  have hM3:=hM2.put o.dst hv
  have hrun:=gu (P:=P) (t:=t) (u:=u) (ty:=o.type) (Y:=a.eval Y) (bs:=some ⟨(x.bk o').1,off',none⟩) (len:=n) (m:=R1.length) (cap:=cp) (w1:=ct w ((x.bk o').1) (n*z.length) ns) I.hd I.hu hu2 I.hn (s1.len w rfl) (s1.cells w rfl) hfit (by
   simp only[cX]
   by_cases hc0:cp=0
   ·have:ns=[]:=dJ.1 (by
     rw[hnl];have:R1.length=0:=by omega
     rw[this,oG])
    rw[this];simp[storeCells,ct]
   ·rw[hoff.resolve_left hc0,oG,cg]
    exact eN (n*z.length) ns w cc 0 hO (by omega) n1.one)
  refine cU ⟨_,_,_,.value _, ?_,.inl rfl,hM3⟩ (k:=Sim N _) ?_ hK
  ·rw[hex];simp only[az,hrun,am,aG]
  ·rw[hk]at hsim ⊢
   exact hsim
 ·obtain⟨i,hi,hib⟩:=CT I.hby
  obtain⟨zv,hzc,hzr⟩:=cH I.hz
  obtain⟨nc,hnc,hrun⟩:=jz (P:=P) (t:=t) (u:=u) (ty:=o.type) (Y:=a.eval Y) (bs:=some ⟨(x.bk o').1,off',none⟩) (len:=n) (m:=R1.length) (cap:=cp) (os:=os) (ns:=ns) I.hd I.hu hu2 I.hn hi hib I.hb0 hzr s1.len s1.cells (by have:=s0.cells;rw[hXe,hR0l]at this;exact this) hfit hroom
  have hzs:zv.cells.size=z.length:=by rw[<-aP,hzc];exact I.hzl.symm
  have hcvs:(os.toArray++ns.toArray++Builtin.zeroCells zv.cells (nc-(n+R1.length))).size=nc*z.length:=by simp only[Array.size_append,List.size_toArray,dZ,hzs,hol,hnl];rw[<-bz,<-bz];congr 1;omega
  have hM':=(hM.purge o' (o'+1)).drew.newObjF (d:=k+100) o.dst (by omega) (.arr z.length (R0++R1)) (cv:=os.toArray++ns.toArray++Builtin.zeroCells zv.cells (nc-(n+R1.length))) (t:=el) (fl:=0) (fh:=0) (val:= .psl (k+100) z.length 0 (n+R1.length) none) (u:= .slice (some ⟨w.heap.size,0,none⟩) (n+R1.length) nc) (fun i hi h=>by omega) (by
   rw[hsize,hcvs];exact bt _ hnc) (fun i hi=>by
   rw[hsize]at hi;have h3:=qr hrows hN i (by rw[ac,hR0l];exact hi)
   have e7:(os.toArray++ns.toArray++Builtin.zeroCells zv.cells (nc-(n+R1.length))).getD i Go.undef=(⟨os++ns⟩:Array Value).getD i Go.undef:=by rw[bg,jE os ns _ i (by rw[hol,hnl];omega),bg];simp
   rw[e7];exact h3) (fun _ h=>by omega) (by
   have:=Rep.psl (x:=x.newO (k+100) w.drew.heap.size (os.toArray++ns.toArray++Builtin.zeroCells zv.cells (nc-(n+R1.length))).size) (k+100) z.length 0 (n+R1.length) none 0 nc (.inr (by omega)) hnc (fun _ e=>by cases e) (fun _=> .inr (by rw[lx,hcvs];omega));rw[iD]at this;exact this) (w':=w.drew.alloc (.cells (os.toArray++ns.toArray++Builtin.zeroCells zv.cells (nc-(n+R1.length))) el (0,0))) rfl rfl rfl rfl
  refine cU ⟨_,_,_,.value _, ?_,.inl rfl,hM'⟩ (k:=Sim N _) ?_ hK
  ·rw[hex];simp only[az,hrun,am,aG]
  ·rw[hk]at hsim ⊢
   exact hsim
theorem np{o:Oper}{z:List SV}{by_:Nat}{r q:Arg}(h:M C N c a w)(hr:bp P o=some (.app z by_ r q))(hd:∀k,o.dst=some k->k<N)(hc:pL c o.dst z by_ q (c.ev r)=some c'){K:Act->World->Prop}{Q:Exit->Act->World->Prop}(hK:∀a w,M C N c' a w->K a w):o.wp P a w K Q:=by
 by_cases hpsl:∃o' sz n,c.ev r= .psl o' sz 0 n none
 ·obtain⟨o',sz,n,hx⟩:=hpsl
  rw[hx]at hc;exact vE h hr hd hx hc hK
 obtain⟨x,s,hM,hS⟩:=h;obtain⟨cl,ho,hb⟩:=xcT hr;simp only[bp,ho,hb]at hr;split at hr<;>try (cases hr;done)
 rename_i X Y t u hX ht;split at hr<;>try (cases hr;done)
 rename_i el d2 r' q' hdd hu hra hrb;split at hr<;>try (cases hr;done)
 rename_i n by' z' hn hby hz
 rw[aJ]at hr;obtain⟨hcond,hr⟩:=hr;simp only[aA,decide_eq_true_eq]at hcond;obtain⟨⟨hb0,hn0⟩,hzl'⟩:=hcond;obtain⟨zs,hzc,hzl0,_⟩:=iJ hz;have hzl:zs.length=n:=by omega
 obtain⟨hu2,rfl,rfl,rfl,rfl⟩:((∃e',d2= .slice e')\/d2= .string)/\z'=z/\by'=by_/\r'=r/\q'=q:=by
  split at hr<;>try (cases hr;done)
  ·cases hr;exact⟨.inl ⟨_,rfl⟩,rfl,rfl,rfl,rfl⟩
  ·rw[aJ]at hr
   obtain⟨_,hr⟩:=hr;cases hr;exact⟨.inr rfl,rfl,rfl,rfl,rfl⟩
 have h1:=aL hM hra;have h2:=aL hM hrb;have ea:cl.args= #[X,Y]:=by apply dB;simpa using hX
 have et:cl.argTypes= #[t,u]:=by apply dB;simpa using ht
 have hex:=eY (a:=a) ho hb _ rfl;rw[ea,et]at hex;have em: #[X,Y].map a.eval= #[a.eval X,a.eval Y]:=by simp
 rw[em]at hex
 have hex':∀{v w'},(Builtin.append_ #[t,u] o.type #[a.eval X,a.eval Y]).run P w= .ok v w'->(execOp a.eval o).run P w= .ok (.value v) w':=by intro v w' hrun;rw[hex];simp[hrun]
 rw[hS.ev]at h1
 have fin:∀{k nc cv}(obj:aE)(sz m:Nat),o.dst=some k->m<=nc->(Builtin.append_ #[t,u] o.type #[a.eval X,a.eval Y]).run P w= .ok (.slice (some ⟨w.heap.size,0,none⟩) m nc) (w.drew.alloc (.cells cv el (0,0)))->
  obj.size<=cv.size->nc*sz<=cv.size->(∀i,i<obj.size->bZ x obj i (cv.getD i Go.undef))->obj.wf=true->c'=c.app (some k) {val:= .psl (k+100) sz 0 m none,new:=some obj}->o.wp P a w K Q:=by
  intro k nc cv obj sz m hk hnc hrun hsz hncs hcell hwf hce;subst hce
  have hM':=hM.drew.newObjF (d:=k+100) o.dst (by omega) obj (cv:=cv) (t:=el) (fl:=0) (fh:=0) (val:= .psl (k+100) sz 0 m none) (u:= .slice (some ⟨w.heap.size,0,none⟩) m nc) (fun i hi h=>by omega) hsz hcell (fun _ h=>by omega) (by have:=Rep.psl (x:=x.newO (k+100) w.drew.heap.size cv.size) (k+100) sz 0 m none 0 nc (.inr (by omega)) hnc (fun _ e=>by cases e) (fun _=> .inr (by rw[lx];omega));rw[iD]at this;exact this) (w':=w.drew.alloc (.cells cv el (0,0))) rfl rfl rfl rfl
  refine cU ⟨_,_,_,_,hex' hrun,.inl rfl,hM'⟩ (k:=Sim N _) ?_ hK;have:=hS.app hd (e:= {val:= .psl (k+100) sz 0 m none,new:=some obj}) (f:= {pre:=True,val:= .psl (k+100) sz 0 m none,new:=some obj}) ⟨rfl,rfl,rfl,rfl,rfl⟩ ⟨fun ob he=>by cases he;exact hwf,.inl rfl⟩;rw[hk]at this ⊢;exact this
 unfold pL at hc;split at hc<;>try (cases hc;done)
 ·rename_i l tk hl
  rw[aJ]at hc;obtain⟨rfl,hc⟩:=hc;unfold Pi at hc;split at hc<;>try (cases hc;done)
  rename_i k l' hk hl';split at hc<;>try (cases hc;done)
  rename_i hz1;have hz1:z'.length=1:=Classical.not_not.1 hz1;obtain rfl:n=1:=by omega
  obtain⟨p,hl'',hp0⟩:=lW hS hl';rw[<-hS.ev]at hl'';rw[hl]at h1;obtain⟨g1,g2⟩:=gX (P:=P) hM h2 hl'' hp0;obtain⟨_,_,_,_,_,hsp⟩:=h1.byt_inv;obtain⟨cap,hF,_⟩:=uu (h1.data rfl)
  by_cases hne:l'=[]
  ·rw[if_pos hne]at hc
   cases hc;subst hne
   obtain⟨bs,hXe⟩:∃bs,a.eval X= .slice bs l.length cap:=by
    rcases hF.2.2 with⟨b,off,h,_⟩|⟨h,h1,h2⟩
    ·exact⟨_,h⟩
    ·exact⟨_,by rw[h.choose_spec,h1,h2]⟩
   have hcap:=j7 hF hsp;rw[hXe]at h1 hex'
   have hrun:=gu (P:=P) (t:=t) (u:=u) (ty:=o.type) (Y:=a.eval Y) (ns:=[]) (w:=w) (w1:=w) (m:=0) (bs:=bs) (len:=l.length) (cap:=cap) hdd hu hu2 hn (g1 w rfl) (by have:=g2 0 (aH _) w rfl;simpa using this) (by omega) (by cases bs<;>rfl)
   refine cU ⟨_,_,_,_,hex' hrun,.inl rfl,hM.put o.dst h1⟩ (k:=Sim N _) ?_ hK;have:=hS.put hd (.byt l .clip);rw[hk]at this ⊢;exact this
  ·rw[if_neg hne]at hc
   rw[aJ]at hc;obtain⟨⟨rfl,hroom⟩,hc⟩:=hc;have hcap:=j7 hF hsp;have hpos:0<l'.length:=List.length_pos_iff.2 hne
   obtain⟨nc,cv,hnc,hrun,hsz,hcell⟩:=qt (ty:=o.type) hM hdd hu hu2 hn hby hzc hb0 hzl hF g1 (fun w' hw'=>by have:=g2 l'.length (aH _) w' hw';rwa[bY]at this) (by simp) (pO l') (by omega) (by omega)
   refine fin (.bar (l++l')) 1 _ hk hnc hrun (by simp only[aE.size];simpa using hsz.1) hsz.2 (fun i hi=> ?_) rfl (aq.inj hc).symm;simp only[aE.size]at hi;have:=hcell i (by simpa using hi);rw[<-cE,gM _ _ hi]at this;exact this
 ·rename_i sz l tk hl
  rw[aJ]at hc;obtain⟨rfl,hc⟩:=hc;unfold Ph at hc;split at hc<;>try (cases hc;done)
  rename_i k l' hk hl';obtain⟨p,hl'',hp0⟩:=jI hS hl';rw[<-hS.ev]at hl'';rw[hl]at h1;obtain⟨hrows',g1,ns,hnew,g2⟩:=gi (P:=P) hM h2 hl'' hp0;obtain⟨_,_,_,_,_,hsp⟩:=h1.lst_inv;obtain⟨cap,hF,_,hrows⟩:=oz (h1.data rfl)
  by_cases hne:l'=[]
  ·rw[if_pos hne]at hc
   cases hc;subst hne
   obtain⟨bs,hXe⟩:∃bs,a.eval X= .slice bs l.length cap:=by
    rcases hF.2.2 with⟨b,off,h,_⟩|⟨h,h1,h2⟩
    ·exact⟨_,h⟩
    ·exact⟨_,by rw[h.choose_spec,h1,h2]⟩
   have hcap:=j7 hF hsp;rw[hXe]at h1 hex'
   have hrun:=gu (P:=P) (t:=t) (u:=u) (ty:=o.type) (Y:=a.eval Y) (ns:=[]) (w:=w) (w1:=w) (m:=0) (bs:=bs) (len:=l.length) (cap:=cap) hdd hu hu2 hn (g1 w rfl) (by have:=g2 0 (aH _) w rfl;rw[hzl']at this;simpa using this) (by omega) (by cases bs<;>rfl)
   refine cU ⟨_,_,_,_,hex' hrun,.inl rfl,hM.put o.dst h1⟩ (k:=Sim N _) ?_ hK;have:=hS.put hd (.lst sz l .clip);rw[hk]at this ⊢;exact this
  ·rw[if_neg hne]at hc
   rw[aJ]at hc;obtain⟨⟨rfl,hroom⟩,hc⟩:=hc;obtain rfl:n=z'.length:=by omega
   have hcap:=j7 hF hsp;have hpos:0<l'.length:=List.length_pos_iff.2 hne;have hnl:ns.length=l'.length*z'.length:=by rw[<-hnew.len,bx hrows']
   obtain⟨nc,cv,hnc,hrun,hsz,hcell⟩:=qt (ty:=o.type) hM hdd hu hu2 hn hby hzc hb0 hzl hF g1 (fun w' hw'=>by have:=g2 l'.length (aH _) w' hw';rwa[<-hnl,bY]at this) hnl hnew hroom (by omega)
   have hrows2:∀y∈l++l',y.length=z'.length:=fun y hy=>(al.1 hy).elim (hrows y) (hrows' y)
   have hlen2:(l++l').length*z'.length=(l.flatten++l'.flatten).length:=by rw[<-bN,bx hrows2]
   refine fin (.arr z'.length (l++l')) z'.length _ hk hnc hrun (by simp only[aE.size];omega) hsz.2 (fun i hi=> ?_) (iz.2 hrows2) (aq.inj hc).symm;simp only[aE.size]at hi;have:=hcell i (by omega);rw[<-bN,cz _ hrows2 i hi]at this;exact this
 ·rename_i o' sz n hl
  exact absurd ⟨o',sz,n,hl⟩ hpsl
theorem pM(hcal:fz P call){o:Oper}{so:SOp}(h:M C N c a w)(hr0:pB P o so.er)(hd:∀k,o.dst=some k->k<N)(hc:opC call sg c o.dst so=some c'){K:Act->World->Prop}{Q:Exit->Act->World->Prop}(hK:∀a w,M C N c' a w->K a w):o.wp P a w K Q:=by
 by_cases hao:∃z b q y,so= .appO z b q y
 ·obtain⟨z,b,q,y,rfl⟩:=hao
  exact np h (hr0.old (by intro xs e;cases e)) hd hc hK
 have her:so.er=so:=by cases so<;>first|rfl|exact absurd ⟨_,_,_,_,rfl⟩ hao
 rw[her]at hr0
 by_cases hnb:∃xs,so= .newB xs
 ·obtain⟨xs,rfl⟩:=hnb
  rcases hr0 with hr|⟨ys,e,hr⟩
  ·exact(Eo hr).elim
  ·cases e
   exact nu h hr hd hc hK
 have hr:=hr0.old fun xs e=>hnb ⟨xs,e⟩
 by_cases hsl:∃q,so= .slid q
 ·obtain⟨q,rfl⟩:=hsl
  exact vh h hr hd hc hK
 by_cases hcl:∃f as,so= .call f as
 ·obtain⟨f,as,rfl⟩:=hcl
  simp only[opC]at hc;split at hc<;>try (cases hc;done)
  rename_i g c1 c2 hg;obtain⟨x,s,hM,hS⟩:=h;obtain⟨cl,F,ho,hb,h1,h2,h3⟩:=FC hr;obtain⟨as',os',k',q',hq'⟩:=wg hc;have hcb:dM P g=true:=(hcal _ _ _ _ _ hq').1;obtain⟨vs,hrun,hvs⟩:=CI hM ho hb h1 h2 h3 (by rw[hS.ev];exact hg) hcb;rw[<-hS.evL]at hvs;exact sU hrun (td hM hS hd (hcal g) hc hvs) hK
 ·refine xd8 h hr hd ?_ hK
  cases so with
  |call f as=>exact absurd ⟨f,as,rfl⟩ hcl
  |newB xs=>exact absurd ⟨xs,rfl⟩ hnb
  |slid q=>exact absurd ⟨q,rfl⟩ hsl
  |appO z b q y=>exact absurd ⟨_,_,_,_,rfl⟩ hao
  |_=>exact hc
theorem vF{o:Oper}{sz:Nat}{xs:List Arg}(h:M C N c a w)(hr:bp P o=some (.lit sz xs))(hd:∀k,o.dst=some k->k<N)(hc:Pg c sz o.dst (rows sz (evL c xs))=some c'){K:Act->World->Prop}{Q:Exit->Act->World->Prop}(hK:∀a w,M C N c' a w->K a w):o.wp P a w K Q:=by
 obtain⟨x,s,hM,hS⟩:=h;rw[hS.evL]at hc;unfold Pg at hc;split at hc<;>try (cases hc;done)
 rename_i k l hk hl;cases hc
 obtain⟨t,len,parts,ho⟩:∃t len parts,o.op= .buildSlice t len parts:=by
  cases ho:o.op with
  |buildSlice t len parts=>exact⟨t,len,parts,rfl⟩
  |_=>exfalso;exact absurd hr (by
   intro hr;simp only[bp,ho]at hr
   first
    |(cases hr;done)
    |(obtain⟨_,_,h⟩:=ae.1 hr;cases h;done)
    |(repeat' split at hr)<;>first|(cases hr;done)|contradiction|(obtain⟨_,_,h⟩:=ae.1 hr;first|(cases h;done)|(split at h<;>cases h;done)))
 obtain⟨r,e,hrun,hsz,hrows,hcell⟩:=vq hM ho hr hl
 have hM':=hM.newObj (d:=k+100) o.dst (by omega) (.arr sz l) (val:= .psl (k+100) sz 0 l.length (some l.length)) (u:= .slice (some ⟨w.heap.size,0,none⟩) l.length l.length) (t:=e) (by simp only[aE.size];omega) (fun i hi=>hcell i hi) (by have:=Rep.psl (x:=x.newO (k+100) w.heap.size) (k+100) sz 0 l.length (some l.length) 0 l.length (.inr (by omega)) (aH _) (fun _ e=>by cases e;rfl) (fun e=>by cases e);rwa[iD]at this)
 refine cU ⟨_,_,_,_,hrun,.inl rfl,hM'⟩ (k:=Sim N _) ?_ hK;have:=hS.app hd (e:= {val:= .psl (k+100) sz 0 l.length (some l.length),new:=some (.arr sz l)}) (f:= {pre:=True,val:= .psl (k+100) sz 0 l.length (some l.length),new:=some (.arr sz l)}) ⟨rfl,rfl,rfl,rfl,rfl⟩ ⟨fun ob he=>by cases he;exact iz.2 hrows,.inl rfl⟩;rw[hk]at this ⊢;exact this
theorem vD{ops:Array Oper}{n:Nat}{o:Oper}{i:SI}(h:M C N c a w)(hi:i.ok N=true)(ho:ops[n]? =some o)(hr:fq P ops o=some i)(hc:ri c i=some c'){K:Act->World->Prop}{Q:Exit->Act->World->Prop}
 (hK:∀a w,M C N c' a w->K a w):wpOp P ops Q n K a w:=by
 obtain⟨h1,h2,h3⟩:=j0 hr
 have hd:∀k,i.dst=some k->k<N:=by intro k hk;unfold SI.ok at hi;rw[hk]at hi;simpa using hi
 unfold wpOp;rw[ho];simp only;unfold ri at hc;split at hc<;>try (cases hc;done)
 rename_i hg;rcases h3 with⟨_,hog⟩|⟨j,b,g,hg',_⟩
 ·rw[jx hog,if_pos rfl]
  rw[h2]at hc hd;left;unfold xi1 at hc;split at hc<;>try (cases hc;done)
  ·rename_i sz xs hq
   exact vF h (h1.old (fun xs e=>by rw[e]at hq;cases hq)|>fun e=>by rw[hq]at e;exact e) hd hc hK
  ·rename_i xs hq
   exact nu h (h1.old (fun xs e=>by rw[e]at hq;cases hq)|>fun e=>by rw[hq]at e;exact e) hd hc hK
  ·rename_i q hq
   exact vG h (h1.old (fun xs e=>by rw[e]at hq;cases hq)|>fun e=>by rw[hq]at e;exact e) hd hc hK
  ·rename_i z by_ q y hq
   exact np h (h1.old (fun xs e=>by rw[e]at hq;cases hq)|>fun e=>by rw[hq]at e;exact e) hd hc hK
 ·rw[hg]at hg';cases hg'
theorem uU{ops:Array Oper}{n:Nat}{o:Oper}{i:SI}(h:M C N c a w)(hi:i.ok N=true)(ho:ops[n]? =some o)(hr:fq P ops o=some i)(hc:yU c i=some c'){K:Act->World->Prop}{Q:Exit->Act->World->Prop}
 (hK:∀a w,M C N c' a w->K a w):wpOp P ops Q n K a w:=by
 obtain⟨h1,h2,h3⟩:=j0 hr
 have hd:∀k,i.dst=some k->k<N:=by intro k hk;unfold SI.ok at hi;rw[hk]at hi;simpa using hi
 unfold wpOp;rw[ho];simp only;unfold yU at hc;split at hc<;>try (cases hc;done)
 rename_i hg;rcases h3 with⟨_,hog⟩|⟨j,b,g,hg',_⟩
 ·rw[jx hog,if_pos rfl]
  rw[h2]at hc hd;left;unfold xhR at hc;split at hc<;>try (cases hc;done)
  ·rename_i q hq
   exact uV h (h1.old (fun xs e=>by rw[e]at hq;cases hq)|>fun e=>by rw[hq]at e;exact e) hd hc hK
 ·rw[hg]at hg';cases hg'
theorem fF(hcal:fz P call){ops:Array Oper}{n:Nat}{o:Oper}{i:SI}(h:M C N c a w)(hi:i.ok N=true)(ho:ops[n]? =some o)(hr:fq P ops o=some i.er)(hc:dw call sg c i=some c'){K:Act->World->Prop}{Q:Exit->Act->World->Prop}
 (hK:∀a w,M C N c' a w->K a w):wpOp P ops Q n K a w:=by
 obtain⟨h1,h2,h3⟩:=j0 hr;change pB P o i.op.er at h1;change i.dst=o.dst at h2;change (i.g=none/\o.guard=none\/∃j b g,i.g=some (g,b)/\o.guard=some (j,b)/\(ops[j]?).bind (·.dst)=some g)at h3
 have hd:∀k,i.dst=some k->k<N:=by intro k hk;unfold SI.ok at hi;rw[hk]at hi;simpa using hi
 unfold wpOp;rw[ho];simp only;unfold dw at hc;rcases h3 with⟨hg,hog⟩|⟨j,b,g,hg,hog,hdg⟩
 ·rw[hg]at hc
  rw[jx hog,if_pos rfl];rw[h2]at hc hd;exact .inl (pM hcal h h1 hd hc hK)
 ·rw[hg]at hc
  simp only at hc;split at hc<;>try (cases hc;done)
  rotate_left
  ·rename_i ht
   cases hc;obtain⟨x,s,hM,hS⟩:=h;rw[sW hog hdg (E7 hM hS ht),if_neg (by simp)];rw[h2]at hd;rw[h2]at hK;exact hK _ _ ⟨x,_,hM.put o.dst tL,hS.put hd _⟩
  rename_i t ht;have hv:a.tmps[g]? =some (.bool t):=by obtain⟨x,s,hM,hS⟩:=h;exact E6 hM hS ht
  rw[sV hog hdg hv];split at hc
  ·rename_i htb
   subst htb;rw[if_pos (by simp)];rw[h2]at hc hd;exact .inl (pM hcal h h1 hd hc hK)
  ·rename_i htb
   cases hc;rw[if_neg (by simpa using htb)];obtain⟨x,s,hM,hS⟩:=h;rw[h2]at hd;rw[h2]at hK;exact hK _ _ ⟨x,_,hM.put o.dst tL,hS.put hd _⟩
theorem iH(hcal:fz P call){ops:Array Oper}{n:Nat}{o:Oper}{i:SI}(h:M C N c a w)(hi:i.ok N=true)(ho:ops[n]? =some o)(hr:fq P ops o=some i)(hc:dw call sg c i=some c'){K:Act->World->Prop}{Q:Exit->Act->World->Prop}
 (hK:∀a w,M C N c' a w->K a w):wpOp P ops Q n K a w:=fF hcal h hi ho (by rw[xga hr];exact hr) hc hK
theorem fR{d:Option Nat}{g:Nat}{t:Bool}{v:SV}(hd:d≠some g)(h:c.get g= .bool t):(c.put d v).get g= .bool t:=by
 cases d with
 |none=>exact h
 |some k=>rw[fV,if_neg (fun e=>hd (by rw[e]))];exact h
theorem Cr{d:Option Nat}{g:Nat}{u v:SV}(hd:d≠some g)(h:c.get g=u):(c.put d v).get g=u:=by
 cases d with
 |none=>exact h
 |some k=>rw[fV,if_neg (fun e=>hd (by rw[e]))];exact h
theorem iX{g lo hi:Nat}{t:Bool}{l:List (Nat×SV)}(h:dS l g= .bool t):dS (cV lo hi l) g= .bool t:=by rw[fx,h];rfl
theorem jP{d:Option Nat}{g:Nat}{t:Bool}{e:mL}(hd:d≠some g)(h:c.get g= .bool t):(c.app d e).get g= .bool t:=by
 have wr:∀(l:List (Nat×aE))(c:CSt),(c.wr l).tm=c.tm:=by
  intro l;induction l with
  |nil=>intro c;rfl
  |cons p r ih=>intro c;simp only[CSt.wr];rw[ih]
 unfold CSt.app;split
 ·exact fR (c:=⟨_,_,_⟩) hd (iX h)
 ·exact fR (c:=⟨_,_,_⟩) hd (iX h)
 ·refine fR hd ?_
  show dS (c.wr e.wr).tm g=_;rw[wr];exact h
theorem nA{d:Option Nat}{g:Nat}{t:Bool}{m mt:List Nat}{q:dE}(hd:d≠some g)(h:c.get g= .bool t):(jp c d m mt q).get g= .bool t:=fR (c:=⟨_,_,_⟩) hd (iX h)
theorem kK{g o:Nat}{t:Bool}{vs:List SV}(h:c.get g= .bool t):(c.publish o vs).1.get g= .bool t:=by
 have k:∀obj,dS (kH o obj c.tm) g= .bool t:=fun obj=>by rw[jS];have:dS c.tm g= .bool t:=h;rw[this];rfl
 unfold CSt.publish;split
 ·exact k _
 ·exact k _
 ·exact h
theorem l7{g:Nat}{t:Bool}:∀{l:List Nat}{c:CSt}{vs:List SV},c.get g= .bool t->(eh c vs l).1.get g= .bool t
 |[],_,_,h=>h
 |o::r,c,vs,h=>by show(eh (c.publish o vs).1 (c.publish o vs).2 r).1.get g=_;exact l7 (kK h)
theorem Ct{sg:Sig}{d:Option Nat}{g n:Nat}{as:List SV}{t:Bool}(hc:gC call sg c d n as=some c')(hd:d≠some g)(h:c.get g= .bool t):c'.get g= .bool t:=by
 unfold gC at hc;generalize ((SV.idsL as).isEmpty&&sg.own.isEmpty)=b at hc;cases b with
 |true=>
  simp only[jo]at hc;cases hq:call n (SV.bareL as) [] 0 with
  |none=>rw[hq]at hc;cases hc
  |some q=>
   rw[hq]at hc;simp only[lh]at hc;cases hb:q.bare with
   |true=>rw[hb]at hc;cases hc;exact fR hd h
   |false=>
    rw[hb]at hc;simp only[my]at hc;cases hs:q.small with
    |true=>rw[hs]at hc;cases hc;exact nA hd h
    |false=>rw[hs]at hc;cases hc
 |false=>
  simp only[jo]at hc;have hk:=l7 (l:=il sg.raw 0 as) (vs:=as) h;generalize eh c as (il sg.raw 0 as)=z at hc hk;obtain⟨c1,as1⟩:=z;simp only[jg]at hc;generalize js c1.tk sg.own 50 0 as1=z at hc;obtain⟨as2,mt1⟩:=z;simp only[mj]at hc;generalize dx c1 60 [] (SV.idsL as2)=m at hc;cases ho:fK c1 m with
  |none=>rw[ho]at hc;cases hc
  |some os0=>
   rw[ho]at hc;simp only[kz]at hc;generalize dI c1.tk (50+mt1.length) os0=z at hc;obtain⟨os,mt2⟩:=z;simp only[mi]at hc;generalize (mU (SV.idsL as2++eX os) m&&di m&&di (ce (mt1++mt2))&&decide (m.length<=40)&&m.all fun o=> !inR (d.getD 0) o)=b at hc;cases b with
   |false=>cases hc
   |true=>
    simp only[mh]at hc;cases hq:call n (SV.renL (fS m) id as2) (dO (fS m) id os) (mt1.length+mt2.length)with
    |none=>rw[hq]at hc;cases hc
    |some q=>
     rw[hq]at hc;simp only[m5]at hc;cases hs:q.small with
     |true=>rw[hs]at hc;cases hc;exact nA hd hk
     |false=>rw[hs]at hc;cases hc
theorem Cs{d:Option Nat}{g:Nat}{z:List SV}{b:Nat}{y:Arg}{v:SV}{t:Bool}(hc:pL c d z b y v=some c')(hd:d≠some g)(h:c.get g= .bool t):c'.get g= .bool t:=by
 unfold pL at hc;split at hc<;>try (cases hc;done)
 ·split at hc<;>try (cases hc;done)
  unfold Pi at hc;split at hc<;>try (cases hc;done)
  split at hc<;>try (cases hc;done)
  split at hc
  ·cases hc;exact fR hd h
  ·split at hc<;>try (cases hc;done)
   cases hc;exact jP hd h
 ·split at hc<;>try (cases hc;done)
  unfold Ph at hc;split at hc<;>try (cases hc;done)
  split at hc
  ·cases hc;exact fR hd h
  ·split at hc<;>try (cases hc;done)
   cases hc;exact jP hd h
 ·unfold Mo at hc
  split at hc<;>try (cases hc;done)
  split at hc<;>try (cases hc;done)
  cases hc;exact jP hd (iX h)
theorem PF{d:Option Nat}{g:Nat}{o:SOp}{t:Bool}(hc:opC call sg c d o=some c')(hd:d≠some g)(h:c.get g= .bool t):c'.get g= .bool t:=by
 have e:ma c d (dD c d o)=some c'->c'.get g= .bool t:=by
  intro hc;cases he:dD c d o with
  |none=>rw[he]at hc;cases hc
  |some e=>rw[he]at hc;cases hc;exact jP hd h
 cases o with
 |call f as=>
  simp only[opC]at hc;split at hc<;>try (cases hc;done)
  exact Ct hc hd h
 |appO z b q y=>exact Cs hc hd h
 |newB xs=>
  simp only[opC]at hc;unfold mu at hc;split at hc<;>try (cases hc;done)
  cases hc;exact jP hd h
 |slid q=>
  simp only[opC]at hc;unfold pm at hc;split at hc<;>try (cases hc;done)
  unfold m6 at hc;split at hc<;>try (cases hc;done)
  split at hc<;>try (cases hc;done)
  cases hc;exact fR hd (kK h)
 |_=>exact e hc
theorem tU{g:Nat}{b:Bool}{i:SI}(h:i.okG N g b=true):(∀k,i.dst=some k->k<N)/\i.g=some (g,b)/\i.dst≠some g:=by
 simp only[SI.okG,aA,decide_eq_true_eq]at h;obtain⟨⟨h1,h2⟩,h3⟩:=h;refine⟨fun k hk=> ?_, ?_,h3⟩
 ·unfold SI.ok at h1;rw[hk]at h1;simpa using h1
 ·split at h2
  ·rename_i g' b' hg
   simp only[aA,decide_eq_true_eq,beq_iff_eq]at h2;rw[hg,h2.1,h2.2]
  ·cases h2
theorem Ci(hcal:fz P call){ops:Array Oper}{full rest:List SI}(hl:iU (fq P ops) ops.toList=some full){Q:Exit->Act->World->Prop}{g:Nat}{b:Bool}{c1:CSt}
 (fin:∀(m n:Nat),n+m=ops.size->rest=full.drop n->∀a w,M C N c1 a w->wpOps P ops Q (List.range' n m) a w):
 ∀(l:List SI)(m n:Nat)(c:CSt)(a:Act)(w:World),n+m=ops.size->l++rest=full.drop n->(∀i∈l,i.okG N g b=true)->M C N c a w->c.get g= .bool b->plC call sg l c=some c1->wpOps P ops Q (List.range' n m) a w:=by
 obtain⟨hlen,hget⟩:=ej hl;intro l;induction l with
 |nil=>intro m n c a w hn he _ hM _ hs;rw[Mm]at hs;cases hs;exact fin m n hn he a w hM
 |cons i l ihl=>
  intro m n c a w hn he hok hM ht hs;obtain⟨g1,g2,g3⟩:=tU (hok i (ay ..));simp only[aS]at he
  have hn1:n<full.length:=by
   rcases bL n full.length with h|h
   ·exact h
   ·rw[bO h]at he;cases he
  rw[bq hn1]at he;obtain⟨he1,he2⟩:=tg.inj he;have hn2:n<ops.toList.length:=by omega
  obtain⟨m',rfl⟩:∃m',m=m'+1:=⟨m-1,by rw[hlen,aP]at hn1;omega⟩;simp only[List.range'_succ];rw[wpOps_cons];rw[plC]at hs;cases h1:opC call sg c i.dst i.op with
  |none=>rw[h1,AP]at hs;cases hs
  |some c2=>
   rw[h1,AO]at hs;have hst:dw call sg c i=some c2:=by unfold dw;rw[g2];simp only[ht,if_true];exact h1
   have hik:i.ok N=true:=by
    unfold SI.ok;cases hdd:i.dst with
    |none=>rfl
    |some k=>simpa using g1 k hdd
   refine iH hcal hM hik (o:=ops.toList[n]) (by rw[<-cD,ab hn2]) (by rw[he1];exact hget n hn2 hn1) hst ?_;intro a' w' hM';exact ihl m' (n+1) c2 a' w' (by omega) he2 (fun j hj=>hok j (ao _ hj)) hM' (PF h1 g3 ht) hs
theorem pD(hcal:fz P call){ops:Array Oper}{full rest:List SI}(hl:iU (fq P ops) ops.toList=some full){Q:Exit->Act->World->Prop}{g:Nat}{b:Bool}{v:SV}(hvv:v= .tup []\/∃t,v= .bool t/\t≠b){c1:CSt}
 (fin:∀(m n:Nat),n+m=ops.size->rest=full.drop n->∀a w,M C N c1 a w->wpOps P ops Q (List.range' n m) a w):
 ∀(l:List SI)(m n:Nat)(c:CSt)(a:Act)(w:World),n+m=ops.size->l++rest=full.drop n->(∀i∈l,i.okG N g b=true)->M C N c a w->c.get g=v->unL c l=c1->wpOps P ops Q (List.range' n m) a w:=by
 obtain⟨hlen,hget⟩:=ej hl;intro l;induction l with
 |nil=>intro m n c a w hn he _ hM _ hs;cases hs;exact fin m n hn he a w hM
 |cons i l ihl=>
  intro m n c a w hn he hok hM ht hs;obtain⟨g1,g2,g3⟩:=tU (hok i (ay ..));simp only[aS]at he
  have hn1:n<full.length:=by
   rcases bL n full.length with h|h
   ·exact h
   ·rw[bO h]at he;cases he
  rw[bq hn1]at he;obtain⟨he1,he2⟩:=tg.inj he;have hn2:n<ops.toList.length:=by omega
  obtain⟨m',rfl⟩:∃m',m=m'+1:=⟨m-1,by rw[hlen,aP]at hn1;omega⟩;simp only[List.range'_succ];rw[wpOps_cons]
  have hst:dw call (fun _=> {}) c i=some (c.put i.dst (.tup [])):=by
   unfold dw;rw[g2];simp only[ht];rcases hvv with rfl|⟨t,rfl,htb⟩
   ·rfl
   ·simp only[htb,if_false]
  have hik:i.ok N=true:=by
   unfold SI.ok;cases hdd:i.dst with
   |none=>rfl
   |some k=>simpa using g1 k hdd
  refine iH hcal hM hik (o:=ops.toList[n]) (by rw[<-cD,ab hn2]) (by rw[he1];exact hget n hn2 hn1) hst ?_;intro a' w' hM';exact ihl m' (n+1) _ a' w' (by omega) he2 (fun j hj=>hok j (ao _ hj)) hM' (Cr g3 ht) hs
theorem vH(hcal:fz P call){ops:Array Oper}{full:List SI}(hl:iU (fq P ops) ops.toList=some full){Q:Exit->Act->World->Prop}:
 ∀(l:List RI)(m n:Nat),n+m=ops.size->erL l=full.drop n->l.all (RI.ok N)=true->∀{c:CSt}{a:Act}{w:World},M C N c a w->fa call sg l c=some c'->(∀a w,M C N c' a w->Q .normal a w)->wpOps P ops Q (List.range' n m) a w:=by
 obtain⟨hlen,hget⟩:=ej hl;intro l;induction l with
 |nil=>
  intro m n hn he _ c a w hM hc hQ;have h1:full.length<=n:=List.drop_eq_nil_iff.1 he.symm;rw[hlen,aP]at h1;have:m=0:=by omega
  subst this;simp only[List.range'_zero,wpOps];rw[AK]at hc;cases hc;exact hQ _ _ hM
 |cons q r ih=>
  intro m n hn he hok c a w hM hc hQ;rw[List.all_cons,aA]at hok;obtain⟨hok1,hok2⟩:=hok;cases q with
  |dir q=>
   rw[AM]at hc;cases hd:pe c q with
   |none=>rw[hd,km]at hc;cases hc
   |some c1=>rw[hd,kj,oq]at hc;exact ih m n hn he hok2 (nK hM hd) hc hQ
  |own i dead=>
   rw[AJ]at hc;simp only[erL]at he
   have hn1:n<full.length:=by
    rcases bL n full.length with h|h
    ·exact h
    ·rw[bO h]at he;cases he
   rw[bq hn1]at he;obtain⟨he1,he2⟩:=tg.inj he;have hn2:n<ops.toList.length:=by omega
   obtain⟨m',rfl⟩:∃m',m=m'+1:=⟨m-1,by rw[hlen,aP]at hn1;omega⟩;simp only[List.range'_succ];rw[wpOps_cons];cases hs:ri c i with
   |none=>rw[hs,km]at hc;cases hc
   |some c1=>rw[hs,kj]at hc;refine vD hM hok1 (o:=ops.toList[n]) (by rw[<-cD,ab hn2]) (by rw[he1];exact hget n hn2 hn1) hs ?_;intro a' w' hM';exact ih m' (n+1) (by omega) he2 hok2 (hM'.kill dead) hc hQ
  |tks i dead=>
   rw[AI]at hc;simp only[erL]at he
   have hn1:n<full.length:=by
    rcases bL n full.length with h|h
    ·exact h
    ·rw[bO h]at he;cases he
   rw[bq hn1]at he;obtain⟨he1,he2⟩:=tg.inj he;have hn2:n<ops.toList.length:=by omega
   obtain⟨m',rfl⟩:∃m',m=m'+1:=⟨m-1,by rw[hlen,aP]at hn1;omega⟩;simp only[List.range'_succ];rw[wpOps_cons];cases hs:yU c i with
   |none=>rw[hs,km]at hc;cases hc
   |some c1=>rw[hs,kj]at hc;refine uU hM hok1 (o:=ops.toList[n]) (by rw[<-cD,ab hn2]) (by rw[he1];exact hget n hn2 hn1) hs ?_;intro a' w' hM';exact ih m' (n+1) (by omega) he2 hok2 (hM'.kill dead) hc hQ
  |op i dead=>
   rw[Mp]at hc;simp only[erL]at he
   have hn1:n<full.length:=by
    rcases bL n full.length with h|h
    ·exact h
    ·rw[bO h]at he;cases he
   rw[bq hn1]at he;obtain⟨he1,he2⟩:=tg.inj he;have hn2:n<ops.toList.length:=by omega
   obtain⟨m',rfl⟩:∃m',m=m'+1:=⟨m-1,by rw[hlen,aP]at hn1;omega⟩;simp only[List.range'_succ];rw[wpOps_cons];cases hs:dw call sg c i with
   |none=>rw[hs,km]at hc;cases hc
   |some c1=>rw[hs,kj]at hc;refine iH hcal hM hok1 (o:=ops.toList[n]) (by rw[<-cD,ab hn2]) (by rw[he1];exact hget n hn2 hn1) hs ?_;intro a' w' hM';exact ih m' (n+1) (by omega) he2 hok2 (hM'.kill dead) hc hQ
  |grp g b l dead=>
   rw[AL]at hc;cases hs:nG call sg b l c (c.get g)with
   |none=>rw[hs,km]at hc;cases hc
   |some c1=>
    rw[hs,kj]at hc;unfold nG at hs;have hsk:=hs;split at hs<;>try (cases hs;done)
    rotate_left
    ·rename_i ht
     have hok1':∀i∈l,i.okG N g b=true:=by simpa[RI.ok]using hok1
     have fin:∀(m n:Nat),n+m=ops.size->erL r=full.drop n->∀a w,M C N c1 a w->wpOps P ops Q (List.range' n m) a w:=fun m n hn he a w hM'=>ih m n hn he hok2 (hM'.kill dead) hc hQ
     simp only[erL]at he;cases hs;exact pD hcal hl (.inl rfl) fin l m n c a w hn he hok1' hM ht rfl
    rename_i t ht;have hok1':∀i∈l,i.okG N g b=true:=by simpa[RI.ok]using hok1
    have fin:∀(m n:Nat),n+m=ops.size->erL r=full.drop n->∀a w,M C N c1 a w->wpOps P ops Q (List.range' n m) a w:=fun m n hn he a w hM'=>ih m n hn he hok2 (hM'.kill dead) hc hQ
    simp only[erL]at he;split at hs
    ·rename_i htb
     exact Ci hcal hl fin l m n c a w hn he hok1' hM (by rw[ht,htb]) hs
    ·rename_i htb
     cases hs;exact pD hcal hl (.inr ⟨t,rfl,htb⟩) fin l m n c a w hn he hok1' hM ht rfl
end Go.Sy
namespace Go.Sy
variable [bd]
variable {P : Program} {C : Ctx} {x : Sit} {a : Act} {w : World} {N : Nat} {c c' : CSt} {s : St} {call : cN} {sg : Nat -> Sig}
abbrev TM:=List (Nat×SV)
structure Uni(d:Option Nat)(F:TM->TM):Prop where
 get:∀tm tm' n,dS tm n=dS tm' n->dS (F tm) n=dS (F tm') n
 dom:∀tm p,p∈F tm->(∃q∈tm,q.1=p.1)\/d=some p.1
theorem Uni.id{d:Option Nat}:Uni d (fun t=>t):=⟨fun _ _ _ h=>h,fun _ p hp=> .inl ⟨p,hp,rfl⟩⟩
theorem Uni.comp{d:Option Nat}{F G:TM->TM}(hF:Uni d F)(hG:Uni d G):Uni d (fun t=>G (F t)):=
 ⟨fun _ _ _ h=>hG.get _ _ _ (hF.get _ _ _ h),fun tm p hp=>by
  rcases hG.dom _ _ hp with⟨q,hq,e⟩|h
  ·rcases hF.dom _ _ hq with⟨q',hq',e'⟩|h
   ·exact .inl ⟨q',hq',e'.trans e⟩
   ·exact .inr (by rw[h,e])
  ·exact .inr h⟩
theorem Uni.purge{d:Option Nat}(lo hi:Nat):Uni d (cV lo hi):=
 ⟨fun tm tm' n h=>by rw[fx,fx,h],fun tm p hp=>by obtain⟨q,hq,e⟩:=iS hp;exact .inl ⟨q,hq,e.symm⟩⟩
theorem Uni.pub{d:Option Nat}(o:Nat)(obj:aE):Uni d (kH o obj):=
 ⟨fun tm tm' n h=>by rw[jS,jS,h],fun tm p hp=>by obtain⟨q,hq,e⟩:=oe hp;exact .inl ⟨q,hq,e.symm⟩⟩
theorem Uni.put(k:Nat)(v:SV):Uni (some k) (fun t=>iO t k v):=
 ⟨fun tm tm' n h=>by
  simp only[lg];rw[h],fun tm p hp=>by
  rcases lc hp with e|e
  ·exact .inr (by rw[e])
  ·exact .inl ⟨p,e,rfl⟩⟩
theorem Uni.weak{d:Option Nat}{F:TM->TM}(h:Uni none F):Uni d F:=⟨h.get,fun tm p hp=>by
 rcases h.dom tm p hp with h|h
 ·exact .inl h
 ·cases h⟩
theorem Uni.cput(d:Option Nat)(v:SV):∃F,Uni d F/\∀tm ob tk,CSt.put ⟨tm,ob,tk⟩ d v=⟨F tm,ob,tk⟩:=by
 cases d with
 |none=>exact⟨fun t=>t,Uni.id,fun _ _ _=>rfl⟩
 |some k=>exact⟨fun t=>iO t k v,Uni.put k v,fun _ _ _=>rfl⟩
section
variable {tm tm' : TM} {ob : List (Nat × aE)} {tk : List Nat}
theorem kW:∀(n:Nat)(acc l:List Nat),dx ⟨tm',ob,tk⟩ n acc l=dx ⟨tm,ob,tk⟩ n acc l
 |0,_,_=>rfl
 |_+1,_,[]=>rfl
 |n+1,acc,o::t=>by
  simp only[dx];show(if _ then _ else match gU ob o with|some ob1=>_|none=>_)=(if _ then _ else match gU ob o with|some ob1=>_|none=>_);split
  ·exact kW n _ _
  ·split
   ·exact kW n _ _
   ·exact kW n _ _
theorem ud:∀l:List Nat,fK ⟨tm',ob,tk⟩ l=fK ⟨tm,ob,tk⟩ l
 |[]=>rfl
 |o::r=>by simp only[fK];rw[ud r];rfl
theorem l4(o:Nat)(vs:List SV):∃F ob' tk' vs',Uni none F/\∀tm,CSt.publish ⟨tm,ob,tk⟩ o vs=(⟨F tm,ob',tk'⟩,vs'):=by
 unfold CSt.publish CSt.look;simp only;split
 ·exact⟨_,_,_,_,Uni.pub _ _,fun _=>rfl⟩
 ·exact⟨_,_,_,_,Uni.pub _ _,fun _=>rfl⟩
 ·exact⟨_,_,_,_,Uni.id,fun _=>rfl⟩
theorem nj:∀(l:List Nat)(ob:List (Nat×aE))(tk:List Nat)(vs:List SV),∃F ob' tk' vs',Uni none F/\∀tm,eh ⟨tm,ob,tk⟩ vs l=(⟨F tm,ob',tk'⟩,vs')
 |[],ob,tk,vs=>⟨_,_,_,_,Uni.id,fun _=>rfl⟩
 |o::r,ob,tk,vs=>by obtain⟨F,ob1,tk1,vs1,h1,h2⟩:=l4 (ob:=ob) (tk:=tk) o vs;obtain⟨G,ob2,tk2,vs2,h3,h4⟩:=nj r ob1 tk1 vs1;refine⟨fun t=>G (F t),ob2,tk2,vs2,h1.comp h3,fun tm=> ?_⟩;simp only[eh];rw[h2];exact h4 _
theorem nS(d:Option Nat)(m mt:List Nat)(q:dE):∃F ob' tk',Uni d F/\∀tm,jp ⟨tm,ob,tk⟩ d m mt q=⟨F tm,ob',tk'⟩:=by unfold jp;dsimp only;obtain⟨F,h1,h2⟩:=Uni.cput d (q.r.ren (gZ (d.getD 0) m) (jK (d.getD 0)));exact⟨_,_,_,(Uni.purge ((d.getD 0+1)*1000) ((d.getD 0+2)*1000)).comp h1,fun tm=>h2 _ _ _⟩
theorem D0{sg:Sig}{d:Option Nat}{g:Nat}{as:List SV}:∃F,Uni d F/\∃q:Option (List (Nat×aE)×List Nat),∀tm,jg call sg d g (⟨tm,ob,tk⟩,as)=q.map fun q=>⟨F tm,q.1,q.2⟩:=by
 simp only[jg];generalize js tk sg.own 50 0 as=z;obtain⟨as2,mt1⟩:=z;simp only[mj];have e1:∀tm,dx ⟨tm,ob,tk⟩ 60 [] (SV.idsL as2)=dx ⟨[],ob,tk⟩ 60 [] (SV.idsL as2):=fun tm=>kW _ _ _
 have e2:∀tm l,fK ⟨tm,ob,tk⟩ l=fK ⟨[],ob,tk⟩ l:=fun tm l=>ud l
 simp only[e1,e2];generalize dx ⟨[],ob,tk⟩ 60 [] (SV.idsL as2)=m;cases ho:fK ⟨[],ob,tk⟩ m with
 |none=>exact⟨_,Uni.id,none,fun _=>rfl⟩
 |some os0=>
  simp only[kz];generalize dI tk (50+mt1.length) os0=z2;obtain⟨os,mt2⟩:=z2;simp only[mi];generalize (mU (SV.idsL as2++eX os) m&&di m&&di (ce (mt1++mt2))&&decide (m.length<=40)&&m.all fun o=> !inR (d.getD 0) o)=b;cases b with
  |false=>exact⟨_,Uni.id,none,fun _=>rfl⟩
  |true=>
   simp only[mh];cases hq:call g (SV.renL (fS m) _root_.id as2) (dO (fS m) _root_.id os) (mt1.length+mt2.length)with
   |none=>exact⟨_,Uni.id,none,fun _=>rfl⟩
   |some q=>
    simp only[m5];generalize q.small=b;cases b with
    |false=>exact⟨_,Uni.id,none,fun _=>rfl⟩
    |true=>obtain⟨F,ob',tk',h1,h2⟩:=nS (ob:=ob) (tk:=tk) d m (ce (mt1++mt2)) q;exact⟨F,h1,some (ob',tk'),fun tm=>by simp only[vd,bn,h2]⟩
theorem qp{sg:Sig}{d:Option Nat}{g:Nat}{as:List SV}:∃F,Uni d F/\∃q:Option (List (Nat×aE)×List Nat),∀tm,gC call sg ⟨tm,ob,tk⟩ d g as=q.map fun q=>⟨F tm,q.1,q.2⟩:=by
 unfold gC;generalize ((SV.idsL as).isEmpty&&sg.own.isEmpty)=b;cases b with
 |true=>
  simp only[jo];cases hq:call g (SV.bareL as) [] 0 with
  |none=>exact⟨_,Uni.id,none,fun _=>rfl⟩
  |some q=>
   simp only[lh];generalize q.bare=b;cases b with
   |true=>simp only[my];obtain⟨F,h1,h2⟩:=Uni.cput d q.r;exact⟨F,h1,some (ob,tk),fun tm=>by rw[h2];rfl⟩
   |false=>
    simp only[my];generalize q.small=b;cases b with
    |false=>exact⟨_,Uni.id,none,fun _=>rfl⟩
    |true=>obtain⟨F,ob',tk',h1,h2⟩:=nS (ob:=ob) (tk:=tk) d [] [] q;exact⟨F,h1,some (ob',tk'),fun tm=>by simp only[vY,h2];rfl⟩
 |false=>simp only[jo];obtain⟨F,ob1,tk1,vs1,h1,h2⟩:=nj (il sg.raw 0 as) ob tk as;obtain⟨G,h3,q,h4⟩:=D0 (call:=call) (ob:=ob1) (tk:=tk1) (sg:=sg) (d:=d) (g:=g) (as:=vs1);exact⟨fun t=>G (F t),h1.weak.comp h3,q,fun tm=>by rw[h2];exact h4 _⟩
theorem FP:∀(l:List (Nat×aE))(tm:TM)(ob:List (Nat×aE))(tk:List Nat),CSt.wr ⟨tm,ob,tk⟩ l=⟨tm,(CSt.wr ⟨[],ob,tk⟩ l).ob,tk⟩
 |[],_,_,_=>rfl
 |p::r,tm,ob,tk=>by simp only[CSt.wr];exact FP r tm _ tk
theorem nR(d:Option Nat)(e:mL):∃F ob' tk',Uni d F/\∀tm,CSt.app ⟨tm,ob,tk⟩ d e=⟨F tm,ob',tk'⟩:=by
 unfold CSt.app;dsimp only;obtain⟨F,h1,h2⟩:=Uni.cput d e.val;split
 ·exact⟨_,_,_,(Uni.purge (d.getD 0+100) (d.getD 0+101)).comp h1,fun tm=>h2 _ _ _⟩
 ·exact⟨_,_,_,(Uni.purge (d.getD 0+100) (d.getD 0+101)).comp h1,fun tm=>h2 _ _ _⟩
 ·exact⟨F,(CSt.wr ⟨[],ob,tk⟩ e.wr).ob,tk,h1,fun tm=>by rw[FP];exact h2 _ _ _⟩
theorem xf9{x:Arg}(h:∀n,x= .t n->dS tm' n=dS tm n):CSt.ev ⟨tm',ob,tk⟩ x=CSt.ev ⟨tm,ob,tk⟩ x:=by
 cases x with
 |t n=>exact h n rfl
 |c v=>rfl
 |f g=>rfl
theorem kS:∀{l:List Arg},(∀x∈l,CSt.ev ⟨tm',ob,tk⟩ x=CSt.ev ⟨tm,ob,tk⟩ x)->evL ⟨tm',ob,tk⟩ l=evL ⟨tm,ob,tk⟩ l
 |[],_=>rfl
 |x::r,h=>by simp only[evL];rw[h x (ay ..),kS fun y hy=>h y (ao _ hy)]
theorem Ml:∀{l:List (Nat×Nat×Arg)},(∀x∈l.map (fun p=>p.2.2),CSt.ev ⟨tm',ob,tk⟩ x=CSt.ev ⟨tm,ob,tk⟩ x)->psC ⟨tm',ob,tk⟩ l=psC ⟨tm,ob,tk⟩ l
 |[],_=>rfl
 |(o,n,x)::r,h=>by simp only[psC];rw[h x (by simp),Ml fun y hy=>h y (by simp only[aC,an];exact .inr hy)]
theorem lv{x:Option Arg}{d:Int}(h:∀y∈x.toList,CSt.ev ⟨tm',ob,tk⟩ y=CSt.ev ⟨tm,ob,tk⟩ y):jL ⟨tm',ob,tk⟩ x d=jL ⟨tm,ob,tk⟩ x d:=by
 cases x with
 |none=>rfl
 |some y=>simp only[jL];rw[h y (by simp)]
theorem y6{sz:Nat}{v:SV}{lo hi mx:Option Arg}(h1:∀y∈lo.toList,CSt.ev ⟨tm',ob,tk⟩ y=CSt.ev ⟨tm,ob,tk⟩ y)(h2:∀y∈hi.toList,CSt.ev ⟨tm',ob,tk⟩ y=CSt.ev ⟨tm,ob,tk⟩ y)(h3:∀y∈mx.toList,CSt.ev ⟨tm',ob,tk⟩ y=CSt.ev ⟨tm,ob,tk⟩ y):
 mE ⟨tm',ob,tk⟩ sz v lo hi mx=mE ⟨tm,ob,tk⟩ sz v lo hi mx:=by
 unfold mE;simp only[lv h1,lv h2,lv h3]
theorem yR{o:SOp}(h:∀y∈o.args,CSt.ev ⟨tm',ob,tk⟩ y=CSt.ev ⟨tm,ob,tk⟩ y):cA ⟨tm',ob,tk⟩ o=cA ⟨tm,ob,tk⟩ o:=by
 cases o with
 |build z ps=>simp only[SOp.args]at h;simp only[cA];rw[Ml h]
 |lit sz xs=>simp only[SOp.args]at h;simp only[cA];rw[kS h]
 |litB xs=>simp only[SOp.args]at h;simp only[cA];rw[kS h]
 |mkfn f a b=>simp only[SOp.args,al]at h;simp only[cA];rw[kS fun y hy=>h y (.inl hy),kS fun y hy=>h y (.inr hy)]
 |slcS x lo hi=>simp only[SOp.args,an,al]at h;simp only[cA];rw[h x (.inl rfl)];simp only[lv fun y hy=>h y (.inr (.inl hy)),lv fun y hy=>h y (.inr (.inr hy))]
 |slcL sz x lo hi mx=>simp only[SOp.args,an,al]at h;simp only[cA];rw[h x (.inl rfl),y6 (fun y hy=>h y (.inr (.inl (.inl hy)))) (fun y hy=>h y (.inr (.inl (.inr hy)))) (fun y hy=>h y (.inr (.inr hy)))]
 |slcA len sz x lo hi mx=>simp only[SOp.args,an,al]at h;simp only[cA];rw[h x (.inl rfl)];simp only[y6 (fun y hy=>h y (.inr (.inl (.inl hy)))) (fun y hy=>h y (.inr (.inl (.inr hy)))) (fun y hy=>h y (.inr (.inr hy)))]
 |_=>
  simp only[SOp.args,an,bU,or_false,forall_eq_or_imp,forall_eq,aY]at h
  first
   |rfl
   |(simp only[cA];rw[h];rfl)
   |(simp only[cA];rw[h.1,h.2];rfl)
   |(simp only[cA,h];done)
   |(simp only[cA,h.1,h.2];done)
theorem BF{n:Nat}{v:List SV}{u:SV}:ke ⟨tm',ob,tk⟩ n v u=ke ⟨tm,ob,tk⟩ n v u:=by
 cases u<;>rfl
theorem Qu{d:Option Nat}{o:SOp}(h:∀y∈o.args,CSt.ev ⟨tm',ob,tk⟩ y=CSt.ev ⟨tm,ob,tk⟩ y):dD ⟨tm',ob,tk⟩ d o=dD ⟨tm,ob,tk⟩ d o:=by
 have hv:=yR h;cases o with
 |new ob=>rfl
 |call f as=>rfl
 |box x=>simp only[SOp.args,an,bU,or_false,forall_eq]at h;simp only[dD];rw[h]
 |mk z b n m=>simp only[SOp.args,an,bU,or_false,forall_eq_or_imp,forall_eq]at h;simp only[dD];rw[h.1,h.2]
 |mkB n m=>simp only[SOp.args,an,bU,or_false,forall_eq_or_imp,forall_eq]at h;simp only[dD];rw[h.1,h.2]
 |store n a x=>simp only[SOp.args,an,bU,or_false,forall_eq_or_imp,forall_eq]at h;simp only[dD];rw[h.1,h.2,BF]
 |app z b x y=>
  simp only[SOp.args,an,bU,or_false,forall_eq_or_imp,forall_eq]at h;have e1:∀v,dY ⟨tm',ob,tk⟩ v=dY ⟨tm,ob,tk⟩ v:=fun v=>by cases v<;>rfl
  have e2:∀n v,fb ⟨tm',ob,tk⟩ n v=fb ⟨tm,ob,tk⟩ n v:=fun n v=>by cases v<;>rfl
  have e3:∀t:Tok,t.readyC ⟨tm',ob,tk⟩=t.readyC ⟨tm,ob,tk⟩:=fun t=>by cases t<;>rfl
  simp only[dD];rw[h.1,h.2];simp only[e1,e2,e3]
 |clr z x=>simp only[SOp.args,an,bU,or_false,forall_eq]at h;simp only[dD];rw[h];rfl
 |cpy sz x y=>
  simp only[SOp.args,an,bU,or_false,forall_eq_or_imp,forall_eq]at h;have e1:∀v,dY ⟨tm',ob,tk⟩ v=dY ⟨tm,ob,tk⟩ v:=fun v=>by cases v<;>rfl
  have e2:∀n v,fb ⟨tm',ob,tk⟩ n v=fb ⟨tm,ob,tk⟩ n v:=fun n v=>by cases v<;>rfl
  simp only[dD];rw[h.1,h.2];simp only[e1,e2];rfl
 |pick k a b=>simp only[SOp.args,an,bU,or_false,forall_eq_or_imp,forall_eq]at h;simp only[dD];rw[h.1,h.2.1,h.2.2]
 |isnil ne x=>simp only[SOp.args,an,bU,or_false,forall_eq]at h;simp only[dD];rw[h]
 |_=>simp only[dD];rw[hv]
theorem EF{d:Option Nat}{z:List SV}{b:Nat}{y:Arg}{v:SV}(h:CSt.ev ⟨tm',ob,tk⟩ y=CSt.ev ⟨tm,ob,tk⟩ y)(hc:pL ⟨tm,ob,tk⟩ d z b y v=some c'):∃F,Uni d F/\c'.tm=F tm/\pL ⟨tm',ob,tk⟩ d z b y v=some ⟨F tm',c'.ob,c'.tk⟩:=by
 have e1:∀v,dY ⟨tm',ob,tk⟩ v=dY ⟨tm,ob,tk⟩ v:=fun v=>by cases v<;>rfl
 have e2:∀n v,fb ⟨tm',ob,tk⟩ n v=fb ⟨tm,ob,tk⟩ n v:=fun n v=>by cases v<;>rfl
 have put:∀(k:Nat)(u:SV),some (CSt.put ⟨tm,ob,tk⟩ (some k) u)=some c'->∃F,Uni (some k) F/\c'.tm=F tm/\some (CSt.put ⟨tm',ob,tk⟩ (some k) u)=some ⟨F tm',c'.ob,c'.tk⟩:=by intro k u hu;obtain⟨F,h1,h2⟩:=Uni.cput (some k) u;rw[h2]at hu;cases hu;exact⟨F,h1,rfl,by rw[h2]⟩
 have app:∀(k:Nat)(e:mL),some (CSt.app ⟨tm,ob,tk⟩ (some k) e)=some c'->∃F,Uni (some k) F/\c'.tm=F tm/\some (CSt.app ⟨tm',ob,tk⟩ (some k) e)=some ⟨F tm',c'.ob,c'.tk⟩:=by intro k e hu;obtain⟨F,ob',tk',h1,h2⟩:=nR (ob:=ob) (tk:=tk) (some k) e;rw[h2]at hu;cases hu;exact⟨F,h1,rfl,by rw[h2]⟩
 have app6:∀(o' k:Nat)(e:mL),some (CSt.app (CSt.purge ⟨tm,ob,tk⟩ o' (o'+1)) (some k) e)=some c'->∃F,Uni (some k) F/\c'.tm=F tm/\some (CSt.app (CSt.purge ⟨tm',ob,tk⟩ o' (o'+1)) (some k) e)=some ⟨F tm',c'.ob,c'.tk⟩:=by intro o' k e hu;obtain⟨F,ob',tk',h1,h2⟩:=nR (ob:=bw o' (o'+1) ob) (tk:=cf o' (o'+1) tk) (some k) e;simp only[CSt.purge]at hu ⊢;rw[h2]at hu;cases hu;exact⟨fun t=>F (cV o' (o'+1) t),(Uni.purge o' (o'+1)).comp h1,rfl,by rw[h2]⟩
 unfold pL at hc ⊢;split at hc<;>try (cases hc;done)
 ·split at hc<;>try (cases hc;done)
  rename_i ht;simp only[if_pos ht,h,e1];unfold Pi at hc ⊢;split at hc<;>try (cases hc;done)
  split at hc<;>try (cases hc;done)
  rename_i hz;simp only[if_neg hz];split at hc
  ·rename_i hl;simp only[if_pos hl];exact put _ _ hc
  ·rename_i hl
   simp only[if_neg hl];split at hc<;>try (cases hc;done)
   rename_i hb;simp only[if_pos hb];exact app _ _ hc
 ·split at hc<;>try (cases hc;done)
  rename_i ht;simp only[if_pos ht,h,e2];unfold Ph at hc ⊢;split at hc<;>try (cases hc;done)
  split at hc
  ·rename_i hl;simp only[if_pos hl];exact put _ _ hc
  ·rename_i hl
   simp only[if_neg hl];split at hc<;>try (cases hc;done)
   rename_i hb;simp only[if_pos hb];exact app _ _ hc
 ·simp only[h,e2]
  unfold Mo at hc ⊢;split at hc<;>try (cases hc;done)
  split at hc<;>try (cases hc;done)
  rename_i o1 sz1 n1 _ _ _ k1 R1 l1 _ hb;rw[if_pos hb];exact app6 _ _ _ hc
theorem AN{d:Option Nat}{o:SOp}(h:∀y∈o.args,CSt.ev ⟨tm',ob,tk⟩ y=CSt.ev ⟨tm,ob,tk⟩ y)(hc:opC call sg ⟨tm,ob,tk⟩ d o=some c'):∃F,Uni d F/\c'.tm=F tm/\opC call sg ⟨tm',ob,tk⟩ d o=some ⟨F tm',c'.ob,c'.tk⟩:=by
 by_cases hcl:∃f as,o= .call f as
 ·obtain⟨f,as,rfl⟩:=hcl
  simp only[opC]at hc ⊢;simp only[SOp.args,an]at h;rw[h f (.inl rfl),kS fun y hy=>h y (.inr hy)];split at hc<;>try (cases hc;done)
  obtain⟨F,h1,q,h2⟩:=qp (call:=call) (ob:=ob) (tk:=tk) (sg:=sg ‹_›) (d:=d) (g:= ‹_›) (as:= ‹List SV› ++evL ⟨tm,ob,tk⟩ as++ ‹List SV›);rename_i g u v hfn;obtain⟨F,h1,q,h2⟩:=qp (call:=call) (ob:=ob) (tk:=tk) (sg:=sg g) (d:=d) (g:=g) (as:=u++evL ⟨tm,ob,tk⟩ as++v);rw[h2]at hc;cases q with
  |none=>cases hc
  |some q=>simp only[bn,aq.injEq]at hc;subst hc;exact⟨F,h1,rfl,by rw[h2];rfl⟩
 by_cases hnb:∃xs,o= .newB xs
 ·obtain⟨xs,rfl⟩:=hnb
  simp only[opC]at hc ⊢;simp only[SOp.args]at h;rw[kS h];unfold mu at hc ⊢;split at hc<;>try (cases hc;done)
  rename_i k l hk;cases hc;obtain⟨F,ob',tk',h1,h2⟩:=nR (ob:=ob) (tk:=tk) (some k) {val:= .psl (k+100) 1 0 l.length (some l.length),new:=some (.bar l)};exact⟨F,h1,by rw[h2],by simp only[h2]⟩
 by_cases hsl:∃q,o= .slid q
 ·obtain⟨q,rfl⟩:=hsl
  simp only[opC]at hc ⊢;rw[h q (by simp[SOp.args])];generalize CSt.ev ⟨tm,ob,tk⟩ q=v at hc;unfold pm at hc;split at hc<;>try (cases hc;done)
  rename_i o' off n cap;show ∃F,_/\_/\m6 _ d o' off n cap (CSt.look ⟨tm',ob,tk⟩ o')=_;have hlk:CSt.look ⟨tm',ob,tk⟩ o'=CSt.look ⟨tm,ob,tk⟩ o':=rfl;rw[hlk];generalize CSt.look ⟨tm,ob,tk⟩ o'=u at hc;unfold m6 at hc;split at hc<;>try (cases hc;done)
  split at hc<;>try (cases hc;done)
  rename_i l hcond;cases hc;obtain⟨F,ob',tk',vs',h1,h2⟩:=l4 (ob:=ob) (tk:=tk) o' [];obtain⟨G,g1,g2⟩:=Uni.cput d (.byt ((l.drop off).take n) .clip);refine⟨fun t=>G (F t),h1.weak.comp g1, ?_, ?_⟩
  ·rw[h2 tm];rw[g2]
  ·simp only[m6,if_pos hcond,h2,g2]
 by_cases hao:∃z b q y,o= .appO z b q y
 ·obtain⟨z,b,q,y,rfl⟩:=hao
  simp only[opC]at hc ⊢;simp only[SOp.args,an,bU,or_false,forall_eq_or_imp,forall_eq]at h;rw[h.1];exact EF h.2 hc
 ·have e:∀c,opC call sg c d o=ma c d (dD c d o):=by
   intro c;cases o<;>first|rfl|exact absurd ⟨_,_,rfl⟩ hcl|exact absurd ⟨_,rfl⟩ hnb|exact absurd ⟨_,rfl⟩ hsl|exact absurd ⟨_,_,_,_,rfl⟩ hao
  rw[e]at hc;rw[e,Qu h];cases he:dD ⟨tm,ob,tk⟩ d o with
  |none=>rw[he]at hc;cases hc
  |some q=>rw[he]at hc;simp only[ma,aq.injEq]at hc ⊢;obtain⟨F,ob',tk',h1,h2⟩:=nR (ob:=ob) (tk:=tk) d q;rw[h2]at hc;subst hc;exact⟨F,h1,rfl,h2 _⟩
theorem r5{i:SI}(h:∀n∈i.rds,dS tm' n=dS tm n):∀y∈i.op.args,CSt.ev ⟨tm',ob,tk⟩ y=CSt.ev ⟨tm,ob,tk⟩ y:=by
 intro y hy;refine xf9 fun n hn=>h n ?_
 subst hn;unfold SI.rds;rw[al];exact .inl (List.mem_filterMap.2 ⟨_,hy,rfl⟩)
theorem Xn{i:SI}{g:Nat}{b:Bool}(hg:i.g=some (g,b)):g∈i.rds:=by unfold SI.rds;rw[hg];simp
theorem BH{i:SI}(h:∀n∈i.rds,dS tm' n=dS tm n)(hc:dw call sg ⟨tm,ob,tk⟩ i=some c'):∃F,Uni i.dst F/\c'.tm=F tm/\dw call sg ⟨tm',ob,tk⟩ i=some ⟨F tm',c'.ob,c'.tk⟩:=by
 unfold dw at hc ⊢;split at hc
 ·exact AN (r5 h) hc
 ·rename_i g b hg
  have e:CSt.get ⟨tm',ob,tk⟩ g=CSt.get ⟨tm,ob,tk⟩ g:=h g (Xn hg);rw[e];split at hc<;>try (cases hc;done)
  rotate_left
  ·obtain⟨F,h1,h2⟩:=Uni.cput i.dst (.tup [])
   rw[h2]at hc;cases hc;exact⟨F,h1,rfl,by rw[h2]⟩
  split at hc
  ·rename_i hb
   obtain⟨F,h1,h2,h3⟩:=AN (r5 h) hc;exact⟨F,h1,h2,by simp only[if_pos hb];exact h3⟩
  ·rename_i hb
   obtain⟨F,h1,h2⟩:=Uni.cput i.dst (.tup []);rw[h2]at hc;cases hc;exact⟨F,h1,rfl,by simp only[if_neg hb];rw[h2]⟩
theorem W8{i:SI}(h:∀n∈i.rds,dS tm' n=dS tm n):qv ⟨tm',ob,tk⟩ i=qv ⟨tm,ob,tk⟩ i:=by
 have hq:cO ⟨tm',ob,tk⟩ i.op=cO ⟨tm,ob,tk⟩ i.op:=by
  have ha:=r5 (ob:=ob) (tk:=tk) h;generalize i.op=o at ha;have hv:=yR ha;cases o with
  |pick k a b=>simp only[SOp.args,an,bU,or_false,forall_eq_or_imp,forall_eq]at ha;simp only[cO];rw[ha.1,ha.2.1,ha.2.2]
  |_=>simp only[cO];rw[hv]
 unfold qv;cases hg:i.g with
 |none=>exact hq
 |some p=>obtain⟨g,b⟩:=p;simp only;have e:CSt.get ⟨tm',ob,tk⟩ g=CSt.get ⟨tm,ob,tk⟩ g:=h g (Xn hg);rw[e];cases CSt.get ⟨tm,ob,tk⟩ g<;>first|rfl|(simp only[qg];rw[hq])
end
theorem mV{i:SI}{v:SV}(h:qv c i=some v):dw call sg c i=some (c.put i.dst v):=by
 have hop:∀o,cO c o=some v->opC call sg c i.dst o=some (c.put i.dst v):=by
  intro o ho;cases o with
  |pick k a b=>simp only[cO]at ho;split at ho<;>cases ho;rename_i t ht;simp only[opC,dD,ht,ma];rfl
  |_=>
   simp only[cO]at ho
   first
    |(simp only[cA]at ho;cases ho;done)
    |(simp only[opC,dD];rw[ho];rfl)
    |(simp[cA]at ho;done)
 unfold qv at h;unfold dw;generalize i.g=q at h;cases q with
 |none=>exact hop _ h
 |some q=>
  obtain⟨g,b⟩:=q;simp only at h ⊢;generalize c.get g=u at h
  by_cases hu:u= .tup []
  ·subst hu
   simp only[qg,aq.injEq]at h;subst h;rfl
  obtain⟨t,rfl⟩:∃t,u= .bool t:=by
   unfold qg at h;split at h
   ·exact⟨_,rfl⟩
   ·exact absurd rfl hu
   ·cases h
  simp only[qg]at h ⊢;split at h
  ·rename_i hb;rw[if_pos hb];exact hop _ h
  ·rename_i hb;rw[if_neg hb];cases h;rfl
structure Apx(N:Nat)(D:List Nat)(c p:CSt):Prop where
 get:∀n,n∉D->c.get n=p.get n
 ob:c.ob=p.ob
 tk:c.tk=p.tk
 dom:∀q∈p.tm,q.1<N
theorem Apx.step{D:List Nat}{p p1:CSt}{i:SI}(h:Apx N D c p)(hi:i.ok N=true)(hr:∀n∈i.rds,n∉D)(hs:dw call sg p i=some p1):∃c1,dw call sg c i=some c1/\Apx N D c1 p1:=by
 obtain⟨tm',ob',tk'⟩:=c;obtain⟨tm,ob,tk⟩:=p;have h1:=h.ob;have h2:=h.tk;simp only at h1 h2;subst h1;subst h2;obtain⟨F,k1,k2,k3⟩:=BH (tm':=tm') (fun n hn=>h.get n (hr n hn)) hs;refine⟨_,k3,⟨fun n hn=> ?_,rfl,rfl,fun q hq=> ?_⟩⟩
 ·show dS (F tm') n=dS p1.tm n
  rw[k2];exact k1.get _ _ _ (h.get n hn)
 ·rw[k2]at hq
  rcases k1.dom _ _ hq with⟨q',hq',e⟩|e
  ·rw[<-e];exact h.dom q' hq'
  ·unfold SI.ok at hi
   rw[e]at hi;simpa using hi
theorem Apx.qv{D:List Nat}{p:CSt}{i:SI}(h:Apx N D c p)(hr:∀n∈i.rds,n∉D):qv c i=qv p i:=by obtain⟨tm',ob',tk'⟩:=c;obtain⟨tm,ob,tk⟩:=p;have h1:=h.ob;have h2:=h.tk;simp only at h1 h2;subst h1;subst h2;exact W8 fun n hn=>h.get n (hr n hn)
theorem Apx.put{D:List Nat}{p:CSt}{d:Nat}{v:SV}(h:Apx N D c p)(hd:d<N):Apx N (d::D) c (p.put (some d) v):=by
 refine⟨fun n hn=> ?_,h.ob,h.tk,fun q hq=> ?_⟩
 ·simp only[an,not_or]at hn
  rw[fV,if_neg hn.1];exact h.get n hn.2
 ·rcases lc hq with e|e
  ·rw[e];exact hd
  ·exact h.dom q e
theorem Mj{p:CSt}{d:Nat}{v:SV}{i:SI}(h:d∉i.rds):Sy.qv (p.put (some d) v) i=Sy.qv p i:=by
 obtain⟨tm,ob,tk⟩:=p;refine W8 (tm:=tm) (tm':=iO tm d v) fun n hn=> ?_
 rw[lg,if_neg (by intro e;subst e;exact h hn)]
theorem ox{α:Type}{p:Prop}{v u:α}(h:gdP p v=some u):p/\v=u:=by
 unfold gdP at h;split at h
 ·rename_i hp;exact⟨hp,by simpa using h⟩
 ·cases h
theorem oA{m:Nat}{p:CSt}{f:FI}:∀{l:List FI},rE m p l->f∈l->m.testBit f.n=true\/qv p f.i=some (p.get (f.i.dst.getD 0))
 |g::r,h,hf=>by
  rcases an.1 hf with rfl|hf
  ·rcases h.1 with h1|h1
   ·left
    rw[Nat.testBit_eq_decide_div_mod_eq];simpa using h1
   ·exact .inr h1
  ·exact oA h.2 hf
def Nx(g q:FI):Prop:=q.q=true->∀d,q.i.dst=some d->d∉g.i.rds/\g.i.dst≠some d
def wu(q:FI):Prop:=q.q=true->∃d,q.i.dst=some d/\d∉q.i.rds
def dOf(f:FI):Nat:=f.i.dst.getD 0
theorem lH{b:List Nat}{cF:CSt}:∀{r ps V:List FI}{p:CSt}{D:List Nat},eD call sg b r ps p=some cF->Apx N D c p->(∀f∈r,f.i.ok N=true)->(∀f∈r,wu f)->r.Pairwise Nx->(∀g∈V,∀f∈r,Nx g f)->
 (∀g∈V,∃d,g.i.dst=some d)->(∀g∈V,qv p g.i=some (p.get (dOf g)))->∃seg post p2 ps2,r=seg++post/\(∀f∈seg,f.q=true)/\(post=[]\/∃f r',post=f::r'/\f.q=false)/\eD call sg b post ps2 p2=some cF/\
  (∀f,f∈ps\/f∈seg->f∈ps2)/\Apx N (seg.map dOf++D) c p2/\∀g,g∈V\/g∈seg->qv p2 g.i=some (p2.get (dOf g))
 |[],ps,V,p,D,h,hA,_,_,_,_,_,hV=>⟨[],[],p,ps,rfl,by simp,.inl rfl,h,by simp,by simpa using hA,by simpa using hV⟩
 |f::r,ps,V,p,D,h,hA,hok,hself,hpw,hVr,hVd,hV=>by
  obtain⟨n,q,i⟩:=f;cases q with
  |false=>exact⟨[],⟨n,false,i⟩::r,p,ps,rfl,by simp,.inr ⟨_,_,rfl,rfl⟩,h,by simp,by simpa using hA,by simpa using hV⟩
  |true=>
   simp only[eD]at h;cases hq:qv p i with
   |none=>rw[hq]at h;simp[ut]at h
   |some v=>
    rw[hq]at h;simp only[ut]at h;obtain⟨d,hd,hdr⟩:=hself _ (ay ..) rfl;simp only at hd hdr
    have hdN:d<N:=by have:=hok _ (ay ..);unfold SI.ok at this;simp only[hd]at this;simpa using this
    rw[hd]at h;rw[bE]at hpw
    have hget:∀g:FI,(∃e,g.i.dst=some e)->g.i.dst≠some d->(p.put (some d) v).get (dOf g)=p.get (dOf g):=by
     rintro g ⟨e,he⟩ hne;have e1:dOf g=e:=by unfold dOf;rw[he];rfl
     rw[e1,fV,if_neg];intro e2;rw[he,e2]at hne;exact hne rfl
    obtain⟨seg,post,p2,ps2,k1,k2,k3,k4,k5,k6,k7⟩:=lH (V:=⟨n,true,i⟩::V) h (hA.put hdN) (fun f hf=>hok f (ao _ hf)) (fun f hf=>hself f (ao _ hf)) hpw.2
     (by
      intro g hg f hf;rcases an.1 hg with rfl|hg
      ·exact hpw.1 f hf
      ·exact hVr g hg f (ao _ hf))
     (by
      intro g hg;rcases an.1 hg with rfl|hg
      ·exact⟨d,hd⟩
      ·exact hVd g hg)
     (by
      intro g hg;rcases an.1 hg with rfl|hg
      ·have e1:dOf ⟨n,true,i⟩=d:=by unfold dOf;simp only[hd];rfl
       rw[e1,Mj hdr,fV,if_pos rfl];exact hq
      ·obtain⟨h1,h2⟩:=hVr g hg _ (ay ..) rfl d hd
       rw[Mj h1,hget g (hVd g hg) h2];exact hV g hg)
    refine⟨⟨n,true,i⟩::seg,post,p2,ps2,by rw[k1];rfl, ?_,k3,k4, ?_, ?_, ?_⟩
    ·intro f hf
     rcases an.1 hf with rfl|hf
     ·rfl
     ·exact k2 f hf
    ·intro f hf
     refine k5 f ?_;rcases hf with hf|hf
     ·exact .inl (ao _ hf)
     ·rcases an.1 hf with rfl|hf
      ·exact .inl (ay ..)
      ·exact .inr hf
    ·have e1:dOf ⟨n,true,i⟩=d:=by unfold dOf;simp only[hd];rfl
     refine⟨fun m hm=>k6.get m (fun h=>hm ?_),k6.ob,k6.tk,k6.dom⟩;simp only[aC,e1,aS,an,al]at h ⊢;rcases h with h|h|h
     ·exact .inr (.inl h)
     ·exact .inl h
     ·exact .inr (.inr h)
    ·intro g hg
     refine k7 g ?_;rcases hg with hg|hg
     ·exact .inl (ao _ hg)
     ·rcases an.1 hg with rfl|hg
      ·exact .inl (ay ..)
      ·exact .inr hg
section
variable {ops : Array Oper} {its : List FI} {b : List Nat}
def un(its:List FI)(listed:Array Bool):List FI:=its.filter fun f=> !listed.getD f.n true
theorem cI{listed:Array Bool}{f:FI}:f∈un its listed↔f∈its/\listed.getD f.n true=false:=by simp[un]
structure nU(call:cN)(sg:Nat->Sig)(N:Nat)(b:List Nat)(its:List FI)(cF:CSt)(listed:Array Bool)(c:CSt):Prop where
 ex:∃pre post p ps,its=pre++post/\(post=[]\/∃f r,post=f::r/\f.q=false)/\eD call sg b post ps p=some cF/\(∀f∈pre,f.q=true->f∈ps)/\
  (∀f∈pre,f.q=false->listed.getD f.n true=true)/\(∀f∈post,listed.getD f.n true=false)/\
  Apx N ((un pre listed).map dOf) c p/\∀f∈un pre listed,qv p f.i=some (p.get (dOf f))
theorem vU(hcal:fz P call){cF:CSt}
 (hitem:∀f∈its,∃o,ops[f.n]? =some o/\fq P ops o=some f.i.er/\f.n<ops.size) (hex:∀j,j<ops.size->∃f∈its,f.n=j) (hinj:∀f∈its,∀g∈its,f.n=g.n->f=g)
 (hback:∀(i:Nat)(o:Oper),ops[i]? =some o->∀e∈o.after,Region.binds .any e=true->e.on<i)
 (hbit:∀(i:Nat)(o:Oper)(k:Nat),ops[i]? =some o->k<ops.size->(b.getD i 0).testBit k=true->∃e∈o.after,Region.binds .any e=true/\(e.on=k\/(b.getD e.on 0).testBit k=true))
 (hok:∀f∈its,f.i.ok N=true) (hself:∀f∈its,wu f) (hnx:its.Pairwise Nx)
 (hrd:∀q∈its,q.q=true->∀p∈its,∀d,q.i.dst=some d->d∈p.i.rds->(b.getD p.n 0).testBit q.n=true)
 (hseg:∀pre f r,its=pre++f::r->f.q=false->∀g∈r,∃h∈f::r,(b.getD g.n 0).testBit h.n=true)
 (hdd:∀f∈its,∀g∈its,f.n≠g.n->∀d,f.i.dst=some d->g.i.dst≠some d) {Q:Exit->Act->World->Prop} (hQ:∀a w,M C N cF a w->Q .normal a w):
 ∀(fuel:Nat)(listed:Array Bool)(c:CSt)(a:Act)(w:World),(un its listed).length<=fuel->listed.size=ops.size->
  (∀(i:Nat)(o:Oper)(k:Nat),ops[i]? =some o->listed.getD i true=true->k<ops.size->(b.getD i 0).testBit k=true->listed.getD k true=true)->
  nU call sg N b its cF listed c->M C N c a w->wpAny P .any ops Q fuel listed a w:=by
 classical
 have hd2:∀(listed:Array Bool),listed.size=ops.size->∀k,k<ops.size->listed.getD k false=listed.getD k true:=by intro listed hs k hk;simp[jw,hs,hk]
 have done:∀(listed:Array Bool)(c:CSt)(a:Act)(w:World),un its listed=[]->nU call sg N b its cF listed c->M C N c a w->Region.ready .any ops listed=[]/\Q .normal a w:=by
  intro listed c a w h0 hS hM;constructor
  ·rw[List.eq_nil_iff_forall_not_mem]
   intro j hj;obtain⟨h1,o,h2,h3⟩:=mem_ready.1 hj;have hj':j<ops.size:=(db.1 h2).1;obtain⟨it,hit,rfl⟩:=hex j hj';have:it∈un its listed:=cI.2 ⟨hit,h1⟩;rw[h0]at this;cases this
  ·obtain⟨pre,post,p,ps,e,hp,hrun,_,_,hpost,hA,_⟩:=hS.ex
   have hp0:post=[]:=by
    cases post with
    |nil=>rfl
    |cons f r=>have:f∈un its listed:=cI.2 ⟨by rw[e];simp,hpost f (ay ..)⟩;rw[h0]at this;cases this
   subst hp0;simp only[eD,aq.injEq]at hrun;subst hrun;have hD:un pre listed=[]:=by rw[<-h0,e,aZ]
   rw[hD]at hA;refine hQ a w ?_;obtain⟨x,s,hMo,hSi⟩:=hM;refine M.slots (c:=c) ⟨x,s,hMo,hSi⟩ ⟨hA.dom,by rw[<-hA.ob];exact hSi.inv.so,by rw[<-hA.ob];exact hSi.inv.wf⟩ hA.ob.symm hA.tk.symm (fun i=> .inl (hA.get i (by simp)).symm)
 intro fuel;induction fuel with
 |zero=>intro listed c a w hf hs hcl hS hM;exact done listed c a w (dJ.1 (by omega)) hS hM
 |succ fuel ih=>
  intro listed c a w hf hs hcl hS hM;constructor
  ·intro hnil
   by_cases h0:un its listed=[]
   ·exact(done listed c a w h0 hS hM).2
   ·exfalso
    have hp:∃n,∃f∈un its listed,f.n=n:=by
     cases hc:un its listed with
     |nil=>exact absurd hc h0
     |cons f r=>exact⟨_,f,ay ..,rfl⟩
    obtain⟨n,⟨f,hfu,hfn⟩,hmin⟩:=Xg _ hp;obtain⟨h1,h2⟩:=cI.1 hfu;obtain⟨o,h3,_,h4⟩:=hitem f h1
    have:f.n∈Region.ready .any ops listed:=by refine mem_ready.2 ⟨h2,o,h3,fun e he hb=> ?_⟩;have hlt:=hback f.n o h3 e he hb;rw[hd2 listed hs _ (by omega),<-Bool.not_eq_false];intro hfl;obtain⟨g,hg,hgn⟩:=hex e.on (by omega);have:=hmin e.on ⟨g,cI.2 ⟨hg,by rw[hgn];exact hfl⟩,hgn⟩;omega
    rw[hnil]at this;cases this
  ·intro i hir
   obtain⟨h1,o,h2,h3⟩:=mem_ready.1 hir;have hi':i<ops.size:=(db.1 h2).1;obtain⟨it,hit,rfl⟩:=hex i hi';obtain⟨o',ho',hres,_⟩:=hitem it hit;rw[h2]at ho';cases ho'
   have hdep:∀k,k<ops.size->(b.getD it.n 0).testBit k=true->listed.getD k true=true:=by
    intro k hk hb;obtain⟨e,he,hbd,hor⟩:=hbit it.n o k h2 hk hb;have hon:=h3 e he hbd;have honlt:=hback it.n o h2 e he hbd;rw[hd2 listed hs _ (by omega)]at hon;rcases hor with h|h
    ·rw[<-h];exact hon
    ·exact hcl e.on (ops[e.on]'(by omega)) k (by simp) hon hk h
   have hlen:(un its (listed.setIfInBounds it.n true)).length<(un its listed).length:=by
    have e1:un its (listed.setIfInBounds it.n true)=(un its listed).filter fun q=> !decide (q.n=it.n):=by
     simp only[un,List.filter_filter];apply List.filter_congr;intro q hq;rw[fT (by omega)]
     by_cases h:q.n=it.n<;>simp[h]
    rw[e1];refine List.length_filter_lt_length_iff_exists.2 ⟨it,cI.2 ⟨hit,h1⟩,by simp⟩
   have hcl':∀(i:Nat)(o:Oper)(k:Nat),ops[i]? =some o->(listed.setIfInBounds it.n true).getD i true=true->k<ops.size->(b.getD i 0).testBit k=true->(listed.setIfInBounds it.n true).getD k true=true:=by
    intro i2 o2 k2' ho2 hl2 hk2 hb2;rw[fT (by omega)]at hl2 ⊢;split
    ·rfl
    ·split at hl2
     ·rename_i e1
      subst e1;exact hdep k2' hk2 hb2
     ·exact hcl i2 o2 k2' ho2 hl2 hk2 hb2
   have hne:∀g∈its,listed.getD g.n true=true->g≠it:=by intro g _ hg e;subst e;rw[h1]at hg;cases hg
   have hset:∀g∈its,(listed.setIfInBounds it.n true).getD g.n true=if g=it then true else listed.getD g.n true:=by
    intro g hg;rw[fT (by omega)]
    by_cases h:g=it
    ·subst h;simp
    ·rw[if_neg (fun e=>h (hinj g hg it hit e)),if_neg h]
   obtain⟨pre,post,p,ps,e,hpost0,hrun,hps,hprel,hpostu,hA,hV⟩:=hS.ex;have hpre_in:∀g∈pre,g∈its:=fun g hg=>by rw[e];exact al.2 (.inl hg)
   have hpost_in:∀g∈post,g∈its:=fun g hg=>by rw[e];exact al.2 (.inr hg)
   have hrds:∀n∈it.i.rds,n∉(un pre listed).map dOf:=by
    intro n hn hm;obtain⟨g,hg,hgd⟩:=aR.1 hm;obtain⟨hg1,hg2⟩:=cI.1 hg
    have hgq:g.q=true:=by
     cases hq:g.q with
     |true=>rfl
     |false=>rw[hprel g hg1 hq]at hg2;cases hg2
    obtain⟨d,hd,_⟩:=hself g (hpre_in g hg1) hgq;have hdn:d=n:=by unfold dOf at hgd;rw[hd]at hgd;exact hgd
    subst hdn;have:=hrd g (hpre_in g hg1) hgq it hit d hd hn;obtain⟨_,_,_,hlt⟩:=hitem g (hpre_in g hg1);rw[hdep g.n hlt this]at hg2;cases hg2
   by_cases hin:it∈pre
   ·
    have hq:it.q=true:=by
     cases hq:it.q with
     |true=>rfl
     |false=>rw[hprel it hin hq]at h1;cases h1
    have hiu:it∈un pre listed:=cI.2 ⟨hin,h1⟩;have hv:=hV it hiu;rw[<-hA.qv hrds]at hv;obtain⟨d,hd,hdr⟩:=hself it hit hq;have hdo:dOf it=d:=by unfold dOf;rw[hd];rfl
    refine fF hcal hM (hok it hit) h2 hres (mV (call:=call) (sg:=sg) hv) fun a' w' hM'=> ?_
    refine ih _ _ a' w' (by omega) (by simpa using hs) hcl' ⟨pre,post,p,ps,e,hpost0,hrun,hps, ?_, ?_, ?_, ?_⟩ hM'
    ·intro f hf hfq
     rw[hset f (hpre_in f hf)];split
     ·rfl
     ·exact hprel f hf hfq
    ·intro f hf
     rw[hset f (hpost_in f hf),if_neg]
     ·exact hpostu f hf
     ·intro e2
      subst e2
      have hnd:its.Pairwise fun f g=>f.n≠g.n\/f=g:=List.pairwise_of_forall_mem_list (fun f hf g hg=>by
       by_cases h:f.n=g.n
       ·exact .inr (hinj f hf g hg h)
       ·exact .inl h)
      have h5:=hnx;rw[e]at h5;have h6:=(dF.1 h5).2.2 f hin f hf hq d hd;exact h6.2 hd
    ·refine⟨fun n hn=> ?_, ?_, ?_,hA.dom⟩
     ·rw[hd,fV]
      split
      ·rename_i e2;rw[e2,hdo]
      ·rename_i hnd
       refine hA.get n fun hm=>hn ?_
       obtain⟨g,hg,hgd⟩:=aR.1 hm;obtain⟨hg1,hg2⟩:=cI.1 hg;refine aR.2 ⟨g,cI.2 ⟨hg1, ?_⟩,hgd⟩;rw[hset g (hpre_in g hg1),if_neg]
       ·exact hg2
       ·intro e2;subst e2;rw[hdo]at hgd;exact hnd hgd.symm
     ·cases it.i.dst<;>exact hA.ob
     ·cases it.i.dst<;>exact hA.tk
    ·intro f hf
     obtain⟨hf1,hf2⟩:=cI.1 hf;refine hV f (cI.2 ⟨hf1, ?_⟩);rw[hset f (hpre_in f hf1)]at hf2;split at hf2
     ·cases hf2
     ·exact hf2
   ·
    have hinp:it∈post:=by rw[e]at hit;exact(al.1 hit).resolve_left hin
    obtain⟨f0,r,hpe,hf0⟩:∃f r,post=f::r/\f.q=false:=by
     rcases hpost0 with h|h
     ·subst h;cases hinp
     ·exact h
    have hit0:it=f0:=by
     rw[hpe]at hinp;rcases an.1 hinp with h|h
     ·exact h
     ·exfalso
      obtain⟨g,hg,hgb⟩:=hseg pre f0 r (by rw[e,hpe]) hf0 it h;have hgi:g∈post:=by rw[hpe];exact hg
      obtain⟨_,_,_,hlt⟩:=hitem g (hpost_in g hgi);have:=hdep g.n hlt hgb;rw[hpostu g hgi]at this;cases this
    subst hit0;subst hpe;obtain⟨n,q,i⟩:=it;simp only at hf0;subst hf0;simp only[eD]at hrun;cases hs1:dw call sg p i with
    |none=>rw[hs1]at hrun;simp[o6]at hrun
    |some p1=>
     rw[hs1]at hrun;simp only[o6]at hrun;cases hg:gdP (rE (b.getD n 0) p1 ps) p1 with
     |none=>rw[hg]at hrun;simp[o7]at hrun
     |some p1'=>
      rw[hg]at hrun;simp only[o7]at hrun;obtain⟨hchk,rfl⟩:=ox hg;obtain⟨c1,hc1,hA1⟩:=hA.step (hok _ hit) hrds hs1;refine fF hcal hM (hok _ hit) h2 hres hc1 fun a' w' hM'=> ?_
      have hsub:∀g∈un pre listed,g.q=true:=by
       intro g hg;obtain⟨hg1,hg2⟩:=cI.1 hg;cases hq:g.q with
       |true=>rfl
       |false=>rw[hprel g hg1 hq]at hg2;cases hg2
      have hnx':=hnx;rw[e]at hnx';have hpa:=dF.1 hnx'
      obtain⟨seg,post',p2,ps2,k1,k2,k3,k4,k5,k6,k7⟩:=lH (V:=un pre listed) hrun hA1 (fun f hf=>hok f (hpost_in f (ao _ hf))) (fun f hf=>hself f (hpost_in f (ao _ hf)))
       (bE.1 hpa.2.1).2 (fun g hg f hf=>hpa.2.2 g (cI.1 hg).1 f (ao _ hf))
       (fun g hg=>by obtain⟨d,hd,_⟩:=hself g (hpre_in g (cI.1 hg).1) (hsub g hg);exact⟨d,hd⟩)
       (fun g hg=>by
        obtain⟨hg1,hg2⟩:=cI.1 hg;rcases oA hchk (hps g hg1 (hsub g hg))with h|h
        ·obtain⟨_,_,_,hlt⟩:=hitem g (hpre_in g hg1)
         rw[hdep g.n hlt h]at hg2;cases hg2
        ·exact h)
      have hun:un (pre++⟨n,false,i⟩::seg) (listed.setIfInBounds n true)=un pre listed++seg:=by
       unfold un;rw[List.filter_append,j9];have e1:(listed.setIfInBounds n true).getD n true=true:=by rw[fT (by rw[hs];exact hi')];simp
       simp only[e1,Bool.not_true,aK,if_false]
       congr 1
       ·apply List.filter_congr
        intro g hg;have:=hset g (hpre_in g hg);simp only at this;rw[this,if_neg];intro e2;subst e2;exact hin hg
       ·apply gH.2
        intro g hg;have hgi:g∈⟨n,false,i⟩::r:=by rw[k1];exact ao _ (al.2 (.inl hg))
        have:=hset g (hpost_in g hgi);simp only at this;rw[this,if_neg]
        ·rw[hpostu g hgi];rfl
        ·intro e2;subst e2;have:=k2 _ hg;cases this
      refine ih _ _ a' w' (by omega) (by simpa using hs) hcl' ⟨pre++⟨n,false,i⟩::seg,post',p2,ps2,by rw[e,k1];simp,k3,k4, ?_, ?_, ?_, ?_, ?_⟩ hM'
      ·intro f hf hfq
       rcases al.1 hf with h|h
       ·exact k5 f (.inl (hps f h hfq))
       ·rcases an.1 h with rfl|h
        ·cases hfq
        ·exact k5 f (.inr h)
      ·intro f hf hfq
       rcases al.1 hf with h|h
       ·rw[hset f (hpre_in f h)]
        split
        ·rfl
        ·exact hprel f h hfq
       ·rcases an.1 h with rfl|h
        ·rw[hset _ hit,if_pos rfl]
        ·rw[k2 f h]at hfq;cases hfq
      ·intro f hf
       have hfi:f∈⟨n,false,i⟩::r:=by rw[k1];exact ao _ (al.2 (.inr hf))
       rw[hset f (hpost_in f hfi),if_neg]
       ·exact hpostu f hfi
       ·intro e2
        subst e2;obtain⟨g,hg,hgb⟩:=hseg pre ⟨n,false,i⟩ r e rfl ⟨n,false,i⟩ (by rw[k1];exact al.2 (.inr hf));obtain⟨_,_,_,hlt⟩:=hitem g (hpost_in g hg);have:=hdep g.n hlt hgb;rw[hpostu g hg]at this;cases this
      ·rw[hun,cE]
       refine⟨fun m hm=>k6.get m (fun h=>hm ?_),k6.ob,k6.tk,k6.dom⟩;rw[al]at h ⊢;exact h.symm
      ·rw[hun]
       intro f hf;exact k7 f (al.1 hf)
end
theorem qa{f:FI}(l:List FI)(h:(l.map FI.n).Nodup)(hf:f∈l):Dn l f.n=f.i.er:=by
 induction l with
 |nil=>cases hf
 |cons g r ih=>
  simp only[aC,du]at h;simp only[Dn];rcases an.1 hf with rfl|hf
  ·rw[if_pos rfl]
  ·rw[if_neg,ih h.2 hf]
   intro e;apply h.1;rw[e];exact gG hf
theorem Ef{b:List Nat}{s:Nat}(l:List FI):mn b (some s) l=true->∀g∈l,(b.getD g.n 0).testBit s=true\/∃h∈l,(b.getD g.n 0).testBit h.n=true:=by
 induction l generalizing s with
 |nil=>intro _ g hg;cases hg
 |cons f r ih=>
  intro h g hg;simp only[mn]at h;split at h
  ·simp only[aA,l8]at h
   rcases an.1 hg with rfl|hg
   ·exact .inl h.1
   ·rcases ih h.2 g hg with h1|⟨k,hk,h1⟩
    ·exact .inl h1
    ·exact .inr ⟨k,ao _ hk,h1⟩
  ·simp only[aA,l8]at h
   rcases an.1 hg with rfl|hg
   ·exact .inl h.1
   ·rcases ih h.2 g hg with h1|⟨k,hk,h1⟩
    ·exact .inr ⟨f,ay ..,h1⟩
    ·exact .inr ⟨k,ao _ hk,h1⟩
theorem wK{b:List Nat}:∀{pre:List FI}{s:Option Nat}{f:FI}{r:List FI},mn b s (pre++f::r)=true->f.q=false->mn b (some f.n) r=true
 |[],s,f,r,h,hf=>by simp only[aF,mn,hf,aK,if_false,aA]at h;exact h.2
 |g::pre,s,f,r,h,hf=>by
  simp only[aS,mn]at h;split at h
  ·rw[aA]at h;exact wK h.2 hf
  ·rw[aA]at h;exact wK h.2 hf
theorem nl{b:List Nat}:∀{l:List FI},nm b l=true->l.Pairwise fun p q=>(b.getD p.n 0).testBit q.n=false
 |[],_=>gY.nil
 |p::r,h=>by simp only[nm,aA,aU]at h;refine bE.2 ⟨fun q hq=> ?_,nl h.2⟩;have:=h.1 q hq;simp only[Mn,aA,dn,l8]at this;exact this.1
theorem CF(hcal:fz P call){id:Nat}{ops:Array Oper}{its:List FI}(hl:iU (fq P ops) ops.toList=some (unF its))(hd:drawn ops (unF its)=true)(hm:P.follows .mixedOrders=true)
 (hok:its.all (fun f=>f.i.ok N)=true) (hflt:Nt (Region.before ops).toList its=true) {cF:CSt} {Q:Exit->Act->World->Prop} (hQ:∀a w,M C N cF a w->Q .normal a w) (hM:M C N c a w)
 (h:eD call sg (Region.before ops).toList its [] c=some cF):(Code.region id ops true).wp P Q a w:=by
 simp only[Nt,aA,decide_eq_true_eq,aU]at hflt;obtain⟨⟨⟨⟨⟨hseg,hpairs⟩,hfq⟩,hnd⟩,hlt⟩,hcov⟩:=hflt;simp only[PV,aU,eu,dn]at hfq;rw[aU]at hok;obtain⟨hlen,hget⟩:=ej hl;have hul:(unF its).length=its.length:=by simp[unF]
 have hsz:its.length=ops.size:=by rw[<-hul,hlen,aP]
 have hun:∀f∈its,(unF its).getD f.n ⟨none,none,.lenC 0⟩=f.i.er:=by intro f hf;have:=hlt f hf;rw[aa];simp only[unF,aO,bW this,bn,aX];exact qa _ hnd hf
 simp only[drawn,aA,decide_eq_true_eq]at hd;obtain⟨⟨hc,ht⟩,hdst⟩:=hd
 have hitem:∀f∈its,∃o,ops[f.n]? =some o/\fq P ops o=some f.i.er/\f.n<ops.size:=by
  intro f hf;have hfl:=hlt f hf;have hj2:f.n<ops.toList.length:=by rw[aP];omega
  refine⟨ops.toList[f.n],by rw[<-cD,ab hj2], ?_,by omega⟩;have h1:=hget f.n hj2 (by omega);rw[h1]
  congr 1
  have h2:=hun f hf;rwa[aa,ab (by omega),aX]at h2
 have hinj:∀f∈its,∀g∈its,f.n=g.n->f=g:=by
  intro f hf g hg e;have:its.Pairwise fun f g=>f.n≠g.n:=by rw[uN,fI]at hnd;exact hnd
  rw[mN]at this;obtain⟨i,hi,rfl⟩:=List.mem_iff_getElem.1 hf;obtain⟨j,hj,rfl⟩:=List.mem_iff_getElem.1 hg;rcases Nat.lt_trichotomy i j with h|h|h
  ·exact absurd e (this i j hi hj h)
  ·subst h;rfl
  ·exact absurd e.symm (this j i hj hi h)
 have hdd:∀f∈its,∀g∈its,f.n≠g.n->∀d,f.i.dst=some d->g.i.dst≠some d:=by
  have main:∀f∈its,∀g∈its,f.n<g.n->∀d,f.i.dst=some d->g.i.dst≠some d:=by
   intro f hf g hg hlt' d h1 h2
   have hpl:(unF its).Pairwise fun u v=>∀d,u.dst=some d->v.dst≠some d:=by rw[uN,List.pairwise_filterMap]at hdst;refine hdst.imp ?_;intro u v huv d hu hv;exact huv d hu d hv rfl
   rw[mN]at hpl;have hf':=hlt f hf;have hg':=hlt g hg
   have g1:(unF its)[f.n]'(by omega)=f.i.er:=by have:=hun f hf;rwa[aa,ab (by omega),aX]at this
   have g2:(unF its)[g.n]'(by omega)=g.i.er:=by have:=hun g hg;rwa[aa,ab (by omega),aX]at this
   exact hpl f.n g.n (by omega) (by omega) hlt' d (by rw[g1];exact h1) (by rw[g2];exact h2)
  intro f hf g hg hne d h1 h2;rcases bL f.n g.n with h|h
  ·exact main f hf g hg h d h1 h2
  ·exact main g hg f hf (by omega) d h2 h1
 have hclosed:∀(i:Nat)(o:Oper),ops[i]? =some o->(∀e∈o.after,Region.binds .any e=true->e.on<i)/\
  ∀k,k<ops.size->((Region.before ops).toList.getD i 0).testBit k=true->∃e∈o.after,Region.binds .any e=true/\(e.on=k\/((Region.before ops).toList.getD e.on 0).testBit k=true):=by
  intro i o ho;unfold oE at hc;rw[aU]at hc;have hi:i<ops.size:=(db.1 ho).1
  have h1:=hc (o,i) (by rw[List.mem_zipIdx_iff_getElem?];simpa using ho)
  simp only[aA,Array.all_eq_true_iff_forall_mem,aU,eu,dn,decide_eq_true_eq]at h1;refine⟨fun e he hb=>(h1.1 e he).resolve_left (by simp[hb]),fun k hk hb=> ?_⟩;have h2:=(h1.2 k (dH.2 hk)).resolve_left (by simp only[hb];simp);obtain⟨_,h3⟩:=h2;rw[<-Array.any_toList,List.any_eq_true]at h3;obtain⟨e,he,h4⟩:=h3;rw[Array.mem_toList_iff]at he;simp only[aA,eu,beq_iff_eq]at h4;exact⟨e,he,h4.1,h4.2⟩
 have hq:∀q∈its,q.q=true->∃d,q.i.dst=some d/\∀p∈its,d∈p.i.rds->((Region.before ops).toList.getD p.n 0).testBit q.n=true/\p.n≠q.n:=by
  intro q hq hqq;have h1:=(hfq q hq).resolve_left (by rw[hqq];simp);cases hd:q.i.dst with
  |none=>rw[hd]at h1;cases h1
  |some d=>
   rw[hd]at h1;simp only[aU,eu,dn,aA,decide_eq_true_eq,l8]at h1;refine⟨d,rfl,fun p hp hr=> ?_⟩;rcases h1 p hp with h2|h2
   ·rw[ep]at h2;simp only[decide_eq_false_iff_not]at h2;exact absurd hr h2
   ·exact h2
 have hself:∀f∈its,wu f:=by intro f hf hfq;obtain⟨d,hd,h1⟩:=hq f hf hfq;exact⟨d,hd,fun h=>(h1 f hf h).2 rfl⟩
 have hrd:∀q∈its,q.q=true->∀p∈its,∀d,q.i.dst=some d->d∈p.i.rds->((Region.before ops).toList.getD p.n 0).testBit q.n=true:=by intro q hq' hqq p hp d hd hr;obtain⟨d',hd',h1⟩:=hq q hq' hqq;rw[hd']at hd;cases hd;exact(h1 p hp hr).1
 have hnx:its.Pairwise Nx:=by
  have h1:its.Pairwise fun f g=>f.n≠g.n:=by rw[uN,fI]at hnd;exact hnd
  refine((nl hpairs).and h1).imp_of_mem ?_;rintro p q hp hq' ⟨h2,h3⟩ hqq d hd;refine⟨fun hr=> ?_,fun e=>hdd p hp q hq' h3 d e hd⟩;rw[hrd q hq' hqq p hp d hd hr]at h2;cases h2
 obtain⟨seg,post,p2,ps2,k1,k2,k3,k4,k5,k6,k7⟩:=lH (N:=N) (D:=[]) (V:=[]) h ⟨fun _ _=>rfl,rfl,rfl,by obtain⟨x,s,_,hS⟩:=hM;exact hS.inv.dom⟩ (fun f hf=>hok f hf) hself hnx (by simp) (by simp) (by simp)
 have hfalse:∀f∈its,(dG ops.size false).getD f.n true=false:=by
  intro f hf;have:=hlt f hf;have:f.n<ops.size:=by omega
  simp[jw,this]
 have hunf:un seg (dG ops.size false)=seg:=by apply gH.2;intro f hf;rw[hfalse f (by rw[k1];exact al.2 (.inl hf))];rfl
 refine wp_region_any hm ?_
 refine vU (its:=its) (b:=(Region.before ops).toList) (cF:=cF) (sg:=sg) hcal hitem (fun j hj=> ?_) hinj (fun i o ho=>(hclosed i o ho).1) (fun i o k ho hk hb=>(hclosed i o ho).2 k hk hb) (fun f hf=>hok f hf) hself hnx hrd
  (fun pre f r e hf g hg=> ?_) hdd hQ ops.size _ c a _ ?_ (by simp) ?_ ⟨seg,post,p2,ps2,k1,k3,k4,fun f hf _=>k5 f (.inr hf),(fun f hf hq=>by rw[k2 f hf]at hq;cases hq),fun f hf=>hfalse f (by rw[k1];exact al.2 (.inr hf)), ?_, ?_⟩ ?_
 ·have:=hcov j (dH.2 (by omega))
  rw[ep]at this;simp only[decide_eq_true_eq]at this;obtain⟨f,hf,e⟩:=aR.1 this;exact⟨f,hf,e⟩
 ·rw[e]at hseg
  rcases Ef _ (wK hseg hf) g hg with h1|⟨k,hk,h1⟩
  ·exact⟨f,ay ..,h1⟩
  ·exact⟨k,ao _ hk,h1⟩
 ·have:(un its (dG ops.size false)).length<=its.length:=List.length_filter_le _ _
  omega
 ·intro i o k ho hl _ _
  have hi:i<ops.size:=(db.1 ho).1;simp[jw,hi]at hl
 ·rw[hunf];simpa using k6
 ·rw[hunf];intro f hf;exact k7 f (.inr hf)
 ·obtain⟨x,s,hMo,hS⟩:=hM
  exact⟨x,s,⟨hMo.tm,hMo.defers,hMo.heap.drawn _⟩,hS⟩
end Go.Sy
namespace Go.Sy
variable [bd]
variable {P : Program} {C : Ctx} {x : Sit} {a : Act} {w : World} {N : Nat} {c c' : CSt} {s : St} {call : cN} {sg : Nat -> Sig}
variable {ops : Array Oper} {its σ : List FI} {b : List Nat} {cF : CSt} {listed : Array Bool}
structure MW(P:Program)(N:Nat)(ops:Array Oper)(its:List FI)(b:List Nat):Prop where
 item:∀f∈its,∃o,ops[f.n]? =some o/\fq P ops o=some f.i.er/\f.n<ops.size
 ex:∀j,j<ops.size->∃f∈its,f.n=j
 inj:∀f∈its,∀g∈its,f.n=g.n->f=g
 back:∀(i:Nat)(o:Oper),ops[i]? =some o->∀e∈o.after,Region.binds .any e=true->e.on<i
 bit:∀(i:Nat)(o:Oper)(k:Nat),ops[i]? =some o->k<ops.size->(b.getD i 0).testBit k=true->∃e∈o.after,Region.binds .any e=true/\(e.on=k\/(b.getD e.on 0).testBit k=true)
 ok:∀f∈its,f.i.ok N=true
 self:∀f∈its,wu f
 rd:∀q∈its,q.q=true->∀p∈its,∀d,q.i.dst=some d->d∈p.i.rds->(b.getD p.n 0).testBit q.n=true
structure Rl(its:List FI)(b:List Nat)(σ:List FI):Prop where
 mem:∀f,f∈σ↔f∈its
 nd:(σ.map FI.n).Nodup
 nx:σ.Pairwise Nx
 seg:∀pre f r,σ=pre++f::r->f.q=false->∀g∈r,g.q=true->∃h∈f::r,(b.getD g.n 0).testBit h.n=true
open Classical in
theorem y8(hs:listed.size=ops.size){it g:FI}(I:MW P N ops its b)(hit:it∈its)(hg:g∈its)(hi:it.n<ops.size):(listed.setIfInBounds it.n true).getD g.n true=if g=it then true else listed.getD g.n true:=by
 rw[fT (by omega)]
 by_cases h:g=it
 ·subst h;simp
 ·rw[if_neg (fun e=>h (I.inj g hg it hit e)),if_neg h]
theorem A4(I:MW P N ops its b)(O:Rl its b σ){pre:List FI}{it:FI}(hit:it∈its)(hpre:∀g∈pre,g∈its)(hprel:∀f∈pre,f.q=false->listed.getD f.n true=true)
 (hdep:∀k,k<ops.size->(b.getD it.n 0).testBit k=true->listed.getD k true=true):∀n∈it.i.rds,n∉(un pre listed).map dOf:=by
 intro n hn hm;obtain⟨g,hg,hgd⟩:=aR.1 hm;obtain⟨hg1,hg2⟩:=cI.1 hg
 have hgq:g.q=true:=by
  cases hq:g.q with
  |true=>rfl
  |false=>rw[hprel g hg1 hq]at hg2;cases hg2
 obtain⟨d,hd,_⟩:=I.self g (hpre g hg1) hgq;have hdn:d=n:=by unfold dOf at hgd;rw[hd]at hgd;exact hgd
 subst hdn;have:=I.rd g (hpre g hg1) hgq it hit d hd hn;obtain⟨_,_,_,hlt⟩:=I.item g (hpre g hg1);rw[hdep g.n hlt this]at hg2;cases hg2
theorem yY(hs:listed.size=ops.size)(I:MW P N ops its b)(O:Rl its b σ)(hS:nU call sg N b σ cF listed c){it:FI}(hit:it∈its)(h1:listed.getD it.n true=false)(hq:it.q=true)
 (hdep:∀k,k<ops.size->(b.getD it.n 0).testBit k=true->listed.getD k true=true):
 ∃v,qv c it.i=some v/\nU call sg N b σ cF (listed.setIfInBounds it.n true) (c.put it.i.dst v):=by
 classical
 obtain⟨_,_,_,hi'⟩:=I.item it hit;have hset:∀g∈its,(listed.setIfInBounds it.n true).getD g.n true=if g=it then true else listed.getD g.n true:=fun g hg=>y8 hs I hit hg hi'
 obtain⟨pre,post,p,ps,e,hpost0,hrun,hps,hprel,hpostu,hA,hV⟩:=hS.ex;have hpre_in:∀g∈pre,g∈its:=fun g hg=>(O.mem g).1 (by rw[e];exact al.2 (.inl hg))
 have hpost_in:∀g∈post,g∈its:=fun g hg=>(O.mem g).1 (by rw[e];exact al.2 (.inr hg))
 have hrds:=A4 (listed:=listed) I O hit hpre_in hprel hdep
 have hin:it∈pre:=by
  have h2:=(O.mem it).2 hit;rw[e]at h2;rcases al.1 h2 with h3|h3
  ·exact h3
  ·exfalso
   rcases hpost0 with h4|⟨f0,r,h4,hf0⟩
   ·rw[h4]at h3;cases h3
   ·have h5:it∈r:=by
     rw[h4]at h3;rcases an.1 h3 with h|h
     ·rw[h,hf0]at hq;cases hq
     ·exact h
    obtain⟨g,hg,hgb⟩:=O.seg pre f0 r (by rw[e,h4]) hf0 it h5 hq;have hgi:g∈post:=by rw[h4];exact hg
    obtain⟨_,_,_,hlt⟩:=I.item g (hpost_in g hgi);have:=hdep g.n hlt hgb;rw[hpostu g hgi]at this;cases this
 have hiu:it∈un pre listed:=cI.2 ⟨hin,h1⟩;have hv:=hV it hiu;rw[<-hA.qv hrds]at hv;obtain⟨d,hd,hdr⟩:=I.self it hit hq;have hdo:dOf it=d:=by unfold dOf;rw[hd];rfl
 refine⟨_,hv,⟨pre,post,p,ps,e,hpost0,hrun,hps, ?_, ?_, ?_, ?_⟩⟩
 ·intro f hf hfq
  rw[hset f (hpre_in f hf)];split
  ·rfl
  ·exact hprel f hf hfq
 ·intro f hf
  rw[hset f (hpost_in f hf),if_neg]
  ·exact hpostu f hf
  ·intro e2
   subst e2;have h5:=O.nx;rw[e]at h5;have h6:=(dF.1 h5).2.2 f hin f hf hq d hd;exact h6.2 hd
 ·refine⟨fun n hn=> ?_, ?_, ?_,hA.dom⟩
  ·rw[hd,fV]
   split
   ·rename_i e2;rw[e2,hdo]
   ·rename_i hnd
    refine hA.get n fun hm=>hn ?_
    obtain⟨g,hg,hgd⟩:=aR.1 hm;obtain⟨hg1,hg2⟩:=cI.1 hg;refine aR.2 ⟨g,cI.2 ⟨hg1, ?_⟩,hgd⟩;rw[hset g (hpre_in g hg1),if_neg]
    ·exact hg2
    ·intro e2;subst e2;rw[hdo]at hgd;exact hnd hgd.symm
  ·cases it.i.dst<;>exact hA.ob
  ·cases it.i.dst<;>exact hA.tk
 ·intro f hf
  obtain⟨hf1,hf2⟩:=cI.1 hf;refine hV f (cI.2 ⟨hf1, ?_⟩);rw[hset f (hpre_in f hf1)]at hf2;split at hf2
  ·cases hf2
  ·exact hf2
theorem Fx(l r:List FI):eK (l++r)=eK l++eK r:=List.filterMap_append
theorem CQ{l:List FI}(h:∀f∈l,f.q=true):eK l=[]:=by unfold eK;rw[List.filterMap_eq_nil_iff];intro f hf;rw[h f hf];rfl
theorem oi{l:List FI}{k:Nat}:k∈eK l↔∃f∈l,f.q=false/\f.n=k:=by
 unfold eK;rw[List.mem_filterMap];constructor
 ·rintro⟨f,hf,h⟩
  cases hq:f.q with
  |true=>rw[hq]at h;cases h
  |false=>rw[hq]at h;exact⟨f,hf,hq,by simpa using h⟩
 ·rintro⟨f,hf,hq,rfl⟩;exact⟨f,hf,by rw[hq];rfl⟩
theorem jD(k:Nat):∀l:List FI,eK (l.filter fun q=> !decide (q.n=k))=(eK l).filter fun x=> !decide (x=k)
 |[]=>rfl
 |f::r=>by
  have ih:=jD k r;rw[j9]
  by_cases h:f.n=k
  ·cases hq:f.q with
   |true=>simp only[h,decide_true,Bool.not_true,aK,if_false,ih];simp[eK,hq]
   |false=>simp only[h,decide_true,Bool.not_true,aK,if_false,ih];simp[eK,hq,h]
  ·cases hq:f.q with
   |true=>simp only[h,decide_false,Bool.not_false,if_true];simp only[eK,List.filterMap_cons,hq,if_true]at ih ⊢;exact ih
   |false=>simp only[h,decide_false,Bool.not_false,if_true];simp only[eK,List.filterMap_cons,hq,aK,if_false,j9,h,decide_false,Bool.not_false,if_true]at ih ⊢;rw[ih]
theorem wG(hs:listed.size=ops.size){k:Nat}(hk:k<ops.size)(σ:List FI):un σ (listed.setIfInBounds k true)=(un σ listed).filter fun q=> !decide (q.n=k):=by
 simp only[un,List.filter_filter];apply List.filter_congr;intro q hq;rw[fT (by omega)]
 by_cases h:q.n=k<;>simp[h]
theorem yZ(hs:listed.size=ops.size)(I:MW P N ops its b)(O:Rl its b σ)(hS:nU call sg N b σ cF listed c){it:FI}(hit:it∈its)(h1:listed.getD it.n true=false)(hq:it.q=false)
 (hdep:∀k,k<ops.size->(b.getD it.n 0).testBit k=true->listed.getD k true=true) (hh:(eK (un σ listed)).head? =some it.n):
 ∃c1,dw call sg c it.i=some c1/\nU call sg N b σ cF (listed.setIfInBounds it.n true) c1:=by
 classical
 obtain⟨_,_,_,hi'⟩:=I.item it hit;have hset:∀g∈its,(listed.setIfInBounds it.n true).getD g.n true=if g=it then true else listed.getD g.n true:=fun g hg=>y8 hs I hit hg hi'
 obtain⟨pre,post,p,ps,e,hpost0,hrun,hps,hprel,hpostu,hA,hV⟩:=hS.ex;have hpre_in:∀g∈pre,g∈its:=fun g hg=>(O.mem g).1 (by rw[e];exact al.2 (.inl hg))
 have hpost_in:∀g∈post,g∈its:=fun g hg=>(O.mem g).1 (by rw[e];exact al.2 (.inr hg))
 have hrds:=A4 (listed:=listed) I O hit hpre_in hprel hdep
 have hsub:∀g∈un pre listed,g.q=true:=by
  intro g hg;obtain⟨hg1,hg2⟩:=cI.1 hg;cases hq:g.q with
  |true=>rfl
  |false=>rw[hprel g hg1 hq]at hg2;cases hg2
 have hup:un post listed=post:=gH.2 fun f hf=>by rw[hpostu f hf];rfl
 have hu:eK (un σ listed)=eK post:=by
  have:un σ listed=un pre listed++un post listed:=by rw[e];exact List.filter_append ..
  rw[this,Fx,CQ hsub,hup];rfl
 rw[hu]at hh
 obtain⟨f0,r,hpe,hf0⟩:∃f r,post=f::r/\f.q=false:=by
  rcases hpost0 with h|h
  ·rw[h]at hh;cases hh
  ·exact h
 have hit0:it=f0:=by
  rw[hpe]at hh;have h2:eK (f0::r)=f0.n::eK r:=by simp[eK,hf0]
  rw[h2]at hh;simp only[List.head?_cons,aq.injEq]at hh;exact I.inj it hit f0 (hpost_in f0 (by rw[hpe];exact ay ..)) hh.symm
 subst hit0;subst hpe
 have hnd:(pre++it::r).Pairwise fun f g=>f.n≠g.n:=by have:=O.nd;rw[e,uN,fI]at this;exact this
 obtain⟨n,q,i⟩:=it;simp only at hf0;subst hf0;simp only[eD]at hrun;cases hs1:dw call sg p i with
 |none=>rw[hs1]at hrun;simp[o6]at hrun
 |some p1=>
  rw[hs1]at hrun;simp only[o6]at hrun;cases hg:gdP (rE (b.getD n 0) p1 ps) p1 with
  |none=>rw[hg]at hrun;simp[o7]at hrun
  |some p1'=>
   rw[hg]at hrun;simp only[o7]at hrun;obtain⟨hchk,rfl⟩:=ox hg;obtain⟨c1,hc1,hA1⟩:=hA.step (I.ok _ hit) hrds hs1;refine⟨c1,hc1, ?_⟩;have hnx':=O.nx;rw[e]at hnx';have hpa:=dF.1 hnx'
   obtain⟨seg,post',p2,ps2,k1,k2,k3,k4,k5,k6,k7⟩:=lH (V:=un pre listed) hrun hA1 (fun f hf=>I.ok f (hpost_in f (ao _ hf))) (fun f hf=>I.self f (hpost_in f (ao _ hf)))
    (bE.1 hpa.2.1).2 (fun g hg f hf=>hpa.2.2 g (cI.1 hg).1 f (ao _ hf))
    (fun g hg=>by obtain⟨d,hd,_⟩:=I.self g (hpre_in g (cI.1 hg).1) (hsub g hg);exact⟨d,hd⟩)
    (fun g hg=>by
     obtain⟨hg1,hg2⟩:=cI.1 hg;rcases oA hchk (hps g hg1 (hsub g hg))with h|h
     ·obtain⟨_,_,_,hlt⟩:=I.item g (hpre_in g hg1)
      rw[hdep g.n hlt h]at hg2;cases hg2
     ·exact h)
   have hnp:∀g∈pre,g≠⟨n,false,i⟩:=fun g hg e2=>by have:=(dF.1 hnd).2.2 g hg _ (ay ..);rw[e2]at this;exact this rfl
   have hnr:∀g∈r,g≠⟨n,false,i⟩:=fun g hg e2=>by have:=(bE.1 (dF.1 hnd).2.1).1 g hg;rw[e2]at this;exact this rfl
   have hun:un (pre++⟨n,false,i⟩::seg) (listed.setIfInBounds n true)=un pre listed++seg:=by
    unfold un;rw[List.filter_append,j9];have e1:(listed.setIfInBounds n true).getD n true=true:=by rw[fT (by rw[hs];exact hi')];simp
    simp only[e1,Bool.not_true,aK,if_false]
    congr 1
    ·apply List.filter_congr
     intro g hg;have:=hset g (hpre_in g hg);simp only at this;rw[this,if_neg (hnp g hg)]
    ·apply gH.2
     intro g hg;have hgr:g∈r:=by rw[k1];exact al.2 (.inl hg)
     have hgi:g∈⟨n,false,i⟩::r:=ao _ hgr;have:=hset g (hpost_in g hgi);simp only at this;rw[this,if_neg (hnr g hgr),hpostu g hgi];rfl
   refine⟨pre++⟨n,false,i⟩::seg,post',p2,ps2,by rw[e,k1];simp,k3,k4, ?_, ?_, ?_, ?_, ?_⟩
   ·intro f hf hfq
    rcases al.1 hf with h|h
    ·exact k5 f (.inl (hps f h hfq))
    ·rcases an.1 h with rfl|h
     ·cases hfq
     ·exact k5 f (.inr h)
   ·intro f hf hfq
    rcases al.1 hf with h|h
    ·rw[hset f (hpre_in f h)]
     split
     ·rfl
     ·exact hprel f h hfq
    ·rcases an.1 h with rfl|h
     ·rw[hset _ hit,if_pos rfl]
     ·rw[k2 f h]at hfq;cases hfq
   ·intro f hf
    have hfr:f∈r:=by rw[k1];exact al.2 (.inr hf)
    have hfi:f∈⟨n,false,i⟩::r:=ao _ hfr;rw[hset f (hpost_in f hfi),if_neg (hnr f hfr)];exact hpostu f hfi
   ·rw[hun,cE]
    refine⟨fun m hm=>k6.get m (fun h=>hm ?_),k6.ob,k6.tk,k6.dom⟩;rw[al]at h ⊢;exact h.symm
   ·rw[hun]
    intro f hf;exact k7 f (al.1 hf)
theorem Fv{k:Nat}{g:Nat}{A:List (List Nat)}(h:j8 b k A=true)(hg:∀l,A.head? =some l->g∈l)(hr:∀l,A.head? =some l->∀x∈l,x≠g->(b.getD g 0).testBit x=false):
 ∃k',j8 b k' (A.filterMap fun p=>match p with|x::r=>if x=g then some r else none|[]=>none)=true:=by
 cases A with
 |nil=>cases k<;>simp[j8]at h
 |cons l A=>
  cases l with
  |nil=>have:=hg [] rfl;cases this
  |cons y t=>
   cases k with
   |zero=>simp[j8]at h
   |succ k=>
    simp only[j8,aU]at h;have h1:=h g (hg _ rfl);rw[eu]at h1;rcases h1 with h1|h1
    ·exfalso
     rw[List.any_eq_true]at h1;obtain⟨x,hx,h2⟩:=h1;rw[aA]at h2;have h3:=of_decide_eq_true h2.1;have:=hr _ rfl x hx h3;unfold l8 at h2;rw[h2.2]at this;cases this
    ·exact⟨k,h1⟩
theorem qw{R R':List FI->List Nat}{g:Nat}:∀{A:List (List FI)},(∀σ∈A,∀r,R σ=g::r->R' σ=r)->
 (A.filter fun σ=>decide ((R σ).head? =some g)).map R'=(A.map R).filterMap fun p=>match p with|x::r=>if x=g then some r else none|[]=>none
 |[],_=>rfl
 |σ::A,h=>by
  have ih:=qw (R:=R) (R':=R') (g:=g) (A:=A) fun τ hτ=>h τ (ao _ hτ)
  have h0:=h σ (ay ..);rw[j9,aC,List.filterMap_cons];cases hR:R σ with
  |nil=>simp only[List.head?_nil,reduceCtorEq,decide_false,aK,if_false];exact ih
  |cons y t=>
   by_cases hy:y=g
   ·subst hy
    simp only[List.head?_cons,decide_true,if_true,aC,h0 t hR];rw[ih]
   ·have:¬(some y=some g):=fun e=>hy (by injection e)
    simp only[List.head?_cons,this,decide_false,aK,if_false,hy];exact ih
theorem FK(
 hcal:fz P call)(I:MW P N ops its b){ords:List (List FI)}(hO:∀σ∈ords,Rl its b σ){Q:Exit->Act->World->Prop}(hQ:∀a w,M C N cF a w->Q .normal a w):
 ∀(fuel:Nat)(listed:Array Bool)(c:CSt)(a:Act)(w:World)(A:List (List FI))(k:Nat),(un its listed).length<=fuel->listed.size=ops.size->
  (∀(i:Nat)(o:Oper)(k:Nat),ops[i]? =some o->listed.getD i true=true->k<ops.size->(b.getD i 0).testBit k=true->listed.getD k true=true)->
  (∀σ∈A,σ∈ords/\nU call sg N b σ cF listed c)->j8 b k (A.map fun σ=>eK (un σ listed))=true->M C N c a w->wpAny P .any ops Q fuel listed a w:=by
 classical
 have hd2:∀(listed:Array Bool),listed.size=ops.size->∀k,k<ops.size->listed.getD k false=listed.getD k true:=by intro listed hs k hk;simp[jw,hs,hk]
 have done:∀(listed:Array Bool)(c:CSt)(a:Act)(w:World)(A:List (List FI))(k:Nat),un its listed=[]->(∀σ∈A,σ∈ords/\nU call sg N b σ cF listed c)->j8 b k (A.map fun σ=>eK (un σ listed))=true->M C N c a w->Region.ready .any ops listed=[]/\Q .normal a w:=by
  intro listed c a w A k h0 hA' hcov hM;constructor
  ·rw[List.eq_nil_iff_forall_not_mem]
   intro j hj;obtain⟨h1,o,h2,h3⟩:=mem_ready.1 hj;have hj':j<ops.size:=(db.1 h2).1;obtain⟨it,hit,rfl⟩:=I.ex j hj';have:it∈un its listed:=cI.2 ⟨hit,h1⟩;rw[h0]at this;cases this
  ·cases A with
   |nil=>cases k<;>simp[j8]at hcov
   |cons σ A=>
    obtain⟨hσ,hS⟩:=hA' σ (ay ..)
    have h0':un σ listed=[]:=by rw[List.eq_nil_iff_forall_not_mem];intro f hf;obtain⟨h1,h2⟩:=cI.1 hf;have:f∈un its listed:=cI.2 ⟨((hO σ hσ).mem f).1 h1,h2⟩;rw[h0]at this;cases this
    obtain⟨pre,post,p,ps,e,hp,hrun,_,_,hpost,hA,_⟩:=hS.ex
    have hp0:post=[]:=by
     cases post with
     |nil=>rfl
     |cons f r=>have:f∈un σ listed:=cI.2 ⟨by rw[e];simp,hpost f (ay ..)⟩;rw[h0']at this;cases this
    subst hp0;simp only[eD,aq.injEq]at hrun;subst hrun;have hD:un pre listed=[]:=by rw[<-h0',e,aZ]
    rw[hD]at hA;refine hQ a w ?_;obtain⟨x,s,hMo,hSi⟩:=hM;refine M.slots (c:=c) ⟨x,s,hMo,hSi⟩ ⟨hA.dom,by rw[<-hA.ob];exact hSi.inv.so,by rw[<-hA.ob];exact hSi.inv.wf⟩ hA.ob.symm hA.tk.symm (fun i=> .inl (hA.get i (by simp)).symm)
 intro fuel;induction fuel with
 |zero=>intro listed c a w A k hf hs hcl hS hcov hM;exact done listed c a w A k (dJ.1 (by omega)) hS hcov hM
 |succ fuel ih=>
  intro listed c a w A k hf hs hcl hS hcov hM;constructor
  ·intro hnil
   by_cases h0:un its listed=[]
   ·exact(done listed c a w A k h0 hS hcov hM).2
   ·exfalso
    have hp:∃n,∃f∈un its listed,f.n=n:=by
     cases hc:un its listed with
     |nil=>exact absurd hc h0
     |cons f r=>exact⟨_,f,ay ..,rfl⟩
    obtain⟨n,⟨f,hfu,hfn⟩,hmin⟩:=Xg _ hp;obtain⟨h1,h2⟩:=cI.1 hfu;obtain⟨o,h3,_,h4⟩:=I.item f h1
    have:f.n∈Region.ready .any ops listed:=by refine mem_ready.2 ⟨h2,o,h3,fun e he hb=> ?_⟩;have hlt:=I.back f.n o h3 e he hb;rw[hd2 listed hs _ (by omega),<-Bool.not_eq_false];intro hfl;obtain⟨g,hg,hgn⟩:=I.ex e.on (by omega);have:=hmin e.on ⟨g,cI.2 ⟨hg,by rw[hgn];exact hfl⟩,hgn⟩;omega
    rw[hnil]at this;cases this
  ·intro i hir
   obtain⟨h1,o,h2,h3⟩:=mem_ready.1 hir;have hi':i<ops.size:=(db.1 h2).1;obtain⟨it,hit,rfl⟩:=I.ex i hi';obtain⟨o',ho',hres,_⟩:=I.item it hit;rw[h2]at ho';cases ho'
   have hdep:∀k,k<ops.size->(b.getD it.n 0).testBit k=true->listed.getD k true=true:=by
    intro k hk hb;obtain⟨e,he,hbd,hor⟩:=I.bit it.n o k h2 hk hb;have hon:=h3 e he hbd;have honlt:=I.back it.n o h2 e he hbd;rw[hd2 listed hs _ (by omega)]at hon;rcases hor with h|h
    ·rw[<-h];exact hon
    ·exact hcl e.on (ops[e.on]'(by omega)) k (by simp) hon hk h
   have hlen:(un its (listed.setIfInBounds it.n true)).length<(un its listed).length:=by rw[wG hs hi'];refine List.length_filter_lt_length_iff_exists.2 ⟨it,cI.2 ⟨hit,h1⟩,by simp⟩
   have hcl':∀(i:Nat)(o:Oper)(k:Nat),ops[i]? =some o->(listed.setIfInBounds it.n true).getD i true=true->k<ops.size->(b.getD i 0).testBit k=true->(listed.setIfInBounds it.n true).getD k true=true:=by
    intro i2 o2 k2' ho2 hl2 hk2 hb2;rw[fT (by omega)]at hl2 ⊢;split
    ·rfl
    ·split at hl2
     ·rename_i e1
      subst e1;exact hdep k2' hk2 hb2
     ·exact hcl i2 o2 k2' ho2 hl2 hk2 hb2
   have hsz:(listed.setIfInBounds it.n true).size=ops.size:=by simpa using hs
   obtain⟨σ0,A0,hA0⟩:∃σ A',A=σ::A':=by
    cases A with
    |nil=>cases k<;>simp[j8]at hcov
    |cons σ A'=>exact⟨σ,A',rfl⟩
   cases hq:it.q with
   |true=>
    obtain⟨hσ0,hS0⟩:=hS σ0 (by rw[hA0];exact ay ..);obtain⟨v,hv,_⟩:=yY hs I (hO σ0 hσ0) hS0 hit h1 hq hdep;refine fF hcal hM (I.ok it hit) h2 hres (mV (call:=call) (sg:=sg) hv) fun a' w' hM'=> ?_
    refine ih _ _ a' w' A k (by omega) hsz hcl' (fun σ hσ=>⟨(hS σ hσ).1, ?_⟩) ?_ hM'
    ·obtain⟨v',hv',hS'⟩:=yY hs I (hO σ (hS σ hσ).1) (hS σ hσ).2 hit h1 hq hdep
     rw[hv]at hv';injection hv' with e;subst e
     exact hS'
    ·have:(A.map fun σ=>eK (un σ (listed.setIfInBounds it.n true)))=A.map fun σ=>eK (un σ listed):=by
      apply List.map_congr_left;intro σ hσ;rw[wG hs hi',jD,gH];intro x hx;obtain⟨f,hf,hfq,rfl⟩:=oi.1 hx;have hfi:=((hO σ (hS σ hσ).1).mem f).1 (cI.1 hf).1;have:¬f.n=it.n:=fun e=>by rw[I.inj f hfi it hit e,hq]at hfq;cases hfq
      simp[this]
     rw[this];exact hcov
   |false=>
    have hmemR:∀σ∈A,it.n∈eK (un σ listed):=fun σ hσ=>oi.2 ⟨it,cI.2 ⟨((hO σ (hS σ hσ).1).mem it).2 hit,h1⟩,hq,rfl⟩
    obtain⟨k',hk'⟩:=Fv (g:=it.n) hcov (fun l hl=>by
     rw[hA0]at hl;simp only[aC,List.head?_cons,aq.injEq]at hl;rw[<-hl];exact hmemR σ0 (by rw[hA0];exact ay ..)) (fun l hl y hy hne=>by
     rw[hA0]at hl;simp only[aC,List.head?_cons,aq.injEq]at hl;rw[<-hl]at hy;obtain⟨f,hf,hfq,rfl⟩:=oi.1 hy;obtain⟨hf1,hf2⟩:=cI.1 hf;have hfi:=((hO σ0 (hS σ0 (by rw[hA0];exact ay ..)).1).mem f).1 hf1;obtain⟨_,_,_,hlt⟩:=I.item f hfi;rw[<-Bool.not_eq_true];intro hb;rw[hdep f.n hlt hb]at hf2;cases hf2)
    rw[<-qw (R:=fun σ=>eK (un σ listed)) (R':=fun σ=>eK (un σ (listed.setIfInBounds it.n true))) (fun σ hσ r hR=>by
     show eK (un σ (listed.setIfInBounds it.n true))=r;rw[wG hs hi',jD];have hR':eK (un σ listed)=it.n::r:=hR;rw[hR',j9];simp only[decide_true,Bool.not_true,aK,if_false];rw[gH];intro y hy
     have hnd:(eK (un σ listed)).Nodup:=by
      have h5:=(hO σ (hS σ hσ).1).nd
      have h6:(eK (un σ listed)).Sublist (σ.map FI.n):=by
       have h7:(eK (un σ listed)).Sublist ((un σ listed).map FI.n):=by
        unfold eK;rw[show(fun f:FI=>if f.q=true then none else some f.n)=fun f:FI=>if f.q=true then none else some (FI.n f)from rfl];generalize un σ listed=l;induction l with
        |nil=>exact mf.slnil
        |cons f r ih=>
         rw[List.filterMap_cons,aC];cases hq:f.q with
         |true=>exact mf.cons _ ih
         |false=>exact mf.cons_cons _ ih
       exact h7.trans (mf.map _ List.filter_sublist)
      exact h5.sublist h6
     rw[hR']at hnd;have:y≠it.n:=fun e=>by rw[e]at hy;exact(du.1 hnd).1 hy
     simp[this])]at hk'
    obtain⟨σ1,hσ1⟩:∃σ,σ∈A.filter fun σ=>decide ((eK (un σ listed)).head? =some it.n):=by
     cases hX:A.filter fun σ=>decide ((eK (un σ listed)).head? =some it.n)with
     |nil=>rw[hX]at hk';cases k'<;>simp[j8]at hk'
     |cons σ _=>exact⟨σ,ay ..⟩
    obtain⟨h4,h5⟩:=List.mem_filter.1 hσ1;obtain⟨c1,hc1,_⟩:=yZ hs I (hO σ1 (hS σ1 h4).1) (hS σ1 h4).2 hit h1 hq hdep (of_decide_eq_true h5);refine fF hcal hM (I.ok it hit) h2 hres hc1 fun a' w' hM'=> ?_
    refine ih _ _ a' w' _ k' (by omega) hsz hcl' (fun σ hσ=> ?_) hk' hM';obtain⟨h6,h7⟩:=List.mem_filter.1 hσ;obtain⟨c2,hc2,hS2⟩:=yZ hs I (hO σ (hS σ h6).1) (hS σ h6).2 hit h1 hq hdep (of_decide_eq_true h7);rw[hc1]at hc2;injection hc2 with e;subst e
    exact⟨(hS σ h6).1,hS2⟩
theorem PG(hl:iU (fq P ops) ops.toList=some (unF its))(hd:drawn ops (unF its)=true)(hok:∀f∈its,f.i.ok N=true)(hfq:PV (Region.before ops).toList its=true)
 (hnd:(its.map FI.n).Nodup) (hlt:∀f∈its,f.n<its.length) (hcov:∀j∈bD its.length,(its.map FI.n).contains j=true):
 MW P N ops its (Region.before ops).toList/\(∀f∈its,∀g∈its,f.n≠g.n->∀d,f.i.dst=some d->g.i.dst≠some d)/\its.length=ops.size:=by
 simp only[PV,aU,eu,dn]at hfq;obtain⟨hlen,hget⟩:=ej hl;have hul:(unF its).length=its.length:=by simp[unF]
 have hsz:its.length=ops.size:=by rw[<-hul,hlen,aP]
 have hun:∀f∈its,(unF its).getD f.n ⟨none,none,.lenC 0⟩=f.i.er:=by intro f hf;have:=hlt f hf;rw[aa];simp only[unF,aO,bW this,bn,aX];exact qa _ hnd hf
 simp only[drawn,aA,decide_eq_true_eq]at hd;obtain⟨⟨hc,ht⟩,hdst⟩:=hd
 have hitem:∀f∈its,∃o,ops[f.n]? =some o/\fq P ops o=some f.i.er/\f.n<ops.size:=by
  intro f hf;have hfl:=hlt f hf;have hj2:f.n<ops.toList.length:=by rw[aP];omega
  refine⟨ops.toList[f.n],by rw[<-cD,ab hj2], ?_,by omega⟩;have h1:=hget f.n hj2 (by omega);rw[h1]
  congr 1
  have h2:=hun f hf;rwa[aa,ab (by omega),aX]at h2
 have hinj:∀f∈its,∀g∈its,f.n=g.n->f=g:=by
  intro f hf g hg e;have:its.Pairwise fun f g=>f.n≠g.n:=by rw[uN,fI]at hnd;exact hnd
  rw[mN]at this;obtain⟨i,hi,rfl⟩:=List.mem_iff_getElem.1 hf;obtain⟨j,hj,rfl⟩:=List.mem_iff_getElem.1 hg;rcases Nat.lt_trichotomy i j with h|h|h
  ·exact absurd e (this i j hi hj h)
  ·subst h;rfl
  ·exact absurd e.symm (this j i hj hi h)
 have hdd:∀f∈its,∀g∈its,f.n≠g.n->∀d,f.i.dst=some d->g.i.dst≠some d:=by
  have main:∀f∈its,∀g∈its,f.n<g.n->∀d,f.i.dst=some d->g.i.dst≠some d:=by
   intro f hf g hg hlt' d h1 h2
   have hpl:(unF its).Pairwise fun u v=>∀d,u.dst=some d->v.dst≠some d:=by rw[uN,List.pairwise_filterMap]at hdst;refine hdst.imp ?_;intro u v huv d hu hv;exact huv d hu d hv rfl
   rw[mN]at hpl;have hf':=hlt f hf;have hg':=hlt g hg
   have g1:(unF its)[f.n]'(by omega)=f.i.er:=by have:=hun f hf;rwa[aa,ab (by omega),aX]at this
   have g2:(unF its)[g.n]'(by omega)=g.i.er:=by have:=hun g hg;rwa[aa,ab (by omega),aX]at this
   exact hpl f.n g.n (by omega) (by omega) hlt' d (by rw[g1];exact h1) (by rw[g2];exact h2)
  intro f hf g hg hne d h1 h2;rcases bL f.n g.n with h|h
  ·exact main f hf g hg h d h1 h2
  ·exact main g hg f hf (by omega) d h2 h1
 have hclosed:∀(i:Nat)(o:Oper),ops[i]? =some o->(∀e∈o.after,Region.binds .any e=true->e.on<i)/\
  ∀k,k<ops.size->((Region.before ops).toList.getD i 0).testBit k=true->∃e∈o.after,Region.binds .any e=true/\(e.on=k\/((Region.before ops).toList.getD e.on 0).testBit k=true):=by
  intro i o ho;unfold oE at hc;rw[aU]at hc;have hi:i<ops.size:=(db.1 ho).1
  have h1:=hc (o,i) (by rw[List.mem_zipIdx_iff_getElem?];simpa using ho)
  simp only[aA,Array.all_eq_true_iff_forall_mem,aU,eu,dn,decide_eq_true_eq]at h1;refine⟨fun e he hb=>(h1.1 e he).resolve_left (by simp[hb]),fun k hk hb=> ?_⟩;have h2:=(h1.2 k (dH.2 hk)).resolve_left (by simp only[hb];simp);obtain⟨_,h3⟩:=h2;rw[<-Array.any_toList,List.any_eq_true]at h3;obtain⟨e,he,h4⟩:=h3;rw[Array.mem_toList_iff]at he;simp only[aA,eu,beq_iff_eq]at h4;exact⟨e,he,h4.1,h4.2⟩
 have hq:∀q∈its,q.q=true->∃d,q.i.dst=some d/\∀p∈its,d∈p.i.rds->((Region.before ops).toList.getD p.n 0).testBit q.n=true/\p.n≠q.n:=by
  intro q hq hqq;have h1:=(hfq q hq).resolve_left (by rw[hqq];simp);cases hd:q.i.dst with
  |none=>rw[hd]at h1;cases h1
  |some d=>
   rw[hd]at h1;simp only[aU,eu,dn,aA,decide_eq_true_eq,l8]at h1;refine⟨d,rfl,fun p hp hr=> ?_⟩;rcases h1 p hp with h2|h2
   ·rw[ep]at h2;simp only[decide_eq_false_iff_not]at h2;exact absurd hr h2
   ·exact h2
 have hself:∀f∈its,wu f:=by intro f hf hfq;obtain⟨d,hd,h1⟩:=hq f hf hfq;exact⟨d,hd,fun h=>(h1 f hf h).2 rfl⟩
 have hrd:∀q∈its,q.q=true->∀p∈its,∀d,q.i.dst=some d->d∈p.i.rds->((Region.before ops).toList.getD p.n 0).testBit q.n=true:=by intro q hq' hqq p hp d hd hr;obtain⟨d',hd',h1⟩:=hq q hq' hqq;rw[hd']at hd;cases hd;exact(h1 p hp hr).1
 refine⟨⟨hitem,fun j hj=> ?_,hinj,fun i o ho=>(hclosed i o ho).1,fun i o k ho hk hb=>(hclosed i o ho).2 k hk hb,hok,hself,hrd⟩,hdd,hsz⟩;have:=hcov j (dH.2 (by omega));rw[ep]at this;simp only[decide_eq_true_eq]at this;obtain⟨f,hf,e⟩:=aR.1 this;exact⟨f,hf,e⟩
theorem lL{l:List FI}(h:(l.map FI.n).Nodup){f:FI}(hf:f∈l):sJ l f.n=f:=by
 induction l with
 |nil=>cases hf
 |cons g r ih=>
  simp only[aC,du]at h;simp only[sJ];rcases an.1 hf with rfl|hf
  ·rw[if_pos rfl]
  ·rw[if_neg,ih h.2 hf]
   intro e;apply h.1;rw[e];exact gG hf
theorem ua{l:List FI}{f:FI}:∀{p:List Nat},f∈gQ l p↔∃k∈p,sJ l k=f
 |[]=>by simp[gQ]
 |k::r=>by
  simp only[gQ,an,ua (p:=r)];constructor
  ·rintro(h|⟨j,hj,h⟩)
   ·exact⟨k,.inl rfl,h.symm⟩
   ·exact⟨j,.inr hj,h⟩
  ·rintro⟨j,rfl|hj,h⟩
   ·exact .inl h.symm
   ·exact .inr ⟨j,hj,h⟩
theorem uc{l:List FI}(h:(l.map FI.n).Nodup):∀{p:List Nat},(∀k∈p,k∈l.map FI.n)->(gQ l p).map FI.n=p
 |[],_=>rfl
 |k::r,hp=>by simp only[gQ,aC];rw[uc h (p:=r) fun j hj=>hp j (ao _ hj)];obtain⟨f,hf,e⟩:=aR.1 (hp k (ay ..));rw[<-e,lL h hf]
theorem BZ{s:Nat}(l:List FI):vp b (some s) l=true->∀g∈l,g.q=true->(b.getD g.n 0).testBit s=true\/∃h∈l,(b.getD g.n 0).testBit h.n=true:=by
 induction l generalizing s with
 |nil=>intro _ g hg;cases hg
 |cons f r ih=>
  intro h g hg hq;simp only[vp]at h;split at h
  ·simp only[aA,l8]at h
   rcases an.1 hg with rfl|hg
   ·exact .inl h.1
   ·rcases ih h.2 g hg hq with h1|⟨k,hk,h1⟩
    ·exact .inl h1
    ·exact .inr ⟨k,ao _ hk,h1⟩
  ·rename_i hf
   rcases an.1 hg with rfl|hg
   ·exact absurd hq hf
   ·rcases ih h g hg hq with h1|⟨k,hk,h1⟩
    ·exact .inr ⟨f,ay ..,h1⟩
    ·exact .inr ⟨k,ao _ hk,h1⟩
theorem qQ:∀{pre:List FI}{s:Option Nat}{f:FI}{r:List FI},vp b s (pre++f::r)=true->f.q=false->vp b (some f.n) r=true
 |[],s,f,r,h,hf=>by simp only[aF,vp,hf,aK,if_false]at h;exact h
 |g::pre,s,f,r,h,hf=>by
  simp only[aS,vp]at h;split at h
  ·rw[aA]at h;exact qQ h.2 hf
  ·exact qQ h hf
theorem l5:∀{l:List FI},sK b l=true->l.Pairwise fun p q=>(b.getD p.n 0).testBit q.n=false
 |[],_=>gY.nil
 |p::r,h=>by simp only[sK,aA,aU]at h;refine bE.2 ⟨fun q hq=> ?_,l5 h.2⟩;have:=h.1 q hq;simpa only[dn,l8]using this
theorem uK{l:List FI}:∀{ps:List (List Nat)},iy call sg b l ps c=some cF->∀p∈ps,eD call sg b (gQ l p) [] c=some cF
 |[],h,p,hp=>by cases hp
 |[q],h,p,hp=>by rw[aY.1 hp];exact h
 |q::q'::r,h,p,hp=>by
  simp only[iy]at h;cases h1:eD call sg b (gQ l q) [] c with
  |none=>rw[h1]at h;simp[mz]at h
  |some y=>
   cases h2:iy call sg b l (q'::r) c with
   |none=>rw[h1,h2]at h;simp[mz]at h
   |some z=>
    rw[h1,h2]at h;obtain⟨e1,e2⟩:=ox h;rcases an.1 hp with rfl|hp
    ·rw[h1,e2]
    ·exact uK (h2.trans (by rw[<-e1,e2])) p hp
theorem CG(hcal:fz P call){id:Nat}(hl:iU (fq P ops) ops.toList=some (unF its))(hd:drawn ops (unF its)=true)(hm:P.follows .mixedOrders=true)
 (hok:its.all (fun f=>f.i.ok N)=true) {ps:List (List Nat)} (halt:NM (Region.before ops).toList its ps=true) {Q:Exit->Act->World->Prop} (hQ:∀a w,M C N cF a w->Q .normal a w) (hM:M C N c a w)
 (h:iy call sg (Region.before ops).toList its ps c=some cF):(Code.region id ops true).wp P Q a w:=by
 simp only[NM,aA,decide_eq_true_eq]at halt;obtain⟨⟨⟨⟨⟨hfq,hnd⟩,hlt⟩,hcov⟩,hps⟩,hc⟩:=halt;rw[aU]at hok hlt hcov hps;obtain⟨I,hdd,hsz⟩:=PG hl hd hok hfq hnd (fun f hf=>of_decide_eq_true (hlt f hf)) hcov
 have hO:∀σ∈ps.map (gQ its),Rl its (Region.before ops).toList σ:=by
  intro σ hσ;obtain⟨p,hp,rfl⟩:=aR.1 hσ;have h1:=hps p hp;simp only[aA,decide_eq_true_eq,aU,ep]at h1;obtain⟨⟨⟨⟨hpn,hpi⟩,hip⟩,hseg⟩,hpairs⟩:=h1;have hmap:=uc hnd hpi
  have hmem:∀f,f∈gQ its p↔f∈its:=by
   intro f;rw[ua];constructor
   ·rintro⟨k,hk,rfl⟩
    obtain⟨g,hg,rfl⟩:=aR.1 (hpi k hk);rw[lL hnd hg];exact hg
   ·intro hf
    exact⟨f.n,hip f.n (gG hf),lL hnd hf⟩
  have hnd':((gQ its p).map FI.n).Nodup:=by rw[hmap];exact hpn
  refine⟨hmem,hnd', ?_,fun pre f r e hf g hg hq=> ?_⟩
  ·have h1:(gQ its p).Pairwise fun f g=>f.n≠g.n:=by rw[uN,fI]at hnd';exact hnd'
   refine((l5 hpairs).and h1).imp_of_mem ?_;rintro u v hu hv ⟨h2,h3⟩ hqq d hd';have hu':=(hmem u).1 hu;have hv':=(hmem v).1 hv;refine⟨fun hr=> ?_,fun e=>hdd u hu' v hv' h3 d e hd'⟩;rw[I.rd v hv' hqq u hu' d hd' hr]at h2;cases h2
  ·rw[e]at hseg
   rcases BZ _ (qQ hseg hf) g hg hq with h1|⟨k,hk,h1⟩
   ·exact⟨f,ay ..,h1⟩
   ·exact⟨k,ao _ hk,h1⟩
 have hfalse:∀f∈its,(dG ops.size false).getD f.n true=false:=by intro f hf;obtain⟨_,_,_,this⟩:=I.item f hf;simp[jw,this]
 refine wp_region_any hm ?_;refine FK (its:=its) (b:=(Region.before ops).toList) (cF:=cF) (sg:=sg) (ords:=ps.map (gQ its)) hcal I hO hQ ops.size _ c a _ (ps.map (gQ its)) its.length ?_ (by simp) ?_ (fun σ hσ=>⟨hσ, ?_⟩) ?_ ?_
 ·have:(un its (dG ops.size false)).length<=its.length:=List.length_filter_le _ _
  omega
 ·intro i o k ho hl _ _
  have hi:i<ops.size:=(db.1 ho).1;simp[jw,hi]at hl
 ·have O:=hO σ hσ
  obtain⟨p,hp,rfl⟩:=aR.1 hσ;have hrun:=uK h p hp;obtain⟨seg,post,p2,ps2,k1,k2,k3,k4,k5,k6,k7⟩:=lH (N:=N) (D:=[]) (V:=[]) hrun ⟨fun _ _=>rfl,rfl,rfl,by obtain⟨x,s,_,hS⟩:=hM;exact hS.inv.dom⟩ (fun f hf=>I.ok f ((O.mem f).1 hf)) (fun f hf=>I.self f ((O.mem f).1 hf)) O.nx (by simp) (by simp) (by simp)
  have hunf:un seg (dG ops.size false)=seg:=by apply gH.2;intro f hf;rw[hfalse f ((O.mem f).1 (by rw[k1];exact al.2 (.inl hf)))];rfl
  refine⟨seg,post,p2,ps2,k1,k3,k4,fun f hf _=>k5 f (.inr hf),(fun f hf hq=>by rw[k2 f hf]at hq;cases hq),fun f hf=>hfalse f ((O.mem f).1 (by rw[k1];exact al.2 (.inr hf))), ?_, ?_⟩
  ·rw[hunf];simpa using k6
  ·rw[hunf];intro f hf;exact k7 f (.inr hf)
 ·rw[List.map_map]
  have:(ps.map ((fun σ=>eK (un σ (dG ops.size false)))∘gQ its))=ps.map fun p=>eK (gQ its p):=by
   apply List.map_congr_left;intro p hp;show eK (un (gQ its p) _)=_
   congr 1
   apply gH.2;intro f hf;rw[hfalse f (((hO _ (gG hp)).mem f).1 hf)];rfl
  rw[this];exact hc
 ·obtain⟨x,s,hMo,hS⟩:=hM
  exact⟨x,s,⟨hMo.tm,hMo.defers,hMo.heap.drawn _⟩,hS⟩
end Go.Sy
namespace Go.Sy
variable [bd]
variable {P : Program} {C : Ctx} {x : Sit} {a : Act} {w : World} {N : Nat} {c c' : CSt} {s : St} {T : fi}
def Ex.out:Ex->Exit
 | .n=> .normal
 | .x id=> .exit id
 | .r=> .ret
def EQ(C:Ctx)(N:Nat)(e:Ex)(c':CSt):Exit->Act->World->Prop:=fun e' a w=>e'=e.out/\M C N c' a w
def sT(P:Program)(T:fi)(n:Nat):Prop:=
 (∀(r:RC)(c:CSt)(e:Ex)(c':CSt),e9 T n r c=some (e,c')->∀(code:Code)(C:Ctx)(N:Nat)(a:Act)(w:World),cn P code=r.er->r.ok N=true->M C N c a w->code.wp P (EQ C N e c') a w)/\
 (∀(b:RC)(c:CSt)(e:Ex)(c':CSt),e9 T n (.loop b) c=some (e,c')->∀(code:Code)(C:Ctx)(N:Nat)(a:Act)(w:World),cn P code=b.er->b.ok N=true->M C N c a w->Code.rounds P code (EQ C N e c') n a w)
theorem P9{code:Code}{b:fy}(h:aW P code=some (.loop b)):∃b',code= .loop b'/\aW P b'=some b:=by
 cases code with
 |loop b'=>simp only[aW]at h;obtain⟨sb,hb,he⟩:=ae.1 h;cases he;exact⟨b',rfl,hb⟩
 |region id ops draw=>
  simp only[aW]at h;split at h<;>try (cases h;done)
  split at h
  ·rw[aJ]at h;cases h.2
  ·cases h
 |seq y z=>simp only[aW]at h;split at h<;>cases h
 |cond c y z=>simp only[aW]at h;split at h<;>cases h
 |block id b=>simp only[aW]at h;obtain⟨_,_,h⟩:=ae.1 h;cases h
 |_=>simp[aW]at h
theorem Fb{code:Code}{id:Nat}{b:fy}(h:aW P code=some (.block id b)):∃b',code= .block id b'/\aW P b'=some b:=by
 cases code with
 |block id b'=>simp only[aW]at h;obtain⟨sb,hb,he⟩:=ae.1 h;cases he;exact⟨b',rfl,hb⟩
 |region id ops draw=>
  simp only[aW]at h;split at h<;>try (cases h;done)
  split at h
  ·rw[aJ]at h;cases h.2
  ·cases h
 |seq y z=>simp only[aW]at h;split at h<;>cases h
 |cond c y z=>simp only[aW]at h;split at h<;>cases h
 |loop b=>simp only[aW]at h;obtain⟨_,_,h⟩:=ae.1 h;cases h
 |_=>simp[aW]at h
theorem xcC{code:Code}{y z:fy}(h:aW P code=some (.seq y z)):∃y' z',code= .seq y' z'/\aW P y'=some y/\aW P z'=some z:=by
 cases code with
 |seq y' z'=>
  simp only[aW]at h;split at h<;>try (cases h;done)
  rename_i sy sz hy hz;cases h;exact⟨y',z',rfl,hy,hz⟩
 |region id ops draw=>
  simp only[aW]at h;split at h<;>try (cases h;done)
  split at h
  ·rw[aJ]at h;cases h.2
  ·cases h
 |cond c y z=>simp only[aW]at h;split at h<;>cases h
 |block id b=>simp only[aW]at h;obtain⟨_,_,h⟩:=ae.1 h;cases h
 |loop b=>simp only[aW]at h;obtain⟨_,_,h⟩:=ae.1 h;cases h
 |_=>simp[aW]at h
theorem Qm{code:Code}{k:Arg}{y z:fy}(h:aW P code=some (.cond k y z)):∃k' y' z',code= .cond k' y' z'/\bo P 0 k'=some k/\aW P y'=some y/\aW P z'=some z:=by
 cases code with
 |cond k' y' z'=>
  simp only[aW]at h;split at h<;>try (cases h;done)
  rename_i sc sy sz hcc hy hz;cases h;exact⟨k',y',z',rfl,hcc,hy,hz⟩
 |region id ops draw=>
  simp only[aW]at h;split at h<;>try (cases h;done)
  split at h
  ·rw[aJ]at h;cases h.2
  ·cases h
 |seq y z=>simp only[aW]at h;split at h<;>cases h
 |block id b=>simp only[aW]at h;obtain⟨_,_,h⟩:=ae.1 h;cases h
 |loop b=>simp only[aW]at h;obtain⟨_,_,h⟩:=ae.1 h;cases h
 |_=>simp[aW]at h
theorem xcE{code:Code}{l:List SI}(h:aW P code=some (.ops l)):∃id ops,code= .region id ops false/\iU (fq P ops) ops.toList=some l:=by
 cases code with
 |region id ops draw=>
  simp only[aW]at h;split at h<;>try (cases h;done)
  rename_i l' hl;cases draw with
  |false=>simp only[aK,if_false,aq.injEq,fy.ops.injEq]at h;subst h;exact⟨id,ops,rfl,hl⟩
  |true=>simp only[if_true]at h;rw[aJ]at h;cases h.2
 |seq y z=>simp only[aW]at h;split at h<;>cases h
 |cond c y z=>simp only[aW]at h;split at h<;>cases h
 |block id b=>simp only[aW]at h;obtain⟨_,_,h⟩:=ae.1 h;cases h
 |loop b=>simp only[aW]at h;obtain⟨_,_,h⟩:=ae.1 h;cases h
 |_=>simp[aW]at h
theorem MJ{code:Code}{b ds:List Nat}{l:List SI}(h:aW P code=some (.drw b ds l)):∃id ops,code= .region id ops true/\iU (fq P ops) ops.toList=some l/\drawn ops l=true/\P.follows .mixedOrders=true/\b=(Region.before ops).toList/\ds=xjm l:=by
 cases code with
 |region id ops draw=>
  simp only[aW]at h;split at h<;>try (cases h;done)
  rename_i l' hl;cases draw with
  |false=>simp only[aK,if_false,aq.injEq,reduceCtorEq]at h
  |true=>simp only[if_true]at h;rw[aJ]at h;obtain⟨hc,h⟩:=h;simp only[aq.injEq,fy.drw.injEq]at h;obtain⟨rfl,rfl,rfl⟩:=h;rw[aA]at hc;exact⟨id,ops,rfl,hl,hc.1,hc.2,rfl,rfl⟩
 |seq y z=>simp only[aW]at h;split at h<;>cases h
 |cond c y z=>simp only[aW]at h;split at h<;>cases h
 |block id b=>simp only[aW]at h;obtain⟨_,_,h⟩:=ae.1 h;cases h
 |loop b=>simp only[aW]at h;obtain⟨_,_,h⟩:=ae.1 h;cases h
 |_=>simp[aW]at h
theorem P8{code:Code}(h:aW P code=some .skip):code= .skip:=by
 cases code with
 |skip=>rfl
 |region id ops draw=>
  simp only[aW]at h;split at h<;>try (cases h;done)
  split at h
  ·rw[aJ]at h;cases h.2
  ·cases h
 |seq y z=>simp only[aW]at h;split at h<;>cases h
 |cond c y z=>simp only[aW]at h;split at h<;>cases h
 |block id b=>simp only[aW]at h;obtain⟨_,_,h⟩:=ae.1 h;cases h
 |loop b=>simp only[aW]at h;obtain⟨_,_,h⟩:=ae.1 h;cases h
 |_=>simp[aW]at h
theorem xcD{code:Code}(h:aW P code=some .ret):code= .ret:=by
 cases code with
 |ret=>rfl
 |region id ops draw=>
  simp only[aW]at h;split at h<;>try (cases h;done)
  split at h
  ·rw[aJ]at h;cases h.2
  ·cases h
 |seq y z=>simp only[aW]at h;split at h<;>cases h
 |cond c y z=>simp only[aW]at h;split at h<;>cases h
 |block id b=>simp only[aW]at h;obtain⟨_,_,h⟩:=ae.1 h;cases h
 |loop b=>simp only[aW]at h;obtain⟨_,_,h⟩:=ae.1 h;cases h
 |_=>simp[aW]at h
theorem Ql{code:Code}{id:Nat}(h:aW P code=some (.exit id)):code= .exit id:=by
 cases code with
 |exit id'=>simp only[aW,aq.injEq,fy.exit.injEq]at h;rw[h]
 |region id ops draw=>
  simp only[aW]at h;split at h<;>try (cases h;done)
  split at h
  ·rw[aJ]at h;cases h.2
  ·cases h
 |seq y z=>simp only[aW]at h;split at h<;>cases h
 |cond c y z=>simp only[aW]at h;split at h<;>cases h
 |block id b=>simp only[aW]at h;obtain⟨_,_,h⟩:=ae.1 h;cases h
 |loop b=>simp only[aW]at h;obtain⟨_,_,h⟩:=ae.1 h;cases h
 |_=>simp[aW]at h
theorem eA{id:Nat}{ops:Array Oper}{draw:Bool}{s:fy}(h:cn P (.region id ops draw)=s)(hs:s≠ .bad):aW P (.region id ops draw)=some s:=by
 rw[cn]at h;split at h
 ·rename_i s' h';rw[<-h];exact h'
 ·exact absurd h.symm hs
theorem gB{k:Operand}{y z:Code}{s:fy}(h:cn P (.cond k y z)=s)(hs:s≠ .bad):∃a,bo P 0 k=some a/\s= .cond a (cn P y) (cn P z):=by
 rw[cn]at h;split at h
 ·rename_i a ha;exact⟨a,ha,h.symm⟩
 ·exact absurd h.symm hs
theorem Qx{code:Code}{b:fy}(h:cn P code= .loop b):∃b',code= .loop b'/\cn P b'=b:=by
 cases code with
 |loop b'=>rw[cn]at h;cases h;exact⟨b',rfl,rfl⟩
 |region id ops draw=>have h1:=eA h (by simp);have h2:=P9 h1;simp at h2
 |seq y z=>rw[cn]at h;cases h
 |cond k y z=>obtain⟨a,_,h2⟩:=gB h (by simp);cases h2
 |block id b=>rw[cn]at h;cases h
 |skip=>rw[cn]at h;cases h
 |exit id=>rw[cn]at h;cases h
 |ret=>rw[cn]at h;cases h
 |_=>simp[cn]at h
theorem Fl{code:Code}{id:Nat}{b:fy}(h:cn P code= .block id b):∃b',code= .block id b'/\cn P b'=b:=by
 cases code with
 |block id b'=>rw[cn]at h;cases h;exact⟨b',rfl,rfl⟩
 |region id ops draw=>have h1:=eA h (by simp);have h2:=Fb h1;simp at h2
 |seq y z=>rw[cn]at h;cases h
 |cond k y z=>obtain⟨a,_,h2⟩:=gB h (by simp);cases h2
 |loop b=>rw[cn]at h;cases h
 |skip=>rw[cn]at h;cases h
 |exit id=>rw[cn]at h;cases h
 |ret=>rw[cn]at h;cases h
 |_=>simp[cn]at h
theorem xcF{code:Code}{y z:fy}(h:cn P code= .seq y z):∃y' z',code= .seq y' z'/\cn P y'=y/\cn P z'=z:=by
 cases code with
 |seq y' z'=>rw[cn]at h;cases h;exact⟨y',z',rfl,rfl,rfl⟩
 |region id ops draw=>have h1:=eA h (by simp);have h2:=xcC h1;simp at h2
 |cond k y z=>obtain⟨a,_,h2⟩:=gB h (by simp);cases h2
 |block id b=>rw[cn]at h;cases h
 |loop b=>rw[cn]at h;cases h
 |skip=>rw[cn]at h;cases h
 |exit id=>rw[cn]at h;cases h
 |ret=>rw[cn]at h;cases h
 |_=>simp[cn]at h
theorem xcI{code:Code}{k:Arg}{y z:fy}(h:cn P code= .cond k y z):∃k' y' z',code= .cond k' y' z'/\bo P 0 k'=some k/\cn P y'=y/\cn P z'=z:=by
 cases code with
 |cond k' y' z'=>obtain⟨a,h1,h2⟩:=gB h (by simp);cases h2;exact⟨k',y',z',rfl,h1,rfl,rfl⟩
 |region id ops draw=>have h1:=eA h (by simp);have h2:=Qm h1;simp at h2
 |seq y z=>rw[cn]at h;cases h
 |block id b=>rw[cn]at h;cases h
 |loop b=>rw[cn]at h;cases h
 |skip=>rw[cn]at h;cases h
 |exit id=>rw[cn]at h;cases h
 |ret=>rw[cn]at h;cases h
 |_=>simp[cn]at h
theorem Qw{code:Code}(h:cn P code= .skip):code= .skip:=by
 cases code with
 |skip=>rfl
 |region id ops draw=>have h1:=eA h (by simp);have h2:=P8 h1;simp at h2
 |seq y z=>rw[cn]at h;cases h
 |cond k y z=>obtain⟨a,_,h2⟩:=gB h (by simp);cases h2
 |block id b=>rw[cn]at h;cases h
 |loop b=>rw[cn]at h;cases h
 |exit id=>rw[cn]at h;cases h
 |ret=>rw[cn]at h;cases h
 |_=>simp[cn]at h
theorem xcG{code:Code}(h:cn P code= .ret):code= .ret:=by
 cases code with
 |ret=>rfl
 |region id ops draw=>have h1:=eA h (by simp);have h2:=xcD h1;simp at h2
 |seq y z=>rw[cn]at h;cases h
 |cond k y z=>obtain⟨a,_,h2⟩:=gB h (by simp);cases h2
 |block id b=>rw[cn]at h;cases h
 |loop b=>rw[cn]at h;cases h
 |skip=>rw[cn]at h;cases h
 |exit id=>rw[cn]at h;cases h
 |_=>simp[cn]at h
theorem Qy{code:Code}{id:Nat}(h:cn P code= .exit id):code= .exit id:=by
 cases code with
 |exit id'=>rw[cn]at h;cases h;rfl
 |region id ops draw=>have h1:=eA h (by simp);have h2:=Ql h1;simp at h2
 |seq y z=>rw[cn]at h;cases h
 |cond k y z=>obtain⟨a,_,h2⟩:=gB h (by simp);cases h2
 |block id b=>rw[cn]at h;cases h
 |loop b=>rw[cn]at h;cases h
 |skip=>rw[cn]at h;cases h
 |ret=>rw[cn]at h;cases h
 |_=>simp[cn]at h
theorem xcH{code:Code}{l:List SI}(h:cn P code= .ops l):aW P code=some (.ops l):=by
 cases code with
 |region id ops draw=>exact eA h (by simp)
 |seq y z=>rw[cn]at h;cases h
 |cond k y z=>obtain⟨a,_,h2⟩:=gB h (by simp);cases h2
 |block id b=>rw[cn]at h;cases h
 |loop b=>rw[cn]at h;cases h
 |skip=>rw[cn]at h;cases h
 |exit id=>rw[cn]at h;cases h
 |ret=>rw[cn]at h;cases h
 |_=>simp[cn]at h
theorem MK{code:Code}{b ds:List Nat}{l:List SI}(h:cn P code= .drw b ds l):aW P code=some (.drw b ds l):=by
 cases code with
 |region id ops draw=>exact eA h (by simp)
 |seq y z=>rw[cn]at h;cases h
 |cond k y z=>obtain⟨a,_,h2⟩:=gB h (by simp);cases h2
 |block id b=>rw[cn]at h;cases h
 |loop b=>rw[cn]at h;cases h
 |skip=>rw[cn]at h;cases h
 |exit id=>rw[cn]at h;cases h
 |ret=>rw[cn]at h;cases h
 |_=>simp[cn]at h
theorem sZ{n:Nat}(hR:sT P T n)(hcal:fz P (eg T n)){r:RC}{c:CSt}{e:Ex}{c':CSt}(h:dv (e9 T n) (eg T n) T.sg r c=some (e,c'))(hl:∀b,r≠ .loop b){code:Code}{C:Ctx}{N:Nat}{a:Act}{w:World}
 (hr:cn P code=r.er) (hok:r.ok N=true) (hM:M C N c a w):code.wp P (EQ C N e c') a w:=by
 cases r with
 |skip=>
  cases h;have:=Qw (by simpa[RC.er]using hr);subst this;exact wp_skip ⟨rfl,hM⟩
 |ret=>
  cases h;have:=xcG (by simpa[RC.er]using hr);subst this;exact wp_ret ⟨rfl,hM⟩
 |exit id=>
  cases h;have:=Qy (by simpa[RC.er]using hr);subst this;exact wp_exit ⟨rfl,hM⟩
 |ops l=>
  obtain⟨id,ops,rfl,hl'⟩:=xcE (xcH (by simpa[RC.er]using hr));simp only[dv]at h;cases hs:fa (eg T n) T.sg l c with
  |none=>rw[hs]at h;cases h
  |some c1=>rw[hs]at h;simp only[nrm,oq,aq.injEq,bh.injEq]at h;obtain⟨rfl,rfl⟩:=h;refine wp_region ?_;rw[List.range_eq_range'];exact vH hcal hl' l ops.size 0 (by omega) (by simp) hok hM hs fun a w h=>⟨rfl,h⟩
 |flt b ds l dead=>
  obtain⟨id,ops,rfl,hl',hdr,hmo,rfl,rfl⟩:=MJ (MK (by simpa[RC.er]using hr));simp only[RC.ok,aA]at hok;simp only[dv]at h;cases hs:eD (eg T n) T.sg (Region.before ops).toList l [] c with
  |none=>rw[hs]at h;cases h
  |some c1=>rw[hs]at h;simp only[nrm,aq.injEq,bh.injEq]at h;obtain⟨rfl,rfl⟩:=h;exact CF hcal hl' hdr hmo hok.1 hok.2 (fun a w h=>⟨rfl,M.kill h dead⟩) hM hs
 |fla b ds l ps dead=>
  obtain⟨id,ops,rfl,hl',hdr,hmo,rfl,rfl⟩:=MJ (MK (by simpa[RC.er]using hr));simp only[RC.ok,aA]at hok;simp only[dv]at h;cases hs:iy (eg T n) T.sg (Region.before ops).toList l ps c with
  |none=>rw[hs]at h;cases h
  |some c1=>rw[hs]at h;simp only[nrm,aq.injEq,bh.injEq]at h;obtain⟨rfl,rfl⟩:=h;exact CG hcal hl' hdr hmo hok.1 hok.2 (fun a w h=>⟨rfl,M.kill h dead⟩) hM hs
 |seq y z=>
  obtain⟨y',z',rfl,hy,hz⟩:=xcF (by simpa[RC.er]using hr);simp only[RC.ok,aA]at hok;simp only[dv]at h;cases hs:e9 T n y c with
  |none=>rw[hs]at h;cases h
  |some p=>
   obtain⟨e1,c1⟩:=p;rw[hs]at h;refine wp_seq (wp_mono (hR.1 _ _ _ _ hs y' C N a w hy hok.1 hM) ?_);rintro e' a' w' ⟨rfl,hM'⟩;cases e1 with
   |n=>exact hR.1 _ _ _ _ h z' C N a' w' hz hok.2 hM'
   |x id=>cases h;exact⟨rfl,hM'⟩
   |r=>cases h;exact⟨rfl,hM'⟩
 |cond k y z=>
  obtain⟨k',y',z',rfl,hk,hy,hz⟩:=xcI (by simpa[RC.er]using hr);simp only[RC.ok,aA]at hok;simp only[dv]at h;unfold cnd at h;split at h<;>try (cases h;done)
  rename_i t ht
  have hv:a.eval k'= .bool t:=by obtain⟨x,s,hMo,hS⟩:=hM;have hrep:=aL hMo hk;rw[hS.ev,ht]at hrep;exact hrep.bool_inv
  refine wp_cond_split hv (fun e=> ?_) (fun e=> ?_)
  ·subst e
   rw[if_pos rfl]at h;exact hR.1 _ _ _ _ h y' C N a w hy hok.1 hM
  ·subst e
   rw[if_neg (by simp)]at h;exact hR.1 _ _ _ _ h z' C N a w hz hok.2 hM
 |block id b=>
  obtain⟨b',rfl,hb⟩:=Fl (by simpa[RC.er]using hr);simp only[dv]at h;cases hs:e9 T n b c with
  |none=>rw[hs]at h;cases h
  |some p=>
   obtain⟨e1,c1⟩:=p;rw[hs]at h;refine wp_block (wp_mono (hR.1 _ _ _ _ hs b' C N a w hb hok hM) ?_);rintro e' a' w' ⟨rfl,hM'⟩;cases e1 with
   |n=>cases h;exact⟨rfl,hM'⟩
   |r=>cases h;exact⟨rfl,hM'⟩
   |x id'=>
    simp only[blk]at h;simp only[Ex.out,Exit.inBlock];split at h<;>rename_i hid
    ·cases h;rw[if_pos hid];exact⟨rfl,hM'⟩
    ·cases h;rw[if_neg hid];exact⟨rfl,hM'⟩
 |loop b=>exact absurd rfl (hl b)
 |bad=>cases h
 |pre ds y=>
  simp only[dv]at h;cases hs:gN c ds with
  |none=>rw[hs]at h;cases h
  |some c1=>rw[hs]at h;exact hR.1 _ _ _ _ h code C N a w (by simpa[RC.er]using hr) hok (jC hM hs)
 |post y ds=>
  simp only[dv]at h;cases hs:e9 T n y c with
  |none=>rw[hs]at h;cases h
  |some p=>
   obtain⟨e1,c1⟩:=p;rw[hs]at h;refine wp_mono (hR.1 _ _ _ _ hs code C N a w (by simpa[RC.er]using hr) hok hM) ?_;rintro e' a' w' ⟨rfl,hM'⟩;cases e1 with
   |n=>
    simp only[psD]at h;split at h
    ·rename_i c2 h2;cases h;exact⟨rfl,jC hM' h2⟩
    ·cases h
   |x id=>cases h;exact⟨rfl,hM'⟩
   |r=>cases h;exact⟨rfl,hM'⟩
theorem vt:sT P T 0:=⟨fun r c e c' h=>by simp[e9]at h,fun b c e c' h=>by simp[e9]at h⟩
theorem vu{n:Nat}(hR:sT P T n)(hcal:fz P (eg T n)):sT P T (n+1):=by
 have h2:∀(b:RC)(c:CSt)(e:Ex)(c':CSt),e9 T (n+1) (.loop b) c=some (e,c')->∀(code:Code)(C:Ctx)(N:Nat)(a:Act)(w:World),cn P code=b.er->b.ok N=true->M C N c a w->Code.rounds P code (EQ C N e c') (n+1) a w:=by
  intro b c e c' h code C N a w hr hok hM;rw[e9]at h;simp only[dv]at h;rw[rounds_succ];cases hs:e9 T n b c with
  |none=>rw[hs]at h;cases h
  |some p=>
   obtain⟨e1,c1⟩:=p;rw[hs]at h;refine wp_mono (hR.1 _ _ _ _ hs code C N a w hr hok hM) ?_;rintro e' a' w' ⟨rfl,hM'⟩;cases e1 with
   |n=>exact hR.2 _ _ _ _ h code C N a' w' hr hok hM'
   |x id=>cases h;exact⟨rfl,hM'⟩
   |r=>cases h;exact⟨rfl,hM'⟩
 refine⟨fun r c e c' h code C N a w hr hok hM=> ?_,h2⟩
 by_cases hl:∃b,r= .loop b
 ·obtain⟨b,rfl⟩:=hl
  obtain⟨b',rfl,hb⟩:=Qx (by simpa[RC.er]using hr);exact wp_loop_rounds (n+1) (h2 b c e c' h b' C N a w hb hok hM)
 ·rw[e9]at h
  exact sZ hR hcal h (fun b e=>hl ⟨b,e⟩) hr hok hM
def xj4(P:Program):ResultVar->RV->Prop
 | .tmp t,.tmp t'=>t=t'
 | .cell t ty,.cell t' n ag=>t=t'/\eH P ty=some n/\oY P ty=some ag
 |_,_=>False
def C2(P:Program):List ResultVar->List RV->Prop
 |[],[]=>True
 |a::r,b::s=>xj4 P a b/\C2 P r s
 |_,_=>False
theorem qT(hS:Sim N c s):∀{rs:List ResultVar}{rv:List RV}{vs:List SV},C2 P rs rv->pJ c rv=some vs->∃p,vx P s rs=some (p,vs)/\p
 |[],[],vs,_,h=>by cases h;exact⟨True,rfl,trivial⟩
 |[],_::_,_,h,_=>h.elim
 |_::_,[],_,h,_=>h.elim
 | .tmp t::r,.tmp t'::q,vs,h,hv=>by obtain⟨h1,h2⟩:=h;have h1:t=t':=h1;subst h1;simp only[pJ]at hv;split at hv<;>cases hv;rename_i vs' hv';obtain⟨p,h3,h4⟩:=qT hS h2 hv';exact⟨p,by simp only[vx,h3,hS.get],h4⟩
 | .cell t ty::r,.cell t' n ag::q,vs,h,hv=>by
  obtain⟨⟨rfl,g1,g2⟩,h2⟩:=h;simp only[pJ]at hv;split at hv<;>cases hv;rename_i v vs' hl hv';obtain⟨p,h3,h4⟩:=qT hS h2 hv'
  have hl':(if(ag||n==1)=true then ld c n ag (c.get t)else none)=some v:=by
   rw[<-hl]
   congr 1
   simp
  split at hl'
  ·rename_i hc
   obtain⟨p',h5,h6⟩:=ue hS hl';refine⟨p'/\p, ?_,h6,h4⟩;simp only[vx,g1,g2,h3,hS.get];rw[if_pos hc,h5]
  ·cases hl'
 | .tmp _::_,.cell _ _ _::_,_,h,_=>h.1.elim
 | .cell _ _::_,.tmp _::_,_,h,_=>h.1.elim
def Mq(us:List Value):Value:=if h:us.toArray.size=1 then us.toArray[0]else .tuple us.toArray
theorem Mr{vs:List SV}{us:List Value}(h:cd x vs us):Rep x (iP vs) (Mq us):=by
 have hlen:=h.1;unfold Mq
 match vs,us,hlen with
 |[v],[u],_=>simpa[iP]using h.2 0 (by simp)
 |[],[],_=>simp only[iP];exact .tup _ _ h.1 h.2
 |v1::v2::vs,u1::u2::us,_=>simp only[iP];rw[dif_neg (by simp)];exact .tup _ _ h.1 h.2
theorem cL.sel{ob ob2:List (Nat×aE)}{tk tk2:List Nat}(hH:cL C x ob tk w){x2:Sit}(hG:x2.G=x.G)(hob:∀p∈ob2,dt x2 w p.1 p.2/\∃q∈ob,x2.bk p.1=x.bk q.1)(hnd:(ob2.map cB).Nodup)
 (hinj:∀p∈ob2,∀q∈ob2,(x2.bk p.1).1=(x2.bk q.1).1->p.1=q.1) (htk:∀t∈tk2,(x2.τ t).2.1=(x2.τ t).2.2\/∃u∈tk,x2.τ t=x.τ u)
 (htd:∀t∈tk2,∀u∈tk2,t≠u->(x2.τ t).2.1=(x2.τ t).2.2\/(x2.τ u).2.1=(x2.τ u).2.2\/∃t'∈tk,∃u'∈tk,t'≠u'/\x2.τ t=x.τ t'/\x2.τ u=x.τ u') (hpin:∀i,i<100->x2.bk i=x.bk i):cL C x2 ob2 tk2 w:=by
 refine⟨fun b o v hv=>hH.per b o v (by rw[<-hG];exact hv),fun b o v hv=>by rw[hG];exact hH.g0 b o v hv,fun b o v hv=>hH.gm b o v (by rw[<-hG];exact hv),hH.new, ?_,hnd,hinj, ?_, ?_, ?_,hH.os,hH.tape,hH.output,hH.size,hH.ext,
  fun i hi=>(hpin i hi).trans (hH.pin i hi),hH.lay⟩
 ·intro p hp
  obtain⟨h1,q,hq,h2⟩:=hob p hp;obtain⟨_,h3,h4⟩:=hH.obs q hq;exact⟨h1,by rw[h2];exact h3,fun off=>by rw[hG,h2];exact h4 off⟩
 ·intro t ht
  rcases htk t ht with h|⟨u,hu,h⟩
  ·exact .inl h
  ·have:=hH.tks u hu
   unfold gq at this ⊢;rw[h,hG];exact this
 ·intro t ht p hp
  obtain⟨_,q,hq,h2⟩:=hob p hp;rcases htk t ht with h|⟨u,hu,h⟩
  ·exact .inr h
  ·rw[h,h2];exact hH.tko u hu q hq
 ·intro t ht u hu htu
  rcases htd t ht u hu htu with h|h|⟨t',ht',u',hu',hne,h1,h2⟩
  ·exact .inr (.inl h)
  ·exact .inr (.inr h)
  ·rw[h1,h2];exact hH.tkd t' ht' u' hu' hne
theorem ez{p:Nat×aE}:∀{l:List aE}{k:Nat},p∈fk k l↔∃i,i<l.length/\p.1=k+i/\p.2=l.getD i (.rc [])
 |[],k=>by simp[fk]
 |o::r,k=>by
  simp only[fk,an,ez];constructor
  ·rintro(rfl|⟨i,h1,h2,h3⟩)
   ·exact⟨0,by simp,rfl,rfl⟩
   ·exact⟨i+1,by simpa using h1,by omega,by simpa using h3⟩
  ·rintro⟨i,h1,h2,h3⟩
   cases i with
   |zero=>left;exact Prod.ext (by simpa using h2) (by simpa using h3)
   |succ i=>exact .inr ⟨i,by simpa using h1,by omega,by simpa using h3⟩
theorem gK:∀(l:List aE)(k:Nat),((fk k l).map cB).Nodup
 |[],_=>by simp[fk]
 |o::r,k=>by simp only[fk,aC,du];refine⟨fun h=> ?_,gK r (k+1)⟩;obtain⟨p,hp,e⟩:=aR.1 h;obtain⟨i,_,h2,_⟩:=ez.1 hp;omega
theorem BC(n i:Nat)(h:i<n):(kb n).getD i 0=i:=by
 have hl:∀n,(kb n).length=n:=by
  intro n;induction n with
  |zero=>rfl
  |succ n ih=>simp[kb,ih]
 induction n with
 |zero=>omega
 |succ n ih=>
  simp only[kb,aa,List.getElem?_append,hl]
  by_cases hi:i<n
  ·rw[if_pos hi,<-aa,ih hi]
  ·rw[if_neg hi];have:i-n=0:=by omega
   rw[this];simp;omega
theorem CH{keep raw:List Nat}{k:Nat}{vs:List SV}{us:List Value}{q:dE}(hM:aM C x s a w)(hS:Sim N c s)(hk:k<=40)(hv:cd x vs us)(h:P3 keep k (eh c vs (il raw 0 vs))=some q):
 ∃x',Rep x' q.r (Mq us)/\cL C x' q.os q.tk w/\(∀p∈q.os,p.2.wf=true)/\∀i,i<100->x'.bk i=C.β0 i:=by
 obtain⟨x1,s1,hM1,hS1,hv1⟩:=iI (l:=il raw 0 vs) hM hS hv;generalize eh c vs (il raw 0 vs)=z at h hS1 hv1;obtain⟨c1,vs1⟩:=z;simp only at hS1 hv1;simp only[P3]at h;have hE:=hS1.exact hM1;cases hb:(decide (k=0)&&(SV.idsL vs1).isEmpty&&keep.isEmpty)with
 |true=>rw[hb]at h;simp only[MH,aq.injEq]at h;subst h;refine⟨x1, ?_,hE.heap.only (by simp) (by simp) (by simp),by simp,fun i hi=>hE.heap.pin i hi⟩;refine Mr ?_;rw[jU];refine⟨by simpa using hv1.1,fun i hi=> ?_⟩;rw[aT _ (by rfl)];exact(hv1.2 i (by simpa using hi)).bare rfl rfl
 |false=>
  rw[hb]at h;simp only[MH]at h;generalize hz:js c1.tk keep 60 0 vs1=z at h;obtain⟨vs2,mt1⟩:=z;simp only[Xs]at h;generalize dx c1 60 [] (kb k++SV.idsL vs2)=m at h;cases ho:fK c1 m with
  |none=>rw[ho]at h;cases h
  |some os0=>
   rw[ho]at h;simp only[Xr]at h;generalize hz2:dI c1.tk (60+mt1.length) os0=z2 at h;obtain⟨os,mt2⟩:=z2;simp only[Xq]at h;cases hb2:(mU (SV.idsL vs2++eX os) m&&di m&&di (ce (mt1++mt2))&&decide (m.take k=kb k)&&(m.drop k).all fun o=>decide (k<=o))with
   |false=>rw[hb2]at h;cases h
   |true=>
    rw[hb2]at h;simp only[Xp,aq.injEq]at h;subst h;simp only[aA,decide_eq_true_eq,aU]at hb2;obtain⟨⟨⟨⟨hsub,hmn⟩,htn⟩,htake⟩,hdrop⟩:=hb2;obtain⟨hol,hog⟩:=ol ho;have hsubm:=tt hsub;have hmnd:=iQ hmn;have htnd:=iQ htn
    have hul:∀n,(kb n).length=n:=by
     intro n;induction n with
     |zero=>rfl
     |succ n ih=>simp[kb,ih]
    have hkm:k<=m.length:=by have:=congrArg List.length htake;rw[ax,hul]at this;omega
    have hfirst:∀i,i<k->m.getD i 0=i:=by
     intro i hi;have h1:(m.take k).getD i 0=m.getD i 0:=by simp only[aa,bK,if_pos hi]
     rw[<-h1,htake,BC k i hi]
    have hrest:∀i,k<=i->i<m.length->k<=m.getD i 0:=by
     intro i h1 h2;refine hdrop _ ?_
     have:m.getD i 0=(m.drop k).getD (i-k) 0:=by simp only[aa,br];congr 2;omega
     rw[this];exact ff (by rw[aQ];omega)
    let τ2:Nat->Nat×Nat×Nat:=fun t=>if 60<=t/\t<60+(mt1++mt2).length then M1 x1 ((mt1++mt2).getD (t-60) none)else(0,0,0)
    let x2:Sit:=⟨x1.G,x1.bk,τ2⟩
    let x3:Sit:=⟨x1.G,fun i=>if i<100 then x1.bk i else x1.bk (m.getD (i-100) 0),τ2⟩
    have hτ:∀y:Sit,y.τ=τ2->mJ x1 y 60 (mt1++mt2):=by
     intro y hy j hj;rw[hy];show(if _ then _ else _)=_;rw[if_pos ⟨by omega,by omega⟩]
     congr 2;omega
    have hmem:∀i,i<m.length->(m.getD i 0,os0.getD i (.rc []))∈c1.ob:=fun i hi=>iG (hog i hi)
    have hβ:∀o∈m,x3.bk (gj k m o)=x1.bk o:=by
     intro o ho;unfold gj;split
     ·rename_i hlt
      show(if _ then _ else _)=_;rw[if_pos (by omega)]
     ·show(if _ then _ else _)=_
      rw[if_neg (by omega)];have e:100+fS m o-100=fS m o:=by omega
      rw[e,(lz ho).2]
    have hT2:=hτ x2 rfl
    have ha2:cd x2 vs2 us:=by have:=kU (x:=x1) (x1:=x2) rfl rfl (tk:=c1.tk) (own:=keep) (j:=60) (i:=0) hv1 (by rw[hz];exact hT2.left);rwa[hz]at this
    have hrr:Rep x3 ((iP vs2).ren (gj k m) id) (Mq us):=by
     refine Rep.renF (x:=x2) (x2:=x3) (fun _ _ _ h=>h) (Mr ha2) (fun j hj=>hβ j (hsubm j (al.2 (.inl ?_)))) (fun t _=>rfl)
     have key:∀l:List SV,∀j∈(iP l).ids,j∈SV.idsL l:=by
      intro l j hj
      match l with
      |[]=>exact hj
      |[v]=>simpa[iP,SV.idsL]using hj
      |v::u::r=>exact hj
     exact key vs2 j hj
    obtain⟨hosl,hosr⟩:=kx (x:=x1) (x1:=x2) (w:=w) rfl rfl (tk:=c1.tk) (obs:=os0) (j:=60+mt1.length) (f:=fun i=>m.getD i 0)
     (fun i hi=>(hE.heap.obs _ (hmem i (by omega))).1) (by rw[hz2];exact hT2.right)
    rw[hz2]at hosl hosr;simp only at hosl hosr
    have hwf:∀o∈os,o.wf=true:=by
     intro o ho'
     have:=lJ (tk:=c1.tk) (obs:=os0) (j:=60+mt1.length) (fun o h'=>by obtain⟨i,hi,rfl⟩:=bM h';have:=hS1.inv.wf _ (hmem i (by omega));simpa[aa,ab hi]using this) o (by rw[hz2];exact ho')
     exact this
    have hall:∀p∈fk 0 (dO (gj k m) id (os.take k))++fk (100+k) (dO (gj k m) id (os.drop k)),∃i,i<m.length/\p.1=gj k m (m.getD i 0)/\p.2=(os.getD i (.rc [])).ren (gj k m) id/\os.getD i (.rc [])∈os:=by
     intro p hp
     have gd:∀{l:List aE}{i:Nat},i<l.length->(dO (gj k m) id l).getD i (.rc [])=(l.getD i (.rc [])).ren (gj k m) id:=by intro l i hi;rw[fA,aa,aa,aO,ab hi];rfl
     have gm:∀{i:Nat},i<os.length->os.getD i (.rc [])∈os:=fun{i} hi=>by rw[aa,ab hi];exact bi _
     rcases al.1 hp with hp|hp
     ·obtain⟨i,h1,h2,h3⟩:=ez.1 hp
      rw[fA,aN,ax]at h1;have e:(os.take k).getD i (.rc [])=os.getD i (.rc []):=by simp only[aa,bK,if_pos (show i<k by omega)]
      refine⟨i,by omega, ?_, ?_,gm (by omega)⟩
      ·rw[h2,hfirst i (by omega)];unfold gj;rw[if_pos (by omega)];omega
      ·rw[h3,gd (by rw[ax];omega),e]
     ·obtain⟨i,h1,h2,h3⟩:=ez.1 hp
      rw[fA,aN,aQ]at h1;have hi:k+i<m.length:=by omega
      have e:(os.drop k).getD i (.rc [])=os.getD (k+i) (.rc []):=by simp only[aa,br]
      refine⟨k+i,hi, ?_, ?_,gm (by omega)⟩
      ·have h5:=hrest (k+i) (by omega) hi
       have h6:=lz (ff hi);have h7:fS m (m.getD (k+i) 0)=k+i:=kB hmnd h6.1 hi h6.2;unfold gj;rw[if_neg (by omega),h7,h2];omega
      ·rw[h3,gd (by rw[aQ];omega),e]
    have hmt:∀t∈ce (mt1++mt2),t∈c1.tk:=by
     intro t ht;rw[eU,al]at ht;rcases ht with ht|ht
     ·exact mS (tk:=c1.tk) (own:=keep) (cs:=vs1) (j:=60) (i:=0) t (by rw[hz];exact ht)
     ·exact lK (tk:=c1.tk) (obs:=os0) (j:=60+mt1.length) t (by rw[hz2];exact ht)
    have htok:∀t∈tks 60 (mt1.length+mt2.length),(x3.τ t).2.1=(x3.τ t).2.2\/∃u,(mt1++mt2).getD (t-60) none=some u/\u∈c1.tk/\x3.τ t=x1.τ u:=by
     intro t ht;obtain⟨h1,h2⟩:=ja.1 ht;have e:=hτ x3 rfl (t-60) (by rw[ac];omega);rw[show 60+(t-60)=t by omega]at e;cases hu:(mt1++mt2).getD (t-60) none with
     |none=>rw[hu]at e;rw[e];exact .inl rfl
     |some u=>rw[hu]at e;exact .inr ⟨u,rfl,hmt u (gV hu),e⟩
    refine⟨x3,hrr,hE.heap.sel (x2:=x3) rfl ?_ ?_ ?_ ?_ ?_ ?_, ?_, ?_⟩
    ·intro p hp
     obtain⟨i,h1,h2,h3,h4⟩:=hall p hp;have hm':=ff h1;refine⟨?_,_,hmem i h1,by rw[h2];exact hβ _ hm'⟩;rw[h2,h3];exact(hosr i (by omega)).renF (x2:=x3) (fun _ _ _ h=>h) (hβ _ hm') (fun j hj=>hβ j (hsubm j (al.2 (.inr (nt h4 j hj))))) (fun t _=>rfl)
    ·rw[cE,List.nodup_append]
     refine⟨gK _ _,gK _ _,fun u hu v hv e=> ?_⟩;obtain⟨p,hp,rfl⟩:=aR.1 hu;obtain⟨r,hr,rfl⟩:=aR.1 hv;obtain⟨i,h1,h2,_⟩:=ez.1 hp;obtain⟨j,h3,h4,_⟩:=ez.1 hr;rw[fA,aN,ax]at h1;omega
    ·intro p hp r hr hpr
     obtain⟨i,h1,h2,_⟩:=hall p hp;obtain⟨j,h3,h4,_⟩:=hall r hr;rw[h2,h4,hβ _ (ff h1),hβ _ (ff h3)]at hpr;have:=hE.heap.inj _ (hmem i h1) _ (hmem j h3) hpr;simp only at this;rw[h2,h4,this]
    ·intro t ht
     rcases htok t ht with g|⟨u,_,g1,g2⟩
     ·exact .inl g
     ·exact .inr ⟨u,g1,g2⟩
    ·intro t ht u hu htu
     rcases htok t ht with g|⟨t',g0,g1,g2⟩
     ·exact .inl g
     ·rcases htok u hu with g|⟨u',k0,k1,k2⟩
      ·exact .inr (.inl g)
      ·refine .inr (.inr ⟨t',g1,u',k1,l6 htnd ?_ g0 k0,g2,k2⟩)
       have:=ja.1 ht;have:=ja.1 hu;omega
    ·intro i hi
     show(if _ then _ else _)=_;rw[if_pos hi]
    ·intro p hp
     obtain⟨i,h1,h2,h3,h4⟩:=hall p hp;rw[h3];exact wN (hwf _ h4)
    ·intro i hi
     show(if _ then _ else _)=_;rw[if_pos hi];exact hE.heap.pin i hi
structure bF(P:Program)(g:Nat)(F:FnC):Prop where
 fn:∃fn,P.funcs[g]? =some fn/\fn.body.map (cn P)=some F.code.er/\fn.ntmps=F.n/\C2 P fn.results.toList F.rs
 cb:dM P g=true
 ok:F.code.ok F.n=true
def mA(P:Program)(T:fi):Prop:=∀g b,T.fn g=some b->match b with
 | .code F=>bF P g F
 | .prim f=>∀as os k q,f as os k=some q->i6 P g as os k (· =q)
theorem Bt(os:List aE):∀o,(idx os).lookup o=gU (fk 0 os) o:=by
 intro o;have h1:((idx os).map cB).Nodup:=lO os;have h2:=gK os 0
 have hm:∀p,p∈idx os↔p∈fk 0 os:=by
  intro p;rw[ic,ez];constructor
  ·rintro⟨g1,g2⟩;exact⟨p.1,g1,by omega,g2⟩
  ·rintro⟨i,g1,g2,g3⟩
   have e:p.1=i:=by omega
   rw[e];exact⟨g1,g3⟩
 rw[gL];refine rl (fun v hv=> ?_) (fun v hv=> ?_)
 ·exact iE (p:=(o,v)) h2 ((hm _).1 (iG hv))
 ·exact iE (p:=(o,v)) h1 ((hm _).2 (iG hv))
theorem pW(n:Nat):∀(l:List SV)(i:Nat),dS (mw i l) n=if i<=n then l.getD (n-i) .undef else .undef
 |[],i=>by simp[mw,dS]
 |v::r,i=>by
  simp only[mw,dS,pW n r (i+1)]
  by_cases h:i=n
  ·subst h;simp
  ·rw[if_neg h]
   by_cases h2:i<=n
   ·rw[if_pos h2,if_pos (by omega)]
    obtain⟨k,hk⟩:∃k,n-i=k+1:=⟨n-i-1,by omega⟩;rw[hk,List.getD_cons_succ];congr 1;omega
   ·rw[if_neg h2,if_neg (by omega)]
theorem pR{p:Nat×SV}:∀{l:List SV}{i:Nat},p∈mw i l->p.1<i+l.length
 |v::r,i,h=>by
  simp only[mw]at h;rcases an.1 h with e|e
  ·rw[e];simp
  ·have:=pR e;simp only[ai];omega
theorem tw:∀(l:List aE)(k:Nat),((fk k l).map cB).Pairwise (· < ·)
 |[],_=>by simp[fk]
 |o::r,k=>by simp only[fk,aC,bE];refine⟨fun n hn=> ?_,tw r (k+1)⟩;obtain⟨p,hp,rfl⟩:=aR.1 hn;obtain⟨i,_,h2,_⟩:=ez.1 hp;omega
theorem mc{n:Nat}(hR:sT P T n)(hT:mA P T):fz P (eg T n):=by
 intro g as os k q hq;unfold eg at hq;cases hg:T.fn g with
 |none=>rw[hg]at hq;cases hq
 |some b=>
  have hb:=hT g b hg;cases b with
  |prim f=>rw[hg]at hq;exact hb as os k q hq
  |code F=>
   rw[hg]at hq;simp only[lm,Dz]at hq;obtain⟨⟨fn,hfn,hbody,hnt,hrv⟩,hcb,hok⟩:=hb;refine⟨hcb, ?_⟩;split at hq
   case isFalse=>cases hq
   rename_i hle;intro C x w vs hw0 hG0 hmine hlen hwf hH hargs;cases hbd:fn.body with
   |none=>simp[hbd]at hbody
   |some code=>
    simp only[hbd,cJ]at hbody;refine calls_of_wp hfn hbd ?_;have hl:=hargs.1
    let s0:St:=⟨as++aD (F.n-as.length) .undef,idx os,tks 50 k⟩
    have hM0:aM C x s0 {tmps:=(⟨vs⟩:Array Value)++dG (fn.ntmps-(⟨vs⟩:Array Value).size) Go.undef,defers:=[]} w:=by
     refine⟨?_,rfl,hH⟩
     have e1:((⟨vs⟩:Array Value)++dG (fn.ntmps-(⟨vs⟩:Array Value).size) Go.undef).toList=vs++aD (F.n-as.length) Go.undef:=by simp[hnt,hl]
     rw[e1];refine hargs.append ⟨by simp,fun i hi=> ?_⟩;rw[eQ _ _ _ _ (by simpa using hi)];exact .undef _
    have hS0:Sim F.n (px as os k) s0:=by
     refine⟨⟨fun p hp=> ?_,tw os 0,fun p hp=> ?_⟩, ?_,fun o=>Bt os o,fun t=>Iff.rfl⟩
     ·have:=pR hp;omega
     ·obtain⟨i,h1,_,h3⟩:=ez.1 hp
      rw[h3,aa,ab h1];exact hwf _ (bi _)
     ·apply List.ext_getElem?
      intro i;show(as++aD (F.n-as.length) SV.undef)[i]? =_;rw[aO];rcases bL i F.n with hi|hi
      ·rw[bW hi]
       have e:(px as os k).get i=as.getD i .undef:=by show dS (mw 0 as) i=_;rw[pW];simp
       simp only[bn,e,List.getElem?_append,List.getElem?_replicate]
       by_cases h:i<as.length
       ·rw[if_pos h,aa,ab h];rfl
       ·rw[if_neg h,if_pos (by omega),aa,dV (by omega)];rfl
      ·rw[dV (by simp;omega),dV (by simpa using hi)];rfl
    cases hs:e9 T n F.code (px as os k)with
    |none=>rw[hs]at hq;cases hq
    |some p=>
     obtain⟨e,c1⟩:=p;rw[hs]at hq;refine wp_mono (hR.1 _ _ _ _ hs code C F.n _ w (by simpa using hbody) hok ⟨x,s0,hM0,hS0⟩) ?_;rintro e' a' w' ⟨rfl,x1,s1,hM1,hS1⟩
     have main:MI F.keep F.raw os.length c1 (pJ c1 F.rs)=some q->a'.defers=[]/\∃v,(results fn a'.tmps).run P w'= .ok v w'/\∃v',∃x':Sit,∃q',Ending.returned v= .returned v'/\q'=q/\Rep x' q'.r v'/\cL C x' q'.os q'.tk w'/\(∀p∈q'.os,p.2.wf=true)/\∀i,i<os.length->x'.bk i=x.bk i:=by
      intro hf;cases hrc:pJ c1 F.rs with
      |none=>rw[hrc]at hf;cases hf
      |some rv=>
       rw[hrc]at hf;obtain⟨p,h1,h2⟩:=qT (P:=P) hS1 hrv hrc;obtain⟨us,hrun,hl⟩:=oO hM1 h1 h2;obtain⟨x',g1,g2,g3,g4⟩:=CH hM1 hS1 hlen hl hf;refine⟨hM1.defers,Mq us, ?_,Mq us,x',q,rfl,rfl,g1,g2,g3,fun i hi=> ?_⟩
       ·rw[vw,Array.mapM_eq_mapM_toList]
        simp only[az,Sem.run_map,hrun,am,aG];rfl
       ·rw[g4 i (by omega)];exact(hH.pin i (by omega)).symm
     cases e with
     |n=>exact main hq
     |r=>exact main hq
     |x id=>cases hq
theorem M4(hT:mA P T):∀n,sT P T n
 |0=>vt
 |n+1=>vu (M4 hT n) (mc (M4 hT n) hT)
theorem nM(hT:mA P T):fz P (call T):=by intro g as os k q hq;obtain⟨n,hn⟩:=nq hq;exact mc (M4 hT n) hT g as os k q hn
theorem PW(hT:mA P T){g:Nat}{as:List SV}{r:SV}(h:call T g as [] 0=some ⟨r,[],[]⟩)(ht:r.toks=[]):Fn P g as r:=by obtain⟨h1,h2⟩:=nM hT _ _ _ _ _ h;refine⟨h1,fun C x w vs hw hG hm hl hH hv=> ?_⟩;refine(h2 C x w vs hw hG (fun b hb=>(hm b hb).imp id (fun⟨i,hi,_⟩=>by simp at hi)) (by simp) (by simp) hH hv).mono ?_;rintro en w' ⟨v,x',q,rfl,rfl,hr,hH',_,hg⟩;exact⟨v,x',r,[],rfl,⟨rfl,rfl⟩,hr,by rw[ht];exact hH',hg⟩
def RA(P:Program):ResultVar->RV->Bool
 | .tmp t,.tmp t'=>decide (t=t')
 | .cell t ty,.cell t' n ag=>decide (t=t')&&decide (eH P ty=some n)&&decide (oY P ty=some ag)
 |_,_=>false
def oM(P:Program):List ResultVar->List RV->Bool
 |[],[]=>true
 |a::r,b::s=>RA P a b&&oM P r s
 |_,_=>false
theorem tC:∀{rs:List ResultVar}{rv:List RV},oM P rs rv=true->C2 P rs rv
 |[],[],_=>trivial
 |[],_::_,h=>by cases h
 |_::_,[],h=>by cases h
 |a::r,b::s,h=>by
  simp only[oM,aA]at h;refine⟨?_,tC h.2⟩;have h1:=h.1;cases a<;>cases b<;>simp only[RA,aA,decide_eq_true_eq]at h1<;>first|(cases h1;done)|skip
  ·exact h1
  ·exact⟨h1.1.1,h1.1.2,h1.2⟩
theorem PX{g:Nat}{F:FnC}{fn:Func}(h1:P.funcs[g]? =some fn)(h2:fn.body.map (cn P)=some F.code.er)(h3:fn.ntmps=F.n)(h4:oM P fn.results.toList F.rs=true)(h5:dM P g=true)(h6:F.code.ok F.n=true):bF P g F:=
 ⟨⟨fn,h1,h2,h3,tC h4⟩,h5,h6⟩
end Go.Sy
namespace Go.Sy
variable [bd]
open Go.RowKit Go.ChangeShapes Go.WideShapes
def GW(w:World):GM:=fun b o=>w.cell? ⟨b,o,none⟩
def tB(w:World):Sit:=⟨GW w,fun _=>(0,0),fun _=>(0,0,0)⟩
theorem Xj(w:World)(hL:Lay (GW w)):cL ⟨w,GW w,fun b=>w.heap.size<=b,fun _=>(0,0)⟩ (tB w) [] [] w where
 per:=fun _ _ _ h=>h
 g0:=fun _ _ _ h=>h
 gm:=fun _ _ _ h=> .inl h
 new:=fun _ h=>h
 obs:=by simp
 nd:=List.nodup_nil
 inj:=by simp
 tks:=by simp
 tko:=by simp
 tkd:=by simp
 os:=rfl
 tape:=rfl
 output:=rfl
 size:=aH _
 ext:=fun _ _=>rfl
 pin:=fun _ _=>rfl
 lay:=hL
theorem qF{x:Sit}{b:Bool}{v:Value}(h:Rep x (.bool b) v):v= .bool b:=by
 cases h with
 |dat _ _ h _=>cases h;rfl
theorem Cp{P:Program}{f:Nat}{as:List SV}(h:Fn P f as (.bool true)){W:World}{vs:List Value}(hv:cd (tB W) as vs)(hL:Lay (GW W)):
 Calls P f ⟨vs⟩ W fun e W'=>e= .returned (.bool true)/\Below W.heap.size W W':=by
 refine(h.2 ⟨W,GW W,fun b=>W.heap.size<=b,fun _=>(0,0)⟩ (tB W) W vs rfl rfl (fun b hb=> .inl hb) (by simp) (Xj W hL) hv).mono ?_;rintro e W' ⟨v,x',r,os',rfl,⟨rfl,rfl⟩,hr,hH,_⟩;obtain rfl:=qF hr;exact⟨rfl,hH.os,hH.tape,hH.output,hH.size,fun k hk=>hH.ext k (by simp;omega)⟩
section
variable {H : Type} {enc : TypeId × Value -> H} {P : Program} {w : World} {base : Nat} {sp : Nat -> Bool} {hd : Bool} {r : Reach} {b0 : Nat} {t e : TypeId} {v : Value} {d : DataW H} {ps : List MemPlace}
theorem QS{k:IntKind}(ht:P.underlying t=some (.int k))(hval:Value.okWide P w r b0 t v)(h:DataW.Trod enc P w base sp hd t v d ps):∃n,k.has n/\Rep (tB w) (.int k n) v:=by obtain⟨n,rfl,_,_,hw⟩:=open_int ht hval h;simp only[Lit.wf,aA,decide_eq_true_eq]at hw;exact⟨n,hw,.dat _ _ (.int k n) trivial⟩
theorem xdk(ht:P.underlying t=some .bool)(hval:Value.okWide P w r b0 t v)(h:DataW.Trod enc P w base sp hd t v d ps):∃b,Rep (tB w) (.bool b) v:=by obtain⟨b,rfl,_,_⟩:=open_bool ht hval h;exact⟨b,.dat _ _ (.bool b) trivial⟩
theorem uZ{a:Addr}{len cap:Nat}(ht:P.underlying t=some (.slice e))(hval:Value.okWide P w r b0 t (.slice (some a) len cap)):a.spot=none:=by simp only[Value.okWide,ht,Cell.okWide,Cell.ok]at hval;exact hval.2.2.2.1
theorem ZS{n:Int}(h:(Lit.int .u8 n).wf=true):((fM n.toNat).toNat:Int)=n:=by
 simp only[Lit.wf,IntKind.min,IntKind.max,IntKind.signed,IntKind.bits,aA,decide_eq_true_eq]at h;rw[UInt8.toNat_ofNat'];have:n.toNat<256:=by simp at h;omega
 rw[cx this];simp at h;omega
theorem CU(ht:P.underlying t=some (.slice e))(he:P.underlying e=some (.int .u8))(hc:P.cellsOf e=1)(hval:Value.okWide P w r b0 t v)(h:DataW.Trod enc P w base sp hd t v d ps):
 ∃l:List UInt8,l.length<=maxLen/\Rep (tB w) (.byt l .no) v:=by
 obtain⟨a0,len,cap,rfl⟩:=okWide_slice ht hval;obtain⟨fuel,hf⟩:=h;rcases open_ints ht he hc hf with⟨hcs,_⟩|⟨a,len',cap',zs,hcs,_,hl,hm,hz,_,hcell,hwf⟩
 ·simp[Value.cells]at hcs
  obtain⟨rfl,rfl,rfl⟩:=hcs;exact⟨[],by simp,.dat _ _ (.bytN .no) trivial⟩
 ·simp[Value.cells]at hcs
  obtain⟨rfl,rfl,rfl⟩:=hcs;have hs:=uZ ht hval;obtain⟨b,off,spot⟩:=a;simp only at hs;subst hs;have hzl:len<=zs.length:=by rw[hz];split<;>omega
  refine⟨(zs.take len).map fun n=>fM n.toNat,by simp;omega,.dat _ _ (.byt _ .no b off cap len (by simp;omega) hl (fun i hi=> ?_)) trivial⟩;have h1:=hcell i (by omega);have hi':i<zs.length:=by omega
  rw[add_plain]at h1
  have e1:((zs.take len).map fun n=>fM n.toNat).getD i 0=fM (zs.getD i 0).toNat:=by simp[aa,hi',hi]
  show w.cell? _=_;rw[h1,e1]
  congr 2
  refine(ZS (hwf _ ?_)).symm;rw[aa,ab hi'];exact bi hi'
end
theorem Ep{x:Sit}:cd x [] []:=⟨rfl,by simp⟩
section
variable {H : Type} {enc : TypeId × Value -> H} {P : Program}
theorem EA{f:Func}{s:ChangeSpec}{apart fresh handsOn again:Bool}{W W':World}{args:Array Value}{v:Value}{ds gs:List (DataW H)}{before pa pv:List MemPlace}
 (hW:DataW.Whole enc P f.params.toList s.vars apart W args.toList ds gs before)
 (hres:∀(b:Nat)(sp:Nat->Bool)(hd:Bool),DataW.TrodAll enc P W' b sp hd f.resultTypes.toList (v.resultList f.resultTypes.size) (s.fn H (ds++gs)).results [])
 (hargs:∀sp:Nat->Bool,(∀p∈before,sp p.block=true)->DataW.TrodAll enc P W' 0 sp true f.params.toList args.toList (s.fn H (ds++gs)).args pa)
 (hvars:∀sp:Nat->Bool,(∀p∈before,sp p.block=true)->DataW.TrodVars enc P W' sp s.vars (s.fn H (ds++gs)).vars pv)
 (hps:before=pa++pv) (hb:Below W.heap.size W W')
 (hok:∀(j:Nat)(t:TypeId)(r:Value),f.resultTypes[j]? =some t->(v.resultList f.resultTypes.size)[j]? =some r->Value.okWide P W' .any 0 t r):
 s.post enc P f apart fresh handsOn again W args v W':=by
 have hlt:=hW.lt;have hold:∀p∈before,(fun b=>decide (b<W.heap.size)) p.block=true:=fun p hp=>by simpa using hlt p hp
 refine⟨ds,gs,before,[],pa,pv,hW,hres _ _ _,hargs _ hold,hvars _ hold,World.keptBut_mono (fun p hp=>⟨hp, ?_⟩) (hb.frame (· ∈before)),fun _=> ?_⟩
 ·rw[hps,al]at hp
  exact Or.inr hp
 ·obtain⟨_,_,_,_,_,hz,hn⟩:=hW
  refine⟨hok,_,_,([]++pa)++pv,⟨[]++pa,pv,trodAll_append (hargs _ (fun _ _=>rfl)) (hres _ _ _),hvars _ (fun _ _=>rfl),rfl, ?_, ?_⟩, ?_⟩
  ·intro b off hp
   have hp':MemPlace.cell b off∈before:=by rw[hps];simpa using hp
   rw[hb.frozen (p:=⟨b,off,none⟩) (hlt _ hp')];exact hz b off hp'
  ·intro ha
   have:=hn ha;rw[hps]at this;simpa using this
  ·intro p hp _
   rw[hps];simpa using hp
theorem kd(hl:laidOutB P=true){W W':World}(hb:Below W.heap.size W W'):∀{ts:List TypeId}{vs:List Value}{ds:List (DataW H)}{p:List MemPlace},(ts.all fun t=>P.readableRec t&&decide (t<P.types.size))=true->
 DataW.TrodAll enc P W 0 (fun _=>true) true ts vs ds p->(∀x∈p,x.block<W.heap.size)->∀sp:Nat->Bool,(∀x∈p,sp x.block=true)->DataW.TrodAll enc P W' 0 sp true ts vs ds p
 |[],_,_,_,_,h,_,_,_=>by obtain⟨rfl,rfl,rfl⟩:=trodAll_nil h;exact trodAll_mk0
 |t::ts,_,_,_,hr,h,hlt,sp,hsp=>by obtain⟨v,vs1,d,ds1,a,b,rfl,rfl,rfl,h1,h2⟩:=trodAll_cons h;simp only[List.all_cons,aA,decide_eq_true_eq]at hr;refine trodAll_cons_mk ?_ (kd hl hb (by simpa using hr.2) h2 (fun x hx=>hlt x (List.mem_append_right _ hx)) sp (fun x hx=>hsp x (List.mem_append_right _ hx)));exact WideElems.Trod_stays hl hr.1.1 hr.1.2 h1 (fun x hx=>hb.same (hlt x (List.mem_append_left _ hx))) (fun x hx=>hsp x (List.mem_append_left _ hx))
theorem EX{f:Func}{s:ChangeSpec}{W W':World}{args:Array Value}{ds gs:List (DataW H)}{before:List MemPlace}{tb:TypeId}(hl:laidOutB P=true)
 (hr:(f.params.toList.all fun t=>P.readableRec t&&decide (t<P.types.size))=true) (hrt:f.resultTypes= #[tb]) (htb:P.underlying tb=some .bool) (hvars:s.vars=[])
 (hfn:(s.fn H (ds++gs)).results=[.lit (.bool true)]) (hfa:(s.fn H (ds++gs)).args=ds) (hfv:(s.fn H (ds++gs)).vars=[])
 (hW:DataW.Whole enc P f.params.toList s.vars false W args.toList ds gs before) (hb:Below W.heap.size W W'):
 s.post enc P f false true false false W args (.bool true) W':=by
 have hlt:=hW.lt;have hW':=hW;obtain⟨p,q,hA,hV,rfl,hfz,hnd⟩:=hW;rw[hvars]at hV;obtain⟨rfl,rfl⟩:=trodVars_none hV;simp only[aZ]at hlt hW' hfz;refine EA (pa:=p) (pv:=[]) (before:=p) (gs:=[]) hW' (fun b sp hd=> ?_) (fun sp hsp=> ?_) (fun sp hsp=> ?_) (by simp) hb (ok_one hrt rfl (okWide_bool_mk htb _))
 ·rw[hfn,hrt]
  exact trodAll_cons_mk (shut_bool htb _) trodAll_mk0
 ·rw[hfa]
  exact kd hl hb hr hA hlt sp hsp
 ·rw[hvars,hfv]
  rfl
end
end Go.Sy
namespace Go.Sy
variable [bd]
open Go.RowKit Go.ChangeShapes Go.WideShapes
variable {P : Program} {C : Ctx} {x : Sit} {w w' : World}
theorem eC.below{b:Nat}{c:Array Value}{e:TypeId}{fl fh:Nat}(h:eC w b c e fl fh)(hb:Below w.heap.size w w'):eC w' b c e fl fh:=h.of_heap (hb.block b h.lt)
theorem cL.below{ob:List (Nat×aE)}{tk:List Nat}(h:cL C x ob tk w)(hb:Below w.heap.size w w'):cL C x ob tk w' where
 per:=fun b o v hv=>by rw[cW (hb.block b (h.ltG hv))];exact h.per b o v hv
 g0:=h.g0
 gm:=h.gm
 new:=h.new
 obs:=fun p hp=>by obtain⟨⟨c,e,fl,fh,hO,r⟩,q⟩:=h.obs p hp;exact⟨⟨c,e,fl,fh,hO.below hb,r⟩,q⟩
 nd:=h.nd
 inj:=h.inj
 tks:=fun t ht=>(h.tks t ht).imp id fun⟨⟨c,e,fl,fh,hO,r⟩,q⟩=>⟨⟨c,e,fl,fh,hO.below hb,r⟩,q⟩
 tko:=h.tko
 tkd:=h.tkd
 os:=hb.os.trans h.os
 tape:=hb.tape.trans h.tape
 output:=hb.output.trans h.output
 size:=oH h.size hb.size
 ext:=fun b hn=>by
  rcases bL b w.heap.size with h1|h1
  ·rw[hb.block b h1];exact h.ext b hn
  ·exact absurd (h.new b (oH h.size h1)) hn
 pin:=h.pin
 lay:=h.lay
def ij(w:World)(l:List UInt8)(v:Value):Prop:=
 (l=[]/\∃a,v= .slice a 0 0)\/∃b off n cap,v= .slice (some ⟨b,off,none⟩) n cap/\n=l.length/\∀i,i<n->w.cell? ⟨b,off+i,none⟩=some (.int .u8 (l.getD i 0).toNat)
theorem kD{l:List UInt8}{t:Tok}{v:Value}(h:Rep x (.byt l t) v)(hp:∀b o v,x.G b o=some v->w.cell? ⟨b,o,none⟩=some v):ij w l v:=by
 cases h with
 |dat _ _ h _=>
  cases h with
  |bytN=>exact .inl ⟨rfl,_,rfl⟩
  |bytE=>exact .inl ⟨rfl,_,rfl⟩
  |byt _ _ b off cap n hn hc h=>exact .inr ⟨b,off,n,cap,rfl,hn,fun i hi=>hp _ _ _ (h i hi)⟩
theorem wI{l:List UInt8}{v:Value}(h:Rep x (.str l) v):v= .string ⟨⟨l⟩⟩:=by
 cases h with
 |dat _ _ h _=>cases h;rfl
theorem xdG{b:UInt8}{v:Value}(h:Rep x (.u8 b) v):v= .int .u8 b.toNat:=by
 cases h with
 |dat _ _ h _=>cases h;rfl
theorem iM{g:Nat}{as:List SV}{r:SV}(hcb:dM P g=true)
 (h:∀(x:Sit)(w:World)(vs:List Value),cd x as vs->(∀b o v,x.G b o=some v->w.cell? ⟨b,o,none⟩=some v)->
  Calls P g ⟨vs⟩ w fun e w'=>∃v,e= .returned v/\Rep x r v/\Below w.heap.size w w'):i6 P g as [] 0 (· =⟨r,[],[]⟩):=by
 refine⟨hcb,fun C x w vs hw hG hm hl hwf hH hr=>(h x w vs hr hH.per).mono ?_⟩;rintro e w' ⟨v,rfl,hv,hb⟩;exact⟨v,x,_,rfl,rfl,hv,hH.below hb,fun p hp=>by simp at hp,fun i hi=>rfl⟩
theorem jy{l:List UInt8}{v:Value}(h:ij w l v):(Extern.Bytes.bytesOf v).run P w= .ok ⟨⟨l⟩⟩ w:=by
 rcases h with⟨rfl,a,rfl⟩|⟨b,off,n,cap,rfl,hn,hc⟩
 ·cases a<;>rfl
 ·have hl:=Lib.run_loadBytesX (P:=P) w (l.map fun c=>(c.toNat:Int)) ⟨b,off,none⟩ .empty (fun j z hj=>by
   have hj':j<l.length:=by have:=(List.getElem?_eq_some_iff.1 hj).1;simpa using this
   have e:(⟨b,off,none⟩:Addr).add j=⟨b,off+j,none⟩:=by unfold Addr.add;split<;>simp_all
   rw[e,hc j (by omega)];simp only[aO,ab hj',bn,aq.injEq]at hj;rw[aa,ab hj',aX,<-hj])
  have e2:(⟨ByteArray.empty.data++(Lib.bytesOf (l.map fun c=>(c.toNat:Int))).toArray⟩:ByteArray)=⟨⟨l⟩⟩:=by
   apply ByteArray.ext;show(#[]:Array UInt8)++(Lib.bytesOf _).toArray=⟨l⟩
   have:Lib.bytesOf (l.map fun c=>(c.toNat:Int))=l:=by unfold Lib.bytesOf;rw[List.map_map];refine(List.map_congr_left (g:=id) fun c _=> ?_).trans (List.map_id _);simp
   rw[this];simp
  rw[aN,e2]at hl;rw[hn];exact hl
theorem oN{a b:List UInt8}{u v:Value}(ha:ij w a u)(hb:ij w b v):(Extern.BytealgCompare.compare #[u,v]).run P w= .ok (.int .i64 (Lib.compareBytes a b)) w:=by change Sem.run P (do pure (goInt (Extern.BytealgCompare.cmp (<-Extern.Bytes.bytesOf u) (<-Extern.Bytes.bytesOf v)))) w=_;simp only[az,jy ha,jy hb,Result.andThen,aG,Lib.cmp_eq];rfl
def rB(l:List UInt8)(c:UInt8):Int:=firstIdx ⟨⟨l⟩⟩ c
theorem s7{l:List UInt8}{u:Value}{c:UInt8}(ha:ij w l u):(Extern.BytealgIndexByte.indexByte #[u,.int .u8 c.toNat]).run P w= .ok (.int .i64 (rB l c)) w:=by
 have hs:=run_indexByte_string (P:=P) ⟨⟨l⟩⟩ c.toNat w
 change Sem.run P (do
  let b<-Extern.Bytes.bytesOf u
  let c'<-Extern.Bytes.asByte (.int .u8 c.toNat)
  match (bD b.size).find? fun i=>b[i]! ==c' with
  |some i=>pure (goInt i)
  |none=>pure (goInt (-1))) w=_
 change Sem.run P (do
  let b<-Extern.Bytes.bytesOf (.string ⟨⟨l⟩⟩)
  let c'<-Extern.Bytes.asByte (.int .u8 c.toNat)
  match (bD b.size).find? fun i=>b[i]! ==c' with
  |some i=>pure (goInt i)
  |none=>pure (goInt (-1))) w=_ at hs
 have e:(((c.toNat:Nat):Int).toNat.toUInt8)=c:=by simp
 rw[e]at hs;simp only[az,jy ha,Result.andThen]at hs ⊢;exact hs
end Go.Sy
namespace Go.Sy
variable [bd]
structure Do(T T':fi):Prop where
 fn:∀g b,T.fn g=some b->T'.fn g=some b
 sg:T.sg=T'.sg
variable {T T' : fi}
theorem tE(h:Do T T'):∀n,leR (e9 T n) (e9 T' n)
 |0=>fun _ _ _ h=>by cases h
 |n+1=>fun r c x hx=>by
  have ih:=tE h n;show dv (e9 T' n) (fun g args os k=>lm (e9 T' n) (T'.fn g) args os k) T'.sg r c=some x;rw[<-h.sg];refine ky ih ?_ hx;intro g a os k q hq;simp only at hq ⊢;cases hf:T.fn g with
  |none=>rw[hf]at hq;cases hq
  |some b=>rw[hf]at hq;rw[h.fn g b hf];exact gD ih hq
theorem PC{α:Type}{g:Nat->Option α}{x:α}(h:lim g=some x):∃n,g n=some x:=by
 unfold lim at h;split at h
 ·exact⟨_,h⟩
 ·cases h
theorem FB(h:Do T T'){g:Nat}{a:List SV}{os:List aE}{k:Nat}{q:dE}(hc:call T g a os k=some q):call T' g a os k=some q:=by
 obtain⟨n,hn⟩:=PC hc;refine nN (n:=n) ?_;unfold eg at hn ⊢;cases hf:T.fn g with
 |none=>rw[hf]at hn;cases hn
 |some b=>rw[hf]at hn;rw[h.fn g b hf];exact gD (tE h n) hn
def fi.add(T:fi)(g:Nat)(F:FnC):fi:=⟨fun k=>if k=g then some (.code F)else T.fn k,T.sg⟩
end Go.Sy
namespace Go.Sy
variable [bd]
variable {P : Program} {C : Ctx} {x : Sit} {w w' : World} {ob : List (Nat × aE)} {tk : List Nat}
open Go.RowKit Go.ChangeShapes Go.WideShapes
theorem cL.one(h:cL C x ob tk w)(hb:Below w.heap.size w w'){obj:aE}{K:Nat}(hr:dt (x.newO 100 w.heap.size K) w' 100 obj):cL C (x.newO 100 w.heap.size K) [(100,obj)] [] w':=by
 have h1:=(h.sub (ob':=[]) (tk':=[]) (List.nil_sublist _) (fun t ht=>by cases ht)).below hb;have hd2:(x.newO 100 w.heap.size K).bk 100=(w.heap.size,K):=lx _ _ _;refine⟨h1.per,h1.g0,h1.gm,h1.new, ?_,by simp, ?_,(fun t ht=>by cases ht),(fun t ht=>by cases ht),(fun t ht=>by cases ht),h1.os,h1.tape,h1.output,h1.size,h1.ext,fun i hi=>by rw[Sit.newO_ne _ _ _ _ (by omega)];exact h1.pin i hi,h1.lay⟩
 ·intro p hp
  rw[aY]at hp;subst hp;refine⟨hr,by rw[hd2];exact h.new _ h.size,fun off=> ?_⟩;rw[hd2];show x.G w.heap.size off=none;cases hg:x.G w.heap.size off with
  |none=>rfl
  |some v=>exact absurd (h.ltG hg) (by omega)
 ·intro p hp q hq _
  rw[aY]at hp hq;rw[hp,hq]
end Go.Sy
namespace Go.Sy
variable [bd]
open Go.RowKit Go.ChangeShapes Go.WideShapes
variable {P : Program} {C : Ctx} {x : Sit} {w w' : World} {T T' : fi}
def Sit.grow(x:Sit)(w w':World):Sit:=⟨fun b o=>if w.heap.size<=b then w'.cell? ⟨b,o,none⟩else x.G b o,x.bk,x.τ⟩
theorem iV{b o:Nat}{v:Value}(h:w.cell? ⟨b,o,none⟩=some v):b<w.heap.size:=by
 rcases bL b w.heap.size with h1|h1
 ·exact h1
 ·have h2:w.heap[b]? =none:=Array.getElem?_eq_none h1
  simp only[World.cell?,h2]at h;cases h
theorem E5(hper:∀b o v,x.G b o=some v->w.cell? ⟨b,o,none⟩=some v){b o:Nat}{v:Value}(h:x.G b o=some v):(x.grow w w').G b o=some v:=by show(if w.heap.size<=b then _ else _)=_;rw[if_neg (by have:=iV (hper _ _ _ h);omega)];exact h
theorem u9{g:Nat}{as:List SV}{r:SV}(hcb:dM P g=true)
 (h:∀(x:Sit)(w:World)(vs:List Value),cd x as vs->(∀b o v,x.G b o=some v->w.cell? ⟨b,o,none⟩=some v)->Lay x.G->
  Calls P g ⟨vs⟩ w fun e w'=>∃v,e= .returned v/\Rep (x.grow w w') r v/\Below w.heap.size w w'):i6 P g as [] 0 (· =⟨r,[],[]⟩):=by
 refine⟨hcb,fun C x w vs hw hG hm hl hwf hH hr=>(h x w vs hr hH.per (hG ▸ hH.lay)).mono ?_⟩;rintro e w' ⟨v,rfl,hv,hb⟩;have h1:=hH.below hb;refine⟨v,x.grow w w',_,rfl,rfl,hv,⟨?_, ?_, ?_,h1.new,by simp,by simp,by simp,by simp,by simp,by simp,h1.os,h1.tape,h1.output,h1.size,h1.ext,fun i hi=>h1.pin i hi,h1.lay⟩,fun p hp=>by simp at hp,fun i hi=>rfl⟩
 ·intro b o u hu
  have hu':(if w.heap.size<=b then w'.cell? ⟨b,o,none⟩else x.G b o)=some u:=hu;split at hu'
  ·exact hu'
  ·exact h1.per _ _ _ hu'
 ·intro b o u hu
  exact E5 hH.per (hH.g0 _ _ _ hu)
 ·intro b o u hu
  have hu':(if w.heap.size<=b then w'.cell? ⟨b,o,none⟩else x.G b o)=some u:=hu;split at hu'
  ·rename_i hle
   exact .inr (hH.new b (by rw[hw];exact hle))
  ·exact hH.gm _ _ _ hu'
theorem FA(hT:mA P T){g:Nat}{as:List SV}{r:SV}(h:call T g as [] 0=some ⟨r,[],[]⟩){vs:List Value}(hv:cd (tB w) as vs)(hL:Lay (GW w)):
 Calls P g ⟨vs⟩ w fun e w'=>∃v x',e= .returned v/\Rep x' r v/\Below w.heap.size w w':=by
 obtain⟨h1,h2⟩:=nM hT _ _ _ _ _ h;refine(h2 ⟨w,GW w,fun b=>w.heap.size<=b,fun _=>(0,0)⟩ (tB w) w vs rfl rfl (fun b hb=> .inl hb) (by simp) (by simp) (Xj w hL) hv).mono ?_;rintro e w' ⟨v,x',q,rfl,rfl,hr,hH,_⟩;exact⟨v,x',rfl,hr,hH.os,hH.tape,hH.output,hH.size,fun k hk=>hH.ext k (by simp;omega)⟩
def fi.addP(T:fi)(g:Nat)(p:List SV->List aE->Nat->Option dE):fi:=⟨fun k=>if k=g then some (.prim p)else T.fn k,T.sg⟩
theorem DU(T:fi){g:Nat}(p:List SV->List aE->Nat->Option dE)(h:T.fn g=none):Do T (T.addP g p):=⟨fun k b hk=>by show(if k=g then _ else _)=_;rw[if_neg (by rintro rfl;rw[h]at hk;cases hk)];exact hk,rfl⟩
theorem Bn(T:fi)(g:Nat)(p:List SV->List aE->Nat->Option dE):(T.addP g p).fn g=some (.prim p):=if_pos rfl
theorem QX(h:mA P T){g:Nat}{p:List SV->List aE->Nat->Option dE}(hp:∀as os k q,p as os k=some q->i6 P g as os k (· =q)):mA P (T.addP g p):=by
 intro k b hb
 by_cases e:k=g
 ·subst e
  rw[Bn]at hb;cases hb;exact hp
 ·have:T.fn k=some b:=by
   have h2:(if k=g then some (FnB.prim p)else T.fn k)=some b:=hb;rwa[if_neg e]at h2
  exact h k b this
end Go.Sy
namespace Go
open Go.Maps (Keyed)
theorem eG{H:Type}{P:Program}{e:TypeId}(he:P.underlying e=some .bool){v:Value}{z:DataW H×List MemPlace}(h:plainElem P e v=some z):∃a,v= .bool a/\z=(.lit (.bool a),[]):=by unfold plainElem at h;rw[he]at h;cases v<;>simp at h;exact⟨_,rfl,h.symm⟩
theorem Co{H:Type}{P:Program}{w:World}{t k e:TypeId}{b n:Nat}{D:DataW H}(hown:w.ownsMap P k (plainElem P e) b n D)(K:Keyed P k)(ht:P.underlying t=some (.map k e))(he:P.underlying e=some .bool)(hz:(zeroValue e).run P w= .ok (.bool false) w){key:Value}{kl:Lit}(hkey:keyOf P k key=some kl): 
 ∃c:Bool,(Instr.lookup t (.map (some b)) key false).run P w= .ok (.bool c) w/\D.atKey kl (.lit (.bool false))= .lit (.bool c):=by
 obtain⟨v,ps,hrun,hv⟩:=hown.lookup K ht hz (plainElem_bool he false) hkey;obtain⟨c,rfl,hc⟩:=eG he hv;simp only[bh.injEq]at hc;exact⟨c,hrun,hc.1⟩
end Go
