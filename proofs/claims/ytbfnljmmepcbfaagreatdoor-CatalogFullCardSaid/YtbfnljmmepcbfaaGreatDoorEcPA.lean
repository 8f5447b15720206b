/- An engine that steps through Go code with symbolic values: sound by proof. No condition. -/
import Derived.Test.YtbfnljmmepcbfaaGreatDoorEbPA
import Derived.LoopN
open Array renaming getD_eq_getD_getElem? -> aQ, getElem?_eq_getElem -> cg
open Bool renaming and_eq_true -> aA, not_eq_true' -> cV
open List renaming Nodup -> we, Pairwise -> qH, Sublist -> mZ, all_eq_true -> aV, contains_eq_mem -> eU, filter_cons -> fq, getD_cons_succ -> lT, getD_eq_getElem?_getD -> aa, getElem?_append_left -> bq, getElem?_append_right -> bB, getElem?_drop -> bi, getElem?_eq_getElem -> ac, getElem?_eq_none -> gj, getElem?_map -> aR, getElem?_range -> ch, getElem?_set -> gr, getElem?_take -> bC, getElem_mem -> bo, getElem_of_mem -> bn, length_append -> af, length_cons -> am, length_drop -> aL, length_map -> aY, length_take -> ax, map_append -> du, map_cons -> aF, mem_append -> al, mem_cons -> aw, mem_cons_of_mem -> av, mem_cons_self -> aE, mem_map -> aT, mem_map_of_mem -> ik, mem_of_mem_drop -> cI, mem_of_mem_take -> bQ, mem_singleton -> bw, nodup_cons -> dN, pairwise_cons -> cK, pairwise_map -> gq, range -> bA, replicate -> aH
open Nat renaming add_assoc -> ep, add_mul -> bv, add_zero -> gx, div_eq_of_lt -> xZ, le_max_right -> xY, le_refl -> aK, le_trans -> kL, lt_or_ge -> bO, min_eq_left -> fi, mod_eq_of_lt -> cx, mul_comm -> cB, mul_le_mul_right -> aX, one_mul -> nu, succ_mul -> dy
open Option renaming bind_some -> cY, getD_some -> aM, map_eq_some_iff -> ae, map_some -> bp, some -> aq
open Prod renaming fst -> cH
set_option linter.unusedVariables false
set_option linter.unusedSimpArgs false
set_option linter.unnecessarySimpa false
set_option linter.unusedSectionVars false
namespace Go.Sy
variable [bf]
def leR(f g:RC->CSt->gG):Prop:=∀r c x,f r c=some x->g r c=some x
def leC(f g:de):Prop:=∀a b o k x,f a b o k=some x->g a b o k=some x
theorem xD{c:CSt}{d:Option Nat}{x:CSt}{a b:Option dv}(h:∀q,a=some q->b=some q)(k:lO c d a=some x):lO c d b=some x:=by
 cases a with
 |none=>cases k
 |some q=>rw[h q rfl];exact k
theorem wJ{c:CSt}{d:Option Nat}{m mt:List Nat}{x:CSt}{a b:Option dv}(h:∀q,a=some q->b=some q)(k:nU c d m mt a=some x):nU c d m mt b=some x:=by
 cases a with
 |none=>cases k
 |some q=>rw[h q rfl];exact k
theorem wK{f g:de}(h:leC f g){c:CSt}{d:Option Nat}{n:Nat}{as:List SV}{mt1:List (Option Nat)}{m:List Nat}{o:Option (List aC)}{x:CSt}
 (k:kO f c d n as mt1 m o=some x):kO g c d n as mt1 m o=some x:=by
 cases o with
 |none=>cases k
 |some os=>
  simp only[kO]at k ⊢;generalize ek c.tk (50+mt1.length) os=z at k ⊢;obtain⟨os',mt2⟩:=z;simp only[m9]at k ⊢;generalize (nQ (SV.idsL as++fG os') m&&dB m&&dB (cy (mt1++mt2))&&decide (m.length<=40)&&m.all fun o=> !inR (d.getD 0) o)=b at k ⊢;cases b with
  |false=>cases k
  |true=>simp only[m7]at k ⊢;exact wJ (fun q hq=>h _ _ _ _ _ hq) k
theorem wH{f g:de}(h:leC f g){sg:Sig}{d:Option Nat}{n:Nat}{p:CSt×List SV}{x:CSt}(k:jB f sg d n p=some x):jB g sg d n p=some x:=by obtain⟨c,as⟩:=p;simp only[jB]at k ⊢;generalize jI c.tk sg.own 50 0 as=z at k ⊢;obtain⟨as',mt1⟩:=z;simp only[na]at k ⊢;exact wK h k
theorem xK{f g:de}(h:leC f g){sg:Sig}{c:CSt}{d:Option Nat}{n:Nat}{as:List SV}{x:CSt}(k:hZ f sg c d n as=some x):hZ g sg c d n as=some x:=by
 unfold hZ at k ⊢;generalize ((SV.idsL as).isEmpty&&sg.own.isEmpty)=b at k ⊢;cases b with
 |true=>exact xD (fun q hq=>h _ _ _ _ _ hq) k
 |false=>exact wH h k
theorem lI{f g:de}(h:leC f g){sg:Nat->Sig}{c:CSt}{d:Option Nat}{o:SOp}{x:CSt}(k:opC f sg c d o=some x):opC g sg c d o=some x:=by
 cases o with
 |call a as=>simp only[opC]at k ⊢;split at k<;>first|exact xK h k|cases k
 |_=>exact k
theorem jd{f g:de}(h:leC f g){sg:Nat->Sig}{c:CSt}{i:SI}{x:CSt}(k:dQ f sg c i=some x):dQ g sg c i=some x:=by
 unfold dQ at k ⊢;split at k
 ·exact lI h k
 ·split at k
  ·split at k
   ·rename_i hc;rw[if_pos hc];exact lI h k
   ·rename_i hc;rw[if_neg hc];exact k
  ·exact k
  ·cases k
theorem vh{f g:de}(h:leC f g){sg:Nat->Sig}:∀{l:List SI}{c x:CSt},plC f sg l c=some x->plC g sg l c=some x:=by
 intro l;induction l with
 |nil=>intro c x k;simpa[plC]using k
 |cons i r ih=>
  intro c x k;simp only[plC]at k ⊢;cases hs:opC f sg c i.dst i.op with
  |none=>rw[hs]at k;simp[nxP]at k
  |some c1=>rw[hs]at k;rw[lI h hs];simp only[nxP]at k ⊢;exact ih k
theorem rk{f g:de}(h:leC f g){sg:Nat->Sig}{b:Bool}{l:List SI}{c x:CSt}{v:SV}(k:oJ f sg b l c v=some x):oJ g sg b l c v=some x:=by
 unfold oJ at k ⊢;split at k
 ·split at k
  ·rename_i hc;rw[if_pos hc];exact vh h k
  ·rename_i hc;rw[if_neg hc];exact k
 ·exact k
 ·cases k
theorem mn{f g:de}(h:leC f g){sg:Nat->Sig}:∀{l:List RI}{c x:CSt},fJ f sg l c=some x->fJ g sg l c=some x:=by
 intro l;induction l with
 |nil=>intro c x k;simpa[fJ]using k
 |cons i r ih=>
  intro c x k;cases i with
  |op i dead=>
   simp only[fJ]at k ⊢;cases hs:dQ f sg c i with
   |none=>rw[hs]at k;simp[nxC]at k
   |some c1=>rw[hs]at k;rw[jd h hs];simp only[nxC]at k ⊢;exact ih k
  |grp q b l dead=>
   simp only[fJ]at k ⊢;cases hs:oJ f sg b l c (c.get q)with
   |none=>rw[hs]at k;simp[nxC]at k
   |some c1=>rw[hs]at k;rw[rk h hs];simp only[nxC]at k ⊢;exact ih k
  |own i dead=>
   simp only[fJ]at k ⊢;cases hs:sr c i with
   |none=>rw[hs]at k;simp[nxC]at k
   |some c1=>rw[hs]at k;simp only[nxC]at k ⊢;exact ih k
  |tks i dead=>
   simp only[fJ]at k ⊢;cases hs:zS c i with
   |none=>rw[hs]at k;simp[nxC]at k
   |some c1=>rw[hs]at k;simp only[nxC]at k ⊢;exact ih k
  |dir d=>
   simp only[fJ]at k ⊢;cases hs:ql c d with
   |none=>rw[hs]at k;simp[nxC]at k
   |some c1=>rw[hs]at k;simp only[nxC]at k ⊢;exact ih k
theorem iU{f g:de}(h:leC f g){sg:Nat->Sig}{b:List Nat}:∀{l ps:List FI}{c x:CSt},fc f sg b l ps c=some x->fc g sg b l ps c=some x:=by
 intro l;induction l with
 |nil=>intro ps c x k;simpa[fc]using k
 |cons i r ih=>
  intro ps c x k;obtain⟨n,q,i⟩:=i;cases q with
  |true=>
   simp only[fc]at k ⊢;cases hq:qv c i with
   |none=>rw[hq]at k;simp[vL]at k
   |some v=>rw[hq]at k;simp only[vL]at k ⊢;exact ih k
  |false=>
   simp only[fc]at k ⊢;cases hs:dQ f sg c i with
   |none=>rw[hs]at k;simp[qh]at k
   |some c1=>
    rw[hs]at k;rw[jd h hs];simp only[qh]at k ⊢;cases hg:gdP (sK (b.getD n 0) c1 ps) c1 with
    |none=>rw[hg]at k;simp[qj]at k
    |some c2=>rw[hg]at k;simp only[qj]at k ⊢;exact ih k
theorem mG{f g:de}(h:leC f g){sg:Nat->Sig}{b:List Nat}{l:List FI}:∀{ps:List (List Nat)}{c x:CSt},iV f sg b l ps c=some x->iV g sg b l ps c=some x
 |[],c,x,k=>by simp[iV]at k
 |[p],c,x,k=>iU h k
 |p::q::r,c,x,k=>by
  simp only[iV]at k ⊢;cases h1:fc f sg b (iC l p) [] c with
  |none=>rw[h1]at k;simp[nq]at k
  |some y=>
   cases h2:iV f sg b l (q::r) c with
   |none=>rw[h1,h2]at k;simp[nq]at k
   |some z=>rw[h1,h2]at k;rw[iU h h1,mG h h2];exact k
theorem kN{rn rn':RC->CSt->gG}{f g:de}(hr:leR rn rn')(h:leC f g){sg:Nat->Sig}{r:RC}{c:CSt}{x:Ex×CSt}(k:dP rn f sg r c=some x):dP rn' g sg r c=some x:=by
 cases r with
 |skip=>exact k
 |ret=>exact k
 |exit id=>exact k
 |ops l=>
  simp only[dP]at k ⊢;cases hs:fJ f sg l c with
  |none=>rw[hs]at k;cases k
  |some c1=>rw[hs]at k;rw[mn h hs];exact k
 |flt b ds l dead=>
  simp only[dP]at k ⊢;cases hs:fc f sg b l [] c with
  |none=>rw[hs]at k;simp[nrm]at k
  |some c1=>rw[hs]at k;rw[iU h hs];exact k
 |fla b ds l ps dead=>
  simp only[dP]at k ⊢;cases hs:iV f sg b l ps c with
  |none=>rw[hs]at k;simp[nrm]at k
  |some c1=>rw[hs]at k;rw[mG h hs];exact k
 |seq a b=>
  simp only[dP]at k ⊢;cases hs:rn a c with
  |none=>rw[hs]at k;cases k
  |some p=>
   rw[hs]at k;rw[hr _ _ _ hs];obtain⟨e,c1⟩:=p;cases e with
   |n=>exact hr _ _ _ k
   |x id=>exact k
   |r=>exact k
 |cond a y z=>
  simp only[dP]at k ⊢;unfold cnd at k ⊢;split at k
  ·split at k
   ·rename_i hc;rw[if_pos hc];exact hr _ _ _ k
   ·rename_i hc;rw[if_neg hc];exact hr _ _ _ k
  ·cases k
 |block id b=>
  simp only[dP]at k ⊢;cases hs:rn b c with
  |none=>rw[hs]at k;cases k
  |some p=>rw[hs]at k;rw[hr _ _ _ hs];exact k
 |loop b=>
  simp only[dP]at k ⊢;cases hs:rn b c with
  |none=>rw[hs]at k;cases k
  |some p=>
   rw[hs]at k;rw[hr _ _ _ hs];obtain⟨e,c1⟩:=p;cases e with
   |n=>exact hr _ _ _ k
   |x id=>exact k
   |r=>exact k
 |pre ds a=>
  simp only[dP]at k ⊢;cases hs:ix c ds with
  |none=>rw[hs]at k;cases k
  |some c1=>rw[hs]at k;exact hr _ _ _ k
 |bad=>cases k
 |post a ds=>
  simp only[dP]at k ⊢;cases hs:rn a c with
  |none=>rw[hs]at k;cases k
  |some p=>rw[hs]at k;rw[hr _ _ _ hs];exact k
theorem ia{rn rn':RC->CSt->gG}(hr:leR rn rn'){o:Option FnB}{a:List SV}{os:List aC}{k:Nat}{x:dv}(h:lR rn o a os k=some x):lR rn' o a os k=some x:=by
 cases o with
 |none=>cases h
 |some b=>
  cases b with
  |prim f=>exact h
  |code F=>
   simp only[lR,Ed]at h ⊢;split at h
   ·rename_i hc
    rw[if_pos hc];cases hs:rn F.code (qF a os k)with
    |none=>rw[hs]at h;cases h
    |some p=>rw[hs]at h;rw[hr _ _ _ hs];exact h
   ·cases h
variable {T : fP}
theorem qS:∀n,leR (fI T n) (fI T (n+1))
 |0=>fun r c x h=>by simp[fI]at h
 |n+1=>fun r c x h=>by have ih:=qS n;rw[fI]at h ⊢;exact kN ih (fun g a os k x h=>ia ih h) h
theorem ke{n m:Nat}(h:n<=m):leR (fI T n) (fI T m):=by
 induction m with
 |zero=>
  have:n=0:=by omega
  subst this;exact fun _ _ _ h=>h
 |succ m ih=>
  rcases bO n (m+1)with h1|h1
  ·exact fun r c x hx=>qS m r c x (ih (by omega) r c x hx)
  ·have:n=m+1:=by omega
   subst this;exact fun _ _ _ h=>h
theorem dS{n m:Nat}(h:n<=m):leC (eN T n) (eN T m):=fun _ _ _ _ _ hx=>ia (ke h) hx
theorem vC{α:Type}{g:Nat->Option α}(hm:∀n m x,n<=m->g n=some x->g m=some x){n:Nat}{x:α}(h:g n=some x):lim g=some x:=by have hex:∃n x,g n=some x:=⟨n,x,h⟩;unfold lim;rw[dif_pos hex];obtain⟨y,hy⟩:=Classical.choose_spec hex;have h1:=hm _ (max n (Classical.choose hex)) _ (xY _ _) hy;have h2:=hm _ (max n (Classical.choose hex)) _ (Nat.le_max_left _ _) h;rw[hy,<-h1,h2]
theorem M4{α:Type}{g:Nat->Option α}{x:α}(h:lim g=some x):∃n,g n=some x:=by
 unfold lim at h;split at h
 ·exact⟨_,h⟩
 ·cases h
theorem GX{n:Nat}{r:RC}{c:CSt}{x:Ex×CSt}(h:fI T n r c=some x):run T r c=some x:=vC (fun _ _ _ hnm h=>ke hnm _ _ _ h) h
theorem gH{r:RC}{c:CSt}{x:Ex×CSt}(h:run T r c=some x):∃n,fI T n r c=some x:=M4 h
theorem oT{n:Nat}{g:Nat}{a:List SV}{os:List aC}{k:Nat}{x:dv}(h:eN T n g a os k=some x):call T g a os k=some x:=vC (fun _ _ _ hnm h=>dS hnm _ _ _ _ _ h) h
theorem ou{g:Nat}{a:List SV}{os:List aC}{k:Nat}{x:dv}(h:call T g a os k=some x):∃n,eN T n g a os k=some x:=M4 h
theorem GY(n:Nat):leR (fI T n) (run T):=fun _ _ _ h=>GX h
theorem RO(n:Nat):leC (eN T n) (call T):=fun _ _ _ _ _ h=>oT h
theorem xL{sg:Sig}{c:CSt}{d:Option Nat}{g:Nat}{as:List SV}{x:CSt}(k:hZ (call T) sg c d g as=some x):∃n,hZ (eN T n) sg c d g as=some x:=by
 unfold hZ at k ⊢;generalize ((SV.idsL as).isEmpty&&sg.own.isEmpty)=b at k ⊢;cases b with
 |true=>
  simp only[jF]at k ⊢;cases hq:call T g (SV.bareL as) [] 0 with
  |none=>rw[hq]at k;cases k
  |some q=>obtain⟨n,hn⟩:=ou hq;exact⟨n,by rw[hn];rw[hq]at k;exact k⟩
 |false=>
  simp only[jF]at k ⊢;generalize eP c as (iQ sg.raw 0 as)=z at k ⊢;obtain⟨c1,as1⟩:=z;simp only[jB]at k ⊢;generalize jI c1.tk sg.own 50 0 as1=z at k ⊢;obtain⟨as',mt1⟩:=z;simp only[na]at k ⊢;cases ho:gu c1 (dR c1 60 [] (SV.idsL as'))with
  |none=>rw[ho]at k;cases k
  |some os=>
   rw[ho]at k;simp only[kO]at k ⊢;generalize ek c1.tk (50+mt1.length) os=z at k ⊢;obtain⟨os',mt2⟩:=z;simp only[m9]at k ⊢;generalize (nQ (SV.idsL as'++fG os') (dR c1 60 [] (SV.idsL as'))&&dB (dR c1 60 [] (SV.idsL as'))&&dB (cy (mt1++mt2))&&decide ((dR c1 60 [] (SV.idsL as')).length<=40)&&(dR c1 60 [] (SV.idsL as')).all fun o=> !inR (d.getD 0) o)=b at k ⊢;cases b with
   |false=>cases k
   |true=>
    simp only[m7]at k ⊢;cases hq:call T g (SV.renL (gB (dR c1 60 [] (SV.idsL as'))) id as') (eu (gB (dR c1 60 [] (SV.idsL as'))) id os') (mt1.length+mt2.length)with
    |none=>rw[hq]at k;cases k
    |some q=>obtain⟨n,hn⟩:=ou hq;exact⟨n,by rw[hn];rw[hq]at k;exact k⟩
theorem pf{sg:Nat->Sig}{c:CSt}{d:Option Nat}{o:SOp}{x:CSt}(k:opC (call T) sg c d o=some x):∃n,opC (eN T n) sg c d o=some x:=by
 cases o with
 |call a as=>simp only[opC]at k ⊢;split at k<;>first|exact xL k|cases k
 |_=>exact⟨0,k⟩
theorem nS{sg:Nat->Sig}{c:CSt}{i:SI}{x:CSt}(k:dQ (call T) sg c i=some x):∃n,dQ (eN T n) sg c i=some x:=by
 unfold dQ at k ⊢;split at k
 ·exact pf k
 ·split at k
  ·split at k
   ·rename_i hc;simp only[if_pos hc];exact pf k
   ·rename_i hc;simp only[if_neg hc];exact⟨0,k⟩
  ·exact⟨0,k⟩
  ·cases k
theorem FE{sg:Nat->Sig}:∀{l:List SI}{c x:CSt},plC (call T) sg l c=some x->∃n,plC (eN T n) sg l c=some x:=by
 intro l;induction l with
 |nil=>intro c x k;exact⟨0,by simpa[plC]using k⟩
 |cons i r ih=>
  intro c x k;simp only[plC]at k ⊢;cases hs:opC (call T) sg c i.dst i.op with
  |none=>rw[hs]at k;simp[nxP]at k
  |some c1=>rw[hs]at k;simp only[nxP]at k;obtain⟨n,hn⟩:=pf hs;obtain⟨m,hm⟩:=ih k;refine⟨max n m, ?_⟩;rw[lI (dS (Nat.le_max_left n m)) hn];simp only[nxP];exact vh (dS (xY n m)) hm
theorem Dc{sg:Nat->Sig}{b:Bool}{l:List SI}{c x:CSt}{v:SV}(k:oJ (call T) sg b l c v=some x):∃n,oJ (eN T n) sg b l c v=some x:=by
 unfold oJ at k ⊢;split at k
 ·split at k
  ·rename_i hc;simp only[if_pos hc];exact FE k
  ·rename_i hc;simp only[if_neg hc];exact⟨0,k⟩
 ·exact⟨0,k⟩
 ·cases k
theorem CV{sg:Nat->Sig}:∀{l:List RI}{c x:CSt},fJ (call T) sg l c=some x->∃n,fJ (eN T n) sg l c=some x:=by
 intro l;induction l with
 |nil=>intro c x k;exact⟨0,by simpa[fJ]using k⟩
 |cons i r ih=>
  intro c x k;cases i with
  |op i dead=>
   simp only[fJ]at k ⊢;cases hs:dQ (call T) sg c i with
   |none=>rw[hs]at k;simp[nxC]at k
   |some c1=>rw[hs]at k;simp only[nxC]at k;obtain⟨n,hn⟩:=nS hs;obtain⟨m,hm⟩:=ih k;refine⟨max n m, ?_⟩;rw[jd (dS (Nat.le_max_left n m)) hn];simp only[nxC];exact mn (dS (xY n m)) hm
  |grp q b l dead=>
   simp only[fJ]at k ⊢;cases hs:oJ (call T) sg b l c (c.get q)with
   |none=>rw[hs]at k;simp[nxC]at k
   |some c1=>rw[hs]at k;simp only[nxC]at k;obtain⟨n,hn⟩:=Dc hs;obtain⟨m,hm⟩:=ih k;refine⟨max n m, ?_⟩;rw[rk (dS (Nat.le_max_left n m)) hn];simp only[nxC];exact mn (dS (xY n m)) hm
  |own i dead=>
   simp only[fJ]at k ⊢;cases hs:sr c i with
   |none=>rw[hs]at k;simp[nxC]at k
   |some c1=>rw[hs]at k;simp only[nxC]at k ⊢;exact ih k
  |tks i dead=>
   simp only[fJ]at k ⊢;cases hs:zS c i with
   |none=>rw[hs]at k;simp[nxC]at k
   |some c1=>rw[hs]at k;simp only[nxC]at k ⊢;exact ih k
  |dir d=>
   simp only[fJ]at k ⊢;cases hs:ql c d with
   |none=>rw[hs]at k;simp[nxC]at k
   |some c1=>rw[hs]at k;simp only[nxC]at k ⊢;exact ih k
theorem mA{sg:Nat->Sig}{b:List Nat}:∀{l ps:List FI}{c x:CSt},fc (call T) sg b l ps c=some x->∃n,fc (eN T n) sg b l ps c=some x:=by
 intro l;induction l with
 |nil=>intro ps c x k;exact⟨0,by simpa[fc]using k⟩
 |cons i r ih=>
  intro ps c x k;obtain⟨n,q,i⟩:=i;cases q with
  |true=>
   simp only[fc]at k ⊢;cases hq:qv c i with
   |none=>rw[hq]at k;simp[vL]at k
   |some v=>rw[hq]at k;simp only[vL]at k ⊢;exact ih k
  |false=>
   simp only[fc]at k ⊢;cases hs:dQ (call T) sg c i with
   |none=>rw[hs]at k;simp[qh]at k
   |some c1=>
    rw[hs]at k;simp only[qh]at k;cases hg:gdP (sK (b.getD n 0) c1 ps) c1 with
    |none=>rw[hg]at k;simp[qj]at k
    |some c2=>rw[hg]at k;simp only[qj]at k;obtain⟨m1,hm1⟩:=nS hs;obtain⟨m2,hm2⟩:=ih k;refine⟨max m1 m2, ?_⟩;rw[jd (dS (Nat.le_max_left m1 m2)) hm1];simp only[qh];rw[hg];simp only[qj];exact iU (dS (xY m1 m2)) hm2
theorem rH{sg:Nat->Sig}{b:List Nat}{l:List FI}:∀{ps:List (List Nat)}{c x:CSt},iV (call T) sg b l ps c=some x->∃n,iV (eN T n) sg b l ps c=some x
 |[],c,x,k=>by simp[iV]at k
 |[p],c,x,k=>mA k
 |p::q::r,c,x,k=>by
  simp only[iV]at k ⊢;cases h1:fc (call T) sg b (iC l p) [] c with
  |none=>rw[h1]at k;simp[nq]at k
  |some y=>
   cases h2:iV (call T) sg b l (q::r) c with
   |none=>rw[h1,h2]at k;simp[nq]at k
   |some z=>rw[h1,h2]at k;obtain⟨n,hn⟩:=mA h1;obtain⟨m,hm⟩:=rH h2;exact⟨max n m,by rw[iU (dS (Nat.le_max_left n m)) hn,mG (dS (xY n m)) hm];exact k⟩
theorem two{r s:RC}{c d:CSt}{x y:Ex×CSt}(h:run T r c=some x)(k:run T s d=some y):∃n,fI T n r c=some x/\fI T n s d=some y:=by obtain⟨n,hn⟩:=gH h;obtain⟨m,hm⟩:=gH k;exact⟨max n m,ke (Nat.le_max_left n m) _ _ _ hn,ke (xY n m) _ _ _ hm⟩
theorem wB{r:RC}{c:CSt}{x:Ex×CSt}(k:dP (run T) (call T) T.sg r c=some x):∃n,dP (fI T n) (eN T n) T.sg r c=some x:=by
 cases r with
 |skip=>exact⟨0,k⟩
 |ret=>exact⟨0,k⟩
 |exit id=>exact⟨0,k⟩
 |ops l=>
  simp only[dP]at k ⊢;cases hs:fJ (call T) T.sg l c with
  |none=>rw[hs]at k;cases k
  |some c1=>obtain⟨n,hn⟩:=CV hs;exact⟨n,by rw[hn];rw[hs]at k;exact k⟩
 |flt b ds l dead=>
  simp only[dP]at k ⊢;cases hs:fc (call T) T.sg b l [] c with
  |none=>rw[hs]at k;simp[nrm]at k
  |some c1=>obtain⟨n,hn⟩:=mA hs;exact⟨n,by rw[hn];rw[hs]at k;exact k⟩
 |fla b ds l ps dead=>
  simp only[dP]at k ⊢;cases hs:iV (call T) T.sg b l ps c with
  |none=>rw[hs]at k;simp[nrm]at k
  |some c1=>obtain⟨n,hn⟩:=rH hs;exact⟨n,by rw[hn];rw[hs]at k;exact k⟩
 |seq a b=>
  simp only[dP]at k ⊢;cases hs:run T a c with
  |none=>rw[hs]at k;cases k
  |some p=>
   rw[hs]at k;obtain⟨e,c1⟩:=p;cases e with
   |n=>obtain⟨n,h1,h2⟩:=two hs k;exact⟨n,by rw[h1];exact h2⟩
   |x id=>obtain⟨n,hn⟩:=gH hs;exact⟨n,by rw[hn];exact k⟩
   |r=>obtain⟨n,hn⟩:=gH hs;exact⟨n,by rw[hn];exact k⟩
 |cond a y z=>
  simp only[dP]at k ⊢;unfold cnd at k ⊢;split at k
  ·split at k
   ·rename_i hc;simp only[if_pos hc];exact gH k
   ·rename_i hc;simp only[if_neg hc];exact gH k
  ·cases k
 |block id b=>
  simp only[dP]at k ⊢;cases hs:run T b c with
  |none=>rw[hs]at k;cases k
  |some p=>obtain⟨n,hn⟩:=gH hs;exact⟨n,by rw[hn];rw[hs]at k;exact k⟩
 |loop b=>
  simp only[dP]at k ⊢;cases hs:run T b c with
  |none=>rw[hs]at k;cases k
  |some p=>
   rw[hs]at k;obtain⟨e,c1⟩:=p;cases e with
   |n=>obtain⟨n,h1,h2⟩:=two hs k;exact⟨n,by rw[h1];exact h2⟩
   |x id=>obtain⟨n,hn⟩:=gH hs;exact⟨n,by rw[hn];exact k⟩
   |r=>obtain⟨n,hn⟩:=gH hs;exact⟨n,by rw[hn];exact k⟩
 |pre ds a=>
  simp only[dP]at k ⊢;cases hs:ix c ds with
  |none=>rw[hs]at k;cases k
  |some c1=>rw[hs]at k;exact gH k
 |bad=>cases k
 |post a ds=>
  simp only[dP]at k ⊢;cases hs:run T a c with
  |none=>rw[hs]at k;cases k
  |some p=>obtain⟨n,hn⟩:=gH hs;exact⟨n,by rw[hn];rw[hs]at k;exact k⟩
theorem sx{α:Type}{a b:Option α}(h:∀x,a=some x->b=some x)(k:∀x,b=some x->a=some x):a=b:=by
 cases a with
 |none=>cases b with
  |none=>rfl
  |some x=>exact absurd (k x rfl) (by simp)
 |some x=>exact(h x rfl).symm
theorem gQ(r:RC)(c:CSt):run T r c=dP (run T) (call T) T.sg r c:=by
 refine sx (fun x h=> ?_) (fun x h=> ?_)
 ·obtain⟨n,hn⟩:=gH h
  cases n with
  |zero=>simp[fI]at hn
  |succ n=>rw[fI]at hn;exact kN (GY n) (RO n) hn
 ·obtain⟨n,hn⟩:=wB h
  exact GX (n:=n+1) (by rw[fI];exact hn)
theorem BS(g:Nat)(a:List SV)(os:List aC)(k:Nat):call T g a os k=lR (run T) (T.fn g) a os k:=by
 refine sx (fun x h=> ?_) (fun x h=> ?_)
 ·obtain⟨n,hn⟩:=ou h
  exact ia (GY n) hn
 ·cases hF:T.fn g with
  |none=>rw[hF]at h;cases h
  |some b=>
   cases b with
   |prim f=>exact oT (n:=0) (by unfold eN;rw[hF];rw[hF]at h;exact h)
   |code F=>
    rw[hF]at h;simp only[lR,Ed]at h;split at h
    ·rename_i hc
     cases hs:run T F.code (qF a os k)with
     |none=>rw[hs]at h;cases h
     |some p=>obtain⟨n,hn⟩:=gH hs;refine oT (n:=n) ?_;unfold eN;rw[hF];simp only[lR,Ed,if_pos hc];rw[hn];rw[hs]at h;exact h
    ·cases h
theorem Fg(c:CSt):run T .skip c=some (.n,c):=gQ _ _
theorem PD(c:CSt):run T .ret c=some (.r,c):=gQ _ _
theorem Fo(id:Nat)(c:CSt):run T (.exit id) c=some (.x id,c):=gQ _ _
theorem PF(l:List RI)(c:CSt):run T (.ops l) c=nrm [] (fJ (call T) T.sg l c):=gQ _ _
theorem PH(b ds:List Nat)(l:List FI)(ps:List (List Nat))(dead:List Nat)(c:CSt):run T (.fla b ds l ps dead) c=nrm dead (iV (call T) T.sg b l ps c):=gQ _ _
theorem PG(b ds:List Nat)(l:List FI)(dead:List Nat)(c:CSt):run T (.flt b ds l dead) c=nrm dead (fc (call T) T.sg b l [] c):=gQ _ _
theorem PC(a b:RC)(c:CSt):run T (.seq a b) c=sq (run T) b (run T a c):=gQ _ _
theorem Fp(k:Arg)(a b:RC)(c:CSt):run T (.cond k a b) c=cnd (run T) a b c (c.ev k):=gQ _ _
theorem CO(id:Nat)(b:RC)(c:CSt):run T (.block id b) c=blk id (run T b c):=gQ _ _
theorem ai(b:RC)(c:CSt):run T (.loop b) c=lp (run T) b (run T b c):=gQ _ _
theorem PE(ds:List Dir)(a:RC)(c:CSt):run T (.pre ds a) c=prD (run T) a (ix c ds):=gQ _ _
theorem Fj(a:RC)(ds:List Dir)(c:CSt):run T (.post a ds) c=psD ds (run T a c):=gQ _ _
theorem an{g:Nat}{F:FnC}(h:T.fn g=some (.code F))(a:List SV)(os:List aC)(k:Nat):call T g a os k=Eg F os.length (Ed (run T) F a os k):=by rw[BS,h];rfl
theorem eF{g:Nat}{f:List SV->List aC->Nat->Option dv}(h:T.fn g=some (.prim f))(a:List SV)(os:List aC)(k:Nat):call T g a os k=f a os k:=by rw[BS,h];rfl
end Go.Sy
namespace Go.Sy
variable [bf]
variable {call : de} {sg : Nat -> Sig} {c : CSt} {d : Option Nat} {k : Nat}
theorem xcY{α:Type}{p:Prop}[Decidable p]{v:α}(h:p):gd p v=some v:=if_pos h
def fC(c:CSt)(d:Option Nat):Option SV->Option CSt
 |some v=>some (c.put d v)
 |none=>none
theorem CR(v:SV):fC c d (some v)=some (c.put d v):=rfl
theorem CS:fC c d none=none:=rfl
theorem Fv(l:List (Nat×SV))(o:List (Nat×aC))(t:List Nat)(v:SV):CSt.put ⟨l,o,t⟩ (some k) v=⟨jg l k v,o,t⟩:=rfl
theorem Fw(v:SV):CSt.put c none v=c:=rfl
theorem xcX(l:List (Nat×SV))(o:List (Nat×aC))(t:List Nat)(n:Nat):CSt.get ⟨l,o,t⟩ n=eB l n:=rfl
theorem QI(l:List (Nat×SV))(o:List (Nat×aC))(t:List Nat)(n:Nat):CSt.look ⟨l,o,t⟩ n=iF o n:=rfl
theorem xl8(n:Nat):c.ev (.t n)=c.get n:=rfl
theorem xma(v:SV):c.ev (.c v)=v:=rfl
theorem xl9(g:Nat):c.ev (.f g)= .fn g [] []:=rfl
theorem pn:c.kill []=c:=rfl
theorem C3(l:List (Nat×SV))(o:List (Nat×aC))(t:List Nat)(n:Nat)(r:List Nat):CSt.kill ⟨l,o,t⟩ (n::r)=⟨vX l (n::r),o,t⟩:=rfl
def zN:Option SV->Option nG
 |some v=>some {val:=v}
 |none=>none
theorem Cm(v:SV):zN (some v)=some {val:=v}:=rfl
theorem Cn:zN none=none:=rfl
theorem pB{so:SOp}{o:Option SV}(h:ec c d so=zN o):mU c d (ec c d so)=fC c d o:=by rw[h];cases o<;>rfl
theorem O4(o:Option SV):(match o with|some v=>some {val:=v}|none=>none:Option nG)=zN o:=by cases o<;>rfl
def DR:SV->Option SV
 | .ptr o off=>some (.ptr o off)
 | .ap o sz i j=>some (.ap o sz i j)
 | .pp cs=>some (.pp cs)
 | .fn f a b=>some (.fn f a b)
 |_=>none
def Yn(ne:Bool):SV->SV->Option SV
 | .bool a,.bool b=>some (.bool (if ne then decide (a≠b)else decide (a=b)))
 |_,_=>none
def Yg(ne:Bool)(ts:List Nat):SV->SV->Option SV
 | .agg cs,.agg ds=>(gD ts cs ds).map fun b=> .bool (if ne then !b else b)
 |_,_=>none
def tE:SV->Option SV
 | .str l=>some (.str l)
 |_=>none
def DV(ne:Bool):SV->Option SV
 | .nili=>some (.bool (!ne))
 |_=>none
def Sv:SV->Option SV
 | .str l=>some (.byt l .no)
 |_=>none
def Yo(c:CSt):SV->Option SV
 | .str _=>none
 |v=>(eJ c v).map .str
def GR(l:List UInt8):Option Int->Option Int->Option SV
 |some a,some b=>gd (0<=a/\a<=b/\b<=l.length) (.str ((l.take b.toNat).drop a.toNat))
 |_,_=>none
def DH(c:CSt)(lo hi:Option Arg):SV->Option SV
 | .str l=>GR l (jZ c lo 0) (jZ c hi l.length)
 |_=>none
def DI(c:CSt)(len sz:Nat)(lo hi mx:Option Arg):SV->Option SV
 | .ptr o off=>if off=0 then nA c sz (.psl o sz 0 len (some len)) lo hi mx else none
 |_=>none
def ug(off:Nat):SV->Option SV
 | .ptr o k=>some (.ptr o (k+off))
 | .ap o sz i j=>some (.ap o sz i (j+off))
 | .pp cs=>some (.pp (cs.drop off))
 |_=>none
def X9(off n:Nat)(ag:Bool):SV->Option SV
 | .agg cs=>gd (off+n<=cs.length) (dC ag n (cs.drop off))
 |_=>none
def oH(sz:Nat):SV->Option Int->Option SV
 | .byt l _,some n=>gd (0<=n/\n<l.length/\sz=1) (.pp [.u8 (l.getD n.toNat 0)])
 | .lst sz' xs _,some n=>gd (0<=n/\n<xs.length/\sz=sz') (.pp (xs.getD n.toNat []))
 | .psl o sz' off k _,some n=>gd (0<=n/\n<k/\sz=sz') (.ap o sz (off+n.toNat) 0)
 |_,_=>none
def pq(len sz o off:Nat)(n:Int):Option aC->Option SV
 |some (.rc _)=>gd (0<=n/\n<len) (.ptr o (off+n.toNat*sz))
 |some _=>gd (off=0/\0<=n/\n<len) (.ap o sz n.toNat 0)
 |none=>none
def l8(c:CSt)(len sz:Nat):SV->Option Int->Option SV
 | .ptr o off,some n=>pq len sz o off n (c.look o)
 | .pp cs,some n=>gd (0<=n/\n<len/\cs.length=len*sz) (.pp (cs.drop (n.toNat*sz)))
 |_,_=>none
def DY(len sz:Nat)(ag:Bool):SV->Option Int->Option SV
 | .agg cs,some n=>gd (0<=n/\n<len/\cs.length=len*sz) (dC ag sz (cs.drop (n.toNat*sz)))
 |_,_=>none
def DX:SV->Option Int->Option SV
 | .str l,some n=>gd (0<=n/\n<l.length) (.u8 (l.getD n.toNat 0))
 |_,_=>none
def Yf(i:Nat):SV->Option SV
 | .tup vs=>gd (i<vs.length) (vs.getD i .undef)
 |_=>none
def lenC:Option Nat->Option SV
 |some n=>some (.int .i64 (n:Nat))
 |none=>none
def Yl:SV->Option SV
 | .psl _ _ _ _ (some m)=>some (.int .i64 m)
 | .byt l t=>if t= .clip then some (.int .i64 l.length)else none
 | .lst _ xs t=>if t= .clip then some (.int .i64 xs.length)else none
 |_=>none
def DS:SV->SV->Option SV
 | .int k a,.int k' b=>if k=k' then some (.int k (if b<a then b else a))else none
 |_,_=>none
def DT:SV->SV->Option SV
 | .int k a,.int k' b=>if k=k' then some (.int k (if a<b then b else a))else none
 |_,_=>none
def uj:Option (List SV)->Option SV
 |some l=>some (.agg l)
 |none=>none
def X3(sz:Nat):Option (List (List SV))->Option SV
 |some r=>some (.lst sz r .clip)
 |none=>none
def DU:Option (List UInt8)->Option SV
 |some r=>some (.byt r .clip)
 |none=>none
theorem xd8(x:Arg):cL c (.mov x)=some (c.ev x):=rfl
theorem zP(z:List SV)(ps:List (Nat×Nat×Arg)):cL c (.build z ps)=uj (iH z (psC c ps)):=by simp only[cL];cases iH z (psC c ps)<;>rfl
theorem Sk(sz:Nat)(xs:List Arg):cL c (.lit sz xs)=X3 sz (rows sz (evL c xs)):=by simp only[cL];cases rows sz (evL c xs)<;>rfl
theorem GL(xs:List Arg):cL c (.litB xs)=DU (toB (evL c xs)):=by simp only[cL];cases toB (evL c xs)<;>rfl
theorem xat(n:Nat)(ag:Bool)(a:Arg):cL c (.load n ag a)=lM c n ag (c.ev a):=rfl
theorem xap(x:Arg):cL c (.nchk x)=DR (c.ev x):=rfl
theorem xed(op:BinOp)(x y:Arg):cL c (.bin op x y)=Ei op (c.ev x) (c.ev y):=rfl
theorem xee(ne:Bool)(x y:Arg):cL c (.beq ne x y)=Yn ne (c.ev x) (c.ev y):=rfl
theorem xeb(ne:Bool)(ts:List Nat)(x y:Arg):cL c (.eqS ne ts x y)=Yg ne ts (c.ev x) (c.ev y):=rfl
theorem xkg(op:UnOp)(x:Arg):cL c (.un op x)=wk op (c.ev x):=rfl
theorem O7(q:IntKind)(x:Arg):cL c (.toInt q x)=gT q (c.ev x):=rfl
theorem O6(x:Arg):cL c (.toStr x)=tE (c.ev x):=rfl
theorem xav(ne:Bool)(x:Arg):cL c (.isni ne x)=DV ne (c.ev x):=rfl
theorem xd7(x:Arg):cL c (.s2b x)=Sv (c.ev x):=rfl
theorem xef(x:Arg):cL c (.b2s x)=Yo c (c.ev x):=rfl
theorem xaq(f:Nat)(a b:List Arg):cL c (.mkfn f a b)=some (.fn f (evL c a) (evL c b)):=rfl
theorem GK(x:Arg)(lo hi:Option Arg):cL c (.slcS x lo hi)=DH c lo hi (c.ev x):=by simp only[cL];cases c.ev x<;>rfl
theorem xan(sz:Nat)(x:Arg)(lo hi mx:Option Arg):cL c (.slcL sz x lo hi mx)=nA c sz (c.ev x) lo hi mx:=rfl
theorem xao(len sz:Nat)(x:Arg)(lo hi mx:Option Arg):cL c (.slcA len sz x lo hi mx)=DI c len sz lo hi mx (c.ev x):=rfl
theorem O8(off:Nat)(x:Arg):cL c (.faddr off x)=ug off (c.ev x):=rfl
theorem xd9(off n:Nat)(ag:Bool)(x:Arg):cL c (.fld off n ag x)=X9 off n ag (c.ev x):=rfl
theorem EO(sz:Nat)(x i:Arg):cL c (.iaddrL sz x i)=oH sz (c.ev x) (c.ev i).num:=rfl
theorem uF(len sz:Nat)(x i:Arg):cL c (.iaddrA len sz x i)=l8 c len sz (c.ev x) (c.ev i).num:=by simp only[cL];unfold l8 pq;rfl
theorem xax(len sz:Nat)(ag:Bool)(x i:Arg):cL c (.idxA len sz ag x i)=DY len sz ag (c.ev x) (c.ev i).num:=rfl
theorem xaw(x i:Arg):cL c (.idxS x i)=DX (c.ev x) (c.ev i).num:=rfl
theorem xea(x:Arg)(i:Nat):cL c (.ext x i)=Yf i (c.ev x):=rfl
theorem Sl(b:Bool)(x:Arg):cL c (.len b x)=lenC (jE b (c.ev x)):=by simp only[cL];cases jE b (c.ev x)<;>rfl
theorem xau(n:Nat):cL c (.lenC n)=some (.int .i64 n):=rfl
theorem xec(x:Arg):cL c (.cap x)=Yl (c.ev x):=rfl
theorem xar(x y:Arg):cL c (.mini x y)=DS (c.ev x) (c.ev y):=rfl
theorem xas(x y:Arg):cL c (.maxi x y)=DT (c.ev x) (c.ev y):=rfl
def SOp.pure:SOp->Bool
 | .new _| .box _| .mk _ _ _ _| .mkB _ _| .store _ _ _| .app _ _ _ _| .cpy _ _ _| .pick _ _ _| .call _ _| .isnil _ _| .newB _| .slid _| .appO _ _ _ _| .clr _ _=>false
 |_=>true
theorem rz{so:SOp}(h:so.pure=true):ec c d so=zN (cL c so):=by
 cases so<;>first|cases h;done|rfl|exact O4 _
theorem bY{so:SOp}(h:so.pure=true):opC call sg c d so=fC c d (cL c so):=by
 have h1:opC call sg c d so=mU c d (ec c d so):=by cases so<;>first|rfl|cases h
 rw[h1];exact pB (rz h)
theorem xfG(x:Arg):opC call sg c d (.mov x)=fC c d (some (c.ev x)):=bY rfl
theorem QA(z:List SV)(ps:List (Nat×Nat×Arg)):opC call sg c d (.build z ps)=fC c d (uj (iH z (psC c ps))):=(bY rfl).trans (by rw[zP])
theorem xfI(sz:Nat)(xs:List Arg):opC call sg c d (.lit sz xs)=fC c d (X3 sz (rows sz (evL c xs))):=(bY rfl).trans (by rw[Sk])
theorem xcD(xs:List Arg):opC call sg c d (.litB xs)=fC c d (DU (toB (evL c xs))):=(bY rfl).trans (by rw[GL])
theorem xcC(n:Nat)(ag:Bool)(a:Arg):opC call sg c d (.load n ag a)=fC c d (lM c n ag (c.ev a)):=bY rfl
theorem xcy(x:Arg):opC call sg c d (.nchk x)=fC c d (DR (c.ev x)):=bY rfl
theorem xfR(op:BinOp)(x y:Arg):opC call sg c d (.bin op x y)=fC c d (Ei op (c.ev x) (c.ev y)):=bY rfl
theorem xfS(ne:Bool)(x y:Arg):opC call sg c d (.beq ne x y)=fC c d (Yn ne (c.ev x) (c.ev y)):=bY rfl
theorem xfM(ne:Bool)(ts:List Nat)(x y:Arg):opC call sg c d (.eqS ne ts x y)=fC c d (Yg ne ts (c.ev x) (c.ev y)):=bY rfl
theorem xkH(op:UnOp)(x:Arg):opC call sg c d (.un op x)=fC c d (wk op (c.ev x)):=bY rfl
theorem Qw(q:IntKind)(x:Arg):opC call sg c d (.toInt q x)=fC c d (gT q (c.ev x)):=bY rfl
theorem Qv(x:Arg):opC call sg c d (.toStr x)=fC c d (tE (c.ev x)):=bY rfl
theorem xcx(xs:List Arg):opC call sg c d (.newB xs)=ni c d (toB (evL c xs)):=rfl
theorem xcs(x:Arg):opC call sg c d (.slid x)=qz c d (c.ev x):=rfl
theorem xl(k:Nat)(l:List UInt8):ni c (some k) (some l)=some (CSt.app c (some k) {val:= .psl (k+100) 1 0 l.length (some l.length),new:=some (.bar l)}):=rfl
theorem Cv(o off n:Nat)(cap:Option Nat):qz c d (.psl o 1 off n cap)=nV c d o off n cap (c.look o):=rfl
theorem Cw(o off n:Nat)(cap:Option Nat)(l:List UInt8):nV c d o off n cap (some (.bar l))=if off+n<=l.length/\cap=some n then some (((c.publish o []).1).put d (.byt ((l.drop off).take n) .clip))else none:=rfl
theorem xcF(ne:Bool)(x:Arg):opC call sg c d (.isni ne x)=fC c d (DV ne (c.ev x)):=bY rfl
theorem xfE(x:Arg):opC call sg c d (.s2b x)=fC c d (Sv (c.ev x)):=bY rfl
theorem xfT(x:Arg):opC call sg c d (.b2s x)=fC c d (Yo c (c.ev x)):=bY rfl
theorem xcz(f:Nat)(a b:List Arg):opC call sg c d (.mkfn f a b)=fC c d (some (.fn f (evL c a) (evL c b))):=bY rfl
theorem xct(x:Arg)(lo hi:Option Arg):opC call sg c d (.slcS x lo hi)=fC c d (DH c lo hi (c.ev x)):=(bY rfl).trans (by rw[GK])
theorem xcu(sz:Nat)(x:Arg)(lo hi mx:Option Arg):opC call sg c d (.slcL sz x lo hi mx)=fC c d (nA c sz (c.ev x) lo hi mx):=bY rfl
theorem xcv(len sz:Nat)(x:Arg)(lo hi mx:Option Arg):opC call sg c d (.slcA len sz x lo hi mx)=fC c d (DI c len sz lo hi mx (c.ev x)):=bY rfl
theorem Qz(off:Nat)(x:Arg):opC call sg c d (.faddr off x)=fC c d (ug off (c.ev x)):=bY rfl
theorem xfK(off n:Nat)(ag:Bool)(x:Arg):opC call sg c d (.fld off n ag x)=fC c d (X9 off n ag (c.ev x)):=bY rfl
theorem FK(sz:Nat)(x i:Arg):opC call sg c d (.iaddrL sz x i)=fC c d (oH sz (c.ev x) (c.ev i).num):=bY rfl
theorem FL(len sz:Nat)(x i:Arg):opC call sg c d (.iaddrA len sz x i)=fC c d (l8 c len sz (c.ev x) (c.ev i).num):=(bY rfl).trans (by rw[uF])
theorem xcH(len sz:Nat)(ag:Bool)(x i:Arg):opC call sg c d (.idxA len sz ag x i)=fC c d (DY len sz ag (c.ev x) (c.ev i).num):=bY rfl
theorem xcG(x i:Arg):opC call sg c d (.idxS x i)=fC c d (DX (c.ev x) (c.ev i).num):=bY rfl
theorem xfL(x:Arg)(i:Nat):opC call sg c d (.ext x i)=fC c d (Yf i (c.ev x)):=bY rfl
theorem xfJ(b:Bool)(x:Arg):opC call sg c d (.len b x)=fC c d (lenC (jE b (c.ev x))):=(bY rfl).trans (by rw[Sl])
theorem xcE(n:Nat):opC call sg c d (.lenC n)=fC c d (some (.int .i64 n)):=bY rfl
theorem xfP(x:Arg):opC call sg c d (.cap x)=fC c d (Yl (c.ev x)):=bY rfl
theorem xcA(x y:Arg):opC call sg c d (.mini x y)=fC c d (DS (c.ev x) (c.ev y)):=bY rfl
theorem xcB(x y:Arg):opC call sg c d (.maxi x y)=fC c d (DT (c.ev x) (c.ev y)):=bY rfl
def DQ(a b:SV):SV->Option SV
 | .bool t=>some (io t a b)
 |_=>none
theorem xdh(q a b:Arg):ec c d (.pick q a b)=zN (DQ (c.ev a) (c.ev b) (c.ev q)):=by simp only[ec];cases c.ev q<;>rfl
theorem xcw(q a b:Arg):opC call sg c d (.pick q a b)=fC c d (DQ (c.ev a) (c.ev b) (c.ev q)):=pB (xdh q a b)
def tZ(ne:Bool):SV->Option SV
 | .byt l _=>gd (l≠ []) (.bool ne)
 | .lst _ xs _=>gd (xs≠ []) (.bool ne)
 | .psl _ _ _ _ _=>some (.bool ne)
 |_=>none
theorem RF(ne:Bool)(x:Arg):ec c d (.isnil ne x)=zN (tZ ne (c.ev x)):=by simp only[ec];cases c.ev x<;>first|rfl|(simp only[tZ];unfold gd;split<;>rfl)
theorem Qy(ne:Bool)(x:Arg):opC call sg c d (.isnil ne x)=fC c d (tZ ne (c.ev x)):=pB (RF ne x)
def BW(c:CSt)(k:Nat)(o:aC)(v:SV):CSt:=CSt.app c (some k) {val:=v,new:=some o}
theorem R6(l:List (Nat×SV))(ob:List (Nat×aC))(t:List Nat)(o:aC)(v:SV):
 BW ⟨l,ob,t⟩ k o v=⟨jg (dp (k+100) (k+101) l) k v,iK (bF (k+100) (k+101) ob) (k+100) (o.purge (k+100) (k+101)),cz (k+100) (k+101) t⟩:=rfl
def iO(c:CSt)(k:Nat)(v:SV):Option aC->Option CSt
 |some o=>some (BW c k o v)
 |none=>none
theorem DB(v:SV)(o:aC):iO c k v (some o)=some (BW c k o v):=rfl
theorem xfF(o:aC):opC call sg c (some k) (.new o)=iO c k (.ptr (k+100) 0) (gd (o.wf=true) o):=by show mU c (some k) (gd _ _)=_;unfold gd;split<;>rfl
theorem xfQ(x:Arg):opC call sg c (some k) (.box x)=some (BW c k (.rc (c.ev x).cells) (.ptr (k+100) 0)):=rfl
def mkE(bytes:Nat):SV->SV->Option (Nat×Nat)
 | .int _ n,.int _ m=>gd (0<=n/\n<=m/\bytes*m<=140737488355328/\m<=9223372036854775807) (n.toNat,m.toNat)
 |_,_=>none
def mkS(c:CSt)(k:Nat)(z:List SV):Option (Nat×Nat)->Option CSt
 |some p=>some (BW c k (.arr z.length (aH p.2 z)) (.psl (k+100) z.length 0 p.1 (some p.2)))
 |none=>none
theorem xkI(z:List SV)(bytes:Nat)(n m:Arg):opC call sg c (some k) (.mk z bytes n m)=mkS c k z (mkE bytes (c.ev n) (c.ev m)):=by show mU c (some k) (ec c (some k) (.mk z bytes n m))=_;simp only[ec];cases h1:c.ev n<;>cases h2:c.ev m<;>first|rfl|(simp only[mkE];unfold gd;split<;>rfl)
def xdy:SV->SV->Option (Nat×Nat)
 | .int _ n,.int _ m=>gd (0<=n/\n<=m/\m<=140737488355328) (n.toNat,m.toNat)
 |_,_=>none
def xjw(c:CSt)(k:Nat):Option (Nat×Nat)->Option CSt
 |some p=>some (BW c k (.bar (aH p.2 0)) (.psl (k+100) 1 0 p.1 (some p.2)))
 |none=>none
theorem xfH(n m:Arg):opC call sg c (some k) (.mkB n m)=xjw c k (xdy (c.ev n) (c.ev m)):=by show mU c (some k) (ec c (some k) (.mkB n m))=_;simp only[ec];cases h1:c.ev n<;>cases h2:c.ev m<;>first|rfl|(simp only[xdy];unfold gd;split<;>rfl)
def stC(c:CSt)(n:Nat)(v:List SV):SV->Option (Nat×aC)
 | .ptr o off=>match c.look o with
  |some (.rc cs)=>gd (off+n<=cs.length/\v.length=n/\v.all SV.one=true) (o,.rc (setCells cs off v))
  |some (.arr sz xs)=>gd (off=0/\n=xs.length*sz/\v.length=n/\v.all SV.isData=true) (o,.arr sz (jq sz xs.length (v.map SV.data)))
  |some (.bar l)=>match toB v with
   |some l'=>gd (off=0/\n=l.length/\l'.length=n) (o,.bar l')
   |none=>none
  |_=>none
 | .ap o sz i j=>match c.look o with
  |some (.arr sz' xs)=>gd (sz=sz'/\i<xs.length/\j+n<=sz/\v.length=n/\v.all SV.isData=true) (o,.arr sz' (iX sz xs i j n (v.map SV.data)))
  |some (.bar l)=>match v with
   |[.u8 b]=>gd (sz=1/\j=0/\n=1/\i<l.length) (o,.bar (l.set i b))
   |_=>none
  |_=>none
 |_=>none
def stS(c:CSt):Option (Nat×aC)->Option CSt
 |some p=>some ⟨c.tm,iK c.ob p.1 p.2,c.tk⟩
 |none=>none
theorem EV(l:List (Nat×SV))(ob:List (Nat×aC))(t:List Nat)(p:Nat×aC):stS ⟨l,ob,t⟩ (some p)=some ⟨l,iK ob p.1 p.2,t⟩:=rfl
theorem Cs(n:Nat)(v:List SV)(a:SV):kr c n v a=(stC c n v a).map fun p=> {val:= .undef,wr:=[p]}:=by
 cases a with
 |ptr o off=>
  simp only[kr,stC];cases c.look o with
  |none=>rfl
  |some ob=>
   cases ob with
   |rc cs=>simp only;unfold gd;split<;>rfl
   |arr sz' xs=>simp only;unfold gd;split<;>rfl
   |bar l=>simp only;cases toB v<;>first|rfl|(simp only;unfold gd;split<;>rfl)
 |ap o sz i j=>
  simp only[kr,stC];cases c.look o with
  |none=>rfl
  |some ob=>
   cases ob with
   |rc cs=>rfl
   |arr sz' xs=>simp only;unfold gd;split<;>rfl
   |bar l=>
    rcases v with _|⟨u,_|⟨u2,r⟩⟩
    ·rfl
    ·cases u<;>first|rfl|(simp only;unfold gd;split<;>rfl)
    ·cases u<;>rfl
 |_=>rfl
theorem Qx(n:Nat)(a x:Arg):opC call sg c none (.store n a x)=if(c.ev x).isDef=true then stS c (stC c n (c.ev x).cells (c.ev a))else none:=by
 show mU c none (ec c none (.store n a x))=_;simp only[ec];split
 ·rw[Cs];cases stC c n (c.ev x).cells (c.ev a)<;>rfl
 ·rfl
def apB(c:CSt)(k:Nat)(l:List UInt8)(t:Tok)(z:List SV)(bytes:Nat):Option (List UInt8)->Option CSt
 |some l'=>if z.length=1/\bytes=1/\t.readyC c=true/\l.length+l'.length<=140737488355328 then some (CSt.app c (some k) {val:= .byt (l++l') (.id (k+100)),eat:=t,tok:=true})else none
 |none=>none
def apL(c:CSt)(k:Nat)(sz':Nat)(l:List (List SV))(t:Tok)(z:List SV)(bytes:Nat):Option (List (List SV))->Option CSt
 |some l'=>if z.length=sz'/\t.readyC c=true/\(l.length+l'.length)*bytes<=140737488355328 then some (CSt.app c (some k) {val:= .lst z.length (l++l') (.id (k+100)),eat:=t,tok:=true})else none
 |none=>none
theorem R3(l:List (Nat×SV))(ob:List (Nat×aC))(t:List Nat)(v:SV)(e:Tok):
 CSt.app ⟨l,ob,t⟩ (some k) {val:=v,eat:=e,tok:=true}=⟨jg (dp (k+100) (k+101) l) k v,bF (k+100) (k+101) ob,lX (cz (k+100) (k+101) (e.eat t)) (k+100)⟩:=rfl
def apS(c:CSt)(k:Nat)(z:List SV)(bytes:Nat)(y:SV):SV->Option CSt
 | .byt l t=>apB c k l t z bytes (eJ c y)
 | .lst sz' l t=>apL c k sz' l t z bytes (fM c z.length y)
 |_=>none
theorem xfU(z:List SV)(bytes:Nat)(x y:Arg):opC call sg c (some k) (.app z bytes x y)=apS c k z bytes (c.ev y) (c.ev x):=by
 show mU c (some k) (ec c (some k) (.app z bytes x y))=_;simp only[ec];cases c.ev x<;>try rfl
 ·simp only[apS]
  cases eJ c (c.ev y)with
  |none=>rfl
  |some l'=>simp only[cY,apB];unfold gd;split<;>rfl
 ·simp only[apS]
  cases fM c z.length (c.ev y)with
  |none=>rfl
  |some l'=>simp only[cY,apL];unfold gd;split<;>rfl
def cpB(o off n:Nat)(sz sz':Nat)(l:List UInt8):Option (List UInt8)->Option (SV×Nat×aC)
 |some l'=>gd (sz=1/\sz'=1/\off+n<=l.length) (.int .i64 (min l'.length n:Nat),o,.bar (l.take off++l'.take n++l.drop (off+(l'.take n).length)))
 |none=>none
def cpL(b:Bool)(o off n:Nat)(sz sz' sz'':Nat)(xs:List (List SV)):Option (List (List SV))->Option (SV×Nat×aC)
 |some l'=>gd (b=true/\sz=sz'/\sz=sz''/\off+n<=xs.length) (.int .i64 (min l'.length n:Nat),o,.arr sz (xs.take off++l'.take n++xs.drop (off+(l'.take n).length)))
 |none=>none
def cp2(b:Bool)(c:CSt)(sz o sz' off n:Nat)(y:SV):Option aC->Option (SV×Nat×aC)
 |some (.bar l)=>cpB o off n sz sz' l (eJ c y)
 |some (.arr sz'' xs)=>cpL b o off n sz sz' sz'' xs (fM c sz y)
 |_=>none
def cpC(b:Bool)(c:CSt)(sz:Nat)(y:SV):SV->Option (SV×Nat×aC)
 | .psl o sz' off n _=>cp2 b c sz o sz' off n y (c.look o)
 |_=>none
def cpS(c:CSt)(d:Option Nat):Option (SV×Nat×aC)->Option CSt
 |some p=>some (CSt.put ⟨c.tm,iK c.ob p.2.1 p.2.2,c.tk⟩ d p.1)
 |none=>none
theorem xcJ(z:List SV)(b:Nat)(x y:Arg):opC call sg c d (.appO z b x y)=qW c d z b y (c.ev x):=rfl
def clA(o off n:Nat)(z:List SV)(sz' sz'':Nat)(xs:List (List SV)):Option (SV×Nat×aC):=gd (0<n/\z.length=sz'/\z.length=sz''/\off+n<=xs.length) (.tup [],o,.arr z.length (xs.take off++aH n z++xs.drop (off+n)))
def cl2(z:List SV)(o sz' off n:Nat):Option aC->Option (SV×Nat×aC)
 |some (.arr sz'' xs)=>clA o off n z sz' sz'' xs
 |_=>none
def clC(c:CSt)(z:List SV):SV->Option (SV×Nat×aC)
 | .psl o sz' off n _=>cl2 z o sz' off n (c.look o)
 |_=>none
theorem xfO(z:List SV)(x:Arg):opC call sg c d (.clr z x)=cpS c d (clC c z (c.ev x)):=by
 show mU c d (ec c d (.clr z x))=_;simp only[ec];cases c.ev x<;>try rfl
 rename_i o sz' off n cap;simp only[clC];cases c.look o with
 |none=>rfl
 |some ob=>
  cases ob with
  |rc cs=>rfl
  |bar l=>rfl
  |arr sz'' xs=>simp only[cl2,clA];unfold gd;split<;>rfl
theorem xfN(sz:Nat)(x y:Arg):opC call sg c d (.cpy sz x y)=cpS c d (cpC y.isT c sz (c.ev y) (c.ev x)):=by
 show mU c d (ec c d (.cpy sz x y))=_;simp only[ec];cases c.ev x<;>try rfl
 rename_i o sz' off n cap;simp only[cpC];cases c.look o with
 |none=>rfl
 |some ob=>
  cases ob with
  |rc cs=>rfl
  |bar l=>
   simp only[cp2];cases eJ c (c.ev y)with
   |none=>rfl
   |some l'=>simp only[cY,cpB];unfold gd;split<;>rfl
  |arr sz'' xs=>
   simp only[cp2];cases fM c sz (c.ev y)with
   |none=>rfl
   |some l'=>simp only[cY,cpL];unfold gd;split<;>rfl
def Ok(call:de)(sg:Nat->Sig)(c:CSt)(d:Option Nat)(as:List SV):SV->Option CSt
 | .fn g a b=>hZ call (sg g) c d g (a++as++b)
 |_=>none
theorem xcI(f:Arg)(as:List Arg):opC call sg c d (.call f as)=Ok call sg c d (evL c as) (c.ev f):=by simp only[opC];unfold Ok;rfl
theorem xaK(o:SOp):dQ call sg c ⟨d,none,o⟩=opC call sg c d o:=rfl
theorem xbp(g:Option (Nat×Bool))(o:SOp)(r:List SI):plC call sg (⟨d,g,o⟩::r) c=nxP call sg r (opC call sg c d o):=by rw[plC]
theorem Bo:fJ call sg [] c=some c:=by rw[fJ]
theorem M1(i:SI)(dead:List Nat)(r:List RI):fJ call sg (.op i dead::r) c=nxC call sg dead r (dQ call sg c i):=by rw[fJ]
theorem Bp(g:Nat)(b:Bool)(l:List SI)(dead:List Nat)(r:List RI):fJ call sg (.grp g b l dead::r) c=nxC call sg dead r (oJ call sg b l c (c.get g)):=by rw[fJ]
theorem Bm(i:SI)(dead:List Nat)(r:List RI):fJ call sg (.tks i dead::r) c=nxC call sg dead r (zS c i):=by rw[fJ]
theorem Ph(d:Option Nat)(x:Arg):zS c ⟨d,none,.s2b x⟩=Pi c d (c.ev x):=rfl
theorem xaC(k:Nat)(l:List UInt8):Pi c (some k) (.str l)=some (CSt.app c (some k) {val:= .byt l (.id (k+100)),tok:=true}):=rfl
theorem Bn(i:SI)(dead:List Nat)(r:List RI):fJ call sg (.own i dead::r) c=nxC call sg dead r (sr c i):=by rw[fJ]
theorem P7(d:Option Nat)(x:Arg):sr c ⟨d,none,.s2b x⟩=Qo c d (c.ev x):=rfl
theorem P8(d:Option Nat)(sz:Nat)(xs:List Arg):sr c ⟨d,none,.lit sz xs⟩=Ql c sz d (rows sz (evL c xs)):=rfl
theorem FH(d:Option Nat)(xs:List Arg):sr c ⟨d,none,.litB xs⟩=ni c d (toB (evL c xs)):=rfl
theorem P9(d:Option Nat)(z:List SV)(b:Nat)(x y:Arg):sr c ⟨d,none,.app z b x y⟩=qW c d z b y (c.ev x):=rfl
theorem Bq(q:Dir)(r:List RI):fJ call sg (.dir q::r) c=nxC call sg [] r (ql c q):=by rw[fJ]
theorem kz(dead:List Nat)(r:List RI):nxC call sg dead r (some c)=fJ call sg r (c.kill dead):=by rw[nxC]
theorem kC(dead:List Nat)(r:List RI):nxC call sg dead r none=none:=by rw[nxC]
theorem MY:plC call sg [] c=some c:=by rw[plC]
theorem Bs(r:List SI):nxP call sg r (some c)=plC call sg r c:=by rw[nxP]
theorem Bt(r:List SI):nxP call sg r none=none:=by rw[nxP]
theorem xaz:unL c []=c:=rfl
theorem O9(g:Option (Nat×Bool))(o:SOp)(r:List SI):unL c (⟨d,g,o⟩::r)=unL (c.put d (.tup [])) r:=rfl
theorem xgb(b:Bool)(l:List SI):oJ call sg b l c (.tup [])=some (unL c l):=rfl
theorem xgc(b t:Bool)(l:List SI):oJ call sg b l c (.bool t)=if t=b then plC call sg l c else some (unL c l):=rfl
theorem xcK(dead:List Nat)(r:List RI)(p:Prop)[Decidable p](a b:Option CSt):nxC call sg dead r (if p then a else b)=if p then nxC call sg dead r a else nxC call sg dead r b:=by split<;>rfl
theorem xcU(p:Prop)[Decidable p](l l':List (Nat×SV))(o:List (Nat×aC))(t:List Nat):(if p then some (CSt.mk l o t)else some (CSt.mk l' o t))=some (CSt.mk (if p then l else l') o t):=by split<;>rfl
theorem xcT(p:Prop)[Decidable p](n:Nat)(v w:SV)(l l':List (Nat×SV)):(if p then(n,v)::l else(n,w)::l')=(n,if p then v else w)::(if p then l else l'):=by split<;>rfl
theorem QQ(p:Prop)[Decidable p]:(if p then([]:List (Nat×SV))else [])=[]:=by split<;>rfl
theorem FZ{α:Type}(p:Prop)[Decidable p](a:α):(if p then a else a)=a:=by split<;>rfl
theorem FY(p:Prop)[Decidable p](q:IntKind)(a b:Int):(if p then SV.int q a else SV.int q b)= .int q (if p then a else b):=by split<;>rfl
theorem C8(p:Prop)[Decidable p](a b:Bool):(if p then SV.bool a else SV.bool b)= .bool (if p then a else b):=by split<;>rfl
theorem QP(p:Prop)[Decidable p](a b:UInt8):(if p then SV.u8 a else SV.u8 b)= .u8 (if p then a else b):=by split<;>rfl
theorem Da(t a b:Bool):io t (.bool a) (.bool b)= .bool (if t=true then a else b):=by cases t<;>rfl
theorem F0(t:Bool)(q:IntKind)(a b:Int):io t (.int q a) (.int q b)= .int q (if t=true then a else b):=by cases t<;>rfl
theorem QR(t:Bool)(a b:UInt8):io t (.u8 a) (.u8 b)= .u8 (if t=true then a else b):=by cases t<;>rfl
theorem C9(a b:SV):io true a b=a:=rfl
theorem xu(a b:SV):io false a b=b:=rfl
variable {rn : RC -> CSt -> gG}
theorem FM(dead:List Nat):nrm dead (some c)=some (.n,c.kill dead):=rfl
theorem FN(dead:List Nat):nrm dead none=none:=rfl
theorem QB(dead:List Nat)(p:Prop)[Decidable p](a b:Option CSt):nrm dead (if p then a else b)=if p then nrm dead a else nrm dead b:=by split<;>rfl
theorem xkm(b:RC):sq rn b (some (.n,c))=rn b c:=rfl
theorem xkk(b:RC)(id:Nat):sq rn b (some (.x id,c))=some (.x id,c):=rfl
theorem xkl(b:RC):sq rn b (some (.r,c))=some (.r,c):=rfl
theorem Pm(b:RC):sq rn b none=none:=rfl
theorem xaE(b:RC)(p:Prop)[Decidable p](x y:gG):sq rn b (if p then x else y)=if p then sq rn b x else sq rn b y:=by split<;>rfl
theorem xgA(a b:RC)(t:Bool):cnd rn a b c (.bool t)=if t=true then rn a c else rn b c:=rfl
theorem xgF(id:Nat):blk id (some (.n,c))=some (.n,c):=rfl
theorem xgE(id:Nat):blk id (some (.r,c))=some (.r,c):=rfl
theorem xgD(id id':Nat):blk id (some (.x id',c))=if id'=id then some (.n,c)else some (.x id',c):=rfl
theorem GB(id:Nat):blk id none=none:=rfl
theorem RR(id:Nat)(p:Prop)[Decidable p](x y:gG):blk id (if p then x else y)=if p then blk id x else blk id y:=by split<;>rfl
theorem xkP(b:RC):lp rn b (some (.n,c))=rn (.loop b) c:=rfl
theorem xkN(b:RC)(id:Nat):lp rn b (some (.x id,c))=some (.x id,c):=rfl
theorem xkO(b:RC):lp rn b (some (.r,c))=some (.r,c):=rfl
theorem QH(b:RC):lp rn b none=none:=rfl
theorem xcR(b:RC)(p:Prop)[Decidable p](x y:gG):lp rn b (if p then x else y)=if p then lp rn b x else lp rn b y:=by split<;>rfl
theorem FC(a:RC):prD rn a (some c)=rn a c:=rfl
theorem xeK(ds:List Dir):psD ds (some (.n,c))=prD (fun _ c=>some (.n,c)) .skip (ix c ds):=by simp only[psD];cases ix c ds<;>rfl
theorem xeI(ds:List Dir)(id:Nat):psD ds (some (.x id,c))=some (.x id,c):=rfl
theorem xeJ(ds:List Dir):psD ds (some (.r,c))=some (.r,c):=rfl
theorem FB(ds:List Dir):psD ds none=none:=rfl
theorem P5(ds:List Dir)(p:Prop)[Decidable p](x y:gG):psD ds (if p then x else y)=if p then psD ds x else psD ds y:=by split<;>rfl
theorem Gn:ix c []=some c:=rfl
def xjM(ds:List Dir):Option CSt->Option CSt
 |some c=>ix c ds
 |none=>none
theorem Dr(q:Dir)(ds:List Dir):ix c (q::ds)=xjM ds (ql c q):=by simp only[ix];cases ql c q<;>rfl
theorem Ds(ds:List Dir):xjM ds (some c)=ix c ds:=rfl
theorem xgh(F:FnC)(n:Nat):Eg F n (some (.n,c))=Nm F.keep F.raw n c (qU c F.rs):=rfl
theorem xgg(F:FnC)(n:Nat):Eg F n (some (.r,c))=Nm F.keep F.raw n c (qU c F.rs):=rfl
theorem Ri(F:FnC)(n:Nat)(p:Prop)[Decidable p](x y:gG):Eg F n (if p then x else y)=if p then Eg F n x else Eg F n y:=by split<;>rfl
theorem Gw(sg:Sig)(g:Nat)(as:List SV):hZ call sg c d g as=jF call sg c d g as ((SV.idsL as).isEmpty&&sg.own.isEmpty):=rfl
theorem RP(sg:Sig)(g:Nat)(as:List SV):jF call sg c d g as true=lO c d (call g (SV.bareL as) [] 0):=rfl
theorem RQ(sg:Sig)(g:Nat)(as:List SV):jF call sg c d g as false=jB call sg d g (eP c as (iQ sg.raw 0 as)):=rfl
theorem Rk(q:dv):lO c d (some q)=nl c d q q.bare:=rfl
theorem Rm(q:dv):nl c d q true=some (c.put d q.r):=rfl
theorem Rn(q:dv):nl c d q false=xE c d q q.small:=rfl
theorem Rl(q:dv):xE c d q true=some (jG c d [] [] q):=rfl
theorem RW(r:SV)(os:List (Nat×aC))(tk:List Nat):(dv.mk r os tk).bare=(os.isEmpty&&tk.isEmpty&&r.ids.isEmpty&&r.toks.isEmpty):=rfl
theorem EX(r:SV)(os:List (Nat×aC))(tk:List Nat):(dv.mk r os tk).small=(os.all (fun p=>decide (p.1<1000)&&p.2.ids.all (fun k=>decide (k<1000))&&p.2.toks.all (fun k=>decide (k<1000)))&&r.ids.all (fun k=>decide (k<1000))&&r.toks.all (fun k=>decide (k<1000))&&tk.all (fun k=>decide (k<1000))):=rfl
theorem Pn(sg:Sig)(g:Nat)(as:List SV):jB call sg d g (c,as)=na call c d g (jI c.tk sg.own 50 0 as):=rfl
theorem Pv(g:Nat)(as:List SV)(mt1:List (Option Nat)):na call c d g (as,mt1)=kO call c d g as mt1 (dR c 60 [] (SV.idsL as)) (gu c (dR c 60 [] (SV.idsL as))):=rfl
theorem Pu(g:Nat)(as:List SV)(mt1:List (Option Nat))(m:List Nat)(os:List aC):kO call c d g as mt1 m (some os)=m9 call c d g as mt1 m (ek c.tk (50+mt1.length) os):=rfl
theorem Ps(g:Nat)(as:List SV)(mt1:List (Option Nat))(m:List Nat)(os:List aC)(mt2:List (Option Nat)):m9 call c d g as mt1 m (os,mt2)=
 m7 call c d g as mt1 m os mt2 (nQ (SV.idsL as++fG os) m&&dB m&&dB (cy (mt1++mt2))&&decide (m.length<=40)&&m.all fun o=> !inR (d.getD 0) o):=rfl
theorem Pq(g:Nat)(as:List SV)(mt1:List (Option Nat))(m:List Nat)(os:List aC)(mt2:List (Option Nat)):m7 call c d g as mt1 m os mt2 true=
 nU c d m (cy (mt1++mt2)) (call g (SV.renL (gB m) id as) (eu (gB m) id os) (mt1.length+mt2.length)):=rfl
theorem Pp(m mt:List Nat)(q:dv):nU c d m mt (some q)=wI c d m mt q q.small:=rfl
theorem Po(m mt:List Nat)(q:dv):wI c d m mt q true=some (jG c d m mt q):=rfl
theorem xc9(keep raw:List Nat)(vs:List SV):Nm keep raw k c (some vs)=Rj keep k (eP c vs (iQ raw 0 vs)):=rfl
theorem xc2(keep:List Nat)(vs:List SV):Rj keep k (c,vs)=Nl keep k c vs (decide (k=0)&&(SV.idsL vs).isEmpty&&keep.isEmpty):=rfl
theorem xc7(keep:List Nat)(vs:List SV):Nl keep k c vs true=some ⟨jh (SV.bareL vs),[],[]⟩:=rfl
theorem xc8(keep:List Nat)(vs:List SV):Nl keep k c vs false=Yd k c (jI c.tk keep 60 0 vs):=rfl
theorem xc6(vs:List SV)(mt1:List (Option Nat)):Yd k c (vs,mt1)=Yc k c vs mt1 (dR c 60 [] (jU k++SV.idsL vs)) (gu c (dR c 60 [] (jU k++SV.idsL vs))):=rfl
theorem xc5(vs:List SV)(mt1:List (Option Nat))(m:List Nat)(os:List aC):Yc k c vs mt1 m (some os)=Yb k vs mt1 m (ek c.tk (60+mt1.length) os):=rfl
theorem xc4(vs:List SV)(mt1:List (Option Nat))(m:List Nat)(os:List aC)(mt2:List (Option Nat)):Yb k vs mt1 m (os,mt2)=
 Ya k vs mt1 m os mt2 (nQ (SV.idsL vs++fG os) m&&dB m&&dB (cy (mt1++mt2))&&decide (m.take k=jU k)&&(m.drop k).all fun o=>decide (k<=o)):=rfl
theorem xc3(vs:List SV)(mt1:List (Option Nat))(m:List Nat)(os:List aC)(mt2:List (Option Nat)):Ya k vs mt1 m os mt2 true=
 some ⟨(jh vs).ren (gM k m) id,(fT 0 (eu (gM k m) id (os.take k)))++(fT (100+k) (eu (gM k m) id (os.drop k))),tks 60 (mt1.length+mt2.length)⟩:=rfl
theorem Qt(v:SV):jh [v]=v:=rfl
theorem Qs(v w:SV)(r:List SV):jh (v::w::r)= .tup (v::w::r):=rfl
theorem Qu:jh []= .tup []:=rfl
theorem E4(raw:List Nat)(i:Nat)(q:IntKind)(n:Int):lU raw i (.int q n)=[]:=rfl
theorem Cz(raw:List Nat)(i:Nat)(b:Bool):lU raw i (.bool b)=[]:=rfl
theorem Py(raw:List Nat)(i:Nat)(b:UInt8):lU raw i (.u8 b)=[]:=rfl
theorem E0(raw:List Nat)(i:Nat)(l:List UInt8):lU raw i (.str l)=[]:=rfl
theorem E5(raw:List Nat)(i:Nat)(l:List UInt8)(t:Tok):lU raw i (.byt l t)=[]:=rfl
theorem E3(raw:List Nat)(i sz:Nat)(l:List (List SV))(t:Tok):lU raw i (.lst sz l t)=[]:=rfl
theorem Cx(raw:List Nat)(i:Nat):lU raw i .nilp=[]:=rfl
theorem Cy(raw:List Nat)(i:Nat):lU raw i .nili=[]:=rfl
theorem wN(raw:List Nat)(i:Nat):lU raw i .undef=[]:=rfl
theorem Pz(raw:List Nat)(i:Nat)(l:List SV):lU raw i (.pp l)=[]:=rfl
theorem E1(raw:List Nat)(i o off:Nat):lU raw i (.ptr o off)=[]:=rfl
theorem PB(raw:List Nat)(i o sz a b:Nat):lU raw i (.ap o sz a b)=[]:=rfl
theorem E6(raw:List Nat)(i:Nat)(l:List SV):lU raw i (.agg l)=if raw.contains i=true then []else tG l:=rfl
theorem CI:tG []=[]:=rfl
theorem wS(v:SV)(r:List SV):tG (v::r)=gK v++tG r:=rfl
theorem CF(q:IntKind)(n:Int):gK (.int q n)=[]:=rfl
theorem wQ(b:Bool):gK (.bool b)=[]:=rfl
theorem E7(b:UInt8):gK (.u8 b)=[]:=rfl
theorem CB(l:List UInt8):gK (.str l)=[]:=rfl
theorem CG(l:List UInt8)(t:Tok):gK (.byt l t)=[]:=rfl
theorem CE(sz:Nat)(l:List (List SV))(t:Tok):gK (.lst sz l t)=[]:=rfl
theorem wO:gK .nilp=[]:=rfl
theorem wP:gK .nili=[]:=rfl
theorem uy:gK .undef=[]:=rfl
theorem E8(l:List SV):gK (.pp l)=[]:=rfl
theorem CC(o off:Nat):gK (.ptr o off)=[]:=rfl
theorem Fb(o sz a b:Nat):gK (.ap o sz a b)=[]:=rfl
theorem CH(l:List SV):gK (.agg l)=[]:=rfl
theorem CA(l:List SV):gK (.tup l)=[]:=rfl
theorem E9(f:Nat)(a b:List SV):gK (.fn f a b)=[]:=rfl
theorem CD(o sz off n:Nat)(m:Option Nat):gK (.psl o sz off n m)=[o]:=rfl
theorem EZ(raw:List Nat)(i:Nat)(l:List SV):lU raw i (.tup l)=[]:=rfl
theorem PA(raw:List Nat)(i f:Nat)(a b:List SV):lU raw i (.fn f a b)=[]:=rfl
theorem E2(raw:List Nat)(i o sz off n:Nat)(m:Option Nat):lU raw i (.psl o sz off n m)=if raw.contains i=true then []else [o]:=rfl
theorem QX(p:Prop)[Decidable p](a b v:SV):io (decide p) (if p then a else b) v=io (decide p) a v:=by by_cases h:p<;>simp[io,h]
theorem QW(p:Prop)[Decidable p](a b v:SV):io (decide p) v (if ¬p then a else b)=io (decide p) v a:=by by_cases h:p<;>simp[io,h]
theorem QT(t:Bool)(a b v:SV):io t (if t=true then a else b) v=io t a v:=by cases t<;>simp[io]
theorem QS(t:Bool)(a b v:SV):io t v (if t=false then a else b)=io t v a:=by cases t<;>simp[io]
theorem QV(t:Bool)(a b v:SV):io (!t) (if t=false then a else b) v=io (!t) a v:=by cases t<;>simp[io]
theorem QU(t:Bool)(a b v:SV):io (!t) v (if t=true then a else b)=io (!t) v a:=by cases t<;>simp[io]
theorem RT(p q:Prop)[Decidable p][Decidable q]:(if p then decide q else false)=decide (p/\q):=by by_cases h:p<;>simp[h]
theorem xdq(p q:Prop)[Decidable p][Decidable q]:(if p then true else decide q)=decide (p\/q):=by by_cases h:p<;>simp[h]
theorem RY(v:SV):c.app d {val:=v}=c.put d v:=rfl
theorem RZ(l:List (Nat×SV))(ob:List (Nat×aC))(t:List Nat)(o:aC)(v:SV):
 CSt.app ⟨l,ob,t⟩ (some k) {val:=v,new:=some o}=⟨jg (dp (k+100) (k+101) l) k v,iK (bF (k+100) (k+101) ob) (k+100) (o.purge (k+100) (k+101)),cz (k+100) (k+101) t⟩:=rfl
theorem xdt(l:List (Nat×SV))(ob:List (Nat×aC))(t:List Nat)(v:SV)(p:Nat×aC):CSt.app ⟨l,ob,t⟩ d {val:=v,wr:=[p]}=CSt.put ⟨l,iK ob p.1 p.2,t⟩ d v:=rfl
theorem Gq(l:List (Nat×SV))(ob:List (Nat×aC))(t:List Nat)(p:SV×Nat×aC):cpS ⟨l,ob,t⟩ d (some p)=some (CSt.put ⟨l,iK ob p.2.1 p.2.2,t⟩ d p.1):=rfl
theorem FQ(z:List SV)(p:Nat×Nat):mkS c k z (some p)=some (BW c k (.arr z.length (aH p.2 z)) (.psl (k+100) z.length 0 p.1 (some p.2))):=rfl
theorem C1(p:Nat×Nat):xjw c k (some p)=some (BW c k (.bar (aH p.2 0)) (.psl (k+100) 1 0 p.1 (some p.2))):=rfl
theorem xdX(x:Arg):df c (.mov x)=some (c.ev x):=by simp only[df];rw[xd8]
theorem OU(z:List SV)(ps:List (Nat×Nat×Arg)):df c (.build z ps)=uj (iH z (psC c ps)):=by simp only[df];rw[zP]
theorem xdY(sz:Nat)(xs:List Arg):df c (.lit sz xs)=X3 sz (rows sz (evL c xs)):=by simp only[df];rw[Sk]
theorem xag(xs:List Arg):df c (.litB xs)=DU (toB (evL c xs)):=by simp only[df];rw[GL]
theorem xaf(n:Nat)(ag:Bool)(a:Arg):df c (.load n ag a)=lM c n ag (c.ev a):=by simp only[df];rw[xat]
theorem xab(x:Arg):df c (.nchk x)=DR (c.ev x):=by simp only[df];rw[xap]
theorem xd4(op:BinOp)(x y:Arg):df c (.bin op x y)=Ei op (c.ev x) (c.ev y):=by simp only[df];rw[xed]
theorem xd5(ne:Bool)(x y:Arg):df c (.beq ne x y)=Yn ne (c.ev x) (c.ev y):=by simp only[df];rw[xee]
theorem xd2(ne:Bool)(ts:List Nat)(x y:Arg):df c (.eqS ne ts x y)=Yg ne ts (c.ev x) (c.ev y):=by simp only[df];rw[xeb]
theorem xkc(op:UnOp)(x:Arg):df c (.un op x)=wk op (c.ev x):=by simp only[df];rw[xkg]
theorem OS(q:IntKind)(x:Arg):df c (.toInt q x)=gT q (c.ev x):=by simp only[df];rw[O7]
theorem OR(x:Arg):df c (.toStr x)=tE (c.ev x):=by simp only[df];rw[O6]
theorem xai(ne:Bool)(x:Arg):df c (.isni ne x)=DV ne (c.ev x):=by simp only[df];rw[xav]
theorem xdW(x:Arg):df c (.s2b x)=Sv (c.ev x):=by simp only[df];rw[xd7]
theorem xd6(x:Arg):df c (.b2s x)=Yo c (c.ev x):=by simp only[df];rw[xef]
theorem xac(f:Nat)(a b:List Arg):df c (.mkfn f a b)=some (.fn f (evL c a) (evL c b)):=by simp only[df];rw[xaq]
theorem Z7(x:Arg)(lo hi:Option Arg):df c (.slcS x lo hi)=DH c lo hi (c.ev x):=by simp only[df];rw[GK]
theorem Z8(sz:Nat)(x:Arg)(lo hi mx:Option Arg):df c (.slcL sz x lo hi mx)=nA c sz (c.ev x) lo hi mx:=by simp only[df];rw[xan]
theorem Z9(len sz:Nat)(x:Arg)(lo hi mx:Option Arg):df c (.slcA len sz x lo hi mx)=DI c len sz lo hi mx (c.ev x):=by simp only[df];rw[xao]
theorem OT(off:Nat)(x:Arg):df c (.faddr off x)=ug off (c.ev x):=by simp only[df];rw[O8]
theorem xd0(off n:Nat)(ag:Bool)(x:Arg):df c (.fld off n ag x)=X9 off n ag (c.ev x):=by simp only[df];rw[xd9]
theorem EC(sz:Nat)(x i:Arg):df c (.iaddrL sz x i)=oH sz (c.ev x) (c.ev i).num:=by simp only[df];rw[EO]
theorem ED(len sz:Nat)(x i:Arg):df c (.iaddrA len sz x i)=l8 c len sz (c.ev x) (c.ev i).num:=by simp only[df];rw[uF]
theorem xak(len sz:Nat)(ag:Bool)(x i:Arg):df c (.idxA len sz ag x i)=DY len sz ag (c.ev x) (c.ev i).num:=by simp only[df];rw[xax]
theorem xaj(x i:Arg):df c (.idxS x i)=DX (c.ev x) (c.ev i).num:=by simp only[df];rw[xaw]
theorem xd1(x:Arg)(i:Nat):df c (.ext x i)=Yf i (c.ev x):=by simp only[df];rw[xea]
theorem xdZ(b:Bool)(x:Arg):df c (.len b x)=lenC (jE b (c.ev x)):=by simp only[df];rw[Sl]
theorem xah(n:Nat):df c (.lenC n)=some (.int .i64 n):=by simp only[df];rw[xau]
theorem xd3(x:Arg):df c (.cap x)=Yl (c.ev x):=by simp only[df];rw[xec]
theorem xad(x y:Arg):df c (.mini x y)=DS (c.ev x) (c.ev y):=by simp only[df];rw[xar]
theorem xae(x y:Arg):df c (.maxi x y)=DT (c.ev x) (c.ev y):=by simp only[df];rw[xas]
theorem xaa(q a b:Arg):df c (.pick q a b)=DQ (c.ev a) (c.ev b) (c.ev q):=by simp only[df];cases c.ev q<;>rfl
theorem xkA(o:SOp):qv c ⟨d,none,o⟩=df c o:=rfl
theorem xkz(g:Nat)(b:Bool)(o:SOp):qv c ⟨d,some (g,b),o⟩=qg c o b (c.get g):=rfl
theorem xkC(b t:Bool)(o:SOp):qg c o b (.bool t)=if t=b then df c o else some (.tup []):=rfl
theorem xkB(b:Bool)(o:SOp):qg c o b (.tup [])=some (.tup []):=rfl
def stG(call:de)(sg:Nat->Sig)(c:CSt)(d:Option Nat)(o:SOp)(b:Bool):SV->Option CSt
 | .bool t=>if t=b then opC call sg c d o else some (c.put d (.tup []))
 | .tup []=>some (c.put d (.tup []))
 |_=>none
theorem xaJ(g:Nat)(b:Bool)(o:SOp):dQ call sg c ⟨d,some (g,b),o⟩=stG call sg c d o b (c.get g):=by unfold dQ stG;rfl
theorem xek(b t:Bool)(o:SOp):stG call sg c d o b (.bool t)=if t=b then opC call sg c d o else some (c.put d (.tup [])):=rfl
theorem xej(b:Bool)(o:SOp):stG call sg c d o b (.tup [])=some (c.put d (.tup [])):=rfl
theorem xc0(b:List Nat)(ps:List FI):fc call sg b [] ps c=some c:=by rw[fc]
theorem xls(b:List Nat)(n:Nat)(i:SI)(r ps:List FI):fc call sg b (⟨n,true,i⟩::r) ps c=vL call sg b r (⟨n,true,i⟩::ps) c i.dst (qv c i):=by rw[fc]
theorem xlt(b:List Nat)(n:Nat)(i:SI)(r ps:List FI):fc call sg b (⟨n,false,i⟩::r) ps c=qh call sg b r ps (b.getD n 0) (dQ call sg c i):=by rw[fc]
theorem xlq(b:List Nat)(r ps:List FI)(v:SV):vL call sg b r ps c d (some v)=fc call sg b r ps (c.put d v):=by rw[vL]
theorem xlr(b:List Nat)(r ps:List FI)(m:Nat):qh call sg b r ps m (some c)=qj call sg b r ps (gdP (sK m c ps) c):=by rw[qh]
theorem xlv(b:List Nat)(r ps:List FI):qj call sg b r ps (some c)=fc call sg b r ps c:=by rw[qj]
theorem Rb{α:Type}{p:Prop}(v:α)(h:p):gdP p v=some v:=by unfold gdP;exact if_pos h
theorem xgJ(b:List Nat)(l:List FI)(p:List Nat):iV call sg b l [p] c=fc call sg b (iC l p) [] c:=by rw[iV]
theorem xgI(b:List Nat)(l:List FI)(p q:List Nat)(r:List (List Nat)):iV call sg b l (p::q::r) c=nq (fc call sg b (iC l p) [] c) (iV call sg b l (q::r) c):=by rw[iV]
theorem xmg(a a':CSt):nq (some a) (some a')=gdP (a=a') a:=rfl
theorem xc1(m:Nat):sK m c []=True:=rfl
theorem Rh(m:Nat)(p:FI)(r:List FI):sK m c (p::r)=((m/2^p.n % 2=1\/qv c p.i=some (c.get (p.i.dst.getD 0)))/\sK m c r):=rfl
end Go.Sy
namespace Go.Sy
variable [bf]
theorem rl{n:Nat}:∀{l:List (Nat×SV)},(∀p∈l,p.1≠n)->eB l n= .undef
 |[],_=>rfl
 |p::r,h=>by simp only[eB];rw[if_neg (h p (aE ..))];exact rl fun q hq=>h q (av _ hq)
theorem lN(n:Nat)(v:SV)(m:Nat):∀l:List (Nat×SV),eB (jg l n v) m=if m=n then v else eB l m
 |[]=>by simp only[jg,eB];by_cases h:n=m<;>simp[h,eq_comm]
 |p::r=>by
  simp only[jg];split
  ·simp only[eB]
   by_cases h:n=m
   ·simp[h]
   ·rw[if_neg h,if_neg (Ne.symm h)]
  ·split
   ·rename_i h1 h2
    simp only[eB]
    by_cases h:n=m
    ·simp[h]
    ·rw[if_neg h,if_neg (Ne.symm h),if_neg (by omega)]
   ·rename_i h1 h2
    simp only[eB,lN n v m r]
    by_cases h:p.1=m
    ·rw[if_pos h,if_pos h,if_neg (by omega)]
    ·rw[if_neg h,if_neg h]
theorem lK{n:Nat}{v:SV}{p:Nat×SV}:∀{l:List (Nat×SV)},p∈jg l n v->p=(n,v)\/p∈l
 |[],h=>by simpa[jg]using h
 |q::r,h=>by
  simp only[jg]at h;split at h
  ·rcases aw.1 h with h|h
   ·exact .inl h
   ·exact .inr h
  ·split at h
   ·rcases aw.1 h with h|h
    ·exact .inl h
    ·exact .inr (av _ h)
   ·rcases aw.1 h with h|h
    ·exact .inr (h ▸ aE ..)
    ·rcases lK h with h|h
     ·exact .inl h
     ·exact .inr (av _ h)
theorem fZ(lo hi n:Nat):∀l:List (Nat×SV),eB (dp lo hi l) n=(eB l n).purge lo hi
 |[]=>by simp[dp,eB,SV.purge]
 |p::r=>by
  simp only[dp,eB];split
  ·rfl
  ·exact fZ lo hi n r
theorem jk{lo hi:Nat}{p:Nat×SV}:∀{l:List (Nat×SV)},p∈dp lo hi l->∃q∈l,p.1=q.1
 |q::r,h=>by
  simp only[dp]at h;rcases aw.1 h with h|h
  ·exact⟨q,aE ..,by rw[h]⟩
  ·obtain⟨u,h1,h2⟩:=jk h
   exact⟨u,av _ h1,h2⟩
theorem pk{k:List Nat}{p:Nat×SV}:∀{l:List (Nat×SV)},p∈vX l k->p∈l
 |q::r,h=>by
  simp only[vX]at h;split at h
  ·exact av _ (pk h)
  ·rcases aw.1 h with h|h
   ·exact h ▸ aE ..
   ·exact av _ (pk h)
theorem pr(k:List Nat)(n:Nat):∀l:List (Nat×SV),eB (vX l k) n=if k.contains n=true then .undef else eB l n
 |[]=>by simp[vX,eB]
 |p::r=>by
  simp only[vX,eB];split
  ·rename_i h
   rw[pr k n r]
   by_cases hp:p.1=n
   ·subst hp;rw[if_pos h,if_pos h]
   ·rw[if_neg hp]
  ·rename_i h
   simp only[eB,pr k n r]
   by_cases hp:p.1=n
   ·subst hp;rw[if_pos rfl,if_neg h,if_pos rfl]
   ·rw[if_neg hp,if_neg hp]
theorem pt(n:Nat)(v:aC)(m:Nat):∀l:List (Nat×aC),iF (iK l n v) m=if m=n then some v else iF l m
 |[]=>by simp only[iK,iF];by_cases h:n=m<;>simp[h,eq_comm]
 |p::r=>by
  simp only[iK];split
  ·simp only[iF]
   by_cases h:n=m
   ·simp[h]
   ·rw[if_neg h,if_neg (Ne.symm h)]
  ·split
   ·rename_i h1 h2
    simp only[iF]
    by_cases h:n=m
    ·simp[h]
    ·rw[if_neg h,if_neg (Ne.symm h),if_neg (by omega)]
   ·rename_i h1 h2
    simp only[iF,pt n v m r]
    by_cases h:p.1=m
    ·rw[if_pos h,if_pos h,if_neg (by omega)]
    ·rw[if_neg h,if_neg h]
theorem j0{n:Nat}{v:aC}{p:Nat×aC}:∀{l:List (Nat×aC)},p∈iK l n v->p=(n,v)\/p∈l
 |[],h=>by simpa[iK]using h
 |q::r,h=>by
  simp only[iK]at h;split at h
  ·rcases aw.1 h with h|h
   ·exact .inl h
   ·exact .inr h
  ·split at h
   ·rcases aw.1 h with h|h
    ·exact .inl h
    ·exact .inr (av _ h)
   ·rcases aw.1 h with h|h
    ·exact .inr (h ▸ aE ..)
    ·rcases j0 h with h|h
     ·exact .inl h
     ·exact .inr (av _ h)
theorem tF{n:Nat}{v:aC}:∀{l:List (Nat×aC)},(l.map cH).Pairwise (· < ·)->((iK l n v).map cH).Pairwise (· < ·)
 |[],_=>by simp[iK]
 |p::r,h=>by
  have h0:=h;simp only[aF,cK]at h;simp only[iK];split
  ·rename_i h1
   rw[aF,cK];refine⟨fun k hk=> ?_,h0⟩;rw[aF]at hk;rcases aw.1 hk with e|e
   ·omega
   ·have:=h.1 k e;omega
  ·split
   ·rename_i h1 h2
    rw[aF,cK];exact⟨fun k hk=>by have:=h.1 k hk;omega,h.2⟩
   ·rename_i h1 h2
    rw[aF,cK];refine⟨fun k hk=> ?_,tF h.2⟩;obtain⟨q,hq,rfl⟩:=aT.1 hk;rcases j0 hq with e|e
    ·rw[e];show p.1<n;omega
    ·exact h.1 _ (ik e)
theorem i7{l:List (Nat×aC)}{n:Nat}{v:aC}(h:iF l n=some v):(n,v)∈l:=by
 induction l with
 |nil=>cases h
 |cons p r ih=>
  simp only[iF]at h;split at h
  ·rename_i hp
   cases h;subst hp;exact aE ..
  ·exact av _ (ih h)
theorem i5:∀{l:List (Nat×aC)},(l.map cH).Nodup->∀{p:Nat×aC},p∈l->iF l p.1=some p.2
 |q::r,hn,p,h=>by
  simp only[aF,dN]at hn;simp only[iF];rcases aw.1 h with e|e
  ·subst e;rw[if_pos rfl]
  ·rw[if_neg (fun e2=>hn.1 (by rw[e2];exact ik e))]
   exact i5 hn.2 e
theorem iW{l:List (Nat×aC)}(h:(l.map cH).Pairwise (· < ·)):(l.map cH).Nodup:=h.imp fun h=>Nat.ne_of_lt h
theorem iv(o:Nat):∀l:List (Nat×aC),l.lookup o=iF l o
 |[]=>rfl
 |p::r=>by
  simp only[List.lookup,iF]
  by_cases h:o=p.1
  ·rw[if_pos h.symm];simp[h]
  ·have:(o==p.1)=false:=by simpa using h
   rw[this,if_neg (Ne.symm h)];exact iv o r
theorem jp(lo hi o:Nat):∀l:List (Nat×aC),iF (bF lo hi l) o=if lo<=o/\o<hi then none else(iF l o).map (aC.purge lo hi)
 |[]=>by simp[bF,iF]
 |p::r=>by
  simp only[bF,iF];split
  ·rename_i hp
   rw[jp lo hi o r]
   by_cases h:p.1=o
   ·subst h;rw[if_pos hp,if_pos hp]
   ·rw[if_neg h]
  ·rename_i hp
   simp only[iF,jp lo hi o r]
   by_cases h:p.1=o
   ·subst h;rw[if_pos rfl,if_neg hp,if_pos rfl];rfl
   ·rw[if_neg h,if_neg h]
theorem uL{lo hi:Nat}{l:List (Nat×aC)}(h:(l.map cH).Pairwise (· < ·)):((bF lo hi l).map cH).Pairwise (· < ·):=by rw[eM];exact h.filter _
theorem j1{n t:Nat}:∀{l:List Nat},t∈lX l n↔t=n\/t∈l
 |[]=>by simp[lX]
 |p::r=>by
  simp only[lX];split
  ·simp
  ·split
   ·rename_i h;subst h;simp
   ·simp only[aw,j1]
    constructor
    ·rintro(h|h|h)
     ·exact .inr (.inl h)
     ·exact .inl h
     ·exact .inr (.inr h)
    ·rintro(h|h|h)
     ·exact .inr (.inl h)
     ·exact .inl h
     ·exact .inr (.inr h)
theorem o7{lo hi:Nat}{o:aC}(h:o.wf=true):(o.purge lo hi).wf=true:=by cases o<;>simpa[aC.purge,aC.wf]using h
def CSt.st(N:Nat)(c:CSt):St:=⟨(bA N).map c.get,c.ob,c.tk⟩
structure Inv(N:Nat)(c:CSt):Prop where
 dom:∀p∈c.tm,p.1<N
 so:(c.ob.map cH).Pairwise (· < ·)
 wf:∀p∈c.ob,p.2.wf=true
structure Sim(N:Nat)(c:CSt)(s:St):Prop where
 inv:Inv N c
 tm:s.tm=(bA N).map c.get
 look:∀o,s.look o=c.look o
 tk:∀t,t∈s.tk↔t∈c.tk
variable {N : Nat} {c : CSt} {s : St}
theorem Inv.get(h:Inv N c){n:Nat}(hn:N<=n):c.get n= .undef:=rl fun p hp e=>by have:=h.dom p hp;omega
theorem Sim.of(h:Inv N c):Sim N c (c.st N):=⟨h,rfl,fun o=>iv o c.ob,fun _=>Iff.rfl⟩
theorem Sim.get(h:Sim N c s)(n:Nat):s.get n=c.get n:=by
 unfold St.get;rw[h.tm,aa,aR];rcases bO n N with hn|hn
 ·rw[ch hn];rfl
 ·rw[gj (by simpa using hn),h.inv.get hn];rfl
theorem Sim.ev(h:Sim N c s)(a:Arg):s.ev a=c.ev a:=by
 cases a with
 |t n=>exact h.get n
 |c v=>rfl
 |f g=>rfl
theorem Sim.evL(h:Sim N c s)(l:List Arg):Sy.evL c l=l.map s.ev:=by
 induction l with
 |nil=>rfl
 |cons a r ih=>simp only[Sy.evL,aF,ih,h.ev]
theorem Sim.lookmem(h:Sim N c s){o:Nat}{ob:aC}(hl:c.look o=some ob):ob.wf=true:=h.inv.wf _ (i7 hl)
theorem Sim.rows(h:Sim N c s){o sz:Nat}{xs:List (List SV)}(hl:c.look o=some (.arr sz xs)):∀x∈xs,x.length=sz:=by have:=h.lookmem hl;simpa[aC.wf]using this
theorem Inv.put(h:Inv N c){d:Option Nat}(hd:∀k,d=some k->k<N)(v:SV):Inv N (c.put d v):=by
 cases d with
 |none=>exact h
 |some k=>
  refine⟨fun p hp=> ?_,h.so,h.wf⟩;rcases lK hp with e|e
  ·rw[e];exact hd k rfl
  ·exact h.dom p e
theorem gF(c:CSt)(k:Nat)(v:SV)(n:Nat):(c.put (some k) v).get n=if n=k then v else c.get n:=lN k v n c.tm
theorem Sim.put(h:Sim N c s){d:Option Nat}(hd:∀k,d=some k->k<N)(v:SV):Sim N (c.put d v) (s.put d v):=by
 cases d with
 |none=>exact h
 |some k=>
  refine⟨h.inv.put hd v, ?_,h.look,h.tk⟩;show s.tm.set k v=_;rw[h.tm];apply List.ext_getElem?;intro i;rw[gr,aR,aR];rcases bO i N with hi|hi
  ·rw[ch hi]
   simp only[bp,gF,aY,List.length_range]
   by_cases hk:k=i
   ·rw[if_pos hk,if_pos (by omega),if_pos hk.symm]
   ·rw[if_neg hk,if_neg (Ne.symm hk)]
  ·rw[gj (l:=bA N) (by simpa using hi)]
   have:=hd k rfl;rw[if_neg (by omega)];rfl
theorem bN{α:Type}{p:Prop}[Decidable p]{v u:α}(h:gd p v=some u):p/\v=u:=by
 unfold gd at h;split at h
 ·rename_i hp;cases h;exact⟨hp,rfl⟩
 ·cases h
theorem F7{op:BinOp}{k:IntKind}{a b:Int}{v:SV}(h:xx op k a b=some v)(hs:l7 op=false):∃p,QY op k a b=some (p,v)/\p:=by
 cases op<;>simp only[xx]at h<;>first
  |(cases hs;done)
  |(obtain⟨h1,rfl⟩:=bN h;exact⟨_,rfl,h1⟩)
  |(cases h;exact⟨True,rfl,trivial⟩)
theorem RS{op:BinOp}{a b v:SV}(h:Ei op a b=some v):∃p,xM op a b=some (p,v)/\p:=by
 unfold Ei at h;split at h
 ·rename_i k a k' b
  split at h
  ·rename_i hc
   by_cases hs:l7 op=true
   ·cases op<;>first
     |(cases hs;done)
     |(simp only[xx]at h;obtain⟨h1,rfl⟩:=bN h;exact⟨_,rfl,h1⟩)
   ·have hs':l7 op=false:=by simpa using hs
    have hk:k=k':=hc.resolve_left hs;obtain⟨p,h1,h2⟩:=F7 h hs';refine⟨p, ?_,h2⟩;subst hk;cases op<;>first|(cases hs';done)|(simp only[xM,if_true];exact h1)
  ·cases h
 ·rename_i a k b
  show ∃p,Sm op a b=some (p,v)/\p
  cases op<;>simp only[NF]at h<;>first
   |(cases h;done)
   |(obtain⟨h1,rfl⟩:=bN h;exact⟨_,rfl,h1⟩)
 ·rename_i a b
  show ∃p,DD op a b=some (p,v)/\p
  cases op<;>simp only[x7]at h<;>first
   |(cases h;done)
   |(obtain⟨h1,rfl⟩:=bN h;exact⟨_,rfl,h1⟩)
   |(cases h;exact⟨True,rfl,trivial⟩)
 ·rename_i a b
  show ∃p,Su op a b=some (p,v)/\p
  cases op<;>simp only[NK]at h<;>first
   |(cases h;done)
   |(obtain⟨h1,rfl⟩:=bN h;exact⟨_,rfl,h1⟩)
   |(cases h;exact⟨True,rfl,trivial⟩)
 ·cases h
theorem vB(hS:Sim N c s){n:Nat}{ag:Bool}{u v:SV}(h:lM c n ag u=some v):∃p,iE s n ag u=some (p,v)/\p:=by
 cases u with
 |pp cs=>obtain⟨h1,rfl⟩:=bN h;exact⟨_,rfl,h1⟩
 |ptr o off=>
  simp only[lM]at h;simp only[iE,hS.look];split at h
  ·rename_i cs hl;rw[hl];obtain⟨h1,rfl⟩:=bN h;exact⟨_,rfl,h1⟩
  ·rename_i sz xs hl;rw[hl];obtain⟨⟨h1,h2⟩,rfl⟩:=bN h;subst h1;exact⟨_,rfl,h2,hS.rows hl⟩
  ·rename_i l hl;rw[hl];obtain⟨⟨h1,h2⟩,rfl⟩:=bN h;subst h1;exact⟨_,rfl,h2⟩
  ·cases h
 |ap o sz i j=>
  simp only[lM]at h;simp only[iE,hS.look];split at h
  ·rename_i sz' xs hl
   rw[hl];obtain⟨⟨h1,h2,h3⟩,rfl⟩:=bN h;refine⟨_,rfl,h1,h2,h3, ?_⟩;rw[aa,ac h2,h1];exact hS.rows hl _ (bo _)
  ·rename_i l hl;rw[hl];obtain⟨h1,rfl⟩:=bN h;exact⟨_,rfl,h1⟩
  ·cases h
 |_=>cases h
theorem l3(hS:Sim N c s)(x:Option Arg)(n:Int):iD s x n=jZ c x n:=by
 cases x with
 |none=>rfl
 |some a=>simp only[iD,jZ,hS.ev]
theorem z7(hS:Sim N c s){sz:Nat}{u v:SV}{lo hi mx:Option Arg}(h:nA c sz u lo hi mx=some v):∃p,jf s sz u lo hi mx=some (p,v)/\p:=by
 cases u with
 |byt l t=>
  simp only[nA]at h;simp only[jf,l3 hS];split at h<;>try (cases h;done)
  rename_i a b m h1 h2 h3;rw[h1,h2,h3];obtain⟨h4,rfl⟩:=bN h;exact⟨_,rfl,h4⟩
 |lst sz' l t=>
  simp only[nA]at h;simp only[jf,l3 hS];split at h<;>try (cases h;done)
  rename_i a b m h1 h2 h3;rw[h1,h2,h3];obtain⟨h4,rfl⟩:=bN h;exact⟨_,rfl,h4⟩
 |psl o sz' off n cap=>
  cases cap with
  |none=>
   simp only[nA]at h;simp only[jf,l3 hS];split at h<;>try (cases h;done)
   rename_i a b h1 h2;rw[h1,h2];obtain⟨h4,rfl⟩:=bN h;exact⟨_,rfl,h4⟩
  |some cap=>
   simp only[nA]at h;simp only[jf,l3 hS];split at h<;>try (cases h;done)
   rename_i a b m h1 h2 h3;rw[h1,h2,h3];obtain⟨h4,rfl⟩:=bN h;exact⟨_,rfl,h4⟩
 |_=>cases h
theorem mF(hS:Sim N c s){u:SV}{l:List UInt8}(h:eJ c u=some l):∃p,bytesOf s u=some (p,l)/\p:=by
 cases u with
 |byt l t=>cases h;exact⟨True,rfl,trivial⟩
 |str l=>cases h;exact⟨True,rfl,trivial⟩
 |psl o sz off n cap=>
  simp only[eJ]at h;simp only[bytesOf,hS.look];split at h
  ·rename_i l' hl;rw[hl];obtain⟨h1,rfl⟩:=bN h;exact⟨_,rfl,h1⟩
  ·cases h
 |_=>cases h
theorem jX(hS:Sim N c s){u:SV}{sz:Nat}{l:List (List SV)}(h:fM c sz u=some l):∃p,gR s sz u=some (p,l)/\p:=by
 cases u with
 |lst sz' l t=>obtain⟨h1,rfl⟩:=bN h;exact⟨_,rfl,h1⟩
 |psl o sz' off n cap=>
  simp only[fM]at h;simp only[gR,hS.look];split at h
  ·rename_i sz'' xs hl
   rw[hl];obtain⟨⟨h1,h2,h3⟩,rfl⟩:=bN h;exact⟨_,rfl,h1,h2,h3,by rw[h2];exact hS.rows hl⟩
  ·cases h
 |_=>cases h
theorem xbo(hS:Sim N c s)(ps:List (Nat×Nat×Arg)):psC c ps=ps.map fun(o,n,x)=>(o,n,s.ev x):=by
 induction ps with
 |nil=>rfl
 |cons p r ih=>obtain⟨o,n,x⟩:=p;simp only[psC,aF,ih,hS.ev]
theorem O5(hS:Sim N c s){so:SOp}{v:SV}(h:cL c so=some v):∃p,val s so=some (p,v)/\p:=by
 cases so with
 |mov x=>cases h;exact⟨True,by simp only[val,hS.ev],trivial⟩
 |build z ps=>simp only[cL,xbo hS]at h;obtain⟨l,h1,rfl⟩:=ae.1 h;exact⟨True,by simp only[val,h1,bp],trivial⟩
 |lit sz xs=>simp only[cL,hS.evL]at h;obtain⟨l,h1,rfl⟩:=ae.1 h;exact⟨True,by simp only[val,h1,bp],trivial⟩
 |litB xs=>simp only[cL,hS.evL]at h;obtain⟨l,h1,rfl⟩:=ae.1 h;exact⟨True,by simp only[val,h1,bp],trivial⟩
 |load n ag a=>simp only[val,hS.ev];exact vB hS h
 |nchk x=>simp only[cL]at h;simp only[val,hS.ev];cases hx:c.ev x<;>rw[hx]at h<;>first|(cases h;done)|(cases h;exact⟨True,rfl,trivial⟩)
 |bin op x y=>simp only[val,hS.ev];exact RS h
 |beq ne x y=>
  simp only[cL]at h;simp only[val,hS.ev];split at h<;>try (cases h;done)
  rename_i a b h1 h2;cases h;rw[h1,h2];exact⟨True,rfl,trivial⟩
 |eqS ne ts x y=>
  simp only[cL]at h;simp only[val,hS.ev];split at h<;>try (cases h;done)
  rename_i a b h1 h2;obtain⟨l,h3,rfl⟩:=ae.1 h;rw[h1,h2];exact⟨True,by simp only[h3,bp],trivial⟩
 |un op x=>simp only[cL]at h;exact⟨True,by simp only[val,hS.ev,h,bp],trivial⟩
 |toInt k x=>simp only[cL]at h;exact⟨True,by simp only[val,hS.ev,h,bp],trivial⟩
 |toStr x=>
  simp only[cL]at h;simp only[val,hS.ev];split at h<;>try (cases h;done)
  all_goals
   rename_i h1;cases h;rw[h1];exact⟨True,rfl,trivial⟩
 |slid x=>simp only[cL]at h;cases h
 |newB x=>simp only[cL]at h;cases h
 |isni ne x=>
  simp only[cL]at h;simp only[val,hS.ev];split at h<;>try (cases h;done)
  rename_i h1;cases h;rw[h1];exact⟨True,rfl,trivial⟩
 |s2b x=>
  simp only[cL]at h;simp only[val,hS.ev];split at h<;>try (cases h;done)
  rename_i l h1;cases h;rw[h1];exact⟨True,rfl,trivial⟩
 |b2s x=>
  simp only[cL]at h;simp only[val,hS.ev];cases hx:c.ev x with
  |byt l t=>rw[hx]at h;cases h;exact⟨True,rfl,trivial⟩
  |psl o sz off n cap=>
   rw[hx]at h;simp only[eJ]at h;simp only[xO,hS.look];obtain⟨l,h1,rfl⟩:=ae.1 h;split at h1
   ·rename_i l' hl;rw[hl];obtain⟨h2,rfl⟩:=bN h1;exact⟨_,rfl,h2⟩
   ·cases h1
  |_=>rw[hx]at h;cases h
 |mkfn f a b=>simp only[cL,hS.evL]at h;cases h;exact⟨True,rfl,trivial⟩
 |slcS x lo hi=>
  simp only[cL]at h;simp only[val,hS.ev];split at h<;>try (cases h;done)
  rename_i l hx;rw[hx];simp only[l3 hS];split at h<;>try (cases h;done)
  rename_i a b h1 h2;rw[h1,h2];obtain⟨h4,rfl⟩:=bN h;exact⟨_,rfl,h4⟩
 |slcL sz x lo hi mx=>simp only[val,hS.ev];exact z7 hS h
 |slcA len sz x lo hi mx=>
  simp only[cL]at h;simp only[val,hS.ev];split at h<;>try (cases h;done)
  rename_i o off hx;split at h<;>try (cases h;done)
  rename_i ho;subst ho;rw[hx];exact z7 hS h
 |faddr off x=>simp only[cL]at h;simp only[val,hS.ev];cases hx:c.ev x<;>rw[hx]at h<;>first|(cases h;done)|(cases h;exact⟨True,rfl,trivial⟩)
 |fld off n ag x=>
  simp only[cL]at h;simp only[val,hS.ev];split at h<;>try (cases h;done)
  rename_i cs hx;rw[hx];obtain⟨h4,rfl⟩:=bN h;exact⟨_,rfl,h4⟩
 |iaddrL sz x i=>
  simp only[cL]at h;simp only[val,hS.ev];split at h<;>try (cases h;done)
  all_goals
   rename_i h1 h2;rw[h1,h2];obtain⟨h4,rfl⟩:=bN h;exact⟨_,rfl,h4⟩
 |iaddrA len sz x i=>
  simp only[cL]at h;simp only[val,hS.ev,hS.look];split at h<;>try (cases h;done)
  ·rename_i o off n h1 h2
   rw[h1,h2];simp only;split at h<;>try (cases h;done)
   ·rename_i cs hl
    rw[hl];obtain⟨h4,rfl⟩:=bN h;exact⟨_,rfl,h4⟩
   ·rename_i ob hno hl
    rw[hl];obtain⟨⟨h4,h5⟩,rfl⟩:=bN h;cases ob with
    |rc cs=>exact absurd rfl (hno cs)
    |_=>simp only[h4,if_true];exact⟨_,rfl,h5⟩
  ·rename_i cs n h1 h2
   rw[h1,h2];obtain⟨h4,rfl⟩:=bN h;exact⟨_,rfl,h4⟩
 |idxA len sz ag x i=>
  simp only[cL]at h;simp only[val,hS.ev];split at h<;>try (cases h;done)
  rename_i h1 h2;rw[h1,h2];obtain⟨h4,rfl⟩:=bN h;exact⟨_,rfl,h4⟩
 |idxS x i=>
  simp only[cL]at h;simp only[val,hS.ev];split at h<;>try (cases h;done)
  rename_i h1 h2;rw[h1,h2];obtain⟨h4,rfl⟩:=bN h;exact⟨_,rfl,h4⟩
 |ext x i=>
  simp only[cL]at h;simp only[val,hS.ev];split at h<;>try (cases h;done)
  rename_i vs hx;rw[hx];obtain⟨h4,rfl⟩:=bN h;exact⟨_,rfl,h4⟩
 |len b x=>simp only[cL]at h;obtain⟨n,h1,rfl⟩:=ae.1 h;exact⟨True,by simp only[val,hS.ev,h1],trivial⟩
 |lenC n=>cases h;exact⟨True,rfl,trivial⟩
 |cap x=>
  simp only[cL]at h;simp only[val,hS.ev];cases hx:c.ev x with
  |psl o sz off n m=>cases m<;>rw[hx]at h<;>cases h;exact⟨True,rfl,trivial⟩
  |byt l t=>rw[hx]at h;simp only at h;split at h<;>cases h;rename_i ht;subst ht;exact⟨True,rfl,trivial⟩
  |lst sz l t=>rw[hx]at h;simp only at h;split at h<;>cases h;rename_i ht;subst ht;exact⟨True,rfl,trivial⟩
  |_=>rw[hx]at h;cases h
 |mini x y=>
  simp only[cL]at h;simp only[val,hS.ev];split at h<;>try (cases h;done)
  rename_i h1 h2;rw[h1,h2];simp only;split at h<;>cases h;rename_i hk;exact⟨True,by rw[if_pos hk],trivial⟩
 |maxi x y=>
  simp only[cL]at h;simp only[val,hS.ev];split at h<;>try (cases h;done)
  rename_i h1 h2;rw[h1,h2];simp only;split at h<;>cases h;rename_i hk;exact⟨True,by rw[if_pos hk],trivial⟩
 |_=>cases h
end Go.Sy
namespace Go.Sy
variable [bf]
variable {P : Program} {C : Ctx} {x : Sit} {a : Act} {w : World} {o : Oper} {so : SOp} {N : Nat} {c c' : CSt} {s : St} {d : Option Nat}
def M(C:Ctx)(N:Nat)(c:CSt):Act->World->Prop:=D6 C (Sim N c)
theorem Sim.purge(h:Sim N c s)(lo hi:Nat):Sim N (c.purge lo hi) (s.purge lo hi):=by
 refine⟨⟨fun p hp=> ?_,uL h.inv.so,fun p hp=> ?_⟩, ?_,fun o=> ?_,fun t=> ?_⟩
 ·obtain⟨q,hq,e⟩:=jk hp
  rw[e];exact h.inv.dom q hq
 ·obtain⟨_,ob,h1,h2⟩:=ct hp
  rw[h2];exact o7 (h.inv.wf _ h1)
 ·show SV.purgeL lo hi s.tm=_
  rw[h.tm,dx,List.map_map];apply List.map_congr_left;intro i _;exact(fZ lo hi i c.tm).symm
 ·show(bF lo hi s.ob).lookup o=iF (bF lo hi c.ob) o
  have:=h.look o;unfold St.look CSt.look at this;rw[iv]at this ⊢;rw[jp,jp,this]
 ·show t∈cz lo hi s.tk↔t∈cz lo hi c.tk
  rw[bK,bK,h.tk]
theorem Sim.addO(h:Sim N c s)(k:Nat){ob:aC}(hw:ob.wf=true):Sim N ⟨c.tm,iK c.ob k ob,c.tk⟩ (s.addO k ob):=by
 refine⟨⟨h.inv.dom,tF h.inv.so,fun p hp=> ?_⟩,h.tm,fun o=> ?_,h.tk⟩
 ·rcases j0 hp with e|e
  ·rw[e];exact hw
  ·exact h.inv.wf p e
 ·show((k,ob)::s.ob).lookup o=iF (iK c.ob k ob) o
  have:=h.look o;unfold St.look CSt.look at this;rw[pt];simp only[List.lookup]
  by_cases he:o=k
  ·subst he;simp
  ·have:(o==k)=false:=by simpa using he
   rw[this,if_neg he];exact h.look o
theorem jN(k:Nat)(ob:aC)(o:Nat):∀l:List (Nat×aC),(Sy.setO k ob l).lookup o=if o=k/\(l.lookup k).isSome=true then some ob else l.lookup o
 |[]=>by simp[Sy.setO]
 |p::r=>by
  simp only[Sy.setO]
  by_cases hp:p.1=k
  ·rw[if_pos hp]
   subst hp;simp only[List.lookup]
   by_cases ho:o=p.1
   ·subst ho;simp
   ·have:(o==p.1)=false:=by simpa using ho
    simp[this,ho]
  ·rw[if_neg hp]
   have h1:(k==p.1)=false:=by simpa using Ne.symm hp
   simp only[List.lookup,h1,jN k ob o r]
   by_cases ho:o=p.1
   ·subst ho;simp[hp]
   ·have:(o==p.1)=false:=by simpa using ho
    simp[this]
theorem Sim.setO(h:Sim N c s){k:Nat}{ob:aC}(hl:(c.look k).isSome=true)(hw:ob.wf=true):Sim N ⟨c.tm,iK c.ob k ob,c.tk⟩ (s.setO k ob):=by
 refine⟨⟨h.inv.dom,tF h.inv.so,fun p hp=> ?_⟩,h.tm,fun o=> ?_,h.tk⟩
 ·rcases j0 hp with e|e
  ·rw[e];exact hw
  ·exact h.inv.wf p e
 ·show(Sy.setO k ob s.ob).lookup o=iF (iK c.ob k ob) o
  rw[pt,jN]
  have h1:(s.ob.lookup k).isSome=true:=by have:=h.look k;unfold St.look at this;rw[this];exact hl
  by_cases he:o=k
  ·rw[if_pos ⟨he,h1⟩,if_pos he]
  ·rw[if_neg (fun e=>he e.1),if_neg he];exact h.look o
theorem Sim.tks(h:Sim N c s){l k:List Nat}(hlk:∀t,t∈l↔t∈k):Sim N ⟨c.tm,c.ob,k⟩ ⟨s.tm,s.ob,l⟩:=⟨⟨h.inv.dom,h.inv.so,h.inv.wf⟩,h.tm,h.look,hlk⟩
theorem FR{t:Tok}{l k:List Nat}(h:∀t,t∈l↔t∈k)(n:Nat):n∈t.eat l↔n∈t.eat k:=by
 cases t with
 |id t=>simp only[Tok.eat,bK,h]
 |_=>exact h n
structure Ep(e:nG)(f:Eff):Prop where
 val:f.val=e.val
 wr:f.wr=e.wr
 new:f.new=e.new
 eat:f.eat=e.eat
 tok:f.tok=e.tok
structure Ey(c:CSt)(e:nG):Prop where
 new:∀ob,e.new=some ob->ob.wf=true
 wr:e.wr=[]\/∃k ob,e.wr=[(k,ob)]/\(c.look k).isSome=true/\ob.wf=true
theorem Sim.app(h:Sim N c s)(hd:∀k,d=some k->k<N){e:nG}{f:Eff}(hs:Ep e f)(hg:Ey c e):Sim N (c.app d e) (s.app d f):=by
 unfold CSt.app St.app;rw[hs.new,hs.tok,hs.val,hs.wr,hs.eat];cases hn:e.new with
 |some ob=>exact((h.purge _ _).addO _ (o7 (hg.new ob hn))).put hd _
 |none=>
  cases ht:e.tok with
  |true=>refine Sim.put (c:=⟨_,_,_⟩) ?_ hd _;refine((h.purge (d.getD 0+100) (d.getD 0+100+1)).tks (fun t=> ?_));rw[j1,aw,bK,bK,FR h.tk]
  |false=>
   rcases hg.wr with hw|⟨k,ob,hw,h1,h2⟩
   ·rw[hw];exact h.put hd _
   ·rw[hw];exact(h.setO h1 h2).put hd _
theorem Ep.v(v:SV)(p:Prop):Ep {val:=v} {pre:=p,val:=v}:=⟨rfl,rfl,rfl,rfl,rfl⟩
theorem Ey.v(v:SV):Ey c {val:=v}:=⟨fun ob h=>(by cases h),.inl rfl⟩
theorem Z5(n:Nat)(z:List SV):(aC.arr z.length (aH n z)).wf=true:=by simp only[aC.wf,aV,decide_eq_true_eq];intro y hy;rw[(List.mem_replicate.1 hy).2]
theorem fF{sz:Nat}{xs:List (List SV)}:(aC.arr sz xs).wf=true↔∀y∈xs,y.length=sz:=by simp only[aC.wf,aV,decide_eq_true_eq]
theorem v6(sz:Nat):∀(m:Nat)(v:List SV),v.length=m*sz->∀y∈jq sz m v,y.length=sz
 |0,_,_,y,hy=>by cases hy
 |m+1,v,h,y,hy=>by
  rw[dy]at h;simp only[jq]at hy;rcases aw.1 hy with rfl|hy
  ·rw[ax];omega
  ·exact v6 sz m (v.drop sz) (by rw[aL];omega) y hy
theorem CL{sz:Nat}{xs:List (List SV)}{i j n:Nat}{v:List SV}(h:∀y∈xs,y.length=sz)(hi:i<xs.length)(hj:j+n<=sz)(hv:v.length=n):∀y∈iX sz xs i j n v,y.length=sz:=by
 intro y hy;unfold iX at hy;split at hy
 ·rename_i hc
  rcases List.mem_or_eq_of_mem_set hy with h1|h1
  ·exact h y h1
  ·rw[h1,hv];exact hc.2
 ·rcases List.mem_or_eq_of_mem_set hy with h1|h1
  ·exact h y h1
  ·have:(xs.getD i []).length=sz:=by
    rw[aa,ac hi];exact h _ (bo _)
   rw[h1];simp only[af,ax,aL,this,hv];omega
theorem qV(h:Sim N c s){t:Tok}(hr:t.readyC c=true):t.ready s=true:=by
 cases t with
 |no=>cases hr
 |clip=>rfl
 |id t=>simp only[Tok.readyC,eU,decide_eq_true_eq]at hr;simp only[Tok.ready,eU,decide_eq_true_eq];exact(h.tk t).2 hr
theorem Pw(hM:aN C x s a w){y:Arg}(hy:y.isT=true):Rep x (s.ev y) (match y with| .t n=>a.tmps.getD n Go.undef|_=>Go.undef):=by
 cases y with
 |t n=>exact hM.slot n
 |_=>cases hy
theorem Gk(h:Sim N c s){e:nG}(he:ec c d so=some e)(hp:∀q y z,so≠ .pick q y z)(hn:∀ne q,so≠ .isnil ne q)(hcp:∀sz q y,so≠ .cpy sz q y):∃f,eff s d so=some f/\f.pre/\Ep e f/\Ey c e:=by
 have plain:∀{so:SOp},ec c d so=zN (cL c so)->(eff s d so=match val s so with|some (p,v)=>some {pre:=p,val:=v}|none=>none)->ec c d so=some e->∃f,eff s d so=some f/\f.pre/\Ep e f/\Ey c e:=by
  intro so h1 h2 h3;rw[h1]at h3;cases hv:cL c so with
  |none=>rw[hv]at h3;cases h3
  |some v=>rw[hv]at h3;cases h3;obtain⟨p,h4,h5⟩:=O5 h hv;exact⟨{pre:=p,val:=v},by rw[h2,h4],h5,Ep.v v p,Ey.v v⟩
 cases so with
 |pick q y z=>exact absurd rfl (hp q y z)
 |isnil ne q=>exact absurd rfl (hn ne q)
 |call _ _=>cases he
 |newB _=>cases he
 |slid _=>cases he
 |new ob=>
  simp only[ec]at he;split at he<;>try (cases he;done)
  obtain⟨h1,rfl⟩:=bN he;exact⟨_,rfl,trivial,⟨rfl,rfl,rfl,rfl,rfl⟩,⟨fun ob' e=>(by cases e;exact h1),.inl rfl⟩⟩
 |box q=>simp only[ec]at he;split at he<;>cases he;exact⟨_,rfl,trivial,⟨rfl,rfl,by simp only[h.ev],rfl,rfl⟩,⟨fun ob' e=>(by cases e;rfl),.inl rfl⟩⟩
 |mk z bytes n m=>
  simp only[ec]at he;simp only[eff,h.ev];split at he<;>try (cases he;done)
  rename_i h1 h2;rw[h1,h2];obtain⟨h1,rfl⟩:=bN he;exact⟨_,rfl,h1,⟨rfl,rfl,rfl,rfl,rfl⟩,⟨fun ob' e=>(by cases e;exact Z5 _ z),.inl rfl⟩⟩
 |mkB n m=>
  simp only[ec]at he;simp only[eff,h.ev];split at he<;>try (cases he;done)
  rename_i h1 h2;rw[h1,h2];obtain⟨h1,rfl⟩:=bN he;exact⟨_,rfl,h1,⟨rfl,rfl,rfl,rfl,rfl⟩,⟨fun ob' e=>(by cases e;rfl),.inl rfl⟩⟩
 |store n q y=>
  simp only[ec]at he;simp only[eff,h.ev];split at he<;>try (cases he;done)
  rename_i hdef;rw[hdef];simp only;unfold kr at he;unfold pP;split at he
  ·rename_i o' off hq
   rw[hq];simp only[h.look];split at he<;>try (cases he;done)
   ·rename_i cs hl
    rw[hl];obtain⟨h1,rfl⟩:=bN he;exact⟨_,rfl,h1,⟨rfl,rfl,rfl,rfl,rfl⟩,⟨fun ob' e=>(by cases e),.inr ⟨_,_,rfl,by rw[hl];rfl,rfl⟩⟩⟩
   ·rename_i sz xs hl
    rw[hl];obtain⟨⟨h1,h2,h3,h4⟩,rfl⟩:=bN he
    exact⟨_,rfl,⟨h1,h2,h3,h4⟩,⟨rfl,rfl,rfl,rfl,rfl⟩,
     ⟨fun ob' e=>(by cases e),.inr ⟨_,_,rfl,by rw[hl];rfl,fF.2 (v6 sz _ _ (by rw[aY];omega))⟩⟩⟩
   ·rename_i l hl
    rw[hl];simp only at he ⊢;split at he<;>try (cases he;done)
    rename_i l' hv;rw[hv];obtain⟨h1,rfl⟩:=bN he;exact⟨_,rfl,h1,⟨rfl,rfl,rfl,rfl,rfl⟩,⟨fun ob' e=>(by cases e),.inr ⟨_,_,rfl,by rw[hl];rfl,rfl⟩⟩⟩
  ·rename_i o' sz i j hq
   rw[hq];simp only[h.look];split at he<;>try (cases he;done)
   ·rename_i sz' xs hl
    rw[hl];obtain⟨⟨h1,h2,h3,h4,h5⟩,rfl⟩:=bN he
    exact⟨_,rfl,⟨h1,h2,h3,h4,by rw[h1];exact h.rows hl,h5⟩,⟨rfl,rfl,rfl,rfl,rfl⟩,
     ⟨fun ob' e=>(by cases e),.inr ⟨_,_,rfl,by rw[hl];rfl,fF.2 (by subst h1;exact CL (h.rows hl) h2 h3 (by simpa using h4))⟩⟩⟩
   ·rename_i l hl
    rw[hl];simp only at he ⊢;split at he<;>try (cases he;done)
    rename_i b hv;rw[hv];obtain⟨h1,rfl⟩:=bN he;exact⟨_,rfl,h1,⟨rfl,rfl,rfl,rfl,rfl⟩,⟨fun ob' e=>(by cases e),.inr ⟨_,_,rfl,by rw[hl];rfl,rfl⟩⟩⟩
  ·cases he
 |app z bytes q y=>
  simp only[ec]at he;simp only[eff,h.ev];split at he<;>try (cases he;done)
  split at he<;>try (cases he;done)
  ·rename_i l t hq
   rw[hq];obtain⟨l',h1,h2⟩:=Option.bind_eq_some_iff.1 he;obtain⟨p,h3,h4⟩:=mF h h1;obtain⟨⟨g1,g2,g3,g4⟩,rfl⟩:=bN h2;simp only[h3];exact⟨_,rfl,⟨h4,g1,g2,qV h g3,g4⟩,⟨rfl,rfl,rfl,rfl,rfl⟩,⟨fun ob' e=>(by cases e),.inl rfl⟩⟩
  ·rename_i sz' l t hq
   rw[hq];obtain⟨l',h1,h2⟩:=Option.bind_eq_some_iff.1 he;obtain⟨p,h3,h4⟩:=jX h h1;obtain⟨⟨g1,g3,g4⟩,rfl⟩:=bN h2;simp only[h3];exact⟨_,rfl,⟨h4,g1,qV h g3,g4⟩,⟨rfl,rfl,rfl,rfl,rfl⟩,⟨fun ob' e=>(by cases e),.inl rfl⟩⟩
 |cpy sz q y=>exact absurd rfl (hcp sz q y)
 |appO z bytes q y=>cases he
 |clr z q=>
  simp only[ec]at he;simp only[eff,h.ev];split at he<;>try (cases he;done)
  rename_i o' sz' off n cap hq;rw[hq];simp only[h.look];split at he<;>try (cases he;done)
  rename_i sz'' xs hl;rw[hl];obtain⟨⟨g0,g1,g2,g3⟩,rfl⟩:=bN he;have hrows:=h.rows hl;refine⟨_,rfl,⟨g0,g1,g2,g3,by rw[g2];exact hrows⟩,⟨rfl,rfl,rfl,rfl,rfl⟩,⟨fun ob' e=>(by cases e),.inr ⟨_,_,rfl,by rw[hl];rfl,fF.2 ?_⟩⟩⟩;intro r hr;rcases al.1 hr with hr|hr
  ·rcases al.1 hr with hr|hr
   ·rw[g2];exact hrows r (bQ hr)
   ·rw[(List.mem_replicate.1 hr).2]
  ·rw[g2];exact hrows r (cI hr)
 |appM z bytes q y=>cases he
 |ovl q y=>cases he
 |_=>exact plain (rz rfl) rfl he
theorem RA(P:Program)(h:Sim N c s)(hM:aN C x s a w){e:nG}(he:ec c d so=some e)(hp:∀q y z,so≠ .pick q y z)(hn:∀ne q,so≠ .isnil ne q):∃f,eff s d so=some f/\f.pre/\Ep e f/\Ey c e:=by
 by_cases hcp:∃sz q y,so= .cpy sz q y
 ·obtain⟨sz,q,y,rfl⟩:=hcp
  simp only[ec]at he;simp only[eff,h.ev];split at he<;>try (cases he;done)
  rename_i o' sz' off n cap hq;rw[hq];simp only[h.look];split at he<;>try (cases he;done)
  ·rename_i l hl
   rw[hl];obtain⟨l',h1,h2⟩:=Option.bind_eq_some_iff.1 he;obtain⟨p,h3,h4⟩:=mF h h1;obtain⟨⟨g1,g2,g3⟩,rfl⟩:=bN h2;simp only[h3];exact⟨_,rfl,⟨h4,g1,g2,g3⟩,⟨rfl,rfl,rfl,rfl,rfl⟩,⟨fun ob' e=>(by cases e),.inr ⟨_,_,rfl,by rw[hl];rfl,rfl⟩⟩⟩
  ·rename_i sz'' xs hl
   rw[hl];obtain⟨l',h1,h2⟩:=Option.bind_eq_some_iff.1 he;obtain⟨p,h3,h4⟩:=jX h h1;obtain⟨⟨g0,g1,g2,g3⟩,rfl⟩:=bN h2;simp only[h3];have hrows:=h.rows hl;obtain⟨_,hl',_⟩:=o9 (P:=P) hM (Pw hM g0) (by rw[h.ev];exact h3) h4;refine⟨_,rfl,⟨h4,g1,g2,g3,by rw[g2];exact hrows⟩,⟨rfl,rfl,rfl,rfl,rfl⟩,⟨fun ob' e=>(by cases e),.inr ⟨_,_,rfl,by rw[hl];rfl,fF.2 ?_⟩⟩⟩;intro r hr;rcases al.1 hr with hr|hr
   ·rcases al.1 hr with hr|hr
    ·rw[g2];exact hrows r (bQ hr)
    ·exact hl' r (bQ hr)
   ·rw[g2];exact hrows r (cI hr)
 ·exact Gk h he hp hn (fun sz q y e=>hcp ⟨sz,q,y,e⟩)
theorem xeL(h:M C N c a w)(hr:bz P o=some so)(hd:∀k,o.dst=some k->k<N)(hc:mU c o.dst (ec c o.dst so)=some c'){K:Act->World->Prop}{Q:Exit->Act->World->Prop}(hK:∀a w,M C N c' a w->K a w):o.wp P a w K Q:=by
 obtain⟨x,s,hM,hS⟩:=h;cases he:ec c o.dst so with
 |none=>rw[he]at hc;cases hc
 |some e=>
  rw[he]at hc;simp only[mU,aq.injEq]at hc;subst hc
  by_cases hp:∃q y z,so= .pick q y z
  ·obtain⟨q,y,z,rfl⟩:=hp
   simp only[ec]at he;split at he<;>cases he;rename_i t ht;have hd':=Dq hM hr (t:=t) (by rw[hS.ev];exact ht);refine dl hd' (k:=Sim N (c.app o.dst {val:=io t (c.ev y) (c.ev z)})) ?_ hK;have:(if t=true then s.ev y else s.ev z)=io t (c.ev y) (c.ev z):=by rw[hS.ev,hS.ev];rfl
   rw[this];exact hS.put hd _
  ·by_cases hn:∃ne q,so= .isnil ne q
   ·obtain⟨ne,q,rfl⟩:=hn
    have key:∃b,b=ne/\cn P C o a w (s.put o.dst (.bool b)):=by
     refine xH hM hr (K:=fun b=>b=ne) ?_;rw[hS.ev];simp only[ec]at he;split at he<;>try (cases he;done)
     ·rename_i l t hl
      obtain⟨h1,_⟩:=bN he
      try rw[hl]
      intro b hb;cases b
      ·cases ne<;>rfl
      ·exact absurd (hb rfl) h1
     ·rename_i sz l t hl
      obtain⟨h1,_⟩:=bN he
      try rw[hl]
      intro b hb;cases b
      ·cases ne<;>rfl
      ·exact absurd (hb rfl) h1
     ·rename_i hl
      first
       |rw[hl]
       |rfl
    obtain⟨b,rfl,hd'⟩:=key;refine dl hd' (k:=Sim N (c.app o.dst e)) ?_ hK
    have:e= {val:= .bool b}:=by
     simp only[ec]at he;split at he
     ·obtain⟨_,h2⟩:=bN he;exact h2.symm
     ·obtain⟨_,h2⟩:=bN he;exact h2.symm
     ·exact(aq.inj he).symm
     ·cases he
    rw[this];exact hS.put hd _
   ·obtain⟨f,h1,h2,h3,h4⟩:=RA P hS hM he (fun q y z e=>hp ⟨q,y,z,e⟩) (fun ne q e=>hn ⟨ne,q,e⟩)
    exact dl (Ry hM hr h1 h2) (k:=Sim N (c.app o.dst e)) (hS.app hd h3 h4) hK
end Go.Sy
namespace Go.Sy
variable [bf]
variable {P : Program} {C : Ctx} {x : Sit} {a : Act} {w : World} {N : Nat} {c c' : CSt} {s : St}
theorem Sim.exact(h:Sim N c s)(hM:aN C x s a w):aN C x (c.st N) a w:=
 ⟨by show cj x ((bA N).map c.get) _;rw[<-h.tm];exact hM.tm,hM.defers,hM.heap.only (fun p hp=>by have h1:=i5 (iW h.inv.so) hp;have h2:s.look p.1=some p.2:=(h.look p.1).trans h1;exact db h2) (iW h.inv.so) (fun t ht=>(h.tk t).2 ht)⟩
theorem M.slots(h:M C N c a w)(hi:Inv N c')(ho:c'.ob=c.ob)(ht:c'.tk=c.tk)(hg:∀i,c'.get i=c.get i\/c'.get i= .undef):M C N c' a w:=by
 obtain⟨x,s,hM,hS⟩:=h;have hE:=hS.exact hM;refine⟨x,c'.st N,⟨⟨?_,fun i hi'=> ?_⟩,hM.defers, ?_⟩,Sim.of hi⟩
 ·have:=hE.tm.1;simpa[CSt.st]using this
 ·have h1:=hE.tm.2 i (by simpa[CSt.st]using hi')
  have hiN:i<N:=by simpa[CSt.st]using hi'
  simp only[CSt.st,aa,aR,ch hiN,bp,aM]at h1 ⊢;rcases hg i with e|e
  ·rw[e];exact h1
  ·rw[e];exact .undef _
 ·show cX C x c'.ob c'.tk w
  rw[ho,ht];exact hE.heap
theorem Inv.kill(h:Inv N c)(l:List Nat):Inv N (c.kill l):=by
 cases l with
 |nil=>exact h
 |cons n r=>exact⟨fun p hp=>h.dom p (pk hp),h.so,h.wf⟩
theorem M.kill(h:M C N c a w)(l:List Nat):M C N (c.kill l) a w:=by
 have hi:Inv N c:=by obtain⟨x,s,_,hS⟩:=h;exact hS.inv
 cases l with
 |nil=>exact h
 |cons n r=>
  refine h.slots (hi.kill _) rfl rfl fun i=> ?_
  have e:=pr (n::r) i c.tm
  by_cases hc:(n::r).contains i=true
  ·exact .inr (e.trans (if_pos hc))
  ·exact .inl (e.trans (if_neg hc))
theorem M.purge(h:M C N c a w)(lo hi:Nat):M C N (c.purge lo hi) a w:=by obtain⟨x,s,hM,hS⟩:=h;exact⟨x,_,hM.purge lo hi,hS.purge lo hi⟩
theorem M.gc:∀{l:List Nat}{c:CSt},M C N c a w->M C N (gcC c l) a w
 |[],_,h=>h
 |o::r,c,h=>by show M C N (gcC (c.purge o (o+1)) r) a w;exact M.gc (h.purge o (o+1))
theorem lw{o:Nat}{obj:aC}(cs:List SV):SV.pubL o obj cs=cs.map (SV.pub o obj):=by
 induction cs with
 |nil=>rfl
 |cons c r ih=>simp only[SV.pubL,aF,ih]
theorem Rep.pub{x x':Sit}{o:Nat}{obj:aC}(hβ:x'.bk=x.bk)(hτ:x'.τ=x.τ)(hG:∀b i u,x.G b i=some u->x'.G b i=some u)
 (hcell:∀k,k<obj.size->∃u,x'.G ((x.bk o).1) k=some u/\co x'.G (obj.cell k) u) (hwf:obj.wf=true) {sv:SV} {v:Value} (h:Rep x sv v):Rep x' (sv.pub o obj) v:=by
 induction h with
 |undef v=>exact .undef v
 |dat s v h ht=>
  have:s.pub o obj=s:=by cases h<;>rfl
  rw[this];exact(Rep.dat s v h ht).grow hG hβ hτ
 |ptr o' off=>
  simp only[SV.pub];split
  ·exact .undef _
  ·rw[<-hβ];exact .ptr o' off
 |ap o' sz i j=>
  simp only[SV.pub];split
  ·exact .undef _
  ·rw[<-hβ];exact .ap o' sz i j
 |psl o' sz off n cap off' cap' hoff hn hcp hkp=>
  simp only[SV.pub];split
  ·rename_i ho
   subst ho;cases obj with
   |rc cs=>exact .undef _
   |arr sz' xs=>
    simp only[xb];split
    ·rename_i hc
     obtain⟨rfl,hb⟩:=hc;have hrows:=fF.1 hwf;have h1:=leP.psl (o:=o') (cap:=cap) hb hrows x x' _ hβ hτ hG (fun k hk=>hcell k hk) (.psl o' sz' off n cap off' cap' hoff hn hcp hkp);split
     ·rename_i hcap
      have hcn:=hcp _ hcap;obtain⟨b,cq,he,_,hD,_⟩:=h1.lst_inv;exact .dat _ _ (hD.tok (.lst sz' ((xs.drop off).take n) .clip) (.inr ⟨sz',_,_,_,rfl,rfl⟩)) ⟨_,n,by rw[<-hcn]⟩
     ·exact h1
    ·exact .undef _
   |bar l=>
    simp only[xb];split
    ·rename_i hc
     obtain⟨rfl,hb⟩:=hc;have hlen:((l.drop off).take n).length=n:=by simp;omega
     have hD:∀t,co x'.G (.byt ((l.drop off).take n) t) (.slice (some ⟨(x.bk o').1,off',none⟩) n cap'):=by
      intro t;refine .byt _ t _ _ _ _ hlen.symm hn fun i hi=> ?_
      have hoff':off'=off:=by omega
      obtain⟨u,hu,hr⟩:=hcell (off+i) (by simp only[aC.size];omega);rw[hoff',hu];simp only[aC.cell]at hr
      have e:((l.drop off).take n).getD i 0=l.getD (off+i) 0:=by simp only[aa,bC,if_pos hi,bi]
      rw[e];cases hr with
      |u8 b=>rfl
     split
     ·rename_i hcap
      have hcn:=hcp _ hcap;exact .dat _ _ (hD .clip) ⟨_,n,by rw[<-hcn]⟩
     ·exact .dat _ _ (hD .no) trivial
    ·exact .undef _
  ·rw[<-hβ]at hkp ⊢;exact .psl o' sz off n cap off' cap' hoff hn hcp hkp
 |agg cs vs hl _ ih=>simp only[SV.pub,lw];exact .agg _ _ (by simpa using hl) fun i hi=>by rw[aW _ (by rfl)];exact ih i (by simpa using hi)
 |tup cs vs hl _ ih=>simp only[SV.pub,lw];exact .tup _ _ (by simpa using hl) fun i hi=>by rw[aW _ (by rfl)];exact ih i (by simpa using hi)
 |fn f c1 c2 v1 v2 hl1 _ hl2 _ ih1 ih2=>simp only[SV.pub,lw];exact .fn _ _ _ _ _ (by simpa using hl1) (fun i hi=>by rw[aW _ (by rfl)];exact ih1 i (by simpa using hi)) (by simpa using hl2) (fun i hi=>by rw[aW _ (by rfl)];exact ih2 i (by simpa using hi))
theorem j2{o:Nat}{obj:aC}{p:Nat×aC}:∀{l:List (Nat×aC)},p∈ky o obj l->p.1≠o/\∃q,(p.1,q)∈l/\p.2=nh o obj q
 |q::r,h=>by
  simp only[ky]at h;split at h
  ·obtain⟨h1,u,h2,h3⟩:=j2 h
   exact⟨h1,u,av _ h2,h3⟩
  ·rename_i hq
   rcases aw.1 h with e|e
   ·rw[e];exact⟨hq,q.2,aE ..,rfl⟩
   ·obtain⟨h1,u,h2,h3⟩:=j2 e
    exact⟨h1,u,av _ h2,h3⟩
theorem pw{o:Nat}{obj:aC}:∀l:List (Nat×aC),(ky o obj l).map cH=(l.map cH).filter fun k=>decide (k≠o)
 |[]=>rfl
 |p::r=>by
  simp only[ky,aF,fq]
  by_cases h:p.1=o
  ·rw[if_pos h,pw r];simp[h]
  ·rw[if_neg h,aF,pw r];simp[h]
theorem ph{o:Nat}{obj:aC}{p:Nat×SV}:∀{l:List (Nat×SV)},p∈ld o obj l->∃q∈l,p.1=q.1
 |q::r,h=>by
  simp only[ld]at h;rcases aw.1 h with e|e
  ·exact⟨q,aE ..,by rw[e]⟩
  ·obtain⟨u,h1,h2⟩:=ph e
   exact⟨u,av _ h1,h2⟩
theorem j4{o:Nat}{obj:aC}(n:Nat):∀l:List (Nat×SV),eB (ld o obj l) n=(eB l n).pub o obj
 |[]=>rfl
 |p::r=>by
  simp only[ld,eB];split
  ·rfl
  ·exact j4 n r
theorem Z6{o:Nat}{obj q:aC}(h:q.wf=true):(nh o obj q).wf=true:=by cases q<;>simpa[nh,aC.wf]using h
theorem oh{o:Nat}{obj0 obj:aC}(hl:c.look o=some obj0)(hnr:∀cs,obj≠ .rc cs)(hnr0:∀cs,obj0≠ .rc cs)(hle:obj.size<=obj0.size)(hcl:∀k,k<obj.size->obj.cell k=obj0.cell k)(hwf:obj.wf=true)(hM:aN C x s a w)(hS:Sim N c s):
 ∃x',(x'.bk=x.bk/\x'.τ=x.τ/\(∀b i u,x.G b i=some u->x'.G b i=some u)/\(∀i,obj.size<=i->x'.G ((x.bk o).1) i=none)/\(∀k,k<obj.size->∃u,x'.G ((x.bk o).1) k=some u/\co x'.G (obj.cell k) u))/\(∀sv v,Rep x sv v->Rep x' (sv.pub o obj) v)/\∃s',aN C x' s' a w/\Sim N ⟨ld o obj c.tm,ky o obj c.ob,c.tk⟩ s'/\(∀p∈s'.ob,(x.bk o).1≠(x'.bk p.1).1):=by
 have hls:s.look o=some obj0:=(hS.look o).trans hl;obtain⟨cc,e,fl,fh,hO,hsz,hr⟩:=eT hM hls;have hob:=hM.heap.obs _ (db hls)
 let x':Sit:= {x with G:=fun b i=>if b=(x.bk o).1/\i<obj.size then some (cc.getD i Go.undef)else x.G b i}
 have hG:∀b i u,x.G b i=some u->x'.G b i=some u:=by intro b i u hu;show(if _ then _ else _)=_;rw[if_neg];exact hu;rintro⟨rfl,_⟩;have h0:=hob.2.2 i;simp only at h0;rw[h0]at hu;cases hu
 have hcell:∀k,k<obj.size->∃u,x'.G ((x.bk o).1) k=some u/\co x'.G (obj.cell k) u:=by
  intro k hk;refine⟨cc.getD k Go.undef,if_pos ⟨rfl,hk⟩,co.mono hG ?_⟩;have:=hr k (by omega);rw[hcl k hk];cases obj0 with
  |rc cs=>exact absurd rfl (hnr0 cs)
  |arr sz xs=>exact this
  |bar l=>exact this
 have hpub:∀sv v,Rep x sv v->Rep x' (sv.pub o obj) v:=fun sv v h=>Rep.pub (x:=x) (x':=x') rfl rfl hG hcell hwf h
 have hH:=hM.heap
 have hinv:Inv N ⟨ld o obj c.tm,ky o obj c.ob,c.tk⟩:=by
  refine⟨fun p hp=> ?_, ?_,fun p hp=> ?_⟩
  ·obtain⟨q,hq,e⟩:=ph hp;rw[e];exact hS.inv.dom q hq
  ·show((ky o obj c.ob).map cH).Pairwise _
   rw[pw];exact hS.inv.so.filter _
  ·obtain⟨_,q,h2,h3⟩:=j2 hp;rw[h3];exact Z6 (hS.inv.wf _ h2)
 have hmem:∀p∈ky o obj c.ob,p.1≠o/\∃q,(p.1,q)∈s.ob/\p.2=nh o obj q:=by intro p hp;obtain⟨h1,q,h2,h3⟩:=j2 hp;have h4:=i5 (iW hS.inv.so) h2;exact⟨h1,q,db ((hS.look p.1).trans h4),h3⟩
 have hne:∀p∈ky o obj c.ob,(x.bk p.1).1≠(x.bk o).1:=fun p hp e=>by obtain⟨h1,q,h2,_⟩:=hmem p hp;exact h1 (hH.inj (p.1,q) h2 _ (db hls) e)
 refine⟨x',⟨rfl,rfl,hG,fun i hi=> ?_,hcell⟩,hpub,_,⟨⟨?_,fun i hi=> ?_⟩,hM.defers, ?_⟩,Sim.of hinv,fun p hp=>(hne p hp).symm⟩
 ·show(if _ then _ else _)=_
  rw[if_neg (by rintro⟨_,h⟩;omega)];exact hob.2.2 i
 ·have:=hM.tm.1;rw[hS.tm]at this;simpa[CSt.st]using this
 ·have hiN:i<N:=by simpa[CSt.st]using hi
  have h1:=hM.tm.2 i (by rw[hS.tm];simpa using hiN);rw[hS.tm]at h1;simp only[CSt.st,aa,aR,ch hiN,bp,aM]at h1 ⊢;have:(CSt.mk (ld o obj c.tm) (ky o obj c.ob) c.tk).get i=(c.get i).pub o obj:=j4 i c.tm;rw[this];exact hpub _ _ h1
 ·refine⟨
   ?_,fun b i v hv=>hG _ _ _ (hH.g0 b i v hv), ?_,hH.new, ?_,iW hinv.so, ?_, ?_,fun n hn p hp=> ?_,fun n hn m hm=>hH.tkd n ((hS.tk n).2 hn) m ((hS.tk m).2 hm),hH.os,hH.tape,hH.output,hH.size,hH.ext,hH.pin,hH.lay⟩
  ·intro b i v hv
   replace hv:(if b=(x.bk o).1/\i<obj.size then some (cc.getD i Go.undef)else x.G b i)=some v:=hv;split at hv
   ·rename_i hbi
    obtain⟨rfl,hi⟩:=hbi;cases hv;rw[hO.cell,aQ,cg (by omega)];rfl
   ·exact hH.per b i v hv
  ·intro b i v hv
   replace hv:(if b=(x.bk o).1/\i<obj.size then some (cc.getD i Go.undef)else x.G b i)=some v:=hv;split at hv
   ·rename_i hbi
    exact .inr (hbi.1 ▸ hob.2.1)
   ·exact hH.gm b i v hv
  ·intro p hp
   obtain⟨h1,q,h2,h3⟩:=hmem p hp;obtain⟨g1,g2,g3⟩:=hH.obs _ h2;refine⟨?_,g2,fun off=> ?_⟩
   ·obtain⟨c',e',fl',fh',hO',hs',hr'⟩:=g1
    rw[h3];refine⟨c',e',fl',fh',hO', ?_,fun k hk=> ?_⟩
    ·cases q<;>first|exact hs'|exact⟨by simpa[nh,aC.size,lw]using hs'.1,hs'.2.1,fun h=>by cases h⟩
    ·cases q with
     |rc cs=>
      have hk':k<cs.length:=by simpa[nh,aC.size,lw]using hk
      have:=hr' k hk';simp only[nh,cf,lw]at this ⊢;rw[aW _ (by rfl)];exact hpub _ _ this
     |arr sz xs=>exact co.mono hG (hr' k hk)
     |bar l=>exact co.mono hG (hr' k hk)
   ·show(if _ then _ else _)=_
    rw[if_neg (fun h=>hne p hp h.1)];exact g3 off
  ·intro p hp q hq hpq
   obtain⟨_,p',hp',_⟩:=hmem p hp;obtain⟨_,q',hq',_⟩:=hmem q hq;exact hH.inj (p.1,p') hp' (q.1,q') hq' hpq
  ·intro n hn'
   have hn:=(hS.tk n).2 hn';rcases hH.tks n hn with h|⟨h1,h2,h3⟩
   ·exact .inl h
   ·by_cases hlh:(x.τ n).2.1=(x.τ n).2.2
    ·exact .inl hlh
    ·refine .inr ⟨h1,h2,fun off h4 h5=> ?_⟩
     show(if _ then _ else _)=_;rw[if_neg (fun h=>(hH.tko n hn _ (db hls)).elim (fun hb=>hb h.1) hlh)];exact h3 off h4 h5
  ·obtain⟨_,q,h2,_⟩:=hmem p hp
   exact hH.tko n ((hS.tk n).2 hn) (p.1,q) h2
theorem oi{o:Nat}{obj:aC}(hl:c.look o=some obj)(hnr:∀cs,obj≠ .rc cs)(hM:aN C x s a w)(hS:Sim N c s):
 ∃x',(x'.bk=x.bk/\x'.τ=x.τ)/\(∀sv v,Rep x sv v->Rep x' (sv.pub o obj) v)/\∃s',aN C x' s' a w/\Sim N ⟨ld o obj c.tm,ky o obj c.ob,c.tk⟩ s':=by
 obtain⟨x',h1,h2,s',h3,h4,_⟩:=oh hl hnr hnr (aK _) (fun _ _=>rfl) (hS.lookmem hl) hM hS;exact⟨x',⟨h1.1,h1.2.1⟩,h2,s',h3,h4⟩
theorem CT{o:Nat}{obj:aC}(hl:c.look o=some obj)(hnr:∀cs,obj≠ .rc cs)(hM:aN C x s a w)(hS:Sim N c s):
 ∃x',(∀sv v,Rep x sv v->Rep x' (sv.pub o obj) v)/\∃s',aN C x' s' a w/\Sim N ⟨ld o obj c.tm,ky o obj c.ob,c.tk⟩ s':=by
 obtain⟨x',_,h⟩:=oi hl hnr hM hS;exact⟨x',h⟩
theorem kx{vs:List SV}{us:List Value}{o:Nat}(hM:aN C x s a w)(hS:Sim N c s)(hv:cj x vs us):
 ∃x' s',aN C x' s' a w/\Sim N (c.publish o vs).1 s'/\cj x' (c.publish o vs).2 us:=by
 unfold CSt.publish
 have go:∀{obj:aC},c.look o=some obj->(∀cs,obj≠ .rc cs)->∃x' s',aN C x' s' a w/\Sim N ⟨ld o obj c.tm,ky o obj c.ob,c.tk⟩ s'/\cj x' (SV.pubL o obj vs) us:=by intro obj hl hnr;obtain⟨x',hp,s',h1,h2⟩:=CT hl hnr hM hS;refine⟨x',s',h1,h2, ?_⟩;rw[lw];refine⟨by simpa using hv.1,fun i hi=> ?_⟩;rw[aW _ (by rfl)];exact hp _ _ (hv.2 i (by simpa using hi))
 split
 ·rename_i sz xs hl;exact go hl (fun cs e=>by cases e)
 ·rename_i l hl;exact go hl (fun cs e=>by cases e)
 ·exact⟨x,s,hM,hS,hv⟩
theorem jb{us:List Value}:∀{l:List Nat}{c:CSt}{s:St}{x:Sit}{vs:List SV},aN C x s a w->Sim N c s->cj x vs us->
 ∃x' s',aN C x' s' a w/\Sim N (eP c vs l).1 s'/\cj x' (eP c vs l).2 us
 |[],_,_,_,_,hM,hS,hv=>⟨_,_,hM,hS,hv⟩
 |o::r,c,s,x,vs,hM,hS,hv=>by obtain⟨x1,s1,h1,h2,h3⟩:=kx (o:=o) hM hS hv;simp only[eP];exact jb h1 h2 h3
theorem M.pub(h:M C N c a w)(o:Nat):M C N (c.publish o []).1 a w:=by obtain⟨x,s,hM,hS⟩:=h;obtain⟨x',s',h1,h2,_⟩:=kx (o:=o) (vs:=[]) (us:=[]) hM hS ⟨rfl,fun i hi=>by simp at hi⟩;exact⟨x',s',h1,h2⟩
theorem Pc(hM:aN C x s a w)(hS:Sim N c s)(id b lo hi:Nat)(hv:lo=hi\/((∃c e fl fh,eh w b c e fl fh/\hi<=c.size)/\C.mine b/\∀o,lo<=o->o<hi->x.G b o=none))
 (hob:∀p∈s.ob,b≠(x.bk p.1).1) (htk:∀u∈s.tk,kK (b,lo,hi) (x.τ u)\/(x.τ u).2.1=(x.τ u).2.2) {n:Nat} (hn:n<N) {v:SV}
 (hval:Rep (x.newT id b lo hi) v (a.tmps.toList.getD n Go.undef)):
 M C N ⟨jg (dp id (id+1) c.tm) n v,bF id (id+1) c.ob,lX (cz id (id+1) c.tk) id⟩ a w:=by
 have hadd:cX C (x.newT id b lo hi) (bF id (id+1) s.ob) (id::cz id (id+1) s.tk) w:=
  hM.heap.addT id b lo hi hv (.inr fun p hp _=>hob p hp) (.inr fun u hu _=>htk u hu)
 have hM1:aN C (x.newT id b lo hi) ⟨SV.purgeL id (id+1) s.tm,bF id (id+1) s.ob,id::cz id (id+1) s.tk⟩ a w:=
  ⟨cj.mono (x:=x) (x':=x.newT id b lo hi) (lo:=id) (hi:=id+1) (fun _ _ _ h=>h) (fun _ _=>rfl) (Sit.newT_ne x id _ _ _) hM.tm,hM.defers,hadd⟩
 have hS1:Sim N ⟨dp id (id+1) c.tm,bF id (id+1) c.ob,lX (cz id (id+1) c.tk) id⟩ ⟨SV.purgeL id (id+1) s.tm,bF id (id+1) s.ob,id::cz id (id+1) s.tk⟩:=
  (hS.purge id (id+1)).tks (fun u=>by rw[j1,aw,bK,bK,hS.tk])
 refine⟨x.newT id b lo hi,_, ?_,hS1.put (d:=some n) (fun k e=>by cases e;exact hn) v⟩;refine⟨⟨?_,fun i hi=> ?_⟩,hM1.defers,hM1.heap⟩
 ·have:=hM1.tm.1;simpa[St.put]using this
 ·simp only[St.put,List.length_set]at hi
  simp only[St.put,aa,gr]
  by_cases hni:n=i
  ·subst hni
   rw[if_pos rfl,if_pos hi];rw[<-aa];exact hval
  ·rw[if_neg hni]
   have:=hM1.tm.2 i hi;simp only[aa]at this;exact this
theorem wu(h:M C N c a w){n id o sz off k cp:Nat}(hg:c.get n= .psl o sz off k (some cp))(hc:Pe c n id o sz off k cp (c.look o)=some c')(hn:n<N):M C N c' a w:=by
 cases hl:c.look o with
 |none=>rw[hl]at hc;cases hc;exact h
 |some obj0=>
  rw[hl]at hc
  have main:∀(obj:aC)(v:SV),(∀cs,obj≠ .rc cs)->(∀cs,obj0≠ .rc cs)->obj.size=(off+k)*sz->(off+cp)*sz<=obj0.size->k<=cp->(∀k,k<obj.size->obj.cell k=obj0.cell k)->obj.wf=true->
   (∀(x':Sit)(off':Nat),(cp=0\/off'=off*sz)->(∀k,k<obj.size->∃u,x'.G ((x'.bk o).1) k=some u/\co x'.G (obj.cell k) u)->co x'.G v (.slice (some ⟨(x'.bk o).1,off',none⟩) k cp))->
   (∀x v',NH x v v'=dt x sz (.id id) v')->
   M C N (DP c n id o obj v) a w:=by
   intro obj v hnr hnr0 hsz hle hk hcl hwf hD htok;obtain⟨x,s,hM,hS⟩:=h;have hle':obj.size<=obj0.size:=by rw[hsz];exact kL (aX _ (by omega)) hle
   obtain⟨x',⟨hβ,hτ,hG,hfree,hcell⟩,hpub,s',hM',hS',hne⟩:=oh hl hnr hnr0 hle' hcl hwf hM hS;have hls:s.look o=some obj0:=(hS.look o).trans hl;obtain⟨cc,e,fl,fh,hO,hosz,_⟩:=eT hM hls;have hob:=hM.heap.obs _ (db hls);have hslot:=hM.slot n;rw[hS.get,hg]at hslot;obtain⟨cp',hkc,hcc,off',he,hoff⟩:=hslot.psl_inv;obtain rfl:=hcc _ rfl
   have hval0:a.tmps.toList.getD n Go.undef= .slice (some ⟨(x.bk o).1,off',none⟩) k cp:=by rw[<-he];simp[aQ,aa]
   refine Pc hM' hS' id ((x.bk o).1) ((off+k)*sz) ((off+cp)*sz) (.inr ⟨⟨cc,e,fl,fh,hO,by omega⟩,hob.2.1,fun i h1 h2=>hfree i (by omega)⟩) (fun p hp=>hne p hp) (fun u hu=> ?_) hn ?_
   ·have hu':=(hS'.tk u).1 hu
    have hu2:=(hS.tk u).2 hu';rw[hτ];exact(hM.heap.tko u hu2 _ (db hls)).imp (fun h e=>h e.symm) (fun h=>h)
   ·rw[hval0]
    have h1:=hD (x'.newT id ((x.bk o).1) ((off+k)*sz) ((off+cp)*sz)) off' hoff (by show ∀k,k<obj.size->∃u,x'.G ((x'.bk o).1) k=some u/\co x'.G (obj.cell k) u;rw[hβ];exact hcell)
    have e1:(x'.newT id ((x.bk o).1) ((off+k)*sz) ((off+cp)*sz)).bk o=x.bk o:=by show x'.bk o=_;rw[hβ]
    rw[e1]at h1;refine .dat _ _ h1 ?_;rw[htok];refine⟨_,k,cp,rfl, ?_⟩
    by_cases hcz:cp=0
    ·exact .inl (by omega)
    ·refine .inr ⟨_,off',rfl, ?_⟩
     rw[Sit.newT_eq,hoff.resolve_left hcz,bv,bv]
  cases obj0 with
  |rc cs=>cases hc;exact h
  |bar l=>
   simp only[Pe]at hc;split at hc<;>cases hc
   ·rename_i hcond
    obtain⟨rfl,h2,h3⟩:=hcond;refine main (.bar (l.take (off+k))) (.byt ((l.drop off).take k) (.id id)) (fun cs e=>by cases e) (fun cs e=>by cases e) (by simp only[aC.size,ax];omega) (by simp only[aC.size];omega) h3 (fun i hi=> ?_) rfl (fun x' off' hoff hcell=> ?_) (fun _ _=>rfl)
    ·simp only[aC.size,ax]at hi
     simp only[aC.cell,aa,bC,if_pos (show i<off+k by omega)]
    ·have hlen:((l.drop off).take k).length=k:=by simp;omega
     refine .byt _ _ _ _ _ _ hlen.symm h3 fun i hi=> ?_
     have hoff':off'=off:=by omega
     obtain⟨u,hu,hr⟩:=hcell (off+i) (by simp only[aC.size,ax];omega);rw[hoff',hu];simp only[aC.cell]at hr
     have e1:((l.drop off).take k).getD i 0=(l.take (off+k)).getD (off+i) 0:=by simp only[aa,bC,if_pos hi,bi,if_pos (show off+i<off+k by omega)]
     rw[e1];cases hr with
     |u8 b=>rfl
   ·exact h
  |arr sz' xs=>
   simp only[Pe]at hc;split at hc<;>cases hc
   ·rename_i hcond
    obtain⟨rfl,h2,h3⟩:=hcond;have hwf0:∀y∈xs,y.length=sz':=by obtain⟨x,s,hM,hS⟩:=h;exact fF.1 (hS.lookmem hl)
    have hwt:∀y∈xs.take (off+k),y.length=sz':=fun y hy=>hwf0 y (bQ hy)
    have hrow:(xs.drop off).take k=(xs.take (off+k)).drop off:=by rw[List.drop_take,Nat.add_sub_cancel_left]
    refine main (.arr sz' (xs.take (off+k))) (.lst sz' ((xs.drop off).take k) (.id id)) (fun cs e=>by cases e) (fun cs e=>by cases e) (by simp only[aC.size,ax];congr 1;omega) (by simp only[aC.size];exact aX _ h2) h3 (fun i hi=> ?_) (fF.2 hwt) (fun x' off' hoff hcell=> ?_) (fun _ _=>rfl)
    ·simp only[aC.size,ax]at hi
     simp only[aC.cell,aa,bC];have hd:i/sz'<off+k:=Nat.div_lt_of_lt_mul (by rw[cB];exact Nat.lt_of_lt_of_le hi (aX _ (Nat.min_le_left _ _)));rw[if_pos hd]
    ·have hlen:((xs.drop off).take k).length=k:=by simp;omega
     have hgr:∀i,i<k->((xs.drop off).take k).getD i []=(xs.take (off+k)).getD (off+i) []:=fun i hi=>by simp only[aa,bC,if_pos hi,bi,if_pos (show off+i<off+k by omega)]
     have hrl:∀i,i<k->((xs.drop off).take k).getD i []∈xs.take (off+k):=fun i hi=>by rw[hgr i hi,aa,ac (show off+i<(xs.take (off+k)).length by rw[ax];omega)];exact bo _
     have hcl:∀i j,i<k->j<sz'->∃u,x'.G ((x'.bk o).1) (off'+i*sz'+j)=some u/\co x'.G ((((xs.drop off).take k).getD i []).getD j .undef) u:=by
      intro i j hi hj;have hoff':off'=off*sz':=hoff.resolve_left (by omega)
      have hlt:(off+i)*sz'+j<(off+k)*sz':=by have:=aX sz' (show off+i+1<=off+k by omega);rw[bv,nu]at this;omega
      obtain⟨u,hu,hr⟩:=hcell ((off+i)*sz'+j) (by simp only[aC.size,ax];rw[fi (by omega)];exact hlt);refine⟨u,by rw[hoff',<-bv];exact hu, ?_⟩;simp only[aC.cell]at hr;have e1:((off+i)*sz'+j)/sz'=off+i:=by rw[cB,Nat.mul_add_div (by omega),xZ hj,gx]
      have e2:((off+i)*sz'+j) % sz'=j:=by rw[cB,Nat.mul_add_mod,cx hj]
      rw[e1,e2]at hr;rw[hgr i hi];exact hr
     refine .lst _ _ _ _ _ _ _ (fun i j=>(x'.G ((x'.bk o).1) (off'+i*sz'+j)).getD Go.undef) hlen.symm h3 (fun i hi=>hwt _ (hrl i hi)) (fun i j hi hj=> ?_) (fun i j hi hj=> ?_)
     ·obtain⟨u,hu,_⟩:=hcl i j hi hj
      rw[hu];rfl
     ·obtain⟨u,hu,hr⟩:=hcl i j hi hj
      rw[hu];exact hr
   ·exact h
theorem kb(hM:aN C x s a w)(hS:Sim N c s)(id:Nat)(t:Option Nat)(ht:∀k,t=some k->k∈c.tk){n:Nat}(hn:n<N){v:SV}
 (hv:∀u,Rep x (c.get n) u->Rep (x.newT id ((t.elim (0,0,0) x.τ)).1 ((t.elim (0,0,0) x.τ)).2.1 ((t.elim (0,0,0) x.τ)).2.2) v u):
 M C N ⟨jg (dp id (id+1) c.tm) n v,bF id (id+1) c.ob,lX (cz id (id+1) (t.elim c.tk fun k=>cz k (k+1) c.tk)) id⟩ a w:=by
 generalize hT:t.elim (0,0,0) x.τ=T at hv;generalize hL:(t.elim c.tk fun k=>cz k (k+1) c.tk)=L;have hH:=hM.heap
 have hLs:∀u∈L,u∈s.tk/\∀k,t=some k->u≠k:=by
  intro u hu;rw[<-hL]at hu;cases t with
  |none=>exact⟨(hS.tk u).2 hu,fun k e=>by cases e⟩
  |some k=>obtain⟨h1,h2⟩:=bK.1 hu;exact⟨(hS.tk u).2 h1,fun k' e=>by cases e;omega⟩
 have hadd:cX C (x.newT id T.1 T.2.1 T.2.2) (bF id (id+1) s.ob) (id::cz id (id+1) L) w:=by
  refine(hH.sub (tk':=L) (mZ.refl _) (fun u hu=>(hLs u hu).1)).addT id T.1 T.2.1 T.2.2 ?_ ?_ ?_
  ·cases t with
   |none=>subst hT;exact .inl rfl
   |some k=>have:=hH.tks k ((hS.tk k).2 (ht k rfl));unfold gS at this;subst hT;exact this
  ·cases t with
   |none=>subst hT;exact .inl rfl
   |some k=>
    by_cases hc:(x.τ k).2.1=(x.τ k).2.2
    ·subst hT;exact .inl hc
    ·subst hT
     exact .inr fun p hp _=>(hH.tko k ((hS.tk k).2 (ht k rfl)) p hp).resolve_right hc
  ·cases t with
   |none=>subst hT;exact .inl rfl
   |some k=>
    by_cases hc:(x.τ k).2.1=(x.τ k).2.2
    ·subst hT;exact .inl hc
    ·subst hT
     refine .inr fun u hu _=> ?_
     obtain⟨h1,h2⟩:=hLs u hu;rcases hH.tkd k ((hS.tk k).2 (ht k rfl)) u h1 (fun e=>h2 k rfl e.symm)with h|h|h
     ·exact .inl h
     ·exact absurd h hc
     ·exact .inr h
 have hM1:aN C (x.newT id T.1 T.2.1 T.2.2) ⟨SV.purgeL id (id+1) s.tm,bF id (id+1) s.ob,id::cz id (id+1) L⟩ a w:=
  ⟨cj.mono (x:=x) (x':=x.newT id T.1 T.2.1 T.2.2) (lo:=id) (hi:=id+1) (fun _ _ _ h=>h) (fun _ _=>rfl) (Sit.newT_ne x id _ _ _) hM.tm,hM.defers,hadd⟩
 have hS1:Sim N ⟨dp id (id+1) c.tm,bF id (id+1) c.ob,lX (cz id (id+1) L) id⟩ ⟨SV.purgeL id (id+1) s.tm,bF id (id+1) s.ob,id::cz id (id+1) L⟩:=
  (hS.purge id (id+1)).tks (fun u=>by rw[j1,aw])
 refine⟨x.newT id T.1 T.2.1 T.2.2,_, ?_,hS1.put (d:=some n) (fun k e=>by cases e;exact hn) v⟩;have hlt:n<s.tm.length:=by rw[hS.tm];simpa using hn
 refine⟨⟨?_,fun i hi=> ?_⟩,hM1.defers,hM1.heap⟩
 ·have:=hM1.tm.1;simpa[St.put]using this
 ·simp only[St.put,List.length_set]at hi
  simp only[St.put,aa,gr]
  by_cases hni:n=i
  ·subst hni
   rw[if_pos rfl,if_pos hi];refine hv _ ?_;have:=hM.tm.2 n hlt;have e:s.tm.getD n .undef=c.get n:=hS.get n;rw[e]at this;rw[<-aa];exact this
  ·rw[if_neg hni,<-aa,<-aa]
   exact hM1.tm.2 i hi
theorem wv(h:M C N c a w){n id:Nat}(hc:Pg c n id (c.get n)=some c'):M C N c' a w:=by
 have hnN:c.get n≠ .undef->n<N:=by
  obtain⟨x,s,hM,hS⟩:=h;intro hne;rcases bO n N with h1|h1
  ·exact h1
  ·exact absurd (hS.inv.get h1) hne
 cases hg:c.get n with
 |byt l t=>
  rw[hg]at hc;have hN:=hnN (by rw[hg];exact fun e=>by cases e);cases t with
  |no=>cases hc;exact h
  |clip=>
   cases hc;obtain⟨x,s,hM,hS⟩:=h;refine kb hM hS id none (fun k e=>by cases e) hN fun u hu=> ?_
   rw[hg]at hu;exact leT.byt id l x u hu
  |id t=>
   simp only[Pg]at hc;split at hc
   ·cases hc;exact h
   ·split at hc<;>cases hc
    rename_i h1 h2;obtain⟨x,s,hM,hS⟩:=h;refine kb hM hS id (some t) (fun k e=>by cases e;simpa using h2) hN fun u hu=> ?_
    rw[hg]at hu;obtain⟨b,cap,he,_,hD,hsp⟩:=hu.byt_inv;refine .dat _ _ (hD.tok (.byt l (.id id)) (.inl ⟨l,_,_,rfl,rfl⟩)) ?_;obtain⟨a',n',cap',he',hh⟩:=hsp;refine⟨a',n',cap',he',hh.imp (fun h=>h) ?_⟩;rintro⟨b,off,h3,h4⟩;exact⟨b,off,h3,by rw[Sit.newT_eq];exact h4⟩
 |lst sz xs t=>
  rw[hg]at hc;have hN:=hnN (by rw[hg];exact fun e=>by cases e);cases t with
  |no=>cases hc;exact h
  |clip=>
   cases hc;obtain⟨x,s,hM,hS⟩:=h;refine kb hM hS id none (fun k e=>by cases e) hN fun u hu=> ?_
   rw[hg]at hu;exact leT.lst id sz xs x u hu
  |id t=>
   simp only[Pg]at hc;split at hc
   ·cases hc;exact h
   ·split at hc<;>cases hc
    rename_i h1 h2;obtain⟨x,s,hM,hS⟩:=h;refine kb hM hS id (some t) (fun k e=>by cases e;simpa using h2) hN fun u hu=> ?_
    rw[hg]at hu;obtain⟨b,cap,he,_,hD,hsp⟩:=hu.lst_inv;refine .dat _ _ (hD.tok (.lst sz xs (.id id)) (.inr ⟨sz,xs,_,_,rfl,rfl⟩)) ?_;obtain⟨a',n',cap',he',hh⟩:=hsp;refine⟨a',n',cap',he',hh.imp (fun h=>h) ?_⟩;rintro⟨b,off,h3,h4⟩;exact⟨b,off,h3,by rw[Sit.newT_eq];exact h4⟩
 |psl o sz off k cp=>
  rw[hg]at hc;have hN:=hnN (by rw[hg];exact fun e=>by cases e);cases cp with
  |none=>cases hc;exact h
  |some cp=>exact wu h hg hc hN
 |_=>rw[hg]at hc;cases hc;exact h
theorem aN.retag(hM:aN C x s a w)(n:Nat){v:SV}(hval:Rep x v (a.tmps.toList.getD n Go.undef)):aN C x (s.put (some n) v) a w:=by
 refine⟨⟨?_,fun i hi=> ?_⟩,hM.defers,hM.heap⟩
 ·have:=hM.tm.1;simpa[St.put]using this
 ·simp only[St.put,List.length_set]at hi
  simp only[St.put,aa,gr]
  by_cases hni:n=i
  ·subst hni
   rw[if_pos rfl,if_pos hi];rw[<-aa];exact hval
  ·rw[if_neg hni]
   have:=hM.tm.2 i hi;simp only[aa]at this;exact this
theorem cX.move{ob:List (Nat×aC)}{tk:List Nat}(h:cX C x ob tk w){o d:Nat}(hd100:100<=d){obj:aC}(ho:(o,obj)∈ob)(hnr:∀cs,obj≠ .rc cs):
 cX C (x.newO d (x.bk o).1 (x.bk o).2) ((d,obj)::bF d (d+1) (bF o (o+1) ob)) (cz d (d+1) (cz o (o+1) tk)) w:=by
 have hβ:=Sit.newO_ne x d (x.bk o).1 (k:=(x.bk o).2);obtain⟨⟨c,e,fl,fh,hO,hs,hr⟩,hm,hg⟩:=h.obs _ ho;have hd2:(x.newO d (x.bk o).1 (x.bk o).2).bk d=x.bk o:=if_pos rfl
 have hob:∀p∈bF d (d+1) (bF o (o+1) ob),(x.newO d (x.bk o).1 (x.bk o).2).bk p.1=x.bk p.1/\∃q,(p.1,q)∈ob/\p.1≠o/\¬(d<=p.1/\p.1<d+1)/\p.2=(q.purge o (o+1)).purge d (d+1):=by intro p hp;obtain⟨h1,q,h2,h3⟩:=ct hp;obtain⟨h4,q',h5,h6⟩:=ct h2;simp only at h4 h5 h6;exact⟨hβ _ h1,q',h5,by omega,h1,by rw[h3,h6]⟩
 have htk:∀t∈cz d (d+1) (cz o (o+1) tk),t∈tk:=fun t ht=>(bK.1 (bK.1 ht).1).1
 refine⟨h.per,h.g0,h.gm,h.new, ?_, ?_, ?_,fun t ht=>h.tks t (htk t ht), ?_,fun t ht u hu=>h.tkd t (htk t ht) u (htk u hu),h.os,h.tape,h.output,h.size,h.ext,fun i hi=>by rw[hβ i (by omega)];exact h.pin i hi,h.lay⟩
 ·intro p hp
  rcases aw.1 hp with rfl|hp
  ·refine⟨⟨c,e,fl,fh,by rw[hd2];exact hO,by rw[hd2];exact hs,fun k hk=> ?_⟩,by rw[hd2];exact hm,fun off=>by rw[hd2];exact hg off⟩
   have:=hr k hk;cases obj with
   |rc cs=>exact absurd rfl (hnr cs)
   |arr sz xs=>exact this
   |bar l=>exact this
  ·obtain⟨he,q,h1,h2,h3,h4⟩:=hob p hp
   obtain⟨h5,h6,h7⟩:=h.obs _ h1;refine⟨?_,by rw[he];exact h6,fun off=>by rw[he];exact h7 off⟩;have e1:=h5.of_heap (x':=x) (w':=w) (lo:=o) (hi:=o+1) rfl (fun _ _ _ h=>h) (fun _ _=>rfl) (fun _ _=>rfl) (by omega);have e2:=e1.of_heap (x':=x.newO d (x.bk o).1 (x.bk o).2) (w':=w) (lo:=d) (hi:=d+1) rfl (fun _ _ _ h=>h) hβ (fun _ _=>rfl) h3;rw[h4];exact e2
 ·rw[aF,dN,eM,eM]
  refine⟨fun hmem=> ?_,(h.nd.filter _).filter _⟩;have:=(List.mem_filter.1 hmem).2;simp at this
 ·intro p hp q hq hpq
  rcases aw.1 hp with rfl|hp<;>rcases aw.1 hq with rfl|hq
  ·rfl
  ·obtain⟨he,q',h1,h2,_⟩:=hob q hq
   rw[hd2,he]at hpq;exact absurd (h.inj (o,obj) ho (q.1,q') h1 hpq).symm h2
  ·obtain⟨he,q',h1,h2,_⟩:=hob p hp
   rw[hd2,he]at hpq;exact absurd (h.inj (p.1,q') h1 (o,obj) ho hpq) h2
  ·obtain⟨he,q1,h1,_⟩:=hob p hp
   obtain⟨he',q2,h2,_⟩:=hob q hq;rw[he,he']at hpq;exact h.inj (p.1,q1) h1 (q.1,q2) h2 hpq
 ·intro t ht p hp
  rcases aw.1 hp with rfl|hp
  ·show(x.τ t).1≠((x.newO d (x.bk o).1 (x.bk o).2).bk d).1\/_
   rw[hd2];exact h.tko t (htk t ht) (o,obj) ho
  ·obtain⟨he,q,h1,_⟩:=hob p hp
   show(x.τ t).1≠((x.newO d (x.bk o).1 (x.bk o).2).bk p.1).1\/_;rw[he];exact h.tko t (htk t ht) (p.1,q) h1
theorem aN.move(hM:aN C x s a w){o d:Nat}(hd100:100<=d){obj:aC}(hl:s.look o=some obj)(hnr:∀cs,obj≠ .rc cs):
 aN C (x.newO d (x.bk o).1 (x.bk o).2) (((s.purge o (o+1)).purge d (d+1)).addO d obj) a w:=
 ⟨cj.mono (x:=x) (x':=x.newO d (x.bk o).1 (x.bk o).2) (lo:=d) (hi:=d+1) (fun _ _ _ h=>h) (Sit.newO_ne x d _) (fun _ _=>rfl) (hM.purge o (o+1)).tm,hM.defers,hM.heap.move hd100 (db hl) hnr⟩
theorem vq{n id o sz off k:Nat}{cap:Option Nat}{obj:aC}(hM:aN C x s a w)(hS:Sim N c s)(hn:n<N)(hid:100<=id)(hg:c.get n= .psl o sz off k cap)(hl:c.look o=some obj)(hnr:∀cs,obj≠ .rc cs):
 M C N (mvC c n id o sz off k cap obj) a w:=by
 have hM1:=hM.move hid (by rw[hS.look];exact hl) hnr;have hS1:=(((hS.purge o (o+1)).purge id (id+1)).addO id (hS.lookmem hl)).put (d:=some n) (fun k e=>by cases e;exact hn) (.psl id sz off k cap);refine⟨x.newO id (x.bk o).1 (x.bk o).2,_, ?_,hS1⟩
 have hv:Rep x (.psl o sz off k cap) (a.tmps.toList.getD n Go.undef):=by have:=hM.tm.2 n (by rw[hS.tm];simpa using hn);rw[show s.tm.getD n .undef=c.get n from hS.get n,hg]at this;exact this
 obtain⟨cap',h1,h2,off',he,h3,h4⟩:=hv.psl_invA;refine hM1.retag n ?_;rw[he];have hd2:(x.newO id (x.bk o).1 (x.bk o).2).bk id=x.bk o:=if_pos rfl;have:=Rep.psl (x:=x.newO id (x.bk o).1 (x.bk o).2) id sz off k cap off' cap' h3 h1 h2 (by rw[hd2];exact h4);rw[hd2]at this;exact this
theorem xk(h:M C N c a w){n id:Nat}(hid:100<=id)(hc:XZ c n id (c.get n)=some c'):M C N c' a w:=by
 obtain⟨x,s,hM,hS⟩:=h;cases hg:c.get n with
 |psl o sz off k cap=>
  rw[hg]at hc
  have hn:n<N:=by
   rcases bO n N with h|h
   ·exact h
   ·rw[hS.inv.get h]at hg;cases hg
  simp only[XZ]at hc;split at hc
  ·cases hc;exact⟨x,s,hM,hS⟩
  ·cases hl:c.look o with
   |none=>rw[hl]at hc;cases hc;exact⟨x,s,hM,hS⟩
   |some obj=>
    rw[hl]at hc;cases obj with
    |rc cs=>cases hc;exact⟨x,s,hM,hS⟩
    |arr sz' xs=>cases hc;exact vq hM hS hn hid hg hl (fun cs e=>by cases e)
    |bar l=>cases hc;exact vq hM hS hn hid hg hl (fun cs e=>by cases e)
 |_=>rw[hg]at hc;cases hc;exact⟨x,s,hM,hS⟩
theorem oN(h:M C N c a w){q:Dir}(hc:ql c q=some c'):M C N c' a w:=by
 cases q with
 |kill l=>cases hc;exact h.kill l
 |gc l=>cases hc;exact h.gc
 |gcr lo hi=>cases hc;exact h.purge lo hi
 |pubo o=>cases hc;exact h.pub _
 |pub n=>
  simp only[ql]at hc;split at hc<;>cases hc
  ·exact h.pub _
  ·exact h
 |tok n id=>
  simp only[ql]at hc;split at hc
  ·cases hc
  ·exact wv h hc
 |obj n id=>
  simp only[ql]at hc;split at hc
  ·cases hc
  ·exact xk h (by omega) hc
theorem jP:∀{l:List Dir}{c:CSt},M C N c a w->ix c l=some c'->M C N c' a w
 |[],_,h,hc=>by cases hc;exact h
 |q::r,c,h,hc=>by
  simp only[ix]at hc;split at hc
  ·rename_i c1 h1;exact jP (oN h h1) hc
  ·cases hc
end Go.Sy
namespace Go.Sy
variable [bf]
variable {P : Program} {C : Ctx} {x : Sit} {a : Act} {w : World} {N : Nat} {c c' : CSt} {s : St}
def fz(P:Program)(f:Nat)(args:List SV)(os:List aC)(k:Nat)(R:dv->Prop):Prop:=
 dL P f=true/\∀(C:Ctx)(x:Sit)(w:World)(vs:List Value),C.w0=w->C.G0=x.G->
  (∀b,C.mine b->w.heap.size<=b\/(∃i,i<os.length/\(x.bk i).1=b)\/(∃t,50<=t/\t<50+k/\(x.τ t).2.1≠(x.τ t).2.2/\(x.τ t).1=b))->os.length<=40->
  (∀o∈os,o.wf=true)->cX C x (idx os) (tks 50 k) w->cj x args vs->
  Calls P f ⟨vs⟩ w fun e w'=>∃v x' q,e= .returned v/\R q/\Rep x' q.r v/\cX C x' q.os q.tk w'/\(∀p∈q.os,p.2.wf=true)/\∀i,i<os.length->x'.bk i=x.bk i
theorem j8(cs:List SV):SV.bareL cs=cs.map SV.bare:=by
 induction cs with
 |nil=>rfl
 |cons c r ih=>simp only[SV.bareL,aF,ih]
theorem Rep.bare{x x':Sit}(hG:x'.G=x.G)(hβ:x'.bk=x.bk){sv:SV}{v:Value}(h:Rep x sv v):Rep x' sv.bare v:=by
 induction h with
 |undef v=>exact .undef v
 |dat s v h ht=>
  have h':=h.toData;rw[<-hG]at h';cases s with
  |byt l t=>exact .dat _ _ h' trivial
  |lst sz xs t=>exact .dat _ _ h' trivial
  |undef=>exact .undef v
  |bool b=>exact .dat _ _ h' trivial
  |int k n=>exact .dat _ _ h' trivial
  |u8 b=>exact .dat _ _ h' trivial
  |str l=>exact .dat _ _ h' trivial
  |nilp=>exact .dat _ _ h' trivial
  |nili=>exact .dat _ _ h' trivial
  |pp cs=>exact .dat _ _ h' trivial
  |ptr o off=>cases h
  |ap o sz i j=>cases h
  |psl o sz off n cap=>cases h
  |agg cs=>cases h
  |tup cs=>cases h
  |fn f a b=>cases h
 |ptr o off=>simp only[SV.bare];rw[<-hβ];exact .ptr o off
 |ap o sz i j=>simp only[SV.bare];rw[<-hβ];exact .ap o sz i j
 |psl o sz off n cap off' cap' h hn hc hk=>simp only[SV.bare];rw[<-hβ]at hk ⊢;exact .psl o sz off n cap off' cap' h hn hc hk
 |agg cs vs hl _ ih=>simp only[SV.bare,j8];exact .agg _ _ (by simpa using hl) fun i hi=>by rw[aW _ (by rfl)];exact ih i (by simpa using hi)
 |tup cs vs hl _ ih=>simp only[SV.bare,j8];exact .tup _ _ (by simpa using hl) fun i hi=>by rw[aW _ (by rfl)];exact ih i (by simpa using hi)
 |fn f c1 c2 v1 v2 hl1 _ hl2 _ ih1 ih2=>simp only[SV.bare,j8];exact .fn _ _ _ _ _ (by simpa using hl1) (fun i hi=>by rw[aW _ (by rfl)];exact ih1 i (by simpa using hi)) (by simpa using hl2) (fun i hi=>by rw[aW _ (by rfl)];exact ih2 i (by simpa using hi))
def NI(x:Sit):Option Nat->Nat×Nat×Nat
 |none=>(0,0,0)
 |some t=>x.τ t
def nE(x x1:Sit)(j:Nat)(l:List (Option Nat)):Prop:=∀k,k<l.length->x1.τ (j+k)=NI x (l.getD k none)
theorem nE.left{x x1:Sit}{j:Nat}{l r:List (Option Nat)}(h:nE x x1 j (l++r)):nE x x1 j l:=fun k hk=>by have:=h k (by simp;omega);rwa[aa,bq hk,<-aa]at this
theorem nE.right{x x1:Sit}{j:Nat}{l r:List (Option Nat)}(h:nE x x1 j (l++r)):nE x x1 (j+l.length) r:=fun k hk=>by have:=h (l.length+k) (by simp;omega);rw[aa,bB (by omega),<-aa]at this;rw[ep,this];congr 2;omega
theorem kg{t:Nat}:∀{l:List (Option Nat)},t∈cy l↔some t∈l
 |[]=>by simp[cy]
 |none::r=>by simp[cy,kg]
 |some u::r=>by simp[cy,kg]
theorem fB(l r:List (Option Nat)):cy (l++r)=cy l++cy r:=by
 induction l with
 |nil=>rfl
 |cons o l ih=>cases o<;>simp[cy,ih]
theorem C7{x x1:Sit}(hG:x1.G=x.G)(hβ:x1.bk=x.bk){v:SV}{u:Value}(h:Rep x v u):Rep x1 v.kclip u:=by
 have hb:=h.bare hG hβ;cases v with
 |lst sz xs t=>
  cases t with
  |no=>exact hb
  |id u=>exact hb
  |clip=>
   cases xs with
   |cons y r=>exact hb
   |nil=>obtain⟨b,cap,he,_,hD,hsp⟩:=h.lst_inv;obtain⟨a',n',he'⟩:=hsp;rw[<-hG]at hD;exact .dat _ _ (hD.tok (.lst _ [] .clip) (.inr ⟨_,[],_,_,rfl,rfl⟩)) ⟨a',n',he'⟩
 |byt l t=>
  cases t with
  |no=>exact hb
  |id u=>exact hb
  |clip=>
   cases l with
   |cons y r=>exact hb
   |nil=>obtain⟨b,cap,he,_,hD,hsp⟩:=h.byt_inv;obtain⟨a',n',he'⟩:=hsp;rw[<-hG]at hD;exact .dat _ _ (hD.tok (.byt [] .clip) (.inl ⟨[],_,_,rfl,rfl⟩)) ⟨a',n',he'⟩
 |_=>exact hb
theorem xq{x x1:Sit}(hG:x1.G=x.G)(hβ:x1.bk=x.bk){cs:List SV}{u:Value}(h:Rep x (.agg cs) u):Rep x1 (.agg (cs.map SV.kclip)) u:=by
 cases h with
 |dat _ _ h _=>cases h
 |agg _ vs hl h=>
  refine .agg _ vs (by rw[aY];exact hl) fun i hi=> ?_
  rw[aY]at hi;have h1:=C7 hG hβ (h i hi);rw[aa,ac hi,aM]at h1;rw[aa,aR,ac hi,bp,aM];exact h1
theorem jW{x x1:Sit}(hG:x1.G=x.G)(hβ:x1.bk=x.bk){tk:List Nat}{j:Nat}{v:SV}{u:Value}(h:Rep x v u)(ht:nE x x1 j (jH tk j v).2):Rep x1 (jH tk j v).1 u:=by
 have hb:=h.bare hG hβ;cases v with
 |byt l t=>
  cases t with
  |no=>exact hb
  |clip=>have e:=ht 0 (by simp[jH]);obtain⟨b,cap,he,_,hD,hsp⟩:=h.byt_inv;obtain⟨a',n',he'⟩:=hsp;rw[<-hG]at hD;exact .dat _ _ (hD.tok (.byt l (.id j)) (.inl ⟨l,_,_,rfl,rfl⟩)) ⟨a',n',n',he',.inl rfl⟩
  |id t=>
   by_cases hc:tk.contains t=true
   ·have e:=ht 0 (by simp only[jH,hc,if_true,am];omega)
    simp only[jH,hc,if_true]at e ⊢;obtain⟨b,cap,he,_,hD,hsp⟩:=h.byt_inv;obtain⟨a',n',cap',he',hh⟩:=hsp;rw[<-hG]at hD;refine .dat _ _ (hD.tok (.byt l (.id j)) (.inl ⟨l,_,_,rfl,rfl⟩)) ⟨a',n',cap',he',hh.imp id ?_⟩;rintro⟨b,off,h1,h2⟩;exact⟨b,off,h1,by rw[gx]at e;rw[e];exact h2⟩
   ·simp only[jH,hc,if_false];exact hb
 |lst sz xs t=>
  cases t with
  |no=>exact hb
  |clip=>obtain⟨b,cap,he,_,hD,hsp⟩:=h.lst_inv;obtain⟨a',n',he'⟩:=hsp;rw[<-hG]at hD;exact .dat _ _ (hD.tok (.lst sz xs (.id j)) (.inr ⟨sz,xs,_,_,rfl,rfl⟩)) ⟨a',n',n',he',.inl rfl⟩
  |id t=>
   by_cases hc:tk.contains t=true
   ·have e:=ht 0 (by simp only[jH,hc,if_true,am];omega)
    simp only[jH,hc,if_true]at e ⊢;obtain⟨b,cap,he,_,hD,hsp⟩:=h.lst_inv;obtain⟨a',n',cap',he',hh⟩:=hsp;rw[<-hG]at hD;refine .dat _ _ (hD.tok (.lst sz xs (.id j)) (.inr ⟨sz,xs,_,_,rfl,rfl⟩)) ⟨a',n',cap',he',hh.imp id ?_⟩;rintro⟨b,off,h1,h2⟩;exact⟨b,off,h1,by rw[gx]at e;rw[e];exact h2⟩
   ·simp only[jH,hc,if_false];exact hb
 |agg cs=>exact xq hG hβ h
 |_=>exact hb
theorem nO{tk:List Nat}{j:Nat}{v:SV}:∀t∈cy (jH tk j v).2,t∈tk:=by
 intro t ht;cases v with
 |byt l q=>
  cases q with
  |id u=>
   by_cases hc:tk.contains u=true
   ·simp only[jH,hc,if_true,cy,bw]at ht;subst ht;simpa using hc
   ·simp only[jH,hc,if_false,cy]at ht;cases ht
  |_=>cases ht
 |lst sz xs q=>
  cases q with
  |id u=>
   by_cases hc:tk.contains u=true
   ·simp only[jH,hc,if_true,cy,bw]at ht;subst ht;simpa using hc
   ·simp only[jH,hc,if_false,cy]at ht;cases ht
  |_=>cases ht
 |_=>cases ht
theorem eX{x:Sit}{v:SV}{u:Value}{cs:List SV}{us:List Value}:cj x (v::cs) (u::us)↔Rep x v u/\cj x cs us:=by
 constructor
 ·intro h
  exact⟨h.2 0 (by simp),by simpa using h.1,fun i hi=>by simpa using h.2 (i+1) (by simpa using hi)⟩
 ·rintro⟨h1,h2⟩
  exact⟨by simp[h2.1],fun i hi=>by
   cases i with
   |zero=>exact h1
   |succ i=>simpa using h2.2 i (by simpa using hi)⟩
theorem EP{x x1:Sit}(hG:x1.G=x.G)(hβ:x1.bk=x.bk){tk:List Nat}{j:Nat}{v:SV}{u:Value}(h:Rep x v u)(ht:nE x x1 j (qP tk j v).2):Rep x1 (qP tk j v).1 u:=by
 cases v with
 |lst sz xs t=>
  cases t with
  |clip=>
   cases hx:xs.isEmpty with
   |true=>simp only[qP,tC,hx,tD];obtain⟨b,cap,he,_,hD,hsp⟩:=h.lst_inv;rw[<-hG]at hD;exact .dat _ _ hD hsp
   |false=>simp only[qP,tC,hx,tD]at ht ⊢;exact jW (tk:=tk) hG hβ h ht
  |no=>exact jW hG hβ h ht
  |id t=>exact jW hG hβ h ht
 |_=>exact jW hG hβ h ht
theorem Pd{tk:List Nat}{j:Nat}{v:SV}:∀t∈cy (qP tk j v).2,t∈tk:=by
 cases v with
 |lst sz xs t=>
  cases t with
  |clip=>
   cases hx:xs.isEmpty with
   |true=>intro t ht;simp[qP,tC,hx,tD,cy]at ht
   |false=>intro t ht;simp[qP,tC,hx,tD,cy]at ht
  |no=>exact nO
  |id t=>exact nO
 |_=>exact nO
theorem lz{x x1:Sit}(hG:x1.G=x.G)(hβ:x1.bk=x.bk){tk own:List Nat}:∀{cs:List SV}{us:List Value}{j i:Nat},cj x cs us->nE x x1 j (jI tk own j i cs).2->cj x1 (jI tk own j i cs).1 us
 |[],[],_,_,_,_=>⟨rfl,fun i hi=>by simp[jI]at hi⟩
 |[],_::_,_,_,h,_=>absurd h.1 (by simp)
 |_::_,[],_,_,h,_=>absurd h.1 (by simp)
 |v::r,u::us,j,i,h,ht=>by
  obtain⟨h1,h2⟩:=eX.1 h;simp only[jI]at ht ⊢;split
  ·rename_i hc
   rw[if_pos hc]at ht;exact eX.2 ⟨EP hG hβ h1 ht.left,lz hG hβ h2 ht.right⟩
  ·rename_i hc
   rw[if_neg hc]at ht;exact eX.2 ⟨h1.bare hG hβ,lz hG hβ h2 ht⟩
theorem nP{tk own:List Nat}:∀{cs:List SV}{j i:Nat},∀t∈cy (jI tk own j i cs).2,t∈tk
 |[],_,_,t,ht=>by cases ht
 |v::r,j,i,t,ht=>by
  simp only[jI]at ht;split at ht
  ·rw[fB,al]at ht
   exact ht.elim (Pd t) (nP t)
  ·exact nP t ht
theorem uG{x x1:Sit}(hG:x1.G=x.G)(hβ:x1.bk=x.bk){tk:List Nat}:∀{cs:List SV}{j:Nat}{f:Nat->Value},(∀k,k<cs.length->Rep x (cs.getD k .undef) (f k))->nE x x1 j (rS tk j cs).2->
 (rS tk j cs).1.length=cs.length/\∀k,k<cs.length->Rep x1 ((rS tk j cs).1.getD k .undef) (f k)
 |[],_,_,_,_=>⟨rfl,fun i hi=>by simp at hi⟩
 |v::r,j,f,h,ht=>by
  simp only[rS]at ht ⊢;obtain⟨h1,h2⟩:=uG (f:=fun k=>f (k+1)) hG hβ (fun k hk=>by simpa using h (k+1) (by simpa using hk)) ht.right;refine⟨by simp[h1],fun k hk=> ?_⟩;cases k with
  |zero=>exact jW hG hβ (h 0 (by simp)) ht.left
  |succ k=>simpa using h2 k (by simpa using hk)
theorem zQ{tk:List Nat}:∀{cs:List SV}{j:Nat},∀t∈cy (rS tk j cs).2,t∈tk
 |[],_,t,ht=>by cases ht
 |v::r,j,t,ht=>by simp only[rS]at ht;rw[fB,al]at ht;exact ht.elim (nO t) (zQ t)
theorem Cp{x x1:Sit}(hG:x1.G=x.G)(hβ:x1.bk=x.bk){tk:List Nat}{j o:Nat}{ob:aC}(h:dM x w o ob)(ht:nE x x1 j (jA tk j ob).2):dM x1 w o (jA tk j ob).1:=by
 obtain⟨cc,e,fl,fh,hO,hs,hr⟩:=h;cases ob with
 |rc cs=>obtain⟨h1,h2⟩:=uG (f:=fun k=>cc.getD k Go.undef) hG hβ hr ht;exact⟨cc,e,fl,fh,by rw[hβ];exact hO,by rw[hβ];simp only[jA,aC.size,h1]at hs ⊢;exact hs,fun k hk=>h2 k (by simpa only[jA,aC.size,h1]using hk)⟩
 |arr sz xs=>exact⟨cc,e,fl,fh,by rw[hβ];exact hO,by rw[hβ];exact hs,fun k hk=>by have:=hr k hk;simp only[jA,cf]at this ⊢;rw[hG];exact this⟩
 |bar l=>exact⟨cc,e,fl,fh,by rw[hβ];exact hO,by rw[hβ];exact hs,fun k hk=>by have:=hr k hk;simp only[jA,cf]at this ⊢;rw[hG];exact this⟩
theorem ER{tk:List Nat}{j:Nat}{ob:aC}(h:ob.wf=true):(jA tk j ob).1.wf=true:=by cases ob<;>first|rfl|exact h
theorem ES{tk:List Nat}{j:Nat}{ob:aC}:∀t∈cy (jA tk j ob).2,t∈tk:=by
 intro t ht;cases ob with
 |rc cs=>exact zQ t ht
 |_=>cases ht
theorem kM{x x1:Sit}(hG:x1.G=x.G)(hβ:x1.bk=x.bk){tk:List Nat}:∀{obs:List aC}{j:Nat}{f:Nat->Nat},(∀k,k<obs.length->dM x w (f k) (obs.getD k (.rc [])))->nE x x1 j (ek tk j obs).2->
 (ek tk j obs).1.length=obs.length/\∀k,k<obs.length->dM x1 w (f k) ((ek tk j obs).1.getD k (.rc []))
 |[],_,_,_,_=>⟨rfl,fun i hi=>by simp at hi⟩
 |v::r,j,f,h,ht=>by
  simp only[ek]at ht ⊢;obtain⟨h1,h2⟩:=kM (f:=fun k=>f (k+1)) hG hβ (fun k hk=>by simpa using h (k+1) (by simpa using hk)) ht.right;refine⟨by simp[h1],fun k hk=> ?_⟩;cases k with
  |zero=>exact Cp hG hβ (h 0 (by simp)) ht.left
  |succ k=>simpa using h2 k (by simpa using hk)
theorem mi{tk:List Nat}:∀{obs:List aC}{j:Nat},∀t∈cy (ek tk j obs).2,t∈tk
 |[],_,t,ht=>by cases ht
 |v::r,j,t,ht=>by simp only[ek]at ht;rw[fB,al]at ht;exact ht.elim (ES t) (mi t)
theorem mh{tk:List Nat}:∀{obs:List aC}{j:Nat},(∀o∈obs,o.wf=true)->∀o∈(ek tk j obs).1,o.wf=true
 |[],_,_,o,ho=>by cases ho
 |v::r,j,h,o,ho=>by
  simp only[ek]at ho;rcases aw.1 ho with e|e
  ·rw[e];exact ER (h v (aE ..))
  ·exact mh (fun o h'=>h o (av _ h')) o e
theorem l6{m:List Nat}{o:Nat}(h:o∈m):gB m o<m.length/\m.getD (gB m o) 0=o:=by
 induction m with
 |nil=>cases h
 |cons p r ih=>
  simp only[gB];split
  ·rename_i hp;subst hp;simp
  ·rename_i hp
   obtain⟨h1,h2⟩:=ih ((aw.1 h).resolve_left (Ne.symm hp));exact⟨by simpa using h1,by simpa using h2⟩
theorem ji{l:List Nat}(h:dB l=true):l.Nodup:=by
 induction l with
 |nil=>exact List.nodup_nil
 |cons p r ih=>simp only[dB,aA,cV,eU,decide_eq_false_iff_not]at h;exact dN.2 ⟨h.1,ih h.2⟩
theorem uH{l r:List Nat}(h:nQ l r=true):∀o∈l,o∈r:=by intro o ho;simp only[nQ,aV,eU,decide_eq_true_eq]at h;exact h o ho
theorem pm:∀{m:List Nat}{os:List aC},gu c m=some os->os.length=m.length/\∀i,i<m.length->c.look (m.getD i 0)=some (os.getD i (.rc []))
 |[],os,h=>by cases h;exact⟨rfl,fun i hi=>by simp at hi⟩
 |o::r,os,h=>by
  simp only[gu]at h;split at h<;>cases h;rename_i ob l h1 h2;obtain⟨h3,h4⟩:=pm h2;refine⟨by simp[h3],fun i hi=> ?_⟩;cases i with
  |zero=>exact h1
  |succ i=>simpa using h4 i (by simpa using hi)
theorem ge(mo mt:Nat->Nat)(l:List aC):eu mo mt l=l.map fun o=>o.ren mo mt:=by
 induction l with
 |nil=>rfl
 |cons p r ih=>simp only[eu,aF,ih]
theorem ov{l:List aC}{o:aC}(h:o∈l):∀k∈o.ids,k∈fG l:=by
 induction l with
 |nil=>cases h
 |cons p r ih=>
  intro k hk;simp only[fG,al];rcases aw.1 h with e|e
  ·subst e;exact .inl hk
  ·exact .inr (ih e k hk)
theorem mN{l:List (Option Nat)}(h:(cy l).Nodup):∀{i j:Nat}{t u:Nat},i≠j->l.getD i none=some t->l.getD j none=some u->t≠u:=by
 have key:∀{l:List (Option Nat)},(cy l).Nodup->∀{i j:Nat}{t u:Nat},i<j->l.getD i none=some t->l.getD j none=some u->t≠u:=by
  intro l;induction l with
  |nil=>intro _ i j t u _ h1;simp at h1
  |cons o r ih=>
   intro hn i j t u hij h1 h2
   have hr:(cy r).Nodup:=by cases o with
    |none=>exact hn
    |some q=>exact(dN.1 hn).2
   cases j with
   |zero=>omega
   |succ j=>
    rw[lT]at h2;cases i with
    |zero=>
     rw[List.getD_cons_zero]at h1;subst h1
     have h3:some u∈r:=by
      rw[aa]at h2;cases hj:r[j]? with
      |none=>rw[hj]at h2;cases h2
      |some q=>rw[hj]at h2;cases h2;exact List.mem_of_getElem? hj
     intro e;subst e;exact(dN.1 hn).1 (kg.2 h3)
    |succ i=>rw[lT]at h1;exact ih hr (by omega) h1 h2
 intro i j t u hij h1 h2;rcases Nat.lt_or_gt_of_ne hij with h3|h3
 ·exact key h h3 h1 h2
 ·exact(key h h3 h2 h1).symm
theorem jv{b n t:Nat}:t∈tks b n↔b<=t/\t<b+n:=by
 unfold tks
 have:∀n k,k∈jU n↔k<n:=by
  intro n;induction n with
  |zero=>intro k;simp[jU]
  |succ n ih=>intro k;simp only[jU,al,ih,bw];omega
 simp only[aT,this];constructor
 ·rintro⟨k,h,rfl⟩;omega
 ·rintro⟨h1,h2⟩;exact⟨t-b,by omega,by omega⟩
structure Eo(x x2:Sit)(c:CSt)(m:List Nat)(mt:List (Option Nat)):Prop where
 G:x2.G=x.G
 bk:∀i,i<m.length->x2.bk i=x.bk (m.getD i 0)
 τ:nE x x2 50 mt
 nd:m.Nodup
 ob:∀i,i<m.length->∃ob,(m.getD i 0,ob)∈c.ob
 tnd:(cy mt).Nodup
 tk:∀t∈cy mt,t∈c.tk
def Ctx.took(x2:Sit)(w:World)(n k:Nat):Ctx:=
 ⟨w,x2.G,fun b=>w.heap.size<=b\/(∃i,i<n/\(x2.bk i).1=b)\/(∃t,50<=t/\t<50+k/\(x2.τ t).2.1≠(x2.τ t).2.2/\(x2.τ t).1=b),x2.bk⟩
theorem fO{m:List Nat}{i:Nat}(h:i<m.length):m.getD i 0∈m:=by rw[aa,ac h];exact bo _
theorem kS{m:List Nat}(h:m.Nodup){i j:Nat}(hi:i<m.length)(hj:j<m.length)(e:m.getD i 0=m.getD j 0):i=j:=by rw[aa,aa,ac hi,ac hj]at e;exact qY h hi hj e
theorem iG{l:List (Option Nat)}{i t:Nat}(h:l.getD i none=some t):t∈cy l:=by
 rw[aa]at h;cases hj:l[i]? with
 |none=>rw[hj]at h;cases h
 |some q=>rw[hj]at h;cases h;exact kg.2 (List.mem_of_getElem? hj)
theorem Eo.tok{x2:Sit}{m:List Nat}{mt:List (Option Nat)}(h:Eo x x2 c m mt){t:Nat}(h1:50<=t)(h2:t<50+mt.length):
 (x2.τ t).2.1=(x2.τ t).2.2\/∃u,mt.getD (t-50) none=some u/\x2.τ t=x.τ u/\u∈c.tk/\u∈cy mt:=by
 have e:=h.τ (t-50) (by omega);rw[show 50+(t-50)=t by omega]at e;cases hu:mt.getD (t-50) none with
 |none=>rw[hu]at e;rw[e];exact .inl rfl
 |some u=>rw[hu]at e;exact .inr ⟨u,rfl,e,h.tk u (iG hu),iG hu⟩
theorem qO{x2:Sit}{m:List Nat}{mt:List (Option Nat)}(hH:cX C x c.ob c.tk w)(h:Eo x x2 c m mt){objs:List aC}(hl:objs.length=m.length)
 (ho:∀i,i<m.length->dM x2 w i (objs.getD i (.rc []))):cX (Ctx.took x2 w m.length mt.length) x2 (idx objs) (tks 50 mt.length) w:=by
 refine⟨fun b o v hv=>hH.per b o v (by rw[<-h.G];exact hv),fun _ _ _ hv=>hv,fun _ _ _ hv=> .inl hv,fun b hb=> .inl hb, ?_,mp objs, ?_, ?_, ?_, ?_,rfl,rfl,rfl,aK _,fun _ _=>rfl,fun _ _=>rfl,hH.lay.mono (fun b o v hv=>by show x2.G b o=some v;rw[h.G];exact hH.g0 b o v hv)⟩
 ·intro p hp
  obtain⟨h1,h2⟩:=iM.1 hp;rw[hl]at h1;obtain⟨ob,h3⟩:=h.ob p.1 h1;refine⟨by rw[h2];exact ho p.1 h1,.inr (.inl ⟨p.1,h1,rfl⟩),fun off=> ?_⟩;rw[h.G,h.bk _ h1];exact(hH.obs _ h3).2.2 off
 ·intro p hp q hq hpq
  obtain⟨h1,_⟩:=iM.1 hp;obtain⟨h2,_⟩:=iM.1 hq;rw[hl]at h1 h2;rw[h.bk _ h1,h.bk _ h2]at hpq;obtain⟨o1,g1⟩:=h.ob _ h1;obtain⟨o2,g2⟩:=h.ob _ h2;exact kS h.nd h1 h2 (hH.inj _ g1 _ g2 hpq)
 ·intro t ht
  obtain⟨h1,h2⟩:=jv.1 ht;rcases h.tok h1 h2 with h3|⟨u,_,h4,h5,_⟩
  ·exact .inl h3
  ·by_cases hne:(x2.τ t).2.1=(x2.τ t).2.2
   ·exact .inl hne
   ·have:=hH.tks u h5
    unfold gS at this ⊢;rw[h4]at hne ⊢;rcases this with g|⟨g1,g2,g3⟩
    ·exact absurd g hne
    ·exact .inr ⟨g1,.inr (.inr ⟨t,h1,h2,by rw[h4];exact hne,by rw[h4]⟩),by rw[h.G];exact g3⟩
 ·intro t ht p hp
  obtain⟨h1,h2⟩:=jv.1 ht;obtain⟨h6,_⟩:=iM.1 hp;rw[hl]at h6;rcases h.tok h1 h2 with h3|⟨u,_,h4,h5,_⟩
  ·exact .inr h3
  ·obtain⟨o1,g1⟩:=h.ob _ h6
   rw[h4,h.bk _ h6];exact hH.tko u h5 _ g1
 ·intro t ht u hu htu
  obtain⟨h1,h2⟩:=jv.1 ht;obtain⟨h3,h4⟩:=jv.1 hu;rcases h.tok h1 h2 with g|⟨t',g1,g2,g3,_⟩
  ·exact .inr (.inl g)
  ·rcases h.tok h3 h4 with k|⟨u',k1,k2,k3,_⟩
   ·exact .inr (.inr k)
   ·rw[g2,k2]
    exact hH.tkd t' g3 u' k3 (mN h.tnd (by omega) g1 k1)
end Go.Sy
namespace Go.Sy
variable [bf]
variable {P : Program} {C : Ctx} {x : Sit} {a : Act} {w : World} {N : Nat} {c c' : CSt} {s : St}
theorem Fu(d:Nat)(l:List Nat):qA d l=l.map (js d):=by
 induction l with
 |nil=>rfl
 |cons p r ih=>simp only[qA,aF,ih]
theorem mw{k:List Nat}{t:Nat}:∀{l:List Nat},t∈lP k l↔t∈l/\t∉k
 |[]=>by simp[lP]
 |p::r=>by
  simp only[lP];split
  ·rename_i hc
   have hp:p∈k:=by simpa using hc
   rw[mw,aw];constructor
   ·rintro⟨h1,h2⟩;exact⟨.inr h1,h2⟩
   ·rintro⟨h1|h1,h2⟩
    ·exact absurd (h1 ▸ hp) h2
    ·exact⟨h1,h2⟩
  ·rename_i hc
   have hp:p∉k:=by simpa using hc
   rw[aw,mw,aw];constructor
   ·rintro(h1|⟨h1,h2⟩)
    ·exact⟨.inl h1,h1 ▸ hp⟩
    ·exact⟨.inr h1,h2⟩
   ·rintro⟨h1|h1,h2⟩
    ·exact .inl h1
    ·exact .inr ⟨h1,h2⟩
theorem re{t:Nat}:∀{r l:List Nat},t∈qD l r↔t∈r\/t∈l
 |[],l=>by simp[qD]
 |p::r,l=>by
  simp only[qD];rw[re,j1,aw];constructor
  ·rintro(h|h|h)
   ·exact .inl (.inr h)
   ·exact .inl (.inl h)
   ·exact .inr h
  ·rintro((h|h)|h)
   ·exact .inr (.inl h)
   ·exact .inl h
   ·exact .inr (.inr h)
theorem mu{p:Nat×aC}:∀{r l:List (Nat×aC)},p∈qC l r->p∈r\/p∈l
 |[],l,h=> .inr h
 |q::r,l,h=>by
  simp only[qC]at h;rcases mu h with e|e
  ·exact .inl (av _ e)
  ·rcases j0 e with e|e
   ·exact .inl (e ▸ aE ..)
   ·exact .inr e
theorem zZ:∀{r l:List (Nat×aC)},(l.map cH).Pairwise (· < ·)->((qC l r).map cH).Pairwise (· < ·)
 |[],_,h=>h
 |_::r,_,h=>zZ (r:=r) (tF h)
theorem yb{mo mt:Nat->Nat}{o:aC}(h:o.wf=true):(o.ren mo mt).wf=true:=by cases o<;>first|rfl|exact h
theorem wq{x2:Sit}{m:List Nat}{mt:List (Option Nat)}(hold:cX C x c.ob c.tk w)(h:Eo x x2 c m mt){x':Sit}{w':World}{q:dv}(hH:cX (Ctx.took x2 w m.length mt.length) x' q.os q.tk w'){D:Nat}
 (hm:∀o∈m,inR D o=false) (hos:∀p∈q.os,p.1<1000/\(∀k∈p.2.ids,k<1000)/\∀k∈p.2.toks,k<1000) (htk:∀t∈q.tk,t<1000) (hg:∀i,i<m.length->x'.bk i=x2.bk i):
 ∃x3:Sit,x3.G=x'.G/\(∀b o v,x.G b o=some v->x3.G b o=some v)/\(∀k,k<1000->x3.bk (im D m k)=x'.bk k)/\(∀k,k<1000->x3.τ (js D k)=x'.τ k)/\
  (∀k,¬((D+1)*1000<=k/\k<(D+2)*1000)->x3.bk k=x.bk k)/\(∀k,¬((D+1)*1000<=k/\k<(D+2)*1000)->x3.τ k=x.τ k)/\
  cX C x3 (nX D m q.os++fe m (bF ((D+1)*1000) ((D+2)*1000) c.ob)) (qA D q.tk++lP (cy mt) (cz ((D+1)*1000) ((D+2)*1000) c.tk)) w':=by
 let lo:=(D+1)*1000
 let hi:=(D+2)*1000
 have hlo:lo=(D+1)*1000:=rfl;have hhi:hi=(D+2)*1000:=rfl
 let β2:Nat->Nat×Nat:=fun k=>if inR D k then x'.bk (k-lo)else x.bk k
 let τ2:Nat->Nat×Nat×Nat:=fun k=>if inR D k then x'.τ (k-lo)else x.τ k
 have hin:∀k,k<1000->inR D (lo+k)=true:=by intro k hk;simp only[inR,aA,decide_eq_true_eq];omega
 have hout:∀k,¬(lo<=k/\k<hi)->inR D k=false:=by intro k hk;rw[Bool.eq_false_iff];intro h;simp only[inR,aA,decide_eq_true_eq]at h;exact hk h
 have hβ2:∀k,¬(lo<=k/\k<hi)->β2 k=x.bk k:=fun k hk=>by simp only[β2];rw[hout k hk];rfl
 have hτ2:∀k,¬(lo<=k/\k<hi)->τ2 k=x.τ k:=fun k hk=>by simp only[τ2];rw[hout k hk];rfl
 have hβnew:∀k,k<1000->β2 (im D m k)=x'.bk k:=by
  intro k hk
  by_cases hkm:k<m.length
  ·have h1:im D m k=m.getD k 0:=if_pos hkm
   simp only[β2];rw[h1,hm _ (fO hkm),hg k hkm,h.bk k hkm];rfl
  ·have h1:im D m k=lo+k:=if_neg hkm
   simp only[β2];rw[h1,hin k hk,if_pos rfl];congr 1;omega
 have hτnew:∀k,k<1000->τ2 (js D k)=x'.τ k:=by intro k hk;have h1:js D k=lo+k:=rfl;simp only[τ2];rw[h1,hin k hk,if_pos rfl];congr 1;omega
 have hG:∀b o v,x.G b o=some v->x'.G b o=some v:=fun b o v hv=>hH.g0 b o v (by show x2.G b o=_;rw[h.G];exact hv)
 refine⟨⟨x'.G,β2,τ2⟩,rfl,hG,hβnew,hτnew,hβ2,hτ2, ?_⟩;rw[vf,Fu]
 have hmine:∀b,(Ctx.took x2 w m.length mt.length).mine b->C.mine b:=by
  rintro b (h1|⟨i,hi,rfl⟩|⟨t,h1,h2,h3,rfl⟩)
  ·exact hold.new b (kL hold.size h1)
  ·obtain⟨ob,hob⟩:=h.ob i hi
   rw[h.bk i hi];exact(hold.obs _ hob).2.1
  ·rcases h.tok h1 h2 with g|⟨u,_,g1,g2,_⟩
   ·exact absurd g h3
   ·rw[g1]at h3 ⊢
    rcases hold.tks u g2 with k|⟨_,k,_⟩
    ·exact absurd k h3
    ·exact k
 have hkeep:∀b,b<w.heap.size->(∀i,i<m.length->(x.bk (m.getD i 0)).1≠b)->(∀u∈cy mt,(x.τ u).2.1=(x.τ u).2.2\/(x.τ u).1≠b)->w'.heap[b]? =w.heap[b]? /\((∀off,x.G b off=none)->∀off,x'.G b off=none)/\
  (∀off,x.G b off=none->x'.G b off=none):=by
  intro b hb hne hnt
  have hnm:¬(Ctx.took x2 w m.length mt.length).mine b:=by
   rintro(h1|⟨i,hi,h1⟩|⟨t,h1,h2,h3,h4⟩)
   ·omega
   ·rw[h.bk i hi]at h1;exact hne i hi h1
   ·rcases h.tok h1 h2 with g|⟨u,_,g1,_,g3⟩
    ·exact h3 g
    ·rw[g1]at h3 h4
     rcases hnt u g3 with k|k
     ·exact h3 k
     ·exact k h4
  have one:∀off,x.G b off=none->x'.G b off=none:=by
   intro off ho;cases hg:x'.G b off with
   |none=>rfl
   |some v=>
    rcases hH.gm b off v hg with h1|h1
    ·change x2.G b off=some v at h1;rw[h.G,ho]at h1;cases h1
    ·exact absurd h1 hnm
  exact⟨hH.ext b hnm,fun h off=>one off (h off),one⟩
 have hlow:∀p∈fe m (bF lo hi c.ob),∃ob,(p.1,ob)∈c.ob/\p.2=ob.purge lo hi/\¬(lo<=p.1/\p.1<hi)/\p.1∉m/\(∀i,i<m.length->(x.bk (m.getD i 0)).1≠(x.bk p.1).1)/\(∀u∈cy mt,(x.τ u).2.1=(x.τ u).2.2\/(x.τ u).1≠(x.bk p.1).1)/\(x.bk p.1).1<w.heap.size:=by
  intro p hp;obtain⟨h1,h2⟩:=jl.1 hp;obtain⟨h3,ob,h4,h5⟩:=ct h1;refine⟨ob,h4,h5,h3,h2,fun i hi e=> ?_,fun u hu=> ?_, ?_⟩
  ·obtain⟨ob',hob'⟩:=h.ob i hi
   have:=hold.inj _ hob' _ h4 e;simp only at this;apply h2;rw[<-this];exact fO hi
  ·exact(hold.tko u (h.tk u hu) _ h4).symm
  ·obtain⟨⟨c,e,fl,fh,hO,_⟩,_⟩:=hold.obs _ h4
   exact hO.lt
 have hnew:∀p∈q.os.map (fun p=>(im D m p.1,p.2.ren (im D m) (js D))),∃r∈q.os,p=(im D m r.1,r.2.ren (im D m) (js D))/\β2 p.1=x'.bk r.1:=by intro p hp;obtain⟨r,hr,rfl⟩:=aT.1 hp;exact⟨r,hr,rfl,hβnew _ (hos r hr).1⟩
 have hnewmine:∀r∈q.os,w.heap.size<=(x'.bk r.1).1\/(∃i,i<m.length/\(x.bk (m.getD i 0)).1=(x'.bk r.1).1)\/(∃u∈cy mt,(x.τ u).2.1≠(x.τ u).2.2/\(x.τ u).1=(x'.bk r.1).1):=by
  intro r hr;rcases (hH.obs r hr).2.1 with h1|⟨i,hi,h1⟩|⟨t,h1,h2,h3,h4⟩
  ·exact .inl h1
  ·exact .inr (.inl ⟨i,hi,by rw[<-h.bk i hi];exact h1⟩)
  ·rcases h.tok h1 h2 with g|⟨u,_,g1,_,g3⟩
   ·exact absurd g h3
   ·rw[g1]at h3 h4;exact .inr (.inr ⟨u,g3,h3,h4⟩)
 have htmine:∀t∈q.tk,(x'.τ t).2.1=(x'.τ t).2.2\/w.heap.size<=(x'.τ t).1\/(∃i,i<m.length/\(x.bk (m.getD i 0)).1=(x'.τ t).1)\/(∃u∈cy mt,(x.τ u).2.1≠(x.τ u).2.2/\(x.τ u).1=(x'.τ t).1):=by
  intro t ht;rcases hH.tks t ht with k|⟨_,k,_⟩
  ·exact .inl k
  ·right
   rcases k with h1|⟨i,hi,h1⟩|⟨t',h1,h2,h3,h4⟩
   ·exact .inl h1
   ·exact .inr (.inl ⟨i,hi,by rw[<-h.bk i hi];exact h1⟩)
   ·rcases h.tok h1 h2 with g|⟨u,_,g1,_,g3⟩
    ·exact absurd g h3
    ·rw[g1]at h3 h4;exact .inr (.inr ⟨u,g3,h3,h4⟩)
 have htold:∀t∈lP (cy mt) (cz lo hi c.tk),t∈c.tk/\¬(lo<=t/\t<hi)/\t∉cy mt:=fun t ht=>by obtain⟨h1,h2⟩:=mw.1 ht;obtain⟨h3,h4⟩:=bK.1 h1;exact⟨h3,h4,h2⟩
 have htblock:∀t∈c.tk,t∉cy mt->(x.τ t).2.1=(x.τ t).2.2\/((x.τ t).1<w.heap.size/\(∀i,i<m.length->(x.bk (m.getD i 0)).1≠(x.τ t).1)/\(∀u∈cy mt,(x.τ u).2.1=(x.τ u).2.2\/(x.τ u).1≠(x.τ t).1)):=by
  intro t ht hnt;rcases hold.tks t ht with h1|⟨⟨c,e,fl,fh,hO,_⟩,_⟩
  ·exact .inl h1
  ·by_cases he:(x.τ t).2.1=(x.τ t).2.2
   ·exact .inl he
   ·refine .inr ⟨hO.lt,fun i hi e'=> ?_,fun u hu=> ?_⟩
    ·obtain⟨ob,hob⟩:=h.ob i hi
     rcases hold.tko t ht _ hob with h1|h1
     ·exact h1 e'.symm
     ·exact he h1
    ·rcases hold.tkd u (h.tk u hu) t ht (fun e=>hnt (e ▸ hu))with k|k|k
     ·exact .inr k
     ·exact .inl k
     ·exact absurd k he
 refine⟨hH.per,fun b o v hv=>hG _ _ _ (hold.g0 b o v hv), ?_,hold.new, ?_, ?_, ?_, ?_, ?_, ?_,hH.os.trans hold.os,hH.tape.trans hold.tape,hH.output.trans hold.output,kL hold.size hH.size, ?_,fun i hi=>(hβ2 i (by omega)).trans (hold.pin i hi),hold.lay⟩
 ·intro b o v hv
  rcases hH.gm b o v hv with h1|h1
  ·exact hold.gm b o v (by rw[<-h.G];exact h1)
  ·exact .inr (hmine b h1)
 ·intro p hp
  rcases al.1 hp with hp|hp
  ·obtain⟨r,hr,rfl,hb⟩:=hnew p hp
   obtain⟨h1,h2,h3⟩:=hH.obs r hr;refine⟨h1.renF (x2:=⟨x'.G,β2,τ2⟩) (fun _ _ _ h=>h) (hβnew _ (hos r hr).1) (fun k hk=>hβnew k ((hos r hr).2.1 k hk)) (fun t ht=>hτnew t ((hos r hr).2.2 t ht)), ?_,fun off=> ?_⟩
   ·show C.mine (β2 (im D m r.1)).1;rw[hβnew _ (hos r hr).1];exact hmine _ h2
   ·show x'.G (β2 (im D m r.1)).1 off=none;rw[hβnew _ (hos r hr).1];exact h3 off
  ·obtain⟨ob,h1,h2,h3,h4,h5,h6,h7⟩:=hlow p hp
   obtain⟨g1,g2,g3⟩:=hold.obs _ h1;obtain⟨k1,k2,_⟩:=hkeep _ h7 h5 h6;have hb:β2 p.1=x.bk p.1:=hβ2 _ h3;refine⟨?_,by show C.mine (β2 p.1).1;rw[hb];exact g2,fun off=>by show x'.G (β2 p.1).1 off=none;rw[hb];exact k2 g3 off⟩;rw[h2];exact dM.of_heap (x':=⟨x'.G,β2,τ2⟩) g1 k1 hG hβ2 hτ2 h3
 ·rw[du,List.nodup_append]
  refine⟨?_, ?_, ?_⟩
  ·rw[List.map_map]
   have hnd':=gq.1 hH.nd;refine gq.2 (qH.imp_of_mem (fun{p r} hp hr hne=> ?_) hnd');intro e;simp only[Function.comp]at e;have:(x'.bk p.1).1=(x'.bk r.1).1:=by rw[<-hβnew _ (hos p hp).1,<-hβnew _ (hos r hr).1,e]
   exact hne (hH.inj p hp r hr this)
  ·have h1:(fe m (bF lo hi c.ob)).Sublist (bF lo hi c.ob):=gP _ _
   refine we.sublist (h1.map cH) ?_;rw[eM];exact hold.nd.filter _
  ·intro o1 h1 o2 h2 e
   subst e;obtain⟨p,hp,rfl⟩:=aT.1 h1;obtain⟨r,hr,hre⟩:=aT.1 h2;obtain⟨u,hu,rfl⟩:=aT.1 hp;obtain⟨ob,k1,k2,k3,k4,_⟩:=hlow r hr;simp only at hre
   by_cases hum:u.1<m.length
   ·apply k4;rw[hre];show im D m u.1∈m;unfold im;rw[if_pos hum];exact fO hum
   ·apply k3;rw[hre];show lo<=im D m u.1/\im D m u.1<hi
    unfold im;rw[if_neg hum];have:=(hos u hu).1;omega
 ·intro p hp r hr hpr
  change (β2 p.1).1=(β2 r.1).1 at hpr;rcases al.1 hp with hp|hp<;>rcases al.1 hr with hr|hr
  ·obtain⟨p',hp',rfl,hb⟩:=hnew p hp
   obtain⟨r',hr',rfl,hb'⟩:=hnew r hr;rw[hb,hb']at hpr;have:=hH.inj p' hp' r' hr' hpr;simp only;rw[this]
  ·obtain⟨p',hp',rfl,hb⟩:=hnew p hp
   obtain⟨ob,k1,k2,k3,k4,k5,k6,k7⟩:=hlow r hr;rw[hb,hβ2 _ k3]at hpr;rcases hnewmine p' hp' with h1|⟨i,hi,h1⟩|⟨u,hu,h1,h2⟩
   ·omega
   ·exact absurd (h1.trans hpr) (k5 i hi)
   ·rcases k6 u hu with g|g
    ·exact absurd g h1
    ·exact absurd (h2.trans hpr) g
  ·obtain⟨r',hr',rfl,hb⟩:=hnew r hr
   obtain⟨ob,k1,k2,k3,k4,k5,k6,k7⟩:=hlow p hp;rw[hb,hβ2 _ k3]at hpr;rcases hnewmine r' hr' with h1|⟨i,hi,h1⟩|⟨u,hu,h1,h2⟩
   ·omega
   ·exact absurd (h1.trans hpr.symm) (k5 i hi)
   ·rcases k6 u hu with g|g
    ·exact absurd g h1
    ·exact absurd (h2.trans hpr.symm) g
  ·obtain⟨ob,k1,k2,k3,_⟩:=hlow p hp
   obtain⟨ob',k1',k2',k3',_⟩:=hlow r hr;rw[hβ2 _ k3,hβ2 _ k3']at hpr;exact hold.inj (p.1,ob) k1 (r.1,ob') k1' hpr
 ·intro t ht
  rcases al.1 ht with ht|ht
  ·obtain⟨u,hu,rfl⟩:=aT.1 ht
   have:=hH.tks u hu;unfold gS at this ⊢;simp only[hτnew u (htk u hu)];exact this.imp id fun⟨h1,h2,h3⟩=>⟨h1,hmine _ h2,h3⟩
  ·obtain⟨h1,h2,h3⟩:=htold t ht
   have:=hold.tks t h1;unfold gS at this ⊢;simp only[hτ2 t h2];rcases this with g|⟨⟨c,e,fl,fh,hO,hc⟩,h4,h5⟩
   ·exact .inl g
   ·rcases htblock t h1 h3 with g|⟨k1,k2,k3⟩
    ·exact .inl g
    ·obtain⟨g1,_,g2⟩:=hkeep _ k1 k2 k3
     exact .inr ⟨⟨c,e,fl,fh,hO.of_heap g1,hc⟩,h4,fun o ho1 ho2=>g2 o (h5 o ho1 ho2)⟩
 ·intro t ht p hp
  rcases al.1 ht with ht|ht<;>rcases al.1 hp with hp|hp
  ·obtain⟨u,hu,rfl⟩:=aT.1 ht
   obtain⟨r,hr,rfl,hb⟩:=hnew p hp;show(τ2 (js D u)).1≠(β2 (im D m r.1)).1\/(τ2 (js D u)).2.1=(τ2 (js D u)).2.2;rw[hτnew u (htk u hu),hβnew _ (hos r hr).1];exact hH.tko u hu r hr
  ·obtain⟨u,hu,rfl⟩:=aT.1 ht
   obtain⟨ob,k1,k2,k3,k4,k5,k6,k7⟩:=hlow p hp;show(τ2 (js D u)).1≠(β2 p.1).1\/(τ2 (js D u)).2.1=(τ2 (js D u)).2.2;rw[hτnew u (htk u hu),hβ2 _ k3];rcases htmine u hu with g|g|⟨i,hi,g⟩|⟨v,hv,g1,g2⟩
   ·exact .inr g
   ·left;intro e;omega
   ·left;intro e;exact k5 i hi (g.trans e)
   ·left;intro e
    rcases k6 v hv with k|k
    ·exact g1 k
    ·exact k (g2.trans e)
  ·obtain⟨h1,h2,h3⟩:=htold t ht
   obtain⟨r,hr,rfl,hb⟩:=hnew p hp;show(τ2 t).1≠(β2 (im D m r.1)).1\/(τ2 t).2.1=(τ2 t).2.2;rw[hτ2 t h2,hβnew _ (hos r hr).1];rcases htblock t h1 h3 with g|⟨k1,k2,k3⟩
   ·exact .inr g
   ·left;intro e
    rcases hnewmine r hr with g|⟨i,hi,g⟩|⟨v,hv,g1,g2⟩
    ·omega
    ·exact k2 i hi (g.trans e.symm)
    ·rcases k3 v hv with k|k
     ·exact g1 k
     ·exact k (g2.trans e.symm)
  ·obtain⟨h1,h2,h3⟩:=htold t ht
   obtain⟨ob,k1,k2,k3,_⟩:=hlow p hp;show(τ2 t).1≠(β2 p.1).1\/(τ2 t).2.1=(τ2 t).2.2;rw[hτ2 t h2,hβ2 _ k3];exact hold.tko t h1 (p.1,ob) k1
 ·intro t ht u hu htu
  show kK (τ2 t) (τ2 u)\/(τ2 t).2.1=(τ2 t).2.2\/(τ2 u).2.1=(τ2 u).2.2;rcases al.1 ht with ht|ht<;>rcases al.1 hu with hu|hu
  ·obtain⟨t',ht',rfl⟩:=aT.1 ht
   obtain⟨u',hu',rfl⟩:=aT.1 hu;rw[hτnew t' (htk t' ht'),hτnew u' (htk u' hu')];exact hH.tkd t' ht' u' hu' (fun e=>htu (by rw[e]))
  ·obtain⟨t',ht',rfl⟩:=aT.1 ht
   obtain⟨h1,h2,h3⟩:=htold u hu;rw[hτnew t' (htk t' ht'),hτ2 u h2];rcases htblock u h1 h3 with k|⟨k1,k2,k3⟩
   ·exact .inr (.inr k)
   ·rcases htmine t' ht' with g|g|⟨i,hi,g⟩|⟨v,hv,g1,g2⟩
    ·exact .inr (.inl g)
    ·exact .inl fun e=>by omega
    ·exact .inl fun e=>k2 i hi (g.trans e)
    ·refine .inl fun e=> ?_
     rcases k3 v hv with k|k
     ·exact g1 k
     ·exact k (g2.trans e)
  ·obtain⟨u',hu',rfl⟩:=aT.1 hu
   obtain⟨h1,h2,h3⟩:=htold t ht;rw[hτnew u' (htk u' hu'),hτ2 t h2];rcases htblock t h1 h3 with k|⟨k1,k2,k3⟩
   ·exact .inr (.inl k)
   ·rcases htmine u' hu' with g|g|⟨i,hi,g⟩|⟨v,hv,g1,g2⟩
    ·exact .inr (.inr g)
    ·exact .inl fun e=>by omega
    ·exact .inl fun e=>k2 i hi (g.trans e.symm)
    ·refine .inl fun e=> ?_
     rcases k3 v hv with k|k
     ·exact g1 k
     ·exact k (g2.trans e.symm)
  ·obtain⟨h1,h2,_⟩:=htold t ht
   obtain⟨h3,h4,_⟩:=htold u hu;rw[hτ2 t h2,hτ2 u h4];exact hold.tkd t h1 u h3 htu
 ·intro b hb
  have hnm:¬(Ctx.took x2 w m.length mt.length).mine b:=fun h=>hb (hmine b h)
  exact(hH.ext b hnm).trans (hold.ext b hb)
end Go.Sy
namespace Go.Sy
variable [bf]
variable {P : Program} {C : Ctx} {x : Sit} {a : Act} {w : World} {N : Nat} {c c' : CSt} {s : St}
theorem wt(t:Tok):t.ren (fun k=>k)=t:=by cases t<;>rfl
theorem xaM(sv:SV):sv.ren (fun k=>k) (fun k=>k)=sv:=by
 refine SV.rec (motive_1:=fun sv=>sv.ren (fun k=>k) (fun k=>k)=sv) (motive_2:=fun _=>True) (motive_3:=fun l=>SV.renL (fun k=>k) (fun k=>k) l=l)
  ?_ ?_ ?_ ?_ ?_ ?_ ?_ ?_ ?_ ?_ ?_ ?_ ?_ ?_ ?_ ?_ ?_ ?_ ?_ ?_ sv
 all_goals intros
 all_goals first
  |trivial
  |rfl
  |(simp only[SV.ren,SV.renL,wt];done)
  |(simp only[SV.ren,SV.renL, *])
theorem xaH{q:dv}(h:q.small=true):(∀p∈q.os,p.1<1000/\(∀k∈p.2.ids,k<1000)/\∀k∈p.2.toks,k<1000)/\(∀k∈q.r.ids,k<1000)/\(∀k∈q.r.toks,k<1000)/\∀k∈q.tk,k<1000:=by simp only[dv.small,aA,aV,decide_eq_true_eq]at h;obtain⟨⟨⟨h1,h2⟩,h3⟩,h4⟩:=h;exact⟨fun p hp=>⟨(h1 p hp).1.1,(h1 p hp).1.2,(h1 p hp).2⟩,h2,h3,h4⟩
theorem mY{d:Option Nat}{m:List Nat}{mt:List (Option Nat)}{q:dv}{x2 x':Sit}{w':World}{v:Value}(hM:aN C x s a w)(hS:Sim N c s)(hd:∀k,d=some k->k<N)(h:Eo x x2 c m mt)
 (hH:cX (Ctx.took x2 w m.length mt.length) x' q.os q.tk w') (hr:Rep x' q.r v) (hwf:∀p∈q.os,p.2.wf=true) (hg:∀i,i<m.length->x'.bk i=x2.bk i) (hm:∀o∈m,inR (d.getD 0) o=false) (hs:q.small=true):
 M C N (jG c d m (cy mt) q) (a.put d v) w':=by
 obtain⟨s1,s2,s3,s4⟩:=xaH hs;have hE:=hS.exact hM;obtain⟨x3,g1,g2,g3,g4,g5,g6,g7⟩:=wq hE.heap h hH hm s1 s4 hg
 let c3:CSt:=⟨dp ((d.getD 0+1)*1000) ((d.getD 0+2)*1000) c.tm,qC (fe m (bF ((d.getD 0+1)*1000) ((d.getD 0+2)*1000) c.ob)) (nX (d.getD 0) m q.os),
  qD (lP (cy mt) (cz ((d.getD 0+1)*1000) ((d.getD 0+2)*1000) c.tk)) (qA (d.getD 0) q.tk)⟩
 have hI:Inv N c3:=by
  refine⟨fun p hp=> ?_,zZ ?_,fun p hp=> ?_⟩
  ·obtain⟨r,hr,e⟩:=jk hp
   rw[e];exact hS.inv.dom r hr
  ·exact qH.sublist ((gP _ _).map cH) (uL hS.inv.so)
  ·rcases mu hp with e|e
   ·rw[vf]at e
    obtain⟨r,hr,rfl⟩:=aT.1 e;exact yb (hwf r hr)
   ·obtain⟨_,ob,h1,h2⟩:=ct (jl.1 e).1
    rw[h2];exact o7 (hS.inv.wf _ h1)
 have hM3:aN C x3 (c3.st N) a w':=by
  refine⟨⟨?_,fun i hi=> ?_⟩,hM.defers,g7.only (fun p hp=> ?_) (iW hI.so) (fun t ht=> ?_)⟩
  ·have:=hE.tm.1;simpa[CSt.st]using this
  ·have hiN:i<N:=by simpa[CSt.st]using hi
   have h1:=hE.tm.2 i (by simpa[CSt.st]using hiN);simp only[CSt.st,aa,aR,ch hiN,bp,aM]at h1 ⊢;have e:c3.get i=(c.get i).purge ((d.getD 0+1)*1000) ((d.getD 0+2)*1000):=fZ _ _ i c.tm;rw[e];exact h1.mono (x':=x3) g2 g5 g6
  ·rcases mu hp with e|e
   ·exact al.2 (.inl e)
   ·exact al.2 (.inr e)
  ·rcases re.1 ht with e|e
   ·exact al.2 (.inl e)
   ·exact al.2 (.inr e)
 refine⟨x3,_,hM3.put d (c:=q.r.ren (im (d.getD 0) m) (js (d.getD 0))) ?_,(Sim.of hI).put hd _⟩;exact Rep.renF (x:=x') (x2:=x3) (fun b o v hv=>by rw[g1];exact hv) hr (fun k hk=>g3 k (s2 k hk)) (fun t ht=>g4 t (s3 t ht))
theorem xC{call:de}{g:Nat}{d:Option Nat}{as:List SV}{vs:List Value}(hM:aN C x s a w)(hS:Sim N c s)(hd:∀k,d=some k->k<N)(hsp:∀as os k q,call g as os k=some q->fz P g as os k (· =q))
 (hc:lO c d (call g (SV.bareL as) [] 0)=some c') (hvs:cj x as vs):Calls P g ⟨vs⟩ w fun en w'=>∃v,en= .returned v/\M C N c' (a.put d v) w':=by
 cases hq:call g (SV.bareL as) [] 0 with
 |none=>rw[hq]at hc;cases hc
 |some q=>
  rw[hq]at hc
  have hb:cj x (SV.bareL as) vs:=by rw[j8];refine⟨by simpa using hvs.1,fun i hi=> ?_⟩;rw[aW _ (by rfl)];exact(hvs.2 i (by simpa using hi)).bare rfl rfl
  obtain⟨_,hS'⟩:=hsp _ _ _ _ hq
  by_cases hbare:q.bare=true
  ·simp only[lO,hbare,nl,aq.injEq]at hc
   subst hc;have hcal:=uC (m:=[]) (os:=[]) (mo:=fun k=>k) (mt:=fun k=>k) hM (fun i hi=>by simp at hi) rfl (by simp) (fun i hi=>by simp at hi);refine(hS' (Ctx.callee x w [] (x.back (fun k=>k) (fun k=>k)).bk) x w vs rfl rfl ?_ (by simp) (by simp) hcal hb).mono ?_
   ·rintro b (h|⟨i,hi,_⟩)
    ·exact .inl h
    ·simp at hi
   ·rintro en w' ⟨v,x',q',rfl,hq',hr,hH,hwf,_⟩
    subst hq';simp only[dv.bare,aA,List.isEmpty_iff]at hbare;obtain⟨⟨⟨b1,b2⟩,b3⟩,b4⟩:=hbare
    obtain⟨hG,hA⟩:=xy (m:=[]) (os:=[]) (mo:=fun k=>k) (mt:=fun k=>k) (lo:=0) (hi:=0) (β2:=x.bk) (τ2:=x.τ) hM rfl (fun i hi=>by simp at hi) hH (fun i hi=>by simp at hi) (fun i hi=>by omega) (fun _ _=>rfl) (fun _ _=>rfl)
     (fun p hp=>by rw[b1]at hp;cases hp) (fun p hp=>by rw[b1]at hp;cases hp) (fun p hp=>by rw[b1]at hp;cases hp) (fun p hp=>by rw[b1]at hp;cases hp) (fun t ht=>by rw[b2]at ht;cases ht)
    have hA':cX C ⟨x'.G,x.bk,x.τ⟩ s.ob s.tk w':=by
     refine hA.only (fun p hp=> ?_) hM.heap.nd (fun t ht=> ?_)
     ·exact al.2 (.inr (jl.2 ⟨by rw[Fx];exact hp,by simp⟩))
     ·exact al.2 (.inr (bK.2 ⟨ht,by omega⟩))
    refine⟨v,rfl,⟨x'.G,x.bk,x.τ⟩,_, ?_,hS.put hd q'.r⟩;refine aN.put ⟨cj.grow (x:=x) (x':=⟨x'.G,x.bk,x.τ⟩) hG rfl rfl hM.tm,hM.defers,hA'⟩ d ?_;have:=Rep.renF (x:=x') (x2:=⟨x'.G,x.bk,x.τ⟩) (mo:=fun k=>k) (mt:=fun k=>k) (fun _ _ _ h=>h) hr (fun k hk=>by rw[b3]at hk;cases hk) (fun t ht=>by rw[b4]at ht;cases ht);rwa[xaM]at this
  ·have hbf:q.bare=false:=by simpa using hbare
   simp only[lO,hbf,nl]at hc;cases hsm:q.small with
   |false=>rw[hsm]at hc;cases hc
   |true=>
    rw[hsm]at hc;simp only[xE,aq.injEq]at hc;subst hc;have hE:=hS.exact hM;have hT:Eo x x c [] []:=⟨rfl,fun i hi=>by simp at hi,fun k hk=>by simp at hk,by simp,fun i hi=>by simp at hi,by simp[cy],fun t ht=>by simp[cy]at ht⟩;refine(hS' (Ctx.took x w 0 0) x w vs rfl rfl ?_ (by simp) (by simp) (qO hE.heap hT rfl (fun i hi=>by simp at hi)) hb).mono ?_
    ·rintro b h;exact h
    ·rintro en w' ⟨v,x',q',rfl,hq',hr,hH,hwf,_⟩
     subst hq';exact⟨v,rfl,mY hM hS hd hT hH hr hwf (fun i hi=>by simp at hi) (fun o ho=>by simp at ho) hsm⟩
theorem wG{call:de}{sg:Sig}{g:Nat}{d:Option Nat}{as:List SV}{vs:List Value}(hM:aN C x s a w)(hS:Sim N c s)(hd:∀k,d=some k->k<N)(hsp:∀as os k q,call g as os k=some q->fz P g as os k (· =q))
 (hc:jB call sg d g (c,as)=some c') (hvs:cj x as vs):Calls P g ⟨vs⟩ w fun en w'=>∃v,en= .returned v/\M C N c' (a.put d v) w':=by
 simp only[jB]at hc;generalize hz:jI c.tk sg.own 50 0 as=z at hc;obtain⟨as2,mt1⟩:=z;simp only[na]at hc;generalize dR c 60 [] (SV.idsL as2)=m at hc;cases ho:gu c m with
 |none=>rw[ho]at hc;cases hc
 |some os0=>
  rw[ho]at hc;simp only[kO]at hc;generalize hz2:ek c.tk (50+mt1.length) os0=z2 at hc;obtain⟨os,mt2⟩:=z2;simp only[m9]at hc;cases hb:(nQ (SV.idsL as2++fG os) m&&dB m&&dB (cy (mt1++mt2))&&decide (m.length<=40)&&m.all fun o=> !inR (d.getD 0) o)with
  |false=>rw[hb]at hc;cases hc
  |true=>
   rw[hb]at hc;simp only[m7]at hc;simp only[aA,decide_eq_true_eq,aV,cV]at hb;obtain⟨⟨⟨⟨hsub,hmn⟩,htn⟩,hlen⟩,hin⟩:=hb;cases hq:call g (SV.renL (gB m) id as2) (eu (gB m) id os) (mt1.length+mt2.length)with
   |none=>rw[hq]at hc;cases hc
   |some q=>
    rw[hq]at hc;simp only[nU]at hc;cases hsm:q.small with
    |false=>rw[hsm]at hc;cases hc
    |true=>
     rw[hsm]at hc;simp only[wI,aq.injEq]at hc;subst hc;have hE:=hS.exact hM;obtain⟨hol,hog⟩:=pm ho
     let τ2:Nat->Nat×Nat×Nat:=fun t=>if 50<=t/\t<50+(mt1++mt2).length then NI x ((mt1++mt2).getD (t-50) none)else(0,0,0)
     let x1:Sit:=⟨x.G,x.bk,τ2⟩
     let x2:Sit:=⟨x.G,fun i=>x.bk (m.getD i 0),τ2⟩
     have hτ:∀y:Sit,y.τ=τ2->nE x y 50 (mt1++mt2):=by
      intro y hy k hk;rw[hy];show(if _ then _ else _)=_;rw[if_pos ⟨by omega,by omega⟩]
      congr 2;omega
     have hmem:∀i,i<m.length->(m.getD i 0,os0.getD i (.rc []))∈c.ob:=fun i hi=>i7 (hog i hi)
     have hsubm:=uH hsub;have hmnd:=ji hmn
     have hT:Eo x x2 c m (mt1++mt2):=by
      refine⟨rfl,fun _ _=>rfl,hτ x2 rfl,hmnd,fun i hi=>⟨_,hmem i hi⟩,ji htn,fun t ht=> ?_⟩;rw[fB,al]at ht;rcases ht with ht|ht
      ·have:=nP (tk:=c.tk) (own:=sg.own) (cs:=as) (j:=50) (i:=0) t (by rw[hz];exact ht)
       exact this
      ·have:=mi (tk:=c.tk) (obs:=os0) (j:=50+mt1.length) t (by rw[hz2];exact ht)
       exact this
     have hTx1:=hτ x1 rfl
     have ha1:cj x1 as2 vs:=by have:=lz (x:=x) (x1:=x1) rfl rfl (tk:=c.tk) (own:=sg.own) (j:=50) (i:=0) hvs (by rw[hz];exact hTx1.left);rwa[hz]at this
     have hβ:∀o∈m,x2.bk (gB m o)=x.bk o:=fun o ho=>by show x.bk (m.getD (gB m o) 0)=_;rw[(l6 ho).2]
     have ha2:cj x2 (SV.renL (gB m) id as2) vs:=by
      rw[eL];refine⟨by simpa using ha1.1,fun i hi=> ?_⟩;have hi':i<as2.length:=by simpa using hi
      rw[aW _ (by rfl)];exact Rep.renF (x:=x1) (x2:=x2) (fun _ _ _ h=>h) (ha1.2 i hi') (fun k hk=>hβ k (hsubm k (al.2 (.inl (kE hi' k hk))))) (fun t _=>rfl)
     obtain⟨hosl,hosr⟩:=kM (x:=x) (x1:=x1) (w:=w) rfl rfl (tk:=c.tk) (obs:=os0) (j:=50+mt1.length) (f:=fun i=>m.getD i 0)
      (fun i hi=>(hE.heap.obs _ (hmem i (by omega))).1) (by rw[hz2];exact hTx1.right)
     rw[hz2]at hosl hosr;simp only at hosl hosr
     have hob2:∀i,i<m.length->dM x2 w i ((eu (gB m) id os).getD i (.rc [])):=by
      intro i hi;have h1:=hosr i (by omega);have hio:i<os.length:=by omega
      have e:(eu (gB m) id os).getD i (.rc [])=(os.getD i (.rc [])).ren (gB m) id:=by rw[ge,aa,aa,aR,ac hio];rfl
      rw[e];have hm':=fO (m:=m) hi;have hos:os.getD i (.rc [])∈os:=by rw[aa,ac hio];exact bo _
      have h2:=h1.renF (x2:=x2) (mo:=gB m) (mt:=id) (fun _ _ _ h=>h) (hβ _ hm') (fun k hk=>hβ k (hsubm k (al.2 (.inr (ov hos k hk))))) (fun t _=>rfl);have e2:gB m (m.getD i 0)=i:=kS hmnd (l6 hm').1 hi (l6 hm').2;rwa[e2]at h2
     have hrl:(eu (gB m) id os).length=m.length:=by rw[ge,aY];omega
     obtain⟨_,hS'⟩:=hsp _ _ _ _ hq;have hl12:mt1.length+mt2.length=(mt1++mt2).length:=by simp
     rw[hl12]at hS';refine(hS' (Ctx.took x2 w m.length (mt1++mt2).length) x2 w vs rfl rfl ?_ (by omega) ?_ (qO hE.heap hT hrl hob2) ha2).mono ?_
     ·rintro b h;rw[hrl];exact h
     ·intro o ho'
      rw[ge]at ho';obtain⟨r,hr,rfl⟩:=aT.1 ho';refine yb ?_
      have:=mh (tk:=c.tk) (obs:=os0) (j:=50+mt1.length) (fun o h'=>by obtain⟨i,hi,rfl⟩:=bn h';have:=hS.inv.wf _ (hmem i (by omega));simpa[aa,ac hi]using this) r (by rw[hz2];exact hr)
      exact this
     ·rintro en w' ⟨v,x',q',rfl,hq',hr,hH,hwf,hg⟩
      subst hq';exact⟨v,rfl,mY hM hS hd hT hH hr hwf (fun i hi=>hg i (by omega)) (fun o ho'=>hin o ho') hsm⟩
theorem uD{call:de}{sg:Sig}{g:Nat}{d:Option Nat}{as:List SV}{vs:List Value}(hM:aN C x s a w)(hS:Sim N c s)(hd:∀k,d=some k->k<N)(hsp:∀as os k q,call g as os k=some q->fz P g as os k (· =q))
 (hc:hZ call sg c d g as=some c') (hvs:cj x as vs):Calls P g ⟨vs⟩ w fun en w'=>∃v,en= .returned v/\M C N c' (a.put d v) w':=by
 unfold hZ at hc;generalize ((SV.idsL as).isEmpty&&sg.own.isEmpty)=b at hc;cases b with
 |true=>exact xC hM hS hd hsp hc hvs
 |false=>simp only[jF]at hc;obtain⟨x1,s1,h1,h2,h3⟩:=jb (l:=iQ sg.raw 0 as) hM hS hvs;exact wG h1 h2 hd hsp hc h3
end Go.Sy
