/- An engine that steps through Go code with symbolic values: sound by proof. No condition. -/
import Derived.Test.YtkcjdeofknkndaaGreatDoorEb
import Derived.LoopN
open Array renaming getD_eq_getD_getElem? -> bc, getElem?_eq_getElem -> cS
open Bool renaming and_eq_true -> ay, not_eq_true' -> dz
open List renaming Nodup -> vC, Pairwise -> ey, Sublist -> mX, all_eq_true -> aR, contains_eq_mem -> eP, filter_cons -> kE, getD_cons_succ -> b9, getD_cons_zero -> bO, getD_eq_getElem?_getD -> aa, getElem?_append_left -> bg, getElem?_append_right -> bA, getElem?_drop -> ba, getElem?_eq_getElem -> ab, getElem?_eq_none -> jT, getElem?_map -> aP, getElem?_range -> cL, getElem?_set -> gw, getElem?_take -> bJ, getElem_mem -> bj, getElem_of_mem -> bN, length_append -> af, length_cons -> ax, length_drop -> aF, length_map -> aY, length_set -> dp, length_take -> av, map_append -> cV, map_cons -> aE, mem_append -> ak, mem_cons -> am, mem_cons_of_mem -> ao, mem_cons_self -> az, mem_map -> aS, mem_map_of_mem -> ia, mem_of_mem_drop -> kU, mem_of_mem_take -> bz, mem_singleton -> aN, nodup_cons -> ed, pairwise_cons -> bI, pairwise_map -> gu, range -> bU, replicate -> al
open Nat renaming add_assoc -> ft, add_mul -> bB, add_zero -> fj, le_max_right -> xA, le_refl -> aL, le_trans -> cC, lt_or_ge -> bH, min_eq_left -> gI, mod_eq_of_lt -> dU, mul_comm -> cB, mul_le_mul_right -> bw, succ_mul -> dM
open Option renaming bind_some -> cP, getD_some -> bf, map_eq_some_iff -> ah, map_some -> bo, some -> aq
open Prod renaming fst -> cA
set_option linter.unusedVariables false
set_option linter.unusedSimpArgs false
set_option linter.unnecessarySimpa false
set_option linter.unusedSectionVars false
namespace Go.Sy
variable [aZ]
def leR(f g:RC->CSt->gG):Prop:=∀r c x,f r c=some x->g r c=some x
def leC(f g:cX):Prop:=∀a b o k x,f a b o k=some x->g a b o k=some x
theorem wQ{c:CSt}{d:Option Nat}{x:CSt}{a b:Option ej}(h:∀q,a=some q->b=some q)(k:lP c d a=some x):lP c d b=some x:=by
 cases a with
 |none=>cases k
 |some q=>rw[h q rfl];exact k
theorem vR{c:CSt}{d:Option Nat}{m mt:List Nat}{x:CSt}{a b:Option ej}(h:∀q,a=some q->b=some q)(k:nZ c d m mt a=some x):nZ c d m mt b=some x:=by
 cases a with
 |none=>cases k
 |some q=>rw[h q rfl];exact k
theorem vS{f g:cX}(h:leC f g){c:CSt}{d:Option Nat}{n:Nat}{as:List SV}{mt1:List (Option Nat)}{m:List Nat}{o:Option (List aB)}{x:CSt}
 (k:kW f c d n as mt1 m o=some x):kW g c d n as mt1 m o=some x:=by
 cases o with
 |none=>cases k
 |some os=>
  simp only[kW]at k ⊢;generalize dX c.tk (50+mt1.length) os=z at k ⊢;obtain⟨os',mt2⟩:=z;simp only[m9]at k ⊢;generalize (nT (SV.idsL as++fD os') m&&dx m&&dx (cu (mt1++mt2))&&decide (m.length<=40)&&m.all fun o=> !inR (d.getD 0) o)=b at k ⊢;cases b with
  |false=>cases k
  |true=>simp only[m7]at k ⊢;exact vR (fun q hq=>h _ _ _ _ _ hq) k
theorem vP{f g:cX}(h:leC f g){sg:Sig}{d:Option Nat}{n:Nat}{p:CSt×List SV}{x:CSt}(k:jq f sg d n p=some x):jq g sg d n p=some x:=by obtain⟨c,as⟩:=p;simp only[jq]at k ⊢;generalize jD c.tk sg.own 50 0 as=z at k ⊢;obtain⟨as',mt1⟩:=z;simp only[nb]at k ⊢;exact vS h k
theorem w9{f g:cX}(h:leC f g){sg:Sig}{c:CSt}{d:Option Nat}{n:Nat}{as:List SV}{x:CSt}(k:gZ f sg c d n as=some x):gZ g sg c d n as=some x:=by
 unfold gZ at k ⊢;generalize ((SV.idsL as).isEmpty&&sg.own.isEmpty)=b at k ⊢;cases b with
 |true=>exact wQ (fun q hq=>h _ _ _ _ _ hq) k
 |false=>exact vP h k
theorem lH{f g:cX}(h:leC f g){sg:Nat->Sig}{c:CSt}{d:Option Nat}{o:SOp}{x:CSt}(k:opC f sg c d o=some x):opC g sg c d o=some x:=by
 cases o with
 |call a as=>simp only[opC]at k ⊢;split at k<;>first|exact w9 h k|cases k
 |_=>exact k
theorem iX{f g:cX}(h:leC f g){sg:Nat->Sig}{c:CSt}{i:SI}{x:CSt}(k:dD f sg c i=some x):dD g sg c i=some x:=by
 unfold dD at k ⊢;split at k
 ·exact lH h k
 ·split at k
  ·split at k
   ·rename_i hc;rw[if_pos hc];exact lH h k
   ·rename_i hc;rw[if_neg hc];exact k
  ·exact k
  ·cases k
theorem uC{f g:cX}(h:leC f g){sg:Nat->Sig}:∀{l:List SI}{c x:CSt},plC f sg l c=some x->plC g sg l c=some x:=by
 intro l;induction l with
 |nil=>intro c x k;simpa[plC]using k
 |cons i r ih=>
  intro c x k;simp only[plC]at k ⊢;cases hs:opC f sg c i.dst i.op with
  |none=>rw[hs]at k;simp[nxP]at k
  |some c1=>rw[hs]at k;rw[lH h hs];simp only[nxP]at k ⊢;exact ih k
theorem rf{f g:cX}(h:leC f g){sg:Nat->Sig}{b:Bool}{l:List SI}{c x:CSt}{v:SV}(k:oI f sg b l c v=some x):oI g sg b l c v=some x:=by
 unfold oI at k ⊢;split at k
 ·split at k
  ·rename_i hc;rw[if_pos hc];exact uC h k
  ·rename_i hc;rw[if_neg hc];exact k
 ·exact k
 ·cases k
theorem mj{f g:cX}(h:leC f g){sg:Nat->Sig}:∀{l:List RI}{c x:CSt},fF f sg l c=some x->fF g sg l c=some x:=by
 intro l;induction l with
 |nil=>intro c x k;simpa[fF]using k
 |cons i r ih=>
  intro c x k;cases i with
  |op i dead=>
   simp only[fF]at k ⊢;cases hs:dD f sg c i with
   |none=>rw[hs]at k;simp[nxC]at k
   |some c1=>rw[hs]at k;rw[iX h hs];simp only[nxC]at k ⊢;exact ih k
  |grp q b l dead=>
   simp only[fF]at k ⊢;cases hs:oI f sg b l c (c.get q)with
   |none=>rw[hs]at k;simp[nxC]at k
   |some c1=>rw[hs]at k;rw[rf h hs];simp only[nxC]at k ⊢;exact ih k
  |own i dead=>
   simp only[fF]at k ⊢;cases hs:se c i with
   |none=>rw[hs]at k;simp[nxC]at k
   |some c1=>rw[hs]at k;simp only[nxC]at k ⊢;exact ih k
  |tks i dead=>
   simp only[fF]at k ⊢;cases hs:zH c i with
   |none=>rw[hs]at k;simp[nxC]at k
   |some c1=>rw[hs]at k;simp only[nxC]at k ⊢;exact ih k
  |dir d=>
   simp only[fF]at k ⊢;cases hs:qk c d with
   |none=>rw[hs]at k;simp[nxC]at k
   |some c1=>rw[hs]at k;simp only[nxC]at k ⊢;exact ih k
theorem iM{f g:cX}(h:leC f g){sg:Nat->Sig}{b:List Nat}:∀{l ps:List FI}{c x:CSt},eW f sg b l ps c=some x->eW g sg b l ps c=some x:=by
 intro l;induction l with
 |nil=>intro ps c x k;simpa[eW]using k
 |cons i r ih=>
  intro ps c x k;obtain⟨n,q,i⟩:=i;cases q with
  |true=>
   simp only[eW]at k ⊢;cases hq:qv c i with
   |none=>rw[hq]at k;simp[u9]at k
   |some v=>rw[hq]at k;simp only[u9]at k ⊢;exact ih k
  |false=>
   simp only[eW]at k ⊢;cases hs:dD f sg c i with
   |none=>rw[hs]at k;simp[qc]at k
   |some c1=>
    rw[hs]at k;rw[iX h hs];simp only[qc]at k ⊢;cases hg:gdP (sG (b.getD n 0) c1 ps) c1 with
    |none=>rw[hg]at k;simp[qd]at k
    |some c2=>rw[hg]at k;simp only[qd]at k ⊢;exact ih k
theorem mE{f g:cX}(h:leC f g){sg:Nat->Sig}{b:List Nat}{l:List FI}:∀{ps:List (List Nat)}{c x:CSt},iN f sg b l ps c=some x->iN g sg b l ps c=some x
 |[],c,x,k=>by simp[iN]at k
 |[p],c,x,k=>iM h k
 |p::q::r,c,x,k=>by
  simp only[iN]at k ⊢;cases h1:eW f sg b (ip l p) [] c with
  |none=>rw[h1]at k;simp[ny]at k
  |some y=>
   cases h2:iN f sg b l (q::r) c with
   |none=>rw[h1,h2]at k;simp[ny]at k
   |some z=>rw[h1,h2]at k;rw[iM h h1,mE h h2];exact k
theorem nV{rn rn':RC->CSt->gG}{f g:cX}(hr:leR rn rn')(h:leC f g){sg:Nat->Sig}{r:RC}{c:CSt}{x:Ex×CSt}(k:dN rn f sg r c=some x):dN rn' g sg r c=some x:=by
 cases r with
 |skip=>exact k
 |ret=>exact k
 |exit id=>exact k
 |ops l=>
  simp only[dN]at k ⊢;cases hs:fF f sg l c with
  |none=>rw[hs]at k;cases k
  |some c1=>rw[hs]at k;rw[mj h hs];exact k
 |flt b ds l dead=>
  simp only[dN]at k ⊢;cases hs:eW f sg b l [] c with
  |none=>rw[hs]at k;simp[nrm]at k
  |some c1=>rw[hs]at k;rw[iM h hs];exact k
 |fla b ds l ps dead=>
  simp only[dN]at k ⊢;cases hs:iN f sg b l ps c with
  |none=>rw[hs]at k;simp[nrm]at k
  |some c1=>rw[hs]at k;rw[mE h hs];exact k
 |seq a b=>
  simp only[dN]at k ⊢;cases hs:rn a c with
  |none=>rw[hs]at k;cases k
  |some p=>
   rw[hs]at k;rw[hr _ _ _ hs];obtain⟨e,c1⟩:=p;cases e with
   |n=>exact hr _ _ _ k
   |x id=>exact k
   |r=>exact k
 |cond a y z=>
  simp only[dN]at k ⊢;unfold cnd at k ⊢;split at k
  ·split at k
   ·rename_i hc;rw[if_pos hc];exact hr _ _ _ k
   ·rename_i hc;rw[if_neg hc];exact hr _ _ _ k
  ·cases k
 |block id b=>
  simp only[dN]at k ⊢;cases hs:rn b c with
  |none=>rw[hs]at k;cases k
  |some p=>rw[hs]at k;rw[hr _ _ _ hs];exact k
 |loop b=>
  simp only[dN]at k ⊢;cases hs:rn b c with
  |none=>rw[hs]at k;cases k
  |some p=>
   rw[hs]at k;rw[hr _ _ _ hs];obtain⟨e,c1⟩:=p;cases e with
   |n=>exact hr _ _ _ k
   |x id=>exact k
   |r=>exact k
 |pre ds a=>
  simp only[dN]at k ⊢;cases hs:im c ds with
  |none=>rw[hs]at k;cases k
  |some c1=>rw[hs]at k;exact hr _ _ _ k
 |bad=>cases k
 |post a ds=>
  simp only[dN]at k ⊢;cases hs:rn a c with
  |none=>rw[hs]at k;cases k
  |some p=>rw[hs]at k;rw[hr _ _ _ hs];exact k
theorem lf{rn rn':RC->CSt->gG}(hr:leR rn rn'){o:Option FnB}{a:List SV}{os:List aB}{k:Nat}{x:ej}(h:nu rn o a os k=some x):nu rn' o a os k=some x:=by
 cases o with
 |none=>cases h
 |some b=>
  cases b with
  |prim f=>exact h
  |code F=>
   simp only[nu,Eh]at h ⊢;split at h
   ·rename_i hc
    rw[if_pos hc];cases hs:rn F.code (qC a os k)with
    |none=>rw[hs]at h;cases h
    |some p=>rw[hs]at h;rw[hr _ _ _ hs];exact h
   ·cases h
variable {T : jA}
theorem qK:∀n,leR (gA T n) (gA T (n+1))
 |0=>fun r c x h=>by simp[gA]at h
 |n+1=>fun r c x h=>by have ih:=qK n;rw[gA]at h ⊢;exact nV ih (fun g a os k x h=>lf ih h) h
theorem km{n m:Nat}(h:n<=m):leR (gA T n) (gA T m):=by
 induction m with
 |zero=>
  have:n=0:=by omega
  subst this;exact fun _ _ _ h=>h
 |succ m ih=>
  rcases bH n (m+1)with h1|h1
  ·exact fun r c x hx=>qK m r c x (ih (by omega) r c x hx)
  ·have:n=m+1:=by omega
   subst this;exact fun _ _ _ h=>h
theorem dH{n m:Nat}(h:n<=m):leC (eV T n) (eV T m):=fun _ _ _ _ _ hx=>lf (km h) hx
theorem uP{α:Type}{g:Nat->Option α}(hm:∀n m x,n<=m->g n=some x->g m=some x){n:Nat}{x:α}(h:g n=some x):lim g=some x:=by have hex:∃n x,g n=some x:=⟨n,x,h⟩;unfold lim;rw[dif_pos hex];obtain⟨y,hy⟩:=Classical.choose_spec hex;have h1:=hm _ (max n (Classical.choose hex)) _ (xA _ _) hy;have h2:=hm _ (max n (Classical.choose hex)) _ (Nat.le_max_left _ _) h;rw[hy,<-h1,h2]
theorem Ns{α:Type}{g:Nat->Option α}{x:α}(h:lim g=some x):∃n,g n=some x:=by
 unfold lim at h;split at h
 ·exact⟨_,h⟩
 ·cases h
theorem GC{n:Nat}{r:RC}{c:CSt}{x:Ex×CSt}(h:gA T n r c=some x):run T r c=some x:=uP (fun _ _ _ hnm h=>km hnm _ _ _ h) h
theorem gH{r:RC}{c:CSt}{x:Ex×CSt}(h:run T r c=some x):∃n,gA T n r c=some x:=Ns h
theorem sL{n:Nat}{g:Nat}{a:List SV}{os:List aB}{k:Nat}{x:ej}(h:eV T n g a os k=some x):call T g a os k=some x:=uP (fun _ _ _ hnm h=>dH hnm _ _ _ _ _ h) h
theorem oy{g:Nat}{a:List SV}{os:List aB}{k:Nat}{x:ej}(h:call T g a os k=some x):∃n,eV T n g a os k=some x:=Ns h
theorem GD(n:Nat):leR (gA T n) (run T):=fun _ _ _ h=>GC h
theorem Ro(n:Nat):leC (eV T n) (call T):=fun _ _ _ _ _ h=>sL h
theorem xa{sg:Sig}{c:CSt}{d:Option Nat}{g:Nat}{as:List SV}{x:CSt}(k:gZ (call T) sg c d g as=some x):∃n,gZ (eV T n) sg c d g as=some x:=by
 unfold gZ at k ⊢;generalize ((SV.idsL as).isEmpty&&sg.own.isEmpty)=b at k ⊢;cases b with
 |true=>
  simp only[jy]at k ⊢;cases hq:call T g (SV.bareL as) [] 0 with
  |none=>rw[hq]at k;cases k
  |some q=>obtain⟨n,hn⟩:=oy hq;exact⟨n,by rw[hn];rw[hq]at k;exact k⟩
 |false=>
  simp only[jy]at k ⊢;generalize eJ c as (iH sg.raw 0 as)=z at k ⊢;obtain⟨c1,as1⟩:=z;simp only[jq]at k ⊢;generalize jD c1.tk sg.own 50 0 as1=z at k ⊢;obtain⟨as',mt1⟩:=z;simp only[nb]at k ⊢;cases ho:gx c1 (dG c1 60 [] (SV.idsL as'))with
  |none=>rw[ho]at k;cases k
  |some os=>
   rw[ho]at k;simp only[kW]at k ⊢;generalize dX c1.tk (50+mt1.length) os=z at k ⊢;obtain⟨os',mt2⟩:=z;simp only[m9]at k ⊢;generalize (nT (SV.idsL as'++fD os') (dG c1 60 [] (SV.idsL as'))&&dx (dG c1 60 [] (SV.idsL as'))&&dx (cu (mt1++mt2))&&decide ((dG c1 60 [] (SV.idsL as')).length<=40)&&(dG c1 60 [] (SV.idsL as')).all fun o=> !inR (d.getD 0) o)=b at k ⊢;cases b with
   |false=>cases k
   |true=>
    simp only[m7]at k ⊢;cases hq:call T g (SV.renL (gC (dG c1 60 [] (SV.idsL as'))) id as') (ee (gC (dG c1 60 [] (SV.idsL as'))) id os') (mt1.length+mt2.length)with
    |none=>rw[hq]at k;cases k
    |some q=>obtain⟨n,hn⟩:=oy hq;exact⟨n,by rw[hn];rw[hq]at k;exact k⟩
theorem pf{sg:Nat->Sig}{c:CSt}{d:Option Nat}{o:SOp}{x:CSt}(k:opC (call T) sg c d o=some x):∃n,opC (eV T n) sg c d o=some x:=by
 cases o with
 |call a as=>simp only[opC]at k ⊢;split at k<;>first|exact xa k|cases k
 |_=>exact⟨0,k⟩
theorem nW{sg:Nat->Sig}{c:CSt}{i:SI}{x:CSt}(k:dD (call T) sg c i=some x):∃n,dD (eV T n) sg c i=some x:=by
 unfold dD at k ⊢;split at k
 ·exact pf k
 ·split at k
  ·split at k
   ·rename_i hc;simp only[if_pos hc];exact pf k
   ·rename_i hc;simp only[if_neg hc];exact⟨0,k⟩
  ·exact⟨0,k⟩
  ·cases k
theorem Fh{sg:Nat->Sig}:∀{l:List SI}{c x:CSt},plC (call T) sg l c=some x->∃n,plC (eV T n) sg l c=some x:=by
 intro l;induction l with
 |nil=>intro c x k;exact⟨0,by simpa[plC]using k⟩
 |cons i r ih=>
  intro c x k;simp only[plC]at k ⊢;cases hs:opC (call T) sg c i.dst i.op with
  |none=>rw[hs]at k;simp[nxP]at k
  |some c1=>rw[hs]at k;simp only[nxP]at k;obtain⟨n,hn⟩:=pf hs;obtain⟨m,hm⟩:=ih k;refine⟨max n m, ?_⟩;rw[lH (dH (Nat.le_max_left n m)) hn];simp only[nxP];exact uC (dH (xA n m)) hm
theorem Dp{sg:Nat->Sig}{b:Bool}{l:List SI}{c x:CSt}{v:SV}(k:oI (call T) sg b l c v=some x):∃n,oI (eV T n) sg b l c v=some x:=by
 unfold oI at k ⊢;split at k
 ·split at k
  ·rename_i hc;simp only[if_pos hc];exact Fh k
  ·rename_i hc;simp only[if_neg hc];exact⟨0,k⟩
 ·exact⟨0,k⟩
 ·cases k
theorem Dc{sg:Nat->Sig}:∀{l:List RI}{c x:CSt},fF (call T) sg l c=some x->∃n,fF (eV T n) sg l c=some x:=by
 intro l;induction l with
 |nil=>intro c x k;exact⟨0,by simpa[fF]using k⟩
 |cons i r ih=>
  intro c x k;cases i with
  |op i dead=>
   simp only[fF]at k ⊢;cases hs:dD (call T) sg c i with
   |none=>rw[hs]at k;simp[nxC]at k
   |some c1=>rw[hs]at k;simp only[nxC]at k;obtain⟨n,hn⟩:=nW hs;obtain⟨m,hm⟩:=ih k;refine⟨max n m, ?_⟩;rw[iX (dH (Nat.le_max_left n m)) hn];simp only[nxC];exact mj (dH (xA n m)) hm
  |grp q b l dead=>
   simp only[fF]at k ⊢;cases hs:oI (call T) sg b l c (c.get q)with
   |none=>rw[hs]at k;simp[nxC]at k
   |some c1=>rw[hs]at k;simp only[nxC]at k;obtain⟨n,hn⟩:=Dp hs;obtain⟨m,hm⟩:=ih k;refine⟨max n m, ?_⟩;rw[rf (dH (Nat.le_max_left n m)) hn];simp only[nxC];exact mj (dH (xA n m)) hm
  |own i dead=>
   simp only[fF]at k ⊢;cases hs:se c i with
   |none=>rw[hs]at k;simp[nxC]at k
   |some c1=>rw[hs]at k;simp only[nxC]at k ⊢;exact ih k
  |tks i dead=>
   simp only[fF]at k ⊢;cases hs:zH c i with
   |none=>rw[hs]at k;simp[nxC]at k
   |some c1=>rw[hs]at k;simp only[nxC]at k ⊢;exact ih k
  |dir d=>
   simp only[fF]at k ⊢;cases hs:qk c d with
   |none=>rw[hs]at k;simp[nxC]at k
   |some c1=>rw[hs]at k;simp only[nxC]at k ⊢;exact ih k
theorem my{sg:Nat->Sig}{b:List Nat}:∀{l ps:List FI}{c x:CSt},eW (call T) sg b l ps c=some x->∃n,eW (eV T n) sg b l ps c=some x:=by
 intro l;induction l with
 |nil=>intro ps c x k;exact⟨0,by simpa[eW]using k⟩
 |cons i r ih=>
  intro ps c x k;obtain⟨n,q,i⟩:=i;cases q with
  |true=>
   simp only[eW]at k ⊢;cases hq:qv c i with
   |none=>rw[hq]at k;simp[u9]at k
   |some v=>rw[hq]at k;simp only[u9]at k ⊢;exact ih k
  |false=>
   simp only[eW]at k ⊢;cases hs:dD (call T) sg c i with
   |none=>rw[hs]at k;simp[qc]at k
   |some c1=>
    rw[hs]at k;simp only[qc]at k;cases hg:gdP (sG (b.getD n 0) c1 ps) c1 with
    |none=>rw[hg]at k;simp[qd]at k
    |some c2=>rw[hg]at k;simp only[qd]at k;obtain⟨m1,hm1⟩:=nW hs;obtain⟨m2,hm2⟩:=ih k;refine⟨max m1 m2, ?_⟩;rw[iX (dH (Nat.le_max_left m1 m2)) hm1];simp only[qc];rw[hg];simp only[qd];exact iM (dH (xA m1 m2)) hm2
theorem rE{sg:Nat->Sig}{b:List Nat}{l:List FI}:∀{ps:List (List Nat)}{c x:CSt},iN (call T) sg b l ps c=some x->∃n,iN (eV T n) sg b l ps c=some x
 |[],c,x,k=>by simp[iN]at k
 |[p],c,x,k=>my k
 |p::q::r,c,x,k=>by
  simp only[iN]at k ⊢;cases h1:eW (call T) sg b (ip l p) [] c with
  |none=>rw[h1]at k;simp[ny]at k
  |some y=>
   cases h2:iN (call T) sg b l (q::r) c with
   |none=>rw[h1,h2]at k;simp[ny]at k
   |some z=>rw[h1,h2]at k;obtain⟨n,hn⟩:=my h1;obtain⟨m,hm⟩:=rE h2;exact⟨max n m,by rw[iM (dH (Nat.le_max_left n m)) hn,mE (dH (xA n m)) hm];exact k⟩
theorem two{r s:RC}{c d:CSt}{x y:Ex×CSt}(h:run T r c=some x)(k:run T s d=some y):∃n,gA T n r c=some x/\gA T n s d=some y:=by obtain⟨n,hn⟩:=gH h;obtain⟨m,hm⟩:=gH k;exact⟨max n m,km (Nat.le_max_left n m) _ _ _ hn,km (xA n m) _ _ _ hm⟩
theorem vM{r:RC}{c:CSt}{x:Ex×CSt}(k:dN (run T) (call T) T.sg r c=some x):∃n,dN (gA T n) (eV T n) T.sg r c=some x:=by
 cases r with
 |skip=>exact⟨0,k⟩
 |ret=>exact⟨0,k⟩
 |exit id=>exact⟨0,k⟩
 |ops l=>
  simp only[dN]at k ⊢;cases hs:fF (call T) T.sg l c with
  |none=>rw[hs]at k;cases k
  |some c1=>obtain⟨n,hn⟩:=Dc hs;exact⟨n,by rw[hn];rw[hs]at k;exact k⟩
 |flt b ds l dead=>
  simp only[dN]at k ⊢;cases hs:eW (call T) T.sg b l [] c with
  |none=>rw[hs]at k;simp[nrm]at k
  |some c1=>obtain⟨n,hn⟩:=my hs;exact⟨n,by rw[hn];rw[hs]at k;exact k⟩
 |fla b ds l ps dead=>
  simp only[dN]at k ⊢;cases hs:iN (call T) T.sg b l ps c with
  |none=>rw[hs]at k;simp[nrm]at k
  |some c1=>obtain⟨n,hn⟩:=rE hs;exact⟨n,by rw[hn];rw[hs]at k;exact k⟩
 |seq a b=>
  simp only[dN]at k ⊢;cases hs:run T a c with
  |none=>rw[hs]at k;cases k
  |some p=>
   rw[hs]at k;obtain⟨e,c1⟩:=p;cases e with
   |n=>obtain⟨n,h1,h2⟩:=two hs k;exact⟨n,by rw[h1];exact h2⟩
   |x id=>obtain⟨n,hn⟩:=gH hs;exact⟨n,by rw[hn];exact k⟩
   |r=>obtain⟨n,hn⟩:=gH hs;exact⟨n,by rw[hn];exact k⟩
 |cond a y z=>
  simp only[dN]at k ⊢;unfold cnd at k ⊢;split at k
  ·split at k
   ·rename_i hc;simp only[if_pos hc];exact gH k
   ·rename_i hc;simp only[if_neg hc];exact gH k
  ·cases k
 |block id b=>
  simp only[dN]at k ⊢;cases hs:run T b c with
  |none=>rw[hs]at k;cases k
  |some p=>obtain⟨n,hn⟩:=gH hs;exact⟨n,by rw[hn];rw[hs]at k;exact k⟩
 |loop b=>
  simp only[dN]at k ⊢;cases hs:run T b c with
  |none=>rw[hs]at k;cases k
  |some p=>
   rw[hs]at k;obtain⟨e,c1⟩:=p;cases e with
   |n=>obtain⟨n,h1,h2⟩:=two hs k;exact⟨n,by rw[h1];exact h2⟩
   |x id=>obtain⟨n,hn⟩:=gH hs;exact⟨n,by rw[hn];exact k⟩
   |r=>obtain⟨n,hn⟩:=gH hs;exact⟨n,by rw[hn];exact k⟩
 |pre ds a=>
  simp only[dN]at k ⊢;cases hs:im c ds with
  |none=>rw[hs]at k;cases k
  |some c1=>rw[hs]at k;exact gH k
 |bad=>cases k
 |post a ds=>
  simp only[dN]at k ⊢;cases hs:run T a c with
  |none=>rw[hs]at k;cases k
  |some p=>obtain⟨n,hn⟩:=gH hs;exact⟨n,by rw[hn];rw[hs]at k;exact k⟩
theorem si{α:Type}{a b:Option α}(h:∀x,a=some x->b=some x)(k:∀x,b=some x->a=some x):a=b:=by
 cases a with
 |none=>cases b with
  |none=>rfl
  |some x=>exact absurd (k x rfl) (by simp)
 |some x=>exact(h x rfl).symm
theorem gQ(r:RC)(c:CSt):run T r c=dN (run T) (call T) T.sg r c:=by
 refine si (fun x h=> ?_) (fun x h=> ?_)
 ·obtain⟨n,hn⟩:=gH h
  cases n with
  |zero=>simp[gA]at hn
  |succ n=>rw[gA]at hn;exact nV (GD n) (Ro n) hn
 ·obtain⟨n,hn⟩:=vM h
  exact GC (n:=n+1) (by rw[gA];exact hn)
theorem Cs(g:Nat)(a:List SV)(os:List aB)(k:Nat):call T g a os k=nu (run T) (T.fn g) a os k:=by
 refine si (fun x h=> ?_) (fun x h=> ?_)
 ·obtain⟨n,hn⟩:=oy h
  exact lf (GD n) hn
 ·cases hF:T.fn g with
  |none=>rw[hF]at h;cases h
  |some b=>
   cases b with
   |prim f=>exact sL (n:=0) (by unfold eV;rw[hF];rw[hF]at h;exact h)
   |code F=>
    rw[hF]at h;simp only[nu,Eh]at h;split at h
    ·rename_i hc
     cases hs:run T F.code (qC a os k)with
     |none=>rw[hs]at h;cases h
     |some p=>obtain⟨n,hn⟩:=gH hs;refine sL (n:=n) ?_;unfold eV;rw[hF];simp only[nu,Eh,if_pos hc];rw[hn];rw[hs]at h;exact h
    ·cases h
theorem EZ(c:CSt):run T .skip c=some (.n,c):=gQ _ _
theorem Pq(c:CSt):run T .ret c=some (.r,c):=gQ _ _
theorem E3(id:Nat)(c:CSt):run T (.exit id) c=some (.x id,c):=gQ _ _
theorem Pu(l:List RI)(c:CSt):run T (.ops l) c=nrm [] (fF (call T) T.sg l c):=gQ _ _
theorem Pw(b ds:List Nat)(l:List FI)(ps:List (List Nat))(dead:List Nat)(c:CSt):run T (.fla b ds l ps dead) c=nrm dead (iN (call T) T.sg b l ps c):=gQ _ _
theorem Pv(b ds:List Nat)(l:List FI)(dead:List Nat)(c:CSt):run T (.flt b ds l dead) c=nrm dead (eW (call T) T.sg b l [] c):=gQ _ _
theorem Pp(a b:RC)(c:CSt):run T (.seq a b) c=sq (run T) b (run T a c):=gQ _ _
theorem E4(k:Arg)(a b:RC)(c:CSt):run T (.cond k a b) c=cnd (run T) a b c (c.ev k):=gQ _ _
theorem C4(id:Nat)(b:RC)(c:CSt):run T (.block id b) c=blk id (run T b c):=gQ _ _
theorem ai(b:RC)(c:CSt):run T (.loop b) c=lp (run T) b (run T b c):=gQ _ _
theorem Ps(ds:List Dir)(a:RC)(c:CSt):run T (.pre ds a) c=prD (run T) a (im c ds):=gQ _ _
theorem E1(a:RC)(ds:List Dir)(c:CSt):run T (.post a ds) c=psD ds (run T a c):=gQ _ _
theorem an{g:Nat}{F:FnC}(h:T.fn g=some (.code F))(a:List SV)(os:List aB)(k:Nat):call T g a os k=Ei F os.length (Eh (run T) F a os k):=by rw[Cs,h];rfl
theorem kz{g:Nat}{f:List SV->List aB->Nat->Option ej}(h:T.fn g=some (.prim f))(a:List SV)(os:List aB)(k:Nat):call T g a os k=f a os k:=by rw[Cs,h];rfl
end Go.Sy
namespace Go.Sy
variable [aZ]
variable {call : cX} {sg : Nat -> Sig} {c : CSt} {d : Option Nat} {k : Nat}
theorem xcl{α:Type}{p:Prop}[Decidable p]{v:α}(h:p):gd p v=some v:=if_pos h
def fA(c:CSt)(d:Option Nat):Option SV->Option CSt
 |some v=>some (c.put d v)
 |none=>none
theorem C7(v:SV):fA c d (some v)=some (c.put d v):=rfl
theorem C8:fA c d none=none:=rfl
theorem E8(l:List (Nat×SV))(o:List (Nat×aB))(t:List Nat)(v:SV):CSt.put ⟨l,o,t⟩ (some k) v=⟨i5 l k v,o,t⟩:=rfl
theorem E9(v:SV):CSt.put c none v=c:=rfl
theorem xck(l:List (Nat×SV))(o:List (Nat×aB))(t:List Nat)(n:Nat):CSt.get ⟨l,o,t⟩ n=eA l n:=rfl
theorem P9(l:List (Nat×SV))(o:List (Nat×aB))(t:List Nat)(n:Nat):CSt.look ⟨l,o,t⟩ n=iu o n:=rfl
theorem xkr(n:Nat):c.ev (.t n)=c.get n:=rfl
theorem xkt(v:SV):c.ev (.c v)=v:=rfl
theorem xks(g:Nat):c.ev (.f g)= .fn g [] []:=rfl
theorem pn:c.kill []=c:=rfl
theorem Dg(l:List (Nat×SV))(o:List (Nat×aB))(t:List Nat)(n:Nat)(r:List Nat):CSt.kill ⟨l,o,t⟩ (n::r)=⟨vn l (n::r),o,t⟩:=rfl
def zC:Option SV->Option nL
 |some v=>some {val:=v}
 |none=>none
theorem CF(v:SV):zC (some v)=some {val:=v}:=rfl
theorem CG:zC none=none:=rfl
theorem pC{so:SOp}{o:Option SV}(h:dP c d so=zC o):mM c d (dP c d so)=fA c d o:=by rw[h];cases o<;>rfl
theorem OT(o:Option SV):(match o with|some v=>some {val:=v}|none=>none:Option nL)=zC o:=by cases o<;>rfl
def D1:SV->Option SV
 | .ptr o off=>some (.ptr o off)
 | .ap o sz i j=>some (.ap o sz i j)
 | .pp cs=>some (.pp cs)
 | .fn f a b=>some (.fn f a b)
 |_=>none
def X7(ne:Bool):SV->SV->Option SV
 | .bool a,.bool b=>some (.bool (if ne then decide (a≠b)else decide (a=b)))
 |_,_=>none
def X0(ne:Bool)(ts:List Nat):SV->SV->Option SV
 | .agg cs,.agg ds=>(gE ts cs ds).map fun b=> .bool (if ne then !b else b)
 |_,_=>none
def tj:SV->Option SV
 | .str l=>some (.str l)
 |_=>none
def D7(ne:Bool):SV->Option SV
 | .nili=>some (.bool (!ne))
 |_=>none
def RT:SV->Option SV
 | .str l=>some (.byt l .no)
 |_=>none
def X8(c:CSt):SV->Option SV
 | .str _=>none
 |v=>(eD c v).map .str
def Gy(l:List UInt8):Option Int->Option Int->Option SV
 |some a,some b=>gd (0<=a/\a<=b/\b<=l.length) (.str ((l.take b.toNat).drop a.toNat))
 |_,_=>none
def DQ(c:CSt)(lo hi:Option Arg):SV->Option SV
 | .str l=>Gy l (jZ c lo 0) (jZ c hi l.length)
 |_=>none
def DR(c:CSt)(len sz:Nat)(lo hi mx:Option Arg):SV->Option SV
 | .ptr o off=>if off=0 then nE c sz (.psl o sz 0 len (some len)) lo hi mx else none
 |_=>none
def tJ(off:Nat):SV->Option SV
 | .ptr o k=>some (.ptr o (k+off))
 | .ap o sz i j=>some (.ap o sz i (j+off))
 | .pp cs=>some (.pp (cs.drop off))
 |_=>none
def XO(off n:Nat)(ag:Bool):SV->Option SV
 | .agg cs=>gd (off+n<=cs.length) (dy ag n (cs.drop off))
 |_=>none
def oG(sz:Nat):SV->Option Int->Option SV
 | .byt l _,some n=>gd (0<=n/\n<l.length/\sz=1) (.pp [.u8 (l.getD n.toNat 0)])
 | .lst sz' xs _,some n=>gd (0<=n/\n<xs.length/\sz=sz') (.pp (xs.getD n.toNat []))
 | .psl o sz' off k _,some n=>gd (0<=n/\n<k/\sz=sz') (.ap o sz (off+n.toNat) 0)
 |_,_=>none
def pq(len sz o off:Nat)(n:Int):Option aB->Option SV
 |some (.rc _)=>gd (0<=n/\n<len) (.ptr o (off+n.toNat*sz))
 |some _=>gd (off=0/\0<=n/\n<len) (.ap o sz n.toNat 0)
 |none=>none
def mb(c:CSt)(len sz:Nat):SV->Option Int->Option SV
 | .ptr o off,some n=>pq len sz o off n (c.look o)
 | .pp cs,some n=>gd (0<=n/\n<len/\cs.length=len*sz) (.pp (cs.drop (n.toNat*sz)))
 |_,_=>none
def Ea(len sz:Nat)(ag:Bool):SV->Option Int->Option SV
 | .agg cs,some n=>gd (0<=n/\n<len/\cs.length=len*sz) (dy ag sz (cs.drop (n.toNat*sz)))
 |_,_=>none
def D9:SV->Option Int->Option SV
 | .str l,some n=>gd (0<=n/\n<l.length) (.u8 (l.getD n.toNat 0))
 |_,_=>none
def XZ(i:Nat):SV->Option SV
 | .tup vs=>gd (i<vs.length) (vs.getD i .undef)
 |_=>none
def lenC:Option Nat->Option SV
 |some n=>some (.int .i64 (n:Nat))
 |none=>none
def X4:SV->Option SV
 | .psl _ _ _ _ (some m)=>some (.int .i64 m)
 | .byt l t=>if t= .clip then some (.int .i64 l.length)else none
 | .lst _ xs t=>if t= .clip then some (.int .i64 xs.length)else none
 |_=>none
def D2:SV->SV->Option SV
 | .int k a,.int k' b=>if k=k' then some (.int k (if b<a then b else a))else none
 |_,_=>none
def D3:SV->SV->Option SV
 | .int k a,.int k' b=>if k=k' then some (.int k (if a<b then b else a))else none
 |_,_=>none
def tM:Option (List SV)->Option SV
 |some l=>some (.agg l)
 |none=>none
def XG(sz:Nat):Option (List (List SV))->Option SV
 |some r=>some (.lst sz r .clip)
 |none=>none
def D4:Option (List UInt8)->Option SV
 |some r=>some (.byt r .clip)
 |none=>none
theorem xdz(x:Arg):cE c (.mov x)=some (c.ev x):=rfl
theorem zE(z:List SV)(ps:List (Nat×Nat×Arg)):cE c (.build z ps)=tM (iw z (psC c ps)):=by simp only[cE];cases iw z (psC c ps)<;>rfl
theorem RO(sz:Nat)(xs:List Arg):cE c (.lit sz xs)=XG sz (rows sz (evL c xs)):=by simp only[cE];cases rows sz (evL c xs)<;>rfl
theorem Gv(xs:List Arg):cE c (.litB xs)=D4 (toB (evL c xs)):=by simp only[cE];cases toB (evL c xs)<;>rfl
theorem ZP(n:Nat)(ag:Bool)(a:Arg):cE c (.load n ag a)=lM c n ag (c.ev a):=rfl
theorem ZL(x:Arg):cE c (.nchk x)=D1 (c.ev x):=rfl
theorem xdE(op:BinOp)(x y:Arg):cE c (.bin op x y)=El op (c.ev x) (c.ev y):=rfl
theorem xdF(ne:Bool)(x y:Arg):cE c (.beq ne x y)=X7 ne (c.ev x) (c.ev y):=rfl
theorem xdC(ne:Bool)(ts:List Nat)(x y:Arg):cE c (.eqS ne ts x y)=X0 ne ts (c.ev x) (c.ev y):=rfl
theorem xiS(op:UnOp)(x:Arg):cE c (.un op x)=vE op (c.ev x):=rfl
theorem OW(q:IntKind)(x:Arg):cE c (.toInt q x)=gU q (c.ev x):=rfl
theorem OV(x:Arg):cE c (.toStr x)=tj (c.ev x):=rfl
theorem ZR(ne:Bool)(x:Arg):cE c (.isni ne x)=D7 ne (c.ev x):=rfl
theorem xdy(x:Arg):cE c (.s2b x)=RT (c.ev x):=rfl
theorem xdG(x:Arg):cE c (.b2s x)=X8 c (c.ev x):=rfl
theorem ZM(f:Nat)(a b:List Arg):cE c (.mkfn f a b)=some (.fn f (evL c a) (evL c b)):=rfl
theorem Gu(x:Arg)(lo hi:Option Arg):cE c (.slcS x lo hi)=DQ c lo hi (c.ev x):=by simp only[cE];cases c.ev x<;>rfl
theorem ZJ(sz:Nat)(x:Arg)(lo hi mx:Option Arg):cE c (.slcL sz x lo hi mx)=nE c sz (c.ev x) lo hi mx:=rfl
theorem ZK(len sz:Nat)(x:Arg)(lo hi mx:Option Arg):cE c (.slcA len sz x lo hi mx)=DR c len sz lo hi mx (c.ev x):=rfl
theorem OX(off:Nat)(x:Arg):cE c (.faddr off x)=tJ off (c.ev x):=rfl
theorem xdA(off n:Nat)(ag:Bool)(x:Arg):cE c (.fld off n ag x)=XO off n ag (c.ev x):=rfl
theorem EB(sz:Nat)(x i:Arg):cE c (.iaddrL sz x i)=oG sz (c.ev x) (c.ev i).num:=rfl
theorem uh(len sz:Nat)(x i:Arg):cE c (.iaddrA len sz x i)=mb c len sz (c.ev x) (c.ev i).num:=by simp only[cE];unfold mb pq;rfl
theorem ZT(len sz:Nat)(ag:Bool)(x i:Arg):cE c (.idxA len sz ag x i)=Ea len sz ag (c.ev x) (c.ev i).num:=rfl
theorem ZS(x i:Arg):cE c (.idxS x i)=D9 (c.ev x) (c.ev i).num:=rfl
theorem xdB(x:Arg)(i:Nat):cE c (.ext x i)=XZ i (c.ev x):=rfl
theorem RP(b:Bool)(x:Arg):cE c (.len b x)=lenC (jw b (c.ev x)):=by simp only[cE];cases jw b (c.ev x)<;>rfl
theorem ZQ(n:Nat):cE c (.lenC n)=some (.int .i64 n):=rfl
theorem xdD(x:Arg):cE c (.cap x)=X4 (c.ev x):=rfl
theorem ZN(x y:Arg):cE c (.mini x y)=D2 (c.ev x) (c.ev y):=rfl
theorem ZO(x y:Arg):cE c (.maxi x y)=D3 (c.ev x) (c.ev y):=rfl
def SOp.pure:SOp->Bool
 | .new _| .box _| .mk _ _ _ _| .mkB _ _| .store _ _ _| .app _ _ _ _| .cpy _ _ _| .pick _ _ _| .call _ _| .isnil _ _| .newB _| .slid _| .appO _ _ _ _| .clr _ _=>false
 |_=>true
theorem rx{so:SOp}(h:so.pure=true):dP c d so=zC (cE c so):=by
 cases so<;>first|cases h;done|rfl|exact OT _
theorem bT{so:SOp}(h:so.pure=true):opC call sg c d so=fA c d (cE c so):=by
 have h1:opC call sg c d so=mM c d (dP c d so):=by cases so<;>first|rfl|cases h
 rw[h1];exact pC (rx h)
theorem xfd(x:Arg):opC call sg c d (.mov x)=fA c d (some (c.ev x)):=bT rfl
theorem P4(z:List SV)(ps:List (Nat×Nat×Arg)):opC call sg c d (.build z ps)=fA c d (tM (iw z (psC c ps))):=(bT rfl).trans (by rw[zE])
theorem xff(sz:Nat)(xs:List Arg):opC call sg c d (.lit sz xs)=fA c d (XG sz (rows sz (evL c xs))):=(bT rfl).trans (by rw[RO])
theorem xb0(xs:List Arg):opC call sg c d (.litB xs)=fA c d (D4 (toB (evL c xs))):=(bT rfl).trans (by rw[Gv])
theorem xbZ(n:Nat)(ag:Bool)(a:Arg):opC call sg c d (.load n ag a)=fA c d (lM c n ag (c.ev a)):=bT rfl
theorem xbV(x:Arg):opC call sg c d (.nchk x)=fA c d (D1 (c.ev x)):=bT rfl
theorem xfo(op:BinOp)(x y:Arg):opC call sg c d (.bin op x y)=fA c d (El op (c.ev x) (c.ev y)):=bT rfl
theorem xfp(ne:Bool)(x y:Arg):opC call sg c d (.beq ne x y)=fA c d (X7 ne (c.ev x) (c.ev y)):=bT rfl
theorem xfj(ne:Bool)(ts:List Nat)(x y:Arg):opC call sg c d (.eqS ne ts x y)=fA c d (X0 ne ts (c.ev x) (c.ev y)):=bT rfl
theorem xjd(op:UnOp)(x:Arg):opC call sg c d (.un op x)=fA c d (vE op (c.ev x)):=bT rfl
theorem P0(q:IntKind)(x:Arg):opC call sg c d (.toInt q x)=fA c d (gU q (c.ev x)):=bT rfl
theorem PZ(x:Arg):opC call sg c d (.toStr x)=fA c d (tj (c.ev x)):=bT rfl
theorem xbU(xs:List Arg):opC call sg c d (.newB xs)=nl c d (toB (evL c xs)):=rfl
theorem xbP(x:Arg):opC call sg c d (.slid x)=qt c d (c.ev x):=rfl
theorem wD(k:Nat)(l:List UInt8):nl c (some k) (some l)=some (CSt.app c (some k) {val:= .psl (k+100) 1 0 l.length (some l.length),new:=some (.bar l)}):=rfl
theorem CM(o off n:Nat)(cap:Option Nat):qt c d (.psl o 1 off n cap)=oa c d o off n cap (c.look o):=rfl
theorem CN(o off n:Nat)(cap:Option Nat)(l:List UInt8):oa c d o off n cap (some (.bar l))=if off+n<=l.length/\cap=some n then some (((c.publish o []).1).put d (.byt ((l.drop off).take n) .clip))else none:=rfl
theorem xb2(ne:Bool)(x:Arg):opC call sg c d (.isni ne x)=fA c d (D7 ne (c.ev x)):=bT rfl
theorem xfb(x:Arg):opC call sg c d (.s2b x)=fA c d (RT (c.ev x)):=bT rfl
theorem xfq(x:Arg):opC call sg c d (.b2s x)=fA c d (X8 c (c.ev x)):=bT rfl
theorem xbW(f:Nat)(a b:List Arg):opC call sg c d (.mkfn f a b)=fA c d (some (.fn f (evL c a) (evL c b))):=bT rfl
theorem xbQ(x:Arg)(lo hi:Option Arg):opC call sg c d (.slcS x lo hi)=fA c d (DQ c lo hi (c.ev x)):=(bT rfl).trans (by rw[Gu])
theorem xbR(sz:Nat)(x:Arg)(lo hi mx:Option Arg):opC call sg c d (.slcL sz x lo hi mx)=fA c d (nE c sz (c.ev x) lo hi mx):=bT rfl
theorem xbS(len sz:Nat)(x:Arg)(lo hi mx:Option Arg):opC call sg c d (.slcA len sz x lo hi mx)=fA c d (DR c len sz lo hi mx (c.ev x)):=bT rfl
theorem P3(off:Nat)(x:Arg):opC call sg c d (.faddr off x)=fA c d (tJ off (c.ev x)):=bT rfl
theorem xfh(off n:Nat)(ag:Bool)(x:Arg):opC call sg c d (.fld off n ag x)=fA c d (XO off n ag (c.ev x)):=bT rfl
theorem Fp(sz:Nat)(x i:Arg):opC call sg c d (.iaddrL sz x i)=fA c d (oG sz (c.ev x) (c.ev i).num):=bT rfl
theorem Fq(len sz:Nat)(x i:Arg):opC call sg c d (.iaddrA len sz x i)=fA c d (mb c len sz (c.ev x) (c.ev i).num):=(bT rfl).trans (by rw[uh])
theorem xb4(len sz:Nat)(ag:Bool)(x i:Arg):opC call sg c d (.idxA len sz ag x i)=fA c d (Ea len sz ag (c.ev x) (c.ev i).num):=bT rfl
theorem xb3(x i:Arg):opC call sg c d (.idxS x i)=fA c d (D9 (c.ev x) (c.ev i).num):=bT rfl
theorem xfi(x:Arg)(i:Nat):opC call sg c d (.ext x i)=fA c d (XZ i (c.ev x)):=bT rfl
theorem xfg(b:Bool)(x:Arg):opC call sg c d (.len b x)=fA c d (lenC (jw b (c.ev x))):=(bT rfl).trans (by rw[RP])
theorem xb1(n:Nat):opC call sg c d (.lenC n)=fA c d (some (.int .i64 n)):=bT rfl
theorem xfm(x:Arg):opC call sg c d (.cap x)=fA c d (X4 (c.ev x)):=bT rfl
theorem xbX(x y:Arg):opC call sg c d (.mini x y)=fA c d (D2 (c.ev x) (c.ev y)):=bT rfl
theorem xbY(x y:Arg):opC call sg c d (.maxi x y)=fA c d (D3 (c.ev x) (c.ev y)):=bT rfl
def DZ(a b:SV):SV->Option SV
 | .bool t=>some (ie t a b)
 |_=>none
theorem xcL(q a b:Arg):dP c d (.pick q a b)=zC (DZ (c.ev a) (c.ev b) (c.ev q)):=by simp only[dP];cases c.ev q<;>rfl
theorem xbT(q a b:Arg):opC call sg c d (.pick q a b)=fA c d (DZ (c.ev a) (c.ev b) (c.ev q)):=pC (xcL q a b)
def tG(ne:Bool):SV->Option SV
 | .byt l _=>gd (l≠ []) (.bool ne)
 | .lst _ xs _=>gd (xs≠ []) (.bool ne)
 | .psl _ _ _ _ _=>some (.bool ne)
 |_=>none
theorem Ra(ne:Bool)(x:Arg):dP c d (.isnil ne x)=zC (tG ne (c.ev x)):=by simp only[dP];cases c.ev x<;>first|rfl|(simp only[tG];unfold gd;split<;>rfl)
theorem P2(ne:Bool)(x:Arg):opC call sg c d (.isnil ne x)=fA c d (tG ne (c.ev x)):=pC (Ra ne x)
def Cu(c:CSt)(k:Nat)(o:aB)(v:SV):CSt:=CSt.app c (some k) {val:=v,new:=some o}
theorem RF(l:List (Nat×SV))(ob:List (Nat×aB))(t:List Nat)(o:aB)(v:SV):
 Cu ⟨l,ob,t⟩ k o v=⟨i5 (df (k+100) (k+101) l) k v,iz (bx (k+100) (k+101) ob) (k+100) (o.purge (k+100) (k+101)),cw (k+100) (k+101) t⟩:=rfl
def xiu(c:CSt)(k:Nat)(v:SV):Option aB->Option CSt
 |some o=>some (Cu c k o v)
 |none=>none
theorem DM(v:SV)(o:aB):xiu c k v (some o)=some (Cu c k o v):=rfl
theorem xfc(o:aB):opC call sg c (some k) (.new o)=xiu c k (.ptr (k+100) 0) (gd (o.wf=true) o):=by show mM c (some k) (gd _ _)=_;unfold gd;split<;>rfl
theorem xfn(x:Arg):opC call sg c (some k) (.box x)=some (Cu c k (.rc (c.ev x).cells) (.ptr (k+100) 0)):=rfl
def mkE(bytes:Nat):SV->SV->Option (Nat×Nat)
 | .int _ n,.int _ m=>gd (0<=n/\n<=m/\bytes*m<=140737488355328/\m<=9223372036854775807) (n.toNat,m.toNat)
 |_,_=>none
def mkS(c:CSt)(k:Nat)(z:List SV):Option (Nat×Nat)->Option CSt
 |some p=>some (Cu c k (.arr z.length (al p.2 z)) (.psl (k+100) z.length 0 p.1 (some p.2)))
 |none=>none
theorem xje(z:List SV)(bytes:Nat)(n m:Arg):opC call sg c (some k) (.mk z bytes n m)=mkS c k z (mkE bytes (c.ev n) (c.ev m)):=by show mM c (some k) (dP c (some k) (.mk z bytes n m))=_;simp only[dP];cases h1:c.ev n<;>cases h2:c.ev m<;>first|rfl|(simp only[mkE];unfold gd;split<;>rfl)
def xc1:SV->SV->Option (Nat×Nat)
 | .int _ n,.int _ m=>gd (0<=n/\n<=m/\m<=140737488355328) (n.toNat,m.toNat)
 |_,_=>none
def xib(c:CSt)(k:Nat):Option (Nat×Nat)->Option CSt
 |some p=>some (Cu c k (.bar (al p.2 0)) (.psl (k+100) 1 0 p.1 (some p.2)))
 |none=>none
theorem xfe(n m:Arg):opC call sg c (some k) (.mkB n m)=xib c k (xc1 (c.ev n) (c.ev m)):=by show mM c (some k) (dP c (some k) (.mkB n m))=_;simp only[dP];cases h1:c.ev n<;>cases h2:c.ev m<;>first|rfl|(simp only[xc1];unfold gd;split<;>rfl)
def stC(c:CSt)(n:Nat)(v:List SV):SV->Option (Nat×aB)
 | .ptr o off=>match c.look o with
  |some (.rc cs)=>gd (off+n<=cs.length/\v.length=n/\v.all SV.one=true) (o,.rc (setCells cs off v))
  |some (.arr sz xs)=>gd (off=0/\n=xs.length*sz/\v.length=n/\v.all SV.isData=true) (o,.arr sz (jg sz xs.length (v.map SV.data)))
  |some (.bar l)=>match toB v with
   |some l'=>gd (off=0/\n=l.length/\l'.length=n) (o,.bar l')
   |none=>none
  |_=>none
 | .ap o sz i j=>match c.look o with
  |some (.arr sz' xs)=>gd (sz=sz'/\i<xs.length/\j+n<=sz/\v.length=n/\v.all SV.isData=true) (o,.arr sz' (fC sz xs i j n (v.map SV.data)))
  |some (.bar l)=>match v with
   |[.u8 b]=>gd (sz=1/\j=0/\n=1/\i<l.length) (o,.bar (l.set i b))
   |_=>none
  |_=>none
 |_=>none
def stS(c:CSt):Option (Nat×aB)->Option CSt
 |some p=>some ⟨c.tm,iz c.ob p.1 p.2,c.tk⟩
 |none=>none
theorem EH(l:List (Nat×SV))(ob:List (Nat×aB))(t:List Nat)(p:Nat×aB):stS ⟨l,ob,t⟩ (some p)=some ⟨l,iz ob p.1 p.2,t⟩:=rfl
theorem CK(n:Nat)(v:List SV)(a:SV):kH c n v a=(stC c n v a).map fun p=> {val:= .undef,wr:=[p]}:=by
 cases a with
 |ptr o off=>
  simp only[kH,stC];cases c.look o with
  |none=>rfl
  |some ob=>
   cases ob with
   |rc cs=>simp only;unfold gd;split<;>rfl
   |arr sz' xs=>simp only;unfold gd;split<;>rfl
   |bar l=>simp only;cases toB v<;>first|rfl|(simp only;unfold gd;split<;>rfl)
 |ap o sz i j=>
  simp only[kH,stC];cases c.look o with
  |none=>rfl
  |some ob=>
   cases ob with
   |rc cs=>rfl
   |arr sz' xs=>simp only;unfold gd;split<;>rfl
   |bar l=>
    rcases v with _|⟨u,_|⟨u2,r⟩⟩
    ·rfl
    ·cases u<;>first|rfl|(simp only;unfold gd;split<;>rfl)
    ·cases u<;>rfl
 |_=>rfl
theorem P1(n:Nat)(a x:Arg):opC call sg c none (.store n a x)=if(c.ev x).isDef=true then stS c (stC c n (c.ev x).cells (c.ev a))else none:=by
 show mM c none (dP c none (.store n a x))=_;simp only[dP];split
 ·rw[CK];cases stC c n (c.ev x).cells (c.ev a)<;>rfl
 ·rfl
def apB(c:CSt)(k:Nat)(l:List UInt8)(t:Tok)(z:List SV)(bytes:Nat):Option (List UInt8)->Option CSt
 |some l'=>if z.length=1/\bytes=1/\t.readyC c=true/\l.length+l'.length<=140737488355328 then some (CSt.app c (some k) {val:= .byt (l++l') (.id (k+100)),eat:=t,tok:=true})else none
 |none=>none
def apL(c:CSt)(k:Nat)(sz':Nat)(l:List (List SV))(t:Tok)(z:List SV)(bytes:Nat):Option (List (List SV))->Option CSt
 |some l'=>if z.length=sz'/\t.readyC c=true/\(l.length+l'.length)*bytes<=140737488355328 then some (CSt.app c (some k) {val:= .lst z.length (l++l') (.id (k+100)),eat:=t,tok:=true})else none
 |none=>none
theorem RE(l:List (Nat×SV))(ob:List (Nat×aB))(t:List Nat)(v:SV)(e:Tok):
 CSt.app ⟨l,ob,t⟩ (some k) {val:=v,eat:=e,tok:=true}=⟨i5 (df (k+100) (k+101) l) k v,bx (k+100) (k+101) ob,lX (cw (k+100) (k+101) (e.eat t)) (k+100)⟩:=rfl
def apS(c:CSt)(k:Nat)(z:List SV)(bytes:Nat)(y:SV):SV->Option CSt
 | .byt l t=>apB c k l t z bytes (eD c y)
 | .lst sz' l t=>apL c k sz' l t z bytes (fH c z.length y)
 |_=>none
theorem xfr(z:List SV)(bytes:Nat)(x y:Arg):opC call sg c (some k) (.app z bytes x y)=apS c k z bytes (c.ev y) (c.ev x):=by
 show mM c (some k) (dP c (some k) (.app z bytes x y))=_;simp only[dP];cases c.ev x<;>try rfl
 ·simp only[apS]
  cases eD c (c.ev y)with
  |none=>rfl
  |some l'=>simp only[cP,apB];unfold gd;split<;>rfl
 ·simp only[apS]
  cases fH c z.length (c.ev y)with
  |none=>rfl
  |some l'=>simp only[cP,apL];unfold gd;split<;>rfl
def cpB(o off n:Nat)(sz sz':Nat)(l:List UInt8):Option (List UInt8)->Option (SV×Nat×aB)
 |some l'=>gd (sz=1/\sz'=1/\off+n<=l.length) (.int .i64 (min l'.length n:Nat),o,.bar (l.take off++l'.take n++l.drop (off+(l'.take n).length)))
 |none=>none
def cpL(b:Bool)(o off n:Nat)(sz sz' sz'':Nat)(xs:List (List SV)):Option (List (List SV))->Option (SV×Nat×aB)
 |some l'=>gd (b=true/\sz=sz'/\sz=sz''/\off+n<=xs.length) (.int .i64 (min l'.length n:Nat),o,.arr sz (xs.take off++l'.take n++xs.drop (off+(l'.take n).length)))
 |none=>none
def cp2(b:Bool)(c:CSt)(sz o sz' off n:Nat)(y:SV):Option aB->Option (SV×Nat×aB)
 |some (.bar l)=>cpB o off n sz sz' l (eD c y)
 |some (.arr sz'' xs)=>cpL b o off n sz sz' sz'' xs (fH c sz y)
 |_=>none
def cpC(b:Bool)(c:CSt)(sz:Nat)(y:SV):SV->Option (SV×Nat×aB)
 | .psl o sz' off n _=>cp2 b c sz o sz' off n y (c.look o)
 |_=>none
def cpS(c:CSt)(d:Option Nat):Option (SV×Nat×aB)->Option CSt
 |some p=>some (CSt.put ⟨c.tm,iz c.ob p.2.1 p.2.2,c.tk⟩ d p.1)
 |none=>none
theorem xb6(z:List SV)(b:Nat)(x y:Arg):opC call sg c d (.appO z b x y)=qP c d z b y (c.ev x):=rfl
def clA(o off n:Nat)(z:List SV)(sz' sz'':Nat)(xs:List (List SV)):Option (SV×Nat×aB):=gd (0<n/\z.length=sz'/\z.length=sz''/\off+n<=xs.length) (.tup [],o,.arr z.length (xs.take off++al n z++xs.drop (off+n)))
def cl2(z:List SV)(o sz' off n:Nat):Option aB->Option (SV×Nat×aB)
 |some (.arr sz'' xs)=>clA o off n z sz' sz'' xs
 |_=>none
def clC(c:CSt)(z:List SV):SV->Option (SV×Nat×aB)
 | .psl o sz' off n _=>cl2 z o sz' off n (c.look o)
 |_=>none
theorem xfl(z:List SV)(x:Arg):opC call sg c d (.clr z x)=cpS c d (clC c z (c.ev x)):=by
 show mM c d (dP c d (.clr z x))=_;simp only[dP];cases c.ev x<;>try rfl
 rename_i o sz' off n cap;simp only[clC];cases c.look o with
 |none=>rfl
 |some ob=>
  cases ob with
  |rc cs=>rfl
  |bar l=>rfl
  |arr sz'' xs=>simp only[cl2,clA];unfold gd;split<;>rfl
theorem xfk(sz:Nat)(x y:Arg):opC call sg c d (.cpy sz x y)=cpS c d (cpC y.isT c sz (c.ev y) (c.ev x)):=by
 show mM c d (dP c d (.cpy sz x y))=_;simp only[dP];cases c.ev x<;>try rfl
 rename_i o sz' off n cap;simp only[cpC];cases c.look o with
 |none=>rfl
 |some ob=>
  cases ob with
  |rc cs=>rfl
  |bar l=>
   simp only[cp2];cases eD c (c.ev y)with
   |none=>rfl
   |some l'=>simp only[cP,cpB];unfold gd;split<;>rfl
  |arr sz'' xs=>
   simp only[cp2];cases fH c sz (c.ev y)with
   |none=>rfl
   |some l'=>simp only[cP,cpL];unfold gd;split<;>rfl
def Ot(call:cX)(sg:Nat->Sig)(c:CSt)(d:Option Nat)(as:List SV):SV->Option CSt
 | .fn g a b=>gZ call (sg g) c d g (a++as++b)
 |_=>none
theorem xb5(f:Arg)(as:List Arg):opC call sg c d (.call f as)=Ot call sg c d (evL c as) (c.ev f):=by simp only[opC];unfold Ot;rfl
theorem Z3(o:SOp):dD call sg c ⟨d,none,o⟩=opC call sg c d o:=rfl
theorem xa1(g:Option (Nat×Bool))(o:SOp)(r:List SI):plC call sg (⟨d,g,o⟩::r) c=nxP call sg r (opC call sg c d o):=by rw[plC]
theorem BZ:fF call sg [] c=some c:=by rw[fF]
theorem Np(i:SI)(dead:List Nat)(r:List RI):fF call sg (.op i dead::r) c=nxC call sg dead r (dD call sg c i):=by rw[fF]
theorem B0(g:Nat)(b:Bool)(l:List SI)(dead:List Nat)(r:List RI):fF call sg (.grp g b l dead::r) c=nxC call sg dead r (oI call sg b l c (c.get g)):=by rw[fF]
theorem BX(i:SI)(dead:List Nat)(r:List RI):fF call sg (.tks i dead::r) c=nxC call sg dead r (zH c i):=by rw[fF]
theorem O5(d:Option Nat)(x:Arg):zH c ⟨d,none,.s2b x⟩=O6 c d (c.ev x):=rfl
theorem ZW(k:Nat)(l:List UInt8):O6 c (some k) (.str l)=some (CSt.app c (some k) {val:= .byt l (.id (k+100)),tok:=true}):=rfl
theorem BY(i:SI)(dead:List Nat)(r:List RI):fF call sg (.own i dead::r) c=nxC call sg dead r (se c i):=by rw[fF]
theorem PP(d:Option Nat)(x:Arg):se c ⟨d,none,.s2b x⟩=PV c d (c.ev x):=rfl
theorem PQ(d:Option Nat)(sz:Nat)(xs:List Arg):se c ⟨d,none,.lit sz xs⟩=PS c sz d (rows sz (evL c xs)):=rfl
theorem Fl(d:Option Nat)(xs:List Arg):se c ⟨d,none,.litB xs⟩=nl c d (toB (evL c xs)):=rfl
theorem PR(d:Option Nat)(z:List SV)(b:Nat)(x y:Arg):se c ⟨d,none,.app z b x y⟩=qP c d z b y (c.ev x):=rfl
theorem Cb(q:Dir)(r:List RI):fF call sg (.dir q::r) c=nxC call sg [] r (qk c q):=by rw[fF]
theorem kM(dead:List Nat)(r:List RI):nxC call sg dead r (some c)=fF call sg r (c.kill dead):=by rw[nxC]
theorem kN(dead:List Nat)(r:List RI):nxC call sg dead r none=none:=by rw[nxC]
theorem Nm:plC call sg [] c=some c:=by rw[plC]
theorem Ce(r:List SI):nxP call sg r (some c)=plC call sg r c:=by rw[nxP]
theorem Cf(r:List SI):nxP call sg r none=none:=by rw[nxP]
theorem ZU:unL c []=c:=rfl
theorem OY(g:Option (Nat×Bool))(o:SOp)(r:List SI):unL c (⟨d,g,o⟩::r)=unL (c.put d (.tup [])) r:=rfl
theorem xfJ(b:Bool)(l:List SI):oI call sg b l c (.tup [])=some (unL c l):=rfl
theorem xfK(b t:Bool)(l:List SI):oI call sg b l c (.bool t)=if t=b then plC call sg l c else some (unL c l):=rfl
theorem xb7(dead:List Nat)(r:List RI)(p:Prop)[Decidable p](a b:Option CSt):nxC call sg dead r (if p then a else b)=if p then nxC call sg dead r a else nxC call sg dead r b:=by split<;>rfl
theorem xce(p:Prop)[Decidable p](l l':List (Nat×SV))(o:List (Nat×aB))(t:List Nat):(if p then some (CSt.mk l o t)else some (CSt.mk l' o t))=some (CSt.mk (if p then l else l') o t):=by split<;>rfl
theorem xcd(p:Prop)[Decidable p](n:Nat)(v w:SV)(l l':List (Nat×SV)):(if p then(n,v)::l else(n,w)::l')=(n,if p then v else w)::(if p then l else l'):=by split<;>rfl
theorem Qp(p:Prop)[Decidable p]:(if p then([]:List (Nat×SV))else [])=[]:=by split<;>rfl
theorem FO{α:Type}(p:Prop)[Decidable p](a:α):(if p then a else a)=a:=by split<;>rfl
theorem FN(p:Prop)[Decidable p](q:IntKind)(a b:Int):(if p then SV.int q a else SV.int q b)= .int q (if p then a else b):=by split<;>rfl
theorem Dl(p:Prop)[Decidable p](a b:Bool):(if p then SV.bool a else SV.bool b)= .bool (if p then a else b):=by split<;>rfl
theorem Qo(p:Prop)[Decidable p](a b:UInt8):(if p then SV.u8 a else SV.u8 b)= .u8 (if p then a else b):=by split<;>rfl
theorem Dn(t a b:Bool):ie t (.bool a) (.bool b)= .bool (if t=true then a else b):=by cases t<;>rfl
theorem FP(t:Bool)(q:IntKind)(a b:Int):ie t (.int q a) (.int q b)= .int q (if t=true then a else b):=by cases t<;>rfl
theorem Qq(t:Bool)(a b:UInt8):ie t (.u8 a) (.u8 b)= .u8 (if t=true then a else b):=by cases t<;>rfl
theorem Dm(a b:SV):ie true a b=a:=rfl
theorem wJ(a b:SV):ie false a b=b:=rfl
variable {rn : RC -> CSt -> gG}
theorem Ft(dead:List Nat):nrm dead (some c)=some (.n,c.kill dead):=rfl
theorem Fu(dead:List Nat):nrm dead none=none:=rfl
theorem P6(dead:List Nat)(p:Prop)[Decidable p](a b:Option CSt):nrm dead (if p then a else b)=if p then nrm dead a else nrm dead b:=by split<;>rfl
theorem xiW(b:RC):sq rn b (some (.n,c))=rn b c:=rfl
theorem xiU(b:RC)(id:Nat):sq rn b (some (.x id,c))=some (.x id,c):=rfl
theorem xiV(b:RC):sq rn b (some (.r,c))=some (.r,c):=rfl
theorem O9(b:RC):sq rn b none=none:=rfl
theorem ZY(b:RC)(p:Prop)[Decidable p](x y:gG):sq rn b (if p then x else y)=if p then sq rn b x else sq rn b y:=by split<;>rfl
theorem xfS(a b:RC)(t:Bool):cnd rn a b c (.bool t)=if t=true then rn a c else rn b c:=rfl
theorem xfW(id:Nat):blk id (some (.n,c))=some (.n,c):=rfl
theorem xfV(id:Nat):blk id (some (.r,c))=some (.r,c):=rfl
theorem xfU(id id':Nat):blk id (some (.x id',c))=if id'=id then some (.n,c)else some (.x id',c):=rfl
theorem Gn(id:Nat):blk id none=none:=rfl
theorem Ru(id:Nat)(p:Prop)[Decidable p](x y:gG):blk id (if p then x else y)=if p then blk id x else blk id y:=by split<;>rfl
theorem xjl(b:RC):lp rn b (some (.n,c))=rn (.loop b) c:=rfl
theorem xjj(b:RC)(id:Nat):lp rn b (some (.x id,c))=some (.x id,c):=rfl
theorem xjk(b:RC):lp rn b (some (.r,c))=some (.r,c):=rfl
theorem P8(b:RC):lp rn b none=none:=rfl
theorem xcb(b:RC)(p:Prop)[Decidable p](x y:gG):lp rn b (if p then x else y)=if p then lp rn b x else lp rn b y:=by split<;>rfl
theorem Ff(a:RC):prD rn a (some c)=rn a c:=rfl
theorem xd2(ds:List Dir):psD ds (some (.n,c))=prD (fun _ c=>some (.n,c)) .skip (im c ds):=by simp only[psD];cases im c ds<;>rfl
theorem xd0(ds:List Dir)(id:Nat):psD ds (some (.x id,c))=some (.x id,c):=rfl
theorem xd1(ds:List Dir):psD ds (some (.r,c))=some (.r,c):=rfl
theorem Fe(ds:List Dir):psD ds none=none:=rfl
theorem PN(ds:List Dir)(p:Prop)[Decidable p](x y:gG):psD ds (if p then x else y)=if p then psD ds x else psD ds y:=by split<;>rfl
theorem Gc:im c []=some c:=rfl
def xit(ds:List Dir):Option CSt->Option CSt
 |some c=>im c ds
 |none=>none
theorem DF(q:Dir)(ds:List Dir):im c (q::ds)=xit ds (qk c q):=by simp only[im];cases qk c q<;>rfl
theorem DH(ds:List Dir):xit ds (some c)=im c ds:=rfl
theorem xfM(F:FnC)(n:Nat):Ei F n (some (.n,c))=Nz F.keep F.raw n c (qN c F.rs):=rfl
theorem xfL(F:FnC)(n:Nat):Ei F n (some (.r,c))=Nz F.keep F.raw n c (qN c F.rs):=rfl
theorem QD(F:FnC)(n:Nat)(p:Prop)[Decidable p](x y:gG):Ei F n (if p then x else y)=if p then Ei F n x else Ei F n y:=by split<;>rfl
theorem Gj(sg:Sig)(g:Nat)(as:List SV):gZ call sg c d g as=jy call sg c d g as ((SV.idsL as).isEmpty&&sg.own.isEmpty):=rfl
theorem Rp(sg:Sig)(g:Nat)(as:List SV):jy call sg c d g as true=lP c d (call g (SV.bareL as) [] 0):=rfl
theorem Rq(sg:Sig)(g:Nat)(as:List SV):jy call sg c d g as false=jq call sg d g (eJ c as (iH sg.raw 0 as)):=rfl
theorem QF(q:ej):lP c d (some q)=np c d q q.bare:=rfl
theorem QH(q:ej):np c d q true=some (c.put d q.r):=rfl
theorem QI(q:ej):np c d q false=wS c d q q.small:=rfl
theorem QG(q:ej):wS c d q true=some (jz c d [] [] q):=rfl
theorem Ry(r:SV)(os:List (Nat×aB))(tk:List Nat):(ej.mk r os tk).bare=(os.isEmpty&&tk.isEmpty&&r.ids.isEmpty&&r.toks.isEmpty):=rfl
theorem EJ(r:SV)(os:List (Nat×aB))(tk:List Nat):(ej.mk r os tk).small=(os.all (fun p=>decide (p.1<1000)&&p.2.ids.all (fun k=>decide (k<1000))&&p.2.toks.all (fun k=>decide (k<1000)))&&r.ids.all (fun k=>decide (k<1000))&&r.toks.all (fun k=>decide (k<1000))&&tk.all (fun k=>decide (k<1000))):=rfl
theorem Pb(sg:Sig)(g:Nat)(as:List SV):jq call sg d g (c,as)=nb call c d g (jD c.tk sg.own 50 0 as):=rfl
theorem Pi(g:Nat)(as:List SV)(mt1:List (Option Nat)):nb call c d g (as,mt1)=kW call c d g as mt1 (dG c 60 [] (SV.idsL as)) (gx c (dG c 60 [] (SV.idsL as))):=rfl
theorem Ph(g:Nat)(as:List SV)(mt1:List (Option Nat))(m:List Nat)(os:List aB):kW call c d g as mt1 m (some os)=m9 call c d g as mt1 m (dX c.tk (50+mt1.length) os):=rfl
theorem Pg(g:Nat)(as:List SV)(mt1:List (Option Nat))(m:List Nat)(os:List aB)(mt2:List (Option Nat)):m9 call c d g as mt1 m (os,mt2)=
 m7 call c d g as mt1 m os mt2 (nT (SV.idsL as++fD os) m&&dx m&&dx (cu (mt1++mt2))&&decide (m.length<=40)&&m.all fun o=> !inR (d.getD 0) o):=rfl
theorem Pe(g:Nat)(as:List SV)(mt1:List (Option Nat))(m:List Nat)(os:List aB)(mt2:List (Option Nat)):m7 call c d g as mt1 m os mt2 true=
 nZ c d m (cu (mt1++mt2)) (call g (SV.renL (gC m) id as) (ee (gC m) id os) (mt1.length+mt2.length)):=rfl
theorem Pd(m mt:List Nat)(q:ej):nZ c d m mt (some q)=vQ c d m mt q q.small:=rfl
theorem Pc(m mt:List Nat)(q:ej):vQ c d m mt q true=some (jz c d m mt q):=rfl
theorem xcw(keep raw:List Nat)(vs:List SV):Nz keep raw k c (some vs)=QE keep k (eJ c vs (iH raw 0 vs)):=rfl
theorem xcp(keep:List Nat)(vs:List SV):QE keep k (c,vs)=Ny keep k c vs (decide (k=0)&&(SV.idsL vs).isEmpty&&keep.isEmpty):=rfl
theorem xcu(keep:List Nat)(vs:List SV):Ny keep k c vs true=some ⟨i6 (SV.bareL vs),[],[]⟩:=rfl
theorem xcv(keep:List Nat)(vs:List SV):Ny keep k c vs false=XS k c (jD c.tk keep 60 0 vs):=rfl
theorem xct(vs:List SV)(mt1:List (Option Nat)):XS k c (vs,mt1)=XR k c vs mt1 (dG c 60 [] (jU k++SV.idsL vs)) (gx c (dG c 60 [] (jU k++SV.idsL vs))):=rfl
theorem xcs(vs:List SV)(mt1:List (Option Nat))(m:List Nat)(os:List aB):XR k c vs mt1 m (some os)=XQ k vs mt1 m (dX c.tk (60+mt1.length) os):=rfl
theorem xcr(vs:List SV)(mt1:List (Option Nat))(m:List Nat)(os:List aB)(mt2:List (Option Nat)):XQ k vs mt1 m (os,mt2)=
 XP k vs mt1 m os mt2 (nT (SV.idsL vs++fD os) m&&dx m&&dx (cu (mt1++mt2))&&decide (m.take k=jU k)&&(m.drop k).all fun o=>decide (k<=o)):=rfl
theorem xcq(vs:List SV)(mt1:List (Option Nat))(m:List Nat)(os:List aB)(mt2:List (Option Nat)):XP k vs mt1 m os mt2 true=
 some ⟨(i6 vs).ren (gM k m) id,(fQ 0 (ee (gM k m) id (os.take k)))++(fQ (100+k) (ee (gM k m) id (os.drop k))),tks 60 (mt1.length+mt2.length)⟩:=rfl
theorem PX(v:SV):i6 [v]=v:=rfl
theorem PW(v w:SV)(r:List SV):i6 (v::w::r)= .tup (v::w::r):=rfl
theorem PY:i6 []= .tup []:=rfl
theorem ER(raw:List Nat)(i:Nat)(q:IntKind)(n:Int):lW raw i (.int q n)=[]:=rfl
theorem CQ(raw:List Nat)(i:Nat)(b:Bool):lW raw i (.bool b)=[]:=rfl
theorem Pl(raw:List Nat)(i:Nat)(b:UInt8):lW raw i (.u8 b)=[]:=rfl
theorem EM(raw:List Nat)(i:Nat)(l:List UInt8):lW raw i (.str l)=[]:=rfl
theorem ES(raw:List Nat)(i:Nat)(l:List UInt8)(t:Tok):lW raw i (.byt l t)=[]:=rfl
theorem EP(raw:List Nat)(i sz:Nat)(l:List (List SV))(t:Tok):lW raw i (.lst sz l t)=[]:=rfl
theorem CO(raw:List Nat)(i:Nat):lW raw i .nilp=[]:=rfl
theorem CP(raw:List Nat)(i:Nat):lW raw i .nili=[]:=rfl
theorem vU(raw:List Nat)(i:Nat):lW raw i .undef=[]:=rfl
theorem Pm(raw:List Nat)(i:Nat)(l:List SV):lW raw i (.pp l)=[]:=rfl
theorem EN(raw:List Nat)(i o off:Nat):lW raw i (.ptr o off)=[]:=rfl
theorem Po(raw:List Nat)(i o sz a b:Nat):lW raw i (.ap o sz a b)=[]:=rfl
theorem ET(raw:List Nat)(i:Nat)(l:List SV):lW raw i (.agg l)=if raw.contains i=true then []else tp l:=rfl
theorem CZ:tp []=[]:=rfl
theorem vY(v:SV)(r:List SV):tp (v::r)=gK v++tp r:=rfl
theorem CW(q:IntKind)(n:Int):gK (.int q n)=[]:=rfl
theorem vX(b:Bool):gK (.bool b)=[]:=rfl
theorem EU(b:UInt8):gK (.u8 b)=[]:=rfl
theorem CS(l:List UInt8):gK (.str l)=[]:=rfl
theorem CX(l:List UInt8)(t:Tok):gK (.byt l t)=[]:=rfl
theorem CV(sz:Nat)(l:List (List SV))(t:Tok):gK (.lst sz l t)=[]:=rfl
theorem vV:gK .nilp=[]:=rfl
theorem vW:gK .nili=[]:=rfl
theorem tZ:gK .undef=[]:=rfl
theorem EV(l:List SV):gK (.pp l)=[]:=rfl
theorem CT(o off:Nat):gK (.ptr o off)=[]:=rfl
theorem EX(o sz a b:Nat):gK (.ap o sz a b)=[]:=rfl
theorem CY(l:List SV):gK (.agg l)=[]:=rfl
theorem CR(l:List SV):gK (.tup l)=[]:=rfl
theorem EW(f:Nat)(a b:List SV):gK (.fn f a b)=[]:=rfl
theorem CU(o sz off n:Nat)(m:Option Nat):gK (.psl o sz off n m)=[o]:=rfl
theorem EL(raw:List Nat)(i:Nat)(l:List SV):lW raw i (.tup l)=[]:=rfl
theorem Pn(raw:List Nat)(i f:Nat)(a b:List SV):lW raw i (.fn f a b)=[]:=rfl
theorem EO(raw:List Nat)(i o sz off n:Nat)(m:Option Nat):lW raw i (.psl o sz off n m)=if raw.contains i=true then []else [o]:=rfl
theorem Qw(p:Prop)[Decidable p](a b v:SV):ie (decide p) (if p then a else b) v=ie (decide p) a v:=by by_cases h:p<;>simp[ie,h]
theorem Qv(p:Prop)[Decidable p](a b v:SV):ie (decide p) v (if ¬p then a else b)=ie (decide p) v a:=by by_cases h:p<;>simp[ie,h]
theorem Qs(t:Bool)(a b v:SV):ie t (if t=true then a else b) v=ie t a v:=by cases t<;>simp[ie]
theorem Qr(t:Bool)(a b v:SV):ie t v (if t=false then a else b)=ie t v a:=by cases t<;>simp[ie]
theorem Qu(t:Bool)(a b v:SV):ie (!t) (if t=false then a else b) v=ie (!t) a v:=by cases t<;>simp[ie]
theorem Qt(t:Bool)(a b v:SV):ie (!t) v (if t=true then a else b)=ie (!t) v a:=by cases t<;>simp[ie]
theorem Rx(p q:Prop)[Decidable p][Decidable q]:(if p then decide q else false)=decide (p/\q):=by by_cases h:p<;>simp[h]
theorem xcV(p q:Prop)[Decidable p][Decidable q]:(if p then true else decide q)=decide (p\/q):=by by_cases h:p<;>simp[h]
theorem RA(v:SV):c.app d {val:=v}=c.put d v:=rfl
theorem RB(l:List (Nat×SV))(ob:List (Nat×aB))(t:List Nat)(o:aB)(v:SV):
 CSt.app ⟨l,ob,t⟩ (some k) {val:=v,new:=some o}=⟨i5 (df (k+100) (k+101) l) k v,iz (bx (k+100) (k+101) ob) (k+100) (o.purge (k+100) (k+101)),cw (k+100) (k+101) t⟩:=rfl
theorem xcW(l:List (Nat×SV))(ob:List (Nat×aB))(t:List Nat)(v:SV)(p:Nat×aB):CSt.app ⟨l,ob,t⟩ d {val:=v,wr:=[p]}=CSt.put ⟨l,iz ob p.1 p.2,t⟩ d v:=rfl
theorem Gf(l:List (Nat×SV))(ob:List (Nat×aB))(t:List Nat)(p:SV×Nat×aB):cpS ⟨l,ob,t⟩ d (some p)=some (CSt.put ⟨l,iz ob p.2.1 p.2.2,t⟩ d p.1):=rfl
theorem FD(z:List SV)(p:Nat×Nat):mkS c k z (some p)=some (Cu c k (.arr z.length (al p.2 z)) (.psl (k+100) z.length 0 p.1 (some p.2))):=rfl
theorem Df(p:Nat×Nat):xib c k (some p)=some (Cu c k (.bar (al p.2 0)) (.psl (k+100) 1 0 p.1 (some p.2))):=rfl
theorem xdm(x:Arg):cY c (.mov x)=some (c.ev x):=by simp only[cY];rw[xdz]
theorem OP(z:List SV)(ps:List (Nat×Nat×Arg)):cY c (.build z ps)=tM (iw z (psC c ps)):=by simp only[cY];rw[zE]
theorem xdn(sz:Nat)(xs:List Arg):cY c (.lit sz xs)=XG sz (rows sz (evL c xs)):=by simp only[cY];rw[RO]
theorem ZD(xs:List Arg):cY c (.litB xs)=D4 (toB (evL c xs)):=by simp only[cY];rw[Gv]
theorem ZC(n:Nat)(ag:Bool)(a:Arg):cY c (.load n ag a)=lM c n ag (c.ev a):=by simp only[cY];rw[ZP]
theorem Zy(x:Arg):cY c (.nchk x)=D1 (c.ev x):=by simp only[cY];rw[ZL]
theorem xdt(op:BinOp)(x y:Arg):cY c (.bin op x y)=El op (c.ev x) (c.ev y):=by simp only[cY];rw[xdE]
theorem xdu(ne:Bool)(x y:Arg):cY c (.beq ne x y)=X7 ne (c.ev x) (c.ev y):=by simp only[cY];rw[xdF]
theorem xdr(ne:Bool)(ts:List Nat)(x y:Arg):cY c (.eqS ne ts x y)=X0 ne ts (c.ev x) (c.ev y):=by simp only[cY];rw[xdC]
theorem xiM(op:UnOp)(x:Arg):cY c (.un op x)=vE op (c.ev x):=by simp only[cY];rw[xiS]
theorem ON(q:IntKind)(x:Arg):cY c (.toInt q x)=gU q (c.ev x):=by simp only[cY];rw[OW]
theorem OM(x:Arg):cY c (.toStr x)=tj (c.ev x):=by simp only[cY];rw[OV]
theorem ZF(ne:Bool)(x:Arg):cY c (.isni ne x)=D7 ne (c.ev x):=by simp only[cY];rw[ZR]
theorem xdl(x:Arg):cY c (.s2b x)=RT (c.ev x):=by simp only[cY];rw[xdy]
theorem xdv(x:Arg):cY c (.b2s x)=X8 c (c.ev x):=by simp only[cY];rw[xdG]
theorem Zz(f:Nat)(a b:List Arg):cY c (.mkfn f a b)=some (.fn f (evL c a) (evL c b)):=by simp only[cY];rw[ZM]
theorem Zu(x:Arg)(lo hi:Option Arg):cY c (.slcS x lo hi)=DQ c lo hi (c.ev x):=by simp only[cY];rw[Gu]
theorem Zv(sz:Nat)(x:Arg)(lo hi mx:Option Arg):cY c (.slcL sz x lo hi mx)=nE c sz (c.ev x) lo hi mx:=by simp only[cY];rw[ZJ]
theorem Zw(len sz:Nat)(x:Arg)(lo hi mx:Option Arg):cY c (.slcA len sz x lo hi mx)=DR c len sz lo hi mx (c.ev x):=by simp only[cY];rw[ZK]
theorem OO(off:Nat)(x:Arg):cY c (.faddr off x)=tJ off (c.ev x):=by simp only[cY];rw[OX]
theorem xdp(off n:Nat)(ag:Bool)(x:Arg):cY c (.fld off n ag x)=XO off n ag (c.ev x):=by simp only[cY];rw[xdA]
theorem Ew(sz:Nat)(x i:Arg):cY c (.iaddrL sz x i)=oG sz (c.ev x) (c.ev i).num:=by simp only[cY];rw[EB]
theorem Ey(len sz:Nat)(x i:Arg):cY c (.iaddrA len sz x i)=mb c len sz (c.ev x) (c.ev i).num:=by simp only[cY];rw[uh]
theorem ZH(len sz:Nat)(ag:Bool)(x i:Arg):cY c (.idxA len sz ag x i)=Ea len sz ag (c.ev x) (c.ev i).num:=by simp only[cY];rw[ZT]
theorem ZG(x i:Arg):cY c (.idxS x i)=D9 (c.ev x) (c.ev i).num:=by simp only[cY];rw[ZS]
theorem xdq(x:Arg)(i:Nat):cY c (.ext x i)=XZ i (c.ev x):=by simp only[cY];rw[xdB]
theorem xdo(b:Bool)(x:Arg):cY c (.len b x)=lenC (jw b (c.ev x)):=by simp only[cY];rw[RP]
theorem ZE(n:Nat):cY c (.lenC n)=some (.int .i64 n):=by simp only[cY];rw[ZQ]
theorem xds(x:Arg):cY c (.cap x)=X4 (c.ev x):=by simp only[cY];rw[xdD]
theorem ZA(x y:Arg):cY c (.mini x y)=D2 (c.ev x) (c.ev y):=by simp only[cY];rw[ZN]
theorem ZB(x y:Arg):cY c (.maxi x y)=D3 (c.ev x) (c.ev y):=by simp only[cY];rw[ZO]
theorem Zx(q a b:Arg):cY c (.pick q a b)=DZ (c.ev a) (c.ev b) (c.ev q):=by simp only[cY];cases c.ev q<;>rfl
theorem xi7(o:SOp):qv c ⟨d,none,o⟩=cY c o:=rfl
theorem xi6(g:Nat)(b:Bool)(o:SOp):qv c ⟨d,some (g,b),o⟩=qg c o b (c.get g):=rfl
theorem xi9(b t:Bool)(o:SOp):qg c o b (.bool t)=if t=b then cY c o else some (.tup []):=rfl
theorem xi8(b:Bool)(o:SOp):qg c o b (.tup [])=some (.tup []):=rfl
def stG(call:cX)(sg:Nat->Sig)(c:CSt)(d:Option Nat)(o:SOp)(b:Bool):SV->Option CSt
 | .bool t=>if t=b then opC call sg c d o else some (c.put d (.tup []))
 | .tup []=>some (c.put d (.tup []))
 |_=>none
theorem Z2(g:Nat)(b:Bool)(o:SOp):dD call sg c ⟨d,some (g,b),o⟩=stG call sg c d o b (c.get g):=by unfold dD stG;rfl
theorem xdJ(b t:Bool)(o:SOp):stG call sg c d o b (.bool t)=if t=b then opC call sg c d o else some (c.put d (.tup [])):=rfl
theorem xdI(b:Bool)(o:SOp):stG call sg c d o b (.tup [])=some (c.put d (.tup [])):=rfl
theorem xcn(b:List Nat)(ps:List FI):eW call sg b [] ps c=some c:=by rw[eW]
theorem xjP(b:List Nat)(n:Nat)(i:SI)(r ps:List FI):eW call sg b (⟨n,true,i⟩::r) ps c=u9 call sg b r (⟨n,true,i⟩::ps) c i.dst (qv c i):=by rw[eW]
theorem xjQ(b:List Nat)(n:Nat)(i:SI)(r ps:List FI):eW call sg b (⟨n,false,i⟩::r) ps c=qc call sg b r ps (b.getD n 0) (dD call sg c i):=by rw[eW]
theorem xjN(b:List Nat)(r ps:List FI)(v:SV):u9 call sg b r ps c d (some v)=eW call sg b r ps (c.put d v):=by rw[u9]
theorem xjO(b:List Nat)(r ps:List FI)(m:Nat):qc call sg b r ps m (some c)=qd call sg b r ps (gdP (sG m c ps) c):=by rw[qc]
theorem xjS(b:List Nat)(r ps:List FI):qd call sg b r ps (some c)=eW call sg b r ps c:=by rw[qd]
theorem Qz{α:Type}{p:Prop}(v:α)(h:p):gdP p v=some v:=by unfold gdP;exact if_pos h
theorem xfY(b:List Nat)(l:List FI)(p:List Nat):iN call sg b l [p] c=eW call sg b (ip l p) [] c:=by rw[iN]
theorem xfX(b:List Nat)(l:List FI)(p q:List Nat)(r:List (List Nat)):iN call sg b l (p::q::r) c=ny (eW call sg b (ip l p) [] c) (iN call sg b l (q::r) c):=by rw[iN]
theorem xkA(a a':CSt):ny (some a) (some a')=gdP (a=a') a:=rfl
theorem xco(m:Nat):sG m c []=True:=rfl
theorem QC(m:Nat)(p:FI)(r:List FI):sG m c (p::r)=((m/2^p.n % 2=1\/qv c p.i=some (c.get (p.i.dst.getD 0)))/\sG m c r):=rfl
end Go.Sy
namespace Go.Sy
variable [aZ]
theorem rg{n:Nat}:∀{l:List (Nat×SV)},(∀p∈l,p.1≠n)->eA l n= .undef
 |[],_=>rfl
 |p::r,h=>by simp only[eA];rw[if_neg (h p (az ..))];exact rg fun q hq=>h q (ao _ hq)
theorem lO(n:Nat)(v:SV)(m:Nat):∀l:List (Nat×SV),eA (i5 l n v) m=if m=n then v else eA l m
 |[]=>by simp only[i5,eA];by_cases h:n=m<;>simp[h,eq_comm]
 |p::r=>by
  simp only[i5];split
  ·simp only[eA]
   by_cases h:n=m
   ·simp[h]
   ·rw[if_neg h,if_neg (Ne.symm h)]
  ·split
   ·rename_i h1 h2
    simp only[eA]
    by_cases h:n=m
    ·simp[h]
    ·rw[if_neg h,if_neg (Ne.symm h),if_neg (by omega)]
   ·rename_i h1 h2
    simp only[eA,lO n v m r]
    by_cases h:p.1=m
    ·rw[if_pos h,if_pos h,if_neg (by omega)]
    ·rw[if_neg h,if_neg h]
theorem lK{n:Nat}{v:SV}{p:Nat×SV}:∀{l:List (Nat×SV)},p∈i5 l n v->p=(n,v)\/p∈l
 |[],h=>by simpa[i5]using h
 |q::r,h=>by
  simp only[i5]at h;split at h
  ·rcases am.1 h with h|h
   ·exact .inl h
   ·exact .inr h
  ·split at h
   ·rcases am.1 h with h|h
    ·exact .inl h
    ·exact .inr (ao _ h)
   ·rcases am.1 h with h|h
    ·exact .inr (h ▸ az ..)
    ·rcases lK h with h|h
     ·exact .inl h
     ·exact .inr (ao _ h)
theorem fY(lo hi n:Nat):∀l:List (Nat×SV),eA (df lo hi l) n=(eA l n).purge lo hi
 |[]=>by simp[df,eA,SV.purge]
 |p::r=>by
  simp only[df,eA];split
  ·rfl
  ·exact fY lo hi n r
theorem i9{lo hi:Nat}{p:Nat×SV}:∀{l:List (Nat×SV)},p∈df lo hi l->∃q∈l,p.1=q.1
 |q::r,h=>by
  simp only[df]at h;rcases am.1 h with h|h
  ·exact⟨q,az ..,by rw[h]⟩
  ·obtain⟨u,h1,h2⟩:=i9 h
   exact⟨u,ao _ h1,h2⟩
theorem pj{k:List Nat}{p:Nat×SV}:∀{l:List (Nat×SV)},p∈vn l k->p∈l
 |q::r,h=>by
  simp only[vn]at h;split at h
  ·exact ao _ (pj h)
  ·rcases am.1 h with h|h
   ·exact h ▸ az ..
   ·exact ao _ (pj h)
theorem pt(k:List Nat)(n:Nat):∀l:List (Nat×SV),eA (vn l k) n=if k.contains n=true then .undef else eA l n
 |[]=>by simp[vn,eA]
 |p::r=>by
  simp only[vn,eA];split
  ·rename_i h
   rw[pt k n r]
   by_cases hp:p.1=n
   ·subst hp;rw[if_pos h,if_pos h]
   ·rw[if_neg hp]
  ·rename_i h
   simp only[eA,pt k n r]
   by_cases hp:p.1=n
   ·subst hp;rw[if_pos rfl,if_neg h,if_pos rfl]
   ·rw[if_neg hp,if_neg hp]
theorem pu(n:Nat)(v:aB)(m:Nat):∀l:List (Nat×aB),iu (iz l n v) m=if m=n then some v else iu l m
 |[]=>by simp only[iz,iu];by_cases h:n=m<;>simp[h,eq_comm]
 |p::r=>by
  simp only[iz];split
  ·simp only[iu]
   by_cases h:n=m
   ·simp[h]
   ·rw[if_neg h,if_neg (Ne.symm h)]
  ·split
   ·rename_i h1 h2
    simp only[iu]
    by_cases h:n=m
    ·simp[h]
    ·rw[if_neg h,if_neg (Ne.symm h),if_neg (by omega)]
   ·rename_i h1 h2
    simp only[iu,pu n v m r]
    by_cases h:p.1=m
    ·rw[if_pos h,if_pos h,if_neg (by omega)]
    ·rw[if_neg h,if_neg h]
theorem j0{n:Nat}{v:aB}{p:Nat×aB}:∀{l:List (Nat×aB)},p∈iz l n v->p=(n,v)\/p∈l
 |[],h=>by simpa[iz]using h
 |q::r,h=>by
  simp only[iz]at h;split at h
  ·rcases am.1 h with h|h
   ·exact .inl h
   ·exact .inr h
  ·split at h
   ·rcases am.1 h with h|h
    ·exact .inl h
    ·exact .inr (ao _ h)
   ·rcases am.1 h with h|h
    ·exact .inr (h ▸ az ..)
    ·rcases j0 h with h|h
     ·exact .inl h
     ·exact .inr (ao _ h)
theorem tn{n:Nat}{v:aB}:∀{l:List (Nat×aB)},(l.map cA).Pairwise (· < ·)->((iz l n v).map cA).Pairwise (· < ·)
 |[],_=>by simp[iz]
 |p::r,h=>by
  have h0:=h;simp only[aE,bI]at h;simp only[iz];split
  ·rename_i h1
   rw[aE,bI];refine⟨fun k hk=> ?_,h0⟩;rw[aE]at hk;rcases am.1 hk with e|e
   ·omega
   ·have:=h.1 k e;omega
  ·split
   ·rename_i h1 h2
    rw[aE,bI];exact⟨fun k hk=>by have:=h.1 k hk;omega,h.2⟩
   ·rename_i h1 h2
    rw[aE,bI];refine⟨fun k hk=> ?_,tn h.2⟩;obtain⟨q,hq,rfl⟩:=aS.1 hk;rcases j0 hq with e|e
    ·rw[e];show p.1<n;omega
    ·exact h.1 _ (ia e)
theorem iS{l:List (Nat×aB)}{n:Nat}{v:aB}(h:iu l n=some v):(n,v)∈l:=by
 induction l with
 |nil=>cases h
 |cons p r ih=>
  simp only[iu]at h;split at h
  ·rename_i hp
   cases h;subst hp;exact az ..
  ·exact ao _ (ih h)
theorem iP:∀{l:List (Nat×aB)},(l.map cA).Nodup->∀{p:Nat×aB},p∈l->iu l p.1=some p.2
 |q::r,hn,p,h=>by
  simp only[aE,ed]at hn;simp only[iu];rcases am.1 h with e|e
  ·subst e;rw[if_pos rfl]
  ·rw[if_neg (fun e2=>hn.1 (by rw[e2];exact ia e))]
   exact iP hn.2 e
theorem iO{l:List (Nat×aB)}(h:(l.map cA).Pairwise (· < ·)):(l.map cA).Nodup:=h.imp fun h=>Nat.ne_of_lt h
theorem ik(o:Nat):∀l:List (Nat×aB),l.lookup o=iu l o
 |[]=>rfl
 |p::r=>by
  simp only[List.lookup,iu]
  by_cases h:o=p.1
  ·rw[if_pos h.symm];simp[h]
  ·have:(o==p.1)=false:=by simpa using h
   rw[this,if_neg (Ne.symm h)];exact ik o r
theorem jd(lo hi o:Nat):∀l:List (Nat×aB),iu (bx lo hi l) o=if lo<=o/\o<hi then none else(iu l o).map (aB.purge lo hi)
 |[]=>by simp[bx,iu]
 |p::r=>by
  simp only[bx,iu];split
  ·rename_i hp
   rw[jd lo hi o r]
   by_cases h:p.1=o
   ·subst h;rw[if_pos hp,if_pos hp]
   ·rw[if_neg h]
  ·rename_i hp
   simp only[iu,jd lo hi o r]
   by_cases h:p.1=o
   ·subst h;rw[if_pos rfl,if_neg hp,if_pos rfl];rfl
   ·rw[if_neg h,if_neg h]
theorem um{lo hi:Nat}{l:List (Nat×aB)}(h:(l.map cA).Pairwise (· < ·)):((bx lo hi l).map cA).Pairwise (· < ·):=by rw[eG];exact h.filter _
theorem ka{n t:Nat}:∀{l:List Nat},t∈lX l n↔t=n\/t∈l
 |[]=>by simp[lX]
 |p::r=>by
  simp only[lX];split
  ·simp
  ·split
   ·rename_i h;subst h;simp
   ·simp only[am,ka]
    constructor
    ·rintro(h|h|h)
     ·exact .inr (.inl h)
     ·exact .inl h
     ·exact .inr (.inr h)
    ·rintro(h|h|h)
     ·exact .inr (.inl h)
     ·exact .inl h
     ·exact .inr (.inr h)
theorem o9{lo hi:Nat}{o:aB}(h:o.wf=true):(o.purge lo hi).wf=true:=by cases o<;>simpa[aB.purge,aB.wf]using h
def CSt.st(N:Nat)(c:CSt):St:=⟨(bU N).map c.get,c.ob,c.tk⟩
structure Inv(N:Nat)(c:CSt):Prop where
 dom:∀p∈c.tm,p.1<N
 so:(c.ob.map cA).Pairwise (· < ·)
 wf:∀p∈c.ob,p.2.wf=true
structure Sim(N:Nat)(c:CSt)(s:St):Prop where
 inv:Inv N c
 tm:s.tm=(bU N).map c.get
 look:∀o,s.look o=c.look o
 tk:∀t,t∈s.tk↔t∈c.tk
variable {N : Nat} {c : CSt} {s : St}
theorem Inv.get(h:Inv N c){n:Nat}(hn:N<=n):c.get n= .undef:=rg fun p hp e=>by have:=h.dom p hp;omega
theorem Sim.of(h:Inv N c):Sim N c (c.st N):=⟨h,rfl,fun o=>ik o c.ob,fun _=>Iff.rfl⟩
theorem Sim.get(h:Sim N c s)(n:Nat):s.get n=c.get n:=by
 unfold St.get;rw[h.tm,aa,aP];rcases bH n N with hn|hn
 ·rw[cL hn];rfl
 ·rw[jT (by simpa using hn),h.inv.get hn];rfl
theorem Sim.ev(h:Sim N c s)(a:Arg):s.ev a=c.ev a:=by
 cases a with
 |t n=>exact h.get n
 |c v=>rfl
 |f g=>rfl
theorem Sim.evL(h:Sim N c s)(l:List Arg):Sy.evL c l=l.map s.ev:=by
 induction l with
 |nil=>rfl
 |cons a r ih=>simp only[Sy.evL,aE,ih,h.ev]
theorem Sim.lookmem(h:Sim N c s){o:Nat}{ob:aB}(hl:c.look o=some ob):ob.wf=true:=h.inv.wf _ (iS hl)
theorem Sim.rows(h:Sim N c s){o sz:Nat}{xs:List (List SV)}(hl:c.look o=some (.arr sz xs)):∀x∈xs,x.length=sz:=by have:=h.lookmem hl;simpa[aB.wf]using this
theorem Inv.put(h:Inv N c){d:Option Nat}(hd:∀k,d=some k->k<N)(v:SV):Inv N (c.put d v):=by
 cases d with
 |none=>exact h
 |some k=>
  refine⟨fun p hp=> ?_,h.so,h.wf⟩;rcases lK hp with e|e
  ·rw[e];exact hd k rfl
  ·exact h.dom p e
theorem gF(c:CSt)(k:Nat)(v:SV)(n:Nat):(c.put (some k) v).get n=if n=k then v else c.get n:=lO k v n c.tm
theorem Sim.put(h:Sim N c s){d:Option Nat}(hd:∀k,d=some k->k<N)(v:SV):Sim N (c.put d v) (s.put d v):=by
 cases d with
 |none=>exact h
 |some k=>
  refine⟨h.inv.put hd v, ?_,h.look,h.tk⟩;show s.tm.set k v=_;rw[h.tm];apply List.ext_getElem?;intro i;rw[gw,aP,aP];rcases bH i N with hi|hi
  ·rw[cL hi]
   simp only[bo,gF,aY,List.length_range]
   by_cases hk:k=i
   ·rw[if_pos hk,if_pos (by omega),if_pos hk.symm]
   ·rw[if_neg hk,if_neg (Ne.symm hk)]
  ·rw[jT (l:=bU N) (by simpa using hi)]
   have:=hd k rfl;rw[if_neg (by omega)];rfl
theorem bL{α:Type}{p:Prop}[Decidable p]{v u:α}(h:gd p v=some u):p/\v=u:=by
 unfold gd at h;split at h
 ·rename_i hp;cases h;exact⟨hp,rfl⟩
 ·cases h
theorem FT{op:BinOp}{k:IntKind}{a b:Int}{v:SV}(h:wK op k a b=some v)(hs:ma op=false):∃p,Qx op k a b=some (p,v)/\p:=by
 cases op<;>simp only[wK]at h<;>first
  |(cases hs;done)
  |(obtain⟨h1,rfl⟩:=bL h;exact⟨_,rfl,h1⟩)
  |(cases h;exact⟨True,rfl,trivial⟩)
theorem Rw{op:BinOp}{a b v:SV}(h:El op a b=some v):∃p,xb op a b=some (p,v)/\p:=by
 unfold El at h;split at h
 ·rename_i k a k' b
  split at h
  ·rename_i hc
   by_cases hs:ma op=true
   ·cases op<;>first
     |(cases hs;done)
     |(simp only[wK]at h;obtain⟨h1,rfl⟩:=bL h;exact⟨_,rfl,h1⟩)
   ·have hs':ma op=false:=by simpa using hs
    have hk:k=k':=hc.resolve_left hs;obtain⟨p,h1,h2⟩:=FT h hs';refine⟨p, ?_,h2⟩;subst hk;cases op<;>first|(cases hs';done)|(simp only[xb,if_true];exact h1)
  ·cases h
 ·rename_i a b
  show ∃p,DO op a b=some (p,v)/\p
  cases op<;>simp only[xD]at h<;>first
   |(cases h;done)
   |(obtain⟨h1,rfl⟩:=bL h;exact⟨_,rfl,h1⟩)
   |(cases h;exact⟨True,rfl,trivial⟩)
 ·rename_i a b
  show ∃p,RS op a b=some (p,v)/\p
  cases op<;>simp only[NN]at h<;>first
   |(cases h;done)
   |(obtain⟨h1,rfl⟩:=bL h;exact⟨_,rfl,h1⟩)
   |(cases h;exact⟨True,rfl,trivial⟩)
 ·cases h
theorem uM(hS:Sim N c s){n:Nat}{ag:Bool}{u v:SV}(h:lM c n ag u=some v):∃p,ir s n ag u=some (p,v)/\p:=by
 cases u with
 |pp cs=>obtain⟨h1,rfl⟩:=bL h;exact⟨_,rfl,h1⟩
 |ptr o off=>
  simp only[lM]at h;simp only[ir,hS.look];split at h
  ·rename_i cs hl;rw[hl];obtain⟨h1,rfl⟩:=bL h;exact⟨_,rfl,h1⟩
  ·rename_i sz xs hl;rw[hl];obtain⟨⟨h1,h2⟩,rfl⟩:=bL h;subst h1;exact⟨_,rfl,h2,hS.rows hl⟩
  ·rename_i l hl;rw[hl];obtain⟨⟨h1,h2⟩,rfl⟩:=bL h;subst h1;exact⟨_,rfl,h2⟩
  ·cases h
 |ap o sz i j=>
  simp only[lM]at h;simp only[ir,hS.look];split at h
  ·rename_i sz' xs hl
   rw[hl];obtain⟨⟨h1,h2,h3⟩,rfl⟩:=bL h;refine⟨_,rfl,h1,h2,h3, ?_⟩;rw[aa,ab h2,h1];exact hS.rows hl _ (bj _)
  ·rename_i l hl;rw[hl];obtain⟨h1,rfl⟩:=bL h;exact⟨_,rfl,h1⟩
  ·cases h
 |_=>cases h
theorem lZ(hS:Sim N c s)(x:Option Arg)(n:Int):iq s x n=jZ c x n:=by
 cases x with
 |none=>rfl
 |some a=>simp only[iq,jZ,hS.ev]
theorem zQ(hS:Sim N c s){sz:Nat}{u v:SV}{lo hi mx:Option Arg}(h:nE c sz u lo hi mx=some v):∃p,i0 s sz u lo hi mx=some (p,v)/\p:=by
 cases u with
 |byt l t=>
  simp only[nE]at h;simp only[i0,lZ hS];split at h<;>try (cases h;done)
  rename_i a b m h1 h2 h3;rw[h1,h2,h3];obtain⟨h4,rfl⟩:=bL h;exact⟨_,rfl,h4⟩
 |lst sz' l t=>
  simp only[nE]at h;simp only[i0,lZ hS];split at h<;>try (cases h;done)
  rename_i a b m h1 h2 h3;rw[h1,h2,h3];obtain⟨h4,rfl⟩:=bL h;exact⟨_,rfl,h4⟩
 |psl o sz' off n cap=>
  cases cap with
  |none=>
   simp only[nE]at h;simp only[i0,lZ hS];split at h<;>try (cases h;done)
   rename_i a b h1 h2;rw[h1,h2];obtain⟨h4,rfl⟩:=bL h;exact⟨_,rfl,h4⟩
  |some cap=>
   simp only[nE]at h;simp only[i0,lZ hS];split at h<;>try (cases h;done)
   rename_i a b m h1 h2 h3;rw[h1,h2,h3];obtain⟨h4,rfl⟩:=bL h;exact⟨_,rfl,h4⟩
 |_=>cases h
theorem mC(hS:Sim N c s){u:SV}{l:List UInt8}(h:eD c u=some l):∃p,bytesOf s u=some (p,l)/\p:=by
 cases u with
 |byt l t=>cases h;exact⟨True,rfl,trivial⟩
 |str l=>cases h;exact⟨True,rfl,trivial⟩
 |psl o sz off n cap=>
  simp only[eD]at h;simp only[bytesOf,hS.look];split at h
  ·rename_i l' hl;rw[hl];obtain⟨h1,rfl⟩:=bL h;exact⟨_,rfl,h1⟩
  ·cases h
 |_=>cases h
theorem jX(hS:Sim N c s){u:SV}{sz:Nat}{l:List (List SV)}(h:fH c sz u=some l):∃p,gR s sz u=some (p,l)/\p:=by
 cases u with
 |lst sz' l t=>obtain⟨h1,rfl⟩:=bL h;exact⟨_,rfl,h1⟩
 |psl o sz' off n cap=>
  simp only[fH]at h;simp only[gR,hS.look];split at h
  ·rename_i sz'' xs hl
   rw[hl];obtain⟨⟨h1,h2,h3⟩,rfl⟩:=bL h;exact⟨_,rfl,h1,h2,h3,by rw[h2];exact hS.rows hl⟩
  ·cases h
 |_=>cases h
theorem xa0(hS:Sim N c s)(ps:List (Nat×Nat×Arg)):psC c ps=ps.map fun(o,n,x)=>(o,n,s.ev x):=by
 induction ps with
 |nil=>rfl
 |cons p r ih=>obtain⟨o,n,x⟩:=p;simp only[psC,aE,ih,hS.ev]
theorem OU(hS:Sim N c s){so:SOp}{v:SV}(h:cE c so=some v):∃p,val s so=some (p,v)/\p:=by
 cases so with
 |mov x=>cases h;exact⟨True,by simp only[val,hS.ev],trivial⟩
 |build z ps=>simp only[cE,xa0 hS]at h;obtain⟨l,h1,rfl⟩:=ah.1 h;exact⟨True,by simp only[val,h1,bo],trivial⟩
 |lit sz xs=>simp only[cE,hS.evL]at h;obtain⟨l,h1,rfl⟩:=ah.1 h;exact⟨True,by simp only[val,h1,bo],trivial⟩
 |litB xs=>simp only[cE,hS.evL]at h;obtain⟨l,h1,rfl⟩:=ah.1 h;exact⟨True,by simp only[val,h1,bo],trivial⟩
 |load n ag a=>simp only[val,hS.ev];exact uM hS h
 |nchk x=>simp only[cE]at h;simp only[val,hS.ev];cases hx:c.ev x<;>rw[hx]at h<;>first|(cases h;done)|(cases h;exact⟨True,rfl,trivial⟩)
 |bin op x y=>simp only[val,hS.ev];exact Rw h
 |beq ne x y=>
  simp only[cE]at h;simp only[val,hS.ev];split at h<;>try (cases h;done)
  rename_i a b h1 h2;cases h;rw[h1,h2];exact⟨True,rfl,trivial⟩
 |eqS ne ts x y=>
  simp only[cE]at h;simp only[val,hS.ev];split at h<;>try (cases h;done)
  rename_i a b h1 h2;obtain⟨l,h3,rfl⟩:=ah.1 h;rw[h1,h2];exact⟨True,by simp only[h3,bo],trivial⟩
 |un op x=>simp only[cE]at h;exact⟨True,by simp only[val,hS.ev,h,bo],trivial⟩
 |toInt k x=>simp only[cE]at h;exact⟨True,by simp only[val,hS.ev,h,bo],trivial⟩
 |toStr x=>
  simp only[cE]at h;simp only[val,hS.ev];split at h<;>try (cases h;done)
  all_goals
   rename_i h1;cases h;rw[h1];exact⟨True,rfl,trivial⟩
 |slid x=>simp only[cE]at h;cases h
 |newB x=>simp only[cE]at h;cases h
 |isni ne x=>
  simp only[cE]at h;simp only[val,hS.ev];split at h<;>try (cases h;done)
  rename_i h1;cases h;rw[h1];exact⟨True,rfl,trivial⟩
 |s2b x=>
  simp only[cE]at h;simp only[val,hS.ev];split at h<;>try (cases h;done)
  rename_i l h1;cases h;rw[h1];exact⟨True,rfl,trivial⟩
 |b2s x=>
  simp only[cE]at h;simp only[val,hS.ev];cases hx:c.ev x with
  |byt l t=>rw[hx]at h;cases h;exact⟨True,rfl,trivial⟩
  |psl o sz off n cap=>
   rw[hx]at h;simp only[eD]at h;simp only[xe,hS.look];obtain⟨l,h1,rfl⟩:=ah.1 h;split at h1
   ·rename_i l' hl;rw[hl];obtain⟨h2,rfl⟩:=bL h1;exact⟨_,rfl,h2⟩
   ·cases h1
  |_=>rw[hx]at h;cases h
 |mkfn f a b=>simp only[cE,hS.evL]at h;cases h;exact⟨True,rfl,trivial⟩
 |slcS x lo hi=>
  simp only[cE]at h;simp only[val,hS.ev];split at h<;>try (cases h;done)
  rename_i l hx;rw[hx];simp only[lZ hS];split at h<;>try (cases h;done)
  rename_i a b h1 h2;rw[h1,h2];obtain⟨h4,rfl⟩:=bL h;exact⟨_,rfl,h4⟩
 |slcL sz x lo hi mx=>simp only[val,hS.ev];exact zQ hS h
 |slcA len sz x lo hi mx=>
  simp only[cE]at h;simp only[val,hS.ev];split at h<;>try (cases h;done)
  rename_i o off hx;split at h<;>try (cases h;done)
  rename_i ho;subst ho;rw[hx];exact zQ hS h
 |faddr off x=>simp only[cE]at h;simp only[val,hS.ev];cases hx:c.ev x<;>rw[hx]at h<;>first|(cases h;done)|(cases h;exact⟨True,rfl,trivial⟩)
 |fld off n ag x=>
  simp only[cE]at h;simp only[val,hS.ev];split at h<;>try (cases h;done)
  rename_i cs hx;rw[hx];obtain⟨h4,rfl⟩:=bL h;exact⟨_,rfl,h4⟩
 |iaddrL sz x i=>
  simp only[cE]at h;simp only[val,hS.ev];split at h<;>try (cases h;done)
  all_goals
   rename_i h1 h2;rw[h1,h2];obtain⟨h4,rfl⟩:=bL h;exact⟨_,rfl,h4⟩
 |iaddrA len sz x i=>
  simp only[cE]at h;simp only[val,hS.ev,hS.look];split at h<;>try (cases h;done)
  ·rename_i o off n h1 h2
   rw[h1,h2];simp only;split at h<;>try (cases h;done)
   ·rename_i cs hl
    rw[hl];obtain⟨h4,rfl⟩:=bL h;exact⟨_,rfl,h4⟩
   ·rename_i ob hno hl
    rw[hl];obtain⟨⟨h4,h5⟩,rfl⟩:=bL h;cases ob with
    |rc cs=>exact absurd rfl (hno cs)
    |_=>simp only[h4,if_true];exact⟨_,rfl,h5⟩
  ·rename_i cs n h1 h2
   rw[h1,h2];obtain⟨h4,rfl⟩:=bL h;exact⟨_,rfl,h4⟩
 |idxA len sz ag x i=>
  simp only[cE]at h;simp only[val,hS.ev];split at h<;>try (cases h;done)
  rename_i h1 h2;rw[h1,h2];obtain⟨h4,rfl⟩:=bL h;exact⟨_,rfl,h4⟩
 |idxS x i=>
  simp only[cE]at h;simp only[val,hS.ev];split at h<;>try (cases h;done)
  rename_i h1 h2;rw[h1,h2];obtain⟨h4,rfl⟩:=bL h;exact⟨_,rfl,h4⟩
 |ext x i=>
  simp only[cE]at h;simp only[val,hS.ev];split at h<;>try (cases h;done)
  rename_i vs hx;rw[hx];obtain⟨h4,rfl⟩:=bL h;exact⟨_,rfl,h4⟩
 |len b x=>simp only[cE]at h;obtain⟨n,h1,rfl⟩:=ah.1 h;exact⟨True,by simp only[val,hS.ev,h1],trivial⟩
 |lenC n=>cases h;exact⟨True,rfl,trivial⟩
 |cap x=>
  simp only[cE]at h;simp only[val,hS.ev];cases hx:c.ev x with
  |psl o sz off n m=>cases m<;>rw[hx]at h<;>cases h;exact⟨True,rfl,trivial⟩
  |byt l t=>rw[hx]at h;simp only at h;split at h<;>cases h;rename_i ht;subst ht;exact⟨True,rfl,trivial⟩
  |lst sz l t=>rw[hx]at h;simp only at h;split at h<;>cases h;rename_i ht;subst ht;exact⟨True,rfl,trivial⟩
  |_=>rw[hx]at h;cases h
 |mini x y=>
  simp only[cE]at h;simp only[val,hS.ev];split at h<;>try (cases h;done)
  rename_i h1 h2;rw[h1,h2];simp only;split at h<;>cases h;rename_i hk;exact⟨True,by rw[if_pos hk],trivial⟩
 |maxi x y=>
  simp only[cE]at h;simp only[val,hS.ev];split at h<;>try (cases h;done)
  rename_i h1 h2;rw[h1,h2];simp only;split at h<;>cases h;rename_i hk;exact⟨True,by rw[if_pos hk],trivial⟩
 |_=>cases h
end Go.Sy
namespace Go.Sy
variable [aZ]
variable {P : Program} {C : Ctx} {x : Sit} {a : Act} {w : World} {o : Oper} {so : SOp} {N : Nat} {c c' : CSt} {s : St} {d : Option Nat}
def M(C:Ctx)(N:Nat)(c:CSt):Act->World->Prop:=Ef C (Sim N c)
theorem Sim.purge(h:Sim N c s)(lo hi:Nat):Sim N (c.purge lo hi) (s.purge lo hi):=by
 refine⟨⟨fun p hp=> ?_,um h.inv.so,fun p hp=> ?_⟩, ?_,fun o=> ?_,fun t=> ?_⟩
 ·obtain⟨q,hq,e⟩:=i9 hp
  rw[e];exact h.inv.dom q hq
 ·obtain⟨_,ob,h1,h2⟩:=ct hp
  rw[h2];exact o9 (h.inv.wf _ h1)
 ·show SV.purgeL lo hi s.tm=_
  rw[h.tm,dt,List.map_map];apply List.map_congr_left;intro i _;exact(fY lo hi i c.tm).symm
 ·show(bx lo hi s.ob).lookup o=iu (bx lo hi c.ob) o
  have:=h.look o;unfold St.look CSt.look at this;rw[ik]at this ⊢;rw[jd,jd,this]
 ·show t∈cw lo hi s.tk↔t∈cw lo hi c.tk
  rw[bD,bD,h.tk]
theorem Sim.addO(h:Sim N c s)(k:Nat){ob:aB}(hw:ob.wf=true):Sim N ⟨c.tm,iz c.ob k ob,c.tk⟩ (s.addO k ob):=by
 refine⟨⟨h.inv.dom,tn h.inv.so,fun p hp=> ?_⟩,h.tm,fun o=> ?_,h.tk⟩
 ·rcases j0 hp with e|e
  ·rw[e];exact hw
  ·exact h.inv.wf p e
 ·show((k,ob)::s.ob).lookup o=iu (iz c.ob k ob) o
  have:=h.look o;unfold St.look CSt.look at this;rw[pu];simp only[List.lookup]
  by_cases he:o=k
  ·subst he;simp
  ·have:(o==k)=false:=by simpa using he
   rw[this,if_neg he];exact h.look o
theorem jM(k:Nat)(ob:aB)(o:Nat):∀l:List (Nat×aB),(Sy.setO k ob l).lookup o=if o=k/\(l.lookup k).isSome=true then some ob else l.lookup o
 |[]=>by simp[Sy.setO]
 |p::r=>by
  simp only[Sy.setO]
  by_cases hp:p.1=k
  ·rw[if_pos hp]
   subst hp;simp only[List.lookup]
   by_cases ho:o=p.1
   ·subst ho;simp
   ·have:(o==p.1)=false:=by simpa using ho
    simp[this,ho]
  ·rw[if_neg hp]
   have h1:(k==p.1)=false:=by simpa using Ne.symm hp
   simp only[List.lookup,h1,jM k ob o r]
   by_cases ho:o=p.1
   ·subst ho;simp[hp]
   ·have:(o==p.1)=false:=by simpa using ho
    simp[this]
theorem Sim.setO(h:Sim N c s){k:Nat}{ob:aB}(hl:(c.look k).isSome=true)(hw:ob.wf=true):Sim N ⟨c.tm,iz c.ob k ob,c.tk⟩ (s.setO k ob):=by
 refine⟨⟨h.inv.dom,tn h.inv.so,fun p hp=> ?_⟩,h.tm,fun o=> ?_,h.tk⟩
 ·rcases j0 hp with e|e
  ·rw[e];exact hw
  ·exact h.inv.wf p e
 ·show(Sy.setO k ob s.ob).lookup o=iu (iz c.ob k ob) o
  rw[pu,jM]
  have h1:(s.ob.lookup k).isSome=true:=by have:=h.look k;unfold St.look at this;rw[this];exact hl
  by_cases he:o=k
  ·rw[if_pos ⟨he,h1⟩,if_pos he]
  ·rw[if_neg (fun e=>he e.1),if_neg he];exact h.look o
theorem Sim.tks(h:Sim N c s){l k:List Nat}(hlk:∀t,t∈l↔t∈k):Sim N ⟨c.tm,c.ob,k⟩ ⟨s.tm,s.ob,l⟩:=⟨⟨h.inv.dom,h.inv.so,h.inv.wf⟩,h.tm,h.look,hlk⟩
theorem FF{t:Tok}{l k:List Nat}(h:∀t,t∈l↔t∈k)(n:Nat):n∈t.eat l↔n∈t.eat k:=by
 cases t with
 |id t=>simp only[Tok.eat,bD,h]
 |_=>exact h n
structure En(e:nL)(f:Eff):Prop where
 val:f.val=e.val
 wr:f.wr=e.wr
 new:f.new=e.new
 eat:f.eat=e.eat
 tok:f.tok=e.tok
structure Eu(c:CSt)(e:nL):Prop where
 new:∀ob,e.new=some ob->ob.wf=true
 wr:e.wr=[]\/∃k ob,e.wr=[(k,ob)]/\(c.look k).isSome=true/\ob.wf=true
theorem Sim.app(h:Sim N c s)(hd:∀k,d=some k->k<N){e:nL}{f:Eff}(hs:En e f)(hg:Eu c e):Sim N (c.app d e) (s.app d f):=by
 unfold CSt.app St.app;rw[hs.new,hs.tok,hs.val,hs.wr,hs.eat];cases hn:e.new with
 |some ob=>exact((h.purge _ _).addO _ (o9 (hg.new ob hn))).put hd _
 |none=>
  cases ht:e.tok with
  |true=>refine Sim.put (c:=⟨_,_,_⟩) ?_ hd _;refine((h.purge (d.getD 0+100) (d.getD 0+100+1)).tks (fun t=> ?_));rw[ka,am,bD,bD,FF h.tk]
  |false=>
   rcases hg.wr with hw|⟨k,ob,hw,h1,h2⟩
   ·rw[hw];exact h.put hd _
   ·rw[hw];exact(h.setO h1 h2).put hd _
theorem En.v(v:SV)(p:Prop):En {val:=v} {pre:=p,val:=v}:=⟨rfl,rfl,rfl,rfl,rfl⟩
theorem Eu.v(v:SV):Eu c {val:=v}:=⟨fun ob h=>(by cases h),.inl rfl⟩
theorem Zs(n:Nat)(z:List SV):(aB.arr z.length (al n z)).wf=true:=by simp only[aB.wf,aR,decide_eq_true_eq];intro y hy;rw[(List.mem_replicate.1 hy).2]
theorem fS{sz:Nat}{xs:List (List SV)}:(aB.arr sz xs).wf=true↔∀y∈xs,y.length=sz:=by simp only[aB.wf,aR,decide_eq_true_eq]
theorem vq(sz:Nat):∀(m:Nat)(v:List SV),v.length=m*sz->∀y∈jg sz m v,y.length=sz
 |0,_,_,y,hy=>by cases hy
 |m+1,v,h,y,hy=>by
  rw[dM]at h;simp only[jg]at hy;rcases am.1 hy with rfl|hy
  ·rw[av];omega
  ·exact vq sz m (v.drop sz) (by rw[aF];omega) y hy
theorem C1{sz:Nat}{xs:List (List SV)}{i j n:Nat}{v:List SV}(h:∀y∈xs,y.length=sz)(hi:i<xs.length)(hj:j+n<=sz)(hv:v.length=n):∀y∈fC sz xs i j n v,y.length=sz:=by
 intro y hy;unfold fC at hy;split at hy
 ·rename_i hc
  rcases List.mem_or_eq_of_mem_set hy with h1|h1
  ·exact h y h1
  ·rw[h1,hv];exact hc.2
 ·rcases List.mem_or_eq_of_mem_set hy with h1|h1
  ·exact h y h1
  ·have:(xs.getD i []).length=sz:=by
    rw[aa,ab hi];exact h _ (bj _)
   rw[h1];simp only[af,av,aF,this,hv];omega
theorem qO(h:Sim N c s){t:Tok}(hr:t.readyC c=true):t.ready s=true:=by
 cases t with
 |no=>cases hr
 |clip=>rfl
 |id t=>simp only[Tok.readyC,eP,decide_eq_true_eq]at hr;simp only[Tok.ready,eP,decide_eq_true_eq];exact(h.tk t).2 hr
theorem Pj(hM:aK C x s a w){y:Arg}(hy:y.isT=true):Rep x (s.ev y) (match y with| .t n=>a.tmps.getD n Go.undef|_=>Go.undef):=by
 cases y with
 |t n=>exact hM.slot n
 |_=>cases hy
theorem F9(h:Sim N c s){e:nL}(he:dP c d so=some e)(hp:∀q y z,so≠ .pick q y z)(hn:∀ne q,so≠ .isnil ne q)(hcp:∀sz q y,so≠ .cpy sz q y):∃f,eff s d so=some f/\f.pre/\En e f/\Eu c e:=by
 have plain:∀{so:SOp},dP c d so=zC (cE c so)->(eff s d so=match val s so with|some (p,v)=>some {pre:=p,val:=v}|none=>none)->dP c d so=some e->∃f,eff s d so=some f/\f.pre/\En e f/\Eu c e:=by
  intro so h1 h2 h3;rw[h1]at h3;cases hv:cE c so with
  |none=>rw[hv]at h3;cases h3
  |some v=>rw[hv]at h3;cases h3;obtain⟨p,h4,h5⟩:=OU h hv;exact⟨{pre:=p,val:=v},by rw[h2,h4],h5,En.v v p,Eu.v v⟩
 cases so with
 |pick q y z=>exact absurd rfl (hp q y z)
 |isnil ne q=>exact absurd rfl (hn ne q)
 |call _ _=>cases he
 |newB _=>cases he
 |slid _=>cases he
 |new ob=>
  simp only[dP]at he;split at he<;>try (cases he;done)
  obtain⟨h1,rfl⟩:=bL he;exact⟨_,rfl,trivial,⟨rfl,rfl,rfl,rfl,rfl⟩,⟨fun ob' e=>(by cases e;exact h1),.inl rfl⟩⟩
 |box q=>simp only[dP]at he;split at he<;>cases he;exact⟨_,rfl,trivial,⟨rfl,rfl,by simp only[h.ev],rfl,rfl⟩,⟨fun ob' e=>(by cases e;rfl),.inl rfl⟩⟩
 |mk z bytes n m=>
  simp only[dP]at he;simp only[eff,h.ev];split at he<;>try (cases he;done)
  rename_i h1 h2;rw[h1,h2];obtain⟨h1,rfl⟩:=bL he;exact⟨_,rfl,h1,⟨rfl,rfl,rfl,rfl,rfl⟩,⟨fun ob' e=>(by cases e;exact Zs _ z),.inl rfl⟩⟩
 |mkB n m=>
  simp only[dP]at he;simp only[eff,h.ev];split at he<;>try (cases he;done)
  rename_i h1 h2;rw[h1,h2];obtain⟨h1,rfl⟩:=bL he;exact⟨_,rfl,h1,⟨rfl,rfl,rfl,rfl,rfl⟩,⟨fun ob' e=>(by cases e;rfl),.inl rfl⟩⟩
 |store n q y=>
  simp only[dP]at he;simp only[eff,h.ev];split at he<;>try (cases he;done)
  rename_i hdef;rw[hdef];simp only;unfold kH at he;unfold pK;split at he
  ·rename_i o' off hq
   rw[hq];simp only[h.look];split at he<;>try (cases he;done)
   ·rename_i cs hl
    rw[hl];obtain⟨h1,rfl⟩:=bL he;exact⟨_,rfl,h1,⟨rfl,rfl,rfl,rfl,rfl⟩,⟨fun ob' e=>(by cases e),.inr ⟨_,_,rfl,by rw[hl];rfl,rfl⟩⟩⟩
   ·rename_i sz xs hl
    rw[hl];obtain⟨⟨h1,h2,h3,h4⟩,rfl⟩:=bL he
    exact⟨_,rfl,⟨h1,h2,h3,h4⟩,⟨rfl,rfl,rfl,rfl,rfl⟩,
     ⟨fun ob' e=>(by cases e),.inr ⟨_,_,rfl,by rw[hl];rfl,fS.2 (vq sz _ _ (by rw[aY];omega))⟩⟩⟩
   ·rename_i l hl
    rw[hl];simp only at he ⊢;split at he<;>try (cases he;done)
    rename_i l' hv;rw[hv];obtain⟨h1,rfl⟩:=bL he;exact⟨_,rfl,h1,⟨rfl,rfl,rfl,rfl,rfl⟩,⟨fun ob' e=>(by cases e),.inr ⟨_,_,rfl,by rw[hl];rfl,rfl⟩⟩⟩
  ·rename_i o' sz i j hq
   rw[hq];simp only[h.look];split at he<;>try (cases he;done)
   ·rename_i sz' xs hl
    rw[hl];obtain⟨⟨h1,h2,h3,h4,h5⟩,rfl⟩:=bL he
    exact⟨_,rfl,⟨h1,h2,h3,h4,by rw[h1];exact h.rows hl,h5⟩,⟨rfl,rfl,rfl,rfl,rfl⟩,
     ⟨fun ob' e=>(by cases e),.inr ⟨_,_,rfl,by rw[hl];rfl,fS.2 (by subst h1;exact C1 (h.rows hl) h2 h3 (by simpa using h4))⟩⟩⟩
   ·rename_i l hl
    rw[hl];simp only at he ⊢;split at he<;>try (cases he;done)
    rename_i b hv;rw[hv];obtain⟨h1,rfl⟩:=bL he;exact⟨_,rfl,h1,⟨rfl,rfl,rfl,rfl,rfl⟩,⟨fun ob' e=>(by cases e),.inr ⟨_,_,rfl,by rw[hl];rfl,rfl⟩⟩⟩
  ·cases he
 |app z bytes q y=>
  simp only[dP]at he;simp only[eff,h.ev];split at he<;>try (cases he;done)
  split at he<;>try (cases he;done)
  ·rename_i l t hq
   rw[hq];obtain⟨l',h1,h2⟩:=Option.bind_eq_some_iff.1 he;obtain⟨p,h3,h4⟩:=mC h h1;obtain⟨⟨g1,g2,g3,g4⟩,rfl⟩:=bL h2;simp only[h3];exact⟨_,rfl,⟨h4,g1,g2,qO h g3,g4⟩,⟨rfl,rfl,rfl,rfl,rfl⟩,⟨fun ob' e=>(by cases e),.inl rfl⟩⟩
  ·rename_i sz' l t hq
   rw[hq];obtain⟨l',h1,h2⟩:=Option.bind_eq_some_iff.1 he;obtain⟨p,h3,h4⟩:=jX h h1;obtain⟨⟨g1,g3,g4⟩,rfl⟩:=bL h2;simp only[h3];exact⟨_,rfl,⟨h4,g1,qO h g3,g4⟩,⟨rfl,rfl,rfl,rfl,rfl⟩,⟨fun ob' e=>(by cases e),.inl rfl⟩⟩
 |cpy sz q y=>exact absurd rfl (hcp sz q y)
 |appO z bytes q y=>cases he
 |clr z q=>
  simp only[dP]at he;simp only[eff,h.ev];split at he<;>try (cases he;done)
  rename_i o' sz' off n cap hq;rw[hq];simp only[h.look];split at he<;>try (cases he;done)
  rename_i sz'' xs hl;rw[hl];obtain⟨⟨g0,g1,g2,g3⟩,rfl⟩:=bL he;have hrows:=h.rows hl;refine⟨_,rfl,⟨g0,g1,g2,g3,by rw[g2];exact hrows⟩,⟨rfl,rfl,rfl,rfl,rfl⟩,⟨fun ob' e=>(by cases e),.inr ⟨_,_,rfl,by rw[hl];rfl,fS.2 ?_⟩⟩⟩;intro r hr;rcases ak.1 hr with hr|hr
  ·rcases ak.1 hr with hr|hr
   ·rw[g2];exact hrows r (bz hr)
   ·rw[(List.mem_replicate.1 hr).2]
  ·rw[g2];exact hrows r (kU hr)
 |appM z bytes q y=>cases he
 |ovl q y=>cases he
 |_=>exact plain (rx rfl) rfl he
theorem QW(P:Program)(h:Sim N c s)(hM:aK C x s a w){e:nL}(he:dP c d so=some e)(hp:∀q y z,so≠ .pick q y z)(hn:∀ne q,so≠ .isnil ne q):∃f,eff s d so=some f/\f.pre/\En e f/\Eu c e:=by
 by_cases hcp:∃sz q y,so= .cpy sz q y
 ·obtain⟨sz,q,y,rfl⟩:=hcp
  simp only[dP]at he;simp only[eff,h.ev];split at he<;>try (cases he;done)
  rename_i o' sz' off n cap hq;rw[hq];simp only[h.look];split at he<;>try (cases he;done)
  ·rename_i l hl
   rw[hl];obtain⟨l',h1,h2⟩:=Option.bind_eq_some_iff.1 he;obtain⟨p,h3,h4⟩:=mC h h1;obtain⟨⟨g1,g2,g3⟩,rfl⟩:=bL h2;simp only[h3];exact⟨_,rfl,⟨h4,g1,g2,g3⟩,⟨rfl,rfl,rfl,rfl,rfl⟩,⟨fun ob' e=>(by cases e),.inr ⟨_,_,rfl,by rw[hl];rfl,rfl⟩⟩⟩
  ·rename_i sz'' xs hl
   rw[hl];obtain⟨l',h1,h2⟩:=Option.bind_eq_some_iff.1 he;obtain⟨p,h3,h4⟩:=jX h h1;obtain⟨⟨g0,g1,g2,g3⟩,rfl⟩:=bL h2;simp only[h3];have hrows:=h.rows hl;obtain⟨_,hl',_⟩:=pd (P:=P) hM (Pj hM g0) (by rw[h.ev];exact h3) h4;refine⟨_,rfl,⟨h4,g1,g2,g3,by rw[g2];exact hrows⟩,⟨rfl,rfl,rfl,rfl,rfl⟩,⟨fun ob' e=>(by cases e),.inr ⟨_,_,rfl,by rw[hl];rfl,fS.2 ?_⟩⟩⟩;intro r hr;rcases ak.1 hr with hr|hr
   ·rcases ak.1 hr with hr|hr
    ·rw[g2];exact hrows r (bz hr)
    ·exact hl' r (bz hr)
   ·rw[g2];exact hrows r (kU hr)
 ·exact F9 h he hp hn (fun sz q y e=>hcp ⟨sz,q,y,e⟩)
theorem xd3(h:M C N c a w)(hr:bq P o=some so)(hd:∀k,o.dst=some k->k<N)(hc:mM c o.dst (dP c o.dst so)=some c'){K:Act->World->Prop}{Q:Exit->Act->World->Prop}(hK:∀a w,M C N c' a w->K a w):o.wp P a w K Q:=by
 obtain⟨x,s,hM,hS⟩:=h;cases he:dP c o.dst so with
 |none=>rw[he]at hc;cases hc
 |some e=>
  rw[he]at hc;simp only[mM,aq.injEq]at hc;subst hc
  by_cases hp:∃q y z,so= .pick q y z
  ·obtain⟨q,y,z,rfl⟩:=hp
   simp only[dP]at he;split at he<;>cases he;rename_i t ht;have hd':=DE hM hr (t:=t) (by rw[hS.ev];exact ht);refine dd hd' (k:=Sim N (c.app o.dst {val:=ie t (c.ev y) (c.ev z)})) ?_ hK;have:(if t=true then s.ev y else s.ev z)=ie t (c.ev y) (c.ev z):=by rw[hS.ev,hS.ev];rfl
   rw[this];exact hS.put hd _
  ·by_cases hn:∃ne q,so= .isnil ne q
   ·obtain⟨ne,q,rfl⟩:=hn
    have key:∃b,b=ne/\cg P C o a w (s.put o.dst (.bool b)):=by
     refine wV hM hr (K:=fun b=>b=ne) ?_;rw[hS.ev];simp only[dP]at he;split at he<;>try (cases he;done)
     ·rename_i l t hl
      obtain⟨h1,_⟩:=bL he
      try rw[hl]
      intro b hb;cases b
      ·cases ne<;>rfl
      ·exact absurd (hb rfl) h1
     ·rename_i sz l t hl
      obtain⟨h1,_⟩:=bL he
      try rw[hl]
      intro b hb;cases b
      ·cases ne<;>rfl
      ·exact absurd (hb rfl) h1
     ·rename_i hl
      first
       |rw[hl]
       |rfl
    obtain⟨b,rfl,hd'⟩:=key;refine dd hd' (k:=Sim N (c.app o.dst e)) ?_ hK
    have:e= {val:= .bool b}:=by
     simp only[dP]at he;split at he
     ·obtain⟨_,h2⟩:=bL he;exact h2.symm
     ·obtain⟨_,h2⟩:=bL he;exact h2.symm
     ·exact(aq.inj he).symm
     ·cases he
    rw[this];exact hS.put hd _
   ·obtain⟨f,h1,h2,h3,h4⟩:=QW P hS hM he (fun q y z e=>hp ⟨q,y,z,e⟩) (fun ne q e=>hn ⟨ne,q,e⟩)
    exact dd (QU hM hr h1 h2) (k:=Sim N (c.app o.dst e)) (hS.app hd h3 h4) hK
end Go.Sy
namespace Go.Sy
variable [aZ]
variable {P : Program} {C : Ctx} {x : Sit} {a : Act} {w : World} {N : Nat} {c c' : CSt} {s : St}
theorem Sim.exact(h:Sim N c s)(hM:aK C x s a w):aK C x (c.st N) a w:=
 ⟨by show cr x ((bU N).map c.get) _;rw[<-h.tm];exact hM.tm,hM.defers,hM.heap.only (fun p hp=>by have h1:=iP (iO h.inv.so) hp;have h2:s.look p.1=some p.2:=(h.look p.1).trans h1;exact cT h2) (iO h.inv.so) (fun t ht=>(h.tk t).2 ht)⟩
theorem M.slots(h:M C N c a w)(hi:Inv N c')(ho:c'.ob=c.ob)(ht:c'.tk=c.tk)(hg:∀i,c'.get i=c.get i\/c'.get i= .undef):M C N c' a w:=by
 obtain⟨x,s,hM,hS⟩:=h;have hE:=hS.exact hM;refine⟨x,c'.st N,⟨⟨?_,fun i hi'=> ?_⟩,hM.defers, ?_⟩,Sim.of hi⟩
 ·have:=hE.tm.1;simpa[CSt.st]using this
 ·have h1:=hE.tm.2 i (by simpa[CSt.st]using hi')
  have hiN:i<N:=by simpa[CSt.st]using hi'
  simp only[CSt.st,aa,aP,cL hiN,bo,bf]at h1 ⊢;rcases hg i with e|e
  ·rw[e];exact h1
  ·rw[e];exact .undef _
 ·show cR C x c'.ob c'.tk w
  rw[ho,ht];exact hE.heap
theorem Inv.kill(h:Inv N c)(l:List Nat):Inv N (c.kill l):=by
 cases l with
 |nil=>exact h
 |cons n r=>exact⟨fun p hp=>h.dom p (pj hp),h.so,h.wf⟩
theorem M.kill(h:M C N c a w)(l:List Nat):M C N (c.kill l) a w:=by
 have hi:Inv N c:=by obtain⟨x,s,_,hS⟩:=h;exact hS.inv
 cases l with
 |nil=>exact h
 |cons n r=>
  refine h.slots (hi.kill _) rfl rfl fun i=> ?_
  have e:=pt (n::r) i c.tm
  by_cases hc:(n::r).contains i=true
  ·exact .inr (e.trans (if_pos hc))
  ·exact .inl (e.trans (if_neg hc))
theorem M.purge(h:M C N c a w)(lo hi:Nat):M C N (c.purge lo hi) a w:=by obtain⟨x,s,hM,hS⟩:=h;exact⟨x,_,hM.purge lo hi,hS.purge lo hi⟩
theorem M.gc:∀{l:List Nat}{c:CSt},M C N c a w->M C N (gcC c l) a w
 |[],_,h=>h
 |o::r,c,h=>by show M C N (gcC (c.purge o (o+1)) r) a w;exact M.gc (h.purge o (o+1))
theorem ly{o:Nat}{obj:aB}(cs:List SV):SV.pubL o obj cs=cs.map (SV.pub o obj):=by
 induction cs with
 |nil=>rfl
 |cons c r ih=>simp only[SV.pubL,aE,ih]
theorem Rep.pub{x x':Sit}{o:Nat}{obj:aB}(hβ:x'.bk=x.bk)(hτ:x'.τ=x.τ)(hG:∀b i u,x.G b i=some u->x'.G b i=some u)
 (hcell:∀k,k<obj.size->∃u,x'.G ((x.bk o).1) k=some u/\cI x'.G (obj.cell k) u) (hwf:obj.wf=true) {sv:SV} {v:Value} (h:Rep x sv v):Rep x' (sv.pub o obj) v:=by
 induction h with
 |undef v=>exact .undef v
 |dat s v h ht=>
  have:s.pub o obj=s:=by cases h<;>rfl
  rw[this];exact(Rep.dat s v h ht).grow hG hβ hτ
 |ptr o' off=>
  simp only[SV.pub];split
  ·exact .undef _
  ·rw[<-hβ];exact .ptr o' off
 |ap o' sz i j=>
  simp only[SV.pub];split
  ·exact .undef _
  ·rw[<-hβ];exact .ap o' sz i j
 |psl o' sz off n cap off' cap' hoff hn hcp hkp=>
  simp only[SV.pub];split
  ·rename_i ho
   subst ho;cases obj with
   |rc cs=>exact .undef _
   |arr sz' xs=>
    simp only[ww];split
    ·rename_i hc
     obtain⟨rfl,hb⟩:=hc;have hrows:=fS.1 hwf;have h1:=leP.psl (o:=o') (cap:=cap) hb hrows x x' _ hβ hτ hG (fun k hk=>hcell k hk) (.psl o' sz' off n cap off' cap' hoff hn hcp hkp);split
     ·rename_i hcap
      have hcn:=hcp _ hcap;obtain⟨b,cq,he,_,hD,_⟩:=h1.lst_inv;exact .dat _ _ (hD.tok (.lst sz' ((xs.drop off).take n) .clip) (.inr ⟨sz',_,_,_,rfl,rfl⟩)) ⟨_,n,by rw[<-hcn]⟩
     ·exact h1
    ·exact .undef _
   |bar l=>
    simp only[ww];split
    ·rename_i hc
     obtain⟨rfl,hb⟩:=hc;have hlen:((l.drop off).take n).length=n:=by simp;omega
     have hD:∀t,cI x'.G (.byt ((l.drop off).take n) t) (.slice (some ⟨(x.bk o').1,off',none⟩) n cap'):=by
      intro t;refine .byt _ t _ _ _ _ hlen.symm hn fun i hi=> ?_
      have hoff':off'=off:=by omega
      obtain⟨u,hu,hr⟩:=hcell (off+i) (by simp only[aB.size];omega);rw[hoff',hu];simp only[aB.cell]at hr
      have e:((l.drop off).take n).getD i 0=l.getD (off+i) 0:=by simp only[aa,bJ,if_pos hi,ba]
      rw[e];cases hr with
      |u8 b=>rfl
     split
     ·rename_i hcap
      have hcn:=hcp _ hcap;exact .dat _ _ (hD .clip) ⟨_,n,by rw[<-hcn]⟩
     ·exact .dat _ _ (hD .no) trivial
    ·exact .undef _
  ·rw[<-hβ]at hkp ⊢;exact .psl o' sz off n cap off' cap' hoff hn hcp hkp
 |agg cs vs hl _ ih=>simp only[SV.pub,ly];exact .agg _ _ (by simpa using hl) fun i hi=>by rw[aT _ (by rfl)];exact ih i (by simpa using hi)
 |tup cs vs hl _ ih=>simp only[SV.pub,ly];exact .tup _ _ (by simpa using hl) fun i hi=>by rw[aT _ (by rfl)];exact ih i (by simpa using hi)
 |fn f c1 c2 v1 v2 hl1 _ hl2 _ ih1 ih2=>simp only[SV.pub,ly];exact .fn _ _ _ _ _ (by simpa using hl1) (fun i hi=>by rw[aT _ (by rfl)];exact ih1 i (by simpa using hi)) (by simpa using hl2) (fun i hi=>by rw[aT _ (by rfl)];exact ih2 i (by simpa using hi))
theorem kb{o:Nat}{obj:aB}{p:Nat×aB}:∀{l:List (Nat×aB)},p∈kL o obj l->p.1≠o/\∃q,(p.1,q)∈l/\p.2=nj o obj q
 |q::r,h=>by
  simp only[kL]at h;split at h
  ·obtain⟨h1,u,h2,h3⟩:=kb h
   exact⟨h1,u,ao _ h2,h3⟩
  ·rename_i hq
   rcases am.1 h with e|e
   ·rw[e];exact⟨hq,q.2,az ..,rfl⟩
   ·obtain⟨h1,u,h2,h3⟩:=kb e
    exact⟨h1,u,ao _ h2,h3⟩
theorem px{o:Nat}{obj:aB}:∀l:List (Nat×aB),(kL o obj l).map cA=(l.map cA).filter fun k=>decide (k≠o)
 |[]=>rfl
 |p::r=>by
  simp only[kL,aE,kE]
  by_cases h:p.1=o
  ·rw[if_pos h,px r];simp[h]
  ·rw[if_neg h,aE,px r];simp[h]
theorem ph{o:Nat}{obj:aB}{p:Nat×SV}:∀{l:List (Nat×SV)},p∈li o obj l->∃q∈l,p.1=q.1
 |q::r,h=>by
  simp only[li]at h;rcases am.1 h with e|e
  ·exact⟨q,az ..,by rw[e]⟩
  ·obtain⟨u,h1,h2⟩:=ph e
   exact⟨u,ao _ h1,h2⟩
theorem kf{o:Nat}{obj:aB}(n:Nat):∀l:List (Nat×SV),eA (li o obj l) n=(eA l n).pub o obj
 |[]=>rfl
 |p::r=>by
  simp only[li,eA];split
  ·rfl
  ·exact kf n r
theorem Zt{o:Nat}{obj q:aB}(h:q.wf=true):(nj o obj q).wf=true:=by cases q<;>simpa[nj,aB.wf]using h
theorem oq{o:Nat}{obj0 obj:aB}(hl:c.look o=some obj0)(hnr:∀cs,obj≠ .rc cs)(hnr0:∀cs,obj0≠ .rc cs)(hle:obj.size<=obj0.size)(hcl:∀k,k<obj.size->obj.cell k=obj0.cell k)(hwf:obj.wf=true)(hM:aK C x s a w)(hS:Sim N c s):
 ∃x',(x'.bk=x.bk/\x'.τ=x.τ/\(∀b i u,x.G b i=some u->x'.G b i=some u)/\(∀i,obj.size<=i->x'.G ((x.bk o).1) i=none)/\(∀k,k<obj.size->∃u,x'.G ((x.bk o).1) k=some u/\cI x'.G (obj.cell k) u))/\(∀sv v,Rep x sv v->Rep x' (sv.pub o obj) v)/\∃s',aK C x' s' a w/\Sim N ⟨li o obj c.tm,kL o obj c.ob,c.tk⟩ s'/\(∀p∈s'.ob,(x.bk o).1≠(x'.bk p.1).1):=by
 have hls:s.look o=some obj0:=(hS.look o).trans hl;obtain⟨cc,e,fl,fh,hO,hsz,hr⟩:=eN hM hls;have hob:=hM.heap.obs _ (cT hls)
 let x':Sit:= {x with G:=fun b i=>if b=(x.bk o).1/\i<obj.size then some (cc.getD i Go.undef)else x.G b i}
 have hG:∀b i u,x.G b i=some u->x'.G b i=some u:=by intro b i u hu;show(if _ then _ else _)=_;rw[if_neg];exact hu;rintro⟨rfl,_⟩;have h0:=hob.2.2 i;simp only at h0;rw[h0]at hu;cases hu
 have hcell:∀k,k<obj.size->∃u,x'.G ((x.bk o).1) k=some u/\cI x'.G (obj.cell k) u:=by
  intro k hk;refine⟨cc.getD k Go.undef,if_pos ⟨rfl,hk⟩,cI.mono hG ?_⟩;have:=hr k (by omega);rw[hcl k hk];cases obj0 with
  |rc cs=>exact absurd rfl (hnr0 cs)
  |arr sz xs=>exact this
  |bar l=>exact this
 have hpub:∀sv v,Rep x sv v->Rep x' (sv.pub o obj) v:=fun sv v h=>Rep.pub (x:=x) (x':=x') rfl rfl hG hcell hwf h
 have hH:=hM.heap
 have hinv:Inv N ⟨li o obj c.tm,kL o obj c.ob,c.tk⟩:=by
  refine⟨fun p hp=> ?_, ?_,fun p hp=> ?_⟩
  ·obtain⟨q,hq,e⟩:=ph hp;rw[e];exact hS.inv.dom q hq
  ·show((kL o obj c.ob).map cA).Pairwise _
   rw[px];exact hS.inv.so.filter _
  ·obtain⟨_,q,h2,h3⟩:=kb hp;rw[h3];exact Zt (hS.inv.wf _ h2)
 have hmem:∀p∈kL o obj c.ob,p.1≠o/\∃q,(p.1,q)∈s.ob/\p.2=nj o obj q:=by intro p hp;obtain⟨h1,q,h2,h3⟩:=kb hp;have h4:=iP (iO hS.inv.so) h2;exact⟨h1,q,cT ((hS.look p.1).trans h4),h3⟩
 have hne:∀p∈kL o obj c.ob,(x.bk p.1).1≠(x.bk o).1:=fun p hp e=>by obtain⟨h1,q,h2,_⟩:=hmem p hp;exact h1 (hH.inj (p.1,q) h2 _ (cT hls) e)
 refine⟨x',⟨rfl,rfl,hG,fun i hi=> ?_,hcell⟩,hpub,_,⟨⟨?_,fun i hi=> ?_⟩,hM.defers, ?_⟩,Sim.of hinv,fun p hp=>(hne p hp).symm⟩
 ·show(if _ then _ else _)=_
  rw[if_neg (by rintro⟨_,h⟩;omega)];exact hob.2.2 i
 ·have:=hM.tm.1;rw[hS.tm]at this;simpa[CSt.st]using this
 ·have hiN:i<N:=by simpa[CSt.st]using hi
  have h1:=hM.tm.2 i (by rw[hS.tm];simpa using hiN);rw[hS.tm]at h1;simp only[CSt.st,aa,aP,cL hiN,bo,bf]at h1 ⊢;have:(CSt.mk (li o obj c.tm) (kL o obj c.ob) c.tk).get i=(c.get i).pub o obj:=kf i c.tm;rw[this];exact hpub _ _ h1
 ·refine⟨
   ?_,fun b i v hv=>hG _ _ _ (hH.g0 b i v hv), ?_,hH.new, ?_,iO hinv.so, ?_, ?_,fun n hn p hp=> ?_,fun n hn m hm=>hH.tkd n ((hS.tk n).2 hn) m ((hS.tk m).2 hm),hH.os,hH.tape,hH.output,hH.size,hH.ext,hH.pin,hH.lay⟩
  ·intro b i v hv
   replace hv:(if b=(x.bk o).1/\i<obj.size then some (cc.getD i Go.undef)else x.G b i)=some v:=hv;split at hv
   ·rename_i hbi
    obtain⟨rfl,hi⟩:=hbi;cases hv;rw[hO.cell,bc,cS (by omega)];rfl
   ·exact hH.per b i v hv
  ·intro b i v hv
   replace hv:(if b=(x.bk o).1/\i<obj.size then some (cc.getD i Go.undef)else x.G b i)=some v:=hv;split at hv
   ·rename_i hbi
    exact .inr (hbi.1 ▸ hob.2.1)
   ·exact hH.gm b i v hv
  ·intro p hp
   obtain⟨h1,q,h2,h3⟩:=hmem p hp;obtain⟨g1,g2,g3⟩:=hH.obs _ h2;refine⟨?_,g2,fun off=> ?_⟩
   ·obtain⟨c',e',fl',fh',hO',hs',hr'⟩:=g1
    rw[h3];refine⟨c',e',fl',fh',hO', ?_,fun k hk=> ?_⟩
    ·cases q<;>first|exact hs'|exact⟨by simpa[nj,aB.size,ly]using hs'.1,hs'.2.1,fun h=>by cases h⟩
    ·cases q with
     |rc cs=>
      have hk':k<cs.length:=by simpa[nj,aB.size,ly]using hk
      have:=hr' k hk';simp only[nj,bY,ly]at this ⊢;rw[aT _ (by rfl)];exact hpub _ _ this
     |arr sz xs=>exact cI.mono hG (hr' k hk)
     |bar l=>exact cI.mono hG (hr' k hk)
   ·show(if _ then _ else _)=_
    rw[if_neg (fun h=>hne p hp h.1)];exact g3 off
  ·intro p hp q hq hpq
   obtain⟨_,p',hp',_⟩:=hmem p hp;obtain⟨_,q',hq',_⟩:=hmem q hq;exact hH.inj (p.1,p') hp' (q.1,q') hq' hpq
  ·intro n hn'
   have hn:=(hS.tk n).2 hn';rcases hH.tks n hn with h|⟨h1,h2,h3⟩
   ·exact .inl h
   ·by_cases hlh:(x.τ n).2.1=(x.τ n).2.2
    ·exact .inl hlh
    ·refine .inr ⟨h1,h2,fun off h4 h5=> ?_⟩
     show(if _ then _ else _)=_;rw[if_neg (fun h=>(hH.tko n hn _ (cT hls)).elim (fun hb=>hb h.1) hlh)];exact h3 off h4 h5
  ·obtain⟨_,q,h2,_⟩:=hmem p hp
   exact hH.tko n ((hS.tk n).2 hn) (p.1,q) h2
theorem ot{o:Nat}{obj:aB}(hl:c.look o=some obj)(hnr:∀cs,obj≠ .rc cs)(hM:aK C x s a w)(hS:Sim N c s):
 ∃x',(x'.bk=x.bk/\x'.τ=x.τ)/\(∀sv v,Rep x sv v->Rep x' (sv.pub o obj) v)/\∃s',aK C x' s' a w/\Sim N ⟨li o obj c.tm,kL o obj c.ob,c.tk⟩ s':=by
 obtain⟨x',h1,h2,s',h3,h4,_⟩:=oq hl hnr hnr (aL _) (fun _ _=>rfl) (hS.lookmem hl) hM hS;exact⟨x',⟨h1.1,h1.2.1⟩,h2,s',h3,h4⟩
theorem C9{o:Nat}{obj:aB}(hl:c.look o=some obj)(hnr:∀cs,obj≠ .rc cs)(hM:aK C x s a w)(hS:Sim N c s):
 ∃x',(∀sv v,Rep x sv v->Rep x' (sv.pub o obj) v)/\∃s',aK C x' s' a w/\Sim N ⟨li o obj c.tm,kL o obj c.ob,c.tk⟩ s':=by
 obtain⟨x',_,h⟩:=ot hl hnr hM hS;exact⟨x',h⟩
theorem kK{vs:List SV}{us:List Value}{o:Nat}(hM:aK C x s a w)(hS:Sim N c s)(hv:cr x vs us):
 ∃x' s',aK C x' s' a w/\Sim N (c.publish o vs).1 s'/\cr x' (c.publish o vs).2 us:=by
 unfold CSt.publish
 have go:∀{obj:aB},c.look o=some obj->(∀cs,obj≠ .rc cs)->∃x' s',aK C x' s' a w/\Sim N ⟨li o obj c.tm,kL o obj c.ob,c.tk⟩ s'/\cr x' (SV.pubL o obj vs) us:=by intro obj hl hnr;obtain⟨x',hp,s',h1,h2⟩:=C9 hl hnr hM hS;refine⟨x',s',h1,h2, ?_⟩;rw[ly];refine⟨by simpa using hv.1,fun i hi=> ?_⟩;rw[aT _ (by rfl)];exact hp _ _ (hv.2 i (by simpa using hi))
 split
 ·rename_i sz xs hl;exact go hl (fun cs e=>by cases e)
 ·rename_i l hl;exact go hl (fun cs e=>by cases e)
 ·exact⟨x,s,hM,hS,hv⟩
theorem iV{us:List Value}:∀{l:List Nat}{c:CSt}{s:St}{x:Sit}{vs:List SV},aK C x s a w->Sim N c s->cr x vs us->
 ∃x' s',aK C x' s' a w/\Sim N (eJ c vs l).1 s'/\cr x' (eJ c vs l).2 us
 |[],_,_,_,_,hM,hS,hv=>⟨_,_,hM,hS,hv⟩
 |o::r,c,s,x,vs,hM,hS,hv=>by obtain⟨x1,s1,h1,h2,h3⟩:=kK (o:=o) hM hS hv;simp only[eJ];exact iV h1 h2 h3
theorem M.pub(h:M C N c a w)(o:Nat):M C N (c.publish o []).1 a w:=by obtain⟨x,s,hM,hS⟩:=h;obtain⟨x',s',h1,h2,_⟩:=kK (o:=o) (vs:=[]) (us:=[]) hM hS ⟨rfl,fun i hi=>by simp at hi⟩;exact⟨x',s',h1,h2⟩
theorem O0(hM:aK C x s a w)(hS:Sim N c s)(id b lo hi:Nat)(hv:lo=hi\/((∃c e fl fh,dT w b c e fl fh/\hi<=c.size)/\C.mine b/\∀o,lo<=o->o<hi->x.G b o=none))
 (hob:∀p∈s.ob,b≠(x.bk p.1).1) (htk:∀u∈s.tk,kT (b,lo,hi) (x.τ u)\/(x.τ u).2.1=(x.τ u).2.2) {n:Nat} (hn:n<N) {v:SV}
 (hval:Rep (x.newT id b lo hi) v (a.tmps.toList.getD n Go.undef)):
 M C N ⟨i5 (df id (id+1) c.tm) n v,bx id (id+1) c.ob,lX (cw id (id+1) c.tk) id⟩ a w:=by
 have hadd:cR C (x.newT id b lo hi) (bx id (id+1) s.ob) (id::cw id (id+1) s.tk) w:=
  hM.heap.addT id b lo hi hv (.inr fun p hp _=>hob p hp) (.inr fun u hu _=>htk u hu)
 have hM1:aK C (x.newT id b lo hi) ⟨SV.purgeL id (id+1) s.tm,bx id (id+1) s.ob,id::cw id (id+1) s.tk⟩ a w:=
  ⟨cr.mono (x:=x) (x':=x.newT id b lo hi) (lo:=id) (hi:=id+1) (fun _ _ _ h=>h) (fun _ _=>rfl) (Sit.newT_ne x id _ _ _) hM.tm,hM.defers,hadd⟩
 have hS1:Sim N ⟨df id (id+1) c.tm,bx id (id+1) c.ob,lX (cw id (id+1) c.tk) id⟩ ⟨SV.purgeL id (id+1) s.tm,bx id (id+1) s.ob,id::cw id (id+1) s.tk⟩:=
  (hS.purge id (id+1)).tks (fun u=>by rw[ka,am,bD,bD,hS.tk])
 refine⟨x.newT id b lo hi,_, ?_,hS1.put (d:=some n) (fun k e=>by cases e;exact hn) v⟩;refine⟨⟨?_,fun i hi=> ?_⟩,hM1.defers,hM1.heap⟩
 ·have:=hM1.tm.1;simpa[St.put]using this
 ·simp only[St.put,dp]at hi
  simp only[St.put,aa,gw]
  by_cases hni:n=i
  ·subst hni
   rw[if_pos rfl,if_pos hi];rw[<-aa];exact hval
  ·rw[if_neg hni]
   have:=hM1.tm.2 i hi;simp only[aa]at this;exact this
theorem vH(h:M C N c a w){n id o sz off k cp:Nat}(hg:c.get n= .psl o sz off k (some cp))(hc:O2 c n id o sz off k cp (c.look o)=some c')(hn:n<N):M C N c' a w:=by
 cases hl:c.look o with
 |none=>rw[hl]at hc;cases hc;exact h
 |some obj0=>
  rw[hl]at hc
  have main:∀(obj:aB)(v:SV),(∀cs,obj≠ .rc cs)->(∀cs,obj0≠ .rc cs)->obj.size=(off+k)*sz->(off+cp)*sz<=obj0.size->k<=cp->(∀k,k<obj.size->obj.cell k=obj0.cell k)->obj.wf=true->
   (∀(x':Sit)(off':Nat),(cp=0\/off'=off*sz)->(∀k,k<obj.size->∃u,x'.G ((x'.bk o).1) k=some u/\cI x'.G (obj.cell k) u)->cI x'.G v (.slice (some ⟨(x'.bk o).1,off',none⟩) k cp))->
   (∀x v',NL x v v'=dl x sz (.id id) v')->
   M C N (DY c n id o obj v) a w:=by
   intro obj v hnr hnr0 hsz hle hk hcl hwf hD htok;obtain⟨x,s,hM,hS⟩:=h;have hle':obj.size<=obj0.size:=by rw[hsz];exact cC (bw _ (by omega)) hle
   obtain⟨x',⟨hβ,hτ,hG,hfree,hcell⟩,hpub,s',hM',hS',hne⟩:=oq hl hnr hnr0 hle' hcl hwf hM hS;have hls:s.look o=some obj0:=(hS.look o).trans hl;obtain⟨cc,e,fl,fh,hO,hosz,_⟩:=eN hM hls;have hob:=hM.heap.obs _ (cT hls);have hslot:=hM.slot n;rw[hS.get,hg]at hslot;obtain⟨cp',hkc,hcc,off',he,hoff⟩:=hslot.psl_inv;obtain rfl:=hcc _ rfl
   have hval0:a.tmps.toList.getD n Go.undef= .slice (some ⟨(x.bk o).1,off',none⟩) k cp:=by rw[<-he];simp[bc,aa]
   refine O0 hM' hS' id ((x.bk o).1) ((off+k)*sz) ((off+cp)*sz) (.inr ⟨⟨cc,e,fl,fh,hO,by omega⟩,hob.2.1,fun i h1 h2=>hfree i (by omega)⟩) (fun p hp=>hne p hp) (fun u hu=> ?_) hn ?_
   ·have hu':=(hS'.tk u).1 hu
    have hu2:=(hS.tk u).2 hu';rw[hτ];exact(hM.heap.tko u hu2 _ (cT hls)).imp (fun h e=>h e.symm) (fun h=>h)
   ·rw[hval0]
    have h1:=hD (x'.newT id ((x.bk o).1) ((off+k)*sz) ((off+cp)*sz)) off' hoff (by show ∀k,k<obj.size->∃u,x'.G ((x'.bk o).1) k=some u/\cI x'.G (obj.cell k) u;rw[hβ];exact hcell)
    have e1:(x'.newT id ((x.bk o).1) ((off+k)*sz) ((off+cp)*sz)).bk o=x.bk o:=by show x'.bk o=_;rw[hβ]
    rw[e1]at h1;refine .dat _ _ h1 ?_;rw[htok];refine⟨_,k,cp,rfl, ?_⟩
    by_cases hcz:cp=0
    ·exact .inl (by omega)
    ·refine .inr ⟨_,off',rfl, ?_⟩
     rw[Sit.newT_eq,hoff.resolve_left hcz,bB,bB]
  cases obj0 with
  |rc cs=>cases hc;exact h
  |bar l=>
   simp only[O2]at hc;split at hc<;>cases hc
   ·rename_i hcond
    obtain⟨rfl,h2,h3⟩:=hcond;refine main (.bar (l.take (off+k))) (.byt ((l.drop off).take k) (.id id)) (fun cs e=>by cases e) (fun cs e=>by cases e) (by simp only[aB.size,av];omega) (by simp only[aB.size];omega) h3 (fun i hi=> ?_) rfl (fun x' off' hoff hcell=> ?_) (fun _ _=>rfl)
    ·simp only[aB.size,av]at hi
     simp only[aB.cell,aa,bJ,if_pos (show i<off+k by omega)]
    ·have hlen:((l.drop off).take k).length=k:=by simp;omega
     refine .byt _ _ _ _ _ _ hlen.symm h3 fun i hi=> ?_
     have hoff':off'=off:=by omega
     obtain⟨u,hu,hr⟩:=hcell (off+i) (by simp only[aB.size,av];omega);rw[hoff',hu];simp only[aB.cell]at hr
     have e1:((l.drop off).take k).getD i 0=(l.take (off+k)).getD (off+i) 0:=by simp only[aa,bJ,if_pos hi,ba,if_pos (show off+i<off+k by omega)]
     rw[e1];cases hr with
     |u8 b=>rfl
   ·exact h
  |arr sz' xs=>
   simp only[O2]at hc;split at hc<;>cases hc
   ·rename_i hcond
    obtain⟨rfl,h2,h3⟩:=hcond;have hwf0:∀y∈xs,y.length=sz':=by obtain⟨x,s,hM,hS⟩:=h;exact fS.1 (hS.lookmem hl)
    have hwt:∀y∈xs.take (off+k),y.length=sz':=fun y hy=>hwf0 y (bz hy)
    have hrow:(xs.drop off).take k=(xs.take (off+k)).drop off:=by rw[List.drop_take,Nat.add_sub_cancel_left]
    refine main (.arr sz' (xs.take (off+k))) (.lst sz' ((xs.drop off).take k) (.id id)) (fun cs e=>by cases e) (fun cs e=>by cases e) (by simp only[aB.size,av];congr 1;omega) (by simp only[aB.size];exact bw _ h2) h3 (fun i hi=> ?_) (fS.2 hwt) (fun x' off' hoff hcell=> ?_) (fun _ _=>rfl)
    ·simp only[aB.size,av]at hi
     simp only[aB.cell,aa,bJ];have hd:i/sz'<off+k:=Nat.div_lt_of_lt_mul (by rw[cB];exact Nat.lt_of_lt_of_le hi (bw _ (Nat.min_le_left _ _)));rw[if_pos hd]
    ·have hlen:((xs.drop off).take k).length=k:=by simp;omega
     have hgr:∀i,i<k->((xs.drop off).take k).getD i []=(xs.take (off+k)).getD (off+i) []:=fun i hi=>by simp only[aa,bJ,if_pos hi,ba,if_pos (show off+i<off+k by omega)]
     have hrl:∀i,i<k->((xs.drop off).take k).getD i []∈xs.take (off+k):=fun i hi=>by rw[hgr i hi,aa,ab (show off+i<(xs.take (off+k)).length by rw[av];omega)];exact bj _
     have hcl:∀i j,i<k->j<sz'->∃u,x'.G ((x'.bk o).1) (off'+i*sz'+j)=some u/\cI x'.G ((((xs.drop off).take k).getD i []).getD j .undef) u:=by
      intro i j hi hj;have hoff':off'=off*sz':=hoff.resolve_left (by omega)
      have hlt:(off+i)*sz'+j<(off+k)*sz':=by have:=bw sz' (show off+i+1<=off+k by omega);rw[bB,Nat.one_mul]at this;omega
      obtain⟨u,hu,hr⟩:=hcell ((off+i)*sz'+j) (by simp only[aB.size,av];rw[gI (by omega)];exact hlt);refine⟨u,by rw[hoff',<-bB];exact hu, ?_⟩;simp only[aB.cell]at hr;have e1:((off+i)*sz'+j)/sz'=off+i:=by rw[cB,Nat.mul_add_div (by omega),Nat.div_eq_of_lt hj,fj]
      have e2:((off+i)*sz'+j) % sz'=j:=by rw[cB,Nat.mul_add_mod,dU hj]
      rw[e1,e2]at hr;rw[hgr i hi];exact hr
     refine .lst _ _ _ _ _ _ _ (fun i j=>(x'.G ((x'.bk o).1) (off'+i*sz'+j)).getD Go.undef) hlen.symm h3 (fun i hi=>hwt _ (hrl i hi)) (fun i j hi hj=> ?_) (fun i j hi hj=> ?_)
     ·obtain⟨u,hu,_⟩:=hcl i j hi hj
      rw[hu];rfl
     ·obtain⟨u,hu,hr⟩:=hcl i j hi hj
      rw[hu];exact hr
   ·exact h
theorem ki(hM:aK C x s a w)(hS:Sim N c s)(id:Nat)(t:Option Nat)(ht:∀k,t=some k->k∈c.tk){n:Nat}(hn:n<N){v:SV}
 (hv:∀u,Rep x (c.get n) u->Rep (x.newT id ((t.elim (0,0,0) x.τ)).1 ((t.elim (0,0,0) x.τ)).2.1 ((t.elim (0,0,0) x.τ)).2.2) v u):
 M C N ⟨i5 (df id (id+1) c.tm) n v,bx id (id+1) c.ob,lX (cw id (id+1) (t.elim c.tk fun k=>cw k (k+1) c.tk)) id⟩ a w:=by
 generalize hT:t.elim (0,0,0) x.τ=T at hv;generalize hL:(t.elim c.tk fun k=>cw k (k+1) c.tk)=L;have hH:=hM.heap
 have hLs:∀u∈L,u∈s.tk/\∀k,t=some k->u≠k:=by
  intro u hu;rw[<-hL]at hu;cases t with
  |none=>exact⟨(hS.tk u).2 hu,fun k e=>by cases e⟩
  |some k=>obtain⟨h1,h2⟩:=bD.1 hu;exact⟨(hS.tk u).2 h1,fun k' e=>by cases e;omega⟩
 have hadd:cR C (x.newT id T.1 T.2.1 T.2.2) (bx id (id+1) s.ob) (id::cw id (id+1) L) w:=by
  refine(hH.sub (tk':=L) (mX.refl _) (fun u hu=>(hLs u hu).1)).addT id T.1 T.2.1 T.2.2 ?_ ?_ ?_
  ·cases t with
   |none=>subst hT;exact .inl rfl
   |some k=>have:=hH.tks k ((hS.tk k).2 (ht k rfl));unfold gT at this;subst hT;exact this
  ·cases t with
   |none=>subst hT;exact .inl rfl
   |some k=>
    by_cases hc:(x.τ k).2.1=(x.τ k).2.2
    ·subst hT;exact .inl hc
    ·subst hT
     exact .inr fun p hp _=>(hH.tko k ((hS.tk k).2 (ht k rfl)) p hp).resolve_right hc
  ·cases t with
   |none=>subst hT;exact .inl rfl
   |some k=>
    by_cases hc:(x.τ k).2.1=(x.τ k).2.2
    ·subst hT;exact .inl hc
    ·subst hT
     refine .inr fun u hu _=> ?_
     obtain⟨h1,h2⟩:=hLs u hu;rcases hH.tkd k ((hS.tk k).2 (ht k rfl)) u h1 (fun e=>h2 k rfl e.symm)with h|h|h
     ·exact .inl h
     ·exact absurd h hc
     ·exact .inr h
 have hM1:aK C (x.newT id T.1 T.2.1 T.2.2) ⟨SV.purgeL id (id+1) s.tm,bx id (id+1) s.ob,id::cw id (id+1) L⟩ a w:=
  ⟨cr.mono (x:=x) (x':=x.newT id T.1 T.2.1 T.2.2) (lo:=id) (hi:=id+1) (fun _ _ _ h=>h) (fun _ _=>rfl) (Sit.newT_ne x id _ _ _) hM.tm,hM.defers,hadd⟩
 have hS1:Sim N ⟨df id (id+1) c.tm,bx id (id+1) c.ob,lX (cw id (id+1) L) id⟩ ⟨SV.purgeL id (id+1) s.tm,bx id (id+1) s.ob,id::cw id (id+1) L⟩:=
  (hS.purge id (id+1)).tks (fun u=>by rw[ka,am])
 refine⟨x.newT id T.1 T.2.1 T.2.2,_, ?_,hS1.put (d:=some n) (fun k e=>by cases e;exact hn) v⟩;have hlt:n<s.tm.length:=by rw[hS.tm];simpa using hn
 refine⟨⟨?_,fun i hi=> ?_⟩,hM1.defers,hM1.heap⟩
 ·have:=hM1.tm.1;simpa[St.put]using this
 ·simp only[St.put,dp]at hi
  simp only[St.put,aa,gw]
  by_cases hni:n=i
  ·subst hni
   rw[if_pos rfl,if_pos hi];refine hv _ ?_;have:=hM.tm.2 n hlt;have e:s.tm.getD n .undef=c.get n:=hS.get n;rw[e]at this;rw[<-aa];exact this
  ·rw[if_neg hni,<-aa,<-aa]
   exact hM1.tm.2 i hi
theorem vI(h:M C N c a w){n id:Nat}(hc:O3 c n id (c.get n)=some c'):M C N c' a w:=by
 have hnN:c.get n≠ .undef->n<N:=by
  obtain⟨x,s,hM,hS⟩:=h;intro hne;rcases bH n N with h1|h1
  ·exact h1
  ·exact absurd (hS.inv.get h1) hne
 cases hg:c.get n with
 |byt l t=>
  rw[hg]at hc;have hN:=hnN (by rw[hg];exact fun e=>by cases e);cases t with
  |no=>cases hc;exact h
  |clip=>
   cases hc;obtain⟨x,s,hM,hS⟩:=h;refine ki hM hS id none (fun k e=>by cases e) hN fun u hu=> ?_
   rw[hg]at hu;exact leT.byt id l x u hu
  |id t=>
   simp only[O3]at hc;split at hc
   ·cases hc;exact h
   ·split at hc<;>cases hc
    rename_i h1 h2;obtain⟨x,s,hM,hS⟩:=h;refine ki hM hS id (some t) (fun k e=>by cases e;simpa using h2) hN fun u hu=> ?_
    rw[hg]at hu;obtain⟨b,cap,he,_,hD,hsp⟩:=hu.byt_inv;refine .dat _ _ (hD.tok (.byt l (.id id)) (.inl ⟨l,_,_,rfl,rfl⟩)) ?_;obtain⟨a',n',cap',he',hh⟩:=hsp;refine⟨a',n',cap',he',hh.imp (fun h=>h) ?_⟩;rintro⟨b,off,h3,h4⟩;exact⟨b,off,h3,by rw[Sit.newT_eq];exact h4⟩
 |lst sz xs t=>
  rw[hg]at hc;have hN:=hnN (by rw[hg];exact fun e=>by cases e);cases t with
  |no=>cases hc;exact h
  |clip=>
   cases hc;obtain⟨x,s,hM,hS⟩:=h;refine ki hM hS id none (fun k e=>by cases e) hN fun u hu=> ?_
   rw[hg]at hu;exact leT.lst id sz xs x u hu
  |id t=>
   simp only[O3]at hc;split at hc
   ·cases hc;exact h
   ·split at hc<;>cases hc
    rename_i h1 h2;obtain⟨x,s,hM,hS⟩:=h;refine ki hM hS id (some t) (fun k e=>by cases e;simpa using h2) hN fun u hu=> ?_
    rw[hg]at hu;obtain⟨b,cap,he,_,hD,hsp⟩:=hu.lst_inv;refine .dat _ _ (hD.tok (.lst sz xs (.id id)) (.inr ⟨sz,xs,_,_,rfl,rfl⟩)) ?_;obtain⟨a',n',cap',he',hh⟩:=hsp;refine⟨a',n',cap',he',hh.imp (fun h=>h) ?_⟩;rintro⟨b,off,h3,h4⟩;exact⟨b,off,h3,by rw[Sit.newT_eq];exact h4⟩
 |psl o sz off k cp=>
  rw[hg]at hc;have hN:=hnN (by rw[hg];exact fun e=>by cases e);cases cp with
  |none=>cases hc;exact h
  |some cp=>exact vH h hg hc hN
 |_=>rw[hg]at hc;cases hc;exact h
theorem aK.retag(hM:aK C x s a w)(n:Nat){v:SV}(hval:Rep x v (a.tmps.toList.getD n Go.undef)):aK C x (s.put (some n) v) a w:=by
 refine⟨⟨?_,fun i hi=> ?_⟩,hM.defers,hM.heap⟩
 ·have:=hM.tm.1;simpa[St.put]using this
 ·simp only[St.put,dp]at hi
  simp only[St.put,aa,gw]
  by_cases hni:n=i
  ·subst hni
   rw[if_pos rfl,if_pos hi];rw[<-aa];exact hval
  ·rw[if_neg hni]
   have:=hM.tm.2 i hi;simp only[aa]at this;exact this
theorem cR.move{ob:List (Nat×aB)}{tk:List Nat}(h:cR C x ob tk w){o d:Nat}(hd100:100<=d){obj:aB}(ho:(o,obj)∈ob)(hnr:∀cs,obj≠ .rc cs):
 cR C (x.newO d (x.bk o).1 (x.bk o).2) ((d,obj)::bx d (d+1) (bx o (o+1) ob)) (cw d (d+1) (cw o (o+1) tk)) w:=by
 have hβ:=Sit.newO_ne x d (x.bk o).1 (k:=(x.bk o).2);obtain⟨⟨c,e,fl,fh,hO,hs,hr⟩,hm,hg⟩:=h.obs _ ho;have hd2:(x.newO d (x.bk o).1 (x.bk o).2).bk d=x.bk o:=if_pos rfl
 have hob:∀p∈bx d (d+1) (bx o (o+1) ob),(x.newO d (x.bk o).1 (x.bk o).2).bk p.1=x.bk p.1/\∃q,(p.1,q)∈ob/\p.1≠o/\¬(d<=p.1/\p.1<d+1)/\p.2=(q.purge o (o+1)).purge d (d+1):=by intro p hp;obtain⟨h1,q,h2,h3⟩:=ct hp;obtain⟨h4,q',h5,h6⟩:=ct h2;simp only at h4 h5 h6;exact⟨hβ _ h1,q',h5,by omega,h1,by rw[h3,h6]⟩
 have htk:∀t∈cw d (d+1) (cw o (o+1) tk),t∈tk:=fun t ht=>(bD.1 (bD.1 ht).1).1
 refine⟨h.per,h.g0,h.gm,h.new, ?_, ?_, ?_,fun t ht=>h.tks t (htk t ht), ?_,fun t ht u hu=>h.tkd t (htk t ht) u (htk u hu),h.os,h.tape,h.output,h.size,h.ext,fun i hi=>by rw[hβ i (by omega)];exact h.pin i hi,h.lay⟩
 ·intro p hp
  rcases am.1 hp with rfl|hp
  ·refine⟨⟨c,e,fl,fh,by rw[hd2];exact hO,by rw[hd2];exact hs,fun k hk=> ?_⟩,by rw[hd2];exact hm,fun off=>by rw[hd2];exact hg off⟩
   have:=hr k hk;cases obj with
   |rc cs=>exact absurd rfl (hnr cs)
   |arr sz xs=>exact this
   |bar l=>exact this
  ·obtain⟨he,q,h1,h2,h3,h4⟩:=hob p hp
   obtain⟨h5,h6,h7⟩:=h.obs _ h1;refine⟨?_,by rw[he];exact h6,fun off=>by rw[he];exact h7 off⟩;have e1:=h5.of_heap (x':=x) (w':=w) (lo:=o) (hi:=o+1) rfl (fun _ _ _ h=>h) (fun _ _=>rfl) (fun _ _=>rfl) (by omega);have e2:=e1.of_heap (x':=x.newO d (x.bk o).1 (x.bk o).2) (w':=w) (lo:=d) (hi:=d+1) rfl (fun _ _ _ h=>h) hβ (fun _ _=>rfl) h3;rw[h4];exact e2
 ·rw[aE,ed,eG,eG]
  refine⟨fun hmem=> ?_,(h.nd.filter _).filter _⟩;have:=(List.mem_filter.1 hmem).2;simp at this
 ·intro p hp q hq hpq
  rcases am.1 hp with rfl|hp<;>rcases am.1 hq with rfl|hq
  ·rfl
  ·obtain⟨he,q',h1,h2,_⟩:=hob q hq
   rw[hd2,he]at hpq;exact absurd (h.inj (o,obj) ho (q.1,q') h1 hpq).symm h2
  ·obtain⟨he,q',h1,h2,_⟩:=hob p hp
   rw[hd2,he]at hpq;exact absurd (h.inj (p.1,q') h1 (o,obj) ho hpq) h2
  ·obtain⟨he,q1,h1,_⟩:=hob p hp
   obtain⟨he',q2,h2,_⟩:=hob q hq;rw[he,he']at hpq;exact h.inj (p.1,q1) h1 (q.1,q2) h2 hpq
 ·intro t ht p hp
  rcases am.1 hp with rfl|hp
  ·show(x.τ t).1≠((x.newO d (x.bk o).1 (x.bk o).2).bk d).1\/_
   rw[hd2];exact h.tko t (htk t ht) (o,obj) ho
  ·obtain⟨he,q,h1,_⟩:=hob p hp
   show(x.τ t).1≠((x.newO d (x.bk o).1 (x.bk o).2).bk p.1).1\/_;rw[he];exact h.tko t (htk t ht) (p.1,q) h1
theorem aK.move(hM:aK C x s a w){o d:Nat}(hd100:100<=d){obj:aB}(hl:s.look o=some obj)(hnr:∀cs,obj≠ .rc cs):
 aK C (x.newO d (x.bk o).1 (x.bk o).2) (((s.purge o (o+1)).purge d (d+1)).addO d obj) a w:=
 ⟨cr.mono (x:=x) (x':=x.newO d (x.bk o).1 (x.bk o).2) (lo:=d) (hi:=d+1) (fun _ _ _ h=>h) (Sit.newO_ne x d _) (fun _ _=>rfl) (hM.purge o (o+1)).tm,hM.defers,hM.heap.move hd100 (cT hl) hnr⟩
theorem uH{n id o sz off k:Nat}{cap:Option Nat}{obj:aB}(hM:aK C x s a w)(hS:Sim N c s)(hn:n<N)(hid:100<=id)(hg:c.get n= .psl o sz off k cap)(hl:c.look o=some obj)(hnr:∀cs,obj≠ .rc cs):
 M C N (mvC c n id o sz off k cap obj) a w:=by
 have hM1:=hM.move hid (by rw[hS.look];exact hl) hnr;have hS1:=(((hS.purge o (o+1)).purge id (id+1)).addO id (hS.lookmem hl)).put (d:=some n) (fun k e=>by cases e;exact hn) (.psl id sz off k cap);refine⟨x.newO id (x.bk o).1 (x.bk o).2,_, ?_,hS1⟩
 have hv:Rep x (.psl o sz off k cap) (a.tmps.toList.getD n Go.undef):=by have:=hM.tm.2 n (by rw[hS.tm];simpa using hn);rw[show s.tm.getD n .undef=c.get n from hS.get n,hg]at this;exact this
 obtain⟨cap',h1,h2,off',he,h3,h4⟩:=hv.psl_invA;refine hM1.retag n ?_;rw[he];have hd2:(x.newO id (x.bk o).1 (x.bk o).2).bk id=x.bk o:=if_pos rfl;have:=Rep.psl (x:=x.newO id (x.bk o).1 (x.bk o).2) id sz off k cap off' cap' h3 h1 h2 (by rw[hd2];exact h4);rw[hd2]at this;exact this
theorem wC(h:M C N c a w){n id:Nat}(hid:100<=id)(hc:XC c n id (c.get n)=some c'):M C N c' a w:=by
 obtain⟨x,s,hM,hS⟩:=h;cases hg:c.get n with
 |psl o sz off k cap=>
  rw[hg]at hc
  have hn:n<N:=by
   rcases bH n N with h|h
   ·exact h
   ·rw[hS.inv.get h]at hg;cases hg
  simp only[XC]at hc;split at hc
  ·cases hc;exact⟨x,s,hM,hS⟩
  ·cases hl:c.look o with
   |none=>rw[hl]at hc;cases hc;exact⟨x,s,hM,hS⟩
   |some obj=>
    rw[hl]at hc;cases obj with
    |rc cs=>cases hc;exact⟨x,s,hM,hS⟩
    |arr sz' xs=>cases hc;exact uH hM hS hn hid hg hl (fun cs e=>by cases e)
    |bar l=>cases hc;exact uH hM hS hn hid hg hl (fun cs e=>by cases e)
 |_=>rw[hg]at hc;cases hc;exact⟨x,s,hM,hS⟩
theorem oN(h:M C N c a w){q:Dir}(hc:qk c q=some c'):M C N c' a w:=by
 cases q with
 |kill l=>cases hc;exact h.kill l
 |gc l=>cases hc;exact h.gc
 |gcr lo hi=>cases hc;exact h.purge lo hi
 |pubo o=>cases hc;exact h.pub _
 |pub n=>
  simp only[qk]at hc;split at hc<;>cases hc
  ·exact h.pub _
  ·exact h
 |tok n id=>
  simp only[qk]at hc;split at hc
  ·cases hc
  ·exact vI h hc
 |obj n id=>
  simp only[qk]at hc;split at hc
  ·cases hc
  ·exact wC h (by omega) hc
theorem jO:∀{l:List Dir}{c:CSt},M C N c a w->im c l=some c'->M C N c' a w
 |[],_,h,hc=>by cases hc;exact h
 |q::r,c,h,hc=>by
  simp only[im]at hc;split at hc
  ·rename_i c1 h1;exact jO (oN h h1) hc
  ·cases hc
end Go.Sy
namespace Go.Sy
variable [aZ]
variable {P : Program} {C : Ctx} {x : Sit} {a : Act} {w : World} {N : Nat} {c c' : CSt} {s : St}
def kA(P:Program)(f:Nat)(args:List SV)(os:List aB)(k:Nat)(R:ej->Prop):Prop:=
 ec P f=true/\∀(C:Ctx)(x:Sit)(w:World)(vs:List Value),C.w0=w->C.G0=x.G->
  (∀b,C.mine b->w.heap.size<=b\/(∃i,i<os.length/\(x.bk i).1=b)\/(∃t,50<=t/\t<50+k/\(x.τ t).2.1≠(x.τ t).2.2/\(x.τ t).1=b))->os.length<=40->
  (∀o∈os,o.wf=true)->cR C x (idx os) (tks 50 k) w->cr x args vs->
  Calls P f ⟨vs⟩ w fun e w'=>∃v x' q,e= .returned v/\R q/\Rep x' q.r v/\cR C x' q.os q.tk w'/\(∀p∈q.os,p.2.wf=true)/\∀i,i<os.length->x'.bk i=x.bk i
theorem kg(cs:List SV):SV.bareL cs=cs.map SV.bare:=by
 induction cs with
 |nil=>rfl
 |cons c r ih=>simp only[SV.bareL,aE,ih]
theorem Rep.bare{x x':Sit}(hG:x'.G=x.G)(hβ:x'.bk=x.bk){sv:SV}{v:Value}(h:Rep x sv v):Rep x' sv.bare v:=by
 induction h with
 |undef v=>exact .undef v
 |dat s v h ht=>
  have h':=h.toData;rw[<-hG]at h';cases s with
  |byt l t=>exact .dat _ _ h' trivial
  |lst sz xs t=>exact .dat _ _ h' trivial
  |undef=>exact .undef v
  |bool b=>exact .dat _ _ h' trivial
  |int k n=>exact .dat _ _ h' trivial
  |u8 b=>exact .dat _ _ h' trivial
  |str l=>exact .dat _ _ h' trivial
  |nilp=>exact .dat _ _ h' trivial
  |nili=>exact .dat _ _ h' trivial
  |pp cs=>exact .dat _ _ h' trivial
  |ptr o off=>cases h
  |ap o sz i j=>cases h
  |psl o sz off n cap=>cases h
  |agg cs=>cases h
  |tup cs=>cases h
  |fn f a b=>cases h
 |ptr o off=>simp only[SV.bare];rw[<-hβ];exact .ptr o off
 |ap o sz i j=>simp only[SV.bare];rw[<-hβ];exact .ap o sz i j
 |psl o sz off n cap off' cap' h hn hc hk=>simp only[SV.bare];rw[<-hβ]at hk ⊢;exact .psl o sz off n cap off' cap' h hn hc hk
 |agg cs vs hl _ ih=>simp only[SV.bare,kg];exact .agg _ _ (by simpa using hl) fun i hi=>by rw[aT _ (by rfl)];exact ih i (by simpa using hi)
 |tup cs vs hl _ ih=>simp only[SV.bare,kg];exact .tup _ _ (by simpa using hl) fun i hi=>by rw[aT _ (by rfl)];exact ih i (by simpa using hi)
 |fn f c1 c2 v1 v2 hl1 _ hl2 _ ih1 ih2=>simp only[SV.bare,kg];exact .fn _ _ _ _ _ (by simpa using hl1) (fun i hi=>by rw[aT _ (by rfl)];exact ih1 i (by simpa using hi)) (by simpa using hl2) (fun i hi=>by rw[aT _ (by rfl)];exact ih2 i (by simpa using hi))
def NM(x:Sit):Option Nat->Nat×Nat×Nat
 |none=>(0,0,0)
 |some t=>x.τ t
def nK(x x1:Sit)(j:Nat)(l:List (Option Nat)):Prop:=∀k,k<l.length->x1.τ (j+k)=NM x (l.getD k none)
theorem nK.left{x x1:Sit}{j:Nat}{l r:List (Option Nat)}(h:nK x x1 j (l++r)):nK x x1 j l:=fun k hk=>by have:=h k (by simp;omega);rwa[aa,bg hk,<-aa]at this
theorem nK.right{x x1:Sit}{j:Nat}{l r:List (Option Nat)}(h:nK x x1 j (l++r)):nK x x1 (j+l.length) r:=fun k hk=>by have:=h (l.length+k) (by simp;omega);rw[aa,bA (by omega),<-aa]at this;rw[ft,this];congr 2;omega
theorem kt{t:Nat}:∀{l:List (Option Nat)},t∈cu l↔some t∈l
 |[]=>by simp[cu]
 |none::r=>by simp[cu,kt]
 |some u::r=>by simp[cu,kt]
theorem fz(l r:List (Option Nat)):cu (l++r)=cu l++cu r:=by
 induction l with
 |nil=>rfl
 |cons o l ih=>cases o<;>simp[cu,ih]
theorem Dk{x x1:Sit}(hG:x1.G=x.G)(hβ:x1.bk=x.bk){v:SV}{u:Value}(h:Rep x v u):Rep x1 v.kclip u:=by
 have hb:=h.bare hG hβ;cases v with
 |lst sz xs t=>
  cases t with
  |no=>exact hb
  |id u=>exact hb
  |clip=>
   cases xs with
   |cons y r=>exact hb
   |nil=>obtain⟨b,cap,he,_,hD,hsp⟩:=h.lst_inv;obtain⟨a',n',he'⟩:=hsp;rw[<-hG]at hD;exact .dat _ _ (hD.tok (.lst _ [] .clip) (.inr ⟨_,[],_,_,rfl,rfl⟩)) ⟨a',n',he'⟩
 |byt l t=>
  cases t with
  |no=>exact hb
  |id u=>exact hb
  |clip=>
   cases l with
   |cons y r=>exact hb
   |nil=>obtain⟨b,cap,he,_,hD,hsp⟩:=h.byt_inv;obtain⟨a',n',he'⟩:=hsp;rw[<-hG]at hD;exact .dat _ _ (hD.tok (.byt [] .clip) (.inl ⟨[],_,_,rfl,rfl⟩)) ⟨a',n',he'⟩
 |_=>exact hb
theorem wH{x x1:Sit}(hG:x1.G=x.G)(hβ:x1.bk=x.bk){cs:List SV}{u:Value}(h:Rep x (.agg cs) u):Rep x1 (.agg (cs.map SV.kclip)) u:=by
 cases h with
 |dat _ _ h _=>cases h
 |agg _ vs hl h=>
  refine .agg _ vs (by rw[aY];exact hl) fun i hi=> ?_
  rw[aY]at hi;have h1:=Dk hG hβ (h i hi);rw[aa,ab hi,bf]at h1;rw[aa,aP,ab hi,bo,bf];exact h1
theorem jW{x x1:Sit}(hG:x1.G=x.G)(hβ:x1.bk=x.bk){tk:List Nat}{j:Nat}{v:SV}{u:Value}(h:Rep x v u)(ht:nK x x1 j (jC tk j v).2):Rep x1 (jC tk j v).1 u:=by
 have hb:=h.bare hG hβ;cases v with
 |byt l t=>
  cases t with
  |no=>exact hb
  |clip=>have e:=ht 0 (by simp[jC]);obtain⟨b,cap,he,_,hD,hsp⟩:=h.byt_inv;obtain⟨a',n',he'⟩:=hsp;rw[<-hG]at hD;exact .dat _ _ (hD.tok (.byt l (.id j)) (.inl ⟨l,_,_,rfl,rfl⟩)) ⟨a',n',n',he',.inl rfl⟩
  |id t=>
   by_cases hc:tk.contains t=true
   ·have e:=ht 0 (by simp only[jC,hc,if_true,ax];omega)
    simp only[jC,hc,if_true]at e ⊢;obtain⟨b,cap,he,_,hD,hsp⟩:=h.byt_inv;obtain⟨a',n',cap',he',hh⟩:=hsp;rw[<-hG]at hD;refine .dat _ _ (hD.tok (.byt l (.id j)) (.inl ⟨l,_,_,rfl,rfl⟩)) ⟨a',n',cap',he',hh.imp id ?_⟩;rintro⟨b,off,h1,h2⟩;exact⟨b,off,h1,by rw[fj]at e;rw[e];exact h2⟩
   ·simp only[jC,hc,if_false];exact hb
 |lst sz xs t=>
  cases t with
  |no=>exact hb
  |clip=>obtain⟨b,cap,he,_,hD,hsp⟩:=h.lst_inv;obtain⟨a',n',he'⟩:=hsp;rw[<-hG]at hD;exact .dat _ _ (hD.tok (.lst sz xs (.id j)) (.inr ⟨sz,xs,_,_,rfl,rfl⟩)) ⟨a',n',n',he',.inl rfl⟩
  |id t=>
   by_cases hc:tk.contains t=true
   ·have e:=ht 0 (by simp only[jC,hc,if_true,ax];omega)
    simp only[jC,hc,if_true]at e ⊢;obtain⟨b,cap,he,_,hD,hsp⟩:=h.lst_inv;obtain⟨a',n',cap',he',hh⟩:=hsp;rw[<-hG]at hD;refine .dat _ _ (hD.tok (.lst sz xs (.id j)) (.inr ⟨sz,xs,_,_,rfl,rfl⟩)) ⟨a',n',cap',he',hh.imp id ?_⟩;rintro⟨b,off,h1,h2⟩;exact⟨b,off,h1,by rw[fj]at e;rw[e];exact h2⟩
   ·simp only[jC,hc,if_false];exact hb
 |agg cs=>exact wH hG hβ h
 |_=>exact hb
theorem nQ{tk:List Nat}{j:Nat}{v:SV}:∀t∈cu (jC tk j v).2,t∈tk:=by
 intro t ht;cases v with
 |byt l q=>
  cases q with
  |id u=>
   by_cases hc:tk.contains u=true
   ·simp only[jC,hc,if_true,cu,aN]at ht;subst ht;simpa using hc
   ·simp only[jC,hc,if_false,cu]at ht;cases ht
  |_=>cases ht
 |lst sz xs q=>
  cases q with
  |id u=>
   by_cases hc:tk.contains u=true
   ·simp only[jC,hc,if_true,cu,aN]at ht;subst ht;simpa using hc
   ·simp only[jC,hc,if_false,cu]at ht;cases ht
  |_=>cases ht
 |_=>cases ht
theorem dQ{x:Sit}{v:SV}{u:Value}{cs:List SV}{us:List Value}:cr x (v::cs) (u::us)↔Rep x v u/\cr x cs us:=by
 constructor
 ·intro h
  exact⟨h.2 0 (by simp),by simpa using h.1,fun i hi=>by simpa using h.2 (i+1) (by simpa using hi)⟩
 ·rintro⟨h1,h2⟩
  exact⟨by simp[h2.1],fun i hi=>by
   cases i with
   |zero=>exact h1
   |succ i=>simpa using h2.2 i (by simpa using hi)⟩
theorem ED{x x1:Sit}(hG:x1.G=x.G)(hβ:x1.bk=x.bk){tk:List Nat}{j:Nat}{v:SV}{u:Value}(h:Rep x v u)(ht:nK x x1 j (qJ tk j v).2):Rep x1 (qJ tk j v).1 u:=by
 cases v with
 |lst sz xs t=>
  cases t with
  |clip=>
   cases hx:xs.isEmpty with
   |true=>simp only[qJ,tg,hx,th];obtain⟨b,cap,he,_,hD,hsp⟩:=h.lst_inv;rw[<-hG]at hD;exact .dat _ _ hD hsp
   |false=>simp only[qJ,tg,hx,th]at ht ⊢;exact jW (tk:=tk) hG hβ h ht
  |no=>exact jW hG hβ h ht
  |id t=>exact jW hG hβ h ht
 |_=>exact jW hG hβ h ht
theorem O1{tk:List Nat}{j:Nat}{v:SV}:∀t∈cu (qJ tk j v).2,t∈tk:=by
 cases v with
 |lst sz xs t=>
  cases t with
  |clip=>
   cases hx:xs.isEmpty with
   |true=>intro t ht;simp[qJ,tg,hx,th,cu]at ht
   |false=>intro t ht;simp[qJ,tg,hx,th,cu]at ht
  |no=>exact nQ
  |id t=>exact nQ
 |_=>exact nQ
theorem lC{x x1:Sit}(hG:x1.G=x.G)(hβ:x1.bk=x.bk){tk own:List Nat}:∀{cs:List SV}{us:List Value}{j i:Nat},cr x cs us->nK x x1 j (jD tk own j i cs).2->cr x1 (jD tk own j i cs).1 us
 |[],[],_,_,_,_=>⟨rfl,fun i hi=>by simp[jD]at hi⟩
 |[],_::_,_,_,h,_=>absurd h.1 (by simp)
 |_::_,[],_,_,h,_=>absurd h.1 (by simp)
 |v::r,u::us,j,i,h,ht=>by
  obtain⟨h1,h2⟩:=dQ.1 h;simp only[jD]at ht ⊢;split
  ·rename_i hc
   rw[if_pos hc]at ht;exact dQ.2 ⟨ED hG hβ h1 ht.left,lC hG hβ h2 ht.right⟩
  ·rename_i hc
   rw[if_neg hc]at ht;exact dQ.2 ⟨h1.bare hG hβ,lC hG hβ h2 ht⟩
theorem nR{tk own:List Nat}:∀{cs:List SV}{j i:Nat},∀t∈cu (jD tk own j i cs).2,t∈tk
 |[],_,_,t,ht=>by cases ht
 |v::r,j,i,t,ht=>by
  simp only[jD]at ht;split at ht
  ·rw[fz,ak]at ht
   exact ht.elim (O1 t) (nR t)
  ·exact nR t ht
theorem ui{x x1:Sit}(hG:x1.G=x.G)(hβ:x1.bk=x.bk){tk:List Nat}:∀{cs:List SV}{j:Nat}{f:Nat->Value},(∀k,k<cs.length->Rep x (cs.getD k .undef) (f k))->nK x x1 j (rP tk j cs).2->
 (rP tk j cs).1.length=cs.length/\∀k,k<cs.length->Rep x1 ((rP tk j cs).1.getD k .undef) (f k)
 |[],_,_,_,_=>⟨rfl,fun i hi=>by simp at hi⟩
 |v::r,j,f,h,ht=>by
  simp only[rP]at ht ⊢;obtain⟨h1,h2⟩:=ui (f:=fun k=>f (k+1)) hG hβ (fun k hk=>by simpa using h (k+1) (by simpa using hk)) ht.right;refine⟨by simp[h1],fun k hk=> ?_⟩;cases k with
  |zero=>exact jW hG hβ (h 0 (by simp)) ht.left
  |succ k=>simpa using h2 k (by simpa using hk)
theorem zG{tk:List Nat}:∀{cs:List SV}{j:Nat},∀t∈cu (rP tk j cs).2,t∈tk
 |[],_,t,ht=>by cases ht
 |v::r,j,t,ht=>by simp only[rP]at ht;rw[fz,ak]at ht;exact ht.elim (nQ t) (zG t)
theorem CI{x x1:Sit}(hG:x1.G=x.G)(hβ:x1.bk=x.bk){tk:List Nat}{j o:Nat}{ob:aB}(h:dC x w o ob)(ht:nK x x1 j (jp tk j ob).2):dC x1 w o (jp tk j ob).1:=by
 obtain⟨cc,e,fl,fh,hO,hs,hr⟩:=h;cases ob with
 |rc cs=>obtain⟨h1,h2⟩:=ui (f:=fun k=>cc.getD k Go.undef) hG hβ hr ht;exact⟨cc,e,fl,fh,by rw[hβ];exact hO,by rw[hβ];simp only[jp,aB.size,h1]at hs ⊢;exact hs,fun k hk=>h2 k (by simpa only[jp,aB.size,h1]using hk)⟩
 |arr sz xs=>exact⟨cc,e,fl,fh,by rw[hβ];exact hO,by rw[hβ];exact hs,fun k hk=>by have:=hr k hk;simp only[jp,bY]at this ⊢;rw[hG];exact this⟩
 |bar l=>exact⟨cc,e,fl,fh,by rw[hβ];exact hO,by rw[hβ];exact hs,fun k hk=>by have:=hr k hk;simp only[jp,bY]at this ⊢;rw[hG];exact this⟩
theorem EE{tk:List Nat}{j:Nat}{ob:aB}(h:ob.wf=true):(jp tk j ob).1.wf=true:=by cases ob<;>first|rfl|exact h
theorem EF{tk:List Nat}{j:Nat}{ob:aB}:∀t∈cu (jp tk j ob).2,t∈tk:=by
 intro t ht;cases ob with
 |rc cs=>exact zG t ht
 |_=>cases ht
theorem kV{x x1:Sit}(hG:x1.G=x.G)(hβ:x1.bk=x.bk){tk:List Nat}:∀{obs:List aB}{j:Nat}{f:Nat->Nat},(∀k,k<obs.length->dC x w (f k) (obs.getD k (.rc [])))->nK x x1 j (dX tk j obs).2->
 (dX tk j obs).1.length=obs.length/\∀k,k<obs.length->dC x1 w (f k) ((dX tk j obs).1.getD k (.rc []))
 |[],_,_,_,_=>⟨rfl,fun i hi=>by simp at hi⟩
 |v::r,j,f,h,ht=>by
  simp only[dX]at ht ⊢;obtain⟨h1,h2⟩:=kV (f:=fun k=>f (k+1)) hG hβ (fun k hk=>by simpa using h (k+1) (by simpa using hk)) ht.right;refine⟨by simp[h1],fun k hk=> ?_⟩;cases k with
  |zero=>exact CI hG hβ (h 0 (by simp)) ht.left
  |succ k=>simpa using h2 k (by simpa using hk)
theorem mh{tk:List Nat}:∀{obs:List aB}{j:Nat},∀t∈cu (dX tk j obs).2,t∈tk
 |[],_,t,ht=>by cases ht
 |v::r,j,t,ht=>by simp only[dX]at ht;rw[fz,ak]at ht;exact ht.elim (EF t) (mh t)
theorem mg{tk:List Nat}:∀{obs:List aB}{j:Nat},(∀o∈obs,o.wf=true)->∀o∈(dX tk j obs).1,o.wf=true
 |[],_,_,o,ho=>by cases ho
 |v::r,j,h,o,ho=>by
  simp only[dX]at ho;rcases am.1 ho with e|e
  ·rw[e];exact EE (h v (az ..))
  ·exact mg (fun o h'=>h o (ao _ h')) o e
theorem l7{m:List Nat}{o:Nat}(h:o∈m):gC m o<m.length/\m.getD (gC m o) 0=o:=by
 induction m with
 |nil=>cases h
 |cons p r ih=>
  simp only[gC];split
  ·rename_i hp;subst hp;simp
  ·rename_i hp
   obtain⟨h1,h2⟩:=ih ((am.1 h).resolve_left (Ne.symm hp));exact⟨by simpa using h1,by simpa using h2⟩
theorem i7{l:List Nat}(h:dx l=true):l.Nodup:=by
 induction l with
 |nil=>exact List.nodup_nil
 |cons p r ih=>simp only[dx,ay,dz,eP,decide_eq_false_iff_not]at h;exact ed.2 ⟨h.1,ih h.2⟩
theorem uj{l r:List Nat}(h:nT l r=true):∀o∈l,o∈r:=by intro o ho;simp only[nT,aR,eP,decide_eq_true_eq]at h;exact h o ho
theorem pm:∀{m:List Nat}{os:List aB},gx c m=some os->os.length=m.length/\∀i,i<m.length->c.look (m.getD i 0)=some (os.getD i (.rc []))
 |[],os,h=>by cases h;exact⟨rfl,fun i hi=>by simp at hi⟩
 |o::r,os,h=>by
  simp only[gx]at h;split at h<;>cases h;rename_i ob l h1 h2;obtain⟨h3,h4⟩:=pm h2;refine⟨by simp[h3],fun i hi=> ?_⟩;cases i with
  |zero=>exact h1
  |succ i=>simpa using h4 i (by simpa using hi)
theorem gg(mo mt:Nat->Nat)(l:List aB):ee mo mt l=l.map fun o=>o.ren mo mt:=by
 induction l with
 |nil=>rfl
 |cons p r ih=>simp only[ee,aE,ih]
theorem oz{l:List aB}{o:aB}(h:o∈l):∀k∈o.ids,k∈fD l:=by
 induction l with
 |nil=>cases h
 |cons p r ih=>
  intro k hk;simp only[fD,ak];rcases am.1 h with e|e
  ·subst e;exact .inl hk
  ·exact .inr (ih e k hk)
theorem mJ{l:List (Option Nat)}(h:(cu l).Nodup):∀{i j:Nat}{t u:Nat},i≠j->l.getD i none=some t->l.getD j none=some u->t≠u:=by
 have key:∀{l:List (Option Nat)},(cu l).Nodup->∀{i j:Nat}{t u:Nat},i<j->l.getD i none=some t->l.getD j none=some u->t≠u:=by
  intro l;induction l with
  |nil=>intro _ i j t u _ h1;simp at h1
  |cons o r ih=>
   intro hn i j t u hij h1 h2
   have hr:(cu r).Nodup:=by cases o with
    |none=>exact hn
    |some q=>exact(ed.1 hn).2
   cases j with
   |zero=>omega
   |succ j=>
    rw[b9]at h2;cases i with
    |zero=>
     rw[bO]at h1;subst h1
     have h3:some u∈r:=by
      rw[aa]at h2;cases hj:r[j]? with
      |none=>rw[hj]at h2;cases h2
      |some q=>rw[hj]at h2;cases h2;exact List.mem_of_getElem? hj
     intro e;subst e;exact(ed.1 hn).1 (kt.2 h3)
    |succ i=>rw[b9]at h1;exact ih hr (by omega) h1 h2
 intro i j t u hij h1 h2;rcases Nat.lt_or_gt_of_ne hij with h3|h3
 ·exact key h h3 h1 h2
 ·exact(key h h3 h2 h1).symm
theorem jm{b n t:Nat}:t∈tks b n↔b<=t/\t<b+n:=by
 unfold tks
 have:∀n k,k∈jU n↔k<n:=by
  intro n;induction n with
  |zero=>intro k;simp[jU]
  |succ n ih=>intro k;simp only[jU,ak,ih,aN];omega
 simp only[aS,this];constructor
 ·rintro⟨k,h,rfl⟩;omega
 ·rintro⟨h1,h2⟩;exact⟨t-b,by omega,by omega⟩
structure Em(x x2:Sit)(c:CSt)(m:List Nat)(mt:List (Option Nat)):Prop where
 G:x2.G=x.G
 bk:∀i,i<m.length->x2.bk i=x.bk (m.getD i 0)
 τ:nK x x2 50 mt
 nd:m.Nodup
 ob:∀i,i<m.length->∃ob,(m.getD i 0,ob)∈c.ob
 tnd:(cu mt).Nodup
 tk:∀t∈cu mt,t∈c.tk
def Ctx.took(x2:Sit)(w:World)(n k:Nat):Ctx:=
 ⟨w,x2.G,fun b=>w.heap.size<=b\/(∃i,i<n/\(x2.bk i).1=b)\/(∃t,50<=t/\t<50+k/\(x2.τ t).2.1≠(x2.τ t).2.2/\(x2.τ t).1=b),x2.bk⟩
theorem fL{m:List Nat}{i:Nat}(h:i<m.length):m.getD i 0∈m:=by rw[aa,ab h];exact bj _
theorem lc{m:List Nat}(h:m.Nodup){i j:Nat}(hi:i<m.length)(hj:j<m.length)(e:m.getD i 0=m.getD j 0):i=j:=by rw[aa,aa,ab hi,ab hj]at e;exact qR h hi hj e
theorem iv{l:List (Option Nat)}{i t:Nat}(h:l.getD i none=some t):t∈cu l:=by
 rw[aa]at h;cases hj:l[i]? with
 |none=>rw[hj]at h;cases h
 |some q=>rw[hj]at h;cases h;exact kt.2 (List.mem_of_getElem? hj)
theorem Em.tok{x2:Sit}{m:List Nat}{mt:List (Option Nat)}(h:Em x x2 c m mt){t:Nat}(h1:50<=t)(h2:t<50+mt.length):
 (x2.τ t).2.1=(x2.τ t).2.2\/∃u,mt.getD (t-50) none=some u/\x2.τ t=x.τ u/\u∈c.tk/\u∈cu mt:=by
 have e:=h.τ (t-50) (by omega);rw[show 50+(t-50)=t by omega]at e;cases hu:mt.getD (t-50) none with
 |none=>rw[hu]at e;rw[e];exact .inl rfl
 |some u=>rw[hu]at e;exact .inr ⟨u,rfl,e,h.tk u (iv hu),iv hu⟩
theorem qI{x2:Sit}{m:List Nat}{mt:List (Option Nat)}(hH:cR C x c.ob c.tk w)(h:Em x x2 c m mt){objs:List aB}(hl:objs.length=m.length)
 (ho:∀i,i<m.length->dC x2 w i (objs.getD i (.rc []))):cR (Ctx.took x2 w m.length mt.length) x2 (idx objs) (tks 50 mt.length) w:=by
 refine⟨fun b o v hv=>hH.per b o v (by rw[<-h.G];exact hv),fun _ _ _ hv=>hv,fun _ _ _ hv=> .inl hv,fun b hb=> .inl hb, ?_,ml objs, ?_, ?_, ?_, ?_,rfl,rfl,rfl,aL _,fun _ _=>rfl,fun _ _=>rfl,hH.lay.mono (fun b o v hv=>by show x2.G b o=some v;rw[h.G];exact hH.g0 b o v hv)⟩
 ·intro p hp
  obtain⟨h1,h2⟩:=iC.1 hp;rw[hl]at h1;obtain⟨ob,h3⟩:=h.ob p.1 h1;refine⟨by rw[h2];exact ho p.1 h1,.inr (.inl ⟨p.1,h1,rfl⟩),fun off=> ?_⟩;rw[h.G,h.bk _ h1];exact(hH.obs _ h3).2.2 off
 ·intro p hp q hq hpq
  obtain⟨h1,_⟩:=iC.1 hp;obtain⟨h2,_⟩:=iC.1 hq;rw[hl]at h1 h2;rw[h.bk _ h1,h.bk _ h2]at hpq;obtain⟨o1,g1⟩:=h.ob _ h1;obtain⟨o2,g2⟩:=h.ob _ h2;exact lc h.nd h1 h2 (hH.inj _ g1 _ g2 hpq)
 ·intro t ht
  obtain⟨h1,h2⟩:=jm.1 ht;rcases h.tok h1 h2 with h3|⟨u,_,h4,h5,_⟩
  ·exact .inl h3
  ·by_cases hne:(x2.τ t).2.1=(x2.τ t).2.2
   ·exact .inl hne
   ·have:=hH.tks u h5
    unfold gT at this ⊢;rw[h4]at hne ⊢;rcases this with g|⟨g1,g2,g3⟩
    ·exact absurd g hne
    ·exact .inr ⟨g1,.inr (.inr ⟨t,h1,h2,by rw[h4];exact hne,by rw[h4]⟩),by rw[h.G];exact g3⟩
 ·intro t ht p hp
  obtain⟨h1,h2⟩:=jm.1 ht;obtain⟨h6,_⟩:=iC.1 hp;rw[hl]at h6;rcases h.tok h1 h2 with h3|⟨u,_,h4,h5,_⟩
  ·exact .inr h3
  ·obtain⟨o1,g1⟩:=h.ob _ h6
   rw[h4,h.bk _ h6];exact hH.tko u h5 _ g1
 ·intro t ht u hu htu
  obtain⟨h1,h2⟩:=jm.1 ht;obtain⟨h3,h4⟩:=jm.1 hu;rcases h.tok h1 h2 with g|⟨t',g1,g2,g3,_⟩
  ·exact .inr (.inl g)
  ·rcases h.tok h3 h4 with k|⟨u',k1,k2,k3,_⟩
   ·exact .inr (.inr k)
   ·rw[g2,k2]
    exact hH.tkd t' g3 u' k3 (mJ h.tnd (by omega) g1 k1)
end Go.Sy
namespace Go.Sy
variable [aZ]
variable {P : Program} {C : Ctx} {x : Sit} {a : Act} {w : World} {N : Nat} {c c' : CSt} {s : St}
theorem E7(d:Nat)(l:List Nat):qu d l=l.map (jl d):=by
 induction l with
 |nil=>rfl
 |cons p r ih=>simp only[qu,aE,ih]
theorem mn{k:List Nat}{t:Nat}:∀{l:List Nat},t∈lU k l↔t∈l/\t∉k
 |[]=>by simp[lU]
 |p::r=>by
  simp only[lU];split
  ·rename_i hc
   have hp:p∈k:=by simpa using hc
   rw[mn,am];constructor
   ·rintro⟨h1,h2⟩;exact⟨.inr h1,h2⟩
   ·rintro⟨h1|h1,h2⟩
    ·exact absurd (h1 ▸ hp) h2
    ·exact⟨h1,h2⟩
  ·rename_i hc
   have hp:p∉k:=by simpa using hc
   rw[am,mn,am];constructor
   ·rintro(h1|⟨h1,h2⟩)
    ·exact⟨.inl h1,h1 ▸ hp⟩
    ·exact⟨.inr h1,h2⟩
   ·rintro⟨h1|h1,h2⟩
    ·exact .inl h1
    ·exact .inr ⟨h1,h2⟩
theorem qT{t:Nat}:∀{r l:List Nat},t∈qA l r↔t∈r\/t∈l
 |[],l=>by simp[qA]
 |p::r,l=>by
  simp only[qA];rw[qT,ka,am];constructor
  ·rintro(h|h|h)
   ·exact .inl (.inr h)
   ·exact .inl (.inl h)
   ·exact .inr h
  ·rintro((h|h)|h)
   ·exact .inr (.inl h)
   ·exact .inl h
   ·exact .inr (.inr h)
theorem mm{p:Nat×aB}:∀{r l:List (Nat×aB)},p∈qz l r->p∈r\/p∈l
 |[],l,h=> .inr h
 |q::r,l,h=>by
  simp only[qz]at h;rcases mm h with e|e
  ·exact .inl (ao _ e)
  ·rcases j0 e with e|e
   ·exact .inl (e ▸ az ..)
   ·exact .inr e
theorem zO:∀{r l:List (Nat×aB)},(l.map cA).Pairwise (· < ·)->((qz l r).map cA).Pairwise (· < ·)
 |[],_,h=>h
 |_::r,_,h=>zO (r:=r) (tn h)
theorem xH{mo mt:Nat->Nat}{o:aB}(h:o.wf=true):(o.ren mo mt).wf=true:=by cases o<;>first|rfl|exact h
theorem vF{x2:Sit}{m:List Nat}{mt:List (Option Nat)}(hold:cR C x c.ob c.tk w)(h:Em x x2 c m mt){x':Sit}{w':World}{q:ej}(hH:cR (Ctx.took x2 w m.length mt.length) x' q.os q.tk w'){D:Nat}
 (hm:∀o∈m,inR D o=false) (hos:∀p∈q.os,p.1<1000/\(∀k∈p.2.ids,k<1000)/\∀k∈p.2.toks,k<1000) (htk:∀t∈q.tk,t<1000) (hg:∀i,i<m.length->x'.bk i=x2.bk i):
 ∃x3:Sit,x3.G=x'.G/\(∀b o v,x.G b o=some v->x3.G b o=some v)/\(∀k,k<1000->x3.bk (ic D m k)=x'.bk k)/\(∀k,k<1000->x3.τ (jl D k)=x'.τ k)/\
  (∀k,¬((D+1)*1000<=k/\k<(D+2)*1000)->x3.bk k=x.bk k)/\(∀k,¬((D+1)*1000<=k/\k<(D+2)*1000)->x3.τ k=x.τ k)/\
  cR C x3 (oe D m q.os++eZ m (bx ((D+1)*1000) ((D+2)*1000) c.ob)) (qu D q.tk++lU (cu mt) (cw ((D+1)*1000) ((D+2)*1000) c.tk)) w':=by
 let lo:=(D+1)*1000
 let hi:=(D+2)*1000
 have hlo:lo=(D+1)*1000:=rfl;have hhi:hi=(D+2)*1000:=rfl
 let β2:Nat->Nat×Nat:=fun k=>if inR D k then x'.bk (k-lo)else x.bk k
 let τ2:Nat->Nat×Nat×Nat:=fun k=>if inR D k then x'.τ (k-lo)else x.τ k
 have hin:∀k,k<1000->inR D (lo+k)=true:=by intro k hk;simp only[inR,ay,decide_eq_true_eq];omega
 have hout:∀k,¬(lo<=k/\k<hi)->inR D k=false:=by intro k hk;rw[Bool.eq_false_iff];intro h;simp only[inR,ay,decide_eq_true_eq]at h;exact hk h
 have hβ2:∀k,¬(lo<=k/\k<hi)->β2 k=x.bk k:=fun k hk=>by simp only[β2];rw[hout k hk];rfl
 have hτ2:∀k,¬(lo<=k/\k<hi)->τ2 k=x.τ k:=fun k hk=>by simp only[τ2];rw[hout k hk];rfl
 have hβnew:∀k,k<1000->β2 (ic D m k)=x'.bk k:=by
  intro k hk
  by_cases hkm:k<m.length
  ·have h1:ic D m k=m.getD k 0:=if_pos hkm
   simp only[β2];rw[h1,hm _ (fL hkm),hg k hkm,h.bk k hkm];rfl
  ·have h1:ic D m k=lo+k:=if_neg hkm
   simp only[β2];rw[h1,hin k hk,if_pos rfl];congr 1;omega
 have hτnew:∀k,k<1000->τ2 (jl D k)=x'.τ k:=by intro k hk;have h1:jl D k=lo+k:=rfl;simp only[τ2];rw[h1,hin k hk,if_pos rfl];congr 1;omega
 have hG:∀b o v,x.G b o=some v->x'.G b o=some v:=fun b o v hv=>hH.g0 b o v (by show x2.G b o=_;rw[h.G];exact hv)
 refine⟨⟨x'.G,β2,τ2⟩,rfl,hG,hβnew,hτnew,hβ2,hτ2, ?_⟩;rw[uA,E7]
 have hmine:∀b,(Ctx.took x2 w m.length mt.length).mine b->C.mine b:=by
  rintro b (h1|⟨i,hi,rfl⟩|⟨t,h1,h2,h3,rfl⟩)
  ·exact hold.new b (cC hold.size h1)
  ·obtain⟨ob,hob⟩:=h.ob i hi
   rw[h.bk i hi];exact(hold.obs _ hob).2.1
  ·rcases h.tok h1 h2 with g|⟨u,_,g1,g2,_⟩
   ·exact absurd g h3
   ·rw[g1]at h3 ⊢
    rcases hold.tks u g2 with k|⟨_,k,_⟩
    ·exact absurd k h3
    ·exact k
 have hkeep:∀b,b<w.heap.size->(∀i,i<m.length->(x.bk (m.getD i 0)).1≠b)->(∀u∈cu mt,(x.τ u).2.1=(x.τ u).2.2\/(x.τ u).1≠b)->w'.heap[b]? =w.heap[b]? /\((∀off,x.G b off=none)->∀off,x'.G b off=none)/\
  (∀off,x.G b off=none->x'.G b off=none):=by
  intro b hb hne hnt
  have hnm:¬(Ctx.took x2 w m.length mt.length).mine b:=by
   rintro(h1|⟨i,hi,h1⟩|⟨t,h1,h2,h3,h4⟩)
   ·omega
   ·rw[h.bk i hi]at h1;exact hne i hi h1
   ·rcases h.tok h1 h2 with g|⟨u,_,g1,_,g3⟩
    ·exact h3 g
    ·rw[g1]at h3 h4
     rcases hnt u g3 with k|k
     ·exact h3 k
     ·exact k h4
  have one:∀off,x.G b off=none->x'.G b off=none:=by
   intro off ho;cases hg:x'.G b off with
   |none=>rfl
   |some v=>
    rcases hH.gm b off v hg with h1|h1
    ·change x2.G b off=some v at h1;rw[h.G,ho]at h1;cases h1
    ·exact absurd h1 hnm
  exact⟨hH.ext b hnm,fun h off=>one off (h off),one⟩
 have hlow:∀p∈eZ m (bx lo hi c.ob),∃ob,(p.1,ob)∈c.ob/\p.2=ob.purge lo hi/\¬(lo<=p.1/\p.1<hi)/\p.1∉m/\(∀i,i<m.length->(x.bk (m.getD i 0)).1≠(x.bk p.1).1)/\(∀u∈cu mt,(x.τ u).2.1=(x.τ u).2.2\/(x.τ u).1≠(x.bk p.1).1)/\(x.bk p.1).1<w.heap.size:=by
  intro p hp;obtain⟨h1,h2⟩:=ja.1 hp;obtain⟨h3,ob,h4,h5⟩:=ct h1;refine⟨ob,h4,h5,h3,h2,fun i hi e=> ?_,fun u hu=> ?_, ?_⟩
  ·obtain⟨ob',hob'⟩:=h.ob i hi
   have:=hold.inj _ hob' _ h4 e;simp only at this;apply h2;rw[<-this];exact fL hi
  ·exact(hold.tko u (h.tk u hu) _ h4).symm
  ·obtain⟨⟨c,e,fl,fh,hO,_⟩,_⟩:=hold.obs _ h4
   exact hO.lt
 have hnew:∀p∈q.os.map (fun p=>(ic D m p.1,p.2.ren (ic D m) (jl D))),∃r∈q.os,p=(ic D m r.1,r.2.ren (ic D m) (jl D))/\β2 p.1=x'.bk r.1:=by intro p hp;obtain⟨r,hr,rfl⟩:=aS.1 hp;exact⟨r,hr,rfl,hβnew _ (hos r hr).1⟩
 have hnewmine:∀r∈q.os,w.heap.size<=(x'.bk r.1).1\/(∃i,i<m.length/\(x.bk (m.getD i 0)).1=(x'.bk r.1).1)\/(∃u∈cu mt,(x.τ u).2.1≠(x.τ u).2.2/\(x.τ u).1=(x'.bk r.1).1):=by
  intro r hr;rcases (hH.obs r hr).2.1 with h1|⟨i,hi,h1⟩|⟨t,h1,h2,h3,h4⟩
  ·exact .inl h1
  ·exact .inr (.inl ⟨i,hi,by rw[<-h.bk i hi];exact h1⟩)
  ·rcases h.tok h1 h2 with g|⟨u,_,g1,_,g3⟩
   ·exact absurd g h3
   ·rw[g1]at h3 h4;exact .inr (.inr ⟨u,g3,h3,h4⟩)
 have htmine:∀t∈q.tk,(x'.τ t).2.1=(x'.τ t).2.2\/w.heap.size<=(x'.τ t).1\/(∃i,i<m.length/\(x.bk (m.getD i 0)).1=(x'.τ t).1)\/(∃u∈cu mt,(x.τ u).2.1≠(x.τ u).2.2/\(x.τ u).1=(x'.τ t).1):=by
  intro t ht;rcases hH.tks t ht with k|⟨_,k,_⟩
  ·exact .inl k
  ·right
   rcases k with h1|⟨i,hi,h1⟩|⟨t',h1,h2,h3,h4⟩
   ·exact .inl h1
   ·exact .inr (.inl ⟨i,hi,by rw[<-h.bk i hi];exact h1⟩)
   ·rcases h.tok h1 h2 with g|⟨u,_,g1,_,g3⟩
    ·exact absurd g h3
    ·rw[g1]at h3 h4;exact .inr (.inr ⟨u,g3,h3,h4⟩)
 have htold:∀t∈lU (cu mt) (cw lo hi c.tk),t∈c.tk/\¬(lo<=t/\t<hi)/\t∉cu mt:=fun t ht=>by obtain⟨h1,h2⟩:=mn.1 ht;obtain⟨h3,h4⟩:=bD.1 h1;exact⟨h3,h4,h2⟩
 have htblock:∀t∈c.tk,t∉cu mt->(x.τ t).2.1=(x.τ t).2.2\/((x.τ t).1<w.heap.size/\(∀i,i<m.length->(x.bk (m.getD i 0)).1≠(x.τ t).1)/\(∀u∈cu mt,(x.τ u).2.1=(x.τ u).2.2\/(x.τ u).1≠(x.τ t).1)):=by
  intro t ht hnt;rcases hold.tks t ht with h1|⟨⟨c,e,fl,fh,hO,_⟩,_⟩
  ·exact .inl h1
  ·by_cases he:(x.τ t).2.1=(x.τ t).2.2
   ·exact .inl he
   ·refine .inr ⟨hO.lt,fun i hi e'=> ?_,fun u hu=> ?_⟩
    ·obtain⟨ob,hob⟩:=h.ob i hi
     rcases hold.tko t ht _ hob with h1|h1
     ·exact h1 e'.symm
     ·exact he h1
    ·rcases hold.tkd u (h.tk u hu) t ht (fun e=>hnt (e ▸ hu))with k|k|k
     ·exact .inr k
     ·exact .inl k
     ·exact absurd k he
 refine⟨hH.per,fun b o v hv=>hG _ _ _ (hold.g0 b o v hv), ?_,hold.new, ?_, ?_, ?_, ?_, ?_, ?_,hH.os.trans hold.os,hH.tape.trans hold.tape,hH.output.trans hold.output,cC hold.size hH.size, ?_,fun i hi=>(hβ2 i (by omega)).trans (hold.pin i hi),hold.lay⟩
 ·intro b o v hv
  rcases hH.gm b o v hv with h1|h1
  ·exact hold.gm b o v (by rw[<-h.G];exact h1)
  ·exact .inr (hmine b h1)
 ·intro p hp
  rcases ak.1 hp with hp|hp
  ·obtain⟨r,hr,rfl,hb⟩:=hnew p hp
   obtain⟨h1,h2,h3⟩:=hH.obs r hr;refine⟨h1.renF (x2:=⟨x'.G,β2,τ2⟩) (fun _ _ _ h=>h) (hβnew _ (hos r hr).1) (fun k hk=>hβnew k ((hos r hr).2.1 k hk)) (fun t ht=>hτnew t ((hos r hr).2.2 t ht)), ?_,fun off=> ?_⟩
   ·show C.mine (β2 (ic D m r.1)).1;rw[hβnew _ (hos r hr).1];exact hmine _ h2
   ·show x'.G (β2 (ic D m r.1)).1 off=none;rw[hβnew _ (hos r hr).1];exact h3 off
  ·obtain⟨ob,h1,h2,h3,h4,h5,h6,h7⟩:=hlow p hp
   obtain⟨g1,g2,g3⟩:=hold.obs _ h1;obtain⟨k1,k2,_⟩:=hkeep _ h7 h5 h6;have hb:β2 p.1=x.bk p.1:=hβ2 _ h3;refine⟨?_,by show C.mine (β2 p.1).1;rw[hb];exact g2,fun off=>by show x'.G (β2 p.1).1 off=none;rw[hb];exact k2 g3 off⟩;rw[h2];exact dC.of_heap (x':=⟨x'.G,β2,τ2⟩) g1 k1 hG hβ2 hτ2 h3
 ·rw[cV,List.nodup_append]
  refine⟨?_, ?_, ?_⟩
  ·rw[List.map_map]
   have hnd':=gu.1 hH.nd;refine gu.2 (ey.imp_of_mem (fun{p r} hp hr hne=> ?_) hnd');intro e;simp only[Function.comp]at e;have:(x'.bk p.1).1=(x'.bk r.1).1:=by rw[<-hβnew _ (hos p hp).1,<-hβnew _ (hos r hr).1,e]
   exact hne (hH.inj p hp r hr this)
  ·have h1:(eZ m (bx lo hi c.ob)).Sublist (bx lo hi c.ob):=gP _ _
   refine vC.sublist (h1.map cA) ?_;rw[eG];exact hold.nd.filter _
  ·intro o1 h1 o2 h2 e
   subst e;obtain⟨p,hp,rfl⟩:=aS.1 h1;obtain⟨r,hr,hre⟩:=aS.1 h2;obtain⟨u,hu,rfl⟩:=aS.1 hp;obtain⟨ob,k1,k2,k3,k4,_⟩:=hlow r hr;simp only at hre
   by_cases hum:u.1<m.length
   ·apply k4;rw[hre];show ic D m u.1∈m;unfold ic;rw[if_pos hum];exact fL hum
   ·apply k3;rw[hre];show lo<=ic D m u.1/\ic D m u.1<hi
    unfold ic;rw[if_neg hum];have:=(hos u hu).1;omega
 ·intro p hp r hr hpr
  change (β2 p.1).1=(β2 r.1).1 at hpr;rcases ak.1 hp with hp|hp<;>rcases ak.1 hr with hr|hr
  ·obtain⟨p',hp',rfl,hb⟩:=hnew p hp
   obtain⟨r',hr',rfl,hb'⟩:=hnew r hr;rw[hb,hb']at hpr;have:=hH.inj p' hp' r' hr' hpr;simp only;rw[this]
  ·obtain⟨p',hp',rfl,hb⟩:=hnew p hp
   obtain⟨ob,k1,k2,k3,k4,k5,k6,k7⟩:=hlow r hr;rw[hb,hβ2 _ k3]at hpr;rcases hnewmine p' hp' with h1|⟨i,hi,h1⟩|⟨u,hu,h1,h2⟩
   ·omega
   ·exact absurd (h1.trans hpr) (k5 i hi)
   ·rcases k6 u hu with g|g
    ·exact absurd g h1
    ·exact absurd (h2.trans hpr) g
  ·obtain⟨r',hr',rfl,hb⟩:=hnew r hr
   obtain⟨ob,k1,k2,k3,k4,k5,k6,k7⟩:=hlow p hp;rw[hb,hβ2 _ k3]at hpr;rcases hnewmine r' hr' with h1|⟨i,hi,h1⟩|⟨u,hu,h1,h2⟩
   ·omega
   ·exact absurd (h1.trans hpr.symm) (k5 i hi)
   ·rcases k6 u hu with g|g
    ·exact absurd g h1
    ·exact absurd (h2.trans hpr.symm) g
  ·obtain⟨ob,k1,k2,k3,_⟩:=hlow p hp
   obtain⟨ob',k1',k2',k3',_⟩:=hlow r hr;rw[hβ2 _ k3,hβ2 _ k3']at hpr;exact hold.inj (p.1,ob) k1 (r.1,ob') k1' hpr
 ·intro t ht
  rcases ak.1 ht with ht|ht
  ·obtain⟨u,hu,rfl⟩:=aS.1 ht
   have:=hH.tks u hu;unfold gT at this ⊢;simp only[hτnew u (htk u hu)];exact this.imp id fun⟨h1,h2,h3⟩=>⟨h1,hmine _ h2,h3⟩
  ·obtain⟨h1,h2,h3⟩:=htold t ht
   have:=hold.tks t h1;unfold gT at this ⊢;simp only[hτ2 t h2];rcases this with g|⟨⟨c,e,fl,fh,hO,hc⟩,h4,h5⟩
   ·exact .inl g
   ·rcases htblock t h1 h3 with g|⟨k1,k2,k3⟩
    ·exact .inl g
    ·obtain⟨g1,_,g2⟩:=hkeep _ k1 k2 k3
     exact .inr ⟨⟨c,e,fl,fh,hO.of_heap g1,hc⟩,h4,fun o ho1 ho2=>g2 o (h5 o ho1 ho2)⟩
 ·intro t ht p hp
  rcases ak.1 ht with ht|ht<;>rcases ak.1 hp with hp|hp
  ·obtain⟨u,hu,rfl⟩:=aS.1 ht
   obtain⟨r,hr,rfl,hb⟩:=hnew p hp;show(τ2 (jl D u)).1≠(β2 (ic D m r.1)).1\/(τ2 (jl D u)).2.1=(τ2 (jl D u)).2.2;rw[hτnew u (htk u hu),hβnew _ (hos r hr).1];exact hH.tko u hu r hr
  ·obtain⟨u,hu,rfl⟩:=aS.1 ht
   obtain⟨ob,k1,k2,k3,k4,k5,k6,k7⟩:=hlow p hp;show(τ2 (jl D u)).1≠(β2 p.1).1\/(τ2 (jl D u)).2.1=(τ2 (jl D u)).2.2;rw[hτnew u (htk u hu),hβ2 _ k3];rcases htmine u hu with g|g|⟨i,hi,g⟩|⟨v,hv,g1,g2⟩
   ·exact .inr g
   ·left;intro e;omega
   ·left;intro e;exact k5 i hi (g.trans e)
   ·left;intro e
    rcases k6 v hv with k|k
    ·exact g1 k
    ·exact k (g2.trans e)
  ·obtain⟨h1,h2,h3⟩:=htold t ht
   obtain⟨r,hr,rfl,hb⟩:=hnew p hp;show(τ2 t).1≠(β2 (ic D m r.1)).1\/(τ2 t).2.1=(τ2 t).2.2;rw[hτ2 t h2,hβnew _ (hos r hr).1];rcases htblock t h1 h3 with g|⟨k1,k2,k3⟩
   ·exact .inr g
   ·left;intro e
    rcases hnewmine r hr with g|⟨i,hi,g⟩|⟨v,hv,g1,g2⟩
    ·omega
    ·exact k2 i hi (g.trans e.symm)
    ·rcases k3 v hv with k|k
     ·exact g1 k
     ·exact k (g2.trans e.symm)
  ·obtain⟨h1,h2,h3⟩:=htold t ht
   obtain⟨ob,k1,k2,k3,_⟩:=hlow p hp;show(τ2 t).1≠(β2 p.1).1\/(τ2 t).2.1=(τ2 t).2.2;rw[hτ2 t h2,hβ2 _ k3];exact hold.tko t h1 (p.1,ob) k1
 ·intro t ht u hu htu
  show kT (τ2 t) (τ2 u)\/(τ2 t).2.1=(τ2 t).2.2\/(τ2 u).2.1=(τ2 u).2.2;rcases ak.1 ht with ht|ht<;>rcases ak.1 hu with hu|hu
  ·obtain⟨t',ht',rfl⟩:=aS.1 ht
   obtain⟨u',hu',rfl⟩:=aS.1 hu;rw[hτnew t' (htk t' ht'),hτnew u' (htk u' hu')];exact hH.tkd t' ht' u' hu' (fun e=>htu (by rw[e]))
  ·obtain⟨t',ht',rfl⟩:=aS.1 ht
   obtain⟨h1,h2,h3⟩:=htold u hu;rw[hτnew t' (htk t' ht'),hτ2 u h2];rcases htblock u h1 h3 with k|⟨k1,k2,k3⟩
   ·exact .inr (.inr k)
   ·rcases htmine t' ht' with g|g|⟨i,hi,g⟩|⟨v,hv,g1,g2⟩
    ·exact .inr (.inl g)
    ·exact .inl fun e=>by omega
    ·exact .inl fun e=>k2 i hi (g.trans e)
    ·refine .inl fun e=> ?_
     rcases k3 v hv with k|k
     ·exact g1 k
     ·exact k (g2.trans e)
  ·obtain⟨u',hu',rfl⟩:=aS.1 hu
   obtain⟨h1,h2,h3⟩:=htold t ht;rw[hτnew u' (htk u' hu'),hτ2 t h2];rcases htblock t h1 h3 with k|⟨k1,k2,k3⟩
   ·exact .inr (.inl k)
   ·rcases htmine u' hu' with g|g|⟨i,hi,g⟩|⟨v,hv,g1,g2⟩
    ·exact .inr (.inr g)
    ·exact .inl fun e=>by omega
    ·exact .inl fun e=>k2 i hi (g.trans e.symm)
    ·refine .inl fun e=> ?_
     rcases k3 v hv with k|k
     ·exact g1 k
     ·exact k (g2.trans e.symm)
  ·obtain⟨h1,h2,_⟩:=htold t ht
   obtain⟨h3,h4,_⟩:=htold u hu;rw[hτ2 t h2,hτ2 u h4];exact hold.tkd t h1 u h3 htu
 ·intro b hb
  have hnm:¬(Ctx.took x2 w m.length mt.length).mine b:=fun h=>hb (hmine b h)
  exact(hH.ext b hnm).trans (hold.ext b hb)
end Go.Sy
namespace Go.Sy
variable [aZ]
variable {P : Program} {C : Ctx} {x : Sit} {a : Act} {w : World} {N : Nat} {c c' : CSt} {s : St}
theorem vG(t:Tok):t.ren (fun k=>k)=t:=by cases t<;>rfl
theorem xac(sv:SV):sv.ren (fun k=>k) (fun k=>k)=sv:=by
 refine SV.rec (motive_1:=fun sv=>sv.ren (fun k=>k) (fun k=>k)=sv) (motive_2:=fun _=>True) (motive_3:=fun l=>SV.renL (fun k=>k) (fun k=>k) l=l)
  ?_ ?_ ?_ ?_ ?_ ?_ ?_ ?_ ?_ ?_ ?_ ?_ ?_ ?_ ?_ ?_ ?_ ?_ ?_ ?_ sv
 all_goals intros
 all_goals first
  |trivial
  |rfl
  |(simp only[SV.ren,SV.renL,vG];done)
  |(simp only[SV.ren,SV.renL, *])
theorem ZZ{q:ej}(h:q.small=true):(∀p∈q.os,p.1<1000/\(∀k∈p.2.ids,k<1000)/\∀k∈p.2.toks,k<1000)/\(∀k∈q.r.ids,k<1000)/\(∀k∈q.r.toks,k<1000)/\∀k∈q.tk,k<1000:=by simp only[ej.small,ay,aR,decide_eq_true_eq]at h;obtain⟨⟨⟨h1,h2⟩,h3⟩,h4⟩:=h;exact⟨fun p hp=>⟨(h1 p hp).1.1,(h1 p hp).1.2,(h1 p hp).2⟩,h2,h3,h4⟩
theorem mQ{d:Option Nat}{m:List Nat}{mt:List (Option Nat)}{q:ej}{x2 x':Sit}{w':World}{v:Value}(hM:aK C x s a w)(hS:Sim N c s)(hd:∀k,d=some k->k<N)(h:Em x x2 c m mt)
 (hH:cR (Ctx.took x2 w m.length mt.length) x' q.os q.tk w') (hr:Rep x' q.r v) (hwf:∀p∈q.os,p.2.wf=true) (hg:∀i,i<m.length->x'.bk i=x2.bk i) (hm:∀o∈m,inR (d.getD 0) o=false) (hs:q.small=true):
 M C N (jz c d m (cu mt) q) (a.put d v) w':=by
 obtain⟨s1,s2,s3,s4⟩:=ZZ hs;have hE:=hS.exact hM;obtain⟨x3,g1,g2,g3,g4,g5,g6,g7⟩:=vF hE.heap h hH hm s1 s4 hg
 let c3:CSt:=⟨df ((d.getD 0+1)*1000) ((d.getD 0+2)*1000) c.tm,qz (eZ m (bx ((d.getD 0+1)*1000) ((d.getD 0+2)*1000) c.ob)) (oe (d.getD 0) m q.os),
  qA (lU (cu mt) (cw ((d.getD 0+1)*1000) ((d.getD 0+2)*1000) c.tk)) (qu (d.getD 0) q.tk)⟩
 have hI:Inv N c3:=by
  refine⟨fun p hp=> ?_,zO ?_,fun p hp=> ?_⟩
  ·obtain⟨r,hr,e⟩:=i9 hp
   rw[e];exact hS.inv.dom r hr
  ·exact ey.sublist ((gP _ _).map cA) (um hS.inv.so)
  ·rcases mm hp with e|e
   ·rw[uA]at e
    obtain⟨r,hr,rfl⟩:=aS.1 e;exact xH (hwf r hr)
   ·obtain⟨_,ob,h1,h2⟩:=ct (ja.1 e).1
    rw[h2];exact o9 (hS.inv.wf _ h1)
 have hM3:aK C x3 (c3.st N) a w':=by
  refine⟨⟨?_,fun i hi=> ?_⟩,hM.defers,g7.only (fun p hp=> ?_) (iO hI.so) (fun t ht=> ?_)⟩
  ·have:=hE.tm.1;simpa[CSt.st]using this
  ·have hiN:i<N:=by simpa[CSt.st]using hi
   have h1:=hE.tm.2 i (by simpa[CSt.st]using hiN);simp only[CSt.st,aa,aP,cL hiN,bo,bf]at h1 ⊢;have e:c3.get i=(c.get i).purge ((d.getD 0+1)*1000) ((d.getD 0+2)*1000):=fY _ _ i c.tm;rw[e];exact h1.mono (x':=x3) g2 g5 g6
  ·rcases mm hp with e|e
   ·exact ak.2 (.inl e)
   ·exact ak.2 (.inr e)
  ·rcases qT.1 ht with e|e
   ·exact ak.2 (.inl e)
   ·exact ak.2 (.inr e)
 refine⟨x3,_,hM3.put d (c:=q.r.ren (ic (d.getD 0) m) (jl (d.getD 0))) ?_,(Sim.of hI).put hd _⟩;exact Rep.renF (x:=x') (x2:=x3) (fun b o v hv=>by rw[g1];exact hv) hr (fun k hk=>g3 k (s2 k hk)) (fun t ht=>g4 t (s3 t ht))
theorem wP{call:cX}{g:Nat}{d:Option Nat}{as:List SV}{vs:List Value}(hM:aK C x s a w)(hS:Sim N c s)(hd:∀k,d=some k->k<N)(hsp:∀as os k q,call g as os k=some q->kA P g as os k (· =q))
 (hc:lP c d (call g (SV.bareL as) [] 0)=some c') (hvs:cr x as vs):Calls P g ⟨vs⟩ w fun en w'=>∃v,en= .returned v/\M C N c' (a.put d v) w':=by
 cases hq:call g (SV.bareL as) [] 0 with
 |none=>rw[hq]at hc;cases hc
 |some q=>
  rw[hq]at hc
  have hb:cr x (SV.bareL as) vs:=by rw[kg];refine⟨by simpa using hvs.1,fun i hi=> ?_⟩;rw[aT _ (by rfl)];exact(hvs.2 i (by simpa using hi)).bare rfl rfl
  obtain⟨_,hS'⟩:=hsp _ _ _ _ hq
  by_cases hbare:q.bare=true
  ·simp only[lP,hbare,np,aq.injEq]at hc
   subst hc;have hcal:=ud (m:=[]) (os:=[]) (mo:=fun k=>k) (mt:=fun k=>k) hM (fun i hi=>by simp at hi) rfl (by simp) (fun i hi=>by simp at hi);refine(hS' (Ctx.callee x w [] (x.back (fun k=>k) (fun k=>k)).bk) x w vs rfl rfl ?_ (by simp) (by simp) hcal hb).mono ?_
   ·rintro b (h|⟨i,hi,_⟩)
    ·exact .inl h
    ·simp at hi
   ·rintro en w' ⟨v,x',q',rfl,hq',hr,hH,hwf,_⟩
    subst hq';simp only[ej.bare,ay,List.isEmpty_iff]at hbare;obtain⟨⟨⟨b1,b2⟩,b3⟩,b4⟩:=hbare
    obtain⟨hG,hA⟩:=wL (m:=[]) (os:=[]) (mo:=fun k=>k) (mt:=fun k=>k) (lo:=0) (hi:=0) (β2:=x.bk) (τ2:=x.τ) hM rfl (fun i hi=>by simp at hi) hH (fun i hi=>by simp at hi) (fun i hi=>by omega) (fun _ _=>rfl) (fun _ _=>rfl)
     (fun p hp=>by rw[b1]at hp;cases hp) (fun p hp=>by rw[b1]at hp;cases hp) (fun p hp=>by rw[b1]at hp;cases hp) (fun p hp=>by rw[b1]at hp;cases hp) (fun t ht=>by rw[b2]at ht;cases ht)
    have hA':cR C ⟨x'.G,x.bk,x.τ⟩ s.ob s.tk w':=by
     refine hA.only (fun p hp=> ?_) hM.heap.nd (fun t ht=> ?_)
     ·exact ak.2 (.inr (ja.2 ⟨by rw[Fb];exact hp,by simp⟩))
     ·exact ak.2 (.inr (bD.2 ⟨ht,by omega⟩))
    refine⟨v,rfl,⟨x'.G,x.bk,x.τ⟩,_, ?_,hS.put hd q'.r⟩;refine aK.put ⟨cr.grow (x:=x) (x':=⟨x'.G,x.bk,x.τ⟩) hG rfl rfl hM.tm,hM.defers,hA'⟩ d ?_;have:=Rep.renF (x:=x') (x2:=⟨x'.G,x.bk,x.τ⟩) (mo:=fun k=>k) (mt:=fun k=>k) (fun _ _ _ h=>h) hr (fun k hk=>by rw[b3]at hk;cases hk) (fun t ht=>by rw[b4]at ht;cases ht);rwa[xac]at this
  ·have hbf:q.bare=false:=by simpa using hbare
   simp only[lP,hbf,np]at hc;cases hsm:q.small with
   |false=>rw[hsm]at hc;cases hc
   |true=>
    rw[hsm]at hc;simp only[wS,aq.injEq]at hc;subst hc;have hE:=hS.exact hM;have hT:Em x x c [] []:=⟨rfl,fun i hi=>by simp at hi,fun k hk=>by simp at hk,by simp,fun i hi=>by simp at hi,by simp[cu],fun t ht=>by simp[cu]at ht⟩;refine(hS' (Ctx.took x w 0 0) x w vs rfl rfl ?_ (by simp) (by simp) (qI hE.heap hT rfl (fun i hi=>by simp at hi)) hb).mono ?_
    ·rintro b h;exact h
    ·rintro en w' ⟨v,x',q',rfl,hq',hr,hH,hwf,_⟩
     subst hq';exact⟨v,rfl,mQ hM hS hd hT hH hr hwf (fun i hi=>by simp at hi) (fun o ho=>by simp at ho) hsm⟩
theorem vO{call:cX}{sg:Sig}{g:Nat}{d:Option Nat}{as:List SV}{vs:List Value}(hM:aK C x s a w)(hS:Sim N c s)(hd:∀k,d=some k->k<N)(hsp:∀as os k q,call g as os k=some q->kA P g as os k (· =q))
 (hc:jq call sg d g (c,as)=some c') (hvs:cr x as vs):Calls P g ⟨vs⟩ w fun en w'=>∃v,en= .returned v/\M C N c' (a.put d v) w':=by
 simp only[jq]at hc;generalize hz:jD c.tk sg.own 50 0 as=z at hc;obtain⟨as2,mt1⟩:=z;simp only[nb]at hc;generalize dG c 60 [] (SV.idsL as2)=m at hc;cases ho:gx c m with
 |none=>rw[ho]at hc;cases hc
 |some os0=>
  rw[ho]at hc;simp only[kW]at hc;generalize hz2:dX c.tk (50+mt1.length) os0=z2 at hc;obtain⟨os,mt2⟩:=z2;simp only[m9]at hc;cases hb:(nT (SV.idsL as2++fD os) m&&dx m&&dx (cu (mt1++mt2))&&decide (m.length<=40)&&m.all fun o=> !inR (d.getD 0) o)with
  |false=>rw[hb]at hc;cases hc
  |true=>
   rw[hb]at hc;simp only[m7]at hc;simp only[ay,decide_eq_true_eq,aR,dz]at hb;obtain⟨⟨⟨⟨hsub,hmn⟩,htn⟩,hlen⟩,hin⟩:=hb;cases hq:call g (SV.renL (gC m) id as2) (ee (gC m) id os) (mt1.length+mt2.length)with
   |none=>rw[hq]at hc;cases hc
   |some q=>
    rw[hq]at hc;simp only[nZ]at hc;cases hsm:q.small with
    |false=>rw[hsm]at hc;cases hc
    |true=>
     rw[hsm]at hc;simp only[vQ,aq.injEq]at hc;subst hc;have hE:=hS.exact hM;obtain⟨hol,hog⟩:=pm ho
     let τ2:Nat->Nat×Nat×Nat:=fun t=>if 50<=t/\t<50+(mt1++mt2).length then NM x ((mt1++mt2).getD (t-50) none)else(0,0,0)
     let x1:Sit:=⟨x.G,x.bk,τ2⟩
     let x2:Sit:=⟨x.G,fun i=>x.bk (m.getD i 0),τ2⟩
     have hτ:∀y:Sit,y.τ=τ2->nK x y 50 (mt1++mt2):=by
      intro y hy k hk;rw[hy];show(if _ then _ else _)=_;rw[if_pos ⟨by omega,by omega⟩]
      congr 2;omega
     have hmem:∀i,i<m.length->(m.getD i 0,os0.getD i (.rc []))∈c.ob:=fun i hi=>iS (hog i hi)
     have hsubm:=uj hsub;have hmnd:=i7 hmn
     have hT:Em x x2 c m (mt1++mt2):=by
      refine⟨rfl,fun _ _=>rfl,hτ x2 rfl,hmnd,fun i hi=>⟨_,hmem i hi⟩,i7 htn,fun t ht=> ?_⟩;rw[fz,ak]at ht;rcases ht with ht|ht
      ·have:=nR (tk:=c.tk) (own:=sg.own) (cs:=as) (j:=50) (i:=0) t (by rw[hz];exact ht)
       exact this
      ·have:=mh (tk:=c.tk) (obs:=os0) (j:=50+mt1.length) t (by rw[hz2];exact ht)
       exact this
     have hTx1:=hτ x1 rfl
     have ha1:cr x1 as2 vs:=by have:=lC (x:=x) (x1:=x1) rfl rfl (tk:=c.tk) (own:=sg.own) (j:=50) (i:=0) hvs (by rw[hz];exact hTx1.left);rwa[hz]at this
     have hβ:∀o∈m,x2.bk (gC m o)=x.bk o:=fun o ho=>by show x.bk (m.getD (gC m o) 0)=_;rw[(l7 ho).2]
     have ha2:cr x2 (SV.renL (gC m) id as2) vs:=by
      rw[eF];refine⟨by simpa using ha1.1,fun i hi=> ?_⟩;have hi':i<as2.length:=by simpa using hi
      rw[aT _ (by rfl)];exact Rep.renF (x:=x1) (x2:=x2) (fun _ _ _ h=>h) (ha1.2 i hi') (fun k hk=>hβ k (hsubm k (ak.2 (.inl (kP hi' k hk))))) (fun t _=>rfl)
     obtain⟨hosl,hosr⟩:=kV (x:=x) (x1:=x1) (w:=w) rfl rfl (tk:=c.tk) (obs:=os0) (j:=50+mt1.length) (f:=fun i=>m.getD i 0)
      (fun i hi=>(hE.heap.obs _ (hmem i (by omega))).1) (by rw[hz2];exact hTx1.right)
     rw[hz2]at hosl hosr;simp only at hosl hosr
     have hob2:∀i,i<m.length->dC x2 w i ((ee (gC m) id os).getD i (.rc [])):=by
      intro i hi;have h1:=hosr i (by omega);have hio:i<os.length:=by omega
      have e:(ee (gC m) id os).getD i (.rc [])=(os.getD i (.rc [])).ren (gC m) id:=by rw[gg,aa,aa,aP,ab hio];rfl
      rw[e];have hm':=fL (m:=m) hi;have hos:os.getD i (.rc [])∈os:=by rw[aa,ab hio];exact bj _
      have h2:=h1.renF (x2:=x2) (mo:=gC m) (mt:=id) (fun _ _ _ h=>h) (hβ _ hm') (fun k hk=>hβ k (hsubm k (ak.2 (.inr (oz hos k hk))))) (fun t _=>rfl);have e2:gC m (m.getD i 0)=i:=lc hmnd (l7 hm').1 hi (l7 hm').2;rwa[e2]at h2
     have hrl:(ee (gC m) id os).length=m.length:=by rw[gg,aY];omega
     obtain⟨_,hS'⟩:=hsp _ _ _ _ hq;have hl12:mt1.length+mt2.length=(mt1++mt2).length:=by simp
     rw[hl12]at hS';refine(hS' (Ctx.took x2 w m.length (mt1++mt2).length) x2 w vs rfl rfl ?_ (by omega) ?_ (qI hE.heap hT hrl hob2) ha2).mono ?_
     ·rintro b h;rw[hrl];exact h
     ·intro o ho'
      rw[gg]at ho';obtain⟨r,hr,rfl⟩:=aS.1 ho';refine xH ?_
      have:=mg (tk:=c.tk) (obs:=os0) (j:=50+mt1.length) (fun o h'=>by obtain⟨i,hi,rfl⟩:=bN h';have:=hS.inv.wf _ (hmem i (by omega));simpa[aa,ab hi]using this) r (by rw[hz2];exact hr)
      exact this
     ·rintro en w' ⟨v,x',q',rfl,hq',hr,hH,hwf,hg⟩
      subst hq';exact⟨v,rfl,mQ hM hS hd hT hH hr hwf (fun i hi=>hg i (by omega)) (fun o ho'=>hin o ho') hsm⟩
theorem uf{call:cX}{sg:Sig}{g:Nat}{d:Option Nat}{as:List SV}{vs:List Value}(hM:aK C x s a w)(hS:Sim N c s)(hd:∀k,d=some k->k<N)(hsp:∀as os k q,call g as os k=some q->kA P g as os k (· =q))
 (hc:gZ call sg c d g as=some c') (hvs:cr x as vs):Calls P g ⟨vs⟩ w fun en w'=>∃v,en= .returned v/\M C N c' (a.put d v) w':=by
 unfold gZ at hc;generalize ((SV.idsL as).isEmpty&&sg.own.isEmpty)=b at hc;cases b with
 |true=>exact wP hM hS hd hsp hc hvs
 |false=>simp only[jy]at hc;obtain⟨x1,s1,h1,h2,h3⟩:=iV (l:=iH sg.raw 0 as) hM hS hvs;exact vO h1 h2 hd hsp hc h3
end Go.Sy
