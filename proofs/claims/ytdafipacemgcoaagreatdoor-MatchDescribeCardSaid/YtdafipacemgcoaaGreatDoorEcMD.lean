/- A sound engine for Go code. No condition. -/
import Derived.Test.YtdafipacemgcoaaGreatDoorEbMD
import Derived.Below
import Derived.Carry
import Derived.ChangeSlices
import Derived.JoinedCond
import Derived.OpenShut
import Derived.RowKit3
import Derived.SliceStrings
import Derived.Lib.Bytealg
import Derived.Lib.BytesEntry
import Derived.Laws.IdiomCopy
import Derived.Maps.OwnOps
import Derived.Maps.OwnSet
import Derived.Shelf.Spec.SlicesInsertGrow
open Array renaming getD -> jQ, getD_eq_getD_getElem? -> aW, getElem?_eq_getElem -> cy, getElem?_eq_some_iff -> dk, getElem?_toList -> cY, length_toList -> aP, replicate -> dT
open Bool renaming and_eq_true -> aA, false_eq_true -> aJ, not_eq_true' -> dv, or_eq_true -> fL
open List renaming Nodup -> vg, Pairwise -> iI, Sublist -> m6, all_cons -> iH, all_eq_true -> aT, append_nil -> bK, cons_append -> bU, contains_eq_mem -> eQ, filter_cons -> kE, filter_eq_self -> ii, getD_cons_succ -> bF, getD_eq_getElem?_getD -> aa, getElem?_append_left -> aY, getElem?_append_right -> bj, getElem?_drop -> bf, getElem?_eq_getElem -> af, getElem?_eq_none -> jZ, getElem?_map -> aR, getElem?_range -> cM, getElem?_take -> bv, getElem_mem -> bo, getElem_of_mem -> bl, length_append -> ah, length_cons -> av, length_drop -> aE, length_eq_zero_iff -> bP, length_map -> aQ, length_nil -> bg, length_singleton -> aL, length_take -> aD, map_append -> dh, map_cons -> aO, mem_append -> ak, mem_append_left -> dR, mem_append_right -> cZ, mem_cons -> an, mem_cons_of_mem -> aq, mem_cons_self -> ax, mem_map -> aS, mem_map_of_mem -> ie, mem_of_mem_drop -> dQ, mem_of_mem_take -> bL, mem_range -> nL, mem_singleton -> aN, nil_append -> bw, nodup_cons -> ed, not_mem_nil -> cj, pairwise_append -> dP, pairwise_cons -> bA, pairwise_iff_getElem -> gZ, pairwise_map -> gu, range -> bS, replicate -> au
open Nat renaming add_mul -> bD, le_refl -> aI, le_trans -> pC, lt_or_ge -> bH, mod_eq_of_lt -> iG, zero_add -> bC
open Option renaming bind_some -> cQ, getD_some -> ba, ite_none_right_eq_some -> aG, map_eq_some_iff -> ai, map_some -> bm, some -> aw
open Prod renaming fst -> cB, mk -> bn
open Go.Result renaming andThen_ok -> am
open Go.Sem renaming run_bind -> aB, run_pure -> aF
open UInt8 renaming ofNat -> ej
set_option linter.unusedVariables false
set_option linter.unusedSimpArgs false
set_option linter.unnecessarySimpa false
set_option linter.unusedSectionVars false
namespace Go.Sy
variable [bc]
variable {P : Program} {C : Ctx} {x : Sit} {a : Act} {w : World} {N : Nat} {c c' : CSt} {s : St} {call : cV} {sg : Nat -> Sig}
abbrev TM:=List (Nat×SV)
structure Uni(d:Option Nat)(F:TM->TM):Prop where
 get:∀tm tm' n,eB tm n=eB tm' n->eB (F tm) n=eB (F tm') n
 dom:∀tm p,p∈F tm->(∃q∈tm,q.1=p.1)\/d=some p.1
theorem Uni.id{d:LAa}:Uni d (fun t=>t):=⟨fun _ _ _ h=>h,fun _ p z=> .inl ⟨p,z,rfl⟩⟩
theorem Uni.comp{d:LAa}{F G:TM->TM}(B:Uni d F)(E:Uni d G):Uni d (fun t=>G (F t)):=
 ⟨fun _ _ _ h=>E.get _ _ _ (B.get _ _ _ h),fun tm p O=>by
  rcases E.dom _ _ O with⟨q,J,e⟩|h
  ·rcases B.dom _ _ J with⟨L,z,I⟩|h
   ·exact .inl ⟨L,z,I.trans e⟩
   ·exact .inr (by rw[h,e])
  ·exact .inr h⟩
theorem Uni.purge{d:LAa}(lo hi:Nat):Uni d (da lo hi):=
 ⟨fun tm tm' n h=>by rw[fT,fT,h],fun tm p B=>by obtain⟨q,z,e⟩:=jp B;exact .inl ⟨q,z,e.symm⟩⟩
theorem Uni.pub{d:LAa}(o:Nat)(obj:aC):Uni d (ln o obj):=
 ⟨fun tm tm' n h=>by rw[kg,kg,h],fun tm p B=>by obtain⟨q,z,e⟩:=o0 B;exact .inl ⟨q,z,e.symm⟩⟩
theorem Uni.put(k:Nat)(v:SV):Uni (some k) (fun t=>jm t k v):=
 ⟨fun tm tm' n h=>by
  simp only[lW];rw[h],fun tm p z=>by
  rcases lS z with e|e
  ·exact .inr (by rw[e])
  ·exact .inl ⟨p,e,rfl⟩⟩
theorem Uni.weak{d:LAa}{F:TM->TM}(h:Uni none F):Uni d F:=⟨h.get,fun tm p z=>by
 rcases h.dom tm p z with h|h
 ·exact .inl h
 ·cases h⟩
theorem Uni.cput(d:LAa)(v:SV):∃F,Uni d F/\∀tm ob tk,CSt.put ⟨tm,ob,tk⟩ d v=⟨F tm,ob,tk⟩:=by
 cases d with
 |none=>exact⟨fun t=>t,Uni.id,fun _ _ _=>rfl⟩
 |some k=>exact⟨fun t=>jm t k v,Uni.put k v,fun _ _ _=>rfl⟩
section
variable {tm tm' : TM} {ob : List (Nat × aC)} {tk : List Nat}
theorem lM:∀(n:Nat)(h l:t8),dC ⟨tm',ob,tk⟩ n h l=dC ⟨tm,ob,tk⟩ n h l
 |0,_,_=>rfl
 |_+1,_,[]=>rfl
 |n+1,h,o::t=>by
  simp only[dC];show(if _ then _ else match iC ob o with|some z=>_|none=>_)=(if _ then _ else match iC ob o with|some z=>_|none=>_);split
  ·exact lM n _ _
  ·split
   ·exact lM n _ _
   ·exact lM n _ _
theorem uA:∀l:t8,gv ⟨tm',ob,tk⟩ l=gv ⟨tm,ob,tk⟩ l
 |[]=>rfl
 |o::r=>by simp only[gv];rw[uA r];rfl
theorem mR(o:Nat)(vs:t7):∃F ob' tk' h,Uni none F/\∀tm,CSt.publish ⟨tm,ob,tk⟩ o vs=(⟨F tm,ob',tk'⟩,h):=by
 unfold CSt.publish CSt.look;simp only;split
 ·exact⟨_,_,_,_,Uni.pub _ _,fun _=>rfl⟩
 ·exact⟨_,_,_,_,Uni.pub _ _,fun _=>rfl⟩
 ·exact⟨_,_,_,_,Uni.id,fun _=>rfl⟩
theorem oj:∀(l:t8)(ob:List (Nat×aC))(tk:t8)(vs:t7),∃F ob' tk' z,Uni none F/\∀tm,eL ⟨tm,ob,tk⟩ vs l=(⟨F tm,ob',tk'⟩,z)
 |[],ob,tk,vs=>⟨_,_,_,_,Uni.id,fun _=>rfl⟩
 |o::r,ob,tk,vs=>by obtain⟨F,B,h,E,S,Q⟩:=mR (ob:=ob) (tk:=tk) o vs;obtain⟨G,J,L,I,U,O⟩:=oj r B h E;refine⟨fun t=>G (F t),J,L,I,S.comp U,fun tm=> ?_⟩;simp only[eL];rw[Q];exact O _
theorem oO(d:LAa)(m mt:t8)(q:dY):∃F ob' tk',Uni d F/\∀tm,jH ⟨tm,ob,tk⟩ d m mt q=⟨F tm,ob',tk'⟩:=by unfold jH;dsimp only;obtain⟨F,h,z⟩:=Uni.cput d (q.r.ren (ij (d.getD 0) m) (jy (d.getD 0)));exact⟨_,_,_,(Uni.purge ((d.getD 0+1)*1000) ((d.getD 0+2)*1000)).comp h,fun tm=>z _ _ _⟩
theorem EN{sg:Sig}{d:LAa}{g:Nat}{a_:t7}:∃F,Uni d F/\∃q:Option (List (Nat×aC)×t8),∀tm,jC call sg d g (⟨tm,ob,tk⟩,a_)=q.map fun q=>⟨F tm,q.1,q.2⟩:=by
 simp only[jC];generalize jN tk sg.own 50 0 a_=z;obtain⟨h,B⟩:=z;simp only[ng];have J:∀tm,dC ⟨tm,ob,tk⟩ 60 [] (SV.idsL h)=dC ⟨[],ob,tk⟩ 60 [] (SV.idsL h):=fun tm=>lM _ _ _
 have O:∀tm l,gv ⟨tm,ob,tk⟩ l=gv ⟨[],ob,tk⟩ l:=fun tm l=>uA l
 simp only[J,O];generalize dC ⟨[],ob,tk⟩ 60 [] (SV.idsL h)=m;cases ho:gv ⟨[],ob,tk⟩ m with
 |none=>exact⟨_,Uni.id,none,fun _=>rfl⟩
 |some I=>
  simp only[kY];generalize dV tk (50+B.length) I=z2;obtain⟨os,E⟩:=z2;simp only[nf];generalize (nR (SV.idsL h++fy os) m&&dt m&&dt (cn (B++E))&&decide (m.length<=40)&&m.all fun o=> !inR (d.getD 0) o)=b;cases b with
  |false=>exact⟨_,Uni.id,none,fun _=>rfl⟩
  |true=>
   simp only[nb];cases hq:call g (SV.renL (gD m) _root_.id h) (ee (gD m) _root_.id os) (B.length+E.length)with
   |none=>exact⟨_,Uni.id,none,fun _=>rfl⟩
   |some q=>
    simp only[nW];generalize q.small=b;cases b with
    |false=>exact⟨_,Uni.id,none,fun _=>rfl⟩
    |true=>obtain⟨F,ob',tk',Q,L⟩:=oO (ob:=ob) (tk:=tk) d m (cn (B++E)) q;exact⟨F,Q,some (ob',tk'),fun tm=>by simp only[vw,bm,L]⟩
theorem rg{sg:Sig}{d:LAa}{g:Nat}{a_:t7}:∃F,Uni d F/\∃q:Option (List (Nat×aC)×t8),∀tm,ib call sg ⟨tm,ob,tk⟩ d g a_=q.map fun q=>⟨F tm,q.1,q.2⟩:=by
 unfold ib;generalize ((SV.idsL a_).isEmpty&&sg.own.isEmpty)=b;cases b with
 |true=>
  simp only[jG];cases hq:call g (SV.bareL a_) [] 0 with
  |none=>exact⟨_,Uni.id,none,fun _=>rfl⟩
  |some q=>
   simp only[lY];generalize q.bare=b;cases b with
   |true=>simp only[nq];obtain⟨F,z,h⟩:=Uni.cput d q.r;exact⟨F,z,some (ob,tk),fun tm=>by rw[h];rfl⟩
   |false=>
    simp only[nq];generalize q.small=b;cases b with
    |false=>exact⟨_,Uni.id,none,fun _=>rfl⟩
    |true=>obtain⟨F,ob',tk',z,h⟩:=oO (ob:=ob) (tk:=tk) d [] [] q;exact⟨F,z,some (ob',tk'),fun tm=>by simp only[wz,h];rfl⟩
 |false=>simp only[jG];obtain⟨F,E,B,I,z,h⟩:=oj (iP sg.raw 0 a_) ob tk a_;obtain⟨G,L,q,J⟩:=EN (call:=call) (ob:=E) (tk:=B) (sg:=sg) (d:=d) (g:=g) (a_:=I);exact⟨fun t=>G (F t),z.weak.comp L,q,fun tm=>by rw[h];exact J _⟩
theorem GA:∀(l:List (Nat×aC))(tm:TM)(ob:List (Nat×aC))(tk:t8),CSt.wr ⟨tm,ob,tk⟩ l=⟨tm,(CSt.wr ⟨[],ob,tk⟩ l).ob,tk⟩
 |[],_,_,_=>rfl
 |p::r,tm,ob,tk=>by simp only[CSt.wr];exact GA r tm _ tk
theorem oM(d:LAa)(e:nK):∃F ob' tk',Uni d F/\∀tm,CSt.app ⟨tm,ob,tk⟩ d e=⟨F tm,ob',tk'⟩:=by
 unfold CSt.app;dsimp only;obtain⟨F,h,z⟩:=Uni.cput d e.val;split
 ·exact⟨_,_,_,(Uni.purge (d.getD 0+100) (d.getD 0+101)).comp h,fun tm=>z _ _ _⟩
 ·exact⟨_,_,_,(Uni.purge (d.getD 0+100) (d.getD 0+101)).comp h,fun tm=>z _ _ _⟩
 ·exact⟨F,(CSt.wr ⟨[],ob,tk⟩ e.wr).ob,tk,h,fun tm=>by rw[GA];exact z _ _ _⟩
theorem xf4{x:Arg}(h:∀n,x= .t n->eB tm' n=eB tm n):CSt.ev ⟨tm',ob,tk⟩ x=CSt.ev ⟨tm,ob,tk⟩ x:=by
 cases x with
 |t n=>exact h n rfl
 |c v=>rfl
 |f g=>rfl
theorem lF:∀{l:List Arg},(∀x∈l,CSt.ev ⟨tm',ob,tk⟩ x=CSt.ev ⟨tm,ob,tk⟩ x)->evL ⟨tm',ob,tk⟩ l=evL ⟨tm,ob,tk⟩ l
 |[],_=>rfl
 |x::r,h=>by simp only[evL];rw[h x (ax ..),lF fun y z=>h y (aq _ z)]
theorem MB:∀{l:List (Nat×Nat×Arg)},(∀x∈l.map (fun p=>p.2.2),CSt.ev ⟨tm',ob,tk⟩ x=CSt.ev ⟨tm,ob,tk⟩ x)->psC ⟨tm',ob,tk⟩ l=psC ⟨tm,ob,tk⟩ l
 |[],_=>rfl
 |(o,n,x)::r,h=>by simp only[psC];rw[h x (by simp),MB fun y z=>h y (by simp only[aO,an];exact .inr z)]
theorem mc{x:Option Arg}{d:Int}(h:∀y∈x.toList,CSt.ev ⟨tm',ob,tk⟩ y=CSt.ev ⟨tm,ob,tk⟩ y):ka ⟨tm',ob,tk⟩ x d=ka ⟨tm,ob,tk⟩ x d:=by
 cases x with
 |none=>rfl
 |some y=>simp only[ka];rw[h y (by simp)]
theorem zi{z:Nat}{v:SV}{lo hi h:Option Arg}(B:∀y∈lo.toList,CSt.ev ⟨tm',ob,tk⟩ y=CSt.ev ⟨tm,ob,tk⟩ y)(E:∀y∈hi.toList,CSt.ev ⟨tm',ob,tk⟩ y=CSt.ev ⟨tm,ob,tk⟩ y)(F:∀y∈h.toList,CSt.ev ⟨tm',ob,tk⟩ y=CSt.ev ⟨tm,ob,tk⟩ y):
 nF ⟨tm',ob,tk⟩ z v lo hi h=nF ⟨tm,ob,tk⟩ z v lo hi h:=by
 unfold nF;simp only[mc B,mc E,mc F]
theorem y6{o:SOp}(h:∀y∈o.args,CSt.ev ⟨tm',ob,tk⟩ y=CSt.ev ⟨tm,ob,tk⟩ y):cG ⟨tm',ob,tk⟩ o=cG ⟨tm,ob,tk⟩ o:=by
 cases o with
 |build z ps=>simp only[SOp.args]at h;simp only[cG];rw[MB h]
 |lit E F=>simp only[SOp.args]at h;simp only[cG];rw[lF h]
 |litB F=>simp only[SOp.args]at h;simp only[cG];rw[lF h]
 |mkfn f a b=>simp only[SOp.args,ak]at h;simp only[cG];rw[lF fun y B=>h y (.inl B),lF fun y B=>h y (.inr B)]
 |slcS x lo hi=>simp only[SOp.args,an,ak]at h;simp only[cG];rw[h x (.inl rfl)];simp only[mc fun y B=>h y (.inr (.inl B)),mc fun y B=>h y (.inr (.inr B))]
 |slcL E x lo hi I=>simp only[SOp.args,an,ak]at h;simp only[cG];rw[h x (.inl rfl),zi (fun y B=>h y (.inr (.inl (.inl B)))) (fun y B=>h y (.inr (.inl (.inr B)))) (fun y B=>h y (.inr (.inr B)))]
 |slcA len E x lo hi I=>simp only[SOp.args,an,ak]at h;simp only[cG];rw[h x (.inl rfl)];simp only[zi (fun y B=>h y (.inr (.inl (.inl B)))) (fun y B=>h y (.inr (.inl (.inr B)))) (fun y B=>h y (.inr (.inr B)))]
 |_=>
  simp only[SOp.args,an,cj,or_false,forall_eq_or_imp,forall_eq,aN]at h
  first
   |rfl
   |(simp only[cG];rw[h];rfl)
   |(simp only[cG];rw[h.1,h.2];rfl)
   |(simp only[cG,h];done)
   |(simp only[cG,h.1,h.2];done)
theorem CH{n:Nat}{v:t7}{u:SV}:kH ⟨tm',ob,tk⟩ n v u=kH ⟨tm,ob,tk⟩ n v u:=by
 cases u<;>rfl
theorem Qp{d:LAa}{o:SOp}(h:∀y∈o.args,CSt.ev ⟨tm',ob,tk⟩ y=CSt.ev ⟨tm,ob,tk⟩ y):dM ⟨tm',ob,tk⟩ d o=dM ⟨tm,ob,tk⟩ d o:=by
 have I:=y6 h;cases o with
 |new ob=>rfl
 |call f a_=>rfl
 |box x=>simp only[SOp.args,an,cj,or_false,forall_eq]at h;simp only[dM];rw[h]
 |mk z b n m=>simp only[SOp.args,an,cj,or_false,forall_eq_or_imp,forall_eq]at h;simp only[dM];rw[h.1,h.2]
 |mkB n m=>simp only[SOp.args,an,cj,or_false,forall_eq_or_imp,forall_eq]at h;simp only[dM];rw[h.1,h.2]
 |store n a x=>simp only[SOp.args,an,cj,or_false,forall_eq_or_imp,forall_eq]at h;simp only[dM];rw[h.1,h.2,CH]
 |app z b x y=>
  simp only[SOp.args,an,cj,or_false,forall_eq_or_imp,forall_eq]at h;have B:∀v,dJ ⟨tm',ob,tk⟩ v=dJ ⟨tm,ob,tk⟩ v:=fun v=>by cases v<;>rfl
  have E:∀n v,fB ⟨tm',ob,tk⟩ n v=fB ⟨tm,ob,tk⟩ n v:=fun n v=>by cases v<;>rfl
  have F:∀t:Tok,t.readyC ⟨tm',ob,tk⟩=t.readyC ⟨tm,ob,tk⟩:=fun t=>by cases t<;>rfl
  simp only[dM];rw[h.1,h.2];simp only[B,E,F]
 |clr z x=>simp only[SOp.args,an,cj,or_false,forall_eq]at h;simp only[dM];rw[h];rfl
 |cpy L x y=>
  simp only[SOp.args,an,cj,or_false,forall_eq_or_imp,forall_eq]at h;have B:∀v,dJ ⟨tm',ob,tk⟩ v=dJ ⟨tm,ob,tk⟩ v:=fun v=>by cases v<;>rfl
  have E:∀n v,fB ⟨tm',ob,tk⟩ n v=fB ⟨tm,ob,tk⟩ n v:=fun n v=>by cases v<;>rfl
  simp only[dM];rw[h.1,h.2];simp only[B,E];rfl
 |pick k a b=>simp only[SOp.args,an,cj,or_false,forall_eq_or_imp,forall_eq]at h;simp only[dM];rw[h.1,h.2.1,h.2.2]
 |isnil J x=>simp only[SOp.args,an,cj,or_false,forall_eq]at h;simp only[dM];rw[h]
 |_=>simp only[dM];rw[I]
theorem FD{d:LAa}{z:t7}{b:Nat}{y:Arg}{v:SV}(h:CSt.ev ⟨tm',ob,tk⟩ y=CSt.ev ⟨tm,ob,tk⟩ y)(B:qz ⟨tm,ob,tk⟩ d z b y v=some c'):∃F,Uni d F/\c'.tm=F tm/\qz ⟨tm',ob,tk⟩ d z b y v=some ⟨F tm',c'.ob,c'.tk⟩:=by
 have U:∀v,dJ ⟨tm',ob,tk⟩ v=dJ ⟨tm,ob,tk⟩ v:=fun v=>by cases v<;>rfl
 have W:∀n v,fB ⟨tm',ob,tk⟩ n v=fB ⟨tm,ob,tk⟩ n v:=fun n v=>by cases v<;>rfl
 have put:∀(k:Nat)(u:SV),some (CSt.put ⟨tm,ob,tk⟩ (some k) u)=some c'->∃F,Uni (some k) F/\c'.tm=F tm/\some (CSt.put ⟨tm',ob,tk⟩ (some k) u)=some ⟨F tm',c'.ob,c'.tk⟩:=by intro k u hu;obtain⟨F,Q,I⟩:=Uni.cput (some k) u;rw[I]at hu;cases hu;exact⟨F,Q,rfl,by rw[I]⟩
 have app:∀(k:Nat)(e:nK),some (CSt.app ⟨tm,ob,tk⟩ (some k) e)=some c'->∃F,Uni (some k) F/\c'.tm=F tm/\some (CSt.app ⟨tm',ob,tk⟩ (some k) e)=some ⟨F tm',c'.ob,c'.tk⟩:=by intro k e hu;obtain⟨F,ob',tk',Q,I⟩:=oM (ob:=ob) (tk:=tk) (some k) e;rw[I]at hu;cases hu;exact⟨F,Q,rfl,by rw[I]⟩
 have J:∀(E k:Nat)(e:nK),some (CSt.app (CSt.purge ⟨tm,ob,tk⟩ E (E+1)) (some k) e)=some c'->∃F,Uni (some k) F/\c'.tm=F tm/\some (CSt.app (CSt.purge ⟨tm',ob,tk⟩ E (E+1)) (some k) e)=some ⟨F tm',c'.ob,c'.tk⟩:=by intro E k e hu;obtain⟨F,ob',tk',Q,I⟩:=oM (ob:=bz E (E+1) ob) (tk:=co E (E+1) tk) (some k) e;simp only[CSt.purge]at hu ⊢;rw[I]at hu;cases hu;exact⟨fun t=>F (da E (E+1) t),(Uni.purge E (E+1)).comp Q,rfl,by rw[I]⟩
 unfold qz at B ⊢;split at B<;>try (cases B;done)
 ·split at B<;>try (cases B;done)
  rename_i S;simp only[if_pos S,h,U];unfold Pe at B ⊢;split at B<;>try (cases B;done)
  split at B<;>try (cases B;done)
  rename_i hz;simp only[if_neg hz];split at B
  ·rename_i L;simp only[if_pos L];exact put _ _ B
  ·rename_i L
   simp only[if_neg L];split at B<;>try (cases B;done)
   rename_i O;simp only[if_pos O];exact app _ _ B
 ·split at B<;>try (cases B;done)
  rename_i S;simp only[if_pos S,h,W];unfold Pd at B ⊢;split at B<;>try (cases B;done)
  split at B
  ·rename_i L;simp only[if_pos L];exact put _ _ B
  ·rename_i L
   simp only[if_neg L];split at B<;>try (cases B;done)
   rename_i O;simp only[if_pos O];exact app _ _ B
 ·simp only[h,U,W]
  unfold ME at B ⊢;split at B<;>try (cases B;done)
  ·split at B<;>try (cases B;done)
   rename_i O;rw[if_pos O];exact J _ _ _ B
  ·split at B<;>try (cases B;done)
   rename_i O;rw[if_pos O];exact J _ _ _ B
theorem BP{d:LAa}{o:SOp}(h:∀y∈o.args,CSt.ev ⟨tm',ob,tk⟩ y=CSt.ev ⟨tm,ob,tk⟩ y)(B:opC call sg ⟨tm,ob,tk⟩ d o=some c'):∃F,Uni d F/\c'.tm=F tm/\opC call sg ⟨tm',ob,tk⟩ d o=some ⟨F tm',c'.ob,c'.tk⟩:=by
 by_cases Q:∃f a_,o= .call f a_
 ·obtain⟨f,a_,rfl⟩:=Q
  simp only[opC]at B ⊢;simp only[SOp.args,an]at h;rw[h f (.inl rfl),lF fun y hy=>h y (.inr hy)];split at B<;>try (cases B;done)
  obtain⟨F,I,q,E⟩:=rg (call:=call) (ob:=ob) (tk:=tk) (sg:=sg ‹_›) (d:=d) (g:= ‹_›) (a_:= ‹t7› ++evL ⟨tm,ob,tk⟩ a_++ ‹t7›);rename_i g u v a0;obtain⟨F,I,q,E⟩:=rg (call:=call) (ob:=ob) (tk:=tk) (sg:=sg g) (d:=d) (g:=g) (a_:=u++evL ⟨tm,ob,tk⟩ a_++v);rw[E]at B;cases q with
  |none=>cases B
  |some q=>simp only[bm,aw.injEq]at B;subst B;exact⟨F,I,rfl,by rw[E];rfl⟩
 by_cases S:∃Z,o= .newB Z
 ·obtain⟨Z,rfl⟩:=S
  simp only[opC]at B ⊢;simp only[SOp.args]at h;rw[lF h];unfold nm at B ⊢;split at B<;>try (cases B;done)
  rename_i k l hk;cases B;obtain⟨F,ob',tk',I,E⟩:=oM (ob:=ob) (tk:=tk) (some k) {val:= .psl (k+100) 1 0 l.length (some l.length),new:=some (.bar l)};exact⟨F,I,by rw[E],by simp only[E]⟩
 by_cases O:∃q,o= .slid q
 ·obtain⟨q,rfl⟩:=O
  simp only[opC]at B ⊢;rw[h q (by simp[SOp.args])];generalize CSt.ev ⟨tm,ob,tk⟩ q=v at B;unfold p7 at B;split at B<;>try (cases B;done)
  rename_i L off n cap;show ∃F,_/\_/\nX _ d L off n cap (CSt.look ⟨tm',ob,tk⟩ L)=_;have W:CSt.look ⟨tm',ob,tk⟩ L=CSt.look ⟨tm,ob,tk⟩ L:=rfl;rw[W];generalize CSt.look ⟨tm,ob,tk⟩ L=u at B;unfold nX at B;split at B<;>try (cases B;done)
  split at B<;>try (cases B;done)
  rename_i l J;cases B;obtain⟨F,ob',tk',a1,I,E⟩:=mR (ob:=ob) (tk:=tk) L [];obtain⟨G,g1,g2⟩:=Uni.cput d (.byt ((l.drop off).take n) .clip);refine⟨fun t=>G (F t),I.weak.comp g1, ?_, ?_⟩
  ·rw[E tm];rw[g2]
  ·simp only[nX,if_pos J,E,g2]
 by_cases U:∃z b q y,o= .appO z b q y
 ·obtain⟨z,b,q,y,rfl⟩:=U
  simp only[opC]at B ⊢;simp only[SOp.args,an,cj,or_false,forall_eq_or_imp,forall_eq]at h;rw[h.1];exact FD h.2 B
 ·have e:∀c,opC call sg c d o=mW c d (dM c d o):=by
   intro c;cases o<;>first|rfl|exact absurd ⟨_,_,rfl⟩ Q|exact absurd ⟨_,rfl⟩ S|exact absurd ⟨_,rfl⟩ O|exact absurd ⟨_,_,_,_,rfl⟩ U
  rw[e]at B;rw[e,Qp h];cases he:dM ⟨tm,ob,tk⟩ d o with
  |none=>rw[he]at B;cases B
  |some q=>rw[he]at B;simp only[mW,aw.injEq]at B ⊢;obtain⟨F,ob',tk',I,E⟩:=oM (ob:=ob) (tk:=tk) d q;rw[E]at B;subst B;exact⟨F,I,rfl,E _⟩
theorem sK{i:SI}(h:∀n∈i.rds,eB tm' n=eB tm n):∀y∈i.op.args,CSt.ev ⟨tm',ob,tk⟩ y=CSt.ev ⟨tm,ob,tk⟩ y:=by
 intro y z;refine xf4 fun n hn=>h n ?_
 subst hn;unfold SI.rds;rw[ak];exact .inl (List.mem_filterMap.2 ⟨_,z,rfl⟩)
theorem Yn{i:SI}{g:Nat}{b:Bool}(h:i.g=some (g,b)):g∈i.rds:=by unfold SI.rds;rw[h];simp
theorem CJ{i:SI}(h:∀n∈i.rds,eB tm' n=eB tm n)(z:dB call sg ⟨tm,ob,tk⟩ i=some c'):∃F,Uni i.dst F/\c'.tm=F tm/\dB call sg ⟨tm',ob,tk⟩ i=some ⟨F tm',c'.ob,c'.tk⟩:=by
 unfold dB at z ⊢;split at z
 ·exact BP (sK h) z
 ·rename_i g b J
  have e:CSt.get ⟨tm',ob,tk⟩ g=CSt.get ⟨tm,ob,tk⟩ g:=h g (Yn J);rw[e];split at z<;>try (cases z;done)
  rotate_left
  ·obtain⟨F,E,B⟩:=Uni.cput i.dst (.tup [])
   rw[B]at z;cases z;exact⟨F,E,rfl,by rw[B]⟩
  split at z
  ·rename_i I
   obtain⟨F,E,B,L⟩:=BP (sK h) z;exact⟨F,E,B,by simp only[if_pos I];exact L⟩
  ·rename_i I
   obtain⟨F,E,B⟩:=Uni.cput i.dst (.tup []);rw[B]at z;cases z;exact⟨F,E,rfl,by simp only[if_neg I];rw[B]⟩
theorem X9{i:SI}(h:∀n∈i.rds,eB tm' n=eB tm n):qv ⟨tm',ob,tk⟩ i=qv ⟨tm,ob,tk⟩ i:=by
 have B:cW ⟨tm',ob,tk⟩ i.op=cW ⟨tm,ob,tk⟩ i.op:=by
  have z:=sK (ob:=ob) (tk:=tk) h;generalize i.op=o at z;have E:=y6 z;cases o with
  |pick k a b=>simp only[SOp.args,an,cj,or_false,forall_eq_or_imp,forall_eq]at z;simp only[cW];rw[z.1,z.2.1,z.2.2]
  |_=>simp only[cW];rw[E]
 unfold qv;cases hg:i.g with
 |none=>exact B
 |some p=>obtain⟨g,b⟩:=p;simp only;have e:CSt.get ⟨tm',ob,tk⟩ g=CSt.get ⟨tm,ob,tk⟩ g:=h g (Yn hg);rw[e];cases CSt.get ⟨tm,ob,tk⟩ g<;>first|rfl|(simp only[qg];rw[B])
end
theorem nS{i:SI}{v:SV}(h:qv c i=some v):dB call sg c i=some (c.put i.dst v):=by
 have B:∀o,cW c o=some v->opC call sg c i.dst o=some (c.put i.dst v):=by
  intro o z;cases o with
  |pick k a b=>simp only[cW]at z;split at z<;>cases z;rename_i t F;simp only[opC,dM,F,mW];rfl
  |_=>
   simp only[cW]at z
   first
    |(simp only[cG]at z;cases z;done)
    |(simp only[opC,dM];rw[z];rfl)
    |(simp[cG]at z;done)
 unfold qv at h;unfold dB;generalize i.g=q at h;cases q with
 |none=>exact B _ h
 |some q=>
  obtain⟨g,b⟩:=q;simp only at h ⊢;generalize c.get g=u at h
  by_cases hu:u= .tup []
  ·subst hu
   simp only[qg,aw.injEq]at h;subst h;rfl
  obtain⟨t,rfl⟩:∃t,u= .bool t:=by
   unfold qg at h;split at h
   ·exact⟨_,rfl⟩
   ·exact absurd rfl hu
   ·cases h
  simp only[qg]at h ⊢;split at h
  ·rename_i E;rw[if_pos E];exact B _ h
  ·rename_i E;rw[if_neg E];cases h;rfl
structure Apx(N:Nat)(D:List Nat)(c p:CSt):Prop where
 get:∀n,n∉D->c.get n=p.get n
 ob:c.ob=p.ob
 tk:c.tk=p.tk
 dom:∀q∈p.tm,q.1<N
theorem Apx.step{D:t8}{p p1:CSt}{i:SI}(h:Apx N D c p)(hi:i.ok N=true)(O:∀n∈i.rds,n∉D)(J:dB call sg p i=some p1):∃c1,dB call sg c i=some c1/\Apx N D c1 p1:=by
 obtain⟨tm',ob',tk'⟩:=c;obtain⟨tm,ob,tk⟩:=p;have I:=h.ob;have E:=h.tk;simp only at I E;subst I;subst E;obtain⟨F,k1,k2,Q⟩:=CJ (tm':=tm') (fun n hn=>h.get n (O n hn)) J;refine⟨_,Q,⟨fun n hn=> ?_,rfl,rfl,fun q B=> ?_⟩⟩
 ·show eB (F tm') n=eB p1.tm n
  rw[k2];exact k1.get _ _ _ (h.get n hn)
 ·rw[k2]at B
  rcases k1.dom _ _ B with⟨L,z,e⟩|e
  ·rw[<-e];exact h.dom L z
  ·unfold SI.ok at hi
   rw[e]at hi;simpa using hi
theorem Apx.qv{D:t8}{p:CSt}{i:SI}(h:Apx N D c p)(E:∀n∈i.rds,n∉D):qv c i=qv p i:=by obtain⟨tm',ob',tk'⟩:=c;obtain⟨tm,ob,tk⟩:=p;have B:=h.ob;have z:=h.tk;simp only at B z;subst B;subst z;exact X9 fun n hn=>h.get n (E n hn)
theorem Apx.put{D:t8}{p:CSt}{d:Nat}{v:SV}(h:Apx N D c p)(hd:d<N):Apx N (d::D) c (p.put (some d) v):=by
 refine⟨fun n hn=> ?_,h.ob,h.tk,fun q z=> ?_⟩
 ·simp only[an,not_or]at hn
  rw[gG,if_neg hn.1];exact h.get n hn.2
 ·rcases lS z with e|e
  ·rw[e];exact hd
  ·exact h.dom q e
theorem MA{p:CSt}{d:Nat}{v:SV}{i:SI}(h:d∉i.rds):Sy.qv (p.put (some d) v) i=Sy.qv p i:=by
 obtain⟨tm,ob,tk⟩:=p;refine X9 (tm:=tm) (tm':=jm tm d v) fun n hn=> ?_
 rw[lW,if_neg (by intro e;subst e;exact h hn)]
theorem pm{α:Type}{p:Prop}{v u:α}(h:gdP p v=some u):p/\v=u:=by
 unfold gdP at h;split at h
 ·rename_i z;exact⟨z,by simpa using h⟩
 ·cases h
theorem pq{m:Nat}{p:CSt}{f:FI}:∀{l:List FI},sj m p l->f∈l->m.testBit f.n=true\/qv p f.i=some (p.get (f.i.dst.getD 0))
 |g::r,h,hf=>by
  rcases an.1 hf with rfl|hf
  ·rcases h.1 with z|z
   ·left
    rw[Nat.testBit_eq_decide_div_mod_eq];simpa using z
   ·exact .inr z
  ·exact pq h.2 hf
def Nx(g q:FI):Prop:=q.q=true->∀d,q.i.dst=some d->d∉g.i.rds/\g.i.dst≠some d
def wM(q:FI):Prop:=q.q=true->∃d,q.i.dst=some d/\d∉q.i.rds
def dOf(f:FI):Nat:=f.i.dst.getD 0
theorem mr{b:t8}{cF:CSt}:∀{r ps V:List FI}{p:CSt}{D:t8},eX call sg b r ps p=some cF->Apx N D c p->(∀f∈r,f.i.ok N=true)->(∀f∈r,wM f)->r.Pairwise Nx->(∀g∈V,∀f∈r,Nx g f)->
 (∀g∈V,∃d,g.i.dst=some d)->(∀g∈V,qv p g.i=some (p.get (dOf g)))->∃seg post F E,r=seg++post/\(∀f∈seg,f.q=true)/\(post=[]\/∃f W,post=f::W/\f.q=false)/\eX call sg b post E F=some cF/\
  (∀f,f∈ps\/f∈seg->f∈E)/\Apx N (seg.map dOf++D) c F/\∀g,g∈V\/g∈seg->qv F g.i=some (F.get (dOf g))
 |[],ps,V,p,D,h,hA,_,_,_,_,_,hV=>⟨[],[],p,ps,rfl,by simp,.inl rfl,h,by simp,by simpa using hA,by simpa using hV⟩
 |f::r,ps,V,p,D,h,hA,hok,hself,hpw,hVr,hVd,hV=>by
  obtain⟨n,q,i⟩:=f;cases q with
  |false=>exact⟨[],⟨n,false,i⟩::r,p,ps,rfl,by simp,.inr ⟨_,_,rfl,rfl⟩,h,by simp,by simpa using hA,by simpa using hV⟩
  |true=>
   simp only[eX]at h;cases hq:qv p i with
   |none=>rw[hq]at h;simp[uI]at h
   |some v=>
    rw[hq]at h;simp only[uI]at h;obtain⟨d,hd,I⟩:=hself _ (ax ..) rfl;simp only at hd I
    have S:d<N:=by have:=hok _ (ax ..);unfold SI.ok at this;simp only[hd]at this;simpa using this
    rw[hd]at h;rw[bA]at hpw
    have O:∀g:FI,(∃e,g.i.dst=some e)->g.i.dst≠some d->(p.put (some d) v).get (dOf g)=p.get (dOf g):=by
     rintro g ⟨e,U⟩ J;have L:dOf g=e:=by unfold dOf;rw[U];rfl
     rw[L,gG,if_neg];intro e2;rw[U,e2]at J;exact J rfl
    obtain⟨seg,post,F,E,k1,k2,k3,Z,k5,Q,k7⟩:=mr (V:=⟨n,true,i⟩::V) h (hA.put S) (fun f B=>hok f (aq _ B)) (fun f B=>hself f (aq _ B)) hpw.2
     (by
      intro g z f B;rcases an.1 z with rfl|z
      ·exact hpw.1 f B
      ·exact hVr g z f (aq _ B))
     (by
      intro g z;rcases an.1 z with rfl|z
      ·exact⟨d,hd⟩
      ·exact hVd g z)
     (by
      intro g z;rcases an.1 z with rfl|z
      ·have L:dOf ⟨n,true,i⟩=d:=by unfold dOf;simp only[hd];rfl
       rw[L,MA I,gG,if_pos rfl];exact hq
      ·obtain⟨h1,h2⟩:=hVr g z _ (ax ..) rfl d hd
       rw[MA h1,O g (hVd g z) h2];exact hV g z)
    refine⟨⟨n,true,i⟩::seg,post,F,E,by rw[k1];rfl, ?_,k3,Z, ?_, ?_, ?_⟩
    ·intro f B
     rcases an.1 B with rfl|B
     ·rfl
     ·exact k2 f B
    ·intro f B
     refine k5 f ?_;rcases B with B|B
     ·exact .inl (aq _ B)
     ·rcases an.1 B with rfl|B
      ·exact .inl (ax ..)
      ·exact .inr B
    ·have L:dOf ⟨n,true,i⟩=d:=by unfold dOf;simp only[hd];rfl
     refine⟨fun m hm=>Q.get m (fun h=>hm ?_),Q.ob,Q.tk,Q.dom⟩;simp only[aO,L,bU,an,ak]at h ⊢;rcases h with h|h|h
     ·exact .inr (.inl h)
     ·exact .inl h
     ·exact .inr (.inr h)
    ·intro g z
     refine k7 g ?_;rcases z with z|z
     ·exact .inl (aq _ z)
     ·rcases an.1 z with rfl|z
      ·exact .inl (ax ..)
      ·exact .inr z
section
variable {ops : Array Oper} {its : List FI} {b : List Nat}
def un(its:List FI)(listed:Array Bool):List FI:=its.filter fun f=> !listed.getD f.n true
theorem cN{listed:Array Bool}{f:FI}:f∈un its listed↔f∈its/\listed.getD f.n true=false:=by simp[un]
structure oR(call:cV)(sg:Nat->Sig)(N:Nat)(b:List Nat)(its:List FI)(cF:CSt)(listed:Array Bool)(c:CSt):Prop where
 ex:∃pre post p ps,its=pre++post/\(post=[]\/∃f r,post=f::r/\f.q=false)/\eX call sg b post ps p=some cF/\(∀f∈pre,f.q=true->f∈ps)/\
  (∀f∈pre,f.q=false->listed.getD f.n true=true)/\(∀f∈post,listed.getD f.n true=false)/\
  Apx N ((un pre listed).map dOf) c p/\∀f∈un pre listed,qv p f.i=some (p.get (dOf f))
theorem wv(d3:fU P call){cF:CSt}
 (O:∀f∈its,∃o,ops[f.n]? =some o/\fR P ops o=some f.i.er/\f.n<ops.size) (d5:∀j,j<ops.size->∃f∈its,f.n=j) (c4:∀f∈its,∀g∈its,f.n=g.n->f=g)
 (b3:∀(i:Nat)(o:Oper),ops[i]? =some o->∀e∈o.after,Region.binds .any e=true->e.on<i)
 (h7:∀(i:Nat)(o:Oper)(k:Nat),ops[i]? =some o->k<ops.size->(b.getD i 0).testBit k=true->∃e∈o.after,Region.binds .any e=true/\(e.on=k\/(b.getD e.on 0).testBit k=true))
 (b6:∀f∈its,f.i.ok N=true) (a1:∀f∈its,wM f) (g4:its.Pairwise Nx)
 (k9:∀q∈its,q.q=true->∀p∈its,∀d,q.i.dst=some d->d∈p.i.rds->(b.getD p.n 0).testBit q.n=true)
 (c7:∀pre f r,its=pre++f::r->f.q=false->∀g∈r,∃h∈f::r,(b.getD g.n 0).testBit h.n=true)
 (n0:∀f∈its,∀g∈its,f.n≠g.n->∀d,f.i.dst=some d->g.i.dst≠some d) {Q:LAf} (hQ:∀a w,M C N cF a w->Q .normal a w):
 ∀(a2:Nat)(listed:Array Bool)(c:CSt)(a:Act)(w:World),(un its listed).length<=a2->listed.size=ops.size->
  (∀(i:Nat)(o:Oper)(k:Nat),ops[i]? =some o->listed.getD i true=true->k<ops.size->(b.getD i 0).testBit k=true->listed.getD k true=true)->
  oR call sg N b its cF listed c->M C N c a w->wpAny P .any ops Q a2 listed a w:=by
 classical
 have g5:∀(listed:Array Bool),listed.size=ops.size->∀k,k<ops.size->listed.getD k false=listed.getD k true:=by intro listed hs k hk;simp[jQ,hs,hk]
 have done:∀(listed:Array Bool)(c:CSt)(a:Act)(w:World),un its listed=[]->oR call sg N b its cF listed c->M C N c a w->Region.ready .any ops listed=[]/\Q .normal a w:=by
  intro listed c a w h0 hS hM;constructor
  ·rw[List.eq_nil_iff_forall_not_mem]
   intro j hj;obtain⟨h1,o,h2,h3⟩:=mem_ready.1 hj;have k8:j<ops.size:=(dk.1 h2).1;obtain⟨I,U,rfl⟩:=d5 j k8;have:I∈un its listed:=cN.2 ⟨U,h1⟩;rw[h0]at this;cases this
  ·obtain⟨pre,post,p,ps,e,hp,E,_,_,d7,hA,_⟩:=hS.ex
   have l0:post=[]:=by
    cases post with
    |nil=>rfl
    |cons f r=>have:f∈un its listed:=cN.2 ⟨by rw[e];simp,d7 f (ax ..)⟩;rw[h0]at this;cases this
   subst l0;simp only[eX,aw.injEq]at E;subst E;have hD:un pre listed=[]:=by rw[<-h0,e,bK]
   rw[hD]at hA;refine hQ a w ?_;obtain⟨x,s,j2,e0⟩:=hM;refine M.slots (c:=c) ⟨x,s,j2,e0⟩ ⟨hA.dom,by rw[<-hA.ob];exact e0.inv.so,by rw[<-hA.ob];exact e0.inv.wf⟩ hA.ob.symm hA.tk.symm (fun i=> .inl (hA.get i (by simp)).symm)
 intro a2;induction a2 with
 |zero=>intro listed c a w S hs e3 hS hM;exact done listed c a w (bP.1 (by omega)) hS hM
 |succ a2 ih=>
  intro listed c a w S hs e3 hS hM;constructor
  ·intro g1
   by_cases h0:un its listed=[]
   ·exact(done listed c a w h0 hS hM).2
   ·exfalso
    have hp:∃n,∃f∈un its listed,f.n=n:=by
     cases hc:un its listed with
     |nil=>exact absurd hc h0
     |cons f r=>exact⟨_,f,ax ..,rfl⟩
    obtain⟨n,⟨f,k0,m2⟩,g3⟩:=Yg _ hp;obtain⟨h1,h2⟩:=cN.1 k0;obtain⟨o,h3,_,h4⟩:=O f h1
    have:f.n∈Region.ready .any ops listed:=by refine mem_ready.2 ⟨h2,o,h3,fun e he hb=> ?_⟩;have a5:=b3 f.n o h3 e he hb;rw[g5 listed hs _ (by omega),<-Bool.not_eq_false];intro i3;obtain⟨g,F,h9⟩:=d5 e.on (by omega);have:=g3 e.on ⟨g,cN.2 ⟨F,by rw[h9];exact i3⟩,h9⟩;omega
    rw[g1]at this;cases this
  ·intro i j4
   obtain⟨h1,o,h2,h3⟩:=mem_ready.1 j4;have i0:i<ops.size:=(dk.1 h2).1;obtain⟨I,U,rfl⟩:=d5 i i0;obtain⟨o',i1,d4,_⟩:=O I U;rw[h2]at i1;cases i1
   have a3:∀k,k<ops.size->(b.getD I.n 0).testBit k=true->listed.getD k true=true:=by
    intro k hk hb;obtain⟨e,he,f2,j1⟩:=h7 I.n o k h2 hk hb;have d8:=h3 e he f2;have i5:=b3 I.n o h2 e he f2;rw[g5 listed hs _ (by omega)]at d8;rcases j1 with h|h
    ·rw[<-h];exact d8
    ·exact e3 e.on (ops[e.on]'(by omega)) k (by simp) d8 hk h
   have m0:(un its (listed.setIfInBounds I.n true)).length<(un its listed).length:=by
    have e1:un its (listed.setIfInBounds I.n true)=(un its listed).filter fun q=> !decide (q.n=I.n):=by
     simp only[un,List.filter_filter];apply List.filter_congr;intro q hq;rw[eD (by omega)]
     by_cases h:q.n=I.n<;>simp[h]
    rw[e1];refine List.length_filter_lt_length_iff_exists.2 ⟨I,cN.2 ⟨U,h1⟩,by simp⟩
   have c6:∀(i:Nat)(o:Oper)(k:Nat),ops[i]? =some o->(listed.setIfInBounds I.n true).getD i true=true->k<ops.size->(b.getD i 0).testBit k=true->(listed.setIfInBounds I.n true).getD k true=true:=by
    intro i2 o2 f1 i4 e5 g2 f7;rw[eD (by omega)]at e5 ⊢;split
    ·rfl
    ·split at e5
     ·rename_i e1
      subst e1;exact a3 f1 g2 f7
     ·exact e3 i2 o2 f1 i4 e5 g2 f7
   have n3:∀g∈its,listed.getD g.n true=true->g≠I:=by intro g _ F e;subst e;rw[h1]at F;cases F
   have L:∀g∈its,(listed.setIfInBounds I.n true).getD g.n true=if g=I then true else listed.getD g.n true:=by
    intro g F;rw[eD (by omega)]
    by_cases h:g=I
    ·subst h;simp
    ·rw[if_neg (fun e=>h (c4 g F I U e)),if_neg h]
   obtain⟨pre,post,p,ps,e,a7,E,e4,a0,J,hA,hV⟩:=hS.ex;have z:∀g∈pre,g∈its:=fun g F=>by rw[e];exact ak.2 (.inl F)
   have B:∀g∈post,g∈its:=fun g F=>by rw[e];exact ak.2 (.inr F)
   have b8:∀n∈I.i.rds,n∉(un pre listed).map dOf:=by
    intro n hn hm;obtain⟨g,F,a6⟩:=aS.1 hm;obtain⟨Z,W⟩:=cN.1 F
    have g7:g.q=true:=by
     cases hq:g.q with
     |true=>rfl
     |false=>rw[a0 g Z hq]at W;cases W
    obtain⟨d,hd,_⟩:=a1 g (z g Z) g7;have l1:d=n:=by unfold dOf at a6;rw[hd]at a6;exact a6
    subst l1;have:=k9 g (z g Z) g7 I U d hd hn;obtain⟨_,_,_,a5⟩:=O g (z g Z);rw[a3 g.n a5 this]at W;cases W
   by_cases a8:I∈pre
   ·
    have hq:I.q=true:=by
     cases hq:I.q with
     |true=>rfl
     |false=>rw[a0 I a8 hq]at h1;cases h1
    have l3:I∈un pre listed:=cN.2 ⟨a8,h1⟩;have hv:=hV I l3;rw[<-hA.qv b8]at hv;obtain⟨d,hd,m5⟩:=a1 I U hq;have f4:dOf I=d:=by unfold dOf;rw[hd];rfl
    refine gk d3 hM (b6 I U) h2 d4 (nS (call:=call) (sg:=sg) hv) fun a' w' d9=> ?_
    refine ih _ _ a' w' (by omega) (by simpa using hs) c6 ⟨pre,post,p,ps,e,a7,E,e4, ?_, ?_, ?_, ?_⟩ d9
    ·intro f S a4
     rw[L f (z f S)];split
     ·rfl
     ·exact a0 f S a4
    ·intro f S
     rw[L f (B f S),if_neg]
     ·exact J f S
     ·intro e2
      subst e2
      have e9:its.Pairwise fun f g=>f.n≠g.n\/f=g:=List.pairwise_of_forall_mem_list (fun f S g F=>by
       by_cases h:f.n=g.n
       ·exact .inr (c4 f S g F h)
       ·exact .inl h)
      have h5:=g4;rw[e]at h5;have h6:=(dP.1 h5).2.2 f a8 f S hq d hd;exact h6.2 hd
    ·refine⟨fun n hn=> ?_, ?_, ?_,hA.dom⟩
     ·rw[hd,gG]
      split
      ·rename_i e2;rw[e2,f4]
      ·rename_i e9
       refine hA.get n fun hm=>hn ?_
       obtain⟨g,F,a6⟩:=aS.1 hm;obtain⟨Z,W⟩:=cN.1 F;refine aS.2 ⟨g,cN.2 ⟨Z, ?_⟩,a6⟩;rw[L g (z g Z),if_neg]
       ·exact W
       ·intro e2;subst e2;rw[f4]at a6;exact e9 a6.symm
     ·cases I.i.dst<;>exact hA.ob
     ·cases I.i.dst<;>exact hA.tk
    ·intro f S
     obtain⟨f6,b5⟩:=cN.1 S;refine hV f (cN.2 ⟨f6, ?_⟩);rw[L f (z f f6)]at b5;split at b5
     ·cases b5
     ·exact b5
   ·
    have a9:I∈post:=by rw[e]at U;exact(ak.1 U).resolve_left a8
    obtain⟨f0,r,b4,e6⟩:∃f r,post=f::r/\f.q=false:=by
     rcases a7 with h|h
     ·subst h;cases a9
     ·exact h
    have e8:I=f0:=by
     rw[b4]at a9;rcases an.1 a9 with h|h
     ·exact h
     ·exfalso
      obtain⟨g,F,e7⟩:=c7 pre f0 r (by rw[e,b4]) e6 I h;have b2:g∈post:=by rw[b4];exact F
      obtain⟨_,_,_,a5⟩:=O g (B g b2);have:=a3 g.n a5 e7;rw[J g b2]at this;cases this
    subst e8;subst b4;obtain⟨n,q,i⟩:=I;simp only at e6;subst e6;simp only[eX]at E;cases hs1:dB call sg p i with
    |none=>rw[hs1]at E;simp[pT]at E
    |some p1=>
     rw[hs1]at E;simp only[pT]at E;cases F:gdP (sj (b.getD n 0) p1 ps) p1 with
     |none=>rw[F]at E;simp[pU]at E
     |some m1=>
      rw[F]at E;simp only[pU]at E;obtain⟨h8,rfl⟩:=pm F;obtain⟨c1,l9,j3⟩:=hA.step (b6 _ U) b8 hs1;refine gk d3 hM (b6 _ U) h2 d4 l9 fun a' w' d9=> ?_
      have c3:∀g∈un pre listed,g.q=true:=by
       intro g F;obtain⟨Z,W⟩:=cN.1 F;cases hq:g.q with
       |true=>rfl
       |false=>rw[a0 g Z hq]at W;cases W
      have b7:=g4;rw[e]at b7;have g6:=dP.1 b7
      obtain⟨seg,d6,p2,l2,k1,k2,k3,k4,k5,k6,k7⟩:=mr (V:=un pre listed) E j3 (fun f S=>b6 f (B f (aq _ S))) (fun f S=>a1 f (B f (aq _ S)))
       (bA.1 g6.2.1).2 (fun g F f S=>g6.2.2 g (cN.1 F).1 f (aq _ S))
       (fun g F=>by obtain⟨d,hd,_⟩:=a1 g (z g (cN.1 F).1) (c3 g F);exact⟨d,hd⟩)
       (fun g F=>by
        obtain⟨Z,W⟩:=cN.1 F;rcases pq h8 (e4 g Z (c3 g F))with h|h
        ·obtain⟨_,_,_,a5⟩:=O g (z g Z)
         rw[a3 g.n a5 h]at W;cases W
        ·exact h)
      have f5:un (pre++⟨n,false,i⟩::seg) (listed.setIfInBounds n true)=un pre listed++seg:=by
       unfold un;rw[List.filter_append,kE];have e1:(listed.setIfInBounds n true).getD n true=true:=by rw[eD (by rw[hs];exact i0)];simp
       simp only[e1,Bool.not_true,aJ,if_false]
       congr 1
       ·apply List.filter_congr
        intro g F;have:=L g (z g F);simp only at this;rw[this,if_neg];intro e2;subst e2;exact a8 F
       ·apply ii.2
        intro g F;have b2:g∈⟨n,false,i⟩::r:=by rw[k1];exact aq _ (ak.2 (.inl F))
        have:=L g (B g b2);simp only at this;rw[this,if_neg]
        ·rw[J g b2];rfl
        ·intro e2;subst e2;have:=k2 _ F;cases this
      refine ih _ _ a' w' (by omega) (by simpa using hs) c6 ⟨pre++⟨n,false,i⟩::seg,d6,p2,l2,by rw[e,k1];simp,k3,k4, ?_, ?_, ?_, ?_, ?_⟩ d9
      ·intro f S a4
       rcases ak.1 S with h|h
       ·exact k5 f (.inl (e4 f h a4))
       ·rcases an.1 h with rfl|h
        ·cases a4
        ·exact k5 f (.inr h)
      ·intro f S a4
       rcases ak.1 S with h|h
       ·rw[L f (z f h)]
        split
        ·rfl
        ·exact a0 f h a4
       ·rcases an.1 h with rfl|h
        ·rw[L _ U,if_pos rfl]
        ·rw[k2 f h]at a4;cases a4
      ·intro f S
       have f3:f∈⟨n,false,i⟩::r:=by rw[k1];exact aq _ (ak.2 (.inr S))
       rw[L f (B f f3),if_neg]
       ·exact J f f3
       ·intro e2
        subst e2;obtain⟨g,F,e7⟩:=c7 pre ⟨n,false,i⟩ r e rfl ⟨n,false,i⟩ (by rw[k1];exact ak.2 (.inr S));obtain⟨_,_,_,a5⟩:=O g (B g F);have:=a3 g.n a5 e7;rw[J g F]at this;cases this
      ·rw[f5,dh]
       refine⟨fun m hm=>k6.get m (fun h=>hm ?_),k6.ob,k6.tk,k6.dom⟩;rw[ak]at h ⊢;exact h.symm
      ·rw[f5]
       intro f S;exact k7 f (ak.1 S)
end
theorem qT{f:FI}(l:List FI)(h:(l.map FI.n).Nodup)(z:f∈l):Ef l f.n=f.i.er:=by
 induction l with
 |nil=>cases z
 |cons g r B=>
  simp only[aO,ed]at h;simp only[Ef];rcases an.1 z with rfl|z
  ·rw[if_pos rfl]
  ·rw[if_neg,B h.2 z]
   intro e;apply h.1;rw[e];exact ie z
theorem E6{b:t8}{s:Nat}(l:List FI):ni b (some s) l=true->∀g∈l,(b.getD g.n 0).testBit s=true\/∃h∈l,(b.getD g.n 0).testBit h.n=true:=by
 induction l generalizing s with
 |nil=>intro _ g z;cases z
 |cons f r E=>
  intro h g z;simp only[ni]at h;split at h
  ·simp only[aA,mV]at h
   rcases an.1 z with rfl|z
   ·exact .inl h.1
   ·rcases E h.2 g z with B|⟨k,hk,B⟩
    ·exact .inl B
    ·exact .inr ⟨k,aq _ hk,B⟩
  ·simp only[aA,mV]at h
   rcases an.1 z with rfl|z
   ·exact .inl h.1
   ·rcases E h.2 g z with B|⟨k,hk,B⟩
    ·exact .inr ⟨f,ax ..,B⟩
    ·exact .inr ⟨k,aq _ hk,B⟩
theorem xa{b:t8}:∀{pre:List FI}{s:LAa}{f:FI}{r:List FI},ni b s (pre++f::r)=true->f.q=false->ni b (some f.n) r=true
 |[],s,f,r,h,hf=>by simp only[bw,ni,hf,aJ,if_false,aA]at h;exact h.2
 |g::pre,s,f,r,h,hf=>by
  simp only[bU,ni]at h;split at h
  ·rw[aA]at h;exact xa h.2 hf
  ·rw[aA]at h;exact xa h.2 hf
theorem ol{b:t8}:∀{l:List FI},oq b l=true->l.Pairwise fun p q=>(b.getD p.n 0).testBit q.n=false
 |[],_=>iI.nil
 |p::r,h=>by simp only[oq,aA,aT]at h;refine bA.2 ⟨fun q z=> ?_,ol h.2⟩;have:=h.1 q z;simp only[MD,aA,dv,mV]at this;exact this.1
theorem Dy(b4:fU P call){id:Nat}{ops:Array Oper}{its:List FI}(hl:jr (fR P ops) ops.toList=some (unF its))(hd:drawn ops (unF its)=true)(hm:P.follows .mixedOrders=true)
 (a7:its.all (fun f=>f.i.ok N)=true) (a2:NH (Region.before ops).toList its=true) {cF:CSt} {Q:LAf} (hQ:∀a w,M C N cF a w->Q .normal a w) (hM:M C N c a w)
 (h:eX call sg (Region.before ops).toList its [] c=some cF):(Code.region id ops true).wp P Q a w:=by
 simp only[NH,aA,decide_eq_true_eq,aT]at a2;obtain⟨⟨⟨⟨⟨a0,U⟩,W⟩,J⟩,O⟩,b8⟩:=a2;simp only[PQ,aT,fL,dv]at W;rw[aT]at a7;obtain⟨a9,b7⟩:=eN hl;have d3:(unF its).length=its.length:=by simp[unF]
 have d9:its.length=ops.size:=by rw[<-d3,a9,aP]
 have a8:∀f∈its,(unF its).getD f.n ⟨none,none,.lenC 0⟩=f.i.er:=by intro f z;have:=O f z;rw[aa];simp only[unF,aR,cM this,bm,ba];exact qT _ J z
 simp only[drawn,aA,decide_eq_true_eq]at hd;obtain⟨⟨hc,ht⟩,a3⟩:=hd
 have a6:∀f∈its,∃o,ops[f.n]? =some o/\fR P ops o=some f.i.er/\f.n<ops.size:=by
  intro f z;have d6:=O f z;have b3:f.n<ops.toList.length:=by rw[aP];omega
  refine⟨ops.toList[f.n],by rw[<-cY,af b3], ?_,by omega⟩;have B:=b7 f.n b3 (by omega);rw[B]
  congr 1
  have F:=a8 f z;rwa[aa,af (by omega),ba]at F
 have c6:∀f∈its,∀g∈its,f.n=g.n->f=g:=by
  intro f z g hg e;have:its.Pairwise fun f g=>f.n≠g.n:=by rw[vg,gu]at J;exact J
  rw[gZ]at this;obtain⟨i,hi,rfl⟩:=List.mem_iff_getElem.1 z;obtain⟨j,hj,rfl⟩:=List.mem_iff_getElem.1 hg;rcases Nat.lt_trichotomy i j with h|h|h
  ·exact absurd e (this i j hi hj h)
  ·subst h;rfl
  ·exact absurd e.symm (this j i hj hi h)
 have c4:∀f∈its,∀g∈its,f.n≠g.n->∀d,f.i.dst=some d->g.i.dst≠some d:=by
  have a1:∀f∈its,∀g∈its,f.n<g.n->∀d,f.i.dst=some d->g.i.dst≠some d:=by
   intro f z g hg b5 d B F
   have c3:(unF its).Pairwise fun u v=>∀d,u.dst=some d->v.dst≠some d:=by rw[vg,List.pairwise_filterMap]at a3;refine a3.imp ?_;intro u v c7 d hu hv;exact c7 d hu d hv rfl
   rw[gZ]at c3;have e0:=O f z;have d7:=O g hg
   have g1:(unF its)[f.n]'(by omega)=f.i.er:=by have:=a8 f z;rwa[aa,af (by omega),ba]at this
   have g2:(unF its)[g.n]'(by omega)=g.i.er:=by have:=a8 g hg;rwa[aa,af (by omega),ba]at this
   exact c3 f.n g.n (by omega) (by omega) b5 d (by rw[g1];exact B) (by rw[g2];exact F)
  intro f z g hg d8 d B F;rcases bH f.n g.n with h|h
  ·exact a1 f z g hg h d B F
  ·exact a1 g hg f z (by omega) d F B
 have E:∀(i:Nat)(o:Oper),ops[i]? =some o->(∀e∈o.after,Region.binds .any e=true->e.on<i)/\
  ∀k,k<ops.size->((Region.before ops).toList.getD i 0).testBit k=true->∃e∈o.after,Region.binds .any e=true/\(e.on=k\/((Region.before ops).toList.getD e.on 0).testBit k=true):=by
  intro i o ho;unfold pz at hc;rw[aT]at hc;have hi:i<ops.size:=(dk.1 ho).1
  have B:=hc (o,i) (by rw[List.mem_zipIdx_iff_getElem?];simpa using ho)
  simp only[aA,Array.all_eq_true_iff_forall_mem,aT,fL,dv,decide_eq_true_eq]at B;refine⟨fun e he hb=>(B.1 e he).resolve_left (by simp[hb]),fun k hk hb=> ?_⟩;have F:=(B.2 k (nL.2 hk)).resolve_left (by simp only[hb];simp);obtain⟨_,h3⟩:=F;rw[<-Array.any_toList,List.any_eq_true]at h3;obtain⟨e,he,h4⟩:=h3;rw[Array.mem_toList_iff]at he;simp only[aA,fL,beq_iff_eq]at h4;exact⟨e,he,h4.1,h4.2⟩
 have hq:∀q∈its,q.q=true->∃d,q.i.dst=some d/\∀p∈its,d∈p.i.rds->((Region.before ops).toList.getD p.n 0).testBit q.n=true/\p.n≠q.n:=by
  intro q hq L;have B:=(W q hq).resolve_left (by rw[L];simp);cases hd:q.i.dst with
  |none=>rw[hd]at B;cases B
  |some d=>
   rw[hd]at B;simp only[aT,fL,dv,aA,decide_eq_true_eq,mV]at B;refine⟨d,rfl,fun p hp hr=> ?_⟩;rcases B p hp with F|F
   ·rw[eQ]at F;simp only[decide_eq_false_iff_not]at F;exact absurd hr F
   ·exact F
 have S:∀f∈its,wM f:=by intro f z W;obtain⟨d,hd,B⟩:=hq f z W;exact⟨d,hd,fun h=>(B f z h).2 rfl⟩
 have b6:∀q∈its,q.q=true->∀p∈its,∀d,q.i.dst=some d->d∈p.i.rds->((Region.before ops).toList.getD p.n 0).testBit q.n=true:=by intro q Z L p hp d hd hr;obtain⟨d',d4,B⟩:=hq q Z L;rw[d4]at hd;cases hd;exact(B p hp hr).1
 have b2:its.Pairwise Nx:=by
  have B:its.Pairwise fun f g=>f.n≠g.n:=by rw[vg,gu]at J;exact J
  refine((ol U).and B).imp_of_mem ?_;rintro p q hp Z ⟨F,h3⟩ L d hd;refine⟨fun hr=> ?_,fun e=>c4 p hp q Z h3 d e hd⟩;rw[b6 q Z L p hp d hd hr]at F;cases F
 obtain⟨seg,post,p2,d5,k1,k2,k3,k4,k5,k6,k7⟩:=mr (N:=N) (D:=[]) (V:=[]) h ⟨fun _ _=>rfl,rfl,rfl,by obtain⟨x,s,_,hS⟩:=hM;exact hS.inv.dom⟩ (fun f z=>a7 f z) S b2 (by simp) (by simp) (by simp)
 have I:∀f∈its,(dT ops.size false).getD f.n true=false:=by
  intro f z;have:=O f z;have:f.n<ops.size:=by omega
  simp[jQ,this]
 have a4:un seg (dT ops.size false)=seg:=by apply ii.2;intro f z;rw[I f (by rw[k1];exact ak.2 (.inl z))];rfl
 refine wp_region_any hm ?_
 refine wv (its:=its) (b:=(Region.before ops).toList) (cF:=cF) (sg:=sg) b4 a6 (fun j hj=> ?_) c6 (fun i o ho=>(E i o ho).1) (fun i o k ho hk hb=>(E i o ho).2 k hk hb) (fun f z=>a7 f z) S b2 b6
  (fun pre f r e z g hg=> ?_) c4 hQ ops.size _ c a _ ?_ (by simp) ?_ ⟨seg,post,p2,d5,k1,k3,k4,fun f z _=>k5 f (.inr z),(fun f z hq=>by rw[k2 f z]at hq;cases hq),fun f z=>I f (by rw[k1];exact ak.2 (.inr z)), ?_, ?_⟩ ?_
 ·have:=b8 j (nL.2 (by omega))
  rw[eQ]at this;simp only[decide_eq_true_eq]at this;obtain⟨f,z,e⟩:=aS.1 this;exact⟨f,z,e⟩
 ·rw[e]at a0
  rcases E6 _ (xa a0 z) g hg with B|⟨k,hk,B⟩
  ·exact⟨f,ax ..,B⟩
  ·exact⟨k,aq _ hk,B⟩
 ·have:(un its (dT ops.size false)).length<=its.length:=List.length_filter_le _ _
  omega
 ·intro i o k ho hl _ _
  have hi:i<ops.size:=(dk.1 ho).1;simp[jQ,hi]at hl
 ·rw[a4];simpa using k6
 ·rw[a4];intro f z;exact k7 f (.inr z)
 ·obtain⟨x,s,a5,hS⟩:=hM
  exact⟨x,s,⟨a5.tm,a5.defers,a5.heap.drawn _⟩,hS⟩
end Go.Sy
namespace Go.Sy
variable [bc]
variable {P : Program} {C : Ctx} {x : Sit} {a : Act} {w : World} {N : Nat} {c c' : CSt} {s : St} {call : cV} {sg : Nat -> Sig}
variable {ops : Array Oper} {its σ : List FI} {b : List Nat} {cF : CSt} {listed : Array Bool}
structure M0(P:Program)(N:Nat)(ops:Array Oper)(its:List FI)(b:List Nat):Prop where
 item:∀f∈its,∃o,ops[f.n]? =some o/\fR P ops o=some f.i.er/\f.n<ops.size
 ex:∀j,j<ops.size->∃f∈its,f.n=j
 inj:∀f∈its,∀g∈its,f.n=g.n->f=g
 back:∀(i:Nat)(o:Oper),ops[i]? =some o->∀e∈o.after,Region.binds .any e=true->e.on<i
 bit:∀(i:Nat)(o:Oper)(k:Nat),ops[i]? =some o->k<ops.size->(b.getD i 0).testBit k=true->∃e∈o.after,Region.binds .any e=true/\(e.on=k\/(b.getD e.on 0).testBit k=true)
 ok:∀f∈its,f.i.ok N=true
 self:∀f∈its,wM f
 rd:∀q∈its,q.q=true->∀p∈its,∀d,q.i.dst=some d->d∈p.i.rds->(b.getD p.n 0).testBit q.n=true
structure Re(its:List FI)(b:List Nat)(σ:List FI):Prop where
 mem:∀f,f∈σ↔f∈its
 nd:(σ.map FI.n).Nodup
 nx:σ.Pairwise Nx
 seg:∀pre f r,σ=pre++f::r->f.q=false->∀g∈r,g.q=true->∃h∈f::r,(b.getD g.n 0).testBit h.n=true
open Classical in
theorem zk(F:listed.size=ops.size){z g:FI}(I:M0 P N ops its b)(B:z∈its)(E:g∈its)(hi:z.n<ops.size):(listed.setIfInBounds z.n true).getD g.n true=if g=z then true else listed.getD g.n true:=by
 rw[eD (by omega)]
 by_cases h:g=z
 ·subst h;simp
 ·rw[if_neg (fun e=>h (I.inj g E z B e)),if_neg h]
theorem Cc(I:M0 P N ops its b)(O:Re its b σ){pre:List FI}{Q:FI}(U:Q∈its)(h:∀g∈pre,g∈its)(E:∀f∈pre,f.q=false->listed.getD f.n true=true)
 (L:∀k,k<ops.size->(b.getD Q.n 0).testBit k=true->listed.getD k true=true):∀n∈Q.i.rds,n∉(un pre listed).map dOf:=by
 intro n hn Z;obtain⟨g,hg,F⟩:=aS.1 Z;obtain⟨B,z⟩:=cN.1 hg
 have J:g.q=true:=by
  cases hq:g.q with
  |true=>rfl
  |false=>rw[E g B hq]at z;cases z
 obtain⟨d,hd,_⟩:=I.self g (h g B) J;have W:d=n:=by unfold dOf at F;rw[hd]at F;exact F
 subst W;have:=I.rd g (h g B) J Q U d hd hn;obtain⟨_,_,_,S⟩:=I.item g (h g B);rw[L g.n S this]at z;cases z
theorem ze(hs:listed.size=ops.size)(I:M0 P N ops its b)(O:Re its b σ)(hS:oR call sg N b σ cF listed c){E:FI}(S:E∈its)(h1:listed.getD E.n true=false)(hq:E.q=true)
 (a0:∀k,k<ops.size->(b.getD E.n 0).testBit k=true->listed.getD k true=true):
 ∃v,qv c E.i=some v/\oR call sg N b σ cF (listed.setIfInBounds E.n true) (c.put E.i.dst v):=by
 classical
 obtain⟨_,_,_,b5⟩:=I.item E S;have L:∀g∈its,(listed.setIfInBounds E.n true).getD g.n true=if g=E then true else listed.getD g.n true:=fun g W=>zk hs I S W b5
 obtain⟨pre,post,p,ps,e,F,a7,a9,Q,J,hA,hV⟩:=hS.ex;have z:∀g∈pre,g∈its:=fun g W=>(O.mem g).1 (by rw[e];exact ak.2 (.inl W))
 have B:∀g∈post,g∈its:=fun g W=>(O.mem g).1 (by rw[e];exact ak.2 (.inr W))
 have a4:=Cc (listed:=listed) I O S z Q a0
 have a5:E∈pre:=by
  have h2:=(O.mem E).2 S;rw[e]at h2;rcases ak.1 h2 with h3|h3
  ·exact h3
  ·exfalso
   rcases F with h4|⟨f0,r,h4,hf0⟩
   ·rw[h4]at h3;cases h3
   ·have h5:E∈r:=by
     rw[h4]at h3;rcases an.1 h3 with h|h
     ·rw[h,hf0]at hq;cases hq
     ·exact h
    obtain⟨g,W,b8⟩:=O.seg pre f0 r (by rw[e,h4]) hf0 E h5 hq;have a2:g∈post:=by rw[h4];exact W
    obtain⟨_,_,_,b7⟩:=I.item g (B g a2);have:=a0 g.n b7 b8;rw[J g a2]at this;cases this
 have b6:E∈un pre listed:=cN.2 ⟨a5,h1⟩;have hv:=hV E b6;rw[<-hA.qv a4]at hv;obtain⟨d,hd,c3⟩:=I.self E S hq;have a8:dOf E=d:=by unfold dOf;rw[hd];rfl
 refine⟨_,hv,⟨pre,post,p,ps,e,F,a7,a9, ?_, ?_, ?_, ?_⟩⟩
 ·intro f Z b4
  rw[L f (z f Z)];split
  ·rfl
  ·exact Q f Z b4
 ·intro f Z
  rw[L f (B f Z),if_neg]
  ·exact J f Z
  ·intro e2
   subst e2;have h5:=O.nx;rw[e]at h5;have h6:=(dP.1 h5).2.2 f a5 f Z hq d hd;exact h6.2 hd
 ·refine⟨fun n hn=> ?_, ?_, ?_,hA.dom⟩
  ·rw[hd,gG]
   split
   ·rename_i e2;rw[e2,a8]
   ·rename_i b2
    refine hA.get n fun hm=>hn ?_
    obtain⟨g,W,a1⟩:=aS.1 hm;obtain⟨a3,b3⟩:=cN.1 W;refine aS.2 ⟨g,cN.2 ⟨a3, ?_⟩,a1⟩;rw[L g (z g a3),if_neg]
    ·exact b3
    ·intro e2;subst e2;rw[a8]at a1;exact b2 a1.symm
  ·cases E.i.dst<;>exact hA.ob
  ·cases E.i.dst<;>exact hA.tk
 ·intro f Z
  obtain⟨a6,U⟩:=cN.1 Z;refine hV f (cN.2 ⟨a6, ?_⟩);rw[L f (z f a6)]at U;split at U
  ·cases U
  ·exact U
theorem Gr(l r:List FI):fo (l++r)=fo l++fo r:=List.filterMap_append
theorem DL{l:List FI}(h:∀f∈l,f.q=true):fo l=[]:=by unfold fo;rw[List.filterMap_eq_nil_iff];intro f z;rw[h f z];rfl
theorem o7{l:List FI}{k:Nat}:k∈fo l↔∃f∈l,f.q=false/\f.n=k:=by
 unfold fo;rw[List.mem_filterMap];constructor
 ·rintro⟨f,B,h⟩
  cases z:f.q with
  |true=>rw[z]at h;cases h
  |false=>rw[z]at h;exact⟨f,B,z,by simpa using h⟩
 ·rintro⟨f,B,z,rfl⟩;exact⟨f,B,by rw[z];rfl⟩
theorem jX(k:Nat):∀l:List FI,fo (l.filter fun q=> !decide (q.n=k))=(fo l).filter fun x=> !decide (x=k)
 |[]=>rfl
 |f::r=>by
  have z:=jX k r;rw[kE]
  by_cases h:f.n=k
  ·cases hq:f.q with
   |true=>simp only[h,decide_true,Bool.not_true,aJ,if_false,z];simp[fo,hq]
   |false=>simp only[h,decide_true,Bool.not_true,aJ,if_false,z];simp[fo,hq,h]
  ·cases hq:f.q with
   |true=>simp only[h,decide_false,Bool.not_false,if_true];simp only[fo,List.filterMap_cons,hq,if_true]at z ⊢;exact z
   |false=>simp only[h,decide_false,Bool.not_false,if_true];simp only[fo,List.filterMap_cons,hq,aJ,if_false,kE,h,decide_false,Bool.not_false,if_true]at z ⊢;rw[z]
theorem wV(z:listed.size=ops.size){k:Nat}(E:k<ops.size)(σ:List FI):un σ (listed.setIfInBounds k true)=(un σ listed).filter fun q=> !decide (q.n=k):=by
 simp only[un,List.filter_filter];apply List.filter_congr;intro q B;rw[eD (by omega)]
 by_cases h:q.n=k<;>simp[h]
theorem zf(hs:listed.size=ops.size)(I:M0 P N ops its b)(O:Re its b σ)(hS:oR call sg N b σ cF listed c){U:FI}(W:U∈its)(h1:listed.getD U.n true=false)(hq:U.q=false)
 (a5:∀k,k<ops.size->(b.getD U.n 0).testBit k=true->listed.getD k true=true) (hh:(fo (un σ listed)).head? =some U.n):
 ∃c1,dB call sg c U.i=some c1/\oR call sg N b σ cF (listed.setIfInBounds U.n true) c1:=by
 classical
 obtain⟨_,_,_,d3⟩:=I.item U W;have L:∀g∈its,(listed.setIfInBounds U.n true).getD g.n true=if g=U then true else listed.getD g.n true:=fun g F=>zk hs I W F d3
 obtain⟨pre,post,p,ps,e,a3,E,a9,S,J,hA,hV⟩:=hS.ex;have B:∀g∈pre,g∈its:=fun g F=>(O.mem g).1 (by rw[e];exact ak.2 (.inl F))
 have z:∀g∈post,g∈its:=fun g F=>(O.mem g).1 (by rw[e];exact ak.2 (.inr F))
 have b6:=Cc (listed:=listed) I O W B S a5
 have a1:∀g∈un pre listed,g.q=true:=by
  intro g F;obtain⟨a2,a0⟩:=cN.1 F;cases hq:g.q with
  |true=>rfl
  |false=>rw[S g a2 hq]at a0;cases a0
 have d5:un post listed=post:=ii.2 fun f Q=>by rw[J f Q];rfl
 have hu:fo (un σ listed)=fo post:=by
  have:un σ listed=un pre listed++un post listed:=by rw[e];exact List.filter_append ..
  rw[this,Gr,DL a1,d5];rfl
 rw[hu]at hh
 obtain⟨f0,r,a7,a8⟩:∃f r,post=f::r/\f.q=false:=by
  rcases a3 with h|h
  ·rw[h]at hh;cases hh
  ·exact h
 have b3:U=f0:=by
  rw[a7]at hh;have h2:fo (f0::r)=f0.n::fo r:=by simp[fo,a8]
  rw[h2]at hh;simp only[List.head?_cons,aw.injEq]at hh;exact I.inj U W f0 (z f0 (by rw[a7];exact ax ..)) hh.symm
 subst b3;subst a7
 have b4:(pre++U::r).Pairwise fun f g=>f.n≠g.n:=by have:=O.nd;rw[e,vg,gu]at this;exact this
 obtain⟨n,q,i⟩:=U;simp only at a8;subst a8;simp only[eX]at E;cases hs1:dB call sg p i with
 |none=>rw[hs1]at E;simp[pT]at E
 |some p1=>
  rw[hs1]at E;simp only[pT]at E;cases F:gdP (sj (b.getD n 0) p1 ps) p1 with
  |none=>rw[F]at E;simp[pU]at E
  |some e0=>
   rw[F]at E;simp only[pU]at E;obtain⟨c6,rfl⟩:=pm F;obtain⟨c1,d9,d4⟩:=hA.step (I.ok _ W) b6 hs1;refine⟨c1,d9, ?_⟩;have a4:=O.nx;rw[e]at a4;have b5:=dP.1 a4
   obtain⟨seg,a6,p2,d7,k1,k2,k3,k4,k5,k6,k7⟩:=mr (V:=un pre listed) E d4 (fun f Q=>I.ok f (z f (aq _ Q))) (fun f Q=>I.self f (z f (aq _ Q)))
    (bA.1 b5.2.1).2 (fun g F f Q=>b5.2.2 g (cN.1 F).1 f (aq _ Q))
    (fun g F=>by obtain⟨d,hd,_⟩:=I.self g (B g (cN.1 F).1) (a1 g F);exact⟨d,hd⟩)
    (fun g F=>by
     obtain⟨a2,a0⟩:=cN.1 F;rcases pq c6 (a9 g a2 (a1 g F))with h|h
     ·obtain⟨_,_,_,d8⟩:=I.item g (B g a2)
      rw[a5 g.n d8 h]at a0;cases a0
     ·exact h)
   have d6:∀g∈pre,g≠⟨n,false,i⟩:=fun g F e2=>by have:=(dP.1 b4).2.2 g F _ (ax ..);rw[e2]at this;exact this rfl
   have b8:∀g∈r,g≠⟨n,false,i⟩:=fun g F e2=>by have:=(bA.1 (dP.1 b4).2.1).1 g F;rw[e2]at this;exact this rfl
   have c7:un (pre++⟨n,false,i⟩::seg) (listed.setIfInBounds n true)=un pre listed++seg:=by
    unfold un;rw[List.filter_append,kE];have e1:(listed.setIfInBounds n true).getD n true=true:=by rw[eD (by rw[hs];exact d3)];simp
    simp only[e1,Bool.not_true,aJ,if_false]
    congr 1
    ·apply List.filter_congr
     intro g F;have:=L g (B g F);simp only at this;rw[this,if_neg (d6 g F)]
    ·apply ii.2
     intro g F;have b2:g∈r:=by rw[k1];exact ak.2 (.inl F)
     have c3:g∈⟨n,false,i⟩::r:=aq _ b2;have:=L g (z g c3);simp only at this;rw[this,if_neg (b8 g b2),J g c3];rfl
   refine⟨pre++⟨n,false,i⟩::seg,a6,p2,d7,by rw[e,k1];simp,k3,k4, ?_, ?_, ?_, ?_, ?_⟩
   ·intro f Q Z
    rcases ak.1 Q with h|h
    ·exact k5 f (.inl (a9 f h Z))
    ·rcases an.1 h with rfl|h
     ·cases Z
     ·exact k5 f (.inr h)
   ·intro f Q Z
    rcases ak.1 Q with h|h
    ·rw[L f (B f h)]
     split
     ·rfl
     ·exact S f h Z
    ·rcases an.1 h with rfl|h
     ·rw[L _ W,if_pos rfl]
     ·rw[k2 f h]at Z;cases Z
   ·intro f Q
    have c4:f∈r:=by rw[k1];exact ak.2 (.inr Q)
    have b7:f∈⟨n,false,i⟩::r:=aq _ c4;rw[L f (z f b7),if_neg (b8 f c4)];exact J f b7
   ·rw[c7,dh]
    refine⟨fun m hm=>k6.get m (fun h=>hm ?_),k6.ob,k6.tk,k6.dom⟩;rw[ak]at h ⊢;exact h.symm
   ·rw[c7]
    intro f Q;exact k7 f (ak.1 Q)
theorem Gp{k:Nat}{g:Nat}{A:List t8}(h:ky b k A=true)(E:∀l,A.head? =some l->g∈l)(I:∀l,A.head? =some l->∀x∈l,x≠g->(b.getD g 0).testBit x=false):
 ∃F,ky b F (A.filterMap fun p=>match p with|x::r=>if x=g then some r else none|[]=>none)=true:=by
 cases A with
 |nil=>cases k<;>simp[ky]at h
 |cons l A=>
  cases l with
  |nil=>have:=E [] rfl;cases this
  |cons y t=>
   cases k with
   |zero=>simp[ky]at h
   |succ k=>
    simp only[ky,aT]at h;have z:=h g (E _ rfl);rw[fL]at z;rcases z with z|z
    ·exfalso
     rw[List.any_eq_true]at z;obtain⟨x,J,B⟩:=z;rw[aA]at B;have L:=of_decide_eq_true B.1;have:=I _ rfl x J L;unfold mV at B;rw[B.2]at this;cases this
    ·exact⟨k,z⟩
theorem rm{R R':List FI->t8}{g:Nat}:∀{A:List (List FI)},(∀σ∈A,∀r,R σ=g::r->R' σ=r)->
 (A.filter fun σ=>decide ((R σ).head? =some g)).map R'=(A.map R).filterMap fun p=>match p with|x::r=>if x=g then some r else none|[]=>none
 |[],_=>rfl
 |σ::A,h=>by
  have B:=rm (R:=R) (R':=R') (g:=g) (A:=A) fun τ E=>h τ (aq _ E)
  have F:=h σ (ax ..);rw[kE,aO,List.filterMap_cons];cases hR:R σ with
  |nil=>simp only[List.head?_nil,reduceCtorEq,decide_false,aJ,if_false];exact B
  |cons y t=>
   by_cases z:y=g
   ·subst z
    simp only[List.head?_cons,decide_true,if_true,aO,F t hR];rw[B]
   ·have:¬(some y=some g):=fun e=>z (by injection e)
    simp only[List.head?_cons,this,decide_false,aJ,if_false,z];exact B
theorem Gx(
 hcal:fU P call)(I:M0 P N ops its b){ords:List (List FI)}(hO:∀σ∈ords,Re its b σ){Q:LAf}(hQ:∀a w,M C N cF a w->Q .normal a w):
 ∀(L:Nat)(listed:Array Bool)(c:CSt)(a:Act)(w:World)(A:List (List FI))(k:Nat),(un its listed).length<=L->listed.size=ops.size->
  (∀(i:Nat)(o:Oper)(k:Nat),ops[i]? =some o->listed.getD i true=true->k<ops.size->(b.getD i 0).testBit k=true->listed.getD k true=true)->
  (∀σ∈A,σ∈ords/\oR call sg N b σ cF listed c)->ky b k (A.map fun σ=>fo (un σ listed))=true->M C N c a w->wpAny P .any ops Q L listed a w:=by
 classical
 have b8:∀(listed:Array Bool),listed.size=ops.size->∀k,k<ops.size->listed.getD k false=listed.getD k true:=by intro listed S k hk;simp[jQ,S,hk]
 have done:∀(listed:Array Bool)(c:CSt)(a:Act)(w:World)(A:List (List FI))(k:Nat),un its listed=[]->(∀σ∈A,σ∈ords/\oR call sg N b σ cF listed c)->ky b k (A.map fun σ=>fo (un σ listed))=true->M C N c a w->Region.ready .any ops listed=[]/\Q .normal a w:=by
  intro listed c a w A k h0 g3 B hM;constructor
  ·rw[List.eq_nil_iff_forall_not_mem]
   intro j hj;obtain⟨U,o,W,h3⟩:=mem_ready.1 hj;have f5:j<ops.size:=(dk.1 W).1;obtain⟨z,E,rfl⟩:=I.ex j f5;have:z∈un its listed:=cN.2 ⟨E,U⟩;rw[h0]at this;cases this
  ·cases A with
   |nil=>cases k<;>simp[ky]at B
   |cons σ A=>
    obtain⟨O,J⟩:=g3 σ (ax ..)
    have d3:un σ listed=[]:=by rw[List.eq_nil_iff_forall_not_mem];intro f hf;obtain⟨U,W⟩:=cN.1 hf;have:f∈un its listed:=cN.2 ⟨((hO σ O).mem f).1 U,W⟩;rw[h0]at this;cases this
    obtain⟨pre,post,p,ps,e,hp,a2,_,_,a5,hA,_⟩:=J.ex
    have f6:post=[]:=by
     cases post with
     |nil=>rfl
     |cons f r=>have:f∈un σ listed:=cN.2 ⟨by rw[e];simp,a5 f (ax ..)⟩;rw[d3]at this;cases this
    subst f6;simp only[eX,aw.injEq]at a2;subst a2;have hD:un pre listed=[]:=by rw[<-d3,e,bK]
    rw[hD]at hA;refine hQ a w ?_;obtain⟨x,s,f3,b2⟩:=hM;refine M.slots (c:=c) ⟨x,s,f3,b2⟩ ⟨hA.dom,by rw[<-hA.ob];exact b2.inv.so,by rw[<-hA.ob];exact b2.inv.wf⟩ hA.ob.symm hA.tk.symm (fun i=> .inl (hA.get i (by simp)).symm)
 intro L;induction L with
 |zero=>intro listed c a w A k hf S b5 J B hM;exact done listed c a w A k (bP.1 (by omega)) J B hM
 |succ L ih=>
  intro listed c a w A k hf S b5 J B hM;constructor
  ·intro d7
   by_cases h0:un its listed=[]
   ·exact(done listed c a w A k h0 J B hM).2
   ·exfalso
    have hp:∃n,∃f∈un its listed,f.n=n:=by
     cases hc:un its listed with
     |nil=>exact absurd hc h0
     |cons f r=>exact⟨_,f,ax ..,rfl⟩
    obtain⟨n,⟨f,e7,g6⟩,b6⟩:=Yg _ hp;obtain⟨U,W⟩:=cN.1 e7;obtain⟨o,h3,_,h4⟩:=I.item f U
    have:f.n∈Region.ready .any ops listed:=by refine mem_ready.2 ⟨W,o,h3,fun e he hb=> ?_⟩;have d5:=I.back f.n o h3 e he hb;rw[b8 listed S _ (by omega),<-Bool.not_eq_false];intro e8;obtain⟨g,hg,d4⟩:=I.ex e.on (by omega);have:=b6 e.on ⟨g,cN.2 ⟨hg,by rw[d4];exact e8⟩,d4⟩;omega
    rw[d7]at this;cases this
  ·intro i e6
   obtain⟨U,o,W,h3⟩:=mem_ready.1 e6;have a0:i<ops.size:=(dk.1 W).1;obtain⟨z,E,rfl⟩:=I.ex i a0;obtain⟨o',e4,a3,_⟩:=I.item z E;rw[W]at e4;cases e4
   have F:∀k,k<ops.size->(b.getD z.n 0).testBit k=true->listed.getD k true=true:=by
    intro k hk hb;obtain⟨e,he,c6,f2⟩:=I.bit z.n o k W hk hb;have a7:=h3 e he c6;have f1:=I.back z.n o W e he c6;rw[b8 listed S _ (by omega)]at a7;rcases f2 with h|h
    ·rw[<-h];exact a7
    ·exact b5 e.on (ops[e.on]'(by omega)) k (by simp) a7 hk h
   have g4:(un its (listed.setIfInBounds z.n true)).length<(un its listed).length:=by rw[wV S a0];refine List.length_filter_lt_length_iff_exists.2 ⟨z,cN.2 ⟨E,U⟩,by simp⟩
   have a4:∀(i:Nat)(o:Oper)(k:Nat),ops[i]? =some o->(listed.setIfInBounds z.n true).getD i true=true->k<ops.size->(b.getD i 0).testBit k=true->(listed.setIfInBounds z.n true).getD k true=true:=by
    intro i2 o2 c3 e9 a8 d8 d6;rw[eD (by omega)]at a8 ⊢;split
    ·rfl
    ·split at a8
     ·rename_i e1
      subst e1;exact F c3 d8 d6
     ·exact b5 i2 o2 c3 e9 a8 d8 d6
   have c7:(listed.setIfInBounds z.n true).size=ops.size:=by simpa using S
   obtain⟨σ0,A0,Z⟩:∃σ A',A=σ::A':=by
    cases A with
    |nil=>cases k<;>simp[ky]at B
    |cons σ A'=>exact⟨σ,A',rfl⟩
   cases hq:z.q with
   |true=>
    obtain⟨e5,g1⟩:=J σ0 (by rw[Z];exact ax ..);obtain⟨v,hv,_⟩:=ze S I (hO σ0 e5) g1 E U hq F;refine gk hcal hM (I.ok z E) W a3 (nS (call:=call) (sg:=sg) hv) fun a' w' a9=> ?_
    refine ih _ _ a' w' A k (by omega) c7 a4 (fun σ O=>⟨(J σ O).1, ?_⟩) ?_ a9
    ·obtain⟨v',d9,f7⟩:=ze S I (hO σ (J σ O).1) (J σ O).2 E U hq F
     rw[hv]at d9;injection d9 with e;subst e
     exact f7
    ·have:(A.map fun σ=>fo (un σ (listed.setIfInBounds z.n true)))=A.map fun σ=>fo (un σ listed):=by
      apply List.map_congr_left;intro σ O;rw[wV S a0,jX,ii];intro x hx;obtain⟨f,hf,b3,rfl⟩:=o7.1 hx;have a6:=((hO σ (J σ O).1).mem f).1 (cN.1 hf).1;have:¬f.n=z.n:=fun e=>by rw[I.inj f a6 z E e,hq]at b3;cases b3
      simp[this]
     rw[this];exact B
   |false=>
    have b4:∀σ∈A,z.n∈fo (un σ listed):=fun σ O=>o7.2 ⟨z,cN.2 ⟨((hO σ (J σ O).1).mem z).2 E,U⟩,hq,rfl⟩
    obtain⟨k',a1⟩:=Gp (g:=z.n) B (fun l hl=>by
     rw[Z]at hl;simp only[aO,List.head?_cons,aw.injEq]at hl;rw[<-hl];exact b4 σ0 (by rw[Z];exact ax ..)) (fun l hl y hy g5=>by
     rw[Z]at hl;simp only[aO,List.head?_cons,aw.injEq]at hl;rw[<-hl]at hy;obtain⟨f,hf,b3,rfl⟩:=o7.1 hy;obtain⟨g2,e0⟩:=cN.1 hf;have a6:=((hO σ0 (J σ0 (by rw[Z];exact ax ..)).1).mem f).1 g2;obtain⟨_,_,_,d5⟩:=I.item f a6;rw[<-Bool.not_eq_true];intro hb;rw[F f.n d5 hb]at e0;cases e0)
    rw[<-rm (R:=fun σ=>fo (un σ listed)) (R':=fun σ=>fo (un σ (listed.setIfInBounds z.n true))) (fun σ O r hR=>by
     show fo (un σ (listed.setIfInBounds z.n true))=r;rw[wV S a0,jX];have c4:fo (un σ listed)=z.n::r:=hR;rw[c4,kE];simp only[decide_true,Bool.not_true,aJ,if_false];rw[ii];intro y hy
     have b7:(fo (un σ listed)).Nodup:=by
      have h5:=(hO σ (J σ O).1).nd
      have h6:(fo (un σ listed)).Sublist (σ.map FI.n):=by
       have h7:(fo (un σ listed)).Sublist ((un σ listed).map FI.n):=by
        unfold fo;rw[show(fun f:FI=>if f.q=true then none else some f.n)=fun f:FI=>if f.q=true then none else some (FI.n f)from rfl];generalize un σ listed=l;induction l with
        |nil=>exact m6.slnil
        |cons f r ih=>
         rw[List.filterMap_cons,aO];cases hq:f.q with
         |true=>exact m6.cons _ ih
         |false=>exact m6.cons_cons _ ih
       exact h7.trans (m6.map _ List.filter_sublist)
      exact h5.sublist h6
     rw[c4]at b7;have:y≠z.n:=fun e=>by rw[e]at hy;exact(ed.1 b7).1 hy
     simp[this])]at a1
    obtain⟨σ1,f0⟩:∃σ,σ∈A.filter fun σ=>decide ((fo (un σ listed)).head? =some z.n):=by
     cases hX:A.filter fun σ=>decide ((fo (un σ listed)).head? =some z.n)with
     |nil=>rw[hX]at a1;cases k'<;>simp[ky]at a1
     |cons σ _=>exact⟨σ,ax ..⟩
    obtain⟨h4,h5⟩:=List.mem_filter.1 f0;obtain⟨c1,e2,_⟩:=zf S I (hO σ1 (J σ1 h4).1) (J σ1 h4).2 E U hq F (of_decide_eq_true h5);refine gk hcal hM (I.ok z E) W a3 e2 fun a' w' a9=> ?_
    refine ih _ _ a' w' _ k' (by omega) c7 a4 (fun σ O=> ?_) a1 a9;obtain⟨h6,h7⟩:=List.mem_filter.1 O;obtain⟨c2,e3,f4⟩:=zf S I (hO σ (J σ h6).1) (J σ h6).2 E U hq F (of_decide_eq_true h7);rw[e2]at e3;injection e3 with e;subst e
    exact⟨(J σ h6).1,f4⟩
theorem PA(hl:jr (fR P ops) ops.toList=some (unF its))(hd:drawn ops (unF its)=true)(b6:∀f∈its,f.i.ok N=true)(I:PQ (Region.before ops).toList its=true)
 (S:(its.map FI.n).Nodup) (J:∀f∈its,f.n<its.length) (a2:∀j∈bS its.length,(its.map FI.n).contains j=true):
 M0 P N ops its (Region.before ops).toList/\(∀f∈its,∀g∈its,f.n≠g.n->∀d,f.i.dst=some d->g.i.dst≠some d)/\its.length=ops.size:=by
 simp only[PQ,aT,fL,dv]at I;obtain⟨a0,a6⟩:=eN hl;have a7:(unF its).length=its.length:=by simp[unF]
 have a8:its.length=ops.size:=by rw[<-a7,a0,aP]
 have U:∀f∈its,(unF its).getD f.n ⟨none,none,.lenC 0⟩=f.i.er:=by intro f B;have:=J f B;rw[aa];simp only[unF,aR,cM this,bm,ba];exact qT _ S B
 simp only[drawn,aA,decide_eq_true_eq]at hd;obtain⟨⟨hc,ht⟩,L⟩:=hd
 have Z:∀f∈its,∃o,ops[f.n]? =some o/\fR P ops o=some f.i.er/\f.n<ops.size:=by
  intro f B;have b7:=J f B;have a1:f.n<ops.toList.length:=by rw[aP];omega
  refine⟨ops.toList[f.n],by rw[<-cY,af a1], ?_,by omega⟩;have z:=a6 f.n a1 (by omega);rw[z]
  congr 1
  have F:=U f B;rwa[aa,af (by omega),ba]at F
 have a4:∀f∈its,∀g∈its,f.n=g.n->f=g:=by
  intro f B g hg e;have:its.Pairwise fun f g=>f.n≠g.n:=by rw[vg,gu]at S;exact S
  rw[gZ]at this;obtain⟨i,hi,rfl⟩:=List.mem_iff_getElem.1 B;obtain⟨j,hj,rfl⟩:=List.mem_iff_getElem.1 hg;rcases Nat.lt_trichotomy i j with h|h|h
  ·exact absurd e (this i j hi hj h)
  ·subst h;rfl
  ·exact absurd e.symm (this j i hj hi h)
 have b3:∀f∈its,∀g∈its,f.n≠g.n->∀d,f.i.dst=some d->g.i.dst≠some d:=by
  have O:∀f∈its,∀g∈its,f.n<g.n->∀d,f.i.dst=some d->g.i.dst≠some d:=by
   intro f B g hg a5 d z F
   have a3:(unF its).Pairwise fun u v=>∀d,u.dst=some d->v.dst≠some d:=by rw[vg,List.pairwise_filterMap]at L;refine L.imp ?_;intro u v b2 d hu hv;exact b2 d hu d hv rfl
   rw[gZ]at a3;have c4:=J f B;have b8:=J g hg
   have g1:(unF its)[f.n]'(by omega)=f.i.er:=by have:=U f B;rwa[aa,af (by omega),ba]at this
   have g2:(unF its)[g.n]'(by omega)=g.i.er:=by have:=U g hg;rwa[aa,af (by omega),ba]at this
   exact a3 f.n g.n (by omega) (by omega) a5 d (by rw[g1];exact z) (by rw[g2];exact F)
  intro f B g hg c3 d z F;rcases bH f.n g.n with h|h
  ·exact O f B g hg h d z F
  ·exact O g hg f B (by omega) d F z
 have E:∀(i:Nat)(o:Oper),ops[i]? =some o->(∀e∈o.after,Region.binds .any e=true->e.on<i)/\
  ∀k,k<ops.size->((Region.before ops).toList.getD i 0).testBit k=true->∃e∈o.after,Region.binds .any e=true/\(e.on=k\/((Region.before ops).toList.getD e.on 0).testBit k=true):=by
  intro i o ho;unfold pz at hc;rw[aT]at hc;have hi:i<ops.size:=(dk.1 ho).1
  have z:=hc (o,i) (by rw[List.mem_zipIdx_iff_getElem?];simpa using ho)
  simp only[aA,Array.all_eq_true_iff_forall_mem,aT,fL,dv,decide_eq_true_eq]at z;refine⟨fun e he hb=>(z.1 e he).resolve_left (by simp[hb]),fun k hk hb=> ?_⟩;have F:=(z.2 k (nL.2 hk)).resolve_left (by simp only[hb];simp);obtain⟨_,h3⟩:=F;rw[<-Array.any_toList,List.any_eq_true]at h3;obtain⟨e,he,h4⟩:=h3;rw[Array.mem_toList_iff]at he;simp only[aA,fL,beq_iff_eq]at h4;exact⟨e,he,h4.1,h4.2⟩
 have hq:∀q∈its,q.q=true->∃d,q.i.dst=some d/\∀p∈its,d∈p.i.rds->((Region.before ops).toList.getD p.n 0).testBit q.n=true/\p.n≠q.n:=by
  intro q hq W;have z:=(I q hq).resolve_left (by rw[W];simp);cases hd:q.i.dst with
  |none=>rw[hd]at z;cases z
  |some d=>
   rw[hd]at z;simp only[aT,fL,dv,aA,decide_eq_true_eq,mV]at z;refine⟨d,rfl,fun p hp hr=> ?_⟩;rcases z p hp with F|F
   ·rw[eQ]at F;simp only[decide_eq_false_iff_not]at F;exact absurd hr F
   ·exact F
 have Q:∀f∈its,wM f:=by intro f B I;obtain⟨d,hd,z⟩:=hq f B I;exact⟨d,hd,fun h=>(z f B h).2 rfl⟩
 have b5:∀q∈its,q.q=true->∀p∈its,∀d,q.i.dst=some d->d∈p.i.rds->((Region.before ops).toList.getD p.n 0).testBit q.n=true:=by intro q b4 W p hp d hd hr;obtain⟨d',a9,z⟩:=hq q b4 W;rw[a9]at hd;cases hd;exact(z p hp hr).1
 refine⟨⟨Z,fun j hj=> ?_,a4,fun i o ho=>(E i o ho).1,fun i o k ho hk hb=>(E i o ho).2 k hk hb,b6,Q,b5⟩,b3,a8⟩;have:=a2 j (nL.2 (by omega));rw[eQ]at this;simp only[decide_eq_true_eq]at this;obtain⟨f,B,e⟩:=aS.1 this;exact⟨f,B,e⟩
theorem mz{l:List FI}(h:(l.map FI.n).Nodup){f:FI}(z:f∈l):th l f.n=f:=by
 induction l with
 |nil=>cases z
 |cons g r B=>
  simp only[aO,ed]at h;simp only[th];rcases an.1 z with rfl|z
  ·rw[if_pos rfl]
  ·rw[if_neg,B h.2 z]
   intro e;apply h.1;rw[e];exact ie z
theorem ux{l:List FI}{f:FI}:∀{p:t8},f∈iz l p↔∃k∈p,th l k=f
 |[]=>by simp[iz]
 |k::r=>by
  simp only[iz,an,ux (p:=r)];constructor
  ·rintro(h|⟨j,z,h⟩)
   ·exact⟨k,.inl rfl,h.symm⟩
   ·exact⟨j,.inr z,h⟩
  ·rintro⟨j,rfl|z,h⟩
   ·exact .inl h.symm
   ·exact .inr ⟨j,z,h⟩
theorem uy{l:List FI}(h:(l.map FI.n).Nodup):∀{p:t8},(∀k∈p,k∈l.map FI.n)->(iz l p).map FI.n=p
 |[],_=>rfl
 |k::r,hp=>by simp only[iz,aO];rw[uy h (p:=r) fun j B=>hp j (aq _ B)];obtain⟨f,z,e⟩:=aS.1 (hp k (ax ..));rw[<-e,mz h z]
theorem C1{s:Nat}(l:List FI):vI b (some s) l=true->∀g∈l,g.q=true->(b.getD g.n 0).testBit s=true\/∃h∈l,(b.getD g.n 0).testBit h.n=true:=by
 induction l generalizing s with
 |nil=>intro _ g z;cases z
 |cons f r F=>
  intro h g z E;simp only[vI]at h;split at h
  ·simp only[aA,mV]at h
   rcases an.1 z with rfl|z
   ·exact .inl h.1
   ·rcases F h.2 g z E with B|⟨k,hk,B⟩
    ·exact .inl B
    ·exact .inr ⟨k,aq _ hk,B⟩
  ·rename_i I
   rcases an.1 z with rfl|z
   ·exact absurd E I
   ·rcases F h g z E with B|⟨k,hk,B⟩
    ·exact .inr ⟨f,ax ..,B⟩
    ·exact .inr ⟨k,aq _ hk,B⟩
theorem rI:∀{pre:List FI}{s:LAa}{f:FI}{r:List FI},vI b s (pre++f::r)=true->f.q=false->vI b (some f.n) r=true
 |[],s,f,r,h,hf=>by simp only[bw,vI,hf,aJ,if_false]at h;exact h
 |g::pre,s,f,r,h,hf=>by
  simp only[bU,vI]at h;split at h
  ·rw[aA]at h;exact rI h.2 hf
  ·exact rI h hf
theorem mS:∀{l:List FI},ti b l=true->l.Pairwise fun p q=>(b.getD p.n 0).testBit q.n=false
 |[],_=>iI.nil
 |p::r,h=>by simp only[ti,aA,aT]at h;refine bA.2 ⟨fun q z=> ?_,mS h.2⟩;have:=h.1 q z;simpa only[dv,mV]using this
theorem uY{l:List FI}:∀{ps:List t8},iW call sg b l ps c=some cF->∀p∈ps,eX call sg b (iz l p) [] c=some cF
 |[],h,p,hp=>by cases hp
 |[q],h,p,hp=>by rw[aN.1 hp];exact h
 |q::F::r,h,p,hp=>by
  simp only[iW]at h;cases h1:eX call sg b (iz l q) [] c with
  |none=>rw[h1]at h;simp[nz]at h
  |some y=>
   cases h2:iW call sg b l (F::r) c with
   |none=>rw[h1,h2]at h;simp[nz]at h
   |some z=>
    rw[h1,h2]at h;obtain⟨E,B⟩:=pm h;rcases an.1 hp with rfl|hp
    ·rw[h1,B]
    ·exact uY (h2.trans (by rw[<-E,B])) p hp
theorem Dz(a5:fU P call){id:Nat}(hl:jr (fR P ops) ops.toList=some (unF its))(hd:drawn ops (unF its)=true)(hm:P.follows .mixedOrders=true)
 (a6:its.all (fun f=>f.i.ok N)=true) {ps:List t8} (U:NV (Region.before ops).toList its ps=true) {Q:LAf} (hQ:∀a w,M C N cF a w->Q .normal a w) (hM:M C N c a w)
 (h:iW call sg (Region.before ops).toList its ps c=some cF):(Code.region id ops true).wp P Q a w:=by
 simp only[NV,aA,decide_eq_true_eq]at U;obtain⟨⟨⟨⟨⟨b6,J⟩,a9⟩,W⟩,a2⟩,hc⟩:=U;rw[aT]at a6 a9 W a2;obtain⟨I,b8,c4⟩:=PA hl hd a6 b6 J (fun f z=>of_decide_eq_true (a9 f z)) W
 have hO:∀σ∈ps.map (iz its),Re its (Region.before ops).toList σ:=by
  intro σ hσ;obtain⟨p,hp,rfl⟩:=aS.1 hσ;have Z:=a2 p hp;simp only[aA,decide_eq_true_eq,aT,eQ]at Z;obtain⟨⟨⟨⟨b5,a3⟩,c3⟩,S⟩,L⟩:=Z;have b3:=uy J a3
  have F:∀f,f∈iz its p↔f∈its:=by
   intro f;rw[ux];constructor
   ·rintro⟨k,hk,rfl⟩
    obtain⟨g,hg,rfl⟩:=aS.1 (a3 k hk);rw[mz J hg];exact hg
   ·intro z
    exact⟨f.n,c3 f.n (ie z),mz J z⟩
  have E:((iz its p).map FI.n).Nodup:=by rw[b3];exact b5
  refine⟨F,E, ?_,fun pre f r e z g hg hq=> ?_⟩
  ·have Z:(iz its p).Pairwise fun f g=>f.n≠g.n:=by rw[vg,gu]at E;exact E
   refine((mS L).and Z).imp_of_mem ?_;rintro u v hu hv ⟨h2,h3⟩ b4 d a7;have a8:=(F u).1 hu;have b2:=(F v).1 hv;refine⟨fun hr=> ?_,fun e=>b8 u a8 v b2 h3 d e a7⟩;rw[I.rd v b2 b4 u a8 d a7 hr]at h2;cases h2
  ·rw[e]at S
   rcases C1 _ (rI S z) g hg hq with Z|⟨k,hk,Z⟩
   ·exact⟨f,ax ..,Z⟩
   ·exact⟨k,aq _ hk,Z⟩
 have B:∀f∈its,(dT ops.size false).getD f.n true=false:=by intro f z;obtain⟨_,_,_,this⟩:=I.item f z;simp[jQ,this]
 refine wp_region_any hm ?_;refine Gx (its:=its) (b:=(Region.before ops).toList) (cF:=cF) (sg:=sg) (ords:=ps.map (iz its)) a5 I hO hQ ops.size _ c a _ (ps.map (iz its)) its.length ?_ (by simp) ?_ (fun σ hσ=>⟨hσ, ?_⟩) ?_ ?_
 ·have:(un its (dT ops.size false)).length<=its.length:=List.length_filter_le _ _
  omega
 ·intro i o k ho hl _ _
  have hi:i<ops.size:=(dk.1 ho).1;simp[jQ,hi]at hl
 ·have O:=hO σ hσ
  obtain⟨p,hp,rfl⟩:=aS.1 hσ;have a4:=uY h p hp;obtain⟨seg,post,p2,b7,k1,k2,k3,k4,k5,k6,k7⟩:=mr (N:=N) (D:=[]) (V:=[]) a4 ⟨fun _ _=>rfl,rfl,rfl,by obtain⟨x,s,_,hS⟩:=hM;exact hS.inv.dom⟩ (fun f z=>I.ok f ((O.mem f).1 z)) (fun f z=>I.self f ((O.mem f).1 z)) O.nx (by simp) (by simp) (by simp)
  have a0:un seg (dT ops.size false)=seg:=by apply ii.2;intro f z;rw[B f ((O.mem f).1 (by rw[k1];exact ak.2 (.inl z)))];rfl
  refine⟨seg,post,p2,b7,k1,k3,k4,fun f z _=>k5 f (.inr z),(fun f z hq=>by rw[k2 f z]at hq;cases hq),fun f z=>B f ((O.mem f).1 (by rw[k1];exact ak.2 (.inr z))), ?_, ?_⟩
  ·rw[a0];simpa using k6
  ·rw[a0];intro f z;exact k7 f (.inr z)
 ·rw[List.map_map]
  have:(ps.map ((fun σ=>fo (un σ (dT ops.size false)))∘iz its))=ps.map fun p=>fo (iz its p):=by
   apply List.map_congr_left;intro p hp;show fo (un (iz its p) _)=_
   congr 1
   apply ii.2;intro f z;rw[B f (((hO _ (ie hp)).mem f).1 z)];rfl
  rw[this];exact hc
 ·obtain⟨x,s,a1,hS⟩:=hM
  exact⟨x,s,⟨a1.tm,a1.defers,a1.heap.drawn _⟩,hS⟩
end Go.Sy
namespace Go.Sy
variable [bc]
variable {P : Program} {C : Ctx} {x : Sit} {a : Act} {w : World} {N : Nat} {c c' : CSt} {s : St} {T : lj}
def Ex.out:Ex->Exit
 | .n=> .normal
 | .x id=> .exit id
 | .r=> .ret
def EQ(C:Ctx)(N:Nat)(e:Ex)(c':CSt):LAf:=fun h a w=>h=e.out/\M C N c' a w
def tE(P:Program)(T:lj)(n:Nat):Prop:=
 (∀(r:RC)(c:CSt)(e:Ex)(c':CSt),gA T n r c=some (e,c')->∀(code:Code)(C:Ctx)(N:Nat)(a:Act)(w:World),ct P code=r.er->r.ok N=true->M C N c a w->code.wp P (EQ C N e c') a w)/\
 (∀(b:RC)(c:CSt)(e:Ex)(c':CSt),gA T n (.loop b) c=some (e,c')->∀(code:Code)(C:Ctx)(N:Nat)(a:Act)(w:World),ct P code=b.er->b.ok N=true->M C N c a w->Code.rounds P code (EQ C N e c') n a w)
theorem P5{code:Code}{b:fG}(h:aX P code=some (.loop b)):∃B,code= .loop B/\aX P B=some b:=by
 cases code with
 |loop B=>simp only[aX]at h;obtain⟨J,I,F⟩:=ai.1 h;cases F;exact⟨B,rfl,I⟩
 |region id ops E=>
  simp only[aX]at h;split at h<;>try (cases h;done)
  split at h
  ·rw[aG]at h;cases h.2
  ·cases h
 |seq y z=>simp only[aX]at h;split at h<;>cases h
 |cond c y z=>simp only[aX]at h;split at h<;>cases h
 |block id b=>simp only[aX]at h;obtain⟨_,_,h⟩:=ai.1 h;cases h
 |_=>simp[aX]at h
theorem Ge{code:Code}{id:Nat}{b:fG}(h:aX P code=some (.block id b)):∃B,code= .block id B/\aX P B=some b:=by
 cases code with
 |block id B=>simp only[aX]at h;obtain⟨J,I,F⟩:=ai.1 h;cases F;exact⟨B,rfl,I⟩
 |region id ops E=>
  simp only[aX]at h;split at h<;>try (cases h;done)
  split at h
  ·rw[aG]at h;cases h.2
  ·cases h
 |seq y z=>simp only[aX]at h;split at h<;>cases h
 |cond c y z=>simp only[aX]at h;split at h<;>cases h
 |loop b=>simp only[aX]at h;obtain⟨_,_,h⟩:=ai.1 h;cases h
 |_=>simp[aX]at h
theorem xc4{code:Code}{y z:fG}(h:aX P code=some (.seq y z)):∃E B,code= .seq E B/\aX P E=some y/\aX P B=some z:=by
 cases code with
 |seq E B=>
  simp only[aX]at h;split at h<;>try (cases h;done)
  rename_i L J I hz;cases h;exact⟨E,B,rfl,I,hz⟩
 |region id ops F=>
  simp only[aX]at h;split at h<;>try (cases h;done)
  split at h
  ·rw[aG]at h;cases h.2
  ·cases h
 |cond c y z=>simp only[aX]at h;split at h<;>cases h
 |block id b=>simp only[aX]at h;obtain⟨_,_,h⟩:=ai.1 h;cases h
 |loop b=>simp only[aX]at h;obtain⟨_,_,h⟩:=ai.1 h;cases h
 |_=>simp[aX]at h
theorem P7{code:Code}{k:Arg}{y z:fG}(h:aX P code=some (.cond k y z)):∃F B E,code= .cond F B E/\bq P 0 F=some k/\aX P B=some y/\aX P E=some z:=by
 cases code with
 |cond F B E=>
  simp only[aX]at h;split at h<;>try (cases h;done)
  rename_i Q O S I L hz;cases h;exact⟨F,B,E,rfl,I,L,hz⟩
 |region id ops J=>
  simp only[aX]at h;split at h<;>try (cases h;done)
  split at h
  ·rw[aG]at h;cases h.2
  ·cases h
 |seq y z=>simp only[aX]at h;split at h<;>cases h
 |block id b=>simp only[aX]at h;obtain⟨_,_,h⟩:=ai.1 h;cases h
 |loop b=>simp only[aX]at h;obtain⟨_,_,h⟩:=ai.1 h;cases h
 |_=>simp[aX]at h
theorem xc6{code:Code}{l:LAd}(h:aX P code=some (.ops l)):∃id ops,code= .region id ops false/\jr (fR P ops) ops.toList=some l:=by
 cases code with
 |region id ops B=>
  simp only[aX]at h;split at h<;>try (cases h;done)
  rename_i F E;cases B with
  |false=>simp only[aJ,if_false,aw.injEq,fG.ops.injEq]at h;subst h;exact⟨id,ops,rfl,E⟩
  |true=>simp only[if_true]at h;rw[aG]at h;cases h.2
 |seq y z=>simp only[aX]at h;split at h<;>cases h
 |cond c y z=>simp only[aX]at h;split at h<;>cases h
 |block id b=>simp only[aX]at h;obtain⟨_,_,h⟩:=ai.1 h;cases h
 |loop b=>simp only[aX]at h;obtain⟨_,_,h⟩:=ai.1 h;cases h
 |_=>simp[aX]at h
theorem MT{code:Code}{b F:t8}{l:LAd}(h:aX P code=some (.drw b F l)):∃id ops,code= .region id ops true/\jr (fR P ops) ops.toList=some l/\drawn ops l=true/\P.follows .mixedOrders=true/\b=(Region.before ops).toList/\F=xit l:=by
 cases code with
 |region id ops B=>
  simp only[aX]at h;split at h<;>try (cases h;done)
  rename_i J I;cases B with
  |false=>simp only[aJ,if_false,aw.injEq,reduceCtorEq]at h
  |true=>simp only[if_true]at h;rw[aG]at h;obtain⟨E,h⟩:=h;simp only[aw.injEq,fG.drw.injEq]at h;obtain⟨rfl,rfl,rfl⟩:=h;rw[aA]at E;exact⟨id,ops,rfl,I,E.1,E.2,rfl,rfl⟩
 |seq y z=>simp only[aX]at h;split at h<;>cases h
 |cond c y z=>simp only[aX]at h;split at h<;>cases h
 |block id b=>simp only[aX]at h;obtain⟨_,_,h⟩:=ai.1 h;cases h
 |loop b=>simp only[aX]at h;obtain⟨_,_,h⟩:=ai.1 h;cases h
 |_=>simp[aX]at h
theorem P4{code:Code}(h:aX P code=some .skip):code= .skip:=by
 cases code with
 |skip=>rfl
 |region id ops B=>
  simp only[aX]at h;split at h<;>try (cases h;done)
  split at h
  ·rw[aG]at h;cases h.2
  ·cases h
 |seq y z=>simp only[aX]at h;split at h<;>cases h
 |cond c y z=>simp only[aX]at h;split at h<;>cases h
 |block id b=>simp only[aX]at h;obtain⟨_,_,h⟩:=ai.1 h;cases h
 |loop b=>simp only[aX]at h;obtain⟨_,_,h⟩:=ai.1 h;cases h
 |_=>simp[aX]at h
theorem xc5{code:Code}(h:aX P code=some .ret):code= .ret:=by
 cases code with
 |ret=>rfl
 |region id ops B=>
  simp only[aX]at h;split at h<;>try (cases h;done)
  split at h
  ·rw[aG]at h;cases h.2
  ·cases h
 |seq y z=>simp only[aX]at h;split at h<;>cases h
 |cond c y z=>simp only[aX]at h;split at h<;>cases h
 |block id b=>simp only[aX]at h;obtain⟨_,_,h⟩:=ai.1 h;cases h
 |loop b=>simp only[aX]at h;obtain⟨_,_,h⟩:=ai.1 h;cases h
 |_=>simp[aX]at h
theorem P6{code:Code}{id:Nat}(h:aX P code=some (.exit id)):code= .exit id:=by
 cases code with
 |exit E=>simp only[aX,aw.injEq,fG.exit.injEq]at h;rw[h]
 |region id ops B=>
  simp only[aX]at h;split at h<;>try (cases h;done)
  split at h
  ·rw[aG]at h;cases h.2
  ·cases h
 |seq y z=>simp only[aX]at h;split at h<;>cases h
 |cond c y z=>simp only[aX]at h;split at h<;>cases h
 |block id b=>simp only[aX]at h;obtain⟨_,_,h⟩:=ai.1 h;cases h
 |loop b=>simp only[aX]at h;obtain⟨_,_,h⟩:=ai.1 h;cases h
 |_=>simp[aX]at h
theorem eT{id:Nat}{ops:Array Oper}{z:Bool}{s:fG}(h:ct P (.region id ops z)=s)(B:s≠ .bad):aX P (.region id ops z)=some s:=by
 rw[ct]at h;split at h
 ·rename_i F E;rw[<-h];exact E
 ·exact absurd h.symm B
theorem ia{k:Operand}{y z:Code}{s:fG}(h:ct P (.cond k y z)=s)(B:s≠ .bad):∃a,bq P 0 k=some a/\s= .cond a (ct P y) (ct P z):=by
 rw[ct]at h;split at h
 ·rename_i a E;exact⟨a,E,h.symm⟩
 ·exact absurd h.symm B
theorem Qs{code:Code}{b:fG}(h:ct P code= .loop b):∃B,code= .loop B/\ct P B=b:=by
 cases code with
 |loop B=>rw[ct]at h;cases h;exact⟨B,rfl,rfl⟩
 |region id ops F=>have I:=eT h (by simp);have E:=P5 I;simp at E
 |seq y z=>rw[ct]at h;cases h
 |cond k y z=>obtain⟨a,_,E⟩:=ia h (by simp);cases E
 |block id b=>rw[ct]at h;cases h
 |skip=>rw[ct]at h;cases h
 |exit id=>rw[ct]at h;cases h
 |ret=>rw[ct]at h;cases h
 |_=>simp[ct]at h
theorem Gj{code:Code}{id:Nat}{b:fG}(h:ct P code= .block id b):∃B,code= .block id B/\ct P B=b:=by
 cases code with
 |block id B=>rw[ct]at h;cases h;exact⟨B,rfl,rfl⟩
 |region id ops F=>have I:=eT h (by simp);have E:=Ge I;simp at E
 |seq y z=>rw[ct]at h;cases h
 |cond k y z=>obtain⟨a,_,E⟩:=ia h (by simp);cases E
 |loop b=>rw[ct]at h;cases h
 |skip=>rw[ct]at h;cases h
 |exit id=>rw[ct]at h;cases h
 |ret=>rw[ct]at h;cases h
 |_=>simp[ct]at h
theorem xc7{code:Code}{y z:fG}(h:ct P code= .seq y z):∃E B,code= .seq E B/\ct P E=y/\ct P B=z:=by
 cases code with
 |seq E B=>rw[ct]at h;cases h;exact⟨E,B,rfl,rfl,rfl⟩
 |region id ops I=>have J:=eT h (by simp);have F:=xc4 J;simp at F
 |cond k y z=>obtain⟨a,_,F⟩:=ia h (by simp);cases F
 |block id b=>rw[ct]at h;cases h
 |loop b=>rw[ct]at h;cases h
 |skip=>rw[ct]at h;cases h
 |exit id=>rw[ct]at h;cases h
 |ret=>rw[ct]at h;cases h
 |_=>simp[ct]at h
theorem xda{code:Code}{k:Arg}{y z:fG}(h:ct P code= .cond k y z):∃E F B,code= .cond E F B/\bq P 0 E=some k/\ct P F=y/\ct P B=z:=by
 cases code with
 |cond E F B=>obtain⟨a,J,I⟩:=ia h (by simp);cases I;exact⟨E,F,B,rfl,J,rfl,rfl⟩
 |region id ops L=>have J:=eT h (by simp);have I:=P7 J;simp at I
 |seq y z=>rw[ct]at h;cases h
 |block id b=>rw[ct]at h;cases h
 |loop b=>rw[ct]at h;cases h
 |skip=>rw[ct]at h;cases h
 |exit id=>rw[ct]at h;cases h
 |ret=>rw[ct]at h;cases h
 |_=>simp[ct]at h
theorem Qr{code:Code}(h:ct P code= .skip):code= .skip:=by
 cases code with
 |skip=>rfl
 |region id ops E=>have F:=eT h (by simp);have B:=P4 F;simp at B
 |seq y z=>rw[ct]at h;cases h
 |cond k y z=>obtain⟨a,_,B⟩:=ia h (by simp);cases B
 |block id b=>rw[ct]at h;cases h
 |loop b=>rw[ct]at h;cases h
 |exit id=>rw[ct]at h;cases h
 |ret=>rw[ct]at h;cases h
 |_=>simp[ct]at h
theorem xc8{code:Code}(h:ct P code= .ret):code= .ret:=by
 cases code with
 |ret=>rfl
 |region id ops E=>have F:=eT h (by simp);have B:=xc5 F;simp at B
 |seq y z=>rw[ct]at h;cases h
 |cond k y z=>obtain⟨a,_,B⟩:=ia h (by simp);cases B
 |block id b=>rw[ct]at h;cases h
 |loop b=>rw[ct]at h;cases h
 |skip=>rw[ct]at h;cases h
 |exit id=>rw[ct]at h;cases h
 |_=>simp[ct]at h
theorem Qt{code:Code}{id:Nat}(h:ct P code= .exit id):code= .exit id:=by
 cases code with
 |exit I=>rw[ct]at h;cases h;rfl
 |region id ops E=>have F:=eT h (by simp);have B:=P6 F;simp at B
 |seq y z=>rw[ct]at h;cases h
 |cond k y z=>obtain⟨a,_,B⟩:=ia h (by simp);cases B
 |block id b=>rw[ct]at h;cases h
 |loop b=>rw[ct]at h;cases h
 |skip=>rw[ct]at h;cases h
 |ret=>rw[ct]at h;cases h
 |_=>simp[ct]at h
theorem xc9{code:Code}{l:LAd}(h:ct P code= .ops l):aX P code=some (.ops l):=by
 cases code with
 |region id ops B=>exact eT h (by simp)
 |seq y z=>rw[ct]at h;cases h
 |cond k y z=>obtain⟨a,_,E⟩:=ia h (by simp);cases E
 |block id b=>rw[ct]at h;cases h
 |loop b=>rw[ct]at h;cases h
 |skip=>rw[ct]at h;cases h
 |exit id=>rw[ct]at h;cases h
 |ret=>rw[ct]at h;cases h
 |_=>simp[ct]at h
theorem MV{code:Code}{b B:t8}{l:LAd}(h:ct P code= .drw b B l):aX P code=some (.drw b B l):=by
 cases code with
 |region id ops E=>exact eT h (by simp)
 |seq y z=>rw[ct]at h;cases h
 |cond k y z=>obtain⟨a,_,F⟩:=ia h (by simp);cases F
 |block id b=>rw[ct]at h;cases h
 |loop b=>rw[ct]at h;cases h
 |skip=>rw[ct]at h;cases h
 |exit id=>rw[ct]at h;cases h
 |ret=>rw[ct]at h;cases h
 |_=>simp[ct]at h
theorem tL{n:Nat}(Q:tE P T n)(L:fU P (eV T n)){r:RC}{c:CSt}{e:Ex}{c':CSt}(h:dI (gA T n) (eV T n) T.sg r c=some (e,c'))(hl:∀b,r≠ .loop b){code:Code}{C:Ctx}{N:Nat}{a:Act}{w:World}
 (J:ct P code=r.er) (B:r.ok N=true) (F:M C N c a w):code.wp P (EQ C N e c') a w:=by
 cases r with
 |skip=>
  cases h;have:=Qr (by simpa[RC.er]using J);subst this;exact wp_skip ⟨rfl,F⟩
 |ret=>
  cases h;have:=xc8 (by simpa[RC.er]using J);subst this;exact wp_ret ⟨rfl,F⟩
 |exit id=>
  cases h;have:=Qt (by simpa[RC.er]using J);subst this;exact wp_exit ⟨rfl,F⟩
 |ops l=>
  obtain⟨id,ops,rfl,hl'⟩:=xc6 (xc9 (by simpa[RC.er]using J));simp only[dI]at h;cases hs:fA (eV T n) T.sg l c with
  |none=>rw[hs]at h;cases h
  |some c1=>rw[hs]at h;simp only[nrm,o9,aw.injEq,bn.injEq]at h;obtain⟨rfl,rfl⟩:=h;refine wp_region ?_;rw[List.range_eq_range'];exact we L hl' l ops.size 0 (by omega) (by simp) B F hs fun a w h=>⟨rfl,h⟩
 |flt b W l I=>
  obtain⟨id,ops,rfl,hl',hdr,hmo,rfl,rfl⟩:=MT (MV (by simpa[RC.er]using J));simp only[RC.ok,aA]at B;simp only[dI]at h;cases hs:eX (eV T n) T.sg (Region.before ops).toList l [] c with
  |none=>rw[hs]at h;cases h
  |some c1=>rw[hs]at h;simp only[nrm,aw.injEq,bn.injEq]at h;obtain⟨rfl,rfl⟩:=h;exact Dy L hl' hdr hmo B.1 B.2 (fun a w h=>⟨rfl,M.kill h I⟩) F hs
 |fla b W l ps I=>
  obtain⟨id,ops,rfl,hl',hdr,hmo,rfl,rfl⟩:=MT (MV (by simpa[RC.er]using J));simp only[RC.ok,aA]at B;simp only[dI]at h;cases hs:iW (eV T n) T.sg (Region.before ops).toList l ps c with
  |none=>rw[hs]at h;cases h
  |some c1=>rw[hs]at h;simp only[nrm,aw.injEq,bn.injEq]at h;obtain⟨rfl,rfl⟩:=h;exact Dz L hl' hdr hmo B.1 B.2 (fun a w h=>⟨rfl,M.kill h I⟩) F hs
 |seq y z=>
  obtain⟨y',z',rfl,Z,hz⟩:=xc7 (by simpa[RC.er]using J);simp only[RC.ok,aA]at B;simp only[dI]at h;cases hs:gA T n y c with
  |none=>rw[hs]at h;cases h
  |some p=>
   obtain⟨S,c1⟩:=p;rw[hs]at h;refine wp_seq (wp_mono (Q.1 _ _ _ _ hs y' C N a w Z B.1 F) ?_);rintro e' a' w' ⟨rfl,E⟩;cases S with
   |n=>exact Q.1 _ _ _ _ h z' C N a' w' hz B.2 E
   |x id=>cases h;exact⟨rfl,E⟩
   |r=>cases h;exact⟨rfl,E⟩
 |cond k y z=>
  obtain⟨k',y',z',rfl,hk,Z,hz⟩:=xda (by simpa[RC.er]using J);simp only[RC.ok,aA]at B;simp only[dI]at h;unfold cnd at h;split at h<;>try (cases h;done)
  rename_i t ht
  have hv:a.eval k'= .bool t:=by obtain⟨x,s,a0,hS⟩:=F;have O:=aK a0 hk;rw[hS.ev,ht]at O;exact O.bool_inv
  refine wp_cond_split hv (fun e=> ?_) (fun e=> ?_)
  ·subst e
   rw[if_pos rfl]at h;exact Q.1 _ _ _ _ h y' C N a w Z B.1 F
  ·subst e
   rw[if_neg (by simp)]at h;exact Q.1 _ _ _ _ h z' C N a w hz B.2 F
 |block id b=>
  obtain⟨b',rfl,hb⟩:=Gj (by simpa[RC.er]using J);simp only[dI]at h;cases hs:gA T n b c with
  |none=>rw[hs]at h;cases h
  |some p=>
   obtain⟨S,c1⟩:=p;rw[hs]at h;refine wp_block (wp_mono (Q.1 _ _ _ _ hs b' C N a w hb B F) ?_);rintro e' a' w' ⟨rfl,E⟩;cases S with
   |n=>cases h;exact⟨rfl,E⟩
   |r=>cases h;exact⟨rfl,E⟩
   |x a1=>
    simp only[blk]at h;simp only[Ex.out,Exit.inBlock];split at h<;>rename_i U
    ·cases h;rw[if_pos U];exact⟨rfl,E⟩
    ·cases h;rw[if_neg U];exact⟨rfl,E⟩
 |loop b=>exact absurd rfl (hl b)
 |bad=>cases h
 |pre W y=>
  simp only[dI]at h;cases hs:iw c W with
  |none=>rw[hs]at h;cases h
  |some c1=>rw[hs]at h;exact Q.1 _ _ _ _ h code C N a w (by simpa[RC.er]using J) B (jW F hs)
 |post y W=>
  simp only[dI]at h;cases hs:gA T n y c with
  |none=>rw[hs]at h;cases h
  |some p=>
   obtain⟨S,c1⟩:=p;rw[hs]at h;refine wp_mono (Q.1 _ _ _ _ hs code C N a w (by simpa[RC.er]using J) B F) ?_;rintro e' a' w' ⟨rfl,E⟩;cases S with
   |n=>
    simp only[psD]at h;split at h
    ·rename_i c2 h2;cases h;exact⟨rfl,jW E h2⟩
    ·cases h
   |x id=>cases h;exact⟨rfl,E⟩
   |r=>cases h;exact⟨rfl,E⟩
theorem vL:tE P T 0:=⟨fun r c e c' h=>by simp[gA]at h,fun b c e c' h=>by simp[gA]at h⟩
theorem vM{n:Nat}(J:tE P T n)(F:fU P (eV T n)):tE P T (n+1):=by
 have O:∀(b:RC)(c:CSt)(e:Ex)(c':CSt),gA T (n+1) (.loop b) c=some (e,c')->∀(code:Code)(C:Ctx)(N:Nat)(a:Act)(w:World),ct P code=b.er->b.ok N=true->M C N c a w->Code.rounds P code (EQ C N e c') (n+1) a w:=by
  intro b c e c' h code C N a w E z I;rw[gA]at h;simp only[dI]at h;rw[rounds_succ];cases hs:gA T n b c with
  |none=>rw[hs]at h;cases h
  |some p=>
   obtain⟨S,c1⟩:=p;rw[hs]at h;refine wp_mono (J.1 _ _ _ _ hs code C N a w E z I) ?_;rintro Z U w' ⟨rfl,B⟩;cases S with
   |n=>exact J.2 _ _ _ _ h code C N U w' E z B
   |x id=>cases h;exact⟨rfl,B⟩
   |r=>cases h;exact⟨rfl,B⟩
 refine⟨fun r c e c' h code C N a w E z I=> ?_,O⟩
 by_cases L:∃b,r= .loop b
 ·obtain⟨b,rfl⟩:=L
  obtain⟨Q,rfl,W⟩:=Qs (by simpa[RC.er]using E);exact wp_loop_rounds (n+1) (O b c e c' h Q C N a w W z I)
 ·rw[gA]at h
  exact tL J F h (fun b e=>L ⟨b,e⟩) E z I
def xi2(P:Program):ResultVar->RV->Prop
 | .tmp t,.tmp t'=>t=t'
 | .cell t ty,.cell t' n ag=>t=t'/\fj P ty=some n/\pR P ty=some ag
 |_,_=>False
def DV(P:Program):List ResultVar->List RV->Prop
 |[],[]=>True
 |a::r,b::s=>xi2 P a b/\DV P r s
 |_,_=>False
theorem rL(E:Sim N c s):∀{rs:List ResultVar}{Q:List RV}{vs:t7},DV P rs Q->qu c Q=some vs->∃p,vO P s rs=some (p,vs)/\p
 |[],[],vs,_,h=>by cases h;exact⟨True,rfl,trivial⟩
 |[],_::_,_,h,_=>h.elim
 |_::_,[],_,h,_=>h.elim
 | .tmp t::r,.tmp t'::q,vs,h,hv=>by obtain⟨L,J⟩:=h;have L:t=t':=L;subst L;simp only[qu]at hv;split at hv<;>cases hv;rename_i F B;obtain⟨p,O,I⟩:=rL E J B;exact⟨p,by simp only[vO,O,E.get],I⟩
 | .cell t ty::r,.cell t' n ag::q,vs,h,hv=>by
  obtain⟨⟨rfl,g1,g2⟩,J⟩:=h;simp only[qu]at hv;split at hv<;>cases hv;rename_i v F U B;obtain⟨p,O,I⟩:=rL E J B
  have z:(if(ag||n==1)=true then lU c n ag (c.get t)else none)=some v:=by
   rw[<-U]
   congr 1
   simp
  split at z
  ·rename_i hc
   obtain⟨W,S,Z⟩:=uB E z;refine⟨W/\p, ?_,Z,I⟩;simp only[vO,g1,g2,O,E.get];rw[if_pos hc,S]
  ·cases z
 | .tmp _::_,.cell _ _ _::_,_,h,_=>h.1.elim
 | .cell _ _::_,.tmp _::_,_,h,_=>h.1.elim
def MG(us:LAb):Value:=if h:us.toArray.size=1 then us.toArray[0]else .tuple us.toArray
theorem MH{vs:t7}{us:LAb}(h:cr x vs us):Rep x (jn vs) (MG us):=by
 have z:=h.1;unfold MG
 match vs,us,z with
 |[v],[u],_=>simpa[jn]using h.2 0 (by simp)
 |[],[],_=>simp only[jn];exact .tup _ _ h.1 h.2
 |v1::v2::vs,u1::u2::us,_=>simp only[jn];rw[dif_neg (by simp)];exact .tup _ _ h.1 h.2
theorem cS.sel{ob B:List (Nat×aC)}{tk E:t8}(z:cS C x ob tk w){x2:Sit}(I:x2.G=x.G)(L:∀p∈B,dA x2 w p.1 p.2/\∃q∈ob,x2.bk p.1=x.bk q.1)(a1:(B.map cB).Nodup)
 (O:∀p∈B,∀q∈B,(x2.bk p.1).1=(x2.bk q.1).1->p.1=q.1) (J:∀t∈E,(x2.τ t).2.1=(x2.τ t).2.2\/∃u∈tk,x2.τ t=x.τ u)
 (a2:∀t∈E,∀u∈E,t≠u->(x2.τ t).2.1=(x2.τ t).2.2\/(x2.τ u).2.1=(x2.τ u).2.2\/∃W∈tk,∃Z∈tk,W≠Z/\x2.τ t=x.τ W/\x2.τ u=x.τ Z) (Q:∀i,i<100->x2.bk i=x.bk i):cS C x2 B E w:=by
 refine⟨fun b o v S=>z.per b o v (by rw[<-I];exact S),fun b o v S=>by rw[I];exact z.g0 b o v S,fun b o v S=>z.gm b o v (by rw[<-I];exact S),z.new, ?_,a1,O, ?_, ?_, ?_,z.os,z.tape,z.output,z.size,z.ext,
  fun i hi=>(Q i hi).trans (z.pin i hi),z.lay⟩
 ·intro p hp
  obtain⟨h1,q,hq,F⟩:=L p hp;obtain⟨_,h3,h4⟩:=z.obs q hq;exact⟨h1,by rw[F];exact h3,fun off=>by rw[I,F];exact h4 off⟩
 ·intro t U
  rcases J t U with h|⟨u,hu,h⟩
  ·exact .inl h
  ·have:=z.tks u hu
   unfold gY at this ⊢;rw[h,I];exact this
 ·intro t U p hp
  obtain⟨_,q,hq,F⟩:=L p hp;rcases J t U with h|⟨u,hu,h⟩
  ·exact .inr h
  ·rw[h,F];exact z.tko u hu q hq
 ·intro t U u hu a0
  rcases a2 t U u hu a0 with h|h|⟨W,ht',Z,hu',hne,h1,F⟩
  ·exact .inr (.inl h)
  ·exact .inr (.inr h)
  ·rw[h1,F];exact z.tkd W ht' Z hu' hne
theorem eS{p:Nat×aC}:∀{l:List aC}{k:Nat},p∈fM k l↔∃i,i<l.length/\p.1=k+i/\p.2=l.getD i (.rc [])
 |[],k=>by simp[fM]
 |o::r,k=>by
  simp only[fM,an,eS];constructor
  ·rintro(rfl|⟨i,z,B,h⟩)
   ·exact⟨0,by simp,rfl,rfl⟩
   ·exact⟨i+1,by simpa using z,by omega,by simpa using h⟩
  ·rintro⟨i,z,B,h⟩
   cases i with
   |zero=>left;exact Prod.ext (by simpa using B) (by simpa using h)
   |succ i=>exact .inr ⟨i,by simpa using z,by omega,by simpa using h⟩
theorem iq:∀(l:List aC)(k:Nat),((fM k l).map cB).Nodup
 |[],_=>by simp[fM]
 |o::r,k=>by simp only[fM,aO,ed];refine⟨fun h=> ?_,iq r (k+1)⟩;obtain⟨p,z,e⟩:=aS.1 h;obtain⟨i,_,B,_⟩:=eS.1 z;omega
theorem CE(n i:Nat)(h:i<n):(j0 n).getD i 0=i:=by
 have B:∀n,(j0 n).length=n:=by
  intro n;induction n with
  |zero=>rfl
  |succ n z=>simp[j0,z]
 induction n with
 |zero=>omega
 |succ n z=>
  simp only[j0,aa,List.getElem?_append,B]
  by_cases hi:i<n
  ·rw[if_pos hi,<-aa,z hi]
  ·rw[if_neg hi];have:i-n=0:=by omega
   rw[this];simp;omega
theorem DA{keep raw:t8}{k:Nat}{vs:t7}{us:LAb}{q:dY}(hM:aM C x s a w)(hS:Sim N c s)(hk:k<=40)(hv:cr x vs us)(h:PV keep k (eL c vs (iP raw 0 vs))=some q):
 ∃x',Rep x' q.r (MG us)/\cS C x' q.os q.tk w/\(∀p∈q.os,p.2.wf=true)/\∀i,i<100->x'.bk i=C.β0 i:=by
 obtain⟨x1,s1,c3,a3,a1⟩:=jf (l:=iP raw 0 vs) hM hS hv;generalize eL c vs (iP raw 0 vs)=z at h a3 a1;obtain⟨c1,a9⟩:=z;simp only at a3 a1;simp only[PV]at h;have hE:=a3.exact c3;cases hb:(decide (k=0)&&(SV.idsL a9).isEmpty&&keep.isEmpty)with
 |true=>rw[hb]at h;simp only[MP,aw.injEq]at h;subst h;refine⟨x1, ?_,hE.heap.only (by simp) (by simp) (by simp),by simp,fun i hi=>hE.heap.pin i hi⟩;refine MH ?_;rw[ki];refine⟨by simpa using a1.1,fun i hi=> ?_⟩;rw[aV _ (by rfl)];exact(a1.2 i (by simpa using hi)).bare rfl rfl
 |false=>
  rw[hb]at h;simp only[MP]at h;generalize hz:jN c1.tk keep 60 0 a9=z at h;obtain⟨Z,B⟩:=z;simp only[Ys]at h;generalize dC c1 60 [] (j0 k++SV.idsL Z)=m at h;cases ho:gv c1 m with
  |none=>rw[ho]at h;cases h
  |some S=>
   rw[ho]at h;simp only[Yr]at h;generalize a5:dV c1.tk (60+B.length) S=z2 at h;obtain⟨os,E⟩:=z2;simp only[Yq]at h;cases hb2:(nR (SV.idsL Z++fy os) m&&dt m&&dt (cn (B++E))&&decide (m.take k=j0 k)&&(m.drop k).all fun o=>decide (k<=o))with
   |false=>rw[hb2]at h;cases h
   |true=>
    rw[hb2]at h;simp only[Yp,aw.injEq]at h;subst h;simp only[aA,decide_eq_true_eq,aT]at hb2;obtain⟨⟨⟨⟨b3,b8⟩,d7⟩,W⟩,a8⟩:=hb2;obtain⟨e2,d4⟩:=o8 ho;have a0:=ua b3;have b2:=jo b8;have b4:=jo d7
    have d3:∀n,(j0 n).length=n:=by
     intro n;induction n with
     |zero=>rfl
     |succ n ih=>simp[j0,ih]
    have d9:k<=m.length:=by have:=congrArg List.length W;rw[aD,d3]at this;omega
    have a4:∀i,i<k->m.getD i 0=i:=by
     intro i hi;have I:(m.take k).getD i 0=m.getD i 0:=by simp only[aa,bv,if_pos hi]
     rw[<-I,W,CE k i hi]
    have a7:∀i,k<=i->i<m.length->k<=m.getD i 0:=by
     intro i I O;refine a8 _ ?_
     have:m.getD i 0=(m.drop k).getD (i-k) 0:=by simp only[aa,bf];congr 2;omega
     rw[this];exact fE (by rw[aE];omega)
    let τ2:Nat->Nat×Nat×Nat:=fun t=>if 60<=t/\t<60+(B++E).length then M4 x1 ((B++E).getD (t-60) none)else(0,0,0)
    let x2:Sit:=⟨x1.G,x1.bk,τ2⟩
    let x3:Sit:=⟨x1.G,fun i=>if i<100 then x1.bk i else x1.bk (m.getD (i-100) 0),τ2⟩
    have hτ:∀y:Sit,y.τ=τ2->nJ x1 y 60 (B++E):=by
     intro y hy j hj;rw[hy];show(if _ then _ else _)=_;rw[if_pos ⟨by omega,by omega⟩]
     congr 2;omega
    have F:∀i,i<m.length->(m.getD i 0,S.getD i (.rc []))∈c1.ob:=fun i hi=>jb (d4 i hi)
    have hβ:∀o∈m,x3.bk (gN k m o)=x1.bk o:=by
     intro o ho;unfold gN;split
     ·rename_i e1
      show(if _ then _ else _)=_;rw[if_pos (by omega)]
     ·show(if _ then _ else _)=_
      rw[if_neg (by omega)];have e:100+gD m o-100=gD m o:=by omega
      rw[e,(mf ho).2]
    have b5:=hτ x2 rfl
    have c6:cr x2 Z us:=by have:=lI (x:=x1) (x1:=x2) rfl rfl (tk:=c1.tk) (own:=keep) (j:=60) (i:=0) a1 (by rw[hz];exact b5.left);rwa[hz]at this
    have c4:Rep x3 ((jn Z).ren (gN k m) id) (MG us):=by
     refine Rep.renF (x:=x2) (x2:=x3) (fun _ _ _ h=>h) (MH c6) (fun j hj=>hβ j (a0 j (ak.2 (.inl ?_)))) (fun t _=>rfl)
     have d6:∀l:t7,∀j∈(jn l).ids,j∈SV.idsL l:=by
      intro l j hj
      match l with
      |[]=>exact hj
      |[v]=>simpa[jn,SV.idsL]using hj
      |v::u::r=>exact hj
     exact d6 Z j hj
    obtain⟨a6,U⟩:=kX (x:=x1) (x1:=x2) (w:=w) rfl rfl (tk:=c1.tk) (obs:=S) (j:=60+B.length) (f:=fun i=>m.getD i 0)
     (fun i hi=>(hE.heap.obs _ (F i (by omega))).1) (by rw[a5];exact b5.right)
    rw[a5]at a6 U;simp only at a6 U
    have c7:∀o∈os,o.wf=true:=by
     intro o d8
     have:=mw (tk:=c1.tk) (obs:=S) (j:=60+B.length) (fun o h'=>by obtain⟨i,hi,rfl⟩:=bl h';have:=a3.inv.wf _ (F i (by omega));simpa[aa,af hi]using this) o (by rw[a5];exact d8)
     exact this
    have J:∀p∈fM 0 (ee (gN k m) id (os.take k))++fM (100+k) (ee (gN k m) id (os.drop k)),∃i,i<m.length/\p.1=gN k m (m.getD i 0)/\p.2=(os.getD i (.rc [])).ren (gN k m) id/\os.getD i (.rc [])∈os:=by
     intro p L
     have gd:∀{l:List aC}{i:Nat},i<l.length->(ee (gN k m) id l).getD i (.rc [])=(l.getD i (.rc [])).ren (gN k m) id:=by intro l i hi;rw[fX,aa,aa,aR,af hi];rfl
     have gm:∀{i:Nat},i<os.length->os.getD i (.rc [])∈os:=fun{i} hi=>by rw[aa,af hi];exact bo _
     rcases ak.1 L with L|L
     ·obtain⟨i,I,O,h3⟩:=eS.1 L
      rw[fX,aQ,aD]at I;have e:(os.take k).getD i (.rc [])=os.getD i (.rc []):=by simp only[aa,bv,if_pos (show i<k by omega)]
      refine⟨i,by omega, ?_, ?_,gm (by omega)⟩
      ·rw[O,a4 i (by omega)];unfold gN;rw[if_pos (by omega)];omega
      ·rw[h3,gd (by rw[aD];omega),e]
     ·obtain⟨i,I,O,h3⟩:=eS.1 L
      rw[fX,aQ,aE]at I;have hi:k+i<m.length:=by omega
      have e:(os.drop k).getD i (.rc [])=os.getD (k+i) (.rc []):=by simp only[aa,bf]
      refine⟨k+i,hi, ?_, ?_,gm (by omega)⟩
      ·have h5:=a7 (k+i) (by omega) hi
       have h6:=mf (fE hi);have h7:gD m (m.getD (k+i) 0)=k+i:=lc b2 h6.1 hi h6.2;unfold gN;rw[if_neg (by omega),h7,O];omega
      ·rw[h3,gd (by rw[aE];omega),e]
    have d5:∀t∈cn (B++E),t∈c1.tk:=by
     intro t Q;rw[fv,ak]at Q;rcases Q with Q|Q
     ·exact nP (tk:=c1.tk) (own:=keep) (cs:=a9) (j:=60) (i:=0) t (by rw[hz];exact Q)
     ·exact my (tk:=c1.tk) (obs:=S) (j:=60+B.length) t (by rw[a5];exact Q)
    have a2:∀t∈tks 60 (B.length+E.length),(x3.τ t).2.1=(x3.τ t).2.2\/∃u,(B++E).getD (t-60) none=some u/\u∈c1.tk/\x3.τ t=x1.τ u:=by
     intro t Q;obtain⟨I,O⟩:=jz.1 Q;have e:=hτ x3 rfl (t-60) (by rw[ah];omega);rw[show 60+(t-60)=t by omega]at e;cases hu:(B++E).getD (t-60) none with
     |none=>rw[hu]at e;rw[e];exact .inl rfl
     |some u=>rw[hu]at e;exact .inr ⟨u,rfl,d5 u (iD hu),e⟩
    refine⟨x3,c4,hE.heap.sel (x2:=x3) rfl ?_ ?_ ?_ ?_ ?_ ?_, ?_, ?_⟩
    ·intro p L
     obtain⟨i,I,O,h3,h4⟩:=J p L;have b7:=fE I;refine⟨?_,_,F i I,by rw[O];exact hβ _ b7⟩;rw[O,h3];exact(U i (by omega)).renF (x2:=x3) (fun _ _ _ h=>h) (hβ _ b7) (fun j hj=>hβ j (a0 j (ak.2 (.inr (ov h4 j hj))))) (fun t _=>rfl)
    ·rw[dh,List.nodup_append]
     refine⟨iq _ _,iq _ _,fun u hu v hv e=> ?_⟩;obtain⟨p,L,rfl⟩:=aS.1 hu;obtain⟨r,hr,rfl⟩:=aS.1 hv;obtain⟨i,I,O,_⟩:=eS.1 L;obtain⟨j,h3,h4,_⟩:=eS.1 hr;rw[fX,aQ,aD]at I;omega
    ·intro p L r hr b6
     obtain⟨i,I,O,_⟩:=J p L;obtain⟨j,h3,h4,_⟩:=J r hr;rw[O,h4,hβ _ (fE I),hβ _ (fE h3)]at b6;have:=hE.heap.inj _ (F i I) _ (F j h3) b6;simp only at this;rw[O,h4,this]
    ·intro t Q
     rcases a2 t Q with g|⟨u,_,g1,g2⟩
     ·exact .inl g
     ·exact .inr ⟨u,g1,g2⟩
    ·intro t Q u hu e0
     rcases a2 t Q with g|⟨t',g0,g1,g2⟩
     ·exact .inl g
     ·rcases a2 u hu with g|⟨u',k0,k1,k2⟩
      ·exact .inr (.inl g)
      ·refine .inr (.inr ⟨t',g1,u',k1,mT b4 ?_ g0 k0,g2,k2⟩)
       have:=jz.1 Q;have:=jz.1 hu;omega
    ·intro i hi
     show(if _ then _ else _)=_;rw[if_pos hi]
    ·intro p L
     obtain⟨i,I,O,h3,h4⟩:=J p L;rw[h3];exact xb (c7 _ h4)
    ·intro i hi
     show(if _ then _ else _)=_;rw[if_pos hi];exact hE.heap.pin i hi
structure bT(P:Program)(g:Nat)(F:FnC):Prop where
 fn:∃fn,P.funcs[g]? =some fn/\fn.body.map (ct P)=some F.code.er/\fn.ntmps=F.n/\DV P fn.results.toList F.rs
 cb:ec P g=true
 ok:F.code.ok F.n=true
def wK(P:Program)(T:lj):Prop:=∀g b,T.fn g=some b->match b with
 | .code F=>bT P g F
 | .prim f=>∀a_ os k q,f a_ os k=some q->jI P g a_ os k (· =q)
theorem Cv(os:List aC):∀o,(idx os).lookup o=iC (fM 0 os) o:=by
 intro o;have I:((idx os).map cB).Nodup:=mB os;have J:=iq os 0
 have E:∀p,p∈idx os↔p∈fM 0 os:=by
  intro p;rw[iM,eS];constructor
  ·rintro⟨h,B⟩;exact⟨p.1,h,by omega,B⟩
  ·rintro⟨i,h,B,F⟩
   have e:p.1=i:=by omega
   rw[e];exact⟨h,F⟩
 rw[iu];refine rY (fun v z=> ?_) (fun v z=> ?_)
 ·exact i7 (p:=(o,v)) J ((E _).1 (jb z))
 ·exact i7 (p:=(o,v)) I ((E _).2 (jb z))
theorem qK(n:Nat):∀(l:t7)(i:Nat),eB (nn i l) n=if i<=n then l.getD (n-i) .undef else .undef
 |[],i=>by simp[nn,eB]
 |v::r,i=>by
  simp only[nn,eB,qK n r (i+1)]
  by_cases h:i=n
  ·subst h;simp
  ·rw[if_neg h]
   by_cases z:i<=n
   ·rw[if_pos z,if_pos (by omega)]
    obtain⟨k,B⟩:∃k,n-i=k+1:=⟨n-i-1,by omega⟩;rw[B,bF];congr 1;omega
   ·rw[if_neg z,if_neg (by omega)]
theorem qE{p:Nat×SV}:∀{l:t7}{i:Nat},p∈nn i l->p.1<i+l.length
 |v::r,i,h=>by
  simp only[nn]at h;rcases an.1 h with e|e
  ·rw[e];simp
  ·have:=qE e;simp only[av];omega
theorem ub:∀(l:List aC)(k:Nat),((fM k l).map cB).Pairwise (· < ·)
 |[],_=>by simp[fM]
 |o::r,k=>by simp only[fM,aO,bA];refine⟨fun n hn=> ?_,ub r (k+1)⟩;obtain⟨p,h,rfl⟩:=aS.1 hn;obtain⟨i,_,z,_⟩:=eS.1 h;omega
theorem mX{n:Nat}(hR:tE P T n)(hT:wK P T):fU P (eV T n):=by
 intro g a_ os k q z;unfold eV at z;cases hg:T.fn g with
 |none=>rw[hg]at z;cases z
 |some b=>
  have hb:=hT g b hg;cases b with
  |prim f=>rw[hg]at z;exact hb a_ os k q z
  |code F=>
   rw[hg]at z;simp only[ny,Ek]at z;obtain⟨⟨fn,Z,B,a3,W⟩,a1,a6⟩:=hb;refine⟨a1, ?_⟩;split at z
   case isFalse=>cases z
   rename_i a7;intro C x w vs a8 a9 a2 L a0 hH E;cases hbd:fn.body with
   |none=>simp[hbd]at B
   |some code=>
    simp only[hbd,cQ]at B;refine calls_of_wp Z hbd ?_;have hl:=E.1
    let s0:St:=⟨a_++au (F.n-a_.length) .undef,idx os,tks 50 k⟩
    have a5:aM C x s0 {tmps:=(⟨vs⟩:LAc)++dT (fn.ntmps-(⟨vs⟩:LAc).size) undef,defers:=[]} w:=by
     refine⟨?_,rfl,hH⟩
     have e1:((⟨vs⟩:LAc)++dT (fn.ntmps-(⟨vs⟩:LAc).size) undef).toList=vs++au (F.n-a_.length) undef:=by simp[a3,hl]
     rw[e1];refine E.append ⟨by simp,fun i hi=> ?_⟩;rw[ft _ _ _ _ (by simpa using hi)];exact .undef _
    have a4:Sim F.n (qf a_ os k) s0:=by
     refine⟨⟨fun p hp=> ?_,ub os 0,fun p hp=> ?_⟩, ?_,fun o=>Cv os o,fun t=>Iff.rfl⟩
     ·have:=qE hp;omega
     ·obtain⟨i,h1,_,h3⟩:=eS.1 hp
      rw[h3,aa,af h1];exact a0 _ (bo _)
     ·apply List.ext_getElem?
      intro i;show(a_++au (F.n-a_.length) SV.undef)[i]? =_;rw[aR];rcases bH i F.n with hi|hi
      ·rw[cM hi]
       have e:(qf a_ os k).get i=a_.getD i .undef:=by show eB (nn 0 a_) i=_;rw[qK];simp
       simp only[bm,e,List.getElem?_append,List.getElem?_replicate]
       by_cases h:i<a_.length
       ·rw[if_pos h,aa,af h];rfl
       ·rw[if_neg h,if_pos (by omega),aa,jZ (by omega)];rfl
      ·rw[jZ (by simp;omega),jZ (by simpa using hi)];rfl
    cases hs:gA T n F.code (qf a_ os k)with
    |none=>rw[hs]at z;cases z
    |some p=>
     obtain⟨e,c1⟩:=p;rw[hs]at z;refine wp_mono (hR.1 _ _ _ _ hs code C F.n _ w (by simpa using B) a6 ⟨x,s0,a5,a4⟩) ?_;rintro e' a' w' ⟨rfl,x1,s1,J,O⟩
     have I:MQ F.keep F.raw os.length c1 (qu c1 F.rs)=some q->a'.defers=[]/\∃v,(results fn a'.tmps).run P w'= .ok v w'/\∃v',∃x':Sit,∃S,Ending.returned v= .returned v'/\S=q/\Rep x' S.r v'/\cS C x' S.os S.tk w'/\(∀p∈S.os,p.2.wf=true)/\∀i,i<os.length->x'.bk i=x.bk i:=by
      intro U;cases hrc:qu c1 F.rs with
      |none=>rw[hrc]at U;cases U
      |some rv=>
       rw[hrc]at U;obtain⟨p,h1,h2⟩:=rL (P:=P) O W hrc;obtain⟨us,Q,hl⟩:=pI J h1 h2;obtain⟨x',g1,g2,g3,g4⟩:=DA J O L hl U;refine⟨J.defers,MG us, ?_,MG us,x',q,rfl,rfl,g1,g2,g3,fun i hi=> ?_⟩
       ·rw[vN,Array.mapM_eq_mapM_toList]
        simp only[aB,Sem.run_map,Q,am,aF];rfl
       ·rw[g4 i (by omega)];exact(hH.pin i (by omega)).symm
     cases e with
     |n=>exact I z
     |r=>exact I z
     |x id=>cases z
theorem M6(h:wK P T):∀n,tE P T n
 |0=>vL
 |n+1=>vM (M6 h n) (mX (M6 h n) h)
theorem wE(h:wK P T):fU P (call T):=by intro g a_ os k q z;obtain⟨n,hn⟩:=ou z;exact mX (M6 h n) h g a_ os k q hn
theorem PR(J:wK P T){g:Nat}{a_:t7}{r:SV}(h:call T g a_ [] 0=some ⟨r,[],[]⟩)(Q:r.toks=[]):Fn P g a_ r:=by obtain⟨O,F⟩:=wE J _ _ _ _ _ h;refine⟨O,fun C x w vs I L B hl Z S=> ?_⟩;refine(F C x w vs I L (fun b W=>(B b W).imp id (fun⟨i,hi,_⟩=>by simp at hi)) (by simp) (by simp) Z S).mono ?_;rintro en w' ⟨v,x',q,rfl,rfl,E,z,_,U⟩;exact⟨v,x',r,[],rfl,⟨rfl,rfl⟩,E,by rw[Q];exact z,U⟩
def Rs(P:Program):ResultVar->RV->Bool
 | .tmp t,.tmp t'=>decide (t=t')
 | .cell t ty,.cell t' n ag=>decide (t=t')&&decide (fj P ty=some n)&&decide (pR P ty=some ag)
 |_,_=>false
def pG(P:Program):List ResultVar->List RV->Bool
 |[],[]=>true
 |a::r,b::s=>Rs P a b&&pG P r s
 |_,_=>false
theorem uf:∀{rs:List ResultVar}{B:List RV},pG P rs B=true->DV P rs B
 |[],[],_=>trivial
 |[],_::_,h=>by cases h
 |_::_,[],h=>by cases h
 |a::r,b::s,h=>by
  simp only[pG,aA]at h;refine⟨?_,uf h.2⟩;have z:=h.1;cases a<;>cases b<;>simp only[Rs,aA,decide_eq_true_eq]at z<;>first|(cases z;done)|skip
  ·exact z
  ·exact⟨z.1.1,z.1.2,z.2⟩
theorem PS{g:Nat}{F:FnC}{fn:Func}(B:P.funcs[g]? =some fn)(I:fn.body.map (ct P)=some F.code.er)(J:fn.ntmps=F.n)(E:pG P fn.results.toList F.rs=true)(h:ec P g=true)(z:F.code.ok F.n=true):bT P g F:=
 ⟨⟨fn,B,I,J,uf E⟩,h,z⟩
end Go.Sy
namespace Go.Sy
variable [bc]
open Go.RowKit Go.ChangeShapes Go.WideShapes
def GW(w:World):GM:=fun b o=>w.cell? ⟨b,o,none⟩
def Ej(w:World):Sit:=⟨GW w,fun _=>(0,0),fun _=>(0,0,0)⟩
theorem xfW(w:World)(z:Lay (GW w)):cS ⟨w,GW w,fun b=>w.heap.size<=b,fun _=>(0,0)⟩ (Ej w) [] [] w where
 per:=fun _ _ _ h=>h
 g0:=fun _ _ _ h=>h
 gm:=fun _ _ _ h=> .inl h
 new:=fun _ h=>h
 obs:=by simp
 nd:=List.nodup_nil
 inj:=by simp
 tks:=by simp
 tko:=by simp
 tkd:=by simp
 os:=rfl
 tape:=rfl
 output:=rfl
 size:=aI _
 ext:=fun _ _=>rfl
 pin:=fun _ _=>rfl
 lay:=z
theorem rA{x:Sit}{b:Bool}{v:Value}(h:Rep x (.bool b) v):v= .bool b:=by
 cases h with
 |dat _ _ h _=>cases h;rfl
theorem Dg{P:Program}{f:Nat}{a_:t7}(h:Fn P f a_ (.bool true)){W:World}{vs:LAb}(J:cr (Ej W) a_ vs)(I:Lay (GW W)):
 Calls P f ⟨vs⟩ W fun e B=>e= .returned (.bool true)/\Below W.heap.size W B:=by
 refine(h.2 ⟨W,GW W,fun b=>W.heap.size<=b,fun _=>(0,0)⟩ (Ej W) W vs rfl rfl (fun b L=> .inl L) (by simp) (xfW W I) J).mono ?_;rintro e B ⟨v,x',r,E,rfl,⟨rfl,rfl⟩,F,z,_⟩;obtain rfl:=rA F;exact⟨rfl,z.os,z.tape,z.output,z.size,fun k O=>z.ext k (by simp;omega)⟩
section
variable {H : Type} {enc : TypeId × Value -> H} {P : Program} {w : World} {base : Nat} {sp : Nat -> Bool} {hd : Bool} {r : Reach} {b0 : Nat} {t e : TypeId} {v : Value} {d : DataW H} {ps : List MemPlace}
theorem sL{k:IntKind}(E:P.underlying t=some (.int k))(z:Value.okWide P w r b0 t v)(h:DataW.Trod enc P w base sp hd t v d ps):∃n,k.has n/\Rep (Ej w) (.int k n) v:=by obtain⟨n,rfl,_,_,B⟩:=open_int E z h;simp only[Lit.wf,aA,decide_eq_true_eq]at B;exact⟨n,B,.dat _ _ (.int k n) trivial⟩
theorem xdl(F:P.underlying t=some (.int .u8))(z:Value.okWide P w r b0 t v)(h:DataW.Trod enc P w base sp hd t v d ps):∃b,Rep (Ej w) (.u8 b) v:=by
 obtain⟨n,B,I⟩:=sL F z h;obtain⟨n,rfl,_,_,B⟩:=open_int F z h;simp only[Lit.wf,IntKind.min,IntKind.max,IntKind.signed,IntKind.bits,aA,decide_eq_true_eq]at B;refine⟨ej n.toNat, ?_⟩
 have e:((ej n.toNat).toNat:Int)=n:=by
  rw[UInt8.toNat_ofNat'];have:n.toNat<256:=by simp at B;omega
  rw[iG this];simp at B;omega
 have E:=cD.u8 (G:=(Ej w).G) (ej n.toNat);rw[e]at E;exact .dat _ _ E trivial
theorem vt{a:Addr}{len cap:Nat}(z:P.underlying t=some (.slice e))(h:Value.okWide P w r b0 t (.slice (some a) len cap)):a.spot=none:=by simp only[Value.okWide,z,Cell.okWide,Cell.ok]at h;exact h.2.2.2.1
theorem xan{n:Int}(h:(Lit.int .u8 n).wf=true):((ej n.toNat).toNat:Int)=n:=by
 simp only[Lit.wf,IntKind.min,IntKind.max,IntKind.signed,IntKind.bits,aA,decide_eq_true_eq]at h;rw[UInt8.toNat_ofNat'];have:n.toNat<256:=by simp at h;omega
 rw[iG this];simp at h;omega
theorem DN(F:P.underlying t=some (.slice e))(W:P.underlying e=some (.int .u8))(S:P.cellsOf e=1)(B:Value.okWide P w r b0 t v)(h:DataW.Trod enc P w base sp hd t v d ps):
 ∃l:t6,l.length<=maxLen/\Rep (Ej w) (.byt l .no) v:=by
 obtain⟨Z,len,cap,rfl⟩:=okWide_slice F B;obtain⟨L,U⟩:=h;rcases open_ints F W S U with⟨z,_⟩|⟨a,len',cap',zs,z,_,hl,hm,hz,_,hcell,hwf⟩
 ·simp[Value.cells]at z
  obtain⟨rfl,rfl,rfl⟩:=z;exact⟨[],by simp,.dat _ _ (.bytN .no) trivial⟩
 ·simp[Value.cells]at z
  obtain⟨rfl,rfl,rfl⟩:=z;have I:=vt F B;obtain⟨b,off,J⟩:=a;simp only at I;subst I;have hzl:len<=zs.length:=by rw[hz];split<;>omega
  refine⟨(zs.take len).map fun n=>ej n.toNat,by simp;omega,.dat _ _ (.byt _ .no b off cap len (by simp;omega) hl (fun i hi=> ?_)) trivial⟩;have O:=hcell i (by omega);have E:i<zs.length:=by omega
  rw[add_plain]at O
  have Q:((zs.take len).map fun n=>ej n.toNat).getD i 0=ej (zs.getD i 0).toNat:=by simp[aa,E,hi]
  show w.cell? _=_;rw[O,Q]
  congr 2
  refine(xan (hwf _ ?_)).symm;rw[aa,af E];exact bo E
end
theorem Fj{x:Sit}:cr x [] []:=⟨rfl,by simp⟩
section
variable {H : Type} {enc : TypeId × Value -> H} {P : Program}
theorem Fx{f:Func}{s:ChangeSpec}{z fresh h O:Bool}{W Q:World}{args:LAc}{v:Value}{Z gs:List (DataW H)}{before pa pv:List MemPlace}
 (hW:DataW.Whole enc P f.params.toList s.vars z W args.toList Z gs before)
 (J:∀(b:Nat)(sp:Nat->Bool)(hd:Bool),DataW.TrodAll enc P Q b sp hd f.resultTypes.toList (v.resultList f.resultTypes.size) (s.fn H (Z++gs)).results [])
 (B:∀sp:Nat->Bool,(∀p∈before,sp p.block=true)->DataW.TrodAll enc P Q 0 sp true f.params.toList args.toList (s.fn H (Z++gs)).args pa)
 (E:∀sp:Nat->Bool,(∀p∈before,sp p.block=true)->DataW.TrodVars enc P Q sp s.vars (s.fn H (Z++gs)).vars pv)
 (F:before=pa++pv) (hb:Below W.heap.size W Q)
 (a0:∀(j:Nat)(t:TypeId)(r:Value),f.resultTypes[j]? =some t->(v.resultList f.resultTypes.size)[j]? =some r->Value.okWide P Q .any 0 t r):
 s.post enc P f z fresh h O W args v Q:=by
 have U:=hW.lt;have L:∀p∈before,(fun b=>decide (b<W.heap.size)) p.block=true:=fun p I=>by simpa using U p I
 refine⟨Z,gs,before,[],pa,pv,hW,J _ _ _,B _ L,E _ L,World.keptBut_mono (fun p I=>⟨I, ?_⟩) (hb.frame (· ∈before)),fun _=> ?_⟩
 ·rw[F,ak]at I
  exact Or.inr I
 ·obtain⟨_,_,_,_,_,hz,hn⟩:=hW
  refine⟨a0,_,_,([]++pa)++pv,⟨[]++pa,pv,trodAll_append (B _ (fun _ _=>rfl)) (J _ _ _),E _ (fun _ _=>rfl),rfl, ?_, ?_⟩, ?_⟩
  ·intro b off I
   have S:MemPlace.cell b off∈before:=by rw[F];simpa using I
   rw[hb.frozen (p:=⟨b,off,none⟩) (U _ S)];exact hz b off S
  ·intro ha
   have:=hn ha;rw[F]at this;simpa using this
  ·intro p I _
   rw[F];simpa using I
theorem kG(E:laidOutB P=true){W F:World}(J:Below W.heap.size W F):∀{B:List TypeId}{vs:LAb}{I:List (DataW H)}{p:List MemPlace},(B.all fun t=>P.readableRec t&&decide (t<P.types.size))=true->
 DataW.TrodAll enc P W 0 (fun _=>true) true B vs I p->(∀x∈p,x.block<W.heap.size)->∀sp:Nat->Bool,(∀x∈p,sp x.block=true)->DataW.TrodAll enc P F 0 sp true B vs I p
 |[],_,_,_,_,h,_,_,_=>by obtain⟨rfl,rfl,rfl⟩:=trodAll_nil h;exact trodAll_mk0
 |t::B,_,_,_,hr,h,hlt,sp,hsp=>by obtain⟨v,O,d,S,a,b,rfl,rfl,rfl,Q,L⟩:=trodAll_cons h;simp only[iH,aA,decide_eq_true_eq]at hr;refine trodAll_cons_mk ?_ (kG E J (by simpa using hr.2) L (fun x z=>hlt x (cZ _ z)) sp (fun x z=>hsp x (cZ _ z)));exact WideElems.Trod_stays E hr.1.1 hr.1.2 Q (fun x z=>J.same (hlt x (dR _ z))) (fun x z=>hsp x (dR _ z))
theorem FT{f:Func}{s:ChangeSpec}{W W':World}{args:LAc}{J gs:List (DataW H)}{before:List MemPlace}{tb:TypeId}(hl:laidOutB P=true)
 (hr:(f.params.toList.all fun t=>P.readableRec t&&decide (t<P.types.size))=true) (F:f.resultTypes= #[tb]) (I:P.underlying tb=some .bool) (h:s.vars=[])
 (O:(s.fn H (J++gs)).results=[.lit (.bool true)]) (L:(s.fn H (J++gs)).args=J) (S:(s.fn H (J++gs)).vars=[])
 (Q:DataW.Whole enc P f.params.toList s.vars false W args.toList J gs before) (hb:Below W.heap.size W W'):
 s.post enc P f false true false false W args (.bool true) W':=by
 have z:=Q.lt;have E:=Q;obtain⟨p,q,hA,Z,rfl,U,a0⟩:=Q;rw[h]at Z;obtain⟨rfl,rfl⟩:=trodVars_none Z;simp only[bK]at z E U;refine Fx (pa:=p) (pv:=[]) (before:=p) (gs:=[]) E (fun b sp hd=> ?_) (fun sp B=> ?_) (fun sp B=> ?_) (by simp) hb (ok_one F rfl (okWide_bool_mk I _))
 ·rw[O,F]
  exact trodAll_cons_mk (shut_bool I _) trodAll_mk0
 ·rw[L]
  exact kG hl hb hr hA z sp B
 ·rw[h,S]
  rfl
end
end Go.Sy
namespace Go.Sy
variable [bc]
open Go.RowKit Go.ChangeShapes Go.WideShapes
variable {P : Program} {C : Ctx} {x : Sit} {w w' : World}
theorem dS.below{b:Nat}{c:LAc}{e:TypeId}{fl fh:Nat}(h:dS w b c e fl fh)(z:Below w.heap.size w w'):dS w' b c e fl fh:=h.of_heap (z.block b h.lt)
theorem cS.below{ob:List (Nat×aC)}{tk:t8}(h:cS C x ob tk w)(z:Below w.heap.size w w'):cS C x ob tk w' where
 per:=fun b o v F=>by rw[de (z.block b (h.ltG F))];exact h.per b o v F
 g0:=h.g0
 gm:=h.gm
 new:=h.new
 obs:=fun p I=>by obtain⟨⟨c,e,fl,fh,E,r⟩,q⟩:=h.obs p I;exact⟨⟨c,e,fl,fh,E.below z,r⟩,q⟩
 nd:=h.nd
 inj:=h.inj
 tks:=fun t J=>(h.tks t J).imp id fun⟨⟨c,e,fl,fh,E,r⟩,q⟩=>⟨⟨c,e,fl,fh,E.below z,r⟩,q⟩
 tko:=h.tko
 tkd:=h.tkd
 os:=z.os.trans h.os
 tape:=z.tape.trans h.tape
 output:=z.output.trans h.output
 size:=pC h.size z.size
 ext:=fun b hn=>by
  rcases bH b w.heap.size with B|B
  ·rw[z.block b B];exact h.ext b hn
  ·exact absurd (h.new b (pC h.size B)) hn
 pin:=h.pin
 lay:=h.lay
def iO(w:World)(l:t6)(v:Value):Prop:=
 (l=[]/\∃a,v= .slice a 0 0)\/∃b off n cap,v= .slice (some ⟨b,off,none⟩) n cap/\n=l.length/\∀i,i<n->w.cell? ⟨b,off+i,none⟩=some (.int .u8 (l.getD i 0).toNat)
theorem lh{l:t6}{t:Tok}{v:Value}(h:Rep x (.byt l t) v)(z:∀b o v,x.G b o=some v->w.cell? ⟨b,o,none⟩=some v):iO w l v:=by
 cases h with
 |dat _ _ h _=>
  cases h with
  |bytN=>exact .inl ⟨rfl,_,rfl⟩
  |bytE=>exact .inl ⟨rfl,_,rfl⟩
  |byt _ _ b off cap n hn B h=>exact .inr ⟨b,off,n,cap,rfl,hn,fun i hi=>z _ _ _ (h i hi)⟩
theorem wY{l:t6}{v:Value}(h:Rep x (.str l) v):v= .string ⟨⟨l⟩⟩:=by
 cases h with
 |dat _ _ h _=>cases h;rfl
theorem xdY{b:UInt8}{v:Value}(h:Rep x (.u8 b) v):v= .int .u8 b.toNat:=by
 cases h with
 |dat _ _ h _=>cases h;rfl
theorem jk{g:Nat}{a_:t7}{r:SV}(z:ec P g=true)
 (h:∀(x:Sit)(w:World)(vs:LAb),cr x a_ vs->(∀b o v,x.G b o=some v->w.cell? ⟨b,o,none⟩=some v)->
  Calls P g ⟨vs⟩ w fun e w'=>∃v,e= .returned v/\Rep x r v/\Below w.heap.size w w'):jI P g a_ [] 0 (· =⟨r,[],[]⟩):=by
 refine⟨z,fun C x w vs S U Q O E B F=>(h x w vs F B.per).mono ?_⟩;rintro e w' ⟨v,rfl,J,L⟩;exact⟨v,x,_,rfl,rfl,J,B.below L,fun p I=>by simp at I,fun i hi=>rfl⟩
theorem jS{l:t6}{v:Value}(h:iO w l v):(Extern.Bytes.bytesOf v).run P w= .ok ⟨⟨l⟩⟩ w:=by
 rcases h with⟨rfl,a,rfl⟩|⟨b,off,n,cap,rfl,hn,hc⟩
 ·cases a<;>rfl
 ·have F:=Lib.run_loadBytesX (P:=P) w (l.map fun c=>(c.toNat:Int)) ⟨b,off,none⟩ .empty (fun j z E=>by
   have B:j<l.length:=by have:=(List.getElem?_eq_some_iff.1 E).1;simpa using this
   have e:(⟨b,off,none⟩:Addr).add j=⟨b,off+j,none⟩:=by unfold Addr.add;split<;>simp_all
   rw[e,hc j (by omega)];simp only[aR,af B,bm,aw.injEq]at E;rw[aa,af B,ba,<-E])
  have I:(⟨ByteArray.empty.data++(Lib.bytesOf (l.map fun c=>(c.toNat:Int))).toArray⟩:ByteArray)=⟨⟨l⟩⟩:=by
   apply ByteArray.ext;show(#[]:Array UInt8)++(Lib.bytesOf _).toArray=⟨l⟩
   have:Lib.bytesOf (l.map fun c=>(c.toNat:Int))=l:=by unfold Lib.bytesOf;rw[List.map_map];refine(List.map_congr_left (g:=id) fun c _=> ?_).trans (List.map_id _);simp
   rw[this];simp
  rw[aQ,I]at F;rw[hn];exact F
theorem pH{a b:t6}{u v:Value}(h:iO w a u)(z:iO w b v):(Extern.BytealgCompare.compare #[u,v]).run P w= .ok (.int .i64 (Lib.compareBytes a b)) w:=by change Sem.run P (do pure (goInt (Extern.BytealgCompare.cmp (<-Extern.Bytes.bytesOf u) (<-Extern.Bytes.bytesOf v)))) w=_;simp only[aB,jS h,jS z,Result.andThen,aF,Lib.cmp_eq];rfl
def sd(l:t6)(c:UInt8):Int:=firstIdx ⟨⟨l⟩⟩ c
theorem tO{l:t6}{u:Value}{c:UInt8}(z:iO w l u):(Extern.BytealgIndexByte.indexByte #[u,.int .u8 c.toNat]).run P w= .ok (.int .i64 (sd l c)) w:=by
 have h:=run_indexByte_string (P:=P) ⟨⟨l⟩⟩ c.toNat w
 change Sem.run P (do
  let b<-Extern.Bytes.bytesOf u
  let c'<-Extern.Bytes.asByte (.int .u8 c.toNat)
  match (bS b.size).find? fun i=>b[i]! ==c' with
  |some i=>pure (goInt i)
  |none=>pure (goInt (-1))) w=_
 change Sem.run P (do
  let b<-Extern.Bytes.bytesOf (.string ⟨⟨l⟩⟩)
  let c'<-Extern.Bytes.asByte (.int .u8 c.toNat)
  match (bS b.size).find? fun i=>b[i]! ==c' with
  |some i=>pure (goInt i)
  |none=>pure (goInt (-1))) w=_ at h
 have e:(((c.toNat:Nat):Int).toNat.toUInt8)=c:=by simp
 rw[e]at h;simp only[aB,jS z,Result.andThen]at h ⊢;exact h
end Go.Sy
namespace Go.Sy
variable [bc]
variable {T T' : lj}
end Go.Sy
namespace Go.Sy
variable [bc]
variable {P : Program} {C : Ctx} {x : Sit} {w w' : World} {ob : List (Nat × aC)} {tk : List Nat}
open Go.RowKit Go.ChangeShapes Go.WideShapes
theorem eK(b:Nat):∀(vs:LAb)(o:Nat)(w:World),w.setCells b o vs=bM w b o vs
 |[],_,_=>rfl
 |v::r,o,w=>by rw[World.setCells,bM];exact eK b r (o+1) _
structure NZ(P:Program)(g:Nat)(el:TypeId):Prop where
 cb:ec P g=true
 shift:∀(b n c i vb voff vc:Nat)(cs:List Value)(v:Value)(w:World),i<n->n+1<=c->n<=1000000000->vb≠b->cs.length=n->(∀j u,cs[j]? =some u->w.cell? ⟨b,j,none⟩=some u)->
  (∀j,j<n+1->(w.cell? ⟨b,j,none⟩).isSome=true)->(∀j,j<n+1->w.frozen? ⟨b,j,none⟩=false)->w.cell? ⟨vb,voff,none⟩=some v->(∀u∈cs,u.oneCell'=true)->v.oneCell'=true->
  (∃tB kB,w.shape? b=some (tB,kB)/\w.frozen? ⟨b,kB,none⟩=false)->
  Calls P g #[.slice (some ⟨b,0,none⟩) n c,.int .i64 i,.slice (some ⟨vb,voff,none⟩) 1 vc] w fun e w'=>e= .returned (.slice (some ⟨b,0,none⟩) (n+1) c)/\w'=(w.drew.setCells b (i+1) (cs.drop i)).setCells b i [v]
 room:∀(b n c vb voff vc:Nat)(v:Value)(w:World),n+1<=c->n<=1000000000->(w.cell? ⟨b,n,none⟩).isSome=true->w.frozen? ⟨b,n,none⟩=false->w.cell? ⟨vb,voff,none⟩=some v->v.oneCell'=true->
  Calls P g #[.slice (some ⟨b,0,none⟩) n c,.int .i64 n,.slice (some ⟨vb,voff,none⟩) 1 vc] w fun e w'=>e= .returned (.slice (some ⟨b,0,none⟩) (n+1) c)/\w'=w.setCells b n [v]
 grow:∀(b n c i vb voff vc:Nat)(cs:List Value)(v:Value)(w:World),i<n->n<=c->c<n+1->n<=1000000000->cs.length=n->(∀j u,cs[j]? =some u->w.cell? ⟨b,j,none⟩=some u)->
  w.cell? ⟨vb,voff,none⟩=some v->(∀u∈cs,u.oneCell'=true)->v.oneCell'=true->
  Calls P g #[.slice (some ⟨b,0,none⟩) n c,.int .i64 i,.slice (some ⟨vb,voff,none⟩) 1 vc] w fun e w'=>
   ∃(G:Nat)(R:Array Value),n+1<=G/\R.size=G/\e= .returned (.slice (some ⟨w.heap.size,0,none⟩) (n+1) G)/\
    w'=(((w.alloc (.cells R el (0,0))).drew.setCells w.heap.size i [v]).drew).setCells w.heap.size (i+1) (cs.drop i)/\∀k,k<i->R.getD k undef=cs.getD k undef
 endg:∀(base:Option Addr)(n c vb voff vc:Nat)(cs:List Value)(v:Value)(w:World),n<=c->c<n+1->n<=1000000000->cs.length=n->(base=none->n=0)->
  (∀a,base=some a->∀j u,cs[j]? =some u->w.cell? (a.add j)=some u)->w.cell? ⟨vb,voff,none⟩=some v->v.oneCell'=true->
  Calls P g #[.slice base n c,.int .i64 n,.slice (some ⟨vb,voff,none⟩) 1 vc] w fun e w'=>
   ∃(G:Nat)(R:Array Value),n+1<=G/\R.size=G/\e= .returned (.slice (some ⟨w.heap.size,0,none⟩) (n+1) G)/\
    w'=w.drew.alloc (.cells R el (0,0))/\∀k,k<n+1->R.getD k undef=(cs++ [v]).getD k undef
theorem cS.one(h:cS C x ob tk w)(L:Below w.heap.size w w'){obj:aC}{K:Nat}(J:dA (x.newO 100 w.heap.size K) w' 100 obj):cS C (x.newO 100 w.heap.size K) [(100,obj)] [] w':=by
 have z:=(h.sub (ob':=[]) (tk':=[]) (List.nil_sublist _) (fun t B=>by cases B)).below L;have F:(x.newO 100 w.heap.size K).bk 100=(w.heap.size,K):=hJ _ _ _;refine⟨z.per,z.g0,z.gm,z.new, ?_,by simp, ?_,(fun t B=>by cases B),(fun t B=>by cases B),(fun t B=>by cases B),z.os,z.tape,z.output,z.size,z.ext,fun i hi=>by rw[Sit.newO_ne _ _ _ _ (by omega)];exact z.pin i hi,z.lay⟩
 ·intro p E
  rw[aN]at E;subst E;refine⟨J,by rw[F];exact h.new _ h.size,fun off=> ?_⟩;rw[F];show x.G w.heap.size off=none;cases hg:x.G w.heap.size off with
  |none=>rfl
  |some v=>exact absurd (h.ltG hg) (by omega)
 ·intro p E q I _
  rw[aN]at E I;rw[E,I]
theorem yc{rows:f8}{k:Nat}{v:Value}:bW x (.arr 1 rows) k v=cD x.G ((rows.getD k []).getD 0 .undef) v:=by show cD x.G ((rows.getD (k/1) []).getD (k % 1) .undef) v=_;rw[Nat.div_one,Nat.mod_one]
def lw(rows:f8)(i:Nat)(s:SV):f8:=rows.take i++ [s]::rows.drop i
theorem FY(rows:f8)(i:Nat)(s:SV)(hi:i<=rows.length)(k:Nat):(lw rows i s).getD k []=if k<i then rows.getD k []else if k=i then [s]else rows.getD (k-1) []:=by
 unfold lw;have B:(rows.take i).length=i:=by rw[aD];omega
 rw[aa]
 by_cases h:k<i
 ·rw[if_pos h,aY (by omega),bv,if_pos h,<-aa]
 ·rw[if_neg h,bj (by omega),B]
  by_cases z:k=i
  ·subst z;simp
  ·rw[if_neg z]
   obtain⟨m,E⟩:∃m,k-i=m+1:=⟨k-i-1,by omega⟩;rw[E,List.getElem?_cons_succ,bf,<-aa]
   congr 1;omega
theorem uE(rows:f8)(i:Nat)(s:SV)(hi:i<=rows.length):(lw rows i s).length=rows.length+1:=by unfold lw;rw[ah,av,aD,aE];omega
theorem BY(rows:f8)(i:Nat)(s:SV)(h:∀y∈rows,y.length=1):∀y∈lw rows i s,y.length=1:=by
 intro y B;unfold lw at B;rcases ak.1 B with z|z
 ·exact h y (bL z)
 ·rcases an.1 z with rfl|z
  ·rfl
  ·exact h y (dQ z)
theorem Ru{a b c:SV}{vs:LAb}(h:cr x [a,b,c] vs):∃u v z,vs=[u,v,z]/\Rep x a u/\Rep x b v/\Rep x c z:=by
 match vs,h with
 |[u,v,z],h=>exact⟨u,v,z,rfl,h.2 0 (by simp),h.2 1 (by simp),h.2 2 (by simp)⟩
 |[],h=>simp[cr]at h
 |[_],h=>simp[cr]at h
 |[_,_],h=>simp[cr]at h
 |_::_::_::_::_,h=>simp[cr]at h
theorem BQ{s:SV}{t:Tok}{u:Value}(h:Rep x (.lst 1 [[s]] t) u):∃B z vc v,u= .slice (some ⟨B,z,none⟩) 1 vc/\x.G B z=some v/\cD x.G s v:=by
 cases h with
 |dat _ _ h _=>
  cases h with
  |lst _ _ _ b off cap n val hn J I F h=>have E:n=1:=hn;subst E;exact⟨b,off,cap,val 0 0,rfl,by have:=F 0 0 (by omega) (by omega);simpa using this,by have:=h 0 0 (by omega) (by omega);simpa using this⟩
theorem CY{w:World}{b:Nat}{c:LAc}{e:TypeId}{fl fh:Nat}(h:dS w b c e fl fh):w.shape? b=some (e,c.size):=by simp only[World.shape?,h.1]
theorem FO{w:World}{b:Nat}{c:LAc}{e:TypeId}{fl fh:Nat}(h:dS w b c e fl fh)(z:¬(fl<=c.size/\c.size<fh)):w.frozen? ⟨b,c.size,none⟩=false:=by simp only[World.frozen?,h.1];simpa using z
theorem qI{rows:f8}{i n:Nat}{s:SV}{v:Value}(hn:rows.length=n)(hi:i<=n)(I:cD x.G s v){c0 c2:LAc}(z:∀k,k<n->cD x.G ((rows.getD k []).getD 0 .undef) (c0.getD k undef))
 (h:∀k,k<n+1->c2.getD k undef=if k<i then c0.getD k undef else if k=i then v else c0.getD (k-1) undef) (k:Nat) (J:k<(aC.arr 1 (lw rows i s)).size):bW x (.arr 1 (lw rows i s)) k (c2.getD k undef):=by
 have F:k<n+1:=by simp only[aC.size,uE rows i s (by omega)]at J;omega
 rw[yc,FY rows i s (by omega),h k F]
 by_cases E:k<i
 ·rw[if_pos E,if_pos E];exact z k (by omega)
 ·rw[if_neg E,if_neg E]
  by_cases B:k=i
  ·rw[if_pos B,if_pos B];exact I
  ·rw[if_neg B,if_neg B];exact z (k-1) (by omega)
theorem Dq{g:Nat}{S:TypeId}(hI:NZ P g S){rows:f8}{i n:Nat}{s:SV}{t:Tok}(hn:rows.length=n)(hi:i<=n)(Z:n<=1000000000):
 jI P g [.psl 0 1 0 n none,.int .i64 i,.lst 1 [[s]] t] [.arr 1 rows] 0 (· =⟨.psl 100 1 0 (n+1) none,[(100,.arr 1 (lw rows i s))],[]⟩):=by
 refine⟨hI.cb,fun C x w vs hw hG hm hl f2 hH hr=> ?_⟩;obtain⟨u0,u1,u2,rfl,r0,r1,r2⟩:=Ru hr;obtain⟨c,d5,z,rfl,Q,b7⟩:=r0.psl_invK;rw[r1.int_inv];obtain⟨vb,O,vc,v,rfl,c6,b8⟩:=BQ r2;have a4:∀y∈rows,y.length=1:=fO.1 (f2 _ (aN.2 rfl));have b5:(0,aC.arr 1 rows)∈idx [.arr 1 rows]:=by simp[idx]
 obtain⟨⟨L,e,fl,fh,hO,⟨g2,e7,d6⟩,a9⟩,b6,e8⟩:=hH.obs _ b5;simp only at hO e7 b6 e8 a9;have hv:=hH.per _ _ _ c6;have f0:vb≠(x.bk 0).1:=by rintro rfl;rw[e8]at c6;cases c6
 have U:=b8.oneCell;have g4:n<=L.size:=by simp only[aC.size,hn]at g2;omega
 have c4:∀k,k<n->cD x.G ((rows.getD k []).getD 0 .undef) (L.getD k undef):=fun k hk=>by have:=a9 k (by simp only[aC.size,hn];omega);rw[yc]at this;exact this
 obtain⟨cs,d7⟩:∃cs:LAb,cs=(bS n).map fun k=>L.getD k undef:=⟨_,rfl⟩
 have I:cs.length=n:=by rw[d7];simp
 have a0:∀k,k<n->cs.getD k undef=L.getD k undef:=fun k hk=>by rw[d7,aa];simp[hk]
 have B:∀j u,cs[j]? =some u->w.cell? ⟨(x.bk 0).1,j,none⟩=some u:=fun j u hj=>by
  have f7:j<n:=by rw[<-I];exact(List.getElem?_eq_some_iff.1 hj).1
  rw[hO.cell,cy (by omega)];have E:=a0 j f7;rw[aa,hj,aW,cy (by omega)]at E;simp only[ba]at E;rw[E]
 have a8:∀u∈cs,u.oneCell'=true:=fun u hu=>by obtain⟨j,hj,rfl⟩:=bl hu;have E:=a0 j (by omega);rw[aa,af hj,ba]at E;rw[E];exact(c4 j (by omega)).oneCell
 have a2:(aC.arr 1 (lw rows i s)).size=n+1:=by simp only[aC.size,uE rows i s (by omega),hn];omega
 have e0:∀(K:Nat)(b:Nat) i,i<([aC.arr 1 rows]:List aC).length->(x.newO 100 b K).bk i=x.bk i:=fun K b i hi=>Sit.newO_ne _ _ _ _ (by simp at hi;omega)
 have a7:∀(w1:World),n+1<=c->(∃c2,dS w1 (x.bk 0).1 c2 e fl fh/\c2.size=L.size/\∀k,k<n+1->c2.getD k undef=if k<i then L.getD k undef else if k=i then v else L.getD (k-1) undef)->
  w1.os=w.os->w1.tape=w.tape->w1.output=w.output->w1.heap.size=w.heap.size->(∀b,b≠(x.bk 0).1->w1.heap[b]? =w.heap[b]?)->
  ∃v' x' q,(Ending.returned (.slice (some ⟨(x.bk 0).1,z,none⟩) (n+1) c):Ending)= .returned v'/\q=(⟨.psl 100 1 0 (n+1) none,[(100,.arr 1 (lw rows i s))],[]⟩:dY)/\Rep x' q.r v'/\cS C x' q.os q.tk w1/\(∀p∈q.os,p.2.wf=true)/\∀i,i<([aC.arr 1 rows]:List aC).length->x'.bk i=x.bk i:=by
  intro w1 f5 ⟨c2,F,a6,d3⟩ e1 e2 e3 e4 e5
  have e6:n+1<=L.size:=by
   rcases b7 with h|h
   ·omega
   ·omega
  have e9:=hH.block b5 e1 e2 e3 e4 e5 (obj':= .arr 1 (lw rows i s)) ⟨c2,e,fl,fh,F,⟨by rw[a2,a6];omega,by rw[a6];exact e7,fun h=>by rw[a6];exact d6 rfl⟩,qI hn hi b8 c4 d3⟩;have f6:=e9.move (o:=0) (d:=100) (obj:= .arr 1 (lw rows i s)) (by omega) (by simp[idx,setO]) (fun cs e=>by cases e);have J:(x.newO 100 (x.bk 0).1 (x.bk 0).2).bk 100=x.bk 0:=hJ _ _ _;refine⟨_,x.newO 100 (x.bk 0).1 (x.bk 0).2,_,rfl,rfl, ?_, ?_, ?_,e0 _ _⟩
  ·have:=Rep.psl (x:=x.newO 100 (x.bk 0).1 (x.bk 0).2) 100 1 0 (n+1) none z c Q (by omega) (fun _ e=>by cases e) (fun _=>by rw[J];exact b7)
   rw[J]at this;exact this
  ·simpa[idx,setO,bz,tks,j0,co]using f6
  ·intro p hp
   rw[aN.1 hp];exact fO.2 (BY rows i s a4)
 have b4:∀(w1:World)(G:Nat)(c2:LAc),n+1<=G->c2.size=G->dS w1 w.heap.size c2 S 0 0->(∀k,k<n+1->c2.getD k undef=if k<i then L.getD k undef else if k=i then v else L.getD (k-1) undef)->Below w.heap.size w w1->
  ∃v' x' q,(Ending.returned (.slice (some ⟨w.heap.size,0,none⟩) (n+1) G):Ending)= .returned v'/\q=(⟨.psl 100 1 0 (n+1) none,[(100,.arr 1 (lw rows i s))],[]⟩:dY)/\Rep x' q.r v'/\cS C x' q.os q.tk w1/\(∀p∈q.os,p.2.wf=true)/\∀i,i<([aC.arr 1 rows]:List aC).length->x'.bk i=x.bk i:=by
  intro w1 G c2 a1 a5 F d3 hb;have J:(x.newO 100 w.heap.size G).bk 100=(w.heap.size,G):=hJ _ _ _;refine⟨_,x.newO 100 w.heap.size G,_,rfl,rfl, ?_, ?_, ?_,e0 _ _⟩
  ·have:=Rep.psl (x:=x.newO 100 w.heap.size G) 100 1 0 (n+1) none 0 G (.inr rfl) a1 (fun _ e=>by cases e) (fun _=> .inr (by rw[J];simp))
   rw[J]at this;exact this
  ·exact hH.one hb ⟨c2,S,0,0,by rw[J];exact F,⟨by rw[a2,a5];omega,by rw[J,a5];exact aI _,fun _ h=>by omega⟩,fun k hk=>qI (x:=x) hn hi b8 c4 d3 k hk⟩
  ·intro p hp
   rw[aN.1 hp];exact fO.2 (BY rows i s a4)
 by_cases W:n+1<=c
 ·have e6:n+1<=L.size:=by
   rcases b7 with h|h
   ·omega
   ·omega
  obtain rfl:z=0:=by rcases Q with h|h<;>omega
  have b2:∀j,j<n+1->(w.cell? ⟨(x.bk 0).1,j,none⟩).isSome=true:=fun j hj=>by rw[hO.cell,cy (by omega)];rfl
  have a3:∀j,j<n+1->w.frozen? ⟨(x.bk 0).1,j,none⟩=false:=fun j hj=>hO.free (by omega)
  rcases bH i n with c7|hge
  ·refine(hI.shift (x.bk 0).1 n c i vb O vc cs v w c7 W Z f0 I B b2 a3 hv a8 U ⟨e,L.size,CY hO,FO hO (d6 rfl)⟩).mono ?_
   rintro en w1 ⟨rfl,rfl⟩;have f3:dS w.drew (x.bk 0).1 L e fl fh:=hO.of_heap rfl;have f4:(cs.drop i).length=n-i:=by rw[aE,I]
   obtain⟨c1,c3,g1,d4⟩:=cK (cs.drop i) w.drew (i+1) L f3 (by omega);obtain⟨c2,F,d9,b3⟩:=cK [v] (bM w.drew (x.bk 0).1 (i+1) (cs.drop i)) i c1 c3 (by simp;omega);obtain⟨p1,p2,p3,p4,p5⟩:=cT (x.bk 0).1 (cs.drop i) w.drew (i+1);obtain⟨s1,s2,s3,s4,s5⟩:=cT (x.bk 0).1 [v] (bM w.drew (x.bk 0).1 (i+1) (cs.drop i)) i;rw[eK,eK];refine a7 _ W ⟨c2,F,by omega,fun k hk=> ?_⟩ (s1.trans p1) (s2.trans p2) (s3.trans p3) (s4.trans p4) (fun b hb=>(s5 b hb).trans (p5 b hb));rw[b3 k,d4 k];simp only[aL]
   by_cases E:k<i
   ·rw[if_neg (by omega),if_neg (by omega),if_pos E]
   ·rw[if_neg E]
    by_cases h2:k=i
    ·subst h2
     rw[if_pos (by omega),if_pos rfl];simp
    ·rw[if_neg (by omega),if_pos (by omega),if_neg h2,aa,bf,<-aa,show i+(k-(i+1))=k-1 by omega]
     exact a0 (k-1) (by omega)
  ·obtain rfl:i=n:=by omega
   refine(hI.room (x.bk 0).1 i c vb O vc v w W Z (b2 i (by omega)) (a3 i (by omega)) hv U).mono ?_;rintro en w1 ⟨rfl,rfl⟩;obtain⟨c2,F,d9,b3⟩:=cK [v] w i L hO (by simp;omega);obtain⟨s1,s2,s3,s4,s5⟩:=cT (x.bk 0).1 [v] w i;rw[eK];refine a7 _ W ⟨c2,F,by omega,fun k hk=> ?_⟩ s1 s2 s3 s4 s5;rw[b3 k];simp only[aL]
   by_cases E:k<i
   ·rw[if_neg (by omega),if_pos E]
   ·have h2:k=i:=by omega
    subst h2;rw[if_pos (by omega),if_neg (by omega),if_pos rfl];simp
 ·have g5:c=n:=by omega
  rcases bH i n with c7|hge
  ·obtain rfl:z=0:=by rcases Q with h|h<;>omega
   refine(hI.grow (x.bk 0).1 n c i vb O vc cs v w c7 d5 (by omega) Z I B hv a8 U).mono ?_;rintro en w1 ⟨G,R,a1,a5,rfl,rfl,hR⟩;have f1:dS (w.alloc (.cells R S (0,0))).drew w.heap.size R S 0 0:=⟨cL,fun i _ h=>by omega⟩;have f4:(cs.drop i).length=n-i:=by rw[aE,I]
   obtain⟨c1,c3,g1,d4⟩:=cK [v] (w.alloc (.cells R S (0,0))).drew i R f1 (by simp;omega);have d8:dS (bM (w.alloc (.cells R S (0,0))).drew w.heap.size i [v]).drew w.heap.size c1 S 0 0:=c3.of_heap rfl;obtain⟨c2,F,d9,b3⟩:=cK (cs.drop i) (bM (w.alloc (.cells R S (0,0))).drew w.heap.size i [v]).drew (i+1) c1 d8 (by omega);obtain⟨p1,p2,p3,p4,p5⟩:=cT w.heap.size [v] (w.alloc (.cells R S (0,0))).drew i;obtain⟨s1,s2,s3,s4,s5⟩:=cT w.heap.size (cs.drop i) (bM (w.alloc (.cells R S (0,0))).drew w.heap.size i [v]).drew (i+1);rw[eK,eK];refine b4 _ G c2 a1 (by omega) F (fun k hk=> ?_) ⟨s1.trans p1,s2.trans p2,s3.trans p3, ?_,fun b hb=> ?_⟩
   ·rw[b3 k,d4 k]
    simp only[aL]
    by_cases E:k<i
    ·rw[if_neg (by omega),if_neg (by omega),if_pos E,hR k E,a0 k (by omega)]
    ·rw[if_neg E]
     by_cases h2:k=i
     ·subst h2
      rw[if_neg (by omega),if_pos (by omega),if_pos rfl];simp
     ·rw[if_pos (by omega),if_neg h2,aa,bf,<-aa,show i+(k-(i+1))=k-1 by omega]
      exact a0 (k-1) (by omega)
   ·rw[s4]
    show w.heap.size<=(bM (w.alloc (.cells R S (0,0))).drew w.heap.size i [v]).heap.size;rw[p4];show w.heap.size<=(w.alloc (.cells R S (0,0))).heap.size;rw[World.size_alloc];omega
   ·rw[s5 b (by omega)]
    show(bM (w.alloc (.cells R S (0,0))).drew w.heap.size i [v]).heap[b]? =_;rw[p5 b (by omega)];exact db hb
  ·obtain rfl:i=n:=by omega
   refine(hI.endg (some ⟨(x.bk 0).1,z,none⟩) i c vb O vc cs v w d5 (by omega) Z I (fun h=>by cases h) (fun a ha j u hj=> ?_) hv U).mono ?_
   ·cases ha
    have g3:j<i:=by rw[<-I];exact(List.getElem?_eq_some_iff.1 hj).1
    have h0:z=0:=by rcases Q with h|h<;>omega
    rw[cU,h0,bC];exact B j u hj
   rintro en w1 ⟨G,R,a1,a5,rfl,rfl,hR⟩;refine b4 _ G R a1 a5 ⟨cL,fun i _ h=>by omega⟩ (fun k hk=> ?_) ((Below.refl _ w).drew.alloc (aI _) _);rw[hR k hk]
   by_cases E:k<i
   ·rw[if_pos E,aa,aY (by omega),<-aa,a0 k E]
   ·have h2:k=i:=by omega
    subst h2;rw[if_neg E,if_pos rfl,aa,bj (by omega),I];simp
theorem wo{g:Nat}{O:TypeId}(U:NZ P g O){s:SV}{t:Tok}:
 jI P g [.lst 1 [] .clip,.int .i64 0,.lst 1 [[s]] t] [] 0 (· =⟨.psl 100 1 0 1 none,[(100,.arr 1 [[s]])],[]⟩):=by
 refine⟨U.cb,fun C x w vs hw hG hm hl Z S hr=> ?_⟩;obtain⟨u0,u1,u2,rfl,r0,r1,r2⟩:=Ru hr;obtain⟨base,cap,rfl,Q,hD,F⟩:=r0.lst_inv;obtain⟨a',n',W⟩:=F;simp only[bg,Value.slice.injEq]at W;obtain⟨_,rfl,rfl⟩:=W;rw[r1.int_inv];obtain⟨vb,B,vc,v,rfl,I,E⟩:=BQ r2;have hv:=S.per _ _ _ I;refine(U.endg base 0 0 vb B vc [] v w (aI _) (by omega) (by omega) rfl (fun _=>rfl) (fun a _ j u hj=>by simp at hj) hv E.oneCell).mono ?_;rintro en w1 ⟨G,R,a0,J,rfl,rfl,hR⟩;have z:(x.newO 100 w.heap.size G).bk 100=(w.heap.size,G):=hJ _ _ _;refine⟨_,x.newO 100 w.heap.size G,_,rfl,rfl, ?_, ?_, ?_,fun i hi=>by simp at hi⟩
 ·have:=Rep.psl (x:=x.newO 100 w.heap.size G) 100 1 0 1 none 0 G (.inr rfl) (by omega) (fun _ e=>by cases e) (fun _=> .inr (by rw[z];simp))
  rw[z]at this;exact this
 ·refine S.one ((Below.refl _ w).drew.alloc (aI _) _) ⟨R,O,0,0,by rw[z];exact⟨cL,fun i _ h=>by omega⟩,⟨by simp only[aC.size,aL];omega,by rw[z,J];exact aI _,fun _ h=>by omega⟩,fun k hk=> ?_⟩
  simp only[aC.size,aL]at hk;have L:k=0:=by omega
  subst L;rw[yc,hR 0 (by omega)];exact E
 ·intro p hp
  rw[aN.1 hp];exact fO.2 (fun y hy=>by rw[aN.1 hy];rfl)
end Go.Sy
namespace Go.Sy
variable [bc]
open Go.RowKit Go.ChangeShapes Go.WideShapes
variable {P : Program} {C : Ctx} {x : Sit} {w w' : World} {T T' : lj}
end Go.Sy
namespace Go
open Go.Maps (Keyed)
end Go
namespace Go.Sy
variable [bc]
variable {P : Program} {C : Ctx} {x : Sit} {w w' : World} {ob : List (Nat × aC)} {tk : List Nat}
open Go.RowKit Go.ChangeShapes Go.WideShapes
theorem fF{z:Nat}:∀{rows:f8},(∀y∈rows,y.length=z)->rows.flatten.length=rows.length*z
 |[],_=>by simp
 |r::t,h=>by rw[List.flatten_cons,ah,fF fun y B=>h y (aq _ B),h r ax,av,bD,Nat.one_mul,Nat.add_comm]
end Go.Sy
namespace Go.Sy
open Go.RowKit Go.ChangeShapes Go.WideShapes Go.Shelf Go.Lib Go.Proofs
variable {P : Program}
end Go.Sy
