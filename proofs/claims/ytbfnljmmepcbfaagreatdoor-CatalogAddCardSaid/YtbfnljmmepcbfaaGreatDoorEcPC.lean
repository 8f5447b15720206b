/- A sound engine for Go code. No condition. -/
import Derived.Test.YtbfnljmmepcbfaaGreatDoorEbPC
import Derived.Below
import Derived.Carry
import Derived.ChangeSlices
import Derived.JoinedCond
import Derived.OpenShut
import Derived.RowKit3
import Derived.SliceStrings
import Derived.Lib.Bytealg
import Derived.Lib.BytesEntry
import Derived.Laws.IdiomCopy
import Derived.Maps.OwnOps
import Derived.Maps.OwnSet
import Derived.Shelf.Spec.SlicesInsertGrow
open Array renaming getD -> ll, getD_eq_getD_getElem? -> aS, getElem?_eq_getElem -> cB, getElem?_eq_some_iff -> dk, getElem?_toList -> db, length_toList -> aW, replicate -> eT
open Bool renaming and_eq_true -> aD, false_eq_true -> aO, not_eq_true' -> dj, or_eq_true -> fD
open List renaming Nodup -> Ae, Pairwise -> fO, Sublist -> pe, all_eq_true -> bf, append_nil -> bA, cons_append -> bp, contains_eq_mem -> fC, filter_cons -> fT, filter_eq_self -> jl, flatten_append -> cg, flatten_cons -> cK, getD_cons_succ -> jk, getD_eq_getElem?_getD -> aa, getElem?_append_left -> bt, getElem?_append_right -> bD, getElem?_drop -> bB, getElem?_eq_getElem -> ac, getElem?_eq_none -> ib, getElem?_eq_some_iff -> pN, getElem?_map -> aU, getElem?_range -> cC, getElem?_take -> bS, getElem_mem -> bv, getElem_of_mem -> bg, length_append -> ae, length_cons -> al, length_drop -> aE, length_eq_zero_iff -> b8, length_map -> aV, length_nil -> aB, length_singleton -> aG, length_take -> an, map_append -> co, map_cons -> aI, mem_append -> am, mem_cons -> av, mem_cons_of_mem -> aw, mem_cons_self -> aA, mem_map -> aZ, mem_map_of_mem -> ji, mem_of_mem_drop -> cH, mem_of_mem_take -> bF, mem_range -> dt, mem_singleton -> bq, nil_append -> aF, nodup_cons -> dR, not_mem_nil -> cG, pairwise_append -> dX, pairwise_cons -> bJ, pairwise_iff_getElem -> cD, pairwise_map -> ii, range -> bC, replicate -> aL, take_append_drop -> cT
open Nat renaming add_mul -> bH, div_eq_of_lt -> BL, le_refl -> aK, le_trans -> mE, lt_or_ge -> bQ, min_eq_left -> fP, mod_eq_of_lt -> ct, mul_le_mul_right -> bo, one_mul -> pB, zero_add -> bY, zero_mul -> iq
open Option renaming bind_some -> dp, getD_some -> aM, ite_none_right_eq_some -> aJ, map_eq_some_iff -> ah, map_some -> bE, some -> ax
open Prod renaming fst -> cW, mk -> bG
open Go.Result renaming andThen_ok -> aq
open Go.Sem renaming run_bind -> aC, run_pure -> aN
open UInt8 renaming ofNat -> ip
set_option linter.unusedVariables false
set_option linter.unusedSimpArgs false
set_option linter.unnecessarySimpa false
set_option linter.unusedSectionVars false
namespace Go.Sy
variable [bx]
variable {P : Program} {C : Ctx} {x : Sit} {a : Act} {w : World} {N : Nat} {c c' : CSt} {s : St} {call : dw} {sg : Nat -> Sig}
abbrev TM:=List (Nat×SV)
structure Uni(d:Option Nat)(F:TM->TM):Prop where
 get:∀tm tm' n,fb tm n=fb tm' n->fb (F tm) n=fb (F tm') n
 dom:∀tm p,p∈F tm->(∃q∈tm,q.1=p.1)\/d=some p.1
theorem Uni.id{d:LAa}:Uni d (fun t=>t):=⟨fun _ _ _ h=>h,fun _ p y=> .inl ⟨p,y,rfl⟩⟩
theorem Uni.comp{d:LAa}{F G:TM->TM}(hF:Uni d F)(E:Uni d G):Uni d (fun t=>G (F t)):=
 ⟨fun _ _ _ h=>E.get _ _ _ (hF.get _ _ _ h),fun tm p I=>by
  rcases E.dom _ _ I with⟨q,J,e⟩|h
  ·rcases hF.dom _ _ J with⟨L,y,O⟩|h
   ·exact .inl ⟨L,y,O.trans e⟩
   ·exact .inr (by rw[h,e])
  ·exact .inr h⟩
theorem Uni.purge{d:LAa}(lo hi:Nat):Uni d (dJ lo hi):=
 ⟨fun tm tm' n h=>by rw[gV,gV,h],fun tm p y=>by obtain⟨q,E,e⟩:=ky y;exact .inl ⟨q,E,e.symm⟩⟩
theorem Uni.pub{d:LAa}(o:Nat)(obj:aH):Uni d (mX o obj):=
 ⟨fun tm tm' n h=>by rw[lI,lI,h],fun tm p y=>by obtain⟨q,E,e⟩:=rO y;exact .inl ⟨q,E,e.symm⟩⟩
theorem Uni.put(k:Nat)(v:SV):Uni (some k) (fun t=>kr t k v):=
 ⟨fun tm tm' n h=>by
  simp only[nQ];rw[h],fun tm p y=>by
  rcases nN y with e|e
  ·exact .inr (by rw[e])
  ·exact .inl ⟨p,e,rfl⟩⟩
theorem Uni.weak{d:LAa}{F:TM->TM}(h:Uni none F):Uni d F:=⟨h.get,fun tm p y=>by
 rcases h.dom tm p y with h|h
 ·exact .inl h
 ·cases h⟩
theorem Uni.cput(d:LAa)(v:SV):∃F,Uni d F/\∀tm ob tk,CSt.put ⟨tm,ob,tk⟩ d v=⟨F tm,ob,tk⟩:=by
 cases d with
 |none=>exact⟨fun t=>t,Uni.id,fun _ _ _=>rfl⟩
 |some k=>exact⟨fun t=>kr t k v,Uni.put k v,fun _ _ _=>rfl⟩
section
variable {tm tm' : TM} {ob : List (Nat × aH)} {tk : List Nat}
theorem nJ:∀(n:Nat)(y l:t8),eC ⟨tm',ob,tk⟩ n y l=eC ⟨tm,ob,tk⟩ n y l
 |0,_,_=>rfl
 |_+1,_,[]=>rfl
 |n+1,y,o::t=>by
  simp only[eC];show(if _ then _ else match jD ob o with|some E=>_|none=>_)=(if _ then _ else match jD ob o with|some E=>_|none=>_);split
  ·exact nJ n _ _
  ·split
   ·exact nJ n _ _
   ·exact nJ n _ _
theorem za:∀l:t8,im ⟨tm',ob,tk⟩ l=im ⟨tm,ob,tk⟩ l
 |[]=>rfl
 |o::r=>by simp only[im];rw[za r];rfl
theorem oV(o:Nat)(vs:f8):∃F ob' tk' y,Uni none F/\∀tm,CSt.publish ⟨tm,ob,tk⟩ o vs=(⟨F tm,ob',tk'⟩,y):=by
 unfold CSt.publish CSt.look;simp only;split
 ·exact⟨_,_,_,_,Uni.pub _ _,fun _=>rfl⟩
 ·exact⟨_,_,_,_,Uni.pub _ _,fun _=>rfl⟩
 ·exact⟨_,_,_,_,Uni.id,fun _=>rfl⟩
theorem ql:∀(l:t8)(ob:List (Nat×aH))(tk:t8)(vs:f8),∃F ob' tk' y,Uni none F/\∀tm,fx ⟨tm,ob,tk⟩ vs l=(⟨F tm,ob',tk'⟩,y)
 |[],ob,tk,vs=>⟨_,_,_,_,Uni.id,fun _=>rfl⟩
 |o::r,ob,tk,vs=>by obtain⟨F,E,L,Q,h1,h2⟩:=oV (ob:=ob) (tk:=tk) o vs;obtain⟨G,O,J,I,Z,W⟩:=ql r E L Q;refine⟨fun t=>G (F t),O,J,I,h1.comp Z,fun tm=> ?_⟩;simp only[fx];rw[h2];exact W _
theorem rx(d:LAa)(m mt:t8)(q:dV):∃F ob' tk',Uni d F/\∀tm,lf ⟨tm,ob,tk⟩ d m mt q=⟨F tm,ob',tk'⟩:=by unfold lf;dsimp only;obtain⟨F,E,y⟩:=Uni.cput d (q.r.ren (jn (d.getD 0) m) (kM (d.getD 0)));exact⟨_,_,_,(Uni.purge ((d.getD 0+1)*1000) ((d.getD 0+2)*1000)).comp E,fun tm=>y _ _ _⟩
theorem JU{sg:Sig}{d:LAa}{g:Nat}{a_:f8}:∃F,Uni d F/\∃q:Option (List (Nat×aH)×t8),∀tm,kT call sg d g (⟨tm,ob,tk⟩,a_)=q.map fun q=>⟨F tm,q.1,q.2⟩:=by
 simp only[kT];generalize lh tk sg.own 50 0 a_=z;obtain⟨y,E⟩:=z;simp only[pl];have L:∀tm,eC ⟨tm,ob,tk⟩ 60 [] (SV.idsL y)=eC ⟨[],ob,tk⟩ 60 [] (SV.idsL y):=fun tm=>nJ _ _ _
 have O:∀tm l,im ⟨tm,ob,tk⟩ l=im ⟨[],ob,tk⟩ l:=fun tm l=>za l
 simp only[L,O];generalize eC ⟨[],ob,tk⟩ 60 [] (SV.idsL y)=m;cases ho:im ⟨[],ob,tk⟩ m with
 |none=>exact⟨_,Uni.id,none,fun _=>rfl⟩
 |some J=>
  simp only[mI];generalize eU tk (50+E.length) J=z2;obtain⟨os,I⟩:=z2;simp only[pk];generalize (pR (SV.idsL y++gp os) m&&eg m&&eg (cO (E++I))&&decide (m.length<=40)&&m.all fun o=> !inR (d.getD 0) o)=b;cases b with
  |false=>exact⟨_,Uni.id,none,fun _=>rfl⟩
  |true=>
   simp only[pj];cases hq:call g (SV.renL (iy m) _root_.id y) (eY (iy m) _root_.id os) (E.length+I.length)with
   |none=>exact⟨_,Uni.id,none,fun _=>rfl⟩
   |some q=>
    simp only[pW];generalize q.small=b;cases b with
    |false=>exact⟨_,Uni.id,none,fun _=>rfl⟩
    |true=>obtain⟨F,ob',tk',W,Q⟩:=rx (ob:=ob) (tk:=tk) d m (cO (E++I)) q;exact⟨F,W,some (ob',tk'),fun tm=>by simp only[Az,bE,Q]⟩
theorem uV{sg:Sig}{d:LAa}{g:Nat}{a_:f8}:∃F,Uni d F/\∃q:Option (List (Nat×aH)×t8),∀tm,jb call sg ⟨tm,ob,tk⟩ d g a_=q.map fun q=>⟨F tm,q.1,q.2⟩:=by
 unfold jb;generalize ((SV.idsL a_).isEmpty&&sg.own.isEmpty)=b;cases b with
 |true=>
  simp only[ld];cases hq:call g (SV.bareL a_) [] 0 with
  |none=>exact⟨_,Uni.id,none,fun _=>rfl⟩
  |some q=>
   simp only[nR];generalize q.bare=b;cases b with
   |true=>simp only[py];obtain⟨F,E,y⟩:=Uni.cput d q.r;exact⟨F,E,some (ob,tk),fun tm=>by rw[y];rfl⟩
   |false=>
    simp only[py];generalize q.small=b;cases b with
    |false=>exact⟨_,Uni.id,none,fun _=>rfl⟩
    |true=>obtain⟨F,ob',tk',E,y⟩:=rx (ob:=ob) (tk:=tk) d [] [] q;exact⟨F,E,some (ob',tk'),fun tm=>by simp only[Bp,y];rfl⟩
 |false=>simp only[ld];obtain⟨F,I,J,L,E,y⟩:=ql (jP sg.raw 0 a_) ob tk a_;obtain⟨G,Q,q,O⟩:=JU (call:=call) (ob:=I) (tk:=J) (sg:=sg) (d:=d) (g:=g) (a_:=L);exact⟨fun t=>G (F t),E.weak.comp Q,q,fun tm=>by rw[y];exact O _⟩
theorem LB:∀(l:List (Nat×aH))(tm:TM)(ob:List (Nat×aH))(tk:t8),CSt.wr ⟨tm,ob,tk⟩ l=⟨tm,(CSt.wr ⟨[],ob,tk⟩ l).ob,tk⟩
 |[],_,_,_=>rfl
 |p::r,tm,ob,tk=>by simp only[CSt.wr];exact LB r tm _ tk
theorem rq(d:LAa)(e:pL):∃F ob' tk',Uni d F/\∀tm,CSt.app ⟨tm,ob,tk⟩ d e=⟨F tm,ob',tk'⟩:=by
 unfold CSt.app;dsimp only;obtain⟨F,E,y⟩:=Uni.cput d e.val;split
 ·exact⟨_,_,_,(Uni.purge (d.getD 0+100) (d.getD 0+101)).comp E,fun tm=>y _ _ _⟩
 ·exact⟨_,_,_,(Uni.purge (d.getD 0+100) (d.getD 0+101)).comp E,fun tm=>y _ _ _⟩
 ·exact⟨F,(CSt.wr ⟨[],ob,tk⟩ e.wr).ob,tk,E,fun tm=>by rw[LB];exact y _ _ _⟩
theorem xrS{x:Arg}(h:∀n,x= .t n->fb tm' n=fb tm n):CSt.ev ⟨tm',ob,tk⟩ x=CSt.ev ⟨tm,ob,tk⟩ x:=by
 cases x with
 |t n=>exact h n rfl
 |c v=>rfl
 |f g=>rfl
theorem nA:∀{l:List Arg},(∀x∈l,CSt.ev ⟨tm',ob,tk⟩ x=CSt.ev ⟨tm,ob,tk⟩ x)->evL ⟨tm',ob,tk⟩ l=evL ⟨tm,ob,tk⟩ l
 |[],_=>rfl
 |x::r,h=>by simp only[evL];rw[h x (aA ..),nA fun y E=>h y (aw _ E)]
theorem Ug:∀{l:List (Nat×Nat×Arg)},(∀x∈l.map (fun p=>p.2.2),CSt.ev ⟨tm',ob,tk⟩ x=CSt.ev ⟨tm,ob,tk⟩ x)->psC ⟨tm',ob,tk⟩ l=psC ⟨tm,ob,tk⟩ l
 |[],_=>rfl
 |(o,n,x)::r,h=>by simp only[psC];rw[h x (by simp),Ug fun y E=>h y (by simp only[aI,av];exact .inr E)]
theorem oi{x:Option Arg}{d:Int}(h:∀y∈x.toList,CSt.ev ⟨tm',ob,tk⟩ y=CSt.ev ⟨tm,ob,tk⟩ y):lD ⟨tm',ob,tk⟩ x d=lD ⟨tm,ob,tk⟩ x d:=by
 cases x with
 |none=>rfl
 |some y=>simp only[lD];rw[h y (by simp)]
theorem Eb{F:Nat}{v:SV}{lo hi E:Option Arg}(J:∀y∈lo.toList,CSt.ev ⟨tm',ob,tk⟩ y=CSt.ev ⟨tm,ob,tk⟩ y)(I:∀y∈hi.toList,CSt.ev ⟨tm',ob,tk⟩ y=CSt.ev ⟨tm,ob,tk⟩ y)(L:∀y∈E.toList,CSt.ev ⟨tm',ob,tk⟩ y=CSt.ev ⟨tm,ob,tk⟩ y):
 pG ⟨tm',ob,tk⟩ F v lo hi E=pG ⟨tm,ob,tk⟩ F v lo hi E:=by
 unfold pG;simp only[oi J,oi I,oi L]
theorem D0{o:SOp}(h:∀y∈o.args,CSt.ev ⟨tm',ob,tk⟩ y=CSt.ev ⟨tm,ob,tk⟩ y):cY ⟨tm',ob,tk⟩ o=cY ⟨tm,ob,tk⟩ o:=by
 cases o with
 |build z ps=>simp only[SOp.args]at h;simp only[cY];rw[Ug h]
 |lit F I=>simp only[SOp.args]at h;simp only[cY];rw[nA h]
 |litB I=>simp only[SOp.args]at h;simp only[cY];rw[nA h]
 |mkfn f a b=>simp only[SOp.args,am]at h;simp only[cY];rw[nA fun y E=>h y (.inl E),nA fun y E=>h y (.inr E)]
 |slcS x lo hi=>simp only[SOp.args,av,am]at h;simp only[cY];rw[h x (.inl rfl)];simp only[oi fun y E=>h y (.inr (.inl E)),oi fun y E=>h y (.inr (.inr E))]
 |slcL F x lo hi J=>simp only[SOp.args,av,am]at h;simp only[cY];rw[h x (.inl rfl),Eb (fun y E=>h y (.inr (.inl (.inl E)))) (fun y E=>h y (.inr (.inl (.inr E)))) (fun y E=>h y (.inr (.inr E)))]
 |slcA len F x lo hi J=>simp only[SOp.args,av,am]at h;simp only[cY];rw[h x (.inl rfl)];simp only[Eb (fun y E=>h y (.inr (.inl (.inl E)))) (fun y E=>h y (.inr (.inl (.inr E)))) (fun y E=>h y (.inr (.inr E)))]
 |_=>
  simp only[SOp.args,av,cG,or_false,forall_eq_or_imp,forall_eq,bq]at h
  first
   |rfl
   |(simp only[cY];rw[h];rfl)
   |(simp only[cY];rw[h.1,h.2];rfl)
   |(simp only[cY,h];done)
   |(simp only[cY,h.1,h.2];done)
theorem Ha{n:Nat}{v:f8}{u:SV}:mf ⟨tm',ob,tk⟩ n v u=mf ⟨tm,ob,tk⟩ n v u:=by
 cases u<;>rfl
theorem xaz{d:LAa}{o:SOp}(h:∀y∈o.args,CSt.ev ⟨tm',ob,tk⟩ y=CSt.ev ⟨tm,ob,tk⟩ y):eJ ⟨tm',ob,tk⟩ d o=eJ ⟨tm,ob,tk⟩ d o:=by
 have J:=D0 h;cases o with
 |new ob=>rfl
 |call f a_=>rfl
 |box x=>simp only[SOp.args,av,cG,or_false,forall_eq]at h;simp only[eJ];rw[h]
 |mk z b n m=>simp only[SOp.args,av,cG,or_false,forall_eq_or_imp,forall_eq]at h;simp only[eJ];rw[h.1,h.2]
 |mkB n m=>simp only[SOp.args,av,cG,or_false,forall_eq_or_imp,forall_eq]at h;simp only[eJ];rw[h.1,h.2]
 |store n a x=>simp only[SOp.args,av,cG,or_false,forall_eq_or_imp,forall_eq]at h;simp only[eJ];rw[h.1,h.2,Ha]
 |app z b x y=>
  simp only[SOp.args,av,cG,or_false,forall_eq_or_imp,forall_eq]at h;have E:∀v,fg ⟨tm',ob,tk⟩ v=fg ⟨tm,ob,tk⟩ v:=fun v=>by cases v<;>rfl
  have F:∀n v,gB ⟨tm',ob,tk⟩ n v=gB ⟨tm,ob,tk⟩ n v:=fun n v=>by cases v<;>rfl
  have I:∀t:Tok,t.readyC ⟨tm',ob,tk⟩=t.readyC ⟨tm,ob,tk⟩:=fun t=>by cases t<;>rfl
  simp only[eJ];rw[h.1,h.2];simp only[E,F,I]
 |clr z x=>simp only[SOp.args,av,cG,or_false,forall_eq]at h;simp only[eJ];rw[h];rfl
 |cpy O x y=>
  simp only[SOp.args,av,cG,or_false,forall_eq_or_imp,forall_eq]at h;have E:∀v,fg ⟨tm',ob,tk⟩ v=fg ⟨tm,ob,tk⟩ v:=fun v=>by cases v<;>rfl
  have F:∀n v,gB ⟨tm',ob,tk⟩ n v=gB ⟨tm,ob,tk⟩ n v:=fun n v=>by cases v<;>rfl
  simp only[eJ];rw[h.1,h.2];simp only[E,F];rfl
 |pick k a b=>simp only[SOp.args,av,cG,or_false,forall_eq_or_imp,forall_eq]at h;simp only[eJ];rw[h.1,h.2.1,h.2.2]
 |isnil L x=>simp only[SOp.args,av,cG,or_false,forall_eq]at h;simp only[eJ];rw[h]
 |_=>simp only[eJ];rw[J]
theorem Kx{d:LAa}{z:f8}{b:Nat}{y:Arg}{v:SV}(h:CSt.ev ⟨tm',ob,tk⟩ y=CSt.ev ⟨tm,ob,tk⟩ y)(E:um ⟨tm,ob,tk⟩ d z b y v=some c'):∃F,Uni d F/\c'.tm=F tm/\um ⟨tm',ob,tk⟩ d z b y v=some ⟨F tm',c'.ob,c'.tk⟩:=by
 have e1:∀v,fg ⟨tm',ob,tk⟩ v=fg ⟨tm,ob,tk⟩ v:=fun v=>by cases v<;>rfl
 have e2:∀n v,gB ⟨tm',ob,tk⟩ n v=gB ⟨tm,ob,tk⟩ n v:=fun n v=>by cases v<;>rfl
 have put:∀(k:Nat)(u:SV),some (CSt.put ⟨tm,ob,tk⟩ (some k) u)=some c'->∃F,Uni (some k) F/\c'.tm=F tm/\some (CSt.put ⟨tm',ob,tk⟩ (some k) u)=some ⟨F tm',c'.ob,c'.tk⟩:=by intro k u hu;obtain⟨F,W,J⟩:=Uni.cput (some k) u;rw[J]at hu;cases hu;exact⟨F,W,rfl,by rw[J]⟩
 have app:∀(k:Nat)(e:pL),some (CSt.app ⟨tm,ob,tk⟩ (some k) e)=some c'->∃F,Uni (some k) F/\c'.tm=F tm/\some (CSt.app ⟨tm',ob,tk⟩ (some k) e)=some ⟨F tm',c'.ob,c'.tk⟩:=by intro k e hu;obtain⟨F,ob',tk',W,J⟩:=rq (ob:=ob) (tk:=tk) (some k) e;rw[J]at hu;cases hu;exact⟨F,W,rfl,by rw[J]⟩
 have Q:∀(I k:Nat)(e:pL),some (CSt.app (CSt.purge ⟨tm,ob,tk⟩ I (I+1)) (some k) e)=some c'->∃F,Uni (some k) F/\c'.tm=F tm/\some (CSt.app (CSt.purge ⟨tm',ob,tk⟩ I (I+1)) (some k) e)=some ⟨F tm',c'.ob,c'.tk⟩:=by intro I k e hu;obtain⟨F,ob',tk',W,J⟩:=rq (ob:=bW I (I+1) ob) (tk:=cP I (I+1) tk) (some k) e;simp only[CSt.purge]at hu ⊢;rw[J]at hu;cases hu;exact⟨fun t=>F (dJ I (I+1) t),(Uni.purge I (I+1)).comp W,rfl,by rw[J]⟩
 unfold um at E ⊢;split at E<;>try (cases E;done)
 ·split at E<;>try (cases E;done)
  rename_i Z;simp only[if_pos Z,h,e1];unfold Zx at E ⊢;split at E<;>try (cases E;done)
  split at E<;>try (cases E;done)
  rename_i hz;simp only[if_neg hz];split at E
  ·rename_i L;simp only[if_pos L];exact put _ _ E
  ·rename_i L
   simp only[if_neg L];split at E<;>try (cases E;done)
   rename_i O;simp only[if_pos O];exact app _ _ E
 ·split at E<;>try (cases E;done)
  rename_i Z;simp only[if_pos Z,h,e2];unfold Zw at E ⊢;split at E<;>try (cases E;done)
  split at E
  ·rename_i L;simp only[if_pos L];exact put _ _ E
  ·rename_i L
   simp only[if_neg L];split at E<;>try (cases E;done)
   rename_i O;simp only[if_pos O];exact app _ _ E
 ·simp only[h,e2]
  unfold Uj at E ⊢;split at E<;>try (cases E;done)
  split at E<;>try (cases E;done)
  rename_i o1 a1 n1 _ _ _ k1 R1 l1 _ O;rw[if_pos O];exact Q _ _ _ E
theorem FU{d:LAa}{o:SOp}(h:∀y∈o.args,CSt.ev ⟨tm',ob,tk⟩ y=CSt.ev ⟨tm,ob,tk⟩ y)(E:opC call sg ⟨tm,ob,tk⟩ d o=some c'):∃F,Uni d F/\c'.tm=F tm/\opC call sg ⟨tm',ob,tk⟩ d o=some ⟨F tm',c'.ob,c'.tk⟩:=by
 by_cases Q:∃f a_,o= .call f a_
 ·obtain⟨f,a_,rfl⟩:=Q
  simp only[opC]at E ⊢;simp only[SOp.args,av]at h;rw[h f (.inl rfl),nA fun y hy=>h y (.inr hy)];split at E<;>try (cases E;done)
  obtain⟨F,J,q,I⟩:=uV (call:=call) (ob:=ob) (tk:=tk) (sg:=sg ‹_›) (d:=d) (g:= ‹_›) (a_:= ‹f8› ++evL ⟨tm,ob,tk⟩ a_++ ‹f8›);rename_i g u v a7;obtain⟨F,J,q,I⟩:=uV (call:=call) (ob:=ob) (tk:=tk) (sg:=sg g) (d:=d) (g:=g) (a_:=u++evL ⟨tm,ob,tk⟩ a_++v);rw[I]at E;cases q with
  |none=>cases E
  |some q=>simp only[bE,ax.injEq]at E;subst E;exact⟨F,J,rfl,by rw[I];rfl⟩
 by_cases a1:∃xs,o= .newB xs
 ·obtain⟨xs,rfl⟩:=a1
  simp only[opC]at E ⊢;simp only[SOp.args]at h;rw[nA h];unfold pw at E ⊢;split at E<;>try (cases E;done)
  rename_i k l hk;cases E;obtain⟨F,ob',tk',J,I⟩:=rq (ob:=ob) (tk:=tk) (some k) {val:= .psl (k+100) 1 0 l.length (some l.length),new:=some (.bar l)};exact⟨F,J,by rw[I],by simp only[I]⟩
 by_cases Z:∃q,o= .slid q
 ·obtain⟨q,rfl⟩:=Z
  simp only[opC]at E ⊢;rw[h q (by simp[SOp.args])];generalize CSt.ev ⟨tm,ob,tk⟩ q=v at E;unfold tD at E;split at E<;>try (cases E;done)
  rename_i O off n cap;show ∃F,_/\_/\pX _ d O off n cap (CSt.look ⟨tm',ob,tk⟩ O)=_;have a2:CSt.look ⟨tm',ob,tk⟩ O=CSt.look ⟨tm,ob,tk⟩ O:=rfl;rw[a2];generalize CSt.look ⟨tm,ob,tk⟩ O=u at E;unfold pX at E;split at E<;>try (cases E;done)
  split at E<;>try (cases E;done)
  rename_i l L;cases E;obtain⟨F,ob',tk',a6,J,I⟩:=oV (ob:=ob) (tk:=tk) O [];obtain⟨G,g1,g2⟩:=Uni.cput d (.byt ((l.drop off).take n) .clip);refine⟨fun t=>G (F t),J.weak.comp g1, ?_, ?_⟩
  ·rw[I tm];rw[g2]
  ·simp only[pX,if_pos L,I,g2]
 by_cases W:∃z b q y,o= .appO z b q y
 ·obtain⟨z,b,q,y,rfl⟩:=W
  simp only[opC]at E ⊢;simp only[SOp.args,av,cG,or_false,forall_eq_or_imp,forall_eq]at h;rw[h.1];exact Kx h.2 E
 ·have e:∀c,opC call sg c d o=o5 c d (eJ c d o):=by
   intro c;cases o<;>first|rfl|exact absurd ⟨_,_,rfl⟩ Q|exact absurd ⟨_,rfl⟩ a1|exact absurd ⟨_,rfl⟩ Z|exact absurd ⟨_,_,_,_,rfl⟩ W
  rw[e]at E;rw[e,xaz h];cases he:eJ ⟨tm,ob,tk⟩ d o with
  |none=>rw[he]at E;cases E
  |some q=>rw[he]at E;simp only[o5,ax.injEq]at E ⊢;obtain⟨F,ob',tk',J,I⟩:=rq (ob:=ob) (tk:=tk) d q;rw[I]at E;subst E;exact⟨F,J,rfl,I _⟩
theorem wV{i:SI}(h:∀n∈i.rds,fb tm' n=fb tm n):∀y∈i.op.args,CSt.ev ⟨tm',ob,tk⟩ y=CSt.ev ⟨tm,ob,tk⟩ y:=by
 intro y E;refine xrS fun n hn=>h n ?_
 subst hn;unfold SI.rds;rw[am];exact .inl (List.mem_filterMap.2 ⟨_,E,rfl⟩)
theorem xh3{i:SI}{g:Nat}{b:Bool}(y:i.g=some (g,b)):g∈i.rds:=by unfold SI.rds;rw[y];simp
theorem Hc{i:SI}(h:∀n∈i.rds,fb tm' n=fb tm n)(y:eB call sg ⟨tm,ob,tk⟩ i=some c'):∃F,Uni i.dst F/\c'.tm=F tm/\eB call sg ⟨tm',ob,tk⟩ i=some ⟨F tm',c'.ob,c'.tk⟩:=by
 unfold eB at y ⊢;split at y
 ·exact FU (wV h) y
 ·rename_i g b L
  have e:CSt.get ⟨tm',ob,tk⟩ g=CSt.get ⟨tm,ob,tk⟩ g:=h g (xh3 L);rw[e];split at y<;>try (cases y;done)
  rotate_left
  ·obtain⟨F,I,E⟩:=Uni.cput i.dst (.tup [])
   rw[E]at y;cases y;exact⟨F,I,rfl,by rw[E]⟩
  split at y
  ·rename_i J
   obtain⟨F,I,E,O⟩:=FU (wV h) y;exact⟨F,I,E,by simp only[if_pos J];exact O⟩
  ·rename_i J
   obtain⟨F,I,E⟩:=Uni.cput i.dst (.tup []);rw[E]at y;cases y;exact⟨F,I,rfl,by simp only[if_neg J];rw[E]⟩
theorem xhN{i:SI}(h:∀n∈i.rds,fb tm' n=fb tm n):qv ⟨tm',ob,tk⟩ i=qv ⟨tm,ob,tk⟩ i:=by
 have E:dx ⟨tm',ob,tk⟩ i.op=dx ⟨tm,ob,tk⟩ i.op:=by
  have y:=wV (ob:=ob) (tk:=tk) h;generalize i.op=o at y;have F:=D0 y;cases o with
  |pick k a b=>simp only[SOp.args,av,cG,or_false,forall_eq_or_imp,forall_eq]at y;simp only[dx];rw[y.1,y.2.1,y.2.2]
  |_=>simp only[dx];rw[F]
 unfold qv;cases hg:i.g with
 |none=>exact E
 |some p=>obtain⟨g,b⟩:=p;simp only;have e:CSt.get ⟨tm',ob,tk⟩ g=CSt.get ⟨tm,ob,tk⟩ g:=h g (xh3 hg);rw[e];cases CSt.get ⟨tm,ob,tk⟩ g<;>first|rfl|(simp only[qg];rw[E])
end
theorem pS{i:SI}{v:SV}(h:qv c i=some v):eB call sg c i=some (c.put i.dst v):=by
 have E:∀o,dx c o=some v->opC call sg c i.dst o=some (c.put i.dst v):=by
  intro o y;cases o with
  |pick k a b=>simp only[dx]at y;split at y<;>cases y;rename_i t I;simp only[opC,eJ,I,o5];rfl
  |_=>
   simp only[dx]at y
   first
    |(simp only[cY]at y;cases y;done)
    |(simp only[opC,eJ];rw[y];rfl)
    |(simp[cY]at y;done)
 unfold qv at h;unfold eB;generalize i.g=q at h;cases q with
 |none=>exact E _ h
 |some q=>
  obtain⟨g,b⟩:=q;simp only at h ⊢;generalize c.get g=u at h
  by_cases hu:u= .tup []
  ·subst hu
   simp only[qg,ax.injEq]at h;subst h;rfl
  obtain⟨t,rfl⟩:∃t,u= .bool t:=by
   unfold qg at h;split at h
   ·exact⟨_,rfl⟩
   ·exact absurd rfl hu
   ·cases h
  simp only[qg]at h ⊢;split at h
  ·rename_i F;rw[if_pos F];exact E _ h
  ·rename_i F;rw[if_neg F];cases h;rfl
structure Apx(N:Nat)(D:List Nat)(c p:CSt):Prop where
 get:∀n,n∉D->c.get n=p.get n
 ob:c.ob=p.ob
 tk:c.tk=p.tk
 dom:∀q∈p.tm,q.1<N
theorem Apx.step{D:t8}{p y:CSt}{i:SI}(h:Apx N D c p)(hi:i.ok N=true)(Q:∀n∈i.rds,n∉D)(W:eB call sg p i=some y):∃c1,eB call sg c i=some c1/\Apx N D c1 y:=by
 obtain⟨tm',ob',tk'⟩:=c;obtain⟨tm,ob,tk⟩:=p;have L:=h.ob;have J:=h.tk;simp only at L J;subst L;subst J;obtain⟨F,k1,k2,O⟩:=Hc (tm':=tm') (fun n hn=>h.get n (Q n hn)) W;refine⟨_,O,⟨fun n hn=> ?_,rfl,rfl,fun q I=> ?_⟩⟩
 ·show fb (F tm') n=fb y.tm n
  rw[k2];exact k1.get _ _ _ (h.get n hn)
 ·rw[k2]at I
  rcases k1.dom _ _ I with⟨Z,E,e⟩|e
  ·rw[<-e];exact h.dom Z E
  ·unfold SI.ok at hi
   rw[e]at hi;simpa using hi
theorem Apx.qv{D:t8}{p:CSt}{i:SI}(h:Apx N D c p)(F:∀n∈i.rds,n∉D):qv c i=qv p i:=by obtain⟨tm',ob',tk'⟩:=c;obtain⟨tm,ob,tk⟩:=p;have E:=h.ob;have y:=h.tk;simp only at E y;subst E;subst y;exact xhN fun n hn=>h.get n (F n hn)
theorem Apx.put{D:t8}{p:CSt}{d:Nat}{v:SV}(h:Apx N D c p)(hd:d<N):Apx N (d::D) c (p.put (some d) v):=by
 refine⟨fun n hn=> ?_,h.ob,h.tk,fun q y=> ?_⟩
 ·simp only[av,not_or]at hn
  rw[iC,if_neg hn.1];exact h.get n hn.2
 ·rcases nN y with e|e
  ·rw[e];exact hd
  ·exact h.dom q e
theorem Uf{p:CSt}{d:Nat}{v:SV}{i:SI}(h:d∉i.rds):Sy.qv (p.put (some d) v) i=Sy.qv p i:=by
 obtain⟨tm,ob,tk⟩:=p;refine xhN (tm:=tm) (tm':=kr tm d v) fun n hn=> ?_
 rw[nQ,if_neg (by intro e;subst e;exact h hn)]
theorem si{α:Type}{p:Prop}{v u:α}(h:gdP p v=some u):p/\v=u:=by
 unfold gdP at h;split at h
 ·rename_i y;exact⟨y,by simpa using h⟩
 ·cases h
theorem sr{m:Nat}{p:CSt}{f:FI}:∀{l:List FI},wi m p l->f∈l->m.testBit f.n=true\/qv p f.i=some (p.get (f.i.dst.getD 0))
 |g::r,h,hf=>by
  rcases av.1 hf with rfl|hf
  ·rcases h.1 with y|y
   ·left
    rw[Nat.testBit_eq_decide_div_mod_eq];simpa using y
   ·exact .inr y
  ·exact sr h.2 hf
def Nx(g q:FI):Prop:=q.q=true->∀d,q.i.dst=some d->d∉g.i.rds/\g.i.dst≠some d
def BC(q:FI):Prop:=q.q=true->∃d,q.i.dst=some d/\d∉q.i.rds
def dOf(f:FI):Nat:=f.i.dst.getD 0
theorem oE{b:t8}{cF:CSt}:∀{r ps V:List FI}{p:CSt}{D:t8},fH call sg b r ps p=some cF->Apx N D c p->(∀f∈r,f.i.ok N=true)->(∀f∈r,BC f)->r.Pairwise Nx->(∀g∈V,∀f∈r,Nx g f)->
 (∀g∈V,∃d,g.i.dst=some d)->(∀g∈V,qv p g.i=some (p.get (dOf g)))->∃seg post I F,r=seg++post/\(∀f∈seg,f.q=true)/\(post=[]\/∃f r',post=f::r'/\f.q=false)/\fH call sg b post F I=some cF/\
  (∀f,f∈ps\/f∈seg->f∈F)/\Apx N (seg.map dOf++D) c I/\∀g,g∈V\/g∈seg->qv I g.i=some (I.get (dOf g))
 |[],ps,V,p,D,h,hA,_,_,_,_,_,hV=>⟨[],[],p,ps,rfl,by simp,.inl rfl,h,by simp,by simpa using hA,by simpa using hV⟩
 |f::r,ps,V,p,D,h,hA,hok,hself,hpw,hVr,hVd,hV=>by
  obtain⟨n,q,i⟩:=f;cases q with
  |false=>exact⟨[],⟨n,false,i⟩::r,p,ps,rfl,by simp,.inr ⟨_,_,rfl,rfl⟩,h,by simp,by simpa using hA,by simpa using hV⟩
  |true=>
   simp only[fH]at h;cases hq:qv p i with
   |none=>rw[hq]at h;simp[zx]at h
   |some v=>
    rw[hq]at h;simp only[zx]at h;obtain⟨d,hd,J⟩:=hself _ (aA ..) rfl;simp only at hd J
    have Z:d<N:=by have:=hok _ (aA ..);unfold SI.ok at this;simp only[hd]at this;simpa using this
    rw[hd]at h;rw[bJ]at hpw
    have Q:∀g:FI,(∃e,g.i.dst=some e)->g.i.dst≠some d->(p.put (some d) v).get (dOf g)=p.get (dOf g):=by
     rintro g ⟨e,he⟩ O;have L:dOf g=e:=by unfold dOf;rw[he];rfl
     rw[L,iC,if_neg];intro e2;rw[he,e2]at O;exact O rfl
    obtain⟨seg,post,I,F,k1,k2,k3,k4,k5,W,k7⟩:=oE (V:=⟨n,true,i⟩::V) h (hA.put Z) (fun f E=>hok f (aw _ E)) (fun f E=>hself f (aw _ E)) hpw.2
     (by
      intro g y f E;rcases av.1 y with rfl|y
      ·exact hpw.1 f E
      ·exact hVr g y f (aw _ E))
     (by
      intro g y;rcases av.1 y with rfl|y
      ·exact⟨d,hd⟩
      ·exact hVd g y)
     (by
      intro g y;rcases av.1 y with rfl|y
      ·have L:dOf ⟨n,true,i⟩=d:=by unfold dOf;simp only[hd];rfl
       rw[L,Uf J,iC,if_pos rfl];exact hq
      ·obtain⟨h1,h2⟩:=hVr g y _ (aA ..) rfl d hd
       rw[Uf h1,Q g (hVd g y) h2];exact hV g y)
    refine⟨⟨n,true,i⟩::seg,post,I,F,by rw[k1];rfl, ?_,k3,k4, ?_, ?_, ?_⟩
    ·intro f E
     rcases av.1 E with rfl|E
     ·rfl
     ·exact k2 f E
    ·intro f E
     refine k5 f ?_;rcases E with E|E
     ·exact .inl (aw _ E)
     ·rcases av.1 E with rfl|E
      ·exact .inl (aA ..)
      ·exact .inr E
    ·have L:dOf ⟨n,true,i⟩=d:=by unfold dOf;simp only[hd];rfl
     refine⟨fun m hm=>W.get m (fun h=>hm ?_),W.ob,W.tk,W.dom⟩;simp only[aI,L,bp,av,am]at h ⊢;rcases h with h|h|h
     ·exact .inr (.inl h)
     ·exact .inl h
     ·exact .inr (.inr h)
    ·intro g y
     refine k7 g ?_;rcases y with y|y
     ·exact .inl (aw _ y)
     ·rcases av.1 y with rfl|y
      ·exact .inl (aA ..)
      ·exact .inr y
section
variable {ops : Array Oper} {its : List FI} {b : List Nat}
def un(its:List FI)(listed:Array Bool):List FI:=its.filter fun f=> !listed.getD f.n true
theorem df{listed:Array Bool}{f:FI}:f∈un its listed↔f∈its/\listed.getD f.n true=false:=by simp[un]
structure ry(call:dw)(sg:Nat->Sig)(N:Nat)(b:List Nat)(its:List FI)(cF:CSt)(listed:Array Bool)(c:CSt):Prop where
 ex:∃pre post p ps,its=pre++post/\(post=[]\/∃f r,post=f::r/\f.q=false)/\fH call sg b post ps p=some cF/\(∀f∈pre,f.q=true->f∈ps)/\
  (∀f∈pre,f.q=false->listed.getD f.n true=true)/\(∀f∈post,listed.getD f.n true=false)/\
  Apx N ((un pre listed).map dOf) c p/\∀f∈un pre listed,qv p f.i=some (p.get (dOf f))
theorem Bl(e6:gX P call){cF:CSt}
 (a1:∀f∈its,∃o,ops[f.n]? =some o/\gS P ops o=some f.i.er/\f.n<ops.size) (e8:∀j,j<ops.size->∃f∈its,f.n=j) (e0:∀f∈its,∀g∈its,f.n=g.n->f=g)
 (d1:∀(i:Nat)(o:Oper),ops[i]? =some o->∀e∈o.after,Region.binds .any e=true->e.on<i)
 (j7:∀(i:Nat)(o:Oper)(k:Nat),ops[i]? =some o->k<ops.size->(b.getD i 0).testBit k=true->∃e∈o.after,Region.binds .any e=true/\(e.on=k\/(b.getD e.on 0).testBit k=true))
 (d2:∀f∈its,f.i.ok N=true) (a8:∀f∈its,BC f) (h7:its.Pairwise Nx)
 (l0:∀q∈its,q.q=true->∀p∈its,∀d,q.i.dst=some d->d∈p.i.rds->(b.getD p.n 0).testBit q.n=true)
 (d7:∀pre f r,its=pre++f::r->f.q=false->∀g∈r,∃h∈f::r,(b.getD g.n 0).testBit h.n=true)
 (o0:∀f∈its,∀g∈its,f.n≠g.n->∀d,f.i.dst=some d->g.i.dst≠some d) {Q:LAf} (hQ:∀a w,M C N cF a w->Q .normal a w):
 ∀(b4:Nat)(listed:Array Bool)(c:CSt)(a:Act)(w:World),(un its listed).length<=b4->listed.size=ops.size->
  (∀(i:Nat)(o:Oper)(k:Nat),ops[i]? =some o->listed.getD i true=true->k<ops.size->(b.getD i 0).testBit k=true->listed.getD k true=true)->
  ry call sg N b its cF listed c->M C N c a w->wpAny P .any ops Q b4 listed a w:=by
 classical
 have g6:∀(listed:Array Bool),listed.size=ops.size->∀k,k<ops.size->listed.getD k false=listed.getD k true:=by intro listed hs k hk;simp[ll,hs,hk]
 have done:∀(listed:Array Bool)(c:CSt)(a:Act)(w:World),un its listed=[]->ry call sg N b its cF listed c->M C N c a w->Region.ready .any ops listed=[]/\Q .normal a w:=by
  intro listed c a w h0 hS hM;constructor
  ·rw[List.eq_nil_iff_forall_not_mem]
   intro j hj;obtain⟨h1,o,h2,h3⟩:=mem_ready.1 hj;have k8:j<ops.size:=(dk.1 h2).1;obtain⟨J,W,rfl⟩:=e8 j k8;have:J∈un its listed:=df.2 ⟨W,h1⟩;rw[h0]at this;cases this
  ·obtain⟨pre,post,p,ps,e,hp,F,_,_,g2,hA,_⟩:=hS.ex
   have k9:post=[]:=by
    cases post with
    |nil=>rfl
    |cons f r=>have:f∈un its listed:=df.2 ⟨by rw[e];simp,g2 f (aA ..)⟩;rw[h0]at this;cases this
   subst k9;simp only[fH,ax.injEq]at F;subst F;have hD:un pre listed=[]:=by rw[<-h0,e,bA]
   rw[hD]at hA;refine hQ a w ?_;obtain⟨x,s,n4,f5⟩:=hM;refine M.slots (c:=c) ⟨x,s,n4,f5⟩ ⟨hA.dom,by rw[<-hA.ob];exact f5.inv.so,by rw[<-hA.ob];exact f5.inv.wf⟩ hA.ob.symm hA.tk.symm (fun i=> .inl (hA.get i (by simp)).symm)
 intro b4;induction b4 with
 |zero=>intro listed c a w Z hs f6 hS hM;exact done listed c a w (b8.1 (by omega)) hS hM
 |succ b4 ih=>
  intro listed c a w Z hs f6 hS hM;constructor
  ·intro j5
   by_cases h0:un its listed=[]
   ·exact(done listed c a w h0 hS hM).2
   ·exfalso
    have hp:∃n,∃f∈un its listed,f.n=n:=by
     cases hc:un its listed with
     |nil=>exact absurd hc h0
     |cons f r=>exact⟨_,f,aA ..,rfl⟩
    obtain⟨n,⟨f,l2,o3⟩,i0⟩:=xhU _ hp;obtain⟨h1,h2⟩:=df.1 l2;obtain⟨o,h3,_,h4⟩:=a1 f h1
    have:f.n∈Region.ready .any ops listed:=by refine mem_ready.2 ⟨h2,o,h3,fun e he hb=> ?_⟩;have b3:=d1 f.n o h3 e he hb;rw[g6 listed hs _ (by omega),<-Bool.not_eq_false];intro l5;obtain⟨g,I,i4⟩:=e8 e.on (by omega);have:=i0 e.on ⟨g,df.2 ⟨I,by rw[i4];exact l5⟩,i4⟩;omega
    rw[j5]at this;cases this
  ·intro i j9
   obtain⟨h1,o,h2,h3⟩:=mem_ready.1 j9;have g5:i<ops.size:=(dk.1 h2).1;obtain⟨J,W,rfl⟩:=e8 i g5;obtain⟨o',g8,e5,_⟩:=a1 J W;rw[h2]at g8;cases g8
   have b5:∀k,k<ops.size->(b.getD J.n 0).testBit k=true->listed.getD k true=true:=by
    intro k hk hb;obtain⟨e,he,h8,n3⟩:=j7 J.n o k h2 hk hb;have e7:=h3 e he h8;have n0:=d1 J.n o h2 e he h8;rw[g6 listed hs _ (by omega)]at e7;rcases n3 with h|h
    ·rw[<-h];exact e7
    ·exact f6 e.on (ops[e.on]'(by omega)) k (by simp) e7 hk h
   have n5:(un its (listed.setIfInBounds J.n true)).length<(un its listed).length:=by
    have e1:un its (listed.setIfInBounds J.n true)=(un its listed).filter fun q=> !decide (q.n=J.n):=by
     simp only[un,List.filter_filter];apply List.filter_congr;intro q hq;rw[iz (by omega)]
     by_cases h:q.n=J.n<;>simp[h]
    rw[e1];refine List.length_filter_lt_length_iff_exists.2 ⟨J,df.2 ⟨W,h1⟩,by simp⟩
   have e3:∀(i:Nat)(o:Oper)(k:Nat),ops[i]? =some o->(listed.setIfInBounds J.n true).getD i true=true->k<ops.size->(b.getD i 0).testBit k=true->(listed.setIfInBounds J.n true).getD k true=true:=by
    intro i2 o2 g7 j8 f2 j3 j4;rw[iz (by omega)]at f2 ⊢;split
    ·rfl
    ·split at f2
     ·rename_i e1
      subst e1;exact b5 g7 j3 j4
     ·exact f6 i2 o2 g7 j8 f2 j3 j4
   have n9:∀g∈its,listed.getD g.n true=true->g≠J:=by intro g _ I e;subst e;rw[h1]at I;cases I
   have L:∀g∈its,(listed.setIfInBounds J.n true).getD g.n true=if g=J then true else listed.getD g.n true:=by
    intro g I;rw[iz (by omega)]
    by_cases h:g=J
    ·subst h;simp
    ·rw[if_neg (fun e=>h (e0 g I J W e)),if_neg h]
   obtain⟨pre,post,p,ps,e,b7,F,f3,a7,O,hA,hV⟩:=hS.ex;have y:∀g∈pre,g∈its:=fun g I=>by rw[e];exact am.2 (.inl I)
   have E:∀g∈post,g∈its:=fun g I=>by rw[e];exact am.2 (.inr I)
   have d5:∀n∈J.i.rds,n∉(un pre listed).map dOf:=by
    intro n hn hm;obtain⟨g,I,b6⟩:=aZ.1 hm;obtain⟨a6,a2⟩:=df.1 I
    have j0:g.q=true:=by
     cases hq:g.q with
     |true=>rfl
     |false=>rw[a7 g a6 hq]at a2;cases a2
    obtain⟨d,hd,_⟩:=a8 g (y g a6) j0;have m6:d=n:=by unfold dOf at b6;rw[hd]at b6;exact b6
    subst m6;have:=l0 g (y g a6) j0 J W d hd hn;obtain⟨_,_,_,b3⟩:=a1 g (y g a6);rw[b5 g.n b3 this]at a2;cases a2
   by_cases c3:J∈pre
   ·
    have hq:J.q=true:=by
     cases hq:J.q with
     |true=>rfl
     |false=>rw[a7 J c3 hq]at h1;cases h1
    have k0:J∈un pre listed:=df.2 ⟨c3,h1⟩;have hv:=hV J k0;rw[<-hA.qv d5]at hv;obtain⟨d,hd,o1⟩:=a8 J W hq;have h9:dOf J=d:=by unfold dOf;rw[hd];rfl
    refine ie e6 hM (d2 J W) h2 e5 (pS (call:=call) (sg:=sg) hv) fun a' w' g1=> ?_
    refine ih _ _ a' w' (by omega) (by simpa using hs) e3 ⟨pre,post,p,ps,e,b7,F,f3, ?_, ?_, ?_, ?_⟩ g1
    ·intro f Z b1
     rw[L f (y f Z)];split
     ·rfl
     ·exact a7 f Z b1
    ·intro f Z
     rw[L f (E f Z),if_neg]
     ·exact O f Z
     ·intro e2
      subst e2
      have g9:its.Pairwise fun f g=>f.n≠g.n\/f=g:=List.pairwise_of_forall_mem_list (fun f Z g I=>by
       by_cases h:f.n=g.n
       ·exact .inr (e0 f Z g I h)
       ·exact .inl h)
      have h5:=h7;rw[e]at h5;have h6:=(dX.1 h5).2.2 f c3 f Z hq d hd;exact h6.2 hd
    ·refine⟨fun n hn=> ?_, ?_, ?_,hA.dom⟩
     ·rw[hd,iC]
      split
      ·rename_i e2;rw[e2,h9]
      ·rename_i g9
       refine hA.get n fun hm=>hn ?_
       obtain⟨g,I,b6⟩:=aZ.1 hm;obtain⟨a6,a2⟩:=df.1 I;refine aZ.2 ⟨g,df.2 ⟨a6, ?_⟩,b6⟩;rw[L g (y g a6),if_neg]
       ·exact a2
       ·intro e2;subst e2;rw[h9]at b6;exact g9 b6.symm
     ·cases J.i.dst<;>exact hA.ob
     ·cases J.i.dst<;>exact hA.tk
    ·intro f Z
     obtain⟨j2,d4⟩:=df.1 Z;refine hV f (df.2 ⟨j2, ?_⟩);rw[L f (y f j2)]at d4;split at d4
     ·cases d4
     ·exact d4
   ·
    have c7:J∈post:=by rw[e]at W;exact(am.1 W).resolve_left c3
    obtain⟨f0,r,d3,f1⟩:∃f r,post=f::r/\f.q=false:=by
     rcases b7 with h|h
     ·subst h;cases c7
     ·exact h
    have j1:J=f0:=by
     rw[d3]at c7;rcases av.1 c7 with h|h
     ·exact h
     ·exfalso
      obtain⟨g,I,e9⟩:=d7 pre f0 r (by rw[e,d3]) f1 J h;have c5:g∈post:=by rw[d3];exact I
      obtain⟨_,_,_,b3⟩:=a1 g (E g c5);have:=b5 g.n b3 e9;rw[O g c5]at this;cases this
    subst j1;subst d3;obtain⟨n,q,i⟩:=J;simp only at f1;subst f1;simp only[fH]at F;cases hs1:eB call sg p i with
    |none=>rw[hs1]at F;simp[tq]at F
    |some p1=>
     rw[hs1]at F;simp only[tq]at F;cases I:gdP (wi (b.getD n 0) p1 ps) p1 with
     |none=>rw[I]at F;simp[tu]at F
     |some n7=>
      rw[I]at F;simp only[tu]at F;obtain⟨i3,rfl⟩:=si I;obtain⟨c1,m1,l1⟩:=hA.step (d2 _ W) d5 hs1;refine ie e6 hM (d2 _ W) h2 e5 m1 fun a' w' g1=> ?_
      have e4:∀g∈un pre listed,g.q=true:=by
       intro g I;obtain⟨a6,a2⟩:=df.1 I;cases hq:g.q with
       |true=>rfl
       |false=>rw[a7 g a6 hq]at a2;cases a2
      have d6:=h7;rw[e]at d6;have g4:=dX.1 d6
      obtain⟨seg,g3,p2,m0,k1,k2,k3,k4,k5,k6,k7⟩:=oE (V:=un pre listed) F l1 (fun f Z=>d2 f (E f (aw _ Z))) (fun f Z=>a8 f (E f (aw _ Z)))
       (bJ.1 g4.2.1).2 (fun g I f Z=>g4.2.2 g (df.1 I).1 f (aw _ Z))
       (fun g I=>by obtain⟨d,hd,_⟩:=a8 g (y g (df.1 I).1) (e4 g I);exact⟨d,hd⟩)
       (fun g I=>by
        obtain⟨a6,a2⟩:=df.1 I;rcases sr i3 (f3 g a6 (e4 g I))with h|h
        ·obtain⟨_,_,_,b3⟩:=a1 g (y g a6)
         rw[b5 g.n b3 h]at a2;cases a2
        ·exact h)
      have j6:un (pre++⟨n,false,i⟩::seg) (listed.setIfInBounds n true)=un pre listed++seg:=by
       unfold un;rw[List.filter_append,fT];have e1:(listed.setIfInBounds n true).getD n true=true:=by rw[iz (by rw[hs];exact g5)];simp
       simp only[e1,Bool.not_true,aO,if_false]
       congr 1
       ·apply List.filter_congr
        intro g I;have:=L g (y g I);simp only at this;rw[this,if_neg];intro e2;subst e2;exact c3 I
       ·apply jl.2
        intro g I;have c5:g∈⟨n,false,i⟩::r:=by rw[k1];exact aw _ (am.2 (.inl I))
        have:=L g (E g c5);simp only at this;rw[this,if_neg]
        ·rw[O g c5];rfl
        ·intro e2;subst e2;have:=k2 _ I;cases this
      refine ih _ _ a' w' (by omega) (by simpa using hs) e3 ⟨pre++⟨n,false,i⟩::seg,g3,p2,m0,by rw[e,k1];simp,k3,k4, ?_, ?_, ?_, ?_, ?_⟩ g1
      ·intro f Z b1
       rcases am.1 Z with h|h
       ·exact k5 f (.inl (f3 f h b1))
       ·rcases av.1 h with rfl|h
        ·cases b1
        ·exact k5 f (.inr h)
      ·intro f Z b1
       rcases am.1 Z with h|h
       ·rw[L f (y f h)]
        split
        ·rfl
        ·exact a7 f h b1
       ·rcases av.1 h with rfl|h
        ·rw[L _ W,if_pos rfl]
        ·rw[k2 f h]at b1;cases b1
      ·intro f Z
       have i1:f∈⟨n,false,i⟩::r:=by rw[k1];exact aw _ (am.2 (.inr Z))
       rw[L f (E f i1),if_neg]
       ·exact O f i1
       ·intro e2
        subst e2;obtain⟨g,I,e9⟩:=d7 pre ⟨n,false,i⟩ r e rfl ⟨n,false,i⟩ (by rw[k1];exact am.2 (.inr Z));obtain⟨_,_,_,b3⟩:=a1 g (E g I);have:=b5 g.n b3 e9;rw[O g I]at this;cases this
      ·rw[j6,co]
       refine⟨fun m hm=>k6.get m (fun h=>hm ?_),k6.ob,k6.tk,k6.dom⟩;rw[am]at h ⊢;exact h.symm
      ·rw[j6]
       intro f Z;exact k7 f (am.1 Z)
end
theorem uH{f:FI}(l:List FI)(h:(l.map FI.n).Nodup)(y:f∈l):IT l f.n=f.i.er:=by
 induction l with
 |nil=>cases y
 |cons g r E=>
  simp only[aI,dR]at h;simp only[IT];rcases av.1 y with rfl|y
  ·rw[if_pos rfl]
  ·rw[if_neg,E h.2 y]
   intro e;apply h.1;rw[e];exact ji y
theorem J8{b:t8}{s:Nat}(l:List FI):pn b (some s) l=true->∀g∈l,(b.getD g.n 0).testBit s=true\/∃h∈l,(b.getD g.n 0).testBit h.n=true:=by
 induction l generalizing s with
 |nil=>intro _ g y;cases y
 |cons f r F=>
  intro h g y;simp only[pn]at h;split at h
  ·simp only[aD,o4]at h
   rcases av.1 y with rfl|y
   ·exact .inl h.1
   ·rcases F h.2 g y with E|⟨k,hk,E⟩
    ·exact .inl E
    ·exact .inr ⟨k,aw _ hk,E⟩
  ·simp only[aD,o4]at h
   rcases av.1 y with rfl|y
   ·exact .inl h.1
   ·rcases F h.2 g y with E|⟨k,hk,E⟩
    ·exact .inr ⟨f,aA ..,E⟩
    ·exact .inr ⟨k,aw _ hk,E⟩
theorem BR{b:t8}:∀{pre:List FI}{s:LAa}{f:FI}{r:List FI},pn b s (pre++f::r)=true->f.q=false->pn b (some f.n) r=true
 |[],s,f,r,h,hf=>by simp only[aF,pn,hf,aO,if_false,aD]at h;exact h.2
 |g::pre,s,f,r,h,hf=>by
  simp only[bp,pn]at h;split at h
  ·rw[aD]at h;exact BR h.2 hf
  ·rw[aD]at h;exact BR h.2 hf
theorem qp{b:t8}:∀{l:List FI},qr b l=true->l.Pairwise fun p q=>(b.getD p.n 0).testBit q.n=false
 |[],_=>fO.nil
 |p::r,h=>by simp only[qr,aD,bf]at h;refine bJ.2 ⟨fun q y=> ?_,qp h.2⟩;have:=h.1 q y;simp only[Ui,aD,dj,o4]at this;exact this.1
theorem H9(d5:gX P call){id:Nat}{ops:Array Oper}{its:List FI}(hl:kC (gS P ops) ops.toList=some (unF its))(hd:drawn ops (unF its)=true)(hm:P.follows .mixedOrders=true)
 (b5:its.all (fun f=>f.i.ok N)=true) (b1:VT (Region.before ops).toList its=true) {cF:CSt} {Q:LAf} (hQ:∀a w,M C N cF a w->Q .normal a w) (hM:M C N c a w)
 (h:fH call sg (Region.before ops).toList its [] c=some cF):(Code.region id ops true).wp P Q a w:=by
 simp only[VT,aD,decide_eq_true_eq,bf]at b1;obtain⟨⟨⟨⟨⟨b3,a6⟩,a2⟩,W⟩,Z⟩,d1⟩:=b1;simp only[xaf,bf,fD,dj]at a2;rw[bf]at b5;obtain⟨e0,e1⟩:=fz hl;have e4:(unF its).length=its.length:=by simp[unF]
 have e9:its.length=ops.size:=by rw[<-e4,e0,aW]
 have c3:∀f∈its,(unF its).getD f.n ⟨none,none,.lenC 0⟩=f.i.er:=by intro f y;have:=Z f y;rw[aa];simp only[unF,aU,cC this,bE,aM];exact uH _ W y
 simp only[drawn,aD,decide_eq_true_eq]at hd;obtain⟨⟨hc,ht⟩,b4⟩:=hd
 have b7:∀f∈its,∃o,ops[f.n]? =some o/\gS P ops o=some f.i.er/\f.n<ops.size:=by
  intro f y;have f0:=Z f y;have c7:f.n<ops.toList.length:=by rw[aW];omega
  refine⟨ops.toList[f.n],by rw[<-db,ac c7], ?_,by omega⟩;have E:=e1 f.n c7 (by omega);rw[E]
  congr 1
  have F:=c3 f y;rwa[aa,ac (by omega),aM]at F
 have d7:∀f∈its,∀g∈its,f.n=g.n->f=g:=by
  intro f y g hg e;have:its.Pairwise fun f g=>f.n≠g.n:=by rw[Ae,ii]at W;exact W
  rw[cD]at this;obtain⟨i,hi,rfl⟩:=List.mem_iff_getElem.1 y;obtain⟨j,hj,rfl⟩:=List.mem_iff_getElem.1 hg;rcases Nat.lt_trichotomy i j with h|h|h
  ·exact absurd e (this i j hi hj h)
  ·subst h;rfl
  ·exact absurd e.symm (this j i hj hi h)
 have d3:∀f∈its,∀g∈its,f.n≠g.n->∀d,f.i.dst=some d->g.i.dst≠some d:=by
  have a7:∀f∈its,∀g∈its,f.n<g.n->∀d,f.i.dst=some d->g.i.dst≠some d:=by
   intro f y g hg c5 d E F
   have d2:(unF its).Pairwise fun u v=>∀d,u.dst=some d->v.dst≠some d:=by rw[Ae,List.pairwise_filterMap]at b4;refine b4.imp ?_;intro u v e2 d hu hv;exact e2 d hu d hv rfl
   rw[cD]at d2;have e6:=Z f y;have e8:=Z g hg
   have g1:(unF its)[f.n]'(by omega)=f.i.er:=by have:=c3 f y;rwa[aa,ac (by omega),aM]at this
   have g2:(unF its)[g.n]'(by omega)=g.i.er:=by have:=c3 g hg;rwa[aa,ac (by omega),aM]at this
   exact d2 f.n g.n (by omega) (by omega) c5 d (by rw[g1];exact E) (by rw[g2];exact F)
  intro f y g hg e7 d E F;rcases bQ f.n g.n with h|h
  ·exact a7 f y g hg h d E F
  ·exact a7 g hg f y (by omega) d F E
 have I:∀(i:Nat)(o:Oper),ops[i]? =some o->(∀e∈o.after,Region.binds .any e=true->e.on<i)/\
  ∀k,k<ops.size->((Region.before ops).toList.getD i 0).testBit k=true->∃e∈o.after,Region.binds .any e=true/\(e.on=k\/((Region.before ops).toList.getD e.on 0).testBit k=true):=by
  intro i o ho;unfold sF at hc;rw[bf]at hc;have hi:i<ops.size:=(dk.1 ho).1
  have E:=hc (o,i) (by rw[List.mem_zipIdx_iff_getElem?];simpa using ho)
  simp only[aD,Array.all_eq_true_iff_forall_mem,bf,fD,dj,decide_eq_true_eq]at E;refine⟨fun e he hb=>(E.1 e he).resolve_left (by simp[hb]),fun k hk hb=> ?_⟩;have F:=(E.2 k (dt.2 hk)).resolve_left (by simp only[hb];simp);obtain⟨_,h3⟩:=F;rw[<-Array.any_toList,List.any_eq_true]at h3;obtain⟨e,he,h4⟩:=h3;rw[Array.mem_toList_iff]at he;simp only[aD,fD,beq_iff_eq]at h4;exact⟨e,he,h4.1,h4.2⟩
 have hq:∀q∈its,q.q=true->∃d,q.i.dst=some d/\∀p∈its,d∈p.i.rds->((Region.before ops).toList.getD p.n 0).testBit q.n=true/\p.n≠q.n:=by
  intro q hq L;have E:=(a2 q hq).resolve_left (by rw[L];simp);cases hd:q.i.dst with
  |none=>rw[hd]at E;cases E
  |some d=>
   rw[hd]at E;simp only[bf,fD,dj,aD,decide_eq_true_eq,o4]at E;refine⟨d,rfl,fun p hp hr=> ?_⟩;rcases E p hp with F|F
   ·rw[fC]at F;simp only[decide_eq_false_iff_not]at F;exact absurd hr F
   ·exact F
 have O:∀f∈its,BC f:=by intro f y a2;obtain⟨d,hd,E⟩:=hq f y a2;exact⟨d,hd,fun h=>(E f y h).2 rfl⟩
 have d4:∀q∈its,q.q=true->∀p∈its,∀d,q.i.dst=some d->d∈p.i.rds->((Region.before ops).toList.getD p.n 0).testBit q.n=true:=by intro q a1 L p hp d hd hr;obtain⟨d',e5,E⟩:=hq q a1 L;rw[e5]at hd;cases hd;exact(E p hp hr).1
 have d6:its.Pairwise Nx:=by
  have E:its.Pairwise fun f g=>f.n≠g.n:=by rw[Ae,ii]at W;exact W
  refine((qp a6).and E).imp_of_mem ?_;rintro p q hp a1 ⟨F,h3⟩ L d hd;refine⟨fun hr=> ?_,fun e=>d3 p hp q a1 h3 d e hd⟩;rw[d4 q a1 L p hp d hd hr]at F;cases F
 obtain⟨seg,post,p2,e3,k1,k2,k3,k4,k5,k6,k7⟩:=oE (N:=N) (D:=[]) (V:=[]) h ⟨fun _ _=>rfl,rfl,rfl,by obtain⟨x,s,_,hS⟩:=hM;exact hS.inv.dom⟩ (fun f y=>b5 f y) O d6 (by simp) (by simp) (by simp)
 have J:∀f∈its,(eT ops.size false).getD f.n true=false:=by
  intro f y;have:=Z f y;have:f.n<ops.size:=by omega
  simp[ll,this]
 have a8:un seg (eT ops.size false)=seg:=by apply jl.2;intro f y;rw[J f (by rw[k1];exact am.2 (.inl y))];rfl
 refine wp_region_any hm ?_
 refine Bl (its:=its) (b:=(Region.before ops).toList) (cF:=cF) (sg:=sg) d5 b7 (fun j hj=> ?_) d7 (fun i o ho=>(I i o ho).1) (fun i o k ho hk hb=>(I i o ho).2 k hk hb) (fun f y=>b5 f y) O d6 d4
  (fun pre f r e y g hg=> ?_) d3 hQ ops.size _ c a _ ?_ (by simp) ?_ ⟨seg,post,p2,e3,k1,k3,k4,fun f y _=>k5 f (.inr y),(fun f y hq=>by rw[k2 f y]at hq;cases hq),fun f y=>J f (by rw[k1];exact am.2 (.inr y)), ?_, ?_⟩ ?_
 ·have:=d1 j (dt.2 (by omega))
  rw[fC]at this;simp only[decide_eq_true_eq]at this;obtain⟨f,y,e⟩:=aZ.1 this;exact⟨f,y,e⟩
 ·rw[e]at b3
  rcases J8 _ (BR b3 y) g hg with E|⟨k,hk,E⟩
  ·exact⟨f,aA ..,E⟩
  ·exact⟨k,aw _ hk,E⟩
 ·have:(un its (eT ops.size false)).length<=its.length:=List.length_filter_le _ _
  omega
 ·intro i o k ho hl _ _
  have hi:i<ops.size:=(dk.1 ho).1;simp[ll,hi]at hl
 ·rw[a8];simpa using k6
 ·rw[a8];intro f y;exact k7 f (.inr y)
 ·obtain⟨x,s,b6,hS⟩:=hM
  exact⟨x,s,⟨b6.tm,b6.defers,b6.heap.drawn _⟩,hS⟩
end Go.Sy
namespace Go.Sy
variable [bx]
variable {P : Program} {C : Ctx} {x : Sit} {a : Act} {w : World} {N : Nat} {c c' : CSt} {s : St} {call : dw} {sg : Nat -> Sig}
variable {ops : Array Oper} {its σ : List FI} {b : List Nat} {cF : CSt} {listed : Array Bool}
structure UX(P:Program)(N:Nat)(ops:Array Oper)(its:List FI)(b:List Nat):Prop where
 item:∀f∈its,∃o,ops[f.n]? =some o/\gS P ops o=some f.i.er/\f.n<ops.size
 ex:∀j,j<ops.size->∃f∈its,f.n=j
 inj:∀f∈its,∀g∈its,f.n=g.n->f=g
 back:∀(i:Nat)(o:Oper),ops[i]? =some o->∀e∈o.after,Region.binds .any e=true->e.on<i
 bit:∀(i:Nat)(o:Oper)(k:Nat),ops[i]? =some o->k<ops.size->(b.getD i 0).testBit k=true->∃e∈o.after,Region.binds .any e=true/\(e.on=k\/(b.getD e.on 0).testBit k=true)
 ok:∀f∈its,f.i.ok N=true
 self:∀f∈its,BC f
 rd:∀q∈its,q.q=true->∀p∈its,∀d,q.i.dst=some d->d∈p.i.rds->(b.getD p.n 0).testBit q.n=true
structure xbb(its:List FI)(b:List Nat)(σ:List FI):Prop where
 mem:∀f,f∈σ↔f∈its
 nd:(σ.map FI.n).Nodup
 nx:σ.Pairwise Nx
 seg:∀pre f r,σ=pre++f::r->f.q=false->∀g∈r,g.q=true->∃h∈f::r,(b.getD g.n 0).testBit h.n=true
open Classical in
theorem Ed(J:listed.size=ops.size){y g:FI}(I:UX P N ops its b)(E:y∈its)(F:g∈its)(hi:y.n<ops.size):(listed.setIfInBounds y.n true).getD g.n true=if g=y then true else listed.getD g.n true:=by
 rw[iz (by omega)]
 by_cases h:g=y
 ·subst h;simp
 ·rw[if_neg (fun e=>h (I.inj g F y E e)),if_neg h]
theorem Ge(I:UX P N ops its b)(O:xbb its b σ){pre:List FI}{Z:FI}(a6:Z∈its)(y:∀g∈pre,g∈its)(L:∀f∈pre,f.q=false->listed.getD f.n true=true)
 (W:∀k,k<ops.size->(b.getD Z.n 0).testBit k=true->listed.getD k true=true):∀n∈Z.i.rds,n∉(un pre listed).map dOf:=by
 intro n hn hm;obtain⟨g,hg,J⟩:=aZ.1 hm;obtain⟨E,F⟩:=df.1 hg
 have Q:g.q=true:=by
  cases hq:g.q with
  |true=>rfl
  |false=>rw[L g E hq]at F;cases F
 obtain⟨d,hd,_⟩:=I.self g (y g E) Q;have a1:d=n:=by unfold dOf at J;rw[hd]at J;exact J
 subst a1;have:=I.rd g (y g E) Q Z a6 d hd hn;obtain⟨_,_,_,a2⟩:=I.item g (y g E);rw[W g.n a2 this]at F;cases F
theorem D6(hs:listed.size=ops.size)(I:UX P N ops its b)(O:xbb its b σ)(hS:ry call sg N b σ cF listed c){F:FI}(Z:F∈its)(h1:listed.getD F.n true=false)(hq:F.q=true)
 (a2:∀k,k<ops.size->(b.getD F.n 0).testBit k=true->listed.getD k true=true):
 ∃v,qv c F.i=some v/\ry call sg N b σ cF (listed.setIfInBounds F.n true) (c.put F.i.dst v):=by
 classical
 obtain⟨_,_,_,d1⟩:=I.item F Z;have L:∀g∈its,(listed.setIfInBounds F.n true).getD g.n true=if g=F then true else listed.getD g.n true:=fun g hg=>Ed hs I Z hg d1
 obtain⟨pre,post,p,ps,e,J,b5,c7,W,Q,hA,hV⟩:=hS.ex;have y:∀g∈pre,g∈its:=fun g hg=>(O.mem g).1 (by rw[e];exact am.2 (.inl hg))
 have E:∀g∈post,g∈its:=fun g hg=>(O.mem g).1 (by rw[e];exact am.2 (.inr hg))
 have a7:=Ge (listed:=listed) I O Z y W a2
 have b4:F∈pre:=by
  have h2:=(O.mem F).2 Z;rw[e]at h2;rcases am.1 h2 with h3|h3
  ·exact h3
  ·exfalso
   rcases J with h4|⟨f0,r,h4,hf0⟩
   ·rw[h4]at h3;cases h3
   ·have h5:F∈r:=by
     rw[h4]at h3;rcases av.1 h3 with h|h
     ·rw[h,hf0]at hq;cases hq
     ·exact h
    obtain⟨g,hg,b7⟩:=O.seg pre f0 r (by rw[e,h4]) hf0 F h5 hq;have b3:g∈post:=by rw[h4];exact hg
    obtain⟨_,_,_,d3⟩:=I.item g (E g b3);have:=a2 g.n d3 b7;rw[Q g b3]at this;cases this
 have c3:F∈un pre listed:=df.2 ⟨b4,h1⟩;have hv:=hV F c3;rw[<-hA.qv a7]at hv;obtain⟨d,hd,d5⟩:=I.self F Z hq;have b6:dOf F=d:=by unfold dOf;rw[hd];rfl
 refine⟨_,hv,⟨pre,post,p,ps,e,J,b5,c7, ?_, ?_, ?_, ?_⟩⟩
 ·intro f hf d2
  rw[L f (y f hf)];split
  ·rfl
  ·exact W f hf d2
 ·intro f hf
  rw[L f (E f hf),if_neg]
  ·exact Q f hf
  ·intro e2
   subst e2;have h5:=O.nx;rw[e]at h5;have h6:=(dX.1 h5).2.2 f b4 f hf hq d hd;exact h6.2 hd
 ·refine⟨fun n hn=> ?_, ?_, ?_,hA.dom⟩
  ·rw[hd,iC]
   split
   ·rename_i e2;rw[e2,b6]
   ·rename_i c5
    refine hA.get n fun hm=>hn ?_
    obtain⟨g,hg,a6⟩:=aZ.1 hm;obtain⟨b1,d4⟩:=df.1 hg;refine aZ.2 ⟨g,df.2 ⟨b1, ?_⟩,a6⟩;rw[L g (y g b1),if_neg]
    ·exact d4
    ·intro e2;subst e2;rw[b6]at a6;exact c5 a6.symm
  ·cases F.i.dst<;>exact hA.ob
  ·cases F.i.dst<;>exact hA.tk
 ·intro f hf
  obtain⟨a8,a1⟩:=df.1 hf;refine hV f (df.2 ⟨a8, ?_⟩);rw[L f (y f a8)]at a1;split at a1
  ·cases a1
  ·exact a1
theorem Lh(l r:List FI):fV (l++r)=fV l++fV r:=List.filterMap_append
theorem Io{l:List FI}(h:∀f∈l,f.q=true):fV l=[]:=by unfold fV;rw[List.filterMap_eq_nil_iff];intro f y;rw[h f y];rfl
theorem rU{l:List FI}{k:Nat}:k∈fV l↔∃f∈l,f.q=false/\f.n=k:=by
 unfold fV;rw[List.mem_filterMap];constructor
 ·rintro⟨f,E,h⟩
  cases y:f.q with
  |true=>rw[y]at h;cases h
  |false=>rw[y]at h;exact⟨f,E,y,by simpa using h⟩
 ·rintro⟨f,E,y,rfl⟩;exact⟨f,E,by rw[y];rfl⟩
theorem lu(k:Nat):∀l:List FI,fV (l.filter fun q=> !decide (q.n=k))=(fV l).filter fun x=> !decide (x=k)
 |[]=>rfl
 |f::r=>by
  have y:=lu k r;rw[fT]
  by_cases h:f.n=k
  ·cases hq:f.q with
   |true=>simp only[h,decide_true,Bool.not_true,aO,if_false,y];simp[fV,hq]
   |false=>simp only[h,decide_true,Bool.not_true,aO,if_false,y];simp[fV,hq,h]
  ·cases hq:f.q with
   |true=>simp only[h,decide_false,Bool.not_false,if_true];simp only[fV,List.filterMap_cons,hq,if_true]at y ⊢;exact y
   |false=>simp only[h,decide_false,Bool.not_false,if_true];simp only[fV,List.filterMap_cons,hq,aO,if_false,fT,h,decide_false,Bool.not_false,if_true]at y ⊢;rw[y]
theorem BO(y:listed.size=ops.size){k:Nat}(F:k<ops.size)(σ:List FI):un σ (listed.setIfInBounds k true)=(un σ listed).filter fun q=> !decide (q.n=k):=by
 simp only[un,List.filter_filter];apply List.filter_congr;intro q E;rw[iz (by omega)]
 by_cases h:q.n=k<;>simp[h]
theorem D7(hs:listed.size=ops.size)(I:UX P N ops its b)(O:xbb its b σ)(hS:ry call sg N b σ cF listed c){it:FI}(a2:it∈its)(h1:listed.getD it.n true=false)(hq:it.q=false)
 (b4:∀k,k<ops.size->(b.getD it.n 0).testBit k=true->listed.getD k true=true) (hh:(fV (un σ listed)).head? =some it.n):
 ∃c1,eB call sg c it.i=some c1/\ry call sg N b σ cF (listed.setIfInBounds it.n true) c1:=by
 classical
 obtain⟨_,_,_,d5⟩:=I.item it a2;have Q:∀g∈its,(listed.setIfInBounds it.n true).getD g.n true=if g=it then true else listed.getD g.n true:=fun g J=>Ed hs I a2 J d5
 obtain⟨pre,post,p,ps,e,a8,F,d1,W,L,hA,hV⟩:=hS.ex;have E:∀g∈pre,g∈its:=fun g J=>(O.mem g).1 (by rw[e];exact am.2 (.inl J))
 have y:∀g∈post,g∈its:=fun g J=>(O.mem g).1 (by rw[e];exact am.2 (.inr J))
 have c3:=Ge (listed:=listed) I O a2 E W b4
 have a6:∀g∈un pre listed,g.q=true:=by
  intro g J;obtain⟨b1,a7⟩:=df.1 J;cases hq:g.q with
  |true=>rfl
  |false=>rw[W g b1 hq]at a7;cases a7
 have e8:un post listed=post:=jl.2 fun f Z=>by rw[L f Z];rfl
 have hu:fV (un σ listed)=fV post:=by
  have:un σ listed=un pre listed++un post listed:=by rw[e];exact List.filter_append ..
  rw[this,Lh,Io a6,e8];rfl
 rw[hu]at hh
 obtain⟨f0,r,b5,b6⟩:∃f r,post=f::r/\f.q=false:=by
  rcases a8 with h|h
  ·rw[h]at hh;cases hh
  ·exact h
 have e0:it=f0:=by
  rw[b5]at hh;have h2:fV (f0::r)=f0.n::fV r:=by simp[fV,b6]
  rw[h2]at hh;simp only[List.head?_cons,ax.injEq]at hh;exact I.inj it a2 f0 (y f0 (by rw[b5];exact aA ..)) hh.symm
 subst e0;subst b5
 have e3:(pre++it::r).Pairwise fun f g=>f.n≠g.n:=by have:=O.nd;rw[e,Ae,ii]at this;exact this
 obtain⟨n,q,i⟩:=it;simp only at b6;subst b6;simp only[fH]at F;cases hs1:eB call sg p i with
 |none=>rw[hs1]at F;simp[tq]at F
 |some p1=>
  rw[hs1]at F;simp only[tq]at F;cases J:gdP (wi (b.getD n 0) p1 ps) p1 with
  |none=>rw[J]at F;simp[tu]at F
  |some f2=>
   rw[J]at F;simp only[tu]at F;obtain⟨d4,rfl⟩:=si J;obtain⟨c1,e5,e7⟩:=hA.step (I.ok _ a2) c3 hs1;refine⟨c1,e5, ?_⟩;have b3:=O.nx;rw[e]at b3;have c5:=dX.1 b3
   obtain⟨seg,b7,p2,f1,k1,k2,k3,k4,k5,k6,k7⟩:=oE (V:=un pre listed) F e7 (fun f Z=>I.ok f (y f (aw _ Z))) (fun f Z=>I.self f (y f (aw _ Z)))
    (bJ.1 c5.2.1).2 (fun g J f Z=>c5.2.2 g (df.1 J).1 f (aw _ Z))
    (fun g J=>by obtain⟨d,hd,_⟩:=I.self g (E g (df.1 J).1) (a6 g J);exact⟨d,hd⟩)
    (fun g J=>by
     obtain⟨b1,a7⟩:=df.1 J;rcases sr d4 (d1 g b1 (a6 g J))with h|h
     ·obtain⟨_,_,_,e9⟩:=I.item g (E g b1)
      rw[b4 g.n e9 h]at a7;cases a7
     ·exact h)
   have e6:∀g∈pre,g≠⟨n,false,i⟩:=fun g J e2=>by have:=(dX.1 e3).2.2 g J _ (aA ..);rw[e2]at this;exact this rfl
   have d6:∀g∈r,g≠⟨n,false,i⟩:=fun g J e2=>by have:=(bJ.1 (dX.1 e3).2.1).1 g J;rw[e2]at this;exact this rfl
   have e4:un (pre++⟨n,false,i⟩::seg) (listed.setIfInBounds n true)=un pre listed++seg:=by
    unfold un;rw[List.filter_append,fT];have e1:(listed.setIfInBounds n true).getD n true=true:=by rw[iz (by rw[hs];exact d5)];simp
    simp only[e1,Bool.not_true,aO,if_false]
    congr 1
    ·apply List.filter_congr
     intro g J;have:=Q g (E g J);simp only at this;rw[this,if_neg (e6 g J)]
    ·apply jl.2
     intro g J;have d3:g∈r:=by rw[k1];exact am.2 (.inl J)
     have d2:g∈⟨n,false,i⟩::r:=aw _ d3;have:=Q g (y g d2);simp only at this;rw[this,if_neg (d6 g d3),L g d2];rfl
   refine⟨pre++⟨n,false,i⟩::seg,b7,p2,f1,by rw[e,k1];simp,k3,k4, ?_, ?_, ?_, ?_, ?_⟩
   ·intro f Z a1
    rcases am.1 Z with h|h
    ·exact k5 f (.inl (d1 f h a1))
    ·rcases av.1 h with rfl|h
     ·cases a1
     ·exact k5 f (.inr h)
   ·intro f Z a1
    rcases am.1 Z with h|h
    ·rw[Q f (E f h)]
     split
     ·rfl
     ·exact W f h a1
    ·rcases av.1 h with rfl|h
     ·rw[Q _ a2,if_pos rfl]
     ·rw[k2 f h]at a1;cases a1
   ·intro f Z
    have d7:f∈r:=by rw[k1];exact am.2 (.inr Z)
    have c7:f∈⟨n,false,i⟩::r:=aw _ d7;rw[Q f (y f c7),if_neg (d6 f d7)];exact L f c7
   ·rw[e4,co]
    refine⟨fun m hm=>k6.get m (fun h=>hm ?_),k6.ob,k6.tk,k6.dom⟩;rw[am]at h ⊢;exact h.symm
   ·rw[e4]
    intro f Z;exact k7 f (am.1 Z)
theorem Lg{k:Nat}{g:Nat}{A:List t8}(h:l8 b k A=true)(I:∀l,A.head? =some l->g∈l)(J:∀l,A.head? =some l->∀x∈l,x≠g->(b.getD g 0).testBit x=false):
 ∃Q,l8 b Q (A.filterMap fun p=>match p with|x::r=>if x=g then some r else none|[]=>none)=true:=by
 cases A with
 |nil=>cases k<;>simp[l8]at h
 |cons l A=>
  cases l with
  |nil=>have:=I [] rfl;cases this
  |cons y t=>
   cases k with
   |zero=>simp[l8]at h
   |succ k=>
    simp only[l8,bf]at h;have E:=h g (I _ rfl);rw[fD]at E;rcases E with E|E
    ·exfalso
     rw[List.any_eq_true]at E;obtain⟨x,L,F⟩:=E;rw[aD]at F;have O:=of_decide_eq_true F.1;have:=J _ rfl x L O;unfold o4 at F;rw[F.2]at this;cases this
    ·exact⟨k,E⟩
theorem uY{R R':List FI->t8}{g:Nat}:∀{A:List (List FI)},(∀σ∈A,∀r,R σ=g::r->R' σ=r)->
 (A.filter fun σ=>decide ((R σ).head? =some g)).map R'=(A.map R).filterMap fun p=>match p with|x::r=>if x=g then some r else none|[]=>none
 |[],_=>rfl
 |σ::A,h=>by
  have E:=uY (R:=R) (R':=R') (g:=g) (A:=A) fun τ J=>h τ (aw _ J)
  have I:=h σ (aA ..);rw[fT,aI,List.filterMap_cons];cases hR:R σ with
  |nil=>simp only[List.head?_nil,reduceCtorEq,decide_false,aO,if_false];exact E
  |cons y t=>
   by_cases F:y=g
   ·subst F
    simp only[List.head?_cons,decide_true,if_true,aI,I t hR];rw[E]
   ·have:¬(some y=some g):=fun e=>F (by injection e)
    simp only[List.head?_cons,this,decide_false,aO,if_false,F];exact E
theorem Lv(
 hcal:gX P call)(I:UX P N ops its b){ords:List (List FI)}(hO:∀σ∈ords,xbb its b σ){Q:LAf}(hQ:∀a w,M C N cF a w->Q .normal a w):
 ∀(W:Nat)(listed:Array Bool)(c:CSt)(a:Act)(w:World)(A:List (List FI))(k:Nat),(un its listed).length<=W->listed.size=ops.size->
  (∀(i:Nat)(o:Oper)(k:Nat),ops[i]? =some o->listed.getD i true=true->k<ops.size->(b.getD i 0).testBit k=true->listed.getD k true=true)->
  (∀σ∈A,σ∈ords/\ry call sg N b σ cF listed c)->l8 b k (A.map fun σ=>fV (un σ listed))=true->M C N c a w->wpAny P .any ops Q W listed a w:=by
 classical
 have d6:∀(listed:Array Bool),listed.size=ops.size->∀k,k<ops.size->listed.getD k false=listed.getD k true:=by intro listed Z k hk;simp[ll,Z,hk]
 have done:∀(listed:Array Bool)(c:CSt)(a:Act)(w:World)(A:List (List FI))(k:Nat),un its listed=[]->(∀σ∈A,σ∈ords/\ry call sg N b σ cF listed c)->l8 b k (A.map fun σ=>fV (un σ listed))=true->M C N c a w->Region.ready .any ops listed=[]/\Q .normal a w:=by
  intro listed c a w A k h0 f5 F hM;constructor
  ·rw[List.eq_nil_iff_forall_not_mem]
   intro j hj;obtain⟨h1,o,h2,h3⟩:=mem_ready.1 hj;have g5:j<ops.size:=(dk.1 h2).1;obtain⟨E,J,rfl⟩:=I.ex j g5;have:E∈un its listed:=df.2 ⟨J,h1⟩;rw[h0]at this;cases this
  ·cases A with
   |nil=>cases k<;>simp[l8]at F
   |cons σ A=>
    obtain⟨hσ,O⟩:=f5 σ (aA ..)
    have f1:un σ listed=[]:=by rw[List.eq_nil_iff_forall_not_mem];intro f hf;obtain⟨h1,h2⟩:=df.1 hf;have:f∈un its listed:=df.2 ⟨((hO σ hσ).mem f).1 h1,h2⟩;rw[h0]at this;cases this
    obtain⟨pre,post,p,ps,e,hp,b1,_,_,c7,hA,_⟩:=O.ex
    have g6:post=[]:=by
     cases post with
     |nil=>rfl
     |cons f r=>have:f∈un σ listed:=df.2 ⟨by rw[e];simp,c7 f (aA ..)⟩;rw[f1]at this;cases this
    subst g6;simp only[fH,ax.injEq]at b1;subst b1;have hD:un pre listed=[]:=by rw[<-f1,e,bA]
    rw[hD]at hA;refine hQ a w ?_;obtain⟨x,s,i1,b7⟩:=hM;refine M.slots (c:=c) ⟨x,s,i1,b7⟩ ⟨hA.dom,by rw[<-hA.ob];exact b7.inv.so,by rw[<-hA.ob];exact b7.inv.wf⟩ hA.ob.symm hA.tk.symm (fun i=> .inl (hA.get i (by simp)).symm)
 intro W;induction W with
 |zero=>intro listed c a w A k hf Z c3 O F hM;exact done listed c a w A k (b8.1 (by omega)) O F hM
 |succ W ih=>
  intro listed c a w A k hf Z c3 O F hM;constructor
  ·intro e7
   by_cases h0:un its listed=[]
   ·exact(done listed c a w A k h0 O F hM).2
   ·exfalso
    have hp:∃n,∃f∈un its listed,f.n=n:=by
     cases hc:un its listed with
     |nil=>exact absurd hc h0
     |cons f r=>exact⟨_,f,aA ..,rfl⟩
    obtain⟨n,⟨f,g9,j0⟩,d2⟩:=xhU _ hp;obtain⟨h1,h2⟩:=df.1 g9;obtain⟨o,h3,_,h4⟩:=I.item f h1
    have:f.n∈Region.ready .any ops listed:=by refine mem_ready.2 ⟨h2,o,h3,fun e he hb=> ?_⟩;have f0:=I.back f.n o h3 e he hb;rw[d6 listed Z _ (by omega),<-Bool.not_eq_false];intro h9;obtain⟨g,hg,d5⟩:=I.ex e.on (by omega);have:=d2 e.on ⟨g,df.2 ⟨hg,by rw[d5];exact h9⟩,d5⟩;omega
    rw[e7]at this;cases this
  ·intro i g4
   obtain⟨h1,o,h2,h3⟩:=mem_ready.1 g4;have a2:i<ops.size:=(dk.1 h2).1;obtain⟨E,J,rfl⟩:=I.ex i a2;obtain⟨o',e5,a8,_⟩:=I.item E J;rw[h2]at e5;cases e5
   have L:∀k,k<ops.size->(b.getD E.n 0).testBit k=true->listed.getD k true=true:=by
    intro k hk hb;obtain⟨e,he,e8,g8⟩:=I.bit E.n o k h2 hk hb;have b4:=h3 e he e8;have g7:=I.back E.n o h2 e he e8;rw[d6 listed Z _ (by omega)]at b4;rcases g8 with h|h
    ·rw[<-h];exact b4
    ·exact c3 e.on (ops[e.on]'(by omega)) k (by simp) b4 hk h
   have i3:(un its (listed.setIfInBounds E.n true)).length<(un its listed).length:=by rw[BO Z a2];refine List.length_filter_lt_length_iff_exists.2 ⟨E,df.2 ⟨J,h1⟩,by simp⟩
   have a7:∀(i:Nat)(o:Oper)(k:Nat),ops[i]? =some o->(listed.setIfInBounds E.n true).getD i true=true->k<ops.size->(b.getD i 0).testBit k=true->(listed.setIfInBounds E.n true).getD k true=true:=by
    intro i2 o2 e0 g1 d1 e3 e4;rw[iz (by omega)]at d1 ⊢;split
    ·rfl
    ·split at d1
     ·rename_i e1
      subst e1;exact L e0 e3 e4
     ·exact c3 i2 o2 e0 g1 d1 e3 e4
   have e9:(listed.setIfInBounds E.n true).size=ops.size:=by simpa using Z
   obtain⟨σ0,A0,a1⟩:∃σ A',A=σ::A':=by
    cases A with
    |nil=>cases k<;>simp[l8]at F
    |cons σ A'=>exact⟨σ,A',rfl⟩
   cases hq:E.q with
   |true=>
    obtain⟨f3,i0⟩:=O σ0 (by rw[a1];exact aA ..);obtain⟨v,hv,_⟩:=D6 Z I (hO σ0 f3) i0 J h1 hq L;refine ie hcal hM (I.ok E J) h2 a8 (pS (call:=call) (sg:=sg) hv) fun a' w' c5=> ?_
    refine ih _ _ a' w' A k (by omega) e9 a7 (fun σ hσ=>⟨(O σ hσ).1, ?_⟩) ?_ c5
    ·obtain⟨v',d4,g2⟩:=D6 Z I (hO σ (O σ hσ).1) (O σ hσ).2 J h1 hq L
     rw[hv]at d4;injection d4 with e;subst e
     exact g2
    ·have:(A.map fun σ=>fV (un σ (listed.setIfInBounds E.n true)))=A.map fun σ=>fV (un σ listed):=by
      apply List.map_congr_left;intro σ hσ;rw[BO Z a2,lu,jl];intro x hx;obtain⟨f,hf,b6,rfl⟩:=rU.1 hx;have b3:=((hO σ (O σ hσ).1).mem f).1 (df.1 hf).1;have:¬f.n=E.n:=fun e=>by rw[I.inj f b3 E J e,hq]at b6;cases b6
      simp[this]
     rw[this];exact F
   |false=>
    have b5:∀σ∈A,E.n∈fV (un σ listed):=fun σ hσ=>rU.2 ⟨E,df.2 ⟨((hO σ (O σ hσ).1).mem E).2 J,h1⟩,hq,rfl⟩
    obtain⟨k',a6⟩:=Lg (g:=E.n) F (fun l hl=>by
     rw[a1]at hl;simp only[aI,List.head?_cons,ax.injEq]at hl;rw[<-hl];exact b5 σ0 (by rw[a1];exact aA ..)) (fun l hl y hy i4=>by
     rw[a1]at hl;simp only[aI,List.head?_cons,ax.injEq]at hl;rw[<-hl]at hy;obtain⟨f,hf,b6,rfl⟩:=rU.1 hy;obtain⟨g3,e2⟩:=df.1 hf;have b3:=((hO σ0 (O σ0 (by rw[a1];exact aA ..)).1).mem f).1 g3;obtain⟨_,_,_,f0⟩:=I.item f b3;rw[<-Bool.not_eq_true];intro hb;rw[L f.n f0 hb]at e2;cases e2)
    rw[<-uY (R:=fun σ=>fV (un σ listed)) (R':=fun σ=>fV (un σ (listed.setIfInBounds E.n true))) (fun σ hσ r hR=>by
     show fV (un σ (listed.setIfInBounds E.n true))=r;rw[BO Z a2,lu];have f2:fV (un σ listed)=E.n::r:=hR;rw[f2,fT];simp only[decide_true,Bool.not_true,aO,if_false];rw[jl];intro y hy
     have e6:(fV (un σ listed)).Nodup:=by
      have h5:=(hO σ (O σ hσ).1).nd
      have h6:(fV (un σ listed)).Sublist (σ.map FI.n):=by
       have h7:(fV (un σ listed)).Sublist ((un σ listed).map FI.n):=by
        unfold fV;rw[show(fun f:FI=>if f.q=true then none else some f.n)=fun f:FI=>if f.q=true then none else some (FI.n f)from rfl];generalize un σ listed=l;induction l with
        |nil=>exact pe.slnil
        |cons f r ih=>
         rw[List.filterMap_cons,aI];cases hq:f.q with
         |true=>exact pe.cons _ ih
         |false=>exact pe.cons_cons _ ih
       exact h7.trans (pe.map _ List.filter_sublist)
      exact h5.sublist h6
     rw[f2]at e6;have:y≠E.n:=fun e=>by rw[e]at hy;exact(dR.1 e6).1 hy
     simp[this])]at a6
    obtain⟨σ1,f6⟩:∃σ,σ∈A.filter fun σ=>decide ((fV (un σ listed)).head? =some E.n):=by
     cases hX:A.filter fun σ=>decide ((fV (un σ listed)).head? =some E.n)with
     |nil=>rw[hX]at a6;cases k'<;>simp[l8]at a6
     |cons σ _=>exact⟨σ,aA ..⟩
    obtain⟨h4,h5⟩:=List.mem_filter.1 f6;obtain⟨c1,d3,_⟩:=D7 Z I (hO σ1 (O σ1 h4).1) (O σ1 h4).2 J h1 hq L (of_decide_eq_true h5);refine ie hcal hM (I.ok E J) h2 a8 d3 fun a' w' c5=> ?_
    refine ih _ _ a' w' _ k' (by omega) e9 a7 (fun σ hσ=> ?_) a6 c5;obtain⟨h6,h7⟩:=List.mem_filter.1 hσ;obtain⟨c2,d7,h8⟩:=D7 Z I (hO σ (O σ h6).1) (O σ h6).2 J h1 hq L (of_decide_eq_true h7);rw[d3]at d7;injection d7 with e;subst e
    exact⟨(O σ h6).1,h8⟩
theorem ZY(hl:kC (gS P ops) ops.toList=some (unF its))(hd:drawn ops (unF its)=true)(c7:∀f∈its,f.i.ok N=true)(J:xaf (Region.before ops).toList its=true)
 (Z:(its.map FI.n).Nodup) (L:∀f∈its,f.n<its.length) (b6:∀j∈bC its.length,(its.map FI.n).contains j=true):
 UX P N ops its (Region.before ops).toList/\(∀f∈its,∀g∈its,f.n≠g.n->∀d,f.i.dst=some d->g.i.dst≠some d)/\its.length=ops.size:=by
 simp only[xaf,bf,fD,dj]at J;obtain⟨b3,b5⟩:=fz hl;have d3:(unF its).length=its.length:=by simp[unF]
 have d4:its.length=ops.size:=by rw[<-d3,b3,aW]
 have a6:∀f∈its,(unF its).getD f.n ⟨none,none,.lenC 0⟩=f.i.er:=by intro f E;have:=L f E;rw[aa];simp only[unF,aU,cC this,bE,aM];exact uH _ Z E
 simp only[drawn,aD,decide_eq_true_eq]at hd;obtain⟨⟨hc,ht⟩,O⟩:=hd
 have a1:∀f∈its,∃o,ops[f.n]? =some o/\gS P ops o=some f.i.er/\f.n<ops.size:=by
  intro f E;have e0:=L f E;have b4:f.n<ops.toList.length:=by rw[aW];omega
  refine⟨ops.toList[f.n],by rw[<-db,ac b4], ?_,by omega⟩;have y:=b5 f.n b4 (by omega);rw[y]
  congr 1
  have I:=a6 f E;rwa[aa,ac (by omega),aM]at I
 have b1:∀f∈its,∀g∈its,f.n=g.n->f=g:=by
  intro f E g hg e;have:its.Pairwise fun f g=>f.n≠g.n:=by rw[Ae,ii]at Z;exact Z
  rw[cD]at this;obtain⟨i,hi,rfl⟩:=List.mem_iff_getElem.1 E;obtain⟨j,hj,rfl⟩:=List.mem_iff_getElem.1 hg;rcases Nat.lt_trichotomy i j with h|h|h
  ·exact absurd e (this i j hi hj h)
  ·subst h;rfl
  ·exact absurd e.symm (this j i hj hi h)
 have c3:∀f∈its,∀g∈its,f.n≠g.n->∀d,f.i.dst=some d->g.i.dst≠some d:=by
  have Q:∀f∈its,∀g∈its,f.n<g.n->∀d,f.i.dst=some d->g.i.dst≠some d:=by
   intro f E g hg a8 d y I
   have a7:(unF its).Pairwise fun u v=>∀d,u.dst=some d->v.dst≠some d:=by rw[Ae,List.pairwise_filterMap]at O;refine O.imp ?_;intro u v b7 d hu hv;exact b7 d hu d hv rfl
   rw[cD]at a7;have d6:=L f E;have d5:=L g hg
   have g1:(unF its)[f.n]'(by omega)=f.i.er:=by have:=a6 f E;rwa[aa,ac (by omega),aM]at this
   have g2:(unF its)[g.n]'(by omega)=g.i.er:=by have:=a6 g hg;rwa[aa,ac (by omega),aM]at this
   exact a7 f.n g.n (by omega) (by omega) a8 d (by rw[g1];exact y) (by rw[g2];exact I)
  intro f E g hg d7 d y I;rcases bQ f.n g.n with h|h
  ·exact Q f E g hg h d y I
  ·exact Q g hg f E (by omega) d I y
 have F:∀(i:Nat)(o:Oper),ops[i]? =some o->(∀e∈o.after,Region.binds .any e=true->e.on<i)/\
  ∀k,k<ops.size->((Region.before ops).toList.getD i 0).testBit k=true->∃e∈o.after,Region.binds .any e=true/\(e.on=k\/((Region.before ops).toList.getD e.on 0).testBit k=true):=by
  intro i o ho;unfold sF at hc;rw[bf]at hc;have hi:i<ops.size:=(dk.1 ho).1
  have y:=hc (o,i) (by rw[List.mem_zipIdx_iff_getElem?];simpa using ho)
  simp only[aD,Array.all_eq_true_iff_forall_mem,bf,fD,dj,decide_eq_true_eq]at y;refine⟨fun e he hb=>(y.1 e he).resolve_left (by simp[hb]),fun k hk hb=> ?_⟩;have I:=(y.2 k (dt.2 hk)).resolve_left (by simp only[hb];simp);obtain⟨_,h3⟩:=I;rw[<-Array.any_toList,List.any_eq_true]at h3;obtain⟨e,he,h4⟩:=h3;rw[Array.mem_toList_iff]at he;simp only[aD,fD,beq_iff_eq]at h4;exact⟨e,he,h4.1,h4.2⟩
 have hq:∀q∈its,q.q=true->∃d,q.i.dst=some d/\∀p∈its,d∈p.i.rds->((Region.before ops).toList.getD p.n 0).testBit q.n=true/\p.n≠q.n:=by
  intro q hq W;have y:=(J q hq).resolve_left (by rw[W];simp);cases hd:q.i.dst with
  |none=>rw[hd]at y;cases y
  |some d=>
   rw[hd]at y;simp only[bf,fD,dj,aD,decide_eq_true_eq,o4]at y;refine⟨d,rfl,fun p hp hr=> ?_⟩;rcases y p hp with I|I
   ·rw[fC]at I;simp only[decide_eq_false_iff_not]at I;exact absurd hr I
   ·exact I
 have a2:∀f∈its,BC f:=by intro f E J;obtain⟨d,hd,y⟩:=hq f E J;exact⟨d,hd,fun h=>(y f E h).2 rfl⟩
 have c5:∀q∈its,q.q=true->∀p∈its,∀d,q.i.dst=some d->d∈p.i.rds->((Region.before ops).toList.getD p.n 0).testBit q.n=true:=by intro q d2 W p hp d hd hr;obtain⟨d',d1,y⟩:=hq q d2 W;rw[d1]at hd;cases hd;exact(y p hp hr).1
 refine⟨⟨a1,fun j hj=> ?_,b1,fun i o ho=>(F i o ho).1,fun i o k ho hk hb=>(F i o ho).2 k hk hb,c7,a2,c5⟩,c3,d4⟩;have:=b6 j (dt.2 (by omega));rw[fC]at this;simp only[decide_eq_true_eq]at this;obtain⟨f,E,e⟩:=aZ.1 this;exact⟨f,E,e⟩
theorem oH{l:List FI}(h:(l.map FI.n).Nodup){f:FI}(y:f∈l):xI l f.n=f:=by
 induction l with
 |nil=>cases y
 |cons g r E=>
  simp only[aI,dR]at h;simp only[xI];rcases av.1 y with rfl|y
  ·rw[if_pos rfl]
  ·rw[if_neg,E h.2 y]
   intro e;apply h.1;rw[e];exact ji y
theorem y5{l:List FI}{f:FI}:∀{p:t8},f∈jw l p↔∃k∈p,xI l k=f
 |[]=>by simp[jw]
 |k::r=>by
  simp only[jw,av,y5 (p:=r)];constructor
  ·rintro(h|⟨j,y,h⟩)
   ·exact⟨k,.inl rfl,h.symm⟩
   ·exact⟨j,.inr y,h⟩
  ·rintro⟨j,rfl|y,h⟩
   ·exact .inl h.symm
   ·exact .inr ⟨j,y,h⟩
theorem y6{l:List FI}(h:(l.map FI.n).Nodup):∀{p:t8},(∀k∈p,k∈l.map FI.n)->(jw l p).map FI.n=p
 |[],_=>rfl
 |k::r,hp=>by simp only[jw,aI];rw[y6 h (p:=r) fun j E=>hp j (aw _ E)];obtain⟨f,y,e⟩:=aZ.1 (hp k (aA ..));rw[<-e,oH h y]
theorem Hu{s:Nat}(l:List FI):AJ b (some s) l=true->∀g∈l,g.q=true->(b.getD g.n 0).testBit s=true\/∃h∈l,(b.getD g.n 0).testBit h.n=true:=by
 induction l generalizing s with
 |nil=>intro _ g y;cases y
 |cons f r I=>
  intro h g y F;simp only[AJ]at h;split at h
  ·simp only[aD,o4]at h
   rcases av.1 y with rfl|y
   ·exact .inl h.1
   ·rcases I h.2 g y F with E|⟨k,hk,E⟩
    ·exact .inl E
    ·exact .inr ⟨k,aw _ hk,E⟩
  ·rename_i J
   rcases av.1 y with rfl|y
   ·exact absurd F J
   ·rcases I h g y F with E|⟨k,hk,E⟩
    ·exact .inr ⟨f,aA ..,E⟩
    ·exact .inr ⟨k,aw _ hk,E⟩
theorem vu:∀{pre:List FI}{s:LAa}{f:FI}{r:List FI},AJ b s (pre++f::r)=true->f.q=false->AJ b (some f.n) r=true
 |[],s,f,r,h,hf=>by simp only[aF,AJ,hf,aO,if_false]at h;exact h
 |g::pre,s,f,r,h,hf=>by
  simp only[bp,AJ]at h;split at h
  ·rw[aD]at h;exact vu h.2 hf
  ·exact vu h hf
theorem oW:∀{l:List FI},xJ b l=true->l.Pairwise fun p q=>(b.getD p.n 0).testBit q.n=false
 |[],_=>fO.nil
 |p::r,h=>by simp only[xJ,aD,bf]at h;refine bJ.2 ⟨fun q y=> ?_,oW h.2⟩;have:=h.1 q y;simpa only[dj,o4]using this
theorem z8{l:List FI}:∀{ps:List t8},jV call sg b l ps c=some cF->∀p∈ps,fH call sg b (jw l p) [] c=some cF
 |[],h,p,hp=>by cases hp
 |[q],h,p,hp=>by rw[bq.1 hp];exact h
 |q::F::r,h,p,hp=>by
  simp only[jV]at h;cases h1:fH call sg b (jw l q) [] c with
  |none=>rw[h1]at h;simp[pz]at h
  |some y=>
   cases h2:jV call sg b l (F::r) c with
   |none=>rw[h1,h2]at h;simp[pz]at h
   |some z=>
    rw[h1,h2]at h;obtain⟨I,E⟩:=si h;rcases av.1 hp with rfl|hp
    ·rw[h1,E]
    ·exact z8 (h2.trans (by rw[<-I,E])) p hp
theorem Ib(b7:gX P call){id:Nat}(hl:kC (gS P ops) ops.toList=some (unF its))(hd:drawn ops (unF its)=true)(hm:P.follows .mixedOrders=true)
 (b3:its.all (fun f=>f.i.ok N)=true) {ps:List t8} (a6:X5 (Region.before ops).toList its ps=true) {Q:LAf} (hQ:∀a w,M C N cF a w->Q .normal a w) (hM:M C N c a w)
 (h:jV call sg (Region.before ops).toList its ps c=some cF):(Code.region id ops true).wp P Q a w:=by
 simp only[X5,aD,decide_eq_true_eq]at a6;obtain⟨⟨⟨⟨⟨d3,L⟩,c5⟩,a1⟩,b4⟩,hc⟩:=a6;rw[bf]at b3 c5 a1 b4;obtain⟨I,d5,d7⟩:=ZY hl hd b3 d3 L (fun f y=>of_decide_eq_true (c5 f y)) a1
 have hO:∀σ∈ps.map (jw its),xbb its (Region.before ops).toList σ:=by
  intro σ hσ;obtain⟨p,hp,rfl⟩:=aZ.1 hσ;have h1:=b4 p hp;simp only[aD,decide_eq_true_eq,bf,fC]at h1;obtain⟨⟨⟨⟨d4,b5⟩,d2⟩,a2⟩,W⟩:=h1;have b6:=y6 L b5
  have F:∀f,f∈jw its p↔f∈its:=by
   intro f;rw[y5];constructor
   ·rintro⟨k,hk,rfl⟩
    obtain⟨g,hg,rfl⟩:=aZ.1 (b5 k hk);rw[oH L hg];exact hg
   ·intro y
    exact⟨f.n,d2 f.n (ji y),oH L y⟩
  have J:((jw its p).map FI.n).Nodup:=by rw[b6];exact d4
  refine⟨F,J, ?_,fun pre f r e y g hg hq=> ?_⟩
  ·have h1:(jw its p).Pairwise fun f g=>f.n≠g.n:=by rw[Ae,ii]at J;exact J
   refine((oW W).and h1).imp_of_mem ?_;rintro u v hu hv ⟨h2,h3⟩ d1 d c7;have b1:=(F u).1 hu;have a8:=(F v).1 hv;refine⟨fun hr=> ?_,fun e=>d5 u b1 v a8 h3 d e c7⟩;rw[I.rd v a8 d1 u b1 d c7 hr]at h2;cases h2
  ·rw[e]at a2
   rcases Hu _ (vu a2 y) g hg hq with h1|⟨k,hk,h1⟩
   ·exact⟨f,aA ..,h1⟩
   ·exact⟨k,aw _ hk,h1⟩
 have E:∀f∈its,(eT ops.size false).getD f.n true=false:=by intro f y;obtain⟨_,_,_,this⟩:=I.item f y;simp[ll,this]
 refine wp_region_any hm ?_;refine Lv (its:=its) (b:=(Region.before ops).toList) (cF:=cF) (sg:=sg) (ords:=ps.map (jw its)) b7 I hO hQ ops.size _ c a _ (ps.map (jw its)) its.length ?_ (by simp) ?_ (fun σ hσ=>⟨hσ, ?_⟩) ?_ ?_
 ·have:(un its (eT ops.size false)).length<=its.length:=List.length_filter_le _ _
  omega
 ·intro i o k ho hl _ _
  have hi:i<ops.size:=(dk.1 ho).1;simp[ll,hi]at hl
 ·have O:=hO σ hσ
  obtain⟨p,hp,rfl⟩:=aZ.1 hσ;have c3:=z8 h p hp;obtain⟨seg,post,p2,d6,k1,k2,k3,k4,k5,k6,k7⟩:=oE (N:=N) (D:=[]) (V:=[]) c3 ⟨fun _ _=>rfl,rfl,rfl,by obtain⟨x,s,_,hS⟩:=hM;exact hS.inv.dom⟩ (fun f y=>I.ok f ((O.mem f).1 y)) (fun f y=>I.self f ((O.mem f).1 y)) O.nx (by simp) (by simp) (by simp)
  have Z:un seg (eT ops.size false)=seg:=by apply jl.2;intro f y;rw[E f ((O.mem f).1 (by rw[k1];exact am.2 (.inl y)))];rfl
  refine⟨seg,post,p2,d6,k1,k3,k4,fun f y _=>k5 f (.inr y),(fun f y hq=>by rw[k2 f y]at hq;cases hq),fun f y=>E f ((O.mem f).1 (by rw[k1];exact am.2 (.inr y))), ?_, ?_⟩
  ·rw[Z];simpa using k6
  ·rw[Z];intro f y;exact k7 f (.inr y)
 ·rw[List.map_map]
  have:(ps.map ((fun σ=>fV (un σ (eT ops.size false)))∘jw its))=ps.map fun p=>fV (jw its p):=by
   apply List.map_congr_left;intro p hp;show fV (un (jw its p) _)=_
   congr 1
   apply jl.2;intro f y;rw[E f (((hO _ (ji hp)).mem f).1 y)];rfl
  rw[this];exact hc
 ·obtain⟨x,s,a7,hS⟩:=hM
  exact⟨x,s,⟨a7.tm,a7.defers,a7.heap.drawn _⟩,hS⟩
end Go.Sy
namespace Go.Sy
variable [bx]
variable {P : Program} {C : Ctx} {x : Sit} {a : Act} {w : World} {N : Nat} {c c' : CSt} {s : St} {T : iO}
def Ex.out:Ex->Exit
 | .n=> .normal
 | .x id=> .exit id
 | .r=> .ret
def EQ(C:Ctx)(N:Nat)(e:Ex)(c':CSt):LAf:=fun y a w=>y=e.out/\M C N c' a w
def xX(P:Program)(T:iO)(n:Nat):Prop:=
 (∀(r:RC)(c:CSt)(e:Ex)(c':CSt),gu T n r c=some (e,c')->∀(code:Code)(C:Ctx)(N:Nat)(a:Act)(w:World),cU P code=r.er->r.ok N=true->M C N c a w->code.wp P (EQ C N e c') a w)/\
 (∀(b:RC)(c:CSt)(e:Ex)(c':CSt),gu T n (.loop b) c=some (e,c')->∀(code:Code)(C:Ctx)(N:Nat)(a:Act)(w:World),cU P code=b.er->b.ok N=true->M C N c a w->Code.rounds P code (EQ C N e c') n a w)
theorem xaq{code:Code}{b:gI}(h:br P code=some (.loop b)):∃E,code= .loop E/\br P E=some b:=by
 cases code with
 |loop E=>simp only[br]at h;obtain⟨L,I,J⟩:=ah.1 h;cases J;exact⟨E,rfl,I⟩
 |region id ops F=>
  simp only[br]at h;split at h<;>try (cases h;done)
  split at h
  ·rw[aJ]at h;cases h.2
  ·cases h
 |seq y z=>simp only[br]at h;split at h<;>cases h
 |cond c y z=>simp only[br]at h;split at h<;>cases h
 |block id b=>simp only[br]at h;obtain⟨_,_,h⟩:=ah.1 h;cases h
 |_=>simp[br]at h
theorem K3{code:Code}{id:Nat}{b:gI}(h:br P code=some (.block id b)):∃E,code= .block id E/\br P E=some b:=by
 cases code with
 |block id E=>simp only[br]at h;obtain⟨L,I,J⟩:=ah.1 h;cases J;exact⟨E,rfl,I⟩
 |region id ops F=>
  simp only[br]at h;split at h<;>try (cases h;done)
  split at h
  ·rw[aJ]at h;cases h.2
  ·cases h
 |seq y z=>simp only[br]at h;split at h<;>cases h
 |cond c y z=>simp only[br]at h;split at h<;>cases h
 |loop b=>simp only[br]at h;obtain⟨_,_,h⟩:=ah.1 h;cases h
 |_=>simp[br]at h
theorem xnM{code:Code}{y z:gI}(h:br P code=some (.seq y z)):∃F E,code= .seq F E/\br P F=some y/\br P E=some z:=by
 cases code with
 |seq F E=>
  simp only[br]at h;split at h<;>try (cases h;done)
  rename_i L O J hz;cases h;exact⟨F,E,rfl,J,hz⟩
 |region id ops I=>
  simp only[br]at h;split at h<;>try (cases h;done)
  split at h
  ·rw[aJ]at h;cases h.2
  ·cases h
 |cond c y z=>simp only[br]at h;split at h<;>cases h
 |block id b=>simp only[br]at h;obtain⟨_,_,h⟩:=ah.1 h;cases h
 |loop b=>simp only[br]at h;obtain⟨_,_,h⟩:=ah.1 h;cases h
 |_=>simp[br]at h
theorem xas{code:Code}{k:Arg}{y z:gI}(h:br P code=some (.cond k y z)):∃F E I,code= .cond F E I/\bL P 0 F=some k/\br P E=some y/\br P I=some z:=by
 cases code with
 |cond F E I=>
  simp only[br]at h;split at h<;>try (cases h;done)
  rename_i W Q Z J O hz;cases h;exact⟨F,E,I,rfl,J,O,hz⟩
 |region id ops L=>
  simp only[br]at h;split at h<;>try (cases h;done)
  split at h
  ·rw[aJ]at h;cases h.2
  ·cases h
 |seq y z=>simp only[br]at h;split at h<;>cases h
 |block id b=>simp only[br]at h;obtain⟨_,_,h⟩:=ah.1 h;cases h
 |loop b=>simp only[br]at h;obtain⟨_,_,h⟩:=ah.1 h;cases h
 |_=>simp[br]at h
theorem xnO{code:Code}{l:LAd}(h:br P code=some (.ops l)):∃id ops,code= .region id ops false/\kC (gS P ops) ops.toList=some l:=by
 cases code with
 |region id ops E=>
  simp only[br]at h;split at h<;>try (cases h;done)
  rename_i I F;cases E with
  |false=>simp only[aO,if_false,ax.injEq,gI.ops.injEq]at h;subst h;exact⟨id,ops,rfl,F⟩
  |true=>simp only[if_true]at h;rw[aJ]at h;cases h.2
 |seq y z=>simp only[br]at h;split at h<;>cases h
 |cond c y z=>simp only[br]at h;split at h<;>cases h
 |block id b=>simp only[br]at h;obtain⟨_,_,h⟩:=ah.1 h;cases h
 |loop b=>simp only[br]at h;obtain⟨_,_,h⟩:=ah.1 h;cases h
 |_=>simp[br]at h
theorem UF{code:Code}{b I:t8}{l:LAd}(h:br P code=some (.drw b I l)):∃id ops,code= .region id ops true/\kC (gS P ops) ops.toList=some l/\drawn ops l=true/\P.follows .mixedOrders=true/\b=(Region.before ops).toList/\I=xvg l:=by
 cases code with
 |region id ops E=>
  simp only[br]at h;split at h<;>try (cases h;done)
  rename_i L J;cases E with
  |false=>simp only[aO,if_false,ax.injEq,reduceCtorEq]at h
  |true=>simp only[if_true]at h;rw[aJ]at h;obtain⟨F,h⟩:=h;simp only[ax.injEq,gI.drw.injEq]at h;obtain⟨rfl,rfl,rfl⟩:=h;rw[aD]at F;exact⟨id,ops,rfl,J,F.1,F.2,rfl,rfl⟩
 |seq y z=>simp only[br]at h;split at h<;>cases h
 |cond c y z=>simp only[br]at h;split at h<;>cases h
 |block id b=>simp only[br]at h;obtain⟨_,_,h⟩:=ah.1 h;cases h
 |loop b=>simp only[br]at h;obtain⟨_,_,h⟩:=ah.1 h;cases h
 |_=>simp[br]at h
theorem xap{code:Code}(h:br P code=some .skip):code= .skip:=by
 cases code with
 |skip=>rfl
 |region id ops E=>
  simp only[br]at h;split at h<;>try (cases h;done)
  split at h
  ·rw[aJ]at h;cases h.2
  ·cases h
 |seq y z=>simp only[br]at h;split at h<;>cases h
 |cond c y z=>simp only[br]at h;split at h<;>cases h
 |block id b=>simp only[br]at h;obtain⟨_,_,h⟩:=ah.1 h;cases h
 |loop b=>simp only[br]at h;obtain⟨_,_,h⟩:=ah.1 h;cases h
 |_=>simp[br]at h
theorem xnN{code:Code}(h:br P code=some .ret):code= .ret:=by
 cases code with
 |ret=>rfl
 |region id ops E=>
  simp only[br]at h;split at h<;>try (cases h;done)
  split at h
  ·rw[aJ]at h;cases h.2
  ·cases h
 |seq y z=>simp only[br]at h;split at h<;>cases h
 |cond c y z=>simp only[br]at h;split at h<;>cases h
 |block id b=>simp only[br]at h;obtain⟨_,_,h⟩:=ah.1 h;cases h
 |loop b=>simp only[br]at h;obtain⟨_,_,h⟩:=ah.1 h;cases h
 |_=>simp[br]at h
theorem xar{code:Code}{id:Nat}(h:br P code=some (.exit id)):code= .exit id:=by
 cases code with
 |exit F=>simp only[br,ax.injEq,gI.exit.injEq]at h;rw[h]
 |region id ops E=>
  simp only[br]at h;split at h<;>try (cases h;done)
  split at h
  ·rw[aJ]at h;cases h.2
  ·cases h
 |seq y z=>simp only[br]at h;split at h<;>cases h
 |cond c y z=>simp only[br]at h;split at h<;>cases h
 |block id b=>simp only[br]at h;obtain⟨_,_,h⟩:=ah.1 h;cases h
 |loop b=>simp only[br]at h;obtain⟨_,_,h⟩:=ah.1 h;cases h
 |_=>simp[br]at h
theorem fG{id:Nat}{ops:Array Oper}{y:Bool}{s:gI}(h:cU P (.region id ops y)=s)(E:s≠ .bad):br P (.region id ops y)=some s:=by
 rw[cU]at h;split at h
 ·rename_i I F;rw[<-h];exact F
 ·exact absurd h.symm E
theorem ja{k:Operand}{y z:Code}{s:gI}(h:cU P (.cond k y z)=s)(E:s≠ .bad):∃a,bL P 0 k=some a/\s= .cond a (cU P y) (cU P z):=by
 rw[cU]at h;split at h
 ·rename_i a F;exact⟨a,F,h.symm⟩
 ·exact absurd h.symm E
theorem xaC{code:Code}{b:gI}(h:cU P code= .loop b):∃E,code= .loop E/\cU P E=b:=by
 cases code with
 |loop E=>rw[cU]at h;cases h;exact⟨E,rfl,rfl⟩
 |region id ops I=>have J:=fG h (by simp);have F:=xaq J;simp at F
 |seq y z=>rw[cU]at h;cases h
 |cond k y z=>obtain⟨a,_,F⟩:=ja h (by simp);cases F
 |block id b=>rw[cU]at h;cases h
 |skip=>rw[cU]at h;cases h
 |exit id=>rw[cU]at h;cases h
 |ret=>rw[cU]at h;cases h
 |_=>simp[cU]at h
theorem K8{code:Code}{id:Nat}{b:gI}(h:cU P code= .block id b):∃E,code= .block id E/\cU P E=b:=by
 cases code with
 |block id E=>rw[cU]at h;cases h;exact⟨E,rfl,rfl⟩
 |region id ops I=>have J:=fG h (by simp);have F:=K3 J;simp at F
 |seq y z=>rw[cU]at h;cases h
 |cond k y z=>obtain⟨a,_,F⟩:=ja h (by simp);cases F
 |loop b=>rw[cU]at h;cases h
 |skip=>rw[cU]at h;cases h
 |exit id=>rw[cU]at h;cases h
 |ret=>rw[cU]at h;cases h
 |_=>simp[cU]at h
theorem xnP{code:Code}{y z:gI}(h:cU P code= .seq y z):∃F E,code= .seq F E/\cU P F=y/\cU P E=z:=by
 cases code with
 |seq F E=>rw[cU]at h;cases h;exact⟨F,E,rfl,rfl,rfl⟩
 |region id ops J=>have L:=fG h (by simp);have I:=xnM L;simp at I
 |cond k y z=>obtain⟨a,_,I⟩:=ja h (by simp);cases I
 |block id b=>rw[cU]at h;cases h
 |loop b=>rw[cU]at h;cases h
 |skip=>rw[cU]at h;cases h
 |exit id=>rw[cU]at h;cases h
 |ret=>rw[cU]at h;cases h
 |_=>simp[cU]at h
theorem xnS{code:Code}{k:Arg}{y z:gI}(h:cU P code= .cond k y z):∃I F E,code= .cond I F E/\bL P 0 I=some k/\cU P F=y/\cU P E=z:=by
 cases code with
 |cond I F E=>obtain⟨a,L,J⟩:=ja h (by simp);cases J;exact⟨I,F,E,rfl,L,rfl,rfl⟩
 |region id ops O=>have L:=fG h (by simp);have J:=xas L;simp at J
 |seq y z=>rw[cU]at h;cases h
 |block id b=>rw[cU]at h;cases h
 |loop b=>rw[cU]at h;cases h
 |skip=>rw[cU]at h;cases h
 |exit id=>rw[cU]at h;cases h
 |ret=>rw[cU]at h;cases h
 |_=>simp[cU]at h
theorem xaB{code:Code}(h:cU P code= .skip):code= .skip:=by
 cases code with
 |skip=>rfl
 |region id ops F=>have I:=fG h (by simp);have E:=xap I;simp at E
 |seq y z=>rw[cU]at h;cases h
 |cond k y z=>obtain⟨a,_,E⟩:=ja h (by simp);cases E
 |block id b=>rw[cU]at h;cases h
 |loop b=>rw[cU]at h;cases h
 |exit id=>rw[cU]at h;cases h
 |ret=>rw[cU]at h;cases h
 |_=>simp[cU]at h
theorem xnQ{code:Code}(h:cU P code= .ret):code= .ret:=by
 cases code with
 |ret=>rfl
 |region id ops F=>have I:=fG h (by simp);have E:=xnN I;simp at E
 |seq y z=>rw[cU]at h;cases h
 |cond k y z=>obtain⟨a,_,E⟩:=ja h (by simp);cases E
 |block id b=>rw[cU]at h;cases h
 |loop b=>rw[cU]at h;cases h
 |skip=>rw[cU]at h;cases h
 |exit id=>rw[cU]at h;cases h
 |_=>simp[cU]at h
theorem xaD{code:Code}{id:Nat}(h:cU P code= .exit id):code= .exit id:=by
 cases code with
 |exit J=>rw[cU]at h;cases h;rfl
 |region id ops F=>have I:=fG h (by simp);have E:=xar I;simp at E
 |seq y z=>rw[cU]at h;cases h
 |cond k y z=>obtain⟨a,_,E⟩:=ja h (by simp);cases E
 |block id b=>rw[cU]at h;cases h
 |loop b=>rw[cU]at h;cases h
 |skip=>rw[cU]at h;cases h
 |ret=>rw[cU]at h;cases h
 |_=>simp[cU]at h
theorem xnR{code:Code}{l:LAd}(h:cU P code= .ops l):br P code=some (.ops l):=by
 cases code with
 |region id ops E=>exact fG h (by simp)
 |seq y z=>rw[cU]at h;cases h
 |cond k y z=>obtain⟨a,_,F⟩:=ja h (by simp);cases F
 |block id b=>rw[cU]at h;cases h
 |loop b=>rw[cU]at h;cases h
 |skip=>rw[cU]at h;cases h
 |exit id=>rw[cU]at h;cases h
 |ret=>rw[cU]at h;cases h
 |_=>simp[cU]at h
theorem UG{code:Code}{b F:t8}{l:LAd}(h:cU P code= .drw b F l):br P code=some (.drw b F l):=by
 cases code with
 |region id ops E=>exact fG h (by simp)
 |seq y z=>rw[cU]at h;cases h
 |cond k y z=>obtain⟨a,_,I⟩:=ja h (by simp);cases I
 |block id b=>rw[cU]at h;cases h
 |loop b=>rw[cU]at h;cases h
 |skip=>rw[cU]at h;cases h
 |exit id=>rw[cU]at h;cases h
 |ret=>rw[cU]at h;cases h
 |_=>simp[cU]at h
theorem x8{n:Nat}(hR:xX P T n)(I:gX P (fu T n)){r:RC}{c:CSt}{e:Ex}{c':CSt}(h:eA (gu T n) (fu T n) T.sg r c=some (e,c'))(hl:∀b,r≠ .loop b){code:Code}{C:Ctx}{N:Nat}{a:Act}{w:World}
 (J:cU P code=r.er) (E:r.ok N=true) (hM:M C N c a w):code.wp P (EQ C N e c') a w:=by
 cases r with
 |skip=>
  cases h;have:=xaB (by simpa[RC.er]using J);subst this;exact wp_skip ⟨rfl,hM⟩
 |ret=>
  cases h;have:=xnQ (by simpa[RC.er]using J);subst this;exact wp_ret ⟨rfl,hM⟩
 |exit id=>
  cases h;have:=xaD (by simpa[RC.er]using J);subst this;exact wp_exit ⟨rfl,hM⟩
 |ops l=>
  obtain⟨id,ops,rfl,hl'⟩:=xnO (xnR (by simpa[RC.er]using J));simp only[eA]at h;cases hs:gw (fu T n) T.sg l c with
  |none=>rw[hs]at h;cases h
  |some c1=>rw[hs]at h;simp only[nrm,rW,ax.injEq,bG.injEq]at h;obtain⟨rfl,rfl⟩:=h;refine wp_region ?_;rw[List.range_eq_range'];exact A4 I hl' l ops.size 0 (by omega) (by simp) E hM hs fun a w h=>⟨rfl,h⟩
 |flt b Z l L=>
  obtain⟨id,ops,rfl,hl',hdr,hmo,rfl,rfl⟩:=UF (UG (by simpa[RC.er]using J));simp only[RC.ok,aD]at E;simp only[eA]at h;cases hs:fH (fu T n) T.sg (Region.before ops).toList l [] c with
  |none=>rw[hs]at h;cases h
  |some c1=>rw[hs]at h;simp only[nrm,ax.injEq,bG.injEq]at h;obtain⟨rfl,rfl⟩:=h;exact H9 I hl' hdr hmo E.1 E.2 (fun a w h=>⟨rfl,M.kill h L⟩) hM hs
 |fla b Z l ps L=>
  obtain⟨id,ops,rfl,hl',hdr,hmo,rfl,rfl⟩:=UF (UG (by simpa[RC.er]using J));simp only[RC.ok,aD]at E;simp only[eA]at h;cases hs:jV (fu T n) T.sg (Region.before ops).toList l ps c with
  |none=>rw[hs]at h;cases h
  |some c1=>rw[hs]at h;simp only[nrm,ax.injEq,bG.injEq]at h;obtain⟨rfl,rfl⟩:=h;exact Ib I hl' hdr hmo E.1 E.2 (fun a w h=>⟨rfl,M.kill h L⟩) hM hs
 |seq y z=>
  obtain⟨y',z',rfl,hy,hz⟩:=xnP (by simpa[RC.er]using J);simp only[RC.ok,aD]at E;simp only[eA]at h;cases hs:gu T n y c with
  |none=>rw[hs]at h;cases h
  |some p=>
   obtain⟨W,c1⟩:=p;rw[hs]at h;refine wp_seq (wp_mono (hR.1 _ _ _ _ hs y' C N a w hy E.1 hM) ?_);rintro e' a' w' ⟨rfl,F⟩;cases W with
   |n=>exact hR.1 _ _ _ _ h z' C N a' w' hz E.2 F
   |x id=>cases h;exact⟨rfl,F⟩
   |r=>cases h;exact⟨rfl,F⟩
 |cond k y z=>
  obtain⟨k',y',z',rfl,hk,hy,hz⟩:=xnS (by simpa[RC.er]using J);simp only[RC.ok,aD]at E;simp only[eA]at h;unfold cnd at h;split at h<;>try (cases h;done)
  rename_i t ht
  have hv:a.eval k'= .bool t:=by obtain⟨x,s,a1,hS⟩:=hM;have O:=aP a1 hk;rw[hS.ev,ht]at O;exact O.bool_inv
  refine wp_cond_split hv (fun e=> ?_) (fun e=> ?_)
  ·subst e
   rw[if_pos rfl]at h;exact hR.1 _ _ _ _ h y' C N a w hy E.1 hM
  ·subst e
   rw[if_neg (by simp)]at h;exact hR.1 _ _ _ _ h z' C N a w hz E.2 hM
 |block id b=>
  obtain⟨b',rfl,hb⟩:=K8 (by simpa[RC.er]using J);simp only[eA]at h;cases hs:gu T n b c with
  |none=>rw[hs]at h;cases h
  |some p=>
   obtain⟨W,c1⟩:=p;rw[hs]at h;refine wp_block (wp_mono (hR.1 _ _ _ _ hs b' C N a w hb E hM) ?_);rintro e' a' w' ⟨rfl,F⟩;cases W with
   |n=>cases h;exact⟨rfl,F⟩
   |r=>cases h;exact⟨rfl,F⟩
   |x a2=>
    simp only[blk]at h;simp only[Ex.out,Exit.inBlock];split at h<;>rename_i Q
    ·cases h;rw[if_pos Q];exact⟨rfl,F⟩
    ·cases h;rw[if_neg Q];exact⟨rfl,F⟩
 |loop b=>exact absurd rfl (hl b)
 |bad=>cases h
 |pre Z y=>
  simp only[eA]at h;cases hs:jt c Z with
  |none=>rw[hs]at h;cases h
  |some c1=>rw[hs]at h;exact hR.1 _ _ _ _ h code C N a w (by simpa[RC.er]using J) E (ls hM hs)
 |post y Z=>
  simp only[eA]at h;cases hs:gu T n y c with
  |none=>rw[hs]at h;cases h
  |some p=>
   obtain⟨W,c1⟩:=p;rw[hs]at h;refine wp_mono (hR.1 _ _ _ _ hs code C N a w (by simpa[RC.er]using J) E hM) ?_;rintro e' a' w' ⟨rfl,F⟩;cases W with
   |n=>
    simp only[psD]at h;split at h
    ·rename_i c2 h2;cases h;exact⟨rfl,ls F h2⟩
    ·cases h
   |x id=>cases h;exact⟨rfl,F⟩
   |r=>cases h;exact⟨rfl,F⟩
theorem AM:xX P T 0:=⟨fun r c e c' h=>by simp[gu]at h,fun b c e c' h=>by simp[gu]at h⟩
theorem AN{n:Nat}(hR:xX P T n)(I:gX P (fu T n)):xX P T (n+1):=by
 have L:∀(b:RC)(c:CSt)(e:Ex)(c':CSt),gu T (n+1) (.loop b) c=some (e,c')->∀(code:Code)(C:Ctx)(N:Nat)(a:Act)(w:World),cU P code=b.er->b.ok N=true->M C N c a w->Code.rounds P code (EQ C N e c') (n+1) a w:=by
  intro b c e c' h code C N a w F y hM;rw[gu]at h;simp only[eA]at h;rw[rounds_succ];cases hs:gu T n b c with
  |none=>rw[hs]at h;cases h
  |some p=>
   obtain⟨O,c1⟩:=p;rw[hs]at h;refine wp_mono (hR.1 _ _ _ _ hs code C N a w F y hM) ?_;rintro e' W w' ⟨rfl,E⟩;cases O with
   |n=>exact hR.2 _ _ _ _ h code C N W w' F y E
   |x id=>cases h;exact⟨rfl,E⟩
   |r=>cases h;exact⟨rfl,E⟩
 refine⟨fun r c e c' h code C N a w F y hM=> ?_,L⟩
 by_cases J:∃b,r= .loop b
 ·obtain⟨b,rfl⟩:=J
  obtain⟨Z,rfl,Q⟩:=xaC (by simpa[RC.er]using F);exact wp_loop_rounds (n+1) (L b c e c' h Z C N a w Q y hM)
 ·rw[gu]at h
  exact x8 hR I h (fun b e=>J ⟨b,e⟩) F y hM
def xv3(P:Program):ResultVar->RV->Prop
 | .tmp t,.tmp t'=>t=t'
 | .cell t ty,.cell t' n ag=>t=t'/\fI P ty=some n/\tg P ty=some ag
 |_,_=>False
def IC(P:Program):List ResultVar->List RV->Prop
 |[],[]=>True
 |a::r,b::s=>xv3 P a b/\IC P r s
 |_,_=>False
theorem vx(F:Sim N c s):∀{rs:List ResultVar}{W:List RV}{vs:f8},IC P rs W->uj c W=some vs->∃p,AP P s rs=some (p,vs)/\p
 |[],[],vs,_,h=>by cases h;exact⟨True,rfl,trivial⟩
 |[],_::_,_,h,_=>h.elim
 |_::_,[],_,h,_=>h.elim
 | .tmp t::r,.tmp t'::q,vs,h,hv=>by obtain⟨Q,O⟩:=h;have Q:t=t':=Q;subst Q;simp only[uj]at hv;split at hv<;>cases hv;rename_i I E;obtain⟨p,L,J⟩:=vx F O E;exact⟨p,by simp only[AP,L,F.get],J⟩
 | .cell t ty::r,.cell t' n ag::q,vs,h,hv=>by
  obtain⟨⟨rfl,g1,Z⟩,O⟩:=h;simp only[uj]at hv;split at hv<;>cases hv;rename_i v I hl E;obtain⟨p,L,J⟩:=vx F O E
  have y:(if(ag||n==1)=true then nP c n ag (c.get t)else none)=some v:=by
   rw[<-hl]
   congr 1
   simp
  split at y
  ·rename_i hc
   obtain⟨p',h5,h6⟩:=zb F y;refine⟨p'/\p, ?_,h6,J⟩;simp only[AP,g1,Z,L,F.get];rw[if_pos hc,h5]
  ·cases y
 | .tmp _::_,.cell _ _ _::_,_,h,_=>h.1.elim
 | .cell _ _::_,.tmp _::_,_,h,_=>h.1.elim
def Ul(us:LAb):Value:=if h:us.toArray.size=1 then us.toArray[0]else .tuple us.toArray
theorem Um{vs:f8}{us:LAb}(h:cL x vs us):Rep x (kt vs) (Ul us):=by
 have y:=h.1;unfold Ul
 match vs,us,y with
 |[v],[u],_=>simpa[kt]using h.2 0 (by simp)
 |[],[],_=>simp only[kt];exact .tup _ _ h.1 h.2
 |v1::v2::vs,u1::u2::us,_=>simp only[kt];rw[dif_neg (by simp)];exact .tup _ _ h.1 h.2
theorem dl.sel{ob E:List (Nat×aH)}{tk F:t8}(y:dl C x ob tk w){x2:Sit}(W:x2.G=x.G)(J:∀p∈E,ey x2 w p.1 p.2/\∃q∈ob,x2.bk p.1=x.bk q.1)(a6:(E.map cW).Nodup)
 (O:∀p∈E,∀q∈E,(x2.bk p.1).1=(x2.bk q.1).1->p.1=q.1) (a1:∀t∈F,(x2.τ t).2.1=(x2.τ t).2.2\/∃u∈tk,x2.τ t=x.τ u)
 (a7:∀t∈F,∀u∈F,t≠u->(x2.τ t).2.1=(x2.τ t).2.2\/(x2.τ u).2.1=(x2.τ u).2.2\/∃t'∈tk,∃u'∈tk,t'≠u'/\x2.τ t=x.τ t'/\x2.τ u=x.τ u') (Q:∀i,i<100->x2.bk i=x.bk i):dl C x2 E F w:=by
 refine⟨fun b o v Z=>y.per b o v (by rw[<-W];exact Z),fun b o v Z=>by rw[W];exact y.g0 b o v Z,fun b o v Z=>y.gm b o v (by rw[<-W];exact Z),y.new, ?_,a6,O, ?_, ?_, ?_,y.os,y.tape,y.output,y.size,y.ext,
  fun i hi=>(Q i hi).trans (y.pin i hi),y.lay⟩
 ·intro p hp
  obtain⟨h1,q,hq,I⟩:=J p hp;obtain⟨_,h3,h4⟩:=y.obs q hq;exact⟨h1,by rw[I];exact h3,fun off=>by rw[W,I];exact h4 off⟩
 ·intro t L
  rcases a1 t L with h|⟨u,hu,h⟩
  ·exact .inl h
  ·have:=y.tks u hu
   unfold iU at this ⊢;rw[h,W];exact this
 ·intro t L p hp
  obtain⟨_,q,hq,I⟩:=J p hp;rcases a1 t L with h|⟨u,hu,h⟩
  ·exact .inr h
  ·rw[h,I];exact y.tko u hu q hq
 ·intro t L u hu a2
  rcases a7 t L u hu a2 with h|h|⟨t',ht',u',hu',hne,h1,I⟩
  ·exact .inr (.inl h)
  ·exact .inr (.inr h)
  ·rw[h1,I];exact y.tkd t' ht' u' hu' hne
theorem fF{p:Nat×aH}:∀{l:List aH}{k:Nat},p∈gP k l↔∃i,i<l.length/\p.1=k+i/\p.2=l.getD i (.rc [])
 |[],k=>by simp[gP]
 |o::r,k=>by
  simp only[gP,av,fF];constructor
  ·rintro(rfl|⟨i,E,F,y⟩)
   ·exact⟨0,by simp,rfl,rfl⟩
   ·exact⟨i+1,by simpa using E,by omega,by simpa using y⟩
  ·rintro⟨i,E,F,y⟩
   cases i with
   |zero=>left;exact Prod.ext (by simpa using F) (by simpa using y)
   |succ i=>exact .inr ⟨i,by simpa using E,by omega,by simpa using y⟩
theorem jq:∀(l:List aH)(k:Nat),((gP k l).map cW).Nodup
 |[],_=>by simp[gP]
 |o::r,k=>by simp only[gP,aI,dR];refine⟨fun h=> ?_,jq r (k+1)⟩;obtain⟨p,y,e⟩:=aZ.1 h;obtain⟨i,_,E,_⟩:=fF.1 y;omega
theorem G7(n i:Nat)(h:i<n):(lw n).getD i 0=i:=by
 have E:∀n,(lw n).length=n:=by
  intro n;induction n with
  |zero=>rfl
  |succ n y=>simp[lw,y]
 induction n with
 |zero=>omega
 |succ n y=>
  simp only[lw,aa,List.getElem?_append,E]
  by_cases hi:i<n
  ·rw[if_pos hi,<-aa,y hi]
  ·rw[if_neg hi];have:i-n=0:=by omega
   rw[this];simp;omega
theorem Ic{keep raw:t8}{k:Nat}{vs:f8}{us:LAb}{q:dV}(hM:aR C x s a w)(hS:Sim N c s)(hk:k<=40)(hv:cL x vs us)(h:xaj keep k (fx c vs (jP raw 0 vs))=some q):
 ∃x',Rep x' q.r (Ul us)/\dl C x' q.os q.tk w/\(∀p∈q.os,p.2.wf=true)/\∀i,i<100->x'.bk i=C.β0 i:=by
 obtain⟨x1,s1,d7,b5,a1⟩:=ki (l:=jP raw 0 vs) hM hS hv;generalize fx c vs (jP raw 0 vs)=z at h b5 a1;obtain⟨c1,b7⟩:=z;simp only at b5 a1;simp only[xaj]at h;have hE:=b5.exact d7;cases hb:(decide (k=0)&&(SV.idsL b7).isEmpty&&keep.isEmpty)with
 |true=>rw[hb]at h;simp only[UD,ax.injEq]at h;subst h;refine⟨x1, ?_,hE.heap.only (by simp) (by simp) (by simp),by simp,fun i hi=>hE.heap.pin i hi⟩;refine Um ?_;rw[lM];refine⟨by simpa using a1.1,fun i hi=> ?_⟩;rw[bn _ (by rfl)];exact(a1.2 i (by simpa using hi)).bare rfl rfl
 |false=>
  rw[hb]at h;simp only[UD]at h;generalize hz:lh c1.tk keep 60 0 b7=z at h;obtain⟨a7,E⟩:=z;simp only[xh8]at h;generalize eC c1 60 [] (lw k++SV.idsL a7)=m at h;cases ho:im c1 m with
  |none=>rw[ho]at h;cases h
  |some a2=>
   rw[ho]at h;simp only[xh7]at h;generalize b3:eU c1.tk (60+E.length) a2=z2 at h;obtain⟨os,F⟩:=z2;simp only[xh6]at h;cases hb2:(pR (SV.idsL a7++gp os) m&&eg m&&eg (cO (E++F))&&decide (m.take k=lw k)&&(m.drop k).all fun o=>decide (k<=o))with
   |false=>rw[hb2]at h;cases h
   |true=>
    rw[hb2]at h;simp only[xh5,ax.injEq]at h;subst h;simp only[aD,decide_eq_true_eq,bf]at hb2;obtain⟨⟨⟨⟨d2,e1⟩,e5⟩,Z⟩,c5⟩:=hb2;obtain⟨e9,e6⟩:=rV ho;have a6:=yo d2;have c7:=kv e1;have d1:=kv e5
    have e7:∀n,(lw n).length=n:=by
     intro n;induction n with
     |zero=>rfl
     |succ n ih=>simp[lw,ih]
    have f0:k<=m.length:=by have:=congrArg List.length Z;rw[an,e7]at this;omega
    have b4:∀i,i<k->m.getD i 0=i:=by
     intro i hi;have J:(m.take k).getD i 0=m.getD i 0:=by simp only[aa,bS,if_pos hi]
     rw[<-J,Z,G7 k i hi]
    have c3:∀i,k<=i->i<m.length->k<=m.getD i 0:=by
     intro i J O;refine c5 _ ?_
     have:m.getD i 0=(m.drop k).getD (i-k) 0:=by simp only[aa,bB];congr 2;omega
     rw[this];exact gF (by rw[aE];omega)
    let τ2:Nat->Nat×Nat×Nat:=fun t=>if 60<=t/\t<60+(E++F).length then U5 x1 ((E++F).getD (t-60) none)else(0,0,0)
    let x2:Sit:=⟨x1.G,x1.bk,τ2⟩
    let x3:Sit:=⟨x1.G,fun i=>if i<100 then x1.bk i else x1.bk (m.getD (i-100) 0),τ2⟩
    have hτ:∀y:Sit,y.τ=τ2->pK x1 y 60 (E++F):=by
     intro y hy j hj;rw[hy];show(if _ then _ else _)=_;rw[if_pos ⟨by omega,by omega⟩]
     congr 2;omega
    have I:∀i,i<m.length->(m.getD i 0,a2.getD i (.rc []))∈c1.ob:=fun i hi=>kf (e6 i hi)
    have hβ:∀o∈m,x3.bk (iM k m o)=x1.bk o:=by
     intro o ho;unfold iM;split
     ·rename_i f1
      show(if _ then _ else _)=_;rw[if_pos (by omega)]
     ·show(if _ then _ else _)=_
      rw[if_neg (by omega)];have e:100+iy m o-100=iy m o:=by omega
      rw[e,(oq ho).2]
    have d5:=hτ x2 rfl
    have e0:cL x2 a7 us:=by have:=nG (x:=x1) (x1:=x2) rfl rfl (tk:=c1.tk) (own:=keep) (j:=60) (i:=0) a1 (by rw[hz];exact d5.left);rwa[hz]at this
    have d6:Rep x3 ((kt a7).ren (iM k m) id) (Ul us):=by
     refine Rep.renF (x:=x2) (x2:=x3) (fun _ _ _ h=>h) (Um e0) (fun j hj=>hβ j (a6 j (am.2 (.inl ?_)))) (fun t _=>rfl)
     have key:∀l:f8,∀j∈(kt l).ids,j∈SV.idsL l:=by
      intro l j hj
      match l with
      |[]=>exact hj
      |[v]=>simpa[kt,SV.idsL]using hj
      |v::u::r=>exact hj
     exact key a7 j hj
    obtain⟨b6,b1⟩:=mG (x:=x1) (x1:=x2) (w:=w) rfl rfl (tk:=c1.tk) (obs:=a2) (j:=60+E.length) (f:=fun i=>m.getD i 0)
     (fun i hi=>(hE.heap.obs _ (I i (by omega))).1) (by rw[b3];exact d5.right)
    rw[b3]at b6 b1;simp only at b6 b1
    have e4:∀o∈os,o.wf=true:=by
     intro o e3
     have:=oF (tk:=c1.tk) (obs:=a2) (j:=60+E.length) (fun o h'=>by obtain⟨i,hi,rfl⟩:=bg h';have:=b5.inv.wf _ (I i (by omega));simpa[aa,ac hi]using this) o (by rw[b3];exact e3)
     exact this
    have L:∀p∈gP 0 (eY (iM k m) id (os.take k))++gP (100+k) (eY (iM k m) id (os.drop k)),∃i,i<m.length/\p.1=iM k m (m.getD i 0)/\p.2=(os.getD i (.rc [])).ren (iM k m) id/\os.getD i (.rc [])∈os:=by
     intro p W
     have gd:∀{l:List aH}{i:Nat},i<l.length->(eY (iM k m) id l).getD i (.rc [])=(l.getD i (.rc [])).ren (iM k m) id:=by intro l i hi;rw[gY,aa,aa,aU,ac hi];rfl
     have gm:∀{i:Nat},i<os.length->os.getD i (.rc [])∈os:=fun{i} hi=>by rw[aa,ac hi];exact bv _
     rcases am.1 W with W|W
     ·obtain⟨i,J,O,h3⟩:=fF.1 W
      rw[gY,aV,an]at J;have e:(os.take k).getD i (.rc [])=os.getD i (.rc []):=by simp only[aa,bS,if_pos (show i<k by omega)]
      refine⟨i,by omega, ?_, ?_,gm (by omega)⟩
      ·rw[O,b4 i (by omega)];unfold iM;rw[if_pos (by omega)];omega
      ·rw[h3,gd (by rw[an];omega),e]
     ·obtain⟨i,J,O,h3⟩:=fF.1 W
      rw[gY,aV,aE]at J;have hi:k+i<m.length:=by omega
      have e:(os.drop k).getD i (.rc [])=os.getD (k+i) (.rc []):=by simp only[aa,bB]
      refine⟨k+i,hi, ?_, ?_,gm (by omega)⟩
      ·have h5:=c3 (k+i) (by omega) hi
       have h6:=oq (gF hi);have h7:iy m (m.getD (k+i) 0)=k+i:=mM c7 h6.1 hi h6.2;unfold iM;rw[if_neg (by omega),h7,O];omega
      ·rw[h3,gd (by rw[aE];omega),e]
    have e2:∀t∈cO (E++F),t∈c1.tk:=by
     intro t Q;rw[gh,am]at Q;rcases Q with Q|Q
     ·exact pQ (tk:=c1.tk) (own:=keep) (cs:=b7) (j:=60) (i:=0) t (by rw[hz];exact Q)
     ·exact oG (tk:=c1.tk) (obs:=a2) (j:=60+E.length) t (by rw[b3];exact Q)
    have a8:∀t∈tks 60 (E.length+F.length),(x3.τ t).2.1=(x3.τ t).2.2\/∃u,(E++F).getD (t-60) none=some u/\u∈c1.tk/\x3.τ t=x1.τ u:=by
     intro t Q;obtain⟨J,O⟩:=kN.1 Q;have e:=hτ x3 rfl (t-60) (by rw[ae];omega);rw[show 60+(t-60)=t by omega]at e;cases hu:(E++F).getD (t-60) none with
     |none=>rw[hu]at e;rw[e];exact .inl rfl
     |some u=>rw[hu]at e;exact .inr ⟨u,rfl,e2 u (jE hu),e⟩
    refine⟨x3,d6,hE.heap.sel (x2:=x3) rfl ?_ ?_ ?_ ?_ ?_ ?_, ?_, ?_⟩
    ·intro p W
     obtain⟨i,J,O,h3,h4⟩:=L p W;have d3:=gF J;refine⟨?_,_,I i J,by rw[O];exact hβ _ d3⟩;rw[O,h3];exact(b1 i (by omega)).renF (x2:=x3) (fun _ _ _ h=>h) (hβ _ d3) (fun j hj=>hβ j (a6 j (am.2 (.inr (qz h4 j hj))))) (fun t _=>rfl)
    ·rw[co,List.nodup_append]
     refine⟨jq _ _,jq _ _,fun u hu v hv e=> ?_⟩;obtain⟨p,W,rfl⟩:=aZ.1 hu;obtain⟨r,hr,rfl⟩:=aZ.1 hv;obtain⟨i,J,O,_⟩:=fF.1 W;obtain⟨j,h3,h4,_⟩:=fF.1 hr;rw[gY,aV,an]at J;omega
    ·intro p W r hr d4
     obtain⟨i,J,O,_⟩:=L p W;obtain⟨j,h3,h4,_⟩:=L r hr;rw[O,h4,hβ _ (gF J),hβ _ (gF h3)]at d4;have:=hE.heap.inj _ (I i J) _ (I j h3) d4;simp only at this;rw[O,h4,this]
    ·intro t Q
     rcases a8 t Q with g|⟨u,_,g1,g2⟩
     ·exact .inl g
     ·exact .inr ⟨u,g1,g2⟩
    ·intro t Q u hu e8
     rcases a8 t Q with g|⟨t',g0,g1,g2⟩
     ·exact .inl g
     ·rcases a8 u hu with g|⟨u',k0,k1,k2⟩
      ·exact .inr (.inl g)
      ·refine .inr (.inr ⟨t',g1,u',k1,oX d1 ?_ g0 k0,g2,k2⟩)
       have:=kN.1 Q;have:=kN.1 hu;omega
    ·intro i hi
     show(if _ then _ else _)=_;rw[if_pos hi]
    ·intro p W
     obtain⟨i,J,O,h3,h4⟩:=L p W;rw[h3];exact BU (e4 _ h4)
    ·intro i hi
     show(if _ then _ else _)=_;rw[if_pos hi];exact hE.heap.pin i hi
structure bX(P:Program)(g:Nat)(F:FnC):Prop where
 fn:∃fn,P.funcs[g]? =some fn/\fn.body.map (cU P)=some F.code.er/\fn.ntmps=F.n/\IC P fn.results.toList F.rs
 cb:eu P g=true
 ok:F.code.ok F.n=true
def pA(P:Program)(T:iO):Prop:=∀g b,T.fn g=some b->match b with
 | .code F=>bX P g F
 | .prim f=>∀a_ os k q,f a_ os k=some q->fZ P g a_ os k (· =q)
theorem GS(os:List aH):∀o,(idx os).lookup o=jD (gP 0 os) o:=by
 intro o;have O:((idx os).map cW).Nodup:=oJ os;have L:=jq os 0
 have I:∀p,p∈idx os↔p∈gP 0 os:=by
  intro p;rw[jK,fF];constructor
  ·rintro⟨y,F⟩;exact⟨p.1,y,by omega,F⟩
  ·rintro⟨i,y,F,J⟩
   have e:p.1=i:=by omega
   rw[e];exact⟨y,J⟩
 rw[jr];refine vR (fun v E=> ?_) (fun v E=> ?_)
 ·exact kb (p:=(o,v)) L ((I _).1 (kf E))
 ·exact kb (p:=(o,v)) O ((I _).2 (kf E))
theorem uA(n:Nat):∀(l:f8)(i:Nat),fb (px i l) n=if i<=n then l.getD (n-i) .undef else .undef
 |[],i=>by simp[px,fb]
 |v::r,i=>by
  simp only[px,fb,uA n r (i+1)]
  by_cases h:i=n
  ·subst h;simp
  ·rw[if_neg h]
   by_cases y:i<=n
   ·rw[if_pos y,if_pos (by omega)]
    obtain⟨k,E⟩:∃k,n-i=k+1:=⟨n-i-1,by omega⟩;rw[E,jk];congr 1;omega
   ·rw[if_neg y,if_neg (by omega)]
theorem uv{p:Nat×SV}:∀{l:f8}{i:Nat},p∈px i l->p.1<i+l.length
 |v::r,i,h=>by
  simp only[px]at h;rcases av.1 h with e|e
  ·rw[e];simp
  ·have:=uv e;simp only[al];omega
theorem yu:∀(l:List aH)(k:Nat),((gP k l).map cW).Pairwise (· < ·)
 |[],_=>by simp[gP]
 |o::r,k=>by simp only[gP,aI,bJ];refine⟨fun n hn=> ?_,yu r (k+1)⟩;obtain⟨p,y,rfl⟩:=aZ.1 hn;obtain⟨i,_,E,_⟩:=fF.1 y;omega
theorem o7{n:Nat}(hR:xX P T n)(hT:pA P T):gX P (fu T n):=by
 intro g a_ os k q y;unfold fu at y;cases hg:T.fn g with
 |none=>rw[hg]at y;cases y
 |some b=>
  have hb:=hT g b hg;cases b with
  |prim f=>rw[hg]at y;exact hb a_ os k q y
  |code F=>
   rw[hg]at y;simp only[nY,Jd]at y;obtain⟨⟨fn,b3,E,a8,a2⟩,b5,a7⟩:=hb;refine⟨b5, ?_⟩;split at y
   case isFalse=>cases y
   rename_i b7;intro C x w vs b6 c3 b1 W a1 hH I;cases hbd:fn.body with
   |none=>simp[hbd]at E
   |some code=>
    simp only[hbd,dp]at E;refine calls_of_wp b3 hbd ?_;have hl:=I.1
    let s0:St:=⟨a_++aL (F.n-a_.length) .undef,idx os,tks 50 k⟩
    have a6:aR C x s0 {tmps:=(⟨vs⟩:LAc)++eT (fn.ntmps-(⟨vs⟩:LAc).size) undef,defers:=[]} w:=by
     refine⟨?_,rfl,hH⟩
     have e1:((⟨vs⟩:LAc)++eT (fn.ntmps-(⟨vs⟩:LAc).size) undef).toList=vs++aL (F.n-a_.length) undef:=by simp[a8,hl]
     rw[e1];refine I.append ⟨by simp,fun i hi=> ?_⟩;rw[fY _ _ _ _ (by simpa using hi)];exact .undef _
    have b4:Sim F.n (tP a_ os k) s0:=by
     refine⟨⟨fun p hp=> ?_,yu os 0,fun p hp=> ?_⟩, ?_,fun o=>GS os o,fun t=>Iff.rfl⟩
     ·have:=uv hp;omega
     ·obtain⟨i,h1,_,h3⟩:=fF.1 hp
      rw[h3,aa,ac h1];exact a1 _ (bv _)
     ·apply List.ext_getElem?
      intro i;show(a_++aL (F.n-a_.length) SV.undef)[i]? =_;rw[aU];rcases bQ i F.n with hi|hi
      ·rw[cC hi]
       have e:(tP a_ os k).get i=a_.getD i .undef:=by show fb (px 0 a_) i=_;rw[uA];simp
       simp only[bE,e,List.getElem?_append,List.getElem?_replicate]
       by_cases h:i<a_.length
       ·rw[if_pos h,aa,ac h];rfl
       ·rw[if_neg h,if_pos (by omega),aa,ib (by omega)];rfl
      ·rw[ib (by simp;omega),ib (by simpa using hi)];rfl
    cases hs:gu T n F.code (tP a_ os k)with
    |none=>rw[hs]at y;cases y
    |some p=>
     obtain⟨e,c1⟩:=p;rw[hs]at y;refine wp_mono (hR.1 _ _ _ _ hs code C F.n _ w (by simpa using E) a7 ⟨x,s0,a6,b4⟩) ?_;rintro e' a' w' ⟨rfl,x1,s1,L,O⟩
     have J:UE F.keep F.raw os.length c1 (uj c1 F.rs)=some q->a'.defers=[]/\∃v,(results fn a'.tmps).run P w'= .ok v w'/\∃v',∃x':Sit,∃Z,Ending.returned v= .returned v'/\Z=q/\Rep x' Z.r v'/\dl C x' Z.os Z.tk w'/\(∀p∈Z.os,p.2.wf=true)/\∀i,i<os.length->x'.bk i=x.bk i:=by
      intro hf;cases hrc:uj c1 F.rs with
      |none=>rw[hrc]at hf;cases hf
      |some rv=>
       rw[hrc]at hf;obtain⟨p,h1,h2⟩:=vx (P:=P) O a2 hrc;obtain⟨us,Q,hl⟩:=sO L h1 h2;obtain⟨x',g1,g2,g3,g4⟩:=Ic L O W hl hf;refine⟨L.defers,Ul us, ?_,Ul us,x',q,rfl,rfl,g1,g2,g3,fun i hi=> ?_⟩
       ·rw[AO,Array.mapM_eq_mapM_toList]
        simp only[aC,Sem.run_map,Q,aq,aN];rfl
       ·rw[g4 i (by omega)];exact(hH.pin i (by omega)).symm
     cases e with
     |n=>exact J y
     |r=>exact J y
     |x id=>cases y
theorem U8(hT:pA P T):∀n,xX P T n
 |0=>AM
 |n+1=>AN (U8 hT n) (o7 (U8 hT n) hT)
theorem rh(hT:pA P T):gX P (call T):=by intro g a_ os k q y;obtain⟨n,hn⟩:=qx y;exact o7 (U8 hT n) hT g a_ os k q hn
theorem Gi(hT:pA P T){g:Nat}{a_:f8}{r:SV}(h:call T g a_ [] 0=some ⟨r,[],[]⟩)(I:r.toks=[]):Fn P g a_ r:=by obtain⟨h1,Q⟩:=rh hT _ _ _ _ _ h;refine⟨h1,fun C x w vs E W F hl L hv=> ?_⟩;refine(Q C x w vs E W (fun b O=>(F b O).imp id (fun⟨i,hi,_⟩=>by simp at hi)) (by simp) (by simp) L hv).mono ?_;rintro en w' ⟨v,x',q,rfl,rfl,Z,y,_,J⟩;exact⟨v,x',r,[],rfl,⟨rfl,rfl⟩,Z,by rw[I];exact y,J⟩
def xbr(P:Program):ResultVar->RV->Bool
 | .tmp t,.tmp t'=>decide (t=t')
 | .cell t ty,.cell t' n ag=>decide (t=t')&&decide (fI P ty=some n)&&decide (tg P ty=some ag)
 |_,_=>false
def sM(P:Program):List ResultVar->List RV->Bool
 |[],[]=>true
 |a::r,b::s=>xbr P a b&&sM P r s
 |_,_=>false
theorem yA:∀{rs:List ResultVar}{E:List RV},sM P rs E=true->IC P rs E
 |[],[],_=>trivial
 |[],_::_,h=>by cases h
 |_::_,[],h=>by cases h
 |a::r,b::s,h=>by
  simp only[sM,aD]at h;refine⟨?_,yA h.2⟩;have y:=h.1;cases a<;>cases b<;>simp only[xbr,aD,decide_eq_true_eq]at y<;>first|(cases y;done)|skip
  ·exact y
  ·exact⟨y.1.1,y.1.2,y.2⟩
theorem xag{g:Nat}{F:FnC}{fn:Func}(L:P.funcs[g]? =some fn)(E:fn.body.map (cU P)=some F.code.er)(O:fn.ntmps=F.n)(J:sM P fn.results.toList F.rs=true)(I:eu P g=true)(y:F.code.ok F.n=true):bX P g F:=
 ⟨⟨fn,L,E,O,yA J⟩,I,y⟩
end Go.Sy
namespace Go.Sy
variable [bx]
open Go.RowKit Go.ChangeShapes Go.WideShapes
def GW(w:World):GM:=fun b o=>w.cell? ⟨b,o,none⟩
def AI(w:World):Sit:=⟨GW w,fun _=>(0,0),fun _=>(0,0,0)⟩
theorem xhX(w:World)(hL:Lay (GW w)):dl ⟨w,GW w,fun b=>w.heap.size<=b,fun _=>(0,0)⟩ (AI w) [] [] w where
 per:=fun _ _ _ h=>h
 g0:=fun _ _ _ h=>h
 gm:=fun _ _ _ h=> .inl h
 new:=fun _ h=>h
 obs:=by simp
 nd:=List.nodup_nil
 inj:=by simp
 tks:=by simp
 tko:=by simp
 tkd:=by simp
 os:=rfl
 tape:=rfl
 output:=rfl
 size:=aK _
 ext:=fun _ _=>rfl
 pin:=fun _ _=>rfl
 lay:=hL
theorem vo{x:Sit}{b:Bool}{v:Value}(h:Rep x (.bool b) v):v= .bool b:=by
 cases h with
 |dat _ _ h _=>cases h;rfl
theorem ux{P:Program}{f:Nat}{a_:f8}(h:Fn P f a_ (.bool true)){W:World}{vs:LAb}(L:cL (AI W) a_ vs)(hL:Lay (GW W)):
 Calls P f ⟨vs⟩ W fun e E=>e= .returned (.bool true)/\Below W.heap.size W E:=by
 refine(h.2 ⟨W,GW W,fun b=>W.heap.size<=b,fun _=>(0,0)⟩ (AI W) W vs rfl rfl (fun b I=> .inl I) (by simp) (xhX W hL) L).mono ?_;rintro e E ⟨v,x',r,F,rfl,⟨rfl,rfl⟩,J,y,_⟩;obtain rfl:=vo J;exact⟨rfl,y.os,y.tape,y.output,y.size,fun k O=>y.ext k (by simp;omega)⟩
section
variable {H : Type} {enc : TypeId × Value -> H} {P : Program} {w : World} {base : Nat} {sp : Nat -> Bool} {hd : Bool} {r : Reach} {b0 : Nat} {t e : TypeId} {v : Value} {d : DataW H} {ps : List MemPlace}
theorem oC{k:IntKind}(F:P.underlying t=some (.int k))(y:Value.okWide P w r b0 t v)(h:DataW.Trod enc P w base sp hd t v d ps):∃n,k.has n/\Rep (AI w) (.int k n) v:=by obtain⟨n,rfl,_,_,E⟩:=open_int F y h;simp only[Lit.wf,aD,decide_eq_true_eq]at E;exact⟨n,E,.dat _ _ (.int k n) trivial⟩
theorem Av{a:Addr}{len cap:Nat}(E:P.underlying t=some (.slice e))(y:Value.okWide P w r b0 t (.slice (some a) len cap)):a.spot=none:=by simp only[Value.okWide,E,Cell.okWide,Cell.ok]at y;exact y.2.2.2.1
theorem xkP{n:Int}(h:(Lit.int .u8 n).wf=true):((ip n.toNat).toNat:Int)=n:=by
 simp only[Lit.wf,IntKind.min,IntKind.max,IntKind.signed,IntKind.bits,aD,decide_eq_true_eq]at h;rw[UInt8.toNat_ofNat'];have:n.toNat<256:=by simp at h;omega
 rw[ct this];simp at h;omega
theorem ia(I:P.underlying t=some (.slice e))(he:P.underlying e=some (.int .u8))(hc:P.cellsOf e=1)(E:Value.okWide P w r b0 t v)(h:DataW.Trod enc P w base sp hd t v d ps):
 ∃l:d9,l.length<=maxLen/\Rep (AI w) (.byt l .no) v:=by
 obtain⟨a0,len,cap,rfl⟩:=okWide_slice I E;obtain⟨O,W⟩:=h;rcases open_ints I he hc W with⟨y,_⟩|⟨a,len',cap',zs,y,_,hl,hm,hz,_,hcell,hwf⟩
 ·simp[Value.cells]at y
  obtain⟨rfl,rfl,rfl⟩:=y;exact⟨[],by simp,.dat _ _ (.bytN .no) trivial⟩
 ·simp[Value.cells]at y
  obtain⟨rfl,rfl,rfl⟩:=y;have J:=Av I E;obtain⟨b,off,Q⟩:=a;simp only at J;subst J;have hzl:len<=zs.length:=by rw[hz];split<;>omega
  refine⟨(zs.take len).map fun n=>ip n.toNat,by simp;omega,.dat _ _ (.byt _ .no b off cap len (by simp;omega) hl (fun i hi=> ?_)) trivial⟩;have L:=hcell i (by omega);have F:i<zs.length:=by omega
  rw[add_plain]at L
  have Z:((zs.take len).map fun n=>ip n.toNat).getD i 0=ip (zs.getD i 0).toNat:=by simp[aa,F,hi]
  show w.cell? _=_;rw[L,Z]
  congr 2
  refine(xkP (hwf _ ?_)).symm;rw[aa,ac F];exact bv F
end
theorem yN{x:Sit}:cL x [] []:=⟨rfl,by simp⟩
section
variable {H : Type} {enc : TypeId × Value -> H} {P : Program}
theorem Ks{f:Func}{s:ChangeSpec}{F fresh E Z:Bool}{W W':World}{args:LAc}{v:Value}{ds gs:List (DataW H)}{before pa pv:List MemPlace}
 (hW:DataW.Whole enc P f.params.toList s.vars F W args.toList ds gs before)
 (Q:∀(b:Nat)(sp:Nat->Bool)(hd:Bool),DataW.TrodAll enc P W' b sp hd f.resultTypes.toList (v.resultList f.resultTypes.size) (s.fn H (ds++gs)).results [])
 (y:∀sp:Nat->Bool,(∀p∈before,sp p.block=true)->DataW.TrodAll enc P W' 0 sp true f.params.toList args.toList (s.fn H (ds++gs)).args pa)
 (I:∀sp:Nat->Bool,(∀p∈before,sp p.block=true)->DataW.TrodVars enc P W' sp s.vars (s.fn H (ds++gs)).vars pv)
 (J:before=pa++pv) (hb:Below W.heap.size W W')
 (a6:∀(j:Nat)(t:TypeId)(r:Value),f.resultTypes[j]? =some t->(v.resultList f.resultTypes.size)[j]? =some r->Value.okWide P W' .any 0 t r):
 s.post enc P f F fresh E Z W args v W':=by
 have a1:=hW.lt;have O:∀p∈before,(fun b=>decide (b<W.heap.size)) p.block=true:=fun p L=>by simpa using a1 p L
 refine⟨ds,gs,before,[],pa,pv,hW,Q _ _ _,y _ O,I _ O,World.keptBut_mono (fun p L=>⟨L, ?_⟩) (hb.frame (· ∈before)),fun _=> ?_⟩
 ·rw[J,am]at L
  exact Or.inr L
 ·obtain⟨_,_,_,_,_,hz,hn⟩:=hW
  refine⟨a6,_,_,([]++pa)++pv,⟨[]++pa,pv,trodAll_append (y _ (fun _ _=>rfl)) (Q _ _ _),I _ (fun _ _=>rfl),rfl, ?_, ?_⟩, ?_⟩
  ·intro b off L
   have a2:MemPlace.cell b off∈before:=by rw[J];simpa using L
   rw[hb.frozen (p:=⟨b,off,none⟩) (a1 _ a2)];exact hz b off a2
  ·intro ha
   have:=hn ha;rw[J]at this;simpa using this
  ·intro p L _
   rw[J];simpa using L
theorem md(I:laidOutB P=true){W L:World}(J:Below W.heap.size W L):∀{E:List TypeId}{vs:LAb}{F:List (DataW H)}{p:List MemPlace},(E.all fun t=>P.readableRec t&&decide (t<P.types.size))=true->
 DataW.TrodAll enc P W 0 (fun _=>true) true E vs F p->(∀x∈p,x.block<W.heap.size)->∀sp:Nat->Bool,(∀x∈p,sp x.block=true)->DataW.TrodAll enc P L 0 sp true E vs F p
 |[],_,_,_,_,h,_,_,_=>by obtain⟨rfl,rfl,rfl⟩:=trodAll_nil h;exact trodAll_mk0
 |t::E,_,_,_,hr,h,hlt,sp,hsp=>by obtain⟨v,Q,d,a1,a,b,rfl,rfl,rfl,Z,O⟩:=trodAll_cons h;simp only[List.all_cons,aD,decide_eq_true_eq]at hr;refine trodAll_cons_mk ?_ (md I J (by simpa using hr.2) O (fun x y=>hlt x (List.mem_append_right _ y)) sp (fun x y=>hsp x (List.mem_append_right _ y)));exact WideElems.Trod_stays I hr.1.1 hr.1.2 Z (fun x y=>J.same (hlt x (List.mem_append_left _ y))) (fun x y=>hsp x (List.mem_append_left _ y))
theorem zh{f:Func}{s:ChangeSpec}{W W':World}{args:LAc}{E gs:List (DataW H)}{before:List MemPlace}{tb:TypeId}(hl:laidOutB P=true)
 (hr:(f.params.toList.all fun t=>P.readableRec t&&decide (t<P.types.size))=true) (O:f.resultTypes= #[tb]) (F:P.underlying tb=some .bool) (y:s.vars=[])
 (a1:(s.fn H (E++gs)).results=[.lit (.bool true)]) (Z:(s.fn H (E++gs)).args=E) (a2:(s.fn H (E++gs)).vars=[])
 (hW:DataW.Whole enc P f.params.toList s.vars false W args.toList E gs before) (hb:Below W.heap.size W W'):
 s.post enc P f false true false false W args (.bool true) W':=by
 have L:=hW.lt;have J:=hW;obtain⟨p,q,hA,hV,rfl,Q,a6⟩:=hW;rw[y]at hV;obtain⟨rfl,rfl⟩:=trodVars_none hV;simp only[bA]at L J Q;refine Ks (pa:=p) (pv:=[]) (before:=p) (gs:=[]) J (fun b sp hd=> ?_) (fun sp I=> ?_) (fun sp I=> ?_) (by simp) hb (ok_one O rfl (okWide_bool_mk F _))
 ·rw[a1,O]
  exact trodAll_cons_mk (shut_bool F _) trodAll_mk0
 ·rw[Z]
  exact md hl hb hr hA L sp I
 ·rw[y,a2]
  rfl
end
end Go.Sy
namespace Go.Sy
variable [bx]
open Go.RowKit Go.ChangeShapes Go.WideShapes
variable {P : Program} {C : Ctx} {x : Sit} {w w' : World}
theorem eQ.below{b:Nat}{c:LAc}{e:TypeId}{fl fh:Nat}(h:eQ w b c e fl fh)(y:Below w.heap.size w w'):eQ w' b c e fl fh:=h.of_heap (y.block b h.lt)
theorem dl.below{ob:List (Nat×aH)}{tk:t8}(h:dl C x ob tk w)(y:Below w.heap.size w w'):dl C x ob tk w' where
 per:=fun b o v I=>by rw[dN (y.block b (h.ltG I))];exact h.per b o v I
 g0:=h.g0
 gm:=h.gm
 new:=h.new
 obs:=fun p L=>by obtain⟨⟨c,e,fl,fh,E,r⟩,q⟩:=h.obs p L;exact⟨⟨c,e,fl,fh,E.below y,r⟩,q⟩
 nd:=h.nd
 inj:=h.inj
 tks:=fun t J=>(h.tks t J).imp id fun⟨⟨c,e,fl,fh,E,r⟩,q⟩=>⟨⟨c,e,fl,fh,E.below y,r⟩,q⟩
 tko:=h.tko
 tkd:=h.tkd
 os:=y.os.trans h.os
 tape:=y.tape.trans h.tape
 output:=y.output.trans h.output
 size:=mE h.size y.size
 ext:=fun b hn=>by
  rcases bQ b w.heap.size with F|F
  ·rw[y.block b F];exact h.ext b hn
  ·exact absurd (h.new b (mE h.size F)) hn
 pin:=h.pin
 lay:=h.lay
def jL(w:World)(l:d9)(v:Value):Prop:=
 (l=[]/\∃a,v= .slice a 0 0)\/∃b off n cap,v= .slice (some ⟨b,off,none⟩) n cap/\n=l.length/\∀i,i<n->w.cell? ⟨b,off+i,none⟩=some (.int .u8 (l.getD i 0).toNat)
theorem mP{l:d9}{t:Tok}{v:Value}(h:Rep x (.byt l t) v)(y:∀b o v,x.G b o=some v->w.cell? ⟨b,o,none⟩=some v):jL w l v:=by
 cases h with
 |dat _ _ h _=>
  cases h with
  |bytN=>exact .inl ⟨rfl,_,rfl⟩
  |bytE=>exact .inl ⟨rfl,_,rfl⟩
  |byt _ _ b off cap n hn E h=>exact .inr ⟨b,off,n,cap,rfl,hn,fun i hi=>y _ _ _ (h i hi)⟩
theorem BQ{l:d9}{v:Value}(h:Rep x (.str l) v):v= .string ⟨⟨l⟩⟩:=by
 cases h with
 |dat _ _ h _=>cases h;rfl
theorem xo3{b:UInt8}{v:Value}(h:Rep x (.u8 b) v):v= .int .u8 b.toNat:=by
 cases h with
 |dat _ _ h _=>cases h;rfl
theorem ko{g:Nat}{a_:f8}{r:SV}(y:eu P g=true)
 (h:∀(x:Sit)(w:World)(vs:LAb),cL x a_ vs->(∀b o v,x.G b o=some v->w.cell? ⟨b,o,none⟩=some v)->
  Calls P g ⟨vs⟩ w fun e w'=>∃v,e= .returned v/\Rep x r v/\Below w.heap.size w w'):fZ P g a_ [] 0 (· =⟨r,[],[]⟩):=by
 refine⟨y,fun C x w vs Q hG W Z J E L=>(h x w vs L E.per).mono ?_⟩;rintro e w' ⟨v,rfl,O,I⟩;exact⟨v,x,_,rfl,rfl,O,E.below I,fun p F=>by simp at F,fun i hi=>rfl⟩
theorem ln{l:d9}{v:Value}(h:jL w l v):(Extern.Bytes.bytesOf v).run P w= .ok ⟨⟨l⟩⟩ w:=by
 rcases h with⟨rfl,a,rfl⟩|⟨b,off,n,cap,rfl,hn,hc⟩
 ·cases a<;>rfl
 ·have F:=Lib.run_loadBytesX (P:=P) w (l.map fun c=>(c.toNat:Int)) ⟨b,off,none⟩ .empty (fun j z E=>by
   have y:j<l.length:=by have:=(pN.1 E).1;simpa using this
   have e:(⟨b,off,none⟩:Addr).add j=⟨b,off+j,none⟩:=by unfold Addr.add;split<;>simp_all
   rw[e,hc j (by omega)];simp only[aU,ac y,bE,ax.injEq]at E;rw[aa,ac y,aM,<-E])
  have I:(⟨ByteArray.empty.data++(Lib.bytesOf (l.map fun c=>(c.toNat:Int))).toArray⟩:ByteArray)=⟨⟨l⟩⟩:=by
   apply ByteArray.ext;show(#[]:Array UInt8)++(Lib.bytesOf _).toArray=⟨l⟩
   have:Lib.bytesOf (l.map fun c=>(c.toNat:Int))=l:=by unfold Lib.bytesOf;rw[List.map_map];refine(List.map_congr_left (g:=id) fun c _=> ?_).trans (List.map_id _);simp
   rw[this];simp
  rw[aV,I]at F;rw[hn];exact F
theorem sN{a b:d9}{u v:Value}(E:jL w a u)(y:jL w b v):(Extern.BytealgCompare.compare #[u,v]).run P w= .ok (.int .i64 (Lib.compareBytes a b)) w:=by change Sem.run P (do pure (goInt (Extern.BytealgCompare.cmp (<-Extern.Bytes.bytesOf u) (<-Extern.Bytes.bytesOf v)))) w=_;simp only[aC,ln E,ln y,Result.andThen,aN,Lib.cmp_eq];rfl
def xof(l:d9)(c:UInt8):Int:=firstIdx ⟨⟨l⟩⟩ c
theorem yb{l:d9}{u:Value}{c:UInt8}(E:jL w l u):(Extern.BytealgIndexByte.indexByte #[u,.int .u8 c.toNat]).run P w= .ok (.int .i64 (xof l c)) w:=by
 have y:=run_indexByte_string (P:=P) ⟨⟨l⟩⟩ c.toNat w
 change Sem.run P (do
  let b<-Extern.Bytes.bytesOf u
  let c'<-Extern.Bytes.asByte (.int .u8 c.toNat)
  match (bC b.size).find? fun i=>b[i]! ==c' with
  |some i=>pure (goInt i)
  |none=>pure (goInt (-1))) w=_
 change Sem.run P (do
  let b<-Extern.Bytes.bytesOf (.string ⟨⟨l⟩⟩)
  let c'<-Extern.Bytes.asByte (.int .u8 c.toNat)
  match (bC b.size).find? fun i=>b[i]! ==c' with
  |some i=>pure (goInt i)
  |none=>pure (goInt (-1))) w=_ at y
 have e:(((c.toNat:Nat):Int).toNat.toUInt8)=c:=by simp
 rw[e]at y;simp only[aC,ln E,Result.andThen]at y ⊢;exact y
end Go.Sy
namespace Go.Sy
variable [bx]
structure I0(T T':iO):Prop where
 fn:∀g b,T.fn g=some b->T'.fn g=some b
 sg:T.sg=T'.sg
variable {T T' : iO}
theorem yC(h:I0 T T'):∀n,leR (gu T n) (gu T' n)
 |0=>fun _ _ _ h=>by cases h
 |n+1=>fun r c x F=>by
  have E:=yC h n;show eA (gu T' n) (fun g args os k=>nY (gu T' n) (T'.fn g) args os k) T'.sg r c=some x;rw[<-h.sg];refine mH E ?_ F;intro g a os k q y;simp only at y ⊢;cases hf:T.fn g with
  |none=>rw[hf]at y;cases y
  |some b=>rw[hf]at y;rw[h.fn g b hf];exact jc E y
theorem ZU{α:Type}{g:Nat->Option α}{x:α}(h:lim g=some x):∃n,g n=some x:=by
 unfold lim at h;split at h
 ·exact⟨_,h⟩
 ·cases h
theorem Ll(h:I0 T T'){g:Nat}{a:f8}{os:List aH}{k:Nat}{q:dV}(y:call T g a os k=some q):call T' g a os k=some q:=by
 obtain⟨n,hn⟩:=ZU y;refine ri (n:=n) ?_;unfold fu at hn ⊢;cases hf:T.fn g with
 |none=>rw[hf]at hn;cases hn
 |some b=>rw[hf]at hn;rw[h.fn g b hf];exact jc (yC h n) hn
end Go.Sy
namespace Go.Sy
variable [bx]
variable {P : Program} {C : Ctx} {x : Sit} {w w' : World} {ob : List (Nat × aH)} {tk : List Nat}
open Go.RowKit Go.ChangeShapes Go.WideShapes
theorem fv(b:Nat):∀(vs:LAb)(o:Nat)(w:World),w.setCells b o vs=cj w b o vs
 |[],_,_=>rfl
 |v::r,o,w=>by rw[World.setCells,cj];exact fv b r (o+1) _
theorem dl.one(h:dl C x ob tk w)(O:Below w.heap.size w w'){obj:aH}{K:Nat}(L:ey (x.newO 100 w.heap.size K) w' 100 obj):dl C (x.newO 100 w.heap.size K) [(100,obj)] [] w':=by
 have y:=(h.sub (ob':=[]) (tk':=[]) (List.nil_sublist _) (fun t E=>by cases E)).below O;have F:(x.newO 100 w.heap.size K).bk 100=(w.heap.size,K):=i6 _ _ _;refine⟨y.per,y.g0,y.gm,y.new, ?_,by simp, ?_,(fun t E=>by cases E),(fun t E=>by cases E),(fun t E=>by cases E),y.os,y.tape,y.output,y.size,y.ext,fun i hi=>by rw[Sit.newO_ne _ _ _ _ (by omega)];exact y.pin i hi,y.lay⟩
 ·intro p I
  rw[bq]at I;subst I;refine⟨L,by rw[F];exact h.new _ h.size,fun off=> ?_⟩;rw[F];show x.G w.heap.size off=none;cases hg:x.G w.heap.size off with
  |none=>rfl
  |some v=>exact absurd (h.ltG hg) (by omega)
 ·intro p I q J _
  rw[bq]at I J;rw[I,J]
theorem xbt{a b c:SV}{vs:LAb}(h:cL x [a,b,c] vs):∃u v z,vs=[u,v,z]/\Rep x a u/\Rep x b v/\Rep x c z:=by
 match vs,h with
 |[u,v,z],h=>exact⟨u,v,z,rfl,h.2 0 (by simp),h.2 1 (by simp),h.2 2 (by simp)⟩
 |[],h=>simp[cL]at h
 |[_],h=>simp[cL]at h
 |[_,_],h=>simp[cL]at h
 |_::_::_::_::_,h=>simp[cL]at h
theorem Hr{w:World}{b:Nat}{c:LAc}{e:TypeId}{fl fh:Nat}(h:eQ w b c e fl fh):w.shape? b=some (e,c.size):=by simp only[World.shape?,h.1]
theorem KH{w:World}{b:Nat}{c:LAc}{e:TypeId}{fl fh:Nat}(h:eQ w b c e fl fh)(y:¬(fl<=c.size/\c.size<fh)):w.frozen? ⟨b,c.size,none⟩=false:=by simp only[World.frozen?,h.1];simpa using y
end Go.Sy
namespace Go.Sy
variable [bx]
open Go.RowKit Go.ChangeShapes Go.WideShapes
variable {P : Program} {C : Ctx} {x : Sit} {w w' : World} {T T' : iO}
def Sit.grow(x:Sit)(w w':World):Sit:=⟨fun b o=>if w.heap.size<=b then w'.cell? ⟨b,o,none⟩else x.G b o,x.bk,x.τ⟩
theorem kD{b o:Nat}{v:Value}(h:w.cell? ⟨b,o,none⟩=some v):b<w.heap.size:=by
 rcases bQ b w.heap.size with y|y
 ·exact y
 ·have E:w.heap[b]? =none:=Array.getElem?_eq_none y
  simp only[World.cell?,E]at h;cases h
theorem KY(y:∀b o v,x.G b o=some v->w.cell? ⟨b,o,none⟩=some v){b o:Nat}{v:Value}(h:x.G b o=some v):(x.grow w w').G b o=some v:=by show(if w.heap.size<=b then _ else _)=_;rw[if_neg (by have:=kD (y _ _ _ h);omega)];exact h
theorem Aw{g:Nat}{a_:f8}{r:SV}(J:eu P g=true)
 (h:∀(x:Sit)(w:World)(vs:LAb),cL x a_ vs->(∀b o v,x.G b o=some v->w.cell? ⟨b,o,none⟩=some v)->Lay x.G->
  Calls P g ⟨vs⟩ w fun e w'=>∃v,e= .returned v/\Rep (x.grow w w') r v/\Below w.heap.size w w'):fZ P g a_ [] 0 (· =⟨r,[],[]⟩):=by
 refine⟨J,fun C x w vs L Z hm hl W F hr=>(h x w vs hr F.per (Z ▸ F.lay)).mono ?_⟩;rintro e w' ⟨v,rfl,hv,Q⟩;have E:=F.below Q;refine⟨v,x.grow w w',_,rfl,rfl,hv,⟨?_, ?_, ?_,E.new,by simp,by simp,by simp,by simp,by simp,by simp,E.os,E.tape,E.output,E.size,E.ext,fun i hi=>E.pin i hi,E.lay⟩,fun p O=>by simp at O,fun i hi=>rfl⟩
 ·intro b o u hu
  have y:(if w.heap.size<=b then w'.cell? ⟨b,o,none⟩else x.G b o)=some u:=hu;split at y
  ·exact y
  ·exact E.per _ _ _ y
 ·intro b o u hu
  exact KY F.per (F.g0 _ _ _ hu)
 ·intro b o u hu
  have y:(if w.heap.size<=b then w'.cell? ⟨b,o,none⟩else x.G b o)=some u:=hu;split at y
  ·rename_i I
   exact .inr (F.new b (by rw[L];exact I))
  ·exact F.gm _ _ _ y
theorem Lk(hT:pA P T){g:Nat}{a_:f8}{r:SV}(h:call T g a_ [] 0=some ⟨r,[],[]⟩){vs:LAb}(J:cL (AI w) a_ vs)(hL:Lay (GW w)):
 Calls P g ⟨vs⟩ w fun e w'=>∃v x',e= .returned v/\Rep x' r v/\Below w.heap.size w w':=by
 obtain⟨O,F⟩:=rh hT _ _ _ _ _ h;refine(F ⟨w,GW w,fun b=>w.heap.size<=b,fun _=>(0,0)⟩ (AI w) w vs rfl rfl (fun b E=> .inl E) (by simp) (by simp) (xhX w hL) J).mono ?_;rintro e w' ⟨v,x',q,rfl,rfl,I,y,_⟩;exact⟨v,x',rfl,I,y.os,y.tape,y.output,y.size,fun k L=>y.ext k (by simp;omega)⟩
def iO.addP(T:iO)(g:Nat)(p:f8->List aH->Nat->Option dV):iO:=⟨fun k=>if k=g then some (.prim p)else T.fn k,T.sg⟩
theorem JP(T:iO){g:Nat}(p:f8->List aH->Nat->Option dV)(h:T.fn g=none):I0 T (T.addP g p):=⟨fun k b y=>by show(if k=g then _ else _)=_;rw[if_neg (by rintro rfl;rw[h]at y;cases y)];exact y,rfl⟩
theorem GA(T:iO)(g:Nat)(p:f8->List aH->Nat->Option dV):(T.addP g p).fn g=some (.prim p):=if_pos rfl
theorem xa2(h:pA P T){g:Nat}{p:f8->List aH->Nat->Option dV}(F:∀a_ os k q,p a_ os k=some q->fZ P g a_ os k (· =q)):pA P (T.addP g p):=by
 intro k b y
 by_cases e:k=g
 ·subst e
  rw[GA]at y;cases y;exact F
 ·have:T.fn k=some b:=by
   have E:(if k=g then some (FnB.prim p)else T.fn k)=some b:=y;rwa[if_neg e]at E
  exact h k b this
end Go.Sy
namespace Go
open Go.Maps (Keyed)
theorem fM{H:Type}{P:Program}{e:TypeId}(y:P.underlying e=some .bool){v:Value}{z:DataW H×List MemPlace}(h:plainElem P e v=some z):∃a,v= .bool a/\z=(.lit (.bool a),[]):=by unfold plainElem at h;rw[y]at h;cases v<;>simp at h;exact⟨_,rfl,h.symm⟩
theorem HT{H:Type}{P:Program}{w:World}{t k e:TypeId}{b n:Nat}{D:DataW H}(F:w.ownsMap P k (plainElem P e) b n D)(K:Keyed P k)(O:P.underlying t=some (.map k e))(I:P.underlying e=some .bool)(hz:(zeroValue e).run P w= .ok (.bool false) w){key:Value}{L:Lit}(y:keyOf P k key=some L): 
 ∃c:Bool,(Instr.lookup t (.map (some b)) key false).run P w= .ok (.bool c) w/\D.atKey L (.lit (.bool false))= .lit (.bool c):=by
 obtain⟨v,ps,E,Q⟩:=F.lookup K O hz (plainElem_bool I false) y;obtain⟨c,rfl,J⟩:=fM I Q;simp only[bG.injEq]at J;exact⟨c,E,J.1⟩
end Go
namespace Go.Sy
variable [bx]
variable {P : Program} {C : Ctx} {x : Sit} {w w' : World} {ob : List (Nat × aH)} {tk : List Nat}
open Go.RowKit Go.ChangeShapes Go.WideShapes
structure xi9(P:Program)(g:Nat)(el:TypeId)(sz:Nat):Prop where
 cb:eu P g=true
 shift:∀(b n c i vb voff vc:Nat)(cs vs:List Value)(w:World),i<n->n+1<=c->n<=1000000->vb≠b->cs.length=n*sz->vs.length=sz->(∀j u,cs[j]? =some u->w.cell? ⟨b,j,none⟩=some u)->
  (∀j,j<(n+1)*sz->(w.cell? ⟨b,j,none⟩).isSome=true)->(∀j,j<(n+1)*sz->w.frozen? ⟨b,j,none⟩=false)->(∀j u,vs[j]? =some u->w.cell? ⟨vb,voff+j,none⟩=some u)->(∀u∈cs,u.oneCell'=true)->(∀u∈vs,u.oneCell'=true)->
  (∃tB kB,w.shape? b=some (tB,kB)/\w.frozen? ⟨b,kB,none⟩=false)->
  Calls P g #[.slice (some ⟨b,0,none⟩) n c,.int .i64 i,.slice (some ⟨vb,voff,none⟩) 1 vc] w fun e w'=>e= .returned (.slice (some ⟨b,0,none⟩) (n+1) c)/\w'=(w.drew.setCells b ((i+1)*sz) (cs.drop (i*sz))).setCells b (i*sz) vs
 room:∀(b n c vb voff vc:Nat)(vs:List Value)(w:World),n+1<=c->n<=1000000->vs.length=sz->(∀j,j<sz->(w.cell? ⟨b,n*sz+j,none⟩).isSome=true)->(∀j,j<sz->w.frozen? ⟨b,n*sz+j,none⟩=false)->(∀j u,vs[j]? =some u->w.cell? ⟨vb,voff+j,none⟩=some u)->(∀u∈vs,u.oneCell'=true)->
  Calls P g #[.slice (some ⟨b,0,none⟩) n c,.int .i64 n,.slice (some ⟨vb,voff,none⟩) 1 vc] w fun e w'=>e= .returned (.slice (some ⟨b,0,none⟩) (n+1) c)/\w'=w.setCells b (n*sz) vs
 grow:∀(b n c i vb voff vc:Nat)(cs vs:List Value)(w:World),i<n->n<=c->c<n+1->n<=1000000->cs.length=n*sz->vs.length=sz->(∀j u,cs[j]? =some u->w.cell? ⟨b,j,none⟩=some u)->
  (∀j u,vs[j]? =some u->w.cell? ⟨vb,voff+j,none⟩=some u)->(∀u∈cs,u.oneCell'=true)->(∀u∈vs,u.oneCell'=true)->
  Calls P g #[.slice (some ⟨b,0,none⟩) n c,.int .i64 i,.slice (some ⟨vb,voff,none⟩) 1 vc] w fun e w'=>
   ∃(G:Nat)(R:Array Value),n+1<=G/\R.size=G*sz/\e= .returned (.slice (some ⟨w.heap.size,0,none⟩) (n+1) G)/\
    w'=(((w.alloc (.cells R el (0,0))).drew.setCells w.heap.size (i*sz) vs).drew).setCells w.heap.size ((i+1)*sz) (cs.drop (i*sz))/\∀k,k<i*sz->R.getD k undef=cs.getD k undef
 endg:∀(base:Option Addr)(n c vb voff vc:Nat)(cs vs:List Value)(w:World),n<=c->c<n+1->n<=1000000->cs.length=n*sz->vs.length=sz->(base=none->n=0)->
  (∀a,base=some a->∀j u,cs[j]? =some u->w.cell? (a.add j)=some u)->(∀j u,vs[j]? =some u->w.cell? ⟨vb,voff+j,none⟩=some u)->(∀u∈vs,u.oneCell'=true)->
  Calls P g #[.slice base n c,.int .i64 n,.slice (some ⟨vb,voff,none⟩) 1 vc] w fun e w'=>
   ∃(G:Nat)(R:Array Value),n+1<=G/\R.size=G*sz/\e= .returned (.slice (some ⟨w.heap.size,0,none⟩) (n+1) G)/\
    w'=w.drew.alloc (.cells R el (0,0))/\∀k,k<(n+1)*sz->R.getD k undef=(cs++vs).getD k undef
def kO(rows:d8)(i:Nat)(s:f8):d8:=rows.take i++s::rows.drop i
theorem zj(rows:d8)(i:Nat)(s:f8)(hi:i<=rows.length):(kO rows i s).length=rows.length+1:=by unfold kO;rw[ae,al,an,aE];omega
theorem wa{F:Nat}(rows:d8)(i:Nat)(s:f8)(J:s.length=F)(h:∀y∈rows,y.length=F):∀y∈kO rows i s,y.length=F:=by
 intro y I;unfold kO at I;rcases am.1 I with E|E
 ·exact h y (bF E)
 ·rcases av.1 E with rfl|E
  ·exact J
  ·exact h y (cH E)
theorem zy{E:Nat}:∀{rows:d8},(∀y∈rows,y.length=E)->rows.flatten.length=rows.length*E
 |[],_=>by simp
 |r::t,h=>by rw[cK,ae,zy fun y F=>h y (aw _ F),h r aA,al,bH,pB,Nat.add_comm]
theorem sn{E:Nat}(hz:0<E):∀{rows:d8},(∀y∈rows,y.length=E)->∀k,k<rows.length*E->rows.flatten.getD k .undef=(rows.getD (k/E) []).getD (k % E) .undef
 |[],_,k,hk=>by simp at hk
 |r::t,h,k,hk=>by
  have J:=h r aA;rw[cK]
  by_cases F:k<E
  ·rw[BL F,ct F,aa,bt (by omega),<-aa];rfl
  ·have L:k/E=(k-E)/E+1:=by
    rw[<-Nat.add_div_right _ hz];congr 1;omega
   have I:k % E=(k-E) % E:=by rw[Nat.mod_eq_sub_mod (by omega)]
   rw[L,I,aa,bD (by omega),J,<-aa,sn hz (fun y O=>h y (aw _ O)) (k-E) (by rw[al,bH,pB]at hk;omega)]
   rfl
theorem IU{E:Nat}(hz:0<E){rows:d8}(h:∀y∈rows,y.length=E){k:Nat}(F:k<rows.length*E){v:Value}:cA x (.arr E rows) k v=cR x.G (rows.flatten.getD k .undef) v:=by rw[sn hz h k F];rfl
theorem KT{E:Nat}(rows:d8)(i:Nat)(s:f8)(hi:i<=rows.length)(L:s.length=E)(h:∀y∈rows,y.length=E)(k:Nat):
 (kO rows i s).flatten.getD k .undef=if k<i*E then rows.flatten.getD k .undef else if k<(i+1)*E then s.getD (k-i*E) .undef else rows.flatten.getD (k-E) .undef:=by
 have e:(kO rows i s).flatten=(rows.take i).flatten++(s++(rows.drop i).flatten):=by unfold kO;rw[cg,cK]
 have Q:rows.flatten=(rows.take i).flatten++(rows.drop i).flatten:=by rw[<-cg,cT]
 have I:(rows.take i).flatten.length=i*E:=by rw[zy fun y O=>h y (bF O),an,fP hi]
 have W:(i+1)*E=i*E+E:=by rw[bH,pB]
 rw[e,Q,aa]
 by_cases J:k<i*E
 ·rw[if_pos J,bt (by omega),aa,bt (by omega)]
 ·rw[if_neg J,bD (by omega),I]
  by_cases F:k<(i+1)*E
  ·rw[if_pos F,bt (by omega),<-aa]
  ·rw[if_neg F,bD (by omega),aa,bD (by omega),I,L]
   congr 2;omega
theorem yU{y:Nat}(hz:0<y){s:f8}{t:Tok}{u:Value}(h:Rep x (.lst y [s] t) u):∃(I E vc:Nat)(vs:LAb),u= .slice (some ⟨I,E,none⟩) 1 vc/\s.length=y/\vs.length=y/\(∀j,j<y->x.G I (E+j)=some (vs.getD j undef))/\∀j,j<y->cR x.G (s.getD j .undef) (vs.getD j undef):=by
 cases h with
 |dat _ _ h _=>
  cases h with
  |lst _ _ _ b off cap n val hn W L J h=>
   have O:n=1:=hn;subst O;have Q:s.length=y:=L 0 (by omega);have e:∀j,j<y->((bC y).map (val 0)).getD j undef=val 0 j:=fun j F=>by simp[aa,F]
   refine⟨b,off,cap,(bC y).map (val 0),rfl,Q,by simp,fun j F=> ?_,fun j F=> ?_⟩
   ·have:=J 0 j (by omega) F
    rw[e j F];simpa using this
   ·have:=h 0 j (by omega) F
    rw[e j F];simpa using this
theorem qO{E:Nat}(hz:0<E){rows:d8}{i n:Nat}{s:f8}{vs:LAb}(F:∀y∈rows,y.length=E)(hn:rows.length=n)(hi:i<=n)(Z:s.length=E)(hv:∀j,j<E->cR x.G (s.getD j .undef) (vs.getD j undef)){c0 c2:LAc}(J:∀k,k<n*E->cR x.G (rows.flatten.getD k .undef) (c0.getD k undef))
 (h:∀k,k<(n+1)*E->c2.getD k undef=if k<i*E then c0.getD k undef else if k<(i+1)*E then vs.getD (k-i*E) undef else c0.getD (k-E) undef) (k:Nat) (W:k<(aH.arr E (kO rows i s)).size):cA x (.arr E (kO rows i s)) k (c2.getD k undef):=by
 have Q:=zj rows i s (by omega)
 have I:k<(n+1)*E:=by simp only[aH.size,Q,hn]at W;exact W
 have m1:(i+1)*E=i*E+E:=by rw[bH,pB]
 have m2:(n+1)*E=n*E+E:=by rw[bH,pB]
 have m3:i*E<=n*E:=bo _ hi;rw[IU hz (wa rows i s Z F) (by rw[Q,hn];exact I),KT rows i s (by omega) Z F,h k I]
 by_cases O:k<i*E
 ·rw[if_pos O,if_pos O];exact J k (by omega)
 ·rw[if_neg O,if_neg O]
  by_cases L:k<(i+1)*E
  ·rw[if_pos L,if_pos L];exact hv _ (by omega)
  ·rw[if_neg L,if_neg L];exact J (k-E) (by omega)
theorem uy{g:Nat}{el:TypeId}{E:Nat}(hz:0<E)(e7:E<=1000)(hI:xi9 P g el E){rows:d8}{i n:Nat}{s:f8}{t:Tok}(hn:rows.length=n)(hi:i<=n)(a8:n<=1000000):
 fZ P g [.psl 0 E 0 n none,.int .i64 i,.lst E [s] t] [.arr E rows] 0 (· =⟨.psl 100 E 0 (n+1) none,[(100,.arr E (kO rows i s))],[]⟩):=by
 refine⟨hI.cb,fun C x w vs hw hG hm hl h8 hH hr=> ?_⟩;obtain⟨u0,u1,u2,rfl,r0,r1,r2⟩:=xbt hr;obtain⟨c,g1,L,rfl,b1,g8⟩:=r0.psl_invK;rw[r1.int_inv];obtain⟨vb,W,vc,vs,rfl,d4,d3,g6,e6⟩:=yU hz r2;have J:∀y∈rows,y.length=E:=gn.1 (h8 _ (bq.2 rfl));have d6:(0,aH.arr E rows)∈idx [.arr E rows]:=by simp[idx]
 obtain⟨⟨ca,e,fl,fh,hO,⟨g2,g4,h4⟩,b6⟩,f5,g9⟩:=hH.obs _ d6;simp only at hO g4 f5 g9 b6;have m1:(i+1)*E=i*E+E:=by rw[bH,pB]
 have m2:(n+1)*E=n*E+E:=by rw[bH,pB]
 have m3:i*E<=n*E:=bo _ hi
 have hv:∀j u,vs[j]? =some u->w.cell? ⟨vb,W+j,none⟩=some u:=fun j u Z=>by
  have h5:j<E:=by rw[<-d3];exact(pN.1 Z).1
  have F:=hH.per _ _ _ (g6 j h5);rw[aa,Z,aM]at F;exact F
 have i3:vb≠(x.bk 0).1:=by rintro rfl;have:=g6 0 hz;rw[g9]at this;cases this
 have a7:∀u∈vs,u.oneCell'=true:=fun u hu=>by obtain⟨j,Z,rfl⟩:=bg hu;have F:=(e6 j (by omega)).oneCell;rw[aa,ac Z,aM]at F;exact F
 have j1:n*E<=ca.size:=by simp only[aH.size,hn]at g2;exact g2
 have f1:∀k,k<n*E->cR x.G (rows.flatten.getD k .undef) (ca.getD k undef):=fun k hk=>by have:=b6 k (by simp only[aH.size,hn];exact hk);rw[IU hz J (by rw[hn];exact hk)]at this;exact this
 obtain⟨cs,f6⟩:∃cs:LAb,cs=(bC (n*E)).map fun k=>ca.getD k undef:=⟨_,rfl⟩
 have a6:cs.length=n*E:=by rw[f6];simp
 have b3:∀k,k<n*E->cs.getD k undef=ca.getD k undef:=fun k hk=>by rw[f6,aa];simp[hk]
 have O:∀j u,cs[j]? =some u->w.cell? ⟨(x.bk 0).1,j,none⟩=some u:=fun j u Z=>by
  have i4:j<n*E:=by rw[<-a6];exact(pN.1 Z).1
  rw[hO.cell,cB (by omega)];have F:=b3 j i4;rw[aa,Z,aS,cB (by omega)]at F;simp only[aM]at F;rw[F]
 have c5:∀u∈cs,u.oneCell'=true:=fun u hu=>by obtain⟨j,Z,rfl⟩:=bg hu;have F:=b3 j (by omega);rw[aa,ac Z,aM]at F;rw[F];exact(f1 j (by omega)).oneCell
 have c3:(aH.arr E (kO rows i s)).size=(n+1)*E:=by simp only[aH.size,zj rows i s (by omega),hn]
 have g7:∀(K:Nat)(b:Nat) i,i<([aH.arr E rows]:List aH).length->(x.newO 100 b K).bk i=x.bk i:=fun K b i hi=>Sit.newO_ne _ _ _ _ (by simp at hi;omega)
 have d5:n+1<=c->(n+1)*E<=ca.size:=fun I=>by
  have h3:(n+1)*E<=c*E:=bo _ I;rcases g8 with h|h
  ·omega
  ·omega
 have b4:∀(w1:World),n+1<=c->(∃c2,eQ w1 (x.bk 0).1 c2 e fl fh/\c2.size=ca.size/\∀k,k<(n+1)*E->c2.getD k undef=if k<i*E then ca.getD k undef else if k<(i+1)*E then vs.getD (k-i*E) undef else ca.getD (k-E) undef)->
  w1.os=w.os->w1.tape=w.tape->w1.output=w.output->w1.heap.size=w.heap.size->(∀b,b≠(x.bk 0).1->w1.heap[b]? =w.heap[b]?)->
  ∃v' x' q,(Ending.returned (.slice (some ⟨(x.bk 0).1,L,none⟩) (n+1) c):Ending)= .returned v'/\q=(⟨.psl 100 E 0 (n+1) none,[(100,.arr E (kO rows i s))],[]⟩:dV)/\Rep x' q.r v'/\dl C x' q.os q.tk w1/\(∀p∈q.os,p.2.wf=true)/\∀i,i<([aH.arr E rows]:List aH).length->x'.bk i=x.bk i:=by
  intro w1 f3 ⟨c2,Q,d2,e8⟩ e1 e2 e3 e4 e5;have d7:=d5 f3;have i1:=hH.block d6 e1 e2 e3 e4 e5 (obj':= .arr E (kO rows i s)) ⟨c2,e,fl,fh,Q,⟨by rw[c3,d2];exact d7,by rw[d2];exact g4,fun h=>by rw[d2];exact h4 rfl⟩,qO hz J hn hi d4 e6 f1 e8⟩;have h6:=i1.move (o:=0) (d:=100) (obj:= .arr E (kO rows i s)) (by omega) (by simp[idx,setO]) (fun cs e=>by cases e);have a2:(x.newO 100 (x.bk 0).1 (x.bk 0).2).bk 100=x.bk 0:=i6 _ _ _;refine⟨_,x.newO 100 (x.bk 0).1 (x.bk 0).2,_,rfl,rfl, ?_, ?_, ?_,g7 _ _⟩
  ·have:=Rep.psl (x:=x.newO 100 (x.bk 0).1 (x.bk 0).2) 100 E 0 (n+1) none L c b1 (by omega) (fun _ e=>by cases e) (fun _=>by rw[a2];exact g8)
   rw[a2]at this;exact this
  ·simpa[idx,setO,bW,tks,lw,cP]using h6
  ·intro p hp
   rw[bq.1 hp];exact gn.2 (wa rows i s d4 J)
 have e0:∀(w1:World)(G:Nat)(c2:LAc),n+1<=G->c2.size=G*E->eQ w1 w.heap.size c2 el 0 0->(∀k,k<(n+1)*E->c2.getD k undef=if k<i*E then ca.getD k undef else if k<(i+1)*E then vs.getD (k-i*E) undef else ca.getD (k-E) undef)->Below w.heap.size w w1->
  ∃v' x' q,(Ending.returned (.slice (some ⟨w.heap.size,0,none⟩) (n+1) G):Ending)= .returned v'/\q=(⟨.psl 100 E 0 (n+1) none,[(100,.arr E (kO rows i s))],[]⟩:dV)/\Rep x' q.r v'/\dl C x' q.os q.tk w1/\(∀p∈q.os,p.2.wf=true)/\∀i,i<([aH.arr E rows]:List aH).length->x'.bk i=x.bk i:=by
  intro w1 G c2 a1 b5 Q e8 hb;have g3:(n+1)*E<=G*E:=bo _ a1;have a2:(x.newO 100 w.heap.size (G*E)).bk 100=(w.heap.size,G*E):=i6 _ _ _;refine⟨_,x.newO 100 w.heap.size (G*E),_,rfl,rfl, ?_, ?_, ?_,g7 _ _⟩
  ·have:=Rep.psl (x:=x.newO 100 w.heap.size (G*E)) 100 E 0 (n+1) none 0 G (.inr (by omega)) a1 (fun _ e=>by cases e) (fun _=> .inr (by rw[a2];simp))
   rw[a2]at this;exact this
  ·exact hH.one hb ⟨c2,el,0,0,by rw[a2];exact Q,⟨by rw[c3,b5];exact g3,by rw[a2,b5];exact aK _,fun _ h=>by omega⟩,fun k hk=>qO (x:=x) hz J hn hi d4 e6 f1 e8 k hk⟩
  ·intro p hp
   rw[bq.1 hp];exact gn.2 (wa rows i s d4 J)
 have j0:(cs.drop (i*E)).length=n*E-i*E:=by rw[aE,a6]
 by_cases I:n+1<=c
 ·have d7:=d5 I
  obtain rfl:L=0:=by rcases b1 with h|h<;>omega
  have d1:∀j,j<(n+1)*E->(w.cell? ⟨(x.bk 0).1,j,none⟩).isSome=true:=fun j Z=>by rw[hO.cell,cB (by omega)];rfl
  have b7:∀j,j<(n+1)*E->w.frozen? ⟨(x.bk 0).1,j,none⟩=false:=fun j Z=>hO.free (by omega)
  rcases bQ i n with f2|hge
  ·refine(hI.shift (x.bk 0).1 n c i vb W vc cs vs w f2 I a8 i3 a6 d3 O d1 b7 hv c5 a7 ⟨e,ca.size,Hr hO,KH hO (h4 rfl)⟩).mono ?_
   rintro en w1 ⟨rfl,rfl⟩;have i2:eQ w.drew (x.bk 0).1 ca e fl fh:=hO.of_heap rfl;obtain⟨c1,f0,h7,e9⟩:=dv (cs.drop (i*E)) w.drew ((i+1)*E) ca i2 (by omega);obtain⟨c2,Q,e7,c7⟩:=dv vs (cj w.drew (x.bk 0).1 ((i+1)*E) (cs.drop (i*E))) (i*E) c1 f0 (by omega);obtain⟨p1,p2,p3,p4,p5⟩:=dI (x.bk 0).1 (cs.drop (i*E)) w.drew ((i+1)*E);obtain⟨s1,s2,s3,s4,s5⟩:=dI (x.bk 0).1 vs (cj w.drew (x.bk 0).1 ((i+1)*E) (cs.drop (i*E))) (i*E);rw[fv,fv];refine b4 _ I ⟨c2,Q,by omega,fun k hk=> ?_⟩ (s1.trans p1) (s2.trans p2) (s3.trans p3) (s4.trans p4) (fun b hb=>(s5 b hb).trans (p5 b hb));rw[c7 k,e9 k]
   by_cases F:k<i*E
   ·rw[if_neg (by omega),if_neg (by omega),if_pos F]
   ·rw[if_neg F]
    by_cases h2:k<(i+1)*E
    ·rw[if_pos (by omega),if_pos h2]
    ·rw[if_neg (by omega),if_pos (by omega),if_neg h2,aa,bB,<-aa,show i*E+(k-(i+1)*E)=k-E by omega]
     exact b3 (k-E) (by omega)
  ·obtain rfl:i=n:=by omega
   refine(hI.room (x.bk 0).1 i c vb W vc vs w I a8 d3 (fun j Z=>d1 _ (by omega)) (fun j Z=>b7 _ (by omega)) hv a7).mono ?_;rintro en w1 ⟨rfl,rfl⟩;obtain⟨c2,Q,e7,c7⟩:=dv vs w (i*E) ca hO (by omega);obtain⟨s1,s2,s3,s4,s5⟩:=dI (x.bk 0).1 vs w (i*E);rw[fv];refine b4 _ I ⟨c2,Q,by omega,fun k hk=> ?_⟩ s1 s2 s3 s4 s5;rw[c7 k]
   by_cases F:k<i*E
   ·rw[if_neg (by omega),if_pos F]
   ·rw[if_pos (by omega),if_neg F,if_pos (by omega)]
 ·have j2:c=n:=by omega
  rcases bQ i n with f2|hge
  ·obtain rfl:L=0:=by rcases b1 with h|h<;>omega
   refine(hI.grow (x.bk 0).1 n c i vb W vc cs vs w f2 g1 (by omega) a8 a6 d3 O hv c5 a7).mono ?_;rintro en w1 ⟨G,R,a1,b5,rfl,rfl,hR⟩;have g3:(n+1)*E<=G*E:=bo _ a1;have i0:eQ (w.alloc (.cells R el (0,0))).drew w.heap.size R el 0 0:=⟨heap_alloc_new,fun i _ h=>by omega⟩;obtain⟨c1,f0,h7,e9⟩:=dv vs (w.alloc (.cells R el (0,0))).drew (i*E) R i0 (by omega);have g5:eQ (cj (w.alloc (.cells R el (0,0))).drew w.heap.size (i*E) vs).drew w.heap.size c1 el 0 0:=f0.of_heap rfl;obtain⟨c2,Q,e7,c7⟩:=dv (cs.drop (i*E)) (cj (w.alloc (.cells R el (0,0))).drew w.heap.size (i*E) vs).drew ((i+1)*E) c1 g5 (by omega);obtain⟨p1,p2,p3,p4,p5⟩:=dI w.heap.size vs (w.alloc (.cells R el (0,0))).drew (i*E);obtain⟨s1,s2,s3,s4,s5⟩:=dI w.heap.size (cs.drop (i*E)) (cj (w.alloc (.cells R el (0,0))).drew w.heap.size (i*E) vs).drew ((i+1)*E);rw[fv,fv];refine e0 _ G c2 a1 (by omega) Q (fun k hk=> ?_) ⟨s1.trans p1,s2.trans p2,s3.trans p3, ?_,fun b hb=> ?_⟩
   ·rw[c7 k,e9 k]
    by_cases F:k<i*E
    ·rw[if_neg (by omega),if_neg (by omega),if_pos F,hR k F,b3 k (by omega)]
    ·rw[if_neg F]
     by_cases h2:k<(i+1)*E
     ·rw[if_neg (by omega),if_pos (by omega),if_pos h2]
     ·rw[if_pos (by omega),if_neg h2,aa,bB,<-aa,show i*E+(k-(i+1)*E)=k-E by omega]
      exact b3 (k-E) (by omega)
   ·rw[s4]
    show w.heap.size<=(cj (w.alloc (.cells R el (0,0))).drew w.heap.size (i*E) vs).heap.size;rw[p4];show w.heap.size<=(w.alloc (.cells R el (0,0))).heap.size;rw[World.size_alloc];omega
   ·rw[s5 b (by omega)]
    show(cj (w.alloc (.cells R el (0,0))).drew w.heap.size (i*E) vs).heap[b]? =_;rw[p5 b (by omega)];exact dL hb
  ·obtain rfl:i=n:=by omega
   refine(hI.endg (some ⟨(x.bk 0).1,L,none⟩) i c vb W vc cs vs w g1 (by omega) a8 a6 d3 (fun h=>by cases h) (fun a ha j u Z=> ?_) hv a7).mono ?_
   ·cases ha
    have h9:j<i*E:=by rw[<-a6];exact(pN.1 Z).1
    have h0:L=0:=by
     rcases b1 with h|h
     ·have:i=0:=by omega
      rw[this,iq]at h9;omega
     ·omega
    rw[dB,h0,bY];exact O j u Z
   rintro en w1 ⟨G,R,a1,b5,rfl,rfl,hR⟩;refine e0 _ G R a1 b5 ⟨heap_alloc_new,fun i _ h=>by omega⟩ (fun k hk=> ?_) ((Below.refl _ w).drew.alloc (aK _) _);rw[hR k hk]
   by_cases F:k<i*E
   ·rw[if_pos F,aa,bt (by omega),<-aa,b3 k F]
   ·rw[if_neg F,if_pos (by omega),aa,bD (by omega),a6,<-aa]
theorem qI{g:Nat}{el:TypeId}{E:Nat}(hz:0<E)(hI:xi9 P g el E){s:f8}{t:Tok}:
 fZ P g [.lst E [] .clip,.int .i64 0,.lst E [s] t] [] 0 (· =⟨.psl 100 E 0 1 none,[(100,.arr E [s])],[]⟩):=by
 refine⟨hI.cb,fun C x w vs hw hG hm hl b3 hH hr=> ?_⟩;obtain⟨u0,u1,u2,rfl,r0,r1,r2⟩:=xbt hr;obtain⟨base,cap,rfl,b1,hD,a2⟩:=r0.lst_inv;obtain⟨a',n',he⟩:=a2;simp only[aB,Value.slice.injEq]at he;obtain⟨_,rfl,rfl⟩:=he;rw[r1.int_inv];obtain⟨vb,I,vc,vs,rfl,a1,W,a8,O⟩:=yU hz r2
 have hv:∀j u,vs[j]? =some u->w.cell? ⟨vb,I+j,none⟩=some u:=fun j u J=>by
  have a6:j<E:=by rw[<-W];exact(pN.1 J).1
  have Z:=hH.per _ _ _ (a8 j a6);rw[aa,J,aM]at Z;exact Z
 have L:∀u∈vs,u.oneCell'=true:=fun u hu=>by obtain⟨j,J,rfl⟩:=bg hu;have Z:=(O j (by omega)).oneCell;rw[aa,ac J,aM]at Z;exact Z
 refine(hI.endg base 0 0 vb I vc [] vs w (aK _) (by omega) (by omega) (by simp) W (fun _=>rfl) (fun a _ j u J=>by simp at J) hv L).mono ?_;rintro en w1 ⟨G,R,b4,a7,rfl,rfl,hR⟩;have F:(x.newO 100 w.heap.size (G*E)).bk 100=(w.heap.size,G*E):=i6 _ _ _;have b5:1*E<=G*E:=bo _ (by omega);have Q:∀y∈ [s],y.length=E:=fun y hy=>by rw[bq.1 hy];exact a1
 refine⟨_,x.newO 100 w.heap.size (G*E),_,rfl,rfl, ?_, ?_, ?_,fun i hi=>by simp at hi⟩
 ·have:=Rep.psl (x:=x.newO 100 w.heap.size (G*E)) 100 E 0 1 none 0 G (.inr (by omega)) (by omega) (fun _ e=>by cases e) (fun _=> .inr (by rw[F];simp))
  rw[F]at this;exact this
 ·refine hH.one ((Below.refl _ w).drew.alloc (aK _) _) ⟨R,el,0,0,by rw[F];exact⟨heap_alloc_new,fun i _ h=>by omega⟩,⟨by simp only[aH.size,aG];omega,by rw[F,a7];exact aK _,fun _ h=>by omega⟩,fun k hk=> ?_⟩
  simp only[aH.size,aG,pB]at hk;rw[IU hz Q (by rw[aG];omega),hR k (by omega)];have e:([s]:d8).flatten=s:=by simp
  rw[e,aF];exact O k hk
 ·intro p hp
  rw[bq.1 hp];exact gn.2 Q
end Go.Sy
namespace Go.Sy
open Go.RowKit Go.ChangeShapes Go.WideShapes Go.Shelf Go.Lib Go.Proofs
variable {P : Program}
theorem ee(w:World)(O sT ty elem:TypeId)(b o y F:Nat)(a:Addr)(E I:Nat)(cs:LAb)(k q:Nat)
 (hu:P.underlying O=some (.slice elem)) (Q:(P.info? elem).map (·.size)=some k) (W:Nat.min E y=q) (hn:cs.length=q*k)
 (J:∀j v,cs[j]? =some v->w.cell? (a.add j)=some v) (hc:∀j,j<cs.length->(w.cell? ⟨b,o+j,none⟩).isSome=true) (Z:∀j,j<cs.length->w.frozen? ⟨b,o+j,none⟩=false) (h1:∀v∈cs,v.oneCell'=true):
 (Builtin.copy_ #[O,sT] ty #[.slice (some ⟨b,o,none⟩) y F,.slice (some a) E I]).run P w= .ok (goInt q) (w.setCells b o cs):=by
 have hl:=run_loadCells_list (P:=P) w a cs J;have L:=run_storeCells_cells (P:=P) b o cs 0 w (by simpa using hc) (by simpa using Z) h1;cases hq:P.info? elem with
 |none=>simp[hq]at Q
 |some i=>
  have hi:i.size=k:=by simpa[hq]using Q
  simp[Builtin.copy_,run_underlying hu,Builtin.lenOf,Builtin.firstCells,sizeOf,typeInfo,hq,hi,W,<-hn,hl,L]
end Go.Sy
