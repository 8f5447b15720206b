/- A sound engine for Go code. No condition. -/
import Derived.Test.YtbfnljmmepcbfaaGreatDoorEbPB
import Derived.JoinedCond
import Derived.OpenShut
import Derived.SliceStrings
import Derived.Lib.BytesEntry
import Derived.Maps.OwnSet
import Derived.Shelf.Spec.SlicesInsertGrow
open Array renaming getD -> lj, getD_eq_getD_getElem? -> aS, getElem?_eq_getElem -> cy, getElem?_eq_some_iff -> di, getElem?_toList -> cY, length_toList -> aU, replicate -> eU
open Bool renaming and_eq_true -> aC, false_eq_true -> aO, not_eq_true' -> cT, or_eq_true -> fF
open List renaming Nodup -> zZ, Pairwise -> fP, Sublist -> o7, all_eq_true -> bf, append_nil -> bx, cons_append -> bi, contains_eq_mem -> fE, filter_cons -> fe, filter_eq_self -> jh, flatten_append -> b9, flatten_cons -> cD, getD_cons_succ -> jg, getD_eq_getElem?_getD -> aa, getElem?_append_left -> bo, getElem?_append_right -> bA, getElem?_drop -> bz, getElem?_eq_getElem -> ac, getElem?_eq_none -> ia, getElem?_eq_some_iff -> pL, getElem?_map -> aT, getElem?_range -> cz, getElem?_take -> bL, getElem_mem -> bv, getElem_of_mem -> bp, length_append -> ae, length_cons -> al, length_drop -> aG, length_eq_zero_iff -> cu, length_map -> aY, length_nil -> aA, length_singleton -> aF, length_take -> aq, map_append -> cf, map_cons -> aI, mem_append -> am, mem_cons -> av, mem_cons_of_mem -> aw, mem_cons_self -> aB, mem_map -> aZ, mem_map_of_mem -> jf, mem_of_mem_drop -> cB, mem_of_mem_take -> bC, mem_range -> eV, mem_singleton -> bj, nil_append -> aE, nodup_cons -> eB, not_mem_nil -> cZ, pairwise_append -> dX, pairwise_cons -> bV, pairwise_iff_getElem -> iS, pairwise_map -> ii, range -> bM, replicate -> aL, take_append_drop -> dH
open Nat renaming add_mul -> bE, div_eq_of_lt -> Bz, le_refl -> aJ, le_trans -> mC, lt_or_ge -> bK, min_eq_left -> fR, mod_eq_of_lt -> cH, mul_le_mul_right -> bh, one_mul -> pz, zero_add -> bT, zero_mul -> ip
open Option renaming bind_some -> dl, getD_some -> aM, ite_none_right_eq_some -> aK, map_eq_some_iff -> ah, map_some -> bB, some -> ax
open Prod renaming fst -> cS, mk -> bD
open Go.Result renaming andThen_ok -> an
open Go.Sem renaming run_bind -> aD, run_pure -> aN
open UInt8 renaming ofNat -> io
set_option linter.unusedVariables false
set_option linter.unusedSimpArgs false
set_option linter.unnecessarySimpa false
set_option linter.unusedSectionVars false
namespace Go.Sy
variable [br]
variable {P : Program} {C : Ctx} {x : Sit} {a : Act} {w : World} {N : Nat} {c c' : CSt} {s : St} {call : dy} {sg : Nat -> Sig}
abbrev TM:=List (Nat×SV)
structure Uni(d:Option Nat)(F:TM->TM):Prop where
 get:∀tm tm' n,ff tm n=ff tm' n->ff (F tm) n=ff (F tm') n
 dom:∀tm p,p∈F tm->(∃q∈tm,q.1=p.1)\/d=some p.1
theorem Uni.id{d:LAb}:Uni d (fun t=>t):=⟨fun _ _ _ h=>h,fun _ p y=> .inl ⟨p,y,rfl⟩⟩
theorem Uni.comp{d:LAb}{F G:TM->TM}(hF:Uni d F)(E:Uni d G):Uni d (fun t=>G (F t)):=
 ⟨fun _ _ _ h=>E.get _ _ _ (hF.get _ _ _ h),fun tm p O=>by
  rcases E.dom _ _ O with⟨q,L,e⟩|h
  ·rcases hF.dom _ _ L with⟨I,y,J⟩|h
   ·exact .inl ⟨I,y,J.trans e⟩
   ·exact .inr (by rw[h,e])
  ·exact .inr h⟩
theorem Uni.purge{d:LAb}(lo hi:Nat):Uni d (dN lo hi):=
 ⟨fun tm tm' n h=>by rw[gW,gW,h],fun tm p E=>by obtain⟨q,y,e⟩:=kx E;exact .inl ⟨q,y,e.symm⟩⟩
theorem Uni.pub{d:LAb}(o:Nat)(obj:aH):Uni d (mU o obj):=
 ⟨fun tm tm' n h=>by rw[lH,lH,h],fun tm p E=>by obtain⟨q,y,e⟩:=rK E;exact .inl ⟨q,y,e.symm⟩⟩
theorem Uni.put(k:Nat)(v:SV):Uni (some k) (fun t=>kq t k v):=
 ⟨fun tm tm' n h=>by
  simp only[nL];rw[h],fun tm p y=>by
  rcases nI y with e|e
  ·exact .inr (by rw[e])
  ·exact .inl ⟨p,e,rfl⟩⟩
theorem Uni.weak{d:LAb}{F:TM->TM}(h:Uni none F):Uni d F:=⟨h.get,fun tm p y=>by
 rcases h.dom tm p y with h|h
 ·exact .inl h
 ·cases h⟩
theorem Uni.cput(d:LAb)(v:SV):∃F,Uni d F/\∀tm ob tk,CSt.put ⟨tm,ob,tk⟩ d v=⟨F tm,ob,tk⟩:=by
 cases d with
 |none=>exact⟨fun t=>t,Uni.id,fun _ _ _=>rfl⟩
 |some k=>exact⟨fun t=>kq t k v,Uni.put k v,fun _ _ _=>rfl⟩
section
variable {tm tm' : TM} {ob : List (Nat × aH)} {tk : List Nat}
theorem nD:∀(n:Nat)(h l:LAa),eE ⟨tm',ob,tk⟩ n h l=eE ⟨tm,ob,tk⟩ n h l
 |0,_,_=>rfl
 |_+1,_,[]=>rfl
 |n+1,h,o::t=>by
  simp only[eE];show(if _ then _ else match jy ob o with|some y=>_|none=>_)=(if _ then _ else match jy ob o with|some y=>_|none=>_);split
  ·exact nD n _ _
  ·split
   ·exact nD n _ _
   ·exact nD n _ _
theorem yV:∀l:LAa,ik ⟨tm',ob,tk⟩ l=ik ⟨tm,ob,tk⟩ l
 |[]=>rfl
 |o::r=>by simp only[ik];rw[yV r];rfl
theorem oQ(o:Nat)(vs:t8):∃F ob' tk' h,Uni none F/\∀tm,CSt.publish ⟨tm,ob,tk⟩ o vs=(⟨F tm,ob',tk'⟩,h):=by
 unfold CSt.publish CSt.look;simp only;split
 ·exact⟨_,_,_,_,Uni.pub _ _,fun _=>rfl⟩
 ·exact⟨_,_,_,_,Uni.pub _ _,fun _=>rfl⟩
 ·exact⟨_,_,_,_,Uni.id,fun _=>rfl⟩
theorem qh:∀(l:LAa)(ob:List (Nat×aH))(tk:LAa)(vs:t8),∃F ob' tk' y,Uni none F/\∀tm,fB ⟨tm,ob,tk⟩ vs l=(⟨F tm,ob',tk'⟩,y)
 |[],ob,tk,vs=>⟨_,_,_,_,Uni.id,fun _=>rfl⟩
 |o::r,ob,tk,vs=>by obtain⟨F,E,O,h,h1,W⟩:=oQ (ob:=ob) (tk:=tk) o vs;obtain⟨G,I,J,L,Q,Z⟩:=qh r E O h;refine⟨fun t=>G (F t),I,J,L,h1.comp Q,fun tm=> ?_⟩;simp only[fB];rw[W];exact Z _
theorem rl(d:LAb)(m mt:LAa)(q:dV):∃F ob' tk',Uni d F/\∀tm,kZ ⟨tm,ob,tk⟩ d m mt q=⟨F tm,ob',tk'⟩:=by unfold kZ;dsimp only;obtain⟨F,h,y⟩:=Uni.cput d (q.r.ren (jk (d.getD 0) m) (kK (d.getD 0)));exact⟨_,_,_,(Uni.purge ((d.getD 0+1)*1000) ((d.getD 0+2)*1000)).comp h,fun tm=>y _ _ _⟩
theorem JE{sg:Sig}{d:LAb}{g:Nat}{a_:t8}:∃F,Uni d F/\∃q:Option (List (Nat×aH)×LAa),∀tm,kQ call sg d g (⟨tm,ob,tk⟩,a_)=q.map fun q=>⟨F tm,q.1,q.2⟩:=by
 simp only[kQ];generalize ld tk sg.own 50 0 a_=z;obtain⟨h,y⟩:=z;simp only[pf];have L:∀tm,eE ⟨tm,ob,tk⟩ 60 [] (SV.idsL h)=eE ⟨[],ob,tk⟩ 60 [] (SV.idsL h):=fun tm=>nD _ _ _
 have Q:∀tm l,ik ⟨tm,ob,tk⟩ l=ik ⟨[],ob,tk⟩ l:=fun tm l=>yV l
 simp only[L,Q];generalize eE ⟨[],ob,tk⟩ 60 [] (SV.idsL h)=m;cases ho:ik ⟨[],ob,tk⟩ m with
 |none=>exact⟨_,Uni.id,none,fun _=>rfl⟩
 |some I=>
  simp only[mF];generalize eW tk (50+y.length) I=z2;obtain⟨os,E⟩:=z2;simp only[pe];generalize (pP (SV.idsL h++gp os) m&&eh m&&eh (cI (y++E))&&decide (m.length<=40)&&m.all fun o=> !inR (d.getD 0) o)=b;cases b with
  |false=>exact⟨_,Uni.id,none,fun _=>rfl⟩
  |true=>
   simp only[pd];cases hq:call g (SV.renL (iv m) _root_.id h) (fb (iv m) _root_.id os) (y.length+E.length)with
   |none=>exact⟨_,Uni.id,none,fun _=>rfl⟩
   |some q=>
    simp only[pU];generalize q.small=b;cases b with
    |false=>exact⟨_,Uni.id,none,fun _=>rfl⟩
    |true=>obtain⟨F,ob',tk',O,J⟩:=rl (ob:=ob) (tk:=tk) d m (cI (y++E)) q;exact⟨F,O,some (ob',tk'),fun tm=>by simp only[Aq,bB,J]⟩
theorem uM{sg:Sig}{d:LAb}{g:Nat}{a_:t8}:∃F,Uni d F/\∃q:Option (List (Nat×aH)×LAa),∀tm,i9 call sg ⟨tm,ob,tk⟩ d g a_=q.map fun q=>⟨F tm,q.1,q.2⟩:=by
 unfold i9;generalize ((SV.idsL a_).isEmpty&&sg.own.isEmpty)=b;cases b with
 |true=>
  simp only[kY];cases hq:call g (SV.bareL a_) [] 0 with
  |none=>exact⟨_,Uni.id,none,fun _=>rfl⟩
  |some q=>
   simp only[nM];generalize q.bare=b;cases b with
   |true=>simp only[pw];obtain⟨F,y,h⟩:=Uni.cput d q.r;exact⟨F,y,some (ob,tk),fun tm=>by rw[h];rfl⟩
   |false=>
    simp only[pw];generalize q.small=b;cases b with
    |false=>exact⟨_,Uni.id,none,fun _=>rfl⟩
    |true=>obtain⟨F,ob',tk',y,h⟩:=rl (ob:=ob) (tk:=tk) d [] [] q;exact⟨F,y,some (ob',tk'),fun tm=>by simp only[Bd,h];rfl⟩
 |false=>simp only[kY];obtain⟨F,I,J,E,y,h⟩:=qh (jN sg.raw 0 a_) ob tk a_;obtain⟨G,L,q,O⟩:=JE (call:=call) (ob:=I) (tk:=J) (sg:=sg) (d:=d) (g:=g) (a_:=E);exact⟨fun t=>G (F t),y.weak.comp L,q,fun tm=>by rw[h];exact O _⟩
theorem Lm:∀(l:List (Nat×aH))(tm:TM)(ob:List (Nat×aH))(tk:LAa),CSt.wr ⟨tm,ob,tk⟩ l=⟨tm,(CSt.wr ⟨[],ob,tk⟩ l).ob,tk⟩
 |[],_,_,_=>rfl
 |p::r,tm,ob,tk=>by simp only[CSt.wr];exact Lm r tm _ tk
theorem rk(d:LAb)(e:pJ):∃F ob' tk',Uni d F/\∀tm,CSt.app ⟨tm,ob,tk⟩ d e=⟨F tm,ob',tk'⟩:=by
 unfold CSt.app;dsimp only;obtain⟨F,h,y⟩:=Uni.cput d e.val;split
 ·exact⟨_,_,_,(Uni.purge (d.getD 0+100) (d.getD 0+101)).comp h,fun tm=>y _ _ _⟩
 ·exact⟨_,_,_,(Uni.purge (d.getD 0+100) (d.getD 0+101)).comp h,fun tm=>y _ _ _⟩
 ·exact⟨F,(CSt.wr ⟨[],ob,tk⟩ e.wr).ob,tk,h,fun tm=>by rw[Lm];exact y _ _ _⟩
theorem xrN{x:Arg}(h:∀n,x= .t n->ff tm' n=ff tm n):CSt.ev ⟨tm',ob,tk⟩ x=CSt.ev ⟨tm,ob,tk⟩ x:=by
 cases x with
 |t n=>exact h n rfl
 |c v=>rfl
 |f g=>rfl
theorem nt:∀{l:List Arg},(∀x∈l,CSt.ev ⟨tm',ob,tk⟩ x=CSt.ev ⟨tm,ob,tk⟩ x)->evL ⟨tm',ob,tk⟩ l=evL ⟨tm,ob,tk⟩ l
 |[],_=>rfl
 |x::r,h=>by simp only[evL];rw[h x (aB ..),nt fun y E=>h y (aw _ E)]
theorem TT:∀{l:List (Nat×Nat×Arg)},(∀x∈l.map (fun p=>p.2.2),CSt.ev ⟨tm',ob,tk⟩ x=CSt.ev ⟨tm,ob,tk⟩ x)->psC ⟨tm',ob,tk⟩ l=psC ⟨tm,ob,tk⟩ l
 |[],_=>rfl
 |(o,n,x)::r,h=>by simp only[psC];rw[h x (by simp),TT fun y E=>h y (by simp only[aI,av];exact .inr E)]
theorem nZ{x:Option Arg}{d:Int}(h:∀y∈x.toList,CSt.ev ⟨tm',ob,tk⟩ y=CSt.ev ⟨tm,ob,tk⟩ y):lz ⟨tm',ob,tk⟩ x d=lz ⟨tm,ob,tk⟩ x d:=by
 cases x with
 |none=>rfl
 |some y=>simp only[lz];rw[h y (by simp)]
theorem DY{E:Nat}{v:SV}{lo hi h:Option Arg}(I:∀y∈lo.toList,CSt.ev ⟨tm',ob,tk⟩ y=CSt.ev ⟨tm,ob,tk⟩ y)(J:∀y∈hi.toList,CSt.ev ⟨tm',ob,tk⟩ y=CSt.ev ⟨tm,ob,tk⟩ y)(F:∀y∈h.toList,CSt.ev ⟨tm',ob,tk⟩ y=CSt.ev ⟨tm,ob,tk⟩ y):
 pF ⟨tm',ob,tk⟩ E v lo hi h=pF ⟨tm,ob,tk⟩ E v lo hi h:=by
 unfold pF;simp only[nZ I,nZ J,nZ F]
theorem DN{o:SOp}(h:∀y∈o.args,CSt.ev ⟨tm',ob,tk⟩ y=CSt.ev ⟨tm,ob,tk⟩ y):cW ⟨tm',ob,tk⟩ o=cW ⟨tm,ob,tk⟩ o:=by
 cases o with
 |build z ps=>simp only[SOp.args]at h;simp only[cW];rw[TT h]
 |lit F I=>simp only[SOp.args]at h;simp only[cW];rw[nt h]
 |litB I=>simp only[SOp.args]at h;simp only[cW];rw[nt h]
 |mkfn f a b=>simp only[SOp.args,am]at h;simp only[cW];rw[nt fun y E=>h y (.inl E),nt fun y E=>h y (.inr E)]
 |slcS x lo hi=>simp only[SOp.args,av,am]at h;simp only[cW];rw[h x (.inl rfl)];simp only[nZ fun y E=>h y (.inr (.inl E)),nZ fun y E=>h y (.inr (.inr E))]
 |slcL F x lo hi J=>simp only[SOp.args,av,am]at h;simp only[cW];rw[h x (.inl rfl),DY (fun y E=>h y (.inr (.inl (.inl E)))) (fun y E=>h y (.inr (.inl (.inr E)))) (fun y E=>h y (.inr (.inr E)))]
 |slcA len F x lo hi J=>simp only[SOp.args,av,am]at h;simp only[cW];rw[h x (.inl rfl)];simp only[DY (fun y E=>h y (.inr (.inl (.inl E)))) (fun y E=>h y (.inr (.inl (.inr E)))) (fun y E=>h y (.inr (.inr E)))]
 |_=>
  simp only[SOp.args,av,cZ,or_false,forall_eq_or_imp,forall_eq,bj]at h
  first
   |rfl
   |(simp only[cW];rw[h];rfl)
   |(simp only[cW];rw[h.1,h.2];rfl)
   |(simp only[cW,h];done)
   |(simp only[cW,h.1,h.2];done)
theorem GS{n:Nat}{v:t8}{u:SV}:mf ⟨tm',ob,tk⟩ n v u=mf ⟨tm,ob,tk⟩ n v u:=by
 cases u<;>rfl
theorem xap{d:LAb}{o:SOp}(h:∀y∈o.args,CSt.ev ⟨tm',ob,tk⟩ y=CSt.ev ⟨tm,ob,tk⟩ y):eJ ⟨tm',ob,tk⟩ d o=eJ ⟨tm,ob,tk⟩ d o:=by
 have I:=DN h;cases o with
 |new ob=>rfl
 |call f a_=>rfl
 |box x=>simp only[SOp.args,av,cZ,or_false,forall_eq]at h;simp only[eJ];rw[h]
 |mk z b n m=>simp only[SOp.args,av,cZ,or_false,forall_eq_or_imp,forall_eq]at h;simp only[eJ];rw[h.1,h.2]
 |mkB n m=>simp only[SOp.args,av,cZ,or_false,forall_eq_or_imp,forall_eq]at h;simp only[eJ];rw[h.1,h.2]
 |store n a x=>simp only[SOp.args,av,cZ,or_false,forall_eq_or_imp,forall_eq]at h;simp only[eJ];rw[h.1,h.2,GS]
 |app z b x y=>
  simp only[SOp.args,av,cZ,or_false,forall_eq_or_imp,forall_eq]at h;have E:∀v,fm ⟨tm',ob,tk⟩ v=fm ⟨tm,ob,tk⟩ v:=fun v=>by cases v<;>rfl
  have F:∀n v,gC ⟨tm',ob,tk⟩ n v=gC ⟨tm,ob,tk⟩ n v:=fun n v=>by cases v<;>rfl
  have J:∀t:Tok,t.readyC ⟨tm',ob,tk⟩=t.readyC ⟨tm,ob,tk⟩:=fun t=>by cases t<;>rfl
  simp only[eJ];rw[h.1,h.2];simp only[E,F,J]
 |clr z x=>simp only[SOp.args,av,cZ,or_false,forall_eq]at h;simp only[eJ];rw[h];rfl
 |cpy O x y=>
  simp only[SOp.args,av,cZ,or_false,forall_eq_or_imp,forall_eq]at h;have E:∀v,fm ⟨tm',ob,tk⟩ v=fm ⟨tm,ob,tk⟩ v:=fun v=>by cases v<;>rfl
  have F:∀n v,gC ⟨tm',ob,tk⟩ n v=gC ⟨tm,ob,tk⟩ n v:=fun n v=>by cases v<;>rfl
  simp only[eJ];rw[h.1,h.2];simp only[E,F];rfl
 |pick k a b=>simp only[SOp.args,av,cZ,or_false,forall_eq_or_imp,forall_eq]at h;simp only[eJ];rw[h.1,h.2.1,h.2.2]
 |isnil L x=>simp only[SOp.args,av,cZ,or_false,forall_eq]at h;simp only[eJ];rw[h]
 |_=>simp only[eJ];rw[I]
theorem Kf{d:LAb}{z:t8}{b:Nat}{y:Arg}{v:SV}(h:CSt.ev ⟨tm',ob,tk⟩ y=CSt.ev ⟨tm,ob,tk⟩ y)(E:ua ⟨tm,ob,tk⟩ d z b y v=some c'):∃F,Uni d F/\c'.tm=F tm/\ua ⟨tm',ob,tk⟩ d z b y v=some ⟨F tm',c'.ob,c'.tk⟩:=by
 have e1:∀v,fm ⟨tm',ob,tk⟩ v=fm ⟨tm,ob,tk⟩ v:=fun v=>by cases v<;>rfl
 have e2:∀n v,gC ⟨tm',ob,tk⟩ n v=gC ⟨tm,ob,tk⟩ n v:=fun n v=>by cases v<;>rfl
 have put:∀(k:Nat)(u:SV),some (CSt.put ⟨tm,ob,tk⟩ (some k) u)=some c'->∃F,Uni (some k) F/\c'.tm=F tm/\some (CSt.put ⟨tm',ob,tk⟩ (some k) u)=some ⟨F tm',c'.ob,c'.tk⟩:=by intro k u hu;obtain⟨F,W,J⟩:=Uni.cput (some k) u;rw[J]at hu;cases hu;exact⟨F,W,rfl,by rw[J]⟩
 have app:∀(k:Nat)(e:pJ),some (CSt.app ⟨tm,ob,tk⟩ (some k) e)=some c'->∃F,Uni (some k) F/\c'.tm=F tm/\some (CSt.app ⟨tm',ob,tk⟩ (some k) e)=some ⟨F tm',c'.ob,c'.tk⟩:=by intro k e hu;obtain⟨F,ob',tk',W,J⟩:=rk (ob:=ob) (tk:=tk) (some k) e;rw[J]at hu;cases hu;exact⟨F,W,rfl,by rw[J]⟩
 have Q:∀(I k:Nat)(e:pJ),some (CSt.app (CSt.purge ⟨tm,ob,tk⟩ I (I+1)) (some k) e)=some c'->∃F,Uni (some k) F/\c'.tm=F tm/\some (CSt.app (CSt.purge ⟨tm',ob,tk⟩ I (I+1)) (some k) e)=some ⟨F tm',c'.ob,c'.tk⟩:=by intro I k e hu;obtain⟨F,ob',tk',W,J⟩:=rk (ob:=bP I (I+1) ob) (tk:=cJ I (I+1) tk) (some k) e;simp only[CSt.purge]at hu ⊢;rw[J]at hu;cases hu;exact⟨fun t=>F (dN I (I+1) t),(Uni.purge I (I+1)).comp W,rfl,by rw[J]⟩
 unfold ua at E ⊢;split at E<;>try (cases E;done)
 ·split at E<;>try (cases E;done)
  rename_i Z;simp only[if_pos Z,h,e1];unfold Zm at E ⊢;split at E<;>try (cases E;done)
  split at E<;>try (cases E;done)
  rename_i hz;simp only[if_neg hz];split at E
  ·rename_i L;simp only[if_pos L];exact put _ _ E
  ·rename_i L
   simp only[if_neg L];split at E<;>try (cases E;done)
   rename_i O;simp only[if_pos O];exact app _ _ E
 ·split at E<;>try (cases E;done)
  rename_i Z;simp only[if_pos Z,h,e2];unfold Zl at E ⊢;split at E<;>try (cases E;done)
  split at E
  ·rename_i L;simp only[if_pos L];exact put _ _ E
  ·rename_i L
   simp only[if_neg L];split at E<;>try (cases E;done)
   rename_i O;simp only[if_pos O];exact app _ _ E
 ·simp only[h,e2]
  unfold TW at E ⊢;split at E<;>try (cases E;done)
  split at E<;>try (cases E;done)
  rename_i o1 a1 n1 _ _ _ k1 R1 l1 _ O;rw[if_pos O];exact Q _ _ _ E
theorem FF{d:LAb}{o:SOp}(h:∀y∈o.args,CSt.ev ⟨tm',ob,tk⟩ y=CSt.ev ⟨tm,ob,tk⟩ y)(E:opC call sg ⟨tm,ob,tk⟩ d o=some c'):∃F,Uni d F/\c'.tm=F tm/\opC call sg ⟨tm',ob,tk⟩ d o=some ⟨F tm',c'.ob,c'.tk⟩:=by
 by_cases W:∃f a_,o= .call f a_
 ·obtain⟨f,a_,rfl⟩:=W
  simp only[opC]at E ⊢;simp only[SOp.args,av]at h;rw[h f (.inl rfl),nt fun y hy=>h y (.inr hy)];split at E<;>try (cases E;done)
  obtain⟨F,J,q,I⟩:=uM (call:=call) (ob:=ob) (tk:=tk) (sg:=sg ‹_›) (d:=d) (g:= ‹_›) (a_:= ‹t8› ++evL ⟨tm,ob,tk⟩ a_++ ‹t8›);rename_i g u v a6;obtain⟨F,J,q,I⟩:=uM (call:=call) (ob:=ob) (tk:=tk) (sg:=sg g) (d:=d) (g:=g) (a_:=u++evL ⟨tm,ob,tk⟩ a_++v);rw[I]at E;cases q with
  |none=>cases E
  |some q=>simp only[bB,ax.injEq]at E;subst E;exact⟨F,J,rfl,by rw[I];rfl⟩
 by_cases Z:∃xs,o= .newB xs
 ·obtain⟨xs,rfl⟩:=Z
  simp only[opC]at E ⊢;simp only[SOp.args]at h;rw[nt h];unfold pt at E ⊢;split at E<;>try (cases E;done)
  rename_i k l hk;cases E;obtain⟨F,ob',tk',J,I⟩:=rk (ob:=ob) (tk:=tk) (some k) {val:= .psl (k+100) 1 0 l.length (some l.length),new:=some (.bar l)};exact⟨F,J,by rw[I],by simp only[I]⟩
 by_cases a1:∃q,o= .slid q
 ·obtain⟨q,rfl⟩:=a1
  simp only[opC]at E ⊢;rw[h q (by simp[SOp.args])];generalize CSt.ev ⟨tm,ob,tk⟩ q=v at E;unfold tq at E;split at E<;>try (cases E;done)
  rename_i O off n cap;show ∃F,_/\_/\pV _ d O off n cap (CSt.look ⟨tm',ob,tk⟩ O)=_;have a2:CSt.look ⟨tm',ob,tk⟩ O=CSt.look ⟨tm,ob,tk⟩ O:=rfl;rw[a2];generalize CSt.look ⟨tm,ob,tk⟩ O=u at E;unfold pV at E;split at E<;>try (cases E;done)
  split at E<;>try (cases E;done)
  rename_i l L;cases E;obtain⟨F,ob',tk',a7,J,I⟩:=oQ (ob:=ob) (tk:=tk) O [];obtain⟨G,g1,g2⟩:=Uni.cput d (.byt ((l.drop off).take n) .clip);refine⟨fun t=>G (F t),J.weak.comp g1, ?_, ?_⟩
  ·rw[I tm];rw[g2]
  ·simp only[pV,if_pos L,I,g2]
 by_cases Q:∃z b q y,o= .appO z b q y
 ·obtain⟨z,b,q,y,rfl⟩:=Q
  simp only[opC]at E ⊢;simp only[SOp.args,av,cZ,or_false,forall_eq_or_imp,forall_eq]at h;rw[h.1];exact Kf h.2 E
 ·have e:∀c,opC call sg c d o=oW c d (eJ c d o):=by
   intro c;cases o<;>first|rfl|exact absurd ⟨_,_,rfl⟩ W|exact absurd ⟨_,rfl⟩ Z|exact absurd ⟨_,rfl⟩ a1|exact absurd ⟨_,_,_,_,rfl⟩ Q
  rw[e]at E;rw[e,xap h];cases he:eJ ⟨tm,ob,tk⟩ d o with
  |none=>rw[he]at E;cases E
  |some q=>rw[he]at E;simp only[oW,ax.injEq]at E ⊢;obtain⟨F,ob',tk',J,I⟩:=rk (ob:=ob) (tk:=tk) d q;rw[I]at E;subst E;exact⟨F,J,rfl,I _⟩
theorem wN{i:SI}(h:∀n∈i.rds,ff tm' n=ff tm n):∀y∈i.op.args,CSt.ev ⟨tm',ob,tk⟩ y=CSt.ev ⟨tm,ob,tk⟩ y:=by
 intro y E;refine xrN fun n hn=>h n ?_
 subst hn;unfold SI.rds;rw[am];exact .inl (List.mem_filterMap.2 ⟨_,E,rfl⟩)
theorem xhZ{i:SI}{g:Nat}{b:Bool}(h:i.g=some (g,b)):g∈i.rds:=by unfold SI.rds;rw[h];simp
theorem GU{i:SI}(h:∀n∈i.rds,ff tm' n=ff tm n)(y:eD call sg ⟨tm,ob,tk⟩ i=some c'):∃F,Uni i.dst F/\c'.tm=F tm/\eD call sg ⟨tm',ob,tk⟩ i=some ⟨F tm',c'.ob,c'.tk⟩:=by
 unfold eD at y ⊢;split at y
 ·exact FF (wN h) y
 ·rename_i g b O
  have e:CSt.get ⟨tm',ob,tk⟩ g=CSt.get ⟨tm,ob,tk⟩ g:=h g (xhZ O);rw[e];split at y<;>try (cases y;done)
  rotate_left
  ·obtain⟨F,I,E⟩:=Uni.cput i.dst (.tup [])
   rw[E]at y;cases y;exact⟨F,I,rfl,by rw[E]⟩
  split at y
  ·rename_i J
   obtain⟨F,I,E,L⟩:=FF (wN h) y;exact⟨F,I,E,by simp only[if_pos J];exact L⟩
  ·rename_i J
   obtain⟨F,I,E⟩:=Uni.cput i.dst (.tup []);rw[E]at y;cases y;exact⟨F,I,rfl,by simp only[if_neg J];rw[E]⟩
theorem xhL{i:SI}(h:∀n∈i.rds,ff tm' n=ff tm n):qv ⟨tm',ob,tk⟩ i=qv ⟨tm,ob,tk⟩ i:=by
 have E:dz ⟨tm',ob,tk⟩ i.op=dz ⟨tm,ob,tk⟩ i.op:=by
  have y:=wN (ob:=ob) (tk:=tk) h;generalize i.op=o at y;have F:=DN y;cases o with
  |pick k a b=>simp only[SOp.args,av,cZ,or_false,forall_eq_or_imp,forall_eq]at y;simp only[dz];rw[y.1,y.2.1,y.2.2]
  |_=>simp only[dz];rw[F]
 unfold qv;cases hg:i.g with
 |none=>exact E
 |some p=>obtain⟨g,b⟩:=p;simp only;have e:CSt.get ⟨tm',ob,tk⟩ g=CSt.get ⟨tm,ob,tk⟩ g:=h g (xhZ hg);rw[e];cases CSt.get ⟨tm,ob,tk⟩ g<;>first|rfl|(simp only[qg];rw[E])
end
theorem pQ{i:SI}{v:SV}(h:qv c i=some v):eD call sg c i=some (c.put i.dst v):=by
 have E:∀o,dz c o=some v->opC call sg c i.dst o=some (c.put i.dst v):=by
  intro o y;cases o with
  |pick k a b=>simp only[dz]at y;split at y<;>cases y;rename_i t I;simp only[opC,eJ,I,oW];rfl
  |_=>
   simp only[dz]at y
   first
    |(simp only[cW]at y;cases y;done)
    |(simp only[opC,eJ];rw[y];rfl)
    |(simp[cW]at y;done)
 unfold qv at h;unfold eD;generalize i.g=q at h;cases q with
 |none=>exact E _ h
 |some q=>
  obtain⟨g,b⟩:=q;simp only at h ⊢;generalize c.get g=u at h
  by_cases hu:u= .tup []
  ·subst hu
   simp only[qg,ax.injEq]at h;subst h;rfl
  obtain⟨t,rfl⟩:∃t,u= .bool t:=by
   unfold qg at h;split at h
   ·exact⟨_,rfl⟩
   ·exact absurd rfl hu
   ·cases h
  simp only[qg]at h ⊢;split at h
  ·rename_i F;rw[if_pos F];exact E _ h
  ·rename_i F;rw[if_neg F];cases h;rfl
structure Apx(N:Nat)(D:List Nat)(c p:CSt):Prop where
 get:∀n,n∉D->c.get n=p.get n
 ob:c.ob=p.ob
 tk:c.tk=p.tk
 dom:∀q∈p.tm,q.1<N
theorem Apx.step{D:LAa}{p E:CSt}{i:SI}(h:Apx N D c p)(hi:i.ok N=true)(W:∀n∈i.rds,n∉D)(Z:eD call sg p i=some E):∃c1,eD call sg c i=some c1/\Apx N D c1 E:=by
 obtain⟨tm',ob',tk'⟩:=c;obtain⟨tm,ob,tk⟩:=p;have L:=h.ob;have J:=h.tk;simp only at L J;subst L;subst J;obtain⟨F,k1,k2,Q⟩:=GU (tm':=tm') (fun n hn=>h.get n (W n hn)) Z;refine⟨_,Q,⟨fun n hn=> ?_,rfl,rfl,fun q I=> ?_⟩⟩
 ·show ff (F tm') n=ff E.tm n
  rw[k2];exact k1.get _ _ _ (h.get n hn)
 ·rw[k2]at I
  rcases k1.dom _ _ I with⟨O,y,e⟩|e
  ·rw[<-e];exact h.dom O y
  ·unfold SI.ok at hi
   rw[e]at hi;simpa using hi
theorem Apx.qv{D:LAa}{p:CSt}{i:SI}(h:Apx N D c p)(F:∀n∈i.rds,n∉D):qv c i=qv p i:=by obtain⟨tm',ob',tk'⟩:=c;obtain⟨tm,ob,tk⟩:=p;have y:=h.ob;have E:=h.tk;simp only at y E;subst y;subst E;exact xhL fun n hn=>h.get n (F n hn)
theorem Apx.put{D:LAa}{p:CSt}{d:Nat}{v:SV}(h:Apx N D c p)(hd:d<N):Apx N (d::D) c (p.put (some d) v):=by
 refine⟨fun n hn=> ?_,h.ob,h.tk,fun q y=> ?_⟩
 ·simp only[av,not_or]at hn
  rw[iy,if_neg hn.1];exact h.get n hn.2
 ·rcases nI y with e|e
  ·rw[e];exact hd
  ·exact h.dom q e
theorem TS{p:CSt}{d:Nat}{v:SV}{i:SI}(h:d∉i.rds):Sy.qv (p.put (some d) v) i=Sy.qv p i:=by
 obtain⟨tm,ob,tk⟩:=p;refine xhL (tm:=tm) (tm':=kq tm d v) fun n hn=> ?_
 rw[nL,if_neg (by intro e;subst e;exact h hn)]
theorem rX{α:Type}{p:Prop}{v u:α}(h:gdP p v=some u):p/\v=u:=by
 unfold gdP at h;split at h
 ·rename_i y;exact⟨y,by simpa using h⟩
 ·cases h
theorem se{m:Nat}{p:CSt}{f:FI}:∀{l:List FI},vZ m p l->f∈l->m.testBit f.n=true\/qv p f.i=some (p.get (f.i.dst.getD 0))
 |g::r,h,hf=>by
  rcases av.1 hf with rfl|hf
  ·rcases h.1 with y|y
   ·left
    rw[Nat.testBit_eq_decide_div_mod_eq];simpa using y
   ·exact .inr y
  ·exact se h.2 hf
def Nx(g q:FI):Prop:=q.q=true->∀d,q.i.dst=some d->d∉g.i.rds/\g.i.dst≠some d
def Br(q:FI):Prop:=q.q=true->∃d,q.i.dst=some d/\d∉q.i.rds
def dOf(f:FI):Nat:=f.i.dst.getD 0
theorem oz{b:LAa}{cF:CSt}:∀{r ps V:List FI}{p:CSt}{D:LAa},fJ call sg b r ps p=some cF->Apx N D c p->(∀f∈r,f.i.ok N=true)->(∀f∈r,Br f)->r.Pairwise Nx->(∀g∈V,∀f∈r,Nx g f)->
 (∀g∈V,∃d,g.i.dst=some d)->(∀g∈V,qv p g.i=some (p.get (dOf g)))->∃seg post I F,r=seg++post/\(∀f∈seg,f.q=true)/\(post=[]\/∃f r',post=f::r'/\f.q=false)/\fJ call sg b post F I=some cF/\
  (∀f,f∈ps\/f∈seg->f∈F)/\Apx N (seg.map dOf++D) c I/\∀g,g∈V\/g∈seg->qv I g.i=some (I.get (dOf g))
 |[],ps,V,p,D,h,hA,_,_,_,_,_,hV=>⟨[],[],p,ps,rfl,by simp,.inl rfl,h,by simp,by simpa using hA,by simpa using hV⟩
 |f::r,ps,V,p,D,h,hA,hok,hself,hpw,hVr,hVd,hV=>by
  obtain⟨n,q,i⟩:=f;cases q with
  |false=>exact⟨[],⟨n,false,i⟩::r,p,ps,rfl,by simp,.inr ⟨_,_,rfl,rfl⟩,h,by simp,by simpa using hA,by simpa using hV⟩
  |true=>
   simp only[fJ]at h;cases hq:qv p i with
   |none=>rw[hq]at h;simp[zk]at h
   |some v=>
    rw[hq]at h;simp only[zk]at h;obtain⟨d,hd,O⟩:=hself _ (aB ..) rfl;simp only at hd O
    have Z:d<N:=by have:=hok _ (aB ..);unfold SI.ok at this;simp only[hd]at this;simpa using this
    rw[hd]at h;rw[bV]at hpw
    have J:∀g:FI,(∃e,g.i.dst=some e)->g.i.dst≠some d->(p.put (some d) v).get (dOf g)=p.get (dOf g):=by
     rintro g ⟨e,he⟩ Q;have L:dOf g=e:=by unfold dOf;rw[he];rfl
     rw[L,iy,if_neg];intro e2;rw[he,e2]at Q;exact Q rfl
    obtain⟨seg,post,I,F,k1,k2,k3,k4,k5,W,k7⟩:=oz (V:=⟨n,true,i⟩::V) h (hA.put Z) (fun f E=>hok f (aw _ E)) (fun f E=>hself f (aw _ E)) hpw.2
     (by
      intro g y f E;rcases av.1 y with rfl|y
      ·exact hpw.1 f E
      ·exact hVr g y f (aw _ E))
     (by
      intro g y;rcases av.1 y with rfl|y
      ·exact⟨d,hd⟩
      ·exact hVd g y)
     (by
      intro g y;rcases av.1 y with rfl|y
      ·have L:dOf ⟨n,true,i⟩=d:=by unfold dOf;simp only[hd];rfl
       rw[L,TS O,iy,if_pos rfl];exact hq
      ·obtain⟨h1,h2⟩:=hVr g y _ (aB ..) rfl d hd
       rw[TS h1,J g (hVd g y) h2];exact hV g y)
    refine⟨⟨n,true,i⟩::seg,post,I,F,by rw[k1];rfl, ?_,k3,k4, ?_, ?_, ?_⟩
    ·intro f E
     rcases av.1 E with rfl|E
     ·rfl
     ·exact k2 f E
    ·intro f E
     refine k5 f ?_;rcases E with E|E
     ·exact .inl (aw _ E)
     ·rcases av.1 E with rfl|E
      ·exact .inl (aB ..)
      ·exact .inr E
    ·have L:dOf ⟨n,true,i⟩=d:=by unfold dOf;simp only[hd];rfl
     refine⟨fun m hm=>W.get m (fun h=>hm ?_),W.ob,W.tk,W.dom⟩;simp only[aI,L,bi,av,am]at h ⊢;rcases h with h|h|h
     ·exact .inr (.inl h)
     ·exact .inl h
     ·exact .inr (.inr h)
    ·intro g y
     refine k7 g ?_;rcases y with y|y
     ·exact .inl (aw _ y)
     ·rcases av.1 y with rfl|y
      ·exact .inl (aB ..)
      ·exact .inr y
section
variable {ops : Array Oper} {its : List FI} {b : List Nat}
def un(its:List FI)(listed:Array Bool):List FI:=its.filter fun f=> !listed.getD f.n true
theorem dd{listed:Array Bool}{f:FI}:f∈un its listed↔f∈its/\listed.getD f.n true=false:=by simp[un]
structure rm(call:dy)(sg:Nat->Sig)(N:Nat)(b:List Nat)(its:List FI)(cF:CSt)(listed:Array Bool)(c:CSt):Prop where
 ex:∃pre post p ps,its=pre++post/\(post=[]\/∃f r,post=f::r/\f.q=false)/\fJ call sg b post ps p=some cF/\(∀f∈pre,f.q=true->f∈ps)/\
  (∀f∈pre,f.q=false->listed.getD f.n true=true)/\(∀f∈post,listed.getD f.n true=false)/\
  Apx N ((un pre listed).map dOf) c p/\∀f∈un pre listed,qv p f.i=some (p.get (dOf f))
theorem A7(e0:gY P call){cF:CSt}
 (Z:∀f∈its,∃o,ops[f.n]? =some o/\gT P ops o=some f.i.er/\f.n<ops.size) (f1:∀j,j<ops.size->∃f∈its,f.n=j) (d4:∀f∈its,∀g∈its,f.n=g.n->f=g)
 (c5:∀(i:Nat)(o:Oper),ops[i]? =some o->∀e∈o.after,Region.binds .any e=true->e.on<i)
 (i3:∀(i:Nat)(o:Oper)(k:Nat),ops[i]? =some o->k<ops.size->(b.getD i 0).testBit k=true->∃e∈o.after,Region.binds .any e=true/\(e.on=k\/(b.getD e.on 0).testBit k=true))
 (d1:∀f∈its,f.i.ok N=true) (a7:∀f∈its,Br f) (j6:its.Pairwise Nx)
 (m1:∀q∈its,q.q=true->∀p∈its,∀d,q.i.dst=some d->d∈p.i.rds->(b.getD p.n 0).testBit q.n=true)
 (e3:∀pre f r,its=pre++f::r->f.q=false->∀g∈r,∃h∈f::r,(b.getD g.n 0).testBit h.n=true)
 (o0:∀f∈its,∀g∈its,f.n≠g.n->∀d,f.i.dst=some d->g.i.dst≠some d) {Q:LBa} (hQ:∀a w,M C N cF a w->Q .normal a w):
 ∀(a8:Nat)(listed:Array Bool)(c:CSt)(a:Act)(w:World),(un its listed).length<=a8->listed.size=ops.size->
  (∀(i:Nat)(o:Oper)(k:Nat),ops[i]? =some o->listed.getD i true=true->k<ops.size->(b.getD i 0).testBit k=true->listed.getD k true=true)->
  rm call sg N b its cF listed c->M C N c a w->wpAny P .any ops Q a8 listed a w:=by
 classical
 have j5:∀(listed:Array Bool),listed.size=ops.size->∀k,k<ops.size->listed.getD k false=listed.getD k true:=by intro listed hs k hk;simp[lj,hs,hk]
 have done:∀(listed:Array Bool)(c:CSt)(a:Act)(w:World),un its listed=[]->rm call sg N b its cF listed c->M C N c a w->Region.ready .any ops listed=[]/\Q .normal a w:=by
  intro listed c a w h0 hS hM;constructor
  ·rw[List.eq_nil_iff_forall_not_mem]
   intro j hj;obtain⟨h1,o,h2,h3⟩:=mem_ready.1 hj;have l3:j<ops.size:=(di.1 h2).1;obtain⟨J,W,rfl⟩:=f1 j l3;have:J∈un its listed:=dd.2 ⟨W,h1⟩;rw[h0]at this;cases this
  ·obtain⟨pre,post,p,ps,e,hp,F,_,_,e6,hA,_⟩:=hS.ex
   have m0:post=[]:=by
    cases post with
    |nil=>rfl
    |cons f r=>have:f∈un its listed:=dd.2 ⟨by rw[e];simp,e6 f (aB ..)⟩;rw[h0]at this;cases this
   subst m0;simp only[fJ,ax.injEq]at F;subst F;have hD:un pre listed=[]:=by rw[<-h0,e,bx]
   rw[hD]at hA;refine hQ a w ?_;obtain⟨x,s,k0,f4⟩:=hM;refine M.slots (c:=c) ⟨x,s,k0,f4⟩ ⟨hA.dom,by rw[<-hA.ob];exact f4.inv.so,by rw[<-hA.ob];exact f4.inv.wf⟩ hA.ob.symm hA.tk.symm (fun i=> .inl (hA.get i (by simp)).symm)
 intro a8;induction a8 with
 |zero=>intro listed c a w hf hs e8 hS hM;exact done listed c a w (cu.1 (by omega)) hS hM
 |succ a8 ih=>
  intro listed c a w hf hs e8 hS hM;constructor
  ·intro h9
   by_cases h0:un its listed=[]
   ·exact(done listed c a w h0 hS hM).2
   ·exfalso
    have hp:∃n,∃f∈un its listed,f.n=n:=by
     cases hc:un its listed with
     |nil=>exact absurd hc h0
     |cons f r=>exact⟨_,f,aB ..,rfl⟩
    obtain⟨n,⟨f,k9,n7⟩,g7⟩:=xhS _ hp;obtain⟨h1,h2⟩:=dd.1 k9;obtain⟨o,h3,_,h4⟩:=Z f h1
    have:f.n∈Region.ready .any ops listed:=by refine mem_ready.2 ⟨h2,o,h3,fun e he hb=> ?_⟩;have b1:=c5 f.n o h3 e he hb;rw[j5 listed hs _ (by omega),<-Bool.not_eq_false];intro j9;obtain⟨g,I,j1⟩:=f1 e.on (by omega);have:=g7 e.on ⟨g,dd.2 ⟨I,by rw[j1];exact j9⟩,j1⟩;omega
    rw[h9]at this;cases this
  ·intro i l1
   obtain⟨h1,o,h2,h3⟩:=mem_ready.1 l1;have g4:i<ops.size:=(di.1 h2).1;obtain⟨J,W,rfl⟩:=f1 i g4;obtain⟨o',g9,d6,_⟩:=Z J W;rw[h2]at g9;cases g9
   have b3:∀k,k<ops.size->(b.getD J.n 0).testBit k=true->listed.getD k true=true:=by
    intro k hk hb;obtain⟨e,he,h8,n3⟩:=i3 J.n o k h2 hk hb;have e9:=h3 e he h8;have l0:=c5 J.n o h2 e he h8;rw[j5 listed hs _ (by omega)]at e9;rcases n3 with h|h
    ·rw[<-h];exact e9
    ·exact e8 e.on (ops[e.on]'(by omega)) k (by simp) e9 hk h
   have n5:(un its (listed.setIfInBounds J.n true)).length<(un its listed).length:=by
    have e1:un its (listed.setIfInBounds J.n true)=(un its listed).filter fun q=> !decide (q.n=J.n):=by
     simp only[un,List.filter_filter];apply List.filter_congr;intro q hq;rw[iw (by omega)]
     by_cases h:q.n=J.n<;>simp[h]
    rw[e1];refine List.length_filter_lt_length_iff_exists.2 ⟨J,dd.2 ⟨W,h1⟩,by simp⟩
   have e5:∀(i:Nat)(o:Oper)(k:Nat),ops[i]? =some o->(listed.setIfInBounds J.n true).getD i true=true->k<ops.size->(b.getD i 0).testBit k=true->(listed.setIfInBounds J.n true).getD k true=true:=by
    intro i2 o2 j2 n0 f5 g6 g5;rw[iw (by omega)]at f5 ⊢;split
    ·rfl
    ·split at f5
     ·rename_i e1
      subst e1;exact b3 j2 g6 g5
     ·exact e8 i2 o2 j2 n0 f5 g6 g5
   have o3:∀g∈its,listed.getD g.n true=true->g≠J:=by intro g _ I e;subst e;rw[h1]at I;cases I
   have O:∀g∈its,(listed.setIfInBounds J.n true).getD g.n true=if g=J then true else listed.getD g.n true:=by
    intro g I;rw[iw (by omega)]
    by_cases h:g=J
    ·subst h;simp
    ·rw[if_neg (fun e=>h (d4 g I J W e)),if_neg h]
   obtain⟨pre,post,p,ps,e,b6,F,f2,a6,L,hA,hV⟩:=hS.ex;have y:∀g∈pre,g∈its:=fun g I=>by rw[e];exact am.2 (.inl I)
   have E:∀g∈post,g∈its:=fun g I=>by rw[e];exact am.2 (.inr I)
   have d5:∀n∈J.i.rds,n∉(un pre listed).map dOf:=by
    intro n hn hm;obtain⟨g,I,b5⟩:=aZ.1 hm;obtain⟨a1,a2⟩:=dd.1 I
    have j4:g.q=true:=by
     cases hq:g.q with
     |true=>rfl
     |false=>rw[a6 g a1 hq]at a2;cases a2
    obtain⟨d,hd,_⟩:=a7 g (y g a1) j4;have k8:d=n:=by unfold dOf at b5;rw[hd]at b5;exact b5
    subst k8;have:=m1 g (y g a1) j4 J W d hd hn;obtain⟨_,_,_,b1⟩:=Z g (y g a1);rw[b3 g.n b1 this]at a2;cases a2
   by_cases c3:J∈pre
   ·
    have hq:J.q=true:=by
     cases hq:J.q with
     |true=>rfl
     |false=>rw[a6 J c3 hq]at h1;cases h1
    have j7:J∈un pre listed:=dd.2 ⟨c3,h1⟩;have hv:=hV J j7;rw[<-hA.qv d5]at hv;obtain⟨d,hd,o1⟩:=a7 J W hq;have h7:dOf J=d:=by unfold dOf;rw[hd];rfl
    refine ie e0 hM (d1 J W) h2 d6 (pQ (call:=call) (sg:=sg) hv) fun a' w' g1=> ?_
    refine ih _ _ a' w' (by omega) (by simpa using hs) e5 ⟨pre,post,p,ps,e,b6,F,f2, ?_, ?_, ?_, ?_⟩ g1
    ·intro f hf b4
     rw[O f (y f hf)];split
     ·rfl
     ·exact a6 f hf b4
    ·intro f hf
     rw[O f (E f hf),if_neg]
     ·exact L f hf
     ·intro e2
      subst e2
      have i4:its.Pairwise fun f g=>f.n≠g.n\/f=g:=List.pairwise_of_forall_mem_list (fun f hf g I=>by
       by_cases h:f.n=g.n
       ·exact .inr (d4 f hf g I h)
       ·exact .inl h)
      have h5:=j6;rw[e]at h5;have h6:=(dX.1 h5).2.2 f c3 f hf hq d hd;exact h6.2 hd
    ·refine⟨fun n hn=> ?_, ?_, ?_,hA.dom⟩
     ·rw[hd,iy]
      split
      ·rename_i e2;rw[e2,h7]
      ·rename_i i4
       refine hA.get n fun hm=>hn ?_
       obtain⟨g,I,b5⟩:=aZ.1 hm;obtain⟨a1,a2⟩:=dd.1 I;refine aZ.2 ⟨g,dd.2 ⟨a1, ?_⟩,b5⟩;rw[O g (y g a1),if_neg]
       ·exact a2
       ·intro e2;subst e2;rw[h7]at b5;exact i4 b5.symm
     ·cases J.i.dst<;>exact hA.ob
     ·cases J.i.dst<;>exact hA.tk
    ·intro f hf
     obtain⟨g8,d3⟩:=dd.1 hf;refine hV f (dd.2 ⟨g8, ?_⟩);rw[O f (y f g8)]at d3;split at d3
     ·cases d3
     ·exact d3
   ·
    have c7:J∈post:=by rw[e]at W;exact(am.1 W).resolve_left c3
    obtain⟨f0,r,d2,e7⟩:∃f r,post=f::r/\f.q=false:=by
     rcases b6 with h|h
     ·subst h;cases c7
     ·exact h
    have j3:J=f0:=by
     rw[d2]at c7;rcases av.1 c7 with h|h
     ·exact h
     ·exfalso
      obtain⟨g,I,f7⟩:=e3 pre f0 r (by rw[e,d2]) e7 J h;have b7:g∈post:=by rw[d2];exact I
      obtain⟨_,_,_,b1⟩:=Z g (E g b7);have:=b3 g.n b1 f7;rw[L g b7]at this;cases this
    subst j3;subst d2;obtain⟨n,q,i⟩:=J;simp only at e7;subst e7;simp only[fJ]at F;cases hs1:eD call sg p i with
    |none=>rw[hs1]at F;simp[s6]at F
    |some p1=>
     rw[hs1]at F;simp only[s6]at F;cases I:gdP (vZ (b.getD n 0) p1 ps) p1 with
     |none=>rw[I]at F;simp[s7]at F
     |some n9=>
      rw[I]at F;simp only[s7]at F;obtain⟨i1,rfl⟩:=rX I;obtain⟨c1,l2,j8⟩:=hA.step (d1 _ W) d5 hs1;refine ie e0 hM (d1 _ W) h2 d6 l2 fun a' w' g1=> ?_
      have e4:∀g∈un pre listed,g.q=true:=by
       intro g I;obtain⟨a1,a2⟩:=dd.1 I;cases hq:g.q with
       |true=>rfl
       |false=>rw[a6 g a1 hq]at a2;cases a2
      have d7:=j6;rw[e]at d7;have j0:=dX.1 d7
      obtain⟨seg,g2,p2,n4,k1,k2,k3,k4,k5,k6,k7⟩:=oz (V:=un pre listed) F j8 (fun f hf=>d1 f (E f (aw _ hf))) (fun f hf=>a7 f (E f (aw _ hf)))
       (bV.1 j0.2.1).2 (fun g I f hf=>j0.2.2 g (dd.1 I).1 f (aw _ hf))
       (fun g I=>by obtain⟨d,hd,_⟩:=a7 g (y g (dd.1 I).1) (e4 g I);exact⟨d,hd⟩)
       (fun g I=>by
        obtain⟨a1,a2⟩:=dd.1 I;rcases se i1 (f2 g a1 (e4 g I))with h|h
        ·obtain⟨_,_,_,b1⟩:=Z g (y g a1)
         rw[b3 g.n b1 h]at a2;cases a2
        ·exact h)
      have g3:un (pre++⟨n,false,i⟩::seg) (listed.setIfInBounds n true)=un pre listed++seg:=by
       unfold un;rw[List.filter_append,fe];have e1:(listed.setIfInBounds n true).getD n true=true:=by rw[iw (by rw[hs];exact g4)];simp
       simp only[e1,Bool.not_true,aO,if_false]
       congr 1
       ·apply List.filter_congr
        intro g I;have:=O g (y g I);simp only at this;rw[this,if_neg];intro e2;subst e2;exact c3 I
       ·apply jh.2
        intro g I;have b7:g∈⟨n,false,i⟩::r:=by rw[k1];exact aw _ (am.2 (.inl I))
        have:=O g (E g b7);simp only at this;rw[this,if_neg]
        ·rw[L g b7];rfl
        ·intro e2;subst e2;have:=k2 _ I;cases this
      refine ih _ _ a' w' (by omega) (by simpa using hs) e5 ⟨pre++⟨n,false,i⟩::seg,g2,p2,n4,by rw[e,k1];simp,k3,k4, ?_, ?_, ?_, ?_, ?_⟩ g1
      ·intro f hf b4
       rcases am.1 hf with h|h
       ·exact k5 f (.inl (f2 f h b4))
       ·rcases av.1 h with rfl|h
        ·cases b4
        ·exact k5 f (.inr h)
      ·intro f hf b4
       rcases am.1 hf with h|h
       ·rw[O f (y f h)]
        split
        ·rfl
        ·exact a6 f h b4
       ·rcases av.1 h with rfl|h
        ·rw[O _ W,if_pos rfl]
        ·rw[k2 f h]at b4;cases b4
      ·intro f hf
       have i0:f∈⟨n,false,i⟩::r:=by rw[k1];exact aw _ (am.2 (.inr hf))
       rw[O f (E f i0),if_neg]
       ·exact L f i0
       ·intro e2
        subst e2;obtain⟨g,I,f7⟩:=e3 pre ⟨n,false,i⟩ r e rfl ⟨n,false,i⟩ (by rw[k1];exact am.2 (.inr hf));obtain⟨_,_,_,b1⟩:=Z g (E g I);have:=b3 g.n b1 f7;rw[L g I]at this;cases this
      ·rw[g3,cf]
       refine⟨fun m hm=>k6.get m (fun h=>hm ?_),k6.ob,k6.tk,k6.dom⟩;rw[am]at h ⊢;exact h.symm
      ·rw[g3]
       intro f hf;exact k7 f (am.1 hf)
end
theorem uy{f:FI}(l:List FI)(h:(l.map FI.n).Nodup)(y:f∈l):IE l f.n=f.i.er:=by
 induction l with
 |nil=>cases y
 |cons g r E=>
  simp only[aI,eB]at h;simp only[IE];rcases av.1 y with rfl|y
  ·rw[if_pos rfl]
  ·rw[if_neg,E h.2 y]
   intro e;apply h.1;rw[e];exact jf y
theorem JS{b:LAa}{s:Nat}(l:List FI):pj b (some s) l=true->∀g∈l,(b.getD g.n 0).testBit s=true\/∃h∈l,(b.getD g.n 0).testBit h.n=true:=by
 induction l generalizing s with
 |nil=>intro _ g y;cases y
 |cons f r F=>
  intro h g y;simp only[pj]at h;split at h
  ·simp only[aC,oV]at h
   rcases av.1 y with rfl|y
   ·exact .inl h.1
   ·rcases F h.2 g y with E|⟨k,hk,E⟩
    ·exact .inl E
    ·exact .inr ⟨k,aw _ hk,E⟩
  ·simp only[aC,oV]at h
   rcases av.1 y with rfl|y
   ·exact .inl h.1
   ·rcases F h.2 g y with E|⟨k,hk,E⟩
    ·exact .inr ⟨f,aB ..,E⟩
    ·exact .inr ⟨k,aw _ hk,E⟩
theorem BF{b:LAa}:∀{pre:List FI}{s:LAb}{f:FI}{r:List FI},pj b s (pre++f::r)=true->f.q=false->pj b (some f.n) r=true
 |[],s,f,r,h,hf=>by simp only[aE,pj,hf,aO,if_false,aC]at h;exact h.2
 |g::pre,s,f,r,h,hf=>by
  simp only[bi,pj]at h;split at h
  ·rw[aC]at h;exact BF h.2 hf
  ·rw[aC]at h;exact BF h.2 hf
theorem qj{b:LAa}:∀{l:List FI},qk b l=true->l.Pairwise fun p q=>(b.getD p.n 0).testBit q.n=false
 |[],_=>fP.nil
 |p::r,h=>by simp only[qk,aC,bf]at h;refine bV.2 ⟨fun q y=> ?_,qj h.2⟩;have:=h.1 q y;simp only[TV,aC,cT,oV]at this;exact this.1
theorem HO(d2:gY P call){id:Nat}{ops:Array Oper}{its:List FI}(hl:kz (gT P ops) ops.toList=some (unF its))(hd:drawn ops (unF its)=true)(hm:P.follows .mixedOrders=true)
 (c3:its.all (fun f=>f.i.ok N)=true) (a7:VD (Region.before ops).toList its=true) {cF:CSt} {Q:LBa} (hQ:∀a w,M C N cF a w->Q .normal a w) (hM:M C N c a w)
 (h:fJ call sg (Region.before ops).toList its [] c=some cF):(Code.region id ops true).wp P Q a w:=by
 simp only[VD,aC,decide_eq_true_eq,bf]at a7;obtain⟨⟨⟨⟨⟨b3,a1⟩,a2⟩,L⟩,Z⟩,e0⟩:=a7;simp only[Z4,bf,fF,cT]at a2;rw[bf]at c3;obtain⟨d1,c5⟩:=fC hl;have e3:(unF its).length=its.length:=by simp[unF]
 have e8:its.length=ops.size:=by rw[<-e3,d1,aU]
 have b5:∀f∈its,(unF its).getD f.n ⟨none,none,.lenC 0⟩=f.i.er:=by intro f y;have:=Z f y;rw[aa];simp only[unF,aT,cz this,bB,aM];exact uy _ L y
 simp only[drawn,aC,decide_eq_true_eq]at hd;obtain⟨⟨hc,ht⟩,b4⟩:=hd
 have b7:∀f∈its,∃o,ops[f.n]? =some o/\gT P ops o=some f.i.er/\f.n<ops.size:=by
  intro f y;have e6:=Z f y;have d6:f.n<ops.toList.length:=by rw[aU];omega
  refine⟨ops.toList[f.n],by rw[<-cY,ac d6], ?_,by omega⟩;have E:=c5 f.n d6 (by omega);rw[E]
  congr 1
  have I:=b5 f y;rwa[aa,ac (by omega),aM]at I
 have d5:∀f∈its,∀g∈its,f.n=g.n->f=g:=by
  intro f y g hg e;have:its.Pairwise fun f g=>f.n≠g.n:=by rw[zZ,ii]at L;exact L
  rw[iS]at this;obtain⟨i,hi,rfl⟩:=List.mem_iff_getElem.1 y;obtain⟨j,hj,rfl⟩:=List.mem_iff_getElem.1 hg;rcases Nat.lt_trichotomy i j with h|h|h
  ·exact absurd e (this i j hi hj h)
  ·subst h;rfl
  ·exact absurd e.symm (this j i hj hi h)
 have c7:∀f∈its,∀g∈its,f.n≠g.n->∀d,f.i.dst=some d->g.i.dst≠some d:=by
  have a8:∀f∈its,∀g∈its,f.n<g.n->∀d,f.i.dst=some d->g.i.dst≠some d:=by
   intro f y g hg d7 d E I
   have d4:(unF its).Pairwise fun u v=>∀d,u.dst=some d->v.dst≠some d:=by rw[zZ,List.pairwise_filterMap]at b4;refine b4.imp ?_;intro u v e4 d hu hv;exact e4 d hu d hv rfl
   rw[iS]at d4;have f0:=Z f y;have e7:=Z g hg
   have g1:(unF its)[f.n]'(by omega)=f.i.er:=by have:=b5 f y;rwa[aa,ac (by omega),aM]at this
   have g2:(unF its)[g.n]'(by omega)=g.i.er:=by have:=b5 g hg;rwa[aa,ac (by omega),aM]at this
   exact d4 f.n g.n (by omega) (by omega) d7 d (by rw[g1];exact E) (by rw[g2];exact I)
  intro f y g hg e9 d E I;rcases bK f.n g.n with h|h
  ·exact a8 f y g hg h d E I
  ·exact a8 g hg f y (by omega) d I E
 have F:∀(i:Nat)(o:Oper),ops[i]? =some o->(∀e∈o.after,Region.binds .any e=true->e.on<i)/\
  ∀k,k<ops.size->((Region.before ops).toList.getD i 0).testBit k=true->∃e∈o.after,Region.binds .any e=true/\(e.on=k\/((Region.before ops).toList.getD e.on 0).testBit k=true):=by
  intro i o ho;unfold sr at hc;rw[bf]at hc;have hi:i<ops.size:=(di.1 ho).1
  have E:=hc (o,i) (by rw[List.mem_zipIdx_iff_getElem?];simpa using ho)
  simp only[aC,Array.all_eq_true_iff_forall_mem,bf,fF,cT,decide_eq_true_eq]at E;refine⟨fun e he hb=>(E.1 e he).resolve_left (by simp[hb]),fun k hk hb=> ?_⟩;have I:=(E.2 k (eV.2 hk)).resolve_left (by simp only[hb];simp);obtain⟨_,h3⟩:=I;rw[<-Array.any_toList,List.any_eq_true]at h3;obtain⟨e,he,h4⟩:=h3;rw[Array.mem_toList_iff]at he;simp only[aC,fF,beq_iff_eq]at h4;exact⟨e,he,h4.1,h4.2⟩
 have hq:∀q∈its,q.q=true->∃d,q.i.dst=some d/\∀p∈its,d∈p.i.rds->((Region.before ops).toList.getD p.n 0).testBit q.n=true/\p.n≠q.n:=by
  intro q hq W;have E:=(a2 q hq).resolve_left (by rw[W];simp);cases hd:q.i.dst with
  |none=>rw[hd]at E;cases E
  |some d=>
   rw[hd]at E;simp only[bf,fF,cT,aC,decide_eq_true_eq,oV]at E;refine⟨d,rfl,fun p hp hr=> ?_⟩;rcases E p hp with I|I
   ·rw[fE]at I;simp only[decide_eq_false_iff_not]at I;exact absurd hr I
   ·exact I
 have O:∀f∈its,Br f:=by intro f y a2;obtain⟨d,hd,E⟩:=hq f y a2;exact⟨d,hd,fun h=>(E f y h).2 rfl⟩
 have d3:∀q∈its,q.q=true->∀p∈its,∀d,q.i.dst=some d->d∈p.i.rds->((Region.before ops).toList.getD p.n 0).testBit q.n=true:=by intro q a6 W p hp d hd hr;obtain⟨d',e2,E⟩:=hq q a6 W;rw[e2]at hd;cases hd;exact(E p hp hr).1
 have e1:its.Pairwise Nx:=by
  have E:its.Pairwise fun f g=>f.n≠g.n:=by rw[zZ,ii]at L;exact L
  refine((qj a1).and E).imp_of_mem ?_;rintro p q hp a6 ⟨I,h3⟩ W d hd;refine⟨fun hr=> ?_,fun e=>c7 p hp q a6 h3 d e hd⟩;rw[d3 q a6 W p hp d hd hr]at I;cases I
 obtain⟨seg,post,p2,e5,k1,k2,k3,k4,k5,k6,k7⟩:=oz (N:=N) (D:=[]) (V:=[]) h ⟨fun _ _=>rfl,rfl,rfl,by obtain⟨x,s,_,hS⟩:=hM;exact hS.inv.dom⟩ (fun f y=>c3 f y) O e1 (by simp) (by simp) (by simp)
 have J:∀f∈its,(eU ops.size false).getD f.n true=false:=by
  intro f y;have:=Z f y;have:f.n<ops.size:=by omega
  simp[lj,this]
 have b1:un seg (eU ops.size false)=seg:=by apply jh.2;intro f y;rw[J f (by rw[k1];exact am.2 (.inl y))];rfl
 refine wp_region_any hm ?_
 refine A7 (its:=its) (b:=(Region.before ops).toList) (cF:=cF) (sg:=sg) d2 b7 (fun j hj=> ?_) d5 (fun i o ho=>(F i o ho).1) (fun i o k ho hk hb=>(F i o ho).2 k hk hb) (fun f y=>c3 f y) O e1 d3
  (fun pre f r e y g hg=> ?_) c7 hQ ops.size _ c a _ ?_ (by simp) ?_ ⟨seg,post,p2,e5,k1,k3,k4,fun f y _=>k5 f (.inr y),(fun f y hq=>by rw[k2 f y]at hq;cases hq),fun f y=>J f (by rw[k1];exact am.2 (.inr y)), ?_, ?_⟩ ?_
 ·have:=e0 j (eV.2 (by omega))
  rw[fE]at this;simp only[decide_eq_true_eq]at this;obtain⟨f,y,e⟩:=aZ.1 this;exact⟨f,y,e⟩
 ·rw[e]at b3
  rcases JS _ (BF b3 y) g hg with E|⟨k,hk,E⟩
  ·exact⟨f,aB ..,E⟩
  ·exact⟨k,aw _ hk,E⟩
 ·have:(un its (eU ops.size false)).length<=its.length:=List.length_filter_le _ _
  omega
 ·intro i o k ho hl _ _
  have hi:i<ops.size:=(di.1 ho).1;simp[lj,hi]at hl
 ·rw[b1];simpa using k6
 ·rw[b1];intro f y;exact k7 f (.inr y)
 ·obtain⟨x,s,b6,hS⟩:=hM
  exact⟨x,s,⟨b6.tm,b6.defers,b6.heap.drawn _⟩,hS⟩
end Go.Sy
namespace Go.Sy
variable [br]
variable {P : Program} {C : Ctx} {x : Sit} {a : Act} {w : World} {N : Nat} {c c' : CSt} {s : St} {call : dy} {sg : Nat -> Sig}
variable {ops : Array Oper} {its σ : List FI} {b : List Nat} {cF : CSt} {listed : Array Bool}
structure UB(P:Program)(N:Nat)(ops:Array Oper)(its:List FI)(b:List Nat):Prop where
 item:∀f∈its,∃o,ops[f.n]? =some o/\gT P ops o=some f.i.er/\f.n<ops.size
 ex:∀j,j<ops.size->∃f∈its,f.n=j
 inj:∀f∈its,∀g∈its,f.n=g.n->f=g
 back:∀(i:Nat)(o:Oper),ops[i]? =some o->∀e∈o.after,Region.binds .any e=true->e.on<i
 bit:∀(i:Nat)(o:Oper)(k:Nat),ops[i]? =some o->k<ops.size->(b.getD i 0).testBit k=true->∃e∈o.after,Region.binds .any e=true/\(e.on=k\/(b.getD e.on 0).testBit k=true)
 ok:∀f∈its,f.i.ok N=true
 self:∀f∈its,Br f
 rd:∀q∈its,q.q=true->∀p∈its,∀d,q.i.dst=some d->d∈p.i.rds->(b.getD p.n 0).testBit q.n=true
structure xa3(its:List FI)(b:List Nat)(σ:List FI):Prop where
 mem:∀f,f∈σ↔f∈its
 nd:(σ.map FI.n).Nodup
 nx:σ.Pairwise Nx
 seg:∀pre f r,σ=pre++f::r->f.q=false->∀g∈r,g.q=true->∃h∈f::r,(b.getD g.n 0).testBit h.n=true
open Classical in
theorem D0(J:listed.size=ops.size){y g:FI}(I:UB P N ops its b)(E:y∈its)(F:g∈its)(hi:y.n<ops.size):(listed.setIfInBounds y.n true).getD g.n true=if g=y then true else listed.getD g.n true:=by
 rw[iw (by omega)]
 by_cases h:g=y
 ·subst h;simp
 ·rw[if_neg (fun e=>h (I.inj g F y E e)),if_neg h]
theorem FX(I:UB P N ops its b)(O:xa3 its b σ){pre:List FI}{W:FI}(a2:W∈its)(h:∀g∈pre,g∈its)(F:∀f∈pre,f.q=false->listed.getD f.n true=true)
 (L:∀k,k<ops.size->(b.getD W.n 0).testBit k=true->listed.getD k true=true):∀n∈W.i.rds,n∉(un pre listed).map dOf:=by
 intro n hn hm;obtain⟨g,hg,J⟩:=aZ.1 hm;obtain⟨E,y⟩:=dd.1 hg
 have Q:g.q=true:=by
  cases hq:g.q with
  |true=>rfl
  |false=>rw[F g E hq]at y;cases y
 obtain⟨d,hd,_⟩:=I.self g (h g E) Q;have Z:d=n:=by unfold dOf at J;rw[hd]at J;exact J
 subst Z;have:=I.rd g (h g E) Q W a2 d hd hn;obtain⟨_,_,_,a1⟩:=I.item g (h g E);rw[L g.n a1 this]at y;cases y
theorem DT(hs:listed.size=ops.size)(I:UB P N ops its b)(O:xa3 its b σ)(hS:rm call sg N b σ cF listed c){F:FI}(W:F∈its)(h1:listed.getD F.n true=false)(hq:F.q=true)
 (a2:∀k,k<ops.size->(b.getD F.n 0).testBit k=true->listed.getD k true=true):
 ∃v,qv c F.i=some v/\rm call sg N b σ cF (listed.setIfInBounds F.n true) (c.put F.i.dst v):=by
 classical
 obtain⟨_,_,_,c7⟩:=I.item F W;have Q:∀g∈its,(listed.setIfInBounds F.n true).getD g.n true=if g=F then true else listed.getD g.n true:=fun g hg=>D0 hs I W hg c7
 obtain⟨pre,post,p,ps,e,L,a7,d1,Z,J,hA,hV⟩:=hS.ex;have y:∀g∈pre,g∈its:=fun g hg=>(O.mem g).1 (by rw[e];exact am.2 (.inl hg))
 have E:∀g∈post,g∈its:=fun g hg=>(O.mem g).1 (by rw[e];exact am.2 (.inr hg))
 have b4:=FX (listed:=listed) I O W y Z a2
 have a8:F∈pre:=by
  have h2:=(O.mem F).2 W;rw[e]at h2;rcases am.1 h2 with h3|h3
  ·exact h3
  ·exfalso
   rcases L with h4|⟨f0,r,h4,hf0⟩
   ·rw[h4]at h3;cases h3
   ·have h5:F∈r:=by
     rw[h4]at h3;rcases av.1 h3 with h|h
     ·rw[h,hf0]at hq;cases hq
     ·exact h
    obtain⟨g,hg,c3⟩:=O.seg pre f0 r (by rw[e,h4]) hf0 F h5 hq;have b6:g∈post:=by rw[h4];exact hg
    obtain⟨_,_,_,d3⟩:=I.item g (E g b6);have:=a2 g.n d3 c3;rw[J g b6]at this;cases this
 have c5:F∈un pre listed:=dd.2 ⟨a8,h1⟩;have hv:=hV F c5;rw[<-hA.qv b4]at hv;obtain⟨d,hd,d5⟩:=I.self F W hq;have b5:dOf F=d:=by unfold dOf;rw[hd];rfl
 refine⟨_,hv,⟨pre,post,p,ps,e,L,a7,d1, ?_, ?_, ?_, ?_⟩⟩
 ·intro f hf d4
  rw[Q f (y f hf)];split
  ·rfl
  ·exact Z f hf d4
 ·intro f hf
  rw[Q f (E f hf),if_neg]
  ·exact J f hf
  ·intro e2
   subst e2;have h5:=O.nx;rw[e]at h5;have h6:=(dX.1 h5).2.2 f a8 f hf hq d hd;exact h6.2 hd
 ·refine⟨fun n hn=> ?_, ?_, ?_,hA.dom⟩
  ·rw[hd,iy]
   split
   ·rename_i e2;rw[e2,b5]
   ·rename_i d2
    refine hA.get n fun hm=>hn ?_
    obtain⟨g,hg,a6⟩:=aZ.1 hm;obtain⟨b1,b7⟩:=dd.1 hg;refine aZ.2 ⟨g,dd.2 ⟨b1, ?_⟩,a6⟩;rw[Q g (y g b1),if_neg]
    ·exact b7
    ·intro e2;subst e2;rw[b5]at a6;exact d2 a6.symm
  ·cases F.i.dst<;>exact hA.ob
  ·cases F.i.dst<;>exact hA.tk
 ·intro f hf
  obtain⟨b3,a1⟩:=dd.1 hf;refine hV f (dd.2 ⟨b3, ?_⟩);rw[Q f (y f b3)]at a1;split at a1
  ·cases a1
  ·exact a1
theorem K0(l r:List FI):fX (l++r)=fX l++fX r:=List.filterMap_append
theorem H2{l:List FI}(h:∀f∈l,f.q=true):fX l=[]:=by unfold fX;rw[List.filterMap_eq_nil_iff];intro f y;rw[h f y];rfl
theorem rO{l:List FI}{k:Nat}:k∈fX l↔∃f∈l,f.q=false/\f.n=k:=by
 unfold fX;rw[List.mem_filterMap];constructor
 ·rintro⟨f,E,h⟩
  cases y:f.q with
  |true=>rw[y]at h;cases h
  |false=>rw[y]at h;exact⟨f,E,y,by simpa using h⟩
 ·rintro⟨f,E,y,rfl⟩;exact⟨f,E,by rw[y];rfl⟩
theorem lr(k:Nat):∀l:List FI,fX (l.filter fun q=> !decide (q.n=k))=(fX l).filter fun x=> !decide (x=k)
 |[]=>rfl
 |f::r=>by
  have y:=lr k r;rw[fe]
  by_cases h:f.n=k
  ·cases hq:f.q with
   |true=>simp only[h,decide_true,Bool.not_true,aO,if_false,y];simp[fX,hq]
   |false=>simp only[h,decide_true,Bool.not_true,aO,if_false,y];simp[fX,hq,h]
  ·cases hq:f.q with
   |true=>simp only[h,decide_false,Bool.not_false,if_true];simp only[fX,List.filterMap_cons,hq,if_true]at y ⊢;exact y
   |false=>simp only[h,decide_false,Bool.not_false,if_true];simp only[fX,List.filterMap_cons,hq,aO,if_false,fe,h,decide_false,Bool.not_false,if_true]at y ⊢;rw[y]
theorem BC(y:listed.size=ops.size){k:Nat}(E:k<ops.size)(σ:List FI):un σ (listed.setIfInBounds k true)=(un σ listed).filter fun q=> !decide (q.n=k):=by
 simp only[un,List.filter_filter];apply List.filter_congr;intro q F;rw[iw (by omega)]
 by_cases h:q.n=k<;>simp[h]
theorem DU(hs:listed.size=ops.size)(I:UB P N ops its b)(O:xa3 its b σ)(hS:rm call sg N b σ cF listed c){it:FI}(a2:it∈its)(h1:listed.getD it.n true=false)(hq:it.q=false)
 (b3:∀k,k<ops.size->(b.getD it.n 0).testBit k=true->listed.getD k true=true) (hh:(fX (un σ listed)).head? =some it.n):
 ∃c1,eD call sg c it.i=some c1/\rm call sg N b σ cF (listed.setIfInBounds it.n true) c1:=by
 classical
 obtain⟨_,_,_,c5⟩:=I.item it a2;have Q:∀g∈its,(listed.setIfInBounds it.n true).getD g.n true=if g=it then true else listed.getD g.n true:=fun g J=>D0 hs I a2 J c5
 obtain⟨pre,post,p,ps,e,b1,F,c7,Z,L,hA,hV⟩:=hS.ex;have E:∀g∈pre,g∈its:=fun g J=>(O.mem g).1 (by rw[e];exact am.2 (.inl J))
 have y:∀g∈post,g∈its:=fun g J=>(O.mem g).1 (by rw[e];exact am.2 (.inr J))
 have d6:=FX (listed:=listed) I O a2 E Z b3
 have a7:∀g∈un pre listed,g.q=true:=by
  intro g J;obtain⟨a8,a6⟩:=dd.1 J;cases hq:g.q with
  |true=>rfl
  |false=>rw[Z g a8 hq]at a6;cases a6
 have e7:un post listed=post:=jh.2 fun f W=>by rw[L f W];rfl
 have hu:fX (un σ listed)=fX post:=by
  have:un σ listed=un pre listed++un post listed:=by rw[e];exact List.filter_append ..
  rw[this,K0,H2 a7,e7];rfl
 rw[hu]at hh
 obtain⟨f0,r,b7,b5⟩:∃f r,post=f::r/\f.q=false:=by
  rcases b1 with h|h
  ·rw[h]at hh;cases hh
  ·exact h
 have e0:it=f0:=by
  rw[b7]at hh;have h2:fX (f0::r)=f0.n::fX r:=by simp[fX,b5]
  rw[h2]at hh;simp only[List.head?_cons,ax.injEq]at hh;exact I.inj it a2 f0 (y f0 (by rw[b7];exact aB ..)) hh.symm
 subst e0;subst b7
 have d1:(pre++it::r).Pairwise fun f g=>f.n≠g.n:=by have:=O.nd;rw[e,zZ,ii]at this;exact this
 obtain⟨n,q,i⟩:=it;simp only at b5;subst b5;simp only[fJ]at F;cases hs1:eD call sg p i with
 |none=>rw[hs1]at F;simp[s6]at F
 |some p1=>
  rw[hs1]at F;simp only[s6]at F;cases J:gdP (vZ (b.getD n 0) p1 ps) p1 with
  |none=>rw[J]at F;simp[s7]at F
  |some f2=>
   rw[J]at F;simp only[s7]at F;obtain⟨e3,rfl⟩:=rX J;obtain⟨c1,e5,e6⟩:=hA.step (I.ok _ a2) d6 hs1;refine⟨c1,e5, ?_⟩;have b4:=O.nx;rw[e]at b4;have d5:=dX.1 b4
   obtain⟨seg,b6,p2,f1,k1,k2,k3,k4,k5,k6,k7⟩:=oz (V:=un pre listed) F e6 (fun f W=>I.ok f (y f (aw _ W))) (fun f W=>I.self f (y f (aw _ W)))
    (bV.1 d5.2.1).2 (fun g J f W=>d5.2.2 g (dd.1 J).1 f (aw _ W))
    (fun g J=>by obtain⟨d,hd,_⟩:=I.self g (E g (dd.1 J).1) (a7 g J);exact⟨d,hd⟩)
    (fun g J=>by
     obtain⟨a8,a6⟩:=dd.1 J;rcases se e3 (c7 g a8 (a7 g J))with h|h
     ·obtain⟨_,_,_,e8⟩:=I.item g (E g a8)
      rw[b3 g.n e8 h]at a6;cases a6
     ·exact h)
   have e9:∀g∈pre,g≠⟨n,false,i⟩:=fun g J e2=>by have:=(dX.1 d1).2.2 g J _ (aB ..);rw[e2]at this;exact this rfl
   have e4:∀g∈r,g≠⟨n,false,i⟩:=fun g J e2=>by have:=(bV.1 (dX.1 d1).2.1).1 g J;rw[e2]at this;exact this rfl
   have c3:un (pre++⟨n,false,i⟩::seg) (listed.setIfInBounds n true)=un pre listed++seg:=by
    unfold un;rw[List.filter_append,fe];have e1:(listed.setIfInBounds n true).getD n true=true:=by rw[iw (by rw[hs];exact c5)];simp
    simp only[e1,Bool.not_true,aO,if_false]
    congr 1
    ·apply List.filter_congr
     intro g J;have:=Q g (E g J);simp only at this;rw[this,if_neg (e9 g J)]
    ·apply jh.2
     intro g J;have d3:g∈r:=by rw[k1];exact am.2 (.inl J)
     have d4:g∈⟨n,false,i⟩::r:=aw _ d3;have:=Q g (y g d4);simp only at this;rw[this,if_neg (e4 g d3),L g d4];rfl
   refine⟨pre++⟨n,false,i⟩::seg,b6,p2,f1,by rw[e,k1];simp,k3,k4, ?_, ?_, ?_, ?_, ?_⟩
   ·intro f W a1
    rcases am.1 W with h|h
    ·exact k5 f (.inl (c7 f h a1))
    ·rcases av.1 h with rfl|h
     ·cases a1
     ·exact k5 f (.inr h)
   ·intro f W a1
    rcases am.1 W with h|h
    ·rw[Q f (E f h)]
     split
     ·rfl
     ·exact Z f h a1
    ·rcases av.1 h with rfl|h
     ·rw[Q _ a2,if_pos rfl]
     ·rw[k2 f h]at a1;cases a1
   ·intro f W
    have d2:f∈r:=by rw[k1];exact am.2 (.inr W)
    have d7:f∈⟨n,false,i⟩::r:=aw _ d2;rw[Q f (y f d7),if_neg (e4 f d2)];exact L f d7
   ·rw[c3,cf]
    refine⟨fun m hm=>k6.get m (fun h=>hm ?_),k6.ob,k6.tk,k6.dom⟩;rw[am]at h ⊢;exact h.symm
   ·rw[c3]
    intro f W;exact k7 f (am.1 W)
theorem KZ{k:Nat}{g:Nat}{A:List LAa}(h:l7 b k A=true)(I:∀l,A.head? =some l->g∈l)(Q:∀l,A.head? =some l->∀x∈l,x≠g->(b.getD g 0).testBit x=false):
 ∃O,l7 b O (A.filterMap fun p=>match p with|x::r=>if x=g then some r else none|[]=>none)=true:=by
 cases A with
 |nil=>cases k<;>simp[l7]at h
 |cons l A=>
  cases l with
  |nil=>have:=I [] rfl;cases this
  |cons y t=>
   cases k with
   |zero=>simp[l7]at h
   |succ k=>
    simp only[l7,bf]at h;have E:=h g (I _ rfl);rw[fF]at E;rcases E with E|E
    ·exfalso
     rw[List.any_eq_true]at E;obtain⟨x,J,F⟩:=E;rw[aC]at F;have L:=of_decide_eq_true F.1;have:=Q _ rfl x J L;unfold oV at F;rw[F.2]at this;cases this
    ·exact⟨k,E⟩
theorem uP{R R':List FI->LAa}{g:Nat}:∀{A:List (List FI)},(∀σ∈A,∀r,R σ=g::r->R' σ=r)->
 (A.filter fun σ=>decide ((R σ).head? =some g)).map R'=(A.map R).filterMap fun p=>match p with|x::r=>if x=g then some r else none|[]=>none
 |[],_=>rfl
 |σ::A,h=>by
  have F:=uP (R:=R) (R':=R') (g:=g) (A:=A) fun τ J=>h τ (aw _ J)
  have I:=h σ (aB ..);rw[fe,aI,List.filterMap_cons];cases hR:R σ with
  |nil=>simp only[List.head?_nil,reduceCtorEq,decide_false,aO,if_false];exact F
  |cons y t=>
   by_cases E:y=g
   ·subst E
    simp only[List.head?_cons,decide_true,if_true,aI,I t hR];rw[F]
   ·have:¬(some y=some g):=fun e=>E (by injection e)
    simp only[List.head?_cons,this,decide_false,aO,if_false,E];exact F
theorem Lh(
 hcal:gY P call)(I:UB P N ops its b){ords:List (List FI)}(hO:∀σ∈ords,xa3 its b σ){Q:LBa}(hQ:∀a w,M C N cF a w->Q .normal a w):
 ∀(W:Nat)(listed:Array Bool)(c:CSt)(a:Act)(w:World)(A:List (List FI))(k:Nat),(un its listed).length<=W->listed.size=ops.size->
  (∀(i:Nat)(o:Oper)(k:Nat),ops[i]? =some o->listed.getD i true=true->k<ops.size->(b.getD i 0).testBit k=true->listed.getD k true=true)->
  (∀σ∈A,σ∈ords/\rm call sg N b σ cF listed c)->l7 b k (A.map fun σ=>fX (un σ listed))=true->M C N c a w->wpAny P .any ops Q W listed a w:=by
 classical
 have f2:∀(listed:Array Bool),listed.size=ops.size->∀k,k<ops.size->listed.getD k false=listed.getD k true:=by intro listed hs k hk;simp[lj,hs,hk]
 have done:∀(listed:Array Bool)(c:CSt)(a:Act)(w:World)(A:List (List FI))(k:Nat),un its listed=[]->(∀σ∈A,σ∈ords/\rm call sg N b σ cF listed c)->l7 b k (A.map fun σ=>fX (un σ listed))=true->M C N c a w->Region.ready .any ops listed=[]/\Q .normal a w:=by
  intro listed c a w A k h0 g8 F hM;constructor
  ·rw[List.eq_nil_iff_forall_not_mem]
   intro j hj;obtain⟨h1,o,h2,h3⟩:=mem_ready.1 hj;have f4:j<ops.size:=(di.1 h2).1;obtain⟨E,J,rfl⟩:=I.ex j f4;have:E∈un its listed:=dd.2 ⟨J,h1⟩;rw[h0]at this;cases this
  ·cases A with
   |nil=>cases k<;>simp[l7]at F
   |cons σ A=>
    obtain⟨Z,O⟩:=g8 σ (aB ..)
    have d3:un σ listed=[]:=by rw[List.eq_nil_iff_forall_not_mem];intro f hf;obtain⟨h1,h2⟩:=dd.1 hf;have:f∈un its listed:=dd.2 ⟨((hO σ Z).mem f).1 h1,h2⟩;rw[h0]at this;cases this
    obtain⟨pre,post,p,ps,e,hp,a7,_,_,b6,hA,_⟩:=O.ex
    have g2:post=[]:=by
     cases post with
     |nil=>rfl
     |cons f r=>have:f∈un σ listed:=dd.2 ⟨by rw[e];simp,b6 f (aB ..)⟩;rw[d3]at this;cases this
    subst g2;simp only[fJ,ax.injEq]at a7;subst a7;have hD:un pre listed=[]:=by rw[<-d3,e,bx]
    rw[hD]at hA;refine hQ a w ?_;obtain⟨x,s,f7,b3⟩:=hM;refine M.slots (c:=c) ⟨x,s,f7,b3⟩ ⟨hA.dom,by rw[<-hA.ob];exact b3.inv.so,by rw[<-hA.ob];exact b3.inv.wf⟩ hA.ob.symm hA.tk.symm (fun i=> .inl (hA.get i (by simp)).symm)
 intro W;induction W with
 |zero=>intro listed c a w A k hf hs c3 O F hM;exact done listed c a w A k (cu.1 (by omega)) O F hM
 |succ W ih=>
  intro listed c a w A k hf hs c3 O F hM;constructor
  ·intro e7
   by_cases h0:un its listed=[]
   ·exact(done listed c a w A k h0 O F hM).2
   ·exfalso
    have hp:∃n,∃f∈un its listed,f.n=n:=by
     cases hc:un its listed with
     |nil=>exact absurd hc h0
     |cons f r=>exact⟨_,f,aB ..,rfl⟩
    obtain⟨n,⟨f,g5,i4⟩,e0⟩:=xhS _ hp;obtain⟨h1,h2⟩:=dd.1 g5;obtain⟨o,h3,_,h4⟩:=I.item f h1
    have:f.n∈Region.ready .any ops listed:=by refine mem_ready.2 ⟨h2,o,h3,fun e he hb=> ?_⟩;have e9:=I.back f.n o h3 e he hb;rw[f2 listed hs _ (by omega),<-Bool.not_eq_false];intro f5;obtain⟨g,hg,f0⟩:=I.ex e.on (by omega);have:=e0 e.on ⟨g,dd.2 ⟨hg,by rw[f0];exact f5⟩,f0⟩;omega
    rw[e7]at this;cases this
  ·intro i i1
   obtain⟨h1,o,h2,h3⟩:=mem_ready.1 i1;have a2:i<ops.size:=(di.1 h2).1;obtain⟨E,J,rfl⟩:=I.ex i a2;obtain⟨o',e3,a8,_⟩:=I.item E J;rw[h2]at e3;cases e3
   have L:∀k,k<ops.size->(b.getD E.n 0).testBit k=true->listed.getD k true=true:=by
    intro k hk hb;obtain⟨e,he,e6,g6⟩:=I.bit E.n o k h2 hk hb;have c5:=h3 e he e6;have g9:=I.back E.n o h2 e he e6;rw[f2 listed hs _ (by omega)]at c5;rcases g6 with h|h
    ·rw[<-h];exact c5
    ·exact c3 e.on (ops[e.on]'(by omega)) k (by simp) c5 hk h
   have i3:(un its (listed.setIfInBounds E.n true)).length<(un its listed).length:=by rw[BC hs a2];refine List.length_filter_lt_length_iff_exists.2 ⟨E,dd.2 ⟨J,h1⟩,by simp⟩
   have b1:∀(i:Nat)(o:Oper)(k:Nat),ops[i]? =some o->(listed.setIfInBounds E.n true).getD i true=true->k<ops.size->(b.getD i 0).testBit k=true->(listed.setIfInBounds E.n true).getD k true=true:=by
    intro i2 o2 f1 g4 b7 d6 d5;rw[iw (by omega)]at b7 ⊢;split
    ·rfl
    ·split at b7
     ·rename_i e1
      subst e1;exact L f1 d6 d5
     ·exact c3 i2 o2 f1 g4 b7 d6 d5
   have e5:(listed.setIfInBounds E.n true).size=ops.size:=by simpa using hs
   obtain⟨σ0,A0,a1⟩:∃σ A',A=σ::A':=by
    cases A with
    |nil=>cases k<;>simp[l7]at F
    |cons σ A'=>exact⟨σ,A',rfl⟩
   cases hq:E.q with
   |true=>
    obtain⟨g3,h8⟩:=O σ0 (by rw[a1];exact aB ..);obtain⟨v,hv,_⟩:=DT hs I (hO σ0 g3) h8 J h1 hq L;refine ie hcal hM (I.ok E J) h2 a8 (pQ (call:=call) (sg:=sg) hv) fun a' w' c7=> ?_
    refine ih _ _ a' w' A k (by omega) e5 b1 (fun σ Z=>⟨(O σ Z).1, ?_⟩) ?_ c7
    ·obtain⟨v',e2,i0⟩:=DT hs I (hO σ (O σ Z).1) (O σ Z).2 J h1 hq L
     rw[hv]at e2;injection e2 with e;subst e
     exact i0
    ·have:(A.map fun σ=>fX (un σ (listed.setIfInBounds E.n true)))=A.map fun σ=>fX (un σ listed):=by
      apply List.map_congr_left;intro σ Z;rw[BC hs a2,lr,jh];intro x hx;obtain⟨f,hf,b4,rfl⟩:=rO.1 hx;have d1:=((hO σ (O σ Z).1).mem f).1 (dd.1 hf).1;have:¬f.n=E.n:=fun e=>by rw[I.inj f d1 E J e,hq]at b4;cases b4
      simp[this]
     rw[this];exact F
   |false=>
    have b5:∀σ∈A,E.n∈fX (un σ listed):=fun σ Z=>rO.2 ⟨E,dd.2 ⟨((hO σ (O σ Z).1).mem E).2 J,h1⟩,hq,rfl⟩
    obtain⟨k',a6⟩:=KZ (g:=E.n) F (fun l hl=>by
     rw[a1]at hl;simp only[aI,List.head?_cons,ax.injEq]at hl;rw[<-hl];exact b5 σ0 (by rw[a1];exact aB ..)) (fun l hl y hy j0=>by
     rw[a1]at hl;simp only[aI,List.head?_cons,ax.injEq]at hl;rw[<-hl]at hy;obtain⟨f,hf,b4,rfl⟩:=rO.1 hy;obtain⟨g1,e4⟩:=dd.1 hf;have d1:=((hO σ0 (O σ0 (by rw[a1];exact aB ..)).1).mem f).1 g1;obtain⟨_,_,_,e9⟩:=I.item f d1;rw[<-Bool.not_eq_true];intro hb;rw[L f.n e9 hb]at e4;cases e4)
    rw[<-uP (R:=fun σ=>fX (un σ listed)) (R':=fun σ=>fX (un σ (listed.setIfInBounds E.n true))) (fun σ Z r hR=>by
     show fX (un σ (listed.setIfInBounds E.n true))=r;rw[BC hs a2,lr];have e8:fX (un σ listed)=E.n::r:=hR;rw[e8,fe];simp only[decide_true,Bool.not_true,aO,if_false];rw[jh];intro y hy
     have d7:(fX (un σ listed)).Nodup:=by
      have h5:=(hO σ (O σ Z).1).nd
      have h6:(fX (un σ listed)).Sublist (σ.map FI.n):=by
       have h7:(fX (un σ listed)).Sublist ((un σ listed).map FI.n):=by
        unfold fX;rw[show(fun f:FI=>if f.q=true then none else some f.n)=fun f:FI=>if f.q=true then none else some (FI.n f)from rfl];generalize un σ listed=l;induction l with
        |nil=>exact o7.slnil
        |cons f r ih=>
         rw[List.filterMap_cons,aI];cases hq:f.q with
         |true=>exact o7.cons _ ih
         |false=>exact o7.cons_cons _ ih
       exact h7.trans (o7.map _ List.filter_sublist)
      exact h5.sublist h6
     rw[e8]at d7;have:y≠E.n:=fun e=>by rw[e]at hy;exact(eB.1 d7).1 hy
     simp[this])]at a6
    obtain⟨σ1,g7⟩:∃σ,σ∈A.filter fun σ=>decide ((fX (un σ listed)).head? =some E.n):=by
     cases hX:A.filter fun σ=>decide ((fX (un σ listed)).head? =some E.n)with
     |nil=>rw[hX]at a6;cases k'<;>simp[l7]at a6
     |cons σ _=>exact⟨σ,aB ..⟩
    obtain⟨h4,h5⟩:=List.mem_filter.1 g7;obtain⟨c1,d2,_⟩:=DU hs I (hO σ1 (O σ1 h4).1) (O σ1 h4).2 J h1 hq L (of_decide_eq_true h5);refine ie hcal hM (I.ok E J) h2 a8 d2 fun a' w' c7=> ?_
    refine ih _ _ a' w' _ k' (by omega) e5 b1 (fun σ Z=> ?_) a6 c7;obtain⟨h6,h7⟩:=List.mem_filter.1 Z;obtain⟨c2,d4,h9⟩:=DU hs I (hO σ (O σ h6).1) (O σ h6).2 J h1 hq L (of_decide_eq_true h7);rw[d2]at d4;injection d4 with e;subst e
    exact⟨(O σ h6).1,h9⟩
theorem ZN(hl:kz (gT P ops) ops.toList=some (unF its))(hd:drawn ops (unF its)=true)(c5:∀f∈its,f.i.ok N=true)(L:Z4 (Region.before ops).toList its=true)
 (a1:(its.map FI.n).Nodup) (J:∀f∈its,f.n<its.length) (b5:∀j∈bM its.length,(its.map FI.n).contains j=true):
 UB P N ops its (Region.before ops).toList/\(∀f∈its,∀g∈its,f.n≠g.n->∀d,f.i.dst=some d->g.i.dst≠some d)/\its.length=ops.size:=by
 simp only[Z4,bf,fF,cT]at L;obtain⟨b1,a7⟩:=fC hl;have c3:(unF its).length=its.length:=by simp[unF]
 have d3:its.length=ops.size:=by rw[<-c3,b1,aU]
 have W:∀f∈its,(unF its).getD f.n ⟨none,none,.lenC 0⟩=f.i.er:=by intro f E;have:=J f E;rw[aa];simp only[unF,aT,cz this,bB,aM];exact uy _ a1 E
 simp only[drawn,aC,decide_eq_true_eq]at hd;obtain⟨⟨hc,ht⟩,Q⟩:=hd
 have a2:∀f∈its,∃o,ops[f.n]? =some o/\gT P ops o=some f.i.er/\f.n<ops.size:=by
  intro f E;have d5:=J f E;have b3:f.n<ops.toList.length:=by rw[aU];omega
  refine⟨ops.toList[f.n],by rw[<-cY,ac b3], ?_,by omega⟩;have y:=a7 f.n b3 (by omega);rw[y]
  congr 1
  have I:=W f E;rwa[aa,ac (by omega),aM]at I
 have a8:∀f∈its,∀g∈its,f.n=g.n->f=g:=by
  intro f E g hg e;have:its.Pairwise fun f g=>f.n≠g.n:=by rw[zZ,ii]at a1;exact a1
  rw[iS]at this;obtain⟨i,hi,rfl⟩:=List.mem_iff_getElem.1 E;obtain⟨j,hj,rfl⟩:=List.mem_iff_getElem.1 hg;rcases Nat.lt_trichotomy i j with h|h|h
  ·exact absurd e (this i j hi hj h)
  ·subst h;rfl
  ·exact absurd e.symm (this j i hj hi h)
 have d1:∀f∈its,∀g∈its,f.n≠g.n->∀d,f.i.dst=some d->g.i.dst≠some d:=by
  have O:∀f∈its,∀g∈its,f.n<g.n->∀d,f.i.dst=some d->g.i.dst≠some d:=by
   intro f E g hg b4 d y I
   have b6:(unF its).Pairwise fun u v=>∀d,u.dst=some d->v.dst≠some d:=by rw[zZ,List.pairwise_filterMap]at Q;refine Q.imp ?_;intro u v d2 d hu hv;exact d2 d hu d hv rfl
   rw[iS]at b6;have d6:=J f E;have d7:=J g hg
   have g1:(unF its)[f.n]'(by omega)=f.i.er:=by have:=W f E;rwa[aa,ac (by omega),aM]at this
   have g2:(unF its)[g.n]'(by omega)=g.i.er:=by have:=W g hg;rwa[aa,ac (by omega),aM]at this
   exact b6 f.n g.n (by omega) (by omega) b4 d (by rw[g1];exact y) (by rw[g2];exact I)
  intro f E g hg e0 d y I;rcases bK f.n g.n with h|h
  ·exact O f E g hg h d y I
  ·exact O g hg f E (by omega) d I y
 have F:∀(i:Nat)(o:Oper),ops[i]? =some o->(∀e∈o.after,Region.binds .any e=true->e.on<i)/\
  ∀k,k<ops.size->((Region.before ops).toList.getD i 0).testBit k=true->∃e∈o.after,Region.binds .any e=true/\(e.on=k\/((Region.before ops).toList.getD e.on 0).testBit k=true):=by
  intro i o ho;unfold sr at hc;rw[bf]at hc;have hi:i<ops.size:=(di.1 ho).1
  have y:=hc (o,i) (by rw[List.mem_zipIdx_iff_getElem?];simpa using ho)
  simp only[aC,Array.all_eq_true_iff_forall_mem,bf,fF,cT,decide_eq_true_eq]at y;refine⟨fun e he hb=>(y.1 e he).resolve_left (by simp[hb]),fun k hk hb=> ?_⟩;have I:=(y.2 k (eV.2 hk)).resolve_left (by simp only[hb];simp);obtain⟨_,h3⟩:=I;rw[<-Array.any_toList,List.any_eq_true]at h3;obtain⟨e,he,h4⟩:=h3;rw[Array.mem_toList_iff]at he;simp only[aC,fF,beq_iff_eq]at h4;exact⟨e,he,h4.1,h4.2⟩
 have hq:∀q∈its,q.q=true->∃d,q.i.dst=some d/\∀p∈its,d∈p.i.rds->((Region.before ops).toList.getD p.n 0).testBit q.n=true/\p.n≠q.n:=by
  intro q hq Z;have y:=(L q hq).resolve_left (by rw[Z];simp);cases hd:q.i.dst with
  |none=>rw[hd]at y;cases y
  |some d=>
   rw[hd]at y;simp only[bf,fF,cT,aC,decide_eq_true_eq,oV]at y;refine⟨d,rfl,fun p hp hr=> ?_⟩;rcases y p hp with I|I
   ·rw[fE]at I;simp only[decide_eq_false_iff_not]at I;exact absurd hr I
   ·exact I
 have a6:∀f∈its,Br f:=by intro f E L;obtain⟨d,hd,y⟩:=hq f E L;exact⟨d,hd,fun h=>(y f E h).2 rfl⟩
 have d4:∀q∈its,q.q=true->∀p∈its,∀d,q.i.dst=some d->d∈p.i.rds->((Region.before ops).toList.getD p.n 0).testBit q.n=true:=by intro q b7 Z p hp d hd hr;obtain⟨d',c7,y⟩:=hq q b7 Z;rw[c7]at hd;cases hd;exact(y p hp hr).1
 refine⟨⟨a2,fun j hj=> ?_,a8,fun i o ho=>(F i o ho).1,fun i o k ho hk hb=>(F i o ho).2 k hk hb,c5,a6,d4⟩,d1,d3⟩;have:=b5 j (eV.2 (by omega));rw[fE]at this;simp only[decide_eq_true_eq]at this;obtain⟨f,E,e⟩:=aZ.1 this;exact⟨f,E,e⟩
theorem oC{l:List FI}(h:(l.map FI.n).Nodup){f:FI}(y:f∈l):xz l f.n=f:=by
 induction l with
 |nil=>cases y
 |cons g r E=>
  simp only[aI,eB]at h;simp only[xz];rcases av.1 y with rfl|y
  ·rw[if_pos rfl]
  ·rw[if_neg,E h.2 y]
   intro e;apply h.1;rw[e];exact jf y
theorem yO{l:List FI}{f:FI}:∀{p:LAa},f∈jt l p↔∃k∈p,xz l k=f
 |[]=>by simp[jt]
 |k::r=>by
  simp only[jt,av,yO (p:=r)];constructor
  ·rintro(h|⟨j,y,h⟩)
   ·exact⟨k,.inl rfl,h.symm⟩
   ·exact⟨j,.inr y,h⟩
  ·rintro⟨j,rfl|y,h⟩
   ·exact .inl h.symm
   ·exact .inr ⟨j,y,h⟩
theorem yR{l:List FI}(h:(l.map FI.n).Nodup):∀{p:LAa},(∀k∈p,k∈l.map FI.n)->(jt l p).map FI.n=p
 |[],_=>rfl
 |k::r,hp=>by simp only[jt,aI];rw[yR h (p:=r) fun j y=>hp j (aw _ y)];obtain⟨f,E,e⟩:=aZ.1 (hp k (aB ..));rw[<-e,oC h E]
theorem He{s:Nat}(l:List FI):AA b (some s) l=true->∀g∈l,g.q=true->(b.getD g.n 0).testBit s=true\/∃h∈l,(b.getD g.n 0).testBit h.n=true:=by
 induction l generalizing s with
 |nil=>intro _ g y;cases y
 |cons f r I=>
  intro h g y F;simp only[AA]at h;split at h
  ·simp only[aC,oV]at h
   rcases av.1 y with rfl|y
   ·exact .inl h.1
   ·rcases I h.2 g y F with E|⟨k,hk,E⟩
    ·exact .inl E
    ·exact .inr ⟨k,aw _ hk,E⟩
  ·rename_i J
   rcases av.1 y with rfl|y
   ·exact absurd F J
   ·rcases I h g y F with E|⟨k,hk,E⟩
    ·exact .inr ⟨f,aB ..,E⟩
    ·exact .inr ⟨k,aw _ hk,E⟩
theorem vk:∀{pre:List FI}{s:LAb}{f:FI}{r:List FI},AA b s (pre++f::r)=true->f.q=false->AA b (some f.n) r=true
 |[],s,f,r,h,hf=>by simp only[aE,AA,hf,aO,if_false]at h;exact h
 |g::pre,s,f,r,h,hf=>by
  simp only[bi,AA]at h;split at h
  ·rw[aC]at h;exact vk h.2 hf
  ·exact vk h hf
theorem oR:∀{l:List FI},xA b l=true->l.Pairwise fun p q=>(b.getD p.n 0).testBit q.n=false
 |[],_=>fP.nil
 |p::r,h=>by simp only[xA,aC,bf]at h;refine bV.2 ⟨fun q y=> ?_,oR h.2⟩;have:=h.1 q y;simpa only[cT,oV]using this
theorem zU{l:List FI}:∀{ps:List LAa},jV call sg b l ps c=some cF->∀p∈ps,fJ call sg b (jt l p) [] c=some cF
 |[],h,p,hp=>by cases hp
 |[q],h,p,hp=>by rw[bj.1 hp];exact h
 |q::I::r,h,p,hp=>by
  simp only[jV]at h;cases h1:fJ call sg b (jt l q) [] c with
  |none=>rw[h1]at h;simp[px]at h
  |some y=>
   cases h2:jV call sg b l (I::r) c with
   |none=>rw[h1,h2]at h;simp[px]at h
   |some z=>
    rw[h1,h2]at h;obtain⟨F,E⟩:=rX h;rcases av.1 hp with rfl|hp
    ·rw[h1,E]
    ·exact zU (h2.trans (by rw[<-F,E])) p hp
theorem HP(b5:gY P call){id:Nat}(hl:kz (gT P ops) ops.toList=some (unF its))(hd:drawn ops (unF its)=true)(hm:P.follows .mixedOrders=true)
 (c7:its.all (fun f=>f.i.ok N)=true) {ps:List LAa} (a1:V8 (Region.before ops).toList its ps=true) {Q:LBa} (hQ:∀a w,M C N cF a w->Q .normal a w) (hM:M C N c a w)
 (h:jV call sg (Region.before ops).toList its ps c=some cF):(Code.region id ops true).wp P Q a w:=by
 simp only[V8,aC,decide_eq_true_eq]at a1;obtain⟨⟨⟨⟨⟨d4,W⟩,d1⟩,a7⟩,b3⟩,hc⟩:=a1;rw[bf]at c7 d1 a7 b3;obtain⟨I,d3,e0⟩:=ZN hl hd c7 d4 W (fun f y=>of_decide_eq_true (d1 f y)) a7
 have hO:∀σ∈ps.map (jt its),xa3 its (Region.before ops).toList σ:=by
  intro σ hσ;obtain⟨p,hp,rfl⟩:=aZ.1 hσ;have Z:=b3 p hp;simp only[aC,decide_eq_true_eq,bf,fE]at Z;obtain⟨⟨⟨⟨d2,c3⟩,d7⟩,a6⟩,L⟩:=Z;have b7:=yR W c3
  have J:∀f,f∈jt its p↔f∈its:=by
   intro f;rw[yO];constructor
   ·rintro⟨k,hk,rfl⟩
    obtain⟨g,hg,rfl⟩:=aZ.1 (c3 k hk);rw[oC W hg];exact hg
   ·intro y
    exact⟨f.n,d7 f.n (jf y),oC W y⟩
  have F:((jt its p).map FI.n).Nodup:=by rw[b7];exact d2
  refine⟨J,F, ?_,fun pre f r e y g hg hq=> ?_⟩
  ·have Z:(jt its p).Pairwise fun f g=>f.n≠g.n:=by rw[zZ,ii]at F;exact F
   refine((oR L).and Z).imp_of_mem ?_;rintro u v hu hv ⟨h2,h3⟩ d5 d b1;have b4:=(J u).1 hu;have b6:=(J v).1 hv;refine⟨fun hr=> ?_,fun e=>d3 u b4 v b6 h3 d e b1⟩;rw[I.rd v b6 d5 u b4 d b1 hr]at h2;cases h2
  ·rw[e]at a6
   rcases He _ (vk a6 y) g hg hq with Z|⟨k,hk,Z⟩
   ·exact⟨f,aB ..,Z⟩
   ·exact⟨k,aw _ hk,Z⟩
 have E:∀f∈its,(eU ops.size false).getD f.n true=false:=by intro f y;obtain⟨_,_,_,this⟩:=I.item f y;simp[lj,this]
 refine wp_region_any hm ?_;refine Lh (its:=its) (b:=(Region.before ops).toList) (cF:=cF) (sg:=sg) (ords:=ps.map (jt its)) b5 I hO hQ ops.size _ c a _ (ps.map (jt its)) its.length ?_ (by simp) ?_ (fun σ hσ=>⟨hσ, ?_⟩) ?_ ?_
 ·have:(un its (eU ops.size false)).length<=its.length:=List.length_filter_le _ _
  omega
 ·intro i o k ho hl _ _
  have hi:i<ops.size:=(di.1 ho).1;simp[lj,hi]at hl
 ·have O:=hO σ hσ
  obtain⟨p,hp,rfl⟩:=aZ.1 hσ;have c5:=zU h p hp;obtain⟨seg,post,p2,d6,k1,k2,k3,k4,k5,k6,k7⟩:=oz (N:=N) (D:=[]) (V:=[]) c5 ⟨fun _ _=>rfl,rfl,rfl,by obtain⟨x,s,_,hS⟩:=hM;exact hS.inv.dom⟩ (fun f y=>I.ok f ((O.mem f).1 y)) (fun f y=>I.self f ((O.mem f).1 y)) O.nx (by simp) (by simp) (by simp)
  have a2:un seg (eU ops.size false)=seg:=by apply jh.2;intro f y;rw[E f ((O.mem f).1 (by rw[k1];exact am.2 (.inl y)))];rfl
  refine⟨seg,post,p2,d6,k1,k3,k4,fun f y _=>k5 f (.inr y),(fun f y hq=>by rw[k2 f y]at hq;cases hq),fun f y=>E f ((O.mem f).1 (by rw[k1];exact am.2 (.inr y))), ?_, ?_⟩
  ·rw[a2];simpa using k6
  ·rw[a2];intro f y;exact k7 f (.inr y)
 ·rw[List.map_map]
  have:(ps.map ((fun σ=>fX (un σ (eU ops.size false)))∘jt its))=ps.map fun p=>fX (jt its p):=by
   apply List.map_congr_left;intro p hp;show fX (un (jt its p) _)=_
   congr 1
   apply jh.2;intro f y;rw[E f (((hO _ (jf hp)).mem f).1 y)];rfl
  rw[this];exact hc
 ·obtain⟨x,s,a8,hS⟩:=hM
  exact⟨x,s,⟨a8.tm,a8.defers,a8.heap.drawn _⟩,hS⟩
end Go.Sy
namespace Go.Sy
variable [br]
variable {P : Program} {C : Ctx} {x : Sit} {a : Act} {w : World} {N : Nat} {c c' : CSt} {s : St} {T : iL}
def Ex.out:Ex->Exit
 | .n=> .normal
 | .x id=> .exit id
 | .r=> .ret
def EQ(C:Ctx)(N:Nat)(e:Ex)(c':CSt):LBa:=fun h a w=>h=e.out/\M C N c' a w
def xP(P:Program)(T:iL)(n:Nat):Prop:=
 (∀(r:RC)(c:CSt)(e:Ex)(c':CSt),gu T n r c=some (e,c')->∀(code:Code)(C:Ctx)(N:Nat)(a:Act)(w:World),cO P code=r.er->r.ok N=true->M C N c a w->code.wp P (EQ C N e c') a w)/\
 (∀(b:RC)(c:CSt)(e:Ex)(c':CSt),gu T n (.loop b) c=some (e,c')->∀(code:Code)(C:Ctx)(N:Nat)(a:Act)(w:World),cO P code=b.er->b.ok N=true->M C N c a w->Code.rounds P code (EQ C N e c') n a w)
theorem xag{code:Code}{b:gJ}(h:bn P code=some (.loop b)):∃E,code= .loop E/\bn P E=some b:=by
 cases code with
 |loop E=>simp only[bn]at h;obtain⟨L,I,J⟩:=ah.1 h;cases J;exact⟨E,rfl,I⟩
 |region id ops F=>
  simp only[bn]at h;split at h<;>try (cases h;done)
  split at h
  ·rw[aK]at h;cases h.2
  ·cases h
 |seq y z=>simp only[bn]at h;split at h<;>cases h
 |cond c y z=>simp only[bn]at h;split at h<;>cases h
 |block id b=>simp only[bn]at h;obtain⟨_,_,h⟩:=ah.1 h;cases h
 |_=>simp[bn]at h
theorem KN{code:Code}{id:Nat}{b:gJ}(h:bn P code=some (.block id b)):∃E,code= .block id E/\bn P E=some b:=by
 cases code with
 |block id E=>simp only[bn]at h;obtain⟨L,I,J⟩:=ah.1 h;cases J;exact⟨E,rfl,I⟩
 |region id ops F=>
  simp only[bn]at h;split at h<;>try (cases h;done)
  split at h
  ·rw[aK]at h;cases h.2
  ·cases h
 |seq y z=>simp only[bn]at h;split at h<;>cases h
 |cond c y z=>simp only[bn]at h;split at h<;>cases h
 |loop b=>simp only[bn]at h;obtain⟨_,_,h⟩:=ah.1 h;cases h
 |_=>simp[bn]at h
theorem xnE{code:Code}{y z:gJ}(h:bn P code=some (.seq y z)):∃E F,code= .seq E F/\bn P E=some y/\bn P F=some z:=by
 cases code with
 |seq E F=>
  simp only[bn]at h;split at h<;>try (cases h;done)
  rename_i O L J hz;cases h;exact⟨E,F,rfl,J,hz⟩
 |region id ops I=>
  simp only[bn]at h;split at h<;>try (cases h;done)
  split at h
  ·rw[aK]at h;cases h.2
  ·cases h
 |cond c y z=>simp only[bn]at h;split at h<;>cases h
 |block id b=>simp only[bn]at h;obtain⟨_,_,h⟩:=ah.1 h;cases h
 |loop b=>simp only[bn]at h;obtain⟨_,_,h⟩:=ah.1 h;cases h
 |_=>simp[bn]at h
theorem xai{code:Code}{k:Arg}{y z:gJ}(h:bn P code=some (.cond k y z)):∃F E I,code= .cond F E I/\bF P 0 F=some k/\bn P E=some y/\bn P I=some z:=by
 cases code with
 |cond F E I=>
  simp only[bn]at h;split at h<;>try (cases h;done)
  rename_i Z Q W J O hz;cases h;exact⟨F,E,I,rfl,J,O,hz⟩
 |region id ops L=>
  simp only[bn]at h;split at h<;>try (cases h;done)
  split at h
  ·rw[aK]at h;cases h.2
  ·cases h
 |seq y z=>simp only[bn]at h;split at h<;>cases h
 |block id b=>simp only[bn]at h;obtain⟨_,_,h⟩:=ah.1 h;cases h
 |loop b=>simp only[bn]at h;obtain⟨_,_,h⟩:=ah.1 h;cases h
 |_=>simp[bn]at h
theorem xnG{code:Code}{l:LAe}(h:bn P code=some (.ops l)):∃id ops,code= .region id ops false/\kz (gT P ops) ops.toList=some l:=by
 cases code with
 |region id ops E=>
  simp only[bn]at h;split at h<;>try (cases h;done)
  rename_i I F;cases E with
  |false=>simp only[aO,if_false,ax.injEq,gJ.ops.injEq]at h;subst h;exact⟨id,ops,rfl,F⟩
  |true=>simp only[if_true]at h;rw[aK]at h;cases h.2
 |seq y z=>simp only[bn]at h;split at h<;>cases h
 |cond c y z=>simp only[bn]at h;split at h<;>cases h
 |block id b=>simp only[bn]at h;obtain⟨_,_,h⟩:=ah.1 h;cases h
 |loop b=>simp only[bn]at h;obtain⟨_,_,h⟩:=ah.1 h;cases h
 |_=>simp[bn]at h
theorem Ui{code:Code}{b I:LAa}{l:LAe}(h:bn P code=some (.drw b I l)):∃id ops,code= .region id ops true/\kz (gT P ops) ops.toList=some l/\drawn ops l=true/\P.follows .mixedOrders=true/\b=(Region.before ops).toList/\I=xvl l:=by
 cases code with
 |region id ops E=>
  simp only[bn]at h;split at h<;>try (cases h;done)
  rename_i L J;cases E with
  |false=>simp only[aO,if_false,ax.injEq,reduceCtorEq]at h
  |true=>simp only[if_true]at h;rw[aK]at h;obtain⟨F,h⟩:=h;simp only[ax.injEq,gJ.drw.injEq]at h;obtain⟨rfl,rfl,rfl⟩:=h;rw[aC]at F;exact⟨id,ops,rfl,J,F.1,F.2,rfl,rfl⟩
 |seq y z=>simp only[bn]at h;split at h<;>cases h
 |cond c y z=>simp only[bn]at h;split at h<;>cases h
 |block id b=>simp only[bn]at h;obtain⟨_,_,h⟩:=ah.1 h;cases h
 |loop b=>simp only[bn]at h;obtain⟨_,_,h⟩:=ah.1 h;cases h
 |_=>simp[bn]at h
theorem xaf{code:Code}(h:bn P code=some .skip):code= .skip:=by
 cases code with
 |skip=>rfl
 |region id ops E=>
  simp only[bn]at h;split at h<;>try (cases h;done)
  split at h
  ·rw[aK]at h;cases h.2
  ·cases h
 |seq y z=>simp only[bn]at h;split at h<;>cases h
 |cond c y z=>simp only[bn]at h;split at h<;>cases h
 |block id b=>simp only[bn]at h;obtain⟨_,_,h⟩:=ah.1 h;cases h
 |loop b=>simp only[bn]at h;obtain⟨_,_,h⟩:=ah.1 h;cases h
 |_=>simp[bn]at h
theorem xnF{code:Code}(h:bn P code=some .ret):code= .ret:=by
 cases code with
 |ret=>rfl
 |region id ops E=>
  simp only[bn]at h;split at h<;>try (cases h;done)
  split at h
  ·rw[aK]at h;cases h.2
  ·cases h
 |seq y z=>simp only[bn]at h;split at h<;>cases h
 |cond c y z=>simp only[bn]at h;split at h<;>cases h
 |block id b=>simp only[bn]at h;obtain⟨_,_,h⟩:=ah.1 h;cases h
 |loop b=>simp only[bn]at h;obtain⟨_,_,h⟩:=ah.1 h;cases h
 |_=>simp[bn]at h
theorem xah{code:Code}{id:Nat}(h:bn P code=some (.exit id)):code= .exit id:=by
 cases code with
 |exit F=>simp only[bn,ax.injEq,gJ.exit.injEq]at h;rw[h]
 |region id ops E=>
  simp only[bn]at h;split at h<;>try (cases h;done)
  split at h
  ·rw[aK]at h;cases h.2
  ·cases h
 |seq y z=>simp only[bn]at h;split at h<;>cases h
 |cond c y z=>simp only[bn]at h;split at h<;>cases h
 |block id b=>simp only[bn]at h;obtain⟨_,_,h⟩:=ah.1 h;cases h
 |loop b=>simp only[bn]at h;obtain⟨_,_,h⟩:=ah.1 h;cases h
 |_=>simp[bn]at h
theorem fI{id:Nat}{ops:Array Oper}{y:Bool}{s:gJ}(h:cO P (.region id ops y)=s)(E:s≠ .bad):bn P (.region id ops y)=some s:=by
 rw[cO]at h;split at h
 ·rename_i I F;rw[<-h];exact F
 ·exact absurd h.symm E
theorem i7{k:Operand}{y z:Code}{s:gJ}(h:cO P (.cond k y z)=s)(F:s≠ .bad):∃a,bF P 0 k=some a/\s= .cond a (cO P y) (cO P z):=by
 rw[cO]at h;split at h
 ·rename_i a E;exact⟨a,E,h.symm⟩
 ·exact absurd h.symm F
theorem xas{code:Code}{b:gJ}(h:cO P code= .loop b):∃E,code= .loop E/\cO P E=b:=by
 cases code with
 |loop E=>rw[cO]at h;cases h;exact⟨E,rfl,rfl⟩
 |region id ops I=>have J:=fI h (by simp);have F:=xag J;simp at F
 |seq y z=>rw[cO]at h;cases h
 |cond k y z=>obtain⟨a,_,F⟩:=i7 h (by simp);cases F
 |block id b=>rw[cO]at h;cases h
 |skip=>rw[cO]at h;cases h
 |exit id=>rw[cO]at h;cases h
 |ret=>rw[cO]at h;cases h
 |_=>simp[cO]at h
theorem KS{code:Code}{id:Nat}{b:gJ}(h:cO P code= .block id b):∃E,code= .block id E/\cO P E=b:=by
 cases code with
 |block id E=>rw[cO]at h;cases h;exact⟨E,rfl,rfl⟩
 |region id ops I=>have J:=fI h (by simp);have F:=KN J;simp at F
 |seq y z=>rw[cO]at h;cases h
 |cond k y z=>obtain⟨a,_,F⟩:=i7 h (by simp);cases F
 |loop b=>rw[cO]at h;cases h
 |skip=>rw[cO]at h;cases h
 |exit id=>rw[cO]at h;cases h
 |ret=>rw[cO]at h;cases h
 |_=>simp[cO]at h
theorem xnH{code:Code}{y z:gJ}(h:cO P code= .seq y z):∃E F,code= .seq E F/\cO P E=y/\cO P F=z:=by
 cases code with
 |seq E F=>rw[cO]at h;cases h;exact⟨E,F,rfl,rfl,rfl⟩
 |region id ops J=>have L:=fI h (by simp);have I:=xnE L;simp at I
 |cond k y z=>obtain⟨a,_,I⟩:=i7 h (by simp);cases I
 |block id b=>rw[cO]at h;cases h
 |loop b=>rw[cO]at h;cases h
 |skip=>rw[cO]at h;cases h
 |exit id=>rw[cO]at h;cases h
 |ret=>rw[cO]at h;cases h
 |_=>simp[cO]at h
theorem xnK{code:Code}{k:Arg}{y z:gJ}(h:cO P code= .cond k y z):∃F E I,code= .cond F E I/\bF P 0 F=some k/\cO P E=y/\cO P I=z:=by
 cases code with
 |cond F E I=>obtain⟨a,J,L⟩:=i7 h (by simp);cases L;exact⟨F,E,I,rfl,J,rfl,rfl⟩
 |region id ops O=>have J:=fI h (by simp);have L:=xai J;simp at L
 |seq y z=>rw[cO]at h;cases h
 |block id b=>rw[cO]at h;cases h
 |loop b=>rw[cO]at h;cases h
 |skip=>rw[cO]at h;cases h
 |exit id=>rw[cO]at h;cases h
 |ret=>rw[cO]at h;cases h
 |_=>simp[cO]at h
theorem xar{code:Code}(h:cO P code= .skip):code= .skip:=by
 cases code with
 |skip=>rfl
 |region id ops F=>have I:=fI h (by simp);have E:=xaf I;simp at E
 |seq y z=>rw[cO]at h;cases h
 |cond k y z=>obtain⟨a,_,E⟩:=i7 h (by simp);cases E
 |block id b=>rw[cO]at h;cases h
 |loop b=>rw[cO]at h;cases h
 |exit id=>rw[cO]at h;cases h
 |ret=>rw[cO]at h;cases h
 |_=>simp[cO]at h
theorem xnI{code:Code}(h:cO P code= .ret):code= .ret:=by
 cases code with
 |ret=>rfl
 |region id ops F=>have I:=fI h (by simp);have E:=xnF I;simp at E
 |seq y z=>rw[cO]at h;cases h
 |cond k y z=>obtain⟨a,_,E⟩:=i7 h (by simp);cases E
 |block id b=>rw[cO]at h;cases h
 |loop b=>rw[cO]at h;cases h
 |skip=>rw[cO]at h;cases h
 |exit id=>rw[cO]at h;cases h
 |_=>simp[cO]at h
theorem xat{code:Code}{id:Nat}(h:cO P code= .exit id):code= .exit id:=by
 cases code with
 |exit J=>rw[cO]at h;cases h;rfl
 |region id ops F=>have I:=fI h (by simp);have E:=xah I;simp at E
 |seq y z=>rw[cO]at h;cases h
 |cond k y z=>obtain⟨a,_,E⟩:=i7 h (by simp);cases E
 |block id b=>rw[cO]at h;cases h
 |loop b=>rw[cO]at h;cases h
 |skip=>rw[cO]at h;cases h
 |ret=>rw[cO]at h;cases h
 |_=>simp[cO]at h
theorem xnJ{code:Code}{l:LAe}(h:cO P code= .ops l):bn P code=some (.ops l):=by
 cases code with
 |region id ops E=>exact fI h (by simp)
 |seq y z=>rw[cO]at h;cases h
 |cond k y z=>obtain⟨a,_,F⟩:=i7 h (by simp);cases F
 |block id b=>rw[cO]at h;cases h
 |loop b=>rw[cO]at h;cases h
 |skip=>rw[cO]at h;cases h
 |exit id=>rw[cO]at h;cases h
 |ret=>rw[cO]at h;cases h
 |_=>simp[cO]at h
theorem Uj{code:Code}{b E:LAa}{l:LAe}(h:cO P code= .drw b E l):bn P code=some (.drw b E l):=by
 cases code with
 |region id ops F=>exact fI h (by simp)
 |seq y z=>rw[cO]at h;cases h
 |cond k y z=>obtain⟨a,_,I⟩:=i7 h (by simp);cases I
 |block id b=>rw[cO]at h;cases h
 |loop b=>rw[cO]at h;cases h
 |skip=>rw[cO]at h;cases h
 |exit id=>rw[cO]at h;cases h
 |ret=>rw[cO]at h;cases h
 |_=>simp[cO]at h
theorem xV{n:Nat}(hR:xP P T n)(L:gY P (fz T n)){r:RC}{c:CSt}{e:Ex}{c':CSt}(h:eC (gu T n) (fz T n) T.sg r c=some (e,c'))(hl:∀b,r≠ .loop b){code:Code}{C:Ctx}{N:Nat}{a:Act}{w:World}
 (J:cO P code=r.er) (E:r.ok N=true) (hM:M C N c a w):code.wp P (EQ C N e c') a w:=by
 cases r with
 |skip=>
  cases h;have:=xar (by simpa[RC.er]using J);subst this;exact wp_skip ⟨rfl,hM⟩
 |ret=>
  cases h;have:=xnI (by simpa[RC.er]using J);subst this;exact wp_ret ⟨rfl,hM⟩
 |exit id=>
  cases h;have:=xat (by simpa[RC.er]using J);subst this;exact wp_exit ⟨rfl,hM⟩
 |ops l=>
  obtain⟨id,ops,rfl,hl'⟩:=xnG (xnJ (by simpa[RC.er]using J));simp only[eC]at h;cases hs:gw (fz T n) T.sg l c with
  |none=>rw[hs]at h;cases h
  |some c1=>rw[hs]at h;simp only[nrm,rQ,ax.injEq,bD.injEq]at h;obtain⟨rfl,rfl⟩:=h;refine wp_region ?_;rw[List.range_eq_range'];exact AT L hl' l ops.size 0 (by omega) (by simp) E hM hs fun a w h=>⟨rfl,h⟩
 |flt b Z l I=>
  obtain⟨id,ops,rfl,hl',hdr,hmo,rfl,rfl⟩:=Ui (Uj (by simpa[RC.er]using J));simp only[RC.ok,aC]at E;simp only[eC]at h;cases hs:fJ (fz T n) T.sg (Region.before ops).toList l [] c with
  |none=>rw[hs]at h;cases h
  |some c1=>rw[hs]at h;simp only[nrm,ax.injEq,bD.injEq]at h;obtain⟨rfl,rfl⟩:=h;exact HO L hl' hdr hmo E.1 E.2 (fun a w h=>⟨rfl,M.kill h I⟩) hM hs
 |fla b Z l ps I=>
  obtain⟨id,ops,rfl,hl',hdr,hmo,rfl,rfl⟩:=Ui (Uj (by simpa[RC.er]using J));simp only[RC.ok,aC]at E;simp only[eC]at h;cases hs:jV (fz T n) T.sg (Region.before ops).toList l ps c with
  |none=>rw[hs]at h;cases h
  |some c1=>rw[hs]at h;simp only[nrm,ax.injEq,bD.injEq]at h;obtain⟨rfl,rfl⟩:=h;exact HP L hl' hdr hmo E.1 E.2 (fun a w h=>⟨rfl,M.kill h I⟩) hM hs
 |seq y z=>
  obtain⟨y',z',rfl,hy,hz⟩:=xnH (by simpa[RC.er]using J);simp only[RC.ok,aC]at E;simp only[eC]at h;cases hs:gu T n y c with
  |none=>rw[hs]at h;cases h
  |some p=>
   obtain⟨Q,c1⟩:=p;rw[hs]at h;refine wp_seq (wp_mono (hR.1 _ _ _ _ hs y' C N a w hy E.1 hM) ?_);rintro e' a' w' ⟨rfl,F⟩;cases Q with
   |n=>exact hR.1 _ _ _ _ h z' C N a' w' hz E.2 F
   |x id=>cases h;exact⟨rfl,F⟩
   |r=>cases h;exact⟨rfl,F⟩
 |cond k y z=>
  obtain⟨k',y',z',rfl,hk,hy,hz⟩:=xnK (by simpa[RC.er]using J);simp only[RC.ok,aC]at E;simp only[eC]at h;unfold cnd at h;split at h<;>try (cases h;done)
  rename_i t ht
  have hv:a.eval k'= .bool t:=by obtain⟨x,s,a1,hS⟩:=hM;have O:=aP a1 hk;rw[hS.ev,ht]at O;exact O.bool_inv
  refine wp_cond_split hv (fun e=> ?_) (fun e=> ?_)
  ·subst e
   rw[if_pos rfl]at h;exact hR.1 _ _ _ _ h y' C N a w hy E.1 hM
  ·subst e
   rw[if_neg (by simp)]at h;exact hR.1 _ _ _ _ h z' C N a w hz E.2 hM
 |block id b=>
  obtain⟨b',rfl,hb⟩:=KS (by simpa[RC.er]using J);simp only[eC]at h;cases hs:gu T n b c with
  |none=>rw[hs]at h;cases h
  |some p=>
   obtain⟨Q,c1⟩:=p;rw[hs]at h;refine wp_block (wp_mono (hR.1 _ _ _ _ hs b' C N a w hb E hM) ?_);rintro e' a' w' ⟨rfl,F⟩;cases Q with
   |n=>cases h;exact⟨rfl,F⟩
   |r=>cases h;exact⟨rfl,F⟩
   |x a2=>
    simp only[blk]at h;simp only[Ex.out,Exit.inBlock];split at h<;>rename_i W
    ·cases h;rw[if_pos W];exact⟨rfl,F⟩
    ·cases h;rw[if_neg W];exact⟨rfl,F⟩
 |loop b=>exact absurd rfl (hl b)
 |bad=>cases h
 |pre Z y=>
  simp only[eC]at h;cases hs:jq c Z with
  |none=>rw[hs]at h;cases h
  |some c1=>rw[hs]at h;exact hR.1 _ _ _ _ h code C N a w (by simpa[RC.er]using J) E (lq hM hs)
 |post y Z=>
  simp only[eC]at h;cases hs:gu T n y c with
  |none=>rw[hs]at h;cases h
  |some p=>
   obtain⟨Q,c1⟩:=p;rw[hs]at h;refine wp_mono (hR.1 _ _ _ _ hs code C N a w (by simpa[RC.er]using J) E hM) ?_;rintro e' a' w' ⟨rfl,F⟩;cases Q with
   |n=>
    simp only[psD]at h;split at h
    ·rename_i c2 h2;cases h;exact⟨rfl,lq F h2⟩
    ·cases h
   |x id=>cases h;exact⟨rfl,F⟩
   |r=>cases h;exact⟨rfl,F⟩
theorem AD:xP P T 0:=⟨fun r c e c' h=>by simp[gu]at h,fun b c e c' h=>by simp[gu]at h⟩
theorem AE{n:Nat}(hR:xP P T n)(I:gY P (fz T n)):xP P T (n+1):=by
 have J:∀(b:RC)(c:CSt)(e:Ex)(c':CSt),gu T (n+1) (.loop b) c=some (e,c')->∀(code:Code)(C:Ctx)(N:Nat)(a:Act)(w:World),cO P code=b.er->b.ok N=true->M C N c a w->Code.rounds P code (EQ C N e c') (n+1) a w:=by
  intro b c e c' h code C N a w F y hM;rw[gu]at h;simp only[eC]at h;rw[rounds_succ];cases hs:gu T n b c with
  |none=>rw[hs]at h;cases h
  |some p=>
   obtain⟨Z,c1⟩:=p;rw[hs]at h;refine wp_mono (hR.1 _ _ _ _ hs code C N a w F y hM) ?_;rintro e' W w' ⟨rfl,E⟩;cases Z with
   |n=>exact hR.2 _ _ _ _ h code C N W w' F y E
   |x id=>cases h;exact⟨rfl,E⟩
   |r=>cases h;exact⟨rfl,E⟩
 refine⟨fun r c e c' h code C N a w F y hM=> ?_,J⟩
 by_cases L:∃b,r= .loop b
 ·obtain⟨b,rfl⟩:=L
  obtain⟨Q,rfl,O⟩:=xas (by simpa[RC.er]using F);exact wp_loop_rounds (n+1) (J b c e c' h Q C N a w O y hM)
 ·rw[gu]at h
  exact xV hR I h (fun b e=>L ⟨b,e⟩) F y hM
def xwa(P:Program):ResultVar->RV->Prop
 | .tmp t,.tmp t'=>t=t'
 | .cell t ty,.cell t' n ag=>t=t'/\fK P ty=some n/\sX P ty=some ag
 |_,_=>False
def Ii(P:Program):List ResultVar->List RV->Prop
 |[],[]=>True
 |a::r,b::s=>xwa P a b/\Ii P r s
 |_,_=>False
theorem vp(F:Sim N c s):∀{rs:List ResultVar}{W:List RV}{vs:t8},Ii P rs W->tY c W=some vs->∃p,AG P s rs=some (p,vs)/\p
 |[],[],vs,_,h=>by cases h;exact⟨True,rfl,trivial⟩
 |[],_::_,_,h,_=>h.elim
 |_::_,[],_,h,_=>h.elim
 | .tmp t::r,.tmp t'::q,vs,h,hv=>by obtain⟨Q,L⟩:=h;have Q:t=t':=Q;subst Q;simp only[tY]at hv;split at hv<;>cases hv;rename_i J y;obtain⟨p,I,O⟩:=vp F L y;exact⟨p,by simp only[AG,I,F.get],O⟩
 | .cell t ty::r,.cell t' n ag::q,vs,h,hv=>by
  obtain⟨⟨rfl,g1,g2⟩,L⟩:=h;simp only[tY]at hv;split at hv<;>cases hv;rename_i v J hl y;obtain⟨p,I,O⟩:=vp F L y
  have E:(if(ag||n==1)=true then nK c n ag (c.get t)else none)=some v:=by
   rw[<-hl]
   congr 1
   simp
  split at E
  ·rename_i Z
   obtain⟨p',h5,h6⟩:=yW F E;refine⟨p'/\p, ?_,h6,O⟩;simp only[AG,g1,g2,I,F.get];rw[if_pos Z,h5]
  ·cases E
 | .tmp _::_,.cell _ _ _::_,_,h,_=>h.1.elim
 | .cell _ _::_,.tmp _::_,_,h,_=>h.1.elim
def TY(us:LAc):Value:=if h:us.toArray.size=1 then us.toArray[0]else .tuple us.toArray
theorem TZ{vs:t8}{us:LAc}(h:cE x vs us):Rep x (kr vs) (TY us):=by
 have y:=h.1;unfold TY
 match vs,us,y with
 |[v],[u],_=>simpa[kr]using h.2 0 (by simp)
 |[],[],_=>simp only[kr];exact .tup _ _ h.1 h.2
 |v1::v2::vs,u1::u2::us,_=>simp only[kr];rw[dif_neg (by simp)];exact .tup _ _ h.1 h.2
theorem dj.sel{ob E:List (Nat×aH)}{tk F:LAa}(y:dj C x ob tk w){x2:Sit}(W:x2.G=x.G)(a1:∀p∈E,eA x2 w p.1 p.2/\∃q∈ob,x2.bk p.1=x.bk q.1)(a7:(E.map cS).Nodup)
 (J:∀p∈E,∀q∈E,(x2.bk p.1).1=(x2.bk q.1).1->p.1=q.1) (O:∀t∈F,(x2.τ t).2.1=(x2.τ t).2.2\/∃u∈tk,x2.τ t=x.τ u)
 (a6:∀t∈F,∀u∈F,t≠u->(x2.τ t).2.1=(x2.τ t).2.2\/(x2.τ u).2.1=(x2.τ u).2.2\/∃t'∈tk,∃u'∈tk,t'≠u'/\x2.τ t=x.τ t'/\x2.τ u=x.τ u') (Q:∀i,i<100->x2.bk i=x.bk i):dj C x2 E F w:=by
 refine⟨fun b o v L=>y.per b o v (by rw[<-W];exact L),fun b o v L=>by rw[W];exact y.g0 b o v L,fun b o v L=>y.gm b o v (by rw[<-W];exact L),y.new, ?_,a7,J, ?_, ?_, ?_,y.os,y.tape,y.output,y.size,y.ext,
  fun i hi=>(Q i hi).trans (y.pin i hi),y.lay⟩
 ·intro p hp
  obtain⟨h1,q,hq,I⟩:=a1 p hp;obtain⟨_,h3,h4⟩:=y.obs q hq;exact⟨h1,by rw[I];exact h3,fun off=>by rw[W,I];exact h4 off⟩
 ·intro t Z
  rcases O t Z with h|⟨u,hu,h⟩
  ·exact .inl h
  ·have:=y.tks u hu
   unfold iR at this ⊢;rw[h,W];exact this
 ·intro t Z p hp
  obtain⟨_,q,hq,I⟩:=a1 p hp;rcases O t Z with h|⟨u,hu,h⟩
  ·exact .inr h
  ·rw[h,I];exact y.tko u hu q hq
 ·intro t Z u hu a2
  rcases a6 t Z u hu a2 with h|h|⟨t',ht',u',hu',hne,h1,I⟩
  ·exact .inr (.inl h)
  ·exact .inr (.inr h)
  ·rw[h1,I];exact y.tkd t' ht' u' hu' hne
theorem fH{p:Nat×aH}:∀{l:List aH}{k:Nat},p∈gQ k l↔∃i,i<l.length/\p.1=k+i/\p.2=l.getD i (.rc [])
 |[],k=>by simp[gQ]
 |o::r,k=>by
  simp only[gQ,av,fH];constructor
  ·rintro(rfl|⟨i,y,E,h⟩)
   ·exact⟨0,by simp,rfl,rfl⟩
   ·exact⟨i+1,by simpa using y,by omega,by simpa using h⟩
  ·rintro⟨i,y,E,h⟩
   cases i with
   |zero=>left;exact Prod.ext (by simpa using E) (by simpa using h)
   |succ i=>exact .inr ⟨i,by simpa using y,by omega,by simpa using h⟩
theorem jn:∀(l:List aH)(k:Nat),((gQ k l).map cS).Nodup
 |[],_=>by simp[gQ]
 |o::r,k=>by simp only[gQ,aI,eB];refine⟨fun h=> ?_,jn r (k+1)⟩;obtain⟨p,y,e⟩:=aZ.1 h;obtain⟨i,_,E,_⟩:=fH.1 y;omega
theorem GP(n i:Nat)(h:i<n):(lu n).getD i 0=i:=by
 have E:∀n,(lu n).length=n:=by
  intro n;induction n with
  |zero=>rfl
  |succ n y=>simp[lu,y]
 induction n with
 |zero=>omega
 |succ n y=>
  simp only[lu,aa,List.getElem?_append,E]
  by_cases hi:i<n
  ·rw[if_pos hi,<-aa,y hi]
  ·rw[if_neg hi];have:i-n=0:=by omega
   rw[this];simp;omega
theorem HQ{keep raw:LAa}{k:Nat}{vs:t8}{us:LAc}{q:dV}(hM:aR C x s a w)(hS:Sim N c s)(hk:k<=40)(hv:cE x vs us)(h:Z9 keep k (fB c vs (jN raw 0 vs))=some q):
 ∃x',Rep x' q.r (TY us)/\dj C x' q.os q.tk w/\(∀p∈q.os,p.2.wf=true)/\∀i,i<100->x'.bk i=C.β0 i:=by
 obtain⟨x1,s1,d7,b3,b1⟩:=ki (l:=jN raw 0 vs) hM hS hv;generalize fB c vs (jN raw 0 vs)=z at h b3 b1;obtain⟨c1,c3⟩:=z;simp only at b3 b1;simp only[Z9]at h;have hE:=b3.exact d7;cases hb:(decide (k=0)&&(SV.idsL c3).isEmpty&&keep.isEmpty)with
 |true=>rw[hb]at h;simp only[Ug,ax.injEq]at h;subst h;refine⟨x1, ?_,hE.heap.only (by simp) (by simp) (by simp),by simp,fun i hi=>hE.heap.pin i hi⟩;refine TZ ?_;rw[lL];refine⟨by simpa using b1.1,fun i hi=> ?_⟩;rw[bg _ (by rfl)];exact(b1.2 i (by simpa using hi)).bare rfl rfl
 |false=>
  rw[hb]at h;simp only[Ug]at h;generalize hz:ld c1.tk keep 60 0 c3=z at h;obtain⟨a7,E⟩:=z;simp only[xh4]at h;generalize eE c1 60 [] (lu k++SV.idsL a7)=m at h;cases ho:ik c1 m with
  |none=>rw[ho]at h;cases h
  |some a1=>
   rw[ho]at h;simp only[xh3]at h;generalize b5:eW c1.tk (60+E.length) a1=z2 at h;obtain⟨os,F⟩:=z2;simp only[xh2]at h;cases hb2:(pP (SV.idsL a7++gp os) m&&eh m&&eh (cI (E++F))&&decide (m.take k=lu k)&&(m.drop k).all fun o=>decide (k<=o))with
   |false=>rw[hb2]at h;cases h
   |true=>
    rw[hb2]at h;simp only[xh1,ax.injEq]at h;subst h;simp only[aC,decide_eq_true_eq,bf]at hb2;obtain⟨⟨⟨⟨d4,e5⟩,d6⟩,a8⟩,c5⟩:=hb2;obtain⟨f1,e6⟩:=rP ho;have a2:=yb d4;have d3:=kt e5;have c7:=kt d6
    have e3:∀n,(lu n).length=n:=by
     intro n;induction n with
     |zero=>rfl
     |succ n ih=>simp[lu,ih]
    have e9:k<=m.length:=by have:=congrArg List.length a8;rw[aq,e3]at this;omega
    have b4:∀i,i<k->m.getD i 0=i:=by
     intro i hi;have J:(m.take k).getD i 0=m.getD i 0:=by simp only[aa,bL,if_pos hi]
     rw[<-J,a8,GP k i hi]
    have b7:∀i,k<=i->i<m.length->k<=m.getD i 0:=by
     intro i J W;refine c5 _ ?_
     have:m.getD i 0=(m.drop k).getD (i-k) 0:=by simp only[aa,bz];congr 2;omega
     rw[this];exact gG (by rw[aG];omega)
    let τ2:Nat->Nat×Nat×Nat:=fun t=>if 60<=t/\t<60+(E++F).length then UK x1 ((E++F).getD (t-60) none)else(0,0,0)
    let x2:Sit:=⟨x1.G,x1.bk,τ2⟩
    let x3:Sit:=⟨x1.G,fun i=>if i<100 then x1.bk i else x1.bk (m.getD (i-100) 0),τ2⟩
    have hτ:∀y:Sit,y.τ=τ2->pI x1 y 60 (E++F):=by
     intro y hy j hj;rw[hy];show(if _ then _ else _)=_;rw[if_pos ⟨by omega,by omega⟩]
     congr 2;omega
    have I:∀i,i<m.length->(m.getD i 0,a1.getD i (.rc []))∈c1.ob:=fun i hi=>ke (e6 i hi)
    have hβ:∀o∈m,x3.bk (iJ k m o)=x1.bk o:=by
     intro o ho;unfold iJ;split
     ·rename_i f0
      show(if _ then _ else _)=_;rw[if_pos (by omega)]
     ·show(if _ then _ else _)=_
      rw[if_neg (by omega)];have e:100+iv m o-100=iv m o:=by omega
      rw[e,(oe ho).2]
    have d5:=hτ x2 rfl
    have e7:cE x2 a7 us:=by have:=nz (x:=x1) (x1:=x2) rfl rfl (tk:=c1.tk) (own:=keep) (j:=60) (i:=0) b1 (by rw[hz];exact d5.left);rwa[hz]at this
    have e1:Rep x3 ((kr a7).ren (iJ k m) id) (TY us):=by
     refine Rep.renF (x:=x2) (x2:=x3) (fun _ _ _ h=>h) (TZ e7) (fun j hj=>hβ j (a2 j (am.2 (.inl ?_)))) (fun t _=>rfl)
     have key:∀l:t8,∀j∈(kr l).ids,j∈SV.idsL l:=by
      intro l j hj
      match l with
      |[]=>exact hj
      |[v]=>simpa[kr,SV.idsL]using hj
      |v::u::r=>exact hj
     exact key a7 j hj
    obtain⟨b6,a6⟩:=mD (x:=x1) (x1:=x2) (w:=w) rfl rfl (tk:=c1.tk) (obs:=a1) (j:=60+E.length) (f:=fun i=>m.getD i 0)
     (fun i hi=>(hE.heap.obs _ (I i (by omega))).1) (by rw[b5];exact d5.right)
    rw[b5]at b6 a6;simp only at b6 a6
    have e2:∀o∈os,o.wf=true:=by
     intro o e0
     have:=oA (tk:=c1.tk) (obs:=a1) (j:=60+E.length) (fun o h'=>by obtain⟨i,hi,rfl⟩:=bp h';have:=b3.inv.wf _ (I i (by omega));simpa[aa,ac hi]using this) o (by rw[b5];exact e0)
     exact this
    have L:∀p∈gQ 0 (fb (iJ k m) id (os.take k))++gQ (100+k) (fb (iJ k m) id (os.drop k)),∃i,i<m.length/\p.1=iJ k m (m.getD i 0)/\p.2=(os.getD i (.rc [])).ren (iJ k m) id/\os.getD i (.rc [])∈os:=by
     intro p Q
     have gd:∀{l:List aH}{i:Nat},i<l.length->(fb (iJ k m) id l).getD i (.rc [])=(l.getD i (.rc [])).ren (iJ k m) id:=by intro l i hi;rw[gZ,aa,aa,aT,ac hi];rfl
     have gm:∀{i:Nat},i<os.length->os.getD i (.rc [])∈os:=fun{i} hi=>by rw[aa,ac hi];exact bv _
     rcases am.1 Q with Q|Q
     ·obtain⟨i,J,W,h3⟩:=fH.1 Q
      rw[gZ,aY,aq]at J;have e:(os.take k).getD i (.rc [])=os.getD i (.rc []):=by simp only[aa,bL,if_pos (show i<k by omega)]
      refine⟨i,by omega, ?_, ?_,gm (by omega)⟩
      ·rw[W,b4 i (by omega)];unfold iJ;rw[if_pos (by omega)];omega
      ·rw[h3,gd (by rw[aq];omega),e]
     ·obtain⟨i,J,W,h3⟩:=fH.1 Q
      rw[gZ,aY,aG]at J;have hi:k+i<m.length:=by omega
      have e:(os.drop k).getD i (.rc [])=os.getD (k+i) (.rc []):=by simp only[aa,bz]
      refine⟨k+i,hi, ?_, ?_,gm (by omega)⟩
      ·have h5:=b7 (k+i) (by omega) hi
       have h6:=oe (gG hi);have h7:iv m (m.getD (k+i) 0)=k+i:=mJ d3 h6.1 hi h6.2;unfold iJ;rw[if_neg (by omega),h7,W];omega
      ·rw[h3,gd (by rw[aG];omega),e]
    have e4:∀t∈cI (E++F),t∈c1.tk:=by
     intro t O;rw[gi,am]at O;rcases O with O|O
     ·exact pO (tk:=c1.tk) (own:=keep) (cs:=c3) (j:=60) (i:=0) t (by rw[hz];exact O)
     ·exact oB (tk:=c1.tk) (obs:=a1) (j:=60+E.length) t (by rw[b5];exact O)
    have Z:∀t∈tks 60 (E.length+F.length),(x3.τ t).2.1=(x3.τ t).2.2\/∃u,(E++F).getD (t-60) none=some u/\u∈c1.tk/\x3.τ t=x1.τ u:=by
     intro t O;obtain⟨J,W⟩:=kL.1 O;have e:=hτ x3 rfl (t-60) (by rw[ae];omega);rw[show 60+(t-60)=t by omega]at e;cases hu:(E++F).getD (t-60) none with
     |none=>rw[hu]at e;rw[e];exact .inl rfl
     |some u=>rw[hu]at e;exact .inr ⟨u,rfl,e4 u (jz hu),e⟩
    refine⟨x3,e1,hE.heap.sel (x2:=x3) rfl ?_ ?_ ?_ ?_ ?_ ?_, ?_, ?_⟩
    ·intro p Q
     obtain⟨i,J,W,h3,h4⟩:=L p Q;have d1:=gG J;refine⟨?_,_,I i J,by rw[W];exact hβ _ d1⟩;rw[W,h3];exact(a6 i (by omega)).renF (x2:=x3) (fun _ _ _ h=>h) (hβ _ d1) (fun j hj=>hβ j (a2 j (am.2 (.inr (qr h4 j hj))))) (fun t _=>rfl)
    ·rw[cf,List.nodup_append]
     refine⟨jn _ _,jn _ _,fun u hu v hv e=> ?_⟩;obtain⟨p,Q,rfl⟩:=aZ.1 hu;obtain⟨r,hr,rfl⟩:=aZ.1 hv;obtain⟨i,J,W,_⟩:=fH.1 Q;obtain⟨j,h3,h4,_⟩:=fH.1 hr;rw[gZ,aY,aq]at J;omega
    ·intro p Q r hr d2
     obtain⟨i,J,W,_⟩:=L p Q;obtain⟨j,h3,h4,_⟩:=L r hr;rw[W,h4,hβ _ (gG J),hβ _ (gG h3)]at d2;have:=hE.heap.inj _ (I i J) _ (I j h3) d2;simp only at this;rw[W,h4,this]
    ·intro t O
     rcases Z t O with g|⟨u,_,g1,g2⟩
     ·exact .inl g
     ·exact .inr ⟨u,g1,g2⟩
    ·intro t O u hu e8
     rcases Z t O with g|⟨t',g0,g1,g2⟩
     ·exact .inl g
     ·rcases Z u hu with g|⟨u',k0,k1,k2⟩
      ·exact .inr (.inl g)
      ·refine .inr (.inr ⟨t',g1,u',k1,oS c7 ?_ g0 k0,g2,k2⟩)
       have:=kL.1 O;have:=kL.1 hu;omega
    ·intro i hi
     show(if _ then _ else _)=_;rw[if_pos hi]
    ·intro p Q
     obtain⟨i,J,W,h3,h4⟩:=L p Q;rw[h3];exact BI (e2 _ h4)
    ·intro i hi
     show(if _ then _ else _)=_;rw[if_pos hi];exact hE.heap.pin i hi
structure bQ(P:Program)(g:Nat)(F:FnC):Prop where
 fn:∃fn,P.funcs[g]? =some fn/\fn.body.map (cO P)=some F.code.er/\fn.ntmps=F.n/\Ii P fn.results.toList F.rs
 cb:ez P g=true
 ok:F.code.ok F.n=true
def py(P:Program)(T:iL):Prop:=∀g b,T.fn g=some b->match b with
 | .code F=>bQ P g F
 | .prim f=>∀a_ os k q,f a_ os k=some q->gg P g a_ os k (· =q)
theorem GB(os:List aH):∀o,(idx os).lookup o=jy (gQ 0 os) o:=by
 intro o;have I:((idx os).map cS).Nodup:=oE os;have J:=jn os 0
 have F:∀p,p∈idx os↔p∈gQ 0 os:=by
  intro p;rw[jH,fH];constructor
  ·rintro⟨y,E⟩;exact⟨p.1,y,by omega,E⟩
  ·rintro⟨i,y,E,L⟩
   have e:p.1=i:=by omega
   rw[e];exact⟨y,L⟩
 rw[jo];refine vK (fun v h=> ?_) (fun v h=> ?_)
 ·exact jZ (p:=(o,v)) J ((F _).1 (ke h))
 ·exact jZ (p:=(o,v)) I ((F _).2 (ke h))
theorem uq(n:Nat):∀(l:t8)(i:Nat),ff (pu i l) n=if i<=n then l.getD (n-i) .undef else .undef
 |[],i=>by simp[pu,ff]
 |v::r,i=>by
  simp only[pu,ff,uq n r (i+1)]
  by_cases h:i=n
  ·subst h;simp
  ·rw[if_neg h]
   by_cases y:i<=n
   ·rw[if_pos y,if_pos (by omega)]
    obtain⟨k,E⟩:∃k,n-i=k+1:=⟨n-i-1,by omega⟩;rw[E,jg];congr 1;omega
   ·rw[if_neg y,if_neg (by omega)]
theorem uh{p:Nat×SV}:∀{l:t8}{i:Nat},p∈pu i l->p.1<i+l.length
 |v::r,i,h=>by
  simp only[pu]at h;rcases av.1 h with e|e
  ·rw[e];simp
  ·have:=uh e;simp only[al];omega
theorem ye:∀(l:List aH)(k:Nat),((gQ k l).map cS).Pairwise (· < ·)
 |[],_=>by simp[gQ]
 |o::r,k=>by simp only[gQ,aI,bV];refine⟨fun n hn=> ?_,ye r (k+1)⟩;obtain⟨p,h,rfl⟩:=aZ.1 hn;obtain⟨i,_,y,_⟩:=fH.1 h;omega
theorem o5{n:Nat}(hR:xP P T n)(hT:py P T):gY P (fz T n):=by
 intro g a_ os k q E;unfold fz at E;cases hg:T.fn g with
 |none=>rw[hg]at E;cases E
 |some b=>
  have hb:=hT g b hg;cases b with
  |prim f=>rw[hg]at E;exact hb a_ os k q E
  |code F=>
   rw[hg]at E;simp only[nT,IY]at E;obtain⟨⟨fn,a8,y,b1,a2⟩,b5,a6⟩:=hb;refine⟨b5, ?_⟩;split at E
   case isFalse=>cases E
   rename_i b7;intro C x w vs c3 b6 a7 Z a1 hH I;cases hbd:fn.body with
   |none=>simp[hbd]at y
   |some code=>
    simp only[hbd,dl]at y;refine calls_of_wp a8 hbd ?_;have hl:=I.1
    let s0:St:=⟨a_++aL (F.n-a_.length) .undef,idx os,tks 50 k⟩
    have b4:aR C x s0 {tmps:=(⟨vs⟩:LAd)++eU (fn.ntmps-(⟨vs⟩:LAd).size) undef,defers:=[]} w:=by
     refine⟨?_,rfl,hH⟩
     have e1:((⟨vs⟩:LAd)++eU (fn.ntmps-(⟨vs⟩:LAd).size) undef).toList=vs++aL (F.n-a_.length) undef:=by simp[b1,hl]
     rw[e1];refine I.append ⟨by simp,fun i hi=> ?_⟩;rw[ge _ _ _ _ (by simpa using hi)];exact .undef _
    have b3:Sim F.n (tF a_ os k) s0:=by
     refine⟨⟨fun p hp=> ?_,ye os 0,fun p hp=> ?_⟩, ?_,fun o=>GB os o,fun t=>Iff.rfl⟩
     ·have:=uh hp;omega
     ·obtain⟨i,h1,_,h3⟩:=fH.1 hp
      rw[h3,aa,ac h1];exact a1 _ (bv _)
     ·apply List.ext_getElem?
      intro i;show(a_++aL (F.n-a_.length) SV.undef)[i]? =_;rw[aT];rcases bK i F.n with hi|hi
      ·rw[cz hi]
       have e:(tF a_ os k).get i=a_.getD i .undef:=by show ff (pu 0 a_) i=_;rw[uq];simp
       simp only[bB,e,List.getElem?_append,List.getElem?_replicate]
       by_cases h:i<a_.length
       ·rw[if_pos h,aa,ac h];rfl
       ·rw[if_neg h,if_pos (by omega),aa,ia (by omega)];rfl
      ·rw[ia (by simp;omega),ia (by simpa using hi)];rfl
    cases hs:gu T n F.code (tF a_ os k)with
    |none=>rw[hs]at E;cases E
    |some p=>
     obtain⟨e,c1⟩:=p;rw[hs]at E;refine wp_mono (hR.1 _ _ _ _ hs code C F.n _ w (by simpa using y) a6 ⟨x,s0,b4,b3⟩) ?_;rintro e' a' w' ⟨rfl,x1,s1,L,W⟩
     have J:Uh F.keep F.raw os.length c1 (tY c1 F.rs)=some q->a'.defers=[]/\∃v,(results fn a'.tmps).run P w'= .ok v w'/\∃v',∃x':Sit,∃O,Ending.returned v= .returned v'/\O=q/\Rep x' O.r v'/\dj C x' O.os O.tk w'/\(∀p∈O.os,p.2.wf=true)/\∀i,i<os.length->x'.bk i=x.bk i:=by
      intro hf;cases hrc:tY c1 F.rs with
      |none=>rw[hrc]at hf;cases hf
      |some rv=>
       rw[hrc]at hf;obtain⟨p,h1,h2⟩:=vp (P:=P) W a2 hrc;obtain⟨us,Q,hl⟩:=sG L h1 h2;obtain⟨x',g1,g2,g3,g4⟩:=HQ L W Z hl hf;refine⟨L.defers,TY us, ?_,TY us,x',q,rfl,rfl,g1,g2,g3,fun i hi=> ?_⟩
       ·rw[AF,Array.mapM_eq_mapM_toList]
        simp only[aD,Sem.run_map,Q,an,aN];rfl
       ·rw[g4 i (by omega)];exact(hH.pin i (by omega)).symm
     cases e with
     |n=>exact J E
     |r=>exact J E
     |x id=>cases E
theorem UN(hT:py P T):∀n,xP P T n
 |0=>AD
 |n+1=>AE (UN hT n) (o5 (UN hT n) hT)
theorem re(hT:py P T):gY P (call T):=by intro g a_ os k q h;obtain⟨n,hn⟩:=qp h;exact o5 (UN hT n) hT g a_ os k q hn
theorem F0(hT:py P T){g:Nat}{a_:t8}{r:SV}(h:call T g a_ [] 0=some ⟨r,[],[]⟩)(W:r.toks=[]):Fn P g a_ r:=by obtain⟨Z,J⟩:=re hT _ _ _ _ _ h;refine⟨Z,fun C x w vs O L F hl Q I=> ?_⟩;refine(J C x w vs O L (fun b E=>(F b E).imp id (fun⟨i,hi,_⟩=>by simp at hi)) (by simp) (by simp) Q I).mono ?_;rintro en w' ⟨v,x',q,rfl,rfl,hr,y,_,hg⟩;exact⟨v,x',r,[],rfl,⟨rfl,rfl⟩,hr,by rw[W];exact y,hg⟩
def xbk(P:Program):ResultVar->RV->Bool
 | .tmp t,.tmp t'=>decide (t=t')
 | .cell t ty,.cell t' n ag=>decide (t=t')&&decide (fK P ty=some n)&&decide (sX P ty=some ag)
 |_,_=>false
def sE(P:Program):List ResultVar->List RV->Bool
 |[],[]=>true
 |a::r,b::s=>xbk P a b&&sE P r s
 |_,_=>false
theorem yk:∀{rs:List ResultVar}{E:List RV},sE P rs E=true->Ii P rs E
 |[],[],_=>trivial
 |[],_::_,h=>by cases h
 |_::_,[],h=>by cases h
 |a::r,b::s,h=>by
  simp only[sE,aC]at h;refine⟨?_,yk h.2⟩;have y:=h.1;cases a<;>cases b<;>simp only[xbk,aC,decide_eq_true_eq]at y<;>first|(cases y;done)|skip
  ·exact y
  ·exact⟨y.1.1,y.1.2,y.2⟩
theorem Z6{g:Nat}{F:FnC}{fn:Func}(E:P.funcs[g]? =some fn)(I:fn.body.map (cO P)=some F.code.er)(h:fn.ntmps=F.n)(L:sE P fn.results.toList F.rs=true)(y:ez P g=true)(J:F.code.ok F.n=true):bQ P g F:=
 ⟨⟨fn,E,I,h,yk L⟩,y,J⟩
end Go.Sy
namespace Go.Sy
variable [br]
open Go.RowKit Go.ChangeShapes Go.WideShapes
def GW(w:World):GM:=fun b o=>w.cell? ⟨b,o,none⟩
def vj(w:World):Sit:=⟨GW w,fun _=>(0,0),fun _=>(0,0,0)⟩
theorem xhV(w:World)(hL:Lay (GW w)):dj ⟨w,GW w,fun b=>w.heap.size<=b,fun _=>(0,0)⟩ (vj w) [] [] w where
 per:=fun _ _ _ h=>h
 g0:=fun _ _ _ h=>h
 gm:=fun _ _ _ h=> .inl h
 new:=fun _ h=>h
 obs:=by simp
 nd:=List.nodup_nil
 inj:=by simp
 tks:=by simp
 tko:=by simp
 tkd:=by simp
 os:=rfl
 tape:=rfl
 output:=rfl
 size:=aJ _
 ext:=fun _ _=>rfl
 pin:=fun _ _=>rfl
 lay:=hL
theorem vf{x:Sit}{b:Bool}{v:Value}(h:Rep x (.bool b) v):v= .bool b:=by
 cases h with
 |dat _ _ h _=>cases h;rfl
theorem uj{P:Program}{f:Nat}{a_:t8}(h:Fn P f a_ (.bool true)){W:World}{vs:LAc}(J:cE (vj W) a_ vs)(hL:Lay (GW W)):
 Calls P f ⟨vs⟩ W fun e E=>e= .returned (.bool true)/\Below W.heap.size W E:=by
 refine(h.2 ⟨W,GW W,fun b=>W.heap.size<=b,fun _=>(0,0)⟩ (vj W) W vs rfl rfl (fun b F=> .inl F) (by simp) (xhV W hL) J).mono ?_;rintro e E ⟨v,x',r,I,rfl,⟨rfl,rfl⟩,L,y,_⟩;obtain rfl:=vf L;exact⟨rfl,y.os,y.tape,y.output,y.size,fun k O=>y.ext k (by simp;omega)⟩
section
variable {H : Type} {enc : TypeId × Value -> H} {P : Program} {w : World} {base : Nat} {sp : Nat -> Bool} {hd : Bool} {r : Reach} {b0 : Nat} {t e : TypeId} {v : Value} {d : DataW H} {ps : List MemPlace}
theorem wO{k:IntKind}(F:P.underlying t=some (.int k))(y:Value.okWide P w r b0 t v)(h:DataW.Trod enc P w base sp hd t v d ps):∃n,k.has n/\Rep (vj w) (.int k n) v:=by obtain⟨n,rfl,_,_,E⟩:=open_int F y h;simp only[Lit.wf,aC,decide_eq_true_eq]at E;exact⟨n,E,.dat _ _ (.int k n) trivial⟩
theorem Lg(E:P.underlying t=some .bool)(y:Value.okWide P w r b0 t v)(h:DataW.Trod enc P w base sp hd t v d ps):∃b,Rep (vj w) (.bool b) v:=by obtain⟨b,rfl,_,_⟩:=open_bool E y h;exact⟨b,.dat _ _ (.bool b) trivial⟩
theorem xaO(F:P.underlying t=some .string)(y:Value.okWide P w r b0 t v)(h:DataW.Trod enc P w base sp hd t v d ps):∃l:d9,l.length<=maxLen/\Rep (vj w) (.str l) v:=by obtain⟨s,rfl⟩:=okWide_string F y;obtain⟨E,J⟩:=h;obtain⟨O,I,_,L⟩:=DataW.trod_string F J;simp[Value.cells]at I;subst I;obtain⟨⟨l⟩⟩:=s;exact⟨l,L,.dat _ _ (.str l) trivial⟩
theorem Am{a:Addr}{len cap:Nat}(y:P.underlying t=some (.slice e))(h:Value.okWide P w r b0 t (.slice (some a) len cap)):a.spot=none:=by simp only[Value.okWide,y,Cell.okWide,Cell.ok]at h;exact h.2.2.2.1
theorem xkM{n:Int}(h:(Lit.int .u8 n).wf=true):((io n.toNat).toNat:Int)=n:=by
 simp only[Lit.wf,IntKind.min,IntKind.max,IntKind.signed,IntKind.bits,aC,decide_eq_true_eq]at h;rw[UInt8.toNat_ofNat'];have:n.toNat<256:=by simp at h;omega
 rw[cH this];simp at h;omega
theorem jU(I:P.underlying t=some (.slice e))(Z:P.underlying e=some (.int .u8))(W:P.cellsOf e=1)(E:Value.okWide P w r b0 t v)(h:DataW.Trod enc P w base sp hd t v d ps):
 ∃l:d9,l.length<=maxLen/\Rep (vj w) (.byt l .no) v:=by
 obtain⟨a0,len,cap,rfl⟩:=okWide_slice I E;obtain⟨J,hf⟩:=h;rcases open_ints I Z W hf with⟨y,_⟩|⟨a,len',cap',zs,y,_,hl,hm,hz,_,hcell,hwf⟩
 ·simp[Value.cells]at y
  obtain⟨rfl,rfl,rfl⟩:=y;exact⟨[],by simp,.dat _ _ (.bytN .no) trivial⟩
 ·simp[Value.cells]at y
  obtain⟨rfl,rfl,rfl⟩:=y;have Q:=Am I E;obtain⟨b,off,O⟩:=a;simp only at Q;subst Q;have hzl:len<=zs.length:=by rw[hz];split<;>omega
  refine⟨(zs.take len).map fun n=>io n.toNat,by simp;omega,.dat _ _ (.byt _ .no b off cap len (by simp;omega) hl (fun i hi=> ?_)) trivial⟩;have L:=hcell i (by omega);have F:i<zs.length:=by omega
  rw[add_plain]at L
  have e1:((zs.take len).map fun n=>io n.toNat).getD i 0=io (zs.getD i 0).toNat:=by simp[aa,F,hi]
  show w.cell? _=_;rw[L,e1]
  congr 2
  refine(xkM (hwf _ ?_)).symm;rw[aa,ac F];exact bv F
end
theorem yB{x:Sit}:cE x [] []:=⟨rfl,by simp⟩
section
variable {H : Type} {enc : TypeId × Value -> H} {P : Program}
theorem J9{f:Func}{s:ChangeSpec}{y fresh E Q:Bool}{W Z:World}{args:LAd}{v:Value}{ds gs:List (DataW H)}{before pa pv:List MemPlace}
 (hW:DataW.Whole enc P f.params.toList s.vars y W args.toList ds gs before)
 (O:∀(b:Nat)(sp:Nat->Bool)(hd:Bool),DataW.TrodAll enc P Z b sp hd f.resultTypes.toList (v.resultList f.resultTypes.size) (s.fn H (ds++gs)).results [])
 (F:∀sp:Nat->Bool,(∀p∈before,sp p.block=true)->DataW.TrodAll enc P Z 0 sp true f.params.toList args.toList (s.fn H (ds++gs)).args pa)
 (h:∀sp:Nat->Bool,(∀p∈before,sp p.block=true)->DataW.TrodVars enc P Z sp s.vars (s.fn H (ds++gs)).vars pv)
 (I:before=pa++pv) (hb:Below W.heap.size W Z)
 (a6:∀(j:Nat)(t:TypeId)(r:Value),f.resultTypes[j]? =some t->(v.resultList f.resultTypes.size)[j]? =some r->Value.okWide P Z .any 0 t r):
 s.post enc P f y fresh E Q W args v Z:=by
 have a1:=hW.lt;have L:∀p∈before,(fun b=>decide (b<W.heap.size)) p.block=true:=fun p J=>by simpa using a1 p J
 refine⟨ds,gs,before,[],pa,pv,hW,O _ _ _,F _ L,h _ L,World.keptBut_mono (fun p J=>⟨J, ?_⟩) (hb.frame (· ∈before)),fun _=> ?_⟩
 ·rw[I,am]at J
  exact Or.inr J
 ·obtain⟨_,_,_,_,_,hz,hn⟩:=hW
  refine⟨a6,_,_,([]++pa)++pv,⟨[]++pa,pv,trodAll_append (F _ (fun _ _=>rfl)) (O _ _ _),h _ (fun _ _=>rfl),rfl, ?_, ?_⟩, ?_⟩
  ·intro b off J
   have a2:MemPlace.cell b off∈before:=by rw[I];simpa using J
   rw[hb.frozen (p:=⟨b,off,none⟩) (a1 _ a2)];exact hz b off a2
  ·intro ha
   have:=hn ha;rw[I]at this;simpa using this
  ·intro p J _
   rw[I];simpa using J
theorem md(J:laidOutB P=true){W I:World}(F:Below W.heap.size W I):∀{E:List TypeId}{vs:LAc}{L:List (DataW H)}{p:List MemPlace},(E.all fun t=>P.readableRec t&&decide (t<P.types.size))=true->
 DataW.TrodAll enc P W 0 (fun _=>true) true E vs L p->(∀x∈p,x.block<W.heap.size)->∀sp:Nat->Bool,(∀x∈p,sp x.block=true)->DataW.TrodAll enc P I 0 sp true E vs L p
 |[],_,_,_,_,h,_,_,_=>by obtain⟨rfl,rfl,rfl⟩:=trodAll_nil h;exact trodAll_mk0
 |t::E,_,_,_,hr,h,hlt,sp,hsp=>by obtain⟨v,O,d,Q,a,b,rfl,rfl,rfl,h1,Z⟩:=trodAll_cons h;simp only[List.all_cons,aC,decide_eq_true_eq]at hr;refine trodAll_cons_mk ?_ (md J F (by simpa using hr.2) Z (fun x y=>hlt x (List.mem_append_right _ y)) sp (fun x y=>hsp x (List.mem_append_right _ y)));exact WideElems.Trod_stays J hr.1.1 hr.1.2 h1 (fun x y=>F.same (hlt x (List.mem_append_left _ y))) (fun x y=>hsp x (List.mem_append_left _ y))
theorem y0{f:Func}{s:ChangeSpec}{W W':World}{args:LAd}{I gs:List (DataW H)}{before:List MemPlace}{tb:TypeId}(hl:laidOutB P=true)
 (hr:(f.params.toList.all fun t=>P.readableRec t&&decide (t<P.types.size))=true) (y:f.resultTypes= #[tb]) (F:P.underlying tb=some .bool) (h:s.vars=[])
 (Z:(s.fn H (I++gs)).results=[.lit (.bool true)]) (Q:(s.fn H (I++gs)).args=I) (a1:(s.fn H (I++gs)).vars=[])
 (O:DataW.Whole enc P f.params.toList s.vars false W args.toList I gs before) (hb:Below W.heap.size W W'):
 s.post enc P f false true false false W args (.bool true) W':=by
 have J:=O.lt;have E:=O;obtain⟨p,q,hA,hV,rfl,a2,a6⟩:=O;rw[h]at hV;obtain⟨rfl,rfl⟩:=trodVars_none hV;simp only[bx]at J E a2;refine J9 (pa:=p) (pv:=[]) (before:=p) (gs:=[]) E (fun b sp hd=> ?_) (fun sp L=> ?_) (fun sp L=> ?_) (by simp) hb (ok_one y rfl (okWide_bool_mk F _))
 ·rw[Z,y]
  exact trodAll_cons_mk (shut_bool F _) trodAll_mk0
 ·rw[Q]
  exact md hl hb hr hA J sp L
 ·rw[h,a1]
  rfl
end
end Go.Sy
namespace Go.Sy
variable [br]
open Go.RowKit Go.ChangeShapes Go.WideShapes
variable {P : Program} {C : Ctx} {x : Sit} {w w' : World}
theorem eS.below{b:Nat}{c:LAd}{e:TypeId}{fl fh:Nat}(h:eS w b c e fl fh)(y:Below w.heap.size w w'):eS w' b c e fl fh:=h.of_heap (y.block b h.lt)
theorem dj.below{ob:List (Nat×aH)}{tk:LAa}(h:dj C x ob tk w)(y:Below w.heap.size w w'):dj C x ob tk w' where
 per:=fun b o v I=>by rw[dQ (y.block b (h.ltG I))];exact h.per b o v I
 g0:=h.g0
 gm:=h.gm
 new:=h.new
 obs:=fun p L=>by obtain⟨⟨c,e,fl,fh,E,r⟩,q⟩:=h.obs p L;exact⟨⟨c,e,fl,fh,E.below y,r⟩,q⟩
 nd:=h.nd
 inj:=h.inj
 tks:=fun t J=>(h.tks t J).imp id fun⟨⟨c,e,fl,fh,E,r⟩,q⟩=>⟨⟨c,e,fl,fh,E.below y,r⟩,q⟩
 tko:=h.tko
 tkd:=h.tkd
 os:=y.os.trans h.os
 tape:=y.tape.trans h.tape
 output:=y.output.trans h.output
 size:=mC h.size y.size
 ext:=fun b hn=>by
  rcases bK b w.heap.size with F|F
  ·rw[y.block b F];exact h.ext b hn
  ·exact absurd (h.new b (mC h.size F)) hn
 pin:=h.pin
 lay:=h.lay
def jI(w:World)(l:d9)(v:Value):Prop:=
 (l=[]/\∃a,v= .slice a 0 0)\/∃b off n cap,v= .slice (some ⟨b,off,none⟩) n cap/\n=l.length/\∀i,i<n->w.cell? ⟨b,off+i,none⟩=some (.int .u8 (l.getD i 0).toNat)
theorem mK{l:d9}{t:Tok}{v:Value}(h:Rep x (.byt l t) v)(y:∀b o v,x.G b o=some v->w.cell? ⟨b,o,none⟩=some v):jI w l v:=by
 cases h with
 |dat _ _ h _=>
  cases h with
  |bytN=>exact .inl ⟨rfl,_,rfl⟩
  |bytE=>exact .inl ⟨rfl,_,rfl⟩
  |byt _ _ b off cap n hn E h=>exact .inr ⟨b,off,n,cap,rfl,hn,fun i hi=>y _ _ _ (h i hi)⟩
theorem BE{l:d9}{v:Value}(h:Rep x (.str l) v):v= .string ⟨⟨l⟩⟩:=by
 cases h with
 |dat _ _ h _=>cases h;rfl
theorem xoV{b:UInt8}{v:Value}(h:Rep x (.u8 b) v):v= .int .u8 b.toNat:=by
 cases h with
 |dat _ _ h _=>cases h;rfl
theorem ko{g:Nat}{a_:t8}{r:SV}(y:ez P g=true)
 (h:∀(x:Sit)(w:World)(vs:LAc),cE x a_ vs->(∀b o v,x.G b o=some v->w.cell? ⟨b,o,none⟩=some v)->
  Calls P g ⟨vs⟩ w fun e w'=>∃v,e= .returned v/\Rep x r v/\Below w.heap.size w w'):gg P g a_ [] 0 (· =⟨r,[],[]⟩):=by
 refine⟨y,fun C x w vs hw W Q Z I E O=>(h x w vs O E.per).mono ?_⟩;rintro e w' ⟨v,rfl,J,F⟩;exact⟨v,x,_,rfl,rfl,J,E.below F,fun p L=>by simp at L,fun i hi=>rfl⟩
theorem ll{l:d9}{v:Value}(h:jI w l v):(Extern.Bytes.bytesOf v).run P w= .ok ⟨⟨l⟩⟩ w:=by
 rcases h with⟨rfl,a,rfl⟩|⟨b,off,n,cap,rfl,hn,hc⟩
 ·cases a<;>rfl
 ·have F:=Lib.run_loadBytesX (P:=P) w (l.map fun c=>(c.toNat:Int)) ⟨b,off,none⟩ .empty (fun j z E=>by
   have y:j<l.length:=by have:=(pL.1 E).1;simpa using this
   have e:(⟨b,off,none⟩:Addr).add j=⟨b,off+j,none⟩:=by unfold Addr.add;split<;>simp_all
   rw[e,hc j (by omega)];simp only[aT,ac y,bB,ax.injEq]at E;rw[aa,ac y,aM,<-E])
  have I:(⟨ByteArray.empty.data++(Lib.bytesOf (l.map fun c=>(c.toNat:Int))).toArray⟩:ByteArray)=⟨⟨l⟩⟩:=by
   apply ByteArray.ext;show(#[]:Array UInt8)++(Lib.bytesOf _).toArray=⟨l⟩
   have:Lib.bytesOf (l.map fun c=>(c.toNat:Int))=l:=by unfold Lib.bytesOf;rw[List.map_map];refine(List.map_congr_left (g:=id) fun c _=> ?_).trans (List.map_id _);simp
   rw[this];simp
  rw[aY,I]at F;rw[hn];exact F
theorem sF{a b:d9}{u v:Value}(y:jI w a u)(h:jI w b v):(Extern.BytealgCompare.compare #[u,v]).run P w= .ok (.int .i64 (Lib.compareBytes a b)) w:=by change Sem.run P (do pure (goInt (Extern.BytealgCompare.cmp (<-Extern.Bytes.bytesOf u) (<-Extern.Bytes.bytesOf v)))) w=_;simp only[aD,ll y,ll h,Result.andThen,aN,Lib.cmp_eq];rfl
def xn7(l:d9)(c:UInt8):Int:=firstIdx ⟨⟨l⟩⟩ c
theorem xY{l:d9}{u:Value}{c:UInt8}(y:jI w l u):(Extern.BytealgIndexByte.indexByte #[u,.int .u8 c.toNat]).run P w= .ok (.int .i64 (xn7 l c)) w:=by
 have h:=run_indexByte_string (P:=P) ⟨⟨l⟩⟩ c.toNat w
 change Sem.run P (do
  let b<-Extern.Bytes.bytesOf u
  let c'<-Extern.Bytes.asByte (.int .u8 c.toNat)
  match (bM b.size).find? fun i=>b[i]! ==c' with
  |some i=>pure (goInt i)
  |none=>pure (goInt (-1))) w=_
 change Sem.run P (do
  let b<-Extern.Bytes.bytesOf (.string ⟨⟨l⟩⟩)
  let c'<-Extern.Bytes.asByte (.int .u8 c.toNat)
  match (bM b.size).find? fun i=>b[i]! ==c' with
  |some i=>pure (goInt i)
  |none=>pure (goInt (-1))) w=_ at h
 have e:(((c.toNat:Nat):Int).toNat.toUInt8)=c:=by simp
 rw[e]at h;simp only[aD,ll y,Result.andThen]at h ⊢;exact h
end Go.Sy
namespace Go.Sy
variable [br]
structure IK(T T':iL):Prop where
 fn:∀g b,T.fn g=some b->T'.fn g=some b
 sg:T.sg=T'.sg
variable {T T' : iL}
theorem yn(h:IK T T'):∀n,leR (gu T n) (gu T' n)
 |0=>fun _ _ _ h=>by cases h
 |n+1=>fun r c x F=>by
  have E:=yn h n;show eC (gu T' n) (fun g args os k=>nT (gu T' n) (T'.fn g) args os k) T'.sg r c=some x;rw[<-h.sg];refine mE E ?_ F;intro g a os k q y;simp only at y ⊢;cases hf:T.fn g with
  |none=>rw[hf]at y;cases y
  |some b=>rw[hf]at y;rw[h.fn g b hf];exact ja E y
theorem ZJ{α:Type}{g:Nat->Option α}{x:α}(h:lim g=some x):∃n,g n=some x:=by
 unfold lim at h;split at h
 ·exact⟨_,h⟩
 ·cases h
theorem K3(h:IK T T'){g:Nat}{a:t8}{os:List aH}{k:Nat}{q:dV}(y:call T g a os k=some q):call T' g a os k=some q:=by
 obtain⟨n,hn⟩:=ZJ y;refine rf (n:=n) ?_;unfold fz at hn ⊢;cases hf:T.fn g with
 |none=>rw[hf]at hn;cases hn
 |some b=>rw[hf]at hn;rw[h.fn g b hf];exact ja (yn h n) hn
end Go.Sy
namespace Go.Sy
variable [br]
variable {P : Program} {C : Ctx} {x : Sit} {w w' : World} {ob : List (Nat × aH)} {tk : List Nat}
open Go.RowKit Go.ChangeShapes Go.WideShapes
theorem fA(b:Nat):∀(vs:LAc)(o:Nat)(w:World),w.setCells b o vs=cd w b o vs
 |[],_,_=>rfl
 |v::r,o,w=>by rw[World.setCells,cd];exact fA b r (o+1) _
theorem dj.one(h:dj C x ob tk w)(L:Below w.heap.size w w'){obj:aH}{K:Nat}(O:eA (x.newO 100 w.heap.size K) w' 100 obj):dj C (x.newO 100 w.heap.size K) [(100,obj)] [] w':=by
 have y:=(h.sub (ob':=[]) (tk':=[]) (List.nil_sublist _) (fun t E=>by cases E)).below L;have F:(x.newO 100 w.heap.size K).bk 100=(w.heap.size,K):=iZ _ _ _;refine⟨y.per,y.g0,y.gm,y.new, ?_,by simp, ?_,(fun t E=>by cases E),(fun t E=>by cases E),(fun t E=>by cases E),y.os,y.tape,y.output,y.size,y.ext,fun i hi=>by rw[Sit.newO_ne _ _ _ _ (by omega)];exact y.pin i hi,y.lay⟩
 ·intro p I
  rw[bj]at I;subst I;refine⟨O,by rw[F];exact h.new _ h.size,fun off=> ?_⟩;rw[F];show x.G w.heap.size off=none;cases hg:x.G w.heap.size off with
  |none=>rfl
  |some v=>exact absurd (h.ltG hg) (by omega)
 ·intro p I q J _
  rw[bj]at I J;rw[I,J]
theorem xbm{a b c:SV}{vs:LAc}(h:cE x [a,b,c] vs):∃u v z,vs=[u,v,z]/\Rep x a u/\Rep x b v/\Rep x c z:=by
 match vs,h with
 |[u,v,z],h=>exact⟨u,v,z,rfl,h.2 0 (by simp),h.2 1 (by simp),h.2 2 (by simp)⟩
 |[],h=>simp[cE]at h
 |[_],h=>simp[cE]at h
 |[_,_],h=>simp[cE]at h
 |_::_::_::_::_,h=>simp[cE]at h
theorem Hb{w:World}{b:Nat}{c:LAd}{e:TypeId}{fl fh:Nat}(h:eS w b c e fl fh):w.shape? b=some (e,c.size):=by simp only[World.shape?,h.1]
theorem Kr{w:World}{b:Nat}{c:LAd}{e:TypeId}{fl fh:Nat}(h:eS w b c e fl fh)(y:¬(fl<=c.size/\c.size<fh)):w.frozen? ⟨b,c.size,none⟩=false:=by simp only[World.frozen?,h.1];simpa using y
end Go.Sy
namespace Go.Sy
variable [br]
open Go.RowKit Go.ChangeShapes Go.WideShapes
variable {P : Program} {C : Ctx} {x : Sit} {w w' : World} {T T' : iL}
def Sit.grow(x:Sit)(w w':World):Sit:=⟨fun b o=>if w.heap.size<=b then w'.cell? ⟨b,o,none⟩else x.G b o,x.bk,x.τ⟩
theorem kC{b o:Nat}{v:Value}(h:w.cell? ⟨b,o,none⟩=some v):b<w.heap.size:=by
 rcases bK b w.heap.size with y|y
 ·exact y
 ·have E:w.heap[b]? =none:=Array.getElem?_eq_none y
  simp only[World.cell?,E]at h;cases h
theorem KI(y:∀b o v,x.G b o=some v->w.cell? ⟨b,o,none⟩=some v){b o:Nat}{v:Value}(h:x.G b o=some v):(x.grow w w').G b o=some v:=by show(if w.heap.size<=b then _ else _)=_;rw[if_neg (by have:=kC (y _ _ _ h);omega)];exact h
theorem An{g:Nat}{a_:t8}{r:SV}(J:ez P g=true)
 (h:∀(x:Sit)(w:World)(vs:LAc),cE x a_ vs->(∀b o v,x.G b o=some v->w.cell? ⟨b,o,none⟩=some v)->Lay x.G->
  Calls P g ⟨vs⟩ w fun e w'=>∃v,e= .returned v/\Rep (x.grow w w') r v/\Below w.heap.size w w'):gg P g a_ [] 0 (· =⟨r,[],[]⟩):=by
 refine⟨J,fun C x w vs Z W hm hl O F hr=>(h x w vs hr F.per (W ▸ F.lay)).mono ?_⟩;rintro e w' ⟨v,rfl,Q,L⟩;have E:=F.below L;refine⟨v,x.grow w w',_,rfl,rfl,Q,⟨?_, ?_, ?_,E.new,by simp,by simp,by simp,by simp,by simp,by simp,E.os,E.tape,E.output,E.size,E.ext,fun i hi=>E.pin i hi,E.lay⟩,fun p hp=>by simp at hp,fun i hi=>rfl⟩
 ·intro b o u hu
  have y:(if w.heap.size<=b then w'.cell? ⟨b,o,none⟩else x.G b o)=some u:=hu;split at y
  ·exact y
  ·exact E.per _ _ _ y
 ·intro b o u hu
  exact KI F.per (F.g0 _ _ _ hu)
 ·intro b o u hu
  have y:(if w.heap.size<=b then w'.cell? ⟨b,o,none⟩else x.G b o)=some u:=hu;split at y
  ·rename_i I
   exact .inr (F.new b (by rw[Z];exact I))
  ·exact F.gm _ _ _ y
theorem K2(hT:py P T){g:Nat}{a_:t8}{r:SV}(h:call T g a_ [] 0=some ⟨r,[],[]⟩){vs:LAc}(F:cE (vj w) a_ vs)(hL:Lay (GW w)):
 Calls P g ⟨vs⟩ w fun e w'=>∃v x',e= .returned v/\Rep x' r v/\Below w.heap.size w w':=by
 obtain⟨L,I⟩:=re hT _ _ _ _ _ h;refine(I ⟨w,GW w,fun b=>w.heap.size<=b,fun _=>(0,0)⟩ (vj w) w vs rfl rfl (fun b E=> .inl E) (by simp) (by simp) (xhV w hL) F).mono ?_;rintro e w' ⟨v,x',q,rfl,rfl,J,y,_⟩;exact⟨v,x',rfl,J,y.os,y.tape,y.output,y.size,fun k O=>y.ext k (by simp;omega)⟩
def iL.addP(T:iL)(g:Nat)(p:t8->List aH->Nat->Option dV):iL:=⟨fun k=>if k=g then some (.prim p)else T.fn k,T.sg⟩
theorem Jz(T:iL){g:Nat}(p:t8->List aH->Nat->Option dV)(h:T.fn g=none):IK T (T.addP g p):=⟨fun k b y=>by show(if k=g then _ else _)=_;rw[if_neg (by rintro rfl;rw[h]at y;cases y)];exact y,rfl⟩
theorem Gl(T:iL)(g:Nat)(p:t8->List aH->Nat->Option dV):(T.addP g p).fn g=some (.prim p):=if_pos rfl
theorem xaT(h:py P T){g:Nat}{p:t8->List aH->Nat->Option dV}(E:∀a_ os k q,p a_ os k=some q->gg P g a_ os k (· =q)):py P (T.addP g p):=by
 intro k b y
 by_cases e:k=g
 ·subst e
  rw[Gl]at y;cases y;exact E
 ·have:T.fn k=some b:=by
   have F:(if k=g then some (FnB.prim p)else T.fn k)=some b:=y;rwa[if_neg e]at F
  exact h k b this
end Go.Sy
namespace Go
open Go.Maps (Keyed)
theorem fO{H:Type}{P:Program}{e:TypeId}(y:P.underlying e=some .bool){v:Value}{z:DataW H×List MemPlace}(h:plainElem P e v=some z):∃a,v= .bool a/\z=(.lit (.bool a),[]):=by unfold plainElem at h;rw[y]at h;cases v<;>simp at h;exact⟨_,rfl,h.symm⟩
theorem Hw{H:Type}{P:Program}{w:World}{t k e:TypeId}{b n:Nat}{D:DataW H}(E:w.ownsMap P k (plainElem P e) b n D)(K:Keyed P k)(O:P.underlying t=some (.map k e))(I:P.underlying e=some .bool)(hz:(zeroValue e).run P w= .ok (.bool false) w){key:Value}{J:Lit}(y:keyOf P k key=some J): 
 ∃c:Bool,(Instr.lookup t (.map (some b)) key false).run P w= .ok (.bool c) w/\D.atKey J (.lit (.bool false))= .lit (.bool c):=by
 obtain⟨v,ps,h,L⟩:=E.lookup K O hz (plainElem_bool I false) y;obtain⟨c,rfl,F⟩:=fO I L;simp only[bD.injEq]at F;exact⟨c,h,F.1⟩
end Go
namespace Go.Sy
variable [br]
variable {P : Program} {C : Ctx} {x : Sit} {w w' : World} {ob : List (Nat × aH)} {tk : List Nat}
open Go.RowKit Go.ChangeShapes Go.WideShapes
structure xi6(P:Program)(g:Nat)(el:TypeId)(sz:Nat):Prop where
 cb:ez P g=true
 shift:∀(b n c i vb voff vc:Nat)(cs vs:List Value)(w:World),i<n->n+1<=c->n<=1000000->vb≠b->cs.length=n*sz->vs.length=sz->(∀j u,cs[j]? =some u->w.cell? ⟨b,j,none⟩=some u)->
  (∀j,j<(n+1)*sz->(w.cell? ⟨b,j,none⟩).isSome=true)->(∀j,j<(n+1)*sz->w.frozen? ⟨b,j,none⟩=false)->(∀j u,vs[j]? =some u->w.cell? ⟨vb,voff+j,none⟩=some u)->(∀u∈cs,u.oneCell'=true)->(∀u∈vs,u.oneCell'=true)->
  (∃tB kB,w.shape? b=some (tB,kB)/\w.frozen? ⟨b,kB,none⟩=false)->
  Calls P g #[.slice (some ⟨b,0,none⟩) n c,.int .i64 i,.slice (some ⟨vb,voff,none⟩) 1 vc] w fun e w'=>e= .returned (.slice (some ⟨b,0,none⟩) (n+1) c)/\w'=(w.drew.setCells b ((i+1)*sz) (cs.drop (i*sz))).setCells b (i*sz) vs
 room:∀(b n c vb voff vc:Nat)(vs:List Value)(w:World),n+1<=c->n<=1000000->vs.length=sz->(∀j,j<sz->(w.cell? ⟨b,n*sz+j,none⟩).isSome=true)->(∀j,j<sz->w.frozen? ⟨b,n*sz+j,none⟩=false)->(∀j u,vs[j]? =some u->w.cell? ⟨vb,voff+j,none⟩=some u)->(∀u∈vs,u.oneCell'=true)->
  Calls P g #[.slice (some ⟨b,0,none⟩) n c,.int .i64 n,.slice (some ⟨vb,voff,none⟩) 1 vc] w fun e w'=>e= .returned (.slice (some ⟨b,0,none⟩) (n+1) c)/\w'=w.setCells b (n*sz) vs
 grow:∀(b n c i vb voff vc:Nat)(cs vs:List Value)(w:World),i<n->n<=c->c<n+1->n<=1000000->cs.length=n*sz->vs.length=sz->(∀j u,cs[j]? =some u->w.cell? ⟨b,j,none⟩=some u)->
  (∀j u,vs[j]? =some u->w.cell? ⟨vb,voff+j,none⟩=some u)->(∀u∈cs,u.oneCell'=true)->(∀u∈vs,u.oneCell'=true)->
  Calls P g #[.slice (some ⟨b,0,none⟩) n c,.int .i64 i,.slice (some ⟨vb,voff,none⟩) 1 vc] w fun e w'=>
   ∃(G:Nat)(R:Array Value),n+1<=G/\R.size=G*sz/\e= .returned (.slice (some ⟨w.heap.size,0,none⟩) (n+1) G)/\
    w'=(((w.alloc (.cells R el (0,0))).drew.setCells w.heap.size (i*sz) vs).drew).setCells w.heap.size ((i+1)*sz) (cs.drop (i*sz))/\∀k,k<i*sz->R.getD k undef=cs.getD k undef
 endg:∀(base:Option Addr)(n c vb voff vc:Nat)(cs vs:List Value)(w:World),n<=c->c<n+1->n<=1000000->cs.length=n*sz->vs.length=sz->(base=none->n=0)->
  (∀a,base=some a->∀j u,cs[j]? =some u->w.cell? (a.add j)=some u)->(∀j u,vs[j]? =some u->w.cell? ⟨vb,voff+j,none⟩=some u)->(∀u∈vs,u.oneCell'=true)->
  Calls P g #[.slice base n c,.int .i64 n,.slice (some ⟨vb,voff,none⟩) 1 vc] w fun e w'=>
   ∃(G:Nat)(R:Array Value),n+1<=G/\R.size=G*sz/\e= .returned (.slice (some ⟨w.heap.size,0,none⟩) (n+1) G)/\
    w'=w.drew.alloc (.cells R el (0,0))/\∀k,k<(n+1)*sz->R.getD k undef=(cs++vs).getD k undef
def kM(rows:d8)(i:Nat)(s:t8):d8:=rows.take i++s::rows.drop i
theorem y6(rows:d8)(i:Nat)(s:t8)(hi:i<=rows.length):(kM rows i s).length=rows.length+1:=by unfold kM;rw[ae,al,aq,aG];omega
theorem vT{F:Nat}(rows:d8)(i:Nat)(s:t8)(J:s.length=F)(h:∀y∈rows,y.length=F):∀y∈kM rows i s,y.length=F:=by
 intro y I;unfold kM at I;rcases am.1 I with E|E
 ·exact h y (bC E)
 ·rcases av.1 E with rfl|E
  ·exact J
  ·exact h y (cB E)
theorem zl{E:Nat}:∀{rows:d8},(∀y∈rows,y.length=E)->rows.flatten.length=rows.length*E
 |[],_=>by simp
 |r::t,h=>by rw[cD,ae,zl fun y F=>h y (aw _ F),h r aB,al,bE,pz,Nat.add_comm]
theorem sd{E:Nat}(hz:0<E):∀{rows:d8},(∀y∈rows,y.length=E)->∀k,k<rows.length*E->rows.flatten.getD k .undef=(rows.getD (k/E) []).getD (k % E) .undef
 |[],_,k,hk=>by simp at hk
 |r::t,h,k,hk=>by
  have O:=h r aB;rw[cD]
  by_cases F:k<E
  ·rw[Bz F,cH F,aa,bo (by omega),<-aa];rfl
  ·have I:k/E=(k-E)/E+1:=by
    rw[<-Nat.add_div_right _ hz];congr 1;omega
   have L:k % E=(k-E) % E:=by rw[Nat.mod_eq_sub_mod (by omega)]
   rw[I,L,aa,bA (by omega),O,<-aa,sd hz (fun y J=>h y (aw _ J)) (k-E) (by rw[al,bE,pz]at hk;omega)]
   rfl
theorem IF{E:Nat}(hz:0<E){rows:d8}(h:∀y∈rows,y.length=E){k:Nat}(F:k<rows.length*E){v:Value}:cx x (.arr E rows) k v=cL x.G (rows.flatten.getD k .undef) v:=by rw[sd hz h k F];rfl
theorem KD{E:Nat}(rows:d8)(i:Nat)(s:t8)(hi:i<=rows.length)(O:s.length=E)(h:∀y∈rows,y.length=E)(k:Nat):
 (kM rows i s).flatten.getD k .undef=if k<i*E then rows.flatten.getD k .undef else if k<(i+1)*E then s.getD (k-i*E) .undef else rows.flatten.getD (k-E) .undef:=by
 have e:(kM rows i s).flatten=(rows.take i).flatten++(s++(rows.drop i).flatten):=by unfold kM;rw[b9,cD]
 have Q:rows.flatten=(rows.take i).flatten++(rows.drop i).flatten:=by rw[<-b9,dH]
 have J:(rows.take i).flatten.length=i*E:=by rw[zl fun y L=>h y (bC L),aq,fR hi]
 have W:(i+1)*E=i*E+E:=by rw[bE,pz]
 rw[e,Q,aa]
 by_cases F:k<i*E
 ·rw[if_pos F,bo (by omega),aa,bo (by omega)]
 ·rw[if_neg F,bA (by omega),J]
  by_cases I:k<(i+1)*E
  ·rw[if_pos I,bo (by omega),<-aa]
  ·rw[if_neg I,bA (by omega),aa,bA (by omega),J,O]
   congr 2;omega
theorem yI{y:Nat}(hz:0<y){s:t8}{t:Tok}{u:Value}(h:Rep x (.lst y [s] t) u):∃(I E vc:Nat)(vs:LAc),u= .slice (some ⟨I,E,none⟩) 1 vc/\s.length=y/\vs.length=y/\(∀j,j<y->x.G I (E+j)=some (vs.getD j undef))/\∀j,j<y->cL x.G (s.getD j .undef) (vs.getD j undef):=by
 cases h with
 |dat _ _ h _=>
  cases h with
  |lst _ _ _ b off cap n val hn W J Q h=>
   have L:n=1:=hn;subst L;have O:s.length=y:=J 0 (by omega);have e:∀j,j<y->((bM y).map (val 0)).getD j undef=val 0 j:=fun j F=>by simp[aa,F]
   refine⟨b,off,cap,(bM y).map (val 0),rfl,O,by simp,fun j F=> ?_,fun j F=> ?_⟩
   ·have:=Q 0 j (by omega) F
    rw[e j F];simpa using this
   ·have:=h 0 j (by omega) F
    rw[e j F];simpa using this
theorem qG{E:Nat}(hz:0<E){rows:d8}{i n:Nat}{s:t8}{vs:LAc}(F:∀y∈rows,y.length=E)(hn:rows.length=n)(hi:i<=n)(Z:s.length=E)(hv:∀j,j<E->cL x.G (s.getD j .undef) (vs.getD j undef)){c0 c2:LAd}(I:∀k,k<n*E->cL x.G (rows.flatten.getD k .undef) (c0.getD k undef))
 (h:∀k,k<(n+1)*E->c2.getD k undef=if k<i*E then c0.getD k undef else if k<(i+1)*E then vs.getD (k-i*E) undef else c0.getD (k-E) undef) (k:Nat) (W:k<(aH.arr E (kM rows i s)).size):cx x (.arr E (kM rows i s)) k (c2.getD k undef):=by
 have Q:=y6 rows i s (by omega)
 have J:k<(n+1)*E:=by simp only[aH.size,Q,hn]at W;exact W
 have m1:(i+1)*E=i*E+E:=by rw[bE,pz]
 have m2:(n+1)*E=n*E+E:=by rw[bE,pz]
 have m3:i*E<=n*E:=bh _ hi;rw[IF hz (vT rows i s Z F) (by rw[Q,hn];exact J),KD rows i s (by omega) Z F,h k J]
 by_cases O:k<i*E
 ·rw[if_pos O,if_pos O];exact I k (by omega)
 ·rw[if_neg O,if_neg O]
  by_cases L:k<(i+1)*E
  ·rw[if_pos L,if_pos L];exact hv _ (by omega)
  ·rw[if_neg L,if_neg L];exact I (k-E) (by omega)
theorem ul{g:Nat}{el:TypeId}{E:Nat}(hz:0<E)(f4:E<=1000)(hI:xi6 P g el E){rows:d8}{i n:Nat}{s:t8}{t:Tok}(hn:rows.length=n)(hi:i<=n)(a7:n<=1000000):
 gg P g [.psl 0 E 0 n none,.int .i64 i,.lst E [s] t] [.arr E rows] 0 (· =⟨.psl 100 E 0 (n+1) none,[(100,.arr E (kM rows i s))],[]⟩):=by
 refine⟨hI.cb,fun C x w vs hw hG hm hl i1 hH hr=> ?_⟩;obtain⟨u0,u1,u2,rfl,r0,r1,r2⟩:=xbm hr;obtain⟨c,h4,L,rfl,b1,g8⟩:=r0.psl_invK;rw[r1.int_inv];obtain⟨vb,W,vc,vs,rfl,d4,c7,g5,e8⟩:=yI hz r2;have I:∀y∈rows,y.length=E:=gn.1 (i1 _ (bj.2 rfl));have d6:(0,aH.arr E rows)∈idx [.arr E rows]:=by simp[idx]
 obtain⟨⟨ca,e,fl,fh,hO,⟨g2,g1,g3⟩,d2⟩,e7,g7⟩:=hH.obs _ d6;simp only at hO g1 e7 g7 d2;have m1:(i+1)*E=i*E+E:=by rw[bE,pz]
 have m2:(n+1)*E=n*E+E:=by rw[bE,pz]
 have m3:i*E<=n*E:=bh _ hi
 have hv:∀j u,vs[j]? =some u->w.cell? ⟨vb,W+j,none⟩=some u:=fun j u Z=>by
  have h6:j<E:=by rw[<-c7];exact(pL.1 Z).1
  have F:=hH.per _ _ _ (g5 j h6);rw[aa,Z,aM]at F;exact F
 have h9:vb≠(x.bk 0).1:=by rintro rfl;have:=g5 0 hz;rw[g7]at this;cases this
 have a8:∀u∈vs,u.oneCell'=true:=fun u hu=>by obtain⟨j,Z,rfl⟩:=bp hu;have F:=(e8 j (by omega)).oneCell;rw[aa,ac Z,aM]at F;exact F
 have j1:n*E<=ca.size:=by simp only[aH.size,hn]at g2;exact g2
 have e6:∀k,k<n*E->cL x.G (rows.flatten.getD k .undef) (ca.getD k undef):=fun k hk=>by have:=d2 k (by simp only[aH.size,hn];exact hk);rw[IF hz I (by rw[hn];exact hk)]at this;exact this
 obtain⟨cs,g9⟩:∃cs:LAc,cs=(bM (n*E)).map fun k=>ca.getD k undef:=⟨_,rfl⟩
 have a1:cs.length=n*E:=by rw[g9];simp
 have b3:∀k,k<n*E->cs.getD k undef=ca.getD k undef:=fun k hk=>by rw[g9,aa];simp[hk]
 have O:∀j u,cs[j]? =some u->w.cell? ⟨(x.bk 0).1,j,none⟩=some u:=fun j u Z=>by
  have h7:j<n*E:=by rw[<-a1];exact(pL.1 Z).1
  rw[hO.cell,cy (by omega)];have F:=b3 j h7;rw[aa,Z,aS,cy (by omega)]at F;simp only[aM]at F;rw[F]
 have c5:∀u∈cs,u.oneCell'=true:=fun u hu=>by obtain⟨j,Z,rfl⟩:=bp hu;have F:=b3 j (by omega);rw[aa,ac Z,aM]at F;rw[F];exact(e6 j (by omega)).oneCell
 have b7:(aH.arr E (kM rows i s)).size=(n+1)*E:=by simp only[aH.size,y6 rows i s (by omega),hn]
 have f7:∀(K:Nat)(b:Nat) i,i<([aH.arr E rows]:List aH).length->(x.newO 100 b K).bk i=x.bk i:=fun K b i hi=>Sit.newO_ne _ _ _ _ (by simp at hi;omega)
 have d5:n+1<=c->(n+1)*E<=ca.size:=fun J=>by
  have h3:(n+1)*E<=c*E:=bh _ J;rcases g8 with h|h
  ·omega
  ·omega
 have b6:∀(w1:World),n+1<=c->(∃c2,eS w1 (x.bk 0).1 c2 e fl fh/\c2.size=ca.size/\∀k,k<(n+1)*E->c2.getD k undef=if k<i*E then ca.getD k undef else if k<(i+1)*E then vs.getD (k-i*E) undef else ca.getD (k-E) undef)->
  w1.os=w.os->w1.tape=w.tape->w1.output=w.output->w1.heap.size=w.heap.size->(∀b,b≠(x.bk 0).1->w1.heap[b]? =w.heap[b]?)->
  ∃v' x' q,(Ending.returned (.slice (some ⟨(x.bk 0).1,L,none⟩) (n+1) c):Ending)= .returned v'/\q=(⟨.psl 100 E 0 (n+1) none,[(100,.arr E (kM rows i s))],[]⟩:dV)/\Rep x' q.r v'/\dj C x' q.os q.tk w1/\(∀p∈q.os,p.2.wf=true)/\∀i,i<([aH.arr E rows]:List aH).length->x'.bk i=x.bk i:=by
  intro w1 f0 ⟨c2,Q,d3,f5⟩ e1 e2 e3 e4 e5;have d7:=d5 f0;have i3:=hH.block d6 e1 e2 e3 e4 e5 (obj':= .arr E (kM rows i s)) ⟨c2,e,fl,fh,Q,⟨by rw[b7,d3];exact d7,by rw[d3];exact g1,fun h=>by rw[d3];exact g3 rfl⟩,qG hz I hn hi d4 e8 e6 f5⟩;have i2:=i3.move (o:=0) (d:=100) (obj:= .arr E (kM rows i s)) (by omega) (by simp[idx,setO]) (fun cs e=>by cases e);have a6:(x.newO 100 (x.bk 0).1 (x.bk 0).2).bk 100=x.bk 0:=iZ _ _ _;refine⟨_,x.newO 100 (x.bk 0).1 (x.bk 0).2,_,rfl,rfl, ?_, ?_, ?_,f7 _ _⟩
  ·have:=Rep.psl (x:=x.newO 100 (x.bk 0).1 (x.bk 0).2) 100 E 0 (n+1) none L c b1 (by omega) (fun _ e=>by cases e) (fun _=>by rw[a6];exact g8)
   rw[a6]at this;exact this
  ·simpa[idx,setO,bP,tks,lu,cJ]using i2
  ·intro p hp
   rw[bj.1 hp];exact gn.2 (vT rows i s d4 I)
 have e0:∀(w1:World)(G:Nat)(c2:LAd),n+1<=G->c2.size=G*E->eS w1 w.heap.size c2 el 0 0->(∀k,k<(n+1)*E->c2.getD k undef=if k<i*E then ca.getD k undef else if k<(i+1)*E then vs.getD (k-i*E) undef else ca.getD (k-E) undef)->Below w.heap.size w w1->
  ∃v' x' q,(Ending.returned (.slice (some ⟨w.heap.size,0,none⟩) (n+1) G):Ending)= .returned v'/\q=(⟨.psl 100 E 0 (n+1) none,[(100,.arr E (kM rows i s))],[]⟩:dV)/\Rep x' q.r v'/\dj C x' q.os q.tk w1/\(∀p∈q.os,p.2.wf=true)/\∀i,i<([aH.arr E rows]:List aH).length->x'.bk i=x.bk i:=by
  intro w1 G c2 a2 c3 Q f5 hb;have g4:(n+1)*E<=G*E:=bh _ a2;have a6:(x.newO 100 w.heap.size (G*E)).bk 100=(w.heap.size,G*E):=iZ _ _ _;refine⟨_,x.newO 100 w.heap.size (G*E),_,rfl,rfl, ?_, ?_, ?_,f7 _ _⟩
  ·have:=Rep.psl (x:=x.newO 100 w.heap.size (G*E)) 100 E 0 (n+1) none 0 G (.inr (by omega)) a2 (fun _ e=>by cases e) (fun _=> .inr (by rw[a6];simp))
   rw[a6]at this;exact this
  ·exact hH.one hb ⟨c2,el,0,0,by rw[a6];exact Q,⟨by rw[b7,c3];exact g4,by rw[a6,c3];exact aJ _,fun _ h=>by omega⟩,fun k hk=>qG (x:=x) hz I hn hi d4 e8 e6 f5 k hk⟩
  ·intro p hp
   rw[bj.1 hp];exact gn.2 (vT rows i s d4 I)
 have j0:(cs.drop (i*E)).length=n*E-i*E:=by rw[aG,a1]
 by_cases J:n+1<=c
 ·have d7:=d5 J
  obtain rfl:L=0:=by rcases b1 with h|h<;>omega
  have d1:∀j,j<(n+1)*E->(w.cell? ⟨(x.bk 0).1,j,none⟩).isSome=true:=fun j Z=>by rw[hO.cell,cy (by omega)];rfl
  have b4:∀j,j<(n+1)*E->w.frozen? ⟨(x.bk 0).1,j,none⟩=false:=fun j Z=>hO.free (by omega)
  rcases bK i n with f1|hge
  ·refine(hI.shift (x.bk 0).1 n c i vb W vc cs vs w f1 J a7 h9 a1 c7 O d1 b4 hv c5 a8 ⟨e,ca.size,Hb hO,Kr hO (g3 rfl)⟩).mono ?_
   rintro en w1 ⟨rfl,rfl⟩;have h5:eS w.drew (x.bk 0).1 ca e fl fh:=hO.of_heap rfl;obtain⟨c1,e9,i0,f2⟩:=dv (cs.drop (i*E)) w.drew ((i+1)*E) ca h5 (by omega);obtain⟨c2,Q,f4,b5⟩:=dv vs (cd w.drew (x.bk 0).1 ((i+1)*E) (cs.drop (i*E))) (i*E) c1 e9 (by omega);obtain⟨p1,p2,p3,p4,p5⟩:=dM (x.bk 0).1 (cs.drop (i*E)) w.drew ((i+1)*E);obtain⟨s1,s2,s3,s4,s5⟩:=dM (x.bk 0).1 vs (cd w.drew (x.bk 0).1 ((i+1)*E) (cs.drop (i*E))) (i*E);rw[fA,fA];refine b6 _ J ⟨c2,Q,by omega,fun k hk=> ?_⟩ (s1.trans p1) (s2.trans p2) (s3.trans p3) (s4.trans p4) (fun b hb=>(s5 b hb).trans (p5 b hb));rw[b5 k,f2 k]
   by_cases F:k<i*E
   ·rw[if_neg (by omega),if_neg (by omega),if_pos F]
   ·rw[if_neg F]
    by_cases h2:k<(i+1)*E
    ·rw[if_pos (by omega),if_pos h2]
    ·rw[if_neg (by omega),if_pos (by omega),if_neg h2,aa,bz,<-aa,show i*E+(k-(i+1)*E)=k-E by omega]
     exact b3 (k-E) (by omega)
  ·obtain rfl:i=n:=by omega
   refine(hI.room (x.bk 0).1 i c vb W vc vs w J a7 c7 (fun j Z=>d1 _ (by omega)) (fun j Z=>b4 _ (by omega)) hv a8).mono ?_;rintro en w1 ⟨rfl,rfl⟩;obtain⟨c2,Q,f4,b5⟩:=dv vs w (i*E) ca hO (by omega);obtain⟨s1,s2,s3,s4,s5⟩:=dM (x.bk 0).1 vs w (i*E);rw[fA];refine b6 _ J ⟨c2,Q,by omega,fun k hk=> ?_⟩ s1 s2 s3 s4 s5;rw[b5 k]
   by_cases F:k<i*E
   ·rw[if_neg (by omega),if_pos F]
   ·rw[if_pos (by omega),if_neg F,if_pos (by omega)]
 ·have j2:c=n:=by omega
  rcases bK i n with f1|hge
  ·obtain rfl:L=0:=by rcases b1 with h|h<;>omega
   refine(hI.grow (x.bk 0).1 n c i vb W vc cs vs w f1 h4 (by omega) a7 a1 c7 O hv c5 a8).mono ?_;rintro en w1 ⟨G,R,a2,c3,rfl,rfl,hR⟩;have g4:(n+1)*E<=G*E:=bh _ a2;have i4:eS (w.alloc (.cells R el (0,0))).drew w.heap.size R el 0 0:=⟨heap_alloc_new,fun i _ h=>by omega⟩;obtain⟨c1,e9,i0,f2⟩:=dv vs (w.alloc (.cells R el (0,0))).drew (i*E) R i4 (by omega);have g6:eS (cd (w.alloc (.cells R el (0,0))).drew w.heap.size (i*E) vs).drew w.heap.size c1 el 0 0:=e9.of_heap rfl;obtain⟨c2,Q,f4,b5⟩:=dv (cs.drop (i*E)) (cd (w.alloc (.cells R el (0,0))).drew w.heap.size (i*E) vs).drew ((i+1)*E) c1 g6 (by omega);obtain⟨p1,p2,p3,p4,p5⟩:=dM w.heap.size vs (w.alloc (.cells R el (0,0))).drew (i*E);obtain⟨s1,s2,s3,s4,s5⟩:=dM w.heap.size (cs.drop (i*E)) (cd (w.alloc (.cells R el (0,0))).drew w.heap.size (i*E) vs).drew ((i+1)*E);rw[fA,fA];refine e0 _ G c2 a2 (by omega) Q (fun k hk=> ?_) ⟨s1.trans p1,s2.trans p2,s3.trans p3, ?_,fun b hb=> ?_⟩
   ·rw[b5 k,f2 k]
    by_cases F:k<i*E
    ·rw[if_neg (by omega),if_neg (by omega),if_pos F,hR k F,b3 k (by omega)]
    ·rw[if_neg F]
     by_cases h2:k<(i+1)*E
     ·rw[if_neg (by omega),if_pos (by omega),if_pos h2]
     ·rw[if_pos (by omega),if_neg h2,aa,bz,<-aa,show i*E+(k-(i+1)*E)=k-E by omega]
      exact b3 (k-E) (by omega)
   ·rw[s4]
    show w.heap.size<=(cd (w.alloc (.cells R el (0,0))).drew w.heap.size (i*E) vs).heap.size;rw[p4];show w.heap.size<=(w.alloc (.cells R el (0,0))).heap.size;rw[World.size_alloc];omega
   ·rw[s5 b (by omega)]
    show(cd (w.alloc (.cells R el (0,0))).drew w.heap.size (i*E) vs).heap[b]? =_;rw[p5 b (by omega)];exact dO hb
  ·obtain rfl:i=n:=by omega
   refine(hI.endg (some ⟨(x.bk 0).1,L,none⟩) i c vb W vc cs vs w h4 (by omega) a7 a1 c7 (fun h=>by cases h) (fun a ha j u Z=> ?_) hv a8).mono ?_
   ·cases ha
    have h8:j<i*E:=by rw[<-a1];exact(pL.1 Z).1
    have h0:L=0:=by
     rcases b1 with h|h
     ·have:i=0:=by omega
      rw[this,ip]at h8;omega
     ·omega
    rw[dD,h0,bT];exact O j u Z
   rintro en w1 ⟨G,R,a2,c3,rfl,rfl,hR⟩;refine e0 _ G R a2 c3 ⟨heap_alloc_new,fun i _ h=>by omega⟩ (fun k hk=> ?_) ((Below.refl _ w).drew.alloc (aJ _) _);rw[hR k hk]
   by_cases F:k<i*E
   ·rw[if_pos F,aa,bo (by omega),<-aa,b3 k F]
   ·rw[if_neg F,if_pos (by omega),aa,bA (by omega),a1,<-aa]
theorem qE{g:Nat}{el:TypeId}{E:Nat}(hz:0<E)(hI:xi6 P g el E){s:t8}{t:Tok}:
 gg P g [.lst E [] .clip,.int .i64 0,.lst E [s] t] [] 0 (· =⟨.psl 100 E 0 1 none,[(100,.arr E [s])],[]⟩):=by
 refine⟨hI.cb,fun C x w vs hw hG hm hl b3 hH hr=> ?_⟩;obtain⟨u0,u1,u2,rfl,r0,r1,r2⟩:=xbm hr;obtain⟨base,cap,rfl,b1,hD,a2⟩:=r0.lst_inv;obtain⟨a',n',he⟩:=a2;simp only[aA,Value.slice.injEq]at he;obtain⟨_,rfl,rfl⟩:=he;rw[r1.int_inv];obtain⟨vb,I,vc,vs,rfl,a8,L,a6,Q⟩:=yI hz r2
 have hv:∀j u,vs[j]? =some u->w.cell? ⟨vb,I+j,none⟩=some u:=fun j u J=>by
  have a1:j<E:=by rw[<-L];exact(pL.1 J).1
  have O:=hH.per _ _ _ (a6 j a1);rw[aa,J,aM]at O;exact O
 have W:∀u∈vs,u.oneCell'=true:=fun u hu=>by obtain⟨j,J,rfl⟩:=bp hu;have O:=(Q j (by omega)).oneCell;rw[aa,ac J,aM]at O;exact O
 refine(hI.endg base 0 0 vb I vc [] vs w (aJ _) (by omega) (by omega) (by simp) L (fun _=>rfl) (fun a _ j u J=>by simp at J) hv W).mono ?_;rintro en w1 ⟨G,R,b5,a7,rfl,rfl,hR⟩;have F:(x.newO 100 w.heap.size (G*E)).bk 100=(w.heap.size,G*E):=iZ _ _ _;have b4:1*E<=G*E:=bh _ (by omega);have Z:∀y∈ [s],y.length=E:=fun y hy=>by rw[bj.1 hy];exact a8
 refine⟨_,x.newO 100 w.heap.size (G*E),_,rfl,rfl, ?_, ?_, ?_,fun i hi=>by simp at hi⟩
 ·have:=Rep.psl (x:=x.newO 100 w.heap.size (G*E)) 100 E 0 1 none 0 G (.inr (by omega)) (by omega) (fun _ e=>by cases e) (fun _=> .inr (by rw[F];simp))
  rw[F]at this;exact this
 ·refine hH.one ((Below.refl _ w).drew.alloc (aJ _) _) ⟨R,el,0,0,by rw[F];exact⟨heap_alloc_new,fun i _ h=>by omega⟩,⟨by simp only[aH.size,aF];omega,by rw[F,a7];exact aJ _,fun _ h=>by omega⟩,fun k hk=> ?_⟩
  simp only[aH.size,aF,pz]at hk;rw[IF hz Z (by rw[aF];omega),hR k (by omega)];have e:([s]:d8).flatten=s:=by simp
  rw[e,aE];exact Q k hk
 ·intro p hp
  rw[bj.1 hp];exact gn.2 Z
end Go.Sy
namespace Go.Sy
open Go.RowKit Go.ChangeShapes Go.WideShapes Go.Shelf Go.Lib Go.Proofs
variable {P : Program}
theorem eg(w:World)(L sT ty elem:TypeId)(b o y E:Nat)(a:Addr)(h I:Nat)(cs:LAc)(k q:Nat)
 (hu:P.underlying L=some (.slice elem)) (O:(P.info? elem).map (·.size)=some k) (Q:Nat.min h y=q) (hn:cs.length=q*k)
 (F:∀j v,cs[j]? =some v->w.cell? (a.add j)=some v) (W:∀j,j<cs.length->(w.cell? ⟨b,o+j,none⟩).isSome=true) (hf:∀j,j<cs.length->w.frozen? ⟨b,o+j,none⟩=false) (h1:∀v∈cs,v.oneCell'=true):
 (Builtin.copy_ #[L,sT] ty #[.slice (some ⟨b,o,none⟩) y E,.slice (some a) h I]).run P w= .ok (goInt q) (w.setCells b o cs):=by
 have Z:=run_loadCells_list (P:=P) w a cs F;have J:=run_storeCells_cells (P:=P) b o cs 0 w (by simpa using W) (by simpa using hf) h1;cases hq:P.info? elem with
 |none=>simp[hq]at O
 |some i=>
  have hi:i.size=k:=by simpa[hq]using O
  simp[Builtin.copy_,run_underlying hu,Builtin.lenOf,Builtin.firstCells,sizeOf,typeInfo,hq,hi,Q,<-hn,Z,J]
end Go.Sy
