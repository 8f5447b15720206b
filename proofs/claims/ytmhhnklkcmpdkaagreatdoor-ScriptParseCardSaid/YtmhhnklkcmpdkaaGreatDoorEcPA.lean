/- A sound engine for Go code. No condition. -/
import Derived.Test.YtmhhnklkcmpdkaaGreatDoorEbPA
import Derived.Below
import Derived.Carry
import Derived.ChangeSlices
import Derived.JoinedCond
import Derived.OpenShut
import Derived.RowKit3
import Derived.SliceStrings
import Derived.Lib.Bytealg
import Derived.Lib.BytesEntry
import Derived.Laws.IdiomCopy
import Derived.Maps.OwnOps
import Derived.Maps.OwnSet
import Derived.Shelf.Spec.SlicesInsertGrow
open Array renaming getD -> kK, getElem?_eq_some_iff -> dS, getElem?_toList -> dA, length_toList -> aP, replicate -> ei
open Bool renaming and_eq_true -> aw, false_eq_true -> az, not_eq_true' -> ej, not_false -> Ew, not_true -> rP, or_eq_true -> gG
open List renaming Nodup -> wO, Sublist -> kE, all_cons -> fV, all_eq_true -> aI, append_nil -> aZ, cons_append -> br, contains_eq_mem -> fI, filter_cons -> lG, filter_eq_self -> iV, getD_cons_succ -> nt, getD_eq_getElem?_getD -> aa, getElem?_drop -> bO, getElem?_eq_getElem -> ab, getElem?_eq_none -> eH, getElem?_map -> aN, getElem?_range -> cM, getElem?_take -> bG, getElem_mem -> aU, getElem_of_mem -> bH, length -> mq, length_append -> ac, length_cons -> ah, length_drop -> aX, length_eq_zero_iff -> bx, length_map -> aC, length_take -> av, map_append -> cz, map_cons -> aG, map_map -> wN, mem_append -> an, mem_cons -> al, mem_cons_of_mem -> af, mem_cons_self -> aq, mem_map -> aT, mem_map_of_mem -> iU, mem_range -> kr, mem_singleton -> bX, nil_append -> aR, nodup_cons -> eZ, not_mem_nil -> bA, pairwise_append -> DS, pairwise_cons -> eL, pairwise_map -> hZ, range -> bQ, replicate -> aJ
open Nat renaming le_refl -> bc, le_trans -> gf, lt_or_ge -> bP, mod_eq_of_lt -> dF
open Option renaming bind_some -> di, getD_some -> aO, ite_none_right_eq_some -> aH, map_eq_some_iff -> ae, map_some -> bn, some -> ao
open Prod renaming fst -> cI, mk -> bm
open Go.Result renaming andThen_ok -> ak
open Go.Sem renaming run_bind -> ax, run_pure -> aE
open UInt8 renaming ofNat -> aQ
set_option linter.unusedVariables false
set_option linter.unusedSimpArgs false
set_option linter.unnecessarySimpa false
set_option linter.unusedSectionVars false
namespace Go.Sy
variable [aW]
variable {P : Program} {C : Ctx} {x : Sit} {a : Act} {w : World} {N : Nat} {c c' : CSt} {s : St} {call : dr} {sg : Nat -> Sig}
abbrev TM:=List (Nat×SV)
structure Uni(d:Option Nat)(F:TM->TM):Prop where
 get:∀tm tm' n,fo tm n=fo tm' n->fo (F tm) n=fo (F tm') n
 dom:∀tm p,p∈F tm->(∃q∈tm,q.1=p.1)\/d=some p.1
theorem Uni.id{d:t8}:Uni d (fun t=>t):=⟨fun _ _ _ h=>h,fun _ p y=> .inl ⟨p,y,rfl⟩⟩
theorem Uni.comp{d:t8}{F G:TM->TM}(z:Uni d F)(E:Uni d G):Uni d (fun t=>G (F t)):=
 ⟨fun _ _ _ h=>E.get _ _ _ (z.get _ _ _ h),fun tm p J=>by
  rcases E.dom _ _ J with⟨q,I,e⟩|h
  ·rcases z.dom _ _ I with⟨L,y,O⟩|h
   ·exact .inl ⟨L,y,O.trans e⟩
   ·exact .inr (by rw[h,e])
  ·exact .inr h⟩
theorem Uni.purge{d:t8}(lo hi:Nat):Uni d (dj lo hi):=
 ⟨fun tm tm' n h=>by rw[gO,gO,h],fun tm p y=>by obtain⟨q,z,e⟩:=kd y;exact .inl ⟨q,z,e.symm⟩⟩
theorem Uni.pub{d:t8}(o:Nat)(obj:aB):Uni d (mu o obj):=
 ⟨fun tm tm' n h=>by rw[lg,lg,h],fun tm p z=>by obtain⟨q,y,e⟩:=qG z;exact .inl ⟨q,y,e.symm⟩⟩
theorem Uni.put(k:Nat)(v:SV):Uni (some k) (fun t=>jZ t k v):=
 ⟨fun tm tm' n h=>by
  simp only[m7];rw[h],fun tm p y=>by
  rcases mX y with e|e
  ·exact .inr (by rw[e])
  ·exact .inl ⟨p,e,rfl⟩⟩
theorem Uni.weak{d:t8}{F:TM->TM}(h:Uni none F):Uni d F:=⟨h.get,fun tm p y=>by
 rcases h.dom tm p y with h|h
 ·exact .inl h
 ·cases h⟩
theorem Uni.cput(d:t8)(v:SV):∃F,Uni d F/\∀tm ob tk,CSt.put ⟨tm,ob,tk⟩ d v=⟨F tm,ob,tk⟩:=by
 cases d with
 |none=>exact⟨fun t=>t,Uni.id,fun _ _ _=>rfl⟩
 |some k=>exact⟨fun t=>jZ t k v,Uni.put k v,fun _ _ _=>rfl⟩
section
variable {tm tm' : TM} {ob : List (Nat × aB)} {tk : List Nat}
theorem mP:∀(n:Nat)(acc l:t7),eD ⟨tm',ob,tk⟩ n acc l=eD ⟨tm,ob,tk⟩ n acc l
 |0,_,_=>rfl
 |_+1,_,[]=>rfl
 |n+1,acc,o::t=>by
  simp only[eD];show(if _ then _ else match jo ob o with|some h=>_|none=>_)=(if _ then _ else match jo ob o with|some h=>_|none=>_);split
  ·exact mP n _ _
  ·split
   ·exact mP n _ _
   ·exact mP n _ _
theorem wh:∀l:t7,looks ⟨tm',ob,tk⟩ l=looks ⟨tm,ob,tk⟩ l
 |[]=>rfl
 |o::r=>by simp only[looks];rw[wh r];rfl
theorem ol(o:Nat)(vs:t6):∃F y tk' h,Uni none F/\∀tm,CSt.publish ⟨tm,ob,tk⟩ o vs=(⟨F tm,y,tk'⟩,h):=by
 unfold CSt.publish CSt.look;simp only;split
 ·exact⟨_,_,_,_,Uni.pub _ _,fun _=>rfl⟩
 ·exact⟨_,_,_,_,Uni.pub _ _,fun _=>rfl⟩
 ·exact⟨_,_,_,_,Uni.id,fun _=>rfl⟩
theorem pE:∀(l:t7)(ob:List (Nat×aB))(tk:t7)(vs:t6),∃F I tk' z,Uni none F/\∀tm,fE ⟨tm,ob,tk⟩ vs l=(⟨F tm,I,tk'⟩,z)
 |[],ob,tk,vs=>⟨_,_,_,_,Uni.id,fun _=>rfl⟩
 |o::r,ob,tk,vs=>by obtain⟨F,h,y,O,Z,Q⟩:=ol (ob:=ob) (tk:=tk) o vs;obtain⟨G,L,J,E,h3,W⟩:=pE r h y O;refine⟨fun t=>G (F t),L,J,E,Z.comp h3,fun tm=> ?_⟩;simp only[fE];rw[Q];exact W _
theorem qf(d:t8)(m mt:t7)(q:eg):∃F h tk',Uni d F/\∀tm,kD ⟨tm,ob,tk⟩ d m mt q=⟨F tm,h,tk'⟩:=by unfold kD;dsimp only;obtain⟨F,z,y⟩:=Uni.cput d (q.r.ren (jt (d.getD 0) m) (kX (d.getD 0)));exact⟨_,_,_,(Uni.purge ((d.getD 0+1)*1000) ((d.getD 0+2)*1000)).comp z,fun tm=>y _ _ _⟩
theorem EW{sg:Sig}{d:t8}{g:Nat}{a_:t6}:∃F,Uni d F/\∃q:Option (List (Nat×aB)×t7),∀tm,ku call sg d g (⟨tm,ob,tk⟩,a_)=q.map fun q=>⟨F tm,q.1,q.2⟩:=by
 simp only[ku];generalize kG tk sg.own 50 0 a_=z;obtain⟨h,y⟩:=z;simp only[oG];have L:∀tm,eD ⟨tm,ob,tk⟩ 60 [] (SV.idsL h)=eD ⟨[],ob,tk⟩ 60 [] (SV.idsL h):=fun tm=>mP _ _ _
 have O:∀tm l,looks ⟨tm,ob,tk⟩ l=looks ⟨[],ob,tk⟩ l:=fun tm l=>wh l
 simp only[L,O];generalize eD ⟨[],ob,tk⟩ 60 [] (SV.idsL h)=m;cases ho:looks ⟨[],ob,tk⟩ m with
 |none=>exact⟨_,Uni.id,none,fun _=>rfl⟩
 |some J=>
  simp only[l4];generalize eS tk (50+y.length) J=z2;obtain⟨os,E⟩:=z2;simp only[oF];generalize (pe (SV.idsL h++gw os) m&&ec m&&ec (cJ (y++E))&&decide (m.length<=40)&&m.all fun o=> !inR (d.getD 0) o)=b;cases b with
  |false=>exact⟨_,Uni.id,none,fun _=>rfl⟩
  |true=>
   simp only[oE];cases hq:call g (SV.renL (ij m) _root_.id h) (fe (ij m) _root_.id os) (y.length+E.length)with
   |none=>exact⟨_,Uni.id,none,fun _=>rfl⟩
   |some q=>
    simp only[po];generalize q.small=b;cases b with
    |false=>exact⟨_,Uni.id,none,fun _=>rfl⟩
    |true=>obtain⟨F,I,tk',W,Q⟩:=qf (ob:=ob) (tk:=tk) d m (cJ (y++E)) q;exact⟨F,W,some (I,tk'),fun tm=>by simp only[xa,bn,Q]⟩
theorem sO{sg:Sig}{d:t8}{g:Nat}{a_:t6}:∃F,Uni d F/\∃q:Option (List (Nat×aB)×t7),∀tm,iP call sg ⟨tm,ob,tk⟩ d g a_=q.map fun q=>⟨F tm,q.1,q.2⟩:=by
 unfold iP;generalize ((SV.idsL a_).isEmpty&&sg.own.isEmpty)=b;cases b with
 |true=>
  simp only[kB];cases hq:call g (SV.bareL a_) [] 0 with
  |none=>exact⟨_,Uni.id,none,fun _=>rfl⟩
  |some q=>
   simp only[m9];generalize q.bare=b;cases b with
   |true=>simp only[oO];obtain⟨F,y,h⟩:=Uni.cput d q.r;exact⟨F,y,some (ob,tk),fun tm=>by rw[h];rfl⟩
   |false=>
    simp only[oO];generalize q.small=b;cases b with
    |false=>exact⟨_,Uni.id,none,fun _=>rfl⟩
    |true=>obtain⟨F,I,tk',y,h⟩:=qf (ob:=ob) (tk:=tk) d [] [] q;exact⟨F,y,some (I,tk'),fun tm=>by simp only[x5,h];rfl⟩
 |false=>simp only[kB];obtain⟨F,z,E,J,y,h⟩:=pE (jy sg.raw 0 a_) ob tk a_;obtain⟨G,O,q,L⟩:=EW (call:=call) (ob:=z) (tk:=E) (sg:=sg) (d:=d) (g:=g) (a_:=J);exact⟨fun t=>G (F t),y.weak.comp O,q,fun tm=>by rw[h];exact L _⟩
theorem GG:∀(l:List (Nat×aB))(tm:TM)(ob:List (Nat×aB))(tk:t7),CSt.wr ⟨tm,ob,tk⟩ l=⟨tm,(CSt.wr ⟨[],ob,tk⟩ l).ob,tk⟩
 |[],_,_,_=>rfl
 |p::r,tm,ob,tk=>by simp only[CSt.wr];exact GG r tm _ tk
theorem qe(d:t8)(e:o7):∃F z tk',Uni d F/\∀tm,CSt.app ⟨tm,ob,tk⟩ d e=⟨F tm,z,tk'⟩:=by
 unfold CSt.app;dsimp only;obtain⟨F,y,h⟩:=Uni.cput d e.val;split
 ·exact⟨_,_,_,(Uni.purge (d.getD 0+100) (d.getD 0+101)).comp y,fun tm=>h _ _ _⟩
 ·exact⟨_,_,_,(Uni.purge (d.getD 0+100) (d.getD 0+101)).comp y,fun tm=>h _ _ _⟩
 ·exact⟨F,(CSt.wr ⟨[],ob,tk⟩ e.wr).ob,tk,y,fun tm=>by rw[GG];exact h _ _ _⟩
theorem xho{x:Arg}(h:∀n,x= .t n->fo tm' n=fo tm n):CSt.ev ⟨tm',ob,tk⟩ x=CSt.ev ⟨tm,ob,tk⟩ x:=by
 cases x with
 |t n=>exact h n rfl
 |c v=>rfl
 |f g=>rfl
theorem mG:∀{l:List Arg},(∀x∈l,CSt.ev ⟨tm',ob,tk⟩ x=CSt.ev ⟨tm,ob,tk⟩ x)->evL ⟨tm',ob,tk⟩ l=evL ⟨tm,ob,tk⟩ l
 |[],_=>rfl
 |x::r,h=>by simp only[evL];rw[h x (aq ..),mG fun y z=>h y (af _ z)]
theorem Nn:∀{l:List (Nat×Nat×Arg)},(∀x∈l.map (fun p=>p.2.2),CSt.ev ⟨tm',ob,tk⟩ x=CSt.ev ⟨tm,ob,tk⟩ x)->psC ⟨tm',ob,tk⟩ l=psC ⟨tm,ob,tk⟩ l
 |[],_=>rfl
 |(o,n,x)::r,h=>by simp only[psC];rw[h x (by simp),Nn fun y z=>h y (by simp only[aG,al];exact .inr z)]
theorem nC{x:Option Arg}{d:Int}(h:∀y∈x.toList,CSt.ev ⟨tm',ob,tk⟩ y=CSt.ev ⟨tm,ob,tk⟩ y):lb ⟨tm',ob,tk⟩ x d=lb ⟨tm,ob,tk⟩ x d:=by
 cases x with
 |none=>rfl
 |some y=>simp only[lb];rw[h y (by simp)]
theorem AF{z:Nat}{v:SV}{lo hi h:Option Arg}(F:∀y∈lo.toList,CSt.ev ⟨tm',ob,tk⟩ y=CSt.ev ⟨tm,ob,tk⟩ y)(E:∀y∈hi.toList,CSt.ev ⟨tm',ob,tk⟩ y=CSt.ev ⟨tm,ob,tk⟩ y)(I:∀y∈h.toList,CSt.ev ⟨tm',ob,tk⟩ y=CSt.ev ⟨tm,ob,tk⟩ y):
 oY ⟨tm',ob,tk⟩ z v lo hi h=oY ⟨tm,ob,tk⟩ z v lo hi h:=by
 unfold oY;simp only[nC F,nC E,nC I]
theorem At{o:SOp}(h:∀y∈o.args,CSt.ev ⟨tm',ob,tk⟩ y=CSt.ev ⟨tm,ob,tk⟩ y):cR ⟨tm',ob,tk⟩ o=cR ⟨tm,ob,tk⟩ o:=by
 cases o with
 |build z ps=>simp only[SOp.args]at h;simp only[cR];rw[Nn h]
 |lit F I=>simp only[SOp.args]at h;simp only[cR];rw[mG h]
 |litB I=>simp only[SOp.args]at h;simp only[cR];rw[mG h]
 |mkfn f a b=>simp only[SOp.args,an]at h;simp only[cR];rw[mG fun y E=>h y (.inl E),mG fun y E=>h y (.inr E)]
 |slcS x lo hi=>simp only[SOp.args,al,an]at h;simp only[cR];rw[h x (.inl rfl)];simp only[nC fun y E=>h y (.inr (.inl E)),nC fun y E=>h y (.inr (.inr E))]
 |slcL F x lo hi J=>simp only[SOp.args,al,an]at h;simp only[cR];rw[h x (.inl rfl),AF (fun y E=>h y (.inr (.inl (.inl E)))) (fun y E=>h y (.inr (.inl (.inr E)))) (fun y E=>h y (.inr (.inr E)))]
 |slcA len F x lo hi J=>simp only[SOp.args,al,an]at h;simp only[cR];rw[h x (.inl rfl)];simp only[AF (fun y E=>h y (.inr (.inl (.inl E)))) (fun y E=>h y (.inr (.inl (.inr E)))) (fun y E=>h y (.inr (.inr E)))]
 |_=>
  simp only[SOp.args,al,bA,or_false,forall_eq_or_imp,forall_eq,bX]at h
  first
   |rfl
   |(simp only[cR];rw[h];rfl)
   |(simp only[cR];rw[h.1,h.2];rfl)
   |(simp only[cR,h];done)
   |(simp only[cR,h.1,h.2];done)
theorem CR{n:Nat}{v:t6}{u:SV}:lJ ⟨tm',ob,tk⟩ n v u=lJ ⟨tm,ob,tk⟩ n v u:=by
 cases u<;>rfl
theorem Ss{d:t8}{o:SOp}(h:∀y∈o.args,CSt.ev ⟨tm',ob,tk⟩ y=CSt.ev ⟨tm,ob,tk⟩ y):eM ⟨tm',ob,tk⟩ d o=eM ⟨tm,ob,tk⟩ d o:=by
 have hv:=At h;cases o with
 |new ob=>rfl
 |call f a_=>rfl
 |box x=>simp only[SOp.args,al,bA,or_false,forall_eq]at h;simp only[eM];rw[h]
 |mk z b n m=>simp only[SOp.args,al,bA,or_false,forall_eq_or_imp,forall_eq]at h;simp only[eM];rw[h.1,h.2]
 |mkB n m=>simp only[SOp.args,al,bA,or_false,forall_eq_or_imp,forall_eq]at h;simp only[eM];rw[h.1,h.2]
 |store n a x=>simp only[SOp.args,al,bA,or_false,forall_eq_or_imp,forall_eq]at h;simp only[eM];rw[h.1,h.2,CR]
 |app z b x y=>
  simp only[SOp.args,al,bA,or_false,forall_eq_or_imp,forall_eq]at h;have E:∀v,eJ ⟨tm',ob,tk⟩ v=eJ ⟨tm,ob,tk⟩ v:=fun v=>by cases v<;>rfl
  have F:∀n v,gB ⟨tm',ob,tk⟩ n v=gB ⟨tm,ob,tk⟩ n v:=fun n v=>by cases v<;>rfl
  have I:∀t:Tok,t.readyC ⟨tm',ob,tk⟩=t.readyC ⟨tm,ob,tk⟩:=fun t=>by cases t<;>rfl
  simp only[eM];rw[h.1,h.2];simp only[E,F,I]
 |clr z x=>simp only[SOp.args,al,bA,or_false,forall_eq]at h;simp only[eM];rw[h];rfl
 |cpy J x y=>
  simp only[SOp.args,al,bA,or_false,forall_eq_or_imp,forall_eq]at h;have E:∀v,eJ ⟨tm',ob,tk⟩ v=eJ ⟨tm,ob,tk⟩ v:=fun v=>by cases v<;>rfl
  have F:∀n v,gB ⟨tm',ob,tk⟩ n v=gB ⟨tm,ob,tk⟩ n v:=fun n v=>by cases v<;>rfl
  simp only[eM];rw[h.1,h.2];simp only[E,F];rfl
 |pick k a b=>simp only[SOp.args,al,bA,or_false,forall_eq_or_imp,forall_eq]at h;simp only[eM];rw[h.1,h.2.1,h.2.2]
 |isnil L x=>simp only[SOp.args,al,bA,or_false,forall_eq]at h;simp only[eM];rw[h]
 |_=>simp only[eM];rw[hv]
theorem FJ{d:t8}{z:t6}{b:Nat}{y:Arg}{v:SV}(h:CSt.ev ⟨tm',ob,tk⟩ y=CSt.ev ⟨tm,ob,tk⟩ y)(E:se ⟨tm,ob,tk⟩ d z b y v=some c'):∃F,Uni d F/\c'.tm=F tm/\se ⟨tm',ob,tk⟩ d z b y v=some ⟨F tm',c'.ob,c'.tk⟩:=by
 have e1:∀v,eJ ⟨tm',ob,tk⟩ v=eJ ⟨tm,ob,tk⟩ v:=fun v=>by cases v<;>rfl
 have e2:∀n v,gB ⟨tm',ob,tk⟩ n v=gB ⟨tm,ob,tk⟩ n v:=fun n v=>by cases v<;>rfl
 have put:∀(k:Nat)(u:SV),some (CSt.put ⟨tm,ob,tk⟩ (some k) u)=some c'->∃F,Uni (some k) F/\c'.tm=F tm/\some (CSt.put ⟨tm',ob,tk⟩ (some k) u)=some ⟨F tm',c'.ob,c'.tk⟩:=by intro k u hu;obtain⟨F,W,L⟩:=Uni.cput (some k) u;rw[L]at hu;cases hu;exact⟨F,W,rfl,by rw[L]⟩
 have app:∀(k:Nat)(e:o7),some (CSt.app ⟨tm,ob,tk⟩ (some k) e)=some c'->∃F,Uni (some k) F/\c'.tm=F tm/\some (CSt.app ⟨tm',ob,tk⟩ (some k) e)=some ⟨F tm',c'.ob,c'.tk⟩:=by intro k e hu;obtain⟨F,Z,tk',W,L⟩:=qe (ob:=ob) (tk:=tk) (some k) e;rw[L]at hu;cases hu;exact⟨F,W,rfl,by rw[L]⟩
 have J:∀(I k:Nat)(e:o7),some (CSt.app (CSt.purge ⟨tm,ob,tk⟩ I (I+1)) (some k) e)=some c'->∃F,Uni (some k) F/\c'.tm=F tm/\some (CSt.app (CSt.purge ⟨tm',ob,tk⟩ I (I+1)) (some k) e)=some ⟨F tm',c'.ob,c'.tk⟩:=by intro I k e hu;obtain⟨F,Z,tk',W,L⟩:=qe (ob:=bq I (I+1) ob) (tk:=bV I (I+1) tk) (some k) e;simp only[CSt.purge]at hu ⊢;rw[L]at hu;cases hu;exact⟨fun t=>F (dj I (I+1) t),(Uni.purge I (I+1)).comp W,rfl,by rw[L]⟩
 unfold se at E ⊢;split at E<;>try (cases E;done)
 ·split at E<;>try (cases E;done)
  rename_i ht;simp only[if_pos ht,h,e1];unfold Rn at E ⊢;split at E<;>try (cases E;done)
  split at E<;>try (cases E;done)
  rename_i hz;simp only[if_neg hz];split at E
  ·rename_i Q;simp only[if_pos Q];exact put _ _ E
  ·rename_i Q
   simp only[if_neg Q];split at E<;>try (cases E;done)
   rename_i O;simp only[if_pos O];exact app _ _ E
 ·split at E<;>try (cases E;done)
  rename_i ht;simp only[if_pos ht,h,e2];unfold Rm at E ⊢;split at E<;>try (cases E;done)
  split at E
  ·rename_i Q;simp only[if_pos Q];exact put _ _ E
  ·rename_i Q
   simp only[if_neg Q];split at E<;>try (cases E;done)
   rename_i O;simp only[if_pos O];exact app _ _ E
 ·simp only[h,e1,e2]
  unfold Nr at E ⊢;split at E<;>try (cases E;done)
  ·split at E<;>try (cases E;done)
   rename_i O;rw[if_pos O];exact J _ _ _ E
  ·split at E<;>try (cases E;done)
   rename_i O;rw[if_pos O];exact J _ _ _ E
theorem B6{d:t8}{o:SOp}(h:∀y∈o.args,CSt.ev ⟨tm',ob,tk⟩ y=CSt.ev ⟨tm,ob,tk⟩ y)(E:opC call sg ⟨tm,ob,tk⟩ d o=some c'):∃F,Uni d F/\c'.tm=F tm/\opC call sg ⟨tm',ob,tk⟩ d o=some ⟨F tm',c'.ob,c'.tk⟩:=by
 by_cases a6:∃f a_,o= .call f a_
 ·obtain⟨f,a_,rfl⟩:=a6
  simp only[opC]at E ⊢;simp only[SOp.args,al]at h;rw[h f (.inl rfl),mG fun y hy=>h y (.inr hy)];split at E<;>try (cases E;done)
  obtain⟨F,J,q,I⟩:=sO (call:=call) (ob:=ob) (tk:=tk) (sg:=sg ‹_›) (d:=d) (g:= ‹_›) (a_:= ‹t6› ++evL ⟨tm,ob,tk⟩ a_++ ‹t6›);rename_i g u v a8;obtain⟨F,J,q,I⟩:=sO (call:=call) (ob:=ob) (tk:=tk) (sg:=sg g) (d:=d) (g:=g) (a_:=u++evL ⟨tm,ob,tk⟩ a_++v);rw[I]at E;cases q with
  |none=>cases E
  |some q=>simp only[bn,ao.injEq]at E;subst E;exact⟨F,J,rfl,by rw[I];rfl⟩
 by_cases Z:∃xs,o= .newB xs
 ·obtain⟨xs,rfl⟩:=Z
  simp only[opC]at E ⊢;simp only[SOp.args]at h;rw[mG h];unfold oM at E ⊢;split at E<;>try (cases E;done)
  rename_i k l hk;cases E;obtain⟨F,W,tk',J,I⟩:=qe (ob:=ob) (tk:=tk) (some k) {val:= .psl (k+100) 1 0 l.length (some l.length),new:=some (.bar l)};exact⟨F,J,by rw[I],by simp only[I]⟩
 by_cases Q:∃q,o= .slid q
 ·obtain⟨q,rfl⟩:=Q
  simp only[opC]at E ⊢;rw[h q (by simp[SOp.args])];generalize CSt.ev ⟨tm,ob,tk⟩ q=v at E;unfold rB at E;split at E<;>try (cases E;done)
  rename_i O off n cap;show ∃F,_/\_/\pq _ d O off n cap (CSt.look ⟨tm',ob,tk⟩ O)=_;have a7:CSt.look ⟨tm',ob,tk⟩ O=CSt.look ⟨tm,ob,tk⟩ O:=rfl;rw[a7];generalize CSt.look ⟨tm,ob,tk⟩ O=u at E;unfold pq at E;split at E<;>try (cases E;done)
  split at E<;>try (cases E;done)
  rename_i l L;cases E;obtain⟨F,W,tk',b1,J,I⟩:=ol (ob:=ob) (tk:=tk) O [];obtain⟨G,g1,g2⟩:=Uni.cput d (.byt ((l.drop off).take n) .clip);refine⟨fun t=>G (F t),J.weak.comp g1, ?_, ?_⟩
  ·rw[I tm];rw[g2]
  ·simp only[pq,if_pos L,I,g2]
 by_cases a1:∃z b q y,o= .appO z b q y
 ·obtain⟨z,b,q,y,rfl⟩:=a1
  simp only[opC]at E ⊢;simp only[SOp.args,al,bA,or_false,forall_eq_or_imp,forall_eq]at h;rw[h.1];exact FJ h.2 E
 ·have e:∀c,opC call sg c d o=ox c d (eM c d o):=by
   intro c;cases o<;>first|rfl|exact absurd ⟨_,_,rfl⟩ a6|exact absurd ⟨_,rfl⟩ Z|exact absurd ⟨_,rfl⟩ Q|exact absurd ⟨_,_,_,_,rfl⟩ a1
  rw[e]at E;rw[e,Ss h];cases he:eM ⟨tm,ob,tk⟩ d o with
  |none=>rw[he]at E;cases E
  |some q=>rw[he]at E;simp only[ox,ao.injEq]at E ⊢;obtain⟨F,W,tk',J,I⟩:=qe (ob:=ob) (tk:=tk) d q;rw[I]at E;subst E;exact⟨F,J,rfl,I _⟩
theorem uz{i:SI}(h:∀n∈i.rds,fo tm' n=fo tm n):∀y∈i.op.args,CSt.ev ⟨tm',ob,tk⟩ y=CSt.ev ⟨tm,ob,tk⟩ y:=by
 intro y z;refine xho fun n hn=>h n ?_
 subst hn;unfold SI.rds;rw[an];exact .inl (List.mem_filterMap.2 ⟨_,z,rfl⟩)
theorem YX{i:SI}{g:Nat}{b:Bool}(h:i.g=some (g,b)):g∈i.rds:=by unfold SI.rds;rw[h];simp
theorem CT{i:SI}(h:∀n∈i.rds,fo tm' n=fo tm n)(y:eB call sg ⟨tm,ob,tk⟩ i=some c'):∃F,Uni i.dst F/\c'.tm=F tm/\eB call sg ⟨tm',ob,tk⟩ i=some ⟨F tm',c'.ob,c'.tk⟩:=by
 unfold eB at y ⊢;split at y
 ·exact B6 (uz h) y
 ·rename_i g b J
  have e:CSt.get ⟨tm',ob,tk⟩ g=CSt.get ⟨tm,ob,tk⟩ g:=h g (YX J);rw[e];split at y<;>try (cases y;done)
  rotate_left
  ·obtain⟨F,E,z⟩:=Uni.cput i.dst (.tup [])
   rw[z]at y;cases y;exact⟨F,E,rfl,by rw[z]⟩
  split at y
  ·rename_i I
   obtain⟨F,E,z,L⟩:=B6 (uz h) y;exact⟨F,E,z,by simp only[if_pos I];exact L⟩
  ·rename_i I
   obtain⟨F,E,z⟩:=Uni.cput i.dst (.tup []);rw[z]at y;cases y;exact⟨F,E,rfl,by simp only[if_neg I];rw[z]⟩
theorem YF{i:SI}(h:∀n∈i.rds,fo tm' n=fo tm n):qv ⟨tm',ob,tk⟩ i=qv ⟨tm,ob,tk⟩ i:=by
 have z:dv ⟨tm',ob,tk⟩ i.op=dv ⟨tm,ob,tk⟩ i.op:=by
  have y:=uz (ob:=ob) (tk:=tk) h;generalize i.op=o at y;have hv:=At y;cases o with
  |pick k a b=>simp only[SOp.args,al,bA,or_false,forall_eq_or_imp,forall_eq]at y;simp only[dv];rw[y.1,y.2.1,y.2.2]
  |_=>simp only[dv];rw[hv]
 unfold qv;cases hg:i.g with
 |none=>exact z
 |some p=>obtain⟨g,b⟩:=p;simp only;have e:CSt.get ⟨tm',ob,tk⟩ g=CSt.get ⟨tm,ob,tk⟩ g:=h g (YX hg);rw[e];cases CSt.get ⟨tm,ob,tk⟩ g<;>first|rfl|(simp only[qg];rw[z])
end
theorem ph{i:SI}{v:SV}(h:qv c i=some v):eB call sg c i=some (c.put i.dst v):=by
 have z:∀o,dv c o=some v->opC call sg c i.dst o=some (c.put i.dst v):=by
  intro o y;cases o with
  |pick k a b=>simp only[dv]at y;split at y<;>cases y;rename_i t F;simp only[opC,eM,F,ox];rfl
  |_=>
   simp only[dv]at y
   first
    |(simp only[cR]at y;cases y;done)
    |(simp only[opC,eM];rw[y];rfl)
    |(simp[cR]at y;done)
 unfold qv at h;unfold eB;generalize i.g=q at h;cases q with
 |none=>exact z _ h
 |some q=>
  obtain⟨g,b⟩:=q;simp only at h ⊢;generalize c.get g=u at h
  by_cases hu:u= .tup []
  ·subst hu
   simp only[qg,ao.injEq]at h;subst h;rfl
  obtain⟨t,rfl⟩:∃t,u= .bool t:=by
   unfold qg at h;split at h
   ·exact⟨_,rfl⟩
   ·exact absurd rfl hu
   ·cases h
  simp only[qg]at h ⊢;split at h
  ·rename_i E;rw[if_pos E];exact z _ h
  ·rename_i E;rw[if_neg E];cases h;rfl
structure Apx(N:Nat)(D:List Nat)(c p:CSt):Prop where
 get:∀n,n∉D->c.get n=p.get n
 ob:c.ob=p.ob
 tk:c.tk=p.tk
 dom:∀q∈p.tm,q.1<N
theorem Apx.step{D:t7}{p z:CSt}{i:SI}(h:Apx N D c p)(hi:i.ok N=true)(Z:∀n∈i.rds,n∉D)(O:eB call sg p i=some z):∃c1,eB call sg c i=some c1/\Apx N D c1 z:=by
 obtain⟨tm',Q,tk'⟩:=c;obtain⟨tm,ob,tk⟩:=p;have J:=h.ob;have I:=h.tk;simp only at J I;subst J;subst I;obtain⟨F,k1,k2,W⟩:=CT (tm':=tm') (fun n hn=>h.get n (Z n hn)) O;refine⟨_,W,⟨fun n hn=> ?_,rfl,rfl,fun q E=> ?_⟩⟩
 ·show fo (F tm') n=fo z.tm n
  rw[k2];exact k1.get _ _ _ (h.get n hn)
 ·rw[k2]at E
  rcases k1.dom _ _ E with⟨L,y,e⟩|e
  ·rw[<-e];exact h.dom L y
  ·unfold SI.ok at hi
   rw[e]at hi;simpa using hi
theorem Apx.qv{D:t7}{p:CSt}{i:SI}(h:Apx N D c p)(E:∀n∈i.rds,n∉D):qv c i=qv p i:=by obtain⟨tm',F,tk'⟩:=c;obtain⟨tm,ob,tk⟩:=p;have z:=h.ob;have y:=h.tk;simp only at z y;subst z;subst y;exact YF fun n hn=>h.get n (E n hn)
theorem Apx.put{D:t7}{p:CSt}{d:Nat}{v:SV}(h:Apx N D c p)(hd:d<N):Apx N (d::D) c (p.put (some d) v):=by
 refine⟨fun n hn=> ?_,h.ob,h.tk,fun q y=> ?_⟩
 ·simp only[al,not_or]at hn
  rw[io,if_neg hn.1];exact h.get n hn.2
 ·rcases mX y with e|e
  ·rw[e];exact hd
  ·exact h.dom q e
theorem Nm{p:CSt}{d:Nat}{v:SV}{i:SI}(h:d∉i.rds):Sy.qv (p.put (some d) v) i=Sy.qv p i:=by
 obtain⟨tm,ob,tk⟩:=p;refine YF (tm:=tm) (tm':=jZ tm d v) fun n hn=> ?_
 rw[m7,if_neg (by intro e;subst e;exact h hn)]
theorem qR{α:Type}{p:Prop}{v u:α}(h:gdP p v=some u):p/\v=u:=by
 unfold gdP at h;split at h
 ·rename_i y;exact⟨y,by simpa using h⟩
 ·cases h
theorem qU{m:Nat}{p:CSt}{f:FI}:∀{l:List FI},tU m p l->f∈l->m.testBit f.n=true\/qv p f.i=some (p.get (f.i.dst.getD 0))
 |g::r,h,hf=>by
  rcases al.1 hf with rfl|hf
  ·rcases h.1 with y|y
   ·left
    rw[Nat.testBit_eq_decide_div_mod_eq];simpa using y
   ·exact .inr y
  ·exact qU h.2 hf
def Nx(g q:FI):Prop:=q.q=true->∀d,q.i.dst=some d->d∉g.i.rds/\g.i.dst≠some d
def yi(q:FI):Prop:=q.q=true->∃d,q.i.dst=some d/\d∉q.i.rds
def dOf(f:FI):Nat:=f.i.dst.getD 0
theorem nO{b:t7}{cF:CSt}:∀{r ps V:List FI}{p:CSt}{D:t7},fO call sg b r ps p=some cF->Apx N D c p->(∀f∈r,f.i.ok N=true)->(∀f∈r,yi f)->r.Pairwise Nx->(∀g∈V,∀f∈r,Nx g f)->
 (∀g∈V,∃d,g.i.dst=some d)->(∀g∈V,qv p g.i=some (p.get (dOf g)))->∃seg post F E,r=seg++post/\(∀f∈seg,f.q=true)/\(post=[]\/∃f r',post=f::r'/\f.q=false)/\fO call sg b post E F=some cF/\
  (∀f,f∈ps\/f∈seg->f∈E)/\Apx N (seg.map dOf++D) c F/\∀g,g∈V\/g∈seg->qv F g.i=some (F.get (dOf g))
 |[],ps,V,p,D,h,hA,_,_,_,_,_,hV=>⟨[],[],p,ps,rfl,by simp,.inl rfl,h,by simp,by simpa using hA,by simpa using hV⟩
 |f::r,ps,V,p,D,h,hA,hok,hself,hpw,hVr,hVd,hV=>by
  obtain⟨n,q,i⟩:=f;cases q with
  |false=>exact⟨[],⟨n,false,i⟩::r,p,ps,rfl,by simp,.inr ⟨_,_,rfl,rfl⟩,h,by simp,by simpa using hA,by simpa using hV⟩
  |true=>
   simp only[fO]at h;cases hq:qv p i with
   |none=>rw[hq]at h;simp[wx]at h
   |some v=>
    rw[hq]at h;simp only[wx]at h;obtain⟨d,hd,L⟩:=hself _ (aq ..) rfl;simp only at hd L
    have W:d<N:=by have:=hok _ (aq ..);unfold SI.ok at this;simp only[hd]at this;simpa using this
    rw[hd]at h;rw[eL]at hpw
    have O:∀g:FI,(∃e,g.i.dst=some e)->g.i.dst≠some d->(p.put (some d) v).get (dOf g)=p.get (dOf g):=by
     rintro g ⟨e,Z⟩ J;have I:dOf g=e:=by unfold dOf;rw[Z];rfl
     rw[I,io,if_neg];intro e2;rw[Z,e2]at J;exact J rfl
    obtain⟨seg,post,F,E,k1,k2,k3,k4,k5,Q,k7⟩:=nO (V:=⟨n,true,i⟩::V) h (hA.put W) (fun f z=>hok f (af _ z)) (fun f z=>hself f (af _ z)) hpw.2
     (by
      intro g y f z;rcases al.1 y with rfl|y
      ·exact hpw.1 f z
      ·exact hVr g y f (af _ z))
     (by
      intro g y;rcases al.1 y with rfl|y
      ·exact⟨d,hd⟩
      ·exact hVd g y)
     (by
      intro g y;rcases al.1 y with rfl|y
      ·have I:dOf ⟨n,true,i⟩=d:=by unfold dOf;simp only[hd];rfl
       rw[I,Nm L,io,if_pos rfl];exact hq
      ·obtain⟨h1,h2⟩:=hVr g y _ (aq ..) rfl d hd
       rw[Nm h1,O g (hVd g y) h2];exact hV g y)
    refine⟨⟨n,true,i⟩::seg,post,F,E,by rw[k1];rfl, ?_,k3,k4, ?_, ?_, ?_⟩
    ·intro f z
     rcases al.1 z with rfl|z
     ·rfl
     ·exact k2 f z
    ·intro f z
     refine k5 f ?_;rcases z with z|z
     ·exact .inl (af _ z)
     ·rcases al.1 z with rfl|z
      ·exact .inl (aq ..)
      ·exact .inr z
    ·have I:dOf ⟨n,true,i⟩=d:=by unfold dOf;simp only[hd];rfl
     refine⟨fun m hm=>Q.get m (fun h=>hm ?_),Q.ob,Q.tk,Q.dom⟩;simp only[aG,I,br,al,an]at h ⊢;rcases h with h|h|h
     ·exact .inr (.inl h)
     ·exact .inl h
     ·exact .inr (.inr h)
    ·intro g y
     refine k7 g ?_;rcases y with y|y
     ·exact .inl (af _ y)
     ·rcases al.1 y with rfl|y
      ·exact .inl (aq ..)
      ·exact .inr y
section
variable {ops : Array Oper} {its : List FI} {b : List Nat}
def un(its:List FI)(listed:Array Bool):List FI:=its.filter fun f=> !listed.getD f.n true
theorem dd{listed:Array Bool}{f:FI}:f∈un its listed↔f∈its/\listed.getD f.n true=false:=by simp[un]
structure qh(call:dr)(sg:Nat->Sig)(N:Nat)(b:List Nat)(its:List FI)(cF:CSt)(listed:Array Bool)(c:CSt):Prop where
 ex:∃pre post p ps,its=pre++post/\(post=[]\/∃f r,post=f::r/\f.q=false)/\fO call sg b post ps p=some cF/\(∀f∈pre,f.q=true->f∈ps)/\
  (∀f∈pre,f.q=false->listed.getD f.n true=true)/\(∀f∈post,listed.getD f.n true=false)/\
  Apx N ((un pre listed).map dOf) c p/\∀f∈un pre listed,qv p f.i=some (p.get (dOf f))
theorem xX(e9:gT P call){cF:CSt}
 (W:∀f∈its,∃o,ops[f.n]? =some o/\gM P ops o=some f.i.er/\f.n<ops.size) (g8:∀j,j<ops.size->∃f∈its,f.n=j) (e5:∀f∈its,∀g∈its,f.n=g.n->f=g)
 (d5:∀(i:Nat)(o:Oper),ops[i]? =some o->∀e∈o.after,Region.binds .any e=true->e.on<i)
 (l0:∀(i:Nat)(o:Oper)(k:Nat),ops[i]? =some o->k<ops.size->(b.getD i 0).testBit k=true->∃e∈o.after,Region.binds .any e=true/\(e.on=k\/(b.getD e.on 0).testBit k=true))
 (d7:∀f∈its,f.i.ok N=true) (a8:∀f∈its,yi f) (i6:its.Pairwise Nx)
 (o0:∀q∈its,q.q=true->∀p∈its,∀d,q.i.dst=some d->d∈p.i.rds->(b.getD p.n 0).testBit q.n=true)
 (e6:∀pre f r,its=pre++f::r->f.q=false->∀g∈r,∃h∈f::r,(b.getD g.n 0).testBit h.n=true)
 (q0:∀f∈its,∀g∈its,f.n≠g.n->∀d,f.i.dst=some d->g.i.dst≠some d) {Q:LAe} (hQ:∀a w,M C N cF a w->Q .normal a w):
 ∀(b3:Nat)(listed:Array Bool)(c:CSt)(a:Act)(w:World),(un its listed).length<=b3->listed.size=ops.size->
  (∀(i:Nat)(o:Oper)(k:Nat),ops[i]? =some o->listed.getD i true=true->k<ops.size->(b.getD i 0).testBit k=true->listed.getD k true=true)->
  qh call sg N b its cF listed c->M C N c a w->wpAny P .any ops Q b3 listed a w:=by
 classical
 have l2:∀(listed:Array Bool),listed.size=ops.size->∀k,k<ops.size->listed.getD k false=listed.getD k true:=by intro listed hs k hk;simp[kK,hs,hk]
 have done:∀(listed:Array Bool)(c:CSt)(a:Act)(w:World),un its listed=[]->qh call sg N b its cF listed c->M C N c a w->Region.ready .any ops listed=[]/\Q .normal a w:=by
  intro listed c a w h0 hS hM;constructor
  ·rw[List.eq_nil_iff_forall_not_mem]
   intro j hj;obtain⟨h1,o,h2,h3⟩:=mem_ready.1 hj;have m6:j<ops.size:=(dS.1 h2).1;obtain⟨I,Z,rfl⟩:=g8 j m6;have:I∈un its listed:=dd.2 ⟨Z,h1⟩;rw[h0]at this;cases this
  ·obtain⟨pre,post,p,ps,e,hp,E,_,_,g6,hA,_⟩:=hS.ex
   have m2:post=[]:=by
    cases post with
    |nil=>rfl
    |cons f r=>have:f∈un its listed:=dd.2 ⟨by rw[e];simp,g6 f (aq ..)⟩;rw[h0]at this;cases this
   subst m2;simp only[fO,ao.injEq]at E;subst E;have hD:un pre listed=[]:=by rw[<-h0,e,aZ]
   rw[hD]at hA;refine hQ a w ?_;obtain⟨x,s,o3,f6⟩:=hM;refine M.slots (c:=c) ⟨x,s,o3,f6⟩ ⟨hA.dom,by rw[<-hA.ob];exact f6.inv.so,by rw[<-hA.ob];exact f6.inv.wf⟩ hA.ob.symm hA.tk.symm (fun i=> .inl (hA.get i (by simp)).symm)
 intro b3;induction b3 with
 |zero=>intro listed c a w O hs g7 hS hM;exact done listed c a w (bx.1 (by omega)) hS hM
 |succ b3 ih=>
  intro listed c a w O hs g7 hS hM;constructor
  ·intro j2
   by_cases h0:un its listed=[]
   ·exact(done listed c a w h0 hS hM).2
   ·exfalso
    have hp:∃n,∃f∈un its listed,f.n=n:=by
     cases hc:un its listed with
     |nil=>exact absurd hc h0
     |cons f r=>exact⟨_,f,aq ..,rfl⟩
    obtain⟨n,⟨f,m5,p5⟩,j7⟩:=YN _ hp;obtain⟨h1,h2⟩:=dd.1 m5;obtain⟨o,h3,_,h4⟩:=W f h1
    have:f.n∈Region.ready .any ops listed:=by refine mem_ready.2 ⟨h2,o,h3,fun e he hb=> ?_⟩;have b2:=d5 f.n o h3 e he hb;rw[l2 listed hs _ (by omega),<-Bool.not_eq_false];intro n7;obtain⟨g,F,i7⟩:=g8 e.on (by omega);have:=j7 e.on ⟨g,dd.2 ⟨F,by rw[i7];exact n7⟩,i7⟩;omega
    rw[j2]at this;cases this
  ·intro i n2
   obtain⟨h1,o,h2,h3⟩:=mem_ready.1 n2;have j5:i<ops.size:=(dS.1 h2).1;obtain⟨I,Z,rfl⟩:=g8 i j5;obtain⟨o',l5,e8,_⟩:=W I Z;rw[h2]at l5;cases l5
   have b1:∀k,k<ops.size->(b.getD I.n 0).testBit k=true->listed.getD k true=true:=by
    intro k hk hb;obtain⟨e,he,j9,n6⟩:=l0 I.n o k h2 hk hb;have i1:=h3 e he j9;have m1:=d5 I.n o h2 e he j9;rw[l2 listed hs _ (by omega)]at i1;rcases n6 with h|h
    ·rw[<-h];exact i1
    ·exact g7 e.on (ops[e.on]'(by omega)) k (by simp) i1 hk h
   have p0:(un its (listed.setIfInBounds I.n true)).length<(un its listed).length:=by
    have e1:un its (listed.setIfInBounds I.n true)=(un its listed).filter fun q=> !decide (q.n=I.n):=by
     simp only[un,List.filter_filter];apply List.filter_congr;intro q hq;rw[ik (by omega)]
     by_cases h:q.n=I.n<;>simp[h]
    rw[e1];refine List.length_filter_lt_length_iff_exists.2 ⟨I,dd.2 ⟨Z,h1⟩,by simp⟩
   have e4:∀(i:Nat)(o:Oper)(k:Nat),ops[i]? =some o->(listed.setIfInBounds I.n true).getD i true=true->k<ops.size->(b.getD i 0).testBit k=true->(listed.setIfInBounds I.n true).getD k true=true:=by
    intro i2 o2 j3 o4 h8 k9 k8;rw[ik (by omega)]at h8 ⊢;split
    ·rfl
    ·split at h8
     ·rename_i e1
      subst e1;exact b1 j3 k9 k8
     ·exact g7 i2 o2 j3 o4 h8 k9 k8
   have q1:∀g∈its,listed.getD g.n true=true->g≠I:=by intro g _ F e;subst e;rw[h1]at F;cases F
   have J:∀g∈its,(listed.setIfInBounds I.n true).getD g.n true=if g=I then true else listed.getD g.n true:=by
    intro g F;rw[ik (by omega)]
    by_cases h:g=I
    ·subst h;simp
    ·rw[if_neg (fun e=>h (e5 g F I Z e)),if_neg h]
   obtain⟨pre,post,p,ps,e,b6,E,g2,a7,L,hA,hV⟩:=hS.ex;have y:∀g∈pre,g∈its:=fun g F=>by rw[e];exact an.2 (.inl F)
   have z:∀g∈post,g∈its:=fun g F=>by rw[e];exact an.2 (.inr F)
   have f2:∀n∈I.i.rds,n∉(un pre listed).map dOf:=by
    intro n hn hm;obtain⟨g,F,b5⟩:=aT.1 hm;obtain⟨a6,a1⟩:=dd.1 F
    have j0:g.q=true:=by
     cases hq:g.q with
     |true=>rfl
     |false=>rw[a7 g a6 hq]at a1;cases a1
    obtain⟨d,hd,_⟩:=a8 g (y g a6) j0;have n9:d=n:=by unfold dOf at b5;rw[hd]at b5;exact b5
    subst n9;have:=o0 g (y g a6) j0 I Z d hd hn;obtain⟨_,_,_,b2⟩:=W g (y g a6);rw[b1 g.n b2 this]at a1;cases a1
   by_cases d6:I∈pre
   ·
    have hq:I.q=true:=by
     cases hq:I.q with
     |true=>rfl
     |false=>rw[a7 I d6 hq]at h1;cases h1
    have n4:I∈un pre listed:=dd.2 ⟨d6,h1⟩;have hv:=hV I n4;rw[<-hA.qv f2]at hv;obtain⟨d,hd,p3⟩:=a8 I Z hq;have k0:dOf I=d:=by unfold dOf;rw[hd];rfl
    refine gW e9 hM (d7 I Z) h2 e8 (ph (call:=call) (sg:=sg) hv) fun a' w' g5=> ?_
    refine ih _ _ a' w' (by omega) (by simpa using hs) e4 ⟨pre,post,p,ps,e,b6,E,g2, ?_, ?_, ?_, ?_⟩ g5
    ·intro f O b4
     rw[J f (y f O)];split
     ·rfl
     ·exact a7 f O b4
    ·intro f O
     rw[J f (z f O),if_neg]
     ·exact L f O
     ·intro e2
      subst e2
      have l7:its.Pairwise fun f g=>f.n≠g.n\/f=g:=List.pairwise_of_forall_mem_list (fun f O g F=>by
       by_cases h:f.n=g.n
       ·exact .inr (e5 f O g F h)
       ·exact .inl h)
      have h5:=i6;rw[e]at h5;have h6:=(DS.1 h5).2.2 f d6 f O hq d hd;exact h6.2 hd
    ·refine⟨fun n hn=> ?_, ?_, ?_,hA.dom⟩
     ·rw[hd,io]
      split
      ·rename_i e2;rw[e2,k0]
      ·rename_i l7
       refine hA.get n fun hm=>hn ?_
       obtain⟨g,F,b5⟩:=aT.1 hm;obtain⟨a6,a1⟩:=dd.1 F;refine aT.2 ⟨g,dd.2 ⟨a6, ?_⟩,b5⟩;rw[J g (y g a6),if_neg]
       ·exact a1
       ·intro e2;subst e2;rw[k0]at b5;exact l7 b5.symm
     ·cases I.i.dst<;>exact hA.ob
     ·cases I.i.dst<;>exact hA.tk
    ·intro f O
     obtain⟨l3,e0⟩:=dd.1 O;refine hV f (dd.2 ⟨l3, ?_⟩);rw[J f (y f l3)]at e0;split at e0
     ·cases e0
     ·exact e0
   ·
    have c7:I∈post:=by rw[e]at Z;exact(an.1 Z).resolve_left d6
    obtain⟨f0,r,e3,h9⟩:∃f r,post=f::r/\f.q=false:=by
     rcases b6 with h|h
     ·subst h;cases c7
     ·exact h
    have j1:I=f0:=by
     rw[e3]at c7;rcases al.1 c7 with h|h
     ·exact h
     ·exfalso
      obtain⟨g,F,g9⟩:=e6 pre f0 r (by rw[e,e3]) h9 I h;have b7:g∈post:=by rw[e3];exact F
      obtain⟨_,_,_,b2⟩:=W g (z g b7);have:=b1 g.n b2 g9;rw[L g b7]at this;cases this
    subst j1;subst e3;obtain⟨n,q,i⟩:=I;simp only at h9;subst h9;simp only[fO]at E;cases hs1:eB call sg p i with
    |none=>rw[hs1]at E;simp[ru]at E
    |some p1=>
     rw[hs1]at E;simp only[ru]at E;cases F:gdP (tU (b.getD n 0) p1 ps) p1 with
     |none=>rw[F]at E;simp[rx]at E
     |some p4=>
      rw[F]at E;simp only[rx]at E;obtain⟨l1,rfl⟩:=qR F;obtain⟨c1,n5,n3⟩:=hA.step (d7 _ Z) f2 hs1;refine gW e9 hM (d7 _ Z) h2 e8 n5 fun a' w' g5=> ?_
      have e7:∀g∈un pre listed,g.q=true:=by
       intro g F;obtain⟨a6,a1⟩:=dd.1 F;cases hq:g.q with
       |true=>rfl
       |false=>rw[a7 g a6 hq]at a1;cases a1
      have f1:=i6;rw[e]at f1;have j6:=DS.1 f1
      obtain⟨seg,h7,p2,o1,k1,k2,k3,k4,k5,k6,k7⟩:=nO (V:=un pre listed) E n3 (fun f O=>d7 f (z f (af _ O))) (fun f O=>a8 f (z f (af _ O)))
       (eL.1 j6.2.1).2 (fun g F f O=>j6.2.2 g (dd.1 F).1 f (af _ O))
       (fun g F=>by obtain⟨d,hd,_⟩:=a8 g (y g (dd.1 F).1) (e7 g F);exact⟨d,hd⟩)
       (fun g F=>by
        obtain⟨a6,a1⟩:=dd.1 F;rcases qU l1 (g2 g a6 (e7 g F))with h|h
        ·obtain⟨_,_,_,b2⟩:=W g (y g a6)
         rw[b1 g.n b2 h]at a1;cases a1
        ·exact h)
      have j4:un (pre++⟨n,false,i⟩::seg) (listed.setIfInBounds n true)=un pre listed++seg:=by
       unfold un;rw[List.filter_append,lG];have e1:(listed.setIfInBounds n true).getD n true=true:=by rw[ik (by rw[hs];exact j5)];simp
       simp only[e1,rP,az,if_false]
       congr 1
       ·apply List.filter_congr
        intro g F;have:=J g (y g F);simp only at this;rw[this,if_neg];intro e2;subst e2;exact d6 F
       ·apply iV.2
        intro g F;have b7:g∈⟨n,false,i⟩::r:=by rw[k1];exact af _ (an.2 (.inl F))
        have:=J g (z g b7);simp only at this;rw[this,if_neg]
        ·rw[L g b7];rfl
        ·intro e2;subst e2;have:=k2 _ F;cases this
      refine ih _ _ a' w' (by omega) (by simpa using hs) e4 ⟨pre++⟨n,false,i⟩::seg,h7,p2,o1,by rw[e,k1];simp,k3,k4, ?_, ?_, ?_, ?_, ?_⟩ g5
      ·intro f O b4
       rcases an.1 O with h|h
       ·exact k5 f (.inl (g2 f h b4))
       ·rcases al.1 h with rfl|h
        ·cases b4
        ·exact k5 f (.inr h)
      ·intro f O b4
       rcases an.1 O with h|h
       ·rw[J f (y f h)]
        split
        ·rfl
        ·exact a7 f h b4
       ·rcases al.1 h with rfl|h
        ·rw[J _ Z,if_pos rfl]
        ·rw[k2 f h]at b4;cases b4
      ·intro f O
       have j8:f∈⟨n,false,i⟩::r:=by rw[k1];exact af _ (an.2 (.inr O))
       rw[J f (z f j8),if_neg]
       ·exact L f j8
       ·intro e2
        subst e2;obtain⟨g,F,g9⟩:=e6 pre ⟨n,false,i⟩ r e rfl ⟨n,false,i⟩ (by rw[k1];exact an.2 (.inr O));obtain⟨_,_,_,b2⟩:=W g (z g F);have:=b1 g.n b2 g9;rw[L g F]at this;cases this
      ·rw[j4,cz]
       refine⟨fun m hm=>k6.get m (fun h=>hm ?_),k6.ob,k6.tk,k6.dom⟩;rw[an]at h ⊢;exact h.symm
      ·rw[j4]
       intro f O;exact k7 f (an.1 O)
end
theorem sH{f:FI}(l:List FI)(h:(l.map FI.n).Nodup)(y:f∈l):Eg l f.n=f.i.er:=by
 induction l with
 |nil=>cases y
 |cons g r z=>
  simp only[aG,eZ]at h;simp only[Eg];rcases al.1 y with rfl|y
  ·rw[if_pos rfl]
  ·rw[if_neg,z h.2 y]
   intro e;apply h.1;rw[e];exact iU y
theorem Fc{b:t7}{s:Nat}(l:List FI):oI b (some s) l=true->∀g∈l,(b.getD g.n 0).testBit s=true\/∃h∈l,(b.getD g.n 0).testBit h.n=true:=by
 induction l generalizing s with
 |nil=>intro _ g y;cases y
 |cons f r E=>
  intro h g y;simp only[oI]at h;split at h
  ·simp only[aw,ov]at h
   rcases al.1 y with rfl|y
   ·exact .inl h.1
   ·rcases E h.2 g y with z|⟨k,hk,z⟩
    ·exact .inl z
    ·exact .inr ⟨k,af _ hk,z⟩
  ·simp only[aw,ov]at h
   rcases al.1 y with rfl|y
   ·exact .inl h.1
   ·rcases E h.2 g y with z|⟨k,hk,z⟩
    ·exact .inr ⟨f,aq ..,z⟩
    ·exact .inr ⟨k,af _ hk,z⟩
theorem yx{b:t7}:∀{pre:List FI}{s:t8}{f:FI}{r:List FI},oI b s (pre++f::r)=true->f.q=false->oI b (some f.n) r=true
 |[],s,f,r,h,hf=>by simp only[aR,oI,hf,az,if_false,aw]at h;exact h.2
 |g::pre,s,f,r,h,hf=>by
  simp only[br,oI]at h;split at h
  ·rw[aw]at h;exact yx h.2 hf
  ·rw[aw]at h;exact yx h.2 hf
theorem pF{b:t7}:∀{l:List FI},pG b l=true->l.Pairwise fun p q=>(b.getD p.n 0).testBit q.n=false
 |[],_=>List.Pairwise.nil
 |p::r,h=>by simp only[pG,aw,aI]at h;refine eL.2 ⟨fun q y=> ?_,pF h.2⟩;have:=h.1 q y;simp only[Nq,aw,ej,ov]at this;exact this.1
theorem DC(e5:gT P call){id:Nat}{ops:Array Oper}{its:List FI}(hl:kf (gM P ops) ops.toList=some (unF its))(hd:drawn ops (unF its)=true)(hm:P.follows .mixedOrders=true)
 (b6:its.all (fun f=>f.i.ok N)=true) (b3:O7 (Region.before ops).toList its=true) {cF:CSt} {Q:LAe} (hQ:∀a w,M C N cF a w->Q .normal a w) (hM:M C N c a w)
 (h:fO call sg (Region.before ops).toList its [] c=some cF):(Code.region id ops true).wp P Q a w:=by
 simp only[O7,aw,decide_eq_true_eq,aI]at b3;obtain⟨⟨⟨⟨⟨a8,a6⟩,a7⟩,O⟩,W⟩,e6⟩:=b3;simp only[R5,aI,gG,ej]at a7;rw[aI]at b6;obtain⟨d6,e7⟩:=fG hl;have f1:(unF its).length=its.length:=by simp[unF]
 have g7:its.length=ops.size:=by rw[<-f1,d6,aP]
 have b5:∀f∈its,(unF its).getD f.n ⟨none,none,.lenC 0⟩=f.i.er:=by intro f y;have:=W f y;rw[aa];simp only[unF,aN,cM this,bn,aO];exact sH _ O y
 simp only[drawn,aw,decide_eq_true_eq]at hd;obtain⟨⟨hc,ht⟩,b2⟩:=hd
 have c7:∀f∈its,∃o,ops[f.n]? =some o/\gM P ops o=some f.i.er/\f.n<ops.size:=by
  intro f y;have f6:=W f y;have e0:f.n<ops.toList.length:=by rw[aP];omega
  refine⟨ops.toList[f.n],by rw[<-dA,ab e0], ?_,by omega⟩;have z:=e7 f.n e0 (by omega);rw[z]
  congr 1
  have E:=b5 f y;rwa[aa,ab (by omega),aO]at E
 have e2:∀f∈its,∀g∈its,f.n=g.n->f=g:=by
  intro f y g Z e;have:its.Pairwise fun f g=>f.n≠g.n:=by rw[wO,hZ]at O;exact O
  rw[List.pairwise_iff_getElem]at this;obtain⟨i,hi,rfl⟩:=List.mem_iff_getElem.1 y;obtain⟨j,hj,rfl⟩:=List.mem_iff_getElem.1 Z;rcases Nat.lt_trichotomy i j with h|h|h
  ·exact absurd e (this i j hi hj h)
  ·subst h;rfl
  ·exact absurd e.symm (this j i hj hi h)
 have e3:∀f∈its,∀g∈its,f.n≠g.n->∀d,f.i.dst=some d->g.i.dst≠some d:=by
  have b1:∀f∈its,∀g∈its,f.n<g.n->∀d,f.i.dst=some d->g.i.dst≠some d:=by
   intro f y g Z d7 d z E
   have e4:(unF its).Pairwise fun u v=>∀d,u.dst=some d->v.dst≠some d:=by rw[wO,List.pairwise_filterMap]at b2;refine b2.imp ?_;intro u v f0 d hu hv;exact f0 d hu d hv rfl
   rw[List.pairwise_iff_getElem]at e4;have g6:=W f y;have f2:=W g Z
   have g1:(unF its)[f.n]'(by omega)=f.i.er:=by have:=b5 f y;rwa[aa,ab (by omega),aO]at this
   have g2:(unF its)[g.n]'(by omega)=g.i.er:=by have:=b5 g Z;rwa[aa,ab (by omega),aO]at this
   exact e4 f.n g.n (by omega) (by omega) d7 d (by rw[g1];exact z) (by rw[g2];exact E)
  intro f y g Z g5 d z E;rcases bP f.n g.n with h|h
  ·exact b1 f y g Z h d z E
  ·exact b1 g Z f y (by omega) d E z
 have F:∀(i:Nat)(o:Oper),ops[i]? =some o->(∀e∈o.after,Region.binds .any e=true->e.on<i)/\
  ∀k,k<ops.size->((Region.before ops).toList.getD i 0).testBit k=true->∃e∈o.after,Region.binds .any e=true/\(e.on=k\/((Region.before ops).toList.getD e.on 0).testBit k=true):=by
  intro i o ho;unfold qX at hc;rw[aI]at hc;have hi:i<ops.size:=(dS.1 ho).1
  have z:=hc (o,i) (by rw[List.mem_zipIdx_iff_getElem?];simpa using ho)
  simp only[aw,Array.all_eq_true_iff_forall_mem,aI,gG,ej,decide_eq_true_eq]at z;refine⟨fun e he hb=>(z.1 e he).resolve_left (by simp[hb]),fun k hk hb=> ?_⟩;have E:=(z.2 k (kr.2 hk)).resolve_left (by simp only[hb];simp);obtain⟨_,h3⟩:=E;rw[<-Array.any_toList,List.any_eq_true]at h3;obtain⟨e,he,h4⟩:=h3;rw[Array.mem_toList_iff]at he;simp only[aw,gG,beq_iff_eq]at h4;exact⟨e,he,h4.1,h4.2⟩
 have hq:∀q∈its,q.q=true->∃d,q.i.dst=some d/\∀p∈its,d∈p.i.rds->((Region.before ops).toList.getD p.n 0).testBit q.n=true/\p.n≠q.n:=by
  intro q hq L;have z:=(a7 q hq).resolve_left (by rw[L];simp);cases hd:q.i.dst with
  |none=>rw[hd]at z;cases z
  |some d=>
   rw[hd]at z;simp only[aI,gG,ej,aw,decide_eq_true_eq,ov]at z;refine⟨d,rfl,fun p hp hr=> ?_⟩;rcases z p hp with E|E
   ·rw[fI]at E;simp only[decide_eq_false_iff_not]at E;exact absurd hr E
   ·exact E
 have J:∀f∈its,yi f:=by intro f y a7;obtain⟨d,hd,z⟩:=hq f y a7;exact⟨d,hd,fun h=>(z f y h).2 rfl⟩
 have e1:∀q∈its,q.q=true->∀p∈its,∀d,q.i.dst=some d->d∈p.i.rds->((Region.before ops).toList.getD p.n 0).testBit q.n=true:=by intro q a1 L p hp d hd hr;obtain⟨d',e9,z⟩:=hq q a1 L;rw[e9]at hd;cases hd;exact(z p hp hr).1
 have d5:its.Pairwise Nx:=by
  have z:its.Pairwise fun f g=>f.n≠g.n:=by rw[wO,hZ]at O;exact O
  refine((pF a6).and z).imp_of_mem ?_;rintro p q hp a1 ⟨E,h3⟩ L d hd;refine⟨fun hr=> ?_,fun e=>e3 p hp q a1 h3 d e hd⟩;rw[e1 q a1 L p hp d hd hr]at E;cases E
 obtain⟨seg,post,p2,e8,k1,k2,k3,k4,k5,k6,k7⟩:=nO (N:=N) (D:=[]) (V:=[]) h ⟨fun _ _=>rfl,rfl,rfl,by obtain⟨x,s,_,hS⟩:=hM;exact hS.inv.dom⟩ (fun f y=>b6 f y) J d5 (by simp) (by simp) (by simp)
 have I:∀f∈its,(ei ops.size false).getD f.n true=false:=by
  intro f y;have:=W f y;have:f.n<ops.size:=by omega
  simp[kK,this]
 have b4:un seg (ei ops.size false)=seg:=by apply iV.2;intro f y;rw[I f (by rw[k1];exact an.2 (.inl y))];rfl
 refine wp_region_any hm ?_
 refine xX (its:=its) (b:=(Region.before ops).toList) (cF:=cF) (sg:=sg) e5 c7 (fun j hj=> ?_) e2 (fun i o ho=>(F i o ho).1) (fun i o k ho hk hb=>(F i o ho).2 k hk hb) (fun f y=>b6 f y) J d5 e1
  (fun pre f r e y g Z=> ?_) e3 hQ ops.size _ c a _ ?_ (by simp) ?_ ⟨seg,post,p2,e8,k1,k3,k4,fun f y _=>k5 f (.inr y),(fun f y hq=>by rw[k2 f y]at hq;cases hq),fun f y=>I f (by rw[k1];exact an.2 (.inr y)), ?_, ?_⟩ ?_
 ·have:=e6 j (kr.2 (by omega))
  rw[fI]at this;simp only[decide_eq_true_eq]at this;obtain⟨f,y,e⟩:=aT.1 this;exact⟨f,y,e⟩
 ·rw[e]at a8
  rcases Fc _ (yx a8 y) g Z with z|⟨k,hk,z⟩
  ·exact⟨f,aq ..,z⟩
  ·exact⟨k,af _ hk,z⟩
 ·have:(un its (ei ops.size false)).length<=its.length:=List.length_filter_le _ _
  omega
 ·intro i o k ho hl _ _
  have hi:i<ops.size:=(dS.1 ho).1;simp[kK,hi]at hl
 ·rw[b4];simpa using k6
 ·rw[b4];intro f y;exact k7 f (.inr y)
 ·obtain⟨x,s,b7,hS⟩:=hM
  exact⟨x,s,⟨b7.tm,b7.defers,b7.heap.drawn _⟩,hS⟩
end Go.Sy
namespace Go.Sy
variable [aW]
variable {P : Program} {C : Ctx} {x : Sit} {a : Act} {w : World} {N : Nat} {c c' : CSt} {s : St} {call : dr} {sg : Nat -> Sig}
variable {ops : Array Oper} {its σ : List FI} {b : List Nat} {cF : CSt} {listed : Array Bool}
structure Of(P:Program)(N:Nat)(ops:Array Oper)(its:List FI)(b:List Nat):Prop where
 item:∀f∈its,∃o,ops[f.n]? =some o/\gM P ops o=some f.i.er/\f.n<ops.size
 ex:∀j,j<ops.size->∃f∈its,f.n=j
 inj:∀f∈its,∀g∈its,f.n=g.n->f=g
 back:∀(i:Nat)(o:Oper),ops[i]? =some o->∀e∈o.after,Region.binds .any e=true->e.on<i
 bit:∀(i:Nat)(o:Oper)(k:Nat),ops[i]? =some o->k<ops.size->(b.getD i 0).testBit k=true->∃e∈o.after,Region.binds .any e=true/\(e.on=k\/(b.getD e.on 0).testBit k=true)
 ok:∀f∈its,f.i.ok N=true
 self:∀f∈its,yi f
 rd:∀q∈its,q.q=true->∀p∈its,∀d,q.i.dst=some d->d∈p.i.rds->(b.getD p.n 0).testBit q.n=true
structure S4(its:List FI)(b:List Nat)(σ:List FI):Prop where
 mem:∀f,f∈σ↔f∈its
 nd:(σ.map FI.n).Nodup
 nx:σ.Pairwise Nx
 seg:∀pre f r,σ=pre++f::r->f.q=false->∀g∈r,g.q=true->∃h∈f::r,(b.getD g.n 0).testBit h.n=true
open Classical in
theorem AH(F:listed.size=ops.size){y g:FI}(I:Of P N ops its b)(z:y∈its)(E:g∈its)(hi:y.n<ops.size):(listed.setIfInBounds y.n true).getD g.n true=if g=y then true else listed.getD g.n true:=by
 rw[ik (by omega)]
 by_cases h:g=y
 ·subst h;simp
 ·rw[if_neg (fun e=>h (I.inj g E y z e)),if_neg h]
theorem Cl(I:Of P N ops its b)(O:S4 its b σ){pre:List FI}{Q:FI}(Z:Q∈its)(h:∀g∈pre,g∈its)(F:∀f∈pre,f.q=false->listed.getD f.n true=true)
 (J:∀k,k<ops.size->(b.getD Q.n 0).testBit k=true->listed.getD k true=true):∀n∈Q.i.rds,n∉(un pre listed).map dOf:=by
 intro n hn hm;obtain⟨g,hg,E⟩:=aT.1 hm;obtain⟨z,y⟩:=dd.1 hg
 have L:g.q=true:=by
  cases hq:g.q with
  |true=>rfl
  |false=>rw[F g z hq]at y;cases y
 obtain⟨d,hd,_⟩:=I.self g (h g z) L;have a1:d=n:=by unfold dOf at E;rw[hd]at E;exact E
 subst a1;have:=I.rd g (h g z) L Q Z d hd hn;obtain⟨_,_,_,W⟩:=I.item g (h g z);rw[J g.n W this]at y;cases y
theorem AB(hs:listed.size=ops.size)(I:Of P N ops its b)(O:S4 its b σ)(hS:qh call sg N b σ cF listed c){E:FI}(Q:E∈its)(h1:listed.getD E.n true=false)(hq:E.q=true)
 (a6:∀k,k<ops.size->(b.getD E.n 0).testBit k=true->listed.getD k true=true):
 ∃v,qv c E.i=some v/\qh call sg N b σ cF (listed.setIfInBounds E.n true) (c.put E.i.dst v):=by
 classical
 obtain⟨_,_,_,e0⟩:=I.item E Q;have F:∀g∈its,(listed.setIfInBounds E.n true).getD g.n true=if g=E then true else listed.getD g.n true:=fun g Z=>AH hs I Q Z e0
 obtain⟨pre,post,p,ps,e,J,b5,d7,W,L,hA,hV⟩:=hS.ex;have y:∀g∈pre,g∈its:=fun g Z=>(O.mem g).1 (by rw[e];exact an.2 (.inl Z))
 have z:∀g∈post,g∈its:=fun g Z=>(O.mem g).1 (by rw[e];exact an.2 (.inr Z))
 have b6:=Cl (listed:=listed) I O Q y W a6
 have b3:E∈pre:=by
  have h2:=(O.mem E).2 Q;rw[e]at h2;rcases an.1 h2 with h3|h3
  ·exact h3
  ·exfalso
   rcases J with h4|⟨f0,r,h4,hf0⟩
   ·rw[h4]at h3;cases h3
   ·have h5:E∈r:=by
     rw[h4]at h3;rcases al.1 h3 with h|h
     ·rw[h,hf0]at hq;cases hq
     ·exact h
    obtain⟨g,Z,e1⟩:=O.seg pre f0 r (by rw[e,h4]) hf0 E h5 hq;have b1:g∈post:=by rw[h4];exact Z
    obtain⟨_,_,_,d6⟩:=I.item g (z g b1);have:=a6 g.n d6 e1;rw[L g b1]at this;cases this
 have e3:E∈un pre listed:=dd.2 ⟨b3,h1⟩;have hv:=hV E e3;rw[<-hA.qv b6]at hv;obtain⟨d,hd,e4⟩:=I.self E Q hq;have b2:dOf E=d:=by unfold dOf;rw[hd];rfl
 refine⟨_,hv,⟨pre,post,p,ps,e,J,b5,d7, ?_, ?_, ?_, ?_⟩⟩
 ·intro f hf c7
  rw[F f (y f hf)];split
  ·rfl
  ·exact W f hf c7
 ·intro f hf
  rw[F f (z f hf),if_neg]
  ·exact L f hf
  ·intro e2
   subst e2;have h5:=O.nx;rw[e]at h5;have h6:=(DS.1 h5).2.2 f b3 f hf hq d hd;exact h6.2 hd
 ·refine⟨fun n hn=> ?_, ?_, ?_,hA.dom⟩
  ·rw[hd,io]
   split
   ·rename_i e2;rw[e2,b2]
   ·rename_i d5
    refine hA.get n fun hm=>hn ?_
    obtain⟨g,Z,a7⟩:=aT.1 hm;obtain⟨a8,b7⟩:=dd.1 Z;refine aT.2 ⟨g,dd.2 ⟨a8, ?_⟩,a7⟩;rw[F g (y g a8),if_neg]
    ·exact b7
    ·intro e2;subst e2;rw[b2]at a7;exact d5 a7.symm
  ·cases E.i.dst<;>exact hA.ob
  ·cases E.i.dst<;>exact hA.tk
 ·intro f hf
  obtain⟨b4,a1⟩:=dd.1 hf;refine hV f (dd.2 ⟨b4, ?_⟩);rw[F f (y f b4)]at a1;split at a1
  ·cases a1
  ·exact a1
theorem Gn(l r:List FI):gh (l++r)=gh l++gh r:=List.filterMap_append
theorem DN{l:List FI}(h:∀f∈l,f.q=true):gh l=[]:=by unfold gh;rw[List.filterMap_eq_nil_iff];intro f y;rw[h f y];rfl
theorem qI{l:List FI}{k:Nat}:k∈gh l↔∃f∈l,f.q=false/\f.n=k:=by
 unfold gh;rw[List.mem_filterMap];constructor
 ·rintro⟨f,z,h⟩
  cases y:f.q with
  |true=>rw[y]at h;cases h
  |false=>rw[y]at h;exact⟨f,z,y,by simpa using h⟩
 ·rintro⟨f,z,y,rfl⟩;exact⟨f,z,by rw[y];rfl⟩
theorem kP(k:Nat):∀l:List FI,gh (l.filter fun q=> !decide (q.n=k))=(gh l).filter fun x=> !decide (x=k)
 |[]=>rfl
 |f::r=>by
  have y:=kP k r;rw[lG]
  by_cases h:f.n=k
  ·cases hq:f.q with
   |true=>simp only[h,decide_true,rP,az,if_false,y];simp[gh,hq]
   |false=>simp only[h,decide_true,rP,az,if_false,y];simp[gh,hq,h]
  ·cases hq:f.q with
   |true=>simp only[h,decide_false,Ew,if_true];simp only[gh,List.filterMap_cons,hq,if_true]at y ⊢;exact y
   |false=>simp only[h,decide_false,Ew,if_true];simp only[gh,List.filterMap_cons,hq,az,if_false,lG,h,decide_false,Ew,if_true]at y ⊢;rw[y]
theorem yq(E:listed.size=ops.size){k:Nat}(z:k<ops.size)(σ:List FI):un σ (listed.setIfInBounds k true)=(un σ listed).filter fun q=> !decide (q.n=k):=by
 simp only[un,List.filter_filter];apply List.filter_congr;intro q y;rw[ik (by omega)]
 by_cases h:q.n=k<;>simp[h]
theorem AC(hs:listed.size=ops.size)(I:Of P N ops its b)(O:S4 its b σ)(hS:qh call sg N b σ cF listed c){Z:FI}(a1:Z∈its)(h1:listed.getD Z.n true=false)(hq:Z.q=false)
 (b3:∀k,k<ops.size->(b.getD Z.n 0).testBit k=true->listed.getD k true=true) (hh:(gh (un σ listed)).head? =some Z.n):
 ∃c1,eB call sg c Z.i=some c1/\qh call sg N b σ cF (listed.setIfInBounds Z.n true) c1:=by
 classical
 obtain⟨_,_,_,e4⟩:=I.item Z a1;have L:∀g∈its,(listed.setIfInBounds Z.n true).getD g.n true=if g=Z then true else listed.getD g.n true:=fun g F=>AH hs I a1 F e4
 obtain⟨pre,post,p,ps,e,b1,E,e3,W,J,hA,hV⟩:=hS.ex;have z:∀g∈pre,g∈its:=fun g F=>(O.mem g).1 (by rw[e];exact an.2 (.inl F))
 have y:∀g∈post,g∈its:=fun g F=>(O.mem g).1 (by rw[e];exact an.2 (.inr F))
 have f1:=Cl (listed:=listed) I O a1 z W b3
 have a7:∀g∈un pre listed,g.q=true:=by
  intro g F;obtain⟨b2,a8⟩:=dd.1 F;cases hq:g.q with
  |true=>rfl
  |false=>rw[W g b2 hq]at a8;cases a8
 have f2:un post listed=post:=iV.2 fun f Q=>by rw[J f Q];rfl
 have hu:gh (un σ listed)=gh post:=by
  have:un σ listed=un pre listed++un post listed:=by rw[e];exact List.filter_append ..
  rw[this,Gn,DN a7,f2];rfl
 rw[hu]at hh
 obtain⟨f0,r,b7,b6⟩:∃f r,post=f::r/\f.q=false:=by
  rcases b1 with h|h
  ·rw[h]at hh;cases hh
  ·exact h
 have d7:Z=f0:=by
  rw[b7]at hh;have h2:gh (f0::r)=f0.n::gh r:=by simp[gh,b6]
  rw[h2]at hh;simp only[List.head?_cons,ao.injEq]at hh;exact I.inj Z a1 f0 (y f0 (by rw[b7];exact aq ..)) hh.symm
 subst d7;subst b7
 have e9:(pre++Z::r).Pairwise fun f g=>f.n≠g.n:=by have:=O.nd;rw[e,wO,hZ]at this;exact this
 obtain⟨n,q,i⟩:=Z;simp only at b6;subst b6;simp only[fO]at E;cases hs1:eB call sg p i with
 |none=>rw[hs1]at E;simp[ru]at E
 |some p1=>
  rw[hs1]at E;simp only[ru]at E;cases F:gdP (tU (b.getD n 0) p1 ps) p1 with
  |none=>rw[F]at E;simp[rx]at E
  |some g8=>
   rw[F]at E;simp only[rx]at E;obtain⟨d5,rfl⟩:=qR F;obtain⟨c1,g7,g6⟩:=hA.step (I.ok _ a1) f1 hs1;refine⟨c1,g7, ?_⟩;have b4:=O.nx;rw[e]at b4;have e5:=DS.1 b4
   obtain⟨seg,b5,p2,f6,k1,k2,k3,k4,k5,k6,k7⟩:=nO (V:=un pre listed) E g6 (fun f Q=>I.ok f (y f (af _ Q))) (fun f Q=>I.self f (y f (af _ Q)))
    (eL.1 e5.2.1).2 (fun g F f Q=>e5.2.2 g (dd.1 F).1 f (af _ Q))
    (fun g F=>by obtain⟨d,hd,_⟩:=I.self g (z g (dd.1 F).1) (a7 g F);exact⟨d,hd⟩)
    (fun g F=>by
     obtain⟨b2,a8⟩:=dd.1 F;rcases qU d5 (e3 g b2 (a7 g F))with h|h
     ·obtain⟨_,_,_,g2⟩:=I.item g (z g b2)
      rw[b3 g.n g2 h]at a8;cases a8
     ·exact h)
   have g5:∀g∈pre,g≠⟨n,false,i⟩:=fun g F e2=>by have:=(DS.1 e9).2.2 g F _ (aq ..);rw[e2]at this;exact this rfl
   have e6:∀g∈r,g≠⟨n,false,i⟩:=fun g F e2=>by have:=(eL.1 (DS.1 e9).2.1).1 g F;rw[e2]at this;exact this rfl
   have e0:un (pre++⟨n,false,i⟩::seg) (listed.setIfInBounds n true)=un pre listed++seg:=by
    unfold un;rw[List.filter_append,lG];have e1:(listed.setIfInBounds n true).getD n true=true:=by rw[ik (by rw[hs];exact e4)];simp
    simp only[e1,rP,az,if_false]
    congr 1
    ·apply List.filter_congr
     intro g F;have:=L g (z g F);simp only at this;rw[this,if_neg (g5 g F)]
    ·apply iV.2
     intro g F;have d6:g∈r:=by rw[k1];exact an.2 (.inl F)
     have e8:g∈⟨n,false,i⟩::r:=af _ d6;have:=L g (y g e8);simp only at this;rw[this,if_neg (e6 g d6),J g e8];rfl
   refine⟨pre++⟨n,false,i⟩::seg,b5,p2,f6,by rw[e,k1];simp,k3,k4, ?_, ?_, ?_, ?_, ?_⟩
   ·intro f Q a6
    rcases an.1 Q with h|h
    ·exact k5 f (.inl (e3 f h a6))
    ·rcases al.1 h with rfl|h
     ·cases a6
     ·exact k5 f (.inr h)
   ·intro f Q a6
    rcases an.1 Q with h|h
    ·rw[L f (z f h)]
     split
     ·rfl
     ·exact W f h a6
    ·rcases al.1 h with rfl|h
     ·rw[L _ a1,if_pos rfl]
     ·rw[k2 f h]at a6;cases a6
   ·intro f Q
    have c7:f∈r:=by rw[k1];exact an.2 (.inr Q)
    have e7:f∈⟨n,false,i⟩::r:=af _ c7;rw[L f (y f e7),if_neg (e6 f c7)];exact J f e7
   ·rw[e0,cz]
    refine⟨fun m hm=>k6.get m (fun h=>hm ?_),k6.ob,k6.tk,k6.dom⟩;rw[an]at h ⊢;exact h.symm
   ·rw[e0]
    intro f Q;exact k7 f (an.1 Q)
theorem Gm{k:Nat}{g:Nat}{A:List t7}(h:lF b k A=true)(F:∀l,A.head? =some l->g∈l)(I:∀l,A.head? =some l->∀x∈l,x≠g->(b.getD g 0).testBit x=false):
 ∃J,lF b J (A.filterMap fun p=>match p with|x::r=>if x=g then some r else none|[]=>none)=true:=by
 cases A with
 |nil=>cases k<;>simp[lF]at h
 |cons l A=>
  cases l with
  |nil=>have:=F [] rfl;cases this
  |cons y t=>
   cases k with
   |zero=>simp[lF]at h
   |succ k=>
    simp only[lF,aI]at h;have z:=h g (F _ rfl);rw[gG]at z;rcases z with z|z
    ·exfalso
     rw[List.any_eq_true]at z;obtain⟨x,L,E⟩:=z;rw[aw]at E;have O:=of_decide_eq_true E.1;have:=I _ rfl x L O;unfold ov at E;rw[E.2]at this;cases this
    ·exact⟨k,z⟩
theorem sT{R R':List FI->t7}{g:Nat}:∀{A:List (List FI)},(∀σ∈A,∀r,R σ=g::r->R' σ=r)->
 (A.filter fun σ=>decide ((R σ).head? =some g)).map R'=(A.map R).filterMap fun p=>match p with|x::r=>if x=g then some r else none|[]=>none
 |[],_=>rfl
 |σ::A,h=>by
  have z:=sT (R:=R) (R':=R') (g:=g) (A:=A) fun τ I=>h τ (af _ I)
  have F:=h σ (aq ..);rw[lG,aG,List.filterMap_cons];cases hR:R σ with
  |nil=>simp only[List.head?_nil,reduceCtorEq,decide_false,az,if_false];exact z
  |cons y t=>
   by_cases E:y=g
   ·subst E
    simp only[List.head?_cons,decide_true,if_true,aG,F t hR];rw[z]
   ·have:¬(some y=some g):=fun e=>E (by injection e)
    simp only[List.head?_cons,this,decide_false,az,if_false,E];exact z
theorem GA(
 hcal:gT P call)(I:Of P N ops its b){ords:List (List FI)}(hO:∀σ∈ords,S4 its b σ){Q:LAe}(hQ:∀a w,M C N cF a w->Q .normal a w):
 ∀(O:Nat)(listed:Array Bool)(c:CSt)(a:Act)(w:World)(A:List (List FI))(k:Nat),(un its listed).length<=O->listed.size=ops.size->
  (∀(i:Nat)(o:Oper)(k:Nat),ops[i]? =some o->listed.getD i true=true->k<ops.size->(b.getD i 0).testBit k=true->listed.getD k true=true)->
  (∀σ∈A,σ∈ords/\qh call sg N b σ cF listed c)->lF b k (A.map fun σ=>gh (un σ listed))=true->M C N c a w->wpAny P .any ops Q O listed a w:=by
 classical
 have e6:∀(listed:Array Bool),listed.size=ops.size->∀k,k<ops.size->listed.getD k false=listed.getD k true:=by intro listed Z k hk;simp[kK,Z,hk]
 have done:∀(listed:Array Bool)(c:CSt)(a:Act)(w:World)(A:List (List FI))(k:Nat),un its listed=[]->(∀σ∈A,σ∈ords/\qh call sg N b σ cF listed c)->lF b k (A.map fun σ=>gh (un σ listed))=true->M C N c a w->Region.ready .any ops listed=[]/\Q .normal a w:=by
  intro listed c a w A k h0 j8 E hM;constructor
  ·rw[List.eq_nil_iff_forall_not_mem]
   intro j hj;obtain⟨h1,o,h2,h3⟩:=mem_ready.1 hj;have j2:j<ops.size:=(dS.1 h2).1;obtain⟨z,F,rfl⟩:=I.ex j j2;have:z∈un its listed:=dd.2 ⟨F,h1⟩;rw[h0]at this;cases this
  ·cases A with
   |nil=>cases k<;>simp[lF]at E
   |cons σ A=>
    obtain⟨W,L⟩:=j8 σ (aq ..)
    have f6:un σ listed=[]:=by rw[List.eq_nil_iff_forall_not_mem];intro f hf;obtain⟨h1,h2⟩:=dd.1 hf;have:f∈un its listed:=dd.2 ⟨((hO σ W).mem f).1 h1,h2⟩;rw[h0]at this;cases this
    obtain⟨pre,post,p,ps,e,hp,a8,_,_,b6,hA,_⟩:=L.ex
    have h9:post=[]:=by
     cases post with
     |nil=>rfl
     |cons f r=>have:f∈un σ listed:=dd.2 ⟨by rw[e];simp,b6 f (aq ..)⟩;rw[f6]at this;cases this
    subst h9;simp only[fO,ao.injEq]at a8;subst a8;have hD:un pre listed=[]:=by rw[<-f6,e,aZ]
    rw[hD]at hA;refine hQ a w ?_;obtain⟨x,s,j3,b3⟩:=hM;refine M.slots (c:=c) ⟨x,s,j3,b3⟩ ⟨hA.dom,by rw[<-hA.ob];exact b3.inv.so,by rw[<-hA.ob];exact b3.inv.wf⟩ hA.ob.symm hA.tk.symm (fun i=> .inl (hA.get i (by simp)).symm)
 intro O;induction O with
 |zero=>intro listed c a w A k hf Z d5 L E hM;exact done listed c a w A k (bx.1 (by omega)) L E hM
 |succ O ih=>
  intro listed c a w A k hf Z d5 L E hM;constructor
  ·intro e7
   by_cases h0:un its listed=[]
   ·exact(done listed c a w A k h0 L E hM).2
   ·exfalso
    have hp:∃n,∃f∈un its listed,f.n=n:=by
     cases hc:un its listed with
     |nil=>exact absurd hc h0
     |cons f r=>exact⟨_,f,aq ..,rfl⟩
    obtain⟨n,⟨f,i7,k4⟩,f1⟩:=YN _ hp;obtain⟨h1,h2⟩:=dd.1 i7;obtain⟨o,h3,_,h4⟩:=I.item f h1
    have:f.n∈Region.ready .any ops listed:=by refine mem_ready.2 ⟨h2,o,h3,fun e he hb=> ?_⟩;have g5:=I.back f.n o h3 e he hb;rw[e6 listed Z _ (by omega),<-Bool.not_eq_false];intro i1;obtain⟨g,hg,e0⟩:=I.ex e.on (by omega);have:=f1 e.on ⟨g,dd.2 ⟨hg,by rw[e0];exact i1⟩,e0⟩;omega
    rw[e7]at this;cases this
  ·intro i j6
   obtain⟨h1,o,h2,h3⟩:=mem_ready.1 j6;have a6:i<ops.size:=(dS.1 h2).1;obtain⟨z,F,rfl⟩:=I.ex i a6;obtain⟨o',e9,b1,_⟩:=I.item z F;rw[h2]at e9;cases e9
   have J:∀k,k<ops.size->(b.getD z.n 0).testBit k=true->listed.getD k true=true:=by
    intro k hk hb;obtain⟨e,he,f2,g9⟩:=I.bit z.n o k h2 hk hb;have c7:=h3 e he f2;have h8:=I.back z.n o h2 e he f2;rw[e6 listed Z _ (by omega)]at c7;rcases g9 with h|h
    ·rw[<-h];exact c7
    ·exact d5 e.on (ops[e.on]'(by omega)) k (by simp) c7 hk h
   have k0:(un its (listed.setIfInBounds z.n true)).length<(un its listed).length:=by rw[yq Z a6];refine List.length_filter_lt_length_iff_exists.2 ⟨z,dd.2 ⟨F,h1⟩,by simp⟩
   have b2:∀(i:Nat)(o:Oper)(k:Nat),ops[i]? =some o->(listed.setIfInBounds z.n true).getD i true=true->k<ops.size->(b.getD i 0).testBit k=true->(listed.setIfInBounds z.n true).getD k true=true:=by
    intro i2 o2 e8 j9 b4 e2 g7;rw[ik (by omega)]at b4 ⊢;split
    ·rfl
    ·split at b4
     ·rename_i e1
      subst e1;exact J e8 e2 g7
     ·exact d5 i2 o2 e8 j9 b4 e2 g7
   have g6:(listed.setIfInBounds z.n true).size=ops.size:=by simpa using Z
   obtain⟨σ0,A0,a1⟩:∃σ A',A=σ::A':=by
    cases A with
    |nil=>cases k<;>simp[lF]at E
    |cons σ A'=>exact⟨σ,A',rfl⟩
   cases hq:z.q with
   |true=>
    obtain⟨j0,j4⟩:=L σ0 (by rw[a1];exact aq ..);obtain⟨v,hv,_⟩:=AB Z I (hO σ0 j0) j4 F h1 hq J;refine gW hcal hM (I.ok z F) h2 b1 (ph (call:=call) (sg:=sg) hv) fun a' w' b5=> ?_
    refine ih _ _ a' w' A k (by omega) g6 b2 (fun σ W=>⟨(L σ W).1, ?_⟩) ?_ b5
    ·obtain⟨v',e5,i6⟩:=AB Z I (hO σ (L σ W).1) (L σ W).2 F h1 hq J
     rw[hv]at e5;injection e5 with e;subst e
     exact i6
    ·have:(A.map fun σ=>gh (un σ (listed.setIfInBounds z.n true)))=A.map fun σ=>gh (un σ listed):=by
      apply List.map_congr_left;intro σ W;rw[yq Z a6,kP,iV];intro x hx;obtain⟨f,hf,d6,rfl⟩:=qI.1 hx;have b7:=((hO σ (L σ W).1).mem f).1 (dd.1 hf).1;have:¬f.n=z.n:=fun e=>by rw[I.inj f b7 z F e,hq]at d6;cases d6
      simp[this]
     rw[this];exact E
   |false=>
    have d7:∀σ∈A,z.n∈gh (un σ listed):=fun σ W=>qI.2 ⟨z,dd.2 ⟨((hO σ (L σ W).1).mem z).2 F,h1⟩,hq,rfl⟩
    obtain⟨k',a7⟩:=Gm (g:=z.n) E (fun l hl=>by
     rw[a1]at hl;simp only[aG,List.head?_cons,ao.injEq]at hl;rw[<-hl];exact d7 σ0 (by rw[a1];exact aq ..)) (fun l hl y hy k3=>by
     rw[a1]at hl;simp only[aG,List.head?_cons,ao.injEq]at hl;rw[<-hl]at hy;obtain⟨f,hf,d6,rfl⟩:=qI.1 hy;obtain⟨j1,f0⟩:=dd.1 hf;have b7:=((hO σ0 (L σ0 (by rw[a1];exact aq ..)).1).mem f).1 j1;obtain⟨_,_,_,g5⟩:=I.item f b7;rw[<-Bool.not_eq_true];intro hb;rw[J f.n g5 hb]at f0;cases f0)
    rw[<-sT (R:=fun σ=>gh (un σ listed)) (R':=fun σ=>gh (un σ (listed.setIfInBounds z.n true))) (fun σ W r hR=>by
     show gh (un σ (listed.setIfInBounds z.n true))=r;rw[yq Z a6,kP];have g8:gh (un σ listed)=z.n::r:=hR;rw[g8,lG];simp only[decide_true,rP,az,if_false];rw[iV];intro y hy
     have g2:(gh (un σ listed)).Nodup:=by
      have h5:=(hO σ (L σ W).1).nd
      have h6:(gh (un σ listed)).Sublist (σ.map FI.n):=by
       have h7:(gh (un σ listed)).Sublist ((un σ listed).map FI.n):=by
        unfold gh;rw[show(fun f:FI=>if f.q=true then none else some f.n)=fun f:FI=>if f.q=true then none else some (FI.n f)from rfl];generalize un σ listed=l;induction l with
        |nil=>exact kE.slnil
        |cons f r ih=>
         rw[List.filterMap_cons,aG];cases hq:f.q with
         |true=>exact kE.cons _ ih
         |false=>exact kE.cons_cons _ ih
       exact h7.trans (kE.map _ List.filter_sublist)
      exact h5.sublist h6
     rw[g8]at g2;have:y≠z.n:=fun e=>by rw[e]at hy;exact(eZ.1 g2).1 hy
     simp[this])]at a7
    obtain⟨σ1,j5⟩:∃σ,σ∈A.filter fun σ=>decide ((gh (un σ listed)).head? =some z.n):=by
     cases hX:A.filter fun σ=>decide ((gh (un σ listed)).head? =some z.n)with
     |nil=>rw[hX]at a7;cases k'<;>simp[lF]at a7
     |cons σ _=>exact⟨σ,aq ..⟩
    obtain⟨h4,h5⟩:=List.mem_filter.1 j5;obtain⟨c1,e4,_⟩:=AC Z I (hO σ1 (L σ1 h4).1) (L σ1 h4).2 F h1 hq J (of_decide_eq_true h5);refine gW hcal hM (I.ok z F) h2 b1 e4 fun a' w' b5=> ?_
    refine ih _ _ a' w' _ k' (by omega) g6 b2 (fun σ W=> ?_) a7 b5;obtain⟨h6,h7⟩:=List.mem_filter.1 W;obtain⟨c2,e3,j7⟩:=AC Z I (hO σ (L σ h6).1) (L σ h6).2 F h1 hq J (of_decide_eq_true h7);rw[e4]at e3;injection e3 with e;subst e
    exact⟨(L σ h6).1,j7⟩
theorem RL(hl:kf (gM P ops) ops.toList=some (unF its))(hd:drawn ops (unF its)=true)(e2:∀f∈its,f.i.ok N=true)(J:R5 (Region.before ops).toList its=true)
 (a1:(its.map FI.n).Nodup) (I:∀f∈its,f.n<its.length) (b4:∀j∈bQ its.length,(its.map FI.n).contains j=true):
 Of P N ops its (Region.before ops).toList/\(∀f∈its,∀g∈its,f.n≠g.n->∀d,f.i.dst=some d->g.i.dst≠some d)/\its.length=ops.size:=by
 simp only[R5,aI,gG,ej]at J;obtain⟨b3,b2⟩:=fG hl;have e0:(unF its).length=its.length:=by simp[unF]
 have e1:its.length=ops.size:=by rw[<-e0,b3,aP]
 have a7:∀f∈its,(unF its).getD f.n ⟨none,none,.lenC 0⟩=f.i.er:=by intro f z;have:=I f z;rw[aa];simp only[unF,aN,cM this,bn,aO];exact sH _ a1 z
 simp only[drawn,aw,decide_eq_true_eq]at hd;obtain⟨⟨hc,ht⟩,O⟩:=hd
 have W:∀f∈its,∃o,ops[f.n]? =some o/\gM P ops o=some f.i.er/\f.n<ops.size:=by
  intro f z;have e5:=I f z;have b6:f.n<ops.toList.length:=by rw[aP];omega
  refine⟨ops.toList[f.n],by rw[<-dA,ab b6], ?_,by omega⟩;have y:=b2 f.n b6 (by omega);rw[y]
  congr 1
  have F:=a7 f z;rwa[aa,ab (by omega),aO]at F
 have a8:∀f∈its,∀g∈its,f.n=g.n->f=g:=by
  intro f z g Q e;have:its.Pairwise fun f g=>f.n≠g.n:=by rw[wO,hZ]at a1;exact a1
  rw[List.pairwise_iff_getElem]at this;obtain⟨i,hi,rfl⟩:=List.mem_iff_getElem.1 z;obtain⟨j,hj,rfl⟩:=List.mem_iff_getElem.1 Q;rcases Nat.lt_trichotomy i j with h|h|h
  ·exact absurd e (this i j hi hj h)
  ·subst h;rfl
  ·exact absurd e.symm (this j i hj hi h)
 have d6:∀f∈its,∀g∈its,f.n≠g.n->∀d,f.i.dst=some d->g.i.dst≠some d:=by
  have L:∀f∈its,∀g∈its,f.n<g.n->∀d,f.i.dst=some d->g.i.dst≠some d:=by
   intro f z g Q b5 d y F
   have b1:(unF its).Pairwise fun u v=>∀d,u.dst=some d->v.dst≠some d:=by rw[wO,List.pairwise_filterMap]at O;refine O.imp ?_;intro u v d7 d hu hv;exact d7 d hu d hv rfl
   rw[List.pairwise_iff_getElem]at b1;have e6:=I f z;have e3:=I g Q
   have g1:(unF its)[f.n]'(by omega)=f.i.er:=by have:=a7 f z;rwa[aa,ab (by omega),aO]at this
   have g2:(unF its)[g.n]'(by omega)=g.i.er:=by have:=a7 g Q;rwa[aa,ab (by omega),aO]at this
   exact b1 f.n g.n (by omega) (by omega) b5 d (by rw[g1];exact y) (by rw[g2];exact F)
  intro f z g Q e4 d y F;rcases bP f.n g.n with h|h
  ·exact L f z g Q h d y F
  ·exact L g Q f z (by omega) d F y
 have E:∀(i:Nat)(o:Oper),ops[i]? =some o->(∀e∈o.after,Region.binds .any e=true->e.on<i)/\
  ∀k,k<ops.size->((Region.before ops).toList.getD i 0).testBit k=true->∃e∈o.after,Region.binds .any e=true/\(e.on=k\/((Region.before ops).toList.getD e.on 0).testBit k=true):=by
  intro i o ho;unfold qX at hc;rw[aI]at hc;have hi:i<ops.size:=(dS.1 ho).1
  have y:=hc (o,i) (by rw[List.mem_zipIdx_iff_getElem?];simpa using ho)
  simp only[aw,Array.all_eq_true_iff_forall_mem,aI,gG,ej,decide_eq_true_eq]at y;refine⟨fun e he hb=>(y.1 e he).resolve_left (by simp[hb]),fun k hk hb=> ?_⟩;have F:=(y.2 k (kr.2 hk)).resolve_left (by simp only[hb];simp);obtain⟨_,h3⟩:=F;rw[<-Array.any_toList,List.any_eq_true]at h3;obtain⟨e,he,h4⟩:=h3;rw[Array.mem_toList_iff]at he;simp only[aw,gG,beq_iff_eq]at h4;exact⟨e,he,h4.1,h4.2⟩
 have hq:∀q∈its,q.q=true->∃d,q.i.dst=some d/\∀p∈its,d∈p.i.rds->((Region.before ops).toList.getD p.n 0).testBit q.n=true/\p.n≠q.n:=by
  intro q hq Z;have y:=(J q hq).resolve_left (by rw[Z];simp);cases hd:q.i.dst with
  |none=>rw[hd]at y;cases y
  |some d=>
   rw[hd]at y;simp only[aI,gG,ej,aw,decide_eq_true_eq,ov]at y;refine⟨d,rfl,fun p hp hr=> ?_⟩;rcases y p hp with F|F
   ·rw[fI]at F;simp only[decide_eq_false_iff_not]at F;exact absurd hr F
   ·exact F
 have a6:∀f∈its,yi f:=by intro f z J;obtain⟨d,hd,y⟩:=hq f z J;exact⟨d,hd,fun h=>(y f z h).2 rfl⟩
 have b7:∀q∈its,q.q=true->∀p∈its,∀d,q.i.dst=some d->d∈p.i.rds->((Region.before ops).toList.getD p.n 0).testBit q.n=true:=by intro q d5 Z p hp d hd hr;obtain⟨d',c7,y⟩:=hq q d5 Z;rw[c7]at hd;cases hd;exact(y p hp hr).1
 refine⟨⟨W,fun j hj=> ?_,a8,fun i o ho=>(E i o ho).1,fun i o k ho hk hb=>(E i o ho).2 k hk hb,e2,a6,b7⟩,d6,e1⟩;have:=b4 j (kr.2 (by omega));rw[fI]at this;simp only[decide_eq_true_eq]at this;obtain⟨f,z,e⟩:=aT.1 this;exact⟨f,z,e⟩
theorem nU{l:List FI}(h:(l.map FI.n).Nodup){f:FI}(y:f∈l):uX l f.n=f:=by
 induction l with
 |nil=>cases y
 |cons g r z=>
  simp only[aG,eZ]at h;simp only[uX];rcases al.1 y with rfl|y
  ·rw[if_pos rfl]
  ·rw[if_neg,z h.2 y]
   intro e;apply h.1;rw[e];exact iU y
theorem wa{l:List FI}{f:FI}:∀{p:t7},f∈jk l p↔∃k∈p,uX l k=f
 |[]=>by simp[jk]
 |k::r=>by
  simp only[jk,al,wa (p:=r)];constructor
  ·rintro(h|⟨j,y,h⟩)
   ·exact⟨k,.inl rfl,h.symm⟩
   ·exact⟨j,.inr y,h⟩
  ·rintro⟨j,rfl|y,h⟩
   ·exact .inl h.symm
   ·exact .inr ⟨j,y,h⟩
theorem wb{l:List FI}(h:(l.map FI.n).Nodup):∀{p:t7},(∀k∈p,k∈l.map FI.n)->(jk l p).map FI.n=p
 |[],_=>rfl
 |k::r,hp=>by simp only[jk,aG];rw[wb h (p:=r) fun j y=>hp j (af _ y)];obtain⟨f,z,e⟩:=aT.1 (hp k (aq ..));rw[<-e,nU h z]
theorem Da{s:Nat}(l:List FI):xl b (some s) l=true->∀g∈l,g.q=true->(b.getD g.n 0).testBit s=true\/∃h∈l,(b.getD g.n 0).testBit h.n=true:=by
 induction l generalizing s with
 |nil=>intro _ g y;cases y
 |cons f r F=>
  intro h g y E;simp only[xl]at h;split at h
  ·simp only[aw,ov]at h
   rcases al.1 y with rfl|y
   ·exact .inl h.1
   ·rcases F h.2 g y E with z|⟨k,hk,z⟩
    ·exact .inl z
    ·exact .inr ⟨k,af _ hk,z⟩
  ·rename_i I
   rcases al.1 y with rfl|y
   ·exact absurd E I
   ·rcases F h g y E with z|⟨k,hk,z⟩
    ·exact .inr ⟨f,aq ..,z⟩
    ·exact .inr ⟨k,af _ hk,z⟩
theorem tn:∀{pre:List FI}{s:t8}{f:FI}{r:List FI},xl b s (pre++f::r)=true->f.q=false->xl b (some f.n) r=true
 |[],s,f,r,h,hf=>by simp only[aR,xl,hf,az,if_false]at h;exact h
 |g::pre,s,f,r,h,hf=>by
  simp only[br,xl]at h;split at h
  ·rw[aw]at h;exact tn h.2 hf
  ·exact tn h hf
theorem oq:∀{l:List FI},uY b l=true->l.Pairwise fun p q=>(b.getD p.n 0).testBit q.n=false
 |[],_=>List.Pairwise.nil
 |p::r,h=>by simp only[uY,aw,aI]at h;refine eL.2 ⟨fun q y=> ?_,oq h.2⟩;have:=h.1 q y;simpa only[ej,ov]using this
theorem wM{l:List FI}:∀{ps:List t7},jE call sg b l ps c=some cF->∀p∈ps,fO call sg b (jk l p) [] c=some cF
 |[],h,p,hp=>by cases hp
 |[q],h,p,hp=>by rw[bX.1 hp];exact h
 |q::F::r,h,p,hp=>by
  simp only[jE]at h;cases h1:fO call sg b (jk l q) [] c with
  |none=>rw[h1]at h;simp[oP]at h
  |some y=>
   cases h2:jE call sg b l (F::r) c with
   |none=>rw[h1,h2]at h;simp[oP]at h
   |some z=>
    rw[h1,h2]at h;obtain⟨I,E⟩:=qR h;rcases al.1 hp with rfl|hp
    ·rw[h1,E]
    ·exact wM (h2.trans (by rw[<-I,E])) p hp
theorem DD(b7:gT P call){id:Nat}(hl:kf (gM P ops) ops.toList=some (unF its))(hd:drawn ops (unF its)=true)(hm:P.follows .mixedOrders=true)
 (b5:its.all (fun f=>f.i.ok N)=true) {ps:List t7} (Z:Py (Region.before ops).toList its ps=true) {Q:LAe} (hQ:∀a w,M C N cF a w->Q .normal a w) (hM:M C N c a w)
 (h:jE call sg (Region.before ops).toList its ps c=some cF):(Code.region id ops true).wp P Q a w:=by
 simp only[Py,aw,decide_eq_true_eq]at Z;obtain⟨⟨⟨⟨⟨e3,L⟩,c7⟩,a1⟩,b4⟩,hc⟩:=Z;rw[aI]at b5 c7 a1 b4;obtain⟨I,e1,e4⟩:=RL hl hd b5 e3 L (fun f y=>of_decide_eq_true (c7 f y)) a1
 have hO:∀σ∈ps.map (jk its),S4 its (Region.before ops).toList σ:=by
  intro σ hσ;obtain⟨p,hp,rfl⟩:=aT.1 hσ;have h1:=b4 p hp;simp only[aw,decide_eq_true_eq,aI,fI]at h1;obtain⟨⟨⟨⟨d7,b1⟩,d6⟩,W⟩,J⟩:=h1;have d5:=wb L b1
  have E:∀f,f∈jk its p↔f∈its:=by
   intro f;rw[wa];constructor
   ·rintro⟨k,hk,rfl⟩
    obtain⟨g,hg,rfl⟩:=aT.1 (b1 k hk);rw[nU L hg];exact hg
   ·intro y
    exact⟨f.n,d6 f.n (iU y),nU L y⟩
  have F:((jk its p).map FI.n).Nodup:=by rw[d5];exact d7
  refine⟨E,F, ?_,fun pre f r e y g hg hq=> ?_⟩
  ·have h1:(jk its p).Pairwise fun f g=>f.n≠g.n:=by rw[wO,hZ]at F;exact F
   refine((oq J).and h1).imp_of_mem ?_;rintro u v hu hv ⟨h2,h3⟩ e2 d b6;have b2:=(E u).1 hu;have a8:=(E v).1 hv;refine⟨fun hr=> ?_,fun e=>e1 u b2 v a8 h3 d e b6⟩;rw[I.rd v a8 e2 u b2 d b6 hr]at h2;cases h2
  ·rw[e]at W
   rcases Da _ (tn W y) g hg hq with h1|⟨k,hk,h1⟩
   ·exact⟨f,aq ..,h1⟩
   ·exact⟨k,af _ hk,h1⟩
 have z:∀f∈its,(ei ops.size false).getD f.n true=false:=by intro f y;obtain⟨_,_,_,this⟩:=I.item f y;simp[kK,this]
 refine wp_region_any hm ?_;refine GA (its:=its) (b:=(Region.before ops).toList) (cF:=cF) (sg:=sg) (ords:=ps.map (jk its)) b7 I hO hQ ops.size _ c a _ (ps.map (jk its)) its.length ?_ (by simp) ?_ (fun σ hσ=>⟨hσ, ?_⟩) ?_ ?_
 ·have:(un its (ei ops.size false)).length<=its.length:=List.length_filter_le _ _
  omega
 ·intro i o k ho hl _ _
  have hi:i<ops.size:=(dS.1 ho).1;simp[kK,hi]at hl
 ·have O:=hO σ hσ
  obtain⟨p,hp,rfl⟩:=aT.1 hσ;have b3:=wM h p hp;obtain⟨seg,post,p2,e0,k1,k2,k3,k4,k5,k6,k7⟩:=nO (N:=N) (D:=[]) (V:=[]) b3 ⟨fun _ _=>rfl,rfl,rfl,by obtain⟨x,s,_,hS⟩:=hM;exact hS.inv.dom⟩ (fun f y=>I.ok f ((O.mem f).1 y)) (fun f y=>I.self f ((O.mem f).1 y)) O.nx (by simp) (by simp) (by simp)
  have a6:un seg (ei ops.size false)=seg:=by apply iV.2;intro f y;rw[z f ((O.mem f).1 (by rw[k1];exact an.2 (.inl y)))];rfl
  refine⟨seg,post,p2,e0,k1,k3,k4,fun f y _=>k5 f (.inr y),(fun f y hq=>by rw[k2 f y]at hq;cases hq),fun f y=>z f ((O.mem f).1 (by rw[k1];exact an.2 (.inr y))), ?_, ?_⟩
  ·rw[a6];simpa using k6
  ·rw[a6];intro f y;exact k7 f (.inr y)
 ·rw[wN]
  have:(ps.map ((fun σ=>gh (un σ (ei ops.size false)))∘jk its))=ps.map fun p=>gh (jk its p):=by
   apply List.map_congr_left;intro p hp;show gh (un (jk its p) _)=_
   congr 1
   apply iV.2;intro f y;rw[z f (((hO _ (iU hp)).mem f).1 y)];rfl
  rw[this];exact hc
 ·obtain⟨x,s,a7,hS⟩:=hM
  exact⟨x,s,⟨a7.tm,a7.defers,a7.heap.drawn _⟩,hS⟩
end Go.Sy
namespace Go.Sy
variable [aW]
variable {P : Program} {C : Ctx} {x : Sit} {a : Act} {w : World} {N : Nat} {c c' : CSt} {s : St} {T : gR}
def Ex.out:Ex->Exit
 | .n=> .normal
 | .x id=> .exit id
 | .r=> .ret
def EQ(C:Ctx)(N:Nat)(e:Ex)(c':CSt):LAe:=fun h a w=>h=e.out/\M C N c' a w
def vj(P:Program)(T:gR)(n:Nat):Prop:=
 (∀(r:RC)(c:CSt)(e:Ex)(c':CSt),gy T n r c=some (e,c')->∀(code:Code)(C:Ctx)(N:Nat)(a:Act)(w:World),cL P code=r.er->r.ok N=true->M C N c a w->code.wp P (EQ C N e c') a w)/\
 (∀(b:RC)(c:CSt)(e:Ex)(c':CSt),gy T n (.loop b) c=some (e,c')->∀(code:Code)(C:Ctx)(N:Nat)(a:Act)(w:World),cL P code=b.er->b.ok N=true->M C N c a w->Code.rounds P code (EQ C N e c') n a w)
theorem Sj{code:Code}{b:gS}(h:bf P code=some (.loop b)):∃E,code= .loop E/\bf P E=some b:=by
 cases code with
 |loop E=>simp only[bf]at h;obtain⟨L,J,I⟩:=ae.1 h;cases I;exact⟨E,rfl,J⟩
 |region id ops F=>
  simp only[bf]at h;split at h<;>try (cases h;done)
  split at h
  ·rw[aH]at h;cases h.2
  ·cases h
 |seq y z=>simp only[bf]at h;split at h<;>cases h
 |cond c y z=>simp only[bf]at h;split at h<;>cases h
 |block id b=>simp only[bf]at h;obtain⟨_,_,h⟩:=ae.1 h;cases h
 |_=>simp[bf]at h
theorem Gc{code:Code}{id:Nat}{b:gS}(h:bf P code=some (.block id b)):∃E,code= .block id E/\bf P E=some b:=by
 cases code with
 |block id E=>simp only[bf]at h;obtain⟨L,J,I⟩:=ae.1 h;cases I;exact⟨E,rfl,J⟩
 |region id ops F=>
  simp only[bf]at h;split at h<;>try (cases h;done)
  split at h
  ·rw[aH]at h;cases h.2
  ·cases h
 |seq y z=>simp only[bf]at h;split at h<;>cases h
 |cond c y z=>simp only[bf]at h;split at h<;>cases h
 |loop b=>simp only[bf]at h;obtain⟨_,_,h⟩:=ae.1 h;cases h
 |_=>simp[bf]at h
theorem xd2{code:Code}{y z:gS}(h:bf P code=some (.seq y z)):∃E F,code= .seq E F/\bf P E=some y/\bf P F=some z:=by
 cases code with
 |seq E F=>
  simp only[bf]at h;split at h<;>try (cases h;done)
  rename_i O L J hz;cases h;exact⟨E,F,rfl,J,hz⟩
 |region id ops I=>
  simp only[bf]at h;split at h<;>try (cases h;done)
  split at h
  ·rw[aH]at h;cases h.2
  ·cases h
 |cond c y z=>simp only[bf]at h;split at h<;>cases h
 |block id b=>simp only[bf]at h;obtain⟨_,_,h⟩:=ae.1 h;cases h
 |loop b=>simp only[bf]at h;obtain⟨_,_,h⟩:=ae.1 h;cases h
 |_=>simp[bf]at h
theorem Sl{code:Code}{k:Arg}{y z:gS}(h:bf P code=some (.cond k y z)):∃E F I,code= .cond E F I/\bt P 0 E=some k/\bf P F=some y/\bf P I=some z:=by
 cases code with
 |cond E F I=>
  simp only[bf]at h;split at h<;>try (cases h;done)
  rename_i Q Z W J O hz;cases h;exact⟨E,F,I,rfl,J,O,hz⟩
 |region id ops L=>
  simp only[bf]at h;split at h<;>try (cases h;done)
  split at h
  ·rw[aH]at h;cases h.2
  ·cases h
 |seq y z=>simp only[bf]at h;split at h<;>cases h
 |block id b=>simp only[bf]at h;obtain⟨_,_,h⟩:=ae.1 h;cases h
 |loop b=>simp only[bf]at h;obtain⟨_,_,h⟩:=ae.1 h;cases h
 |_=>simp[bf]at h
theorem xd4{code:Code}{l:LAc}(h:bf P code=some (.ops l)):∃id ops,code= .region id ops false/\kf (gM P ops) ops.toList=some l:=by
 cases code with
 |region id ops E=>
  simp only[bf]at h;split at h<;>try (cases h;done)
  rename_i I F;cases E with
  |false=>simp only[az,if_false,ao.injEq,gS.ops.injEq]at h;subst h;exact⟨id,ops,rfl,F⟩
  |true=>simp only[if_true]at h;rw[aH]at h;cases h.2
 |seq y z=>simp only[bf]at h;split at h<;>cases h
 |cond c y z=>simp only[bf]at h;split at h<;>cases h
 |block id b=>simp only[bf]at h;obtain⟨_,_,h⟩:=ae.1 h;cases h
 |loop b=>simp only[bf]at h;obtain⟨_,_,h⟩:=ae.1 h;cases h
 |_=>simp[bf]at h
theorem NL{code:Code}{b I:t7}{l:LAc}(h:bf P code=some (.drw b I l)):∃id ops,code= .region id ops true/\kf (gM P ops) ops.toList=some l/\drawn ops l=true/\P.follows .mixedOrders=true/\b=(Region.before ops).toList/\I=xlc l:=by
 cases code with
 |region id ops E=>
  simp only[bf]at h;split at h<;>try (cases h;done)
  rename_i L J;cases E with
  |false=>simp only[az,if_false,ao.injEq,reduceCtorEq]at h
  |true=>simp only[if_true]at h;rw[aH]at h;obtain⟨F,h⟩:=h;simp only[ao.injEq,gS.drw.injEq]at h;obtain⟨rfl,rfl,rfl⟩:=h;rw[aw]at F;exact⟨id,ops,rfl,J,F.1,F.2,rfl,rfl⟩
 |seq y z=>simp only[bf]at h;split at h<;>cases h
 |cond c y z=>simp only[bf]at h;split at h<;>cases h
 |block id b=>simp only[bf]at h;obtain⟨_,_,h⟩:=ae.1 h;cases h
 |loop b=>simp only[bf]at h;obtain⟨_,_,h⟩:=ae.1 h;cases h
 |_=>simp[bf]at h
theorem Si{code:Code}(h:bf P code=some .skip):code= .skip:=by
 cases code with
 |skip=>rfl
 |region id ops E=>
  simp only[bf]at h;split at h<;>try (cases h;done)
  split at h
  ·rw[aH]at h;cases h.2
  ·cases h
 |seq y z=>simp only[bf]at h;split at h<;>cases h
 |cond c y z=>simp only[bf]at h;split at h<;>cases h
 |block id b=>simp only[bf]at h;obtain⟨_,_,h⟩:=ae.1 h;cases h
 |loop b=>simp only[bf]at h;obtain⟨_,_,h⟩:=ae.1 h;cases h
 |_=>simp[bf]at h
theorem xd3{code:Code}(h:bf P code=some .ret):code= .ret:=by
 cases code with
 |ret=>rfl
 |region id ops E=>
  simp only[bf]at h;split at h<;>try (cases h;done)
  split at h
  ·rw[aH]at h;cases h.2
  ·cases h
 |seq y z=>simp only[bf]at h;split at h<;>cases h
 |cond c y z=>simp only[bf]at h;split at h<;>cases h
 |block id b=>simp only[bf]at h;obtain⟨_,_,h⟩:=ae.1 h;cases h
 |loop b=>simp only[bf]at h;obtain⟨_,_,h⟩:=ae.1 h;cases h
 |_=>simp[bf]at h
theorem Sk{code:Code}{id:Nat}(h:bf P code=some (.exit id)):code= .exit id:=by
 cases code with
 |exit F=>simp only[bf,ao.injEq,gS.exit.injEq]at h;rw[h]
 |region id ops E=>
  simp only[bf]at h;split at h<;>try (cases h;done)
  split at h
  ·rw[aH]at h;cases h.2
  ·cases h
 |seq y z=>simp only[bf]at h;split at h<;>cases h
 |cond c y z=>simp only[bf]at h;split at h<;>cases h
 |block id b=>simp only[bf]at h;obtain⟨_,_,h⟩:=ae.1 h;cases h
 |loop b=>simp only[bf]at h;obtain⟨_,_,h⟩:=ae.1 h;cases h
 |_=>simp[bf]at h
theorem fL{id:Nat}{ops:Array Oper}{y:Bool}{s:gS}(h:cL P (.region id ops y)=s)(E:s≠ .bad):bf P (.region id ops y)=some s:=by
 rw[cL]at h;split at h
 ·rename_i F z;rw[<-h];exact z
 ·exact absurd h.symm E
theorem iO{k:Operand}{y z:Code}{s:gS}(h:cL P (.cond k y z)=s)(E:s≠ .bad):∃a,bt P 0 k=some a/\s= .cond a (cL P y) (cL P z):=by
 rw[cL]at h;split at h
 ·rename_i a F;exact⟨a,F,h.symm⟩
 ·exact absurd h.symm E
theorem Sw{code:Code}{b:gS}(h:cL P code= .loop b):∃E,code= .loop E/\cL P E=b:=by
 cases code with
 |loop E=>rw[cL]at h;cases h;exact⟨E,rfl,rfl⟩
 |region id ops I=>have J:=fL h (by simp);have F:=Sj J;simp at F
 |seq y z=>rw[cL]at h;cases h
 |cond k y z=>obtain⟨a,_,F⟩:=iO h (by simp);cases F
 |block id b=>rw[cL]at h;cases h
 |skip=>rw[cL]at h;cases h
 |exit id=>rw[cL]at h;cases h
 |ret=>rw[cL]at h;cases h
 |_=>simp[cL]at h
theorem Gf{code:Code}{id:Nat}{b:gS}(h:cL P code= .block id b):∃E,code= .block id E/\cL P E=b:=by
 cases code with
 |block id E=>rw[cL]at h;cases h;exact⟨E,rfl,rfl⟩
 |region id ops I=>have J:=fL h (by simp);have F:=Gc J;simp at F
 |seq y z=>rw[cL]at h;cases h
 |cond k y z=>obtain⟨a,_,F⟩:=iO h (by simp);cases F
 |loop b=>rw[cL]at h;cases h
 |skip=>rw[cL]at h;cases h
 |exit id=>rw[cL]at h;cases h
 |ret=>rw[cL]at h;cases h
 |_=>simp[cL]at h
theorem xd5{code:Code}{y z:gS}(h:cL P code= .seq y z):∃E F,code= .seq E F/\cL P E=y/\cL P F=z:=by
 cases code with
 |seq E F=>rw[cL]at h;cases h;exact⟨E,F,rfl,rfl,rfl⟩
 |region id ops J=>have L:=fL h (by simp);have I:=xd2 L;simp at I
 |cond k y z=>obtain⟨a,_,I⟩:=iO h (by simp);cases I
 |block id b=>rw[cL]at h;cases h
 |loop b=>rw[cL]at h;cases h
 |skip=>rw[cL]at h;cases h
 |exit id=>rw[cL]at h;cases h
 |ret=>rw[cL]at h;cases h
 |_=>simp[cL]at h
theorem xd8{code:Code}{k:Arg}{y z:gS}(h:cL P code= .cond k y z):∃F E I,code= .cond F E I/\bt P 0 F=some k/\cL P E=y/\cL P I=z:=by
 cases code with
 |cond F E I=>obtain⟨a,L,J⟩:=iO h (by simp);cases J;exact⟨F,E,I,rfl,L,rfl,rfl⟩
 |region id ops O=>have L:=fL h (by simp);have J:=Sl L;simp at J
 |seq y z=>rw[cL]at h;cases h
 |block id b=>rw[cL]at h;cases h
 |loop b=>rw[cL]at h;cases h
 |skip=>rw[cL]at h;cases h
 |exit id=>rw[cL]at h;cases h
 |ret=>rw[cL]at h;cases h
 |_=>simp[cL]at h
theorem Sv{code:Code}(h:cL P code= .skip):code= .skip:=by
 cases code with
 |skip=>rfl
 |region id ops F=>have I:=fL h (by simp);have E:=Si I;simp at E
 |seq y z=>rw[cL]at h;cases h
 |cond k y z=>obtain⟨a,_,E⟩:=iO h (by simp);cases E
 |block id b=>rw[cL]at h;cases h
 |loop b=>rw[cL]at h;cases h
 |exit id=>rw[cL]at h;cases h
 |ret=>rw[cL]at h;cases h
 |_=>simp[cL]at h
theorem xd6{code:Code}(h:cL P code= .ret):code= .ret:=by
 cases code with
 |ret=>rfl
 |region id ops F=>have I:=fL h (by simp);have E:=xd3 I;simp at E
 |seq y z=>rw[cL]at h;cases h
 |cond k y z=>obtain⟨a,_,E⟩:=iO h (by simp);cases E
 |block id b=>rw[cL]at h;cases h
 |loop b=>rw[cL]at h;cases h
 |skip=>rw[cL]at h;cases h
 |exit id=>rw[cL]at h;cases h
 |_=>simp[cL]at h
theorem Sx{code:Code}{id:Nat}(h:cL P code= .exit id):code= .exit id:=by
 cases code with
 |exit I=>rw[cL]at h;cases h;rfl
 |region id ops F=>have J:=fL h (by simp);have E:=Sk J;simp at E
 |seq y z=>rw[cL]at h;cases h
 |cond k y z=>obtain⟨a,_,E⟩:=iO h (by simp);cases E
 |block id b=>rw[cL]at h;cases h
 |loop b=>rw[cL]at h;cases h
 |skip=>rw[cL]at h;cases h
 |ret=>rw[cL]at h;cases h
 |_=>simp[cL]at h
theorem xd7{code:Code}{l:LAc}(h:cL P code= .ops l):bf P code=some (.ops l):=by
 cases code with
 |region id ops E=>exact fL h (by simp)
 |seq y z=>rw[cL]at h;cases h
 |cond k y z=>obtain⟨a,_,F⟩:=iO h (by simp);cases F
 |block id b=>rw[cL]at h;cases h
 |loop b=>rw[cL]at h;cases h
 |skip=>rw[cL]at h;cases h
 |exit id=>rw[cL]at h;cases h
 |ret=>rw[cL]at h;cases h
 |_=>simp[cL]at h
theorem NM{code:Code}{b E:t7}{l:LAc}(h:cL P code= .drw b E l):bf P code=some (.drw b E l):=by
 cases code with
 |region id ops F=>exact fL h (by simp)
 |seq y z=>rw[cL]at h;cases h
 |cond k y z=>obtain⟨a,_,I⟩:=iO h (by simp);cases I
 |block id b=>rw[cL]at h;cases h
 |loop b=>rw[cL]at h;cases h
 |skip=>rw[cL]at h;cases h
 |exit id=>rw[cL]at h;cases h
 |ret=>rw[cL]at h;cases h
 |_=>simp[cL]at h
theorem vq{n:Nat}(W:vj P T n)(O:gT P (fA T n)){r:RC}{c:CSt}{e:Ex}{c':CSt}(h:eA (gy T n) (fA T n) T.sg r c=some (e,c'))(hl:∀b,r≠ .loop b){code:Code}{C:Ctx}{N:Nat}{a:Act}{w:World}
 (L:cL P code=r.er) (E:r.ok N=true) (I:M C N c a w):code.wp P (EQ C N e c') a w:=by
 cases r with
 |skip=>
  cases h;have:=Sv (by simpa[RC.er]using L);subst this;exact wp_skip ⟨rfl,I⟩
 |ret=>
  cases h;have:=xd6 (by simpa[RC.er]using L);subst this;exact wp_ret ⟨rfl,I⟩
 |exit id=>
  cases h;have:=Sx (by simpa[RC.er]using L);subst this;exact wp_exit ⟨rfl,I⟩
 |ops l=>
  obtain⟨id,ops,rfl,hl'⟩:=xd4 (xd7 (by simpa[RC.er]using L));simp only[eA]at h;cases hs:gA (fA T n) T.sg l c with
  |none=>rw[hs]at h;cases h
  |some c1=>rw[hs]at h;simp only[nrm,qL,ao.injEq,bm.injEq]at h;obtain⟨rfl,rfl⟩:=h;refine wp_region ?_;rw[List.range_eq_range'];exact xL O hl' l ops.size 0 (by omega) (by simp) E I hs fun a w h=>⟨rfl,h⟩
 |flt b ds l J=>
  obtain⟨id,ops,rfl,hl',hdr,hmo,rfl,rfl⟩:=NL (NM (by simpa[RC.er]using L));simp only[RC.ok,aw]at E;simp only[eA]at h;cases hs:fO (fA T n) T.sg (Region.before ops).toList l [] c with
  |none=>rw[hs]at h;cases h
  |some c1=>rw[hs]at h;simp only[nrm,ao.injEq,bm.injEq]at h;obtain⟨rfl,rfl⟩:=h;exact DC O hl' hdr hmo E.1 E.2 (fun a w h=>⟨rfl,M.kill h J⟩) I hs
 |fla b ds l ps J=>
  obtain⟨id,ops,rfl,hl',hdr,hmo,rfl,rfl⟩:=NL (NM (by simpa[RC.er]using L));simp only[RC.ok,aw]at E;simp only[eA]at h;cases hs:jE (fA T n) T.sg (Region.before ops).toList l ps c with
  |none=>rw[hs]at h;cases h
  |some c1=>rw[hs]at h;simp only[nrm,ao.injEq,bm.injEq]at h;obtain⟨rfl,rfl⟩:=h;exact DD O hl' hdr hmo E.1 E.2 (fun a w h=>⟨rfl,M.kill h J⟩) I hs
 |seq y z=>
  obtain⟨y',z',rfl,hy,hz⟩:=xd5 (by simpa[RC.er]using L);simp only[RC.ok,aw]at E;simp only[eA]at h;cases hs:gy T n y c with
  |none=>rw[hs]at h;cases h
  |some p=>
   obtain⟨Z,c1⟩:=p;rw[hs]at h;refine wp_seq (wp_mono (W.1 _ _ _ _ hs y' C N a w hy E.1 I) ?_);rintro e' a' w' ⟨rfl,F⟩;cases Z with
   |n=>exact W.1 _ _ _ _ h z' C N a' w' hz E.2 F
   |x id=>cases h;exact⟨rfl,F⟩
   |r=>cases h;exact⟨rfl,F⟩
 |cond k y z=>
  obtain⟨k',y',z',rfl,hk,hy,hz⟩:=xd8 (by simpa[RC.er]using L);simp only[RC.ok,aw]at E;simp only[eA]at h;unfold cnd at h;split at h<;>try (cases h;done)
  rename_i t ht
  have hv:a.eval k'= .bool t:=by obtain⟨x,s,a1,hS⟩:=I;have Q:=aK a1 hk;rw[hS.ev,ht]at Q;exact Q.bool_inv
  refine wp_cond_split hv (fun e=> ?_) (fun e=> ?_)
  ·subst e
   rw[if_pos rfl]at h;exact W.1 _ _ _ _ h y' C N a w hy E.1 I
  ·subst e
   rw[if_neg (by simp)]at h;exact W.1 _ _ _ _ h z' C N a w hz E.2 I
 |block id b=>
  obtain⟨b',rfl,hb⟩:=Gf (by simpa[RC.er]using L);simp only[eA]at h;cases hs:gy T n b c with
  |none=>rw[hs]at h;cases h
  |some p=>
   obtain⟨Z,c1⟩:=p;rw[hs]at h;refine wp_block (wp_mono (W.1 _ _ _ _ hs b' C N a w hb E I) ?_);rintro e' a' w' ⟨rfl,F⟩;cases Z with
   |n=>cases h;exact⟨rfl,F⟩
   |r=>cases h;exact⟨rfl,F⟩
   |x a6=>
    simp only[blk]at h;simp only[Ex.out,Exit.inBlock];split at h<;>rename_i hid
    ·cases h;rw[if_pos hid];exact⟨rfl,F⟩
    ·cases h;rw[if_neg hid];exact⟨rfl,F⟩
 |loop b=>exact absurd rfl (hl b)
 |bad=>cases h
 |pre ds y=>
  simp only[eA]at h;cases hs:jg c ds with
  |none=>rw[hs]at h;cases h
  |some c1=>rw[hs]at h;exact W.1 _ _ _ _ h code C N a w (by simpa[RC.er]using L) E (kO I hs)
 |post y ds=>
  simp only[eA]at h;cases hs:gy T n y c with
  |none=>rw[hs]at h;cases h
  |some p=>
   obtain⟨Z,c1⟩:=p;rw[hs]at h;refine wp_mono (W.1 _ _ _ _ hs code C N a w (by simpa[RC.er]using L) E I) ?_;rintro e' a' w' ⟨rfl,F⟩;cases Z with
   |n=>
    simp only[psD]at h;split at h
    ·rename_i c2 h2;cases h;exact⟨rfl,kO F h2⟩
    ·cases h
   |x id=>cases h;exact⟨rfl,F⟩
   |r=>cases h;exact⟨rfl,F⟩
theorem xu:vj P T 0:=⟨fun r c e c' h=>by simp[gy]at h,fun b c e c' h=>by simp[gy]at h⟩
theorem xw{n:Nat}(J:vj P T n)(E:gT P (fA T n)):vj P T (n+1):=by
 have O:∀(b:RC)(c:CSt)(e:Ex)(c':CSt),gy T (n+1) (.loop b) c=some (e,c')->∀(code:Code)(C:Ctx)(N:Nat)(a:Act)(w:World),cL P code=b.er->b.ok N=true->M C N c a w->Code.rounds P code (EQ C N e c') (n+1) a w:=by
  intro b c e c' h code C N a w F y I;rw[gy]at h;simp only[eA]at h;rw[rounds_succ];cases hs:gy T n b c with
  |none=>rw[hs]at h;cases h
  |some p=>
   obtain⟨Q,c1⟩:=p;rw[hs]at h;refine wp_mono (J.1 _ _ _ _ hs code C N a w F y I) ?_;rintro e' a' w' ⟨rfl,z⟩;cases Q with
   |n=>exact J.2 _ _ _ _ h code C N a' w' F y z
   |x id=>cases h;exact⟨rfl,z⟩
   |r=>cases h;exact⟨rfl,z⟩
 refine⟨fun r c e c' h code C N a w F y I=> ?_,O⟩
 by_cases L:∃b,r= .loop b
 ·obtain⟨b,rfl⟩:=L
  obtain⟨Z,rfl,W⟩:=Sw (by simpa[RC.er]using F);exact wp_loop_rounds (n+1) (O b c e c' h Z C N a w W y I)
 ·rw[gy]at h
  exact vq J E h (fun b e=>L ⟨b,e⟩) F y I
def xlH(P:Program):ResultVar->RV->Prop
 | .tmp t,.tmp t'=>t=t'
 | .cell t ty,.cell t' n ag=>t=t'/\fZ P ty=some n/\rq P ty=some ag
 |_,_=>False
def DX(P:Program):List ResultVar->List RV->Prop
 |[],[]=>True
 |a::r,b::s=>xlH P a b/\DX P r s
 |_,_=>False
theorem tq(E:Sim N c s):∀{rs:List ResultVar}{Q:List RV}{vs:t6},DX P rs Q->rZ c Q=some vs->∃p,xy P s rs=some (p,vs)/\p
 |[],[],vs,_,h=>by cases h;exact⟨True,rfl,trivial⟩
 |[],_::_,_,h,_=>h.elim
 |_::_,[],_,h,_=>h.elim
 | .tmp t::r,.tmp t'::q,vs,h,hv=>by obtain⟨I,J⟩:=h;have I:t=t':=I;subst I;simp only[rZ]at hv;split at hv<;>cases hv;rename_i F z;obtain⟨p,O,L⟩:=tq E J z;exact⟨p,by simp only[xy,O,E.get],L⟩
 | .cell t ty::r,.cell t' n ag::q,vs,h,hv=>by
  obtain⟨⟨rfl,g1,Z⟩,J⟩:=h;simp only[rZ]at hv;split at hv<;>cases hv;rename_i v F hl z;obtain⟨p,O,L⟩:=tq E J z
  have y:(if(ag||n==1)=true then mY c n ag (c.get t)else none)=some v:=by
   rw[<-hl]
   congr 1
   simp
  split at y
  ·rename_i hc
   obtain⟨p',W,h6⟩:=wi E y;refine⟨p'/\p, ?_,h6,L⟩;simp only[xy,g1,Z,O,E.get];rw[if_pos hc,W]
  ·cases y
 | .tmp _::_,.cell _ _ _::_,_,h,_=>h.1.elim
 | .cell _ _::_,.tmp _::_,_,h,_=>h.1.elim
def Nt(us:LAa):Value:=if h:us.toArray.size=1 then us.toArray[0]else .tuple us.toArray
theorem Nu{vs:t6}{us:LAa}(h:cn x vs us):Rep x (ka vs) (Nt us):=by
 have y:=h.1;unfold Nt
 match vs,us,y with
 |[v],[u],_=>simpa[ka]using h.2 0 (by simp)
 |[],[],_=>simp only[ka];exact .tup _ _ h.1 h.2
 |v1::v2::vs,u1::u2::us,_=>simp only[ka];rw[dif_neg (by simp)];exact .tup _ _ h.1 h.2
theorem dq.sel{ob z:List (Nat×aB)}{tk E:t7}(y:dq C x ob tk w){x2:Sit}(W:x2.G=x.G)(Q:∀p∈z,eu x2 w p.1 p.2/\∃q∈ob,x2.bk p.1=x.bk q.1)(a7:(z.map cI).Nodup)
 (J:∀p∈z,∀q∈z,(x2.bk p.1).1=(x2.bk q.1).1->p.1=q.1) (I:∀t∈E,(x2.τ t).2.1=(x2.τ t).2.2\/∃u∈tk,x2.τ t=x.τ u)
 (a1:∀t∈E,∀u∈E,t≠u->(x2.τ t).2.1=(x2.τ t).2.2\/(x2.τ u).2.1=(x2.τ u).2.2\/∃t'∈tk,∃Z∈tk,t'≠Z/\x2.τ t=x.τ t'/\x2.τ u=x.τ Z) (O:∀i,i<100->x2.bk i=x.bk i):dq C x2 z E w:=by
 refine⟨fun b o v hv=>y.per b o v (by rw[<-W];exact hv),fun b o v hv=>by rw[W];exact y.g0 b o v hv,fun b o v hv=>y.gm b o v (by rw[<-W];exact hv),y.new, ?_,a7,J, ?_, ?_, ?_,y.os,y.tape,y.output,y.size,y.ext,
  fun i hi=>(O i hi).trans (y.pin i hi),y.lay⟩
 ·intro p hp
  obtain⟨h1,q,hq,F⟩:=Q p hp;obtain⟨_,h3,h4⟩:=y.obs q hq;exact⟨h1,by rw[F];exact h3,fun off=>by rw[W,F];exact h4 off⟩
 ·intro t L
  rcases I t L with h|⟨u,hu,h⟩
  ·exact .inl h
  ·have:=y.tks u hu
   unfold iw at this ⊢;rw[h,W];exact this
 ·intro t L p hp
  obtain⟨_,q,hq,F⟩:=Q p hp;rcases I t L with h|⟨u,hu,h⟩
  ·exact .inr h
  ·rw[h,F];exact y.tko u hu q hq
 ·intro t L u hu a6
  rcases a1 t L u hu a6 with h|h|⟨t',ht',Z,hu',hne,h1,F⟩
  ·exact .inr (.inl h)
  ·exact .inr (.inr h)
  ·rw[h1,F];exact y.tkd t' ht' Z hu' hne
theorem fK{p:Nat×aB}:∀{l:List aB}{k:Nat},p∈gH k l↔∃i,i<l.length/\p.1=k+i/\p.2=l.getD i (.rc [])
 |[],k=>by simp[gH]
 |o::r,k=>by
  simp only[gH,al,fK];constructor
  ·rintro(rfl|⟨i,y,z,h⟩)
   ·exact⟨0,by simp,rfl,rfl⟩
   ·exact⟨i+1,by simpa using y,by omega,by simpa using h⟩
  ·rintro⟨i,y,z,h⟩
   cases i with
   |zero=>left;exact Prod.ext (by simpa using z) (by simpa using h)
   |succ i=>exact .inr ⟨i,by simpa using y,by omega,by simpa using h⟩
theorem je:∀(l:List aB)(k:Nat),((gH k l).map cI).Nodup
 |[],_=>by simp[gH]
 |o::r,k=>by simp only[gH,aG,eZ];refine⟨fun h=> ?_,je r (k+1)⟩;obtain⟨p,y,e⟩:=aT.1 h;obtain⟨i,_,z,_⟩:=fK.1 y;omega
theorem CP(n i:Nat)(h:i<n):(lH n).getD i 0=i:=by
 have z:∀n,(lH n).length=n:=by
  intro n;induction n with
  |zero=>rfl
  |succ n y=>simp[lH,y]
 induction n with
 |zero=>omega
 |succ n y=>
  simp only[lH,aa,List.getElem?_append,z]
  by_cases hi:i<n
  ·rw[if_pos hi,<-aa,y hi]
  ·rw[if_neg hi];have:i-n=0:=by omega
   rw[this];simp;omega
theorem DE{keep raw:t7}{k:Nat}{vs:t6}{us:LAa}{q:eg}(hM:aL C x s a w)(hS:Sim N c s)(hk:k<=40)(hv:cn x vs us)(h:R9 keep k (fE c vs (jy raw 0 vs))=some q):
 ∃x',Rep x' q.r (Nt us)/\dq C x' q.os q.tk w/\(∀p∈q.os,p.2.wf=true)/\∀i,i<100->x'.bk i=C.β0 i:=by
 obtain⟨x1,s1,e8,b5,a1⟩:=jR (l:=jy raw 0 vs) hM hS hv;generalize fE c vs (jy raw 0 vs)=z at h b5 a1;obtain⟨c1,b7⟩:=z;simp only at b5 a1;simp only[R9]at h;have hE:=b5.exact e8;cases hb:(decide (k=0)&&(SV.idsL b7).isEmpty&&keep.isEmpty)with
 |true=>rw[hb]at h;simp only[NJ,ao.injEq]at h;subst h;refine⟨x1, ?_,hE.heap.only (by simp) (by simp) (by simp),by simp,fun i hi=>hE.heap.pin i hi⟩;refine Nu ?_;rw[lj];refine⟨by simpa using a1.1,fun i hi=> ?_⟩;rw[aY _ (by rfl)];exact(a1.2 i (by simpa using hi)).bare rfl rfl
 |false=>
  rw[hb]at h;simp only[NJ]at h;generalize hz:kG c1.tk keep 60 0 b7=z at h;obtain⟨b1,E⟩:=z;simp only[Y3]at h;generalize eD c1 60 [] (lH k++SV.idsL b1)=m at h;cases ho:looks c1 m with
  |none=>rw[ho]at h;cases h
  |some a6=>
   rw[ho]at h;simp only[Y2]at h;generalize b3:eS c1.tk (60+E.length) a6=z2 at h;obtain⟨os,I⟩:=z2;simp only[Y1]at h;cases hb2:(pe (SV.idsL b1++gw os) m&&ec m&&ec (cJ (E++I))&&decide (m.take k=lH k)&&(m.drop k).all fun o=>decide (k<=o))with
   |false=>rw[hb2]at h;cases h
   |true=>
    rw[hb2]at h;simp only[Y0,ao.injEq]at h;subst h;simp only[aw,decide_eq_true_eq,aI]at hb2;obtain⟨⟨⟨⟨e0,e7⟩,f2⟩,a8⟩,c7⟩:=hb2;obtain⟨g7,f6⟩:=qJ ho;have a7:=vH e0;have e1:=kb e7;have e3:=kb f2
    have f0:∀n,(lH n).length=n:=by
     intro n;induction n with
     |zero=>rfl
     |succ n ih=>simp[lH,ih]
    have g6:k<=m.length:=by have:=congrArg mq a8;rw[av,f0]at this;omega
    have b4:∀i,i<k->m.getD i 0=i:=by
     intro i hi;have J:(m.take k).getD i 0=m.getD i 0:=by simp only[aa,bG,if_pos hi]
     rw[<-J,a8,CP k i hi]
    have d5:∀i,k<=i->i<m.length->k<=m.getD i 0:=by
     intro i J O;refine c7 _ ?_
     have:m.getD i 0=(m.drop k).getD (i-k) 0:=by simp only[aa,bO];congr 2;omega
     rw[this];exact gE (by rw[aX];omega)
    let τ2:Nat->Nat×Nat×Nat:=fun t=>if 60<=t/\t<60+(E++I).length then Oj x1 ((E++I).getD (t-60) none)else(0,0,0)
    let x2:Sit:=⟨x1.G,x1.bk,τ2⟩
    let x3:Sit:=⟨x1.G,fun i=>if i<100 then x1.bk i else x1.bk (m.getD (i-100) 0),τ2⟩
    have hτ:∀y:Sit,y.τ=τ2->o6 x1 y 60 (E++I):=by
     intro y hy j hj;rw[hy];show(if _ then _ else _)=_;rw[if_pos ⟨by omega,by omega⟩]
     congr 2;omega
    have F:∀i,i<m.length->(m.getD i 0,a6.getD i (.rc []))∈c1.ob:=fun i hi=>iS (f6 i hi)
    have hβ:∀o∈m,x3.bk (iF k m o)=x1.bk o:=by
     intro o ho;unfold iF;split
     ·rename_i g9
      show(if _ then _ else _)=_;rw[if_pos (by omega)]
     ·show(if _ then _ else _)=_
      rw[if_neg (by omega)];have e:100+ij m o-100=ij m o:=by omega
      rw[e,(nH ho).2]
    have d6:=hτ x2 rfl
    have e5:cn x2 b1 us:=by have:=mL (x:=x1) (x1:=x2) rfl rfl (tk:=c1.tk) (own:=keep) (j:=60) (i:=0) a1 (by rw[hz];exact d6.left);rwa[hz]at this
    have g5:Rep x3 ((ka b1).ren (iF k m) id) (Nt us):=by
     refine Rep.renF (x:=x2) (x2:=x3) (fun _ _ _ h=>h) (Nu e5) (fun j hj=>hβ j (a7 j (an.2 (.inl ?_)))) (fun t _=>rfl)
     have e4:∀l:t6,∀j∈(ka l).ids,j∈SV.idsL l:=by
      intro l j hj
      match l with
      |[]=>exact hj
      |[v]=>simpa[ka,SV.idsL]using hj
      |v::u::r=>exact hj
     exact e4 b1 j hj
    obtain⟨b6,Z⟩:=lY (x:=x1) (x1:=x2) (w:=w) rfl rfl (tk:=c1.tk) (obs:=a6) (j:=60+E.length) (f:=fun i=>m.getD i 0)
     (fun i hi=>(hE.heap.obs _ (F i (by omega))).1) (by rw[b3];exact d6.right)
    rw[b3]at b6 Z;simp only at b6 Z
    have f1:∀o∈os,o.wf=true:=by
     intro o e9
     have:=nR (tk:=c1.tk) (obs:=a6) (j:=60+E.length) (fun o h'=>by obtain⟨i,hi,rfl⟩:=bH h';have:=b5.inv.wf _ (F i (by omega));simpa[aa,ab hi]using this) o (by rw[b3];exact e9)
     exact this
    have L:∀p∈gH 0 (fe (iF k m) id (os.take k))++gH (100+k) (fe (iF k m) id (os.drop k)),∃i,i<m.length/\p.1=iF k m (m.getD i 0)/\p.2=(os.getD i (.rc [])).ren (iF k m) id/\os.getD i (.rc [])∈os:=by
     intro p W
     have gd:∀{l:List aB}{i:Nat},i<l.length->(fe (iF k m) id l).getD i (.rc [])=(l.getD i (.rc [])).ren (iF k m) id:=by intro l i hi;rw[gU,aa,aa,aN,ab hi];rfl
     have gm:∀{i:Nat},i<os.length->os.getD i (.rc [])∈os:=fun{i} hi=>by rw[aa,ab hi];exact aU _
     rcases an.1 W with W|W
     ·obtain⟨i,J,O,h3⟩:=fK.1 W
      rw[gU,aC,av]at J;have e:(os.take k).getD i (.rc [])=os.getD i (.rc []):=by simp only[aa,bG,if_pos (show i<k by omega)]
      refine⟨i,by omega, ?_, ?_,gm (by omega)⟩
      ·rw[O,b4 i (by omega)];unfold iF;rw[if_pos (by omega)];omega
      ·rw[h3,gd (by rw[av];omega),e]
     ·obtain⟨i,J,O,h3⟩:=fK.1 W
      rw[gU,aC,aX]at J;have hi:k+i<m.length:=by omega
      have e:(os.drop k).getD i (.rc [])=os.getD (k+i) (.rc []):=by simp only[aa,bO]
      refine⟨k+i,hi, ?_, ?_,gm (by omega)⟩
      ·have h5:=d5 (k+i) (by omega) hi
       have h6:=nH (gE hi);have h7:ij m (m.getD (k+i) 0)=k+i:=ma e1 h6.1 hi h6.2;unfold iF;rw[if_neg (by omega),h7,O];omega
      ·rw[h3,gd (by rw[aX];omega),e]
    have e6:∀t∈cJ (E++I),t∈c1.tk:=by
     intro t Q;rw[gr,an]at Q;rcases Q with Q|Q
     ·exact pd (tk:=c1.tk) (own:=keep) (cs:=b7) (j:=60) (i:=0) t (by rw[hz];exact Q)
     ·exact nS (tk:=c1.tk) (obs:=a6) (j:=60+E.length) t (by rw[b3];exact Q)
    have b2:∀t∈tks 60 (E.length+I.length),(x3.τ t).2.1=(x3.τ t).2.2\/∃u,(E++I).getD (t-60) none=some u/\u∈c1.tk/\x3.τ t=x1.τ u:=by
     intro t Q;obtain⟨J,O⟩:=kp.1 Q;have e:=hτ x3 rfl (t-60) (by rw[ac];omega);rw[show 60+(t-60)=t by omega]at e;cases hu:(E++I).getD (t-60) none with
     |none=>rw[hu]at e;rw[e];exact .inl rfl
     |some u=>rw[hu]at e;exact .inr ⟨u,rfl,e6 u (jp hu),e⟩
    refine⟨x3,g5,hE.heap.sel (x2:=x3) rfl ?_ ?_ ?_ ?_ ?_ ?_, ?_, ?_⟩
    ·intro p W
     obtain⟨i,J,O,h3,h4⟩:=L p W;have d7:=gE J;refine⟨?_,_,F i J,by rw[O];exact hβ _ d7⟩;rw[O,h3];exact(Z i (by omega)).renF (x2:=x3) (fun _ _ _ h=>h) (hβ _ d7) (fun j hj=>hβ j (a7 j (an.2 (.inr (pJ h4 j hj))))) (fun t _=>rfl)
    ·rw[cz,List.nodup_append]
     refine⟨je _ _,je _ _,fun u hu v hv e=> ?_⟩;obtain⟨p,W,rfl⟩:=aT.1 hu;obtain⟨r,hr,rfl⟩:=aT.1 hv;obtain⟨i,J,O,_⟩:=fK.1 W;obtain⟨j,h3,h4,_⟩:=fK.1 hr;rw[gU,aC,av]at J;omega
    ·intro p W r hr e2
     obtain⟨i,J,O,_⟩:=L p W;obtain⟨j,h3,h4,_⟩:=L r hr;rw[O,h4,hβ _ (gE J),hβ _ (gE h3)]at e2;have:=hE.heap.inj _ (F i J) _ (F j h3) e2;simp only at this;rw[O,h4,this]
    ·intro t Q
     rcases b2 t Q with g|⟨u,_,g1,g2⟩
     ·exact .inl g
     ·exact .inr ⟨u,g1,g2⟩
    ·intro t Q u hu g8
     rcases b2 t Q with g|⟨t',g0,g1,g2⟩
     ·exact .inl g
     ·rcases b2 u hu with g|⟨u',k0,k1,k2⟩
      ·exact .inr (.inl g)
      ·refine .inr (.inr ⟨t',g1,u',k1,ot e3 ?_ g0 k0,g2,k2⟩)
       have:=kp.1 Q;have:=kp.1 hu;omega
    ·intro i hi
     show(if _ then _ else _)=_;rw[if_pos hi]
    ·intro p W
     obtain⟨i,J,O,h3,h4⟩:=L p W;rw[h3];exact yz (f1 _ h4)
    ·intro i hi
     show(if _ then _ else _)=_;rw[if_pos hi];exact hE.heap.pin i hi
structure bU(P:Program)(g:Nat)(F:FnC):Prop where
 fn:∃fn,P.funcs[g]? =some fn/\fn.body.map (cL P)=some F.code.er/\fn.ntmps=F.n/\DX P fn.results.toList F.rs
 cb:eX P g=true
 ok:F.code.ok F.n=true
def ni(P:Program)(T:gR):Prop:=∀g b,T.fn g=some b->match b with
 | .code F=>bU P g F
 | .prim f=>∀a_ os k q,f a_ os k=some q->gk P g a_ os k (· =q)
theorem CH(os:List aB):∀o,(idx os).lookup o=jo (gH 0 os) o:=by
 intro o;have E:((idx os).map cI).Nodup:=nW os;have z:=je os 0
 have h:∀p,p∈idx os↔p∈gH 0 os:=by
  intro p;rw[jv,fK];constructor
  ·rintro⟨g1,y⟩;exact⟨p.1,g1,by omega,y⟩
  ·rintro⟨i,g1,y,g3⟩
   have e:p.1=i:=by omega
   rw[e];exact⟨g1,g3⟩
 rw[gY];refine tL (fun v hv=> ?_) (fun v hv=> ?_)
 ·exact jK (p:=(o,v)) z ((h _).1 (iS hv))
 ·exact jK (p:=(o,v)) E ((h _).2 (iS hv))
theorem sA(n:Nat):∀(l:t6)(i:Nat),fo (oN i l) n=if i<=n then l.getD (n-i) .undef else .undef
 |[],i=>by simp[oN,fo]
 |v::r,i=>by
  simp only[oN,fo,sA n r (i+1)]
  by_cases h:i=n
  ·subst h;simp
  ·rw[if_neg h]
   by_cases y:i<=n
   ·rw[if_pos y,if_pos (by omega)]
    obtain⟨k,z⟩:∃k,n-i=k+1:=⟨n-i-1,by omega⟩;rw[z,nt];congr 1;omega
   ·rw[if_neg y,if_neg (by omega)]
theorem ss{p:Nat×SV}:∀{l:t6}{i:Nat},p∈oN i l->p.1<i+l.length
 |v::r,i,h=>by
  simp only[oN]at h;rcases al.1 h with e|e
  ·rw[e];simp
  ·have:=ss e;simp only[ah];omega
theorem vI:∀(l:List aB)(k:Nat),((gH k l).map cI).Pairwise (· < ·)
 |[],_=>by simp[gH]
 |o::r,k=>by simp only[gH,aG,eL];refine⟨fun n hn=> ?_,vI r (k+1)⟩;obtain⟨p,h,rfl⟩:=aT.1 hn;obtain⟨i,_,y,_⟩:=fK.1 h;omega
theorem oz{n:Nat}(hR:vj P T n)(hT:ni P T):gT P (fA T n):=by
 intro g a_ os k q y;unfold fA at y;cases hg:T.fn g with
 |none=>rw[hg]at y;cases y
 |some b=>
  have hb:=hT g b hg;cases b with
  |prim f=>rw[hg]at y;exact hb a_ os k q y
  |code F=>
   rw[hg]at y;simp only[nh,oZ]at y;obtain⟨⟨fn,a6,z,b2,b1⟩,b4,b5⟩:=hb;refine⟨b4, ?_⟩;split at y
   case isFalse=>cases y
   rename_i b7;intro C x w vs b6 c7 a7 L a8 hH E;cases hbd:fn.body with
   |none=>simp[hbd]at z
   |some code=>
    simp only[hbd,di]at z;refine calls_of_wp a6 hbd ?_;have hl:=E.1
    let s0:St:=⟨a_++aJ (F.n-a_.length) .undef,idx os,tks 50 k⟩
    have b3:aL C x s0 {tmps:=(⟨vs⟩:LAb)++ei (fn.ntmps-(⟨vs⟩:LAb).size) undef,defers:=[]} w:=by
     refine⟨?_,rfl,hH⟩
     have e1:((⟨vs⟩:LAb)++ei (fn.ntmps-(⟨vs⟩:LAb).size) undef).toList=vs++aJ (F.n-a_.length) undef:=by simp[b2,hl]
     rw[e1];refine E.append ⟨by simp,fun i hi=> ?_⟩;rw[gi _ _ _ _ (by simpa using hi)];exact .undef _
    have a1:Sim F.n (rJ a_ os k) s0:=by
     refine⟨⟨fun p hp=> ?_,vI os 0,fun p hp=> ?_⟩, ?_,fun o=>CH os o,fun t=>Iff.rfl⟩
     ·have:=ss hp;omega
     ·obtain⟨i,h1,_,h3⟩:=fK.1 hp
      rw[h3,aa,ab h1];exact a8 _ (aU _)
     ·apply List.ext_getElem?
      intro i;show(a_++aJ (F.n-a_.length) SV.undef)[i]? =_;rw[aN];rcases bP i F.n with hi|hi
      ·rw[cM hi]
       have e:(rJ a_ os k).get i=a_.getD i .undef:=by show fo (oN 0 a_) i=_;rw[sA];simp
       simp only[bn,e,List.getElem?_append,List.getElem?_replicate]
       by_cases h:i<a_.length
       ·rw[if_pos h,aa,ab h];rfl
       ·rw[if_neg h,if_pos (by omega),aa,eH (by omega)];rfl
      ·rw[eH (by simp;omega),eH (by simpa using hi)];rfl
    cases hs:gy T n F.code (rJ a_ os k)with
    |none=>rw[hs]at y;cases y
    |some p=>
     obtain⟨e,c1⟩:=p;rw[hs]at y;refine wp_mono (hR.1 _ _ _ _ hs code C F.n _ w (by simpa using z) b5 ⟨x,s0,b3,a1⟩) ?_;rintro e' a' w' ⟨rfl,x1,s1,J,W⟩
     have I:NK F.keep F.raw os.length c1 (rZ c1 F.rs)=some q->a'.defers=[]/\∃v,(results fn a'.tmps).run P w'= .ok v w'/\∃v',∃x':Sit,∃O,Ending.returned v= .returned v'/\O=q/\Rep x' O.r v'/\dq C x' O.os O.tk w'/\(∀p∈O.os,p.2.wf=true)/\∀i,i<os.length->x'.bk i=x.bk i:=by
      intro Z;cases hrc:rZ c1 F.rs with
      |none=>rw[hrc]at Z;cases Z
      |some rv=>
       rw[hrc]at Z;obtain⟨p,h1,h2⟩:=tq (P:=P) W b1 hrc;obtain⟨us,Q,hl⟩:=ri J h1 h2;obtain⟨x',g1,g2,g3,g4⟩:=DE J W L hl Z;refine⟨J.defers,Nt us, ?_,Nt us,x',q,rfl,rfl,g1,g2,g3,fun i hi=> ?_⟩
       ·rw[xx,Array.mapM_eq_mapM_toList]
        simp only[ax,Sem.run_map,Q,ak,aE];rfl
       ·rw[g4 i (by omega)];exact(hH.pin i (by omega)).symm
     cases e with
     |n=>exact I y
     |r=>exact I y
     |x id=>cases y
theorem Ol(h:ni P T):∀n,vj P T n
 |0=>xu
 |n+1=>xw (Ol h n) (oz (Ol h n) h)
theorem p6(h:ni P T):gT P (call T):=by intro g a_ os k q y;obtain⟨n,hn⟩:=pI y;exact oz (Ol h n) h g a_ os k q hn
theorem tR(L:ni P T){g:Nat}{a_:t6}{r:SV}(h:call T g a_ [] 0=some ⟨r,[],[]⟩)(Z:r.toks=[]):Fn P g a_ r:=by obtain⟨W,Q⟩:=p6 L _ _ _ _ _ h;refine⟨W,fun C x w vs J I E hl hH hv=> ?_⟩;refine(Q C x w vs J I (fun b F=>(E b F).imp id (fun⟨i,hi,_⟩=>by simp at hi)) (by simp) (by simp) hH hv).mono ?_;rintro en w' ⟨v,x',q,rfl,rfl,O,y,_,z⟩;exact⟨v,x',r,[],rfl,⟨rfl,rfl⟩,O,by rw[Z];exact y,z⟩
def Ti(P:Program):ResultVar->RV->Bool
 | .tmp t,.tmp t'=>decide (t=t')
 | .cell t ty,.cell t' n ag=>decide (t=t')&&decide (fZ P ty=some n)&&decide (rq P ty=some ag)
 |_,_=>false
def rh(P:Program):List ResultVar->List RV->Bool
 |[],[]=>true
 |a::r,b::s=>Ti P a b&&rh P r s
 |_,_=>false
theorem vM:∀{rs:List ResultVar}{z:List RV},rh P rs z=true->DX P rs z
 |[],[],_=>trivial
 |[],_::_,h=>by cases h
 |_::_,[],h=>by cases h
 |a::r,b::s,h=>by
  simp only[rh,aw]at h;refine⟨?_,vM h.2⟩;have y:=h.1;cases a<;>cases b<;>simp only[Ti,aw,decide_eq_true_eq]at y<;>first|(cases y;done)|skip
  ·exact y
  ·exact⟨y.1.1,y.1.2,y.2⟩
theorem R6{g:Nat}{F:FnC}{fn:Func}(I:P.funcs[g]? =some fn)(z:fn.body.map (cL P)=some F.code.er)(J:fn.ntmps=F.n)(E:rh P fn.results.toList F.rs=true)(h:eX P g=true)(y:F.code.ok F.n=true):bU P g F:=
 ⟨⟨fn,I,z,J,vM E⟩,h,y⟩
end Go.Sy
namespace Go.Sy
variable [aW]
open Go.RowKit Go.ChangeShapes Go.WideShapes
def GW(w:World):GM:=fun b o=>w.cell? ⟨b,o,none⟩
def kH(w:World):Sit:=⟨GW w,fun _=>(0,0),fun _=>(0,0,0)⟩
theorem YU(w:World)(y:Lay (GW w)):dq ⟨w,GW w,fun b=>w.heap.size<=b,fun _=>(0,0)⟩ (kH w) [] [] w where
 per:=fun _ _ _ h=>h
 g0:=fun _ _ _ h=>h
 gm:=fun _ _ _ h=> .inl h
 new:=fun _ h=>h
 obs:=by simp
 nd:=List.nodup_nil
 inj:=by simp
 tks:=by simp
 tko:=by simp
 tkd:=by simp
 os:=rfl
 tape:=rfl
 output:=rfl
 size:=bc _
 ext:=fun _ _=>rfl
 pin:=fun _ _=>rfl
 lay:=y
theorem s5{x:Sit}{b:Bool}{v:Value}(h:Rep x (.bool b) v):v= .bool b:=by
 cases h with
 |dat _ _ h _=>cases h;rfl
theorem oc{P:Program}{f:Nat}{a_:t6}(h:Fn P f a_ (.bool true)){W:World}{vs:LAa}(hv:cn (kH W) a_ vs)(J:Lay (GW W)):
 Calls P f ⟨vs⟩ W fun e z=>e= .returned (.bool true)/\Below W.heap.size W z:=by
 refine(h.2 ⟨W,GW W,fun b=>W.heap.size<=b,fun _=>(0,0)⟩ (kH W) W vs rfl rfl (fun b E=> .inl E) (by simp) (YU W J) hv).mono ?_;rintro e z ⟨v,x',r,F,rfl,⟨rfl,rfl⟩,I,y,_⟩;obtain rfl:=s5 I;exact⟨rfl,y.os,y.tape,y.output,y.size,fun k L=>y.ext k (by simp;omega)⟩
section
variable {H : Type} {enc : TypeId × Value -> H} {P : Program} {w : World} {base : Nat} {sp : Nat -> Bool} {hd : Bool} {r : Reach} {b0 : Nat} {t e : TypeId} {v : Value} {d : DataW H} {ps : List MemPlace}
theorem SS{k:IntKind}(E:P.underlying t=some (.int k))(y:Value.okWide P w r b0 t v)(h:DataW.Trod enc P w base sp hd t v d ps):∃n,k.has n/\Rep (kH w) (.int k n) v:=by obtain⟨n,rfl,_,_,z⟩:=open_int E y h;simp only[Lit.wf,aw,decide_eq_true_eq]at z;exact⟨n,z,.dat _ _ (.int k n) trivial⟩
theorem Gz(z:P.underlying t=some .bool)(y:Value.okWide P w r b0 t v)(h:DataW.Trod enc P w base sp hd t v d ps):∃b,Rep (kH w) (.bool b) v:=by obtain⟨b,rfl,_,_⟩:=open_bool z y h;exact⟨b,.dat _ _ (.bool b) trivial⟩
theorem SR(F:P.underlying t=some .string)(y:Value.okWide P w r b0 t v)(h:DataW.Trod enc P w base sp hd t v d ps):∃l:d9,l.length<=maxLen/\Rep (kH w) (.str l) v:=by obtain⟨s,rfl⟩:=okWide_string F y;obtain⟨z,J⟩:=h;obtain⟨L,E,_,I⟩:=DataW.trod_string F J;simp[Value.cells]at E;subst E;obtain⟨⟨l⟩⟩:=s;exact⟨l,I,.dat _ _ (.str l) trivial⟩
theorem w7{a:Addr}{len cap:Nat}(y:P.underlying t=some (.slice e))(h:Value.okWide P w r b0 t (.slice (some a) len cap)):a.spot=none:=by simp only[Value.okWide,y,Cell.okWide,Cell.ok]at h;exact h.2.2.2.1
theorem GK{n:Int}(h:(Lit.int .u8 n).wf=true):((aQ n.toNat).toNat:Int)=n:=by
 simp only[Lit.wf,IntKind.min,IntKind.max,IntKind.signed,IntKind.bits,aw,decide_eq_true_eq]at h;rw[UInt8.toNat_ofNat'];have:n.toNat<256:=by simp at h;omega
 rw[dF this];simp at h;omega
theorem jD(F:P.underlying t=some (.slice e))(W:P.underlying e=some (.int .u8))(hc:P.cellsOf e=1)(z:Value.okWide P w r b0 t v)(h:DataW.Trod enc P w base sp hd t v d ps):
 ∃l:d9,l.length<=maxLen/\Rep (kH w) (.byt l .no) v:=by
 obtain⟨a0,len,cap,rfl⟩:=okWide_slice F z;obtain⟨I,Z⟩:=h;rcases open_ints F W hc Z with⟨y,_⟩|⟨a,len',cap',zs,y,_,hl,hm,hz,_,hcell,hwf⟩
 ·simp[Value.cells]at y
  obtain⟨rfl,rfl,rfl⟩:=y;exact⟨[],by simp,.dat _ _ (.bytN .no) trivial⟩
 ·simp[Value.cells]at y
  obtain⟨rfl,rfl,rfl⟩:=y;have J:=w7 F z;obtain⟨b,off,O⟩:=a;simp only at J;subst J;have hzl:len<=zs.length:=by rw[hz];split<;>omega
  refine⟨(zs.take len).map fun n=>aQ n.toNat,by simp;omega,.dat _ _ (.byt _ .no b off cap len (by simp;omega) hl (fun i hi=> ?_)) trivial⟩;have L:=hcell i (by omega);have E:i<zs.length:=by omega
  rw[add_plain]at L
  have Q:((zs.take len).map fun n=>aQ n.toNat).getD i 0=aQ (zs.getD i 0).toNat:=by simp[aa,E,hi]
  show w.cell? _=_;rw[L,Q]
  congr 2
  refine(GK (hwf _ ?_)).symm;rw[aa,ab E];exact aU E
end
theorem qE{x:Sit}:cn x [] []:=⟨rfl,by simp⟩
section
variable {H : Type} {enc : TypeId × Value -> H} {P : Program}
theorem FC{f:Func}{s:ChangeSpec}{z fresh h O:Bool}{W Q:World}{args:LAb}{v:Value}{ds gs:List (DataW H)}{before pa pv:List MemPlace}
 (hW:DataW.Whole enc P f.params.toList s.vars z W args.toList ds gs before)
 (J:∀(b:Nat)(sp:Nat->Bool)(hd:Bool),DataW.TrodAll enc P Q b sp hd f.resultTypes.toList (v.resultList f.resultTypes.size) (s.fn H (ds++gs)).results [])
 (E:∀sp:Nat->Bool,(∀p∈before,sp p.block=true)->DataW.TrodAll enc P Q 0 sp true f.params.toList args.toList (s.fn H (ds++gs)).args pa)
 (y:∀sp:Nat->Bool,(∀p∈before,sp p.block=true)->DataW.TrodVars enc P Q sp s.vars (s.fn H (ds++gs)).vars pv)
 (I:before=pa++pv) (hb:Below W.heap.size W Q)
 (a6:∀(j:Nat)(t:TypeId)(r:Value),f.resultTypes[j]? =some t->(v.resultList f.resultTypes.size)[j]? =some r->Value.okWide P Q .any 0 t r):
 s.post enc P f z fresh h O W args v Q:=by
 have a1:=hW.lt;have L:∀p∈before,(fun b=>decide (b<W.heap.size)) p.block=true:=fun p F=>by simpa using a1 p F
 refine⟨ds,gs,before,[],pa,pv,hW,J _ _ _,E _ L,y _ L,World.keptBut_mono (fun p F=>⟨F, ?_⟩) (hb.frame (· ∈before)),fun _=> ?_⟩
 ·rw[I,an]at F
  exact Or.inr F
 ·obtain⟨_,_,_,_,_,hz,hn⟩:=hW
  refine⟨a6,_,_,([]++pa)++pv,⟨[]++pa,pv,trodAll_append (E _ (fun _ _=>rfl)) (J _ _ _),y _ (fun _ _=>rfl),rfl, ?_, ?_⟩, ?_⟩
  ·intro b off F
   have Z:MemPlace.cell b off∈before:=by rw[I];simpa using F
   rw[hb.frozen (p:=⟨b,off,none⟩) (a1 _ Z)];exact hz b off Z
  ·intro ha
   have:=hn ha;rw[I]at this;simpa using this
  ·intro p F _
   rw[I];simpa using F
theorem lI(I:laidOutB P=true){W J:World}(F:Below W.heap.size W J):∀{z:List TypeId}{vs:LAa}{E:List (DataW H)}{p:List MemPlace},(z.all fun t=>P.readableRec t&&decide (t<P.types.size))=true->
 DataW.TrodAll enc P W 0 (fun _=>true) true z vs E p->(∀x∈p,x.block<W.heap.size)->∀sp:Nat->Bool,(∀x∈p,sp x.block=true)->DataW.TrodAll enc P J 0 sp true z vs E p
 |[],_,_,_,_,h,_,_,_=>by obtain⟨rfl,rfl,rfl⟩:=trodAll_nil h;exact trodAll_mk0
 |t::z,_,_,_,hr,h,hlt,sp,hsp=>by obtain⟨v,Z,d,L,a,b,rfl,rfl,rfl,Q,O⟩:=trodAll_cons h;simp only[fV,aw,decide_eq_true_eq]at hr;refine trodAll_cons_mk ?_ (lI I F (by simpa using hr.2) O (fun x y=>hlt x (List.mem_append_right _ y)) sp (fun x y=>hsp x (List.mem_append_right _ y)));exact WideElems.Trod_stays I hr.1.1 hr.1.2 Q (fun x y=>F.same (hlt x (List.mem_append_left _ y))) (fun x y=>hsp x (List.mem_append_left _ y))
theorem qK{f:Func}{s:ChangeSpec}{W W':World}{args:LAb}{z gs:List (DataW H)}{before:List MemPlace}{tb:TypeId}(hl:laidOutB P=true)
 (hr:(f.params.toList.all fun t=>P.readableRec t&&decide (t<P.types.size))=true) (I:f.resultTypes= #[tb]) (J:P.underlying tb=some .bool) (h:s.vars=[])
 (Q:(s.fn H (z++gs)).results=[.lit (.bool true)]) (O:(s.fn H (z++gs)).args=z) (Z:(s.fn H (z++gs)).vars=[])
 (L:DataW.Whole enc P f.params.toList s.vars false W args.toList z gs before) (hb:Below W.heap.size W W'):
 s.post enc P f false true false false W args (.bool true) W':=by
 have E:=L.lt;have y:=L;obtain⟨p,q,hA,hV,rfl,a1,a6⟩:=L;rw[h]at hV;obtain⟨rfl,rfl⟩:=trodVars_none hV;simp only[aZ]at E y a1;refine FC (pa:=p) (pv:=[]) (before:=p) (gs:=[]) y (fun b sp hd=> ?_) (fun sp F=> ?_) (fun sp F=> ?_) (by simp) hb (ok_one I rfl (okWide_bool_mk J _))
 ·rw[Q,I]
  exact trodAll_cons_mk (shut_bool J _) trodAll_mk0
 ·rw[O]
  exact lI hl hb hr hA E sp F
 ·rw[h,Z]
  rfl
end
end Go.Sy
namespace Go.Sy
variable [aW]
open Go.RowKit Go.ChangeShapes Go.WideShapes
variable {P : Program} {C : Ctx} {x : Sit} {w w' : World}
theorem fM.below{b:Nat}{c:LAb}{e:TypeId}{fl fh:Nat}(h:fM w b c e fl fh)(y:Below w.heap.size w w'):fM w' b c e fl fh:=h.of_heap (y.block b h.lt)
theorem dq.below{ob:List (Nat×aB)}{tk:t7}(h:dq C x ob tk w)(y:Below w.heap.size w w'):dq C x ob tk w' where
 per:=fun b o v hv=>by rw[dJ (y.block b (h.ltG hv))];exact h.per b o v hv
 g0:=h.g0
 gm:=h.gm
 new:=h.new
 obs:=fun p F=>by obtain⟨⟨c,e,fl,fh,z,r⟩,q⟩:=h.obs p F;exact⟨⟨c,e,fl,fh,z.below y,r⟩,q⟩
 nd:=h.nd
 inj:=h.inj
 tks:=fun t I=>(h.tks t I).imp id fun⟨⟨c,e,fl,fh,z,r⟩,q⟩=>⟨⟨c,e,fl,fh,z.below y,r⟩,q⟩
 tko:=h.tko
 tkd:=h.tkd
 os:=y.os.trans h.os
 tape:=y.tape.trans h.tape
 output:=y.output.trans h.output
 size:=gf h.size y.size
 ext:=fun b hn=>by
  rcases bP b w.heap.size with E|E
  ·rw[y.block b E];exact h.ext b hn
  ·exact absurd (h.new b (gf h.size E)) hn
 pin:=h.pin
 lay:=h.lay
def p9(w:World)(l:d9)(v:Value):Prop:=
 (l=[]/\∃a,v= .slice a 0 0)\/∃b off n cap,v= .slice (some ⟨b,off,none⟩) n cap/\n=l.length/\∀i,i<n->w.cell? ⟨b,off+i,none⟩=some (.int .u8 (l.getD i 0).toNat)
theorem p8{l:d9}{t:Tok}{v:Value}(h:Rep x (.byt l t) v)(y:∀b o v,x.G b o=some v->w.cell? ⟨b,o,none⟩=some v):p9 w l v:=by
 cases h with
 |dat _ _ h _=>
  cases h with
  |bytN=>exact .inl ⟨rfl,_,rfl⟩
  |bytE=>exact .inl ⟨rfl,_,rfl⟩
  |byt _ _ b off cap n hn z h=>exact .inr ⟨b,off,n,cap,rfl,hn,fun i hi=>y _ _ _ (h i hi)⟩
theorem jG{l:d9}{v:Value}(h:Rep x (.str l) v):v= .string ⟨⟨l⟩⟩:=by
 cases h with
 |dat _ _ h _=>cases h;rfl
theorem Tc{b:UInt8}{v:Value}(h:Rep x (.u8 b) v):v= .int .u8 b.toNat:=by
 cases h with
 |dat _ _ h _=>cases h;rfl
theorem gb{g:Nat}{a_:t6}{r:SV}(y:eX P g=true)
 (h:∀(x:Sit)(w:World)(vs:LAa),cn x a_ vs->(∀b o v,x.G b o=some v->w.cell? ⟨b,o,none⟩=some v)->
  Calls P g ⟨vs⟩ w fun e w'=>∃v,e= .returned v/\Rep x r v/\Below w.heap.size w w'):gk P g a_ [] 0 (· =⟨r,[],[]⟩):=by
 refine⟨y,fun C x w vs Q O L W E z J=>(h x w vs J z.per).mono ?_⟩;rintro e w' ⟨v,rfl,hv,I⟩;exact⟨v,x,_,rfl,rfl,hv,z.below I,fun p F=>by simp at F,fun i hi=>rfl⟩
theorem vv{l:d9}{v:Value}(h:p9 w l v):(Extern.Bytes.bytesOf v).run P w= .ok ⟨⟨l⟩⟩ w:=by
 rcases h with⟨rfl,a,rfl⟩|⟨b,off,n,cap,rfl,hn,hc⟩
 ·cases a<;>rfl
 ·have F:=Lib.run_loadBytesX (P:=P) w (l.map fun c=>(c.toNat:Int)) ⟨b,off,none⟩ .empty (fun j z E=>by
   have y:j<l.length:=by have:=(List.getElem?_eq_some_iff.1 E).1;simpa using this
   have e:(⟨b,off,none⟩:Addr).add j=⟨b,off+j,none⟩:=by unfold Addr.add;split<;>simp_all
   rw[e,hc j (by omega)];simp only[aN,ab y,bn,ao.injEq]at E;rw[aa,ab y,aO,<-E])
  have I:(⟨ByteArray.empty.data++(Lib.bytesOf (l.map fun c=>(c.toNat:Int))).toArray⟩:ByteArray)=⟨⟨l⟩⟩:=by
   apply ByteArray.ext;show(#[]:Array UInt8)++(Lib.bytesOf _).toArray=⟨l⟩
   have:Lib.bytesOf (l.map fun c=>(c.toNat:Int))=l:=by unfold Lib.bytesOf;rw[wN];refine(List.map_congr_left (g:=id) fun c _=> ?_).trans (List.map_id _);simp
   rw[this];simp
  rw[aC,I]at F;rw[hn];exact F
def tQ(l:d9)(c:UInt8):Int:=firstIdx ⟨⟨l⟩⟩ c
theorem vu{l:d9}{u:Value}{c:UInt8}(y:p9 w l u):(Extern.BytealgIndexByte.indexByte #[u,.int .u8 c.toNat]).run P w= .ok (.int .i64 (tQ l c)) w:=by
 have h:=run_indexByte_string (P:=P) ⟨⟨l⟩⟩ c.toNat w
 change Sem.run P (do
  let b<-Extern.Bytes.bytesOf u
  let c'<-Extern.Bytes.asByte (.int .u8 c.toNat)
  match (bQ b.size).find? fun i=>b[i]! ==c' with
  |some i=>pure (goInt i)
  |none=>pure (goInt (-1))) w=_
 change Sem.run P (do
  let b<-Extern.Bytes.bytesOf (.string ⟨⟨l⟩⟩)
  let c'<-Extern.Bytes.asByte (.int .u8 c.toNat)
  match (bQ b.size).find? fun i=>b[i]! ==c' with
  |some i=>pure (goInt i)
  |none=>pure (goInt (-1))) w=_ at h
 have e:(((c.toNat:Nat):Int).toNat.toUInt8)=c:=by simp
 rw[e]at h;simp only[ax,vv y,Result.andThen]at h ⊢;exact h
end Go.Sy
namespace Go.Sy
variable [aW]
structure yh(T T':gR):Prop where
 fn:∀g b,T.fn g=some b->T'.fn g=some b
 sg:T.sg=T'.sg
variable {T T' : gR}
theorem vO(h:yh T T'):∀n,leR (gy T n) (gy T' n)
 |0=>fun _ _ _ h=>by cases h
 |n+1=>fun r c x E=>by
  have z:=vO h n;show eA (gy T' n) (fun g args os k=>nh (gy T' n) (T'.fn g) args os k) T'.sg r c=some x;rw[<-h.sg];refine lZ z ?_ E;intro g a os k q y;simp only at y ⊢;cases hf:T.fn g with
  |none=>rw[hf]at y;cases y
  |some b=>rw[hf]at y;rw[h.fn g b hf];exact iQ z y
theorem RG{α:Type}{g:Nat->Option α}{x:α}(h:lim g=some x):∃n,g n=some x:=by
 unfold lim at h;split at h
 ·exact⟨_,h⟩
 ·cases h
theorem wL(h:yh T T'){g:Nat}{a:t6}{os:List aB}{k:Nat}{q:eg}(y:call T g a os k=some q):call T' g a os k=some q:=by
 obtain⟨n,hn⟩:=RG y;refine p7 (n:=n) ?_;unfold fA at hn ⊢;cases hf:T.fn g with
 |none=>rw[hf]at hn;cases hn
 |some b=>rw[hf]at hn;rw[h.fn g b hf];exact iQ (vO h n) hn
end Go.Sy
namespace Go.Sy
variable [aW]
variable {P : Program} {C : Ctx} {x : Sit} {w w' : World} {ob : List (Nat × aB)} {tk : List Nat}
open Go.RowKit Go.ChangeShapes Go.WideShapes
end Go.Sy
namespace Go.Sy
variable [aW]
open Go.RowKit Go.ChangeShapes Go.WideShapes
variable {P : Program} {C : Ctx} {x : Sit} {w w' : World} {T T' : gR}
def Sit.grow(x:Sit)(w w':World):Sit:=⟨fun b o=>if w.heap.size<=b then w'.cell? ⟨b,o,none⟩else x.G b o,x.bk,x.τ⟩
theorem mc{b o:Nat}{v:Value}(h:w.cell? ⟨b,o,none⟩=some v):b<w.heap.size:=by
 rcases bP b w.heap.size with y|y
 ·exact y
 ·have z:w.heap[b]? =none:=Array.getElem?_eq_none y
  simp only[World.cell?,z]at h;cases h
theorem FZ(y:∀b o v,x.G b o=some v->w.cell? ⟨b,o,none⟩=some v){b o:Nat}{v:Value}(h:x.G b o=some v):(x.grow w w').G b o=some v:=by show(if w.heap.size<=b then _ else _)=_;rw[if_neg (by have:=mc (y _ _ _ h);omega)];exact h
theorem jW{g:Nat}{a_:t6}{r:SV}(F:eX P g=true)
 (h:∀(x:Sit)(w:World)(vs:LAa),cn x a_ vs->(∀b o v,x.G b o=some v->w.cell? ⟨b,o,none⟩=some v)->Lay x.G->
  Calls P g ⟨vs⟩ w fun e w'=>∃v,e= .returned v/\Rep (x.grow w w') r v/\Below w.heap.size w w'):gk P g a_ [] 0 (· =⟨r,[],[]⟩):=by
 refine⟨F,fun C x w vs W Q hm hl J E Z=>(h x w vs Z E.per (Q ▸ E.lay)).mono ?_⟩;rintro e w' ⟨v,rfl,hv,O⟩;have z:=E.below O;refine⟨v,x.grow w w',_,rfl,rfl,hv,⟨?_, ?_, ?_,z.new,by simp,by simp,by simp,by simp,by simp,by simp,z.os,z.tape,z.output,z.size,z.ext,fun i hi=>z.pin i hi,z.lay⟩,fun p L=>by simp at L,fun i hi=>rfl⟩
 ·intro b o u hu
  have y:(if w.heap.size<=b then w'.cell? ⟨b,o,none⟩else x.G b o)=some u:=hu;split at y
  ·exact y
  ·exact z.per _ _ _ y
 ·intro b o u hu
  exact FZ E.per (E.g0 _ _ _ hu)
 ·intro b o u hu
  have y:(if w.heap.size<=b then w'.cell? ⟨b,o,none⟩else x.G b o)=some u:=hu;split at y
  ·rename_i I
   exact .inr (E.new b (by rw[W];exact I))
  ·exact E.gm _ _ _ y
theorem wK(E:ni P T){g:Nat}{a_:t6}{r:SV}(h:call T g a_ [] 0=some ⟨r,[],[]⟩){vs:LAa}(hv:cn (kH w) a_ vs)(J:Lay (GW w)):
 Calls P g ⟨vs⟩ w fun e w'=>∃v x',e= .returned v/\Rep x' r v/\Below w.heap.size w w':=by
 obtain⟨O,I⟩:=p6 E _ _ _ _ _ h;refine(I ⟨w,GW w,fun b=>w.heap.size<=b,fun _=>(0,0)⟩ (kH w) w vs rfl rfl (fun b z=> .inl z) (by simp) (by simp) (YU w J) hv).mono ?_;rintro e w' ⟨v,x',q,rfl,rfl,F,y,_⟩;exact⟨v,x',rfl,F,y.os,y.tape,y.output,y.size,fun k L=>y.ext k (by simp;omega)⟩
def gR.addP(T:gR)(g:Nat)(p:t6->List aB->Nat->Option eg):gR:=⟨fun k=>if k=g then some (.prim p)else T.fn k,T.sg⟩
theorem vG(T:gR){g:Nat}(p:t6->List aB->Nat->Option eg)(h:T.fn g=none):yh T (T.addP g p):=⟨fun k b y=>by show(if k=g then _ else _)=_;rw[if_neg (by rintro rfl;rw[h]at y;cases y)];exact y,rfl⟩
theorem uA(T:gR)(g:Nat)(p:t6->List aB->Nat->Option eg):(T.addP g p).fn g=some (.prim p):=if_pos rfl
theorem Cz(h:ni P T){g:Nat}{p:t6->List aB->Nat->Option eg}(z:∀a_ os k q,p a_ os k=some q->gk P g a_ os k (· =q)):ni P (T.addP g p):=by
 intro k b y
 by_cases e:k=g
 ·subst e
  rw[uA]at y;cases y;exact z
 ·have:T.fn k=some b:=by
   have E:(if k=g then some (FnB.prim p)else T.fn k)=some b:=y;rwa[if_neg e]at E
  exact h k b this
end Go.Sy
namespace Go
open Go.Maps (Keyed)
end Go
namespace Go.Sy
variable [aW]
variable {P : Program} {C : Ctx} {x : Sit} {w w' : World} {ob : List (Nat × aB)} {tk : List Nat}
open Go.RowKit Go.ChangeShapes Go.WideShapes
end Go.Sy
namespace Go.Sy
open Go.RowKit Go.ChangeShapes Go.WideShapes Go.Shelf Go.Lib Go.Proofs
variable {P : Program}
end Go.Sy
namespace Go.Sy
variable [aW]
variable {P : Program} {T : gR} {f : Nat -> Option FnB}
end Go.Sy
