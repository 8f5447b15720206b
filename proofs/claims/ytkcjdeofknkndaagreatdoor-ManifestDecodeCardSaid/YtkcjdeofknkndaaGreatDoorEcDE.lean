/- A sound engine for Go code. No condition. -/
import Derived.Test.YtkcjdeofknkndaaGreatDoorEbDE
import Derived.Below
import Derived.Carry
import Derived.ChangeSlices
import Derived.JoinedCond
import Derived.OpenShut
import Derived.RowKit3
import Derived.SliceStrings
import Derived.Lib.Bytealg
import Derived.Lib.BytesEntry
import Derived.Laws.IdiomCopy
import Derived.Maps.OwnOps
import Derived.Maps.OwnSet
import Derived.Shelf.Spec.SlicesInsertGrow
open Array renaming getD -> jV, getElem?_eq_some_iff -> ec, getElem?_toList -> cZ, length_toList -> aO, replicate -> dR
open Bool renaming and_eq_true -> az, false_eq_true -> aJ, not_eq_true' -> dv, or_eq_true -> fO
open List renaming Nodup -> vJ, Pairwise -> eg, Sublist -> ni, all_cons -> iG, all_eq_true -> aT, append_nil -> bw, cons_append -> bf, contains_eq_mem -> eI, filter_cons -> kS, filter_eq_self -> ij, getD_cons_succ -> cz, getD_eq_getElem?_getD -> aa, getElem?_drop -> br, getElem?_eq_getElem -> ab, getElem?_eq_none -> kf, getElem?_map -> aP, getElem?_range -> cP, getElem?_take -> bJ, getElem_mem -> bx, getElem_of_mem -> bY, length_append -> ac, length_cons -> aA, length_drop -> aI, length_eq_zero_iff -> cA, length_map -> aS, length_take -> aw, map_append -> cV, map_cons -> aE, mem_append -> ak, mem_cons -> al, mem_cons_of_mem -> am, mem_cons_self -> ax, mem_map -> aR, mem_map_of_mem -> ii, mem_range -> jF, mem_singleton -> aZ, nil_append -> aG, nodup_cons -> dU, not_mem_nil -> cC, pairwise_append -> eH, pairwise_cons -> bI, pairwise_iff_getElem -> nY, pairwise_map -> gr, range -> bU, replicate -> ao
open Nat renaming le_refl -> aN, le_trans -> p6, lt_or_ge -> bO, mod_eq_of_lt -> dp
open Option renaming bind_some -> cS, getD_some -> bp, ite_none_right_eq_some -> aF, map_eq_some_iff -> ah, map_some -> bl, some -> aq
open Prod renaming fst -> cM, mk -> bj
open Go.Result renaming andThen_ok -> aj
open Go.Sem renaming run_bind -> ay, run_pure -> aD
open UInt8 renaming ofNat -> gy
set_option linter.unusedVariables false
set_option linter.unusedSimpArgs false
set_option linter.unnecessarySimpa false
set_option linter.unusedSectionVars false
namespace Go.Sy
variable [aX]
variable {P : Program} {C : Ctx} {x : Sit} {a : Act} {w : World} {N : Nat} {c c' : CSt} {s : St} {call : cW} {sg : Nat -> Sig}
abbrev TM:=List (Nat×SV)
structure Uni(d:Option Nat)(F:TM->TM):Prop where
 get:∀tm tm' n,eh tm n=eh tm' n->eh (F tm) n=eh (F tm') n
 dom:∀tm p,p∈F tm->(∃q∈tm,q.1=p.1)\/d=some p.1
theorem Uni.id{d:LAc}:Uni d (fun t=>t):=⟨fun _ _ _ h=>h,fun _ p y=> .inl ⟨p,y,rfl⟩⟩
theorem Uni.comp{d:LAc}{F G:TM->TM}(hF:Uni d F)(z:Uni d G):Uni d (fun t=>G (F t)):=
 ⟨fun _ _ _ h=>z.get _ _ _ (hF.get _ _ _ h),fun tm p L=>by
  rcases z.dom _ _ L with⟨q,E,e⟩|h
  ·rcases hF.dom _ _ E with⟨J,y,I⟩|h
   ·exact .inl ⟨J,y,I.trans e⟩
   ·exact .inr (by rw[h,e])
  ·exact .inr h⟩
theorem Uni.purge{d:LAc}(lo hi:Nat):Uni d (de lo hi):=
 ⟨fun tm tm' n h=>by rw[fW,fW,h],fun tm p z=>by obtain⟨q,y,e⟩:=jq z;exact .inl ⟨q,y,e.symm⟩⟩
theorem Uni.pub{d:LAc}(o:Nat)(obj:aC):Uni d (lB o obj):=
 ⟨fun tm tm' n h=>by rw[ku,ku,h],fun tm p z=>by obtain⟨q,y,e⟩:=pC z;exact .inl ⟨q,y,e.symm⟩⟩
theorem Uni.put(k:Nat)(v:SV):Uni (some k) (fun t=>jn t k v):=
 ⟨fun tm tm' n h=>by
  simp only[mb];rw[h],fun tm p y=>by
  rcases l6 y with e|e
  ·exact .inr (by rw[e])
  ·exact .inl ⟨p,e,rfl⟩⟩
theorem Uni.weak{d:LAc}{F:TM->TM}(h:Uni none F):Uni d F:=⟨h.get,fun tm p y=>by
 rcases h.dom tm p y with h|h
 ·exact .inl h
 ·cases h⟩
theorem Uni.cput(d:LAc)(v:SV):∃F,Uni d F/\∀tm ob tk,CSt.put ⟨tm,ob,tk⟩ d v=⟨F tm,ob,tk⟩:=by
 cases d with
 |none=>exact⟨fun t=>t,Uni.id,fun _ _ _=>rfl⟩
 |some k=>exact⟨fun t=>jn t k v,Uni.put k v,fun _ _ _=>rfl⟩
section
variable {tm tm' : TM} {ob : List (Nat × aC)} {tk : List Nat}
theorem lV:∀(n:Nat)(h l:LAb),dB ⟨tm',ob,tk⟩ n h l=dB ⟨tm,ob,tk⟩ n h l
 |0,_,_=>rfl
 |_+1,_,[]=>rfl
 |n+1,h,o::t=>by
  simp only[dB];show(if _ then _ else match iD ob o with|some y=>_|none=>_)=(if _ then _ else match iD ob o with|some y=>_|none=>_);split
  ·exact lV n _ _
  ·split
   ·exact lV n _ _
   ·exact lV n _ _
theorem va:∀l:LAb,gw ⟨tm',ob,tk⟩ l=gw ⟨tm,ob,tk⟩ l
 |[]=>rfl
 |o::r=>by simp only[gw];rw[va r];rfl
theorem mX(o:Nat)(vs:LAa):∃F y tk' h,Uni none F/\∀tm,CSt.publish ⟨tm,ob,tk⟩ o vs=(⟨F tm,y,tk'⟩,h):=by
 unfold CSt.publish CSt.look;simp only;split
 ·exact⟨_,_,_,_,Uni.pub _ _,fun _=>rfl⟩
 ·exact⟨_,_,_,_,Uni.pub _ _,fun _=>rfl⟩
 ·exact⟨_,_,_,_,Uni.id,fun _=>rfl⟩
theorem oH:∀(l:LAb)(ob:List (Nat×aC))(tk:LAb)(vs:LAa),∃F O tk' h,Uni none F/\∀tm,eD ⟨tm,ob,tk⟩ vs l=(⟨F tm,O,tk'⟩,h)
 |[],ob,tk,vs=>⟨_,_,_,_,Uni.id,fun _=>rfl⟩
 |o::r,ob,tk,vs=>by obtain⟨F,E,y,z,U,Q⟩:=mX (ob:=ob) (tk:=tk) o vs;obtain⟨G,J,I,L,Z,W⟩:=oH r E y z;refine⟨fun t=>G (F t),J,I,L,U.comp Z,fun tm=> ?_⟩;simp only[eD];rw[Q];exact W _
theorem ph(d:LAc)(m mt:LAb)(q:dZ):∃F h tk',Uni d F/\∀tm,jP ⟨tm,ob,tk⟩ d m mt q=⟨F tm,h,tk'⟩:=by unfold jP;dsimp only;obtain⟨F,z,y⟩:=Uni.cput d (q.r.ren (iH (d.getD 0) m) (kj (d.getD 0)));exact⟨_,_,_,(Uni.purge ((d.getD 0+1)*1000) ((d.getD 0+2)*1000)).comp z,fun tm=>y _ _ _⟩
theorem E2{sg:Sig}{d:LAc}{g:Nat}{a_:LAa}:∃F,Uni d F/\∃q:Option (List (Nat×aC)×LAb),∀tm,jH call sg d g (⟨tm,ob,tk⟩,a_)=q.map fun q=>⟨F tm,q.1,q.2⟩:=by
 simp only[jH];generalize jS tk sg.own 50 0 a_=z;obtain⟨h,y⟩:=z;simp only[nm];have L:∀tm,dB ⟨tm,ob,tk⟩ 60 [] (SV.idsL h)=dB ⟨[],ob,tk⟩ 60 [] (SV.idsL h):=fun tm=>lV _ _ _
 have U:∀tm l,gw ⟨tm,ob,tk⟩ l=gw ⟨[],ob,tk⟩ l:=fun tm l=>va l
 simp only[L,U];generalize dB ⟨[],ob,tk⟩ 60 [] (SV.idsL h)=m;cases ho:gw ⟨[],ob,tk⟩ m with
 |none=>exact⟨_,Uni.id,none,fun _=>rfl⟩
 |some I=>
  simp only[ls];generalize dT tk (50+y.length) I=z2;obtain⟨os,E⟩:=z2;simp only[nl];generalize (oe (SV.idsL h++fz os) m&&dr m&&dr (cx (y++E))&&decide (m.length<=40)&&m.all fun o=> !inR (d.getD 0) o)=b;cases b with
  |false=>exact⟨_,Uni.id,none,fun _=>rfl⟩
  |true=>
   simp only[nj];cases hq:call g (SV.renL (gE m) _root_.id h) (dX (gE m) _root_.id os) (y.length+E.length)with
   |none=>exact⟨_,Uni.id,none,fun _=>rfl⟩
   |some q=>
    simp only[oq];generalize q.small=b;cases b with
    |false=>exact⟨_,Uni.id,none,fun _=>rfl⟩
    |true=>obtain⟨F,J,tk',Q,O⟩:=ph (ob:=ob) (tk:=tk) d m (cx (y++E)) q;exact⟨F,Q,some (J,tk'),fun tm=>by simp only[vW,bl,O]⟩
theorem rV{sg:Sig}{d:LAc}{g:Nat}{a_:LAa}:∃F,Uni d F/\∃q:Option (List (Nat×aC)×LAb),∀tm,ig call sg ⟨tm,ob,tk⟩ d g a_=q.map fun q=>⟨F tm,q.1,q.2⟩:=by
 unfold ig;generalize ((SV.idsL a_).isEmpty&&sg.own.isEmpty)=b;cases b with
 |true=>
  simp only[jO];cases hq:call g (SV.bareL a_) [] 0 with
  |none=>exact⟨_,Uni.id,none,fun _=>rfl⟩
  |some q=>
   simp only[mc];generalize q.bare=b;cases b with
   |true=>simp only[nD];obtain⟨F,y,h⟩:=Uni.cput d q.r;exact⟨F,y,some (ob,tk),fun tm=>by rw[h];rfl⟩
   |false=>
    simp only[nD];generalize q.small=b;cases b with
    |false=>exact⟨_,Uni.id,none,fun _=>rfl⟩
    |true=>obtain⟨F,J,tk',y,h⟩:=ph (ob:=ob) (tk:=tk) d [] [] q;exact⟨F,y,some (J,tk'),fun tm=>by simp only[wV,h];rfl⟩
 |false=>simp only[jO];obtain⟨F,I,z,E,y,h⟩:=oH (iP sg.raw 0 a_) ob tk a_;obtain⟨G,O,q,L⟩:=E2 (call:=call) (ob:=I) (tk:=z) (sg:=sg) (d:=d) (g:=g) (a_:=E);exact⟨fun t=>G (F t),y.weak.comp O,q,fun tm=>by rw[h];exact L _⟩
theorem GH:∀(l:List (Nat×aC))(tm:TM)(ob:List (Nat×aC))(tk:LAb),CSt.wr ⟨tm,ob,tk⟩ l=⟨tm,(CSt.wr ⟨[],ob,tk⟩ l).ob,tk⟩
 |[],_,_,_=>rfl
 |p::r,tm,ob,tk=>by simp only[CSt.wr];exact GH r tm _ tk
theorem pf(d:LAc)(e:nW):∃F z tk',Uni d F/\∀tm,CSt.app ⟨tm,ob,tk⟩ d e=⟨F tm,z,tk'⟩:=by
 unfold CSt.app;dsimp only;obtain⟨F,y,h⟩:=Uni.cput d e.val;split
 ·exact⟨_,_,_,(Uni.purge (d.getD 0+100) (d.getD 0+101)).comp y,fun tm=>h _ _ _⟩
 ·exact⟨_,_,_,(Uni.purge (d.getD 0+100) (d.getD 0+101)).comp y,fun tm=>h _ _ _⟩
 ·exact⟨F,(CSt.wr ⟨[],ob,tk⟩ e.wr).ob,tk,y,fun tm=>by rw[GH];exact h _ _ _⟩
theorem xiJ{x:Arg}(h:∀n,x= .t n->eh tm' n=eh tm n):CSt.ev ⟨tm',ob,tk⟩ x=CSt.ev ⟨tm,ob,tk⟩ x:=by
 cases x with
 |t n=>exact h n rfl
 |c v=>rfl
 |f g=>rfl
theorem lQ:∀{l:List Arg},(∀x∈l,CSt.ev ⟨tm',ob,tk⟩ x=CSt.ev ⟨tm,ob,tk⟩ x)->evL ⟨tm',ob,tk⟩ l=evL ⟨tm,ob,tk⟩ l
 |[],_=>rfl
 |x::r,h=>by simp only[evL];rw[h x (ax ..),lQ fun y z=>h y (am _ z)]
theorem Oz:∀{l:List (Nat×Nat×Arg)},(∀x∈l.map (fun p=>p.2.2),CSt.ev ⟨tm',ob,tk⟩ x=CSt.ev ⟨tm,ob,tk⟩ x)->psC ⟨tm',ob,tk⟩ l=psC ⟨tm,ob,tk⟩ l
 |[],_=>rfl
 |(o,n,x)::r,h=>by simp only[psC];rw[h x (by simp),Oz fun y z=>h y (by simp only[aE,al];exact .inr z)]
theorem mm{x:Option Arg}{d:Int}(h:∀y∈x.toList,CSt.ev ⟨tm',ob,tk⟩ y=CSt.ev ⟨tm,ob,tk⟩ y):ko ⟨tm',ob,tk⟩ x d=ko ⟨tm,ob,tk⟩ x d:=by
 cases x with
 |none=>rfl
 |some y=>simp only[ko];rw[h y (by simp)]
theorem zL{z:Nat}{v:SV}{lo hi h:Option Arg}(F:∀y∈lo.toList,CSt.ev ⟨tm',ob,tk⟩ y=CSt.ev ⟨tm,ob,tk⟩ y)(E:∀y∈hi.toList,CSt.ev ⟨tm',ob,tk⟩ y=CSt.ev ⟨tm,ob,tk⟩ y)(I:∀y∈h.toList,CSt.ev ⟨tm',ob,tk⟩ y=CSt.ev ⟨tm,ob,tk⟩ y):
 nR ⟨tm',ob,tk⟩ z v lo hi h=nR ⟨tm,ob,tk⟩ z v lo hi h:=by
 unfold nR;simp only[mm F,mm E,mm I]
theorem zy{o:SOp}(h:∀y∈o.args,CSt.ev ⟨tm',ob,tk⟩ y=CSt.ev ⟨tm,ob,tk⟩ y):cJ ⟨tm',ob,tk⟩ o=cJ ⟨tm,ob,tk⟩ o:=by
 cases o with
 |build z ps=>simp only[SOp.args]at h;simp only[cJ];rw[Oz h]
 |lit F J=>simp only[SOp.args]at h;simp only[cJ];rw[lQ h]
 |litB J=>simp only[SOp.args]at h;simp only[cJ];rw[lQ h]
 |mkfn f a b=>simp only[SOp.args,ak]at h;simp only[cJ];rw[lQ fun y E=>h y (.inl E),lQ fun y E=>h y (.inr E)]
 |slcS x lo hi=>simp only[SOp.args,al,ak]at h;simp only[cJ];rw[h x (.inl rfl)];simp only[mm fun y E=>h y (.inr (.inl E)),mm fun y E=>h y (.inr (.inr E))]
 |slcL F x lo hi I=>simp only[SOp.args,al,ak]at h;simp only[cJ];rw[h x (.inl rfl),zL (fun y E=>h y (.inr (.inl (.inl E)))) (fun y E=>h y (.inr (.inl (.inr E)))) (fun y E=>h y (.inr (.inr E)))]
 |slcA len F x lo hi I=>simp only[SOp.args,al,ak]at h;simp only[cJ];rw[h x (.inl rfl)];simp only[zL (fun y E=>h y (.inr (.inl (.inl E)))) (fun y E=>h y (.inr (.inl (.inr E)))) (fun y E=>h y (.inr (.inr E)))]
 |_=>
  simp only[SOp.args,al,cC,or_false,forall_eq_or_imp,forall_eq,aZ]at h
  first
   |rfl
   |(simp only[cJ];rw[h];rfl)
   |(simp only[cJ];rw[h.1,h.2];rfl)
   |(simp only[cJ,h];done)
   |(simp only[cJ,h.1,h.2];done)
theorem CX{n:Nat}{v:LAa}{u:SV}:kX ⟨tm',ob,tk⟩ n v u=kX ⟨tm,ob,tk⟩ n v u:=by
 cases u<;>rfl
theorem SE{d:LAc}{o:SOp}(h:∀y∈o.args,CSt.ev ⟨tm',ob,tk⟩ y=CSt.ev ⟨tm,ob,tk⟩ y):dQ ⟨tm',ob,tk⟩ d o=dQ ⟨tm,ob,tk⟩ d o:=by
 have I:=zy h;cases o with
 |new ob=>rfl
 |call f a_=>rfl
 |box x=>simp only[SOp.args,al,cC,or_false,forall_eq]at h;simp only[dQ];rw[h]
 |mk z b n m=>simp only[SOp.args,al,cC,or_false,forall_eq_or_imp,forall_eq]at h;simp only[dQ];rw[h.1,h.2]
 |mkB n m=>simp only[SOp.args,al,cC,or_false,forall_eq_or_imp,forall_eq]at h;simp only[dQ];rw[h.1,h.2]
 |store n a x=>simp only[SOp.args,al,cC,or_false,forall_eq_or_imp,forall_eq]at h;simp only[dQ];rw[h.1,h.2,CX]
 |app z b x y=>
  simp only[SOp.args,al,cC,or_false,forall_eq_or_imp,forall_eq]at h;have E:∀v,dN ⟨tm',ob,tk⟩ v=dN ⟨tm,ob,tk⟩ v:=fun v=>by cases v<;>rfl
  have F:∀n v,fE ⟨tm',ob,tk⟩ n v=fE ⟨tm,ob,tk⟩ n v:=fun n v=>by cases v<;>rfl
  have J:∀t:Tok,t.readyC ⟨tm',ob,tk⟩=t.readyC ⟨tm,ob,tk⟩:=fun t=>by cases t<;>rfl
  simp only[dQ];rw[h.1,h.2];simp only[E,F,J]
 |clr z x=>simp only[SOp.args,al,cC,or_false,forall_eq]at h;simp only[dQ];rw[h];rfl
 |cpy L x y=>
  simp only[SOp.args,al,cC,or_false,forall_eq_or_imp,forall_eq]at h;have E:∀v,dN ⟨tm',ob,tk⟩ v=dN ⟨tm,ob,tk⟩ v:=fun v=>by cases v<;>rfl
  have F:∀n v,fE ⟨tm',ob,tk⟩ n v=fE ⟨tm,ob,tk⟩ n v:=fun n v=>by cases v<;>rfl
  simp only[dQ];rw[h.1,h.2];simp only[E,F];rfl
 |pick k a b=>simp only[SOp.args,al,cC,or_false,forall_eq_or_imp,forall_eq]at h;simp only[dQ];rw[h.1,h.2.1,h.2.2]
 |isnil O x=>simp only[SOp.args,al,cC,or_false,forall_eq]at h;simp only[dQ];rw[h]
 |_=>simp only[dQ];rw[I]
theorem FO{d:LAc}{z:LAa}{b:Nat}{y:Arg}{v:SV}(h:CSt.ev ⟨tm',ob,tk⟩ y=CSt.ev ⟨tm,ob,tk⟩ y)(E:rq ⟨tm,ob,tk⟩ d z b y v=some c'):∃F,Uni d F/\c'.tm=F tm/\rq ⟨tm',ob,tk⟩ d z b y v=some ⟨F tm',c'.ob,c'.tk⟩:=by
 have e1:∀v,dN ⟨tm',ob,tk⟩ v=dN ⟨tm,ob,tk⟩ v:=fun v=>by cases v<;>rfl
 have e2:∀n v,fE ⟨tm',ob,tk⟩ n v=fE ⟨tm,ob,tk⟩ n v:=fun n v=>by cases v<;>rfl
 have put:∀(k:Nat)(u:SV),some (CSt.put ⟨tm,ob,tk⟩ (some k) u)=some c'->∃F,Uni (some k) F/\c'.tm=F tm/\some (CSt.put ⟨tm',ob,tk⟩ (some k) u)=some ⟨F tm',c'.ob,c'.tk⟩:=by intro k u hu;obtain⟨F,U,J⟩:=Uni.cput (some k) u;rw[J]at hu;cases hu;exact⟨F,U,rfl,by rw[J]⟩
 have app:∀(k:Nat)(e:nW),some (CSt.app ⟨tm,ob,tk⟩ (some k) e)=some c'->∃F,Uni (some k) F/\c'.tm=F tm/\some (CSt.app ⟨tm',ob,tk⟩ (some k) e)=some ⟨F tm',c'.ob,c'.tk⟩:=by intro k e hu;obtain⟨F,Z,tk',U,J⟩:=pf (ob:=ob) (tk:=tk) (some k) e;rw[J]at hu;cases hu;exact⟨F,U,rfl,by rw[J]⟩
 have L:∀(I k:Nat)(e:nW),some (CSt.app (CSt.purge ⟨tm,ob,tk⟩ I (I+1)) (some k) e)=some c'->∃F,Uni (some k) F/\c'.tm=F tm/\some (CSt.app (CSt.purge ⟨tm',ob,tk⟩ I (I+1)) (some k) e)=some ⟨F tm',c'.ob,c'.tk⟩:=by intro I k e hu;obtain⟨F,Z,tk',U,J⟩:=pf (ob:=bz I (I+1) ob) (tk:=cy I (I+1) tk) (some k) e;simp only[CSt.purge]at hu ⊢;rw[J]at hu;cases hu;exact⟨fun t=>F (de I (I+1) t),(Uni.purge I (I+1)).comp U,rfl,by rw[J]⟩
 unfold rq at E ⊢;split at E<;>try (cases E;done)
 ·split at E<;>try (cases E;done)
  rename_i W;simp only[if_pos W,h,e1];unfold RE at E ⊢;split at E<;>try (cases E;done)
  split at E<;>try (cases E;done)
  rename_i hz;simp only[if_neg hz];split at E
  ·rename_i O;simp only[if_pos O];exact put _ _ E
  ·rename_i O
   simp only[if_neg O];split at E<;>try (cases E;done)
   rename_i Q;simp only[if_pos Q];exact app _ _ E
 ·split at E<;>try (cases E;done)
  rename_i W;simp only[if_pos W,h,e2];unfold RD at E ⊢;split at E<;>try (cases E;done)
  split at E
  ·rename_i O;simp only[if_pos O];exact put _ _ E
  ·rename_i O
   simp only[if_neg O];split at E<;>try (cases E;done)
   rename_i Q;simp only[if_pos Q];exact app _ _ E
 ·simp only[h,e1,e2]
  unfold OC at E ⊢;split at E<;>try (cases E;done)
  ·split at E<;>try (cases E;done)
   rename_i Q;rw[if_pos Q];exact L _ _ _ E
  ·split at E<;>try (cases E;done)
   rename_i Q;rw[if_pos Q];exact L _ _ _ E
theorem Cm{d:LAc}{o:SOp}(h:∀y∈o.args,CSt.ev ⟨tm',ob,tk⟩ y=CSt.ev ⟨tm,ob,tk⟩ y)(E:opC call sg ⟨tm,ob,tk⟩ d o=some c'):∃F,Uni d F/\c'.tm=F tm/\opC call sg ⟨tm',ob,tk⟩ d o=some ⟨F tm',c'.ob,c'.tk⟩:=by
 by_cases W:∃f a_,o= .call f a_
 ·obtain⟨f,a_,rfl⟩:=W
  simp only[opC]at E ⊢;simp only[SOp.args,al]at h;rw[h f (.inl rfl),lQ fun y hy=>h y (.inr hy)];split at E<;>try (cases E;done)
  obtain⟨F,J,q,I⟩:=rV (call:=call) (ob:=ob) (tk:=tk) (sg:=sg ‹_›) (d:=d) (g:= ‹_›) (a_:= ‹LAa› ++evL ⟨tm,ob,tk⟩ a_++ ‹LAa›);rename_i g u v a2;obtain⟨F,J,q,I⟩:=rV (call:=call) (ob:=ob) (tk:=tk) (sg:=sg g) (d:=d) (g:=g) (a_:=u++evL ⟨tm,ob,tk⟩ a_++v);rw[I]at E;cases q with
  |none=>cases E
  |some q=>simp only[bl,aq.injEq]at E;subst E;exact⟨F,J,rfl,by rw[I];rfl⟩
 by_cases Z:∃xs,o= .newB xs
 ·obtain⟨xs,rfl⟩:=Z
  simp only[opC]at E ⊢;simp only[SOp.args]at h;rw[lQ h];unfold nA at E ⊢;split at E<;>try (cases E;done)
  rename_i k l hk;cases E;obtain⟨F,a0,tk',J,I⟩:=pf (ob:=ob) (tk:=tk) (some k) {val:= .psl (k+100) 1 0 l.length (some l.length),new:=some (.bar l)};exact⟨F,J,by rw[I],by simp only[I]⟩
 by_cases Q:∃q,o= .slid q
 ·obtain⟨q,rfl⟩:=Q
  simp only[opC]at E ⊢;rw[h q (by simp[SOp.args])];generalize CSt.ev ⟨tm,ob,tk⟩ q=v at E;unfold qQ at E;split at E<;>try (cases E;done)
  rename_i O off n cap;show ∃F,_/\_/\ot _ d O off n cap (CSt.look ⟨tm',ob,tk⟩ O)=_;have a1:CSt.look ⟨tm',ob,tk⟩ O=CSt.look ⟨tm,ob,tk⟩ O:=rfl;rw[a1];generalize CSt.look ⟨tm,ob,tk⟩ O=u at E;unfold ot at E;split at E<;>try (cases E;done)
  split at E<;>try (cases E;done)
  rename_i l L;cases E;obtain⟨F,a0,tk',a3,J,I⟩:=mX (ob:=ob) (tk:=tk) O [];obtain⟨G,g1,g2⟩:=Uni.cput d (.byt ((l.drop off).take n) .clip);refine⟨fun t=>G (F t),J.weak.comp g1, ?_, ?_⟩
  ·rw[I tm];rw[g2]
  ·simp only[ot,if_pos L,I,g2]
 by_cases U:∃z b q y,o= .appO z b q y
 ·obtain⟨z,b,q,y,rfl⟩:=U
  simp only[opC]at E ⊢;simp only[SOp.args,al,cC,or_false,forall_eq_or_imp,forall_eq]at h;rw[h.1];exact FO h.2 E
 ·have e:∀c,opC call sg c d o=m7 c d (dQ c d o):=by
   intro c;cases o<;>first|rfl|exact absurd ⟨_,_,rfl⟩ W|exact absurd ⟨_,rfl⟩ Z|exact absurd ⟨_,rfl⟩ Q|exact absurd ⟨_,_,_,_,rfl⟩ U
  rw[e]at E;rw[e,SE h];cases he:dQ ⟨tm,ob,tk⟩ d o with
  |none=>rw[he]at E;cases E
  |some q=>rw[he]at E;simp only[m7,aq.injEq]at E ⊢;obtain⟨F,a0,tk',J,I⟩:=pf (ob:=ob) (tk:=tk) d q;rw[I]at E;subst E;exact⟨F,J,rfl,I _⟩
theorem tu{i:SI}(h:∀n∈i.rds,eh tm' n=eh tm n):∀y∈i.op.args,CSt.ev ⟨tm',ob,tk⟩ y=CSt.ev ⟨tm,ob,tk⟩ y:=by
 intro y z;refine xiJ fun n hn=>h n ?_
 subst hn;unfold SI.rds;rw[ak];exact .inl (List.mem_filterMap.2 ⟨_,z,rfl⟩)
theorem xae{i:SI}{g:Nat}{b:Bool}(h:i.g=some (g,b)):g∈i.rds:=by unfold SI.rds;rw[h];simp
theorem CZ{i:SI}(h:∀n∈i.rds,eh tm' n=eh tm n)(y:dA call sg ⟨tm,ob,tk⟩ i=some c'):∃F,Uni i.dst F/\c'.tm=F tm/\dA call sg ⟨tm',ob,tk⟩ i=some ⟨F tm',c'.ob,c'.tk⟩:=by
 unfold dA at y ⊢;split at y
 ·exact Cm (tu h) y
 ·rename_i g b L
  have e:CSt.get ⟨tm',ob,tk⟩ g=CSt.get ⟨tm,ob,tk⟩ g:=h g (xae L);rw[e];split at y<;>try (cases y;done)
  rotate_left
  ·obtain⟨F,E,z⟩:=Uni.cput i.dst (.tup [])
   rw[z]at y;cases y;exact⟨F,E,rfl,by rw[z]⟩
  split at y
  ·rename_i I
   obtain⟨F,E,z,J⟩:=Cm (tu h) y;exact⟨F,E,z,by simp only[if_pos I];exact J⟩
  ·rename_i I
   obtain⟨F,E,z⟩:=Uni.cput i.dst (.tup []);rw[z]at y;cases y;exact⟨F,E,rfl,by simp only[if_neg I];rw[z]⟩
theorem Z5{i:SI}(h:∀n∈i.rds,eh tm' n=eh tm n):qv ⟨tm',ob,tk⟩ i=qv ⟨tm,ob,tk⟩ i:=by
 have z:cX ⟨tm',ob,tk⟩ i.op=cX ⟨tm,ob,tk⟩ i.op:=by
  have y:=tu (ob:=ob) (tk:=tk) h;generalize i.op=o at y;have E:=zy y;cases o with
  |pick k a b=>simp only[SOp.args,al,cC,or_false,forall_eq_or_imp,forall_eq]at y;simp only[cX];rw[y.1,y.2.1,y.2.2]
  |_=>simp only[cX];rw[E]
 unfold qv;cases hg:i.g with
 |none=>exact z
 |some p=>obtain⟨g,b⟩:=p;simp only;have e:CSt.get ⟨tm',ob,tk⟩ g=CSt.get ⟨tm,ob,tk⟩ g:=h g (xae hg);rw[e];cases CSt.get ⟨tm,ob,tk⟩ g<;>first|rfl|(simp only[qg];rw[z])
end
theorem og{i:SI}{v:SV}(h:qv c i=some v):dA call sg c i=some (c.put i.dst v):=by
 have z:∀o,cX c o=some v->opC call sg c i.dst o=some (c.put i.dst v):=by
  intro o y;cases o with
  |pick k a b=>simp only[cX]at y;split at y<;>cases y;rename_i t F;simp only[opC,dQ,F,m7];rfl
  |_=>
   simp only[cX]at y
   first
    |(simp only[cJ]at y;cases y;done)
    |(simp only[opC,dQ];rw[y];rfl)
    |(simp[cJ]at y;done)
 unfold qv at h;unfold dA;generalize i.g=q at h;cases q with
 |none=>exact z _ h
 |some q=>
  obtain⟨g,b⟩:=q;simp only at h ⊢;generalize c.get g=u at h
  by_cases hu:u= .tup []
  ·subst hu
   simp only[qg,aq.injEq]at h;subst h;rfl
  obtain⟨t,rfl⟩:∃t,u= .bool t:=by
   unfold qg at h;split at h
   ·exact⟨_,rfl⟩
   ·exact absurd rfl hu
   ·cases h
  simp only[qg]at h ⊢;split at h
  ·rename_i E;rw[if_pos E];exact z _ h
  ·rename_i E;rw[if_neg E];cases h;rfl
structure Apx(N:Nat)(D:List Nat)(c p:CSt):Prop where
 get:∀n,n∉D->c.get n=p.get n
 ob:c.ob=p.ob
 tk:c.tk=p.tk
 dom:∀q∈p.tm,q.1<N
theorem Apx.step{D:LAb}{p p1:CSt}{i:SI}(h:Apx N D c p)(hi:i.ok N=true)(J:∀n∈i.rds,n∉D)(O:dA call sg p i=some p1):∃c1,dA call sg c i=some c1/\Apx N D c1 p1:=by
 obtain⟨tm',U,tk'⟩:=c;obtain⟨tm,ob,tk⟩:=p;have I:=h.ob;have E:=h.tk;simp only at I E;subst I;subst E;obtain⟨F,k1,k2,L⟩:=CZ (tm':=tm') (fun n hn=>h.get n (J n hn)) O;refine⟨_,L,⟨fun n hn=> ?_,rfl,rfl,fun q z=> ?_⟩⟩
 ·show eh (F tm') n=eh p1.tm n
  rw[k2];exact k1.get _ _ _ (h.get n hn)
 ·rw[k2]at z
  rcases k1.dom _ _ z with⟨Q,y,e⟩|e
  ·rw[<-e];exact h.dom Q y
  ·unfold SI.ok at hi
   rw[e]at hi;simpa using hi
theorem Apx.qv{D:LAb}{p:CSt}{i:SI}(h:Apx N D c p)(E:∀n∈i.rds,n∉D):qv c i=qv p i:=by obtain⟨tm',F,tk'⟩:=c;obtain⟨tm,ob,tk⟩:=p;have z:=h.ob;have y:=h.tk;simp only at z y;subst z;subst y;exact Z5 fun n hn=>h.get n (E n hn)
theorem Apx.put{D:LAb}{p:CSt}{d:Nat}{v:SV}(h:Apx N D c p)(hd:d<N):Apx N (d::D) c (p.put (some d) v):=by
 refine⟨fun n hn=> ?_,h.ob,h.tk,fun q y=> ?_⟩
 ·simp only[al,not_or]at hn
  rw[gI,if_neg hn.1];exact h.get n hn.2
 ·rcases l6 y with e|e
  ·rw[e];exact hd
  ·exact h.dom q e
theorem Oy{p:CSt}{d:Nat}{v:SV}{i:SI}(h:d∉i.rds):Sy.qv (p.put (some d) v) i=Sy.qv p i:=by
 obtain⟨tm,ob,tk⟩:=p;refine Z5 (tm:=tm) (tm':=jn tm d v) fun n hn=> ?_
 rw[mb,if_neg (by intro e;subst e;exact h hn)]
theorem pO{α:Type}{p:Prop}{v u:α}(h:gdP p v=some u):p/\v=u:=by
 unfold gdP at h;split at h
 ·rename_i y;exact⟨y,by simpa using h⟩
 ·cases h
theorem pU{m:Nat}{p:CSt}{f:FI}:∀{l:List FI},sV m p l->f∈l->m.testBit f.n=true\/qv p f.i=some (p.get (f.i.dst.getD 0))
 |g::r,h,hf=>by
  rcases al.1 hf with rfl|hf
  ·rcases h.1 with y|y
   ·left
    rw[Nat.testBit_eq_decide_div_mod_eq];simpa using y
   ·exact .inr y
  ·exact pU h.2 hf
def Nx(g q:FI):Prop:=q.q=true->∀d,q.i.dst=some d->d∉g.i.rds/\g.i.dst≠some d
def xf(q:FI):Prop:=q.q=true->∃d,q.i.dst=some d/\d∉q.i.rds
def dOf(f:FI):Nat:=f.i.dst.getD 0
theorem mG{b:LAb}{cF:CSt}:∀{r ps V:List FI}{p:CSt}{D:LAb},eT call sg b r ps p=some cF->Apx N D c p->(∀f∈r,f.i.ok N=true)->(∀f∈r,xf f)->r.Pairwise Nx->(∀g∈V,∀f∈r,Nx g f)->
 (∀g∈V,∃d,g.i.dst=some d)->(∀g∈V,qv p g.i=some (p.get (dOf g)))->∃seg post F E,r=seg++post/\(∀f∈seg,f.q=true)/\(post=[]\/∃f r',post=f::r'/\f.q=false)/\eT call sg b post E F=some cF/\
  (∀f,f∈ps\/f∈seg->f∈E)/\Apx N (seg.map dOf++D) c F/\∀g,g∈V\/g∈seg->qv F g.i=some (F.get (dOf g))
 |[],ps,V,p,D,h,hA,_,_,_,_,_,hV=>⟨[],[],p,ps,rfl,by simp,.inl rfl,h,by simp,by simpa using hA,by simpa using hV⟩
 |f::r,ps,V,p,D,h,hA,hok,hself,hpw,hVr,hVd,hV=>by
  obtain⟨n,q,i⟩:=f;cases q with
  |false=>exact⟨[],⟨n,false,i⟩::r,p,ps,rfl,by simp,.inr ⟨_,_,rfl,rfl⟩,h,by simp,by simpa using hA,by simpa using hV⟩
  |true=>
   simp only[eT]at h;cases hq:qv p i with
   |none=>rw[hq]at h;simp[vj]at h
   |some v=>
    rw[hq]at h;simp only[vj]at h;obtain⟨d,hd,J⟩:=hself _ (ax ..) rfl;simp only at hd J
    have U:d<N:=by have:=hok _ (ax ..);unfold SI.ok at this;simp only[hd]at this;simpa using this
    rw[hd]at h;rw[bI]at hpw
    have O:∀g:FI,(∃e,g.i.dst=some e)->g.i.dst≠some d->(p.put (some d) v).get (dOf g)=p.get (dOf g):=by
     rintro g ⟨e,W⟩ L;have I:dOf g=e:=by unfold dOf;rw[W];rfl
     rw[I,gI,if_neg];intro e2;rw[W,e2]at L;exact L rfl
    obtain⟨seg,post,F,E,k1,k2,k3,k4,k5,Q,k7⟩:=mG (V:=⟨n,true,i⟩::V) h (hA.put U) (fun f z=>hok f (am _ z)) (fun f z=>hself f (am _ z)) hpw.2
     (by
      intro g y f z;rcases al.1 y with rfl|y
      ·exact hpw.1 f z
      ·exact hVr g y f (am _ z))
     (by
      intro g y;rcases al.1 y with rfl|y
      ·exact⟨d,hd⟩
      ·exact hVd g y)
     (by
      intro g y;rcases al.1 y with rfl|y
      ·have I:dOf ⟨n,true,i⟩=d:=by unfold dOf;simp only[hd];rfl
       rw[I,Oy J,gI,if_pos rfl];exact hq
      ·obtain⟨h1,Z⟩:=hVr g y _ (ax ..) rfl d hd
       rw[Oy h1,O g (hVd g y) Z];exact hV g y)
    refine⟨⟨n,true,i⟩::seg,post,F,E,by rw[k1];rfl, ?_,k3,k4, ?_, ?_, ?_⟩
    ·intro f z
     rcases al.1 z with rfl|z
     ·rfl
     ·exact k2 f z
    ·intro f z
     refine k5 f ?_;rcases z with z|z
     ·exact .inl (am _ z)
     ·rcases al.1 z with rfl|z
      ·exact .inl (ax ..)
      ·exact .inr z
    ·have I:dOf ⟨n,true,i⟩=d:=by unfold dOf;simp only[hd];rfl
     refine⟨fun m hm=>Q.get m (fun h=>hm ?_),Q.ob,Q.tk,Q.dom⟩;simp only[aE,I,bf,al,ak]at h ⊢;rcases h with h|h|h
     ·exact .inr (.inl h)
     ·exact .inl h
     ·exact .inr (.inr h)
    ·intro g y
     refine k7 g ?_;rcases y with y|y
     ·exact .inl (am _ y)
     ·rcases al.1 y with rfl|y
      ·exact .inl (ax ..)
      ·exact .inr y
section
variable {ops : Array Oper} {its : List FI} {b : List Nat}
def un(its:List FI)(listed:Array Bool):List FI:=its.filter fun f=> !listed.getD f.n true
theorem cQ{listed:Array Bool}{f:FI}:f∈un its listed↔f∈its/\listed.getD f.n true=false:=by simp[un]
structure pn(call:cW)(sg:Nat->Sig)(N:Nat)(b:List Nat)(its:List FI)(cF:CSt)(listed:Array Bool)(c:CSt):Prop where
 ex:∃pre post p ps,its=pre++post/\(post=[]\/∃f r,post=f::r/\f.q=false)/\eT call sg b post ps p=some cF/\(∀f∈pre,f.q=true->f∈ps)/\
  (∀f∈pre,f.q=false->listed.getD f.n true=true)/\(∀f∈post,listed.getD f.n true=false)/\
  Apx N ((un pre listed).map dOf) c p/\∀f∈un pre listed,qv p f.i=some (p.get (dOf f))
theorem wQ(b8:fZ P call){cF:CSt}
 (W:∀f∈its,∃o,ops[f.n]? =some o/\fT P ops o=some f.i.er/\f.n<ops.size) (e8:∀j,j<ops.size->∃f∈its,f.n=j) (c4:∀f∈its,∀g∈its,f.n=g.n->f=g)
 (a9:∀(i:Nat)(o:Oper),ops[i]? =some o->∀e∈o.after,Region.binds .any e=true->e.on<i)
 (f6:∀(i:Nat)(o:Oper)(k:Nat),ops[i]? =some o->k<ops.size->(b.getD i 0).testBit k=true->∃e∈o.after,Region.binds .any e=true/\(e.on=k\/(b.getD e.on 0).testBit k=true))
 (b5:∀f∈its,f.i.ok N=true) (a2:∀f∈its,xf f) (g6:its.Pairwise Nx)
 (i4:∀q∈its,q.q=true->∀p∈its,∀d,q.i.dst=some d->d∈p.i.rds->(b.getD p.n 0).testBit q.n=true)
 (d5:∀pre f r,its=pre++f::r->f.q=false->∀g∈r,∃h∈f::r,(b.getD g.n 0).testBit h.n=true)
 (l5:∀f∈its,∀g∈its,f.n≠g.n->∀d,f.i.dst=some d->g.i.dst≠some d) {Q:LBb} (hQ:∀a w,M C N cF a w->Q .normal a w):
 ∀(a6:Nat)(listed:Array Bool)(c:CSt)(a:Act)(w:World),(un its listed).length<=a6->listed.size=ops.size->
  (∀(i:Nat)(o:Oper)(k:Nat),ops[i]? =some o->listed.getD i true=true->k<ops.size->(b.getD i 0).testBit k=true->listed.getD k true=true)->
  pn call sg N b its cF listed c->M C N c a w->wpAny P .any ops Q a6 listed a w:=by
 classical
 have f2:∀(listed:Array Bool),listed.size=ops.size->∀k,k<ops.size->listed.getD k false=listed.getD k true:=by intro listed hs k hk;simp[jV,hs,hk]
 have done:∀(listed:Array Bool)(c:CSt)(a:Act)(w:World),un its listed=[]->pn call sg N b its cF listed c->M C N c a w->Region.ready .any ops listed=[]/\Q .normal a w:=by
  intro listed c a w h0 hS hM;constructor
  ·rw[List.eq_nil_iff_forall_not_mem]
   intro j hj;obtain⟨h1,o,h2,h3⟩:=mem_ready.1 hj;have j9:j<ops.size:=(ec.1 h2).1;obtain⟨I,O,rfl⟩:=e8 j j9;have:I∈un its listed:=cQ.2 ⟨O,h1⟩;rw[h0]at this;cases this
  ·obtain⟨pre,post,p,ps,e,hp,E,_,_,e7,hA,_⟩:=hS.ex
   have j3:post=[]:=by
    cases post with
    |nil=>rfl
    |cons f r=>have:f∈un its listed:=cQ.2 ⟨by rw[e];simp,e7 f (ax ..)⟩;rw[h0]at this;cases this
   subst j3;simp only[eT,aq.injEq]at E;subst E;have hD:un pre listed=[]:=by rw[<-h0,e,bw]
   rw[hD]at hA;refine hQ a w ?_;obtain⟨x,s,k9,e6⟩:=hM;refine M.slots (c:=c) ⟨x,s,k9,e6⟩ ⟨hA.dom,by rw[<-hA.ob];exact e6.inv.so,by rw[<-hA.ob];exact e6.inv.wf⟩ hA.ob.symm hA.tk.symm (fun i=> .inl (hA.get i (by simp)).symm)
 intro a6;induction a6 with
 |zero=>intro listed c a w U hs e0 hS hM;exact done listed c a w (cA.1 (by omega)) hS hM
 |succ a6 ih=>
  intro listed c a w U hs e0 hS hM;constructor
  ·intro g8
   by_cases h0:un its listed=[]
   ·exact(done listed c a w h0 hS hM).2
   ·exfalso
    have hp:∃n,∃f∈un its listed,f.n=n:=by
     cases hc:un its listed with
     |nil=>exact absurd hc h0
     |cons f r=>exact⟨_,f,ax ..,rfl⟩
    obtain⟨n,⟨f,j7,l2⟩,f7⟩:=xab _ hp;obtain⟨h1,h2⟩:=cQ.1 j7;obtain⟨o,h3,_,h4⟩:=W f h1
    have:f.n∈Region.ready .any ops listed:=by refine mem_ready.2 ⟨h2,o,h3,fun e he hb=> ?_⟩;have a5:=a9 f.n o h3 e he hb;rw[f2 listed hs _ (by omega),<-Bool.not_eq_false];intro j1;obtain⟨g,F,g5⟩:=e8 e.on (by omega);have:=f7 e.on ⟨g,cQ.2 ⟨F,by rw[g5];exact j1⟩,g5⟩;omega
    rw[g8]at this;cases this
  ·intro i k0
   obtain⟨h1,o,h2,h3⟩:=mem_ready.1 k0;have g4:i<ops.size:=(ec.1 h2).1;obtain⟨I,O,rfl⟩:=e8 i g4;obtain⟨o',g1,c3,_⟩:=W I O;rw[h2]at g1;cases g1
   have a3:∀k,k<ops.size->(b.getD I.n 0).testBit k=true->listed.getD k true=true:=by
    intro k hk hb;obtain⟨e,he,g2,k8⟩:=f6 I.n o k h2 hk hb;have d9:=h3 e he g2;have i1:=a9 I.n o h2 e he g2;rw[f2 listed hs _ (by omega)]at d9;rcases k8 with h|h
    ·rw[<-h];exact d9
    ·exact e0 e.on (ops[e.on]'(by omega)) k (by simp) d9 hk h
   have l0:(un its (listed.setIfInBounds I.n true)).length<(un its listed).length:=by
    have e1:un its (listed.setIfInBounds I.n true)=(un its listed).filter fun q=> !decide (q.n=I.n):=by
     simp only[un,List.filter_filter];apply List.filter_congr;intro q hq;rw[gG (by omega)]
     by_cases h:q.n=I.n<;>simp[h]
    rw[e1];refine List.length_filter_lt_length_iff_exists.2 ⟨I,cQ.2 ⟨O,h1⟩,by simp⟩
   have c6:∀(i:Nat)(o:Oper)(k:Nat),ops[i]? =some o->(listed.setIfInBounds I.n true).getD i true=true->k<ops.size->(b.getD i 0).testBit k=true->(listed.setIfInBounds I.n true).getD k true=true:=by
    intro i2 o2 h8 i3 e3 f1 g7;rw[gG (by omega)]at e3 ⊢;split
    ·rfl
    ·split at e3
     ·rename_i e1
      subst e1;exact a3 h8 f1 g7
     ·exact e0 i2 o2 h8 i3 e3 f1 g7
   have l4:∀g∈its,listed.getD g.n true=true->g≠I:=by intro g _ F e;subst e;rw[h1]at F;cases F
   have L:∀g∈its,(listed.setIfInBounds I.n true).getD g.n true=if g=I then true else listed.getD g.n true:=by
    intro g F;rw[gG (by omega)]
    by_cases h:g=I
    ·subst h;simp
    ·rw[if_neg (fun e=>h (c4 g F I O e)),if_neg h]
   obtain⟨pre,post,p,ps,e,a8,E,d7,a1,J,hA,hV⟩:=hS.ex;have y:∀g∈pre,g∈its:=fun g F=>by rw[e];exact ak.2 (.inl F)
   have z:∀g∈post,g∈its:=fun g F=>by rw[e];exact ak.2 (.inr F)
   have d3:∀n∈I.i.rds,n∉(un pre listed).map dOf:=by
    intro n hn hm;obtain⟨g,F,a7⟩:=aR.1 hm;obtain⟨a0,Z⟩:=cQ.1 F
    have e9:g.q=true:=by
     cases hq:g.q with
     |true=>rfl
     |false=>rw[a1 g a0 hq]at Z;cases Z
    obtain⟨d,hd,_⟩:=a2 g (y g a0) e9;have j4:d=n:=by unfold dOf at a7;rw[hd]at a7;exact a7
    subst j4;have:=i4 g (y g a0) e9 I O d hd hn;obtain⟨_,_,_,a5⟩:=W g (y g a0);rw[a3 g.n a5 this]at Z;cases Z
   by_cases b2:I∈pre
   ·
    have hq:I.q=true:=by
     cases hq:I.q with
     |true=>rfl
     |false=>rw[a1 I b2 hq]at h1;cases h1
    have j5:I∈un pre listed:=cQ.2 ⟨b2,h1⟩;have hv:=hV I j5;rw[<-hA.qv d3]at hv;obtain⟨d,hd,l8⟩:=a2 I O hq;have g9:dOf I=d:=by unfold dOf;rw[hd];rfl
    refine gk b8 hM (b5 I O) h2 c3 (og (call:=call) (sg:=sg) hv) fun a' w' d6=> ?_
    refine ih _ _ a' w' (by omega) (by simpa using hs) c6 ⟨pre,post,p,ps,e,a8,E,d7, ?_, ?_, ?_, ?_⟩ d6
    ·intro f U a4
     rw[L f (y f U)];split
     ·rfl
     ·exact a1 f U a4
    ·intro f U
     rw[L f (z f U),if_neg]
     ·exact J f U
     ·intro e2
      subst e2
      have f9:its.Pairwise fun f g=>f.n≠g.n\/f=g:=List.pairwise_of_forall_mem_list (fun f U g F=>by
       by_cases h:f.n=g.n
       ·exact .inr (c4 f U g F h)
       ·exact .inl h)
      have h5:=g6;rw[e]at h5;have h6:=(eH.1 h5).2.2 f b2 f U hq d hd;exact h6.2 hd
    ·refine⟨fun n hn=> ?_, ?_, ?_,hA.dom⟩
     ·rw[hd,gI]
      split
      ·rename_i e2;rw[e2,g9]
      ·rename_i f9
       refine hA.get n fun hm=>hn ?_
       obtain⟨g,F,a7⟩:=aR.1 hm;obtain⟨a0,Z⟩:=cQ.1 F;refine aR.2 ⟨g,cQ.2 ⟨a0, ?_⟩,a7⟩;rw[L g (y g a0),if_neg]
       ·exact Z
       ·intro e2;subst e2;rw[g9]at a7;exact f9 a7.symm
     ·cases I.i.dst<;>exact hA.ob
     ·cases I.i.dst<;>exact hA.tk
    ·intro f U
     obtain⟨h9,b7⟩:=cQ.1 U;refine hV f (cQ.2 ⟨h9, ?_⟩);rw[L f (y f h9)]at b7;split at b7
     ·cases b7
     ·exact b7
   ·
    have b3:I∈post:=by rw[e]at O;exact(ak.1 O).resolve_left b2
    obtain⟨f0,r,b6,e4⟩:∃f r,post=f::r/\f.q=false:=by
     rcases a8 with h|h
     ·subst h;cases b3
     ·exact h
    have f4:I=f0:=by
     rw[b6]at b3;rcases al.1 b3 with h|h
     ·exact h
     ·exfalso
      obtain⟨g,F,e5⟩:=d5 pre f0 r (by rw[e,b6]) e4 I h;have b4:g∈post:=by rw[b6];exact F
      obtain⟨_,_,_,a5⟩:=W g (z g b4);have:=a3 g.n a5 e5;rw[J g b4]at this;cases this
    subst f4;subst b6;obtain⟨n,q,i⟩:=I;simp only at e4;subst e4;simp only[eT]at E;cases hs1:dA call sg p i with
    |none=>rw[hs1]at E;simp[qE]at E
    |some p1=>
     rw[hs1]at E;simp only[qE]at E;cases F:gdP (sV (b.getD n 0) p1 ps) p1 with
     |none=>rw[F]at E;simp[qF]at E
     |some l1=>
      rw[F]at E;simp only[qF]at E;obtain⟨i0,rfl⟩:=pO F;obtain⟨c1,j6,j8⟩:=hA.step (b5 _ O) d3 hs1;refine gk b8 hM (b5 _ O) h2 c3 j6 fun a' w' d6=> ?_
      have c7:∀g∈un pre listed,g.q=true:=by
       intro g F;obtain⟨a0,Z⟩:=cQ.1 F;cases hq:g.q with
       |true=>rfl
       |false=>rw[a1 g a0 hq]at Z;cases Z
      have d4:=g6;rw[e]at d4;have g3:=eH.1 d4
      obtain⟨seg,d8,p2,j2,k1,k2,k3,k4,k5,k6,k7⟩:=mG (V:=un pre listed) E j8 (fun f U=>b5 f (z f (am _ U))) (fun f U=>a2 f (z f (am _ U)))
       (bI.1 g3.2.1).2 (fun g F f U=>g3.2.2 g (cQ.1 F).1 f (am _ U))
       (fun g F=>by obtain⟨d,hd,_⟩:=a2 g (y g (cQ.1 F).1) (c7 g F);exact⟨d,hd⟩)
       (fun g F=>by
        obtain⟨a0,Z⟩:=cQ.1 F;rcases pU i0 (d7 g a0 (c7 g F))with h|h
        ·obtain⟨_,_,_,a5⟩:=W g (y g a0)
         rw[a3 g.n a5 h]at Z;cases Z
        ·exact h)
      have f3:un (pre++⟨n,false,i⟩::seg) (listed.setIfInBounds n true)=un pre listed++seg:=by
       unfold un;rw[List.filter_append,kS];have e1:(listed.setIfInBounds n true).getD n true=true:=by rw[gG (by rw[hs];exact g4)];simp
       simp only[e1,Bool.not_true,aJ,if_false]
       congr 1
       ·apply List.filter_congr
        intro g F;have:=L g (y g F);simp only at this;rw[this,if_neg];intro e2;subst e2;exact b2 F
       ·apply ij.2
        intro g F;have b4:g∈⟨n,false,i⟩::r:=by rw[k1];exact am _ (ak.2 (.inl F))
        have:=L g (z g b4);simp only at this;rw[this,if_neg]
        ·rw[J g b4];rfl
        ·intro e2;subst e2;have:=k2 _ F;cases this
      refine ih _ _ a' w' (by omega) (by simpa using hs) c6 ⟨pre++⟨n,false,i⟩::seg,d8,p2,j2,by rw[e,k1];simp,k3,k4, ?_, ?_, ?_, ?_, ?_⟩ d6
      ·intro f U a4
       rcases ak.1 U with h|h
       ·exact k5 f (.inl (d7 f h a4))
       ·rcases al.1 h with rfl|h
        ·cases a4
        ·exact k5 f (.inr h)
      ·intro f U a4
       rcases ak.1 U with h|h
       ·rw[L f (y f h)]
        split
        ·rfl
        ·exact a1 f h a4
       ·rcases al.1 h with rfl|h
        ·rw[L _ O,if_pos rfl]
        ·rw[k2 f h]at a4;cases a4
      ·intro f U
       have h7:f∈⟨n,false,i⟩::r:=by rw[k1];exact am _ (ak.2 (.inr U))
       rw[L f (z f h7),if_neg]
       ·exact J f h7
       ·intro e2
        subst e2;obtain⟨g,F,e5⟩:=d5 pre ⟨n,false,i⟩ r e rfl ⟨n,false,i⟩ (by rw[k1];exact ak.2 (.inr U));obtain⟨_,_,_,a5⟩:=W g (z g F);have:=a3 g.n a5 e5;rw[J g F]at this;cases this
      ·rw[f3,cV]
       refine⟨fun m hm=>k6.get m (fun h=>hm ?_),k6.ob,k6.tk,k6.dom⟩;rw[ak]at h ⊢;exact h.symm
      ·rw[f3]
       intro f U;exact k7 f (ak.1 U)
end
theorem rJ{f:FI}(l:List FI)(h:(l.map FI.n).Nodup)(y:f∈l):Eu l f.n=f.i.er:=by
 induction l with
 |nil=>cases y
 |cons g r z=>
  simp only[aE,dU]at h;simp only[Eu];rcases al.1 y with rfl|y
  ·rw[if_pos rfl]
  ·rw[if_neg,z h.2 y]
   intro e;apply h.1;rw[e];exact ii y
theorem Fj{b:LAb}{s:Nat}(l:List FI):nq b (some s) l=true->∀g∈l,(b.getD g.n 0).testBit s=true\/∃h∈l,(b.getD g.n 0).testBit h.n=true:=by
 induction l generalizing s with
 |nil=>intro _ g y;cases y
 |cons f r E=>
  intro h g y;simp only[nq]at h;split at h
  ·simp only[az,m6]at h
   rcases al.1 y with rfl|y
   ·exact .inl h.1
   ·rcases E h.2 g y with z|⟨k,hk,z⟩
    ·exact .inl z
    ·exact .inr ⟨k,am _ hk,z⟩
  ·simp only[az,m6]at h
   rcases al.1 y with rfl|y
   ·exact .inl h.1
   ·rcases E h.2 g y with z|⟨k,hk,z⟩
    ·exact .inr ⟨f,ax ..,z⟩
    ·exact .inr ⟨k,am _ hk,z⟩
theorem xD{b:LAb}:∀{pre:List FI}{s:LAc}{f:FI}{r:List FI},nq b s (pre++f::r)=true->f.q=false->nq b (some f.n) r=true
 |[],s,f,r,h,hf=>by simp only[aG,nq,hf,aJ,if_false,az]at h;exact h.2
 |g::pre,s,f,r,h,hf=>by
  simp only[bf,nq]at h;split at h
  ·rw[az]at h;exact xD h.2 hf
  ·rw[az]at h;exact xD h.2 hf
theorem oI{b:LAb}:∀{l:List FI},oJ b l=true->l.Pairwise fun p q=>(b.getD p.n 0).testBit q.n=false
 |[],_=>eg.nil
 |p::r,h=>by simp only[oJ,az,aT]at h;refine bI.2 ⟨fun q y=> ?_,oI h.2⟩;have:=h.1 q y;simp only[OB,az,dv,m6]at this;exact this.1
theorem DK(b3:fZ P call){id:Nat}{ops:Array Oper}{its:List FI}(hl:js (fT P ops) ops.toList=some (unF its))(hd:drawn ops (unF its)=true)(hm:P.follows .mixedOrders=true)
 (a8:its.all (fun f=>f.i.ok N)=true) (a5:PN (Region.before ops).toList its=true) {cF:CSt} {Q:LBb} (hQ:∀a w,M C N cF a w->Q .normal a w) (hM:M C N c a w)
 (h:eT call sg (Region.before ops).toList its [] c=some cF):(Code.region id ops true).wp P Q a w:=by
 simp only[PN,az,decide_eq_true_eq,aT]at a5;obtain⟨⟨⟨⟨⟨a4,a0⟩,W⟩,O⟩,L⟩,c7⟩:=a5;simp only[Se,aT,fO,dv]at W;rw[aT]at a8;obtain⟨b7,b6⟩:=eF hl;have d5:(unF its).length=its.length:=by simp[unF]
 have e1:its.length=ops.size:=by rw[<-d5,b7,aO]
 have a6:∀f∈its,(unF its).getD f.n ⟨none,none,.lenC 0⟩=f.i.er:=by intro f y;have:=L f y;rw[aa];simp only[unF,aP,cP this,bl,bp];exact rJ _ O y
 simp only[drawn,az,decide_eq_true_eq]at hd;obtain⟨⟨hc,ht⟩,a1⟩:=hd
 have a7:∀f∈its,∃o,ops[f.n]? =some o/\fT P ops o=some f.i.er/\f.n<ops.size:=by
  intro f y;have d9:=L f y;have b8:f.n<ops.toList.length:=by rw[aO];omega
  refine⟨ops.toList[f.n],by rw[<-cZ,ab b8], ?_,by omega⟩;have z:=b6 f.n b8 (by omega);rw[z]
  congr 1
  have E:=a6 f y;rwa[aa,ab (by omega),bp]at E
 have b4:∀f∈its,∀g∈its,f.n=g.n->f=g:=by
  intro f y g hg e;have:its.Pairwise fun f g=>f.n≠g.n:=by rw[vJ,gr]at O;exact O
  rw[nY]at this;obtain⟨i,hi,rfl⟩:=List.mem_iff_getElem.1 y;obtain⟨j,hj,rfl⟩:=List.mem_iff_getElem.1 hg;rcases Nat.lt_trichotomy i j with h|h|h
  ·exact absurd e (this i j hi hj h)
  ·subst h;rfl
  ·exact absurd e.symm (this j i hj hi h)
 have c3:∀f∈its,∀g∈its,f.n≠g.n->∀d,f.i.dst=some d->g.i.dst≠some d:=by
  have a3:∀f∈its,∀g∈its,f.n<g.n->∀d,f.i.dst=some d->g.i.dst≠some d:=by
   intro f y g hg c4 d z E
   have b2:(unF its).Pairwise fun u v=>∀d,u.dst=some d->v.dst≠some d:=by rw[vJ,List.pairwise_filterMap]at a1;refine a1.imp ?_;intro u v d3 d hu hv;exact d3 d hu d hv rfl
   rw[nY]at b2;have e0:=L f y;have d7:=L g hg
   have g1:(unF its)[f.n]'(by omega)=f.i.er:=by have:=a6 f y;rwa[aa,ab (by omega),bp]at this
   have g2:(unF its)[g.n]'(by omega)=g.i.er:=by have:=a6 g hg;rwa[aa,ab (by omega),bp]at this
   exact b2 f.n g.n (by omega) (by omega) c4 d (by rw[g1];exact z) (by rw[g2];exact E)
  intro f y g hg d8 d z E;rcases bO f.n g.n with h|h
  ·exact a3 f y g hg h d z E
  ·exact a3 g hg f y (by omega) d E z
 have F:∀(i:Nat)(o:Oper),ops[i]? =some o->(∀e∈o.after,Region.binds .any e=true->e.on<i)/\
  ∀k,k<ops.size->((Region.before ops).toList.getD i 0).testBit k=true->∃e∈o.after,Region.binds .any e=true/\(e.on=k\/((Region.before ops).toList.getD e.on 0).testBit k=true):=by
  intro i o ho;unfold pY at hc;rw[aT]at hc;have hi:i<ops.size:=(ec.1 ho).1
  have z:=hc (o,i) (by rw[List.mem_zipIdx_iff_getElem?];simpa using ho)
  simp only[az,Array.all_eq_true_iff_forall_mem,aT,fO,dv,decide_eq_true_eq]at z;refine⟨fun e he hb=>(z.1 e he).resolve_left (by simp[hb]),fun k hk hb=> ?_⟩;have E:=(z.2 k (jF.2 hk)).resolve_left (by simp only[hb];simp);obtain⟨_,h3⟩:=E;rw[<-Array.any_toList,List.any_eq_true]at h3;obtain⟨e,he,h4⟩:=h3;rw[Array.mem_toList_iff]at he;simp only[az,fO,beq_iff_eq]at h4;exact⟨e,he,h4.1,h4.2⟩
 have hq:∀q∈its,q.q=true->∃d,q.i.dst=some d/\∀p∈its,d∈p.i.rds->((Region.before ops).toList.getD p.n 0).testBit q.n=true/\p.n≠q.n:=by
  intro q hq U;have z:=(W q hq).resolve_left (by rw[U];simp);cases hd:q.i.dst with
  |none=>rw[hd]at z;cases z
  |some d=>
   rw[hd]at z;simp only[aT,fO,dv,az,decide_eq_true_eq,m6]at z;refine⟨d,rfl,fun p hp hr=> ?_⟩;rcases z p hp with E|E
   ·rw[eI]at E;simp only[decide_eq_false_iff_not]at E;exact absurd hr E
   ·exact E
 have J:∀f∈its,xf f:=by intro f y W;obtain⟨d,hd,z⟩:=hq f y W;exact⟨d,hd,fun h=>(z f y h).2 rfl⟩
 have b5:∀q∈its,q.q=true->∀p∈its,∀d,q.i.dst=some d->d∈p.i.rds->((Region.before ops).toList.getD p.n 0).testBit q.n=true:=by intro q Z U p hp d hd hr;obtain⟨d',d4,z⟩:=hq q Z U;rw[d4]at hd;cases hd;exact(z p hp hr).1
 have c6:its.Pairwise Nx:=by
  have z:its.Pairwise fun f g=>f.n≠g.n:=by rw[vJ,gr]at O;exact O
  refine((oI a0).and z).imp_of_mem ?_;rintro p q hp Z ⟨E,h3⟩ U d hd;refine⟨fun hr=> ?_,fun e=>c3 p hp q Z h3 d e hd⟩;rw[b5 q Z U p hp d hd hr]at E;cases E
 obtain⟨seg,post,p2,d6,k1,k2,k3,k4,k5,k6,k7⟩:=mG (N:=N) (D:=[]) (V:=[]) h ⟨fun _ _=>rfl,rfl,rfl,by obtain⟨x,s,_,hS⟩:=hM;exact hS.inv.dom⟩ (fun f y=>a8 f y) J c6 (by simp) (by simp) (by simp)
 have I:∀f∈its,(dR ops.size false).getD f.n true=false:=by
  intro f y;have:=L f y;have:f.n<ops.size:=by omega
  simp[jV,this]
 have a2:un seg (dR ops.size false)=seg:=by apply ij.2;intro f y;rw[I f (by rw[k1];exact ak.2 (.inl y))];rfl
 refine wp_region_any hm ?_
 refine wQ (its:=its) (b:=(Region.before ops).toList) (cF:=cF) (sg:=sg) b3 a7 (fun j hj=> ?_) b4 (fun i o ho=>(F i o ho).1) (fun i o k ho hk hb=>(F i o ho).2 k hk hb) (fun f y=>a8 f y) J c6 b5
  (fun pre f r e y g hg=> ?_) c3 hQ ops.size _ c a _ ?_ (by simp) ?_ ⟨seg,post,p2,d6,k1,k3,k4,fun f y _=>k5 f (.inr y),(fun f y hq=>by rw[k2 f y]at hq;cases hq),fun f y=>I f (by rw[k1];exact ak.2 (.inr y)), ?_, ?_⟩ ?_
 ·have:=c7 j (jF.2 (by omega))
  rw[eI]at this;simp only[decide_eq_true_eq]at this;obtain⟨f,y,e⟩:=aR.1 this;exact⟨f,y,e⟩
 ·rw[e]at a4
  rcases Fj _ (xD a4 y) g hg with z|⟨k,hk,z⟩
  ·exact⟨f,ax ..,z⟩
  ·exact⟨k,am _ hk,z⟩
 ·have:(un its (dR ops.size false)).length<=its.length:=List.length_filter_le _ _
  omega
 ·intro i o k ho hl _ _
  have hi:i<ops.size:=(ec.1 ho).1;simp[jV,hi]at hl
 ·rw[a2];simpa using k6
 ·rw[a2];intro f y;exact k7 f (.inr y)
 ·obtain⟨x,s,a9,hS⟩:=hM
  exact⟨x,s,⟨a9.tm,a9.defers,a9.heap.drawn _⟩,hS⟩
end Go.Sy
namespace Go.Sy
variable [aX]
variable {P : Program} {C : Ctx} {x : Sit} {a : Act} {w : World} {N : Nat} {c c' : CSt} {s : St} {call : cW} {sg : Nat -> Sig}
variable {ops : Array Oper} {its σ : List FI} {b : List Nat} {cF : CSt} {listed : Array Bool}
structure O2(P:Program)(N:Nat)(ops:Array Oper)(its:List FI)(b:List Nat):Prop where
 item:∀f∈its,∃o,ops[f.n]? =some o/\fT P ops o=some f.i.er/\f.n<ops.size
 ex:∀j,j<ops.size->∃f∈its,f.n=j
 inj:∀f∈its,∀g∈its,f.n=g.n->f=g
 back:∀(i:Nat)(o:Oper),ops[i]? =some o->∀e∈o.after,Region.binds .any e=true->e.on<i
 bit:∀(i:Nat)(o:Oper)(k:Nat),ops[i]? =some o->k<ops.size->(b.getD i 0).testBit k=true->∃e∈o.after,Region.binds .any e=true/\(e.on=k\/(b.getD e.on 0).testBit k=true)
 ok:∀f∈its,f.i.ok N=true
 self:∀f∈its,xf f
 rd:∀q∈its,q.q=true->∀p∈its,∀d,q.i.dst=some d->d∈p.i.rds->(b.getD p.n 0).testBit q.n=true
structure Tj(its:List FI)(b:List Nat)(σ:List FI):Prop where
 mem:∀f,f∈σ↔f∈its
 nd:(σ.map FI.n).Nodup
 nx:σ.Pairwise Nx
 seg:∀pre f r,σ=pre++f::r->f.q=false->∀g∈r,g.q=true->∃h∈f::r,(b.getD g.n 0).testBit h.n=true
open Classical in
theorem zN(F:listed.size=ops.size){y g:FI}(I:O2 P N ops its b)(z:y∈its)(E:g∈its)(hi:y.n<ops.size):(listed.setIfInBounds y.n true).getD g.n true=if g=y then true else listed.getD g.n true:=by
 rw[gG (by omega)]
 by_cases h:g=y
 ·subst h;simp
 ·rw[if_neg (fun e=>h (I.inj g E y z e)),if_neg h]
theorem Cw(I:O2 P N ops its b)(O:Tj its b σ){pre:List FI}{Q:FI}(U:Q∈its)(h:∀g∈pre,g∈its)(E:∀f∈pre,f.q=false->listed.getD f.n true=true)
 (L:∀k,k<ops.size->(b.getD Q.n 0).testBit k=true->listed.getD k true=true):∀n∈Q.i.rds,n∉(un pre listed).map dOf:=by
 intro n hn hm;obtain⟨g,hg,F⟩:=aR.1 hm;obtain⟨z,y⟩:=cQ.1 hg
 have J:g.q=true:=by
  cases hq:g.q with
  |true=>rfl
  |false=>rw[E g z hq]at y;cases y
 obtain⟨d,hd,_⟩:=I.self g (h g z) J;have W:d=n:=by unfold dOf at F;rw[hd]at F;exact F
 subst W;have:=I.rd g (h g z) J Q U d hd hn;obtain⟨_,_,_,Z⟩:=I.item g (h g z);rw[L g.n Z this]at y;cases y
theorem zG(hs:listed.size=ops.size)(I:O2 P N ops its b)(O:Tj its b σ)(hS:pn call sg N b σ cF listed c){z:FI}(Q:z∈its)(h1:listed.getD z.n true=false)(hq:z.q=true)
 (a0:∀k,k<ops.size->(b.getD z.n 0).testBit k=true->listed.getD k true=true):
 ∃v,qv c z.i=some v/\pn call sg N b σ cF (listed.setIfInBounds z.n true) (c.put z.i.dst v):=by
 classical
 obtain⟨_,_,_,b5⟩:=I.item z Q;have F:∀g∈its,(listed.setIfInBounds z.n true).getD g.n true=if g=z then true else listed.getD g.n true:=fun g W=>zN hs I Q W b5
 obtain⟨pre,post,p,ps,e,L,a4,b6,U,J,hA,hV⟩:=hS.ex;have y:∀g∈pre,g∈its:=fun g W=>(O.mem g).1 (by rw[e];exact ak.2 (.inl W))
 have E:∀g∈post,g∈its:=fun g W=>(O.mem g).1 (by rw[e];exact ak.2 (.inr W))
 have a8:=Cw (listed:=listed) I O Q y U a0
 have a2:z∈pre:=by
  have h2:=(O.mem z).2 Q;rw[e]at h2;rcases ak.1 h2 with h3|h3
  ·exact h3
  ·exfalso
   rcases L with h4|⟨f0,r,h4,hf0⟩
   ·rw[h4]at h3;cases h3
   ·have h5:z∈r:=by
     rw[h4]at h3;rcases al.1 h3 with h|h
     ·rw[h,hf0]at hq;cases hq
     ·exact h
    obtain⟨g,W,b7⟩:=O.seg pre f0 r (by rw[e,h4]) hf0 z h5 hq;have a6:g∈post:=by rw[h4];exact W
    obtain⟨_,_,_,b8⟩:=I.item g (E g a6);have:=a0 g.n b8 b7;rw[J g a6]at this;cases this
 have b4:z∈un pre listed:=cQ.2 ⟨a2,h1⟩;have hv:=hV z b4;rw[<-hA.qv a8]at hv;obtain⟨d,hd,c3⟩:=I.self z Q hq;have a5:dOf z=d:=by unfold dOf;rw[hd];rfl
 refine⟨_,hv,⟨pre,post,p,ps,e,L,a4,b6, ?_, ?_, ?_, ?_⟩⟩
 ·intro f hf b3
  rw[F f (y f hf)];split
  ·rfl
  ·exact U f hf b3
 ·intro f hf
  rw[F f (E f hf),if_neg]
  ·exact J f hf
  ·intro e2
   subst e2;have h5:=O.nx;rw[e]at h5;have h6:=(eH.1 h5).2.2 f a2 f hf hq d hd;exact h6.2 hd
 ·refine⟨fun n hn=> ?_, ?_, ?_,hA.dom⟩
  ·rw[hd,gI]
   split
   ·rename_i e2;rw[e2,a5]
   ·rename_i a9
    refine hA.get n fun hm=>hn ?_
    obtain⟨g,W,a1⟩:=aR.1 hm;obtain⟨a3,b2⟩:=cQ.1 W;refine aR.2 ⟨g,cQ.2 ⟨a3, ?_⟩,a1⟩;rw[F g (y g a3),if_neg]
    ·exact b2
    ·intro e2;subst e2;rw[a5]at a1;exact a9 a1.symm
  ·cases z.i.dst<;>exact hA.ob
  ·cases z.i.dst<;>exact hA.tk
 ·intro f hf
  obtain⟨a7,Z⟩:=cQ.1 hf;refine hV f (cQ.2 ⟨a7, ?_⟩);rw[F f (y f a7)]at Z;split at Z
  ·cases Z
  ·exact Z
theorem Gx(l r:List FI):fo (l++r)=fo l++fo r:=List.filterMap_append
theorem DW{l:List FI}(h:∀f∈l,f.q=true):fo l=[]:=by unfold fo;rw[List.filterMap_eq_nil_iff];intro f y;rw[h f y];rfl
theorem pE{l:List FI}{k:Nat}:k∈fo l↔∃f∈l,f.q=false/\f.n=k:=by
 unfold fo;rw[List.mem_filterMap];constructor
 ·rintro⟨f,z,h⟩
  cases y:f.q with
  |true=>rw[y]at h;cases h
  |false=>rw[y]at h;exact⟨f,z,y,by simpa using h⟩
 ·rintro⟨f,z,y,rfl⟩;exact⟨f,z,by rw[y];rfl⟩
theorem kb(k:Nat):∀l:List FI,fo (l.filter fun q=> !decide (q.n=k))=(fo l).filter fun x=> !decide (x=k)
 |[]=>rfl
 |f::r=>by
  have y:=kb k r;rw[kS]
  by_cases h:f.n=k
  ·cases hq:f.q with
   |true=>simp only[h,decide_true,Bool.not_true,aJ,if_false,y];simp[fo,hq]
   |false=>simp only[h,decide_true,Bool.not_true,aJ,if_false,y];simp[fo,hq,h]
  ·cases hq:f.q with
   |true=>simp only[h,decide_false,Bool.not_false,if_true];simp only[fo,List.filterMap_cons,hq,if_true]at y ⊢;exact y
   |false=>simp only[h,decide_false,Bool.not_false,if_true];simp only[fo,List.filterMap_cons,hq,aJ,if_false,kS,h,decide_false,Bool.not_false,if_true]at y ⊢;rw[y]
theorem xz(z:listed.size=ops.size){k:Nat}(E:k<ops.size)(σ:List FI):un σ (listed.setIfInBounds k true)=(un σ listed).filter fun q=> !decide (q.n=k):=by
 simp only[un,List.filter_filter];apply List.filter_congr;intro q y;rw[gG (by omega)]
 by_cases h:q.n=k<;>simp[h]
theorem zH(hs:listed.size=ops.size)(I:O2 P N ops its b)(O:Tj its b σ)(hS:pn call sg N b σ cF listed c){W:FI}(a0:W∈its)(h1:listed.getD W.n true=false)(hq:W.q=false)
 (a5:∀k,k<ops.size->(b.getD W.n 0).testBit k=true->listed.getD k true=true) (hh:(fo (un σ listed)).head? =some W.n):
 ∃c1,dA call sg c W.i=some c1/\pn call sg N b σ cF (listed.setIfInBounds W.n true) c1:=by
 classical
 obtain⟨_,_,_,b2⟩:=I.item W a0;have L:∀g∈its,(listed.setIfInBounds W.n true).getD g.n true=if g=W then true else listed.getD g.n true:=fun g F=>zN hs I a0 F b2
 obtain⟨pre,post,p,ps,e,a3,E,c3,U,J,hA,hV⟩:=hS.ex;have z:∀g∈pre,g∈its:=fun g F=>(O.mem g).1 (by rw[e];exact ak.2 (.inl F))
 have y:∀g∈post,g∈its:=fun g F=>(O.mem g).1 (by rw[e];exact ak.2 (.inr F))
 have b6:=Cw (listed:=listed) I O a0 z U a5
 have a2:∀g∈un pre listed,g.q=true:=by
  intro g F;obtain⟨a4,a1⟩:=cQ.1 F;cases hq:g.q with
  |true=>rfl
  |false=>rw[U g a4 hq]at a1;cases a1
 have d5:un post listed=post:=ij.2 fun f Q=>by rw[J f Q];rfl
 have hu:fo (un σ listed)=fo post:=by
  have:un σ listed=un pre listed++un post listed:=by rw[e];exact List.filter_append ..
  rw[this,Gx,DW a2,d5];rfl
 rw[hu]at hh
 obtain⟨f0,r,a7,a9⟩:∃f r,post=f::r/\f.q=false:=by
  rcases a3 with h|h
  ·rw[h]at hh;cases hh
  ·exact h
 have b5:W=f0:=by
  rw[a7]at hh;have h2:fo (f0::r)=f0.n::fo r:=by simp[fo,a9]
  rw[h2]at hh;simp only[List.head?_cons,aq.injEq]at hh;exact I.inj W a0 f0 (y f0 (by rw[a7];exact ax ..)) hh.symm
 subst b5;subst a7
 have b8:(pre++W::r).Pairwise fun f g=>f.n≠g.n:=by have:=O.nd;rw[e,vJ,gr]at this;exact this
 obtain⟨n,q,i⟩:=W;simp only at a9;subst a9;simp only[eT]at E;cases hs1:dA call sg p i with
 |none=>rw[hs1]at E;simp[qE]at E
 |some p1=>
  rw[hs1]at E;simp only[qE]at E;cases F:gdP (sV (b.getD n 0) p1 ps) p1 with
  |none=>rw[F]at E;simp[qF]at E
  |some e3=>
   rw[F]at E;simp only[qF]at E;obtain⟨d4,rfl⟩:=pO F;obtain⟨c1,d6,e0⟩:=hA.step (I.ok _ a0) b6 hs1;refine⟨c1,d6, ?_⟩;have a6:=O.nx;rw[e]at a6;have d3:=eH.1 a6
   obtain⟨seg,a8,p2,d9,k1,k2,k3,k4,k5,k6,k7⟩:=mG (V:=un pre listed) E e0 (fun f Q=>I.ok f (y f (am _ Q))) (fun f Q=>I.self f (y f (am _ Q)))
    (bI.1 d3.2.1).2 (fun g F f Q=>d3.2.2 g (cQ.1 F).1 f (am _ Q))
    (fun g F=>by obtain⟨d,hd,_⟩:=I.self g (z g (cQ.1 F).1) (a2 g F);exact⟨d,hd⟩)
    (fun g F=>by
     obtain⟨a4,a1⟩:=cQ.1 F;rcases pU d4 (c3 g a4 (a2 g F))with h|h
     ·obtain⟨_,_,_,d7⟩:=I.item g (z g a4)
      rw[a5 g.n d7 h]at a1;cases a1
     ·exact h)
   have d8:∀g∈pre,g≠⟨n,false,i⟩:=fun g F e2=>by have:=(eH.1 b8).2.2 g F _ (ax ..);rw[e2]at this;exact this rfl
   have b7:∀g∈r,g≠⟨n,false,i⟩:=fun g F e2=>by have:=(bI.1 (eH.1 b8).2.1).1 g F;rw[e2]at this;exact this rfl
   have b4:un (pre++⟨n,false,i⟩::seg) (listed.setIfInBounds n true)=un pre listed++seg:=by
    unfold un;rw[List.filter_append,kS];have e1:(listed.setIfInBounds n true).getD n true=true:=by rw[gG (by rw[hs];exact b2)];simp
    simp only[e1,Bool.not_true,aJ,if_false]
    congr 1
    ·apply List.filter_congr
     intro g F;have:=L g (z g F);simp only at this;rw[this,if_neg (d8 g F)]
    ·apply ij.2
     intro g F;have b3:g∈r:=by rw[k1];exact ak.2 (.inl F)
     have c4:g∈⟨n,false,i⟩::r:=am _ b3;have:=L g (y g c4);simp only at this;rw[this,if_neg (b7 g b3),J g c4];rfl
   refine⟨pre++⟨n,false,i⟩::seg,a8,p2,d9,by rw[e,k1];simp,k3,k4, ?_, ?_, ?_, ?_, ?_⟩
   ·intro f Q Z
    rcases ak.1 Q with h|h
    ·exact k5 f (.inl (c3 f h Z))
    ·rcases al.1 h with rfl|h
     ·cases Z
     ·exact k5 f (.inr h)
   ·intro f Q Z
    rcases ak.1 Q with h|h
    ·rw[L f (z f h)]
     split
     ·rfl
     ·exact U f h Z
    ·rcases al.1 h with rfl|h
     ·rw[L _ a0,if_pos rfl]
     ·rw[k2 f h]at Z;cases Z
   ·intro f Q
    have c6:f∈r:=by rw[k1];exact ak.2 (.inr Q)
    have c7:f∈⟨n,false,i⟩::r:=am _ c6;rw[L f (y f c7),if_neg (b7 f c6)];exact J f c7
   ·rw[b4,cV]
    refine⟨fun m hm=>k6.get m (fun h=>hm ?_),k6.ob,k6.tk,k6.dom⟩;rw[ak]at h ⊢;exact h.symm
   ·rw[b4]
    intro f Q;exact k7 f (ak.1 Q)
theorem Gv{k:Nat}{g:Nat}{A:List LAb}(h:kN b k A=true)(F:∀l,A.head? =some l->g∈l)(I:∀l,A.head? =some l->∀x∈l,x≠g->(b.getD g 0).testBit x=false):
 ∃O,kN b O (A.filterMap fun p=>match p with|x::r=>if x=g then some r else none|[]=>none)=true:=by
 cases A with
 |nil=>cases k<;>simp[kN]at h
 |cons l A=>
  cases l with
  |nil=>have:=F [] rfl;cases this
  |cons y t=>
   cases k with
   |zero=>simp[kN]at h
   |succ k=>
    simp only[kN,aT]at h;have z:=h g (F _ rfl);rw[fO]at z;rcases z with z|z
    ·exfalso
     rw[List.any_eq_true]at z;obtain⟨x,L,E⟩:=z;rw[az]at E;have J:=of_decide_eq_true E.1;have:=I _ rfl x L J;unfold m6 at E;rw[E.2]at this;cases this
    ·exact⟨k,z⟩
theorem rZ{R R':List FI->LAb}{g:Nat}:∀{A:List (List FI)},(∀σ∈A,∀r,R σ=g::r->R' σ=r)->
 (A.filter fun σ=>decide ((R σ).head? =some g)).map R'=(A.map R).filterMap fun p=>match p with|x::r=>if x=g then some r else none|[]=>none
 |[],_=>rfl
 |σ::A,h=>by
  have E:=rZ (R:=R) (R':=R') (g:=g) (A:=A) fun τ F=>h τ (am _ F)
  have I:=h σ (ax ..);rw[kS,aE,List.filterMap_cons];cases hR:R σ with
  |nil=>simp only[List.head?_nil,reduceCtorEq,decide_false,aJ,if_false];exact E
  |cons y t=>
   by_cases z:y=g
   ·subst z
    simp only[List.head?_cons,decide_true,if_true,aE,I t hR];rw[E]
   ·have:¬(some y=some g):=fun e=>z (by injection e)
    simp only[List.head?_cons,this,decide_false,aJ,if_false,z];exact E
theorem GE(
 hcal:fZ P call)(I:O2 P N ops its b){ords:List (List FI)}(hO:∀σ∈ords,Tj its b σ){Q:LBb}(hQ:∀a w,M C N cF a w->Q .normal a w):
 ∀(O:Nat)(listed:Array Bool)(c:CSt)(a:Act)(w:World)(A:List (List FI))(k:Nat),(un its listed).length<=O->listed.size=ops.size->
  (∀(i:Nat)(o:Oper)(k:Nat),ops[i]? =some o->listed.getD i true=true->k<ops.size->(b.getD i 0).testBit k=true->listed.getD k true=true)->
  (∀σ∈A,σ∈ords/\pn call sg N b σ cF listed c)->kN b k (A.map fun σ=>fo (un σ listed))=true->M C N c a w->wpAny P .any ops Q O listed a w:=by
 classical
 have c3:∀(listed:Array Bool),listed.size=ops.size->∀k,k<ops.size->listed.getD k false=listed.getD k true:=by intro listed W k hk;simp[jV,W,hk]
 have done:∀(listed:Array Bool)(c:CSt)(a:Act)(w:World)(A:List (List FI))(k:Nat),un its listed=[]->(∀σ∈A,σ∈ords/\pn call sg N b σ cF listed c)->kN b k (A.map fun σ=>fo (un σ listed))=true->M C N c a w->Region.ready .any ops listed=[]/\Q .normal a w:=by
  intro listed c a w A k h0 g4 E hM;constructor
  ·rw[List.eq_nil_iff_forall_not_mem]
   intro j hj;obtain⟨h1,o,Z,h3⟩:=mem_ready.1 hj;have f4:j<ops.size:=(ec.1 Z).1;obtain⟨z,F,rfl⟩:=I.ex j f4;have:z∈un its listed:=cQ.2 ⟨F,h1⟩;rw[h0]at this;cases this
  ·cases A with
   |nil=>cases k<;>simp[kN]at E
   |cons σ A=>
    obtain⟨U,L⟩:=g4 σ (ax ..)
    have d3:un σ listed=[]:=by rw[List.eq_nil_iff_forall_not_mem];intro f hf;obtain⟨h1,Z⟩:=cQ.1 hf;have:f∈un its listed:=cQ.2 ⟨((hO σ U).mem f).1 h1,Z⟩;rw[h0]at this;cases this
    obtain⟨pre,post,p,ps,e,hp,a3,_,_,b6,hA,_⟩:=L.ex
    have f9:post=[]:=by
     cases post with
     |nil=>rfl
     |cons f r=>have:f∈un σ listed:=cQ.2 ⟨by rw[e];simp,b6 f (ax ..)⟩;rw[d3]at this;cases this
    subst f9;simp only[eT,aq.injEq]at a3;subst a3;have hD:un pre listed=[]:=by rw[<-d3,e,bw]
    rw[hD]at hA;refine hQ a w ?_;obtain⟨x,s,g3,a7⟩:=hM;refine M.slots (c:=c) ⟨x,s,g3,a7⟩ ⟨hA.dom,by rw[<-hA.ob];exact a7.inv.so,by rw[<-hA.ob];exact a7.inv.wf⟩ hA.ob.symm hA.tk.symm (fun i=> .inl (hA.get i (by simp)).symm)
 intro O;induction O with
 |zero=>intro listed c a w A k hf W b4 L E hM;exact done listed c a w A k (cA.1 (by omega)) L E hM
 |succ O ih=>
  intro listed c a w A k hf W b4 L E hM;constructor
  ·intro e0
   by_cases h0:un its listed=[]
   ·exact(done listed c a w A k h0 L E hM).2
   ·exfalso
    have hp:∃n,∃f∈un its listed,f.n=n:=by
     cases hc:un its listed with
     |nil=>exact absurd hc h0
     |cons f r=>exact⟨_,f,ax ..,rfl⟩
    obtain⟨n,⟨f,f3,g7⟩,c7⟩:=xab _ hp;obtain⟨h1,Z⟩:=cQ.1 f3;obtain⟨o,h3,_,h4⟩:=I.item f h1
    have:f.n∈Region.ready .any ops listed:=by refine mem_ready.2 ⟨Z,o,h3,fun e he hb=> ?_⟩;have d4:=I.back f.n o h3 e he hb;rw[c3 listed W _ (by omega),<-Bool.not_eq_false];intro f1;obtain⟨g,hg,d6⟩:=I.ex e.on (by omega);have:=c7 e.on ⟨g,cQ.2 ⟨hg,by rw[d6];exact f1⟩,d6⟩;omega
    rw[e0]at this;cases this
  ·intro i f7
   obtain⟨h1,o,Z,h3⟩:=mem_ready.1 f7;have a1:i<ops.size:=(ec.1 Z).1;obtain⟨z,F,rfl⟩:=I.ex i a1;obtain⟨o',d8,a5,_⟩:=I.item z F;rw[Z]at d8;cases d8
   have J:∀k,k<ops.size->(b.getD z.n 0).testBit k=true->listed.getD k true=true:=by
    intro k hk hb;obtain⟨e,he,e2,g1⟩:=I.bit z.n o k Z hk hb;have b3:=h3 e he e2;have e7:=I.back z.n o Z e he e2;rw[c3 listed W _ (by omega)]at b3;rcases g1 with h|h
    ·rw[<-h];exact b3
    ·exact b4 e.on (ops[e.on]'(by omega)) k (by simp) b3 hk h
   have g5:(un its (listed.setIfInBounds z.n true)).length<(un its listed).length:=by rw[xz W a1];refine List.length_filter_lt_length_iff_exists.2 ⟨z,cQ.2 ⟨F,h1⟩,by simp⟩
   have a4:∀(i:Nat)(o:Oper)(k:Nat),ops[i]? =some o->(listed.setIfInBounds z.n true).getD i true=true->k<ops.size->(b.getD i 0).testBit k=true->(listed.setIfInBounds z.n true).getD k true=true:=by
    intro i2 o2 e3 e9 b5 b8 d9;rw[gG (by omega)]at b5 ⊢;split
    ·rfl
    ·split at b5
     ·rename_i e1
      subst e1;exact J e3 b8 d9
     ·exact b4 i2 o2 e3 e9 b5 b8 d9
   have e5:(listed.setIfInBounds z.n true).size=ops.size:=by simpa using W
   obtain⟨σ0,A0,a0⟩:∃σ A',A=σ::A':=by
    cases A with
    |nil=>cases k<;>simp[kN]at E
    |cons σ A'=>exact⟨σ,A',rfl⟩
   cases hq:z.q with
   |true=>
    obtain⟨e6,f2⟩:=L σ0 (by rw[a0];exact ax ..);obtain⟨v,hv,_⟩:=zG W I (hO σ0 e6) f2 F h1 hq J;refine gk hcal hM (I.ok z F) Z a5 (og (call:=call) (sg:=sg) hv) fun a' w' a8=> ?_
    refine ih _ _ a' w' A k (by omega) e5 a4 (fun σ U=>⟨(L σ U).1, ?_⟩) ?_ a8
    ·obtain⟨v',c4,e8⟩:=zG W I (hO σ (L σ U).1) (L σ U).2 F h1 hq J
     rw[hv]at c4;injection c4 with e;subst e
     exact e8
    ·have:(A.map fun σ=>fo (un σ (listed.setIfInBounds z.n true)))=A.map fun σ=>fo (un σ listed):=by
      apply List.map_congr_left;intro σ U;rw[xz W a1,kb,ij];intro x hx;obtain⟨f,hf,a6,rfl⟩:=pE.1 hx;have a9:=((hO σ (L σ U).1).mem f).1 (cQ.1 hf).1;have:¬f.n=z.n:=fun e=>by rw[I.inj f a9 z F e,hq]at a6;cases a6
      simp[this]
     rw[this];exact E
   |false=>
    have b2:∀σ∈A,z.n∈fo (un σ listed):=fun σ U=>pE.2 ⟨z,cQ.2 ⟨((hO σ (L σ U).1).mem z).2 F,h1⟩,hq,rfl⟩
    obtain⟨k',a2⟩:=Gv (g:=z.n) E (fun l hl=>by
     rw[a0]at hl;simp only[aE,List.head?_cons,aq.injEq]at hl;rw[<-hl];exact b2 σ0 (by rw[a0];exact ax ..)) (fun l hl y hy g6=>by
     rw[a0]at hl;simp only[aE,List.head?_cons,aq.injEq]at hl;rw[<-hl]at hy;obtain⟨f,hf,a6,rfl⟩:=pE.1 hy;obtain⟨g2,e4⟩:=cQ.1 hf;have a9:=((hO σ0 (L σ0 (by rw[a0];exact ax ..)).1).mem f).1 g2;obtain⟨_,_,_,d4⟩:=I.item f a9;rw[<-Bool.not_eq_true];intro hb;rw[J f.n d4 hb]at e4;cases e4)
    rw[<-rZ (R:=fun σ=>fo (un σ listed)) (R':=fun σ=>fo (un σ (listed.setIfInBounds z.n true))) (fun σ U r hR=>by
     show fo (un σ (listed.setIfInBounds z.n true))=r;rw[xz W a1,kb];have d7:fo (un σ listed)=z.n::r:=hR;rw[d7,kS];simp only[decide_true,Bool.not_true,aJ,if_false];rw[ij];intro y hy
     have d5:(fo (un σ listed)).Nodup:=by
      have h5:=(hO σ (L σ U).1).nd
      have h6:(fo (un σ listed)).Sublist (σ.map FI.n):=by
       have h7:(fo (un σ listed)).Sublist ((un σ listed).map FI.n):=by
        unfold fo;rw[show(fun f:FI=>if f.q=true then none else some f.n)=fun f:FI=>if f.q=true then none else some (FI.n f)from rfl];generalize un σ listed=l;induction l with
        |nil=>exact ni.slnil
        |cons f r ih=>
         rw[List.filterMap_cons,aE];cases hq:f.q with
         |true=>exact ni.cons _ ih
         |false=>exact ni.cons_cons _ ih
       exact h7.trans (ni.map _ List.filter_sublist)
      exact h5.sublist h6
     rw[d7]at d5;have:y≠z.n:=fun e=>by rw[e]at hy;exact(dU.1 d5).1 hy
     simp[this])]at a2
    obtain⟨σ1,f6⟩:∃σ,σ∈A.filter fun σ=>decide ((fo (un σ listed)).head? =some z.n):=by
     cases hX:A.filter fun σ=>decide ((fo (un σ listed)).head? =some z.n)with
     |nil=>rw[hX]at a2;cases k'<;>simp[kN]at a2
     |cons σ _=>exact⟨σ,ax ..⟩
    obtain⟨h4,h5⟩:=List.mem_filter.1 f6;obtain⟨c1,b7,_⟩:=zH W I (hO σ1 (L σ1 h4).1) (L σ1 h4).2 F h1 hq J (of_decide_eq_true h5);refine gk hcal hM (I.ok z F) Z a5 b7 fun a' w' a8=> ?_
    refine ih _ _ a' w' _ k' (by omega) e5 a4 (fun σ U=> ?_) a2 a8;obtain⟨h6,h7⟩:=List.mem_filter.1 U;obtain⟨c2,c6,f0⟩:=zH W I (hO σ (L σ h6).1) (L σ h6).2 F h1 hq J (of_decide_eq_true h7);rw[b7]at c6;injection c6 with e;subst e
    exact⟨(L σ h6).1,f0⟩
theorem RZ(hl:js (fT P ops) ops.toList=some (unF its))(hd:drawn ops (unF its)=true)(b6:∀f∈its,f.i.ok N=true)(I:Se (Region.before ops).toList its=true)
 (Q:(its.map FI.n).Nodup) (J:∀f∈its,f.n<its.length) (a4:∀j∈bU its.length,(its.map FI.n).contains j=true):
 O2 P N ops its (Region.before ops).toList/\(∀f∈its,∀g∈its,f.n≠g.n->∀d,f.i.dst=some d->g.i.dst≠some d)/\its.length=ops.size:=by
 simp only[Se,aT,fO,dv]at I;obtain⟨a7,a6⟩:=eF hl;have b2:(unF its).length=its.length:=by simp[unF]
 have b8:its.length=ops.size:=by rw[<-b2,a7,aO]
 have a0:∀f∈its,(unF its).getD f.n ⟨none,none,.lenC 0⟩=f.i.er:=by intro f z;have:=J f z;rw[aa];simp only[unF,aP,cP this,bl,bp];exact rJ _ Q z
 simp only[drawn,az,decide_eq_true_eq]at hd;obtain⟨⟨hc,ht⟩,L⟩:=hd
 have Z:∀f∈its,∃o,ops[f.n]? =some o/\fT P ops o=some f.i.er/\f.n<ops.size:=by
  intro f z;have c7:=J f z;have a8:f.n<ops.toList.length:=by rw[aO];omega
  refine⟨ops.toList[f.n],by rw[<-cZ,ab a8], ?_,by omega⟩;have y:=a6 f.n a8 (by omega);rw[y]
  congr 1
  have F:=a0 f z;rwa[aa,ab (by omega),bp]at F
 have a5:∀f∈its,∀g∈its,f.n=g.n->f=g:=by
  intro f z g W e;have:its.Pairwise fun f g=>f.n≠g.n:=by rw[vJ,gr]at Q;exact Q
  rw[nY]at this;obtain⟨i,hi,rfl⟩:=List.mem_iff_getElem.1 z;obtain⟨j,hj,rfl⟩:=List.mem_iff_getElem.1 W;rcases Nat.lt_trichotomy i j with h|h|h
  ·exact absurd e (this i j hi hj h)
  ·subst h;rfl
  ·exact absurd e.symm (this j i hj hi h)
 have a9:∀f∈its,∀g∈its,f.n≠g.n->∀d,f.i.dst=some d->g.i.dst≠some d:=by
  have O:∀f∈its,∀g∈its,f.n<g.n->∀d,f.i.dst=some d->g.i.dst≠some d:=by
   intro f z g W a2 d y F
   have a3:(unF its).Pairwise fun u v=>∀d,u.dst=some d->v.dst≠some d:=by rw[vJ,List.pairwise_filterMap]at L;refine L.imp ?_;intro u v b3 d hu hv;exact b3 d hu d hv rfl
   rw[nY]at a3;have c4:=J f z;have c3:=J g W
   have g1:(unF its)[f.n]'(by omega)=f.i.er:=by have:=a0 f z;rwa[aa,ab (by omega),bp]at this
   have g2:(unF its)[g.n]'(by omega)=g.i.er:=by have:=a0 g W;rwa[aa,ab (by omega),bp]at this
   exact a3 f.n g.n (by omega) (by omega) a2 d (by rw[g1];exact y) (by rw[g2];exact F)
  intro f z g W c6 d y F;rcases bO f.n g.n with h|h
  ·exact O f z g W h d y F
  ·exact O g W f z (by omega) d F y
 have E:∀(i:Nat)(o:Oper),ops[i]? =some o->(∀e∈o.after,Region.binds .any e=true->e.on<i)/\
  ∀k,k<ops.size->((Region.before ops).toList.getD i 0).testBit k=true->∃e∈o.after,Region.binds .any e=true/\(e.on=k\/((Region.before ops).toList.getD e.on 0).testBit k=true):=by
  intro i o ho;unfold pY at hc;rw[aT]at hc;have hi:i<ops.size:=(ec.1 ho).1
  have y:=hc (o,i) (by rw[List.mem_zipIdx_iff_getElem?];simpa using ho)
  simp only[az,Array.all_eq_true_iff_forall_mem,aT,fO,dv,decide_eq_true_eq]at y;refine⟨fun e he hb=>(y.1 e he).resolve_left (by simp[hb]),fun k hk hb=> ?_⟩;have F:=(y.2 k (jF.2 hk)).resolve_left (by simp only[hb];simp);obtain⟨_,h3⟩:=F;rw[<-Array.any_toList,List.any_eq_true]at h3;obtain⟨e,he,h4⟩:=h3;rw[Array.mem_toList_iff]at he;simp only[az,fO,beq_iff_eq]at h4;exact⟨e,he,h4.1,h4.2⟩
 have hq:∀q∈its,q.q=true->∃d,q.i.dst=some d/\∀p∈its,d∈p.i.rds->((Region.before ops).toList.getD p.n 0).testBit q.n=true/\p.n≠q.n:=by
  intro q hq a1;have y:=(I q hq).resolve_left (by rw[a1];simp);cases hd:q.i.dst with
  |none=>rw[hd]at y;cases y
  |some d=>
   rw[hd]at y;simp only[aT,fO,dv,az,decide_eq_true_eq,m6]at y;refine⟨d,rfl,fun p hp hr=> ?_⟩;rcases y p hp with F|F
   ·rw[eI]at F;simp only[decide_eq_false_iff_not]at F;exact absurd hr F
   ·exact F
 have U:∀f∈its,xf f:=by intro f z I;obtain⟨d,hd,y⟩:=hq f z I;exact⟨d,hd,fun h=>(y f z h).2 rfl⟩
 have b4:∀q∈its,q.q=true->∀p∈its,∀d,q.i.dst=some d->d∈p.i.rds->((Region.before ops).toList.getD p.n 0).testBit q.n=true:=by intro q b5 a1 p hp d hd hr;obtain⟨d',b7,y⟩:=hq q b5 a1;rw[b7]at hd;cases hd;exact(y p hp hr).1
 refine⟨⟨Z,fun j hj=> ?_,a5,fun i o ho=>(E i o ho).1,fun i o k ho hk hb=>(E i o ho).2 k hk hb,b6,U,b4⟩,a9,b8⟩;have:=a4 j (jF.2 (by omega));rw[eI]at this;simp only[decide_eq_true_eq]at this;obtain⟨f,z,e⟩:=aR.1 this;exact⟨f,z,e⟩
theorem mJ{l:List FI}(h:(l.map FI.n).Nodup){f:FI}(y:f∈l):tQ l f.n=f:=by
 induction l with
 |nil=>cases y
 |cons g r z=>
  simp only[aE,dU]at h;simp only[tQ];rcases al.1 y with rfl|y
  ·rw[if_pos rfl]
  ·rw[if_neg,z h.2 y]
   intro e;apply h.1;rw[e];exact ii y
theorem uY{l:List FI}{f:FI}:∀{p:LAb},f∈iA l p↔∃k∈p,tQ l k=f
 |[]=>by simp[iA]
 |k::r=>by
  simp only[iA,al,uY (p:=r)];constructor
  ·rintro(h|⟨j,y,h⟩)
   ·exact⟨k,.inl rfl,h.symm⟩
   ·exact⟨j,.inr y,h⟩
  ·rintro⟨j,rfl|y,h⟩
   ·exact .inl h.symm
   ·exact .inr ⟨j,y,h⟩
theorem uZ{l:List FI}(h:(l.map FI.n).Nodup):∀{p:LAb},(∀k∈p,k∈l.map FI.n)->(iA l p).map FI.n=p
 |[],_=>rfl
 |k::r,hp=>by simp only[iA,aE];rw[uZ h (p:=r) fun j z=>hp j (am _ z)];obtain⟨f,y,e⟩:=aR.1 (hp k (ax ..));rw[<-e,mJ h y]
theorem Df{s:Nat}(l:List FI):wi b (some s) l=true->∀g∈l,g.q=true->(b.getD g.n 0).testBit s=true\/∃h∈l,(b.getD g.n 0).testBit h.n=true:=by
 induction l generalizing s with
 |nil=>intro _ g y;cases y
 |cons f r F=>
  intro h g y E;simp only[wi]at h;split at h
  ·simp only[az,m6]at h
   rcases al.1 y with rfl|y
   ·exact .inl h.1
   ·rcases F h.2 g y E with z|⟨k,hk,z⟩
    ·exact .inl z
    ·exact .inr ⟨k,am _ hk,z⟩
  ·rename_i I
   rcases al.1 y with rfl|y
   ·exact absurd E I
   ·rcases F h g y E with z|⟨k,hk,z⟩
    ·exact .inr ⟨f,ax ..,z⟩
    ·exact .inr ⟨k,am _ hk,z⟩
theorem su:∀{pre:List FI}{s:LAc}{f:FI}{r:List FI},wi b s (pre++f::r)=true->f.q=false->wi b (some f.n) r=true
 |[],s,f,r,h,hf=>by simp only[aG,wi,hf,aJ,if_false]at h;exact h
 |g::pre,s,f,r,h,hf=>by
  simp only[bf,wi]at h;split at h
  ·rw[az]at h;exact su h.2 hf
  ·exact su h hf
theorem mY:∀{l:List FI},tR b l=true->l.Pairwise fun p q=>(b.getD p.n 0).testBit q.n=false
 |[],_=>eg.nil
 |p::r,h=>by simp only[tR,az,aT]at h;refine bI.2 ⟨fun q y=> ?_,mY h.2⟩;have:=h.1 q y;simpa only[dv,m6]using this
theorem vF{l:List FI}:∀{ps:List LAb},iX call sg b l ps c=some cF->∀p∈ps,eT call sg b (iA l p) [] c=some cF
 |[],h,p,hp=>by cases hp
 |[q],h,p,hp=>by rw[aZ.1 hp];exact h
 |q::F::r,h,p,hp=>by
  simp only[iX]at h;cases h1:eT call sg b (iA l q) [] c with
  |none=>rw[h1]at h;simp[nJ]at h
  |some y=>
   cases h2:iX call sg b l (F::r) c with
   |none=>rw[h1,h2]at h;simp[nJ]at h
   |some z=>
    rw[h1,h2]at h;obtain⟨I,E⟩:=pO h;rcases al.1 hp with rfl|hp
    ·rw[h1,E]
    ·exact vF (h2.trans (by rw[<-I,E])) p hp
theorem DL(a3:fZ P call){id:Nat}(hl:js (fT P ops) ops.toList=some (unF its))(hd:drawn ops (unF its)=true)(hm:P.follows .mixedOrders=true)
 (b4:its.all (fun f=>f.i.ok N)=true) {ps:List LAb} (W:P4 (Region.before ops).toList its ps=true) {Q:LBb} (hQ:∀a w,M C N cF a w->Q .normal a w) (hM:M C N c a w)
 (h:iX call sg (Region.before ops).toList its ps c=some cF):(Code.region id ops true).wp P Q a w:=by
 simp only[P4,az,decide_eq_true_eq]at W;obtain⟨⟨⟨⟨⟨b5,J⟩,a8⟩,a1⟩,b2⟩,hc⟩:=W;rw[aT]at b4 a8 a1 b2;obtain⟨I,b6,c6⟩:=RZ hl hd b4 b5 J (fun f y=>of_decide_eq_true (a8 f y)) a1
 have hO:∀σ∈ps.map (iA its),Tj its (Region.before ops).toList σ:=by
  intro σ hσ;obtain⟨p,hp,rfl⟩:=aR.1 hσ;have U:=b2 p hp;simp only[az,decide_eq_true_eq,aT,eI]at U;obtain⟨⟨⟨⟨c3,a6⟩,b7⟩,a0⟩,L⟩:=U;have b3:=uZ J a6
  have F:∀f,f∈iA its p↔f∈its:=by
   intro f;rw[uY];constructor
   ·rintro⟨k,hk,rfl⟩
    obtain⟨g,hg,rfl⟩:=aR.1 (a6 k hk);rw[mJ J hg];exact hg
   ·intro y
    exact⟨f.n,b7 f.n (ii y),mJ J y⟩
  have E:((iA its p).map FI.n).Nodup:=by rw[b3];exact c3
  refine⟨F,E, ?_,fun pre f r e y g hg hq=> ?_⟩
  ·have U:(iA its p).Pairwise fun f g=>f.n≠g.n:=by rw[vJ,gr]at E;exact E
   refine((mY L).and U).imp_of_mem ?_;rintro u v hu hv ⟨h2,h3⟩ c4 d a9;have a4:=(F u).1 hu;have a7:=(F v).1 hv;refine⟨fun hr=> ?_,fun e=>b6 u a4 v a7 h3 d e a9⟩;rw[I.rd v a7 c4 u a4 d a9 hr]at h2;cases h2
  ·rw[e]at a0
   rcases Df _ (su a0 y) g hg hq with U|⟨k,hk,U⟩
   ·exact⟨f,ax ..,U⟩
   ·exact⟨k,am _ hk,U⟩
 have z:∀f∈its,(dR ops.size false).getD f.n true=false:=by intro f y;obtain⟨_,_,_,this⟩:=I.item f y;simp[jV,this]
 refine wp_region_any hm ?_;refine GE (its:=its) (b:=(Region.before ops).toList) (cF:=cF) (sg:=sg) (ords:=ps.map (iA its)) a3 I hO hQ ops.size _ c a _ (ps.map (iA its)) its.length ?_ (by simp) ?_ (fun σ hσ=>⟨hσ, ?_⟩) ?_ ?_
 ·have:(un its (dR ops.size false)).length<=its.length:=List.length_filter_le _ _
  omega
 ·intro i o k ho hl _ _
  have hi:i<ops.size:=(ec.1 ho).1;simp[jV,hi]at hl
 ·have O:=hO σ hσ
  obtain⟨p,hp,rfl⟩:=aR.1 hσ;have a5:=vF h p hp;obtain⟨seg,post,p2,b8,k1,k2,k3,k4,k5,k6,k7⟩:=mG (N:=N) (D:=[]) (V:=[]) a5 ⟨fun _ _=>rfl,rfl,rfl,by obtain⟨x,s,_,hS⟩:=hM;exact hS.inv.dom⟩ (fun f y=>I.ok f ((O.mem f).1 y)) (fun f y=>I.self f ((O.mem f).1 y)) O.nx (by simp) (by simp) (by simp)
  have Z:un seg (dR ops.size false)=seg:=by apply ij.2;intro f y;rw[z f ((O.mem f).1 (by rw[k1];exact ak.2 (.inl y)))];rfl
  refine⟨seg,post,p2,b8,k1,k3,k4,fun f y _=>k5 f (.inr y),(fun f y hq=>by rw[k2 f y]at hq;cases hq),fun f y=>z f ((O.mem f).1 (by rw[k1];exact ak.2 (.inr y))), ?_, ?_⟩
  ·rw[Z];simpa using k6
  ·rw[Z];intro f y;exact k7 f (.inr y)
 ·rw[List.map_map]
  have:(ps.map ((fun σ=>fo (un σ (dR ops.size false)))∘iA its))=ps.map fun p=>fo (iA its p):=by
   apply List.map_congr_left;intro p hp;show fo (un (iA its p) _)=_
   congr 1
   apply ij.2;intro f y;rw[z f (((hO _ (ii hp)).mem f).1 y)];rfl
  rw[this];exact hc
 ·obtain⟨x,s,a2,hS⟩:=hM
  exact⟨x,s,⟨a2.tm,a2.defers,a2.heap.drawn _⟩,hS⟩
end Go.Sy
namespace Go.Sy
variable [aX]
variable {P : Program} {C : Ctx} {x : Sit} {a : Act} {w : World} {N : Nat} {c c' : CSt} {s : St} {T : ix}
def Ex.out:Ex->Exit
 | .n=> .normal
 | .x id=> .exit id
 | .r=> .ret
def EQ(C:Ctx)(N:Nat)(e:Ex)(c':CSt):LBb:=fun h a w=>h=e.out/\M C N c' a w
def uc(P:Program)(T:ix)(n:Nat):Prop:=
 (∀(r:RC)(c:CSt)(e:Ex)(c':CSt),gB T n r c=some (e,c')->∀(code:Code)(C:Ctx)(N:Nat)(a:Act)(w:World),cu P code=r.er->r.ok N=true->M C N c a w->code.wp P (EQ C N e c') a w)/\
 (∀(b:RC)(c:CSt)(e:Ex)(c':CSt),gB T n (.loop b) c=some (e,c')->∀(code:Code)(C:Ctx)(N:Nat)(a:Act)(w:World),cu P code=b.er->b.ok N=true->M C N c a w->Code.rounds P code (EQ C N e c') n a w)
theorem Sp{code:Code}{b:fY}(h:aW P code=some (.loop b)):∃E,code= .loop E/\aW P E=some b:=by
 cases code with
 |loop E=>simp only[aW]at h;obtain⟨sb,I,J⟩:=ah.1 h;cases J;exact⟨E,rfl,I⟩
 |region id ops F=>
  simp only[aW]at h;split at h<;>try (cases h;done)
  split at h
  ·rw[aF]at h;cases h.2
  ·cases h
 |seq y z=>simp only[aW]at h;split at h<;>cases h
 |cond c y z=>simp only[aW]at h;split at h<;>cases h
 |block id b=>simp only[aW]at h;obtain⟨_,_,h⟩:=ah.1 h;cases h
 |_=>simp[aW]at h
theorem Gf{code:Code}{id:Nat}{b:fY}(h:aW P code=some (.block id b)):∃E,code= .block id E/\aW P E=some b:=by
 cases code with
 |block id E=>simp only[aW]at h;obtain⟨sb,I,J⟩:=ah.1 h;cases J;exact⟨E,rfl,I⟩
 |region id ops F=>
  simp only[aW]at h;split at h<;>try (cases h;done)
  split at h
  ·rw[aF]at h;cases h.2
  ·cases h
 |seq y z=>simp only[aW]at h;split at h<;>cases h
 |cond c y z=>simp only[aW]at h;split at h<;>cases h
 |loop b=>simp only[aW]at h;obtain⟨_,_,h⟩:=ah.1 h;cases h
 |_=>simp[aW]at h
theorem xfq{code:Code}{y z:fY}(h:aW P code=some (.seq y z)):∃E F,code= .seq E F/\aW P E=some y/\aW P F=some z:=by
 cases code with
 |seq E F=>
  simp only[aW]at h;split at h<;>try (cases h;done)
  rename_i O L J hz;cases h;exact⟨E,F,rfl,J,hz⟩
 |region id ops I=>
  simp only[aW]at h;split at h<;>try (cases h;done)
  split at h
  ·rw[aF]at h;cases h.2
  ·cases h
 |cond c y z=>simp only[aW]at h;split at h<;>cases h
 |block id b=>simp only[aW]at h;obtain⟨_,_,h⟩:=ah.1 h;cases h
 |loop b=>simp only[aW]at h;obtain⟨_,_,h⟩:=ah.1 h;cases h
 |_=>simp[aW]at h
theorem Su{code:Code}{k:Arg}{y z:fY}(h:aW P code=some (.cond k y z)):∃E F I,code= .cond E F I/\bm P 0 E=some k/\aW P F=some y/\aW P I=some z:=by
 cases code with
 |cond E F I=>
  simp only[aW]at h;split at h<;>try (cases h;done)
  rename_i Q W U J O hz;cases h;exact⟨E,F,I,rfl,J,O,hz⟩
 |region id ops L=>
  simp only[aW]at h;split at h<;>try (cases h;done)
  split at h
  ·rw[aF]at h;cases h.2
  ·cases h
 |seq y z=>simp only[aW]at h;split at h<;>cases h
 |block id b=>simp only[aW]at h;obtain⟨_,_,h⟩:=ah.1 h;cases h
 |loop b=>simp only[aW]at h;obtain⟨_,_,h⟩:=ah.1 h;cases h
 |_=>simp[aW]at h
theorem xfs{code:Code}{l:LAf}(h:aW P code=some (.ops l)):∃id ops,code= .region id ops false/\js (fT P ops) ops.toList=some l:=by
 cases code with
 |region id ops E=>
  simp only[aW]at h;split at h<;>try (cases h;done)
  rename_i I F;cases E with
  |false=>simp only[aJ,if_false,aq.injEq,fY.ops.injEq]at h;subst h;exact⟨id,ops,rfl,F⟩
  |true=>simp only[if_true]at h;rw[aF]at h;cases h.2
 |seq y z=>simp only[aW]at h;split at h<;>cases h
 |cond c y z=>simp only[aW]at h;split at h<;>cases h
 |block id b=>simp only[aW]at h;obtain⟨_,_,h⟩:=ah.1 h;cases h
 |loop b=>simp only[aW]at h;obtain⟨_,_,h⟩:=ah.1 h;cases h
 |_=>simp[aW]at h
theorem OP{code:Code}{b I:LAb}{l:LAf}(h:aW P code=some (.drw b I l)):∃id ops,code= .region id ops true/\js (fT P ops) ops.toList=some l/\drawn ops l=true/\P.follows .mixedOrders=true/\b=(Region.before ops).toList/\I=xll l:=by
 cases code with
 |region id ops E=>
  simp only[aW]at h;split at h<;>try (cases h;done)
  rename_i L J;cases E with
  |false=>simp only[aJ,if_false,aq.injEq,reduceCtorEq]at h
  |true=>simp only[if_true]at h;rw[aF]at h;obtain⟨F,h⟩:=h;simp only[aq.injEq,fY.drw.injEq]at h;obtain⟨rfl,rfl,rfl⟩:=h;rw[az]at F;exact⟨id,ops,rfl,J,F.1,F.2,rfl,rfl⟩
 |seq y z=>simp only[aW]at h;split at h<;>cases h
 |cond c y z=>simp only[aW]at h;split at h<;>cases h
 |block id b=>simp only[aW]at h;obtain⟨_,_,h⟩:=ah.1 h;cases h
 |loop b=>simp only[aW]at h;obtain⟨_,_,h⟩:=ah.1 h;cases h
 |_=>simp[aW]at h
theorem Sn{code:Code}(h:aW P code=some .skip):code= .skip:=by
 cases code with
 |skip=>rfl
 |region id ops E=>
  simp only[aW]at h;split at h<;>try (cases h;done)
  split at h
  ·rw[aF]at h;cases h.2
  ·cases h
 |seq y z=>simp only[aW]at h;split at h<;>cases h
 |cond c y z=>simp only[aW]at h;split at h<;>cases h
 |block id b=>simp only[aW]at h;obtain⟨_,_,h⟩:=ah.1 h;cases h
 |loop b=>simp only[aW]at h;obtain⟨_,_,h⟩:=ah.1 h;cases h
 |_=>simp[aW]at h
theorem xfr{code:Code}(h:aW P code=some .ret):code= .ret:=by
 cases code with
 |ret=>rfl
 |region id ops E=>
  simp only[aW]at h;split at h<;>try (cases h;done)
  split at h
  ·rw[aF]at h;cases h.2
  ·cases h
 |seq y z=>simp only[aW]at h;split at h<;>cases h
 |cond c y z=>simp only[aW]at h;split at h<;>cases h
 |block id b=>simp only[aW]at h;obtain⟨_,_,h⟩:=ah.1 h;cases h
 |loop b=>simp only[aW]at h;obtain⟨_,_,h⟩:=ah.1 h;cases h
 |_=>simp[aW]at h
theorem Ss{code:Code}{id:Nat}(h:aW P code=some (.exit id)):code= .exit id:=by
 cases code with
 |exit F=>simp only[aW,aq.injEq,fY.exit.injEq]at h;rw[h]
 |region id ops E=>
  simp only[aW]at h;split at h<;>try (cases h;done)
  split at h
  ·rw[aF]at h;cases h.2
  ·cases h
 |seq y z=>simp only[aW]at h;split at h<;>cases h
 |cond c y z=>simp only[aW]at h;split at h<;>cases h
 |block id b=>simp only[aW]at h;obtain⟨_,_,h⟩:=ah.1 h;cases h
 |loop b=>simp only[aW]at h;obtain⟨_,_,h⟩:=ah.1 h;cases h
 |_=>simp[aW]at h
theorem eO{id:Nat}{ops:Array Oper}{y:Bool}{s:fY}(h:cu P (.region id ops y)=s)(E:s≠ .bad):aW P (.region id ops y)=some s:=by
 rw[cu]at h;split at h
 ·rename_i F z;rw[<-h];exact z
 ·exact absurd h.symm E
theorem ie{k:Operand}{y z:Code}{s:fY}(h:cu P (.cond k y z)=s)(F:s≠ .bad):∃a,bm P 0 k=some a/\s= .cond a (cu P y) (cu P z):=by
 rw[cu]at h;split at h
 ·rename_i a E;exact⟨a,E,h.symm⟩
 ·exact absurd h.symm F
theorem SH{code:Code}{b:fY}(h:cu P code= .loop b):∃E,code= .loop E/\cu P E=b:=by
 cases code with
 |loop E=>rw[cu]at h;cases h;exact⟨E,rfl,rfl⟩
 |region id ops I=>have J:=eO h (by simp);have F:=Sp J;simp at F
 |seq y z=>rw[cu]at h;cases h
 |cond k y z=>obtain⟨a,_,F⟩:=ie h (by simp);cases F
 |block id b=>rw[cu]at h;cases h
 |skip=>rw[cu]at h;cases h
 |exit id=>rw[cu]at h;cases h
 |ret=>rw[cu]at h;cases h
 |_=>simp[cu]at h
theorem Gm{code:Code}{id:Nat}{b:fY}(h:cu P code= .block id b):∃E,code= .block id E/\cu P E=b:=by
 cases code with
 |block id E=>rw[cu]at h;cases h;exact⟨E,rfl,rfl⟩
 |region id ops I=>have J:=eO h (by simp);have F:=Gf J;simp at F
 |seq y z=>rw[cu]at h;cases h
 |cond k y z=>obtain⟨a,_,F⟩:=ie h (by simp);cases F
 |loop b=>rw[cu]at h;cases h
 |skip=>rw[cu]at h;cases h
 |exit id=>rw[cu]at h;cases h
 |ret=>rw[cu]at h;cases h
 |_=>simp[cu]at h
theorem xfu{code:Code}{y z:fY}(h:cu P code= .seq y z):∃E F,code= .seq E F/\cu P E=y/\cu P F=z:=by
 cases code with
 |seq E F=>rw[cu]at h;cases h;exact⟨E,F,rfl,rfl,rfl⟩
 |region id ops J=>have L:=eO h (by simp);have I:=xfq L;simp at I
 |cond k y z=>obtain⟨a,_,I⟩:=ie h (by simp);cases I
 |block id b=>rw[cu]at h;cases h
 |loop b=>rw[cu]at h;cases h
 |skip=>rw[cu]at h;cases h
 |exit id=>rw[cu]at h;cases h
 |ret=>rw[cu]at h;cases h
 |_=>simp[cu]at h
theorem xfx{code:Code}{k:Arg}{y z:fY}(h:cu P code= .cond k y z):∃I E F,code= .cond I E F/\bm P 0 I=some k/\cu P E=y/\cu P F=z:=by
 cases code with
 |cond I E F=>obtain⟨a,L,J⟩:=ie h (by simp);cases J;exact⟨I,E,F,rfl,L,rfl,rfl⟩
 |region id ops O=>have L:=eO h (by simp);have J:=Su L;simp at J
 |seq y z=>rw[cu]at h;cases h
 |block id b=>rw[cu]at h;cases h
 |loop b=>rw[cu]at h;cases h
 |skip=>rw[cu]at h;cases h
 |exit id=>rw[cu]at h;cases h
 |ret=>rw[cu]at h;cases h
 |_=>simp[cu]at h
theorem SG{code:Code}(h:cu P code= .skip):code= .skip:=by
 cases code with
 |skip=>rfl
 |region id ops F=>have I:=eO h (by simp);have E:=Sn I;simp at E
 |seq y z=>rw[cu]at h;cases h
 |cond k y z=>obtain⟨a,_,E⟩:=ie h (by simp);cases E
 |block id b=>rw[cu]at h;cases h
 |loop b=>rw[cu]at h;cases h
 |exit id=>rw[cu]at h;cases h
 |ret=>rw[cu]at h;cases h
 |_=>simp[cu]at h
theorem xfv{code:Code}(h:cu P code= .ret):code= .ret:=by
 cases code with
 |ret=>rfl
 |region id ops F=>have I:=eO h (by simp);have E:=xfr I;simp at E
 |seq y z=>rw[cu]at h;cases h
 |cond k y z=>obtain⟨a,_,E⟩:=ie h (by simp);cases E
 |block id b=>rw[cu]at h;cases h
 |loop b=>rw[cu]at h;cases h
 |skip=>rw[cu]at h;cases h
 |exit id=>rw[cu]at h;cases h
 |_=>simp[cu]at h
theorem SJ{code:Code}{id:Nat}(h:cu P code= .exit id):code= .exit id:=by
 cases code with
 |exit I=>rw[cu]at h;cases h;rfl
 |region id ops F=>have J:=eO h (by simp);have E:=Ss J;simp at E
 |seq y z=>rw[cu]at h;cases h
 |cond k y z=>obtain⟨a,_,E⟩:=ie h (by simp);cases E
 |block id b=>rw[cu]at h;cases h
 |loop b=>rw[cu]at h;cases h
 |skip=>rw[cu]at h;cases h
 |ret=>rw[cu]at h;cases h
 |_=>simp[cu]at h
theorem xfw{code:Code}{l:LAf}(h:cu P code= .ops l):aW P code=some (.ops l):=by
 cases code with
 |region id ops E=>exact eO h (by simp)
 |seq y z=>rw[cu]at h;cases h
 |cond k y z=>obtain⟨a,_,F⟩:=ie h (by simp);cases F
 |block id b=>rw[cu]at h;cases h
 |loop b=>rw[cu]at h;cases h
 |skip=>rw[cu]at h;cases h
 |exit id=>rw[cu]at h;cases h
 |ret=>rw[cu]at h;cases h
 |_=>simp[cu]at h
theorem OQ{code:Code}{b E:LAb}{l:LAf}(h:cu P code= .drw b E l):aW P code=some (.drw b E l):=by
 cases code with
 |region id ops F=>exact eO h (by simp)
 |seq y z=>rw[cu]at h;cases h
 |cond k y z=>obtain⟨a,_,I⟩:=ie h (by simp);cases I
 |block id b=>rw[cu]at h;cases h
 |loop b=>rw[cu]at h;cases h
 |skip=>rw[cu]at h;cases h
 |exit id=>rw[cu]at h;cases h
 |ret=>rw[cu]at h;cases h
 |_=>simp[cu]at h
theorem ui{n:Nat}(hR:uc P T n)(I:fZ P (eQ T n)){r:RC}{c:CSt}{e:Ex}{c':CSt}(h:dM (gB T n) (eQ T n) T.sg r c=some (e,c'))(hl:∀b,r≠ .loop b){code:Code}{C:Ctx}{N:Nat}{a:Act}{w:World}
 (L:cu P code=r.er) (E:r.ok N=true) (hM:M C N c a w):code.wp P (EQ C N e c') a w:=by
 cases r with
 |skip=>
  cases h;have:=SG (by simpa[RC.er]using L);subst this;exact wp_skip ⟨rfl,hM⟩
 |ret=>
  cases h;have:=xfv (by simpa[RC.er]using L);subst this;exact wp_ret ⟨rfl,hM⟩
 |exit id=>
  cases h;have:=SJ (by simpa[RC.er]using L);subst this;exact wp_exit ⟨rfl,hM⟩
 |ops l=>
  obtain⟨id,ops,rfl,hl'⟩:=xfs (xfw (by simpa[RC.er]using L));simp only[dM]at h;cases hs:fC (eQ T n) T.sg l c with
  |none=>rw[hs]at h;cases h
  |some c1=>rw[hs]at h;simp only[nrm,pI,aq.injEq,bj.injEq]at h;obtain⟨rfl,rfl⟩:=h;refine wp_region ?_;rw[List.range_eq_range'];exact wD I hl' l ops.size 0 (by omega) (by simp) E hM hs fun a w h=>⟨rfl,h⟩
 |flt b W l J=>
  obtain⟨id,ops,rfl,hl',hdr,hmo,rfl,rfl⟩:=OP (OQ (by simpa[RC.er]using L));simp only[RC.ok,az]at E;simp only[dM]at h;cases hs:eT (eQ T n) T.sg (Region.before ops).toList l [] c with
  |none=>rw[hs]at h;cases h
  |some c1=>rw[hs]at h;simp only[nrm,aq.injEq,bj.injEq]at h;obtain⟨rfl,rfl⟩:=h;exact DK I hl' hdr hmo E.1 E.2 (fun a w h=>⟨rfl,M.kill h J⟩) hM hs
 |fla b W l ps J=>
  obtain⟨id,ops,rfl,hl',hdr,hmo,rfl,rfl⟩:=OP (OQ (by simpa[RC.er]using L));simp only[RC.ok,az]at E;simp only[dM]at h;cases hs:iX (eQ T n) T.sg (Region.before ops).toList l ps c with
  |none=>rw[hs]at h;cases h
  |some c1=>rw[hs]at h;simp only[nrm,aq.injEq,bj.injEq]at h;obtain⟨rfl,rfl⟩:=h;exact DL I hl' hdr hmo E.1 E.2 (fun a w h=>⟨rfl,M.kill h J⟩) hM hs
 |seq y z=>
  obtain⟨y',z',rfl,hy,hz⟩:=xfu (by simpa[RC.er]using L);simp only[RC.ok,az]at E;simp only[dM]at h;cases hs:gB T n y c with
  |none=>rw[hs]at h;cases h
  |some p=>
   obtain⟨Q,c1⟩:=p;rw[hs]at h;refine wp_seq (wp_mono (hR.1 _ _ _ _ hs y' C N a w hy E.1 hM) ?_);rintro e' Z w' ⟨rfl,F⟩;cases Q with
   |n=>exact hR.1 _ _ _ _ h z' C N Z w' hz E.2 F
   |x id=>cases h;exact⟨rfl,F⟩
   |r=>cases h;exact⟨rfl,F⟩
 |cond k y z=>
  obtain⟨k',y',z',rfl,hk,hy,hz⟩:=xfx (by simpa[RC.er]using L);simp only[RC.ok,az]at E;simp only[dM]at h;unfold cnd at h;split at h<;>try (cases h;done)
  rename_i t ht
  have hv:a.eval k'= .bool t:=by obtain⟨x,s,a0,hS⟩:=hM;have O:=aK a0 hk;rw[hS.ev,ht]at O;exact O.bool_inv
  refine wp_cond_split hv (fun e=> ?_) (fun e=> ?_)
  ·subst e
   rw[if_pos rfl]at h;exact hR.1 _ _ _ _ h y' C N a w hy E.1 hM
  ·subst e
   rw[if_neg (by simp)]at h;exact hR.1 _ _ _ _ h z' C N a w hz E.2 hM
 |block id b=>
  obtain⟨b',rfl,hb⟩:=Gm (by simpa[RC.er]using L);simp only[dM]at h;cases hs:gB T n b c with
  |none=>rw[hs]at h;cases h
  |some p=>
   obtain⟨Q,c1⟩:=p;rw[hs]at h;refine wp_block (wp_mono (hR.1 _ _ _ _ hs b' C N a w hb E hM) ?_);rintro e' Z w' ⟨rfl,F⟩;cases Q with
   |n=>cases h;exact⟨rfl,F⟩
   |r=>cases h;exact⟨rfl,F⟩
   |x a1=>
    simp only[blk]at h;simp only[Ex.out,Exit.inBlock];split at h<;>rename_i U
    ·cases h;rw[if_pos U];exact⟨rfl,F⟩
    ·cases h;rw[if_neg U];exact⟨rfl,F⟩
 |loop b=>exact absurd rfl (hl b)
 |bad=>cases h
 |pre W y=>
  simp only[dM]at h;cases hs:iu c W with
  |none=>rw[hs]at h;cases h
  |some c1=>rw[hs]at h;exact hR.1 _ _ _ _ h code C N a w (by simpa[RC.er]using L) E (ka hM hs)
 |post y W=>
  simp only[dM]at h;cases hs:gB T n y c with
  |none=>rw[hs]at h;cases h
  |some p=>
   obtain⟨Q,c1⟩:=p;rw[hs]at h;refine wp_mono (hR.1 _ _ _ _ hs code C N a w (by simpa[RC.er]using L) E hM) ?_;rintro e' Z w' ⟨rfl,F⟩;cases Q with
   |n=>
    simp only[psD]at h;split at h
    ·rename_i c2 h2;cases h;exact⟨rfl,ka F h2⟩
    ·cases h
   |x id=>cases h;exact⟨rfl,F⟩
   |r=>cases h;exact⟨rfl,F⟩
theorem wm:uc P T 0:=⟨fun r c e c' h=>by simp[gB]at h,fun b c e c' h=>by simp[gB]at h⟩
theorem wn{n:Nat}(hR:uc P T n)(F:fZ P (eQ T n)):uc P T (n+1):=by
 have I:∀(b:RC)(c:CSt)(e:Ex)(c':CSt),gB T (n+1) (.loop b) c=some (e,c')->∀(code:Code)(C:Ctx)(N:Nat)(a:Act)(w:World),cu P code=b.er->b.ok N=true->M C N c a w->Code.rounds P code (EQ C N e c') (n+1) a w:=by
  intro b c e c' h code C N a w E y hM;rw[gB]at h;simp only[dM]at h;rw[rounds_succ];cases hs:gB T n b c with
  |none=>rw[hs]at h;cases h
  |some p=>
   obtain⟨L,c1⟩:=p;rw[hs]at h;refine wp_mono (hR.1 _ _ _ _ hs code C N a w E y hM) ?_;rintro W Q w' ⟨rfl,z⟩;cases L with
   |n=>exact hR.2 _ _ _ _ h code C N Q w' E y z
   |x id=>cases h;exact⟨rfl,z⟩
   |r=>cases h;exact⟨rfl,z⟩
 refine⟨fun r c e c' h code C N a w E y hM=> ?_,I⟩
 by_cases J:∃b,r= .loop b
 ·obtain⟨b,rfl⟩:=J
  obtain⟨U,rfl,O⟩:=SH (by simpa[RC.er]using E);exact wp_loop_rounds (n+1) (I b c e c' h U C N a w O y hM)
 ·rw[gB]at h
  exact ui hR F h (fun b e=>J ⟨b,e⟩) E y hM
def xl2(P:Program):ResultVar->RV->Prop
 | .tmp t,.tmp t'=>t=t'
 | .cell t ty,.cell t' n ag=>t=t'/\fi P ty=some n/\qB P ty=some ag
 |_,_=>False
def D7(P:Program):List ResultVar->List RV->Prop
 |[],[]=>True
 |a::r,b::s=>xl2 P a b/\D7 P r s
 |_,_=>False
theorem sx(E:Sim N c s):∀{rs:List ResultVar}{Q:List RV}{vs:LAa},D7 P rs Q->rm c Q=some vs->∃p,wq P s rs=some (p,vs)/\p
 |[],[],vs,_,h=>by cases h;exact⟨True,rfl,trivial⟩
 |[],_::_,_,h,_=>h.elim
 |_::_,[],_,h,_=>h.elim
 | .tmp t::r,.tmp t'::q,vs,h,hv=>by obtain⟨I,F⟩:=h;have I:t=t':=I;subst I;simp only[rm]at hv;split at hv<;>cases hv;rename_i L y;obtain⟨p,O,J⟩:=sx E F y;exact⟨p,by simp only[wq,O,E.get],J⟩
 | .cell t ty::r,.cell t' n ag::q,vs,h,hv=>by
  obtain⟨⟨rfl,W,g2⟩,F⟩:=h;simp only[rm]at hv;split at hv<;>cases hv;rename_i v L Z y;obtain⟨p,O,J⟩:=sx E F y
  have z:(if(ag||n==1)=true then l7 c n ag (c.get t)else none)=some v:=by
   rw[<-Z]
   congr 1
   simp
  split at z
  ·rename_i hc
   obtain⟨p',h5,U⟩:=vb E z;refine⟨p'/\p, ?_,U,J⟩;simp only[wq,W,g2,O,E.get];rw[if_pos hc,h5]
  ·cases z
 | .tmp _::_,.cell _ _ _::_,_,h,_=>h.1.elim
 | .cell _ _::_,.tmp _::_,_,h,_=>h.1.elim
def OE(us:LAd):Value:=if h:us.toArray.size=1 then us.toArray[0]else .tuple us.toArray
theorem OF{vs:LAa}{us:LAd}(h:cD x vs us):Rep x (jo vs) (OE us):=by
 have y:=h.1;unfold OE
 match vs,us,y with
 |[v],[u],_=>simpa[jo]using h.2 0 (by simp)
 |[],[],_=>simp only[jo];exact .tup _ _ h.1 h.2
 |v1::v2::vs,u1::u2::us,_=>simp only[jo];rw[dif_neg (by simp)];exact .tup _ _ h.1 h.2
theorem cY.sel{ob z:List (Nat×aC)}{tk E:LAb}(y:cY C x ob tk w){x2:Sit}(L:x2.G=x.G)(U:∀p∈z,dO x2 w p.1 p.2/\∃q∈ob,x2.bk p.1=x.bk q.1)(a0:(z.map cM).Nodup)
 (Q:∀p∈z,∀q∈z,(x2.bk p.1).1=(x2.bk q.1).1->p.1=q.1) (J:∀t∈E,(x2.τ t).2.1=(x2.τ t).2.2\/∃u∈tk,x2.τ t=x.τ u)
 (a1:∀t∈E,∀u∈E,t≠u->(x2.τ t).2.1=(x2.τ t).2.2\/(x2.τ u).2.1=(x2.τ u).2.2\/∃t'∈tk,∃Z∈tk,t'≠Z/\x2.τ t=x.τ t'/\x2.τ u=x.τ Z) (O:∀i,i<100->x2.bk i=x.bk i):cY C x2 z E w:=by
 refine⟨fun b o v I=>y.per b o v (by rw[<-L];exact I),fun b o v I=>by rw[L];exact y.g0 b o v I,fun b o v I=>y.gm b o v (by rw[<-L];exact I),y.new, ?_,a0,Q, ?_, ?_, ?_,y.os,y.tape,y.output,y.size,y.ext,
  fun i hi=>(O i hi).trans (y.pin i hi),y.lay⟩
 ·intro p hp
  obtain⟨h1,q,hq,F⟩:=U p hp;obtain⟨_,h3,h4⟩:=y.obs q hq;exact⟨h1,by rw[F];exact h3,fun off=>by rw[L,F];exact h4 off⟩
 ·intro t W
  rcases J t W with h|⟨u,hu,h⟩
  ·exact .inl h
  ·have:=y.tks u hu
   unfold gY at this ⊢;rw[h,L];exact this
 ·intro t W p hp
  obtain⟨_,q,hq,F⟩:=U p hp;rcases J t W with h|⟨u,hu,h⟩
  ·exact .inr h
  ·rw[h,F];exact y.tko u hu q hq
 ·intro t W u hu a2
  rcases a1 t W u hu a2 with h|h|⟨t',ht',Z,hu',hne,h1,F⟩
  ·exact .inr (.inl h)
  ·exact .inr (.inr h)
  ·rw[h1,F];exact y.tkd t' ht' Z hu' hne
theorem eN{p:Nat×aC}:∀{l:List aC}{k:Nat},p∈fP k l↔∃i,i<l.length/\p.1=k+i/\p.2=l.getD i (.rc [])
 |[],k=>by simp[fP]
 |o::r,k=>by
  simp only[fP,al,eN];constructor
  ·rintro(rfl|⟨i,y,z,h⟩)
   ·exact⟨0,by simp,rfl,rfl⟩
   ·exact⟨i+1,by simpa using y,by omega,by simpa using h⟩
  ·rintro⟨i,y,z,h⟩
   cases i with
   |zero=>left;exact Prod.ext (by simpa using z) (by simpa using h)
   |succ i=>exact .inr ⟨i,by simpa using y,by omega,by simpa using h⟩
theorem ip:∀(l:List aC)(k:Nat),((fP k l).map cM).Nodup
 |[],_=>by simp[fP]
 |o::r,k=>by simp only[fP,aE,dU];refine⟨fun h=> ?_,ip r (k+1)⟩;obtain⟨p,y,e⟩:=aR.1 h;obtain⟨i,_,z,_⟩:=eN.1 y;omega
theorem CV(n i:Nat)(h:i<n):(kU n).getD i 0=i:=by
 have z:∀n,(kU n).length=n:=by
  intro n;induction n with
  |zero=>rfl
  |succ n y=>simp[kU,y]
 induction n with
 |zero=>omega
 |succ n y=>
  simp only[kU,aa,List.getElem?_append,z]
  by_cases hi:i<n
  ·rw[if_pos hi,<-aa,y hi]
  ·rw[if_neg hi];have:i-n=0:=by omega
   rw[this];simp;omega
theorem DM{keep raw:LAb}{k:Nat}{vs:LAa}{us:LAd}{q:dZ}(hM:aL C x s a w)(hS:Sim N c s)(hk:k<=40)(hv:cD x vs us)(h:Si keep k (eD c vs (iP raw 0 vs))=some q):
 ∃x',Rep x' q.r (OE us)/\cY C x' q.os q.tk w/\(∀p∈q.os,p.2.wf=true)/\∀i,i<100->x'.bk i=C.β0 i:=by
 obtain⟨x1,s1,c7,a7,W⟩:=jf (l:=iP raw 0 vs) hM hS hv;generalize eD c vs (iP raw 0 vs)=z at h a7 W;obtain⟨c1,b2⟩:=z;simp only at a7 W;simp only[Si]at h;have hE:=a7.exact c7;cases hb:(decide (k=0)&&(SV.idsL b2).isEmpty&&keep.isEmpty)with
 |true=>rw[hb]at h;simp only[ON,aq.injEq]at h;subst h;refine⟨x1, ?_,hE.heap.only (by simp) (by simp) (by simp),by simp,fun i hi=>hE.heap.pin i hi⟩;refine OF ?_;rw[kx];refine⟨by simpa using W.1,fun i hi=> ?_⟩;rw[aU _ (by rfl)];exact(W.2 i (by simpa using hi)).bare rfl rfl
 |false=>
  rw[hb]at h;simp only[ON]at h;generalize hz:jS c1.tk keep 60 0 b2=z at h;obtain⟨a1,E⟩:=z;simp only[xaj]at h;generalize dB c1 60 [] (kU k++SV.idsL a1)=m at h;cases ho:gw c1 m with
  |none=>rw[ho]at h;cases h
  |some Z=>
   rw[ho]at h;simp only[xai]at h;generalize a6:dT c1.tk (60+E.length) Z=z2 at h;obtain⟨os,F⟩:=z2;simp only[xah]at h;cases hb2:(oe (SV.idsL a1++fz os) m&&dr m&&dr (cx (E++F))&&decide (m.take k=kU k)&&(m.drop k).all fun o=>decide (k<=o))with
   |false=>rw[hb2]at h;cases h
   |true=>
    rw[hb2]at h;simp only[xag,aq.injEq]at h;subst h;simp only[az,decide_eq_true_eq,aT]at hb2;obtain⟨⟨⟨⟨b5,d9⟩,d8⟩,a0⟩,a9⟩:=hb2;obtain⟨e4,c6⟩:=pH ho;have a2:=ux b5;have b7:=jp d9;have b4:=jp d8
    have d4:∀n,(kU n).length=n:=by
     intro n;induction n with
     |zero=>rfl
     |succ n ih=>simp[kU,ih]
    have e1:k<=m.length:=by have:=congrArg List.length a0;rw[aw,d4]at this;omega
    have a5:∀i,i<k->m.getD i 0=i:=by
     intro i hi;have J:(m.take k).getD i 0=m.getD i 0:=by simp only[aa,bJ,if_pos hi]
     rw[<-J,a0,CV k i hi]
    have b3:∀i,k<=i->i<m.length->k<=m.getD i 0:=by
     intro i J O;refine a9 _ ?_
     have:m.getD i 0=(m.drop k).getD (i-k) 0:=by simp only[aa,br];congr 2;omega
     rw[this];exact fH (by rw[aI];omega)
    let τ2:Nat->Nat×Nat×Nat:=fun t=>if 60<=t/\t<60+(E++F).length then O5 x1 ((E++F).getD (t-60) none)else(0,0,0)
    let x2:Sit:=⟨x1.G,x1.bk,τ2⟩
    let x3:Sit:=⟨x1.G,fun i=>if i<100 then x1.bk i else x1.bk (m.getD (i-100) 0),τ2⟩
    have hτ:∀y:Sit,y.τ=τ2->nV x1 y 60 (E++F):=by
     intro y hy j hj;rw[hy];show(if _ then _ else _)=_;rw[if_pos ⟨by omega,by omega⟩]
     congr 2;omega
    have I:∀i,i<m.length->(m.getD i 0,Z.getD i (.rc []))∈c1.ob:=fun i hi=>jb (c6 i hi)
    have hβ:∀o∈m,x3.bk (gQ k m o)=x1.bk o:=by
     intro o ho;unfold gQ;split
     ·rename_i e2
      show(if _ then _ else _)=_;rw[if_pos (by omega)]
     ·show(if _ then _ else _)=_
      rw[if_neg (by omega)];have e:100+gE m o-100=gE m o:=by omega
      rw[e,(mr ho).2]
    have c3:=hτ x2 rfl
    have c4:cD x2 a1 us:=by have:=lT (x:=x1) (x1:=x2) rfl rfl (tk:=c1.tk) (own:=keep) (j:=60) (i:=0) W (by rw[hz];exact c3.left);rwa[hz]at this
    have e0:Rep x3 ((jo a1).ren (gQ k m) id) (OE us):=by
     refine Rep.renF (x:=x2) (x2:=x3) (fun _ _ _ h=>h) (OF c4) (fun j hj=>hβ j (a2 j (ak.2 (.inl ?_)))) (fun t _=>rfl)
     have d7:∀l:LAa,∀j∈(jo l).ids,j∈SV.idsL l:=by
      intro l j hj
      match l with
      |[]=>exact hj
      |[v]=>simpa[jo,SV.idsL]using hj
      |v::u::r=>exact hj
     exact d7 a1 j hj
    obtain⟨a8,a3⟩:=lr (x:=x1) (x1:=x2) (w:=w) rfl rfl (tk:=c1.tk) (obs:=Z) (j:=60+E.length) (f:=fun i=>m.getD i 0)
     (fun i hi=>(hE.heap.obs _ (I i (by omega))).1) (by rw[a6];exact c3.right)
    rw[a6]at a8 a3;simp only at a8 a3
    have d3:∀o∈os,o.wf=true:=by
     intro o d5
     have:=mH (tk:=c1.tk) (obs:=Z) (j:=60+E.length) (fun o h'=>by obtain⟨i,hi,rfl⟩:=bY h';have:=a7.inv.wf _ (I i (by omega));simpa[aa,ab hi]using this) o (by rw[a6];exact d5)
     exact this
    have L:∀p∈fP 0 (dX (gQ k m) id (os.take k))++fP (100+k) (dX (gQ k m) id (os.drop k)),∃i,i<m.length/\p.1=gQ k m (m.getD i 0)/\p.2=(os.getD i (.rc [])).ren (gQ k m) id/\os.getD i (.rc [])∈os:=by
     intro p U
     have gd:∀{l:List aC}{i:Nat},i<l.length->(dX (gQ k m) id l).getD i (.rc [])=(l.getD i (.rc [])).ren (gQ k m) id:=by intro l i hi;rw[gg,aa,aa,aP,ab hi];rfl
     have gm:∀{i:Nat},i<os.length->os.getD i (.rc [])∈os:=fun{i} hi=>by rw[aa,ab hi];exact bx _
     rcases ak.1 U with U|U
     ·obtain⟨i,J,O,h3⟩:=eN.1 U
      rw[gg,aS,aw]at J;have e:(os.take k).getD i (.rc [])=os.getD i (.rc []):=by simp only[aa,bJ,if_pos (show i<k by omega)]
      refine⟨i,by omega, ?_, ?_,gm (by omega)⟩
      ·rw[O,a5 i (by omega)];unfold gQ;rw[if_pos (by omega)];omega
      ·rw[h3,gd (by rw[aw];omega),e]
     ·obtain⟨i,J,O,h3⟩:=eN.1 U
      rw[gg,aS,aI]at J;have hi:k+i<m.length:=by omega
      have e:(os.drop k).getD i (.rc [])=os.getD (k+i) (.rc []):=by simp only[aa,br]
      refine⟨k+i,hi, ?_, ?_,gm (by omega)⟩
      ·have h5:=b3 (k+i) (by omega) hi
       have h6:=mr (fH hi);have h7:gE m (m.getD (k+i) 0)=k+i:=lu b7 h6.1 hi h6.2;unfold gQ;rw[if_neg (by omega),h7,O];omega
      ·rw[h3,gd (by rw[aI];omega),e]
    have d6:∀t∈cx (E++F),t∈c1.tk:=by
     intro t Q;rw[fx,ak]at Q;rcases Q with Q|Q
     ·exact oc (tk:=c1.tk) (own:=keep) (cs:=b2) (j:=60) (i:=0) t (by rw[hz];exact Q)
     ·exact mI (tk:=c1.tk) (obs:=Z) (j:=60+E.length) t (by rw[a6];exact Q)
    have a4:∀t∈tks 60 (E.length+F.length),(x3.τ t).2.1=(x3.τ t).2.2\/∃u,(E++F).getD (t-60) none=some u/\u∈c1.tk/\x3.τ t=x1.τ u:=by
     intro t Q;obtain⟨J,O⟩:=jA.1 Q;have e:=hτ x3 rfl (t-60) (by rw[ac];omega);rw[show 60+(t-60)=t by omega]at e;cases hu:(E++F).getD (t-60) none with
     |none=>rw[hu]at e;rw[e];exact .inl rfl
     |some u=>rw[hu]at e;exact .inr ⟨u,rfl,d6 u (iE hu),e⟩
    refine⟨x3,e0,hE.heap.sel (x2:=x3) rfl ?_ ?_ ?_ ?_ ?_ ?_, ?_, ?_⟩
    ·intro p U
     obtain⟨i,J,O,h3,h4⟩:=L p U;have b8:=fH J;refine⟨?_,_,I i J,by rw[O];exact hβ _ b8⟩;rw[O,h3];exact(a3 i (by omega)).renF (x2:=x3) (fun _ _ _ h=>h) (hβ _ b8) (fun j hj=>hβ j (a2 j (ak.2 (.inr (oM h4 j hj))))) (fun t _=>rfl)
    ·rw[cV,List.nodup_append]
     refine⟨ip _ _,ip _ _,fun u hu v hv e=> ?_⟩;obtain⟨p,U,rfl⟩:=aR.1 hu;obtain⟨r,hr,rfl⟩:=aR.1 hv;obtain⟨i,J,O,_⟩:=eN.1 U;obtain⟨j,h3,h4,_⟩:=eN.1 hr;rw[gg,aS,aw]at J;omega
    ·intro p U r hr b6
     obtain⟨i,J,O,_⟩:=L p U;obtain⟨j,h3,h4,_⟩:=L r hr;rw[O,h4,hβ _ (fH J),hβ _ (fH h3)]at b6;have:=hE.heap.inj _ (I i J) _ (I j h3) b6;simp only at this;rw[O,h4,this]
    ·intro t Q
     rcases a4 t Q with g|⟨u,_,g1,g2⟩
     ·exact .inl g
     ·exact .inr ⟨u,g1,g2⟩
    ·intro t Q u hu e3
     rcases a4 t Q with g|⟨t',g0,g1,g2⟩
     ·exact .inl g
     ·rcases a4 u hu with g|⟨u',k0,k1,k2⟩
      ·exact .inr (.inl g)
      ·refine .inr (.inr ⟨t',g1,u',k1,m0 b4 ?_ g0 k0,g2,k2⟩)
       have:=jA.1 Q;have:=jA.1 hu;omega
    ·intro i hi
     show(if _ then _ else _)=_;rw[if_pos hi]
    ·intro p U
     obtain⟨i,J,O,h3,h4⟩:=L p U;rw[h3];exact xE (d3 _ h4)
    ·intro i hi
     show(if _ then _ else _)=_;rw[if_pos hi];exact hE.heap.pin i hi
structure bN(P:Program)(g:Nat)(F:FnC):Prop where
 fn:∃fn,P.funcs[g]? =some fn/\fn.body.map (cu P)=some F.code.er/\fn.ntmps=F.n/\D7 P fn.results.toList F.rs
 cb:ej P g=true
 ok:F.code.ok F.n=true
def pm(P:Program)(T:ix):Prop:=∀g b,T.fn g=some b->match b with
 | .code F=>bN P g F
 | .prim f=>∀a_ os k q,f a_ os k=some q->lz P g a_ os k (· =q)
theorem CN(os:List aC):∀o,(idx os).lookup o=iD (fP 0 os) o:=by
 intro o;have I:((idx os).map cM).Nodup:=mL os;have F:=ip os 0
 have E:∀p,p∈idx os↔p∈fP 0 os:=by
  intro p;rw[iL,eN];constructor
  ·rintro⟨h,z⟩;exact⟨p.1,h,by omega,z⟩
  ·rintro⟨i,h,z,J⟩
   have e:p.1=i:=by omega
   rw[e];exact⟨h,J⟩
 rw[ir];refine sL (fun v y=> ?_) (fun v y=> ?_)
 ·exact i6 (p:=(o,v)) F ((E _).1 (jb y))
 ·exact i6 (p:=(o,v)) I ((E _).2 (jb y))
theorem rB(n:Nat):∀(l:LAa)(i:Nat),eh (nC i l) n=if i<=n then l.getD (n-i) .undef else .undef
 |[],i=>by simp[nC,eh]
 |v::r,i=>by
  simp only[nC,eh,rB n r (i+1)]
  by_cases h:i=n
  ·subst h;simp
  ·rw[if_neg h]
   by_cases y:i<=n
   ·rw[if_pos y,if_pos (by omega)]
    obtain⟨k,z⟩:∃k,n-i=k+1:=⟨n-i-1,by omega⟩;rw[z,cz];congr 1;omega
   ·rw[if_neg y,if_neg (by omega)]
theorem ry{p:Nat×SV}:∀{l:LAa}{i:Nat},p∈nC i l->p.1<i+l.length
 |v::r,i,h=>by
  simp only[nC]at h;rcases al.1 h with e|e
  ·rw[e];simp
  ·have:=ry e;simp only[aA];omega
theorem uy:∀(l:List aC)(k:Nat),((fP k l).map cM).Pairwise (· < ·)
 |[],_=>by simp[fP]
 |o::r,k=>by simp only[fP,aE,bI];refine⟨fun n hn=> ?_,uy r (k+1)⟩;obtain⟨p,h,rfl⟩:=aR.1 hn;obtain⟨i,_,y,_⟩:=eN.1 h;omega
theorem nb{n:Nat}(hR:uc P T n)(hT:pm P T):fZ P (eQ T n):=by
 intro g a_ os k q z;unfold eQ at z;cases hg:T.fn g with
 |none=>rw[hg]at z;cases z
 |some b=>
  have hb:=hT g b hg;cases b with
  |prim f=>rw[hg]at z;exact hb a_ os k q z
  |code F=>
   rw[hg]at z;simp only[nI,EB]at z;obtain⟨⟨fn,a4,y,Z,a7⟩,a2,a6⟩:=hb;refine⟨a2, ?_⟩;split at z
   case isFalse=>cases z
   rename_i b2;intro C x w vs a9 a8 a3 U a1 hH E;cases hbd:fn.body with
   |none=>simp[hbd]at y
   |some code=>
    simp only[hbd,cS]at y;refine calls_of_wp a4 hbd ?_;have hl:=E.1
    let s0:St:=⟨a_++ao (F.n-a_.length) .undef,idx os,tks 50 k⟩
    have a5:aL C x s0 {tmps:=(⟨vs⟩:LAe)++dR (fn.ntmps-(⟨vs⟩:LAe).size) undef,defers:=[]} w:=by
     refine⟨?_,rfl,hH⟩
     have e1:((⟨vs⟩:LAe)++dR (fn.ntmps-(⟨vs⟩:LAe).size) undef).toList=vs++ao (F.n-a_.length) undef:=by simp[Z,hl]
     rw[e1];refine E.append ⟨by simp,fun i hi=> ?_⟩;rw[ft _ _ _ _ (by simpa using hi)];exact .undef _
    have a0:Sim F.n (qX a_ os k) s0:=by
     refine⟨⟨fun p hp=> ?_,uy os 0,fun p hp=> ?_⟩, ?_,fun o=>CN os o,fun t=>Iff.rfl⟩
     ·have:=ry hp;omega
     ·obtain⟨i,h1,_,h3⟩:=eN.1 hp
      rw[h3,aa,ab h1];exact a1 _ (bx _)
     ·apply List.ext_getElem?
      intro i;show(a_++ao (F.n-a_.length) SV.undef)[i]? =_;rw[aP];rcases bO i F.n with hi|hi
      ·rw[cP hi]
       have e:(qX a_ os k).get i=a_.getD i .undef:=by show eh (nC 0 a_) i=_;rw[rB];simp
       simp only[bl,e,List.getElem?_append,List.getElem?_replicate]
       by_cases h:i<a_.length
       ·rw[if_pos h,aa,ab h];rfl
       ·rw[if_neg h,if_pos (by omega),aa,kf (by omega)];rfl
      ·rw[kf (by simp;omega),kf (by simpa using hi)];rfl
    cases hs:gB T n F.code (qX a_ os k)with
    |none=>rw[hs]at z;cases z
    |some p=>
     obtain⟨e,c1⟩:=p;rw[hs]at z;refine wp_mono (hR.1 _ _ _ _ hs code C F.n _ w (by simpa using y) a6 ⟨x,s0,a5,a0⟩) ?_;rintro e' a' w' ⟨rfl,x1,s1,J,Q⟩
     have I:OO F.keep F.raw os.length c1 (rm c1 F.rs)=some q->a'.defers=[]/\∃v,(results fn a'.tmps).run P w'= .ok v w'/\∃v',∃x':Sit,∃O,Ending.returned v= .returned v'/\O=q/\Rep x' O.r v'/\cY C x' O.os O.tk w'/\(∀p∈O.os,p.2.wf=true)/\∀i,i<os.length->x'.bk i=x.bk i:=by
      intro W;cases hrc:rm c1 F.rs with
      |none=>rw[hrc]at W;cases W
      |some rv=>
       rw[hrc]at W;obtain⟨p,h1,h2⟩:=sx (P:=P) Q a7 hrc;obtain⟨us,L,hl⟩:=qd J h1 h2;obtain⟨x',g1,g2,g3,g4⟩:=DM J Q U hl W;refine⟨J.defers,OE us, ?_,OE us,x',q,rfl,rfl,g1,g2,g3,fun i hi=> ?_⟩
       ·rw[wo,Array.mapM_eq_mapM_toList]
        simp only[ay,Sem.run_map,L,aj,aD];rfl
       ·rw[g4 i (by omega)];exact(hH.pin i (by omega)).symm
     cases e with
     |n=>exact I z
     |r=>exact I z
     |x id=>cases z
theorem O7(hT:pm P T):∀n,uc P T n
 |0=>wm
 |n+1=>wn (O7 hT n) (nb (O7 hT n) hT)
theorem o8(hT:pm P T):fZ P (call T):=by intro g a_ os k q h;obtain⟨n,hn⟩:=oL h;exact nb (O7 hT n) hT g a_ os k q hn
theorem Sf(hT:pm P T){g:Nat}{a_:LAa}{r:SV}(h:call T g a_ [] 0=some ⟨r,[],[]⟩)(Z:r.toks=[]):Fn P g a_ r:=by obtain⟨I,F⟩:=o8 hT _ _ _ _ _ h;refine⟨I,fun C x w vs U Q J hl z O=> ?_⟩;refine(F C x w vs U Q (fun b L=>(J b L).imp id (fun⟨i,hi,_⟩=>by simp at hi)) (by simp) (by simp) z O).mono ?_;rintro en w' ⟨v,x',q,rfl,rfl,E,y,_,W⟩;exact⟨v,x',r,[],rfl,⟨rfl,rfl⟩,E,by rw[Z];exact y,W⟩
def Tr(P:Program):ResultVar->RV->Bool
 | .tmp t,.tmp t'=>decide (t=t')
 | .cell t ty,.cell t' n ag=>decide (t=t')&&decide (fi P ty=some n)&&decide (qB P ty=some ag)
 |_,_=>false
def qb(P:Program):List ResultVar->List RV->Bool
 |[],[]=>true
 |a::r,b::s=>Tr P a b&&qb P r s
 |_,_=>false
theorem uC:∀{rs:List ResultVar}{z:List RV},qb P rs z=true->D7 P rs z
 |[],[],_=>trivial
 |[],_::_,h=>by cases h
 |_::_,[],h=>by cases h
 |a::r,b::s,h=>by
  simp only[qb,az]at h;refine⟨?_,uC h.2⟩;have y:=h.1;cases a<;>cases b<;>simp only[Tr,az,decide_eq_true_eq]at y<;>first|(cases y;done)|skip
  ·exact y
  ·exact⟨y.1.1,y.1.2,y.2⟩
theorem mz{g:Nat}{F:FnC}{fn:Func}(y:P.funcs[g]? =some fn)(h:fn.body.map (cu P)=some F.code.er)(z:fn.ntmps=F.n)(J:qb P fn.results.toList F.rs=true)(I:ej P g=true)(E:F.code.ok F.n=true):bN P g F:=
 ⟨⟨fn,y,h,z,uC J⟩,I,E⟩
end Go.Sy
namespace Go.Sy
variable [aX]
open Go.RowKit Go.ChangeShapes Go.WideShapes
def GW(w:World):GM:=fun b o=>w.cell? ⟨b,o,none⟩
def uB(w:World):Sit:=⟨GW w,fun _=>(0,0),fun _=>(0,0,0)⟩
theorem xix(w:World)(hL:Lay (GW w)):cY ⟨w,GW w,fun b=>w.heap.size<=b,fun _=>(0,0)⟩ (uB w) [] [] w where
 per:=fun _ _ _ h=>h
 g0:=fun _ _ _ h=>h
 gm:=fun _ _ _ h=> .inl h
 new:=fun _ h=>h
 obs:=by simp
 nd:=List.nodup_nil
 inj:=by simp
 tks:=by simp
 tko:=by simp
 tkd:=by simp
 os:=rfl
 tape:=rfl
 output:=rfl
 size:=aN _
 ext:=fun _ _=>rfl
 pin:=fun _ _=>rfl
 lay:=hL
theorem si{x:Sit}{b:Bool}{v:Value}(h:Rep x (.bool b) v):v= .bool b:=by
 cases h with
 |dat _ _ h _=>cases h;rfl
theorem Du{P:Program}{f:Nat}{a_:LAa}(h:Fn P f a_ (.bool true)){W:World}{vs:LAd}(J:cD (uB W) a_ vs)(hL:Lay (GW W)):
 Calls P f ⟨vs⟩ W fun e z=>e= .returned (.bool true)/\Below W.heap.size W z:=by
 refine(h.2 ⟨W,GW W,fun b=>W.heap.size<=b,fun _=>(0,0)⟩ (uB W) W vs rfl rfl (fun b I=> .inl I) (by simp) (xix W hL) J).mono ?_;rintro e z ⟨v,x',r,F,rfl,⟨rfl,rfl⟩,E,y,_⟩;obtain rfl:=si E;exact⟨rfl,y.os,y.tape,y.output,y.size,fun k L=>y.ext k (by simp;omega)⟩
section
variable {H : Type} {enc : TypeId × Value -> H} {P : Program} {w : World} {base : Nat} {sp : Nat -> Bool} {hd : Bool} {r : Reach} {b0 : Nat} {t e : TypeId} {v : Value} {d : DataW H} {ps : List MemPlace}
theorem Ta{k:IntKind}(E:P.underlying t=some (.int k))(y:Value.okWide P w r b0 t v)(h:DataW.Trod enc P w base sp hd t v d ps):∃n,k.has n/\Rep (uB w) (.int k n) v:=by obtain⟨n,rfl,_,_,z⟩:=open_int E y h;simp only[Lit.wf,az,decide_eq_true_eq]at z;exact⟨n,z,.dat _ _ (.int k n) trivial⟩
theorem vT{a:Addr}{len cap:Nat}(y:P.underlying t=some (.slice e))(h:Value.okWide P w r b0 t (.slice (some a) len cap)):a.spot=none:=by simp only[Value.okWide,y,Cell.okWide,Cell.ok]at h;exact h.2.2.2.1
theorem xcz{n:Int}(h:(Lit.int .u8 n).wf=true):((gy n.toNat).toNat:Int)=n:=by
 simp only[Lit.wf,IntKind.min,IntKind.max,IntKind.signed,IntKind.bits,az,decide_eq_true_eq]at h;rw[UInt8.toNat_ofNat'];have:n.toNat<256:=by simp at h;omega
 rw[dp this];simp at h;omega
theorem kO(F:P.underlying t=some (.slice e))(U:P.underlying e=some (.int .u8))(Z:P.cellsOf e=1)(z:Value.okWide P w r b0 t v)(h:DataW.Trod enc P w base sp hd t v d ps):
 ∃l:t7,l.length<=maxLen/\Rep (uB w) (.byt l .no) v:=by
 obtain⟨a0,len,cap,rfl⟩:=okWide_slice F z;obtain⟨J,W⟩:=h;rcases open_ints F U Z W with⟨y,_⟩|⟨a,len',cap',zs,y,_,hl,hm,hz,_,hcell,hwf⟩
 ·simp[Value.cells]at y
  obtain⟨rfl,rfl,rfl⟩:=y;exact⟨[],by simp,.dat _ _ (.bytN .no) trivial⟩
 ·simp[Value.cells]at y
  obtain⟨rfl,rfl,rfl⟩:=y;have L:=vT F z;obtain⟨b,off,O⟩:=a;simp only at L;subst L;have hzl:len<=zs.length:=by rw[hz];split<;>omega
  refine⟨(zs.take len).map fun n=>gy n.toNat,by simp;omega,.dat _ _ (.byt _ .no b off cap len (by simp;omega) hl (fun i hi=> ?_)) trivial⟩;have I:=hcell i (by omega);have E:i<zs.length:=by omega
  rw[add_plain]at I
  have Q:((zs.take len).map fun n=>gy n.toNat).getD i 0=gy (zs.getD i 0).toNat:=by simp[aa,E,hi]
  show w.cell? _=_;rw[I,Q]
  congr 2
  refine(xcz (hwf _ ?_)).symm;rw[aa,ab E];exact bx E
end
theorem FB{x:Sit}:cD x [] []:=⟨rfl,by simp⟩
section
variable {H : Type} {enc : TypeId × Value -> H} {P : Program}
theorem FK{f:Func}{s:ChangeSpec}{E fresh h O:Bool}{W Q:World}{args:LAe}{v:Value}{U gs:List (DataW H)}{before pa pv:List MemPlace}
 (hW:DataW.Whole enc P f.params.toList s.vars E W args.toList U gs before)
 (J:∀(b:Nat)(sp:Nat->Bool)(hd:Bool),DataW.TrodAll enc P Q b sp hd f.resultTypes.toList (v.resultList f.resultTypes.size) (s.fn H (U++gs)).results [])
 (y:∀sp:Nat->Bool,(∀p∈before,sp p.block=true)->DataW.TrodAll enc P Q 0 sp true f.params.toList args.toList (s.fn H (U++gs)).args pa)
 (z:∀sp:Nat->Bool,(∀p∈before,sp p.block=true)->DataW.TrodVars enc P Q sp s.vars (s.fn H (U++gs)).vars pv)
 (F:before=pa++pv) (hb:Below W.heap.size W Q)
 (a1:∀(j:Nat)(t:TypeId)(r:Value),f.resultTypes[j]? =some t->(v.resultList f.resultTypes.size)[j]? =some r->Value.okWide P Q .any 0 t r):
 s.post enc P f E fresh h O W args v Q:=by
 have a0:=hW.lt;have L:∀p∈before,(fun b=>decide (b<W.heap.size)) p.block=true:=fun p I=>by simpa using a0 p I
 refine⟨U,gs,before,[],pa,pv,hW,J _ _ _,y _ L,z _ L,World.keptBut_mono (fun p I=>⟨I, ?_⟩) (hb.frame (· ∈before)),fun _=> ?_⟩
 ·rw[F,ak]at I
  exact Or.inr I
 ·obtain⟨_,_,_,_,_,hz,hn⟩:=hW
  refine⟨a1,_,_,([]++pa)++pv,⟨[]++pa,pv,trodAll_append (y _ (fun _ _=>rfl)) (J _ _ _),z _ (fun _ _=>rfl),rfl, ?_, ?_⟩, ?_⟩
  ·intro b off I
   have Z:MemPlace.cell b off∈before:=by rw[F];simpa using I
   rw[hb.frozen (p:=⟨b,off,none⟩) (a0 _ Z)];exact hz b off Z
  ·intro ha
   have:=hn ha;rw[F]at this;simpa using this
  ·intro p I _
   rw[F];simpa using I
theorem kW(F:laidOutB P=true){W E:World}(I:Below W.heap.size W E):∀{z:List TypeId}{vs:LAd}{J:List (DataW H)}{p:List MemPlace},(z.all fun t=>P.readableRec t&&decide (t<P.types.size))=true->
 DataW.TrodAll enc P W 0 (fun _=>true) true z vs J p->(∀x∈p,x.block<W.heap.size)->∀sp:Nat->Bool,(∀x∈p,sp x.block=true)->DataW.TrodAll enc P E 0 sp true z vs J p
 |[],_,_,_,_,h,_,_,_=>by obtain⟨rfl,rfl,rfl⟩:=trodAll_nil h;exact trodAll_mk0
 |t::z,_,_,_,hr,h,hlt,sp,hsp=>by obtain⟨v,U,d,L,a,b,rfl,rfl,rfl,Q,O⟩:=trodAll_cons h;simp only[iG,az,decide_eq_true_eq]at hr;refine trodAll_cons_mk ?_ (kW F I (by simpa using hr.2) O (fun x y=>hlt x (List.mem_append_right _ y)) sp (fun x y=>hsp x (List.mem_append_right _ y)));exact WideElems.Trod_stays F hr.1.1 hr.1.2 Q (fun x y=>I.same (hlt x (List.mem_append_left _ y))) (fun x y=>hsp x (List.mem_append_left _ y))
theorem F1{f:Func}{s:ChangeSpec}{W W':World}{args:LAe}{I gs:List (DataW H)}{before:List MemPlace}{tb:TypeId}(hl:laidOutB P=true)
 (hr:(f.params.toList.all fun t=>P.readableRec t&&decide (t<P.types.size))=true) (F:f.resultTypes= #[tb]) (E:P.underlying tb=some .bool) (h:s.vars=[])
 (Q:(s.fn H (I++gs)).results=[.lit (.bool true)]) (O:(s.fn H (I++gs)).args=I) (L:(s.fn H (I++gs)).vars=[])
 (Z:DataW.Whole enc P f.params.toList s.vars false W args.toList I gs before) (hb:Below W.heap.size W W'):
 s.post enc P f false true false false W args (.bool true) W':=by
 have J:=Z.lt;have z:=Z;obtain⟨p,q,hA,hV,rfl,U,a0⟩:=Z;rw[h]at hV;obtain⟨rfl,rfl⟩:=trodVars_none hV;simp only[bw]at J z U;refine FK (pa:=p) (pv:=[]) (before:=p) (gs:=[]) z (fun b sp hd=> ?_) (fun sp y=> ?_) (fun sp y=> ?_) (by simp) hb (ok_one F rfl (okWide_bool_mk E _))
 ·rw[Q,F]
  exact trodAll_cons_mk (shut_bool E _) trodAll_mk0
 ·rw[O]
  exact kW hl hb hr hA J sp y
 ·rw[h,L]
  rfl
end
end Go.Sy
namespace Go.Sy
variable [aX]
open Go.RowKit Go.ChangeShapes Go.WideShapes
variable {P : Program} {C : Ctx} {x : Sit} {w w' : World}
theorem eS.below{b:Nat}{c:LAe}{e:TypeId}{fl fh:Nat}(h:eS w b c e fl fh)(y:Below w.heap.size w w'):eS w' b c e fl fh:=h.of_heap (y.block b h.lt)
theorem cY.below{ob:List (Nat×aC)}{tk:LAb}(h:cY C x ob tk w)(y:Below w.heap.size w w'):cY C x ob tk w' where
 per:=fun b o v F=>by rw[dh (y.block b (h.ltG F))];exact h.per b o v F
 g0:=h.g0
 gm:=h.gm
 new:=h.new
 obs:=fun p J=>by obtain⟨⟨c,e,fl,fh,E,r⟩,q⟩:=h.obs p J;exact⟨⟨c,e,fl,fh,E.below y,r⟩,q⟩
 nd:=h.nd
 inj:=h.inj
 tks:=fun t I=>(h.tks t I).imp id fun⟨⟨c,e,fl,fh,E,r⟩,q⟩=>⟨⟨c,e,fl,fh,E.below y,r⟩,q⟩
 tko:=h.tko
 tkd:=h.tkd
 os:=y.os.trans h.os
 tape:=y.tape.trans h.tape
 output:=y.output.trans h.output
 size:=p6 h.size y.size
 ext:=fun b hn=>by
  rcases bO b w.heap.size with z|z
  ·rw[y.block b z];exact h.ext b hn
  ·exact absurd (h.new b (p6 h.size z)) hn
 pin:=h.pin
 lay:=h.lay
def iO(w:World)(l:t7)(v:Value):Prop:=
 (l=[]/\∃a,v= .slice a 0 0)\/∃b off n cap,v= .slice (some ⟨b,off,none⟩) n cap/\n=l.length/\∀i,i<n->w.cell? ⟨b,off+i,none⟩=some (.int .u8 (l.getD i 0).toNat)
theorem lx{l:t7}{t:Tok}{v:Value}(h:Rep x (.byt l t) v)(y:∀b o v,x.G b o=some v->w.cell? ⟨b,o,none⟩=some v):iO w l v:=by
 cases h with
 |dat _ _ h _=>
  cases h with
  |bytN=>exact .inl ⟨rfl,_,rfl⟩
  |bytE=>exact .inl ⟨rfl,_,rfl⟩
  |byt _ _ b off cap n hn z h=>exact .inr ⟨b,off,n,cap,rfl,hn,fun i hi=>y _ _ _ (h i hi)⟩
theorem xC{l:t7}{v:Value}(h:Rep x (.str l) v):v= .string ⟨⟨l⟩⟩:=by
 cases h with
 |dat _ _ h _=>cases h;rfl
theorem xgp{b:UInt8}{v:Value}(h:Rep x (.u8 b) v):v= .int .u8 b.toNat:=by
 cases h with
 |dat _ _ h _=>cases h;rfl
theorem jk{g:Nat}{a_:LAa}{r:SV}(y:ej P g=true)
 (h:∀(x:Sit)(w:World)(vs:LAd),cD x a_ vs->(∀b o v,x.G b o=some v->w.cell? ⟨b,o,none⟩=some v)->
  Calls P g ⟨vs⟩ w fun e w'=>∃v,e= .returned v/\Rep x r v/\Below w.heap.size w w'):lz P g a_ [] 0 (· =⟨r,[],[]⟩):=by
 refine⟨y,fun C x w vs W U O Q F z E=>(h x w vs E z.per).mono ?_⟩;rintro e w' ⟨v,rfl,J,I⟩;exact⟨v,x,_,rfl,rfl,J,z.below I,fun p L=>by simp at L,fun i hi=>rfl⟩
theorem jX{l:t7}{v:Value}(h:iO w l v):(Extern.Bytes.bytesOf v).run P w= .ok ⟨⟨l⟩⟩ w:=by
 rcases h with⟨rfl,a,rfl⟩|⟨b,off,n,cap,rfl,hn,hc⟩
 ·cases a<;>rfl
 ·have F:=Lib.run_loadBytesX (P:=P) w (l.map fun c=>(c.toNat:Int)) ⟨b,off,none⟩ .empty (fun j z E=>by
   have y:j<l.length:=by have:=(List.getElem?_eq_some_iff.1 E).1;simpa using this
   have e:(⟨b,off,none⟩:Addr).add j=⟨b,off+j,none⟩:=by unfold Addr.add;split<;>simp_all
   rw[e,hc j (by omega)];simp only[aP,ab y,bl,aq.injEq]at E;rw[aa,ab y,bp,<-E])
  have I:(⟨ByteArray.empty.data++(Lib.bytesOf (l.map fun c=>(c.toNat:Int))).toArray⟩:ByteArray)=⟨⟨l⟩⟩:=by
   apply ByteArray.ext;show(#[]:Array UInt8)++(Lib.bytesOf _).toArray=⟨l⟩
   have:Lib.bytesOf (l.map fun c=>(c.toNat:Int))=l:=by unfold Lib.bytesOf;rw[List.map_map];refine(List.map_congr_left (g:=id) fun c _=> ?_).trans (List.map_id _);simp
   rw[this];simp
  rw[aS,I]at F;rw[hn];exact F
theorem qc{a b:t7}{u v:Value}(h:iO w a u)(y:iO w b v):(Extern.BytealgCompare.compare #[u,v]).run P w= .ok (.int .i64 (Lib.compareBytes a b)) w:=by change Sem.run P (do pure (goInt (Extern.BytealgCompare.cmp (<-Extern.Bytes.bytesOf u) (<-Extern.Bytes.bytesOf v)))) w=_;simp only[ay,jX h,jX y,Result.andThen,aD,Lib.cmp_eq];rfl
def sS(l:t7)(c:UInt8):Int:=firstIdx ⟨⟨l⟩⟩ c
theorem um{l:t7}{u:Value}{c:UInt8}(y:iO w l u):(Extern.BytealgIndexByte.indexByte #[u,.int .u8 c.toNat]).run P w= .ok (.int .i64 (sS l c)) w:=by
 have h:=run_indexByte_string (P:=P) ⟨⟨l⟩⟩ c.toNat w
 change Sem.run P (do
  let b<-Extern.Bytes.bytesOf u
  let c'<-Extern.Bytes.asByte (.int .u8 c.toNat)
  match (bU b.size).find? fun i=>b[i]! ==c' with
  |some i=>pure (goInt i)
  |none=>pure (goInt (-1))) w=_
 change Sem.run P (do
  let b<-Extern.Bytes.bytesOf (.string ⟨⟨l⟩⟩)
  let c'<-Extern.Bytes.asByte (.int .u8 c.toNat)
  match (bU b.size).find? fun i=>b[i]! ==c' with
  |some i=>pure (goInt i)
  |none=>pure (goInt (-1))) w=_ at h
 have e:(((c.toNat:Nat):Int).toNat.toUInt8)=c:=by simp
 rw[e]at h;simp only[ay,jX y,Result.andThen]at h ⊢;exact h
end Go.Sy
namespace Go.Sy
variable [aX]
variable {T T' : ix}
end Go.Sy
namespace Go.Sy
variable [aX]
variable {P : Program} {C : Ctx} {x : Sit} {w w' : World} {ob : List (Nat × aC)} {tk : List Nat}
open Go.RowKit Go.ChangeShapes Go.WideShapes
end Go.Sy
namespace Go.Sy
variable [aX]
open Go.RowKit Go.ChangeShapes Go.WideShapes
variable {P : Program} {C : Ctx} {x : Sit} {w w' : World} {T T' : ix}
end Go.Sy
namespace Go
open Go.Maps (Keyed)
end Go
namespace Go.Sy
variable [aX]
variable {P : Program} {C : Ctx} {x : Sit} {w w' : World} {ob : List (Nat × aC)} {tk : List Nat}
open Go.RowKit Go.ChangeShapes Go.WideShapes
end Go.Sy
namespace Go.Sy
open Go.RowKit Go.ChangeShapes Go.WideShapes Go.Shelf Go.Lib Go.Proofs
variable {P : Program}
end Go.Sy
namespace Go.Sy
variable [aX]
variable {P : Program} {T : ix} {f : Nat -> Option FnB}
noncomputable def ix.over(T:ix)(f:Nat->Option FnB):ix:=
 ⟨fun k=>match f k with
  |some b=>some b
  |none=>match T.fn k with
   |some _=>some (.prim (call T k))
   |none=>none,T.sg⟩
theorem km{g:Nat}{b:FnB}(h:f g=some b):(T.over f).fn g=some b:=by show(match f g with|some b=>some b|none=>_)=_;rw[h]
theorem uT{g:Nat}{b:FnB}(h:f g=none)(hT:T.fn g=some b):(T.over f).fn g=some (.prim (call T g)):=by show(match f g with|some b=>some b|none=>match T.fn g with|some _=>some (.prim (call T g))|none=>none)=_;rw[h,hT]
theorem RG(hT:pm P T)(z:∀k b,f k=some b->match b with
 | .code F=>bN P k F
 | .prim p=>∀a_ os n q,p a_ os n=some q->lz P k a_ os n (· =q)):pm P (T.over f):=by
 intro g b y;cases hg:f g with
 |some E=>rw[km hg]at y;cases y;exact z g _ hg
 |none=>
  cases ht:T.fn g with
  |some E=>rw[uT hg ht]at y;cases y;exact fun a_ os n q h=>o8 hT _ _ _ _ _ h
  |none=>have:(match f g with|some b=>some b|none=>match T.fn g with|some _=>some (FnB.prim (call T g))|none=>none)=some b:=y;rw[hg,ht]at this;cases this
theorem upO{g:Nat}{a:LAa}{os:List aC}{k:Nat}{q:dZ}(h:f g=none)(y:call T g a os k=some q):call (T.over f) g a os k=some q:=by
 cases ht:T.fn g with
 |some b=>rw[iV (uT h ht)];exact y
 |none=>rw[s6,ht]at y;cases y
end Go.Sy
