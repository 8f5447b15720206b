/- A sound engine for Go code. No condition. -/
import Derived.Test.YtkcjdeofknkndaaGreatDoorEbDF
import Derived.Below
import Derived.Carry
import Derived.ChangeSlices
import Derived.JoinedCond
import Derived.OpenShut
import Derived.RowKit3
import Derived.SliceStrings
import Derived.Lib.Bytealg
import Derived.Lib.BytesEntry
import Derived.Laws.IdiomCopy
import Derived.Maps.OwnOps
import Derived.Maps.OwnSet
import Derived.Shelf.Spec.SlicesInsertGrow
open Array renaming getD -> jP, getElem?_eq_some_iff -> ec, getElem?_toList -> cY, length_toList -> aO, replicate -> dO
open Bool renaming and_eq_true -> aB, false_eq_true -> aI, not_eq_true' -> du, or_eq_true -> fL
open List renaming Nodup -> vm, Pairwise -> gg, Sublist -> jK, all_cons -> iv, all_eq_true -> aT, append_nil -> bf, cons_append -> aV, contains_eq_mem -> eK, filter_cons -> kI, filter_eq_self -> hJ, flatten_cons -> cN, getD_cons_succ -> bQ, getD_eq_getElem?_getD -> aa, getElem?_drop -> bx, getElem?_eq_getElem -> ab, getElem?_eq_none -> jY, getElem?_map -> aR, getElem?_range -> cL, getElem?_take -> bE, getElem_mem -> bn, getElem_of_mem -> bM, length_append -> af, length_cons -> ay, length_drop -> aL, length_eq_zero_iff -> cx, length_map -> aS, length_take -> aA, map_append -> df, map_cons -> aG, mem_append -> ak, mem_cons -> am, mem_cons_of_mem -> an, mem_cons_self -> aw, mem_map -> aQ, mem_map_of_mem -> hC, mem_range -> jx, mem_singleton -> aW, nil_append -> aK, nodup_cons -> dV, not_mem_nil -> cB, pairwise_append -> eJ, pairwise_cons -> bJ, pairwise_iff_getElem -> nR, pairwise_map -> gn, range -> bU, replicate -> ao
open Nat renaming add_mul -> bA, le_refl -> aN, le_trans -> pK, lt_or_ge -> bL, mod_eq_of_lt -> dm
open Option renaming bind_some -> cP, getD_some -> bj, ite_none_right_eq_some -> aH, map_eq_some_iff -> ah, map_some -> bo, some -> aq
open Prod renaming fst -> cI, mk -> bi
open Go.Result renaming andThen_ok -> aj
open Go.Sem renaming run_bind -> az, run_pure -> aF
open UInt8 renaming ofNat -> ed
set_option linter.unusedVariables false
set_option linter.unusedSimpArgs false
set_option linter.unnecessarySimpa false
set_option linter.unusedSectionVars false
namespace Go.Sy
variable [ba]
variable {P : Program} {C : Ctx} {x : Sit} {a : Act} {w : World} {N : Nat} {c c' : CSt} {s : St} {call : cU} {sg : Nat -> Sig}
abbrev TM:=List (Nat×SV)
structure Uni(d:Option Nat)(F:TM->TM):Prop where
 get:∀tm tm' n,ei tm n=ei tm' n->ei (F tm) n=ei (F tm') n
 dom:∀tm p,p∈F tm->(∃q∈tm,q.1=p.1)\/d=some p.1
theorem Uni.id{d:t9}:Uni d (fun t=>t):=⟨fun _ _ _ h=>h,fun _ p y=> .inl ⟨p,y,rfl⟩⟩
theorem Uni.comp{d:t9}{F G:TM->TM}(hF:Uni d F)(z:Uni d G):Uni d (fun t=>G (F t)):=
 ⟨fun _ _ _ h=>z.get _ _ _ (hF.get _ _ _ h),fun tm p I=>by
  rcases z.dom _ _ I with⟨q,E,e⟩|h
  ·rcases hF.dom _ _ E with⟨J,y,L⟩|h
   ·exact .inl ⟨J,y,L.trans e⟩
   ·exact .inr (by rw[h,e])
  ·exact .inr h⟩
theorem Uni.purge{d:t9}(lo hi:Nat):Uni d (cR lo hi):=
 ⟨fun tm tm' n h=>by rw[fS,fS,h],fun tm p z=>by obtain⟨q,y,e⟩:=jg z;exact .inl ⟨q,y,e.symm⟩⟩
theorem Uni.pub{d:t9}(o:Nat)(obj:aC):Uni d (lx o obj):=
 ⟨fun tm tm' n h=>by rw[kf,kf,h],fun tm p z=>by obtain⟨q,y,e⟩:=pk z;exact .inl ⟨q,y,e.symm⟩⟩
theorem Uni.put(k:Nat)(v:SV):Uni (some k) (fun t=>jd t k v):=
 ⟨fun tm tm' n h=>by
  simp only[lY];rw[h],fun tm p y=>by
  rcases lV y with e|e
  ·exact .inr (by rw[e])
  ·exact .inl ⟨p,e,rfl⟩⟩
theorem Uni.weak{d:t9}{F:TM->TM}(h:Uni none F):Uni d F:=⟨h.get,fun tm p y=>by
 rcases h.dom tm p y with h|h
 ·exact .inl h
 ·cases h⟩
theorem Uni.cput(d:t9)(v:SV):∃F,Uni d F/\∀tm ob tk,CSt.put ⟨tm,ob,tk⟩ d v=⟨F tm,ob,tk⟩:=by
 cases d with
 |none=>exact⟨fun t=>t,Uni.id,fun _ _ _=>rfl⟩
 |some k=>exact⟨fun t=>jd t k v,Uni.put k v,fun _ _ _=>rfl⟩
section
variable {tm tm' : TM} {ob : List (Nat × aC)} {tk : List Nat}
theorem lP:∀(n:Nat)(h l:t8),dz ⟨tm',ob,tk⟩ n h l=dz ⟨tm,ob,tk⟩ n h l
 |0,_,_=>rfl
 |_+1,_,[]=>rfl
 |n+1,h,o::t=>by
  simp only[dz];show(if _ then _ else match ip ob o with|some y=>_|none=>_)=(if _ then _ else match ip ob o with|some y=>_|none=>_);split
  ·exact lP n _ _
  ·split
   ·exact lP n _ _
   ·exact lP n _ _
theorem uF:∀l:t8,gq ⟨tm',ob,tk⟩ l=gq ⟨tm,ob,tk⟩ l
 |[]=>rfl
 |o::r=>by simp only[gq];rw[uF r];rfl
theorem mM(o:Nat)(vs:t7):∃F h tk' y,Uni none F/\∀tm,CSt.publish ⟨tm,ob,tk⟩ o vs=(⟨F tm,h,tk'⟩,y):=by
 unfold CSt.publish CSt.look;simp only;split
 ·exact⟨_,_,_,_,Uni.pub _ _,fun _=>rfl⟩
 ·exact⟨_,_,_,_,Uni.pub _ _,fun _=>rfl⟩
 ·exact⟨_,_,_,_,Uni.id,fun _=>rfl⟩
theorem ox:∀(l:t8)(ob:List (Nat×aC))(tk:t8)(vs:t7),∃F E tk' h,Uni none F/\∀tm,eF ⟨tm,ob,tk⟩ vs l=(⟨F tm,E,tk'⟩,h)
 |[],ob,tk,vs=>⟨_,_,_,_,Uni.id,fun _=>rfl⟩
 |o::r,ob,tk,vs=>by obtain⟨F,J,y,I,Q,Z⟩:=mM (ob:=ob) (tk:=tk) o vs;obtain⟨G,O,L,z,W,U⟩:=ox r J y I;refine⟨fun t=>G (F t),O,L,z,Q.comp W,fun tm=> ?_⟩;simp only[eF];rw[Z];exact U _
theorem o6(d:t9)(m mt:t8)(q:eg):∃F h tk',Uni d F/\∀tm,jI ⟨tm,ob,tk⟩ d m mt q=⟨F tm,h,tk'⟩:=by unfold jI;dsimp only;obtain⟨F,y,z⟩:=Uni.cput d (q.r.ren (iw (d.getD 0) m) (j7 (d.getD 0)));exact⟨_,_,_,(Uni.purge ((d.getD 0+1)*1000) ((d.getD 0+2)*1000)).comp y,fun tm=>z _ _ _⟩
theorem Et{sg:Sig}{d:t9}{g:Nat}{a_:t7}:∃F,Uni d F/\∃q:Option (List (Nat×aC)×t8),∀tm,jz call sg d g (⟨tm,ob,tk⟩,a_)=q.map fun q=>⟨F tm,q.1,q.2⟩:=by
 simp only[jz];generalize jM tk sg.own 50 0 a_=z;obtain⟨h,y⟩:=z;simp only[nh];have O:∀tm,dz ⟨tm,ob,tk⟩ 60 [] (SV.idsL h)=dz ⟨[],ob,tk⟩ 60 [] (SV.idsL h):=fun tm=>lP _ _ _
 have Q:∀tm l,gq ⟨tm,ob,tk⟩ l=gq ⟨[],ob,tk⟩ l:=fun tm l=>uF l
 simp only[O,Q];generalize dz ⟨[],ob,tk⟩ 60 [] (SV.idsL h)=m;cases ho:gq ⟨[],ob,tk⟩ m with
 |none=>exact⟨_,Uni.id,none,fun _=>rfl⟩
 |some I=>
  simp only[lf];generalize dQ tk (50+y.length) I=z2;obtain⟨os,E⟩:=z2;simp only[ng];generalize (nW (SV.idsL h++fB os) m&&dq m&&dq (cr (y++E))&&decide (m.length<=40)&&m.all fun o=> !inR (d.getD 0) o)=b;cases b with
  |false=>exact⟨_,Uni.id,none,fun _=>rfl⟩
  |true=>
   simp only[nf];cases hq:call g (SV.renL (gz m) _root_.id h) (dX (gz m) _root_.id os) (y.length+E.length)with
   |none=>exact⟨_,Uni.id,none,fun _=>rfl⟩
   |some q=>
    simp only[oe];generalize q.small=b;cases b with
    |false=>exact⟨_,Uni.id,none,fun _=>rfl⟩
    |true=>obtain⟨F,J,tk',L,U⟩:=o6 (ob:=ob) (tk:=tk) d m (cr (y++E)) q;exact⟨F,L,some (J,tk'),fun tm=>by simp only[vB,bo,U]⟩
theorem rx{sg:Sig}{d:t9}{g:Nat}{a_:t7}:∃F,Uni d F/\∃q:Option (List (Nat×aC)×t8),∀tm,gX call sg ⟨tm,ob,tk⟩ d g a_=q.map fun q=>⟨F tm,q.1,q.2⟩:=by
 unfold gX;generalize ((SV.idsL a_).isEmpty&&sg.own.isEmpty)=b;cases b with
 |true=>
  simp only[jH];cases hq:call g (SV.bareL a_) [] 0 with
  |none=>exact⟨_,Uni.id,none,fun _=>rfl⟩
  |some q=>
   simp only[lZ];generalize q.bare=b;cases b with
   |true=>simp only[nu];obtain⟨F,h,y⟩:=Uni.cput d q.r;exact⟨F,h,some (ob,tk),fun tm=>by rw[y];rfl⟩
   |false=>
    simp only[nu];generalize q.small=b;cases b with
    |false=>exact⟨_,Uni.id,none,fun _=>rfl⟩
    |true=>obtain⟨F,E,tk',h,y⟩:=o6 (ob:=ob) (tk:=tk) d [] [] q;exact⟨F,h,some (E,tk'),fun tm=>by simp only[wz,y];rfl⟩
 |false=>simp only[jH];obtain⟨F,J,z,I,h,y⟩:=ox (iG sg.raw 0 a_) ob tk a_;obtain⟨G,O,q,L⟩:=Et (call:=call) (ob:=J) (tk:=z) (sg:=sg) (d:=d) (g:=g) (a_:=I);exact⟨fun t=>G (F t),h.weak.comp O,q,fun tm=>by rw[y];exact L _⟩
theorem Gg:∀(l:List (Nat×aC))(tm:TM)(ob:List (Nat×aC))(tk:t8),CSt.wr ⟨tm,ob,tk⟩ l=⟨tm,(CSt.wr ⟨[],ob,tk⟩ l).ob,tk⟩
 |[],_,_,_=>rfl
 |p::r,tm,ob,tk=>by simp only[CSt.wr];exact Gg r tm _ tk
theorem oZ(d:t9)(e:nP):∃F h tk',Uni d F/\∀tm,CSt.app ⟨tm,ob,tk⟩ d e=⟨F tm,h,tk'⟩:=by
 unfold CSt.app;dsimp only;obtain⟨F,y,z⟩:=Uni.cput d e.val;split
 ·exact⟨_,_,_,(Uni.purge (d.getD 0+100) (d.getD 0+101)).comp y,fun tm=>z _ _ _⟩
 ·exact⟨_,_,_,(Uni.purge (d.getD 0+100) (d.getD 0+101)).comp y,fun tm=>z _ _ _⟩
 ·exact⟨F,(CSt.wr ⟨[],ob,tk⟩ e.wr).ob,tk,y,fun tm=>by rw[Gg];exact z _ _ _⟩
theorem xfW{x:Arg}(h:∀n,x= .t n->ei tm' n=ei tm n):CSt.ev ⟨tm',ob,tk⟩ x=CSt.ev ⟨tm,ob,tk⟩ x:=by
 cases x with
 |t n=>exact h n rfl
 |c v=>rfl
 |f g=>rfl
theorem lJ:∀{l:List Arg},(∀x∈l,CSt.ev ⟨tm',ob,tk⟩ x=CSt.ev ⟨tm,ob,tk⟩ x)->evL ⟨tm',ob,tk⟩ l=evL ⟨tm,ob,tk⟩ l
 |[],_=>rfl
 |x::r,h=>by simp only[evL];rw[h x (aw ..),lJ fun y z=>h y (an _ z)]
theorem MX:∀{l:List (Nat×Nat×Arg)},(∀x∈l.map (fun p=>p.2.2),CSt.ev ⟨tm',ob,tk⟩ x=CSt.ev ⟨tm,ob,tk⟩ x)->psC ⟨tm',ob,tk⟩ l=psC ⟨tm,ob,tk⟩ l
 |[],_=>rfl
 |(o,n,x)::r,h=>by simp only[psC];rw[h x (by simp),MX fun y z=>h y (by simp only[aG,am];exact .inr z)]
theorem md{x:Option Arg}{d:Int}(h:∀y∈x.toList,CSt.ev ⟨tm',ob,tk⟩ y=CSt.ev ⟨tm,ob,tk⟩ y):ka ⟨tm',ob,tk⟩ x d=ka ⟨tm,ob,tk⟩ x d:=by
 cases x with
 |none=>rfl
 |some y=>simp only[ka];rw[h y (by simp)]
theorem zp{z:Nat}{v:SV}{lo hi h:Option Arg}(E:∀y∈lo.toList,CSt.ev ⟨tm',ob,tk⟩ y=CSt.ev ⟨tm,ob,tk⟩ y)(I:∀y∈hi.toList,CSt.ev ⟨tm',ob,tk⟩ y=CSt.ev ⟨tm,ob,tk⟩ y)(F:∀y∈h.toList,CSt.ev ⟨tm',ob,tk⟩ y=CSt.ev ⟨tm,ob,tk⟩ y):
 nJ ⟨tm',ob,tk⟩ z v lo hi h=nJ ⟨tm,ob,tk⟩ z v lo hi h:=by
 unfold nJ;simp only[md E,md I,md F]
theorem zd{o:SOp}(h:∀y∈o.args,CSt.ev ⟨tm',ob,tk⟩ y=CSt.ev ⟨tm,ob,tk⟩ y):cH ⟨tm',ob,tk⟩ o=cH ⟨tm,ob,tk⟩ o:=by
 cases o with
 |build z ps=>simp only[SOp.args]at h;simp only[cH];rw[MX h]
 |lit F I=>simp only[SOp.args]at h;simp only[cH];rw[lJ h]
 |litB I=>simp only[SOp.args]at h;simp only[cH];rw[lJ h]
 |mkfn f a b=>simp only[SOp.args,ak]at h;simp only[cH];rw[lJ fun y E=>h y (.inl E),lJ fun y E=>h y (.inr E)]
 |slcS x lo hi=>simp only[SOp.args,am,ak]at h;simp only[cH];rw[h x (.inl rfl)];simp only[md fun y E=>h y (.inr (.inl E)),md fun y E=>h y (.inr (.inr E))]
 |slcL F x lo hi J=>simp only[SOp.args,am,ak]at h;simp only[cH];rw[h x (.inl rfl),zp (fun y E=>h y (.inr (.inl (.inl E)))) (fun y E=>h y (.inr (.inl (.inr E)))) (fun y E=>h y (.inr (.inr E)))]
 |slcA len F x lo hi J=>simp only[SOp.args,am,ak]at h;simp only[cH];rw[h x (.inl rfl)];simp only[zp (fun y E=>h y (.inr (.inl (.inl E)))) (fun y E=>h y (.inr (.inl (.inr E)))) (fun y E=>h y (.inr (.inr E)))]
 |_=>
  simp only[SOp.args,am,cB,or_false,forall_eq_or_imp,forall_eq,aW]at h
  first
   |rfl
   |(simp only[cH];rw[h];rfl)
   |(simp only[cH];rw[h.1,h.2];rfl)
   |(simp only[cH,h];done)
   |(simp only[cH,h.1,h.2];done)
theorem Cq{n:Nat}{v:t7}{u:SV}:kM ⟨tm',ob,tk⟩ n v u=kM ⟨tm,ob,tk⟩ n v u:=by
 cases u<;>rfl
theorem QD{d:t9}{o:SOp}(h:∀y∈o.args,CSt.ev ⟨tm',ob,tk⟩ y=CSt.ev ⟨tm,ob,tk⟩ y):dJ ⟨tm',ob,tk⟩ d o=dJ ⟨tm,ob,tk⟩ d o:=by
 have J:=zd h;cases o with
 |new ob=>rfl
 |call f a_=>rfl
 |box x=>simp only[SOp.args,am,cB,or_false,forall_eq]at h;simp only[dJ];rw[h]
 |mk z b n m=>simp only[SOp.args,am,cB,or_false,forall_eq_or_imp,forall_eq]at h;simp only[dJ];rw[h.1,h.2]
 |mkB n m=>simp only[SOp.args,am,cB,or_false,forall_eq_or_imp,forall_eq]at h;simp only[dJ];rw[h.1,h.2]
 |store n a x=>simp only[SOp.args,am,cB,or_false,forall_eq_or_imp,forall_eq]at h;simp only[dJ];rw[h.1,h.2,Cq]
 |app z b x y=>
  simp only[SOp.args,am,cB,or_false,forall_eq_or_imp,forall_eq]at h;have E:∀v,dH ⟨tm',ob,tk⟩ v=dH ⟨tm,ob,tk⟩ v:=fun v=>by cases v<;>rfl
  have F:∀n v,fE ⟨tm',ob,tk⟩ n v=fE ⟨tm,ob,tk⟩ n v:=fun n v=>by cases v<;>rfl
  have I:∀t:Tok,t.readyC ⟨tm',ob,tk⟩=t.readyC ⟨tm,ob,tk⟩:=fun t=>by cases t<;>rfl
  simp only[dJ];rw[h.1,h.2];simp only[E,F,I]
 |clr z x=>simp only[SOp.args,am,cB,or_false,forall_eq]at h;simp only[dJ];rw[h];rfl
 |cpy O x y=>
  simp only[SOp.args,am,cB,or_false,forall_eq_or_imp,forall_eq]at h;have E:∀v,dH ⟨tm',ob,tk⟩ v=dH ⟨tm,ob,tk⟩ v:=fun v=>by cases v<;>rfl
  have F:∀n v,fE ⟨tm',ob,tk⟩ n v=fE ⟨tm,ob,tk⟩ n v:=fun n v=>by cases v<;>rfl
  simp only[dJ];rw[h.1,h.2];simp only[E,F];rfl
 |pick k a b=>simp only[SOp.args,am,cB,or_false,forall_eq_or_imp,forall_eq]at h;simp only[dJ];rw[h.1,h.2.1,h.2.2]
 |isnil L x=>simp only[SOp.args,am,cB,or_false,forall_eq]at h;simp only[dJ];rw[h]
 |_=>simp only[dJ];rw[J]
theorem E5{d:t9}{z:t7}{b:Nat}{y:Arg}{v:SV}(h:CSt.ev ⟨tm',ob,tk⟩ y=CSt.ev ⟨tm,ob,tk⟩ y)(E:qJ ⟨tm,ob,tk⟩ d z b y v=some c'):∃F,Uni d F/\c'.tm=F tm/\qJ ⟨tm',ob,tk⟩ d z b y v=some ⟨F tm',c'.ob,c'.tk⟩:=by
 have e1:∀v,dH ⟨tm',ob,tk⟩ v=dH ⟨tm,ob,tk⟩ v:=fun v=>by cases v<;>rfl
 have e2:∀n v,fE ⟨tm',ob,tk⟩ n v=fE ⟨tm,ob,tk⟩ n v:=fun n v=>by cases v<;>rfl
 have put:∀(k:Nat)(u:SV),some (CSt.put ⟨tm,ob,tk⟩ (some k) u)=some c'->∃F,Uni (some k) F/\c'.tm=F tm/\some (CSt.put ⟨tm',ob,tk⟩ (some k) u)=some ⟨F tm',c'.ob,c'.tk⟩:=by intro k u hu;obtain⟨F,U,L⟩:=Uni.cput (some k) u;rw[L]at hu;cases hu;exact⟨F,U,rfl,by rw[L]⟩
 have app:∀(k:Nat)(e:nP),some (CSt.app ⟨tm,ob,tk⟩ (some k) e)=some c'->∃F,Uni (some k) F/\c'.tm=F tm/\some (CSt.app ⟨tm',ob,tk⟩ (some k) e)=some ⟨F tm',c'.ob,c'.tk⟩:=by intro k e hu;obtain⟨F,W,tk',U,L⟩:=oZ (ob:=ob) (tk:=tk) (some k) e;rw[L]at hu;cases hu;exact⟨F,U,rfl,by rw[L]⟩
 have J:∀(I k:Nat)(e:nP),some (CSt.app (CSt.purge ⟨tm,ob,tk⟩ I (I+1)) (some k) e)=some c'->∃F,Uni (some k) F/\c'.tm=F tm/\some (CSt.app (CSt.purge ⟨tm',ob,tk⟩ I (I+1)) (some k) e)=some ⟨F tm',c'.ob,c'.tk⟩:=by intro I k e hu;obtain⟨F,W,tk',U,L⟩:=oZ (ob:=bm I (I+1) ob) (tk:=bN I (I+1) tk) (some k) e;simp only[CSt.purge]at hu ⊢;rw[L]at hu;cases hu;exact⟨fun t=>F (cR I (I+1) t),(Uni.purge I (I+1)).comp U,rfl,by rw[L]⟩
 unfold qJ at E ⊢;split at E<;>try (cases E;done)
 ·split at E<;>try (cases E;done)
  rename_i Z;simp only[if_pos Z,h,e1];unfold PA at E ⊢;split at E<;>try (cases E;done)
  split at E<;>try (cases E;done)
  rename_i hz;simp only[if_neg hz];split at E
  ·rename_i O;simp only[if_pos O];exact put _ _ E
  ·rename_i O
   simp only[if_neg O];split at E<;>try (cases E;done)
   rename_i Q;simp only[if_pos Q];exact app _ _ E
 ·split at E<;>try (cases E;done)
  rename_i Z;simp only[if_pos Z,h,e2];unfold Pz at E ⊢;split at E<;>try (cases E;done)
  split at E
  ·rename_i O;simp only[if_pos O];exact put _ _ E
  ·rename_i O
   simp only[if_neg O];split at E<;>try (cases E;done)
   rename_i Q;simp only[if_pos Q];exact app _ _ E
 ·simp only[h,e1,e2]
  unfold M0 at E ⊢;split at E<;>try (cases E;done)
  ·split at E<;>try (cases E;done)
   rename_i Q;rw[if_pos Q];exact J _ _ _ E
  ·split at E<;>try (cases E;done)
   rename_i Q;rw[if_pos Q];exact J _ _ _ E
theorem BG{d:t9}{o:SOp}(h:∀y∈o.args,CSt.ev ⟨tm',ob,tk⟩ y=CSt.ev ⟨tm,ob,tk⟩ y)(E:opC call sg ⟨tm,ob,tk⟩ d o=some c'):∃F,Uni d F/\c'.tm=F tm/\opC call sg ⟨tm',ob,tk⟩ d o=some ⟨F tm',c'.ob,c'.tk⟩:=by
 by_cases a0:∃f a_,o= .call f a_
 ·obtain⟨f,a_,rfl⟩:=a0
  simp only[opC]at E ⊢;simp only[SOp.args,am]at h;rw[h f (.inl rfl),lJ fun y hy=>h y (.inr hy)];split at E<;>try (cases E;done)
  obtain⟨F,J,q,I⟩:=rx (call:=call) (ob:=ob) (tk:=tk) (sg:=sg ‹_›) (d:=d) (g:= ‹_›) (a_:= ‹t7› ++evL ⟨tm,ob,tk⟩ a_++ ‹t7›);rename_i g u v a3;obtain⟨F,J,q,I⟩:=rx (call:=call) (ob:=ob) (tk:=tk) (sg:=sg g) (d:=d) (g:=g) (a_:=u++evL ⟨tm,ob,tk⟩ a_++v);rw[I]at E;cases q with
  |none=>cases E
  |some q=>simp only[bo,aq.injEq]at E;subst E;exact⟨F,J,rfl,by rw[I];rfl⟩
 by_cases W:∃xs,o= .newB xs
 ·obtain⟨xs,rfl⟩:=W
  simp only[opC]at E ⊢;simp only[SOp.args]at h;rw[lJ h];unfold nq at E ⊢;split at E<;>try (cases E;done)
  rename_i k l hk;cases E;obtain⟨F,Z,tk',J,I⟩:=oZ (ob:=ob) (tk:=tk) (some k) {val:= .psl (k+100) 1 0 l.length (some l.length),new:=some (.bar l)};exact⟨F,J,by rw[I],by simp only[I]⟩
 by_cases U:∃q,o= .slid q
 ·obtain⟨q,rfl⟩:=U
  simp only[opC]at E ⊢;rw[h q (by simp[SOp.args])];generalize CSt.ev ⟨tm,ob,tk⟩ q=v at E;unfold ql at E;split at E<;>try (cases E;done)
  rename_i O off n cap;show ∃F,_/\_/\og _ d O off n cap (CSt.look ⟨tm',ob,tk⟩ O)=_;have a1:CSt.look ⟨tm',ob,tk⟩ O=CSt.look ⟨tm,ob,tk⟩ O:=rfl;rw[a1];generalize CSt.look ⟨tm,ob,tk⟩ O=u at E;unfold og at E;split at E<;>try (cases E;done)
  split at E<;>try (cases E;done)
  rename_i l L;cases E;obtain⟨F,Z,tk',a2,J,I⟩:=mM (ob:=ob) (tk:=tk) O [];obtain⟨G,g1,g2⟩:=Uni.cput d (.byt ((l.drop off).take n) .clip);refine⟨fun t=>G (F t),J.weak.comp g1, ?_, ?_⟩
  ·rw[I tm];rw[g2]
  ·simp only[og,if_pos L,I,g2]
 by_cases Q:∃z b q y,o= .appO z b q y
 ·obtain⟨z,b,q,y,rfl⟩:=Q
  simp only[opC]at E ⊢;simp only[SOp.args,am,cB,or_false,forall_eq_or_imp,forall_eq]at h;rw[h.1];exact E5 h.2 E
 ·have e:∀c,opC call sg c d o=mY c d (dJ c d o):=by
   intro c;cases o<;>first|rfl|exact absurd ⟨_,_,rfl⟩ a0|exact absurd ⟨_,rfl⟩ W|exact absurd ⟨_,rfl⟩ U|exact absurd ⟨_,_,_,_,rfl⟩ Q
  rw[e]at E;rw[e,QD h];cases he:dJ ⟨tm,ob,tk⟩ d o with
  |none=>rw[he]at E;cases E
  |some q=>rw[he]at E;simp only[mY,aq.injEq]at E ⊢;obtain⟨F,Z,tk',J,I⟩:=oZ (ob:=ob) (tk:=tk) d q;rw[I]at E;subst E;exact⟨F,J,rfl,I _⟩
theorem sQ{i:SI}(h:∀n∈i.rds,ei tm' n=ei tm n):∀y∈i.op.args,CSt.ev ⟨tm',ob,tk⟩ y=CSt.ev ⟨tm,ob,tk⟩ y:=by
 intro y z;refine xfW fun n hn=>h n ?_
 subst hn;unfold SI.rds;rw[ak];exact .inl (List.mem_filterMap.2 ⟨_,z,rfl⟩)
theorem X3{i:SI}{g:Nat}{b:Bool}(h:i.g=some (g,b)):g∈i.rds:=by unfold SI.rds;rw[h];simp
theorem Cs{i:SI}(h:∀n∈i.rds,ei tm' n=ei tm n)(y:dy call sg ⟨tm,ob,tk⟩ i=some c'):∃F,Uni i.dst F/\c'.tm=F tm/\dy call sg ⟨tm',ob,tk⟩ i=some ⟨F tm',c'.ob,c'.tk⟩:=by
 unfold dy at y ⊢;split at y
 ·exact BG (sQ h) y
 ·rename_i g b J
  have e:CSt.get ⟨tm',ob,tk⟩ g=CSt.get ⟨tm,ob,tk⟩ g:=h g (X3 J);rw[e];split at y<;>try (cases y;done)
  rotate_left
  ·obtain⟨F,E,z⟩:=Uni.cput i.dst (.tup [])
   rw[z]at y;cases y;exact⟨F,E,rfl,by rw[z]⟩
  split at y
  ·rename_i I
   obtain⟨F,E,z,L⟩:=BG (sQ h) y;exact⟨F,E,z,by simp only[if_pos I];exact L⟩
  ·rename_i I
   obtain⟨F,E,z⟩:=Uni.cput i.dst (.tup []);rw[z]at y;cases y;exact⟨F,E,rfl,by simp only[if_neg I];rw[z]⟩
theorem XT{i:SI}(h:∀n∈i.rds,ei tm' n=ei tm n):qv ⟨tm',ob,tk⟩ i=qv ⟨tm,ob,tk⟩ i:=by
 have z:cV ⟨tm',ob,tk⟩ i.op=cV ⟨tm,ob,tk⟩ i.op:=by
  have y:=sQ (ob:=ob) (tk:=tk) h;generalize i.op=o at y;have E:=zd y;cases o with
  |pick k a b=>simp only[SOp.args,am,cB,or_false,forall_eq_or_imp,forall_eq]at y;simp only[cV];rw[y.1,y.2.1,y.2.2]
  |_=>simp only[cV];rw[E]
 unfold qv;cases hg:i.g with
 |none=>exact z
 |some p=>obtain⟨g,b⟩:=p;simp only;have e:CSt.get ⟨tm',ob,tk⟩ g=CSt.get ⟨tm,ob,tk⟩ g:=h g (X3 hg);rw[e];cases CSt.get ⟨tm,ob,tk⟩ g<;>first|rfl|(simp only[qg];rw[z])
end
theorem nY{i:SI}{v:SV}(h:qv c i=some v):dy call sg c i=some (c.put i.dst v):=by
 have z:∀o,cV c o=some v->opC call sg c i.dst o=some (c.put i.dst v):=by
  intro o y;cases o with
  |pick k a b=>simp only[cV]at y;split at y<;>cases y;rename_i t F;simp only[opC,dJ,F,mY];rfl
  |_=>
   simp only[cV]at y
   first
    |(simp only[cH]at y;cases y;done)
    |(simp only[opC,dJ];rw[y];rfl)
    |(simp[cH]at y;done)
 unfold qv at h;unfold dy;generalize i.g=q at h;cases q with
 |none=>exact z _ h
 |some q=>
  obtain⟨g,b⟩:=q;simp only at h ⊢;generalize c.get g=u at h
  by_cases hu:u= .tup []
  ·subst hu
   simp only[qg,aq.injEq]at h;subst h;rfl
  obtain⟨t,rfl⟩:∃t,u= .bool t:=by
   unfold qg at h;split at h
   ·exact⟨_,rfl⟩
   ·exact absurd rfl hu
   ·cases h
  simp only[qg]at h ⊢;split at h
  ·rename_i E;rw[if_pos E];exact z _ h
  ·rename_i E;rw[if_neg E];cases h;rfl
structure Apx(N:Nat)(D:List Nat)(c p:CSt):Prop where
 get:∀n,n∉D->c.get n=p.get n
 ob:c.ob=p.ob
 tk:c.tk=p.tk
 dom:∀q∈p.tm,q.1<N
theorem Apx.step{D:t8}{p p1:CSt}{i:SI}(h:Apx N D c p)(hi:i.ok N=true)(L:∀n∈i.rds,n∉D)(U:dy call sg p i=some p1):∃c1,dy call sg c i=some c1/\Apx N D c1 p1:=by
 obtain⟨tm',O,tk'⟩:=c;obtain⟨tm,ob,tk⟩:=p;have z:=h.ob;have I:=h.tk;simp only at z I;subst z;subst I;obtain⟨F,k1,k2,J⟩:=Cs (tm':=tm') (fun n hn=>h.get n (L n hn)) U;refine⟨_,J,⟨fun n hn=> ?_,rfl,rfl,fun q E=> ?_⟩⟩
 ·show ei (F tm') n=ei p1.tm n
  rw[k2];exact k1.get _ _ _ (h.get n hn)
 ·rw[k2]at E
  rcases k1.dom _ _ E with⟨Q,y,e⟩|e
  ·rw[<-e];exact h.dom Q y
  ·unfold SI.ok at hi
   rw[e]at hi;simpa using hi
theorem Apx.qv{D:t8}{p:CSt}{i:SI}(h:Apx N D c p)(F:∀n∈i.rds,n∉D):qv c i=qv p i:=by obtain⟨tm',E,tk'⟩:=c;obtain⟨tm,ob,tk⟩:=p;have y:=h.ob;have z:=h.tk;simp only at y z;subst y;subst z;exact XT fun n hn=>h.get n (F n hn)
theorem Apx.put{D:t8}{p:CSt}{d:Nat}{v:SV}(h:Apx N D c p)(hd:d<N):Apx N (d::D) c (p.put (some d) v):=by
 refine⟨fun n hn=> ?_,h.ob,h.tk,fun q y=> ?_⟩
 ·simp only[am,not_or]at hn
  rw[gD,if_neg hn.1];exact h.get n hn.2
 ·rcases lV y with e|e
  ·rw[e];exact hd
  ·exact h.dom q e
theorem MW{p:CSt}{d:Nat}{v:SV}{i:SI}(h:d∉i.rds):Sy.qv (p.put (some d) v) i=Sy.qv p i:=by
 obtain⟨tm,ob,tk⟩:=p;refine XT (tm:=tm) (tm':=jd tm d v) fun n hn=> ?_
 rw[lY,if_neg (by intro e;subst e;exact h hn)]
theorem pz{α:Type}{p:Prop}{v u:α}(h:gdP p v=some u):p/\v=u:=by
 unfold gdP at h;split at h
 ·rename_i y;exact⟨y,by simpa using h⟩
 ·cases h
theorem pC{m:Nat}{p:CSt}{f:FI}:∀{l:List FI},su m p l->f∈l->m.testBit f.n=true\/qv p f.i=some (p.get (f.i.dst.getD 0))
 |g::r,h,hf=>by
  rcases am.1 hf with rfl|hf
  ·rcases h.1 with y|y
   ·left
    rw[Nat.testBit_eq_decide_div_mod_eq];simpa using y
   ·exact .inr y
  ·exact pC h.2 hf
def Nx(g q:FI):Prop:=q.q=true->∀d,q.i.dst=some d->d∉g.i.rds/\g.i.dst≠some d
def wO(q:FI):Prop:=q.q=true->∃d,q.i.dst=some d/\d∉q.i.rds
def dOf(f:FI):Nat:=f.i.dst.getD 0
theorem mr{b:t8}{cF:CSt}:∀{r ps V:List FI}{p:CSt}{D:t8},eT call sg b r ps p=some cF->Apx N D c p->(∀f∈r,f.i.ok N=true)->(∀f∈r,wO f)->r.Pairwise Nx->(∀g∈V,∀f∈r,Nx g f)->
 (∀g∈V,∃d,g.i.dst=some d)->(∀g∈V,qv p g.i=some (p.get (dOf g)))->∃seg post F E,r=seg++post/\(∀f∈seg,f.q=true)/\(post=[]\/∃f r',post=f::r'/\f.q=false)/\eT call sg b post E F=some cF/\
  (∀f,f∈ps\/f∈seg->f∈E)/\Apx N (seg.map dOf++D) c F/\∀g,g∈V\/g∈seg->qv F g.i=some (F.get (dOf g))
 |[],ps,V,p,D,h,hA,_,_,_,_,_,hV=>⟨[],[],p,ps,rfl,by simp,.inl rfl,h,by simp,by simpa using hA,by simpa using hV⟩
 |f::r,ps,V,p,D,h,hA,hok,hself,hpw,hVr,hVd,hV=>by
  obtain⟨n,q,i⟩:=f;cases q with
  |false=>exact⟨[],⟨n,false,i⟩::r,p,ps,rfl,by simp,.inr ⟨_,_,rfl,rfl⟩,h,by simp,by simpa using hA,by simpa using hV⟩
  |true=>
   simp only[eT]at h;cases hq:qv p i with
   |none=>rw[hq]at h;simp[uO]at h
   |some v=>
    rw[hq]at h;simp only[uO]at h;obtain⟨d,hd,I⟩:=hself _ (aw ..) rfl;simp only at hd I
    have U:d<N:=by have:=hok _ (aw ..);unfold SI.ok at this;simp only[hd]at this;simpa using this
    rw[hd]at h;rw[bJ]at hpw
    have J:∀g:FI,(∃e,g.i.dst=some e)->g.i.dst≠some d->(p.put (some d) v).get (dOf g)=p.get (dOf g):=by
     rintro g ⟨e,W⟩ L;have O:dOf g=e:=by unfold dOf;rw[W];rfl
     rw[O,gD,if_neg];intro e2;rw[W,e2]at L;exact L rfl
    obtain⟨seg,post,F,E,k1,k2,k3,k4,k5,Q,k7⟩:=mr (V:=⟨n,true,i⟩::V) h (hA.put U) (fun f z=>hok f (an _ z)) (fun f z=>hself f (an _ z)) hpw.2
     (by
      intro g y f z;rcases am.1 y with rfl|y
      ·exact hpw.1 f z
      ·exact hVr g y f (an _ z))
     (by
      intro g y;rcases am.1 y with rfl|y
      ·exact⟨d,hd⟩
      ·exact hVd g y)
     (by
      intro g y;rcases am.1 y with rfl|y
      ·have O:dOf ⟨n,true,i⟩=d:=by unfold dOf;simp only[hd];rfl
       rw[O,MW I,gD,if_pos rfl];exact hq
      ·obtain⟨Z,h2⟩:=hVr g y _ (aw ..) rfl d hd
       rw[MW Z,J g (hVd g y) h2];exact hV g y)
    refine⟨⟨n,true,i⟩::seg,post,F,E,by rw[k1];rfl, ?_,k3,k4, ?_, ?_, ?_⟩
    ·intro f z
     rcases am.1 z with rfl|z
     ·rfl
     ·exact k2 f z
    ·intro f z
     refine k5 f ?_;rcases z with z|z
     ·exact .inl (an _ z)
     ·rcases am.1 z with rfl|z
      ·exact .inl (aw ..)
      ·exact .inr z
    ·have O:dOf ⟨n,true,i⟩=d:=by unfold dOf;simp only[hd];rfl
     refine⟨fun m hm=>Q.get m (fun h=>hm ?_),Q.ob,Q.tk,Q.dom⟩;simp only[aG,O,aV,am,ak]at h ⊢;rcases h with h|h|h
     ·exact .inr (.inl h)
     ·exact .inl h
     ·exact .inr (.inr h)
    ·intro g y
     refine k7 g ?_;rcases y with y|y
     ·exact .inl (an _ y)
     ·rcases am.1 y with rfl|y
      ·exact .inl (aw ..)
      ·exact .inr y
section
variable {ops : Array Oper} {its : List FI} {b : List Nat}
def un(its:List FI)(listed:Array Bool):List FI:=its.filter fun f=> !listed.getD f.n true
theorem cM{listed:Array Bool}{f:FI}:f∈un its listed↔f∈its/\listed.getD f.n true=false:=by simp[un]
structure o8(call:cU)(sg:Nat->Sig)(N:Nat)(b:List Nat)(its:List FI)(cF:CSt)(listed:Array Bool)(c:CSt):Prop where
 ex:∃pre post p ps,its=pre++post/\(post=[]\/∃f r,post=f::r/\f.q=false)/\eT call sg b post ps p=some cF/\(∀f∈pre,f.q=true->f∈ps)/\
  (∀f∈pre,f.q=false->listed.getD f.n true=true)/\(∀f∈post,listed.getD f.n true=false)/\
  Apx N ((un pre listed).map dOf) c p/\∀f∈un pre listed,qv p f.i=some (p.get (dOf f))
theorem wv(c7:fV P call){cF:CSt}
 (W:∀f∈its,∃o,ops[f.n]? =some o/\fQ P ops o=some f.i.er/\f.n<ops.size) (d9:∀j,j<ops.size->∃f∈its,f.n=j) (d4:∀f∈its,∀g∈its,f.n=g.n->f=g)
 (b4:∀(i:Nat)(o:Oper),ops[i]? =some o->∀e∈o.after,Region.binds .any e=true->e.on<i)
 (g4:∀(i:Nat)(o:Oper)(k:Nat),ops[i]? =some o->k<ops.size->(b.getD i 0).testBit k=true->∃e∈o.after,Region.binds .any e=true/\(e.on=k\/(b.getD e.on 0).testBit k=true))
 (b6:∀f∈its,f.i.ok N=true) (a2:∀f∈its,wO f) (f5:its.Pairwise Nx)
 (l4:∀q∈its,q.q=true->∀p∈its,∀d,q.i.dst=some d->d∈p.i.rds->(b.getD p.n 0).testBit q.n=true)
 (c6:∀pre f r,its=pre++f::r->f.q=false->∀g∈r,∃h∈f::r,(b.getD g.n 0).testBit h.n=true)
 (m2:∀f∈its,∀g∈its,f.n≠g.n->∀d,f.i.dst=some d->g.i.dst≠some d) {Q:LAe} (hQ:∀a w,M C N cF a w->Q .normal a w):
 ∀(a6:Nat)(listed:Array Bool)(c:CSt)(a:Act)(w:World),(un its listed).length<=a6->listed.size=ops.size->
  (∀(i:Nat)(o:Oper)(k:Nat),ops[i]? =some o->listed.getD i true=true->k<ops.size->(b.getD i 0).testBit k=true->listed.getD k true=true)->
  o8 call sg N b its cF listed c->M C N c a w->wpAny P .any ops Q a6 listed a w:=by
 classical
 have h7:∀(listed:Array Bool),listed.size=ops.size->∀k,k<ops.size->listed.getD k false=listed.getD k true:=by intro listed hs k hk;simp[jP,hs,hk]
 have done:∀(listed:Array Bool)(c:CSt)(a:Act)(w:World),un its listed=[]->o8 call sg N b its cF listed c->M C N c a w->Region.ready .any ops listed=[]/\Q .normal a w:=by
  intro listed c a w h0 hS hM;constructor
  ·rw[List.eq_nil_iff_forall_not_mem]
   intro j hj;obtain⟨h1,o,h2,h3⟩:=mem_ready.1 hj;have j3:j<ops.size:=(ec.1 h2).1;obtain⟨I,O,rfl⟩:=d9 j j3;have:I∈un its listed:=cM.2 ⟨O,h1⟩;rw[h0]at this;cases this
  ·obtain⟨pre,post,p,ps,e,hp,E,_,_,d7,hA,_⟩:=hS.ex
   have j4:post=[]:=by
    cases post with
    |nil=>rfl
    |cons f r=>have:f∈un its listed:=cM.2 ⟨by rw[e];simp,d7 f (aw ..)⟩;rw[h0]at this;cases this
   subst j4;simp only[eT,aq.injEq]at E;subst E;have hD:un pre listed=[]:=by rw[<-h0,e,bf]
   rw[hD]at hA;refine hQ a w ?_;obtain⟨x,s,j2,e4⟩:=hM;refine M.slots (c:=c) ⟨x,s,j2,e4⟩ ⟨hA.dom,by rw[<-hA.ob];exact e4.inv.so,by rw[<-hA.ob];exact e4.inv.wf⟩ hA.ob.symm hA.tk.symm (fun i=> .inl (hA.get i (by simp)).symm)
 intro a6;induction a6 with
 |zero=>intro listed c a w U hs e8 hS hM;exact done listed c a w (cx.1 (by omega)) hS hM
 |succ a6 ih=>
  intro listed c a w U hs e8 hS hM;constructor
  ·intro g6
   by_cases h0:un its listed=[]
   ·exact(done listed c a w h0 hS hM).2
   ·exfalso
    have hp:∃n,∃f∈un its listed,f.n=n:=by
     cases hc:un its listed with
     |nil=>exact absurd hc h0
     |cons f r=>exact⟨_,f,aw ..,rfl⟩
    obtain⟨n,⟨f,j1,m6⟩,h8⟩:=X0 _ hp;obtain⟨h1,h2⟩:=cM.1 j1;obtain⟨o,h3,_,h4⟩:=W f h1
    have:f.n∈Region.ready .any ops listed:=by refine mem_ready.2 ⟨h2,o,h3,fun e he hb=> ?_⟩;have a4:=b4 f.n o h3 e he hb;rw[h7 listed hs _ (by omega),<-Bool.not_eq_false];intro k9;obtain⟨g,F,f6⟩:=d9 e.on (by omega);have:=h8 e.on ⟨g,cM.2 ⟨F,by rw[f6];exact k9⟩,f6⟩;omega
    rw[g6]at this;cases this
  ·intro i i3
   obtain⟨h1,o,h2,h3⟩:=mem_ready.1 i3;have f1:i<ops.size:=(ec.1 h2).1;obtain⟨I,O,rfl⟩:=d9 i f1;obtain⟨o',g9,d3,_⟩:=W I O;rw[h2]at g9;cases g9
   have a5:∀k,k<ops.size->(b.getD I.n 0).testBit k=true->listed.getD k true=true:=by
    intro k hk hb;obtain⟨e,he,f3,l3⟩:=g4 I.n o k h2 hk hb;have d6:=h3 e he f3;have l5:=b4 I.n o h2 e he f3;rw[h7 listed hs _ (by omega)]at d6;rcases l3 with h|h
    ·rw[<-h];exact d6
    ·exact e8 e.on (ops[e.on]'(by omega)) k (by simp) d6 hk h
   have l8:(un its (listed.setIfInBounds I.n true)).length<(un its listed).length:=by
    have e1:un its (listed.setIfInBounds I.n true)=(un its listed).filter fun q=> !decide (q.n=I.n):=by
     simp only[un,List.filter_filter];apply List.filter_congr;intro q hq;rw[gB (by omega)]
     by_cases h:q.n=I.n<;>simp[h]
    rw[e1];refine List.length_filter_lt_length_iff_exists.2 ⟨I,cM.2 ⟨O,h1⟩,by simp⟩
   have d5:∀(i:Nat)(o:Oper)(k:Nat),ops[i]? =some o->(listed.setIfInBounds I.n true).getD i true=true->k<ops.size->(b.getD i 0).testBit k=true->(listed.setIfInBounds I.n true).getD k true=true:=by
    intro i2 o2 g2 l0 e3 f7 g5;rw[gB (by omega)]at e3 ⊢;split
    ·rfl
    ·split at e3
     ·rename_i e1
      subst e1;exact a5 g2 f7 g5
     ·exact e8 i2 o2 g2 l0 e3 f7 g5
   have m5:∀g∈its,listed.getD g.n true=true->g≠I:=by intro g _ F e;subst e;rw[h1]at F;cases F
   have J:∀g∈its,(listed.setIfInBounds I.n true).getD g.n true=if g=I then true else listed.getD g.n true:=by
    intro g F;rw[gB (by omega)]
    by_cases h:g=I
    ·subst h;simp
    ·rw[if_neg (fun e=>h (d4 g F I O e)),if_neg h]
   obtain⟨pre,post,p,ps,e,a8,E,e6,a1,L,hA,hV⟩:=hS.ex;have y:∀g∈pre,g∈its:=fun g F=>by rw[e];exact ak.2 (.inl F)
   have z:∀g∈post,g∈its:=fun g F=>by rw[e];exact ak.2 (.inr F)
   have c4:∀n∈I.i.rds,n∉(un pre listed).map dOf:=by
    intro n hn hm;obtain⟨g,F,a7⟩:=aQ.1 hm;obtain⟨a0,Z⟩:=cM.1 F
    have h9:g.q=true:=by
     cases hq:g.q with
     |true=>rfl
     |false=>rw[a1 g a0 hq]at Z;cases Z
    obtain⟨d,hd,_⟩:=a2 g (y g a0) h9;have i4:d=n:=by unfold dOf at a7;rw[hd]at a7;exact a7
    subst i4;have:=l4 g (y g a0) h9 I O d hd hn;obtain⟨_,_,_,a4⟩:=W g (y g a0);rw[a5 g.n a4 this]at Z;cases Z
   by_cases b2:I∈pre
   ·
    have hq:I.q=true:=by
     cases hq:I.q with
     |true=>rfl
     |false=>rw[a1 I b2 hq]at h1;cases h1
    have k0:I∈un pre listed:=cM.2 ⟨b2,h1⟩;have hv:=hV I k0;rw[<-hA.qv c4]at hv;obtain⟨d,hd,m4⟩:=a2 I O hq;have g8:dOf I=d:=by unfold dOf;rw[hd];rfl
    refine gh c7 hM (b6 I O) h2 d3 (nY (call:=call) (sg:=sg) hv) fun a' w' e0=> ?_
    refine ih _ _ a' w' (by omega) (by simpa using hs) d5 ⟨pre,post,p,ps,e,a8,E,e6, ?_, ?_, ?_, ?_⟩ e0
    ·intro f U a3
     rw[J f (y f U)];split
     ·rfl
     ·exact a1 f U a3
    ·intro f U
     rw[J f (z f U),if_neg]
     ·exact L f U
     ·intro e2
      subst e2
      have e9:its.Pairwise fun f g=>f.n≠g.n\/f=g:=List.pairwise_of_forall_mem_list (fun f U g F=>by
       by_cases h:f.n=g.n
       ·exact .inr (d4 f U g F h)
       ·exact .inl h)
      have h5:=f5;rw[e]at h5;have h6:=(eJ.1 h5).2.2 f b2 f U hq d hd;exact h6.2 hd
    ·refine⟨fun n hn=> ?_, ?_, ?_,hA.dom⟩
     ·rw[hd,gD]
      split
      ·rename_i e2;rw[e2,g8]
      ·rename_i e9
       refine hA.get n fun hm=>hn ?_
       obtain⟨g,F,a7⟩:=aQ.1 hm;obtain⟨a0,Z⟩:=cM.1 F;refine aQ.2 ⟨g,cM.2 ⟨a0, ?_⟩,a7⟩;rw[J g (y g a0),if_neg]
       ·exact Z
       ·intro e2;subst e2;rw[g8]at a7;exact e9 a7.symm
     ·cases I.i.dst<;>exact hA.ob
     ·cases I.i.dst<;>exact hA.tk
    ·intro f U
     obtain⟨i1,b7⟩:=cM.1 U;refine hV f (cM.2 ⟨i1, ?_⟩);rw[J f (y f i1)]at b7;split at b7
     ·cases b7
     ·exact b7
   ·
    have b3:I∈post:=by rw[e]at O;exact(ak.1 O).resolve_left b2
    obtain⟨f0,r,b5,e5⟩:∃f r,post=f::r/\f.q=false:=by
     rcases a8 with h|h
     ·subst h;cases b3
     ·exact h
    have g3:I=f0:=by
     rw[b5]at b3;rcases am.1 b3 with h|h
     ·exact h
     ·exfalso
      obtain⟨g,F,e7⟩:=c6 pre f0 r (by rw[e,b5]) e5 I h;have a9:g∈post:=by rw[b5];exact F
      obtain⟨_,_,_,a4⟩:=W g (z g a9);have:=a5 g.n a4 e7;rw[L g a9]at this;cases this
    subst g3;subst b5;obtain⟨n,q,i⟩:=I;simp only at e5;subst e5;simp only[eT]at E;cases hs1:dy call sg p i with
    |none=>rw[hs1]at E;simp[qb]at E
    |some p1=>
     rw[hs1]at E;simp only[qb]at E;cases F:gdP (su (b.getD n 0) p1 ps) p1 with
     |none=>rw[F]at E;simp[qc]at E
     |some m1=>
      rw[F]at E;simp only[qc]at E;obtain⟨f4,rfl⟩:=pz F;obtain⟨c1,k8,l1⟩:=hA.step (b6 _ O) c4 hs1;refine gh c7 hM (b6 _ O) h2 d3 k8 fun a' w' e0=> ?_
      have c3:∀g∈un pre listed,g.q=true:=by
       intro g F;obtain⟨a0,Z⟩:=cM.1 F;cases hq:g.q with
       |true=>rfl
       |false=>rw[a1 g a0 hq]at Z;cases Z
      have b8:=f5;rw[e]at b8;have g1:=eJ.1 b8
      obtain⟨seg,d8,p2,l2,k1,k2,k3,k4,k5,k6,k7⟩:=mr (V:=un pre listed) E l1 (fun f U=>b6 f (z f (an _ U))) (fun f U=>a2 f (z f (an _ U)))
       (bJ.1 g1.2.1).2 (fun g F f U=>g1.2.2 g (cM.1 F).1 f (an _ U))
       (fun g F=>by obtain⟨d,hd,_⟩:=a2 g (y g (cM.1 F).1) (c3 g F);exact⟨d,hd⟩)
       (fun g F=>by
        obtain⟨a0,Z⟩:=cM.1 F;rcases pC f4 (e6 g a0 (c3 g F))with h|h
        ·obtain⟨_,_,_,a4⟩:=W g (y g a0)
         rw[a5 g.n a4 h]at Z;cases Z
        ·exact h)
      have g7:un (pre++⟨n,false,i⟩::seg) (listed.setIfInBounds n true)=un pre listed++seg:=by
       unfold un;rw[List.filter_append,kI];have e1:(listed.setIfInBounds n true).getD n true=true:=by rw[gB (by rw[hs];exact f1)];simp
       simp only[e1,Bool.not_true,aI,if_false]
       congr 1
       ·apply List.filter_congr
        intro g F;have:=J g (y g F);simp only at this;rw[this,if_neg];intro e2;subst e2;exact b2 F
       ·apply hJ.2
        intro g F;have a9:g∈⟨n,false,i⟩::r:=by rw[k1];exact an _ (ak.2 (.inl F))
        have:=J g (z g a9);simp only at this;rw[this,if_neg]
        ·rw[L g a9];rfl
        ·intro e2;subst e2;have:=k2 _ F;cases this
      refine ih _ _ a' w' (by omega) (by simpa using hs) d5 ⟨pre++⟨n,false,i⟩::seg,d8,p2,l2,by rw[e,k1];simp,k3,k4, ?_, ?_, ?_, ?_, ?_⟩ e0
      ·intro f U a3
       rcases ak.1 U with h|h
       ·exact k5 f (.inl (e6 f h a3))
       ·rcases am.1 h with rfl|h
        ·cases a3
        ·exact k5 f (.inr h)
      ·intro f U a3
       rcases ak.1 U with h|h
       ·rw[J f (y f h)]
        split
        ·rfl
        ·exact a1 f h a3
       ·rcases am.1 h with rfl|h
        ·rw[J _ O,if_pos rfl]
        ·rw[k2 f h]at a3;cases a3
      ·intro f U
       have f2:f∈⟨n,false,i⟩::r:=by rw[k1];exact an _ (ak.2 (.inr U))
       rw[J f (z f f2),if_neg]
       ·exact L f f2
       ·intro e2
        subst e2;obtain⟨g,F,e7⟩:=c6 pre ⟨n,false,i⟩ r e rfl ⟨n,false,i⟩ (by rw[k1];exact ak.2 (.inr U));obtain⟨_,_,_,a4⟩:=W g (z g F);have:=a5 g.n a4 e7;rw[L g F]at this;cases this
      ·rw[g7,df]
       refine⟨fun m hm=>k6.get m (fun h=>hm ?_),k6.ob,k6.tk,k6.dom⟩;rw[ak]at h ⊢;exact h.symm
      ·rw[g7]
       intro f U;exact k7 f (ak.1 U)
end
theorem ra{f:FI}(l:List FI)(h:(l.map FI.n).Nodup)(y:f∈l):D0 l f.n=f.i.er:=by
 induction l with
 |nil=>cases y
 |cons g r z=>
  simp only[aG,dV]at h;simp only[D0];rcases am.1 y with rfl|y
  ·rw[if_pos rfl]
  ·rw[if_neg,z h.2 y]
   intro e;apply h.1;rw[e];exact hC y
theorem EI{b:t8}{s:Nat}(l:List FI):nj b (some s) l=true->∀g∈l,(b.getD g.n 0).testBit s=true\/∃h∈l,(b.getD g.n 0).testBit h.n=true:=by
 induction l generalizing s with
 |nil=>intro _ g y;cases y
 |cons f r E=>
  intro h g y;simp only[nj]at h;split at h
  ·simp only[aB,mV]at h
   rcases am.1 y with rfl|y
   ·exact .inl h.1
   ·rcases E h.2 g y with z|⟨k,hk,z⟩
    ·exact .inl z
    ·exact .inr ⟨k,an _ hk,z⟩
  ·simp only[aB,mV]at h
   rcases am.1 y with rfl|y
   ·exact .inl h.1
   ·rcases E h.2 g y with z|⟨k,hk,z⟩
    ·exact .inr ⟨f,aw ..,z⟩
    ·exact .inr ⟨k,an _ hk,z⟩
theorem xe{b:t8}:∀{pre:List FI}{s:t9}{f:FI}{r:List FI},nj b s (pre++f::r)=true->f.q=false->nj b (some f.n) r=true
 |[],s,f,r,h,hf=>by simp only[aK,nj,hf,aI,if_false,aB]at h;exact h.2
 |g::pre,s,f,r,h,hf=>by
  simp only[aV,nj]at h;split at h
  ·rw[aB]at h;exact xe h.2 hf
  ·rw[aB]at h;exact xe h.2 hf
theorem oy{b:t8}:∀{l:List FI},oz b l=true->l.Pairwise fun p q=>(b.getD p.n 0).testBit q.n=false
 |[],_=>gg.nil
 |p::r,h=>by simp only[oz,aB,aT]at h;refine bJ.2 ⟨fun q y=> ?_,oy h.2⟩;have:=h.1 q y;simp only[MZ,aB,du,mV]at this;exact this.1
theorem De(b5:fV P call){id:Nat}{ops:Array Oper}{its:List FI}(hl:ji (fQ P ops) ops.toList=some (unF its))(hd:drawn ops (unF its)=true)(hm:P.follows .mixedOrders=true)
 (a7:its.all (fun f=>f.i.ok N)=true) (a5:N2 (Region.before ops).toList its=true) {cF:CSt} {Q:LAe} (hQ:∀a w,M C N cF a w->Q .normal a w) (hM:M C N c a w)
 (h:eT call sg (Region.before ops).toList its [] c=some cF):(Code.region id ops true).wp P Q a w:=by
 simp only[N2,aB,decide_eq_true_eq,aT]at a5;obtain⟨⟨⟨⟨⟨a2,a0⟩,W⟩,J⟩,U⟩,c3⟩:=a5;simp only[P6,aT,fL,du]at W;rw[aT]at a7;obtain⟨b3,c7⟩:=eH hl;have d6:(unF its).length=its.length:=by simp[unF]
 have e1:its.length=ops.size:=by rw[<-d6,b3,aO]
 have a9:∀f∈its,(unF its).getD f.n ⟨none,none,.lenC 0⟩=f.i.er:=by intro f y;have:=U f y;rw[aa];simp only[unF,aR,cL this,bo,bj];exact ra _ J y
 simp only[drawn,aB,decide_eq_true_eq]at hd;obtain⟨⟨hc,ht⟩,a3⟩:=hd
 have a8:∀f∈its,∃o,ops[f.n]? =some o/\fQ P ops o=some f.i.er/\f.n<ops.size:=by
  intro f y;have d7:=U f y;have b7:f.n<ops.toList.length:=by rw[aO];omega
  refine⟨ops.toList[f.n],by rw[<-cY,ab b7], ?_,by omega⟩;have z:=c7 f.n b7 (by omega);rw[z]
  congr 1
  have E:=a9 f y;rwa[aa,ab (by omega),bj]at E
 have c4:∀f∈its,∀g∈its,f.n=g.n->f=g:=by
  intro f y g hg e;have:its.Pairwise fun f g=>f.n≠g.n:=by rw[vm,gn]at J;exact J
  rw[nR]at this;obtain⟨i,hi,rfl⟩:=List.mem_iff_getElem.1 y;obtain⟨j,hj,rfl⟩:=List.mem_iff_getElem.1 hg;rcases Nat.lt_trichotomy i j with h|h|h
  ·exact absurd e (this i j hi hj h)
  ·subst h;rfl
  ·exact absurd e.symm (this j i hj hi h)
 have b4:∀f∈its,∀g∈its,f.n≠g.n->∀d,f.i.dst=some d->g.i.dst≠some d:=by
  have a4:∀f∈its,∀g∈its,f.n<g.n->∀d,f.i.dst=some d->g.i.dst≠some d:=by
   intro f y g hg b2 d z E
   have b6:(unF its).Pairwise fun u v=>∀d,u.dst=some d->v.dst≠some d:=by rw[vm,List.pairwise_filterMap]at a3;refine a3.imp ?_;intro u v d5 d hu hv;exact d5 d hu d hv rfl
   rw[nR]at b6;have d9:=U f y;have d8:=U g hg
   have g1:(unF its)[f.n]'(by omega)=f.i.er:=by have:=a9 f y;rwa[aa,ab (by omega),bj]at this
   have g2:(unF its)[g.n]'(by omega)=g.i.er:=by have:=a9 g hg;rwa[aa,ab (by omega),bj]at this
   exact b6 f.n g.n (by omega) (by omega) b2 d (by rw[g1];exact z) (by rw[g2];exact E)
  intro f y g hg e0 d z E;rcases bL f.n g.n with h|h
  ·exact a4 f y g hg h d z E
  ·exact a4 g hg f y (by omega) d E z
 have F:∀(i:Nat)(o:Oper),ops[i]? =some o->(∀e∈o.after,Region.binds .any e=true->e.on<i)/\
  ∀k,k<ops.size->((Region.before ops).toList.getD i 0).testBit k=true->∃e∈o.after,Region.binds .any e=true/\(e.on=k\/((Region.before ops).toList.getD e.on 0).testBit k=true):=by
  intro i o ho;unfold pI at hc;rw[aT]at hc;have hi:i<ops.size:=(ec.1 ho).1
  have z:=hc (o,i) (by rw[List.mem_zipIdx_iff_getElem?];simpa using ho)
  simp only[aB,Array.all_eq_true_iff_forall_mem,aT,fL,du,decide_eq_true_eq]at z;refine⟨fun e he hb=>(z.1 e he).resolve_left (by simp[hb]),fun k hk hb=> ?_⟩;have E:=(z.2 k (jx.2 hk)).resolve_left (by simp only[hb];simp);obtain⟨_,h3⟩:=E;rw[<-Array.any_toList,List.any_eq_true]at h3;obtain⟨e,he,h4⟩:=h3;rw[Array.mem_toList_iff]at he;simp only[aB,fL,beq_iff_eq]at h4;exact⟨e,he,h4.1,h4.2⟩
 have hq:∀q∈its,q.q=true->∃d,q.i.dst=some d/\∀p∈its,d∈p.i.rds->((Region.before ops).toList.getD p.n 0).testBit q.n=true/\p.n≠q.n:=by
  intro q hq L;have z:=(W q hq).resolve_left (by rw[L];simp);cases hd:q.i.dst with
  |none=>rw[hd]at z;cases z
  |some d=>
   rw[hd]at z;simp only[aT,fL,du,aB,decide_eq_true_eq,mV]at z;refine⟨d,rfl,fun p hp hr=> ?_⟩;rcases z p hp with E|E
   ·rw[eK]at E;simp only[decide_eq_false_iff_not]at E;exact absurd hr E
   ·exact E
 have O:∀f∈its,wO f:=by intro f y W;obtain⟨d,hd,z⟩:=hq f y W;exact⟨d,hd,fun h=>(z f y h).2 rfl⟩
 have c6:∀q∈its,q.q=true->∀p∈its,∀d,q.i.dst=some d->d∈p.i.rds->((Region.before ops).toList.getD p.n 0).testBit q.n=true:=by intro q Z L p hp d hd hr;obtain⟨d',d3,z⟩:=hq q Z L;rw[d3]at hd;cases hd;exact(z p hp hr).1
 have b8:its.Pairwise Nx:=by
  have z:its.Pairwise fun f g=>f.n≠g.n:=by rw[vm,gn]at J;exact J
  refine((oy a0).and z).imp_of_mem ?_;rintro p q hp Z ⟨E,h3⟩ L d hd;refine⟨fun hr=> ?_,fun e=>b4 p hp q Z h3 d e hd⟩;rw[c6 q Z L p hp d hd hr]at E;cases E
 obtain⟨seg,post,p2,d4,k1,k2,k3,k4,k5,k6,k7⟩:=mr (N:=N) (D:=[]) (V:=[]) h ⟨fun _ _=>rfl,rfl,rfl,by obtain⟨x,s,_,hS⟩:=hM;exact hS.inv.dom⟩ (fun f y=>a7 f y) O b8 (by simp) (by simp) (by simp)
 have I:∀f∈its,(dO ops.size false).getD f.n true=false:=by
  intro f y;have:=U f y;have:f.n<ops.size:=by omega
  simp[jP,this]
 have a1:un seg (dO ops.size false)=seg:=by apply hJ.2;intro f y;rw[I f (by rw[k1];exact ak.2 (.inl y))];rfl
 refine wp_region_any hm ?_
 refine wv (its:=its) (b:=(Region.before ops).toList) (cF:=cF) (sg:=sg) b5 a8 (fun j hj=> ?_) c4 (fun i o ho=>(F i o ho).1) (fun i o k ho hk hb=>(F i o ho).2 k hk hb) (fun f y=>a7 f y) O b8 c6
  (fun pre f r e y g hg=> ?_) b4 hQ ops.size _ c a _ ?_ (by simp) ?_ ⟨seg,post,p2,d4,k1,k3,k4,fun f y _=>k5 f (.inr y),(fun f y hq=>by rw[k2 f y]at hq;cases hq),fun f y=>I f (by rw[k1];exact ak.2 (.inr y)), ?_, ?_⟩ ?_
 ·have:=c3 j (jx.2 (by omega))
  rw[eK]at this;simp only[decide_eq_true_eq]at this;obtain⟨f,y,e⟩:=aQ.1 this;exact⟨f,y,e⟩
 ·rw[e]at a2
  rcases EI _ (xe a2 y) g hg with z|⟨k,hk,z⟩
  ·exact⟨f,aw ..,z⟩
  ·exact⟨k,an _ hk,z⟩
 ·have:(un its (dO ops.size false)).length<=its.length:=List.length_filter_le _ _
  omega
 ·intro i o k ho hl _ _
  have hi:i<ops.size:=(ec.1 ho).1;simp[jP,hi]at hl
 ·rw[a1];simpa using k6
 ·rw[a1];intro f y;exact k7 f (.inr y)
 ·obtain⟨x,s,a6,hS⟩:=hM
  exact⟨x,s,⟨a6.tm,a6.defers,a6.heap.drawn _⟩,hS⟩
end Go.Sy
namespace Go.Sy
variable [ba]
variable {P : Program} {C : Ctx} {x : Sit} {a : Act} {w : World} {N : Nat} {c c' : CSt} {s : St} {call : cU} {sg : Nat -> Sig}
variable {ops : Array Oper} {its σ : List FI} {b : List Nat} {cF : CSt} {listed : Array Bool}
structure Ni(P:Program)(N:Nat)(ops:Array Oper)(its:List FI)(b:List Nat):Prop where
 item:∀f∈its,∃o,ops[f.n]? =some o/\fQ P ops o=some f.i.er/\f.n<ops.size
 ex:∀j,j<ops.size->∃f∈its,f.n=j
 inj:∀f∈its,∀g∈its,f.n=g.n->f=g
 back:∀(i:Nat)(o:Oper),ops[i]? =some o->∀e∈o.after,Region.binds .any e=true->e.on<i
 bit:∀(i:Nat)(o:Oper)(k:Nat),ops[i]? =some o->k<ops.size->(b.getD i 0).testBit k=true->∃e∈o.after,Region.binds .any e=true/\(e.on=k\/(b.getD e.on 0).testBit k=true)
 ok:∀f∈its,f.i.ok N=true
 self:∀f∈its,wO f
 rd:∀q∈its,q.q=true->∀p∈its,∀d,q.i.dst=some d->d∈p.i.rds->(b.getD p.n 0).testBit q.n=true
structure Rn(its:List FI)(b:List Nat)(σ:List FI):Prop where
 mem:∀f,f∈σ↔f∈its
 nd:(σ.map FI.n).Nodup
 nx:σ.Pairwise Nx
 seg:∀pre f r,σ=pre++f::r->f.q=false->∀g∈r,g.q=true->∃h∈f::r,(b.getD g.n 0).testBit h.n=true
open Classical in
theorem zr(F:listed.size=ops.size){y g:FI}(I:Ni P N ops its b)(z:y∈its)(E:g∈its)(hi:y.n<ops.size):(listed.setIfInBounds y.n true).getD g.n true=if g=y then true else listed.getD g.n true:=by
 rw[gB (by omega)]
 by_cases h:g=y
 ·subst h;simp
 ·rw[if_neg (fun e=>h (I.inj g E y z e)),if_neg h]
theorem BQ(I:Ni P N ops its b)(O:Rn its b σ){pre:List FI}{Q:FI}(U:Q∈its)(h:∀g∈pre,g∈its)(E:∀f∈pre,f.q=false->listed.getD f.n true=true)
 (J:∀k,k<ops.size->(b.getD Q.n 0).testBit k=true->listed.getD k true=true):∀n∈Q.i.rds,n∉(un pre listed).map dOf:=by
 intro n hn hm;obtain⟨g,hg,F⟩:=aQ.1 hm;obtain⟨y,z⟩:=cM.1 hg
 have L:g.q=true:=by
  cases hq:g.q with
  |true=>rfl
  |false=>rw[E g y hq]at z;cases z
 obtain⟨d,hd,_⟩:=I.self g (h g y) L;have Z:d=n:=by unfold dOf at F;rw[hd]at F;exact F
 subst Z;have:=I.rd g (h g y) L Q U d hd hn;obtain⟨_,_,_,W⟩:=I.item g (h g y);rw[J g.n W this]at z;cases z
theorem zk(hs:listed.size=ops.size)(I:Ni P N ops its b)(O:Rn its b σ)(hS:o8 call sg N b σ cF listed c){z:FI}(Q:z∈its)(h1:listed.getD z.n true=false)(hq:z.q=true)
 (a0:∀k,k<ops.size->(b.getD z.n 0).testBit k=true->listed.getD k true=true):
 ∃v,qv c z.i=some v/\o8 call sg N b σ cF (listed.setIfInBounds z.n true) (c.put z.i.dst v):=by
 classical
 obtain⟨_,_,_,b4⟩:=I.item z Q;have F:∀g∈its,(listed.setIfInBounds z.n true).getD g.n true=if g=z then true else listed.getD g.n true:=fun g W=>zr hs I Q W b4
 obtain⟨pre,post,p,ps,e,J,a3,b7,U,L,hA,hV⟩:=hS.ex;have y:∀g∈pre,g∈its:=fun g W=>(O.mem g).1 (by rw[e];exact ak.2 (.inl W))
 have E:∀g∈post,g∈its:=fun g W=>(O.mem g).1 (by rw[e];exact ak.2 (.inr W))
 have a5:=BQ (listed:=listed) I O Q y U a0
 have a8:z∈pre:=by
  have h2:=(O.mem z).2 Q;rw[e]at h2;rcases ak.1 h2 with h3|h3
  ·exact h3
  ·exfalso
   rcases J with h4|⟨f0,r,h4,hf0⟩
   ·rw[h4]at h3;cases h3
   ·have h5:z∈r:=by
     rw[h4]at h3;rcases am.1 h3 with h|h
     ·rw[h,hf0]at hq;cases hq
     ·exact h
    obtain⟨g,W,b8⟩:=O.seg pre f0 r (by rw[e,h4]) hf0 z h5 hq;have a4:g∈post:=by rw[h4];exact W
    obtain⟨_,_,_,b6⟩:=I.item g (E g a4);have:=a0 g.n b6 b8;rw[L g a4]at this;cases this
 have b3:z∈un pre listed:=cM.2 ⟨a8,h1⟩;have hv:=hV z b3;rw[<-hA.qv a5]at hv;obtain⟨d,hd,c3⟩:=I.self z Q hq;have a6:dOf z=d:=by unfold dOf;rw[hd];rfl
 refine⟨_,hv,⟨pre,post,p,ps,e,J,a3,b7, ?_, ?_, ?_, ?_⟩⟩
 ·intro f hf b5
  rw[F f (y f hf)];split
  ·rfl
  ·exact U f hf b5
 ·intro f hf
  rw[F f (E f hf),if_neg]
  ·exact L f hf
  ·intro e2
   subst e2;have h5:=O.nx;rw[e]at h5;have h6:=(eJ.1 h5).2.2 f a8 f hf hq d hd;exact h6.2 hd
 ·refine⟨fun n hn=> ?_, ?_, ?_,hA.dom⟩
  ·rw[hd,gD]
   split
   ·rename_i e2;rw[e2,a6]
   ·rename_i a9
    refine hA.get n fun hm=>hn ?_
    obtain⟨g,W,a1⟩:=aQ.1 hm;obtain⟨a2,b2⟩:=cM.1 W;refine aQ.2 ⟨g,cM.2 ⟨a2, ?_⟩,a1⟩;rw[F g (y g a2),if_neg]
    ·exact b2
    ·intro e2;subst e2;rw[a6]at a1;exact a9 a1.symm
  ·cases z.i.dst<;>exact hA.ob
  ·cases z.i.dst<;>exact hA.tk
 ·intro f hf
  obtain⟨a7,Z⟩:=cM.1 hf;refine hV f (cM.2 ⟨a7, ?_⟩);rw[F f (y f a7)]at Z;split at Z
  ·cases Z
  ·exact Z
theorem F3(l r:List FI):fp (l++r)=fp l++fp r:=List.filterMap_append
theorem Dr{l:List FI}(h:∀f∈l,f.q=true):fp l=[]:=by unfold fp;rw[List.filterMap_eq_nil_iff];intro f y;rw[h f y];rfl
theorem pn{l:List FI}{k:Nat}:k∈fp l↔∃f∈l,f.q=false/\f.n=k:=by
 unfold fp;rw[List.mem_filterMap];constructor
 ·rintro⟨f,z,h⟩
  cases y:f.q with
  |true=>rw[y]at h;cases h
  |false=>rw[y]at h;exact⟨f,z,y,by simpa using h⟩
 ·rintro⟨f,z,y,rfl⟩;exact⟨f,z,by rw[y];rfl⟩
theorem jW(k:Nat):∀l:List FI,fp (l.filter fun q=> !decide (q.n=k))=(fp l).filter fun x=> !decide (x=k)
 |[]=>rfl
 |f::r=>by
  have y:=jW k r;rw[kI]
  by_cases h:f.n=k
  ·cases hq:f.q with
   |true=>simp only[h,decide_true,Bool.not_true,aI,if_false,y];simp[fp,hq]
   |false=>simp only[h,decide_true,Bool.not_true,aI,if_false,y];simp[fp,hq,h]
  ·cases hq:f.q with
   |true=>simp only[h,decide_false,Bool.not_false,if_true];simp only[fp,List.filterMap_cons,hq,if_true]at y ⊢;exact y
   |false=>simp only[h,decide_false,Bool.not_false,if_true];simp only[fp,List.filterMap_cons,hq,aI,if_false,kI,h,decide_false,Bool.not_false,if_true]at y ⊢;rw[y]
theorem w9(E:listed.size=ops.size){k:Nat}(z:k<ops.size)(σ:List FI):un σ (listed.setIfInBounds k true)=(un σ listed).filter fun q=> !decide (q.n=k):=by
 simp only[un,List.filter_filter];apply List.filter_congr;intro q y;rw[gB (by omega)]
 by_cases h:q.n=k<;>simp[h]
theorem zl(hs:listed.size=ops.size)(I:Ni P N ops its b)(O:Rn its b σ)(hS:o8 call sg N b σ cF listed c){W:FI}(Z:W∈its)(h1:listed.getD W.n true=false)(hq:W.q=false)
 (a6:∀k,k<ops.size->(b.getD W.n 0).testBit k=true->listed.getD k true=true) (hh:(fp (un σ listed)).head? =some W.n):
 ∃c1,dy call sg c W.i=some c1/\o8 call sg N b σ cF (listed.setIfInBounds W.n true) c1:=by
 classical
 obtain⟨_,_,_,b3⟩:=I.item W Z;have L:∀g∈its,(listed.setIfInBounds W.n true).getD g.n true=if g=W then true else listed.getD g.n true:=fun g F=>zr hs I Z F b3
 obtain⟨pre,post,p,ps,e,a4,E,d4,U,J,hA,hV⟩:=hS.ex;have z:∀g∈pre,g∈its:=fun g F=>(O.mem g).1 (by rw[e];exact ak.2 (.inl F))
 have y:∀g∈post,g∈its:=fun g F=>(O.mem g).1 (by rw[e];exact ak.2 (.inr F))
 have b8:=BQ (listed:=listed) I O Z z U a6
 have a2:∀g∈un pre listed,g.q=true:=by
  intro g F;obtain⟨a3,a1⟩:=cM.1 F;cases hq:g.q with
  |true=>rfl
  |false=>rw[U g a3 hq]at a1;cases a1
 have d5:un post listed=post:=hJ.2 fun f Q=>by rw[J f Q];rfl
 have hu:fp (un σ listed)=fp post:=by
  have:un σ listed=un pre listed++un post listed:=by rw[e];exact List.filter_append ..
  rw[this,F3,Dr a2,d5];rfl
 rw[hu]at hh
 obtain⟨f0,r,a8,a9⟩:∃f r,post=f::r/\f.q=false:=by
  rcases a4 with h|h
  ·rw[h]at hh;cases hh
  ·exact h
 have d3:W=f0:=by
  rw[a8]at hh;have h2:fp (f0::r)=f0.n::fp r:=by simp[fp,a9]
  rw[h2]at hh;simp only[List.head?_cons,aq.injEq]at hh;exact I.inj W Z f0 (y f0 (by rw[a8];exact aw ..)) hh.symm
 subst d3;subst a8
 have b2:(pre++W::r).Pairwise fun f g=>f.n≠g.n:=by have:=O.nd;rw[e,vm,gn]at this;exact this
 obtain⟨n,q,i⟩:=W;simp only at a9;subst a9;simp only[eT]at E;cases hs1:dy call sg p i with
 |none=>rw[hs1]at E;simp[qb]at E
 |some p1=>
  rw[hs1]at E;simp only[qb]at E;cases F:gdP (su (b.getD n 0) p1 ps) p1 with
  |none=>rw[F]at E;simp[qc]at E
  |some e3=>
   rw[F]at E;simp only[qc]at E;obtain⟨c4,rfl⟩:=pz F;obtain⟨c1,e0,d6⟩:=hA.step (I.ok _ Z) b8 hs1;refine⟨c1,e0, ?_⟩;have a5:=O.nx;rw[e]at a5;have c7:=eJ.1 a5
   obtain⟨seg,a7,p2,d7,k1,k2,k3,k4,k5,k6,k7⟩:=mr (V:=un pre listed) E d6 (fun f Q=>I.ok f (y f (an _ Q))) (fun f Q=>I.self f (y f (an _ Q)))
    (bJ.1 c7.2.1).2 (fun g F f Q=>c7.2.2 g (cM.1 F).1 f (an _ Q))
    (fun g F=>by obtain⟨d,hd,_⟩:=I.self g (z g (cM.1 F).1) (a2 g F);exact⟨d,hd⟩)
    (fun g F=>by
     obtain⟨a3,a1⟩:=cM.1 F;rcases pC c4 (d4 g a3 (a2 g F))with h|h
     ·obtain⟨_,_,_,d9⟩:=I.item g (z g a3)
      rw[a6 g.n d9 h]at a1;cases a1
     ·exact h)
   have d8:∀g∈pre,g≠⟨n,false,i⟩:=fun g F e2=>by have:=(eJ.1 b2).2.2 g F _ (aw ..);rw[e2]at this;exact this rfl
   have b6:∀g∈r,g≠⟨n,false,i⟩:=fun g F e2=>by have:=(bJ.1 (eJ.1 b2).2.1).1 g F;rw[e2]at this;exact this rfl
   have b7:un (pre++⟨n,false,i⟩::seg) (listed.setIfInBounds n true)=un pre listed++seg:=by
    unfold un;rw[List.filter_append,kI];have e1:(listed.setIfInBounds n true).getD n true=true:=by rw[gB (by rw[hs];exact b3)];simp
    simp only[e1,Bool.not_true,aI,if_false]
    congr 1
    ·apply List.filter_congr
     intro g F;have:=L g (z g F);simp only at this;rw[this,if_neg (d8 g F)]
    ·apply hJ.2
     intro g F;have c6:g∈r:=by rw[k1];exact ak.2 (.inl F)
     have c3:g∈⟨n,false,i⟩::r:=an _ c6;have:=L g (y g c3);simp only at this;rw[this,if_neg (b6 g c6),J g c3];rfl
   refine⟨pre++⟨n,false,i⟩::seg,a7,p2,d7,by rw[e,k1];simp,k3,k4, ?_, ?_, ?_, ?_, ?_⟩
   ·intro f Q a0
    rcases ak.1 Q with h|h
    ·exact k5 f (.inl (d4 f h a0))
    ·rcases am.1 h with rfl|h
     ·cases a0
     ·exact k5 f (.inr h)
   ·intro f Q a0
    rcases ak.1 Q with h|h
    ·rw[L f (z f h)]
     split
     ·rfl
     ·exact U f h a0
    ·rcases am.1 h with rfl|h
     ·rw[L _ Z,if_pos rfl]
     ·rw[k2 f h]at a0;cases a0
   ·intro f Q
    have b4:f∈r:=by rw[k1];exact ak.2 (.inr Q)
    have b5:f∈⟨n,false,i⟩::r:=an _ b4;rw[L f (y f b5),if_neg (b6 f b4)];exact J f b5
   ·rw[b7,df]
    refine⟨fun m hm=>k6.get m (fun h=>hm ?_),k6.ob,k6.tk,k6.dom⟩;rw[ak]at h ⊢;exact h.symm
   ·rw[b7]
    intro f Q;exact k7 f (ak.1 Q)
theorem F1{k:Nat}{g:Nat}{A:List t8}(h:kB b k A=true)(F:∀l,A.head? =some l->g∈l)(J:∀l,A.head? =some l->∀x∈l,x≠g->(b.getD g 0).testBit x=false):
 ∃I,kB b I (A.filterMap fun p=>match p with|x::r=>if x=g then some r else none|[]=>none)=true:=by
 cases A with
 |nil=>cases k<;>simp[kB]at h
 |cons l A=>
  cases l with
  |nil=>have:=F [] rfl;cases this
  |cons y t=>
   cases k with
   |zero=>simp[kB]at h
   |succ k=>
    simp only[kB,aT]at h;have z:=h g (F _ rfl);rw[fL]at z;rcases z with z|z
    ·exfalso
     rw[List.any_eq_true]at z;obtain⟨x,L,E⟩:=z;rw[aB]at E;have O:=of_decide_eq_true E.1;have:=J _ rfl x L O;unfold mV at E;rw[E.2]at this;cases this
    ·exact⟨k,z⟩
theorem rB{R R':List FI->t8}{g:Nat}:∀{A:List (List FI)},(∀σ∈A,∀r,R σ=g::r->R' σ=r)->
 (A.filter fun σ=>decide ((R σ).head? =some g)).map R'=(A.map R).filterMap fun p=>match p with|x::r=>if x=g then some r else none|[]=>none
 |[],_=>rfl
 |σ::A,h=>by
  have E:=rB (R:=R) (R':=R') (g:=g) (A:=A) fun τ F=>h τ (an _ F)
  have I:=h σ (aw ..);rw[kI,aG,List.filterMap_cons];cases hR:R σ with
  |nil=>simp only[List.head?_nil,reduceCtorEq,decide_false,aI,if_false];exact E
  |cons y t=>
   by_cases z:y=g
   ·subst z
    simp only[List.head?_cons,decide_true,if_true,aG,I t hR];rw[E]
   ·have:¬(some y=some g):=fun e=>z (by injection e)
    simp only[List.head?_cons,this,decide_false,aI,if_false,z];exact E
theorem Gd(
 hcal:fV P call)(I:Ni P N ops its b){ords:List (List FI)}(hO:∀σ∈ords,Rn its b σ){Q:LAe}(hQ:∀a w,M C N cF a w->Q .normal a w):
 ∀(O:Nat)(listed:Array Bool)(c:CSt)(a:Act)(w:World)(A:List (List FI))(k:Nat),(un its listed).length<=O->listed.size=ops.size->
  (∀(i:Nat)(o:Oper)(k:Nat),ops[i]? =some o->listed.getD i true=true->k<ops.size->(b.getD i 0).testBit k=true->listed.getD k true=true)->
  (∀σ∈A,σ∈ords/\o8 call sg N b σ cF listed c)->kB b k (A.map fun σ=>fp (un σ listed))=true->M C N c a w->wpAny P .any ops Q O listed a w:=by
 classical
 have d3:∀(listed:Array Bool),listed.size=ops.size->∀k,k<ops.size->listed.getD k false=listed.getD k true:=by intro listed U k hk;simp[jP,U,hk]
 have done:∀(listed:Array Bool)(c:CSt)(a:Act)(w:World)(A:List (List FI))(k:Nat),un its listed=[]->(∀σ∈A,σ∈ords/\o8 call sg N b σ cF listed c)->kB b k (A.map fun σ=>fp (un σ listed))=true->M C N c a w->Region.ready .any ops listed=[]/\Q .normal a w:=by
  intro listed c a w A k h0 e8 E hM;constructor
  ·rw[List.eq_nil_iff_forall_not_mem]
   intro j hj;obtain⟨Z,o,h2,h3⟩:=mem_ready.1 hj;have f2:j<ops.size:=(ec.1 h2).1;obtain⟨z,F,rfl⟩:=I.ex j f2;have:z∈un its listed:=cM.2 ⟨F,Z⟩;rw[h0]at this;cases this
  ·cases A with
   |nil=>cases k<;>simp[kB]at E
   |cons σ A=>
    obtain⟨W,L⟩:=e8 σ (aw ..)
    have d6:un σ listed=[]:=by rw[List.eq_nil_iff_forall_not_mem];intro f hf;obtain⟨Z,h2⟩:=cM.1 hf;have:f∈un its listed:=cM.2 ⟨((hO σ W).mem f).1 Z,h2⟩;rw[h0]at this;cases this
    obtain⟨pre,post,p,ps,e,hp,a4,_,_,b2,hA,_⟩:=L.ex
    have f6:post=[]:=by
     cases post with
     |nil=>rfl
     |cons f r=>have:f∈un σ listed:=cM.2 ⟨by rw[e];simp,b2 f (aw ..)⟩;rw[d6]at this;cases this
    subst f6;simp only[eT,aq.injEq]at a4;subst a4;have hD:un pre listed=[]:=by rw[<-d6,e,bf]
    rw[hD]at hA;refine hQ a w ?_;obtain⟨x,s,f1,b4⟩:=hM;refine M.slots (c:=c) ⟨x,s,f1,b4⟩ ⟨hA.dom,by rw[<-hA.ob];exact b4.inv.so,by rw[<-hA.ob];exact b4.inv.wf⟩ hA.ob.symm hA.tk.symm (fun i=> .inl (hA.get i (by simp)).symm)
 intro O;induction O with
 |zero=>intro listed c a w A k hf U b6 L E hM;exact done listed c a w A k (cx.1 (by omega)) L E hM
 |succ O ih=>
  intro listed c a w A k hf U b6 L E hM;constructor
  ·intro b8
   by_cases h0:un its listed=[]
   ·exact(done listed c a w A k h0 L E hM).2
   ·exfalso
    have hp:∃n,∃f∈un its listed,f.n=n:=by
     cases hc:un its listed with
     |nil=>exact absurd hc h0
     |cons f r=>exact⟨_,f,aw ..,rfl⟩
    obtain⟨n,⟨f,e9,g7⟩,d4⟩:=X0 _ hp;obtain⟨Z,h2⟩:=cM.1 e9;obtain⟨o,h3,_,h4⟩:=I.item f Z
    have:f.n∈Region.ready .any ops listed:=by refine mem_ready.2 ⟨h2,o,h3,fun e he hb=> ?_⟩;have d8:=I.back f.n o h3 e he hb;rw[d3 listed U _ (by omega),<-Bool.not_eq_false];intro e7;obtain⟨g,hg,c7⟩:=I.ex e.on (by omega);have:=d4 e.on ⟨g,cM.2 ⟨hg,by rw[c7];exact e7⟩,c7⟩;omega
    rw[b8]at this;cases this
  ·intro i e6
   obtain⟨Z,o,h2,h3⟩:=mem_ready.1 e6;have a1:i<ops.size:=(ec.1 h2).1;obtain⟨z,F,rfl⟩:=I.ex i a1;obtain⟨o',c6,a3,_⟩:=I.item z F;rw[h2]at c6;cases c6
   have J:∀k,k<ops.size->(b.getD z.n 0).testBit k=true->listed.getD k true=true:=by
    intro k hk hb;obtain⟨e,he,c4,f4⟩:=I.bit z.n o k h2 hk hb;have a9:=h3 e he c4;have g3:=I.back z.n o h2 e he c4;rw[d3 listed U _ (by omega)]at a9;rcases f4 with h|h
    ·rw[<-h];exact a9
    ·exact b6 e.on (ops[e.on]'(by omega)) k (by simp) a9 hk h
   have g5:(un its (listed.setIfInBounds z.n true)).length<(un its listed).length:=by rw[w9 U a1];refine List.length_filter_lt_length_iff_exists.2 ⟨z,cM.2 ⟨F,Z⟩,by simp⟩
   have a5:∀(i:Nat)(o:Oper)(k:Nat),ops[i]? =some o->(listed.setIfInBounds z.n true).getD i true=true->k<ops.size->(b.getD i 0).testBit k=true->(listed.setIfInBounds z.n true).getD k true=true:=by
    intro i2 o2 d9 f0 b3 d5 e4;rw[gB (by omega)]at b3 ⊢;split
    ·rfl
    ·split at b3
     ·rename_i e1
      subst e1;exact J d9 d5 e4
     ·exact b6 i2 o2 d9 f0 b3 d5 e4
   have e3:(listed.setIfInBounds z.n true).size=ops.size:=by simpa using U
   obtain⟨σ0,A0,a0⟩:∃σ A',A=σ::A':=by
    cases A with
    |nil=>cases k<;>simp[kB]at E
    |cons σ A'=>exact⟨σ,A',rfl⟩
   cases hq:z.q with
   |true=>
    obtain⟨g1,f7⟩:=L σ0 (by rw[a0];exact aw ..);obtain⟨v,hv,_⟩:=zk U I (hO σ0 g1) f7 F Z hq J;refine gh hcal hM (I.ok z F) h2 a3 (nY (call:=call) (sg:=sg) hv) fun a' w' b5=> ?_
    refine ih _ _ a' w' A k (by omega) e3 a5 (fun σ W=>⟨(L σ W).1, ?_⟩) ?_ b5
    ·obtain⟨v',e2,g4⟩:=zk U I (hO σ (L σ W).1) (L σ W).2 F Z hq J
     rw[hv]at e2;injection e2 with e;subst e
     exact g4
    ·have:(A.map fun σ=>fp (un σ (listed.setIfInBounds z.n true)))=A.map fun σ=>fp (un σ listed):=by
      apply List.map_congr_left;intro σ W;rw[w9 U a1,jW,hJ];intro x hx;obtain⟨f,hf,a7,rfl⟩:=pn.1 hx;have a8:=((hO σ (L σ W).1).mem f).1 (cM.1 hf).1;have:¬f.n=z.n:=fun e=>by rw[I.inj f a8 z F e,hq]at a7;cases a7
      simp[this]
     rw[this];exact E
   |false=>
    have a6:∀σ∈A,z.n∈fp (un σ listed):=fun σ W=>pn.2 ⟨z,cM.2 ⟨((hO σ (L σ W).1).mem z).2 F,Z⟩,hq,rfl⟩
    obtain⟨k',a2⟩:=F1 (g:=z.n) E (fun l hl=>by
     rw[a0]at hl;simp only[aG,List.head?_cons,aq.injEq]at hl;rw[<-hl];exact a6 σ0 (by rw[a0];exact aw ..)) (fun l hl y hy g6=>by
     rw[a0]at hl;simp only[aG,List.head?_cons,aq.injEq]at hl;rw[<-hl]at hy;obtain⟨f,hf,a7,rfl⟩:=pn.1 hy;obtain⟨f3,c3⟩:=cM.1 hf;have a8:=((hO σ0 (L σ0 (by rw[a0];exact aw ..)).1).mem f).1 f3;obtain⟨_,_,_,d8⟩:=I.item f a8;rw[<-Bool.not_eq_true];intro hb;rw[J f.n d8 hb]at c3;cases c3)
    rw[<-rB (R:=fun σ=>fp (un σ listed)) (R':=fun σ=>fp (un σ (listed.setIfInBounds z.n true))) (fun σ W r hR=>by
     show fp (un σ (listed.setIfInBounds z.n true))=r;rw[w9 U a1,jW];have d7:fp (un σ listed)=z.n::r:=hR;rw[d7,kI];simp only[decide_true,Bool.not_true,aI,if_false];rw[hJ];intro y hy
     have b7:(fp (un σ listed)).Nodup:=by
      have h5:=(hO σ (L σ W).1).nd
      have h6:(fp (un σ listed)).Sublist (σ.map FI.n):=by
       have h7:(fp (un σ listed)).Sublist ((un σ listed).map FI.n):=by
        unfold fp;rw[show(fun f:FI=>if f.q=true then none else some f.n)=fun f:FI=>if f.q=true then none else some (FI.n f)from rfl];generalize un σ listed=l;induction l with
        |nil=>exact jK.slnil
        |cons f r ih=>
         rw[List.filterMap_cons,aG];cases hq:f.q with
         |true=>exact jK.cons _ ih
         |false=>exact jK.cons_cons _ ih
       exact h7.trans (jK.map _ List.filter_sublist)
      exact h5.sublist h6
     rw[d7]at b7;have:y≠z.n:=fun e=>by rw[e]at hy;exact(dV.1 b7).1 hy
     simp[this])]at a2
    obtain⟨σ1,f5⟩:∃σ,σ∈A.filter fun σ=>decide ((fp (un σ listed)).head? =some z.n):=by
     cases hX:A.filter fun σ=>decide ((fp (un σ listed)).head? =some z.n)with
     |nil=>rw[hX]at a2;cases k'<;>simp[kB]at a2
     |cons σ _=>exact⟨σ,aw ..⟩
    obtain⟨h4,h5⟩:=List.mem_filter.1 f5;obtain⟨c1,e0,_⟩:=zl U I (hO σ1 (L σ1 h4).1) (L σ1 h4).2 F Z hq J (of_decide_eq_true h5);refine gh hcal hM (I.ok z F) h2 a3 e0 fun a' w' b5=> ?_
    refine ih _ _ a' w' _ k' (by omega) e3 a5 (fun σ W=> ?_) a2 b5;obtain⟨h6,h7⟩:=List.mem_filter.1 W;obtain⟨c2,e5,g2⟩:=zl U I (hO σ (L σ h6).1) (L σ h6).2 F Z hq J (of_decide_eq_true h7);rw[e0]at e5;injection e5 with e;subst e
    exact⟨(L σ h6).1,g2⟩
theorem PT(hl:ji (fQ P ops) ops.toList=some (unF its))(hd:drawn ops (unF its)=true)(b5:∀f∈its,f.i.ok N=true)(I:P6 (Region.before ops).toList its=true)
 (U:(its.map FI.n).Nodup) (J:∀f∈its,f.n<its.length) (a4:∀j∈bU its.length,(its.map FI.n).contains j=true):
 Ni P N ops its (Region.before ops).toList/\(∀f∈its,∀g∈its,f.n≠g.n->∀d,f.i.dst=some d->g.i.dst≠some d)/\its.length=ops.size:=by
 simp only[P6,aT,fL,du]at I;obtain⟨a3,a6⟩:=eH hl;have b4:(unF its).length=its.length:=by simp[unF]
 have b8:its.length=ops.size:=by rw[<-b4,a3,aO]
 have a1:∀f∈its,(unF its).getD f.n ⟨none,none,.lenC 0⟩=f.i.er:=by intro f z;have:=J f z;rw[aa];simp only[unF,aR,cL this,bo,bj];exact ra _ U z
 simp only[drawn,aB,decide_eq_true_eq]at hd;obtain⟨⟨hc,ht⟩,L⟩:=hd
 have W:∀f∈its,∃o,ops[f.n]? =some o/\fQ P ops o=some f.i.er/\f.n<ops.size:=by
  intro f z;have c3:=J f z;have a8:f.n<ops.toList.length:=by rw[aO];omega
  refine⟨ops.toList[f.n],by rw[<-cY,ab a8], ?_,by omega⟩;have y:=a6 f.n a8 (by omega);rw[y]
  congr 1
  have F:=a1 f z;rwa[aa,ab (by omega),bj]at F
 have a5:∀f∈its,∀g∈its,f.n=g.n->f=g:=by
  intro f z g Z e;have:its.Pairwise fun f g=>f.n≠g.n:=by rw[vm,gn]at U;exact U
  rw[nR]at this;obtain⟨i,hi,rfl⟩:=List.mem_iff_getElem.1 z;obtain⟨j,hj,rfl⟩:=List.mem_iff_getElem.1 Z;rcases Nat.lt_trichotomy i j with h|h|h
  ·exact absurd e (this i j hi hj h)
  ·subst h;rfl
  ·exact absurd e.symm (this j i hj hi h)
 have a9:∀f∈its,∀g∈its,f.n≠g.n->∀d,f.i.dst=some d->g.i.dst≠some d:=by
  have O:∀f∈its,∀g∈its,f.n<g.n->∀d,f.i.dst=some d->g.i.dst≠some d:=by
   intro f z g Z a2 d y F
   have a7:(unF its).Pairwise fun u v=>∀d,u.dst=some d->v.dst≠some d:=by rw[vm,List.pairwise_filterMap]at L;refine L.imp ?_;intro u v b3 d hu hv;exact b3 d hu d hv rfl
   rw[nR]at a7;have c6:=J f z;have c4:=J g Z
   have g1:(unF its)[f.n]'(by omega)=f.i.er:=by have:=a1 f z;rwa[aa,ab (by omega),bj]at this
   have g2:(unF its)[g.n]'(by omega)=g.i.er:=by have:=a1 g Z;rwa[aa,ab (by omega),bj]at this
   exact a7 f.n g.n (by omega) (by omega) a2 d (by rw[g1];exact y) (by rw[g2];exact F)
  intro f z g Z c7 d y F;rcases bL f.n g.n with h|h
  ·exact O f z g Z h d y F
  ·exact O g Z f z (by omega) d F y
 have E:∀(i:Nat)(o:Oper),ops[i]? =some o->(∀e∈o.after,Region.binds .any e=true->e.on<i)/\
  ∀k,k<ops.size->((Region.before ops).toList.getD i 0).testBit k=true->∃e∈o.after,Region.binds .any e=true/\(e.on=k\/((Region.before ops).toList.getD e.on 0).testBit k=true):=by
  intro i o ho;unfold pI at hc;rw[aT]at hc;have hi:i<ops.size:=(ec.1 ho).1
  have y:=hc (o,i) (by rw[List.mem_zipIdx_iff_getElem?];simpa using ho)
  simp only[aB,Array.all_eq_true_iff_forall_mem,aT,fL,du,decide_eq_true_eq]at y;refine⟨fun e he hb=>(y.1 e he).resolve_left (by simp[hb]),fun k hk hb=> ?_⟩;have F:=(y.2 k (jx.2 hk)).resolve_left (by simp only[hb];simp);obtain⟨_,h3⟩:=F;rw[<-Array.any_toList,List.any_eq_true]at h3;obtain⟨e,he,h4⟩:=h3;rw[Array.mem_toList_iff]at he;simp only[aB,fL,beq_iff_eq]at h4;exact⟨e,he,h4.1,h4.2⟩
 have hq:∀q∈its,q.q=true->∃d,q.i.dst=some d/\∀p∈its,d∈p.i.rds->((Region.before ops).toList.getD p.n 0).testBit q.n=true/\p.n≠q.n:=by
  intro q hq a0;have y:=(I q hq).resolve_left (by rw[a0];simp);cases hd:q.i.dst with
  |none=>rw[hd]at y;cases y
  |some d=>
   rw[hd]at y;simp only[aT,fL,du,aB,decide_eq_true_eq,mV]at y;refine⟨d,rfl,fun p hp hr=> ?_⟩;rcases y p hp with F|F
   ·rw[eK]at F;simp only[decide_eq_false_iff_not]at F;exact absurd hr F
   ·exact F
 have Q:∀f∈its,wO f:=by intro f z I;obtain⟨d,hd,y⟩:=hq f z I;exact⟨d,hd,fun h=>(y f z h).2 rfl⟩
 have b7:∀q∈its,q.q=true->∀p∈its,∀d,q.i.dst=some d->d∈p.i.rds->((Region.before ops).toList.getD p.n 0).testBit q.n=true:=by intro q b6 a0 p hp d hd hr;obtain⟨d',b2,y⟩:=hq q b6 a0;rw[b2]at hd;cases hd;exact(y p hp hr).1
 refine⟨⟨W,fun j hj=> ?_,a5,fun i o ho=>(E i o ho).1,fun i o k ho hk hb=>(E i o ho).2 k hk hb,b5,Q,b7⟩,a9,b8⟩;have:=a4 j (jx.2 (by omega));rw[eK]at this;simp only[decide_eq_true_eq]at this;obtain⟨f,z,e⟩:=aQ.1 this;exact⟨f,z,e⟩
theorem my{l:List FI}(h:(l.map FI.n).Nodup){f:FI}(y:f∈l):tp l f.n=f:=by
 induction l with
 |nil=>cases y
 |cons g r z=>
  simp only[aG,dV]at h;simp only[tp];rcases am.1 y with rfl|y
  ·rw[if_pos rfl]
  ·rw[if_neg,z h.2 y]
   intro e;apply h.1;rw[e];exact hC y
theorem uC{l:List FI}{f:FI}:∀{p:t8},f∈ik l p↔∃k∈p,tp l k=f
 |[]=>by simp[ik]
 |k::r=>by
  simp only[ik,am,uC (p:=r)];constructor
  ·rintro(h|⟨j,y,h⟩)
   ·exact⟨k,.inl rfl,h.symm⟩
   ·exact⟨j,.inr y,h⟩
  ·rintro⟨j,rfl|y,h⟩
   ·exact .inl h.symm
   ·exact .inr ⟨j,y,h⟩
theorem uD{l:List FI}(h:(l.map FI.n).Nodup):∀{p:t8},(∀k∈p,k∈l.map FI.n)->(ik l p).map FI.n=p
 |[],_=>rfl
 |k::r,hp=>by simp only[ik,aG];rw[uD h (p:=r) fun j y=>hp j (an _ y)];obtain⟨f,z,e⟩:=aQ.1 (hp k (aw ..));rw[<-e,my h z]
theorem CI{s:Nat}(l:List FI):vL b (some s) l=true->∀g∈l,g.q=true->(b.getD g.n 0).testBit s=true\/∃h∈l,(b.getD g.n 0).testBit h.n=true:=by
 induction l generalizing s with
 |nil=>intro _ g y;cases y
 |cons f r F=>
  intro h g y E;simp only[vL]at h;split at h
  ·simp only[aB,mV]at h
   rcases am.1 y with rfl|y
   ·exact .inl h.1
   ·rcases F h.2 g y E with z|⟨k,hk,z⟩
    ·exact .inl z
    ·exact .inr ⟨k,an _ hk,z⟩
  ·rename_i I
   rcases am.1 y with rfl|y
   ·exact absurd E I
   ·rcases F h g y E with z|⟨k,hk,z⟩
    ·exact .inr ⟨f,aw ..,z⟩
    ·exact .inr ⟨k,an _ hk,z⟩
theorem rO:∀{pre:List FI}{s:t9}{f:FI}{r:List FI},vL b s (pre++f::r)=true->f.q=false->vL b (some f.n) r=true
 |[],s,f,r,h,hf=>by simp only[aK,vL,hf,aI,if_false]at h;exact h
 |g::pre,s,f,r,h,hf=>by
  simp only[aV,vL]at h;split at h
  ·rw[aB]at h;exact rO h.2 hf
  ·exact rO h hf
theorem mN:∀{l:List FI},tq b l=true->l.Pairwise fun p q=>(b.getD p.n 0).testBit q.n=false
 |[],_=>gg.nil
 |p::r,h=>by simp only[tq,aB,aT]at h;refine bJ.2 ⟨fun q y=> ?_,mN h.2⟩;have:=h.1 q y;simpa only[du,mV]using this
theorem vf{l:List FI}:∀{ps:List t8},iO call sg b l ps c=some cF->∀p∈ps,eT call sg b (ik l p) [] c=some cF
 |[],h,p,hp=>by cases hp
 |[q],h,p,hp=>by rw[aW.1 hp];exact h
 |q::F::r,h,p,hp=>by
  simp only[iO]at h;cases h1:eT call sg b (ik l q) [] c with
  |none=>rw[h1]at h;simp[nD]at h
  |some y=>
   cases h2:iO call sg b l (F::r) c with
   |none=>rw[h1,h2]at h;simp[nD]at h
   |some z=>
    rw[h1,h2]at h;obtain⟨I,E⟩:=pz h;rcases am.1 hp with rfl|hp
    ·rw[h1,E]
    ·exact vf (h2.trans (by rw[<-I,E])) p hp
theorem Df(b4:fV P call){id:Nat}(hl:ji (fQ P ops) ops.toList=some (unF its))(hd:drawn ops (unF its)=true)(hm:P.follows .mixedOrders=true)
 (a4:its.all (fun f=>f.i.ok N)=true) {ps:List t8} (a1:Ok (Region.before ops).toList its ps=true) {Q:LAe} (hQ:∀a w,M C N cF a w->Q .normal a w) (hM:M C N c a w)
 (h:iO call sg (Region.before ops).toList its ps c=some cF):(Code.region id ops true).wp P Q a w:=by
 simp only[Ok,aB,decide_eq_true_eq]at a1;obtain⟨⟨⟨⟨⟨b6,J⟩,b2⟩,Z⟩,a5⟩,hc⟩:=a1;rw[aT]at a4 b2 Z a5;obtain⟨I,b5,c6⟩:=PT hl hd a4 b6 J (fun f y=>of_decide_eq_true (b2 f y)) Z
 have hO:∀σ∈ps.map (ik its),Rn its (Region.before ops).toList σ:=by
  intro σ hσ;obtain⟨p,hp,rfl⟩:=aQ.1 hσ;have U:=a5 p hp;simp only[aB,decide_eq_true_eq,aT,eK]at U;obtain⟨⟨⟨⟨c4,a6⟩,c3⟩,a0⟩,L⟩:=U;have a8:=uD J a6
  have F:∀f,f∈ik its p↔f∈its:=by
   intro f;rw[uC];constructor
   ·rintro⟨k,hk,rfl⟩
    obtain⟨g,hg,rfl⟩:=aQ.1 (a6 k hk);rw[my J hg];exact hg
   ·intro y
    exact⟨f.n,c3 f.n (hC y),my J y⟩
  have E:((ik its p).map FI.n).Nodup:=by rw[a8];exact c4
  refine⟨F,E, ?_,fun pre f r e y g hg hq=> ?_⟩
  ·have U:(ik its p).Pairwise fun f g=>f.n≠g.n:=by rw[vm,gn]at E;exact E
   refine((mN L).and U).imp_of_mem ?_;rintro u v hu hv ⟨h2,h3⟩ b7 d a3;have a9:=(F u).1 hu;have b3:=(F v).1 hv;refine⟨fun hr=> ?_,fun e=>b5 u a9 v b3 h3 d e a3⟩;rw[I.rd v b3 b7 u a9 d a3 hr]at h2;cases h2
  ·rw[e]at a0
   rcases CI _ (rO a0 y) g hg hq with U|⟨k,hk,U⟩
   ·exact⟨f,aw ..,U⟩
   ·exact⟨k,an _ hk,U⟩
 have z:∀f∈its,(dO ops.size false).getD f.n true=false:=by intro f y;obtain⟨_,_,_,this⟩:=I.item f y;simp[jP,this]
 refine wp_region_any hm ?_;refine Gd (its:=its) (b:=(Region.before ops).toList) (cF:=cF) (sg:=sg) (ords:=ps.map (ik its)) b4 I hO hQ ops.size _ c a _ (ps.map (ik its)) its.length ?_ (by simp) ?_ (fun σ hσ=>⟨hσ, ?_⟩) ?_ ?_
 ·have:(un its (dO ops.size false)).length<=its.length:=List.length_filter_le _ _
  omega
 ·intro i o k ho hl _ _
  have hi:i<ops.size:=(ec.1 ho).1;simp[jP,hi]at hl
 ·have O:=hO σ hσ
  obtain⟨p,hp,rfl⟩:=aQ.1 hσ;have a7:=vf h p hp;obtain⟨seg,post,p2,b8,k1,k2,k3,k4,k5,k6,k7⟩:=mr (N:=N) (D:=[]) (V:=[]) a7 ⟨fun _ _=>rfl,rfl,rfl,by obtain⟨x,s,_,hS⟩:=hM;exact hS.inv.dom⟩ (fun f y=>I.ok f ((O.mem f).1 y)) (fun f y=>I.self f ((O.mem f).1 y)) O.nx (by simp) (by simp) (by simp)
  have W:un seg (dO ops.size false)=seg:=by apply hJ.2;intro f y;rw[z f ((O.mem f).1 (by rw[k1];exact ak.2 (.inl y)))];rfl
  refine⟨seg,post,p2,b8,k1,k3,k4,fun f y _=>k5 f (.inr y),(fun f y hq=>by rw[k2 f y]at hq;cases hq),fun f y=>z f ((O.mem f).1 (by rw[k1];exact ak.2 (.inr y))), ?_, ?_⟩
  ·rw[W];simpa using k6
  ·rw[W];intro f y;exact k7 f (.inr y)
 ·rw[List.map_map]
  have:(ps.map ((fun σ=>fp (un σ (dO ops.size false)))∘ik its))=ps.map fun p=>fp (ik its p):=by
   apply List.map_congr_left;intro p hp;show fp (un (ik its p) _)=_
   congr 1
   apply hJ.2;intro f y;rw[z f (((hO _ (hC hp)).mem f).1 y)];rfl
  rw[this];exact hc
 ·obtain⟨x,s,a2,hS⟩:=hM
  exact⟨x,s,⟨a2.tm,a2.defers,a2.heap.drawn _⟩,hS⟩
end Go.Sy
namespace Go.Sy
variable [ba]
variable {P : Program} {C : Ctx} {x : Sit} {a : Act} {w : World} {N : Nat} {c c' : CSt} {s : St} {T : kE}
def Ex.out:Ex->Exit
 | .n=> .normal
 | .x id=> .exit id
 | .r=> .ret
def EQ(C:Ctx)(N:Nat)(e:Ex)(c':CSt):LAe:=fun h a w=>h=e.out/\M C N c' a w
def tE(P:Program)(T:kE)(n:Nat):Prop:=
 (∀(r:RC)(c:CSt)(e:Ex)(c':CSt),gw T n r c=some (e,c')->∀(code:Code)(C:Ctx)(N:Nat)(a:Act)(w:World),ct P code=r.er->r.ok N=true->M C N c a w->code.wp P (EQ C N e c') a w)/\
 (∀(b:RC)(c:CSt)(e:Ex)(c':CSt),gw T n (.loop b) c=some (e,c')->∀(code:Code)(C:Ctx)(N:Nat)(a:Act)(w:World),ct P code=b.er->b.ok N=true->M C N c a w->Code.rounds P code (EQ C N e c') n a w)
theorem Qt{code:Code}{b:fU}(h:aX P code=some (.loop b)):∃E,code= .loop E/\aX P E=some b:=by
 cases code with
 |loop E=>simp only[aX]at h;obtain⟨L,I,J⟩:=ah.1 h;cases J;exact⟨E,rfl,I⟩
 |region id ops F=>
  simp only[aX]at h;split at h<;>try (cases h;done)
  split at h
  ·rw[aH]at h;cases h.2
  ·cases h
 |seq y z=>simp only[aX]at h;split at h<;>cases h
 |cond c y z=>simp only[aX]at h;split at h<;>cases h
 |block id b=>simp only[aX]at h;obtain⟨_,_,h⟩:=ah.1 h;cases h
 |_=>simp[aX]at h
theorem FO{code:Code}{id:Nat}{b:fU}(h:aX P code=some (.block id b)):∃E,code= .block id E/\aX P E=some b:=by
 cases code with
 |block id E=>simp only[aX]at h;obtain⟨L,I,J⟩:=ah.1 h;cases J;exact⟨E,rfl,I⟩
 |region id ops F=>
  simp only[aX]at h;split at h<;>try (cases h;done)
  split at h
  ·rw[aH]at h;cases h.2
  ·cases h
 |seq y z=>simp only[aX]at h;split at h<;>cases h
 |cond c y z=>simp only[aX]at h;split at h<;>cases h
 |loop b=>simp only[aX]at h;obtain⟨_,_,h⟩:=ah.1 h;cases h
 |_=>simp[aX]at h
theorem xcG{code:Code}{y z:fU}(h:aX P code=some (.seq y z)):∃E F,code= .seq E F/\aX P E=some y/\aX P F=some z:=by
 cases code with
 |seq E F=>
  simp only[aX]at h;split at h<;>try (cases h;done)
  rename_i O L J hz;cases h;exact⟨E,F,rfl,J,hz⟩
 |region id ops I=>
  simp only[aX]at h;split at h<;>try (cases h;done)
  split at h
  ·rw[aH]at h;cases h.2
  ·cases h
 |cond c y z=>simp only[aX]at h;split at h<;>cases h
 |block id b=>simp only[aX]at h;obtain⟨_,_,h⟩:=ah.1 h;cases h
 |loop b=>simp only[aX]at h;obtain⟨_,_,h⟩:=ah.1 h;cases h
 |_=>simp[aX]at h
theorem Qv{code:Code}{k:Arg}{y z:fU}(h:aX P code=some (.cond k y z)):∃E I F,code= .cond E I F/\bp P 0 E=some k/\aX P I=some y/\aX P F=some z:=by
 cases code with
 |cond E I F=>
  simp only[aX]at h;split at h<;>try (cases h;done)
  rename_i U Q W J O hz;cases h;exact⟨E,I,F,rfl,J,O,hz⟩
 |region id ops L=>
  simp only[aX]at h;split at h<;>try (cases h;done)
  split at h
  ·rw[aH]at h;cases h.2
  ·cases h
 |seq y z=>simp only[aX]at h;split at h<;>cases h
 |block id b=>simp only[aX]at h;obtain⟨_,_,h⟩:=ah.1 h;cases h
 |loop b=>simp only[aX]at h;obtain⟨_,_,h⟩:=ah.1 h;cases h
 |_=>simp[aX]at h
theorem xcI{code:Code}{l:LAc}(h:aX P code=some (.ops l)):∃id ops,code= .region id ops false/\ji (fQ P ops) ops.toList=some l:=by
 cases code with
 |region id ops E=>
  simp only[aX]at h;split at h<;>try (cases h;done)
  rename_i I F;cases E with
  |false=>simp only[aI,if_false,aq.injEq,fU.ops.injEq]at h;subst h;exact⟨id,ops,rfl,F⟩
  |true=>simp only[if_true]at h;rw[aH]at h;cases h.2
 |seq y z=>simp only[aX]at h;split at h<;>cases h
 |cond c y z=>simp only[aX]at h;split at h<;>cases h
 |block id b=>simp only[aX]at h;obtain⟨_,_,h⟩:=ah.1 h;cases h
 |loop b=>simp only[aX]at h;obtain⟨_,_,h⟩:=ah.1 h;cases h
 |_=>simp[aX]at h
theorem Na{code:Code}{b I:t8}{l:LAc}(h:aX P code=some (.drw b I l)):∃id ops,code= .region id ops true/\ji (fQ P ops) ops.toList=some l/\drawn ops l=true/\P.follows .mixedOrders=true/\b=(Region.before ops).toList/\I=xiu l:=by
 cases code with
 |region id ops E=>
  simp only[aX]at h;split at h<;>try (cases h;done)
  rename_i L J;cases E with
  |false=>simp only[aI,if_false,aq.injEq,reduceCtorEq]at h
  |true=>simp only[if_true]at h;rw[aH]at h;obtain⟨F,h⟩:=h;simp only[aq.injEq,fU.drw.injEq]at h;obtain⟨rfl,rfl,rfl⟩:=h;rw[aB]at F;exact⟨id,ops,rfl,J,F.1,F.2,rfl,rfl⟩
 |seq y z=>simp only[aX]at h;split at h<;>cases h
 |cond c y z=>simp only[aX]at h;split at h<;>cases h
 |block id b=>simp only[aX]at h;obtain⟨_,_,h⟩:=ah.1 h;cases h
 |loop b=>simp only[aX]at h;obtain⟨_,_,h⟩:=ah.1 h;cases h
 |_=>simp[aX]at h
theorem Qs{code:Code}(h:aX P code=some .skip):code= .skip:=by
 cases code with
 |skip=>rfl
 |region id ops E=>
  simp only[aX]at h;split at h<;>try (cases h;done)
  split at h
  ·rw[aH]at h;cases h.2
  ·cases h
 |seq y z=>simp only[aX]at h;split at h<;>cases h
 |cond c y z=>simp only[aX]at h;split at h<;>cases h
 |block id b=>simp only[aX]at h;obtain⟨_,_,h⟩:=ah.1 h;cases h
 |loop b=>simp only[aX]at h;obtain⟨_,_,h⟩:=ah.1 h;cases h
 |_=>simp[aX]at h
theorem xcH{code:Code}(h:aX P code=some .ret):code= .ret:=by
 cases code with
 |ret=>rfl
 |region id ops E=>
  simp only[aX]at h;split at h<;>try (cases h;done)
  split at h
  ·rw[aH]at h;cases h.2
  ·cases h
 |seq y z=>simp only[aX]at h;split at h<;>cases h
 |cond c y z=>simp only[aX]at h;split at h<;>cases h
 |block id b=>simp only[aX]at h;obtain⟨_,_,h⟩:=ah.1 h;cases h
 |loop b=>simp only[aX]at h;obtain⟨_,_,h⟩:=ah.1 h;cases h
 |_=>simp[aX]at h
theorem Qu{code:Code}{id:Nat}(h:aX P code=some (.exit id)):code= .exit id:=by
 cases code with
 |exit F=>simp only[aX,aq.injEq,fU.exit.injEq]at h;rw[h]
 |region id ops E=>
  simp only[aX]at h;split at h<;>try (cases h;done)
  split at h
  ·rw[aH]at h;cases h.2
  ·cases h
 |seq y z=>simp only[aX]at h;split at h<;>cases h
 |cond c y z=>simp only[aX]at h;split at h<;>cases h
 |block id b=>simp only[aX]at h;obtain⟨_,_,h⟩:=ah.1 h;cases h
 |loop b=>simp only[aX]at h;obtain⟨_,_,h⟩:=ah.1 h;cases h
 |_=>simp[aX]at h
theorem eN{id:Nat}{ops:Array Oper}{y:Bool}{s:fU}(h:ct P (.region id ops y)=s)(E:s≠ .bad):aX P (.region id ops y)=some s:=by
 rw[ct]at h;split at h
 ·rename_i F z;rw[<-h];exact z
 ·exact absurd h.symm E
theorem gW{k:Operand}{y z:Code}{s:fU}(h:ct P (.cond k y z)=s)(F:s≠ .bad):∃a,bp P 0 k=some a/\s= .cond a (ct P y) (ct P z):=by
 rw[ct]at h;split at h
 ·rename_i a E;exact⟨a,E,h.symm⟩
 ·exact absurd h.symm F
theorem QG{code:Code}{b:fU}(h:ct P code= .loop b):∃E,code= .loop E/\ct P E=b:=by
 cases code with
 |loop E=>rw[ct]at h;cases h;exact⟨E,rfl,rfl⟩
 |region id ops I=>have J:=eN h (by simp);have F:=Qt J;simp at F
 |seq y z=>rw[ct]at h;cases h
 |cond k y z=>obtain⟨a,_,F⟩:=gW h (by simp);cases F
 |block id b=>rw[ct]at h;cases h
 |skip=>rw[ct]at h;cases h
 |exit id=>rw[ct]at h;cases h
 |ret=>rw[ct]at h;cases h
 |_=>simp[ct]at h
theorem FU{code:Code}{id:Nat}{b:fU}(h:ct P code= .block id b):∃E,code= .block id E/\ct P E=b:=by
 cases code with
 |block id E=>rw[ct]at h;cases h;exact⟨E,rfl,rfl⟩
 |region id ops I=>have J:=eN h (by simp);have F:=FO J;simp at F
 |seq y z=>rw[ct]at h;cases h
 |cond k y z=>obtain⟨a,_,F⟩:=gW h (by simp);cases F
 |loop b=>rw[ct]at h;cases h
 |skip=>rw[ct]at h;cases h
 |exit id=>rw[ct]at h;cases h
 |ret=>rw[ct]at h;cases h
 |_=>simp[ct]at h
theorem xcK{code:Code}{y z:fU}(h:ct P code= .seq y z):∃E F,code= .seq E F/\ct P E=y/\ct P F=z:=by
 cases code with
 |seq E F=>rw[ct]at h;cases h;exact⟨E,F,rfl,rfl,rfl⟩
 |region id ops J=>have L:=eN h (by simp);have I:=xcG L;simp at I
 |cond k y z=>obtain⟨a,_,I⟩:=gW h (by simp);cases I
 |block id b=>rw[ct]at h;cases h
 |loop b=>rw[ct]at h;cases h
 |skip=>rw[ct]at h;cases h
 |exit id=>rw[ct]at h;cases h
 |ret=>rw[ct]at h;cases h
 |_=>simp[ct]at h
theorem xcN{code:Code}{k:Arg}{y z:fU}(h:ct P code= .cond k y z):∃F E I,code= .cond F E I/\bp P 0 F=some k/\ct P E=y/\ct P I=z:=by
 cases code with
 |cond F E I=>obtain⟨a,J,L⟩:=gW h (by simp);cases L;exact⟨F,E,I,rfl,J,rfl,rfl⟩
 |region id ops O=>have J:=eN h (by simp);have L:=Qv J;simp at L
 |seq y z=>rw[ct]at h;cases h
 |block id b=>rw[ct]at h;cases h
 |loop b=>rw[ct]at h;cases h
 |skip=>rw[ct]at h;cases h
 |exit id=>rw[ct]at h;cases h
 |ret=>rw[ct]at h;cases h
 |_=>simp[ct]at h
theorem QF{code:Code}(h:ct P code= .skip):code= .skip:=by
 cases code with
 |skip=>rfl
 |region id ops F=>have I:=eN h (by simp);have E:=Qs I;simp at E
 |seq y z=>rw[ct]at h;cases h
 |cond k y z=>obtain⟨a,_,E⟩:=gW h (by simp);cases E
 |block id b=>rw[ct]at h;cases h
 |loop b=>rw[ct]at h;cases h
 |exit id=>rw[ct]at h;cases h
 |ret=>rw[ct]at h;cases h
 |_=>simp[ct]at h
theorem xcL{code:Code}(h:ct P code= .ret):code= .ret:=by
 cases code with
 |ret=>rfl
 |region id ops F=>have I:=eN h (by simp);have E:=xcH I;simp at E
 |seq y z=>rw[ct]at h;cases h
 |cond k y z=>obtain⟨a,_,E⟩:=gW h (by simp);cases E
 |block id b=>rw[ct]at h;cases h
 |loop b=>rw[ct]at h;cases h
 |skip=>rw[ct]at h;cases h
 |exit id=>rw[ct]at h;cases h
 |_=>simp[ct]at h
theorem QH{code:Code}{id:Nat}(h:ct P code= .exit id):code= .exit id:=by
 cases code with
 |exit J=>rw[ct]at h;cases h;rfl
 |region id ops F=>have I:=eN h (by simp);have E:=Qu I;simp at E
 |seq y z=>rw[ct]at h;cases h
 |cond k y z=>obtain⟨a,_,E⟩:=gW h (by simp);cases E
 |block id b=>rw[ct]at h;cases h
 |loop b=>rw[ct]at h;cases h
 |skip=>rw[ct]at h;cases h
 |ret=>rw[ct]at h;cases h
 |_=>simp[ct]at h
theorem xcM{code:Code}{l:LAc}(h:ct P code= .ops l):aX P code=some (.ops l):=by
 cases code with
 |region id ops E=>exact eN h (by simp)
 |seq y z=>rw[ct]at h;cases h
 |cond k y z=>obtain⟨a,_,F⟩:=gW h (by simp);cases F
 |block id b=>rw[ct]at h;cases h
 |loop b=>rw[ct]at h;cases h
 |skip=>rw[ct]at h;cases h
 |exit id=>rw[ct]at h;cases h
 |ret=>rw[ct]at h;cases h
 |_=>simp[ct]at h
theorem Nb{code:Code}{b F:t8}{l:LAc}(h:ct P code= .drw b F l):aX P code=some (.drw b F l):=by
 cases code with
 |region id ops E=>exact eN h (by simp)
 |seq y z=>rw[ct]at h;cases h
 |cond k y z=>obtain⟨a,_,I⟩:=gW h (by simp);cases I
 |block id b=>rw[ct]at h;cases h
 |loop b=>rw[ct]at h;cases h
 |skip=>rw[ct]at h;cases h
 |exit id=>rw[ct]at h;cases h
 |ret=>rw[ct]at h;cases h
 |_=>simp[ct]at h
theorem tK{n:Nat}(hR:tE P T n)(L:fV P (eP T n)){r:RC}{c:CSt}{e:Ex}{c':CSt}(h:dG (gw T n) (eP T n) T.sg r c=some (e,c'))(hl:∀b,r≠ .loop b){code:Code}{C:Ctx}{N:Nat}{a:Act}{w:World}
 (J:ct P code=r.er) (E:r.ok N=true) (hM:M C N c a w):code.wp P (EQ C N e c') a w:=by
 cases r with
 |skip=>
  cases h;have:=QF (by simpa[RC.er]using J);subst this;exact wp_skip ⟨rfl,hM⟩
 |ret=>
  cases h;have:=xcL (by simpa[RC.er]using J);subst this;exact wp_ret ⟨rfl,hM⟩
 |exit id=>
  cases h;have:=QH (by simpa[RC.er]using J);subst this;exact wp_exit ⟨rfl,hM⟩
 |ops l=>
  obtain⟨id,ops,rfl,hl'⟩:=xcI (xcM (by simpa[RC.er]using J));simp only[dG]at h;cases hs:fD (eP T n) T.sg l c with
  |none=>rw[hs]at h;cases h
  |some c1=>rw[hs]at h;simp only[nrm,pr,aq.injEq,bi.injEq]at h;obtain⟨rfl,rfl⟩:=h;refine wp_region ?_;rw[List.range_eq_range'];exact we L hl' l ops.size 0 (by omega) (by simp) E hM hs fun a w h=>⟨rfl,h⟩
 |flt b W l I=>
  obtain⟨id,ops,rfl,hl',hdr,hmo,rfl,rfl⟩:=Na (Nb (by simpa[RC.er]using J));simp only[RC.ok,aB]at E;simp only[dG]at h;cases hs:eT (eP T n) T.sg (Region.before ops).toList l [] c with
  |none=>rw[hs]at h;cases h
  |some c1=>rw[hs]at h;simp only[nrm,aq.injEq,bi.injEq]at h;obtain⟨rfl,rfl⟩:=h;exact De L hl' hdr hmo E.1 E.2 (fun a w h=>⟨rfl,M.kill h I⟩) hM hs
 |fla b W l ps I=>
  obtain⟨id,ops,rfl,hl',hdr,hmo,rfl,rfl⟩:=Na (Nb (by simpa[RC.er]using J));simp only[RC.ok,aB]at E;simp only[dG]at h;cases hs:iO (eP T n) T.sg (Region.before ops).toList l ps c with
  |none=>rw[hs]at h;cases h
  |some c1=>rw[hs]at h;simp only[nrm,aq.injEq,bi.injEq]at h;obtain⟨rfl,rfl⟩:=h;exact Df L hl' hdr hmo E.1 E.2 (fun a w h=>⟨rfl,M.kill h I⟩) hM hs
 |seq y z=>
  obtain⟨y',z',rfl,hy,hz⟩:=xcK (by simpa[RC.er]using J);simp only[RC.ok,aB]at E;simp only[dG]at h;cases hs:gw T n y c with
  |none=>rw[hs]at h;cases h
  |some p=>
   obtain⟨U,c1⟩:=p;rw[hs]at h;refine wp_seq (wp_mono (hR.1 _ _ _ _ hs y' C N a w hy E.1 hM) ?_);rintro e' Z w' ⟨rfl,F⟩;cases U with
   |n=>exact hR.1 _ _ _ _ h z' C N Z w' hz E.2 F
   |x id=>cases h;exact⟨rfl,F⟩
   |r=>cases h;exact⟨rfl,F⟩
 |cond k y z=>
  obtain⟨k',y',z',rfl,hk,hy,hz⟩:=xcN (by simpa[RC.er]using J);simp only[RC.ok,aB]at E;simp only[dG]at h;unfold cnd at h;split at h<;>try (cases h;done)
  rename_i t ht
  have hv:a.eval k'= .bool t:=by obtain⟨x,s,a0,hS⟩:=hM;have O:=aJ a0 hk;rw[hS.ev,ht]at O;exact O.bool_inv
  refine wp_cond_split hv (fun e=> ?_) (fun e=> ?_)
  ·subst e
   rw[if_pos rfl]at h;exact hR.1 _ _ _ _ h y' C N a w hy E.1 hM
  ·subst e
   rw[if_neg (by simp)]at h;exact hR.1 _ _ _ _ h z' C N a w hz E.2 hM
 |block id b=>
  obtain⟨b',rfl,hb⟩:=FU (by simpa[RC.er]using J);simp only[dG]at h;cases hs:gw T n b c with
  |none=>rw[hs]at h;cases h
  |some p=>
   obtain⟨U,c1⟩:=p;rw[hs]at h;refine wp_block (wp_mono (hR.1 _ _ _ _ hs b' C N a w hb E hM) ?_);rintro e' Z w' ⟨rfl,F⟩;cases U with
   |n=>cases h;exact⟨rfl,F⟩
   |r=>cases h;exact⟨rfl,F⟩
   |x a1=>
    simp only[blk]at h;simp only[Ex.out,Exit.inBlock];split at h<;>rename_i Q
    ·cases h;rw[if_pos Q];exact⟨rfl,F⟩
    ·cases h;rw[if_neg Q];exact⟨rfl,F⟩
 |loop b=>exact absurd rfl (hl b)
 |bad=>cases h
 |pre W y=>
  simp only[dG]at h;cases hs:ig c W with
  |none=>rw[hs]at h;cases h
  |some c1=>rw[hs]at h;exact hR.1 _ _ _ _ h code C N a w (by simpa[RC.er]using J) E (jV hM hs)
 |post y W=>
  simp only[dG]at h;cases hs:gw T n y c with
  |none=>rw[hs]at h;cases h
  |some p=>
   obtain⟨U,c1⟩:=p;rw[hs]at h;refine wp_mono (hR.1 _ _ _ _ hs code C N a w (by simpa[RC.er]using J) E hM) ?_;rintro e' Z w' ⟨rfl,F⟩;cases U with
   |n=>
    simp only[psD]at h;split at h
    ·rename_i c2 h2;cases h;exact⟨rfl,jV F h2⟩
    ·cases h
   |x id=>cases h;exact⟨rfl,F⟩
   |r=>cases h;exact⟨rfl,F⟩
theorem vO:tE P T 0:=⟨fun r c e c' h=>by simp[gw]at h,fun b c e c' h=>by simp[gw]at h⟩
theorem vP{n:Nat}(hR:tE P T n)(F:fV P (eP T n)):tE P T (n+1):=by
 have J:∀(b:RC)(c:CSt)(e:Ex)(c':CSt),gw T (n+1) (.loop b) c=some (e,c')->∀(code:Code)(C:Ctx)(N:Nat)(a:Act)(w:World),ct P code=b.er->b.ok N=true->M C N c a w->Code.rounds P code (EQ C N e c') (n+1) a w:=by
  intro b c e c' h code C N a w E y hM;rw[gw]at h;simp only[dG]at h;rw[rounds_succ];cases hs:gw T n b c with
  |none=>rw[hs]at h;cases h
  |some p=>
   obtain⟨U,c1⟩:=p;rw[hs]at h;refine wp_mono (hR.1 _ _ _ _ hs code C N a w E y hM) ?_;rintro W Q w' ⟨rfl,z⟩;cases U with
   |n=>exact hR.2 _ _ _ _ h code C N Q w' E y z
   |x id=>cases h;exact⟨rfl,z⟩
   |r=>cases h;exact⟨rfl,z⟩
 refine⟨fun r c e c' h code C N a w E y hM=> ?_,J⟩
 by_cases I:∃b,r= .loop b
 ·obtain⟨b,rfl⟩:=I
  obtain⟨O,rfl,L⟩:=QG (by simpa[RC.er]using E);exact wp_loop_rounds (n+1) (J b c e c' h O C N a w L y hM)
 ·rw[gw]at h
  exact tK hR F h (fun b e=>I ⟨b,e⟩) E y hM
def xjc(P:Program):ResultVar->RV->Prop
 | .tmp t,.tmp t'=>t=t'
 | .cell t ty,.cell t' n ag=>t=t'/\fi P ty=some n/\p7 P ty=some ag
 |_,_=>False
def DC(P:Program):List ResultVar->List RV->Prop
 |[],[]=>True
 |a::r,b::s=>xjc P a b/\DC P r s
 |_,_=>False
theorem rQ(E:Sim N c s):∀{rs:List ResultVar}{Q:List RV}{vs:t7},DC P rs Q->qH c Q=some vs->∃p,vS P s rs=some (p,vs)/\p
 |[],[],vs,_,h=>by cases h;exact⟨True,rfl,trivial⟩
 |[],_::_,_,h,_=>h.elim
 |_::_,[],_,h,_=>h.elim
 | .tmp t::r,.tmp t'::q,vs,h,hv=>by obtain⟨F,O⟩:=h;have F:t=t':=F;subst F;simp only[qH]at hv;split at hv<;>cases hv;rename_i I y;obtain⟨p,L,J⟩:=rQ E O y;exact⟨p,by simp only[vS,L,E.get],J⟩
 | .cell t ty::r,.cell t' n ag::q,vs,h,hv=>by
  obtain⟨⟨rfl,g1,W⟩,O⟩:=h;simp only[qH]at hv;split at hv<;>cases hv;rename_i v I Z y;obtain⟨p,L,J⟩:=rQ E O y
  have z:(if(ag||n==1)=true then lW c n ag (c.get t)else none)=some v:=by
   rw[<-Z]
   congr 1
   simp
  split at z
  ·rename_i U
   obtain⟨p',h5,h6⟩:=uG E z;refine⟨p'/\p, ?_,h6,J⟩;simp only[vS,g1,W,L,E.get];rw[if_pos U,h5]
  ·cases z
 | .tmp _::_,.cell _ _ _::_,_,h,_=>h.1.elim
 | .cell _ _::_,.tmp _::_,_,h,_=>h.1.elim
def M2(us:LAa):Value:=if h:us.toArray.size=1 then us.toArray[0]else .tuple us.toArray
theorem M3{vs:t7}{us:LAa}(h:cy x vs us):Rep x (je vs) (M2 us):=by
 have y:=h.1;unfold M2
 match vs,us,y with
 |[v],[u],_=>simpa[je]using h.2 0 (by simp)
 |[],[],_=>simp only[je];exact .tup _ _ h.1 h.2
 |v1::v2::vs,u1::u2::us,_=>simp only[je];rw[dif_neg (by simp)];exact .tup _ _ h.1 h.2
theorem cW.sel{ob z:List (Nat×aC)}{tk E:t8}(y:cW C x ob tk w){x2:Sit}(W:x2.G=x.G)(I:∀p∈z,dx x2 w p.1 p.2/\∃q∈ob,x2.bk p.1=x.bk q.1)(a0:(z.map cI).Nodup)
 (O:∀p∈z,∀q∈z,(x2.bk p.1).1=(x2.bk q.1).1->p.1=q.1) (J:∀t∈E,(x2.τ t).2.1=(x2.τ t).2.2\/∃u∈tk,x2.τ t=x.τ u)
 (a2:∀t∈E,∀u∈E,t≠u->(x2.τ t).2.1=(x2.τ t).2.2\/(x2.τ u).2.1=(x2.τ u).2.2\/∃t'∈tk,∃Z∈tk,t'≠Z/\x2.τ t=x.τ t'/\x2.τ u=x.τ Z) (Q:∀i,i<100->x2.bk i=x.bk i):cW C x2 z E w:=by
 refine⟨fun b o v L=>y.per b o v (by rw[<-W];exact L),fun b o v L=>by rw[W];exact y.g0 b o v L,fun b o v L=>y.gm b o v (by rw[<-W];exact L),y.new, ?_,a0,O, ?_, ?_, ?_,y.os,y.tape,y.output,y.size,y.ext,
  fun i hi=>(Q i hi).trans (y.pin i hi),y.lay⟩
 ·intro p hp
  obtain⟨h1,q,hq,F⟩:=I p hp;obtain⟨_,h3,h4⟩:=y.obs q hq;exact⟨h1,by rw[F];exact h3,fun off=>by rw[W,F];exact h4 off⟩
 ·intro t U
  rcases J t U with h|⟨u,hu,h⟩
  ·exact .inl h
  ·have:=y.tks u hu
   unfold gH at this ⊢;rw[h,W];exact this
 ·intro t U p hp
  obtain⟨_,q,hq,F⟩:=I p hp;rcases J t U with h|⟨u,hu,h⟩
  ·exact .inr h
  ·rw[h,F];exact y.tko u hu q hq
 ·intro t U u hu a1
  rcases a2 t U u hu a1 with h|h|⟨t',ht',Z,hu',hne,h1,F⟩
  ·exact .inr (.inl h)
  ·exact .inr (.inr h)
  ·rw[h1,F];exact y.tkd t' ht' Z hu' hne
theorem eM{p:Nat×aC}:∀{l:List aC}{k:Nat},p∈fM k l↔∃i,i<l.length/\p.1=k+i/\p.2=l.getD i (.rc [])
 |[],k=>by simp[fM]
 |o::r,k=>by
  simp only[fM,am,eM];constructor
  ·rintro(rfl|⟨i,y,z,h⟩)
   ·exact⟨0,by simp,rfl,rfl⟩
   ·exact⟨i+1,by simpa using y,by omega,by simpa using h⟩
  ·rintro⟨i,y,z,h⟩
   cases i with
   |zero=>left;exact Prod.ext (by simpa using z) (by simpa using h)
   |succ i=>exact .inr ⟨i,by simpa using y,by omega,by simpa using h⟩
theorem ic:∀(l:List aC)(k:Nat),((fM k l).map cI).Nodup
 |[],_=>by simp[fM]
 |o::r,k=>by simp only[fM,aG,dV];refine⟨fun h=> ?_,ic r (k+1)⟩;obtain⟨p,y,e⟩:=aQ.1 h;obtain⟨i,_,z,_⟩:=eM.1 y;omega
theorem Co(n i:Nat)(h:i<n):(kK n).getD i 0=i:=by
 have z:∀n,(kK n).length=n:=by
  intro n;induction n with
  |zero=>rfl
  |succ n y=>simp[kK,y]
 induction n with
 |zero=>omega
 |succ n y=>
  simp only[kK,aa,List.getElem?_append,z]
  by_cases hi:i<n
  ·rw[if_pos hi,<-aa,y hi]
  ·rw[if_neg hi];have:i-n=0:=by omega
   rw[this];simp;omega
theorem Dg{keep raw:t8}{k:Nat}{vs:t7}{us:LAa}{q:eg}(hM:aM C x s a w)(hS:Sim N c s)(hk:k<=40)(hv:cy x vs us)(h:Qm keep k (eF c vs (iG raw 0 vs))=some q):
 ∃x',Rep x' q.r (M2 us)/\cW C x' q.os q.tk w/\(∀p∈q.os,p.2.wf=true)/\∀i,i<100->x'.bk i=C.β0 i:=by
 obtain⟨x1,s1,c4,a6,Z⟩:=i0 (l:=iG raw 0 vs) hM hS hv;generalize eF c vs (iG raw 0 vs)=z at h a6 Z;obtain⟨c1,b2⟩:=z;simp only at a6 Z;simp only[Qm]at h;have hE:=a6.exact c4;cases hb:(decide (k=0)&&(SV.idsL b2).isEmpty&&keep.isEmpty)with
 |true=>rw[hb]at h;simp only[M8,aq.injEq]at h;subst h;refine⟨x1, ?_,hE.heap.only (by simp) (by simp) (by simp),by simp,fun i hi=>hE.heap.pin i hi⟩;refine M3 ?_;rw[kh];refine⟨by simpa using Z.1,fun i hi=> ?_⟩;rw[aU _ (by rfl)];exact(Z.2 i (by simpa using hi)).bare rfl rfl
 |false=>
  rw[hb]at h;simp only[M8]at h;generalize hz:jM c1.tk keep 60 0 b2=z at h;obtain⟨a4,E⟩:=z;simp only[X8]at h;generalize dz c1 60 [] (kK k++SV.idsL a4)=m at h;cases ho:gq c1 m with
  |none=>rw[ho]at h;cases h
  |some a1=>
   rw[ho]at h;simp only[X7]at h;generalize a5:dQ c1.tk (60+E.length) a1=z2 at h;obtain⟨os,F⟩:=z2;simp only[X6]at h;cases hb2:(nW (SV.idsL a4++fB os) m&&dq m&&dq (cr (E++F))&&decide (m.take k=kK k)&&(m.drop k).all fun o=>decide (k<=o))with
   |false=>rw[hb2]at h;cases h
   |true=>
    rw[hb2]at h;simp only[X5,aq.injEq]at h;subst h;simp only[aB,decide_eq_true_eq,aT]at hb2;obtain⟨⟨⟨⟨b4,c7⟩,d3⟩,a0⟩,a9⟩:=hb2;obtain⟨e4,d7⟩:=pq ho;have a3:=tY b4;have c3:=jf c7;have b7:=jf d3
    have d8:∀n,(kK n).length=n:=by
     intro n;induction n with
     |zero=>rfl
     |succ n ih=>simp[kK,ih]
    have e2:k<=m.length:=by have:=congrArg List.length a0;rw[aA,d8]at this;omega
    have a7:∀i,i<k->m.getD i 0=i:=by
     intro i hi;have J:(m.take k).getD i 0=m.getD i 0:=by simp only[aa,bE,if_pos hi]
     rw[<-J,a0,Co k i hi]
    have b3:∀i,k<=i->i<m.length->k<=m.getD i 0:=by
     intro i J O;refine a9 _ ?_
     have:m.getD i 0=(m.drop k).getD (i-k) 0:=by simp only[aa,bx];congr 2;omega
     rw[this];exact fH (by rw[aL];omega)
    let τ2:Nat->Nat×Nat×Nat:=fun t=>if 60<=t/\t<60+(E++F).length then Nl x1 ((E++F).getD (t-60) none)else(0,0,0)
    let x2:Sit:=⟨x1.G,x1.bk,τ2⟩
    let x3:Sit:=⟨x1.G,fun i=>if i<100 then x1.bk i else x1.bk (m.getD (i-100) 0),τ2⟩
    have hτ:∀y:Sit,y.τ=τ2->nO x1 y 60 (E++F):=by
     intro y hy j hj;rw[hy];show(if _ then _ else _)=_;rw[if_pos ⟨by omega,by omega⟩]
     congr 2;omega
    have I:∀i,i<m.length->(m.getD i 0,a1.getD i (.rc []))∈c1.ob:=fun i hi=>gZ (d7 i hi)
    have hβ:∀o∈m,x3.bk (gN k m o)=x1.bk o:=by
     intro o ho;unfold gN;split
     ·rename_i e3
      show(if _ then _ else _)=_;rw[if_pos (by omega)]
     ·show(if _ then _ else _)=_
      rw[if_neg (by omega)];have e:100+gz m o-100=gz m o:=by omega
      rw[e,(mh ho).2]
    have b8:=hτ x2 rfl
    have c6:cy x2 a4 us:=by have:=lN (x:=x1) (x1:=x2) rfl rfl (tk:=c1.tk) (own:=keep) (j:=60) (i:=0) Z (by rw[hz];exact b8.left);rwa[hz]at this
    have d5:Rep x3 ((je a4).ren (gN k m) id) (M2 us):=by
     refine Rep.renF (x:=x2) (x2:=x3) (fun _ _ _ h=>h) (M3 c6) (fun j hj=>hβ j (a3 j (ak.2 (.inl ?_)))) (fun t _=>rfl)
     have d6:∀l:t7,∀j∈(je l).ids,j∈SV.idsL l:=by
      intro l j hj
      match l with
      |[]=>exact hj
      |[v]=>simpa[je,SV.idsL]using hj
      |v::u::r=>exact hj
     exact d6 a4 j hj
    obtain⟨a8,a2⟩:=ld (x:=x1) (x1:=x2) (w:=w) rfl rfl (tk:=c1.tk) (obs:=a1) (j:=60+E.length) (f:=fun i=>m.getD i 0)
     (fun i hi=>(hE.heap.obs _ (I i (by omega))).1) (by rw[a5];exact b8.right)
    rw[a5]at a8 a2;simp only at a8 a2
    have d9:∀o∈os,o.wf=true:=by
     intro o d4
     have:=mu (tk:=c1.tk) (obs:=a1) (j:=60+E.length) (fun o h'=>by obtain⟨i,hi,rfl⟩:=bM h';have:=a6.inv.wf _ (I i (by omega));simpa[aa,ab hi]using this) o (by rw[a5];exact d4)
     exact this
    have L:∀p∈fM 0 (dX (gN k m) id (os.take k))++fM (100+k) (dX (gN k m) id (os.drop k)),∃i,i<m.length/\p.1=gN k m (m.getD i 0)/\p.2=(os.getD i (.rc [])).ren (gN k m) id/\os.getD i (.rc [])∈os:=by
     intro p Q
     have gd:∀{l:List aC}{i:Nat},i<l.length->(dX (gN k m) id l).getD i (.rc [])=(l.getD i (.rc [])).ren (gN k m) id:=by intro l i hi;rw[fW,aa,aa,aR,ab hi];rfl
     have gm:∀{i:Nat},i<os.length->os.getD i (.rc [])∈os:=fun{i} hi=>by rw[aa,ab hi];exact bn _
     rcases ak.1 Q with Q|Q
     ·obtain⟨i,J,O,h3⟩:=eM.1 Q
      rw[fW,aS,aA]at J;have e:(os.take k).getD i (.rc [])=os.getD i (.rc []):=by simp only[aa,bE,if_pos (show i<k by omega)]
      refine⟨i,by omega, ?_, ?_,gm (by omega)⟩
      ·rw[O,a7 i (by omega)];unfold gN;rw[if_pos (by omega)];omega
      ·rw[h3,gd (by rw[aA];omega),e]
     ·obtain⟨i,J,O,h3⟩:=eM.1 Q
      rw[fW,aS,aL]at J;have hi:k+i<m.length:=by omega
      have e:(os.drop k).getD i (.rc [])=os.getD (k+i) (.rc []):=by simp only[aa,bx]
      refine⟨k+i,hi, ?_, ?_,gm (by omega)⟩
      ·have h5:=b3 (k+i) (by omega) hi
       have h6:=mh (fH hi);have h7:gz m (m.getD (k+i) 0)=k+i:=li c3 h6.1 hi h6.2;unfold gN;rw[if_neg (by omega),h7,O];omega
      ·rw[h3,gd (by rw[aL];omega),e]
    have e0:∀t∈cr (E++F),t∈c1.tk:=by
     intro t U;rw[fy,ak]at U;rcases U with U|U
     ·exact nU (tk:=c1.tk) (own:=keep) (cs:=b2) (j:=60) (i:=0) t (by rw[hz];exact U)
     ·exact mw (tk:=c1.tk) (obs:=a1) (j:=60+E.length) t (by rw[a5];exact U)
    have W:∀t∈tks 60 (E.length+F.length),(x3.τ t).2.1=(x3.τ t).2.2\/∃u,(E++F).getD (t-60) none=some u/\u∈c1.tk/\x3.τ t=x1.τ u:=by
     intro t U;obtain⟨J,O⟩:=js.1 U;have e:=hτ x3 rfl (t-60) (by rw[af];omega);rw[show 60+(t-60)=t by omega]at e;cases hu:(E++F).getD (t-60) none with
     |none=>rw[hu]at e;rw[e];exact .inl rfl
     |some u=>rw[hu]at e;exact .inr ⟨u,rfl,e0 u (iq hu),e⟩
    refine⟨x3,d5,hE.heap.sel (x2:=x3) rfl ?_ ?_ ?_ ?_ ?_ ?_, ?_, ?_⟩
    ·intro p Q
     obtain⟨i,J,O,h3,h4⟩:=L p Q;have b5:=fH J;refine⟨?_,_,I i J,by rw[O];exact hβ _ b5⟩;rw[O,h3];exact(a2 i (by omega)).renF (x2:=x3) (fun _ _ _ h=>h) (hβ _ b5) (fun j hj=>hβ j (a3 j (ak.2 (.inr (oC h4 j hj))))) (fun t _=>rfl)
    ·rw[df,List.nodup_append]
     refine⟨ic _ _,ic _ _,fun u hu v hv e=> ?_⟩;obtain⟨p,Q,rfl⟩:=aQ.1 hu;obtain⟨r,hr,rfl⟩:=aQ.1 hv;obtain⟨i,J,O,_⟩:=eM.1 Q;obtain⟨j,h3,h4,_⟩:=eM.1 hr;rw[fW,aS,aA]at J;omega
    ·intro p Q r hr b6
     obtain⟨i,J,O,_⟩:=L p Q;obtain⟨j,h3,h4,_⟩:=L r hr;rw[O,h4,hβ _ (fH J),hβ _ (fH h3)]at b6;have:=hE.heap.inj _ (I i J) _ (I j h3) b6;simp only at this;rw[O,h4,this]
    ·intro t U
     rcases W t U with g|⟨u,_,g1,g2⟩
     ·exact .inl g
     ·exact .inr ⟨u,g1,g2⟩
    ·intro t U u hu e1
     rcases W t U with g|⟨t',g0,g1,g2⟩
     ·exact .inl g
     ·rcases W u hu with g|⟨u',k0,k1,k2⟩
      ·exact .inr (.inl g)
      ·refine .inr (.inr ⟨t',g1,u',k1,mP b7 ?_ g0 k0,g2,k2⟩)
       have:=js.1 U;have:=js.1 hu;omega
    ·intro i hi
     show(if _ then _ else _)=_;rw[if_pos hi]
    ·intro p Q
     obtain⟨i,J,O,h3,h4⟩:=L p Q;rw[h3];exact xf (d9 _ h4)
    ·intro i hi
     show(if _ then _ else _)=_;rw[if_pos hi];exact hE.heap.pin i hi
structure bS(P:Program)(g:Nat)(F:FnC):Prop where
 fn:∃fn,P.funcs[g]? =some fn/\fn.body.map (ct P)=some F.code.er/\fn.ntmps=F.n/\DC P fn.results.toList F.rs
 cb:eu P g=true
 ok:F.code.ok F.n=true
def wM(P:Program)(T:kE):Prop:=∀g b,T.fn g=some b->match b with
 | .code F=>bS P g F
 | .prim f=>∀a_ os k q,f a_ os k=some q->ma P g a_ os k (· =q)
theorem Cg(os:List aC):∀o,(idx os).lookup o=ip (fM 0 os) o:=by
 intro o;have F:((idx os).map cI).Nodup:=mA os;have J:=ic os 0
 have E:∀p,p∈idx os↔p∈fM 0 os:=by
  intro p;rw[iy,eM];constructor
  ·rintro⟨y,z⟩;exact⟨p.1,y,by omega,z⟩
  ·rintro⟨i,y,z,I⟩
   have e:p.1=i:=by omega
   rw[e];exact⟨y,I⟩
 rw[gj];refine r8 (fun v h=> ?_) (fun v h=> ?_)
 ·exact iT (p:=(o,v)) J ((E _).1 (gZ h))
 ·exact iT (p:=(o,v)) F ((E _).2 (gZ h))
theorem qS(n:Nat):∀(l:t7)(i:Nat),ei (nt i l) n=if i<=n then l.getD (n-i) .undef else .undef
 |[],i=>by simp[nt,ei]
 |v::r,i=>by
  simp only[nt,ei,qS n r (i+1)]
  by_cases h:i=n
  ·subst h;simp
  ·rw[if_neg h]
   by_cases y:i<=n
   ·rw[if_pos y,if_pos (by omega)]
    obtain⟨k,z⟩:∃k,n-i=k+1:=⟨n-i-1,by omega⟩;rw[z,bQ];congr 1;omega
   ·rw[if_neg y,if_neg (by omega)]
theorem qN{p:Nat×SV}:∀{l:t7}{i:Nat},p∈nt i l->p.1<i+l.length
 |v::r,i,h=>by
  simp only[nt]at h;rcases am.1 h with e|e
  ·rw[e];simp
  ·have:=qN e;simp only[ay];omega
theorem tZ:∀(l:List aC)(k:Nat),((fM k l).map cI).Pairwise (· < ·)
 |[],_=>by simp[fM]
 |o::r,k=>by simp only[fM,aG,bJ];refine⟨fun n hn=> ?_,tZ r (k+1)⟩;obtain⟨p,h,rfl⟩:=aQ.1 hn;obtain⟨i,_,y,_⟩:=eM.1 h;omega
theorem m0{n:Nat}(hR:tE P T n)(hT:wM P T):fV P (eP T n):=by
 intro g a_ os k q y;unfold eP at y;cases hg:T.fn g with
 |none=>rw[hg]at y;cases y
 |some b=>
  have hb:=hT g b hg;cases b with
  |prim f=>rw[hg]at y;exact hb a_ os k q y
  |code F=>
   rw[hg]at y;simp only[nC,D4]at y;obtain⟨⟨fn,a6,z,a8,a7⟩,a1,a2⟩:=hb;refine⟨a1, ?_⟩;split at y
   case isFalse=>cases y
   rename_i a9;intro C x w vs b2 b3 a5 L a3 hH E;cases hbd:fn.body with
   |none=>simp[hbd]at z
   |some code=>
    simp only[hbd,cP]at z;refine calls_of_wp a6 hbd ?_;have hl:=E.1
    let s0:St:=⟨a_++ao (F.n-a_.length) .undef,idx os,tks 50 k⟩
    have a4:aM C x s0 {tmps:=(⟨vs⟩:LAb)++dO (fn.ntmps-(⟨vs⟩:LAb).size) undef,defers:=[]} w:=by
     refine⟨?_,rfl,hH⟩
     have e1:((⟨vs⟩:LAb)++dO (fn.ntmps-(⟨vs⟩:LAb).size) undef).toList=vs++ao (F.n-a_.length) undef:=by simp[a8,hl]
     rw[e1];refine E.append ⟨by simp,fun i hi=> ?_⟩;rw[fu _ _ _ _ (by simpa using hi)];exact .undef _
    have a0:Sim F.n (qu a_ os k) s0:=by
     refine⟨⟨fun p hp=> ?_,tZ os 0,fun p hp=> ?_⟩, ?_,fun o=>Cg os o,fun t=>Iff.rfl⟩
     ·have:=qN hp;omega
     ·obtain⟨i,Z,_,h3⟩:=eM.1 hp
      rw[h3,aa,ab Z];exact a3 _ (bn _)
     ·apply List.ext_getElem?
      intro i;show(a_++ao (F.n-a_.length) SV.undef)[i]? =_;rw[aR];rcases bL i F.n with hi|hi
      ·rw[cL hi]
       have e:(qu a_ os k).get i=a_.getD i .undef:=by show ei (nt 0 a_) i=_;rw[qS];simp
       simp only[bo,e,List.getElem?_append,List.getElem?_replicate]
       by_cases h:i<a_.length
       ·rw[if_pos h,aa,ab h];rfl
       ·rw[if_neg h,if_pos (by omega),aa,jY (by omega)];rfl
      ·rw[jY (by simp;omega),jY (by simpa using hi)];rfl
    cases hs:gw T n F.code (qu a_ os k)with
    |none=>rw[hs]at y;cases y
    |some p=>
     obtain⟨e,c1⟩:=p;rw[hs]at y;refine wp_mono (hR.1 _ _ _ _ hs code C F.n _ w (by simpa using z) a2 ⟨x,s0,a4,a0⟩) ?_;rintro e' a' w' ⟨rfl,x1,s1,J,O⟩
     have I:M9 F.keep F.raw os.length c1 (qH c1 F.rs)=some q->a'.defers=[]/\∃v,(results fn a'.tmps).run P w'= .ok v w'/\∃v',∃x':Sit,∃U,Ending.returned v= .returned v'/\U=q/\Rep x' U.r v'/\cW C x' U.os U.tk w'/\(∀p∈U.os,p.2.wf=true)/\∀i,i<os.length->x'.bk i=x.bk i:=by
      intro W;cases hrc:qH c1 F.rs with
      |none=>rw[hrc]at W;cases W
      |some rv=>
       rw[hrc]at W;obtain⟨p,Z,h2⟩:=rQ (P:=P) O a7 hrc;obtain⟨us,Q,hl⟩:=pR J Z h2;obtain⟨x',g1,g2,g3,g4⟩:=Dg J O L hl W;refine⟨J.defers,M2 us, ?_,M2 us,x',q,rfl,rfl,g1,g2,g3,fun i hi=> ?_⟩
       ·rw[vR,Array.mapM_eq_mapM_toList]
        simp only[az,Sem.run_map,Q,aj,aF];rfl
       ·rw[g4 i (by omega)];exact(hH.pin i (by omega)).symm
     cases e with
     |n=>exact I y
     |r=>exact I y
     |x id=>cases y
theorem Nn(hT:wM P T):∀n,tE P T n
 |0=>vO
 |n+1=>vP (Nn hT n) (m0 (Nn hT n) hT)
theorem wF(hT:wM P T):fV P (call T):=by intro g a_ os k q h;obtain⟨n,hn⟩:=oB h;exact m0 (Nn hT n) hT g a_ os k q hn
theorem P7(hT:wM P T){g:Nat}{a_:t7}{r:SV}(h:call T g a_ [] 0=some ⟨r,[],[]⟩)(Q:r.toks=[]):Fn P g a_ r:=by obtain⟨z,U⟩:=wF hT _ _ _ _ _ h;refine⟨z,fun C x w vs O Z J hl L W=> ?_⟩;refine(U C x w vs O Z (fun b E=>(J b E).imp id (fun⟨i,hi,_⟩=>by simp at hi)) (by simp) (by simp) L W).mono ?_;rintro en w' ⟨v,x',q,rfl,rfl,I,y,_,F⟩;exact⟨v,x',r,[],rfl,⟨rfl,rfl⟩,I,by rw[Q];exact y,F⟩
def Ru(P:Program):ResultVar->RV->Bool
 | .tmp t,.tmp t'=>decide (t=t')
 | .cell t ty,.cell t' n ag=>decide (t=t')&&decide (fi P ty=some n)&&decide (p7 P ty=some ag)
 |_,_=>false
def pO(P:Program):List ResultVar->List RV->Bool
 |[],[]=>true
 |a::r,b::s=>Ru P a b&&pO P r s
 |_,_=>false
theorem ug:∀{rs:List ResultVar}{z:List RV},pO P rs z=true->DC P rs z
 |[],[],_=>trivial
 |[],_::_,h=>by cases h
 |_::_,[],h=>by cases h
 |a::r,b::s,h=>by
  simp only[pO,aB]at h;refine⟨?_,ug h.2⟩;have y:=h.1;cases a<;>cases b<;>simp only[Ru,aB,decide_eq_true_eq]at y<;>first|(cases y;done)|skip
  ·exact y
  ·exact⟨y.1.1,y.1.2,y.2⟩
theorem P8{g:Nat}{F:FnC}{fn:Func}(h:P.funcs[g]? =some fn)(E:fn.body.map (ct P)=some F.code.er)(y:fn.ntmps=F.n)(J:pO P fn.results.toList F.rs=true)(z:eu P g=true)(I:F.code.ok F.n=true):bS P g F:=
 ⟨⟨fn,h,E,y,ug J⟩,z,I⟩
end Go.Sy
namespace Go.Sy
variable [ba]
open Go.RowKit Go.ChangeShapes Go.WideShapes
def GW(w:World):GM:=fun b o=>w.cell? ⟨b,o,none⟩
def qD(w:World):Sit:=⟨GW w,fun _=>(0,0),fun _=>(0,0,0)⟩
theorem xfI(w:World)(hL:Lay (GW w)):cW ⟨w,GW w,fun b=>w.heap.size<=b,fun _=>(0,0)⟩ (qD w) [] [] w where
 per:=fun _ _ _ h=>h
 g0:=fun _ _ _ h=>h
 gm:=fun _ _ _ h=> .inl h
 new:=fun _ h=>h
 obs:=by simp
 nd:=List.nodup_nil
 inj:=by simp
 tks:=by simp
 tko:=by simp
 tkd:=by simp
 os:=rfl
 tape:=rfl
 output:=rfl
 size:=aN _
 ext:=fun _ _=>rfl
 pin:=fun _ _=>rfl
 lay:=hL
theorem rH{x:Sit}{b:Bool}{v:Value}(h:Rep x (.bool b) v):v= .bool b:=by
 cases h with
 |dat _ _ h _=>cases h;rfl
theorem CX{P:Program}{f:Nat}{a_:t7}(h:Fn P f a_ (.bool true)){W:World}{vs:LAa}(J:cy (qD W) a_ vs)(hL:Lay (GW W)):
 Calls P f ⟨vs⟩ W fun e z=>e= .returned (.bool true)/\Below W.heap.size W z:=by
 refine(h.2 ⟨W,GW W,fun b=>W.heap.size<=b,fun _=>(0,0)⟩ (qD W) W vs rfl rfl (fun b E=> .inl E) (by simp) (xfI W hL) J).mono ?_;rintro e z ⟨v,x',r,I,rfl,⟨rfl,rfl⟩,F,y,_⟩;obtain rfl:=rH F;exact⟨rfl,y.os,y.tape,y.output,y.size,fun k L=>y.ext k (by simp;omega)⟩
section
variable {H : Type} {enc : TypeId × Value -> H} {P : Program} {w : World} {base : Nat} {sp : Nat -> Bool} {hd : Bool} {r : Reach} {b0 : Nat} {t e : TypeId} {v : Value} {d : DataW H} {ps : List MemPlace}
theorem Cb{k:IntKind}(E:P.underlying t=some (.int k))(y:Value.okWide P w r b0 t v)(h:DataW.Trod enc P w base sp hd t v d ps):∃n,k.has n/\Rep (qD w) (.int k n) v:=by obtain⟨n,rfl,_,_,z⟩:=open_int E y h;simp only[Lit.wf,aB,decide_eq_true_eq]at z;exact⟨n,z,.dat _ _ (.int k n) trivial⟩
theorem Rd(E:P.underlying t=some .string)(y:Value.okWide P w r b0 t v)(h:DataW.Trod enc P w base sp hd t v d ps):∃l:t6,l.length<=maxLen/\Rep (qD w) (.str l) v:=by obtain⟨s,rfl⟩:=okWide_string E y;obtain⟨F,J⟩:=h;obtain⟨L,z,_,I⟩:=DataW.trod_string E J;simp[Value.cells]at z;subst z;obtain⟨⟨l⟩⟩:=s;exact⟨l,I,.dat _ _ (.str l) trivial⟩
theorem vx{a:Addr}{len cap:Nat}(y:P.underlying t=some (.slice e))(h:Value.okWide P w r b0 t (.slice (some a) len cap)):a.spot=none:=by simp only[Value.okWide,y,Cell.okWide,Cell.ok]at h;exact h.2.2.2.1
theorem Gj{n:Int}(h:(Lit.int .u8 n).wf=true):((ed n.toNat).toNat:Int)=n:=by
 simp only[Lit.wf,IntKind.min,IntKind.max,IntKind.signed,IntKind.bits,aB,decide_eq_true_eq]at h;rw[UInt8.toNat_ofNat'];have:n.toNat<256:=by simp at h;omega
 rw[dm this];simp at h;omega
theorem Dt(F:P.underlying t=some (.slice e))(Z:P.underlying e=some (.int .u8))(Q:P.cellsOf e=1)(z:Value.okWide P w r b0 t v)(h:DataW.Trod enc P w base sp hd t v d ps):
 ∃l:t6,l.length<=maxLen/\Rep (qD w) (.byt l .no) v:=by
 obtain⟨a0,len,cap,rfl⟩:=okWide_slice F z;obtain⟨J,W⟩:=h;rcases open_ints F Z Q W with⟨y,_⟩|⟨a,len',cap',zs,y,_,hl,hm,hz,_,hcell,hwf⟩
 ·simp[Value.cells]at y
  obtain⟨rfl,rfl,rfl⟩:=y;exact⟨[],by simp,.dat _ _ (.bytN .no) trivial⟩
 ·simp[Value.cells]at y
  obtain⟨rfl,rfl,rfl⟩:=y;have O:=vx F z;obtain⟨b,off,L⟩:=a;simp only at O;subst O;have hzl:len<=zs.length:=by rw[hz];split<;>omega
  refine⟨(zs.take len).map fun n=>ed n.toNat,by simp;omega,.dat _ _ (.byt _ .no b off cap len (by simp;omega) hl (fun i hi=> ?_)) trivial⟩;have I:=hcell i (by omega);have E:i<zs.length:=by omega
  rw[add_plain]at I
  have U:((zs.take len).map fun n=>ed n.toNat).getD i 0=ed (zs.getD i 0).toNat:=by simp[aa,E,hi]
  show w.cell? _=_;rw[I,U]
  congr 2
  refine(Gj (hwf _ ?_)).symm;rw[aa,ab E];exact bn E
end
theorem ET{x:Sit}:cy x [] []:=⟨rfl,by simp⟩
section
variable {H : Type} {enc : TypeId × Value -> H} {P : Program}
theorem E1{f:Func}{s:ChangeSpec}{h fresh E O:Bool}{W Q:World}{args:LAb}{v:Value}{U gs:List (DataW H)}{before pa pv:List MemPlace}
 (hW:DataW.Whole enc P f.params.toList s.vars h W args.toList U gs before)
 (J:∀(b:Nat)(sp:Nat->Bool)(hd:Bool),DataW.TrodAll enc P Q b sp hd f.resultTypes.toList (v.resultList f.resultTypes.size) (s.fn H (U++gs)).results [])
 (z:∀sp:Nat->Bool,(∀p∈before,sp p.block=true)->DataW.TrodAll enc P Q 0 sp true f.params.toList args.toList (s.fn H (U++gs)).args pa)
 (y:∀sp:Nat->Bool,(∀p∈before,sp p.block=true)->DataW.TrodVars enc P Q sp s.vars (s.fn H (U++gs)).vars pv)
 (I:before=pa++pv) (hb:Below W.heap.size W Q)
 (a1:∀(j:Nat)(t:TypeId)(r:Value),f.resultTypes[j]? =some t->(v.resultList f.resultTypes.size)[j]? =some r->Value.okWide P Q .any 0 t r):
 s.post enc P f h fresh E O W args v Q:=by
 have Z:=hW.lt;have L:∀p∈before,(fun b=>decide (b<W.heap.size)) p.block=true:=fun p F=>by simpa using Z p F
 refine⟨U,gs,before,[],pa,pv,hW,J _ _ _,z _ L,y _ L,World.keptBut_mono (fun p F=>⟨F, ?_⟩) (hb.frame (· ∈before)),fun _=> ?_⟩
 ·rw[I,ak]at F
  exact Or.inr F
 ·obtain⟨_,_,_,_,_,hz,hn⟩:=hW
  refine⟨a1,_,_,([]++pa)++pv,⟨[]++pa,pv,trodAll_append (z _ (fun _ _=>rfl)) (J _ _ _),y _ (fun _ _=>rfl),rfl, ?_, ?_⟩, ?_⟩
  ·intro b off F
   have a0:MemPlace.cell b off∈before:=by rw[I];simpa using F
   rw[hb.frozen (p:=⟨b,off,none⟩) (Z _ a0)];exact hz b off a0
  ·intro ha
   have:=hn ha;rw[I]at this;simpa using this
  ·intro p F _
   rw[I];simpa using F
theorem kL(F:laidOutB P=true){W J:World}(E:Below W.heap.size W J):∀{z:List TypeId}{vs:LAa}{I:List (DataW H)}{p:List MemPlace},(z.all fun t=>P.readableRec t&&decide (t<P.types.size))=true->
 DataW.TrodAll enc P W 0 (fun _=>true) true z vs I p->(∀x∈p,x.block<W.heap.size)->∀sp:Nat->Bool,(∀x∈p,sp x.block=true)->DataW.TrodAll enc P J 0 sp true z vs I p
 |[],_,_,_,_,h,_,_,_=>by obtain⟨rfl,rfl,rfl⟩:=trodAll_nil h;exact trodAll_mk0
 |t::z,_,_,_,hr,h,hlt,sp,hsp=>by obtain⟨v,O,d,Q,a,b,rfl,rfl,rfl,L,U⟩:=trodAll_cons h;simp only[iv,aB,decide_eq_true_eq]at hr;refine trodAll_cons_mk ?_ (kL F E (by simpa using hr.2) U (fun x y=>hlt x (List.mem_append_right _ y)) sp (fun x y=>hsp x (List.mem_append_right _ y)));exact WideElems.Trod_stays F hr.1.1 hr.1.2 L (fun x y=>E.same (hlt x (List.mem_append_left _ y))) (fun x y=>hsp x (List.mem_append_left _ y))
theorem Fu{f:Func}{s:ChangeSpec}{W W':World}{args:LAb}{I gs:List (DataW H)}{before:List MemPlace}{tb:TypeId}(hl:laidOutB P=true)
 (hr:(f.params.toList.all fun t=>P.readableRec t&&decide (t<P.types.size))=true) (J:f.resultTypes= #[tb]) (z:P.underlying tb=some .bool) (h:s.vars=[])
 (Q:(s.fn H (I++gs)).results=[.lit (.bool true)]) (U:(s.fn H (I++gs)).args=I) (Z:(s.fn H (I++gs)).vars=[])
 (L:DataW.Whole enc P f.params.toList s.vars false W args.toList I gs before) (hb:Below W.heap.size W W'):
 s.post enc P f false true false false W args (.bool true) W':=by
 have y:=L.lt;have F:=L;obtain⟨p,q,hA,hV,rfl,O,a0⟩:=L;rw[h]at hV;obtain⟨rfl,rfl⟩:=trodVars_none hV;simp only[bf]at y F O;refine E1 (pa:=p) (pv:=[]) (before:=p) (gs:=[]) F (fun b sp hd=> ?_) (fun sp E=> ?_) (fun sp E=> ?_) (by simp) hb (ok_one J rfl (okWide_bool_mk z _))
 ·rw[Q,J]
  exact trodAll_cons_mk (shut_bool z _) trodAll_mk0
 ·rw[U]
  exact kL hl hb hr hA y sp E
 ·rw[h,Z]
  rfl
end
end Go.Sy
namespace Go.Sy
variable [ba]
open Go.RowKit Go.ChangeShapes Go.WideShapes
variable {P : Program} {C : Ctx} {x : Sit} {w w' : World}
theorem eQ.below{b:Nat}{c:LAb}{e:TypeId}{fl fh:Nat}(h:eQ w b c e fl fh)(y:Below w.heap.size w w'):eQ w' b c e fl fh:=h.of_heap (y.block b h.lt)
theorem cW.below{ob:List (Nat×aC)}{tk:t8}(h:cW C x ob tk w)(y:Below w.heap.size w w'):cW C x ob tk w' where
 per:=fun b o v F=>by rw[db (y.block b (h.ltG F))];exact h.per b o v F
 g0:=h.g0
 gm:=h.gm
 new:=h.new
 obs:=fun p J=>by obtain⟨⟨c,e,fl,fh,E,r⟩,q⟩:=h.obs p J;exact⟨⟨c,e,fl,fh,E.below y,r⟩,q⟩
 nd:=h.nd
 inj:=h.inj
 tks:=fun t I=>(h.tks t I).imp id fun⟨⟨c,e,fl,fh,E,r⟩,q⟩=>⟨⟨c,e,fl,fh,E.below y,r⟩,q⟩
 tko:=h.tko
 tkd:=h.tkd
 os:=y.os.trans h.os
 tape:=y.tape.trans h.tape
 output:=y.output.trans h.output
 size:=pK h.size y.size
 ext:=fun b hn=>by
  rcases bL b w.heap.size with z|z
  ·rw[y.block b z];exact h.ext b hn
  ·exact absurd (h.new b (pK h.size z)) hn
 pin:=h.pin
 lay:=h.lay
def iD(w:World)(l:t6)(v:Value):Prop:=
 (l=[]/\∃a,v= .slice a 0 0)\/∃b off n cap,v= .slice (some ⟨b,off,none⟩) n cap/\n=l.length/\∀i,i<n->w.cell? ⟨b,off+i,none⟩=some (.int .u8 (l.getD i 0).toNat)
theorem ln{l:t6}{t:Tok}{v:Value}(h:Rep x (.byt l t) v)(y:∀b o v,x.G b o=some v->w.cell? ⟨b,o,none⟩=some v):iD w l v:=by
 cases h with
 |dat _ _ h _=>
  cases h with
  |bytN=>exact .inl ⟨rfl,_,rfl⟩
  |bytE=>exact .inl ⟨rfl,_,rfl⟩
  |byt _ _ b off cap n hn z h=>exact .inr ⟨b,off,n,cap,rfl,hn,fun i hi=>y _ _ _ (h i hi)⟩
theorem xd{l:t6}{v:Value}(h:Rep x (.str l) v):v= .string ⟨⟨l⟩⟩:=by
 cases h with
 |dat _ _ h _=>cases h;rfl
theorem xdL{b:UInt8}{v:Value}(h:Rep x (.u8 b) v):v= .int .u8 b.toNat:=by
 cases h with
 |dat _ _ h _=>cases h;rfl
theorem ja{g:Nat}{a_:t7}{r:SV}(y:eu P g=true)
 (h:∀(x:Sit)(w:World)(vs:LAa),cy x a_ vs->(∀b o v,x.G b o=some v->w.cell? ⟨b,o,none⟩=some v)->
  Calls P g ⟨vs⟩ w fun e w'=>∃v,e= .returned v/\Rep x r v/\Below w.heap.size w w'):ma P g a_ [] 0 (· =⟨r,[],[]⟩):=by
 refine⟨y,fun C x w vs U W Q O I z F=>(h x w vs F z.per).mono ?_⟩;rintro e w' ⟨v,rfl,L,E⟩;exact⟨v,x,_,rfl,rfl,L,z.below E,fun p J=>by simp at J,fun i hi=>rfl⟩
theorem jR{l:t6}{v:Value}(h:iD w l v):(Extern.Bytes.bytesOf v).run P w= .ok ⟨⟨l⟩⟩ w:=by
 rcases h with⟨rfl,a,rfl⟩|⟨b,off,n,cap,rfl,hn,hc⟩
 ·cases a<;>rfl
 ·have F:=Lib.run_loadBytesX (P:=P) w (l.map fun c=>(c.toNat:Int)) ⟨b,off,none⟩ .empty (fun j z E=>by
   have y:j<l.length:=by have:=(List.getElem?_eq_some_iff.1 E).1;simpa using this
   have e:(⟨b,off,none⟩:Addr).add j=⟨b,off+j,none⟩:=by unfold Addr.add;split<;>simp_all
   rw[e,hc j (by omega)];simp only[aR,ab y,bo,aq.injEq]at E;rw[aa,ab y,bj,<-E])
  have I:(⟨ByteArray.empty.data++(Lib.bytesOf (l.map fun c=>(c.toNat:Int))).toArray⟩:ByteArray)=⟨⟨l⟩⟩:=by
   apply ByteArray.ext;show(#[]:Array UInt8)++(Lib.bytesOf _).toArray=⟨l⟩
   have:Lib.bytesOf (l.map fun c=>(c.toNat:Int))=l:=by unfold Lib.bytesOf;rw[List.map_map];refine(List.map_congr_left (g:=id) fun c _=> ?_).trans (List.map_id _);simp
   rw[this];simp
  rw[aS,I]at F;rw[hn];exact F
theorem pQ{a b:t6}{u v:Value}(h:iD w a u)(y:iD w b v):(Extern.BytealgCompare.compare #[u,v]).run P w= .ok (.int .i64 (Lib.compareBytes a b)) w:=by change Sem.run P (do pure (goInt (Extern.BytealgCompare.cmp (<-Extern.Bytes.bytesOf u) (<-Extern.Bytes.bytesOf v)))) w=_;simp only[az,jR h,jR y,Result.andThen,aF,Lib.cmp_eq];rfl
def sk(l:t6)(c:UInt8):Int:=firstIdx ⟨⟨l⟩⟩ c
theorem tN{l:t6}{u:Value}{c:UInt8}(y:iD w l u):(Extern.BytealgIndexByte.indexByte #[u,.int .u8 c.toNat]).run P w= .ok (.int .i64 (sk l c)) w:=by
 have h:=run_indexByte_string (P:=P) ⟨⟨l⟩⟩ c.toNat w
 change Sem.run P (do
  let b<-Extern.Bytes.bytesOf u
  let c'<-Extern.Bytes.asByte (.int .u8 c.toNat)
  match (bU b.size).find? fun i=>b[i]! ==c' with
  |some i=>pure (goInt i)
  |none=>pure (goInt (-1))) w=_
 change Sem.run P (do
  let b<-Extern.Bytes.bytesOf (.string ⟨⟨l⟩⟩)
  let c'<-Extern.Bytes.asByte (.int .u8 c.toNat)
  match (bU b.size).find? fun i=>b[i]! ==c' with
  |some i=>pure (goInt i)
  |none=>pure (goInt (-1))) w=_ at h
 have e:(((c.toNat:Nat):Int).toNat.toUInt8)=c:=by simp
 rw[e]at h;simp only[az,jR y,Result.andThen]at h ⊢;exact h
end Go.Sy
namespace Go.Sy
variable [ba]
variable {T T' : kE}
end Go.Sy
namespace Go.Sy
variable [ba]
variable {P : Program} {C : Ctx} {x : Sit} {w w' : World} {ob : List (Nat × aC)} {tk : List Nat}
open Go.RowKit Go.ChangeShapes Go.WideShapes
end Go.Sy
namespace Go.Sy
variable [ba]
open Go.RowKit Go.ChangeShapes Go.WideShapes
variable {P : Program} {C : Ctx} {x : Sit} {w w' : World} {T T' : kE}
end Go.Sy
namespace Go
open Go.Maps (Keyed)
end Go
namespace Go.Sy
variable [ba]
variable {P : Program} {C : Ctx} {x : Sit} {w w' : World} {ob : List (Nat × aC)} {tk : List Nat}
open Go.RowKit Go.ChangeShapes Go.WideShapes
theorem eI{z:Nat}:∀{rows:f8},(∀y∈rows,y.length=z)->rows.flatten.length=rows.length*z
 |[],_=>by simp
 |r::t,h=>by rw[cN,af,eI fun y E=>h y (an _ E),h r aw,ay,bA,Nat.one_mul,Nat.add_comm]
end Go.Sy
namespace Go.Sy
open Go.RowKit Go.ChangeShapes Go.WideShapes Go.Shelf Go.Lib Go.Proofs
variable {P : Program}
end Go.Sy
namespace Go.Sy
variable [ba]
variable {P : Program} {T : kE} {f : Nat -> Option FnB}
end Go.Sy
