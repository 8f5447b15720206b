/- An engine that steps through Go code with symbolic values: sound by proof. No condition. -/
import Derived.Test.YtdafipacemgcoaaGreatDoorEe
import Derived.Below
import Derived.Carry
import Derived.ChangeSlices
import Derived.JoinedCond
import Derived.OpenShut
import Derived.RowKit3
import Derived.SliceStrings
import Derived.Lib.Bytealg
import Derived.Lib.BytesEntry
set_option linter.unusedVariables false
set_option linter.unusedSimpArgs false
set_option linter.unnecessarySimpa false
set_option linter.unusedSectionVars false
namespace Go.Sy
variable [LaidData]
variable {P : Program} {C : Ctx} {x : Sit} {a : Act} {w : World} {N : Nat} {c c' : CSt} {s : St} {call : CallF} {sg : Nat → Sig}
abbrev TM:=List (Nat×SV)
structure Uni (d:Option Nat) (F:TM→TM):Prop where
 get:∀tm tm' n,getT tm n=getT tm' n→getT (F tm) n=getT (F tm') n
 dom:∀tm p,p∈F tm→(∃q∈tm,q.1=p.1)∨d=some p.1
theorem Uni.id {d:Option Nat}:Uni d (fun t=>t):=⟨fun _ _ _ h=>h,fun _ p hp=> .inl ⟨p,hp,rfl⟩⟩
theorem Uni.comp {d:Option Nat} {F G:TM→TM} (hF:Uni d F) (hG:Uni d G):Uni d (fun t=>G (F t)):=
 ⟨fun _ _ _ h=>hG.get _ _ _ (hF.get _ _ _ h),fun tm p hp=>by
  rcases hG.dom _ _ hp with⟨q,hq,e⟩|h
  ·rcases hF.dom _ _ hq with⟨q',hq',e'⟩|h
   ·exact .inl ⟨q',hq',e'.trans e⟩
   ·exact .inr (by rw [h,e])
  ·exact .inr h⟩
theorem Uni.purge {d:Option Nat} (lo hi:Nat):Uni d (purgeT lo hi):=
 ⟨fun tm tm' n h=>by rw [getT_purge,getT_purge,h],fun tm p hp=>by obtain⟨q,hq,e⟩:=mem_purgeT hp;exact .inl ⟨q,hq,e.symm⟩⟩
theorem Uni.pub {d:Option Nat} (o:Nat) (obj:SObj):Uni d (pubT o obj):=
 ⟨fun tm tm' n h=>by rw [getT_pub,getT_pub,h],fun tm p hp=>by obtain⟨q,hq,e⟩:=mem_pubT hp;exact .inl ⟨q,hq,e.symm⟩⟩
theorem Uni.put (k:Nat) (v:SV):Uni (some k) (fun t=>putT t k v):=
 ⟨fun tm tm' n h=>by
  simp only [getT_put];rw [h],fun tm p hp=>by
  rcases mem_putT hp with e|e
  ·exact .inr (by rw [e])
  ·exact .inl ⟨p,e,rfl⟩⟩
theorem Uni.weak {d:Option Nat} {F:TM→TM} (h:Uni none F):Uni d F:=⟨h.get,fun tm p hp=>by
 rcases h.dom tm p hp with h|h
 ·exact .inl h
 ·cases h⟩
theorem Uni.cput (d:Option Nat) (v:SV):∃F,Uni d F∧∀tm ob tk,CSt.put ⟨tm,ob,tk⟩ d v=⟨F tm,ob,tk⟩:=by
 cases d with
 |none=>exact⟨fun t=>t,Uni.id,fun _ _ _=>rfl⟩
 |some k=>exact⟨fun t=>putT t k v,Uni.put k v,fun _ _ _=>rfl⟩
section
variable {tm tm' : TM} {ob : List (Nat × SObj)} {tk : List Nat}
theorem reach_tm:∀(n:Nat) (acc l:List Nat),reach ⟨tm',ob,tk⟩ n acc l=reach ⟨tm,ob,tk⟩ n acc l
 |0,_,_=>rfl
 |_+1,_,[]=>rfl
 | n+1,acc,o::t=>by
  simp only [reach];show(if _ then _ else match getO ob o with|some ob1=>_|none=>_)=(if _ then _ else match getO ob o with|some ob1=>_|none=>_);split
  ·exact reach_tm n _ _
  ·split
   ·exact reach_tm n _ _
   ·exact reach_tm n _ _
theorem looks_tm:∀l:List Nat,looks ⟨tm',ob,tk⟩ l=looks ⟨tm,ob,tk⟩ l
 |[]=>rfl
 |o::r=>by simp only [looks];rw [looks_tm r];rfl
theorem publish_uni (o:Nat) (vs:List SV):∃F ob' tk' vs',Uni none F∧∀tm,CSt.publish ⟨tm,ob,tk⟩ o vs=(⟨F tm,ob',tk'⟩,vs'):=by
 unfold CSt.publish CSt.look;simp only;split
 ·exact⟨_,_,_,_,Uni.pub _ _,fun _=>rfl⟩
 ·exact⟨_,_,_,_,Uni.pub _ _,fun _=>rfl⟩
 ·exact⟨_,_,_,_,Uni.id,fun _=>rfl⟩
theorem pubAll_uni:∀(l:List Nat) (ob:List (Nat×SObj)) (tk:List Nat) (vs:List SV),∃F ob' tk' vs',Uni none F∧∀tm,pubAll ⟨tm,ob,tk⟩ vs l=(⟨F tm,ob',tk'⟩,vs')
 |[],ob,tk,vs=>⟨_,_,_,_,Uni.id,fun _=>rfl⟩
 |o::r,ob,tk,vs=>by obtain⟨F,ob1,tk1,vs1,h1,h2⟩:=publish_uni (ob:=ob) (tk:=tk) o vs;obtain⟨G,ob2,tk2,vs2,h3,h4⟩:=pubAll_uni r ob1 tk1 vs1;refine⟨fun t=>G (F t),ob2,tk2,vs2,h1.comp h3,fun tm=> ?_⟩;simp only [pubAll];rw [h2];exact h4 _
theorem afterC_uni (d:Option Nat) (m mt:List Nat) (q:CRes):∃F ob' tk',Uni d F∧∀tm,afterC ⟨tm,ob,tk⟩ d m mt q=⟨F tm,ob',tk'⟩:=by unfold afterC;dsimp only;obtain⟨F,h1,h2⟩:=Uni.cput d (q.r.ren (renO (d.getD 0) m) (renT (d.getD 0)));exact⟨_,_,_,(Uni.purge ((d.getD 0+1)*1000) ((d.getD 0+2)*1000)).comp h1,fun tm=>h2 _ _ _⟩
theorem slow_uni {sg:Sig} {d:Option Nat} {g:Nat} {as:List SV}:∃F,Uni d F∧∃q:Option (List (Nat×SObj)×List Nat),∀tm,slowC call sg d g (⟨tm,ob,tk⟩,as)=q.map fun q=>⟨F tm,q.1,q.2⟩:=by
 simp only [slowC];generalize tokL tk sg.own 50 0 as=z;obtain⟨as2,mt1⟩:=z;simp only [slow0];have e1:∀tm,reach ⟨tm,ob,tk⟩ 60 [] (SV.idsL as2)=reach ⟨[],ob,tk⟩ 60 [] (SV.idsL as2):=fun tm=>reach_tm _ _ _
 have e2:∀tm l,looks ⟨tm,ob,tk⟩ l=looks ⟨[],ob,tk⟩ l:=fun tm l=>looks_tm l
 simp only [e1,e2];generalize reach ⟨[],ob,tk⟩ 60 [] (SV.idsL as2)=m;cases ho:looks ⟨[],ob,tk⟩ m with
 |none=>exact⟨_,Uni.id,none,fun _=>rfl⟩
 | some os0=>
  simp only [slow1];generalize tokObs tk (50+mt1.length) os0=z2;obtain⟨os,mt2⟩:=z2;simp only [slow2];generalize (subB (SV.idsL as2++obsIds os) m&&nodupB m&&nodupB (somes (mt1++mt2))&&decide (m.length≤40)&&m.all fun o=> !inR (d.getD 0) o)=b;cases b with
  |false=>exact⟨_,Uni.id,none,fun _=>rfl⟩
  | true=>
   simp only [slow3];cases hq:call g (SV.renL (ixOf m) _root_.id as2) (renObL (ixOf m) _root_.id os) (mt1.length+mt2.length)with
   |none=>exact⟨_,Uni.id,none,fun _=>rfl⟩
   | some q=>
    simp only [slow4];generalize q.small=b;cases b with
    |false=>exact⟨_,Uni.id,none,fun _=>rfl⟩
    |true=>obtain⟨F,ob',tk',h1,h2⟩:=afterC_uni (ob:=ob) (tk:=tk) d m (somes (mt1++mt2)) q;exact⟨F,h1,some (ob',tk'),fun tm=>by simp only [slow5,Option.map_some,h2]⟩
theorem callC_uni {sg:Sig} {d:Option Nat} {g:Nat} {as:List SV}:∃F,Uni d F∧∃q:Option (List (Nat×SObj)×List Nat),∀tm,callC call sg ⟨tm,ob,tk⟩ d g as=q.map fun q=>⟨F tm,q.1,q.2⟩:=by
 unfold callC;generalize ((SV.idsL as).isEmpty&&sg.own.isEmpty)=b;cases b with
 | true=>
  simp only [callK];cases hq:call g (SV.bareL as) [] 0 with
  |none=>exact⟨_,Uni.id,none,fun _=>rfl⟩
  | some q=>
   simp only [fastC];generalize q.bare=b;cases b with
   |true=>simp only [fast2];obtain⟨F,h1,h2⟩:=Uni.cput d q.r;exact⟨F,h1,some (ob,tk),fun tm=>by rw [h2];rfl⟩
   | false=>
    simp only [fast2];generalize q.small=b;cases b with
    |false=>exact⟨_,Uni.id,none,fun _=>rfl⟩
    |true=>obtain⟨F,ob',tk',h1,h2⟩:=afterC_uni (ob:=ob) (tk:=tk) d [] [] q;exact⟨F,h1,some (ob',tk'),fun tm=>by simp only [fast3,h2];rfl⟩
 |false=>simp only [callK];obtain⟨F,ob1,tk1,vs1,h1,h2⟩:=pubAll_uni (slIds sg.raw 0 as) ob tk as;obtain⟨G,h3,q,h4⟩:=slow_uni (call:=call) (ob:=ob1) (tk:=tk1) (sg:=sg) (d:=d) (g:=g) (as:=vs1);exact⟨fun t=>G (F t),h1.weak.comp h3,q,fun tm=>by rw [h2];exact h4 _⟩
theorem wr_uni:∀(l:List (Nat×SObj)) (tm:TM) (ob:List (Nat×SObj)) (tk:List Nat),CSt.wr ⟨tm,ob,tk⟩ l=⟨tm,(CSt.wr ⟨[],ob,tk⟩ l).ob,tk⟩
 |[],_,_,_=>rfl
 |p::r,tm,ob,tk=>by simp only [CSt.wr];exact wr_uni r tm _ tk
theorem app_uni (d:Option Nat) (e:CEff):∃F ob' tk',Uni d F∧∀tm,CSt.app ⟨tm,ob,tk⟩ d e=⟨F tm,ob',tk'⟩:=by
 unfold CSt.app;dsimp only;obtain⟨F,h1,h2⟩:=Uni.cput d e.val;split
 ·exact⟨_,_,_,(Uni.purge (d.getD 0+100) (d.getD 0+101)).comp h1,fun tm=>h2 _ _ _⟩
 ·exact⟨_,_,_,(Uni.purge (d.getD 0+100) (d.getD 0+101)).comp h1,fun tm=>h2 _ _ _⟩
 ·exact⟨F,(CSt.wr ⟨[],ob,tk⟩ e.wr).ob,tk,h1,fun tm=>by rw [wr_uni];exact h2 _ _ _⟩
theorem ev_tm {x:Arg} (h:∀n,x= .t n→getT tm' n=getT tm n):CSt.ev ⟨tm',ob,tk⟩ x=CSt.ev ⟨tm,ob,tk⟩ x:=by
 cases x with
 |t n=>exact h n rfl
 |c v=>rfl
 |f g=>rfl
theorem evL_tm:∀ {l:List Arg},(∀x∈l,CSt.ev ⟨tm',ob,tk⟩ x=CSt.ev ⟨tm,ob,tk⟩ x)→evL ⟨tm',ob,tk⟩ l=evL ⟨tm,ob,tk⟩ l
 |[],_=>rfl
 |x::r,h=>by simp only [evL];rw [h x (List.mem_cons_self ..),evL_tm fun y hy=>h y (List.mem_cons_of_mem _ hy)]
theorem psC_tm:∀ {l:List (Nat×Nat×Arg)},(∀x∈l.map (fun p=>p.2.2),CSt.ev ⟨tm',ob,tk⟩ x=CSt.ev ⟨tm,ob,tk⟩ x)→psC ⟨tm',ob,tk⟩ l=psC ⟨tm,ob,tk⟩ l
 |[],_=>rfl
 |(o,n,x)::r,h=>by simp only [psC];rw [h x (by simp),psC_tm fun y hy=>h y (by simp only [List.map_cons,List.mem_cons];exact .inr hy)]
theorem optC_tm {x:Option Arg} {d:Int} (h:∀y∈x.toList,CSt.ev ⟨tm',ob,tk⟩ y=CSt.ev ⟨tm,ob,tk⟩ y):optC ⟨tm',ob,tk⟩ x d=optC ⟨tm,ob,tk⟩ x d:=by
 cases x with
 |none=>rfl
 |some y=>simp only [optC];rw [h y (by simp)]
theorem slcC_tm {sz:Nat} {v:SV} {lo hi mx:Option Arg} (h1:∀y∈lo.toList,CSt.ev ⟨tm',ob,tk⟩ y=CSt.ev ⟨tm,ob,tk⟩ y) (h2:∀y∈hi.toList,CSt.ev ⟨tm',ob,tk⟩ y=CSt.ev ⟨tm,ob,tk⟩ y) (h3:∀y∈mx.toList,CSt.ev ⟨tm',ob,tk⟩ y=CSt.ev ⟨tm,ob,tk⟩ y):
 slcC ⟨tm',ob,tk⟩ sz v lo hi mx=slcC ⟨tm,ob,tk⟩ sz v lo hi mx:=by
 unfold slcC;simp only [optC_tm h1,optC_tm h2,optC_tm h3]
theorem valC_tm {o:SOp} (h:∀y∈o.args,CSt.ev ⟨tm',ob,tk⟩ y=CSt.ev ⟨tm,ob,tk⟩ y):valC ⟨tm',ob,tk⟩ o=valC ⟨tm,ob,tk⟩ o:=by
 cases o with
 |build z ps=>simp only [SOp.args]at h;simp only [valC];rw [psC_tm h]
 |lit sz xs=>simp only [SOp.args]at h;simp only [valC];rw [evL_tm h]
 |litB xs=>simp only [SOp.args]at h;simp only [valC];rw [evL_tm h]
 |mkfn f a b=>simp only [SOp.args,List.mem_append]at h;simp only [valC];rw [evL_tm fun y hy=>h y (.inl hy),evL_tm fun y hy=>h y (.inr hy)]
 |slcS x lo hi=>simp only [SOp.args,List.mem_cons,List.mem_append]at h;simp only [valC];rw [h x (.inl rfl)];simp only [optC_tm fun y hy=>h y (.inr (.inl hy)),optC_tm fun y hy=>h y (.inr (.inr hy))]
 |slcL sz x lo hi mx=>simp only [SOp.args,List.mem_cons,List.mem_append]at h;simp only [valC];rw [h x (.inl rfl),slcC_tm (fun y hy=>h y (.inr (.inl (.inl hy)))) (fun y hy=>h y (.inr (.inl (.inr hy)))) (fun y hy=>h y (.inr (.inr hy)))]
 |slcA len sz x lo hi mx=>simp only [SOp.args,List.mem_cons,List.mem_append]at h;simp only [valC];rw [h x (.inl rfl)];simp only [slcC_tm (fun y hy=>h y (.inr (.inl (.inl hy)))) (fun y hy=>h y (.inr (.inl (.inr hy)))) (fun y hy=>h y (.inr (.inr hy)))]
 | _=>
  simp only [SOp.args,List.mem_cons,List.not_mem_nil,or_false,forall_eq_or_imp,forall_eq,List.mem_singleton]at h
  first
   |rfl
   |(simp only [valC];rw [h];rfl)
   |(simp only [valC];rw [h.1,h.2];rfl)
   |(simp only [valC,h];done)
   |(simp only [valC,h.1,h.2];done)
theorem storeC_tm {n:Nat} {v:List SV} {u:SV}:storeC ⟨tm',ob,tk⟩ n v u=storeC ⟨tm,ob,tk⟩ n v u:=by
 cases u<;>rfl
theorem effC_tm {d:Option Nat} {o:SOp} (h:∀y∈o.args,CSt.ev ⟨tm',ob,tk⟩ y=CSt.ev ⟨tm,ob,tk⟩ y):effC ⟨tm',ob,tk⟩ d o=effC ⟨tm,ob,tk⟩ d o:=by
 have hv:=valC_tm h;cases o with
 |new ob=>rfl
 |call f as=>rfl
 |box x=>simp only [SOp.args,List.mem_cons,List.not_mem_nil,or_false,forall_eq]at h;simp only [effC];rw [h]
 |mk z b n m=>simp only [SOp.args,List.mem_cons,List.not_mem_nil,or_false,forall_eq_or_imp,forall_eq]at h;simp only [effC];rw [h.1,h.2]
 |mkB n m=>simp only [SOp.args,List.mem_cons,List.not_mem_nil,or_false,forall_eq_or_imp,forall_eq]at h;simp only [effC];rw [h.1,h.2]
 |store n a x=>simp only [SOp.args,List.mem_cons,List.not_mem_nil,or_false,forall_eq_or_imp,forall_eq]at h;simp only [effC];rw [h.1,h.2,storeC_tm]
 |app z b x y=>
  simp only [SOp.args,List.mem_cons,List.not_mem_nil,or_false,forall_eq_or_imp,forall_eq]at h;have e1:∀v,bytesC ⟨tm',ob,tk⟩ v=bytesC ⟨tm,ob,tk⟩ v:=fun v=>by cases v<;>rfl
  have e2:∀n v,rowsC ⟨tm',ob,tk⟩ n v=rowsC ⟨tm,ob,tk⟩ n v:=fun n v=>by cases v<;>rfl
  have e3:∀t:Tok,t.readyC ⟨tm',ob,tk⟩=t.readyC ⟨tm,ob,tk⟩:=fun t=>by cases t<;>rfl
  simp only [effC];rw [h.1,h.2];simp only [e1,e2,e3]
 |cpy sz x y=>
  simp only [SOp.args,List.mem_cons,List.not_mem_nil,or_false,forall_eq_or_imp,forall_eq]at h;have e1:∀v,bytesC ⟨tm',ob,tk⟩ v=bytesC ⟨tm,ob,tk⟩ v:=fun v=>by cases v<;>rfl
  have e2:∀n v,rowsC ⟨tm',ob,tk⟩ n v=rowsC ⟨tm,ob,tk⟩ n v:=fun n v=>by cases v<;>rfl
  simp only [effC];rw [h.1,h.2];simp only [e1,e2];rfl
 |pick k a b=>simp only [SOp.args,List.mem_cons,List.not_mem_nil,or_false,forall_eq_or_imp,forall_eq]at h;simp only [effC];rw [h.1,h.2.1,h.2.2]
 |isnil ne x=>simp only [SOp.args,List.mem_cons,List.not_mem_nil,or_false,forall_eq]at h;simp only [effC];rw [h]
 |_=>simp only [effC];rw [hv]
theorem opC_uni {d:Option Nat} {o:SOp} (h:∀y∈o.args,CSt.ev ⟨tm',ob,tk⟩ y=CSt.ev ⟨tm,ob,tk⟩ y) (hc:opC call sg ⟨tm,ob,tk⟩ d o=some c'):∃F,Uni d F∧c'.tm=F tm∧opC call sg ⟨tm',ob,tk⟩ d o=some ⟨F tm',c'.ob,c'.tk⟩:=by
 by_cases hcl:∃f as,o= .call f as
 ·obtain⟨f,as,rfl⟩:=hcl
  simp only [opC]at hc ⊢;simp only [SOp.args,List.mem_cons]at h;rw [h f (.inl rfl),evL_tm fun y hy=>h y (.inr hy)];split at hc<;>try (cases hc;done)
  obtain⟨F,h1,q,h2⟩:=callC_uni (call:=call) (ob:=ob) (tk:=tk) (sg:=sg ‹_›) (d:=d) (g:= ‹_›) (as:= ‹List SV› ++evL ⟨tm,ob,tk⟩ as++ ‹List SV›);rename_i g u v hfn;obtain⟨F,h1,q,h2⟩:=callC_uni (call:=call) (ob:=ob) (tk:=tk) (sg:=sg g) (d:=d) (g:=g) (as:=u++evL ⟨tm,ob,tk⟩ as++v);rw [h2]at hc;cases q with
  |none=>cases hc
  |some q=>simp only [Option.map_some,Option.some.injEq]at hc;subst hc;exact⟨F,h1,rfl,by rw [h2];rfl⟩
 by_cases hnb:∃xs,o= .newB xs
 ·obtain⟨xs,rfl⟩:=hnb
  simp only [opC]at hc ⊢;simp only [SOp.args]at h;rw [evL_tm h];unfold newBC at hc ⊢;split at hc<;>try (cases hc;done)
  rename_i k l hk;cases hc;obtain⟨F,ob',tk',h1,h2⟩:=app_uni (ob:=ob) (tk:=tk) (some k) {val:= .psl (k+100) 1 0 l.length (some l.length),new:=some (.bar l)};exact⟨F,h1,by rw [h2],by simp only [h2]⟩
 by_cases hsl:∃q,o= .slid q
 ·obtain⟨q,rfl⟩:=hsl
  simp only [opC]at hc ⊢;rw [h q (by simp [SOp.args])];generalize CSt.ev ⟨tm,ob,tk⟩ q=v at hc;unfold slidC at hc;split at hc<;>try (cases hc;done)
  rename_i o' off n cap;show ∃F,_∧_∧slid2 _ d o' off n cap (CSt.look ⟨tm',ob,tk⟩ o')=_;have hlk:CSt.look ⟨tm',ob,tk⟩ o'=CSt.look ⟨tm,ob,tk⟩ o':=rfl;rw [hlk];generalize CSt.look ⟨tm,ob,tk⟩ o'=u at hc;unfold slid2 at hc;split at hc<;>try (cases hc;done)
  split at hc<;>try (cases hc;done)
  rename_i l hcond;cases hc;obtain⟨F,ob',tk',vs',h1,h2⟩:=publish_uni (ob:=ob) (tk:=tk) o' [];obtain⟨G,g1,g2⟩:=Uni.cput d (.byt ((l.drop off).take n) .clip);refine⟨fun t=>G (F t),h1.weak.comp g1, ?_, ?_⟩
  ·rw [h2 tm];rw [g2]
  ·simp only [slid2,if_pos hcond,h2,g2]
 ·have e:∀c,opC call sg c d o=effS c d (effC c d o):=by
   intro c;cases o<;>first|rfl|exact absurd ⟨_,_,rfl⟩ hcl|exact absurd ⟨_,rfl⟩ hnb|exact absurd ⟨_,rfl⟩ hsl
  rw [e]at hc;rw [e,effC_tm h];cases he:effC ⟨tm,ob,tk⟩ d o with
  |none=>rw [he]at hc;cases hc
  |some q=>rw [he]at hc;simp only [effS,Option.some.injEq]at hc ⊢;obtain⟨F,ob',tk',h1,h2⟩:=app_uni (ob:=ob) (tk:=tk) d q;rw [h2]at hc;subst hc;exact⟨F,h1,rfl,h2 _⟩
theorem arg_rds {i:SI} (h:∀n∈i.rds,getT tm' n=getT tm n):∀y∈i.op.args,CSt.ev ⟨tm',ob,tk⟩ y=CSt.ev ⟨tm,ob,tk⟩ y:=by
 intro y hy;refine ev_tm fun n hn=>h n ?_
 subst hn;unfold SI.rds;rw [List.mem_append];exact .inl (List.mem_filterMap.2 ⟨_,hy,rfl⟩)
theorem g_rds {i:SI} {g:Nat} {b:Bool} (hg:i.g=some (g,b)):g∈i.rds:=by unfold SI.rds;rw [hg];simp
theorem stepC_uni {i:SI} (h:∀n∈i.rds,getT tm' n=getT tm n) (hc:stepC call sg ⟨tm,ob,tk⟩ i=some c'):∃F,Uni i.dst F∧c'.tm=F tm∧stepC call sg ⟨tm',ob,tk⟩ i=some ⟨F tm',c'.ob,c'.tk⟩:=by
 unfold stepC at hc ⊢;split at hc
 ·exact opC_uni (arg_rds h) hc
 ·rename_i g b hg
  have e:CSt.get ⟨tm',ob,tk⟩ g=CSt.get ⟨tm,ob,tk⟩ g:=h g (g_rds hg);rw [e];split at hc<;>try (cases hc;done)
  rotate_left
  ·obtain⟨F,h1,h2⟩:=Uni.cput i.dst (.tup [])
   rw [h2]at hc;cases hc;exact⟨F,h1,rfl,by rw [h2]⟩
  split at hc
  ·rename_i hb
   obtain⟨F,h1,h2,h3⟩:=opC_uni (arg_rds h) hc;exact⟨F,h1,h2,by simp only [if_pos hb];exact h3⟩
  ·rename_i hb
   obtain⟨F,h1,h2⟩:=Uni.cput i.dst (.tup []);rw [h2]at hc;cases hc;exact⟨F,h1,rfl,by simp only [if_neg hb];rw [h2]⟩
theorem qv_tm {i:SI} (h:∀n∈i.rds,getT tm' n=getT tm n):qv ⟨tm',ob,tk⟩ i=qv ⟨tm,ob,tk⟩ i:=by
 have hq:qval ⟨tm',ob,tk⟩ i.op=qval ⟨tm,ob,tk⟩ i.op:=by
  have ha:=arg_rds (ob:=ob) (tk:=tk) h;generalize i.op=o at ha;have hv:=valC_tm ha;cases o with
  |pick k a b=>simp only [SOp.args,List.mem_cons,List.not_mem_nil,or_false,forall_eq_or_imp,forall_eq]at ha;simp only [qval];rw [ha.1,ha.2.1,ha.2.2]
  |_=>simp only [qval];rw [hv]
 unfold qv;cases hg:i.g with
 |none=>exact hq
 |some p=>obtain⟨g,b⟩:=p;simp only;have e:CSt.get ⟨tm',ob,tk⟩ g=CSt.get ⟨tm,ob,tk⟩ g:=h g (g_rds hg);rw [e];cases CSt.get ⟨tm,ob,tk⟩ g<;>first|rfl|(simp only [qg];rw [hq])
end
theorem step_of_qv {i:SI} {v:SV} (h:qv c i=some v):stepC call sg c i=some (c.put i.dst v):=by
 have hop:∀o,qval c o=some v→opC call sg c i.dst o=some (c.put i.dst v):=by
  intro o ho;cases o with
  |pick k a b=>simp only [qval]at ho;split at ho<;>cases ho;rename_i t ht;simp only [opC,effC,ht,effS];rfl
  | _=>
   simp only [qval]at ho
   first
    |(simp only [valC]at ho;cases ho;done)
    |(simp only [opC,effC];rw [ho];rfl)
    |(simp [valC]at ho;done)
 unfold qv at h;unfold stepC;generalize i.g=q at h;cases q with
 |none=>exact hop _ h
 | some q=>
  obtain⟨g,b⟩:=q;simp only at h ⊢;generalize c.get g=u at h
  by_cases hu:u= .tup []
  ·subst hu
   simp only [qg,Option.some.injEq]at h;subst h;rfl
  obtain⟨t,rfl⟩:∃t,u= .bool t:=by
   unfold qg at h;split at h
   ·exact⟨_,rfl⟩
   ·exact absurd rfl hu
   ·cases h
  simp only [qg]at h ⊢;split at h
  ·rename_i hb;rw [if_pos hb];exact hop _ h
  ·rename_i hb;rw [if_neg hb];cases h;rfl
structure Apx (N:Nat) (D:List Nat) (c p:CSt):Prop where
 get:∀n,n∉D→c.get n=p.get n
 ob:c.ob=p.ob
 tk:c.tk=p.tk
 dom:∀q∈p.tm,q.1<N
theorem Apx.step {D:List Nat} {p p1:CSt} {i:SI} (h:Apx N D c p) (hi:i.ok N=true) (hr:∀n∈i.rds,n∉D) (hs:stepC call sg p i=some p1):∃c1,stepC call sg c i=some c1∧Apx N D c1 p1:=by
 obtain⟨tm',ob',tk'⟩:=c;obtain⟨tm,ob,tk⟩:=p;have h1:=h.ob;have h2:=h.tk;simp only at h1 h2;subst h1;subst h2;obtain⟨F,k1,k2,k3⟩:=stepC_uni (tm':=tm') (fun n hn=>h.get n (hr n hn)) hs;refine⟨_,k3,⟨fun n hn=> ?_,rfl,rfl,fun q hq=> ?_⟩⟩
 ·show getT (F tm') n=getT p1.tm n
  rw [k2];exact k1.get _ _ _ (h.get n hn)
 ·rw [k2]at hq
  rcases k1.dom _ _ hq with⟨q',hq',e⟩|e
  ·rw [←e];exact h.dom q' hq'
  ·unfold SI.ok at hi
   rw [e]at hi;simpa using hi
theorem Apx.qv {D:List Nat} {p:CSt} {i:SI} (h:Apx N D c p) (hr:∀n∈i.rds,n∉D):qv c i=qv p i:=by obtain⟨tm',ob',tk'⟩:=c;obtain⟨tm,ob,tk⟩:=p;have h1:=h.ob;have h2:=h.tk;simp only at h1 h2;subst h1;subst h2;exact qv_tm fun n hn=>h.get n (hr n hn)
theorem Apx.put {D:List Nat} {p:CSt} {d:Nat} {v:SV} (h:Apx N D c p) (hd:d<N):Apx N (d::D) c (p.put (some d) v):=by
 refine⟨fun n hn=> ?_,h.ob,h.tk,fun q hq=> ?_⟩
 ·simp only [List.mem_cons,not_or]at hn
  rw [cput_get,if_neg hn.1];exact h.get n hn.2
 ·rcases mem_putT hq with e|e
  ·rw [e];exact hd
  ·exact h.dom q e
theorem qv_put {p:CSt} {d:Nat} {v:SV} {i:SI} (h:d∉i.rds):Sy.qv (p.put (some d) v) i=Sy.qv p i:=by
 obtain⟨tm,ob,tk⟩:=p;refine qv_tm (tm:=tm) (tm':=putT tm d v) fun n hn=> ?_
 rw [getT_put,if_neg (by intro e;subst e;exact h hn)]
theorem gdP_some {α:Type} {p:Prop} {v u:α} (h:gdP p v=some u):p∧v=u:=by
 unfold gdP at h;split at h
 ·rename_i hp;exact⟨hp,by simpa using h⟩
 ·cases h
theorem fchk_mem {m:Nat} {p:CSt} {f:FI}:∀ {l:List FI},fchk m p l→f∈l→m.testBit f.n=true∨qv p f.i=some (p.get (f.i.dst.getD 0))
 | g::r,h,hf=>by
  rcases List.mem_cons.1 hf with rfl|hf
  ·rcases h.1 with h1|h1
   ·left
    rw [Nat.testBit_eq_decide_div_mod_eq];simpa using h1
   ·exact .inr h1
  ·exact fchk_mem h.2 hf
def Nx (g q:FI):Prop:=q.q=true→∀d,q.i.dst=some d→d∉g.i.rds∧g.i.dst≠some d
def Selfs (q:FI):Prop:=q.q=true→∃d,q.i.dst=some d∧d∉q.i.rds
def dOf (f:FI):Nat:=f.i.dst.getD 0
theorem advance {b:List Nat} {cF:CSt}:∀ {r ps V:List FI} {p:CSt} {D:List Nat},fltC call sg b r ps p=some cF→Apx N D c p→(∀f∈r,f.i.ok N=true)→(∀f∈r,Selfs f)→r.Pairwise Nx→(∀g∈V,∀f∈r,Nx g f)→
 (∀g∈V,∃d,g.i.dst=some d)→(∀g∈V,qv p g.i=some (p.get (dOf g)))→∃seg post p2 ps2,r=seg++post∧(∀f∈seg,f.q=true)∧(post=[]∨∃f r',post=f::r'∧f.q=false)∧fltC call sg b post ps2 p2=some cF∧
  (∀f,f∈ps∨f∈seg→f∈ps2)∧Apx N (seg.map dOf++D) c p2∧∀g,g∈V∨g∈seg→qv p2 g.i=some (p2.get (dOf g))
 |[],ps,V,p,D,h,hA,_,_,_,_,_,hV=>⟨[],[],p,ps,rfl,by simp,.inl rfl,h,by simp,by simpa using hA,by simpa using hV⟩
 | f ::r,ps,V,p,D,h,hA,hok,hself,hpw,hVr,hVd,hV=>by
  obtain⟨n,q,i⟩:=f;cases q with
  |false=>exact⟨[],⟨n,false,i⟩::r,p,ps,rfl,by simp,.inr ⟨_,_,rfl,rfl⟩,h,by simp,by simpa using hA,by simpa using hV⟩
  | true=>
   simp only [fltC]at h;cases hq:qv p i with
   |none=>rw [hq]at h;simp [fltQ]at h
   | some v=>
    rw [hq]at h;simp only [fltQ]at h;obtain⟨d,hd,hdr⟩:=hself _ (List.mem_cons_self ..) rfl;simp only at hd hdr
    have hdN:d<N:=by have:=hok _ (List.mem_cons_self ..);unfold SI.ok at this;simp only [hd]at this;simpa using this
    rw [hd]at h;rw [List.pairwise_cons]at hpw
    have hget:∀g:FI,(∃e,g.i.dst=some e)→g.i.dst≠some d→(p.put (some d) v).get (dOf g)=p.get (dOf g):=by
     rintro g ⟨e,he⟩ hne;have e1:dOf g=e:=by unfold dOf;rw [he];rfl
     rw [e1,cput_get,if_neg];intro e2;rw [he,e2]at hne;exact hne rfl
    obtain⟨seg,post,p2,ps2,k1,k2,k3,k4,k5,k6,k7⟩:=advance (V:=⟨n,true,i⟩::V) h (hA.put hdN) (fun f hf=>hok f (List.mem_cons_of_mem _ hf)) (fun f hf=>hself f (List.mem_cons_of_mem _ hf)) hpw.2
     (by
      intro g hg f hf;rcases List.mem_cons.1 hg with rfl|hg
      ·exact hpw.1 f hf
      ·exact hVr g hg f (List.mem_cons_of_mem _ hf))
     (by
      intro g hg;rcases List.mem_cons.1 hg with rfl|hg
      ·exact⟨d,hd⟩
      ·exact hVd g hg)
     (by
      intro g hg;rcases List.mem_cons.1 hg with rfl|hg
      ·have e1:dOf ⟨n,true,i⟩=d:=by unfold dOf;simp only [hd];rfl
       rw [e1,qv_put hdr,cput_get,if_pos rfl];exact hq
      ·obtain⟨h1,h2⟩:=hVr g hg _ (List.mem_cons_self ..) rfl d hd
       rw [qv_put h1,hget g (hVd g hg) h2];exact hV g hg)
    refine⟨⟨n,true,i⟩::seg,post,p2,ps2,by rw [k1];rfl, ?_,k3,k4, ?_, ?_, ?_⟩
    ·intro f hf
     rcases List.mem_cons.1 hf with rfl|hf
     ·rfl
     ·exact k2 f hf
    ·intro f hf
     refine k5 f ?_;rcases hf with hf|hf
     ·exact .inl (List.mem_cons_of_mem _ hf)
     ·rcases List.mem_cons.1 hf with rfl|hf
      ·exact .inl (List.mem_cons_self ..)
      ·exact .inr hf
    ·have e1:dOf ⟨n,true,i⟩=d:=by unfold dOf;simp only [hd];rfl
     refine⟨fun m hm=>k6.get m (fun h=>hm ?_),k6.ob,k6.tk,k6.dom⟩;simp only [List.map_cons,e1,List.cons_append,List.mem_cons,List.mem_append]at h ⊢;rcases h with h|h|h
     ·exact .inr (.inl h)
     ·exact .inl h
     ·exact .inr (.inr h)
    ·intro g hg
     refine k7 g ?_;rcases hg with hg|hg
     ·exact .inl (List.mem_cons_of_mem _ hg)
     ·rcases List.mem_cons.1 hg with rfl|hg
      ·exact .inl (List.mem_cons_self ..)
      ·exact .inr hg
section
variable {ops : Array Oper} {its : List FI} {b : List Nat}
def un (its:List FI) (listed:Array Bool):List FI:=its.filter fun f=> !listed.getD f.n true
theorem mem_un {listed:Array Bool} {f:FI}:f∈un its listed↔f∈its∧listed.getD f.n true=false:=by simp [un]
structure Stage (call:CallF) (sg:Nat→Sig) (N:Nat) (b:List Nat) (its:List FI) (cF:CSt) (listed:Array Bool) (c:CSt):Prop where
 ex:∃pre post p ps,its=pre++post∧(post=[]∨∃f r,post=f::r∧f.q=false)∧fltC call sg b post ps p=some cF∧(∀f∈pre,f.q=true→f∈ps)∧
  (∀f∈pre,f.q=false→listed.getD f.n true=true)∧(∀f∈post,listed.getD f.n true=false)∧
  Apx N ((un pre listed).map dOf) c p∧∀f∈un pre listed,qv p f.i=some (p.get (dOf f))
theorem float_loop (hcal:CallOK P call) {cF:CSt}
 (hitem:∀f∈its,∃o,ops[f.n]? =some o∧resSI P ops o=some f.i∧f.n<ops.size) (hex:∀j,j<ops.size→∃f∈its,f.n=j) (hinj:∀f∈its,∀g∈its,f.n=g.n→f=g)
 (hback:∀(i:Nat) (o:Oper),ops[i]? =some o→∀e∈o.after,Region.binds .any e=true→e.on<i)
 (hbit:∀(i:Nat) (o:Oper) (k:Nat),ops[i]? =some o→k<ops.size→(b.getD i 0).testBit k=true→∃e∈o.after,Region.binds .any e=true∧(e.on=k∨(b.getD e.on 0).testBit k=true))
 (hok:∀f∈its,f.i.ok N=true) (hself:∀f∈its,Selfs f) (hnx:its.Pairwise Nx)
 (hrd:∀q∈its,q.q=true→∀p∈its,∀d,q.i.dst=some d→d∈p.i.rds→(b.getD p.n 0).testBit q.n=true)
 (hseg:∀pre f r,its=pre++f::r→f.q=false→∀g∈r,∃h∈f::r,(b.getD g.n 0).testBit h.n=true)
 (hdd:∀f∈its,∀g∈its,f.n≠g.n→∀d,f.i.dst=some d→g.i.dst≠some d) {Q:Exit→Act→World→Prop} (hQ:∀a w,M C N cF a w→Q .normal a w):
 ∀ (fuel:Nat) (listed:Array Bool) (c:CSt) (a:Act) (w:World),(un its listed).length≤fuel→listed.size=ops.size→
   (∀(i:Nat) (o:Oper) (k:Nat),ops[i]? =some o→listed.getD i true=true→k<ops.size→(b.getD i 0).testBit k=true→listed.getD k true=true)→
   Stage call sg N b its cF listed c→M C N c a w→wpAny P .any ops Q fuel listed a w:=by
 classical
 have hd2:∀(listed:Array Bool),listed.size=ops.size→∀k,k<ops.size→listed.getD k false=listed.getD k true:=by intro listed hs k hk;simp [Array.getD,hs,hk]
 have done:∀(listed:Array Bool) (c:CSt) (a:Act) (w:World),un its listed=[]→Stage call sg N b its cF listed c→M C N c a w→Region.ready .any ops listed=[]∧Q .normal a w:=by
  intro listed c a w h0 hS hM;constructor
  ·rw [List.eq_nil_iff_forall_not_mem]
   intro j hj;obtain⟨h1,o,h2,h3⟩:=mem_ready.1 hj;have hj':j<ops.size:=(Array.getElem?_eq_some_iff.1 h2).1;obtain⟨it,hit,rfl⟩:=hex j hj';have:it∈un its listed:=mem_un.2 ⟨hit,h1⟩;rw [h0]at this;cases this
  ·obtain⟨pre,post,p,ps,e,hp,hrun,_,_,hpost,hA,_⟩:=hS.ex
   have hp0:post=[]:=by
    cases post with
    |nil=>rfl
    |cons f r=>have:f∈un its listed:=mem_un.2 ⟨by rw [e];simp,hpost f (List.mem_cons_self ..)⟩;rw [h0]at this;cases this
   subst hp0;simp only [fltC,Option.some.injEq]at hrun;subst hrun;have hD:un pre listed=[]:=by rw [←h0,e,List.append_nil]
   rw [hD]at hA;refine hQ a w ?_;obtain⟨x,s,hMo,hSi⟩:=hM;refine M.slots (c:=c) ⟨x,s,hMo,hSi⟩ ⟨hA.dom,by rw [←hA.ob];exact hSi.inv.so,by rw [←hA.ob];exact hSi.inv.wf⟩ hA.ob.symm hA.tk.symm (fun i=> .inl (hA.get i (by simp)).symm)
 intro fuel;induction fuel with
 |zero=>intro listed c a w hf hs hcl hS hM;exact done listed c a w (List.length_eq_zero_iff.1 (by omega)) hS hM
 | succ fuel ih=>
  intro listed c a w hf hs hcl hS hM;constructor
  ·intro hnil
   by_cases h0:un its listed=[]
   ·exact(done listed c a w h0 hS hM).2
   ·exfalso
    have hp:∃n,∃f∈un its listed,f.n=n:=by
     cases hc:un its listed with
     |nil=>exact absurd hc h0
     |cons f r=>exact⟨_,f,List.mem_cons_self ..,rfl⟩
    obtain⟨n,⟨f,hfu,hfn⟩,hmin⟩:=least _ hp;obtain⟨h1,h2⟩:=mem_un.1 hfu;obtain⟨o,h3,_,h4⟩:=hitem f h1
    have:f.n∈Region.ready .any ops listed:=by refine mem_ready.2 ⟨h2,o,h3,fun e he hb=> ?_⟩;have hlt:=hback f.n o h3 e he hb;rw [hd2 listed hs _ (by omega),←Bool.not_eq_false];intro hfl;obtain⟨g,hg,hgn⟩:=hex e.on (by omega);have:=hmin e.on ⟨g,mem_un.2 ⟨hg,by rw [hgn];exact hfl⟩,hgn⟩;omega
    rw [hnil]at this;cases this
  ·intro i hir
   obtain⟨h1,o,h2,h3⟩:=mem_ready.1 hir;have hi':i<ops.size:=(Array.getElem?_eq_some_iff.1 h2).1;obtain⟨it,hit,rfl⟩:=hex i hi';obtain⟨o',ho',hres,_⟩:=hitem it hit;rw [h2]at ho';cases ho'
   have hdep:∀k,k<ops.size→(b.getD it.n 0).testBit k=true→listed.getD k true=true:=by
    intro k hk hb;obtain⟨e,he,hbd,hor⟩:=hbit it.n o k h2 hk hb;have hon:=h3 e he hbd;have honlt:=hback it.n o h2 e he hbd;rw [hd2 listed hs _ (by omega)]at hon;rcases hor with h|h
    ·rw [←h];exact hon
    ·exact hcl e.on (ops[e.on]'(by omega)) k (by simp) hon hk h
   have hlen:(un its (listed.setIfInBounds it.n true)).length<(un its listed).length:=by
    have e1:un its (listed.setIfInBounds it.n true)=(un its listed).filter fun q=> !decide (q.n=it.n):=by
     simp only [un,List.filter_filter];apply List.filter_congr;intro q hq;rw [getD_set (by omega)]
     by_cases h:q.n=it.n<;>simp [h]
    rw [e1];refine List.length_filter_lt_length_iff_exists.2 ⟨it,mem_un.2 ⟨hit,h1⟩,by simp⟩
   have hcl':∀(i:Nat) (o:Oper) (k:Nat),ops[i]? =some o→(listed.setIfInBounds it.n true).getD i true=true→k<ops.size→(b.getD i 0).testBit k=true→(listed.setIfInBounds it.n true).getD k true=true:=by
    intro i2 o2 k2' ho2 hl2 hk2 hb2;rw [getD_set (by omega)]at hl2 ⊢;split
    ·rfl
    ·split at hl2
     ·rename_i e1
      subst e1;exact hdep k2' hk2 hb2
     ·exact hcl i2 o2 k2' ho2 hl2 hk2 hb2
   have hne:∀g∈its,listed.getD g.n true=true→g≠it:=by intro g _ hg e;subst e;rw [h1]at hg;cases hg
   have hset:∀g∈its,(listed.setIfInBounds it.n true).getD g.n true=if g=it then true else listed.getD g.n true:=by
    intro g hg;rw [getD_set (by omega)]
    by_cases h:g=it
    ·subst h;simp
    ·rw [if_neg (fun e=>h (hinj g hg it hit e)),if_neg h]
   obtain⟨pre,post,p,ps,e,hpost0,hrun,hps,hprel,hpostu,hA,hV⟩:=hS.ex;have hpre_in:∀g∈pre,g∈its:=fun g hg=>by rw [e];exact List.mem_append.2 (.inl hg)
   have hpost_in:∀g∈post,g∈its:=fun g hg=>by rw [e];exact List.mem_append.2 (.inr hg)
   have hrds:∀n∈it.i.rds,n∉(un pre listed).map dOf:=by
    intro n hn hm;obtain⟨g,hg,hgd⟩:=List.mem_map.1 hm;obtain⟨hg1,hg2⟩:=mem_un.1 hg
    have hgq:g.q=true:=by
     cases hq:g.q with
     |true=>rfl
     |false=>rw [hprel g hg1 hq]at hg2;cases hg2
    obtain⟨d,hd,_⟩:=hself g (hpre_in g hg1) hgq;have hdn:d=n:=by unfold dOf at hgd;rw [hd]at hgd;exact hgd
    subst hdn;have:=hrd g (hpre_in g hg1) hgq it hit d hd hn;obtain⟨_,_,_,hlt⟩:=hitem g (hpre_in g hg1);rw [hdep g.n hlt this]at hg2;cases hg2
   by_cases hin:it∈pre
   ·
    have hq:it.q=true:=by
     cases hq:it.q with
     |true=>rfl
     |false=>rw [hprel it hin hq]at h1;cases h1
    have hiu:it∈un pre listed:=mem_un.2 ⟨hin,h1⟩;have hv:=hV it hiu;rw [←hA.qv hrds]at hv;obtain⟨d,hd,hdr⟩:=hself it hit hq;have hdo:dOf it=d:=by unfold dOf;rw [hd];rfl
    refine stepC_sound hcal hM (hok it hit) h2 hres (step_of_qv (call:=call) (sg:=sg) hv) fun a' w' hM'=> ?_
    refine ih _ _ a' w' (by omega) (by simpa using hs) hcl' ⟨pre,post,p,ps,e,hpost0,hrun,hps, ?_, ?_, ?_, ?_⟩ hM'
    ·intro f hf hfq
     rw [hset f (hpre_in f hf)];split
     ·rfl
     ·exact hprel f hf hfq
    ·intro f hf
     rw [hset f (hpost_in f hf),if_neg]
     ·exact hpostu f hf
     ·intro e2
      subst e2
      have hnd:its.Pairwise fun f g=>f.n≠g.n∨f=g:=List.pairwise_of_forall_mem_list (fun f hf g hg=>by
       by_cases h:f.n=g.n
       ·exact .inr (hinj f hf g hg h)
       ·exact .inl h)
      have h5:=hnx;rw [e]at h5;have h6:=(List.pairwise_append.1 h5).2.2 f hin f hf hq d hd;exact h6.2 hd
    ·refine⟨fun n hn=> ?_, ?_, ?_,hA.dom⟩
     ·rw [hd,cput_get]
      split
      ·rename_i e2;rw [e2,hdo]
      ·rename_i hnd
       refine hA.get n fun hm=>hn ?_
       obtain⟨g,hg,hgd⟩:=List.mem_map.1 hm;obtain⟨hg1,hg2⟩:=mem_un.1 hg;refine List.mem_map.2 ⟨g,mem_un.2 ⟨hg1, ?_⟩,hgd⟩;rw [hset g (hpre_in g hg1),if_neg]
       ·exact hg2
       ·intro e2;subst e2;rw [hdo]at hgd;exact hnd hgd.symm
     ·cases it.i.dst<;>exact hA.ob
     ·cases it.i.dst<;>exact hA.tk
    ·intro f hf
     obtain⟨hf1,hf2⟩:=mem_un.1 hf;refine hV f (mem_un.2 ⟨hf1, ?_⟩);rw [hset f (hpre_in f hf1)]at hf2;split at hf2
     ·cases hf2
     ·exact hf2
   ·
    have hinp:it∈post:=by rw [e]at hit;exact(List.mem_append.1 hit).resolve_left hin
    obtain⟨f0,r,hpe,hf0⟩:∃f r,post=f::r∧f.q=false:=by
     rcases hpost0 with h|h
     ·subst h;cases hinp
     ·exact h
    have hit0:it=f0:=by
     rw [hpe]at hinp;rcases List.mem_cons.1 hinp with h|h
     ·exact h
     ·exfalso
      obtain⟨g,hg,hgb⟩:=hseg pre f0 r (by rw [e,hpe]) hf0 it h;have hgi:g∈post:=by rw [hpe];exact hg
      obtain⟨_,_,_,hlt⟩:=hitem g (hpost_in g hgi);have:=hdep g.n hlt hgb;rw [hpostu g hgi]at this;cases this
    subst hit0;subst hpe;obtain⟨n,q,i⟩:=it;simp only at hf0;subst hf0;simp only [fltC]at hrun;cases hs1:stepC call sg p i with
    |none=>rw [hs1]at hrun;simp [fltN]at hrun
    | some p1=>
     rw [hs1]at hrun;simp only [fltN]at hrun;cases hg:gdP (fchk (b.getD n 0) p1 ps) p1 with
     |none=>rw [hg]at hrun;simp [fltG]at hrun
     | some p1'=>
      rw [hg]at hrun;simp only [fltG]at hrun;obtain⟨hchk,rfl⟩:=gdP_some hg;obtain⟨c1,hc1,hA1⟩:=hA.step (hok _ hit) hrds hs1;refine stepC_sound hcal hM (hok _ hit) h2 hres hc1 fun a' w' hM'=> ?_
      have hsub:∀g∈un pre listed,g.q=true:=by
       intro g hg;obtain⟨hg1,hg2⟩:=mem_un.1 hg;cases hq:g.q with
       |true=>rfl
       |false=>rw [hprel g hg1 hq]at hg2;cases hg2
      have hnx':=hnx;rw [e]at hnx';have hpa:=List.pairwise_append.1 hnx'
      obtain⟨seg,post',p2,ps2,k1,k2,k3,k4,k5,k6,k7⟩:=advance (V:=un pre listed) hrun hA1 (fun f hf=>hok f (hpost_in f (List.mem_cons_of_mem _ hf))) (fun f hf=>hself f (hpost_in f (List.mem_cons_of_mem _ hf)))
       (List.pairwise_cons.1 hpa.2.1).2 (fun g hg f hf=>hpa.2.2 g (mem_un.1 hg).1 f (List.mem_cons_of_mem _ hf))
       (fun g hg=>by obtain⟨d,hd,_⟩:=hself g (hpre_in g (mem_un.1 hg).1) (hsub g hg);exact⟨d,hd⟩)
       (fun g hg=>by
        obtain⟨hg1,hg2⟩:=mem_un.1 hg;rcases fchk_mem hchk (hps g hg1 (hsub g hg))with h|h
        ·obtain⟨_,_,_,hlt⟩:=hitem g (hpre_in g hg1)
         rw [hdep g.n hlt h]at hg2;cases hg2
        ·exact h)
      have hun:un (pre++⟨n,false,i⟩::seg) (listed.setIfInBounds n true)=un pre listed++seg:=by
       unfold un;rw [List.filter_append,List.filter_cons];have e1:(listed.setIfInBounds n true).getD n true=true:=by rw [getD_set (by rw [hs];exact hi')];simp
       simp only [e1,Bool.not_true,Bool.false_eq_true,if_false]
       congr 1
       ·apply List.filter_congr
        intro g hg;have:=hset g (hpre_in g hg);simp only at this;rw [this,if_neg];intro e2;subst e2;exact hin hg
       ·apply List.filter_eq_self.2
        intro g hg;have hgi:g∈⟨n,false,i⟩::r:=by rw [k1];exact List.mem_cons_of_mem _ (List.mem_append.2 (.inl hg))
        have:=hset g (hpost_in g hgi);simp only at this;rw [this,if_neg]
        ·rw [hpostu g hgi];rfl
        ·intro e2;subst e2;have:=k2 _ hg;cases this
      refine ih _ _ a' w' (by omega) (by simpa using hs) hcl' ⟨pre++⟨n,false,i⟩::seg,post',p2,ps2,by rw [e,k1];simp,k3,k4, ?_, ?_, ?_, ?_, ?_⟩ hM'
      ·intro f hf hfq
       rcases List.mem_append.1 hf with h|h
       ·exact k5 f (.inl (hps f h hfq))
       ·rcases List.mem_cons.1 h with rfl|h
        ·cases hfq
        ·exact k5 f (.inr h)
      ·intro f hf hfq
       rcases List.mem_append.1 hf with h|h
       ·rw [hset f (hpre_in f h)]
        split
        ·rfl
        ·exact hprel f h hfq
       ·rcases List.mem_cons.1 h with rfl|h
        ·rw [hset _ hit,if_pos rfl]
        ·rw [k2 f h]at hfq;cases hfq
      ·intro f hf
       have hfi:f∈⟨n,false,i⟩::r:=by rw [k1];exact List.mem_cons_of_mem _ (List.mem_append.2 (.inr hf))
       rw [hset f (hpost_in f hfi),if_neg]
       ·exact hpostu f hfi
       ·intro e2
        subst e2;obtain⟨g,hg,hgb⟩:=hseg pre ⟨n,false,i⟩ r e rfl ⟨n,false,i⟩ (by rw [k1];exact List.mem_append.2 (.inr hf));obtain⟨_,_,_,hlt⟩:=hitem g (hpost_in g hg);have:=hdep g.n hlt hgb;rw [hpostu g hg]at this;cases this
      ·rw [hun,List.map_append]
       refine⟨fun m hm=>k6.get m (fun h=>hm ?_),k6.ob,k6.tk,k6.dom⟩;rw [List.mem_append]at h ⊢;exact h.symm
      ·rw [hun]
       intro f hf;exact k7 f (List.mem_append.1 hf)
end
theorem findF_mem {f:FI} (l:List FI) (h:(l.map FI.n).Nodup) (hf:f∈l):findF l f.n=f.i:=by
 induction l with
 |nil=>cases hf
 | cons g r ih=>
  simp only [List.map_cons,List.nodup_cons]at h;simp only [findF];rcases List.mem_cons.1 hf with rfl|hf
  ·rw [if_pos rfl]
  ·rw [if_neg,ih h.2 hf]
   intro e;apply h.1;rw [e];exact List.mem_map_of_mem hf
theorem seg_spec {b:List Nat} {s:Nat} (l:List FI):segOK b (some s) l=true→∀g∈l,(b.getD g.n 0).testBit s=true∨∃h∈l,(b.getD g.n 0).testBit h.n=true:=by
 induction l generalizing s with
 |nil=>intro _ g hg;cases hg
 | cons f r ih=>
  intro h g hg;simp only [segOK]at h;split at h
  ·simp only [Bool.and_eq_true,fltO]at h
   rcases List.mem_cons.1 hg with rfl|hg
   ·exact .inl h.1
   ·rcases ih h.2 g hg with h1|⟨k,hk,h1⟩
    ·exact .inl h1
    ·exact .inr ⟨k,List.mem_cons_of_mem _ hk,h1⟩
  ·simp only [Bool.and_eq_true,fltO]at h
   rcases List.mem_cons.1 hg with rfl|hg
   ·exact .inl h.1
   ·rcases ih h.2 g hg with h1|⟨k,hk,h1⟩
    ·exact .inr ⟨f,List.mem_cons_self ..,h1⟩
    ·exact .inr ⟨k,List.mem_cons_of_mem _ hk,h1⟩
theorem seg_at {b:List Nat}:∀ {pre:List FI} {s:Option Nat} {f:FI} {r:List FI},segOK b s (pre++f::r)=true→f.q=false→segOK b (some f.n) r=true
 |[],s,f,r,h,hf=>by simp only [List.nil_append,segOK,hf,Bool.false_eq_true,if_false,Bool.and_eq_true]at h;exact h.2
 |g::pre,s,f,r,h,hf=>by
  simp only [List.cons_append,segOK]at h;split at h
  ·rw [Bool.and_eq_true]at h;exact seg_at h.2 hf
  ·rw [Bool.and_eq_true]at h;exact seg_at h.2 hf
theorem pairs_spec {b:List Nat}:∀ {l:List FI},pairsOK b l=true→l.Pairwise fun p q=>(b.getD p.n 0).testBit q.n=false
 |[],_=>List.Pairwise.nil
 |p::r,h=>by simp only [pairsOK,Bool.and_eq_true,List.all_eq_true]at h;refine List.pairwise_cons.2 ⟨fun q hq=> ?_,pairs_spec h.2⟩;have:=h.1 q hq;simp only [pairOK,Bool.and_eq_true,Bool.not_eq_true',fltO]at this;exact this.1
theorem flt_sound (hcal:CallOK P call) {id:Nat} {ops:Array Oper} {its:List FI} (hl:mapO (resSI P ops) ops.toList=some (unF its)) (hd:drawn ops (unF its)=true) (hm:P.follows .mixedOrders=true)
 (hok:its.all (fun f=>f.i.ok N)=true) (hflt:fltOK (Region.before ops).toList its=true) {cF:CSt} {Q:Exit→Act→World→Prop} (hQ:∀a w,M C N cF a w→Q .normal a w) (hM:M C N c a w)
 (h:fltC call sg (Region.before ops).toList its [] c=some cF):(Code.region id ops true).wp P Q a w:=by
 simp only [fltOK,Bool.and_eq_true,decide_eq_true_eq,List.all_eq_true]at hflt;obtain⟨⟨⟨⟨⟨hseg,hpairs⟩,hfq⟩,hnd⟩,hlt⟩,hcov⟩:=hflt;simp only [fqOK,List.all_eq_true,Bool.or_eq_true,Bool.not_eq_true']at hfq;rw [List.all_eq_true]at hok;obtain⟨hlen,hget⟩:=mapO_get hl;have hul:(unF its).length=its.length:=by simp [unF]
 have hsz:its.length=ops.size:=by rw [←hul,hlen,Array.length_toList]
 have hun:∀f∈its,(unF its).getD f.n ⟨none,none,.lenC 0⟩=f.i:=by intro f hf;have:=hlt f hf;rw [List.getD_eq_getElem?_getD];simp only [unF,List.getElem?_map,List.getElem?_range this,Option.map_some,Option.getD_some];exact findF_mem _ hnd hf
 simp only [drawn,Bool.and_eq_true,decide_eq_true_eq]at hd;obtain⟨⟨hc,ht⟩,hdst⟩:=hd
 have hitem:∀f∈its,∃o,ops[f.n]? =some o∧resSI P ops o=some f.i∧f.n<ops.size:=by
  intro f hf;have hfl:=hlt f hf;have hj2:f.n<ops.toList.length:=by rw [Array.length_toList];omega
  refine⟨ops.toList[f.n],by rw [←Array.getElem?_toList,List.getElem?_eq_getElem hj2], ?_,by omega⟩;have h1:=hget f.n hj2 (by omega);rw [h1]
  congr 1
  have h2:=hun f hf;rwa [List.getD_eq_getElem?_getD,List.getElem?_eq_getElem (by omega),Option.getD_some]at h2
 have hinj:∀f∈its,∀g∈its,f.n=g.n→f=g:=by
  intro f hf g hg e;have:its.Pairwise fun f g=>f.n≠g.n:=by rw [List.Nodup,List.pairwise_map]at hnd;exact hnd
  rw [List.pairwise_iff_getElem]at this;obtain⟨i,hi,rfl⟩:=List.mem_iff_getElem.1 hf;obtain⟨j,hj,rfl⟩:=List.mem_iff_getElem.1 hg;rcases Nat.lt_trichotomy i j with h|h|h
  ·exact absurd e (this i j hi hj h)
  ·subst h;rfl
  ·exact absurd e.symm (this j i hj hi h)
 have hdd:∀f∈its,∀g∈its,f.n≠g.n→∀d,f.i.dst=some d→g.i.dst≠some d:=by
  have main:∀f∈its,∀g∈its,f.n<g.n→∀d,f.i.dst=some d→g.i.dst≠some d:=by
   intro f hf g hg hlt' d h1 h2
   have hpl:(unF its).Pairwise fun u v=>∀d,u.dst=some d→v.dst≠some d:=by rw [List.Nodup,List.pairwise_filterMap]at hdst;refine hdst.imp ?_;intro u v huv d hu hv;exact huv d hu d hv rfl
   rw [List.pairwise_iff_getElem]at hpl;have hf':=hlt f hf;have hg':=hlt g hg
   have g1:(unF its)[f.n]'(by omega)=f.i:=by have:=hun f hf;rwa [List.getD_eq_getElem?_getD,List.getElem?_eq_getElem (by omega),Option.getD_some]at this
   have g2:(unF its)[g.n]'(by omega)=g.i:=by have:=hun g hg;rwa [List.getD_eq_getElem?_getD,List.getElem?_eq_getElem (by omega),Option.getD_some]at this
   exact hpl f.n g.n (by omega) (by omega) hlt' d (by rw [g1];exact h1) (by rw [g2];exact h2)
  intro f hf g hg hne d h1 h2;rcases Nat.lt_or_ge f.n g.n with h|h
  ·exact main f hf g hg h d h1 h2
  ·exact main g hg f hf (by omega) d h2 h1
 have hclosed:∀(i:Nat) (o:Oper),ops[i]? =some o→(∀e∈o.after,Region.binds .any e=true→e.on<i)∧
  ∀k,k<ops.size→((Region.before ops).toList.getD i 0).testBit k=true→∃e∈o.after,Region.binds .any e=true∧(e.on=k∨((Region.before ops).toList.getD e.on 0).testBit k=true):=by
  intro i o ho;unfold closedOK at hc;rw [List.all_eq_true]at hc;have hi:i<ops.size:=(Array.getElem?_eq_some_iff.1 ho).1
  have h1:=hc (o,i) (by rw [List.mem_zipIdx_iff_getElem?];simpa using ho)
  simp only [Bool.and_eq_true,Array.all_eq_true_iff_forall_mem,List.all_eq_true,Bool.or_eq_true,Bool.not_eq_true',decide_eq_true_eq]at h1;refine⟨fun e he hb=>(h1.1 e he).resolve_left (by simp [hb]),fun k hk hb=> ?_⟩;have h2:=(h1.2 k (List.mem_range.2 hk)).resolve_left (by simp only [hb];simp);obtain⟨_,h3⟩:=h2;rw [←Array.any_toList,List.any_eq_true]at h3;obtain⟨e,he,h4⟩:=h3;rw [Array.mem_toList_iff]at he;simp only [Bool.and_eq_true,Bool.or_eq_true,beq_iff_eq]at h4;exact⟨e,he,h4.1,h4.2⟩
 have hq:∀q∈its,q.q=true→∃d,q.i.dst=some d∧∀p∈its,d∈p.i.rds→((Region.before ops).toList.getD p.n 0).testBit q.n=true∧p.n≠q.n:=by
  intro q hq hqq;have h1:=(hfq q hq).resolve_left (by rw [hqq];simp);cases hd:q.i.dst with
  |none=>rw [hd]at h1;cases h1
  |some d=>
   rw [hd]at h1;simp only [List.all_eq_true,Bool.or_eq_true,Bool.not_eq_true',Bool.and_eq_true,decide_eq_true_eq,fltO]at h1;refine⟨d,rfl,fun p hp hr=> ?_⟩;rcases h1 p hp with h2|h2
   ·rw [List.contains_eq_mem]at h2;simp only [decide_eq_false_iff_not]at h2;exact absurd hr h2
   ·exact h2
 have hself:∀f∈its,Selfs f:=by intro f hf hfq;obtain⟨d,hd,h1⟩:=hq f hf hfq;exact⟨d,hd,fun h=>(h1 f hf h).2 rfl⟩
 have hrd:∀q∈its,q.q=true→∀p∈its,∀d,q.i.dst=some d→d∈p.i.rds→((Region.before ops).toList.getD p.n 0).testBit q.n=true:=by intro q hq' hqq p hp d hd hr;obtain⟨d',hd',h1⟩:=hq q hq' hqq;rw [hd']at hd;cases hd;exact(h1 p hp hr).1
 have hnx:its.Pairwise Nx:=by
  have h1:its.Pairwise fun f g=>f.n≠g.n:=by rw [List.Nodup,List.pairwise_map]at hnd;exact hnd
  refine((pairs_spec hpairs).and h1).imp_of_mem ?_;rintro p q hp hq' ⟨h2,h3⟩ hqq d hd;refine⟨fun hr=> ?_,fun e=>hdd p hp q hq' h3 d e hd⟩;rw [hrd q hq' hqq p hp d hd hr]at h2;cases h2
 obtain⟨seg,post,p2,ps2,k1,k2,k3,k4,k5,k6,k7⟩:=advance (N:=N) (D:=[]) (V:=[]) h ⟨fun _ _=>rfl,rfl,rfl,by obtain⟨x,s,_,hS⟩:=hM;exact hS.inv.dom⟩ (fun f hf=>hok f hf) hself hnx (by simp) (by simp) (by simp)
 have hfalse:∀f∈its,(Array.replicate ops.size false).getD f.n true=false:=by
  intro f hf;have:=hlt f hf;have:f.n<ops.size:=by omega
  simp [Array.getD,this]
 have hunf:un seg (Array.replicate ops.size false)=seg:=by apply List.filter_eq_self.2;intro f hf;rw [hfalse f (by rw [k1];exact List.mem_append.2 (.inl hf))];rfl
 refine wp_region_any hm ?_
 refine float_loop (its:=its) (b:=(Region.before ops).toList) (cF:=cF) (sg:=sg) hcal hitem (fun j hj=> ?_) hinj (fun i o ho=>(hclosed i o ho).1) (fun i o k ho hk hb=>(hclosed i o ho).2 k hk hb) (fun f hf=>hok f hf) hself hnx hrd
  (fun pre f r e hf g hg=> ?_) hdd hQ ops.size _ c a _ ?_ (by simp) ?_ ⟨seg,post,p2,ps2,k1,k3,k4,fun f hf _=>k5 f (.inr hf),(fun f hf hq=>by rw [k2 f hf]at hq;cases hq),fun f hf=>hfalse f (by rw [k1];exact List.mem_append.2 (.inr hf)), ?_, ?_⟩ ?_
 ·have:=hcov j (List.mem_range.2 (by omega))
  rw [List.contains_eq_mem]at this;simp only [decide_eq_true_eq]at this;obtain⟨f,hf,e⟩:=List.mem_map.1 this;exact⟨f,hf,e⟩
 ·rw [e]at hseg
  rcases seg_spec _ (seg_at hseg hf) g hg with h1|⟨k,hk,h1⟩
  ·exact⟨f,List.mem_cons_self ..,h1⟩
  ·exact⟨k,List.mem_cons_of_mem _ hk,h1⟩
 ·have:(un its (Array.replicate ops.size false)).length≤its.length:=List.length_filter_le _ _
  omega
 ·intro i o k ho hl _ _
  have hi:i<ops.size:=(Array.getElem?_eq_some_iff.1 ho).1;simp [Array.getD,hi]at hl
 ·rw [hunf];simpa using k6
 ·rw [hunf];intro f hf;exact k7 f (.inr hf)
 ·obtain⟨x,s,hMo,hS⟩:=hM
  exact⟨x,s,⟨hMo.tm,hMo.defers,hMo.heap.drawn _⟩,hS⟩
end Go.Sy
namespace Go.Sy
variable [LaidData]
variable {P : Program} {C : Ctx} {x : Sit} {a : Act} {w : World} {N : Nat} {c c' : CSt} {s : St} {call : CallF} {sg : Nat → Sig}
variable {ops : Array Oper} {its σ : List FI} {b : List Nat} {cF : CSt} {listed : Array Bool}
structure Itms (P:Program) (N:Nat) (ops:Array Oper) (its:List FI) (b:List Nat):Prop where
 item:∀f∈its,∃o,ops[f.n]? =some o∧resSI P ops o=some f.i∧f.n<ops.size
 ex:∀j,j<ops.size→∃f∈its,f.n=j
 inj:∀f∈its,∀g∈its,f.n=g.n→f=g
 back:∀(i:Nat) (o:Oper),ops[i]? =some o→∀e∈o.after,Region.binds .any e=true→e.on<i
 bit:∀(i:Nat) (o:Oper) (k:Nat),ops[i]? =some o→k<ops.size→(b.getD i 0).testBit k=true→∃e∈o.after,Region.binds .any e=true∧(e.on=k∨(b.getD e.on 0).testBit k=true)
 ok:∀f∈its,f.i.ok N=true
 self:∀f∈its,Selfs f
 rd:∀q∈its,q.q=true→∀p∈its,∀d,q.i.dst=some d→d∈p.i.rds→(b.getD p.n 0).testBit q.n=true
structure Ords (its:List FI) (b:List Nat) (σ:List FI):Prop where
 mem:∀f,f∈σ↔f∈its
 nd:(σ.map FI.n).Nodup
 nx:σ.Pairwise Nx
 seg:∀pre f r,σ=pre++f::r→f.q=false→∀g∈r,g.q=true→∃h∈f::r,(b.getD g.n 0).testBit h.n=true
open Classical in
theorem set_get (hs:listed.size=ops.size) {it g:FI} (I:Itms P N ops its b) (hit:it∈its) (hg:g∈its) (hi:it.n<ops.size):(listed.setIfInBounds it.n true).getD g.n true=if g=it then true else listed.getD g.n true:=by
 rw [getD_set (by omega)]
 by_cases h:g=it
 ·subst h;simp
 ·rw [if_neg (fun e=>h (I.inj g hg it hit e)),if_neg h]
theorem hrds_of (I:Itms P N ops its b) (O:Ords its b σ) {pre:List FI} {it:FI} (hit:it∈its) (hpre:∀g∈pre,g∈its) (hprel:∀f∈pre,f.q=false→listed.getD f.n true=true)
 (hdep:∀k,k<ops.size→(b.getD it.n 0).testBit k=true→listed.getD k true=true):∀n∈it.i.rds,n∉(un pre listed).map dOf:=by
 intro n hn hm;obtain⟨g,hg,hgd⟩:=List.mem_map.1 hm;obtain⟨hg1,hg2⟩:=mem_un.1 hg
 have hgq:g.q=true:=by
  cases hq:g.q with
  |true=>rfl
  |false=>rw [hprel g hg1 hq]at hg2;cases hg2
 obtain⟨d,hd,_⟩:=I.self g (hpre g hg1) hgq;have hdn:d=n:=by unfold dOf at hgd;rw [hd]at hgd;exact hgd
 subst hdn;have:=I.rd g (hpre g hg1) hgq it hit d hd hn;obtain⟨_,_,_,hlt⟩:=I.item g (hpre g hg1);rw [hdep g.n hlt this]at hg2;cases hg2
theorem stage_q (hs:listed.size=ops.size) (I:Itms P N ops its b) (O:Ords its b σ) (hS:Stage call sg N b σ cF listed c) {it:FI} (hit:it∈its) (h1:listed.getD it.n true=false) (hq:it.q=true)
 (hdep:∀k,k<ops.size→(b.getD it.n 0).testBit k=true→listed.getD k true=true):
 ∃v,qv c it.i=some v∧Stage call sg N b σ cF (listed.setIfInBounds it.n true) (c.put it.i.dst v):=by
 classical
 obtain⟨_,_,_,hi'⟩:=I.item it hit;have hset:∀g∈its,(listed.setIfInBounds it.n true).getD g.n true=if g=it then true else listed.getD g.n true:=fun g hg=>set_get hs I hit hg hi'
 obtain⟨pre,post,p,ps,e,hpost0,hrun,hps,hprel,hpostu,hA,hV⟩:=hS.ex;have hpre_in:∀g∈pre,g∈its:=fun g hg=>(O.mem g).1 (by rw [e];exact List.mem_append.2 (.inl hg))
 have hpost_in:∀g∈post,g∈its:=fun g hg=>(O.mem g).1 (by rw [e];exact List.mem_append.2 (.inr hg))
 have hrds:=hrds_of (listed:=listed) I O hit hpre_in hprel hdep
 have hin:it∈pre:=by
  have h2:=(O.mem it).2 hit;rw [e]at h2;rcases List.mem_append.1 h2 with h3|h3
  ·exact h3
  ·exfalso
   rcases hpost0 with h4|⟨f0,r,h4,hf0⟩
   ·rw [h4]at h3;cases h3
   ·have h5:it∈r:=by
     rw [h4]at h3;rcases List.mem_cons.1 h3 with h|h
     ·rw [h,hf0]at hq;cases hq
     ·exact h
    obtain⟨g,hg,hgb⟩:=O.seg pre f0 r (by rw [e,h4]) hf0 it h5 hq;have hgi:g∈post:=by rw [h4];exact hg
    obtain⟨_,_,_,hlt⟩:=I.item g (hpost_in g hgi);have:=hdep g.n hlt hgb;rw [hpostu g hgi]at this;cases this
 have hiu:it∈un pre listed:=mem_un.2 ⟨hin,h1⟩;have hv:=hV it hiu;rw [←hA.qv hrds]at hv;obtain⟨d,hd,hdr⟩:=I.self it hit hq;have hdo:dOf it=d:=by unfold dOf;rw [hd];rfl
 refine⟨_,hv,⟨pre,post,p,ps,e,hpost0,hrun,hps, ?_, ?_, ?_, ?_⟩⟩
 ·intro f hf hfq
  rw [hset f (hpre_in f hf)];split
  ·rfl
  ·exact hprel f hf hfq
 ·intro f hf
  rw [hset f (hpost_in f hf),if_neg]
  ·exact hpostu f hf
  ·intro e2
   subst e2;have h5:=O.nx;rw [e]at h5;have h6:=(List.pairwise_append.1 h5).2.2 f hin f hf hq d hd;exact h6.2 hd
 ·refine⟨fun n hn=> ?_, ?_, ?_,hA.dom⟩
  ·rw [hd,cput_get]
   split
   ·rename_i e2;rw [e2,hdo]
   ·rename_i hnd
    refine hA.get n fun hm=>hn ?_
    obtain⟨g,hg,hgd⟩:=List.mem_map.1 hm;obtain⟨hg1,hg2⟩:=mem_un.1 hg;refine List.mem_map.2 ⟨g,mem_un.2 ⟨hg1, ?_⟩,hgd⟩;rw [hset g (hpre_in g hg1),if_neg]
    ·exact hg2
    ·intro e2;subst e2;rw [hdo]at hgd;exact hnd hgd.symm
  ·cases it.i.dst<;>exact hA.ob
  ·cases it.i.dst<;>exact hA.tk
 ·intro f hf
  obtain⟨hf1,hf2⟩:=mem_un.1 hf;refine hV f (mem_un.2 ⟨hf1, ?_⟩);rw [hset f (hpre_in f hf1)]at hf2;split at hf2
  ·cases hf2
  ·exact hf2
theorem chgs_app (l r:List FI):chgs (l++r)=chgs l++chgs r:=List.filterMap_append
theorem chgs_none {l:List FI} (h:∀f∈l,f.q=true):chgs l=[]:=by unfold chgs;rw [List.filterMap_eq_nil_iff];intro f hf;rw [h f hf];rfl
theorem mem_chgs {l:List FI} {k:Nat}:k∈chgs l↔∃f∈l,f.q=false∧f.n=k:=by
 unfold chgs;rw [List.mem_filterMap];constructor
 ·rintro⟨f,hf,h⟩
  cases hq:f.q with
  |true=>rw [hq]at h;cases h
  |false=>rw [hq]at h;exact⟨f,hf,hq,by simpa using h⟩
 ·rintro⟨f,hf,hq,rfl⟩;exact⟨f,hf,by rw [hq];rfl⟩
theorem chgs_filter (k:Nat):∀l:List FI,chgs (l.filter fun q=> !decide (q.n=k))=(chgs l).filter fun x=> !decide (x=k)
 |[]=>rfl
 | f::r=>by
  have ih:=chgs_filter k r;rw [List.filter_cons]
  by_cases h:f.n=k
  ·cases hq:f.q with
   |true=>simp only [h,decide_true,Bool.not_true,Bool.false_eq_true,if_false,ih];simp [chgs,hq]
   |false=>simp only [h,decide_true,Bool.not_true,Bool.false_eq_true,if_false,ih];simp [chgs,hq,h]
  ·cases hq:f.q with
   |true=>simp only [h,decide_false,Bool.not_false,if_true];simp only [chgs,List.filterMap_cons,hq,if_true]at ih ⊢;exact ih
   |false=>simp only [h,decide_false,Bool.not_false,if_true];simp only [chgs,List.filterMap_cons,hq,Bool.false_eq_true,if_false,List.filter_cons,h,decide_false,Bool.not_false,if_true]at ih ⊢;rw [ih]
theorem un_set (hs:listed.size=ops.size) {k:Nat} (hk:k<ops.size) (σ:List FI):un σ (listed.setIfInBounds k true)=(un σ listed).filter fun q=> !decide (q.n=k):=by
 simp only [un,List.filter_filter];apply List.filter_congr;intro q hq;rw [getD_set (by omega)]
 by_cases h:q.n=k<;>simp [h]
theorem stage_n (hs:listed.size=ops.size) (I:Itms P N ops its b) (O:Ords its b σ) (hS:Stage call sg N b σ cF listed c) {it:FI} (hit:it∈its) (h1:listed.getD it.n true=false) (hq:it.q=false)
 (hdep:∀k,k<ops.size→(b.getD it.n 0).testBit k=true→listed.getD k true=true) (hh:(chgs (un σ listed)).head? =some it.n):
 ∃c1,stepC call sg c it.i=some c1∧Stage call sg N b σ cF (listed.setIfInBounds it.n true) c1:=by
 classical
 obtain⟨_,_,_,hi'⟩:=I.item it hit;have hset:∀g∈its,(listed.setIfInBounds it.n true).getD g.n true=if g=it then true else listed.getD g.n true:=fun g hg=>set_get hs I hit hg hi'
 obtain⟨pre,post,p,ps,e,hpost0,hrun,hps,hprel,hpostu,hA,hV⟩:=hS.ex;have hpre_in:∀g∈pre,g∈its:=fun g hg=>(O.mem g).1 (by rw [e];exact List.mem_append.2 (.inl hg))
 have hpost_in:∀g∈post,g∈its:=fun g hg=>(O.mem g).1 (by rw [e];exact List.mem_append.2 (.inr hg))
 have hrds:=hrds_of (listed:=listed) I O hit hpre_in hprel hdep
 have hsub:∀g∈un pre listed,g.q=true:=by
  intro g hg;obtain⟨hg1,hg2⟩:=mem_un.1 hg;cases hq:g.q with
  |true=>rfl
  |false=>rw [hprel g hg1 hq]at hg2;cases hg2
 have hup:un post listed=post:=List.filter_eq_self.2 fun f hf=>by rw [hpostu f hf];rfl
 have hu:chgs (un σ listed)=chgs post:=by
  have:un σ listed=un pre listed++un post listed:=by rw [e];exact List.filter_append ..
  rw [this,chgs_app,chgs_none hsub,hup];rfl
 rw [hu]at hh
 obtain⟨f0,r,hpe,hf0⟩:∃f r,post=f::r∧f.q=false:=by
  rcases hpost0 with h|h
  ·rw [h]at hh;cases hh
  ·exact h
 have hit0:it=f0:=by
  rw [hpe]at hh;have h2:chgs (f0::r)=f0.n::chgs r:=by simp [chgs,hf0]
  rw [h2]at hh;simp only [List.head?_cons,Option.some.injEq]at hh;exact I.inj it hit f0 (hpost_in f0 (by rw [hpe];exact List.mem_cons_self ..)) hh.symm
 subst hit0;subst hpe
 have hnd:(pre++it::r).Pairwise fun f g=>f.n≠g.n:=by have:=O.nd;rw [e,List.Nodup,List.pairwise_map]at this;exact this
 obtain⟨n,q,i⟩:=it;simp only at hf0;subst hf0;simp only [fltC]at hrun;cases hs1:stepC call sg p i with
 |none=>rw [hs1]at hrun;simp [fltN]at hrun
 | some p1=>
  rw [hs1]at hrun;simp only [fltN]at hrun;cases hg:gdP (fchk (b.getD n 0) p1 ps) p1 with
  |none=>rw [hg]at hrun;simp [fltG]at hrun
  | some p1'=>
   rw [hg]at hrun;simp only [fltG]at hrun;obtain⟨hchk,rfl⟩:=gdP_some hg;obtain⟨c1,hc1,hA1⟩:=hA.step (I.ok _ hit) hrds hs1;refine⟨c1,hc1, ?_⟩;have hnx':=O.nx;rw [e]at hnx';have hpa:=List.pairwise_append.1 hnx'
   obtain⟨seg,post',p2,ps2,k1,k2,k3,k4,k5,k6,k7⟩:=advance (V:=un pre listed) hrun hA1 (fun f hf=>I.ok f (hpost_in f (List.mem_cons_of_mem _ hf))) (fun f hf=>I.self f (hpost_in f (List.mem_cons_of_mem _ hf)))
    (List.pairwise_cons.1 hpa.2.1).2 (fun g hg f hf=>hpa.2.2 g (mem_un.1 hg).1 f (List.mem_cons_of_mem _ hf))
    (fun g hg=>by obtain⟨d,hd,_⟩:=I.self g (hpre_in g (mem_un.1 hg).1) (hsub g hg);exact⟨d,hd⟩)
    (fun g hg=>by
     obtain⟨hg1,hg2⟩:=mem_un.1 hg;rcases fchk_mem hchk (hps g hg1 (hsub g hg))with h|h
     ·obtain⟨_,_,_,hlt⟩:=I.item g (hpre_in g hg1)
      rw [hdep g.n hlt h]at hg2;cases hg2
     ·exact h)
   have hnp:∀g∈pre,g≠⟨n,false,i⟩:=fun g hg e2=>by have:=(List.pairwise_append.1 hnd).2.2 g hg _ (List.mem_cons_self ..);rw [e2]at this;exact this rfl
   have hnr:∀g∈r,g≠⟨n,false,i⟩:=fun g hg e2=>by have:=(List.pairwise_cons.1 (List.pairwise_append.1 hnd).2.1).1 g hg;rw [e2]at this;exact this rfl
   have hun:un (pre++⟨n,false,i⟩::seg) (listed.setIfInBounds n true)=un pre listed++seg:=by
    unfold un;rw [List.filter_append,List.filter_cons];have e1:(listed.setIfInBounds n true).getD n true=true:=by rw [getD_set (by rw [hs];exact hi')];simp
    simp only [e1,Bool.not_true,Bool.false_eq_true,if_false]
    congr 1
    ·apply List.filter_congr
     intro g hg;have:=hset g (hpre_in g hg);simp only at this;rw [this,if_neg (hnp g hg)]
    ·apply List.filter_eq_self.2
     intro g hg;have hgr:g∈r:=by rw [k1];exact List.mem_append.2 (.inl hg)
     have hgi:g∈⟨n,false,i⟩::r:=List.mem_cons_of_mem _ hgr;have:=hset g (hpost_in g hgi);simp only at this;rw [this,if_neg (hnr g hgr),hpostu g hgi];rfl
   refine⟨pre++⟨n,false,i⟩::seg,post',p2,ps2,by rw [e,k1];simp,k3,k4, ?_, ?_, ?_, ?_, ?_⟩
   ·intro f hf hfq
    rcases List.mem_append.1 hf with h|h
    ·exact k5 f (.inl (hps f h hfq))
    ·rcases List.mem_cons.1 h with rfl|h
     ·cases hfq
     ·exact k5 f (.inr h)
   ·intro f hf hfq
    rcases List.mem_append.1 hf with h|h
    ·rw [hset f (hpre_in f h)]
     split
     ·rfl
     ·exact hprel f h hfq
    ·rcases List.mem_cons.1 h with rfl|h
     ·rw [hset _ hit,if_pos rfl]
     ·rw [k2 f h]at hfq;cases hfq
   ·intro f hf
    have hfr:f∈r:=by rw [k1];exact List.mem_append.2 (.inr hf)
    have hfi:f∈⟨n,false,i⟩::r:=List.mem_cons_of_mem _ hfr;rw [hset f (hpost_in f hfi),if_neg (hnr f hfr)];exact hpostu f hfi
   ·rw [hun,List.map_append]
    refine⟨fun m hm=>k6.get m (fun h=>hm ?_),k6.ob,k6.tk,k6.dom⟩;rw [List.mem_append]at h ⊢;exact h.symm
   ·rw [hun]
    intro f hf;exact k7 f (List.mem_append.1 hf)
theorem cov_step {k:Nat} {g:Nat} {A:List (List Nat)} (h:covOK b k A=true) (hg:∀l,A.head? =some l→g∈l) (hr:∀l,A.head? =some l→∀x∈l,x≠g→(b.getD g 0).testBit x=false):
 ∃k',covOK b k' (A.filterMap fun p=>match p with|x::r=>if x=g then some r else none|[]=>none)=true:=by
 cases A with
 |nil=>cases k<;>simp [covOK]at h
 | cons l A=>
  cases l with
  |nil=>have:=hg [] rfl;cases this
  | cons y t=>
   cases k with
   |zero=>simp [covOK]at h
   | succ k=>
    simp only [covOK,List.all_eq_true]at h;have h1:=h g (hg _ rfl);rw [Bool.or_eq_true]at h1;rcases h1 with h1|h1
    ·exfalso
     rw [List.any_eq_true]at h1;obtain⟨x,hx,h2⟩:=h1;rw [Bool.and_eq_true]at h2;have h3:=of_decide_eq_true h2.1;have:=hr _ rfl x hx h3;unfold fltO at h2;rw [h2.2]at this;cases this
    ·exact⟨k,h1⟩
theorem alive_map {R R':List FI→List Nat} {g:Nat}:∀ {A:List (List FI)},(∀σ∈A,∀r,R σ=g::r→R' σ=r)→
 (A.filter fun σ=>decide ((R σ).head? =some g)).map R'=(A.map R).filterMap fun p=>match p with|x::r=>if x=g then some r else none|[]=>none
 |[],_=>rfl
 | σ::A,h=>by
  have ih:=alive_map (R:=R) (R':=R') (g:=g) (A:=A) fun τ hτ=>h τ (List.mem_cons_of_mem _ hτ)
  have h0:=h σ (List.mem_cons_self ..);rw [List.filter_cons,List.map_cons,List.filterMap_cons];cases hR:R σ with
  |nil=>simp only [List.head?_nil,reduceCtorEq,decide_false,Bool.false_eq_true,if_false];exact ih
  | cons y t=>
   by_cases hy:y=g
   ·subst hy
    simp only [List.head?_cons,decide_true,if_true,List.map_cons,h0 t hR];rw [ih]
   ·have:¬(some y=some g):=fun e=>hy (by injection e)
    simp only [List.head?_cons,this,decide_false,Bool.false_eq_true,if_false,hy];exact ih
theorem alt_loop (hcal:CallOK P call) (I:Itms P N ops its b) {ords:List (List FI)} (hO:∀σ∈ords,Ords its b σ) {Q:Exit→Act→World→Prop} (hQ:∀a w,M C N cF a w→Q .normal a w):
 ∀ (fuel:Nat) (listed:Array Bool) (c:CSt) (a:Act) (w:World) (A:List (List FI)) (k:Nat),(un its listed).length≤fuel→listed.size=ops.size→
   (∀(i:Nat) (o:Oper) (k:Nat),ops[i]? =some o→listed.getD i true=true→k<ops.size→(b.getD i 0).testBit k=true→listed.getD k true=true)→
   (∀σ∈A,σ∈ords∧Stage call sg N b σ cF listed c)→covOK b k (A.map fun σ=>chgs (un σ listed))=true→M C N c a w→wpAny P .any ops Q fuel listed a w:=by
 classical
 have hd2:∀(listed:Array Bool),listed.size=ops.size→∀k,k<ops.size→listed.getD k false=listed.getD k true:=by intro listed hs k hk;simp [Array.getD,hs,hk]
 have done:∀(listed:Array Bool) (c:CSt) (a:Act) (w:World) (A:List (List FI)) (k:Nat),un its listed=[]→(∀σ∈A,σ∈ords∧Stage call sg N b σ cF listed c)→covOK b k (A.map fun σ=>chgs (un σ listed))=true→M C N c a w→Region.ready .any ops listed=[]∧Q .normal a w:=by
  intro listed c a w A k h0 hA' hcov hM;constructor
  ·rw [List.eq_nil_iff_forall_not_mem]
   intro j hj;obtain⟨h1,o,h2,h3⟩:=mem_ready.1 hj;have hj':j<ops.size:=(Array.getElem?_eq_some_iff.1 h2).1;obtain⟨it,hit,rfl⟩:=I.ex j hj';have:it∈un its listed:=mem_un.2 ⟨hit,h1⟩;rw [h0]at this;cases this
  ·cases A with
   |nil=>cases k<;>simp [covOK]at hcov
   | cons σ A=>
    obtain⟨hσ,hS⟩:=hA' σ (List.mem_cons_self ..)
    have h0':un σ listed=[]:=by rw [List.eq_nil_iff_forall_not_mem];intro f hf;obtain⟨h1,h2⟩:=mem_un.1 hf;have:f∈un its listed:=mem_un.2 ⟨((hO σ hσ).mem f).1 h1,h2⟩;rw [h0]at this;cases this
    obtain⟨pre,post,p,ps,e,hp,hrun,_,_,hpost,hA,_⟩:=hS.ex
    have hp0:post=[]:=by
     cases post with
     |nil=>rfl
     |cons f r=>have:f∈un σ listed:=mem_un.2 ⟨by rw [e];simp,hpost f (List.mem_cons_self ..)⟩;rw [h0']at this;cases this
    subst hp0;simp only [fltC,Option.some.injEq]at hrun;subst hrun;have hD:un pre listed=[]:=by rw [←h0',e,List.append_nil]
    rw [hD]at hA;refine hQ a w ?_;obtain⟨x,s,hMo,hSi⟩:=hM;refine M.slots (c:=c) ⟨x,s,hMo,hSi⟩ ⟨hA.dom,by rw [←hA.ob];exact hSi.inv.so,by rw [←hA.ob];exact hSi.inv.wf⟩ hA.ob.symm hA.tk.symm (fun i=> .inl (hA.get i (by simp)).symm)
 intro fuel;induction fuel with
 |zero=>intro listed c a w A k hf hs hcl hS hcov hM;exact done listed c a w A k (List.length_eq_zero_iff.1 (by omega)) hS hcov hM
 | succ fuel ih=>
  intro listed c a w A k hf hs hcl hS hcov hM;constructor
  ·intro hnil
   by_cases h0:un its listed=[]
   ·exact(done listed c a w A k h0 hS hcov hM).2
   ·exfalso
    have hp:∃n,∃f∈un its listed,f.n=n:=by
     cases hc:un its listed with
     |nil=>exact absurd hc h0
     |cons f r=>exact⟨_,f,List.mem_cons_self ..,rfl⟩
    obtain⟨n,⟨f,hfu,hfn⟩,hmin⟩:=least _ hp;obtain⟨h1,h2⟩:=mem_un.1 hfu;obtain⟨o,h3,_,h4⟩:=I.item f h1
    have:f.n∈Region.ready .any ops listed:=by refine mem_ready.2 ⟨h2,o,h3,fun e he hb=> ?_⟩;have hlt:=I.back f.n o h3 e he hb;rw [hd2 listed hs _ (by omega),←Bool.not_eq_false];intro hfl;obtain⟨g,hg,hgn⟩:=I.ex e.on (by omega);have:=hmin e.on ⟨g,mem_un.2 ⟨hg,by rw [hgn];exact hfl⟩,hgn⟩;omega
    rw [hnil]at this;cases this
  ·intro i hir
   obtain⟨h1,o,h2,h3⟩:=mem_ready.1 hir;have hi':i<ops.size:=(Array.getElem?_eq_some_iff.1 h2).1;obtain⟨it,hit,rfl⟩:=I.ex i hi';obtain⟨o',ho',hres,_⟩:=I.item it hit;rw [h2]at ho';cases ho'
   have hdep:∀k,k<ops.size→(b.getD it.n 0).testBit k=true→listed.getD k true=true:=by
    intro k hk hb;obtain⟨e,he,hbd,hor⟩:=I.bit it.n o k h2 hk hb;have hon:=h3 e he hbd;have honlt:=I.back it.n o h2 e he hbd;rw [hd2 listed hs _ (by omega)]at hon;rcases hor with h|h
    ·rw [←h];exact hon
    ·exact hcl e.on (ops[e.on]'(by omega)) k (by simp) hon hk h
   have hlen:(un its (listed.setIfInBounds it.n true)).length<(un its listed).length:=by rw [un_set hs hi'];refine List.length_filter_lt_length_iff_exists.2 ⟨it,mem_un.2 ⟨hit,h1⟩,by simp⟩
   have hcl':∀(i:Nat) (o:Oper) (k:Nat),ops[i]? =some o→(listed.setIfInBounds it.n true).getD i true=true→k<ops.size→(b.getD i 0).testBit k=true→(listed.setIfInBounds it.n true).getD k true=true:=by
    intro i2 o2 k2' ho2 hl2 hk2 hb2;rw [getD_set (by omega)]at hl2 ⊢;split
    ·rfl
    ·split at hl2
     ·rename_i e1
      subst e1;exact hdep k2' hk2 hb2
     ·exact hcl i2 o2 k2' ho2 hl2 hk2 hb2
   have hsz:(listed.setIfInBounds it.n true).size=ops.size:=by simpa using hs
   obtain⟨σ0,A0,hA0⟩:∃σ A',A=σ::A':=by
    cases A with
    |nil=>cases k<;>simp [covOK]at hcov
    |cons σ A'=>exact⟨σ,A',rfl⟩
   cases hq:it.q with
   | true=>
    obtain⟨hσ0,hS0⟩:=hS σ0 (by rw [hA0];exact List.mem_cons_self ..);obtain⟨v,hv,_⟩:=stage_q hs I (hO σ0 hσ0) hS0 hit h1 hq hdep;refine stepC_sound hcal hM (I.ok it hit) h2 hres (step_of_qv (call:=call) (sg:=sg) hv) fun a' w' hM'=> ?_
    refine ih _ _ a' w' A k (by omega) hsz hcl' (fun σ hσ=>⟨(hS σ hσ).1, ?_⟩) ?_ hM'
    ·obtain⟨v',hv',hS'⟩:=stage_q hs I (hO σ (hS σ hσ).1) (hS σ hσ).2 hit h1 hq hdep
     rw [hv]at hv';injection hv' with e;subst e
     exact hS'
    ·have:(A.map fun σ=>chgs (un σ (listed.setIfInBounds it.n true)))=A.map fun σ=>chgs (un σ listed):=by
      apply List.map_congr_left;intro σ hσ;rw [un_set hs hi',chgs_filter,List.filter_eq_self];intro x hx;obtain⟨f,hf,hfq,rfl⟩:=mem_chgs.1 hx;have hfi:=((hO σ (hS σ hσ).1).mem f).1 (mem_un.1 hf).1;have:¬f.n=it.n:=fun e=>by rw [I.inj f hfi it hit e,hq]at hfq;cases hfq
      simp [this]
     rw [this];exact hcov
   | false=>
    have hmemR:∀σ∈A,it.n∈chgs (un σ listed):=fun σ hσ=>mem_chgs.2 ⟨it,mem_un.2 ⟨((hO σ (hS σ hσ).1).mem it).2 hit,h1⟩,hq,rfl⟩
    obtain⟨k',hk'⟩:=cov_step (g:=it.n) hcov (fun l hl=>by
     rw [hA0]at hl;simp only [List.map_cons,List.head?_cons,Option.some.injEq]at hl;rw [←hl];exact hmemR σ0 (by rw [hA0];exact List.mem_cons_self ..)) (fun l hl y hy hne=>by
     rw [hA0]at hl;simp only [List.map_cons,List.head?_cons,Option.some.injEq]at hl;rw [←hl]at hy;obtain⟨f,hf,hfq,rfl⟩:=mem_chgs.1 hy;obtain⟨hf1,hf2⟩:=mem_un.1 hf;have hfi:=((hO σ0 (hS σ0 (by rw [hA0];exact List.mem_cons_self ..)).1).mem f).1 hf1;obtain⟨_,_,_,hlt⟩:=I.item f hfi;rw [←Bool.not_eq_true];intro hb;rw [hdep f.n hlt hb]at hf2;cases hf2)
    rw [←alive_map (R:=fun σ=>chgs (un σ listed)) (R':=fun σ=>chgs (un σ (listed.setIfInBounds it.n true))) (fun σ hσ r hR=>by
     show chgs (un σ (listed.setIfInBounds it.n true))=r;rw [un_set hs hi',chgs_filter];have hR':chgs (un σ listed)=it.n::r:=hR;rw [hR',List.filter_cons];simp only [decide_true,Bool.not_true,Bool.false_eq_true,if_false];rw [List.filter_eq_self];intro y hy
     have hnd:(chgs (un σ listed)).Nodup:=by
      have h5:=(hO σ (hS σ hσ).1).nd
      have h6:(chgs (un σ listed)).Sublist (σ.map FI.n):=by
       have h7:(chgs (un σ listed)).Sublist ((un σ listed).map FI.n):=by
        unfold chgs;rw [show(fun f:FI=>if f.q=true then none else some f.n)=fun f:FI=>if f.q=true then none else some (FI.n f)from rfl];generalize un σ listed=l;induction l with
        |nil=>exact List.Sublist.slnil
        |cons f r ih=>
         rw [List.filterMap_cons,List.map_cons];cases hq:f.q with
         |true=>exact List.Sublist.cons _ ih
         |false=>exact List.Sublist.cons_cons _ ih
       exact h7.trans (List.Sublist.map _ List.filter_sublist)
      exact h5.sublist h6
     rw [hR']at hnd;have:y≠it.n:=fun e=>by rw [e]at hy;exact(List.nodup_cons.1 hnd).1 hy
     simp [this])]at hk'
    obtain⟨σ1,hσ1⟩:∃σ,σ∈A.filter fun σ=>decide ((chgs (un σ listed)).head? =some it.n):=by
     cases hX:A.filter fun σ=>decide ((chgs (un σ listed)).head? =some it.n)with
     |nil=>rw [hX]at hk';cases k'<;>simp [covOK]at hk'
     |cons σ _=>exact⟨σ,List.mem_cons_self ..⟩
    obtain⟨h4,h5⟩:=List.mem_filter.1 hσ1;obtain⟨c1,hc1,_⟩:=stage_n hs I (hO σ1 (hS σ1 h4).1) (hS σ1 h4).2 hit h1 hq hdep (of_decide_eq_true h5);refine stepC_sound hcal hM (I.ok it hit) h2 hres hc1 fun a' w' hM'=> ?_
    refine ih _ _ a' w' _ k' (by omega) hsz hcl' (fun σ hσ=> ?_) hk' hM';obtain⟨h6,h7⟩:=List.mem_filter.1 hσ;obtain⟨c2,hc2,hS2⟩:=stage_n hs I (hO σ (hS σ h6).1) (hS σ h6).2 hit h1 hq hdep (of_decide_eq_true h7);rw [hc1]at hc2;injection hc2 with e;subst e
    exact⟨(hS σ h6).1,hS2⟩
theorem itms_of (hl:mapO (resSI P ops) ops.toList=some (unF its)) (hd:drawn ops (unF its)=true) (hok:∀f∈its,f.i.ok N=true) (hfq:fqOK (Region.before ops).toList its=true)
 (hnd:(its.map FI.n).Nodup) (hlt:∀f∈its,f.n<its.length) (hcov:∀j∈List.range its.length,(its.map FI.n).contains j=true):
 Itms P N ops its (Region.before ops).toList∧(∀f∈its,∀g∈its,f.n≠g.n→∀d,f.i.dst=some d→g.i.dst≠some d)∧its.length=ops.size:=by
 simp only [fqOK,List.all_eq_true,Bool.or_eq_true,Bool.not_eq_true']at hfq;obtain⟨hlen,hget⟩:=mapO_get hl;have hul:(unF its).length=its.length:=by simp [unF]
 have hsz:its.length=ops.size:=by rw [←hul,hlen,Array.length_toList]
 have hun:∀f∈its,(unF its).getD f.n ⟨none,none,.lenC 0⟩=f.i:=by intro f hf;have:=hlt f hf;rw [List.getD_eq_getElem?_getD];simp only [unF,List.getElem?_map,List.getElem?_range this,Option.map_some,Option.getD_some];exact findF_mem _ hnd hf
 simp only [drawn,Bool.and_eq_true,decide_eq_true_eq]at hd;obtain⟨⟨hc,ht⟩,hdst⟩:=hd
 have hitem:∀f∈its,∃o,ops[f.n]? =some o∧resSI P ops o=some f.i∧f.n<ops.size:=by
  intro f hf;have hfl:=hlt f hf;have hj2:f.n<ops.toList.length:=by rw [Array.length_toList];omega
  refine⟨ops.toList[f.n],by rw [←Array.getElem?_toList,List.getElem?_eq_getElem hj2], ?_,by omega⟩;have h1:=hget f.n hj2 (by omega);rw [h1]
  congr 1
  have h2:=hun f hf;rwa [List.getD_eq_getElem?_getD,List.getElem?_eq_getElem (by omega),Option.getD_some]at h2
 have hinj:∀f∈its,∀g∈its,f.n=g.n→f=g:=by
  intro f hf g hg e;have:its.Pairwise fun f g=>f.n≠g.n:=by rw [List.Nodup,List.pairwise_map]at hnd;exact hnd
  rw [List.pairwise_iff_getElem]at this;obtain⟨i,hi,rfl⟩:=List.mem_iff_getElem.1 hf;obtain⟨j,hj,rfl⟩:=List.mem_iff_getElem.1 hg;rcases Nat.lt_trichotomy i j with h|h|h
  ·exact absurd e (this i j hi hj h)
  ·subst h;rfl
  ·exact absurd e.symm (this j i hj hi h)
 have hdd:∀f∈its,∀g∈its,f.n≠g.n→∀d,f.i.dst=some d→g.i.dst≠some d:=by
  have main:∀f∈its,∀g∈its,f.n<g.n→∀d,f.i.dst=some d→g.i.dst≠some d:=by
   intro f hf g hg hlt' d h1 h2
   have hpl:(unF its).Pairwise fun u v=>∀d,u.dst=some d→v.dst≠some d:=by rw [List.Nodup,List.pairwise_filterMap]at hdst;refine hdst.imp ?_;intro u v huv d hu hv;exact huv d hu d hv rfl
   rw [List.pairwise_iff_getElem]at hpl;have hf':=hlt f hf;have hg':=hlt g hg
   have g1:(unF its)[f.n]'(by omega)=f.i:=by have:=hun f hf;rwa [List.getD_eq_getElem?_getD,List.getElem?_eq_getElem (by omega),Option.getD_some]at this
   have g2:(unF its)[g.n]'(by omega)=g.i:=by have:=hun g hg;rwa [List.getD_eq_getElem?_getD,List.getElem?_eq_getElem (by omega),Option.getD_some]at this
   exact hpl f.n g.n (by omega) (by omega) hlt' d (by rw [g1];exact h1) (by rw [g2];exact h2)
  intro f hf g hg hne d h1 h2;rcases Nat.lt_or_ge f.n g.n with h|h
  ·exact main f hf g hg h d h1 h2
  ·exact main g hg f hf (by omega) d h2 h1
 have hclosed:∀(i:Nat) (o:Oper),ops[i]? =some o→(∀e∈o.after,Region.binds .any e=true→e.on<i)∧
  ∀k,k<ops.size→((Region.before ops).toList.getD i 0).testBit k=true→∃e∈o.after,Region.binds .any e=true∧(e.on=k∨((Region.before ops).toList.getD e.on 0).testBit k=true):=by
  intro i o ho;unfold closedOK at hc;rw [List.all_eq_true]at hc;have hi:i<ops.size:=(Array.getElem?_eq_some_iff.1 ho).1
  have h1:=hc (o,i) (by rw [List.mem_zipIdx_iff_getElem?];simpa using ho)
  simp only [Bool.and_eq_true,Array.all_eq_true_iff_forall_mem,List.all_eq_true,Bool.or_eq_true,Bool.not_eq_true',decide_eq_true_eq]at h1;refine⟨fun e he hb=>(h1.1 e he).resolve_left (by simp [hb]),fun k hk hb=> ?_⟩;have h2:=(h1.2 k (List.mem_range.2 hk)).resolve_left (by simp only [hb];simp);obtain⟨_,h3⟩:=h2;rw [←Array.any_toList,List.any_eq_true]at h3;obtain⟨e,he,h4⟩:=h3;rw [Array.mem_toList_iff]at he;simp only [Bool.and_eq_true,Bool.or_eq_true,beq_iff_eq]at h4;exact⟨e,he,h4.1,h4.2⟩
 have hq:∀q∈its,q.q=true→∃d,q.i.dst=some d∧∀p∈its,d∈p.i.rds→((Region.before ops).toList.getD p.n 0).testBit q.n=true∧p.n≠q.n:=by
  intro q hq hqq;have h1:=(hfq q hq).resolve_left (by rw [hqq];simp);cases hd:q.i.dst with
  |none=>rw [hd]at h1;cases h1
  |some d=>
   rw [hd]at h1;simp only [List.all_eq_true,Bool.or_eq_true,Bool.not_eq_true',Bool.and_eq_true,decide_eq_true_eq,fltO]at h1;refine⟨d,rfl,fun p hp hr=> ?_⟩;rcases h1 p hp with h2|h2
   ·rw [List.contains_eq_mem]at h2;simp only [decide_eq_false_iff_not]at h2;exact absurd hr h2
   ·exact h2
 have hself:∀f∈its,Selfs f:=by intro f hf hfq;obtain⟨d,hd,h1⟩:=hq f hf hfq;exact⟨d,hd,fun h=>(h1 f hf h).2 rfl⟩
 have hrd:∀q∈its,q.q=true→∀p∈its,∀d,q.i.dst=some d→d∈p.i.rds→((Region.before ops).toList.getD p.n 0).testBit q.n=true:=by intro q hq' hqq p hp d hd hr;obtain⟨d',hd',h1⟩:=hq q hq' hqq;rw [hd']at hd;cases hd;exact(h1 p hp hr).1
 refine⟨⟨hitem,fun j hj=> ?_,hinj,fun i o ho=>(hclosed i o ho).1,fun i o k ho hk hb=>(hclosed i o ho).2 k hk hb,hok,hself,hrd⟩,hdd,hsz⟩;have:=hcov j (List.mem_range.2 (by omega));rw [List.contains_eq_mem]at this;simp only [decide_eq_true_eq]at this;obtain⟨f,hf,e⟩:=List.mem_map.1 this;exact⟨f,hf,e⟩
theorem pickF_mem {l:List FI} (h:(l.map FI.n).Nodup) {f:FI} (hf:f∈l):pickF l f.n=f:=by
 induction l with
 |nil=>cases hf
 | cons g r ih=>
  simp only [List.map_cons,List.nodup_cons]at h;simp only [pickF];rcases List.mem_cons.1 hf with rfl|hf
  ·rw [if_pos rfl]
  ·rw [if_neg,ih h.2 hf]
   intro e;apply h.1;rw [e];exact List.mem_map_of_mem hf
theorem mem_ordF {l:List FI} {f:FI}:∀ {p:List Nat},f∈ordF l p↔∃k∈p,pickF l k=f
 |[]=>by simp [ordF]
 | k::r=>by
  simp only [ordF,List.mem_cons,mem_ordF (p:=r)];constructor
  ·rintro(h|⟨j,hj,h⟩)
   ·exact⟨k,.inl rfl,h.symm⟩
   ·exact⟨j,.inr hj,h⟩
  ·rintro⟨j,rfl|hj,h⟩
   ·exact .inl h.symm
   ·exact .inr ⟨j,hj,h⟩
theorem map_ordF {l:List FI} (h:(l.map FI.n).Nodup):∀ {p:List Nat},(∀k∈p,k∈l.map FI.n)→(ordF l p).map FI.n=p
 |[],_=>rfl
 |k::r,hp=>by simp only [ordF,List.map_cons];rw [map_ordF h (p:=r) fun j hj=>hp j (List.mem_cons_of_mem _ hj)];obtain⟨f,hf,e⟩:=List.mem_map.1 (hp k (List.mem_cons_self ..));rw [←e,pickF_mem h hf]
theorem segF_spec {s:Nat} (l:List FI):segF b (some s) l=true→∀g∈l,g.q=true→(b.getD g.n 0).testBit s=true∨∃h∈l,(b.getD g.n 0).testBit h.n=true:=by
 induction l generalizing s with
 |nil=>intro _ g hg;cases hg
 | cons f r ih=>
  intro h g hg hq;simp only [segF]at h;split at h
  ·simp only [Bool.and_eq_true,fltO]at h
   rcases List.mem_cons.1 hg with rfl|hg
   ·exact .inl h.1
   ·rcases ih h.2 g hg hq with h1|⟨k,hk,h1⟩
    ·exact .inl h1
    ·exact .inr ⟨k,List.mem_cons_of_mem _ hk,h1⟩
  ·rename_i hf
   rcases List.mem_cons.1 hg with rfl|hg
   ·exact absurd hq hf
   ·rcases ih h g hg hq with h1|⟨k,hk,h1⟩
    ·exact .inr ⟨f,List.mem_cons_self ..,h1⟩
    ·exact .inr ⟨k,List.mem_cons_of_mem _ hk,h1⟩
theorem segF_at:∀ {pre:List FI} {s:Option Nat} {f:FI} {r:List FI},segF b s (pre++f::r)=true→f.q=false→segF b (some f.n) r=true
 |[],s,f,r,h,hf=>by simp only [List.nil_append,segF,hf,Bool.false_eq_true,if_false]at h;exact h
 |g::pre,s,f,r,h,hf=>by
  simp only [List.cons_append,segF]at h;split at h
  ·rw [Bool.and_eq_true]at h;exact segF_at h.2 hf
  ·exact segF_at h hf
theorem pairsF_spec:∀ {l:List FI},pairsF b l=true→l.Pairwise fun p q=>(b.getD p.n 0).testBit q.n=false
 |[],_=>List.Pairwise.nil
 |p::r,h=>by simp only [pairsF,Bool.and_eq_true,List.all_eq_true]at h;refine List.pairwise_cons.2 ⟨fun q hq=> ?_,pairsF_spec h.2⟩;have:=h.1 q hq;simpa only [Bool.not_eq_true',fltO]using this
theorem altC_all {l:List FI}:∀ {ps:List (List Nat)},altC call sg b l ps c=some cF→∀p∈ps,fltC call sg b (ordF l p) [] c=some cF
 |[],h,p,hp=>by cases hp
 |[q],h,p,hp=>by rw [List.mem_singleton.1 hp];exact h
 | q::q'::r,h,p,hp=>by
  simp only [altC]at h;cases h1:fltC call sg b (ordF l q) [] c with
  |none=>rw [h1]at h;simp [agree]at h
  | some y=>
   cases h2:altC call sg b l (q'::r) c with
   |none=>rw [h1,h2]at h;simp [agree]at h
   |some z=>
    rw [h1,h2]at h;obtain⟨e1,e2⟩:=gdP_some h;rcases List.mem_cons.1 hp with rfl|hp
    ·rw [h1,e2]
    ·exact altC_all (h2.trans (by rw [←e1,e2])) p hp
theorem fla_sound (hcal:CallOK P call) {id:Nat} (hl:mapO (resSI P ops) ops.toList=some (unF its)) (hd:drawn ops (unF its)=true) (hm:P.follows .mixedOrders=true)
 (hok:its.all (fun f=>f.i.ok N)=true) {ps:List (List Nat)} (halt:altOK (Region.before ops).toList its ps=true) {Q:Exit→Act→World→Prop} (hQ:∀a w,M C N cF a w→Q .normal a w) (hM:M C N c a w)
 (h:altC call sg (Region.before ops).toList its ps c=some cF):(Code.region id ops true).wp P Q a w:=by
 simp only [altOK,Bool.and_eq_true,decide_eq_true_eq]at halt;obtain⟨⟨⟨⟨⟨hfq,hnd⟩,hlt⟩,hcov⟩,hps⟩,hc⟩:=halt;rw [List.all_eq_true]at hok hlt hcov hps;obtain⟨I,hdd,hsz⟩:=itms_of hl hd hok hfq hnd (fun f hf=>of_decide_eq_true (hlt f hf)) hcov
 have hO:∀σ∈ps.map (ordF its),Ords its (Region.before ops).toList σ:=by
  intro σ hσ;obtain⟨p,hp,rfl⟩:=List.mem_map.1 hσ;have h1:=hps p hp;simp only [Bool.and_eq_true,decide_eq_true_eq,List.all_eq_true,List.contains_eq_mem]at h1;obtain⟨⟨⟨⟨hpn,hpi⟩,hip⟩,hseg⟩,hpairs⟩:=h1;have hmap:=map_ordF hnd hpi
  have hmem:∀f,f∈ordF its p↔f∈its:=by
   intro f;rw [mem_ordF];constructor
   ·rintro⟨k,hk,rfl⟩
    obtain⟨g,hg,rfl⟩:=List.mem_map.1 (hpi k hk);rw [pickF_mem hnd hg];exact hg
   ·intro hf
    exact⟨f.n,hip f.n (List.mem_map_of_mem hf),pickF_mem hnd hf⟩
  have hnd':((ordF its p).map FI.n).Nodup:=by rw [hmap];exact hpn
  refine⟨hmem,hnd', ?_,fun pre f r e hf g hg hq=> ?_⟩
  ·have h1:(ordF its p).Pairwise fun f g=>f.n≠g.n:=by rw [List.Nodup,List.pairwise_map]at hnd';exact hnd'
   refine((pairsF_spec hpairs).and h1).imp_of_mem ?_;rintro u v hu hv ⟨h2,h3⟩ hqq d hd';have hu':=(hmem u).1 hu;have hv':=(hmem v).1 hv;refine⟨fun hr=> ?_,fun e=>hdd u hu' v hv' h3 d e hd'⟩;rw [I.rd v hv' hqq u hu' d hd' hr]at h2;cases h2
  ·rw [e]at hseg
   rcases segF_spec _ (segF_at hseg hf) g hg hq with h1|⟨k,hk,h1⟩
   ·exact⟨f,List.mem_cons_self ..,h1⟩
   ·exact⟨k,List.mem_cons_of_mem _ hk,h1⟩
 have hfalse:∀f∈its,(Array.replicate ops.size false).getD f.n true=false:=by intro f hf;obtain⟨_,_,_,this⟩:=I.item f hf;simp [Array.getD,this]
 refine wp_region_any hm ?_;refine alt_loop (its:=its) (b:=(Region.before ops).toList) (cF:=cF) (sg:=sg) (ords:=ps.map (ordF its)) hcal I hO hQ ops.size _ c a _ (ps.map (ordF its)) its.length ?_ (by simp) ?_ (fun σ hσ=>⟨hσ, ?_⟩) ?_ ?_
 ·have:(un its (Array.replicate ops.size false)).length≤its.length:=List.length_filter_le _ _
  omega
 ·intro i o k ho hl _ _
  have hi:i<ops.size:=(Array.getElem?_eq_some_iff.1 ho).1;simp [Array.getD,hi]at hl
 ·have O:=hO σ hσ
  obtain⟨p,hp,rfl⟩:=List.mem_map.1 hσ;have hrun:=altC_all h p hp;obtain⟨seg,post,p2,ps2,k1,k2,k3,k4,k5,k6,k7⟩:=advance (N:=N) (D:=[]) (V:=[]) hrun ⟨fun _ _=>rfl,rfl,rfl,by obtain⟨x,s,_,hS⟩:=hM;exact hS.inv.dom⟩ (fun f hf=>I.ok f ((O.mem f).1 hf)) (fun f hf=>I.self f ((O.mem f).1 hf)) O.nx (by simp) (by simp) (by simp)
  have hunf:un seg (Array.replicate ops.size false)=seg:=by apply List.filter_eq_self.2;intro f hf;rw [hfalse f ((O.mem f).1 (by rw [k1];exact List.mem_append.2 (.inl hf)))];rfl
  refine⟨seg,post,p2,ps2,k1,k3,k4,fun f hf _=>k5 f (.inr hf),(fun f hf hq=>by rw [k2 f hf]at hq;cases hq),fun f hf=>hfalse f ((O.mem f).1 (by rw [k1];exact List.mem_append.2 (.inr hf))), ?_, ?_⟩
  ·rw [hunf];simpa using k6
  ·rw [hunf];intro f hf;exact k7 f (.inr hf)
 ·rw [List.map_map]
  have:(ps.map ((fun σ=>chgs (un σ (Array.replicate ops.size false)))∘ordF its))=ps.map fun p=>chgs (ordF its p):=by
   apply List.map_congr_left;intro p hp;show chgs (un (ordF its p) _)=_
   congr 1
   apply List.filter_eq_self.2;intro f hf;rw [hfalse f (((hO _ (List.mem_map_of_mem hp)).mem f).1 hf)];rfl
  rw [this];exact hc
 ·obtain⟨x,s,hMo,hS⟩:=hM
  exact⟨x,s,⟨hMo.tm,hMo.defers,hMo.heap.drawn _⟩,hS⟩
end Go.Sy
namespace Go.Sy
variable [LaidData]
variable {P : Program} {C : Ctx} {x : Sit} {a : Act} {w : World} {N : Nat} {c c' : CSt} {s : St} {T : Table}
def Ex.out:Ex→Exit
 | .n=> .normal
 | .x id=> .exit id
 | .r=> .ret
def EQ (C:Ctx) (N:Nat) (e:Ex) (c':CSt):Exit→Act→World→Prop:=fun e' a w=>e'=e.out∧M C N c' a w
def RunOK (P:Program) (T:Table) (n:Nat):Prop:=
 (∀(r:RC) (c:CSt) (e:Ex) (c':CSt),runN T n r c=some (e,c')→∀(code:Code) (C:Ctx) (N:Nat) (a:Act) (w:World),resB P code=r.er→r.ok N=true→M C N c a w→code.wp P (EQ C N e c') a w)∧
 (∀(b:RC) (c:CSt) (e:Ex) (c':CSt),runN T n (.loop b) c=some (e,c')→∀(code:Code) (C:Ctx) (N:Nat) (a:Act) (w:World),resB P code=b.er→b.ok N=true→M C N c a w→Code.rounds P code (EQ C N e c') n a w)
theorem er_loop {code:Code} {b:SCode} (h:resCode P code=some (.loop b)):∃b',code= .loop b'∧resCode P b'=some b:=by
 cases code with
 |loop b'=>simp only [resCode]at h;obtain⟨sb,hb,he⟩:=Option.map_eq_some_iff.1 h;cases he;exact⟨b',rfl,hb⟩
 |region id ops draw=>
  simp only [resCode]at h;split at h<;>try (cases h;done)
  split at h
  ·rw [Option.ite_none_right_eq_some]at h;cases h.2
  ·cases h
 |seq y z=>simp only [resCode]at h;split at h<;>cases h
 |cond c y z=>simp only [resCode]at h;split at h<;>cases h
 |block id b=>simp only [resCode]at h;obtain⟨_,_,h⟩:=Option.map_eq_some_iff.1 h;cases h
 |_=>simp [resCode]at h
theorem er_block {code:Code} {id:Nat} {b:SCode} (h:resCode P code=some (.block id b)):∃b',code= .block id b'∧resCode P b'=some b:=by
 cases code with
 |block id b'=>simp only [resCode]at h;obtain⟨sb,hb,he⟩:=Option.map_eq_some_iff.1 h;cases he;exact⟨b',rfl,hb⟩
 |region id ops draw=>
  simp only [resCode]at h;split at h<;>try (cases h;done)
  split at h
  ·rw [Option.ite_none_right_eq_some]at h;cases h.2
  ·cases h
 |seq y z=>simp only [resCode]at h;split at h<;>cases h
 |cond c y z=>simp only [resCode]at h;split at h<;>cases h
 |loop b=>simp only [resCode]at h;obtain⟨_,_,h⟩:=Option.map_eq_some_iff.1 h;cases h
 |_=>simp [resCode]at h
theorem er_seq {code:Code} {y z:SCode} (h:resCode P code=some (.seq y z)):∃y' z',code= .seq y' z'∧resCode P y'=some y∧resCode P z'=some z:=by
 cases code with
 |seq y' z'=>
  simp only [resCode]at h;split at h<;>try (cases h;done)
  rename_i sy sz hy hz;cases h;exact⟨y',z',rfl,hy,hz⟩
 |region id ops draw=>
  simp only [resCode]at h;split at h<;>try (cases h;done)
  split at h
  ·rw [Option.ite_none_right_eq_some]at h;cases h.2
  ·cases h
 |cond c y z=>simp only [resCode]at h;split at h<;>cases h
 |block id b=>simp only [resCode]at h;obtain⟨_,_,h⟩:=Option.map_eq_some_iff.1 h;cases h
 |loop b=>simp only [resCode]at h;obtain⟨_,_,h⟩:=Option.map_eq_some_iff.1 h;cases h
 |_=>simp [resCode]at h
theorem er_cond {code:Code} {k:Arg} {y z:SCode} (h:resCode P code=some (.cond k y z)):∃k' y' z',code= .cond k' y' z'∧resArg P 0 k'=some k∧resCode P y'=some y∧resCode P z'=some z:=by
 cases code with
 |cond k' y' z'=>
  simp only [resCode]at h;split at h<;>try (cases h;done)
  rename_i sc sy sz hcc hy hz;cases h;exact⟨k',y',z',rfl,hcc,hy,hz⟩
 |region id ops draw=>
  simp only [resCode]at h;split at h<;>try (cases h;done)
  split at h
  ·rw [Option.ite_none_right_eq_some]at h;cases h.2
  ·cases h
 |seq y z=>simp only [resCode]at h;split at h<;>cases h
 |block id b=>simp only [resCode]at h;obtain⟨_,_,h⟩:=Option.map_eq_some_iff.1 h;cases h
 |loop b=>simp only [resCode]at h;obtain⟨_,_,h⟩:=Option.map_eq_some_iff.1 h;cases h
 |_=>simp [resCode]at h
theorem er_ops {code:Code} {l:List SI} (h:resCode P code=some (.ops l)):∃id ops,code= .region id ops false∧mapO (resSI P ops) ops.toList=some l:=by
 cases code with
 | region id ops draw=>
  simp only [resCode]at h;split at h<;>try (cases h;done)
  rename_i l' hl;cases draw with
  |false=>simp only [Bool.false_eq_true,if_false,Option.some.injEq,SCode.ops.injEq]at h;subst h;exact⟨id,ops,rfl,hl⟩
  |true=>simp only [if_true]at h;rw [Option.ite_none_right_eq_some]at h;cases h.2
 |seq y z=>simp only [resCode]at h;split at h<;>cases h
 |cond c y z=>simp only [resCode]at h;split at h<;>cases h
 |block id b=>simp only [resCode]at h;obtain⟨_,_,h⟩:=Option.map_eq_some_iff.1 h;cases h
 |loop b=>simp only [resCode]at h;obtain⟨_,_,h⟩:=Option.map_eq_some_iff.1 h;cases h
 |_=>simp [resCode]at h
theorem er_drw {code:Code} {b ds:List Nat} {l:List SI} (h:resCode P code=some (.drw b ds l)):∃id ops,code= .region id ops true∧mapO (resSI P ops) ops.toList=some l∧drawn ops l=true∧P.follows .mixedOrders=true∧b=(Region.before ops).toList∧ds=dsOf l:=by
 cases code with
 | region id ops draw=>
  simp only [resCode]at h;split at h<;>try (cases h;done)
  rename_i l' hl;cases draw with
  |false=>simp only [Bool.false_eq_true,if_false,Option.some.injEq,reduceCtorEq]at h
  |true=>simp only [if_true]at h;rw [Option.ite_none_right_eq_some]at h;obtain⟨hc,h⟩:=h;simp only [Option.some.injEq,SCode.drw.injEq]at h;obtain⟨rfl,rfl,rfl⟩:=h;rw [Bool.and_eq_true]at hc;exact⟨id,ops,rfl,hl,hc.1,hc.2,rfl,rfl⟩
 |seq y z=>simp only [resCode]at h;split at h<;>cases h
 |cond c y z=>simp only [resCode]at h;split at h<;>cases h
 |block id b=>simp only [resCode]at h;obtain⟨_,_,h⟩:=Option.map_eq_some_iff.1 h;cases h
 |loop b=>simp only [resCode]at h;obtain⟨_,_,h⟩:=Option.map_eq_some_iff.1 h;cases h
 |_=>simp [resCode]at h
theorem er_skip {code:Code} (h:resCode P code=some .skip):code= .skip:=by
 cases code with
 |skip=>rfl
 |region id ops draw=>
  simp only [resCode]at h;split at h<;>try (cases h;done)
  split at h
  ·rw [Option.ite_none_right_eq_some]at h;cases h.2
  ·cases h
 |seq y z=>simp only [resCode]at h;split at h<;>cases h
 |cond c y z=>simp only [resCode]at h;split at h<;>cases h
 |block id b=>simp only [resCode]at h;obtain⟨_,_,h⟩:=Option.map_eq_some_iff.1 h;cases h
 |loop b=>simp only [resCode]at h;obtain⟨_,_,h⟩:=Option.map_eq_some_iff.1 h;cases h
 |_=>simp [resCode]at h
theorem er_ret {code:Code} (h:resCode P code=some .ret):code= .ret:=by
 cases code with
 |ret=>rfl
 |region id ops draw=>
  simp only [resCode]at h;split at h<;>try (cases h;done)
  split at h
  ·rw [Option.ite_none_right_eq_some]at h;cases h.2
  ·cases h
 |seq y z=>simp only [resCode]at h;split at h<;>cases h
 |cond c y z=>simp only [resCode]at h;split at h<;>cases h
 |block id b=>simp only [resCode]at h;obtain⟨_,_,h⟩:=Option.map_eq_some_iff.1 h;cases h
 |loop b=>simp only [resCode]at h;obtain⟨_,_,h⟩:=Option.map_eq_some_iff.1 h;cases h
 |_=>simp [resCode]at h
theorem er_exit {code:Code} {id:Nat} (h:resCode P code=some (.exit id)):code= .exit id:=by
 cases code with
 |exit id'=>simp only [resCode,Option.some.injEq,SCode.exit.injEq]at h;rw [h]
 |region id ops draw=>
  simp only [resCode]at h;split at h<;>try (cases h;done)
  split at h
  ·rw [Option.ite_none_right_eq_some]at h;cases h.2
  ·cases h
 |seq y z=>simp only [resCode]at h;split at h<;>cases h
 |cond c y z=>simp only [resCode]at h;split at h<;>cases h
 |block id b=>simp only [resCode]at h;obtain⟨_,_,h⟩:=Option.map_eq_some_iff.1 h;cases h
 |loop b=>simp only [resCode]at h;obtain⟨_,_,h⟩:=Option.map_eq_some_iff.1 h;cases h
 |_=>simp [resCode]at h
theorem eb_region {id:Nat} {ops:Array Oper} {draw:Bool} {s:SCode} (h:resB P (.region id ops draw)=s) (hs:s≠ .bad):resCode P (.region id ops draw)=some s:=by
 rw [resB]at h;split at h
 ·rename_i s' h';rw [←h];exact h'
 ·exact absurd h.symm hs
theorem eb_cond {k:Operand} {y z:Code} {s:SCode} (h:resB P (.cond k y z)=s) (hs:s≠ .bad):∃a,resArg P 0 k=some a∧s= .cond a (resB P y) (resB P z):=by
 rw [resB]at h;split at h
 ·rename_i a ha;exact⟨a,ha,h.symm⟩
 ·exact absurd h.symm hs
theorem eb_loop {code:Code} {b:SCode} (h:resB P code= .loop b):∃b',code= .loop b'∧resB P b'=b:=by
 cases code with
 |loop b'=>rw [resB]at h;cases h;exact⟨b',rfl,rfl⟩
 |region id ops draw=>have h1:=eb_region h (by simp);have h2:=er_loop h1;simp at h2
 |seq y z=>rw [resB]at h;cases h
 |cond k y z=>obtain⟨a,_,h2⟩:=eb_cond h (by simp);cases h2
 |block id b=>rw [resB]at h;cases h
 |skip=>rw [resB]at h;cases h
 |exit id=>rw [resB]at h;cases h
 |ret=>rw [resB]at h;cases h
 |_=>simp [resB]at h
theorem eb_block {code:Code} {id:Nat} {b:SCode} (h:resB P code= .block id b):∃b',code= .block id b'∧resB P b'=b:=by
 cases code with
 |block id b'=>rw [resB]at h;cases h;exact⟨b',rfl,rfl⟩
 |region id ops draw=>have h1:=eb_region h (by simp);have h2:=er_block h1;simp at h2
 |seq y z=>rw [resB]at h;cases h
 |cond k y z=>obtain⟨a,_,h2⟩:=eb_cond h (by simp);cases h2
 |loop b=>rw [resB]at h;cases h
 |skip=>rw [resB]at h;cases h
 |exit id=>rw [resB]at h;cases h
 |ret=>rw [resB]at h;cases h
 |_=>simp [resB]at h
theorem eb_seq {code:Code} {y z:SCode} (h:resB P code= .seq y z):∃y' z',code= .seq y' z'∧resB P y'=y∧resB P z'=z:=by
 cases code with
 |seq y' z'=>rw [resB]at h;cases h;exact⟨y',z',rfl,rfl,rfl⟩
 |region id ops draw=>have h1:=eb_region h (by simp);have h2:=er_seq h1;simp at h2
 |cond k y z=>obtain⟨a,_,h2⟩:=eb_cond h (by simp);cases h2
 |block id b=>rw [resB]at h;cases h
 |loop b=>rw [resB]at h;cases h
 |skip=>rw [resB]at h;cases h
 |exit id=>rw [resB]at h;cases h
 |ret=>rw [resB]at h;cases h
 |_=>simp [resB]at h
theorem eb_cnd {code:Code} {k:Arg} {y z:SCode} (h:resB P code= .cond k y z):∃k' y' z',code= .cond k' y' z'∧resArg P 0 k'=some k∧resB P y'=y∧resB P z'=z:=by
 cases code with
 |cond k' y' z'=>obtain⟨a,h1,h2⟩:=eb_cond h (by simp);cases h2;exact⟨k',y',z',rfl,h1,rfl,rfl⟩
 |region id ops draw=>have h1:=eb_region h (by simp);have h2:=er_cond h1;simp at h2
 |seq y z=>rw [resB]at h;cases h
 |block id b=>rw [resB]at h;cases h
 |loop b=>rw [resB]at h;cases h
 |skip=>rw [resB]at h;cases h
 |exit id=>rw [resB]at h;cases h
 |ret=>rw [resB]at h;cases h
 |_=>simp [resB]at h
theorem eb_skip {code:Code} (h:resB P code= .skip):code= .skip:=by
 cases code with
 |skip=>rfl
 |region id ops draw=>have h1:=eb_region h (by simp);have h2:=er_skip h1;simp at h2
 |seq y z=>rw [resB]at h;cases h
 |cond k y z=>obtain⟨a,_,h2⟩:=eb_cond h (by simp);cases h2
 |block id b=>rw [resB]at h;cases h
 |loop b=>rw [resB]at h;cases h
 |exit id=>rw [resB]at h;cases h
 |ret=>rw [resB]at h;cases h
 |_=>simp [resB]at h
theorem eb_ret {code:Code} (h:resB P code= .ret):code= .ret:=by
 cases code with
 |ret=>rfl
 |region id ops draw=>have h1:=eb_region h (by simp);have h2:=er_ret h1;simp at h2
 |seq y z=>rw [resB]at h;cases h
 |cond k y z=>obtain⟨a,_,h2⟩:=eb_cond h (by simp);cases h2
 |block id b=>rw [resB]at h;cases h
 |loop b=>rw [resB]at h;cases h
 |skip=>rw [resB]at h;cases h
 |exit id=>rw [resB]at h;cases h
 |_=>simp [resB]at h
theorem eb_exit {code:Code} {id:Nat} (h:resB P code= .exit id):code= .exit id:=by
 cases code with
 |exit id'=>rw [resB]at h;cases h;rfl
 |region id ops draw=>have h1:=eb_region h (by simp);have h2:=er_exit h1;simp at h2
 |seq y z=>rw [resB]at h;cases h
 |cond k y z=>obtain⟨a,_,h2⟩:=eb_cond h (by simp);cases h2
 |block id b=>rw [resB]at h;cases h
 |loop b=>rw [resB]at h;cases h
 |skip=>rw [resB]at h;cases h
 |ret=>rw [resB]at h;cases h
 |_=>simp [resB]at h
theorem eb_ops {code:Code} {l:List SI} (h:resB P code= .ops l):resCode P code=some (.ops l):=by
 cases code with
 |region id ops draw=>exact eb_region h (by simp)
 |seq y z=>rw [resB]at h;cases h
 |cond k y z=>obtain⟨a,_,h2⟩:=eb_cond h (by simp);cases h2
 |block id b=>rw [resB]at h;cases h
 |loop b=>rw [resB]at h;cases h
 |skip=>rw [resB]at h;cases h
 |exit id=>rw [resB]at h;cases h
 |ret=>rw [resB]at h;cases h
 |_=>simp [resB]at h
theorem eb_drw {code:Code} {b ds:List Nat} {l:List SI} (h:resB P code= .drw b ds l):resCode P code=some (.drw b ds l):=by
 cases code with
 |region id ops draw=>exact eb_region h (by simp)
 |seq y z=>rw [resB]at h;cases h
 |cond k y z=>obtain⟨a,_,h2⟩:=eb_cond h (by simp);cases h2
 |block id b=>rw [resB]at h;cases h
 |loop b=>rw [resB]at h;cases h
 |skip=>rw [resB]at h;cases h
 |exit id=>rw [resB]at h;cases h
 |ret=>rw [resB]at h;cases h
 |_=>simp [resB]at h
theorem stepR_sound {n:Nat} (hR:RunOK P T n) (hcal:CallOK P (callN T n)) {r:RC} {c:CSt} {e:Ex} {c':CSt} (h:stepR (runN T n) (callN T n) T.sg r c=some (e,c')) (hl:∀b,r≠ .loop b) {code:Code} {C:Ctx} {N:Nat} {a:Act} {w:World}
 (hr:resB P code=r.er) (hok:r.ok N=true) (hM:M C N c a w):code.wp P (EQ C N e c') a w:=by
 cases r with
 |skip=>
  cases h;have:=eb_skip (by simpa [RC.er]using hr);subst this;exact wp_skip ⟨rfl,hM⟩
 |ret=>
  cases h;have:=eb_ret (by simpa [RC.er]using hr);subst this;exact wp_ret ⟨rfl,hM⟩
 |exit id=>
  cases h;have:=eb_exit (by simpa [RC.er]using hr);subst this;exact wp_exit ⟨rfl,hM⟩
 | ops l=>
  obtain⟨id,ops,rfl,hl'⟩:=er_ops (eb_ops (by simpa [RC.er]using hr));simp only [stepR]at h;cases hs:opsC (callN T n) T.sg l c with
  |none=>rw [hs]at h;cases h
  |some c1=>rw [hs]at h;simp only [nrm,kill_nil,Option.some.injEq,Prod.mk.injEq]at h;obtain⟨rfl,rfl⟩:=h;refine wp_region ?_;rw [List.range_eq_range'];exact opsC_sound hcal hl' l ops.size 0 (by omega) (by simp) hok hM hs fun a w h=>⟨rfl,h⟩
 | drw b ds l dead=>
  obtain⟨id,ops,rfl,hl',hdr,hmo,rfl,rfl⟩:=er_drw (eb_drw (by simpa [RC.er]using hr));simp only [stepR]at h;cases hs:runD (callN T n) T.sg (Region.before ops).toList l [] (gcC c (dsOf l))with
  |none=>rw [hs]at h;cases h
  |some c1=>rw [hs]at h;simp only [nrm,Option.some.injEq,Prod.mk.injEq]at h;obtain⟨rfl,rfl⟩:=h;obtain⟨x,s,hMo,hS⟩:=hM;exact draw_sound hl' hdr hmo (k:=Sim N c1) (fun a w h=>⟨rfl,M.kill h dead⟩) hMo (runD_sound hcal hok (gc_sim hS) hs)
 | flt b ds l dead=>
  obtain⟨id,ops,rfl,hl',hdr,hmo,rfl,rfl⟩:=er_drw (eb_drw (by simpa [RC.er]using hr));simp only [RC.ok,Bool.and_eq_true]at hok;simp only [stepR]at h;cases hs:fltC (callN T n) T.sg (Region.before ops).toList l [] c with
  |none=>rw [hs]at h;cases h
  |some c1=>rw [hs]at h;simp only [nrm,Option.some.injEq,Prod.mk.injEq]at h;obtain⟨rfl,rfl⟩:=h;exact flt_sound hcal hl' hdr hmo hok.1 hok.2 (fun a w h=>⟨rfl,M.kill h dead⟩) hM hs
 | fla b ds l ps dead=>
  obtain⟨id,ops,rfl,hl',hdr,hmo,rfl,rfl⟩:=er_drw (eb_drw (by simpa [RC.er]using hr));simp only [RC.ok,Bool.and_eq_true]at hok;simp only [stepR]at h;cases hs:altC (callN T n) T.sg (Region.before ops).toList l ps c with
  |none=>rw [hs]at h;cases h
  |some c1=>rw [hs]at h;simp only [nrm,Option.some.injEq,Prod.mk.injEq]at h;obtain⟨rfl,rfl⟩:=h;exact fla_sound hcal hl' hdr hmo hok.1 hok.2 (fun a w h=>⟨rfl,M.kill h dead⟩) hM hs
 | seq y z=>
  obtain⟨y',z',rfl,hy,hz⟩:=eb_seq (by simpa [RC.er]using hr);simp only [RC.ok,Bool.and_eq_true]at hok;simp only [stepR]at h;cases hs:runN T n y c with
  |none=>rw [hs]at h;cases h
  |some p=>
   obtain⟨e1,c1⟩:=p;rw [hs]at h;refine wp_seq (wp_mono (hR.1 _ _ _ _ hs y' C N a w hy hok.1 hM) ?_);rintro e' a' w' ⟨rfl,hM'⟩;cases e1 with
   |n=>exact hR.1 _ _ _ _ h z' C N a' w' hz hok.2 hM'
   |x id=>cases h;exact⟨rfl,hM'⟩
   |r=>cases h;exact⟨rfl,hM'⟩
 | cond k y z=>
  obtain⟨k',y',z',rfl,hk,hy,hz⟩:=eb_cnd (by simpa [RC.er]using hr);simp only [RC.ok,Bool.and_eq_true]at hok;simp only [stepR]at h;unfold cnd at h;split at h<;>try (cases h;done)
  rename_i t ht
  have hv:a.eval k'= .bool t:=by obtain⟨x,s,hMo,hS⟩:=hM;have hrep:=resArg_rep hMo hk;rw [hS.ev,ht]at hrep;exact hrep.bool_inv
  refine wp_cond_split hv (fun e=> ?_) (fun e=> ?_)
  ·subst e
   rw [if_pos rfl]at h;exact hR.1 _ _ _ _ h y' C N a w hy hok.1 hM
  ·subst e
   rw [if_neg (by simp)]at h;exact hR.1 _ _ _ _ h z' C N a w hz hok.2 hM
 | block id b=>
  obtain⟨b',rfl,hb⟩:=eb_block (by simpa [RC.er]using hr);simp only [stepR]at h;cases hs:runN T n b c with
  |none=>rw [hs]at h;cases h
  | some p=>
   obtain⟨e1,c1⟩:=p;rw [hs]at h;refine wp_block (wp_mono (hR.1 _ _ _ _ hs b' C N a w hb hok hM) ?_);rintro e' a' w' ⟨rfl,hM'⟩;cases e1 with
   |n=>cases h;exact⟨rfl,hM'⟩
   |r=>cases h;exact⟨rfl,hM'⟩
   |x id'=>
    simp only [blk]at h;simp only [Ex.out,Exit.inBlock];split at h<;>rename_i hid
    ·cases h;rw [if_pos hid];exact⟨rfl,hM'⟩
    ·cases h;rw [if_neg hid];exact⟨rfl,hM'⟩
 |loop b=>exact absurd rfl (hl b)
 |bad=>cases h
 | pre ds y=>
  simp only [stepR]at h;cases hs:dirsC c ds with
  |none=>rw [hs]at h;cases h
  |some c1=>rw [hs]at h;exact hR.1 _ _ _ _ h code C N a w (by simpa [RC.er]using hr) hok (dirsC_sound hM hs)
 | post y ds=>
  simp only [stepR]at h;cases hs:runN T n y c with
  |none=>rw [hs]at h;cases h
  | some p=>
   obtain⟨e1,c1⟩:=p;rw [hs]at h;refine wp_mono (hR.1 _ _ _ _ hs code C N a w (by simpa [RC.er]using hr) hok hM) ?_;rintro e' a' w' ⟨rfl,hM'⟩;cases e1 with
   |n=>
    simp only [psD]at h;split at h
    ·rename_i c2 h2;cases h;exact⟨rfl,dirsC_sound hM' h2⟩
    ·cases h
   |x id=>cases h;exact⟨rfl,hM'⟩
   |r=>cases h;exact⟨rfl,hM'⟩
theorem runOK_zero:RunOK P T 0:=⟨fun r c e c' h=>by simp [runN]at h,fun b c e c' h=>by simp [runN]at h⟩
theorem runOK_succ {n:Nat} (hR:RunOK P T n) (hcal:CallOK P (callN T n)):RunOK P T (n+1):=by
 have h2:∀(b:RC) (c:CSt) (e:Ex) (c':CSt),runN T (n+1) (.loop b) c=some (e,c')→∀(code:Code) (C:Ctx) (N:Nat) (a:Act) (w:World),resB P code=b.er→b.ok N=true→M C N c a w→Code.rounds P code (EQ C N e c') (n+1) a w:=by
  intro b c e c' h code C N a w hr hok hM;rw [runN]at h;simp only [stepR]at h;rw [rounds_succ];cases hs:runN T n b c with
  |none=>rw [hs]at h;cases h
  |some p=>
   obtain⟨e1,c1⟩:=p;rw [hs]at h;refine wp_mono (hR.1 _ _ _ _ hs code C N a w hr hok hM) ?_;rintro e' a' w' ⟨rfl,hM'⟩;cases e1 with
   |n=>exact hR.2 _ _ _ _ h code C N a' w' hr hok hM'
   |x id=>cases h;exact⟨rfl,hM'⟩
   |r=>cases h;exact⟨rfl,hM'⟩
 refine⟨fun r c e c' h code C N a w hr hok hM=> ?_,h2⟩
 by_cases hl:∃b,r= .loop b
 ·obtain⟨b,rfl⟩:=hl
  obtain⟨b',rfl,hb⟩:=eb_loop (by simpa [RC.er]using hr);exact wp_loop_rounds (n+1) (h2 b c e c' h b' C N a w hb hok hM)
 ·rw [runN]at h
  exact stepR_sound hR hcal h (fun b e=>hl ⟨b,e⟩) hr hok hM
def rvOK (P:Program):ResultVar→RV→Prop
 | .tmp t,.tmp t'=>t=t'
 | .cell t ty,.cell t' n ag=>t=t'∧szOf P ty=some n∧isAg P ty=some ag
 |_,_=>False
def rvsOK (P:Program):List ResultVar→List RV→Prop
 |[],[]=>True
 |a::r,b::s=>rvOK P a b∧rvsOK P r s
 |_,_=>False
theorem resC_of (hS:Sim N c s):∀ {rs:List ResultVar} {rv:List RV} {vs:List SV},rvsOK P rs rv→resC c rv=some vs→∃p,resV P s rs=some (p,vs)∧p
 |[],[],vs,_,h=>by cases h;exact⟨True,rfl,trivial⟩
 |[],_::_,_,h,_=>h.elim
 |_::_,[],_,h,_=>h.elim
 | .tmp t::r,.tmp t'::q,vs,h,hv=>by obtain⟨h1,h2⟩:=h;have h1:t=t':=h1;subst h1;simp only [resC]at hv;split at hv<;>cases hv;rename_i vs' hv';obtain⟨p,h3,h4⟩:=resC_of hS h2 hv';exact⟨p,by simp only [resV,h3,hS.get],h4⟩
 | .cell t ty::r,.cell t' n ag::q,vs,h,hv=>by
  obtain⟨⟨rfl,g1,g2⟩,h2⟩:=h;simp only [resC]at hv;split at hv<;>cases hv;rename_i v vs' hl hv';obtain⟨p,h3,h4⟩:=resC_of hS h2 hv'
  have hl':(if(ag||n==1)=true then loadC c n ag (c.get t)else none)=some v:=by
   rw [←hl]
   congr 1
   simp
  split at hl'
  ·rename_i hc
   obtain⟨p',h5,h6⟩:=loadC_of hS hl';refine⟨p'∧p, ?_,h6,h4⟩;simp only [resV,g1,g2,h3,hS.get];rw [if_pos hc,h5]
  ·cases hl'
 | .tmp _::_,.cell _ _ _::_,_,h,_=>h.1.elim
 | .cell _ _::_,.tmp _::_,_,h,_=>h.1.elim
def oneV (us:List Value):Value:=if h:us.toArray.size=1 then us.toArray[0]else .tuple us.toArray
theorem oneRep {vs:List SV} {us:List Value} (h:RepL x vs us):Rep x (oneSV vs) (oneV us):=by
 have hlen:=h.1;unfold oneV
 match vs,us,hlen with
 |[v],[u],_=>simpa [oneSV]using h.2 0 (by simp)
 |[],[],_=>simp only [oneSV];exact .tup _ _ h.1 h.2
 |v1::v2::vs,u1::u2::us,_=>simp only [oneSV];rw [dif_neg (by simp)];exact .tup _ _ h.1 h.2
theorem Heap.sel {ob ob2:List (Nat×SObj)} {tk tk2:List Nat} (hH:Heap C x ob tk w) {x2:Sit} (hG:x2.G=x.G) (hob:∀p∈ob2,ObjRep x2 w p.1 p.2∧∃q∈ob,x2.β p.1=x.β q.1) (hnd:(ob2.map Prod.fst).Nodup)
 (hinj:∀p∈ob2,∀q∈ob2,x2.β p.1=x2.β q.1→p.1=q.1) (htk:∀t∈tk2,(x2.τ t).2.1=(x2.τ t).2.2∨∃u∈tk,x2.τ t=x.τ u)
 (htd:∀t∈tk2,∀u∈tk2,t≠u→(x2.τ t).2.1=(x2.τ t).2.2∨(x2.τ u).2.1=(x2.τ u).2.2∨∃t'∈tk,∃u'∈tk,t'≠u'∧x2.τ t=x.τ t'∧x2.τ u=x.τ u') (hpin:∀i,i<100→x2.β i=x.β i):Heap C x2 ob2 tk2 w:=by
 refine⟨fun b o v hv=>hH.per b o v (by rw [←hG];exact hv),fun b o v hv=>by rw [hG];exact hH.g0 b o v hv,fun b o v hv=>hH.gm b o v (by rw [←hG];exact hv),hH.new, ?_,hnd,hinj, ?_, ?_, ?_,hH.os,hH.tape,hH.output,hH.size,hH.ext,
  fun i hi=>(hpin i hi).trans (hH.pin i hi),hH.lay⟩
 ·intro p hp
  obtain⟨h1,q,hq,h2⟩:=hob p hp;obtain⟨_,h3,h4⟩:=hH.obs q hq;exact⟨h1,by rw [h2];exact h3,fun off=>by rw [hG,h2];exact h4 off⟩
 ·intro t ht
  rcases htk t ht with h|⟨u,hu,h⟩
  ·exact .inl h
  ·have:=hH.tks u hu
   unfold TokRep at this ⊢;rw [h,hG];exact this
 ·intro t ht p hp
  obtain⟨_,q,hq,h2⟩:=hob p hp;rcases htk t ht with h|⟨u,hu,h⟩
  ·exact .inr h
  ·rw [h,h2];exact hH.tko u hu q hq
 ·intro t ht u hu htu
  rcases htd t ht u hu htu with h|h|⟨t',ht',u',hu',hne,h1,h2⟩
  ·exact .inr (.inl h)
  ·exact .inr (.inr h)
  ·rw [h1,h2];exact hH.tkd t' ht' u' hu' hne
theorem mem_zipIx {p:Nat×SObj}:∀ {l:List SObj} {k:Nat},p∈zipIx k l↔∃i,i<l.length∧p.1=k+i∧p.2=l.getD i (.rc [])
 |[],k=>by simp [zipIx]
 | o::r,k=>by
  simp only [zipIx,List.mem_cons,mem_zipIx];constructor
  ·rintro(rfl|⟨i,h1,h2,h3⟩)
   ·exact⟨0,by simp,rfl,rfl⟩
   ·exact⟨i+1,by simpa using h1,by omega,by simpa using h3⟩
  ·rintro⟨i,h1,h2,h3⟩
   cases i with
   |zero=>left;exact Prod.ext (by simpa using h2) (by simpa using h3)
   |succ i=>exact .inr ⟨i,by simpa using h1,by omega,by simpa using h3⟩
theorem nodup_zipIx:∀(l:List SObj) (k:Nat),((zipIx k l).map Prod.fst).Nodup
 |[],_=>by simp [zipIx]
 |o::r,k=>by simp only [zipIx,List.map_cons,List.nodup_cons];refine⟨fun h=> ?_,nodup_zipIx r (k+1)⟩;obtain⟨p,hp,e⟩:=List.mem_map.1 h;obtain⟨i,_,h2,_⟩:=mem_zipIx.1 hp;omega
theorem upto_getD (n i:Nat) (h:i<n):(upto n).getD i 0=i:=by
 have hl:∀n,(upto n).length=n:=by
  intro n;induction n with
  |zero=>rfl
  |succ n ih=>simp [upto,ih]
 induction n with
 |zero=>omega
 | succ n ih=>
  simp only [upto,List.getD_eq_getElem?_getD,List.getElem?_append,hl]
  by_cases hi:i<n
  ·rw [if_pos hi,←List.getD_eq_getElem?_getD,ih hi]
  ·rw [if_neg hi];have:i-n=0:=by omega
   rw [this];simp;omega
theorem fin_sound {keep raw:List Nat} {k:Nat} {vs:List SV} {us:List Value} {q:CRes} (hM:Models C x s a w) (hS:Sim N c s) (hk:k≤40) (hv:RepL x vs us) (h:finP keep k (pubAll c vs (slIds raw 0 vs))=some q):
 ∃x',Rep x' q.r (oneV us)∧Heap C x' q.os q.tk w∧(∀p∈q.os,p.2.wf=true)∧∀i,i<100→x'.β i=C.β0 i:=by
 obtain⟨x1,s1,hM1,hS1,hv1⟩:=pubAll_sound (l:=slIds raw 0 vs) hM hS hv;generalize pubAll c vs (slIds raw 0 vs)=z at h hS1 hv1;obtain⟨c1,vs1⟩:=z;simp only at hS1 hv1;simp only [finP]at h;have hE:=hS1.exact hM1;cases hb:(decide (k=0)&&(SV.idsL vs1).isEmpty&&keep.isEmpty)with
 |true=>rw [hb]at h;simp only [fin1,Option.some.injEq]at h;subst h;refine⟨x1, ?_,hE.heap.only (by simp) (by simp) (by simp),by simp,fun i hi=>hE.heap.pin i hi⟩;refine oneRep ?_;rw [bareL_eq];refine⟨by simpa using hv1.1,fun i hi=> ?_⟩;rw [getD_map_undef _ (by rfl)];exact(hv1.2 i (by simpa using hi)).bare rfl rfl
 | false=>
  rw [hb]at h;simp only [fin1]at h;generalize hz:tokL c1.tk keep 60 0 vs1=z at h;obtain⟨vs2,mt1⟩:=z;simp only [fin2]at h;generalize reach c1 60 [] (upto k++SV.idsL vs2)=m at h;cases ho:looks c1 m with
  |none=>rw [ho]at h;cases h
  | some os0=>
   rw [ho]at h;simp only [fin3]at h;generalize hz2:tokObs c1.tk (60+mt1.length) os0=z2 at h;obtain⟨os,mt2⟩:=z2;simp only [fin4]at h;cases hb2:(subB (SV.idsL vs2++obsIds os) m&&nodupB m&&nodupB (somes (mt1++mt2))&&decide (m.take k=upto k)&&(m.drop k).all fun o=>decide (k≤o))with
   |false=>rw [hb2]at h;cases h
   | true=>
    rw [hb2]at h;simp only [fin5,Option.some.injEq]at h;subst h;simp only [Bool.and_eq_true,decide_eq_true_eq,List.all_eq_true]at hb2;obtain⟨⟨⟨⟨hsub,hmn⟩,htn⟩,htake⟩,hdrop⟩:=hb2;obtain⟨hol,hog⟩:=looks_of ho;have hsubm:=subB_iff hsub;have hmnd:=nodupB_iff hmn;have htnd:=nodupB_iff htn
    have hul:∀n,(upto n).length=n:=by
     intro n;induction n with
     |zero=>rfl
     |succ n ih=>simp [upto,ih]
    have hkm:k≤m.length:=by have:=congrArg List.length htake;rw [List.length_take,hul]at this;omega
    have hfirst:∀i,i<k→m.getD i 0=i:=by
     intro i hi;have h1:(m.take k).getD i 0=m.getD i 0:=by simp only [List.getD_eq_getElem?_getD,List.getElem?_take,if_pos hi]
     rw [←h1,htake,upto_getD k i hi]
    have hrest:∀i,k≤i→i<m.length→k≤m.getD i 0:=by
     intro i h1 h2;refine hdrop _ ?_
     have:m.getD i 0=(m.drop k).getD (i-k) 0:=by simp only [List.getD_eq_getElem?_getD,List.getElem?_drop];congr 2;omega
     rw [this];exact getD_mem (by rw [List.length_drop];omega)
    let τ2:Nat→Nat×Nat×Nat:=fun t=>if 60≤t∧t<60+(mt1++mt2).length then tokAt x1 ((mt1++mt2).getD (t-60) none)else(0,0,0)
    let x2:Sit:=⟨x1.G,x1.β,τ2⟩
    let x3:Sit:=⟨x1.G,fun i=>if i<100 then x1.β i else x1.β (m.getD (i-100) 0),τ2⟩
    have hτ:∀y:Sit,y.τ=τ2→Toks x1 y 60 (mt1++mt2):=by
     intro y hy j hj;rw [hy];show(if _ then _ else _)=_;rw [if_pos ⟨by omega,by omega⟩]
     congr 2;omega
    have hmem:∀i,i<m.length→(m.getD i 0,os0.getD i (.rc []))∈c1.ob:=fun i hi=>getO_mem (hog i hi)
    have hβ:∀o∈m,x3.β (newIx k m o)=x1.β o:=by
     intro o ho;unfold newIx;split
     ·rename_i hlt
      show(if _ then _ else _)=_;rw [if_pos (by omega)]
     ·show(if _ then _ else _)=_
      rw [if_neg (by omega)];have e:100+ixOf m o-100=ixOf m o:=by omega
      rw [e,(ixOf_lt ho).2]
    have hT2:=hτ x2 rfl
    have ha2:RepL x2 vs2 us:=by have:=tokL_rep (x:=x1) (x1:=x2) rfl rfl (tk:=c1.tk) (own:=keep) (j:=60) (i:=0) hv1 (by rw [hz];exact hT2.left);rwa [hz]at this
    have hrr:Rep x3 ((oneSV vs2).ren (newIx k m) id) (oneV us):=by
     refine Rep.renF (x:=x2) (x2:=x3) (fun _ _ _ h=>h) (oneRep ha2) (fun j hj=>hβ j (hsubm j (List.mem_append.2 (.inl ?_)))) (fun t _=>rfl)
     have key:∀l:List SV,∀j∈(oneSV l).ids,j∈SV.idsL l:=by
      intro l j hj
      match l with
      |[]=>exact hj
      |[v]=>simpa [oneSV,SV.idsL]using hj
      |v::u::r=>exact hj
     exact key vs2 j hj
    obtain⟨hosl,hosr⟩:=tokObs_rep (x:=x1) (x1:=x2) (w:=w) rfl rfl (tk:=c1.tk) (obs:=os0) (j:=60+mt1.length) (f:=fun i=>m.getD i 0)
     (fun i hi=>(hE.heap.obs _ (hmem i (by omega))).1) (by rw [hz2];exact hT2.right)
    rw [hz2]at hosl hosr;simp only at hosl hosr
    have hwf:∀o∈os,o.wf=true:=by
     intro o ho'
     have:=tokObs_wf (tk:=c1.tk) (obs:=os0) (j:=60+mt1.length) (fun o h'=>by obtain⟨i,hi,rfl⟩:=List.getElem_of_mem h';have:=hS1.inv.wf _ (hmem i (by omega));simpa [List.getD_eq_getElem?_getD,List.getElem?_eq_getElem hi]using this) o (by rw [hz2];exact ho')
     exact this
    have hall:∀p∈zipIx 0 (renObL (newIx k m) id (os.take k))++zipIx (100+k) (renObL (newIx k m) id (os.drop k)),∃i,i<m.length∧p.1=newIx k m (m.getD i 0)∧p.2=(os.getD i (.rc [])).ren (newIx k m) id∧os.getD i (.rc [])∈os:=by
     intro p hp
     have gd:∀ {l:List SObj} {i:Nat},i<l.length→(renObL (newIx k m) id l).getD i (.rc [])=(l.getD i (.rc [])).ren (newIx k m) id:=by intro l i hi;rw [renObL_eq,List.getD_eq_getElem?_getD,List.getD_eq_getElem?_getD,List.getElem?_map,List.getElem?_eq_getElem hi];rfl
     have gm:∀ {i:Nat},i<os.length→os.getD i (.rc [])∈os:=fun {i} hi=>by rw [List.getD_eq_getElem?_getD,List.getElem?_eq_getElem hi];exact List.getElem_mem _
     rcases List.mem_append.1 hp with hp|hp
     ·obtain⟨i,h1,h2,h3⟩:=mem_zipIx.1 hp
      rw [renObL_eq,List.length_map,List.length_take]at h1;have e:(os.take k).getD i (.rc [])=os.getD i (.rc []):=by simp only [List.getD_eq_getElem?_getD,List.getElem?_take,if_pos (show i<k by omega)]
      refine⟨i,by omega, ?_, ?_,gm (by omega)⟩
      ·rw [h2,hfirst i (by omega)];unfold newIx;rw [if_pos (by omega)];omega
      ·rw [h3,gd (by rw [List.length_take];omega),e]
     ·obtain⟨i,h1,h2,h3⟩:=mem_zipIx.1 hp
      rw [renObL_eq,List.length_map,List.length_drop]at h1;have hi:k+i<m.length:=by omega
      have e:(os.drop k).getD i (.rc [])=os.getD (k+i) (.rc []):=by simp only [List.getD_eq_getElem?_getD,List.getElem?_drop]
      refine⟨k+i,hi, ?_, ?_,gm (by omega)⟩
      ·have h5:=hrest (k+i) (by omega) hi
       have h6:=ixOf_lt (getD_mem hi);have h7:ixOf m (m.getD (k+i) 0)=k+i:=nodup_getD hmnd h6.1 hi h6.2;unfold newIx;rw [if_neg (by omega),h7,h2];omega
      ·rw [h3,gd (by rw [List.length_drop];omega),e]
    have hmt:∀t∈somes (mt1++mt2),t∈c1.tk:=by
     intro t ht;rw [somes_append,List.mem_append]at ht;rcases ht with ht|ht
     ·exact tokL_in (tk:=c1.tk) (own:=keep) (cs:=vs1) (j:=60) (i:=0) t (by rw [hz];exact ht)
     ·exact tokObs_in (tk:=c1.tk) (obs:=os0) (j:=60+mt1.length) t (by rw [hz2];exact ht)
    have htok:∀t∈tks 60 (mt1.length+mt2.length),(x3.τ t).2.1=(x3.τ t).2.2∨∃u,(mt1++mt2).getD (t-60) none=some u∧u∈c1.tk∧x3.τ t=x1.τ u:=by
     intro t ht;obtain⟨h1,h2⟩:=mem_tks.1 ht;have e:=hτ x3 rfl (t-60) (by rw [List.length_append];omega);rw [show 60+(t-60)=t by omega]at e;cases hu:(mt1++mt2).getD (t-60) none with
     |none=>rw [hu]at e;rw [e];exact .inl rfl
     |some u=>rw [hu]at e;exact .inr ⟨u,rfl,hmt u (getD_some_mem hu),e⟩
    refine⟨x3,hrr,hE.heap.sel (x2:=x3) rfl ?_ ?_ ?_ ?_ ?_ ?_, ?_, ?_⟩
    ·intro p hp
     obtain⟨i,h1,h2,h3,h4⟩:=hall p hp;have hm':=getD_mem h1;refine⟨?_,_,hmem i h1,by rw [h2];exact hβ _ hm'⟩;rw [h2,h3];exact(hosr i (by omega)).renF (x2:=x3) (fun _ _ _ h=>h) (hβ _ hm') (fun j hj=>hβ j (hsubm j (List.mem_append.2 (.inr (obsIds_mem h4 j hj))))) (fun t _=>rfl)
    ·rw [List.map_append,List.nodup_append]
     refine⟨nodup_zipIx _ _,nodup_zipIx _ _,fun u hu v hv e=> ?_⟩;obtain⟨p,hp,rfl⟩:=List.mem_map.1 hu;obtain⟨r,hr,rfl⟩:=List.mem_map.1 hv;obtain⟨i,h1,h2,_⟩:=mem_zipIx.1 hp;obtain⟨j,h3,h4,_⟩:=mem_zipIx.1 hr;rw [renObL_eq,List.length_map,List.length_take]at h1;omega
    ·intro p hp r hr hpr
     obtain⟨i,h1,h2,_⟩:=hall p hp;obtain⟨j,h3,h4,_⟩:=hall r hr;rw [h2,h4,hβ _ (getD_mem h1),hβ _ (getD_mem h3)]at hpr;have:=hE.heap.inj _ (hmem i h1) _ (hmem j h3) hpr;simp only at this;rw [h2,h4,this]
    ·intro t ht
     rcases htok t ht with g|⟨u,_,g1,g2⟩
     ·exact .inl g
     ·exact .inr ⟨u,g1,g2⟩
    ·intro t ht u hu htu
     rcases htok t ht with g|⟨t',g0,g1,g2⟩
     ·exact .inl g
     ·rcases htok u hu with g|⟨u',k0,k1,k2⟩
      ·exact .inr (.inl g)
      ·refine .inr (.inr ⟨t',g1,u',k1,nodup_somes htnd ?_ g0 k0,g2,k2⟩)
       have:=mem_tks.1 ht;have:=mem_tks.1 hu;omega
    ·intro i hi
     show(if _ then _ else _)=_;rw [if_pos hi]
    ·intro p hp
     obtain⟨i,h1,h2,h3,h4⟩:=hall p hp;rw [h3];exact ren_wf (hwf _ h4)
    ·intro i hi
     show(if _ then _ else _)=_;rw [if_pos hi];exact hE.heap.pin i hi
structure FnOK (P:Program) (g:Nat) (F:FnC):Prop where
 fn:∃fn,P.funcs[g]? =some fn∧fn.body.map (resB P)=some F.code.er∧fn.ntmps=F.n∧rvsOK P fn.results.toList F.rs
 cb:callableB P g=true
 ok:F.code.ok F.n=true
def TabOK (P:Program) (T:Table):Prop:=∀g b,T.fn g=some b→match b with
 | .code F=>FnOK P g F
 | .prim f=>∀as os k q,f as os k=some q→SpecT P g as os k (· =q)
theorem zipIx_idx (os:List SObj):∀o,(idx os).lookup o=getO (zipIx 0 os) o:=by
 intro o;have h1:((idx os).map Prod.fst).Nodup:=nodup_idx os;have h2:=nodup_zipIx os 0
 have hm:∀p,p∈idx os↔p∈zipIx 0 os:=by
  intro p;rw [mem_idx,mem_zipIx];constructor
  ·rintro⟨g1,g2⟩;exact⟨p.1,g1,by omega,g2⟩
  ·rintro⟨i,g1,g2,g3⟩
   have e:p.1=i:=by omega
   rw [e];exact⟨g1,g3⟩
 rw [lookup_getO];refine opt_ext (fun v hv=> ?_) (fun v hv=> ?_)
 ·exact mem_getO (p:=(o,v)) h2 ((hm _).1 (getO_mem hv))
 ·exact mem_getO (p:=(o,v)) h1 ((hm _).2 (getO_mem hv))
theorem initT_get (n:Nat):∀(l:List SV) (i:Nat),getT (initT i l) n=if i≤n then l.getD (n-i) .undef else .undef
 |[],i=>by simp [initT,getT]
 | v::r,i=>by
  simp only [initT,getT,initT_get n r (i+1)]
  by_cases h:i=n
  ·subst h;simp
  ·rw [if_neg h]
   by_cases h2:i≤n
   ·rw [if_pos h2,if_pos (by omega)]
    obtain⟨k,hk⟩:∃k,n-i=k+1:=⟨n-i-1,by omega⟩;rw [hk,List.getD_cons_succ];congr 1;omega
   ·rw [if_neg h2,if_neg (by omega)]
theorem mem_initT {p:Nat×SV}:∀ {l:List SV} {i:Nat},p∈initT i l→p.1<i+l.length
 |v::r,i,h=>by
  simp only [initT]at h;rcases List.mem_cons.1 h with e|e
  ·rw [e];simp
  ·have:=mem_initT e;simp only [List.length_cons];omega
theorem so_zipIx:∀(l:List SObj) (k:Nat),((zipIx k l).map Prod.fst).Pairwise (· < ·)
 |[],_=>by simp [zipIx]
 |o::r,k=>by simp only [zipIx,List.map_cons,List.pairwise_cons];refine⟨fun n hn=> ?_,so_zipIx r (k+1)⟩;obtain⟨p,hp,rfl⟩:=List.mem_map.1 hn;obtain⟨i,_,h2,_⟩:=mem_zipIx.1 hp;omega
theorem callB_sound {n:Nat} (hR:RunOK P T n) (hT:TabOK P T):CallOK P (callN T n):=by
 intro g as os k q hq;unfold callN at hq;cases hg:T.fn g with
 |none=>rw [hg]at hq;cases hq
 | some b=>
  have hb:=hT g b hg;cases b with
  |prim f=>rw [hg]at hq;exact hb as os k q hq
  | code F=>
   rw [hg]at hq;simp only [callB,iniC]at hq;obtain⟨⟨fn,hfn,hbody,hnt,hrv⟩,hcb,hok⟩:=hb;refine⟨hcb, ?_⟩;split at hq
   case isFalse=>cases hq
   rename_i hle;intro C x w vs hw0 hG0 hmine hlen hwf hH hargs;cases hbd:fn.body with
   |none=>simp [hbd]at hbody
   | some code=>
    simp only [hbd,Option.bind_some]at hbody;refine calls_of_wp hfn hbd ?_;have hl:=hargs.1
    let s0:St:=⟨as++List.replicate (F.n-as.length) .undef,idx os,tks 50 k⟩
    have hM0:Models C x s0 {tmps:=(⟨vs⟩:Array Value)++Array.replicate (fn.ntmps-(⟨vs⟩:Array Value).size) Go.undef,defers:=[]} w:=by
     refine⟨?_,rfl,hH⟩
     have e1:((⟨vs⟩:Array Value)++Array.replicate (fn.ntmps-(⟨vs⟩:Array Value).size) Go.undef).toList=vs++List.replicate (F.n-as.length) Go.undef:=by simp [hnt,hl]
     rw [e1];refine hargs.append ⟨by simp,fun i hi=> ?_⟩;rw [getD_replicate _ _ _ _ (by simpa using hi)];exact .undef _
    have hS0:Sim F.n (initC as os k) s0:=by
     refine⟨⟨fun p hp=> ?_,so_zipIx os 0,fun p hp=> ?_⟩, ?_,fun o=>zipIx_idx os o,fun t=>Iff.rfl⟩
     ·have:=mem_initT hp;omega
     ·obtain⟨i,h1,_,h3⟩:=mem_zipIx.1 hp
      rw [h3,List.getD_eq_getElem?_getD,List.getElem?_eq_getElem h1];exact hwf _ (List.getElem_mem _)
     ·apply List.ext_getElem?
      intro i;show(as++List.replicate (F.n-as.length) SV.undef)[i]? =_;rw [List.getElem?_map];rcases Nat.lt_or_ge i F.n with hi|hi
      ·rw [List.getElem?_range hi]
       have e:(initC as os k).get i=as.getD i .undef:=by show getT (initT 0 as) i=_;rw [initT_get];simp
       simp only [Option.map_some,e,List.getElem?_append,List.getElem?_replicate]
       by_cases h:i<as.length
       ·rw [if_pos h,List.getD_eq_getElem?_getD,List.getElem?_eq_getElem h];rfl
       ·rw [if_neg h,if_pos (by omega),List.getD_eq_getElem?_getD,List.getElem?_eq_none (by omega)];rfl
      ·rw [List.getElem?_eq_none (by simp;omega),List.getElem?_eq_none (by simpa using hi)];rfl
    cases hs:runN T n F.code (initC as os k)with
    |none=>rw [hs]at hq;cases hq
    | some p=>
     obtain⟨e,c1⟩:=p;rw [hs]at hq;refine wp_mono (hR.1 _ _ _ _ hs code C F.n _ w (by simpa using hbody) hok ⟨x,s0,hM0,hS0⟩) ?_;rintro e' a' w' ⟨rfl,x1,s1,hM1,hS1⟩
     have main:fin0 F.keep F.raw os.length c1 (resC c1 F.rs)=some q→a'.defers=[]∧∃v,(results fn a'.tmps).run P w'= .ok v w'∧∃v',∃x':Sit,∃q',Ending.returned v= .returned v'∧q'=q∧Rep x' q'.r v'∧Heap C x' q'.os q'.tk w'∧(∀p∈q'.os,p.2.wf=true)∧∀i,i<os.length→x'.β i=x.β i:=by
      intro hf;cases hrc:resC c1 F.rs with
      |none=>rw [hrc]at hf;cases hf
      | some rv=>
       rw [hrc]at hf;obtain⟨p,h1,h2⟩:=resC_of (P:=P) hS1 hrv hrc;obtain⟨us,hrun,hl⟩:=results_sound hM1 h1 h2;obtain⟨x',g1,g2,g3,g4⟩:=fin_sound hM1 hS1 hlen hl hf;refine⟨hM1.defers,oneV us, ?_,oneV us,x',q,rfl,rfl,g1,g2,g3,fun i hi=> ?_⟩
       ·rw [results_eq,Array.mapM_eq_mapM_toList]
        simp only [Sem.run_bind,Sem.run_map,hrun,Result.andThen_ok,Sem.run_pure];rfl
       ·rw [g4 i (by omega)];exact(hH.pin i (by omega)).symm
     cases e with
     |n=>exact main hq
     |r=>exact main hq
     |x id=>cases hq
theorem runOK (hT:TabOK P T):∀n,RunOK P T n
 |0=>runOK_zero
 |n+1=>runOK_succ (runOK hT n) (callB_sound (runOK hT n) hT)
theorem call_sound (hT:TabOK P T):CallOK P (call T):=by intro g as os k q hq;obtain⟨n,hn⟩:=of_call hq;exact callB_sound (runOK hT n) hT g as os k q hn
theorem fn_call (hT:TabOK P T) {g:Nat} {as:List SV} {r:SV} (h:call T g as [] 0=some ⟨r,[],[]⟩) (ht:r.toks=[]):Fn P g as r:=by obtain⟨h1,h2⟩:=call_sound hT _ _ _ _ _ h;refine⟨h1,fun C x w vs hw hG hm hl hH hv=> ?_⟩;refine(h2 C x w vs hw hG (fun b hb=>(hm b hb).imp id (fun⟨i,hi,_⟩=>by simp at hi)) (by simp) (by simp) hH hv).mono ?_;rintro en w' ⟨v,x',q,rfl,rfl,hr,hH',_,hg⟩;exact⟨v,x',r,[],rfl,⟨rfl,rfl⟩,hr,by rw [ht];exact hH',hg⟩
def rvOKb (P:Program):ResultVar→RV→Bool
 | .tmp t,.tmp t'=>decide (t=t')
 | .cell t ty,.cell t' n ag=>decide (t=t')&&decide (szOf P ty=some n)&&decide (isAg P ty=some ag)
 |_,_=>false
def rvsOKb (P:Program):List ResultVar→List RV→Bool
 |[],[]=>true
 |a::r,b::s=>rvOKb P a b&&rvsOKb P r s
 |_,_=>false
theorem rvsOK_of:∀ {rs:List ResultVar} {rv:List RV},rvsOKb P rs rv=true→rvsOK P rs rv
 |[],[],_=>trivial
 |[],_::_,h=>by cases h
 |_::_,[],h=>by cases h
 |a::r,b::s,h=>by
  simp only [rvsOKb,Bool.and_eq_true]at h;refine⟨?_,rvsOK_of h.2⟩;have h1:=h.1;cases a<;>cases b<;>simp only [rvOKb,Bool.and_eq_true,decide_eq_true_eq]at h1<;>first|(cases h1;done)|skip
  ·exact h1
  ·exact⟨h1.1.1,h1.1.2,h1.2⟩
theorem fnOK_of {g:Nat} {F:FnC} {fn:Func} (h1:P.funcs[g]? =some fn) (h2:fn.body.map (resB P)=some F.code.er) (h3:fn.ntmps=F.n) (h4:rvsOKb P fn.results.toList F.rs=true) (h5:callableB P g=true) (h6:F.code.ok F.n=true):FnOK P g F:=
 ⟨⟨fn,h1,h2,h3,rvsOK_of h4⟩,h5,h6⟩
end Go.Sy
namespace Go.Sy
variable [LaidData]
open Go.RowKit Go.ChangeShapes Go.WideShapes
def GW (w:World):GM:=fun b o=>w.cell? ⟨b,o,none⟩
def sitW (w:World):Sit:=⟨GW w,fun _=>0,fun _=>(0,0,0)⟩
theorem heapW (w:World) (hL:Lay (GW w)):Heap ⟨w,GW w,fun b=>w.heap.size≤b,fun _=>0⟩ (sitW w) [] [] w where
 per:=fun _ _ _ h=>h
 g0:=fun _ _ _ h=>h
 gm:=fun _ _ _ h=> .inl h
 new:=fun _ h=>h
 obs:=by simp
 nd:=List.nodup_nil
 inj:=by simp
 tks:=by simp
 tko:=by simp
 tkd:=by simp
 os:=rfl
 tape:=rfl
 output:=rfl
 size:=Nat.le_refl _
 ext:=fun _ _=>rfl
 pin:=fun _ _=>rfl
 lay:=hL
theorem rep_bool_inv {x:Sit} {b:Bool} {v:Value} (h:Rep x (.bool b) v):v= .bool b:=by
 cases h with
 |dat _ _ h _=>cases h;rfl
theorem law_calls {P:Program} {f:Nat} {as:List SV} (h:Fn P f as (.bool true)) {W:World} {vs:List Value} (hv:RepL (sitW W) as vs) (hL:Lay (GW W)):
 Calls P f ⟨vs⟩ W fun e W'=>e= .returned (.bool true)∧Below W.heap.size W W':=by
 refine(h.2 ⟨W,GW W,fun b=>W.heap.size≤b,fun _=>0⟩ (sitW W) W vs rfl rfl (fun b hb=> .inl hb) (by simp) (heapW W hL) hv).mono ?_;rintro e W' ⟨v,x',r,os',rfl,⟨rfl,rfl⟩,hr,hH,_⟩;obtain rfl:=rep_bool_inv hr;exact⟨rfl,hH.os,hH.tape,hH.output,hH.size,fun k hk=>hH.ext k (by simp;omega)⟩
section
variable {H : Type} {enc : TypeId × Value → H} {P : Program} {w : World} {base : Nat} {sp : Nat → Bool} {hd : Bool} {r : Reach} {b0 : Nat} {t e : TypeId} {v : Value} {d : DataW H} {ps : List MemPlace}
theorem arg_int {k:IntKind} (ht:P.underlying t=some (.int k)) (hval:Value.okWide P w r b0 t v) (h:DataW.Trod enc P w base sp hd t v d ps):∃n,k.has n∧Rep (sitW w) (.int k n) v:=by obtain⟨n,rfl,_,_,hw⟩:=open_int ht hval h;simp only [Lit.wf,Bool.and_eq_true,decide_eq_true_eq]at hw;exact⟨n,hw,.dat _ _ (.int k n) trivial⟩
theorem spot_slice {a:Addr} {len cap:Nat} (ht:P.underlying t=some (.slice e)) (hval:Value.okWide P w r b0 t (.slice (some a) len cap)):a.spot=none:=by simp only [Value.okWide,ht,Cell.okWide,Cell.ok]at hval;exact hval.2.2.2.1
theorem u8_int {n:Int} (h:(Lit.int .u8 n).wf=true):((UInt8.ofNat n.toNat).toNat:Int)=n:=by
 simp only [Lit.wf,IntKind.min,IntKind.max,IntKind.signed,IntKind.bits,Bool.and_eq_true,decide_eq_true_eq]at h;rw [UInt8.toNat_ofNat'];have:n.toNat<256:=by simp at h;omega
 rw [Nat.mod_eq_of_lt this];simp at h;omega
theorem arg_bytes (ht:P.underlying t=some (.slice e)) (he:P.underlying e=some (.int .u8)) (hc:P.cellsOf e=1) (hval:Value.okWide P w r b0 t v) (h:DataW.Trod enc P w base sp hd t v d ps):
 ∃l:List UInt8,l.length≤maxLen∧Rep (sitW w) (.byt l .no) v:=by
 obtain⟨a0,len,cap,rfl⟩:=okWide_slice ht hval;obtain⟨fuel,hf⟩:=h;rcases open_ints ht he hc hf with⟨hcs,_⟩|⟨a,len',cap',zs,hcs,_,hl,hm,hz,_,hcell,hwf⟩
 ·simp [Value.cells]at hcs
  obtain⟨rfl,rfl,rfl⟩:=hcs;exact⟨[],by simp,.dat _ _ (.bytN .no) trivial⟩
 ·simp [Value.cells]at hcs
  obtain⟨rfl,rfl,rfl⟩:=hcs;have hs:=spot_slice ht hval;obtain⟨b,off,spot⟩:=a;simp only at hs;subst hs;have hzl:len≤zs.length:=by rw [hz];split<;>omega
  refine⟨(zs.take len).map fun n=>UInt8.ofNat n.toNat,by simp;omega,.dat _ _ (.byt _ .no b off cap len (by simp;omega) hl (fun i hi=> ?_)) trivial⟩;have h1:=hcell i (by omega);have hi':i<zs.length:=by omega
  rw [add_plain]at h1
  have e1:((zs.take len).map fun n=>UInt8.ofNat n.toNat).getD i 0=UInt8.ofNat (zs.getD i 0).toNat:=by simp [List.getD_eq_getElem?_getD,hi',hi]
  show w.cell? _=_;rw [h1,e1]
  congr 2
  refine(u8_int (hwf _ ?_)).symm;rw [List.getD_eq_getElem?_getD,List.getElem?_eq_getElem hi'];exact List.getElem_mem hi'
end
theorem repL_nil {x:Sit}:RepL x [] []:=⟨rfl,by simp⟩
section
variable {H : Type} {enc : TypeId × Value → H} {P : Program}
theorem post_law {f:Func} {s:ChangeSpec} {apart fresh handsOn again:Bool} {W W':World} {args:Array Value} {v:Value} {ds gs:List (DataW H)} {before pa pv:List MemPlace}
 (hW:DataW.Whole enc P f.params.toList s.vars apart W args.toList ds gs before)
 (hres:∀(b:Nat) (sp:Nat→Bool) (hd:Bool),DataW.TrodAll enc P W' b sp hd f.resultTypes.toList (v.resultList f.resultTypes.size) (s.fn H (ds++gs)).results [])
 (hargs:∀sp:Nat→Bool,(∀p∈before,sp p.block=true)→DataW.TrodAll enc P W' 0 sp true f.params.toList args.toList (s.fn H (ds++gs)).args pa)
 (hvars:∀sp:Nat→Bool,(∀p∈before,sp p.block=true)→DataW.TrodVars enc P W' sp s.vars (s.fn H (ds++gs)).vars pv)
 (hps:before=pa++pv) (hb:Below W.heap.size W W')
 (hok:∀(j:Nat) (t:TypeId) (r:Value),f.resultTypes[j]? =some t→(v.resultList f.resultTypes.size)[j]? =some r→Value.okWide P W' .any 0 t r):
 s.post enc P f apart fresh handsOn again W args v W':=by
 have hlt:=hW.lt;have hold:∀p∈before,(fun b=>decide (b<W.heap.size)) p.block=true:=fun p hp=>by simpa using hlt p hp
 refine⟨ds,gs,before,[],pa,pv,hW,hres _ _ _,hargs _ hold,hvars _ hold,World.keptBut_mono (fun p hp=>⟨hp, ?_⟩) (hb.frame (· ∈before)),fun _=> ?_⟩
 ·rw [hps,List.mem_append]at hp
  exact Or.inr hp
 ·obtain⟨_,_,_,_,_,hz,hn⟩:=hW
  refine⟨hok,_,_,([]++pa)++pv,⟨[]++pa,pv,trodAll_append (hargs _ (fun _ _=>rfl)) (hres _ _ _),hvars _ (fun _ _=>rfl),rfl, ?_, ?_⟩, ?_⟩
  ·intro b off hp
   have hp':MemPlace.cell b off∈before:=by rw [hps];simpa using hp
   rw [hb.frozen (p:=⟨b,off,none⟩) (hlt _ hp')];exact hz b off hp'
  ·intro ha
   have:=hn ha;rw [hps]at this;simpa using this
  ·intro p hp _
   rw [hps];simpa using hp
theorem trodAll_stays (hl:laidOutB P=true) {W W':World} (hb:Below W.heap.size W W'):∀ {ts:List TypeId} {vs:List Value} {ds:List (DataW H)} {p:List MemPlace},(ts.all fun t=>P.readableRec t&&decide (t<P.types.size))=true→
 DataW.TrodAll enc P W 0 (fun _=>true) true ts vs ds p→(∀x∈p,x.block<W.heap.size)→∀sp:Nat→Bool,(∀x∈p,sp x.block=true)→DataW.TrodAll enc P W' 0 sp true ts vs ds p
 |[],_,_,_,_,h,_,_,_=>by obtain⟨rfl,rfl,rfl⟩:=trodAll_nil h;exact trodAll_mk0
 |t::ts,_,_,_,hr,h,hlt,sp,hsp=>by obtain⟨v,vs1,d,ds1,a,b,rfl,rfl,rfl,h1,h2⟩:=trodAll_cons h;simp only [List.all_cons,Bool.and_eq_true,decide_eq_true_eq]at hr;refine trodAll_cons_mk ?_ (trodAll_stays hl hb (by simpa using hr.2) h2 (fun x hx=>hlt x (List.mem_append_right _ hx)) sp (fun x hx=>hsp x (List.mem_append_right _ hx)));exact WideElems.Trod_stays hl hr.1.1 hr.1.2 h1 (fun x hx=>hb.same (hlt x (List.mem_append_left _ hx))) (fun x hx=>hsp x (List.mem_append_left _ hx))
theorem law_post {f:Func} {s:ChangeSpec} {W W':World} {args:Array Value} {ds gs:List (DataW H)} {before:List MemPlace} {tb:TypeId} (hl:laidOutB P=true)
 (hr:(f.params.toList.all fun t=>P.readableRec t&&decide (t<P.types.size))=true) (hrt:f.resultTypes= #[tb]) (htb:P.underlying tb=some .bool) (hvars:s.vars=[])
 (hfn:(s.fn H (ds++gs)).results=[.lit (.bool true)]) (hfa:(s.fn H (ds++gs)).args=ds) (hfv:(s.fn H (ds++gs)).vars=[])
 (hW:DataW.Whole enc P f.params.toList s.vars false W args.toList ds gs before) (hb:Below W.heap.size W W'):
 s.post enc P f false true false false W args (.bool true) W':=by
 have hlt:=hW.lt;have hW':=hW;obtain⟨p,q,hA,hV,rfl,hfz,hnd⟩:=hW;rw [hvars]at hV;obtain⟨rfl,rfl⟩:=trodVars_none hV;simp only [List.append_nil]at hlt hW' hfz;refine post_law (pa:=p) (pv:=[]) (before:=p) (gs:=[]) hW' (fun b sp hd=> ?_) (fun sp hsp=> ?_) (fun sp hsp=> ?_) (by simp) hb (ok_one hrt rfl (okWide_bool_mk htb _))
 ·rw [hfn,hrt]
  exact trodAll_cons_mk (shut_bool htb _) trodAll_mk0
 ·rw [hfa]
  exact trodAll_stays hl hb hr hA hlt sp hsp
 ·rw [hvars,hfv]
  rfl
end
end Go.Sy
namespace Go.Sy
variable [LaidData]
open Go.RowKit Go.ChangeShapes Go.WideShapes
variable {P : Program} {C : Ctx} {x : Sit} {w w' : World}
theorem Owned.below {b:Nat} {c:Array Value} {e:TypeId} {fl fh:Nat} (h:Owned w b c e fl fh) (hb:Below w.heap.size w w'):Owned w' b c e fl fh:=h.of_heap (hb.block b h.lt)
theorem Heap.below {ob:List (Nat×SObj)} {tk:List Nat} (h:Heap C x ob tk w) (hb:Below w.heap.size w w'):Heap C x ob tk w' where
 per:=fun b o v hv=>by rw [cell_of_heap (hb.block b (h.ltG hv))];exact h.per b o v hv
 g0:=h.g0
 gm:=h.gm
 new:=h.new
 obs:=fun p hp=>by obtain⟨⟨c,e,fl,fh,hO,r⟩,q⟩:=h.obs p hp;exact⟨⟨c,e,fl,fh,hO.below hb,r⟩,q⟩
 nd:=h.nd
 inj:=h.inj
 tks:=fun t ht=>(h.tks t ht).imp id fun⟨⟨c,e,fl,fh,hO,r⟩,q⟩=>⟨⟨c,e,fl,fh,hO.below hb,r⟩,q⟩
 tko:=h.tko
 tkd:=h.tkd
 os:=hb.os.trans h.os
 tape:=hb.tape.trans h.tape
 output:=hb.output.trans h.output
 size:=Nat.le_trans h.size hb.size
 ext:=fun b hn=>by
  rcases Nat.lt_or_ge b w.heap.size with h1|h1
  ·rw [hb.block b h1];exact h.ext b hn
  ·exact absurd (h.new b (Nat.le_trans h.size h1)) hn
 pin:=h.pin
 lay:=h.lay
def bytesAt (w:World) (l:List UInt8) (v:Value):Prop:=
 (l=[]∧v= .slice none 0 0)∨∃b off n cap,v= .slice (some ⟨b,off,none⟩) n cap∧n=l.length∧∀i,i<n→w.cell? ⟨b,off+i,none⟩=some (.int .u8 (l.getD i 0).toNat)
theorem bytesAt_of {l:List UInt8} {t:Tok} {v:Value} (h:Rep x (.byt l t) v) (hp:∀b o v,x.G b o=some v→w.cell? ⟨b,o,none⟩=some v):bytesAt w l v:=by
 cases h with
 |dat _ _ h _=>
  cases h with
  |bytN=>exact .inl ⟨rfl,rfl⟩
  |byt _ _ b off cap n hn hc h=>exact .inr ⟨b,off,n,cap,rfl,hn,fun i hi=>hp _ _ _ (h i hi)⟩
theorem str_of {l:List UInt8} {v:Value} (h:Rep x (.str l) v):v= .string ⟨⟨l⟩⟩:=by
 cases h with
 |dat _ _ h _=>cases h;rfl
theorem specT_data {g:Nat} {as:List SV} {r:SV} (hcb:callableB P g=true)
 (h:∀(x:Sit) (w:World) (vs:List Value),RepL x as vs→(∀b o v,x.G b o=some v→w.cell? ⟨b,o,none⟩=some v)→
  Calls P g ⟨vs⟩ w fun e w'=>∃v,e= .returned v∧Rep x r v∧Below w.heap.size w w'):SpecT P g as [] 0 (· =⟨r,[],[]⟩):=by
 refine⟨hcb,fun C x w vs hw hG hm hl hwf hH hr=>(h x w vs hr hH.per).mono ?_⟩;rintro e w' ⟨v,rfl,hv,hb⟩;exact⟨v,x,_,rfl,rfl,hv,hH.below hb,fun p hp=>by simp at hp,fun i hi=>rfl⟩
theorem run_bytesAt {l:List UInt8} {v:Value} (h:bytesAt w l v):(Extern.Bytes.bytesOf v).run P w= .ok ⟨⟨l⟩⟩ w:=by
 rcases h with⟨rfl,rfl⟩|⟨b,off,n,cap,rfl,hn,hc⟩
 ·rfl
 ·have hl:=Lib.run_loadBytesX (P:=P) w (l.map fun c=>(c.toNat:Int)) ⟨b,off,none⟩ .empty (fun j z hj=>by
   have hj':j<l.length:=by have:=(List.getElem?_eq_some_iff.1 hj).1;simpa using this
   have e:(⟨b,off,none⟩:Addr).add j=⟨b,off+j,none⟩:=by unfold Addr.add;split<;>simp_all
   rw [e,hc j (by omega)];simp only [List.getElem?_map,List.getElem?_eq_getElem hj',Option.map_some,Option.some.injEq]at hj;rw [List.getD_eq_getElem?_getD,List.getElem?_eq_getElem hj',Option.getD_some,←hj])
  have e2:(⟨ByteArray.empty.data++(Lib.bytesOf (l.map fun c=>(c.toNat:Int))).toArray⟩:ByteArray)=⟨⟨l⟩⟩:=by
   apply ByteArray.ext;show(#[]:Array UInt8)++(Lib.bytesOf _).toArray=⟨l⟩
   have:Lib.bytesOf (l.map fun c=>(c.toNat:Int))=l:=by unfold Lib.bytesOf;rw [List.map_map];refine(List.map_congr_left (g:=id) fun c _=> ?_).trans (List.map_id _);simp
   rw [this];simp
  rw [List.length_map,e2]at hl;rw [hn];exact hl
theorem run_compareAt {a b:List UInt8} {u v:Value} (ha:bytesAt w a u) (hb:bytesAt w b v):(Extern.BytealgCompare.compare #[u,v]).run P w= .ok (.int .i64 (Lib.compareBytes a b)) w:=by change Sem.run P (do pure (goInt (Extern.BytealgCompare.cmp (←Extern.Bytes.bytesOf u) (←Extern.Bytes.bytesOf v)))) w=_;simp only [Sem.run_bind,run_bytesAt ha,run_bytesAt hb,Result.andThen,Sem.run_pure,Lib.cmp_eq];rfl
end Go.Sy
