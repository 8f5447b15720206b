/-
  CatalogFull holds: whatever the input, the law returns true and its arguments read as before. No condition.
-/
import Derived.Test.YtbfnljmmepcbfaaGreatDoorRows
import Derived.ProofKit
import Derived.JoinedOf
import Derived.LaidMore
import Derived.LaidLaws
import Derived.LaidHandle
import Derived.Test.YtbfnljmmepcbfaaGreatDoorZaPA
import Derived.Test.YtbfnljmmepcbfaaGreatDoorTpPA
namespace Go.Proofs.YtbfnljmmepcbfaaGreatDoor.gcatalogFull
open Go.Sy Go.ChangeShapes Go.WideShapes Go.RowKit
set_option linter.unusedVariables false
set_option maxRecDepth 100000
theorem own:ownKnob Tryz.prog.godebug=none:=by kernel_rfl
theorem pF(H:Type)(enc:TypeId×Value->H)(W:World)(base:Nat)(args:Array Value)(ds gs:List (DataW H))(before:List MemPlace)
 (hval:∀(j:Nat) t v,Tryz.f5.params[j]? =some t->args[j]? =some v->Value.okWide Tryz.prog W .any base t v)
 (hW:DataW.Whole enc Tryz.prog Tryz.f5.params.toList Rows.catalogFullSpec.vars false W args.toList ds gs before) (hX:laidMetH Tryz.prog l4 W):
 Calls Tryz.prog 5 args W fun e W'=>∃v,e= .returned v/\Rows.catalogFullSpec.post enc Tryz.prog Tryz.f5 false true false false W args v W':=by
 have hW':=hW;obtain⟨p,q,hA0,hV,rfl,hfz,hnd⟩:=hW;have hA:DataW.TrodAll enc Tryz.prog W 0 (fun _=>true) true Tryz.f5.params.toList args.toList ds p:=hA0;rw[Tryz.params5]at hA hval;obtain⟨rfl,rfl⟩:=trodVars_none hV;obtain⟨v0,vs0,d0,ds0,p0,q0,hargs,rfl,rfl,h0,r0⟩:=trodAll_cons hA;obtain⟨v1,vs1,d1,ds1,p1,q1,rfl,rfl,rfl,h1,r1⟩:=trodAll_cons r0;obtain⟨rfl,rfl,rfl⟩:=trodAll_nil r1;obtain rfl:args= #[v0,v1]:=by cases args;simp_all
 obtain⟨n0,hn0,k0⟩:=oW Tryz.underlying3 (hval 0 3 v0 rfl rfl) h0;obtain⟨lo0,up0⟩: -9223372036854775808<=n0/\n0<=9223372036854775807:=oI hn0;obtain⟨n1,hn1,k1⟩:=oW Tryz.underlying3 (hval 1 3 v1 rfl rfl) h1;obtain⟨lo1,up1⟩: -9223372036854775808<=n1/\n1<=9223372036854775807:=oI hn1;refine(rg (BI xh3 (f5 n0 n1 lo0 up0 lo1 up1) rfl) (eX.2 ⟨k0,(eX.2 ⟨k1,vd⟩)⟩) (Nf hX)).mono ?_;rintro e W' ⟨rfl,hb⟩;exact⟨_,rfl,vE (by kernel_rfl) (by kernel_rfl) (by kernel_rfl) Tryz.underlying4 rfl rfl rfl rfl hW' hb⟩
abbrev laid:List (String×DataW Unit):=Rows.catalogFullRow.laid
noncomputable def iT(os:Os):World:=World.doorLaid Tryz.prog 14 os
theorem met(os:Os)(args:Array Value):laidMetH Tryz.prog laid ((iT os).forCall (fun _ _=>0) ⟨#[],args,[]⟩).memory:=
 laidMetH_of_parts3 (fuel:=8) (laidMet_of_run' 8 (by kernel_rfl) (by kernel_rfl)) (by kernel_rfl) (by kernel_rfl)
theorem yV(os:Os)(started:os.Started)(H:Type)(enc:TypeId×Value->H):
 ReturnsInHanded {} Tryz.checked os 5 .any (fun w args=>(Rows.catalogFullSpec.pre enc Tryz.prog Tryz.f5 Rows.catalogFullRow.domain false w args/\laidMetH Tryz.prog laid w)/\sizedMet enc Tryz.prog Tryz.f5 (OpenSpec.ofChange Rows.catalogFullSpec) false w args) (Rows.catalogFullSpec.post enc Tryz.prog Tryz.f5 false true false false):=by
 refine returnsInHanded_of_change_and (C:=Tryz.checked) (X:=fun w _=>laidMetH Tryz.prog laid w) (fun _ _ _ hh h=>h.of_heap hh) own started (by kernel_rfl) Tryz.func5
  (ChangeSpec.witness_shaped (enc:=enc) (C:=Tryz.checked) (os:=os) (X:=fun w _=>laidMetH Tryz.prog laid w) false (iT os) #[.int .i64 0,.int .i64 0] 8 rfl (World.shaped_of_RefB (by kernel_rfl) (by kernel_rfl)) (by kernel_rfl) (by kernel_rfl) (by kernel_rfl) (met os _)) ?_
 intro W base args ds gs before hval hW _ _ hX _;exact pF H enc W base args ds gs before hval hW hX
theorem over:Rows.catalogFullRow.holds Tryz.pinned (OpenSpec.ofChange Rows.catalogFullSpec):=
 OpenClaim.holds_of_wide 5 Tryz.f5 rfl rfl rfl rfl rfl rfl rfl ⟨rfl,rfl,rfl,rfl,rfl⟩ rfl rfl rfl rfl rfl (by kernel_rfl) Tryz.func5 (by kernel_rfl)
  (of_decide_eq_true (by kernel_rfl)) (by unfold Func.isWrapper;first|(rw[if_pos (by decide+kernel)];kernel_rfl)|(rw[if_neg (by decide+kernel)];exact⟨rfl,rfl⟩))
  (fun os started H enc _=>yV os started H enc)
end Go.Proofs.YtbfnljmmepcbfaaGreatDoor.gcatalogFull
namespace Go.Proofs.YtbfnljmmepcbfaaGreatDoor
theorem catalogFull_holds:Rows.CatalogFullSaid:=gcatalogFull.over
end Go.Proofs.YtbfnljmmepcbfaaGreatDoor
