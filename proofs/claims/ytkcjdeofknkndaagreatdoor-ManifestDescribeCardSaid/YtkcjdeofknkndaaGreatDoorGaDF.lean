/-
  ManifestDescribe holds: whatever the input, the law returns true and its arguments read as before. No condition.
-/
import Derived.Test.YtkcjdeofknkndaaGreatDoorTnDF
import Derived.Test.YtkcjdeofknkndaaGreatDoorRows
import Derived.ProofKit
import Derived.JoinedOf
import Derived.LaidMore
import Derived.LaidLaws
import Derived.LaidHandle
import Derived.Test.YtkcjdeofknkndaaGreatDoorZaDF
import Derived.Test.YtkcjdeofknkndaaGreatDoorToDF
namespace Go.Proofs.YtkcjdeofknkndaaGreatDoor.gmanifestDescribe
open Go.Sy Go.ChangeShapes Go.WideShapes Go.RowKit
set_option linter.unusedVariables false
set_option maxRecDepth 100000
theorem own:ownKnob Tryz.prog.godebug=none:=by kernel_rfl
theorem F2(H:Type)(enc:TypeId×Value->H)(W:World)(base:Nat)(args:Array Value)(ds gs:List (DataW H))(before:List MemPlace)
 (hval:∀(j:Nat) t v,Tryz.f9.params[j]? =some t->args[j]? =some v->Value.okWide Tryz.prog W .any base t v)
 (hW:DataW.Whole enc Tryz.prog Tryz.f9.params.toList Rows.manifestDescribeSpec.vars false W args.toList ds gs before) (hX:laidMetH Tryz.prog oG W):
 Calls Tryz.prog 9 args W fun e W'=>∃v,e= .returned v/\Rows.manifestDescribeSpec.post enc Tryz.prog Tryz.f9 false true false false W args v W':=by
 have hW':=hW;obtain⟨p,q,hA0,hV,rfl,hfz,hnd⟩:=hW;have hA:DataW.TrodAll enc Tryz.prog W 0 (fun _=>true) true Tryz.f9.params.toList args.toList ds p:=hA0;rw[Tryz.params9]at hA hval;obtain⟨rfl,rfl⟩:=trodVars_none hV;obtain⟨v0,vs0,d0,ds0,p0,q0,hargs,rfl,rfl,h0,r0⟩:=trodAll_cons hA;obtain⟨v1,vs1,d1,ds1,p1,q1,rfl,rfl,rfl,h1,r1⟩:=trodAll_cons r0;obtain⟨v2,vs2,d2,ds2,p2,q2,rfl,rfl,rfl,h2,r2⟩:=trodAll_cons r1;obtain⟨v3,vs3,d3,ds3,p3,q3,rfl,rfl,rfl,h3,r3⟩:=trodAll_cons r2;obtain⟨v4,vs4,d4,ds4,p4,q4,rfl,rfl,rfl,h4,r4⟩:=trodAll_cons r3;obtain⟨rfl,rfl,rfl⟩:=trodAll_nil r4;obtain rfl:args= #[v0,v1,v2,v3,v4]:=by cases args;simp_all
 obtain⟨il0,k0⟩:=Gc (hval 0 52 v0 rfl rfl) h0;obtain⟨l1,hl1,k1⟩:=Dt Tryz.underlying26 (by kernel_rfl) (by kernel_rfl) (hval 1 26 v1 rfl rfl) h1;obtain⟨l2,hl2,k2⟩:=Rd Tryz.underlying9 (hval 2 9 v2 rfl rfl) h2;obtain⟨n3,hn3,k3⟩:=Cb Tryz.underlying3 (hval 3 3 v3 rfl rfl) h3;obtain⟨lo3,up3⟩: -9223372036854775808<=n3/\n3<=9223372036854775807:=BR hn3;obtain⟨n4,hn4,k4⟩:=Cb Tryz.underlying3 (hval 4 3 v4 rfl rfl) h4;obtain⟨lo4,up4⟩: -9223372036854775808<=n4/\n4<=9223372036854775807:=BR hn4;refine(CX (P7 Z2 (f9 il0 l1 l2 n3 n4 lo3 up3 lo4 up4) rfl) (fm.2 ⟨k0,(fm.2 ⟨k1,(fm.2 ⟨k2,(fm.2 ⟨k3,(fm.2 ⟨k4,ET⟩)⟩)⟩)⟩)⟩) (xcg hX)).mono ?_;rintro e W' ⟨rfl,hb⟩;exact⟨_,rfl,Fu (by kernel_rfl) (by kernel_rfl) (by kernel_rfl) Tryz.underlying4 rfl rfl rfl rfl hW' hb⟩
abbrev laid:List (String×DataW Unit):=Rows.manifestDescribeRow.laid
def firstCells:Array Value:=(Go.Pinned.utf8FirstZ.map fun(n:Nat)=>Value.int .u8 (n:Int)).toArray
noncomputable def qQ(os:Os):World:=
 {World.doorLaid Tryz.prog 82 os with heap:=(World.doorLaid Tryz.prog 82 os).heap.modify ((Tryz.prog.globalNamed "unicode/utf8.first").getD 0) fun
  | .cells _ t frozen=> .cells firstCells t frozen
  |o=>o}
theorem met(os:Os)(args:Array Value):laidMetH Tryz.prog laid ((qQ os).forCall (fun _ _=>0) ⟨#[],args,[]⟩).memory:=
 laidMetH_of_parts3 (fuel:=8) (laidMet_of_run' 8 (by kernel_rfl) (by kernel_rfl)) (by kernel_rfl) (by kernel_rfl)
theorem xcf(os:Os)(started:os.Started)(H:Type)(enc:TypeId×Value->H):
 ReturnsInHanded {} Tryz.checked os 9 .any (fun w args=>(Rows.manifestDescribeSpec.pre enc Tryz.prog Tryz.f9 Rows.manifestDescribeRow.domain false w args/\laidMetH Tryz.prog laid w)/\sizedMet enc Tryz.prog Tryz.f9 (OpenSpec.ofChange Rows.manifestDescribeSpec) false w args) (Rows.manifestDescribeSpec.post enc Tryz.prog Tryz.f9 false true false false):=by
 refine returnsInHanded_of_change_and (C:=Tryz.checked) (X:=fun w _=>laidMetH Tryz.prog laid w) (fun _ _ _ hh h=>h.of_heap hh) own started (by kernel_rfl) Tryz.func9
  (ChangeSpec.witness_shaped (enc:=enc) (C:=Tryz.checked) (os:=os) (X:=fun w _=>laidMetH Tryz.prog laid w) false (qQ os) #[.slice none 0 0,.slice none 0 0,.string ⟨#[]⟩,.int .i64 0,.int .i64 0] 8 rfl (World.shaped_of_RefB (by kernel_rfl) (by kernel_rfl)) (by kernel_rfl) (by kernel_rfl) (by kernel_rfl) (met os _)) ?_
 intro W base args ds gs before hval hW _ _ hX _;exact F2 H enc W base args ds gs before hval hW hX
theorem over:Rows.manifestDescribeRow.holds Tryz.pinned (OpenSpec.ofChange Rows.manifestDescribeSpec):=
 OpenClaim.holds_of_wide 9 Tryz.f9 rfl rfl rfl rfl rfl rfl rfl ⟨rfl,rfl,rfl,rfl,rfl⟩ rfl rfl rfl rfl rfl (by kernel_rfl) Tryz.func9 (by kernel_rfl)
  (of_decide_eq_true (by kernel_rfl)) (by unfold Func.isWrapper;first|(rw[if_pos (by decide+kernel)];kernel_rfl)|(rw[if_neg (by decide+kernel)];exact⟨rfl,rfl⟩))
  (fun os started H enc _=>xcf os started H enc)
end Go.Proofs.YtkcjdeofknkndaaGreatDoor.gmanifestDescribe
namespace Go.Proofs.YtkcjdeofknkndaaGreatDoor
theorem manifestDescribe_holds:Rows.ManifestDescribeSaid:=gmanifestDescribe.over
end Go.Proofs.YtkcjdeofknkndaaGreatDoor
