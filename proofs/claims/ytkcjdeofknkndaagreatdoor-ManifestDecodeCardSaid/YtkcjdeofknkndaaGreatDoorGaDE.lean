/-
  ManifestDecode holds: whatever the input, the law returns true and its arguments read as before. No condition.
-/
import Derived.Test.YtkcjdeofknkndaaGreatDoorToDE
import Derived.Test.YtkcjdeofknkndaaGreatDoorRows
import Derived.ProofKit
import Derived.JoinedOf
import Derived.LaidMore
import Derived.LaidLaws
import Derived.LaidHandle
import Derived.Test.YtkcjdeofknkndaaGreatDoorZaDE
import Derived.Test.YtkcjdeofknkndaaGreatDoorTpDE
namespace Go.Proofs.YtkcjdeofknkndaaGreatDoor.gmanifestDecode
open Go.Sy Go.ChangeShapes Go.WideShapes Go.RowKit
set_option linter.unusedVariables false
set_option maxRecDepth 100000
theorem own:ownKnob Tryz.prog.godebug=none:=by kernel_rfl
theorem Gw(H:Type)(enc:TypeId×Value->H)(W:World)(base:Nat)(args:Array Value)(ds gs:List (DataW H))(before:List MemPlace)
 (hval:∀(j:Nat) t v,Tryz.f5.params[j]? =some t->args[j]? =some v->Value.okWide Tryz.prog W .any base t v)
 (hW:DataW.Whole enc Tryz.prog Tryz.f5.params.toList Rows.manifestDecodeSpec.vars false W args.toList ds gs before) (hX:laidMetH Tryz.prog oR W):
 Calls Tryz.prog 5 args W fun e W'=>∃v,e= .returned v/\Rows.manifestDecodeSpec.post enc Tryz.prog Tryz.f5 false true false false W args v W':=by
 have hW':=hW;obtain⟨p,q,hA0,hV,rfl,hfz,hnd⟩:=hW;have hA:DataW.TrodAll enc Tryz.prog W 0 (fun _=>true) true Tryz.f5.params.toList args.toList ds p:=hA0;rw[Tryz.params5]at hA hval;obtain⟨rfl,rfl⟩:=trodVars_none hV;obtain⟨v0,vs0,d0,ds0,p0,q0,hargs,rfl,rfl,h0,r0⟩:=trodAll_cons hA;obtain⟨v1,vs1,d1,ds1,p1,q1,rfl,rfl,rfl,h1,r1⟩:=trodAll_cons r0;obtain⟨v2,vs2,d2,ds2,p2,q2,rfl,rfl,rfl,h2,r2⟩:=trodAll_cons r1;obtain⟨v3,vs3,d3,ds3,p3,q3,rfl,rfl,rfl,h3,r3⟩:=trodAll_cons r2;obtain⟨v4,vs4,d4,ds4,p4,q4,rfl,rfl,rfl,h4,r4⟩:=trodAll_cons r3;obtain⟨v5,vs5,d5,ds5,p5,q5,rfl,rfl,rfl,h5,r5⟩:=trodAll_cons r4;obtain⟨rfl,rfl,rfl⟩:=trodAll_nil r5;obtain rfl:args= #[v0,v1,v2,v3,v4,v5]:=by cases args;simp_all
 obtain⟨l0,hl0,k0⟩:=kO Tryz.underlying26 (by kernel_rfl) (by kernel_rfl) (hval 0 26 v0 rfl rfl) h0;obtain⟨l1,hl1,k1⟩:=kO Tryz.underlying26 (by kernel_rfl) (by kernel_rfl) (hval 1 26 v1 rfl rfl) h1;obtain⟨l2,hl2,k2⟩:=kO Tryz.underlying26 (by kernel_rfl) (by kernel_rfl) (hval 2 26 v2 rfl rfl) h2;obtain⟨zl3,hz3,k3⟩:=GD Tryz.underlying42 Tryz.underlying3 (by kernel_rfl) (hval 3 42 v3 rfl rfl) h3;obtain⟨l4,hl4,k4⟩:=kO Tryz.underlying26 (by kernel_rfl) (by kernel_rfl) (hval 4 26 v4 rfl rfl) h4;obtain⟨n5,hn5,k5⟩:=Ta Tryz.underlying3 (hval 5 3 v5 rfl rfl) h5;obtain⟨lo5,up5⟩: -9223372036854775808<=n5/\n5<=9223372036854775807:=Sc hn5;refine(Du (Sf xiR (f5 l0 l1 l2 zl3 hz3 l4 n5 lo5 up5) rfl) (eM.2 ⟨k0,(eM.2 ⟨k1,(eM.2 ⟨k2,(eM.2 ⟨k3,(eM.2 ⟨k4,(eM.2 ⟨k5,FB⟩)⟩)⟩)⟩)⟩)⟩) (xe0 hX)).mono ?_;rintro e W' ⟨rfl,hb⟩;exact⟨_,rfl,F1 (by kernel_rfl) (by kernel_rfl) (by kernel_rfl) Tryz.underlying4 rfl rfl rfl rfl hW' hb⟩
abbrev laid:List (String×DataW Unit):=Rows.manifestDecodeRow.laid
def firstCells:Array Value:=(Go.Pinned.utf8FirstZ.map fun(n:Nat)=>Value.int .u8 (n:Int)).toArray
noncomputable def rA(os:Os):World:=
 {World.doorLaid Tryz.prog 82 os with heap:=(World.doorLaid Tryz.prog 82 os).heap.modify ((Tryz.prog.globalNamed "unicode/utf8.first").getD 0) fun
  | .cells _ t frozen=> .cells firstCells t frozen
  |o=>o}
theorem met(os:Os)(args:Array Value):laidMetH Tryz.prog laid ((rA os).forCall (fun _ _=>0) ⟨#[],args,[]⟩).memory:=
 laidMetH_of_parts3 (fuel:=8) (laidMet_of_run' 8 (by kernel_rfl) (by kernel_rfl)) (by kernel_rfl) (by kernel_rfl)
theorem xeZ(os:Os)(started:os.Started)(H:Type)(enc:TypeId×Value->H):
 ReturnsInHanded {} Tryz.checked os 5 .any (fun w args=>(Rows.manifestDecodeSpec.pre enc Tryz.prog Tryz.f5 Rows.manifestDecodeRow.domain false w args/\laidMetH Tryz.prog laid w)/\sizedMet enc Tryz.prog Tryz.f5 (OpenSpec.ofChange Rows.manifestDecodeSpec) false w args) (Rows.manifestDecodeSpec.post enc Tryz.prog Tryz.f5 false true false false):=by
 refine returnsInHanded_of_change_and (C:=Tryz.checked) (X:=fun w _=>laidMetH Tryz.prog laid w) (fun _ _ _ hh h=>h.of_heap hh) own started (by kernel_rfl) Tryz.func5
  (ChangeSpec.witness_shaped (enc:=enc) (C:=Tryz.checked) (os:=os) (X:=fun w _=>laidMetH Tryz.prog laid w) false (rA os) #[.slice none 0 0,.slice none 0 0,.slice none 0 0,.slice none 0 0,.slice none 0 0,.int .i64 0] 8 rfl (World.shaped_of_RefB (by kernel_rfl) (by kernel_rfl)) (by kernel_rfl) (by kernel_rfl) (by kernel_rfl) (met os _)) ?_
 intro W base args ds gs before hval hW _ _ hX _;exact Gw H enc W base args ds gs before hval hW hX
theorem over:Rows.manifestDecodeRow.holds Tryz.pinned (OpenSpec.ofChange Rows.manifestDecodeSpec):=
 OpenClaim.holds_of_wide 5 Tryz.f5 rfl rfl rfl rfl rfl rfl rfl ⟨rfl,rfl,rfl,rfl,rfl⟩ rfl rfl rfl rfl rfl (by kernel_rfl) Tryz.func5 (by kernel_rfl)
  (of_decide_eq_true (by kernel_rfl)) (by unfold Func.isWrapper;first|(rw[if_pos (by decide+kernel)];kernel_rfl)|(rw[if_neg (by decide+kernel)];exact⟨rfl,rfl⟩))
  (fun os started H enc _=>xeZ os started H enc)
end Go.Proofs.YtkcjdeofknkndaaGreatDoor.gmanifestDecode
namespace Go.Proofs.YtkcjdeofknkndaaGreatDoor
theorem manifestDecode_holds:Rows.ManifestDecodeSaid:=gmanifestDecode.over
end Go.Proofs.YtkcjdeofknkndaaGreatDoor
