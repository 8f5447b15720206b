/-
  DocumentSigners holds: whatever the input, the law returns true and its arguments read as before. No condition.
-/
import Derived.Test.YtkggincjigbelaaGreatDoorRows
import Derived.ProofKit
import Derived.JoinedOf
import Derived.LaidMore
import Derived.LaidLaws
import Derived.LaidHandle
import Derived.Test.YtkggincjigbelaaGreatDoorZaB
import Derived.Test.YtkggincjigbelaaGreatDoorTzB
import Derived.Test.YtkggincjigbelaaGreatDoorTxB
import Derived.Test.YtkggincjigbelaaGreatDoorTyB
namespace Go.Proofs.YtkggincjigbelaaGreatDoor.gdocumentSigners
open Go.Sy Go.ChangeShapes Go.WideShapes Go.RowKit
set_option linter.unusedVariables false
set_option maxRecDepth 100000
theorem own:ownKnob Tryz.prog.godebug=none:=by kernel_rfl
theorem fG(H:Type)(enc:TypeId×Value->H)(W:World)(base:Nat)(args:Array Value)(ds gs:List (DataW H))(before:List MemPlace)
 (hval:∀(j:Nat) t v,Tryz.f6.params[j]? =some t->args[j]? =some v->Value.okWide Tryz.prog W .any base t v)
 (hW:DataW.Whole enc Tryz.prog Tryz.f6.params.toList Rows.documentSignersSpec.vars false W args.toList ds gs before) (hX:laidMetH Tryz.prog iU W):
 Calls Tryz.prog 6 args W fun e W'=>∃v,e= .returned v/\Rows.documentSignersSpec.post enc Tryz.prog Tryz.f6 false true false false W args v W':=by
 have hW':=hW;obtain⟨p,q,hA0,hV,rfl,hfz,hnd⟩:=hW;have hA:DataW.TrodAll enc Tryz.prog W 0 (fun _=>true) true Tryz.f6.params.toList args.toList ds p:=hA0;rw[Tryz.params6]at hA hval;obtain⟨rfl,rfl⟩:=trodVars_none hV;obtain⟨v0,vs0,d0,ds0,p0,q0,hargs,rfl,rfl,h0,r0⟩:=trodAll_cons hA;obtain⟨v1,vs1,d1,ds1,p1,q1,rfl,rfl,rfl,h1,r1⟩:=trodAll_cons r0;obtain⟨v2,vs2,d2,ds2,p2,q2,rfl,rfl,rfl,h2,r2⟩:=trodAll_cons r1;obtain⟨v3,vs3,d3,ds3,p3,q3,rfl,rfl,rfl,h3,r3⟩:=trodAll_cons r2;obtain⟨v4,vs4,d4,ds4,p4,q4,rfl,rfl,rfl,h4,r4⟩:=trodAll_cons r3;obtain⟨v5,vs5,d5,ds5,p5,q5,rfl,rfl,rfl,h5,r5⟩:=trodAll_cons r4;obtain⟨v6,vs6,d6,ds6,p6,q6,rfl,rfl,rfl,h6,r6⟩:=trodAll_cons r5;obtain⟨v7,vs7,d7,ds7,p7,q7,rfl,rfl,rfl,h7,r7⟩:=trodAll_cons r6;obtain⟨rfl,rfl,rfl⟩:=trodAll_nil r7;obtain rfl:args= #[v0,v1,v2,v3,v4,v5,v6,v7]:=by cases args;simp_all
 obtain⟨ml0,k0⟩:=SH (hval 0 47 v0 rfl rfl) h0;obtain⟨l1,hl1,k1⟩:=eO Tryz.underlying22 (by kernel_rfl) (by kernel_rfl) (hval 1 22 v1 rfl rfl) h1;obtain⟨l2,hl2,k2⟩:=eO Tryz.underlying22 (by kernel_rfl) (by kernel_rfl) (hval 2 22 v2 rfl rfl) h2;obtain⟨n3,hn3,k3⟩:=dN Tryz.underlying3 (hval 3 3 v3 rfl rfl) h3;obtain⟨lo3,up3⟩: -9223372036854775808<=n3/\n3<=9223372036854775807:=dL hn3;obtain⟨n4,hn4,k4⟩:=dN Tryz.underlying3 (hval 4 3 v4 rfl rfl) h4;obtain⟨lo4,up4⟩: -9223372036854775808<=n4/\n4<=9223372036854775807:=dL hn4;obtain⟨n5,hn5,k5⟩:=dN Tryz.underlying3 (hval 5 3 v5 rfl rfl) h5;obtain⟨lo5,up5⟩: -9223372036854775808<=n5/\n5<=9223372036854775807:=dL hn5;obtain⟨n6,hn6,k6⟩:=dN Tryz.underlying3 (hval 6 3 v6 rfl rfl) h6;obtain⟨lo6,up6⟩: -9223372036854775808<=n6/\n6<=9223372036854775807:=dL hn6;obtain⟨b7,k7⟩:=pR Tryz.underlying4 (hval 7 4 v7 rfl rfl) h7;refine(i6 (mr PU (f6 ml0 l1 l2 n3 n4 n5 n6 b7 lo5 up5 lo6 up6) rfl) (bz.2 ⟨k0,(bz.2 ⟨k1,(bz.2 ⟨k2,(bz.2 ⟨k3,(bz.2 ⟨k4,(bz.2 ⟨k5,(bz.2 ⟨k6,(bz.2 ⟨k7,ki⟩)⟩)⟩)⟩)⟩)⟩)⟩)⟩) (qt hX)).mono ?_;rintro e W' ⟨rfl,hb⟩;exact⟨_,rfl,kq (by kernel_rfl) (by kernel_rfl) (by kernel_rfl) Tryz.underlying4 rfl rfl rfl rfl hW' hb⟩
abbrev laid:List (String×DataW Unit):=Rows.documentSignersRow.laid
noncomputable def dp(os:Os):World:=World.doorLaid Tryz.prog 14 os
theorem met(os:Os)(args:Array Value):laidMetH Tryz.prog laid ((dp os).forCall (fun _ _=>0) ⟨#[],args,[]⟩).memory:=
 laidMetH_of_parts3 (fuel:=8) (laidMet_of_run' 8 (by kernel_rfl) (by kernel_rfl)) (by kernel_rfl) (by kernel_rfl)
theorem jK(os:Os)(started:os.Started)(H:Type)(enc:TypeId×Value->H):
 ReturnsInHanded {} Tryz.checked os 6 .any (fun w args=>(Rows.documentSignersSpec.pre enc Tryz.prog Tryz.f6 Rows.documentSignersRow.domain false w args/\laidMetH Tryz.prog laid w)/\sizedMet enc Tryz.prog Tryz.f6 (OpenSpec.ofChange Rows.documentSignersSpec) false w args) (Rows.documentSignersSpec.post enc Tryz.prog Tryz.f6 false true false false):=by
 refine returnsInHanded_of_change_and (C:=Tryz.checked) (X:=fun w _=>laidMetH Tryz.prog laid w) (fun _ _ _ hh h=>h.of_heap hh) own started (by kernel_rfl) Tryz.func6
  (ChangeSpec.witness_shaped (enc:=enc) (C:=Tryz.checked) (os:=os) (X:=fun w _=>laidMetH Tryz.prog laid w) false (dp os) #[.slice none 0 0,.slice none 0 0,.slice none 0 0,.int .i64 0,.int .i64 0,.int .i64 0,.int .i64 0,.bool false] 8 rfl (World.shaped_of_RefB (by kernel_rfl) (by kernel_rfl)) (by kernel_rfl) (by kernel_rfl) (by kernel_rfl) (met os _)) ?_
 intro W base args ds gs before hval hW _ _ hX _;exact fG H enc W base args ds gs before hval hW hX
theorem over:Rows.documentSignersRow.holds Tryz.pinned (OpenSpec.ofChange Rows.documentSignersSpec):=
 OpenClaim.holds_of_wide 6 Tryz.f6 rfl rfl rfl rfl rfl rfl rfl ⟨rfl,rfl,rfl,rfl,rfl⟩ rfl rfl rfl rfl rfl (by kernel_rfl) Tryz.func6 (by kernel_rfl)
  (of_decide_eq_true (by kernel_rfl)) (by unfold Func.isWrapper;first|(rw[if_pos (by decide+kernel)];kernel_rfl)|(rw[if_neg (by decide+kernel)];exact⟨rfl,rfl⟩))
  (fun os started H enc _=>jK os started H enc)
end Go.Proofs.YtkggincjigbelaaGreatDoor.gdocumentSigners
namespace Go.Proofs.YtkggincjigbelaaGreatDoor
theorem documentSigners_holds:Rows.DocumentSignersSaid:=gdocumentSigners.over
end Go.Proofs.YtkggincjigbelaaGreatDoor
