/-
  MatchDescribe holds: whatever the input, the law returns true and its arguments read as before. No condition.
-/
import Derived.Test.YtdafipacemgcoaaGreatDoorRows
import Derived.ProofKit
import Derived.JoinedOf
import Derived.LaidMore
import Derived.LaidLaws
import Derived.LaidHandle
import Derived.Test.YtdafipacemgcoaaGreatDoorZaMD
import Derived.Test.YtdafipacemgcoaaGreatDoorTpMD
namespace Go.Proofs.YtdafipacemgcoaaGreatDoor.gmatchDescribe
open Go.Sy Go.ChangeShapes Go.WideShapes Go.RowKit
set_option linter.unusedVariables false
set_option maxRecDepth 100000
theorem own:ownKnob Tryz.prog.godebug=none:=by kernel_rfl
theorem Gq(H:Type)(enc:TypeId×Value->H)(W:World)(base:Nat)(args:Array Value)(ds gs:List (DataW H))(before:List MemPlace)
 (hval:∀(j:Nat) t v,Tryz.f9.params[j]? =some t->args[j]? =some v->Value.okWide Tryz.prog W .any base t v)
 (hW:DataW.Whole enc Tryz.prog Tryz.f9.params.toList Rows.matchDescribeSpec.vars false W args.toList ds gs before) (hX:laidMetH Tryz.prog oy W):
 Calls Tryz.prog 9 args W fun e W'=>∃v,e= .returned v/\Rows.matchDescribeSpec.post enc Tryz.prog Tryz.f9 false true false false W args v W':=by
 have hW':=hW;obtain⟨p,q,hA0,hV,rfl,hfz,hnd⟩:=hW;have hA:DataW.TrodAll enc Tryz.prog W 0 (fun _=>true) true Tryz.f9.params.toList args.toList ds p:=hA0;rw[Tryz.params9]at hA hval;obtain⟨rfl,rfl⟩:=trodVars_none hV;obtain⟨v0,vs0,d0,ds0,p0,q0,hargs,rfl,rfl,h0,r0⟩:=trodAll_cons hA;obtain⟨v1,vs1,d1,ds1,p1,q1,rfl,rfl,rfl,h1,r1⟩:=trodAll_cons r0;obtain⟨v2,vs2,d2,ds2,p2,q2,rfl,rfl,rfl,h2,r2⟩:=trodAll_cons r1;obtain⟨v3,vs3,d3,ds3,p3,q3,rfl,rfl,rfl,h3,r3⟩:=trodAll_cons r2;obtain⟨rfl,rfl,rfl⟩:=trodAll_nil r3;obtain rfl:args= #[v0,v1,v2,v3]:=by cases args;simp_all
 obtain⟨l0,hl0,k0⟩:=DN Tryz.underlying22 (by kernel_rfl) (by kernel_rfl) (hval 0 22 v0 rfl rfl) h0;obtain⟨n1,hn1,k1⟩:=sL Tryz.underlying3 (hval 1 3 v1 rfl rfl) h1;obtain⟨lo1,up1⟩: -9223372036854775808<=n1/\n1<=9223372036854775807:=Cd hn1;obtain⟨n2,hn2,k2⟩:=sL Tryz.underlying3 (hval 2 3 v2 rfl rfl) h2;obtain⟨lo2,up2⟩: -9223372036854775808<=n2/\n2<=9223372036854775807:=Cd hn2;obtain⟨b3,k3⟩:=xdl Tryz.underlying5 (hval 3 5 v3 rfl rfl) h3;refine(Dg (PR xap (f9 l0 n1 n2 b3 lo1 up1 lo2 up2) rfl) (fW.2 ⟨k0,(fW.2 ⟨k1,(fW.2 ⟨k2,(fW.2 ⟨k3,Fj⟩)⟩)⟩)⟩) (xcC hX)).mono ?_;rintro e W' ⟨rfl,hb⟩;exact⟨_,rfl,FT (by kernel_rfl) (by kernel_rfl) (by kernel_rfl) Tryz.underlying4 rfl rfl rfl rfl hW' hb⟩
abbrev laid:List (String×DataW Unit):=Rows.matchDescribeRow.laid
def firstCells:Array Value:=(Go.Pinned.utf8FirstZ.map fun(n:Nat)=>Value.int .u8 (n:Int)).toArray
noncomputable def qH(os:Os):World:=
 {World.doorLaid Tryz.prog 82 os with heap:=(World.doorLaid Tryz.prog 82 os).heap.modify ((Tryz.prog.globalNamed "unicode/utf8.first").getD 0) fun
  | .cells _ t frozen=> .cells firstCells t frozen
  |o=>o}
theorem met(os:Os)(args:Array Value):laidMetH Tryz.prog laid ((qH os).forCall (fun _ _=>0) ⟨#[],args,[]⟩).memory:=
 laidMetH_of_parts3 (fuel:=8) (laidMet_of_run' 8 (by kernel_rfl) (by kernel_rfl)) (by kernel_rfl) (by kernel_rfl)
theorem xcB(os:Os)(started:os.Started)(H:Type)(enc:TypeId×Value->H):
 ReturnsInHanded {} Tryz.checked os 9 .any (fun w args=>(Rows.matchDescribeSpec.pre enc Tryz.prog Tryz.f9 Rows.matchDescribeRow.domain false w args/\laidMetH Tryz.prog laid w)/\sizedMet enc Tryz.prog Tryz.f9 (OpenSpec.ofChange Rows.matchDescribeSpec) false w args) (Rows.matchDescribeSpec.post enc Tryz.prog Tryz.f9 false true false false):=by
 refine returnsInHanded_of_change_and (C:=Tryz.checked) (X:=fun w _=>laidMetH Tryz.prog laid w) (fun _ _ _ hh h=>h.of_heap hh) own started (by kernel_rfl) Tryz.func9
  (ChangeSpec.witness_shaped (enc:=enc) (C:=Tryz.checked) (os:=os) (X:=fun w _=>laidMetH Tryz.prog laid w) false (qH os) #[.slice none 0 0,.int .i64 0,.int .i64 0,.int .u8 0] 8 rfl (World.shaped_of_RefB (by kernel_rfl) (by kernel_rfl)) (by kernel_rfl) (by kernel_rfl) (by kernel_rfl) (met os _)) ?_
 intro W base args ds gs before hval hW _ _ hX _;exact Gq H enc W base args ds gs before hval hW hX
theorem over:Rows.matchDescribeRow.holds Tryz.pinned (OpenSpec.ofChange Rows.matchDescribeSpec):=
 OpenClaim.holds_of_wide 9 Tryz.f9 rfl rfl rfl rfl rfl rfl rfl ⟨rfl,rfl,rfl,rfl,rfl⟩ rfl rfl rfl rfl rfl (by kernel_rfl) Tryz.func9 (by kernel_rfl)
  (of_decide_eq_true (by kernel_rfl)) (by unfold Func.isWrapper;first|(rw[if_pos (by decide+kernel)];kernel_rfl)|(rw[if_neg (by decide+kernel)];exact⟨rfl,rfl⟩))
  (fun os started H enc _=>xcB os started H enc)
end Go.Proofs.YtdafipacemgcoaaGreatDoor.gmatchDescribe
namespace Go.Proofs.YtdafipacemgcoaaGreatDoor
theorem matchDescribe_holds:Rows.MatchDescribeSaid:=gmatchDescribe.over
end Go.Proofs.YtdafipacemgcoaaGreatDoor
