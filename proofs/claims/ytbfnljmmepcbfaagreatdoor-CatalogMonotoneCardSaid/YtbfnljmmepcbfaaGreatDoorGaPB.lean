/- CatalogMonotone holds. No condition. -/
import Derived.Test.YtbfnljmmepcbfaaGreatDoorRows
import Derived.LaidMore
import Derived.Test.YtbfnljmmepcbfaaGreatDoorZaPB
import Derived.Test.YtbfnljmmepcbfaaGreatDoorTiPB
namespace Go.Proofs.YtbfnljmmepcbfaaGreatDoor.gcatalogMonotone
open Go.Sy Go.ChangeShapes Go.WideShapes Go.RowKit
set_option linter.unusedVariables false
set_option maxRecDepth 100000
theorem own:ownKnob Tryz.prog.godebug=none:=by kernel_rfl
theorem sk(H:Type)(enc:TypeId×Value->H)(W:World)(base:Nat)(args:Array Value)(ds gs:List (DataW H))(before:List MemPlace)
 (hval:∀(j:Nat) t v,Tryz.f8.params[j]? =some t->args[j]? =some v->Value.okWide Tryz.prog W .any base t v)
 (hW:DataW.Whole enc Tryz.prog Tryz.f8.params.toList Rows.catalogMonotoneSpec.vars false W args.toList ds gs before) (hX:laidMetH Tryz.prog od W):
 Calls Tryz.prog 8 args W fun e W'=>∃v,e= .returned v/\Rows.catalogMonotoneSpec.post enc Tryz.prog Tryz.f8 false true false false W args v W':=by
 have hW':=hW;obtain⟨p,q,hA0,hV,rfl,hfz,hnd⟩:=hW;have hA:DataW.TrodAll enc Tryz.prog W 0 (fun _=>true) true Tryz.f8.params.toList args.toList ds p:=hA0;rw[Tryz.params8]at hA hval;obtain⟨rfl,rfl⟩:=trodVars_none hV;obtain⟨v0,vs0,d0,ds0,p0,q0,hargs,rfl,rfl,h0,r0⟩:=trodAll_cons hA;obtain⟨v1,vs1,d1,ds1,p1,q1,rfl,rfl,rfl,h1,r1⟩:=trodAll_cons r0;obtain⟨v2,vs2,d2,ds2,p2,q2,rfl,rfl,rfl,h2,r2⟩:=trodAll_cons r1;obtain⟨v3,vs3,d3,ds3,p3,q3,rfl,rfl,rfl,h3,r3⟩:=trodAll_cons r2;obtain⟨v4,vs4,d4,ds4,p4,q4,rfl,rfl,rfl,h4,r4⟩:=trodAll_cons r3;obtain⟨rfl,rfl,rfl⟩:=trodAll_nil r4;obtain rfl:args= #[v0,v1,v2,v3,v4]:=by cases args;simp_all
 obtain⟨l0,hl0,k0⟩:=jU Tryz.underlying36 (by kernel_rfl) (by kernel_rfl) (hval 0 36 v0 rfl rfl) h0;obtain⟨l1,hl1,k1⟩:=jU Tryz.underlying36 (by kernel_rfl) (by kernel_rfl) (hval 1 36 v1 rfl rfl) h1;obtain⟨l2,hl2,k2⟩:=jU Tryz.underlying36 (by kernel_rfl) (by kernel_rfl) (hval 2 36 v2 rfl rfl) h2;obtain⟨n3,hn3,k3⟩:=wO Tryz.underlying3 (hval 3 3 v3 rfl rfl) h3;obtain⟨lo3,up3⟩: -9223372036854775808<=n3/\n3<=9223372036854775807:=vW hn3;obtain⟨n4,hn4,k4⟩:=wO Tryz.underlying3 (hval 4 3 v4 rfl rfl) h4;obtain⟨lo4,up4⟩: -9223372036854775808<=n4/\n4<=9223372036854775807:=vW hn4;refine(uj (F0 xtn (f8 l0 l1 l2 n3 n4 lo3 up3 lo4 up4) rfl) (ey.2 ⟨k0,(ey.2 ⟨k1,(ey.2 ⟨k2,(ey.2 ⟨k3,(ey.2 ⟨k4,yB⟩)⟩)⟩)⟩)⟩) (Ub hX)).mono ?_;rintro e W' ⟨rfl,hb⟩;exact⟨_,rfl,y0 (by kernel_rfl) (by kernel_rfl) (by kernel_rfl) Tryz.underlying4 rfl rfl rfl rfl hW' hb⟩
abbrev laid:List (String×DataW Unit):=Rows.catalogMonotoneRow.laid
noncomputable def jR(os:Os):World:=World.doorLaid Tryz.prog 14 os
theorem met(os:Os)(args:Array Value):laidMetH Tryz.prog laid ((jR os).forCall (fun _ _=>0) ⟨#[],args,[]⟩).memory:=
 laidMetH_of_parts3 (fuel:=8) (laidMet_of_run' 8 (by kernel_rfl) (by kernel_rfl)) (by kernel_rfl) (by kernel_rfl)
theorem CJ(os:Os)(started:os.Started)(H:Type)(enc:TypeId×Value->H):
 ReturnsInHanded {} Tryz.checked os 8 .any (fun w args=>(Rows.catalogMonotoneSpec.pre enc Tryz.prog Tryz.f8 Rows.catalogMonotoneRow.domain false w args/\laidMetH Tryz.prog laid w)/\sizedMet enc Tryz.prog Tryz.f8 (OpenSpec.ofChange Rows.catalogMonotoneSpec) false w args) (Rows.catalogMonotoneSpec.post enc Tryz.prog Tryz.f8 false true false false):=by
 refine returnsInHanded_of_change_and (C:=Tryz.checked) (X:=fun w _=>laidMetH Tryz.prog laid w) (fun _ _ _ hh h=>h.of_heap hh) own started (by kernel_rfl) Tryz.func8
  (ChangeSpec.witness_shaped (enc:=enc) (C:=Tryz.checked) (os:=os) (X:=fun w _=>laidMetH Tryz.prog laid w) false (jR os) #[.slice none 0 0,.slice none 0 0,.slice none 0 0,.int .i64 0,.int .i64 0] 8 rfl (World.shaped_of_RefB (by kernel_rfl) (by kernel_rfl)) (by kernel_rfl) (by kernel_rfl) (by kernel_rfl) (met os _)) ?_
 intro W base args ds gs before hval hW _ _ hX _;exact sk H enc W base args ds gs before hval hW hX
theorem over:Rows.catalogMonotoneRow.holds Tryz.pinned (OpenSpec.ofChange Rows.catalogMonotoneSpec):=
 OpenClaim.holds_of_wide 8 Tryz.f8 rfl rfl rfl rfl rfl rfl rfl ⟨rfl,rfl,rfl,rfl,rfl⟩ rfl rfl rfl rfl rfl (by kernel_rfl) Tryz.func8 (by kernel_rfl)
  (of_decide_eq_true (by kernel_rfl)) (by unfold Func.isWrapper;first|(rw[if_pos (by decide+kernel)];kernel_rfl)|(rw[if_neg (by decide+kernel)];exact⟨rfl,rfl⟩))
  (fun os started H enc _=>CJ os started H enc)
end Go.Proofs.YtbfnljmmepcbfaaGreatDoor.gcatalogMonotone
namespace Go.Proofs.YtbfnljmmepcbfaaGreatDoor
theorem catalogMonotone_holds:Rows.CatalogMonotoneSaid:=gcatalogMonotone.over
end Go.Proofs.YtbfnljmmepcbfaaGreatDoor
