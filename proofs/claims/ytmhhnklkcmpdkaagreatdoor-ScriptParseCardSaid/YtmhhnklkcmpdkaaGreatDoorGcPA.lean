/-
  ScriptParse holds: whatever the input, the law returns true and its arguments read as before. No condition.
-/
import Derived.Test.YtmhhnklkcmpdkaaGreatDoorRows
import Derived.ProofKit
import Derived.JoinedOf
import Derived.LaidMore
import Derived.LaidLaws
import Derived.LaidHandle
import Derived.Test.YtmhhnklkcmpdkaaGreatDoorZaPA
import Derived.Test.YtmhhnklkcmpdkaaGreatDoorTqPA
import Derived.Test.YtmhhnklkcmpdkaaGreatDoorTsPA
namespace Go.Proofs.YtmhhnklkcmpdkaaGreatDoor.gscriptParse
open Go.Sy Go.ChangeShapes Go.WideShapes Go.RowKit
set_option linter.unusedVariables false
set_option maxRecDepth 100000
theorem own:ownKnob Tryz.prog.godebug=none:=by kernel_rfl
theorem lh(H:Type)(enc:TypeId×Value->H)(W:World)(base:Nat)(args:Array Value)(ds gs:List (DataW H))(before:List MemPlace)
 (hval:∀(j:Nat) t v,Tryz.f5.params[j]? =some t->args[j]? =some v->Value.okWide Tryz.prog W .any base t v)
 (hW:DataW.Whole enc Tryz.prog Tryz.f5.params.toList Rows.scriptParseSpec.vars false W args.toList ds gs before) (hX:laidMetH Tryz.prog lS W):
 Calls Tryz.prog 5 args W fun e W'=>∃v,e= .returned v/\Rows.scriptParseSpec.post enc Tryz.prog Tryz.f5 false true false false W args v W':=by
 have hW':=hW;obtain⟨p,q,hA0,hV,rfl,hfz,hnd⟩:=hW;have hA:DataW.TrodAll enc Tryz.prog W 0 (fun _=>true) true Tryz.f5.params.toList args.toList ds p:=hA0;rw[Tryz.params5]at hA hval;obtain⟨rfl,rfl⟩:=trodVars_none hV;obtain⟨v0,vs0,d0,ds0,p0,q0,hargs,rfl,rfl,h0,r0⟩:=trodAll_cons hA;obtain⟨v1,vs1,d1,ds1,p1,q1,rfl,rfl,rfl,h1,r1⟩:=trodAll_cons r0;obtain⟨v2,vs2,d2,ds2,p2,q2,rfl,rfl,rfl,h2,r2⟩:=trodAll_cons r1;obtain⟨v3,vs3,d3,ds3,p3,q3,rfl,rfl,rfl,h3,r3⟩:=trodAll_cons r2;obtain⟨v4,vs4,d4,ds4,p4,q4,rfl,rfl,rfl,h4,r4⟩:=trodAll_cons r3;obtain⟨v5,vs5,d5,ds5,p5,q5,rfl,rfl,rfl,h5,r5⟩:=trodAll_cons r4;obtain⟨rfl,rfl,rfl⟩:=trodAll_nil r5;obtain rfl:args= #[v0,v1,v2,v3,v4,v5]:=by cases args;simp_all
 obtain⟨l0,hl0,k0⟩:=SR Tryz.underlying9 (hval 0 9 v0 rfl rfl) h0;obtain⟨l1,hl1,k1⟩:=jD Tryz.underlying23 (by kernel_rfl) (by kernel_rfl) (hval 1 23 v1 rfl rfl) h1;obtain⟨zl2,hz2,k2⟩:=Gy Tryz.underlying34 Tryz.underlying3 (by kernel_rfl) (hval 2 34 v2 rfl rfl) h2;obtain⟨l3,hl3,k3⟩:=jD Tryz.underlying23 (by kernel_rfl) (by kernel_rfl) (hval 3 23 v3 rfl rfl) h3;obtain⟨n4,hn4,k4⟩:=SS Tryz.underlying3 (hval 4 3 v4 rfl rfl) h4;obtain⟨lo4,up4⟩: -9223372036854775808<=n4/\n4<=9223372036854775807:=R2 hn4;obtain⟨l5,hl5,k5⟩:=jD Tryz.underlying23 (by kernel_rfl) (by kernel_rfl) (hval 5 23 v5 rfl rfl) h5;refine(oc (tR xel (f5 l0 l1 zl2 hz2 l3 n4 lo4 up4 l5) rfl) (ep.2 ⟨k0,(ep.2 ⟨k1,(ep.2 ⟨k2,(ep.2 ⟨k3,(ep.2 ⟨k4,(ep.2 ⟨k5,qE⟩)⟩)⟩)⟩)⟩)⟩) (zI hX)).mono ?_;rintro e W' ⟨rfl,hb⟩;exact⟨_,rfl,qK (by kernel_rfl) (by kernel_rfl) (by kernel_rfl) Tryz.underlying4 rfl rfl rfl rfl hW' hb⟩
abbrev laid:List (String×DataW Unit):=Rows.scriptParseRow.laid
def firstCells:Array Value:=(Go.Pinned.utf8FirstZ.map fun(n:Nat)=>Value.int .u8 (n:Int)).toArray
noncomputable def gg(os:Os):World:=
 {World.doorLaid Tryz.prog 72 os with heap:=(World.doorLaid Tryz.prog 72 os).heap.modify ((Tryz.prog.globalNamed "unicode/utf8.first").getD 0) fun
  | .cells _ t frozen=> .cells firstCells t frozen
  |o=>o}
theorem met(os:Os)(args:Array Value):laidMetH Tryz.prog laid ((gg os).forCall (fun _ _=>0) ⟨#[],args,[]⟩).memory:=
 laidMetH_of_parts3 (fuel:=8) (laidMet_of_run' 8 (by kernel_rfl) (by kernel_rfl)) (by kernel_rfl) (by kernel_rfl)
theorem lifted(os:Os)(started:os.Started)(H:Type)(enc:TypeId×Value->H):
 ReturnsInHanded {} Tryz.checked os 5 .any (fun w args=>(Rows.scriptParseSpec.pre enc Tryz.prog Tryz.f5 Rows.scriptParseRow.domain false w args/\laidMetH Tryz.prog laid w)/\sizedMet enc Tryz.prog Tryz.f5 (OpenSpec.ofChange Rows.scriptParseSpec) false w args) (Rows.scriptParseSpec.post enc Tryz.prog Tryz.f5 false true false false):=by
 refine returnsInHanded_of_change_and (C:=Tryz.checked) (X:=fun w _=>laidMetH Tryz.prog laid w) (fun _ _ _ hh h=>h.of_heap hh) own started (by kernel_rfl) Tryz.func5
  (ChangeSpec.witness_shaped (enc:=enc) (C:=Tryz.checked) (os:=os) (X:=fun w _=>laidMetH Tryz.prog laid w) false (gg os) #[.string ⟨#[]⟩,.slice none 0 0,.slice none 0 0,.slice none 0 0,.int .i64 0,.slice none 0 0] 8 rfl (World.shaped_of_RefB (by kernel_rfl) (by kernel_rfl)) (by kernel_rfl) (by kernel_rfl) (by kernel_rfl) (met os _)) ?_
 intro W base args ds gs before hval hW _ _ hX _;exact lh H enc W base args ds gs before hval hW hX
theorem bE{a b:Bool}(h:a=true)(g:b=true):(a&&b)=true:=by rw[h,g];rfl
theorem j0:(Rows.scriptParseRow.wf (OpenSpec.ofChange Rows.scriptParseSpec))=true:=by kernel_rfl
theorem j1:(laidOutB Tryz.pinned.checked.prog)=true:=by kernel_rfl
theorem j2:(mapsRowed Tryz.pinned.checked.prog)=true:=by kernel_rfl
theorem j3:(Tryz.f5.params.all (Tryz.pinned.checked.prog.readableRec ·))=true:=by kernel_rfl
theorem j4:(namedTie Tryz.pinned.checked.prog Rows.scriptParseRow.named Rows.scriptParseSpec.vars)=true:=by kernel_rfl
theorem j5:(Rows.scriptParseRow.stops==[])=true:=by kernel_rfl
theorem j6:(Tryz.pinned.checked.prog.stops==[])=true:=by kernel_rfl
theorem j7:(Rows.scriptParseRow.knobs==[])=true:=by kernel_rfl
theorem j8:(Tryz.pinned.checked.prog.stopKnobs==[])=true:=by kernel_rfl
theorem j9:(Rows.scriptParseRow.inPlace==Tryz.pinned.checked.prog.inPlace 5)=true:=by kernel_rfl
theorem j10:(Rows.scriptParseRow.unfollowed==Tryz.pinned.checked.prog.unfollowed 5)=true:=by kernel_rfl
theorem j11:(Rows.scriptParseRow.recurses==Tryz.pinned.checked.prog.recurses 5)=true:=by kernel_rfl
theorem j12:(Rows.scriptParseRow.named==Tryz.pinned.checked.prog.varsNamed 5)=true:=by kernel_rfl
theorem j13:(Rows.scriptParseRow.maps==(Tryz.f5.params.toList++Rows.scriptParseSpec.plain.varTypes Tryz.pinned.checked.prog).any (Tryz.pinned.checked.prog.mapsRec ·))=true:=by kernel_rfl
theorem j14:(Rows.scriptParseRow.ifaces==(Tryz.f5.params.toList++Rows.scriptParseSpec.plain.varTypes Tryz.pinned.checked.prog).any (Tryz.pinned.checked.prog.ifacesRec ·))=true:=by kernel_rfl
theorem j15:(Rows.scriptParseRow.mapsOut==Tryz.pinned.checked.prog.mapsAmong Tryz.f5.resultTypes.toList)=true:=by kernel_rfl
theorem j16:(Rows.scriptParseRow.loops==(Tryz.f5.params.toList++Rows.scriptParseSpec.plain.varTypes Tryz.pinned.checked.prog).any (Tryz.pinned.checked.prog.loopsFrom ·))=true:=by kernel_rfl
theorem j17:(Rows.scriptParseRow.wideKeys==(Tryz.f5.params.toList++Rows.scriptParseSpec.plain.varTypes Tryz.pinned.checked.prog++Tryz.f5.resultTypes.toList).any (Tryz.pinned.checked.prog.wideKeysFrom ·))=true:=by kernel_rfl
theorem j18:(Rows.scriptParseSpec.vars.all (Tryz.pinned.checked.prog.varReadable ·))=true:=by kernel_rfl
theorem j19:(Tryz.f5.resultTypes.all (fun t=>Tryz.pinned.checked.prog.readableRec t&&decide (t<Tryz.pinned.checked.prog.types.size)))=true:=by kernel_rfl
theorem j20:(Rows.scriptParseRow.ifacesOut==Tryz.f5.resultTypes.toList.any (Tryz.pinned.checked.prog.ifacesRec ·))=true:=by kernel_rfl
theorem j21:(Rows.scriptParseRow.loopsOut==Tryz.f5.resultTypes.toList.any (Tryz.pinned.checked.prog.loopsFrom ·))=true:=by kernel_rfl
theorem j22:(Rows.scriptParseRow.plainKeys==Tryz.pinned.checked.prog.plainKeys)=true:=by kernel_rfl
theorem j23:(Rows.scriptParseRow.shortTexts.isNone)=true:=by kernel_rfl
theorem j24:(Tryz.pinned.checked.prog.stopsHeard)=true:=by kernel_rfl
theorem j25:(Tryz.pinned.checked.prog.mayEnter)=true:=by kernel_rfl
theorem j26:(Rows.scriptParseRow.lifted==Tryz.pinned.checked.prog.liftsFinal)=true:=by kernel_rfl
theorem j27:(Tryz.pinned.checked.prog.make==some Rows.scriptParseRow.make)=true:=by kernel_rfl
theorem j28:(Rows.scriptParseRow.kinds==(if Rows.scriptParseRow.domain.isEmpty then []else Tryz.f5.params.toList.map fun t=>match Tryz.pinned.checked.prog.underlying t with|some (.int k)=>some k|_=>none))=true:=by kernel_rfl
theorem j29:(Rows.scriptParseRow.pinned==Rows.scriptParseRow.pinnedBy)=true:=by kernel_rfl
theorem j30:(Rows.scriptParseRow.veiled==(Tryz.f5.params.toList++Rows.scriptParseSpec.plain.varTypes Tryz.pinned.checked.prog++Tryz.f5.resultTypes.toList).any (Tryz.pinned.checked.prog.veiledRec ·))=true:=by kernel_rfl
theorem j31:(Rows.scriptParseRow.veiledFits Tryz.pinned.checked.prog Tryz.f5.params.toList (Tryz.f5.params.toList++Rows.scriptParseSpec.plain.varTypes Tryz.pinned.checked.prog++Tryz.f5.resultTypes.toList))=true:=by kernel_rfl
theorem rA:joinedFacts Tryz.pinned.checked.prog 5 Tryz.f5 Rows.scriptParseSpec Rows.scriptParseRow=true:=by unfold joinedFacts;exact(bE (bE (bE (bE (bE (bE (bE (bE (bE (bE (bE (bE (bE (bE (bE (bE (bE (bE (bE (bE (bE (bE (bE (bE (bE (bE (bE (bE (bE (bE (bE j0 j1) j2) j3) j4) j5) j6) j7) j8) j9) j10) j11) j12) j13) j14) j15) j16) j17) j18) j19) j20) j21) j22) j23) j24) j25) j26) j27) j28) j29) j30) j31)
theorem named:Tryz.pinned.checked.prog.funcNamed Rows.scriptParseRow.func=some 5:=by kernel_rfl
theorem RW:Tryz.f5.isInstance Tryz.pinned.checked.prog Rows.scriptParseRow.origin Rows.scriptParseRow.targs:=of_decide_eq_true (by kernel_rfl)
theorem wrap:Tryz.f5.isWrapper Tryz.pinned.checked.prog Rows.scriptParseRow.wrapper Rows.scriptParseRow.mainSum:=by unfold Func.isWrapper;first|(rw[if_pos (by decide+kernel)];kernel_rfl)|(rw[if_neg (by decide+kernel)];exact⟨rfl,rfl⟩)
theorem over:Rows.scriptParseRow.holds Tryz.pinned (OpenSpec.ofChange Rows.scriptParseSpec):=
 OpenClaim.holds_of_wide 5 Tryz.f5 rfl rfl rfl rfl rfl rfl rfl ⟨rfl,rfl,rfl,rfl,rfl⟩ rfl rfl rfl rfl rfl named Tryz.func5 rA RW wrap
  (fun os started H enc _=>lifted os started H enc)
end Go.Proofs.YtmhhnklkcmpdkaaGreatDoor.gscriptParse
namespace Go.Proofs.YtmhhnklkcmpdkaaGreatDoor
theorem scriptParse_holds:Rows.ScriptParseSaid:=gscriptParse.over
end Go.Proofs.YtmhhnklkcmpdkaaGreatDoor
