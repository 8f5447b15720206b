/- Contracts. No condition. -/
import Derived.Test.YtmhhnklkcmpdkaaGreatDoorRows
import Derived.Test.YtmhhnklkcmpdkaaGreatDoorCoPR
import Derived.KernelRfl
import Derived.ProofKit
import Derived.JoinedOf
import Derived.LaidLaws
import Derived.Lib.LaidTab
import Derived.Stop.LaidErr
open Go.IntKind renaming i64 -> ah
open List renaming getD_eq_getElem?_getD -> aa, length_map -> av, mem_cons -> aq
open Option renaming some -> ay
set_option linter.unusedVariables false
set_option maxRecDepth 100000
namespace Go.Proofs.YtmhhnklkcmpdkaaGreatDoor
open Go.Sy
theorem S5{n:Int}(h:ah.has n): -9223372036854775808<=n/\n<=9223372036854775807:=h
theorem nW{P:Program}{w:World}{n:String}{d:DataW Unit}:∀{l:List (String×DataW Unit)}{ps:List MemPlace},DataW.LaidVars P w l ps->(n,d)∈l->
 ∃g t cs fuel p,P.globalNamed n=some g/\(P.globals[g]?).map (·.type)=some t/\w.var? P n=some cs/\DataW.trod (fun _=>()) P w 0 (fun _=>true) false fuel t cs.toList=some (d,p)
 |[],_,_,h=>by cases h
 |(n',d')::r,ps,hl,h=>by
  obtain⟨g,t,cs,fuel,p,q,h1,h2,h3,h4,h5,_⟩:=hl;rcases aq.1 h with e|h
  ·cases e;exact⟨g,t,cs,fuel,p,h1,h2,h3,h4⟩
  ·exact nW h5 h
theorem wC{P:Program}{W:World}{l:List (String×DataW Unit)}{name:String}{k:IntKind}{zs:List Int}{g:Nat}{t e:TypeId}{n:Nat}
 (hg:P.globalNamed name=some g) (hty:(P.globals[g]?).map (·.type)=some t) (ht:P.underlying t=some (.array n e)) (he:P.underlying e=some (.int k)) (hce:P.cellsOf e=1) (hct:P.cellsOf t=n)
 (hm:(name,Lib.tabData k zs)∈l) (h:laidMet P l W):Lib.TabIs P W name k zs:=by
 obtain⟨ps,hv,_⟩:=h;obtain⟨g',t',cs,fuel,p,hg',ht',hvar,hd⟩:=nW hv hm;obtain rfl:=ay.inj (hg.symm.trans hg');obtain rfl:=ay.inj (hty.symm.trans ht');unfold Lib.TabIs;rw[hvar,<-Lib.cells_of_tab ht he hce hct hd]
theorem SG{P:Program}{W:World}{name:String}{k:IntKind}{zs:List Int}{g:Nat}(h:Lib.TabIs P W name k zs)(hg:P.globalNamed name=some g)(j:Nat)(hj:j<(zs.map (SV.int k)).length):
 ∃v,GW W g j=some v/\bU (GW W) ((zs.map (SV.int k)).getD j .undef) v:=by
 rw[av]at hj;refine⟨_,h.cell hg j hj, ?_⟩;have:(zs.map (SV.int k)).getD j .undef=SV.int k (zs.getD j 0):=by simp[aa,hj]
 rw[this];exact .int _ _
theorem T6: "*" ++ "errors.errorString" = "*errors.errorString" :=by decide
theorem xei(u:TypeId) (h:Tryz.prog.typeName? 3 u=some "*errors.errorString"):u=456:=
 typeName_ptr_named (nm:= "errors.errorString") (by rw[T6];kernel_rfl) (by kernel_rfl) (by decide) u (by rw[T6];exact h)
theorem HZ{P:Program}{W:World}{n:String}{g:Nat}{t:TypeId}{p:Value}(hv:W.var? P n=some #[.iface t p])(hg:P.globalNamed n=some g)(j:Nat)(hj:j< [SV.ife].length):
 ∃v,GW W g j=some v/\bU (GW W) ([SV.ife].getD j .undef) v:=by
 have e:j=0:=by simpa using hj
 subst e;refine⟨.iface t p, ?_,.ife _ _⟩;have h0:=World.var?_cell hg hv 0;show W.cell? ⟨g,0,none⟩=_;simpa using h0
abbrev sQ:List (String×DataW Unit):=Rows.scriptFormatRow.laid
def zs1:List Int:=[1,10,100,1000,10000,100000,1000000,10000000,100000000,1000000000,10000000000,100000000000,1000000000000,10000000000000,100000000000000,1000000000000000,10000000000000000,100000000000000000,1000000000000000000,10000000000000000000]
theorem LO:J5=zs1.map (SV.int .u64):=rfl
theorem Xy{W:World}(h0:laidMetH Tryz.prog sQ W):Lay (GW W):=by
 have e:(sQ.filter fun x=>x.2.handleName?.isSome)=[]:=by kernel_rfl
 have h:laidMet Tryz.prog sQ W:=by unfold laidMetH at h0;rw[e]at h0;exact h0
 have t1:Lib.TabIs Tryz.prog W "internal/strconv.uint64pow10" .u64 zs1:=wC (g:=1) (t:=435) (e:=281) (n:=20) (by kernel_rfl) (by kernel_rfl) (by kernel_rfl) (by kernel_rfl) (by kernel_rfl) (by kernel_rfl) (.tail _ (.tail _ (.head _))) h;obtain⟨a2,s2,hv2, -, -, -⟩:=laid_sentinel (h.tail.tail.tail.tail.tail) (show Tryz.prog.globalNamed "strconv.ErrSyntax" =some 2 by kernel_rfl) (by kernel_rfl) Tryz.underlying126 xei Tryz.underlying456 Tryz.underlying458 rfl rfl Tryz.underlying9 (by kernel_rfl) (by kernel_rfl);obtain⟨a3,s3,hv3, -, -, -⟩:=laid_sentinel (h.tail.tail.tail.tail) (show Tryz.prog.globalNamed "strconv.ErrRange" =some 3 by kernel_rfl) (by kernel_rfl) Tryz.underlying126 xei Tryz.underlying456 Tryz.underlying458 rfl rfl Tryz.underlying9 (by kernel_rfl) (by kernel_rfl);intro g cs hc j hj;simp only[bl.cells]at hc;split at hc
 ·cases hc
  rw[LO]at hj ⊢;exact SG t1 (by kernel_rfl) j hj
 ·cases hc
  exact HZ hv2 (by kernel_rfl) j hj
 ·cases hc
  exact HZ hv3 (by kernel_rfl) j hj
 ·cases hc
end Go.Proofs.YtmhhnklkcmpdkaaGreatDoor