/- Contracts. No condition. -/
import Derived.Test.YtkcjdeofknkndaaGreatDoorRows
import Derived.Test.YtkcjdeofknkndaaGreatDoorCoDF
import Derived.KernelRfl
import Derived.ProofKit
import Derived.JoinedOf
import Derived.LaidLaws
import Derived.Lib.LaidTab
open Go.IntKind renaming i64 -> ai
open List renaming getD_eq_getElem?_getD -> aa, length_map -> aS, mem_cons -> am
open Option renaming some -> aq
set_option linter.unusedVariables false
set_option maxRecDepth 100000
namespace Go.Proofs.YtkcjdeofknkndaaGreatDoor
open Go.Sy
theorem BR{n:Int}(h:ai.has n): -9223372036854775808<=n/\n<=9223372036854775807:=h
theorem lz{P:Program}{w:World}{n:String}{d:DataW Unit}:∀{l:List (String×DataW Unit)}{ps:List MemPlace},DataW.LaidVars P w l ps->(n,d)∈l->
 ∃g t cs fuel p,P.globalNamed n=some g/\(P.globals[g]?).map (·.type)=some t/\w.var? P n=some cs/\DataW.trod (fun _=>()) P w 0 (fun _=>true) false fuel t cs.toList=some (d,p)
 |[],_,_,h=>by cases h
 |(n',d')::r,ps,hl,h=>by
  obtain⟨g,t,cs,fuel,p,q,h1,h2,h3,h4,h5,_⟩:=hl;rcases am.1 h with e|h
  ·cases e;exact⟨g,t,cs,fuel,p,h1,h2,h3,h4⟩
  ·exact lz h5 h
theorem iY{P:Program}{W:World}{l:List (String×DataW Unit)}{name:String}{k:IntKind}{zs:List Int}{g:Nat}{t e:TypeId}{n:Nat}
 (hg:P.globalNamed name=some g) (hty:(P.globals[g]?).map (·.type)=some t) (ht:P.underlying t=some (.array n e)) (he:P.underlying e=some (.int k)) (hce:P.cellsOf e=1) (hct:P.cellsOf t=n)
 (hm:(name,Lib.tabData k zs)∈l) (h:laidMet P l W):Lib.TabIs P W name k zs:=by
 obtain⟨ps,hv,_⟩:=h;obtain⟨g',t',cs,fuel,p,hg',ht',hvar,hd⟩:=lz hv hm;obtain rfl:=aq.inj (hg.symm.trans hg');obtain rfl:=aq.inj (hty.symm.trans ht');unfold Lib.TabIs;rw[hvar,<-Lib.cells_of_tab ht he hce hct hd]
theorem sh{P:Program}{W:World}{name:String}{k:IntKind}{zs:List Int}{g:Nat}(h:Lib.TabIs P W name k zs)(hg:P.globalNamed name=some g)(j:Nat)(hj:j<(zs.map (SV.int k)).length):
 ∃v,GW W g j=some v/\cE (GW W) ((zs.map (SV.int k)).getD j .undef) v:=by
 rw[aS]at hj;refine⟨_,h.cell hg j hj, ?_⟩;have:(zs.map (SV.int k)).getD j .undef=SV.int k (zs.getD j 0):=by simp[aa,hj]
 rw[this];exact .int _ _
abbrev oG:List (String×DataW Unit):=Rows.manifestCheckRow.laid
def zs0:List Int:=[(-1),0,4,8,9]
theorem FG:oL=zs0.map (SV.int .i64):=rfl
def zs1:List Int:=[1116352408,1899447441,3049323471,3921009573,961987163,1508970993,2453635748,2870763221,3624381080,310598401,607225278,1426881987,1925078388,2162078206,2614888103,3248222580,3835390401,4022224774,264347078,604807628,770255983,1249150122,1555081692,1996064986,2554220882,2821834349,2952996808,3210313671,3336571891,3584528711,113926993,338241895,666307205,773529912,1294757372,1396182291,1695183700,1986661051,2177026350,2456956037,2730485921,2820302411,3259730800,3345764771,3516065817,3600352804,4094571909,275423344,430227734,506948616,659060556,883997877,958139571,1322822218,1537002063,1747873779,1955562222,2024104815,2227730452,2361852424,2428436474,2756734187,3204031479,3329325298]
theorem FF:iJ=zs1.map (SV.int .u32):=rfl
def zs3:List Int:=[1,10,100,1000,10000,100000,1000000,10000000,100000000,1000000000,10000000000,100000000000,1000000000000,10000000000000,100000000000000,1000000000000000,10000000000000000,100000000000000000,1000000000000000000,10000000000000000000]
theorem FE:iI=zs3.map (SV.int .u64):=rfl
theorem xcg{W:World}(h0:laidMetH Tryz.prog oG W):Lay (GW W):=by
 have e:(oG.filter fun x=>x.2.handleName?.isSome)=[]:=by kernel_rfl
 have h:laidMet Tryz.prog oG W:=by unfold laidMetH at h0;rw[e]at h0;exact h0
 have t0:Lib.TabIs Tryz.prog W "sealwright/image.measured" .i64 zs0:=iY (g:=0) (t:=101) (e:=3) (n:=5) (by kernel_rfl) (by kernel_rfl) (by kernel_rfl) (by kernel_rfl) (by kernel_rfl) (by kernel_rfl) (.tail _ (.tail _ (.tail _ (.tail _ (.tail _ (.tail _ (.tail _ (.head _)))))))) h;have t1:Lib.TabIs Tryz.prog W "sealwright/digest.round256" .u32 zs1:=iY (g:=1) (t:=130) (e:=129) (n:=64) (by kernel_rfl) (by kernel_rfl) (by kernel_rfl) (by kernel_rfl) (by kernel_rfl) (by kernel_rfl) (.tail _ (.tail _ (.tail _ (.head _)))) h;have t3:Lib.TabIs Tryz.prog W "internal/strconv.uint64pow10" .u64 zs3:=iY (g:=3) (t:=201) (e:=119) (n:=20) (by kernel_rfl) (by kernel_rfl) (by kernel_rfl) (by kernel_rfl) (by kernel_rfl) (by kernel_rfl) (.tail _ (.tail _ (.head _))) h;intro g cs hc j hj;simp only[ba.cells]at hc;split at hc
 ·cases hc
  rw[FG]at hj ⊢;exact sh t0 (by kernel_rfl) j hj
 ·cases hc
  rw[FF]at hj ⊢;exact sh t1 (by kernel_rfl) j hj
 ·cases hc
  rw[FE]at hj ⊢;exact sh t3 (by kernel_rfl) j hj
 ·cases hc
end Go.Proofs.YtkcjdeofknkndaaGreatDoor