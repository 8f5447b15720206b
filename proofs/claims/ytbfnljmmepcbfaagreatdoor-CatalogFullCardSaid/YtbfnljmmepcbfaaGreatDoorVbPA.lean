/- Functions of the library that are shown by walks. No condition. -/
import Derived.Test.YtbfnljmmepcbfaaGreatDoorVaPA
import Derived.Test.YtbfnljmmepcbfaaGreatDoorProg
import Derived.WalkKit
import Derived.KernelRfl
import Derived.Shelf.Spec.SlicesInsertGrow
open Array renaming getD_eq_getD_getElem? -> aQ, getElem?_append_left -> b8, getElem?_eq_getElem -> cg, getElem?_eq_some_iff -> cW, size_append -> cG
open Go.IntKind renaming i64 -> ah, wrap_i64 -> dh
open List renaming getD_eq_getElem?_getD -> aa, getElem?_drop -> bi, getElem?_eq_getElem -> ac, getElem?_take -> bC, getElem?_toArray -> cU, length_drop -> aL, length_eq_zero_iff -> cd, length_take -> ax, mem_of_mem_drop -> cI, size_toArray -> bT
open Nat renaming zero_add -> bS, zero_mul -> fo
open Option renaming ite_none_right_eq_some -> aG, map_some -> bp, some -> aq
set_option linter.unusedSectionVars false
set_option linter.unusedSimpArgs false
set_option linter.unusedVariables false
namespace Go.Proofs.YtbfnljmmepcbfaaGreatDoor
open Go.Sy
open Go.RowKit Go.ChangeShapes Go.WideShapes Go.Shelf Go.Lib
namespace Pr
section
variable [bf]
theorem m4{β:Type}(a:Option Addr)(la ca:Nat)(b:Option Addr)(lb cb:Nat)(h1:Option Addr->Nat->Nat->Option Addr->Nat->Nat->β)(h2:Array Value->β):
 Extern.SlicesOverlaps.overlaps.match_4 (fun _=>β) #[.slice a la ca,.slice b lb cb] h1 h2=h1 a la ca b lb cb:=rfl
theorem lf{P:Program}(w:World)(tS tR e:TypeId)(ht:P.underlying tS=some (.slice e))(size:Nat)(hz:∀w,(Go.sizeOf e).run P w= .ok size w)
 (a b:Addr) (la ca lb cb:Nat) (hne:a.block≠b.block) (tA tB:TypeId) (kA kB:Nat) (hsa:w.shape? a.block=some (tA,kA+1)) (hsb:w.shape? b.block=some (tB,kB))
 (hfb:w.frozen? b=false) (hfe:w.frozen? {block:=b.block,off:=kB}=false):
 (Extern.SlicesOverlaps.overlaps #[tS,tS] #[tR] #[.slice (some a) la ca,.slice (some b) lb cb]).run P w= .ok (.bool false) w:=by
 have hnb:(a.block !=b.block)=true:=by simpa using hne
 have hnb':(a.block==b.block)=false:=by simpa using hne
 unfold Extern.SlicesOverlaps.overlaps;rw[m4]
 by_cases h0:la=0\/lb=0\/size=0
 ·simp[run_underlying ht,hz,h0]
 ·cases hfa:w.frozen? a<;>cases hfk:w.frozen? {block:=a.block,off:=kA+1}<;>
   simp[run_underlying ht,hz,h0,hnb,hnb',frozen,noView,viewAt,mayBeOne,stringish,shape,Sem.run,hsa,hsb,hfa,hfk,hfb,hfe]
theorem jr{P:Program}{t:TypeId}{z:Value}(h:(P.info? t).map (fun i=>i.zero)=some (some z))(w:World):(zeroValue t).run P w= .ok z w:=by
 cases hi:P.info? t with
 |none=>simp[hi]at h
 |some i=>simp only[hi,bp,aq.injEq]at h;simp[zeroValue,run_typeInfo w hi,h]
theorem ey:Tryz.prog.follows .mixedOrders=true:=by kernel_rfl
theorem dI(b o j:Nat):(⟨b,o,none⟩:Addr).add j=⟨b,o+j,none⟩:=Addr.add_lit ..
theorem uO{w:World}{vb voff:Nat}{v:Value}(hv:w.cell? ⟨vb,voff,none⟩=some v):∃tA kA,w.shape? vb=some (tA,kA+1):=by
 cases hh:w.heap[vb]? with
 |none=>simp[World.cell?,hh]at hv
 |some o=>
  cases o with
  |cells ca e fr=>
   refine⟨e,ca.size-1, ?_⟩;have h1:ca[voff]? =some v:=by simpa[World.cell?,hh]using hv
   have h2:voff<ca.size:=(cW.1 h1).1;simp only[World.shape?,hh];rw[show ca.size-1+1=ca.size by omega]
  |_=>simp[World.cell?,hh]at hv
theorem z_3:∀w,(Go.sizeOf 3).run Tryz.prog w= .ok 1 w:=fun w=>b9 (by kernel_rfl) w
theorem a_3:∀w,(isAgg 3).run Tryz.prog w= .ok false w:=fun w=>eE (by kernel_rfl) w
theorem v_3:∀w,(zeroValue 3).run Tryz.prog w= .ok (.int .i64 0) w:=fun w=>jr (by kernel_rfl) w
theorem z_4:∀w,(Go.sizeOf 4).run Tryz.prog w= .ok 1 w:=fun w=>b9 (by kernel_rfl) w
theorem a_4:∀w,(isAgg 4).run Tryz.prog w= .ok false w:=fun w=>eE (by kernel_rfl) w
theorem v_4:∀w,(zeroValue 4).run Tryz.prog w= .ok (.bool false) w:=fun w=>jr (by kernel_rfl) w
theorem z_0:∀w,(Go.sizeOf 0).run Tryz.prog w= .ok 1 w:=fun w=>b9 (by kernel_rfl) w
theorem a_0:∀w,(isAgg 0).run Tryz.prog w= .ok false w:=fun w=>eE (by kernel_rfl) w
theorem v_0:∀w,(zeroValue 0).run Tryz.prog w= .ok (.tuple #[]) w:=fun w=>jr (by kernel_rfl) w
theorem D8:∀w,(Go.sizeOf 27).run Tryz.prog w= .ok 1 w:=fun w=>b9 (by kernel_rfl) w
theorem En:∀w,(isAgg 27).run Tryz.prog w= .ok false w:=fun w=>eE (by kernel_rfl) w
theorem Ea:∀w,(zeroValue 27).run Tryz.prog w= .ok (.slice none 0 0) w:=fun w=>jr (by kernel_rfl) w
theorem zL:∀w,(Go.sizeOf 67).run Tryz.prog w= .ok 7 w:=fun w=>b9 (by kernel_rfl) w
theorem El:∀w,(isAgg 67).run Tryz.prog w= .ok true w:=fun w=>eE (by kernel_rfl) w
theorem wj:∀w,(zeroValue 67).run Tryz.prog w= .ok (.agg #[.string ⟨#[]⟩,.int .i64 0,.int .i64 0,.int .i64 0,.int .i64 0,.slice none 0 0,.slice none 0 0]) w:=fun w=>jr (by kernel_rfl) w
def fL:Value:=Value.agg #[.string ⟨#[]⟩,.int .i64 0,.int .i64 0,.int .i64 0,.int .i64 0,.slice none 0 0,.slice none 0 0]
theorem Ra:(Tryz.prog.info? 67).map (fun i=>(i.zero,i.size,i.bytes))=some (some fL,7,96):=by kernel_rfl
theorem DG:fd Tryz.prog 67=some 7:=by kernel_rfl
theorem ue:(Tryz.prog.info? 67).map (·.size)=some 7:=by obtain⟨i0,hi0,h0,h1,h2⟩:=info_parts Ra;rw[hi0];simp[h1]
theorem vP(w:World)(vb voff vc:Nat)(vs:List Value)(hvl:vs.length=7)(hvs:∀j v,vs[j]? =some v->w.cell? ⟨vb,voff+j,none⟩=some v):(Builtin.firstCells 7 1 (.slice (some ⟨vb,voff,none⟩) 1 vc)).run Tryz.prog w= .ok vs.toArray w:=
 run_firstCells_some w 7 1 ⟨vb,voff,none⟩ 1 vc vs (by rw[hvl]) (fun j v hj=>by rw[dI];exact hvs j v hj)
set_option maxHeartbeats 8000000 in
set_option maxRecDepth 100000 in
theorem Cf(b n c i vb voff vc:Nat)(cs vs:List Value)(w:World)(hi:i<n)(hroom:n+1<=c)(hc63:n<=1000000)(hvb:vb≠b)
 (hcl:cs.length=n*7) (hvl:vs.length=7)
 (hcs:∀j v,cs[j]? =some v->w.cell? ⟨b,j,none⟩=some v) (hsp:∀j,j<(n+1)*7->(w.cell? ⟨b,j,none⟩).isSome=true) (hfz:∀j,j<(n+1)*7->w.frozen? ⟨b,j,none⟩=false)
 (hvs:∀j v,vs[j]? =some v->w.cell? ⟨vb,voff+j,none⟩=some v) (h1c:∀v∈cs,v.oneCell'=true) (h1v:∀v∈vs,v.oneCell'=true)
 (tA tB:TypeId) (kA kB:Nat) (hsa:w.shape? vb=some (tA,kA+1)) (hsb:w.shape? b=some (tB,kB)) (hfe:w.frozen? ⟨b,kB,none⟩=false):
 Calls Tryz.prog 86 #[.slice (some ⟨b,0,none⟩) n c,.int .i64 i,.slice (some ⟨vb,voff,none⟩) 1 vc] w fun e w'=>e= .returned (.slice (some ⟨b,0,none⟩) (n+1) c)/\w'=(w.drew.setCells b ((i+1)*7) (cs.drop (i*7))).setCells b (i*7) vs:=by
 have t0:=Tryz.underlying0;have a0:=a_0;have z0:=z_0;have v0:=v_0;have t3:=Tryz.underlying3;have a3:=a_3;have z3:=z_3;have v3:=v_3;have t4:=Tryz.underlying4;have a4:=a_4;have z4:=z_4;have v4:=v_4;have t9:=Tryz.underlying67;have a9:=El;have z9:=zL;have v9:=wj;have t24:=Tryz.underlying27;have a24:=En;have z24:=D8;have v24:=Ea;have u0:=run_underlying Tryz.underlying0;have u3:=run_underlying Tryz.underlying3;have u4:=run_underlying Tryz.underlying4;have u9:=run_underlying Tryz.underlying67;have u24:=run_underlying Tryz.underlying27;have ey:=ey;have hz2:¬((i:Int)=(n:Int)):=by omega
 have hov:∀lb cb,(callFunc 131 #[.slice (some ⟨vb,voff,none⟩) 1 vc,.slice (some ⟨b,(i+1)*7,none⟩) lb cb]).run Tryz.prog w= .ok (.value (.bool false)) w:=fun lb cb=>by
  rw[run_callFunc_extern Tryz.func131 (by kernel_rfl) (by kernel_rfl) (by kernel_rfl) (e:=Extern.SlicesOverlaps.overlaps #[27,27] #[4]) (by kernel_rfl),
   lf w 27 4 67 Tryz.underlying27 7 zL ⟨vb,voff,none⟩ ⟨b,(i+1)*7,none⟩ 1 vc lb cb hvb tA tB kA kB hsa hsb (hfz ((i+1)*7) (by omega)) hfe]
  rfl
 have hdl:(cs.drop (i*7)).length=(n-i)*7:=by rw[aL,hcl];omega
 have hw1:ah.wrap ((i:Int)+1)=(i:Int)+1:=by rw[dh];omega
 have hw2:ah.wrap ((n:Int)+1)=(n:Int)+1:=by rw[dh];omega
 have hb1:(0:Int)<=(i:Int)+1:=by omega
 have hin:i<=n:=by omega
 have htn:((i:Int)+1).toNat=i+1:=by omega
 have htn2:((n:Int)+1).toNat=n+1:=by omega
 have hb2:¬(c=i+1):=by omega
 have hb3:(i:Int)<=(n:Int)+1:=by omega
 have hb4:¬(c=i):=by omega
 have hcp1:∀ty dc sc,(Builtin.copy_ #[27,27] ty #[.slice (some ⟨b,(i+1)*7,none⟩) (n-i) dc,.slice (some ⟨b,i*7,none⟩) (n+1-i) sc]).run Tryz.prog w.drew= .ok (goInt ((n-i:Nat):Int)) (w.drew.setCells b ((i+1)*7) (cs.drop (i*7))):=fun ty dc sc=>
  dA w.drew _ _ ty 67 b ((i+1)*7) (n-i) dc ⟨b,i*7,none⟩ (n+1-i) sc (cs.drop (i*7)) 7 (n-i) Tryz.underlying27 ue (by simp only[Nat.min_def];split<;>omega) hdl
   (fun j v hj=>by rw[dI];exact hcs (i*7+j) v (by rwa[bi]at hj))
   (fun j hj=>hsp _ (by omega)) (fun j hj=>hfz _ (by omega)) (fun v hv=>h1c v (cI hv))
 obtain⟨W1,hW1⟩:∃W1,W1=w.drew.setCells b ((i+1)*7) (cs.drop (i*7)):=⟨_,rfl⟩
 have hsp1:∀k,k<(n+1)*7->(W1.cell? ⟨b,k,none⟩).isSome=true:=fun k hk=>by rw[hW1];exact isSome_setCells b _ _ _ (fun j hj=>by rw[hdl]at hj;exact hsp _ (by omega)) _ (hsp k hk)
 have hcp2:∀(W:World),(∀x,W.cell? x=W1.cell? x)->(∀x,W.frozen? x=W1.frozen? x)->∀ty dc,(Builtin.copy_ #[27,27] ty #[.slice (some ⟨b,i*7,none⟩) (n+1-i) dc,.slice (some ⟨vb,voff,none⟩) 1 vc]).run Tryz.prog W= .ok (goInt 1) (W.setCells b (i*7) vs):=fun W hWc hWf ty dc=>
  dA W _ _ ty 67 b (i*7) (n+1-i) dc ⟨vb,voff,none⟩ 1 vc vs 7 1 Tryz.underlying27 ue (by simp only[Nat.min_def];split<;>omega) (by rw[hvl])
   (fun j v hj=>by rw[dI,hWc,hW1,World.cell?_setCells_out b _ _ _ _ (fun h _=>absurd h hvb)];exact hvs j v hj)
   (fun j hj=>by rw[hWc];exact hsp1 _ (by omega)) (fun j hj=>by rw[hWf,hW1,World.frozen?_setCells];exact hfz _ (by omega)) h1v
 rw[<-hW1]at hcp1
 go_enter Tryz.func86,Tryz.ntmps86
 go_wp2_with (simp only[hov])
 go_region_law_o (refine step_copy_runI rfl _ _ 27 27 rfl _ _ (by simp[Act.eval,Act.put]) (by simp[Act.eval,Act.put]) (hcp1 _ _ _) ?_)
 go_wp2_with (at_builtin;refine wpList_copy_runI _ rfl _ _ 27 27 rfl _ _ rfl rfl (hcp2 _ (fun _=>rfl) (fun _=>rfl) _ _) ?_)
 go_ret
 first|exact⟨rfl,rfl⟩|exact⟨rfl,by rw[hW1]⟩
set_option maxHeartbeats 8000000 in
set_option maxRecDepth 100000 in
theorem EK(b n c vb voff vc:Nat)(vs:List Value)(w:World)(hroom:n+1<=c)(hc63:n<=1000000)
 (hvl:vs.length=7) (hsp:∀j,j<7->(w.cell? ⟨b,n*7+j,none⟩).isSome=true) (hfz:∀j,j<7->w.frozen? ⟨b,n*7+j,none⟩=false)
 (hvs:∀j v,vs[j]? =some v->w.cell? ⟨vb,voff+j,none⟩=some v) (h1v:∀v∈vs,v.oneCell'=true):
 Calls Tryz.prog 86 #[.slice (some ⟨b,0,none⟩) n c,.int .i64 n,.slice (some ⟨vb,voff,none⟩) 1 vc] w fun e w'=>e= .returned (.slice (some ⟨b,0,none⟩) (n+1) c)/\w'=w.setCells b (n*7) vs:=by
 have t0:=Tryz.underlying0;have a0:=a_0;have z0:=z_0;have v0:=v_0;have t3:=Tryz.underlying3;have a3:=a_3;have z3:=z_3;have v3:=v_3;have t4:=Tryz.underlying4;have a4:=a_4;have z4:=z_4;have v4:=v_4;have t9:=Tryz.underlying67;have a9:=El;have z9:=zL;have v9:=wj;have t24:=Tryz.underlying27;have a24:=En;have z24:=D8;have v24:=Ea;have u0:=run_underlying Tryz.underlying0;have u3:=run_underlying Tryz.underlying3;have u4:=run_underlying Tryz.underlying4;have u9:=run_underlying Tryz.underlying67;have u24:=run_underlying Tryz.underlying27;have ey:=ey;have hst:=run_storeCells_cells (P:=Tryz.prog) b (n*7) vs 0 w (by rw[hvl];simpa using hsp) (by rw[hvl];simpa using hfz) h1v
 have hrun:∀ty,(Builtin.append_ #[27,27] ty #[.slice (some ⟨b,0,none⟩) n c,.slice (some ⟨vb,voff,none⟩) 1 vc]).run Tryz.prog w= .ok (.slice (some ⟨b,0,none⟩) (n+1) c) (w.setCells b (n*7) vs):=fun ty=>
  ew (P:=Tryz.prog) (t:=27) (u:=27) (ty:=ty) (bs:=some ⟨b,0,none⟩) (len:=n) (m:=1) (cap:=c) Tryz.underlying27 Tryz.underlying27 (.inl ⟨_,rfl⟩) DG rfl (vP w vb voff vc vs hvl hvs) hroom (by show(storeCells ((⟨b,0,none⟩:Addr).add (n*7)) vs).run Tryz.prog w=_;rw[dI,bS];simpa using hst)
 go_enter Tryz.func86,Tryz.ntmps86
 go_wp2_with (at_builtin;refine Lib.wpList_append_run _ rfl _ _ _ _ rfl _ _ rfl rfl _ _ (hrun _) ?_)
 go_ret
 exact⟨rfl,rfl⟩
set_option maxHeartbeats 8000000 in
set_option maxRecDepth 100000 in
theorem OY(base:Option Addr)(n c vb voff vc:Nat)(cs vs:List Value)(w:World)(hnc:n<=c)(hroom:c<n+1)(hbig:n<=1000000)
 (hcl:cs.length=n*7) (hvl:vs.length=7) (hnil:base=none->n=0)
 (hcs:∀a,base=some a->∀j v,cs[j]? =some v->w.cell? (a.add j)=some v)
 (hvs:∀j v,vs[j]? =some v->w.cell? ⟨vb,voff+j,none⟩=some v) (h1v:∀v∈vs,v.oneCell'=true):
 Calls Tryz.prog 86 #[.slice base n c,.int .i64 n,.slice (some ⟨vb,voff,none⟩) 1 vc] w fun e w'=>
  ∃nc,n+1<=nc/\e= .returned (.slice (some ⟨w.heap.size,0,none⟩) (n+1) nc)/\
  w'=w.drew.alloc (.cells (cs.toArray++vs.toArray++Builtin.zeroCells fL.cells (nc-(n+1))) 67 (0,0)):=by
 have t0:=Tryz.underlying0;have a0:=a_0;have z0:=z_0;have v0:=v_0;have t3:=Tryz.underlying3;have a3:=a_3;have z3:=z_3;have v3:=v_3;have t4:=Tryz.underlying4;have a4:=a_4;have z4:=z_4;have v4:=v_4;have t9:=Tryz.underlying67;have a9:=El;have z9:=zL;have v9:=wj;have t24:=Tryz.underlying27;have a24:=En;have z24:=D8;have v24:=Ea;have u0:=run_underlying Tryz.underlying0;have u3:=run_underlying Tryz.underlying3;have u4:=run_underlying Tryz.underlying4;have u9:=run_underlying Tryz.underlying67;have u24:=run_underlying Tryz.underlying27;have ey:=ey;obtain⟨i0,hi0,hz0,hzs,hzb⟩:=info_parts Ra
 have hold:∀w':World,w'.heap=w.heap->(Builtin.firstCells 7 n (.slice base n c)).run Tryz.prog w'= .ok cs.toArray w':=fun w' hw'=>by
  cases base with
  |none=>have h0:=hnil rfl;subst h0;rw[cd.1 (hcl.trans (fo _))];exact run_firstCells_none w' 7 0 0 c
  |some a=>exact run_firstCells_some w' 7 n a n c cs hcl (fun j v hj=>by have:=hcs a rfl j v hj;simpa only[World.cell?,hw']using this)
 obtain⟨nc,hnc2,hrun⟩:=eK (P:=Tryz.prog) (w:=w) (t:=27) (u:=27) (ty:=27) (Y:= .slice (some ⟨vb,voff,none⟩) 1 vc) (bs:=base) (len:=n) (m:=1) (cap:=c) (os:=cs) (ns:=vs) (by_:=96) (z:=fL) (i:=i0) Tryz.underlying27 Tryz.underlying27 (.inl ⟨_,rfl⟩) DG hi0 hzb (by decide) wj (fun _ _=>rfl) (fun w' hw'=>vP w' vb voff vc vs hvl (fun j v hj=>by have:=hvs j v hj;simpa only[World.cell?,hw']using this)) hold (by omega) (by omega)
 have hrun':∀ty,(Builtin.append_ #[27,27] ty #[.slice base n c,.slice (some ⟨vb,voff,none⟩) 1 vc]).run Tryz.prog w= .ok (.slice (some ⟨w.heap.size,0,none⟩) (n+1) nc) (w.drew.alloc (.cells (cs.toArray++vs.toArray++Builtin.zeroCells fL.cells (nc-(n+1))) 67 (0,0))):=fun ty=>hrun
 refine Calls.mono (R:=fun e w'=>e= .returned (.slice (some ⟨w.heap.size,0,none⟩) (n+1) nc)/\w'=w.drew.alloc (.cells (cs.toArray++vs.toArray++Builtin.zeroCells fL.cells (nc-(n+1))) 67 (0,0))) ?_ (fun e w' h=>⟨nc,hnc2,h.1,h.2⟩);obtain⟨ROW,hROW⟩:∃ROW:Array Value,ROW=cs.toArray++vs.toArray++Builtin.zeroCells fL.cells (nc-(n+1)):=⟨_,rfl⟩;rw[<-hROW]at hrun' ⊢;clear hROW hrun
 go_enter Tryz.func86,Tryz.ntmps86
 cases base with
 |none=>
  have h0:=hnil rfl;subst h0
  go_wp2_with (at_builtin;refine Lib.wpList_append_run _ rfl _ _ _ _ rfl _ _ rfl rfl _ _ (hrun' _) ?_)
  go_ret
  exact⟨rfl,rfl⟩
 |some a=>
  obtain⟨ab,ao,asp⟩:=a
  go_wp2_with (at_builtin;refine Lib.wpList_append_run _ rfl _ _ _ _ rfl _ _ rfl rfl _ _ (hrun' _) ?_)
  all_goals (go_ret;exact⟨rfl,rfl⟩)
set_option maxHeartbeats 8000000 in
set_option maxRecDepth 100000 in
theorem EL(b n c i vb voff vc:Nat)(cs vs:List Value)(w:World)(hi:i<n)(hnc:n<=c)(hroom:c<n+1)(hbig:n<=1000000)
 (hcl:cs.length=n*7) (hvl:vs.length=7)
 (hcs:∀j v,cs[j]? =some v->w.cell? ⟨b,j,none⟩=some v)
 (hvs:∀j v,vs[j]? =some v->w.cell? ⟨vb,voff+j,none⟩=some v) (h1c:∀v∈cs,v.oneCell'=true) (h1v:∀v∈vs,v.oneCell'=true):
 Calls Tryz.prog 86 #[.slice (some ⟨b,0,none⟩) n c,.int .i64 i,.slice (some ⟨vb,voff,none⟩) 1 vc] w fun e w'=>
  e= .returned (.slice (some ⟨w.heap.size,0,none⟩) (n+1) (grownCap w (n+1) c 67))/\
  w'=(((w.alloc (.cells ((cs.take (i*7)).toArray++Builtin.zeroCells fL.cells (n+1-i)++Builtin.zeroCells fL.cells (grownCap w (n+1) c 67-(n+1))) 67)).drew.setCells w.heap.size (i*7) vs).drew).setCells w.heap.size ((i+1)*7) (cs.drop (i*7)):=by
 have t0:=Tryz.underlying0;have a0:=a_0;have z0:=z_0;have v0:=v_0;have t3:=Tryz.underlying3;have a3:=a_3;have z3:=z_3;have v3:=v_3;have t4:=Tryz.underlying4;have a4:=a_4;have z4:=z_4;have v4:=v_4;have t9:=Tryz.underlying67;have a9:=El;have z9:=zL;have v9:=wj;have t24:=Tryz.underlying27;have a24:=En;have z24:=D8;have v24:=Ea;have u0:=run_underlying Tryz.underlying0;have u3:=run_underlying Tryz.underlying3;have u4:=run_underlying Tryz.underlying4;have u9:=run_underlying Tryz.underlying67;have u24:=run_underlying Tryz.underlying27;have ey:=ey;obtain⟨i0,hi0,hz0,hzs,hzb⟩:=info_parts Ra;have hz2:¬((i:Int)=(n:Int)):=by omega
 have hz3:(c:Int)<(n:Int)+1:=by omega
 have hbw:b<w.heap.size:=block_lt_of_cell (hcs 0 _ (ac (by omega)));have hvw:vb<w.heap.size:=block_lt_of_cell (hvs 0 _ (ac (by omega)));have hkk:(n:Int)+1-(i:Int)=((n+1-i:Nat):Int):=by omega
 have hik:i+(n+1-i)=n+1:=by omega
 have hw3:ah.wrap ((n:Int)+1)=(n:Int)+1:=by rw[dh];omega
 have hw4:ah.wrap ((n:Int)+1-(i:Int))=(n:Int)+1-(i:Int):=by rw[dh];omega
 have hold:(Builtin.firstCells i0.size i (.slice (some ⟨b,0,none⟩) i c)).run Tryz.prog w.drew= .ok (cs.take (i*7)).toArray w.drew:=by
  rw[hzs]
  exact run_firstCells_some w.drew 7 i ⟨b,0,none⟩ i c (cs.take (i*7)) (by rw[ax];omega) (fun j v hj=>by
   rw[dI,bS];rw[bC]at hj;split at hj
   ·exact hcs j v hj
   ·cases hj)
 have hrz:∀ty,(Builtin.append_ #[27,3] ty #[.slice (some ⟨b,0,none⟩) i c,.int .i64 ((n:Int)+1-(i:Int))]).run Tryz.prog w=
  .ok (.slice (some ⟨w.heap.size,0,none⟩) (n+1) (grownCap w (n+1) c 67)) (w.drew.alloc (.cells ((cs.take (i*7)).toArray++Builtin.zeroCells fL.cells (n+1-i)++Builtin.zeroCells fL.cells (grownCap w (n+1) c 67-(n+1))) 67)):=fun ty=>by
  have h:=Lib.run_append_grow_zeros w 27 3 ty 67 i0 _ .i64 .i64 Tryz.underlying27 Tryz.underlying3 hi0 hz0 (some ⟨b,0,none⟩) i c (cs.take (i*7)) hold (n+1-i) (by omega) (by omega) (by omega) (by omega) (by rw[hzb];omega) (by rw[hzb,hik];exact growslice_fits hroom (by omega));rw[hik]at h;rw[hkk];exact h
 obtain⟨G,hG⟩:∃G,G=grownCap w (n+1) c 67:=⟨_,rfl⟩;have hzsz:fL.cells.size=7:=rfl;obtain⟨ROW,hROW⟩:∃ROW:Array Value,ROW=(cs.take (i*7)).toArray++Builtin.zeroCells fL.cells (n+1-i)++Builtin.zeroCells fL.cells (G-(n+1)):=⟨_,rfl⟩;rw[<-hG]at hrz ⊢;rw[<-hROW]at hrz ⊢
 have hRl:(n+1)*7<=ROW.size:=by rw[hROW];simp only[cG,bT,ax,hcl,bV,hzsz];omega
 obtain⟨W1,hW1⟩:∃W1,W1=w.drew.alloc (.cells ROW 67):=⟨_,rfl⟩;rw[<-hW1]at hrz
 have hN:∀j,j<(n+1)*7->(W1.cell? ⟨w.heap.size,j,none⟩).isSome=true:=fun j hj=>by rw[hW1,World.cell?_alloc_at (w:=w.drew) ROW _ w.heap.size j rfl,cg (by omega)];rfl
 have hNf:∀j,W1.frozen? ⟨w.heap.size,j,none⟩=false:=fun j=>by rw[hW1];exact World.frozen?_alloc_at (w:=w.drew) ROW _ w.heap.size j rfl
 have hOb:∀j v,w.cell? ⟨b,j,none⟩=some v->W1.cell? ⟨b,j,none⟩=some v:=fun j v h=>by rw[hW1,World.cell?_alloc_past (w:=w.drew) _ b j hbw];exact h
 have hOv:∀j v,w.cell? ⟨vb,j,none⟩=some v->W1.cell? ⟨vb,j,none⟩=some v:=fun j v h=>by rw[hW1,World.cell?_alloc_past (w:=w.drew) _ vb j hvw];exact h
 have hcpA:∀(W:World),(∀x,W.cell? x=W1.cell? x)->(∀x,W.frozen? x=W1.frozen? x)->∀ty dc,(Builtin.copy_ #[27,27] ty #[.slice (some ⟨w.heap.size,i*7,none⟩) (n+1-i) dc,.slice (some ⟨vb,voff,none⟩) 1 vc]).run Tryz.prog W= .ok (goInt 1) (W.setCells w.heap.size (i*7) vs):=fun W hWc hWf ty dc=>
  dA W _ _ ty 67 w.heap.size (i*7) (n+1-i) dc ⟨vb,voff,none⟩ 1 vc vs 7 1 Tryz.underlying27 ue (by simp only[Nat.min_def];split<;>omega) (by rw[hvl])
   (fun j v hj=>by rw[dI,hWc];exact hOv _ v (hvs j v hj))
   (fun j hj=>by rw[hWc];exact hN _ (by omega)) (fun j hj=>by rw[hWf];exact hNf _) h1v
 have hGn:n+1<=G:=by rw[hG];exact grownCap_ge w _ _ _
 have hG63:G<=9223372036854775807:=by have:=grownCap_le_maxLen w (n+1) c 67 (by unfold maxLen;omega);rw[<-hG]at this;unfold maxLen at this;omega
 have hGi:¬(G=i):=by omega
 have hGim:¬(G=i+1):=by omega
 have hci:¬(c=i):=by omega
 have hbN:b≠w.heap.size:=by omega
 have hdl:(cs.drop (i*7)).length=(n-i)*7:=by rw[aL,hcl];omega
 have hcpB:∀(W:World),(∀x,W.cell? x=(W1.setCells w.heap.size (i*7) vs).cell? x)->(∀x,W.frozen? x=(W1.setCells w.heap.size (i*7) vs).frozen? x)->∀ty dc sc,(Builtin.copy_ #[27,27] ty #[.slice (some ⟨w.heap.size,(i+1)*7,none⟩) (n-i) dc,.slice (some ⟨b,i*7,none⟩) (n-i) sc]).run Tryz.prog W= .ok (goInt ((n-i:Nat):Int)) (W.setCells w.heap.size ((i+1)*7) (cs.drop (i*7))):=fun W hWc hWf ty dc sc=>
  dA W _ _ ty 67 w.heap.size ((i+1)*7) (n-i) dc ⟨b,i*7,none⟩ (n-i) sc (cs.drop (i*7)) 7 (n-i) Tryz.underlying27 ue (by simp only[Nat.min_def];split<;>omega) hdl
   (fun j v hj=>by rw[dI,hWc,World.cell?_setCells_out _ _ _ _ _ (fun h _=>absurd h hbN)];exact hOb _ v (hcs (i*7+j) v (by rwa[bi]at hj)))
   (fun j hj=>by rw[hWc];exact isSome_setCells _ _ _ _ (fun t ht=>hN _ (by omega)) _ (hN _ (by omega)))
   (fun j hj=>by rw[hWf,World.frozen?_setCells];exact hNf _) (fun v hv=>h1c v (cI hv))
 subst hW1;have hE1:∀x,((w.alloc (.cells ROW 67)).drew).cell? x=(w.drew.alloc (.cells ROW 67)).cell? x:=fun x=>rfl
 have hE2:∀x,((w.alloc (.cells ROW 67)).drew).frozen? x=(w.drew.alloc (.cells ROW 67)).frozen? x:=fun x=>rfl
 have hF1:∀x,(((w.alloc (.cells ROW 67)).drew.setCells w.heap.size (i*7) vs).drew).cell? x=((w.drew.alloc (.cells ROW 67)).setCells w.heap.size (i*7) vs).cell? x:=fun x=>rfl
 have hF2:∀x,(((w.alloc (.cells ROW 67)).drew.setCells w.heap.size (i*7) vs).drew).frozen? x=((w.drew.alloc (.cells ROW 67)).setCells w.heap.size (i*7) vs).frozen? x:=fun x=>rfl
 have hw1:ah.wrap ((i:Int)+1)=(i:Int)+1:=by rw[dh];omega
 have hb1:(0:Int)<=(i:Int)+1:=by omega
 have hin:i<=n:=by omega
 have htn:((i:Int)+1).toNat=i+1:=by omega
 have hb3:(i:Int)<=(n:Int):=by omega
 clear hkk hik hold hROW hG hRl
 go_enter Tryz.func86,Tryz.ntmps86
 go_wp2_with (first
  |(at_builtin;refine Lib.wpList_append_run _ rfl _ _ _ _ rfl _ _ rfl rfl _ _ (hrz _) ?_)
  |(at_builtin;refine wpList_copy_runI _ rfl _ _ 27 27 rfl _ _ rfl rfl (hcpA _ hE1 hE2 _ _) ?_)
  |(at_builtin;refine wpList_copy_runI _ rfl _ _ 27 27 rfl _ _ rfl rfl (hcpB _ (fun _=>rfl) (fun _=>rfl) _ _ _) ?_))
 go_region_law_o (refine step_copy_runI rfl _ _ 27 27 rfl (.slice (some ⟨w.heap.size,(i+1)*7,none⟩) (n-i) (G-(i+1))) (.slice (some ⟨b,i*7,none⟩) (n-i) (c-i)) (by simp[Act.eval,Act.put]) (by simp[Act.eval,Act.put]) (hcpB _ hF1 hF2 3 (G-(i+1)) (c-i)) ?_)
 go_wp2
 go_ret
 exact⟨rfl,rfl⟩
theorem D7:∀w,(Go.sizeOf 28).run Tryz.prog w= .ok 1 w:=fun w=>b9 (by kernel_rfl) w
theorem Em:∀w,(isAgg 28).run Tryz.prog w= .ok false w:=fun w=>eE (by kernel_rfl) w
theorem D9:∀w,(zeroValue 28).run Tryz.prog w= .ok (.slice none 0 0) w:=fun w=>jr (by kernel_rfl) w
theorem zK:∀w,(Go.sizeOf 70).run Tryz.prog w= .ok 2 w:=fun w=>b9 (by kernel_rfl) w
theorem Ek:∀w,(isAgg 70).run Tryz.prog w= .ok true w:=fun w=>eE (by kernel_rfl) w
theorem wi:∀w,(zeroValue 70).run Tryz.prog w= .ok (.agg #[.slice none 0 0,.int .i64 0]) w:=fun w=>jr (by kernel_rfl) w
def fK:Value:=Value.agg #[.slice none 0 0,.int .i64 0]
theorem QZ:(Tryz.prog.info? 70).map (fun i=>(i.zero,i.size,i.bytes))=some (some fK,2,32):=by kernel_rfl
theorem DF:fd Tryz.prog 70=some 2:=by kernel_rfl
theorem ud:(Tryz.prog.info? 70).map (·.size)=some 2:=by obtain⟨i0,hi0,h0,h1,h2⟩:=info_parts QZ;rw[hi0];simp[h1]
theorem vO(w:World)(vb voff vc:Nat)(vs:List Value)(hvl:vs.length=2)(hvs:∀j v,vs[j]? =some v->w.cell? ⟨vb,voff+j,none⟩=some v):(Builtin.firstCells 2 1 (.slice (some ⟨vb,voff,none⟩) 1 vc)).run Tryz.prog w= .ok vs.toArray w:=
 run_firstCells_some w 2 1 ⟨vb,voff,none⟩ 1 vc vs (by rw[hvl]) (fun j v hj=>by rw[dI];exact hvs j v hj)
set_option maxHeartbeats 8000000 in
set_option maxRecDepth 100000 in
theorem Ce(b n c i vb voff vc:Nat)(cs vs:List Value)(w:World)(hi:i<n)(hroom:n+1<=c)(hc63:n<=1000000)(hvb:vb≠b)
 (hcl:cs.length=n*2) (hvl:vs.length=2)
 (hcs:∀j v,cs[j]? =some v->w.cell? ⟨b,j,none⟩=some v) (hsp:∀j,j<(n+1)*2->(w.cell? ⟨b,j,none⟩).isSome=true) (hfz:∀j,j<(n+1)*2->w.frozen? ⟨b,j,none⟩=false)
 (hvs:∀j v,vs[j]? =some v->w.cell? ⟨vb,voff+j,none⟩=some v) (h1c:∀v∈cs,v.oneCell'=true) (h1v:∀v∈vs,v.oneCell'=true)
 (tA tB:TypeId) (kA kB:Nat) (hsa:w.shape? vb=some (tA,kA+1)) (hsb:w.shape? b=some (tB,kB)) (hfe:w.frozen? ⟨b,kB,none⟩=false):
 Calls Tryz.prog 90 #[.slice (some ⟨b,0,none⟩) n c,.int .i64 i,.slice (some ⟨vb,voff,none⟩) 1 vc] w fun e w'=>e= .returned (.slice (some ⟨b,0,none⟩) (n+1) c)/\w'=(w.drew.setCells b ((i+1)*2) (cs.drop (i*2))).setCells b (i*2) vs:=by
 have t0:=Tryz.underlying0;have a0:=a_0;have z0:=z_0;have v0:=v_0;have t3:=Tryz.underlying3;have a3:=a_3;have z3:=z_3;have v3:=v_3;have t4:=Tryz.underlying4;have a4:=a_4;have z4:=z_4;have v4:=v_4;have t9:=Tryz.underlying70;have a9:=Ek;have z9:=zK;have v9:=wi;have t24:=Tryz.underlying28;have a24:=Em;have z24:=D7;have v24:=D9;have u0:=run_underlying Tryz.underlying0;have u3:=run_underlying Tryz.underlying3;have u4:=run_underlying Tryz.underlying4;have u9:=run_underlying Tryz.underlying70;have u24:=run_underlying Tryz.underlying28;have ey:=ey;have hz2:¬((i:Int)=(n:Int)):=by omega
 have hov:∀lb cb,(callFunc 135 #[.slice (some ⟨vb,voff,none⟩) 1 vc,.slice (some ⟨b,(i+1)*2,none⟩) lb cb]).run Tryz.prog w= .ok (.value (.bool false)) w:=fun lb cb=>by
  rw[run_callFunc_extern Tryz.func135 (by kernel_rfl) (by kernel_rfl) (by kernel_rfl) (e:=Extern.SlicesOverlaps.overlaps #[28,28] #[4]) (by kernel_rfl),
   lf w 28 4 70 Tryz.underlying28 2 zK ⟨vb,voff,none⟩ ⟨b,(i+1)*2,none⟩ 1 vc lb cb hvb tA tB kA kB hsa hsb (hfz ((i+1)*2) (by omega)) hfe]
  rfl
 have hdl:(cs.drop (i*2)).length=(n-i)*2:=by rw[aL,hcl];omega
 have hw1:ah.wrap ((i:Int)+1)=(i:Int)+1:=by rw[dh];omega
 have hw2:ah.wrap ((n:Int)+1)=(n:Int)+1:=by rw[dh];omega
 have hb1:(0:Int)<=(i:Int)+1:=by omega
 have hin:i<=n:=by omega
 have htn:((i:Int)+1).toNat=i+1:=by omega
 have htn2:((n:Int)+1).toNat=n+1:=by omega
 have hb2:¬(c=i+1):=by omega
 have hb3:(i:Int)<=(n:Int)+1:=by omega
 have hb4:¬(c=i):=by omega
 have hcp1:∀ty dc sc,(Builtin.copy_ #[28,28] ty #[.slice (some ⟨b,(i+1)*2,none⟩) (n-i) dc,.slice (some ⟨b,i*2,none⟩) (n+1-i) sc]).run Tryz.prog w.drew= .ok (goInt ((n-i:Nat):Int)) (w.drew.setCells b ((i+1)*2) (cs.drop (i*2))):=fun ty dc sc=>
  dA w.drew _ _ ty 70 b ((i+1)*2) (n-i) dc ⟨b,i*2,none⟩ (n+1-i) sc (cs.drop (i*2)) 2 (n-i) Tryz.underlying28 ud (by simp only[Nat.min_def];split<;>omega) hdl
   (fun j v hj=>by rw[dI];exact hcs (i*2+j) v (by rwa[bi]at hj))
   (fun j hj=>hsp _ (by omega)) (fun j hj=>hfz _ (by omega)) (fun v hv=>h1c v (cI hv))
 obtain⟨W1,hW1⟩:∃W1,W1=w.drew.setCells b ((i+1)*2) (cs.drop (i*2)):=⟨_,rfl⟩
 have hsp1:∀k,k<(n+1)*2->(W1.cell? ⟨b,k,none⟩).isSome=true:=fun k hk=>by rw[hW1];exact isSome_setCells b _ _ _ (fun j hj=>by rw[hdl]at hj;exact hsp _ (by omega)) _ (hsp k hk)
 have hcp2:∀(W:World),(∀x,W.cell? x=W1.cell? x)->(∀x,W.frozen? x=W1.frozen? x)->∀ty dc,(Builtin.copy_ #[28,28] ty #[.slice (some ⟨b,i*2,none⟩) (n+1-i) dc,.slice (some ⟨vb,voff,none⟩) 1 vc]).run Tryz.prog W= .ok (goInt 1) (W.setCells b (i*2) vs):=fun W hWc hWf ty dc=>
  dA W _ _ ty 70 b (i*2) (n+1-i) dc ⟨vb,voff,none⟩ 1 vc vs 2 1 Tryz.underlying28 ud (by simp only[Nat.min_def];split<;>omega) (by rw[hvl])
   (fun j v hj=>by rw[dI,hWc,hW1,World.cell?_setCells_out b _ _ _ _ (fun h _=>absurd h hvb)];exact hvs j v hj)
   (fun j hj=>by rw[hWc];exact hsp1 _ (by omega)) (fun j hj=>by rw[hWf,hW1,World.frozen?_setCells];exact hfz _ (by omega)) h1v
 rw[<-hW1]at hcp1
 go_enter Tryz.func90,Tryz.ntmps90
 go_wp2_with (simp only[hov])
 go_region_law_o (refine step_copy_runI rfl _ _ 28 28 rfl _ _ (by simp[Act.eval,Act.put]) (by simp[Act.eval,Act.put]) (hcp1 _ _ _) ?_)
 go_wp2_with (at_builtin;refine wpList_copy_runI _ rfl _ _ 28 28 rfl _ _ rfl rfl (hcp2 _ (fun _=>rfl) (fun _=>rfl) _ _) ?_)
 go_ret
 first|exact⟨rfl,rfl⟩|exact⟨rfl,by rw[hW1]⟩
set_option maxHeartbeats 8000000 in
set_option maxRecDepth 100000 in
theorem EG(b n c vb voff vc:Nat)(vs:List Value)(w:World)(hroom:n+1<=c)(hc63:n<=1000000)
 (hvl:vs.length=2) (hsp:∀j,j<2->(w.cell? ⟨b,n*2+j,none⟩).isSome=true) (hfz:∀j,j<2->w.frozen? ⟨b,n*2+j,none⟩=false)
 (hvs:∀j v,vs[j]? =some v->w.cell? ⟨vb,voff+j,none⟩=some v) (h1v:∀v∈vs,v.oneCell'=true):
 Calls Tryz.prog 90 #[.slice (some ⟨b,0,none⟩) n c,.int .i64 n,.slice (some ⟨vb,voff,none⟩) 1 vc] w fun e w'=>e= .returned (.slice (some ⟨b,0,none⟩) (n+1) c)/\w'=w.setCells b (n*2) vs:=by
 have t0:=Tryz.underlying0;have a0:=a_0;have z0:=z_0;have v0:=v_0;have t3:=Tryz.underlying3;have a3:=a_3;have z3:=z_3;have v3:=v_3;have t4:=Tryz.underlying4;have a4:=a_4;have z4:=z_4;have v4:=v_4;have t9:=Tryz.underlying70;have a9:=Ek;have z9:=zK;have v9:=wi;have t24:=Tryz.underlying28;have a24:=Em;have z24:=D7;have v24:=D9;have u0:=run_underlying Tryz.underlying0;have u3:=run_underlying Tryz.underlying3;have u4:=run_underlying Tryz.underlying4;have u9:=run_underlying Tryz.underlying70;have u24:=run_underlying Tryz.underlying28;have ey:=ey;have hst:=run_storeCells_cells (P:=Tryz.prog) b (n*2) vs 0 w (by rw[hvl];simpa using hsp) (by rw[hvl];simpa using hfz) h1v
 have hrun:∀ty,(Builtin.append_ #[28,28] ty #[.slice (some ⟨b,0,none⟩) n c,.slice (some ⟨vb,voff,none⟩) 1 vc]).run Tryz.prog w= .ok (.slice (some ⟨b,0,none⟩) (n+1) c) (w.setCells b (n*2) vs):=fun ty=>
  ew (P:=Tryz.prog) (t:=28) (u:=28) (ty:=ty) (bs:=some ⟨b,0,none⟩) (len:=n) (m:=1) (cap:=c) Tryz.underlying28 Tryz.underlying28 (.inl ⟨_,rfl⟩) DF rfl (vO w vb voff vc vs hvl hvs) hroom (by show(storeCells ((⟨b,0,none⟩:Addr).add (n*2)) vs).run Tryz.prog w=_;rw[dI,bS];simpa using hst)
 go_enter Tryz.func90,Tryz.ntmps90
 go_wp2_with (at_builtin;refine Lib.wpList_append_run _ rfl _ _ _ _ rfl _ _ rfl rfl _ _ (hrun _) ?_)
 go_ret
 exact⟨rfl,rfl⟩
set_option maxHeartbeats 8000000 in
set_option maxRecDepth 100000 in
theorem OW(base:Option Addr)(n c vb voff vc:Nat)(cs vs:List Value)(w:World)(hnc:n<=c)(hroom:c<n+1)(hbig:n<=1000000)
 (hcl:cs.length=n*2) (hvl:vs.length=2) (hnil:base=none->n=0)
 (hcs:∀a,base=some a->∀j v,cs[j]? =some v->w.cell? (a.add j)=some v)
 (hvs:∀j v,vs[j]? =some v->w.cell? ⟨vb,voff+j,none⟩=some v) (h1v:∀v∈vs,v.oneCell'=true):
 Calls Tryz.prog 90 #[.slice base n c,.int .i64 n,.slice (some ⟨vb,voff,none⟩) 1 vc] w fun e w'=>
  ∃nc,n+1<=nc/\e= .returned (.slice (some ⟨w.heap.size,0,none⟩) (n+1) nc)/\
  w'=w.drew.alloc (.cells (cs.toArray++vs.toArray++Builtin.zeroCells fK.cells (nc-(n+1))) 70 (0,0)):=by
 have t0:=Tryz.underlying0;have a0:=a_0;have z0:=z_0;have v0:=v_0;have t3:=Tryz.underlying3;have a3:=a_3;have z3:=z_3;have v3:=v_3;have t4:=Tryz.underlying4;have a4:=a_4;have z4:=z_4;have v4:=v_4;have t9:=Tryz.underlying70;have a9:=Ek;have z9:=zK;have v9:=wi;have t24:=Tryz.underlying28;have a24:=Em;have z24:=D7;have v24:=D9;have u0:=run_underlying Tryz.underlying0;have u3:=run_underlying Tryz.underlying3;have u4:=run_underlying Tryz.underlying4;have u9:=run_underlying Tryz.underlying70;have u24:=run_underlying Tryz.underlying28;have ey:=ey;obtain⟨i0,hi0,hz0,hzs,hzb⟩:=info_parts QZ
 have hold:∀w':World,w'.heap=w.heap->(Builtin.firstCells 2 n (.slice base n c)).run Tryz.prog w'= .ok cs.toArray w':=fun w' hw'=>by
  cases base with
  |none=>have h0:=hnil rfl;subst h0;rw[cd.1 (hcl.trans (fo _))];exact run_firstCells_none w' 2 0 0 c
  |some a=>exact run_firstCells_some w' 2 n a n c cs hcl (fun j v hj=>by have:=hcs a rfl j v hj;simpa only[World.cell?,hw']using this)
 obtain⟨nc,hnc2,hrun⟩:=eK (P:=Tryz.prog) (w:=w) (t:=28) (u:=28) (ty:=28) (Y:= .slice (some ⟨vb,voff,none⟩) 1 vc) (bs:=base) (len:=n) (m:=1) (cap:=c) (os:=cs) (ns:=vs) (by_:=32) (z:=fK) (i:=i0) Tryz.underlying28 Tryz.underlying28 (.inl ⟨_,rfl⟩) DF hi0 hzb (by decide) wi (fun _ _=>rfl) (fun w' hw'=>vO w' vb voff vc vs hvl (fun j v hj=>by have:=hvs j v hj;simpa only[World.cell?,hw']using this)) hold (by omega) (by omega)
 have hrun':∀ty,(Builtin.append_ #[28,28] ty #[.slice base n c,.slice (some ⟨vb,voff,none⟩) 1 vc]).run Tryz.prog w= .ok (.slice (some ⟨w.heap.size,0,none⟩) (n+1) nc) (w.drew.alloc (.cells (cs.toArray++vs.toArray++Builtin.zeroCells fK.cells (nc-(n+1))) 70 (0,0))):=fun ty=>hrun
 refine Calls.mono (R:=fun e w'=>e= .returned (.slice (some ⟨w.heap.size,0,none⟩) (n+1) nc)/\w'=w.drew.alloc (.cells (cs.toArray++vs.toArray++Builtin.zeroCells fK.cells (nc-(n+1))) 70 (0,0))) ?_ (fun e w' h=>⟨nc,hnc2,h.1,h.2⟩);obtain⟨ROW,hROW⟩:∃ROW:Array Value,ROW=cs.toArray++vs.toArray++Builtin.zeroCells fK.cells (nc-(n+1)):=⟨_,rfl⟩;rw[<-hROW]at hrun' ⊢;clear hROW hrun
 go_enter Tryz.func90,Tryz.ntmps90
 cases base with
 |none=>
  have h0:=hnil rfl;subst h0
  go_wp2_with (at_builtin;refine Lib.wpList_append_run _ rfl _ _ _ _ rfl _ _ rfl rfl _ _ (hrun' _) ?_)
  go_ret
  exact⟨rfl,rfl⟩
 |some a=>
  obtain⟨ab,ao,asp⟩:=a
  go_wp2_with (at_builtin;refine Lib.wpList_append_run _ rfl _ _ _ _ rfl _ _ rfl rfl _ _ (hrun' _) ?_)
  all_goals (go_ret;exact⟨rfl,rfl⟩)
set_option maxHeartbeats 8000000 in
set_option maxRecDepth 100000 in
theorem EH(b n c i vb voff vc:Nat)(cs vs:List Value)(w:World)(hi:i<n)(hnc:n<=c)(hroom:c<n+1)(hbig:n<=1000000)
 (hcl:cs.length=n*2) (hvl:vs.length=2)
 (hcs:∀j v,cs[j]? =some v->w.cell? ⟨b,j,none⟩=some v)
 (hvs:∀j v,vs[j]? =some v->w.cell? ⟨vb,voff+j,none⟩=some v) (h1c:∀v∈cs,v.oneCell'=true) (h1v:∀v∈vs,v.oneCell'=true):
 Calls Tryz.prog 90 #[.slice (some ⟨b,0,none⟩) n c,.int .i64 i,.slice (some ⟨vb,voff,none⟩) 1 vc] w fun e w'=>
  e= .returned (.slice (some ⟨w.heap.size,0,none⟩) (n+1) (grownCap w (n+1) c 70))/\
  w'=(((w.alloc (.cells ((cs.take (i*2)).toArray++Builtin.zeroCells fK.cells (n+1-i)++Builtin.zeroCells fK.cells (grownCap w (n+1) c 70-(n+1))) 70)).drew.setCells w.heap.size (i*2) vs).drew).setCells w.heap.size ((i+1)*2) (cs.drop (i*2)):=by
 have t0:=Tryz.underlying0;have a0:=a_0;have z0:=z_0;have v0:=v_0;have t3:=Tryz.underlying3;have a3:=a_3;have z3:=z_3;have v3:=v_3;have t4:=Tryz.underlying4;have a4:=a_4;have z4:=z_4;have v4:=v_4;have t9:=Tryz.underlying70;have a9:=Ek;have z9:=zK;have v9:=wi;have t24:=Tryz.underlying28;have a24:=Em;have z24:=D7;have v24:=D9;have u0:=run_underlying Tryz.underlying0;have u3:=run_underlying Tryz.underlying3;have u4:=run_underlying Tryz.underlying4;have u9:=run_underlying Tryz.underlying70;have u24:=run_underlying Tryz.underlying28;have ey:=ey;obtain⟨i0,hi0,hz0,hzs,hzb⟩:=info_parts QZ;have hz2:¬((i:Int)=(n:Int)):=by omega
 have hz3:(c:Int)<(n:Int)+1:=by omega
 have hbw:b<w.heap.size:=block_lt_of_cell (hcs 0 _ (ac (by omega)));have hvw:vb<w.heap.size:=block_lt_of_cell (hvs 0 _ (ac (by omega)));have hkk:(n:Int)+1-(i:Int)=((n+1-i:Nat):Int):=by omega
 have hik:i+(n+1-i)=n+1:=by omega
 have hw3:ah.wrap ((n:Int)+1)=(n:Int)+1:=by rw[dh];omega
 have hw4:ah.wrap ((n:Int)+1-(i:Int))=(n:Int)+1-(i:Int):=by rw[dh];omega
 have hold:(Builtin.firstCells i0.size i (.slice (some ⟨b,0,none⟩) i c)).run Tryz.prog w.drew= .ok (cs.take (i*2)).toArray w.drew:=by
  rw[hzs]
  exact run_firstCells_some w.drew 2 i ⟨b,0,none⟩ i c (cs.take (i*2)) (by rw[ax];omega) (fun j v hj=>by
   rw[dI,bS];rw[bC]at hj;split at hj
   ·exact hcs j v hj
   ·cases hj)
 have hrz:∀ty,(Builtin.append_ #[28,3] ty #[.slice (some ⟨b,0,none⟩) i c,.int .i64 ((n:Int)+1-(i:Int))]).run Tryz.prog w=
  .ok (.slice (some ⟨w.heap.size,0,none⟩) (n+1) (grownCap w (n+1) c 70)) (w.drew.alloc (.cells ((cs.take (i*2)).toArray++Builtin.zeroCells fK.cells (n+1-i)++Builtin.zeroCells fK.cells (grownCap w (n+1) c 70-(n+1))) 70)):=fun ty=>by
  have h:=Lib.run_append_grow_zeros w 28 3 ty 70 i0 _ .i64 .i64 Tryz.underlying28 Tryz.underlying3 hi0 hz0 (some ⟨b,0,none⟩) i c (cs.take (i*2)) hold (n+1-i) (by omega) (by omega) (by omega) (by omega) (by rw[hzb];omega) (by rw[hzb,hik];exact growslice_fits hroom (by omega));rw[hik]at h;rw[hkk];exact h
 obtain⟨G,hG⟩:∃G,G=grownCap w (n+1) c 70:=⟨_,rfl⟩;have hzsz:fK.cells.size=2:=rfl;obtain⟨ROW,hROW⟩:∃ROW:Array Value,ROW=(cs.take (i*2)).toArray++Builtin.zeroCells fK.cells (n+1-i)++Builtin.zeroCells fK.cells (G-(n+1)):=⟨_,rfl⟩;rw[<-hG]at hrz ⊢;rw[<-hROW]at hrz ⊢
 have hRl:(n+1)*2<=ROW.size:=by rw[hROW];simp only[cG,bT,ax,hcl,bV,hzsz];omega
 obtain⟨W1,hW1⟩:∃W1,W1=w.drew.alloc (.cells ROW 70):=⟨_,rfl⟩;rw[<-hW1]at hrz
 have hN:∀j,j<(n+1)*2->(W1.cell? ⟨w.heap.size,j,none⟩).isSome=true:=fun j hj=>by rw[hW1,World.cell?_alloc_at (w:=w.drew) ROW _ w.heap.size j rfl,cg (by omega)];rfl
 have hNf:∀j,W1.frozen? ⟨w.heap.size,j,none⟩=false:=fun j=>by rw[hW1];exact World.frozen?_alloc_at (w:=w.drew) ROW _ w.heap.size j rfl
 have hOb:∀j v,w.cell? ⟨b,j,none⟩=some v->W1.cell? ⟨b,j,none⟩=some v:=fun j v h=>by rw[hW1,World.cell?_alloc_past (w:=w.drew) _ b j hbw];exact h
 have hOv:∀j v,w.cell? ⟨vb,j,none⟩=some v->W1.cell? ⟨vb,j,none⟩=some v:=fun j v h=>by rw[hW1,World.cell?_alloc_past (w:=w.drew) _ vb j hvw];exact h
 have hcpA:∀(W:World),(∀x,W.cell? x=W1.cell? x)->(∀x,W.frozen? x=W1.frozen? x)->∀ty dc,(Builtin.copy_ #[28,28] ty #[.slice (some ⟨w.heap.size,i*2,none⟩) (n+1-i) dc,.slice (some ⟨vb,voff,none⟩) 1 vc]).run Tryz.prog W= .ok (goInt 1) (W.setCells w.heap.size (i*2) vs):=fun W hWc hWf ty dc=>
  dA W _ _ ty 70 w.heap.size (i*2) (n+1-i) dc ⟨vb,voff,none⟩ 1 vc vs 2 1 Tryz.underlying28 ud (by simp only[Nat.min_def];split<;>omega) (by rw[hvl])
   (fun j v hj=>by rw[dI,hWc];exact hOv _ v (hvs j v hj))
   (fun j hj=>by rw[hWc];exact hN _ (by omega)) (fun j hj=>by rw[hWf];exact hNf _) h1v
 have hGn:n+1<=G:=by rw[hG];exact grownCap_ge w _ _ _
 have hG63:G<=9223372036854775807:=by have:=grownCap_le_maxLen w (n+1) c 70 (by unfold maxLen;omega);rw[<-hG]at this;unfold maxLen at this;omega
 have hGi:¬(G=i):=by omega
 have hGim:¬(G=i+1):=by omega
 have hci:¬(c=i):=by omega
 have hbN:b≠w.heap.size:=by omega
 have hdl:(cs.drop (i*2)).length=(n-i)*2:=by rw[aL,hcl];omega
 have hcpB:∀(W:World),(∀x,W.cell? x=(W1.setCells w.heap.size (i*2) vs).cell? x)->(∀x,W.frozen? x=(W1.setCells w.heap.size (i*2) vs).frozen? x)->∀ty dc sc,(Builtin.copy_ #[28,28] ty #[.slice (some ⟨w.heap.size,(i+1)*2,none⟩) (n-i) dc,.slice (some ⟨b,i*2,none⟩) (n-i) sc]).run Tryz.prog W= .ok (goInt ((n-i:Nat):Int)) (W.setCells w.heap.size ((i+1)*2) (cs.drop (i*2))):=fun W hWc hWf ty dc sc=>
  dA W _ _ ty 70 w.heap.size ((i+1)*2) (n-i) dc ⟨b,i*2,none⟩ (n-i) sc (cs.drop (i*2)) 2 (n-i) Tryz.underlying28 ud (by simp only[Nat.min_def];split<;>omega) hdl
   (fun j v hj=>by rw[dI,hWc,World.cell?_setCells_out _ _ _ _ _ (fun h _=>absurd h hbN)];exact hOb _ v (hcs (i*2+j) v (by rwa[bi]at hj)))
   (fun j hj=>by rw[hWc];exact isSome_setCells _ _ _ _ (fun t ht=>hN _ (by omega)) _ (hN _ (by omega)))
   (fun j hj=>by rw[hWf,World.frozen?_setCells];exact hNf _) (fun v hv=>h1c v (cI hv))
 subst hW1;have hE1:∀x,((w.alloc (.cells ROW 70)).drew).cell? x=(w.drew.alloc (.cells ROW 70)).cell? x:=fun x=>rfl
 have hE2:∀x,((w.alloc (.cells ROW 70)).drew).frozen? x=(w.drew.alloc (.cells ROW 70)).frozen? x:=fun x=>rfl
 have hF1:∀x,(((w.alloc (.cells ROW 70)).drew.setCells w.heap.size (i*2) vs).drew).cell? x=((w.drew.alloc (.cells ROW 70)).setCells w.heap.size (i*2) vs).cell? x:=fun x=>rfl
 have hF2:∀x,(((w.alloc (.cells ROW 70)).drew.setCells w.heap.size (i*2) vs).drew).frozen? x=((w.drew.alloc (.cells ROW 70)).setCells w.heap.size (i*2) vs).frozen? x:=fun x=>rfl
 have hw1:ah.wrap ((i:Int)+1)=(i:Int)+1:=by rw[dh];omega
 have hb1:(0:Int)<=(i:Int)+1:=by omega
 have hin:i<=n:=by omega
 have htn:((i:Int)+1).toNat=i+1:=by omega
 have hb3:(i:Int)<=(n:Int):=by omega
 clear hkk hik hold hROW hG hRl
 go_enter Tryz.func90,Tryz.ntmps90
 go_wp2_with (first
  |(at_builtin;refine Lib.wpList_append_run _ rfl _ _ _ _ rfl _ _ rfl rfl _ _ (hrz _) ?_)
  |(at_builtin;refine wpList_copy_runI _ rfl _ _ 28 28 rfl _ _ rfl rfl (hcpA _ hE1 hE2 _ _) ?_)
  |(at_builtin;refine wpList_copy_runI _ rfl _ _ 28 28 rfl _ _ rfl rfl (hcpB _ (fun _=>rfl) (fun _=>rfl) _ _ _) ?_))
 go_region_law_o (refine step_copy_runI rfl _ _ 28 28 rfl (.slice (some ⟨w.heap.size,(i+1)*2,none⟩) (n-i) (G-(i+1))) (.slice (some ⟨b,i*2,none⟩) (n-i) (c-i)) (by simp[Act.eval,Act.put]) (by simp[Act.eval,Act.put]) (hcpB _ hF1 hF2 3 (G-(i+1)) (c-i)) ?_)
 go_wp2
 go_ret
 exact⟨rfl,rfl⟩
theorem BC:Y5 Tryz.prog 86 67 7 where
 cb:=by kernel_rfl
 shift:=fun b n c i vb voff vc cs vs w hi hroom hbig hvb hcl hvl hcs hsp hfz hvs h1c h1v hsh=>by
  obtain⟨tB,kB,hsb,hfe⟩:=hsh;have h0:0<vs.length:=by rw[hvl];decide
  obtain⟨tA,kA,hsa⟩:=uO (hvs 0 _ (ac h0));exact Cf b n c i vb voff vc cs vs w hi hroom hbig hvb hcl hvl hcs hsp hfz hvs h1c h1v tA tB kA kB hsa hsb hfe
 room:=fun b n c vb voff vc vs w hroom hbig hvl hsp hfz hvs h1v=>EK b n c vb voff vc vs w hroom hbig hvl hsp hfz hvs h1v
 grow:=fun b n c i vb voff vc cs vs w hi hnc hroom hbig hcl hvl hcs hvs h1c h1v=>by
  refine(EL b n c i vb voff vc cs vs w hi hnc hroom hbig hcl hvl hcs hvs h1c h1v).mono ?_;rintro e w' ⟨rfl,rfl⟩;have hge:n+1<=grownCap w (n+1) c 67:=grownCap_ge w _ _ _;have hzsz:fL.cells.size=7:=rfl;refine⟨grownCap w (n+1) c 67,_,hge, ?_,rfl,rfl,fun k hk=> ?_⟩
  ·simp only[cG,bV,hzsz,bT,ax,hcl]
   omega
  ·have hl:(cs.take (i*7)).length=i*7:=by rw[ax];omega
   rw[aQ,b8 (by simp only[cG,bT,hl,bV,hzsz];omega),b8 (by simp only[bT,hl];omega)];rw[cU,bC,if_pos hk,<-aa]
 endg:=fun base n c vb voff vc cs vs w hnc hroom hbig hcl hvl hnil hcs hvs h1v=>by
  refine(OY base n c vb voff vc cs vs w hnc hroom hbig hcl hvl hnil hcs hvs h1v).mono ?_;rintro e w' ⟨nc,hge,rfl,rfl⟩;have hzsz:fL.cells.size=7:=rfl;refine⟨nc,_,hge, ?_,rfl,rfl,fun k hk=> ?_⟩
  ·simp only[cG,bV,hzsz,bT,hcl,hvl]
   omega
  ·rw[aQ,b8 (by simp only[cG,bT,hcl,hvl];omega),List.append_toArray,cU,<-aa]
def p86:List SV->List aC->Nat->Option dv
 |[.psl 0 7 0 n none,.int .i64 i,.lst 7 [s] t],[.arr 7 rows],0=>if rows.length=n/\0<=i/\i<=n/\n<=1000000 then some ⟨.psl 100 7 0 (n+1) none,[(100,.arr 7 (jx rows i.toNat s))],[]⟩else none
 |[.lst 7 [] .clip,.int .i64 0,.lst 7 [s] t],[],0=>some ⟨.psl 100 7 0 1 none,[(100,.arr 7 [s])],[]⟩
 |_,_,_=>none
theorem p86_ok:∀ar os k q,p86 ar os k=some q->fz Tryz.prog 86 ar os k (· =q):=by
 intro ar os k q h;unfold p86 at h;split at h
 ·rename_i n i s t rows
  rw[aG]at h;obtain⟨⟨h1,h2,h3,h4⟩,h⟩:=h;cases h;obtain⟨j,rfl⟩:∃j:Nat,i=j:=⟨i.toNat,by omega⟩;have:=rh (by decide) (by decide) BC (rows:=rows) (i:=j) (n:=n) (s:=s) (t:=t) h1 (by omega) h4;rw[Int.toNat_natCast];exact this
 ·cases h
  exact oD (by decide) BC
 ·cases h
theorem BB:Y5 Tryz.prog 90 70 2 where
 cb:=by kernel_rfl
 shift:=fun b n c i vb voff vc cs vs w hi hroom hbig hvb hcl hvl hcs hsp hfz hvs h1c h1v hsh=>by
  obtain⟨tB,kB,hsb,hfe⟩:=hsh;have h0:0<vs.length:=by rw[hvl];decide
  obtain⟨tA,kA,hsa⟩:=uO (hvs 0 _ (ac h0));exact Ce b n c i vb voff vc cs vs w hi hroom hbig hvb hcl hvl hcs hsp hfz hvs h1c h1v tA tB kA kB hsa hsb hfe
 room:=fun b n c vb voff vc vs w hroom hbig hvl hsp hfz hvs h1v=>EG b n c vb voff vc vs w hroom hbig hvl hsp hfz hvs h1v
 grow:=fun b n c i vb voff vc cs vs w hi hnc hroom hbig hcl hvl hcs hvs h1c h1v=>by
  refine(EH b n c i vb voff vc cs vs w hi hnc hroom hbig hcl hvl hcs hvs h1c h1v).mono ?_;rintro e w' ⟨rfl,rfl⟩;have hge:n+1<=grownCap w (n+1) c 70:=grownCap_ge w _ _ _;have hzsz:fK.cells.size=2:=rfl;refine⟨grownCap w (n+1) c 70,_,hge, ?_,rfl,rfl,fun k hk=> ?_⟩
  ·simp only[cG,bV,hzsz,bT,ax,hcl]
   omega
  ·have hl:(cs.take (i*2)).length=i*2:=by rw[ax];omega
   rw[aQ,b8 (by simp only[cG,bT,hl,bV,hzsz];omega),b8 (by simp only[bT,hl];omega)];rw[cU,bC,if_pos hk,<-aa]
 endg:=fun base n c vb voff vc cs vs w hnc hroom hbig hcl hvl hnil hcs hvs h1v=>by
  refine(OW base n c vb voff vc cs vs w hnc hroom hbig hcl hvl hnil hcs hvs h1v).mono ?_;rintro e w' ⟨nc,hge,rfl,rfl⟩;have hzsz:fK.cells.size=2:=rfl;refine⟨nc,_,hge, ?_,rfl,rfl,fun k hk=> ?_⟩
  ·simp only[cG,bV,hzsz,bT,hcl,hvl]
   omega
  ·rw[aQ,b8 (by simp only[cG,bT,hcl,hvl];omega),List.append_toArray,cU,<-aa]
def p90:List SV->List aC->Nat->Option dv
 |[.psl 0 2 0 n none,.int .i64 i,.lst 2 [s] t],[.arr 2 rows],0=>if rows.length=n/\0<=i/\i<=n/\n<=1000000 then some ⟨.psl 100 2 0 (n+1) none,[(100,.arr 2 (jx rows i.toNat s))],[]⟩else none
 |[.lst 2 [] .clip,.int .i64 0,.lst 2 [s] t],[],0=>some ⟨.psl 100 2 0 1 none,[(100,.arr 2 [s])],[]⟩
 |_,_,_=>none
theorem p90_ok:∀ar os k q,p90 ar os k=some q->fz Tryz.prog 90 ar os k (· =q):=by
 intro ar os k q h;unfold p90 at h;split at h
 ·rename_i n i s t rows
  rw[aG]at h;obtain⟨⟨h1,h2,h3,h4⟩,h⟩:=h;cases h;obtain⟨j,rfl⟩:∃j:Nat,i=j:=⟨i.toNat,by omega⟩;have:=rh (by decide) (by decide) BB (rows:=rows) (i:=j) (n:=n) (s:=s) (t:=t) h1 (by omega) h4;rw[Int.toNat_natCast];exact this
 ·cases h
  exact oD (by decide) BB
 ·cases h
end
end Pr
end Go.Proofs.YtbfnljmmepcbfaaGreatDoor