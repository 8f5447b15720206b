/- Functions of the library that are shown by walks. No condition. -/
import Derived.Test.YtdafipacemgcoaaGreatDoorVaMore
import Derived.Shelf.Spec.SlicesInsertGrow
open Array renaming getD_eq_getD_getElem? -> bf, getElem?_append_left -> gj, getElem?_eq_getElem -> cG, getElem?_eq_some_iff -> dA
open Int renaming toNat_natCast -> eE
open Go.IntKind renaming i64 -> ai
open List renaming getD_eq_getElem?_getD -> aa, getElem?_drop -> bi, getElem?_eq_getElem -> af, getElem?_take -> bE, getElem?_toArray -> gw, length_append -> ah, length_drop -> aE, length_eq_zero_iff -> bR, length_singleton -> aD, length_take -> ay, mem_of_mem_drop -> dy, mem_singleton -> bp, size_toArray -> jF
open Nat renaming add_assoc -> cK, zero_add -> bB
open Option renaming ite_none_right_eq_some -> aJ, map_some -> bt, some -> ax
set_option linter.unusedSectionVars false
set_option linter.unusedSimpArgs false
set_option linter.unusedVariables false
namespace Go.Proofs.YtdafipacemgcoaaGreatDoor
open Go.Sy
open UInt8 renaming reduceLT -> ur1, reduceLE -> ur2
open Int renaming reduceToNat -> ir1, reduceLE -> ir2, reduceLT -> ir3, reduceEq -> ir4, reduceNe -> ir5, reduceNeg -> ir6, reduceAdd -> ir7, reduceSub -> ir8, reduceMul -> ir9
open Nat renaming reducePow -> nr1, reduceDiv -> nr2, reduceMod -> nr3, reduceAdd -> nr4, reduceSub -> nr5, reduceMul -> nr6, reduceLT -> nr7, reduceLeDiff -> nr8, reduceEqDiff -> nr9, reduceBEq -> nr10
open Go.RowKit Go.ChangeShapes Go.WideShapes Go.Shelf Go.Lib
namespace Pr
section
variable [bg]
theorem m4{β:Type}(a:Option Addr)(la ca:Nat)(b:Option Addr)(lb cb:Nat)(h1:Option Addr->Nat->Nat->Option Addr->Nat->Nat->β)(h2:Array Value->β):
 Extern.SlicesOverlaps.overlaps.match_4 (fun _=>β) #[.slice a la ca,.slice b lb cb] h1 h2=h1 a la ca b lb cb:=rfl
theorem sI{P:Program}(w:World)(tS tR e:TypeId)(ht:P.underlying tS=some (.slice e))(size:Nat)(hz:∀w,(Go.sizeOf e).run P w= .ok size w)
 (a b:Addr) (la ca lb cb:Nat) (hne:a.block≠b.block) (tA tB:TypeId) (kA kB:Nat) (hsa:w.shape? a.block=some (tA,kA+1)) (hsb:w.shape? b.block=some (tB,kB))
 (hfb:w.frozen? b=false) (hfe:w.frozen? {block:=b.block,off:=kB}=false):
 (Extern.SlicesOverlaps.overlaps #[tS,tS] #[tR] #[.slice (some a) la ca,.slice (some b) lb cb]).run P w= .ok (.bool false) w:=by
 have hnb:(a.block !=b.block)=true:=by simpa using hne
 have hnb':(a.block==b.block)=false:=by simpa using hne
 unfold Extern.SlicesOverlaps.overlaps;rw[m4]
 by_cases h0:la=0\/lb=0\/size=0
 ·simp[run_underlying ht,hz,h0]
 ·cases hfa:w.frozen? a<;>cases hfk:w.frozen? {block:=a.block,off:=kA+1}<;>
   simp[run_underlying ht,hz,h0,hnb,hnb',frozen,noView,viewAt,mayBeOne,stringish,shape,Sem.run,hsa,hsb,hfa,hfk,hfb,hfe]
theorem mT{P:Program}{t:TypeId}{z:Value}(h:(P.info? t).map (fun i=>i.zero)=some (some z))(w:World):(zeroValue t).run P w= .ok z w:=by
 cases hi:P.info? t with
 |none=>simp[hi]at h
 |some i=>simp only[hi,bt,ax.injEq]at h;simp[zeroValue,run_typeInfo w hi,h]
theorem TE:∀w,(Go.sizeOf 36).run Tryz.prog w= .ok 1 w:=fun w=>ct (by kernel_rfl) w
theorem xbG:∀w,(isAgg 36).run Tryz.prog w= .ok false w:=fun w=>fv (by kernel_rfl) w
theorem TI:∀w,(zeroValue 36).run Tryz.prog w= .ok (.slice none 0 0) w:=fun w=>mT (by kernel_rfl) w
theorem QJ:∀w,(Go.sizeOf 22).run Tryz.prog w= .ok 1 w:=fun w=>ct (by kernel_rfl) w
theorem xbH:∀w,(isAgg 22).run Tryz.prog w= .ok false w:=fun w=>fv (by kernel_rfl) w
theorem TJ:∀w,(zeroValue 22).run Tryz.prog w= .ok (.slice none 0 0) w:=fun w=>mT (by kernel_rfl) w
theorem z_3:∀w,(Go.sizeOf 3).run Tryz.prog w= .ok 1 w:=fun w=>ct (by kernel_rfl) w
theorem a_3:∀w,(isAgg 3).run Tryz.prog w= .ok false w:=fun w=>fv (by kernel_rfl) w
theorem v_3:∀w,(zeroValue 3).run Tryz.prog w= .ok (.int .i64 0) w:=fun w=>mT (by kernel_rfl) w
theorem z_4:∀w,(Go.sizeOf 4).run Tryz.prog w= .ok 1 w:=fun w=>ct (by kernel_rfl) w
theorem a_4:∀w,(isAgg 4).run Tryz.prog w= .ok false w:=fun w=>fv (by kernel_rfl) w
theorem v_4:∀w,(zeroValue 4).run Tryz.prog w= .ok (.bool false) w:=fun w=>mT (by kernel_rfl) w
theorem z_0:∀w,(Go.sizeOf 0).run Tryz.prog w= .ok 1 w:=fun w=>ct (by kernel_rfl) w
theorem a_0:∀w,(isAgg 0).run Tryz.prog w= .ok false w:=fun w=>fv (by kernel_rfl) w
theorem v_0:∀w,(zeroValue 0).run Tryz.prog w= .ok (.tuple #[]) w:=fun w=>mT (by kernel_rfl) w
theorem xbj:(Tryz.prog.info? 22).map (fun i=>(i.zero,i.size,i.bytes))=some (some (Value.slice none 0 0),1,24):=by kernel_rfl
theorem pw:Tryz.prog.follows .mixedOrders=true:=by kernel_rfl
set_option maxHeartbeats 8000000 in
set_option maxRecDepth 100000 in
theorem Dn(b off n c i vb voff m vc:Nat)(cs vs:List Value)(w:World)(hi:i<n)(hm:0<m)(hroom:n+m<=c)(hc63:n+m<=9223372036854775807)(hvb:vb≠b)
 (hcl:cs.length=n) (hvl:vs.length=m)
 (hcs:∀j v,cs[j]? =some v->w.cell? ⟨b,off+j,none⟩=some v) (hsp:∀j,j<n+m->(w.cell? ⟨b,off+j,none⟩).isSome=true) (hfz:∀j,j<n+m->w.frozen? ⟨b,off+j,none⟩=false)
 (hvs:∀j v,vs[j]? =some v->w.cell? ⟨vb,voff+j,none⟩=some v) (h1c:∀v∈cs,v.oneCell'=true) (h1v:∀v∈vs,v.oneCell'=true)
 (tA tB:TypeId) (kA kB:Nat) (hsa:w.shape? vb=some (tA,kA+1)) (hsb:w.shape? b=some (tB,kB)) (hfe:w.frozen? ⟨b,kB,none⟩=false):
 Calls Tryz.prog 62 #[.slice (some ⟨b,off,none⟩) n c,.int .i64 i,.slice (some ⟨vb,voff,none⟩) m vc] w fun e w'=>e= .returned (.slice (some ⟨b,off,none⟩) (n+m) c)/\w'=(w.drew.setCells b (off+(i+m)) (cs.drop i)).setCells b (off+i) vs:=by
 have t0:=Tryz.underlying0;have a0:=a_0;have z0:=z_0;have v0:=v_0;have t3:=Tryz.underlying3;have a3:=a_3;have z3:=z_3;have v3:=v_3;have t4:=Tryz.underlying4;have a4:=a_4;have z4:=z_4;have v4:=v_4;have t9:=Tryz.underlying22;have a9:=xbH;have z9:=QJ;have v9:=TJ;have t24:=Tryz.underlying36;have a24:=xbG;have z24:=TE;have v24:=TI;have u0:=run_underlying Tryz.underlying0;have u3:=run_underlying Tryz.underlying3;have u4:=run_underlying Tryz.underlying4;have u9:=run_underlying Tryz.underlying22;have u24:=run_underlying Tryz.underlying36;have hz1:¬((m:Int)=0):=by omega
 have hz2:¬((i:Int)=(n:Int)):=by omega
 have hsz:(Tryz.prog.info? 22).map (·.size)=some 1:=by obtain⟨i0,hi0,h0,h1,h2⟩:=info_parts xbj;rw[hi0];simp[h1]
 have hov:∀lb cb,(callFunc 104 #[.slice (some ⟨vb,voff,none⟩) m vc,.slice (some ⟨b,off+(i+m),none⟩) lb cb]).run Tryz.prog w= .ok (.value (.bool false)) w:=fun lb cb=>by
  rw[run_callFunc_extern Tryz.func104 (by kernel_rfl) (by kernel_rfl) (by kernel_rfl) (e:=Extern.SlicesOverlaps.overlaps #[36,36] #[4]) (by kernel_rfl),
   sI w 36 4 22 Tryz.underlying36 1 QJ ⟨vb,voff,none⟩ ⟨b,off+(i+m),none⟩ m vc lb cb hvb tA tB kA kB hsa hsb (by have:=hfz (i+m) (by omega);exact this) hfe]
  rfl
 have hdl:(cs.drop i).length=n-i:=by rw[aE,hcl]
 have pw:=pw;have hw1:ai.wrap ((i:Int)+(m:Int))=(i:Int)+(m:Int):=by rw[IntKind.wrap_i64];omega
 have hb1:(0:Int)<=(i:Int)+(m:Int):=by omega
 have hin:i<=n:=by omega
 have htn:((i:Int)+(m:Int)).toNat=i+m:=by omega
 have hb2:¬(c=i+m):=by omega
 have hb3:(i:Int)<=(n:Int)+(m:Int):=by omega
 have hb4:¬(c=i):=by omega
 have hcp1:∀ty dc sc,(Builtin.copy_ #[36,36] ty #[.slice (some ⟨b,off+(i+m),none⟩) (n+m-(i+m)) dc,.slice (some ⟨b,off+i,none⟩) (n+m-i) sc]).run Tryz.prog w.drew= .ok (goInt (cs.drop i).length) (w.drew.setCells b (off+(i+m)) (cs.drop i)):=fun ty dc sc=>
  run_copy_cells w.drew _ _ ty 22 b (off+(i+m)) (n+m-(i+m)) dc ⟨b,off+i,none⟩ (n+m-i) sc (cs.drop i) Tryz.underlying36 hsz (by rw[hdl];simp only[Nat.min_def];split<;>omega)
   (fun j v hj=>by rw[Addr.add_lit,cK];exact hcs (i+j) v (by rwa[bi]at hj))
   (fun j hj=>by rw[cK];exact hsp _ (by omega)) (fun j hj=>by rw[cK];exact hfz _ (by omega)) (fun v hv=>h1c v (dy hv))
 obtain⟨W1,hW1⟩:∃W1,W1=w.drew.setCells b (off+(i+m)) (cs.drop i):=⟨_,rfl⟩
 have hsp1:∀k,k<n+m->(W1.cell? ⟨b,off+k,none⟩).isSome=true:=fun k hk=>by rw[hW1];exact isSome_setCells b _ _ _ (fun j hj=>by rw[cK];exact hsp _ (by omega)) _ (hsp k hk)
 have hcp2:∀(W:World),(∀x,W.cell? x=W1.cell? x)->(∀x,W.frozen? x=W1.frozen? x)->∀ty dc,(Builtin.copy_ #[36,36] ty #[.slice (some ⟨b,off+i,none⟩) (n+m-i) dc,.slice (some ⟨vb,voff,none⟩) m vc]).run Tryz.prog W= .ok (goInt vs.length) (W.setCells b (off+i) vs):=fun W hWc hWf ty dc=>
  run_copy_cells W _ _ ty 22 b (off+i) (n+m-i) dc ⟨vb,voff,none⟩ m vc vs Tryz.underlying36 hsz (by rw[hvl];simp only[Nat.min_def];split<;>omega)
   (fun j v hj=>by rw[Addr.add_lit,hWc,hW1,World.cell?_setCells_out b _ _ _ _ (fun h _=>absurd h hvb)];exact hvs j v hj)
   (fun j hj=>by rw[hWc,cK];exact hsp1 _ (by omega)) (fun j hj=>by rw[hWf,hW1,World.frozen?_setCells,cK];exact hfz _ (by omega)) h1v
 rw[<-hW1]at hcp1
 go_enter Tryz.func62,Tryz.ntmps62
 go_wp2_with (simp only[hov])
 go_region_law_o (refine step_copy_runI rfl _ _ 36 36 rfl _ _ (by simp[Act.eval,Act.put]) (by simp[Act.eval,Act.put]) (hcp1 _ _ _) ?_)
 go_wp2_with (at_builtin;refine wpList_copy_runI _ rfl _ _ 36 36 rfl _ _ rfl rfl (hcp2 _ (fun _=>rfl) (fun _=>rfl) _ _) ?_)
 go_ret
 first|exact⟨rfl,rfl⟩|exact⟨rfl,by rw[hW1]⟩
set_option maxHeartbeats 8000000 in
set_option maxRecDepth 100000 in
theorem ss(b off n c vb voff m vc:Nat)(vs:List Value)(w:World)(hm:0<m)(hroom:n+m<=c)(hc63:n+m<=9223372036854775807)
 (hvl:vs.length=m) (hsp:∀j,j<m->(w.cell? ⟨b,off+n+j,none⟩).isSome=true) (hfz:∀j,j<m->w.frozen? ⟨b,off+n+j,none⟩=false)
 (hvs:∀j v,vs[j]? =some v->w.cell? ⟨vb,voff+j,none⟩=some v) (h1v:∀v∈vs,v.oneCell'=true):
 Calls Tryz.prog 62 #[.slice (some ⟨b,off,none⟩) n c,.int .i64 n,.slice (some ⟨vb,voff,none⟩) m vc] w fun e w'=>e= .returned (.slice (some ⟨b,off,none⟩) (n+m) c)/\w'=w.setCells b (off+n) vs:=by
 have t0:=Tryz.underlying0;have a0:=a_0;have z0:=z_0;have v0:=v_0;have t3:=Tryz.underlying3;have a3:=a_3;have z3:=z_3;have v3:=v_3;have t4:=Tryz.underlying4;have a4:=a_4;have z4:=z_4;have v4:=v_4;have t9:=Tryz.underlying22;have a9:=xbH;have z9:=QJ;have v9:=TJ;have t24:=Tryz.underlying36;have a24:=xbG;have z24:=TE;have v24:=TI;have u0:=run_underlying Tryz.underlying0;have u3:=run_underlying Tryz.underlying3;have u4:=run_underlying Tryz.underlying4;have u9:=run_underlying Tryz.underlying22;have u24:=run_underlying Tryz.underlying36;have pw:=pw;have hz1:¬((m:Int)=0):=by omega
 have hsrc:Src Tryz.prog 1 36 (.slice (some ⟨vb,voff,none⟩) m vc) m vs w:=Src.ofSlice w Tryz.underlying36 ⟨vb,voff,none⟩ m vc vs (by omega) (fun j u hj=>by rw[Addr.add_lit];exact hvs j u hj) h1v
 go_enter Tryz.func62,Tryz.ntmps62
 go_wp2_with (at_builtin;refine wpList_append_room1 _ rfl _ _ 36 36 rfl 22 _ _ Tryz.underlying36 xbj b off n c rfl _ rfl m vs hsrc hroom (by rw[hvl];exact hsp) (by rw[hvl];exact hfz) ?_)
 go_ret
 exact⟨rfl,rfl⟩
set_option maxHeartbeats 8000000 in
set_option maxRecDepth 100000 in
theorem su(base:Option Addr)(n c vb voff m vc:Nat)(cs vs:List Value)(w:World)(hm:0<m)(hnc:n<=c)(hroom:c<n+m)(hbig:(n+m)*24<=140737488355328)
 (hcl:cs.length=n) (hvl:vs.length=m) (hnil:base=none->n=0)
 (hcs:∀a,base=some a->∀j v,cs[j]? =some v->w.cell? (a.add j)=some v)
 (hvs:∀j v,vs[j]? =some v->w.cell? ⟨vb,voff+j,none⟩=some v) (h1v:∀v∈vs,v.oneCell'=true):
 Calls Tryz.prog 62 #[.slice base n c,.int .i64 n,.slice (some ⟨vb,voff,none⟩) m vc] w fun e w'=>
  e= .returned (.slice (some ⟨w.heap.size,0,none⟩) (n+m) (grownCap w (n+m) c 22))/\
  w'=w.drew.alloc (.cells ((cs++vs).toArray++Builtin.zeroCells (Value.slice none 0 0).cells (grownCap w (n+m) c 22-(n+m))) 22):=by
 have t0:=Tryz.underlying0;have a0:=a_0;have z0:=z_0;have v0:=v_0;have t3:=Tryz.underlying3;have a3:=a_3;have z3:=z_3;have v3:=v_3;have t4:=Tryz.underlying4;have a4:=a_4;have z4:=z_4;have v4:=v_4;have t9:=Tryz.underlying22;have a9:=xbH;have z9:=QJ;have v9:=TJ;have t24:=Tryz.underlying36;have a24:=xbG;have z24:=TE;have v24:=TI;have u0:=run_underlying Tryz.underlying0;have u3:=run_underlying Tryz.underlying3;have u4:=run_underlying Tryz.underlying4;have u9:=run_underlying Tryz.underlying22;have u24:=run_underlying Tryz.underlying36;have pw:=pw;obtain⟨i0,hi0,hz0,hzs,hzb⟩:=info_parts xbj;have hz1:¬((m:Int)=0):=by omega
 have hsrc:Src Tryz.prog i0.size 36 (.slice (some ⟨vb,voff,none⟩) m vc) m vs w:=by rw[hzs];exact Src.ofSlice w Tryz.underlying36 ⟨vb,voff,none⟩ m vc vs (by omega) (fun j u hj=>by rw[Addr.add_lit];exact hvs j u hj) h1v
 have hold:(Builtin.firstCells i0.size n (.slice base n c)).run Tryz.prog w.drew= .ok cs.toArray w.drew:=by
  rw[hzs];cases base with
  |none=>have h0:=hnil rfl;subst h0;rw[bR.1 hcl];exact run_firstCells_none w.drew 1 0 0 c
  |some a=>exact run_firstCells_some w.drew 1 n a n c cs (by omega) (fun j v hj=>hcs a rfl j v hj)
 have hrun:∀ty,(Builtin.append_ #[36,36] ty #[.slice base n c,.slice (some ⟨vb,voff,none⟩) m vc]).run Tryz.prog w=_:=fun ty=>run_append_grow_src w 36 36 ty 22 i0 _ Tryz.underlying36 hi0 hz0 base n c cs hold _ m vs hsrc hroom (by omega) (by rw[hzb];exact growslice_fits hroom hbig)
 go_enter Tryz.func62,Tryz.ntmps62
 cases base with
 |none=>
  have h0:=hnil rfl;subst h0
  go_wp2_with (at_builtin;refine Lib.wpList_append_run _ rfl _ _ _ _ rfl _ _ rfl rfl _ _ (hrun _) ?_)
  go_ret
  exact⟨rfl,rfl⟩
 |some a=>
  obtain⟨ab,ao,asp⟩:=a
  go_wp2_with (at_builtin;refine Lib.wpList_append_run _ rfl _ _ _ _ rfl _ _ rfl rfl _ _ (hrun _) ?_)
  all_goals (go_ret;exact⟨rfl,rfl⟩)
set_option maxHeartbeats 8000000 in
set_option maxRecDepth 100000 in
theorem FH(b off n c i vb voff m vc:Nat)(cs vs:List Value)(w:World)(hi:i<n)(hm:0<m)(hnc:n<=c)(hroom:c<n+m)(hbig:(n+m)*24<=140737488355328)
 (hcl:cs.length=n) (hvl:vs.length=m)
 (hcs:∀j v,cs[j]? =some v->w.cell? ⟨b,off+j,none⟩=some v)
 (hvs:∀j v,vs[j]? =some v->w.cell? ⟨vb,voff+j,none⟩=some v) (h1c:∀v∈cs,v.oneCell'=true) (h1v:∀v∈vs,v.oneCell'=true):
 Calls Tryz.prog 62 #[.slice (some ⟨b,off,none⟩) n c,.int .i64 i,.slice (some ⟨vb,voff,none⟩) m vc] w fun e w'=>
  e= .returned (.slice (some ⟨w.heap.size,0,none⟩) (n+m) (grownCap w (n+m) c 22))/\
  w'=(((w.alloc (.cells ((cs.take i).toArray++Builtin.zeroCells (Value.slice none 0 0).cells (n+m-i)++Builtin.zeroCells (Value.slice none 0 0).cells (grownCap w (n+m) c 22-(n+m))) 22)).drew.setCells w.heap.size i vs).drew).setCells w.heap.size (i+m) (cs.drop i):=by
 have t0:=Tryz.underlying0;have a0:=a_0;have z0:=z_0;have v0:=v_0;have t3:=Tryz.underlying3;have a3:=a_3;have z3:=z_3;have v3:=v_3;have t4:=Tryz.underlying4;have a4:=a_4;have z4:=z_4;have v4:=v_4;have t9:=Tryz.underlying22;have a9:=xbH;have z9:=QJ;have v9:=TJ;have t24:=Tryz.underlying36;have a24:=xbG;have z24:=TE;have v24:=TI;have u0:=run_underlying Tryz.underlying0;have u3:=run_underlying Tryz.underlying3;have u4:=run_underlying Tryz.underlying4;have u9:=run_underlying Tryz.underlying22;have u24:=run_underlying Tryz.underlying36;have pw:=pw;obtain⟨i0,hi0,hz0,hzs,hzb⟩:=info_parts xbj;have hz1:¬((m:Int)=0):=by omega
 have hz2:¬((i:Int)=(n:Int)):=by omega
 have hz3:(c:Int)<(n:Int)+(m:Int):=by omega
 have hsz:(Tryz.prog.info? 22).map (·.size)=some 1:=by rw[hi0];simp[hzs]
 have hbw:b<w.heap.size:=block_lt_of_cell (hcs 0 _ (af (by omega)));have hvw:vb<w.heap.size:=block_lt_of_cell (hvs 0 _ (af (by omega)));have hkk:(n:Int)+(m:Int)-(i:Int)=((n+m-i:Nat):Int):=by omega
 have hik:i+(n+m-i)=n+m:=by omega
 have hold:(Builtin.firstCells i0.size i (.slice (some ⟨b,off,none⟩) i c)).run Tryz.prog w.drew= .ok (cs.take i).toArray w.drew:=by
  rw[hzs]
  exact run_firstCells_some w.drew 1 i ⟨b,off,none⟩ i c (cs.take i) (by rw[ay];omega) (fun j v hj=>by
   rw[Addr.add_lit];rw[bE]at hj;split at hj
   ·exact hcs j v hj
   ·cases hj)
 have hrz:∀ty,(Builtin.append_ #[36,3] ty #[.slice (some ⟨b,off,none⟩) i c,.int .i64 ((n:Int)+(m:Int)-(i:Int))]).run Tryz.prog w=
  .ok (.slice (some ⟨w.heap.size,0,none⟩) (n+m) (grownCap w (n+m) c 22)) (w.drew.alloc (.cells ((cs.take i).toArray++Builtin.zeroCells (Value.slice none 0 0).cells (n+m-i)++Builtin.zeroCells (Value.slice none 0 0).cells (grownCap w (n+m) c 22-(n+m))) 22)):=fun ty=>by
  have h:=Lib.run_append_grow_zeros w 36 3 ty 22 i0 _ .i64 .i64 Tryz.underlying36 Tryz.underlying3 hi0 hz0 (some ⟨b,off,none⟩) i c (cs.take i) hold (n+m-i) (by omega) (by omega) (by omega) (by omega) (by rw[hzb];omega) (by rw[hzb,hik];exact growslice_fits hroom hbig);rw[hik]at h;rw[hkk];exact h
 obtain⟨G,hG⟩:∃G,G=grownCap w (n+m) c 22:=⟨_,rfl⟩;obtain⟨ROW,hROW⟩:∃ROW:Array Value,ROW=(cs.take i).toArray++Builtin.zeroCells (Value.slice none 0 0).cells (n+m-i)++Builtin.zeroCells (Value.slice none 0 0).cells (G-(n+m)):=⟨_,rfl⟩;rw[<-hG]at hrz ⊢;rw[<-hROW]at hrz ⊢
 have hRl:n+m<=ROW.size:=by rw[hROW];simp[Builtin.zeroCells,Value.cells];omega
 obtain⟨W1,hW1⟩:∃W1,W1=w.drew.alloc (.cells ROW 22):=⟨_,rfl⟩;rw[<-hW1]at hrz
 have hN:∀j,j<n+m->(W1.cell? ⟨w.heap.size,j,none⟩).isSome=true:=fun j hj=>by rw[hW1,World.cell?_alloc_at (w:=w.drew) ROW _ w.heap.size j rfl,cG (by omega)];rfl
 have hNf:∀j,W1.frozen? ⟨w.heap.size,j,none⟩=false:=fun j=>by rw[hW1];exact World.frozen?_alloc_at (w:=w.drew) ROW _ w.heap.size j rfl
 have hOb:∀j v,w.cell? ⟨b,j,none⟩=some v->W1.cell? ⟨b,j,none⟩=some v:=fun j v h=>by rw[hW1,World.cell?_alloc_past (w:=w.drew) _ b j hbw];exact h
 have hOv:∀j v,w.cell? ⟨vb,j,none⟩=some v->W1.cell? ⟨vb,j,none⟩=some v:=fun j v h=>by rw[hW1,World.cell?_alloc_past (w:=w.drew) _ vb j hvw];exact h
 have hcpA:∀(W:World),(∀x,W.cell? x=W1.cell? x)->(∀x,W.frozen? x=W1.frozen? x)->∀ty dc,(Builtin.copy_ #[36,36] ty #[.slice (some ⟨w.heap.size,i,none⟩) (n+m-i) dc,.slice (some ⟨vb,voff,none⟩) m vc]).run Tryz.prog W= .ok (goInt vs.length) (W.setCells w.heap.size i vs):=fun W hWc hWf ty dc=>
  run_copy_cells W _ _ ty 22 w.heap.size i (n+m-i) dc ⟨vb,voff,none⟩ m vc vs Tryz.underlying36 hsz (by rw[hvl];simp only[Nat.min_def];split<;>omega)
   (fun j v hj=>by rw[Addr.add_lit,hWc];exact hOv _ v (hvs j v hj))
   (fun j hj=>by rw[hWc];exact hN _ (by omega)) (fun j hj=>by rw[hWf];exact hNf _) h1v
 have hGn:n+m<=G:=by rw[hG];exact grownCap_ge w _ _ _
 have hG63:G<=9223372036854775807:=by have:=grownCap_le_maxLen w (n+m) c 22 (by unfold maxLen;omega);rw[<-hG]at this;unfold maxLen at this;omega
 have hGi:¬(G=i):=by omega
 have hGim:¬(G=i+m):=by omega
 have hci:¬(c=i):=by omega
 have hbN:b≠w.heap.size:=by omega
 have hdl:(cs.drop i).length=n-i:=by rw[aE,hcl]
 have hcpB:∀(W:World),(∀x,W.cell? x=(W1.setCells w.heap.size i vs).cell? x)->(∀x,W.frozen? x=(W1.setCells w.heap.size i vs).frozen? x)->∀ty dc sc,(Builtin.copy_ #[36,36] ty #[.slice (some ⟨w.heap.size,i+m,none⟩) (n+m-(i+m)) dc,.slice (some ⟨b,off+i,none⟩) (n-i) sc]).run Tryz.prog W= .ok (goInt (cs.drop i).length) (W.setCells w.heap.size (i+m) (cs.drop i)):=fun W hWc hWf ty dc sc=>
  run_copy_cells W _ _ ty 22 w.heap.size (i+m) (n+m-(i+m)) dc ⟨b,off+i,none⟩ (n-i) sc (cs.drop i) Tryz.underlying36 hsz (by rw[hdl];simp only[Nat.min_def];split<;>omega)
   (fun j v hj=>by rw[Addr.add_lit,hWc,World.cell?_setCells_out _ _ _ _ _ (fun h _=>absurd h hbN),cK];exact hOb _ v (hcs (i+j) v (by rwa[bi]at hj)))
   (fun j hj=>by rw[hWc];exact isSome_setCells _ _ _ _ (fun t ht=>hN _ (by omega)) _ (hN _ (by omega)))
   (fun j hj=>by rw[hWf,World.frozen?_setCells];exact hNf _) (fun v hv=>h1c v (dy hv))
 subst hW1;have hE1:∀x,((w.alloc (.cells ROW 22)).drew).cell? x=(w.drew.alloc (.cells ROW 22)).cell? x:=fun x=>rfl
 have hE2:∀x,((w.alloc (.cells ROW 22)).drew).frozen? x=(w.drew.alloc (.cells ROW 22)).frozen? x:=fun x=>rfl
 have hF1:∀x,(((w.alloc (.cells ROW 22)).drew.setCells w.heap.size i vs).drew).cell? x=((w.drew.alloc (.cells ROW 22)).setCells w.heap.size i vs).cell? x:=fun x=>rfl
 have hF2:∀x,(((w.alloc (.cells ROW 22)).drew.setCells w.heap.size i vs).drew).frozen? x=((w.drew.alloc (.cells ROW 22)).setCells w.heap.size i vs).frozen? x:=fun x=>rfl
 have hw1:ai.wrap ((i:Int)+(m:Int))=(i:Int)+(m:Int):=by rw[IntKind.wrap_i64];omega
 have hb1:(0:Int)<=(i:Int)+(m:Int):=by omega
 have hin:i<=n:=by omega
 have htn:((i:Int)+(m:Int)).toNat=i+m:=by omega
 have hb3:(i:Int)<=(n:Int):=by omega
 clear hkk hik hold hROW hG hRl
 go_enter Tryz.func62,Tryz.ntmps62
 go_wp2_with (first
  |(at_builtin;refine Lib.wpList_append_run _ rfl _ _ _ _ rfl _ _ rfl rfl _ _ (hrz _) ?_)
  |(at_builtin;refine wpList_copy_runI _ rfl _ _ 36 36 rfl _ _ rfl rfl (hcpA _ hE1 hE2 _ _) ?_)
  |(at_builtin;refine wpList_copy_runI _ rfl _ _ 36 36 rfl _ _ rfl rfl (hcpB _ (fun _=>rfl) (fun _=>rfl) _ _ _) ?_))
 go_region_law_o (refine step_copy_runI rfl _ _ 36 36 rfl (.slice (some ⟨w.heap.size,i+m,none⟩) (n+m-(i+m)) (G-(i+m))) (.slice (some ⟨b,off+i,none⟩) (n-i) (c-i)) (by simp[Act.eval,Act.put]) (by simp[Act.eval,Act.put]) (hcpB _ hF1 hF2 3 (G-(i+m)) (c-i)) ?_)
 go_wp2
 go_ret
 exact⟨rfl,rfl⟩
end
variable [bg]
theorem Ga{w:World}{vb voff:Nat}{v:Value}(hv:w.cell? ⟨vb,voff,none⟩=some v):∃tA kA,w.shape? vb=some (tA,kA+1):=by
 cases hh:w.heap[vb]? with
 |none=>simp[World.cell?,hh]at hv
 |some o=>
  cases o with
  |cells ca e fr=>
   refine⟨e,ca.size-1, ?_⟩;have h1:ca[voff]? =some v:=by simpa[World.cell?,hh]using hv
   have h2:voff<ca.size:=(dA.1 h1).1;simp[World.shape?,hh];omega
  |_=>simp[World.cell?,hh]at hv
theorem uy{w:World}{vb voff:Nat}{v:Value}(hv:w.cell? ⟨vb,voff,none⟩=some v):∀j u,[v][j]? =some u->w.cell? ⟨vb,voff+j,none⟩=some u:=fun j u hj=>by
 match j,hj with
 |0,hj=>simp at hj;subst hj;exact hv
 |j+1,hj=>simp at hj
theorem EY{v:Value}(h:v.oneCell'=true):∀u∈ [v],u.oneCell'=true:=fun u hu=>by rw[bp.1 hu];exact h
theorem sL(k:Nat):(Builtin.zeroCells (Value.slice none 0 0).cells k).size=k:=by rw[fC];show k*1=k;omega
theorem xbi:QI Tryz.prog 62 22 where
 cb:=by kernel_rfl
 shift:=fun b n c i vb voff vc cs v w hi hroom hbig hvb hcl hcs hsp hfz hv h1c h1v hsh=>by obtain⟨tB,kB,hsb,hfe⟩:=hsh;obtain⟨tA,kA,hsa⟩:=Ga hv;have:=Dn b 0 n c i vb voff 1 vc cs [v] w hi (by omega) hroom (by omega) hvb hcl rfl (fun j u hj=>by rw[bB];exact hcs j u hj) (fun j hj=>by rw[bB];exact hsp j hj) (fun j hj=>by rw[bB];exact hfz j hj) (uy hv) h1c (EY h1v) tA tB kA kB hsa hsb hfe;simpa only[bB]using this
 room:=fun b n c vb voff vc v w hroom hbig hsp hfz hv h1v=>by
  have:=ss b 0 n c vb voff 1 vc [v] w (by omega) hroom (by omega) rfl (fun j hj=>by
   obtain rfl:j=0:=by omega
   rw[bB];exact hsp) (fun j hj=>by
   obtain rfl:j=0:=by omega
   rw[bB];exact hfz) (uy hv) (EY h1v)
  simpa only[bB]using this
 grow:=fun b n c i vb voff vc cs v w hi hnc hroom hbig hcl hcs hv h1c h1v=>by
  refine(FH b 0 n c i vb voff 1 vc cs [v] w hi (by omega) hnc hroom (by omega) hcl rfl (fun j u hj=>by rw[bB];exact hcs j u hj) (uy hv) h1c (EY h1v)).mono ?_;rintro e w' ⟨rfl,rfl⟩;have hge:n+1<=grownCap w (n+1) c 22:=grownCap_ge w _ _ _;refine⟨grownCap w (n+1) c 22,_,hge, ?_,rfl,rfl,fun k hk=> ?_⟩
  ·simp only[Array.size_append,sL,jF,ay,hcl]
   omega
  ·have hl:(cs.take i).length=i:=by rw[ay];omega
   rw[bf,gj (by simp only[Array.size_append,jF,hl,sL];omega),gj (by simp only[jF,hl];omega)];rw[gw,bE,if_pos hk,<-aa]
 endg:=fun base n c vb voff vc cs v w hnc hroom hbig hcl hnil hcs hv h1v=>by
  refine(su base n c vb voff 1 vc cs [v] w (by omega) hnc hroom (by omega) hcl rfl hnil hcs (uy hv) (EY h1v)).mono ?_;rintro e w' ⟨rfl,rfl⟩;have hge:n+1<=grownCap w (n+1) c 22:=grownCap_ge w _ _ _;refine⟨grownCap w (n+1) c 22,_,hge, ?_,rfl,rfl,fun k hk=> ?_⟩
  ·simp only[Array.size_append,sL,jF,ah,aD,hcl]
   omega
  ·rw[bf,gj (by simp only[jF,ah,aD,hcl];omega),gw,<-aa]
def p62:List SV->List aF->Nat->Option ep
 |[.psl 0 1 0 n none,.int .i64 i,.lst 1 [[s]] t],[.arr 1 rows],0=>if rows.length=n/\0<=i/\i<=n/\n<=1000000000 then some ⟨.psl 100 1 0 (n+1) none,[(100,.arr 1 (lr rows i.toNat s))],[]⟩else none
 |[.lst 1 [] .clip,.int .i64 0,.lst 1 [[s]] t],[],0=>some ⟨.psl 100 1 0 1 none,[(100,.arr 1 [[s]])],[]⟩
 |_,_,_=>none
theorem p62_ok:∀ar os k q,p62 ar os k=some q->kW Tryz.prog 62 ar os k (· =q):=by
 intro ar os k q h;unfold p62 at h;split at h
 ·rename_i n i s t rows
  rw[aJ]at h;obtain⟨⟨h1,h2,h3,h4⟩,h⟩:=h;cases h;obtain⟨j,rfl⟩:∃j:Nat,i=j:=⟨i.toNat,by omega⟩;have:=Ef xbi (rows:=rows) (i:=j) (n:=n) (s:=s) (t:=t) h1 (by omega) h4;rw[eE];exact this
 ·cases h
  exact xL xbi
 ·cases h
end Pr
end Go.Proofs.YtdafipacemgcoaaGreatDoor