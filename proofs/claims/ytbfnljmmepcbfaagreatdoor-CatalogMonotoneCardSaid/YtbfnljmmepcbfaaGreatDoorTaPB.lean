/- Contracts. No condition. -/
import Derived.Test.YtbfnljmmepcbfaaGreatDoorCoPB
import Derived.Ground.NamesProg
import Derived.Maps.AppendAt
import Derived.Maps.RangeWalk
import Derived.Shelf.Slices.In.SortNone
import Derived.Shelf.Sort.Plain
import Derived.Sort.OwnSortedInts
import Derived.WalkSmall
open Array renaming getElem?_eq_some_iff -> di
open Go.IntKind renaming i64 -> af
open List renaming foldl_cons -> cR, map_append -> cf, map_cons -> aI, mem_cons -> av, mem_cons_of_mem -> aw, mem_cons_self -> aB, mem_map -> aZ
open Nat renaming le_refl -> aJ, mul_one -> dp, succ_mul -> ee, zero_le -> aX
open Option renaming some -> ax
set_option maxRecDepth 100000
set_option maxHeartbeats 16000000
set_option linter.unusedSimpArgs false
set_option linter.unusedVariables false
namespace Go.Proofs.YtbfnljmmepcbfaaGreatDoor
open Go.Sy
open UInt8 renaming reduceLT -> Q0, reduceLE -> Q1
open Int renaming reduceToNat -> Q2, reduceLE -> Q3, reduceLT -> Q4, reduceEq -> Q5, reduceNe -> Q6, reduceNeg -> Q7, reduceAdd -> Q8, reduceSub -> Q9, reduceMul -> Qa
open Nat renaming reducePow -> Qb, reduceDiv -> Qc, reduceMod -> Qd, reduceAdd -> Qe, reduceSub -> Qf, reduceMul -> Qg, reduceLT -> Qh, reduceLeDiff -> Qi, reduceEqDiff -> Qj, reduceBEq -> Qk
section
open Go.RowKit Go.Maps Go.WideMaps
namespace Si
section
variable (aid mid : Nat -> Int) (V : Nat -> Nat -> Bool)
def stp(h:List Int)(i j:Nat):List Int:=if aid i=mid j/\aid i∉h/\V i j=true then h++ [aid i]else h
def inn(j:Nat)(h:List Int):Nat->List Int
 |0=>h
 |i+1=>stp aid mid V (inn j h i) i j
def out(n:Nat):Nat->List Int
 |0=> []
 |j+1=>inn aid mid V j (out n j) n
end
def Dk{H:Type}(h:List Int):DataW H:=setOf (.lit (.bool true)) (h.map (Lit.int .i64))
theorem Gk{H:Type}(x:Int)(z u:DataW H):∀(C:List Int)(m:DataW H),IsMap m->((C.map (Lit.int .i64)).foldl (fun m y=>m.put y u) m).atKey (.int .i64 x) z=if x∈C then u else m.atKey (.int .i64 x) z
 |[],m,_=>by simp
 |y::r,m,hm=>by
  rw[aI,cR,Gk x z u r _ (hm.put _ _)]
  by_cases E:x∈r
  ·rw[if_pos E,if_pos (aw _ E)]
  ·rw[if_neg E]
   by_cases F:x=y
   ·subst F
    rw[if_pos aB];exact atKey_put_same hm (by trivial) _ _
   ·rw[if_neg (fun h=>by rcases av.1 h with h|h;exact F h;exact E h)]
    exact atKey_put_other (fun e=>F (by injection e)) _ _
theorem xtm{H:Type}(y:List Int)(x:Int):(Dk (H:=H) y).atKey (.int .i64 x) (.lit (.bool false))= .lit (.bool (decide (x∈y))):=by
 unfold Dk setOf;rw[Gk x _ _ y _ isMap_empty]
 by_cases h:x∈y
 ·rw[if_pos h,decide_eq_true h]
 ·rw[if_neg h,decide_eq_false h]
  rfl
theorem xa4{H:Type}(h:List Int)(x:Int):Dk (H:=H) (h++ [x])=(Dk h).put (.int .i64 x) (.lit (.bool true)):=by unfold Dk;rw[cf,List.map_singleton,setOf_snoc]
def Jh(S:List Int)(left:Lit->Bool)(ss:List Int):Prop:=ss.Nodup/\∀x,x∈ss↔(x∈S/\left (.int .i64 x)=false)
theorem UD{H:Type}(S:List Int)(x:Int):Maps.has (Dk (H:=H) S) (.int .i64 x)=decide (x∈S):=by
 unfold Dk;rw[has_setOf _ _ _ (fun y E=>by obtain⟨_,_,rfl⟩:=aZ.1 E;trivial),List.any_map];induction S with
 |nil=>simp
 |cons a r F=>
  rw[List.any_cons,F]
  by_cases h:x=a
  ·subst h;simp[Lit.sameKey]
  ·have C:¬a=x:=fun e=>h e.symm
   simp[Lit.sameKey,h,C]
theorem Jh.start{H:Type}(S:List Int):Jh S (Maps.has (Dk (H:=H) S)) []:=⟨List.nodup_nil,fun x=>by
 rw[UD]
 by_cases h:x∈S<;>simp[h]⟩
theorem Jh.step{H:Type}{S:List Int}{left:Lit->Bool}{ss:List Int}(h:Jh S left ss){x:Int}{y:DataW H}(I:left (.int .i64 x)=true)(F:∀O,(Dk (H:=H) S).atKey (.int .i64 x) O=y):Jh S (fun z=>left z&& !z.sameKey (.int .i64 x)) (ss++ [x]):=by
 have E:x∈S:=by have:=UD (H:=H) S x;rw[has_true_of_atKey F]at this;exact of_decide_eq_true this.symm
 have C:x∉ss:=fun E=>by have:=((h.2 x).1 E).2;rw[I]at this;cases this
 refine⟨List.nodup_append.2 ⟨h.1,by simp,fun a Q b J=>by simp at J;subst J;exact fun e=>C (e ▸ Q)⟩,fun y=> ?_⟩
 by_cases L:y=x
 ·subst L;simp[E,Lit.sameKey]
 ·simp[h.2 y,L,Lit.sameKey]
theorem BH{w:World}{y:Nat}{e:TypeId}{size:Nat}{v:Value}{n:Nat}{E:LAc}(h:w.ownsRow y e size v n E){b:Nat}(F:b<y):some b≠v.ownBlock:=fun C=>by have:=(h.lt b C.symm).1;omega
theorem xrq:(Tryz.prog.info? 3).map (fun i=>(i.zero,i.size,i.bytes))=some (some (.int .i64 0),1,8):=by kernel_rfl
theorem Uc:Keyed Tryz.prog 3:=int_keyed Tryz.underlying3
theorem xoz(w:World):(zeroValue 4).run Tryz.prog w= .ok (.bool false) w:=by kernel_rfl
theorem w73(w:World)(n m:Nat)(aid mid:Nat->Int)(ka sa:Nat->Option Addr)(kl kc sl sc:Nat->Nat)(V:Nat->Nat->Bool)(T oa ca bm om cm:Nat)(thr:Int)(b0:Option Addr)(bl bc:Nat)
 (hn:n<=1000) (hm:m<=1000) (f2:T<w.heap.size) (e8:bm<w.heap.size)
 (j0:∀i,i<n->w.cell? ⟨T,oa+i*2,none⟩=some (.int .i64 (aid i))) (i3:∀i,i<n->w.cell? ⟨T,oa+i*2+1,none⟩=some (.slice (ka i) (kl i) (kc i)))
 (j7:∀i,i<m->w.cell? ⟨bm,om+i*2,none⟩=some (.int .i64 (mid i))) (h7:∀i,i<m->w.cell? ⟨bm,om+i*2+1,none⟩=some (.slice (sa i) (sl i) (sc i)))
 (srt:List Int->List Int)
 (e0:∀(B:Nat)(v:Value)(ss:List Int)(wr:World),ss.length<=n->wr.ownsRow B 3 1 v ss.length (ss.map (Value.int .i64))->Calls Tryz.prog 123 #[v] wr fun e w'=>e= .returned (.tuple #[])/\w'.ownsRow B 3 1 v ss.length ((srt ss).map (Value.int .i64))/\wr.grownBy w' v.ownBlock)
 (hS:∀S:List Int,S.Nodup->(∀x,x∈S->x∈out aid mid V n m)->S.length<=n)
 (f1:∀i,i<n->(Lit.int .i64 (aid i)).wf=true)
 (d5:∀i j wr,i<n->j<m->Below w.heap.size w wr->Calls Tryz.prog 122 #[.slice (ka i) (kl i) (kc i),.slice b0 bl bc,.slice (sa j) (sl j) (sc j)] wr fun e w'=>∃l:Int,e= .returned (.tuple #[.int .i64 l,.bool (V i j)])/\Below wr.heap.size wr w'):
 Calls Tryz.prog 73 #[.agg #[.slice (some ⟨T,oa,none⟩) n ca,.int .i64 thr],.agg #[.slice b0 bl bc,.slice (some ⟨bm,om,none⟩) m cm]] w fun e w'=>∃v ss B,w.heap.size<=B/\e= .returned v/\w'.ownsRow B 3 1 v ss.length ((srt ss).map (Value.int .i64))/\(ss.length=0->v= .slice none 0 0)/\ss.Nodup/\(∀x,x∈ss↔x∈out aid mid V n m)/\Below w.heap.size w w':=by
 obtain⟨i0,hi,j2,i4,i2⟩:=info_parts xrq;have o3:= @run_makeMap Tryz.prog
 go_enter Tryz.func73,Tryz.ntmps73
 go_wp2
 have C:Below w.heap.size w (((w.alloc (Obj.cells #[Value.slice (some {block:=T,off:=oa}) n ca,Value.int af thr] 24)).alloc (Obj.cells #[Value.slice b0 bl bc,Value.slice (some {block:=bm,off:=om}) m cm] 45)).alloc (Obj.map #[] 0)):=
  (((Below.refl _ w).alloc (aJ _) _).alloc (by simp) _).alloc (by simp;omega) _
 have e5:(((w.alloc (Obj.cells #[Value.slice (some {block:=T,off:=oa}) n ca,Value.int af thr] 24)).alloc (Obj.cells #[Value.slice b0 bl bc,Value.slice (some {block:=bm,off:=om}) m cm] 45)).alloc (Obj.map #[] 0)).ownsMap Tryz.prog 3 (plainElem (H:=Unit) Tryz.prog 4) (w.heap.size+1+1) 0 (.map []):=by have:=World.ownsMap_made (H:=Unit) ((w.alloc (Obj.cells #[Value.slice (some {block:=T,off:=oa}) n ca,Value.int af thr] 24)).alloc (Obj.cells #[Value.slice b0 bl bc,Value.slice (some {block:=bm,off:=om}) m cm] 45)) Tryz.prog 3 (plainElem Tryz.prog 4);simpa using this
 have I:∀(W:World) o,(W.alloc o).heap.size=W.heap.size+1:=fun W o=>by simp
 have j6:(((w.alloc (Obj.cells #[Value.slice (some {block:=T,off:=oa}) n ca,Value.int af thr] 24)).alloc (Obj.cells #[Value.slice b0 bl bc,Value.slice (some {block:=bm,off:=om}) m cm] 45)).alloc (Obj.map #[] 0)).cell? ⟨w.heap.size,0,none⟩=some (.slice (some ⟨T,oa,none⟩) n ca):=by rw[World.cell?_alloc_lt _ _ _ (by rw[I,I];show w.heap.size<_;omega),World.cell?_alloc_lt _ _ _ (by rw[I];show w.heap.size<_;omega)];exact cell_two_new w _ _ _ 0 _ rfl
 have g7:(((w.alloc (Obj.cells #[Value.slice (some {block:=T,off:=oa}) n ca,Value.int af thr] 24)).alloc (Obj.cells #[Value.slice b0 bl bc,Value.slice (some {block:=bm,off:=om}) m cm] 45)).alloc (Obj.map #[] 0)).cell? ⟨w.heap.size+1,0,none⟩=some (.slice b0 bl bc):=by rw[World.cell?_alloc_lt _ _ _ (by rw[I,I];show w.heap.size+1<_;omega)];have:=cell_two_new (w.alloc (Obj.cells #[Value.slice (some {block:=T,off:=oa}) n ca,Value.int af thr] 24)) (.slice b0 bl bc) (Value.slice (some {block:=bm,off:=om}) m cm) 45 0 _ rfl;rw[I]at this;exact this
 have n5:(((w.alloc (Obj.cells #[Value.slice (some {block:=T,off:=oa}) n ca,Value.int af thr] 24)).alloc (Obj.cells #[Value.slice b0 bl bc,Value.slice (some {block:=bm,off:=om}) m cm] 45)).alloc (Obj.map #[] 0)).heap.size=w.heap.size+3:=by rw[I,I,I]
 generalize (((w.alloc (Obj.cells #[Value.slice (some {block:=T,off:=oa}) n ca,Value.int af thr] 24)).alloc (Obj.cells #[Value.slice b0 bl bc,Value.slice (some {block:=bm,off:=om}) m cm] 45)).alloc (Obj.map #[] 0))=W2 at*
 go_loopw [18] (fun i wr=>∃j q:Nat,j<=m/\q<=j*n/\i= .int .i64 j/\wr.ownsMap Tryz.prog 3 (plainElem (H:=Unit) Tryz.prog 4) (w.heap.size+1+1) q (Dk (out aid mid V n j))/\W2.grownBy wr (some (w.heap.size+1+1)))
  (fun i _=>m-(intOf i).toNat)
 case atStart=>exact⟨0,0,aX _,by omega,rfl,e5,⟨rfl,rfl,rfl,aJ _,fun _ _ _=>rfl⟩⟩
 case round=>
  obtain⟨j,q,Q,hq,rfl,d4,E⟩:=hrel;have e9:=E.size
  have a2:∀b o v,b<w.heap.size->w.cell? ⟨b,o,none⟩=some v->wr.cell? ⟨b,o,none⟩=some v:=fun b o v L h=>by have h1:=C.cell (p:=⟨b,o,none⟩) L;have h2:=E.block b (by omega) (fun e=>by have:=ax.inj e;omega);rw[<-h,<-h1];simp only[World.cell?,h2]
  have g4:j<m->wr.cell? ⟨bm,om+j*2,none⟩=some (.int .i64 (mid j)):=fun h=>a2 _ _ _ e8 (j7 j h)
  have n3:j<m->wr.cell? ⟨bm,om+j*2+1,none⟩=some (.slice (sa j) (sl j) (sc j)):=fun h=>a2 _ _ _ e8 (h7 j h)
  have k8:wr.cell? ⟨w.heap.size,0,none⟩=some (.slice (some ⟨T,oa,none⟩) n ca):=by rw[<-j6];simp only[World.cell?,E.block w.heap.size (by omega) (fun e=>by have:=ax.inj e;omega)]
  have g5:wr.cell? ⟨w.heap.size+1,0,none⟩=some (.slice b0 bl bc):=by rw[<-g7];simp only[World.cell?,E.block (w.heap.size+1) (by omega) (fun e=>by have:=ax.inj e;omega)]
  have o1:w.heap.size<wr.heap.size:=by omega
  have i1:w.heap.size+1<wr.heap.size:=by omega
  have m0:bm<wr.heap.size:=by omega
  have f5:T<wr.heap.size:=by omega
  have p0:w.heap.size+1+1<wr.heap.size:=by omega
  have k3:¬w.heap.size=wr.heap.size:=by omega
  have k6:¬w.heap.size+1=wr.heap.size:=by omega
  go_wp2_with (first
   |(at_range;refine wpList_range_own _ rfl _ 154 rfl 3 4 Uc Tryz.underlying154 _ (w.heap.size+1+1) q _ rfl d4 ?_;intro w0 f4 b4 l1)
   |go_in)
  ·
   have c7:j<m:=by assumption
   generalize wr=wo at*;have k7:(wo.alloc (Obj.cells #[Value.int af (mid j),Value.slice (sa j) (sl j) (sc j)] 137)).heap.size=wo.heap.size+1:=I _ _;have O:wo.grownBy (wo.alloc (Obj.cells #[Value.int af (mid j),Value.slice (sa j) (sl j) (sc j)] 137)) none:=World.grownBy_alloc _ _ _;have d6:=d4.alloc (Obj.cells #[Value.int af (mid j),Value.slice (sa j) (sl j) (sc j)] 137);have hb0:=cell_two_new wo (Value.int af (mid j)) (Value.slice (sa j) (sl j) (sc j)) 137 0 _ rfl;have h4:=cell_two_new wo (Value.int af (mid j)) (Value.slice (sa j) (sl j) (sc j)) 137 1 _ rfl
   have e3:∀b o v,b<wo.heap.size->wo.cell? ⟨b,o,none⟩=some v->(wo.alloc (Obj.cells #[Value.int af (mid j),Value.slice (sa j) (sl j) (sc j)] 137)).cell? ⟨b,o,none⟩=some v:=fun b o v L h=>by rw[World.cell?_alloc_lt _ _ _ L];exact h
   generalize k9:wo.alloc (Obj.cells #[Value.int af (mid j),Value.slice (sa j) (sl j) (sc j)] 137)=W3 at*;rw[show decide (j<m)=true from decide_eq_true c7]
   go_loopw [25] (fun i wr=>∃k p:Nat,k<=n/\p<=q+k/\i= .int .i64 k/\wr.ownsMap Tryz.prog 3 (plainElem (H:=Unit) Tryz.prog 4) (w.heap.size+1+1) p (Dk (inn aid mid V j (out aid mid V n j) k))/\W3.grownBy wr (some (w.heap.size+1+1)))
    (fun i _=>n-(intOf i).toNat)
   case atStart=>exact⟨0,q,aX _,aJ _,rfl,d6,⟨rfl,rfl,rfl,aJ _,fun _ _ _=>rfl⟩⟩
   case round=>
    obtain⟨k,p,hk,hp,rfl,a7,F⟩:=hrel;have l2:=F.size
    have ci:∀b o v,b<W3.heap.size->b≠w.heap.size+1+1->W3.cell? ⟨b,o,none⟩=some v->wr.cell? ⟨b,o,none⟩=some v:=fun b o v L j1 h=>by have h2:=F.block b L (fun e=>j1 (ax.inj e));rw[<-h];simp only[World.cell?,h2]
    have a1:k<n->wr.cell? ⟨T,oa+k*2,none⟩=some (.int .i64 (aid k)):=fun h=>ci _ _ _ (by omega) (by omega) (e3 _ _ _ f5 (a2 _ _ _ f2 (j0 k h)))
    have k0:k<n->wr.cell? ⟨T,oa+k*2+1,none⟩=some (.slice (ka k) (kl k) (kc k)):=fun h=>ci _ _ _ (by omega) (by omega) (e3 _ _ _ f5 (a2 _ _ _ f2 (i3 k h)))
    have j8:wr.cell? ⟨w.heap.size+1,0,none⟩=some (.slice b0 bl bc):=ci _ _ _ (by omega) (by omega) (e3 _ _ _ i1 g5);have j9:wr.cell? ⟨wo.heap.size,0,none⟩=some (.int .i64 (mid j)):=ci _ _ _ (by omega) (by omega) hb0;have k4:wr.cell? ⟨wo.heap.size,1,none⟩=some (.slice (sa j) (sl j) (sc j)):=ci _ _ _ (by omega) (by omega) h4;have o2:w.heap.size+1<wr.heap.size:=by omega
    have n0:wo.heap.size<wr.heap.size:=by omega
    have p1:T<wr.heap.size:=by omega
    have n7:¬wo.heap.size=wr.heap.size:=by omega
    have l0:¬wr.heap.size=w.heap.size+1+1:=by omega
    have h9:p<maxLen:=by have:j*n<=1000*1000:=Nat.mul_le_mul (by omega) hn;unfold maxLen;omega
    by_cases c3:k<n
    ·by_cases d1:aid k=mid j
     ·have e6:=f1 k c3
      have a6:=fun wr h=>d5 k j wr c3 c7 h
      replace a1:=a1 c3
      have Z:∀ks,stp aid mid V ks k j=if mid j∉ks/\V k j=true then ks++ [mid j]else ks:=fun ks=>by unfold stp;rw[d1];simp
      rw[d1]at a1 e6;obtain⟨c,k5,a8⟩:=Hw (a7.alloc (Obj.cells #[Value.int af (mid j),Value.slice (ka k) (kl k) (kc k)] 76)) Uc Tryz.underlying154 Tryz.underlying4 (xoz _) (keyOf_int_mk Tryz.underlying3 e6);rw[xtm]at a8;have hc:c=decide (mid j∈inn aid mid V j (out aid mid V n j) k):=by injection a8 with h;injection h with h;exact h.symm
      have b6:=keyOf_int_mk Tryz.underlying3 e6
      have h3:Below w.heap.size w (wr.alloc (Obj.cells #[Value.int af (mid j),Value.slice (ka k) (kl k) (kc k)] 76)):=by
       refine Below.alloc ⟨?_, ?_, ?_, ?_, ?_⟩ (by omega) _
       ·exact F.os.trans (O.os.trans (E.os.trans C.os))
       ·exact F.tape.trans (O.tape.trans (E.tape.trans C.tape))
       ·exact F.output.trans (O.output.trans (E.output.trans C.output))
       ·omega
       ·intro b L
        rw[F.block b (by omega) (fun e=>by have:=ax.inj e;omega),O.block b (by omega) (fun e=>by cases e),E.block b (by omega) (fun e=>by have:=ax.inj e;omega)];exact C.block b L
      have b3:=a6 _ h3;have h5:=cell_two_new wr (Value.int af (mid j)) (Value.slice (ka k) (kl k) (kc k)) 76 0 _ rfl;have h0:(wr.alloc (Obj.cells #[Value.int af (mid j),Value.slice (ka k) (kl k) (kc k)] 76)).heap.size=wr.heap.size+1:=I _ _;have J:=a7.alloc (Obj.cells #[Value.int af (mid j),Value.slice (ka k) (kl k) (kc k)] 76);have b5:wr.grownBy (wr.alloc (Obj.cells #[Value.int af (mid j),Value.slice (ka k) (kl k) (kc k)] 76)) none:=World.grownBy_alloc _ _ _;clear a6 d5 f1 d1;cases c with
      |true=>
       have e1:mid j∈inn aid mid V j (out aid mid V n j) k:=of_decide_eq_true hc.symm;clear b3 a8 hc
       go_wp2
       go_roundw
       case rel=>refine⟨k+1,p,by omega,by omega,by go_num, ?_,F.andThen (b5.but _) (fun j Q=> .inr Q)⟩;show World.ownsMap _ _ _ _ _ _ (Dk (stp aid mid V _ k j));rw[Z,if_neg (fun h=>h.1 e1)];exact J
       case measure=>simp[intOf];omega
      |false=>
       have e1:mid j∉inn aid mid V j (out aid mid V n j) k:=of_decide_eq_false hc.symm;clear a8 hc
       go_wp2_with (first
        |(go_at_call 122;refine b3.mono ?_;rintro e w' ⟨l,rfl,L⟩;have n4:w'.cell? ⟨wr.heap.size,0,none⟩=some (.int .i64 (mid j)):=(L.cell (p:=⟨wr.heap.size,0,none⟩) (by rw[h0];exact Nat.lt_succ_self _)).trans h5;have d2:World.grownBy (wr.alloc (Obj.cells #[Value.int af (mid j),Value.slice (ka k) (kl k) (kc k)] 76)) w' none:=⟨L.os,L.tape,L.output,L.size,fun i hi _=>L.block i hi⟩)
        |(at_mapUpdate;refine wpList_mapUpdate_own _ rfl _ _ _ 154 rfl 3 4 Uc Tryz.underlying154 _ (w.heap.size+1+1) p _ rfl (J.kept d2 (by simp)) h9 _ _ (.int .i64 (mid j)) rfl rfl b6 (.lit (.bool true)) [] (plainElem_bool Tryz.underlying4 true) ?_;intro w1 e2 c5)
        |go_in)
       ·have hv:V k j=true:=by assumption
        go_roundw
        case rel=>refine⟨k+1,p+1,by omega,by omega,by go_num, ?_,((F.andThen (b5.but _) (fun j Q=> .inr Q)).andThen (d2.but _) (fun j Q=> .inr Q)).andThen c5 (fun j Q=> .inr Q)⟩;show World.ownsMap _ _ _ _ _ _ (Dk (stp aid mid V _ k j));rw[Z,if_pos ⟨e1,hv⟩,xa4];exact e2
        case measure=>simp[intOf];omega
       ·have hv:V k j=false:=by assumption
        go_roundw
        case rel=>refine⟨k+1,p,by omega,by omega,by go_num, ?_,(F.andThen (b5.but _) (fun j Q=> .inr Q)).andThen (d2.but _) (fun j Q=> .inr Q)⟩;show World.ownsMap _ _ _ _ _ _ (Dk (stp aid mid V _ k j));rw[Z,if_neg (fun h=>by rw[hv]at h;cases h.2)];exact J.kept d2 (by simp)
        case measure=>simp[intOf];omega
     ·have Z:∀ks,stp aid mid V ks k j=ks:=fun ks=>by
       unfold stp;rw[if_neg (fun h=>d1 h.1)]
      have J:=a7.alloc (Obj.cells #[Value.int af (aid k),Value.slice (ka k) (kl k) (kc k)] 76);have b5:wr.grownBy (wr.alloc (Obj.cells #[Value.int af (aid k),Value.slice (ka k) (kl k) (kc k)] 76)) none:=World.grownBy_alloc _ _ _;replace a1:=a1 c3
      go_wp2
      go_roundw
      case rel=>refine⟨k+1,p,by omega,by omega,by go_num, ?_,F.andThen (b5.but _) (fun j Q=> .inr Q)⟩;show World.ownsMap _ _ _ _ _ _ (Dk (stp aid mid V _ k j));rw[Z];exact J
      case measure=>simp[intOf];omega
    ·have g2:k=n:=by omega
     subst g2
     go_wp2
     go_roundw
     case rel=>refine⟨j+1,p,by omega,by rw[ee];omega,by go_num, ?_,(E.andThen (O.but _) (fun j Q=> .inr Q)).andThen F (fun j Q=> .inr Q)⟩;exact a7
     case measure=>simp[intOf];omega
  ·
   have h6:j=m:=by omega
   subst h6;have n9:=C
   have hB:Below w.heap.size w w0:=by
    refine⟨?_, ?_, ?_, ?_, ?_⟩
    ·exact b4.os.trans (E.os.trans C.os)
    ·exact b4.tape.trans (E.tape.trans C.tape)
    ·exact b4.output.trans (E.output.trans C.output)
    ·have:=b4.size;omega
    ·intro b L
     rw[b4.block b (by omega) (fun e=>by cases e),E.block b (by omega) (fun e=>by have:=ax.inj e;omega)];exact C.block b L
   go_frame
   rw[show decide (j<j)=false from decide_eq_false (Nat.lt_irrefl _)];generalize o0:wr.heap.size=rb at*
   go_loopw [12] (fun v wx=>∃(left:Lit->Bool)(g1:Nat)(ss:List Int),wx.ranges Tryz.prog 3 (plainElem (H:=Unit) Tryz.prog 4) (w.heap.size+1+1) rb q (Dk (out aid mid V n j)) left g1/\
    wx.ownsRow (rb+1) 3 1 v ss.length (ss.map (Value.int .i64))/\(ss.length=0->v= .slice none 0 0)/\Jh (out aid mid V n j) left ss/\Below w.heap.size w wx/\rb+1<=wx.heap.size)
    (fun _ wx=>wx.rangeLeft (w.heap.size+1+1) rb)
   case atStart=>exact⟨_,_,[],f4,World.ownsRow_nil _ _ _ _,fun _=>rfl,Jh.start _,hB,by omega⟩
   case round=>
    obtain⟨left,g1,ss,hrg,hrow,hnil,hC,hnx,hsx⟩:=hrel;have f0:ss.length<=n:=hS ss hC.1 (fun x hx=>((hC.2 x).1 hx).1)
    go_wp2_with (first
     |(at_next;refine wpList_next_ranges _ rfl _ rfl 3 Uc (plainElem Tryz.prog 4) (Value.int .i64) Value.bool (fun key kl hk=>by obtain⟨x,hx,_⟩:=Maps.keyOf_int_inv Tryz.underlying3 hk;exact⟨x,hx⟩) (fun v y hv=>by obtain⟨c,rfl,_⟩:=fO Tryz.underlying4 hv;exact⟨c,rfl⟩) (w.heap.size+1+1) rb q _ _ _ rfl hrg ?_ ?_)
     |go_in)
    ·intro g4 j3
     have j4:=e0 (rb+1) _ ss _ f0 hrow
     go_wp2_with (first
      |(go_at_call 123;refine j4.mono ?_;rintro e w' ⟨rfl,e4,j5⟩)
      |go_in)
     go_ret
     exact⟨_,ss,rb+1,by omega,rfl,e4,hnil,hC.1,fun x=>by rw[hC.2 x,j3];simp,hnx.grown j5 hnx.size (fun b L=>by have:=(hrow.lt b L).1;omega)⟩
    ·intro x
     constructor
     all_goals
      intro kl yd yp wn g3 b6 g8 hv a8 f7 c7 b1 e9 l3;obtain⟨x',ex,rfl,_⟩:=Maps.keyOf_int_inv Tryz.underlying3 b6;obtain rfl:x=x':=by simpa using ex
      have b7:=hrow.kept b1 (.inr (BH hrow (Nat.lt_succ_self _)).symm);have g9:Below w.heap.size w wn:=⟨b1.os.trans hnx.os,b1.tape.trans hnx.tape,b1.output.trans hnx.output,by omega,fun b L=>by rw[b1.block b (by omega) (fun e=>by have:=ax.inj e;omega)];exact hnx.block b L⟩;have m1:rb+1<=wn.heap.size:=by omega
      clear e9
      go_wp2_with (first
       |(at_builtin;refine wpList_append_own _ rfl _ _ 60 rfl (rb+1) 3 i0 (.int .i64 0) 1 8 Tryz.underlying60 hi j2 i4 i2 rfl (by decide) _ _ _ rfl (b7.alloc _) ⟨wn.heap.size,0,none⟩ 1 1 [.int .i64 x] rfl rfl (cell_one_new _ _ _) (ints_oneCell .i64 [x]) (by unfold maxLen;omega) (by omega) (by have:=b1.size;simp;omega) ?_;intro v' w3 d7 O h8;go_frame)
       |go_in)
      have g6:wn.grownBy (wn.alloc (Obj.cells #[Value.int af x] 3)) none:=World.grownBy_alloc _ _ _;have e7:=b7.alloc (Obj.cells #[Value.int af x] 3);have d3:=(f7.alloc (Obj.cells #[Value.int af x] 3)).kept O (BH e7 (by omega)) (BH e7 (by omega));have s1:=g6.size;have s3:=O.size
      go_roundw
      case rel=>refine⟨_,g3,ss++ [x],d3,by simpa using d7,fun h=>by simp at h,hC.step g8 a8, ?_,by omega⟩;exact(g9.alloc (by omega) _).grown O (by omega) (fun b L=>by have:=(e7.lt b L).1;omega)
      case measure=>rw[d3.left_eq,hrg.left_eq];exact c7
theorem w73_0(w:World)(su:Value)(A:Option Addr)(thr:Int)(J:Nat)(O:Option Addr)(Z W:Nat)(T:Option Addr)(C h:Nat)(a1:su= .slice T C h)
 (F:∀(wr:World),Calls Tryz.prog 123 #[.slice none 0 0] wr fun e w'=>e= .returned (.tuple #[])/\wr.grownBy w' none):
 Calls Tryz.prog 73 #[.agg #[su,.int .i64 thr],.agg #[.slice O Z W,.slice A 0 J]] w fun e w'=>e= .returned (.slice none 0 0)/\Below w.heap.size w w':=by
 subst a1;have b4:= @run_makeMap Tryz.prog
 go_enter Tryz.func73,Tryz.ntmps73
 go_wp2
 have E:Below w.heap.size w (((w.alloc (Obj.cells #[Value.slice T C h,Value.int af thr] 24)).alloc (Obj.cells #[Value.slice O Z W,Value.slice A 0 J] 45)).alloc (Obj.map #[] 0)):=
  (((Below.refl _ w).alloc (aJ _) _).alloc (by simp) _).alloc (by simp;omega) _
 have I:(((w.alloc (Obj.cells #[Value.slice T C h,Value.int af thr] 24)).alloc (Obj.cells #[Value.slice O Z W,Value.slice A 0 J] 45)).alloc (Obj.map #[] 0)).ownsMap Tryz.prog 3 (plainElem (H:=Unit) Tryz.prog 4) (w.heap.size+1+1) 0 (.map []):=by have:=World.ownsMap_made (H:=Unit) ((w.alloc (Obj.cells #[Value.slice T C h,Value.int af thr] 24)).alloc (Obj.cells #[Value.slice O Z W,Value.slice A 0 J] 45)) Tryz.prog 3 (plainElem Tryz.prog 4);simpa using this
 generalize (((w.alloc (Obj.cells #[Value.slice T C h,Value.int af thr] 24)).alloc (Obj.cells #[Value.slice O Z W,Value.slice A 0 J] 45)).alloc (Obj.map #[] 0))=W2 at*;refine wp_loop_rounds 1 ?_;rw[rounds_succ]
 go_wp2_with (first
  |(at_range;refine wpList_range_own _ rfl _ 154 rfl 3 4 Uc Tryz.underlying154 _ (w.heap.size+1+1) 0 _ rfl I ?_;intro w0 L Q b1)
  |go_in)
 go_frame
 refine wp_loop_rounds 1 ?_;rw[rounds_succ]
 go_wp2_with (first
  |(at_next;refine wpList_next_ranges _ rfl _ rfl 3 Uc (plainElem Tryz.prog 4) (Value.int .i64) Value.bool (fun key kl hk=>by obtain⟨x,hx,_⟩:=Maps.keyOf_int_inv Tryz.underlying3 hk;exact⟨x,hx⟩) (fun v y hv=>by obtain⟨c,rfl,_⟩:=fO Tryz.underlying4 hv;exact⟨c,rfl⟩) (w.heap.size+1+1) W2.heap.size 0 _ _ _ rfl L ?_ ?_)
  |go_in)
 ·intro a8 b3
  go_wp2_with (first
   |(go_at_call 123;refine(F _).mono ?_;rintro e w' ⟨rfl,a2⟩)
   |go_in)
  go_ret
  exact⟨rfl,(E.grown Q E.size (fun b hb=>by cases hb)).grown a2 (by have:=E.size;have:=Q.size;omega) (fun b hb=>by cases hb)⟩
 ·intro x
  constructor
  all_goals
   intro kl a b wn b5 a7 a6;exact absurd a6 (by simp[Maps.has])
end Si
end
section
open Go.RowKit Go.Maps Go.Sort Go.Shelf
def ZK:Go.Shelf.Ren:=⟨fun|189=>123|125=>157|257=>156|128=>187|129=>188|294=>178|295=>179|296=>180|297=>181|298=>182|299=>183|216=>184|300=>185|301=>186|328=>197|329=>198|330=>199|331=>200|332=>201|215=>161|343=>205|n=>n,fun|28=>60|3=>3|46=>99|0=>0|51=>145|53=>141|4=>4|183=>197|182=>196|131=>93|5=>5|9=>9|218=>209|222=>213|228=>217|229=>218|n=>n,fun|n=>n⟩
theorem yZ:Go.Proofs.Lays.n189 Tryz.prog ZK:= {mixed:=by kernel_rfl,f125:=Tryz.func157.trans (congrArg some (by kernel_rfl)),f128:=Tryz.func187.trans (congrArg some (by kernel_rfl)),f129:=Tryz.func188.trans (congrArg some (by kernel_rfl)),f189:=Tryz.func123.trans (congrArg some (by kernel_rfl)),f215:=Tryz.func161.trans (congrArg some (by kernel_rfl)),f216:=Tryz.func184.trans (congrArg some (by kernel_rfl)),f257:=Tryz.func156.trans (congrArg some (by kernel_rfl)),f294:=Tryz.func178.trans (congrArg some (by kernel_rfl)),f295:=Tryz.func179.trans (congrArg some (by kernel_rfl)),f296:=Tryz.func180.trans (congrArg some (by kernel_rfl)),f297:=Tryz.func181.trans (congrArg some (by kernel_rfl)),f298:=Tryz.func182.trans (congrArg some (by kernel_rfl)),f299:=Tryz.func183.trans (congrArg some (by kernel_rfl)),f300:=Tryz.func185.trans (congrArg some (by kernel_rfl)),f301:=Tryz.func186.trans (congrArg some (by kernel_rfl)),f328:=Tryz.func197.trans (congrArg some (by kernel_rfl)),f329:=Tryz.func198.trans (congrArg some (by kernel_rfl)),f330:=Tryz.func199.trans (congrArg some (by kernel_rfl)),f331:=Tryz.func200.trans (congrArg some (by kernel_rfl)),f332:=Tryz.func201.trans (congrArg some (by kernel_rfl)),f343:=Tryz.func205.trans (congrArg some (by kernel_rfl)),t0:=Tryz.underlying0,a0:=Tryz.isAgg0,z0:=Tryz.sizeOf0,v0:=Tryz.zeroValue0,t3:=Tryz.underlying3,a3:=Tryz.isAgg3,z3:=Tryz.sizeOf3,v3:=Tryz.zeroValue3,t4:=Tryz.underlying4,a4:=Tryz.isAgg4,z4:=Tryz.sizeOf4,v4:=Tryz.zeroValue4,t5:=Tryz.underlying5,a5:=Tryz.isAgg5,z5:=Tryz.sizeOf5,v5:=Tryz.zeroValue5,t9:=Tryz.underlying9,a9:=Tryz.isAgg9,z9:=Tryz.sizeOf9,v9:=Tryz.zeroValue9,t28:=Tryz.underlying60,a28:=Tryz.isAgg60,z28:=Tryz.sizeOf60,v28:=Tryz.zeroValue60,t46:=Tryz.underlying99,a46:=Tryz.isAgg99,z46:=Tryz.sizeOf99,v46:=Tryz.zeroValue99,t51:=Tryz.underlying145,a51:=Tryz.isAgg145,z51:=Tryz.sizeOf145,v51:=Tryz.zeroValue145,t53:=Tryz.underlying141,a53:=Tryz.isAgg141,z53:=Tryz.sizeOf141,v53:=Tryz.zeroValue141,t131:=Tryz.underlying93,a131:=Tryz.isAgg93,z131:=Tryz.sizeOf93,v131:=Tryz.zeroValue93,t182:=Tryz.underlying196,a182:=Tryz.isAgg196,z182:=Tryz.sizeOf196,v182:=Tryz.zeroValue196,t183:=Tryz.underlying197,a183:=Tryz.isAgg197,z183:=Tryz.sizeOf197,v183:=Tryz.zeroValue197,t218:=Tryz.underlying209,a218:=Tryz.isAgg209,z218:=Tryz.sizeOf209,v218:=Tryz.zeroValue209,t222:=Tryz.underlying213,a222:=Tryz.isAgg213,z222:=Tryz.sizeOf213,v222:=Tryz.zeroValue213,t228:=Tryz.underlying217,a228:=Tryz.isAgg217,z228:=Tryz.sizeOf217,v228:=Tryz.zeroValue217,t229:=Tryz.underlying218,a229:=Tryz.isAgg218,z229:=Tryz.sizeOf218,v229:=Tryz.zeroValue218}
namespace Si
def srt(ss:List Int):List Int:=ss.mergeSort fun x y=>decide (x<=y)
theorem w123(B:Nat)(v:Value)(ss:List Int)(w:World)(T:ss.length<4611686018427387904)(y:w.ownsRow B 3 1 v ss.length (ss.map (Value.int .i64))):
 Calls Tryz.prog 123 #[v] w fun e w'=>e= .returned (.tuple #[])/\w'.ownsRow B 3 1 v ss.length ((srt ss).map (Value.int .i64))/\w.grownBy w' v.ownBlock:=by
 obtain⟨h0,⟨rfl,h1⟩|⟨g,cap,I,rfl,Q,O,L,J,F,h⟩⟩:=y
 ·have hs:ss=[]:=List.eq_nil_of_length_eq_zero h1
  subst hs
  have E:Calls Tryz.prog 123 #[.slice none 0 0] w fun e w'=>e= .returned (.tuple #[])/\w'=w:=
   calls_of_every_depth fun D=>AnyS.slices_Sort_int_none_alone yZ D none 0 w
  refine E.mono ?_;rintro e w' ⟨rfl,rfl⟩;exact⟨rfl,by rw[show srt []=[]by simp[srt]];exact World.ownsRow_nil _ _ _ _,⟨rfl,rfl,rfl,aJ _,fun _ _ _=>rfl⟩⟩
 ·have Z:I.toList.take ss.length=ss.map (Value.int .i64):=by rw[dp]at h;exact h
  have W:=holds_of_blockI (ss:=ss) O Z;have C:g<w.heap.size:=(di.1 O).1;have E:=Any.slices_Sort_int yZ g 0 cap ss w W C T;refine Calls.mono (R:=_) E ?_;rintro e w' ⟨rfl,n,os,rfl⟩;exact⟨rfl,ownsRow_sortedI (by simp[]) Q O L J F,grownBy_sortedI _⟩
end Si
end
end Go.Proofs.YtbfnljmmepcbfaaGreatDoor
