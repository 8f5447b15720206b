/- What the functions come to. No condition. -/
import Derived.Test.YtbfnljmmepcbfaaGreatDoorCoPA
import Derived.Deep.Slices
import Derived.Ground.NamesProg
import Derived.KernelRfl
import Derived.LoopTactic
import Derived.Maps.AppendAt
import Derived.Maps.RangeWalk
import Derived.Shelf.Slices.In.SortNone
import Derived.Shelf.Sort.Plain
import Derived.Sort.OwnSortedInts
import Derived.WalkKit
import Derived.WalkSmall
open Array renaming getElem?_eq_some_iff -> cW
open Go.IntKind renaming i64 -> ah
open List renaming foldl_cons -> dO, map_append -> du, map_cons -> aF, mem_cons -> aw, mem_cons_of_mem -> av, mem_cons_self -> aE, mem_map -> aT
open Nat renaming le_refl -> aK, mul_one -> iJ, succ_mul -> dy, zero_le -> bH
open Option renaming some -> aq
set_option maxRecDepth 100000
set_option maxHeartbeats 16000000
set_option linter.unusedSimpArgs false
set_option linter.unusedVariables false
namespace Go.Proofs.YtbfnljmmepcbfaaGreatDoor
open Go.Sy
open UInt8 renaming reduceLT -> Q0, reduceLE -> Q1
open Int renaming reduceToNat -> Q2, reduceLE -> Q3, reduceLT -> Q4, reduceEq -> Q5, reduceNe -> Q6, reduceNeg -> Q7, reduceAdd -> Q8, reduceSub -> Q9, reduceMul -> Qa
open Nat renaming reducePow -> Qb, reduceDiv -> Qc, reduceMod -> Qd, reduceAdd -> Qe, reduceSub -> Qf, reduceMul -> Qg, reduceLT -> Qh, reduceLeDiff -> Qi, reduceEqDiff -> Qj, reduceBEq -> Qk
section
open Go.RowKit Go.Maps Go.WideMaps
namespace Si
section
variable (aid mid : Nat -> Int) (V : Nat -> Nat -> Bool)
def stp(ks:List Int)(i j:Nat):List Int:=if aid i=mid j/\aid i∉ks/\V i j=true then ks++ [aid i]else ks
def inn(j:Nat)(ks:List Int):Nat->List Int
 |0=>ks
 |i+1=>stp aid mid V (inn j ks i) i j
def out(n:Nat):Nat->List Int
 |0=> []
 |j+1=>inn aid mid V j (out n j) n
end
def Dk{H:Type}(ks:List Int):DataW H:=setOf (.lit (.bool true)) (ks.map (Lit.int .i64))
theorem BU{H:Type}(x:Int)(z u:DataW H):∀(acc:List Int)(m:DataW H),IsMap m->((acc.map (Lit.int .i64)).foldl (fun m y=>m.put y u) m).atKey (.int .i64 x) z=if x∈acc then u else m.atKey (.int .i64 x) z
 |[],m,_=>by simp
 |y::r,m,hm=>by
  rw[aF,dO,BU x z u r _ (hm.put _ _)]
  by_cases h1:x∈r
  ·rw[if_pos h1,if_pos (av _ h1)]
  ·rw[if_neg h1]
   by_cases h2:x=y
   ·subst h2
    rw[if_pos aE];exact atKey_put_same hm (by trivial) _ _
   ·rw[if_neg (fun h=>by rcases aw.1 h with h|h;exact h2 h;exact h1 h)]
    exact atKey_put_other (fun e=>h2 (by injection e)) _ _
theorem xh0{H:Type}(ks:List Int)(x:Int):(Dk (H:=H) ks).atKey (.int .i64 x) (.lit (.bool false))= .lit (.bool (decide (x∈ks))):=by
 unfold Dk setOf;rw[BU x _ _ ks _ isMap_empty]
 by_cases h:x∈ks
 ·rw[if_pos h,decide_eq_true h]
 ·rw[if_neg h,decide_eq_false h]
  rfl
theorem Se{H:Type}(ks:List Int)(x:Int):Dk (H:=H) (ks++ [x])=(Dk ks).put (.int .i64 x) (.lit (.bool true)):=by unfold Dk;rw[du,List.map_singleton,setOf_snoc]
def Ez(S:List Int)(left:Lit->Bool)(ss:List Int):Prop:=ss.Nodup/\∀x,x∈ss↔(x∈S/\left (.int .i64 x)=false)
theorem NE{H:Type}(S:List Int)(x:Int):Maps.has (Dk (H:=H) S) (.int .i64 x)=decide (x∈S):=by
 unfold Dk;rw[has_setOf _ _ _ (fun y hy=>by obtain⟨_,_,rfl⟩:=aT.1 hy;trivial),List.any_map];induction S with
 |nil=>simp
 |cons a r ih=>
  rw[List.any_cons,ih]
  by_cases h:x=a
  ·subst h;simp[Lit.sameKey]
  ·have h':¬a=x:=fun e=>h e.symm
   simp[Lit.sameKey,h,h']
theorem Ez.start{H:Type}(S:List Int):Ez S (Maps.has (Dk (H:=H) S)) []:=⟨List.nodup_nil,fun x=>by
 rw[NE]
 by_cases h:x∈S<;>simp[h]⟩
theorem Ez.step{H:Type}{S:List Int}{left:Lit->Bool}{ss:List Int}(h:Ez S left ss){x:Int}{y:DataW H}(hlk:left (.int .i64 x)=true)(hat:∀zd,(Dk (H:=H) S).atKey (.int .i64 x) zd=y):Ez S (fun z=>left z&& !z.sameKey (.int .i64 x)) (ss++ [x]):=by
 have hx:x∈S:=by have:=NE (H:=H) S x;rw[has_true_of_atKey hat]at this;exact of_decide_eq_true this.symm
 have hnew:x∉ss:=fun hx=>by have:=((h.2 x).1 hx).2;rw[hlk]at this;cases this
 refine⟨List.nodup_append.2 ⟨h.1,by simp,fun a ha b hb=>by simp at hb;subst hb;exact fun e=>hnew (e ▸ ha)⟩,fun y=> ?_⟩
 by_cases hy:y=x
 ·subst hy;simp[hx,Lit.sameKey]
 ·simp[h.2 y,hy,Lit.sameKey]
theorem ya{w:World}{base:Nat}{e:TypeId}{size:Nat}{v:Value}{n:Nat}{xs:List Value}(h:w.ownsRow base e size v n xs){b:Nat}(hb:b<base):some b≠v.ownBlock:=fun e1=>by have:=(h.lt b e1.symm).1;omega
theorem xf9:(Tryz.prog.info? 3).map (fun i=>(i.zero,i.size,i.bytes))=some (some (.int .i64 0),1,8):=by kernel_rfl
theorem Ng:Keyed Tryz.prog 3:=int_keyed Tryz.underlying3
theorem xdV(w:World):(zeroValue 4).run Tryz.prog w= .ok (.bool false) w:=by kernel_rfl
theorem w73(w:World)(n m:Nat)(aid mid:Nat->Int)(ka sa:Nat->Option Addr)(kl kc sl sc:Nat->Nat)(V:Nat->Nat->Bool)(ba oa ca bm om cm:Nat)(thr:Int)(b0:Option Addr)(bl bc:Nat)
 (hn:n<=1000) (hm:m<=1000) (hba:ba<w.heap.size) (hbm:bm<w.heap.size)
 (ha0:∀i,i<n->w.cell? ⟨ba,oa+i*2,none⟩=some (.int .i64 (aid i))) (ha1:∀i,i<n->w.cell? ⟨ba,oa+i*2+1,none⟩=some (.slice (ka i) (kl i) (kc i)))
 (hm0:∀i,i<m->w.cell? ⟨bm,om+i*2,none⟩=some (.int .i64 (mid i))) (hm1:∀i,i<m->w.cell? ⟨bm,om+i*2+1,none⟩=some (.slice (sa i) (sl i) (sc i)))
 (srt:List Int->List Int)
 (hsort:∀(B:Nat)(v:Value)(ss:List Int)(wr:World),ss.length<=n->wr.ownsRow B 3 1 v ss.length (ss.map (Value.int .i64))->Calls Tryz.prog 123 #[v] wr fun e w'=>e= .returned (.tuple #[])/\w'.ownsRow B 3 1 v ss.length ((srt ss).map (Value.int .i64))/\wr.grownBy w' v.ownBlock)
 (hS:∀S:List Int,S.Nodup->(∀x,x∈S->x∈out aid mid V n m)->S.length<=n)
 (haw:∀i,i<n->(Lit.int .i64 (aid i)).wf=true)
 (hver:∀i j wr,i<n->j<m->Below w.heap.size w wr->Calls Tryz.prog 122 #[.slice (ka i) (kl i) (kc i),.slice b0 bl bc,.slice (sa j) (sl j) (sc j)] wr fun e w'=>∃l:Int,e= .returned (.tuple #[.int .i64 l,.bool (V i j)])/\Below wr.heap.size wr w'):
 Calls Tryz.prog 73 #[.agg #[.slice (some ⟨ba,oa,none⟩) n ca,.int .i64 thr],.agg #[.slice b0 bl bc,.slice (some ⟨bm,om,none⟩) m cm]] w fun e w'=>∃v ss B,w.heap.size<=B/\e= .returned v/\w'.ownsRow B 3 1 v ss.length ((srt ss).map (Value.int .i64))/\(ss.length=0->v= .slice none 0 0)/\ss.Nodup/\(∀x,x∈ss↔x∈out aid mid V n m)/\Below w.heap.size w w':=by
 obtain⟨i0,hi,hz0,hz1,hz2⟩:=info_parts xf9;have hmm:= @run_makeMap Tryz.prog
 go_enter Tryz.func73,Tryz.ntmps73
 go_wp2
 have hbw0:Below w.heap.size w (((w.alloc (Obj.cells #[Value.slice (some {block:=ba,off:=oa}) n ca,Value.int ah thr] 24)).alloc (Obj.cells #[Value.slice b0 bl bc,Value.slice (some {block:=bm,off:=om}) m cm] 45)).alloc (Obj.map #[] 0)):=
  (((Below.refl _ w).alloc (aK _) _).alloc (by simp) _).alloc (by simp;omega) _
 have hown0:(((w.alloc (Obj.cells #[Value.slice (some {block:=ba,off:=oa}) n ca,Value.int ah thr] 24)).alloc (Obj.cells #[Value.slice b0 bl bc,Value.slice (some {block:=bm,off:=om}) m cm] 45)).alloc (Obj.map #[] 0)).ownsMap Tryz.prog 3 (plainElem (H:=Unit) Tryz.prog 4) (w.heap.size+1+1) 0 (.map []):=by have:=World.ownsMap_made (H:=Unit) ((w.alloc (Obj.cells #[Value.slice (some {block:=ba,off:=oa}) n ca,Value.int ah thr] 24)).alloc (Obj.cells #[Value.slice b0 bl bc,Value.slice (some {block:=bm,off:=om}) m cm] 45)) Tryz.prog 3 (plainElem Tryz.prog 4);simpa using this
 have hsa:∀(W:World) o,(W.alloc o).heap.size=W.heap.size+1:=fun W o=>by simp
 have hcT:(((w.alloc (Obj.cells #[Value.slice (some {block:=ba,off:=oa}) n ca,Value.int ah thr] 24)).alloc (Obj.cells #[Value.slice b0 bl bc,Value.slice (some {block:=bm,off:=om}) m cm] 45)).alloc (Obj.map #[] 0)).cell? ⟨w.heap.size,0,none⟩=some (.slice (some ⟨ba,oa,none⟩) n ca):=by rw[World.cell?_alloc_lt _ _ _ (by rw[hsa,hsa];show w.heap.size<_;omega),World.cell?_alloc_lt _ _ _ (by rw[hsa];show w.heap.size<_;omega)];exact cell_two_new w _ _ _ 0 _ rfl
 have hcD:(((w.alloc (Obj.cells #[Value.slice (some {block:=ba,off:=oa}) n ca,Value.int ah thr] 24)).alloc (Obj.cells #[Value.slice b0 bl bc,Value.slice (some {block:=bm,off:=om}) m cm] 45)).alloc (Obj.map #[] 0)).cell? ⟨w.heap.size+1,0,none⟩=some (.slice b0 bl bc):=by rw[World.cell?_alloc_lt _ _ _ (by rw[hsa,hsa];show w.heap.size+1<_;omega)];have:=cell_two_new (w.alloc (Obj.cells #[Value.slice (some {block:=ba,off:=oa}) n ca,Value.int ah thr] 24)) (.slice b0 bl bc) (Value.slice (some {block:=bm,off:=om}) m cm) 45 0 _ rfl;rw[hsa]at this;exact this
 have hsz:(((w.alloc (Obj.cells #[Value.slice (some {block:=ba,off:=oa}) n ca,Value.int ah thr] 24)).alloc (Obj.cells #[Value.slice b0 bl bc,Value.slice (some {block:=bm,off:=om}) m cm] 45)).alloc (Obj.map #[] 0)).heap.size=w.heap.size+3:=by rw[hsa,hsa,hsa]
 generalize (((w.alloc (Obj.cells #[Value.slice (some {block:=ba,off:=oa}) n ca,Value.int ah thr] 24)).alloc (Obj.cells #[Value.slice b0 bl bc,Value.slice (some {block:=bm,off:=om}) m cm] 45)).alloc (Obj.map #[] 0))=W2 at*
 go_loopw [18] (fun i wr=>∃j q:Nat,j<=m/\q<=j*n/\i= .int .i64 j/\wr.ownsMap Tryz.prog 3 (plainElem (H:=Unit) Tryz.prog 4) (w.heap.size+1+1) q (Dk (out aid mid V n j))/\W2.grownBy wr (some (w.heap.size+1+1)))
  (fun i _=>m-(intOf i).toNat)
 case atStart=>exact⟨0,0,bH _,by omega,rfl,hown0,⟨rfl,rfl,rfl,aK _,fun _ _ _=>rfl⟩⟩
 case round=>
  obtain⟨j,q,hj,hq,rfl,hown,hgr⟩:=hrel;have hs2:=hgr.size
  have cold:∀b o v,b<w.heap.size->w.cell? ⟨b,o,none⟩=some v->wr.cell? ⟨b,o,none⟩=some v:=fun b o v hb h=>by have h1:=hbw0.cell (p:=⟨b,o,none⟩) hb;have h2:=hgr.block b (by omega) (fun e=>by have:=aq.inj e;omega);rw[<-h,<-h1];simp only[World.cell?,h2]
  have hc0:j<m->wr.cell? ⟨bm,om+j*2,none⟩=some (.int .i64 (mid j)):=fun h=>cold _ _ _ hbm (hm0 j h)
  have hc1:j<m->wr.cell? ⟨bm,om+j*2+1,none⟩=some (.slice (sa j) (sl j) (sc j)):=fun h=>cold _ _ _ hbm (hm1 j h)
  have hct:wr.cell? ⟨w.heap.size,0,none⟩=some (.slice (some ⟨ba,oa,none⟩) n ca):=by rw[<-hcT];simp only[World.cell?,hgr.block w.heap.size (by omega) (fun e=>by have:=aq.inj e;omega)]
  have hcd:wr.cell? ⟨w.heap.size+1,0,none⟩=some (.slice b0 bl bc):=by rw[<-hcD];simp only[World.cell?,hgr.block (w.heap.size+1) (by omega) (fun e=>by have:=aq.inj e;omega)]
  have hl1:w.heap.size<wr.heap.size:=by omega
  have hl2:w.heap.size+1<wr.heap.size:=by omega
  have hl3:bm<wr.heap.size:=by omega
  have hl4:ba<wr.heap.size:=by omega
  have hl5:w.heap.size+1+1<wr.heap.size:=by omega
  have hne1:¬w.heap.size=wr.heap.size:=by omega
  have hne2:¬w.heap.size+1=wr.heap.size:=by omega
  go_wp2_with (first
   |(at_range;refine wpList_range_own _ rfl _ 154 rfl 3 4 Ng Tryz.underlying154 _ (w.heap.size+1+1) q _ rfl hown ?_;intro w0 hrg0 hg0 hs0)
   |go_in)
  ·
   have hlt:j<m:=by assumption
   generalize wr=wo at*;have hw3s:(wo.alloc (Obj.cells #[Value.int ah (mid j),Value.slice (sa j) (sl j) (sc j)] 137)).heap.size=wo.heap.size+1:=hsa _ _;have hg3:wo.grownBy (wo.alloc (Obj.cells #[Value.int ah (mid j),Value.slice (sa j) (sl j) (sc j)] 137)) none:=World.grownBy_alloc _ _ _;have hown3:=hown.alloc (Obj.cells #[Value.int ah (mid j),Value.slice (sa j) (sl j) (sc j)] 137);have hb0:=cell_two_new wo (Value.int ah (mid j)) (Value.slice (sa j) (sl j) (sc j)) 137 0 _ rfl;have hb1:=cell_two_new wo (Value.int ah (mid j)) (Value.slice (sa j) (sl j) (sc j)) 137 1 _ rfl
   have hc3:∀b o v,b<wo.heap.size->wo.cell? ⟨b,o,none⟩=some v->(wo.alloc (Obj.cells #[Value.int ah (mid j),Value.slice (sa j) (sl j) (sc j)] 137)).cell? ⟨b,o,none⟩=some v:=fun b o v hb h=>by rw[World.cell?_alloc_lt _ _ _ hb];exact h
   generalize hW3:wo.alloc (Obj.cells #[Value.int ah (mid j),Value.slice (sa j) (sl j) (sc j)] 137)=W3 at*;rw[show decide (j<m)=true from decide_eq_true hlt]
   go_loopw [25] (fun i wr=>∃k p:Nat,k<=n/\p<=q+k/\i= .int .i64 k/\wr.ownsMap Tryz.prog 3 (plainElem (H:=Unit) Tryz.prog 4) (w.heap.size+1+1) p (Dk (inn aid mid V j (out aid mid V n j) k))/\W3.grownBy wr (some (w.heap.size+1+1)))
    (fun i _=>n-(intOf i).toNat)
   case atStart=>exact⟨0,q,bH _,aK _,rfl,hown3,⟨rfl,rfl,rfl,aK _,fun _ _ _=>rfl⟩⟩
   case round=>
    obtain⟨k,p,hk,hp,rfl,howi,hgi⟩:=hrel;have hsi:=hgi.size
    have ci:∀b o v,b<W3.heap.size->b≠w.heap.size+1+1->W3.cell? ⟨b,o,none⟩=some v->wr.cell? ⟨b,o,none⟩=some v:=fun b o v hb hne h=>by have h2:=hgi.block b hb (fun e=>hne (aq.inj e));rw[<-h];simp only[World.cell?,h2]
    have ha0':k<n->wr.cell? ⟨ba,oa+k*2,none⟩=some (.int .i64 (aid k)):=fun h=>ci _ _ _ (by omega) (by omega) (hc3 _ _ _ hl4 (cold _ _ _ hba (ha0 k h)))
    have ha1':k<n->wr.cell? ⟨ba,oa+k*2+1,none⟩=some (.slice (ka k) (kl k) (kc k)):=fun h=>ci _ _ _ (by omega) (by omega) (hc3 _ _ _ hl4 (cold _ _ _ hba (ha1 k h)))
    have hcd':wr.cell? ⟨w.heap.size+1,0,none⟩=some (.slice b0 bl bc):=ci _ _ _ (by omega) (by omega) (hc3 _ _ _ hl2 hcd);have hb0':wr.cell? ⟨wo.heap.size,0,none⟩=some (.int .i64 (mid j)):=ci _ _ _ (by omega) (by omega) hb0;have hb1':wr.cell? ⟨wo.heap.size,1,none⟩=some (.slice (sa j) (sl j) (sc j)):=ci _ _ _ (by omega) (by omega) hb1;have hn1:w.heap.size+1<wr.heap.size:=by omega
    have hn2:wo.heap.size<wr.heap.size:=by omega
    have hn3:ba<wr.heap.size:=by omega
    have hn4:¬wo.heap.size=wr.heap.size:=by omega
    have hbk:¬wr.heap.size=w.heap.size+1+1:=by omega
    have hp0:p<maxLen:=by have:j*n<=1000*1000:=Nat.mul_le_mul (by omega) hn;unfold maxLen;omega
    by_cases hkn:k<n
    ·by_cases hid:aid k=mid j
     ·have hwf:=haw k hkn
      have hcall0:=fun wr h=>hver k j wr hkn hlt h
      replace ha0':=ha0' hkn
      have hmem:∀ks,stp aid mid V ks k j=if mid j∉ks/\V k j=true then ks++ [mid j]else ks:=fun ks=>by unfold stp;rw[hid];simp
      rw[hid]at ha0' hwf;obtain⟨c,hrun,hat⟩:=C2 (howi.alloc (Obj.cells #[Value.int ah (mid j),Value.slice (ka k) (kl k) (kc k)] 76)) Ng Tryz.underlying154 Tryz.underlying4 (xdV _) (keyOf_int_mk Tryz.underlying3 hwf);rw[xh0]at hat;have hc:c=decide (mid j∈inn aid mid V j (out aid mid V n j) k):=by injection hat with h;injection h with h;exact h.symm
      have hkey:=keyOf_int_mk Tryz.underlying3 hwf
      have hbw:Below w.heap.size w (wr.alloc (Obj.cells #[Value.int ah (mid j),Value.slice (ka k) (kl k) (kc k)] 76)):=by
       refine Below.alloc ⟨?_, ?_, ?_, ?_, ?_⟩ (by omega) _
       ·exact hgi.os.trans (hg3.os.trans (hgr.os.trans hbw0.os))
       ·exact hgi.tape.trans (hg3.tape.trans (hgr.tape.trans hbw0.tape))
       ·exact hgi.output.trans (hg3.output.trans (hgr.output.trans hbw0.output))
       ·omega
       ·intro b hb
        rw[hgi.block b (by omega) (fun e=>by have:=aq.inj e;omega),hg3.block b (by omega) (fun e=>by cases e),hgr.block b (by omega) (fun e=>by have:=aq.inj e;omega)];exact hbw0.block b hb
      have hcall:=hcall0 _ hbw;have hbx:=cell_two_new wr (Value.int ah (mid j)) (Value.slice (ka k) (kl k) (kc k)) 76 0 _ rfl;have hws:(wr.alloc (Obj.cells #[Value.int ah (mid j),Value.slice (ka k) (kl k) (kc k)] 76)).heap.size=wr.heap.size+1:=hsa _ _;have hown5:=howi.alloc (Obj.cells #[Value.int ah (mid j),Value.slice (ka k) (kl k) (kc k)] 76);have hg5:wr.grownBy (wr.alloc (Obj.cells #[Value.int ah (mid j),Value.slice (ka k) (kl k) (kc k)] 76)) none:=World.grownBy_alloc _ _ _;clear hcall0 hver haw hid;cases c with
      |true=>
       have hin:mid j∈inn aid mid V j (out aid mid V n j) k:=of_decide_eq_true hc.symm;clear hcall hat hc
       go_wp2
       go_roundw
       case rel=>refine⟨k+1,p,by omega,by omega,by go_num, ?_,hgi.andThen (hg5.but _) (fun j hj=> .inr hj)⟩;show World.ownsMap _ _ _ _ _ _ (Dk (stp aid mid V _ k j));rw[hmem,if_neg (fun h=>h.1 hin)];exact hown5
       case measure=>simp[intOf];omega
      |false=>
       have hin:mid j∉inn aid mid V j (out aid mid V n j) k:=of_decide_eq_false hc.symm;clear hat hc
       go_wp2_with (first
        |(go_at_call 122;refine hcall.mono ?_;rintro e w' ⟨l,rfl,hb⟩;have hca:w'.cell? ⟨wr.heap.size,0,none⟩=some (.int .i64 (mid j)):=(hb.cell (p:=⟨wr.heap.size,0,none⟩) (by rw[hws];exact Nat.lt_succ_self _)).trans hbx;have hgb:World.grownBy (wr.alloc (Obj.cells #[Value.int ah (mid j),Value.slice (ka k) (kl k) (kc k)] 76)) w' none:=⟨hb.os,hb.tape,hb.output,hb.size,fun i hi _=>hb.block i hi⟩)
        |(at_mapUpdate;refine wpList_mapUpdate_own _ rfl _ _ _ 154 rfl 3 4 Ng Tryz.underlying154 _ (w.heap.size+1+1) p _ rfl (hown5.kept hgb (by simp)) hp0 _ _ (.int .i64 (mid j)) rfl rfl hkey (.lit (.bool true)) [] (plainElem_bool Tryz.underlying4 true) ?_;intro w1 hown1 hgrow1)
        |go_in)
       ·have hv:V k j=true:=by assumption
        go_roundw
        case rel=>refine⟨k+1,p+1,by omega,by omega,by go_num, ?_,((hgi.andThen (hg5.but _) (fun j hj=> .inr hj)).andThen (hgb.but _) (fun j hj=> .inr hj)).andThen hgrow1 (fun j hj=> .inr hj)⟩;show World.ownsMap _ _ _ _ _ _ (Dk (stp aid mid V _ k j));rw[hmem,if_pos ⟨hin,hv⟩,Se];exact hown1
        case measure=>simp[intOf];omega
       ·have hv:V k j=false:=by assumption
        go_roundw
        case rel=>refine⟨k+1,p,by omega,by omega,by go_num, ?_,(hgi.andThen (hg5.but _) (fun j hj=> .inr hj)).andThen (hgb.but _) (fun j hj=> .inr hj)⟩;show World.ownsMap _ _ _ _ _ _ (Dk (stp aid mid V _ k j));rw[hmem,if_neg (fun h=>by rw[hv]at h;cases h.2)];exact hown5.kept hgb (by simp)
        case measure=>simp[intOf];omega
     ·have hmem:∀ks,stp aid mid V ks k j=ks:=fun ks=>by
       unfold stp;rw[if_neg (fun h=>hid h.1)]
      have hown5:=howi.alloc (Obj.cells #[Value.int ah (aid k),Value.slice (ka k) (kl k) (kc k)] 76);have hg5:wr.grownBy (wr.alloc (Obj.cells #[Value.int ah (aid k),Value.slice (ka k) (kl k) (kc k)] 76)) none:=World.grownBy_alloc _ _ _;replace ha0':=ha0' hkn
      go_wp2
      go_roundw
      case rel=>refine⟨k+1,p,by omega,by omega,by go_num, ?_,hgi.andThen (hg5.but _) (fun j hj=> .inr hj)⟩;show World.ownsMap _ _ _ _ _ _ (Dk (stp aid mid V _ k j));rw[hmem];exact hown5
      case measure=>simp[intOf];omega
    ·have hkn':k=n:=by omega
     subst hkn'
     go_wp2
     go_roundw
     case rel=>refine⟨j+1,p,by omega,by rw[dy];omega,by go_num, ?_,(hgr.andThen (hg3.but _) (fun j hj=> .inr hj)).andThen hgi (fun j hj=> .inr hj)⟩;exact howi
     case measure=>simp[intOf];omega
  ·
   have hj':j=m:=by omega
   subst hj';have hsw:=hbw0
   have hB:Below w.heap.size w w0:=by
    refine⟨?_, ?_, ?_, ?_, ?_⟩
    ·exact hg0.os.trans (hgr.os.trans hbw0.os)
    ·exact hg0.tape.trans (hgr.tape.trans hbw0.tape)
    ·exact hg0.output.trans (hgr.output.trans hbw0.output)
    ·have:=hg0.size;omega
    ·intro b hb
     rw[hg0.block b (by omega) (fun e=>by cases e),hgr.block b (by omega) (fun e=>by have:=aq.inj e;omega)];exact hbw0.block b hb
   go_frame
   rw[show decide (j<j)=false from decide_eq_false (Nat.lt_irrefl _)];generalize hrb:wr.heap.size=rb at*
   go_loopw [12] (fun v wx=>∃(left:Lit->Bool)(cnt:Nat)(ss:List Int),wx.ranges Tryz.prog 3 (plainElem (H:=Unit) Tryz.prog 4) (w.heap.size+1+1) rb q (Dk (out aid mid V n j)) left cnt/\
    wx.ownsRow (rb+1) 3 1 v ss.length (ss.map (Value.int .i64))/\(ss.length=0->v= .slice none 0 0)/\Ez (out aid mid V n j) left ss/\Below w.heap.size w wx/\rb+1<=wx.heap.size)
    (fun _ wx=>wx.rangeLeft (w.heap.size+1+1) rb)
   case atStart=>exact⟨_,_,[],hrg0,World.ownsRow_nil _ _ _ _,fun _=>rfl,Ez.start _,hB,by omega⟩
   case round=>
    obtain⟨left,cnt,ss,hrg,hrow,hnil,hC,hnx,hsx⟩:=hrel;have hlen:ss.length<=n:=hS ss hC.1 (fun x hx=>((hC.2 x).1 hx).1)
    go_wp2_with (first
     |(at_next;refine wpList_next_ranges _ rfl _ rfl 3 Ng (plainElem Tryz.prog 4) (Value.int .i64) Value.bool (fun key kl hk=>by obtain⟨x,hx,_⟩:=Maps.keyOf_int_inv Tryz.underlying3 hk;exact⟨x,hx⟩) (fun v y hv=>by obtain⟨c,rfl,_⟩:=fg Tryz.underlying4 hv;exact⟨c,rfl⟩) (w.heap.size+1+1) rb q _ _ _ rfl hrg ?_ ?_)
     |go_in)
    ·intro hc0 hl0
     have hcs:=hsort (rb+1) _ ss _ hlen hrow
     go_wp2_with (first
      |(go_at_call 123;refine hcs.mono ?_;rintro e w' ⟨rfl,hrow',hgs⟩)
      |go_in)
     go_ret
     exact⟨_,ss,rb+1,by omega,rfl,hrow',hnil,hC.1,fun x=>by rw[hC.2 x,hl0];simp,hnx.grown hgs hnx.size (fun b hb=>by have:=(hrow.lt b hb).1;omega)⟩
    ·intro x
     constructor
     all_goals
      intro kl yd yp wn cnt2 hkey hlk hv hat hrg2 hlt hg2 hs2 hen;obtain⟨x',ex,rfl,_⟩:=Maps.keyOf_int_inv Tryz.underlying3 hkey;obtain rfl:x=x':=by simpa using ex
      have hrow2:=hrow.kept hg2 (.inr (ya hrow (Nat.lt_succ_self _)).symm);have hbn:Below w.heap.size w wn:=⟨hg2.os.trans hnx.os,hg2.tape.trans hnx.tape,hg2.output.trans hnx.output,by omega,fun b hb=>by rw[hg2.block b (by omega) (fun e=>by have:=aq.inj e;omega)];exact hnx.block b hb⟩;have hsn:rb+1<=wn.heap.size:=by omega
      clear hs2
      go_wp2_with (first
       |(at_builtin;refine wpList_append_own _ rfl _ _ 60 rfl (rb+1) 3 i0 (.int .i64 0) 1 8 Tryz.underlying60 hi hz0 hz1 hz2 rfl (by decide) _ _ _ rfl (hrow2.alloc _) ⟨wn.heap.size,0,none⟩ 1 1 [.int .i64 x] rfl rfl (cell_one_new _ _ _) (ints_oneCell .i64 [x]) (by unfold maxLen;omega) (by omega) (by have:=hg2.size;simp;omega) ?_;intro v' w3 hown' hg3 hnil3;go_frame)
       |go_in)
      have hg1:wn.grownBy (wn.alloc (Obj.cells #[Value.int ah x] 3)) none:=World.grownBy_alloc _ _ _;have hr1:=hrow2.alloc (Obj.cells #[Value.int ah x] 3);have hrg3:=(hrg2.alloc (Obj.cells #[Value.int ah x] 3)).kept hg3 (ya hr1 (by omega)) (ya hr1 (by omega));have s1:=hg1.size;have s3:=hg3.size
      go_roundw
      case rel=>refine⟨_,cnt2,ss++ [x],hrg3,by simpa using hown',fun h=>by simp at h,hC.step hlk hat, ?_,by omega⟩;exact(hbn.alloc (by omega) _).grown hg3 (by omega) (fun b hb=>by have:=(hr1.lt b hb).1;omega)
      case measure=>rw[hrg3.left_eq,hrg.left_eq];exact hlt
theorem w73_0(w:World)(su:Value)(A:Option Addr)(thr:Int)(cm:Nat)(b0:Option Addr)(bl bc:Nat)(s0:Option Addr)(sl0 sc0:Nat)(hsu:su= .slice s0 sl0 sc0)
 (hsort:∀(wr:World),Calls Tryz.prog 123 #[.slice none 0 0] wr fun e w'=>e= .returned (.tuple #[])/\wr.grownBy w' none):
 Calls Tryz.prog 73 #[.agg #[su,.int .i64 thr],.agg #[.slice b0 bl bc,.slice A 0 cm]] w fun e w'=>e= .returned (.slice none 0 0)/\Below w.heap.size w w':=by
 subst hsu;have hmm:= @run_makeMap Tryz.prog
 go_enter Tryz.func73,Tryz.ntmps73
 go_wp2
 have hbw0:Below w.heap.size w (((w.alloc (Obj.cells #[Value.slice s0 sl0 sc0,Value.int ah thr] 24)).alloc (Obj.cells #[Value.slice b0 bl bc,Value.slice A 0 cm] 45)).alloc (Obj.map #[] 0)):=
  (((Below.refl _ w).alloc (aK _) _).alloc (by simp) _).alloc (by simp;omega) _
 have hown0:(((w.alloc (Obj.cells #[Value.slice s0 sl0 sc0,Value.int ah thr] 24)).alloc (Obj.cells #[Value.slice b0 bl bc,Value.slice A 0 cm] 45)).alloc (Obj.map #[] 0)).ownsMap Tryz.prog 3 (plainElem (H:=Unit) Tryz.prog 4) (w.heap.size+1+1) 0 (.map []):=by have:=World.ownsMap_made (H:=Unit) ((w.alloc (Obj.cells #[Value.slice s0 sl0 sc0,Value.int ah thr] 24)).alloc (Obj.cells #[Value.slice b0 bl bc,Value.slice A 0 cm] 45)) Tryz.prog 3 (plainElem Tryz.prog 4);simpa using this
 generalize (((w.alloc (Obj.cells #[Value.slice s0 sl0 sc0,Value.int ah thr] 24)).alloc (Obj.cells #[Value.slice b0 bl bc,Value.slice A 0 cm] 45)).alloc (Obj.map #[] 0))=W2 at*;refine wp_loop_rounds 1 ?_;rw[rounds_succ]
 go_wp2_with (first
  |(at_range;refine wpList_range_own _ rfl _ 154 rfl 3 4 Ng Tryz.underlying154 _ (w.heap.size+1+1) 0 _ rfl hown0 ?_;intro w0 hrg0 hg0 hs0)
  |go_in)
 go_frame
 refine wp_loop_rounds 1 ?_;rw[rounds_succ]
 go_wp2_with (first
  |(at_next;refine wpList_next_ranges _ rfl _ rfl 3 Ng (plainElem Tryz.prog 4) (Value.int .i64) Value.bool (fun key kl hk=>by obtain⟨x,hx,_⟩:=Maps.keyOf_int_inv Tryz.underlying3 hk;exact⟨x,hx⟩) (fun v y hv=>by obtain⟨c,rfl,_⟩:=fg Tryz.underlying4 hv;exact⟨c,rfl⟩) (w.heap.size+1+1) W2.heap.size 0 _ _ _ rfl hrg0 ?_ ?_)
  |go_in)
 ·intro hc0 hl0
  go_wp2_with (first
   |(go_at_call 123;refine(hsort _).mono ?_;rintro e w' ⟨rfl,hgs⟩)
   |go_in)
  go_ret
  exact⟨rfl,(hbw0.grown hg0 hbw0.size (fun b hb=>by cases hb)).grown hgs (by have:=hbw0.size;have:=hg0.size;omega) (fun b hb=>by cases hb)⟩
 ·intro x
  constructor
  all_goals
   intro kl a b wn cnt hkey hlk;exact absurd hlk (by simp[Maps.has])
end Si
end
section
open Go.RowKit Go.Maps Go.Sort Go.Shelf
def QL:Go.Shelf.Ren:=⟨fun|189=>123|125=>157|257=>156|128=>187|129=>188|294=>178|295=>179|296=>180|297=>181|298=>182|299=>183|216=>184|300=>185|301=>186|328=>197|329=>198|330=>199|331=>200|332=>201|215=>161|343=>205|n=>n,fun|28=>60|3=>3|46=>99|0=>0|51=>145|53=>141|4=>4|183=>197|182=>196|131=>93|5=>5|9=>9|218=>209|222=>213|228=>217|229=>218|n=>n,fun|n=>n⟩
theorem vD:Go.Proofs.Lays.n189 Tryz.prog QL:= {mixed:=by kernel_rfl,f125:=Tryz.func157.trans (congrArg some (by kernel_rfl)),f128:=Tryz.func187.trans (congrArg some (by kernel_rfl)),f129:=Tryz.func188.trans (congrArg some (by kernel_rfl)),f189:=Tryz.func123.trans (congrArg some (by kernel_rfl)),f215:=Tryz.func161.trans (congrArg some (by kernel_rfl)),f216:=Tryz.func184.trans (congrArg some (by kernel_rfl)),f257:=Tryz.func156.trans (congrArg some (by kernel_rfl)),f294:=Tryz.func178.trans (congrArg some (by kernel_rfl)),f295:=Tryz.func179.trans (congrArg some (by kernel_rfl)),f296:=Tryz.func180.trans (congrArg some (by kernel_rfl)),f297:=Tryz.func181.trans (congrArg some (by kernel_rfl)),f298:=Tryz.func182.trans (congrArg some (by kernel_rfl)),f299:=Tryz.func183.trans (congrArg some (by kernel_rfl)),f300:=Tryz.func185.trans (congrArg some (by kernel_rfl)),f301:=Tryz.func186.trans (congrArg some (by kernel_rfl)),f328:=Tryz.func197.trans (congrArg some (by kernel_rfl)),f329:=Tryz.func198.trans (congrArg some (by kernel_rfl)),f330:=Tryz.func199.trans (congrArg some (by kernel_rfl)),f331:=Tryz.func200.trans (congrArg some (by kernel_rfl)),f332:=Tryz.func201.trans (congrArg some (by kernel_rfl)),f343:=Tryz.func205.trans (congrArg some (by kernel_rfl)),t0:=Tryz.underlying0,a0:=Tryz.isAgg0,z0:=Tryz.sizeOf0,v0:=Tryz.zeroValue0,t3:=Tryz.underlying3,a3:=Tryz.isAgg3,z3:=Tryz.sizeOf3,v3:=Tryz.zeroValue3,t4:=Tryz.underlying4,a4:=Tryz.isAgg4,z4:=Tryz.sizeOf4,v4:=Tryz.zeroValue4,t5:=Tryz.underlying5,a5:=Tryz.isAgg5,z5:=Tryz.sizeOf5,v5:=Tryz.zeroValue5,t9:=Tryz.underlying9,a9:=Tryz.isAgg9,z9:=Tryz.sizeOf9,v9:=Tryz.zeroValue9,t28:=Tryz.underlying60,a28:=Tryz.isAgg60,z28:=Tryz.sizeOf60,v28:=Tryz.zeroValue60,t46:=Tryz.underlying99,a46:=Tryz.isAgg99,z46:=Tryz.sizeOf99,v46:=Tryz.zeroValue99,t51:=Tryz.underlying145,a51:=Tryz.isAgg145,z51:=Tryz.sizeOf145,v51:=Tryz.zeroValue145,t53:=Tryz.underlying141,a53:=Tryz.isAgg141,z53:=Tryz.sizeOf141,v53:=Tryz.zeroValue141,t131:=Tryz.underlying93,a131:=Tryz.isAgg93,z131:=Tryz.sizeOf93,v131:=Tryz.zeroValue93,t182:=Tryz.underlying196,a182:=Tryz.isAgg196,z182:=Tryz.sizeOf196,v182:=Tryz.zeroValue196,t183:=Tryz.underlying197,a183:=Tryz.isAgg197,z183:=Tryz.sizeOf197,v183:=Tryz.zeroValue197,t218:=Tryz.underlying209,a218:=Tryz.isAgg209,z218:=Tryz.sizeOf209,v218:=Tryz.zeroValue209,t222:=Tryz.underlying213,a222:=Tryz.isAgg213,z222:=Tryz.sizeOf213,v222:=Tryz.zeroValue213,t228:=Tryz.underlying217,a228:=Tryz.isAgg217,z228:=Tryz.sizeOf217,v228:=Tryz.zeroValue217,t229:=Tryz.underlying218,a229:=Tryz.isAgg218,z229:=Tryz.sizeOf218,v229:=Tryz.zeroValue218}
namespace Si
def srt(ss:List Int):List Int:=ss.mergeSort fun x y=>decide (x<=y)
theorem w123(B:Nat)(v:Value)(ss:List Int)(w:World)(hl:ss.length<4611686018427387904)(hrow:w.ownsRow B 3 1 v ss.length (ss.map (Value.int .i64))):
 Calls Tryz.prog 123 #[v] w fun e w'=>e= .returned (.tuple #[])/\w'.ownsRow B 3 1 v ss.length ((srt ss).map (Value.int .i64))/\w.grownBy w' v.ownBlock:=by
 obtain⟨h0,⟨rfl,h1⟩|⟨g,cap,cur,rfl,hbg,hg,hnc,hcm,hcs,htake⟩⟩:=hrow
 ·have hs:ss=[]:=List.eq_nil_of_length_eq_zero h1
  subst hs
  have hc:Calls Tryz.prog 123 #[.slice none 0 0] w fun e w'=>e= .returned (.tuple #[])/\w'=w:=
   calls_of_every_depth fun D=>AnyS.slices_Sort_int_none_alone vD D none 0 w
  refine hc.mono ?_;rintro e w' ⟨rfl,rfl⟩;exact⟨rfl,by rw[show srt []=[]by simp[srt]];exact World.ownsRow_nil _ _ _ _,⟨rfl,rfl,rfl,aK _,fun _ _ _=>rfl⟩⟩
 ·have ht:cur.toList.take ss.length=ss.map (Value.int .i64):=by rw[iJ]at htake;exact htake
  have hH:=holds_of_blockI (ss:=ss) hg ht;have hgl:g<w.heap.size:=(cW.1 hg).1;have hc:=Any.slices_Sort_int vD g 0 cap ss w hH hgl hl;refine Calls.mono (R:=_) hc ?_;rintro e w' ⟨rfl,n,os,rfl⟩;exact⟨rfl,ownsRow_sortedI (by simp[]) hbg hg hnc hcm hcs,grownBy_sortedI _⟩
end Si
end
end Go.Proofs.YtbfnljmmepcbfaaGreatDoor
