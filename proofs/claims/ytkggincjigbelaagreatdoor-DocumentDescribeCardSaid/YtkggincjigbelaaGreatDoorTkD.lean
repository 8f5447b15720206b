/- What the functions come to. No condition. -/
import Derived.Test.YtkggincjigbelaaGreatDoorThD
import Derived.Test.YtkggincjigbelaaGreatDoorTjD
open Array renaming getD_eq_getD_getElem? -> bg, getElem?_eq_some_iff -> db, getElem?_toList -> cD
open Bool renaming and_eq_true -> aA, or_eq_true -> eu
open Go.IntKind renaming i64 -> af
open List renaming cons -> tg, eq_nil_of_length_eq_zero -> ku, foldl_cons -> cr, getD_eq_getElem?_getD -> aa, getElem?_eq_getElem -> ab, getElem?_map -> aO, getElem_mem -> bi, length_cons -> ai, length_map -> aN, map_append -> cE, map_cons -> aC, mem_append -> al, mem_cons -> an, mem_cons_of_mem -> ao, mem_cons_self -> ay, mem_map -> aR, mem_range -> dH, mem_singleton -> aY, nodup_cons -> du, range -> bD
open Nat renaming le_refl -> aH, mul_one -> fH, succ_mul -> df, zero_le -> bJ
open Option renaming map_some -> bn, some -> aq
set_option maxRecDepth 100000
set_option maxHeartbeats 16000000
set_option linter.unusedSimpArgs false
set_option linter.unusedVariables false
namespace Go.Proofs.YtkggincjigbelaaGreatDoor
open Go.Sy
open UInt8 renaming reduceLT -> Q0, reduceLE -> Q1
open Int renaming reduceToNat -> Q2, reduceLE -> Q3, reduceLT -> Q4, reduceEq -> Q5, reduceNe -> Q6, reduceNeg -> Q7, reduceAdd -> Q8, reduceSub -> Q9, reduceMul -> Qa
open Nat renaming reducePow -> Qb, reduceDiv -> Qc, reduceMod -> Qd, reduceAdd -> Qe, reduceSub -> Qf, reduceMul -> Qg, reduceLT -> Qh, reduceLeDiff -> Qi, reduceEqDiff -> Qj, reduceBEq -> Qk
section
open Go.RowKit Go.Maps Go.WideMaps
namespace Si
section
variable (aid mid : Nat -> Int) (V : Nat -> Nat -> Bool)
def stp(ks:List Int)(i j:Nat):List Int:=if aid i=mid j/\aid i∉ks/\V i j=true then ks++ [aid i]else ks
def inn(j:Nat)(ks:List Int):Nat->List Int
 |0=>ks
 |i+1=>stp aid mid V (inn j ks i) i j
def out(n:Nat):Nat->List Int
 |0=> []
 |j+1=>inn aid mid V j (out n j) n
end
def Dk{H:Type}(ks:List Int):DataW H:=setOf (.lit (.bool true)) (ks.map (Lit.int .i64))
theorem Bm{H:Type}(x:Int)(z u:DataW H):∀(acc:List Int)(m:DataW H),IsMap m->((acc.map (Lit.int .i64)).foldl (fun m y=>m.put y u) m).atKey (.int .i64 x) z=if x∈acc then u else m.atKey (.int .i64 x) z
 |[],m,_=>by simp
 |y::r,m,hm=>by
  rw[aC,cr,Bm x z u r _ (hm.put _ _)]
  by_cases h1:x∈r
  ·rw[if_pos h1,if_pos (ao _ h1)]
  ·rw[if_neg h1]
   by_cases h2:x=y
   ·subst h2
    rw[if_pos ay];exact atKey_put_same hm (by trivial) _ _
   ·rw[if_neg (fun h=>by rcases an.1 h with h|h;exact h2 h;exact h1 h)]
    exact atKey_put_other (fun e=>h2 (by injection e)) _ _
theorem xhO{H:Type}(ks:List Int)(x:Int):(Dk (H:=H) ks).atKey (.int .i64 x) (.lit (.bool false))= .lit (.bool (decide (x∈ks))):=by
 unfold Dk setOf;rw[Bm x _ _ ks _ isMap_empty]
 by_cases h:x∈ks
 ·rw[if_pos h,decide_eq_true h]
 ·rw[if_neg h,decide_eq_false h]
  rfl
theorem Rm{H:Type}(ks:List Int)(x:Int):Dk (H:=H) (ks++ [x])=(Dk ks).put (.int .i64 x) (.lit (.bool true)):=by unfold Dk;rw[cE,List.map_singleton,setOf_snoc]
def DL(S:List Int)(left:Lit->Bool)(ss:List Int):Prop:=ss.Nodup/\∀x,x∈ss↔(x∈S/\left (.int .i64 x)=false)
theorem MX{H:Type}(S:List Int)(x:Int):Maps.has (Dk (H:=H) S) (.int .i64 x)=decide (x∈S):=by
 unfold Dk;rw[has_setOf _ _ _ (fun y hy=>by obtain⟨_,_,rfl⟩:=aR.1 hy;trivial),List.any_map];induction S with
 |nil=>simp
 |cons a r ih=>
  rw[List.any_cons,ih]
  by_cases h:x=a
  ·subst h;simp[Lit.sameKey]
  ·have h':¬a=x:=fun e=>h e.symm
   simp[Lit.sameKey,h,h']
theorem DL.start{H:Type}(S:List Int):DL S (Maps.has (Dk (H:=H) S)) []:=⟨List.nodup_nil,fun x=>by
 rw[MX]
 by_cases h:x∈S<;>simp[h]⟩
theorem DL.step{H:Type}{S:List Int}{left:Lit->Bool}{ss:List Int}(h:DL S left ss){x:Int}{y:DataW H}(hlk:left (.int .i64 x)=true)(hat:∀zd,(Dk (H:=H) S).atKey (.int .i64 x) zd=y):DL S (fun z=>left z&& !z.sameKey (.int .i64 x)) (ss++ [x]):=by
 have hx:x∈S:=by have:=MX (H:=H) S x;rw[has_true_of_atKey hat]at this;exact of_decide_eq_true this.symm
 have hnew:x∉ss:=fun hx=>by have:=((h.2 x).1 hx).2;rw[hlk]at this;cases this
 refine⟨List.nodup_append.2 ⟨h.1,by simp,fun a ha b hb=>by simp at hb;subst hb;exact fun e=>hnew (e ▸ ha)⟩,fun y=> ?_⟩
 by_cases hy:y=x
 ·subst hy;simp[hx,Lit.sameKey]
 ·simp[h.2 y,hy,Lit.sameKey]
theorem wL{w:World}{base:Nat}{e:TypeId}{size:Nat}{v:Value}{n:Nat}{xs:List Value}(h:w.ownsRow base e size v n xs){b:Nat}(hb:b<base):some b≠v.ownBlock:=fun e1=>by have:=(h.lt b e1.symm).1;omega
theorem xfN:(Tryz.prog.info? 3).map (fun i=>(i.zero,i.size,i.bytes))=some (some (.int .i64 0),1,8):=by kernel_rfl
theorem MC:Keyed Tryz.prog 3:=int_keyed Tryz.underlying3
theorem xdl(w:World):(zeroValue 4).run Tryz.prog w= .ok (.bool false) w:=by kernel_rfl
theorem w32(w:World)(n m:Nat)(aid mid:Nat->Int)(ka sa:Nat->Option Addr)(kl kc sl sc:Nat->Nat)(V:Nat->Nat->Bool)(ba oa ca bm om cm:Nat)(thr:Int)(b0:Option Addr)(bl bc:Nat)
 (hn:n<=1000) (hm:m<=1000) (hba:ba<w.heap.size) (hbm:bm<w.heap.size)
 (ha0:∀i,i<n->w.cell? ⟨ba,oa+i*2,none⟩=some (.int .i64 (aid i))) (ha1:∀i,i<n->w.cell? ⟨ba,oa+i*2+1,none⟩=some (.slice (ka i) (kl i) (kc i)))
 (hm0:∀i,i<m->w.cell? ⟨bm,om+i*2,none⟩=some (.int .i64 (mid i))) (hm1:∀i,i<m->w.cell? ⟨bm,om+i*2+1,none⟩=some (.slice (sa i) (sl i) (sc i)))
 (srt:List Int->List Int)
 (hsort:∀(B:Nat)(v:Value)(ss:List Int)(wr:World),ss.length<=n->wr.ownsRow B 3 1 v ss.length (ss.map (Value.int .i64))->Calls Tryz.prog 59 #[v] wr fun e w'=>e= .returned (.tuple #[])/\w'.ownsRow B 3 1 v ss.length ((srt ss).map (Value.int .i64))/\wr.grownBy w' v.ownBlock)
 (hS:∀S:List Int,S.Nodup->(∀x,x∈S->x∈out aid mid V n m)->S.length<=n)
 (haw:∀i,i<n->(Lit.int .i64 (aid i)).wf=true)
 (hver:∀i j wr,i<n->j<m->Below w.heap.size w wr->Calls Tryz.prog 58 #[.slice (ka i) (kl i) (kc i),.slice b0 bl bc,.slice (sa j) (sl j) (sc j)] wr fun e w'=>∃l:Int,e= .returned (.tuple #[.int .i64 l,.bool (V i j)])/\Below wr.heap.size wr w'):
 Calls Tryz.prog 32 #[.agg #[.slice (some ⟨ba,oa,none⟩) n ca,.int .i64 thr],.agg #[.slice b0 bl bc,.slice (some ⟨bm,om,none⟩) m cm]] w fun e w'=>∃v ss B,w.heap.size<=B/\e= .returned v/\w'.ownsRow B 3 1 v ss.length ((srt ss).map (Value.int .i64))/\(ss.length=0->v= .slice none 0 0)/\ss.Nodup/\(∀x,x∈ss↔x∈out aid mid V n m)/\Below w.heap.size w w':=by
 obtain⟨i0,hi,hz0,hz1,hz2⟩:=info_parts xfN;have hmm:= @run_makeMap Tryz.prog
 go_enter Tryz.func32,Tryz.ntmps32
 go_wp2
 have hbw0:Below w.heap.size w (((w.alloc (Obj.cells #[Value.slice (some {block:=ba,off:=oa}) n ca,Value.int af thr] 40)).alloc (Obj.cells #[Value.slice b0 bl bc,Value.slice (some {block:=bm,off:=om}) m cm] 49)).alloc (Obj.map #[] 0)):=
  (((Below.refl _ w).alloc (aH _) _).alloc (by simp) _).alloc (by simp;omega) _
 have hown0:(((w.alloc (Obj.cells #[Value.slice (some {block:=ba,off:=oa}) n ca,Value.int af thr] 40)).alloc (Obj.cells #[Value.slice b0 bl bc,Value.slice (some {block:=bm,off:=om}) m cm] 49)).alloc (Obj.map #[] 0)).ownsMap Tryz.prog 3 (plainElem (H:=Unit) Tryz.prog 4) (w.heap.size+1+1) 0 (.map []):=by have:=World.ownsMap_made (H:=Unit) ((w.alloc (Obj.cells #[Value.slice (some {block:=ba,off:=oa}) n ca,Value.int af thr] 40)).alloc (Obj.cells #[Value.slice b0 bl bc,Value.slice (some {block:=bm,off:=om}) m cm] 49)) Tryz.prog 3 (plainElem Tryz.prog 4);simpa using this
 have hsa:∀(W:World) o,(W.alloc o).heap.size=W.heap.size+1:=fun W o=>by simp
 have hcT:(((w.alloc (Obj.cells #[Value.slice (some {block:=ba,off:=oa}) n ca,Value.int af thr] 40)).alloc (Obj.cells #[Value.slice b0 bl bc,Value.slice (some {block:=bm,off:=om}) m cm] 49)).alloc (Obj.map #[] 0)).cell? ⟨w.heap.size,0,none⟩=some (.slice (some ⟨ba,oa,none⟩) n ca):=by rw[World.cell?_alloc_lt _ _ _ (by rw[hsa,hsa];show w.heap.size<_;omega),World.cell?_alloc_lt _ _ _ (by rw[hsa];show w.heap.size<_;omega)];exact cell_two_new w _ _ _ 0 _ rfl
 have hcD:(((w.alloc (Obj.cells #[Value.slice (some {block:=ba,off:=oa}) n ca,Value.int af thr] 40)).alloc (Obj.cells #[Value.slice b0 bl bc,Value.slice (some {block:=bm,off:=om}) m cm] 49)).alloc (Obj.map #[] 0)).cell? ⟨w.heap.size+1,0,none⟩=some (.slice b0 bl bc):=by rw[World.cell?_alloc_lt _ _ _ (by rw[hsa,hsa];show w.heap.size+1<_;omega)];have:=cell_two_new (w.alloc (Obj.cells #[Value.slice (some {block:=ba,off:=oa}) n ca,Value.int af thr] 40)) (.slice b0 bl bc) (Value.slice (some {block:=bm,off:=om}) m cm) 49 0 _ rfl;rw[hsa]at this;exact this
 have hsz:(((w.alloc (Obj.cells #[Value.slice (some {block:=ba,off:=oa}) n ca,Value.int af thr] 40)).alloc (Obj.cells #[Value.slice b0 bl bc,Value.slice (some {block:=bm,off:=om}) m cm] 49)).alloc (Obj.map #[] 0)).heap.size=w.heap.size+3:=by rw[hsa,hsa,hsa]
 generalize (((w.alloc (Obj.cells #[Value.slice (some {block:=ba,off:=oa}) n ca,Value.int af thr] 40)).alloc (Obj.cells #[Value.slice b0 bl bc,Value.slice (some {block:=bm,off:=om}) m cm] 49)).alloc (Obj.map #[] 0))=W2 at*
 go_loopw [18] (fun i wr=>∃j q:Nat,j<=m/\q<=j*n/\i= .int .i64 j/\wr.ownsMap Tryz.prog 3 (plainElem (H:=Unit) Tryz.prog 4) (w.heap.size+1+1) q (Dk (out aid mid V n j))/\W2.grownBy wr (some (w.heap.size+1+1)))
  (fun i _=>m-(intOf i).toNat)
 case atStart=>exact⟨0,0,bJ _,by omega,rfl,hown0,⟨rfl,rfl,rfl,aH _,fun _ _ _=>rfl⟩⟩
 case round=>
  obtain⟨j,q,hj,hq,rfl,hown,hgr⟩:=hrel;have hs2:=hgr.size
  have cold:∀b o v,b<w.heap.size->w.cell? ⟨b,o,none⟩=some v->wr.cell? ⟨b,o,none⟩=some v:=fun b o v hb h=>by have h1:=hbw0.cell (p:=⟨b,o,none⟩) hb;have h2:=hgr.block b (by omega) (fun e=>by have:=aq.inj e;omega);rw[<-h,<-h1];simp only[World.cell?,h2]
  have hc0:j<m->wr.cell? ⟨bm,om+j*2,none⟩=some (.int .i64 (mid j)):=fun h=>cold _ _ _ hbm (hm0 j h)
  have hc1:j<m->wr.cell? ⟨bm,om+j*2+1,none⟩=some (.slice (sa j) (sl j) (sc j)):=fun h=>cold _ _ _ hbm (hm1 j h)
  have hct:wr.cell? ⟨w.heap.size,0,none⟩=some (.slice (some ⟨ba,oa,none⟩) n ca):=by rw[<-hcT];simp only[World.cell?,hgr.block w.heap.size (by omega) (fun e=>by have:=aq.inj e;omega)]
  have hcd:wr.cell? ⟨w.heap.size+1,0,none⟩=some (.slice b0 bl bc):=by rw[<-hcD];simp only[World.cell?,hgr.block (w.heap.size+1) (by omega) (fun e=>by have:=aq.inj e;omega)]
  have hl1:w.heap.size<wr.heap.size:=by omega
  have hl2:w.heap.size+1<wr.heap.size:=by omega
  have hl3:bm<wr.heap.size:=by omega
  have hl4:ba<wr.heap.size:=by omega
  have hl5:w.heap.size+1+1<wr.heap.size:=by omega
  have hne1:¬w.heap.size=wr.heap.size:=by omega
  have hne2:¬w.heap.size+1=wr.heap.size:=by omega
  go_wp2_with (first
   |(at_range;refine wpList_range_own _ rfl _ 87 rfl 3 4 MC Tryz.underlying87 _ (w.heap.size+1+1) q _ rfl hown ?_;intro w0 hrg0 hg0 hs0)
   |go_in)
  ·
   have hlt:j<m:=by assumption
   generalize wr=wo at*;have hw3s:(wo.alloc (Obj.cells #[Value.int af (mid j),Value.slice (sa j) (sl j) (sc j)] 63)).heap.size=wo.heap.size+1:=hsa _ _;have hg3:wo.grownBy (wo.alloc (Obj.cells #[Value.int af (mid j),Value.slice (sa j) (sl j) (sc j)] 63)) none:=World.grownBy_alloc _ _ _;have hown3:=hown.alloc (Obj.cells #[Value.int af (mid j),Value.slice (sa j) (sl j) (sc j)] 63);have hb0:=cell_two_new wo (Value.int af (mid j)) (Value.slice (sa j) (sl j) (sc j)) 63 0 _ rfl;have hb1:=cell_two_new wo (Value.int af (mid j)) (Value.slice (sa j) (sl j) (sc j)) 63 1 _ rfl
   have hc3:∀b o v,b<wo.heap.size->wo.cell? ⟨b,o,none⟩=some v->(wo.alloc (Obj.cells #[Value.int af (mid j),Value.slice (sa j) (sl j) (sc j)] 63)).cell? ⟨b,o,none⟩=some v:=fun b o v hb h=>by rw[World.cell?_alloc_lt _ _ _ hb];exact h
   generalize hW3:wo.alloc (Obj.cells #[Value.int af (mid j),Value.slice (sa j) (sl j) (sc j)] 63)=W3 at*;rw[show decide (j<m)=true from decide_eq_true hlt]
   go_loopw [25] (fun i wr=>∃k p:Nat,k<=n/\p<=q+k/\i= .int .i64 k/\wr.ownsMap Tryz.prog 3 (plainElem (H:=Unit) Tryz.prog 4) (w.heap.size+1+1) p (Dk (inn aid mid V j (out aid mid V n j) k))/\W3.grownBy wr (some (w.heap.size+1+1)))
    (fun i _=>n-(intOf i).toNat)
   case atStart=>exact⟨0,q,bJ _,aH _,rfl,hown3,⟨rfl,rfl,rfl,aH _,fun _ _ _=>rfl⟩⟩
   case round=>
    obtain⟨k,p,hk,hp,rfl,howi,hgi⟩:=hrel;have hsi:=hgi.size
    have ci:∀b o v,b<W3.heap.size->b≠w.heap.size+1+1->W3.cell? ⟨b,o,none⟩=some v->wr.cell? ⟨b,o,none⟩=some v:=fun b o v hb hne h=>by have h2:=hgi.block b hb (fun e=>hne (aq.inj e));rw[<-h];simp only[World.cell?,h2]
    have ha0':k<n->wr.cell? ⟨ba,oa+k*2,none⟩=some (.int .i64 (aid k)):=fun h=>ci _ _ _ (by omega) (by omega) (hc3 _ _ _ hl4 (cold _ _ _ hba (ha0 k h)))
    have ha1':k<n->wr.cell? ⟨ba,oa+k*2+1,none⟩=some (.slice (ka k) (kl k) (kc k)):=fun h=>ci _ _ _ (by omega) (by omega) (hc3 _ _ _ hl4 (cold _ _ _ hba (ha1 k h)))
    have hcd':wr.cell? ⟨w.heap.size+1,0,none⟩=some (.slice b0 bl bc):=ci _ _ _ (by omega) (by omega) (hc3 _ _ _ hl2 hcd);have hb0':wr.cell? ⟨wo.heap.size,0,none⟩=some (.int .i64 (mid j)):=ci _ _ _ (by omega) (by omega) hb0;have hb1':wr.cell? ⟨wo.heap.size,1,none⟩=some (.slice (sa j) (sl j) (sc j)):=ci _ _ _ (by omega) (by omega) hb1;have hn1:w.heap.size+1<wr.heap.size:=by omega
    have hn2:wo.heap.size<wr.heap.size:=by omega
    have hn3:ba<wr.heap.size:=by omega
    have hn4:¬wo.heap.size=wr.heap.size:=by omega
    have hbk:¬wr.heap.size=w.heap.size+1+1:=by omega
    have hp0:p<maxLen:=by have:j*n<=1000*1000:=Nat.mul_le_mul (by omega) hn;unfold maxLen;omega
    by_cases hkn:k<n
    ·by_cases hid:aid k=mid j
     ·have hwf:=haw k hkn
      have hcall0:=fun wr h=>hver k j wr hkn hlt h
      replace ha0':=ha0' hkn
      have hmem:∀ks,stp aid mid V ks k j=if mid j∉ks/\V k j=true then ks++ [mid j]else ks:=fun ks=>by unfold stp;rw[hid];simp
      rw[hid]at ha0' hwf;obtain⟨c,hrun,hat⟩:=Co (howi.alloc (Obj.cells #[Value.int af (mid j),Value.slice (ka k) (kl k) (kc k)] 45)) MC Tryz.underlying87 Tryz.underlying4 (xdl _) (keyOf_int_mk Tryz.underlying3 hwf);rw[xhO]at hat;have hc:c=decide (mid j∈inn aid mid V j (out aid mid V n j) k):=by injection hat with h;injection h with h;exact h.symm
      have hkey:=keyOf_int_mk Tryz.underlying3 hwf
      have hbw:Below w.heap.size w (wr.alloc (Obj.cells #[Value.int af (mid j),Value.slice (ka k) (kl k) (kc k)] 45)):=by
       refine Below.alloc ⟨?_, ?_, ?_, ?_, ?_⟩ (by omega) _
       ·exact hgi.os.trans (hg3.os.trans (hgr.os.trans hbw0.os))
       ·exact hgi.tape.trans (hg3.tape.trans (hgr.tape.trans hbw0.tape))
       ·exact hgi.output.trans (hg3.output.trans (hgr.output.trans hbw0.output))
       ·omega
       ·intro b hb
        rw[hgi.block b (by omega) (fun e=>by have:=aq.inj e;omega),hg3.block b (by omega) (fun e=>by cases e),hgr.block b (by omega) (fun e=>by have:=aq.inj e;omega)];exact hbw0.block b hb
      have hcall:=hcall0 _ hbw;have hbx:=cell_two_new wr (Value.int af (mid j)) (Value.slice (ka k) (kl k) (kc k)) 45 0 _ rfl;have hws:(wr.alloc (Obj.cells #[Value.int af (mid j),Value.slice (ka k) (kl k) (kc k)] 45)).heap.size=wr.heap.size+1:=hsa _ _;have hown5:=howi.alloc (Obj.cells #[Value.int af (mid j),Value.slice (ka k) (kl k) (kc k)] 45);have hg5:wr.grownBy (wr.alloc (Obj.cells #[Value.int af (mid j),Value.slice (ka k) (kl k) (kc k)] 45)) none:=World.grownBy_alloc _ _ _;clear hcall0 hver haw hid;cases c with
      |true=>
       have hin:mid j∈inn aid mid V j (out aid mid V n j) k:=of_decide_eq_true hc.symm;clear hcall hat hc
       go_wp2
       go_roundw
       case rel=>refine⟨k+1,p,by omega,by omega,by go_num, ?_,hgi.andThen (hg5.but _) (fun j hj=> .inr hj)⟩;show World.ownsMap _ _ _ _ _ _ (Dk (stp aid mid V _ k j));rw[hmem,if_neg (fun h=>h.1 hin)];exact hown5
       case measure=>simp[intOf];omega
      |false=>
       have hin:mid j∉inn aid mid V j (out aid mid V n j) k:=of_decide_eq_false hc.symm;clear hat hc
       go_wp2_with (first
        |(go_at_call 58;refine hcall.mono ?_;rintro e w' ⟨l,rfl,hb⟩;have hca:w'.cell? ⟨wr.heap.size,0,none⟩=some (.int .i64 (mid j)):=(hb.cell (p:=⟨wr.heap.size,0,none⟩) (by rw[hws];exact Nat.lt_succ_self _)).trans hbx;have hgb:World.grownBy (wr.alloc (Obj.cells #[Value.int af (mid j),Value.slice (ka k) (kl k) (kc k)] 45)) w' none:=⟨hb.os,hb.tape,hb.output,hb.size,fun i hi _=>hb.block i hi⟩)
        |(at_mapUpdate;refine wpList_mapUpdate_own _ rfl _ _ _ 87 rfl 3 4 MC Tryz.underlying87 _ (w.heap.size+1+1) p _ rfl (hown5.kept hgb (by simp)) hp0 _ _ (.int .i64 (mid j)) rfl rfl hkey (.lit (.bool true)) [] (plainElem_bool Tryz.underlying4 true) ?_;intro w1 hown1 hgrow1)
        |go_in)
       ·have hv:V k j=true:=by assumption
        go_roundw
        case rel=>refine⟨k+1,p+1,by omega,by omega,by go_num, ?_,((hgi.andThen (hg5.but _) (fun j hj=> .inr hj)).andThen (hgb.but _) (fun j hj=> .inr hj)).andThen hgrow1 (fun j hj=> .inr hj)⟩;show World.ownsMap _ _ _ _ _ _ (Dk (stp aid mid V _ k j));rw[hmem,if_pos ⟨hin,hv⟩,Rm];exact hown1
        case measure=>simp[intOf];omega
       ·have hv:V k j=false:=by assumption
        go_roundw
        case rel=>refine⟨k+1,p,by omega,by omega,by go_num, ?_,(hgi.andThen (hg5.but _) (fun j hj=> .inr hj)).andThen (hgb.but _) (fun j hj=> .inr hj)⟩;show World.ownsMap _ _ _ _ _ _ (Dk (stp aid mid V _ k j));rw[hmem,if_neg (fun h=>by rw[hv]at h;cases h.2)];exact hown5.kept hgb (by simp)
        case measure=>simp[intOf];omega
     ·have hmem:∀ks,stp aid mid V ks k j=ks:=fun ks=>by
       unfold stp;rw[if_neg (fun h=>hid h.1)]
      have hown5:=howi.alloc (Obj.cells #[Value.int af (aid k),Value.slice (ka k) (kl k) (kc k)] 45);have hg5:wr.grownBy (wr.alloc (Obj.cells #[Value.int af (aid k),Value.slice (ka k) (kl k) (kc k)] 45)) none:=World.grownBy_alloc _ _ _;replace ha0':=ha0' hkn
      go_wp2
      go_roundw
      case rel=>refine⟨k+1,p,by omega,by omega,by go_num, ?_,hgi.andThen (hg5.but _) (fun j hj=> .inr hj)⟩;show World.ownsMap _ _ _ _ _ _ (Dk (stp aid mid V _ k j));rw[hmem];exact hown5
      case measure=>simp[intOf];omega
    ·have hkn':k=n:=by omega
     subst hkn'
     go_wp2
     go_roundw
     case rel=>refine⟨j+1,p,by omega,by rw[df];omega,by go_num, ?_,(hgr.andThen (hg3.but _) (fun j hj=> .inr hj)).andThen hgi (fun j hj=> .inr hj)⟩;exact howi
     case measure=>simp[intOf];omega
  ·
   have hj':j=m:=by omega
   subst hj';have hsw:=hbw0
   have hB:Below w.heap.size w w0:=by
    refine⟨?_, ?_, ?_, ?_, ?_⟩
    ·exact hg0.os.trans (hgr.os.trans hbw0.os)
    ·exact hg0.tape.trans (hgr.tape.trans hbw0.tape)
    ·exact hg0.output.trans (hgr.output.trans hbw0.output)
    ·have:=hg0.size;omega
    ·intro b hb
     rw[hg0.block b (by omega) (fun e=>by cases e),hgr.block b (by omega) (fun e=>by have:=aq.inj e;omega)];exact hbw0.block b hb
   go_frame
   rw[show decide (j<j)=false from decide_eq_false (Nat.lt_irrefl _)];generalize hrb:wr.heap.size=rb at*
   go_loopw [12] (fun v wx=>∃(left:Lit->Bool)(cnt:Nat)(ss:List Int),wx.ranges Tryz.prog 3 (plainElem (H:=Unit) Tryz.prog 4) (w.heap.size+1+1) rb q (Dk (out aid mid V n j)) left cnt/\
    wx.ownsRow (rb+1) 3 1 v ss.length (ss.map (Value.int .i64))/\(ss.length=0->v= .slice none 0 0)/\DL (out aid mid V n j) left ss/\Below w.heap.size w wx/\rb+1<=wx.heap.size)
    (fun _ wx=>wx.rangeLeft (w.heap.size+1+1) rb)
   case atStart=>exact⟨_,_,[],hrg0,World.ownsRow_nil _ _ _ _,fun _=>rfl,DL.start _,hB,by omega⟩
   case round=>
    obtain⟨left,cnt,ss,hrg,hrow,hnil,hC,hnx,hsx⟩:=hrel;have hlen:ss.length<=n:=hS ss hC.1 (fun x hx=>((hC.2 x).1 hx).1)
    go_wp2_with (first
     |(at_next;refine wpList_next_ranges _ rfl _ rfl 3 MC (plainElem Tryz.prog 4) (Value.int .i64) Value.bool (fun key kl hk=>by obtain⟨x,hx,_⟩:=Maps.keyOf_int_inv Tryz.underlying3 hk;exact⟨x,hx⟩) (fun v y hv=>by obtain⟨c,rfl,_⟩:=eG Tryz.underlying4 hv;exact⟨c,rfl⟩) (w.heap.size+1+1) rb q _ _ _ rfl hrg ?_ ?_)
     |go_in)
    ·intro hc0 hl0
     have hcs:=hsort (rb+1) _ ss _ hlen hrow
     go_wp2_with (first
      |(go_at_call 59;refine hcs.mono ?_;rintro e w' ⟨rfl,hrow',hgs⟩)
      |go_in)
     go_ret
     exact⟨_,ss,rb+1,by omega,rfl,hrow',hnil,hC.1,fun x=>by rw[hC.2 x,hl0];simp,hnx.grown hgs hnx.size (fun b hb=>by have:=(hrow.lt b hb).1;omega)⟩
    ·intro x
     constructor
     all_goals
      intro kl yd yp wn cnt2 hkey hlk hv hat hrg2 hlt hg2 hs2 hen;obtain⟨x',ex,rfl,_⟩:=Maps.keyOf_int_inv Tryz.underlying3 hkey;obtain rfl:x=x':=by simpa using ex
      have hrow2:=hrow.kept hg2 (.inr (wL hrow (Nat.lt_succ_self _)).symm);have hbn:Below w.heap.size w wn:=⟨hg2.os.trans hnx.os,hg2.tape.trans hnx.tape,hg2.output.trans hnx.output,by omega,fun b hb=>by rw[hg2.block b (by omega) (fun e=>by have:=aq.inj e;omega)];exact hnx.block b hb⟩;have hsn:rb+1<=wn.heap.size:=by omega
      clear hs2
      go_wp2_with (first
       |(at_builtin;refine wpList_append_own _ rfl _ _ 56 rfl (rb+1) 3 i0 (.int .i64 0) 1 8 Tryz.underlying56 hi hz0 hz1 hz2 rfl (by decide) _ _ _ rfl (hrow2.alloc _) ⟨wn.heap.size,0,none⟩ 1 1 [.int .i64 x] rfl rfl (cell_one_new _ _ _) (ints_oneCell .i64 [x]) (by unfold maxLen;omega) (by omega) (by have:=hg2.size;simp;omega) ?_;intro v' w3 hown' hg3 hnil3;go_frame)
       |go_in)
      have hg1:wn.grownBy (wn.alloc (Obj.cells #[Value.int af x] 3)) none:=World.grownBy_alloc _ _ _;have hr1:=hrow2.alloc (Obj.cells #[Value.int af x] 3);have hrg3:=(hrg2.alloc (Obj.cells #[Value.int af x] 3)).kept hg3 (wL hr1 (by omega)) (wL hr1 (by omega));have s1:=hg1.size;have s3:=hg3.size
      go_roundw
      case rel=>refine⟨_,cnt2,ss++ [x],hrg3,by simpa using hown',fun h=>by simp at h,hC.step hlk hat, ?_,by omega⟩;exact(hbn.alloc (by omega) _).grown hg3 (by omega) (fun b hb=>by have:=(hr1.lt b hb).1;omega)
      case measure=>rw[hrg3.left_eq,hrg.left_eq];exact hlt
theorem w32_0(w:World)(su:Value)(A:Option Addr)(thr:Int)(cm:Nat)(b0:Option Addr)(bl bc:Nat)(s0:Option Addr)(sl0 sc0:Nat)(hsu:su= .slice s0 sl0 sc0)
 (hsort:∀(wr:World),Calls Tryz.prog 59 #[.slice none 0 0] wr fun e w'=>e= .returned (.tuple #[])/\wr.grownBy w' none):
 Calls Tryz.prog 32 #[.agg #[su,.int .i64 thr],.agg #[.slice b0 bl bc,.slice A 0 cm]] w fun e w'=>e= .returned (.slice none 0 0)/\Below w.heap.size w w':=by
 subst hsu;have hmm:= @run_makeMap Tryz.prog
 go_enter Tryz.func32,Tryz.ntmps32
 go_wp2
 have hbw0:Below w.heap.size w (((w.alloc (Obj.cells #[Value.slice s0 sl0 sc0,Value.int af thr] 40)).alloc (Obj.cells #[Value.slice b0 bl bc,Value.slice A 0 cm] 49)).alloc (Obj.map #[] 0)):=
  (((Below.refl _ w).alloc (aH _) _).alloc (by simp) _).alloc (by simp;omega) _
 have hown0:(((w.alloc (Obj.cells #[Value.slice s0 sl0 sc0,Value.int af thr] 40)).alloc (Obj.cells #[Value.slice b0 bl bc,Value.slice A 0 cm] 49)).alloc (Obj.map #[] 0)).ownsMap Tryz.prog 3 (plainElem (H:=Unit) Tryz.prog 4) (w.heap.size+1+1) 0 (.map []):=by have:=World.ownsMap_made (H:=Unit) ((w.alloc (Obj.cells #[Value.slice s0 sl0 sc0,Value.int af thr] 40)).alloc (Obj.cells #[Value.slice b0 bl bc,Value.slice A 0 cm] 49)) Tryz.prog 3 (plainElem Tryz.prog 4);simpa using this
 generalize (((w.alloc (Obj.cells #[Value.slice s0 sl0 sc0,Value.int af thr] 40)).alloc (Obj.cells #[Value.slice b0 bl bc,Value.slice A 0 cm] 49)).alloc (Obj.map #[] 0))=W2 at*;refine wp_loop_rounds 1 ?_;rw[rounds_succ]
 go_wp2_with (first
  |(at_range;refine wpList_range_own _ rfl _ 87 rfl 3 4 MC Tryz.underlying87 _ (w.heap.size+1+1) 0 _ rfl hown0 ?_;intro w0 hrg0 hg0 hs0)
  |go_in)
 go_frame
 refine wp_loop_rounds 1 ?_;rw[rounds_succ]
 go_wp2_with (first
  |(at_next;refine wpList_next_ranges _ rfl _ rfl 3 MC (plainElem Tryz.prog 4) (Value.int .i64) Value.bool (fun key kl hk=>by obtain⟨x,hx,_⟩:=Maps.keyOf_int_inv Tryz.underlying3 hk;exact⟨x,hx⟩) (fun v y hv=>by obtain⟨c,rfl,_⟩:=eG Tryz.underlying4 hv;exact⟨c,rfl⟩) (w.heap.size+1+1) W2.heap.size 0 _ _ _ rfl hrg0 ?_ ?_)
  |go_in)
 ·intro hc0 hl0
  go_wp2_with (first
   |(go_at_call 59;refine(hsort _).mono ?_;rintro e w' ⟨rfl,hgs⟩)
   |go_in)
  go_ret
  exact⟨rfl,(hbw0.grown hg0 hbw0.size (fun b hb=>by cases hb)).grown hgs (by have:=hbw0.size;have:=hg0.size;omega) (fun b hb=>by cases hb)⟩
 ·intro x
  constructor
  all_goals
   intro kl a b wn cnt hkey hlk;exact absurd hlk (by simp[Maps.has])
end Si
end
section
open Go.RowKit Go.Maps Go.Sort Go.Shelf
def PD:Go.Shelf.Ren:=⟨fun|189=>59|125=>97|257=>96|128=>160|129=>161|294=>151|295=>152|296=>153|297=>154|298=>155|299=>156|216=>157|300=>158|301=>159|328=>193|329=>194|330=>195|331=>196|332=>197|215=>176|343=>207|n=>n,fun|28=>56|3=>3|46=>35|0=>0|51=>137|53=>110|4=>4|183=>168|182=>167|131=>88|5=>5|9=>9|218=>190|222=>194|228=>200|229=>201|n=>n,fun|n=>n⟩
theorem ug:Go.Proofs.Lays.n189 Tryz.prog PD:= {mixed:=by kernel_rfl,f125:=Tryz.func97.trans (congrArg some (by kernel_rfl)),f128:=Tryz.func160.trans (congrArg some (by kernel_rfl)),f129:=Tryz.func161.trans (congrArg some (by kernel_rfl)),f189:=Tryz.func59.trans (congrArg some (by kernel_rfl)),f215:=Tryz.func176.trans (congrArg some (by kernel_rfl)),f216:=Tryz.func157.trans (congrArg some (by kernel_rfl)),f257:=Tryz.func96.trans (congrArg some (by kernel_rfl)),f294:=Tryz.func151.trans (congrArg some (by kernel_rfl)),f295:=Tryz.func152.trans (congrArg some (by kernel_rfl)),f296:=Tryz.func153.trans (congrArg some (by kernel_rfl)),f297:=Tryz.func154.trans (congrArg some (by kernel_rfl)),f298:=Tryz.func155.trans (congrArg some (by kernel_rfl)),f299:=Tryz.func156.trans (congrArg some (by kernel_rfl)),f300:=Tryz.func158.trans (congrArg some (by kernel_rfl)),f301:=Tryz.func159.trans (congrArg some (by kernel_rfl)),f328:=Tryz.func193.trans (congrArg some (by kernel_rfl)),f329:=Tryz.func194.trans (congrArg some (by kernel_rfl)),f330:=Tryz.func195.trans (congrArg some (by kernel_rfl)),f331:=Tryz.func196.trans (congrArg some (by kernel_rfl)),f332:=Tryz.func197.trans (congrArg some (by kernel_rfl)),f343:=Tryz.func207.trans (congrArg some (by kernel_rfl)),t0:=Tryz.underlying0,a0:=Tryz.isAgg0,z0:=Tryz.sizeOf0,v0:=Tryz.zeroValue0,t3:=Tryz.underlying3,a3:=Tryz.isAgg3,z3:=Tryz.sizeOf3,v3:=Tryz.zeroValue3,t4:=Tryz.underlying4,a4:=Tryz.isAgg4,z4:=Tryz.sizeOf4,v4:=Tryz.zeroValue4,t5:=Tryz.underlying5,a5:=Tryz.isAgg5,z5:=Tryz.sizeOf5,v5:=Tryz.zeroValue5,t9:=Tryz.underlying9,a9:=Tryz.isAgg9,z9:=Tryz.sizeOf9,v9:=Tryz.zeroValue9,t28:=Tryz.underlying56,a28:=Tryz.isAgg56,z28:=Tryz.sizeOf56,v28:=Tryz.zeroValue56,t46:=Tryz.underlying35,a46:=Tryz.isAgg35,z46:=Tryz.sizeOf35,v46:=Tryz.zeroValue35,t51:=Tryz.underlying137,a51:=Tryz.isAgg137,z51:=Tryz.sizeOf137,v51:=Tryz.zeroValue137,t53:=Tryz.underlying110,a53:=Tryz.isAgg110,z53:=Tryz.sizeOf110,v53:=Tryz.zeroValue110,t131:=Tryz.underlying88,a131:=Tryz.isAgg88,z131:=Tryz.sizeOf88,v131:=Tryz.zeroValue88,t182:=Tryz.underlying167,a182:=Tryz.isAgg167,z182:=Tryz.sizeOf167,v182:=Tryz.zeroValue167,t183:=Tryz.underlying168,a183:=Tryz.isAgg168,z183:=Tryz.sizeOf168,v183:=Tryz.zeroValue168,t218:=Tryz.underlying190,a218:=Tryz.isAgg190,z218:=Tryz.sizeOf190,v218:=Tryz.zeroValue190,t222:=Tryz.underlying194,a222:=Tryz.isAgg194,z222:=Tryz.sizeOf194,v222:=Tryz.zeroValue194,t228:=Tryz.underlying200,a228:=Tryz.isAgg200,z228:=Tryz.sizeOf200,v228:=Tryz.zeroValue200,t229:=Tryz.underlying201,a229:=Tryz.isAgg201,z229:=Tryz.sizeOf201,v229:=Tryz.zeroValue201}
namespace Si
def srt(ss:List Int):List Int:=ss.mergeSort fun x y=>decide (x<=y)
theorem w59(B:Nat)(v:Value)(ss:List Int)(w:World)(hl:ss.length<4611686018427387904)(hrow:w.ownsRow B 3 1 v ss.length (ss.map (Value.int .i64))):
 Calls Tryz.prog 59 #[v] w fun e w'=>e= .returned (.tuple #[])/\w'.ownsRow B 3 1 v ss.length ((srt ss).map (Value.int .i64))/\w.grownBy w' v.ownBlock:=by
 obtain⟨h0,⟨rfl,h1⟩|⟨g,cap,cur,rfl,hbg,hg,hnc,hcm,hcs,htake⟩⟩:=hrow
 ·have hs:ss=[]:=ku h1
  subst hs
  have hc:Calls Tryz.prog 59 #[.slice none 0 0] w fun e w'=>e= .returned (.tuple #[])/\w'=w:=
   calls_of_every_depth fun D=>AnyS.slices_Sort_int_none_alone ug D none 0 w
  refine hc.mono ?_;rintro e w' ⟨rfl,rfl⟩;exact⟨rfl,by rw[show srt []=[]by simp[srt]];exact World.ownsRow_nil _ _ _ _,⟨rfl,rfl,rfl,aH _,fun _ _ _=>rfl⟩⟩
 ·have ht:cur.toList.take ss.length=ss.map (Value.int .i64):=by rw[fH]at htake;exact htake
  have hH:=holds_of_blockI (ss:=ss) hg ht;have hgl:g<w.heap.size:=(db.1 hg).1;have hc:=Any.slices_Sort_int ug g 0 cap ss w hH hgl hl;refine Calls.mono (R:=_) hc ?_;rintro e w' ⟨rfl,n,os,rfl⟩;exact⟨rfl,ownsRow_sortedI (by simp[srt]) hbg hg hnc hcm hcs,grownBy_sortedI _⟩
end Si
end
section
structure Mk where
 auth:Int
 sig:List UInt8
def Mk.sv(m:Mk):List SV:=[.int .i64 m.auth,.byt m.sig .no]
def mk0:Mk:=⟨0,[]⟩
def ib(l:List Mk):List (List SV):=l.map Mk.sv
theorem fe(l:List Mk):(ib l).length=l.length:=aN ..
theorem tY(l:List Mk)(i:Nat)(h:i<l.length):(ib l).getD i []=(l.getD i mk0).sv:=by simp[ib,aa,h]
def dX(B:List UInt8)(ms:List Mk):List SV:=[.byt B .no,.lst 2 (ib ms) .no]
def MQ(t:Tr)(i:Nat):Int:=(t.au.getD i au0).id
def Pw(ms:List Mk)(j:Nat):Int:=(ms.getD j mk0).auth
def xcV(t:Tr)(B:List UInt8)(ms:List Mk)(i j:Nat):Bool:=jq (t.au.getD i au0).key B (ms.getD j mk0).sig
def sgO(t:Tr)(B:List UInt8)(ms:List Mk):List Int:=Si.out (MQ t) (Pw ms) (xcV t B ms) t.au.length ms.length
def sgL(t:Tr)(B:List UInt8)(ms:List Mk):List Int:=Si.srt (sgO t B ms)
def isv(l:List Int):List (List SV):=l.map fun z=> [.int .i64 z]
theorem rx(l:List Int):(isv l).length=l.length:=aN ..
theorem AX(l:List Int)(i:Nat)(h:i<l.length):(isv l).getD i []=[.int .i64 (l.getD i 0)]:=by simp[isv,aa,h]
def sgR(t:Tr)(B:List UInt8)(ms:List Mk):dE:=⟨.lst 1 (isv (sgL t B ms)) .no,[],[]⟩
structure DF(t:Tr)(B:List UInt8)(ms:List Mk):Prop where
 n1:1<=t.au.length
 n2:t.au.length<=1000
 m2:ms.length<=1000
 b2:B.length<=100000000
 ids:∀a∈t.au, -9223372036854775808<=a.id/\a.id<=9223372036854775807
theorem tV:∀(S L:List Int),S.Nodup->(∀x∈S,x∈L)->S.length<=L.length
 |[],L,_,_=>bJ _
 |x::S,L,hn,h=>by have hx:x∈L:=h x ay;obtain⟨hxs,hS⟩:=du.1 hn;have ih:=tV S (L.erase x) hS (fun y hy=>(List.mem_erase_of_ne (show y≠x from fun e=>hxs (by rw[<-e];exact hy))).2 (h y (ao _ hy)));have hl:=List.length_erase_of_mem hx;have hp:=List.length_pos_of_mem hx;rw[ai];omega
section
variable (aid mid : Nat -> Int) (V : Nat -> Nat -> Bool)
theorem BE{ks:List Int}(h:ks.Nodup)(i j:Nat):(Si.stp aid mid V ks i j).Nodup:=by
 unfold Si.stp;split
 ·rename_i hc
  exact List.nodup_append.2 ⟨h,by simp,fun a ha b hb=>by simp at hb;subst hb;exact fun e=>hc.2.1 (e ▸ ha)⟩
 ·exact h
theorem pV{ks:List Int}(h:ks.Nodup)(j:Nat):∀n,(Si.inn aid mid V j ks n).Nodup
 |0=>h
 |n+1=>BE aid mid V (pV h j n) n j
theorem lM(n:Nat):∀m,(Si.out aid mid V n m).Nodup
 |0=>List.nodup_nil
 |m+1=>pV aid mid V (lM n m) m n
theorem Ot{ks:List Int}{i j:Nat}{x:Int}(h:x∈Si.stp aid mid V ks i j):x∈ks\/x=aid i:=by
 unfold Si.stp at h;split at h
 ·rcases al.1 h with h|h
  ·exact .inl h
  ·exact .inr (aY.1 h)
 ·exact .inl h
theorem A1{ks:List Int}{j:Nat}{x:Int}:∀{n:Nat},x∈Si.inn aid mid V j ks n->x∈ks\/∃i,i<n/\x=aid i
 |0,h=> .inl h
 |n+1,h=>by
  rcases Ot aid mid V h with h|h
  ·rcases A1 h with h|⟨i,hi,e⟩
   ·exact .inl h
   ·exact .inr ⟨i,by omega,e⟩
  ·exact .inr ⟨n,by omega,h⟩
theorem AH{n:Nat}{x:Int}:∀{m:Nat},x∈Si.out aid mid V n m->∃i,i<n/\x=aid i
 |0,h=>by cases h
 |m+1,h=>by
  rcases A1 aid mid V h with h|h
  ·exact AH h
  ·exact h
theorem xaP(n m:Nat)(S:List Int)(hS:S.Nodup)(h:∀x,x∈S->x∈Si.out aid mid V n m):S.length<=n:=by
 have:=tV S ((bD n).map aid) hS (fun x hx=>by obtain⟨i,hi,e⟩:=AH aid mid V (h x hx);exact aR.2 ⟨i,dH.2 hi,e.symm⟩)
 rwa[aN,List.length_range]at this
end
theorem DX{l l':List Int}(h:l.Perm l'):Si.srt l=Si.srt l':=by
 have tr:∀a b c:Int,decide (a<=b)=true->decide (b<=c)=true->decide (a<=c)=true:=fun a b c h1 h2=>by simp only[decide_eq_true_eq]at*;omega
 have to:∀a b:Int,(decide (a<=b)||decide (b<=a))=true:=fun a b=>by simp only[eu,decide_eq_true_eq];omega
 refine List.Perm.eq_of_pairwise (le:=fun a b=>decide (a<=b)=true) (fun a b _ _ h1 h2=> ?_) (List.pairwise_mergeSort tr to l) (List.pairwise_mergeSort tr to l') (((List.mergeSort_perm l _).trans h).trans (List.mergeSort_perm l' _).symm);simp only[decide_eq_true_eq]at h1 h2;omega
theorem tv{l l':List Int}(h:l.Nodup)(h':l'.Nodup)(hm:∀x,x∈l↔x∈l'):Si.srt l=Si.srt l':=DX ((List.perm_ext_iff_of_nodup h h').2 hm)
section
open Go.RowKit Go.ChangeShapes Go.WideShapes
variable {x : Sit} {w w' : World}
theorem EW{G G':GM}(hG:∀b o v,G b o=some v->G' b o=some v)(h:Lay G):Lay G':=fun g cs hc j hj=>by obtain⟨v,h1,h2⟩:=h g cs hc j hj;exact⟨v,hG _ _ _ h1,h2.mono hG⟩
def slA:Value->Option Addr
 | .slice a _ _=>a
 |_=>none
def slN:Value->Nat
 | .slice _ n _=>n
 |_=>0
def slC:Value->Nat
 | .slice _ _ c=>c
 |_=>0
theorem xi4{G:GM}{k:IntKind}{n:Int}{v:Value}(h:cw G (.int k n) v):v= .int k n:=by cases h;rfl
theorem rD{α:Type}(l:List α)(d:α)(i:Nat)(h:i<l.length):l.getD i d∈l:=by rw[aa,ab h];exact bi _
theorem fD{G:GM}{l:List UInt8}{t:Tok}{v:Value}(h:cw G (.byt l t) v):v= .slice (slA v) (slN v) (slC v):=by
 cases h<;>rfl
theorem xjX(hper:∀b o v,x.G b o=some v->w.cell? ⟨b,o,none⟩=some v)(hb:Below w.heap.size w w'):∀b o v,x.G b o=some v->(tB w').G b o=some v:=fun b o v h=>by have h1:=hper b o v h;show w'.cell? ⟨b,o,none⟩=some v;rw[hb.cell (p:=⟨b,o,none⟩) (iV h1)];exact h1
theorem Bu{key B sig:List UInt8}{k b s:Value}(hB:B.length<=100000000)(hper:∀b o v,x.G b o=some v->w.cell? ⟨b,o,none⟩=some v)(hL:Lay x.G)(hk:cw x.G (.byt key .no) k)(hb:cw x.G (.byt B .no) b)(hs:cw x.G (.byt sig .no) s)
 (wr:World) (hbw:Below w.heap.size w wr):Calls Tryz.prog 58 #[k,b,s] wr fun e w'=>∃l:Int,e= .returned (.tuple #[.int .i64 l,.bool (jq key B sig)])/\Below wr.heap.size wr w':=by
 have hG:=xjX hper hbw
 have hv:cd (tB wr) [.byt key .no,.byt B .no,.byt sig .no] [k,b,s]:=⟨rfl,fun i hi=>by
  match i,hi with
  |0,_=>exact .dat _ _ (hk.mono hG) trivial
  |1,_=>exact .dat _ _ (hb.mono hG) trivial
  |2,_=>exact .dat _ _ (hs.mono hG) trivial⟩
 refine(FA FS (f58 key B sig hB) hv (EW hG hL)).mono ?_;rintro e w' ⟨v,x',rfl,hr,hbl⟩;obtain⟨vs,rfl,hvs⟩:=hr.tup_inv;obtain⟨u1,u2,rfl,q1,q2⟩:=Pr.repL2 hvs;rw[q1.int_inv,q2.bool_inv];exact⟨_,rfl,hbl⟩
theorem ze{sz:Nat}{xs:List (List SV)}{v:Value}(h:Rep x (.lst sz xs .no) v):(xs=[]/\∃A c,v= .slice A 0 c)\/∃(b off cap:Nat)(val:Nat->Nat->Value),v= .slice (some ⟨b,off,none⟩) xs.length cap/\(∀i j,i<xs.length->j<sz->x.G b (off+i*sz+j)=some (val i j))/\(∀i j,i<xs.length->j<sz->cw x.G ((xs.getD i []).getD j .undef) (val i j)):=by
 have hd:=h.data rfl;cases hd with
 |lstN=>exact .inl ⟨rfl,none,0,rfl⟩
 |lstE _ _ a=>exact .inl ⟨rfl,some a,0,rfl⟩
 |lst _ _ _ b off cap n val hn hc hl hg h2=>subst hn;exact .inr ⟨b,off,cap,val,rfl,hg,h2⟩
theorem CR{g i:Nat}{cur:Array Value}{e:TypeId}{fr:Nat×Nat}(h:w.heap[g]? =some (.cells cur e fr))(hi:i<cur.size):w.cell? ⟨g,i,none⟩=some (cur.getD i Go.undef):=by simp only[World.cell?,h];simp[hi]
theorem ZV{t:Tr}{B:List UInt8}{ms:List Mk}(hok:DF t B ms):i6 Tryz.prog 32 [.agg t.sv,.agg (dX B ms)] [] 0 (· =sgR t B ms):=by
 refine u9 (by kernel_rfl) fun x w vs hr hper hL=> ?_
 obtain⟨u,v,rfl,h1,h2⟩:=Pr.repL2 hr;obtain⟨us,rfl,ru⟩:=h1.agg_inv;obtain⟨su,sthr,rfl,r1,r2⟩:=Pr.repL2 ru;obtain⟨vs',rfl,rv⟩:=h2.agg_inv;obtain⟨sb,sm,rfl,q1,q2⟩:=Pr.repL2 rv;rw[r2.int_inv];have hB:=q1.data rfl;rw[fD hB];have hB':=hB;rw[fD hB]at hB';rcases ze r1 with⟨he,_⟩|⟨ba,oa,ca,va,rfl,ga,da⟩
 ·have:=hok.n1
  rw[<-ln,he]at this;simp at this
 rw[ln]at ga da ⊢;have hba:ba<w.heap.size:=iV (hper _ _ _ (ga 0 0 hok.n1 (by decide)))
 have a0:∀i,i<t.au.length->va i 0= .int .i64 (MQ t i):=fun i hi=>by have:=da i 0 hi (by decide);rw[lq _ _ hi]at this;change cw x.G (.int .i64 (MQ t i)) (va i 0)at this;exact xi4 this
 have a1:∀i,i<t.au.length->cw x.G (.byt (t.au.getD i au0).key .no) (va i 1):=fun i hi=>by have:=da i 1 hi (by decide);rw[lq _ _ hi]at this;exact this
 have none0:∀(A:Option Addr)(cm:Nat),ms=[]->Calls Tryz.prog 32 ⟨[.agg ⟨[.slice (some ⟨ba,oa,none⟩) t.au.length ca,.int .i64 t.thr]⟩,.agg ⟨[.slice (slA sb) (slN sb) (slC sb),.slice A 0 cm]⟩]⟩ w fun e w'=>∃v,e= .returned v/\Rep (x.grow w w') (sgR t B ms).r v/\Below w.heap.size w w':=by
  intro A cm hms;refine(Si.w32_0 w _ A t.thr cm (slA sb) (slN sb) (slC sb) (some ⟨ba,oa,none⟩) t.au.length ca rfl (fun wr=> ?_)).mono ?_
  ·refine(Si.w59 0 (.slice none 0 0) [] wr (by decide) (World.ownsRow_nil _ _ _ _)).mono ?_
   rintro e w' ⟨rfl,_,hg⟩;exact⟨rfl,hg⟩
  ·rintro e w' ⟨rfl,hb⟩
   subst hms;refine⟨_,rfl, ?_,hb⟩;show Rep _ (.lst 1 (isv (sgL t B [])) .no) _;rw[show sgL t B []=[]by simp[sgL,sgO,Si.out,Si.srt]];exact .dat _ _ (.lstN 1 .no) trivial
 rcases ze q2 with⟨he,A,c,rfl⟩|⟨bm,om,cm,vm,rfl,gm,dm⟩
 ·exact none0 A c (ku (by rw[<-fe,he];rfl))
 rw[fe]at gm dm ⊢
 by_cases hms:ms.length=0
 ·have:=none0 (some ⟨bm,om,none⟩) cm (ku hms)
  rw[hms];exact this
 have hbm:bm<w.heap.size:=iV (hper _ _ _ (gm 0 0 (by omega) (by decide)))
 have m0:∀i,i<ms.length->vm i 0= .int .i64 (Pw ms i):=fun i hi=>by have:=dm i 0 hi (by decide);rw[tY _ _ hi]at this;change cw x.G (.int .i64 (Pw ms i)) (vm i 0)at this;exact xi4 this
 have m1:∀i,i<ms.length->cw x.G (.byt (ms.getD i mk0).sig .no) (vm i 1):=fun i hi=>by have:=dm i 1 hi (by decide);rw[tY _ _ hi]at this;exact this
 have hw:=Si.w32 w t.au.length ms.length (MQ t) (Pw ms) (fun i=>slA (va i 1)) (fun j=>slA (vm j 1)) (fun i=>slN (va i 1)) (fun i=>slC (va i 1)) (fun j=>slN (vm j 1)) (fun j=>slC (vm j 1)) (xcV t B ms) ba oa ca bm om cm t.thr (slA sb) (slN sb) (slC sb)
  hok.n2 hok.m2 hba hbm
  (fun i hi=>by have:=hper _ _ _ (ga i 0 hi (by decide));rw[a0 i hi]at this;exact this)
  (fun i hi=>by have:=hper _ _ _ (ga i 1 hi (by decide));rw[fD (a1 i hi)]at this;exact this)
  (fun i hi=>by have:=hper _ _ _ (gm i 0 hi (by decide));rw[m0 i hi]at this;exact this)
  (fun i hi=>by have:=hper _ _ _ (gm i 1 hi (by decide));rw[fD (m1 i hi)]at this;exact this)
  Si.srt (fun B1 v ss wr hl hrow=>Si.w59 B1 v ss wr (by have:=hok.n2;omega) hrow)
  (fun S hS h=>xaP _ _ _ _ _ S hS h)
  (fun i hi=>by
   have:=hok.ids _ (rD t.au au0 i hi);unfold MQ;simp only[Lit.wf,IntKind.min,IntKind.max,IntKind.signed,IntKind.bits,aA,decide_eq_true_eq];constructor
   ·exact this.1
   ·exact this.2)
  (fun i j wr hi hj hbw=>by have:=Bu hok.b2 hper hL (a1 i hi) hB (m1 j hj) wr hbw;rw[fD (a1 i hi),fD hB,fD (m1 j hj)]at this;exact this)
 refine hw.mono ?_;rintro e w' ⟨v,ss,B1,hB1,rfl,hrow,hnil,hnd,hmem,hb⟩;have hs:Si.srt ss=sgL t B ms:=tv hnd (lM _ _ _ _ _) hmem;rw[hs]at hrow;have hlen:(sgL t B ms).length=ss.length:=by rw[<-hs];simp[Si.srt]
 refine⟨v,rfl, ?_,hb⟩;show Rep _ (.lst 1 (isv (sgL t B ms)) .no) v;obtain⟨_,⟨rfl,h0⟩|⟨g,cap,cur,rfl,hbg,hg,hnc,hcm,hcs,htake⟩⟩:=hrow
 ·rw[ku (hlen.trans h0)]
  exact .dat _ _ (.lstN 1 .no) trivial
 ·refine .dat _ _ (.lst 1 _ .no g 0 cap ss.length (fun i _=> .int .i64 ((sgL t B ms).getD i 0)) (by rw[rx,hlen]) hnc (fun i hi=>by rw[AX _ _ (by omega)];rfl) (fun i j hi hj=> ?_) (fun i j hi hj=> ?_)) trivial
  ·have hj0:j=0:=by omega
   subst hj0;show(if w.heap.size<=g then w'.cell? ⟨g,0+i*1+0,none⟩else x.G g _)=_;rw[if_pos (by omega),show 0+i*1+0=i by omega,CR hg (by omega)];have h3:=congrArg (fun l:List Value=>l[i]?) htake;simp only[fH]at h3;have hi2:i<(sgL t B ms).length:=by omega
   rw[List.getElem?_take_of_lt hi,aO,ab hi2,bn,cD]at h3;rw[bg,h3,aa,ab hi2];rfl
  ·have hj0:j=0:=by omega
   subst hj0;rw[AX _ _ (by omega)];exact .int _ _
end
end
theorem Au.sv_inj{a b:Au}(h:a.sv=b.sv):a=b:=by obtain⟨d,k⟩:=a;obtain⟨d2,k2⟩:=b;simp[Au.sv]at h;obtain⟨rfl,rfl⟩:=h;rfl
theorem Mk.sv_inj{a b:Mk}(h:a.sv=b.sv):a=b:=by obtain⟨d,k⟩:=a;obtain⟨d2,k2⟩:=b;simp[Mk.sv]at h;obtain⟨rfl,rfl⟩:=h;rfl
theorem rp{α β:Type}{f:α->β}(hf:∀a b,f a=f b->a=b):∀{l m:List α},l.map f=m.map f->l=m
 |[],[],_=>rfl
 |[],_::_,h=>by simp at h
 |_::_,[],h=>by simp at h
 |a::l,b::m,h=>by simp only[aC,tg.injEq]at h;rw[hf a b h.1,rp hf h.2]
theorem Tr.sv_inj{a b:Tr}(h:a.sv=b.sv):a=b:=by obtain⟨d,k⟩:=a;obtain⟨d2,k2⟩:=b;simp only[Tr.sv,tg.injEq,SV.lst.injEq,SV.int.injEq,true_and,and_true]at h;rw[rp (fun _ _=>Au.sv_inj) h.1,h.2]
theorem A9{B C:List UInt8}{ms ns:List Mk}(h:dX B ms=dX C ns):B=C/\ms=ns:=by simp only[dX,tg.injEq,SV.lst.injEq,SV.byt.injEq,true_and,and_true]at h;exact⟨h.1,rp (fun _ _=>Mk.sv_inj) h.2⟩
def sgP(ar:List SV)(q:Tr×List UInt8×List Mk):Prop:=ar=[.agg q.1.sv,.agg (dX q.2.1 q.2.2)]/\DF q.1 q.2.1 q.2.2
open Classical in
noncomputable def p32(ar:List SV)(os:List aE)(k:Nat):Option dE:=
 if h:(∃q,sgP ar q)/\os=[]/\k=0 then some (sgR (Classical.choose h.1).1 (Classical.choose h.1).2.1 (Classical.choose h.1).2.2)else none
theorem xaO{t:Tr}{B:List UInt8}{ms:List Mk}(hok:DF t B ms):p32 [.agg t.sv,.agg (dX B ms)] [] 0=some (sgR t B ms):=by have hx:∃q,sgP [.agg t.sv,.agg (dX B ms)] q:=⟨(t,B,ms),rfl,hok⟩;unfold p32;rw[dif_pos ⟨hx,rfl,rfl⟩];have hs:=Classical.choose_spec hx;have e:=hs.1;simp only[tg.injEq,SV.agg.injEq,and_true]at e;rw[<-Tr.sv_inj e.1,<-(A9 e.2).1,<-(A9 e.2).2]
theorem xaN:∀ar os k q,p32 ar os k=some q->i6 Tryz.prog 32 ar os k (· =q):=by
 intro ar os k q h;unfold p32 at h;split at h
 ·rename_i hc
  have hs:=Classical.choose_spec hc.1;obtain⟨_,rfl,rfl⟩:=hc;generalize Classical.choose _=z at*;obtain⟨t,B,ms⟩:=z;obtain⟨rfl,hok⟩:=hs;cases h;exact ZV hok
 ·cases h
noncomputable def U:fi:=T.addP 32 p32
theorem Ru:Do T U:=DU T p32 rfl
theorem xjW:mA Tryz.prog U:=QX FS xaN
theorem up{g:Nat}{a:List SV}{os:List aE}{k:Nat}{q:dE}(h:call T g a os k=some q):call U g a os k=some q:=FB Ru h
theorem US(k:Nat):U.sg k=T.sg k:=rfl
theorem f32{t:Tr}{B:List UInt8}{ms:List Mk}(hok:DF t B ms):call U 32 [.agg t.sv,.agg (dX B ms)] [] 0=some ⟨.lst 1 (isv (sgL t B ms)) .no,[],[]⟩:=by have e:U.fn 32=some (.prim p32):=Bn T 32 p32;rw[ix e];exact xaO hok
theorem xl7:U.fn 11=some (.code F11):=Ru.fn 11 _ xmT
theorem MS:U.fn 34=some (.code F34):=Ru.fn 34 _ xmL
end Go.Proofs.YtkggincjigbelaaGreatDoor
