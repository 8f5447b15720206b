/- Functions of the library that are shown by walks. No condition. -/
import Derived.Test.YtbfnljmmepcbfaaGreatDoorVbPA
open Array renaming getD_eq_getD_getElem? -> aQ, getElem?_append_left -> b8, size_append -> cG
open List renaming getD_eq_getElem?_getD -> aa, getElem?_eq_getElem -> ac, getElem?_eq_some_iff -> nK, getElem?_toArray -> cU, getElem_of_mem -> bn, length_cons -> am, mem_singleton -> bw, range -> bA, size_toArray -> bT
open Nat renaming add_assoc -> ep, le_refl -> aK, mul_comm -> cB, mul_le_mul_right -> aX, zero_add -> bS
open Option renaming getD_some -> aM, ite_none_right_eq_some -> aG
set_option linter.unusedSectionVars false
set_option linter.unusedSimpArgs false
set_option linter.unusedVariables false
set_option linter.unusedSectionVars false
namespace Go.Proofs.YtbfnljmmepcbfaaGreatDoor
open Go.Sy
open Go.RowKit Go.ChangeShapes Go.WideShapes Go.Shelf Go.Lib
namespace Pr
section
variable [bf]
variable {P : Program} {x : Sit}
structure Z4(P:Program)(g:Nat)(el:TypeId)(sz:Nat):Prop where
 cb:dL P g=true
 nil:∀(w:World),Calls P g #[.slice none 0 0] w fun e w'=>e= .returned (.slice none 0 0)/\w'=w
 zero:∀(a:Addr)(c:Nat)(w:World),Calls P g #[.slice (some a) 0 c] w fun e w'=>(∃a',e= .returned (.slice (some a') 0 0))/\Below w.heap.size w w'
 some:∀(b off n c:Nat)(cs:List Value)(w:World),1<=n->n<=1000000->cs.length=n*sz->(∀j v,cs[j]? =some v->w.cell? ⟨b,off+j,none⟩=some v)->
  Calls P g #[.slice (some ⟨b,off,none⟩) n c] w fun e w'=>∃(G:Nat)(R:Array Value),n<=G/\R.size=G*sz/\e= .returned (.slice (some ⟨w.heap.size+1,0,none⟩) n G)/\
   w'=((w.alloc (.cells #[] el (0,0))).drew).alloc (.cells R el (0,0))/\∀k,k<n*sz->R.getD k Go.undef=cs.getD k Go.undef
theorem rC{g:Nat}{el:TypeId}{sz:Nat}(hI:Z4 P g el sz){t:Tok}:fz P g [.lst sz [] t] [] 0 (· =⟨.lst sz [] .clip,[],[]⟩):=by
 refine⟨hI.cb,fun C x w vs hw hG hm hl hwf hH hr=> ?_⟩;obtain⟨u0,rfl,r0⟩:=NM hr
 have hfin:∀(v:Value)(w1:World),co x.G (.lst sz [] .clip) v->(∃a n,v= .slice a n n)->Below w.heap.size w w1->∃v' x' q,(Ending.returned v:Ending)= .returned v'/\q=(⟨.lst sz [] .clip,[],[]⟩:dv)/\Rep x' q.r v'/\cX C x' q.os q.tk w1/\(∀p∈q.os,p.2.wf=true)/\∀i,i<([]:List aC).length->x'.bk i=x.bk i:=fun v w1 h h2 hb=>by refine⟨v,x,_,rfl,rfl,.dat _ _ h h2,hH.below hb, ?_,fun i hi=>rfl⟩;intro p hp;simp at hp
 cases r0 with
 |dat _ _ h _=>
  cases h with
  |lstN=>refine(hI.nil w).mono ?_;rintro e w1 ⟨rfl,rfl⟩;exact hfin _ _ (.lstN _ _) ⟨_,_,rfl⟩ (Below.refl _ _)
  |lstE _ _ a=>refine(hI.zero a 0 w).mono ?_;rintro e w1 ⟨⟨a',rfl⟩,hb⟩;exact hfin _ _ (.lstE _ _ _) ⟨_,_,rfl⟩ hb
  |lst _ _ _ b off cap n val hn hc hl hg h=>obtain rfl:n=0:=hn;refine(hI.zero _ cap w).mono ?_;rintro e w1 ⟨⟨a',rfl⟩,hb⟩;exact hfin _ _ (.lstE _ _ _) ⟨_,_,rfl⟩ hb
theorem rB{g:Nat}{el:TypeId}{sz:Nat}(hz:0<sz)(hI:Z4 P g el sz){rows:List (List SV)}{t:Tok}(h1:1<=rows.length)(hbig:rows.length<=1000000):
 fz P g [.lst sz rows t] [] 0 (· =⟨.psl 100 sz 0 rows.length none,[(100,.arr sz rows)],[]⟩):=by
 refine⟨hI.cb,fun C x w vs hw hG hm hl hwf hH hr=> ?_⟩;obtain⟨u0,rfl,r0⟩:=NM hr;cases r0 with
 |dat _ _ h _=>
  cases h with
  |lstN=>simp at h1
  |lstE _ _ a=>simp at h1
  |lst _ _ _ b off cap n val hn hc hl hg h=>
   subst hn
   have hrows:∀y∈rows,y.length=sz:=fun y hy=>by obtain⟨i,hi,rfl⟩:=bn hy;have:=hl i hi;rwa[aa,ac hi]at this
   obtain⟨cs,hcs⟩:∃cs:List Value,cs=(bA (rows.length*sz)).map fun k=>val (k/sz) (k % sz):=⟨_,rfl⟩
   have hcl:cs.length=rows.length*sz:=by rw[hcs];simp
   have hdm:∀k,k<rows.length*sz->k/sz<rows.length/\k % sz<sz/\(k/sz)*sz+k % sz=k:=fun k hk=>⟨(Nat.div_lt_iff_lt_mul hz).2 hk,Nat.mod_lt _ hz,by rw[cB];exact Nat.div_add_mod k sz⟩
   have hcg:∀k,k<rows.length*sz->cs.getD k Go.undef=val (k/sz) (k % sz):=fun k hk=>by rw[hcs,aa];simp[hk]
   have hcell:∀j v,cs[j]? =some v->w.cell? ⟨b,off+j,none⟩=some v:=fun j v hj=>by
    have hjn:j<rows.length*sz:=by rw[<-hcl];exact(nK.1 hj).1
    obtain⟨d1,d2,d3⟩:=hdm j hjn;have h2:=hH.per _ _ _ (hg _ _ d1 d2);have h3:=hcg j hjn;rw[aa,hj,aM]at h3;rw[ep,d3,<-h3]at h2;exact h2
   refine(hI.some b off rows.length cap cs w h1 hbig hcl hcell).mono ?_;rintro e w1 ⟨G,R,hG1,hG2,rfl,rfl,hR⟩;have hGs:rows.length*sz<=G*sz:=aX _ hG1;have hb1:Below w.heap.size w (w.alloc (.cells #[] el (0,0))).drew:=((Below.refl _ w).alloc (aK _) _).drew;have hH1:=hH.below hb1
   have hsz:(w.alloc (.cells #[] el (0,0))).drew.heap.size=w.heap.size+1:=by show(w.alloc (.cells #[] el (0,0))).heap.size=_;rw[World.size_alloc]
   have hd2:(x.newO 100 (w.alloc (.cells #[] el (0,0))).drew.heap.size (G*sz)).bk 100=((w.alloc (.cells #[] el (0,0))).drew.heap.size,G*sz):=gX _ _ _;refine⟨_,x.newO 100 (w.alloc (.cells #[] el (0,0))).drew.heap.size (G*sz),_,rfl,rfl, ?_, ?_, ?_,fun i hi=>by simp at hi⟩
   ·have:=Rep.psl (x:=x.newO 100 (w.alloc (.cells #[] el (0,0))).drew.heap.size (G*sz)) 100 sz 0 rows.length none 0 G (.inr (by omega)) hG1 (fun _ e=>by cases e) (fun _=> .inr (by rw[hd2];simp))
    rw[hd2]at this;rw[hsz]at this ⊢;exact this
   ·refine hH1.one ((Below.refl _ _).alloc (aK _) _) ⟨R,el,0,0,by rw[hd2];exact⟨Go.Sy.heap_alloc_new,fun i _ h=>by omega⟩,⟨by simp only[aC.size];omega,by rw[hd2,hG2];exact aK _,fun _ h=>by omega⟩,fun k hk=> ?_⟩
    simp only[aC.size]at hk;rw[D1 hz hrows hk,hR k hk,hcg k hk];obtain⟨d1,d2,d3⟩:=hdm k hk;rw[py hz hrows k hk];exact h _ _ d1 d2
   ·intro p hp
    rw[bw.1 hp];exact fF.2 hrows
theorem xdx:∀(w:World)(a:Option Addr)(n c n' c':Nat),(binOp .eql 27 (.slice a n c) (.slice none n' c')).run Tryz.prog w= .ok (.bool a.isNone) w:=fun w a n c n' c'=>Lib.run_eql_slice_nil w _ _ a n c n' c' Tryz.underlying27
set_option maxHeartbeats 8000000 in
set_option maxRecDepth 100000 in
theorem OX(w:World):Calls Tryz.prog 87 #[.slice none 0 0] w fun e w'=>e= .returned (.slice none 0 0)/\w'=w:=by
 have ey:=ey;have t0:=Tryz.underlying0;have a0:=a_0;have z0:=z_0;have v0:=v_0;have u0:=run_underlying Tryz.underlying0;have t3:=Tryz.underlying3;have a3:=a_3;have z3:=z_3;have v3:=v_3;have u3:=run_underlying Tryz.underlying3;have t4:=Tryz.underlying4;have a4:=a_4;have z4:=z_4;have v4:=v_4;have u4:=run_underlying Tryz.underlying4;have t67:=Tryz.underlying67;have a67:=El;have z67:=zL;have v67:=wj;have u67:=run_underlying Tryz.underlying67;have t27:=Tryz.underlying27;have a27:=En;have z27:=D8;have v27:=Ea;have u27:=run_underlying Tryz.underlying27;have q27:=xdx
 go_enter Tryz.func87,Tryz.ntmps87
 go_wp2
 go_ret
 exact⟨rfl,rfl⟩
set_option maxHeartbeats 8000000 in
set_option maxRecDepth 100000 in
theorem EI(a:Addr)(c:Nat)(w:World):Calls Tryz.prog 87 #[.slice (some a) 0 c] w fun e w'=>(∃a',e= .returned (.slice (some a') 0 0))/\Below w.heap.size w w':=by
 have ey:=ey;have t0:=Tryz.underlying0;have a0:=a_0;have z0:=z_0;have v0:=v_0;have u0:=run_underlying Tryz.underlying0;have t3:=Tryz.underlying3;have a3:=a_3;have z3:=z_3;have v3:=v_3;have u3:=run_underlying Tryz.underlying3;have t4:=Tryz.underlying4;have a4:=a_4;have z4:=z_4;have v4:=v_4;have u4:=run_underlying Tryz.underlying4;have t67:=Tryz.underlying67;have a67:=El;have z67:=zL;have v67:=wj;have u67:=run_underlying Tryz.underlying67;have t27:=Tryz.underlying27;have a27:=En;have z27:=D8;have v27:=Ea;have u27:=run_underlying Tryz.underlying27;have q27:=xdx;obtain⟨i0,hi0,hz0,hzs,hzb⟩:=info_parts Ra
 have hrun:∀(W:World)(b:Option Addr) ty,(Builtin.append_ #[27,27] ty #[.slice b 0 0,.slice (some a) 0 c]).run Tryz.prog W= .ok (.slice b 0 0) W:=fun W b ty=>ew (P:=Tryz.prog) (t:=27) (u:=27) (ty:=ty) (w:=W) (w1:=W) (bs:=b) (len:=0) (m:=0) (cap:=0) (ns:=[]) Tryz.underlying27 Tryz.underlying27 (.inl ⟨_,rfl⟩) DG rfl (run_firstCells_some W 7 0 a 0 c [] (by simp) (fun j v hj=>by simp at hj)) (by omega) (by cases b<;>simp[storeCells])
 go_enter Tryz.func87,Tryz.ntmps87
 go_wp2_with (at_builtin;refine Lib.wpList_append_run _ rfl _ _ _ _ rfl _ _ rfl rfl _ _ (hrun _ _ _) ?_)
 go_ret
 exact⟨⟨_,rfl⟩,(Below.refl _ w).alloc (aK _) _⟩
set_option maxHeartbeats 8000000 in
set_option maxRecDepth 100000 in
theorem EJ(b off n c:Nat)(cs:List Value)(w:World)(h1:1<=n)(hbig:n<=1000000)(hcl:cs.length=n*7)(hcs:∀j v,cs[j]? =some v->w.cell? ⟨b,off+j,none⟩=some v):
 Calls Tryz.prog 87 #[.slice (some ⟨b,off,none⟩) n c] w fun e w'=>∃nc,n<=nc/\e= .returned (.slice (some ⟨w.heap.size+1,0,none⟩) n nc)/\
  w'=((w.alloc (.cells #[] 67 (0,0))).drew).alloc (.cells (cs.toArray++Builtin.zeroCells fL.cells (nc-n)) 67 (0,0)):=by
 have ey:=ey;have t0:=Tryz.underlying0;have a0:=a_0;have z0:=z_0;have v0:=v_0;have u0:=run_underlying Tryz.underlying0;have t3:=Tryz.underlying3;have a3:=a_3;have z3:=z_3;have v3:=v_3;have u3:=run_underlying Tryz.underlying3;have t4:=Tryz.underlying4;have a4:=a_4;have z4:=z_4;have v4:=v_4;have u4:=run_underlying Tryz.underlying4;have t67:=Tryz.underlying67;have a67:=El;have z67:=zL;have v67:=wj;have u67:=run_underlying Tryz.underlying67;have t27:=Tryz.underlying27;have a27:=En;have z27:=D8;have v27:=Ea;have u27:=run_underlying Tryz.underlying27;have q27:=xdx;obtain⟨i0,hi0,hz0,hzs,hzb⟩:=info_parts Ra;obtain⟨W1,hW1⟩:∃W1,W1=w.alloc (.cells #[] 67 (0,0)):=⟨_,rfl⟩;have hsz:W1.heap.size=w.heap.size+1:=by rw[hW1,World.size_alloc]
 have hold:∀w':World,w'.heap=W1.heap->(Builtin.firstCells 7 0 (.slice (some ⟨w.heap.size,0,none⟩) 0 0)).run Tryz.prog w'= .ok ([]:List Value).toArray w':=fun w' hw'=>run_firstCells_some w' 7 0 _ 0 0 [] (by simp) (fun j v hj=>by simp at hj)
 have hnew:∀w':World,w'.heap=W1.heap->(Builtin.firstCells 7 n (.slice (some ⟨b,off,none⟩) n c)).run Tryz.prog w'= .ok cs.toArray w':=fun w' hw'=>
  run_firstCells_some w' 7 n _ n c cs hcl (fun j v hj=>by
   rw[dI];have h2:W1.cell? ⟨b,off+j,none⟩=some v:=by rw[hW1];exact Lib.cell?_alloc_some _ (hcs j v hj)
   simpa only[World.cell?,hw']using h2)
 obtain⟨nc,hnc2,hrun⟩:=eK (P:=Tryz.prog) (w:=W1) (t:=27) (u:=27) (ty:=27) (Y:= .slice (some ⟨b,off,none⟩) n c) (bs:=some ⟨w.heap.size,0,none⟩) (len:=0) (m:=n) (cap:=0) (os:=[]) (ns:=cs) (by_:=96) (z:=fL) (i:=i0) Tryz.underlying27 Tryz.underlying27 (.inl ⟨_,rfl⟩) DG hi0 hzb (by decide) wj (fun _ _=>rfl) hnew hold (by omega) (by omega);rw[bS]at hnc2 hrun;rw[hsz]at hrun;have e0:([]:List Value).toArray++cs.toArray=cs.toArray:=by simp
 rw[e0]at hrun;have hrun':∀ty,(Builtin.append_ #[27,27] ty #[.slice (some ⟨w.heap.size,0,none⟩) 0 0,.slice (some ⟨b,off,none⟩) n c]).run Tryz.prog W1= .ok (.slice (some ⟨w.heap.size+1,0,none⟩) n nc) (W1.drew.alloc (.cells (cs.toArray++Builtin.zeroCells fL.cells (nc-n)) 67 (0,0))):=fun ty=>hrun
 refine Calls.mono (R:=fun e w'=>e= .returned (.slice (some ⟨w.heap.size+1,0,none⟩) n nc)/\w'=W1.drew.alloc (.cells (cs.toArray++Builtin.zeroCells fL.cells (nc-n)) 67 (0,0))) ?_ (fun e w' h=>⟨nc,hnc2,h.1,by rw[<-hW1];exact h.2⟩);obtain⟨ROW,hROW⟩:∃ROW:Array Value,ROW=cs.toArray++Builtin.zeroCells fL.cells (nc-n):=⟨_,rfl⟩;rw[<-hROW]at hrun' ⊢;clear hROW hrun hnew hold;subst hW1
 go_enter Tryz.func87,Tryz.ntmps87
 go_wp2_with (at_builtin;refine Lib.wpList_append_run _ rfl _ _ _ _ rfl _ _ rfl rfl _ _ (hrun' _) ?_)
 go_ret
 exact⟨rfl,rfl⟩
theorem BQ:Z4 Tryz.prog 87 67 7 where
 cb:=by kernel_rfl
 nil:=OX
 zero:=EI
 some:=fun b off n c cs w h1 hbig hcl hcs=>by
  refine(EJ b off n c cs w h1 hbig hcl hcs).mono ?_;rintro e w' ⟨nc,hge,rfl,rfl⟩;have hzsz:fL.cells.size=7:=rfl;refine⟨nc,_,hge, ?_,rfl,rfl,fun k hk=> ?_⟩
  ·simp only[cG,bV,hzsz,bT,hcl]
   omega
  ·rw[aQ,b8 (by simp only[bT,hcl];omega),cU,<-aa]
def p87:List SV->List aC->Nat->Option dv
 |[.lst 7 [] t],[],0=>some ⟨.lst 7 [] .clip,[],[]⟩
 |[.lst 7 (r::rows) t],[],0=>if rows.length<=999999 then some ⟨.psl 100 7 0 (rows.length+1) none,[(100,.arr 7 (r::rows))],[]⟩else none
 |_,_,_=>none
theorem p87_ok:∀ar os k q,p87 ar os k=some q->fz Tryz.prog 87 ar os k (· =q):=by
 intro ar os k q h;unfold p87 at h;split at h
 ·cases h
  exact rC BQ
 ·rename_i r rows t
  rw[aG]at h;obtain⟨h1,h⟩:=h;cases h;have:=rB (P:=Tryz.prog) (by decide) BQ (rows:=r::rows) (t:=t) (by simp) (by simp only[am];omega);simpa only[am]using this
 ·cases h
theorem xdw:∀(w:World)(a:Option Addr)(n c n' c':Nat),(binOp .eql 28 (.slice a n c) (.slice none n' c')).run Tryz.prog w= .ok (.bool a.isNone) w:=fun w a n c n' c'=>Lib.run_eql_slice_nil w _ _ a n c n' c' Tryz.underlying28
set_option maxHeartbeats 8000000 in
set_option maxRecDepth 100000 in
theorem OV(w:World):Calls Tryz.prog 91 #[.slice none 0 0] w fun e w'=>e= .returned (.slice none 0 0)/\w'=w:=by
 have ey:=ey;have t0:=Tryz.underlying0;have a0:=a_0;have z0:=z_0;have v0:=v_0;have u0:=run_underlying Tryz.underlying0;have t3:=Tryz.underlying3;have a3:=a_3;have z3:=z_3;have v3:=v_3;have u3:=run_underlying Tryz.underlying3;have t4:=Tryz.underlying4;have a4:=a_4;have z4:=z_4;have v4:=v_4;have u4:=run_underlying Tryz.underlying4;have t70:=Tryz.underlying70;have a70:=Ek;have z70:=zK;have v70:=wi;have u70:=run_underlying Tryz.underlying70;have t28:=Tryz.underlying28;have a28:=Em;have z28:=D7;have v28:=D9;have u28:=run_underlying Tryz.underlying28;have q28:=xdw
 go_enter Tryz.func91,Tryz.ntmps91
 go_wp2
 go_ret
 exact⟨rfl,rfl⟩
set_option maxHeartbeats 8000000 in
set_option maxRecDepth 100000 in
theorem EE(a:Addr)(c:Nat)(w:World):Calls Tryz.prog 91 #[.slice (some a) 0 c] w fun e w'=>(∃a',e= .returned (.slice (some a') 0 0))/\Below w.heap.size w w':=by
 have ey:=ey;have t0:=Tryz.underlying0;have a0:=a_0;have z0:=z_0;have v0:=v_0;have u0:=run_underlying Tryz.underlying0;have t3:=Tryz.underlying3;have a3:=a_3;have z3:=z_3;have v3:=v_3;have u3:=run_underlying Tryz.underlying3;have t4:=Tryz.underlying4;have a4:=a_4;have z4:=z_4;have v4:=v_4;have u4:=run_underlying Tryz.underlying4;have t70:=Tryz.underlying70;have a70:=Ek;have z70:=zK;have v70:=wi;have u70:=run_underlying Tryz.underlying70;have t28:=Tryz.underlying28;have a28:=Em;have z28:=D7;have v28:=D9;have u28:=run_underlying Tryz.underlying28;have q28:=xdw;obtain⟨i0,hi0,hz0,hzs,hzb⟩:=info_parts QZ
 have hrun:∀(W:World)(b:Option Addr) ty,(Builtin.append_ #[28,28] ty #[.slice b 0 0,.slice (some a) 0 c]).run Tryz.prog W= .ok (.slice b 0 0) W:=fun W b ty=>ew (P:=Tryz.prog) (t:=28) (u:=28) (ty:=ty) (w:=W) (w1:=W) (bs:=b) (len:=0) (m:=0) (cap:=0) (ns:=[]) Tryz.underlying28 Tryz.underlying28 (.inl ⟨_,rfl⟩) DF rfl (run_firstCells_some W 2 0 a 0 c [] (by simp) (fun j v hj=>by simp at hj)) (by omega) (by cases b<;>simp[storeCells])
 go_enter Tryz.func91,Tryz.ntmps91
 go_wp2_with (at_builtin;refine Lib.wpList_append_run _ rfl _ _ _ _ rfl _ _ rfl rfl _ _ (hrun _ _ _) ?_)
 go_ret
 exact⟨⟨_,rfl⟩,(Below.refl _ w).alloc (aK _) _⟩
set_option maxHeartbeats 8000000 in
set_option maxRecDepth 100000 in
theorem EF(b off n c:Nat)(cs:List Value)(w:World)(h1:1<=n)(hbig:n<=1000000)(hcl:cs.length=n*2)(hcs:∀j v,cs[j]? =some v->w.cell? ⟨b,off+j,none⟩=some v):
 Calls Tryz.prog 91 #[.slice (some ⟨b,off,none⟩) n c] w fun e w'=>∃nc,n<=nc/\e= .returned (.slice (some ⟨w.heap.size+1,0,none⟩) n nc)/\
  w'=((w.alloc (.cells #[] 70 (0,0))).drew).alloc (.cells (cs.toArray++Builtin.zeroCells fK.cells (nc-n)) 70 (0,0)):=by
 have ey:=ey;have t0:=Tryz.underlying0;have a0:=a_0;have z0:=z_0;have v0:=v_0;have u0:=run_underlying Tryz.underlying0;have t3:=Tryz.underlying3;have a3:=a_3;have z3:=z_3;have v3:=v_3;have u3:=run_underlying Tryz.underlying3;have t4:=Tryz.underlying4;have a4:=a_4;have z4:=z_4;have v4:=v_4;have u4:=run_underlying Tryz.underlying4;have t70:=Tryz.underlying70;have a70:=Ek;have z70:=zK;have v70:=wi;have u70:=run_underlying Tryz.underlying70;have t28:=Tryz.underlying28;have a28:=Em;have z28:=D7;have v28:=D9;have u28:=run_underlying Tryz.underlying28;have q28:=xdw;obtain⟨i0,hi0,hz0,hzs,hzb⟩:=info_parts QZ;obtain⟨W1,hW1⟩:∃W1,W1=w.alloc (.cells #[] 70 (0,0)):=⟨_,rfl⟩;have hsz:W1.heap.size=w.heap.size+1:=by rw[hW1,World.size_alloc]
 have hold:∀w':World,w'.heap=W1.heap->(Builtin.firstCells 2 0 (.slice (some ⟨w.heap.size,0,none⟩) 0 0)).run Tryz.prog w'= .ok ([]:List Value).toArray w':=fun w' hw'=>run_firstCells_some w' 2 0 _ 0 0 [] (by simp) (fun j v hj=>by simp at hj)
 have hnew:∀w':World,w'.heap=W1.heap->(Builtin.firstCells 2 n (.slice (some ⟨b,off,none⟩) n c)).run Tryz.prog w'= .ok cs.toArray w':=fun w' hw'=>
  run_firstCells_some w' 2 n _ n c cs hcl (fun j v hj=>by
   rw[dI];have h2:W1.cell? ⟨b,off+j,none⟩=some v:=by rw[hW1];exact Lib.cell?_alloc_some _ (hcs j v hj)
   simpa only[World.cell?,hw']using h2)
 obtain⟨nc,hnc2,hrun⟩:=eK (P:=Tryz.prog) (w:=W1) (t:=28) (u:=28) (ty:=28) (Y:= .slice (some ⟨b,off,none⟩) n c) (bs:=some ⟨w.heap.size,0,none⟩) (len:=0) (m:=n) (cap:=0) (os:=[]) (ns:=cs) (by_:=32) (z:=fK) (i:=i0) Tryz.underlying28 Tryz.underlying28 (.inl ⟨_,rfl⟩) DF hi0 hzb (by decide) wi (fun _ _=>rfl) hnew hold (by omega) (by omega);rw[bS]at hnc2 hrun;rw[hsz]at hrun;have e0:([]:List Value).toArray++cs.toArray=cs.toArray:=by simp
 rw[e0]at hrun;have hrun':∀ty,(Builtin.append_ #[28,28] ty #[.slice (some ⟨w.heap.size,0,none⟩) 0 0,.slice (some ⟨b,off,none⟩) n c]).run Tryz.prog W1= .ok (.slice (some ⟨w.heap.size+1,0,none⟩) n nc) (W1.drew.alloc (.cells (cs.toArray++Builtin.zeroCells fK.cells (nc-n)) 70 (0,0))):=fun ty=>hrun
 refine Calls.mono (R:=fun e w'=>e= .returned (.slice (some ⟨w.heap.size+1,0,none⟩) n nc)/\w'=W1.drew.alloc (.cells (cs.toArray++Builtin.zeroCells fK.cells (nc-n)) 70 (0,0))) ?_ (fun e w' h=>⟨nc,hnc2,h.1,by rw[<-hW1];exact h.2⟩);obtain⟨ROW,hROW⟩:∃ROW:Array Value,ROW=cs.toArray++Builtin.zeroCells fK.cells (nc-n):=⟨_,rfl⟩;rw[<-hROW]at hrun' ⊢;clear hROW hrun hnew hold;subst hW1
 go_enter Tryz.func91,Tryz.ntmps91
 go_wp2_with (at_builtin;refine Lib.wpList_append_run _ rfl _ _ _ _ rfl _ _ rfl rfl _ _ (hrun' _) ?_)
 go_ret
 exact⟨rfl,rfl⟩
theorem BP:Z4 Tryz.prog 91 70 2 where
 cb:=by kernel_rfl
 nil:=OV
 zero:=EE
 some:=fun b off n c cs w h1 hbig hcl hcs=>by
  refine(EF b off n c cs w h1 hbig hcl hcs).mono ?_;rintro e w' ⟨nc,hge,rfl,rfl⟩;have hzsz:fK.cells.size=2:=rfl;refine⟨nc,_,hge, ?_,rfl,rfl,fun k hk=> ?_⟩
  ·simp only[cG,bV,hzsz,bT,hcl]
   omega
  ·rw[aQ,b8 (by simp only[bT,hcl];omega),cU,<-aa]
def p91:List SV->List aC->Nat->Option dv
 |[.lst 2 [] t],[],0=>some ⟨.lst 2 [] .clip,[],[]⟩
 |[.lst 2 (r::rows) t],[],0=>if rows.length<=999999 then some ⟨.psl 100 2 0 (rows.length+1) none,[(100,.arr 2 (r::rows))],[]⟩else none
 |_,_,_=>none
theorem p91_ok:∀ar os k q,p91 ar os k=some q->fz Tryz.prog 91 ar os k (· =q):=by
 intro ar os k q h;unfold p91 at h;split at h
 ·cases h
  exact rC BP
 ·rename_i r rows t
  rw[aG]at h;obtain⟨h1,h⟩:=h;cases h;have:=rB (P:=Tryz.prog) (by decide) BP (rows:=r::rows) (t:=t) (by simp) (by simp only[am];omega);simpa only[am]using this
 ·cases h
end
end Pr
end Go.Proofs.YtbfnljmmepcbfaaGreatDoor