/- Contracts. No condition. -/
import Derived.Test.YtmhhnklkcmpdkaaGreatDoorTiPA
open Go.IntKind renaming i64 -> ai
open List renaming getD_eq_getElem?_getD -> aa, getElem?_eq_getElem -> ab, getElem_mem -> aU, mem_cons -> al, mem_cons_of_mem -> af, mem_cons_self -> aq, mem_map -> aT, mem_range -> kr, range -> bQ
open Nat renaming add_assoc -> eU, add_zero -> bW, zero_mul -> jx
open UInt8 renaming ofNat -> aQ
set_option maxRecDepth 100000
set_option linter.unusedSectionVars false
set_option maxHeartbeats 16000000
set_option linter.unusedSimpArgs false
set_option linter.unusedVariables false
namespace Go.Proofs.YtmhhnklkcmpdkaaGreatDoor
open Go.Sy
open UInt8 renaming reduceLT -> Q0, reduceLE -> Q1
open Int renaming reduceToNat -> Q2, reduceLE -> Q3, reduceLT -> Q4, reduceEq -> Q5, reduceNe -> Q6, reduceNeg -> Q7, reduceAdd -> Q8, reduceSub -> Q9, reduceMul -> Qa
open Nat renaming reducePow -> Qb, reduceDiv -> Qc, reduceMod -> Qd, reduceAdd -> Qe, reduceSub -> Qf, reduceMul -> Qg, reduceLT -> Qh, reduceLeDiff -> Qi, reduceEqDiff -> Qj, reduceBEq -> Qk
end Go.Proofs.YtmhhnklkcmpdkaaGreatDoor
namespace Go.Sy
open Go.ChangeShapes Go.WideShapes
section
variable {H : Type} {enc : TypeId × Value -> H} {P : Program} {w : World} {base : Nat} {hd : Bool} {r : Reach} {b0 : Nat} {t e : TypeId} {v : Value} {d : DataW H} {ps : List MemPlace}
theorem mr{a:Addr}{v:Value}(h:w.cell? a=some v):a.spot=none:=by
 unfold World.cell? at h;split at h
 ·by_cases y:a.spot.isSome=true
  ·rw[if_pos y]at h;cases h
  ·simpa using y
 ·cases h
theorem sU(a:Addr):a.add 0=a:=by unfold Addr.add;rw[if_pos rfl]
variable [aW]
theorem mb{C:Nat}{v:Value}{x:DataW H×List MemPlace}(Q:P.underlying t=some (.slice e))(he:P.underlying e=some (.int .u8))(O:P.cellsOf e=1)(h:DataW.trod enc P w base (fun _=>true) hd C t [v]=some x):
 ∃l:d9,cy (kH w).G (.byt l .no) v:=by
 rcases open_ints Q he O h with⟨y,_⟩|⟨a,len,cap,zs,y,_,hl,hm,hz,_,hcell,hwf⟩
 ·obtain rfl:v= .slice none 0 0:=by simpa using y
  exact⟨[],.bytN .no⟩
 ·obtain rfl:v= .slice (some a) len cap:=by simpa using y
  simp only[if_true]at hz
  by_cases J:cap=0
  ·obtain rfl:len=0:=by omega
   subst J;exact⟨[],.bytE .no a⟩
  ·have E:a.spot=none:=by
    have:=mr (hcell 0 (by omega));rwa[sU]at this
   obtain⟨b,off,F⟩:=a;simp only at E;subst E;refine⟨(zs.take len).map fun n=>aQ n.toNat,.byt _ .no b off cap len (by simp;omega) hl (fun i hi=> ?_)⟩;have I:=hcell i (by omega);have z:i<zs.length:=by omega
   rw[add_plain]at I
   have L:((zs.take len).map fun n=>aQ n.toNat).getD i 0=aQ (zs.getD i 0).toNat:=by simp[aa,z,hi]
   show w.cell? _=_;rw[I,L]
   congr 2
   refine(GK (hwf _ ?_)).symm;rw[aa,ab z];exact aU z
omit [aW] in
theorem ly{K:t6->Prop}{c:Nat}(Z:0<c){F:Nat}{v:Value}{x:DataW H×List MemPlace}(ht:P.underlying t=some (.slice e))(ce:P.cellsOf e=c)
 (W:∀(n:Nat)(cs:LAa)(y:DataW H×List MemPlace),cs.length=c->DataW.trod enc P w base (fun _=>true) hd n e cs=some y->∃q:t6,K q/\q.length=c/\∀j,j<c->cy (kH w).G (q.getD j .undef) (cs.getD j Go.undef))
 (h:DataW.trod enc P w base (fun _=>true) hd F t [v]=some x):
 ∃l:d8,(∀q∈l,K q)/\cy (kH w).G (.lst c l .no) v:=by
 rcases Go.Deep.open_slice ht h with⟨E,_⟩|⟨a,len,cap,m,n,D,Pl,E,_,hl,hm,hmm,_,hx⟩
 ·obtain rfl:v= .slice none 0 0:=by simpa using E
  exact⟨[],fun q Q=>(by cases Q),.lstN c .no⟩
 ·obtain rfl:v= .slice (some a) len cap:=by simpa using E
  simp only[if_true]at hmm;subst hmm
  by_cases h0:m=0
  ·obtain rfl:len=0:=by omega
   subst h0;exact⟨[],fun q Q=>(by cases Q),.lstE c .no a⟩
  ·have O:∀i,i<m->∃p:t6×LAa,K p.1/\p.1.length=c/\(∀j,j<c->cy (kH w).G (p.1.getD j .undef) (p.2.getD j Go.undef))/\∀j,j<c->w.cell? (a.add (i*c+j))=some (p.2.getD j Go.undef):=by
    intro i hi;obtain⟨J,h1,h2⟩:=hx i hi;rw[ce]at h1;obtain⟨_,I,C⟩:=World.cells?_some h1;obtain⟨q,k1,k2,k3⟩:=W n J _ I h2;refine⟨(q,J),k1,k2,k3,fun j T=> ?_⟩;have:=C j (by omega);rw[Go.Deep.add_add]at this;rw[this,aa,ab (by omega)];rfl
   obtain⟨p,L⟩:=Go.Deep.choose_lt O
   have hs:a.spot=none:=by have:=mr ((L 0 (by omega)).2.2.2 0 Z);rwa[jx,bW,sU]at this
   obtain⟨b,off,a1⟩:=a;simp only at hs;subst hs
   have z:∀i,i<len->((bQ len).map fun i=>(p i).1).getD i []=(p i).1:=fun i hi=>by simp[aa,hi]
   refine⟨(bQ len).map fun i=>(p i).1,fun q Q=> ?_,.lst c _ .no b off m len (fun i j=>(p i).2.getD j Go.undef) (by simp) hl (fun i hi=>by rw[z i hi];exact(L i (by omega)).2.1) (fun i j hi T=> ?_) (fun i j hi T=> ?_)⟩
   ·obtain⟨i,hi,rfl⟩:=aT.1 Q
    exact(L i (by have:=kr.1 hi;omega)).1
   ·have:=(L i (by omega)).2.2.2 j T
    rw[add_plain]at this;show w.cell? _=_;rw[eU];exact this
   ·rw[z i hi]
    exact(L i (by omega)).2.2.1 j T
def O4(q:t6):Prop:=∃(a:Int)(n:d9)(v:Int)(b:d9),q=[.int .i64 a,.str n,.int .i64 v,.byt b .no]
section
variable {fa fb fc fd : Field} (he : P.underlying e = some (.struct #[fa, fb, fc, fd])) (o0 : fa.offset = 0) (o1 : fb.offset = 1) (o2 : fc.offset = 2) (o3 : fd.offset = 3)
 (c0:P.cellsOf fa.type=1) (c1:P.cellsOf fb.type=1) (c2:P.cellsOf fc.type=1) (c3:P.cellsOf fd.type=1)
 (t0:P.underlying fa.type=some (.int .i64)) (t1:P.underlying fb.type=some .string) (t2:P.underlying fc.type=some (.int .i64))
include he o0 o1 o2 o3 c0 c1 c2 c3 t0 t1 t2
theorem QK{u:TypeId}(t3:P.underlying fd.type=some (.slice u))(hu:P.underlying u=some (.int .u8))(J:P.cellsOf u=1)(n:Nat)(cs:LAa)(y:DataW H×List MemPlace)(z:cs.length=4)(h:DataW.trod enc P w base (fun _=>true) hd n e cs=some y):
 ∃q:t6,O4 q/\q.length=4/\∀j,j<4->cy (kH w).G (q.getD j .undef) (cs.getD j Go.undef):=by
 obtain⟨I,k,_,_,_,E,C⟩:=DataW.trod_struct he h
 match cs,z,I,E with
 |[v0,v1,v2,v3],_,[y0,y1,y2,y3],_=>
  have g0:=C 0 fa rfl;have g1:=C 1 fb rfl;have F:=C 2 fc rfl;have g3:=C 3 fd rfl;simp[o0,o1,o2,o3,c0,c1,c2,c3]at g0 g1 F g3;obtain⟨a,W,_,_⟩:=DataW.trod_int t0 g0;obtain⟨⟨⟨s⟩⟩,L,_,_⟩:=DataW.trod_string t1 g1;obtain⟨c,Q,_,_⟩:=DataW.trod_int t2 F;obtain⟨l,T⟩:=mb t3 hu J g3;obtain rfl:v0= .int .i64 a:=by simpa using W
  obtain rfl:v1= .string ⟨⟨s⟩⟩:=by simpa using L
  obtain rfl:v2= .int .i64 c:=by simpa using Q
  refine⟨[.int .i64 a,.str s,.int .i64 c,.byt l .no],⟨a,s,c,l,rfl⟩,rfl,fun j O=> ?_⟩
  match j,O with
  |0,_=>exact .int _ _
  |1,_=>exact .str _
  |2,_=>exact .int _ _
  |3,_=>exact T
end
def xex(q:t6):Prop:=∃(a:Int)(b:d9),q=[.int .i64 a,.byt b .no]
theorem xbE{fa fb:Field}(he:P.underlying e=some (.struct #[fa,fb]))(o0:fa.offset=0)(o1:fb.offset=1)
 (c0:P.cellsOf fa.type=1) (c1:P.cellsOf fb.type=1) (t0:P.underlying fa.type=some (.int .i64)) {u:TypeId} (t1:P.underlying fb.type=some (.slice u)) (hu:P.underlying u=some (.int .u8)) (I:P.cellsOf u=1)
 (n:Nat) (cs:LAa) (y:DataW H×List MemPlace) (z:cs.length=2) (h:DataW.trod enc P w base (fun _=>true) hd n e cs=some y):
 ∃q:t6,xex q/\q.length=2/\∀j,j<2->cy (kH w).G (q.getD j .undef) (cs.getD j Go.undef):=by
 obtain⟨F,k,_,_,_,C,E⟩:=DataW.trod_struct he h
 match cs,z,F,C with
 |[v0,v1],_,[y0,y1],_=>
  have g0:=E 0 fa rfl;have g1:=E 1 fb rfl;simp[o0,o1,c0,c1]at g0 g1;obtain⟨a,O,_,_⟩:=DataW.trod_int t0 g0;obtain⟨l,L⟩:=mb t1 hu I g1;obtain rfl:v0= .int .i64 a:=by simpa using O
  refine⟨[.int .i64 a,.byt l .no],⟨a,l,rfl⟩,rfl,fun j J=> ?_⟩
  match j,J with
  |0,_=>exact .int _ _
  |1,_=>exact L
end
end Go.Sy
namespace Go.Proofs.YtmhhnklkcmpdkaaGreatDoor
open Go.Sy
open UInt8 renaming reduceLT -> Q0, reduceLE -> Q1
open Int renaming reduceToNat -> Q2, reduceLE -> Q3, reduceLT -> Q4, reduceEq -> Q5, reduceNe -> Q6, reduceNeg -> Q7, reduceAdd -> Q8, reduceSub -> Q9, reduceMul -> Qa
open Nat renaming reducePow -> Qb, reduceDiv -> Qc, reduceMod -> Qd, reduceAdd -> Qe, reduceSub -> Qf, reduceMul -> Qg, reduceLT -> Qh, reduceLeDiff -> Qi, reduceEqDiff -> Qj, reduceBEq -> Qk
section
theorem Ck:∀(l:d8),(∀q∈l,O4 q)->∃y:List Img,cZ y=l
 |[],_=>⟨[],rfl⟩
 |q::r,h=>by
  obtain⟨y,he⟩:=Ck r fun x z=>h x (af _ z)
  obtain⟨a,n,v,b,rfl⟩:=h q aq;exact⟨⟨a,n,v,b⟩::y,by rw[<-he];rfl⟩
theorem Nz:∀(l:d8),(∀q∈l,xex q)->∃y:List Mk,dZ y=l
 |[],_=>⟨[],rfl⟩
 |q::r,h=>by
  obtain⟨y,he⟩:=Nz r fun x z=>h x (af _ z)
  obtain⟨a,b,rfl⟩:=h q aq;exact⟨⟨a,b⟩::y,by rw[<-he];rfl⟩
def O3(q:t6):Prop:=∃s:Stp,q=s.sv
theorem AA:∀(l:d8),(∀q∈l,O3 q)->∃y:List Stp,dO y=l
 |[],_=>⟨[],rfl⟩
 |q::r,h=>by
  obtain⟨y,he⟩:=AA r fun x z=>h x (af _ z)
  obtain⟨a,rfl⟩:=h q aq;exact⟨a::y,by rw[<-he];rfl⟩
section
open Go.ChangeShapes Go.WideShapes
variable {H : Type} {enc : TypeId × Value -> H} {w : World} {base : Nat} {hd : Bool} {r : Reach} {b0 : Nat} {v : Value} {d : DataW H} {ps : List MemPlace}
theorem QI(n:Nat)(cs:LAa)(y:DataW H×List MemPlace)(L:cs.length=7)(h:DataW.trod enc Tryz.prog w base (fun _=>true) hd n 109 cs=some y):
 ∃q:t6,O3 q/\q.length=7/\∀j,j<7->cy (kH w).G (q.getD j .undef) (cs.getD j Go.undef):=by
 obtain⟨W,k,_,_,_,T,E⟩:=DataW.trod_struct Tryz.underlying109 h;have c3:Tryz.prog.cellsOf 3=1:=by kernel_rfl
 have c5:Tryz.prog.cellsOf 5=1:=by kernel_rfl
 have c9:Tryz.prog.cellsOf 9=1:=by kernel_rfl
 have z:Tryz.prog.cellsOf 23=1:=by kernel_rfl
 have O:Tryz.prog.cellsOf 74=1:=by kernel_rfl
 have c76:Tryz.prog.cellsOf 76=2:=by kernel_rfl
 have I:Tryz.prog.cellsOf 107=1:=by kernel_rfl
 have F:Tryz.prog.cellsOf 117=2:=by kernel_rfl
 have J:Tryz.prog.cellsOf 198=4:=by kernel_rfl
 have hx:W.length=6:=T
 match cs,L,W,hx with
 |[v0,v1,v2,v3,v4,v5,v6],_,[y0,y1,y2,y3,y4,y5],_=>
  have g0:=E 0 _ rfl;have g1:=E 1 _ rfl;have Z:=E 2 _ rfl;have g3:=E 3 _ rfl;have g4:=E 4 _ rfl;have g5:=E 5 _ rfl;simp[c3,c76,I]at g0 g1 Z g3 g4 g5;obtain⟨a0,e0,_,_⟩:=DataW.trod_int Tryz.underlying3 g0;obtain⟨a1,e1,_,_⟩:=DataW.trod_int Tryz.underlying3 g1;obtain⟨a2,e2,_,_⟩:=DataW.trod_int Tryz.underlying3 Z;obtain⟨a3,e3,_,_⟩:=DataW.trod_int Tryz.underlying3 g3;obtain rfl:v0= .int .i64 a0:=by simpa using e0
  obtain rfl:v1= .int .i64 a1:=by simpa using e1
  obtain rfl:v2= .int .i64 a2:=by simpa using e2
  obtain rfl:v3= .int .i64 a3:=by simpa using e3
  obtain⟨zs,k2,_,_,_,hzl,hz⟩:=DataW.trod_struct Tryz.underlying76 g4;have Q:zs.length=2:=hzl
  match zs,Q with
  |[z0,z1],_=>
   have m0:=hz 0 _ rfl;have m1:=hz 1 _ rfl;simp[z,O]at m0 m1;obtain⟨B,hB⟩:=mb Tryz.underlying23 Tryz.underlying5 c5 m0;obtain⟨lm,k1,r1⟩:=ly (K:=xex) (by decide:0<2) Tryz.underlying74 F (xbE Tryz.underlying117 rfl rfl c3 z Tryz.underlying3 Tryz.underlying23 Tryz.underlying5 c5) m1;obtain⟨li,k3,r3⟩:=ly (K:=O4) (by decide:0<4) Tryz.underlying107 J (QK Tryz.underlying198 rfl rfl rfl rfl c3 c9 c3 z Tryz.underlying3 Tryz.underlying9 Tryz.underlying3 Tryz.underlying23 Tryz.underlying5 c5) g5;obtain⟨M,rfl⟩:=Nz lm k1;obtain⟨C,rfl⟩:=Ck li k3;refine⟨(⟨a0,a1,a2,a3,B,M,C⟩:Stp).sv,⟨_,rfl⟩,rfl,fun j hj=> ?_⟩
   match j,hj with
   |0,_=>exact .int _ _
   |1,_=>exact .int _ _
   |2,_=>exact .int _ _
   |3,_=>exact .int _ _
   |4,_=>exact hB
   |5,_=>exact r1
   |6,_=>exact r3
theorem Gx(y:Value.okWide Tryz.prog w r b0 22 v)(h:DataW.Trod enc Tryz.prog w base (fun _=>true) hd 22 v d ps):∃l:List Stp,Rep (kH w) (.lst 7 (dO l) .no) v:=by
 obtain⟨a0,len,cap,rfl⟩:=okWide_slice Tryz.underlying22 y;obtain⟨E,F⟩:=h;simp only[Value.cells]at F;have I:Tryz.prog.cellsOf 109=7:=by kernel_rfl
 obtain⟨le,C,z⟩:=ly (K:=O3) (by decide:0<7) Tryz.underlying22 I QI F;obtain⟨l,rfl⟩:=AA le C;exact⟨l,.dat _ _ z trivial⟩
end
end
end Go.Proofs.YtmhhnklkcmpdkaaGreatDoor
namespace Go.Sy
open Go.ChangeShapes Go.WideShapes
section
variable {H : Type} {enc : TypeId × Value -> H} {P : Program} {w : World} {base : Nat} {hd : Bool} {r : Reach} {b0 : Nat} {t e : TypeId} {v : Value} {d : DataW H} {ps : List MemPlace}
variable [aW]
def xew(q:t6):Prop:=∃z:Int,(-9223372036854775808<=z/\z<=9223372036854775807)/\q=[.int .i64 z]
omit [aW] in
theorem xbD(t0:P.underlying e=some (.int .i64))(n:Nat)(cs:LAa)(y:DataW H×List MemPlace)(z:cs.length=1)(h:DataW.trod enc P w base (fun _=>true) hd n e cs=some y):
 ∃q:t6,xew q/\q.length=1/\∀j,j<1->cy (kH w).G (q.getD j .undef) (cs.getD j Go.undef):=by
 obtain⟨a,rfl,_,F⟩:=DataW.trod_int t0 h
 have E: -9223372036854775808<=a/\a<=9223372036854775807:=by
  have:ai.min<=a/\a<=9223372036854775807:=by simpa[Lit.wf]using F
  exact this
 refine⟨[.int .i64 a],⟨a,E,rfl⟩,rfl,fun j C=> ?_⟩
 match j,C with
 |0,_=>exact .int _ _
omit [aW] in
theorem Ny:∀(l:d8),(∀q∈l,xew q)->∃y:List Int,(∀z∈y, -9223372036854775808<=z/\z<=9223372036854775807)/\(y.map fun z=> [SV.int .i64 z])=l
 |[],_=>⟨[],(fun z hz=>by cases hz),rfl⟩
 |q::r,h=>by
  obtain⟨y,I,E⟩:=Ny r fun x C=>h x (af _ C)
  obtain⟨a,F,rfl⟩:=h q aq;refine⟨a::y,fun z hz=> ?_,by rw[<-E];rfl⟩;rcases al.1 hz with rfl|hz
  ·exact F
  ·exact I z hz
theorem Gy(I:P.underlying t=some (.slice e))(he:P.underlying e=some (.int .i64))(O:P.cellsOf e=1)(y:Value.okWide P w r b0 t v)(h:DataW.Trod enc P w base (fun _=>true) hd t v d ps):
 ∃l:List Int,(∀z∈l, -9223372036854775808<=z/\z<=9223372036854775807)/\Rep (kH w) (.lst 1 (l.map fun z=> [SV.int .i64 z]) .no) v:=by
 obtain⟨a0,len,cap,rfl⟩:=okWide_slice I y;obtain⟨F,J⟩:=h;simp only[Value.cells]at J;obtain⟨le,E,C⟩:=ly (K:=xew) (by decide:0<1) I O (xbD he) J;obtain⟨Q,L,rfl⟩:=Ny le E;exact⟨Q,L,.dat _ _ C trivial⟩
end
end Go.Sy
namespace Go.Proofs.YtmhhnklkcmpdkaaGreatDoor
open Go.Sy
open UInt8 renaming reduceLT -> Q0, reduceLE -> Q1
open Int renaming reduceToNat -> Q2, reduceLE -> Q3, reduceLT -> Q4, reduceEq -> Q5, reduceNe -> Q6, reduceNeg -> Q7, reduceAdd -> Q8, reduceSub -> Q9, reduceMul -> Qa
open Nat renaming reducePow -> Qb, reduceDiv -> Qc, reduceMod -> Qd, reduceAdd -> Qe, reduceSub -> Qf, reduceMul -> Qg, reduceLT -> Qh, reduceLeDiff -> Qi, reduceEqDiff -> Qj, reduceBEq -> Qk
end Go.Proofs.YtmhhnklkcmpdkaaGreatDoor
