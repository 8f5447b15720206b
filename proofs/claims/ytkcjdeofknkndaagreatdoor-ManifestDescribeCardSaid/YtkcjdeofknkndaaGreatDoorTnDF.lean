/- Contracts. No condition. -/
import Derived.Test.YtkcjdeofknkndaaGreatDoorTgDF
open List renaming getD_eq_getElem?_getD -> aa, getElem?_eq_getElem -> ab, getElem_mem -> bn, mem_cons_of_mem -> an, mem_cons_self -> aw, mem_map -> aQ, mem_range -> jx, range -> bU
open Nat renaming add_assoc -> eB, add_zero -> dU, zero_mul -> iF
open UInt8 renaming ofNat -> ed
set_option maxRecDepth 100000
set_option maxHeartbeats 16000000
set_option linter.unusedSimpArgs false
set_option linter.unusedVariables false
set_option linter.unusedSectionVars false
namespace Go.Proofs.YtkcjdeofknkndaaGreatDoor
open Go.Sy
open UInt8 renaming reduceLT -> Q0, reduceLE -> Q1
open Int renaming reduceToNat -> Q2, reduceLE -> Q3, reduceLT -> Q4, reduceEq -> Q5, reduceNe -> Q6, reduceNeg -> Q7, reduceAdd -> Q8, reduceSub -> Q9, reduceMul -> Qa
open Nat renaming reducePow -> Qb, reduceDiv -> Qc, reduceMod -> Qd, reduceAdd -> Qe, reduceSub -> Qf, reduceMul -> Qg, reduceLT -> Qh, reduceLeDiff -> Qi, reduceEqDiff -> Qj, reduceBEq -> Qk
end Go.Proofs.YtkcjdeofknkndaaGreatDoor
namespace Go.Sy
open Go.ChangeShapes Go.WideShapes
section
variable {H : Type} {enc : TypeId × Value -> H} {P : Program} {w : World} {base : Nat} {hd : Bool} {r : Reach} {b0 : Nat} {t e : TypeId} {v : Value} {d : DataW H} {ps : List MemPlace}
theorem lw{a:Addr}{v:Value}(h:w.cell? a=some v):a.spot=none:=by
 unfold World.cell? at h;split at h
 ·by_cases y:a.spot.isSome=true
  ·rw[if_pos y]at h;cases h
  ·simpa using y
 ·cases h
theorem rC(a:Addr):a.add 0=a:=by unfold Addr.add;rw[if_pos rfl]
variable [ba]
theorem wi{C:Nat}{v:Value}{x:DataW H×List MemPlace}(Q:P.underlying t=some (.slice e))(he:P.underlying e=some (.int .u8))(J:P.cellsOf e=1)(h:DataW.trod enc P w base (fun _=>true) hd C t [v]=some x):
 ∃l:t6,cE (qD w).G (.byt l .no) v:=by
 rcases open_ints Q he J h with⟨z,_⟩|⟨a,len,cap,zs,z,_,hl,hm,hz,_,hcell,hwf⟩
 ·obtain rfl:v= .slice none 0 0:=by simpa using z
  exact⟨[],.bytN .no⟩
 ·obtain rfl:v= .slice (some a) len cap:=by simpa using z
  simp only[if_true]at hz
  by_cases L:cap=0
  ·obtain rfl:len=0:=by omega
   subst L;exact⟨[],.bytE .no a⟩
  ·have I:a.spot=none:=by
    have:=lw (hcell 0 (by omega));rwa[rC]at this
   obtain⟨b,off,F⟩:=a;simp only at I;subst I;refine⟨(zs.take len).map fun n=>ed n.toNat,.byt _ .no b off cap len (by simp;omega) hl (fun i hi=> ?_)⟩;have E:=hcell i (by omega);have y:i<zs.length:=by omega
   rw[add_plain]at E
   have O:((zs.take len).map fun n=>ed n.toNat).getD i 0=ed (zs.getD i 0).toNat:=by simp[aa,y,hi]
   show w.cell? _=_;rw[E,O]
   congr 2
   refine(Gj (hwf _ ?_)).symm;rw[aa,ab y];exact bn y
omit [ba] in
theorem CU{K:t7->Prop}{c:Nat}(W:0<c){Q:Nat}{v:Value}{x:DataW H×List MemPlace}(ht:P.underlying t=some (.slice e))(ce:P.cellsOf e=c)
 (U:∀(n:Nat)(cs:LAa)(y:DataW H×List MemPlace),cs.length=c->DataW.trod enc P w base (fun _=>true) hd n e cs=some y->∃q:t7,K q/\q.length=c/\∀j,j<c->cE (qD w).G (q.getD j .undef) (cs.getD j Go.undef))
 (h:DataW.trod enc P w base (fun _=>true) hd Q t [v]=some x):
 ∃l:f8,(∀q∈l,K q)/\cE (qD w).G (.lst c l .no) v:=by
 rcases Go.Deep.open_slice ht h with⟨E,_⟩|⟨a,len,cap,m,n,D,Pl,E,_,hl,hm,hmm,_,hx⟩
 ·obtain rfl:v= .slice none 0 0:=by simpa using E
  exact⟨[],fun q I=>(by cases I),.lstN c .no⟩
 ·obtain rfl:v= .slice (some a) len cap:=by simpa using E
  simp only[if_true]at hmm;subst hmm
  by_cases h0:m=0
  ·obtain rfl:len=0:=by omega
   subst h0;exact⟨[],fun q I=>(by cases I),.lstE c .no a⟩
  ·have L:∀i,i<m->∃p:t7×LAa,K p.1/\p.1.length=c/\(∀j,j<c->cE (qD w).G (p.1.getD j .undef) (p.2.getD j Go.undef))/\∀j,j<c->w.cell? (a.add (i*c+j))=some (p.2.getD j Go.undef):=by
    intro i hi;obtain⟨J,Z,h2⟩:=hx i hi;rw[ce]at Z;obtain⟨_,F,C⟩:=World.cells?_some Z;obtain⟨q,k1,k2,k3⟩:=U n J _ F h2;refine⟨(q,J),k1,k2,k3,fun j T=> ?_⟩;have:=C j (by omega);rw[Go.Deep.add_add]at this;rw[this,aa,ab (by omega)];rfl
   obtain⟨p,O⟩:=Go.Deep.choose_lt L
   have hs:a.spot=none:=by have:=lw ((O 0 (by omega)).2.2.2 0 W);rwa[iF,dU,rC]at this
   obtain⟨b,off,a0⟩:=a;simp only at hs;subst hs
   have z:∀i,i<len->((bU len).map fun i=>(p i).1).getD i []=(p i).1:=fun i hi=>by simp[aa,hi]
   refine⟨(bU len).map fun i=>(p i).1,fun q I=> ?_,.lst c _ .no b off m len (fun i j=>(p i).2.getD j Go.undef) (by simp) hl (fun i hi=>by rw[z i hi];exact(O i (by omega)).2.1) (fun i j hi T=> ?_) (fun i j hi T=> ?_)⟩
   ·obtain⟨i,hi,rfl⟩:=aQ.1 I
    exact(O i (by have:=jx.1 hi;omega)).1
   ·have:=(O i (by omega)).2.2.2 j T
    rw[add_plain]at this;show w.cell? _=_;rw[eB];exact this
   ·rw[z i hi]
    exact(O i (by omega)).2.2.1 j T
def N1(q:t7):Prop:=∃(a:Int)(n:t6)(v:Int)(b:t6),q=[.int .i64 a,.str n,.int .i64 v,.byt b .no]
section
variable {fa fb fc fd : Field} (he : P.underlying e = some (.struct #[fa, fb, fc, fd])) (o0 : fa.offset = 0) (o1 : fb.offset = 1) (o2 : fc.offset = 2) (o3 : fd.offset = 3)
 (c0:P.cellsOf fa.type=1) (c1:P.cellsOf fb.type=1) (c2:P.cellsOf fc.type=1) (c3:P.cellsOf fd.type=1)
 (t0:P.underlying fa.type=some (.int .i64)) (t1:P.underlying fb.type=some .string) (t2:P.underlying fc.type=some (.int .i64))
include he o0 o1 o2 o3 c0 c1 c2 c3 t0 t1 t2
theorem Pb{u:TypeId}(Q:P.underlying fd.type=some (.slice u))(hu:P.underlying u=some (.int .u8))(W:P.cellsOf u=1)(n:Nat)(cs:LAa)(y:DataW H×List MemPlace)(z:cs.length=4)(h:DataW.trod enc P w base (fun _=>true) hd n e cs=some y):
 ∃q:t7,N1 q/\q.length=4/\∀j,j<4->cE (qD w).G (q.getD j .undef) (cs.getD j Go.undef):=by
 obtain⟨T,k,_,_,_,E,C⟩:=DataW.trod_struct he h
 match cs,z,T,E with
 |[v0,v1,v2,v3],_,[y0,y1,y2,y3],_=>
  have g0:=C 0 fa rfl;have J:=C 1 fb rfl;have F:=C 2 fc rfl;have I:=C 3 fd rfl;simp[o0,o1,o2,o3,c0,c1,c2,c3]at g0 J F I;obtain⟨a,e0,_,_⟩:=DataW.trod_int t0 g0;obtain⟨⟨⟨s⟩⟩,U,_,_⟩:=DataW.trod_string t1 J;obtain⟨c,Z,_,_⟩:=DataW.trod_int t2 F;obtain⟨l,O⟩:=wi Q hu W I;obtain rfl:v0= .int .i64 a:=by simpa using e0
  obtain rfl:v1= .string ⟨⟨s⟩⟩:=by simpa using U
  obtain rfl:v2= .int .i64 c:=by simpa using Z
  refine⟨[.int .i64 a,.str s,.int .i64 c,.byt l .no],⟨a,s,c,l,rfl⟩,rfl,fun j L=> ?_⟩
  match j,L with
  |0,_=>exact .int _ _
  |1,_=>exact .str _
  |2,_=>exact .int _ _
  |3,_=>exact O
end
end
end Go.Sy
namespace Go.Proofs.YtkcjdeofknkndaaGreatDoor
open Go.Sy
open UInt8 renaming reduceLT -> Q0, reduceLE -> Q1
open Int renaming reduceToNat -> Q2, reduceLE -> Q3, reduceLT -> Q4, reduceEq -> Q5, reduceNe -> Q6, reduceNeg -> Q7, reduceAdd -> Q8, reduceSub -> Q9, reduceMul -> Qa
open Nat renaming reducePow -> Qb, reduceDiv -> Qc, reduceMod -> Qd, reduceAdd -> Qe, reduceSub -> Qf, reduceMul -> Qg, reduceLT -> Qh, reduceLeDiff -> Qi, reduceEqDiff -> Qj, reduceBEq -> Qk
section
theorem BO:∀(l:f8),(∀q∈l,N1 q)->∃es:List Img,dS es=l
 |[],_=>⟨[],rfl⟩
 |q::r,h=>by
  obtain⟨es,he⟩:=BO r fun x y=>h x (an _ y)
  obtain⟨a,n,v,b,rfl⟩:=h q aw;exact⟨⟨a,n,v,b⟩::es,by rw[<-he];rfl⟩
section
open Go.ChangeShapes Go.WideShapes
variable {H : Type} {enc : TypeId × Value -> H} {w : World} {base : Nat} {hd : Bool} {r : Reach} {b0 : Nat} {v : Value} {d : DataW H} {ps : List MemPlace}
theorem Gc(y:Value.okWide Tryz.prog w r b0 52 v)(h:DataW.Trod enc Tryz.prog w base (fun _=>true) hd 52 v d ps):∃l:List Img,Rep (qD w) (.lst 4 (dS l) .no) v:=by
 obtain⟨J,len,cap,rfl⟩:=okWide_slice Tryz.underlying52 y;obtain⟨E,F⟩:=h;simp only[Value.cells]at F;have c9:Tryz.prog.cellsOf 9=1:=by kernel_rfl
 have c3:Tryz.prog.cellsOf 3=1:=by kernel_rfl
 have c5:Tryz.prog.cellsOf 5=1:=by kernel_rfl
 have cb:Tryz.prog.cellsOf 26=1:=by kernel_rfl
 have I:Tryz.prog.cellsOf 70=4:=by kernel_rfl
 obtain⟨le,C,z⟩:=CU (K:=N1) (by decide:0<4) Tryz.underlying52 I (Pb Tryz.underlying70 rfl rfl rfl rfl c3 c9 c3 cb Tryz.underlying3 Tryz.underlying9 Tryz.underlying3 Tryz.underlying26 Tryz.underlying5 c5) F;obtain⟨l,rfl⟩:=BO le C;exact⟨l,.dat _ _ z trivial⟩
end
end
end Go.Proofs.YtkcjdeofknkndaaGreatDoor
