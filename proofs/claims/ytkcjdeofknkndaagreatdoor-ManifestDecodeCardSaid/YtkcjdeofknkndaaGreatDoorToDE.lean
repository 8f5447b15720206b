/- Contracts. No condition. -/
import Derived.Test.YtkcjdeofknkndaaGreatDoorCoDE
import Derived.Deep.Slices
import Derived.KernelRfl
open Go.IntKind renaming i64 -> af
open List renaming getD_eq_getElem?_getD -> aa, getElem?_eq_getElem -> ab, mem_cons -> al, mem_cons_of_mem -> am, mem_cons_self -> ax, mem_map -> aR, mem_range -> jF, range -> bU
open Nat renaming add_assoc -> dH, add_zero -> dL, zero_mul -> gz
set_option maxRecDepth 100000
set_option maxHeartbeats 16000000
set_option linter.unusedSimpArgs false
set_option linter.unusedVariables false
set_option linter.unusedSectionVars false
namespace Go.Proofs.YtkcjdeofknkndaaGreatDoor
open Go.Sy
open UInt8 renaming reduceLT -> Q0, reduceLE -> Q1
open Int renaming reduceToNat -> Q2, reduceLE -> Q3, reduceLT -> Q4, reduceEq -> Q5, reduceNe -> Q6, reduceNeg -> Q7, reduceAdd -> Q8, reduceSub -> Q9, reduceMul -> Qa
open Nat renaming reducePow -> Qb, reduceDiv -> Qc, reduceMod -> Qd, reduceAdd -> Qe, reduceSub -> Qf, reduceMul -> Qg, reduceLT -> Qh, reduceLeDiff -> Qi, reduceEqDiff -> Qj, reduceBEq -> Qk
end Go.Proofs.YtkcjdeofknkndaaGreatDoor
namespace Go.Sy
open Go.ChangeShapes Go.WideShapes
section
variable {H : Type} {enc : TypeId × Value -> H} {P : Program} {w : World} {base : Nat} {hd : Bool} {r : Reach} {b0 : Nat} {t e : TypeId} {v : Value} {d : DataW H} {ps : List MemPlace}
theorem sd{a:Addr}{v:Value}(h:w.cell? a=some v):a.spot=none:=by
 unfold World.cell? at h;split at h
 ·by_cases y:a.spot.isSome=true
  ·rw[if_pos y]at h;cases h
  ·simpa using y
 ·cases h
theorem DZ(a:Addr):a.add 0=a:=by unfold Addr.add;rw[if_pos rfl]
variable [aX]
omit [aX] in
theorem Ds{K:LAa->Prop}{c:Nat}(U:0<c){F:Nat}{v:Value}{x:DataW H×List MemPlace}(ht:P.underlying t=some (.slice e))(ce:P.cellsOf e=c)
 (W:∀(n:Nat)(cs:LAd)(y:DataW H×List MemPlace),cs.length=c->DataW.trod enc P w base (fun _=>true) hd n e cs=some y->∃q:LAa,K q/\q.length=c/\∀j,j<c->cL (uB w).G (q.getD j .undef) (cs.getD j Go.undef))
 (h:DataW.trod enc P w base (fun _=>true) hd F t [v]=some x):
 ∃l:f8,(∀q∈l,K q)/\cL (uB w).G (.lst c l .no) v:=by
 rcases Go.Deep.open_slice ht h with⟨E,_⟩|⟨a,len,cap,m,n,D,Pl,E,_,hl,hm,hmm,_,hx⟩
 ·obtain rfl:v= .slice none 0 0:=by simpa using E
  exact⟨[],fun q J=>(by cases J),.lstN c .no⟩
 ·obtain rfl:v= .slice (some a) len cap:=by simpa using E
  simp only[if_true]at hmm;subst hmm
  by_cases h0:m=0
  ·obtain rfl:len=0:=by omega
   subst h0;exact⟨[],fun q J=>(by cases J),.lstE c .no a⟩
  ·have I:∀i,i<m->∃p:LAa×LAd,K p.1/\p.1.length=c/\(∀j,j<c->cL (uB w).G (p.1.getD j .undef) (p.2.getD j Go.undef))/\∀j,j<c->w.cell? (a.add (i*c+j))=some (p.2.getD j Go.undef):=by
    intro i hi;obtain⟨Q,Z,h2⟩:=hx i hi;rw[ce]at Z;obtain⟨_,L,C⟩:=World.cells?_some Z;obtain⟨q,k1,k2,k3⟩:=W n Q _ L h2;refine⟨(q,Q),k1,k2,k3,fun j T=> ?_⟩;have:=C j (by omega);rw[Go.Deep.add_add]at this;rw[this,aa,ab (by omega)];rfl
   obtain⟨p,O⟩:=Go.Deep.choose_lt I
   have hs:a.spot=none:=by have:=sd ((O 0 (by omega)).2.2.2 0 U);rwa[gz,dL,DZ]at this
   obtain⟨b,off,a0⟩:=a;simp only at hs;subst hs
   have z:∀i,i<len->((bU len).map fun i=>(p i).1).getD i []=(p i).1:=fun i hi=>by simp[aa,hi]
   refine⟨(bU len).map fun i=>(p i).1,fun q J=> ?_,.lst c _ .no b off m len (fun i j=>(p i).2.getD j Go.undef) (by simp) hl (fun i hi=>by rw[z i hi];exact(O i (by omega)).2.1) (fun i j hi T=> ?_) (fun i j hi T=> ?_)⟩
   ·obtain⟨i,hi,rfl⟩:=aR.1 J
    exact(O i (by have:=jF.1 hi;omega)).1
   ·have:=(O i (by omega)).2.2.2 j T
    rw[add_plain]at this;show w.cell? _=_;rw[dH];exact this
   ·rw[z i hi]
    exact(O i (by omega)).2.2.1 j T
section
variable {fa fb fc fd : Field} (he : P.underlying e = some (.struct #[fa, fb, fc, fd])) (o0 : fa.offset = 0) (o1 : fb.offset = 1) (o2 : fc.offset = 2) (o3 : fd.offset = 3)
 (c0:P.cellsOf fa.type=1) (c1:P.cellsOf fb.type=1) (c2:P.cellsOf fc.type=1) (c3:P.cellsOf fd.type=1)
 (t0:P.underlying fa.type=some (.int .i64)) (t1:P.underlying fb.type=some .string) (t2:P.underlying fc.type=some (.int .i64))
include he o0 o1 o2 o3 c0 c1 c2 c3 t0 t1 t2
end
end
end Go.Sy
namespace Go.Proofs.YtkcjdeofknkndaaGreatDoor
open Go.Sy
open UInt8 renaming reduceLT -> Q0, reduceLE -> Q1
open Int renaming reduceToNat -> Q2, reduceLE -> Q3, reduceLT -> Q4, reduceEq -> Q5, reduceNe -> Q6, reduceNeg -> Q7, reduceAdd -> Q8, reduceSub -> Q9, reduceMul -> Qa
open Nat renaming reducePow -> Qb, reduceDiv -> Qc, reduceMod -> Qd, reduceAdd -> Qe, reduceSub -> Qf, reduceMul -> Qg, reduceLT -> Qh, reduceLeDiff -> Qi, reduceEqDiff -> Qj, reduceBEq -> Qk
end Go.Proofs.YtkcjdeofknkndaaGreatDoor
namespace Go.Sy
open Go.ChangeShapes Go.WideShapes
section
variable {H : Type} {enc : TypeId × Value -> H} {P : Program} {w : World} {base : Nat} {hd : Bool} {r : Reach} {b0 : Nat} {t e : TypeId} {v : Value} {d : DataW H} {ps : List MemPlace}
variable [aX]
def xfN(q:LAa):Prop:=∃z:Int,(-9223372036854775808<=z/\z<=9223372036854775807)/\q=[.int .i64 z]
omit [aX] in
theorem xcQ(t0:P.underlying e=some (.int .i64))(n:Nat)(cs:LAd)(y:DataW H×List MemPlace)(z:cs.length=1)(h:DataW.trod enc P w base (fun _=>true) hd n e cs=some y):
 ∃q:LAa,xfN q/\q.length=1/\∀j,j<1->cL (uB w).G (q.getD j .undef) (cs.getD j Go.undef):=by
 obtain⟨a,rfl,_,C⟩:=DataW.trod_int t0 h
 have E: -9223372036854775808<=a/\a<=9223372036854775807:=by
  have:af.min<=a/\a<=9223372036854775807:=by simpa[Lit.wf]using C
  exact this
 refine⟨[.int .i64 a],⟨a,E,rfl⟩,rfl,fun j F=> ?_⟩
 match j,F with
 |0,_=>exact .int _ _
theorem OI:∀(l:f8),(∀q∈l,xfN q)->∃y:List Int,(∀z∈y, -9223372036854775808<=z/\z<=9223372036854775807)/\(y.map fun z=> [SV.int .i64 z])=l
 |[],_=>⟨[],(fun z hz=>by cases hz),rfl⟩
 |q::r,h=>by
  obtain⟨y,F,C⟩:=OI r fun x I=>h x (am _ I)
  obtain⟨a,E,rfl⟩:=h q ax;refine⟨a::y,fun z hz=> ?_,by rw[<-C];rfl⟩;rcases al.1 hz with rfl|hz
  ·exact E
  ·exact F z hz
theorem GD(F:P.underlying t=some (.slice e))(he:P.underlying e=some (.int .i64))(O:P.cellsOf e=1)(y:Value.okWide P w r b0 t v)(h:DataW.Trod enc P w base (fun _=>true) hd t v d ps):
 ∃l:List Int,(∀z∈l, -9223372036854775808<=z/\z<=9223372036854775807)/\Rep (uB w) (.lst 1 (l.map fun z=> [SV.int .i64 z]) .no) v:=by
 obtain⟨T,len,cap,rfl⟩:=okWide_slice F y;obtain⟨I,J⟩:=h;simp only[Value.cells]at J;obtain⟨le,E,C⟩:=Ds (K:=xfN) (by decide:0<1) F O (xcQ he) J;obtain⟨Q,L,rfl⟩:=OI le E;exact⟨Q,L,.dat _ _ C trivial⟩
end
end Go.Sy
namespace Go.Proofs.YtkcjdeofknkndaaGreatDoor
open Go.Sy
open UInt8 renaming reduceLT -> Q0, reduceLE -> Q1
open Int renaming reduceToNat -> Q2, reduceLE -> Q3, reduceLT -> Q4, reduceEq -> Q5, reduceNe -> Q6, reduceNeg -> Q7, reduceAdd -> Q8, reduceSub -> Q9, reduceMul -> Qa
open Nat renaming reducePow -> Qb, reduceDiv -> Qc, reduceMod -> Qd, reduceAdd -> Qe, reduceSub -> Qf, reduceMul -> Qg, reduceLT -> Qh, reduceLeDiff -> Qi, reduceEqDiff -> Qj, reduceBEq -> Qk
end Go.Proofs.YtkcjdeofknkndaaGreatDoor
