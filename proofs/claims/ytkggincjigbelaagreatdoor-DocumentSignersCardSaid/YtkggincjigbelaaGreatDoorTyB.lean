/- What the functions come to. No condition. -/
import Derived.Test.YtkggincjigbelaaGreatDoorTiB
import Derived.Test.YtkggincjigbelaaGreatDoorTkB
open List renaming getD_eq_getElem?_getD -> aa, getElem?_eq_getElem -> ab, getElem_mem -> bh, mem_cons_of_mem -> ao, mem_cons_self -> aD, mem_map -> aT, mem_range -> dy, range -> bE
open Nat renaming add_assoc -> ew, add_zero -> eY, zero_mul -> lj
open UInt8 renaming ofNat -> ee
set_option maxRecDepth 100000
set_option maxHeartbeats 16000000
set_option linter.unusedSimpArgs false
set_option linter.unusedVariables false
namespace Go.Proofs.YtkggincjigbelaaGreatDoor
open Go.Sy
open UInt8 renaming reduceLT -> Q0, reduceLE -> Q1
open Int renaming reduceToNat -> Q2, reduceLE -> Q3, reduceLT -> Q4, reduceEq -> Q5, reduceNe -> Q6, reduceNeg -> Q7, reduceAdd -> Q8, reduceSub -> Q9, reduceMul -> Qa
open Nat renaming reducePow -> Qb, reduceDiv -> Qc, reduceMod -> Qd, reduceAdd -> Qe, reduceSub -> Qf, reduceMul -> Qg, reduceLT -> Qh, reduceLeDiff -> Qi, reduceEqDiff -> Qj, reduceBEq -> Qk
end Go.Proofs.YtkggincjigbelaaGreatDoor
namespace Go.Sy
open Go.ChangeShapes Go.WideShapes
section
variable {H : Type} {enc : TypeId × Value -> H} {P : Program} {w : World} {base : Nat} {hd : Bool} {r : Reach} {b0 : Nat} {t e : TypeId} {v : Value} {d : DataW H} {ps : List MemPlace}
theorem lw{a:Addr}{v:Value}(h:w.cell? a=some v):a.spot=none:=by
 unfold World.cell? at h;split at h
 ·by_cases hs:a.spot.isSome=true
  ·rw[if_pos hs]at h;cases h
  ·simpa using hs
 ·cases h
theorem sd(a:Addr):a.add 0=a:=by unfold Addr.add;rw[if_pos rfl]
variable [aZ]
theorem xD{fuel:Nat}{v:Value}{x:DataW H×List MemPlace}(ht:P.underlying t=some (.slice e))(he:P.underlying e=some (.int .u8))(hc:P.cellsOf e=1)(h:DataW.trod enc P w base (fun _=>true) hd fuel t [v]=some x):
 ∃l:List UInt8,cn (mc w).G (.byt l .no) v:=by
 rcases open_ints ht he hc h with⟨hcs,_⟩|⟨a,len,cap,zs,hcs,_,hl,hm,hz,_,hcell,hwf⟩
 ·obtain rfl:v= .slice none 0 0:=by simpa using hcs
  exact⟨[],.bytN .no⟩
 ·obtain rfl:v= .slice (some a) len cap:=by simpa using hcs
  simp only[if_true]at hz
  by_cases h0:cap=0
  ·obtain rfl:len=0:=by omega
   subst h0;exact⟨[],.bytE .no a⟩
  ·have hs:a.spot=none:=by
    have:=lw (hcell 0 (by omega));rwa[sd]at this
   obtain⟨b,off,spot⟩:=a;simp only at hs;subst hs;refine⟨(zs.take len).map fun n=>ee n.toNat,.byt _ .no b off cap len (by simp;omega) hl (fun i hi=> ?_)⟩;have h1:=hcell i (by omega);have hi':i<zs.length:=by omega
   rw[add_plain]at h1
   have e1:((zs.take len).map fun n=>ee n.toNat).getD i 0=ee (zs.getD i 0).toNat:=by simp[aa,hi',hi]
   show w.cell? _=_;rw[h1,e1]
   congr 2
   refine(GE (hwf _ ?_)).symm;rw[aa,ab hi'];exact bh hi'
omit [aZ] in
theorem rD{K:List SV->Prop}{c:Nat}(hc0:0<c){fuel:Nat}{v:Value}{x:DataW H×List MemPlace}(ht:P.underlying t=some (.slice e))(ce:P.cellsOf e=c)
 (row:∀(n:Nat)(cs:List Value)(y:DataW H×List MemPlace),cs.length=c->DataW.trod enc P w base (fun _=>true) hd n e cs=some y->∃q:List SV,K q/\q.length=c/\∀j,j<c->cn (mc w).G (q.getD j .undef) (cs.getD j Go.undef))
 (h:DataW.trod enc P w base (fun _=>true) hd fuel t [v]=some x):
 ∃l:List (List SV),(∀q∈l,K q)/\cn (mc w).G (.lst c l .no) v:=by
 rcases Go.Deep.open_slice ht h with⟨hcs,_⟩|⟨a,len,cap,m,n,D,Pl,hcs,_,hl,hm,hmm,_,hx⟩
 ·obtain rfl:v= .slice none 0 0:=by simpa using hcs
  exact⟨[],fun q hq=>(by cases hq),.lstN c .no⟩
 ·obtain rfl:v= .slice (some a) len cap:=by simpa using hcs
  simp only[if_true]at hmm;subst hmm
  by_cases h0:m=0
  ·obtain rfl:len=0:=by omega
   subst h0;exact⟨[],fun q hq=>(by cases hq),.lstE c .no a⟩
  ·have each:∀i,i<m->∃p:List SV×List Value,K p.1/\p.1.length=c/\(∀j,j<c->cn (mc w).G (p.1.getD j .undef) (p.2.getD j Go.undef))/\∀j,j<c->w.cell? (a.add (i*c+j))=some (p.2.getD j Go.undef):=by
    intro i hi;obtain⟨cs',h1,h2⟩:=hx i hi;rw[ce]at h1;obtain⟨_,hlen,hcell⟩:=World.cells?_some h1;obtain⟨q,k1,k2,k3⟩:=row n cs' _ hlen h2;refine⟨(q,cs'),k1,k2,k3,fun j hj=> ?_⟩;have:=hcell j (by omega);rw[Go.Deep.add_add]at this;rw[this,aa,ab (by omega)];rfl
   obtain⟨p,hp⟩:=Go.Deep.choose_lt each
   have hs:a.spot=none:=by have:=lw ((hp 0 (by omega)).2.2.2 0 hc0);rwa[lj,eY,sd]at this
   obtain⟨b,off,spot⟩:=a;simp only at hs;subst hs
   have hrow:∀i,i<len->((bE len).map fun i=>(p i).1).getD i []=(p i).1:=fun i hi=>by simp[aa,hi]
   refine⟨(bE len).map fun i=>(p i).1,fun q hq=> ?_,.lst c _ .no b off m len (fun i j=>(p i).2.getD j Go.undef) (by simp) hl (fun i hi=>by rw[hrow i hi];exact(hp i (by omega)).2.1) (fun i j hi hj=> ?_) (fun i j hi hj=> ?_)⟩
   ·obtain⟨i,hi,rfl⟩:=aT.1 hq
    exact(hp i (by have:=dy.1 hi;omega)).1
   ·have:=(hp i (by omega)).2.2.2 j hj
    rw[add_plain]at this;show w.cell? _=_;rw[ew];exact this
   ·rw[hrow i hi]
    exact(hp i (by omega)).2.2.1 j hj
def RP(q:List SV):Prop:=∃(a:Int)(b:List UInt8),q=[.int .i64 a,.byt b .no]
theorem GK{fa fb:Field}(he:P.underlying e=some (.struct #[fa,fb]))(o0:fa.offset=0)(o1:fb.offset=1)
 (c0:P.cellsOf fa.type=1) (c1:P.cellsOf fb.type=1) (t0:P.underlying fa.type=some (.int .i64)) {u:TypeId} (t1:P.underlying fb.type=some (.slice u)) (hu:P.underlying u=some (.int .u8)) (cu:P.cellsOf u=1)
 (n:Nat) (cs:List Value) (y:DataW H×List MemPlace) (hlen:cs.length=2) (h:DataW.trod enc P w base (fun _=>true) hd n e cs=some y):
 ∃q:List SV,RP q/\q.length=2/\∀j,j<2->cn (mc w).G (q.getD j .undef) (cs.getD j Go.undef):=by
 obtain⟨xs,k,_,_,_,hxl,hf⟩:=DataW.trod_struct he h
 match cs,hlen,xs,hxl with
 |[v0,v1],_,[y0,y1],_=>
  have g0:=hf 0 fa rfl;have g1:=hf 1 fb rfl;simp[o0,o1,c0,c1]at g0 g1;obtain⟨a,e0,_,_⟩:=DataW.trod_int t0 g0;obtain⟨l,hl⟩:=xD t1 hu cu g1;obtain rfl:v0= .int .i64 a:=by simpa using e0
  refine⟨[.int .i64 a,.byt l .no],⟨a,l,rfl⟩,rfl,fun j hj=> ?_⟩
  match j,hj with
  |0,_=>exact .int _ _
  |1,_=>exact hl
end
end Go.Sy
namespace Go.Proofs.YtkggincjigbelaaGreatDoor
open Go.Sy
open UInt8 renaming reduceLT -> Q0, reduceLE -> Q1
open Int renaming reduceToNat -> Q2, reduceLE -> Q3, reduceLT -> Q4, reduceEq -> Q5, reduceNe -> Q6, reduceNeg -> Q7, reduceAdd -> Q8, reduceSub -> Q9, reduceMul -> Qa
open Nat renaming reducePow -> Qb, reduceDiv -> Qc, reduceMod -> Qd, reduceAdd -> Qe, reduceSub -> Qf, reduceMul -> Qg, reduceLT -> Qh, reduceLeDiff -> Qi, reduceEqDiff -> Qj, reduceBEq -> Qk
section
theorem N9:∀(l:List (List SV)),(∀q∈l,RP q)->∃es:List Au,eX es=l
 |[],_=>⟨[],rfl⟩
 |q::r,h=>by
  obtain⟨es,he⟩:=N9 r fun x hx=>h x (ao _ hx)
  obtain⟨a,b,rfl⟩:=h q aD;exact⟨⟨a,b⟩::es,by rw[<-he];rfl⟩
section
open Go.ChangeShapes Go.WideShapes
variable {H : Type} {enc : TypeId × Value -> H} {w : World} {base : Nat} {hd : Bool} {r : Reach} {b0 : Nat} {v : Value} {d : DataW H} {ps : List MemPlace}
theorem xe1(hval:Value.okWide Tryz.prog w r b0 40 v)(h:DataW.Trod enc Tryz.prog w base (fun _=>true) hd 40 v d ps):∃m:Tr,Rep (mc w) (.agg m.sv) v:=by
 obtain⟨cs,rfl,hcs⟩:=okWide_struct Tryz.underlying40 hval;rw[show Tryz.prog.cellsOf 40=2 by kernel_rfl]at hcs;obtain⟨fuel,hf⟩:=h;obtain⟨xs,n,_,_,hl,hlen,hf⟩:=DataW.trod_struct Tryz.underlying40 hf;have c3:Tryz.prog.cellsOf 3=1:=by kernel_rfl
 have c5:Tryz.prog.cellsOf 5=1:=by kernel_rfl
 have c22:Tryz.prog.cellsOf 22=1:=by kernel_rfl
 have c38:Tryz.prog.cellsOf 38=1:=by kernel_rfl
 have c45:Tryz.prog.cellsOf 45=2:=by kernel_rfl
 simp only[Value.cells]at hl hf;have hx:xs.length=2:=hlen;obtain⟨l⟩:=cs;have hl2:l.length=2:=by simpa using hcs
 match xs,hx,l,hl2 with
 |[y0,y1],_,[v0,v1],_=>
  have g0:=hf 0 _ rfl;have g1:=hf 1 _ rfl;simp[c3,c38]at g0 g1;obtain⟨le,he1,he2⟩:=rD (K:=RP) (by decide:0<2) Tryz.underlying38 c45 (GK Tryz.underlying45 rfl rfl c3 c22 Tryz.underlying3 Tryz.underlying22 Tryz.underlying5 c5) g0;obtain⟨a1,e1,_,_⟩:=DataW.trod_int Tryz.underlying3 g1;obtain⟨es,rfl⟩:=N9 le he1;obtain rfl:v1= .int .i64 a1:=by simpa using e1
  refine⟨⟨es,a1⟩,.agg _ _ rfl fun i hi=> ?_⟩
  match i,hi with
  |0,_=>exact .dat _ _ he2 trivial
  |1,_=>exact .dat _ _ (.int _ _) trivial
  |i+2,hi=>exact absurd hi (by simp[Tr.sv])
end
end
section
theorem NQ:∀(l:List (List SV)),(∀q∈l,RP q)->∃es:List Mk,cW es=l
 |[],_=>⟨[],rfl⟩
 |q::r,h=>by
  obtain⟨es,he⟩:=NQ r fun x hx=>h x (ao _ hx)
  obtain⟨a,b,rfl⟩:=h q aD;exact⟨⟨a,b⟩::es,by rw[<-he];rfl⟩
section
open Go.ChangeShapes Go.WideShapes
variable {H : Type} {enc : TypeId × Value -> H} {w : World} {base : Nat} {hd : Bool} {r : Reach} {b0 : Nat} {v : Value} {d : DataW H} {ps : List MemPlace}
theorem SH(hval:Value.okWide Tryz.prog w r b0 47 v)(h:DataW.Trod enc Tryz.prog w base (fun _=>true) hd 47 v d ps):∃m:List Mk,Rep (mc w) (.lst 2 (cW m) .no) v:=by
 obtain⟨a0,len,cap,rfl⟩:=okWide_slice Tryz.underlying47 hval;obtain⟨fuel,hf⟩:=h;have c3:Tryz.prog.cellsOf 3=1:=by kernel_rfl
 have c5:Tryz.prog.cellsOf 5=1:=by kernel_rfl
 have c22:Tryz.prog.cellsOf 22=1:=by kernel_rfl
 have c63:Tryz.prog.cellsOf 63=2:=by kernel_rfl
 simp only[Value.cells]at hf;obtain⟨le,he1,he2⟩:=rD (K:=RP) (by decide:0<2) Tryz.underlying47 c63 (GK Tryz.underlying63 rfl rfl c3 c22 Tryz.underlying3 Tryz.underlying22 Tryz.underlying5 c5) hf;obtain⟨es,rfl⟩:=NQ le he1;exact⟨es,.dat _ _ he2 trivial⟩
end
end
end Go.Proofs.YtkggincjigbelaaGreatDoor
