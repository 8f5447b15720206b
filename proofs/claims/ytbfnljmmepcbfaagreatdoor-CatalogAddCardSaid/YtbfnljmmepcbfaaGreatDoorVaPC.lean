/- Walks of library functions. No condition. -/
import Derived.Test.YtbfnljmmepcbfaaGreatDoorEcPC
import Derived.Test.YtbfnljmmepcbfaaGreatDoorProg
import Derived.WalkKit
import Derived.Laws.RangeString
import Derived.Laws.RangeAny
import Derived.LoopTactic
import Derived.KernelRfl
import Derived.Shelf.Spec.SlicesInsertGrow
open Array renaming getD_eq_getD_getElem? -> aS, getElem?_append_left -> cy, getElem?_eq_getElem -> cB, getElem?_eq_some_iff -> dk, size_append -> cV
open Go.IntKind renaming i64 -> af, wrap_i64 -> dA
open List renaming all_eq_true -> bf, getD_eq_getElem?_getD -> aa, getElem?_drop -> bB, getElem?_eq_getElem -> ac, getElem?_eq_some_iff -> pN, getElem?_take -> bS, getElem?_toArray -> dh, getElem_mem -> bv, getElem_of_mem -> bg, length_cons -> al, length_drop -> aE, length_eq_zero_iff -> b8, length_take -> an, mem_of_mem_drop -> cH, mem_singleton -> bq, range -> bC, size_toArray -> ce
open Nat renaming add_assoc -> fo, le_refl -> aK, lt_or_ge -> bQ, mod_lt -> vq, mul_comm -> cS, mul_le_mul_right -> bo, zero_add -> bY, zero_le -> aY, zero_mul -> iq
open Option renaming getD_some -> aM, ite_none_right_eq_some -> aJ, map_some -> bE, some -> ax
open UInt8 renaming ofNat -> ip
set_option linter.unusedSectionVars false
set_option linter.unusedSimpArgs false
set_option linter.unusedVariables false
namespace Go.Proofs.YtbfnljmmepcbfaaGreatDoor
open Go.Sy
open UInt8 renaming reduceLT -> ur1, reduceLE -> ur2
open Int renaming reduceToNat -> ir1, reduceLE -> ir2, reduceLT -> ir3, reduceEq -> ir4, reduceNe -> ir5, reduceNeg -> ir6, reduceAdd -> ir7, reduceSub -> ir8, reduceMul -> ir9
open Nat renaming reducePow -> nr1, reduceDiv -> nr2, reduceMod -> nr3, reduceAdd -> nr4, reduceSub -> nr5, reduceMul -> nr6, reduceLT -> nr7, reduceLeDiff -> nr8, reduceEqDiff -> nr9, reduceBEq -> nr10
open Go.RowKit Go.ChangeShapes Go.WideShapes
namespace Pr
variable [bx]
def okc(c:UInt8):Bool:=if c<97\/122<c then(if c<48\/57<c then decide (c=45)else true)else true
def nameB(s:d9):Bool:=if s.length<1\/12<s.length then false else s.all okc
set_option maxRecDepth 100000 in
theorem w83(w:World)(a b:d9)(u v:Value)(C:jL w a u)(y:jL w b v):
 Calls Tryz.prog 83 #[u,v] w fun e w'=>e= .returned (.int .i64 (Lib.compareBytes a b))/\w'=w:=by
 go_enter Tryz.func83,Tryz.ntmps83
 go_wp2
 rw[run_callFunc_extern Tryz.func130 (by kernel_rfl) (by kernel_rfl) (by kernel_rfl) (e:=Extern.BytealgCompare.compare) (by kernel_rfl),sN C y];simp only[Result.andThen];rw[Oper.upon_value]
 go_wp2
 go_ret
 exact⟨rfl,rfl⟩
set_option maxRecDepth 100000 in
theorem xvN(w:World)(a:d9)(c:UInt8)(u:Value)(y:jL w a u):
 Calls Tryz.prog 202 #[u,.int .u8 c.toNat] w fun e w'=>e= .returned (.int .i64 (xof a c))/\w'=w:=by
 go_enter Tryz.func202,Tryz.ntmps202
 go_wp2
 rw[run_callFunc_extern Tryz.func206 (by kernel_rfl) (by kernel_rfl) (by kernel_rfl) (e:=Extern.BytealgIndexByte.indexByte) (by kernel_rfl),yb y];simp only[Result.andThen];rw[Oper.upon_value]
 go_wp2
 go_ret
 exact⟨rfl,rfl⟩
set_option maxRecDepth 100000 in
theorem xvO(w:World)(a b:ByteArray):
 Calls Tryz.prog 191 #[.string a,.string b] w fun e w'=>e= .returned (.int .i64 (Lib.compareBytes a.data.toList b.data.toList))/\w'=w:=by
 go_enter Tryz.func191,Tryz.ntmps191
 go_wp2
 rw[run_callFunc_extern Tryz.func204 (by kernel_rfl) (by kernel_rfl) (by kernel_rfl) (e:=Extern.BytealgCompare.compare) (by kernel_rfl),Lib.run_compareString];simp only[Result.andThen];rw[Oper.upon_value]
 go_wp2
 go_ret
 exact⟨rfl,rfl⟩
def okn(c:Nat):Prop:=(97<=c/\c<=122)\/(48<=c/\c<=57)\/c=45
set_option maxRecDepth 100000 in
theorem vS(b:UInt8):okc b=true↔okn b.toNat:=by
 have key:∀n,n<256->(okc (ip n)=true↔okn n):=by unfold okn;decide
 have:=key b.toNat b.toNat_lt;rwa[UInt8.ofNat_toNat]at this
theorem Le(s:ByteArray)(y:Nat)(C:y<s.size):s.data.toList.getD y 0=s[y]'C:=by rw[aa,ac (by simpa using C)];rfl
theorem xnX(s:ByteArray)(y c wd:Nat)(C:y<s.size)(h:Utf8.decode s y=(c,wd)):(okn c->wd=1/\okc (s.data.toList.getD y 0)=true)/\(¬okn c->okc (s.data.toList.getD y 0)=false):=by
 rw[Le s y C]
 by_cases I:(s[y]'C).toNat<128
 ·rw[decode_ascii s y C I]at h
  cases h;refine⟨fun E=>⟨rfl,(vS _).2 E⟩,fun E=> ?_⟩;cases F:okc (s[y]'C)with
  |false=>rfl
  |true=>exact absurd ((vS _).1 F) E
 ·have F:=(decode_high s y C (by omega)).1
  rw[h]at F;simp only at F;refine⟨fun E=>by unfold okn at E;omega,fun _=> ?_⟩;cases h3:okc (s[y]'C)with
  |false=>rfl
  |true=>have:=(vS _).1 h3;unfold okn at this;omega
theorem rk(w:World)(s:ByteArray)(y:Nat):Below w.heap.size w (w.iter s y):=(Below.refl _ w).alloc (aK _) _
theorem lP(s:ByteArray):s.data.toList.length=s.size:=by simp
set_option maxRecDepth 100000 in
theorem xvP(w:World)(s:ByteArray):
 Calls Tryz.prog 189 #[.string s] w fun e w'=>e= .returned (.bool (nameB s.data.toList))/\Below w.heap.size w w':=by
 go_enter Tryz.func189,Tryz.ntmps189
 go_wp2
 ·go_ret
  refine⟨?_,Below.refl _ _⟩;have:s.data.toList.length<1\/12<s.data.toList.length:=by rw[lP];omega
  unfold nameB;rw[if_pos this];rfl
 ·go_loopw [] (
   fun w'=>∃y:Nat,w'=w.iter s y/\y<=s.size/\∀i,i<y->okc (s.data.toList.getD i 0)=true) (fun w'=>s.size-w'.iterPos w.heap.size)
  case atStart=>exact⟨0,rfl,aY _,fun i hi=>absurd hi (Nat.not_lt_zero i)⟩
  case round=>
   obtain⟨y,rfl,a2,E⟩:=hrel;have C:¬(s.data.toList.length<1\/12<s.data.toList.length):=by rw[lP];omega
   by_cases L:y<s.size
   ·have F:∀ty,(Instr.next (.pointer (some ⟨w.heap.size,0,none⟩)) true ty).run Tryz.prog (w.iter s y)=_:=fun ty=>run_next_any w s y ty L
    obtain⟨J,I⟩:=xnX s y (Utf8.decode s y).1 (Utf8.decode s y).2 L rfl;generalize Utf8.decode s y=dc at F J I;obtain⟨c,wd⟩:=dc;simp only at F J I;have O:Hid (okn c->wd=1/\okc (s.data.toList.getD y 0)=true):=J;have a1:Hid (¬okn c->okc (s.data.toList.getD y 0)=false):=I;have W:Hid (¬(s.data.toList.length<1\/12<s.data.toList.length)):=C;have Q:Hid (∀i,i<y->okc (s.data.toList.getD i 0)=true):=E;clear J I C E
    go_wp2
    all_goals (try simp only[bne_iff_ne,bne_eq_false_iff_eq,ne_eq]at*)
    all_goals first
     |(
      have T:okn c:=by unfold okn;omega
      obtain⟨rfl,Z⟩:=O.out T
      go_roundw
      case rel=>
       refine⟨y+1,rfl,by omega,fun i hi=> ?_⟩;rcases bQ i y with h2|h2
       ·exact Q.out i h2
       ·have:i=y:=by omega
        rw[this];exact Z
      case measure=>simp;omega)
     |(
      have T:¬okn c:=by unfold okn;omega
      have Z:=a1.out T
      go_ret
      refine⟨?_,rk _ _ _⟩
      have:nameB s.data.toList=false:=by unfold nameB;rw[if_neg W.out,List.all_eq_false];refine⟨s.data.toList.getD y 0, ?_,by rw[Z];simp⟩;rw[aa,ac (by simpa using L)];exact bv _
      rw[this];rfl)
   ·have F:∀ty,(Instr.next (.pointer (some ⟨w.heap.size,0,none⟩)) true ty).run Tryz.prog (w.iter s y)=_:=fun ty=>run_next_end w s y ty L
    have W:Hid (¬(s.data.toList.length<1\/12<s.data.toList.length)):=C;have Q:Hid (∀i,i<y->okc (s.data.toList.getD i 0)=true):=E;clear C E
    go_wp2
    go_ret
    refine⟨?_,rk _ _ _⟩
    have:nameB s.data.toList=true:=by unfold nameB;rw[if_neg W.out,bf];intro b hb;obtain⟨i,hi,rfl⟩:=bg hb;have:=Q.out i (by have:=lP s;omega);rwa[aa,ac hi]at this
    rw[this];rfl
 ·go_ret
  refine⟨?_,Below.refl _ _⟩;have:s.data.toList.length<1\/12<s.data.toList.length:=by rw[lP];omega
  unfold nameB;rw[if_pos this];rfl
def p83:f8->List aH->Nat->Option dV
 |[.byt a _,.byt b _],[],0=>some ⟨.int .i64 (Lib.compareBytes a b),[],[]⟩
 |_,_,_=>none
def p191:f8->List aH->Nat->Option dV
 |[.str a,.str b],[],0=>some ⟨.int .i64 (Lib.compareBytes a b),[],[]⟩
 |_,_,_=>none
def p189:f8->List aH->Nat->Option dV
 |[.str a],[],0=>some ⟨.bool (nameB a),[],[]⟩
 |_,_,_=>none
def p202:f8->List aH->Nat->Option dV
 |[.byt a _,.u8 c],[],0=>some ⟨.int .i64 (xof a c),[],[]⟩
 |_,_,_=>none
theorem repL2{x:Sit}{a b:SV}{vs:LAb}(h:cL x [a,b] vs):∃u v,vs=[u,v]/\Rep x a u/\Rep x b v:=by
 match vs,h with
 |[u,v],h=>exact⟨u,v,rfl,h.2 0 (by simp),h.2 1 (by simp)⟩
 |[],h=>simp[cL]at h
 |[_],h=>simp[cL]at h
 |_::_::_::_,h=>simp[cL]at h
theorem U9{x:Sit}{a:SV}{vs:LAb}(h:cL x [a] vs):∃u,vs=[u]/\Rep x a u:=by
 match vs,h with
 |[u],h=>exact⟨u,rfl,h.2 0 (by simp)⟩
 |[],h=>simp[cL]at h
 |_::_::_,h=>simp[cL]at h
theorem p83_ok:∀y os k q,p83 y os k=some q->fZ Tryz.prog 83 y os k (· =q):=by
 intro y os k q h;unfold p83 at h;split at h
 ·cases h
  refine ko (by kernel_rfl) fun x w vs F C=> ?_
  obtain⟨u,v,rfl,I,E⟩:=repL2 F;refine(w83 w _ _ u v (mP I C) (mP E C)).mono ?_;rintro e w' ⟨rfl,rfl⟩;exact⟨_,rfl,.dat _ _ (.int _ _) trivial,Below.refl _ _⟩
 ·cases h
theorem p202_ok:∀y os k q,p202 y os k=some q->fZ Tryz.prog 202 y os k (· =q):=by
 intro y os k q h;unfold p202 at h;split at h
 ·cases h
  refine ko (by kernel_rfl) fun x w vs F E=> ?_
  obtain⟨u,v,rfl,I,C⟩:=repL2 F;obtain rfl:=xo3 C;refine(xvN w _ _ u (mP I E)).mono ?_;rintro e w' ⟨rfl,rfl⟩;exact⟨_,rfl,.dat _ _ (.int _ _) trivial,Below.refl _ _⟩
 ·cases h
theorem p191_ok:∀y os k q,p191 y os k=some q->fZ Tryz.prog 191 y os k (· =q):=by
 intro y os k q h;unfold p191 at h;split at h
 ·cases h
  refine ko (by kernel_rfl) fun x w vs E I=> ?_
  obtain⟨u,v,rfl,F,C⟩:=repL2 E;obtain rfl:=BQ F;obtain rfl:=BQ C;refine(xvO w _ _).mono ?_;rintro e w' ⟨rfl,rfl⟩;exact⟨_,rfl,.dat _ _ (.int _ _) trivial,Below.refl _ _⟩
 ·cases h
theorem p189_ok:∀y os k q,p189 y os k=some q->fZ Tryz.prog 189 y os k (· =q):=by
 intro y os k q h;unfold p189 at h;split at h
 ·cases h
  refine ko (by kernel_rfl) fun x w vs C I=> ?_
  obtain⟨u,rfl,F⟩:=U9 C;obtain rfl:=BQ F;refine(xvP w _).mono ?_;rintro e w' ⟨rfl,E⟩;exact⟨_,rfl,.dat _ _ (.bool _) trivial,E⟩
 ·cases h
end Pr
end Go.Proofs.YtbfnljmmepcbfaaGreatDoor
namespace Go.Proofs.YtbfnljmmepcbfaaGreatDoor
open Go.Sy
open Go.RowKit Go.ChangeShapes Go.WideShapes Go.Shelf Go.Lib
namespace Pr
section
variable [bx]
theorem m4{β:Type}(a:Option Addr)(y E:Nat)(b:Option Addr)(F cb:Nat)(C:Option Addr->Nat->Nat->Option Addr->Nat->Nat->β)(I:LAc->β):
 Extern.SlicesOverlaps.overlaps.match_4 (fun _=>β) #[.slice a y E,.slice b F cb] C I=C a y E b F cb:=rfl
theorem mY{P:Program}(w:World)(L tR e:TypeId)(T:P.underlying L=some (.slice e))(size:Nat)(hz:∀w,(Go.sizeOf e).run P w= .ok size w)
 (a b:Addr) (W ca lb cb:Nat) (y:a.block≠b.block) (tA tB:TypeId) (kA Z:Nat) (F:w.shape? a.block=some (tA,kA+1)) (J:w.shape? b.block=some (tB,Z))
 (I:w.frozen? b=false) (E:w.frozen? {block:=b.block,off:=Z}=false):
 (Extern.SlicesOverlaps.overlaps #[L,L] #[tR] #[.slice (some a) W ca,.slice (some b) lb cb]).run P w= .ok (.bool false) w:=by
 have O:(a.block !=b.block)=true:=by simpa using y
 have C:(a.block==b.block)=false:=by simpa using y
 unfold Extern.SlicesOverlaps.overlaps;rw[m4]
 by_cases Q:W=0\/lb=0\/size=0
 ·simp[run_underlying T,hz,Q]
 ·cases hfa:w.frozen? a<;>cases hfk:w.frozen? {block:=a.block,off:=kA+1}<;>
   simp[run_underlying T,hz,Q,O,C,frozen,noView,viewAt,mayBeOne,stringish,shape,Sem.run,F,J,hfa,hfk,I,E]
theorem kK{P:Program}{t:TypeId}{z:Value}(h:(P.info? t).map (fun i=>i.zero)=some (some z))(w:World):(zeroValue t).run P w= .ok z w:=by
 cases hi:P.info? t with
 |none=>simp[hi]at h
 |some i=>simp only[hi,bE,ax.injEq]at h;simp[zeroValue,run_typeInfo w hi,h]
theorem mixed:Tryz.prog.follows .mixedOrders=true:=by kernel_rfl
theorem ep(b o j:Nat):(⟨b,o,none⟩:Addr).add j=⟨b,o+j,none⟩:=Addr.add_lit ..
theorem yz{w:World}{E y:Nat}{v:Value}(F:w.cell? ⟨E,y,none⟩=some v):∃J I,w.shape? E=some (J,I+1):=by
 cases hh:w.heap[E]? with
 |none=>simp[World.cell?,hh]at F
 |some o=>
  cases o with
  |cells C e Q=>
   refine⟨e,C.size-1, ?_⟩;have L:C[y]? =some v:=by simpa[World.cell?,hh]using F
   have O:y<C.size:=(dk.1 L).1;simp only[World.shape?,hh];rw[show C.size-1+1=C.size by omega]
  |_=>simp[World.cell?,hh]at F
theorem z_3:∀w,(Go.sizeOf 3).run Tryz.prog w= .ok 1 w:=fun w=>cz (by kernel_rfl) w
theorem a_3:∀w,(isAgg 3).run Tryz.prog w= .ok false w:=fun w=>fe (by kernel_rfl) w
theorem v_3:∀w,(zeroValue 3).run Tryz.prog w= .ok (.int .i64 0) w:=fun w=>kK (by kernel_rfl) w
theorem z_4:∀w,(Go.sizeOf 4).run Tryz.prog w= .ok 1 w:=fun w=>cz (by kernel_rfl) w
theorem a_4:∀w,(isAgg 4).run Tryz.prog w= .ok false w:=fun w=>fe (by kernel_rfl) w
theorem v_4:∀w,(zeroValue 4).run Tryz.prog w= .ok (.bool false) w:=fun w=>kK (by kernel_rfl) w
theorem z_0:∀w,(Go.sizeOf 0).run Tryz.prog w= .ok 1 w:=fun w=>cz (by kernel_rfl) w
theorem a_0:∀w,(isAgg 0).run Tryz.prog w= .ok false w:=fun w=>fe (by kernel_rfl) w
theorem v_0:∀w,(zeroValue 0).run Tryz.prog w= .ok (.tuple #[]) w:=fun w=>kK (by kernel_rfl) w
theorem I7:∀w,(Go.sizeOf 27).run Tryz.prog w= .ok 1 w:=fun w=>cz (by kernel_rfl) w
theorem Jl:∀w,(isAgg 27).run Tryz.prog w= .ok false w:=fun w=>fe (by kernel_rfl) w
theorem Ja:∀w,(zeroValue 27).run Tryz.prog w= .ok (.slice none 0 0) w:=fun w=>kK (by kernel_rfl) w
theorem DV:∀w,(Go.sizeOf 67).run Tryz.prog w= .ok 7 w:=fun w=>cz (by kernel_rfl) w
theorem Jj:∀w,(isAgg 67).run Tryz.prog w= .ok true w:=fun w=>fe (by kernel_rfl) w
theorem Ag:∀w,(zeroValue 67).run Tryz.prog w= .ok (.agg #[.string ⟨#[]⟩,.int .i64 0,.int .i64 0,.int .i64 0,.int .i64 0,.slice none 0 0,.slice none 0 0]) w:=fun w=>kK (by kernel_rfl) w
def gz:Value:=Value.agg #[.string ⟨#[]⟩,.int .i64 0,.int .i64 0,.int .i64 0,.int .i64 0,.slice none 0 0,.slice none 0 0]
theorem xaa:(Tryz.prog.info? 67).map (fun i=>(i.zero,i.size,i.bytes))=some (some gz,7,96):=by kernel_rfl
theorem Iz:fI Tryz.prog 67=some 7:=by kernel_rfl
theorem xN:(Tryz.prog.info? 67).map (·.size)=some 7:=by obtain⟨F,y,E,C,I⟩:=info_parts xaa;rw[y];simp[C]
theorem zC(w:World)(C y vc:Nat)(vs:LAb)(E:vs.length=7)(F:∀j v,vs[j]? =some v->w.cell? ⟨C,y+j,none⟩=some v):(Builtin.firstCells 7 1 (.slice (some ⟨C,y,none⟩) 1 vc)).run Tryz.prog w= .ok vs.toArray w:=
 run_firstCells_some w 7 1 ⟨C,y,none⟩ 1 vc vs (by rw[E]) (fun j v I=>by rw[ep];exact F j v I)
set_option maxHeartbeats 8000000 in
set_option maxRecDepth 100000 in
theorem GX(b n c i F y vc:Nat)(cs vs:LAb)(w:World)(hi:i<n)(a8:n+1<=c)(d1:n<=1000000)(a1:F≠b)
 (b3:cs.length=n*7) (c5:vs.length=7)
 (a6:∀j v,cs[j]? =some v->w.cell? ⟨b,j,none⟩=some v) (L:∀j,j<(n+1)*7->(w.cell? ⟨b,j,none⟩).isSome=true) (O:∀j,j<(n+1)*7->w.frozen? ⟨b,j,none⟩=false)
 (b7:∀j v,vs[j]? =some v->w.cell? ⟨F,y+j,none⟩=some v) (b5:∀v∈cs,v.oneCell'=true) (b0:∀v∈vs,v.oneCell'=true)
 (tA tB:TypeId) (kA kB:Nat) (b4:w.shape? F=some (tA,kA+1)) (a7:w.shape? b=some (tB,kB)) (b1:w.frozen? ⟨b,kB,none⟩=false):
 Calls Tryz.prog 86 #[.slice (some ⟨b,0,none⟩) n c,.int .i64 i,.slice (some ⟨F,y,none⟩) 1 vc] w fun e w'=>e= .returned (.slice (some ⟨b,0,none⟩) (n+1) c)/\w'=(w.drew.setCells b ((i+1)*7) (cs.drop (i*7))).setCells b (i*7) vs:=by
 have t0:=Tryz.underlying0;have a0:=a_0;have z0:=z_0;have v0:=v_0;have t3:=Tryz.underlying3;have a3:=a_3;have z3:=z_3;have v3:=v_3;have t4:=Tryz.underlying4;have a4:=a_4;have z4:=z_4;have v4:=v_4;have t9:=Tryz.underlying67;have a9:=Jj;have z9:=DV;have v9:=Ag;have e4:=Tryz.underlying27;have d7:=Jl;have d6:=I7;have e7:=Ja;have u0:=run_underlying Tryz.underlying0;have u3:=run_underlying Tryz.underlying3;have u4:=run_underlying Tryz.underlying4;have u9:=run_underlying Tryz.underlying67;have e5:=run_underlying Tryz.underlying27;have mixed:=mixed;have d3:¬((i:Int)=(n:Int)):=by omega
 have b6:∀lb cb,(callFunc 131 #[.slice (some ⟨F,y,none⟩) 1 vc,.slice (some ⟨b,(i+1)*7,none⟩) lb cb]).run Tryz.prog w= .ok (.value (.bool false)) w:=fun lb cb=>by
  rw[run_callFunc_extern Tryz.func131 (by kernel_rfl) (by kernel_rfl) (by kernel_rfl) (e:=Extern.SlicesOverlaps.overlaps #[27,27] #[4]) (by kernel_rfl),
   mY w 27 4 67 Tryz.underlying27 7 DV ⟨F,y,none⟩ ⟨b,(i+1)*7,none⟩ 1 vc lb cb a1 tA tB kA kB b4 a7 (O ((i+1)*7) (by omega)) b1]
  rfl
 have T:(cs.drop (i*7)).length=(n-i)*7:=by rw[aE,b3];omega
 have e2:af.wrap ((i:Int)+1)=(i:Int)+1:=by rw[dA];omega
 have e3:af.wrap ((n:Int)+1)=(n:Int)+1:=by rw[dA];omega
 have d4:(0:Int)<=(i:Int)+1:=by omega
 have e1:i<=n:=by omega
 have e0:((i:Int)+1).toNat=i+1:=by omega
 have c7:((n:Int)+1).toNat=n+1:=by omega
 have d5:¬(c=i+1):=by omega
 have d2:(i:Int)<=(n:Int)+1:=by omega
 have e6:¬(c=i):=by omega
 have I:∀ty J sc,(Builtin.copy_ #[27,27] ty #[.slice (some ⟨b,(i+1)*7,none⟩) (n-i) J,.slice (some ⟨b,i*7,none⟩) (n+1-i) sc]).run Tryz.prog w.drew= .ok (goInt ((n-i:Nat):Int)) (w.drew.setCells b ((i+1)*7) (cs.drop (i*7))):=fun ty J sc=>
  ee w.drew _ _ ty 67 b ((i+1)*7) (n-i) J ⟨b,i*7,none⟩ (n+1-i) sc (cs.drop (i*7)) 7 (n-i) Tryz.underlying27 xN (by simp only[Nat.min_def];split<;>omega) T
   (fun j v E=>by rw[ep];exact a6 (i*7+j) v (by rwa[bB]at E))
   (fun j E=>L _ (by omega)) (fun j E=>O _ (by omega)) (fun v hv=>b5 v (cH hv))
 obtain⟨W1,C⟩:∃W1,W1=w.drew.setCells b ((i+1)*7) (cs.drop (i*7)):=⟨_,rfl⟩
 have Q:∀k,k<(n+1)*7->(W1.cell? ⟨b,k,none⟩).isSome=true:=fun k hk=>by rw[C];exact isSome_setCells b _ _ _ (fun j E=>by rw[T]at E;exact L _ (by omega)) _ (L k hk)
 have Z:∀(W:World),(∀x,W.cell? x=W1.cell? x)->(∀x,W.frozen? x=W1.frozen? x)->∀ty J,(Builtin.copy_ #[27,27] ty #[.slice (some ⟨b,i*7,none⟩) (n+1-i) J,.slice (some ⟨F,y,none⟩) 1 vc]).run Tryz.prog W= .ok (goInt 1) (W.setCells b (i*7) vs):=fun W a2 c3 ty J=>
  ee W _ _ ty 67 b (i*7) (n+1-i) J ⟨F,y,none⟩ 1 vc vs 7 1 Tryz.underlying27 xN (by simp only[Nat.min_def];split<;>omega) (by rw[c5])
   (fun j v E=>by rw[ep,a2,C,World.cell?_setCells_out b _ _ _ _ (fun h _=>absurd h a1)];exact b7 j v E)
   (fun j E=>by rw[a2];exact Q _ (by omega)) (fun j E=>by rw[c3,C,World.frozen?_setCells];exact O _ (by omega)) b0
 rw[<-C]at I
 go_enter Tryz.func86,Tryz.ntmps86
 go_wp2_with (simp only[b6])
 go_region_law_o (refine step_copy_runI rfl _ _ 27 27 rfl _ _ (by simp[Act.eval,Act.put]) (by simp[Act.eval,Act.put]) (I _ _ _) ?_)
 go_wp2_with (at_builtin;refine wpList_copy_runI _ rfl _ _ 27 27 rfl _ _ rfl rfl (Z _ (fun _=>rfl) (fun _=>rfl) _ _) ?_)
 go_ret
 first|exact⟨rfl,rfl⟩|exact⟨rfl,by rw[C]⟩
set_option maxHeartbeats 8000000 in
set_option maxRecDepth 100000 in
theorem JH(b n c I y vc:Nat)(vs:LAb)(w:World)(C:n+1<=c)(W:n<=1000000)
 (E:vs.length=7) (Q:∀j,j<7->(w.cell? ⟨b,n*7+j,none⟩).isSome=true) (O:∀j,j<7->w.frozen? ⟨b,n*7+j,none⟩=false)
 (T:∀j v,vs[j]? =some v->w.cell? ⟨I,y+j,none⟩=some v) (J:∀v∈vs,v.oneCell'=true):
 Calls Tryz.prog 86 #[.slice (some ⟨b,0,none⟩) n c,.int .i64 n,.slice (some ⟨I,y,none⟩) 1 vc] w fun e w'=>e= .returned (.slice (some ⟨b,0,none⟩) (n+1) c)/\w'=w.setCells b (n*7) vs:=by
 have t0:=Tryz.underlying0;have a0:=a_0;have z0:=z_0;have v0:=v_0;have t3:=Tryz.underlying3;have a3:=a_3;have z3:=z_3;have v3:=v_3;have t4:=Tryz.underlying4;have a4:=a_4;have z4:=z_4;have v4:=v_4;have t9:=Tryz.underlying67;have a9:=Jj;have z9:=DV;have v9:=Ag;have a2:=Tryz.underlying27;have a1:=Jl;have Z:=I7;have a7:=Ja;have u0:=run_underlying Tryz.underlying0;have u3:=run_underlying Tryz.underlying3;have u4:=run_underlying Tryz.underlying4;have u9:=run_underlying Tryz.underlying67;have a6:=run_underlying Tryz.underlying27;have mixed:=mixed;have L:=run_storeCells_cells (P:=Tryz.prog) b (n*7) vs 0 w (by rw[E];simpa using Q) (by rw[E];simpa using O) J
 have F:∀ty,(Builtin.append_ #[27,27] ty #[.slice (some ⟨b,0,none⟩) n c,.slice (some ⟨I,y,none⟩) 1 vc]).run Tryz.prog w= .ok (.slice (some ⟨b,0,none⟩) (n+1) c) (w.setCells b (n*7) vs):=fun ty=>
  eZ (P:=Tryz.prog) (t:=27) (u:=27) (ty:=ty) (bs:=some ⟨b,0,none⟩) (len:=n) (m:=1) (cap:=c) Tryz.underlying27 Tryz.underlying27 (.inl ⟨_,rfl⟩) Iz rfl (zC w I y vc vs E T) C (by show(storeCells ((⟨b,0,none⟩:Addr).add (n*7)) vs).run Tryz.prog w=_;rw[ep,bY];simpa using L)
 go_enter Tryz.func86,Tryz.ntmps86
 go_wp2_with (at_builtin;refine Lib.wpList_append_run _ rfl _ _ _ _ rfl _ _ rfl rfl _ _ (F _) ?_)
 go_ret
 exact⟨rfl,rfl⟩
set_option maxHeartbeats 8000000 in
set_option maxRecDepth 100000 in
theorem Yo(y:Option Addr)(n c Z C vc:Nat)(cs vs:LAb)(w:World)(c5:n<=c)(a6:c<n+1)(b3:n<=1000000)
 (Q:cs.length=n*7) (b1:vs.length=7) (I:y=none->n=0)
 (a2:∀a,y=some a->∀j v,cs[j]? =some v->w.cell? (a.add j)=some v)
 (a8:∀j v,vs[j]? =some v->w.cell? ⟨Z,C+j,none⟩=some v) (c3:∀v∈vs,v.oneCell'=true):
 Calls Tryz.prog 86 #[.slice y n c,.int .i64 n,.slice (some ⟨Z,C,none⟩) 1 vc] w fun e w'=>
  ∃F,n+1<=F/\e= .returned (.slice (some ⟨w.heap.size,0,none⟩) (n+1) F)/\
  w'=w.drew.alloc (.cells (cs.toArray++vs.toArray++Builtin.zeroCells gz.cells (F-(n+1))) 67 (0,0)):=by
 have t0:=Tryz.underlying0;have a0:=a_0;have z0:=z_0;have v0:=v_0;have t3:=Tryz.underlying3;have a3:=a_3;have z3:=z_3;have v3:=v_3;have t4:=Tryz.underlying4;have a4:=a_4;have z4:=z_4;have v4:=v_4;have t9:=Tryz.underlying67;have a9:=Jj;have z9:=DV;have v9:=Ag;have d1:=Tryz.underlying27;have b6:=Jl;have b5:=I7;have d3:=Ja;have u0:=run_underlying Tryz.underlying0;have u3:=run_underlying Tryz.underlying3;have u4:=run_underlying Tryz.underlying4;have u9:=run_underlying Tryz.underlying67;have d2:=run_underlying Tryz.underlying27;have mixed:=mixed;obtain⟨i0,b0,b7,c7,a7⟩:=info_parts xaa
 have T:∀w':World,w'.heap=w.heap->(Builtin.firstCells 7 n (.slice y n c)).run Tryz.prog w'= .ok cs.toArray w':=fun w' O=>by
  cases y with
  |none=>have h0:=I rfl;subst h0;rw[b8.1 (Q.trans (iq _))];exact run_firstCells_none w' 7 0 0 c
  |some a=>exact run_firstCells_some w' 7 n a n c cs Q (fun j v hj=>by have:=a2 a rfl j v hj;simpa only[World.cell?,O]using this)
 obtain⟨F,W,J⟩:=fp (P:=Tryz.prog) (w:=w) (t:=27) (u:=27) (ty:=27) (Y:= .slice (some ⟨Z,C,none⟩) 1 vc) (bs:=y) (len:=n) (m:=1) (cap:=c) (os:=cs) (ns:=vs) (by_:=96) (z:=gz) (i:=i0) Tryz.underlying27 Tryz.underlying27 (.inl ⟨_,rfl⟩) Iz b0 a7 (by decide) Ag (fun _ _=>rfl) (fun w' O=>zC w' Z C vc vs b1 (fun j v hj=>by have:=a8 j v hj;simpa only[World.cell?,O]using this)) T (by omega) (by omega)
 have E:∀ty,(Builtin.append_ #[27,27] ty #[.slice y n c,.slice (some ⟨Z,C,none⟩) 1 vc]).run Tryz.prog w= .ok (.slice (some ⟨w.heap.size,0,none⟩) (n+1) F) (w.drew.alloc (.cells (cs.toArray++vs.toArray++Builtin.zeroCells gz.cells (F-(n+1))) 67 (0,0))):=fun ty=>J
 refine Calls.mono (R:=fun e w'=>e= .returned (.slice (some ⟨w.heap.size,0,none⟩) (n+1) F)/\w'=w.drew.alloc (.cells (cs.toArray++vs.toArray++Builtin.zeroCells gz.cells (F-(n+1))) 67 (0,0))) ?_ (fun e w' h=>⟨F,W,h.1,h.2⟩);obtain⟨a1,L⟩:∃a1:LAc,a1=cs.toArray++vs.toArray++Builtin.zeroCells gz.cells (F-(n+1)):=⟨_,rfl⟩;rw[<-L]at E ⊢;clear L J
 go_enter Tryz.func86,Tryz.ntmps86
 cases y with
 |none=>
  have h0:=I rfl;subst h0
  go_wp2_with (at_builtin;refine Lib.wpList_append_run _ rfl _ _ _ _ rfl _ _ rfl rfl _ _ (E _) ?_)
  go_ret
  exact⟨rfl,rfl⟩
 |some a=>
  obtain⟨ab,ao,b4⟩:=a
  go_wp2_with (at_builtin;refine Lib.wpList_append_run _ rfl _ _ _ _ rfl _ _ rfl rfl _ _ (E _) ?_)
  all_goals (go_ret;exact⟨rfl,rfl⟩)
set_option maxHeartbeats 8000000 in
set_option maxRecDepth 100000 in
theorem JI(b n c i Z C vc:Nat)(cs vs:LAb)(w:World)(hi:i<n)(f1:n<=c)(a2:c<n+1)(e8:n<=1000000)
 (b3:cs.length=n*7) (e5:vs.length=7)
 (a1:∀j v,cs[j]? =some v->w.cell? ⟨b,j,none⟩=some v)
 (b6:∀j v,vs[j]? =some v->w.cell? ⟨Z,C+j,none⟩=some v) (d6:∀v∈cs,v.oneCell'=true) (c3:∀v∈vs,v.oneCell'=true):
 Calls Tryz.prog 86 #[.slice (some ⟨b,0,none⟩) n c,.int .i64 i,.slice (some ⟨Z,C,none⟩) 1 vc] w fun e w'=>
  e= .returned (.slice (some ⟨w.heap.size,0,none⟩) (n+1) (grownCap w (n+1) c 67))/\
  w'=(((w.alloc (.cells ((cs.take (i*7)).toArray++Builtin.zeroCells gz.cells (n+1-i)++Builtin.zeroCells gz.cells (grownCap w (n+1) c 67-(n+1))) 67)).drew.setCells w.heap.size (i*7) vs).drew).setCells w.heap.size ((i+1)*7) (cs.drop (i*7)):=by
 have t0:=Tryz.underlying0;have a0:=a_0;have z0:=z_0;have v0:=v_0;have t3:=Tryz.underlying3;have a3:=a_3;have z3:=z_3;have v3:=v_3;have t4:=Tryz.underlying4;have a4:=a_4;have z4:=z_4;have v4:=v_4;have t9:=Tryz.underlying67;have a9:=Jj;have z9:=DV;have v9:=Ag;have g9:=Tryz.underlying27;have g1:=Jl;have f6:=I7;have h1:=Ja;have u0:=run_underlying Tryz.underlying0;have u3:=run_underlying Tryz.underlying3;have u4:=run_underlying Tryz.underlying4;have u9:=run_underlying Tryz.underlying67;have h0:=run_underlying Tryz.underlying27;have mixed:=mixed;obtain⟨i0,d2,b7,c7,b5⟩:=info_parts xaa;have f0:¬((i:Int)=(n:Int)):=by omega
 have g6:(c:Int)<(n:Int)+1:=by omega
 have e1:b<w.heap.size:=block_lt_of_cell (a1 0 _ (ac (by omega)));have c5:Z<w.heap.size:=block_lt_of_cell (b6 0 _ (ac (by omega)));have b0:(n:Int)+1-(i:Int)=((n+1-i:Nat):Int):=by omega
 have a6:i+(n+1-i)=n+1:=by omega
 have g8:af.wrap ((n:Int)+1)=(n:Int)+1:=by rw[dA];omega
 have f2:af.wrap ((n:Int)+1-(i:Int))=(n:Int)+1-(i:Int):=by rw[dA];omega
 have Q:(Builtin.firstCells i0.size i (.slice (some ⟨b,0,none⟩) i c)).run Tryz.prog w.drew= .ok (cs.take (i*7)).toArray w.drew:=by
  rw[c7]
  exact run_firstCells_some w.drew 7 i ⟨b,0,none⟩ i c (cs.take (i*7)) (by rw[an];omega) (fun j v E=>by
   rw[ep,bY];rw[bS]at E;split at E
   ·exact a1 j v E
   ·cases E)
 have O:∀ty,(Builtin.append_ #[27,3] ty #[.slice (some ⟨b,0,none⟩) i c,.int .i64 ((n:Int)+1-(i:Int))]).run Tryz.prog w=
  .ok (.slice (some ⟨w.heap.size,0,none⟩) (n+1) (grownCap w (n+1) c 67)) (w.drew.alloc (.cells ((cs.take (i*7)).toArray++Builtin.zeroCells gz.cells (n+1-i)++Builtin.zeroCells gz.cells (grownCap w (n+1) c 67-(n+1))) 67)):=fun ty=>by
  have h:=Lib.run_append_grow_zeros w 27 3 ty 67 i0 _ .i64 .i64 Tryz.underlying27 Tryz.underlying3 d2 b7 (some ⟨b,0,none⟩) i c (cs.take (i*7)) Q (n+1-i) (by omega) (by omega) (by omega) (by omega) (by rw[b5];omega) (by rw[b5,a6];exact growslice_fits a2 (by omega));rw[a6]at h;rw[b0];exact h
 obtain⟨G,hG⟩:∃G,G=grownCap w (n+1) c 67:=⟨_,rfl⟩;have b4:gz.cells.size=7:=rfl;obtain⟨y,J⟩:∃y:LAc,y=(cs.take (i*7)).toArray++Builtin.zeroCells gz.cells (n+1-i)++Builtin.zeroCells gz.cells (G-(n+1)):=⟨_,rfl⟩;rw[<-hG]at O ⊢;rw[<-J]at O ⊢
 have d4:(n+1)*7<=y.size:=by rw[J];simp only[cV,ce,an,b3,cn,b4];omega
 obtain⟨L,F⟩:∃L,L=w.drew.alloc (.cells y 67):=⟨_,rfl⟩;rw[<-F]at O
 have hN:∀j,j<(n+1)*7->(L.cell? ⟨w.heap.size,j,none⟩).isSome=true:=fun j E=>by rw[F,World.cell?_alloc_at (w:=w.drew) y _ w.heap.size j rfl,cB (by omega)];rfl
 have a8:∀j,L.frozen? ⟨w.heap.size,j,none⟩=false:=fun j=>by rw[F];exact World.frozen?_alloc_at (w:=w.drew) y _ w.heap.size j rfl
 have e3:∀j v,w.cell? ⟨b,j,none⟩=some v->L.cell? ⟨b,j,none⟩=some v:=fun j v h=>by rw[F,World.cell?_alloc_past (w:=w.drew) _ b j e1];exact h
 have d1:∀j v,w.cell? ⟨Z,j,none⟩=some v->L.cell? ⟨Z,j,none⟩=some v:=fun j v h=>by rw[F,World.cell?_alloc_past (w:=w.drew) _ Z j c5];exact h
 have b1:∀(W:World),(∀x,W.cell? x=L.cell? x)->(∀x,W.frozen? x=L.frozen? x)->∀ty dc,(Builtin.copy_ #[27,27] ty #[.slice (some ⟨w.heap.size,i*7,none⟩) (n+1-i) dc,.slice (some ⟨Z,C,none⟩) 1 vc]).run Tryz.prog W= .ok (goInt 1) (W.setCells w.heap.size (i*7) vs):=fun W I a7 ty dc=>
  ee W _ _ ty 67 w.heap.size (i*7) (n+1-i) dc ⟨Z,C,none⟩ 1 vc vs 7 1 Tryz.underlying27 xN (by simp only[Nat.min_def];split<;>omega) (by rw[e5])
   (fun j v E=>by rw[ep,I];exact d1 _ v (b6 j v E))
   (fun j E=>by rw[I];exact hN _ (by omega)) (fun j E=>by rw[a7];exact a8 _) c3
 have f5:n+1<=G:=by rw[hG];exact grownCap_ge w _ _ _
 have e7:G<=9223372036854775807:=by have:=grownCap_le_maxLen w (n+1) c 67 (by unfold maxLen;omega);rw[<-hG]at this;unfold maxLen at this;omega
 have g7:¬(G=i):=by omega
 have e6:¬(G=i+1):=by omega
 have g4:¬(c=i):=by omega
 have d7:b≠w.heap.size:=by omega
 have d3:(cs.drop (i*7)).length=(n-i)*7:=by rw[aE,b3];omega
 have T:∀(W:World),(∀x,W.cell? x=(L.setCells w.heap.size (i*7) vs).cell? x)->(∀x,W.frozen? x=(L.setCells w.heap.size (i*7) vs).frozen? x)->∀ty dc sc,(Builtin.copy_ #[27,27] ty #[.slice (some ⟨w.heap.size,(i+1)*7,none⟩) (n-i) dc,.slice (some ⟨b,i*7,none⟩) (n-i) sc]).run Tryz.prog W= .ok (goInt ((n-i:Nat):Int)) (W.setCells w.heap.size ((i+1)*7) (cs.drop (i*7))):=fun W I a7 ty dc sc=>
  ee W _ _ ty 67 w.heap.size ((i+1)*7) (n-i) dc ⟨b,i*7,none⟩ (n-i) sc (cs.drop (i*7)) 7 (n-i) Tryz.underlying27 xN (by simp only[Nat.min_def];split<;>omega) d3
   (fun j v E=>by rw[ep,I,World.cell?_setCells_out _ _ _ _ _ (fun h _=>absurd h d7)];exact e3 _ v (a1 (i*7+j) v (by rwa[bB]at E)))
   (fun j E=>by rw[I];exact isSome_setCells _ _ _ _ (fun t ht=>hN _ (by omega)) _ (hN _ (by omega)))
   (fun j E=>by rw[a7,World.frozen?_setCells];exact a8 _) (fun v hv=>d6 v (cH hv))
 subst F;have d5:∀x,((w.alloc (.cells y 67)).drew).cell? x=(w.drew.alloc (.cells y 67)).cell? x:=fun x=>rfl
 have e4:∀x,((w.alloc (.cells y 67)).drew).frozen? x=(w.drew.alloc (.cells y 67)).frozen? x:=fun x=>rfl
 have e2:∀x,(((w.alloc (.cells y 67)).drew.setCells w.heap.size (i*7) vs).drew).cell? x=((w.drew.alloc (.cells y 67)).setCells w.heap.size (i*7) vs).cell? x:=fun x=>rfl
 have e0:∀x,(((w.alloc (.cells y 67)).drew.setCells w.heap.size (i*7) vs).drew).frozen? x=((w.drew.alloc (.cells y 67)).setCells w.heap.size (i*7) vs).frozen? x:=fun x=>rfl
 have g5:af.wrap ((i:Int)+1)=(i:Int)+1:=by rw[dA];omega
 have f3:(0:Int)<=(i:Int)+1:=by omega
 have g3:i<=n:=by omega
 have g2:((i:Int)+1).toNat=i+1:=by omega
 have e9:(i:Int)<=(n:Int):=by omega
 clear b0 a6 Q J hG d4
 go_enter Tryz.func86,Tryz.ntmps86
 go_wp2_with (first
  |(at_builtin;refine Lib.wpList_append_run _ rfl _ _ _ _ rfl _ _ rfl rfl _ _ (O _) ?_)
  |(at_builtin;refine wpList_copy_runI _ rfl _ _ 27 27 rfl _ _ rfl rfl (b1 _ d5 e4 _ _) ?_)
  |(at_builtin;refine wpList_copy_runI _ rfl _ _ 27 27 rfl _ _ rfl rfl (T _ (fun _=>rfl) (fun _=>rfl) _ _ _) ?_))
 go_region_law_o (refine step_copy_runI rfl _ _ 27 27 rfl (.slice (some ⟨w.heap.size,(i+1)*7,none⟩) (n-i) (G-(i+1))) (.slice (some ⟨b,i*7,none⟩) (n-i) (c-i)) (by simp[Act.eval,Act.put]) (by simp[Act.eval,Act.put]) (T _ e2 e0 3 (G-(i+1)) (c-i)) ?_)
 go_wp2
 go_ret
 exact⟨rfl,rfl⟩
theorem I6:∀w,(Go.sizeOf 28).run Tryz.prog w= .ok 1 w:=fun w=>cz (by kernel_rfl) w
theorem Jk:∀w,(isAgg 28).run Tryz.prog w= .ok false w:=fun w=>fe (by kernel_rfl) w
theorem I9:∀w,(zeroValue 28).run Tryz.prog w= .ok (.slice none 0 0) w:=fun w=>kK (by kernel_rfl) w
theorem DU:∀w,(Go.sizeOf 70).run Tryz.prog w= .ok 2 w:=fun w=>cz (by kernel_rfl) w
theorem Ji:∀w,(isAgg 70).run Tryz.prog w= .ok true w:=fun w=>fe (by kernel_rfl) w
theorem Af:∀w,(zeroValue 70).run Tryz.prog w= .ok (.agg #[.slice none 0 0,.int .i64 0]) w:=fun w=>kK (by kernel_rfl) w
def gx:Value:=Value.agg #[.slice none 0 0,.int .i64 0]
theorem Z9:(Tryz.prog.info? 70).map (fun i=>(i.zero,i.size,i.bytes))=some (some gx,2,32):=by kernel_rfl
theorem Iy:fI Tryz.prog 70=some 2:=by kernel_rfl
theorem xM:(Tryz.prog.info? 70).map (·.size)=some 2:=by obtain⟨F,y,E,C,I⟩:=info_parts Z9;rw[y];simp[C]
theorem zB(w:World)(C y vc:Nat)(vs:LAb)(E:vs.length=2)(F:∀j v,vs[j]? =some v->w.cell? ⟨C,y+j,none⟩=some v):(Builtin.firstCells 2 1 (.slice (some ⟨C,y,none⟩) 1 vc)).run Tryz.prog w= .ok vs.toArray w:=
 run_firstCells_some w 2 1 ⟨C,y,none⟩ 1 vc vs (by rw[E]) (fun j v I=>by rw[ep];exact F j v I)
set_option maxHeartbeats 8000000 in
set_option maxRecDepth 100000 in
theorem GV(b n c i F y vc:Nat)(cs vs:LAb)(w:World)(hi:i<n)(a8:n+1<=c)(d1:n<=1000000)(a1:F≠b)
 (b3:cs.length=n*2) (c5:vs.length=2)
 (a6:∀j v,cs[j]? =some v->w.cell? ⟨b,j,none⟩=some v) (L:∀j,j<(n+1)*2->(w.cell? ⟨b,j,none⟩).isSome=true) (O:∀j,j<(n+1)*2->w.frozen? ⟨b,j,none⟩=false)
 (b7:∀j v,vs[j]? =some v->w.cell? ⟨F,y+j,none⟩=some v) (b5:∀v∈cs,v.oneCell'=true) (b0:∀v∈vs,v.oneCell'=true)
 (tA tB:TypeId) (kA kB:Nat) (b4:w.shape? F=some (tA,kA+1)) (a7:w.shape? b=some (tB,kB)) (b1:w.frozen? ⟨b,kB,none⟩=false):
 Calls Tryz.prog 90 #[.slice (some ⟨b,0,none⟩) n c,.int .i64 i,.slice (some ⟨F,y,none⟩) 1 vc] w fun e w'=>e= .returned (.slice (some ⟨b,0,none⟩) (n+1) c)/\w'=(w.drew.setCells b ((i+1)*2) (cs.drop (i*2))).setCells b (i*2) vs:=by
 have t0:=Tryz.underlying0;have a0:=a_0;have z0:=z_0;have v0:=v_0;have t3:=Tryz.underlying3;have a3:=a_3;have z3:=z_3;have v3:=v_3;have t4:=Tryz.underlying4;have a4:=a_4;have z4:=z_4;have v4:=v_4;have t9:=Tryz.underlying70;have a9:=Ji;have z9:=DU;have v9:=Af;have e4:=Tryz.underlying28;have d7:=Jk;have d6:=I6;have e7:=I9;have u0:=run_underlying Tryz.underlying0;have u3:=run_underlying Tryz.underlying3;have u4:=run_underlying Tryz.underlying4;have u9:=run_underlying Tryz.underlying70;have e5:=run_underlying Tryz.underlying28;have mixed:=mixed;have d3:¬((i:Int)=(n:Int)):=by omega
 have b6:∀lb cb,(callFunc 135 #[.slice (some ⟨F,y,none⟩) 1 vc,.slice (some ⟨b,(i+1)*2,none⟩) lb cb]).run Tryz.prog w= .ok (.value (.bool false)) w:=fun lb cb=>by
  rw[run_callFunc_extern Tryz.func135 (by kernel_rfl) (by kernel_rfl) (by kernel_rfl) (e:=Extern.SlicesOverlaps.overlaps #[28,28] #[4]) (by kernel_rfl),
   mY w 28 4 70 Tryz.underlying28 2 DU ⟨F,y,none⟩ ⟨b,(i+1)*2,none⟩ 1 vc lb cb a1 tA tB kA kB b4 a7 (O ((i+1)*2) (by omega)) b1]
  rfl
 have T:(cs.drop (i*2)).length=(n-i)*2:=by rw[aE,b3];omega
 have e2:af.wrap ((i:Int)+1)=(i:Int)+1:=by rw[dA];omega
 have e3:af.wrap ((n:Int)+1)=(n:Int)+1:=by rw[dA];omega
 have d4:(0:Int)<=(i:Int)+1:=by omega
 have e1:i<=n:=by omega
 have e0:((i:Int)+1).toNat=i+1:=by omega
 have c7:((n:Int)+1).toNat=n+1:=by omega
 have d5:¬(c=i+1):=by omega
 have d2:(i:Int)<=(n:Int)+1:=by omega
 have e6:¬(c=i):=by omega
 have I:∀ty J sc,(Builtin.copy_ #[28,28] ty #[.slice (some ⟨b,(i+1)*2,none⟩) (n-i) J,.slice (some ⟨b,i*2,none⟩) (n+1-i) sc]).run Tryz.prog w.drew= .ok (goInt ((n-i:Nat):Int)) (w.drew.setCells b ((i+1)*2) (cs.drop (i*2))):=fun ty J sc=>
  ee w.drew _ _ ty 70 b ((i+1)*2) (n-i) J ⟨b,i*2,none⟩ (n+1-i) sc (cs.drop (i*2)) 2 (n-i) Tryz.underlying28 xM (by simp only[Nat.min_def];split<;>omega) T
   (fun j v E=>by rw[ep];exact a6 (i*2+j) v (by rwa[bB]at E))
   (fun j E=>L _ (by omega)) (fun j E=>O _ (by omega)) (fun v hv=>b5 v (cH hv))
 obtain⟨W1,C⟩:∃W1,W1=w.drew.setCells b ((i+1)*2) (cs.drop (i*2)):=⟨_,rfl⟩
 have Q:∀k,k<(n+1)*2->(W1.cell? ⟨b,k,none⟩).isSome=true:=fun k hk=>by rw[C];exact isSome_setCells b _ _ _ (fun j E=>by rw[T]at E;exact L _ (by omega)) _ (L k hk)
 have Z:∀(W:World),(∀x,W.cell? x=W1.cell? x)->(∀x,W.frozen? x=W1.frozen? x)->∀ty J,(Builtin.copy_ #[28,28] ty #[.slice (some ⟨b,i*2,none⟩) (n+1-i) J,.slice (some ⟨F,y,none⟩) 1 vc]).run Tryz.prog W= .ok (goInt 1) (W.setCells b (i*2) vs):=fun W a2 c3 ty J=>
  ee W _ _ ty 70 b (i*2) (n+1-i) J ⟨F,y,none⟩ 1 vc vs 2 1 Tryz.underlying28 xM (by simp only[Nat.min_def];split<;>omega) (by rw[c5])
   (fun j v E=>by rw[ep,a2,C,World.cell?_setCells_out b _ _ _ _ (fun h _=>absurd h a1)];exact b7 j v E)
   (fun j E=>by rw[a2];exact Q _ (by omega)) (fun j E=>by rw[c3,C,World.frozen?_setCells];exact O _ (by omega)) b0
 rw[<-C]at I
 go_enter Tryz.func90,Tryz.ntmps90
 go_wp2_with (simp only[b6])
 go_region_law_o (refine step_copy_runI rfl _ _ 28 28 rfl _ _ (by simp[Act.eval,Act.put]) (by simp[Act.eval,Act.put]) (I _ _ _) ?_)
 go_wp2_with (at_builtin;refine wpList_copy_runI _ rfl _ _ 28 28 rfl _ _ rfl rfl (Z _ (fun _=>rfl) (fun _=>rfl) _ _) ?_)
 go_ret
 first|exact⟨rfl,rfl⟩|exact⟨rfl,by rw[C]⟩
set_option maxHeartbeats 8000000 in
set_option maxRecDepth 100000 in
theorem JD(b n c I y vc:Nat)(vs:LAb)(w:World)(C:n+1<=c)(W:n<=1000000)
 (E:vs.length=2) (Q:∀j,j<2->(w.cell? ⟨b,n*2+j,none⟩).isSome=true) (O:∀j,j<2->w.frozen? ⟨b,n*2+j,none⟩=false)
 (T:∀j v,vs[j]? =some v->w.cell? ⟨I,y+j,none⟩=some v) (J:∀v∈vs,v.oneCell'=true):
 Calls Tryz.prog 90 #[.slice (some ⟨b,0,none⟩) n c,.int .i64 n,.slice (some ⟨I,y,none⟩) 1 vc] w fun e w'=>e= .returned (.slice (some ⟨b,0,none⟩) (n+1) c)/\w'=w.setCells b (n*2) vs:=by
 have t0:=Tryz.underlying0;have a0:=a_0;have z0:=z_0;have v0:=v_0;have t3:=Tryz.underlying3;have a3:=a_3;have z3:=z_3;have v3:=v_3;have t4:=Tryz.underlying4;have a4:=a_4;have z4:=z_4;have v4:=v_4;have t9:=Tryz.underlying70;have a9:=Ji;have z9:=DU;have v9:=Af;have a2:=Tryz.underlying28;have a1:=Jk;have Z:=I6;have a7:=I9;have u0:=run_underlying Tryz.underlying0;have u3:=run_underlying Tryz.underlying3;have u4:=run_underlying Tryz.underlying4;have u9:=run_underlying Tryz.underlying70;have a6:=run_underlying Tryz.underlying28;have mixed:=mixed;have L:=run_storeCells_cells (P:=Tryz.prog) b (n*2) vs 0 w (by rw[E];simpa using Q) (by rw[E];simpa using O) J
 have F:∀ty,(Builtin.append_ #[28,28] ty #[.slice (some ⟨b,0,none⟩) n c,.slice (some ⟨I,y,none⟩) 1 vc]).run Tryz.prog w= .ok (.slice (some ⟨b,0,none⟩) (n+1) c) (w.setCells b (n*2) vs):=fun ty=>
  eZ (P:=Tryz.prog) (t:=28) (u:=28) (ty:=ty) (bs:=some ⟨b,0,none⟩) (len:=n) (m:=1) (cap:=c) Tryz.underlying28 Tryz.underlying28 (.inl ⟨_,rfl⟩) Iy rfl (zB w I y vc vs E T) C (by show(storeCells ((⟨b,0,none⟩:Addr).add (n*2)) vs).run Tryz.prog w=_;rw[ep,bY];simpa using L)
 go_enter Tryz.func90,Tryz.ntmps90
 go_wp2_with (at_builtin;refine Lib.wpList_append_run _ rfl _ _ _ _ rfl _ _ rfl rfl _ _ (F _) ?_)
 go_ret
 exact⟨rfl,rfl⟩
set_option maxHeartbeats 8000000 in
set_option maxRecDepth 100000 in
theorem Ym(y:Option Addr)(n c Z C vc:Nat)(cs vs:LAb)(w:World)(c5:n<=c)(a6:c<n+1)(b3:n<=1000000)
 (Q:cs.length=n*2) (b1:vs.length=2) (I:y=none->n=0)
 (a2:∀a,y=some a->∀j v,cs[j]? =some v->w.cell? (a.add j)=some v)
 (a8:∀j v,vs[j]? =some v->w.cell? ⟨Z,C+j,none⟩=some v) (c3:∀v∈vs,v.oneCell'=true):
 Calls Tryz.prog 90 #[.slice y n c,.int .i64 n,.slice (some ⟨Z,C,none⟩) 1 vc] w fun e w'=>
  ∃F,n+1<=F/\e= .returned (.slice (some ⟨w.heap.size,0,none⟩) (n+1) F)/\
  w'=w.drew.alloc (.cells (cs.toArray++vs.toArray++Builtin.zeroCells gx.cells (F-(n+1))) 70 (0,0)):=by
 have t0:=Tryz.underlying0;have a0:=a_0;have z0:=z_0;have v0:=v_0;have t3:=Tryz.underlying3;have a3:=a_3;have z3:=z_3;have v3:=v_3;have t4:=Tryz.underlying4;have a4:=a_4;have z4:=z_4;have v4:=v_4;have t9:=Tryz.underlying70;have a9:=Ji;have z9:=DU;have v9:=Af;have d1:=Tryz.underlying28;have b6:=Jk;have b5:=I6;have d3:=I9;have u0:=run_underlying Tryz.underlying0;have u3:=run_underlying Tryz.underlying3;have u4:=run_underlying Tryz.underlying4;have u9:=run_underlying Tryz.underlying70;have d2:=run_underlying Tryz.underlying28;have mixed:=mixed;obtain⟨i0,b0,b7,c7,a7⟩:=info_parts Z9
 have T:∀w':World,w'.heap=w.heap->(Builtin.firstCells 2 n (.slice y n c)).run Tryz.prog w'= .ok cs.toArray w':=fun w' O=>by
  cases y with
  |none=>have h0:=I rfl;subst h0;rw[b8.1 (Q.trans (iq _))];exact run_firstCells_none w' 2 0 0 c
  |some a=>exact run_firstCells_some w' 2 n a n c cs Q (fun j v hj=>by have:=a2 a rfl j v hj;simpa only[World.cell?,O]using this)
 obtain⟨F,W,J⟩:=fp (P:=Tryz.prog) (w:=w) (t:=28) (u:=28) (ty:=28) (Y:= .slice (some ⟨Z,C,none⟩) 1 vc) (bs:=y) (len:=n) (m:=1) (cap:=c) (os:=cs) (ns:=vs) (by_:=32) (z:=gx) (i:=i0) Tryz.underlying28 Tryz.underlying28 (.inl ⟨_,rfl⟩) Iy b0 a7 (by decide) Af (fun _ _=>rfl) (fun w' O=>zB w' Z C vc vs b1 (fun j v hj=>by have:=a8 j v hj;simpa only[World.cell?,O]using this)) T (by omega) (by omega)
 have E:∀ty,(Builtin.append_ #[28,28] ty #[.slice y n c,.slice (some ⟨Z,C,none⟩) 1 vc]).run Tryz.prog w= .ok (.slice (some ⟨w.heap.size,0,none⟩) (n+1) F) (w.drew.alloc (.cells (cs.toArray++vs.toArray++Builtin.zeroCells gx.cells (F-(n+1))) 70 (0,0))):=fun ty=>J
 refine Calls.mono (R:=fun e w'=>e= .returned (.slice (some ⟨w.heap.size,0,none⟩) (n+1) F)/\w'=w.drew.alloc (.cells (cs.toArray++vs.toArray++Builtin.zeroCells gx.cells (F-(n+1))) 70 (0,0))) ?_ (fun e w' h=>⟨F,W,h.1,h.2⟩);obtain⟨a1,L⟩:∃a1:LAc,a1=cs.toArray++vs.toArray++Builtin.zeroCells gx.cells (F-(n+1)):=⟨_,rfl⟩;rw[<-L]at E ⊢;clear L J
 go_enter Tryz.func90,Tryz.ntmps90
 cases y with
 |none=>
  have h0:=I rfl;subst h0
  go_wp2_with (at_builtin;refine Lib.wpList_append_run _ rfl _ _ _ _ rfl _ _ rfl rfl _ _ (E _) ?_)
  go_ret
  exact⟨rfl,rfl⟩
 |some a=>
  obtain⟨ab,ao,b4⟩:=a
  go_wp2_with (at_builtin;refine Lib.wpList_append_run _ rfl _ _ _ _ rfl _ _ rfl rfl _ _ (E _) ?_)
  all_goals (go_ret;exact⟨rfl,rfl⟩)
set_option maxHeartbeats 8000000 in
set_option maxRecDepth 100000 in
theorem JE(b n c i Z C vc:Nat)(cs vs:LAb)(w:World)(hi:i<n)(f1:n<=c)(a2:c<n+1)(e8:n<=1000000)
 (b3:cs.length=n*2) (e5:vs.length=2)
 (a1:∀j v,cs[j]? =some v->w.cell? ⟨b,j,none⟩=some v)
 (b6:∀j v,vs[j]? =some v->w.cell? ⟨Z,C+j,none⟩=some v) (d6:∀v∈cs,v.oneCell'=true) (c3:∀v∈vs,v.oneCell'=true):
 Calls Tryz.prog 90 #[.slice (some ⟨b,0,none⟩) n c,.int .i64 i,.slice (some ⟨Z,C,none⟩) 1 vc] w fun e w'=>
  e= .returned (.slice (some ⟨w.heap.size,0,none⟩) (n+1) (grownCap w (n+1) c 70))/\
  w'=(((w.alloc (.cells ((cs.take (i*2)).toArray++Builtin.zeroCells gx.cells (n+1-i)++Builtin.zeroCells gx.cells (grownCap w (n+1) c 70-(n+1))) 70)).drew.setCells w.heap.size (i*2) vs).drew).setCells w.heap.size ((i+1)*2) (cs.drop (i*2)):=by
 have t0:=Tryz.underlying0;have a0:=a_0;have z0:=z_0;have v0:=v_0;have t3:=Tryz.underlying3;have a3:=a_3;have z3:=z_3;have v3:=v_3;have t4:=Tryz.underlying4;have a4:=a_4;have z4:=z_4;have v4:=v_4;have t9:=Tryz.underlying70;have a9:=Ji;have z9:=DU;have v9:=Af;have g9:=Tryz.underlying28;have g1:=Jk;have f6:=I6;have h1:=I9;have u0:=run_underlying Tryz.underlying0;have u3:=run_underlying Tryz.underlying3;have u4:=run_underlying Tryz.underlying4;have u9:=run_underlying Tryz.underlying70;have h0:=run_underlying Tryz.underlying28;have mixed:=mixed;obtain⟨i0,d2,b7,c7,b5⟩:=info_parts Z9;have f0:¬((i:Int)=(n:Int)):=by omega
 have g6:(c:Int)<(n:Int)+1:=by omega
 have e1:b<w.heap.size:=block_lt_of_cell (a1 0 _ (ac (by omega)));have c5:Z<w.heap.size:=block_lt_of_cell (b6 0 _ (ac (by omega)));have b0:(n:Int)+1-(i:Int)=((n+1-i:Nat):Int):=by omega
 have a6:i+(n+1-i)=n+1:=by omega
 have g8:af.wrap ((n:Int)+1)=(n:Int)+1:=by rw[dA];omega
 have f2:af.wrap ((n:Int)+1-(i:Int))=(n:Int)+1-(i:Int):=by rw[dA];omega
 have Q:(Builtin.firstCells i0.size i (.slice (some ⟨b,0,none⟩) i c)).run Tryz.prog w.drew= .ok (cs.take (i*2)).toArray w.drew:=by
  rw[c7]
  exact run_firstCells_some w.drew 2 i ⟨b,0,none⟩ i c (cs.take (i*2)) (by rw[an];omega) (fun j v E=>by
   rw[ep,bY];rw[bS]at E;split at E
   ·exact a1 j v E
   ·cases E)
 have O:∀ty,(Builtin.append_ #[28,3] ty #[.slice (some ⟨b,0,none⟩) i c,.int .i64 ((n:Int)+1-(i:Int))]).run Tryz.prog w=
  .ok (.slice (some ⟨w.heap.size,0,none⟩) (n+1) (grownCap w (n+1) c 70)) (w.drew.alloc (.cells ((cs.take (i*2)).toArray++Builtin.zeroCells gx.cells (n+1-i)++Builtin.zeroCells gx.cells (grownCap w (n+1) c 70-(n+1))) 70)):=fun ty=>by
  have h:=Lib.run_append_grow_zeros w 28 3 ty 70 i0 _ .i64 .i64 Tryz.underlying28 Tryz.underlying3 d2 b7 (some ⟨b,0,none⟩) i c (cs.take (i*2)) Q (n+1-i) (by omega) (by omega) (by omega) (by omega) (by rw[b5];omega) (by rw[b5,a6];exact growslice_fits a2 (by omega));rw[a6]at h;rw[b0];exact h
 obtain⟨G,hG⟩:∃G,G=grownCap w (n+1) c 70:=⟨_,rfl⟩;have b4:gx.cells.size=2:=rfl;obtain⟨y,J⟩:∃y:LAc,y=(cs.take (i*2)).toArray++Builtin.zeroCells gx.cells (n+1-i)++Builtin.zeroCells gx.cells (G-(n+1)):=⟨_,rfl⟩;rw[<-hG]at O ⊢;rw[<-J]at O ⊢
 have d4:(n+1)*2<=y.size:=by rw[J];simp only[cV,ce,an,b3,cn,b4];omega
 obtain⟨L,F⟩:∃L,L=w.drew.alloc (.cells y 70):=⟨_,rfl⟩;rw[<-F]at O
 have hN:∀j,j<(n+1)*2->(L.cell? ⟨w.heap.size,j,none⟩).isSome=true:=fun j E=>by rw[F,World.cell?_alloc_at (w:=w.drew) y _ w.heap.size j rfl,cB (by omega)];rfl
 have a8:∀j,L.frozen? ⟨w.heap.size,j,none⟩=false:=fun j=>by rw[F];exact World.frozen?_alloc_at (w:=w.drew) y _ w.heap.size j rfl
 have e3:∀j v,w.cell? ⟨b,j,none⟩=some v->L.cell? ⟨b,j,none⟩=some v:=fun j v h=>by rw[F,World.cell?_alloc_past (w:=w.drew) _ b j e1];exact h
 have d1:∀j v,w.cell? ⟨Z,j,none⟩=some v->L.cell? ⟨Z,j,none⟩=some v:=fun j v h=>by rw[F,World.cell?_alloc_past (w:=w.drew) _ Z j c5];exact h
 have b1:∀(W:World),(∀x,W.cell? x=L.cell? x)->(∀x,W.frozen? x=L.frozen? x)->∀ty dc,(Builtin.copy_ #[28,28] ty #[.slice (some ⟨w.heap.size,i*2,none⟩) (n+1-i) dc,.slice (some ⟨Z,C,none⟩) 1 vc]).run Tryz.prog W= .ok (goInt 1) (W.setCells w.heap.size (i*2) vs):=fun W I a7 ty dc=>
  ee W _ _ ty 70 w.heap.size (i*2) (n+1-i) dc ⟨Z,C,none⟩ 1 vc vs 2 1 Tryz.underlying28 xM (by simp only[Nat.min_def];split<;>omega) (by rw[e5])
   (fun j v E=>by rw[ep,I];exact d1 _ v (b6 j v E))
   (fun j E=>by rw[I];exact hN _ (by omega)) (fun j E=>by rw[a7];exact a8 _) c3
 have f5:n+1<=G:=by rw[hG];exact grownCap_ge w _ _ _
 have e7:G<=9223372036854775807:=by have:=grownCap_le_maxLen w (n+1) c 70 (by unfold maxLen;omega);rw[<-hG]at this;unfold maxLen at this;omega
 have g7:¬(G=i):=by omega
 have e6:¬(G=i+1):=by omega
 have g4:¬(c=i):=by omega
 have d7:b≠w.heap.size:=by omega
 have d3:(cs.drop (i*2)).length=(n-i)*2:=by rw[aE,b3];omega
 have T:∀(W:World),(∀x,W.cell? x=(L.setCells w.heap.size (i*2) vs).cell? x)->(∀x,W.frozen? x=(L.setCells w.heap.size (i*2) vs).frozen? x)->∀ty dc sc,(Builtin.copy_ #[28,28] ty #[.slice (some ⟨w.heap.size,(i+1)*2,none⟩) (n-i) dc,.slice (some ⟨b,i*2,none⟩) (n-i) sc]).run Tryz.prog W= .ok (goInt ((n-i:Nat):Int)) (W.setCells w.heap.size ((i+1)*2) (cs.drop (i*2))):=fun W I a7 ty dc sc=>
  ee W _ _ ty 70 w.heap.size ((i+1)*2) (n-i) dc ⟨b,i*2,none⟩ (n-i) sc (cs.drop (i*2)) 2 (n-i) Tryz.underlying28 xM (by simp only[Nat.min_def];split<;>omega) d3
   (fun j v E=>by rw[ep,I,World.cell?_setCells_out _ _ _ _ _ (fun h _=>absurd h d7)];exact e3 _ v (a1 (i*2+j) v (by rwa[bB]at E)))
   (fun j E=>by rw[I];exact isSome_setCells _ _ _ _ (fun t ht=>hN _ (by omega)) _ (hN _ (by omega)))
   (fun j E=>by rw[a7,World.frozen?_setCells];exact a8 _) (fun v hv=>d6 v (cH hv))
 subst F;have d5:∀x,((w.alloc (.cells y 70)).drew).cell? x=(w.drew.alloc (.cells y 70)).cell? x:=fun x=>rfl
 have e4:∀x,((w.alloc (.cells y 70)).drew).frozen? x=(w.drew.alloc (.cells y 70)).frozen? x:=fun x=>rfl
 have e2:∀x,(((w.alloc (.cells y 70)).drew.setCells w.heap.size (i*2) vs).drew).cell? x=((w.drew.alloc (.cells y 70)).setCells w.heap.size (i*2) vs).cell? x:=fun x=>rfl
 have e0:∀x,(((w.alloc (.cells y 70)).drew.setCells w.heap.size (i*2) vs).drew).frozen? x=((w.drew.alloc (.cells y 70)).setCells w.heap.size (i*2) vs).frozen? x:=fun x=>rfl
 have g5:af.wrap ((i:Int)+1)=(i:Int)+1:=by rw[dA];omega
 have f3:(0:Int)<=(i:Int)+1:=by omega
 have g3:i<=n:=by omega
 have g2:((i:Int)+1).toNat=i+1:=by omega
 have e9:(i:Int)<=(n:Int):=by omega
 clear b0 a6 Q J hG d4
 go_enter Tryz.func90,Tryz.ntmps90
 go_wp2_with (first
  |(at_builtin;refine Lib.wpList_append_run _ rfl _ _ _ _ rfl _ _ rfl rfl _ _ (O _) ?_)
  |(at_builtin;refine wpList_copy_runI _ rfl _ _ 28 28 rfl _ _ rfl rfl (b1 _ d5 e4 _ _) ?_)
  |(at_builtin;refine wpList_copy_runI _ rfl _ _ 28 28 rfl _ _ rfl rfl (T _ (fun _=>rfl) (fun _=>rfl) _ _ _) ?_))
 go_region_law_o (refine step_copy_runI rfl _ _ 28 28 rfl (.slice (some ⟨w.heap.size,(i+1)*2,none⟩) (n-i) (G-(i+1))) (.slice (some ⟨b,i*2,none⟩) (n-i) (c-i)) (by simp[Act.eval,Act.put]) (by simp[Act.eval,Act.put]) (T _ e2 e0 3 (G-(i+1)) (c-i)) ?_)
 go_wp2
 go_ret
 exact⟨rfl,rfl⟩
theorem F5:xi9 Tryz.prog 86 67 7 where
 cb:=by kernel_rfl
 shift:=fun b n c i vb C vc cs vs w hi y E a8 I F Q a2 a1 J T L hsh=>by
  obtain⟨tB,kB,b1,b3⟩:=hsh;have h0:0<vs.length:=by rw[F];decide
  obtain⟨tA,kA,b0⟩:=yz (J 0 _ (ac h0));exact GX b n c i vb C vc cs vs w hi y E a8 I F Q a2 a1 J T L tA tB kA kB b0 b1 b3
 room:=fun b n c vb C vc vs w y E F a2 a1 J L=>JH b n c vb C vc vs w y E F a2 a1 J L
 grow:=fun b n c i vb C vc cs vs w hi W y E I F Q J T L=>by
  refine(JI b n c i vb C vc cs vs w hi W y E I F Q J T L).mono ?_;rintro e w' ⟨rfl,rfl⟩;have Z:n+1<=grownCap w (n+1) c 67:=grownCap_ge w _ _ _;have O:gz.cells.size=7:=rfl;refine⟨grownCap w (n+1) c 67,_,Z, ?_,rfl,rfl,fun k hk=> ?_⟩
  ·simp only[cV,cn,O,ce,an,I]
   omega
  ·have hl:(cs.take (i*7)).length=i*7:=by rw[an];omega
   rw[aS,cy (by simp only[cV,ce,hl,cn,O];omega),cy (by simp only[ce,hl];omega)];rw[dh,bS,if_pos hk,<-aa]
 endg:=fun a6 n c vb C vc cs vs w W y E I F a7 Q J L=>by
  refine(Yo a6 n c vb C vc cs vs w W y E I F a7 Q J L).mono ?_;rintro e w' ⟨nc,Z,rfl,rfl⟩;have O:gz.cells.size=7:=rfl;refine⟨nc,_,Z, ?_,rfl,rfl,fun k hk=> ?_⟩
  ·simp only[cV,cn,O,ce,I,F]
   omega
  ·rw[aS,cy (by simp only[cV,ce,I,F];omega),List.append_toArray,dh,<-aa]
def p86:f8->List aH->Nat->Option dV
 |[.psl 0 7 0 n none,.int .i64 i,.lst 7 [s] t],[.arr 7 rows],0=>if rows.length=n/\0<=i/\i<=n/\n<=1000000 then some ⟨.psl 100 7 0 (n+1) none,[(100,.arr 7 (kO rows i.toNat s))],[]⟩else none
 |[.lst 7 [] .clip,.int .i64 0,.lst 7 [s] t],[],0=>some ⟨.psl 100 7 0 1 none,[(100,.arr 7 [s])],[]⟩
 |_,_,_=>none
theorem p86_ok:∀y os k q,p86 y os k=some q->fZ Tryz.prog 86 y os k (· =q):=by
 intro y os k q h;unfold p86 at h;split at h
 ·rename_i n i s t rows
  rw[aJ]at h;obtain⟨⟨E,F,I,C⟩,h⟩:=h;cases h;obtain⟨j,rfl⟩:∃j:Nat,i=j:=⟨i.toNat,by omega⟩;have:=uy (by decide) (by decide) F5 (rows:=rows) (i:=j) (n:=n) (s:=s) (t:=t) E (by omega) C;rw[Int.toNat_natCast];exact this
 ·cases h
  exact qI (by decide) F5
 ·cases h
theorem F3:xi9 Tryz.prog 90 70 2 where
 cb:=by kernel_rfl
 shift:=fun b n c i vb C vc cs vs w hi y E a8 I F Q a2 a1 J T L hsh=>by
  obtain⟨tB,kB,b1,b3⟩:=hsh;have h0:0<vs.length:=by rw[F];decide
  obtain⟨tA,kA,b0⟩:=yz (J 0 _ (ac h0));exact GV b n c i vb C vc cs vs w hi y E a8 I F Q a2 a1 J T L tA tB kA kB b0 b1 b3
 room:=fun b n c vb C vc vs w y E F a2 a1 J L=>JD b n c vb C vc vs w y E F a2 a1 J L
 grow:=fun b n c i vb C vc cs vs w hi W y E I F Q J T L=>by
  refine(JE b n c i vb C vc cs vs w hi W y E I F Q J T L).mono ?_;rintro e w' ⟨rfl,rfl⟩;have Z:n+1<=grownCap w (n+1) c 70:=grownCap_ge w _ _ _;have O:gx.cells.size=2:=rfl;refine⟨grownCap w (n+1) c 70,_,Z, ?_,rfl,rfl,fun k hk=> ?_⟩
  ·simp only[cV,cn,O,ce,an,I]
   omega
  ·have hl:(cs.take (i*2)).length=i*2:=by rw[an];omega
   rw[aS,cy (by simp only[cV,ce,hl,cn,O];omega),cy (by simp only[ce,hl];omega)];rw[dh,bS,if_pos hk,<-aa]
 endg:=fun a6 n c vb C vc cs vs w W y E I F a7 Q J L=>by
  refine(Ym a6 n c vb C vc cs vs w W y E I F a7 Q J L).mono ?_;rintro e w' ⟨nc,Z,rfl,rfl⟩;have O:gx.cells.size=2:=rfl;refine⟨nc,_,Z, ?_,rfl,rfl,fun k hk=> ?_⟩
  ·simp only[cV,cn,O,ce,I,F]
   omega
  ·rw[aS,cy (by simp only[cV,ce,I,F];omega),List.append_toArray,dh,<-aa]
def p90:f8->List aH->Nat->Option dV
 |[.psl 0 2 0 n none,.int .i64 i,.lst 2 [s] t],[.arr 2 rows],0=>if rows.length=n/\0<=i/\i<=n/\n<=1000000 then some ⟨.psl 100 2 0 (n+1) none,[(100,.arr 2 (kO rows i.toNat s))],[]⟩else none
 |[.lst 2 [] .clip,.int .i64 0,.lst 2 [s] t],[],0=>some ⟨.psl 100 2 0 1 none,[(100,.arr 2 [s])],[]⟩
 |_,_,_=>none
theorem p90_ok:∀y os k q,p90 y os k=some q->fZ Tryz.prog 90 y os k (· =q):=by
 intro y os k q h;unfold p90 at h;split at h
 ·rename_i n i s t rows
  rw[aJ]at h;obtain⟨⟨E,F,I,C⟩,h⟩:=h;cases h;obtain⟨j,rfl⟩:∃j:Nat,i=j:=⟨i.toNat,by omega⟩;have:=uy (by decide) (by decide) F3 (rows:=rows) (i:=j) (n:=n) (s:=s) (t:=t) E (by omega) C;rw[Int.toNat_natCast];exact this
 ·cases h
  exact qI (by decide) F3
 ·cases h
end
end Pr
end Go.Proofs.YtbfnljmmepcbfaaGreatDoor
namespace Go.Proofs.YtbfnljmmepcbfaaGreatDoor
open Go.Sy
open Go.RowKit Go.ChangeShapes Go.WideShapes Go.Shelf Go.Lib
namespace Pr
section
variable [bx]
variable {P : Program} {x : Sit}
structure xki(P:Program)(g:Nat)(el:TypeId)(sz:Nat):Prop where
 cb:eu P g=true
 nil:∀(w:World),Calls P g #[.slice none 0 0] w fun e w'=>e= .returned (.slice none 0 0)/\w'=w
 zero:∀(a:Addr)(c:Nat)(w:World),Calls P g #[.slice (some a) 0 c] w fun e w'=>(∃a',e= .returned (.slice (some a') 0 0))/\Below w.heap.size w w'
 some:∀(b off n c:Nat)(cs:List Value)(w:World),1<=n->n<=1000000->cs.length=n*sz->(∀j v,cs[j]? =some v->w.cell? ⟨b,off+j,none⟩=some v)->
  Calls P g #[.slice (some ⟨b,off,none⟩) n c] w fun e w'=>∃(G:Nat)(R:Array Value),n<=G/\R.size=G*sz/\e= .returned (.slice (some ⟨w.heap.size+1,0,none⟩) n G)/\
   w'=((w.alloc (.cells #[] el (0,0))).drew).alloc (.cells R el (0,0))/\∀k,k<n*sz->R.getD k Go.undef=cs.getD k Go.undef
theorem uT{g:Nat}{el:TypeId}{F:Nat}(I:xki P g el F){t:Tok}:fZ P g [.lst F [] t] [] 0 (· =⟨.lst F [] .clip,[],[]⟩):=by
 refine⟨I.cb,fun C x w vs hw hG hm W O L hr=> ?_⟩;obtain⟨u0,rfl,r0⟩:=U9 hr
 have y:∀(v:Value)(w1:World),cR x.G (.lst F [] .clip) v->(∃a n,v= .slice a n n)->Below w.heap.size w w1->∃J x' q,(Ending.returned v:Ending)= .returned J/\q=(⟨.lst F [] .clip,[],[]⟩:dV)/\Rep x' q.r J/\dl C x' q.os q.tk w1/\(∀p∈q.os,p.2.wf=true)/\∀i,i<([]:List aH).length->x'.bk i=x.bk i:=fun v w1 h Q E=>by refine⟨v,x,_,rfl,rfl,.dat _ _ h Q,L.below E, ?_,fun i hi=>rfl⟩;intro p T;simp at T
 cases r0 with
 |dat _ _ h _=>
  cases h with
  |lstN=>refine(I.nil w).mono ?_;rintro e w1 ⟨rfl,rfl⟩;exact y _ _ (.lstN _ _) ⟨_,_,rfl⟩ (Below.refl _ _)
  |lstE _ _ a=>refine(I.zero a 0 w).mono ?_;rintro e w1 ⟨⟨Z,rfl⟩,E⟩;exact y _ _ (.lstE _ _ _) ⟨_,_,rfl⟩ E
  |lst _ _ _ b off cap n val hn hc W hg h=>obtain rfl:n=0:=hn;refine(I.zero _ cap w).mono ?_;rintro e w1 ⟨⟨Z,rfl⟩,E⟩;exact y _ _ (.lstE _ _ _) ⟨_,_,rfl⟩ E
theorem uS{g:Nat}{L:TypeId}{E:Nat}(hz:0<E)(hI:xki P g L E){rows:d8}{t:Tok}(h1:1<=rows.length)(a6:rows.length<=1000000):
 fZ P g [.lst E rows t] [] 0 (· =⟨.psl 100 E 0 rows.length none,[(100,.arr E rows)],[]⟩):=by
 refine⟨hI.cb,fun C x w vs hw hG hm hl b3 hH hr=> ?_⟩;obtain⟨u0,rfl,r0⟩:=U9 hr;cases r0 with
 |dat _ _ h _=>
  cases h with
  |lstN=>simp at h1
  |lstE _ _ a=>simp at h1
  |lst _ _ _ b off cap n val hn hc hl hg h=>
   subst hn
   have F:∀y∈rows,y.length=E:=fun y hy=>by obtain⟨i,hi,rfl⟩:=bg hy;have:=hl i hi;rwa[aa,ac hi]at this
   obtain⟨cs,T⟩:∃cs:LAb,cs=(bC (rows.length*E)).map fun k=>val (k/E) (k % E):=⟨_,rfl⟩
   have Q:cs.length=rows.length*E:=by rw[T];simp
   have a1:∀k,k<rows.length*E->k/E<rows.length/\k % E<E/\(k/E)*E+k % E=k:=fun k I=>⟨(Nat.div_lt_iff_lt_mul hz).2 I,vq _ hz,by rw[cS];exact Nat.div_add_mod k E⟩
   have Z:∀k,k<rows.length*E->cs.getD k Go.undef=val (k/E) (k % E):=fun k I=>by rw[T,aa];simp[I]
   have O:∀j v,cs[j]? =some v->w.cell? ⟨b,off+j,none⟩=some v:=fun j v hj=>by
    have a2:j<rows.length*E:=by rw[<-Q];exact(pN.1 hj).1
    obtain⟨d1,d2,d3⟩:=a1 j a2;have h2:=hH.per _ _ _ (hg _ _ d1 d2);have h3:=Z j a2;rw[aa,hj,aM]at h3;rw[fo,d3,<-h3]at h2;exact h2
   refine(hI.some b off rows.length cap cs w h1 a6 Q O).mono ?_;rintro e w1 ⟨G,R,W,b1,rfl,rfl,hR⟩;have b4:rows.length*E<=G*E:=bo _ W;have a8:Below w.heap.size w (w.alloc (.cells #[] L (0,0))).drew:=((Below.refl _ w).alloc (aK _) _).drew;have a7:=hH.below a8
   have b0:(w.alloc (.cells #[] L (0,0))).drew.heap.size=w.heap.size+1:=by show(w.alloc (.cells #[] L (0,0))).heap.size=_;rw[World.size_alloc]
   have J:(x.newO 100 (w.alloc (.cells #[] L (0,0))).drew.heap.size (G*E)).bk 100=((w.alloc (.cells #[] L (0,0))).drew.heap.size,G*E):=i6 _ _ _;refine⟨_,x.newO 100 (w.alloc (.cells #[] L (0,0))).drew.heap.size (G*E),_,rfl,rfl, ?_, ?_, ?_,fun i hi=>by simp at hi⟩
   ·have:=Rep.psl (x:=x.newO 100 (w.alloc (.cells #[] L (0,0))).drew.heap.size (G*E)) 100 E 0 rows.length none 0 G (.inr (by omega)) W (fun _ e=>by cases e) (fun _=> .inr (by rw[J];simp))
    rw[J]at this;rw[b0]at this ⊢;exact this
   ·refine a7.one ((Below.refl _ _).alloc (aK _) _) ⟨R,L,0,0,by rw[J];exact⟨Go.Sy.heap_alloc_new,fun i _ h=>by omega⟩,⟨by simp only[aH.size];omega,by rw[J,b1];exact aK _,fun _ h=>by omega⟩,fun k I=> ?_⟩
    simp only[aH.size]at I;rw[IU hz F I,hR k I,Z k I];obtain⟨d1,d2,d3⟩:=a1 k I;rw[sn hz F k I];exact h _ _ d1 d2
   ·intro p hp
    rw[bq.1 hp];exact gn.2 F
theorem xoc:∀(w:World)(a:Option Addr)(n c y C:Nat),(binOp .eql 27 (.slice a n c) (.slice none y C)).run Tryz.prog w= .ok (.bool a.isNone) w:=fun w a n c y C=>Lib.run_eql_slice_nil w _ _ a n c y C Tryz.underlying27
set_option maxHeartbeats 8000000 in
set_option maxRecDepth 100000 in
theorem Yn(w:World):Calls Tryz.prog 87 #[.slice none 0 0] w fun e w'=>e= .returned (.slice none 0 0)/\w'=w:=by
 have mixed:=mixed;have t0:=Tryz.underlying0;have a0:=a_0;have z0:=z_0;have v0:=v_0;have u0:=run_underlying Tryz.underlying0;have t3:=Tryz.underlying3;have a3:=a_3;have z3:=z_3;have v3:=v_3;have u3:=run_underlying Tryz.underlying3;have t4:=Tryz.underlying4;have a4:=a_4;have z4:=z_4;have v4:=v_4;have Z:=run_underlying Tryz.underlying4;have I:=Tryz.underlying67;have y:=Jj;have C:=DV;have F:=Ag;have Q:=run_underlying Tryz.underlying67;have E:=Tryz.underlying27;have L:=Jl;have W:=I7;have J:=Ja;have O:=run_underlying Tryz.underlying27;have T:=xoc
 go_enter Tryz.func87,Tryz.ntmps87
 go_wp2
 go_ret
 exact⟨rfl,rfl⟩
set_option maxHeartbeats 8000000 in
set_option maxRecDepth 100000 in
theorem JF(a:Addr)(c:Nat)(w:World):Calls Tryz.prog 87 #[.slice (some a) 0 c] w fun e w'=>(∃a',e= .returned (.slice (some a') 0 0))/\Below w.heap.size w w':=by
 have mixed:=mixed;have t0:=Tryz.underlying0;have a0:=a_0;have z0:=z_0;have v0:=v_0;have u0:=run_underlying Tryz.underlying0;have t3:=Tryz.underlying3;have a3:=a_3;have z3:=z_3;have v3:=v_3;have u3:=run_underlying Tryz.underlying3;have t4:=Tryz.underlying4;have a4:=a_4;have z4:=z_4;have v4:=v_4;have u4:=run_underlying Tryz.underlying4;have a1:=Tryz.underlying67;have C:=Jj;have T:=DV;have a8:=Ag;have L:=run_underlying Tryz.underlying67;have E:=Tryz.underlying27;have I:=Jl;have a7:=I7;have F:=Ja;have J:=run_underlying Tryz.underlying27;have O:=xoc;obtain⟨i0,a6,Q,a2,Z⟩:=info_parts xaa
 have y:∀(W:World)(b:Option Addr) ty,(Builtin.append_ #[27,27] ty #[.slice b 0 0,.slice (some a) 0 c]).run Tryz.prog W= .ok (.slice b 0 0) W:=fun W b ty=>eZ (P:=Tryz.prog) (t:=27) (u:=27) (ty:=ty) (w:=W) (w1:=W) (bs:=b) (len:=0) (m:=0) (cap:=0) (ns:=[]) Tryz.underlying27 Tryz.underlying27 (.inl ⟨_,rfl⟩) Iz rfl (run_firstCells_some W 7 0 a 0 c [] (by simp) (fun j v hj=>by simp at hj)) (by omega) (by cases b<;>simp[storeCells])
 go_enter Tryz.func87,Tryz.ntmps87
 go_wp2_with (at_builtin;refine Lib.wpList_append_run _ rfl _ _ _ _ rfl _ _ rfl rfl _ _ (y _ _ _) ?_)
 go_ret
 exact⟨⟨_,rfl⟩,(Below.refl _ w).alloc (aK _) _⟩
set_option maxHeartbeats 8000000 in
set_option maxRecDepth 100000 in
theorem JG(b off n c:Nat)(cs:LAb)(w:World)(h1:1<=n)(a8:n<=1000000)(Z:cs.length=n*7)(a1:∀j v,cs[j]? =some v->w.cell? ⟨b,off+j,none⟩=some v):
 Calls Tryz.prog 87 #[.slice (some ⟨b,off,none⟩) n c] w fun e w'=>∃E,n<=E/\e= .returned (.slice (some ⟨w.heap.size+1,0,none⟩) n E)/\
  w'=((w.alloc (.cells #[] 67 (0,0))).drew).alloc (.cells (cs.toArray++Builtin.zeroCells gz.cells (E-n)) 67 (0,0)):=by
 have mixed:=mixed;have t0:=Tryz.underlying0;have a0:=a_0;have z0:=z_0;have v0:=v_0;have u0:=run_underlying Tryz.underlying0;have t3:=Tryz.underlying3;have a3:=a_3;have z3:=z_3;have v3:=v_3;have u3:=run_underlying Tryz.underlying3;have t4:=Tryz.underlying4;have a4:=a_4;have z4:=z_4;have v4:=v_4;have u4:=run_underlying Tryz.underlying4;have c7:=Tryz.underlying67;have b0:=Jj;have c5:=DV;have d3:=Ag;have b6:=run_underlying Tryz.underlying67;have b1:=Tryz.underlying27;have b4:=Jl;have d2:=I7;have b3:=Ja;have b5:=run_underlying Tryz.underlying27;have b7:=xoc;obtain⟨i0,a7,c3,d1,a2⟩:=info_parts xaa;obtain⟨F,I⟩:∃F,F=w.alloc (.cells #[] 67 (0,0)):=⟨_,rfl⟩;have a6:F.heap.size=w.heap.size+1:=by rw[I,World.size_alloc]
 have J:∀w':World,w'.heap=F.heap->(Builtin.firstCells 7 0 (.slice (some ⟨w.heap.size,0,none⟩) 0 0)).run Tryz.prog w'= .ok ([]:LAb).toArray w':=fun w' W=>run_firstCells_some w' 7 0 _ 0 0 [] (by simp) (fun j v hj=>by simp at hj)
 have L:∀w':World,w'.heap=F.heap->(Builtin.firstCells 7 n (.slice (some ⟨b,off,none⟩) n c)).run Tryz.prog w'= .ok cs.toArray w':=fun w' W=>
  run_firstCells_some w' 7 n _ n c cs Z (fun j v hj=>by
   rw[ep];have h2:F.cell? ⟨b,off+j,none⟩=some v:=by rw[I];exact Lib.cell?_alloc_some _ (a1 j v hj)
   simpa only[World.cell?,W]using h2)
 obtain⟨E,O,y⟩:=fp (P:=Tryz.prog) (w:=F) (t:=27) (u:=27) (ty:=27) (Y:= .slice (some ⟨b,off,none⟩) n c) (bs:=some ⟨w.heap.size,0,none⟩) (len:=0) (m:=n) (cap:=0) (os:=[]) (ns:=cs) (by_:=96) (z:=gz) (i:=i0) Tryz.underlying27 Tryz.underlying27 (.inl ⟨_,rfl⟩) Iz a7 a2 (by decide) Ag (fun _ _=>rfl) L J (by omega) (by omega);rw[bY]at O y;rw[a6]at y;have e0:([]:LAb).toArray++cs.toArray=cs.toArray:=by simp
 rw[e0]at y;have C:∀ty,(Builtin.append_ #[27,27] ty #[.slice (some ⟨w.heap.size,0,none⟩) 0 0,.slice (some ⟨b,off,none⟩) n c]).run Tryz.prog F= .ok (.slice (some ⟨w.heap.size+1,0,none⟩) n E) (F.drew.alloc (.cells (cs.toArray++Builtin.zeroCells gz.cells (E-n)) 67 (0,0))):=fun ty=>y
 refine Calls.mono (R:=fun e w'=>e= .returned (.slice (some ⟨w.heap.size+1,0,none⟩) n E)/\w'=F.drew.alloc (.cells (cs.toArray++Builtin.zeroCells gz.cells (E-n)) 67 (0,0))) ?_ (fun e w' h=>⟨E,O,h.1,by rw[<-I];exact h.2⟩);obtain⟨T,Q⟩:∃T:LAc,T=cs.toArray++Builtin.zeroCells gz.cells (E-n):=⟨_,rfl⟩;rw[<-Q]at C ⊢;clear Q y L J;subst I
 go_enter Tryz.func87,Tryz.ntmps87
 go_wp2_with (at_builtin;refine Lib.wpList_append_run _ rfl _ _ _ _ rfl _ _ rfl rfl _ _ (C _) ?_)
 go_ret
 exact⟨rfl,rfl⟩
theorem Gt:xki Tryz.prog 87 67 7 where
 cb:=by kernel_rfl
 nil:=Yn
 zero:=JF
 some:=fun b off n c cs w L C y F=>by
  refine(JG b off n c cs w L C y F).mono ?_;rintro e w' ⟨J,I,rfl,rfl⟩;have E:gz.cells.size=7:=rfl;refine⟨J,_,I, ?_,rfl,rfl,fun k O=> ?_⟩
  ·simp only[cV,cn,E,ce,y]
   omega
  ·rw[aS,cy (by simp only[ce,y];omega),dh,<-aa]
def p87:f8->List aH->Nat->Option dV
 |[.lst 7 [] t],[],0=>some ⟨.lst 7 [] .clip,[],[]⟩
 |[.lst 7 (r::rows) t],[],0=>if rows.length<=999999 then some ⟨.psl 100 7 0 (rows.length+1) none,[(100,.arr 7 (r::rows))],[]⟩else none
 |_,_,_=>none
theorem p87_ok:∀y os k q,p87 y os k=some q->fZ Tryz.prog 87 y os k (· =q):=by
 intro y os k q h;unfold p87 at h;split at h
 ·cases h
  exact uT Gt
 ·rename_i r rows t
  rw[aJ]at h;obtain⟨C,h⟩:=h;cases h;have:=uS (P:=Tryz.prog) (by decide) Gt (rows:=r::rows) (t:=t) (by simp) (by simp only[al];omega);simpa only[al]using this
 ·cases h
theorem xob:∀(w:World)(a:Option Addr)(n c y C:Nat),(binOp .eql 28 (.slice a n c) (.slice none y C)).run Tryz.prog w= .ok (.bool a.isNone) w:=fun w a n c y C=>Lib.run_eql_slice_nil w _ _ a n c y C Tryz.underlying28
set_option maxHeartbeats 8000000 in
set_option maxRecDepth 100000 in
theorem Yl(w:World):Calls Tryz.prog 91 #[.slice none 0 0] w fun e w'=>e= .returned (.slice none 0 0)/\w'=w:=by
 have mixed:=mixed;have t0:=Tryz.underlying0;have a0:=a_0;have z0:=z_0;have v0:=v_0;have Q:=run_underlying Tryz.underlying0;have t3:=Tryz.underlying3;have a3:=a_3;have z3:=z_3;have v3:=v_3;have T:=run_underlying Tryz.underlying3;have t4:=Tryz.underlying4;have a4:=a_4;have z4:=z_4;have v4:=v_4;have O:=run_underlying Tryz.underlying4;have C:=Tryz.underlying70;have F:=Ji;have L:=DU;have I:=Af;have y:=run_underlying Tryz.underlying70;have t28:=Tryz.underlying28;have a28:=Jk;have z28:=I6;have v28:=I9;have J:=run_underlying Tryz.underlying28;have E:=xob
 go_enter Tryz.func91,Tryz.ntmps91
 go_wp2
 go_ret
 exact⟨rfl,rfl⟩
set_option maxHeartbeats 8000000 in
set_option maxRecDepth 100000 in
theorem JB(a:Addr)(c:Nat)(w:World):Calls Tryz.prog 91 #[.slice (some a) 0 c] w fun e w'=>(∃Z,e= .returned (.slice (some Z) 0 0))/\Below w.heap.size w w':=by
 have mixed:=mixed;have t0:=Tryz.underlying0;have a0:=a_0;have z0:=z_0;have v0:=v_0;have u0:=run_underlying Tryz.underlying0;have t3:=Tryz.underlying3;have a3:=a_3;have z3:=z_3;have v3:=v_3;have u3:=run_underlying Tryz.underlying3;have t4:=Tryz.underlying4;have a4:=a_4;have z4:=z_4;have v4:=v_4;have u4:=run_underlying Tryz.underlying4;have C:=Tryz.underlying70;have E:=Ji;have I:=DU;have F:=Af;have O:=run_underlying Tryz.underlying70;have t28:=Tryz.underlying28;have a28:=Jk;have z28:=I6;have v28:=I9;have a1:=run_underlying Tryz.underlying28;have L:=xob;obtain⟨i0,a2,J,T,Q⟩:=info_parts Z9
 have y:∀(W:World)(b:Option Addr) ty,(Builtin.append_ #[28,28] ty #[.slice b 0 0,.slice (some a) 0 c]).run Tryz.prog W= .ok (.slice b 0 0) W:=fun W b ty=>eZ (P:=Tryz.prog) (t:=28) (u:=28) (ty:=ty) (w:=W) (w1:=W) (bs:=b) (len:=0) (m:=0) (cap:=0) (ns:=[]) Tryz.underlying28 Tryz.underlying28 (.inl ⟨_,rfl⟩) Iy rfl (run_firstCells_some W 2 0 a 0 c [] (by simp) (fun j v hj=>by simp at hj)) (by omega) (by cases b<;>simp[storeCells])
 go_enter Tryz.func91,Tryz.ntmps91
 go_wp2_with (at_builtin;refine Lib.wpList_append_run _ rfl _ _ _ _ rfl _ _ rfl rfl _ _ (y _ _ _) ?_)
 go_ret
 exact⟨⟨_,rfl⟩,(Below.refl _ w).alloc (aK _) _⟩
set_option maxHeartbeats 8000000 in
set_option maxRecDepth 100000 in
theorem JC(b off n c:Nat)(cs:LAb)(w:World)(h1:1<=n)(a8:n<=1000000)(Z:cs.length=n*2)(a1:∀j v,cs[j]? =some v->w.cell? ⟨b,off+j,none⟩=some v):
 Calls Tryz.prog 91 #[.slice (some ⟨b,off,none⟩) n c] w fun e w'=>∃E,n<=E/\e= .returned (.slice (some ⟨w.heap.size+1,0,none⟩) n E)/\
  w'=((w.alloc (.cells #[] 70 (0,0))).drew).alloc (.cells (cs.toArray++Builtin.zeroCells gx.cells (E-n)) 70 (0,0)):=by
 have mixed:=mixed;have t0:=Tryz.underlying0;have a0:=a_0;have z0:=z_0;have v0:=v_0;have u0:=run_underlying Tryz.underlying0;have t3:=Tryz.underlying3;have a3:=a_3;have z3:=z_3;have v3:=v_3;have u3:=run_underlying Tryz.underlying3;have t4:=Tryz.underlying4;have a4:=a_4;have z4:=z_4;have v4:=v_4;have u4:=run_underlying Tryz.underlying4;have b0:=Tryz.underlying70;have b1:=Ji;have b4:=DU;have b3:=Af;have b7:=run_underlying Tryz.underlying70;have t28:=Tryz.underlying28;have a28:=Jk;have z28:=I6;have v28:=I9;have c5:=run_underlying Tryz.underlying28;have b6:=xob;obtain⟨i0,a7,b5,c3,a2⟩:=info_parts Z9;obtain⟨F,I⟩:∃F,F=w.alloc (.cells #[] 70 (0,0)):=⟨_,rfl⟩;have a6:F.heap.size=w.heap.size+1:=by rw[I,World.size_alloc]
 have J:∀w':World,w'.heap=F.heap->(Builtin.firstCells 2 0 (.slice (some ⟨w.heap.size,0,none⟩) 0 0)).run Tryz.prog w'= .ok ([]:LAb).toArray w':=fun w' W=>run_firstCells_some w' 2 0 _ 0 0 [] (by simp) (fun j v hj=>by simp at hj)
 have L:∀w':World,w'.heap=F.heap->(Builtin.firstCells 2 n (.slice (some ⟨b,off,none⟩) n c)).run Tryz.prog w'= .ok cs.toArray w':=fun w' W=>
  run_firstCells_some w' 2 n _ n c cs Z (fun j v hj=>by
   rw[ep];have h2:F.cell? ⟨b,off+j,none⟩=some v:=by rw[I];exact Lib.cell?_alloc_some _ (a1 j v hj)
   simpa only[World.cell?,W]using h2)
 obtain⟨E,O,y⟩:=fp (P:=Tryz.prog) (w:=F) (t:=28) (u:=28) (ty:=28) (Y:= .slice (some ⟨b,off,none⟩) n c) (bs:=some ⟨w.heap.size,0,none⟩) (len:=0) (m:=n) (cap:=0) (os:=[]) (ns:=cs) (by_:=32) (z:=gx) (i:=i0) Tryz.underlying28 Tryz.underlying28 (.inl ⟨_,rfl⟩) Iy a7 a2 (by decide) Af (fun _ _=>rfl) L J (by omega) (by omega);rw[bY]at O y;rw[a6]at y;have e0:([]:LAb).toArray++cs.toArray=cs.toArray:=by simp
 rw[e0]at y;have C:∀ty,(Builtin.append_ #[28,28] ty #[.slice (some ⟨w.heap.size,0,none⟩) 0 0,.slice (some ⟨b,off,none⟩) n c]).run Tryz.prog F= .ok (.slice (some ⟨w.heap.size+1,0,none⟩) n E) (F.drew.alloc (.cells (cs.toArray++Builtin.zeroCells gx.cells (E-n)) 70 (0,0))):=fun ty=>y
 refine Calls.mono (R:=fun e w'=>e= .returned (.slice (some ⟨w.heap.size+1,0,none⟩) n E)/\w'=F.drew.alloc (.cells (cs.toArray++Builtin.zeroCells gx.cells (E-n)) 70 (0,0))) ?_ (fun e w' h=>⟨E,O,h.1,by rw[<-I];exact h.2⟩);obtain⟨T,Q⟩:∃T:LAc,T=cs.toArray++Builtin.zeroCells gx.cells (E-n):=⟨_,rfl⟩;rw[<-Q]at C ⊢;clear Q y L J;subst I
 go_enter Tryz.func91,Tryz.ntmps91
 go_wp2_with (at_builtin;refine Lib.wpList_append_run _ rfl _ _ _ _ rfl _ _ rfl rfl _ _ (C _) ?_)
 go_ret
 exact⟨rfl,rfl⟩
theorem Gs:xki Tryz.prog 91 70 2 where
 cb:=by kernel_rfl
 nil:=Yl
 zero:=JB
 some:=fun b off n c cs w L C y F=>by
  refine(JC b off n c cs w L C y F).mono ?_;rintro e w' ⟨J,I,rfl,rfl⟩;have E:gx.cells.size=2:=rfl;refine⟨J,_,I, ?_,rfl,rfl,fun k O=> ?_⟩
  ·simp only[cV,cn,E,ce,y]
   omega
  ·rw[aS,cy (by simp only[ce,y];omega),dh,<-aa]
def p91:f8->List aH->Nat->Option dV
 |[.lst 2 [] t],[],0=>some ⟨.lst 2 [] .clip,[],[]⟩
 |[.lst 2 (r::rows) t],[],0=>if rows.length<=999999 then some ⟨.psl 100 2 0 (rows.length+1) none,[(100,.arr 2 (r::rows))],[]⟩else none
 |_,_,_=>none
theorem p91_ok:∀y os k q,p91 y os k=some q->fZ Tryz.prog 91 y os k (· =q):=by
 intro y os k q h;unfold p91 at h;split at h
 ·cases h
  exact uT Gs
 ·rename_i r rows t
  rw[aJ]at h;obtain⟨C,h⟩:=h;cases h;have:=uS (P:=Tryz.prog) (by decide) Gs (rows:=r::rows) (t:=t) (by simp) (by simp only[al];omega);simpa only[al]using this
 ·cases h
end
end Pr
end Go.Proofs.YtbfnljmmepcbfaaGreatDoor
