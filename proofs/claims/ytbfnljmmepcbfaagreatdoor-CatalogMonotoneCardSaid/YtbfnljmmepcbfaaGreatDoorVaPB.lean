/- Walks of library functions. No condition. -/
import Derived.Test.YtbfnljmmepcbfaaGreatDoorEcPB
import Derived.Test.YtbfnljmmepcbfaaGreatDoorProg
open Array renaming getD_eq_getD_getElem? -> aS, getElem?_append_left -> co, getElem?_eq_getElem -> cy, getElem?_eq_some_iff -> di, size_append -> cQ
open Go.IntKind renaming i64 -> af, wrap_i64 -> dC
open List renaming all_eq_true -> bf, getD_eq_getElem?_getD -> aa, getElem?_drop -> bz, getElem?_eq_getElem -> ac, getElem?_eq_some_iff -> pL, getElem?_take -> bL, getElem?_toArray -> de, getElem_mem -> bv, getElem_of_mem -> bp, length_cons -> al, length_drop -> aG, length_eq_zero_iff -> cu, length_take -> aq, mem_of_mem_drop -> cB, mem_singleton -> bj, range -> bM, size_toArray -> bZ
open Nat renaming add_assoc -> fu, le_refl -> aJ, lt_or_ge -> bK, mul_comm -> cM, mul_le_mul_right -> bh, zero_add -> bT, zero_le -> aX, zero_mul -> ip
open Option renaming getD_some -> aM, ite_none_right_eq_some -> aK, map_some -> bB, some -> ax
open UInt8 renaming ofNat -> io
set_option linter.unusedSectionVars false
set_option linter.unusedSimpArgs false
set_option linter.unusedVariables false
namespace Go.Proofs.YtbfnljmmepcbfaaGreatDoor
open Go.Sy
open UInt8 renaming reduceLT -> ur1, reduceLE -> ur2
open Int renaming reduceToNat -> ir1, reduceLE -> ir2, reduceLT -> ir3, reduceEq -> ir4, reduceNe -> ir5, reduceNeg -> ir6, reduceAdd -> ir7, reduceSub -> ir8, reduceMul -> ir9
open Nat renaming reducePow -> nr1, reduceDiv -> nr2, reduceMod -> nr3, reduceAdd -> nr4, reduceSub -> nr5, reduceMul -> nr6, reduceLT -> nr7, reduceLeDiff -> nr8, reduceEqDiff -> nr9, reduceBEq -> nr10
open Go.RowKit Go.ChangeShapes Go.WideShapes
namespace Pr
variable [br]
def okc(c:UInt8):Bool:=if c<97\/122<c then(if c<48\/57<c then decide (c=45)else true)else true
def nameB(s:d9):Bool:=if s.length<1\/12<s.length then false else s.all okc
set_option maxRecDepth 100000 in
theorem w83(w:World)(a b:d9)(u v:Value)(y:jI w a u)(h:jI w b v):
 Calls Tryz.prog 83 #[u,v] w fun e w'=>e= .returned (.int .i64 (Lib.compareBytes a b))/\w'=w:=by
 go_enter Tryz.func83,Tryz.ntmps83
 go_wp2
 rw[run_callFunc_extern Tryz.func130 (by kernel_rfl) (by kernel_rfl) (by kernel_rfl) (e:=Extern.BytealgCompare.compare) (by kernel_rfl),sF y h];simp only[Result.andThen];rw[Oper.upon_value]
 go_wp2
 go_ret
 exact⟨rfl,rfl⟩
set_option maxRecDepth 100000 in
theorem xvU(w:World)(a:d9)(c:UInt8)(u:Value)(h:jI w a u):
 Calls Tryz.prog 202 #[u,.int .u8 c.toNat] w fun e w'=>e= .returned (.int .i64 (xn7 a c))/\w'=w:=by
 go_enter Tryz.func202,Tryz.ntmps202
 go_wp2
 rw[run_callFunc_extern Tryz.func206 (by kernel_rfl) (by kernel_rfl) (by kernel_rfl) (e:=Extern.BytealgIndexByte.indexByte) (by kernel_rfl),xY h];simp only[Result.andThen];rw[Oper.upon_value]
 go_wp2
 go_ret
 exact⟨rfl,rfl⟩
set_option maxRecDepth 100000 in
theorem xvV(w:World)(a b:ByteArray):
 Calls Tryz.prog 191 #[.string a,.string b] w fun e w'=>e= .returned (.int .i64 (Lib.compareBytes a.data.toList b.data.toList))/\w'=w:=by
 go_enter Tryz.func191,Tryz.ntmps191
 go_wp2
 rw[run_callFunc_extern Tryz.func204 (by kernel_rfl) (by kernel_rfl) (by kernel_rfl) (e:=Extern.BytealgCompare.compare) (by kernel_rfl),Lib.run_compareString];simp only[Result.andThen];rw[Oper.upon_value]
 go_wp2
 go_ret
 exact⟨rfl,rfl⟩
def okn(c:Nat):Prop:=(97<=c/\c<=122)\/(48<=c/\c<=57)\/c=45
set_option maxRecDepth 100000 in
theorem vL(b:UInt8):okc b=true↔okn b.toNat:=by
 have key:∀n,n<256->(okc (io n)=true↔okn n):=by unfold okn;decide
 have:=key b.toNat b.toNat_lt;rwa[UInt8.ofNat_toNat]at this
theorem KX(s:ByteArray)(h:Nat)(y:h<s.size):s.data.toList.getD h 0=s[h]'y:=by rw[aa,ac (by simpa using y)];rfl
theorem xnO(s:ByteArray)(y c wd:Nat)(C:y<s.size)(h:Utf8.decode s y=(c,wd)):(okn c->wd=1/\okc (s.data.toList.getD y 0)=true)/\(¬okn c->okc (s.data.toList.getD y 0)=false):=by
 rw[KX s y C]
 by_cases I:(s[y]'C).toNat<128
 ·rw[decode_ascii s y C I]at h
  cases h;refine⟨fun E=>⟨rfl,(vL _).2 E⟩,fun E=> ?_⟩;cases F:okc (s[y]'C)with
  |false=>rfl
  |true=>exact absurd ((vL _).1 F) E
 ·have F:=(decode_high s y C (by omega)).1
  rw[h]at F;simp only at F;refine⟨fun E=>by unfold okn at E;omega,fun _=> ?_⟩;cases h3:okc (s[y]'C)with
  |false=>rfl
  |true=>have:=(vL _).1 h3;unfold okn at this;omega
theorem rh(w:World)(s:ByteArray)(h:Nat):Below w.heap.size w (w.iter s h):=(Below.refl _ w).alloc (aJ _) _
theorem lO(s:ByteArray):s.data.toList.length=s.size:=by simp
set_option maxRecDepth 100000 in
theorem xvW(w:World)(s:ByteArray):
 Calls Tryz.prog 189 #[.string s] w fun e w'=>e= .returned (.bool (nameB s.data.toList))/\Below w.heap.size w w':=by
 go_enter Tryz.func189,Tryz.ntmps189
 go_wp2
 ·go_ret
  refine⟨?_,Below.refl _ _⟩;have:s.data.toList.length<1\/12<s.data.toList.length:=by rw[lO];omega
  unfold nameB;rw[if_pos this];rfl
 ·go_loopw [] (
   fun w'=>∃h:Nat,w'=w.iter s h/\h<=s.size/\∀i,i<h->okc (s.data.toList.getD i 0)=true) (fun w'=>s.size-w'.iterPos w.heap.size)
  case atStart=>exact⟨0,rfl,aX _,fun i hi=>absurd hi (Nat.not_lt_zero i)⟩
  case round=>
   obtain⟨h,rfl,a1,y⟩:=hrel;have C:¬(s.data.toList.length<1\/12<s.data.toList.length):=by rw[lO];omega
   by_cases J:h<s.size
   ·have E:∀ty,(Instr.next (.pointer (some ⟨w.heap.size,0,none⟩)) true ty).run Tryz.prog (w.iter s h)=_:=fun ty=>run_next_any w s h ty J
    obtain⟨F,I⟩:=xnO s h (Utf8.decode s h).1 (Utf8.decode s h).2 J rfl;generalize Utf8.decode s h=dc at E F I;obtain⟨c,wd⟩:=dc;simp only at E F I;have Z:Hid (okn c->wd=1/\okc (s.data.toList.getD h 0)=true):=F;have O:Hid (¬okn c->okc (s.data.toList.getD h 0)=false):=I;have L:Hid (¬(s.data.toList.length<1\/12<s.data.toList.length)):=C;have Q:Hid (∀i,i<h->okc (s.data.toList.getD i 0)=true):=y;clear F I C y
    go_wp2
    all_goals (try simp only[bne_iff_ne,bne_eq_false_iff_eq,ne_eq]at*)
    all_goals first
     |(
      have W:okn c:=by unfold okn;omega
      obtain⟨rfl,T⟩:=Z.out W
      go_roundw
      case rel=>
       refine⟨h+1,rfl,by omega,fun i hi=> ?_⟩;rcases bK i h with h2|h2
       ·exact Q.out i h2
       ·have:i=h:=by omega
        rw[this];exact T
      case measure=>simp;omega)
     |(
      have W:¬okn c:=by unfold okn;omega
      have T:=O.out W
      go_ret
      refine⟨?_,rh _ _ _⟩
      have:nameB s.data.toList=false:=by unfold nameB;rw[if_neg L.out,List.all_eq_false];refine⟨s.data.toList.getD h 0, ?_,by rw[T];simp⟩;rw[aa,ac (by simpa using J)];exact bv _
      rw[this];rfl)
   ·have E:∀ty,(Instr.next (.pointer (some ⟨w.heap.size,0,none⟩)) true ty).run Tryz.prog (w.iter s h)=_:=fun ty=>run_next_end w s h ty J
    have L:Hid (¬(s.data.toList.length<1\/12<s.data.toList.length)):=C;have Q:Hid (∀i,i<h->okc (s.data.toList.getD i 0)=true):=y;clear C y
    go_wp2
    go_ret
    refine⟨?_,rh _ _ _⟩
    have:nameB s.data.toList=true:=by unfold nameB;rw[if_neg L.out,bf];intro b hb;obtain⟨i,hi,rfl⟩:=bp hb;have:=Q.out i (by have:=lO s;omega);rwa[aa,ac hi]at this
    rw[this];rfl
 ·go_ret
  refine⟨?_,Below.refl _ _⟩;have:s.data.toList.length<1\/12<s.data.toList.length:=by rw[lO];omega
  unfold nameB;rw[if_pos this];rfl
def p83:t8->List aH->Nat->Option dV
 |[.byt a _,.byt b _],[],0=>some ⟨.int .i64 (Lib.compareBytes a b),[],[]⟩
 |_,_,_=>none
def p191:t8->List aH->Nat->Option dV
 |[.str a,.str b],[],0=>some ⟨.int .i64 (Lib.compareBytes a b),[],[]⟩
 |_,_,_=>none
def p189:t8->List aH->Nat->Option dV
 |[.str a],[],0=>some ⟨.bool (nameB a),[],[]⟩
 |_,_,_=>none
def p202:t8->List aH->Nat->Option dV
 |[.byt a _,.u8 c],[],0=>some ⟨.int .i64 (xn7 a c),[],[]⟩
 |_,_,_=>none
theorem repL2{x:Sit}{a b:SV}{vs:LAc}(h:cE x [a,b] vs):∃u v,vs=[u,v]/\Rep x a u/\Rep x b v:=by
 match vs,h with
 |[u,v],h=>exact⟨u,v,rfl,h.2 0 (by simp),h.2 1 (by simp)⟩
 |[],h=>simp[cE]at h
 |[_],h=>simp[cE]at h
 |_::_::_::_,h=>simp[cE]at h
theorem UO{x:Sit}{a:SV}{vs:LAc}(h:cE x [a] vs):∃u,vs=[u]/\Rep x a u:=by
 match vs,h with
 |[u],h=>exact⟨u,rfl,h.2 0 (by simp)⟩
 |[],h=>simp[cE]at h
 |_::_::_,h=>simp[cE]at h
theorem p83_ok:∀y os k q,p83 y os k=some q->gg Tryz.prog 83 y os k (· =q):=by
 intro y os k q h;unfold p83 at h;split at h
 ·cases h
  refine ko (by kernel_rfl) fun x w vs I C=> ?_
  obtain⟨u,v,rfl,E,F⟩:=repL2 I;refine(w83 w _ _ u v (mK E C) (mK F C)).mono ?_;rintro e w' ⟨rfl,rfl⟩;exact⟨_,rfl,.dat _ _ (.int _ _) trivial,Below.refl _ _⟩
 ·cases h
theorem p202_ok:∀y os k q,p202 y os k=some q->gg Tryz.prog 202 y os k (· =q):=by
 intro y os k q h;unfold p202 at h;split at h
 ·cases h
  refine ko (by kernel_rfl) fun x w vs I E=> ?_
  obtain⟨u,v,rfl,C,F⟩:=repL2 I;obtain rfl:=xoV F;refine(xvU w _ _ u (mK C E)).mono ?_;rintro e w' ⟨rfl,rfl⟩;exact⟨_,rfl,.dat _ _ (.int _ _) trivial,Below.refl _ _⟩
 ·cases h
theorem p191_ok:∀y os k q,p191 y os k=some q->gg Tryz.prog 191 y os k (· =q):=by
 intro y os k q h;unfold p191 at h;split at h
 ·cases h
  refine ko (by kernel_rfl) fun x w vs F I=> ?_
  obtain⟨u,v,rfl,C,E⟩:=repL2 F;obtain rfl:=BE C;obtain rfl:=BE E;refine(xvV w _ _).mono ?_;rintro e w' ⟨rfl,rfl⟩;exact⟨_,rfl,.dat _ _ (.int _ _) trivial,Below.refl _ _⟩
 ·cases h
theorem p189_ok:∀y os k q,p189 y os k=some q->gg Tryz.prog 189 y os k (· =q):=by
 intro y os k q h;unfold p189 at h;split at h
 ·cases h
  refine ko (by kernel_rfl) fun x w vs F I=> ?_
  obtain⟨u,rfl,E⟩:=UO F;obtain rfl:=BE E;refine(xvW w _).mono ?_;rintro e w' ⟨rfl,C⟩;exact⟨_,rfl,.dat _ _ (.bool _) trivial,C⟩
 ·cases h
end Pr
end Go.Proofs.YtbfnljmmepcbfaaGreatDoor
namespace Go.Proofs.YtbfnljmmepcbfaaGreatDoor
open Go.Sy
open Go.RowKit Go.ChangeShapes Go.WideShapes Go.Shelf Go.Lib
namespace Pr
section
variable [br]
theorem m4{β:Type}(a:Option Addr)(h C:Nat)(b:Option Addr)(E cb:Nat)(y:Option Addr->Nat->Nat->Option Addr->Nat->Nat->β)(F:LAd->β):
 Extern.SlicesOverlaps.overlaps.match_4 (fun _=>β) #[.slice a h C,.slice b E cb] y F=y a h C b E cb:=rfl
theorem mV{P:Program}(w:World)(I tR e:TypeId)(W:P.underlying I=some (.slice e))(size:Nat)(hz:∀w,(Go.sizeOf e).run P w= .ok size w)
 (a b:Addr) (O ca Q cb:Nat) (y:a.block≠b.block) (tA tB:TypeId) (kA Z:Nat) (E:w.shape? a.block=some (tA,kA+1)) (L:w.shape? b.block=some (tB,Z))
 (F:w.frozen? b=false) (C:w.frozen? {block:=b.block,off:=Z}=false):
 (Extern.SlicesOverlaps.overlaps #[I,I] #[tR] #[.slice (some a) O ca,.slice (some b) Q cb]).run P w= .ok (.bool false) w:=by
 have J:(a.block !=b.block)=true:=by simpa using y
 have h:(a.block==b.block)=false:=by simpa using y
 unfold Extern.SlicesOverlaps.overlaps;rw[m4]
 by_cases T:O=0\/Q=0\/size=0
 ·simp[run_underlying W,hz,T]
 ·cases hfa:w.frozen? a<;>cases hfk:w.frozen? {block:=a.block,off:=kA+1}<;>
   simp[run_underlying W,hz,T,J,h,frozen,noView,viewAt,mayBeOne,stringish,shape,Sem.run,E,L,hfa,hfk,F,C]
theorem kI{P:Program}{t:TypeId}{z:Value}(h:(P.info? t).map (fun i=>i.zero)=some (some z))(w:World):(zeroValue t).run P w= .ok z w:=by
 cases hi:P.info? t with
 |none=>simp[hi]at h
 |some i=>simp only[hi,bB,ax.injEq]at h;simp[zeroValue,run_typeInfo w hi,h]
theorem mixed:Tryz.prog.follows .mixedOrders=true:=by kernel_rfl
theorem eu(b o j:Nat):(⟨b,o,none⟩:Addr).add j=⟨b,o+j,none⟩:=Addr.add_lit ..
theorem yj{w:World}{E h:Nat}{v:Value}(C:w.cell? ⟨E,h,none⟩=some v):∃I J,w.shape? E=some (I,J+1):=by
 cases hh:w.heap[E]? with
 |none=>simp[World.cell?,hh]at C
 |some o=>
  cases o with
  |cells y e O=>
   refine⟨e,y.size-1, ?_⟩;have F:y[h]? =some v:=by simpa[World.cell?,hh]using C
   have L:h<y.size:=(di.1 F).1;simp only[World.shape?,hh];rw[show y.size-1+1=y.size by omega]
  |_=>simp[World.cell?,hh]at C
theorem z_3:∀w,(Go.sizeOf 3).run Tryz.prog w= .ok 1 w:=fun w=>cr (by kernel_rfl) w
theorem a_3:∀w,(isAgg 3).run Tryz.prog w= .ok false w:=fun w=>fi (by kernel_rfl) w
theorem v_3:∀w,(zeroValue 3).run Tryz.prog w= .ok (.int .i64 0) w:=fun w=>kI (by kernel_rfl) w
theorem z_4:∀w,(Go.sizeOf 4).run Tryz.prog w= .ok 1 w:=fun w=>cr (by kernel_rfl) w
theorem a_4:∀w,(isAgg 4).run Tryz.prog w= .ok false w:=fun w=>fi (by kernel_rfl) w
theorem v_4:∀w,(zeroValue 4).run Tryz.prog w= .ok (.bool false) w:=fun w=>kI (by kernel_rfl) w
theorem z_0:∀w,(Go.sizeOf 0).run Tryz.prog w= .ok 1 w:=fun w=>cr (by kernel_rfl) w
theorem a_0:∀w,(isAgg 0).run Tryz.prog w= .ok false w:=fun w=>fi (by kernel_rfl) w
theorem v_0:∀w,(zeroValue 0).run Tryz.prog w= .ok (.tuple #[]) w:=fun w=>kI (by kernel_rfl) w
theorem IS:∀w,(Go.sizeOf 27).run Tryz.prog w= .ok 1 w:=fun w=>cr (by kernel_rfl) w
theorem I5:∀w,(isAgg 27).run Tryz.prog w= .ok false w:=fun w=>fi (by kernel_rfl) w
theorem IV:∀w,(zeroValue 27).run Tryz.prog w= .ok (.slice none 0 0) w:=fun w=>kI (by kernel_rfl) w
theorem DI:∀w,(Go.sizeOf 67).run Tryz.prog w= .ok 7 w:=fun w=>cr (by kernel_rfl) w
theorem I3:∀w,(isAgg 67).run Tryz.prog w= .ok true w:=fun w=>fi (by kernel_rfl) w
theorem z8:∀w,(zeroValue 67).run Tryz.prog w= .ok (.agg #[.string ⟨#[]⟩,.int .i64 0,.int .i64 0,.int .i64 0,.int .i64 0,.slice none 0 0,.slice none 0 0]) w:=fun w=>kI (by kernel_rfl) w
def gz:Value:=Value.agg #[.string ⟨#[]⟩,.int .i64 0,.int .i64 0,.int .i64 0,.int .i64 0,.slice none 0 0,.slice none 0 0]
theorem ZZ:(Tryz.prog.info? 67).map (fun i=>(i.zero,i.size,i.bytes))=some (some gz,7,96):=by kernel_rfl
theorem If:fK Tryz.prog 67=some 7:=by kernel_rfl
theorem xE:(Tryz.prog.info? 67).map (·.size)=some 7:=by obtain⟨F,h,E,y,C⟩:=info_parts ZZ;rw[h];simp[y]
theorem zq(w:World)(C h vc:Nat)(vs:LAc)(E:vs.length=7)(y:∀j v,vs[j]? =some v->w.cell? ⟨C,h+j,none⟩=some v):(Builtin.firstCells 7 1 (.slice (some ⟨C,h,none⟩) 1 vc)).run Tryz.prog w= .ok vs.toArray w:=
 run_firstCells_some w 7 1 ⟨C,h,none⟩ 1 vc vs (by rw[E]) (fun j v F=>by rw[eu];exact y j v F)
set_option maxHeartbeats 8000000 in
set_option maxRecDepth 100000 in
theorem GF(b n c i I y vc:Nat)(cs vs:LAc)(w:World)(hi:i<n)(b1:n+1<=c)(d1:n<=1000000)(T:I≠b)
 (b3:cs.length=n*7) (b0:vs.length=7)
 (b7:∀j v,cs[j]? =some v->w.cell? ⟨b,j,none⟩=some v) (O:∀j,j<(n+1)*7->(w.cell? ⟨b,j,none⟩).isSome=true) (J:∀j,j<(n+1)*7->w.frozen? ⟨b,j,none⟩=false)
 (b6:∀j v,vs[j]? =some v->w.cell? ⟨I,y+j,none⟩=some v) (a7:∀v∈cs,v.oneCell'=true) (c5:∀v∈vs,v.oneCell'=true)
 (tA tB:TypeId) (kA kB:Nat) (a6:w.shape? I=some (tA,kA+1)) (c3:w.shape? b=some (tB,kB)) (b4:w.frozen? ⟨b,kB,none⟩=false):
 Calls Tryz.prog 86 #[.slice (some ⟨b,0,none⟩) n c,.int .i64 i,.slice (some ⟨I,y,none⟩) 1 vc] w fun e w'=>e= .returned (.slice (some ⟨b,0,none⟩) (n+1) c)/\w'=(w.drew.setCells b ((i+1)*7) (cs.drop (i*7))).setCells b (i*7) vs:=by
 have t0:=Tryz.underlying0;have a0:=a_0;have z0:=z_0;have v0:=v_0;have t3:=Tryz.underlying3;have a3:=a_3;have z3:=z_3;have v3:=v_3;have t4:=Tryz.underlying4;have a4:=a_4;have z4:=z_4;have v4:=v_4;have t9:=Tryz.underlying67;have a9:=I3;have z9:=DI;have v9:=z8;have d3:=Tryz.underlying27;have d5:=I5;have e2:=IS;have e3:=IV;have u0:=run_underlying Tryz.underlying0;have u3:=run_underlying Tryz.underlying3;have u4:=run_underlying Tryz.underlying4;have u9:=run_underlying Tryz.underlying67;have e7:=run_underlying Tryz.underlying27;have mixed:=mixed;have d6:¬((i:Int)=(n:Int)):=by omega
 have b5:∀lb cb,(callFunc 131 #[.slice (some ⟨I,y,none⟩) 1 vc,.slice (some ⟨b,(i+1)*7,none⟩) lb cb]).run Tryz.prog w= .ok (.value (.bool false)) w:=fun lb cb=>by
  rw[run_callFunc_extern Tryz.func131 (by kernel_rfl) (by kernel_rfl) (by kernel_rfl) (e:=Extern.SlicesOverlaps.overlaps #[27,27] #[4]) (by kernel_rfl),
   mV w 27 4 67 Tryz.underlying27 7 DI ⟨I,y,none⟩ ⟨b,(i+1)*7,none⟩ 1 vc lb cb T tA tB kA kB a6 c3 (J ((i+1)*7) (by omega)) b4]
  rfl
 have Z:(cs.drop (i*7)).length=(n-i)*7:=by rw[aG,b3];omega
 have d7:af.wrap ((i:Int)+1)=(i:Int)+1:=by rw[dC];omega
 have e1:af.wrap ((n:Int)+1)=(n:Int)+1:=by rw[dC];omega
 have e6:(0:Int)<=(i:Int)+1:=by omega
 have e4:i<=n:=by omega
 have d2:((i:Int)+1).toNat=i+1:=by omega
 have c7:((n:Int)+1).toNat=n+1:=by omega
 have d4:¬(c=i+1):=by omega
 have e0:(i:Int)<=(n:Int)+1:=by omega
 have e5:¬(c=i):=by omega
 have F:∀ty L sc,(Builtin.copy_ #[27,27] ty #[.slice (some ⟨b,(i+1)*7,none⟩) (n-i) L,.slice (some ⟨b,i*7,none⟩) (n+1-i) sc]).run Tryz.prog w.drew= .ok (goInt ((n-i:Nat):Int)) (w.drew.setCells b ((i+1)*7) (cs.drop (i*7))):=fun ty L sc=>
  eg w.drew _ _ ty 67 b ((i+1)*7) (n-i) L ⟨b,i*7,none⟩ (n+1-i) sc (cs.drop (i*7)) 7 (n-i) Tryz.underlying27 xE (by simp only[Nat.min_def];split<;>omega) Z
   (fun j v E=>by rw[eu];exact b7 (i*7+j) v (by rwa[bz]at E))
   (fun j E=>O _ (by omega)) (fun j E=>J _ (by omega)) (fun v hv=>a7 v (cB hv))
 obtain⟨W1,C⟩:∃W1,W1=w.drew.setCells b ((i+1)*7) (cs.drop (i*7)):=⟨_,rfl⟩
 have Q:∀k,k<(n+1)*7->(W1.cell? ⟨b,k,none⟩).isSome=true:=fun k hk=>by rw[C];exact isSome_setCells b _ _ _ (fun j E=>by rw[Z]at E;exact O _ (by omega)) _ (O k hk)
 have a1:∀(W:World),(∀x,W.cell? x=W1.cell? x)->(∀x,W.frozen? x=W1.frozen? x)->∀ty L,(Builtin.copy_ #[27,27] ty #[.slice (some ⟨b,i*7,none⟩) (n+1-i) L,.slice (some ⟨I,y,none⟩) 1 vc]).run Tryz.prog W= .ok (goInt 1) (W.setCells b (i*7) vs):=fun W a2 a8 ty L=>
  eg W _ _ ty 67 b (i*7) (n+1-i) L ⟨I,y,none⟩ 1 vc vs 7 1 Tryz.underlying27 xE (by simp only[Nat.min_def];split<;>omega) (by rw[b0])
   (fun j v E=>by rw[eu,a2,C,World.cell?_setCells_out b _ _ _ _ (fun h _=>absurd h T)];exact b6 j v E)
   (fun j E=>by rw[a2];exact Q _ (by omega)) (fun j E=>by rw[a8,C,World.frozen?_setCells];exact J _ (by omega)) c5
 rw[<-C]at F
 go_enter Tryz.func86,Tryz.ntmps86
 go_wp2_with (simp only[b5])
 go_region_law_o (refine step_copy_runI rfl _ _ 27 27 rfl _ _ (by simp[Act.eval,Act.put]) (by simp[Act.eval,Act.put]) (F _ _ _) ?_)
 go_wp2_with (at_builtin;refine wpList_copy_runI _ rfl _ _ 27 27 rfl _ _ rfl rfl (a1 _ (fun _=>rfl) (fun _=>rfl) _ _) ?_)
 go_ret
 first|exact⟨rfl,rfl⟩|exact⟨rfl,by rw[C]⟩
set_option maxHeartbeats 8000000 in
set_option maxRecDepth 100000 in
theorem Jr(b n c F h vc:Nat)(vs:LAc)(w:World)(C:n+1<=c)(T:n<=1000000)
 (y:vs.length=7) (I:∀j,j<7->(w.cell? ⟨b,n*7+j,none⟩).isSome=true) (J:∀j,j<7->w.frozen? ⟨b,n*7+j,none⟩=false)
 (O:∀j v,vs[j]? =some v->w.cell? ⟨F,h+j,none⟩=some v) (Q:∀v∈vs,v.oneCell'=true):
 Calls Tryz.prog 86 #[.slice (some ⟨b,0,none⟩) n c,.int .i64 n,.slice (some ⟨F,h,none⟩) 1 vc] w fun e w'=>e= .returned (.slice (some ⟨b,0,none⟩) (n+1) c)/\w'=w.setCells b (n*7) vs:=by
 have t0:=Tryz.underlying0;have a0:=a_0;have z0:=z_0;have v0:=v_0;have t3:=Tryz.underlying3;have a3:=a_3;have z3:=z_3;have v3:=v_3;have t4:=Tryz.underlying4;have a4:=a_4;have z4:=z_4;have v4:=v_4;have t9:=Tryz.underlying67;have a9:=I3;have z9:=DI;have v9:=z8;have Z:=Tryz.underlying27;have a1:=I5;have a6:=IS;have W:=IV;have u0:=run_underlying Tryz.underlying0;have u3:=run_underlying Tryz.underlying3;have u4:=run_underlying Tryz.underlying4;have u9:=run_underlying Tryz.underlying67;have a2:=run_underlying Tryz.underlying27;have mixed:=mixed;have L:=run_storeCells_cells (P:=Tryz.prog) b (n*7) vs 0 w (by rw[y];simpa using I) (by rw[y];simpa using J) Q
 have E:∀ty,(Builtin.append_ #[27,27] ty #[.slice (some ⟨b,0,none⟩) n c,.slice (some ⟨F,h,none⟩) 1 vc]).run Tryz.prog w= .ok (.slice (some ⟨b,0,none⟩) (n+1) c) (w.setCells b (n*7) vs):=fun ty=>
  fc (P:=Tryz.prog) (t:=27) (u:=27) (ty:=ty) (bs:=some ⟨b,0,none⟩) (len:=n) (m:=1) (cap:=c) Tryz.underlying27 Tryz.underlying27 (.inl ⟨_,rfl⟩) If rfl (zq w F h vc vs y O) C (by show(storeCells ((⟨b,0,none⟩:Addr).add (n*7)) vs).run Tryz.prog w=_;rw[eu,bT];simpa using L)
 go_enter Tryz.func86,Tryz.ntmps86
 go_wp2_with (at_builtin;refine Lib.wpList_append_run _ rfl _ _ _ _ rfl _ _ rfl rfl _ _ (E _) ?_)
 go_ret
 exact⟨rfl,rfl⟩
set_option maxHeartbeats 8000000 in
set_option maxRecDepth 100000 in
theorem Yd(y:Option Addr)(n c T C vc:Nat)(cs vs:LAc)(w:World)(c7:n<=c)(a6:c<n+1)(b3:n<=1000000)
 (Q:cs.length=n*7) (a2:vs.length=7) (L:y=none->n=0)
 (b0:∀a,y=some a->∀j v,cs[j]? =some v->w.cell? (a.add j)=some v)
 (a8:∀j v,vs[j]? =some v->w.cell? ⟨T,C+j,none⟩=some v) (d3:∀v∈vs,v.oneCell'=true):
 Calls Tryz.prog 86 #[.slice y n c,.int .i64 n,.slice (some ⟨T,C,none⟩) 1 vc] w fun e w'=>
  ∃F,n+1<=F/\e= .returned (.slice (some ⟨w.heap.size,0,none⟩) (n+1) F)/\
  w'=w.drew.alloc (.cells (cs.toArray++vs.toArray++Builtin.zeroCells gz.cells (F-(n+1))) 67 (0,0)):=by
 have t0:=Tryz.underlying0;have a0:=a_0;have z0:=z_0;have v0:=v_0;have t3:=Tryz.underlying3;have a3:=a_3;have z3:=z_3;have v3:=v_3;have t4:=Tryz.underlying4;have a4:=a_4;have z4:=z_4;have v4:=v_4;have t9:=Tryz.underlying67;have a9:=I3;have z9:=DI;have v9:=z8;have b5:=Tryz.underlying27;have b6:=I5;have d1:=IS;have b4:=IV;have u0:=run_underlying Tryz.underlying0;have u3:=run_underlying Tryz.underlying3;have u4:=run_underlying Tryz.underlying4;have u9:=run_underlying Tryz.underlying67;have c5:=run_underlying Tryz.underlying27;have mixed:=mixed;obtain⟨i0,b1,c3,b7,a7⟩:=info_parts ZZ
 have Z:∀w':World,w'.heap=w.heap->(Builtin.firstCells 7 n (.slice y n c)).run Tryz.prog w'= .ok cs.toArray w':=fun w' O=>by
  cases y with
  |none=>have h0:=L rfl;subst h0;rw[cu.1 (Q.trans (ip _))];exact run_firstCells_none w' 7 0 0 c
  |some a=>exact run_firstCells_some w' 7 n a n c cs Q (fun j v hj=>by have:=b0 a rfl j v hj;simpa only[World.cell?,O]using this)
 obtain⟨F,a1,I⟩:=fv (P:=Tryz.prog) (w:=w) (t:=27) (u:=27) (ty:=27) (Y:= .slice (some ⟨T,C,none⟩) 1 vc) (bs:=y) (len:=n) (m:=1) (cap:=c) (os:=cs) (ns:=vs) (by_:=96) (z:=gz) (i:=i0) Tryz.underlying27 Tryz.underlying27 (.inl ⟨_,rfl⟩) If b1 a7 (by decide) z8 (fun _ _=>rfl) (fun w' O=>zq w' T C vc vs a2 (fun j v hj=>by have:=a8 j v hj;simpa only[World.cell?,O]using this)) Z (by omega) (by omega)
 have E:∀ty,(Builtin.append_ #[27,27] ty #[.slice y n c,.slice (some ⟨T,C,none⟩) 1 vc]).run Tryz.prog w= .ok (.slice (some ⟨w.heap.size,0,none⟩) (n+1) F) (w.drew.alloc (.cells (cs.toArray++vs.toArray++Builtin.zeroCells gz.cells (F-(n+1))) 67 (0,0))):=fun ty=>I
 refine Calls.mono (R:=fun e w'=>e= .returned (.slice (some ⟨w.heap.size,0,none⟩) (n+1) F)/\w'=w.drew.alloc (.cells (cs.toArray++vs.toArray++Builtin.zeroCells gz.cells (F-(n+1))) 67 (0,0))) ?_ (fun e w' h=>⟨F,a1,h.1,h.2⟩);obtain⟨W,J⟩:∃W:LAd,W=cs.toArray++vs.toArray++Builtin.zeroCells gz.cells (F-(n+1)):=⟨_,rfl⟩;rw[<-J]at E ⊢;clear J I
 go_enter Tryz.func86,Tryz.ntmps86
 cases y with
 |none=>
  have h0:=L rfl;subst h0
  go_wp2_with (at_builtin;refine Lib.wpList_append_run _ rfl _ _ _ _ rfl _ _ rfl rfl _ _ (E _) ?_)
  go_ret
  exact⟨rfl,rfl⟩
 |some a=>
  obtain⟨ab,ao,d2⟩:=a
  go_wp2_with (at_builtin;refine Lib.wpList_append_run _ rfl _ _ _ _ rfl _ _ rfl rfl _ _ (E _) ?_)
  all_goals (go_ret;exact⟨rfl,rfl⟩)
set_option maxHeartbeats 8000000 in
set_option maxRecDepth 100000 in
theorem Js(b n c i Q C vc:Nat)(cs vs:LAc)(w:World)(hi:i<n)(g9:n<=c)(a2:c<n+1)(e6:n<=1000000)
 (b1:cs.length=n*7) (e2:vs.length=7)
 (a7:∀j v,cs[j]? =some v->w.cell? ⟨b,j,none⟩=some v)
 (b4:∀j v,vs[j]? =some v->w.cell? ⟨Q,C+j,none⟩=some v) (d4:∀v∈cs,v.oneCell'=true) (e5:∀v∈vs,v.oneCell'=true):
 Calls Tryz.prog 86 #[.slice (some ⟨b,0,none⟩) n c,.int .i64 i,.slice (some ⟨Q,C,none⟩) 1 vc] w fun e w'=>
  e= .returned (.slice (some ⟨w.heap.size,0,none⟩) (n+1) (grownCap w (n+1) c 67))/\
  w'=(((w.alloc (.cells ((cs.take (i*7)).toArray++Builtin.zeroCells gz.cells (n+1-i)++Builtin.zeroCells gz.cells (grownCap w (n+1) c 67-(n+1))) 67)).drew.setCells w.heap.size (i*7) vs).drew).setCells w.heap.size ((i+1)*7) (cs.drop (i*7)):=by
 have t0:=Tryz.underlying0;have a0:=a_0;have z0:=z_0;have v0:=v_0;have t3:=Tryz.underlying3;have a3:=a_3;have z3:=z_3;have v3:=v_3;have t4:=Tryz.underlying4;have a4:=a_4;have z4:=z_4;have v4:=v_4;have t9:=Tryz.underlying67;have a9:=I3;have z9:=DI;have v9:=z8;have f0:=Tryz.underlying27;have f4:=I5;have g4:=IS;have g6:=IV;have u0:=run_underlying Tryz.underlying0;have u3:=run_underlying Tryz.underlying3;have u4:=run_underlying Tryz.underlying4;have u9:=run_underlying Tryz.underlying67;have h1:=run_underlying Tryz.underlying27;have mixed:=mixed;obtain⟨i0,e0,e3,d3,b3⟩:=info_parts ZZ;have f5:¬((i:Int)=(n:Int)):=by omega
 have g2:(c:Int)<(n:Int)+1:=by omega
 have e4:b<w.heap.size:=block_lt_of_cell (a7 0 _ (ac (by omega)));have d6:Q<w.heap.size:=block_lt_of_cell (b4 0 _ (ac (by omega)));have b6:(n:Int)+1-(i:Int)=((n+1-i:Nat):Int):=by omega
 have a6:i+(n+1-i)=n+1:=by omega
 have g5:af.wrap ((n:Int)+1)=(n:Int)+1:=by rw[dC];omega
 have g3:af.wrap ((n:Int)+1-(i:Int))=(n:Int)+1-(i:Int):=by rw[dC];omega
 have T:(Builtin.firstCells i0.size i (.slice (some ⟨b,0,none⟩) i c)).run Tryz.prog w.drew= .ok (cs.take (i*7)).toArray w.drew:=by
  rw[d3]
  exact run_firstCells_some w.drew 7 i ⟨b,0,none⟩ i c (cs.take (i*7)) (by rw[aq];omega) (fun j v E=>by
   rw[eu,bT];rw[bL]at E;split at E
   ·exact a7 j v E
   ·cases E)
 have O:∀ty,(Builtin.append_ #[27,3] ty #[.slice (some ⟨b,0,none⟩) i c,.int .i64 ((n:Int)+1-(i:Int))]).run Tryz.prog w=
  .ok (.slice (some ⟨w.heap.size,0,none⟩) (n+1) (grownCap w (n+1) c 67)) (w.drew.alloc (.cells ((cs.take (i*7)).toArray++Builtin.zeroCells gz.cells (n+1-i)++Builtin.zeroCells gz.cells (grownCap w (n+1) c 67-(n+1))) 67)):=fun ty=>by
  have h:=Lib.run_append_grow_zeros w 27 3 ty 67 i0 _ .i64 .i64 Tryz.underlying27 Tryz.underlying3 e0 e3 (some ⟨b,0,none⟩) i c (cs.take (i*7)) T (n+1-i) (by omega) (by omega) (by omega) (by omega) (by rw[b3];omega) (by rw[b3,a6];exact growslice_fits a2 (by omega));rw[a6]at h;rw[b6];exact h
 obtain⟨G,hG⟩:∃G,G=grownCap w (n+1) c 67:=⟨_,rfl⟩;have a8:gz.cells.size=7:=rfl;obtain⟨y,J⟩:∃y:LAd,y=(cs.take (i*7)).toArray++Builtin.zeroCells gz.cells (n+1-i)++Builtin.zeroCells gz.cells (G-(n+1)):=⟨_,rfl⟩;rw[<-hG]at O ⊢;rw[<-J]at O ⊢
 have c3:(n+1)*7<=y.size:=by rw[J];simp only[cQ,bZ,aq,b1,ce,a8];omega
 obtain⟨L,F⟩:∃L,L=w.drew.alloc (.cells y 67):=⟨_,rfl⟩;rw[<-F]at O
 have hN:∀j,j<(n+1)*7->(L.cell? ⟨w.heap.size,j,none⟩).isSome=true:=fun j E=>by rw[F,World.cell?_alloc_at (w:=w.drew) y _ w.heap.size j rfl,cy (by omega)];rfl
 have b5:∀j,L.frozen? ⟨w.heap.size,j,none⟩=false:=fun j=>by rw[F];exact World.frozen?_alloc_at (w:=w.drew) y _ w.heap.size j rfl
 have c7:∀j v,w.cell? ⟨b,j,none⟩=some v->L.cell? ⟨b,j,none⟩=some v:=fun j v h=>by rw[F,World.cell?_alloc_past (w:=w.drew) _ b j e4];exact h
 have d7:∀j v,w.cell? ⟨Q,j,none⟩=some v->L.cell? ⟨Q,j,none⟩=some v:=fun j v h=>by rw[F,World.cell?_alloc_past (w:=w.drew) _ Q j d6];exact h
 have b0:∀(W:World),(∀x,W.cell? x=L.cell? x)->(∀x,W.frozen? x=L.frozen? x)->∀ty dc,(Builtin.copy_ #[27,27] ty #[.slice (some ⟨w.heap.size,i*7,none⟩) (n+1-i) dc,.slice (some ⟨Q,C,none⟩) 1 vc]).run Tryz.prog W= .ok (goInt 1) (W.setCells w.heap.size (i*7) vs):=fun W I a1 ty dc=>
  eg W _ _ ty 67 w.heap.size (i*7) (n+1-i) dc ⟨Q,C,none⟩ 1 vc vs 7 1 Tryz.underlying27 xE (by simp only[Nat.min_def];split<;>omega) (by rw[e2])
   (fun j v E=>by rw[eu,I];exact d7 _ v (b4 j v E))
   (fun j E=>by rw[I];exact hN _ (by omega)) (fun j E=>by rw[a1];exact b5 _) e5
 have h0:n+1<=G:=by rw[hG];exact grownCap_ge w _ _ _
 have e8:G<=9223372036854775807:=by have:=grownCap_le_maxLen w (n+1) c 67 (by unfold maxLen;omega);rw[<-hG]at this;unfold maxLen at this;omega
 have f1:¬(G=i):=by omega
 have e7:¬(G=i+1):=by omega
 have f2:¬(c=i):=by omega
 have d2:b≠w.heap.size:=by omega
 have d5:(cs.drop (i*7)).length=(n-i)*7:=by rw[aG,b1];omega
 have Z:∀(W:World),(∀x,W.cell? x=(L.setCells w.heap.size (i*7) vs).cell? x)->(∀x,W.frozen? x=(L.setCells w.heap.size (i*7) vs).frozen? x)->∀ty dc sc,(Builtin.copy_ #[27,27] ty #[.slice (some ⟨w.heap.size,(i+1)*7,none⟩) (n-i) dc,.slice (some ⟨b,i*7,none⟩) (n-i) sc]).run Tryz.prog W= .ok (goInt ((n-i:Nat):Int)) (W.setCells w.heap.size ((i+1)*7) (cs.drop (i*7))):=fun W I a1 ty dc sc=>
  eg W _ _ ty 67 w.heap.size ((i+1)*7) (n-i) dc ⟨b,i*7,none⟩ (n-i) sc (cs.drop (i*7)) 7 (n-i) Tryz.underlying27 xE (by simp only[Nat.min_def];split<;>omega) d5
   (fun j v E=>by rw[eu,I,World.cell?_setCells_out _ _ _ _ _ (fun h _=>absurd h d2)];exact c7 _ v (a7 (i*7+j) v (by rwa[bz]at E)))
   (fun j E=>by rw[I];exact isSome_setCells _ _ _ _ (fun t ht=>hN _ (by omega)) _ (hN _ (by omega)))
   (fun j E=>by rw[a1,World.frozen?_setCells];exact b5 _) (fun v hv=>d4 v (cB hv))
 subst F;have d1:∀x,((w.alloc (.cells y 67)).drew).cell? x=(w.drew.alloc (.cells y 67)).cell? x:=fun x=>rfl
 have c5:∀x,((w.alloc (.cells y 67)).drew).frozen? x=(w.drew.alloc (.cells y 67)).frozen? x:=fun x=>rfl
 have b7:∀x,(((w.alloc (.cells y 67)).drew.setCells w.heap.size (i*7) vs).drew).cell? x=((w.drew.alloc (.cells y 67)).setCells w.heap.size (i*7) vs).cell? x:=fun x=>rfl
 have e1:∀x,(((w.alloc (.cells y 67)).drew.setCells w.heap.size (i*7) vs).drew).frozen? x=((w.drew.alloc (.cells y 67)).setCells w.heap.size (i*7) vs).frozen? x:=fun x=>rfl
 have f7:af.wrap ((i:Int)+1)=(i:Int)+1:=by rw[dC];omega
 have g8:(0:Int)<=(i:Int)+1:=by omega
 have g7:i<=n:=by omega
 have e9:((i:Int)+1).toNat=i+1:=by omega
 have g1:(i:Int)<=(n:Int):=by omega
 clear b6 a6 T J hG c3
 go_enter Tryz.func86,Tryz.ntmps86
 go_wp2_with (first
  |(at_builtin;refine Lib.wpList_append_run _ rfl _ _ _ _ rfl _ _ rfl rfl _ _ (O _) ?_)
  |(at_builtin;refine wpList_copy_runI _ rfl _ _ 27 27 rfl _ _ rfl rfl (b0 _ d1 c5 _ _) ?_)
  |(at_builtin;refine wpList_copy_runI _ rfl _ _ 27 27 rfl _ _ rfl rfl (Z _ (fun _=>rfl) (fun _=>rfl) _ _ _) ?_))
 go_region_law_o (refine step_copy_runI rfl _ _ 27 27 rfl (.slice (some ⟨w.heap.size,(i+1)*7,none⟩) (n-i) (G-(i+1))) (.slice (some ⟨b,i*7,none⟩) (n-i) (c-i)) (by simp[Act.eval,Act.put]) (by simp[Act.eval,Act.put]) (Z _ b7 e1 3 (G-(i+1)) (c-i)) ?_)
 go_wp2
 go_ret
 exact⟨rfl,rfl⟩
theorem IR:∀w,(Go.sizeOf 28).run Tryz.prog w= .ok 1 w:=fun w=>cr (by kernel_rfl) w
theorem I4:∀w,(isAgg 28).run Tryz.prog w= .ok false w:=fun w=>fi (by kernel_rfl) w
theorem IU:∀w,(zeroValue 28).run Tryz.prog w= .ok (.slice none 0 0) w:=fun w=>kI (by kernel_rfl) w
theorem DH:∀w,(Go.sizeOf 70).run Tryz.prog w= .ok 2 w:=fun w=>cr (by kernel_rfl) w
theorem I2:∀w,(isAgg 70).run Tryz.prog w= .ok true w:=fun w=>fi (by kernel_rfl) w
theorem z7:∀w,(zeroValue 70).run Tryz.prog w= .ok (.agg #[.slice none 0 0,.int .i64 0]) w:=fun w=>kI (by kernel_rfl) w
def gx:Value:=Value.agg #[.slice none 0 0,.int .i64 0]
theorem ZY:(Tryz.prog.info? 70).map (fun i=>(i.zero,i.size,i.bytes))=some (some gx,2,32):=by kernel_rfl
theorem Ie:fK Tryz.prog 70=some 2:=by kernel_rfl
theorem xD:(Tryz.prog.info? 70).map (·.size)=some 2:=by obtain⟨F,h,E,y,C⟩:=info_parts ZY;rw[h];simp[y]
theorem zp(w:World)(C h vc:Nat)(vs:LAc)(E:vs.length=2)(y:∀j v,vs[j]? =some v->w.cell? ⟨C,h+j,none⟩=some v):(Builtin.firstCells 2 1 (.slice (some ⟨C,h,none⟩) 1 vc)).run Tryz.prog w= .ok vs.toArray w:=
 run_firstCells_some w 2 1 ⟨C,h,none⟩ 1 vc vs (by rw[E]) (fun j v F=>by rw[eu];exact y j v F)
set_option maxHeartbeats 8000000 in
set_option maxRecDepth 100000 in
theorem GE(b n c i I y vc:Nat)(cs vs:LAc)(w:World)(hi:i<n)(b1:n+1<=c)(d1:n<=1000000)(T:I≠b)
 (b3:cs.length=n*2) (b0:vs.length=2)
 (b7:∀j v,cs[j]? =some v->w.cell? ⟨b,j,none⟩=some v) (O:∀j,j<(n+1)*2->(w.cell? ⟨b,j,none⟩).isSome=true) (J:∀j,j<(n+1)*2->w.frozen? ⟨b,j,none⟩=false)
 (b6:∀j v,vs[j]? =some v->w.cell? ⟨I,y+j,none⟩=some v) (a7:∀v∈cs,v.oneCell'=true) (c5:∀v∈vs,v.oneCell'=true)
 (tA tB:TypeId) (kA kB:Nat) (a6:w.shape? I=some (tA,kA+1)) (c3:w.shape? b=some (tB,kB)) (b4:w.frozen? ⟨b,kB,none⟩=false):
 Calls Tryz.prog 90 #[.slice (some ⟨b,0,none⟩) n c,.int .i64 i,.slice (some ⟨I,y,none⟩) 1 vc] w fun e w'=>e= .returned (.slice (some ⟨b,0,none⟩) (n+1) c)/\w'=(w.drew.setCells b ((i+1)*2) (cs.drop (i*2))).setCells b (i*2) vs:=by
 have t0:=Tryz.underlying0;have a0:=a_0;have z0:=z_0;have v0:=v_0;have t3:=Tryz.underlying3;have a3:=a_3;have z3:=z_3;have v3:=v_3;have t4:=Tryz.underlying4;have a4:=a_4;have z4:=z_4;have v4:=v_4;have t9:=Tryz.underlying70;have a9:=I2;have z9:=DH;have v9:=z7;have d3:=Tryz.underlying28;have d5:=I4;have e2:=IR;have e3:=IU;have u0:=run_underlying Tryz.underlying0;have u3:=run_underlying Tryz.underlying3;have u4:=run_underlying Tryz.underlying4;have u9:=run_underlying Tryz.underlying70;have e7:=run_underlying Tryz.underlying28;have mixed:=mixed;have d6:¬((i:Int)=(n:Int)):=by omega
 have b5:∀lb cb,(callFunc 135 #[.slice (some ⟨I,y,none⟩) 1 vc,.slice (some ⟨b,(i+1)*2,none⟩) lb cb]).run Tryz.prog w= .ok (.value (.bool false)) w:=fun lb cb=>by
  rw[run_callFunc_extern Tryz.func135 (by kernel_rfl) (by kernel_rfl) (by kernel_rfl) (e:=Extern.SlicesOverlaps.overlaps #[28,28] #[4]) (by kernel_rfl),
   mV w 28 4 70 Tryz.underlying28 2 DH ⟨I,y,none⟩ ⟨b,(i+1)*2,none⟩ 1 vc lb cb T tA tB kA kB a6 c3 (J ((i+1)*2) (by omega)) b4]
  rfl
 have Z:(cs.drop (i*2)).length=(n-i)*2:=by rw[aG,b3];omega
 have d7:af.wrap ((i:Int)+1)=(i:Int)+1:=by rw[dC];omega
 have e1:af.wrap ((n:Int)+1)=(n:Int)+1:=by rw[dC];omega
 have e6:(0:Int)<=(i:Int)+1:=by omega
 have e4:i<=n:=by omega
 have d2:((i:Int)+1).toNat=i+1:=by omega
 have c7:((n:Int)+1).toNat=n+1:=by omega
 have d4:¬(c=i+1):=by omega
 have e0:(i:Int)<=(n:Int)+1:=by omega
 have e5:¬(c=i):=by omega
 have F:∀ty L sc,(Builtin.copy_ #[28,28] ty #[.slice (some ⟨b,(i+1)*2,none⟩) (n-i) L,.slice (some ⟨b,i*2,none⟩) (n+1-i) sc]).run Tryz.prog w.drew= .ok (goInt ((n-i:Nat):Int)) (w.drew.setCells b ((i+1)*2) (cs.drop (i*2))):=fun ty L sc=>
  eg w.drew _ _ ty 70 b ((i+1)*2) (n-i) L ⟨b,i*2,none⟩ (n+1-i) sc (cs.drop (i*2)) 2 (n-i) Tryz.underlying28 xD (by simp only[Nat.min_def];split<;>omega) Z
   (fun j v E=>by rw[eu];exact b7 (i*2+j) v (by rwa[bz]at E))
   (fun j E=>O _ (by omega)) (fun j E=>J _ (by omega)) (fun v hv=>a7 v (cB hv))
 obtain⟨W1,C⟩:∃W1,W1=w.drew.setCells b ((i+1)*2) (cs.drop (i*2)):=⟨_,rfl⟩
 have Q:∀k,k<(n+1)*2->(W1.cell? ⟨b,k,none⟩).isSome=true:=fun k hk=>by rw[C];exact isSome_setCells b _ _ _ (fun j E=>by rw[Z]at E;exact O _ (by omega)) _ (O k hk)
 have a1:∀(W:World),(∀x,W.cell? x=W1.cell? x)->(∀x,W.frozen? x=W1.frozen? x)->∀ty L,(Builtin.copy_ #[28,28] ty #[.slice (some ⟨b,i*2,none⟩) (n+1-i) L,.slice (some ⟨I,y,none⟩) 1 vc]).run Tryz.prog W= .ok (goInt 1) (W.setCells b (i*2) vs):=fun W a2 a8 ty L=>
  eg W _ _ ty 70 b (i*2) (n+1-i) L ⟨I,y,none⟩ 1 vc vs 2 1 Tryz.underlying28 xD (by simp only[Nat.min_def];split<;>omega) (by rw[b0])
   (fun j v E=>by rw[eu,a2,C,World.cell?_setCells_out b _ _ _ _ (fun h _=>absurd h T)];exact b6 j v E)
   (fun j E=>by rw[a2];exact Q _ (by omega)) (fun j E=>by rw[a8,C,World.frozen?_setCells];exact J _ (by omega)) c5
 rw[<-C]at F
 go_enter Tryz.func90,Tryz.ntmps90
 go_wp2_with (simp only[b5])
 go_region_law_o (refine step_copy_runI rfl _ _ 28 28 rfl _ _ (by simp[Act.eval,Act.put]) (by simp[Act.eval,Act.put]) (F _ _ _) ?_)
 go_wp2_with (at_builtin;refine wpList_copy_runI _ rfl _ _ 28 28 rfl _ _ rfl rfl (a1 _ (fun _=>rfl) (fun _=>rfl) _ _) ?_)
 go_ret
 first|exact⟨rfl,rfl⟩|exact⟨rfl,by rw[C]⟩
set_option maxHeartbeats 8000000 in
set_option maxRecDepth 100000 in
theorem Jn(b n c F h vc:Nat)(vs:LAc)(w:World)(C:n+1<=c)(T:n<=1000000)
 (y:vs.length=2) (I:∀j,j<2->(w.cell? ⟨b,n*2+j,none⟩).isSome=true) (J:∀j,j<2->w.frozen? ⟨b,n*2+j,none⟩=false)
 (O:∀j v,vs[j]? =some v->w.cell? ⟨F,h+j,none⟩=some v) (Q:∀v∈vs,v.oneCell'=true):
 Calls Tryz.prog 90 #[.slice (some ⟨b,0,none⟩) n c,.int .i64 n,.slice (some ⟨F,h,none⟩) 1 vc] w fun e w'=>e= .returned (.slice (some ⟨b,0,none⟩) (n+1) c)/\w'=w.setCells b (n*2) vs:=by
 have t0:=Tryz.underlying0;have a0:=a_0;have z0:=z_0;have v0:=v_0;have t3:=Tryz.underlying3;have a3:=a_3;have z3:=z_3;have v3:=v_3;have t4:=Tryz.underlying4;have a4:=a_4;have z4:=z_4;have v4:=v_4;have t9:=Tryz.underlying70;have a9:=I2;have z9:=DH;have v9:=z7;have Z:=Tryz.underlying28;have a1:=I4;have a6:=IR;have W:=IU;have u0:=run_underlying Tryz.underlying0;have u3:=run_underlying Tryz.underlying3;have u4:=run_underlying Tryz.underlying4;have u9:=run_underlying Tryz.underlying70;have a2:=run_underlying Tryz.underlying28;have mixed:=mixed;have L:=run_storeCells_cells (P:=Tryz.prog) b (n*2) vs 0 w (by rw[y];simpa using I) (by rw[y];simpa using J) Q
 have E:∀ty,(Builtin.append_ #[28,28] ty #[.slice (some ⟨b,0,none⟩) n c,.slice (some ⟨F,h,none⟩) 1 vc]).run Tryz.prog w= .ok (.slice (some ⟨b,0,none⟩) (n+1) c) (w.setCells b (n*2) vs):=fun ty=>
  fc (P:=Tryz.prog) (t:=28) (u:=28) (ty:=ty) (bs:=some ⟨b,0,none⟩) (len:=n) (m:=1) (cap:=c) Tryz.underlying28 Tryz.underlying28 (.inl ⟨_,rfl⟩) Ie rfl (zp w F h vc vs y O) C (by show(storeCells ((⟨b,0,none⟩:Addr).add (n*2)) vs).run Tryz.prog w=_;rw[eu,bT];simpa using L)
 go_enter Tryz.func90,Tryz.ntmps90
 go_wp2_with (at_builtin;refine Lib.wpList_append_run _ rfl _ _ _ _ rfl _ _ rfl rfl _ _ (E _) ?_)
 go_ret
 exact⟨rfl,rfl⟩
set_option maxHeartbeats 8000000 in
set_option maxRecDepth 100000 in
theorem Yb(y:Option Addr)(n c T C vc:Nat)(cs vs:LAc)(w:World)(c7:n<=c)(a6:c<n+1)(b3:n<=1000000)
 (Q:cs.length=n*2) (a2:vs.length=2) (L:y=none->n=0)
 (b0:∀a,y=some a->∀j v,cs[j]? =some v->w.cell? (a.add j)=some v)
 (a8:∀j v,vs[j]? =some v->w.cell? ⟨T,C+j,none⟩=some v) (d3:∀v∈vs,v.oneCell'=true):
 Calls Tryz.prog 90 #[.slice y n c,.int .i64 n,.slice (some ⟨T,C,none⟩) 1 vc] w fun e w'=>
  ∃F,n+1<=F/\e= .returned (.slice (some ⟨w.heap.size,0,none⟩) (n+1) F)/\
  w'=w.drew.alloc (.cells (cs.toArray++vs.toArray++Builtin.zeroCells gx.cells (F-(n+1))) 70 (0,0)):=by
 have t0:=Tryz.underlying0;have a0:=a_0;have z0:=z_0;have v0:=v_0;have t3:=Tryz.underlying3;have a3:=a_3;have z3:=z_3;have v3:=v_3;have t4:=Tryz.underlying4;have a4:=a_4;have z4:=z_4;have v4:=v_4;have t9:=Tryz.underlying70;have a9:=I2;have z9:=DH;have v9:=z7;have b5:=Tryz.underlying28;have b6:=I4;have d1:=IR;have b4:=IU;have u0:=run_underlying Tryz.underlying0;have u3:=run_underlying Tryz.underlying3;have u4:=run_underlying Tryz.underlying4;have u9:=run_underlying Tryz.underlying70;have c5:=run_underlying Tryz.underlying28;have mixed:=mixed;obtain⟨i0,b1,c3,b7,a7⟩:=info_parts ZY
 have Z:∀w':World,w'.heap=w.heap->(Builtin.firstCells 2 n (.slice y n c)).run Tryz.prog w'= .ok cs.toArray w':=fun w' O=>by
  cases y with
  |none=>have h0:=L rfl;subst h0;rw[cu.1 (Q.trans (ip _))];exact run_firstCells_none w' 2 0 0 c
  |some a=>exact run_firstCells_some w' 2 n a n c cs Q (fun j v hj=>by have:=b0 a rfl j v hj;simpa only[World.cell?,O]using this)
 obtain⟨F,a1,I⟩:=fv (P:=Tryz.prog) (w:=w) (t:=28) (u:=28) (ty:=28) (Y:= .slice (some ⟨T,C,none⟩) 1 vc) (bs:=y) (len:=n) (m:=1) (cap:=c) (os:=cs) (ns:=vs) (by_:=32) (z:=gx) (i:=i0) Tryz.underlying28 Tryz.underlying28 (.inl ⟨_,rfl⟩) Ie b1 a7 (by decide) z7 (fun _ _=>rfl) (fun w' O=>zp w' T C vc vs a2 (fun j v hj=>by have:=a8 j v hj;simpa only[World.cell?,O]using this)) Z (by omega) (by omega)
 have E:∀ty,(Builtin.append_ #[28,28] ty #[.slice y n c,.slice (some ⟨T,C,none⟩) 1 vc]).run Tryz.prog w= .ok (.slice (some ⟨w.heap.size,0,none⟩) (n+1) F) (w.drew.alloc (.cells (cs.toArray++vs.toArray++Builtin.zeroCells gx.cells (F-(n+1))) 70 (0,0))):=fun ty=>I
 refine Calls.mono (R:=fun e w'=>e= .returned (.slice (some ⟨w.heap.size,0,none⟩) (n+1) F)/\w'=w.drew.alloc (.cells (cs.toArray++vs.toArray++Builtin.zeroCells gx.cells (F-(n+1))) 70 (0,0))) ?_ (fun e w' h=>⟨F,a1,h.1,h.2⟩);obtain⟨W,J⟩:∃W:LAd,W=cs.toArray++vs.toArray++Builtin.zeroCells gx.cells (F-(n+1)):=⟨_,rfl⟩;rw[<-J]at E ⊢;clear J I
 go_enter Tryz.func90,Tryz.ntmps90
 cases y with
 |none=>
  have h0:=L rfl;subst h0
  go_wp2_with (at_builtin;refine Lib.wpList_append_run _ rfl _ _ _ _ rfl _ _ rfl rfl _ _ (E _) ?_)
  go_ret
  exact⟨rfl,rfl⟩
 |some a=>
  obtain⟨ab,ao,d2⟩:=a
  go_wp2_with (at_builtin;refine Lib.wpList_append_run _ rfl _ _ _ _ rfl _ _ rfl rfl _ _ (E _) ?_)
  all_goals (go_ret;exact⟨rfl,rfl⟩)
set_option maxHeartbeats 8000000 in
set_option maxRecDepth 100000 in
theorem Jo(b n c i Q C vc:Nat)(cs vs:LAc)(w:World)(hi:i<n)(g9:n<=c)(a2:c<n+1)(e6:n<=1000000)
 (b1:cs.length=n*2) (e2:vs.length=2)
 (a7:∀j v,cs[j]? =some v->w.cell? ⟨b,j,none⟩=some v)
 (b4:∀j v,vs[j]? =some v->w.cell? ⟨Q,C+j,none⟩=some v) (d4:∀v∈cs,v.oneCell'=true) (e5:∀v∈vs,v.oneCell'=true):
 Calls Tryz.prog 90 #[.slice (some ⟨b,0,none⟩) n c,.int .i64 i,.slice (some ⟨Q,C,none⟩) 1 vc] w fun e w'=>
  e= .returned (.slice (some ⟨w.heap.size,0,none⟩) (n+1) (grownCap w (n+1) c 70))/\
  w'=(((w.alloc (.cells ((cs.take (i*2)).toArray++Builtin.zeroCells gx.cells (n+1-i)++Builtin.zeroCells gx.cells (grownCap w (n+1) c 70-(n+1))) 70)).drew.setCells w.heap.size (i*2) vs).drew).setCells w.heap.size ((i+1)*2) (cs.drop (i*2)):=by
 have t0:=Tryz.underlying0;have a0:=a_0;have z0:=z_0;have v0:=v_0;have t3:=Tryz.underlying3;have a3:=a_3;have z3:=z_3;have v3:=v_3;have t4:=Tryz.underlying4;have a4:=a_4;have z4:=z_4;have v4:=v_4;have t9:=Tryz.underlying70;have a9:=I2;have z9:=DH;have v9:=z7;have f0:=Tryz.underlying28;have f4:=I4;have g4:=IR;have g6:=IU;have u0:=run_underlying Tryz.underlying0;have u3:=run_underlying Tryz.underlying3;have u4:=run_underlying Tryz.underlying4;have u9:=run_underlying Tryz.underlying70;have h1:=run_underlying Tryz.underlying28;have mixed:=mixed;obtain⟨i0,e0,e3,d3,b3⟩:=info_parts ZY;have f5:¬((i:Int)=(n:Int)):=by omega
 have g2:(c:Int)<(n:Int)+1:=by omega
 have e4:b<w.heap.size:=block_lt_of_cell (a7 0 _ (ac (by omega)));have d6:Q<w.heap.size:=block_lt_of_cell (b4 0 _ (ac (by omega)));have b6:(n:Int)+1-(i:Int)=((n+1-i:Nat):Int):=by omega
 have a6:i+(n+1-i)=n+1:=by omega
 have g5:af.wrap ((n:Int)+1)=(n:Int)+1:=by rw[dC];omega
 have g3:af.wrap ((n:Int)+1-(i:Int))=(n:Int)+1-(i:Int):=by rw[dC];omega
 have T:(Builtin.firstCells i0.size i (.slice (some ⟨b,0,none⟩) i c)).run Tryz.prog w.drew= .ok (cs.take (i*2)).toArray w.drew:=by
  rw[d3]
  exact run_firstCells_some w.drew 2 i ⟨b,0,none⟩ i c (cs.take (i*2)) (by rw[aq];omega) (fun j v E=>by
   rw[eu,bT];rw[bL]at E;split at E
   ·exact a7 j v E
   ·cases E)
 have O:∀ty,(Builtin.append_ #[28,3] ty #[.slice (some ⟨b,0,none⟩) i c,.int .i64 ((n:Int)+1-(i:Int))]).run Tryz.prog w=
  .ok (.slice (some ⟨w.heap.size,0,none⟩) (n+1) (grownCap w (n+1) c 70)) (w.drew.alloc (.cells ((cs.take (i*2)).toArray++Builtin.zeroCells gx.cells (n+1-i)++Builtin.zeroCells gx.cells (grownCap w (n+1) c 70-(n+1))) 70)):=fun ty=>by
  have h:=Lib.run_append_grow_zeros w 28 3 ty 70 i0 _ .i64 .i64 Tryz.underlying28 Tryz.underlying3 e0 e3 (some ⟨b,0,none⟩) i c (cs.take (i*2)) T (n+1-i) (by omega) (by omega) (by omega) (by omega) (by rw[b3];omega) (by rw[b3,a6];exact growslice_fits a2 (by omega));rw[a6]at h;rw[b6];exact h
 obtain⟨G,hG⟩:∃G,G=grownCap w (n+1) c 70:=⟨_,rfl⟩;have a8:gx.cells.size=2:=rfl;obtain⟨y,J⟩:∃y:LAd,y=(cs.take (i*2)).toArray++Builtin.zeroCells gx.cells (n+1-i)++Builtin.zeroCells gx.cells (G-(n+1)):=⟨_,rfl⟩;rw[<-hG]at O ⊢;rw[<-J]at O ⊢
 have c3:(n+1)*2<=y.size:=by rw[J];simp only[cQ,bZ,aq,b1,ce,a8];omega
 obtain⟨L,F⟩:∃L,L=w.drew.alloc (.cells y 70):=⟨_,rfl⟩;rw[<-F]at O
 have hN:∀j,j<(n+1)*2->(L.cell? ⟨w.heap.size,j,none⟩).isSome=true:=fun j E=>by rw[F,World.cell?_alloc_at (w:=w.drew) y _ w.heap.size j rfl,cy (by omega)];rfl
 have b5:∀j,L.frozen? ⟨w.heap.size,j,none⟩=false:=fun j=>by rw[F];exact World.frozen?_alloc_at (w:=w.drew) y _ w.heap.size j rfl
 have c7:∀j v,w.cell? ⟨b,j,none⟩=some v->L.cell? ⟨b,j,none⟩=some v:=fun j v h=>by rw[F,World.cell?_alloc_past (w:=w.drew) _ b j e4];exact h
 have d7:∀j v,w.cell? ⟨Q,j,none⟩=some v->L.cell? ⟨Q,j,none⟩=some v:=fun j v h=>by rw[F,World.cell?_alloc_past (w:=w.drew) _ Q j d6];exact h
 have b0:∀(W:World),(∀x,W.cell? x=L.cell? x)->(∀x,W.frozen? x=L.frozen? x)->∀ty dc,(Builtin.copy_ #[28,28] ty #[.slice (some ⟨w.heap.size,i*2,none⟩) (n+1-i) dc,.slice (some ⟨Q,C,none⟩) 1 vc]).run Tryz.prog W= .ok (goInt 1) (W.setCells w.heap.size (i*2) vs):=fun W I a1 ty dc=>
  eg W _ _ ty 70 w.heap.size (i*2) (n+1-i) dc ⟨Q,C,none⟩ 1 vc vs 2 1 Tryz.underlying28 xD (by simp only[Nat.min_def];split<;>omega) (by rw[e2])
   (fun j v E=>by rw[eu,I];exact d7 _ v (b4 j v E))
   (fun j E=>by rw[I];exact hN _ (by omega)) (fun j E=>by rw[a1];exact b5 _) e5
 have h0:n+1<=G:=by rw[hG];exact grownCap_ge w _ _ _
 have e8:G<=9223372036854775807:=by have:=grownCap_le_maxLen w (n+1) c 70 (by unfold maxLen;omega);rw[<-hG]at this;unfold maxLen at this;omega
 have f1:¬(G=i):=by omega
 have e7:¬(G=i+1):=by omega
 have f2:¬(c=i):=by omega
 have d2:b≠w.heap.size:=by omega
 have d5:(cs.drop (i*2)).length=(n-i)*2:=by rw[aG,b1];omega
 have Z:∀(W:World),(∀x,W.cell? x=(L.setCells w.heap.size (i*2) vs).cell? x)->(∀x,W.frozen? x=(L.setCells w.heap.size (i*2) vs).frozen? x)->∀ty dc sc,(Builtin.copy_ #[28,28] ty #[.slice (some ⟨w.heap.size,(i+1)*2,none⟩) (n-i) dc,.slice (some ⟨b,i*2,none⟩) (n-i) sc]).run Tryz.prog W= .ok (goInt ((n-i:Nat):Int)) (W.setCells w.heap.size ((i+1)*2) (cs.drop (i*2))):=fun W I a1 ty dc sc=>
  eg W _ _ ty 70 w.heap.size ((i+1)*2) (n-i) dc ⟨b,i*2,none⟩ (n-i) sc (cs.drop (i*2)) 2 (n-i) Tryz.underlying28 xD (by simp only[Nat.min_def];split<;>omega) d5
   (fun j v E=>by rw[eu,I,World.cell?_setCells_out _ _ _ _ _ (fun h _=>absurd h d2)];exact c7 _ v (a7 (i*2+j) v (by rwa[bz]at E)))
   (fun j E=>by rw[I];exact isSome_setCells _ _ _ _ (fun t ht=>hN _ (by omega)) _ (hN _ (by omega)))
   (fun j E=>by rw[a1,World.frozen?_setCells];exact b5 _) (fun v hv=>d4 v (cB hv))
 subst F;have d1:∀x,((w.alloc (.cells y 70)).drew).cell? x=(w.drew.alloc (.cells y 70)).cell? x:=fun x=>rfl
 have c5:∀x,((w.alloc (.cells y 70)).drew).frozen? x=(w.drew.alloc (.cells y 70)).frozen? x:=fun x=>rfl
 have b7:∀x,(((w.alloc (.cells y 70)).drew.setCells w.heap.size (i*2) vs).drew).cell? x=((w.drew.alloc (.cells y 70)).setCells w.heap.size (i*2) vs).cell? x:=fun x=>rfl
 have e1:∀x,(((w.alloc (.cells y 70)).drew.setCells w.heap.size (i*2) vs).drew).frozen? x=((w.drew.alloc (.cells y 70)).setCells w.heap.size (i*2) vs).frozen? x:=fun x=>rfl
 have f7:af.wrap ((i:Int)+1)=(i:Int)+1:=by rw[dC];omega
 have g8:(0:Int)<=(i:Int)+1:=by omega
 have g7:i<=n:=by omega
 have e9:((i:Int)+1).toNat=i+1:=by omega
 have g1:(i:Int)<=(n:Int):=by omega
 clear b6 a6 T J hG c3
 go_enter Tryz.func90,Tryz.ntmps90
 go_wp2_with (first
  |(at_builtin;refine Lib.wpList_append_run _ rfl _ _ _ _ rfl _ _ rfl rfl _ _ (O _) ?_)
  |(at_builtin;refine wpList_copy_runI _ rfl _ _ 28 28 rfl _ _ rfl rfl (b0 _ d1 c5 _ _) ?_)
  |(at_builtin;refine wpList_copy_runI _ rfl _ _ 28 28 rfl _ _ rfl rfl (Z _ (fun _=>rfl) (fun _=>rfl) _ _ _) ?_))
 go_region_law_o (refine step_copy_runI rfl _ _ 28 28 rfl (.slice (some ⟨w.heap.size,(i+1)*2,none⟩) (n-i) (G-(i+1))) (.slice (some ⟨b,i*2,none⟩) (n-i) (c-i)) (by simp[Act.eval,Act.put]) (by simp[Act.eval,Act.put]) (Z _ b7 e1 3 (G-(i+1)) (c-i)) ?_)
 go_wp2
 go_ret
 exact⟨rfl,rfl⟩
theorem FQ:xi6 Tryz.prog 86 67 7 where
 cb:=by kernel_rfl
 shift:=fun b n c i Z y vc cs vs w hi h C b0 F E O Q T I a1 J hsh=>by
  obtain⟨tB,kB,b3,b1⟩:=hsh;have h0:0<vs.length:=by rw[E];decide
  obtain⟨tA,kA,a8⟩:=yj (I 0 _ (ac h0));exact GF b n c i Z y vc cs vs w hi h C b0 F E O Q T I a1 J tA tB kA kB a8 b3 b1
 room:=fun b n c Z y vc vs w h C E Q T I J=>Jr b n c Z y vc vs w h C E Q T I J
 grow:=fun b n c i Z y vc cs vs w hi a2 h C F E O I a1 J=>by
  refine(Js b n c i Z y vc cs vs w hi a2 h C F E O I a1 J).mono ?_;rintro e w' ⟨rfl,rfl⟩;have W:n+1<=grownCap w (n+1) c 67:=grownCap_ge w _ _ _;have L:gz.cells.size=7:=rfl;refine⟨grownCap w (n+1) c 67,_,W, ?_,rfl,rfl,fun k hk=> ?_⟩
  ·simp only[cQ,ce,L,bZ,aq,F]
   omega
  ·have hl:(cs.take (i*7)).length=i*7:=by rw[aq];omega
   rw[aS,co (by simp only[cQ,bZ,hl,ce,L];omega),co (by simp only[bZ,hl];omega)];rw[de,bL,if_pos hk,<-aa]
 endg:=fun a6 n c Z y vc cs vs w a2 h C F E a7 O I J=>by
  refine(Yd a6 n c Z y vc cs vs w a2 h C F E a7 O I J).mono ?_;rintro e w' ⟨nc,W,rfl,rfl⟩;have L:gz.cells.size=7:=rfl;refine⟨nc,_,W, ?_,rfl,rfl,fun k hk=> ?_⟩
  ·simp only[cQ,ce,L,bZ,F,E]
   omega
  ·rw[aS,co (by simp only[cQ,bZ,F,E];omega),List.append_toArray,de,<-aa]
def p86:t8->List aH->Nat->Option dV
 |[.psl 0 7 0 n none,.int .i64 i,.lst 7 [s] t],[.arr 7 rows],0=>if rows.length=n/\0<=i/\i<=n/\n<=1000000 then some ⟨.psl 100 7 0 (n+1) none,[(100,.arr 7 (kM rows i.toNat s))],[]⟩else none
 |[.lst 7 [] .clip,.int .i64 0,.lst 7 [s] t],[],0=>some ⟨.psl 100 7 0 1 none,[(100,.arr 7 [s])],[]⟩
 |_,_,_=>none
theorem p86_ok:∀y os k q,p86 y os k=some q->gg Tryz.prog 86 y os k (· =q):=by
 intro y os k q h;unfold p86 at h;split at h
 ·rename_i n i s t rows
  rw[aK]at h;obtain⟨⟨C,I,F,E⟩,h⟩:=h;cases h;obtain⟨j,rfl⟩:∃j:Nat,i=j:=⟨i.toNat,by omega⟩;have:=ul (by decide) (by decide) FQ (rows:=rows) (i:=j) (n:=n) (s:=s) (t:=t) C (by omega) E;rw[Int.toNat_natCast];exact this
 ·cases h
  exact qE (by decide) FQ
 ·cases h
theorem FP:xi6 Tryz.prog 90 70 2 where
 cb:=by kernel_rfl
 shift:=fun b n c i Z y vc cs vs w hi h C b0 F E O Q T I a1 J hsh=>by
  obtain⟨tB,kB,b3,b1⟩:=hsh;have h0:0<vs.length:=by rw[E];decide
  obtain⟨tA,kA,a8⟩:=yj (I 0 _ (ac h0));exact GE b n c i Z y vc cs vs w hi h C b0 F E O Q T I a1 J tA tB kA kB a8 b3 b1
 room:=fun b n c Z y vc vs w h C E Q T I J=>Jn b n c Z y vc vs w h C E Q T I J
 grow:=fun b n c i Z y vc cs vs w hi a2 h C F E O I a1 J=>by
  refine(Jo b n c i Z y vc cs vs w hi a2 h C F E O I a1 J).mono ?_;rintro e w' ⟨rfl,rfl⟩;have W:n+1<=grownCap w (n+1) c 70:=grownCap_ge w _ _ _;have L:gx.cells.size=2:=rfl;refine⟨grownCap w (n+1) c 70,_,W, ?_,rfl,rfl,fun k hk=> ?_⟩
  ·simp only[cQ,ce,L,bZ,aq,F]
   omega
  ·have hl:(cs.take (i*2)).length=i*2:=by rw[aq];omega
   rw[aS,co (by simp only[cQ,bZ,hl,ce,L];omega),co (by simp only[bZ,hl];omega)];rw[de,bL,if_pos hk,<-aa]
 endg:=fun a6 n c Z y vc cs vs w a2 h C F E a7 O I J=>by
  refine(Yb a6 n c Z y vc cs vs w a2 h C F E a7 O I J).mono ?_;rintro e w' ⟨nc,W,rfl,rfl⟩;have L:gx.cells.size=2:=rfl;refine⟨nc,_,W, ?_,rfl,rfl,fun k hk=> ?_⟩
  ·simp only[cQ,ce,L,bZ,F,E]
   omega
  ·rw[aS,co (by simp only[cQ,bZ,F,E];omega),List.append_toArray,de,<-aa]
def p90:t8->List aH->Nat->Option dV
 |[.psl 0 2 0 n none,.int .i64 i,.lst 2 [s] t],[.arr 2 rows],0=>if rows.length=n/\0<=i/\i<=n/\n<=1000000 then some ⟨.psl 100 2 0 (n+1) none,[(100,.arr 2 (kM rows i.toNat s))],[]⟩else none
 |[.lst 2 [] .clip,.int .i64 0,.lst 2 [s] t],[],0=>some ⟨.psl 100 2 0 1 none,[(100,.arr 2 [s])],[]⟩
 |_,_,_=>none
theorem p90_ok:∀y os k q,p90 y os k=some q->gg Tryz.prog 90 y os k (· =q):=by
 intro y os k q h;unfold p90 at h;split at h
 ·rename_i n i s t rows
  rw[aK]at h;obtain⟨⟨C,I,F,E⟩,h⟩:=h;cases h;obtain⟨j,rfl⟩:∃j:Nat,i=j:=⟨i.toNat,by omega⟩;have:=ul (by decide) (by decide) FP (rows:=rows) (i:=j) (n:=n) (s:=s) (t:=t) C (by omega) E;rw[Int.toNat_natCast];exact this
 ·cases h
  exact qE (by decide) FP
 ·cases h
end
end Pr
end Go.Proofs.YtbfnljmmepcbfaaGreatDoor
namespace Go.Proofs.YtbfnljmmepcbfaaGreatDoor
open Go.Sy
open Go.RowKit Go.ChangeShapes Go.WideShapes Go.Shelf Go.Lib
namespace Pr
section
variable [br]
variable {P : Program} {x : Sit}
structure xkf(P:Program)(g:Nat)(el:TypeId)(sz:Nat):Prop where
 cb:ez P g=true
 nil:∀(w:World),Calls P g #[.slice none 0 0] w fun e w'=>e= .returned (.slice none 0 0)/\w'=w
 zero:∀(a:Addr)(c:Nat)(w:World),Calls P g #[.slice (some a) 0 c] w fun e w'=>(∃a',e= .returned (.slice (some a') 0 0))/\Below w.heap.size w w'
 some:∀(b off n c:Nat)(cs:List Value)(w:World),1<=n->n<=1000000->cs.length=n*sz->(∀j v,cs[j]? =some v->w.cell? ⟨b,off+j,none⟩=some v)->
  Calls P g #[.slice (some ⟨b,off,none⟩) n c] w fun e w'=>∃(G:Nat)(R:Array Value),n<=G/\R.size=G*sz/\e= .returned (.slice (some ⟨w.heap.size+1,0,none⟩) n G)/\
   w'=((w.alloc (.cells #[] el (0,0))).drew).alloc (.cells R el (0,0))/\∀k,k<n*sz->R.getD k Go.undef=cs.getD k Go.undef
theorem uJ{g:Nat}{el:TypeId}{F:Nat}(I:xkf P g el F){t:Tok}:gg P g [.lst F [] t] [] 0 (· =⟨.lst F [] .clip,[],[]⟩):=by
 refine⟨I.cb,fun C x w vs hw hG hm hl L Q W=> ?_⟩;obtain⟨u0,rfl,r0⟩:=UO W
 have y:∀(v:Value)(w1:World),cL x.G (.lst F [] .clip) v->(∃a n,v= .slice a n n)->Below w.heap.size w w1->∃J x' q,(Ending.returned v:Ending)= .returned J/\q=(⟨.lst F [] .clip,[],[]⟩:dV)/\Rep x' q.r J/\dj C x' q.os q.tk w1/\(∀p∈q.os,p.2.wf=true)/\∀i,i<([]:List aH).length->x'.bk i=x.bk i:=fun v w1 h Z E=>by refine⟨v,x,_,rfl,rfl,.dat _ _ h Z,Q.below E, ?_,fun i hi=>rfl⟩;intro p T;simp at T
 cases r0 with
 |dat _ _ h _=>
  cases h with
  |lstN=>refine(I.nil w).mono ?_;rintro e w1 ⟨rfl,rfl⟩;exact y _ _ (.lstN _ _) ⟨_,_,rfl⟩ (Below.refl _ _)
  |lstE _ _ a=>refine(I.zero a 0 w).mono ?_;rintro e w1 ⟨⟨O,rfl⟩,E⟩;exact y _ _ (.lstE _ _ _) ⟨_,_,rfl⟩ E
  |lst _ _ _ b off cap n val hn hc hl hg h=>obtain rfl:n=0:=hn;refine(I.zero _ cap w).mono ?_;rintro e w1 ⟨⟨O,rfl⟩,E⟩;exact y _ _ (.lstE _ _ _) ⟨_,_,rfl⟩ E
theorem uI{g:Nat}{J:TypeId}{E:Nat}(hz:0<E)(hI:xkf P g J E){rows:d8}{t:Tok}(h1:1<=rows.length)(Q:rows.length<=1000000):
 gg P g [.lst E rows t] [] 0 (· =⟨.psl 100 E 0 rows.length none,[(100,.arr E rows)],[]⟩):=by
 refine⟨hI.cb,fun C x w vs hw hG hm hl b3 hH hr=> ?_⟩;obtain⟨u0,rfl,r0⟩:=UO hr;cases r0 with
 |dat _ _ h _=>
  cases h with
  |lstN=>simp at h1
  |lstE _ _ a=>simp at h1
  |lst _ _ _ b off cap n val hn hc hl hg h=>
   subst hn
   have F:∀y∈rows,y.length=E:=fun y hy=>by obtain⟨i,hi,rfl⟩:=bp hy;have:=hl i hi;rwa[aa,ac hi]at this
   obtain⟨cs,a6⟩:∃cs:LAc,cs=(bM (rows.length*E)).map fun k=>val (k/E) (k % E):=⟨_,rfl⟩
   have W:cs.length=rows.length*E:=by rw[a6];simp
   have a2:∀k,k<rows.length*E->k/E<rows.length/\k % E<E/\(k/E)*E+k % E=k:=fun k I=>⟨(Nat.div_lt_iff_lt_mul hz).2 I,Nat.mod_lt _ hz,by rw[cM];exact Nat.div_add_mod k E⟩
   have Z:∀k,k<rows.length*E->cs.getD k Go.undef=val (k/E) (k % E):=fun k I=>by rw[a6,aa];simp[I]
   have O:∀j v,cs[j]? =some v->w.cell? ⟨b,off+j,none⟩=some v:=fun j v hj=>by
    have a1:j<rows.length*E:=by rw[<-W];exact(pL.1 hj).1
    obtain⟨d1,d2,d3⟩:=a2 j a1;have h2:=hH.per _ _ _ (hg _ _ d1 d2);have h3:=Z j a1;rw[aa,hj,aM]at h3;rw[fu,d3,<-h3]at h2;exact h2
   refine(hI.some b off rows.length cap cs w h1 Q W O).mono ?_;rintro e w1 ⟨G,R,T,a7,rfl,rfl,hR⟩;have b4:rows.length*E<=G*E:=bh _ T;have b0:Below w.heap.size w (w.alloc (.cells #[] J (0,0))).drew:=((Below.refl _ w).alloc (aJ _) _).drew;have a8:=hH.below b0
   have b1:(w.alloc (.cells #[] J (0,0))).drew.heap.size=w.heap.size+1:=by show(w.alloc (.cells #[] J (0,0))).heap.size=_;rw[World.size_alloc]
   have L:(x.newO 100 (w.alloc (.cells #[] J (0,0))).drew.heap.size (G*E)).bk 100=((w.alloc (.cells #[] J (0,0))).drew.heap.size,G*E):=iZ _ _ _;refine⟨_,x.newO 100 (w.alloc (.cells #[] J (0,0))).drew.heap.size (G*E),_,rfl,rfl, ?_, ?_, ?_,fun i hi=>by simp at hi⟩
   ·have:=Rep.psl (x:=x.newO 100 (w.alloc (.cells #[] J (0,0))).drew.heap.size (G*E)) 100 E 0 rows.length none 0 G (.inr (by omega)) T (fun _ e=>by cases e) (fun _=> .inr (by rw[L];simp))
    rw[L]at this;rw[b1]at this ⊢;exact this
   ·refine a8.one ((Below.refl _ _).alloc (aJ _) _) ⟨R,J,0,0,by rw[L];exact⟨Go.Sy.heap_alloc_new,fun i _ h=>by omega⟩,⟨by simp only[aH.size];omega,by rw[L,a7];exact aJ _,fun _ h=>by omega⟩,fun k I=> ?_⟩
    simp only[aH.size]at I;rw[IF hz F I,hR k I,Z k I];obtain⟨d1,d2,d3⟩:=a2 k I;rw[sd hz F k I];exact h _ _ d1 d2
   ·intro p hp
    rw[bj.1 hp];exact gn.2 F
theorem xn4:∀(w:World)(a:Option Addr)(n c h y:Nat),(binOp .eql 27 (.slice a n c) (.slice none h y)).run Tryz.prog w= .ok (.bool a.isNone) w:=fun w a n c h y=>Lib.run_eql_slice_nil w _ _ a n c h y Tryz.underlying27
set_option maxHeartbeats 8000000 in
set_option maxRecDepth 100000 in
theorem Yc(w:World):Calls Tryz.prog 87 #[.slice none 0 0] w fun e w'=>e= .returned (.slice none 0 0)/\w'=w:=by
 have mixed:=mixed;have t0:=Tryz.underlying0;have a0:=a_0;have z0:=z_0;have v0:=v_0;have Z:=run_underlying Tryz.underlying0;have t3:=Tryz.underlying3;have a3:=a_3;have z3:=z_3;have v3:=v_3;have W:=run_underlying Tryz.underlying3;have t4:=Tryz.underlying4;have a4:=a_4;have z4:=z_4;have v4:=v_4;have u4:=run_underlying Tryz.underlying4;have T:=Tryz.underlying67;have h:=I3;have E:=DI;have O:=z8;have F:=run_underlying Tryz.underlying67;have L:=Tryz.underlying27;have I:=I5;have J:=IS;have Q:=IV;have y:=run_underlying Tryz.underlying27;have C:=xn4
 go_enter Tryz.func87,Tryz.ntmps87
 go_wp2
 go_ret
 exact⟨rfl,rfl⟩
set_option maxHeartbeats 8000000 in
set_option maxRecDepth 100000 in
theorem Jp(a:Addr)(c:Nat)(w:World):Calls Tryz.prog 87 #[.slice (some a) 0 c] w fun e w'=>(∃L,e= .returned (.slice (some L) 0 0))/\Below w.heap.size w w':=by
 have mixed:=mixed;have t0:=Tryz.underlying0;have a0:=a_0;have z0:=z_0;have v0:=v_0;have u0:=run_underlying Tryz.underlying0;have t3:=Tryz.underlying3;have a3:=a_3;have z3:=z_3;have v3:=v_3;have u3:=run_underlying Tryz.underlying3;have t4:=Tryz.underlying4;have a4:=a_4;have z4:=z_4;have v4:=v_4;have u4:=run_underlying Tryz.underlying4;have a8:=Tryz.underlying67;have y:=I3;have a2:=DI;have T:=z8;have I:=run_underlying Tryz.underlying67;have O:=Tryz.underlying27;have J:=I5;have a6:=IS;have a7:=IV;have C:=run_underlying Tryz.underlying27;have F:=xn4;obtain⟨i0,b0,Z,Q,a1⟩:=info_parts ZZ
 have h:∀(W:World)(b:Option Addr) ty,(Builtin.append_ #[27,27] ty #[.slice b 0 0,.slice (some a) 0 c]).run Tryz.prog W= .ok (.slice b 0 0) W:=fun W b ty=>fc (P:=Tryz.prog) (t:=27) (u:=27) (ty:=ty) (w:=W) (w1:=W) (bs:=b) (len:=0) (m:=0) (cap:=0) (ns:=[]) Tryz.underlying27 Tryz.underlying27 (.inl ⟨_,rfl⟩) If rfl (run_firstCells_some W 7 0 a 0 c [] (by simp) (fun j v E=>by simp at E)) (by omega) (by cases b<;>simp[storeCells])
 go_enter Tryz.func87,Tryz.ntmps87
 go_wp2_with (at_builtin;refine Lib.wpList_append_run _ rfl _ _ _ _ rfl _ _ rfl rfl _ _ (h _ _ _) ?_)
 go_ret
 exact⟨⟨_,rfl⟩,(Below.refl _ w).alloc (aJ _) _⟩
set_option maxHeartbeats 8000000 in
set_option maxRecDepth 100000 in
theorem Jq(b off n c:Nat)(cs:LAc)(w:World)(h1:1<=n)(b0:n<=1000000)(a1:cs.length=n*7)(a6:∀j v,cs[j]? =some v->w.cell? ⟨b,off+j,none⟩=some v):
 Calls Tryz.prog 87 #[.slice (some ⟨b,off,none⟩) n c] w fun e w'=>∃E,n<=E/\e= .returned (.slice (some ⟨w.heap.size+1,0,none⟩) n E)/\
  w'=((w.alloc (.cells #[] 67 (0,0))).drew).alloc (.cells (cs.toArray++Builtin.zeroCells gz.cells (E-n)) 67 (0,0)):=by
 have mixed:=mixed;have t0:=Tryz.underlying0;have a0:=a_0;have z0:=z_0;have v0:=v_0;have u0:=run_underlying Tryz.underlying0;have t3:=Tryz.underlying3;have a3:=a_3;have z3:=z_3;have v3:=v_3;have u3:=run_underlying Tryz.underlying3;have t4:=Tryz.underlying4;have a4:=a_4;have z4:=z_4;have v4:=v_4;have u4:=run_underlying Tryz.underlying4;have d4:=Tryz.underlying67;have b1:=I3;have d1:=DI;have c5:=z8;have b5:=run_underlying Tryz.underlying67;have b7:=Tryz.underlying27;have b6:=I5;have d2:=IS;have d3:=IV;have b3:=run_underlying Tryz.underlying27;have b4:=xn4;obtain⟨i0,a8,c7,c3,a2⟩:=info_parts ZZ;obtain⟨F,I⟩:∃F,F=w.alloc (.cells #[] 67 (0,0)):=⟨_,rfl⟩;have a7:F.heap.size=w.heap.size+1:=by rw[I,World.size_alloc]
 have L:∀w':World,w'.heap=F.heap->(Builtin.firstCells 7 0 (.slice (some ⟨w.heap.size,0,none⟩) 0 0)).run Tryz.prog w'= .ok ([]:LAc).toArray w':=fun w' W=>run_firstCells_some w' 7 0 _ 0 0 [] (by simp) (fun j v Z=>by simp at Z)
 have J:∀w':World,w'.heap=F.heap->(Builtin.firstCells 7 n (.slice (some ⟨b,off,none⟩) n c)).run Tryz.prog w'= .ok cs.toArray w':=fun w' W=>
  run_firstCells_some w' 7 n _ n c cs a1 (fun j v Z=>by
   rw[eu];have h2:F.cell? ⟨b,off+j,none⟩=some v:=by rw[I];exact Lib.cell?_alloc_some _ (a6 j v Z)
   simpa only[World.cell?,W]using h2)
 obtain⟨E,Q,y⟩:=fv (P:=Tryz.prog) (w:=F) (t:=27) (u:=27) (ty:=27) (Y:= .slice (some ⟨b,off,none⟩) n c) (bs:=some ⟨w.heap.size,0,none⟩) (len:=0) (m:=n) (cap:=0) (os:=[]) (ns:=cs) (by_:=96) (z:=gz) (i:=i0) Tryz.underlying27 Tryz.underlying27 (.inl ⟨_,rfl⟩) If a8 a2 (by decide) z8 (fun _ _=>rfl) J L (by omega) (by omega);rw[bT]at Q y;rw[a7]at y;have e0:([]:LAc).toArray++cs.toArray=cs.toArray:=by simp
 rw[e0]at y;have C:∀ty,(Builtin.append_ #[27,27] ty #[.slice (some ⟨w.heap.size,0,none⟩) 0 0,.slice (some ⟨b,off,none⟩) n c]).run Tryz.prog F= .ok (.slice (some ⟨w.heap.size+1,0,none⟩) n E) (F.drew.alloc (.cells (cs.toArray++Builtin.zeroCells gz.cells (E-n)) 67 (0,0))):=fun ty=>y
 refine Calls.mono (R:=fun e w'=>e= .returned (.slice (some ⟨w.heap.size+1,0,none⟩) n E)/\w'=F.drew.alloc (.cells (cs.toArray++Builtin.zeroCells gz.cells (E-n)) 67 (0,0))) ?_ (fun e w' h=>⟨E,Q,h.1,by rw[<-I];exact h.2⟩);obtain⟨T,O⟩:∃T:LAd,T=cs.toArray++Builtin.zeroCells gz.cells (E-n):=⟨_,rfl⟩;rw[<-O]at C ⊢;clear O y J L;subst I
 go_enter Tryz.func87,Tryz.ntmps87
 go_wp2_with (at_builtin;refine Lib.wpList_append_run _ rfl _ _ _ _ rfl _ _ rfl rfl _ _ (C _) ?_)
 go_ret
 exact⟨rfl,rfl⟩
theorem Ge:xkf Tryz.prog 87 67 7 where
 cb:=by kernel_rfl
 nil:=Yc
 zero:=Jp
 some:=fun b off n c cs w I C h F=>by
  refine(Jq b off n c cs w I C h F).mono ?_;rintro e w' ⟨J,E,rfl,rfl⟩;have y:gz.cells.size=7:=rfl;refine⟨J,_,E, ?_,rfl,rfl,fun k L=> ?_⟩
  ·simp only[cQ,ce,y,bZ,h]
   omega
  ·rw[aS,co (by simp only[bZ,h];omega),de,<-aa]
def p87:t8->List aH->Nat->Option dV
 |[.lst 7 [] t],[],0=>some ⟨.lst 7 [] .clip,[],[]⟩
 |[.lst 7 (r::rows) t],[],0=>if rows.length<=999999 then some ⟨.psl 100 7 0 (rows.length+1) none,[(100,.arr 7 (r::rows))],[]⟩else none
 |_,_,_=>none
theorem p87_ok:∀y os k q,p87 y os k=some q->gg Tryz.prog 87 y os k (· =q):=by
 intro y os k q h;unfold p87 at h;split at h
 ·cases h
  exact uJ Ge
 ·rename_i r rows t
  rw[aK]at h;obtain⟨C,h⟩:=h;cases h;have:=uI (P:=Tryz.prog) (by decide) Ge (rows:=r::rows) (t:=t) (by simp) (by simp only[al];omega);simpa only[al]using this
 ·cases h
theorem xn3:∀(w:World)(a:Option Addr)(n c h y:Nat),(binOp .eql 28 (.slice a n c) (.slice none h y)).run Tryz.prog w= .ok (.bool a.isNone) w:=fun w a n c h y=>Lib.run_eql_slice_nil w _ _ a n c h y Tryz.underlying28
set_option maxHeartbeats 8000000 in
set_option maxRecDepth 100000 in
theorem Ya(w:World):Calls Tryz.prog 91 #[.slice none 0 0] w fun e w'=>e= .returned (.slice none 0 0)/\w'=w:=by
 have mixed:=mixed;have t0:=Tryz.underlying0;have a0:=a_0;have z0:=z_0;have v0:=v_0;have O:=run_underlying Tryz.underlying0;have t3:=Tryz.underlying3;have a3:=a_3;have z3:=z_3;have v3:=v_3;have L:=run_underlying Tryz.underlying3;have t4:=Tryz.underlying4;have a4:=a_4;have z4:=z_4;have v4:=v_4;have Q:=run_underlying Tryz.underlying4;have h:=Tryz.underlying70;have E:=I2;have F:=DH;have J:=z7;have I:=run_underlying Tryz.underlying70;have t28:=Tryz.underlying28;have a28:=I4;have z28:=IR;have v28:=IU;have y:=run_underlying Tryz.underlying28;have C:=xn3
 go_enter Tryz.func91,Tryz.ntmps91
 go_wp2
 go_ret
 exact⟨rfl,rfl⟩
set_option maxHeartbeats 8000000 in
set_option maxRecDepth 100000 in
theorem Jl(a:Addr)(c:Nat)(w:World):Calls Tryz.prog 91 #[.slice (some a) 0 c] w fun e w'=>(∃I,e= .returned (.slice (some I) 0 0))/\Below w.heap.size w w':=by
 have mixed:=mixed;have t0:=Tryz.underlying0;have a0:=a_0;have z0:=z_0;have v0:=v_0;have u0:=run_underlying Tryz.underlying0;have t3:=Tryz.underlying3;have a3:=a_3;have z3:=z_3;have v3:=v_3;have u3:=run_underlying Tryz.underlying3;have t4:=Tryz.underlying4;have a4:=a_4;have z4:=z_4;have v4:=v_4;have u4:=run_underlying Tryz.underlying4;have y:=Tryz.underlying70;have a1:=I2;have T:=DH;have J:=z7;have Z:=run_underlying Tryz.underlying70;have t28:=Tryz.underlying28;have a28:=I4;have z28:=IR;have v28:=IU;have C:=run_underlying Tryz.underlying28;have F:=xn3;obtain⟨i0,a2,O,L,Q⟩:=info_parts ZY
 have h:∀(W:World)(b:Option Addr) ty,(Builtin.append_ #[28,28] ty #[.slice b 0 0,.slice (some a) 0 c]).run Tryz.prog W= .ok (.slice b 0 0) W:=fun W b ty=>fc (P:=Tryz.prog) (t:=28) (u:=28) (ty:=ty) (w:=W) (w1:=W) (bs:=b) (len:=0) (m:=0) (cap:=0) (ns:=[]) Tryz.underlying28 Tryz.underlying28 (.inl ⟨_,rfl⟩) Ie rfl (run_firstCells_some W 2 0 a 0 c [] (by simp) (fun j v E=>by simp at E)) (by omega) (by cases b<;>simp[storeCells])
 go_enter Tryz.func91,Tryz.ntmps91
 go_wp2_with (at_builtin;refine Lib.wpList_append_run _ rfl _ _ _ _ rfl _ _ rfl rfl _ _ (h _ _ _) ?_)
 go_ret
 exact⟨⟨_,rfl⟩,(Below.refl _ w).alloc (aJ _) _⟩
set_option maxHeartbeats 8000000 in
set_option maxRecDepth 100000 in
theorem Jm(b off n c:Nat)(cs:LAc)(w:World)(h1:1<=n)(b0:n<=1000000)(a1:cs.length=n*2)(a6:∀j v,cs[j]? =some v->w.cell? ⟨b,off+j,none⟩=some v):
 Calls Tryz.prog 91 #[.slice (some ⟨b,off,none⟩) n c] w fun e w'=>∃E,n<=E/\e= .returned (.slice (some ⟨w.heap.size+1,0,none⟩) n E)/\
  w'=((w.alloc (.cells #[] 70 (0,0))).drew).alloc (.cells (cs.toArray++Builtin.zeroCells gx.cells (E-n)) 70 (0,0)):=by
 have mixed:=mixed;have t0:=Tryz.underlying0;have a0:=a_0;have z0:=z_0;have v0:=v_0;have u0:=run_underlying Tryz.underlying0;have t3:=Tryz.underlying3;have a3:=a_3;have z3:=z_3;have v3:=v_3;have u3:=run_underlying Tryz.underlying3;have t4:=Tryz.underlying4;have a4:=a_4;have z4:=z_4;have v4:=v_4;have u4:=run_underlying Tryz.underlying4;have b1:=Tryz.underlying70;have c7:=I2;have c3:=DH;have b5:=z7;have c5:=run_underlying Tryz.underlying70;have t28:=Tryz.underlying28;have a28:=I4;have z28:=IR;have v28:=IU;have b3:=run_underlying Tryz.underlying28;have b4:=xn3;obtain⟨i0,a8,b7,b6,a2⟩:=info_parts ZY;obtain⟨F,I⟩:∃F,F=w.alloc (.cells #[] 70 (0,0)):=⟨_,rfl⟩;have a7:F.heap.size=w.heap.size+1:=by rw[I,World.size_alloc]
 have L:∀w':World,w'.heap=F.heap->(Builtin.firstCells 2 0 (.slice (some ⟨w.heap.size,0,none⟩) 0 0)).run Tryz.prog w'= .ok ([]:LAc).toArray w':=fun w' W=>run_firstCells_some w' 2 0 _ 0 0 [] (by simp) (fun j v Z=>by simp at Z)
 have J:∀w':World,w'.heap=F.heap->(Builtin.firstCells 2 n (.slice (some ⟨b,off,none⟩) n c)).run Tryz.prog w'= .ok cs.toArray w':=fun w' W=>
  run_firstCells_some w' 2 n _ n c cs a1 (fun j v Z=>by
   rw[eu];have h2:F.cell? ⟨b,off+j,none⟩=some v:=by rw[I];exact Lib.cell?_alloc_some _ (a6 j v Z)
   simpa only[World.cell?,W]using h2)
 obtain⟨E,Q,y⟩:=fv (P:=Tryz.prog) (w:=F) (t:=28) (u:=28) (ty:=28) (Y:= .slice (some ⟨b,off,none⟩) n c) (bs:=some ⟨w.heap.size,0,none⟩) (len:=0) (m:=n) (cap:=0) (os:=[]) (ns:=cs) (by_:=32) (z:=gx) (i:=i0) Tryz.underlying28 Tryz.underlying28 (.inl ⟨_,rfl⟩) Ie a8 a2 (by decide) z7 (fun _ _=>rfl) J L (by omega) (by omega);rw[bT]at Q y;rw[a7]at y;have e0:([]:LAc).toArray++cs.toArray=cs.toArray:=by simp
 rw[e0]at y;have C:∀ty,(Builtin.append_ #[28,28] ty #[.slice (some ⟨w.heap.size,0,none⟩) 0 0,.slice (some ⟨b,off,none⟩) n c]).run Tryz.prog F= .ok (.slice (some ⟨w.heap.size+1,0,none⟩) n E) (F.drew.alloc (.cells (cs.toArray++Builtin.zeroCells gx.cells (E-n)) 70 (0,0))):=fun ty=>y
 refine Calls.mono (R:=fun e w'=>e= .returned (.slice (some ⟨w.heap.size+1,0,none⟩) n E)/\w'=F.drew.alloc (.cells (cs.toArray++Builtin.zeroCells gx.cells (E-n)) 70 (0,0))) ?_ (fun e w' h=>⟨E,Q,h.1,by rw[<-I];exact h.2⟩);obtain⟨T,O⟩:∃T:LAd,T=cs.toArray++Builtin.zeroCells gx.cells (E-n):=⟨_,rfl⟩;rw[<-O]at C ⊢;clear O y J L;subst I
 go_enter Tryz.func91,Tryz.ntmps91
 go_wp2_with (at_builtin;refine Lib.wpList_append_run _ rfl _ _ _ _ rfl _ _ rfl rfl _ _ (C _) ?_)
 go_ret
 exact⟨rfl,rfl⟩
theorem Gd:xkf Tryz.prog 91 70 2 where
 cb:=by kernel_rfl
 nil:=Ya
 zero:=Jl
 some:=fun b off n c cs w I C h F=>by
  refine(Jm b off n c cs w I C h F).mono ?_;rintro e w' ⟨J,E,rfl,rfl⟩;have y:gx.cells.size=2:=rfl;refine⟨J,_,E, ?_,rfl,rfl,fun k L=> ?_⟩
  ·simp only[cQ,ce,y,bZ,h]
   omega
  ·rw[aS,co (by simp only[bZ,h];omega),de,<-aa]
def p91:t8->List aH->Nat->Option dV
 |[.lst 2 [] t],[],0=>some ⟨.lst 2 [] .clip,[],[]⟩
 |[.lst 2 (r::rows) t],[],0=>if rows.length<=999999 then some ⟨.psl 100 2 0 (rows.length+1) none,[(100,.arr 2 (r::rows))],[]⟩else none
 |_,_,_=>none
theorem p91_ok:∀y os k q,p91 y os k=some q->gg Tryz.prog 91 y os k (· =q):=by
 intro y os k q h;unfold p91 at h;split at h
 ·cases h
  exact uJ Gd
 ·rename_i r rows t
  rw[aK]at h;obtain⟨C,h⟩:=h;cases h;have:=uI (P:=Tryz.prog) (by decide) Gd (rows:=r::rows) (t:=t) (by simp) (by simp only[al];omega);simpa only[al]using this
 ·cases h
end
end Pr
end Go.Proofs.YtbfnljmmepcbfaaGreatDoor
