/- Walks of library functions. No condition. -/
import Derived.Test.YtdafipacemgcoaaGreatDoorEcMD
import Derived.Test.YtdafipacemgcoaaGreatDoorProg
import Derived.WalkKit
import Derived.Laws.RangeString
import Derived.Laws.RangeAny
import Derived.LoopTactic
import Derived.KernelRfl
import Derived.Shelf.Spec.SlicesInsertGrow
open Array renaming getD_eq_getD_getElem? -> aW, getElem?_append_left -> fV, getElem?_eq_getElem -> cy, getElem?_eq_some_iff -> dk, size_append -> m9
open Int renaming toNat_natCast -> gP
open Go.IntKind renaming i64 -> aj
open List renaming all_eq_true -> aT, getD_eq_getElem?_getD -> aa, getElem?_drop -> bf, getElem?_eq_getElem -> af, getElem?_take -> bv, getElem?_toArray -> gg, getElem_mem -> bo, getElem_of_mem -> bl, length_append -> ah, length_drop -> aE, length_eq_zero_iff -> bP, length_singleton -> aL, length_take -> aD, mem_of_mem_drop -> dQ, mem_singleton -> aN, size_toArray -> gq
open Nat renaming add_assoc -> cH, le_refl -> aI, lt_or_ge -> bH, zero_add -> bC, zero_le -> cu
open Option renaming ite_none_right_eq_some -> aG, map_some -> bm, some -> aw
open UInt8 renaming ofNat -> ej
set_option linter.unusedSectionVars false
set_option linter.unusedSimpArgs false
set_option linter.unusedVariables false
namespace Go.Proofs.YtdafipacemgcoaaGreatDoor
open Go.Sy
open UInt8 renaming reduceLT -> ur1, reduceLE -> ur2
open Int renaming reduceToNat -> ir1, reduceLE -> ir2, reduceLT -> ir3, reduceEq -> ir4, reduceNe -> ir5, reduceNeg -> ir6, reduceAdd -> ir7, reduceSub -> ir8, reduceMul -> ir9
open Nat renaming reducePow -> nr1, reduceDiv -> nr2, reduceMod -> nr3, reduceAdd -> nr4, reduceSub -> nr5, reduceMul -> nr6, reduceLT -> nr7, reduceLeDiff -> nr8, reduceEqDiff -> nr9, reduceBEq -> nr10
open Go.RowKit Go.ChangeShapes Go.WideShapes
namespace Pr
variable [bc]
def okc(c:UInt8):Bool:=if c<97\/122<c then(if c<48\/57<c then decide (c=45)else true)else true
def nameB(s:t6):Bool:=if s.length<1\/12<s.length then false else s.all okc
set_option maxRecDepth 100000 in
theorem w61(w:World)(a b:t6)(u v:Value)(h:iO w a u)(z:iO w b v):
 Calls Tryz.prog 61 #[u,v] w fun e w'=>e= .returned (.int .i64 (Lib.compareBytes a b))/\w'=w:=by
 go_enter Tryz.func61,Tryz.ntmps61
 go_wp2
 rw[run_callFunc_extern Tryz.func103 (by kernel_rfl) (by kernel_rfl) (by kernel_rfl) (e:=Extern.BytealgCompare.compare) (by kernel_rfl),pH h z];simp only[Result.andThen];rw[Oper.upon_value]
 go_wp2
 go_ret
 exact⟨rfl,rfl⟩
set_option maxRecDepth 100000 in
theorem xiU(w:World)(a:t6)(c:UInt8)(u:Value)(h:iO w a u):
 Calls Tryz.prog 139 #[u,.int .u8 c.toNat] w fun e w'=>e= .returned (.int .i64 (sd a c))/\w'=w:=by
 go_enter Tryz.func139,Tryz.ntmps139
 go_wp2
 rw[run_callFunc_extern Tryz.func171 (by kernel_rfl) (by kernel_rfl) (by kernel_rfl) (e:=Extern.BytealgIndexByte.indexByte) (by kernel_rfl),tO h];simp only[Result.andThen];rw[Oper.upon_value]
 go_wp2
 go_ret
 exact⟨rfl,rfl⟩
set_option maxRecDepth 100000 in
theorem xiT(w:World)(a b:ByteArray):
 Calls Tryz.prog 154 #[.string a,.string b] w fun e w'=>e= .returned (.int .i64 (Lib.compareBytes a.data.toList b.data.toList))/\w'=w:=by
 go_enter Tryz.func154,Tryz.ntmps154
 go_wp2
 rw[run_callFunc_extern Tryz.func177 (by kernel_rfl) (by kernel_rfl) (by kernel_rfl) (e:=Extern.BytealgCompare.compare) (by kernel_rfl),Lib.run_compareString];simp only[Result.andThen];rw[Oper.upon_value]
 go_wp2
 go_ret
 exact⟨rfl,rfl⟩
def okn(c:Nat):Prop:=(97<=c/\c<=122)\/(48<=c/\c<=57)\/c=45
set_option maxRecDepth 100000 in
theorem rZ(b:UInt8):okc b=true↔okn b.toNat:=by
 have h:∀n,n<256->(okc (ej n)=true↔okn n):=by unfold okn;decide
 have:=h b.toNat b.toNat_lt;rwa[UInt8.ofNat_toNat]at this
theorem Gm(s:ByteArray)(h:Nat)(z:h<s.size):s.data.toList.getD h 0=s[h]'z:=by rw[aa,af (by simpa using z)];rfl
theorem xdg(s:ByteArray)(z c wd:Nat)(B:z<s.size)(h:Utf8.decode s z=(c,wd)):(okn c->wd=1/\okc (s.data.toList.getD z 0)=true)/\(¬okn c->okc (s.data.toList.getD z 0)=false):=by
 rw[Gm s z B]
 by_cases F:(s[z]'B).toNat<128
 ·rw[decode_ascii s z B F]at h
  cases h;refine⟨fun C=>⟨rfl,(rZ _).2 C⟩,fun C=> ?_⟩;cases E:okc (s[z]'B)with
  |false=>rfl
  |true=>exact absurd ((rZ _).1 E) C
 ·have E:=(decode_high s z B (by omega)).1
  rw[h]at E;simp only at E;refine⟨fun C=>by unfold okn at C;omega,fun _=> ?_⟩;cases h3:okc (s[z]'B)with
  |false=>rfl
  |true=>have:=(rZ _).1 h3;unfold okn at this;omega
theorem oL(w:World)(s:ByteArray)(h:Nat):Below w.heap.size w (w.iter s h):=(Below.refl _ w).alloc (aI _) _
theorem km(s:ByteArray):s.data.toList.length=s.size:=by simp
set_option maxRecDepth 100000 in
theorem xiV(w:World)(s:ByteArray):
 Calls Tryz.prog 111 #[.string s] w fun e w'=>e= .returned (.bool (nameB s.data.toList))/\Below w.heap.size w w':=by
 go_enter Tryz.func111,Tryz.ntmps111
 go_wp2
 ·go_ret
  refine⟨?_,Below.refl _ _⟩;have:s.data.toList.length<1\/12<s.data.toList.length:=by rw[km];omega
  unfold nameB;rw[if_pos this];rfl
 ·go_loopw [] (
   fun w'=>∃h:Nat,w'=w.iter s h/\h<=s.size/\∀i,i<h->okc (s.data.toList.getD i 0)=true) (fun w'=>s.size-w'.iterPos w.heap.size)
  case atStart=>exact⟨0,rfl,cu _,fun i hi=>absurd hi (Nat.not_lt_zero i)⟩
  case round=>
   obtain⟨h,rfl,U,B⟩:=hrel;have z:¬(s.data.toList.length<1\/12<s.data.toList.length):=by rw[km];omega
   by_cases H:h<s.size
   ·have C:∀ty,(Instr.next (.pointer (some ⟨w.heap.size,0,none⟩)) true ty).run Tryz.prog (w.iter s h)=_:=fun ty=>run_next_any w s h ty H
    obtain⟨E,F⟩:=xdg s h (Utf8.decode s h).1 (Utf8.decode s h).2 H rfl;generalize Utf8.decode s h=W at C E F;obtain⟨c,wd⟩:=W;simp only at C E F;have J:Hid (okn c->wd=1/\okc (s.data.toList.getD h 0)=true):=E;have I:Hid (¬okn c->okc (s.data.toList.getD h 0)=false):=F;have O:Hid (¬(s.data.toList.length<1\/12<s.data.toList.length)):=z;have S:Hid (∀i,i<h->okc (s.data.toList.getD i 0)=true):=B;clear E F z B
    go_wp2
    all_goals (try simp only[bne_iff_ne,bne_eq_false_iff_eq,ne_eq]at*)
    all_goals first
     |(
      have L:okn c:=by unfold okn;omega
      obtain⟨rfl,Q⟩:=J.out L
      go_roundw
      case rel=>
       refine⟨h+1,rfl,by omega,fun i hi=> ?_⟩;rcases bH i h with T|T
       ·exact S.out i T
       ·have:i=h:=by omega
        rw[this];exact Q
      case measure=>simp;omega)
     |(
      have L:¬okn c:=by unfold okn;omega
      have Q:=I.out L
      go_ret
      refine⟨?_,oL _ _ _⟩
      have:nameB s.data.toList=false:=by unfold nameB;rw[if_neg O.out,List.all_eq_false];refine⟨s.data.toList.getD h 0, ?_,by rw[Q];simp⟩;rw[aa,af (by simpa using H)];exact bo _
      rw[this];rfl)
   ·have C:∀ty,(Instr.next (.pointer (some ⟨w.heap.size,0,none⟩)) true ty).run Tryz.prog (w.iter s h)=_:=fun ty=>run_next_end w s h ty H
    have O:Hid (¬(s.data.toList.length<1\/12<s.data.toList.length)):=z;have S:Hid (∀i,i<h->okc (s.data.toList.getD i 0)=true):=B;clear z B
    go_wp2
    go_ret
    refine⟨?_,oL _ _ _⟩
    have:nameB s.data.toList=true:=by unfold nameB;rw[if_neg O.out,aT];intro b Z;obtain⟨i,hi,rfl⟩:=bl Z;have:=S.out i (by have:=km s;omega);rwa[aa,af hi]at this
    rw[this];rfl
 ·go_ret
  refine⟨?_,Below.refl _ _⟩;have:s.data.toList.length<1\/12<s.data.toList.length:=by rw[km];omega
  unfold nameB;rw[if_pos this];rfl
def p61:t7->List aC->Nat->Option dY
 |[.byt a _,.byt b _],[],0=>some ⟨.int .i64 (Lib.compareBytes a b),[],[]⟩
 |_,_,_=>none
def p154:t7->List aC->Nat->Option dY
 |[.str a,.str b],[],0=>some ⟨.int .i64 (Lib.compareBytes a b),[],[]⟩
 |_,_,_=>none
def p111:t7->List aC->Nat->Option dY
 |[.str a],[],0=>some ⟨.bool (nameB a),[],[]⟩
 |_,_,_=>none
def p139:t7->List aC->Nat->Option dY
 |[.byt a _,.u8 c],[],0=>some ⟨.int .i64 (sd a c),[],[]⟩
 |_,_,_=>none
theorem M7{x:Sit}{a b:SV}{vs:LAb}(h:cr x [a,b] vs):∃u v,vs=[u,v]/\Rep x a u/\Rep x b v:=by
 match vs,h with
 |[u,v],h=>exact⟨u,v,rfl,h.2 0 (by simp),h.2 1 (by simp)⟩
 |[],h=>simp[cr]at h
 |[_],h=>simp[cr]at h
 |_::_::_::_,h=>simp[cr]at h
theorem xd3{x:Sit}{a:SV}{vs:LAb}(h:cr x [a] vs):∃u,vs=[u]/\Rep x a u:=by
 match vs,h with
 |[u],h=>exact⟨u,rfl,h.2 0 (by simp)⟩
 |[],h=>simp[cr]at h
 |_::_::_,h=>simp[cr]at h
theorem p61_ok:∀z os k q,p61 z os k=some q->jI Tryz.prog 61 z os k (· =q):=by
 intro z os k q h;unfold p61 at h;split at h
 ·cases h
  refine jk (by kernel_rfl) fun x w vs E B=> ?_
  obtain⟨u,v,rfl,C,F⟩:=M7 E;refine(w61 w _ _ u v (lh C B) (lh F B)).mono ?_;rintro e w' ⟨rfl,rfl⟩;exact⟨_,rfl,.dat _ _ (.int _ _) trivial,Below.refl _ _⟩
 ·cases h
theorem p139_ok:∀z os k q,p139 z os k=some q->jI Tryz.prog 139 z os k (· =q):=by
 intro z os k q h;unfold p139 at h;split at h
 ·cases h
  refine jk (by kernel_rfl) fun x w vs E B=> ?_
  obtain⟨u,v,rfl,C,F⟩:=M7 E;obtain rfl:=xdY F;refine(xiU w _ _ u (lh C B)).mono ?_;rintro e w' ⟨rfl,rfl⟩;exact⟨_,rfl,.dat _ _ (.int _ _) trivial,Below.refl _ _⟩
 ·cases h
theorem p154_ok:∀z os k q,p154 z os k=some q->jI Tryz.prog 154 z os k (· =q):=by
 intro z os k q h;unfold p154 at h;split at h
 ·cases h
  refine jk (by kernel_rfl) fun x w vs C F=> ?_
  obtain⟨u,v,rfl,B,E⟩:=M7 C;obtain rfl:=wY B;obtain rfl:=wY E;refine(xiT w _ _).mono ?_;rintro e w' ⟨rfl,rfl⟩;exact⟨_,rfl,.dat _ _ (.int _ _) trivial,Below.refl _ _⟩
 ·cases h
theorem p111_ok:∀z os k q,p111 z os k=some q->jI Tryz.prog 111 z os k (· =q):=by
 intro z os k q h;unfold p111 at h;split at h
 ·cases h
  refine jk (by kernel_rfl) fun x w vs C F=> ?_
  obtain⟨u,rfl,B⟩:=xd3 C;obtain rfl:=wY B;refine(xiV w _).mono ?_;rintro e w' ⟨rfl,E⟩;exact⟨_,rfl,.dat _ _ (.bool _) trivial,E⟩
 ·cases h
end Pr
end Go.Proofs.YtdafipacemgcoaaGreatDoor
namespace Go.Proofs.YtdafipacemgcoaaGreatDoor
open Go.Sy
open UInt8 renaming reduceLT -> ur1, reduceLE -> ur2
open Int renaming reduceToNat -> ir1, reduceLE -> ir2, reduceLT -> ir3, reduceEq -> ir4, reduceNe -> ir5, reduceNeg -> ir6, reduceAdd -> ir7, reduceSub -> ir8, reduceMul -> ir9
open Nat renaming reducePow -> nr1, reduceDiv -> nr2, reduceMod -> nr3, reduceAdd -> nr4, reduceSub -> nr5, reduceMul -> nr6, reduceLT -> nr7, reduceLeDiff -> nr8, reduceEqDiff -> nr9, reduceBEq -> nr10
open Go.RowKit Go.ChangeShapes Go.WideShapes Go.Shelf Go.Lib
namespace Pr
section
variable [bc]
theorem m4{β:Type}(a:Option Addr)(C z:Nat)(b:Option Addr)(h cb:Nat)(B:Option Addr->Nat->Nat->Option Addr->Nat->Nat->β)(E:LAc->β):
 Extern.SlicesOverlaps.overlaps.match_4 (fun _=>β) #[.slice a C z,.slice b h cb] B E=B a C z b h cb:=rfl
theorem rB{P:Program}(w:World)(B Z e:TypeId)(T:P.underlying B=some (.slice e))(size:Nat)(hz:∀w,(Go.sizeOf e).run P w= .ok size w)
 (a b:Addr) (O ca J cb:Nat) (z:a.block≠b.block) (U W:TypeId) (S Q:Nat) (H:w.shape? a.block=some (U,S+1)) (F:w.shape? b.block=some (W,Q))
 (I:w.frozen? b=false) (E:w.frozen? {block:=b.block,off:=Q}=false):
 (Extern.SlicesOverlaps.overlaps #[B,B] #[Z] #[.slice (some a) O ca,.slice (some b) J cb]).run P w= .ok (.bool false) w:=by
 have C:(a.block !=b.block)=true:=by simpa using z
 have h:(a.block==b.block)=false:=by simpa using z
 unfold Extern.SlicesOverlaps.overlaps;rw[m4]
 by_cases L:O=0\/J=0\/size=0
 ·simp[run_underlying T,hz,L]
 ·cases hfa:w.frozen? a<;>cases hfk:w.frozen? {block:=a.block,off:=S+1}<;>
   simp[run_underlying T,hz,L,C,h,frozen,noView,viewAt,mayBeOne,stringish,shape,Sem.run,H,F,hfa,hfk,I,E]
theorem l6{P:Program}{t:TypeId}{z:Value}(h:(P.info? t).map (fun i=>i.zero)=some (some z))(w:World):(zeroValue t).run P w= .ok z w:=by
 cases hi:P.info? t with
 |none=>simp[hi]at h
 |some i=>simp only[hi,bm,aw.injEq]at h;simp[zeroValue,run_typeInfo w hi,h]
theorem Rf:∀w,(Go.sizeOf 36).run Tryz.prog w= .ok 1 w:=fun w=>cf (by kernel_rfl) w
theorem YH:∀w,(isAgg 36).run Tryz.prog w= .ok false w:=fun w=>fi (by kernel_rfl) w
theorem Rj:∀w,(zeroValue 36).run Tryz.prog w= .ok (.slice none 0 0) w:=fun w=>l6 (by kernel_rfl) w
theorem N0:∀w,(Go.sizeOf 22).run Tryz.prog w= .ok 1 w:=fun w=>cf (by kernel_rfl) w
theorem YI:∀w,(isAgg 22).run Tryz.prog w= .ok false w:=fun w=>fi (by kernel_rfl) w
theorem Rk:∀w,(zeroValue 22).run Tryz.prog w= .ok (.slice none 0 0) w:=fun w=>l6 (by kernel_rfl) w
theorem z_3:∀w,(Go.sizeOf 3).run Tryz.prog w= .ok 1 w:=fun w=>cf (by kernel_rfl) w
theorem a_3:∀w,(isAgg 3).run Tryz.prog w= .ok false w:=fun w=>fi (by kernel_rfl) w
theorem v_3:∀w,(zeroValue 3).run Tryz.prog w= .ok (.int .i64 0) w:=fun w=>l6 (by kernel_rfl) w
theorem z_4:∀w,(Go.sizeOf 4).run Tryz.prog w= .ok 1 w:=fun w=>cf (by kernel_rfl) w
theorem a_4:∀w,(isAgg 4).run Tryz.prog w= .ok false w:=fun w=>fi (by kernel_rfl) w
theorem v_4:∀w,(zeroValue 4).run Tryz.prog w= .ok (.bool false) w:=fun w=>l6 (by kernel_rfl) w
theorem z_0:∀w,(Go.sizeOf 0).run Tryz.prog w= .ok 1 w:=fun w=>cf (by kernel_rfl) w
theorem a_0:∀w,(isAgg 0).run Tryz.prog w= .ok false w:=fun w=>fi (by kernel_rfl) w
theorem v_0:∀w,(zeroValue 0).run Tryz.prog w= .ok (.tuple #[]) w:=fun w=>l6 (by kernel_rfl) w
theorem Yl:(Tryz.prog.info? 22).map (fun i=>(i.zero,i.size,i.bytes))=some (some (Value.slice none 0 0),1,24):=by kernel_rfl
theorem mixed:Tryz.prog.follows .mixedOrders=true:=by kernel_rfl
set_option maxHeartbeats 8000000 in
set_option maxRecDepth 100000 in
theorem Cw(b off n c i C z m vc:Nat)(cs vs:LAb)(w:World)(hi:i<n)(hm:0<m)(b4:n+m<=c)(c3:n+m<=9223372036854775807)(S:C≠b)
 (b7:cs.length=n) (b6:vs.length=m)
 (a2:∀j v,cs[j]? =some v->w.cell? ⟨b,off+j,none⟩=some v) (H:∀j,j<n+m->(w.cell? ⟨b,off+j,none⟩).isSome=true) (I:∀j,j<n+m->w.frozen? ⟨b,off+j,none⟩=false)
 (a6:∀j v,vs[j]? =some v->w.cell? ⟨C,z+j,none⟩=some v) (b5:∀v∈cs,v.oneCell'=true) (b3:∀v∈vs,v.oneCell'=true)
 (tA tB:TypeId) (kA kB:Nat) (a7:w.shape? C=some (tA,kA+1)) (a1:w.shape? b=some (tB,kB)) (b8:w.frozen? ⟨b,kB,none⟩=false):
 Calls Tryz.prog 62 #[.slice (some ⟨b,off,none⟩) n c,.int .i64 i,.slice (some ⟨C,z,none⟩) m vc] w fun e w'=>e= .returned (.slice (some ⟨b,off,none⟩) (n+m) c)/\w'=(w.drew.setCells b (off+(i+m)) (cs.drop i)).setCells b (off+i) vs:=by
 have t0:=Tryz.underlying0;have a0:=a_0;have z0:=z_0;have v0:=v_0;have t3:=Tryz.underlying3;have a3:=a_3;have z3:=z_3;have v3:=v_3;have t4:=Tryz.underlying4;have a4:=a_4;have z4:=z_4;have v4:=v_4;have t9:=Tryz.underlying22;have a9:=YI;have z9:=N0;have v9:=Rk;have d5:=Tryz.underlying36;have d9:=YH;have d7:=Rf;have d6:=Rj;have u0:=run_underlying Tryz.underlying0;have u3:=run_underlying Tryz.underlying3;have u4:=run_underlying Tryz.underlying4;have u9:=run_underlying Tryz.underlying22;have d8:=run_underlying Tryz.underlying36;have e1:¬((m:Int)=0):=by omega
 have d3:¬((i:Int)=(n:Int)):=by omega
 have T:(Tryz.prog.info? 22).map (·.size)=some 1:=by obtain⟨i0,a5,h0,h1,h2⟩:=info_parts Yl;rw[a5];simp[h1]
 have Z:∀lb cb,(callFunc 104 #[.slice (some ⟨C,z,none⟩) m vc,.slice (some ⟨b,off+(i+m),none⟩) lb cb]).run Tryz.prog w= .ok (.value (.bool false)) w:=fun lb cb=>by
  rw[run_callFunc_extern Tryz.func104 (by kernel_rfl) (by kernel_rfl) (by kernel_rfl) (e:=Extern.SlicesOverlaps.overlaps #[36,36] #[4]) (by kernel_rfl),
   rB w 36 4 22 Tryz.underlying36 1 N0 ⟨C,z,none⟩ ⟨b,off+(i+m),none⟩ m vc lb cb S tA tB kA kB a7 a1 (by have:=I (i+m) (by omega);exact this) b8]
  rfl
 have b2:(cs.drop i).length=n-i:=by rw[aE,b7]
 have mixed:=mixed;have c6:aj.wrap ((i:Int)+(m:Int))=(i:Int)+(m:Int):=by rw[IntKind.wrap_i64];omega
 have d4:(0:Int)<=(i:Int)+(m:Int):=by omega
 have c7:i<=n:=by omega
 have e2:((i:Int)+(m:Int)).toNat=i+m:=by omega
 have e0:¬(c=i+m):=by omega
 have c4:(i:Int)<=(n:Int)+(m:Int):=by omega
 have e3:¬(c=i):=by omega
 have E:∀ty J sc,(Builtin.copy_ #[36,36] ty #[.slice (some ⟨b,off+(i+m),none⟩) (n+m-(i+m)) J,.slice (some ⟨b,off+i,none⟩) (n+m-i) sc]).run Tryz.prog w.drew= .ok (goInt (cs.drop i).length) (w.drew.setCells b (off+(i+m)) (cs.drop i)):=fun ty J sc=>
  run_copy_cells w.drew _ _ ty 22 b (off+(i+m)) (n+m-(i+m)) J ⟨b,off+i,none⟩ (n+m-i) sc (cs.drop i) Tryz.underlying36 T (by rw[b2];simp only[Nat.min_def];split<;>omega)
   (fun j v F=>by rw[Addr.add_lit,cH];exact a2 (i+j) v (by rwa[bf]at F))
   (fun j F=>by rw[cH];exact H _ (by omega)) (fun j F=>by rw[cH];exact I _ (by omega)) (fun v hv=>b5 v (dQ hv))
 obtain⟨Q,B⟩:∃Q,Q=w.drew.setCells b (off+(i+m)) (cs.drop i):=⟨_,rfl⟩
 have L:∀k,k<n+m->(Q.cell? ⟨b,off+k,none⟩).isSome=true:=fun k hk=>by rw[B];exact isSome_setCells b _ _ _ (fun j F=>by rw[cH];exact H _ (by omega)) _ (H k hk)
 have O:∀(W:World),(∀x,W.cell? x=Q.cell? x)->(∀x,W.frozen? x=Q.frozen? x)->∀ty J,(Builtin.copy_ #[36,36] ty #[.slice (some ⟨b,off+i,none⟩) (n+m-i) J,.slice (some ⟨C,z,none⟩) m vc]).run Tryz.prog W= .ok (goInt vs.length) (W.setCells b (off+i) vs):=fun W U a8 ty J=>
  run_copy_cells W _ _ ty 22 b (off+i) (n+m-i) J ⟨C,z,none⟩ m vc vs Tryz.underlying36 T (by rw[b6];simp only[Nat.min_def];split<;>omega)
   (fun j v F=>by rw[Addr.add_lit,U,B,World.cell?_setCells_out b _ _ _ _ (fun h _=>absurd h S)];exact a6 j v F)
   (fun j F=>by rw[U,cH];exact L _ (by omega)) (fun j F=>by rw[a8,B,World.frozen?_setCells,cH];exact I _ (by omega)) b3
 rw[<-B]at E
 go_enter Tryz.func62,Tryz.ntmps62
 go_wp2_with (simp only[Z])
 go_region_law_o (refine step_copy_runI rfl _ _ 36 36 rfl _ _ (by simp[Act.eval,Act.put]) (by simp[Act.eval,Act.put]) (E _ _ _) ?_)
 go_wp2_with (at_builtin;refine wpList_copy_runI _ rfl _ _ 36 36 rfl _ _ rfl rfl (O _ (fun _=>rfl) (fun _=>rfl) _ _) ?_)
 go_ret
 first|exact⟨rfl,rfl⟩|exact⟨rfl,by rw[B]⟩
set_option maxHeartbeats 8000000 in
set_option maxRecDepth 100000 in
theorem rq(b off n c E h m vc:Nat)(vs:LAb)(w:World)(hm:0<m)(z:n+m<=c)(L:n+m<=9223372036854775807)
 (B:vs.length=m) (F:∀j,j<m->(w.cell? ⟨b,off+n+j,none⟩).isSome=true) (J:∀j,j<m->w.frozen? ⟨b,off+n+j,none⟩=false)
 (I:∀j v,vs[j]? =some v->w.cell? ⟨E,h+j,none⟩=some v) (H:∀v∈vs,v.oneCell'=true):
 Calls Tryz.prog 62 #[.slice (some ⟨b,off,none⟩) n c,.int .i64 n,.slice (some ⟨E,h,none⟩) m vc] w fun e w'=>e= .returned (.slice (some ⟨b,off,none⟩) (n+m) c)/\w'=w.setCells b (off+n) vs:=by
 have t0:=Tryz.underlying0;have a0:=a_0;have z0:=z_0;have v0:=v_0;have t3:=Tryz.underlying3;have a3:=a_3;have z3:=z_3;have v3:=v_3;have t4:=Tryz.underlying4;have a4:=a_4;have z4:=z_4;have v4:=v_4;have t9:=Tryz.underlying22;have a9:=YI;have z9:=N0;have v9:=Rk;have O:=Tryz.underlying36;have U:=YH;have S:=Rf;have Q:=Rj;have u0:=run_underlying Tryz.underlying0;have u3:=run_underlying Tryz.underlying3;have u4:=run_underlying Tryz.underlying4;have u9:=run_underlying Tryz.underlying22;have T:=run_underlying Tryz.underlying36;have mixed:=mixed;have W:¬((m:Int)=0):=by omega
 have C:Src Tryz.prog 1 36 (.slice (some ⟨E,h,none⟩) m vc) m vs w:=Src.ofSlice w Tryz.underlying36 ⟨E,h,none⟩ m vc vs (by omega) (fun j u Z=>by rw[Addr.add_lit];exact I j u Z) H
 go_enter Tryz.func62,Tryz.ntmps62
 go_wp2_with (at_builtin;refine wpList_append_room1 _ rfl _ _ 36 36 rfl 22 _ _ Tryz.underlying36 Yl b off n c rfl _ rfl m vs C z (by rw[B];exact F) (by rw[B];exact J) ?_)
 go_ret
 exact⟨rfl,rfl⟩
set_option maxHeartbeats 8000000 in
set_option maxRecDepth 100000 in
theorem rt(h:Option Addr)(n c H z m vc:Nat)(cs vs:LAb)(w:World)(hm:0<m)(a6:n<=c)(B:c<n+m)(F:(n+m)*24<=140737488355328)
 (W:cs.length=n) (b4:vs.length=m) (C:h=none->n=0)
 (T:∀a,h=some a->∀j v,cs[j]? =some v->w.cell? (a.add j)=some v)
 (a1:∀j v,vs[j]? =some v->w.cell? ⟨H,z+j,none⟩=some v) (S:∀v∈vs,v.oneCell'=true):
 Calls Tryz.prog 62 #[.slice h n c,.int .i64 n,.slice (some ⟨H,z,none⟩) m vc] w fun e w'=>
  e= .returned (.slice (some ⟨w.heap.size,0,none⟩) (n+m) (grownCap w (n+m) c 22))/\
  w'=w.drew.alloc (.cells ((cs++vs).toArray++Builtin.zeroCells (Value.slice none 0 0).cells (grownCap w (n+m) c 22-(n+m))) 22):=by
 have t0:=Tryz.underlying0;have a0:=a_0;have z0:=z_0;have v0:=v_0;have t3:=Tryz.underlying3;have a3:=a_3;have z3:=z_3;have v3:=v_3;have t4:=Tryz.underlying4;have a4:=a_4;have z4:=z_4;have v4:=v_4;have t9:=Tryz.underlying22;have a9:=YI;have z9:=N0;have v9:=Rk;have a7:=Tryz.underlying36;have b5:=YH;have b2:=Rf;have a8:=Rj;have u0:=run_underlying Tryz.underlying0;have u3:=run_underlying Tryz.underlying3;have u4:=run_underlying Tryz.underlying4;have u9:=run_underlying Tryz.underlying22;have b3:=run_underlying Tryz.underlying36;have mixed:=mixed;obtain⟨O,Z,U,L,a2⟩:=info_parts Yl;have b6:¬((m:Int)=0):=by omega
 have I:Src Tryz.prog O.size 36 (.slice (some ⟨H,z,none⟩) m vc) m vs w:=by rw[L];exact Src.ofSlice w Tryz.underlying36 ⟨H,z,none⟩ m vc vs (by omega) (fun j u hj=>by rw[Addr.add_lit];exact a1 j u hj) S
 have J:(Builtin.firstCells O.size n (.slice h n c)).run Tryz.prog w.drew= .ok cs.toArray w.drew:=by
  rw[L];cases h with
  |none=>have Q:=C rfl;subst Q;rw[bP.1 W];exact run_firstCells_none w.drew 1 0 0 c
  |some a=>exact run_firstCells_some w.drew 1 n a n c cs (by omega) (fun j v hj=>T a rfl j v hj)
 have E:∀ty,(Builtin.append_ #[36,36] ty #[.slice h n c,.slice (some ⟨H,z,none⟩) m vc]).run Tryz.prog w=_:=fun ty=>run_append_grow_src w 36 36 ty 22 O _ Tryz.underlying36 Z U h n c cs J _ m vs I B (by omega) (by rw[a2];exact growslice_fits B F)
 go_enter Tryz.func62,Tryz.ntmps62
 cases h with
 |none=>
  have Q:=C rfl;subst Q
  go_wp2_with (at_builtin;refine Lib.wpList_append_run _ rfl _ _ _ _ rfl _ _ rfl rfl _ _ (E _) ?_)
  go_ret
  exact⟨rfl,rfl⟩
 |some a=>
  obtain⟨ab,ao,a5⟩:=a
  go_wp2_with (at_builtin;refine Lib.wpList_append_run _ rfl _ _ _ _ rfl _ _ rfl rfl _ _ (E _) ?_)
  all_goals (go_ret;exact⟨rfl,rfl⟩)
set_option maxHeartbeats 8000000 in
set_option maxRecDepth 100000 in
theorem EB(b off n c i L B m vc:Nat)(cs vs:LAb)(w:World)(hi:i<n)(hm:0<m)(e4:n<=c)(Z:c<n+m)(a6:(n+m)*24<=140737488355328)
 (d5:cs.length=n) (d3:vs.length=m)
 (S:∀j v,cs[j]? =some v->w.cell? ⟨b,off+j,none⟩=some v)
 (a5:∀j v,vs[j]? =some v->w.cell? ⟨L,B+j,none⟩=some v) (c6:∀v∈cs,v.oneCell'=true) (c4:∀v∈vs,v.oneCell'=true):
 Calls Tryz.prog 62 #[.slice (some ⟨b,off,none⟩) n c,.int .i64 i,.slice (some ⟨L,B,none⟩) m vc] w fun e w'=>
  e= .returned (.slice (some ⟨w.heap.size,0,none⟩) (n+m) (grownCap w (n+m) c 22))/\
  w'=(((w.alloc (.cells ((cs.take i).toArray++Builtin.zeroCells (Value.slice none 0 0).cells (n+m-i)++Builtin.zeroCells (Value.slice none 0 0).cells (grownCap w (n+m) c 22-(n+m))) 22)).drew.setCells w.heap.size i vs).drew).setCells w.heap.size (i+m) (cs.drop i):=by
 have t0:=Tryz.underlying0;have a0:=a_0;have z0:=z_0;have v0:=v_0;have t3:=Tryz.underlying3;have a3:=a_3;have z3:=z_3;have v3:=v_3;have t4:=Tryz.underlying4;have a4:=a_4;have z4:=z_4;have v4:=v_4;have t9:=Tryz.underlying22;have a9:=YI;have z9:=N0;have v9:=Rk;have f1:=Tryz.underlying36;have f6:=YH;have f3:=Rf;have f2:=Rj;have u0:=run_underlying Tryz.underlying0;have u3:=run_underlying Tryz.underlying3;have u4:=run_underlying Tryz.underlying4;have u9:=run_underlying Tryz.underlying22;have f5:=run_underlying Tryz.underlying36;have mixed:=mixed;obtain⟨i0,a2,c7,b2,b3⟩:=info_parts Yl;have f7:¬((m:Int)=0):=by omega
 have e8:¬((i:Int)=(n:Int)):=by omega
 have f4:(c:Int)<(n:Int)+(m:Int):=by omega
 have a7:(Tryz.prog.info? 22).map (·.size)=some 1:=by rw[a2];simp[b2]
 have b6:b<w.heap.size:=block_lt_of_cell (S 0 _ (af (by omega)));have b5:L<w.heap.size:=block_lt_of_cell (a5 0 _ (af (by omega)));have a1:(n:Int)+(m:Int)-(i:Int)=((n+m-i:Nat):Int):=by omega
 have T:i+(n+m-i)=n+m:=by omega
 have Q:(Builtin.firstCells i0.size i (.slice (some ⟨b,off,none⟩) i c)).run Tryz.prog w.drew= .ok (cs.take i).toArray w.drew:=by
  rw[b2]
  exact run_firstCells_some w.drew 1 i ⟨b,off,none⟩ i c (cs.take i) (by rw[aD];omega) (fun j v E=>by
   rw[Addr.add_lit];rw[bv]at E;split at E
   ·exact S j v E
   ·cases E)
 have J:∀ty,(Builtin.append_ #[36,3] ty #[.slice (some ⟨b,off,none⟩) i c,.int .i64 ((n:Int)+(m:Int)-(i:Int))]).run Tryz.prog w=
  .ok (.slice (some ⟨w.heap.size,0,none⟩) (n+m) (grownCap w (n+m) c 22)) (w.drew.alloc (.cells ((cs.take i).toArray++Builtin.zeroCells (Value.slice none 0 0).cells (n+m-i)++Builtin.zeroCells (Value.slice none 0 0).cells (grownCap w (n+m) c 22-(n+m))) 22)):=fun ty=>by
  have h:=Lib.run_append_grow_zeros w 36 3 ty 22 i0 _ .i64 .i64 Tryz.underlying36 Tryz.underlying3 a2 c7 (some ⟨b,off,none⟩) i c (cs.take i) Q (n+m-i) (by omega) (by omega) (by omega) (by omega) (by rw[b3];omega) (by rw[b3,T];exact growslice_fits Z a6);rw[T]at h;rw[a1];exact h
 obtain⟨G,hG⟩:∃G,G=grownCap w (n+m) c 22:=⟨_,rfl⟩;obtain⟨z,F⟩:∃z:LAc,z=(cs.take i).toArray++Builtin.zeroCells (Value.slice none 0 0).cells (n+m-i)++Builtin.zeroCells (Value.slice none 0 0).cells (G-(n+m)):=⟨_,rfl⟩;rw[<-hG]at J ⊢;rw[<-F]at J ⊢
 have b7:n+m<=z.size:=by rw[F];simp[Builtin.zeroCells,Value.cells];omega
 obtain⟨I,C⟩:∃I,I=w.drew.alloc (.cells z 22):=⟨_,rfl⟩;rw[<-C]at J
 have hN:∀j,j<n+m->(I.cell? ⟨w.heap.size,j,none⟩).isSome=true:=fun j E=>by rw[C,World.cell?_alloc_at (w:=w.drew) z _ w.heap.size j rfl,cy (by omega)];rfl
 have b4:∀j,I.frozen? ⟨w.heap.size,j,none⟩=false:=fun j=>by rw[C];exact World.frozen?_alloc_at (w:=w.drew) z _ w.heap.size j rfl
 have d8:∀j v,w.cell? ⟨b,j,none⟩=some v->I.cell? ⟨b,j,none⟩=some v:=fun j v h=>by rw[C,World.cell?_alloc_past (w:=w.drew) _ b j b6];exact h
 have d7:∀j v,w.cell? ⟨L,j,none⟩=some v->I.cell? ⟨L,j,none⟩=some v:=fun j v h=>by rw[C,World.cell?_alloc_past (w:=w.drew) _ L j b5];exact h
 have a8:∀(W:World),(∀x,W.cell? x=I.cell? x)->(∀x,W.frozen? x=I.frozen? x)->∀ty dc,(Builtin.copy_ #[36,36] ty #[.slice (some ⟨w.heap.size,i,none⟩) (n+m-i) dc,.slice (some ⟨L,B,none⟩) m vc]).run Tryz.prog W= .ok (goInt vs.length) (W.setCells w.heap.size i vs):=fun W H U ty dc=>
  run_copy_cells W _ _ ty 22 w.heap.size i (n+m-i) dc ⟨L,B,none⟩ m vc vs Tryz.underlying36 a7 (by rw[d3];simp only[Nat.min_def];split<;>omega)
   (fun j v E=>by rw[Addr.add_lit,H];exact d7 _ v (a5 j v E))
   (fun j E=>by rw[H];exact hN _ (by omega)) (fun j E=>by rw[U];exact b4 _) c4
 have g2:n+m<=G:=by rw[hG];exact grownCap_ge w _ _ _
 have e2:G<=9223372036854775807:=by have:=grownCap_le_maxLen w (n+m) c 22 (by unfold maxLen;omega);rw[<-hG]at this;unfold maxLen at this;omega
 have e7:¬(G=i):=by omega
 have e1:¬(G=i+m):=by omega
 have e9:¬(c=i):=by omega
 have b8:b≠w.heap.size:=by omega
 have c3:(cs.drop i).length=n-i:=by rw[aE,d5]
 have O:∀(W:World),(∀x,W.cell? x=(I.setCells w.heap.size i vs).cell? x)->(∀x,W.frozen? x=(I.setCells w.heap.size i vs).frozen? x)->∀ty dc sc,(Builtin.copy_ #[36,36] ty #[.slice (some ⟨w.heap.size,i+m,none⟩) (n+m-(i+m)) dc,.slice (some ⟨b,off+i,none⟩) (n-i) sc]).run Tryz.prog W= .ok (goInt (cs.drop i).length) (W.setCells w.heap.size (i+m) (cs.drop i)):=fun W H U ty dc sc=>
  run_copy_cells W _ _ ty 22 w.heap.size (i+m) (n+m-(i+m)) dc ⟨b,off+i,none⟩ (n-i) sc (cs.drop i) Tryz.underlying36 a7 (by rw[c3];simp only[Nat.min_def];split<;>omega)
   (fun j v E=>by rw[Addr.add_lit,H,World.cell?_setCells_out _ _ _ _ _ (fun h _=>absurd h b8),cH];exact d8 _ v (S (i+j) v (by rwa[bf]at E)))
   (fun j E=>by rw[H];exact isSome_setCells _ _ _ _ (fun t ht=>hN _ (by omega)) _ (hN _ (by omega)))
   (fun j E=>by rw[U,World.frozen?_setCells];exact b4 _) (fun v hv=>c6 v (dQ hv))
 subst C;have d9:∀x,((w.alloc (.cells z 22)).drew).cell? x=(w.drew.alloc (.cells z 22)).cell? x:=fun x=>rfl
 have d6:∀x,((w.alloc (.cells z 22)).drew).frozen? x=(w.drew.alloc (.cells z 22)).frozen? x:=fun x=>rfl
 have e0:∀x,(((w.alloc (.cells z 22)).drew.setCells w.heap.size i vs).drew).cell? x=((w.drew.alloc (.cells z 22)).setCells w.heap.size i vs).cell? x:=fun x=>rfl
 have d4:∀x,(((w.alloc (.cells z 22)).drew.setCells w.heap.size i vs).drew).frozen? x=((w.drew.alloc (.cells z 22)).setCells w.heap.size i vs).frozen? x:=fun x=>rfl
 have e5:aj.wrap ((i:Int)+(m:Int))=(i:Int)+(m:Int):=by rw[IntKind.wrap_i64];omega
 have f0:(0:Int)<=(i:Int)+(m:Int):=by omega
 have e6:i<=n:=by omega
 have g1:((i:Int)+(m:Int)).toNat=i+m:=by omega
 have e3:(i:Int)<=(n:Int):=by omega
 clear a1 T Q F hG b7
 go_enter Tryz.func62,Tryz.ntmps62
 go_wp2_with (first
  |(at_builtin;refine Lib.wpList_append_run _ rfl _ _ _ _ rfl _ _ rfl rfl _ _ (J _) ?_)
  |(at_builtin;refine wpList_copy_runI _ rfl _ _ 36 36 rfl _ _ rfl rfl (a8 _ d9 d6 _ _) ?_)
  |(at_builtin;refine wpList_copy_runI _ rfl _ _ 36 36 rfl _ _ rfl rfl (O _ (fun _=>rfl) (fun _=>rfl) _ _ _) ?_))
 go_region_law_o (refine step_copy_runI rfl _ _ 36 36 rfl (.slice (some ⟨w.heap.size,i+m,none⟩) (n+m-(i+m)) (G-(i+m))) (.slice (some ⟨b,off+i,none⟩) (n-i) (c-i)) (by simp[Act.eval,Act.put]) (by simp[Act.eval,Act.put]) (O _ e0 d4 3 (G-(i+m)) (c-i)) ?_)
 go_wp2
 go_ret
 exact⟨rfl,rfl⟩
end
variable [bc]
theorem E5{w:World}{B h:Nat}{v:Value}(C:w.cell? ⟨B,h,none⟩=some v):∃H E,w.shape? B=some (H,E+1):=by
 cases hh:w.heap[B]? with
 |none=>simp[World.cell?,hh]at C
 |some o=>
  cases o with
  |cells z e fr=>
   refine⟨e,z.size-1, ?_⟩;have F:z[h]? =some v:=by simpa[World.cell?,hh]using C
   have I:h<z.size:=(dk.1 F).1;simp[World.shape?,hh];omega
  |_=>simp[World.cell?,hh]at C
theorem tj{w:World}{B h:Nat}{v:Value}(C:w.cell? ⟨B,h,none⟩=some v):∀j u,[v][j]? =some u->w.cell? ⟨B,h+j,none⟩=some u:=fun j u z=>by
 match j,z with
 |0,z=>simp at z;subst z;exact C
 |j+1,z=>simp at z
theorem D3{v:Value}(h:v.oneCell'=true):∀u∈ [v],u.oneCell'=true:=fun u hu=>by rw[aN.1 hu];exact h
theorem rF(k:Nat):(Builtin.zeroCells (Value.slice none 0 0).cells k).size=k:=by rw[dz];show k*1=k;omega
theorem Yk:NZ Tryz.prog 62 22 where
 cb:=by kernel_rfl
 shift:=fun b n c i J z vc cs v w hi h E a1 B F L T I Q C Z=>by obtain⟨tB,kB,a0,a2⟩:=Z;obtain⟨tA,kA,a3⟩:=E5 I;have:=Cw b 0 n c i J z 1 vc cs [v] w hi (by omega) h (by omega) a1 B rfl (fun j u H=>by rw[bC];exact F j u H) (fun j H=>by rw[bC];exact L j H) (fun j H=>by rw[bC];exact T j H) (tj I) Q (D3 C) tA tB kA kB a3 a0 a2;simpa only[bC]using this
 room:=fun b n c J z vc v w h E L T I C=>by
  have:=rq b 0 n c J z 1 vc [v] w (by omega) h (by omega) rfl (fun j H=>by
   obtain rfl:j=0:=by omega
   rw[bC];exact L) (fun j H=>by
   obtain rfl:j=0:=by omega
   rw[bC];exact T) (tj I) (D3 C)
  simpa only[bC]using this
 grow:=fun b n c i J z vc cs v w hi O h E B F I Q C=>by
  refine(EB b 0 n c i J z 1 vc cs [v] w hi (by omega) O h (by omega) B rfl (fun j u H=>by rw[bC];exact F j u H) (tj I) Q (D3 C)).mono ?_;rintro e w' ⟨rfl,rfl⟩;have S:n+1<=grownCap w (n+1) c 22:=grownCap_ge w _ _ _;refine⟨grownCap w (n+1) c 22,_,S, ?_,rfl,rfl,fun k hk=> ?_⟩
  ·simp only[m9,rF,gq,aD,B]
   omega
  ·have hl:(cs.take i).length=i:=by rw[aD];omega
   rw[aW,fV (by simp only[m9,gq,hl,rF];omega),fV (by simp only[gq,hl];omega)];rw[gg,bv,if_pos hk,<-aa]
 endg:=fun U n c J z vc cs v w O h E B W F I C=>by
  refine(rt U n c J z 1 vc cs [v] w (by omega) O h (by omega) B rfl W F (tj I) (D3 C)).mono ?_;rintro e w' ⟨rfl,rfl⟩;have S:n+1<=grownCap w (n+1) c 22:=grownCap_ge w _ _ _;refine⟨grownCap w (n+1) c 22,_,S, ?_,rfl,rfl,fun k hk=> ?_⟩
  ·simp only[m9,rF,gq,ah,aL,B]
   omega
  ·rw[aW,fV (by simp only[gq,ah,aL,B];omega),gg,<-aa]
def p62:t7->List aC->Nat->Option dY
 |[.psl 0 1 0 n none,.int .i64 i,.lst 1 [[s]] t],[.arr 1 rows],0=>if rows.length=n/\0<=i/\i<=n/\n<=1000000000 then some ⟨.psl 100 1 0 (n+1) none,[(100,.arr 1 (lw rows i.toNat s))],[]⟩else none
 |[.lst 1 [] .clip,.int .i64 0,.lst 1 [[s]] t],[],0=>some ⟨.psl 100 1 0 1 none,[(100,.arr 1 [[s]])],[]⟩
 |_,_,_=>none
theorem p62_ok:∀z os k q,p62 z os k=some q->jI Tryz.prog 62 z os k (· =q):=by
 intro z os k q h;unfold p62 at h;split at h
 ·rename_i n i s t rows
  rw[aG]at h;obtain⟨⟨B,E,F,C⟩,h⟩:=h;cases h;obtain⟨j,rfl⟩:∃j:Nat,i=j:=⟨i.toNat,by omega⟩;have:=Dq Yk (rows:=rows) (i:=j) (n:=n) (s:=s) (t:=t) B (by omega) C;rw[gP];exact this
 ·cases h
  exact wo Yk
 ·cases h
end Pr
end Go.Proofs.YtdafipacemgcoaaGreatDoor
