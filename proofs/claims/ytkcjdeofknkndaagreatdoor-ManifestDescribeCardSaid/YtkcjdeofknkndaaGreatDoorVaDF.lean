/- Walks of library functions. No condition. -/
import Derived.Test.YtkcjdeofknkndaaGreatDoorEcDF
import Derived.Test.YtkcjdeofknkndaaGreatDoorProg
import Derived.WalkKit
import Derived.Laws.RangeString
import Derived.Laws.RangeAny
import Derived.LoopTactic
import Derived.KernelRfl
open List renaming all_eq_true -> aT, getD_eq_getElem?_getD -> aa, getElem?_eq_getElem -> ab, getElem_mem -> bn, getElem_of_mem -> bM
open Nat renaming le_refl -> aN, lt_or_ge -> bL, zero_le -> bD
open UInt8 renaming ofNat -> ed
set_option linter.unusedSectionVars false
set_option linter.unusedSimpArgs false
set_option linter.unusedVariables false
namespace Go.Proofs.YtkcjdeofknkndaaGreatDoor
open Go.Sy
open UInt8 renaming reduceLT -> ur1, reduceLE -> ur2
open Int renaming reduceToNat -> ir1, reduceLE -> ir2, reduceLT -> ir3, reduceEq -> ir4, reduceNe -> ir5, reduceNeg -> ir6, reduceAdd -> ir7, reduceSub -> ir8, reduceMul -> ir9
open Nat renaming reducePow -> nr1, reduceDiv -> nr2, reduceMod -> nr3, reduceAdd -> nr4, reduceSub -> nr5, reduceMul -> nr6, reduceLT -> nr7, reduceLeDiff -> nr8, reduceEqDiff -> nr9, reduceBEq -> nr10
open Go.RowKit Go.ChangeShapes Go.WideShapes
namespace Pr
variable [ba]
def okc(c:UInt8):Bool:=if c<97\/122<c then(if c<48\/57<c then decide (c=45)else true)else true
def nameB(s:t6):Bool:=if s.length<1\/12<s.length then false else s.all okc
set_option maxRecDepth 100000 in
theorem xi4(w:World)(a b:t6)(u v:Value)(h:iD w a u)(y:iD w b v):
 Calls Tryz.prog 107 #[u,v] w fun e w'=>e= .returned (.int .i64 (Lib.compareBytes a b))/\w'=w:=by
 go_enter Tryz.func107,Tryz.ntmps107
 go_wp2
 rw[run_callFunc_extern Tryz.func143 (by kernel_rfl) (by kernel_rfl) (by kernel_rfl) (e:=Extern.BytealgCompare.compare) (by kernel_rfl),pQ h y];simp only[Result.andThen];rw[Oper.upon_value]
 go_wp2
 go_ret
 exact⟨rfl,rfl⟩
set_option maxRecDepth 100000 in
theorem xi2(w:World)(a:t6)(c:UInt8)(u:Value)(h:iD w a u):
 Calls Tryz.prog 138 #[u,.int .u8 c.toNat] w fun e w'=>e= .returned (.int .i64 (sk a c))/\w'=w:=by
 go_enter Tryz.func138,Tryz.ntmps138
 go_wp2
 rw[run_callFunc_extern Tryz.func168 (by kernel_rfl) (by kernel_rfl) (by kernel_rfl) (e:=Extern.BytealgIndexByte.indexByte) (by kernel_rfl),tN h];simp only[Result.andThen];rw[Oper.upon_value]
 go_wp2
 go_ret
 exact⟨rfl,rfl⟩
set_option maxRecDepth 100000 in
theorem xi1(w:World)(a b:ByteArray):
 Calls Tryz.prog 142 #[.string a,.string b] w fun e w'=>e= .returned (.int .i64 (Lib.compareBytes a.data.toList b.data.toList))/\w'=w:=by
 go_enter Tryz.func142,Tryz.ntmps142
 go_wp2
 rw[run_callFunc_extern Tryz.func169 (by kernel_rfl) (by kernel_rfl) (by kernel_rfl) (e:=Extern.BytealgCompare.compare) (by kernel_rfl),Lib.run_compareString];simp only[Result.andThen];rw[Oper.upon_value]
 go_wp2
 go_ret
 exact⟨rfl,rfl⟩
def okn(c:Nat):Prop:=(97<=c/\c<=122)\/(48<=c/\c<=57)\/c=45
set_option maxRecDepth 100000 in
theorem sa(b:UInt8):okc b=true↔okn b.toNat:=by
 have h:∀n,n<256->(okc (ed n)=true↔okn n):=by unfold okn;decide
 have:=h b.toNat b.toNat_lt;rwa[UInt8.ofNat_toNat]at this
theorem FZ(s:ByteArray)(h:Nat)(y:h<s.size):s.data.toList.getD h 0=s[h]'y:=by rw[aa,ab (by simpa using y)];rfl
theorem xcS(s:ByteArray)(y c wd:Nat)(z:y<s.size)(h:Utf8.decode s y=(c,wd)):(okn c->wd=1/\okc (s.data.toList.getD y 0)=true)/\(¬okn c->okc (s.data.toList.getD y 0)=false):=by
 rw[FZ s y z]
 by_cases F:(s[y]'z).toNat<128
 ·rw[decode_ascii s y z F]at h
  cases h;refine⟨fun C=>⟨rfl,(sa _).2 C⟩,fun C=> ?_⟩;cases E:okc (s[y]'z)with
  |false=>rfl
  |true=>exact absurd ((sa _).1 E) C
 ·have E:=(decode_high s y z (by omega)).1
  rw[h]at E;simp only at E;refine⟨fun C=>by unfold okn at C;omega,fun _=> ?_⟩;cases h3:okc (s[y]'z)with
  |false=>rfl
  |true=>have:=(sa _).1 h3;unfold okn at this;omega
theorem oX(w:World)(s:ByteArray)(h:Nat):Below w.heap.size w (w.iter s h):=(Below.refl _ w).alloc (aN _) _
theorem ko(s:ByteArray):s.data.toList.length=s.size:=by simp
set_option maxRecDepth 100000 in
theorem xi3(w:World)(s:ByteArray):
 Calls Tryz.prog 130 #[.string s] w fun e w'=>e= .returned (.bool (nameB s.data.toList))/\Below w.heap.size w w':=by
 go_enter Tryz.func130,Tryz.ntmps130
 go_wp2
 ·go_ret
  refine⟨?_,Below.refl _ _⟩;have:s.data.toList.length<1\/12<s.data.toList.length:=by rw[ko];omega
  unfold nameB;rw[if_pos this];rfl
 ·go_loopw [] (
   fun w'=>∃h:Nat,w'=w.iter s h/\h<=s.size/\∀i,i<h->okc (s.data.toList.getD i 0)=true) (fun w'=>s.size-w'.iterPos w.heap.size)
  case atStart=>exact⟨0,rfl,bD _,fun i hi=>absurd hi (Nat.not_lt_zero i)⟩
  case round=>
   obtain⟨h,rfl,Z,y⟩:=hrel;have z:¬(s.data.toList.length<1\/12<s.data.toList.length):=by rw[ko];omega
   by_cases H:h<s.size
   ·have C:∀ty,(Instr.next (.pointer (some ⟨w.heap.size,0,none⟩)) true ty).run Tryz.prog (w.iter s h)=_:=fun ty=>run_next_any w s h ty H
    obtain⟨F,E⟩:=xcS s h (Utf8.decode s h).1 (Utf8.decode s h).2 H rfl;generalize Utf8.decode s h=dc at C F E;obtain⟨c,wd⟩:=dc;simp only at C F E;have T:Hid (okn c->wd=1/\okc (s.data.toList.getD h 0)=true):=F;have L:Hid (¬okn c->okc (s.data.toList.getD h 0)=false):=E;have Q:Hid (¬(s.data.toList.length<1\/12<s.data.toList.length)):=z;have O:Hid (∀i,i<h->okc (s.data.toList.getD i 0)=true):=y;clear F E z y
    go_wp2
    all_goals (try simp only[bne_iff_ne,bne_eq_false_iff_eq,ne_eq]at*)
    all_goals first
     |(
      have J:okn c:=by unfold okn;omega
      obtain⟨rfl,I⟩:=T.out J
      go_roundw
      case rel=>
       refine⟨h+1,rfl,by omega,fun i hi=> ?_⟩;rcases bL i h with U|U
       ·exact O.out i U
       ·have:i=h:=by omega
        rw[this];exact I
      case measure=>simp;omega)
     |(
      have J:¬okn c:=by unfold okn;omega
      have I:=L.out J
      go_ret
      refine⟨?_,oX _ _ _⟩
      have:nameB s.data.toList=false:=by unfold nameB;rw[if_neg Q.out,List.all_eq_false];refine⟨s.data.toList.getD h 0, ?_,by rw[I];simp⟩;rw[aa,ab (by simpa using H)];exact bn _
      rw[this];rfl)
   ·have C:∀ty,(Instr.next (.pointer (some ⟨w.heap.size,0,none⟩)) true ty).run Tryz.prog (w.iter s h)=_:=fun ty=>run_next_end w s h ty H
    have Q:Hid (¬(s.data.toList.length<1\/12<s.data.toList.length)):=z;have O:Hid (∀i,i<h->okc (s.data.toList.getD i 0)=true):=y;clear z y
    go_wp2
    go_ret
    refine⟨?_,oX _ _ _⟩
    have:nameB s.data.toList=true:=by unfold nameB;rw[if_neg Q.out,aT];intro b W;obtain⟨i,hi,rfl⟩:=bM W;have:=O.out i (by have:=ko s;omega);rwa[aa,ab hi]at this
    rw[this];rfl
 ·go_ret
  refine⟨?_,Below.refl _ _⟩;have:s.data.toList.length<1\/12<s.data.toList.length:=by rw[ko];omega
  unfold nameB;rw[if_pos this];rfl
def p107:t7->List aC->Nat->Option eg
 |[.byt a _,.byt b _],[],0=>some ⟨.int .i64 (Lib.compareBytes a b),[],[]⟩
 |_,_,_=>none
def p142:t7->List aC->Nat->Option eg
 |[.str a,.str b],[],0=>some ⟨.int .i64 (Lib.compareBytes a b),[],[]⟩
 |_,_,_=>none
def p130:t7->List aC->Nat->Option eg
 |[.str a],[],0=>some ⟨.bool (nameB a),[],[]⟩
 |_,_,_=>none
def p138:t7->List aC->Nat->Option eg
 |[.byt a _,.u8 c],[],0=>some ⟨.int .i64 (sk a c),[],[]⟩
 |_,_,_=>none
theorem No{x:Sit}{a b:SV}{vs:LAa}(h:cy x [a,b] vs):∃u v,vs=[u,v]/\Rep x a u/\Rep x b v:=by
 match vs,h with
 |[u,v],h=>exact⟨u,v,rfl,h.2 0 (by simp),h.2 1 (by simp)⟩
 |[],h=>simp[cy]at h
 |[_],h=>simp[cy]at h
 |_::_::_::_,h=>simp[cy]at h
theorem xdR{x:Sit}{a:SV}{vs:LAa}(h:cy x [a] vs):∃u,vs=[u]/\Rep x a u:=by
 match vs,h with
 |[u],h=>exact⟨u,rfl,h.2 0 (by simp)⟩
 |[],h=>simp[cy]at h
 |_::_::_,h=>simp[cy]at h
theorem p107_ok:∀y os k q,p107 y os k=some q->ma Tryz.prog 107 y os k (· =q):=by
 intro y os k q h;unfold p107 at h;split at h
 ·cases h
  refine ja (by kernel_rfl) fun x w vs E z=> ?_
  obtain⟨u,v,rfl,C,F⟩:=No E;refine(xi4 w _ _ u v (ln C z) (ln F z)).mono ?_;rintro e w' ⟨rfl,rfl⟩;exact⟨_,rfl,.dat _ _ (.int _ _) trivial,Below.refl _ _⟩
 ·cases h
theorem p138_ok:∀y os k q,p138 y os k=some q->ma Tryz.prog 138 y os k (· =q):=by
 intro y os k q h;unfold p138 at h;split at h
 ·cases h
  refine ja (by kernel_rfl) fun x w vs C E=> ?_
  obtain⟨u,v,rfl,z,F⟩:=No C;obtain rfl:=xdL F;refine(xi2 w _ _ u (ln z E)).mono ?_;rintro e w' ⟨rfl,rfl⟩;exact⟨_,rfl,.dat _ _ (.int _ _) trivial,Below.refl _ _⟩
 ·cases h
theorem p142_ok:∀y os k q,p142 y os k=some q->ma Tryz.prog 142 y os k (· =q):=by
 intro y os k q h;unfold p142 at h;split at h
 ·cases h
  refine ja (by kernel_rfl) fun x w vs C F=> ?_
  obtain⟨u,v,rfl,z,E⟩:=No C;obtain rfl:=xd z;obtain rfl:=xd E;refine(xi1 w _ _).mono ?_;rintro e w' ⟨rfl,rfl⟩;exact⟨_,rfl,.dat _ _ (.int _ _) trivial,Below.refl _ _⟩
 ·cases h
theorem p130_ok:∀y os k q,p130 y os k=some q->ma Tryz.prog 130 y os k (· =q):=by
 intro y os k q h;unfold p130 at h;split at h
 ·cases h
  refine ja (by kernel_rfl) fun x w vs E F=> ?_
  obtain⟨u,rfl,z⟩:=xdR E;obtain rfl:=xd z;refine(xi3 w _).mono ?_;rintro e w' ⟨rfl,C⟩;exact⟨_,rfl,.dat _ _ (.bool _) trivial,C⟩
 ·cases h
end Pr
end Go.Proofs.YtkcjdeofknkndaaGreatDoor
