/- Walks of library functions. No condition. -/
import Derived.Test.YtkcjdeofknkndaaGreatDoorEcDE
import Derived.Test.YtkcjdeofknkndaaGreatDoorProg
import Derived.WalkKit
import Derived.Laws.RangeString
import Derived.Laws.RangeAny
import Derived.LoopTactic
import Derived.KernelRfl
open List renaming all_eq_true -> aT, getD_eq_getElem?_getD -> aa, getElem?_eq_getElem -> ab, getElem_mem -> bx, getElem_of_mem -> bY
open Nat renaming le_refl -> aN, lt_or_ge -> bO, zero_le -> bH
open UInt8 renaming ofNat -> gy
set_option linter.unusedSectionVars false
set_option linter.unusedSimpArgs false
set_option linter.unusedVariables false
namespace Go.Proofs.YtkcjdeofknkndaaGreatDoor
open Go.Sy
open UInt8 renaming reduceLT -> ur1, reduceLE -> ur2
open Int renaming reduceToNat -> ir1, reduceLE -> ir2, reduceLT -> ir3, reduceEq -> ir4, reduceNe -> ir5, reduceNeg -> ir6, reduceAdd -> ir7, reduceSub -> ir8, reduceMul -> ir9
open Nat renaming reducePow -> nr1, reduceDiv -> nr2, reduceMod -> nr3, reduceAdd -> nr4, reduceSub -> nr5, reduceMul -> nr6, reduceLT -> nr7, reduceLeDiff -> nr8, reduceEqDiff -> nr9, reduceBEq -> nr10
open Go.RowKit Go.ChangeShapes Go.WideShapes
namespace Pr
variable [aX]
def okc(c:UInt8):Bool:=if c<97\/122<c then(if c<48\/57<c then decide (c=45)else true)else true
def nameB(s:t7):Bool:=if s.length<1\/12<s.length then false else s.all okc
set_option maxRecDepth 100000 in
theorem xlS(w:World)(a b:t7)(u v:Value)(h:iO w a u)(y:iO w b v):
 Calls Tryz.prog 107 #[u,v] w fun e w'=>e= .returned (.int .i64 (Lib.compareBytes a b))/\w'=w:=by
 go_enter Tryz.func107,Tryz.ntmps107
 go_wp2
 rw[run_callFunc_extern Tryz.func143 (by kernel_rfl) (by kernel_rfl) (by kernel_rfl) (e:=Extern.BytealgCompare.compare) (by kernel_rfl),qc h y];simp only[Result.andThen];rw[Oper.upon_value]
 go_wp2
 go_ret
 exact⟨rfl,rfl⟩
set_option maxRecDepth 100000 in
theorem xlQ(w:World)(a:t7)(c:UInt8)(u:Value)(h:iO w a u):
 Calls Tryz.prog 138 #[u,.int .u8 c.toNat] w fun e w'=>e= .returned (.int .i64 (sS a c))/\w'=w:=by
 go_enter Tryz.func138,Tryz.ntmps138
 go_wp2
 rw[run_callFunc_extern Tryz.func168 (by kernel_rfl) (by kernel_rfl) (by kernel_rfl) (e:=Extern.BytealgIndexByte.indexByte) (by kernel_rfl),um h];simp only[Result.andThen];rw[Oper.upon_value]
 go_wp2
 go_ret
 exact⟨rfl,rfl⟩
set_option maxRecDepth 100000 in
theorem xlP(w:World)(a b:ByteArray):
 Calls Tryz.prog 142 #[.string a,.string b] w fun e w'=>e= .returned (.int .i64 (Lib.compareBytes a.data.toList b.data.toList))/\w'=w:=by
 go_enter Tryz.func142,Tryz.ntmps142
 go_wp2
 rw[run_callFunc_extern Tryz.func169 (by kernel_rfl) (by kernel_rfl) (by kernel_rfl) (e:=Extern.BytealgCompare.compare) (by kernel_rfl),Lib.run_compareString];simp only[Result.andThen];rw[Oper.upon_value]
 go_wp2
 go_ret
 exact⟨rfl,rfl⟩
def okn(c:Nat):Prop:=(97<=c/\c<=122)\/(48<=c/\c<=57)\/c=45
set_option maxRecDepth 100000 in
theorem sM(b:UInt8):okc b=true↔okn b.toNat:=by
 have h:∀n,n<256->(okc (gy n)=true↔okn n):=by unfold okn;decide
 have:=h b.toNat b.toNat_lt;rwa[UInt8.ofNat_toNat]at this
theorem Gt(s:ByteArray)(h:Nat)(y:h<s.size):s.data.toList.getD h 0=s[h]'y:=by rw[aa,ab (by simpa using y)];rfl
theorem xfD(s:ByteArray)(y c wd:Nat)(z:y<s.size)(h:Utf8.decode s y=(c,wd)):(okn c->wd=1/\okc (s.data.toList.getD y 0)=true)/\(¬okn c->okc (s.data.toList.getD y 0)=false):=by
 rw[Gt s y z]
 by_cases F:(s[y]'z).toNat<128
 ·rw[decode_ascii s y z F]at h
  cases h;refine⟨fun C=>⟨rfl,(sM _).2 C⟩,fun C=> ?_⟩;cases E:okc (s[y]'z)with
  |false=>rfl
  |true=>exact absurd ((sM _).1 E) C
 ·have E:=(decode_high s y z (by omega)).1
  rw[h]at E;simp only at E;refine⟨fun C=>by unfold okn at C;omega,fun _=> ?_⟩;cases h3:okc (s[y]'z)with
  |false=>rfl
  |true=>have:=(sM _).1 h3;unfold okn at this;omega
theorem pb(w:World)(s:ByteArray)(h:Nat):Below w.heap.size w (w.iter s h):=(Below.refl _ w).alloc (aN _) _
theorem kD(s:ByteArray):s.data.toList.length=s.size:=by simp
set_option maxRecDepth 100000 in
theorem xlR(w:World)(s:ByteArray):
 Calls Tryz.prog 130 #[.string s] w fun e w'=>e= .returned (.bool (nameB s.data.toList))/\Below w.heap.size w w':=by
 go_enter Tryz.func130,Tryz.ntmps130
 go_wp2
 ·go_ret
  refine⟨?_,Below.refl _ _⟩;have:s.data.toList.length<1\/12<s.data.toList.length:=by rw[kD];omega
  unfold nameB;rw[if_pos this];rfl
 ·go_loopw [] (
   fun w'=>∃h:Nat,w'=w.iter s h/\h<=s.size/\∀i,i<h->okc (s.data.toList.getD i 0)=true) (fun w'=>s.size-w'.iterPos w.heap.size)
  case atStart=>exact⟨0,rfl,bH _,fun i hi=>absurd hi (Nat.not_lt_zero i)⟩
  case round=>
   obtain⟨h,rfl,W,y⟩:=hrel;have z:¬(s.data.toList.length<1\/12<s.data.toList.length):=by rw[kD];omega
   by_cases H:h<s.size
   ·have C:∀ty,(Instr.next (.pointer (some ⟨w.heap.size,0,none⟩)) true ty).run Tryz.prog (w.iter s h)=_:=fun ty=>run_next_any w s h ty H
    obtain⟨E,F⟩:=xfD s h (Utf8.decode s h).1 (Utf8.decode s h).2 H rfl;generalize Utf8.decode s h=dc at C E F;obtain⟨c,wd⟩:=dc;simp only at C E F;have Q:Hid (okn c->wd=1/\okc (s.data.toList.getD h 0)=true):=E;have J:Hid (¬okn c->okc (s.data.toList.getD h 0)=false):=F;have O:Hid (¬(s.data.toList.length<1\/12<s.data.toList.length)):=z;have T:Hid (∀i,i<h->okc (s.data.toList.getD i 0)=true):=y;clear E F z y
    go_wp2
    all_goals (try simp only[bne_iff_ne,bne_eq_false_iff_eq,ne_eq]at*)
    all_goals first
     |(
      have L:okn c:=by unfold okn;omega
      obtain⟨rfl,I⟩:=Q.out L
      go_roundw
      case rel=>
       refine⟨h+1,rfl,by omega,fun i hi=> ?_⟩;rcases bO i h with U|U
       ·exact T.out i U
       ·have:i=h:=by omega
        rw[this];exact I
      case measure=>simp;omega)
     |(
      have L:¬okn c:=by unfold okn;omega
      have I:=J.out L
      go_ret
      refine⟨?_,pb _ _ _⟩
      have:nameB s.data.toList=false:=by unfold nameB;rw[if_neg O.out,List.all_eq_false];refine⟨s.data.toList.getD h 0, ?_,by rw[I];simp⟩;rw[aa,ab (by simpa using H)];exact bx _
      rw[this];rfl)
   ·have C:∀ty,(Instr.next (.pointer (some ⟨w.heap.size,0,none⟩)) true ty).run Tryz.prog (w.iter s h)=_:=fun ty=>run_next_end w s h ty H
    have O:Hid (¬(s.data.toList.length<1\/12<s.data.toList.length)):=z;have T:Hid (∀i,i<h->okc (s.data.toList.getD i 0)=true):=y;clear z y
    go_wp2
    go_ret
    refine⟨?_,pb _ _ _⟩
    have:nameB s.data.toList=true:=by unfold nameB;rw[if_neg O.out,aT];intro b Z;obtain⟨i,hi,rfl⟩:=bY Z;have:=T.out i (by have:=kD s;omega);rwa[aa,ab hi]at this
    rw[this];rfl
 ·go_ret
  refine⟨?_,Below.refl _ _⟩;have:s.data.toList.length<1\/12<s.data.toList.length:=by rw[kD];omega
  unfold nameB;rw[if_pos this];rfl
def p107:LAa->List aC->Nat->Option dZ
 |[.byt a _,.byt b _],[],0=>some ⟨.int .i64 (Lib.compareBytes a b),[],[]⟩
 |_,_,_=>none
def p142:LAa->List aC->Nat->Option dZ
 |[.str a,.str b],[],0=>some ⟨.int .i64 (Lib.compareBytes a b),[],[]⟩
 |_,_,_=>none
def p130:LAa->List aC->Nat->Option dZ
 |[.str a],[],0=>some ⟨.bool (nameB a),[],[]⟩
 |_,_,_=>none
def p138:LAa->List aC->Nat->Option dZ
 |[.byt a _,.u8 c],[],0=>some ⟨.int .i64 (sS a c),[],[]⟩
 |_,_,_=>none
theorem O8{x:Sit}{a b:SV}{vs:LAd}(h:cD x [a,b] vs):∃u v,vs=[u,v]/\Rep x a u/\Rep x b v:=by
 match vs,h with
 |[u,v],h=>exact⟨u,v,rfl,h.2 0 (by simp),h.2 1 (by simp)⟩
 |[],h=>simp[cD]at h
 |[_],h=>simp[cD]at h
 |_::_::_::_,h=>simp[cD]at h
theorem xgw{x:Sit}{a:SV}{vs:LAd}(h:cD x [a] vs):∃u,vs=[u]/\Rep x a u:=by
 match vs,h with
 |[u],h=>exact⟨u,rfl,h.2 0 (by simp)⟩
 |[],h=>simp[cD]at h
 |_::_::_,h=>simp[cD]at h
theorem p107_ok:∀y os k q,p107 y os k=some q->lz Tryz.prog 107 y os k (· =q):=by
 intro y os k q h;unfold p107 at h;split at h
 ·cases h
  refine jk (by kernel_rfl) fun x w vs C z=> ?_
  obtain⟨u,v,rfl,F,E⟩:=O8 C;refine(xlS w _ _ u v (lx F z) (lx E z)).mono ?_;rintro e w' ⟨rfl,rfl⟩;exact⟨_,rfl,.dat _ _ (.int _ _) trivial,Below.refl _ _⟩
 ·cases h
theorem p138_ok:∀y os k q,p138 y os k=some q->lz Tryz.prog 138 y os k (· =q):=by
 intro y os k q h;unfold p138 at h;split at h
 ·cases h
  refine jk (by kernel_rfl) fun x w vs z F=> ?_
  obtain⟨u,v,rfl,E,C⟩:=O8 z;obtain rfl:=xgp C;refine(xlQ w _ _ u (lx E F)).mono ?_;rintro e w' ⟨rfl,rfl⟩;exact⟨_,rfl,.dat _ _ (.int _ _) trivial,Below.refl _ _⟩
 ·cases h
theorem p142_ok:∀y os k q,p142 y os k=some q->lz Tryz.prog 142 y os k (· =q):=by
 intro y os k q h;unfold p142 at h;split at h
 ·cases h
  refine jk (by kernel_rfl) fun x w vs z F=> ?_
  obtain⟨u,v,rfl,E,C⟩:=O8 z;obtain rfl:=xC E;obtain rfl:=xC C;refine(xlP w _ _).mono ?_;rintro e w' ⟨rfl,rfl⟩;exact⟨_,rfl,.dat _ _ (.int _ _) trivial,Below.refl _ _⟩
 ·cases h
theorem p130_ok:∀y os k q,p130 y os k=some q->lz Tryz.prog 130 y os k (· =q):=by
 intro y os k q h;unfold p130 at h;split at h
 ·cases h
  refine jk (by kernel_rfl) fun x w vs z F=> ?_
  obtain⟨u,rfl,C⟩:=xgw z;obtain rfl:=xC C;refine(xlR w _).mono ?_;rintro e w' ⟨rfl,E⟩;exact⟨_,rfl,.dat _ _ (.bool _) trivial,E⟩
 ·cases h
end Pr
end Go.Proofs.YtkcjdeofknkndaaGreatDoor
