/- Functions of the library that are shown by walks. No condition. -/
import Derived.Test.YtbfnljmmepcbfaaGreatDoorEePA
import Derived.Test.YtbfnljmmepcbfaaGreatDoorProg
import Derived.WalkKit
import Derived.Laws.RangeString
import Derived.Laws.RangeAny
import Derived.LoopTactic
import Derived.KernelRfl
open List renaming all_eq_true -> aV, getD_eq_getElem?_getD -> aa, getElem?_eq_getElem -> ac, getElem_mem -> bo, getElem_of_mem -> bn
open Nat renaming le_refl -> aK, lt_or_ge -> bO, zero_le -> bH
open UInt8 renaming ofNat -> gw
set_option linter.unusedSectionVars false
set_option linter.unusedSimpArgs false
set_option linter.unusedVariables false
namespace Go.Proofs.YtbfnljmmepcbfaaGreatDoor
open Go.Sy
open UInt8 renaming reduceLT -> ur1, reduceLE -> ur2
open Int renaming reduceToNat -> ir1, reduceLE -> ir2, reduceLT -> ir3, reduceEq -> ir4, reduceNe -> ir5, reduceNeg -> ir6, reduceAdd -> ir7, reduceSub -> ir8, reduceMul -> ir9
open Nat renaming reducePow -> nr1, reduceDiv -> nr2, reduceMod -> nr3, reduceAdd -> nr4, reduceSub -> nr5, reduceMul -> nr6, reduceLT -> nr7, reduceLeDiff -> nr8, reduceEqDiff -> nr9, reduceBEq -> nr10
open Go.RowKit Go.ChangeShapes Go.WideShapes
namespace Pr
variable [bf]
def okc(c:UInt8):Bool:=if c<97\/122<c then(if c<48\/57<c then decide (c=45)else true)else true
def nameB(s:List UInt8):Bool:=if s.length<1\/12<s.length then false else s.all okc
set_option maxRecDepth 100000 in
theorem w83(w:World)(a b:List UInt8)(u v:Value)(ha:iN w a u)(hb:iN w b v):
 Calls Tryz.prog 83 #[u,v] w fun e w'=>e= .returned (.int .i64 (Lib.compareBytes a b))/\w'=w:=by
 go_enter Tryz.func83,Tryz.ntmps83
 go_wp2
 rw[run_callFunc_extern Tryz.func130 (by kernel_rfl) (by kernel_rfl) (by kernel_rfl) (e:=Extern.BytealgCompare.compare) (by kernel_rfl),pR ha hb];simp only[Result.andThen];rw[Oper.upon_value]
 go_wp2
 go_ret
 exact⟨rfl,rfl⟩
set_option maxRecDepth 100000 in
theorem xkd(w:World)(a:List UInt8)(c:UInt8)(u:Value)(ha:iN w a u):
 Calls Tryz.prog 202 #[u,.int .u8 c.toNat] w fun e w'=>e= .returned (.int .i64 (xdB a c))/\w'=w:=by
 go_enter Tryz.func202,Tryz.ntmps202
 go_wp2
 rw[run_callFunc_extern Tryz.func206 (by kernel_rfl) (by kernel_rfl) (by kernel_rfl) (e:=Extern.BytealgIndexByte.indexByte) (by kernel_rfl),uz ha];simp only[Result.andThen];rw[Oper.upon_value]
 go_wp2
 go_ret
 exact⟨rfl,rfl⟩
set_option maxRecDepth 100000 in
theorem xke(w:World)(a b:ByteArray):
 Calls Tryz.prog 191 #[.string a,.string b] w fun e w'=>e= .returned (.int .i64 (Lib.compareBytes a.data.toList b.data.toList))/\w'=w:=by
 go_enter Tryz.func191,Tryz.ntmps191
 go_wp2
 rw[run_callFunc_extern Tryz.func204 (by kernel_rfl) (by kernel_rfl) (by kernel_rfl) (e:=Extern.BytealgCompare.compare) (by kernel_rfl),Lib.run_compareString];simp only[Result.andThen];rw[Oper.upon_value]
 go_wp2
 go_ret
 exact⟨rfl,rfl⟩
def okn(c:Nat):Prop:=(97<=c/\c<=122)\/(48<=c/\c<=57)\/c=45
set_option maxRecDepth 100000 in
theorem sA(b:UInt8):okc b=true↔okn b.toNat:=by
 have key:∀n,n<256->(okc (gw n)=true↔okn n):=by unfold okn;decide
 have:=key b.toNat b.toNat_lt;rwa[UInt8.ofNat_toNat]at this
theorem Gp(s:ByteArray)(pos:Nat)(hp:pos<s.size):s.data.toList.getD pos 0=s[pos]'hp:=by rw[aa,ac (by simpa using hp)];rfl
theorem xdj(s:ByteArray)(pos c wd:Nat)(hp:pos<s.size)(h:Utf8.decode s pos=(c,wd)):(okn c->wd=1/\okc (s.data.toList.getD pos 0)=true)/\(¬okn c->okc (s.data.toList.getD pos 0)=false):=by
 rw[Gp s pos hp]
 by_cases ha:(s[pos]'hp).toNat<128
 ·rw[decode_ascii s pos hp ha]at h
  cases h;refine⟨fun h1=>⟨rfl,(sA _).2 h1⟩,fun h1=> ?_⟩;cases h2:okc (s[pos]'hp)with
  |false=>rfl
  |true=>exact absurd ((sA _).1 h2) h1
 ·have h2:=(decode_high s pos hp (by omega)).1
  rw[h]at h2;simp only at h2;refine⟨fun h1=>by unfold okn at h1;omega,fun _=> ?_⟩;cases h3:okc (s[pos]'hp)with
  |false=>rfl
  |true=>have:=(sA _).1 h3;unfold okn at this;omega
theorem oU(w:World)(s:ByteArray)(pos:Nat):Below w.heap.size w (w.iter s pos):=(Below.refl _ w).alloc (aK _) _
theorem kd(s:ByteArray):s.data.toList.length=s.size:=by simp
set_option maxRecDepth 100000 in
theorem xkf(w:World)(s:ByteArray):
 Calls Tryz.prog 189 #[.string s] w fun e w'=>e= .returned (.bool (nameB s.data.toList))/\Below w.heap.size w w':=by
 go_enter Tryz.func189,Tryz.ntmps189
 go_wp2
 ·go_ret
  refine⟨?_,Below.refl _ _⟩;have:s.data.toList.length<1\/12<s.data.toList.length:=by rw[kd];omega
  unfold nameB;rw[if_pos this];rfl
 ·go_loopw [] (
   fun w'=>∃pos:Nat,w'=w.iter s pos/\pos<=s.size/\∀i,i<pos->okc (s.data.toList.getD i 0)=true) (fun w'=>s.size-w'.iterPos w.heap.size)
  case atStart=>exact⟨0,rfl,bH _,fun i hi=>absurd hi (Nat.not_lt_zero i)⟩
  case round=>
   obtain⟨pos,rfl,hle,hall⟩:=hrel;have hlen:¬(s.data.toList.length<1\/12<s.data.toList.length):=by rw[kd];omega
   by_cases hp:pos<s.size
   ·have hnx:∀ty,(Instr.next (.pointer (some ⟨w.heap.size,0,none⟩)) true ty).run Tryz.prog (w.iter s pos)=_:=fun ty=>run_next_any w s pos ty hp
    obtain⟨g1,g2⟩:=xdj s pos (Utf8.decode s pos).1 (Utf8.decode s pos).2 hp rfl;generalize Utf8.decode s pos=dc at hnx g1 g2;obtain⟨c,wd⟩:=dc;simp only at hnx g1 g2;have HG1:Hid (okn c->wd=1/\okc (s.data.toList.getD pos 0)=true):=g1;have HG2:Hid (¬okn c->okc (s.data.toList.getD pos 0)=false):=g2;have HL:Hid (¬(s.data.toList.length<1\/12<s.data.toList.length)):=hlen;have HA:Hid (∀i,i<pos->okc (s.data.toList.getD i 0)=true):=hall;clear g1 g2 hlen hall
    go_wp2
    all_goals (try simp only[bne_iff_ne,bne_eq_false_iff_eq,ne_eq]at*)
    all_goals first
     |(
      have hk:okn c:=by unfold okn;omega
      obtain⟨rfl,h1⟩:=HG1.out hk
      go_roundw
      case rel=>
       refine⟨pos+1,rfl,by omega,fun i hi=> ?_⟩;rcases bO i pos with h2|h2
       ·exact HA.out i h2
       ·have:i=pos:=by omega
        rw[this];exact h1
      case measure=>simp;omega)
     |(
      have hk:¬okn c:=by unfold okn;omega
      have h1:=HG2.out hk
      go_ret
      refine⟨?_,oU _ _ _⟩
      have:nameB s.data.toList=false:=by unfold nameB;rw[if_neg HL.out,List.all_eq_false];refine⟨s.data.toList.getD pos 0, ?_,by rw[h1];simp⟩;rw[aa,ac (by simpa using hp)];exact bo _
      rw[this];rfl)
   ·have hnx:∀ty,(Instr.next (.pointer (some ⟨w.heap.size,0,none⟩)) true ty).run Tryz.prog (w.iter s pos)=_:=fun ty=>run_next_end w s pos ty hp
    have HL:Hid (¬(s.data.toList.length<1\/12<s.data.toList.length)):=hlen;have HA:Hid (∀i,i<pos->okc (s.data.toList.getD i 0)=true):=hall;clear hlen hall
    go_wp2
    go_ret
    refine⟨?_,oU _ _ _⟩
    have:nameB s.data.toList=true:=by unfold nameB;rw[if_neg HL.out,aV];intro b hb;obtain⟨i,hi,rfl⟩:=bn hb;have:=HA.out i (by have:=kd s;omega);rwa[aa,ac hi]at this
    rw[this];rfl
 ·go_ret
  refine⟨?_,Below.refl _ _⟩;have:s.data.toList.length<1\/12<s.data.toList.length:=by rw[kd];omega
  unfold nameB;rw[if_pos this];rfl
def p83:List SV->List aC->Nat->Option dv
 |[.byt a _,.byt b _],[],0=>some ⟨.int .i64 (Lib.compareBytes a b),[],[]⟩
 |_,_,_=>none
def p191:List SV->List aC->Nat->Option dv
 |[.str a,.str b],[],0=>some ⟨.int .i64 (Lib.compareBytes a b),[],[]⟩
 |_,_,_=>none
def p189:List SV->List aC->Nat->Option dv
 |[.str a],[],0=>some ⟨.bool (nameB a),[],[]⟩
 |_,_,_=>none
def p202:List SV->List aC->Nat->Option dv
 |[.byt a _,.u8 c],[],0=>some ⟨.int .i64 (xdB a c),[],[]⟩
 |_,_,_=>none
theorem repL2{x:Sit}{a b:SV}{vs:List Value}(h:cj x [a,b] vs):∃u v,vs=[u,v]/\Rep x a u/\Rep x b v:=by
 match vs,h with
 |[u,v],h=>exact⟨u,v,rfl,h.2 0 (by simp),h.2 1 (by simp)⟩
 |[],h=>simp[cj]at h
 |[_],h=>simp[cj]at h
 |_::_::_::_,h=>simp[cj]at h
theorem NM{x:Sit}{a:SV}{vs:List Value}(h:cj x [a] vs):∃u,vs=[u]/\Rep x a u:=by
 match vs,h with
 |[u],h=>exact⟨u,rfl,h.2 0 (by simp)⟩
 |[],h=>simp[cj]at h
 |_::_::_,h=>simp[cj]at h
theorem p83_ok:∀ar os k q,p83 ar os k=some q->fz Tryz.prog 83 ar os k (· =q):=by
 intro ar os k q h;unfold p83 at h;split at h
 ·cases h
  refine je (by kernel_rfl) fun x w vs hr hp=> ?_
  obtain⟨u,v,rfl,h1,h2⟩:=repL2 hr;refine(w83 w _ _ u v (kV h1 hp) (kV h2 hp)).mono ?_;rintro e w' ⟨rfl,rfl⟩;exact⟨_,rfl,.dat _ _ (.int _ _) trivial,Below.refl _ _⟩
 ·cases h
theorem p202_ok:∀ar os k q,p202 ar os k=some q->fz Tryz.prog 202 ar os k (· =q):=by
 intro ar os k q h;unfold p202 at h;split at h
 ·cases h
  refine je (by kernel_rfl) fun x w vs hr hp=> ?_
  obtain⟨u,v,rfl,h1,h2⟩:=repL2 hr;obtain rfl:=xeh h2;refine(xkd w _ _ u (kV h1 hp)).mono ?_;rintro e w' ⟨rfl,rfl⟩;exact⟨_,rfl,.dat _ _ (.int _ _) trivial,Below.refl _ _⟩
 ·cases h
theorem p191_ok:∀ar os k q,p191 ar os k=some q->fz Tryz.prog 191 ar os k (· =q):=by
 intro ar os k q h;unfold p191 at h;split at h
 ·cases h
  refine je (by kernel_rfl) fun x w vs hr hp=> ?_
  obtain⟨u,v,rfl,h1,h2⟩:=repL2 hr;obtain rfl:=x8 h1;obtain rfl:=x8 h2;refine(xke w _ _).mono ?_;rintro e w' ⟨rfl,rfl⟩;exact⟨_,rfl,.dat _ _ (.int _ _) trivial,Below.refl _ _⟩
 ·cases h
theorem p189_ok:∀ar os k q,p189 ar os k=some q->fz Tryz.prog 189 ar os k (· =q):=by
 intro ar os k q h;unfold p189 at h;split at h
 ·cases h
  refine je (by kernel_rfl) fun x w vs hr hp=> ?_
  obtain⟨u,rfl,h1⟩:=NM hr;obtain rfl:=x8 h1;refine(xkf w _).mono ?_;rintro e w' ⟨rfl,hb⟩;exact⟨_,rfl,.dat _ _ (.bool _) trivial,hb⟩
 ·cases h
end Pr
end Go.Proofs.YtbfnljmmepcbfaaGreatDoor