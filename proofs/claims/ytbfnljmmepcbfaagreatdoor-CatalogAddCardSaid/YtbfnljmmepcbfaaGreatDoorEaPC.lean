/- A sound engine for Go code. No condition. -/
import Derived.WalkKit
import Derived.ChangeKeysEq
import Derived.Laws.StructEq
import Derived.Laws.Externs
import Derived.Orders
open Array renaming ext' -> eI, getD -> ll, getD_eq_getD_getElem? -> aS, getElem?_append_left -> cy, getElem?_eq_getElem -> cB, getElem?_toList -> db, length_toList -> aW, replicate -> eT, size_append -> cV
open Bool renaming and_eq_true -> aD, eq_iff_iff -> fE, false_eq_true -> aO, not_eq_true' -> dj
open Go.Instr renaming buildSlice -> eE
open Int renaming fdiv_eq_ediv_of_nonneg -> je, tmod_eq_emod_of_nonneg -> fq
open Go.IntKind renaming i64 -> af, u8 -> gg, wrap_i64 -> dA
open List renaming Nodup -> Ae, Pairwise -> fO, Sublist -> pe, all_eq_true -> bf, append_assoc -> ay, append_nil -> bA, drop_eq_nil_of_le -> bT, drop_take -> fW, drop_zero -> bj, filter_cons -> fT, flatMap_cons -> ek, flatten_append -> cg, flatten_cons -> cK, foldl_cons -> ez, getD_cons_succ -> jk, getD_eq_getElem?_getD -> aa, getElem?_append_left -> bt, getElem?_append_right -> bD, getElem?_drop -> bB, getElem?_eq_getElem -> ac, getElem?_eq_none -> ib, getElem?_map -> aU, getElem?_range -> cC, getElem?_set -> ik, getElem?_take -> bS, getElem?_toArray -> dh, getElem_mem -> bv, getElem_of_mem -> bg, length_append -> ae, length_cons -> al, length_drop -> aE, length_eq_zero_iff -> b8, length_map -> aV, length_nil -> aB, length_replicate -> dG, length_set -> nE, length_singleton -> aG, length_take -> an, map_append -> co, map_cons -> aI, map_nil -> bO, map_take -> fN, mem_append -> am, mem_cons -> av, mem_cons_of_mem -> aw, mem_cons_self -> aA, mem_map -> aZ, mem_map_of_mem -> ji, mem_of_mem_drop -> cH, mem_of_mem_take -> bF, mem_range -> dt, mem_singleton -> bq, nil_append -> aF, nodup_cons -> dR, pairwise_iff_getElem -> cD, pairwise_map -> ii, range -> bC, range' -> tC, replicate -> aL, size_toArray -> ce, take_append_drop -> cT, take_length -> dy, take_of_length_le -> aT
open Nat renaming add_assoc -> fo, add_mul -> bH, add_zero -> fm, div_eq_of_lt -> BL, eq_zero_or_pos -> ic, le_refl -> aK, le_trans -> mE, lt_or_ge -> bQ, min_eq_left -> fP, mod_eq_of_lt -> ct, mod_lt -> vq, mul_comm -> cS, mul_le_mul_right -> bo, mul_one -> dq, sub_self -> sI, succ_mul -> ed, zero_add -> bY, zero_le -> aY, zero_mul -> iq
open Go.Op renaming bytesLess -> bN, intCmp -> sH
open Option renaming bind_some -> dp, getD_some -> aM, ite_none_right_eq_some -> aJ, map_eq_some_iff -> ah, map_some -> bE, some -> ax
open Prod renaming fst -> cW, mk -> bG
open Go.Result renaming andThen_ok -> aq
open Go.Sem renaming run_bind -> aC, run_pure -> aN
open UInt8 renaming ofInt -> cf, ofNat -> ip
set_option linter.unusedVariables false
set_option linter.unusedSimpArgs false
set_option linter.unnecessarySimpa false
set_option linter.unusedSectionVars false
namespace Go.Sy
abbrev d9:=List UInt8
abbrev t8:=List Nat
abbrev LAa:=Option Nat
abbrev LAb:=List Value
abbrev LAc:=Array Value
abbrev LAf:=Exit->Act->World->Prop
abbrev LBa:=Act->World->Prop
inductive Tok where
 |no
 |clip
 |id (t:Nat)
 deriving DecidableEq
inductive SV where
 |undef
 |bool (b:Bool)
 |int (k:IntKind) (n:Int)
 |u8 (b:UInt8)
 |str (l:List UInt8)
 |byt (l:List UInt8) (t:Tok)
 |lst (sz:Nat) (xs:List (List SV)) (t:Tok)
 |nilp
 |nili
 |pp (cs:List SV)
 |ptr (o off:Nat)
 |ap (o sz i j:Nat)
 |psl (o sz off n:Nat) (cap:Option Nat)
 |agg (cs:List SV)
 |tup (vs:List SV)
 |fn (f:Nat) (first cap:List SV)
 deriving Inhabited
abbrev f8:=List SV
abbrev d8:=List (List SV)
inductive aH where
 |rc (cs:List SV)
 |arr (sz:Nat) (xs:List (List SV))
 |bar (l:List UInt8)
def aH.size:aH->Nat
 | .rc cs=>cs.length
 | .arr y E=>E.length*y
 | .bar l=>l.length
def aH.cell:aH->Nat->SV
 | .rc cs,k=>cs.getD k .undef
 | .arr sz xs,k=>(xs.getD (k/sz) []).getD (k % sz) .undef
 | .bar l,k=> .u8 (l.getD k 0)
def aH.arrB:aH->Bool
 | .arr _ _=>true
 |_=>false
abbrev GM:=Nat->Nat->Option Value
structure Sit where
 G:GM
 bk:Nat->Nat×Nat
 τ:Nat->Nat×Nat×Nat
inductive cR(G:GM):SV->Value->Prop
 |bool (b:Bool):cR G (.bool b) (.bool b)
 |int (k:IntKind) (n:Int):cR G (.int k n) (.int k n)
 |u8 (b:UInt8):cR G (.u8 b) (.int .u8 b.toNat)
 |str (l:List UInt8):cR G (.str l) (.string ⟨⟨l⟩⟩)
 |nilp:cR G .nilp (.pointer none)
 |nili:cR G .nili .nilIface
 |bytN (t:Tok):cR G (.byt [] t) (.slice none 0 0)
 |bytE (t:Tok) (a:Addr):cR G (.byt [] t) (.slice (some a) 0 0)
 |byt (l:List UInt8) (t:Tok) (b off cap n:Nat) (hn:n=l.length) (hc:n<=cap)
  (h:∀i,i<n->G b (off+i)=some (.int .u8 (l.getD i 0).toNat)):cR G (.byt l t) (.slice (some ⟨b,off,none⟩) n cap)
 |lstN (sz:Nat) (t:Tok):cR G (.lst sz [] t) (.slice none 0 0)
 |lstE (sz:Nat) (t:Tok) (a:Addr):cR G (.lst sz [] t) (.slice (some a) 0 0)
 |lst (sz:Nat) (xs:List (List SV)) (t:Tok) (b off cap n:Nat) (val:Nat->Nat->Value) (hn:n=xs.length) (hc:n<=cap)
  (hl:∀i,i<n->(xs.getD i []).length=sz)
  (hg:∀i j,i<n->j<sz->G b (off+i*sz+j)=some (val i j))
  (h:∀i j,i<n->j<sz->cR G ((xs.getD i []).getD j .undef) (val i j)):cR G (.lst sz xs t) (.slice (some ⟨b,off,none⟩) n cap)
 |pp (cs:List SV) (b off:Nat) (val:Nat->Value) (hg:∀j,j<cs.length->G b (off+j)=some (val j))
  (h:∀j,j<cs.length->cR G (cs.getD j .undef) (val j)):cR G (.pp cs) (.pointer (some ⟨b,off,none⟩))
class bx where
 cells:Nat->Option (List SV)
variable [bx]
def Lay(G:GM):Prop:=∀g cs,bx.cells g=some cs->∀j,j<cs.length->∃v,G g j=some v/\cR G (cs.getD j .undef) v
def dP(x:Sit)(y:Nat)(t:Tok)(v:Value):Prop:=
 match t with
 | .no=>True
 | .clip=>∃a n,v= .slice a n n
 | .id t=>∃a n cap,v= .slice a n cap/\(cap=n\/∃b off,a=some ⟨b,off,none⟩/\x.τ t=(b,off+n*y,off+cap*y))
def U4(x:Sit):SV->Value->Prop
 | .byt _ t,v=>dP x 1 t v
 | .lst sz _ t,v=>dP x sz t v
 |_,_=>True
inductive Rep(x:Sit):SV->Value->Prop
 |undef (v:Value):Rep x .undef v
 |dat (s:SV) (v:Value) (h:cR x.G s v) (ht:U4 x s v):Rep x s v
 |ptr (o off:Nat):Rep x (.ptr o off) (.pointer (some ⟨(x.bk o).1,off,none⟩))
 |ap (o sz i j:Nat):Rep x (.ap o sz i j) (.pointer (some ⟨(x.bk o).1,i*sz+j,none⟩))
 |psl (o sz off n:Nat) (cap:Option Nat) (off' cap':Nat) (h:cap'=0\/off'=off*sz) (hn:n<=cap') (hc:∀c,cap=some c->c=cap') (hk:cap=none->cap'=0\/off'+cap'*sz<=(x.bk o).2):Rep x (.psl o sz off n cap) (.slice (some ⟨(x.bk o).1,off',none⟩) n cap')
 |agg (cs:List SV) (vs:List Value) (hl:cs.length=vs.length) (h:∀i,i<cs.length->Rep x (cs.getD i .undef) (vs.getD i undef)):Rep x (.agg cs) (.agg ⟨vs⟩)
 |tup (cs:List SV) (vs:List Value) (hl:cs.length=vs.length) (h:∀i,i<cs.length->Rep x (cs.getD i .undef) (vs.getD i undef)):Rep x (.tup cs) (.tuple ⟨vs⟩)
 |fn (f:Nat) (c1 c2:List SV) (v1 v2:List Value) (hl1:c1.length=v1.length) (h1:∀i,i<c1.length->Rep x (c1.getD i .undef) (v1.getD i undef))
  (hl2:c2.length=v2.length) (h2:∀i,i<c2.length->Rep x (c2.getD i .undef) (v2.getD i undef)):Rep x (.fn f c1 c2) (.func (.func f) ⟨v1⟩ ⟨v2⟩)
def cL(x:Sit)(cs:f8)(vs:LAb):Prop:=cs.length=vs.length/\∀i,i<cs.length->Rep x (cs.getD i .undef) (vs.getD i undef)
structure St where
 tm:List SV
 ob:List (Nat×aH)
 tk:List Nat
structure Ctx where
 w0:World
 G0:GM
 mine:Nat->Prop
 β0:Nat->Nat×Nat
def eQ(w:World)(b:Nat)(c:LAc)(e:TypeId)(fl fh:Nat):Prop:=
 w.heap[b]? =some (.cells c e (fl,fh))/\∀i,i<c.size->¬(fl<=i/\i<fh)
def cA(x:Sit)(obj:aH)(k:Nat)(v:Value):Prop:=
 match obj with
 | .rc cs=>Rep x (cs.getD k .undef) v
 |obj=>cR x.G (obj.cell k) v
def ey(x:Sit)(w:World)(o:Nat)(obj:aH):Prop:=
 ∃c e fl fh,eQ w ((x.bk o).1) c e fl fh/\(obj.size<=c.size/\(x.bk o).2<=c.size/\(obj.arrB=true->¬(fl<=c.size/\c.size<fh)))/\∀k,k<obj.size->cA x obj k (c.getD k undef)
def iU(x:Sit)(w:World)(mine:Nat->Prop)(t:Nat):Prop:=
 (x.τ t).2.1=(x.τ t).2.2\/
 ((∃c e fl fh,eQ w (x.τ t).1 c e fl fh/\(x.τ t).2.2<=c.size)/\mine (x.τ t).1/\∀o,(x.τ t).2.1<=o->o<(x.τ t).2.2->x.G (x.τ t).1 o=none)
def mD(p q:Nat×Nat×Nat):Prop:=p.1≠q.1
structure dl(C:Ctx)(x:Sit)(ob:List (Nat×aH))(tk:List Nat)(w:World):Prop where
 per:∀b o v,x.G b o=some v->w.cell? ⟨b,o,none⟩=some v
 g0:∀b o v,C.G0 b o=some v->x.G b o=some v
 gm:∀b o v,x.G b o=some v->C.G0 b o=some v\/C.mine b
 new:∀b,C.w0.heap.size<=b->C.mine b
 obs:∀p∈ob,ey x w p.1 p.2/\C.mine ((x.bk p.1).1)/\∀off,x.G ((x.bk p.1).1) off=none
 nd:(ob.map cW).Nodup
 inj:∀p∈ob,∀q∈ob,(x.bk p.1).1=(x.bk q.1).1->p.1=q.1
 tks:∀t∈tk,iU x w C.mine t
 tko:∀t∈tk,∀p∈ob,(x.τ t).1≠(x.bk p.1).1\/(x.τ t).2.1=(x.τ t).2.2
 tkd:∀t∈tk,∀u∈tk,t≠u->mD (x.τ t) (x.τ u)\/(x.τ t).2.1=(x.τ t).2.2\/(x.τ u).2.1=(x.τ u).2.2
 os:w.os=C.w0.os
 tape:w.tape=C.w0.tape
 output:w.output=C.w0.output
 size:C.w0.heap.size<=w.heap.size
 ext:∀b,¬C.mine b->w.heap[b]? =C.w0.heap[b]?
 pin:∀i,i<100->x.bk i=C.β0 i
 lay:Lay C.G0
structure aR(C:Ctx)(x:Sit)(s:St)(a:Act)(w:World):Prop where
 tm:cL x s.tm a.tmps.toList
 defers:a.defers=[]
 heap:dl C x s.ob s.tk w
end Go.Sy
namespace Go.Sy
variable [bx]
inductive Arg where
 |t (n:Nat)
 |c (v:SV)
 |f (g:Nat)
inductive SOp where
 |mov (x:Arg)
 |pick (c a b:Arg)
 |new (o:aH)
 |box (x:Arg)
 |build (z:List SV) (ps:List (Nat×Nat×Arg))
 |lit (sz:Nat) (xs:List Arg)
 |litB (xs:List Arg)
 |load (n:Nat) (ag:Bool) (a:Arg)
 |store (n:Nat) (a x:Arg)
 |nchk (x:Arg)
 |bin (op:BinOp) (x y:Arg)
 |beq (ne:Bool) (x y:Arg)
 |un (op:UnOp) (x:Arg)
 |toInt (k:IntKind) (x:Arg)
 |toStr (x:Arg)
 |s2b (x:Arg)
 |b2s (x:Arg)
 |mkfn (f:Nat) (first cap:List Arg)
 |mk (z:List SV) (bytes:Nat) (len cap:Arg)
 |mkB (len cap:Arg)
 |slcS (x:Arg) (lo hi:Option Arg)
 |slcL (sz:Nat) (x:Arg) (lo hi mx:Option Arg)
 |slcA (len sz:Nat) (x:Arg) (lo hi mx:Option Arg)
 |faddr (off:Nat) (x:Arg)
 |fld (off n:Nat) (ag:Bool) (x:Arg)
 |iaddrL (sz:Nat) (x i:Arg)
 |iaddrA (len sz:Nat) (x i:Arg)
 |idxA (len sz:Nat) (ag:Bool) (x i:Arg)
 |idxS (x i:Arg)
 |ext (x:Arg) (i:Nat)
 |len (str:Bool) (x:Arg)
 |lenC (n:Nat)
 |cap (x:Arg)
 |app (z:List SV) (bytes:Nat) (x y:Arg)
 |appM (z:List SV) (bytes:Nat) (x k:Arg)
 |appO (z:List SV) (bytes:Nat) (x y:Arg)
 |eqS (ne:Bool) (ts:List Nat) (x y:Arg)
 |isnil (ne:Bool) (x:Arg)
 |isni (ne:Bool) (x:Arg)
 |slid (x:Arg)
 |newB (xs:List Arg)
 |ovl (x y:Arg)
 |cpy (sz:Nat) (x y:Arg)
 |clr (z:List SV) (x:Arg)
 |mini (x y:Arg)
 |maxi (x y:Arg)
 |call (f:Arg) (args:List Arg)
structure SI where
 dst:Option Nat
 g:Option (Nat×Bool)
 op:SOp
abbrev LAd:=List SI
inductive gI where
 |skip
 |ops (l:List SI)
 |drw (b ds:List Nat) (l:List SI)
 |seq (a b:gI)
 |cond (c:Arg) (a b:gI)
 |block (id:Nat) (b:gI)
 |loop (b:gI)
 |exit (id:Nat)
 |ret
 |bad
def St.get(s:St)(n:Nat):SV:=s.tm.getD n .undef
def St.ev(s:St):Arg->SV
 | .t n=>s.get n
 | .c v=>v
 | .f g=> .fn g [] []
def St.put(s:St)(d:LAa)(v:SV):St:=
 match d with
 |some d=> {s with tm:=s.tm.set d v}
 |none=>s
def St.look(s:St)(o:Nat):Option aH:=s.ob.lookup o
def Tok.purge(lo hi:Nat):Tok->Tok
 | .id t=>if lo<=t/\t<hi then .no else .id t
 |t=>t
mutual
def SV.purge(lo hi:Nat):SV->SV
 | .byt l t=> .byt l (t.purge lo hi)
 | .lst y E t=> .lst y E (t.purge lo hi)
 | .ptr o off=>if lo<=o/\o<hi then .undef else .ptr o off
 | .ap o y i j=>if lo<=o/\o<hi then .undef else .ap o y i j
 | .psl o y off n cap=>if lo<=o/\o<hi then .undef else .psl o y off n cap
 | .agg cs=> .agg (SV.purgeL lo hi cs)
 | .tup cs=> .tup (SV.purgeL lo hi cs)
 | .fn f a b=> .fn f (SV.purgeL lo hi a) (SV.purgeL lo hi b)
 |v=>v
def SV.purgeL(lo hi:Nat):f8->f8
 |[]=> []
 |v::r=>v.purge lo hi::SV.purgeL lo hi r
end
def aH.purge(lo hi:Nat):aH->aH
 | .rc cs=> .rc (SV.purgeL lo hi cs)
 | .arr y E=> .arr y E
 | .bar l=> .bar l
def bW(lo hi:Nat):List (Nat×aH)->List (Nat×aH)
 |[]=> []
 |p::r=>if lo<=p.1/\p.1<hi then bW lo hi r else(p.1,p.2.purge lo hi)::bW lo hi r
def cP(lo hi:Nat):t8->t8
 |[]=> []
 |t::r=>if lo<=t/\t<hi then cP lo hi r else t::cP lo hi r
def St.purge(s:St)(lo hi:Nat):St:= {tm:=SV.purgeL lo hi s.tm,ob:=bW lo hi s.ob,tk:=cP lo hi s.tk}
def St.addO(s:St)(d:Nat)(o:aH):St:= {s with ob:=(d,o)::s.ob}
def setO(d:Nat)(o:aH):List (Nat×aH)->List (Nat×aH)
 |[]=> []
 |p::r=>if p.1=d then(d,o)::r else p::setO d o r
def St.setO(s:St)(d:Nat)(o:aH):St:= {s with ob:=Sy.setO d o s.ob}
def SV.data:SV->SV
 | .byt l _=> .byt l .no
 | .lst y E _=> .lst y E .no
 |v=>v
def SV.isData:SV->Bool
 | .bool _| .int _ _| .u8 _| .str _| .byt _ _| .lst _ _ _| .nilp| .nili| .pp _=>true
 |_=>false
def SV.cells:SV->f8
 | .agg cs=>cs
 | .undef=> []
 |v=> [v]
def SV.isDef:SV->Bool
 | .undef=>false
 |_=>true
def VX(op:BinOp)(a b:Int):Option SV:=
 match op with
 | .eql=>some (.bool (decide (a=b)))
 | .neq=>some (.bool (decide (a≠b)))
 | .lss=>some (.bool (decide (a<b)))
 | .leq=>some (.bool (decide (a<=b)))
 | .gtr=>some (.bool (decide (b<a)))
 | .geq=>some (.bool (decide (b<=a)))
 |_=>none
def cx(op:BinOp)(k:IntKind)(x y:Int):Int:=
 let a:=BitVec.ofInt k.bits x
 let b:=BitVec.ofInt k.bits y
 k.wrap (match op with| .and=>a&&&b| .or=>a|||b| .xor=>a^^^b|_=>a&&& ~~~b:BitVec k.bits).toNat
def Z8(op:BinOp)(k:IntKind)(a b:Int):Option (Prop×SV):=
 match op with
 | .add=>some (True,.int k (k.wrap (a+b)))
 | .sub=>some (True,.int k (k.wrap (a-b)))
 | .mul=>some (True,.int k (k.wrap (a*b)))
 | .quo=>some (b≠0,.int k (k.wrap (a.tdiv b)))
 | .rem=>some (b≠0,.int k (a.tmod b))
 | .and=>some (True,.int k (cx .and k a b))
 | .or=>some (True,.int k (cx .or k a b))
 | .xor=>some (True,.int k (cx .xor k a b))
 | .andNot=>some (True,.int k (cx .andNot k a b))
 | .shl| .shr=>none
 |op=>(VX op a b).map fun v=>(True,v)
def Ix(op:BinOp)(a b:UInt8):Option (Prop×SV):=
 match op with
 | .add=>some (True,.u8 (a+b))
 | .sub=>some (True,.u8 (a-b))
 | .mul=>some (True,.u8 (a*b))
 | .quo=>some (b≠0,.u8 (a/b))
 | .rem=>some (b≠0,.u8 (a % b))
 | .and=>some (True,.u8 (a&&&b))
 | .or=>some (True,.u8 (a|||b))
 | .xor=>some (True,.u8 (a^^^b))
 | .andNot=>some (True,.u8 (a&&& ~~~b))
 | .eql=>some (True,.bool (decide (a=b)))
 | .neq=>some (True,.bool (decide (a≠b)))
 | .lss=>some (True,.bool (decide (a<b)))
 | .leq=>some (True,.bool (decide (a<=b)))
 | .gtr=>some (True,.bool (decide (b<a)))
 | .geq=>some (True,.bool (decide (b<=a)))
 |_=>none
def xL(op:BinOp)(k:IntKind)(a b:Int):Option (Prop×SV):=
 match op with
 | .shl=>some (0<=b,.int k (k.wrap (a*2^(min b.toNat k.bits))))
 | .shr=>some (0<=b,.int k (a.fdiv (2^(min b.toNat k.bits))))
 |_=>none
def xbj(op:BinOp)(a:UInt8)(b:Int):Option (Prop×SV):=
 match op with
 | .shl=>some (0<=b,.u8 (ip (a.toNat*2^(min b.toNat 8))))
 | .shr=>some (0<=b,.u8 (ip (a.toNat/2^(min b.toNat 8))))
 |_=>none
def xbp(op:BinOp)(a b:d9):Option (Prop×SV):=
 match op with
 | .add=>some (a.length+b.length<=9223372036854775807,.str (a++b))
 | .eql=>some (True,.bool (decide (a=b)))
 | .neq=>some (True,.bool (decide (a≠b)))
 | .lss=>some (True,.bool (bN a b))
 | .leq=>some (True,.bool (bN a b||decide (a=b)))
 | .gtr=>some (True,.bool (!(bN a b||decide (a=b))))
 | .geq=>some (True,.bool (!bN a b))
 |_=>none
def Bx(op:BinOp):SV->SV->Option (Prop×SV)
 | .int k a,.int k' b=>
  match op with
  | .shl=>xL .shl k a b
  | .shr=>xL .shr k a b
  |op=>if k=k' then Z8 op k a b else none
 | .u8 a,.int _ b=>xbj op a b
 | .u8 a,.u8 b=>Ix op a b
 | .str a,.str b=>xbp op a b
 |_,_=>none
def Ah(op:UnOp):SV->Option SV
 | .bool b=>match op with| .not=>some (.bool (!b))|_=>none
 | .int k n=>match op with
  | .neg=>some (.int k (k.wrap (0-n)))
  | .xor=>some (.int k (cx .xor k (if k.signed then-1 else k.max) n))
  |_=>none
 |_=>none
def iV(k:IntKind):SV->Option SV
 | .int _ n=>match k with| .u8=>some (.u8 (cf n))|k=>some (.int k (k.wrap n))
 | .u8 b=>match k with| .u8=>some (.u8 b)| .i8=>none|k=>some (.int k b.toNat)
 |_=>none
def lc(b:Bool):SV->LAa
 | .str l=>if b then some l.length else none
 | .byt l _=>if b then none else some l.length
 | .lst _ y _=>if b then none else some y.length
 | .psl _ _ _ n _=>if b then none else some n
 |_=>none
def eh(y:Bool)(n:Nat)(cs:f8):SV:=if y then .agg (cs.take n)else cs.getD 0 .undef
def jA(s:St)(n:Nat)(E:Bool):SV->Option (Prop×SV)
 | .pp cs=>some (n<=cs.length,eh E n (cs.map SV.data))
 | .ptr o off=>match s.look o with
  |some (.rc cs)=>some (off+n<=cs.length,eh E n (cs.drop off))
  |some (.arr y xs)=>if off=0 then some (n<=xs.flatten.length/\(∀x∈xs,x.length=y),eh E n (xs.flatten.map SV.data))else none
  |some (.bar l)=>if off=0 then some (n<=l.length,eh E n (l.map .u8))else none
  |none=>none
 | .ap o y i j=>match s.look o with
  |some (.arr sz' xs)=>some (y=sz'/\i<xs.length/\j+n<=y/\(xs.getD i []).length=y,eh E n (((xs.getD i []).drop j).map SV.data))
  |some (.bar l)=>some (y=1/\j=0/\n=1/\i<l.length,eh E n [.u8 (l.getD i 0)])
  |_=>none
 |_=>none
def SV.num:SV->Option Int
 | .int _ n=>some n
 | .u8 b=>some b.toNat
 |_=>none
def jx(s:St)(x:Option Arg)(y:Int):Option Int:=
 match x with
 |none=>some y
 |some a=>(s.ev a).num
def ni(t:Tok)(y clip:Bool):Tok:=if clip then .clip else if y then t else .no
def kp(s:St)(F:Nat)(x:SV)(lo hi E:Option Arg):Option (Prop×SV):=
 match x with
 | .byt l t=>
  match jx s lo 0,jx s hi l.length,jx s E l.length with
  |some a,some b,some c=>some (0<=a/\a<=b/\b<=c/\c<=l.length/\F=1/\(E.isSome=true->b=c),.byt ((l.take b.toNat).drop a.toNat) (ni t hi.isNone E.isSome))
  |_,_,_=>none
 | .lst y l t=>
  match jx s lo 0,jx s hi l.length,jx s E l.length with
  |some a,some b,some c=>some (0<=a/\a<=b/\b<=c/\c<=l.length/\F=y/\(E.isSome=true->b=c),.lst F ((l.take b.toNat).drop a.toNat) (ni t hi.isNone E.isSome))
  |_,_,_=>none
 | .psl o y off n none=>
  match jx s lo 0,jx s hi n,E with
  |some a,some b,none=>some (0<=a/\a<=b/\b<=n/\F=y,.psl o F (off+a.toNat) (b.toNat-a.toNat) none)
  |_,_,_=>none
 | .psl o y off n (some cap)=>
  match jx s lo 0,jx s hi n,jx s E cap with
  |some a,some b,some c=>some (0<=a/\a<=b/\b<=c/\c<=cap/\F=y,.psl o F (off+a.toNat) (b.toNat-a.toNat) (some (c.toNat-a.toNat)))
  |_,_,_=>none
 |_=>none
def jF(cs:f8):List (Nat×Nat×SV)->Option f8
 |[]=>some cs
 |(off,n,v)::r=>if v.isDef=true/\v.cells.length=n/\off+n<=cs.length then jF (cs.take off++v.cells++cs.drop (off+n)) r else none
def toB:f8->Option d9
 |[]=>some []
 | .u8 b::r=>(toB r).map (b:: ·)
 |_::_=>none
def rows(y:Nat):f8->Option d8
 |[]=>some []
 |v::r=>if v.isDef=true/\v.cells.length=y/\v.cells.all SV.isData=true then(rows y r).map (v.cells.map SV.data:: ·)else none
def By(s:St):SV->Option (Prop×SV)
 | .byt l _=>some (True,.str l)
 | .psl o y off n _=>match s.look o with
  |some (.bar l)=>some (y=1/\off+n<=l.length,.str ((l.drop off).take n))
  |_=>none
 |_=>none
def xQ:Nat->SV->SV->Option Bool
 |0,.bool a,.bool b=>some (decide (a=b))
 |1,.int k a,.int k' b=>if k=k' then some (decide (a=b))else none
 |1,.u8 a,.u8 b=>some (decide (a=b))
 |2,.str a,.str b=>some (decide (a=b))
 |_,_,_=>none
def iA:t8->f8->f8->Option Bool
 |[],[],[]=>some true
 |t::ts,a::r,b::s=>match xQ t a b,iA ts r s with
  |some p,some q=>some (p&&q)
  |_,_=>none
 |_,_,_=>none
def val(s:St):SOp->Option (Prop×SV)
 | .mov x=>some (True,s.ev x)
 | .build z Q=>(jF z (Q.map fun(o,n,x)=>(o,n,s.ev x))).map fun cs=>(True,.agg cs)
 | .lit E F=>(rows E (F.map s.ev)).map fun r=>(True,.lst E r .clip)
 | .litB F=>(toB (F.map s.ev)).map fun r=>(True,.byt r .clip)
 | .load n J a=>jA s n J (s.ev a)
 | .nchk x=>match s.ev x with
  | .ptr o off=>some (True,.ptr o off)
  | .ap o E i j=>some (True,.ap o E i j)
  | .pp cs=>some (True,.pp cs)
  | .fn f a b=>some (True,.fn f a b)
  |_=>none
 | .bin op x y=>Bx op (s.ev x) (s.ev y)
 | .beq I x y=>match s.ev x,s.ev y with
  | .bool a,.bool b=>some (True,.bool (if I then decide (a≠b)else decide (a=b)))
  |_,_=>none
 | .eqS I O x y=>match s.ev x,s.ev y with
  | .agg cs,.agg ds=>(iA O cs ds).map fun b=>(True,.bool (if I then !b else b))
  |_,_=>none
 | .un op x=>(Ah op (s.ev x)).map (True,·)
 | .toInt k x=>(iV k (s.ev x)).map (True,·)
 | .toStr x=>match s.ev x with| .str l=>some (True,.str l)|_=>none
 | .slid _=>none
 | .newB _=>none
 | .isni I x=>match s.ev x with| .nili=>some (True,.bool (!I))|_=>none
 | .s2b x=>match s.ev x with| .str l=>some (True,.byt l .no)|_=>none
 | .b2s x=>By s (s.ev x)
 | .mkfn f a b=>some (True,.fn f (a.map s.ev) (b.map s.ev))
 | .slcS x lo hi=>match s.ev x with
  | .str l=>match jx s lo 0,jx s hi l.length with
   |some a,some b=>some (0<=a/\a<=b/\b<=l.length,.str ((l.take b.toNat).drop a.toNat))
   |_,_=>none
  |_=>none
 | .slcL E x lo hi L=>kp s E (s.ev x) lo hi L
 | .slcA len E x lo hi L=>match s.ev x with
  | .ptr o 0=>kp s E (.psl o E 0 len (some len)) lo hi L
  |_=>none
 | .faddr off x=>match s.ev x with
  | .ptr o k=>some (True,.ptr o (k+off))
  | .ap o E i j=>some (True,.ap o E i (j+off))
  | .pp cs=>some (True,.pp (cs.drop off))
  |_=>none
 | .fld off n J x=>match s.ev x with
  | .agg cs=>some (off+n<=cs.length,eh J n (cs.drop off))
  |_=>none
 | .iaddrL E x i=>match s.ev x,(s.ev i).num with
  | .byt l _,some n=>some (0<=n/\n<l.length/\E=1,.pp [.u8 (l.getD n.toNat 0)])
  | .lst sz' F _,some n=>some (0<=n/\n<F.length/\E=sz',.pp (F.getD n.toNat []))
  | .psl o sz' off k _,some n=>some (0<=n/\n<k/\E=sz',.ap o E (off+n.toNat) 0)
  |_,_=>none
 | .iaddrA len E x i=>match s.ev x,(s.ev i).num with
  | .ptr o off,some n=>match s.look o with
   |some (.rc _)=>some (0<=n/\n<len,.ptr o (off+n.toNat*E))
   |some _=>if off=0 then some (0<=n/\n<len,.ap o E n.toNat 0)else none
   |none=>none
  | .pp cs,some n=>some (0<=n/\n<len/\cs.length=len*E,.pp (cs.drop (n.toNat*E)))
  |_,_=>none
 | .idxA len E J x i=>match s.ev x,(s.ev i).num with
  | .agg cs,some n=>some (0<=n/\n<len/\cs.length=len*E,eh J E (cs.drop (n.toNat*E)))
  |_,_=>none
 | .idxS x i=>match s.ev x,(s.ev i).num with
  | .str l,some n=>some (0<=n/\n<l.length,.u8 (l.getD n.toNat 0))
  |_,_=>none
 | .ext x i=>match s.ev x with
  | .tup vs=>some (i<vs.length,vs.getD i .undef)
  |_=>none
 | .len b x=>match lc b (s.ev x)with
  |some n=>some (True,.int .i64 (n:Nat))
  |none=>none
 | .lenC n=>some (True,.int .i64 n)
 | .cap x=>match s.ev x with
  | .psl _ _ _ _ (some c)=>some (True,.int .i64 c)
  | .byt l .clip=>some (True,.int .i64 l.length)
  | .lst _ F .clip=>some (True,.int .i64 F.length)
  |_=>none
 | .mini x y=>match s.ev x,s.ev y with
  | .int k a,.int k' b=>if k=k' then some (True,.int k (if b<a then b else a))else none
  |_,_=>none
 | .maxi x y=>match s.ev x,s.ev y with
  | .int k a,.int k' b=>if k=k' then some (True,.int k (if a<b then b else a))else none
  |_,_=>none
 |_=>none
end Go.Sy
namespace Go.Sy
variable [bx]
def Tok.ren(m:Nat->Nat):Tok->Tok
 | .id t=> .id (m t)
 |t=>t
mutual
def SV.ren(m mt:Nat->Nat):SV->SV
 | .byt l t=> .byt l (t.ren mt)
 | .lst y E t=> .lst y E (t.ren mt)
 | .ptr o off=> .ptr (m o) off
 | .ap o y i j=> .ap (m o) y i j
 | .psl o y off n cap=> .psl (m o) y off n cap
 | .agg cs=> .agg (SV.renL m mt cs)
 | .tup cs=> .tup (SV.renL m mt cs)
 | .fn f a b=> .fn f (SV.renL m mt a) (SV.renL m mt b)
 |v=>v
def SV.renL(m mt:Nat->Nat):f8->f8
 |[]=> []
 |v::r=>v.ren m mt::SV.renL m mt r
end
def aH.ren(m mt:Nat->Nat):aH->aH
 | .rc cs=> .rc (SV.renL m mt cs)
 |o=>o
mutual
def SV.toks:SV->t8
 | .byt _ t=>match t with| .id t=> [t]|_=> []
 | .lst _ _ t=>match t with| .id t=> [t]|_=> []
 | .agg cs=>SV.toksL cs
 | .tup cs=>SV.toksL cs
 | .fn _ a b=>SV.toksL a++SV.toksL b
 |_=> []
def SV.toksL:f8->t8
 |[]=> []
 |v::r=>v.toks++SV.toksL r
end
mutual
def SV.ids:SV->t8
 | .ptr o _=> [o]
 | .ap o _ _ _=> [o]
 | .psl o _ _ _ _=> [o]
 | .agg cs=>SV.idsL cs
 | .tup cs=>SV.idsL cs
 | .fn _ a b=>SV.idsL a++SV.idsL b
 |_=> []
def SV.idsL:f8->t8
 |[]=> []
 |v::r=>v.ids++SV.idsL r
end
def aH.ids:aH->t8
 | .rc cs=>SV.idsL cs
 |_=> []
def aH.toks:aH->t8
 | .rc cs=>SV.toksL cs
 |_=> []
def idx(os:List aH):List (Nat×aH):=os.zipIdx.map fun p=>(p.2,p.1)
def eu(P:Program)(f:Nat):Bool:=
 match P.funcs[f]? with
 |some fn=>fn.body.isSome&& !(fn.name== "runtime.NumGoroutine")
 |none=>false
def xov(P:Program)(f:Nat)(args:f8)(os:List aH)(R:SV->List (Nat×aH)->Prop):Prop:=
 eu P f=true/\∀(C:Ctx)(x:Sit)(w:World)(vs:LAb),C.w0=w->C.G0=x.G->
  (∀b,C.mine b->w.heap.size<=b\/∃i,i<os.length/\(x.bk i).1=b)->os.length<=100->
  dl C x (idx os) [] w->cL x args vs->
  Calls P f ⟨vs⟩ w fun e w'=>∃v x' r y,e= .returned v/\R r y/\Rep x' r v/\dl C x' y r.toks w'/\∀i,i<os.length->x'.bk i=x.bk i
def Fn(P:Program)(f:Nat)(args:f8)(r:SV):Prop:=xov P f args [] fun E y=>E=r/\y=[]
def xzk(a b:SV):Prop:=∀(x:Sit)(v:Value),Rep x a v->Rep x b v
def jn(d:Nat)(m:t8)(o:Nat):Nat:=if o<m.length then m.getD o 0 else(d+1)*1000+o
def kM(d:Nat)(t:Nat):Nat:=(d+1)*1000+t
def inR(d:Nat)(o:Nat):Bool:=decide ((d+1)*1000<=o)&&decide (o<(d+2)*1000)
def leL(a_ bs:f8):Prop:=a_.length=bs.length/\∀i,i<a_.length->xzk (a_.getD i .undef) (bs.getD i .undef)
def fK(m:t8):List (Nat×aH)->List (Nat×aH)
 |[]=> []
 |p::r=>if p.1∈m then fK m r else p::fK m r
def p7(d:Nat)(m:t8):List (Nat×aH)->List (Nat×aH)
 |[]=> []
 |p::r=>(jn d m p.1,p.2.ren (jn d m) (kM d))::p7 d m r
def St.after(s:St)(d:LAa)(m:t8)(r:SV)(os:List (Nat×aH)):St:=
 St.put {
  tm:=SV.purgeL ((d.getD 0+1)*1000) ((d.getD 0+2)*1000) s.tm
  ob:=p7 (d.getD 0) m os++fK m (bW ((d.getD 0+1)*1000) ((d.getD 0+2)*1000) s.ob)
  tk:=r.toks.map (kM (d.getD 0))++cP ((d.getD 0+1)*1000) ((d.getD 0+2)*1000) s.tk}
  d (r.ren (jn (d.getD 0) m) (kM (d.getD 0)))
structure Eff where
 pre:Prop
 val:SV
 wr:List (Nat×aH):=[]
 new:Option aH:=none
 eat:Tok:= .no
 tok:Bool:=false
def jX(E:Nat)(y:d8)(i j n:Nat)(v:f8):d8:=
 if j=0/\n=E then y.set i v else y.set i (((y.getD i []).take j)++v++((y.getD i []).drop (j+n)))
def setCells(cs:f8)(off:Nat)(v:f8):f8:=
 match v with
 |[u]=>cs.set off u
 |v=>cs.take off++v++cs.drop (off+v.length)
def SV.one:SV->Bool
 | .undef| .agg _| .tup _=>false
 |_=>true
def kH(y:Nat):Nat->f8->d8
 |0,_=> []
 |m+1,v=>v.take y::kH y m (v.drop y)
def sL(s:St)(n:Nat)(v:f8):SV->Option Eff
 | .ptr o off=>match s.look o with
  |some (.rc cs)=>some {pre:=off+n<=cs.length/\v.length=n/\v.all SV.one=true,val:= .undef,wr:=[(o,.rc (setCells cs off v))]}
  |some (.arr y xs)=>some {pre:=off=0/\n=xs.length*y/\v.length=n/\v.all SV.isData=true,val:= .undef,wr:=[(o,.arr y (kH y xs.length (v.map SV.data)))]}
  |some (.bar l)=>match toB v with
   |some E=>some {pre:=off=0/\n=l.length/\E.length=n,val:= .undef,wr:=[(o,.bar E)]}
   |none=>none
  |_=>none
 | .ap o y i j=>match s.look o with
  |some (.arr sz' xs)=>some {pre:=y=sz'/\i<xs.length/\j+n<=y/\v.length=n/\(∀x∈xs,x.length=y)/\v.all SV.isData=true,val:= .undef,wr:=[(o,.arr sz' (jX y xs i j n (v.map SV.data)))]}
  |some (.bar l)=>match v with
   |[.u8 b]=>some {pre:=y=1/\j=0/\n=1/\i<l.length,val:= .undef,wr:=[(o,.bar (l.set i b))]}
   |_=>none
  |_=>none
 |_=>none
def Tok.ready(s:St):Tok->Bool
 | .no=>false
 | .clip=>true
 | .id t=>s.tk.contains t
def Tok.eat(t:Tok)(tk:t8):t8:=
 match t with
 | .id t=>cP t (t+1) tk
 |_=>tk
def bytesOf(s:St):SV->Option (Prop×d9)
 | .byt l _=>some (True,l)
 | .str l=>some (True,l)
 | .psl o y off n _=>match s.look o with
  |some (.bar l)=>some (y=1/\off+n<=l.length,(l.drop off).take n)
  |_=>none
 |_=>none
def iT(s:St)(F:Nat):SV->Option (Prop×d8)
 | .lst y E _=>some (F=y,E)
 | .psl o y off n _=>match s.look o with
  |some (.arr sz'' E)=>some (F=y/\F=sz''/\off+n<=E.length/\(∀x∈E,x.length=F),((E.drop off).take n))
  |_=>none
 |_=>none
def eff(s:St)(d:LAa):SOp->Option Eff
 | .new o=>match d with
  |some d=>some {pre:=True,val:= .ptr (d+100) 0,new:=some o}
  |none=>none
 | .box x=>match d with
  |some d=>some {pre:=True,val:= .ptr (d+100) 0,new:=some (.rc (s.ev x).cells)}
  |none=>none
 | .mk z bytes n c=>match d,s.ev n,s.ev c with
  |some d,.int _ n,.int _ c=>some {pre:=0<=n/\n<=c/\bytes*c<=140737488355328/\c<=9223372036854775807,val:= .psl (d+100) z.length 0 n.toNat (some c.toNat),new:=some (.arr z.length (aL c.toNat z))}
  |_,_,_=>none
 | .mkB n c=>match d,s.ev n,s.ev c with
  |some d,.int _ n,.int _ c=>some {pre:=0<=n/\n<=c/\c<=140737488355328,val:= .psl (d+100) 1 0 n.toNat (some c.toNat),new:=some (.bar (aL c.toNat 0))}
  |_,_,_=>none
 | .store n a x=>match (s.ev x).isDef with
  |true=>sL s n (s.ev x).cells (s.ev a)
  |false=>none
 | .app z bytes x y=>match d with
  |some d=>match s.ev x with
   | .byt l t=>match bytesOf s (s.ev y)with
    |some (p,l')=>some {pre:=p/\z.length=1/\bytes=1/\t.ready s=true/\l.length+l'.length<=140737488355328,val:= .byt (l++l') (.id (d+100)),eat:=t,tok:=true}
    |none=>none
   | .lst E l t=>match iT s z.length (s.ev y)with
    |some (p,l')=>some {pre:=p/\z.length=E/\t.ready s=true/\(l.length+l'.length)*bytes<=140737488355328,val:= .lst z.length (l++l') (.id (d+100)),eat:=t,tok:=true}
    |none=>none
   |_=>none
  |none=>none
 | .cpy F x y=>match s.ev x with
  | .psl o E off n _=>match s.look o with
   |some (.bar l)=>match bytesOf s (s.ev y)with
    |some (p,l')=>some {pre:=p/\F=1/\E=1/\off+n<=l.length,val:= .int .i64 (min l'.length n:Nat),wr:=[(o,.bar (l.take off++l'.take n++l.drop (off+(l'.take n).length)))]}
    |none=>none
   |some (.arr sz'' xs)=>match iT s F (s.ev y)with
    |some (p,l')=>some {pre:=p/\F=E/\F=sz''/\off+n<=xs.length/\(∀x∈xs,x.length=F),val:= .int .i64 (min l'.length n:Nat),wr:=[(o,.arr F (xs.take off++l'.take n++xs.drop (off+(l'.take n).length)))]}
    |none=>none
   |_=>none
  |_=>none
 | .pick _ _ _=>none
 | .call _ _=>none
 | .appM _ _ _ _=>none
 | .appO _ _ _ _=>none
 | .clr z x=>match s.ev x with
  | .psl o E off n _=>match s.look o with
   |some (.arr sz'' xs)=>some {pre:=0<n/\z.length=E/\z.length=sz''/\off+n<=xs.length/\(∀x∈xs,x.length=z.length),val:= .tup [],wr:=[(o,.arr z.length (xs.take off++aL n z++xs.drop (off+n)))]}
   |_=>none
  |_=>none
 | .isnil _ _=>none
 |so=>match val s so with
  |some (p,v)=>some {pre:=p,val:=v}
  |none=>none
def St.wr(s:St):List (Nat×aH)->St
 |[]=>s
 |p::r=>(s.setO p.1 p.2).wr r
def St.grew(s:St)(t:Tok)(d:Nat):St:=
 {tm:=SV.purgeL d (d+1) s.tm,ob:=bW d (d+1) s.ob,tk:=d::cP d (d+1) (t.eat s.tk)}
def St.app(s:St)(d:LAa)(e:Eff):St:=
 match e.new,e.tok with
 |some o,_=>((s.purge (d.getD 0+100) (d.getD 0+100+1)).addO (d.getD 0+100) (o.purge (d.getD 0+100) (d.getD 0+100+1))).put d e.val
 |none,true=>(s.grew e.eat (d.getD 0+100)).put d e.val
 |none,false=>(s.wr e.wr).put d e.val
def UY(P:Program)(s:St)(g:Nat)(a_:f8)(e:Eff):Prop:=
 ∃(m:t8)(args:f8)(os:List aH)(r:SV)(y:List aH),xov P g args os (fun E F=>E=r/\F=idx y)/\m.length=os.length/\y.length=os.length/\os.length<=100/\m.Nodup/\
  leL a_ (SV.renL (fun k=>m.getD k 0) id args)/\(∀i,i<os.length->s.look (m.getD i 0)=some ((os.getD i (.rc [])).ren (fun k=>m.getD k 0) id))/\
  r.toks=[]/\(∀k∈r.ids,k<os.length)/\(∀ob∈y,ob.toks=[]/\∀k∈ob.ids,k<os.length)/\
  e= {pre:=True,val:=r.ren (fun k=>m.getD k 0) id,wr:=m.zip (y.map (aH.ren (fun k=>m.getD k 0) id))}
def xrW(P:Program)(g:Nat)(a_:f8)(d:LAa)(k:St->Prop)(s:St):Prop:=
 (∃e,UY P s g a_ e/\k (s.app d e))\/
 (∃(m:t8)(args:f8)(os:List aH)(R:SV->List (Nat×aH)->Prop),xov P g args os R/\leL a_ (SV.renL (jn (d.getD 0) m) (kM (d.getD 0)) args)/\m.length=os.length/\os.length<=100/\m.Nodup/\
  (∀i,i<os.length->s.look (m.getD i 0)=some ((os.getD i (.rc [])).ren (jn (d.getD 0) m) (kM (d.getD 0))))/\(∀o∈m,inR (d.getD 0) o=false)/\
  ∀r y,R r y->(∀p∈y,p.1<1000/\(∀k∈p.2.ids,k<1000)/\(∀t∈p.2.toks,t<1000))/\(∀k∈r.ids,k<1000)/\(∀t∈r.toks,t<1000)/\k (s.after d m r y))
def xie:SV->LAa
 | .psl _ _ _ _ c=>c
 | .lst _ xs .clip=>some xs.length
 |_=>none
def xh0(d:Nat)(z:f8)(y E:d8)(F:Nat):Eff:=
 {pre:=True,val:= .psl (d+100) z.length 0 (y.length+E.length) (some F),new:=some (.arr z.length (y++E++aL (F-(y.length+E.length)) z))}
def xxk(s:St)(d:LAa)(y:d8)(k:St->Prop):SV->Prop
 | .psl o E off n cap=>match s.look o with
  |
   some (.arr sz' xs)=>sz'=E/\(∀r∈xs,r.length=E)/\off+n+y.length<=xs.length/\
   k (s.app d {pre:=True,val:= .psl o E off (n+y.length) cap,wr:=[(o,.arr E (xs.take (off+n)++y++xs.drop (off+n+y.length)))]})
  |_=>False
 |v=>k (s.put d v)
def xya(s:St)(d:LAa)(z:f8)(bytes:Nat)(x:SV)(new:Option (Prop×d8))(k:St->Prop):Prop:=
 match d,xie x,iT s z.length x,new with
 |some d0,some cap,some (p0,R0),some (p1,R1)=>p0/\p1/\(R0.length+R1.length)*bytes<=140737488355328/\
  (R0.length+R1.length<=cap->xxk s d R1 k x)/\
  (cap<R0.length+R1.length->∀y,R0.length+R1.length<=y->k (s.app d (xh0 d0 z R0 R1 y)))
 |_,_,_,_=>False
def xx9(s:St)(d:LAa)(z:f8)(bytes:Nat)(x E:SV)(k:St->Prop):Prop:=
 match d,xie x,iT s z.length x,E with
 |some d0,some cap,some (p0,R0),.int _ n=>p0/\0<=n/\n<=140737488355328/\(R0.length+n.toNat)*bytes<=140737488355328/\cap<R0.length+n.toNat/\
  ∀y,R0.length+n.toNat<=y->k (s.app d (xh0 d0 z R0 (aL n.toNat z) y))
 |_,_,_,_=>False
def sym(P:Program)(so:SOp)(d:LAa)(k:St->Prop)(s:St):Prop:=
 match so with
 | .pick c a b=>match s.ev c with
  | .bool t=>(t=true->k (s.put d (s.ev a)))/\(t=false->k (s.put d (s.ev b)))
  |_=>False
 | .call f a_=>match s.ev f with
  | .fn g a b=>xrW P g (a++a_.map s.ev++b) d k s
  |_=>False
 | .isnil E x=>match s.ev x with
  | .byt l _=>∀b:Bool,(b=true->l=[])->k (s.put d (.bool (b !=E)))
  | .lst _ F _=>∀b:Bool,(b=true->F=[])->k (s.put d (.bool (b !=E)))
  | .psl _ _ _ _ _=>k (s.put d (.bool E))
  |_=>False
 | .appM z bytes x c=>xx9 s d z bytes (s.ev x) (s.ev c) k
 |
  .app z bytes x y=>if s.tk.contains 99 then xya s d z bytes (s.ev x) (iT s z.length (s.ev y)) k else
  match eff s d (.app z bytes x y)with
  |some e=>e.pre/\k (s.app d e)
  |none=>False
 |so=>match eff s d so with
  |some e=>e.pre/\k (s.app d e)
  |none=>False
def xkR(P:Program)(i:SI)(k:St->Prop)(s:St):Prop:=
 match i.g with
 |none=>sym P i.op i.dst k s
 |some (g,b)=>match s.get g with
  | .bool t=>(t=b->sym P i.op i.dst k (s.put (some g) (.bool b)))/\(t= !b->k ((s.put (some g) (.bool !b)).put i.dst .undef))
  |_=>False
def xbf(P:Program):LAd->(St->Prop)->St->Prop
 |[],k,s=>k s
 |i::r,k,s=>xkR P i (xbf P r k) s
def Tok.ids:Tok->t8
 | .id t=> [t]
 |_=> []
def SOp.args:SOp->List Arg
 | .mov x| .box x| .load _ _ x| .nchk x| .un _ x| .toInt _ x| .toStr x| .s2b x| .b2s x| .faddr _ x| .fld _ _ _ x| .ext x _| .len _ x| .cap x| .isnil _ x| .isni _ x| .slid x| .clr _ x=> [x]
 | .pick c a b=> [c,a,b]
 | .new _| .lenC _=> []
 | .build _ F=>F.map fun p=>p.2.2
 | .lit _ y| .litB y| .newB y=>y
 | .store _ a b| .bin _ a b| .beq _ a b| .mk _ _ a b| .mkB a b| .iaddrL _ a b| .iaddrA _ _ a b| .idxA _ _ _ a b| .idxS a b| .app _ _ a b| .appM _ _ a b| .appO _ _ a b| .eqS _ _ a b| .ovl a b| .cpy _ a b| .mini a b| .maxi a b=> [a,b]
 | .mkfn _ a b=>a++b
 | .slcS x lo hi=>x::(lo.toList++hi.toList)
 | .slcL _ x lo hi E| .slcA _ _ x lo hi E=>x::(lo.toList++hi.toList++E.toList)
 | .call f a_=>f::a_
structure rD where
 r:List Nat
 w:List Nat
 t:List Nat
 n:List Nat
 m:List Nat
 l:List Nat
def SOp.blind(o:SOp):Bool:=match o with
 | .mov _=>true
 | .nchk _=>true
 | .faddr _ _=>true
 |_=>false
def SV.names(v:SV):t8:=v.ids++v.toks
def aH.names(o:aH):t8:=o.ids++o.toks
def Uo:List (Nat×aH)->t8
 |[]=> []
 |p::r=>p.2.names++Uo r
def Eff.names(e:Eff):t8:=e.val.names++Uo e.wr++(match e.new with|some o=>o.names|none=> [])
def xnB(s:St)(so:SOp)(d:LAa)(e:Eff):rD:=
 ⟨SV.idsL (so.args.map s.ev),e.wr.map cW,e.eat.ids,(match e.new,e.tok with|none,false=> []|_,_=> [d.getD 0+100]),e.names,if so.blind=true then []else SV.idsL (so.args.map s.ev)⟩
def tO(a b:t8):Bool:=a.any b.contains
def rD.clash(a b:rD):Bool:=tO a.w b.w||tO a.w b.l||tO b.w a.l||tO a.t b.t||tO a.n (b.r++b.w++b.t++b.m++b.n)||tO b.n (a.r++a.w++a.t++a.m)
def s8:rD:=⟨[],[],[],[],[],[]⟩
def rD.before(a b:rD):Bool:= !tO b.n (a.r++a.w++a.t++a.m++a.n)
def xnV(b:t8)(y:List rD):Bool:=
 (bC y.length).all fun j=>(bC j).all fun i=>(y.getD i s8).before (y.getD j s8)&&((b.getD j 0).testBit i|| !(y.getD i s8).clash (y.getD j s8))
def rD.quiet(f:rD):Bool:=f.w.isEmpty&&f.t.isEmpty&&f.n.isEmpty
def xbl(P:Program)(i:SI)(s:St)(k:Eff->Prop):Prop:=
 match i.op with
 | .pick c a b=>match s.ev c with
  | .bool t=>(t=true->k {pre:=True,val:=s.ev a})/\(t=false->k {pre:=True,val:=s.ev b})
  |_=>False
 | .call f a_=>match s.ev f with
  | .fn g a b=>∃e,UY P s g (a++a_.map s.ev++b) e/\k e
  |_=>False
 |so=>match eff s i.dst so with
  |some e=>e.pre/\k e
  |none=>False
def xhR(V:List rD->(St->Prop)->St->Prop)(y:List rD)(k:St->Prop)(op:SOp)(d:LAa)(s:St)(e:Eff):Prop:=V (xnB s op d e::y) k (s.app d e)
def vcD(P:Program)(b:t8):LAd->List rD->(St->Prop)->St->Prop
 |[],fs,k,s=>(fs.all rD.quiet||xnV b fs.reverse)=true/\k s
 |i::r,fs,k,s=>match i.g with
  |none=>xbl P i s (xhR (vcD P b r) fs k i.op i.dst s)
  |some (g,want)=>match s.get g with
   | .bool t=>(t=want->xbl P i s (xhR (vcD P b r) fs k i.op i.dst s))/\(t= !want->vcD P b r (s8::fs) k (s.put i.dst .undef))
   |_=>False
def St.forget(s:St):t8->St
 |[]=>s
 |d::r=>(s.purge d (d+1)).forget r
def xvm(s s':St):Prop:=∀(C:Ctx)(x:Sit)(a:Act)(w:World),aR C x s a w->∃x',aR C x' s' a w
def xbk(k:St->Prop)(Q:Exit->St->Prop):Exit->St->Prop
 | .normal,s=>k s
 |e,s=>Q e s
def xn2(id:Nat)(Q:Exit->St->Prop):Exit->St->Prop
 | .exit id',s=>if id'=id then Q .normal s else Q (.exit id') s
 |e,s=>Q e s
def St.know(s:St)(c:Arg)(b:Bool):St:=
 match c with
 | .t n=>s.put (some n) (.bool b)
 |_=>s
def vc(P:Program):gI->(Exit->St->Prop)->St->Prop
 | .skip,Q,s=>Q .normal s
 | .ops l,Q,s=>xbf P l (Q .normal) s
 | .drw b ds l,Q,s=>vcD P b l [] (Q .normal) (s.forget ds)
 | .seq a b,Q,s=>vc P a (xbk (vc P b Q) Q) s
 | .cond c a b,Q,s=>match s.ev c with
  | .bool t=>(t=true->vc P a Q (s.know c true))/\(t=false->vc P b Q (s.know c false))
  |_=>False
 | .block id b,Q,s=>vc P b (xn2 id Q) s
 | .loop b,Q,s=>∃(X:Type)(S:X->St)(I:X->Prop)(μ:X->Nat),(∃x,I x/\xvm s (S x))/\
  ∀x,I x->vc P b (xbk (fun s'=>∃x',I x'/\xvm s' (S x')/\μ x'<μ x) Q) (S x)
 | .exit id,Q,s=>Q (.exit id) s
 | .ret,Q,s=>Q .ret s
 | .bad,_,_=>False
end Go.Sy
namespace Go.Sy
variable [bx]
theorem cR.mono{G O:GM}(L:∀b o v,G b o=some v->O b o=some v){s:SV}{v:Value}(h:cR G s v):cR O s v:=by
 induction h with
 |bool b=>exact .bool b
 |int k n=>exact .int k n
 |u8 b=>exact .u8 b
 |str l=>exact .str l
 |nilp=>exact .nilp
 |nili=>exact .nili
 |bytN t=>exact .bytN t
 |bytE t a=>exact .bytE t a
 |byt l t b off cap n hn J h=>exact .byt l t b off cap n hn J fun i hi=>L _ _ _ (h i hi)
 |lstN E t=>exact .lstN E t
 |lstE E t a=>exact .lstE E t a
 |lst E T t b off cap n val hn J Q F _ I=>exact .lst E T t b off cap n val hn J Q (fun i j hi y=>L _ _ _ (F i j hi y)) fun i j hi y=>I i j hi y
 |pp cs b off val F _ I=>exact .pp cs b off val (fun j y=>L _ _ _ (F j y)) fun j y=>I j y
theorem Lay.mono{G E:GM}(h:Lay G)(y:∀b o v,G b o=some v->E b o=some v):Lay E:=fun g cs F j L=>by obtain⟨v,J,I⟩:=h g cs F j L;exact⟨v,y _ _ _ J,I.mono y⟩
theorem dY(lo hi:Nat)(cs:f8):SV.purgeL lo hi cs=cs.map (SV.purge lo hi):=by
 induction cs with
 |nil=>simp[SV.purgeL]
 |cons c r y=>simp[SV.purgeL,y]
theorem fJ(m mt:Nat->Nat)(cs:f8):SV.renL m mt cs=cs.map (SV.ren m mt):=by
 induction cs with
 |nil=>simp[SV.renL]
 |cons c r y=>simp[SV.renL,y]
theorem bn(f:SV->SV)(y:f .undef= .undef)(cs:f8)(i:Nat):(cs.map f).getD i .undef=f (cs.getD i .undef):=by simp only[aa,aU];cases cs[i]? <;>simp[y]
@[simp] theorem purge_undef (lo hi:Nat):SV.purge lo hi .undef= .undef:=by simp[SV.purge]
@[simp] theorem ren_undef (m mt:Nat->Nat):SV.ren m mt .undef= .undef:=by simp[SV.ren]
theorem cR.tok{G:GM}{s:SV}{v:Value}(h:cR G s v)(s':SV)
 (O:(∃l t y,s= .byt l t/\s'= .byt l y)\/(∃F I t y,s= .lst F I t/\s'= .lst F I y)):cR G s' v:=by
 rcases O with⟨l,t,y,rfl,rfl⟩|⟨F,I,t,y,rfl,rfl⟩
 ·cases h with
  |bytN=>exact .bytN _
  |bytE _ a=>exact .bytE _ a
  |byt _ _ b off cap n hn E h=>exact .byt _ _ b off cap n hn E h
 ·cases h with
  |lstN=>exact .lstN _ _
  |lstE _ _ a=>exact .lstE _ _ a
  |lst _ _ _ b off cap n val hn E L J h=>exact .lst _ _ _ b off cap n val hn E L J h
theorem dP.mono{x x':Sit}{lo hi y:Nat}{t:Tok}{v:Value}(F:∀o,¬(lo<=o/\o<hi)->x'.τ o=x.τ o)(h:dP x y t v):dP x' y (t.purge lo hi) v:=by
 cases t with
 |no=>trivial
 |clip=>exact h
 |id t=>
  simp only[Tok.purge];split
  ·trivial
  ·rename_i hn
   obtain⟨a,n,cap,L,J⟩:=h;refine⟨a,n,cap,L,J.imp id ?_⟩;rintro⟨b,off,I,E⟩;exact⟨b,off,I,by rw[F _ hn];exact E⟩
theorem Rep.mono{x x':Sit}{lo hi:Nat}(hG:∀b o v,x.G b o=some v->x'.G b o=some v)(hβ:∀o,¬(lo<=o/\o<hi)->x'.bk o=x.bk o)
 (hτ:∀o,¬(lo<=o/\o<hi)->x'.τ o=x.τ o) {s:SV} {v:Value} (h:Rep x s v):Rep x' (s.purge lo hi) v:=by
 induction h with
 |undef v=>simp only[purge_undef];exact .undef v
 |dat s v h ht=>
  have y:=h.mono hG;cases s with
  |byt l t=>simp only[SV.purge];exact .dat _ _ (y.tok _ (.inl ⟨l,t,_,rfl,rfl⟩)) (dP.mono hτ ht)
  |lst E xs t=>simp only[SV.purge];exact .dat _ _ (y.tok _ (.inr ⟨E,xs,t,_,rfl,rfl⟩)) (dP.mono hτ ht)
  |undef=>simp only[SV.purge];exact .undef v
  |bool b=>simp only[SV.purge];exact .dat _ _ y trivial
  |int k n=>simp only[SV.purge];exact .dat _ _ y trivial
  |u8 b=>simp only[SV.purge];exact .dat _ _ y trivial
  |str l=>simp only[SV.purge];exact .dat _ _ y trivial
  |nilp=>simp only[SV.purge];exact .dat _ _ y trivial
  |nili=>simp only[SV.purge];exact .dat _ _ y trivial
  |pp cs=>simp only[SV.purge];exact .dat _ _ y trivial
  |ptr o off=>cases h
  |ap o E i j=>cases h
  |psl o E off n cap=>cases h
  |agg cs=>cases h
  |tup cs=>cases h
  |fn f a b=>cases h
 |ptr o off=>
  simp only[SV.purge];split
  ·exact .undef _
  ·rename_i hn;rw[<-hβ o hn];exact .ptr o off
 |ap o E i j=>
  simp only[SV.purge];split
  ·exact .undef _
  ·rename_i hn;rw[<-hβ o hn];exact .ap o E i j
 |psl o E off n cap J F h T Q I=>
  simp only[SV.purge];split
  ·exact .undef _
  ·rename_i hn;rw[<-hβ o hn]at I ⊢;exact .psl o E off n cap J F h T Q I
 |agg cs vs Z _ O=>simp only[SV.purge,dY];exact .agg _ _ (by simpa using Z) fun i hi=>by rw[bn _ (by simp)];exact O i (by simpa using hi)
 |tup cs vs Z _ O=>simp only[SV.purge,dY];exact .tup _ _ (by simpa using Z) fun i hi=>by rw[bn _ (by simp)];exact O i (by simpa using hi)
 |fn f c1 c2 v1 v2 L _ a1 _ a2 W=>
  simp only[SV.purge,dY]
  exact .fn _ _ _ _ _ (by simpa using L) (fun i hi=>by rw[bn _ (by simp)];exact a2 i (by simpa using hi))
   (by simpa using a1) fun i hi=>by rw[bn _ (by simp)];exact W i (by simpa using hi)
theorem FM(s:SV):s.purge 0 0=s:=by
 have y:∀t:Tok,t.purge 0 0=t:=fun t=>by cases t<;>simp[Tok.purge]
 refine SV.rec (motive_1:=fun s=>s.purge 0 0=s) (motive_2:=fun _=>True) (motive_3:=fun l=>SV.purgeL 0 0 l=l) ?_ ?_ ?_ ?_ ?_ ?_ ?_ ?_ ?_ ?_ ?_ ?_ ?_ ?_ ?_ ?_ ?_ ?_ ?_ ?_ s<;>
  intros<;>simp_all [SV.purge,SV.purgeL]
theorem Kp(l:f8):SV.purgeL 0 0 l=l:=by
 rw[dY];induction l with
 |nil=>rfl
 |cons c r y=>simp[FM,y]
theorem Ko(l:List (Nat×aH)):bW 0 0 l=l:=by
 induction l with
 |nil=>rfl
 |cons q r y=>simp only[bW];rw[if_neg (by omega),y];obtain⟨n,o⟩:=q;cases o<;>simp[aH.purge,Kp]
theorem Rep.grow{x x':Sit}(y:∀b o v,x.G b o=some v->x'.G b o=some v)(I:x'.bk=x.bk)(E:x'.τ=x.τ){s:SV}{v:Value}(h:Rep x s v):Rep x' s v:=by have F:=h.mono (x':=x') (lo:=0) (hi:=0) y (fun o _=>by rw[I]) (fun o _=>by rw[E]);rwa[FM]at F
theorem cL.mono{x x':Sit}{lo hi:Nat}(y:∀b o v,x.G b o=some v->x'.G b o=some v)(F:∀o,¬(lo<=o/\o<hi)->x'.bk o=x.bk o)
 (E:∀o,¬(lo<=o/\o<hi)->x'.τ o=x.τ o) {cs:f8} {vs:LAb} (h:cL x cs vs):cL x' (SV.purgeL lo hi cs) vs:=by
 refine⟨by rw[dY];simpa using h.1,fun i hi=> ?_⟩;rw[dY,bn _ (by simp)];exact(h.2 i (by rw[dY]at hi;simpa using hi)).mono y F E
theorem cL.grow{x x':Sit}(y:∀b o v,x.G b o=some v->x'.G b o=some v)(F:x'.bk=x.bk)(E:x'.τ=x.τ){cs:f8}{vs:LAb}(h:cL x cs vs):cL x' cs vs:=
 ⟨h.1,fun i hi=>(h.2 i hi).grow y F E⟩
theorem Rep.data{x:Sit}{s:SV}{v:Value}(h:Rep x s v)(y:s.isData=true):cR x.G s v:=by
 cases h with
 |dat _ _ h _=>exact h
 |_=>simp[SV.isData]at y
theorem cR.rep{x:Sit}{s:SV}{v:Value}(h:cR x.G s v):Rep x s.data v:=by
 cases h with
 |byt l t b off cap n hn E h=>exact .dat _ _ (.byt l _ b off cap n hn E h) trivial
 |bytN t=>exact .dat _ _ (.bytN _) trivial
 |bytE t a=>exact .dat _ _ (.bytE _ a) trivial
 |lstN F t=>exact .dat _ _ (.lstN _ _) trivial
 |lstE F t a=>exact .dat _ _ (.lstE _ _ a) trivial
 |lst F J t b off cap n val hn E I y h=>exact .dat _ _ (.lst _ _ _ b off cap n val hn E I y h) trivial
 |bool b=>exact .dat _ _ (.bool b) trivial
 |int k n=>exact .dat _ _ (.int k n) trivial
 |u8 b=>exact .dat _ _ (.u8 b) trivial
 |str l=>exact .dat _ _ (.str l) trivial
 |nilp=>exact .dat _ _ .nilp trivial
 |nili=>exact .dat _ _ .nili trivial
 |pp cs b off val y h=>exact .dat _ _ (.pp cs b off val y h) trivial
theorem cR.toData{G:GM}{s:SV}{v:Value}(h:cR G s v):cR G s.data v:=by
 cases h with
 |byt l t b off cap n hn E h=>exact .byt l _ b off cap n hn E h
 |bytN t=>exact .bytN _
 |bytE t a=>exact .bytE _ a
 |lstN F t=>exact .lstN _ _
 |lstE F t a=>exact .lstE _ _ a
 |lst F J t b off cap n val hn E I y h=>exact .lst _ _ _ b off cap n val hn E I y h
 |bool b=>exact .bool b
 |int k n=>exact .int k n
 |u8 b=>exact .u8 b
 |str l=>exact .str l
 |nilp=>exact .nilp
 |nili=>exact .nili
 |pp cs b off val y h=>exact .pp cs b off val y h
theorem cM{lo hi:Nat}{ob:List (Nat×aH)}{p:Nat×aH}(h:p∈bW lo hi ob):
 ¬(lo<=p.1/\p.1<hi)/\∃o,(p.1,o)∈ob/\p.2=o.purge lo hi:=by
 induction ob with
 |nil=>simp[bW]at h
 |cons q r I=>
  simp only[bW]at h;split at h
  ·obtain⟨E,o,y,F⟩:=I h;exact⟨E,o,aw _ y,F⟩
  ·rename_i J
   rcases av.1 h with rfl|h
   ·exact⟨J,q.2,aA ..,rfl⟩
   ·obtain⟨E,o,y,F⟩:=I h;exact⟨E,o,aw _ y,F⟩
theorem ft{lo hi:Nat}(ob:List (Nat×aH)):(bW lo hi ob).map cW=(ob.map cW).filter fun o=>decide (¬(lo<=o/\o<hi)):=by
 induction ob with
 |nil=>simp[bW]
 |cons q r y=>
  simp only[bW,aI,fT];split<;>rename_i h
  ·rw[y,if_neg (by simp;omega)]
  ·rw[if_pos (by simp;omega),aI,y]
theorem bZ{lo hi t:Nat}{tk:t8}:t∈cP lo hi tk↔t∈tk/\¬(lo<=t/\t<hi):=by
 induction tk with
 |nil=>simp[cP]
 |cons u r y=>
  simp only[cP];split<;>rename_i hu
  ·rw[y,av];constructor
   ·rintro⟨a,b⟩;exact⟨.inr a,b⟩
   ·rintro⟨a|a,b⟩
    ·subst a;exact absurd hu b
    ·exact⟨a,b⟩
  ·rw[av,y,av];constructor
   ·rintro(rfl|⟨a,b⟩)
    ·exact⟨.inl rfl,hu⟩
    ·exact⟨.inr a,b⟩
   ·rintro⟨a|a,b⟩
    ·exact .inl a
    ·exact .inr ⟨a,b⟩
end Go.Sy
namespace Go.Sy
variable [bx]
theorem A8{w:World}{b:Nat}{o:Obj}(h:w.heap[b]? =some o):b<w.heap.size:=by
 rcases bQ b w.heap.size with y|y
 ·exact y
 ·simp[Array.getElem?_eq_none y]at h
theorem dL{w:World}{o:Obj}{b:Nat}(h:b<w.heap.size):(w.alloc o).heap[b]? =w.heap[b]? :=by show(w.heap.push o)[b]? =_;rw[Array.getElem?_push,if_neg (by omega)]
theorem heap_alloc_new{w:World}{o:Obj}:(w.alloc o).heap[w.heap.size]? =some o:=by show(w.heap.push o)[w.heap.size]? =_;rw[Array.getElem?_push,if_pos rfl]
theorem eQ.lt{w:World}{b:Nat}{c:LAc}{e:TypeId}{fl fh:Nat}(h:eQ w b c e fl fh):b<w.heap.size:=A8 h.1
theorem eQ.of_heap{w w':World}{b:Nat}{c:LAc}{e:TypeId}{fl fh:Nat}(h:eQ w b c e fl fh)(y:w'.heap[b]? =w.heap[b]?):eQ w' b c e fl fh:=⟨y.trans h.1,h.2⟩
theorem dN{w w':World}{b o:Nat}(y:w'.heap[b]? =w.heap[b]?):w'.cell? ⟨b,o,none⟩=w.cell? ⟨b,o,none⟩:=by simp only[World.cell?,y]
theorem eQ.cell{w:World}{b:Nat}{c:LAc}{e:TypeId}{fl fh:Nat}(h:eQ w b c e fl fh)(o:Nat):w.cell? ⟨b,o,none⟩=c[o]? :=by simp[World.cell?,h.1]
theorem eQ.free{w:World}{b:Nat}{c:LAc}{e:TypeId}{fl fh:Nat}(h:eQ w b c e fl fh){o:Nat}(y:o<c.size):w.frozen? ⟨b,o,none⟩=false:=by simp only[World.frozen?,h.1];have:=h.2 o y;simpa using this
theorem dl.ltG{C:Ctx}{x:Sit}{ob:List (Nat×aH)}{tk:t8}{w:World}(h:dl C x ob tk w){b o:Nat}{v:Value}(y:x.G b o=some v):b<w.heap.size:=by have:=h.per b o v y;exact World.block_lt_of_cell? (w:=w) (a:=⟨b,o,none⟩) this
theorem ey.of_heap{x x':Sit}{w w':World}{o:Nat}{obj:aH}{lo hi:Nat}(h:ey x w o obj)(Q:w'.heap[(x.bk o).1]? =w.heap[(x.bk o).1]?)
 (F:∀b o v,x.G b o=some v->x'.G b o=some v) (E:∀o,¬(lo<=o/\o<hi)->x'.bk o=x.bk o) (T:∀o,¬(lo<=o/\o<hi)->x'.τ o=x.τ o)
 (O:¬(lo<=o/\o<hi)):ey x' w' o (obj.purge lo hi):=by
 obtain⟨c,e,fl,fh,W,⟨Z,L,I⟩,J⟩:=h;refine⟨c,e,fl,fh,by rw[E o O];exact W.of_heap Q,⟨?_,by rw[E o O];exact L,by cases obj<;>exact I⟩, ?_⟩
 ·cases obj<;>simpa[aH.purge,aH.size,dY]using Z
 ·intro k y
  cases obj with
  |rc cs=>simp only[aH.purge,cA,dY];rw[bn _ (by simp)];exact(J k (by simpa[aH.purge,aH.size,dY]using y)).mono F E T
  |arr sz xs=>exact(J k y).mono F
  |bar l=>exact(J k y).mono F
theorem dl.congr{C:Ctx}{x:Sit}{ob:List (Nat×aH)}{tk:t8}{w w':World}(h:dl C x ob tk w)(y:w'.heap=w.heap)(O:w'.os=w.os)(F:w'.tape=w.tape)
 (E:w'.output=w.output):dl C x ob tk w':=by
 have Q:∀a,w'.cell? a=w.cell? a:=fun a=>by simp only[World.cell?,y]
 refine⟨fun b o v T=>by rw[Q];exact h.per b o v T,h.g0,h.gm,h.new, ?_,h.nd,h.inj, ?_,h.tko,h.tkd,O.trans h.os,F.trans h.tape,E.trans h.output,by rw[y];exact h.size,fun b L=>by rw[y];exact h.ext b L,h.pin,h.lay⟩
 ·intro p J
  obtain⟨⟨c,e,fl,fh,I,r⟩,q⟩:=h.obs p J;exact⟨⟨c,e,fl,fh,I.of_heap (by rw[y]),r⟩,q⟩
 ·intro t F
  exact(h.tks t F).imp id fun⟨⟨c,e,fl,fh,I,r⟩,q⟩=>⟨⟨c,e,fl,fh,I.of_heap (by rw[y]),r⟩,q⟩
theorem dl.drew{C:Ctx}{x:Sit}{ob:List (Nat×aH)}{tk:t8}{w:World}(h:dl C x ob tk w):dl C x ob tk w.drew:=h.congr rfl rfl rfl rfl
theorem dl.drawn{C:Ctx}{x:Sit}{ob:List (Nat×aH)}{tk:t8}{w:World}(h:dl C x ob tk w)(n:Nat):dl C x ob tk {w with drawn:=n}:=h.congr rfl rfl rfl rfl
def Sit.newO(x:Sit)(d b:Nat)(k:Nat:=0):Sit:= {x with bk:=fun o=>if o=d then(b,k)else x.bk o}
theorem Sit.newO_ne(x:Sit)(d b:Nat){k:Nat}(o:Nat)(h:¬(d<=o/\o<d+1)):(x.newO d b k).bk o=x.bk o:=if_neg (by omega)
theorem dl.allocO{C:Ctx}{x:Sit}{ob:List (Nat×aH)}{tk:t8}{w:World}(h:dl C x ob tk w)(d:Nat)(a8:100<=d){c:LAc}{e:TypeId}{fl fh:Nat}(obj:aH)
 (hf:∀i,i<c.size->¬(fl<=i/\i<fh)) (hs:obj.size<=c.size) (hr:∀k,k<obj.size->cA x obj k (c.getD k undef)) {K:Nat} (hK:K<=c.size) (a7:obj.arrB=true->¬(fl<=c.size/\c.size<fh)):
 dl C (x.newO d w.heap.size K) ((d,obj.purge d (d+1))::bW d (d+1) ob) (cP d (d+1) tk) (w.alloc (.cells c e (fl,fh))):=by
 have hβ:=Sit.newO_ne x d w.heap.size (k:=K)
 have a1:∀off,x.G w.heap.size off=none:=by
  intro off;cases hg:x.G w.heap.size off with
  |none=>rfl
  |some v=>exact absurd (h.ltG hg) (by omega)
 have F:∀p∈bW d (d+1) ob,p.1≠d/\(x.newO d w.heap.size K).bk p.1=x.bk p.1/\(x.bk p.1).1<w.heap.size:=by intro p y;obtain⟨h1,o,L,_⟩:=cM y;obtain⟨⟨c,e,fl,fh,Q,_⟩,_⟩:=h.obs _ L;exact⟨by omega,hβ _ h1,Q.lt⟩
 have a6:(x.newO d w.heap.size K).bk d=(w.heap.size,K):=if_pos rfl;have hd:((x.newO d w.heap.size K).bk d).1=w.heap.size:=by rw[a6]
 refine⟨?_,h.g0,h.gm,h.new, ?_, ?_, ?_, ?_, ?_, ?_,h.os,h.tape,h.output, ?_, ?_,fun i hi=>by rw[hβ i (by omega)];exact h.pin i hi,h.lay⟩
 ·intro b o v T
  rw[dN (dL (h.ltG T))];exact h.per b o v T
 ·intro p y
  rcases av.1 y with rfl|y
  ·refine⟨⟨c,e,fl,fh,⟨by rw[hd];exact heap_alloc_new,hf⟩,⟨?_,by rw[a6];exact hK,by cases obj<;>exact a7⟩, ?_⟩, ?_, ?_⟩
   ·cases obj<;>simpa[aH.purge,aH.size,dY]using hs
   ·intro k hk
    cases obj with
    |rc cs=>simp only[aH.purge,cA,dY];rw[bn _ (by simp)];exact Rep.mono (x:=x) (x':=x.newO d w.heap.size K) (lo:=d) (hi:=d+1) (fun _ _ _ T=>T) hβ (fun _ _=>rfl) (hr k (by simpa[aH.purge,aH.size,dY]using hk))
    |arr sz xs=>exact hr k hk
    |bar l=>exact hr k hk
   ·rw[hd];exact h.new _ h.size
   ·intro off;rw[hd];exact a1 off
  ·obtain⟨h1,o,L,h3⟩:=cM y
   obtain⟨a2,hm,hg⟩:=h.obs _ L;obtain⟨b1,E,O⟩:=F p y;refine⟨?_,by rw[E];exact hm,fun off=>by rw[E];exact hg off⟩;rw[h3];exact a2.of_heap (dL O) (fun _ _ _ T=>T) hβ (fun _ _=>rfl) h1
 ·rw[aI,dR,ft]
  refine⟨?_,h.nd.filter _⟩;simp
 ·intro p y q hq J
  rcases av.1 y with rfl|y<;>rcases av.1 hq with rfl|hq
  ·rfl
  ·obtain⟨_,E,O⟩:=F q hq
   rw[hd,E]at J;omega
  ·obtain⟨_,E,O⟩:=F p y
   rw[hd,E]at J;omega
  ·obtain⟨_,E,_⟩:=F q hq
   obtain⟨_,W,_⟩:=F p y;obtain⟨_,o,L,_⟩:=cM y;obtain⟨_,o',b0,_⟩:=cM hq;rw[E,W]at J;exact h.inj (_,o) L (_,o') b0 J
 ·intro t I
  obtain⟨I,_⟩:=bZ.1 I;exact(h.tks t I).imp id fun⟨⟨c,e,fl,fh,Q,r⟩,q⟩=>⟨⟨c,e,fl,fh,Q.of_heap (dL Q.lt),r⟩,q⟩
 ·intro t I p y
  obtain⟨I,_⟩:=bZ.1 I;rcases av.1 y with rfl|y
  ·rcases h.tks t I with Z|⟨⟨c,e,fl,fh,Q,r⟩,q⟩
   ·exact .inr Z
   ·refine .inl ?_
    rw[hd];have:=Q.lt;show(x.τ t).1≠_;omega
  ·obtain⟨_,o,L,_⟩:=cM y
   rw[(F p y).2.1];exact h.tko t I (_,o) L
 ·intro t I u hu
  exact h.tkd t (bZ.1 I).1 u (bZ.1 hu).1
 ·have:=h.size;rw[World.size_alloc];omega
 ·intro b hb
  rw[dL,h.ext b hb];rcases bQ b w.heap.size with Z|Z
  ·exact Z
  ·exact absurd (h.new b (mE h.size Z)) hb
def Sit.newD(x:Sit)(b:Nat)(c:LAc)(n:Nat):Sit:= {x with G:=fun y o=>if y=b/\o<n then c[o]? else x.G y o}
theorem dl.newD_le{C:Ctx}{x:Sit}{ob:List (Nat×aH)}{tk:t8}{w:World}(h:dl C x ob tk w)(c:LAc)(n:Nat):
 ∀b o v,x.G b o=some v->(x.newD w.heap.size c n).G b o=some v:=by
 intro b o v y;have:=h.ltG y;simp only[Sit.newD];rw[if_neg (by omega)];exact y
theorem dl.allocD{C:Ctx}{x:Sit}{ob:List (Nat×aH)}{tk:t8}{w:World}(h:dl C x ob tk w){c:LAc}{e:TypeId}{fl fh:Nat}(n:Nat):
 dl C (x.newD w.heap.size c n) ob tk (w.alloc (.cells c e (fl,fh))):=by
 have I:=h.newD_le c n
 have y:∀b,b≠w.heap.size->∀o,(x.newD w.heap.size c n).G b o=x.G b o:=by intro b F o;simp only[Sit.newD];rw[if_neg (by rintro⟨Q,_⟩;exact F Q)]
 refine⟨?_,fun b o v E=>I b o v (h.g0 b o v E), ?_,h.new, ?_,h.nd,h.inj, ?_,h.tko,h.tkd,h.os,h.tape,h.output, ?_, ?_,h.pin,h.lay⟩
 ·intro b o v E
  by_cases F:b=w.heap.size
  ·subst F
   simp only[Sit.newD]at E;split at E
   ·simp only[World.cell?,heap_alloc_new];simpa using E
   ·exact absurd (h.ltG E) (by omega)
  ·rw[y b F]at E
   rw[dN (dL (h.ltG E))];exact h.per b o v E
 ·intro b o v E
  by_cases F:b=w.heap.size
  ·right;rw[F];exact h.new _ h.size
  ·rw[y b F]at E;exact h.gm b o v E
 ·intro p hp
  obtain⟨Q,hm,hg⟩:=h.obs p hp;have Z:(x.bk p.1).1<w.heap.size:=by obtain⟨c,e,fl,fh,L,_⟩:=Q;exact L.lt
  refine⟨?_,hm,fun off=>by rw[show(x.newD w.heap.size c n).bk p.1=x.bk p.1 from rfl,y _ (by omega)];exact hg off⟩;obtain⟨T,e',J,O,L,hs,hr⟩:=Q;refine⟨T,e',J,O,L.of_heap (dL Z),hs,fun k hk=> ?_⟩;have:=hr k hk;generalize p.2=obj at*;cases obj with
  |rc cs=>exact Rep.grow I rfl rfl this
  |arr sz xs=>exact cR.mono I this
  |bar l=>exact cR.mono I this
 ·intro t ht
  refine(h.tks t ht).imp id ?_;rintro⟨⟨T,e',J,O,L,r⟩,q,g⟩;refine⟨⟨T,e',J,O,L.of_heap (dL L.lt),r⟩,q,fun o Q h2=> ?_⟩;rw[show((x.newD w.heap.size c n).τ t).1=(x.τ t).1 from rfl,y _ (by have:=L.lt;omega)];exact g o Q h2
 ·have:=h.size;rw[World.size_alloc];omega
 ·intro b F
  rw[dL,h.ext b F];rcases bQ b w.heap.size with W|W
  ·exact W
  ·exact absurd (h.new b (mE h.size W)) F
def Sit.newT(x:Sit)(d b lo hi:Nat):Sit:= {x with τ:=fun t=>if t=d then(b,lo,hi)else x.τ t}
theorem Sit.newT_ne(x:Sit)(d b lo hi:Nat)(o:Nat)(h:¬(d<=o/\o<d+1)):(x.newT d b lo hi).τ o=x.τ o:=if_neg (by omega)
theorem Sit.newT_eq(x:Sit)(d b lo hi:Nat):(x.newT d b lo hi).τ d=(b,lo,hi):=if_pos rfl
theorem dl.addT{C:Ctx}{x:Sit}{ob:List (Nat×aH)}{tk:t8}{w:World}(h:dl C x ob tk w)(d b lo hi:Nat)
 (hv:lo=hi\/((∃c e fl fh,eQ w b c e fl fh/\hi<=c.size)/\C.mine b/\∀o,lo<=o->o<hi->x.G b o=none))
 (I:lo=hi\/∀p∈ob,p.1≠d->b≠(x.bk p.1).1) (y:lo=hi\/∀t∈tk,t≠d->mD (b,lo,hi) (x.τ t)\/(x.τ t).2.1=(x.τ t).2.2):
 dl C (x.newT d b lo hi) (bW d (d+1) ob) (d::cP d (d+1) tk) w:=by
 have J:=Sit.newT_ne x d b lo hi;have hd:=Sit.newT_eq x d b lo hi;refine⟨h.per,h.g0,h.gm,h.new, ?_, ?_, ?_, ?_, ?_, ?_,h.os,h.tape,h.output,h.size,h.ext,h.pin,h.lay⟩
 ·intro p Z
  obtain⟨h1,o,O,h3⟩:=cM Z;obtain⟨T,hm,hg⟩:=h.obs _ O;exact⟨by rw[h3];exact T.of_heap rfl (fun _ _ _ hv=>hv) (fun _ _=>rfl) J h1,hm,hg⟩
 ·rw[ft];exact h.nd.filter _
 ·intro p Z q hq a1
  obtain⟨_,o,O,_⟩:=cM Z;obtain⟨_,o',a2,_⟩:=cM hq;exact h.inj (_,o) O (_,o') a2 a1
 ·intro t E
  rcases av.1 E with rfl|E
  ·unfold iU;rw[hd];exact hv
  ·obtain⟨E,F⟩:=bZ.1 E
   unfold iU;rw[J _ F];exact h.tks t E
 ·intro t E p Z
  obtain⟨h1,o,O,_⟩:=cM Z;rcases av.1 E with rfl|E
  ·rw[hd]
   rcases I with I|I
   ·exact .inr I
   ·exact .inl (I (_,o) O (by show p.1≠t;omega))
  ·obtain⟨E,F⟩:=bZ.1 E
   rw[J _ F];exact h.tko t E (_,o) O
 ·intro t E u hu W
  rcases av.1 E with rfl|E<;>rcases av.1 hu with rfl|hu
  ·exact absurd rfl W
  ·obtain⟨hu,F⟩:=bZ.1 hu
   rw[hd,J _ F];rcases y with y|y
   ·exact .inr (.inl y)
   ·rcases y u hu (by omega)with L|L
    ·exact .inl L
    ·exact .inr (.inr L)
  ·obtain⟨E,F⟩:=bZ.1 E
   rw[hd,J _ F];rcases y with y|y
   ·exact .inr (.inr y)
   ·rcases y t E (by omega)with L|L
    ·refine .inl ?_
     unfold mD at*;exact fun e=>L e.symm
    ·exact .inr (.inl L)
  ·obtain⟨E,F⟩:=bZ.1 E
   obtain⟨hu,Q⟩:=bZ.1 hu;rw[J _ F,J _ Q];exact h.tkd t E u hu W
end Go.Sy
namespace Go.Sy
variable [bx]
def cj(w:World)(b off:Nat):LAb->World
 |[]=>w
 |v::r=>cj (w.setCell ⟨b,off,none⟩ v) b (off+1) r
theorem vn(w:World)(a:Addr)(v:Value):(w.setCell a v).os=w.os/\(w.setCell a v).tape=w.tape/\(w.setCell a v).output=w.output/\(w.setCell a v).heap.size=w.heap.size:=
 ⟨rfl,rfl,rfl,by simp⟩
theorem dI(b:Nat)(vs:LAb):∀(w:World)(off:Nat),(cj w b off vs).os=w.os/\(cj w b off vs).tape=w.tape/\(cj w b off vs).output=w.output/\
 (cj w b off vs).heap.size=w.heap.size/\(∀y,y≠b->(cj w b off vs).heap[y]? =w.heap[y]?):=by
 induction vs with
 |nil=>intro w off;exact⟨rfl,rfl,rfl,rfl,fun _ _=>rfl⟩
 |cons v r Q=>intro w off;obtain⟨Z,J,h3,T,O⟩:=Q (w.setCell ⟨b,off,none⟩ v) (off+1);obtain⟨L,I,F,W⟩:=vn w ⟨b,off,none⟩ v;refine⟨Z.trans L,J.trans I,h3.trans F,T.trans W,fun y E=> ?_⟩;rw[cj,O y E];exact Go.RowKit.Below.heap_setCell _ _ _ _ E
theorem qT(c:LAc)(i k:Nat)(v:Value)(h:i<c.size):(c.setIfInBounds i v).getD k undef=if k=i then v else c.getD k undef:=by
 simp only[aS,Array.getElem?_setIfInBounds]
 by_cases y:i=k
 ·subst y;simp[h]
 ·rw[if_neg y,if_neg (fun e=>y e.symm)]
theorem dv{b:Nat}{e:TypeId}{fl fh:Nat}(vs:LAb):∀(w:World)(off:Nat)(c:LAc),eQ w b c e fl fh->off+vs.length<=c.size->
 ∃y,eQ (cj w b off vs) b y e fl fh/\y.size=c.size/\∀k,y.getD k undef=if off<=k/\k<off+vs.length then vs.getD (k-off) undef else c.getD k undef:=by
 induction vs with
 |nil=>intro w off c h _;exact⟨c,h,rfl,fun k=>by rw[if_neg (by simp only[aB];omega)]⟩
 |cons v r J=>
  intro w off c h Q;simp only[al]at Q
  have E:eQ (w.setCell ⟨b,off,none⟩ v) b (c.setIfInBounds off v) e fl fh:=by refine⟨?_,by simpa using h.2⟩;simp only[World.setCell,Array.getElem?_modify];rw[if_pos trivial,h.1];simp
  obtain⟨y,L,F,O⟩:=J _ (off+1) _ E (by simp;omega);refine⟨y,L,by simpa using F,fun k=> ?_⟩;rw[O k];simp only[al]
  by_cases E:k=off
  ·subst E
   rw[if_neg (by omega),if_pos (by omega),qT _ _ _ _ (by omega),if_pos rfl];simp
  ·by_cases I:off+1<=k/\k<off+1+r.length
   ·rw[if_pos I,if_pos (by omega)]
    rw[show k-off=(k-(off+1))+1 from by omega];simp
   ·rw[if_neg I,if_neg (by omega),qT _ _ _ _ (by omega),if_neg E]
theorem dB(b off n:Nat):(⟨b,off,none⟩:Addr).add n=⟨b,off+n,none⟩:=by
 unfold Addr.add;split
 ·rename_i h;subst h;rfl
 ·rfl
theorem fX{P:Program}{b:Nat}{e:TypeId}{fl fh:Nat}(off:Nat)(vs:LAb):∀(w:World)(c:LAc)(i:Nat),eQ w b c e fl fh->off+i+vs.length<=c.size->
 (∀v∈vs,v.oneCell'=true)->(storeCells ⟨b,off,none⟩ vs i).run P w= .ok () (cj w b (off+i) vs):=by
 induction vs with
 |nil=>intro w c i _ _ _;rfl
 |cons v r F=>
  intro w c i h I E;simp only[al]at I
  have J:eQ (w.setCell ⟨b,off+i,none⟩ v) b (c.setIfInBounds (off+i) v) e fl fh:=by refine⟨?_,by simpa using h.2⟩;simp only[World.setCell,Array.getElem?_modify];rw[if_pos trivial,h.1];simp
  have y:w.cell? ⟨b,off+i,none⟩=some (c[off+i]'(by omega)):=by rw[h.cell];exact cB _
  simp only[storeCells,aC,dB,run_store P w _ v _ (E v (by simp)),y,h.free (o:=off+i) (by omega),aO,if_false,aq];rw[F _ _ (i+1) J (by simp;omega) (fun u hu=>E u (aw _ hu))];rfl
theorem nM{d:Nat}{o:aH}{ob:List (Nat×aH)}(y:(ob.map cW).Nodup){p:Nat×aH}(h:p∈setO d o ob):(p=(d,o)/\d∈ob.map cW)\/(p∈ob/\p.1≠d):=by
 induction ob with
 |nil=>simp[setO]at h
 |cons q r J=>
  simp only[aI,dR]at y;simp only[setO]at h;split at h<;>rename_i I
  ·rcases av.1 h with rfl|h
   ·exact .inl ⟨rfl,by simp[I]⟩
   ·refine .inr ⟨aw _ h,fun e=>y.1 ?_⟩
    rw[I,<-e];exact ji h
  ·rcases av.1 h with rfl|h
   ·exact .inr ⟨aA ..,I⟩
   ·rcases J y.2 h with⟨F,E⟩|⟨F,E⟩
    ·exact .inl ⟨F,by simp[E]⟩
    ·exact .inr ⟨aw _ F,E⟩
theorem K2{d:Nat}{o:aH}(ob:List (Nat×aH)):(setO d o ob).map cW=ob.map cW:=by
 induction ob with
 |nil=>rfl
 |cons q r E=>
  simp only[setO];split<;>rename_i y
  ·simp[y]
  ·simp[E]
theorem du{s:St}{o:Nat}{obj:aH}(h:s.look o=some obj):(o,obj)∈s.ob:=by
 unfold St.look at h;generalize s.ob=l at h;induction l with
 |nil=>simp at h
 |cons p r y=>
  rw[show p=(p.1,p.2)from rfl,List.lookup_cons]at h;split at h
  ·rename_i E
   have:o=p.1:=by simpa using E
   subst this;simp at h;subst h;simp
  ·exact aw _ (y h)
theorem dl.block{C:Ctx}{x:Sit}{ob:List (Nat×aH)}{tk:t8}{w w':World}(h:dl C x ob tk w){d:Nat}{obj obj':aH}(hd:(d,obj)∈ob)
 (ho:w'.os=w.os) (J:w'.tape=w.tape) (W:w'.output=w.output) (a1:w'.heap.size=w.heap.size) (Z:∀b,b≠(x.bk d).1->w'.heap[b]? =w.heap[b]?)
 (hr:ey x w' d obj'):dl C x (setO d obj' ob) tk w':=by
 obtain⟨_,O,T⟩:=h.obs _ hd;have L:∀p∈ob,p.1≠d->(x.bk p.1).1≠(x.bk d).1:=fun p y E e=>E (h.inj p y _ hd e)
 refine⟨?_,h.g0,h.gm,h.new, ?_,by rw[K2];exact h.nd, ?_, ?_, ?_,h.tkd,ho.trans h.os,J.trans h.tape,W.trans h.output,by rw[a1];exact h.size, ?_,h.pin,h.lay⟩
 ·intro b o v hv
  have:b≠(x.bk d).1:=by rintro rfl;simp[T]at hv
  rw[dN (Z b this)];exact h.per b o v hv
 ·intro p y
  rcases nM h.nd y with⟨rfl,_⟩|⟨y,E⟩
  ·exact⟨hr,O,T⟩
  ·obtain⟨⟨c,e,fl,fh,hO,r⟩,q⟩:=h.obs p y
   exact⟨⟨c,e,fl,fh,hO.of_heap (Z _ (L p y E)),r⟩,q⟩
 ·intro p y q hq F
  rcases nM h.nd y with⟨rfl,_⟩|⟨y,E⟩<;>rcases nM h.nd hq with⟨rfl,_⟩|⟨hq,hqd⟩
  ·rfl
  ·exact absurd F.symm (L q hq hqd)
  ·exact absurd F (L p y E)
  ·exact h.inj p y q hq F
 ·intro t J
  rcases h.tks t J with h'|⟨⟨c,e,fl,fh,hO,r⟩,q⟩
  ·exact .inl h'
  ·rcases h.tko t J _ hd with I|I
   ·exact .inr ⟨⟨c,e,fl,fh,hO.of_heap (Z _ I),r⟩,q⟩
   ·exact .inl I
 ·intro t J p y
  rcases nM h.nd y with⟨rfl,_⟩|⟨y,_⟩
  ·exact h.tko t J (d,obj) hd
  ·exact h.tko t J p y
 ·intro b Q
  rw[Z b (fun e=>Q (e ▸ O))];exact h.ext b Q
def Sit.fill(x:Sit)(b lo:Nat)(vs:LAb):Sit:= {x with G:=fun y o=>if y=b/\lo<=o/\o<lo+vs.length then some (vs.getD (o-lo) undef)else x.G y o}
theorem dl.fill{C:Ctx}{x:Sit}{ob:List (Nat×aH)}{tk:t8}{w:World}(h:dl C x ob tk w){t:Nat}(ht:t∈tk){b lo hi:Nat}(hτ:x.τ t=(b,lo,hi))
 (vs:LAb) (c5:lo+vs.length<=hi) (h0:0<vs.length):
 (∀F o v,x.G F o=some v->(x.fill b lo vs).G F o=some v)/\dl C (x.fill b lo vs) ob (cP t (t+1) tk) (cj w b lo vs)/\
 (∃c e fl fh,eQ (cj w b lo vs) b c e fl fh/\hi<=c.size)/\C.mine b/\(∀o,lo+vs.length<=o->o<hi->(x.fill b lo vs).G b o=none)/\
 (∀p∈ob,b≠(x.bk p.1).1)/\(∀u∈cP t (t+1) tk,mD (b,lo+vs.length,hi) (x.τ u)\/(x.τ u).2.1=(x.τ u).2.2)/\(∃c e fl fh,eQ w b c e fl fh/\hi<=c.size):=by
 have Q:=h.tks t ht;unfold iU at Q;rw[hτ]at Q;rcases Q with Q|⟨⟨c,e,fl,fh,hO,hc⟩,hm,hg⟩
 ·simp only at Q;omega
 simp only at hc hm hg hO;obtain⟨g1,g2,g3,g4,g5⟩:=dI b vs w lo;obtain⟨c',a6,b1,b6⟩:=dv vs w lo c hO (by omega)
 have a8:∀p∈ob,b≠(x.bk p.1).1:=by
  intro p hp;have:=h.tko t ht p hp;rw[hτ]at this;rcases this with h'|h'
  ·exact h'
  ·simp only at h';omega
 have O:∀F o v,x.G F o=some v->(x.fill b lo vs).G F o=some v:=by
  intro F o v E;simp only[Sit.fill];rw[if_neg ?_]
  ·exact E
  ·rintro⟨rfl,I,h2⟩
   rw[hg o I (by omega)]at E;cases E
 refine⟨O,⟨?_,fun b o v E=>O b o v (h.g0 b o v E), ?_,h.new, ?_,h.nd,h.inj, ?_, ?_, ?_,g1.trans h.os,g2.trans h.tape,g3.trans h.output,by rw[g4];exact h.size, ?_,h.pin,h.lay⟩,
  ⟨c',e,fl,fh,a6,by omega⟩,hm, ?_,a8, ?_,⟨c,e,fl,fh,hO,hc⟩⟩
 ·intro F o v E
  by_cases hb:F=b
  ·subst hb
   rw[a6.cell];simp only[Sit.fill]at E;have hk:=b6 o;split at E
   ·rename_i J
    rw[if_pos J.2]at hk;have ho:o<c'.size:=by omega
    rw[cB ho];have:c'.getD o undef=c'[o]:=by simp[ll,ho]
    rw[<-this,hk];exact E
   ·rename_i J
    have T:=h.per _ _ _ E;rw[hO.cell]at T
    have ho:o<c.size:=by
     rcases bQ o c.size with h'|h'
     ·exact h'
     ·simp[Array.getElem?_eq_none h']at T
    rw[if_neg (by rintro⟨I,h2⟩;exact J ⟨trivial,I,h2⟩)]at hk;rw[cB (by omega)];have e1:c'.getD o undef=c'[o]'(by omega):=by simp[ll,show o<c'.size from by omega]
    have e2:c.getD o undef=c[o]:=by simp[ll,ho]
    rw[cB ho]at T;rw[<-e1,hk,e2];exact T
  ·rw[dN (g5 F hb)]
   refine h.per F o v ?_;simp only[Sit.fill]at E;rwa[if_neg (by rintro⟨I,_⟩;exact hb I)]at E
 ·intro F o v E
  simp only[Sit.fill]at E;split at E
  ·rename_i J;right;rw[J.1];exact hm
  ·exact h.gm F o v E
 ·intro p hp
  obtain⟨I,b5,b4⟩:=h.obs p hp;have Z:=a8 p hp;refine⟨?_,b5,fun off=> ?_⟩
  ·obtain⟨c2,e2,a1,a2,L,W,b0⟩:=I
   refine⟨c2,e2,a1,a2,L.of_heap (g5 _ (fun e=>Z e.symm)),W,fun k hk=> ?_⟩;have:=b0 k hk;generalize p.2=obj at*;cases obj with
   |rc cs=>exact Rep.grow O rfl rfl this
   |arr sz xs=>exact cR.mono O this
   |bar l=>exact cR.mono O this
  ·simp only[Sit.fill]
   rw[if_neg (by rintro⟨I,_⟩;exact Z I.symm)];exact b4 off
 ·intro u hu
  obtain⟨hu,Z⟩:=bZ.1 hu;have y:=h.tkd t ht u hu (by omega);rw[hτ]at y;refine(h.tks u hu).imp id ?_;rintro⟨⟨c2,e2,a1,a2,L,W⟩,c3,b7⟩;refine⟨?_,c3,fun o I h2=> ?_⟩
  ·by_cases hb:(x.τ u).1=b
   ·rw[hb]at L
    have e1:=L.1.symm.trans hO.1;simp at e1;exact⟨c',e,fl,fh,by rw[show((x.fill b lo vs).τ u).1=b from hb];exact a6,by rw[b1,<-e1.1];exact W⟩
   ·exact⟨c2,e2,a1,a2,L.of_heap (g5 _ hb),W⟩
  ·show(x.fill b lo vs).G (x.τ u).1 o=none
   simp only[Sit.fill];rw[if_neg ?_]
   ·exact b7 o I h2
   ·rintro⟨e1,e2,e3⟩
    change (x.τ u).2.1<=o at I;change o<(x.τ u).2.2 at h2;rcases y with y|y|y
    ·exact y e1.symm
    ·simp only at y;omega
    ·omega
 ·intro u hu p hp
  exact h.tko u (bZ.1 hu).1 p hp
 ·intro u hu v E b3
  exact h.tkd u (bZ.1 hu).1 v (bZ.1 E).1 b3
 ·intro F a7
  rw[g5 F (fun e=>a7 (e ▸ hm))];exact h.ext F a7
 ·intro o I h2
  simp only[Sit.fill];rw[if_neg (by rintro⟨_,_,h3⟩;omega)];exact hg o (by omega) h2
 ·intro u hu
  obtain⟨hu,Z⟩:=bZ.1 hu;have y:=h.tkd t ht u hu (by omega);rw[hτ]at y;unfold mD at*;simp only at*;rcases y with y|y|y
  ·left;exact y
  ·omega
  ·exact .inr y
theorem gU{lo hi:Nat}{tk:t8}{t:Nat}(h:t∈cP lo hi tk):t∈tk:=(bZ.1 h).1
theorem dl.sub{C:Ctx}{x:Sit}{ob ob':List (Nat×aH)}{tk tk':t8}{w:World}(h:dl C x ob tk w)(E:ob'.Sublist ob)(F:∀t∈tk',t∈tk):dl C x ob' tk' w:=
 ⟨h.per,h.g0,h.gm,h.new,fun p y=>h.obs p (E.subset y),h.nd.sublist (E.map _),fun p y q I=>h.inj p (E.subset y) q (E.subset I),fun t hu=>h.tks t (F t hu),
  fun t hu p y=>h.tko t (F t hu) p (E.subset y),fun t hu u J=>h.tkd t (F t hu) u (F u J),h.os,h.tape,h.output,h.size,h.ext,h.pin,h.lay⟩
end Go.Sy
namespace Go.Sy
variable [bx]
def D4:SV->Value->Bool
 | .bool b,.bool c=>b==c
 | .int k n,.int k' m=>decide (k=k')&&decide (n=m)
 | .u8 b,.int .u8 n=>decide (n=b.toNat)
 | .str l,.string s=>decide (s.data.toList=l)
 | .byt [] _,.slice none 0 0=>true
 | .lst _ [] _,.slice none 0 0=>true
 | .nilp,.pointer none=>true
 | .nili,.nilIface=>true
 |_,_=>false
def m9(P:Program)(e:TypeId):Bool:=match P.underlying e with|some (.int .u8)=>true|_=>false
def tg(P:Program)(t:TypeId):Option Bool:=(P.underlying t).map fun| .struct _| .array _ _=>true|_=>false
def fI(P:Program)(t:TypeId):LAa:=(P.info? t).map (·.size)
def wt(P:Program)(t:TypeId):LAa:=(P.info? t).map (·.bytes)
def cvT(P:Program)(t:TypeId):Value->Option SV
 | .bool b=>some (.bool b)
 | .int .u8 n=>some (.u8 (ip n.toNat))
 | .int k n=>some (.int k n)
 | .string s=>some (.str s.data.toList)
 | .pointer none=>some .nilp
 | .nilIface=>some .nili
 | .slice none 0 0=>match P.underlying t with
  |some (.slice e)=>some (if m9 P e then .byt [] .clip else .lst (P.cellsOf e) [] .clip)
  |_=>none
 |_=>none
def bL(P:Program)(t:TypeId):Operand->Option Arg
 | .tmp n=>some (.t n)
 | .const v=>(cvT P t v).bind fun sv=>if D4 sv v then some (.c sv)else none
 | .func f=>some (.f f)
 | .global g=>(bx.cells g).map fun cs=> .c (.pp cs)
def oA(P:Program):Nat->TypeId->List TypeId
 |0,_=> []
 |d+1,t=>match P.underlying t with
  |some (.struct fs)=>fs.toList.flatMap fun f=>oA P d f.type
  |some (.array n e)=>(aL n (oA P d e)).flatten
  |_=> [t]
def Iv(P:Program):List TypeId->LAb->Option f8
 |[],[]=>some []
 |t::ts,v::vs=>match cvT P t v,Iv P ts vs with
  |some s,some r=>some (s::r)
  |_,_=>none
 |_,_=>none
def gQ(P:Program)(t:TypeId):Option LAb:=(P.info? t).bind fun i=>i.zero.map fun z=>z.cells.toList
def IP(cs:f8)(vs:LAb):Bool:=decide (cs.length=vs.length)&&(bC cs.length).all fun i=>D4 (cs.getD i .undef) (vs.getD i undef)
def pf(P:Program)(t:TypeId):Option f8:=(gQ P t).bind fun vs=>(Iv P (oA P 30 t) vs).bind fun cs=>if IP cs vs then some cs else none
def BM(P:Program)(t:TypeId):Option f8:=(pf P t).map (List.map SV.data)
def Lw(P:Program)(t:TypeId):Option aH:=
 match P.underlying t with
 |some (.array n e)=>if m9 P e then some (.bar (aL n 0))else(pf P e).map fun z=> .arr z.length (aL n z)
 |_=>(pf P t).map .rc
def xhO(o:aH)(vs:LAb):Bool:=decide (o.size<=vs.length)&&(bC o.size).all fun k=>D4 (o.cell k) (vs.getD k undef)
def kC{α β:Type}(f:α->Option β):List α->Option (List β)
 |[]=>some []
 |a::r=>match f a,kC f r with
  |some b,some s=>some (b::s)
  |_,_=>none
def yT{α β:Type}(f:α->Option β):Option α->Option (Option β)
 |none=>some none
 |some a=>(f a).map some
def Ap(P:Program)(t:TypeId):LAa:=
 match P.underlying t with
 |some .bool=>some 0
 |some (.int _)=>some 1
 |some .string=>some 2
 |_=>none
def Bm(P:Program):Nat->List Field->Option t8
 |_,[]=>some []
 |k,f::r=>if f.name≠ "_" /\f.offset=k then(match Ap P f.type,Bm P (k+1) r with
  |some t,some ts=>some (t::ts)
  |_,_=>none)else none
def xrs(P:Program)(f:FuncId):Bool:=
 match P.funcs[f]? with
 |some fn=>fn.body.isNone&& !(fn.name== "runtime.NumGoroutine")&&(Extern.findNext fn).isNone&&decide (fn.origin= "slices.overlaps")&&
  (Extern.allGenericRows.lookup fn.name).isNone&&(Extern.allTypedRows.lookup fn.name).isNone&&(Extern.allRows.lookup fn.name).isNone&&
  (match fn.params[0]? with|some t=>(match P.underlying t with|some (.slice e)=>(fI P e).isSome|_=>false)|none=>false)
 |none=>false
def z0:f8->Bool
 |[.u8 b]=>b==0
 |_=>false
def bM(P:Program)(o:Oper):Option SOp:=
 match o.op with
 | .move x=>(bL P o.type x).map .mov
 | .assign x=>(bL P o.type x).map .mov
 | .pick c a b=>match bL P 0 c,bL P o.type a,bL P o.type b with
  |some c,some a,some b=>some (.pick c a b)
  |_,_,_=>none
 | .alloc e=>match Lw P e,gQ P e with
  |some o,some z=>if xhO o z then some (.new o)else none
  |_,_=>none
 | .box e x=>(bL P e x).map .box
 | .build t E=>match P.underlying t,pf P t with
  |some (.struct fs),some z=>
   if fs.toList.all fun f=>(P.info? f.type).isSome then
    (kC (fun p=>match fs[p.1]? with
     |some f=>match fI P f.type,bL P f.type p.2 with
      |some n,some a=>some (f.offset,n,a)
      |_,_=>none
     |none=>none) E.toList).map (.build z)
   else none
  |some (.array _ e),some z=>match fI P e with
   |some n=>(kC (fun p=>(bL P e p.2).map fun a=>(p.1*n,n,a)) E.toList).map (.build z)
   |none=>none
  |_,_=>none
 | .buildSlice t len E=>match P.underlying t with
  |some (.slice e)=>match fI P e,gQ P e with
   |some n,some _=>
    if decide (E.toList.map (·.1)=bC len)&&decide (len*n<=16777216)&&(!m9 P e||decide (n=1))then
     (kC (fun p=>bL P e p.2) E.toList).map fun O=>if m9 P e then .litB O else .lit n O
    else none
   |_,_=>none
  |_=>none
 | .load t a=>match fI P t,tg P t,bL P 0 a with
  |some n,some ag,some a=>if ag||n==1 then some (.load n ag a)else none
  |_,_,_=>none
 | .store t a x=>match fI P t,bL P 0 a,bL P t x with
  |some n,some a,some x=>some (.store n a x)
  |_,_,_=>none
 | .nilCheck x=>(bL P o.type x).map .nchk
 | .binOp op J x y Q=>match P.underlying J,bL P J x,bL P Q y with
  |some .bool,some x,some y=>match op with
   | .eql=>some (.beq false x y)
   | .neq=>some (.beq true x y)
   |_=>none
  |some (.int _),some x,some y=>some (.bin op x y)
  |some .string,some x,some y=>some (.bin op x y)
  |some (.struct fs),some x,some y=>
   match Bm P 0 fs.toList with
   |
    some L=>if !P.stoodInHeld J&& !P.eqGuardType P.depth J then
    (match op with
    | .eql=>some (.eqS false L x y)
    | .neq=>some (.eqS true L x y)
    |_=>none)
    else none
   |none=>none
  |some (.slice _),some x,some _=>match op,y with
   | .eql,.const (.slice none 0 0)=>some (.isnil false x)
   | .neq,.const (.slice none 0 0)=>some (.isnil true x)
   |_,_=>none
  |some (.interface _),some x,some _=>match op,y with
   | .eql,.const .nilIface=>some (.isni false x)
   | .neq,.const .nilIface=>some (.isni true x)
   |_,_=>none
  |_,_,_=>none
 | .unOp op t x=>(bL P t x).map (.un op)
 | .convert F dst x=>match P.underlying F,P.underlying dst,bL P F x with
  |some (.int _),some (.int k),some x=>some (.toInt k x)
  |some .string,some .string,some x=>some (.toStr x)
  |some (.slice e),some .string,some x=>if m9 P e then some (.b2s x)else none
  |some .string,some (.slice e),some x=>if m9 P e then some (.s2b x)else none
  |some (.slice _),some (.slice e),some x=>if decide (F=dst)&&m9 P e then some (.slid x)else none
  |_,_,_=>none
 | .makeFunc (.func f) first cap=>match kC (bL P 0) first.toList,kC (bL P 0) cap.toList with
  |some a,some b=>some (.mkfn f a b)
  |_,_=>none
 | .makeSlice t l c=>match P.underlying t with
  |some (.slice e)=>match fI P e,wt P e,BM P e,bL P 0 l,bL P 0 c with
   |some n,some by_,some z,some l,some c=>if m9 P e then(if n=1/\by_=1/\z0 z=true then some (.mkB l c)else none)else(if z.length=n/\n≠0 then some (.mk z by_ l c)else none)
   |_,_,_,_,_=>none
  |_=>none
 | .slice t x lo hi I=>match yT (bL P 0) lo,yT (bL P 0) hi,yT (bL P 0) I,bL P t x with
  |some lo,some hi,some I,some x=>if I.isSome&&hi.isNone then none else match P.underlying t with
   |some .string=>if I.isNone then some (.slcS x lo hi)else none
   |some (.slice e)=>match fI P e with
    |some n=>some (.slcL n x lo hi I)
    |none=>none
   |some (.array k e)=>match fI P e with
    |some n=>some (.slcA k n x lo hi I)
    |none=>none
   |_=>none
  |_,_,_,_=>none
 | .fieldAddr t x i=>match P.underlying t,bL P 0 x with
  |some (.struct fs),some x=>match fs[i]? with
   |some f=>match fI P f.type with
    |some n=>if n=0 then none else some (.faddr f.offset x)
    |none=>none
   |none=>none
  |_,_=>none
 | .field t x i=>match P.underlying t,bL P t x with
  |some (.struct fs),some x=>match fs[i]? with
   |some f=>match fI P f.type,tg P f.type with
    |some n,some ag=>if ag||n==1 then some (.fld f.offset n ag x)else none
    |_,_=>none
   |none=>none
  |_,_=>none
 | .indexAddr t x i=>match P.underlying t,bL P t x,bL P 0 i with
  |some (.slice e),some x,some i=>match fI P e with
   |some n=>some (.iaddrL n x i)
   |none=>none
  |some (.array k e),some x,some i=>match fI P e with
   |some n=>some (.iaddrA k n x i)
   |none=>none
  |_,_,_=>none
 | .index t x i=>match P.underlying t,bL P t x,bL P 0 i with
  |some (.array k e),some x,some i=>match fI P e,tg P e with
   |some n,some ag=>if ag||n==1 then some (.idxA k n ag x i)else none
   |_,_=>none
  |some .string,some x,some i=>some (.idxS x i)
  |_,_,_=>none
 | .extract x i=>(bL P 0 x).map (.ext · i)
 | .call c=>match c.callee with
  | .value f=>match bL P 0 f,kC (fun p=>bL P p.2 p.1) (c.args.toList.zip c.argTypes.toList)with
   |some f,some a_=>if c.args.size=c.argTypes.size then(match f,a_ with
    | .f g,[x,y]=>if xrs P g then some (.ovl x y)else some (.call (.f g) [x,y])
    |f,a_=>some (.call f a_))else none
   |_,_=>none
  | .builtin .len=>match c.args.toList,c.argTypes.toList with
   |[x],[t]=>match P.underlying t,bL P t x with
    |some .string,some x=>some (.len true x)
    |some (.slice _),some x=>some (.len false x)
    |some (.array n _),some _=>some (.lenC n)
    |some (.pointer arr),some _=>match P.underlying arr with
     |some (.array n _)=>some (.lenC n)
     |_=>none
    |_,_=>none
   |_,_=>none
  | .builtin .cap=>match c.args.toList,c.argTypes.toList with
   |[x],[t]=>match P.underlying t,bL P t x with
    |some (.slice _),some x=>some (.cap x)
    |_,_=>none
   |_,_=>none
  | .builtin .append=>match c.args.toList,c.argTypes.toList with
   |[x,y],[t,u]=>match P.underlying t,P.underlying u,bL P t x,bL P u y with
    |some (.slice e),some d,some x,some y=>match fI P e,wt P e,pf P e with
     |some n,some b,some z=>if decide (b≠0)&&decide (n≠0)&&decide (z.length=n)then(match d with
      | .slice _=>some (.app z b x y)
      | .string=>if m9 P e then some (.app z b x y)else none
      | .int _=>some (.appM z b x y)
      |_=>none)else none
     |_,_,_=>none
    |_,_,_,_=>none
   |_,_=>none
  | .builtin .clear=>match c.args.toList,c.argTypes.toList with
   |[x],[t]=>match P.underlying t,bL P t x with
    |some (.slice e),some x=>match BM P e with
     |some z=>some (.clr z x)
     |none=>none
    |_,_=>none
   |_,_=>none
  | .builtin .copy=>match c.args.toList,c.argTypes.toList with
   |[x,y],[t,u]=>match P.underlying t,bL P t x,bL P u y with
    |some (.slice e),some x,some y=>match fI P e with
     |some n=>some (.cpy n x y)
     |none=>none
    |_,_,_=>none
   |_,_=>none
  | .builtin .min=>match c.args.toList,c.argTypes.toList with
   |[x,y],[t,u]=>match bL P t x,bL P u y with
    |some x,some y=>some (.mini x y)
    |_,_=>none
   |_,_=>none
  | .builtin .max=>match c.args.toList,c.argTypes.toList with
   |[x,y],[t,u]=>match bL P t x,bL P u y with
    |some x,some y=>some (.maxi x y)
    |_,_=>none
   |_,_=>none
  |_=>none
 |_=>none
def xkW(ops:Array Oper)(d:Nat):Bool:=ops.any fun o=>match o.op with
 | .convert src dst (.tmp k)=>decide (src=dst)&&k==d
 |_=>false
def pE(ops:Array Oper)(d:LAa)(so:SOp):SOp:=
 match so,d with
 | .litB xs,some d=>if xkW ops d then .newB xs else .litB xs
 |so,_=>so
theorem H7(ops:Array Oper)(d:LAa)(so:SOp):pE ops d so=so\/∃y,so= .litB y/\pE ops d so= .newB y:=by
 unfold pE;split
 ·split
  ·exact .inr ⟨_,rfl,rfl⟩
  ·exact .inl rfl
 ·exact .inl rfl
def gS(P:Program)(ops:Array Oper)(o:Oper):Option SI:=
 match bM P o,o.guard with
 |some so,none=>some ⟨o.dst,none,pE ops o.dst so⟩
 |some so,some (j,b)=>match (ops[j]?).bind (·.dst)with
  |some g=>some ⟨o.dst,some (g,b),pE ops o.dst so⟩
  |none=>none
 |none,_=>none
def xrf:SOp->Bool
 | .new _| .box _| .mk _ _ _ _| .mkB _ _| .app _ _ _ _| .newB _=>true
 |_=>false
def xvg(l:LAd):t8:=l.filterMap fun i=>if xrf i.op then some (i.dst.getD 0+100)else none
def Arg.tmps:Arg->t8
 | .t n=> [n]
 |_=> []
def SI.reads(i:SI):t8:=(i.op.args.flatMap Arg.tmps)++(match i.g with|some (g,_)=> [g]|none=> [])
def YG(b:t8)(l:LAd):Bool:=
 (bC l.length).all fun j=>(bC l.length).all fun i=>i==j||
  (match (l.getD i ⟨none,none,.lenC 0⟩).dst with
   |some d=> !((l.getD j ⟨none,none,.lenC 0⟩).reads.contains d)||(b.getD (max i j) 0).testBit (min i j)
   |none=>true)
def sF(ops:Array Oper)(b:t8):Bool:=
 ops.toList.zipIdx.all fun(o,i)=>(o.after.all fun e=> !Region.binds .any e||decide (e.on<i))&&
  (bC ops.size).all fun k=> !(b.getD i 0).testBit k||(decide (k<i)&&o.after.any fun e=>Region.binds .any e&&(e.on==k||(b.getD e.on 0).testBit k))
def drawn(ops:Array Oper)(l:LAd):Bool:=
 let b:=(Region.before ops).toList
 sF ops b&&YG b l&&decide (l.filterMap (·.dst)).Nodup
def br(P:Program):Code->Option gI
 | .skip=>some .skip
 | .region _ ops y=>match kC (gS P ops) ops.toList with
  |some l=>
   if y then(if drawn ops l&&P.follows .mixedOrders then some (.drw (Region.before ops).toList (xvg l) l)else none)
   else some (.ops l)
  |none=>none
 | .seq a b=>match br P a,br P b with
  |some a,some b=>some (.seq a b)
  |_,_=>none
 | .cond c a b=>match bL P 0 c,br P a,br P b with
  |some c,some a,some b=>some (.cond c a b)
  |_,_,_=>none
 | .block id b=>(br P b).map (.block id)
 | .loop b=>(br P b).map .loop
 | .exit id=>some (.exit id)
 | .ret=>some .ret
 |_=>none
def cU(P:Program):Code->gI
 | .skip=> .skip
 | .exit id=> .exit id
 | .ret=> .ret
 | .seq a b=> .seq (cU P a) (cU P b)
 | .cond c a b=>match bL P 0 c with
  |some k=> .cond k (cU P a) (cU P b)
  |none=> .bad
 | .block id b=> .block id (cU P b)
 | .loop b=> .loop (cU P b)
 | .region id ops y=>match br P (.region id ops y)with
  |some s=>s
  |none=> .bad
 |_=> .bad
end Go.Sy
namespace Go.Sy
variable [bx]
variable {P : Program} {C : Ctx} {x : Sit} {s : St} {a : Act} {w : World}
theorem nH{G:GM}{c:SV}{v:Value}(h:D4 c v=true):cR G c v:=by
 unfold D4 at h;split at h
 ·simp at h;subst h;exact .bool _
 ·simp at h;obtain⟨rfl,rfl⟩:=h;exact .int _ _
 ·simp at h;subst h;exact .u8 _
 ·rename_i l s
  simp at h;obtain⟨⟨d⟩⟩:=s;simp at h;subst h;exact .str _
 ·exact .bytN _
 ·exact .lstN _ _
 ·exact .nilp
 ·exact .nili
 ·cases h
theorem JQ{x:Sit}{c:SV}{v:Value}(h:D4 c v=true):U4 x c v:=by
 unfold D4 at h;split at h
 all_goals first
  |trivial
  |(
   rename_i t;cases t with
   |no=>trivial
   |clip=>exact⟨none,0,rfl⟩
   |id t=>exact⟨none,0,0,rfl,.inl rfl⟩)
  |(cases h;done)
theorem rG{x:Sit}{c:SV}{v:Value}(h:D4 c v=true):Rep x c v:= .dat _ _ (nH h) (JQ h)
theorem cL.get{cs:f8}{vs:LAb}(h:cL x cs vs)(i:Nat):Rep x (cs.getD i .undef) (vs.getD i undef):=by
 rcases bQ i cs.length with hi|hi
 ·exact h.2 i hi
 ·rw[aa,ib hi];exact .undef _
theorem cL.set{cs:f8}{vs:LAb}(h:cL x cs vs)(d:Nat){c:SV}{v:Value}(y:Rep x c v):cL x (cs.set d c) (vs.set d v):=by
 refine⟨by simpa using h.1,fun i hi=> ?_⟩;simp only[nE]at hi;simp only[aa,ik]
 by_cases hd:d=i
 ·subst hd
  rw[if_pos rfl,if_pos hi,if_pos rfl,if_pos (by rw[<-h.1];exact hi)];exact y
 ·rw[if_neg hd,if_neg hd]
  have:=h.get i;simpa only[aa]using this
theorem aR.slot(h:aR C x s a w)(n:Nat):Rep x (s.get n) (a.tmps.getD n undef):=by have:=h.tm.get n;simpa[St.get,aS]using this
theorem aR.put(h:aR C x s a w)(d:LAa){c:SV}{v:Value}(y:Rep x c v):aR C x (s.put d c) (a.put d v) w:=by
 cases d with
 |none=>exact h
 |some d=>refine⟨?_,h.defers,h.heap⟩;have:=h.tm.set d y;simpa[St.put,Act.put]using this
theorem aP{t:TypeId}{o:Operand}{r:Arg}(h:aR C x s a w)(y:bL P t o=some r):Rep x (s.ev r) (a.eval o):=by
 cases o with
 |tmp n=>simp only[bL]at y;cases y;exact h.slot n
 |const v=>
  simp only[bL]at y;cases hc:cvT P t v with
  |none=>simp[hc]at y
  |some sv=>
   simp only[hc,dp]at y;split at y
   ·cases y;rename_i L;exact rG L
   ·cases y
 |func f=>simp only[bL]at y;cases y;exact .fn f [] [] [] [] rfl (fun i hi=>by simp at hi) rfl (fun i hi=>by simp at hi)
 |global g=>
  simp only[bL]at y;obtain⟨cs,E,rfl⟩:=ah.1 y;have J:=(h.heap.lay.mono h.heap.g0) g cs E;refine .dat _ _ (.pp cs g 0 (fun j=>(x.G g j).getD undef) (fun j I=> ?_) (fun j I=> ?_)) trivial
  ·obtain⟨v,F,_⟩:=J j I
   rw[bY,F];rfl
  ·obtain⟨v,F,y⟩:=J j I
   rw[F];exact y
def cE(P:Program)(C:Ctx)(o:Oper)(a:Act)(w:World)(s':St):Prop:=
 ∃u w' x' n,(execOp a.eval o).run P w= .ok n w'/\(n= .value u\/(n= .skip/\u=undef))/\aR C x' s' (a.put o.dst u) w'
theorem cE.val{o:Oper}{m:Sem Value}{u:Value}{c:SV}(h:aR C x s a w)(E:execOp a.eval o=(do pure (.value (<-m))))(F:m.run P w= .ok u w)(y:Rep x c u):
 cE P C o a w (s.put o.dst c):=
 ⟨u,w,x,.value u,by rw[E];simp[F],.inl rfl,h.put o.dst y⟩
theorem cE.grow{o:Oper}{m:Sem Value}{u:Value}{c:SV}{x':Sit}{w':World}(h:aR C x s a w)(L:execOp a.eval o=(do pure (.value (<-m))))(E:m.run P w= .ok u w')
 (F:∀b o v,x.G b o=some v->x'.G b o=some v) (O:x'.bk=x.bk) (J:x'.τ=x.τ) (I:dl C x' s.ob s.tk w') (y:Rep x' c u):
 cE P C o a w (s.put o.dst c):=
 ⟨u,w',x',.value u,by rw[L];simp[E],.inl rfl,aR.put ⟨h.tm.grow F O J,h.defers,I⟩ o.dst y⟩
theorem Rep.int_inv{k:IntKind}{n:Int}{v:Value}(h:Rep x (.int k n) v):v= .int k n:=by
 cases h with|dat _ _ h _=>cases h;rfl
theorem Rep.bool_inv{b:Bool}{v:Value}(h:Rep x (.bool b) v):v= .bool b:=by
 cases h with|dat _ _ h _=>cases h;rfl
theorem Rep.u8_inv{b:UInt8}{v:Value}(h:Rep x (.u8 b) v):v= .int .u8 b.toNat:=by
 cases h with|dat _ _ h _=>cases h;rfl
theorem Rep.str_inv{l:d9}{v:Value}(h:Rep x (.str l) v):v= .string ⟨⟨l⟩⟩:=by
 cases h with|dat _ _ h _=>cases h;rfl
theorem Rep.ptr_inv{o off:Nat}{v:Value}(h:Rep x (.ptr o off) v):v= .pointer (some ⟨(x.bk o).1,off,none⟩):=by
 cases h with
 |dat _ _ h _=>cases h
 |ptr=>rfl
theorem Rep.ap_inv{o y i j:Nat}{v:Value}(h:Rep x (.ap o y i j) v):v= .pointer (some ⟨(x.bk o).1,i*y+j,none⟩):=by
 cases h with
 |dat _ _ h _=>cases h
 |ap=>rfl
theorem Rep.psl_inv{o F off n:Nat}{cap:LAa}{v:Value}(h:Rep x (.psl o F off n cap) v):∃y,n<=y/\(∀c,cap=some c->c=y)/\∃E,v= .slice (some ⟨(x.bk o).1,E,none⟩) n y/\(y=0\/E=off*F):=by
 cases h with
 |dat _ _ h _=>cases h
 |psl _ _ _ _ _ E y h hn I _=>exact⟨y,hn,I,E,rfl,h⟩
theorem Rep.psl_invA{o F off n:Nat}{cap:LAa}{v:Value}(h:Rep x (.psl o F off n cap) v):∃y,n<=y/\(∀c,cap=some c->c=y)/\∃E,v= .slice (some ⟨(x.bk o).1,E,none⟩) n y/\(y=0\/E=off*F)/\(cap=none->y=0\/E+y*F<=(x.bk o).2):=by
 cases h with
 |dat _ _ h _=>cases h
 |psl _ _ _ _ _ E y h hn I J=>exact⟨y,hn,I,E,rfl,h,J⟩
theorem Rep.psl_invK{o F off n:Nat}{v:Value}(h:Rep x (.psl o F off n none) v):∃y,n<=y/\∃E,v= .slice (some ⟨(x.bk o).1,E,none⟩) n y/\(y=0\/E=off*F)/\(y=0\/E+y*F<=(x.bk o).2):=by
 cases h with
 |dat _ _ h _=>cases h
 |psl _ _ _ _ _ E y h hn J I=>exact⟨y,hn,E,rfl,h,I rfl⟩
theorem Rep.agg_inv{cs:f8}{v:Value}(h:Rep x (.agg cs) v):∃vs,v= .agg ⟨vs⟩/\cL x cs vs:=by
 cases h with
 |dat _ _ h _=>cases h
 |agg _ vs y h=>exact⟨vs,rfl,y,h⟩
theorem Rep.tup_inv{cs:f8}{v:Value}(h:Rep x (.tup cs) v):∃vs,v= .tuple ⟨vs⟩/\cL x cs vs:=by
 cases h with
 |dat _ _ h _=>cases h
 |tup _ vs y h=>exact⟨vs,rfl,y,h⟩
theorem Rep.fn_inv{f:Nat}{c1 c2:f8}{v:Value}(h:Rep x (.fn f c1 c2) v):∃v1 y,v= .func (.func f) ⟨v1⟩ ⟨y⟩/\cL x c1 v1/\cL x c2 y:=by
 cases h with
 |dat _ _ h _=>cases h
 |fn _ _ _ v1 y J F E I=>exact⟨v1,y,rfl,⟨J,F⟩,⟨E,I⟩⟩
theorem Rep.pp_inv{cs:f8}{v:Value}(h:Rep x (.pp cs) v):∃(b off:Nat)(val:Nat->Value),v= .pointer (some ⟨b,off,none⟩)/\(∀j,j<cs.length->x.G b (off+j)=some (val j))/\∀j,j<cs.length->cR x.G (cs.getD j .undef) (val j):=by
 cases h with
 |dat _ _ h _=>cases h with|pp _ b off val y h=>exact⟨b,off,val,rfl,y,h⟩
theorem Rep.nilp_inv{v:Value}(h:Rep x .nilp v):v= .pointer none:=by
 cases h with|dat _ _ h _=>cases h;rfl
theorem Rep.nili_inv{v:Value}(h:Rep x .nili v):v= .nilIface:=by
 cases h with|dat _ _ h _=>cases h;rfl
theorem Rep.byt_inv{l:d9}{t:Tok}{v:Value}(h:Rep x (.byt l t) v):∃b cap,v= .slice b l.length cap/\l.length<=cap/\cR x.G (.byt l t) v/\dP x 1 t v:=by
 cases h with
 |dat _ _ h y=>
  cases h with
  |bytN=>exact⟨none,0,rfl,by simp,.bytN _,y⟩
  |bytE _ a=>exact⟨some a,0,rfl,by simp,.bytE _ a,y⟩
  |byt _ _ b off cap n hn E h=>subst hn;exact⟨_,cap,rfl,E,.byt _ _ b off cap _ rfl E h,y⟩
theorem Rep.lst_inv{F:Nat}{y:d8}{t:Tok}{v:Value}(h:Rep x (.lst F y t) v):∃b cap,v= .slice b y.length cap/\y.length<=cap/\cR x.G (.lst F y t) v/\dP x F t v:=by
 cases h with
 |dat _ _ h E=>
  cases h with
  |lstN=>exact⟨none,0,rfl,by simp,.lstN _ _,E⟩
  |lstE _ _ a=>exact⟨some a,0,rfl,by simp,.lstE _ _ a,E⟩
  |lst _ _ _ b off cap n val hn I L J h=>subst hn;exact⟨_,cap,rfl,I,.lst _ _ _ b off cap _ val rfl I L J h,E⟩
theorem cZ(k:IntKind)(n:Int):Rep x (.int k n) (.int k n):= .dat _ _ (.int k n) trivial
theorem eo(b:Bool):Rep x (.bool b) (.bool b):= .dat _ _ (.bool b) trivial
theorem pD(b:UInt8):Rep x (.u8 b) (.int .u8 b.toNat):= .dat _ _ (.u8 b) trivial
theorem mh(l:d9):Rep x (.str l) (.string ⟨⟨l⟩⟩):= .dat _ _ (.str l) trivial
theorem Ke{op:BinOp}{t:TypeId}{k:IntKind}{m n:Int}{p:Prop}{c:SV}(h:Z8 op k m n=some (p,c))(y:p):
 ∃r,(binOp op t (.int k m) (.int k n)).run P w= .ok r w/\Rep x c r:=by
 cases op<;>simp only[Z8,VX,bE,ax.injEq,bG.injEq,reduceCtorEq]at h<;>obtain⟨rfl,rfl⟩:=h
 ·exact⟨.int k (k.wrap (m+n)),by simp[binOp,Op.intArith],cZ _ _⟩
 ·exact⟨.int k (k.wrap (m-n)),by simp[binOp,Op.intArith],cZ _ _⟩
 ·exact⟨.int k (k.wrap (m*n)),by simp[binOp,Op.intArith],cZ _ _⟩
 ·exact⟨.int k (k.wrap (m.tdiv n)),by simp[binOp,Op.intDiv,y],cZ _ _⟩
 ·exact⟨.int k (m.tmod n),by simp[binOp,Op.intDiv,y],cZ _ _⟩
 ·exact⟨.int k (cx .and k m n),by simp[binOp,Op.intBits,cx],cZ _ _⟩
 ·exact⟨.int k (cx .or k m n),by simp[binOp,Op.intBits,cx],cZ _ _⟩
 ·exact⟨.int k (cx .xor k m n),by simp[binOp,Op.intBits,cx],cZ _ _⟩
 ·exact⟨.int k (cx .andNot k m n),by simp[binOp,Op.intBits,cx],cZ _ _⟩
 ·exact⟨.bool (decide (m=n)),by simp[binOp,sH];rw[fE];simp,eo _⟩
 ·exact⟨.bool (decide (m≠n)),by simp[binOp,sH];rw[fE];simp,eo _⟩
 ·exact⟨.bool (decide (m<n)),by simp[binOp,sH],eo _⟩
 ·exact⟨.bool (decide (m<=n)),by simp[binOp,sH],eo _⟩
 ·exact⟨.bool (decide (m>n)),by simp[binOp,sH],eo _⟩
 ·exact⟨.bool (decide (m≥n)),by simp[binOp,sH],eo _⟩
theorem gJ(n:Int):gg.wrap n=n % 256:=by simp[IntKind.wrap,IntKind.bits,IntKind.signed]
theorem yg(n:Int):((cf n).toNat:Int)=n % 256:=by rw[cf,<-UInt8.toNat_toBitVec];simp;omega
theorem ph(b:UInt8):b.toNat<256:=b.toNat_lt
theorem Hv{op:BinOp}{t:TypeId}{a b:UInt8}{p:Prop}{c:SV}(h:Ix op a b=some (p,c))(F:p):
 ∃r,(binOp op t (.int .u8 a.toNat) (.int .u8 b.toNat)).run P w= .ok r w/\Rep x c r:=by
 have J:=ph a;have I:=ph b;have R:∀(r:UInt8)(v:Value),v= .int .u8 r.toNat->Rep x (.u8 r) v:=fun r v e=>e ▸ pD r
 have B:∀(r:Bool)(v:Value),v= .bool r->Rep x (.bool r) v:=fun r v e=>e ▸ eo r
 cases op<;>simp only[Ix,ax.injEq,bG.injEq,reduceCtorEq]at h<;>obtain⟨rfl,rfl⟩:=h
 ·exact⟨.int .u8 (gg.wrap (a.toNat+b.toNat)),by simp[binOp,Op.intArith],R _ _ (by rw[gJ,UInt8.toNat_add];simp)⟩
 ·refine⟨.int .u8 (gg.wrap (a.toNat-b.toNat)),by simp[binOp,Op.intArith],R _ _ (by rw[gJ,UInt8.toNat_sub];congr 1;omega)⟩
 ·exact⟨.int .u8 (gg.wrap (a.toNat*b.toNat)),by simp[binOp,Op.intArith],R _ _ (by rw[gJ,UInt8.toNat_mul];simp)⟩
 ·have hb0:¬((b.toNat:Int)=0):=by intro e;exact F (UInt8.toNat_inj.1 (by simpa using e))
  refine⟨.int .u8 (gg.wrap ((a.toNat:Int).tdiv b.toNat)), ?_,R _ _ ?_⟩
  ·simp only[binOp,Op.intDiv];rw[if_neg (fun e=>e rfl),if_neg hb0];rfl
  rw[gJ,UInt8.toNat_div,Int.tdiv_eq_ediv_of_nonneg (by omega)];have:=Nat.div_le_self a.toNat b.toNat;rw[<-Int.natCast_ediv];simp only[Value.int.injEq,true_and];generalize a.toNat/b.toNat=q at*;omega
 ·have hb0:¬((b.toNat:Int)=0):=by intro e;exact F (UInt8.toNat_inj.1 (by simpa using e))
  refine⟨.int .u8 ((a.toNat:Int).tmod b.toNat), ?_,R _ _ ?_⟩
  ·simp only[binOp,Op.intDiv];rw[if_neg (fun e=>e rfl),if_neg hb0];rfl
  rw[UInt8.toNat_mod,fq (by omega)];simp
 all_goals have y:BitVec.ofInt gg.bits (a.toNat:Int)=a.toBitVec:=by rw[BitVec.ofInt_natCast];exact BitVec.ofNat_toNat _ _
 all_goals have E:BitVec.ofInt gg.bits (b.toNat:Int)=b.toBitVec:=by rw[BitVec.ofInt_natCast];exact BitVec.ofNat_toNat _ _
 ·refine⟨.int .u8 (cx .and .u8 a.toNat b.toNat),by simp[binOp,Op.intBits,cx],R _ _ ?_⟩
  have:=ph (a&&&b);simp only[cx];rw[y,E,gJ];change Value.int .u8 ((((a&&&b).toNat:Nat):Int) % 256)=_
  congr 1;omega
 ·refine⟨.int .u8 (cx .or .u8 a.toNat b.toNat),by simp[binOp,Op.intBits,cx],R _ _ ?_⟩
  have:=ph (a|||b);simp only[cx];rw[y,E,gJ];change Value.int .u8 ((((a|||b).toNat:Nat):Int) % 256)=_
  congr 1;omega
 ·refine⟨.int .u8 (cx .xor .u8 a.toNat b.toNat),by simp[binOp,Op.intBits,cx],R _ _ ?_⟩
  have:=ph (a^^^b);simp only[cx];rw[y,E,gJ];change Value.int .u8 ((((a^^^b).toNat:Nat):Int) % 256)=_
  congr 1;omega
 ·refine⟨.int .u8 (cx .andNot .u8 a.toNat b.toNat),by simp[binOp,Op.intBits,cx],R _ _ ?_⟩
  have:=ph (a&&& ~~~b);simp only[cx];rw[y,E,gJ];change Value.int .u8 ((((a&&& ~~~b).toNat:Nat):Int) % 256)=_
  congr 1;omega
 all_goals clear y E
 ·exact⟨.bool ((a.toNat:Int)==b.toNat),by simp[binOp,sH],B _ _ (by congr 1;rw[fE];simp[<-UInt8.toNat_inj];try omega)⟩
 ·exact⟨.bool ((a.toNat:Int) !=b.toNat),by simp[binOp,sH],B _ _ (by congr 1;rw[fE];simp[<-UInt8.toNat_inj];try omega)⟩
 ·exact⟨.bool (decide ((a.toNat:Int)<b.toNat)),by simp[binOp,sH],B _ _ (by congr 1;rw[fE];simp[UInt8.lt_iff_toNat_lt])⟩
 ·exact⟨.bool (decide ((a.toNat:Int)<=b.toNat)),by simp[binOp,sH],B _ _ (by congr 1;rw[fE];simp[UInt8.le_iff_toNat_le])⟩
 ·exact⟨.bool (decide ((a.toNat:Int)>b.toNat)),by simp[binOp,sH],B _ _ (by congr 1;rw[fE];simp[UInt8.lt_iff_toNat_lt])⟩
 ·exact⟨.bool (decide ((a.toNat:Int)≥b.toNat)),by simp[binOp,sH],B _ _ (by congr 1;rw[fE];simp[UInt8.le_iff_toNat_le])⟩
theorem Kb{op:BinOp}{t:TypeId}{l m:d9}{p:Prop}{c:SV}(h:xbp op l m=some (p,c))(I:p):
 ∃r,(binOp op t (.string ⟨⟨l⟩⟩) (.string ⟨⟨m⟩⟩)).run P w= .ok r w/\Rep x c r:=by
 have E:∀l:d9,(ByteArray.mk ⟨l⟩).toList=l:=fun l=>by rw[ByteArray.toList_eq]
 have y:(l==m)=decide (l=m):=by rw[fE];simp
 cases op<;>simp only[xbp,ax.injEq,bG.injEq,reduceCtorEq]at h<;>obtain⟨rfl,rfl⟩:=h
 ·refine⟨.string ⟨⟨l++m⟩⟩, ?_,mh _⟩
  simp only[binOp,Op.stringOp]
  have F:((((ByteArray.mk ⟨l⟩).size+(ByteArray.mk ⟨m⟩).size:Nat):Int)>af.max)=False:=by rw[IntKind.max_i64];simp only[ByteArray.size,eq_iff_iff,iff_false];simp;omega
  simp only[F,if_false];rw[show(ByteArray.mk ⟨l⟩++ByteArray.mk ⟨m⟩)=ByteArray.mk ⟨l++m⟩from by apply ByteArray.ext;simp];rfl
 all_goals refine⟨_,by simp only[binOp,Op.stringOp,E,y];rfl, ?_⟩
 ·exact eo _
 ·rw[show decide (l≠m)= !decide (l=m)from by simp];exact eo _
 all_goals exact eo _
theorem J9{op:BinOp}{t:TypeId}{k:IntKind}{a:UInt8}{b:Int}{p:Prop}{c:SV}(h:xbj op a b=some (p,c))(F:p):
 ∃r,(binOp op t (.int .u8 a.toNat) (.int k b)).run P w= .ok r w/\Rep x c r:=by
 have E:=ph a;have R:∀(r:UInt8)(v:Value),v= .int .u8 r.toNat->Rep x (.u8 r) v:=fun r v e=>e ▸ pD r
 cases op<;>simp only[xbj,ax.injEq,bG.injEq,reduceCtorEq]at h<;>obtain⟨rfl,rfl⟩:=h
 ·refine⟨.int .u8 (gg.wrap ((a.toNat:Int)*2^(min b.toNat gg.bits))),by simp only[binOp,Op.shift];rw[if_neg (by omega)];rfl,R _ _ ?_⟩
  rw[gJ,UInt8.toNat_ofNat'];have e:((a.toNat:Int)*2^(min b.toNat gg.bits))=((a.toNat*2^(min b.toNat 8):Nat):Int):=by rw[Int.natCast_mul,Int.natCast_pow];rfl
  rw[e];rfl
 ·refine⟨.int .u8 ((a.toNat:Int).fdiv (2^(min b.toNat gg.bits))),by simp only[binOp,Op.shift];rw[if_neg (by omega)];rfl,R _ _ ?_⟩
  have e:(a.toNat:Int).fdiv (2^(min b.toNat gg.bits))=((a.toNat/2^(min b.toNat 8):Nat):Int):=by rw[show((2:Int)^(min b.toNat gg.bits))=((2^(min b.toNat 8):Nat):Int)from by rw[Int.natCast_pow];rfl];rw[je _ (Int.natCast_nonneg _),Int.natCast_ediv]
  have y:a.toNat/2^(min b.toNat 8)<256:=Nat.lt_of_le_of_lt (Nat.div_le_self _ _) E;rw[e,UInt8.toNat_ofNat',ct y]
theorem Y3{op:BinOp}{t:TypeId}{X Y:Operand}{u v:SV}{a b:Value}{p:Prop}{c:SV}(hu:Rep x u a)(J:Rep x v b)(h:Bx op u v=some (p,c))(I:p):
 ∃r,(do eqGuard op t X Y a b;binOp op t a b:Sem Value).run P w= .ok r w/\Rep x c r:=by
 cases u<;>cases v<;>simp only[Bx]at h<;>try (cases h;done)
 ·rename_i k m O n
  have y:=hu.int_inv;have E:=J.int_inv;subst y;subst E;rw[show eqGuard op t X Y (.int k m) (.int O n)=pure ()from by cases op<;>rfl];simp only[aC,aN,aq]
  by_cases Q:op= .shl\/op= .shr
  ·rcases Q with rfl|rfl
   ·simp only[xL,ax.injEq,bG.injEq]at h
    obtain⟨rfl,rfl⟩:=h;exact⟨_,by simp only[binOp,Op.shift];rw[if_neg (by omega)];rfl,cZ _ _⟩
   ·simp only[xL,ax.injEq,bG.injEq]at h
    obtain⟨rfl,rfl⟩:=h;exact⟨_,by simp only[binOp,Op.shift];rw[if_neg (by omega)];rfl,cZ _ _⟩
  ·have L:(if k=O then Z8 op k m n else none)=some (p,c):=by
    cases op<;>simp at Q<;>exact h
   split at L
   ·rename_i T;subst T;exact Ke L I
   ·cases L
 ·rename_i F k2 b2
  have y:=hu.u8_inv;have E:=J.int_inv;subst y;subst E;rw[show eqGuard op t X Y (.int .u8 F.toNat) (.int k2 b2)=pure ()from by cases op<;>rfl];simp only[aC,aN,aq];exact J9 h I
 ·rename_i F b2
  have y:=hu.u8_inv;have E:=J.u8_inv;subst y;subst E;rw[show eqGuard op t X Y (.int .u8 F.toNat) (.int .u8 b2.toNat)=pure ()from by cases op<;>rfl];simp only[aC,aN,aq];exact Hv h I
 ·rename_i F b2
  have y:=hu.str_inv;have E:=J.str_inv;subst y;subst E;rw[show eqGuard op t X Y (.string ⟨⟨F⟩⟩) (.string ⟨⟨b2⟩⟩)=pure ()from by cases op<;>rfl];simp only[aC,aN,aq];exact Kb h I
end Go.Sy
namespace Go.Sy
variable [bx]
variable {P : Program} {C : Ctx} {x : Sit} {s : St} {a : Act} {w : World}
theorem cz{t:TypeId}{n:Nat}(h:fI P t=some n)(w:World):(sizeOf t).run P w= .ok n w:=by
 unfold fI at h;cases hi:P.info? t with
 |none=>simp[hi]at h
 |some i=>simp[hi]at h;subst h;simp[sizeOf,run_typeInfo w hi]
theorem fe{t:TypeId}{b:Bool}(h:tg P t=some b)(w:World):(isAgg t).run P w= .ok b w:=by
 unfold tg at h;cases hd:P.underlying t with
 |none=>simp[hd]at h
 |some d=>simp[hd]at h;subst h;unfold isAgg;simp only[aC,run_underlying hd,aq];split<;>first|rfl|(cases d<;>simp_all)
theorem cX{E:Nat}(I:d8)(h:∀y∈I,y.length=E)(k:Nat)(L:k<I.length*E):
 I.flatten.getD k .undef=(I.getD (k/E) []).getD (k % E) .undef:=by
 induction I generalizing k with
 |nil=>simp at L
 |cons y r T=>
  have W:=h y (by simp)
  have O:0<E:=by
   rcases ic E with J|J;· subst J;simp at L
   ·exact J
  simp only[cK,aa]
  by_cases F:k<E
  ·rw[bt (by omega),BL F,ct F]
   simp
  ·rw[bD (by omega),W]
   have:=T (fun z hz=>h z (aw _ hz)) (k-E) (by simp only[al,ed]at L;omega);simp only[aa]at this;rw[this];have Q:k/E=(k-E)/E+1:=by rw[<-Nat.add_div_right _ O];congr 1;omega
   have Z:k % E=(k-E) % E:=(Nat.mod_eq_sub_mod (by omega));rw[Q,Z];simp
def GR(x:Sit)(w:World)(b off n:Nat)(cs:f8):Prop:=
 n<=cs.length/\∀j,j<n->∃v,w.cell? ⟨b,off+j,none⟩=some v/\Rep x (cs.getD j .undef) v
theorem qC{b off n:Nat}{cs:f8}{t:TypeId}{F:Bool}(h:GR x w b off n cs)(hn:fI P t=some n)(E:tg P t=some F)(L:(F||n==1)=true):
 ∃v,(loadVar t ⟨b,off,none⟩).run P w= .ok v w/\Rep x (eh F n cs) v:=by
 obtain⟨T,I⟩:=h
 have O:∀j,j<n->w.cell? ((⟨b,off,none⟩:Addr).add j)=some ((w.cell? ⟨b,off+j,none⟩).getD undef):=by intro j Q;obtain⟨v,y,_⟩:=I j Q;rw[dB,y];rfl
 cases F with
 |true=>
  refine⟨.agg ((bC n).map fun j=>(w.cell? ⟨b,off+j,none⟩).getD undef).toArray, ?_, ?_⟩
  ·simp only[loadVar,aC,fe E,aq,if_true,cz hn,run_loadCells w _ n _ O,aN]
  ·simp only[eh,if_true]
   refine .agg _ _ (by simp;omega) fun i hi=> ?_
   have hi:i<n/\i<cs.length:=by simp only[an]at hi;omega
   obtain⟨v,y,J⟩:=I i hi.1;rw[aa,bS,if_pos hi.1,<-aa]
   have:((bC n).map fun j=>(w.cell? ⟨b,off+j,none⟩).getD undef).getD i undef=v:=by rw[aa];simp[hi.1,y]
   rw[this];exact J
 |false=>simp at L;subst L;obtain⟨v,y,J⟩:=I 0 (by omega);refine⟨v, ?_,by simpa[eh]using J⟩;rw[fm]at y;simp only[loadVar,aC,fe E,aq,aO,if_false,run_load,y]
theorem fA(hM:aR C x s a w){o:Nat}{obj:aH}(h:s.look o=some obj):ey x w o obj:=(hM.heap.obs _ (du h)).1
theorem ey.cell{o:Nat}{obj:aH}(h:ey x w o obj){k:Nat}(F:k<obj.size):∃v,w.cell? ⟨(x.bk o).1,k,none⟩=some v/\cA x obj k v:=by obtain⟨c,e,fl,fh,E,I,y⟩:=h;refine⟨c.getD k undef, ?_,y k F⟩;rw[E.cell,aS,cB (by omega)];rfl
theorem cA.data{obj:aH}(y:∀cs,obj≠ .rc cs){k:Nat}{v:Value}(h:cA x obj k v):Rep x (obj.cell k).data v:=by
 cases obj with
 |rc cs=>exact absurd rfl (y cs)
 |arr E F=>exact cR.rep h
 |bar l=>exact cR.rep h
theorem gZ(cs:f8)(j:Nat):(cs.map SV.data).getD j .undef=(cs.getD j .undef).data:=bn _ rfl _ _
theorem lY{α:Type}(cs:List α)(j k:Nat)(d:α):(cs.drop j).getD k d=cs.getD (j+k) d:=by simp[aa,bB]
theorem m5(hM:aR C x s a w){u c:SV}{v:Value}{n:Nat}{ag:Bool}{p:Prop}(hu:Rep x u v)(h:jA s n ag u=some (p,c))(L:p):
 ∃b off cs,v= .pointer (some ⟨b,off,none⟩)/\c=eh ag n cs/\GR x w b off n cs:=by
 cases u with
 |pp cs=>simp only[jA,ax.injEq,bG.injEq]at h;obtain⟨rfl,rfl⟩:=h;obtain⟨b,off,val,rfl,hg,hr⟩:=hu.pp_inv;refine⟨b,off,_,rfl,rfl,by simpa using L,fun j Z=>⟨val j,hM.heap.per _ _ _ (hg j (by omega)), ?_⟩⟩;rw[gZ];exact(hr j (by omega)).rep
 |ptr o off=>
  have T:=hu.ptr_inv;simp only[jA]at h;cases hl:s.look o with
  |none=>simp[hl]at h
  |some obj=>
   have E:=fA hM hl;cases obj with
   |rc cs=>simp only[hl,ax.injEq,bG.injEq]at h;obtain⟨rfl,rfl⟩:=h;refine⟨_,off,_,T,rfl,by simp;omega,fun j Z=> ?_⟩;obtain⟨v,J,F⟩:=E.cell (k:=off+j) (by simp only[aH.size];omega);exact⟨v,J,by rw[lY];exact F⟩
   |arr I Q=>
    simp only[hl]at h;split at h
    ·rename_i h0;subst h0
     simp only[ax.injEq,bG.injEq]at h;obtain⟨rfl,rfl⟩:=h
     have O:Q.flatten.length=Q.length*I:=by
      have F:=L.2;clear L hl E;induction Q with
      |nil=>simp
      |cons y r ih=>simp only[cK,ae,al,ed];rw[ih (fun z hz=>F z (aw _ hz)),F y (by simp)];omega
     refine⟨_,0,_,T,rfl,by rw[aV];exact L.1,fun j Z=> ?_⟩;have W:j<Q.length*I:=by rw[<-O];omega
     obtain⟨v,J,F⟩:=E.cell (k:=j) (by simpa only[aH.size]using W);refine⟨v,by rw[bY];exact J, ?_⟩;rw[gZ,cX Q L.2 j W];exact F.data (by intro cs;simp)
    ·cases h
   |bar l=>
    simp only[hl]at h;split at h
    ·rename_i h0;subst h0
     simp only[ax.injEq,bG.injEq]at h;obtain⟨rfl,rfl⟩:=h;refine⟨_,0,_,T,rfl,by simpa using L,fun j Z=> ?_⟩;obtain⟨v,J,F⟩:=E.cell (k:=j) (by simp only[aH.size];omega);refine⟨v,by rw[bY];exact J, ?_⟩
     have:(l.map SV.u8).getD j .undef= .u8 (l.getD j 0):=by simp only[aa,aU];rw[ac (by omega)];rfl
     rw[this];exact F.data (by intro cs;simp)
    ·cases h
 |ap o I i j=>
  have T:=hu.ap_inv;simp only[jA]at h;cases hl:s.look o with
  |none=>simp[hl]at h
  |some obj=>
   have E:=fA hM hl;cases obj with
   |rc cs=>simp[hl]at h
   |arr a2 Q=>
    simp only[hl,ax.injEq,bG.injEq]at h;obtain⟨rfl,rfl⟩:=h;obtain⟨rfl,hi,Z,O⟩:=L;refine⟨_,_,_,T,rfl,by rw[aV,aE];omega,fun k hk=> ?_⟩
    have a1:i*I+(j+k)<Q.length*I:=by have:=bo I (Nat.succ_le_of_lt hi);rw[ed]at this;omega
    obtain⟨v,J,F⟩:=E.cell (k:=i*I+(j+k)) (by simpa only[aH.size]using a1);refine⟨v,by rw[fo];exact J, ?_⟩;rw[gZ,lY];have h3:=F.data (by intro cs;simp);simp only[aH.cell]at h3
    rwa[show(i*I+(j+k))/I=i from by rw[cS,Nat.mul_add_div (by omega),BL (by omega)];rfl,
     show(i*I+(j+k)) % I=j+k from by rw[cS,Nat.mul_add_mod,ct (by omega)]]at h3
   |bar l=>
    simp only[hl,ax.injEq,bG.injEq]at h;obtain⟨rfl,rfl⟩:=h;obtain⟨rfl,rfl,rfl,hi⟩:=L;refine⟨_,_,_,T,rfl,by simp,fun k hk=> ?_⟩;obtain rfl:k=0:=by omega
    obtain⟨v,J,F⟩:=E.cell (k:=i) (by simpa only[aH.size]using hi);exact⟨v,by simpa using J,F.data (by intro cs;simp)⟩
 |_=>simp[jA]at h
end Go.Sy
namespace Go.Sy
variable [bx]
variable {P : Program} {C : Ctx} {x : Sit} {s : St} {a : Act} {w : World} {o : Oper} {so : SOp} {p : Prop} {c : SV}
theorem yk(hM:aR C x s a w){X:Operand}(y:o.op= .move X\/o.op= .assign X)(J:bM P o=some so)(I:val s so=some (p,c)):cE P C o a w (s.put o.dst c):=by
 have E:(bL P o.type X).map SOp.mov=some so:=by rcases y with y|y<;>simpa only[bM,y]using J
 obtain⟨r,F,rfl⟩:=ah.1 E;simp only[val,ax.injEq,bG.injEq]at I;obtain⟨_,rfl⟩:=I;exact⟨a.eval X,w,x,.value (a.eval X),by rcases y with y|y<;>simp only[execOp,y]<;>rfl,.inl rfl,hM.put o.dst (aP hM F)⟩
theorem JK(hM:aR C x s a w){t:TypeId}{X:Operand}(L:o.op= .load t X)(y:bM P o=some so)(O:val s so=some (p,c))(Q:p):cE P C o a w (s.put o.dst c):=by
 simp only[bM,L]at y;split at y<;>try (cases y;done)
 rename_i n Z r hn J I;split at y<;>try (cases y;done)
 rename_i W;cases y;simp only[val]at O;obtain⟨b,off,cs,hX,rfl,T⟩:=m5 hM (aP hM I) O Q;obtain⟨v,E,F⟩:=qC (P:=P) T hn J W;refine cE.val hM (m:=Instr.loadAt t (a.eval X)) (by simp only[execOp,L]) ?_ F;rw[hX];simp only[Instr.loadAt,Instr.sureAddr,aC,aN,aq];exact E
theorem vh(hM:aR C x s a w){X:Operand}(F:o.op= .nilCheck X)(L:bM P o=some so)(E:val s so=some (p,c)):cE P C o a w (s.put o.dst c):=by
 simp only[bM,F]at L;obtain⟨r,J,rfl⟩:=ah.1 L;have y:=aP hM J;simp only[val]at E;cases hu:s.ev r with
 |ptr O off=>rw[hu]at E y;simp only[ax.injEq,bG.injEq]at E;obtain⟨_,rfl⟩:=E;exact⟨a.eval X,w,x,.value (a.eval X),by simp only[execOp,F];rw[y.ptr_inv];rfl,.inl rfl,hM.put o.dst y⟩
 |ap O T i j=>rw[hu]at E y;simp only[ax.injEq,bG.injEq]at E;obtain⟨_,rfl⟩:=E;exact⟨a.eval X,w,x,.value (a.eval X),by simp only[execOp,F];rw[y.ap_inv];rfl,.inl rfl,hM.put o.dst y⟩
 |pp cs=>rw[hu]at E y;simp only[ax.injEq,bG.injEq]at E;obtain⟨_,rfl⟩:=E;obtain⟨b,off,val,I,_⟩:=y.pp_inv;exact⟨a.eval X,w,x,.value (a.eval X),by simp only[execOp,F];rw[I];rfl,.inl rfl,hM.put o.dst y⟩
 |fn f c1 c2=>rw[hu]at E y;simp only[ax.injEq,bG.injEq]at E;obtain⟨_,rfl⟩:=E;obtain⟨v1,Q,I,_⟩:=y.fn_inv;exact⟨a.eval X,w,x,.value (a.eval X),by simp only[execOp,F];rw[I];rfl,.inl rfl,hM.put o.dst y⟩
 |_=>rw[hu]at E;simp at E
theorem G4(hM:aR C x s a w){op:BinOp}{t u:TypeId}{X Y:Operand}(ho:o.op= .binOp op t X Y u)(F:bM P o=some so)(a1:∀I n x y,so≠ .eqS I n x y)(E:val s so=some (p,c))(hp:p):cE P C o a w (s.put o.dst c):=by
 have L:execOp a.eval o=(do pure (.value (<-(do eqGuard op t X Y (a.eval X) (a.eval Y);binOp op t (a.eval X) (a.eval Y):Sem Value)))):=by simp only[execOp,ho]
 simp only[bM,ho]at F;split at F<;>try (cases F;done)
 ·rename_i x' y' hb Z hy
  have T:=aP hM Z;have h2:=aP hM hy
  have key:∀I:Bool,op=(if I then .neq else .eql)->val s (.beq I x' y')=some (p,c)->cE P C o a w (s.put o.dst c):=by
   intro I J E;simp only[val]at E;cases hu:s.ev x' with
   |bool O=>
    cases hw:s.ev y' with
    |bool b2=>
     rw[hu,hw]at E;rw[hu]at T;rw[hw]at h2;simp only[ax.injEq,bG.injEq]at E;obtain⟨_,rfl⟩:=E;refine cE.val hM L (u:= .bool (if I then decide (O≠b2)else decide (O=b2))) ?_ (eo _);rw[T.bool_inv,h2.bool_inv,show eqGuard op t X Y (.bool O) (.bool b2)=pure ()from by cases op<;>rfl];simp only[aC,aN,aq];cases I<;>simp only[aO,if_false,if_true]at J<;>subst J
     ·rw[run_eql_bool w t O b2 hb];cases O<;>cases b2<;>rfl
     ·rw[run_neq_bool w t O b2 hb];cases O<;>cases b2<;>rfl
    |_=>rw[hu,hw]at E;simp at E
   |_=>rw[hu]at E;simp at E
  split at F<;>try (cases F;done)
  ·cases F;exact key false rfl E
  ·cases F;exact key true rfl E
 case h_4=>
  exfalso;split at F<;>try (cases F;done)
  split at F<;>try (cases F;done)
  split at F<;>first|(cases F;done)|(cases F;exact a1 _ _ _ _ rfl)
 case h_5=>exfalso;split at F<;>first|(cases F;done)|(cases F;simp[val]at E)
 case h_6=>
  rename_i ms x' _ hd Z hy;have T:=aP hM Z
  have key:∀I:Bool,op=(if I then .neq else .eql)->Y= .const .nilIface->val s (.isni I x')=some (p,c)->cE P C o a w (s.put o.dst c):=by
   intro I J hY E;simp only[val]at E;cases hu:s.ev x' with
   |nili=>
    rw[hu]at E T;simp only[ax.injEq,bG.injEq]at E;obtain⟨_,rfl⟩:=E;refine cE.val hM L (u:= .bool (!I)) ?_ (eo _);have a2:a.eval Y= .nilIface:=by rw[hY];rfl
    have hm:P.underlying t=some (.interface (P.methodsAt t)):=by rw[hd];simp[Program.methodsAt,hd]
    rw[T.nili_inv,a2]
    have hg:eqGuard op t X Y .nilIface .nilIface=pure ():=by subst hY;subst J;cases I<;>simp[eqGuard]
    rw[hg];simp only[aC,aN,aq];subst J;cases I
    ·simp only[aO,if_false];rw[run_eql_nil_nil w t hm];rfl
    ·simp only[if_true];rw[run_neq_nil_nil w t hm];rfl
   |_=>rw[hu]at E;simp at E
  split at F<;>first|(cases F;done)|(cases F;exact key false rfl rfl E)|(cases F;exact key true rfl rfl E)
 all_goals
  rename_i Z hy;cases F;simp only[val]at E;obtain⟨r,Q,W⟩:=Y3 (P:=P) (w:=w) (t:=t) (X:=X) (Y:=Y) (aP hM Z) (aP hM hy) E hp;exact cE.val hM L Q W
theorem JJ(hM:aR C x s a w){op:UnOp}{t:TypeId}{X:Operand}(F:o.op= .unOp op t X)(J:bM P o=some so)(L:val s so=some (p,c)):cE P C o a w (s.put o.dst c):=by
 simp only[bM,F]at J;obtain⟨r,I,rfl⟩:=ah.1 J;have y:=aP hM I;simp only[val]at L;obtain⟨Q,E,O⟩:=ah.1 L;simp only[bG.injEq]at O;obtain⟨_,rfl⟩:=O;cases hu:s.ev r with
 |bool b=>rw[hu]at E y;cases op<;>simp only[Ah,ax.injEq,reduceCtorEq]at E;subst E;exact cE.val hM (m:=Op.unary .not (a.eval X)) (by simp only[execOp,F]) (by rw[y.bool_inv];rfl) (eo _)
 |int k n=>
  rw[hu]at E y;cases op<;>simp only[Ah,ax.injEq,reduceCtorEq]at E<;>subst E
  ·exact cE.val hM (m:=Op.unary .neg (a.eval X)) (by simp only[execOp,F]) (by rw[y.int_inv];rfl) (cZ _ _)
  ·exact cE.val hM (m:=Op.unary .xor (a.eval X)) (by simp only[execOp,F]) (by rw[y.int_inv];simp only[Op.unary,Op.intBits];rfl) (cZ _ _)
 |_=>rw[hu]at E;simp[Ah]at E
theorem vi(hM:aR C x s a w){f:Go.Fn}{X Y:Array Operand}(L:o.op= .makeFunc f X Y)(y:bM P o=some so)(O:val s so=some (p,c)):cE P C o a w (s.put o.dst c):=by
 cases f<;>simp only[bM,L,reduceCtorEq]at y;rename_i g;split at y<;>try (cases y;done)
 rename_i l1 l2 Z W;cases y;simp only[val,ax.injEq,bG.injEq]at O;obtain⟨_,rfl⟩:=O
 have key:∀(l:List Operand)(r:List Arg),kC (bL P 0) l=some r->cL x (r.map s.ev) (l.map a.eval):=by
  intro l;induction l with
  |nil=>intro r h;simp only[kC]at h;cases h;exact⟨rfl,fun i hi=>by simp at hi⟩
  |cons q l Q=>
   intro r h;simp only[kC]at h;split at h<;>try (cases h;done)
   rename_i b r' T E;cases h;have I:=Q _ E;refine⟨by simpa using I.1,fun i hi=> ?_⟩;cases i with
   |zero=>simpa using aP hM T
   |succ i=>simpa using I.2 i (by simpa using hi)
 have F:=key _ _ Z;have J:=key _ _ W;refine cE.val hM (m:=Instr.makeFunc (.func g) (X.map a.eval) (Y.map a.eval)) (u:= .func (.func g) ⟨X.toList.map a.eval⟩ ⟨Y.toList.map a.eval⟩) (by simp only[execOp,L]) ?_ ?_
 ·simp only[Instr.makeFunc,aN]
  congr 2<;>(apply eI;simp)
 ·exact .fn g _ _ _ _ F.1 F.2 J.1 J.2
theorem x6(hM:aR C x s a w){X:Operand}{i:Nat}(O:o.op= .extract X i)(J:bM P o=some so)(E:val s so=some (p,c))(I:p):cE P C o a w (s.put o.dst c):=by
 simp only[bM,O]at J;obtain⟨r,F,rfl⟩:=ah.1 J;have y:=aP hM F;simp only[val]at E;cases hu:s.ev r with
 |tup vs=>
  rw[hu]at E y;simp only[ax.injEq,bG.injEq]at E;obtain⟨rfl,rfl⟩:=E;obtain⟨us,Q,L⟩:=y.tup_inv;have hi:i<us.length:=by rw[<-L.1];exact I
  refine cE.val hM (m:=Instr.extract (a.eval X) i) (u:=us.getD i undef) (by simp only[execOp,O]) ?_ (L.2 i I);rw[Q];simp[Instr.extract,hi,aa]
 |_=>rw[hu]at E;simp at E
theorem sK(hM:aR C x s a w){t:TypeId}{X:Operand}{i:Nat}(I:o.op= .fieldAddr t X i)(F:bM P o=some so)(E:val s so=some (p,c)):cE P C o a w (s.put o.dst c):=by
 simp only[bM,I]at F;split at F<;>try (cases F;done)
 rename_i fs r O T;split at F<;>try (cases F;done)
 rename_i f Z;split at F<;>try (cases F;done)
 rename_i n hn;split at F
 ·cases F
 rename_i hn0;cases F;have y:=aP hM T
 have run:∀b off,a.eval X= .pointer (some ⟨b,off,none⟩)->(Instr.fieldAt t (a.eval X) i).run P w= .ok (.pointer (some ⟨b,off+f.offset,none⟩)) w:=by intro b off L;rw[L];simp only[Instr.fieldAt,aC,run_underlying O,aq,Z,Instr.sureAddr,aN,fieldPlace,cz hn,if_neg hn0,dB]
 simp only[val]at E;cases hu:s.ev r with
 |ptr J off=>rw[hu]at E y;simp only[ax.injEq,bG.injEq]at E;obtain⟨_,rfl⟩:=E;exact cE.val hM (by simp only[execOp,I]) (run _ _ y.ptr_inv) (.ptr J (off+f.offset))
 |ap J sz i j=>rw[hu]at E y;simp only[ax.injEq,bG.injEq]at E;obtain⟨_,rfl⟩:=E;refine cE.val hM (by simp only[execOp,I]) (run _ _ y.ap_inv) ?_;rw[fo];exact .ap J sz i (j+f.offset)
 |pp cs=>
  rw[hu]at E y;simp only[ax.injEq,bG.injEq]at E;obtain⟨_,rfl⟩:=E;obtain⟨b,off,vl,L,W,hh⟩:=y.pp_inv;refine cE.val hM (by simp only[execOp,I]) (run _ _ L) (.dat _ _ (.pp _ b (off+f.offset) (fun j=>vl (f.offset+j)) ?_ ?_) trivial)
  ·intro j Q;rw[fo];exact W _ (by simp only[aE]at Q;omega)
  ·intro j Q;rw[lY];exact hh _ (by simp only[aE]at Q;omega)
 |_=>rw[hu]at E;simp at E
theorem yR{cs:f8}{vs:LAb}(h:cL x cs vs){t:TypeId}{n:Nat}{E:Bool}{off:Nat}(hn:fI P t=some n)(y:tg P t=some E)(F:(E||n==1)=true)(J:off+n<=cs.length):
 ∃v,(part t ⟨vs⟩ off).run P w= .ok v w/\Rep x (eh E n (cs.drop off)) v:=by
 have I:=h.1;cases E with
 |true=>
  refine⟨.agg ⟨(vs.drop off).take n⟩, ?_, ?_⟩
  ·simp only[part,aC,fe y,aq,if_true,cz hn,aN]
   congr 2
   apply eI;simp
  ·simp only[eh,if_true]
   refine .agg _ _ (by simp;omega) fun i hi=> ?_
   have hi:i<n:=by simp only[an]at hi;omega
   have:=h.get (off+i);simp only[aa,bS,if_pos hi,bB]at this ⊢;exact this
 |false=>
  simp at F;subst F;refine⟨vs.getD off undef, ?_, ?_⟩
  ·simp only[part,aC,fe y,aq,aO,if_false]
   have:off<vs.length:=by omega
   simp[ac this,aa]
  ·simp only[eh,aO,if_false,lY,fm]
   exact h.get off
theorem G2(hM:aR C x s a w){t:TypeId}{X:Operand}{i:Nat}(Q:o.op= .field t X i)(y:bM P o=some so)(F:val s so=some (p,c))(T:p):cE P C o a w (s.put o.dst c):=by
 simp only[bM,Q]at y;split at y<;>try (cases y;done)
 rename_i fs r J L;split at y<;>try (cases y;done)
 rename_i f W;split at y<;>try (cases y;done)
 rename_i n ag hn O;split at y<;>try (cases y;done)
 rename_i h1;cases y;have E:=aP hM L;simp only[val]at F;cases hu:s.ev r with
 |agg cs=>rw[hu]at F E;simp only[ax.injEq,bG.injEq]at F;obtain⟨rfl,rfl⟩:=F;obtain⟨vs,he,Z⟩:=E.agg_inv;obtain⟨v,I,hc⟩:=yR (P:=P) (w:=w) Z hn O h1 T;refine cE.val hM (m:=Instr.field t (a.eval X) i) (by simp only[execOp,Q]) ?_ hc;rw[he];simp only[Instr.field,aC,run_underlying J,aq,W,asAgg,aN];exact I
 |_=>rw[hu]at F;simp at F
theorem Lq{l:d9}{t:Tok}{v:Value}(h:cR x.G (.byt l t) v)(i:Nat)(hi:i<l.length):∃b off cap,v= .slice (some ⟨b,off,none⟩) l.length cap/\x.G b (off+i)=some (.int .u8 (l.getD i 0).toNat):=by
 cases h with
 |bytN=>simp at hi
 |bytE=>simp at hi
 |byt _ _ b off cap n hn y h=>subst hn;exact⟨b,off,cap,rfl,h i hi⟩
theorem jJ{u:SV}{v:Value}{n:Int}(h:Rep x u v)(hn:u.num=some n):∃k,v= .int k n:=by
 cases u<;>simp only[SV.num,ax.injEq,reduceCtorEq]at hn
 ·subst hn;exact⟨_,h.int_inv⟩
 ·subst hn;exact⟨_,h.u8_inv⟩
theorem sJ(hM:aR C x s a w){t:TypeId}{X Y:Operand}(ho:o.op= .indexAddr t X Y)(T:bM P o=some so)(y:val s so=some (p,c))(Z:p):cE P C o a w (s.put o.dst c):=by
 have F:execOp a.eval o=(do pure (.value (<-Instr.indexAt t (a.eval X) (a.eval Y)))):=by simp only[execOp,ho]
 simp only[bM,ho]at T;split at T<;>try (cases T;done)
 ·rename_i e r q hd a6 a1
  split at T<;>try (cases T;done)
  rename_i n hn;cases T;have L:=aP hM a6;have h2:=aP hM a1
  have run:∀(b:Nat)(off len cap:Nat)(k:IntKind)(i:Int),a.eval X= .slice (some ⟨b,off,none⟩) len cap->a.eval Y= .int k i->0<=i->i<len->(Instr.indexAt t (a.eval X) (a.eval Y)).run P w= .ok (.pointer (some ⟨b,off+i.toNat*n,none⟩)) w:=by intro b off len cap k i he hf I J;rw[he,hf];simp only[Instr.indexAt,asIntOf,aC,aN,aq,run_underlying hd,if_pos (And.intro I J),cz hn,dB]
  simp only[val]at y;split at y<;>try (cases y;done)
  ·rename_i l tk i hu Q
   rw[hu]at L;obtain⟨k,O⟩:=jJ h2 Q;simp only[ax.injEq,bG.injEq]at y;obtain⟨rfl,rfl⟩:=y;obtain⟨I,J,rfl⟩:=Z;obtain⟨b,off,cap,he,hg⟩:=Lq (L.data rfl) i.toNat (by omega);refine cE.val hM F (run b off l.length cap k i he O I J) (.dat _ _ (.pp _ b (off+i.toNat*1) (fun _=> .int .u8 (l.getD i.toNat 0).toNat) ?_ ?_) trivial)
   ·intro j W
    obtain rfl:j=0:=by simpa using W
    simpa using hg
   ·intro j W
    obtain rfl:j=0:=by simpa using W
    exact .u8 _
  ·rename_i b0 xs tk i hu Q
   rw[hu]at L;obtain⟨k,O⟩:=jJ h2 Q;simp only[ax.injEq,bG.injEq]at y;obtain⟨rfl,rfl⟩:=y;obtain⟨I,J,rfl⟩:=Z;have E:=L.data rfl;cases hXv:a.eval X with
   |slice ad len cap=>
    rw[hXv]at E;cases E with
    |lstN=>simp at J;omega
    |lstE=>simp at J;omega
    |lst _ _ _ b off b1 n' vl b4 hc hl hg hh=>
     have a2:i.toNat<len:=by omega
     have b3:=hl _ a2;refine cE.val hM F (run b off len cap k i hXv O I (by omega)) (.dat _ _ (.pp _ b (off+i.toNat*n) (fun j=>vl i.toNat j) ?_ ?_) trivial)
     ·intro j W;exact hg _ _ a2 (by omega)
     ·intro j W;exact hh _ _ a2 (by omega)
   |_=>rw[hXv]at E;cases E
  ·rename_i o' b0 off kk cp i hu Q
   rw[hu]at L;obtain⟨k,O⟩:=jJ h2 Q;simp only[ax.injEq,bG.injEq]at y;obtain⟨rfl,rfl⟩:=y;obtain⟨I,J,rfl⟩:=Z;obtain⟨cp,b5,_,a8,he,a7⟩:=L.psl_inv;refine cE.val hM F (run _ a8 kk _ k i he O I J) ?_;rcases a7 with h'|rfl
   ·omega
   ·rw[<-bH]
    exact .ap o' n (off+i.toNat) 0
 ·rename_i kk e r q hd a6 a1
  split at T<;>try (cases T;done)
  rename_i n hn;cases T;have L:=aP hM a6;have h2:=aP hM a1
  have run:∀(b:Nat)(off:Nat)(k:IntKind)(i:Int),a.eval X= .pointer (some ⟨b,off,none⟩)->a.eval Y= .int k i->0<=i->i<kk->(Instr.indexAt t (a.eval X) (a.eval Y)).run P w= .ok (.pointer (some ⟨b,off+i.toNat*n,none⟩)) w:=by intro b off k i he hf I J;rw[he,hf];simp only[Instr.indexAt,asIntOf,Instr.sureAddr,aC,aN,aq,run_underlying hd,if_pos (And.intro I J),cz hn,dB]
  simp only[val]at y;split at y<;>try (cases y;done)
  ·rename_i o' off i hu Q
   rw[hu]at L;obtain⟨k,O⟩:=jJ h2 Q;split at y<;>try (cases y;done)
   ·simp only[ax.injEq,bG.injEq]at y;obtain⟨rfl,rfl⟩:=y
    exact cE.val hM F (run _ off k i L.ptr_inv O Z.1 Z.2) (.ptr o' _)
   ·split at y<;>try (cases y;done)
    rename_i I;subst I;simp only[ax.injEq,bG.injEq]at y;obtain⟨rfl,rfl⟩:=y;refine cE.val hM F (run _ 0 k i L.ptr_inv O Z.1 Z.2) ?_;rw[bY];exact .ap o' n i.toNat 0
  ·rename_i cs i hu Q
   rw[hu]at L;obtain⟨k,O⟩:=jJ h2 Q;simp only[ax.injEq,bG.injEq]at y;obtain⟨rfl,rfl⟩:=y;obtain⟨I,J,h4⟩:=Z;have E:=L.data rfl;cases hXv:a.eval X with
   |pointer ad=>
    rw[hXv]at E;cases E with
    |pp _ b off vl hg hh=>
     refine cE.val hM F (run b off k i hXv O I J) (.dat _ _ (.pp _ b (off+i.toNat*n) (fun j=>vl (i.toNat*n+j)) ?_ ?_) trivial)
     ·intro j W
      rw[aE]at W;rw[fo];exact hg _ (by omega)
     ·intro j W
      rw[aE]at W;have:=hh (i.toNat*n+j) (by omega);simp only[aa,bB]at this ⊢;exact this
   |_=>rw[hXv]at E;cases E
theorem G1(hM:aR C x s a w){t:TypeId}{X Y:Operand}(ho:o.op= .index t X Y)(F:bM P o=some so)(y:val s so=some (p,c))(hp:p):cE P C o a w (s.put o.dst c):=by
 have L:execOp a.eval o=(do pure (.value (<-Instr.index t (a.eval X) (a.eval Y)))):=by simp only[execOp,ho]
 simp only[bM,ho]at F;split at F<;>try (cases F;done)
 ·rename_i kk e r q hd J I
  split at F<;>try (cases F;done)
  rename_i n ag hn a1;split at F<;>try (cases F;done)
  rename_i Z;cases F;have Q:=aP hM J;have h2:=aP hM I;simp only[val]at y;split at y<;>try (cases y;done)
  rename_i cs i hu W;rw[hu]at Q;obtain⟨k,hk⟩:=jJ h2 W;simp only[ax.injEq,bG.injEq]at y;obtain⟨rfl,rfl⟩:=y;obtain⟨h0,h3,h4⟩:=hp;obtain⟨vs,he,hl⟩:=Q.agg_inv;have E:i.toNat<kk:=by omega
  have hb:i.toNat*n+n<=cs.length:=by rw[h4];have:=bo n (Nat.succ_le_of_lt E);rw[ed]at this;exact this
  obtain⟨v,O,hc⟩:=yR (P:=P) (w:=w) hl hn a1 Z hb;refine cE.val hM L ?_ hc;rw[he,hk];simp only[Instr.index,asIntOf,aC,aN,aq,run_underlying hd,if_pos (And.intro h0 h3),cz hn];exact O
 ·rename_i r q hd J I
  cases F;have Q:=aP hM J;have h2:=aP hM I;simp only[val]at y;split at y<;>try (cases y;done)
  rename_i l i hu W;rw[hu]at Q;obtain⟨k,hk⟩:=jJ h2 W;simp only[ax.injEq,bG.injEq]at y;obtain⟨rfl,rfl⟩:=y;refine cE.val hM L (u:= .int .u8 (l.getD i.toNat 0).toNat) ?_ (pD _);rw[Q.str_inv,hk];have E:i.toNat<l.length:=by omega
  have T:(ByteArray.mk ⟨l⟩)[i.toNat]? =some (l.getD i.toNat 0):=by rw[ByteArray.getElem?_lt' _ _ (by simpa[ByteArray.size]using E),aa,ac E];rfl
  simp only[Instr.index,asIntOf,aC,aN,aq,run_underlying hd,if_pos hp.1,T]
end Go.Sy
namespace Go.Sy
variable [bx]
variable {P : Program} {C : Ctx} {x : Sit} {s : St} {a : Act} {w : World} {o : Oper} {so : SOp} {p : Prop} {c : SV}
theorem kU{k:IntKind}{i:Int}{y:Nat}{code:BoundsCode}(E:0<=i)(F:i<=y):(Instr.sliceBound (.int k i) y code).run P w= .ok i.toNat w:=by simp only[Instr.sliceBound,asIntOf,aC,aN,aq,if_pos (And.intro E F)]
theorem vv{b:Bool}{len E:Nat}{lo hi L:Option Value}{i j m:Int}(I:0<=i)(O:i<=j)(T:j<=m)(Q:m<=E)
 (F:lo=none/\i=0\/∃k,lo=some (.int k i)) (J:hi=none/\j=len\/∃k,hi=some (.int k j)) (y:L=none/\m=E\/(∃k,L=some (.int k m))/\hi≠none):
 (Instr.sliceBounds b len E lo hi L).run P w= .ok (i.toNat,j.toNat,m.toNat) w:=by
 rcases y with⟨rfl,rfl⟩|⟨⟨k,rfl⟩,hne⟩<;>rcases J with⟨rfl,rfl⟩|⟨k',rfl⟩<;>rcases F with⟨rfl,rfl⟩|⟨k'',rfl⟩
 all_goals try exact absurd rfl hne
 all_goals simp only[Instr.sliceBounds,aC,aN,aq]
 ·simp
 ·rw[kU I (by omega)];simp
 ·rw[kU (by omega) (by omega)];simp
 ·rw[kU (by omega) (by omega)];simp only[aq];rw[kU I (by omega)];simp
 ·rw[kU (by omega) (by omega)];simp only[aq];rw[kU (by omega) (by omega)];simp
 ·rw[kU (by omega) (by omega)];simp only[aq];rw[kU (by omega) (by omega)];simp only[aq];rw[kU I (by omega)];simp
theorem gD(hM:aR C x s a w){q:Option Operand}{r:Option Arg}{d i:Int}(y:yT (bL P 0) q=some r)(h:jx s r d=some i):
 q.map a.eval=none/\i=d/\r=none\/(∃k,q.map a.eval=some (.int k i))/\r≠none:=by
 cases q with
 |none=>simp only[yT]at y;cases y;simp only[jx,ax.injEq]at h;exact .inl ⟨rfl,h.symm,rfl⟩
 |some q=>simp only[yT]at y;obtain⟨I,E,rfl⟩:=ah.1 y;simp only[jx]at h;obtain⟨k,F⟩:=jJ (aP hM E) h;exact .inr ⟨⟨k,by simp[F]⟩,by simp⟩
theorem yy{Q:Nat}{y:Option Addr}{n O:Nat}{i j m:Int}(h1:0<=i)(h2:i<=j)(h3:j<=m)(h4:m<=O)(h5:j<=n){t:Tok}{hn F:Bool}
 (L:dP x Q t (.slice y n O)) (E:hn=true->F=false->j=n/\m=O) (I:F=true->j=m):
 dP x Q (ni t hn F) (.slice (if m.toNat=i.toNat then y else y.map (·.add (i.toNat*Q))) (j.toNat-i.toNat) (m.toNat-i.toNat)):=by
 unfold ni;split
 ·rename_i Z
  exact⟨_,j.toNat-i.toNat,by rw[I Z]⟩
 ·rename_i Z
  split
  ·rename_i T
   obtain⟨rfl,rfl⟩:=E T (by simpa using Z);cases t with
   |no=>trivial
   |clip=>obtain⟨b',n',J⟩:=L;simp only[Value.slice.injEq]at J;exact⟨_,_,by rw[J.2.1,J.2.2]⟩
   |id t=>
    obtain⟨b',n',a1,J,T⟩:=L;simp only[Value.slice.injEq]at J;obtain⟨rfl,rfl,rfl⟩:=J;refine⟨_,_,_,rfl, ?_⟩;rcases T with rfl|⟨bb,off,rfl,ht⟩
    ·exact .inl rfl
    ·by_cases W:O=i.toNat
     ·left;omega
     ·right
      refine⟨bb,off+i.toNat*Q,by simp[W,dB], ?_⟩;rw[ht];simp only[Int.toNat_natCast,bG.injEq,true_and];constructor
      ·rw[fo,<-bH];congr 2;omega
      ·rw[fo,<-bH];congr 2;omega
  ·trivial
theorem iQ{α:Type}(l:List α)(i j k:Nat)(d:α)(h:k+i<j):((l.take j).drop i).getD k d=l.getD (i+k) d:=by simp only[aa,bB,bS];rw[if_pos (by omega)]
theorem x9(hM:aR C x s a w){t e:TypeId}{n:Nat}(hd:P.underlying t=some (.slice e))(hn:fI P e=some n){X:Operand}{lo hi mx:Option Operand}{b6 Z y:Option Arg}{r:Arg}
 (h1:Rep x (s.ev r) (a.eval X)) (d1:yT (bL P 0) lo=some b6) (e4:yT (bL P 0) hi=some Z) (b7:yT (bL P 0) mx=some y) (d5:¬(y.isSome&&Z.isNone)=true)
 (J:kp s n (s.ev r) b6 Z y=some (p,c)) (hp:p):∃v,(Instr.sliceAt t (a.eval X) (lo.map a.eval) (hi.map a.eval) (mx.map a.eval)).run P w= .ok v w/\Rep x c v:=by
 have run:∀(I:Option Addr)(len L:Nat)(i j m:Int),a.eval X= .slice I len L->0<=i->i<=j->j<=m->m<=L->jx s b6 0=some i->jx s Z len=some j->
  (y=none->m=L)->(y≠none->jx s y L=some m)->
  (Instr.sliceAt t (a.eval X) (lo.map a.eval) (hi.map a.eval) (mx.map a.eval)).run P w= .ok (.slice (if m.toNat=i.toNat then I else I.map (·.add (i.toNat*n))) (j.toNat-i.toNat) (m.toNat-i.toNat)) w:=by
  intro I len L i j m he h0 h2 h3 h4 W F e0 d4;rw[he];have e1:=gD hM d1 W;have e2:=gD hM e4 F
  have hb:(Instr.sliceBounds true len L (lo.map a.eval) (hi.map a.eval) (mx.map a.eval)).run P w= .ok (i.toNat,j.toNat,m.toNat) w:=by
   refine vv h0 h2 h3 h4 ?_ ?_ ?_
   ·rcases e1 with⟨O,q2,_⟩|⟨O,_⟩
    ·exact .inl ⟨O,q2⟩
    ·exact .inr O
   ·rcases e2 with⟨O,q2,_⟩|⟨O,_⟩
    ·exact .inl ⟨O,q2⟩
    ·exact .inr O
   ·by_cases E:y=none
    ·subst E
     have:jx s none (L:Int)=some (L:Int):=rfl;rcases gD hM b7 this with⟨O,q2,_⟩|⟨_,q2⟩
     ·exact .inl ⟨O,e0 rfl⟩
     ·exact absurd rfl q2
    ·rcases gD hM b7 (d4 E)with⟨_,_,q⟩|⟨O,_⟩
     ·exact absurd q E
     ·refine .inr ⟨O, ?_⟩
      rcases e2 with⟨O,_,q3⟩|⟨⟨k,O⟩,_⟩
      ·exfalso;apply d5;subst q3;cases y with
       |none=>exact absurd rfl E
       |some _=>rfl
      ·rw[O];simp
  simp only[Instr.sliceAt,Instr.slice,aC,run_underlying hd,aq,hb,cz hn,aN]
 cases hu:s.ev r with
 |byt l tk=>
  rw[hu]at J h1;simp only[kp]at J;split at J<;>try (cases J;done)
  rename_i i j m W F b0;simp only[ax.injEq,bG.injEq]at J;obtain⟨rfl,rfl⟩:=J;obtain⟨q0,O,q2,q3,rfl,q4⟩:=hp;obtain⟨I,L,he,hc,hD,b1⟩:=h1.byt_inv;rw[he]at hD b1
  obtain⟨T,a6,a1,a7,a2⟩:∃T:Int,T<=L/\j<=T/\(y=none->T=L)/\(y≠none->T=m):=by
   by_cases E:y=none
   ·exact⟨L,by omega,by omega,fun _=>rfl,fun h=>absurd E h⟩
   ·exact⟨m,by omega,q2,fun h=>absurd h E,fun _=>rfl⟩
  refine⟨_,run I l.length L i j T he q0 O a1 a6 W F a7 (fun h=> ?_), ?_⟩
  ·rw[a2 h];cases y with
   |none=>exact absurd rfl h
   |some q=>simpa only[jx]using b0
  ·refine .dat _ _ ?_ ?_
   ·have a8:((l.take j.toNat).drop i.toNat).length=j.toNat-i.toNat:=by rw[aE,an,fP (by omega)]
    cases hD with
    |bytN=>
     have:i.toNat=0/\j.toNat=0/\T.toNat=0:=by simp at q3;omega
     obtain⟨z1,z2,z3⟩:=this;simp only[z1,z2,z3,List.take_nil,List.drop_nil,Option.map_none,ite_self];exact .bytN _
    |bytE _ ad=>
     have:i.toNat=0/\j.toNat=0/\T.toNat=0:=by simp at q3;omega
     obtain⟨z1,z2,z3⟩:=this;simp only[z1,z2,z3,List.take_nil,List.drop_nil,if_true];exact .bytE _ _
    |byt _ _ b off _ _ c7 c5 hg=>
     by_cases Q:T.toNat=i.toNat
     ·rw[if_pos Q]
      exact .byt _ _ b off _ _ a8.symm (by omega) (fun k hk=>by omega)
     ·rw[if_neg Q,bE,dB]
      refine .byt _ _ b (off+i.toNat*1) _ _ a8.symm (by omega) (fun k hk=> ?_);rw[iQ _ _ _ _ _ (by omega),dq,fo];exact hg _ (by omega)
   ·refine yy q0 O a1 a6 (by omega) b1 ?_ ?_
    ·intro hh hx
     have E:y=none:=by cases y with|none=>rfl|some _=>simp at hx
     have b5:Z=none:=by cases Z with|none=>rfl|some _=>simp at hh
     subst b5;simp only[jx,ax.injEq]at F;exact⟨F.symm,a7 E⟩
    ·intro hx
     have E:y≠none:=by rintro rfl;simp at hx
     rw[a2 E];exact q4 hx
 |lst d6 l tk=>
  rw[hu]at J h1;simp only[kp]at J;split at J<;>try (cases J;done)
  rename_i i j m W F b0;simp only[ax.injEq,bG.injEq]at J;obtain⟨rfl,rfl⟩:=J;obtain⟨q0,O,q2,q3,rfl,q4⟩:=hp;obtain⟨I,L,he,hc,hD,b1⟩:=h1.lst_inv;rw[he]at hD b1
  obtain⟨T,a6,a1,a7,a2⟩:∃T:Int,T<=L/\j<=T/\(y=none->T=L)/\(y≠none->T=m):=by
   by_cases E:y=none
   ·exact⟨L,by omega,by omega,fun _=>rfl,fun h=>absurd E h⟩
   ·exact⟨m,by omega,q2,fun h=>absurd h E,fun _=>rfl⟩
  refine⟨_,run I l.length L i j T he q0 O a1 a6 W F a7 (fun h=> ?_), ?_⟩
  ·rw[a2 h];cases y with
   |none=>exact absurd rfl h
   |some q=>simpa only[jx]using b0
  ·refine .dat _ _ ?_ ?_
   ·have a8:((l.take j.toNat).drop i.toNat).length=j.toNat-i.toNat:=by rw[aE,an,fP (by omega)]
    cases hD with
    |lstN=>
     have:i.toNat=0/\j.toNat=0/\T.toNat=0:=by simp at q3;omega
     obtain⟨z1,z2,z3⟩:=this;simp only[z1,z2,z3,List.take_nil,List.drop_nil,Option.map_none,ite_self];exact .lstN _ _
    |lstE _ _ ad=>
     have:i.toNat=0/\j.toNat=0/\T.toNat=0:=by simp at q3;omega
     obtain⟨z1,z2,z3⟩:=this;simp only[z1,z2,z3,List.take_nil,List.drop_nil,if_true];exact .lstE _ _ _
    |lst _ _ _ b off _ _ vl c7 c5 hl hg hh=>
     by_cases Q:T.toNat=i.toNat
     ·rw[if_pos Q]
      exact .lst _ _ _ b off _ _ vl a8.symm (by omega) (fun k hk=>by omega) (fun k j' hk hj=>by omega) (fun k j' hk hj=>by omega)
     ·rw[if_neg Q,bE,dB]
      refine .lst _ _ _ b (off+i.toNat*n) _ _ (fun k j'=>vl (i.toNat+k) j') a8.symm (by omega) (fun k hk=> ?_) (fun k j' hk hj=> ?_) (fun k j' hk hj=> ?_)
      ·rw[iQ _ _ _ _ _ (by omega)];exact hl _ (by omega)
      ·rw[show off+i.toNat*n+k*n+j'=off+(i.toNat+k)*n+j' from by rw[bH];omega]
       exact hg _ _ (by omega) hj
      ·rw[iQ _ _ _ _ _ (by omega)];exact hh _ _ (by omega) hj
   ·refine yy q0 O a1 a6 (by omega) b1 ?_ ?_
    ·intro hh hx
     have E:y=none:=by cases y with|none=>rfl|some _=>simp at hx
     have b5:Z=none:=by cases Z with|none=>rfl|some _=>simp at hh
     subst b5;simp only[jx,ax.injEq]at F;exact⟨F.symm,a7 E⟩
    ·intro hx
     have E:y≠none:=by rintro rfl;simp at hx
     rw[a2 E];exact q4 hx
 |psl o' d6 off k e3=>
  cases e3 with
  |none=>
   rw[hu]at J h1;simp only[kp]at J;split at J<;>try (cases J;done)
   rename_i i j W F;simp only[ax.injEq,bG.injEq]at J;obtain⟨rfl,rfl⟩:=J;obtain⟨q0,O,q2,rfl⟩:=hp;obtain⟨L,d3,b3,he,b4,d2⟩:=h1.psl_invK;refine⟨_,run _ k L i j L he q0 O (by omega) (by omega) W F (fun _=>rfl) (fun h=>absurd rfl h), ?_⟩
   by_cases Q:(L:Int).toNat=i.toNat
   ·rw[if_pos Q]
    exact .psl o' n _ _ _ b3 _ (.inl (by omega)) (by omega) (fun _ e=>by cases e) (fun _=> .inl (by omega))
   ·rw[if_neg Q,bE,dB]
    refine .psl o' n _ _ _ _ _ (.inr ?_) (by omega) (fun _ e=>by cases e) (fun _=>d2.imp (fun h=>by omega) fun k1=> ?_)
    rotate_left
    ·have e2:i.toNat*n+((L:Int).toNat-i.toNat)*n=L*n:=by rw[<-bH];congr 1;omega
     omega
    rcases b4 with h'|rfl
    ·omega
    ·rw[bH]
  |some d7=>
   rw[hu]at J h1;simp only[kp]at J;split at J<;>try (cases J;done)
   rename_i i j m W F b0;simp only[ax.injEq,bG.injEq]at J;obtain⟨rfl,rfl⟩:=J;obtain⟨q0,O,q2,q3,rfl⟩:=hp;obtain⟨L,d3,c3,b3,he,b4⟩:=h1.psl_inv;obtain rfl:=c3 _ rfl;refine⟨_,run _ k d7 i j m he q0 O q2 q3 W F (fun h=> ?_) (fun _=>b0), ?_⟩
   ·subst h;simp only[jx,ax.injEq]at b0;exact b0.symm
   ·by_cases Q:m.toNat=i.toNat
    ·rw[if_pos Q]
     exact .psl o' n _ _ _ b3 _ (.inl (by omega)) (by omega) (fun _ e=>by cases e;rfl) (fun e=>by cases e)
    ·rw[if_neg Q,bE,dB]
     refine .psl o' n _ _ _ _ _ (.inr ?_) (by omega) (fun _ e=>by cases e;rfl) (fun e=>by cases e);rcases b4 with h'|rfl
     ·omega
     ·rw[bH]
 |_=>rw[hu]at J;simp[kp]at J
end Go.Sy
namespace Go.Sy
variable [bx]
variable {P : Program} {C : Ctx} {x : Sit} {s : St} {a : Act} {w : World} {o : Oper} {so : SOp} {p : Prop} {c : SV}
theorem D5(l:d9)(i j:Nat):(ByteArray.mk ⟨l⟩).extract i j=ByteArray.mk ⟨(l.take j).drop i⟩:=by apply ByteArray.ext;simp[ByteArray.data_extract,List.extract_eq_take_drop,fW]
theorem GZ(hM:aR C x s a w){t:TypeId}{X:Operand}{lo hi mx:Option Operand}(ho:o.op= .slice t X lo hi mx)(E:bM P o=some so)(y:val s so=some (p,c))(hp:p):cE P C o a w (s.put o.dst c):=by
 have I:execOp a.eval o=(do pure (.value (<-Instr.sliceAt t (a.eval X) (lo.map a.eval) (hi.map a.eval) (mx.map a.eval)))):=by simp only[execOp,ho]
 simp only[bM,ho]at E;split at E<;>try (cases E;done)
 rename_i b1 b0 a6 r J Q F hX;split at E
 ·cases E
 rename_i T;split at E<;>try (cases E;done)
 ·rename_i hd
  split at E<;>try (cases E;done)
  rename_i a2;cases E;have h1:=aP hM hX;simp only[val]at y;cases hu:s.ev r with
  |str l=>
   rw[hu]at y h1;simp only[]at y;split at y<;>try (cases y;done)
   rename_i i j O L;simp only[ax.injEq,bG.injEq]at y;obtain⟨rfl,rfl⟩:=y;obtain⟨q0,q1,q2⟩:=hp;refine cE.val hM I (u:= .string ⟨⟨(l.take j.toNat).drop i.toNat⟩⟩) ?_ (mh _);have e1:=gD hM J O;have e2:=gD hM Q L
   have a1:mx.map a.eval=none:=by
    cases mx with
    |none=>rfl
    |some q=>simp only[yT]at F;obtain⟨_,_,rfl⟩:=ah.1 F;simp at a2
   have hb:(Instr.sliceBounds false l.length l.length (lo.map a.eval) (hi.map a.eval) none).run P w= .ok (i.toNat,j.toNat,(l.length:Int).toNat) w:=
    vv q0 q1 q2 (by omega) (e1.imp (fun h=>⟨h.1,h.2.1⟩) (fun h=>h.1)) (e2.imp (fun h=>⟨h.1,h.2.1⟩) (fun h=>h.1)) (.inl ⟨rfl,rfl⟩)
   rw[h1.str_inv,a1];have a7:(ByteArray.mk ⟨l⟩).size=l.length:=by simp[ByteArray.size]
   simp only[Instr.sliceAt,Instr.slice,aC,run_underlying hd,aq,a7,hb,D5,Option.isSome_none,aO,if_false,aN]
  |_=>rw[hu]at y;simp at y
 ·rename_i e hd
  split at E<;>try (cases E;done)
  rename_i n hn;cases E;simp only[val]at y;obtain⟨v,W,hc⟩:=x9 hM hd hn (aP hM hX) J Q F T y hp;exact cE.val hM I W hc
 ·rename_i k e hd
  split at E<;>try (cases E;done)
  rename_i n hn;cases E;have h1:=aP hM hX;simp only[val]at y;split at y<;>try (cases y;done)
  rename_i o' hu;rw[hu]at h1;simp only[kp]at y;split at y<;>try (cases y;done)
  rename_i i j m O L a8;simp only[ax.injEq,bG.injEq]at y;obtain⟨rfl,rfl⟩:=y;obtain⟨q0,q1,q2,q3,_⟩:=hp;have e1:=gD hM J O;have e2:=gD hM Q L;have e3:=gD hM F a8
  have hb:(Instr.sliceBounds false k k (lo.map a.eval) (hi.map a.eval) (mx.map a.eval)).run P w= .ok (i.toNat,j.toNat,m.toNat) w:=by
   refine vv q0 q1 q2 q3 (e1.imp (fun h=>⟨h.1,h.2.1⟩) (fun h=>h.1)) (e2.imp (fun h=>⟨h.1,h.2.1⟩) (fun h=>h.1)) ?_;rcases e3 with h|⟨h,h'⟩
   ·exact .inl ⟨h.1,h.2.1⟩
   ·refine .inr ⟨h, ?_⟩
    rcases e2 with⟨_,_,q⟩|⟨⟨_,q⟩,_⟩
    ·exfalso;apply T;subst q;cases a6 with
     |none=>exact absurd rfl h'
     |some _=>rfl
    ·rw[q];simp
  refine cE.val hM I (u:= .slice (some (if m.toNat=i.toNat then⟨(x.bk o').1,0,none⟩else(⟨(x.bk o').1,0,none⟩:Addr).add (i.toNat*n))) (j.toNat-i.toNat) (m.toNat-i.toNat)) ?_ ?_
  ·rw[h1.ptr_inv]
   simp only[Instr.sliceAt,Instr.sureAddr,aC,run_underlying hd,aq,hb,cz hn,aN]
  ·by_cases Z:m.toNat=i.toNat
   ·rw[if_pos Z]
    exact .psl o' n _ _ _ 0 _ (.inl (by omega)) (by omega) (fun _ e=>by cases e;rfl) (fun e=>by cases e)
   ·rw[if_neg Z,dB]
    exact .psl o' n _ _ _ _ _ (.inr (by rw[bY,bY])) (by omega) (fun _ e=>by cases e;rfl) (fun e=>by cases e)
theorem gq{y:Call}{b:Builtin}(I:o.op= .call y)(E:y.callee= .builtin b)(m:Sem Value)
 (F:builtin b y.argTypes o.type (y.args.map fun| .const _=>true|_=>false) (y.args.map a.eval)=(do pure (.value (<-m)))):execOp a.eval o=(do pure (.value (<-m))):=by
 rw[<-F];simp only[execOp,I,resolve,E];rfl
theorem Yr(hM:aR C x s a w){J:Call}(Q:o.op= .call J)(T:J.callee= .builtin .cap)(L:bM P o=some so)(I:val s so=some (p,c)):cE P C o a w (s.put o.dst c):=by
 simp only[bM,Q,T]at L;split at L<;>try (cases L;done)
 rename_i X t hX ht;split at L<;>try (cases L;done)
 rename_i e r hd a2;cases L;have O:=aP hM a2;have ea:J.args= #[X]:=by apply eI;simpa using hX
 have et:J.argTypes= #[t]:=by apply eI;simpa using ht
 have run:∀(bs:Option Addr)(n F:Nat),a.eval X= .slice bs n F->(Builtin.cap_ J.argTypes o.type (J.args.map a.eval)).run P w= .ok (.int .i64 F) w:=by intro bs n F E;rw[ea,et];simp[Builtin.cap_,run_underlying hd,E,goInt]
 simp only[val]at I;split at I<;>try (cases I;done)
 ·rename_i o' sz off n F hu
  rw[hu]at O;simp only[ax.injEq,bG.injEq]at I;obtain⟨rfl,rfl⟩:=I;obtain⟨F,_,W,a6,E,_⟩:=O.psl_inv;obtain rfl:=W _ rfl;exact cE.val hM (gq Q T _ rfl) (run _ _ _ E) (cZ _ _)
 ·rename_i l hu
  rw[hu]at O;simp only[ax.injEq,bG.injEq]at I;obtain⟨rfl,rfl⟩:=I;obtain⟨b',F,E,_,_,a1,Z,y⟩:=O.byt_inv;rw[E]at y;simp only[Value.slice.injEq]at y;rw[show F=l.length from by omega]at E;exact cE.val hM (gq Q T _ rfl) (run _ _ _ E) (cZ _ _)
 ·rename_i sz l hu
  rw[hu]at O;simp only[ax.injEq,bG.injEq]at I;obtain⟨rfl,rfl⟩:=I;obtain⟨b',F,E,_,_,a1,Z,y⟩:=O.lst_inv;rw[E]at y;simp only[Value.slice.injEq]at y;rw[show F=l.length from by omega]at E;exact cE.val hM (gq Q T _ rfl) (run _ _ _ E) (cZ _ _)
theorem Yp(hM:aR C x s a w){T:Call}(O:o.op= .call T)(J:T.callee= .builtin .len)(E:bM P o=some so)(y:val s so=some (p,c)):cE P C o a w (s.put o.dst c):=by
 simp only[bM,O,J]at E;split at E<;>try (cases E;done)
 rename_i X t hX ht;have W:T.args= #[X]:=by apply eI;simpa using hX
 have Z:T.argTypes= #[t]:=by apply eI;simpa using ht
 split at E<;>try (cases E;done)
 ·rename_i r hd F
  cases E;have I:=aP hM F;simp only[val]at y;cases hu:s.ev r with
  |str l=>
   rw[hu]at y I;simp only[lc,if_true,ax.injEq,bG.injEq]at y;obtain⟨_,rfl⟩:=y;refine cE.val hM (gq O J _ rfl) (u:= .int .i64 l.length) ?_ (cZ _ _);rw[W,Z];have a1:(ByteArray.mk ⟨l⟩).size=l.length:=by simp[ByteArray.size]
   simp only[Builtin.len_,List.map_toArray,aI,bO,dh,List.getElem?_cons_zero,aC,run_underlying hd,aq,I.str_inv,a1,goInt];rfl
  |_=>rw[hu]at y;simp[lc]at y
 ·rename_i e r hd F
  cases E;have I:=aP hM F;simp only[val]at y
  have run:∀(bs:Option Addr)(n Q:Nat),a.eval X= .slice bs n Q->(Builtin.len_ T.argTypes o.type (T.args.map a.eval)).run P w= .ok (.int .i64 n) w:=by intro bs n Q L;rw[W,Z];simp only[Builtin.len_,List.map_toArray,aI,bO,dh,List.getElem?_cons_zero,aC,run_underlying hd,aq,L,goInt];rfl
  cases hu:s.ev r with
  |byt l tk=>rw[hu]at y I;simp only[lc,aO,if_false,ax.injEq,bG.injEq]at y;obtain⟨_,rfl⟩:=y;obtain⟨b',Q,L,_⟩:=I.byt_inv;exact cE.val hM (gq O J _ rfl) (run _ _ _ L) (cZ _ _)
  |lst sz l tk=>rw[hu]at y I;simp only[lc,aO,if_false,ax.injEq,bG.injEq]at y;obtain⟨_,rfl⟩:=y;obtain⟨b',Q,L,_⟩:=I.lst_inv;exact cE.val hM (gq O J _ rfl) (run _ _ _ L) (cZ _ _)
  |psl o' sz off n Q=>rw[hu]at y I;simp only[lc,aO,if_false,ax.injEq,bG.injEq]at y;obtain⟨_,rfl⟩:=y;obtain⟨Q,_,a7,a6,L,_⟩:=I.psl_inv;exact cE.val hM (gq O J _ rfl) (run _ _ _ L) (cZ _ _)
  |_=>rw[hu]at y;simp[lc]at y
 ·rename_i n e r hd F
  cases E;simp only[val,ax.injEq,bG.injEq]at y;obtain⟨_,rfl⟩:=y;refine cE.val hM (gq O J _ rfl) (u:= .int .i64 n) ?_ (cZ _ _);rw[W,Z];simp only[Builtin.len_,List.map_toArray,aI,bO,dh,List.getElem?_cons_zero,aC,run_underlying hd,aq,goInt];rfl
 ·rename_i arr r hd F
  split at E<;>try (cases E;done)
  rename_i n e a2;cases E;simp only[val,ax.injEq,bG.injEq]at y;obtain⟨_,rfl⟩:=y;refine cE.val hM (gq O J _ rfl) (u:= .int .i64 n) ?_ (cZ _ _);rw[W,Z];simp only[Builtin.len_,List.map_toArray,aI,bO,dh,List.getElem?_cons_zero,aC,run_underlying hd,run_underlying a2,aq,goInt];rfl
theorem pO(hM:aR C x s a w){I:Call}(O:o.op= .call I)(F:I.callee= .builtin .min\/I.callee= .builtin .max)(E:bM P o=some so)(y:val s so=some (p,c)):cE P C o a w (s.put o.dst c):=by
 rcases F with F|F
 all_goals
  simp only[bM,O,F]at E;split at E<;>try (cases E;done)
  rename_i X Y t u hX ht;split at E<;>try (cases E;done)
  rename_i r q L J;cases E;have T:=aP hM L;have Q:=aP hM J;have ea:I.args= #[X,Y]:=by apply eI;simpa using hX
  simp only[val]at y;split at y<;>try (cases y;done)
  rename_i k m k' n hu W;rw[hu]at T;rw[W]at Q;split at y<;>try (cases y;done)
  rename_i Z;subst Z;simp only[ax.injEq,bG.injEq]at y;obtain⟨_,rfl⟩:=y;refine cE.val hM (gq O F _ rfl) ?_ (cZ _ _);rw[ea,show(#[X,Y].map a.eval)= #[.int k m,.int k n]from by simp[T.int_inv,Q.int_inv]]
  first
   |exact run_min_int2 w _ _ _ _ _ _
   |rw[run_max_int2 w _ _ _ _ _ _]
end Go.Sy
namespace Go.Sy
variable [bx]
variable {P : Program} {C : Ctx} {x : Sit} {s : St} {a : Act} {w : World} {o : Oper} {so : SOp} {p : Prop} {c : SV}
theorem kd{e:TypeId}(h:m9 P e=true):P.underlying e=some (.int .u8):=by
 unfold m9 at h;split at h
 ·assumption
 ·cases h
theorem Yy(k:IntKind)(b:UInt8)(E:k≠ .i8)(y:k≠ .u8):k.wrap (b.toNat:Int)=b.toNat:=by have:=ph b;cases k<;>simp[IntKind.wrap,IntKind.bits,IntKind.signed]at* <;>omega
theorem Bj(ns:d9):∀(s:ByteArray),(ns.map fun b=>(b.toNat:Int)).foldl (fun r n=>r.push (ip n.toNat)) s=⟨⟨s.data.toList++ns⟩⟩:=by
 induction ns with
 |nil=>intro s;simp
 |cons b r y=>intro s;simp only[aI,ez];rw[y];simp[ByteArray.push]
theorem Ee{bs:Value}{l:d9}{y dst e:TypeId}(E:P.underlying y=some (.slice e))(F:P.underlying e=some (.int .u8))(hd:P.underlying dst=some .string)
 (h:((∃a,bs= .slice a 0 0)/\l=[])\/∃b off cap,bs= .slice (some ⟨b,off,none⟩) l.length cap/\∀i,i<l.length->w.cell? ⟨b,off+i,none⟩=some (.int .u8 (l.getD i 0).toNat)):
 (convert y dst bs).run P w= .ok (.string ⟨⟨l⟩⟩) w:=by
 rcases h with⟨⟨a,rfl⟩,rfl⟩|⟨b,off,cap,rfl,hc⟩
 ·rw[run_convert_bytes_string w y dst e _ _ _ E F hd];cases a<;>rfl
 ·rw[run_convert_bytes_string w y dst e _ _ _ E F hd]
  have I:(loadCells ⟨b,off,none⟩ l.length).run P w= .ok ((l.map fun b=>(b.toNat:Int)).map (Value.int .u8)).toArray w:=by
   rw[run_loadCells w _ _ (fun i=> .int .u8 (l.getD i 0).toNat) (fun j J=>by rw[dB];exact hc j J)]
   congr 2
   apply List.ext_getElem?;intro i
   by_cases hi:i<l.length
   ·simp[hi,aa]
   ·simp[hi]
  rw[run_bytesToString w _ _ _ _ I,Bj];rfl
theorem io(w:World)(cs:LAc)(e:TypeId):((w.alloc (.cells cs e (0,0))).freeze ⟨w.heap.size,cs.size,none⟩ 1).heap=(w.alloc (.cells cs e (cs.size,cs.size+1))).heap:=by
 apply Array.ext_getElem?;intro i;simp only[World.freeze,Nat.one_ne_zero,if_false,World.alloc,Array.getElem?_modify,Array.getElem?_push]
 by_cases h:w.heap.size=i
 ·subst h;simp
 ·rw[if_neg h]
  have:¬i=w.heap.size:=fun e=>h e.symm
  simp[this]
theorem fa{b n:Nat}{e:TypeId}{off:Nat}(h:w.shape? b=some (e,n)):(markStringish ⟨b,off,none⟩).run P w= .ok () (w.freeze ⟨b,n,none⟩ 1):=by simp only[markStringish,aC,run_shape,aq,h,run_freeze]
theorem x7(hM:aR C x s a w){a1 dst:TypeId}{X:Operand}(ho:o.op= .convert a1 dst X)(L:bM P o=some so)(y:val s so=some (p,c))(hp:p):cE P C o a w (s.put o.dst c):=by
 have O:execOp a.eval o=(do pure (.value (<-convert a1 dst (a.eval X)))):=by simp only[execOp,ho]
 simp only[bM,ho]at L;split at L<;>try (cases L;done)
 ·rename_i k0 k r W hd I
  cases L;have F:=aP hM I;simp only[val]at y;obtain⟨c',E,T⟩:=ah.1 y;simp only[bG.injEq]at T;obtain⟨_,rfl⟩:=T
  have run:∀k1 n,a.eval X= .int k1 n->(convert a1 dst (a.eval X)).run P w= .ok (.int k (k.wrap n)) w:=by intro k1 n T;rw[T];simp[convert,run_underlying W,run_underlying hd,Conv.intToInt]
  cases hu:s.ev r with
  |int k1 n=>
   rw[hu]at E F;refine cE.val hM O (run k1 n F.int_inv) ?_
   cases k<;>simp only[iV,ax.injEq]at E<;>subst E<;>first
    |exact cZ _ _
    |(rw[gJ,<-yg];exact pD _)
  |u8 b=>
   rw[hu]at E F;refine cE.val hM O (run .u8 b.toNat F.u8_inv) ?_
   cases k<;>simp only[iV,ax.injEq,reduceCtorEq]at E<;>subst E<;>first
    |(rw[Yy _ _ (by decide) (by decide)];exact cZ _ _)
    |(rw[gJ,Int.emod_eq_of_lt (by omega) (by have:=ph b;omega)];exact pD _)
  |_=>rw[hu]at E;simp[iV]at E
 ·rename_i r W hd I
  cases L;have F:=aP hM I;simp only[val]at y;cases hu:s.ev r with
  |str l=>rw[hu]at y F;simp only[ax.injEq,bG.injEq]at y;obtain⟨_,rfl⟩:=y;refine cE.val hM O (u:= .string ⟨⟨l⟩⟩) ?_ (mh _);rw[F.str_inv];simp[convert,run_underlying W,run_underlying hd]
  |_=>rw[hu]at y;simp at y
 ·rename_i e r W hd I
  split at L<;>try (cases L;done)
  rename_i h8;have T:=kd h8;cases L;have F:=aP hM I;simp only[val]at y;cases hu:s.ev r with
  |byt l tk=>
   rw[hu]at y F;simp only[By,ax.injEq,bG.injEq]at y;obtain⟨_,rfl⟩:=y;refine cE.val hM O (Ee W T hd ?_) (mh _);have hD:=F.data rfl;cases hXv:a.eval X with
   |slice ad n Q=>
    rw[hXv]at hD;cases hD with
    |bytN=>exact .inl ⟨⟨_,rfl⟩,rfl⟩
    |bytE=>exact .inl ⟨⟨_,rfl⟩,rfl⟩
    |byt _ _ b off _ _ hn hc hg=>subst hn;exact .inr ⟨b,off,Q,rfl,fun i hi=>hM.heap.per _ _ _ (hg i hi)⟩
   |_=>rw[hXv]at hD;cases hD
  |psl o' sz off n Q=>
   rw[hu]at y F;simp only[By]at y;cases hl:s.look o' with
   |none=>simp[hl]at y
   |some obj=>
    cases obj with
    |bar l=>
     simp only[hl,ax.injEq,bG.injEq]at y;obtain⟨rfl,rfl⟩:=y;obtain⟨b0,b6⟩:=hp;obtain⟨Q,b7,_,J,b3,a6⟩:=F.psl_inv;have Z:((l.drop off).take n).length=n:=by simp;omega
     refine cE.val hM O (Ee W T hd (.inr ⟨(x.bk o').1,J,Q,by rw[Z];exact b3,fun i hi=> ?_⟩)) (mh _);rw[Z]at hi
     have a2:J=off:=by
      rcases a6 with h|h
      ·omega
      ·rw[b0,dq]at h;exact h
     subst a2;obtain⟨v,h2,h3⟩:=(fA hM hl).cell (k:=J+i) (by simp only[aH.size];omega);rw[h2];have h4:cR x.G (.u8 (l.getD (J+i) 0)) v:=h3;cases h4;simp only[aa,bS,if_pos hi,bB]
    |_=>simp[hl]at y
  |_=>rw[hu]at y;simp[By]at y
 ·rename_i e r W hd I
  split at L<;>try (cases L;done)
  rename_i h8;have T:=kd h8;cases L;have F:=aP hM I;simp only[val]at y;cases hu:s.ev r with
  |str l=>
   rw[hu]at y F;simp only[ax.injEq,bG.injEq]at y;obtain⟨_,rfl⟩:=y;have hf:(Question.appendCap (ByteArray.mk ⟨l⟩).size 0 e).forced=false:=rfl
   obtain⟨Q,b4,b1⟩:∃Q,(Question.appendCap (ByteArray.mk ⟨l⟩).size 0 e).cut (w.tape w.drawn (Question.appendCap (ByteArray.mk ⟨l⟩).size 0 e))=Q/\l.length<=Q:=by
    refine⟨_,rfl, ?_⟩;simp only[Question.cut];have:(ByteArray.mk ⟨l⟩).size=l.length:=by simp[ByteArray.size]
    omega
   let cs:LAc:=(ByteArray.mk ⟨l⟩).data.map (fun b=> .int .u8 b.toNat)++eT (Q-(ByteArray.mk ⟨l⟩).size) (.int .u8 0)
   have a7:(ByteArray.mk ⟨l⟩).size=l.length:=by simp[ByteArray.size]
   have b5:cs.size=Q:=by simp[cs,a7];omega
   have a8:∀i,i<l.length->cs[i]? =some (.int .u8 (l.getD i 0).toNat):=by intro i hi;simp only[cs];rw[cy (by simpa using hi)];simp[hi,aa]
   have hw:∀w0:World,((w0.alloc (.cells cs e (0,0))).freeze ⟨w0.heap.size,cs.size,none⟩ 1).heap=(w0.alloc (.cells cs e (cs.size,cs.size+1))).heap:=fun w0=>io w0 cs e
   refine cE.grow (x':=x.newD w.heap.size cs l.length) (w':=((w.drew.alloc (.cells cs e (0,0))).freeze ⟨w.heap.size,cs.size,none⟩ 1)) hM O (u:= .slice (some ⟨w.heap.size,0,none⟩) l.length Q) ?_ (hM.heap.newD_le cs l.length) rfl rfl ?_ ?_
   ·rw[F.str_inv]
    simp only[convert,aC,run_underlying W,run_underlying hd,aq,run_underlying T,Conv.stringToBytes,run_choose_drew,hf,aO,if_false,b4,newRow,run_newObj_alloc,aN];rw[fa (e:=e) (n:=cs.size) (by simp only[World.shape?];rw[heap_alloc_new])];simp only[aq,a7];rfl
   ·refine dl.congr (w:=(w.drew.alloc (.cells cs e (cs.size,cs.size+1)))) ?_ (hw w.drew) rfl rfl rfl
    exact hM.heap.drew.allocD l.length
   ·refine .dat _ _ (.byt l .no w.heap.size 0 Q l.length rfl b1 fun i hi=> ?_) trivial
    simp only[Sit.newD];rw[if_pos ⟨trivial,by omega⟩,bY];exact a8 i hi
  |_=>rw[hu]at y;simp at y
 ·split at L<;>try (cases L;done)
  cases L;simp only[val]at y;cases y
end Go.Sy
namespace Go.Sy
variable [bx]
variable {P : Program} {C : Ctx} {x : Sit} {s : St} {a : Act} {w : World} {o : Oper} {so : SOp} {p : Prop} {c : SV}
theorem de{t:TypeId}{vs:LAb}(h:gQ P t=some vs):∃z:Value,z.cells.toList=vs/\∀w:World,(zeroValue t).run P w= .ok z w:=by
 unfold gQ at h;cases hi:P.info? t with
 |none=>simp[hi]at h
 |some i=>simp only[hi,dp]at h;obtain⟨z,hz,rfl⟩:=ah.1 h;exact⟨z,rfl,fun w=>by simp[zeroValue,run_typeInfo w hi,hz]⟩
theorem H3{cs:f8}{vs:LAb}(h:IP cs vs=true):cL x cs vs:=by unfold IP at h;simp only[aD,decide_eq_true_eq,bf,dt]at h;exact⟨h.1,fun i hi=>rG (h.2 i hi)⟩
theorem tU{t:TypeId}{cs:f8}(h:pf P t=some cs):∃vs,gQ P t=some vs/\cL x cs vs:=by
 unfold pf at h;cases hz:gQ P t with
 |none=>simp[hz]at h
 |some vs=>
  simp only[hz,dp]at h;cases hc:Iv P (oA P 30 t) vs with
  |none=>simp[hc]at h
  |some r=>
   simp only[hc,dp]at h;split at h
   ·rename_i y;simp at h;subst h;exact⟨vs,rfl,H3 y⟩
   ·cases h
theorem kj{t:TypeId}{cs:f8}(h:pf P t=some cs):∃vs,gQ P t=some vs/\cs.length=vs.length/\∀(G:GM) i,i<cs.length->cR G (cs.getD i .undef) (vs.getD i undef):=by
 unfold pf at h;cases hz:gQ P t with
 |none=>simp[hz]at h
 |some vs=>
  simp only[hz,dp]at h;cases hc:Iv P (oA P 30 t) vs with
  |none=>simp[hc]at h
  |some r=>
   simp only[hc,dp]at h;split at h
   ·rename_i y;simp at h;subst h
    unfold IP at y;simp only[aD,decide_eq_true_eq,bf,dt]at y;exact⟨vs,rfl,y.1,fun G i hi=>nH (y.2 i hi)⟩
   ·cases h
theorem Rep.cells{v:SV}{u:Value}(h:Rep x v u)(hd:v.isDef=true):cL x v.cells u.cells.toList:=by
 have one:∀{v:SV}{u:Value},Rep x v u->v.cells=[v]->u.cells= #[u]->cL x v.cells u.cells.toList:=by
  intro v u h L J;rw[L,J]
  exact⟨rfl,fun i hi=>by
   obtain rfl:i=0:=by simpa using hi
   exact h⟩
 cases h with
 |undef=>simp[SV.isDef]at hd
 |agg cs vs I F=>exact⟨I,F⟩
 |dat s v h Q=>exact one (.dat _ _ h Q) (by cases h<;>rfl) (by cases h<;>rfl)
 |ptr o off=>exact one (.ptr o off) rfl rfl
 |ap o O i j=>exact one (.ap o O i j) rfl rfl
 |psl o O off n cap y E h hn hc Z=>exact one (.psl o O off n cap y E h hn hc Z) rfl rfl
 |tup cs vs I F=>exact one (.tup cs vs I F) rfl rfl
 |fn f a b u v L J W T=>exact one (.fn f a b u v L J W T) rfl rfl
theorem gR{α:Type}(cs v:List α)(q i:Nat)(h:q+v.length<=cs.length):(cs.take q++v++cs.drop (q+v.length))[i]? =if q<=i/\i<q+v.length then v[i-q]? else cs[i]? :=by
 simp only[List.getElem?_append,ae,an,bS,bB];have F:min q cs.length=q:=fP (by omega);rw[F]
 by_cases E:i<q
 ·rw[if_pos (by omega),if_pos E,if_pos E,if_neg (by omega)]
 ·by_cases y:i<q+v.length
  ·rw[if_pos y,if_neg E,if_pos ⟨by omega,y⟩]
  ·rw[if_neg y,if_neg (by omega)];congr 1;omega
theorem H8(off:Nat)(v:LAb):∀(cs:LAc)(k i:Nat),off+k+v.length<=cs.size->
 ((v.zipIdx k).foldl (fun cs (c,j)=>cs.setIfInBounds (off+j) c) cs)[i]? =if off+k<=i/\i<off+k+v.length then v[i-(off+k)]? else cs[i]? :=by
 induction v with
 |nil=>intro cs k i E;rw[if_neg (by simp only[aB];omega)];rfl
 |cons u r I=>
  intro cs k i E;simp only[al]at E;simp only[List.zipIdx_cons,ez];rw[I _ (k+1) i (by simp;omega)];simp only[al,Array.getElem?_setIfInBounds]
  by_cases y:off+k=i
  ·subst y
   rw[if_neg (by omega),if_pos rfl,if_pos (by omega),if_pos (by omega)];simp
  ·by_cases F:off+(k+1)<=i/\i<off+(k+1)+r.length
   ·rw[if_pos F,if_pos (by omega),show i-(off+k)=(i-(off+(k+1)))+1 from by omega]
    simp
   ·rw[if_neg F,if_neg y,if_neg (by omega)]
theorem uF(cs:LAc)(off:Nat)(v:LAb)(h:off+v.length<=cs.size):
 (v.zipIdx.foldl (fun cs (c,j)=>cs.setIfInBounds (off+j) c) cs).toList=cs.toList.take off++v++cs.toList.drop (off+v.length):=by
 apply List.ext_getElem?;intro i;rw[gR _ _ _ _ (by simpa using h)];have:=H8 off v cs 0 i (by simpa using h);simpa using this
theorem cL.append{c1 c2:f8}{v1 E:LAb}(y:cL x c1 v1)(F:cL x c2 E):cL x (c1++c2) (v1++E):=by
 refine⟨by simp[y.1,F.1],fun i hi=> ?_⟩;simp only[aa,List.getElem?_append]
 by_cases h:i<c1.length
 ·rw[if_pos h,if_pos (by rw[<-y.1];exact h)]
  simpa only[aa]using y.2 i h
 ·rw[if_neg h,if_neg (by rw[<-y.1];exact h),y.1]
  have:=F.get (i-v1.length);simpa only[aa]using this
theorem cL.take{c1:f8}{v1:LAb}(E:cL x c1 v1)(n:Nat):cL x (c1.take n) (v1.take n):=by
 refine⟨by simp[E.1],fun i hi=> ?_⟩;have y:i<n/\i<c1.length:=by simp only[an]at hi;omega
 simp only[aa,bS,if_pos y.1];simpa only[aa]using E.2 i y.2
theorem cL.drop{c1:f8}{v1:LAb}(y:cL x c1 v1)(n:Nat):cL x (c1.drop n) (v1.drop n):=by refine⟨by simp[y.1],fun i hi=> ?_⟩;simp only[aa,bB];have:=y.get (n+i);simpa only[aa]using this
theorem qU(hM:aR C x s a w)(F:Nat->Option (Nat×Nat)):∀(I:List (Nat×Operand))(E:List (Nat×Nat×Arg))(cs:f8)(vs:LAc)(r:f8),cL x cs vs.toList->
 E.length=I.length->(∀i (h:i<I.length) (h':i<E.length),F I[i].1=some (E[i].1,E[i].2.1)/\∃t,bL P t I[i].2=some E[i].2.2)->
 jF cs (E.map fun(o,n,y)=>(o,n,s.ev y))=some r->∃us,Instr.fill F vs (I.map fun(i,y)=>(i,a.eval y))=some us/\cL x r us.toList:=by
 intro I;induction I with
 |nil=>
  intro E cs vs r h T _ J;have:E=[]:=by simpa using T
  subst this;simp only[bO,jF,ax.injEq]at J;subst J;exact⟨vs,rfl,h⟩
 |cons q I ih=>
  intro E cs vs r h T L J;cases E with
  |nil=>simp at T
  |cons q' E=>
   obtain⟨qo,qn,qy⟩:=q';obtain⟨h0,t,ht⟩:=L 0 (by simp) (by simp);simp only[List.getElem_cons_zero]at h0 ht;have Q:=aP hM ht;simp only[aI,jF]at J;split at J<;>try (cases J;done)
   rename_i hc;obtain⟨Z,W,a2⟩:=hc;have hL:=Q.cells Z;have O:(a.eval q.2).cells.size=qn:=by rw[<-W,<-aW];exact hL.1.symm
   have a1:vs.size=cs.length:=by rw[<-aW];exact h.1.symm
   simp only[aI,Instr.fill,h0];rw[if_neg (by simp[O];omega)];refine ih E _ _ r ?_ (by simpa using T) (fun i h h'=> ?_) J
   ·rw[<-Array.foldl_toList,Array.toList_zipIdx,uF _ _ _ (by rw[aW];omega)]
    have e1:(a.eval q.2).cells.toList.length=qn:=by simpa using O
    rw[e1];exact((h.take _).append hL).append (h.drop _)
   ·have:=L (i+1) (by simpa using h) (by simpa using h')
    simpa using this
theorem fz{α β:Type}{f:α->Option β}:∀{l:List α}{r:List β},kC f l=some r->r.length=l.length/\∀i (h:i<l.length) (E:i<r.length),f l[i]=some r[i]:=by
 intro l;induction l with
 |nil=>intro r h;simp only[kC]at h;cases h;exact⟨rfl,fun i h=>by simp at h⟩
 |cons q l I=>
  intro r h;simp only[kC]at h;split at h<;>try (cases h;done)
  rename_i b O J y;cases h;obtain⟨L,F⟩:=I y;refine⟨by simp[L],fun i h E=> ?_⟩;cases i with
  |zero=>simpa using J
  |succ i=>simpa using F i (by simpa using h) (by simpa using E)
theorem po(y:Array Field)(h:∀f∈y.toList,(P.info? f.type).isSome=true)(w:World):
 (y.mapM fun f=>do pure (f.offset,<-sizeOf f.type):Sem (Array (Nat×Nat))).run P w= .ok (y.toList.map fun f=>(f.offset,(fI P f.type).getD 0)).toArray w:=by
 rw[Array.mapM_eq_mapM_toList]
 have:∀l:List Field,(∀f∈l,(P.info? f.type).isSome=true)->(l.mapM fun f=>do pure (f.offset,<-sizeOf f.type):Sem (List (Nat×Nat))).run P w= .ok (l.map fun f=>(f.offset,(fI P f.type).getD 0)) w:=by
  intro l;induction l with
  |nil=>intro _;rfl
  |cons f l J=>
   intro h;have I:=h f (by simp);obtain⟨i,hi⟩:=Option.isSome_iff_exists.1 I;have E:fI P f.type=some i.size:=by simp[fI,hi]
   simp only[List.mapM_cons,aC,cz E,aq,aN,J (fun g F=>h g (aw _ F)),aI,E,aM]
 rw[Sem.run_map,this _ h];rfl
theorem G3(hM:aR C x s a w){t:TypeId}{E:Array (Nat×Operand)}(ho:o.op= .build t E)(J:bM P o=some so)(hv:val s so=some (p,c)):cE P C o a w (s.put o.dst c):=by
 have a7:execOp a.eval o=(do pure (.value (<-Instr.build t (E.map fun(i,y)=>(i,a.eval y))))):=by simp only[execOp,ho]
 simp only[bM,ho]at J;split at J<;>try (cases J;done)
 ·rename_i fs z hd hz
  split at J<;>try (cases J;done)
  rename_i b0;obtain⟨qs,a2,rfl⟩:=ah.1 J;obtain⟨vs,Z,hL⟩:=tU hz;obtain⟨zv,a6,T⟩:=de Z;obtain⟨W,Q⟩:=fz a2;simp only[val]at hv;obtain⟨r,hf,he⟩:=ah.1 hv;simp only[bG.injEq]at he;obtain⟨_,rfl⟩:=he;have a1:∀f∈fs.toList,(P.info? f.type).isSome=true:=bf.1 b0
  obtain⟨us,O,I⟩:=qU hM (fun i=>(fs.toList.map fun f=>(f.offset,(fI P f.type).getD 0)).toArray[i]?) E.toList qs z zv.cells r (by rw[a6];exact hL) W (by
   intro i h h';have:=Q i h h';generalize E.toList[i]=pi at*;generalize qs[i]=qi at*;cases hfi:fs[pi.1]? with
   |none=>simp[hfi]at this
   |some f=>
    simp only[hfi]at this;cases hn:fI P f.type with
    |none=>simp[hn]at this
    |some n=>
     cases F:bL P f.type pi.2 with
     |none=>simp[hn,F]at this
     |some ar=>
      simp only[hn,F,ax.injEq]at this;rw[<-this];refine⟨?_,f.type,F⟩;have a8:fs.toList[pi.1]? =some f:=by simpa using hfi
      simp[a8,hn]) hf
  refine cE.val hM a7 (u:= .agg us) ?_ ?_
  ·have L:(E.map fun(i,y)=>(i,a.eval y)).toList=E.toList.map fun(i,y)=>(i,a.eval y):=by simp
   simp only[Instr.build,aC,T,aq,run_underlying hd,po fs a1,L];rw[O];rfl
  ·obtain⟨us⟩:=us
   exact .agg _ _ I.1 I.2
 ·rename_i k e z hd hz
  split at J<;>try (cases J;done)
  rename_i n hn;obtain⟨qs,a2,rfl⟩:=ah.1 J;obtain⟨vs,Z,hL⟩:=tU hz;obtain⟨zv,a6,T⟩:=de Z;obtain⟨W,Q⟩:=fz a2;simp only[val]at hv;obtain⟨r,hf,he⟩:=ah.1 hv;simp only[bG.injEq]at he;obtain⟨_,rfl⟩:=he
  obtain⟨us,O,I⟩:=qU hM (fun i=>some (i*n,n)) E.toList qs z zv.cells r (by rw[a6];exact hL) W (fun i h h'=>by have:=Q i h h';obtain⟨ar,F,he⟩:=ah.1 this;rw[<-he];exact⟨rfl,e,F⟩) hf
  refine cE.val hM a7 (u:= .agg us) ?_ ?_
  ·have L:(E.map fun(i,y)=>(i,a.eval y)).toList=E.toList.map fun(i,y)=>(i,a.eval y):=by simp
   simp only[Instr.build,aC,T,aq,run_underlying hd,cz hn,L];rw[O];rfl
  ·obtain⟨us⟩:=us
   exact .agg _ _ I.1 I.2
end Go.Sy
namespace Go.Sy
variable [bx]
variable {P : Program} {C : Ctx} {x : Sit} {s : St} {a : Act} {w : World} {o : Oper} {so : SOp} {p : Prop} {c : SV}
theorem oO(n:Nat):∀(us:LAb)(k:Nat)(vs:LAc),(∀u∈us,u.cells.size=n)->(k+us.length)*n<=vs.size->
 ∃r,Instr.fill (fun i=>some (i*n,n)) vs ((us.zipIdx k).map fun q=>(q.2,q.1))=some r/\r.toList=vs.toList.take (k*n)++(us.flatMap fun u=>u.cells.toList)++vs.toList.drop ((k+us.length)*n):=by
 intro us;induction us with
 |nil=>intro k vs _ _;exact⟨vs,rfl,by simp⟩
 |cons u us L=>
  intro k vs hu Z;have E:=hu u (by simp);have J:(k+(u::us).length)*n=k*n+n+us.length*n:=by simp only[al,bH,ed];omega
  have I:(k+1)*n=k*n+n:=ed k n;rw[J]at Z;have y:=uF vs (k*n) u.cells.toList (by rw[aW,E];omega);rw[aW,E]at y
  obtain⟨r,W,O⟩:=L (k+1) (u.cells.toList.zipIdx.foldl (fun cs (c,j)=>cs.setIfInBounds (k*n+j) c) vs) (fun q Q=>hu q (aw _ Q)) (by rw[<-aW,y];simp only[ae,an,aE,aW,E];rw[bH,I];omega)
  refine⟨r, ?_, ?_⟩
  ·simp only[List.zipIdx_cons,aI,Instr.fill]
   rw[if_neg (by simp[E];omega)];rw[<-Array.foldl_toList,Array.toList_zipIdx];exact W
  ·rw[O,y,I,J]
   have T:(k+1+us.length)*n=k*n+n+us.length*n:=by rw[bH,I]
   rw[T];have F:(vs.toList.take (k*n)++u.cells.toList).length=k*n+n:=by simp[E];omega
   rw[List.take_append_of_le_length (by rw[F];exact aK _),aT (by rw[F];exact aK _),List.drop_append,bT (by rw[F];omega),F,List.drop_drop];simp only[ek,aF,ay]
   congr 3
   congr 1;omega
theorem yK{n:Nat}:∀{vs:f8}{r:d8},rows n vs=some r->r.length=vs.length/\∀i,i<vs.length->(vs.getD i .undef).isDef=true/\(vs.getD i .undef).cells.length=n/\
 (∀z∈(vs.getD i .undef).cells,z.isData=true)/\r.getD i []=(vs.getD i .undef).cells.map SV.data:=by
 intro vs;induction vs with
 |nil=>intro r h;simp only[rows,ax.injEq]at h;subst h;exact⟨rfl,fun i hi=>by simp at hi⟩
 |cons v vs I=>
  intro r h;simp only[rows]at h;split at h<;>try (cases h;done)
  rename_i E;obtain⟨L,y,rfl⟩:=ah.1 h;obtain⟨J,F⟩:=I y;refine⟨by simp[J],fun i hi=> ?_⟩;cases i with
  |zero=>exact⟨E.1,E.2.1,bf.1 E.2.2,rfl⟩
  |succ i=>simpa using F i (by simpa using hi)
theorem vt:∀{vs:f8}{r:d9},toB vs=some r->vs=r.map .u8:=by
 intro vs;induction vs with
 |nil=>intro r h;simp only[toB,ax.injEq]at h;subst h;rfl
 |cons v vs E=>intro r h;cases v<;>simp only[toB,reduceCtorEq]at h;obtain⟨F,y,rfl⟩:=ah.1 h;rw[E y];rfl
theorem lr{n:Nat}{us:LAb}(h:∀u∈us,u.cells.size=n){i j:Nat}(hi:i<us.length)(I:j<n):
 (us.flatMap fun u=>u.cells.toList)[i*n+j]? =(us.getD i undef).cells.toList[j]? :=by
 induction us generalizing i with
 |nil=>simp at hi
 |cons u us E=>
  have y:=h u (by simp);simp only[ek];cases i with
  |zero=>rw[bt (by simp[y];omega)];simp
  |succ i=>rw[bD (by simp[y,ed];omega)];have:=E (fun q F=>h q (aw _ F)) (i:=i) (by simpa using hi);rw[show(i+1)*n+j-u.cells.toList.length=i*n+j from by simp[y,ed];omega];simpa using this
theorem pM(hM:aR C x s a w){t:TypeId}{len:Nat}{E:Array (Nat×Operand)}(ho:o.op= .buildSlice t len E)(hr:bM P o=some so)(hv:val s so=some (p,c)):cE P C o a w (s.put o.dst c):=by
 have b7:execOp a.eval o=(do pure (.value (<-eE t len (E.map fun(i,y)=>(i,a.eval y))))):=by simp only[execOp,ho]
 simp only[bM,ho]at hr;split at hr<;>try (cases hr;done)
 rename_i e hd;split at hr<;>try (cases hr;done)
 rename_i n zv hn e6;split at hr<;>try (cases hr;done)
 rename_i T;simp only[aD,decide_eq_true_eq]at T;obtain⟨⟨a8,e8⟩,d6⟩:=T;obtain⟨qs,d7,rfl⟩:=ah.1 hr;obtain⟨d1,e5⟩:=fz d7;obtain⟨z,e9,d4⟩:=de e6;have a1:E.toList.length=len:=by have:=congrArg List.length a8;simpa using this
 obtain⟨us,a2⟩:∃us:LAb,us=E.toList.map fun q=>a.eval q.2:=⟨_,rfl⟩
 have F:us.length=len:=by rw[a2];simpa using a1
 have O:cL x (qs.map s.ev) us:=by
  refine⟨by rw[a2];simp[d1],fun i hi=> ?_⟩;have b4:i<qs.length:=by simpa using hi
  have:=aP hM (e5 i (by omega) b4);rw[a2];simp only[aa,aU,ac b4,ac (show i<E.toList.length from by omega),bE,aM];exact this
 have e2:(E.map fun(i,y)=>(i,a.eval y)).toList=(us.zipIdx 0).map fun q=>(q.2,q.1):=by
  rw[a2];apply List.ext_getElem
  ·simp
  ·intro i W h2
   simp only[Array.toList_map,aV,aW]at W;have:(E.toList.map (·.1))[i]? =(bC len)[i]? :=by rw[a8]
   have hi:i<len:=by rw[<-a1];simpa using W
   simp only[aU,cC hi]at this;rw[ac (by simpa using W)]at this;simp at this;simp[this]
 have a7:(∀u∈us,u.cells.size=n)->∃r:LAc,(∀i j,i<len->j<n->r[i*n+j]? =(us.getD i undef).cells.toList[j]?)/\r.size=len*n/\
  (eE t len (E.map fun(i,y)=>(i,a.eval y))).run P w= .ok (.slice (some ⟨w.heap.size,0,none⟩) len len) (w.alloc (.cells r e (0,0))):=by
  intro b0
  have c5:∀zz:LAc,∃r:LAc,Instr.fill (fun i=>some (i*n,n)) ((Array.range (len*n)).map (fun i=>zz[i % zz.size]!)) (E.map fun(i,y)=>(i,a.eval y)).toList=some r/\
   (∀i j,i<len->j<n->r[i*n+j]? =(us.getD i undef).cells.toList[j]?)/\r.size=len*n:=by
   intro zz;obtain⟨r,d5,b3⟩:=oO n us 0 ((Array.range (len*n)).map (fun i=>zz[i % zz.size]!)) b0 (by simp[F])
   have L:r.toList=us.flatMap fun u=>u.cells.toList:=by rw[b3];simp[F]
   refine⟨r,by rw[e2];exact d5,fun i j hi hj=> ?_, ?_⟩
   ·rw[<-db,L,lr b0 (by omega) hj]
   ·rw[<-aW,L,List.length_flatMap]
    have:us.map (fun u=>u.cells.toList.length)=aL us.length n:=by
     apply List.ext_getElem
     ·simp
     ·intro i W h2
      simp;exact b0 _ (bv _)
    rw[this];simp[F]
  by_cases h0:len*n=0
  ·obtain⟨r,hf,W,h2⟩:=c5 #[]
   refine⟨r,W,h2, ?_⟩;simp only[eE,aC,run_underlying hd,aq,cz hn];rw[if_neg (by omega),if_pos h0];simp only[aC,aN,aq];rw[hf];rfl
  ·obtain⟨r,hf,W,h2⟩:=c5 z.cells
   refine⟨r,W,h2, ?_⟩;simp only[eE,aC,run_underlying hd,aq,cz hn];rw[if_neg (by omega),if_neg h0];simp only[aC,aN,aq,d4];rw[hf];rfl
 have I:∀i,i<len->i<(qs.map s.ev).length:=fun i hi=>by rw[O.1,F];exact hi
 cases h8:m9 P e with
 |true=>
  simp only[h8,if_true,val]at hv;obtain⟨l,hl,he⟩:=ah.1 hv;simp only[bG.injEq]at he;obtain⟨_,rfl⟩:=he;have hq:=vt hl;have d2:l.length=len:=by have:=congrArg List.length hq;simp only[aV]at this;rw[<-this,d1,a1]
  have c3:∀i,i<len->us.getD i undef= .int .u8 (l.getD i 0).toNat:=by
   intro i hi;have:=O.2 i (I i hi);rw[hq]at this
   have e1:(l.map SV.u8).getD i .undef= .u8 (l.getD i 0):=by simp only[aa,aU];rw[ac (by omega)];rfl
   rw[e1]at this;exact this.u8_inv
  have e3:∀u∈us,u.cells.size=1:=by intro u hu;obtain⟨i,hi,rfl⟩:=bg hu;have:=c3 i (by omega);rw[aa,ac hi]at this;simp only[aM]at this;rw[this];rfl
  have b6:n=1:=by simpa[h8]using d6
  subst b6;obtain⟨r,b1,e0,Z⟩:=a7 e3;refine cE.grow (x':=x.newD w.heap.size r len) hM b7 Z (hM.heap.newD_le r len) rfl rfl (hM.heap.allocD len) ?_;refine .dat _ _ (.byt l _ w.heap.size 0 len len d2.symm (aK _) fun i hi=> ?_) ⟨_,len,rfl⟩;simp only[Sit.newD];rw[if_pos ⟨trivial,by omega⟩,bY];have:=b1 i 0 hi (by omega);rw[dq,fm]at this;rw[this,c3 i hi];rfl
 |false=>
  simp only[h8,aO,if_false,val]at hv;obtain⟨c7,d3,he⟩:=ah.1 hv;simp only[bG.injEq]at he;obtain⟨_,rfl⟩:=he;obtain⟨b3,Q⟩:=yK d3;have L:c7.length=len:=by rw[b3,O.1,F]
  have J:∀i,i<len->cL x (((qs.map s.ev).getD i .undef).cells) ((us.getD i undef).cells.toList):=fun i hi=>(O.2 i (I i hi)).cells (Q i (I i hi)).1
  have e4:∀u∈us,u.cells.size=n:=by intro u hu;obtain⟨i,hi,rfl⟩:=bg hu;have W:=J i (by omega);have h2:=(Q i (I i (by omega))).2.1;rw[show us.getD i undef=us[i]from by rw[aa,ac hi];rfl]at W;have:=W.1;rw[h2]at this;simpa using this.symm
  obtain⟨r,b1,e0,Z⟩:=a7 e4;refine cE.grow (x':=x.newD w.heap.size r (len*n)) hM b7 Z (hM.heap.newD_le r _) rfl rfl (hM.heap.allocD _) ?_;have e7:=hM.heap.newD_le r (len*n)
  have a6:∀i j,i<len->j<n->(x.newD w.heap.size r (len*n)).G w.heap.size (0+i*n+j)=some ((us.getD i undef).cells.toList.getD j undef):=by
   intro i j hi hj;simp only[Sit.newD]
   have hb:i*n+j<len*n:=by have:=bo n (Nat.succ_le_of_lt hi);rw[ed]at this;omega
   rw[if_pos ⟨trivial,by omega⟩,bY,b1 i j hi hj]
   have:j<(us.getD i undef).cells.toList.length:=by rw[<-(J i hi).1,(Q i (I i hi)).2.1];exact hj
   generalize (us.getD i undef).cells.toList=q at*;rw[aa,ac this];rfl
  refine .dat _ _ (.lst n c7 _ w.heap.size 0 len len (fun i j=>(us.getD i undef).cells.toList.getD j undef) L.symm (aK _) (fun i hi=> ?_) a6 (fun i j hi hj=> ?_)) ⟨_,len,rfl⟩
  ·rw[(Q i (I i hi)).2.2.2,aV];exact(Q i (I i hi)).2.1
  ·obtain⟨q1,q2,q3,q4⟩:=Q i (I i hi)
   rw[q4,gZ];have b5:j<((qs.map s.ev).getD i .undef).cells.length:=by rw[q2];exact hj
   have:=(J i hi).2 j b5;refine(cR.mono e7 (this.data (q3 _ ?_))).toData;generalize ((qs.map s.ev).getD i .undef).cells=q at*;rw[aa,ac b5];exact bv _
theorem AK(hM:aR C x s a w){t:TypeId}{len:Nat}{E:Array (Nat×Operand)}(ho:o.op= .buildSlice t len E){n0:Nat}{b0:List Arg}(hr:bM P o=some (.lit n0 b0)){F:d8}(d4:rows n0 (b0.map s.ev)=some F):
 ∃(r:LAc)(e:TypeId),(execOp a.eval o).run P w= .ok (.value (.slice (some ⟨w.heap.size,0,none⟩) F.length F.length)) (w.alloc (.cells r e (0,0)))/\r.size=F.length*n0/\(∀y∈F,y.length=n0)/\
  ∀k,k<F.length*n0->cR x.G ((F.getD (k/n0) []).getD (k % n0) .undef) (r.getD k undef):=by
 have c5:execOp a.eval o=(do pure (.value (<-eE t len (E.map fun(i,y)=>(i,a.eval y))))):=by simp only[execOp,ho]
 simp only[bM,ho]at hr;split at hr<;>try (cases hr;done)
 rename_i e hd;split at hr<;>try (cases hr;done)
 rename_i n zv hn d7;split at hr<;>try (cases hr;done)
 rename_i W;simp only[aD,decide_eq_true_eq]at W;obtain⟨⟨a7,e5⟩,e6⟩:=W;obtain⟨qs,e4,J⟩:=ah.1 hr;obtain⟨d6,d3⟩:=fz e4;obtain⟨z,e7,d5⟩:=de d7;have a6:E.toList.length=len:=by have:=congrArg List.length a7;simpa using this
 obtain⟨us,a2⟩:∃us:LAb,us=E.toList.map fun q=>a.eval q.2:=⟨_,rfl⟩
 have L:us.length=len:=by rw[a2];simpa using a6
 have T:cL x (qs.map s.ev) us:=by
  refine⟨by rw[a2];simp[d6],fun i hi=> ?_⟩;have b5:i<qs.length:=by simpa using hi
  have:=aP hM (d3 i (by omega) b5);rw[a2];simp only[aa,aU,ac b5,ac (show i<E.toList.length from by omega),bE,aM];exact this
 have c7:(E.map fun(i,y)=>(i,a.eval y)).toList=(us.zipIdx 0).map fun q=>(q.2,q.1):=by
  rw[a2];apply List.ext_getElem
  ·simp
  ·intro i Z h2
   simp only[Array.toList_map,aV,aW]at Z;have:(E.toList.map (·.1))[i]? =(bC len)[i]? :=by rw[a7]
   have hi:i<len:=by rw[<-a6];simpa using Z
   simp only[aU,cC hi]at this;rw[ac (by simpa using Z)]at this;simp at this;simp[this]
 have b6:(∀u∈us,u.cells.size=n)->∃r:LAc,(∀i j,i<len->j<n->r[i*n+j]? =(us.getD i undef).cells.toList[j]?)/\r.size=len*n/\
  (eE t len (E.map fun(i,y)=>(i,a.eval y))).run P w= .ok (.slice (some ⟨w.heap.size,0,none⟩) len len) (w.alloc (.cells r e (0,0))):=by
  intro a8
  have b4:∀zz:LAc,∃r:LAc,Instr.fill (fun i=>some (i*n,n)) ((Array.range (len*n)).map (fun i=>zz[i % zz.size]!)) (E.map fun(i,y)=>(i,a.eval y)).toList=some r/\
   (∀i j,i<len->j<n->r[i*n+j]? =(us.getD i undef).cells.toList[j]?)/\r.size=len*n:=by
   intro zz;obtain⟨r,e3,b1⟩:=oO n us 0 ((Array.range (len*n)).map (fun i=>zz[i % zz.size]!)) a8 (by simp[L])
   have I:r.toList=us.flatMap fun u=>u.cells.toList:=by rw[b1];simp[L]
   refine⟨r,by rw[c7];exact e3,fun i j hi hj=> ?_, ?_⟩
   ·rw[<-db,I,lr a8 (by omega) hj]
   ·rw[<-aW,I,List.length_flatMap]
    have:us.map (fun u=>u.cells.toList.length)=aL us.length n:=by
     apply List.ext_getElem
     ·simp
     ·intro i Z h2
      simp;exact a8 _ (bv _)
    rw[this];simp[L]
  by_cases h0:len*n=0
  ·obtain⟨r,hf,Z,h2⟩:=b4 #[]
   refine⟨r,Z,h2, ?_⟩;simp only[eE,aC,run_underlying hd,aq,cz hn];rw[if_neg (by omega),if_pos h0];simp only[aC,aN,aq];rw[hf];rfl
  ·obtain⟨r,hf,Z,h2⟩:=b4 z.cells
   refine⟨r,Z,h2, ?_⟩;simp only[eE,aC,run_underlying hd,aq,cz hn];rw[if_neg (by omega),if_neg h0];simp only[aC,aN,aq,d5];rw[hf];rfl
 have O:∀i,i<len->i<(qs.map s.ev).length:=fun i hi=>by rw[T.1,L];exact hi
 obtain⟨h8,rfl,rfl⟩:m9 P e=false/\n=n0/\qs=b0:=by
  cases h8:m9 P e with
  |true=>rw[h8]at J;simp at J
  |false=>rw[h8]at J;simp at J;exact⟨rfl,J.1,J.2⟩
 obtain⟨b1,Q⟩:=yK d4;have I:F.length=len:=by rw[b1,T.1,L]
 have a1:∀i,i<len->cL x (((qs.map s.ev).getD i .undef).cells) ((us.getD i undef).cells.toList):=fun i hi=>(T.2 i (O i hi)).cells (Q i (O i hi)).1
 have d2:∀u∈us,u.cells.size=n:=by intro u hu;obtain⟨i,hi,rfl⟩:=bg hu;have Z:=a1 i (by omega);have h2:=(Q i (O i (by omega))).2.1;rw[show us.getD i undef=us[i]from by rw[aa,ac hi];rfl]at Z;have:=Z.1;rw[h2]at this;simpa using this.symm
 obtain⟨r,d1,J,b7⟩:=b6 d2
 have b3:(execOp a.eval o).run P w= .ok (.value (.slice (some ⟨w.heap.size,0,none⟩) F.length F.length)) (w.alloc (.cells r e (0,0))):=by rw[c5,I];simp[b7]
 refine⟨r,e,b3,by rw[I];exact J,fun y hy=> ?_,fun k hk=> ?_⟩
 ·obtain⟨i,hi,rfl⟩:=bg hy
  have:=(Q i (O i (by omega))).2.2.2;rw[aa,ac hi]at this;simp only[aM]at this;rw[this,aV];exact(Q i (O i (by omega))).2.1
 ·have e0:0<n:=by
   rcases ic n with h0|h0
   ·subst h0;omega
   ·exact h0
  have hi:k/n<len:=by rw[<-I];exact Nat.div_lt_of_lt_mul (by rw[cS];exact hk)
  have hj:k % n<n:=vq _ e0;obtain⟨q1,q2,q3,q4⟩:=Q (k/n) (O _ hi);rw[q4,gZ];have e1:k/n*n+k % n=k:=by rw[cS];exact Nat.div_add_mod k n
  have e2:=d1 (k/n) (k % n) hi hj;rw[e1]at e2;have c3:k % n<((qs.map s.ev).getD (k/n) .undef).cells.length:=by rw[q2];exact hj
  have:=(a1 _ hi).2 _ c3;rw[aS,e2,<-aa];refine(this.data (q3 _ ?_)).toData;generalize ((qs.map s.ev).getD (k/n) .undef).cells=q at*;rw[aa,ac c3];exact bv _
theorem AL(hM:aR C x s a w){t:TypeId}{len:Nat}{E:Array (Nat×Operand)}(ho:o.op= .buildSlice t len E){a8:List Arg}(T:bM P o=some (.litB a8)){l:d9}(c3:toB (a8.map s.ev)=some l):
 ∃(r:LAc)(e:TypeId),(execOp a.eval o).run P w= .ok (.value (.slice (some ⟨w.heap.size,0,none⟩) l.length l.length)) (w.alloc (.cells r e (0,0)))/\l.length<=r.size/\∀i,i<l.length->r.getD i undef= .int .u8 (l.getD i 0).toNat:=by
 have b6:execOp a.eval o=(do pure (.value (<-eE t len (E.map fun(i,y)=>(i,a.eval y))))):=by simp only[execOp,ho]
 simp only[bM,ho]at T;split at T<;>try (cases T;done)
 rename_i e hd;split at T<;>try (cases T;done)
 rename_i n zv hn d4;split at T<;>try (cases T;done)
 rename_i L;simp only[aD,decide_eq_true_eq]at L;obtain⟨⟨Z,e3⟩,e0⟩:=L;obtain⟨qs,d5,I⟩:=ah.1 T;obtain⟨b4,d2⟩:=fz d5;obtain⟨z,e4,d3⟩:=de d4;have J:E.toList.length=len:=by have:=congrArg List.length Z;simpa using this
 obtain⟨us,O⟩:∃us:LAb,us=E.toList.map fun q=>a.eval q.2:=⟨_,rfl⟩
 have F:us.length=len:=by rw[O];simpa using J
 have a1:cL x (qs.map s.ev) us:=by
  refine⟨by rw[O];simp[b4],fun i hi=> ?_⟩;have b0:i<qs.length:=by simpa using hi
  have:=aP hM (d2 i (by omega) b0);rw[O];simp only[aa,aU,ac b0,ac (show i<E.toList.length from by omega),bE,aM];exact this
 have b7:(E.map fun(i,y)=>(i,a.eval y)).toList=(us.zipIdx 0).map fun q=>(q.2,q.1):=by
  rw[O];apply List.ext_getElem
  ·simp
  ·intro i W h2
   simp only[Array.toList_map,aV,aW]at W;have:(E.toList.map (·.1))[i]? =(bC len)[i]? :=by rw[Z]
   have hi:i<len:=by rw[<-J];simpa using W
   simp only[aU,cC hi]at this;rw[ac (by simpa using W)]at this;simp at this;simp[this]
 have b1:(∀u∈us,u.cells.size=n)->∃r:LAc,(∀i j,i<len->j<n->r[i*n+j]? =(us.getD i undef).cells.toList[j]?)/\r.size=len*n/\
  (eE t len (E.map fun(i,y)=>(i,a.eval y))).run P w= .ok (.slice (some ⟨w.heap.size,0,none⟩) len len) (w.alloc (.cells r e (0,0))):=by
  intro a2
  have a7:∀zz:LAc,∃r:LAc,Instr.fill (fun i=>some (i*n,n)) ((Array.range (len*n)).map (fun i=>zz[i % zz.size]!)) (E.map fun(i,y)=>(i,a.eval y)).toList=some r/\
   (∀i j,i<len->j<n->r[i*n+j]? =(us.getD i undef).cells.toList[j]?)/\r.size=len*n:=by
   intro zz;obtain⟨r,d7,e2⟩:=oO n us 0 ((Array.range (len*n)).map (fun i=>zz[i % zz.size]!)) a2 (by simp[F])
   have Q:r.toList=us.flatMap fun u=>u.cells.toList:=by rw[e2];simp[F]
   refine⟨r,by rw[b7];exact d7,fun i j hi hj=> ?_, ?_⟩
   ·rw[<-db,Q,lr a2 (by omega) hj]
   ·rw[<-aW,Q,List.length_flatMap]
    have:us.map (fun u=>u.cells.toList.length)=aL us.length n:=by
     apply List.ext_getElem
     ·simp
     ·intro i W h2
      simp;exact a2 _ (bv _)
    rw[this];simp[F]
  by_cases h0:len*n=0
  ·obtain⟨r,hf,W,h2⟩:=a7 #[]
   refine⟨r,W,h2, ?_⟩;simp only[eE,aC,run_underlying hd,aq,cz hn];rw[if_neg (by omega),if_pos h0];simp only[aC,aN,aq];rw[hf];rfl
  ·obtain⟨r,hf,W,h2⟩:=a7 z.cells
   refine⟨r,W,h2, ?_⟩;simp only[eE,aC,run_underlying hd,aq,cz hn];rw[if_neg (by omega),if_neg h0];simp only[aC,aN,aq,d3];rw[hf];rfl
 have d6:∀i,i<len->i<(qs.map s.ev).length:=fun i hi=>by rw[a1.1,F];exact hi
 cases h8:m9 P e with
 |true=>
  simp only[h8,if_true,SOp.litB.injEq]at I;subst I;have hl:=c3;have hq:=vt hl;have d1:l.length=len:=by have:=congrArg List.length hq;simp only[aV]at this;rw[<-this,b4,J]
  have a6:∀i,i<len->us.getD i undef= .int .u8 (l.getD i 0).toNat:=by
   intro i hi;have:=a1.2 i (d6 i hi);rw[hq]at this
   have e1:(l.map SV.u8).getD i .undef= .u8 (l.getD i 0):=by simp only[aa,aU];rw[ac (by omega)];rfl
   rw[e1]at this;exact this.u8_inv
  have c5:∀u∈us,u.cells.size=1:=by intro u hu;obtain⟨i,hi,rfl⟩:=bg hu;have:=a6 i (by omega);rw[aa,ac hi]at this;simp only[aM]at this;rw[this];rfl
  have b5:n=1:=by simpa[h8]using e0
  subst b5;obtain⟨r,c7,I,b3⟩:=b1 c5;refine⟨r,e,by rw[b6,aC,b3];simp[d1],by rw[I];omega,fun i hi=> ?_⟩;have:=c7 i 0 (by omega) (by omega);rw[dq,fm]at this;rw[aS,this,a6 i (by omega)];rfl
 |false=>simp only[h8,aO,if_false]at I;cases I
theorem ZT{F:List Arg}(E:bM P o=some (.litB F)):∃t len y,o.op= .buildSlice t len y:=by
 cases ho:o.op with
 |buildSlice t len y=>exact⟨t,len,y,rfl⟩
 |_=>exfalso;exact absurd E (by
  intro E;simp only[bM,ho]at E
  first
   |(cases E;done)
   |(obtain⟨_,_,h⟩:=ah.1 E;cases h;done)
   |(repeat' split at E)<;>first|(cases E;done)|contradiction|(obtain⟨_,_,h⟩:=ah.1 E;first|(cases h;done)|(split at h<;>cases h;done)))
end Go.Sy
namespace Go.Sy
variable [bx]
variable {P : Program} {C : Ctx} {x : Sit} {s : St} {a : Act} {w : World} {o : Oper} {so : SOp} {p : Prop} {c : SV}
theorem KR{t:TypeId}{n:Nat}(h:Ap P t=some n):tg P t=some false:=by unfold Ap at h;unfold tg;split at h<;>first|(cases h;done)|(rename_i y;rw[y];rfl)
theorem Bq{t:TypeId}{n:Nat}(y:Ap P t=some n){c1 F:SV}{u v:Value}(hu:Rep x c1 u)(E:Rep x F v){b:Bool}(h:xQ n c1 F=some b)(d:Nat):(Op.equalIn (d+1) t u v).run P w= .ok b w:=by
 unfold Ap at y;split at y<;>try (cases y;done)
 all_goals
  rename_i hd;cases y;cases c1<;>cases F<;>simp only[xQ,reduceCtorEq,ax.injEq,aJ]at h
 ·rw[hu.bool_inv,E.bool_inv]
  subst h;rename_i m n;simp only[Op.equalIn,aC,run_underlying hd,aq,aN];cases m<;>cases n<;>rfl
 ·rw[hu.int_inv,E.int_inv]
  obtain⟨rfl,h⟩:=h;subst h;simp only[Op.equalIn,aC,run_underlying hd,aq,if_true,aN];rfl
 ·rw[hu.u8_inv,E.u8_inv]
  subst h;rename_i m n;simp only[Op.equalIn,aC,run_underlying hd,aq,if_true,aN]
  congr 1
  rw[fE];simp only[beq_iff_eq,decide_eq_true_eq,Int.natCast_inj];exact UInt8.toNat_inj
 ·rw[hu.str_inv,E.str_inv]
  subst h;rename_i m n;simp only[Op.equalIn,aC,run_underlying hd,aq,aN]
  congr 1
  rw[beq_toListBytes,ByteArray.toList_eq,ByteArray.toList_eq,fE];simp
theorem lj:∀(fs:List Field)(Z:t8)(k:Nat)(cs I:f8)(y F:LAb)(d:Nat),Bm P k fs=some Z->
 cL x cs (y.drop k)->cL x I (F.drop k)->∀{b:Bool},iA Z cs I=some b->(Op.eqFields (d+1) ⟨y⟩ ⟨F⟩ fs).run P w= .ok b w
 |[],Z,k,cs,I,y,F,d,E,Q,hy,b,h=>by simp only[Bm,ax.injEq]at E;subst E;cases cs<;>cases I<;>simp[iA]at h;subst h;simp[Op.eqFields]
 |f::fs,Z,k,cs,I,y,F,d,E,Q,hy,b,h=>by
  simp only[Bm,aJ]at E;obtain⟨⟨L,T⟩,E⟩:=E;split at E<;>try (cases E;done)
  rename_i t a1 J b1;cases E;cases cs with
  |nil=>simp[iA]at h
  |cons c1 cs=>
   cases I with
   |nil=>simp[iA]at h
   |cons d1 I=>
    simp only[iA]at h;split at h<;>try (cases h;done)
    rename_i r q hr hq;cases h;have O:=Q.1;have a6:=hy.1;simp only[al,aE]at O a6
    have a2:(⟨y⟩:LAc)[k]? =some (y.getD k undef):=by rw[dh,ac (by omega),aa,ac (by omega)];rfl
    have a7:(⟨F⟩:LAc)[k]? =some (F.getD k undef):=by rw[dh,ac (by omega),aa,ac (by omega)];rfl
    have a8:Rep x c1 (y.getD k undef):=by have:=Q.2 0 (by simp);simpa[aa,bB]using this
    have b0:Rep x d1 (F.getD k undef):=by have:=hy.2 0 (by simp);simpa[aa,bB]using this
    have tl:∀{cs:f8}{c1:SV}{y:LAb},cL x (c1::cs) (y.drop k)->cL x cs (y.drop (k+1)):=by intro cs c1 y Q;have O:=Q.1;simp only[al,aE]at O;refine⟨by simp only[aE];omega,fun i hi=> ?_⟩;have:=Q.2 (i+1) (by simpa using hi);simp only[aa,List.getElem?_cons_succ,bB]at this ⊢;rw[show k+1+i=k+(i+1)by omega];exact this
    have ih:=lj fs a1 (k+1) cs I y F d b1 (tl Q) (tl hy) hq;have W:=Bq (w:=w) J a8 b0 hr d;simp only[Op.eqFields,if_pos L,part,aC,fe (KR J),aq,aO,if_false];rw[T,a2,a7];simp only[aN,aq,W];cases r
    ·simp
    ·simp only[Bool.not_true,aO,if_false]
     rw[ih,Bool.true_and]
theorem Yq(hM:aR C x s a w){op:BinOp}{t u:TypeId}{X Y:Operand}(ho:o.op= .binOp op t X Y u){J:Bool}{Z:t8}{x' T:Arg}(y:bM P o=some (.eqS J Z x' T))(F:val s (.eqS J Z x' T)=some (p,c)):cE P C o a w (s.put o.dst c):=by
 have W:execOp a.eval o=(do pure (.value (<-(do eqGuard op t X Y (a.eval X) (a.eval Y);binOp op t (a.eval X) (a.eval Y):Sem Value)))):=by simp only[execOp,ho]
 simp only[bM,ho]at y;split at y<;>try (cases y;done)
 ·split at y<;>cases y
 ·rename_i fs _ _ hd hx hy
  split at y<;>try (cases y;done)
  rename_i L a1;rw[aJ]at y;obtain⟨E,y⟩:=y;simp only[aD,dj]at E
  have I:op=(if J then .neq else .eql)/\L=Z/\bL P t X=some x'/\bL P u Y=some T:=by split at y<;>first|(cases y;done)|(cases y;exact⟨rfl,rfl,hx,hy⟩)
  obtain⟨I,rfl,hx,hy⟩:=I;have h1:=aP hM hx;have h2:=aP hM hy;simp only[val]at F;cases hu:s.ev x' with
  |agg cs=>
   cases hw:s.ev T with
   |agg ds=>
    rw[hu,hw]at F;rw[hu]at h1;rw[hw]at h2;simp only[ah,bG.injEq]at F;obtain⟨b,hb,_,rfl⟩:=F;obtain⟨vs,e1,g1⟩:=h1.agg_inv;obtain⟨us,e2,g2⟩:=h2.agg_inv;have Q:P.fieldsOf t=fs:=by simp[Program.fieldsOf,hd]
    have O:(Op.equalIn 10000 t (.agg ⟨vs⟩) (.agg ⟨us⟩)).run P w= .ok b w:=by rw[show(10000:Nat)=9998+1+1 from rfl,run_equalIn_struct w (9998+1) t ⟨vs⟩ ⟨us⟩ (by rw[Q];exact hd) E.1,Q];exact lj fs.toList L 0 cs ds vs us 9998 a1 (by simpa using g1) (by simpa using g2) hb
    refine cE.val hM W (u:= .bool (if J then !b else b)) ?_ (eo _);rw[e1,e2];simp only[aC,run_eqGuard_agg w op t X Y ⟨vs⟩ ⟨us⟩ E.2,aq];subst I;cases J
    ·simp only[aO,if_false];rw[run_eql_struct,O];rfl
    ·simp only[if_true];rw[run_neq_struct,O];rfl
   |_=>rw[hu,hw]at F;simp at F
  |_=>rw[hu]at F;simp at F
 ·split at y<;>cases y
 ·split at y<;>cases y
theorem Bs(hM:aR C x s a w){L:Bool}{q:Arg}(E:bM P o=some (.isnil L q)){K:Bool->Prop}
 (h:match s.ev q with
  | .byt l _=>∀b:Bool,(b=true->l=[])->K (b !=L)
  | .lst _ xs _=>∀b:Bool,(b=true->xs=[])->K (b !=L)
  | .psl _ _ _ _ _=>K L
  |_=>False):∃b,K b/\cE P C o a w (s.put o.dst (.bool b)):=by
 have O:∃op t X Y u,o.op= .binOp op t X Y u/\(op=if L then .neq else .eql)/\(∃e,P.underlying t=some (.slice e))/\bL P t X=some q/\Y= .const (.slice none 0 0):=by
  cases T:o.op with
  |binOp op t X Y u=>
   simp only[bM,T]at E;split at E<;>try (cases E;done)
   ·split at E<;>cases E
   ·split at E<;>try (cases E;done)
    split at E<;>try (cases E;done)
    split at E<;>cases E
   ·rename_i e x' _ hd hx hy
    split at E<;>first|(cases E;done)|(cases E;exact⟨_,_,_,_,_,rfl,rfl,⟨_,hd⟩,hx,rfl⟩)
   ·split at E<;>first|(cases E;done)|contradiction
  |_=>exfalso;exact absurd E (by
   intro E;simp only[bM,T]at E
   first
    |(cases E;done)
    |(obtain⟨_,_,h⟩:=ah.1 E;cases h;done)
    |(repeat' split at E)<;>first|(cases E;done)|contradiction|(obtain⟨_,_,h⟩:=ah.1 E;first|(cases h;done)|(split at h<;>cases h;done)))
 obtain⟨op,t,X,Y,u,T,O,⟨e,hd⟩,hX,hY⟩:=O;have W:execOp a.eval o=(do pure (.value (<-(do eqGuard op t X Y (a.eval X) (a.eval Y);binOp op t (a.eval X) (a.eval Y):Sem Value)))):=by simp only[execOp,T]
 have F:=aP hM hX;have a1:a.eval Y= .slice none 0 0:=by rw[hY];rfl
 have run:∀I n J,a.eval X= .slice I n J->cE P C o a w (s.put o.dst (.bool (I.isNone !=L))):=by
  intro I n J Z
  have hg:∀v1 v2 v3 v4 v5,(eqGuard op t X Y (.slice v1 v2 v3) (.slice none v4 v5))=pure ():=by intros;subst O;cases L<;>rfl
  refine cE.val hM W (u:= .bool (I.isNone !=L)) ?_ (eo _);rw[Z,a1,hg];simp only[aC,aN,aq]
  have Q:(Op.equal t (.slice I n J) (.slice none 0 0)).run P w= .ok I.isNone w:=by rw[show Op.equal t (.slice I n J) (.slice none 0 0)=Op.equalIn (9999+1) t (.slice I n J) (.slice none 0 0)from rfl,Op.equalIn];simp only[aC,run_underlying hd,aq];cases I<;>rfl
  subst O;cases L
  ·simp only[aO,if_false,binOp,aC,Q,aq,aN];cases I<;>rfl
  ·simp only[if_true,binOp,aC,Q,aq,aN];cases I<;>rfl
 cases hu:s.ev q with
 |byt l tk=>
  rw[hu]at h F;have y:=F.data rfl;cases hv:a.eval X with
  |slice I n J=>
   refine⟨_,h I.isNone (fun hn=> ?_),run I n J hv⟩;rw[hv]at y;cases y with
   |bytN=>rfl
   |bytE=>simp at hn
   |byt _ _ b off _ _ _ _ _=>simp at hn
  |_=>rw[hv]at y;cases y
 |lst sz xs tk=>
  rw[hu]at h F;have y:=F.data rfl;cases hv:a.eval X with
  |slice I n J=>
   refine⟨_,h I.isNone (fun hn=> ?_),run I n J hv⟩;rw[hv]at y;cases y with
   |lstN=>rfl
   |lstE=>simp at hn
   |lst _ _ _ b off _ _ _ _ _ _ _ _=>simp at hn
  |_=>rw[hv]at y;cases y
 |psl o' sz off n J=>rw[hu]at h F;obtain⟨J,_,_,a2,he,_⟩:=F.psl_inv;refine⟨_,h, ?_⟩;have:=run _ _ _ he;simpa using this
 |_=>rw[hu]at h;exact h.elim
end Go.Sy
namespace Go.Sy
variable [bx]
variable {P : Program} {C : Ctx} {x : Sit} {s : St} {a : Act} {w : World} {o : Oper} {so : SOp} {e : Eff}
theorem aR.newObj(hM:aR C x s a w){d:Nat}(E:LAa)(y:100<=d){cv:LAc}{t:TypeId}(obj:aH){val:SV}{u:Value}(J:obj.size<=cv.size)(F:∀k,k<obj.size->cA x obj k (cv.getD k undef))
 (I:Rep (x.newO d w.heap.size) val u):
 aR C (x.newO d w.heap.size) (((s.purge d (d+1)).addO d (obj.purge d (d+1))).put E val) (a.put E u) (w.alloc (.cells cv t (0,0))):=by
 refine aR.put ⟨?_,hM.defers, ?_⟩ E I
 ·exact cL.mono (x:=x) (x':=x.newO d w.heap.size) (lo:=d) (hi:=d+1) (fun _ _ _ h=>h) (Sit.newO_ne x d _) (fun _ _=>rfl) hM.tm
 ·exact hM.heap.allocO d y obj (fun i _ h=>by omega) J F (aY _) (fun _ h=>by omega)
theorem cE.newObj(hM:aR C x s a w){d:Nat}(y:100<=d){m:Sem Value}{cv:LAc}{t:TypeId}(obj:aH){val:SV}{u:Value}(L:execOp a.eval o=(do pure (.value (<-m))))
 (E:m.run P w= .ok u (w.alloc (.cells cv t (0,0)))) (J:obj.size<=cv.size) (F:∀k,k<obj.size->cA x obj k (cv.getD k undef)) (I:Rep (x.newO d w.heap.size) val u):
 cE P C o a w (((s.purge d (d+1)).addO d (obj.purge d (d+1))).put o.dst val):=
 ⟨u,w.alloc (.cells cv t (0,0)),_,.value u,by rw[L];simp[E],.inl rfl,hM.newObj o.dst y obj J F I⟩
theorem i6(x:Sit)(d b:Nat){k:Nat}:(x.newO d b k).bk d=(b,k):=if_pos rfl
theorem kY(x:Sit)(d b:Nat){k:Nat}:((x.newO d b k).bk d).1=b:=by rw[i6]
theorem Ii(hM:aR C x s a w){t:TypeId}(Q:o.op= .alloc t)(E:bM P o=some so)(I:eff s o.dst so=some e):cE P C o a w (s.app o.dst e):=by
 simp only[bM,Q]at E;split at E<;>try (cases E;done)
 rename_i obj z W hz;split at E<;>try (cases E;done)
 rename_i y;cases E;simp only[eff]at I;split at I<;>try (cases I;done)
 rename_i d hd;cases I;obtain⟨T,F,J⟩:=de hz;simp only[xhO,aD,decide_eq_true_eq,bf,dt]at y;simp only[St.app];have O:o.dst.getD 0=d:=by rw[hd];rfl
 rw[O];refine cE.newObj hM (d:=d+100) (by omega) obj (m:=Instr.alloc t true (.tuple #[])) (cv:=T.cells) (t:=t) (u:= .pointer (some ⟨w.heap.size,0,none⟩)) (by simp only[execOp,Q]) ?_ (by rw[<-aW,F];exact y.1) (fun k Z=> ?_) ?_
 ·simp only[Instr.alloc,aC,J,aq,newVar,newRow,run_newObj_alloc,aN]
 ·have L:=y.2 k Z
  have h2:T.cells.getD k undef=z.getD k undef:=by rw[<-F];simp[aS]
  rw[h2];cases obj with
  |rc cs=>exact rG L
  |arr sz xs=>exact nH L
  |bar l=>exact nH L
 ·have:=Rep.ptr (x:=x.newO (d+100) w.heap.size) (d+100) 0
  rw[kY]at this;exact this
theorem xax(hM:aR C x s a w){t:TypeId}{X:Operand}(Q:o.op= .box t X)(L:bM P o=some so)(E:eff s o.dst so=some e):cE P C o a w (s.app o.dst e):=by
 simp only[bM,Q]at L;obtain⟨r,F,rfl⟩:=ah.1 L;have y:=aP hM F;simp only[eff]at E;split at E<;>try (cases E;done)
 rename_i d hd;cases E;simp only[St.app];have J:(s.ev r).isDef=true->cL x (s.ev r).cells (a.eval X).cells.toList:=y.cells;have hu:(s.ev r).isDef=true\/(s.ev r).cells=[]:=by cases s.ev r<;>simp[SV.isDef,SV.cells]
 have I:o.dst.getD 0=d:=by rw[hd];rfl
 rw[I];refine cE.newObj hM (d:=d+100) (by omega) (.rc (s.ev r).cells) (m:=Instr.box t (a.eval X)) (cv:=(a.eval X).cells) (t:=t) (u:= .pointer (some ⟨w.heap.size,0,none⟩)) (by simp only[execOp,Q]) ?_ ?_ (fun k O=> ?_) ?_
 ·simp only[Instr.box,aC,aq,newVar,newRow,run_newObj_alloc,aN]
 ·rcases hu with hu|hu
  ·have:=(J hu).1;simp only[aH.size];rw[<-aW];omega
  ·simp[aH.size,hu]
 ·rcases hu with hu|hu
  ·have:=(J hu).2 k O
   simp only[cA];have T:(a.eval X).cells.getD k undef=(a.eval X).cells.toList.getD k undef:=by simp[aS]
   rw[T];exact this
  ·simp[aH.size,hu]at O
 ·have:=Rep.ptr (x:=x.newO (d+100) w.heap.size) (d+100) 0
  rw[kY]at this;exact this
theorem mg{t F:TypeId}{by_ n:Nat}{J:LAb}{l c:Int}{k1 k2:IntKind}(hd:P.underlying t=some (.slice F))(hn:fI P F=some n)(L:wt P F=some by_)(hz:gQ P F=some J)
 (h0:0<=l) (h1:l<=c) (h2:(by_:Int)*c<=140737488355328) (h3:c<=9223372036854775807):
 ∃cv:LAc,(Instr.makeSlice t (.int k1 l) (.int k2 c)).run P w= .ok (.slice (some ⟨w.heap.size,0,none⟩) l.toNat c.toNat) (w.alloc (.cells cv F (0,0)))/\cv.size=c.toNat*n/\
  ∀k,k<c.toNat*n->cv.getD k undef=J.getD (k % J.length) default:=by
 obtain⟨z,a1,Z⟩:=de hz;have wl:af.wrap l=l:=by rw[dA];omega
 have wc:af.wrap c=c:=by rw[dA];omega
 have hby:∃i,P.info? F=some i/\i.bytes=by_:=by
  unfold wt at L;cases hi:P.info? F with
  |none=>simp[hi]at L
  |some i=>simp[hi]at L;exact⟨i,rfl,L⟩
 obtain⟨i,hi,W⟩:=hby
 have I:¬((decide (c<0)||decide ((i.bytes:Int)*c>2^48)||decide (l<0)||decide (l>c))=true):=by rw[W];simp;omega
 have key:∀(O:LAc),(c.toNat*n=0\/O=z.cells)->∃cv:LAc,cv=(Array.range (c.toNat*n)).map (fun j=>O[j % O.size]!)/\cv.size=c.toNat*n/\∀k,k<c.toNat*n->cv.getD k undef=J.getD (k % J.length) default:=by
  intro O T;refine⟨_,rfl,by simp,fun k hk=> ?_⟩;rcases T with h|rfl
  ·omega
  ·rw[<-a1]
   simp[aS,hk];rw[getElem!_def];cases z.cells[k % z.cells.size]? <;>rfl
 by_cases y:c.toNat*n=0
 ·obtain⟨cv,E,r1,Q⟩:=key #[] (.inl y)
  refine⟨cv, ?_,r1,Q⟩;simp only[Instr.makeSlice,aC,run_underlying hd,aq,asInt,asIntOf,aN,run_typeInfo w hi,wl,wc];rw[if_neg (by simpa using I)];simp only[aC,run_askRoom,aq,cz hn];rw[if_pos y];simp only[aC,aN,aq,newRow,run_newObj_alloc,E]
 ·obtain⟨cv,E,r1,Q⟩:=key z.cells (.inr rfl)
  refine⟨cv, ?_,r1,Q⟩;simp only[Instr.makeSlice,aC,run_underlying hd,aq,asInt,asIntOf,aN,run_typeInfo w hi,wl,wc];rw[if_neg (by simpa using I)];simp only[aC,run_askRoom,aq,cz hn];rw[if_neg y];simp only[aC,aN,aq,Z,newRow,run_newObj_alloc,E]
end Go.Sy
namespace Go.Sy
variable [bx]
variable {P : Program} {C : Ctx} {x : Sit} {s : St} {a : Act} {w : World} {o : Oper} {so : SOp} {e : Eff}
theorem fY{α:Type}(n:Nat)(z d:α)(i:Nat)(h:i<n):(aL n z).getD i d=z:=by rw[aa,List.getElem?_replicate,if_pos h];rfl
theorem oS{t:TypeId}{cs:f8}(h:BM P t=some cs):∃vs,gQ P t=some vs/\cs.length=vs.length/\∀(G:GM) i,i<cs.length->cR G (cs.getD i .undef) (vs.getD i undef):=by obtain⟨z,hz,rfl⟩:=ah.1 h;obtain⟨vs,E,y,F⟩:=kj hz;refine⟨vs,E,by simpa using y,fun G i hi=> ?_⟩;rw[bn _ (by rfl)];exact(F G i (by simpa using hi)).toData
theorem tv(hM:aR C x s a w){t:TypeId}{X Y:Operand}(ho:o.op= .makeSlice t X Y)(y:bM P o=some so)(O:eff s o.dst so=some e)(hp:e.pre):cE P C o a w (s.app o.dst e):=by
 have a2:execOp a.eval o=(do pure (.value (<-Instr.makeSlice t (a.eval X) (a.eval Y)))):=by simp only[execOp,ho]
 simp only[bM,ho]at y;split at y<;>try (cases y;done)
 rename_i el hd;split at y<;>try (cases y;done)
 rename_i n by_ z l c hn hb hz hl hc;obtain⟨zs,a6,F,Q⟩:=oS hz;have h1:=aP hM hl;have h2:=aP hM hc;cases h8:m9 P el with
 |true=>
  have b0:=kd h8;simp only[h8,if_true]at y
  by_cases Z:n=1/\by_=1/\z0 z=true
  ·rw[if_pos Z]at y
   obtain⟨rfl,rfl,E⟩:=Z;simp only[ax.injEq]at y;subst y;simp only[eff]at O;split at O<;>try (cases O;done)
   rename_i d k1 L k2 K W hL hK;cases O;obtain⟨q0,q1,q2⟩:=hp;rw[hL]at h1;rw[hK]at h2;obtain⟨cv,I,T,J⟩:=mg (P:=P) (w:=w) (k1:=k1) (k2:=k2) hd hn hb a6 q0 q1 (by omega) (by omega);simp only[St.app];have a1:o.dst.getD 0=d:=by rw[W];rfl
   rw[a1]
   have a7:z=[.u8 0]:=by
    unfold z0 at E;split at E
    ·rename_i b;simp at E;rw[E]
    ·cases E
   refine cE.newObj hM (d:=d+100) (by omega) (.bar (aL K.toNat 0)) a2 (by rw[h1.int_inv,h2.int_inv];exact I) (by simp[aH.size,T]) (fun k hk=> ?_) ?_
   ·simp only[aH.size,dG]at hk
    simp only[cA,aH.cell];rw[J k (by omega),fY _ _ _ _ hk];rw[a7]at F Q;have h0:=Q x.G 0 (by simp);have:zs.length=1:=by simpa using F.symm
    rw[this,Nat.mod_one]
    match zs,this with
    |[v],_=>exact h0
   ·have:=Rep.psl (x:=x.newO (d+100) w.heap.size) (d+100) 1 0 L.toNat (some K.toNat) 0 K.toNat (.inr (by omega)) (by omega) (fun _ e=>by cases e;rfl) (fun e=>by cases e)
    rw[kY]at this;exact this
  ·rw[if_neg Z]at y;cases y
 |false=>
  simp only[h8,aO,if_false]at y
  by_cases hzl:z.length=n/\n≠0
  ·rw[if_pos hzl]at y
   simp only[ax.injEq]at y;subst y;obtain⟨hzl,hn0⟩:=hzl;simp only[eff]at O;split at O<;>try (cases O;done)
   rename_i d k1 L k2 K W hL hK;cases O;obtain⟨q0,q1,q2,q3⟩:=hp;rw[hL]at h1;rw[hK]at h2;obtain⟨cv,I,T,J⟩:=mg (P:=P) (w:=w) (k1:=k1) (k2:=k2) hd hn hb a6 q0 q1 q2 q3;simp only[St.app];have a1:o.dst.getD 0=d:=by rw[W];rfl
   rw[a1];refine cE.newObj hM (d:=d+100) (by omega) (.arr z.length (aL K.toNat z)) a2 (by rw[h1.int_inv,h2.int_inv];exact I) (by simp[aH.size,T,hzl]) (fun k hk=> ?_) ?_
   ·simp only[aH.size,dG]at hk
    simp only[cA,aH.cell];rw[J k (by rw[<-hzl];exact hk),fY _ _ _ _ (Nat.div_lt_of_lt_mul (by rw[cS];exact hk)),<-F];have a8:k % z.length<z.length:=vq _ (by omega);have:=Q x.G _ a8
    have e1:zs.getD (k % z.length) default=zs.getD (k % z.length) undef:=by rw[aa,aa,ac (by omega)];rfl
    rw[e1];exact this
   ·have:=Rep.psl (x:=x.newO (d+100) w.heap.size) (d+100) z.length 0 L.toNat (some K.toNat) 0 K.toNat (.inr (by omega)) (by omega) (fun _ e=>by cases e;rfl) (fun e=>by cases e)
    rw[kY]at this;exact this
  ·rw[if_neg hzl]at y;cases y
theorem cR.oneCell{G:GM}{c:SV}{v:Value}(h:cR G c v):v.oneCell'=true:=by cases h<;>rfl
theorem Rep.oneCell{c:SV}{v:Value}(h:Rep x c v)(y:c.one=true):v.oneCell'=true:=by
 cases h with
 |undef=>simp[SV.one]at y
 |dat _ _ h _=>exact h.oneCell
 |ptr=>rfl
 |ap=>rfl
 |psl=>rfl
 |agg=>simp[SV.one]at y
 |tup=>simp[SV.one]at y
 |fn=>rfl
theorem vk(cs:f8)(off:Nat)(v:f8)(h:off+v.length<=cs.length)(i:Nat):(setCells cs off v).getD i .undef=if off<=i/\i<off+v.length then v.getD (i-off) .undef else cs.getD i .undef:=by
 have y:∀i:Nat,(cs.take off++v++cs.drop (off+v.length)).getD i .undef=if off<=i/\i<off+v.length then v.getD (i-off) .undef else cs.getD i .undef:=by intro i;simp only[aa];rw[gR _ _ _ _ h];split<;>rfl
 unfold setCells;split
 ·rename_i u
  simp only[aG]at*;simp only[aa,ik]
  by_cases hi:off=i
  ·subst hi;rw[if_pos rfl,if_pos (by omega),if_pos (by omega)];simp
  ·rw[if_neg hi,if_neg (by omega)]
 ·exact y i
theorem pm(cs:f8)(off:Nat)(v:f8)(h:off+v.length<=cs.length):(setCells cs off v).length=cs.length:=by
 unfold setCells;split
 ·simp
 ·simp;omega
theorem cE.store(hM:aR C x s a w){t:TypeId}{X Y:Operand}(ho:o.op= .store t X Y){n:Nat}(hn:fI P t=some n){d off:Nat}(hX:a.eval X= .pointer (some ⟨(x.bk d).1,off,none⟩)){obj obj':aH}(W:s.look d=some obj)
 {vs:LAb} (hY:(a.eval Y).cells.toList=vs) (J:vs.length=n) (y:∀v∈vs,v.oneCell'=true) (hb:off+n<=obj.size)
 (a2:obj'.size=obj.size) (E:∀c:LAc,(∀k,k<obj.size->cA x obj k (c.getD k undef))->∀k,k<obj.size->cA x obj' k (if off<=k/\k<off+n then vs.getD (k-off) undef else c.getD k undef)) (F:obj'.arrB=obj.arrB:=by rfl):
 cE P C o a w ((s.setO d obj').put o.dst .undef):=by
 obtain⟨c,e,fl,fh,Z,⟨hs,a1,O⟩,hr⟩:=fA hM W;obtain⟨g1,g2,g3,g4,g5⟩:=dI ((x.bk d).1) vs w off;obtain⟨c',T,L,Q⟩:=dv vs w off c Z (by omega);refine⟨undef,cj w ((x.bk d).1) off vs,x,.skip, ?_,.inr ⟨rfl,rfl⟩,aR.put (s:=s.setO d obj') ⟨hM.tm,hM.defers, ?_⟩ o.dst (.undef _)⟩
 ·simp only[execOp,ho,Instr.storeAt,hX,Instr.sureAddr,aC,aN,aq,storeVar,cz hn]
  have I:(a.eval Y).cells.size=n:=by rw[<-aW,hY];exact J
  rw[if_neg (by simp[I]),hY,fX off vs w c 0 Z (by omega) y];rfl
 ·refine hM.heap.block (du W) g1 g2 g3 g4 g5 ⟨c',e,fl,fh,T,⟨by omega,by omega,fun h=>by rw[L];exact O (F ▸ h)⟩,fun k hk=> ?_⟩
  rw[Q k,J];exact E c hr k (by omega)
theorem oD{cs:f8}{vs:LAb}(h:cL x cs vs)(I:cs.all SV.one=true):∀v∈vs,v.oneCell'=true:=by
 intro v F;obtain⟨i,hi,rfl⟩:=bg F;have y:i<cs.length:=by rw[h.1];exact hi
 have:=h.2 i y;have E:cs.getD i .undef=cs[i]:=by rw[aa,ac y];rfl
 have J:vs.getD i undef=vs[i]:=by rw[aa,ac hi];rfl
 rw[E,J]at this;exact this.oneCell (bf.1 I _ (bv _))
theorem qH{c:SV}(h:c.isData=true):c.one=true:=by cases c<;>simp[SV.isData,SV.one]at*
theorem Y5{E:Nat}{F:d8}(h:∀y∈F,y.length=E){i j n:Nat}{v:f8}(hi:i<F.length)(hj:j+n<=E)(hv:v.length=n):
 (jX E F i j n v).length=F.length/\∀k,k<F.length*E->((jX E F i j n v).getD (k/E) []).getD (k % E) .undef=if i*E+j<=k/\k<i*E+j+n then v.getD (k-(i*E+j)) .undef else(F.getD (k/E) []).getD (k % E) .undef:=by
 have a1:(F.getD i []).length=E:=by rw[aa,ac hi];exact h _ (bv _)
 obtain⟨nr,J,Q⟩:∃nr:f8,(∀m,m<E->nr.getD m .undef=if j<=m/\m<j+n then v.getD (m-j) .undef else(F.getD i []).getD m .undef)/\jX E F i j n v=F.set i nr:=by
  unfold jX;split
  ·rename_i T
   obtain⟨rfl,rfl⟩:=T;exact⟨v,fun m hm=>by rw[if_pos ⟨by omega,by omega⟩,Nat.sub_zero],rfl⟩
  ·refine⟨_,fun m hm=> ?_,rfl⟩
   have:=gR (F.getD i []) v j m (by omega);rw[hv]at this;simp only[aa]at this ⊢;rw[this];split<;>rfl
 rw[Q];refine⟨by simp,fun k hk=> ?_⟩
 have L:0<E:=by
  rcases ic E with W|W
  ·subst W;omega
  ·exact W
 have O:=Nat.div_add_mod k E;have Z:=vq k L;rw[cS]at O;simp only[aa,ik]at J ⊢
 by_cases I:i=k/E
 ·rw[if_pos I,if_pos hi]
  simp only[aM];rw[J _ Z,<-I];rw[<-I]at O
  by_cases T:j<=k % E/\k % E<j+n
  ·rw[if_pos T,if_pos (by omega),show k-(i*E+j)=k % E-j from by omega]
  ·rw[if_neg T,if_neg (by omega)]
 ·rw[if_neg I,if_neg ?_]
  rintro⟨h1,h2⟩;apply I;have:i*E<=k/\k<(i+1)*E:=by rw[ed];omega
  rw[eq_comm,Nat.div_eq_iff L];rw[ed]at this;omega
theorem nf(y:Nat):∀(m:Nat)(v:f8),(kH y m v).length=m
 |0,_=>rfl
 |m+1,v=>by simp[kH,nf y m]
theorem uU(y:Nat)(E:0<y):∀(m:Nat)(v:f8)(k:Nat),k<m*y->((kH y m v).getD (k/y) []).getD (k % y) .undef=v.getD k .undef
 |0,_,k,hk=>by omega
 |m+1,v,k,hk=>by
  rw[ed]at hk;simp only[kH]
  by_cases h:k<y
  ·rw[BL h,ct h,List.getD_cons_zero]
   simp only[aa,bS,if_pos h]
  ·obtain⟨j,rfl⟩:∃j,k=j+y:=⟨k-y,by omega⟩
   rw[Nat.add_div_right _ E,Nat.add_mod_right,jk,uU y E m (v.drop y) j (by omega)];simp only[aa,bB,Nat.add_comm]
theorem If(hM:aR C x s a w){t:TypeId}{X Y:Operand}(Z:o.op= .store t X Y)(hr:bM P o=some so)(y:eff s o.dst so=some e)(hp:e.pre):cE P C o a w (s.app o.dst e):=by
 simp only[bM,Z]at hr;split at hr<;>try (cases hr;done)
 rename_i n r q hn b1 a7;cases hr;have W:=aP hM b1;have h2:=aP hM a7;simp only[eff]at y;split at y<;>try (cases y;done)
 rename_i hn0;have hL:=h2.cells hn0;cases hu:s.ev r with
 |ptr d off=>
  rw[hu]at y W;simp only[sL]at y;split at y<;>try (cases y;done)
  ·rename_i cs I
   cases y;obtain⟨Q,L,J⟩:=hp;refine cE.store hM Z hn W.ptr_inv I rfl (by rw[<-hL.1];exact L) (oD hL J) Q (by simp only[aH.size];exact pm _ _ _ (by omega)) (fun c T k F=> ?_);have:=T k F;simp only[cA]at this ⊢;rw[vk _ _ _ (by omega),L];split
   ·exact hL.get _
   ·exact this
  ·rename_i O xs I
   cases y;obtain⟨rfl,Q,L,J⟩:=hp
   refine cE.store hM Z hn W.ptr_inv I rfl (by rw[<-hL.1];exact L) (oD hL (by rw[bf]at J ⊢;exact fun z hz=>qH (J z hz))) (by simp only[aH.size];omega) (by simp only[aH.size,nf]) (fun c T k F=> ?_)
   simp only[aH.size]at F;have E:k<(s.ev q).cells.length:=by omega
   have a8:0<O:=by
    rcases ic O with h0|h0
    ·subst h0;omega
    ·exact h0
   simp only[cA,aH.cell];rw[if_pos ⟨by omega,by omega⟩,Nat.sub_zero,uU O a8 _ _ _ F,gZ];refine((hL.2 _ E).data (bf.1 J _ ?_)).toData;generalize (s.ev q).cells=qq at*;rw[aa,ac E];exact bv _
  ·rename_i l I
   split at y<;>try (cases y;done)
   rename_i l' hv;cases y;obtain⟨rfl,Q,L⟩:=hp;have a6:=vt hv;rw[a6]at hL
   refine cE.store hM Z hn W.ptr_inv I rfl (by rw[<-hL.1,aV];exact L) (oD hL (by rw[bf];intro z hz;obtain⟨b,_,rfl⟩:=aZ.1 hz;rfl)) (by simp only[aH.size];omega) (by simp only[aH.size];omega) (fun c T k F=> ?_)
   simp only[aH.size]at F;simp only[cA,aH.cell];rw[if_pos ⟨by omega,by omega⟩,Nat.sub_zero];have E:k<(l'.map SV.u8).length:=by rw[aV];omega
   have a1:k<l'.length:=by omega
   have e1:(l'.map SV.u8).getD k .undef= .u8 (l'.getD k 0):=by simp[aa,aU,ac a1]
   have:=hL.2 k E;rw[e1]at this;exact this.data rfl
 |ap d O i j=>
  rw[hu]at y W;simp only[sL]at y;split at y<;>try (cases y;done)
  ·rename_i b3 xs I
   cases y;obtain⟨rfl,Q,L,J,q3,q4⟩:=hp;have b0:((s.ev q).cells.map SV.data).length=n:=by rw[aV];exact J
   obtain⟨g1,g2⟩:=Y5 q3 Q L b0
   have hb:i*O+j+n<=xs.length*O:=by have:=bo O (Nat.succ_le_of_lt Q);rw[ed]at this;omega
   refine cE.store hM Z hn W.ap_inv I rfl (by rw[<-hL.1];exact J) (oD hL (by rw[bf]at q4 ⊢;exact fun z hz=>qH (q4 z hz))) (by simp only[aH.size];exact hb) (by simp only[aH.size];rw[g1]) (fun c T k F=> ?_)
   have:=T k F;simp only[cA,aH.cell,aH.size]at this F ⊢;rw[g2 k F];split
   ·rename_i b4
    rw[gZ];have E:k-(i*O+j)<(s.ev q).cells.length:=by omega
    refine((hL.2 _ E).data (bf.1 q4 _ ?_)).toData;generalize (s.ev q).cells=qq at*;rw[aa,ac E];exact bv _
   ·exact this
  ·rename_i l I
   split at y<;>try (cases y;done)
   rename_i b hb;cases y;obtain⟨rfl,rfl,rfl,Q⟩:=hp;rw[hb]at hL;refine cE.store hM Z hn W.ap_inv I rfl (by rw[<-hL.1];rfl) (oD hL rfl) (by simp only[aH.size];omega) (by simp[aH.size]) (fun c T k F=> ?_);have:=T k F;simp only[cA,aH.cell,aH.size]at this F ⊢;simp only[dq,fm]
   by_cases a2:k=i
   ·subst a2
    rw[if_pos (by omega),sI];have e1:(l.set k b).getD k 0=b:=by rw[aa,ik,if_pos rfl,if_pos F];rfl
    rw[e1];exact(hL.2 0 (by simp)).data rfl
   ·rw[if_neg (by omega)]
    have e1:(l.set i b).getD k 0=l.getD k 0:=by rw[aa,ik,if_neg (fun e=>a2 e.symm),<-aa]
    rw[e1];exact this
 |_=>rw[hu]at y;simp[sL]at y
end Go.Sy
namespace Go.Sy
variable [bx]
variable {P : Program} {C : Ctx} {x : Sit} {s : St} {a : Act} {w : World} {o : Oper} {so : SOp} {e : Eff}
def xzl(G:GM)(b off:Nat)(fl:f8):Prop:=∀k,k<fl.length->∃v,G b (off+k)=some v/\cR G (fl.getD k .undef) v
def GQ(G:GM)(y:Nat)(fl:f8)(v:Value)(n cap:Nat):Prop:=
 n*y=fl.length/\n<=cap/\((∃b off,v= .slice (some ⟨b,off,none⟩) n cap/\xzl G b off fl)\/((∃a,v= .slice a 0 0)/\n=0/\cap=0))
theorem js(l:d9)(k:Nat)(h:k<l.length):(l.map SV.u8).getD k .undef= .u8 (l.getD k 0):=by simp only[aa,aU];rw[ac h];rfl
theorem zA{G:GM}{l:d9}{t:Tok}{v:Value}(h:cR G (.byt l t) v):∃cap,GQ G 1 (l.map .u8) v l.length cap/\∃bs,v= .slice bs l.length cap:=by
 cases h with
 |bytN=>exact⟨0,⟨by simp,by simp,.inr ⟨⟨none,rfl⟩,rfl,rfl⟩⟩,none,rfl⟩
 |bytE _ a=>exact⟨0,⟨by simp,by simp,.inr ⟨⟨some a,rfl⟩,rfl,rfl⟩⟩,some a,rfl⟩
 |byt _ _ b off cap n hn E h=>subst hn;refine⟨cap,⟨by simp,E,.inl ⟨b,off,rfl,fun k y=> ?_⟩⟩,_,rfl⟩;rw[aV]at y;exact⟨_,h k y,by rw[js _ _ y];exact .u8 _⟩
theorem Lp{G:GM}{l:d9}{t:Tok}{v:Value}{cap:Nat}(h:GQ G 1 (l.map .u8) v l.length cap):cR G (.byt l t) v:=by
 obtain⟨_,F,⟨b,off,rfl,I⟩|⟨⟨a,rfl⟩,E,_⟩⟩:=h
 ·refine .byt l t b off cap l.length rfl F fun i hi=> ?_
  obtain⟨v,J,y⟩:=I i (by simpa using hi);rw[js _ _ hi]at y;cases y;exact J
 ·have:l=[]:=b8.1 E
  subst this;cases a with
  |none=>exact .bytN t
  |some a=>exact .bytE t a
theorem b9{F:Nat}{E:d8}(h:∀y∈E,y.length=F):E.flatten.length=E.length*F:=by
 induction E with
 |nil=>simp
 |cons y r I=>simp only[cK,ae,al,ed];rw[I (fun z hz=>h z (aw _ hz)),h y (by simp)];omega
theorem yc{F:Nat}{E:d8}(h:∀i,i<E.length->(E.getD i []).length=F):∀y∈E,y.length=F:=by intro y I;obtain⟨i,hi,rfl⟩:=bg I;have:=h i hi;rwa[aa,ac hi]at this
theorem sk{G:GM}{F:Nat}{I:d8}{t:Tok}{v:Value}(h:cR G (.lst F I t) v):∃cap,GQ G F I.flatten v I.length cap/\(∃bs,v= .slice bs I.length cap)/\∀y∈I,y.length=F:=by
 cases h with
 |lstN=>exact⟨0,⟨by simp,by simp,.inr ⟨⟨none,rfl⟩,rfl,rfl⟩⟩,⟨none,rfl⟩,by simp⟩
 |lstE _ _ a=>exact⟨0,⟨by simp,by simp,.inr ⟨⟨some a,rfl⟩,rfl,rfl⟩⟩,⟨some a,rfl⟩,by simp⟩
 |lst _ _ _ b off cap n vl hn hc Z W h=>
  subst hn;have E:=yc Z;refine⟨cap,⟨(b9 E).symm,hc,.inl ⟨b,off,rfl,fun k O=> ?_⟩⟩,⟨_,rfl⟩,E⟩;rw[b9 E]at O
  have Q:0<F:=by
   rcases ic F with L|L
   ·subst L;omega
   ·exact L
  have hd:k/F<I.length:=Nat.div_lt_of_lt_mul (by rw[cS];exact O);have T:=vq k Q;have J:=Nat.div_add_mod k F;rw[cS]at J;refine⟨vl (k/F) (k % F), ?_, ?_⟩
  ·have:=W _ _ hd T
   rwa[fo,J]at this
  ·rw[cX I E k O];exact h _ _ hd T
theorem KK{G:GM}{F:Nat}{I:d8}{t:Tok}{v:Value}{cap:Nat}(h:GQ G F I.flatten v I.length cap)(E:∀y∈I,y.length=F):cR G (.lst F I t) v:=by
 obtain⟨_,T,⟨b,off,rfl,W⟩|⟨⟨a,rfl⟩,Q,_⟩⟩:=h
 ·refine .lst F I t b off cap I.length (fun i j=>(G b (off+i*F+j)).getD undef) rfl T (fun i hi=> ?_) (fun i j hi Z=> ?_) (fun i j hi Z=> ?_)
  ·rw[aa,ac hi];exact E _ (bv _)
  all_goals
   have O:i*F+j<I.length*F:=by have:=bo F (Nat.succ_le_of_lt hi);rw[ed]at this;omega
   obtain⟨v,L,J⟩:=W (i*F+j) (by rw[b9 E];exact O);rw[<-fo]at L
  ·rw[L];rfl
  ·rw[L]
   rw[cX I E _ O,show(i*F+j)/F=i from by rw[cS,Nat.mul_add_div (by omega),BL (by omega)];rfl,
    show(i*F+j) % F=j from by rw[cS,Nat.mul_add_mod,ct (by omega)]]at J
   exact J
 ·have:I=[]:=b8.1 Q
  subst this;cases a with
  |none=>exact .lstN F t
  |some a=>exact .lstE F t a
structure New(x:Sit)(ns:List Value)(fl:List SV):Prop where
 len:fl.length=ns.length
 rep:∀k,k<fl.length->cR x.G (fl.getD k .undef) (ns.getD k undef)
 one:∀v∈ns,v.oneCell'=true
theorem cn(z:LAc)(n:Nat):(Builtin.zeroCells z n).size=n*z.size:=by simp[Builtin.zeroCells]
theorem aR.retok(hM:aR C x s a w){t:Tok}(O:t.ready s=true)(d:Nat){y n cap:Nat}{bs:Option Addr}(I:dP x y t (.slice bs n cap)):
 ∃b lo hi,aR C (x.newT d b lo hi) (s.grew t d) a w/\dP (x.newT d b lo hi) y (.id d) (.slice bs n cap):=by
 have empty:cap=n->∃b lo hi,aR C (x.newT d b lo hi) (s.grew t d) a w/\dP (x.newT d b lo hi) y (.id d) (.slice bs n cap):=by
  intro E;refine⟨0,0,0,⟨?_,hM.defers, ?_⟩,bs,n,cap,rfl,.inl E⟩
  ·exact cL.mono (x:=x) (x':=x.newT d 0 0 0) (lo:=d) (hi:=d+1) (fun _ _ _ h=>h) (fun _ _=>rfl) (Sit.newT_ne x d 0 0 0) hM.tm
  ·refine(hM.heap.sub (tk':=t.eat s.tk) (pe.refl _) ?_).addT d 0 0 0 (.inl rfl) (.inl rfl) (.inl rfl)
   intro u hu;cases t with
   |id t=>exact gU hu
   |_=>exact hu
 cases t with
 |no=>simp[Tok.ready]at O
 |clip=>obtain⟨b',Z,J⟩:=I;simp only[Value.slice.injEq]at J;exact empty (by omega)
 |id t=>
  obtain⟨b',Z,Q,J,W⟩:=I;simp only[Value.slice.injEq]at J;obtain⟨rfl,rfl,rfl⟩:=J;rcases W with E|⟨b,off,rfl,hτ⟩
  ·exact empty E
  ·have F:t∈s.tk:=by simpa[Tok.ready]using O
   refine⟨b,off+n*y,off+cap*y,⟨?_,hM.defers, ?_⟩,_,n,cap,rfl,.inr ⟨b,off,rfl,Sit.newT_eq x d _ _ _⟩⟩
   ·exact cL.mono (x:=x) (x':=x.newT d b (off+n*y) (off+cap*y)) (lo:=d) (hi:=d+1) (fun _ _ _ h=>h) (fun _ _=>rfl) (Sit.newT_ne x d _ _ _) hM.tm
   ·have L:=hM.heap.tks t F
    unfold iU at L;rw[hτ]at L;refine(hM.heap.sub (tk':=cP t (t+1) s.tk) (pe.refl _) (fun u hu=>gU hu)).addT d b (off+n*y) (off+cap*y) L ?_ ?_
    ·by_cases E:off+n*y=off+cap*y
     ·exact .inl E
     ·refine .inr fun p T _=> ?_
      have:=hM.heap.tko t F p T;rw[hτ]at this;exact this.resolve_right E
    ·by_cases E:off+n*y=off+cap*y
     ·exact .inl E
     ·refine .inr fun u hu _=> ?_
      obtain⟨hu,a1⟩:=bZ.1 hu;have:=hM.heap.tkd t F u hu (by omega);rw[hτ]at this;rcases this with h|h|h
      ·exact .inl h
      ·exact absurd h E
      ·exact .inr h
theorem eZ{t u O:TypeId}{I:TypeDesc}{n m len cap:Nat}(hd:P.underlying t=some (.slice O))(hu:P.underlying u=some I)(J:(∃L,I= .slice L)\/I= .string)(hn:fI P O=some n){ty:TypeId}{bs:Option Addr}{Y:Value}{ns:LAb}{w1:World}
 (F:(Builtin.lenOf Y).run P w= .ok m w) (y:(Builtin.firstCells n m Y).run P w= .ok ns.toArray w) (Z:len+m<=cap)
 (E:(match bs with|some Q=>storeCells (Q.add (len*n)) ns|none=>pure ():Sem Unit).run P w= .ok () w1):
 (Builtin.append_ #[t,u] ty #[.slice bs len cap,Y]).run P w= .ok (.slice bs (len+m) cap) w1:=by
 have e:(#[t,u]:Array TypeId)[0]? =some t:=rfl;have L:(#[t,u]:Array TypeId)[1]? =some u:=rfl;have W:(#[Value.slice bs len cap,Y]:LAc)[0]? =some (.slice bs len cap):=rfl;have T:(#[Value.slice bs len cap,Y]:LAc)[1]? =some Y:=rfl;rcases J with⟨e4,rfl⟩|rfl
 all_goals
  simp only[Builtin.append_,e,L,W,T,aC,run_underlying hd,aq,cz hn,run_underlying hu,aN,aO,if_false,F,Z,if_true,Bool.not_false,y];cases bs with
  |none=>simp only[aN]at E;cases E;rfl
  |some Q=>simp only[aC];rw[E];rfl
theorem fp{t u E:TypeId}{Q:TypeDesc}{n m len cap by_:Nat}{i:TypeInfo}{z:Value}(hd:P.underlying t=some (.slice E))(hu:P.underlying u=some Q)(Z:(∃e',Q= .slice e')\/Q= .string)(hn:fI P E=some n){ty:TypeId}{bs:Option Addr}{Y:Value}{os ns:LAb}
 (hi:P.info? E=some i) (I:i.bytes=by_) (hb0:by_≠0) (T:∀w,(zeroValue E).run P w= .ok z w)
 (L:∀w',w'.heap=w.heap->(Builtin.lenOf Y).run P w'= .ok m w') (y:∀w',w'.heap=w.heap->(Builtin.firstCells n m Y).run P w'= .ok ns.toArray w') (J:∀w',w'.heap=w.heap->(Builtin.firstCells n len (.slice bs len cap)).run P w'= .ok os.toArray w')
 (hc:¬len+m<=cap) (F:(len+m)*by_<=140737488355328):
 ∃W,len+m<=W/\(Builtin.append_ #[t,u] ty #[.slice bs len cap,Y]).run P w= .ok (.slice (some ⟨w.heap.size,0,none⟩) (len+m) W) (w.drew.alloc (.cells (os.toArray++ns.toArray++Builtin.zeroCells z.cells (W-(len+m))) E (0,0))):=by
 have e:(#[t,u]:Array TypeId)[0]? =some t:=rfl;have e':(#[t,u]:Array TypeId)[1]? =some u:=rfl;have e2:(#[Value.slice bs len cap,Y]:LAc)[0]? =some (.slice bs len cap):=rfl;have e3:(#[Value.slice bs len cap,Y]:LAc)[1]? =some Y:=rfl;have hf:(Question.appendCap (len+m) cap E).forced=false:=rfl
 have O:¬Builtin.nextslicecap (len+m) cap*i.bytes>2^48:=by have:=growslice_fits (need:=len+m) (old:=cap) (bytes:=by_) (by omega) F;rw[I];omega
 refine⟨(Question.appendCap (len+m) cap E).cut (w.tape w.drawn (Question.appendCap (len+m) cap E)),by simp only[Question.cut];omega, ?_⟩;rcases Z with⟨e4,rfl⟩|rfl
 all_goals
  simp only[Builtin.append_,e,e',e2,e3,aC,run_underlying hd,aq,cz hn,run_underlying hu,aN,aO,if_false,L w rfl,hc,run_typeInfo w hi,I,hb0,false_or,and_false];rw[if_neg (by rw[<-I];exact O)];simp only[aC,run_choose_drew,hf,aO,if_false,aq,run_typeInfo w.drew hi,run_askRoom,J w.drew rfl,Bool.not_false,if_true,y w.drew rfl,T,newRow,run_newObj_alloc,aN];rfl
theorem lv(os ns:LAb)(r:LAc)(k:Nat)(h:k<os.length+ns.length):(os.toArray++ns.toArray++r)[k]? =(os++ns)[k]? :=by rw[cy (by simp;omega)];rw[<-db];simp
theorem pY(hM:aR C x s a w){t u el:TypeId}{d2:TypeDesc}{n by_:Nat}{zs:LAb}(hd:P.underlying t=some (.slice el))(hu:P.underlying u=some d2)(b3:(∃e',d2= .slice e')\/d2= .string)(hn:fI P el=some n)(hb:wt P el=some by_)
 (hz:gQ P el=some zs) (hb0:by_≠0) (d3:n≠0) (hzl:zs.length=n) {ty:TypeId} {X Y:Value} {tok:Tok} {fl y:f8} {ns:LAb} {len m cap:Nat} (hX:GQ x.G n fl X len cap) (T:tok.ready s=true) (b1:dP x n tok X)
 (Z:∀w',w'.heap=w.heap->(Builtin.lenOf Y).run P w'= .ok m w') (F:∀w',w'.heap=w.heap->(Builtin.firstCells n m Y).run P w'= .ok ns.toArray w') (L:ns.length=m*n) (E:New x ns y) (a8:(len+m)*by_<=140737488355328) (d:Nat):
 ∃v w' x' a7,(Builtin.append_ #[t,u] ty #[X,Y]).run P w= .ok v w'/\aR C x' (s.grew tok d) a w'/\GQ x'.G n (fl++y) v (len+m) a7/\dP x' n (.id d) v:=by
 obtain⟨a1,h8,a2⟩:=hX;obtain⟨z,g7,f0⟩:=de hz
 have hby:∃i,P.info? el=some i/\i.bytes=by_:=by
  unfold wt at hb;cases hi:P.info? el with
  |none=>simp[hi]at hb
  |some i=>simp[hi]at hb;exact⟨i,rfl,hb⟩
 obtain⟨i,hi,g5⟩:=hby
 obtain⟨bs,e6⟩:∃bs,X= .slice bs len cap:=by
  rcases a2 with⟨b,off,rfl,_⟩|⟨⟨a,rfl⟩,rfl,rfl⟩
  ·exact⟨_,rfl⟩
  ·exact⟨_,rfl⟩
 subst e6;have c5:y.length=m*n:=by rw[E.len,L]
 have O:(len+m)*n=(fl++y).length:=by rw[ae,c5,<-a1,bH]
 by_cases hc:len+m<=cap
 ·by_cases hm:ns=[]
  ·
   subst hm;have d5:y=[]:=b8.1 (by rw[E.len];rfl);subst d5;obtain⟨b,lo,h3,g4,c3⟩:=hM.retok T d b1
   by_cases a6:m=0
   ·subst a6
    refine⟨_,w,_,cap,eZ hd hu b3 hn (Z w rfl) (F w rfl) hc (by cases bs<;>rfl),g4, ?_,c3⟩;refine⟨by simpa using a1,hc, ?_⟩;rcases a2 with⟨b,off,I,hr⟩|⟨I,h1,h2⟩
    ·exact .inl ⟨b,off,I,by rw[bA];exact hr⟩
    ·exact .inr ⟨I,h1,h2⟩
   ·
    have hn0:n=0:=by
     simp only[aB]at L;rcases Nat.mul_eq_zero.1 L.symm with h|h
     ·exact absurd h a6
     ·exact h
    exact absurd hn0 d3
  ·have d7:0<ns.length:=List.length_pos_iff.2 hm
   have d4:0<m*n:=by omega
   cases tok with
   |no=>simp[Tok.ready]at T
   |clip=>
    obtain⟨b',n',I⟩:=b1;simp only[Value.slice.injEq]at I;have:m=0:=by omega
    subst this;omega
   |id tk=>
    have g1:tk∈s.tk:=by simpa[Tok.ready]using T
    obtain⟨b',n',a7,I,hh⟩:=b1;simp only[Value.slice.injEq]at I;obtain⟨rfl,rfl,rfl⟩:=I;rcases hh with h4|⟨b,off,rfl,hτ⟩
    ·have:m=0:=by omega
     subst this;omega
    ·have d6:off+len*n+ns.length<=off+cap*n:=by
      rw[L,fo,<-bH];exact Nat.add_le_add_left (bo _ hc) _
     obtain⟨f1,f2,f3,f4,f5,f6,f7,⟨c0,e0,h7,h6,hO,h0⟩⟩:=hM.heap.fill g1 hτ ns d6 d7
     have W:=eZ (t:=t) (u:=u) (ty:=ty) (Y:=Y) (bs:=some ⟨b,off,none⟩) (w1:=cj w b (off+len*n) ns) hd hu b3 hn (Z w rfl) (F w rfl) hc (by simp only[dB];exact fX (off+len*n) ns w c0 0 hO (by omega) E.one)
     refine⟨_,_,(x.fill b (off+len*n) ns).newT d b (off+len*n+ns.length) (off+cap*n),cap,W,⟨?_,hM.defers, ?_⟩,⟨O,hc,.inl ⟨b,off,rfl, ?_⟩⟩, ?_⟩
     ·exact cL.mono (x:=x) (x':=(x.fill b (off+len*n) ns).newT d b (off+len*n+ns.length) (off+cap*n)) (lo:=d) (hi:=d+1) f1 (fun _ _=>rfl) (Sit.newT_ne (x.fill b (off+len*n) ns) d _ _ _) hM.tm
     ·exact f2.addT d b _ _ (.inr ⟨f3,f4,f5⟩) (.inr fun p hp _=>f6 p hp) (.inr fun u hu _=>f7 u hu)
     ·rcases a2 with⟨b2,g8,b6,hr⟩|⟨b6,_,_⟩
      ·simp only[Value.slice.injEq,ax.injEq,Addr.mk.injEq]at b6
       obtain⟨⟨rfl,rfl,_⟩,_⟩:=b6;intro k hk
       by_cases J:k<fl.length
       ·obtain⟨v,hv,b4⟩:=hr k J
        refine⟨v,f1 _ _ _ hv, ?_⟩;have:(fl++y).getD k .undef=fl.getD k .undef:=by simp only[aa,bt J]
        rw[this];exact b4.mono f1
       ·rw[ae]at hk
        refine⟨ns.getD (k-fl.length) undef, ?_, ?_⟩
        ·show(x.fill b (off+len*n) ns).G b (off+k)=_
         simp only[Sit.fill];rw[if_pos ⟨trivial,by omega,by omega⟩,show off+k-(off+len*n)=k-fl.length from by omega]
        ·have:(fl++y).getD k .undef=y.getD (k-fl.length) .undef:=by simp only[aa,bD (Nat.le_of_not_lt J)]
         rw[this];exact(E.rep _ (by omega)).mono f1
      ·have a6:m=0:=by omega
       rw[a6,iq]at d4;exact absurd d4 (Nat.lt_irrefl _)
     ·refine⟨_,_,cap,rfl,.inr ⟨b,off,rfl, ?_⟩⟩
      rw[Sit.newT_eq,L,fo,<-bH]
 ·
  obtain⟨os,e5,Q,e3⟩:∃os:LAb,(∀w',w'.heap=w.heap->(Builtin.firstCells n len (.slice bs len cap)).run P w'= .ok os.toArray w')/\os.length=fl.length/\∀k,k<fl.length->cR x.G (fl.getD k .undef) (os.getD k undef):=by
   rcases a2 with⟨b,off,I,hr⟩|⟨I,h1,h2⟩
   ·simp only[Value.slice.injEq]at I
    obtain⟨rfl,_⟩:=I;refine⟨(bC (len*n)).map fun k=>(w.cell? ⟨b,off+k,none⟩).getD undef,fun w' g3=> ?_,by simp[a1],fun k hk=> ?_⟩
    ·simp only[Builtin.firstCells]
     refine run_loadCells w' _ _ _ fun j hj=> ?_
     rw[dB,dN (w:=w) (by rw[g3])];obtain⟨v,hv,_⟩:=hr j (by omega);rw[hM.heap.per _ _ _ hv];rfl
    ·obtain⟨v,hv,b4⟩:=hr k hk
     have:((bC (len*n)).map fun k=>(w.cell? ⟨b,off+k,none⟩).getD undef).getD k undef=v:=by rw[aa];simp[show k<len*n from by omega,hM.heap.per _ _ _ hv]
     rw[this];exact b4
   ·obtain⟨a,I⟩:=I
    simp only[Value.slice.injEq]at I;obtain⟨rfl,rfl,_⟩:=I;have:fl=[]:=b8.1 (by rw[<-a1,h1,iq]);subst this;exact⟨[],fun w' _=>by cases bs<;>simp only[Builtin.firstCells,iq]<;>rfl,rfl,fun k hk=>by simp at hk⟩
  obtain⟨nc,e9,W⟩:=fp (t:=t) (u:=u) (ty:=ty) (Y:=Y) hd hu b3 hn hi g5 hb0 f0 Z F e5 hc a8
  let cv:LAc:=os.toArray++ns.toArray++Builtin.zeroCells z.cells (nc-(len+m))
  have g9:cv.size=nc*n:=by
   have g2:z.cells.size=n:=by rw[<-aW,g7];exact hzl
   simp only[cv,cV,ce,cn,g2,Q,L,<-a1];rw[<-bH,<-bH];congr 1;omega
  have b0:∀o,x.G w.heap.size o=none:=by
   intro o;cases hg:x.G w.heap.size o with
   |none=>rfl
   |some v=>exact absurd (hM.heap.ltG hg) (by omega)
  have e4:=hM.heap.newD_le cv ((len+m)*n);have hH:dl C (x.newD w.heap.size cv ((len+m)*n)) s.ob s.tk (w.drew.alloc (.cells cv el (0,0))):=hM.heap.drew.allocD ((len+m)*n);have c7:eQ (w.drew.alloc (.cells cv el (0,0))) w.heap.size cv el 0 0:=⟨heap_alloc_new (w:=w.drew),fun i _ h=>by omega⟩;refine⟨_,_,(x.newD w.heap.size cv ((len+m)*n)).newT d w.heap.size ((len+m)*n) (nc*n),nc,W,⟨?_,hM.defers, ?_⟩,⟨O,e9,.inl ⟨_,0,rfl, ?_⟩⟩, ?_⟩
  ·exact cL.mono (x:=x) (x':=(x.newD w.heap.size cv ((len+m)*n)).newT d w.heap.size ((len+m)*n) (nc*n)) (lo:=d) (hi:=d+1) e4 (fun _ _=>rfl) (Sit.newT_ne (x.newD w.heap.size cv ((len+m)*n)) d _ _ _) hM.tm
  ·refine(hH.sub (tk':=tok.eat s.tk) (pe.refl _) ?_).addT d w.heap.size _ _ (.inr ⟨⟨cv,el,0,0,c7,by omega⟩,hM.heap.new _ hM.heap.size,fun o h1 h2=> ?_⟩) (.inr fun p hp _=> ?_) (.inr fun u hu _=> ?_)
   ·intro u hu
    cases tok with
    |id t=>exact gU hu
    |_=>exact hu
   ·simp only[Sit.newD];rw[if_neg (by omega)];exact b0 o
   ·obtain⟨⟨c2,e2,e8,g6,b5,_⟩,_⟩:=hM.heap.obs p hp
    have:=b5.lt;show w.heap.size≠(x.bk p.1).1;omega
   ·have e7:u∈s.tk:=by
     cases tok with
     |id t=>exact gU hu
     |_=>exact hu
    rcases hM.heap.tks u e7 with h|⟨⟨c2,e2,e8,g6,b5,_⟩,_⟩
    ·exact .inr h
    ·have:=b5.lt
     exact .inl (by show w.heap.size≠(x.τ u).1;omega)
  ·intro k hk
   have b7:k<os.length+ns.length:=by rw[Q,<-E.len,<-ae];exact hk
   have d1:cv[k]? =(os++ns)[k]? :=lv os ns _ k b7;have h5:k<(len+m)*n:=by rw[O];exact hk
   refine⟨(os++ns).getD k undef, ?_, ?_⟩
   ·show(x.newD w.heap.size cv ((len+m)*n)).G w.heap.size (0+k)=_
    simp only[Sit.newD];rw[if_pos ⟨trivial,by omega⟩,bY,d1];have:k<(os++ns).length:=by rw[ae];exact b7
    rw[ac this,aa,ac this];rfl
   ·refine cR.mono (G:=x.G) e4 ?_
    by_cases J:k<fl.length
    ·have e1:(fl++y).getD k .undef=fl.getD k .undef:=by simp only[aa,bt J]
     have e2:(os++ns).getD k undef=os.getD k undef:=by simp only[aa,bt (show k<os.length by omega)]
     rw[e1,e2];exact e3 k J
    ·have e1:(fl++y).getD k .undef=y.getD (k-fl.length) .undef:=by simp only[aa,bD (Nat.le_of_not_lt J)]
     have e2:(os++ns).getD k undef=ns.getD (k-fl.length) undef:=by simp only[aa,bD (show os.length<=k by omega),Q]
     rw[e1,e2];exact E.rep _ (by rw[ae]at hk;omega)
  ·exact⟨_,_,nc,rfl,.inr ⟨w.heap.size,0,rfl,by rw[Sit.newT_eq];simp⟩⟩
theorem jG(hM:aR C x s a w){u:SV}{Y:Value}{p:Prop}{l:d9}(h:Rep x u Y)(I:bytesOf s u=some (p,l))(hp:p):
 (∀w',w'.heap=w.heap->(Builtin.lenOf Y).run P w'= .ok l.length w')/\(∀m,m<=l.length->∀w',w'.heap=w.heap->(Builtin.firstCells 1 m Y).run P w'= .ok ((l.take m).map fun b=>Value.int .u8 b.toNat).toArray w'):=by
 have load:∀(b off m:Nat),m<=l.length->(∀i,i<l.length->w.cell? ⟨b,off+i,none⟩=some (.int .u8 (l.getD i 0).toNat))->∀w':World,w'.heap=w.heap->
  (loadCells ⟨b,off,none⟩ (m*1)).run P w'= .ok ((l.take m).map fun b=>Value.int .u8 b.toNat).toArray w':=by
  intro b off m E hc w' F;rw[run_loadCells w' _ _ (fun i=> .int .u8 (l.getD i 0).toNat) (fun j hj=>by rw[dB,dN (w:=w) (by rw[F])];exact hc j (by omega))]
  congr 2
  apply List.ext_getElem?;intro i
  by_cases hi:i<m
  ·simp[hi,aa,show i<l.length from by omega]
  ·simp[hi];omega
 cases u with
 |byt T t=>
  simp only[bytesOf,ax.injEq,bG.injEq]at I;obtain⟨rfl,rfl⟩:=I;have Q:=h.data rfl;cases hY:Y with
  |slice ad n W=>
   rw[hY]at Q;cases Q with
   |bytN=>exact⟨fun w' _=>rfl,fun m E w' _=>by simp at E;subst E;rfl⟩
   |bytE=>exact⟨fun w' _=>rfl,fun m E w' _=>by simp at E;subst E;rfl⟩
   |byt _ _ b off _ _ hn hc hg=>subst hn;exact⟨fun w' _=>rfl,fun m E w' F=>by simp only[Builtin.firstCells];exact load b off m E (fun i hi=>hM.heap.per _ _ _ (hg i hi)) w' F⟩
  |_=>rw[hY]at Q;cases Q
 |str T=>simp only[bytesOf,ax.injEq,bG.injEq]at I;obtain⟨rfl,rfl⟩:=I;rw[h.str_inv];refine⟨fun w' _=>by simp[Builtin.lenOf,ByteArray.size],fun m E w' _=> ?_⟩;simp only[Builtin.firstCells,D5,bj,aN];simp
 |psl o' sz off n W=>
  simp only[bytesOf]at I;split at I<;>try (cases I;done)
  rename_i T hl;simp only[ax.injEq,bG.injEq]at I;obtain⟨rfl,rfl⟩:=I;obtain⟨Z,a2⟩:=hp;obtain⟨W,a6,_,y,a1,L⟩:=h.psl_inv;have O:((T.drop off).take n).length=n:=by simp;omega
  rw[a1];refine⟨fun w' _=>by simp only[Builtin.lenOf,O];rfl,fun m E w' F=> ?_⟩;simp only[Builtin.firstCells]
  by_cases hn:W=0
  ·have:m=0:=by omega
   subst this;rfl
  ·have J:y=off:=by
    rcases L with h|h
    ·omega
    ·rw[Z,dq]at h;exact h
   subst J;refine load ((x.bk o').1) y m E (fun i hi=> ?_) w' F;obtain⟨v,h2,h3⟩:=(fA hM hl).cell (k:=y+i) (by simp only[aH.size];omega);rw[h2];have h4:cR x.G (.u8 (T.getD (y+i) 0)) v:=h3;cases h4;simp only[aa,bS,if_pos (show i<n by omega),bB]
 |_=>simp[bytesOf]at I
theorem ur(l:d9):New x (l.map fun b=>Value.int .u8 b.toNat) (l.map .u8):=by
 refine⟨by simp,fun k y=> ?_,fun v E=> ?_⟩
 ·rw[aV]at y
  rw[js _ _ y]
  have:(l.map fun b=>Value.int .u8 b.toNat).getD k undef= .int .u8 (l.getD k 0).toNat:=by simp only[aa,aU];rw[ac y];rfl
  rw[this];exact .u8 _
 ·obtain⟨b,_,rfl⟩:=aZ.1 E;rfl
theorem iL(hM:aR C x s a w){F:Nat}{u:SV}{Y:Value}{p:Prop}{O:d8}(h:Rep x u Y)(Z:iT s F u=some (p,O))(hp:p):
 (∀y∈O,y.length=F)/\(∀w',w'.heap=w.heap->(Builtin.lenOf Y).run P w'= .ok O.length w')/\
 ∃ns:LAb,New x ns O.flatten/\∀m,m<=O.length->∀w',w'.heap=w.heap->(Builtin.firstCells F m Y).run P w'= .ok (ns.take (m*F)).toArray w':=by
 have a7:∀(b off:Nat),(∀y∈O,y.length=F)->(∀k,k<O.flatten.length->∃v,w.cell? ⟨b,off+k,none⟩=some v/\cR x.G (O.flatten.getD k .undef) v)->
  ∃ns:LAb,New x ns O.flatten/\∀m,m<=O.length->∀w',w'.heap=w.heap->(loadCells ⟨b,off,none⟩ (m*F)).run P w'= .ok (ns.take (m*F)).toArray w':=by
  intro b off E hc;refine⟨(bC O.flatten.length).map fun k=>(w.cell? ⟨b,off+k,none⟩).getD undef,⟨by simp,fun k J=> ?_,fun v L=> ?_⟩,fun m W w' Q=> ?_⟩
  ·obtain⟨v,L,hr⟩:=hc k J
   have:((bC O.flatten.length).map fun k=>(w.cell? ⟨b,off+k,none⟩).getD undef).getD k undef=v:=by rw[aa,aU,cC J];simp[L]
   rw[this];exact hr
  ·obtain⟨k,J,rfl⟩:=aZ.1 L
   obtain⟨v,L,hr⟩:=hc k (dt.1 J);rw[L];exact hr.oneCell
  ·have b7:m*F<=O.flatten.length:=by rw[b9 E];exact bo _ W
   rw[run_loadCells w' _ _ (fun k=>(w.cell? ⟨b,off+k,none⟩).getD undef) (fun j hj=> ?_)]
   ·congr 2
    rw[<-fN,List.take_range,fP b7]
   ·rw[dB,dN (w:=w) (by rw[Q])]
    obtain⟨v,L,_⟩:=hc j (by omega);rw[L];rfl
 cases u with
 |lst b0 I t=>
  simp only[iT,ax.injEq,bG.injEq]at Z;obtain⟨rfl,rfl⟩:=Z;subst hp;obtain⟨cap,⟨h1,h2,h3⟩,_,E⟩:=sk (h.data rfl);refine⟨E, ?_⟩;rcases h3 with⟨b,off,rfl,hr⟩|⟨⟨ad,rfl⟩,h0,_⟩
  ·refine⟨fun w' _=>rfl, ?_⟩
   obtain⟨ns,g1,g2⟩:=a7 b off E (fun k J=>by obtain⟨v,L,b3⟩:=hr k J;exact⟨v,hM.heap.per _ _ _ L,b3⟩)
   exact⟨ns,g1,fun m W w' Q=>by simp only[Builtin.firstCells];exact g2 m W w' Q⟩
  ·have:I=[]:=b8.1 h0
   subst this
   exact⟨fun w' _=>rfl,[],⟨rfl,fun k J=>by simp at J,fun v L=>by simp at L⟩,fun m W w' _=>by
    have b5:m=0:=by simpa using W
    subst b5;cases ad<;>simp only[Builtin.firstCells,iq]<;>rfl⟩
 |psl o' b0 off n cp=>
  simp only[iT]at Z;split at Z<;>try (cases Z;done)
  rename_i c5 I hl;simp only[ax.injEq,bG.injEq]at Z;obtain⟨rfl,rfl⟩:=Z;obtain⟨rfl,rfl,b1,c3⟩:=hp;have E:∀y∈(I.drop off).take n,y.length=F:=fun y hy=>c3 y (cH (bF hy))
  obtain⟨cp,c7,_,a1,b4,a6⟩:=h.psl_inv;have T:((I.drop off).take n).length=n:=by simp;omega
  rw[b4];refine⟨E,fun w' _=>by simp only[Builtin.lenOf,T];rfl, ?_⟩
  by_cases hn:cp=0
  ·have hn0:n=0:=by omega
   subst hn0
   exact⟨[],⟨by simp,fun k J=>by simp at J,fun v L=>by simp at L⟩,fun m W w' _=>by simp at W;subst W;simp[Builtin.firstCells,loadCells,loadCellsFrom]⟩
  ·have a2:a1=off*F:=a6.resolve_left hn
   obtain⟨ns,g1,g2⟩:=a7 ((x.bk o').1) a1 E (fun k J=>by
    rw[b9 E,T]at J
    have a8:off*F+k<I.length*F:=by have:=bo F b1;rw[bH]at this;omega
    obtain⟨v,h2,h3⟩:=(fA hM hl).cell (k:=off*F+k) (by simp only[aH.size];exact a8);refine⟨v,by rw[a2];exact h2, ?_⟩;have h4:cR x.G ((I.getD ((off*F+k)/F) []).getD ((off*F+k) % F) .undef) v:=h3
    have b6:0<F:=by
     rcases ic F with h0|h0
     ·subst h0;omega
     ·exact h0
    rw[cX _ E k (by rw[T];exact J)];rw[cS off F,Nat.mul_add_div b6,Nat.mul_add_mod]at h4;have hd:k/F<n:=Nat.div_lt_of_lt_mul (by rw[cS];exact J)
    have e1:((I.drop off).take n).getD (k/F) []=I.getD (off+k/F) []:=by simp only[aa,bS,if_pos hd,bB]
    rw[e1];exact h4)
   exact⟨ns,g1,fun m W w' Q=>by simp only[Builtin.firstCells];exact g2 m W w' Q⟩
 |_=>simp[iT]at Z
theorem Br(hM:aR C x s a w){cl:Call}(ho:o.op= .call cl)(hb:cl.callee= .builtin .append)(E:bM P o=some so)(I:eff s o.dst so=some e)(hp:e.pre):cE P C o a w (s.app o.dst e):=by
 simp only[bM,ho,hb]at E;split at E<;>try (cases E;done)
 rename_i X Y t u hX ht;split at E<;>try (cases E;done)
 rename_i el d2 r q hd hu d1 c7;split at E<;>try (cases E;done)
 rename_i n by_ z hn hby hz;rw[aJ]at E;obtain⟨T,E⟩:=E;simp only[aD,decide_eq_true_eq]at T;obtain⟨⟨hb0,hn0⟩,d4⟩:=T;obtain⟨zs,c5,d3,_⟩:=kj hz;have hzl:zs.length=n:=by omega
 have Z:((∃e',d2= .slice e')\/d2= .string)/\so= .app z by_ r q:=by
  split at E<;>try (cases E;done)
  ·cases E;exact⟨.inl ⟨_,rfl⟩,rfl⟩
  ·rw[aJ]at E
   obtain⟨_,E⟩:=E;cases E;exact⟨.inr rfl,rfl⟩
  ·cases E;cases I
 obtain⟨Z,rfl⟩:=Z;have h1:=aP hM d1;have h2:=aP hM c7;have ea:cl.args= #[X,Y]:=by apply eI;simpa using hX
 have et:cl.argTypes= #[t,u]:=by apply eI;simpa using ht
 have b0:=gq (a:=a) ho hb _ rfl;rw[ea,et]at b0;have em: #[X,Y].map a.eval= #[a.eval X,a.eval Y]:=by simp
 rw[em]at b0;simp only[eff]at I;split at I<;>try (cases I;done)
 rename_i d a2
 have b7:∀{v w' x'}{c:SV},(Builtin.append_ #[t,u] o.type #[a.eval X,a.eval Y]).run P w= .ok v w'->∀{tk:Tok},aR C x' (s.grew tk (d+100)) a w'->Rep x' c v->cE P C o a w ((s.grew tk (d+100)).put o.dst c):=by intro v w' x' c F tk W hc;exact⟨v,w',x',.value v,by rw[b0];simp[F],.inl rfl,W.put o.dst hc⟩
 cases hu':s.ev r with
 |byt l tk=>
  rw[hu']at I h1
  try simp only at I
  split at I<;>try (cases I;done)
  rename_i p l' b4;cases I;obtain⟨b1,d5,rfl,b5,Q⟩:=hp;obtain rfl:n=1:=by omega
  obtain⟨g1,g2⟩:=jG (P:=P) hM h2 b4 b1;obtain⟨_,_,_,_,_,a8⟩:=h1.byt_inv;obtain⟨cap,hF,_⟩:=zA (h1.data rfl)
  obtain⟨v,w',x',O,F,W,a6,L⟩:=pY (ty:=o.type) hM hd hu Z hn hby c5 hb0 hn0 hzl hF b5 a8 g1 (fun w' a7=>by have:=g2 l'.length (aK _) w' a7;rwa[dy]at this) (by simp) (ur l') (by omega) (d+100)
  simp only[St.app];have b6:o.dst.getD 0=d:=by rw[a2];rfl
  rw[b6];refine b7 F W (.dat _ _ (Lp (cap:=O) ?_) L);rw[ae,co];exact a6
 |lst d6 l tk=>
  rw[hu']at I h1
  try simp only at I
  split at I<;>try (cases I;done)
  rename_i p l' b4;cases I;obtain⟨b1,rfl,b5,Q⟩:=hp;obtain rfl:n=z.length:=by omega
  obtain⟨J,g1,ns,a1,g2⟩:=iL (P:=P) hM h2 b4 b1;obtain⟨_,_,_,_,_,a8⟩:=h1.lst_inv;obtain⟨cap,hF,_,b3⟩:=sk (h1.data rfl);have c3:ns.length=l'.length*z.length:=by rw[<-a1.len,b9 J]
  obtain⟨v,w',x',O,F,W,a6,L⟩:=pY (ty:=o.type) hM hd hu Z hn hby c5 hb0 hn0 hzl hF b5 a8 g1 (fun w' a7=>by have:=g2 l'.length (aK _) w' a7;rwa[<-c3,dy]at this) c3 a1 Q (d+100)
  simp only[St.app];have b6:o.dst.getD 0=d:=by rw[a2];rfl
  rw[b6];refine b7 F W (.dat _ _ (KK (cap:=O) ?_ ?_) L)
  ·rw[ae,cg];exact a6
  ·intro y hy
   rcases am.1 hy with hy|hy
   ·exact b3 y hy
   ·exact J y hy
 |_=>rw[hu']at I;simp at I
end Go.Sy
namespace Go.Sy
variable [bx]
variable {P : Program} {C : Ctx} {x : Sit} {s : St} {a : Act} {w : World} {o : Oper} {so : SOp} {e : Eff}
theorem aR.write(hM:aR C x s a w){d off:Nat}{obj obj':aH}(Q:s.look d=some obj){vs:LAb}(hb:off+vs.length<=obj.size)(a1:obj'.size=obj.size)
 (E:∀c:LAc,(∀k,k<obj.size->cA x obj k (c.getD k undef))->∀k,k<obj.size->cA x obj' k (if off<=k/\k<off+vs.length then vs.getD (k-off) undef else c.getD k undef)) (F:obj'.arrB=obj.arrB:=by rfl):
 aR C x (s.setO d obj') a (cj w ((x.bk d).1) off vs)/\((∀v∈vs,v.oneCell'=true)->∀w':World,w'=w->(storeCells ⟨(x.bk d).1,off,none⟩ vs).run P w'= .ok () (cj w ((x.bk d).1) off vs)):=by
 obtain⟨c,e,fl,fh,T,⟨hs,a2,J⟩,hr⟩:=fA hM Q;obtain⟨g1,Z,W,g4,g5⟩:=dI ((x.bk d).1) vs w off;obtain⟨c',O,I,L⟩:=dv vs w off c T (by omega);refine⟨⟨hM.tm,hM.defers,hM.heap.block (du Q) g1 Z W g4 g5 ⟨c',e,fl,fh,O,⟨by omega,by omega,fun h=>by rw[I];exact J (F ▸ h)⟩,fun k hk=> ?_⟩⟩, ?_⟩
 ·rw[L k]
  exact E c hr k (by omega)
 ·rintro y w' rfl
  exact fX off vs w' c 0 T (by omega) y
theorem yB{t u J:TypeId}{n m k:Nat}{ty:TypeId}{bs:Addr}{cap:Nat}{Y:Value}{vs:LAb}{w1:World}(hd:P.underlying t=some (.slice J))(hn:fI P J=some n)
 (E:(Builtin.lenOf Y).run P w= .ok m w) (y:(Builtin.firstCells n (min m k) Y).run P w= .ok vs.toArray w) (I:(storeCells bs vs).run P w= .ok () w1):
 (Builtin.copy_ #[t,u] ty #[.slice (some bs) k cap,Y]).run P w= .ok (.int .i64 (min m k:Nat)) w1:=by
 have e:(#[t,u]:Array TypeId)[0]? =some t:=rfl;have O:(#[Value.slice (some bs) k cap,Y]:LAc)[0]? =some (.slice (some bs) k cap):=rfl;have L:(#[Value.slice (some bs) k cap,Y]:LAc)[1]? =some Y:=rfl;have F:(Builtin.firstCells n (Nat.min m k) Y).run P w= .ok vs.toArray w:=y;simp only[Builtin.copy_,e,O,L,aC,run_underlying hd,aq,cz hn,E,F,I,aN,goInt]
theorem K6(hM:aR C x s a w){cl:Call}(ho:o.op= .call cl)(hb:cl.callee= .builtin .copy)(hr:bM P o=some so)(he:eff s o.dst so=some e)(hp:e.pre):cE P C o a w (s.app o.dst e):=by
 simp only[bM,ho,hb]at hr;split at hr<;>try (cases hr;done)
 rename_i X Y t u hX ht;split at hr<;>try (cases hr;done)
 rename_i el r q hd d1 c5;split at hr<;>try (cases hr;done)
 rename_i n hn;cases hr;have h1:=aP hM d1;have h2:=aP hM c5;have ea:cl.args= #[X,Y]:=by apply eI;simpa using hX
 have et:cl.argTypes= #[t,u]:=by apply eI;simpa using ht
 have a8:=gq (a:=a) ho hb _ rfl;rw[ea,et]at a8;have em: #[X,Y].map a.eval= #[a.eval X,a.eval Y]:=by simp
 rw[em]at a8;simp only[eff]at he;cases hu:s.ev r with
 |psl d e6 off k cap=>
  rw[hu]at he h1;obtain⟨cap,e5,_,Q,b7,b1⟩:=h1.psl_inv
  try simp only at he
  split at he<;>try (cases he;done)
  ·rename_i l hl
   split at he<;>try (cases he;done)
   rename_i p E b5;cases he;obtain⟨b4,rfl,rfl,d4⟩:=hp;obtain⟨g1,g2⟩:=jG (P:=P) hM h2 b5 b4;have a7:((E.take (min E.length k)).map fun b=>Value.int .u8 b.toNat).length=min E.length k:=by simp
   have d2:E.take (min E.length k)=E.take k:=by rw[Nat.min_comm,<-List.take_take];simp
   have L:min E.length k=0\/Q=off:=by
    rcases b1 with h|h
    ·left;omega
    ·right;rw[dq]at h;exact h
   have a1:(E.take k).length=min E.length k:=by simp;omega
   simp only[St.app]
   obtain⟨
    hM',hst⟩:=hM.write (P:=P) (off:=off) (vs:=(E.take (min E.length k)).map fun b=>Value.int .u8 b.toNat) (obj':= .bar (l.take off++E.take k++l.drop (off+(E.take k).length))) hl (by simp only[aH.size,a7];omega)
    (by simp only[aH.size,ae,an,aE];omega) (by
     intro c hc i hi;have:=hc i hi;simp only[cA,aH.cell,aH.size]at this hi ⊢;have b3:=gR l (E.take k) off i (by rw[a1];omega);rw[a7]
     have e1:(l.take off++E.take k++l.drop (off+(E.take k).length)).getD i 0=if off<=i/\i<off+min E.length k then(E.take k).getD (i-off) 0 else l.getD i 0:=by simp only[aa];rw[b3,a1];split<;>rfl
     rw[e1];split
     ·rename_i d5
      rw[d2]
      have e2:((E.take k).map fun b=>Value.int .u8 b.toNat).getD (i-off) undef= .int .u8 ((E.take k).getD (i-off) 0).toNat:=by simp only[aa,aU];rw[ac (by rw[a1];omega)];rfl
      rw[e2];exact .u8 _
     ·exact this)
   refine⟨.int .i64 (min E.length k:Nat),_,x,.value _, ?_,.inl rfl,aR.put hM' o.dst (cZ _ _)⟩;rw[a8,b7]
   have b6:=yB (P:=P) (w:=w) (t:=t) (u:=u) (ty:=o.type) (bs:=⟨(x.bk d).1,Q,none⟩) (cap:=cap) (w1:=cj w ((x.bk d).1) off ((E.take (min E.length k)).map fun b=>Value.int .u8 b.toNat)) hd hn (g1 w rfl) (g2 _ (Nat.min_le_left _ _) w rfl) (by
    rcases L with h|h
    ·rw[h];rfl
    ·rw[h];exact hst (fun v hv=>by obtain⟨_,_,rfl⟩:=aZ.1 hv;rfl) w rfl)
   simp[b6]
  ·rename_i e4 I hl
   split at he<;>try (cases he;done)
   rename_i p E b5;cases he;obtain⟨b4,rfl,rfl,d4,F⟩:=hp;obtain⟨O,g1,ns,W,g2⟩:=iL (P:=P) hM h2 b5 b4;have d6:ns.length=E.length*n:=by rw[<-W.len,b9 O]
   have c3:(min E.length k)*n<=ns.length:=by rw[d6];exact bo _ (Nat.min_le_left _ _)
   have a7:(ns.take (min E.length k*n)).length=min E.length k*n:=by rw[an,fP c3]
   have a1:(E.take k).length=min E.length k:=by simp;omega
   have T:∀y∈E.take k,y.length=n:=fun y J=>O y (bF J)
   have a6:(E.take k).flatten.length=min E.length k*n:=by rw[b9 T,a1]
   have L:min E.length k=0\/Q=off*n:=by
    rcases b1 with h|h
    ·left;omega
    ·right;exact h
   have b0:off*n+min E.length k*n<=I.length*n:=by rw[<-bH];exact bo _ (by omega)
   have Z:∀y∈I.take off++E.take k++I.drop (off+(E.take k).length),y.length=n:=by
    intro y J;rcases am.1 J with J|J
    ·rcases am.1 J with J|J
     ·exact F y (bF J)
     ·exact T y J
    ·exact F y (cH J)
   have a2:(I.take off++E.take k++I.drop (off+(E.take k).length)).length=I.length:=by simp only[ae,an,aE];omega
   simp only[St.app]
   obtain⟨
    hM',hst⟩:=hM.write (P:=P) (off:=off*n) (vs:=ns.take (min E.length k*n)) (obj':= .arr n (I.take off++E.take k++I.drop (off+(E.take k).length))) hl (by simp only[aH.size,a7];exact b0)
    (by simp only[aH.size];rw[a2]) (by
     intro c hc i hi;have:=hc i hi;simp only[cA,aH.cell,aH.size]at this hi ⊢;rw[<-cX _ Z i (by rw[a2];exact hi)];rw[<-cX _ F i hi]at this;rw[cg,cg,a7];have ef:I.flatten=(I.take off).flatten++(I.drop off).flatten:=by rw[<-cg,cT]
     have l1:(I.take off).flatten.length=off*n:=by rw[b9 (fun y J=>F y (bF J)),an,fP (by omega)]
     have e1:I.flatten.take (off*n)=(I.take off).flatten:=by rw[ef,List.take_append_of_le_length (by rw[l1];exact aK _),aT (by rw[l1];exact aK _)]
     have e2:I.flatten.drop (off*n+min E.length k*n)=(I.drop (off+(E.take k).length)).flatten:=by
      have c7:I.flatten=(I.take (off+(E.take k).length)).flatten++(I.drop (off+(E.take k).length)).flatten:=by rw[<-cg,cT]
      have l2:(I.take (off+(E.take k).length)).flatten.length=off*n+min E.length k*n:=by rw[b9 (fun y J=>F y (bF J)),an,a1,fP (by omega),bH]
      rw[c7,List.drop_append,l2,sI,bj,bT (by rw[l2];exact aK _),aF]
     rw[<-e1,<-e2,<-a6];have b3:=gR I.flatten (E.take k).flatten (off*n) i (by rw[a6,b9 F];exact b0);rw[aa,b3];split
     ·rename_i d5
      rw[<-aa];have d7:i-off*n<(E.take k).flatten.length:=by omega
      have e0:(E.take k).flatten.getD (i-off*n) .undef=E.flatten.getD (i-off*n) .undef:=by
       have d3:E.flatten=(E.take k).flatten++(E.drop k).flatten:=by rw[<-cg,cT]
       rw[d3];simp only[aa];rw[bt d7]
      rw[e0]
      have e3:(ns.take (min E.length k*n)).getD (i-off*n) undef=ns.getD (i-off*n) undef:=by simp only[aa,bS];rw[if_pos (by omega)]
      rw[<-a6]at e3;rw[e3];exact W.rep _ (by rw[W.len];omega)
     ·rw[<-aa];exact this)
   refine⟨.int .i64 (min E.length k:Nat),_,x,.value _, ?_,.inl rfl,aR.put hM' o.dst (cZ _ _)⟩;rw[a8,b7]
   have b6:=yB (P:=P) (w:=w) (t:=t) (u:=u) (ty:=o.type) (bs:=⟨(x.bk d).1,Q,none⟩) (cap:=cap) (w1:=cj w ((x.bk d).1) (off*n) (ns.take (min E.length k*n))) hd hn (g1 w rfl) (g2 _ (Nat.min_le_left _ _) w rfl) (by
    rcases L with h|h
    ·rw[h];simp[storeCells,cj]
    ·rw[h];exact hst (fun v hv=>W.one v (bF hv)) w rfl)
   simp[b6]
 |_=>rw[hu]at he;simp at he
theorem aR.writeRows(hM:aR C x s a w){d n off:Nat}{F I:d8}{ns:LAb}(hl:s.look d=some (.arr n F))(E:∀y∈F,y.length=n)(J:∀y∈I,y.length=n)
 (a7:off+I.length<=F.length) (T:New x ns I.flatten):
 aR C x (s.setO d (.arr n (F.take off++I++F.drop (off+I.length)))) a (cj w ((x.bk d).1) (off*n) ns)/\(storeCells ⟨(x.bk d).1,off*n,none⟩ ns).run P w= .ok () (cj w ((x.bk d).1) (off*n) ns):=by
 have a1:ns.length=I.length*n:=by rw[<-T.len,b9 J]
 have Z:off*n+I.length*n<=F.length*n:=by rw[<-bH];exact bo _ a7
 have L:∀y∈F.take off++I++F.drop (off+I.length),y.length=n:=by
  intro y O;rcases am.1 O with O|O
  ·rcases am.1 O with O|O
   ·exact E y (bF O)
   ·exact J y O
  ·exact E y (cH O)
 have Q:(F.take off++I++F.drop (off+I.length)).length=F.length:=by simp only[ae,an,aE];omega
 obtain⟨
  hM',hst⟩:=hM.write (P:=P) (off:=off*n) (vs:=ns) (obj':= .arr n (F.take off++I++F.drop (off+I.length))) hl (by simp only[aH.size,a1];exact Z)
  (by simp only[aH.size];rw[Q]) (by
   intro c hc i hi;have:=hc i hi;simp only[cA,aH.cell,aH.size]at this hi ⊢;rw[<-cX _ L i (by rw[Q];exact hi)];rw[<-cX _ E i hi]at this;rw[cg,cg,a1];have ef:F.flatten=(F.take off).flatten++(F.drop off).flatten:=by rw[<-cg,cT]
   have l1:(F.take off).flatten.length=off*n:=by rw[b9 (fun y O=>E y (bF O)),an,fP (by omega)]
   have e1:F.flatten.take (off*n)=(F.take off).flatten:=by rw[ef,List.take_append_of_le_length (by rw[l1];exact aK _),aT (by rw[l1];exact aK _)]
   have W:I.flatten.length=I.length*n:=b9 J
   have e2:F.flatten.drop (off*n+I.length*n)=(F.drop (off+I.length)).flatten:=by
    have a2:F.flatten=(F.take (off+I.length)).flatten++(F.drop (off+I.length)).flatten:=by rw[<-cg,cT]
    have l2:(F.take (off+I.length)).flatten.length=off*n+I.length*n:=by rw[b9 (fun y O=>E y (bF O)),an,fP (by omega),bH]
    rw[a2,List.drop_append,l2,sI,bj,bT (by rw[l2];exact aK _),aF]
   rw[<-e1,<-e2,<-W];have a6:=gR F.flatten I.flatten (off*n) i (by rw[W,b9 E];exact Z);rw[aa,a6];split
   ·rename_i a8
    rw[<-aa];exact T.rep _ (by omega)
   ·rw[<-aa];exact this)
 exact⟨hM',hst T.one w rfl⟩
theorem HJ{Z:LAb}{z:f8}{L:LAc}(W:L.toList=Z)(hl:z.length=Z.length)(hz:∀(G:GM) i,i<z.length->cR G (z.getD i .undef) (Z.getD i undef))(n:Nat):
 New x (Builtin.zeroCells L n).toList (aL n z).flatten:=by
 have I:L.size=z.length:=by rw[<-aW,W,hl]
 have F:∀y∈aL n z,y.length=z.length:=fun y hy=>by rw[(List.mem_replicate.1 hy).2]
 have T:(aL n z).flatten.length=n*z.length:=by rw[b9 F,dG]
 have J:∀i,i<n*z.length->(Builtin.zeroCells L n).toList.getD i undef=Z.getD (i % z.length) undef:=by
  intro i hi
  have E:0<z.length:=by
   rcases ic z.length with h|h
   ·rw[h]at hi;omega
   ·exact h
  have Q:i % L.size<L.size:=vq _ (by omega);rw[aa,Builtin.zeroCells];simp only[Array.toList_map,Array.toList_range,aU];rw[cC (by rw[I];exact hi)];simp only[bE,aM];rw[getElem!_pos L _ Q,<-W,aa,<-I,ac (by simpa using Q)];simp
 refine⟨by rw[T];simp[cn,I],fun i hi=> ?_,fun v hv=> ?_⟩
 ·rw[T]at hi
  have E:0<z.length:=by
   rcases ic z.length with h|h
   ·rw[h]at hi;omega
   ·exact h
  rw[J i hi,cX _ F i (by simpa using hi),fY _ _ _ _ (Nat.div_lt_of_lt_mul (by rw[cS];exact hi))];exact hz _ _ (vq _ E)
 ·obtain⟨i,hi,rfl⟩:=List.mem_iff_getElem.1 hv
  have O:i<n*z.length:=by simpa[cn,I]using hi
  have E:0<z.length:=by
   rcases ic z.length with h|h
   ·rw[h]at O;omega
   ·exact h
  have h1:=J i O;rw[aa,ac hi,aM]at h1;rw[h1];exact(hz (fun _ _=>none) _ (vq _ E)).oneCell
theorem Ih(hM:aR C x s a w){cl:Call}(ho:o.op= .call cl)(hb:cl.callee= .builtin .clear)(F:bM P o=some so)(E:eff s o.dst so=some e)(hp:e.pre):cE P C o a w (s.app o.dst e):=by
 simp only[bM,ho,hb]at F;split at F<;>try (cases F;done)
 rename_i X t hX ht;split at F<;>try (cases F;done)
 rename_i el r hd b3;split at F<;>try (cases F;done)
 rename_i z hz;cases F;have h1:=aP hM b3;have ea:cl.args= #[X]:=by apply eI;simpa using hX
 have et:cl.argTypes= #[t]:=by apply eI;simpa using ht
 have I:=gq (a:=a) ho hb _ rfl;rw[ea,et]at I;have em: #[X].map a.eval= #[a.eval X]:=by simp
 rw[em]at I;simp only[eff]at E;cases hu:s.ev r with
 |psl d b7 off k cap=>
  rw[hu]at E h1;obtain⟨cap,c3,_,a1,a7,T⟩:=h1.psl_inv
  try simp only at E
  split at E<;>try (cases E;done)
  rename_i b5 xs hl;cases E;obtain⟨b6,rfl,rfl,a8,J⟩:=hp
  have L:a1=off*z.length:=by
   rcases T with h|h
   ·omega
   ·exact h
  subst L;obtain⟨zs,Z,hzl,b0⟩:=oS hz;obtain⟨zv,b4,O⟩:=de Z;have W:=HJ (x:=x) b4 hzl b0 k;have a2:∀y∈aL k z,y.length=z.length:=fun y hy=>by rw[(List.mem_replicate.1 hy).2]
  obtain⟨Q,b1⟩:=hM.writeRows (P:=P) (off:=off) hl J a2 (by simpa using a8) W;rw[dG]at Q;simp only[St.app];refine⟨.tuple #[],_,x,.value _, ?_,.inl rfl,aR.put Q o.dst (.tup [] [] rfl fun i hi=>by simp at hi)⟩;rw[I,a7]
  have a6:(Builtin.clear_ #[t] o.type #[.slice (some ⟨(x.bk d).1,off*z.length,none⟩) k cap]).run P w= .ok (.tuple #[]) (cj w ((x.bk d).1) (off*z.length) (Builtin.zeroCells zv.cells k).toList):=by have e1:(#[t]:Array TypeId)[0]? =some t:=rfl;have e2:(#[Value.slice (some ⟨(x.bk d).1,off*z.length,none⟩) k cap]:LAc)[0]? =some (.slice (some ⟨(x.bk d).1,off*z.length,none⟩) k cap):=rfl;obtain⟨k',rfl⟩:∃k',k=k'+1:=⟨k-1,by omega⟩;simp only[Builtin.clear_,e1,e2,aC,run_underlying hd,aq,O,b1,aN]
  simp[a6]
 |_=>rw[hu]at E;simp at E
theorem Ig(hM:aR C x s a w)(y:bM P o=some so)(T:∀q r,so≠ .ovl q r)(J:eff s o.dst so=some e)(I:e.pre):cE P C o a w (s.app o.dst e):=by
 have E:(∀{p c},val s so=some (p,c)->p->cE P C o a w (s.put o.dst c))->(∀d,eff s d so=match val s so with|some (p,v)=>some {pre:=p,val:=v}|none=>none)->cE P C o a w (s.app o.dst e):=by
  intro h1 h2;rw[h2]at J;cases F:val s so with
  |none=>simp[F]at J
  |some pc=>obtain⟨p,c⟩:=pc;simp only[F,ax.injEq]at J;subst J;exact h1 F I
 cases ho:o.op with
 |move X=>exact E (fun F _=>yk hM (.inl ho) y F) (by simp only[bM,ho]at y;obtain⟨_,_,rfl⟩:=ah.1 y;intro d;rfl)
 |assign X=>exact E (fun F _=>yk hM (.inr ho) y F) (by simp only[bM,ho]at y;obtain⟨_,_,rfl⟩:=ah.1 y;intro d;rfl)
 |pick c X Y=>
  exfalso;simp only[bM,ho]at y;split at y<;>try (cases y;done)
  cases y;simp[eff]at J
 |alloc t=>exact Ii hM ho y J
 |box t X=>exact xax hM ho y J
 |build t W=>exact E (fun F _=>G3 hM ho y F) (by
  simp only[bM,ho]at y;split at y<;>try (cases y;done)
  ·split at y<;>try (cases y;done)
   obtain⟨_,_,rfl⟩:=ah.1 y;intro d;rfl
  ·split at y<;>try (cases y;done)
   obtain⟨_,_,rfl⟩:=ah.1 y;intro d;rfl)
 |buildSlice t n W=>exact E (fun F _=>pM hM ho y F) (by
  simp only[bM,ho]at y;split at y<;>try (cases y;done)
  split at y<;>try (cases y;done)
  split at y<;>try (cases y;done)
  obtain⟨_,_,rfl⟩:=ah.1 y;intro d;split<;>rfl)
 |load t X=>exact E (fun F I=>JK hM ho y F I) (by
  simp only[bM,ho]at y;split at y<;>try (cases y;done)
  split at y<;>try (cases y;done)
  cases y;intro d;rfl)
 |store t X Y=>exact If hM ho y J I
 |nilCheck X=>exact E (fun F _=>vh hM ho y F) (by simp only[bM,ho]at y;obtain⟨_,_,rfl⟩:=ah.1 y;intro d;rfl)
 |binOp op t X Y u=>
  by_cases L:∃O Q q r,so= .eqS O Q q r
  ·obtain⟨O,Q,q,r,rfl⟩:=L
   exact E (fun F _=>Yq hM ho y F) (fun _=>rfl)
  ·exact E (fun F I=>G4 hM ho y (fun O Q q r e=>L ⟨O,Q,q,r,e⟩) F I) (by
    simp only[bM,ho]at y;split at y<;>try (cases y;done)
    ·split at y<;>try (cases y;done)
     all_goals (cases y;intro d;rfl)
    ·cases y;intro d;rfl
    ·cases y;intro d;rfl
    ·split at y<;>try (cases y;done)
     split at y<;>try (cases y;done)
     split at y<;>first|(cases y;done)|(cases y;intro d;rfl)
    ·split at y<;>first|(cases y;done)|(cases y;simp[eff]at J)
    ·split at y<;>first|(cases y;done)|(cases y;intro d;rfl))
 |unOp op t X=>exact E (fun F _=>JJ hM ho y F) (by simp only[bM,ho]at y;obtain⟨_,_,rfl⟩:=ah.1 y;intro d;rfl)
 |convert t u X=>exact E (fun F I=>x7 hM ho y F I) (by
  simp only[bM,ho]at y;split at y<;>try (cases y;done)
  ·cases y;intro d;rfl
  ·cases y;intro d;rfl
  ·split at y<;>try (cases y;done)
   cases y;intro d;rfl
  ·split at y<;>try (cases y;done)
   cases y;intro d;rfl
  ·split at y<;>try (cases y;done)
   cases y;intro d;rfl)
 |makeFunc f X Y=>exact E (fun F _=>vi hM ho y F) (by
  cases f<;>simp only[bM,ho,reduceCtorEq]at y;split at y<;>try (cases y;done)
  cases y;intro d;rfl)
 |makeSlice t X Y=>exact tv hM ho y J I
 |slice t X lo hi mx=>exact E (fun F I=>GZ hM ho y F I) (by
  simp only[bM,ho]at y;split at y<;>try (cases y;done)
  split at y
  ·cases y
  split at y<;>try (cases y;done)
  ·split at y<;>try (cases y;done)
   cases y;intro d;rfl
  ·split at y<;>try (cases y;done)
   cases y;intro d;rfl
  ·split at y<;>try (cases y;done)
   cases y;intro d;rfl)
 |fieldAddr t X i=>exact E (fun F _=>sK hM ho y F) (by
  simp only[bM,ho]at y;split at y<;>try (cases y;done)
  split at y<;>try (cases y;done)
  split at y<;>try (cases y;done)
  split at y
  ·cases y
  cases y;intro d;rfl)
 |field t X i=>exact E (fun F I=>G2 hM ho y F I) (by
  simp only[bM,ho]at y;split at y<;>try (cases y;done)
  split at y<;>try (cases y;done)
  split at y<;>try (cases y;done)
  split at y<;>try (cases y;done)
  cases y;intro d;rfl)
 |indexAddr t X Y=>exact E (fun F I=>sJ hM ho y F I) (by
  simp only[bM,ho]at y;split at y<;>try (cases y;done)
  ·split at y<;>try (cases y;done)
   cases y;intro d;rfl
  ·split at y<;>try (cases y;done)
   cases y;intro d;rfl)
 |index t X Y=>exact E (fun F I=>G1 hM ho y F I) (by
  simp only[bM,ho]at y;split at y<;>try (cases y;done)
  ·split at y<;>try (cases y;done)
   split at y<;>try (cases y;done)
   cases y;intro d;rfl
  ·cases y;intro d;rfl)
 |extract X i=>exact E (fun F I=>x6 hM ho y F I) (by simp only[bM,ho]at y;obtain⟨_,_,rfl⟩:=ah.1 y;intro d;rfl)
 |call Z=>
  cases hb:Z.callee with
  |invoke r m=>simp[bM,ho,hb]at y
  |value f=>
   exfalso;simp only[bM,ho,hb]at y;split at y<;>try (cases y;done)
   split at y<;>try (cases y;done)
   split at y
   ·split at y
    ·cases y;exact T _ _ rfl
    ·cases y;simp[eff]at J
   ·cases y;simp[eff]at J
  |builtin b=>
   cases b with
   |append=>exact Br hM ho hb y J I
   |copy=>exact K6 hM ho hb y J I
   |clear=>exact Ih hM ho hb y J I
   |cap=>exact E (fun F _=>Yr hM ho hb y F) (by
    simp only[bM,ho,hb]at y;split at y<;>try (cases y;done)
    split at y<;>try (cases y;done)
    cases y;intro d;rfl)
   |len=>exact E (fun F _=>Yp hM ho hb y F) (by
    simp only[bM,ho,hb]at y;split at y<;>try (cases y;done)
    split at y<;>try (cases y;done)
    ·cases y;intro d;rfl
    ·cases y;intro d;rfl
    ·cases y;intro d;rfl
    ·split at y<;>try (cases y;done)
     cases y;intro d;rfl)
   |min=>exact E (fun F _=>pO hM ho (.inl hb) y F) (by
    simp only[bM,ho,hb]at y;split at y<;>try (cases y;done)
    split at y<;>try (cases y;done)
    cases y;intro d;rfl)
   |max=>exact E (fun F _=>pO hM ho (.inr hb) y F) (by
    simp only[bM,ho,hb]at y;split at y<;>try (cases y;done)
    split at y<;>try (cases y;done)
    cases y;intro d;rfl)
   |_=>simp[bM,ho,hb]at y
 |_=>simp[bM,ho]at y
end Go.Sy
namespace Go.Sy
variable [bx]
variable {P : Program} {C : Ctx} {x : Sit} {s : St} {a : Act} {w : World}
theorem mA{cs:f8}{i:Nat}(hi:i<cs.length):∀k∈(cs.getD i .undef).ids,k∈SV.idsL cs:=by
 induction cs generalizing i with
 |nil=>simp at hi
 |cons c r E=>
  intro k y;simp only[SV.idsL,am];cases i with
  |zero=>exact .inl (by simpa using y)
  |succ i=>exact .inr (E (i:=i) (by simpa using hi) k (by simpa using y))
theorem lx{cs:f8}{i:Nat}(hi:i<cs.length):∀k∈(cs.getD i .undef).toks,k∈SV.toksL cs:=by
 induction cs generalizing i with
 |nil=>simp at hi
 |cons c r E=>
  intro k y;simp only[SV.toksL,am];cases i with
  |zero=>exact .inl (by simpa using y)
  |succ i=>exact .inr (E (i:=i) (by simpa using hi) k (by simpa using y))
theorem Rep.renF{x x2:Sit}{mo mt:Nat->Nat}(hG:∀b o v,x.G b o=some v->x2.G b o=some v){sv:SV}{v:Value}(h:Rep x sv v):(∀k∈sv.ids,x2.bk (mo k)=x.bk k)->(∀t∈sv.toks,x2.τ (mt t)=x.τ t)->Rep x2 (sv.ren mo mt) v:=by
 induction h with
 |undef v=>intro _ _;exact .undef v
 |dat s v h T=>
  intro F J;have L:=h.mono hG
  have sp:∀(I:Nat)(t:Tok),(∀u,t= .id u->x2.τ (mt u)=x.τ u)->dP x I t v->dP x2 I (t.ren mt) v:=by
   intro I t T hs;cases t with
   |no=>trivial
   |clip=>exact hs
   |id u=>obtain⟨ad,n,cap,hv,hc⟩:=hs;refine⟨ad,n,cap,hv,hc.imp id ?_⟩;rintro⟨b,off,he,hh⟩;exact⟨b,off,he,by rw[T u rfl];exact hh⟩
  cases s with
  |byt l t=>simp only[SV.ren];exact .dat _ _ (L.tok _ (.inl ⟨l,t,_,rfl,rfl⟩)) (sp 1 t (fun u hu=>J u (by subst hu;simp[SV.toks])) T)
  |lst I xs t=>simp only[SV.ren];exact .dat _ _ (L.tok _ (.inr ⟨I,xs,t,_,rfl,rfl⟩)) (sp I t (fun u hu=>J u (by subst hu;simp[SV.toks])) T)
  |undef=>exact .undef v
  |bool b=>simp only[SV.ren];exact .dat _ _ L trivial
  |int k n=>simp only[SV.ren];exact .dat _ _ L trivial
  |u8 b=>simp only[SV.ren];exact .dat _ _ L trivial
  |str l=>simp only[SV.ren];exact .dat _ _ L trivial
  |nilp=>simp only[SV.ren];exact .dat _ _ L trivial
  |nili=>simp only[SV.ren];exact .dat _ _ L trivial
  |pp cs=>simp only[SV.ren];exact .dat _ _ L trivial
  |ptr o off=>cases h
  |ap o I i j=>cases h
  |psl o I off n cap=>cases h
  |agg cs=>cases h
  |tup cs=>cases h
  |fn f a b=>cases h
 |ptr o off=>intro F _;simp only[SV.ren];rw[<-F o (by simp[SV.ids])];exact .ptr _ off
 |ap o I i j=>intro F _;simp only[SV.ren];rw[<-F o (by simp[SV.ids])];exact .ap _ I i j
 |psl o I off n cap Q O h hn hc E=>intro F _;simp only[SV.ren];rw[<-F o (by simp[SV.ids])]at E ⊢;exact .psl _ I off n cap Q O h hn hc E
 |agg cs vs hl _ Z=>
  intro F J;simp only[SV.ren,fJ]
  exact .agg _ _ (by simpa using hl) fun i hi=>by
   rw[bn _ (by simp)];have y:i<cs.length:=by simpa using hi
   exact Z i y (fun k E=>F k (by simp only[SV.ids];exact mA y k E)) (fun k E=>J k (by simp only[SV.toks];exact lx y k E))
 |tup cs vs hl _ Z=>
  intro F J;simp only[SV.ren,fJ]
  exact .tup _ _ (by simpa using hl) fun i hi=>by
   rw[bn _ (by simp)];have y:i<cs.length:=by simpa using hi
   exact Z i y (fun k E=>F k (by simp only[SV.ids];exact mA y k E)) (fun k E=>J k (by simp only[SV.toks];exact lx y k E))
 |fn f c1 c2 v1 v2 W _ a2 _ a6 a1=>
  intro F J;simp only[SV.ren,fJ]
  exact .fn _ _ _ _ _ (by simpa using W) (fun i hi=>by
   rw[bn _ (by simp)];have y:i<c1.length:=by simpa using hi
   exact a6 i y (fun k E=>F k (by simp only[SV.ids,am];exact .inl (mA y k E))) (fun k E=>J k (by simp only[SV.toks,am];exact .inl (lx y k E))))
   (by simpa using a2) fun i hi=>by
    rw[bn _ (by simp)];have y:i<c2.length:=by simpa using hi
    exact a1 i y (fun k E=>F k (by simp only[SV.ids,am];exact .inr (mA y k E))) (fun k E=>J k (by simp only[SV.toks,am];exact .inr (lx y k E)))
def Sit.back(x:Sit)(mo mt:Nat->Nat):Sit:=⟨x.G,fun k=>x.bk (mo k),fun t=>x.τ (mt t)⟩
theorem pU{x:Sit}{mo mt:Nat->Nat}{y:Nat}{t:Tok}{v:Value}(h:dP x y (t.ren mt) v):dP (x.back mo mt) y t v:=by
 cases t with
 |no=>trivial
 |clip=>exact h
 |id u=>exact h
theorem Rep.renB{x:Sit}{mo mt:Nat->Nat}(sv:SV):∀v,Rep x (sv.ren mo mt) v->Rep (x.back mo mt) sv v:=by
 refine SV.rec (motive_1:=fun sv=>∀v,Rep x (sv.ren mo mt) v->Rep (x.back mo mt) sv v) (motive_2:=fun _=>True) (motive_3:=fun l=>∀i,i<l.length->∀v,Rep x ((l.getD i .undef).ren mo mt) v->Rep (x.back mo mt) (l.getD i .undef) v)
  ?_ ?_ ?_ ?_ ?_ ?_ ?_ ?_ ?_ ?_ ?_ ?_ ?_ ?_ ?_ ?_ ?_ ?_ ?_ ?_ sv
 ·intro v _;exact .undef v
 ·intro b v h;rw[Rep.bool_inv h];exact eo b
 ·intro k n v h;rw[Rep.int_inv h];exact cZ k n
 ·intro b v h;rw[Rep.u8_inv h];exact pD b
 ·intro l v h;rw[Rep.str_inv h];exact mh l
 ·intro l t v h
  simp only[SV.ren]at h;cases h with
  |dat _ _ h Q=>exact .dat _ _ (h.tok _ (.inl ⟨l,_,t,rfl,rfl⟩)) (pU Q)
 ·intro I xs t _ v h
  simp only[SV.ren]at h;cases h with
  |dat _ _ h Q=>exact .dat _ _ (h.tok _ (.inr ⟨I,xs,_,t,rfl,rfl⟩)) (pU Q)
 ·intro v h;rw[Rep.nilp_inv h];exact .dat _ _ .nilp trivial
 ·intro v h;rw[Rep.nili_inv h];exact .dat _ _ .nili trivial
 ·intro cs _ v h
  simp only[SV.ren]at h;exact .dat _ _ (Rep.data (x:=x) h rfl) trivial
 ·intro o off v h;simp only[SV.ren]at h;rw[h.ptr_inv];exact .ptr o off
 ·intro o I i j v h;simp only[SV.ren]at h;rw[h.ap_inv];exact .ap o I i j
 ·intro o I off n cap v h
  simp only[SV.ren]at h;obtain⟨y,hn,hc,F,rfl,ho,hk⟩:=h.psl_invA;exact .psl (x:=x.back mo mt) o I off n cap F y ho hn hc hk
 ·intro cs J v h
  simp only[SV.ren,fJ]at h;obtain⟨vs,rfl,E⟩:=h.agg_inv;refine .agg _ _ (by simpa using E.1) fun i hi=>J i hi _ ?_
  have:=E.2 i (by simpa using hi);rwa[bn _ (by simp)]at this
 ·intro cs J v h
  simp only[SV.ren,fJ]at h;obtain⟨vs,rfl,E⟩:=h.tup_inv;refine .tup _ _ (by simpa using E.1) fun i hi=>J i hi _ ?_
  have:=E.2 i (by simpa using hi);rwa[bn _ (by simp)]at this
 ·intro f c1 c2 W O v h
  simp only[SV.ren,fJ]at h;obtain⟨v1,v2,rfl,h1,Z⟩:=h.fn_inv;refine .fn _ _ _ _ _ (by simpa using h1.1) (fun i hi=>W i hi _ ?_) (by simpa using Z.1) (fun i hi=>O i hi _ ?_)
  ·have:=h1.2 i (by simpa using hi);rwa[bn _ (by simp)]at this
  ·have:=Z.2 i (by simpa using hi);rwa[bn _ (by simp)]at this
 ·trivial
 ·intros;trivial
 ·intro i hi;simp at hi
 ·intro c r T L i hi v h
  cases i with
  |zero=>exact T v (by simpa using h)
  |succ i=>simpa using L i (by simpa using hi) v (by simpa using h)
theorem ey.renB{mo mt:Nat->Nat}{o:Nat}{obj:aH}(h:ey x w (mo o) (obj.ren mo mt)):ey (x.back mo mt) w o obj:=by
 obtain⟨c,e,fl,fh,J,⟨L,y,F⟩,I⟩:=h;refine⟨c,e,fl,fh,J,⟨?_,y,by cases obj<;>exact F⟩,fun k E=> ?_⟩
 ·cases obj<;>simpa[aH.ren,aH.size,fJ]using L
 ·cases obj with
  |rc cs=>have:=I k (by simpa[aH.ren,aH.size,fJ]using E);simp only[aH.ren,cA,fJ]at this ⊢;rw[bn _ (by simp)]at this;exact Rep.renB _ _ this
  |arr O Q=>exact I k E
  |bar l=>exact I k E
theorem ey.renF{x2:Sit}{w':World}{mo mt:Nat->Nat}{o:Nat}{obj:aH}(h:ey x w' o obj)(I:∀b o v,x.G b o=some v->x2.G b o=some v)(Q:x2.bk (mo o)=x.bk o)
 (Z:∀k∈obj.ids,x2.bk (mo k)=x.bk k) (T:∀t∈obj.toks,x2.τ (mt t)=x.τ t):ey x2 w' (mo o) (obj.ren mo mt):=by
 obtain⟨c,e,fl,fh,W,⟨hs,E,J⟩,L⟩:=h;refine⟨c,e,fl,fh,by rw[Q];exact W,⟨?_,by rw[Q];exact E,by cases obj<;>exact J⟩,fun k F=> ?_⟩
 ·cases obj<;>simpa[aH.ren,aH.size,fJ]using hs
 ·cases obj with
  |rc cs=>
   have y:k<cs.length:=by simpa[aH.ren,aH.size,fJ]using F
   have:=L k y;simp only[aH.ren,cA,fJ]at this ⊢;rw[bn _ (by simp)];exact Rep.renF I this (fun j O=>Z j (mA y j O)) (fun j O=>T j (lx y j O))
  |arr sz xs=>exact(L k F).mono I
  |bar l=>exact(L k F).mono I
theorem jK{os:List aH}{p:Nat×aH}:p∈idx os↔p.1<os.length/\p.2=os.getD p.1 (.rc []):=by
 unfold idx;rw[aZ];constructor
 ·rintro⟨⟨ob,i⟩,h,rfl⟩
  have:=List.mem_zipIdx' h;exact⟨this.1,by rw[aa,ac this.1];exact this.2⟩
 ·rintro⟨y,E⟩
  refine⟨(p.2,p.1), ?_,rfl⟩;rw[List.mk_mem_zipIdx_iff_getElem?,E,aa,ac y];rfl
theorem oJ(os:List aH):((idx os).map cW).Nodup:=by
 unfold idx;rw[List.map_map];have:(cW∘fun p:aH×Nat=>(p.2,p.1))=Prod.snd:=rfl;rw[this];have:os.zipIdx.map Prod.snd=tC 0 os.length:=by simp[List.zipIdx_map_snd]
 rw[this];exact List.nodup_range'
theorem uq{m:t8}(h:m.Nodup){i j:Nat}(hi:i<m.length)(F:j<m.length)(e:m[i]=m[j]):i=j:=by
 have E:=cD.1 h;rcases Nat.lt_trichotomy i j with y|heq|hgt
 ·exact absurd e (E i j hi F y)
 ·exact heq
 ·exact absurd e.symm (E j i F hi hgt)
def Ctx.callee(x:Sit)(w:World)(m:t8)(β0:Nat->Nat×Nat):Ctx:=⟨w,x.G,fun b=>w.heap.size<=b\/∃i,i<m.length/\(x.bk (m.getD i 0)).1=b,β0⟩
theorem yh(hM:aR C x s a w){m:t8}{os:List aH}{mo mt:Nat->Nat}(I:∀i,i<m.length->mo i=m.getD i 0)(hl:m.length=os.length)(Q:m.Nodup)
 (y:∀i,i<os.length->s.look (m.getD i 0)=some ((os.getD i (.rc [])).ren mo mt)):dl (Ctx.callee x w m (x.back mo mt).bk) (x.back mo mt) (idx os) [] w:=by
 have J:∀i,i<os.length->(x.back mo mt).bk i=x.bk (m.getD i 0):=fun i hi=>by show x.bk (mo i)=_;rw[I i (by omega)]
 refine⟨hM.heap.per,fun _ _ _ h=>h,fun _ _ _ h=> .inl h,fun b h=> .inl h, ?_,oJ os, ?_,fun t h=>by simp at h,fun t h=>by simp at h,fun t h=>by simp at h,rfl,rfl,rfl,aK _,fun _ _=>rfl,fun _ _=>rfl,hM.heap.lay.mono hM.heap.g0⟩
 ·intro p O
  obtain⟨E,L⟩:=jK.1 O;obtain⟨h3,h4,T⟩:=hM.heap.obs _ (du (y p.1 E));refine⟨?_,.inr ⟨p.1,by omega,by rw[J p.1 E]⟩,fun off=>by rw[J p.1 E];exact T off⟩;rw[L];refine ey.renB ?_;rw[I p.1 (by omega)];exact h3
 ·intro p O q Z F
  obtain⟨E,_⟩:=jK.1 O;obtain⟨L,_⟩:=jK.1 Z;rw[J _ E,J _ L]at F;have:=hM.heap.inj _ (du (y p.1 E)) _ (du (y q.1 L)) F;simp only at this;have W:m.getD p.1 0=m[p.1]'(by omega):=by rw[aa,ac (by omega)];rfl
  have e2:m.getD q.1 0=m[q.1]'(by omega):=by rw[aa,ac (by omega)];rfl
  rw[W,e2]at this;exact uq Q _ _ this
end Go.Sy
namespace Go.Sy
variable [bx]
variable {P : Program} {C : Ctx} {x : Sit} {s : St} {a : Act} {w : World}
theorem kz{m:t8}{l:List (Nat×aH)}{p:Nat×aH}:p∈fK m l↔p∈l/\p.1∉m:=by
 induction l with
 |nil=>simp[fK]
 |cons q r F=>
  simp only[fK];split<;>rename_i I
  ·rw[F,av];constructor
   ·rintro⟨E,y⟩;exact⟨.inr E,y⟩
   ·rintro⟨rfl|E,y⟩
    ·exact absurd I y
    ·exact⟨E,y⟩
  ·rw[av,F,av];constructor
   ·rintro(rfl|⟨E,y⟩)
    ·exact⟨.inl rfl,I⟩
    ·exact⟨.inr E,y⟩
   ·rintro⟨rfl|E,y⟩
    ·exact .inl rfl
    ·exact .inr ⟨E,y⟩
theorem iR(m:t8)(l:List (Nat×aH)):(fK m l).Sublist l:=by
 induction l with
 |nil=>exact pe.refl _
 |cons q r y=>
  simp only[fK];split
  ·exact y.cons q
  ·exact y.cons_cons q
theorem Bi(hM:aR C x s a w){m:t8}{os:List aH}{mo mt:Nat->Nat}{lo hi:Nat}(hl:m.length=os.length)(e7:∀i,i<os.length->s.look (m.getD i 0)=some ((os.getD i (.rc [])).ren mo mt))
 {x':Sit} {w':World} {a6:List (Nat×aH)} {tks:t8} {β0:Nat->Nat×Nat} (hH:dl (Ctx.callee x w m β0) x' a6 tks w')
 (e8:∀i,i<m.length->mo i=m.getD i 0) {β2:Nat->Nat×Nat} {τ2:Nat->Nat×Nat×Nat} (b7:∀i,i<100->¬(lo<=i/\i<hi)) (a1:∀o,¬(lo<=o/\o<hi)->β2 o=x.bk o) (b0:∀o,¬(lo<=o/\o<hi)->τ2 o=x.τ o)
 (Q:∀p∈a6,β2 (mo p.1)=x'.bk p.1) (c5:∀p∈a6,∀k∈p.2.ids,β2 (mo k)=x'.bk k) (d2:∀p∈a6,∀t∈p.2.toks,τ2 (mt t)=x'.τ t)
 (b6:∀p∈a6,p.1<m.length\/(lo<=mo p.1/\mo p.1<hi)) (b1:∀t∈tks,(lo<=mt t/\mt t<hi)/\τ2 (mt t)=x'.τ t):
 (∀b o v,x.G b o=some v->x'.G b o=some v)/\dl C ⟨x'.G,β2,τ2⟩ (a6.map (fun p=>(mo p.1,p.2.ren mo mt))++fK m (bW lo hi s.ob)) (tks.map mt++cP lo hi s.tk) w':=by
 have hG:∀b o v,x.G b o=some v->x'.G b o=some v:=hH.g0;have y:=hM.heap;have W:∀i,i<m.length->(∃ob,(m.getD i 0,ob)∈s.ob):=fun i hi=>⟨_,du (e7 i (by omega))⟩
 have a7:∀b,(Ctx.callee x w m β0).mine b->C.mine b:=by
  rintro b (h|⟨i,hi,rfl⟩)
  ·exact y.new b (mE y.size h)
  ·obtain⟨ob,d3⟩:=W i hi
   exact(y.obs _ d3).2.1
 have e9:∀o∈m,∃i,i<m.length/\m.getD i 0=o:=by intro o ho;obtain⟨i,hi,rfl⟩:=bg ho;exact⟨i,hi,by rw[aa,ac hi];rfl⟩
 have b5:∀b,b<w.heap.size->(∀i,i<m.length->(x.bk (m.getD i 0)).1≠b)->w'.heap[b]? =w.heap[b]? /\((∀off,x.G b off=none)->∀off,x'.G b off=none):=by
  intro b hb d1
  have c3:¬(Ctx.callee x w m β0).mine b:=by
   rintro(h|⟨i,hi,h⟩)
   ·omega
   ·exact d1 i hi h
  refine⟨hH.ext b c3,fun h off=> ?_⟩;cases hg:x'.G b off with
  |none=>rfl
  |some v=>
   rcases hH.gm b off v hg with E|E
   ·change x.G b off=some v at E;rw[h off]at E;cases E
   ·exact absurd E c3
 have a8:∀p∈fK m (bW lo hi s.ob),∃ob,(p.1,ob)∈s.ob/\p.2=ob.purge lo hi/\¬(lo<=p.1/\p.1<hi)/\p.1∉m/\(∀i,i<m.length->(x.bk (m.getD i 0)).1≠(x.bk p.1).1)/\(x.bk p.1).1<w.heap.size:=by
  intro p I;obtain⟨E,h2⟩:=kz.1 I;obtain⟨h3,ob,h4,h5⟩:=cM E;refine⟨ob,h4,h5,h3,h2,fun i hi e=> ?_, ?_⟩
  ·obtain⟨ob',e0⟩:=W i hi
   have:=y.inj _ e0 _ h4 e;simp only at this;apply h2;rw[<-this,aa,ac hi];exact bv _
  ·obtain⟨⟨c,e,fl,fh,hO,_⟩,_⟩:=y.obs _ h4
   exact hO.lt
 have Z:∀p∈a6.map (fun p=>(mo p.1,p.2.ren mo mt)),∃q∈a6,p=(mo q.1,q.2.ren mo mt)/\β2 p.1=x'.bk q.1:=by intro p I;obtain⟨q,J,rfl⟩:=aZ.1 I;exact⟨q,J,rfl,Q q J⟩
 have O:∀q∈a6,w.heap.size<=(x'.bk q.1).1\/∃i,i<m.length/\(x.bk (m.getD i 0)).1=(x'.bk q.1).1:=fun q J=>(hH.obs q J).2.1
 have F:∀t∈cP lo hi s.tk,t∈s.tk/\¬(lo<=t/\t<hi):=fun t T=>bZ.1 T
 have L:∀t∈s.tk,(x.τ t).2.1=(x.τ t).2.2\/((x.τ t).1<w.heap.size/\∀i,i<m.length->(x.bk (m.getD i 0)).1≠(x.τ t).1):=by
  intro t T;rcases y.tks t T with h|⟨⟨c,e,fl,fh,hO,_⟩,_⟩
  ·exact .inl h
  ·by_cases he:(x.τ t).2.1=(x.τ t).2.2
   ·exact .inl he
   ·refine .inr ⟨hO.lt,fun i hi e'=> ?_⟩
    obtain⟨ob,d3⟩:=W i hi;rcases y.tko t T _ d3 with h|h
    ·exact h e'.symm
    ·exact he h
 refine⟨hG,⟨hH.per,fun b o v h=>hG _ _ _ (y.g0 b o v h), ?_,y.new, ?_, ?_, ?_, ?_, ?_, ?_,hH.os.trans y.os,hH.tape.trans y.tape,hH.output.trans y.output,mE y.size hH.size, ?_,fun i hi=>(a1 i (b7 i hi)).trans (y.pin i hi),y.lay⟩⟩
 ·intro b o v h
  rcases hH.gm b o v h with E|E
  ·exact y.gm b o v E
  ·exact .inr (a7 b E)
 ·intro p I
  rcases am.1 I with I|I
  ·obtain⟨q,J,rfl,hb⟩:=Z p I
   obtain⟨E,h2,h3⟩:=hH.obs q J;refine⟨E.renF (x2:=⟨x'.G,β2,τ2⟩) (fun _ _ _ h=>h) (Q q J) (c5 q J) (d2 q J), ?_,fun off=> ?_⟩
   ·show C.mine (β2 (mo q.1)).1;rw[Q q J];exact a7 _ h2
   ·show x'.G (β2 (mo q.1)).1 off=none;rw[Q q J];exact h3 off
  ·obtain⟨ob,E,h2,h3,h4,h5,h6⟩:=a8 p I
   obtain⟨g1,g2,g3⟩:=y.obs _ E;obtain⟨k1,k2⟩:=b5 _ h6 h5;have hb:β2 p.1=x.bk p.1:=a1 _ h3;refine⟨?_,by show C.mine (β2 p.1).1;rw[hb];exact g2,fun off=>by show x'.G (β2 p.1).1 off=none;rw[hb];exact k2 g3 off⟩;rw[h2];exact ey.of_heap (x':=⟨x'.G,β2,τ2⟩) g1 k1 hG a1 b0 h3
 ·rw[co,List.nodup_append]
  refine⟨?_, ?_, ?_⟩
  ·rw[List.map_map]
   have d7:=ii.1 hH.nd;refine ii.2 (fO.imp_of_mem (fun{p q} I J d1=> ?_) d7);intro e;simp only[Function.comp]at e;have:(x'.bk p.1).1=(x'.bk q.1).1:=by rw[<-Q p I,<-Q q J,e]
   exact d1 (hH.inj p I q J this)
  ·have E:(fK m (bW lo hi s.ob)).Sublist (bW lo hi s.ob):=iR _ _
   refine Ae.sublist (E.map cW) ?_;rw[ft];exact y.nd.filter _
  ·intro o1 E o2 h2 e
   subst e;obtain⟨p,I,rfl⟩:=aZ.1 E;obtain⟨q,J,d4⟩:=aZ.1 h2;obtain⟨r,hr,rfl⟩:=aZ.1 I;obtain⟨ob,k1,k2,k3,k4,k5,k6⟩:=a8 q J;simp only at d4;rcases b6 r hr with h|h
   ·apply k4;rw[d4,e8 _ h,aa,ac h];exact bv _
   ·apply k3;rw[d4];exact h
 ·intro p I q J a2
  change (β2 p.1).1=(β2 q.1).1 at a2;rcases am.1 I with I|I<;>rcases am.1 J with J|J
  ·obtain⟨p',d5,rfl,hb⟩:=Z p I
   obtain⟨q',c7,rfl,e1⟩:=Z q J;rw[hb,e1]at a2;have:=hH.inj p' d5 q' c7 a2;simp only;rw[this]
  ·obtain⟨p',d5,rfl,hb⟩:=Z p I
   obtain⟨ob,k1,k2,k3,k4,k5,k6⟩:=a8 q J;rw[hb,a1 _ k3]at a2;rcases O p' d5 with h|⟨i,hi,h⟩
   ·omega
   ·exact absurd (h.trans a2) (k5 i hi)
  ·obtain⟨q',c7,rfl,hb⟩:=Z q J
   obtain⟨ob,k1,k2,k3,k4,k5,k6⟩:=a8 p I;rw[hb,a1 _ k3]at a2;rcases O q' c7 with h|⟨i,hi,h⟩
   ·omega
   ·exact absurd (h.trans a2.symm) (k5 i hi)
  ·obtain⟨ob,k1,k2,k3,k4,k5,k6⟩:=a8 p I
   obtain⟨ob',e6,f0,e2,f2,f3,f1⟩:=a8 q J;rw[a1 _ k3,a1 _ e2]at a2;exact y.inj (p.1,ob) k1 (q.1,ob') e6 a2
 ·intro t T
  rcases am.1 T with T|T
  ·obtain⟨u,hu,rfl⟩:=aZ.1 T
   obtain⟨_,e3⟩:=b1 u hu;have:=hH.tks u hu;unfold iU at this ⊢;simp only[e3];exact this.imp id fun⟨E,h2,h3⟩=>⟨E,a7 _ h2,h3⟩
  ·obtain⟨
    E,h2⟩:=F t T
   have:=y.tks t E;unfold iU at this ⊢;simp only[b0 t h2];rcases this with h|⟨⟨c,e,fl,fh,hO,hc⟩,h4,h5⟩
   ·exact .inl h
   ·rcases L t E with h|⟨k1,k2⟩
    ·exact .inl h
    ·obtain⟨g1,_⟩:=b5 _ k1 k2
     refine .inr ⟨⟨c,e,fl,fh,hO.of_heap g1,hc⟩,h4,fun o e4 e5=> ?_⟩;cases hg:x'.G (x.τ t).1 o with
     |none=>rfl
     |some v=>
      rcases hH.gm _ _ _ hg with q1|q1
      ·change x.G _ _=some v at q1;rw[h5 o e4 e5]at q1;cases q1
      ·rcases q1 with q1|⟨i,hi,q1⟩
       ·change w.heap.size<=_ at q1;omega
       ·exact absurd q1 (k2 i hi)
 ·intro t T p I
  rcases am.1 T with T|T<;>rcases am.1 I with I|I
  ·obtain⟨u,hu,rfl⟩:=aZ.1 T
   obtain⟨q,J,rfl,hb⟩:=Z p I;show(τ2 (mt u)).1≠(β2 (mo q.1)).1\/(τ2 (mt u)).2.1=(τ2 (mt u)).2.2;rw[(b1 u hu).2,Q q J];exact hH.tko u hu q J
  ·obtain⟨u,hu,rfl⟩:=aZ.1 T
   obtain⟨ob,k1,k2,k3,k4,k5,k6⟩:=a8 p I;show(τ2 (mt u)).1≠(β2 p.1).1\/(τ2 (mt u)).2.1=(τ2 (mt u)).2.2;rw[(b1 u hu).2,a1 _ k3];rcases hH.tks u hu with h|⟨_,h,_⟩
   ·exact .inr h
   ·left;intro e
    rcases h with h|⟨i,hi,h⟩
    ·change w.heap.size<=_ at h;omega
    ·exact k5 i hi (h.trans e)
  ·obtain⟨E,h2⟩:=F t T
   obtain⟨q,J,rfl,hb⟩:=Z p I;show(τ2 t).1≠(β2 (mo q.1)).1\/(τ2 t).2.1=(τ2 t).2.2;rw[b0 t h2,Q q J];rcases L t E with h|⟨k1,k2⟩
   ·exact .inr h
   ·left;intro e
    rcases O q J with h|⟨i,hi,h⟩
    ·omega
    ·exact k2 i hi (h.trans e.symm)
  ·obtain⟨E,h2⟩:=F t T
   obtain⟨ob,k1,k2,k3,k4,k5,k6⟩:=a8 p I;show(τ2 t).1≠(β2 p.1).1\/(τ2 t).2.1=(τ2 t).2.2;rw[b0 t h2,a1 _ k3];exact y.tko t E (p.1,ob) k1
 ·intro t T u hu d6
  show mD (τ2 t) (τ2 u)\/(τ2 t).2.1=(τ2 t).2.2\/(τ2 u).2.1=(τ2 u).2.2;rcases am.1 T with T|T<;>rcases am.1 hu with hu|hu
  ·obtain⟨t',b4,rfl⟩:=aZ.1 T
   obtain⟨u',b3,rfl⟩:=aZ.1 hu;rw[(b1 t' b4).2,(b1 u' b3).2];exact hH.tkd t' b4 u' b3 (fun e=>d6 (by rw[e]))
  ·obtain⟨t',b4,rfl⟩:=aZ.1 T
   obtain⟨E,h2⟩:=F u hu;rw[(b1 t' b4).2,b0 u h2];rcases hH.tks t' b4 with h|⟨_,h,_⟩
   ·exact .inr (.inl h)
   ·rcases L u E with k|⟨k1,k2⟩
    ·exact .inr (.inr k)
    ·refine .inl (fun e=> ?_)
     rcases h with h|⟨i,hi,h⟩
     ·change w.heap.size<=_ at h;omega
     ·exact k2 i hi (h.trans e)
  ·obtain⟨u',b3,rfl⟩:=aZ.1 hu
   obtain⟨E,h2⟩:=F t T;rw[(b1 u' b3).2,b0 t h2];rcases hH.tks u' b3 with h|⟨_,h,_⟩
   ·exact .inr (.inr h)
   ·rcases L t E with k|⟨k1,k2⟩
    ·exact .inr (.inl k)
    ·refine .inl (fun e=> ?_)
     rcases h with h|⟨i,hi,h⟩
     ·change w.heap.size<=_ at h;omega
     ·exact k2 i hi (h.trans e.symm)
  ·obtain⟨E,h2⟩:=F t T
   obtain⟨h3,h4⟩:=F u hu;rw[b0 t h2,b0 u h4];exact y.tkd t E u h3 d6
 ·intro b hb
  have c3:¬(Ctx.callee x w m β0).mine b:=fun h=>hb (a7 b h)
  exact(hH.ext b c3).trans (y.ext b hb)
theorem dl.only{ob ob':List (Nat×aH)}{tk tk':t8}(h:dl C x ob tk w)(F:∀p∈ob',p∈ob)(hn:(ob'.map cW).Nodup)(E:∀t∈tk',t∈tk):dl C x ob' tk' w:=
 ⟨h.per,h.g0,h.gm,h.new,fun p y=>h.obs p (F p y),hn,fun p y q J=>h.inj p (F p y) q (F q J),fun t hu=>h.tks t (E t hu),fun t hu p y=>h.tko t (E t hu) p (F p y),
  fun t hu u I=>h.tkd t (E t hu) u (E u I),h.os,h.tape,h.output,h.size,h.ext,h.pin,h.lay⟩
theorem yO(d:Nat)(m:t8)(os:List (Nat×aH)):p7 d m os=os.map fun p=>(jn d m p.1,p.2.ren (jn d m) (kM d)):=by
 induction os with
 |nil=>rfl
 |cons p r y=>simp[p7,y]
end Go.Sy
namespace Go.Sy
variable [bx]
variable {P : Program} {C : Ctx} {x : Sit} {s : St} {a : Act} {w : World} {o : Oper} {so : SOp}
def I5(C:Ctx)(k:St->Prop):LBa:=fun a w=>∃x s,aR C x s a w/\k s
theorem dH{K:LBa}{Q:LAf}{k:St->Prop}{s':St}(h:cE P C o a w s')(E:k s')(hK:∀a w,I5 C k a w->K a w):o.wp P a w K Q:=by
 obtain⟨u,w',x',n,y,hn,hM⟩:=h;unfold Oper.wp;rw[y];rcases hn with rfl|⟨rfl,rfl⟩
 ·exact hK _ _ ⟨x',s',hM,E⟩
 ·exact hK _ _ ⟨x',s',hM,E⟩
theorem vp{f:Nat}(h:eu P f=true)(args:LAc)(w:World):(callFunc f args).run P w= .ok (.enter f args) w:=by
 unfold eu at h;split at h
 ·rename_i fn E
  simp only[aD,dj]at h;obtain⟨F,y⟩:=h;have I:fn.body.isNone=false:=by cases hb:fn.body<;>simp[hb]at F ⊢
  simp only[callFunc,aC,run_program,aq,E,y,aO,if_false,I,aN]
 ·cases h
theorem Ie(hM:aR C x s a w){y:Call}{F:Operand}(ho:o.op= .call y)(hb:y.callee= .value F){f:Arg}{a_:List Arg}(hf:bL P 0 F=some f)
 (has:kC (fun p=>bL P p.2 p.1) (y.args.toList.zip y.argTypes.toList)=some a_) (O:y.args.size=y.argTypes.size) {g:Nat} {c1 c2:f8} (Z:s.ev f= .fn g c1 c2) (hc:eu P g=true):
 ∃vs:LAb,(execOp a.eval o).run P w= .ok (.enter g ⟨vs⟩) w/\cL x (c1++a_.map s.ev++c2) vs:=by
 have hF:=aP hM hf;rw[Z]at hF;obtain⟨v1,W,Q,h1,h2⟩:=hF.fn_inv;obtain⟨hl,J⟩:=fz has;have hzl:(y.args.toList.zip y.argTypes.toList).length=y.args.toList.length:=by simp[O]
 have E:cL x (a_.map s.ev) (y.args.toList.map a.eval):=by
  refine⟨by simp only[aV];rw[hl,hzl],fun i hi=> ?_⟩;have I:i<a_.length:=by simpa using hi
  have T:i<(y.args.toList.zip y.argTypes.toList).length:=by omega
  have:=aP hM (J i T I);have e1:(a_.map s.ev).getD i .undef=s.ev a_[i]:=by rw[aa,aU,ac I];rfl
  have e2:(y.args.toList.map a.eval).getD i undef=a.eval (y.args.toList.zip y.argTypes.toList)[i].1:=by
   have L:i<y.args.toList.length:=by omega
   rw[aa,aU,ac L,List.getElem_zip];rfl
  rw[e1,e2];exact this
 refine⟨v1++y.args.toList.map a.eval++W, ?_,(h1.append E).append h2⟩
 have:(execOp a.eval o).run P w=(callFunc g ((⟨v1⟩:LAc)++y.args.map a.eval++⟨W⟩)).run P w:=by simp only[execOp,ho,resolve,hb,Q,Deferred.ofValue,aC,aN,aq,invoke]
 rw[this,vp hc]
 congr 2
 apply eI;simp
end Go.Sy
namespace Go.Sy
variable [bx]
variable {P : Program} {C : Ctx} {x : Sit} {s : St} {a : Act} {w : World} {o : Oper} {so : SOp} {p : Prop} {c : SV}
theorem K9(hM:aR C x s a w){q r:Arg}(F:bM P o=some (.ovl q r)){e:Eff}(y:eff s o.dst (.ovl q r)=some e)(E:e.pre):cE P C o a w (s.app o.dst e):=by simp only[eff,val]at y;cases y
end Go.Sy
namespace Go.Sy
variable [bx]
variable {P : Program} {C : Ctx} {x : Sit} {s : St} {a : Act} {w : World} {o : Oper} {so : SOp} {p : Prop} {c : SV}
theorem New.append{a_ bs:LAb}{A B:f8}(h:New x a_ A)(k:New x bs B):New x (a_++bs) (A++B):=by
 refine⟨by simp[h.len,k.len],fun i hi=> ?_,fun v E=>(am.1 E).elim (h.one v) (k.one v)⟩;simp only[aa]
 by_cases y:i<A.length
 ·rw[bt y,bt (by rw[<-h.len];exact y)]
  have:=h.rep i y;simpa only[aa]using this
 ·rw[bD (by omega),bD (by rw[<-h.len];omega),h.len]
  have:=k.rep (i-A.length) (by simp only[ae]at hi;omega);rw[h.len]at this;simpa only[aa]using this
theorem It{F:Nat}{rs:d8}(E:∀y∈rs,y.length=F){cs:LAb}(h:New x cs rs.flatten)(k:Nat)(I:k<rs.length*F):cA x (.arr F rs) k ((⟨cs⟩:LAc).getD k undef):=by
 simp only[cA,aH.cell];rw[<-cX rs E k I];have:=h.rep k (by rw[b9 E];exact I);have e:(⟨cs⟩:LAc).getD k undef=cs.getD k undef:=by simp[aS,aa]
 rw[e];exact this
structure Src(P:Program)(n m:Nat)(w:World)(Y:Value)(ns:List Value):Prop where
 len:∀w':World,w'.heap=w.heap->(Builtin.lenOf Y).run P w'= .ok m w'
 cells:∀w':World,w'.heap=w.heap->(Builtin.firstCells n m Y).run P w'= .ok ns.toArray w'
theorem rI(hM:aR C x s a w){n:Nat}{u:SV}{Y:Value}{p:Prop}{R:d8}(h:Rep x u Y)(T:iT s n u=some (p,R))(Q:p):∃ns,(∀y∈R,y.length=n)/\New x ns R.flatten/\Src P n R.length w Y ns:=by
 obtain⟨E,O,ns,F,L⟩:=iL (P:=P) hM h T Q;refine⟨ns,E,F,O,fun w' J=> ?_⟩;have:=L R.length (aK _) w' J;have I:ns.length=R.length*n:=by rw[<-F.len,b9 E]
 rwa[<-I,dy]at this
theorem HI{so:SOp}(y:bM P o=some so)(I:(∃z b q r,so= .app z b q r)\/∃z b q r,so= .appM z b q r):∃E,o.op= .call E/\E.callee= .builtin .append:=by
 cases ho:o.op with
 |call E=>
  cases hb:E.callee with
  |invoke r m=>simp[bM,ho,hb]at y
  |value F=>
   exfalso;simp only[bM,ho,hb]at y
   (repeat' split at y)<;>first|(cases y;done)|(cases y;rcases I with⟨_,_,_,_,h⟩|⟨_,_,_,_,h⟩<;>cases h)
  |builtin b=>
   cases b<;>first|exact⟨E,rfl,hb⟩|(exfalso;simp only[bM,ho,hb,reduceCtorEq]at y<;>((repeat' split at y)<;>first|(cases y;done)|(cases y;rcases I with⟨_,_,_,_,h⟩|⟨_,_,_,_,h⟩<;>cases h)))
 |_=>
  exfalso
  have:¬((∃z b q r,so= .app z b q r)\/∃z b q r,so= .appM z b q r):=by
   simp only[bM,ho]at y
   first
    |(cases y;done)
    |(obtain⟨_,_,rfl⟩:=ah.1 y;rintro(⟨_,_,_,_,h⟩|⟨_,_,_,_,h⟩)<;>cases h;done)
    |(repeat' split at y)<;>first|(cases y;done)|contradiction|(cases y;rintro(⟨_,_,_,_,h⟩|⟨_,_,_,_,h⟩)<;>cases h;done)|(obtain⟨_,_,rfl⟩:=ah.1 y;rintro(⟨_,_,_,_,h⟩|⟨_,_,_,_,h⟩)<;>first|(cases h;done)|(split at h<;>cases h;done))
  exact this I
structure xzm(P:Program)(o:Oper)(z:List SV)(by_:Nat)(q r:Arg)(a:Act)(X Y:Operand)(t u el:TypeId)(d2:TypeDesc)(zs:List Value):Prop where
 ex:execOp a.eval o=(do pure (.value (<-Builtin.append_ #[t,u] o.type #[a.eval X,a.eval Y])))
 hd:P.underlying t=some (.slice el)
 hu:P.underlying u=some d2
 hX:bL P t X=some q
 hY:bL P u Y=some r
 hn:fI P el=some z.length
 hby:wt P el=some by_
 hz:gQ P el=some zs
 hzl:z.length=zs.length
 hzd:∀(G:GM) i,i<z.length->cR G (z.getD i .undef) (zs.getD i undef)
 hb0:by_≠0
 hn0:z.length≠0
theorem xa0{so:SOp}(y:bM P o=some so){z:f8}{by_:Nat}{q r:Arg}(O:so= .app z by_ q r\/so= .appM z by_ q r)(a:Act):∃X Y t u Z F W,xzm P o z by_ q r a X Y t u Z F W/\
 (so= .app z by_ q r->(∃Q,F= .slice Q)\/F= .string)/\(so= .appM z by_ q r->∃k,F= .int k):=by
 obtain⟨cl,ho,hb⟩:=HI y (O.imp (fun h=>⟨_,_,_,_,h⟩) (fun h=>⟨_,_,_,_,h⟩));simp only[bM,ho,hb]at y;split at y<;>try (cases y;done)
 rename_i X Y t u hX ht;split at y<;>try (cases y;done)
 rename_i Z F r' q' hd hu a1 T;split at y<;>try (cases y;done)
 rename_i n b' z' hn hby hz;rw[aJ]at y;obtain⟨E,y⟩:=y;simp only[aD,decide_eq_true_eq]at E;obtain⟨⟨hb0,hn0⟩,L⟩:=E;obtain⟨W,a2,J,hzd⟩:=kj hz;have ea:cl.args= #[X,Y]:=by apply eI;simpa using hX
 have et:cl.argTypes= #[t,u]:=by apply eI;simpa using ht
 have I:=gq (a:=a) ho hb _ rfl;rw[ea,et]at I;have em: #[X,Y].map a.eval= #[a.eval X,a.eval Y]:=by simp
 rw[em]at I
 have key:z'=z/\b'=by_/\r'=q/\q'=r/\(so= .app z by_ q r->(∃Q,F= .slice Q)\/F= .string)/\(so= .appM z by_ q r->∃k,F= .int k):=by
  split at y<;>try (cases y;done)
  ·cases y;rcases O with h|h<;>cases h;exact⟨rfl,rfl,rfl,rfl,fun _=> .inl ⟨_,rfl⟩,fun h=>by cases h⟩
  ·rw[aJ]at y
   obtain⟨_,y⟩:=y;cases y;rcases O with h|h<;>cases h;exact⟨rfl,rfl,rfl,rfl,fun _=> .inr rfl,fun h=>by cases h⟩
  ·cases y;rcases O with h|h<;>cases h;exact⟨rfl,rfl,rfl,rfl,fun h=>(by cases h),fun _=>⟨_,rfl⟩⟩
 obtain⟨rfl,rfl,rfl,rfl,k1,k2⟩:=key;subst L;exact⟨X,Y,t,u,Z,F,W,⟨I,hd,hu,a1,T,hn,hby,a2,J,hzd,hb0,hn0⟩,k1,k2⟩
theorem Is{t:TypeId}{b:Nat}(h:wt P t=some b):∃i,P.info? t=some i/\i.bytes=b:=by
 unfold wt at h;cases hi:P.info? t with
 |none=>simp[hi]at h
 |some i=>simp[hi]at h;exact⟨i,rfl,h⟩
end Go.Sy
namespace Go.Sy
variable [bx]
variable {P : Program} {C : Ctx} {x : Sit} {s : St} {a : Act} {w : World} {o : Oper} {so : SOp}
def xtq(C:Ctx)(P:Program)(g:Nat)(vs:LAb)(w:World)(d:LAa)(a:Act)(k:St->Prop):Prop:=
 Calls P g ⟨vs⟩ w fun en w'=>∃v,en= .returned v/\I5 C k (a.put d v) w'
theorem xZ{K:LBa}{Q:LAf}{k:St->Prop}{g:Nat}{vs:LAb}(y:(execOp a.eval o).run P w= .ok (.enter g ⟨vs⟩) w)(h:xtq C P g vs w o.dst a k)
 (hK:∀a w,I5 C k a w->K a w):o.wp P a w K Q:=by
 unfold Oper.wp;rw[y];refine Calls.mono h ?_;rintro en w' ⟨v,rfl,E⟩;exact hK _ _ E
theorem Lm{f:Arg}{a_:List Arg}(y:bM P o=some (.call f a_)):∃E F,o.op= .call E/\E.callee= .value F/\bL P 0 F=some f/\kC (fun p=>bL P p.2 p.1) (E.args.toList.zip E.argTypes.toList)=some a_/\E.args.size=E.argTypes.size:=by
 cases ho:o.op with
 |call E=>
  cases hb:E.callee with
  |invoke r m=>simp[bM,ho,hb]at y
  |value F=>
   simp only[bM,ho,hb]at y;split at y<;>try (cases y;done)
   rename_i T Q L J;split at y<;>try (cases y;done)
   rename_i I;split at y
   ·split at y
    ·cases y
    ·cases y;exact⟨E,F,rfl,hb,L,J,I⟩
   ·cases y;exact⟨E,F,rfl,hb,L,J,I⟩
  |builtin b=>
   exfalso;cases b<;>simp only[bM,ho,hb,reduceCtorEq]at y
   all_goals
    (first|(cases y;done)|(split at y<;>(first|(cases y;done)|(split at y<;>(first|(cases y;done)|(split at y<;>(first|(cases y;done)|(split at y<;>(first|(cases y;done)|(split at y<;>(first|(cases y;done)|(split at y<;>((cases y;done))))))))))))))
 |pick c X Y=>exfalso;simp only[bM,ho]at y;split at y<;>cases y
 |move X=>exfalso;simp only[bM,ho]at y;obtain⟨_,_,h⟩:=ah.1 y;cases h
 |assign X=>exfalso;simp only[bM,ho]at y;obtain⟨_,_,h⟩:=ah.1 y;cases h
 |box t X=>exfalso;simp only[bM,ho]at y;obtain⟨_,_,h⟩:=ah.1 y;cases h
 |nilCheck X=>exfalso;simp only[bM,ho]at y;obtain⟨_,_,h⟩:=ah.1 y;cases h
 |unOp op t X=>exfalso;simp only[bM,ho]at y;obtain⟨_,_,h⟩:=ah.1 y;cases h
 |extract X i=>exfalso;simp only[bM,ho]at y;obtain⟨_,_,h⟩:=ah.1 y;cases h
 |build t O=>
  exfalso;simp only[bM,ho]at y;split at y<;>try (cases y;done)
  ·split at y<;>try (cases y;done)
   obtain⟨_,_,h⟩:=ah.1 y;cases h
  ·split at y<;>try (cases y;done)
   obtain⟨_,_,h⟩:=ah.1 y;cases h
 |buildSlice t n O=>
  exfalso;simp only[bM,ho]at y;split at y<;>try (cases y;done)
  split at y<;>try (cases y;done)
  split at y<;>try (cases y;done)
  obtain⟨_,_,h⟩:=ah.1 y;split at h<;>cases h
 |makeFunc f X Y=>exfalso;cases f<;>simp only[bM,ho,reduceCtorEq]at y;split at y<;>cases y
 |alloc t=>exfalso;simp only[bM,ho]at y;first|(cases y;done)|(split at y<;>(first|(cases y;done)|(split at y<;>(first|(cases y;done)|(split at y<;>(first|(cases y;done)|(split at y<;>(first|(cases y;done)|(split at y<;>(first|(cases y;done)|(split at y<;>((cases y;done)))))))))))))
 |load t X=>exfalso;simp only[bM,ho]at y;first|(cases y;done)|(split at y<;>(first|(cases y;done)|(split at y<;>(first|(cases y;done)|(split at y<;>(first|(cases y;done)|(split at y<;>(first|(cases y;done)|(split at y<;>(first|(cases y;done)|(split at y<;>((cases y;done)))))))))))))
 |store t X Y=>exfalso;simp only[bM,ho]at y;first|(cases y;done)|(split at y<;>(first|(cases y;done)|(split at y<;>(first|(cases y;done)|(split at y<;>(first|(cases y;done)|(split at y<;>(first|(cases y;done)|(split at y<;>(first|(cases y;done)|(split at y<;>((cases y;done)))))))))))))
 |binOp op t X Y u=>exfalso;simp only[bM,ho]at y;first|(cases y;done)|(split at y<;>(first|(cases y;done)|(split at y<;>(first|(cases y;done)|(split at y<;>(first|(cases y;done)|(split at y<;>(first|(cases y;done)|(split at y<;>(first|(cases y;done)|(split at y<;>((cases y;done)))))))))))))
 |convert t u X=>exfalso;simp only[bM,ho]at y;first|(cases y;done)|(split at y<;>(first|(cases y;done)|(split at y<;>(first|(cases y;done)|(split at y<;>(first|(cases y;done)|(split at y<;>(first|(cases y;done)|(split at y<;>(first|(cases y;done)|(split at y<;>((cases y;done)))))))))))))
 |makeSlice t X Y=>exfalso;simp only[bM,ho]at y;first|(cases y;done)|(split at y<;>(first|(cases y;done)|(split at y<;>(first|(cases y;done)|(split at y<;>(first|(cases y;done)|(split at y<;>(first|(cases y;done)|(split at y<;>(first|(cases y;done)|(split at y<;>((cases y;done)))))))))))))
 |slice t X lo hi W=>exfalso;simp only[bM,ho]at y;first|(cases y;done)|(split at y<;>(first|(cases y;done)|(split at y<;>(first|(cases y;done)|(split at y<;>(first|(cases y;done)|(split at y<;>(first|(cases y;done)|(split at y<;>(first|(cases y;done)|(split at y<;>((cases y;done)))))))))))))
 |fieldAddr t X i=>exfalso;simp only[bM,ho]at y;first|(cases y;done)|(split at y<;>(first|(cases y;done)|(split at y<;>(first|(cases y;done)|(split at y<;>(first|(cases y;done)|(split at y<;>(first|(cases y;done)|(split at y<;>(first|(cases y;done)|(split at y<;>((cases y;done)))))))))))))
 |field t X i=>exfalso;simp only[bM,ho]at y;first|(cases y;done)|(split at y<;>(first|(cases y;done)|(split at y<;>(first|(cases y;done)|(split at y<;>(first|(cases y;done)|(split at y<;>(first|(cases y;done)|(split at y<;>(first|(cases y;done)|(split at y<;>((cases y;done)))))))))))))
 |indexAddr t X i=>exfalso;simp only[bM,ho]at y;first|(cases y;done)|(split at y<;>(first|(cases y;done)|(split at y<;>(first|(cases y;done)|(split at y<;>(first|(cases y;done)|(split at y<;>(first|(cases y;done)|(split at y<;>(first|(cases y;done)|(split at y<;>((cases y;done)))))))))))))
 |index t X i=>exfalso;simp only[bM,ho]at y;first|(cases y;done)|(split at y<;>(first|(cases y;done)|(split at y<;>(first|(cases y;done)|(split at y<;>(first|(cases y;done)|(split at y<;>(first|(cases y;done)|(split at y<;>(first|(cases y;done)|(split at y<;>((cases y;done)))))))))))))
 |_=>simp[bM,ho]at y
theorem Ku{c q r:Arg}(y:bM P o=some (.pick c q r)):∃X Y Z,o.op= .pick X Y Z/\bL P 0 X=some c/\bL P o.type Y=some q/\bL P o.type Z=some r:=by
 cases ho:o.op with
 |pick X Y Z=>
  simp only[bM,ho]at y;split at y<;>try (cases y;done)
  rename_i T Q a3 O L J;simp only[ax.injEq,SOp.pick.injEq]at y;obtain⟨rfl,rfl,rfl⟩:=y;exact⟨X,Y,Z,rfl,O,L,J⟩
 |call I=>
  exfalso;cases hb:I.callee with
  |invoke r m=>simp[bM,ho,hb]at y
  |value F=>simp only[bM,ho,hb]at y;first|(cases y;done)|(split at y<;>(first|(cases y;done)|(split at y<;>(first|(cases y;done)|(split at y<;>(first|(cases y;done)|(split at y<;>(first|(cases y;done)|(split at y<;>(first|(cases y;done)|(split at y<;>((cases y;done)))))))))))))
  |builtin b=>
   cases b<;>simp only[bM,ho,hb,reduceCtorEq]at y
   all_goals
    (first|(cases y;done)|(split at y<;>(first|(cases y;done)|(split at y<;>(first|(cases y;done)|(split at y<;>(first|(cases y;done)|(split at y<;>(first|(cases y;done)|(split at y<;>(first|(cases y;done)|(split at y<;>((cases y;done))))))))))))))
 |move X=>exfalso;simp only[bM,ho]at y;obtain⟨_,_,h⟩:=ah.1 y;cases h
 |assign X=>exfalso;simp only[bM,ho]at y;obtain⟨_,_,h⟩:=ah.1 y;cases h
 |box t X=>exfalso;simp only[bM,ho]at y;obtain⟨_,_,h⟩:=ah.1 y;cases h
 |nilCheck X=>exfalso;simp only[bM,ho]at y;obtain⟨_,_,h⟩:=ah.1 y;cases h
 |unOp op t X=>exfalso;simp only[bM,ho]at y;obtain⟨_,_,h⟩:=ah.1 y;cases h
 |extract X i=>exfalso;simp only[bM,ho]at y;obtain⟨_,_,h⟩:=ah.1 y;cases h
 |build t E=>
  exfalso;simp only[bM,ho]at y;split at y<;>try (cases y;done)
  ·split at y<;>try (cases y;done)
   obtain⟨_,_,h⟩:=ah.1 y;cases h
  ·split at y<;>try (cases y;done)
   obtain⟨_,_,h⟩:=ah.1 y;cases h
 |buildSlice t n E=>
  exfalso;simp only[bM,ho]at y;split at y<;>try (cases y;done)
  split at y<;>try (cases y;done)
  split at y<;>try (cases y;done)
  obtain⟨_,_,h⟩:=ah.1 y;split at h<;>cases h
 |makeFunc f X Y=>exfalso;cases f<;>simp only[bM,ho,reduceCtorEq]at y;split at y<;>cases y
 |alloc t=>exfalso;simp only[bM,ho]at y;first|(cases y;done)|(split at y<;>(first|(cases y;done)|(split at y<;>(first|(cases y;done)|(split at y<;>(first|(cases y;done)|(split at y<;>(first|(cases y;done)|(split at y<;>(first|(cases y;done)|(split at y<;>((cases y;done)))))))))))))
 |load t X=>exfalso;simp only[bM,ho]at y;first|(cases y;done)|(split at y<;>(first|(cases y;done)|(split at y<;>(first|(cases y;done)|(split at y<;>(first|(cases y;done)|(split at y<;>(first|(cases y;done)|(split at y<;>(first|(cases y;done)|(split at y<;>((cases y;done)))))))))))))
 |store t X Y=>exfalso;simp only[bM,ho]at y;first|(cases y;done)|(split at y<;>(first|(cases y;done)|(split at y<;>(first|(cases y;done)|(split at y<;>(first|(cases y;done)|(split at y<;>(first|(cases y;done)|(split at y<;>(first|(cases y;done)|(split at y<;>((cases y;done)))))))))))))
 |binOp op t X Y u=>exfalso;simp only[bM,ho]at y;first|(cases y;done)|(split at y<;>(first|(cases y;done)|(split at y<;>(first|(cases y;done)|(split at y<;>(first|(cases y;done)|(split at y<;>(first|(cases y;done)|(split at y<;>(first|(cases y;done)|(split at y<;>((cases y;done)))))))))))))
 |convert t u X=>exfalso;simp only[bM,ho]at y;first|(cases y;done)|(split at y<;>(first|(cases y;done)|(split at y<;>(first|(cases y;done)|(split at y<;>(first|(cases y;done)|(split at y<;>(first|(cases y;done)|(split at y<;>(first|(cases y;done)|(split at y<;>((cases y;done)))))))))))))
 |makeSlice t X Y=>exfalso;simp only[bM,ho]at y;first|(cases y;done)|(split at y<;>(first|(cases y;done)|(split at y<;>(first|(cases y;done)|(split at y<;>(first|(cases y;done)|(split at y<;>(first|(cases y;done)|(split at y<;>(first|(cases y;done)|(split at y<;>((cases y;done)))))))))))))
 |slice t X lo hi W=>exfalso;simp only[bM,ho]at y;first|(cases y;done)|(split at y<;>(first|(cases y;done)|(split at y<;>(first|(cases y;done)|(split at y<;>(first|(cases y;done)|(split at y<;>(first|(cases y;done)|(split at y<;>(first|(cases y;done)|(split at y<;>((cases y;done)))))))))))))
 |fieldAddr t X i=>exfalso;simp only[bM,ho]at y;first|(cases y;done)|(split at y<;>(first|(cases y;done)|(split at y<;>(first|(cases y;done)|(split at y<;>(first|(cases y;done)|(split at y<;>(first|(cases y;done)|(split at y<;>(first|(cases y;done)|(split at y<;>((cases y;done)))))))))))))
 |field t X i=>exfalso;simp only[bM,ho]at y;first|(cases y;done)|(split at y<;>(first|(cases y;done)|(split at y<;>(first|(cases y;done)|(split at y<;>(first|(cases y;done)|(split at y<;>(first|(cases y;done)|(split at y<;>(first|(cases y;done)|(split at y<;>((cases y;done)))))))))))))
 |indexAddr t X i=>exfalso;simp only[bM,ho]at y;first|(cases y;done)|(split at y<;>(first|(cases y;done)|(split at y<;>(first|(cases y;done)|(split at y<;>(first|(cases y;done)|(split at y<;>(first|(cases y;done)|(split at y<;>(first|(cases y;done)|(split at y<;>((cases y;done)))))))))))))
 |index t X i=>exfalso;simp only[bM,ho]at y;first|(cases y;done)|(split at y<;>(first|(cases y;done)|(split at y<;>(first|(cases y;done)|(split at y<;>(first|(cases y;done)|(split at y<;>(first|(cases y;done)|(split at y<;>(first|(cases y;done)|(split at y<;>((cases y;done)))))))))))))
 |_=>simp[bM,ho]at y
theorem Ij(hM:aR C x s a w){c q r:Arg}(J:bM P o=some (.pick c q r)){t:Bool}(I:s.ev c= .bool t):cE P C o a w (s.put o.dst (if t then s.ev q else s.ev r)):=by
 obtain⟨X,Y,Z,O,L,F,E⟩:=Ku J;have y:=aP hM L;rw[I]at y;refine cE.val hM (m:=do pure (if<-asBool (a.eval X)then a.eval Y else a.eval Z)) (u:=if t then a.eval Y else a.eval Z) (by simp only[execOp,O];simp) ?_ ?_
 ·rw[y.bool_inv];rfl
 ·cases t
  ·exact aP hM E
  ·exact aP hM F
theorem xay(hM:aR C x s a w)(E:bM P o=some so){e:Eff}(F:eff s o.dst so=some e)(y:e.pre):cE P C o a w (s.app o.dst e):=by
 by_cases I:∃q r,so= .ovl q r
 ·obtain⟨q,r,rfl⟩:=I
  exact K9 hM E F y
 ·exact Ig hM E (fun q r h=>I ⟨q,r,h⟩) F y
end Go.Sy
namespace Go.Sy
variable [bx]
variable {P : Program} {C : Ctx} {x : Sit} {s : St} {a : Act} {w : World}
theorem K1(hM:aR C x s a w){g:Nat}{t:Bool}(h:s.get g= .bool t):g<s.tm.length/\a.tmps[g]? =some (.bool t)/\s.tm[g]? =some (.bool t):=by
 have y:g<s.tm.length:=by
  rcases bQ g s.tm.length with E|E
  ·exact E
  ·unfold St.get at h;rw[aa,ib E]at h;cases h
 have L:s.tm[g]? =some (.bool t):=by unfold St.get at h;rw[aa,ac y]at h;rw[ac y];exact congrArg some h
 have F:=hM.slot g;rw[h]at F;have J:=F.bool_inv;have I:g<a.tmps.size:=by rw[<-aW,<-hM.tm.1];exact y
 refine⟨y, ?_,L⟩;rw[cB I];have:a.tmps.getD g undef=a.tmps[g]:=by simp[ll,I]
 rw[<-this,J]
def tQ(P:Program)(o:Oper)(so:SOp):Prop:=bM P o=some so\/∃y,so= .newB y/\bM P o=some (.litB y)
theorem tQ.fresh{ops:Array Oper}{o:Oper}{so:SOp}(d:LAa)(h:bM P o=some so):tQ P o (pE ops d so):=by
 rcases H7 ops d so with e|⟨xs,e1,e2⟩
 ·rw[e];exact .inl h
 ·rw[e2];exact .inr ⟨xs,rfl,e1 ▸ h⟩
theorem tQ.old{o:Oper}{so:SOp}(h:tQ P o so)(hn:∀y,so≠ .newB y):bM P o=some so:=by
 rcases h with h|⟨y,e,_⟩
 ·exact h
 ·exact absurd e (hn y)
theorem lT{ops:Array Oper}{o:Oper}{i:SI}(h:gS P ops o=some i):tQ P o i.op/\i.dst=o.dst/\(i.g=none/\o.guard=none\/∃j b g,i.g=some (g,b)/\o.guard=some (j,b)/\(ops[j]?).bind (·.dst)=some g):=by
 unfold gS at h;split at h<;>try (cases h;done)
 ·rename_i so E y;cases h;exact⟨.fresh _ E,rfl,.inl ⟨rfl,y⟩⟩
 ·rename_i so j b E y
  split at h<;>try (cases h;done)
  rename_i g F;cases h;exact⟨.fresh _ E,rfl,.inr ⟨j,b,g,rfl,y,F⟩⟩
theorem lm{ops:Array Oper}{o:Oper}(h:o.guard=none):Region.wanted o (yielded ops a.tmps)=true:=by simp[Region.wanted,h]
theorem x0{ops:Array Oper}{o:Oper}{j g:Nat}{b t:Bool}(h:o.guard=some (j,b))(y:(ops[j]?).bind (·.dst)=some g)(E:a.tmps[g]? =some (.bool t)):Region.wanted o (yielded ops a.tmps)=(t==b):=by simp only[Region.wanted,h,yielded,y,dp,E];cases t<;>cases b<;>rfl
end Go.Sy
namespace Go.Sy
variable [bx]
variable {P : Program} {C : Ctx} {x : Sit} {s : St} {a : Act} {w : World}
mutual
theorem AX{n:Nat}:∀v:SV,n∉v.ids->n∉v.toks->v.purge n (n+1)=v
 | .byt l t,_,h=>by
  cases t with
  |id t=>simp only[SV.toks,bq]at h;simp only[SV.purge,Tok.purge];rw[if_neg (by omega)]
  |_=>rfl
 | .lst sz xs t,_,h=>by
  cases t with
  |id t=>simp only[SV.toks,bq]at h;simp only[SV.purge,Tok.purge];rw[if_neg (by omega)]
  |_=>rfl
 | .ptr o off,h,_=>by simp only[SV.ids,bq]at h;simp only[SV.purge];rw[if_neg (by omega)]
 | .ap o sz i j,h,_=>by simp only[SV.ids,bq]at h;simp only[SV.purge];rw[if_neg (by omega)]
 | .psl o sz off k cap,h,_=>by simp only[SV.ids,bq]at h;simp only[SV.purge];rw[if_neg (by omega)]
 | .agg cs,h,k=>by simp only[SV.ids,SV.toks]at h k;simp only[SV.purge];rw[ig cs h k]
 | .tup cs,h,k=>by simp only[SV.ids,SV.toks]at h k;simp only[SV.purge];rw[ig cs h k]
 | .fn f p q,h,k=>by simp only[SV.ids,SV.toks,am,not_or]at h k;simp only[SV.purge];rw[ig p h.1 k.1,ig q h.2 k.2]
 | .undef,_,_=>rfl
 | .bool _,_,_=>rfl
 | .int _ _,_,_=>rfl
 | .u8 _,_,_=>rfl
 | .str _,_,_=>rfl
 | .nilp,_,_=>rfl
 | .nili,_,_=>rfl
 | .pp _,_,_=>rfl
theorem ig{n:Nat}:∀l:f8,n∉SV.idsL l->n∉SV.toksL l->SV.purgeL n (n+1) l=l
 |[],_,_=>rfl
 |v::r,h,k=>by simp only[SV.idsL,SV.toksL,am,not_or]at h k;simp only[SV.purgeL];rw[AX v h.1 k.1,ig r h.2 k.2]
end
end Go.Sy
namespace Go.Sy
variable [bx]
variable {P : Program} {C : Ctx} {x : Sit} {s s' : St} {a : Act} {w : World}
end Go.Sy
namespace Go.Sy
variable [bx]
variable {P : Program} {C : Ctx} {x : Sit} {s s' : St} {a : Act} {w : World}
structure Itm where
 n:Nat
 i:SI
 o:Option Eff
 f:rD
end Go.Sy
namespace Go.Sy
variable [bx]
variable {P : Program} {C : Ctx} {x : Sit} {s : St} {a : Act} {w : World}
theorem aR.purge(hM:aR C x s a w)(lo hi:Nat):aR C x (s.purge lo hi) a w:=by
 have y:=hM.heap;refine⟨hM.tm.mono (fun _ _ _ h=>h) (fun _ _=>rfl) (fun _ _=>rfl),hM.defers,⟨y.per,y.g0,y.gm,y.new, ?_, ?_, ?_, ?_, ?_, ?_,y.os,y.tape,y.output,y.size,y.ext,y.pin,y.lay⟩⟩
 ·intro p F
  obtain⟨W,o,I,J⟩:=cM F;obtain⟨O,L⟩:=y.obs _ I;refine⟨?_,L⟩;rw[J];exact O.of_heap rfl (fun _ _ _ h=>h) (fun _ _=>rfl) (fun _ _=>rfl) W
 ·show((bW lo hi s.ob).map cW).Nodup
  rw[ft];exact y.nd.filter _
 ·intro p F q T
  obtain⟨_,o,I,_⟩:=cM F;obtain⟨_,Q,J,_⟩:=cM T;exact y.inj (p.1,o) I (q.1,Q) J
 ·intro t E;exact y.tks t (bZ.1 E).1
 ·intro t E p F
  obtain⟨_,o,I,_⟩:=cM F;exact y.tko t (bZ.1 E).1 (p.1,o) I
 ·intro t E u hu;exact y.tkd t (bZ.1 E).1 u (bZ.1 hu).1
theorem A7{ob:List (Nat×aH)}(h:(ob.map cW).Nodup){p:Nat×aH}(y:p∈ob):ob.lookup p.1=some p.2:=by
 induction ob with
 |nil=>cases y
 |cons q r E=>
  simp only[aI,dR]at h;rcases av.1 y with rfl|y
  ·simp[List.lookup]
  ·have:(p.1==q.1)=false:=by
    rw[beq_eq_false_iff_ne];intro e;apply h.1;rw[<-e];exact ji y
   simp only[List.lookup,this];exact E h.2 y
section
variable {ops : Array Oper} {l : List SI} {its : List Itm} {b : List Nat}
def left(its:List Itm)(listed:Array Bool):List Itm:=its.filter fun y=> !listed.getD y.n true
theorem tp{listed:Array Bool}{i:Nat}(hi:i<listed.size):(listed.setIfInBounds i true).getD i true=true:=by simp[ll,hi]
theorem iz{listed:Array Bool}{i j:Nat}(hi:i<listed.size):(listed.setIfInBounds i true).getD j true=if j=i then true else listed.getD j true:=by
 by_cases h:j=i
 ·subst h;rw[if_pos rfl];exact tp hi
 ·rw[if_neg h,getD_set_ne true (fun e=>h e.symm)]
end
end Go.Sy
