/- A sound engine for Go code. No condition. -/
import Derived.WalkKit
open Array renaming ext' -> eI, getD -> lj, getD_eq_getD_getElem? -> aS, getElem?_append_left -> co, getElem?_eq_getElem -> cy, getElem?_toList -> cY, length_toList -> aU, replicate -> eU, size_append -> cQ
open Bool renaming and_eq_true -> aC, eq_iff_iff -> fG, false_eq_true -> aO, not_eq_true' -> cT
open Go.Instr renaming buildSlice -> eG
open Int renaming fdiv_eq_ediv_of_nonneg -> jc, tmod_eq_emod_of_nonneg -> fx
open Go.IntKind renaming i64 -> af, u8 -> gh, wrap_i64 -> dC
open List renaming Nodup -> zZ, Pairwise -> fP, Sublist -> o7, all_eq_true -> bf, append_assoc -> az, append_nil -> bx, drop_eq_nil_of_le -> bN, drop_take -> fY, drop_zero -> aW, filter_cons -> fe, flatMap_cons -> eo, flatten_append -> b9, flatten_cons -> cD, foldl_cons -> cR, getD_cons_succ -> jg, getD_eq_getElem?_getD -> aa, getElem?_append_left -> bo, getElem?_append_right -> bA, getElem?_drop -> bz, getElem?_eq_getElem -> ac, getElem?_eq_none -> ia, getElem?_map -> aT, getElem?_range -> cz, getElem?_set -> ij, getElem?_take -> bL, getElem?_toArray -> de, getElem_mem -> bv, getElem_of_mem -> bp, length_append -> ae, length_cons -> al, length_drop -> aG, length_eq_zero_iff -> cu, length_map -> aY, length_nil -> aA, length_replicate -> dJ, length_set -> ny, length_singleton -> aF, length_take -> aq, map_append -> cf, map_cons -> aI, map_nil -> bJ, map_take -> ic, mem_append -> am, mem_cons -> av, mem_cons_of_mem -> aw, mem_cons_self -> aB, mem_map -> aZ, mem_map_of_mem -> jf, mem_of_mem_drop -> cB, mem_of_mem_take -> bC, mem_range -> eV, mem_singleton -> bj, nil_append -> aE, nodup_cons -> eB, pairwise_iff_getElem -> iS, pairwise_map -> ii, range -> bM, range' -> tp, replicate -> aL, size_toArray -> bZ, take_append_drop -> dH, take_length -> dA, take_of_length_le -> aV
open Nat renaming add_assoc -> fu, add_mul -> bE, add_zero -> ft, div_eq_of_lt -> Bz, eq_zero_or_pos -> ib, le_refl -> aJ, le_trans -> mC, lt_or_ge -> bK, min_eq_left -> fR, mod_eq_of_lt -> cH, mul_comm -> cM, mul_le_mul_right -> bh, mul_one -> dp, sub_self -> sA, succ_mul -> ee, zero_add -> bT, zero_le -> aX, zero_mul -> ip
open Go.Op renaming bytesLess -> bH, intCmp -> sx
open Option renaming bind_some -> dl, getD_some -> aM, ite_none_right_eq_some -> aK, map_eq_some_iff -> ah, map_some -> bB, some -> ax
open Prod renaming fst -> cS, mk -> bD
open Go.Result renaming andThen_ok -> an
open Go.Sem renaming run_bind -> aD, run_pure -> aN
open UInt8 renaming ofInt -> b8, ofNat -> io
set_option linter.unusedVariables false
set_option linter.unusedSimpArgs false
set_option linter.unnecessarySimpa false
set_option linter.unusedSectionVars false
namespace Go.Sy
abbrev d9:=List UInt8
abbrev LAa:=List Nat
abbrev LAb:=Option Nat
abbrev LAc:=List Value
abbrev LAd:=Array Value
abbrev LBa:=Exit->Act->World->Prop
abbrev LBb:=Act->World->Prop
inductive Tok where
 |no
 |clip
 |id (t:Nat)
 deriving DecidableEq
inductive SV where
 |undef
 |bool (b:Bool)
 |int (k:IntKind) (n:Int)
 |u8 (b:UInt8)
 |str (l:List UInt8)
 |byt (l:List UInt8) (t:Tok)
 |lst (sz:Nat) (xs:List (List SV)) (t:Tok)
 |nilp
 |nili
 |pp (cs:List SV)
 |ptr (o off:Nat)
 |ap (o sz i j:Nat)
 |psl (o sz off n:Nat) (cap:Option Nat)
 |agg (cs:List SV)
 |tup (vs:List SV)
 |fn (f:Nat) (first cap:List SV)
 deriving Inhabited
abbrev t8:=List SV
abbrev d8:=List (List SV)
inductive aH where
 |rc (cs:List SV)
 |arr (sz:Nat) (xs:List (List SV))
 |bar (l:List UInt8)
def aH.size:aH->Nat
 | .rc cs=>cs.length
 | .arr h y=>y.length*h
 | .bar l=>l.length
def aH.cell:aH->Nat->SV
 | .rc cs,k=>cs.getD k .undef
 | .arr sz xs,k=>(xs.getD (k/sz) []).getD (k % sz) .undef
 | .bar l,k=> .u8 (l.getD k 0)
def aH.arrB:aH->Bool
 | .arr _ _=>true
 |_=>false
abbrev GM:=Nat->Nat->Option Value
structure Sit where
 G:GM
 bk:Nat->Nat×Nat
 τ:Nat->Nat×Nat×Nat
inductive cL(G:GM):SV->Value->Prop
 |bool (b:Bool):cL G (.bool b) (.bool b)
 |int (k:IntKind) (n:Int):cL G (.int k n) (.int k n)
 |u8 (b:UInt8):cL G (.u8 b) (.int .u8 b.toNat)
 |str (l:List UInt8):cL G (.str l) (.string ⟨⟨l⟩⟩)
 |nilp:cL G .nilp (.pointer none)
 |nili:cL G .nili .nilIface
 |bytN (t:Tok):cL G (.byt [] t) (.slice none 0 0)
 |bytE (t:Tok) (a:Addr):cL G (.byt [] t) (.slice (some a) 0 0)
 |byt (l:List UInt8) (t:Tok) (b off cap n:Nat) (hn:n=l.length) (hc:n<=cap)
  (h:∀i,i<n->G b (off+i)=some (.int .u8 (l.getD i 0).toNat)):cL G (.byt l t) (.slice (some ⟨b,off,none⟩) n cap)
 |lstN (sz:Nat) (t:Tok):cL G (.lst sz [] t) (.slice none 0 0)
 |lstE (sz:Nat) (t:Tok) (a:Addr):cL G (.lst sz [] t) (.slice (some a) 0 0)
 |lst (sz:Nat) (xs:List (List SV)) (t:Tok) (b off cap n:Nat) (val:Nat->Nat->Value) (hn:n=xs.length) (hc:n<=cap)
  (hl:∀i,i<n->(xs.getD i []).length=sz)
  (hg:∀i j,i<n->j<sz->G b (off+i*sz+j)=some (val i j))
  (h:∀i j,i<n->j<sz->cL G ((xs.getD i []).getD j .undef) (val i j)):cL G (.lst sz xs t) (.slice (some ⟨b,off,none⟩) n cap)
 |pp (cs:List SV) (b off:Nat) (val:Nat->Value) (hg:∀j,j<cs.length->G b (off+j)=some (val j))
  (h:∀j,j<cs.length->cL G (cs.getD j .undef) (val j)):cL G (.pp cs) (.pointer (some ⟨b,off,none⟩))
class br where
 cells:Nat->Option (List SV)
variable [br]
def Lay(G:GM):Prop:=∀g cs,br.cells g=some cs->∀j,j<cs.length->∃v,G g j=some v/\cL G (cs.getD j .undef) v
def dR(x:Sit)(h:Nat)(t:Tok)(v:Value):Prop:=
 match t with
 | .no=>True
 | .clip=>∃a n,v= .slice a n n
 | .id t=>∃a n cap,v= .slice a n cap/\(cap=n\/∃b off,a=some ⟨b,off,none⟩/\x.τ t=(b,off+n*h,off+cap*h))
def UJ(x:Sit):SV->Value->Prop
 | .byt _ t,v=>dR x 1 t v
 | .lst sz _ t,v=>dR x sz t v
 |_,_=>True
inductive Rep(x:Sit):SV->Value->Prop
 |undef (v:Value):Rep x .undef v
 |dat (s:SV) (v:Value) (h:cL x.G s v) (ht:UJ x s v):Rep x s v
 |ptr (o off:Nat):Rep x (.ptr o off) (.pointer (some ⟨(x.bk o).1,off,none⟩))
 |ap (o sz i j:Nat):Rep x (.ap o sz i j) (.pointer (some ⟨(x.bk o).1,i*sz+j,none⟩))
 |psl (o sz off n:Nat) (cap:Option Nat) (off' cap':Nat) (h:cap'=0\/off'=off*sz) (hn:n<=cap') (hc:∀c,cap=some c->c=cap') (hk:cap=none->cap'=0\/off'+cap'*sz<=(x.bk o).2):Rep x (.psl o sz off n cap) (.slice (some ⟨(x.bk o).1,off',none⟩) n cap')
 |agg (cs:List SV) (vs:List Value) (hl:cs.length=vs.length) (h:∀i,i<cs.length->Rep x (cs.getD i .undef) (vs.getD i undef)):Rep x (.agg cs) (.agg ⟨vs⟩)
 |tup (cs:List SV) (vs:List Value) (hl:cs.length=vs.length) (h:∀i,i<cs.length->Rep x (cs.getD i .undef) (vs.getD i undef)):Rep x (.tup cs) (.tuple ⟨vs⟩)
 |fn (f:Nat) (c1 c2:List SV) (v1 v2:List Value) (hl1:c1.length=v1.length) (h1:∀i,i<c1.length->Rep x (c1.getD i .undef) (v1.getD i undef))
  (hl2:c2.length=v2.length) (h2:∀i,i<c2.length->Rep x (c2.getD i .undef) (v2.getD i undef)):Rep x (.fn f c1 c2) (.func (.func f) ⟨v1⟩ ⟨v2⟩)
def cE(x:Sit)(cs:t8)(vs:LAc):Prop:=cs.length=vs.length/\∀i,i<cs.length->Rep x (cs.getD i .undef) (vs.getD i undef)
structure St where
 tm:List SV
 ob:List (Nat×aH)
 tk:List Nat
structure Ctx where
 w0:World
 G0:GM
 mine:Nat->Prop
 β0:Nat->Nat×Nat
def eS(w:World)(b:Nat)(c:LAd)(e:TypeId)(fl fh:Nat):Prop:=
 w.heap[b]? =some (.cells c e (fl,fh))/\∀i,i<c.size->¬(fl<=i/\i<fh)
def cx(x:Sit)(obj:aH)(k:Nat)(v:Value):Prop:=
 match obj with
 | .rc cs=>Rep x (cs.getD k .undef) v
 |obj=>cL x.G (obj.cell k) v
def eA(x:Sit)(w:World)(o:Nat)(obj:aH):Prop:=
 ∃c e fl fh,eS w ((x.bk o).1) c e fl fh/\(obj.size<=c.size/\(x.bk o).2<=c.size/\(obj.arrB=true->¬(fl<=c.size/\c.size<fh)))/\∀k,k<obj.size->cx x obj k (c.getD k undef)
def iR(x:Sit)(w:World)(mine:Nat->Prop)(t:Nat):Prop:=
 (x.τ t).2.1=(x.τ t).2.2\/
 ((∃c e fl fh,eS w (x.τ t).1 c e fl fh/\(x.τ t).2.2<=c.size)/\mine (x.τ t).1/\∀o,(x.τ t).2.1<=o->o<(x.τ t).2.2->x.G (x.τ t).1 o=none)
def mB(p q:Nat×Nat×Nat):Prop:=p.1≠q.1
structure dj(C:Ctx)(x:Sit)(ob:List (Nat×aH))(tk:List Nat)(w:World):Prop where
 per:∀b o v,x.G b o=some v->w.cell? ⟨b,o,none⟩=some v
 g0:∀b o v,C.G0 b o=some v->x.G b o=some v
 gm:∀b o v,x.G b o=some v->C.G0 b o=some v\/C.mine b
 new:∀b,C.w0.heap.size<=b->C.mine b
 obs:∀p∈ob,eA x w p.1 p.2/\C.mine ((x.bk p.1).1)/\∀off,x.G ((x.bk p.1).1) off=none
 nd:(ob.map cS).Nodup
 inj:∀p∈ob,∀q∈ob,(x.bk p.1).1=(x.bk q.1).1->p.1=q.1
 tks:∀t∈tk,iR x w C.mine t
 tko:∀t∈tk,∀p∈ob,(x.τ t).1≠(x.bk p.1).1\/(x.τ t).2.1=(x.τ t).2.2
 tkd:∀t∈tk,∀u∈tk,t≠u->mB (x.τ t) (x.τ u)\/(x.τ t).2.1=(x.τ t).2.2\/(x.τ u).2.1=(x.τ u).2.2
 os:w.os=C.w0.os
 tape:w.tape=C.w0.tape
 output:w.output=C.w0.output
 size:C.w0.heap.size<=w.heap.size
 ext:∀b,¬C.mine b->w.heap[b]? =C.w0.heap[b]?
 pin:∀i,i<100->x.bk i=C.β0 i
 lay:Lay C.G0
structure aR(C:Ctx)(x:Sit)(s:St)(a:Act)(w:World):Prop where
 tm:cE x s.tm a.tmps.toList
 defers:a.defers=[]
 heap:dj C x s.ob s.tk w
end Go.Sy
namespace Go.Sy
variable [br]
inductive Arg where
 |t (n:Nat)
 |c (v:SV)
 |f (g:Nat)
inductive SOp where
 |mov (x:Arg)
 |pick (c a b:Arg)
 |new (o:aH)
 |box (x:Arg)
 |build (z:List SV) (ps:List (Nat×Nat×Arg))
 |lit (sz:Nat) (xs:List Arg)
 |litB (xs:List Arg)
 |load (n:Nat) (ag:Bool) (a:Arg)
 |store (n:Nat) (a x:Arg)
 |nchk (x:Arg)
 |bin (op:BinOp) (x y:Arg)
 |beq (ne:Bool) (x y:Arg)
 |un (op:UnOp) (x:Arg)
 |toInt (k:IntKind) (x:Arg)
 |toStr (x:Arg)
 |s2b (x:Arg)
 |b2s (x:Arg)
 |mkfn (f:Nat) (first cap:List Arg)
 |mk (z:List SV) (bytes:Nat) (len cap:Arg)
 |mkB (len cap:Arg)
 |slcS (x:Arg) (lo hi:Option Arg)
 |slcL (sz:Nat) (x:Arg) (lo hi mx:Option Arg)
 |slcA (len sz:Nat) (x:Arg) (lo hi mx:Option Arg)
 |faddr (off:Nat) (x:Arg)
 |fld (off n:Nat) (ag:Bool) (x:Arg)
 |iaddrL (sz:Nat) (x i:Arg)
 |iaddrA (len sz:Nat) (x i:Arg)
 |idxA (len sz:Nat) (ag:Bool) (x i:Arg)
 |idxS (x i:Arg)
 |ext (x:Arg) (i:Nat)
 |len (str:Bool) (x:Arg)
 |lenC (n:Nat)
 |cap (x:Arg)
 |app (z:List SV) (bytes:Nat) (x y:Arg)
 |appM (z:List SV) (bytes:Nat) (x k:Arg)
 |appO (z:List SV) (bytes:Nat) (x y:Arg)
 |eqS (ne:Bool) (ts:List Nat) (x y:Arg)
 |isnil (ne:Bool) (x:Arg)
 |isni (ne:Bool) (x:Arg)
 |slid (x:Arg)
 |newB (xs:List Arg)
 |ovl (x y:Arg)
 |cpy (sz:Nat) (x y:Arg)
 |clr (z:List SV) (x:Arg)
 |mini (x y:Arg)
 |maxi (x y:Arg)
 |call (f:Arg) (args:List Arg)
structure SI where
 dst:Option Nat
 g:Option (Nat×Bool)
 op:SOp
abbrev LAe:=List SI
inductive gJ where
 |skip
 |ops (l:List SI)
 |drw (b ds:List Nat) (l:List SI)
 |seq (a b:gJ)
 |cond (c:Arg) (a b:gJ)
 |block (id:Nat) (b:gJ)
 |loop (b:gJ)
 |exit (id:Nat)
 |ret
 |bad
def St.get(s:St)(n:Nat):SV:=s.tm.getD n .undef
def St.ev(s:St):Arg->SV
 | .t n=>s.get n
 | .c v=>v
 | .f g=> .fn g [] []
def St.put(s:St)(d:LAb)(v:SV):St:=
 match d with
 |some d=> {s with tm:=s.tm.set d v}
 |none=>s
def St.look(s:St)(o:Nat):Option aH:=s.ob.lookup o
def Tok.purge(lo hi:Nat):Tok->Tok
 | .id t=>if lo<=t/\t<hi then .no else .id t
 |t=>t
mutual
def SV.purge(lo hi:Nat):SV->SV
 | .byt l t=> .byt l (t.purge lo hi)
 | .lst h y t=> .lst h y (t.purge lo hi)
 | .ptr o off=>if lo<=o/\o<hi then .undef else .ptr o off
 | .ap o h i j=>if lo<=o/\o<hi then .undef else .ap o h i j
 | .psl o h off n cap=>if lo<=o/\o<hi then .undef else .psl o h off n cap
 | .agg cs=> .agg (SV.purgeL lo hi cs)
 | .tup cs=> .tup (SV.purgeL lo hi cs)
 | .fn f a b=> .fn f (SV.purgeL lo hi a) (SV.purgeL lo hi b)
 |v=>v
def SV.purgeL(lo hi:Nat):t8->t8
 |[]=> []
 |v::r=>v.purge lo hi::SV.purgeL lo hi r
end
def aH.purge(lo hi:Nat):aH->aH
 | .rc cs=> .rc (SV.purgeL lo hi cs)
 | .arr y h=> .arr y h
 | .bar l=> .bar l
def bP(lo hi:Nat):List (Nat×aH)->List (Nat×aH)
 |[]=> []
 |p::r=>if lo<=p.1/\p.1<hi then bP lo hi r else(p.1,p.2.purge lo hi)::bP lo hi r
def cJ(lo hi:Nat):LAa->LAa
 |[]=> []
 |t::r=>if lo<=t/\t<hi then cJ lo hi r else t::cJ lo hi r
def St.purge(s:St)(lo hi:Nat):St:= {tm:=SV.purgeL lo hi s.tm,ob:=bP lo hi s.ob,tk:=cJ lo hi s.tk}
def St.addO(s:St)(d:Nat)(o:aH):St:= {s with ob:=(d,o)::s.ob}
def setO(d:Nat)(o:aH):List (Nat×aH)->List (Nat×aH)
 |[]=> []
 |p::r=>if p.1=d then(d,o)::r else p::setO d o r
def St.setO(s:St)(d:Nat)(o:aH):St:= {s with ob:=Sy.setO d o s.ob}
def SV.data:SV->SV
 | .byt l _=> .byt l .no
 | .lst y h _=> .lst y h .no
 |v=>v
def SV.isData:SV->Bool
 | .bool _| .int _ _| .u8 _| .str _| .byt _ _| .lst _ _ _| .nilp| .nili| .pp _=>true
 |_=>false
def SV.cells:SV->t8
 | .agg cs=>cs
 | .undef=> []
 |v=> [v]
def SV.isDef:SV->Bool
 | .undef=>false
 |_=>true
def VH(op:BinOp)(a b:Int):Option SV:=
 match op with
 | .eql=>some (.bool (decide (a=b)))
 | .neq=>some (.bool (decide (a≠b)))
 | .lss=>some (.bool (decide (a<b)))
 | .leq=>some (.bool (decide (a<=b)))
 | .gtr=>some (.bool (decide (b<a)))
 | .geq=>some (.bool (decide (b<=a)))
 |_=>none
def cn(op:BinOp)(k:IntKind)(x y:Int):Int:=
 let a:=BitVec.ofInt k.bits x
 let b:=BitVec.ofInt k.bits y
 k.wrap (match op with| .and=>a&&&b| .or=>a|||b| .xor=>a^^^b|_=>a&&& ~~~b:BitVec k.bits).toNat
def ZX(op:BinOp)(k:IntKind)(a b:Int):Option (Prop×SV):=
 match op with
 | .add=>some (True,.int k (k.wrap (a+b)))
 | .sub=>some (True,.int k (k.wrap (a-b)))
 | .mul=>some (True,.int k (k.wrap (a*b)))
 | .quo=>some (b≠0,.int k (k.wrap (a.tdiv b)))
 | .rem=>some (b≠0,.int k (a.tmod b))
 | .and=>some (True,.int k (cn .and k a b))
 | .or=>some (True,.int k (cn .or k a b))
 | .xor=>some (True,.int k (cn .xor k a b))
 | .andNot=>some (True,.int k (cn .andNot k a b))
 | .shl| .shr=>none
 |op=>(VH op a b).map fun v=>(True,v)
def Ic(op:BinOp)(a b:UInt8):Option (Prop×SV):=
 match op with
 | .add=>some (True,.u8 (a+b))
 | .sub=>some (True,.u8 (a-b))
 | .mul=>some (True,.u8 (a*b))
 | .quo=>some (b≠0,.u8 (a/b))
 | .rem=>some (b≠0,.u8 (a % b))
 | .and=>some (True,.u8 (a&&&b))
 | .or=>some (True,.u8 (a|||b))
 | .xor=>some (True,.u8 (a^^^b))
 | .andNot=>some (True,.u8 (a&&& ~~~b))
 | .eql=>some (True,.bool (decide (a=b)))
 | .neq=>some (True,.bool (decide (a≠b)))
 | .lss=>some (True,.bool (decide (a<b)))
 | .leq=>some (True,.bool (decide (a<=b)))
 | .gtr=>some (True,.bool (decide (b<a)))
 | .geq=>some (True,.bool (decide (b<=a)))
 |_=>none
def xC(op:BinOp)(k:IntKind)(a b:Int):Option (Prop×SV):=
 match op with
 | .shl=>some (0<=b,.int k (k.wrap (a*2^(min b.toNat k.bits))))
 | .shr=>some (0<=b,.int k (a.fdiv (2^(min b.toNat k.bits))))
 |_=>none
def xbc(op:BinOp)(a:UInt8)(b:Int):Option (Prop×SV):=
 match op with
 | .shl=>some (0<=b,.u8 (io (a.toNat*2^(min b.toNat 8))))
 | .shr=>some (0<=b,.u8 (io (a.toNat/2^(min b.toNat 8))))
 |_=>none
def xbi(op:BinOp)(a b:d9):Option (Prop×SV):=
 match op with
 | .add=>some (a.length+b.length<=9223372036854775807,.str (a++b))
 | .eql=>some (True,.bool (decide (a=b)))
 | .neq=>some (True,.bool (decide (a≠b)))
 | .lss=>some (True,.bool (bH a b))
 | .leq=>some (True,.bool (bH a b||decide (a=b)))
 | .gtr=>some (True,.bool (!(bH a b||decide (a=b))))
 | .geq=>some (True,.bool (!bH a b))
 |_=>none
def Bm(op:BinOp):SV->SV->Option (Prop×SV)
 | .int k a,.int k' b=>
  match op with
  | .shl=>xC .shl k a b
  | .shr=>xC .shr k a b
  |op=>if k=k' then ZX op k a b else none
 | .u8 a,.int _ b=>xbc op a b
 | .u8 a,.u8 b=>Ic op a b
 | .str a,.str b=>xbi op a b
 |_,_=>none
def Aa(op:UnOp):SV->Option SV
 | .bool b=>match op with| .not=>some (.bool (!b))|_=>none
 | .int k n=>match op with
  | .neg=>some (.int k (k.wrap (0-n)))
  | .xor=>some (.int k (cn .xor k (if k.signed then-1 else k.max) n))
  |_=>none
 |_=>none
def iT(k:IntKind):SV->Option SV
 | .int _ n=>match k with| .u8=>some (.u8 (b8 n))|k=>some (.int k (k.wrap n))
 | .u8 b=>match k with| .u8=>some (.u8 b)| .i8=>none|k=>some (.int k b.toNat)
 |_=>none
def kX(b:Bool):SV->LAb
 | .str l=>if b then some l.length else none
 | .byt l _=>if b then none else some l.length
 | .lst _ h _=>if b then none else some h.length
 | .psl _ _ _ n _=>if b then none else some n
 |_=>none
def ej(h:Bool)(n:Nat)(cs:t8):SV:=if h then .agg (cs.take n)else cs.getD 0 .undef
def jv(s:St)(n:Nat)(h:Bool):SV->Option (Prop×SV)
 | .pp cs=>some (n<=cs.length,ej h n (cs.map SV.data))
 | .ptr o off=>match s.look o with
  |some (.rc cs)=>some (off+n<=cs.length,ej h n (cs.drop off))
  |some (.arr y xs)=>if off=0 then some (n<=xs.flatten.length/\(∀x∈xs,x.length=y),ej h n (xs.flatten.map SV.data))else none
  |some (.bar l)=>if off=0 then some (n<=l.length,ej h n (l.map .u8))else none
  |none=>none
 | .ap o y i j=>match s.look o with
  |some (.arr sz' xs)=>some (y=sz'/\i<xs.length/\j+n<=y/\(xs.getD i []).length=y,ej h n (((xs.getD i []).drop j).map SV.data))
  |some (.bar l)=>some (y=1/\j=0/\n=1/\i<l.length,ej h n [.u8 (l.getD i 0)])
  |_=>none
 |_=>none
def SV.num:SV->Option Int
 | .int _ n=>some n
 | .u8 b=>some b.toNat
 |_=>none
def ju(s:St)(x:Option Arg)(h:Int):Option Int:=
 match x with
 |none=>some h
 |some a=>(s.ev a).num
def nb(t:Tok)(h clip:Bool):Tok:=if clip then .clip else if h then t else .no
def kp(s:St)(E:Nat)(x:SV)(lo hi y:Option Arg):Option (Prop×SV):=
 match x with
 | .byt l t=>
  match ju s lo 0,ju s hi l.length,ju s y l.length with
  |some a,some b,some c=>some (0<=a/\a<=b/\b<=c/\c<=l.length/\E=1/\(y.isSome=true->b=c),.byt ((l.take b.toNat).drop a.toNat) (nb t hi.isNone y.isSome))
  |_,_,_=>none
 | .lst h l t=>
  match ju s lo 0,ju s hi l.length,ju s y l.length with
  |some a,some b,some c=>some (0<=a/\a<=b/\b<=c/\c<=l.length/\E=h/\(y.isSome=true->b=c),.lst E ((l.take b.toNat).drop a.toNat) (nb t hi.isNone y.isSome))
  |_,_,_=>none
 | .psl o h off n none=>
  match ju s lo 0,ju s hi n,y with
  |some a,some b,none=>some (0<=a/\a<=b/\b<=n/\E=h,.psl o E (off+a.toNat) (b.toNat-a.toNat) none)
  |_,_,_=>none
 | .psl o h off n (some cap)=>
  match ju s lo 0,ju s hi n,ju s y cap with
  |some a,some b,some c=>some (0<=a/\a<=b/\b<=c/\c<=cap/\E=h,.psl o E (off+a.toNat) (b.toNat-a.toNat) (some (c.toNat-a.toNat)))
  |_,_,_=>none
 |_=>none
def jA(cs:t8):List (Nat×Nat×SV)->Option t8
 |[]=>some cs
 |(off,n,v)::r=>if v.isDef=true/\v.cells.length=n/\off+n<=cs.length then jA (cs.take off++v.cells++cs.drop (off+n)) r else none
def toB:t8->Option d9
 |[]=>some []
 | .u8 b::r=>(toB r).map (b:: ·)
 |_::_=>none
def rows(h:Nat):t8->Option d8
 |[]=>some []
 |v::r=>if v.isDef=true/\v.cells.length=h/\v.cells.all SV.isData=true then(rows h r).map (v.cells.map SV.data:: ·)else none
def Bn(s:St):SV->Option (Prop×SV)
 | .byt l _=>some (True,.str l)
 | .psl o h off n _=>match s.look o with
  |some (.bar l)=>some (h=1/\off+n<=l.length,.str ((l.drop off).take n))
  |_=>none
 |_=>none
def xH:Nat->SV->SV->Option Bool
 |0,.bool a,.bool b=>some (decide (a=b))
 |1,.int k a,.int k' b=>if k=k' then some (decide (a=b))else none
 |1,.u8 a,.u8 b=>some (decide (a=b))
 |2,.str a,.str b=>some (decide (a=b))
 |_,_,_=>none
def ix:LAa->t8->t8->Option Bool
 |[],[],[]=>some true
 |t::ts,a::r,b::s=>match xH t a b,ix ts r s with
  |some p,some q=>some (p&&q)
  |_,_=>none
 |_,_,_=>none
def val(s:St):SOp->Option (Prop×SV)
 | .mov x=>some (True,s.ev x)
 | .build z O=>(jA z (O.map fun(o,n,x)=>(o,n,s.ev x))).map fun cs=>(True,.agg cs)
 | .lit h E=>(rows h (E.map s.ev)).map fun r=>(True,.lst h r .clip)
 | .litB E=>(toB (E.map s.ev)).map fun r=>(True,.byt r .clip)
 | .load n I a=>jv s n I (s.ev a)
 | .nchk x=>match s.ev x with
  | .ptr o off=>some (True,.ptr o off)
  | .ap o h i j=>some (True,.ap o h i j)
  | .pp cs=>some (True,.pp cs)
  | .fn f a b=>some (True,.fn f a b)
  |_=>none
 | .bin op x y=>Bm op (s.ev x) (s.ev y)
 | .beq F x y=>match s.ev x,s.ev y with
  | .bool a,.bool b=>some (True,.bool (if F then decide (a≠b)else decide (a=b)))
  |_,_=>none
 | .eqS F L x y=>match s.ev x,s.ev y with
  | .agg cs,.agg ds=>(ix L cs ds).map fun b=>(True,.bool (if F then !b else b))
  |_,_=>none
 | .un op x=>(Aa op (s.ev x)).map (True,·)
 | .toInt k x=>(iT k (s.ev x)).map (True,·)
 | .toStr x=>match s.ev x with| .str l=>some (True,.str l)|_=>none
 | .slid _=>none
 | .newB _=>none
 | .isni F x=>match s.ev x with| .nili=>some (True,.bool (!F))|_=>none
 | .s2b x=>match s.ev x with| .str l=>some (True,.byt l .no)|_=>none
 | .b2s x=>Bn s (s.ev x)
 | .mkfn f a b=>some (True,.fn f (a.map s.ev) (b.map s.ev))
 | .slcS x lo hi=>match s.ev x with
  | .str l=>match ju s lo 0,ju s hi l.length with
   |some a,some b=>some (0<=a/\a<=b/\b<=l.length,.str ((l.take b.toNat).drop a.toNat))
   |_,_=>none
  |_=>none
 | .slcL h x lo hi J=>kp s h (s.ev x) lo hi J
 | .slcA len h x lo hi J=>match s.ev x with
  | .ptr o 0=>kp s h (.psl o h 0 len (some len)) lo hi J
  |_=>none
 | .faddr off x=>match s.ev x with
  | .ptr o k=>some (True,.ptr o (k+off))
  | .ap o h i j=>some (True,.ap o h i (j+off))
  | .pp cs=>some (True,.pp (cs.drop off))
  |_=>none
 | .fld off n I x=>match s.ev x with
  | .agg cs=>some (off+n<=cs.length,ej I n (cs.drop off))
  |_=>none
 | .iaddrL h x i=>match s.ev x,(s.ev i).num with
  | .byt l _,some n=>some (0<=n/\n<l.length/\h=1,.pp [.u8 (l.getD n.toNat 0)])
  | .lst sz' E _,some n=>some (0<=n/\n<E.length/\h=sz',.pp (E.getD n.toNat []))
  | .psl o sz' off k _,some n=>some (0<=n/\n<k/\h=sz',.ap o h (off+n.toNat) 0)
  |_,_=>none
 | .iaddrA len h x i=>match s.ev x,(s.ev i).num with
  | .ptr o off,some n=>match s.look o with
   |some (.rc _)=>some (0<=n/\n<len,.ptr o (off+n.toNat*h))
   |some _=>if off=0 then some (0<=n/\n<len,.ap o h n.toNat 0)else none
   |none=>none
  | .pp cs,some n=>some (0<=n/\n<len/\cs.length=len*h,.pp (cs.drop (n.toNat*h)))
  |_,_=>none
 | .idxA len h I x i=>match s.ev x,(s.ev i).num with
  | .agg cs,some n=>some (0<=n/\n<len/\cs.length=len*h,ej I h (cs.drop (n.toNat*h)))
  |_,_=>none
 | .idxS x i=>match s.ev x,(s.ev i).num with
  | .str l,some n=>some (0<=n/\n<l.length,.u8 (l.getD n.toNat 0))
  |_,_=>none
 | .ext x i=>match s.ev x with
  | .tup vs=>some (i<vs.length,vs.getD i .undef)
  |_=>none
 | .len b x=>match kX b (s.ev x)with
  |some n=>some (True,.int .i64 (n:Nat))
  |none=>none
 | .lenC n=>some (True,.int .i64 n)
 | .cap x=>match s.ev x with
  | .psl _ _ _ _ (some c)=>some (True,.int .i64 c)
  | .byt l .clip=>some (True,.int .i64 l.length)
  | .lst _ E .clip=>some (True,.int .i64 E.length)
  |_=>none
 | .mini x y=>match s.ev x,s.ev y with
  | .int k a,.int k' b=>if k=k' then some (True,.int k (if b<a then b else a))else none
  |_,_=>none
 | .maxi x y=>match s.ev x,s.ev y with
  | .int k a,.int k' b=>if k=k' then some (True,.int k (if a<b then b else a))else none
  |_,_=>none
 |_=>none
end Go.Sy
namespace Go.Sy
variable [br]
def Tok.ren(m:Nat->Nat):Tok->Tok
 | .id t=> .id (m t)
 |t=>t
mutual
def SV.ren(m mt:Nat->Nat):SV->SV
 | .byt l t=> .byt l (t.ren mt)
 | .lst h y t=> .lst h y (t.ren mt)
 | .ptr o off=> .ptr (m o) off
 | .ap o h i j=> .ap (m o) h i j
 | .psl o h off n cap=> .psl (m o) h off n cap
 | .agg cs=> .agg (SV.renL m mt cs)
 | .tup cs=> .tup (SV.renL m mt cs)
 | .fn f a b=> .fn f (SV.renL m mt a) (SV.renL m mt b)
 |v=>v
def SV.renL(m mt:Nat->Nat):t8->t8
 |[]=> []
 |v::r=>v.ren m mt::SV.renL m mt r
end
def aH.ren(m mt:Nat->Nat):aH->aH
 | .rc cs=> .rc (SV.renL m mt cs)
 |o=>o
mutual
def SV.toks:SV->LAa
 | .byt _ t=>match t with| .id t=> [t]|_=> []
 | .lst _ _ t=>match t with| .id t=> [t]|_=> []
 | .agg cs=>SV.toksL cs
 | .tup cs=>SV.toksL cs
 | .fn _ a b=>SV.toksL a++SV.toksL b
 |_=> []
def SV.toksL:t8->LAa
 |[]=> []
 |v::r=>v.toks++SV.toksL r
end
mutual
def SV.ids:SV->LAa
 | .ptr o _=> [o]
 | .ap o _ _ _=> [o]
 | .psl o _ _ _ _=> [o]
 | .agg cs=>SV.idsL cs
 | .tup cs=>SV.idsL cs
 | .fn _ a b=>SV.idsL a++SV.idsL b
 |_=> []
def SV.idsL:t8->LAa
 |[]=> []
 |v::r=>v.ids++SV.idsL r
end
def aH.ids:aH->LAa
 | .rc cs=>SV.idsL cs
 |_=> []
def aH.toks:aH->LAa
 | .rc cs=>SV.toksL cs
 |_=> []
def idx(os:List aH):List (Nat×aH):=os.zipIdx.map fun p=>(p.2,p.1)
def ez(P:Program)(f:Nat):Bool:=
 match P.funcs[f]? with
 |some fn=>fn.body.isSome&& !(fn.name== "runtime.NumGoroutine")
 |none=>false
def xom(P:Program)(f:Nat)(args:t8)(os:List aH)(R:SV->List (Nat×aH)->Prop):Prop:=
 ez P f=true/\∀(C:Ctx)(x:Sit)(w:World)(vs:LAc),C.w0=w->C.G0=x.G->
  (∀b,C.mine b->w.heap.size<=b\/∃i,i<os.length/\(x.bk i).1=b)->os.length<=100->
  dj C x (idx os) [] w->cE x args vs->
  Calls P f ⟨vs⟩ w fun e w'=>∃v x' r h,e= .returned v/\R r h/\Rep x' r v/\dj C x' h r.toks w'/\∀i,i<os.length->x'.bk i=x.bk i
def Fn(P:Program)(f:Nat)(args:t8)(r:SV):Prop:=xom P f args [] fun y h=>y=r/\h=[]
def xzr(a b:SV):Prop:=∀(x:Sit)(v:Value),Rep x a v->Rep x b v
def jk(d:Nat)(m:LAa)(o:Nat):Nat:=if o<m.length then m.getD o 0 else(d+1)*1000+o
def kK(d:Nat)(t:Nat):Nat:=(d+1)*1000+t
def inR(d:Nat)(o:Nat):Bool:=decide ((d+1)*1000<=o)&&decide (o<(d+2)*1000)
def leL(a_ bs:t8):Prop:=a_.length=bs.length/\∀i,i<a_.length->xzr (a_.getD i .undef) (bs.getD i .undef)
def fM(m:LAa):List (Nat×aH)->List (Nat×aH)
 |[]=> []
 |p::r=>if p.1∈m then fM m r else p::fM m r
def pZ(d:Nat)(m:LAa):List (Nat×aH)->List (Nat×aH)
 |[]=> []
 |p::r=>(jk d m p.1,p.2.ren (jk d m) (kK d))::pZ d m r
def St.after(s:St)(d:LAb)(m:LAa)(r:SV)(os:List (Nat×aH)):St:=
 St.put {
  tm:=SV.purgeL ((d.getD 0+1)*1000) ((d.getD 0+2)*1000) s.tm
  ob:=pZ (d.getD 0) m os++fM m (bP ((d.getD 0+1)*1000) ((d.getD 0+2)*1000) s.ob)
  tk:=r.toks.map (kK (d.getD 0))++cJ ((d.getD 0+1)*1000) ((d.getD 0+2)*1000) s.tk}
  d (r.ren (jk (d.getD 0) m) (kK (d.getD 0)))
structure Eff where
 pre:Prop
 val:SV
 wr:List (Nat×aH):=[]
 new:Option aH:=none
 eat:Tok:= .no
 tok:Bool:=false
def jX(y:Nat)(h:d8)(i j n:Nat)(v:t8):d8:=
 if j=0/\n=y then h.set i v else h.set i (((h.getD i []).take j)++v++((h.getD i []).drop (j+n)))
def setCells(cs:t8)(off:Nat)(v:t8):t8:=
 match v with
 |[u]=>cs.set off u
 |v=>cs.take off++v++cs.drop (off+v.length)
def SV.one:SV->Bool
 | .undef| .agg _| .tup _=>false
 |_=>true
def kG(h:Nat):Nat->t8->d8
 |0,_=> []
 |m+1,v=>v.take h::kG h m (v.drop h)
def sD(s:St)(n:Nat)(v:t8):SV->Option Eff
 | .ptr o off=>match s.look o with
  |some (.rc cs)=>some {pre:=off+n<=cs.length/\v.length=n/\v.all SV.one=true,val:= .undef,wr:=[(o,.rc (setCells cs off v))]}
  |some (.arr h xs)=>some {pre:=off=0/\n=xs.length*h/\v.length=n/\v.all SV.isData=true,val:= .undef,wr:=[(o,.arr h (kG h xs.length (v.map SV.data)))]}
  |some (.bar l)=>match toB v with
   |some y=>some {pre:=off=0/\n=l.length/\y.length=n,val:= .undef,wr:=[(o,.bar y)]}
   |none=>none
  |_=>none
 | .ap o h i j=>match s.look o with
  |some (.arr sz' xs)=>some {pre:=h=sz'/\i<xs.length/\j+n<=h/\v.length=n/\(∀x∈xs,x.length=h)/\v.all SV.isData=true,val:= .undef,wr:=[(o,.arr sz' (jX h xs i j n (v.map SV.data)))]}
  |some (.bar l)=>match v with
   |[.u8 b]=>some {pre:=h=1/\j=0/\n=1/\i<l.length,val:= .undef,wr:=[(o,.bar (l.set i b))]}
   |_=>none
  |_=>none
 |_=>none
def Tok.ready(s:St):Tok->Bool
 | .no=>false
 | .clip=>true
 | .id t=>s.tk.contains t
def Tok.eat(t:Tok)(tk:LAa):LAa:=
 match t with
 | .id t=>cJ t (t+1) tk
 |_=>tk
def bytesOf(s:St):SV->Option (Prop×d9)
 | .byt l _=>some (True,l)
 | .str l=>some (True,l)
 | .psl o h off n _=>match s.look o with
  |some (.bar l)=>some (h=1/\off+n<=l.length,(l.drop off).take n)
  |_=>none
 |_=>none
def iQ(s:St)(E:Nat):SV->Option (Prop×d8)
 | .lst h y _=>some (E=h,y)
 | .psl o h off n _=>match s.look o with
  |some (.arr sz'' y)=>some (E=h/\E=sz''/\off+n<=y.length/\(∀x∈y,x.length=E),((y.drop off).take n))
  |_=>none
 |_=>none
def eff(s:St)(d:LAb):SOp->Option Eff
 | .new o=>match d with
  |some d=>some {pre:=True,val:= .ptr (d+100) 0,new:=some o}
  |none=>none
 | .box x=>match d with
  |some d=>some {pre:=True,val:= .ptr (d+100) 0,new:=some (.rc (s.ev x).cells)}
  |none=>none
 | .mk z bytes n c=>match d,s.ev n,s.ev c with
  |some d,.int _ n,.int _ c=>some {pre:=0<=n/\n<=c/\bytes*c<=140737488355328/\c<=9223372036854775807,val:= .psl (d+100) z.length 0 n.toNat (some c.toNat),new:=some (.arr z.length (aL c.toNat z))}
  |_,_,_=>none
 | .mkB n c=>match d,s.ev n,s.ev c with
  |some d,.int _ n,.int _ c=>some {pre:=0<=n/\n<=c/\c<=140737488355328,val:= .psl (d+100) 1 0 n.toNat (some c.toNat),new:=some (.bar (aL c.toNat 0))}
  |_,_,_=>none
 | .store n a x=>match (s.ev x).isDef with
  |true=>sD s n (s.ev x).cells (s.ev a)
  |false=>none
 | .app z bytes x y=>match d with
  |some d=>match s.ev x with
   | .byt l t=>match bytesOf s (s.ev y)with
    |some (p,l')=>some {pre:=p/\z.length=1/\bytes=1/\t.ready s=true/\l.length+l'.length<=140737488355328,val:= .byt (l++l') (.id (d+100)),eat:=t,tok:=true}
    |none=>none
   | .lst h l t=>match iQ s z.length (s.ev y)with
    |some (p,l')=>some {pre:=p/\z.length=h/\t.ready s=true/\(l.length+l'.length)*bytes<=140737488355328,val:= .lst z.length (l++l') (.id (d+100)),eat:=t,tok:=true}
    |none=>none
   |_=>none
  |none=>none
 | .cpy E x y=>match s.ev x with
  | .psl o h off n _=>match s.look o with
   |some (.bar l)=>match bytesOf s (s.ev y)with
    |some (p,l')=>some {pre:=p/\E=1/\h=1/\off+n<=l.length,val:= .int .i64 (min l'.length n:Nat),wr:=[(o,.bar (l.take off++l'.take n++l.drop (off+(l'.take n).length)))]}
    |none=>none
   |some (.arr sz'' xs)=>match iQ s E (s.ev y)with
    |some (p,l')=>some {pre:=p/\E=h/\E=sz''/\off+n<=xs.length/\(∀x∈xs,x.length=E),val:= .int .i64 (min l'.length n:Nat),wr:=[(o,.arr E (xs.take off++l'.take n++xs.drop (off+(l'.take n).length)))]}
    |none=>none
   |_=>none
  |_=>none
 | .pick _ _ _=>none
 | .call _ _=>none
 | .appM _ _ _ _=>none
 | .appO _ _ _ _=>none
 | .clr z x=>match s.ev x with
  | .psl o h off n _=>match s.look o with
   |some (.arr sz'' xs)=>some {pre:=0<n/\z.length=h/\z.length=sz''/\off+n<=xs.length/\(∀x∈xs,x.length=z.length),val:= .tup [],wr:=[(o,.arr z.length (xs.take off++aL n z++xs.drop (off+n)))]}
   |_=>none
  |_=>none
 | .isnil _ _=>none
 |so=>match val s so with
  |some (p,v)=>some {pre:=p,val:=v}
  |none=>none
def St.wr(s:St):List (Nat×aH)->St
 |[]=>s
 |p::r=>(s.setO p.1 p.2).wr r
def St.grew(s:St)(t:Tok)(d:Nat):St:=
 {tm:=SV.purgeL d (d+1) s.tm,ob:=bP d (d+1) s.ob,tk:=d::cJ d (d+1) (t.eat s.tk)}
def St.app(s:St)(d:LAb)(e:Eff):St:=
 match e.new,e.tok with
 |some o,_=>((s.purge (d.getD 0+100) (d.getD 0+100+1)).addO (d.getD 0+100) (o.purge (d.getD 0+100) (d.getD 0+100+1))).put d e.val
 |none,true=>(s.grew e.eat (d.getD 0+100)).put d e.val
 |none,false=>(s.wr e.wr).put d e.val
def UC(P:Program)(s:St)(g:Nat)(a_:t8)(e:Eff):Prop:=
 ∃(m:LAa)(args:t8)(os:List aH)(r:SV)(h:List aH),xom P g args os (fun y E=>y=r/\E=idx h)/\m.length=os.length/\h.length=os.length/\os.length<=100/\m.Nodup/\
  leL a_ (SV.renL (fun k=>m.getD k 0) id args)/\(∀i,i<os.length->s.look (m.getD i 0)=some ((os.getD i (.rc [])).ren (fun k=>m.getD k 0) id))/\
  r.toks=[]/\(∀k∈r.ids,k<os.length)/\(∀ob∈h,ob.toks=[]/\∀k∈ob.ids,k<os.length)/\
  e= {pre:=True,val:=r.ren (fun k=>m.getD k 0) id,wr:=m.zip (h.map (aH.ren (fun k=>m.getD k 0) id))}
def xrR(P:Program)(g:Nat)(a_:t8)(d:LAb)(k:St->Prop)(s:St):Prop:=
 (∃e,UC P s g a_ e/\k (s.app d e))\/
 (∃(m:LAa)(args:t8)(os:List aH)(R:SV->List (Nat×aH)->Prop),xom P g args os R/\leL a_ (SV.renL (jk (d.getD 0) m) (kK (d.getD 0)) args)/\m.length=os.length/\os.length<=100/\m.Nodup/\
  (∀i,i<os.length->s.look (m.getD i 0)=some ((os.getD i (.rc [])).ren (jk (d.getD 0) m) (kK (d.getD 0))))/\(∀o∈m,inR (d.getD 0) o=false)/\
  ∀r h,R r h->(∀p∈h,p.1<1000/\(∀k∈p.2.ids,k<1000)/\(∀t∈p.2.toks,t<1000))/\(∀k∈r.ids,k<1000)/\(∀t∈r.toks,t<1000)/\k (s.after d m r h))
def xia:SV->LAb
 | .psl _ _ _ _ c=>c
 | .lst _ xs .clip=>some xs.length
 |_=>none
def xhY(d:Nat)(z:t8)(y h:d8)(E:Nat):Eff:=
 {pre:=True,val:= .psl (d+100) z.length 0 (y.length+h.length) (some E),new:=some (.arr z.length (y++h++aL (E-(y.length+h.length)) z))}
def xxq(s:St)(d:LAb)(h:d8)(k:St->Prop):SV->Prop
 | .psl o y off n cap=>match s.look o with
  |
   some (.arr sz' xs)=>sz'=y/\(∀r∈xs,r.length=y)/\off+n+h.length<=xs.length/\
   k (s.app d {pre:=True,val:= .psl o y off (n+h.length) cap,wr:=[(o,.arr y (xs.take (off+n)++h++xs.drop (off+n+h.length)))]})
  |_=>False
 |v=>k (s.put d v)
def xyg(s:St)(d:LAb)(z:t8)(bytes:Nat)(x:SV)(new:Option (Prop×d8))(k:St->Prop):Prop:=
 match d,xia x,iQ s z.length x,new with
 |some d0,some cap,some (p0,R0),some (p1,R1)=>p0/\p1/\(R0.length+R1.length)*bytes<=140737488355328/\
  (R0.length+R1.length<=cap->xxq s d R1 k x)/\
  (cap<R0.length+R1.length->∀h,R0.length+R1.length<=h->k (s.app d (xhY d0 z R0 R1 h)))
 |_,_,_,_=>False
def xyf(s:St)(d:LAb)(z:t8)(bytes:Nat)(x y:SV)(k:St->Prop):Prop:=
 match d,xia x,iQ s z.length x,y with
 |some d0,some cap,some (p0,R0),.int _ n=>p0/\0<=n/\n<=140737488355328/\(R0.length+n.toNat)*bytes<=140737488355328/\cap<R0.length+n.toNat/\
  ∀h,R0.length+n.toNat<=h->k (s.app d (xhY d0 z R0 (aL n.toNat z) h))
 |_,_,_,_=>False
def sym(P:Program)(so:SOp)(d:LAb)(k:St->Prop)(s:St):Prop:=
 match so with
 | .pick c a b=>match s.ev c with
  | .bool t=>(t=true->k (s.put d (s.ev a)))/\(t=false->k (s.put d (s.ev b)))
  |_=>False
 | .call f a_=>match s.ev f with
  | .fn g a b=>xrR P g (a++a_.map s.ev++b) d k s
  |_=>False
 | .isnil h x=>match s.ev x with
  | .byt l _=>∀b:Bool,(b=true->l=[])->k (s.put d (.bool (b !=h)))
  | .lst _ E _=>∀b:Bool,(b=true->E=[])->k (s.put d (.bool (b !=h)))
  | .psl _ _ _ _ _=>k (s.put d (.bool h))
  |_=>False
 | .appM z bytes x c=>xyf s d z bytes (s.ev x) (s.ev c) k
 |
  .app z bytes x y=>if s.tk.contains 99 then xyg s d z bytes (s.ev x) (iQ s z.length (s.ev y)) k else
  match eff s d (.app z bytes x y)with
  |some e=>e.pre/\k (s.app d e)
  |none=>False
 |so=>match eff s d so with
  |some e=>e.pre/\k (s.app d e)
  |none=>False
def xkO(P:Program)(i:SI)(k:St->Prop)(s:St):Prop:=
 match i.g with
 |none=>sym P i.op i.dst k s
 |some (g,b)=>match s.get g with
  | .bool t=>(t=b->sym P i.op i.dst k (s.put (some g) (.bool b)))/\(t= !b->k ((s.put (some g) (.bool !b)).put i.dst .undef))
  |_=>False
def xa8(P:Program):LAe->(St->Prop)->St->Prop
 |[],k,s=>k s
 |i::r,k,s=>xkO P i (xa8 P r k) s
def Tok.ids:Tok->LAa
 | .id t=> [t]
 |_=> []
def SOp.args:SOp->List Arg
 | .mov x| .box x| .load _ _ x| .nchk x| .un _ x| .toInt _ x| .toStr x| .s2b x| .b2s x| .faddr _ x| .fld _ _ _ x| .ext x _| .len _ x| .cap x| .isnil _ x| .isni _ x| .slid x| .clr _ x=> [x]
 | .pick c a b=> [c,a,b]
 | .new _| .lenC _=> []
 | .build _ E=>E.map fun p=>p.2.2
 | .lit _ h| .litB h| .newB h=>h
 | .store _ a b| .bin _ a b| .beq _ a b| .mk _ _ a b| .mkB a b| .iaddrL _ a b| .iaddrA _ _ a b| .idxA _ _ _ a b| .idxS a b| .app _ _ a b| .appM _ _ a b| .appO _ _ a b| .eqS _ _ a b| .ovl a b| .cpy _ a b| .mini a b| .maxi a b=> [a,b]
 | .mkfn _ a b=>a++b
 | .slcS x lo hi=>x::(lo.toList++hi.toList)
 | .slcL _ x lo hi y| .slcA _ _ x lo hi y=>x::(lo.toList++hi.toList++y.toList)
 | .call f a_=>f::a_
structure rz where
 r:List Nat
 w:List Nat
 t:List Nat
 n:List Nat
 m:List Nat
 l:List Nat
def SOp.blind(o:SOp):Bool:=match o with
 | .mov _=>true
 | .nchk _=>true
 | .faddr _ _=>true
 |_=>false
def SV.names(v:SV):LAa:=v.ids++v.toks
def aH.names(o:aH):LAa:=o.ids++o.toks
def T1:List (Nat×aH)->LAa
 |[]=> []
 |p::r=>p.2.names++T1 r
def Eff.names(e:Eff):LAa:=e.val.names++T1 e.wr++(match e.new with|some o=>o.names|none=> [])
def xnt(s:St)(so:SOp)(d:LAb)(e:Eff):rz:=
 ⟨SV.idsL (so.args.map s.ev),e.wr.map cS,e.eat.ids,(match e.new,e.tok with|none,false=> []|_,_=> [d.getD 0+100]),e.names,if so.blind=true then []else SV.idsL (so.args.map s.ev)⟩
def tE(a b:LAa):Bool:=a.any b.contains
def rz.clash(a b:rz):Bool:=tE a.w b.w||tE a.w b.l||tE b.w a.l||tE a.t b.t||tE a.n (b.r++b.w++b.t++b.m++b.n)||tE b.n (a.r++a.w++a.t++a.m)
def sS:rz:=⟨[],[],[],[],[],[]⟩
def rz.before(a b:rz):Bool:= !tE b.n (a.r++a.w++a.t++a.m++a.n)
def xnN(b:LAa)(h:List rz):Bool:=
 (bM h.length).all fun j=>(bM j).all fun i=>(h.getD i sS).before (h.getD j sS)&&((b.getD j 0).testBit i|| !(h.getD i sS).clash (h.getD j sS))
def rz.quiet(f:rz):Bool:=f.w.isEmpty&&f.t.isEmpty&&f.n.isEmpty
def xbe(P:Program)(i:SI)(s:St)(k:Eff->Prop):Prop:=
 match i.op with
 | .pick c a b=>match s.ev c with
  | .bool t=>(t=true->k {pre:=True,val:=s.ev a})/\(t=false->k {pre:=True,val:=s.ev b})
  |_=>False
 | .call f a_=>match s.ev f with
  | .fn g a b=>∃e,UC P s g (a++a_.map s.ev++b) e/\k e
  |_=>False
 |so=>match eff s i.dst so with
  |some e=>e.pre/\k e
  |none=>False
def xhP(V:List rz->(St->Prop)->St->Prop)(h:List rz)(k:St->Prop)(op:SOp)(d:LAb)(s:St)(e:Eff):Prop:=V (xnt s op d e::h) k (s.app d e)
def vcD(P:Program)(b:LAa):LAe->List rz->(St->Prop)->St->Prop
 |[],fs,k,s=>(fs.all rz.quiet||xnN b fs.reverse)=true/\k s
 |i::r,fs,k,s=>match i.g with
  |none=>xbe P i s (xhP (vcD P b r) fs k i.op i.dst s)
  |some (g,want)=>match s.get g with
   | .bool t=>(t=want->xbe P i s (xhP (vcD P b r) fs k i.op i.dst s))/\(t= !want->vcD P b r (sS::fs) k (s.put i.dst .undef))
   |_=>False
def St.forget(s:St):LAa->St
 |[]=>s
 |d::r=>(s.purge d (d+1)).forget r
def xvr(s s':St):Prop:=∀(C:Ctx)(x:Sit)(a:Act)(w:World),aR C x s a w->∃x',aR C x' s' a w
def xbd(k:St->Prop)(Q:Exit->St->Prop):Exit->St->Prop
 | .normal,s=>k s
 |e,s=>Q e s
def xnT(id:Nat)(Q:Exit->St->Prop):Exit->St->Prop
 | .exit id',s=>if id'=id then Q .normal s else Q (.exit id') s
 |e,s=>Q e s
def St.know(s:St)(c:Arg)(b:Bool):St:=
 match c with
 | .t n=>s.put (some n) (.bool b)
 |_=>s
def vc(P:Program):gJ->(Exit->St->Prop)->St->Prop
 | .skip,Q,s=>Q .normal s
 | .ops l,Q,s=>xa8 P l (Q .normal) s
 | .drw b ds l,Q,s=>vcD P b l [] (Q .normal) (s.forget ds)
 | .seq a b,Q,s=>vc P a (xbd (vc P b Q) Q) s
 | .cond c a b,Q,s=>match s.ev c with
  | .bool t=>(t=true->vc P a Q (s.know c true))/\(t=false->vc P b Q (s.know c false))
  |_=>False
 | .block id b,Q,s=>vc P b (xnT id Q) s
 | .loop b,Q,s=>∃(X:Type)(S:X->St)(I:X->Prop)(μ:X->Nat),(∃x,I x/\xvr s (S x))/\
  ∀x,I x->vc P b (xbd (fun s'=>∃x',I x'/\xvr s' (S x')/\μ x'<μ x) Q) (S x)
 | .exit id,Q,s=>Q (.exit id) s
 | .ret,Q,s=>Q .ret s
 | .bad,_,_=>False
end Go.Sy
namespace Go.Sy
variable [br]
theorem cL.mono{G O:GM}(J:∀b o v,G b o=some v->O b o=some v){s:SV}{v:Value}(h:cL G s v):cL O s v:=by
 induction h with
 |bool b=>exact .bool b
 |int k n=>exact .int k n
 |u8 b=>exact .u8 b
 |str l=>exact .str l
 |nilp=>exact .nilp
 |nili=>exact .nili
 |bytN t=>exact .bytN t
 |bytE t a=>exact .bytE t a
 |byt l t b off cap n hn I h=>exact .byt l t b off cap n hn I fun i hi=>J _ _ _ (h i hi)
 |lstN E t=>exact .lstN E t
 |lstE E t a=>exact .lstE E t a
 |lst E T t b off cap n val hn I Q F _ L=>exact .lst E T t b off cap n val hn I Q (fun i j hi y=>J _ _ _ (F i j hi y)) fun i j hi y=>L i j hi y
 |pp cs b off val F _ L=>exact .pp cs b off val (fun j y=>J _ _ _ (F j y)) fun j y=>L j y
theorem Lay.mono{G E:GM}(h:Lay G)(y:∀b o v,G b o=some v->E b o=some v):Lay E:=fun g cs L j F=>by obtain⟨v,I,J⟩:=h g cs L j F;exact⟨v,y _ _ _ I,J.mono y⟩
theorem dZ(lo hi:Nat)(cs:t8):SV.purgeL lo hi cs=cs.map (SV.purge lo hi):=by
 induction cs with
 |nil=>simp[SV.purgeL]
 |cons c r h=>simp[SV.purgeL,h]
theorem fL(m mt:Nat->Nat)(cs:t8):SV.renL m mt cs=cs.map (SV.ren m mt):=by
 induction cs with
 |nil=>simp[SV.renL]
 |cons c r h=>simp[SV.renL,h]
theorem bg(f:SV->SV)(h:f .undef= .undef)(cs:t8)(i:Nat):(cs.map f).getD i .undef=f (cs.getD i .undef):=by simp only[aa,aT];cases cs[i]? <;>simp[h]
@[simp] theorem purge_undef (lo hi:Nat):SV.purge lo hi .undef= .undef:=by simp[SV.purge]
@[simp] theorem ren_undef (m mt:Nat->Nat):SV.ren m mt .undef= .undef:=by simp[SV.ren]
theorem cL.tok{G:GM}{s:SV}{v:Value}(h:cL G s v)(s':SV)
 (O:(∃l t y,s= .byt l t/\s'= .byt l y)\/(∃F I t y,s= .lst F I t/\s'= .lst F I y)):cL G s' v:=by
 rcases O with⟨l,t,y,rfl,rfl⟩|⟨F,I,t,y,rfl,rfl⟩
 ·cases h with
  |bytN=>exact .bytN _
  |bytE _ a=>exact .bytE _ a
  |byt _ _ b off cap n hn E h=>exact .byt _ _ b off cap n hn E h
 ·cases h with
  |lstN=>exact .lstN _ _
  |lstE _ _ a=>exact .lstE _ _ a
  |lst _ _ _ b off cap n val hn E L J h=>exact .lst _ _ _ b off cap n val hn E L J h
theorem dR.mono{x x':Sit}{lo hi y:Nat}{t:Tok}{v:Value}(E:∀o,¬(lo<=o/\o<hi)->x'.τ o=x.τ o)(h:dR x y t v):dR x' y (t.purge lo hi) v:=by
 cases t with
 |no=>trivial
 |clip=>exact h
 |id t=>
  simp only[Tok.purge];split
  ·trivial
  ·rename_i hn
   obtain⟨a,n,cap,F,I⟩:=h;refine⟨a,n,cap,F,I.imp id ?_⟩;rintro⟨b,off,L,J⟩;exact⟨b,off,L,by rw[E _ hn];exact J⟩
theorem Rep.mono{x x':Sit}{lo hi:Nat}(hG:∀b o v,x.G b o=some v->x'.G b o=some v)(Q:∀o,¬(lo<=o/\o<hi)->x'.bk o=x.bk o)
 (hτ:∀o,¬(lo<=o/\o<hi)->x'.τ o=x.τ o) {s:SV} {v:Value} (h:Rep x s v):Rep x' (s.purge lo hi) v:=by
 induction h with
 |undef v=>simp only[purge_undef];exact .undef v
 |dat s v h ht=>
  have y:=h.mono hG;cases s with
  |byt l t=>simp only[SV.purge];exact .dat _ _ (y.tok _ (.inl ⟨l,t,_,rfl,rfl⟩)) (dR.mono hτ ht)
  |lst E xs t=>simp only[SV.purge];exact .dat _ _ (y.tok _ (.inr ⟨E,xs,t,_,rfl,rfl⟩)) (dR.mono hτ ht)
  |undef=>simp only[SV.purge];exact .undef v
  |bool b=>simp only[SV.purge];exact .dat _ _ y trivial
  |int k n=>simp only[SV.purge];exact .dat _ _ y trivial
  |u8 b=>simp only[SV.purge];exact .dat _ _ y trivial
  |str l=>simp only[SV.purge];exact .dat _ _ y trivial
  |nilp=>simp only[SV.purge];exact .dat _ _ y trivial
  |nili=>simp only[SV.purge];exact .dat _ _ y trivial
  |pp cs=>simp only[SV.purge];exact .dat _ _ y trivial
  |ptr o off=>cases h
  |ap o E i j=>cases h
  |psl o E off n cap=>cases h
  |agg cs=>cases h
  |tup cs=>cases h
  |fn f a b=>cases h
 |ptr o off=>
  simp only[SV.purge];split
  ·exact .undef _
  ·rename_i hn;rw[<-Q o hn];exact .ptr o off
 |ap o E i j=>
  simp only[SV.purge];split
  ·exact .undef _
  ·rename_i hn;rw[<-Q o hn];exact .ap o E i j
 |psl o E off n cap I J h a1 W F=>
  simp only[SV.purge];split
  ·exact .undef _
  ·rename_i hn;rw[<-Q o hn]at F ⊢;exact .psl o E off n cap I J h a1 W F
 |agg cs vs hl _ T=>simp only[SV.purge,dZ];exact .agg _ _ (by simpa using hl) fun i hi=>by rw[bg _ (by simp)];exact T i (by simpa using hi)
 |tup cs vs hl _ T=>simp only[SV.purge,dZ];exact .tup _ _ (by simpa using hl) fun i hi=>by rw[bg _ (by simp)];exact T i (by simpa using hi)
 |fn f c1 c2 v1 v2 O _ a2 _ Z L=>
  simp only[SV.purge,dZ]
  exact .fn _ _ _ _ _ (by simpa using O) (fun i hi=>by rw[bg _ (by simp)];exact Z i (by simpa using hi))
   (by simpa using a2) fun i hi=>by rw[bg _ (by simp)];exact L i (by simpa using hi)
theorem Fv(s:SV):s.purge 0 0=s:=by
 have h:∀t:Tok,t.purge 0 0=t:=fun t=>by cases t<;>simp[Tok.purge]
 refine SV.rec (motive_1:=fun s=>s.purge 0 0=s) (motive_2:=fun _=>True) (motive_3:=fun l=>SV.purgeL 0 0 l=l) ?_ ?_ ?_ ?_ ?_ ?_ ?_ ?_ ?_ ?_ ?_ ?_ ?_ ?_ ?_ ?_ ?_ ?_ ?_ ?_ s<;>
  intros<;>simp_all [SV.purge,SV.purgeL]
theorem J6(l:t8):SV.purgeL 0 0 l=l:=by
 rw[dZ];induction l with
 |nil=>rfl
 |cons c r h=>simp[Fv,h]
theorem J5(l:List (Nat×aH)):bP 0 0 l=l:=by
 induction l with
 |nil=>rfl
 |cons q r h=>simp only[bP];rw[if_neg (by omega),h];obtain⟨n,o⟩:=q;cases o<;>simp[aH.purge,J6]
theorem Rep.grow{x x':Sit}(y:∀b o v,x.G b o=some v->x'.G b o=some v)(I:x'.bk=x.bk)(E:x'.τ=x.τ){s:SV}{v:Value}(h:Rep x s v):Rep x' s v:=by have F:=h.mono (x':=x') (lo:=0) (hi:=0) y (fun o _=>by rw[I]) (fun o _=>by rw[E]);rwa[Fv]at F
theorem cE.mono{x x':Sit}{lo hi:Nat}(y:∀b o v,x.G b o=some v->x'.G b o=some v)(F:∀o,¬(lo<=o/\o<hi)->x'.bk o=x.bk o)
 (E:∀o,¬(lo<=o/\o<hi)->x'.τ o=x.τ o) {cs:t8} {vs:LAc} (h:cE x cs vs):cE x' (SV.purgeL lo hi cs) vs:=by
 refine⟨by rw[dZ];simpa using h.1,fun i hi=> ?_⟩;rw[dZ,bg _ (by simp)];exact(h.2 i (by rw[dZ]at hi;simpa using hi)).mono y F E
theorem cE.grow{x x':Sit}(y:∀b o v,x.G b o=some v->x'.G b o=some v)(F:x'.bk=x.bk)(E:x'.τ=x.τ){cs:t8}{vs:LAc}(h:cE x cs vs):cE x' cs vs:=
 ⟨h.1,fun i hi=>(h.2 i hi).grow y F E⟩
theorem Rep.data{x:Sit}{s:SV}{v:Value}(h:Rep x s v)(y:s.isData=true):cL x.G s v:=by
 cases h with
 |dat _ _ h _=>exact h
 |_=>simp[SV.isData]at y
theorem cL.rep{x:Sit}{s:SV}{v:Value}(h:cL x.G s v):Rep x s.data v:=by
 cases h with
 |byt l t b off cap n hn E h=>exact .dat _ _ (.byt l _ b off cap n hn E h) trivial
 |bytN t=>exact .dat _ _ (.bytN _) trivial
 |bytE t a=>exact .dat _ _ (.bytE _ a) trivial
 |lstN F t=>exact .dat _ _ (.lstN _ _) trivial
 |lstE F t a=>exact .dat _ _ (.lstE _ _ a) trivial
 |lst F J t b off cap n val hn E I y h=>exact .dat _ _ (.lst _ _ _ b off cap n val hn E I y h) trivial
 |bool b=>exact .dat _ _ (.bool b) trivial
 |int k n=>exact .dat _ _ (.int k n) trivial
 |u8 b=>exact .dat _ _ (.u8 b) trivial
 |str l=>exact .dat _ _ (.str l) trivial
 |nilp=>exact .dat _ _ .nilp trivial
 |nili=>exact .dat _ _ .nili trivial
 |pp cs b off val y h=>exact .dat _ _ (.pp cs b off val y h) trivial
theorem cL.toData{G:GM}{s:SV}{v:Value}(h:cL G s v):cL G s.data v:=by
 cases h with
 |byt l t b off cap n hn E h=>exact .byt l _ b off cap n hn E h
 |bytN t=>exact .bytN _
 |bytE t a=>exact .bytE _ a
 |lstN F t=>exact .lstN _ _
 |lstE F t a=>exact .lstE _ _ a
 |lst F J t b off cap n val hn E I y h=>exact .lst _ _ _ b off cap n val hn E I y h
 |bool b=>exact .bool b
 |int k n=>exact .int k n
 |u8 b=>exact .u8 b
 |str l=>exact .str l
 |nilp=>exact .nilp
 |nili=>exact .nili
 |pp cs b off val y h=>exact .pp cs b off val y h
theorem cG{lo hi:Nat}{ob:List (Nat×aH)}{p:Nat×aH}(h:p∈bP lo hi ob):
 ¬(lo<=p.1/\p.1<hi)/\∃o,(p.1,o)∈ob/\p.2=o.purge lo hi:=by
 induction ob with
 |nil=>simp[bP]at h
 |cons q r I=>
  simp only[bP]at h;split at h
  ·obtain⟨E,o,F,y⟩:=I h;exact⟨E,o,aw _ F,y⟩
  ·rename_i J
   rcases av.1 h with rfl|h
   ·exact⟨J,q.2,aB ..,rfl⟩
   ·obtain⟨E,o,F,y⟩:=I h;exact⟨E,o,aw _ F,y⟩
theorem fy{lo hi:Nat}(ob:List (Nat×aH)):(bP lo hi ob).map cS=(ob.map cS).filter fun o=>decide (¬(lo<=o/\o<hi)):=by
 induction ob with
 |nil=>simp[bP]
 |cons q r y=>
  simp only[bP,aI,fe];split<;>rename_i h
  ·rw[y,if_neg (by simp;omega)]
  ·rw[if_pos (by simp;omega),aI,y]
theorem bU{lo hi t:Nat}{tk:LAa}:t∈cJ lo hi tk↔t∈tk/\¬(lo<=t/\t<hi):=by
 induction tk with
 |nil=>simp[cJ]
 |cons u r h=>
  simp only[cJ];split<;>rename_i hu
  ·rw[h,av];constructor
   ·rintro⟨a,b⟩;exact⟨.inr a,b⟩
   ·rintro⟨a|a,b⟩
    ·subst a;exact absurd hu b
    ·exact⟨a,b⟩
  ·rw[av,h,av];constructor
   ·rintro(rfl|⟨a,b⟩)
    ·exact⟨.inl rfl,hu⟩
    ·exact⟨.inr a,b⟩
   ·rintro⟨a|a,b⟩
    ·exact .inl a
    ·exact .inr ⟨a,b⟩
end Go.Sy
namespace Go.Sy
variable [br]
theorem AX{w:World}{b:Nat}{o:Obj}(h:w.heap[b]? =some o):b<w.heap.size:=by
 rcases bK b w.heap.size with y|y
 ·exact y
 ·simp[Array.getElem?_eq_none y]at h
theorem dO{w:World}{o:Obj}{b:Nat}(h:b<w.heap.size):(w.alloc o).heap[b]? =w.heap[b]? :=by show(w.heap.push o)[b]? =_;rw[Array.getElem?_push,if_neg (by omega)]
theorem heap_alloc_new{w:World}{o:Obj}:(w.alloc o).heap[w.heap.size]? =some o:=by show(w.heap.push o)[w.heap.size]? =_;rw[Array.getElem?_push,if_pos rfl]
theorem eS.lt{w:World}{b:Nat}{c:LAd}{e:TypeId}{fl fh:Nat}(h:eS w b c e fl fh):b<w.heap.size:=AX h.1
theorem eS.of_heap{w w':World}{b:Nat}{c:LAd}{e:TypeId}{fl fh:Nat}(h:eS w b c e fl fh)(y:w'.heap[b]? =w.heap[b]?):eS w' b c e fl fh:=⟨y.trans h.1,h.2⟩
theorem dQ{w w':World}{b o:Nat}(h:w'.heap[b]? =w.heap[b]?):w'.cell? ⟨b,o,none⟩=w.cell? ⟨b,o,none⟩:=by simp only[World.cell?,h]
theorem eS.cell{w:World}{b:Nat}{c:LAd}{e:TypeId}{fl fh:Nat}(h:eS w b c e fl fh)(o:Nat):w.cell? ⟨b,o,none⟩=c[o]? :=by simp[World.cell?,h.1]
theorem eS.free{w:World}{b:Nat}{c:LAd}{e:TypeId}{fl fh:Nat}(h:eS w b c e fl fh){o:Nat}(y:o<c.size):w.frozen? ⟨b,o,none⟩=false:=by simp only[World.frozen?,h.1];have:=h.2 o y;simpa using this
theorem dj.ltG{C:Ctx}{x:Sit}{ob:List (Nat×aH)}{tk:LAa}{w:World}(h:dj C x ob tk w){b o:Nat}{v:Value}(y:x.G b o=some v):b<w.heap.size:=by have:=h.per b o v y;exact World.block_lt_of_cell? (w:=w) (a:=⟨b,o,none⟩) this
theorem eA.of_heap{x x':Sit}{w w':World}{o:Nat}{obj:aH}{lo hi:Nat}(h:eA x w o obj)(Q:w'.heap[(x.bk o).1]? =w.heap[(x.bk o).1]?)
 (E:∀b o v,x.G b o=some v->x'.G b o=some v) (I:∀o,¬(lo<=o/\o<hi)->x'.bk o=x.bk o) (T:∀o,¬(lo<=o/\o<hi)->x'.τ o=x.τ o)
 (O:¬(lo<=o/\o<hi)):eA x' w' o (obj.purge lo hi):=by
 obtain⟨c,e,fl,fh,W,⟨Z,y,L⟩,J⟩:=h;refine⟨c,e,fl,fh,by rw[I o O];exact W.of_heap Q,⟨?_,by rw[I o O];exact y,by cases obj<;>exact L⟩, ?_⟩
 ·cases obj<;>simpa[aH.purge,aH.size,dZ]using Z
 ·intro k F
  cases obj with
  |rc cs=>simp only[aH.purge,cx,dZ];rw[bg _ (by simp)];exact(J k (by simpa[aH.purge,aH.size,dZ]using F)).mono E I T
  |arr sz xs=>exact(J k F).mono E
  |bar l=>exact(J k F).mono E
theorem dj.congr{C:Ctx}{x:Sit}{ob:List (Nat×aH)}{tk:LAa}{w w':World}(h:dj C x ob tk w)(E:w'.heap=w.heap)(T:w'.os=w.os)(I:w'.tape=w.tape)
 (y:w'.output=w.output):dj C x ob tk w':=by
 have O:∀a,w'.cell? a=w.cell? a:=fun a=>by simp only[World.cell?,E]
 refine⟨fun b o v L=>by rw[O];exact h.per b o v L,h.g0,h.gm,h.new, ?_,h.nd,h.inj, ?_,h.tko,h.tkd,T.trans h.os,I.trans h.tape,y.trans h.output,by rw[E];exact h.size,fun b J=>by rw[E];exact h.ext b J,h.pin,h.lay⟩
 ·intro p Q
  obtain⟨⟨c,e,fl,fh,F,r⟩,q⟩:=h.obs p Q;exact⟨⟨c,e,fl,fh,F.of_heap (by rw[E]),r⟩,q⟩
 ·intro t I
  exact(h.tks t I).imp id fun⟨⟨c,e,fl,fh,F,r⟩,q⟩=>⟨⟨c,e,fl,fh,F.of_heap (by rw[E]),r⟩,q⟩
theorem dj.drew{C:Ctx}{x:Sit}{ob:List (Nat×aH)}{tk:LAa}{w:World}(h:dj C x ob tk w):dj C x ob tk w.drew:=h.congr rfl rfl rfl rfl
theorem dj.drawn{C:Ctx}{x:Sit}{ob:List (Nat×aH)}{tk:LAa}{w:World}(h:dj C x ob tk w)(n:Nat):dj C x ob tk {w with drawn:=n}:=h.congr rfl rfl rfl rfl
def Sit.newO(x:Sit)(d b:Nat)(k:Nat:=0):Sit:= {x with bk:=fun o=>if o=d then(b,k)else x.bk o}
theorem Sit.newO_ne(x:Sit)(d b:Nat){k:Nat}(o:Nat)(h:¬(d<=o/\o<d+1)):(x.newO d b k).bk o=x.bk o:=if_neg (by omega)
theorem dj.allocO{C:Ctx}{x:Sit}{ob:List (Nat×aH)}{tk:LAa}{w:World}(h:dj C x ob tk w)(d:Nat)(a8:100<=d){c:LAd}{e:TypeId}{fl fh:Nat}(obj:aH)
 (hf:∀i,i<c.size->¬(fl<=i/\i<fh)) (hs:obj.size<=c.size) (hr:∀k,k<obj.size->cx x obj k (c.getD k undef)) {K:Nat} (hK:K<=c.size) (b0:obj.arrB=true->¬(fl<=c.size/\c.size<fh)):
 dj C (x.newO d w.heap.size K) ((d,obj.purge d (d+1))::bP d (d+1) ob) (cJ d (d+1) tk) (w.alloc (.cells c e (fl,fh))):=by
 have hβ:=Sit.newO_ne x d w.heap.size (k:=K)
 have Z:∀off,x.G w.heap.size off=none:=by
  intro off;cases hg:x.G w.heap.size off with
  |none=>rfl
  |some v=>exact absurd (h.ltG hg) (by omega)
 have F:∀p∈bP d (d+1) ob,p.1≠d/\(x.newO d w.heap.size K).bk p.1=x.bk p.1/\(x.bk p.1).1<w.heap.size:=by intro p y;obtain⟨h1,o,O,_⟩:=cG y;obtain⟨⟨c,e,fl,fh,T,_⟩,_⟩:=h.obs _ O;exact⟨by omega,hβ _ h1,T.lt⟩
 have a6:(x.newO d w.heap.size K).bk d=(w.heap.size,K):=if_pos rfl;have hd:((x.newO d w.heap.size K).bk d).1=w.heap.size:=by rw[a6]
 refine⟨?_,h.g0,h.gm,h.new, ?_, ?_, ?_, ?_, ?_, ?_,h.os,h.tape,h.output, ?_, ?_,fun i hi=>by rw[hβ i (by omega)];exact h.pin i hi,h.lay⟩
 ·intro b o v Q
  rw[dQ (dO (h.ltG Q))];exact h.per b o v Q
 ·intro p y
  rcases av.1 y with rfl|y
  ·refine⟨⟨c,e,fl,fh,⟨by rw[hd];exact heap_alloc_new,hf⟩,⟨?_,by rw[a6];exact hK,by cases obj<;>exact b0⟩, ?_⟩, ?_, ?_⟩
   ·cases obj<;>simpa[aH.purge,aH.size,dZ]using hs
   ·intro k hk
    cases obj with
    |rc cs=>simp only[aH.purge,cx,dZ];rw[bg _ (by simp)];exact Rep.mono (x:=x) (x':=x.newO d w.heap.size K) (lo:=d) (hi:=d+1) (fun _ _ _ Q=>Q) hβ (fun _ _=>rfl) (hr k (by simpa[aH.purge,aH.size,dZ]using hk))
    |arr sz xs=>exact hr k hk
    |bar l=>exact hr k hk
   ·rw[hd];exact h.new _ h.size
   ·intro off;rw[hd];exact Z off
  ·obtain⟨h1,o,O,h3⟩:=cG y
   obtain⟨a1,hm,hg⟩:=h.obs _ O;obtain⟨b1,E,L⟩:=F p y;refine⟨?_,by rw[E];exact hm,fun off=>by rw[E];exact hg off⟩;rw[h3];exact a1.of_heap (dO L) (fun _ _ _ Q=>Q) hβ (fun _ _=>rfl) h1
 ·rw[aI,eB,fy]
  refine⟨?_,h.nd.filter _⟩;simp
 ·intro p y q hq J
  rcases av.1 y with rfl|y<;>rcases av.1 hq with rfl|hq
  ·rfl
  ·obtain⟨_,E,L⟩:=F q hq
   rw[hd,E]at J;omega
  ·obtain⟨_,E,L⟩:=F p y
   rw[hd,E]at J;omega
  ·obtain⟨_,E,_⟩:=F q hq
   obtain⟨_,a2,_⟩:=F p y;obtain⟨_,o,O,_⟩:=cG y;obtain⟨_,o',a7,_⟩:=cG hq;rw[E,a2]at J;exact h.inj (_,o) O (_,o') a7 J
 ·intro t I
  obtain⟨I,_⟩:=bU.1 I;exact(h.tks t I).imp id fun⟨⟨c,e,fl,fh,T,r⟩,q⟩=>⟨⟨c,e,fl,fh,T.of_heap (dO T.lt),r⟩,q⟩
 ·intro t I p y
  obtain⟨I,_⟩:=bU.1 I;rcases av.1 y with rfl|y
  ·rcases h.tks t I with W|⟨⟨c,e,fl,fh,T,r⟩,q⟩
   ·exact .inr W
   ·refine .inl ?_
    rw[hd];have:=T.lt;show(x.τ t).1≠_;omega
  ·obtain⟨_,o,O,_⟩:=cG y
   rw[(F p y).2.1];exact h.tko t I (_,o) O
 ·intro t I u hu
  exact h.tkd t (bU.1 I).1 u (bU.1 hu).1
 ·have:=h.size;rw[World.size_alloc];omega
 ·intro b hb
  rw[dO,h.ext b hb];rcases bK b w.heap.size with W|W
  ·exact W
  ·exact absurd (h.new b (mC h.size W)) hb
def Sit.newD(x:Sit)(b:Nat)(c:LAd)(n:Nat):Sit:= {x with G:=fun h o=>if h=b/\o<n then c[o]? else x.G h o}
theorem dj.newD_le{C:Ctx}{x:Sit}{ob:List (Nat×aH)}{tk:LAa}{w:World}(h:dj C x ob tk w)(c:LAd)(n:Nat):
 ∀b o v,x.G b o=some v->(x.newD w.heap.size c n).G b o=some v:=by
 intro b o v y;have:=h.ltG y;simp only[Sit.newD];rw[if_neg (by omega)];exact y
theorem dj.allocD{C:Ctx}{x:Sit}{ob:List (Nat×aH)}{tk:LAa}{w:World}(h:dj C x ob tk w){c:LAd}{e:TypeId}{fl fh:Nat}(n:Nat):
 dj C (x.newD w.heap.size c n) ob tk (w.alloc (.cells c e (fl,fh))):=by
 have I:=h.newD_le c n
 have y:∀b,b≠w.heap.size->∀o,(x.newD w.heap.size c n).G b o=x.G b o:=by intro b F o;simp only[Sit.newD];rw[if_neg (by rintro⟨Q,_⟩;exact F Q)]
 refine⟨?_,fun b o v E=>I b o v (h.g0 b o v E), ?_,h.new, ?_,h.nd,h.inj, ?_,h.tko,h.tkd,h.os,h.tape,h.output, ?_, ?_,h.pin,h.lay⟩
 ·intro b o v E
  by_cases F:b=w.heap.size
  ·subst F
   simp only[Sit.newD]at E;split at E
   ·simp only[World.cell?,heap_alloc_new];simpa using E
   ·exact absurd (h.ltG E) (by omega)
  ·rw[y b F]at E
   rw[dQ (dO (h.ltG E))];exact h.per b o v E
 ·intro b o v E
  by_cases F:b=w.heap.size
  ·right;rw[F];exact h.new _ h.size
  ·rw[y b F]at E;exact h.gm b o v E
 ·intro p hp
  obtain⟨Q,hm,hg⟩:=h.obs p hp;have Z:(x.bk p.1).1<w.heap.size:=by obtain⟨c,e,fl,fh,O,_⟩:=Q;exact O.lt
  refine⟨?_,hm,fun off=>by rw[show(x.newD w.heap.size c n).bk p.1=x.bk p.1 from rfl,y _ (by omega)];exact hg off⟩;obtain⟨c',T,L,J,O,hs,hr⟩:=Q;refine⟨c',T,L,J,O.of_heap (dO Z),hs,fun k hk=> ?_⟩;have:=hr k hk;generalize p.2=obj at*;cases obj with
  |rc cs=>exact Rep.grow I rfl rfl this
  |arr sz xs=>exact cL.mono I this
  |bar l=>exact cL.mono I this
 ·intro t ht
  refine(h.tks t ht).imp id ?_;rintro⟨⟨c',T,L,J,O,r⟩,q,g⟩;refine⟨⟨c',T,L,J,O.of_heap (dO O.lt),r⟩,q,fun o Q h2=> ?_⟩;rw[show((x.newD w.heap.size c n).τ t).1=(x.τ t).1 from rfl,y _ (by have:=O.lt;omega)];exact g o Q h2
 ·have:=h.size;rw[World.size_alloc];omega
 ·intro b F
  rw[dO,h.ext b F];rcases bK b w.heap.size with W|W
  ·exact W
  ·exact absurd (h.new b (mC h.size W)) F
def Sit.newT(x:Sit)(d b lo hi:Nat):Sit:= {x with τ:=fun t=>if t=d then(b,lo,hi)else x.τ t}
theorem Sit.newT_ne(x:Sit)(d b lo hi:Nat)(o:Nat)(h:¬(d<=o/\o<d+1)):(x.newT d b lo hi).τ o=x.τ o:=if_neg (by omega)
theorem Sit.newT_eq(x:Sit)(d b lo hi:Nat):(x.newT d b lo hi).τ d=(b,lo,hi):=if_pos rfl
theorem dj.addT{C:Ctx}{x:Sit}{ob:List (Nat×aH)}{tk:LAa}{w:World}(h:dj C x ob tk w)(d b lo hi:Nat)
 (hv:lo=hi\/((∃c e fl fh,eS w b c e fl fh/\hi<=c.size)/\C.mine b/\∀o,lo<=o->o<hi->x.G b o=none))
 (I:lo=hi\/∀p∈ob,p.1≠d->b≠(x.bk p.1).1) (y:lo=hi\/∀t∈tk,t≠d->mB (b,lo,hi) (x.τ t)\/(x.τ t).2.1=(x.τ t).2.2):
 dj C (x.newT d b lo hi) (bP d (d+1) ob) (d::cJ d (d+1) tk) w:=by
 have L:=Sit.newT_ne x d b lo hi;have hd:=Sit.newT_eq x d b lo hi;refine⟨h.per,h.g0,h.gm,h.new, ?_, ?_, ?_, ?_, ?_, ?_,h.os,h.tape,h.output,h.size,h.ext,h.pin,h.lay⟩
 ·intro p Z
  obtain⟨h1,o,O,h3⟩:=cG Z;obtain⟨Q,hm,hg⟩:=h.obs _ O;exact⟨by rw[h3];exact Q.of_heap rfl (fun _ _ _ hv=>hv) (fun _ _=>rfl) L h1,hm,hg⟩
 ·rw[fy];exact h.nd.filter _
 ·intro p Z q hq a1
  obtain⟨_,o,O,_⟩:=cG Z;obtain⟨_,o',a2,_⟩:=cG hq;exact h.inj (_,o) O (_,o') a2 a1
 ·intro t E
  rcases av.1 E with rfl|E
  ·unfold iR;rw[hd];exact hv
  ·obtain⟨E,F⟩:=bU.1 E
   unfold iR;rw[L _ F];exact h.tks t E
 ·intro t E p Z
  obtain⟨h1,o,O,_⟩:=cG Z;rcases av.1 E with rfl|E
  ·rw[hd]
   rcases I with I|I
   ·exact .inr I
   ·exact .inl (I (_,o) O (by show p.1≠t;omega))
  ·obtain⟨E,F⟩:=bU.1 E
   rw[L _ F];exact h.tko t E (_,o) O
 ·intro t E u hu T
  rcases av.1 E with rfl|E<;>rcases av.1 hu with rfl|hu
  ·exact absurd rfl T
  ·obtain⟨hu,F⟩:=bU.1 hu
   rw[hd,L _ F];rcases y with y|y
   ·exact .inr (.inl y)
   ·rcases y u hu (by omega)with J|J
    ·exact .inl J
    ·exact .inr (.inr J)
  ·obtain⟨E,F⟩:=bU.1 E
   rw[hd,L _ F];rcases y with y|y
   ·exact .inr (.inr y)
   ·rcases y t E (by omega)with J|J
    ·refine .inl ?_
     unfold mB at*;exact fun e=>J e.symm
    ·exact .inr (.inl J)
  ·obtain⟨E,F⟩:=bU.1 E
   obtain⟨hu,W⟩:=bU.1 hu;rw[L _ F,L _ W];exact h.tkd t E u hu T
end Go.Sy
namespace Go.Sy
variable [br]
def cd(w:World)(b off:Nat):LAc->World
 |[]=>w
 |v::r=>cd (w.setCell ⟨b,off,none⟩ v) b (off+1) r
theorem vd(w:World)(a:Addr)(v:Value):(w.setCell a v).os=w.os/\(w.setCell a v).tape=w.tape/\(w.setCell a v).output=w.output/\(w.setCell a v).heap.size=w.heap.size:=
 ⟨rfl,rfl,rfl,by simp⟩
theorem dM(b:Nat)(vs:LAc):∀(w:World)(off:Nat),(cd w b off vs).os=w.os/\(cd w b off vs).tape=w.tape/\(cd w b off vs).output=w.output/\
 (cd w b off vs).heap.size=w.heap.size/\(∀h,h≠b->(cd w b off vs).heap[h]? =w.heap[h]?):=by
 induction vs with
 |nil=>intro w off;exact⟨rfl,rfl,rfl,rfl,fun _ _=>rfl⟩
 |cons v r T=>intro w off;obtain⟨O,Q,E,F,J⟩:=T (w.setCell ⟨b,off,none⟩ v) (off+1);obtain⟨W,L,I,Z⟩:=vd w ⟨b,off,none⟩ v;refine⟨O.trans W,Q.trans L,E.trans I,F.trans Z,fun h y=> ?_⟩;rw[cd,J h y];exact Go.RowKit.Below.heap_setCell _ _ _ _ y
theorem qO(c:LAd)(i k:Nat)(v:Value)(h:i<c.size):(c.setIfInBounds i v).getD k undef=if k=i then v else c.getD k undef:=by
 simp only[aS,Array.getElem?_setIfInBounds]
 by_cases y:i=k
 ·subst y;simp[h]
 ·rw[if_neg y,if_neg (fun e=>y e.symm)]
theorem dv{b:Nat}{e:TypeId}{fl fh:Nat}(vs:LAc):∀(w:World)(off:Nat)(c:LAd),eS w b c e fl fh->off+vs.length<=c.size->
 ∃y,eS (cd w b off vs) b y e fl fh/\y.size=c.size/\∀k,y.getD k undef=if off<=k/\k<off+vs.length then vs.getD (k-off) undef else c.getD k undef:=by
 induction vs with
 |nil=>intro w off c h _;exact⟨c,h,rfl,fun k=>by rw[if_neg (by simp only[aA];omega)]⟩
 |cons v r O=>
  intro w off c h Q;simp only[al]at Q
  have E:eS (w.setCell ⟨b,off,none⟩ v) b (c.setIfInBounds off v) e fl fh:=by refine⟨?_,by simpa using h.2⟩;simp only[World.setCell,Array.getElem?_modify];rw[if_pos trivial,h.1];simp
  obtain⟨y,J,F,L⟩:=O _ (off+1) _ E (by simp;omega);refine⟨y,J,by simpa using F,fun k=> ?_⟩;rw[L k];simp only[al]
  by_cases E:k=off
  ·subst E
   rw[if_neg (by omega),if_pos (by omega),qO _ _ _ _ (by omega),if_pos rfl];simp
  ·by_cases I:off+1<=k/\k<off+1+r.length
   ·rw[if_pos I,if_pos (by omega)]
    rw[show k-off=(k-(off+1))+1 from by omega];simp
   ·rw[if_neg I,if_neg (by omega),qO _ _ _ _ (by omega),if_neg E]
theorem dD(b off n:Nat):(⟨b,off,none⟩:Addr).add n=⟨b,off+n,none⟩:=by
 unfold Addr.add;split
 ·rename_i h;subst h;rfl
 ·rfl
theorem fZ{P:Program}{b:Nat}{e:TypeId}{fl fh:Nat}(off:Nat)(vs:LAc):∀(w:World)(c:LAd)(i:Nat),eS w b c e fl fh->off+i+vs.length<=c.size->
 (∀v∈vs,v.oneCell'=true)->(storeCells ⟨b,off,none⟩ vs i).run P w= .ok () (cd w b (off+i) vs):=by
 induction vs with
 |nil=>intro w c i _ _ _;rfl
 |cons v r I=>
  intro w c i h J E;simp only[al]at J
  have F:eS (w.setCell ⟨b,off+i,none⟩ v) b (c.setIfInBounds (off+i) v) e fl fh:=by refine⟨?_,by simpa using h.2⟩;simp only[World.setCell,Array.getElem?_modify];rw[if_pos trivial,h.1];simp
  have y:w.cell? ⟨b,off+i,none⟩=some (c[off+i]'(by omega)):=by rw[h.cell];exact cy _
  simp only[storeCells,aD,dD,run_store P w _ v _ (E v (by simp)),y,h.free (o:=off+i) (by omega),aO,if_false,an];rw[I _ _ (i+1) F (by simp;omega) (fun u hu=>E u (aw _ hu))];rfl
theorem nH{d:Nat}{o:aH}{ob:List (Nat×aH)}(y:(ob.map cS).Nodup){p:Nat×aH}(h:p∈setO d o ob):(p=(d,o)/\d∈ob.map cS)\/(p∈ob/\p.1≠d):=by
 induction ob with
 |nil=>simp[setO]at h
 |cons q r J=>
  simp only[aI,eB]at y;simp only[setO]at h;split at h<;>rename_i F
  ·rcases av.1 h with rfl|h
   ·exact .inl ⟨rfl,by simp[F]⟩
   ·refine .inr ⟨aw _ h,fun e=>y.1 ?_⟩
    rw[F,<-e];exact jf h
  ·rcases av.1 h with rfl|h
   ·exact .inr ⟨aB ..,F⟩
   ·rcases J y.2 h with⟨E,I⟩|⟨E,I⟩
    ·exact .inl ⟨E,by simp[I]⟩
    ·exact .inr ⟨aw _ E,I⟩
theorem KM{d:Nat}{o:aH}(ob:List (Nat×aH)):(setO d o ob).map cS=ob.map cS:=by
 induction ob with
 |nil=>rfl
 |cons q r h=>
  simp only[setO];split<;>rename_i y
  ·simp[y]
  ·simp[h]
theorem dr{s:St}{o:Nat}{obj:aH}(h:s.look o=some obj):(o,obj)∈s.ob:=by
 unfold St.look at h;generalize s.ob=l at h;induction l with
 |nil=>simp at h
 |cons p r E=>
  rw[show p=(p.1,p.2)from rfl,List.lookup_cons]at h;split at h
  ·rename_i y
   have:o=p.1:=by simpa using y
   subst this;simp at h;subst h;simp
  ·exact aw _ (E h)
theorem dj.block{C:Ctx}{x:Sit}{ob:List (Nat×aH)}{tk:LAa}{w w':World}(h:dj C x ob tk w){d:Nat}{obj obj':aH}(hd:(d,obj)∈ob)
 (ho:w'.os=w.os) (J:w'.tape=w.tape) (T:w'.output=w.output) (a1:w'.heap.size=w.heap.size) (Z:∀b,b≠(x.bk d).1->w'.heap[b]? =w.heap[b]?)
 (hr:eA x w' d obj'):dj C x (setO d obj' ob) tk w':=by
 obtain⟨_,Q,W⟩:=h.obs _ hd;have L:∀p∈ob,p.1≠d->(x.bk p.1).1≠(x.bk d).1:=fun p y E e=>E (h.inj p y _ hd e)
 refine⟨?_,h.g0,h.gm,h.new, ?_,by rw[KM];exact h.nd, ?_, ?_, ?_,h.tkd,ho.trans h.os,J.trans h.tape,T.trans h.output,by rw[a1];exact h.size, ?_,h.pin,h.lay⟩
 ·intro b o v hv
  have:b≠(x.bk d).1:=by rintro rfl;simp[W]at hv
  rw[dQ (Z b this)];exact h.per b o v hv
 ·intro p y
  rcases nH h.nd y with⟨rfl,_⟩|⟨y,E⟩
  ·exact⟨hr,Q,W⟩
  ·obtain⟨⟨c,e,fl,fh,hO,r⟩,q⟩:=h.obs p y
   exact⟨⟨c,e,fl,fh,hO.of_heap (Z _ (L p y E)),r⟩,q⟩
 ·intro p y q hq F
  rcases nH h.nd y with⟨rfl,_⟩|⟨y,E⟩<;>rcases nH h.nd hq with⟨rfl,_⟩|⟨hq,hqd⟩
  ·rfl
  ·exact absurd F.symm (L q hq hqd)
  ·exact absurd F (L p y E)
  ·exact h.inj p y q hq F
 ·intro t J
  rcases h.tks t J with h'|⟨⟨c,e,fl,fh,hO,r⟩,q⟩
  ·exact .inl h'
  ·rcases h.tko t J _ hd with I|I
   ·exact .inr ⟨⟨c,e,fl,fh,hO.of_heap (Z _ I),r⟩,q⟩
   ·exact .inl I
 ·intro t J p y
  rcases nH h.nd y with⟨rfl,_⟩|⟨y,_⟩
  ·exact h.tko t J (d,obj) hd
  ·exact h.tko t J p y
 ·intro b O
  rw[Z b (fun e=>O (e ▸ Q))];exact h.ext b O
def Sit.fill(x:Sit)(b lo:Nat)(vs:LAc):Sit:= {x with G:=fun h o=>if h=b/\lo<=o/\o<lo+vs.length then some (vs.getD (o-lo) undef)else x.G h o}
theorem dj.fill{C:Ctx}{x:Sit}{ob:List (Nat×aH)}{tk:LAa}{w:World}(h:dj C x ob tk w){t:Nat}(ht:t∈tk){b lo hi:Nat}(hτ:x.τ t=(b,lo,hi))
 (vs:LAc) (c5:lo+vs.length<=hi) (h0:0<vs.length):
 (∀F o v,x.G F o=some v->(x.fill b lo vs).G F o=some v)/\dj C (x.fill b lo vs) ob (cJ t (t+1) tk) (cd w b lo vs)/\
 (∃c e fl fh,eS (cd w b lo vs) b c e fl fh/\hi<=c.size)/\C.mine b/\(∀o,lo+vs.length<=o->o<hi->(x.fill b lo vs).G b o=none)/\
 (∀p∈ob,b≠(x.bk p.1).1)/\(∀u∈cJ t (t+1) tk,mB (b,lo+vs.length,hi) (x.τ u)\/(x.τ u).2.1=(x.τ u).2.2)/\(∃c e fl fh,eS w b c e fl fh/\hi<=c.size):=by
 have L:=h.tks t ht;unfold iR at L;rw[hτ]at L;rcases L with L|⟨⟨c,e,fl,fh,hO,hc⟩,hm,hg⟩
 ·simp only at L;omega
 simp only at hc hm hg hO;obtain⟨g1,g2,g3,g4,g5⟩:=dM b vs w lo;obtain⟨c',a6,b3,c3⟩:=dv vs w lo c hO (by omega)
 have a8:∀p∈ob,b≠(x.bk p.1).1:=by
  intro p hp;have:=h.tko t ht p hp;rw[hτ]at this;rcases this with h'|h'
  ·exact h'
  ·simp only at h';omega
 have O:∀F o v,x.G F o=some v->(x.fill b lo vs).G F o=some v:=by
  intro F o v E;simp only[Sit.fill];rw[if_neg ?_]
  ·exact E
  ·rintro⟨rfl,I,h2⟩
   rw[hg o I (by omega)]at E;cases E
 refine⟨O,⟨?_,fun b o v E=>O b o v (h.g0 b o v E), ?_,h.new, ?_,h.nd,h.inj, ?_, ?_, ?_,g1.trans h.os,g2.trans h.tape,g3.trans h.output,by rw[g4];exact h.size, ?_,h.pin,h.lay⟩,
  ⟨c',e,fl,fh,a6,by omega⟩,hm, ?_,a8, ?_,⟨c,e,fl,fh,hO,hc⟩⟩
 ·intro F o v E
  by_cases hb:F=b
  ·subst hb
   rw[a6.cell];simp only[Sit.fill]at E;have hk:=c3 o;split at E
   ·rename_i J
    rw[if_pos J.2]at hk;have ho:o<c'.size:=by omega
    rw[cy ho];have:c'.getD o undef=c'[o]:=by simp[lj,ho]
    rw[<-this,hk];exact E
   ·rename_i J
    have W:=h.per _ _ _ E;rw[hO.cell]at W
    have ho:o<c.size:=by
     rcases bK o c.size with h'|h'
     ·exact h'
     ·simp[Array.getElem?_eq_none h']at W
    rw[if_neg (by rintro⟨I,h2⟩;exact J ⟨trivial,I,h2⟩)]at hk;rw[cy (by omega)];have e1:c'.getD o undef=c'[o]'(by omega):=by simp[lj,show o<c'.size from by omega]
    have e2:c.getD o undef=c[o]:=by simp[lj,ho]
    rw[cy ho]at W;rw[<-e1,hk,e2];exact W
  ·rw[dQ (g5 F hb)]
   refine h.per F o v ?_;simp only[Sit.fill]at E;rwa[if_neg (by rintro⟨I,_⟩;exact hb I)]at E
 ·intro F o v E
  simp only[Sit.fill]at E;split at E
  ·rename_i J;right;rw[J.1];exact hm
  ·exact h.gm F o v E
 ·intro p hp
  obtain⟨I,b6,b5⟩:=h.obs p hp;have Z:=a8 p hp;refine⟨?_,b6,fun off=> ?_⟩
  ·obtain⟨c2,e2,a2,a1,Q,T,b7⟩:=I
   refine⟨c2,e2,a2,a1,Q.of_heap (g5 _ (fun e=>Z e.symm)),T,fun k hk=> ?_⟩;have:=b7 k hk;generalize p.2=obj at*;cases obj with
   |rc cs=>exact Rep.grow O rfl rfl this
   |arr sz xs=>exact cL.mono O this
   |bar l=>exact cL.mono O this
  ·simp only[Sit.fill]
   rw[if_neg (by rintro⟨I,_⟩;exact Z I.symm)];exact b5 off
 ·intro u hu
  obtain⟨hu,Z⟩:=bU.1 hu;have y:=h.tkd t ht u hu (by omega);rw[hτ]at y;refine(h.tks u hu).imp id ?_;rintro⟨⟨c2,e2,a2,a1,Q,T⟩,b4,b0⟩;refine⟨?_,b4,fun o I h2=> ?_⟩
  ·by_cases hb:(x.τ u).1=b
   ·rw[hb]at Q
    have e1:=Q.1.symm.trans hO.1;simp at e1;exact⟨c',e,fl,fh,by rw[show((x.fill b lo vs).τ u).1=b from hb];exact a6,by rw[b3,<-e1.1];exact T⟩
   ·exact⟨c2,e2,a2,a1,Q.of_heap (g5 _ hb),T⟩
  ·show(x.fill b lo vs).G (x.τ u).1 o=none
   simp only[Sit.fill];rw[if_neg ?_]
   ·exact b0 o I h2
   ·rintro⟨e1,e2,e3⟩
    change (x.τ u).2.1<=o at I;change o<(x.τ u).2.2 at h2;rcases y with y|y|y
    ·exact y e1.symm
    ·simp only at y;omega
    ·omega
 ·intro u hu p hp
  exact h.tko u (bU.1 hu).1 p hp
 ·intro u hu v E b1
  exact h.tkd u (bU.1 hu).1 v (bU.1 E).1 b1
 ·intro F a7
  rw[g5 F (fun e=>a7 (e ▸ hm))];exact h.ext F a7
 ·intro o I h2
  simp only[Sit.fill];rw[if_neg (by rintro⟨_,_,h3⟩;omega)];exact hg o (by omega) h2
 ·intro u hu
  obtain⟨hu,Z⟩:=bU.1 hu;have y:=h.tkd t ht u hu (by omega);rw[hτ]at y;unfold mB at*;simp only at*;rcases y with y|y|y
  ·left;exact y
  ·omega
  ·exact .inr y
theorem gV{lo hi:Nat}{tk:LAa}{t:Nat}(h:t∈cJ lo hi tk):t∈tk:=(bU.1 h).1
theorem dj.sub{C:Ctx}{x:Sit}{ob ob':List (Nat×aH)}{tk tk':LAa}{w:World}(h:dj C x ob tk w)(E:ob'.Sublist ob)(F:∀t∈tk',t∈tk):dj C x ob' tk' w:=
 ⟨h.per,h.g0,h.gm,h.new,fun p y=>h.obs p (E.subset y),h.nd.sublist (E.map _),fun p y q I=>h.inj p (E.subset y) q (E.subset I),fun t hu=>h.tks t (F t hu),
  fun t hu p y=>h.tko t (F t hu) p (E.subset y),fun t hu u J=>h.tkd t (F t hu) u (F u J),h.os,h.tape,h.output,h.size,h.ext,h.pin,h.lay⟩
end Go.Sy
namespace Go.Sy
variable [br]
def DR:SV->Value->Bool
 | .bool b,.bool c=>b==c
 | .int k n,.int k' m=>decide (k=k')&&decide (n=m)
 | .u8 b,.int .u8 n=>decide (n=b.toNat)
 | .str l,.string s=>decide (s.data.toList=l)
 | .byt [] _,.slice none 0 0=>true
 | .lst _ [] _,.slice none 0 0=>true
 | .nilp,.pointer none=>true
 | .nili,.nilIface=>true
 |_,_=>false
def m5(P:Program)(e:TypeId):Bool:=match P.underlying e with|some (.int .u8)=>true|_=>false
def sX(P:Program)(t:TypeId):Option Bool:=(P.underlying t).map fun| .struct _| .array _ _=>true|_=>false
def fK(P:Program)(t:TypeId):LAb:=(P.info? t).map (·.size)
def wg(P:Program)(t:TypeId):LAb:=(P.info? t).map (·.bytes)
def cvT(P:Program)(t:TypeId):Value->Option SV
 | .bool b=>some (.bool b)
 | .int .u8 n=>some (.u8 (io n.toNat))
 | .int k n=>some (.int k n)
 | .string s=>some (.str s.data.toList)
 | .pointer none=>some .nilp
 | .nilIface=>some .nili
 | .slice none 0 0=>match P.underlying t with
  |some (.slice e)=>some (if m5 P e then .byt [] .clip else .lst (P.cellsOf e) [] .clip)
  |_=>none
 |_=>none
def bF(P:Program)(t:TypeId):Operand->Option Arg
 | .tmp n=>some (.t n)
 | .const v=>(cvT P t v).bind fun sv=>if DR sv v then some (.c sv)else none
 | .func f=>some (.f f)
 | .global g=>(br.cells g).map fun cs=> .c (.pp cs)
def ov(P:Program):Nat->TypeId->List TypeId
 |0,_=> []
 |d+1,t=>match P.underlying t with
  |some (.struct fs)=>fs.toList.flatMap fun f=>ov P d f.type
  |some (.array n e)=>(aL n (ov P d e)).flatten
  |_=> [t]
def Ib(P:Program):List TypeId->LAc->Option t8
 |[],[]=>some []
 |t::ts,v::vs=>match cvT P t v,Ib P ts vs with
  |some s,some r=>some (s::r)
  |_,_=>none
 |_,_=>none
def gR(P:Program)(t:TypeId):Option LAc:=(P.info? t).bind fun i=>i.zero.map fun z=>z.cells.toList
def IA(cs:t8)(vs:LAc):Bool:=decide (cs.length=vs.length)&&(bM cs.length).all fun i=>DR (cs.getD i .undef) (vs.getD i undef)
def o8(P:Program)(t:TypeId):Option t8:=(gR P t).bind fun vs=>(Ib P (ov P 30 t) vs).bind fun cs=>if IA cs vs then some cs else none
def BA(P:Program)(t:TypeId):Option t8:=(o8 P t).map (List.map SV.data)
def Li(P:Program)(t:TypeId):Option aH:=
 match P.underlying t with
 |some (.array n e)=>if m5 P e then some (.bar (aL n 0))else(o8 P e).map fun z=> .arr z.length (aL n z)
 |_=>(o8 P t).map .rc
def xhM(o:aH)(vs:LAc):Bool:=decide (o.size<=vs.length)&&(bM o.size).all fun k=>DR (o.cell k) (vs.getD k undef)
def kz{α β:Type}(f:α->Option β):List α->Option (List β)
 |[]=>some []
 |a::r=>match f a,kz f r with
  |some b,some s=>some (b::s)
  |_,_=>none
def yH{α β:Type}(f:α->Option β):Option α->Option (Option β)
 |none=>some none
 |some a=>(f a).map some
def Ah(P:Program)(t:TypeId):LAb:=
 match P.underlying t with
 |some .bool=>some 0
 |some (.int _)=>some 1
 |some .string=>some 2
 |_=>none
def A8(P:Program):Nat->List Field->Option LAa
 |_,[]=>some []
 |k,f::r=>if f.name≠ "_" /\f.offset=k then(match Ah P f.type,A8 P (k+1) r with
  |some t,some ts=>some (t::ts)
  |_,_=>none)else none
def xrp(P:Program)(f:FuncId):Bool:=
 match P.funcs[f]? with
 |some fn=>fn.body.isNone&& !(fn.name== "runtime.NumGoroutine")&&(Extern.findNext fn).isNone&&decide (fn.origin= "slices.overlaps")&&
  (Extern.allGenericRows.lookup fn.name).isNone&&(Extern.allTypedRows.lookup fn.name).isNone&&(Extern.allRows.lookup fn.name).isNone&&
  (match fn.params[0]? with|some t=>(match P.underlying t with|some (.slice e)=>(fK P e).isSome|_=>false)|none=>false)
 |none=>false
def z0:t8->Bool
 |[.u8 b]=>b==0
 |_=>false
def bG(P:Program)(o:Oper):Option SOp:=
 match o.op with
 | .move x=>(bF P o.type x).map .mov
 | .assign x=>(bF P o.type x).map .mov
 | .pick c a b=>match bF P 0 c,bF P o.type a,bF P o.type b with
  |some c,some a,some b=>some (.pick c a b)
  |_,_,_=>none
 | .alloc e=>match Li P e,gR P e with
  |some o,some z=>if xhM o z then some (.new o)else none
  |_,_=>none
 | .box e x=>(bF P e x).map .box
 | .build t h=>match P.underlying t,o8 P t with
  |some (.struct fs),some z=>
   if fs.toList.all fun f=>(P.info? f.type).isSome then
    (kz (fun p=>match fs[p.1]? with
     |some f=>match fK P f.type,bF P f.type p.2 with
      |some n,some a=>some (f.offset,n,a)
      |_,_=>none
     |none=>none) h.toList).map (.build z)
   else none
  |some (.array _ e),some z=>match fK P e with
   |some n=>(kz (fun p=>(bF P e p.2).map fun a=>(p.1*n,n,a)) h.toList).map (.build z)
   |none=>none
  |_,_=>none
 | .buildSlice t len h=>match P.underlying t with
  |some (.slice e)=>match fK P e,gR P e with
   |some n,some _=>
    if decide (h.toList.map (·.1)=bM len)&&decide (len*n<=16777216)&&(!m5 P e||decide (n=1))then
     (kz (fun p=>bF P e p.2) h.toList).map fun L=>if m5 P e then .litB L else .lit n L
    else none
   |_,_=>none
  |_=>none
 | .load t a=>match fK P t,sX P t,bF P 0 a with
  |some n,some ag,some a=>if ag||n==1 then some (.load n ag a)else none
  |_,_,_=>none
 | .store t a x=>match fK P t,bF P 0 a,bF P t x with
  |some n,some a,some x=>some (.store n a x)
  |_,_,_=>none
 | .nilCheck x=>(bF P o.type x).map .nchk
 | .binOp op I x y O=>match P.underlying I,bF P I x,bF P O y with
  |some .bool,some x,some y=>match op with
   | .eql=>some (.beq false x y)
   | .neq=>some (.beq true x y)
   |_=>none
  |some (.int _),some x,some y=>some (.bin op x y)
  |some .string,some x,some y=>some (.bin op x y)
  |some (.struct fs),some x,some y=>
   match A8 P 0 fs.toList with
   |
    some J=>if !P.stoodInHeld I&& !P.eqGuardType P.depth I then
    (match op with
    | .eql=>some (.eqS false J x y)
    | .neq=>some (.eqS true J x y)
    |_=>none)
    else none
   |none=>none
  |some (.slice _),some x,some _=>match op,y with
   | .eql,.const (.slice none 0 0)=>some (.isnil false x)
   | .neq,.const (.slice none 0 0)=>some (.isnil true x)
   |_,_=>none
  |some (.interface _),some x,some _=>match op,y with
   | .eql,.const .nilIface=>some (.isni false x)
   | .neq,.const .nilIface=>some (.isni true x)
   |_,_=>none
  |_,_,_=>none
 | .unOp op t x=>(bF P t x).map (.un op)
 | .convert E dst x=>match P.underlying E,P.underlying dst,bF P E x with
  |some (.int _),some (.int k),some x=>some (.toInt k x)
  |some .string,some .string,some x=>some (.toStr x)
  |some (.slice e),some .string,some x=>if m5 P e then some (.b2s x)else none
  |some .string,some (.slice e),some x=>if m5 P e then some (.s2b x)else none
  |some (.slice _),some (.slice e),some x=>if decide (E=dst)&&m5 P e then some (.slid x)else none
  |_,_,_=>none
 | .makeFunc (.func f) first cap=>match kz (bF P 0) first.toList,kz (bF P 0) cap.toList with
  |some a,some b=>some (.mkfn f a b)
  |_,_=>none
 | .makeSlice t l c=>match P.underlying t with
  |some (.slice e)=>match fK P e,wg P e,BA P e,bF P 0 l,bF P 0 c with
   |some n,some by_,some z,some l,some c=>if m5 P e then(if n=1/\by_=1/\z0 z=true then some (.mkB l c)else none)else(if z.length=n/\n≠0 then some (.mk z by_ l c)else none)
   |_,_,_,_,_=>none
  |_=>none
 | .slice t x lo hi F=>match yH (bF P 0) lo,yH (bF P 0) hi,yH (bF P 0) F,bF P t x with
  |some lo,some hi,some F,some x=>if F.isSome&&hi.isNone then none else match P.underlying t with
   |some .string=>if F.isNone then some (.slcS x lo hi)else none
   |some (.slice e)=>match fK P e with
    |some n=>some (.slcL n x lo hi F)
    |none=>none
   |some (.array k e)=>match fK P e with
    |some n=>some (.slcA k n x lo hi F)
    |none=>none
   |_=>none
  |_,_,_,_=>none
 | .fieldAddr t x i=>match P.underlying t,bF P 0 x with
  |some (.struct fs),some x=>match fs[i]? with
   |some f=>match fK P f.type with
    |some n=>if n=0 then none else some (.faddr f.offset x)
    |none=>none
   |none=>none
  |_,_=>none
 | .field t x i=>match P.underlying t,bF P t x with
  |some (.struct fs),some x=>match fs[i]? with
   |some f=>match fK P f.type,sX P f.type with
    |some n,some ag=>if ag||n==1 then some (.fld f.offset n ag x)else none
    |_,_=>none
   |none=>none
  |_,_=>none
 | .indexAddr t x i=>match P.underlying t,bF P t x,bF P 0 i with
  |some (.slice e),some x,some i=>match fK P e with
   |some n=>some (.iaddrL n x i)
   |none=>none
  |some (.array k e),some x,some i=>match fK P e with
   |some n=>some (.iaddrA k n x i)
   |none=>none
  |_,_,_=>none
 | .index t x i=>match P.underlying t,bF P t x,bF P 0 i with
  |some (.array k e),some x,some i=>match fK P e,sX P e with
   |some n,some ag=>if ag||n==1 then some (.idxA k n ag x i)else none
   |_,_=>none
  |some .string,some x,some i=>some (.idxS x i)
  |_,_,_=>none
 | .extract x i=>(bF P 0 x).map (.ext · i)
 | .call c=>match c.callee with
  | .value f=>match bF P 0 f,kz (fun p=>bF P p.2 p.1) (c.args.toList.zip c.argTypes.toList)with
   |some f,some a_=>if c.args.size=c.argTypes.size then(match f,a_ with
    | .f g,[x,y]=>if xrp P g then some (.ovl x y)else some (.call (.f g) [x,y])
    |f,a_=>some (.call f a_))else none
   |_,_=>none
  | .builtin .len=>match c.args.toList,c.argTypes.toList with
   |[x],[t]=>match P.underlying t,bF P t x with
    |some .string,some x=>some (.len true x)
    |some (.slice _),some x=>some (.len false x)
    |some (.array n _),some _=>some (.lenC n)
    |some (.pointer arr),some _=>match P.underlying arr with
     |some (.array n _)=>some (.lenC n)
     |_=>none
    |_,_=>none
   |_,_=>none
  | .builtin .cap=>match c.args.toList,c.argTypes.toList with
   |[x],[t]=>match P.underlying t,bF P t x with
    |some (.slice _),some x=>some (.cap x)
    |_,_=>none
   |_,_=>none
  | .builtin .append=>match c.args.toList,c.argTypes.toList with
   |[x,y],[t,u]=>match P.underlying t,P.underlying u,bF P t x,bF P u y with
    |some (.slice e),some d,some x,some y=>match fK P e,wg P e,o8 P e with
     |some n,some b,some z=>if decide (b≠0)&&decide (n≠0)&&decide (z.length=n)then(match d with
      | .slice _=>some (.app z b x y)
      | .string=>if m5 P e then some (.app z b x y)else none
      | .int _=>some (.appM z b x y)
      |_=>none)else none
     |_,_,_=>none
    |_,_,_,_=>none
   |_,_=>none
  | .builtin .clear=>match c.args.toList,c.argTypes.toList with
   |[x],[t]=>match P.underlying t,bF P t x with
    |some (.slice e),some x=>match BA P e with
     |some z=>some (.clr z x)
     |none=>none
    |_,_=>none
   |_,_=>none
  | .builtin .copy=>match c.args.toList,c.argTypes.toList with
   |[x,y],[t,u]=>match P.underlying t,bF P t x,bF P u y with
    |some (.slice e),some x,some y=>match fK P e with
     |some n=>some (.cpy n x y)
     |none=>none
    |_,_,_=>none
   |_,_=>none
  | .builtin .min=>match c.args.toList,c.argTypes.toList with
   |[x,y],[t,u]=>match bF P t x,bF P u y with
    |some x,some y=>some (.mini x y)
    |_,_=>none
   |_,_=>none
  | .builtin .max=>match c.args.toList,c.argTypes.toList with
   |[x,y],[t,u]=>match bF P t x,bF P u y with
    |some x,some y=>some (.maxi x y)
    |_,_=>none
   |_,_=>none
  |_=>none
 |_=>none
def xkT(ops:Array Oper)(d:Nat):Bool:=ops.any fun o=>match o.op with
 | .convert src dst (.tmp k)=>decide (src=dst)&&k==d
 |_=>false
def pC(ops:Array Oper)(d:LAb)(so:SOp):SOp:=
 match so,d with
 | .litB xs,some d=>if xkT ops d then .newB xs else .litB xs
 |so,_=>so
theorem HM(ops:Array Oper)(d:LAb)(so:SOp):pC ops d so=so\/∃h,so= .litB h/\pC ops d so= .newB h:=by
 unfold pC;split
 ·split
  ·exact .inr ⟨_,rfl,rfl⟩
  ·exact .inl rfl
 ·exact .inl rfl
def gT(P:Program)(ops:Array Oper)(o:Oper):Option SI:=
 match bG P o,o.guard with
 |some so,none=>some ⟨o.dst,none,pC ops o.dst so⟩
 |some so,some (j,b)=>match (ops[j]?).bind (·.dst)with
  |some g=>some ⟨o.dst,some (g,b),pC ops o.dst so⟩
  |none=>none
 |none,_=>none
def xrc:SOp->Bool
 | .new _| .box _| .mk _ _ _ _| .mkB _ _| .app _ _ _ _| .newB _=>true
 |_=>false
def xvl(l:LAe):LAa:=l.filterMap fun i=>if xrc i.op then some (i.dst.getD 0+100)else none
def Arg.tmps:Arg->LAa
 | .t n=> [n]
 |_=> []
def SI.reads(i:SI):LAa:=(i.op.args.flatMap Arg.tmps)++(match i.g with|some (g,_)=> [g]|none=> [])
def Yv(b:LAa)(l:LAe):Bool:=
 (bM l.length).all fun j=>(bM l.length).all fun i=>i==j||
  (match (l.getD i ⟨none,none,.lenC 0⟩).dst with
   |some d=> !((l.getD j ⟨none,none,.lenC 0⟩).reads.contains d)||(b.getD (max i j) 0).testBit (min i j)
   |none=>true)
def sr(ops:Array Oper)(b:LAa):Bool:=
 ops.toList.zipIdx.all fun(o,i)=>(o.after.all fun e=> !Region.binds .any e||decide (e.on<i))&&
  (bM ops.size).all fun k=> !(b.getD i 0).testBit k||(decide (k<i)&&o.after.any fun e=>Region.binds .any e&&(e.on==k||(b.getD e.on 0).testBit k))
def drawn(ops:Array Oper)(l:LAe):Bool:=
 let b:=(Region.before ops).toList
 sr ops b&&Yv b l&&decide (l.filterMap (·.dst)).Nodup
def bn(P:Program):Code->Option gJ
 | .skip=>some .skip
 | .region _ ops h=>match kz (gT P ops) ops.toList with
  |some l=>
   if h then(if drawn ops l&&P.follows .mixedOrders then some (.drw (Region.before ops).toList (xvl l) l)else none)
   else some (.ops l)
  |none=>none
 | .seq a b=>match bn P a,bn P b with
  |some a,some b=>some (.seq a b)
  |_,_=>none
 | .cond c a b=>match bF P 0 c,bn P a,bn P b with
  |some c,some a,some b=>some (.cond c a b)
  |_,_,_=>none
 | .block id b=>(bn P b).map (.block id)
 | .loop b=>(bn P b).map .loop
 | .exit id=>some (.exit id)
 | .ret=>some .ret
 |_=>none
def cO(P:Program):Code->gJ
 | .skip=> .skip
 | .exit id=> .exit id
 | .ret=> .ret
 | .seq a b=> .seq (cO P a) (cO P b)
 | .cond c a b=>match bF P 0 c with
  |some k=> .cond k (cO P a) (cO P b)
  |none=> .bad
 | .block id b=> .block id (cO P b)
 | .loop b=> .loop (cO P b)
 | .region id ops h=>match bn P (.region id ops h)with
  |some s=>s
  |none=> .bad
 |_=> .bad
end Go.Sy
namespace Go.Sy
variable [br]
variable {P : Program} {C : Ctx} {x : Sit} {s : St} {a : Act} {w : World}
theorem nA{G:GM}{c:SV}{v:Value}(h:DR c v=true):cL G c v:=by
 unfold DR at h;split at h
 ·simp at h;subst h;exact .bool _
 ·simp at h;obtain⟨rfl,rfl⟩:=h;exact .int _ _
 ·simp at h;subst h;exact .u8 _
 ·rename_i l s
  simp at h;obtain⟨⟨d⟩⟩:=s;simp at h;subst h;exact .str _
 ·exact .bytN _
 ·exact .lstN _ _
 ·exact .nilp
 ·exact .nili
 ·cases h
theorem JA{x:Sit}{c:SV}{v:Value}(h:DR c v=true):UJ x c v:=by
 unfold DR at h;split at h
 all_goals first
  |trivial
  |(
   rename_i t;cases t with
   |no=>trivial
   |clip=>exact⟨none,0,rfl⟩
   |id t=>exact⟨none,0,0,rfl,.inl rfl⟩)
  |(cases h;done)
theorem rC{x:Sit}{c:SV}{v:Value}(h:DR c v=true):Rep x c v:= .dat _ _ (nA h) (JA h)
theorem cE.get{cs:t8}{vs:LAc}(h:cE x cs vs)(i:Nat):Rep x (cs.getD i .undef) (vs.getD i undef):=by
 rcases bK i cs.length with hi|hi
 ·exact h.2 i hi
 ·rw[aa,ia hi];exact .undef _
theorem cE.set{cs:t8}{vs:LAc}(h:cE x cs vs)(d:Nat){c:SV}{v:Value}(y:Rep x c v):cE x (cs.set d c) (vs.set d v):=by
 refine⟨by simpa using h.1,fun i hi=> ?_⟩;simp only[ny]at hi;simp only[aa,ij]
 by_cases hd:d=i
 ·subst hd
  rw[if_pos rfl,if_pos hi,if_pos rfl,if_pos (by rw[<-h.1];exact hi)];exact y
 ·rw[if_neg hd,if_neg hd]
  have:=h.get i;simpa only[aa]using this
theorem aR.slot(h:aR C x s a w)(n:Nat):Rep x (s.get n) (a.tmps.getD n undef):=by have:=h.tm.get n;simpa[St.get,aS]using this
theorem aR.put(h:aR C x s a w)(d:LAb){c:SV}{v:Value}(y:Rep x c v):aR C x (s.put d c) (a.put d v) w:=by
 cases d with
 |none=>exact h
 |some d=>refine⟨?_,h.defers,h.heap⟩;have:=h.tm.set d y;simpa[St.put,Act.put]using this
theorem aP{t:TypeId}{o:Operand}{r:Arg}(h:aR C x s a w)(y:bF P t o=some r):Rep x (s.ev r) (a.eval o):=by
 cases o with
 |tmp n=>simp only[bF]at y;cases y;exact h.slot n
 |const v=>
  simp only[bF]at y;cases hc:cvT P t v with
  |none=>simp[hc]at y
  |some sv=>
   simp only[hc,dl]at y;split at y
   ·cases y;rename_i L;exact rC L
   ·cases y
 |func f=>simp only[bF]at y;cases y;exact .fn f [] [] [] [] rfl (fun i hi=>by simp at hi) rfl (fun i hi=>by simp at hi)
 |global g=>
  simp only[bF]at y;obtain⟨cs,I,rfl⟩:=ah.1 y;have J:=(h.heap.lay.mono h.heap.g0) g cs I;refine .dat _ _ (.pp cs g 0 (fun j=>(x.G g j).getD undef) (fun j E=> ?_) (fun j E=> ?_)) trivial
  ·obtain⟨v,F,_⟩:=J j E
   rw[bT,F];rfl
  ·obtain⟨v,F,y⟩:=J j E
   rw[F];exact y
def cA(P:Program)(C:Ctx)(o:Oper)(a:Act)(w:World)(s':St):Prop:=
 ∃u w' x' n,(execOp a.eval o).run P w= .ok n w'/\(n= .value u\/(n= .skip/\u=undef))/\aR C x' s' (a.put o.dst u) w'
theorem cA.val{o:Oper}{m:Sem Value}{u:Value}{c:SV}(h:aR C x s a w)(y:execOp a.eval o=(do pure (.value (<-m))))(F:m.run P w= .ok u w)(E:Rep x c u):
 cA P C o a w (s.put o.dst c):=
 ⟨u,w,x,.value u,by rw[y];simp[F],.inl rfl,h.put o.dst E⟩
theorem cA.grow{o:Oper}{m:Sem Value}{u:Value}{c:SV}{x':Sit}{w':World}(h:aR C x s a w)(O:execOp a.eval o=(do pure (.value (<-m))))(I:m.run P w= .ok u w')
 (y:∀b o v,x.G b o=some v->x'.G b o=some v) (J:x'.bk=x.bk) (E:x'.τ=x.τ) (F:dj C x' s.ob s.tk w') (L:Rep x' c u):
 cA P C o a w (s.put o.dst c):=
 ⟨u,w',x',.value u,by rw[O];simp[I],.inl rfl,aR.put ⟨h.tm.grow y J E,h.defers,F⟩ o.dst L⟩
theorem Rep.int_inv{k:IntKind}{n:Int}{v:Value}(h:Rep x (.int k n) v):v= .int k n:=by
 cases h with|dat _ _ h _=>cases h;rfl
theorem Rep.bool_inv{b:Bool}{v:Value}(h:Rep x (.bool b) v):v= .bool b:=by
 cases h with|dat _ _ h _=>cases h;rfl
theorem Rep.u8_inv{b:UInt8}{v:Value}(h:Rep x (.u8 b) v):v= .int .u8 b.toNat:=by
 cases h with|dat _ _ h _=>cases h;rfl
theorem Rep.str_inv{l:d9}{v:Value}(h:Rep x (.str l) v):v= .string ⟨⟨l⟩⟩:=by
 cases h with|dat _ _ h _=>cases h;rfl
theorem Rep.ptr_inv{o off:Nat}{v:Value}(h:Rep x (.ptr o off) v):v= .pointer (some ⟨(x.bk o).1,off,none⟩):=by
 cases h with
 |dat _ _ h _=>cases h
 |ptr=>rfl
theorem Rep.ap_inv{o y i j:Nat}{v:Value}(h:Rep x (.ap o y i j) v):v= .pointer (some ⟨(x.bk o).1,i*y+j,none⟩):=by
 cases h with
 |dat _ _ h _=>cases h
 |ap=>rfl
theorem Rep.psl_inv{o F off n:Nat}{cap:LAb}{v:Value}(h:Rep x (.psl o F off n cap) v):∃y,n<=y/\(∀c,cap=some c->c=y)/\∃E,v= .slice (some ⟨(x.bk o).1,E,none⟩) n y/\(y=0\/E=off*F):=by
 cases h with
 |dat _ _ h _=>cases h
 |psl _ _ _ _ _ E y h hn I _=>exact⟨y,hn,I,E,rfl,h⟩
theorem Rep.psl_invA{o F off n:Nat}{cap:LAb}{v:Value}(h:Rep x (.psl o F off n cap) v):∃y,n<=y/\(∀c,cap=some c->c=y)/\∃E,v= .slice (some ⟨(x.bk o).1,E,none⟩) n y/\(y=0\/E=off*F)/\(cap=none->y=0\/E+y*F<=(x.bk o).2):=by
 cases h with
 |dat _ _ h _=>cases h
 |psl _ _ _ _ _ E y h hn J I=>exact⟨y,hn,J,E,rfl,h,I⟩
theorem Rep.psl_invK{o F off n:Nat}{v:Value}(h:Rep x (.psl o F off n none) v):∃y,n<=y/\∃E,v= .slice (some ⟨(x.bk o).1,E,none⟩) n y/\(y=0\/E=off*F)/\(y=0\/E+y*F<=(x.bk o).2):=by
 cases h with
 |dat _ _ h _=>cases h
 |psl _ _ _ _ _ E y h hn J I=>exact⟨y,hn,E,rfl,h,I rfl⟩
theorem Rep.agg_inv{cs:t8}{v:Value}(h:Rep x (.agg cs) v):∃vs,v= .agg ⟨vs⟩/\cE x cs vs:=by
 cases h with
 |dat _ _ h _=>cases h
 |agg _ vs y h=>exact⟨vs,rfl,y,h⟩
theorem Rep.tup_inv{cs:t8}{v:Value}(h:Rep x (.tup cs) v):∃vs,v= .tuple ⟨vs⟩/\cE x cs vs:=by
 cases h with
 |dat _ _ h _=>cases h
 |tup _ vs y h=>exact⟨vs,rfl,y,h⟩
theorem Rep.fn_inv{f:Nat}{c1 c2:t8}{v:Value}(h:Rep x (.fn f c1 c2) v):∃v1 y,v= .func (.func f) ⟨v1⟩ ⟨y⟩/\cE x c1 v1/\cE x c2 y:=by
 cases h with
 |dat _ _ h _=>cases h
 |fn _ _ _ v1 y F I E J=>exact⟨v1,y,rfl,⟨F,I⟩,⟨E,J⟩⟩
theorem Rep.pp_inv{cs:t8}{v:Value}(h:Rep x (.pp cs) v):∃(b off:Nat)(val:Nat->Value),v= .pointer (some ⟨b,off,none⟩)/\(∀j,j<cs.length->x.G b (off+j)=some (val j))/\∀j,j<cs.length->cL x.G (cs.getD j .undef) (val j):=by
 cases h with
 |dat _ _ h _=>cases h with|pp _ b off val y h=>exact⟨b,off,val,rfl,y,h⟩
theorem Rep.nilp_inv{v:Value}(h:Rep x .nilp v):v= .pointer none:=by
 cases h with|dat _ _ h _=>cases h;rfl
theorem Rep.nili_inv{v:Value}(h:Rep x .nili v):v= .nilIface:=by
 cases h with|dat _ _ h _=>cases h;rfl
theorem Rep.byt_inv{l:d9}{t:Tok}{v:Value}(h:Rep x (.byt l t) v):∃b cap,v= .slice b l.length cap/\l.length<=cap/\cL x.G (.byt l t) v/\dR x 1 t v:=by
 cases h with
 |dat _ _ h y=>
  cases h with
  |bytN=>exact⟨none,0,rfl,by simp,.bytN _,y⟩
  |bytE _ a=>exact⟨some a,0,rfl,by simp,.bytE _ a,y⟩
  |byt _ _ b off cap n hn E h=>subst hn;exact⟨_,cap,rfl,E,.byt _ _ b off cap _ rfl E h,y⟩
theorem Rep.lst_inv{E:Nat}{y:d8}{t:Tok}{v:Value}(h:Rep x (.lst E y t) v):∃b cap,v= .slice b y.length cap/\y.length<=cap/\cL x.G (.lst E y t) v/\dR x E t v:=by
 cases h with
 |dat _ _ h F=>
  cases h with
  |lstN=>exact⟨none,0,rfl,by simp,.lstN _ _,F⟩
  |lstE _ _ a=>exact⟨some a,0,rfl,by simp,.lstE _ _ a,F⟩
  |lst _ _ _ b off cap n val hn I L J h=>subst hn;exact⟨_,cap,rfl,I,.lst _ _ _ b off cap _ val rfl I L J h,F⟩
theorem cX(k:IntKind)(n:Int):Rep x (.int k n) (.int k n):= .dat _ _ (.int k n) trivial
theorem ep(b:Bool):Rep x (.bool b) (.bool b):= .dat _ _ (.bool b) trivial
theorem pB(b:UInt8):Rep x (.u8 b) (.int .u8 b.toNat):= .dat _ _ (.u8 b) trivial
theorem mh(l:d9):Rep x (.str l) (.string ⟨⟨l⟩⟩):= .dat _ _ (.str l) trivial
theorem JX{op:BinOp}{t:TypeId}{k:IntKind}{m n:Int}{p:Prop}{c:SV}(h:ZX op k m n=some (p,c))(y:p):
 ∃r,(binOp op t (.int k m) (.int k n)).run P w= .ok r w/\Rep x c r:=by
 cases op<;>simp only[ZX,VH,bB,ax.injEq,bD.injEq,reduceCtorEq]at h<;>obtain⟨rfl,rfl⟩:=h
 ·exact⟨.int k (k.wrap (m+n)),by simp[binOp,Op.intArith],cX _ _⟩
 ·exact⟨.int k (k.wrap (m-n)),by simp[binOp,Op.intArith],cX _ _⟩
 ·exact⟨.int k (k.wrap (m*n)),by simp[binOp,Op.intArith],cX _ _⟩
 ·exact⟨.int k (k.wrap (m.tdiv n)),by simp[binOp,Op.intDiv,y],cX _ _⟩
 ·exact⟨.int k (m.tmod n),by simp[binOp,Op.intDiv,y],cX _ _⟩
 ·exact⟨.int k (cn .and k m n),by simp[binOp,Op.intBits,cn],cX _ _⟩
 ·exact⟨.int k (cn .or k m n),by simp[binOp,Op.intBits,cn],cX _ _⟩
 ·exact⟨.int k (cn .xor k m n),by simp[binOp,Op.intBits,cn],cX _ _⟩
 ·exact⟨.int k (cn .andNot k m n),by simp[binOp,Op.intBits,cn],cX _ _⟩
 ·exact⟨.bool (decide (m=n)),by simp[binOp,sx];rw[fG];simp,ep _⟩
 ·exact⟨.bool (decide (m≠n)),by simp[binOp,sx];rw[fG];simp,ep _⟩
 ·exact⟨.bool (decide (m<n)),by simp[binOp,sx],ep _⟩
 ·exact⟨.bool (decide (m<=n)),by simp[binOp,sx],ep _⟩
 ·exact⟨.bool (decide (m>n)),by simp[binOp,sx],ep _⟩
 ·exact⟨.bool (decide (m≥n)),by simp[binOp,sx],ep _⟩
theorem gK(n:Int):gh.wrap n=n % 256:=by simp[IntKind.wrap,IntKind.bits,IntKind.signed]
theorem x0(n:Int):((b8 n).toNat:Int)=n % 256:=by rw[b8,<-UInt8.toNat_toBitVec];simp;omega
theorem o9(b:UInt8):b.toNat<256:=b.toNat_lt
theorem Hf{op:BinOp}{t:TypeId}{a b:UInt8}{p:Prop}{c:SV}(h:Ic op a b=some (p,c))(F:p):
 ∃r,(binOp op t (.int .u8 a.toNat) (.int .u8 b.toNat)).run P w= .ok r w/\Rep x c r:=by
 have J:=o9 a;have I:=o9 b;have R:∀(r:UInt8)(v:Value),v= .int .u8 r.toNat->Rep x (.u8 r) v:=fun r v e=>e ▸ pB r
 have B:∀(r:Bool)(v:Value),v= .bool r->Rep x (.bool r) v:=fun r v e=>e ▸ ep r
 cases op<;>simp only[Ic,ax.injEq,bD.injEq,reduceCtorEq]at h<;>obtain⟨rfl,rfl⟩:=h
 ·exact⟨.int .u8 (gh.wrap (a.toNat+b.toNat)),by simp[binOp,Op.intArith],R _ _ (by rw[gK,UInt8.toNat_add];simp)⟩
 ·refine⟨.int .u8 (gh.wrap (a.toNat-b.toNat)),by simp[binOp,Op.intArith],R _ _ (by rw[gK,UInt8.toNat_sub];congr 1;omega)⟩
 ·exact⟨.int .u8 (gh.wrap (a.toNat*b.toNat)),by simp[binOp,Op.intArith],R _ _ (by rw[gK,UInt8.toNat_mul];simp)⟩
 ·have hb0:¬((b.toNat:Int)=0):=by intro e;exact F (UInt8.toNat_inj.1 (by simpa using e))
  refine⟨.int .u8 (gh.wrap ((a.toNat:Int).tdiv b.toNat)), ?_,R _ _ ?_⟩
  ·simp only[binOp,Op.intDiv];rw[if_neg (fun e=>e rfl),if_neg hb0];rfl
  rw[gK,UInt8.toNat_div,Int.tdiv_eq_ediv_of_nonneg (by omega)];have:=Nat.div_le_self a.toNat b.toNat;rw[<-Int.natCast_ediv];simp only[Value.int.injEq,true_and];generalize a.toNat/b.toNat=q at*;omega
 ·have hb0:¬((b.toNat:Int)=0):=by intro e;exact F (UInt8.toNat_inj.1 (by simpa using e))
  refine⟨.int .u8 ((a.toNat:Int).tmod b.toNat), ?_,R _ _ ?_⟩
  ·simp only[binOp,Op.intDiv];rw[if_neg (fun e=>e rfl),if_neg hb0];rfl
  rw[UInt8.toNat_mod,fx (by omega)];simp
 all_goals have y:BitVec.ofInt gh.bits (a.toNat:Int)=a.toBitVec:=by rw[BitVec.ofInt_natCast];exact BitVec.ofNat_toNat _ _
 all_goals have E:BitVec.ofInt gh.bits (b.toNat:Int)=b.toBitVec:=by rw[BitVec.ofInt_natCast];exact BitVec.ofNat_toNat _ _
 ·refine⟨.int .u8 (cn .and .u8 a.toNat b.toNat),by simp[binOp,Op.intBits,cn],R _ _ ?_⟩
  have:=o9 (a&&&b);simp only[cn];rw[y,E,gK];change Value.int .u8 ((((a&&&b).toNat:Nat):Int) % 256)=_
  congr 1;omega
 ·refine⟨.int .u8 (cn .or .u8 a.toNat b.toNat),by simp[binOp,Op.intBits,cn],R _ _ ?_⟩
  have:=o9 (a|||b);simp only[cn];rw[y,E,gK];change Value.int .u8 ((((a|||b).toNat:Nat):Int) % 256)=_
  congr 1;omega
 ·refine⟨.int .u8 (cn .xor .u8 a.toNat b.toNat),by simp[binOp,Op.intBits,cn],R _ _ ?_⟩
  have:=o9 (a^^^b);simp only[cn];rw[y,E,gK];change Value.int .u8 ((((a^^^b).toNat:Nat):Int) % 256)=_
  congr 1;omega
 ·refine⟨.int .u8 (cn .andNot .u8 a.toNat b.toNat),by simp[binOp,Op.intBits,cn],R _ _ ?_⟩
  have:=o9 (a&&& ~~~b);simp only[cn];rw[y,E,gK];change Value.int .u8 ((((a&&& ~~~b).toNat:Nat):Int) % 256)=_
  congr 1;omega
 all_goals clear y E
 ·exact⟨.bool ((a.toNat:Int)==b.toNat),by simp[binOp,sx],B _ _ (by congr 1;rw[fG];simp[<-UInt8.toNat_inj];try omega)⟩
 ·exact⟨.bool ((a.toNat:Int) !=b.toNat),by simp[binOp,sx],B _ _ (by congr 1;rw[fG];simp[<-UInt8.toNat_inj];try omega)⟩
 ·exact⟨.bool (decide ((a.toNat:Int)<b.toNat)),by simp[binOp,sx],B _ _ (by congr 1;rw[fG];simp[UInt8.lt_iff_toNat_lt])⟩
 ·exact⟨.bool (decide ((a.toNat:Int)<=b.toNat)),by simp[binOp,sx],B _ _ (by congr 1;rw[fG];simp[UInt8.le_iff_toNat_le])⟩
 ·exact⟨.bool (decide ((a.toNat:Int)>b.toNat)),by simp[binOp,sx],B _ _ (by congr 1;rw[fG];simp[UInt8.lt_iff_toNat_lt])⟩
 ·exact⟨.bool (decide ((a.toNat:Int)≥b.toNat)),by simp[binOp,sx],B _ _ (by congr 1;rw[fG];simp[UInt8.le_iff_toNat_le])⟩
theorem JV{op:BinOp}{t:TypeId}{l m:d9}{p:Prop}{c:SV}(h:xbi op l m=some (p,c))(I:p):
 ∃r,(binOp op t (.string ⟨⟨l⟩⟩) (.string ⟨⟨m⟩⟩)).run P w= .ok r w/\Rep x c r:=by
 have y:∀l:d9,(ByteArray.mk ⟨l⟩).toList=l:=fun l=>by rw[ByteArray.toList_eq]
 have E:(l==m)=decide (l=m):=by rw[fG];simp
 cases op<;>simp only[xbi,ax.injEq,bD.injEq,reduceCtorEq]at h<;>obtain⟨rfl,rfl⟩:=h
 ·refine⟨.string ⟨⟨l++m⟩⟩, ?_,mh _⟩
  simp only[binOp,Op.stringOp]
  have F:((((ByteArray.mk ⟨l⟩).size+(ByteArray.mk ⟨m⟩).size:Nat):Int)>af.max)=False:=by rw[IntKind.max_i64];simp only[ByteArray.size,eq_iff_iff,iff_false];simp;omega
  simp only[F,if_false];rw[show(ByteArray.mk ⟨l⟩++ByteArray.mk ⟨m⟩)=ByteArray.mk ⟨l++m⟩from by apply ByteArray.ext;simp];rfl
 all_goals refine⟨_,by simp only[binOp,Op.stringOp,y,E];rfl, ?_⟩
 ·exact ep _
 ·rw[show decide (l≠m)= !decide (l=m)from by simp];exact ep _
 all_goals exact ep _
theorem JT{op:BinOp}{t:TypeId}{k:IntKind}{a:UInt8}{b:Int}{p:Prop}{c:SV}(h:xbc op a b=some (p,c))(F:p):
 ∃r,(binOp op t (.int .u8 a.toNat) (.int k b)).run P w= .ok r w/\Rep x c r:=by
 have E:=o9 a;have R:∀(r:UInt8)(v:Value),v= .int .u8 r.toNat->Rep x (.u8 r) v:=fun r v e=>e ▸ pB r
 cases op<;>simp only[xbc,ax.injEq,bD.injEq,reduceCtorEq]at h<;>obtain⟨rfl,rfl⟩:=h
 ·refine⟨.int .u8 (gh.wrap ((a.toNat:Int)*2^(min b.toNat gh.bits))),by simp only[binOp,Op.shift];rw[if_neg (by omega)];rfl,R _ _ ?_⟩
  rw[gK,UInt8.toNat_ofNat'];have e:((a.toNat:Int)*2^(min b.toNat gh.bits))=((a.toNat*2^(min b.toNat 8):Nat):Int):=by rw[Int.natCast_mul,Int.natCast_pow];rfl
  rw[e];rfl
 ·refine⟨.int .u8 ((a.toNat:Int).fdiv (2^(min b.toNat gh.bits))),by simp only[binOp,Op.shift];rw[if_neg (by omega)];rfl,R _ _ ?_⟩
  have e:(a.toNat:Int).fdiv (2^(min b.toNat gh.bits))=((a.toNat/2^(min b.toNat 8):Nat):Int):=by rw[show((2:Int)^(min b.toNat gh.bits))=((2^(min b.toNat 8):Nat):Int)from by rw[Int.natCast_pow];rfl];rw[jc _ (Int.natCast_nonneg _),Int.natCast_ediv]
  have y:a.toNat/2^(min b.toNat 8)<256:=Nat.lt_of_le_of_lt (Nat.div_le_self _ _) E;rw[e,UInt8.toNat_ofNat',cH y]
theorem YS{op:BinOp}{t:TypeId}{X Y:Operand}{u v:SV}{a b:Value}{p:Prop}{c:SV}(hu:Rep x u a)(I:Rep x v b)(h:Bm op u v=some (p,c))(J:p):
 ∃r,(do eqGuard op t X Y a b;binOp op t a b:Sem Value).run P w= .ok r w/\Rep x c r:=by
 cases u<;>cases v<;>simp only[Bm]at h<;>try (cases h;done)
 ·rename_i k m O n
  have y:=hu.int_inv;have E:=I.int_inv;subst y;subst E;rw[show eqGuard op t X Y (.int k m) (.int O n)=pure ()from by cases op<;>rfl];simp only[aD,aN,an]
  by_cases Q:op= .shl\/op= .shr
  ·rcases Q with rfl|rfl
   ·simp only[xC,ax.injEq,bD.injEq]at h
    obtain⟨rfl,rfl⟩:=h;exact⟨_,by simp only[binOp,Op.shift];rw[if_neg (by omega)];rfl,cX _ _⟩
   ·simp only[xC,ax.injEq,bD.injEq]at h
    obtain⟨rfl,rfl⟩:=h;exact⟨_,by simp only[binOp,Op.shift];rw[if_neg (by omega)];rfl,cX _ _⟩
  ·have L:(if k=O then ZX op k m n else none)=some (p,c):=by
    cases op<;>simp at Q<;>exact h
   split at L
   ·rename_i T;subst T;exact JX L J
   ·cases L
 ·rename_i F k2 b2
  have y:=hu.u8_inv;have E:=I.int_inv;subst y;subst E;rw[show eqGuard op t X Y (.int .u8 F.toNat) (.int k2 b2)=pure ()from by cases op<;>rfl];simp only[aD,aN,an];exact JT h J
 ·rename_i F b2
  have y:=hu.u8_inv;have E:=I.u8_inv;subst y;subst E;rw[show eqGuard op t X Y (.int .u8 F.toNat) (.int .u8 b2.toNat)=pure ()from by cases op<;>rfl];simp only[aD,aN,an];exact Hf h J
 ·rename_i F b2
  have y:=hu.str_inv;have E:=I.str_inv;subst y;subst E;rw[show eqGuard op t X Y (.string ⟨⟨F⟩⟩) (.string ⟨⟨b2⟩⟩)=pure ()from by cases op<;>rfl];simp only[aD,aN,an];exact JV h J
end Go.Sy
namespace Go.Sy
variable [br]
variable {P : Program} {C : Ctx} {x : Sit} {s : St} {a : Act} {w : World}
theorem cr{t:TypeId}{n:Nat}(h:fK P t=some n)(w:World):(sizeOf t).run P w= .ok n w:=by
 unfold fK at h;cases hi:P.info? t with
 |none=>simp[hi]at h
 |some i=>simp[hi]at h;subst h;simp[sizeOf,run_typeInfo w hi]
theorem fi{t:TypeId}{b:Bool}(h:sX P t=some b)(w:World):(isAgg t).run P w= .ok b w:=by
 unfold sX at h;cases hd:P.underlying t with
 |none=>simp[hd]at h
 |some d=>simp[hd]at h;subst h;unfold isAgg;simp only[aD,run_underlying hd,an];split<;>first|rfl|(cases d<;>simp_all)
theorem cV{E:Nat}(I:d8)(h:∀y∈I,y.length=E)(k:Nat)(O:k<I.length*E):
 I.flatten.getD k .undef=(I.getD (k/E) []).getD (k % E) .undef:=by
 induction I generalizing k with
 |nil=>simp at O
 |cons y r W=>
  have T:=h y (by simp)
  have L:0<E:=by
   rcases ib E with J|J;· subst J;simp at O
   ·exact J
  simp only[cD,aa]
  by_cases F:k<E
  ·rw[bo (by omega),Bz F,cH F]
   simp
  ·rw[bA (by omega),T]
   have:=W (fun z hz=>h z (aw _ hz)) (k-E) (by simp only[al,ee]at O;omega);simp only[aa]at this;rw[this];have Q:k/E=(k-E)/E+1:=by rw[<-Nat.add_div_right _ L];congr 1;omega
   have Z:k % E=(k-E) % E:=(Nat.mod_eq_sub_mod (by omega));rw[Q,Z];simp
def GA(x:Sit)(w:World)(b off n:Nat)(cs:t8):Prop:=
 n<=cs.length/\∀j,j<n->∃v,w.cell? ⟨b,off+j,none⟩=some v/\Rep x (cs.getD j .undef) v
theorem qx{b off n:Nat}{cs:t8}{t:TypeId}{F:Bool}(h:GA x w b off n cs)(hn:fK P t=some n)(E:sX P t=some F)(L:(F||n==1)=true):
 ∃v,(loadVar t ⟨b,off,none⟩).run P w= .ok v w/\Rep x (ej F n cs) v:=by
 obtain⟨T,I⟩:=h
 have Q:∀j,j<n->w.cell? ((⟨b,off,none⟩:Addr).add j)=some ((w.cell? ⟨b,off+j,none⟩).getD undef):=by intro j O;obtain⟨v,y,_⟩:=I j O;rw[dD,y];rfl
 cases F with
 |true=>
  refine⟨.agg ((bM n).map fun j=>(w.cell? ⟨b,off+j,none⟩).getD undef).toArray, ?_, ?_⟩
  ·simp only[loadVar,aD,fi E,an,if_true,cr hn,run_loadCells w _ n _ Q,aN]
  ·simp only[ej,if_true]
   refine .agg _ _ (by simp;omega) fun i hi=> ?_
   have hi:i<n/\i<cs.length:=by simp only[aq]at hi;omega
   obtain⟨v,y,J⟩:=I i hi.1;rw[aa,bL,if_pos hi.1,<-aa]
   have:((bM n).map fun j=>(w.cell? ⟨b,off+j,none⟩).getD undef).getD i undef=v:=by rw[aa];simp[hi.1,y]
   rw[this];exact J
 |false=>simp at L;subst L;obtain⟨v,y,J⟩:=I 0 (by omega);refine⟨v, ?_,by simpa[ej]using J⟩;rw[ft]at y;simp only[loadVar,aD,fi E,an,aO,if_false,run_load,y]
theorem fD(hM:aR C x s a w){o:Nat}{obj:aH}(h:s.look o=some obj):eA x w o obj:=(hM.heap.obs _ (dr h)).1
theorem eA.cell{o:Nat}{obj:aH}(h:eA x w o obj){k:Nat}(y:k<obj.size):∃v,w.cell? ⟨(x.bk o).1,k,none⟩=some v/\cx x obj k v:=by obtain⟨c,e,fl,fh,F,I,E⟩:=h;refine⟨c.getD k undef, ?_,E k y⟩;rw[F.cell,aS,cy (by omega)];rfl
theorem cx.data{obj:aH}(y:∀cs,obj≠ .rc cs){k:Nat}{v:Value}(h:cx x obj k v):Rep x (obj.cell k).data v:=by
 cases obj with
 |rc cs=>exact absurd rfl (y cs)
 |arr E F=>exact cL.rep h
 |bar l=>exact cL.rep h
theorem hJ(cs:t8)(j:Nat):(cs.map SV.data).getD j .undef=(cs.getD j .undef).data:=bg _ rfl _ _
theorem lX{α:Type}(cs:List α)(j k:Nat)(d:α):(cs.drop j).getD k d=cs.getD (j+k) d:=by simp[aa,bz]
theorem mW(hM:aR C x s a w){u c:SV}{v:Value}{n:Nat}{ag:Bool}{p:Prop}(hu:Rep x u v)(h:jv s n ag u=some (p,c))(O:p):
 ∃b off cs,v= .pointer (some ⟨b,off,none⟩)/\c=ej ag n cs/\GA x w b off n cs:=by
 cases u with
 |pp cs=>simp only[jv,ax.injEq,bD.injEq]at h;obtain⟨rfl,rfl⟩:=h;obtain⟨b,off,val,rfl,hg,hr⟩:=hu.pp_inv;refine⟨b,off,_,rfl,rfl,by simpa using O,fun j Z=>⟨val j,hM.heap.per _ _ _ (hg j (by omega)), ?_⟩⟩;rw[hJ];exact(hr j (by omega)).rep
 |ptr o off=>
  have T:=hu.ptr_inv;simp only[jv]at h;cases hl:s.look o with
  |none=>simp[hl]at h
  |some obj=>
   have E:=fD hM hl;cases obj with
   |rc cs=>simp only[hl,ax.injEq,bD.injEq]at h;obtain⟨rfl,rfl⟩:=h;refine⟨_,off,_,T,rfl,by simp;omega,fun j Z=> ?_⟩;obtain⟨v,J,F⟩:=E.cell (k:=off+j) (by simp only[aH.size];omega);exact⟨v,J,by rw[lX];exact F⟩
   |arr I Q=>
    simp only[hl]at h;split at h
    ·rename_i h0;subst h0
     simp only[ax.injEq,bD.injEq]at h;obtain⟨rfl,rfl⟩:=h
     have L:Q.flatten.length=Q.length*I:=by
      have F:=O.2;clear O hl E;induction Q with
      |nil=>simp
      |cons y r ih=>simp only[cD,ae,al,ee];rw[ih (fun z hz=>F z (aw _ hz)),F y (by simp)];omega
     refine⟨_,0,_,T,rfl,by rw[aY];exact O.1,fun j Z=> ?_⟩;have W:j<Q.length*I:=by rw[<-L];omega
     obtain⟨v,J,F⟩:=E.cell (k:=j) (by simpa only[aH.size]using W);refine⟨v,by rw[bT];exact J, ?_⟩;rw[hJ,cV Q O.2 j W];exact F.data (by intro cs;simp)
    ·cases h
   |bar l=>
    simp only[hl]at h;split at h
    ·rename_i h0;subst h0
     simp only[ax.injEq,bD.injEq]at h;obtain⟨rfl,rfl⟩:=h;refine⟨_,0,_,T,rfl,by simpa using O,fun j Z=> ?_⟩;obtain⟨v,J,F⟩:=E.cell (k:=j) (by simp only[aH.size];omega);refine⟨v,by rw[bT];exact J, ?_⟩
     have:(l.map SV.u8).getD j .undef= .u8 (l.getD j 0):=by simp only[aa,aT];rw[ac (by omega)];rfl
     rw[this];exact F.data (by intro cs;simp)
    ·cases h
 |ap o I i j=>
  have T:=hu.ap_inv;simp only[jv]at h;cases hl:s.look o with
  |none=>simp[hl]at h
  |some obj=>
   have E:=fD hM hl;cases obj with
   |rc cs=>simp[hl]at h
   |arr a2 Q=>
    simp only[hl,ax.injEq,bD.injEq]at h;obtain⟨rfl,rfl⟩:=h;obtain⟨rfl,hi,Z,L⟩:=O;refine⟨_,_,_,T,rfl,by rw[aY,aG];omega,fun k hk=> ?_⟩
    have a1:i*I+(j+k)<Q.length*I:=by have:=bh I (Nat.succ_le_of_lt hi);rw[ee]at this;omega
    obtain⟨v,J,F⟩:=E.cell (k:=i*I+(j+k)) (by simpa only[aH.size]using a1);refine⟨v,by rw[fu];exact J, ?_⟩;rw[hJ,lX];have h3:=F.data (by intro cs;simp);simp only[aH.cell]at h3
    rwa[show(i*I+(j+k))/I=i from by rw[cM,Nat.mul_add_div (by omega),Bz (by omega)];rfl,
     show(i*I+(j+k)) % I=j+k from by rw[cM,Nat.mul_add_mod,cH (by omega)]]at h3
   |bar l=>
    simp only[hl,ax.injEq,bD.injEq]at h;obtain⟨rfl,rfl⟩:=h;obtain⟨rfl,rfl,rfl,hi⟩:=O;refine⟨_,_,_,T,rfl,by simp,fun k hk=> ?_⟩;obtain rfl:k=0:=by omega
    obtain⟨v,J,F⟩:=E.cell (k:=i) (by simpa only[aH.size]using hi);exact⟨v,by simpa using J,F.data (by intro cs;simp)⟩
 |_=>simp[jv]at h
end Go.Sy
namespace Go.Sy
variable [br]
variable {P : Program} {C : Ctx} {x : Sit} {s : St} {a : Act} {w : World} {o : Oper} {so : SOp} {p : Prop} {c : SV}
theorem x8(hM:aR C x s a w){X:Operand}(h:o.op= .move X\/o.op= .assign X)(I:bG P o=some so)(F:val s so=some (p,c)):cA P C o a w (s.put o.dst c):=by
 have y:(bF P o.type X).map SOp.mov=some so:=by rcases h with h|h<;>simpa only[bG,h]using I
 obtain⟨r,E,rfl⟩:=ah.1 y;simp only[val,ax.injEq,bD.injEq]at F;obtain⟨_,rfl⟩:=F;exact⟨a.eval X,w,x,.value (a.eval X),by rcases h with h|h<;>simp only[execOp,h]<;>rfl,.inl rfl,hM.put o.dst (aP hM E)⟩
theorem Ju(hM:aR C x s a w){t:TypeId}{X:Operand}(L:o.op= .load t X)(h:bG P o=some so)(J:val s so=some (p,c))(T:p):cA P C o a w (s.put o.dst c):=by
 simp only[bG,L]at h;split at h<;>try (cases h;done)
 rename_i n W r hn I F;split at h<;>try (cases h;done)
 rename_i Q;cases h;simp only[val]at J;obtain⟨b,off,cs,hX,rfl,O⟩:=mW hM (aP hM F) J T;obtain⟨v,y,E⟩:=qx (P:=P) O hn I Q;refine cA.val hM (m:=Instr.loadAt t (a.eval X)) (by simp only[execOp,L]) ?_ E;rw[hX];simp only[Instr.loadAt,Instr.sureAddr,aD,aN,an];exact y
theorem uW(hM:aR C x s a w){X:Operand}(E:o.op= .nilCheck X)(J:bG P o=some so)(y:val s so=some (p,c)):cA P C o a w (s.put o.dst c):=by
 simp only[bG,E]at J;obtain⟨r,F,rfl⟩:=ah.1 J;have h:=aP hM F;simp only[val]at y;cases hu:s.ev r with
 |ptr L off=>rw[hu]at y h;simp only[ax.injEq,bD.injEq]at y;obtain⟨_,rfl⟩:=y;exact⟨a.eval X,w,x,.value (a.eval X),by simp only[execOp,E];rw[h.ptr_inv];rfl,.inl rfl,hM.put o.dst h⟩
 |ap L O i j=>rw[hu]at y h;simp only[ax.injEq,bD.injEq]at y;obtain⟨_,rfl⟩:=y;exact⟨a.eval X,w,x,.value (a.eval X),by simp only[execOp,E];rw[h.ap_inv];rfl,.inl rfl,hM.put o.dst h⟩
 |pp cs=>rw[hu]at y h;simp only[ax.injEq,bD.injEq]at y;obtain⟨_,rfl⟩:=y;obtain⟨b,off,val,I,_⟩:=h.pp_inv;exact⟨a.eval X,w,x,.value (a.eval X),by simp only[execOp,E];rw[I];rfl,.inl rfl,hM.put o.dst h⟩
 |fn f c1 c2=>rw[hu]at y h;simp only[ax.injEq,bD.injEq]at y;obtain⟨_,rfl⟩:=y;obtain⟨v1,Q,I,_⟩:=h.fn_inv;exact⟨a.eval X,w,x,.value (a.eval X),by simp only[execOp,E];rw[I];rfl,.inl rfl,hM.put o.dst h⟩
 |_=>rw[hu]at y;simp at y
theorem GL(hM:aR C x s a w){op:BinOp}{t u:TypeId}{X Y:Operand}(ho:o.op= .binOp op t X Y u)(E:bG P o=some so)(a2:∀F n x y,so≠ .eqS F n x y)(h:val s so=some (p,c))(hp:p):cA P C o a w (s.put o.dst c):=by
 have L:execOp a.eval o=(do pure (.value (<-(do eqGuard op t X Y (a.eval X) (a.eval Y);binOp op t (a.eval X) (a.eval Y):Sem Value)))):=by simp only[execOp,ho]
 simp only[bG,ho]at E;split at E<;>try (cases E;done)
 ·rename_i x' y' hb O Z
  have T:=aP hM O;have h2:=aP hM Z
  have key:∀F:Bool,op=(if F then .neq else .eql)->val s (.beq F x' y')=some (p,c)->cA P C o a w (s.put o.dst c):=by
   intro F I h;simp only[val]at h;cases hu:s.ev x' with
   |bool J=>
    cases hw:s.ev y' with
    |bool b2=>
     rw[hu,hw]at h;rw[hu]at T;rw[hw]at h2;simp only[ax.injEq,bD.injEq]at h;obtain⟨_,rfl⟩:=h;refine cA.val hM L (u:= .bool (if F then decide (J≠b2)else decide (J=b2))) ?_ (ep _);rw[T.bool_inv,h2.bool_inv,show eqGuard op t X Y (.bool J) (.bool b2)=pure ()from by cases op<;>rfl];simp only[aD,aN,an];cases F<;>simp only[aO,if_false,if_true]at I<;>subst I
     ·rw[run_eql_bool w t J b2 hb];cases J<;>cases b2<;>rfl
     ·rw[run_neq_bool w t J b2 hb];cases J<;>cases b2<;>rfl
    |_=>rw[hu,hw]at h;simp at h
   |_=>rw[hu]at h;simp at h
  split at E<;>try (cases E;done)
  ·cases E;exact key false rfl h
  ·cases E;exact key true rfl h
 case h_4=>
  exfalso;split at E<;>try (cases E;done)
  split at E<;>try (cases E;done)
  split at E<;>first|(cases E;done)|(cases E;exact a2 _ _ _ _ rfl)
 case h_5=>exfalso;split at E<;>first|(cases E;done)|(cases E;simp[val]at h)
 case h_6=>
  rename_i ms x' _ hd O Z;have T:=aP hM O
  have key:∀F:Bool,op=(if F then .neq else .eql)->Y= .const .nilIface->val s (.isni F x')=some (p,c)->cA P C o a w (s.put o.dst c):=by
   intro F I hY h;simp only[val]at h;cases hu:s.ev x' with
   |nili=>
    rw[hu]at h T;simp only[ax.injEq,bD.injEq]at h;obtain⟨_,rfl⟩:=h;refine cA.val hM L (u:= .bool (!F)) ?_ (ep _);have a1:a.eval Y= .nilIface:=by rw[hY];rfl
    have hm:P.underlying t=some (.interface (P.methodsAt t)):=by rw[hd];simp[Program.methodsAt,hd]
    rw[T.nili_inv,a1]
    have hg:eqGuard op t X Y .nilIface .nilIface=pure ():=by subst hY;subst I;cases F<;>simp[eqGuard]
    rw[hg];simp only[aD,aN,an];subst I;cases F
    ·simp only[aO,if_false];rw[run_eql_nil_nil w t hm];rfl
    ·simp only[if_true];rw[run_neq_nil_nil w t hm];rfl
   |_=>rw[hu]at h;simp at h
  split at E<;>first|(cases E;done)|(cases E;exact key false rfl rfl h)|(cases E;exact key true rfl rfl h)
 all_goals
  rename_i O Z;cases E;simp only[val]at h;obtain⟨r,Q,W⟩:=YS (P:=P) (w:=w) (t:=t) (X:=X) (Y:=Y) (aP hM O) (aP hM Z) h hp;exact cA.val hM L Q W
theorem Jt(hM:aR C x s a w){op:UnOp}{t:TypeId}{X:Operand}(E:o.op= .unOp op t X)(J:bG P o=some so)(I:val s so=some (p,c)):cA P C o a w (s.put o.dst c):=by
 simp only[bG,E]at J;obtain⟨r,F,rfl⟩:=ah.1 J;have y:=aP hM F;simp only[val]at I;obtain⟨O,h,L⟩:=ah.1 I;simp only[bD.injEq]at L;obtain⟨_,rfl⟩:=L;cases hu:s.ev r with
 |bool b=>rw[hu]at h y;cases op<;>simp only[Aa,ax.injEq,reduceCtorEq]at h;subst h;exact cA.val hM (m:=Op.unary .not (a.eval X)) (by simp only[execOp,E]) (by rw[y.bool_inv];rfl) (ep _)
 |int k n=>
  rw[hu]at h y;cases op<;>simp only[Aa,ax.injEq,reduceCtorEq]at h<;>subst h
  ·exact cA.val hM (m:=Op.unary .neg (a.eval X)) (by simp only[execOp,E]) (by rw[y.int_inv];rfl) (cX _ _)
  ·exact cA.val hM (m:=Op.unary .xor (a.eval X)) (by simp only[execOp,E]) (by rw[y.int_inv];simp only[Op.unary,Op.intBits];rfl) (cX _ _)
 |_=>rw[hu]at h;simp[Aa]at h
theorem uX(hM:aR C x s a w){f:Go.Fn}{X Y:Array Operand}(O:o.op= .makeFunc f X Y)(y:bG P o=some so)(I:val s so=some (p,c)):cA P C o a w (s.put o.dst c):=by
 cases f<;>simp only[bG,O,reduceCtorEq]at y;rename_i g;split at y<;>try (cases y;done)
 rename_i l1 l2 W T;cases y;simp only[val,ax.injEq,bD.injEq]at I;obtain⟨_,rfl⟩:=I
 have key:∀(l:List Operand)(r:List Arg),kz (bF P 0) l=some r->cE x (r.map s.ev) (l.map a.eval):=by
  intro l;induction l with
  |nil=>intro r h;simp only[kz]at h;cases h;exact⟨rfl,fun i hi=>by simp at hi⟩
  |cons q l Z=>
   intro r h;simp only[kz]at h;split at h<;>try (cases h;done)
   rename_i b r' Q E;cases h;have F:=Z _ E;refine⟨by simpa using F.1,fun i hi=> ?_⟩;cases i with
   |zero=>simpa using aP hM Q
   |succ i=>simpa using F.2 i (by simpa using hi)
 have J:=key _ _ W;have L:=key _ _ T;refine cA.val hM (m:=Instr.makeFunc (.func g) (X.map a.eval) (Y.map a.eval)) (u:= .func (.func g) ⟨X.toList.map a.eval⟩ ⟨Y.toList.map a.eval⟩) (by simp only[execOp,O]) ?_ ?_
 ·simp only[Instr.makeFunc,aN]
  congr 2<;>(apply eI;simp)
 ·exact .fn g _ _ _ _ J.1 J.2 L.1 L.2
theorem xT(hM:aR C x s a w){X:Operand}{i:Nat}(L:o.op= .extract X i)(J:bG P o=some so)(y:val s so=some (p,c))(I:p):cA P C o a w (s.put o.dst c):=by
 simp only[bG,L]at J;obtain⟨r,E,rfl⟩:=ah.1 J;have h:=aP hM E;simp only[val]at y;cases hu:s.ev r with
 |tup vs=>
  rw[hu]at y h;simp only[ax.injEq,bD.injEq]at y;obtain⟨rfl,rfl⟩:=y;obtain⟨us,O,F⟩:=h.tup_inv;have hi:i<us.length:=by rw[<-F.1];exact I
  refine cA.val hM (m:=Instr.extract (a.eval X) i) (u:=us.getD i undef) (by simp only[execOp,L]) ?_ (F.2 i I);rw[O];simp[Instr.extract,hi,aa]
 |_=>rw[hu]at y;simp at y
theorem sC(hM:aR C x s a w){t:TypeId}{X:Operand}{i:Nat}(F:o.op= .fieldAddr t X i)(E:bG P o=some so)(y:val s so=some (p,c)):cA P C o a w (s.put o.dst c):=by
 simp only[bG,F]at E;split at E<;>try (cases E;done)
 rename_i fs r O J;split at E<;>try (cases E;done)
 rename_i f Z;split at E<;>try (cases E;done)
 rename_i n hn;split at E
 ·cases E
 rename_i hn0;cases E;have h:=aP hM J
 have run:∀b off,a.eval X= .pointer (some ⟨b,off,none⟩)->(Instr.fieldAt t (a.eval X) i).run P w= .ok (.pointer (some ⟨b,off+f.offset,none⟩)) w:=by intro b off L;rw[L];simp only[Instr.fieldAt,aD,run_underlying O,an,Z,Instr.sureAddr,aN,fieldPlace,cr hn,if_neg hn0,dD]
 simp only[val]at y;cases hu:s.ev r with
 |ptr Q off=>rw[hu]at y h;simp only[ax.injEq,bD.injEq]at y;obtain⟨_,rfl⟩:=y;exact cA.val hM (by simp only[execOp,F]) (run _ _ h.ptr_inv) (.ptr Q (off+f.offset))
 |ap Q W i j=>rw[hu]at y h;simp only[ax.injEq,bD.injEq]at y;obtain⟨_,rfl⟩:=y;refine cA.val hM (by simp only[execOp,F]) (run _ _ h.ap_inv) ?_;rw[fu];exact .ap Q W i (j+f.offset)
 |pp cs=>
  rw[hu]at y h;simp only[ax.injEq,bD.injEq]at y;obtain⟨_,rfl⟩:=y;obtain⟨b,off,T,L,hg,hh⟩:=h.pp_inv;refine cA.val hM (by simp only[execOp,F]) (run _ _ L) (.dat _ _ (.pp _ b (off+f.offset) (fun j=>T (f.offset+j)) ?_ ?_) trivial)
  ·intro j I;rw[fu];exact hg _ (by simp only[aG]at I;omega)
  ·intro j I;rw[lX];exact hh _ (by simp only[aG]at I;omega)
 |_=>rw[hu]at y;simp at y
theorem yF{cs:t8}{vs:LAc}(h:cE x cs vs){t:TypeId}{n:Nat}{E:Bool}{off:Nat}(hn:fK P t=some n)(y:sX P t=some E)(F:(E||n==1)=true)(I:off+n<=cs.length):
 ∃v,(part t ⟨vs⟩ off).run P w= .ok v w/\Rep x (ej E n (cs.drop off)) v:=by
 have J:=h.1;cases E with
 |true=>
  refine⟨.agg ⟨(vs.drop off).take n⟩, ?_, ?_⟩
  ·simp only[part,aD,fi y,an,if_true,cr hn,aN]
   congr 2
   apply eI;simp
  ·simp only[ej,if_true]
   refine .agg _ _ (by simp;omega) fun i hi=> ?_
   have hi:i<n:=by simp only[aq]at hi;omega
   have:=h.get (off+i);simp only[aa,bL,if_pos hi,bz]at this ⊢;exact this
 |false=>
  simp at F;subst F;refine⟨vs.getD off undef, ?_, ?_⟩
  ·simp only[part,aD,fi y,an,aO,if_false]
   have:off<vs.length:=by omega
   simp[ac this,aa]
  ·simp only[ej,aO,if_false,lX,ft]
   exact h.get off
theorem GJ(hM:aR C x s a w){t:TypeId}{X:Operand}{i:Nat}(O:o.op= .field t X i)(h:bG P o=some so)(E:val s so=some (p,c))(hp:p):cA P C o a w (s.put o.dst c):=by
 simp only[bG,O]at h;split at h<;>try (cases h;done)
 rename_i fs r L I;split at h<;>try (cases h;done)
 rename_i f Z;split at h<;>try (cases h;done)
 rename_i n ag hn J;split at h<;>try (cases h;done)
 rename_i h1;cases h;have y:=aP hM I;simp only[val]at E;cases hu:s.ev r with
 |agg cs=>rw[hu]at E y;simp only[ax.injEq,bD.injEq]at E;obtain⟨rfl,rfl⟩:=E;obtain⟨vs,T,W⟩:=y.agg_inv;obtain⟨v,F,Q⟩:=yF (P:=P) (w:=w) W hn J h1 hp;refine cA.val hM (m:=Instr.field t (a.eval X) i) (by simp only[execOp,O]) ?_ Q;rw[T];simp only[Instr.field,aD,run_underlying L,an,Z,asAgg,aN];exact F
 |_=>rw[hu]at E;simp at E
theorem K7{l:d9}{t:Tok}{v:Value}(h:cL x.G (.byt l t) v)(i:Nat)(hi:i<l.length):∃b off cap,v= .slice (some ⟨b,off,none⟩) l.length cap/\x.G b (off+i)=some (.int .u8 (l.getD i 0).toNat):=by
 cases h with
 |bytN=>simp at hi
 |bytE=>simp at hi
 |byt _ _ b off cap n hn y h=>subst hn;exact⟨b,off,cap,rfl,h i hi⟩
theorem jF{u:SV}{v:Value}{n:Int}(h:Rep x u v)(hn:u.num=some n):∃k,v= .int k n:=by
 cases u<;>simp only[SV.num,ax.injEq,reduceCtorEq]at hn
 ·subst hn;exact⟨_,h.int_inv⟩
 ·subst hn;exact⟨_,h.u8_inv⟩
theorem sB(hM:aR C x s a w){t:TypeId}{X Y:Operand}(ho:o.op= .indexAddr t X Y)(T:bG P o=some so)(h:val s so=some (p,c))(W:p):cA P C o a w (s.put o.dst c):=by
 have F:execOp a.eval o=(do pure (.value (<-Instr.indexAt t (a.eval X) (a.eval Y)))):=by simp only[execOp,ho]
 simp only[bG,ho]at T;split at T<;>try (cases T;done)
 ·rename_i e r q hd Z a1
  split at T<;>try (cases T;done)
  rename_i n hn;cases T;have J:=aP hM Z;have h2:=aP hM a1
  have run:∀(b:Nat)(off len cap:Nat)(k:IntKind)(i:Int),a.eval X= .slice (some ⟨b,off,none⟩) len cap->a.eval Y= .int k i->0<=i->i<len->(Instr.indexAt t (a.eval X) (a.eval Y)).run P w= .ok (.pointer (some ⟨b,off+i.toNat*n,none⟩)) w:=by intro b off len cap k i he hf E I;rw[he,hf];simp only[Instr.indexAt,asIntOf,aD,aN,an,run_underlying hd,if_pos (And.intro E I),cr hn,dD]
  simp only[val]at h;split at h<;>try (cases h;done)
  ·rename_i l tk i hu Q
   rw[hu]at J;obtain⟨k,L⟩:=jF h2 Q;simp only[ax.injEq,bD.injEq]at h;obtain⟨rfl,rfl⟩:=h;obtain⟨E,I,rfl⟩:=W;obtain⟨b,off,cap,he,hg⟩:=K7 (J.data rfl) i.toNat (by omega);refine cA.val hM F (run b off l.length cap k i he L E I) (.dat _ _ (.pp _ b (off+i.toNat*1) (fun _=> .int .u8 (l.getD i.toNat 0).toNat) ?_ ?_) trivial)
   ·intro j O
    obtain rfl:j=0:=by simpa using O
    simpa using hg
   ·intro j O
    obtain rfl:j=0:=by simpa using O
    exact .u8 _
  ·rename_i a8 xs tk i hu Q
   rw[hu]at J;obtain⟨k,L⟩:=jF h2 Q;simp only[ax.injEq,bD.injEq]at h;obtain⟨rfl,rfl⟩:=h;obtain⟨E,I,rfl⟩:=W;have y:=J.data rfl;cases hXv:a.eval X with
   |slice ad len cap=>
    rw[hXv]at y;cases y with
    |lstN=>simp at I;omega
    |lstE=>simp at I;omega
    |lst _ _ _ b off b1 n' vl b3 hc hl hg hh=>
     have a2:i.toNat<len:=by omega
     have b0:=hl _ a2;refine cA.val hM F (run b off len cap k i hXv L E (by omega)) (.dat _ _ (.pp _ b (off+i.toNat*n) (fun j=>vl i.toNat j) ?_ ?_) trivial)
     ·intro j O;exact hg _ _ a2 (by omega)
     ·intro j O;exact hh _ _ a2 (by omega)
   |_=>rw[hXv]at y;cases y
  ·rename_i o' a8 off kk cp i hu Q
   rw[hu]at J;obtain⟨k,L⟩:=jF h2 Q;simp only[ax.injEq,bD.injEq]at h;obtain⟨rfl,rfl⟩:=h;obtain⟨E,I,rfl⟩:=W;obtain⟨cp,b4,_,a6,he,a7⟩:=J.psl_inv;refine cA.val hM F (run _ a6 kk _ k i he L E I) ?_;rcases a7 with h'|rfl
   ·omega
   ·rw[<-bE]
    exact .ap o' n (off+i.toNat) 0
 ·rename_i kk e r q hd Z a1
  split at T<;>try (cases T;done)
  rename_i n hn;cases T;have J:=aP hM Z;have h2:=aP hM a1
  have run:∀(b:Nat)(off:Nat)(k:IntKind)(i:Int),a.eval X= .pointer (some ⟨b,off,none⟩)->a.eval Y= .int k i->0<=i->i<kk->(Instr.indexAt t (a.eval X) (a.eval Y)).run P w= .ok (.pointer (some ⟨b,off+i.toNat*n,none⟩)) w:=by intro b off k i he hf E I;rw[he,hf];simp only[Instr.indexAt,asIntOf,Instr.sureAddr,aD,aN,an,run_underlying hd,if_pos (And.intro E I),cr hn,dD]
  simp only[val]at h;split at h<;>try (cases h;done)
  ·rename_i o' off i hu Q
   rw[hu]at J;obtain⟨k,L⟩:=jF h2 Q;split at h<;>try (cases h;done)
   ·simp only[ax.injEq,bD.injEq]at h;obtain⟨rfl,rfl⟩:=h
    exact cA.val hM F (run _ off k i J.ptr_inv L W.1 W.2) (.ptr o' _)
   ·split at h<;>try (cases h;done)
    rename_i E;subst E;simp only[ax.injEq,bD.injEq]at h;obtain⟨rfl,rfl⟩:=h;refine cA.val hM F (run _ 0 k i J.ptr_inv L W.1 W.2) ?_;rw[bT];exact .ap o' n i.toNat 0
  ·rename_i cs i hu Q
   rw[hu]at J;obtain⟨k,L⟩:=jF h2 Q;simp only[ax.injEq,bD.injEq]at h;obtain⟨rfl,rfl⟩:=h;obtain⟨E,I,h4⟩:=W;have y:=J.data rfl;cases hXv:a.eval X with
   |pointer ad=>
    rw[hXv]at y;cases y with
    |pp _ b off vl hg hh=>
     refine cA.val hM F (run b off k i hXv L E I) (.dat _ _ (.pp _ b (off+i.toNat*n) (fun j=>vl (i.toNat*n+j)) ?_ ?_) trivial)
     ·intro j O
      rw[aG]at O;rw[fu];exact hg _ (by omega)
     ·intro j O
      rw[aG]at O;have:=hh (i.toNat*n+j) (by omega);simp only[aa,bz]at this ⊢;exact this
   |_=>rw[hXv]at y;cases y
theorem GI(hM:aR C x s a w){t:TypeId}{X Y:Operand}(ho:o.op= .index t X Y)(E:bG P o=some so)(h:val s so=some (p,c))(hp:p):cA P C o a w (s.put o.dst c):=by
 have Q:execOp a.eval o=(do pure (.value (<-Instr.index t (a.eval X) (a.eval Y)))):=by simp only[execOp,ho]
 simp only[bG,ho]at E;split at E<;>try (cases E;done)
 ·rename_i kk e r q hd F I
  split at E<;>try (cases E;done)
  rename_i n ag hn T;split at E<;>try (cases E;done)
  rename_i a1;cases E;have O:=aP hM F;have h2:=aP hM I;simp only[val]at h;split at h<;>try (cases h;done)
  rename_i cs i hu W;rw[hu]at O;obtain⟨k,Z⟩:=jF h2 W;simp only[ax.injEq,bD.injEq]at h;obtain⟨rfl,rfl⟩:=h;obtain⟨h0,h3,h4⟩:=hp;obtain⟨vs,he,hl⟩:=O.agg_inv;have y:i.toNat<kk:=by omega
  have hb:i.toNat*n+n<=cs.length:=by rw[h4];have:=bh n (Nat.succ_le_of_lt y);rw[ee]at this;exact this
  obtain⟨v,L,hc⟩:=yF (P:=P) (w:=w) hl hn T a1 hb;refine cA.val hM Q ?_ hc;rw[he,Z];simp only[Instr.index,asIntOf,aD,aN,an,run_underlying hd,if_pos (And.intro h0 h3),cr hn];exact L
 ·rename_i r q hd F I
  cases E;have O:=aP hM F;have h2:=aP hM I;simp only[val]at h;split at h<;>try (cases h;done)
  rename_i l i hu W;rw[hu]at O;obtain⟨k,Z⟩:=jF h2 W;simp only[ax.injEq,bD.injEq]at h;obtain⟨rfl,rfl⟩:=h;refine cA.val hM Q (u:= .int .u8 (l.getD i.toNat 0).toNat) ?_ (pB _);rw[O.str_inv,Z];have y:i.toNat<l.length:=by omega
  have J:(ByteArray.mk ⟨l⟩)[i.toNat]? =some (l.getD i.toNat 0):=by rw[ByteArray.getElem?_lt' _ _ (by simpa[ByteArray.size]using y),aa,ac y];rfl
  simp only[Instr.index,asIntOf,aD,aN,an,run_underlying hd,if_pos hp.1,J]
end Go.Sy
namespace Go.Sy
variable [br]
variable {P : Program} {C : Ctx} {x : Sit} {s : St} {a : Act} {w : World} {o : Oper} {so : SOp} {p : Prop} {c : SV}
theorem kR{k:IntKind}{i:Int}{y:Nat}{code:BoundsCode}(h:0<=i)(E:i<=y):(Instr.sliceBound (.int k i) y code).run P w= .ok i.toNat w:=by simp only[Instr.sliceBound,asIntOf,aD,aN,an,if_pos (And.intro h E)]
theorem vn{b:Bool}{len J:Nat}{lo hi I:Option Value}{i j m:Int}(E:0<=i)(O:i<=j)(L:j<=m)(Q:m<=J)
 (h:lo=none/\i=0\/∃k,lo=some (.int k i)) (F:hi=none/\j=len\/∃k,hi=some (.int k j)) (y:I=none/\m=J\/(∃k,I=some (.int k m))/\hi≠none):
 (Instr.sliceBounds b len J lo hi I).run P w= .ok (i.toNat,j.toNat,m.toNat) w:=by
 rcases y with⟨rfl,rfl⟩|⟨⟨k,rfl⟩,hne⟩<;>rcases F with⟨rfl,rfl⟩|⟨k',rfl⟩<;>rcases h with⟨rfl,rfl⟩|⟨k'',rfl⟩
 all_goals try exact absurd rfl hne
 all_goals simp only[Instr.sliceBounds,aD,aN,an]
 ·simp
 ·rw[kR E (by omega)];simp
 ·rw[kR (by omega) (by omega)];simp
 ·rw[kR (by omega) (by omega)];simp only[an];rw[kR E (by omega)];simp
 ·rw[kR (by omega) (by omega)];simp only[an];rw[kR (by omega) (by omega)];simp
 ·rw[kR (by omega) (by omega)];simp only[an];rw[kR (by omega) (by omega)];simp only[an];rw[kR E (by omega)];simp
theorem gE(hM:aR C x s a w){q:Option Operand}{r:Option Arg}{d i:Int}(y:yH (bF P 0) q=some r)(h:ju s r d=some i):
 q.map a.eval=none/\i=d/\r=none\/(∃k,q.map a.eval=some (.int k i))/\r≠none:=by
 cases q with
 |none=>simp only[yH]at y;cases y;simp only[ju,ax.injEq]at h;exact .inl ⟨rfl,h.symm,rfl⟩
 |some q=>simp only[yH]at y;obtain⟨I,E,rfl⟩:=ah.1 y;simp only[ju]at h;obtain⟨k,F⟩:=jF (aP hM E) h;exact .inr ⟨⟨k,by simp[F]⟩,by simp⟩
theorem yi{L:Nat}{h:Option Addr}{n O:Nat}{i j m:Int}(h1:0<=i)(h2:i<=j)(h3:j<=m)(h4:m<=O)(h5:j<=n){t:Tok}{hn E:Bool}
 (J:dR x L t (.slice h n O)) (y:hn=true->E=false->j=n/\m=O) (F:E=true->j=m):
 dR x L (nb t hn E) (.slice (if m.toNat=i.toNat then h else h.map (·.add (i.toNat*L))) (j.toNat-i.toNat) (m.toNat-i.toNat)):=by
 unfold nb;split
 ·rename_i Q
  exact⟨_,j.toNat-i.toNat,by rw[F Q]⟩
 ·rename_i Q
  split
  ·rename_i T
   obtain⟨rfl,rfl⟩:=y T (by simpa using Q);cases t with
   |no=>trivial
   |clip=>obtain⟨Z,n',I⟩:=J;simp only[Value.slice.injEq]at I;exact⟨_,_,by rw[I.2.1,I.2.2]⟩
   |id t=>
    obtain⟨Z,n',a1,I,T⟩:=J;simp only[Value.slice.injEq]at I;obtain⟨rfl,rfl,rfl⟩:=I;refine⟨_,_,_,rfl, ?_⟩;rcases T with rfl|⟨bb,off,rfl,ht⟩
    ·exact .inl rfl
    ·by_cases W:O=i.toNat
     ·left;omega
     ·right
      refine⟨bb,off+i.toNat*L,by simp[W,dD], ?_⟩;rw[ht];simp only[Int.toNat_natCast,bD.injEq,true_and];constructor
      ·rw[fu,<-bE];congr 2;omega
      ·rw[fu,<-bE];congr 2;omega
  ·trivial
theorem iN{α:Type}(l:List α)(i j k:Nat)(d:α)(h:k+i<j):((l.take j).drop i).getD k d=l.getD (i+k) d:=by simp only[aa,bz,bL];rw[if_pos (by omega)]
theorem xW(hM:aR C x s a w){t e:TypeId}{n:Nat}(hd:P.underlying t=some (.slice e))(hn:fK P e=some n){X:Operand}{lo hi mx:Option Operand}{b6 Z y:Option Arg}{r:Arg}
 (h1:Rep x (s.ev r) (a.eval X)) (d2:yH (bF P 0) lo=some b6) (d3:yH (bF P 0) hi=some Z) (b7:yH (bF P 0) mx=some y) (d1:¬(y.isSome&&Z.isNone)=true)
 (J:kp s n (s.ev r) b6 Z y=some (p,c)) (hp:p):∃v,(Instr.sliceAt t (a.eval X) (lo.map a.eval) (hi.map a.eval) (mx.map a.eval)).run P w= .ok v w/\Rep x c v:=by
 have run:∀(I:Option Addr)(len L:Nat)(i j m:Int),a.eval X= .slice I len L->0<=i->i<=j->j<=m->m<=L->ju s b6 0=some i->ju s Z len=some j->
  (y=none->m=L)->(y≠none->ju s y L=some m)->
  (Instr.sliceAt t (a.eval X) (lo.map a.eval) (hi.map a.eval) (mx.map a.eval)).run P w= .ok (.slice (if m.toNat=i.toNat then I else I.map (·.add (i.toNat*n))) (j.toNat-i.toNat) (m.toNat-i.toNat)) w:=by
  intro I len L i j m he h0 h2 h3 h4 T F c3 e0;rw[he];have e1:=gE hM d2 T;have e2:=gE hM d3 F
  have hb:(Instr.sliceBounds true len L (lo.map a.eval) (hi.map a.eval) (mx.map a.eval)).run P w= .ok (i.toNat,j.toNat,m.toNat) w:=by
   refine vn h0 h2 h3 h4 ?_ ?_ ?_
   ·rcases e1 with⟨O,q2,_⟩|⟨O,_⟩
    ·exact .inl ⟨O,q2⟩
    ·exact .inr O
   ·rcases e2 with⟨O,q2,_⟩|⟨O,_⟩
    ·exact .inl ⟨O,q2⟩
    ·exact .inr O
   ·by_cases E:y=none
    ·subst E
     have:ju s none (L:Int)=some (L:Int):=rfl;rcases gE hM b7 this with⟨O,q2,_⟩|⟨_,q2⟩
     ·exact .inl ⟨O,c3 rfl⟩
     ·exact absurd rfl q2
    ·rcases gE hM b7 (e0 E)with⟨_,_,q⟩|⟨O,_⟩
     ·exact absurd q E
     ·refine .inr ⟨O, ?_⟩
      rcases e2 with⟨O,_,q3⟩|⟨⟨k,O⟩,_⟩
      ·exfalso;apply d1;subst q3;cases y with
       |none=>exact absurd rfl E
       |some _=>rfl
      ·rw[O];simp
  simp only[Instr.sliceAt,Instr.slice,aD,run_underlying hd,an,hb,cr hn,aN]
 cases hu:s.ev r with
 |byt l tk=>
  rw[hu]at J h1;simp only[kp]at J;split at J<;>try (cases J;done)
  rename_i i j m T F b0;simp only[ax.injEq,bD.injEq]at J;obtain⟨rfl,rfl⟩:=J;obtain⟨q0,O,q2,q3,rfl,q4⟩:=hp;obtain⟨I,L,he,hc,hD,b1⟩:=h1.byt_inv;rw[he]at hD b1
  obtain⟨W,a2,a6,a7,a8⟩:∃W:Int,W<=L/\j<=W/\(y=none->W=L)/\(y≠none->W=m):=by
   by_cases E:y=none
   ·exact⟨L,by omega,by omega,fun _=>rfl,fun h=>absurd E h⟩
   ·exact⟨m,by omega,q2,fun h=>absurd h E,fun _=>rfl⟩
  refine⟨_,run I l.length L i j W he q0 O a6 a2 T F a7 (fun h=> ?_), ?_⟩
  ·rw[a8 h];cases y with
   |none=>exact absurd rfl h
   |some q=>simpa only[ju]using b0
  ·refine .dat _ _ ?_ ?_
   ·have a1:((l.take j.toNat).drop i.toNat).length=j.toNat-i.toNat:=by rw[aG,aq,fR (by omega)]
    cases hD with
    |bytN=>
     have:i.toNat=0/\j.toNat=0/\W.toNat=0:=by simp at q3;omega
     obtain⟨z1,z2,z3⟩:=this;simp only[z1,z2,z3,List.take_nil,List.drop_nil,Option.map_none,ite_self];exact .bytN _
    |bytE _ ad=>
     have:i.toNat=0/\j.toNat=0/\W.toNat=0:=by simp at q3;omega
     obtain⟨z1,z2,z3⟩:=this;simp only[z1,z2,z3,List.take_nil,List.drop_nil,if_true];exact .bytE _ _
    |byt _ _ b off _ _ c5 d6 hg=>
     by_cases Q:W.toNat=i.toNat
     ·rw[if_pos Q]
      exact .byt _ _ b off _ _ a1.symm (by omega) (fun k hk=>by omega)
     ·rw[if_neg Q,bB,dD]
      refine .byt _ _ b (off+i.toNat*1) _ _ a1.symm (by omega) (fun k hk=> ?_);rw[iN _ _ _ _ _ (by omega),dp,fu];exact hg _ (by omega)
   ·refine yi q0 O a6 a2 (by omega) b1 ?_ ?_
    ·intro hh hx
     have E:y=none:=by cases y with|none=>rfl|some _=>simp at hx
     have b5:Z=none:=by cases Z with|none=>rfl|some _=>simp at hh
     subst b5;simp only[ju,ax.injEq]at F;exact⟨F.symm,a7 E⟩
    ·intro hx
     have E:y≠none:=by rintro rfl;simp at hx
     rw[a8 E];exact q4 hx
 |lst d4 l tk=>
  rw[hu]at J h1;simp only[kp]at J;split at J<;>try (cases J;done)
  rename_i i j m T F b0;simp only[ax.injEq,bD.injEq]at J;obtain⟨rfl,rfl⟩:=J;obtain⟨q0,O,q2,q3,rfl,q4⟩:=hp;obtain⟨I,L,he,hc,hD,b1⟩:=h1.lst_inv;rw[he]at hD b1
  obtain⟨W,a2,a6,a7,a8⟩:∃W:Int,W<=L/\j<=W/\(y=none->W=L)/\(y≠none->W=m):=by
   by_cases E:y=none
   ·exact⟨L,by omega,by omega,fun _=>rfl,fun h=>absurd E h⟩
   ·exact⟨m,by omega,q2,fun h=>absurd h E,fun _=>rfl⟩
  refine⟨_,run I l.length L i j W he q0 O a6 a2 T F a7 (fun h=> ?_), ?_⟩
  ·rw[a8 h];cases y with
   |none=>exact absurd rfl h
   |some q=>simpa only[ju]using b0
  ·refine .dat _ _ ?_ ?_
   ·have a1:((l.take j.toNat).drop i.toNat).length=j.toNat-i.toNat:=by rw[aG,aq,fR (by omega)]
    cases hD with
    |lstN=>
     have:i.toNat=0/\j.toNat=0/\W.toNat=0:=by simp at q3;omega
     obtain⟨z1,z2,z3⟩:=this;simp only[z1,z2,z3,List.take_nil,List.drop_nil,Option.map_none,ite_self];exact .lstN _ _
    |lstE _ _ ad=>
     have:i.toNat=0/\j.toNat=0/\W.toNat=0:=by simp at q3;omega
     obtain⟨z1,z2,z3⟩:=this;simp only[z1,z2,z3,List.take_nil,List.drop_nil,if_true];exact .lstE _ _ _
    |lst _ _ _ b off _ _ vl c5 d6 hl hg hh=>
     by_cases Q:W.toNat=i.toNat
     ·rw[if_pos Q]
      exact .lst _ _ _ b off _ _ vl a1.symm (by omega) (fun k hk=>by omega) (fun k j' hk hj=>by omega) (fun k j' hk hj=>by omega)
     ·rw[if_neg Q,bB,dD]
      refine .lst _ _ _ b (off+i.toNat*n) _ _ (fun k j'=>vl (i.toNat+k) j') a1.symm (by omega) (fun k hk=> ?_) (fun k j' hk hj=> ?_) (fun k j' hk hj=> ?_)
      ·rw[iN _ _ _ _ _ (by omega)];exact hl _ (by omega)
      ·rw[show off+i.toNat*n+k*n+j'=off+(i.toNat+k)*n+j' from by rw[bE];omega]
       exact hg _ _ (by omega) hj
      ·rw[iN _ _ _ _ _ (by omega)];exact hh _ _ (by omega) hj
   ·refine yi q0 O a6 a2 (by omega) b1 ?_ ?_
    ·intro hh hx
     have E:y=none:=by cases y with|none=>rfl|some _=>simp at hx
     have b5:Z=none:=by cases Z with|none=>rfl|some _=>simp at hh
     subst b5;simp only[ju,ax.injEq]at F;exact⟨F.symm,a7 E⟩
    ·intro hx
     have E:y≠none:=by rintro rfl;simp at hx
     rw[a8 E];exact q4 hx
 |psl o' d4 off k d7=>
  cases d7 with
  |none=>
   rw[hu]at J h1;simp only[kp]at J;split at J<;>try (cases J;done)
   rename_i i j T F;simp only[ax.injEq,bD.injEq]at J;obtain⟨rfl,rfl⟩:=J;obtain⟨q0,O,q2,rfl⟩:=hp;obtain⟨L,e3,b3,he,b4,e4⟩:=h1.psl_invK;refine⟨_,run _ k L i j L he q0 O (by omega) (by omega) T F (fun _=>rfl) (fun h=>absurd rfl h), ?_⟩
   by_cases Q:(L:Int).toNat=i.toNat
   ·rw[if_pos Q]
    exact .psl o' n _ _ _ b3 _ (.inl (by omega)) (by omega) (fun _ e=>by cases e) (fun _=> .inl (by omega))
   ·rw[if_neg Q,bB,dD]
    refine .psl o' n _ _ _ _ _ (.inr ?_) (by omega) (fun _ e=>by cases e) (fun _=>e4.imp (fun h=>by omega) fun k1=> ?_)
    rotate_left
    ·have e2:i.toNat*n+((L:Int).toNat-i.toNat)*n=L*n:=by rw[<-bE];congr 1;omega
     omega
    rcases b4 with h'|rfl
    ·omega
    ·rw[bE]
  |some d5=>
   rw[hu]at J h1;simp only[kp]at J;split at J<;>try (cases J;done)
   rename_i i j m T F b0;simp only[ax.injEq,bD.injEq]at J;obtain⟨rfl,rfl⟩:=J;obtain⟨q0,O,q2,q3,rfl⟩:=hp;obtain⟨L,e3,c7,b3,he,b4⟩:=h1.psl_inv;obtain rfl:=c7 _ rfl;refine⟨_,run _ k d5 i j m he q0 O q2 q3 T F (fun h=> ?_) (fun _=>b0), ?_⟩
   ·subst h;simp only[ju,ax.injEq]at b0;exact b0.symm
   ·by_cases Q:m.toNat=i.toNat
    ·rw[if_pos Q]
     exact .psl o' n _ _ _ b3 _ (.inl (by omega)) (by omega) (fun _ e=>by cases e;rfl) (fun e=>by cases e)
    ·rw[if_neg Q,bB,dD]
     refine .psl o' n _ _ _ _ _ (.inr ?_) (by omega) (fun _ e=>by cases e;rfl) (fun e=>by cases e);rcases b4 with h'|rfl
     ·omega
     ·rw[bE]
 |_=>rw[hu]at J;simp[kp]at J
end Go.Sy
namespace Go.Sy
variable [br]
variable {P : Program} {C : Ctx} {x : Sit} {s : St} {a : Act} {w : World} {o : Oper} {so : SOp} {p : Prop} {c : SV}
theorem DS(l:d9)(i j:Nat):(ByteArray.mk ⟨l⟩).extract i j=ByteArray.mk ⟨(l.take j).drop i⟩:=by apply ByteArray.ext;simp[ByteArray.data_extract,List.extract_eq_take_drop,fY]
theorem GH(hM:aR C x s a w){t:TypeId}{X:Operand}{lo hi mx:Option Operand}(ho:o.op= .slice t X lo hi mx)(E:bG P o=some so)(y:val s so=some (p,c))(hp:p):cA P C o a w (s.put o.dst c):=by
 have Q:execOp a.eval o=(do pure (.value (<-Instr.sliceAt t (a.eval X) (lo.map a.eval) (hi.map a.eval) (mx.map a.eval)))):=by simp only[execOp,ho]
 simp only[bG,ho]at E;split at E<;>try (cases E;done)
 rename_i b3 b1 a6 r I L F hX;split at E
 ·cases E
 rename_i a2;split at E<;>try (cases E;done)
 ·rename_i hd
  split at E<;>try (cases E;done)
  rename_i a8;cases E;have Z:=aP hM hX;simp only[val]at y;cases hu:s.ev r with
  |str l=>
   rw[hu]at y Z;simp only[]at y;split at y<;>try (cases y;done)
   rename_i i j J O;simp only[ax.injEq,bD.injEq]at y;obtain⟨rfl,rfl⟩:=y;obtain⟨q0,q1,q2⟩:=hp;refine cA.val hM Q (u:= .string ⟨⟨(l.take j.toNat).drop i.toNat⟩⟩) ?_ (mh _);have e1:=gE hM I J;have e2:=gE hM L O
   have W:mx.map a.eval=none:=by
    cases mx with
    |none=>rfl
    |some q=>simp only[yH]at F;obtain⟨_,_,rfl⟩:=ah.1 F;simp at a8
   have hb:(Instr.sliceBounds false l.length l.length (lo.map a.eval) (hi.map a.eval) none).run P w= .ok (i.toNat,j.toNat,(l.length:Int).toNat) w:=
    vn q0 q1 q2 (by omega) (e1.imp (fun h=>⟨h.1,h.2.1⟩) (fun h=>h.1)) (e2.imp (fun h=>⟨h.1,h.2.1⟩) (fun h=>h.1)) (.inl ⟨rfl,rfl⟩)
   rw[Z.str_inv,W];have b0:(ByteArray.mk ⟨l⟩).size=l.length:=by simp[ByteArray.size]
   simp only[Instr.sliceAt,Instr.slice,aD,run_underlying hd,an,b0,hb,DS,Option.isSome_none,aO,if_false,aN]
  |_=>rw[hu]at y;simp at y
 ·rename_i e hd
  split at E<;>try (cases E;done)
  rename_i n hn;cases E;simp only[val]at y;obtain⟨v,T,hc⟩:=xW hM hd hn (aP hM hX) I L F a2 y hp;exact cA.val hM Q T hc
 ·rename_i k e hd
  split at E<;>try (cases E;done)
  rename_i n hn;cases E;have Z:=aP hM hX;simp only[val]at y;split at y<;>try (cases y;done)
  rename_i o' hu;rw[hu]at Z;simp only[kp]at y;split at y<;>try (cases y;done)
  rename_i i j m J O a7;simp only[ax.injEq,bD.injEq]at y;obtain⟨rfl,rfl⟩:=y;obtain⟨q0,q1,q2,q3,_⟩:=hp;have e1:=gE hM I J;have e2:=gE hM L O;have e3:=gE hM F a7
  have hb:(Instr.sliceBounds false k k (lo.map a.eval) (hi.map a.eval) (mx.map a.eval)).run P w= .ok (i.toNat,j.toNat,m.toNat) w:=by
   refine vn q0 q1 q2 q3 (e1.imp (fun h=>⟨h.1,h.2.1⟩) (fun h=>h.1)) (e2.imp (fun h=>⟨h.1,h.2.1⟩) (fun h=>h.1)) ?_;rcases e3 with h|⟨h,h'⟩
   ·exact .inl ⟨h.1,h.2.1⟩
   ·refine .inr ⟨h, ?_⟩
    rcases e2 with⟨_,_,q⟩|⟨⟨_,q⟩,_⟩
    ·exfalso;apply a2;subst q;cases a6 with
     |none=>exact absurd rfl h'
     |some _=>rfl
    ·rw[q];simp
  refine cA.val hM Q (u:= .slice (some (if m.toNat=i.toNat then⟨(x.bk o').1,0,none⟩else(⟨(x.bk o').1,0,none⟩:Addr).add (i.toNat*n))) (j.toNat-i.toNat) (m.toNat-i.toNat)) ?_ ?_
  ·rw[Z.ptr_inv]
   simp only[Instr.sliceAt,Instr.sureAddr,aD,run_underlying hd,an,hb,cr hn,aN]
  ·by_cases a1:m.toNat=i.toNat
   ·rw[if_pos a1]
    exact .psl o' n _ _ _ 0 _ (.inl (by omega)) (by omega) (fun _ e=>by cases e;rfl) (fun e=>by cases e)
   ·rw[if_neg a1,dD]
    exact .psl o' n _ _ _ _ _ (.inr (by rw[bT,bT])) (by omega) (fun _ e=>by cases e;rfl) (fun e=>by cases e)
theorem gq{h:Call}{b:Builtin}(E:o.op= .call h)(y:h.callee= .builtin b)(m:Sem Value)
 (F:builtin b h.argTypes o.type (h.args.map fun| .const _=>true|_=>false) (h.args.map a.eval)=(do pure (.value (<-m)))):execOp a.eval o=(do pure (.value (<-m))):=by
 rw[<-F];simp only[execOp,E,resolve,y];rfl
theorem Yg(hM:aR C x s a w){L:Call}(Q:o.op= .call L)(O:L.callee= .builtin .cap)(J:bG P o=some so)(E:val s so=some (p,c)):cA P C o a w (s.put o.dst c):=by
 simp only[bG,Q,O]at J;split at J<;>try (cases J;done)
 rename_i X t hX ht;split at J<;>try (cases J;done)
 rename_i e r hd T;cases J;have I:=aP hM T;have ea:L.args= #[X]:=by apply eI;simpa using hX
 have et:L.argTypes= #[t]:=by apply eI;simpa using ht
 have run:∀(bs:Option Addr)(n F:Nat),a.eval X= .slice bs n F->(Builtin.cap_ L.argTypes o.type (L.args.map a.eval)).run P w= .ok (.int .i64 F) w:=by intro bs n F h;rw[ea,et];simp[Builtin.cap_,run_underlying hd,h,goInt]
 simp only[val]at E;split at E<;>try (cases E;done)
 ·rename_i o' sz off n F hu
  rw[hu]at I;simp only[ax.injEq,bD.injEq]at E;obtain⟨rfl,rfl⟩:=E;obtain⟨F,_,Z,a2,h,_⟩:=I.psl_inv;obtain rfl:=Z _ rfl;exact cA.val hM (gq Q O _ rfl) (run _ _ _ h) (cX _ _)
 ·rename_i l hu
  rw[hu]at I;simp only[ax.injEq,bD.injEq]at E;obtain⟨rfl,rfl⟩:=E;obtain⟨b',F,h,_,_,a1,W,y⟩:=I.byt_inv;rw[h]at y;simp only[Value.slice.injEq]at y;rw[show F=l.length from by omega]at h;exact cA.val hM (gq Q O _ rfl) (run _ _ _ h) (cX _ _)
 ·rename_i sz l hu
  rw[hu]at I;simp only[ax.injEq,bD.injEq]at E;obtain⟨rfl,rfl⟩:=E;obtain⟨b',F,h,_,_,a1,W,y⟩:=I.lst_inv;rw[h]at y;simp only[Value.slice.injEq]at y;rw[show F=l.length from by omega]at h;exact cA.val hM (gq Q O _ rfl) (run _ _ _ h) (cX _ _)
theorem Ye(hM:aR C x s a w){Q:Call}(L:o.op= .call Q)(I:Q.callee= .builtin .len)(E:bG P o=some so)(h:val s so=some (p,c)):cA P C o a w (s.put o.dst c):=by
 simp only[bG,L,I]at E;split at E<;>try (cases E;done)
 rename_i X t hX ht;have T:Q.args= #[X]:=by apply eI;simpa using hX
 have W:Q.argTypes= #[t]:=by apply eI;simpa using ht
 split at E<;>try (cases E;done)
 ·rename_i r hd y
  cases E;have F:=aP hM y;simp only[val]at h;cases hu:s.ev r with
  |str l=>
   rw[hu]at h F;simp only[kX,if_true,ax.injEq,bD.injEq]at h;obtain⟨_,rfl⟩:=h;refine cA.val hM (gq L I _ rfl) (u:= .int .i64 l.length) ?_ (cX _ _);rw[T,W];have Z:(ByteArray.mk ⟨l⟩).size=l.length:=by simp[ByteArray.size]
   simp only[Builtin.len_,List.map_toArray,aI,bJ,de,List.getElem?_cons_zero,aD,run_underlying hd,an,F.str_inv,Z,goInt];rfl
  |_=>rw[hu]at h;simp[kX]at h
 ·rename_i e r hd y
  cases E;have F:=aP hM y;simp only[val]at h
  have run:∀(bs:Option Addr)(n O:Nat),a.eval X= .slice bs n O->(Builtin.len_ Q.argTypes o.type (Q.args.map a.eval)).run P w= .ok (.int .i64 n) w:=by intro bs n O J;rw[T,W];simp only[Builtin.len_,List.map_toArray,aI,bJ,de,List.getElem?_cons_zero,aD,run_underlying hd,an,J,goInt];rfl
  cases hu:s.ev r with
  |byt l tk=>rw[hu]at h F;simp only[kX,aO,if_false,ax.injEq,bD.injEq]at h;obtain⟨_,rfl⟩:=h;obtain⟨b',O,J,_⟩:=F.byt_inv;exact cA.val hM (gq L I _ rfl) (run _ _ _ J) (cX _ _)
  |lst sz l tk=>rw[hu]at h F;simp only[kX,aO,if_false,ax.injEq,bD.injEq]at h;obtain⟨_,rfl⟩:=h;obtain⟨b',O,J,_⟩:=F.lst_inv;exact cA.val hM (gq L I _ rfl) (run _ _ _ J) (cX _ _)
  |psl o' sz off n O=>rw[hu]at h F;simp only[kX,aO,if_false,ax.injEq,bD.injEq]at h;obtain⟨_,rfl⟩:=h;obtain⟨O,_,a6,a2,J,_⟩:=F.psl_inv;exact cA.val hM (gq L I _ rfl) (run _ _ _ J) (cX _ _)
  |_=>rw[hu]at h;simp[kX]at h
 ·rename_i n e r hd y
  cases E;simp only[val,ax.injEq,bD.injEq]at h;obtain⟨_,rfl⟩:=h;refine cA.val hM (gq L I _ rfl) (u:= .int .i64 n) ?_ (cX _ _);rw[T,W];simp only[Builtin.len_,List.map_toArray,aI,bJ,de,List.getElem?_cons_zero,aD,run_underlying hd,an,goInt];rfl
 ·rename_i arr r hd y
  split at E<;>try (cases E;done)
  rename_i n e a1;cases E;simp only[val,ax.injEq,bD.injEq]at h;obtain⟨_,rfl⟩:=h;refine cA.val hM (gq L I _ rfl) (u:= .int .i64 n) ?_ (cX _ _);rw[T,W];simp only[Builtin.len_,List.map_toArray,aI,bJ,de,List.getElem?_cons_zero,aD,run_underlying hd,run_underlying a1,an,goInt];rfl
theorem pM(hM:aR C x s a w){F:Call}(Q:o.op= .call F)(E:F.callee= .builtin .min\/F.callee= .builtin .max)(y:bG P o=some so)(h:val s so=some (p,c)):cA P C o a w (s.put o.dst c):=by
 rcases E with E|E
 all_goals
  simp only[bG,Q,E]at y;split at y<;>try (cases y;done)
  rename_i X Y t u hX ht;split at y<;>try (cases y;done)
  rename_i r q I J;cases y;have O:=aP hM I;have L:=aP hM J;have T:F.args= #[X,Y]:=by apply eI;simpa using hX
  simp only[val]at h;split at h<;>try (cases h;done)
  rename_i k m k' n hu W;rw[hu]at O;rw[W]at L;split at h<;>try (cases h;done)
  rename_i Z;subst Z;simp only[ax.injEq,bD.injEq]at h;obtain⟨_,rfl⟩:=h;refine cA.val hM (gq Q E _ rfl) ?_ (cX _ _);rw[T,show(#[X,Y].map a.eval)= #[.int k m,.int k n]from by simp[O.int_inv,L.int_inv]]
  first
   |exact run_min_int2 w _ _ _ _ _ _
   |rw[run_max_int2 w _ _ _ _ _ _]
end Go.Sy
namespace Go.Sy
variable [br]
variable {P : Program} {C : Ctx} {x : Sit} {s : St} {a : Act} {w : World} {o : Oper} {so : SOp} {p : Prop} {c : SV}
theorem kb{e:TypeId}(h:m5 P e=true):P.underlying e=some (.int .u8):=by
 unfold m5 at h;split at h
 ·assumption
 ·cases h
theorem Yn(k:IntKind)(b:UInt8)(y:k≠ .i8)(h:k≠ .u8):k.wrap (b.toNat:Int)=b.toNat:=by have:=o9 b;cases k<;>simp[IntKind.wrap,IntKind.bits,IntKind.signed]at* <;>omega
theorem A6(ns:d9):∀(s:ByteArray),(ns.map fun b=>(b.toNat:Int)).foldl (fun r n=>r.push (io n.toNat)) s=⟨⟨s.data.toList++ns⟩⟩:=by
 induction ns with
 |nil=>intro s;simp
 |cons b r h=>intro s;simp only[aI,cR];rw[h];simp[ByteArray.push]
theorem D1{bs:Value}{l:d9}{y dst e:TypeId}(E:P.underlying y=some (.slice e))(F:P.underlying e=some (.int .u8))(hd:P.underlying dst=some .string)
 (h:((∃a,bs= .slice a 0 0)/\l=[])\/∃b off cap,bs= .slice (some ⟨b,off,none⟩) l.length cap/\∀i,i<l.length->w.cell? ⟨b,off+i,none⟩=some (.int .u8 (l.getD i 0).toNat)):
 (convert y dst bs).run P w= .ok (.string ⟨⟨l⟩⟩) w:=by
 rcases h with⟨⟨a,rfl⟩,rfl⟩|⟨b,off,cap,rfl,hc⟩
 ·rw[run_convert_bytes_string w y dst e _ _ _ E F hd];cases a<;>rfl
 ·rw[run_convert_bytes_string w y dst e _ _ _ E F hd]
  have I:(loadCells ⟨b,off,none⟩ l.length).run P w= .ok ((l.map fun b=>(b.toNat:Int)).map (Value.int .u8)).toArray w:=by
   rw[run_loadCells w _ _ (fun i=> .int .u8 (l.getD i 0).toNat) (fun j J=>by rw[dD];exact hc j J)]
   congr 2
   apply List.ext_getElem?;intro i
   by_cases hi:i<l.length
   ·simp[hi,aa]
   ·simp[hi]
  rw[run_bytesToString w _ _ _ _ I,A6];rfl
theorem il(w:World)(cs:LAd)(e:TypeId):((w.alloc (.cells cs e (0,0))).freeze ⟨w.heap.size,cs.size,none⟩ 1).heap=(w.alloc (.cells cs e (cs.size,cs.size+1))).heap:=by
 apply Array.ext_getElem?;intro i;simp only[World.freeze,Nat.one_ne_zero,if_false,World.alloc,Array.getElem?_modify,Array.getElem?_push]
 by_cases h:w.heap.size=i
 ·subst h;simp
 ·rw[if_neg h]
  have:¬i=w.heap.size:=fun e=>h e.symm
  simp[this]
theorem fd{b n:Nat}{e:TypeId}{off:Nat}(h:w.shape? b=some (e,n)):(markStringish ⟨b,off,none⟩).run P w= .ok () (w.freeze ⟨b,n,none⟩ 1):=by simp only[markStringish,aD,run_shape,an,h,run_freeze]
theorem xU(hM:aR C x s a w){a1 dst:TypeId}{X:Operand}(ho:o.op= .convert a1 dst X)(J:bG P o=some so)(y:val s so=some (p,c))(hp:p):cA P C o a w (s.put o.dst c):=by
 have O:execOp a.eval o=(do pure (.value (<-convert a1 dst (a.eval X)))):=by simp only[execOp,ho]
 simp only[bG,ho]at J;split at J<;>try (cases J;done)
 ·rename_i k0 k r Z hd F
  cases J;have I:=aP hM F;simp only[val]at y;obtain⟨c',E,T⟩:=ah.1 y;simp only[bD.injEq]at T;obtain⟨_,rfl⟩:=T
  have run:∀k1 n,a.eval X= .int k1 n->(convert a1 dst (a.eval X)).run P w= .ok (.int k (k.wrap n)) w:=by intro k1 n T;rw[T];simp[convert,run_underlying Z,run_underlying hd,Conv.intToInt]
  cases hu:s.ev r with
  |int k1 n=>
   rw[hu]at E I;refine cA.val hM O (run k1 n I.int_inv) ?_
   cases k<;>simp only[iT,ax.injEq]at E<;>subst E<;>first
    |exact cX _ _
    |(rw[gK,<-x0];exact pB _)
  |u8 b=>
   rw[hu]at E I;refine cA.val hM O (run .u8 b.toNat I.u8_inv) ?_
   cases k<;>simp only[iT,ax.injEq,reduceCtorEq]at E<;>subst E<;>first
    |(rw[Yn _ _ (by decide) (by decide)];exact cX _ _)
    |(rw[gK,Int.emod_eq_of_lt (by omega) (by have:=o9 b;omega)];exact pB _)
  |_=>rw[hu]at E;simp[iT]at E
 ·rename_i r Z hd F
  cases J;have I:=aP hM F;simp only[val]at y;cases hu:s.ev r with
  |str l=>rw[hu]at y I;simp only[ax.injEq,bD.injEq]at y;obtain⟨_,rfl⟩:=y;refine cA.val hM O (u:= .string ⟨⟨l⟩⟩) ?_ (mh _);rw[I.str_inv];simp[convert,run_underlying Z,run_underlying hd]
  |_=>rw[hu]at y;simp at y
 ·rename_i e r Z hd F
  split at J<;>try (cases J;done)
  rename_i h8;have T:=kb h8;cases J;have I:=aP hM F;simp only[val]at y;cases hu:s.ev r with
  |byt l tk=>
   rw[hu]at y I;simp only[Bn,ax.injEq,bD.injEq]at y;obtain⟨_,rfl⟩:=y;refine cA.val hM O (D1 Z T hd ?_) (mh _);have hD:=I.data rfl;cases hXv:a.eval X with
   |slice ad n Q=>
    rw[hXv]at hD;cases hD with
    |bytN=>exact .inl ⟨⟨_,rfl⟩,rfl⟩
    |bytE=>exact .inl ⟨⟨_,rfl⟩,rfl⟩
    |byt _ _ b off _ _ hn hc hg=>subst hn;exact .inr ⟨b,off,Q,rfl,fun i hi=>hM.heap.per _ _ _ (hg i hi)⟩
   |_=>rw[hXv]at hD;cases hD
  |psl o' sz off n Q=>
   rw[hu]at y I;simp only[Bn]at y;cases hl:s.look o' with
   |none=>simp[hl]at y
   |some obj=>
    cases obj with
    |bar l=>
     simp only[hl,ax.injEq,bD.injEq]at y;obtain⟨rfl,rfl⟩:=y;obtain⟨b4,b5⟩:=hp;obtain⟨Q,b7,_,L,b0,a8⟩:=I.psl_inv;have W:((l.drop off).take n).length=n:=by simp;omega
     refine cA.val hM O (D1 Z T hd (.inr ⟨(x.bk o').1,L,Q,by rw[W];exact b0,fun i hi=> ?_⟩)) (mh _);rw[W]at hi
     have a2:L=off:=by
      rcases a8 with h|h
      ·omega
      ·rw[b4,dp]at h;exact h
     subst a2;obtain⟨v,h2,h3⟩:=(fD hM hl).cell (k:=L+i) (by simp only[aH.size];omega);rw[h2];have h4:cL x.G (.u8 (l.getD (L+i) 0)) v:=h3;cases h4;simp only[aa,bL,if_pos hi,bz]
    |_=>simp[hl]at y
  |_=>rw[hu]at y;simp[Bn]at y
 ·rename_i e r Z hd F
  split at J<;>try (cases J;done)
  rename_i h8;have T:=kb h8;cases J;have I:=aP hM F;simp only[val]at y;cases hu:s.ev r with
  |str l=>
   rw[hu]at y I;simp only[ax.injEq,bD.injEq]at y;obtain⟨_,rfl⟩:=y;have hf:(Question.appendCap (ByteArray.mk ⟨l⟩).size 0 e).forced=false:=rfl
   obtain⟨Q,b3,b1⟩:∃Q,(Question.appendCap (ByteArray.mk ⟨l⟩).size 0 e).cut (w.tape w.drawn (Question.appendCap (ByteArray.mk ⟨l⟩).size 0 e))=Q/\l.length<=Q:=by
    refine⟨_,rfl, ?_⟩;simp only[Question.cut];have:(ByteArray.mk ⟨l⟩).size=l.length:=by simp[ByteArray.size]
    omega
   let cs:LAd:=(ByteArray.mk ⟨l⟩).data.map (fun b=> .int .u8 b.toNat)++eU (Q-(ByteArray.mk ⟨l⟩).size) (.int .u8 0)
   have a7:(ByteArray.mk ⟨l⟩).size=l.length:=by simp[ByteArray.size]
   have b6:cs.size=Q:=by simp[cs,a7];omega
   have a6:∀i,i<l.length->cs[i]? =some (.int .u8 (l.getD i 0).toNat):=by intro i hi;simp only[cs];rw[co (by simpa using hi)];simp[hi,aa]
   have hw:∀w0:World,((w0.alloc (.cells cs e (0,0))).freeze ⟨w0.heap.size,cs.size,none⟩ 1).heap=(w0.alloc (.cells cs e (cs.size,cs.size+1))).heap:=fun w0=>il w0 cs e
   refine cA.grow (x':=x.newD w.heap.size cs l.length) (w':=((w.drew.alloc (.cells cs e (0,0))).freeze ⟨w.heap.size,cs.size,none⟩ 1)) hM O (u:= .slice (some ⟨w.heap.size,0,none⟩) l.length Q) ?_ (hM.heap.newD_le cs l.length) rfl rfl ?_ ?_
   ·rw[I.str_inv]
    simp only[convert,aD,run_underlying Z,run_underlying hd,an,run_underlying T,Conv.stringToBytes,run_choose_drew,hf,aO,if_false,b3,newRow,run_newObj_alloc,aN];rw[fd (e:=e) (n:=cs.size) (by simp only[World.shape?];rw[heap_alloc_new])];simp only[an,a7];rfl
   ·refine dj.congr (w:=(w.drew.alloc (.cells cs e (cs.size,cs.size+1)))) ?_ (hw w.drew) rfl rfl rfl
    exact hM.heap.drew.allocD l.length
   ·refine .dat _ _ (.byt l .no w.heap.size 0 Q l.length rfl b1 fun i hi=> ?_) trivial
    simp only[Sit.newD];rw[if_pos ⟨trivial,by omega⟩,bT];exact a6 i hi
  |_=>rw[hu]at y;simp at y
 ·split at J<;>try (cases J;done)
  cases J;simp only[val]at y;cases y
end Go.Sy
namespace Go.Sy
variable [br]
variable {P : Program} {C : Ctx} {x : Sit} {s : St} {a : Act} {w : World} {o : Oper} {so : SOp} {p : Prop} {c : SV}
theorem db{t:TypeId}{vs:LAc}(h:gR P t=some vs):∃z:Value,z.cells.toList=vs/\∀w:World,(zeroValue t).run P w= .ok z w:=by
 unfold gR at h;cases hi:P.info? t with
 |none=>simp[hi]at h
 |some i=>simp only[hi,dl]at h;obtain⟨z,hz,rfl⟩:=ah.1 h;exact⟨z,rfl,fun w=>by simp[zeroValue,run_typeInfo w hi,hz]⟩
theorem HG{cs:t8}{vs:LAc}(h:IA cs vs=true):cE x cs vs:=by unfold IA at h;simp only[aC,decide_eq_true_eq,bf,eV]at h;exact⟨h.1,fun i hi=>rC (h.2 i hi)⟩
theorem tI{t:TypeId}{cs:t8}(h:o8 P t=some cs):∃vs,gR P t=some vs/\cE x cs vs:=by
 unfold o8 at h;cases hz:gR P t with
 |none=>simp[hz]at h
 |some vs=>
  simp only[hz,dl]at h;cases hc:Ib P (ov P 30 t) vs with
  |none=>simp[hc]at h
  |some r=>
   simp only[hc,dl]at h;split at h
   ·rename_i y;simp at h;subst h;exact⟨vs,rfl,HG y⟩
   ·cases h
theorem kj{t:TypeId}{cs:t8}(h:o8 P t=some cs):∃vs,gR P t=some vs/\cs.length=vs.length/\∀(G:GM) i,i<cs.length->cL G (cs.getD i .undef) (vs.getD i undef):=by
 unfold o8 at h;cases hz:gR P t with
 |none=>simp[hz]at h
 |some vs=>
  simp only[hz,dl]at h;cases hc:Ib P (ov P 30 t) vs with
  |none=>simp[hc]at h
  |some r=>
   simp only[hc,dl]at h;split at h
   ·rename_i y;simp at h;subst h
    unfold IA at y;simp only[aC,decide_eq_true_eq,bf,eV]at y;exact⟨vs,rfl,y.1,fun G i hi=>nA (y.2 i hi)⟩
   ·cases h
theorem Rep.cells{v:SV}{u:Value}(h:Rep x v u)(hd:v.isDef=true):cE x v.cells u.cells.toList:=by
 have one:∀{v:SV}{u:Value},Rep x v u->v.cells=[v]->u.cells= #[u]->cE x v.cells u.cells.toList:=by
  intro v u h O F;rw[O,F]
  exact⟨rfl,fun i hi=>by
   obtain rfl:i=0:=by simpa using hi
   exact h⟩
 cases h with
 |undef=>simp[SV.isDef]at hd
 |agg cs vs J L=>exact⟨J,L⟩
 |dat s v h Z=>exact one (.dat _ _ h Z) (by cases h<;>rfl) (by cases h<;>rfl)
 |ptr o off=>exact one (.ptr o off) rfl rfl
 |ap o I i j=>exact one (.ap o I i j) rfl rfl
 |psl o I off n cap E y h hn T hk=>exact one (.psl o I off n cap E y h hn T hk) rfl rfl
 |tup cs vs J L=>exact one (.tup cs vs J L) rfl rfl
 |fn f a b u v O F Q W=>exact one (.fn f a b u v O F Q W) rfl rfl
theorem gS{α:Type}(cs v:List α)(q i:Nat)(h:q+v.length<=cs.length):(cs.take q++v++cs.drop (q+v.length))[i]? =if q<=i/\i<q+v.length then v[i-q]? else cs[i]? :=by
 simp only[List.getElem?_append,ae,aq,bL,bz];have F:min q cs.length=q:=fR (by omega);rw[F]
 by_cases E:i<q
 ·rw[if_pos (by omega),if_pos E,if_pos E,if_neg (by omega)]
 ·by_cases y:i<q+v.length
  ·rw[if_pos y,if_neg E,if_pos ⟨by omega,y⟩]
  ·rw[if_neg y,if_neg (by omega)];congr 1;omega
theorem HN(off:Nat)(v:LAc):∀(cs:LAd)(k i:Nat),off+k+v.length<=cs.size->
 ((v.zipIdx k).foldl (fun cs (c,j)=>cs.setIfInBounds (off+j) c) cs)[i]? =if off+k<=i/\i<off+k+v.length then v[i-(off+k)]? else cs[i]? :=by
 induction v with
 |nil=>intro cs k i y;rw[if_neg (by simp only[aA];omega)];rfl
 |cons u r F=>
  intro cs k i y;simp only[al]at y;simp only[List.zipIdx_cons,cR];rw[F _ (k+1) i (by simp;omega)];simp only[al,Array.getElem?_setIfInBounds]
  by_cases E:off+k=i
  ·subst E
   rw[if_neg (by omega),if_pos rfl,if_pos (by omega),if_pos (by omega)];simp
  ·by_cases h:off+(k+1)<=i/\i<off+(k+1)+r.length
   ·rw[if_pos h,if_pos (by omega),show i-(off+k)=(i-(off+(k+1)))+1 from by omega]
    simp
   ·rw[if_neg h,if_neg E,if_neg (by omega)]
theorem uw(cs:LAd)(off:Nat)(v:LAc)(h:off+v.length<=cs.size):
 (v.zipIdx.foldl (fun cs (c,j)=>cs.setIfInBounds (off+j) c) cs).toList=cs.toList.take off++v++cs.toList.drop (off+v.length):=by
 apply List.ext_getElem?;intro i;rw[gS _ _ _ _ (by simpa using h)];have:=HN off v cs 0 i (by simpa using h);simpa using this
theorem cE.append{c1 c2:t8}{v1 F:LAc}(y:cE x c1 v1)(E:cE x c2 F):cE x (c1++c2) (v1++F):=by
 refine⟨by simp[y.1,E.1],fun i hi=> ?_⟩;simp only[aa,List.getElem?_append]
 by_cases h:i<c1.length
 ·rw[if_pos h,if_pos (by rw[<-y.1];exact h)]
  simpa only[aa]using y.2 i h
 ·rw[if_neg h,if_neg (by rw[<-y.1];exact h),y.1]
  have:=E.get (i-v1.length);simpa only[aa]using this
theorem cE.take{c1:t8}{v1:LAc}(y:cE x c1 v1)(n:Nat):cE x (c1.take n) (v1.take n):=by
 refine⟨by simp[y.1],fun i hi=> ?_⟩;have h:i<n/\i<c1.length:=by simp only[aq]at hi;omega
 simp only[aa,bL,if_pos h.1];simpa only[aa]using y.2 i h.2
theorem cE.drop{c1:t8}{v1:LAc}(h:cE x c1 v1)(n:Nat):cE x (c1.drop n) (v1.drop n):=by refine⟨by simp[h.1],fun i hi=> ?_⟩;simp only[aa,bz];have:=h.get (n+i);simpa only[aa]using this
theorem qQ(hM:aR C x s a w)(F:Nat->Option (Nat×Nat)):∀(I:List (Nat×Operand))(E:List (Nat×Nat×Arg))(cs:t8)(vs:LAd)(r:t8),cE x cs vs.toList->
 E.length=I.length->(∀i (h:i<I.length) (h':i<E.length),F I[i].1=some (E[i].1,E[i].2.1)/\∃t,bF P t I[i].2=some E[i].2.2)->
 jA cs (E.map fun(o,n,y)=>(o,n,s.ev y))=some r->∃us,Instr.fill F vs (I.map fun(i,y)=>(i,a.eval y))=some us/\cE x r us.toList:=by
 intro I;induction I with
 |nil=>
  intro E cs vs r h T _ J;have:E=[]:=by simpa using T
  subst this;simp only[bJ,jA,ax.injEq]at J;subst J;exact⟨vs,rfl,h⟩
 |cons q I ih=>
  intro E cs vs r h T L J;cases E with
  |nil=>simp at T
  |cons q' E=>
   obtain⟨qo,qn,qy⟩:=q';obtain⟨h0,t,ht⟩:=L 0 (by simp) (by simp);simp only[List.getElem_cons_zero]at h0 ht;have Q:=aP hM ht;simp only[aI,jA]at J;split at J<;>try (cases J;done)
   rename_i hc;obtain⟨W,Z,a2⟩:=hc;have hL:=Q.cells W;have O:(a.eval q.2).cells.size=qn:=by rw[<-Z,<-aU];exact hL.1.symm
   have a1:vs.size=cs.length:=by rw[<-aU];exact h.1.symm
   simp only[aI,Instr.fill,h0];rw[if_neg (by simp[O];omega)];refine ih E _ _ r ?_ (by simpa using T) (fun i h h'=> ?_) J
   ·rw[<-Array.foldl_toList,Array.toList_zipIdx,uw _ _ _ (by rw[aU];omega)]
    have e1:(a.eval q.2).cells.toList.length=qn:=by simpa using O
    rw[e1];exact((h.take _).append hL).append (h.drop _)
   ·have:=L (i+1) (by simpa using h) (by simpa using h')
    simpa using this
theorem fC{α β:Type}{f:α->Option β}:∀{l:List α}{r:List β},kz f l=some r->r.length=l.length/\∀i (h:i<l.length) (E:i<r.length),f l[i]=some r[i]:=by
 intro l;induction l with
 |nil=>intro r h;simp only[kz]at h;cases h;exact⟨rfl,fun i h=>by simp at h⟩
 |cons q l L=>
  intro r h;simp only[kz]at h;split at h<;>try (cases h;done)
  rename_i b O F y;cases h;obtain⟨I,J⟩:=L y;refine⟨by simp[I],fun i h E=> ?_⟩;cases i with
  |zero=>simpa using F
  |succ i=>simpa using J i (by simpa using h) (by simpa using E)
theorem pk(y:Array Field)(h:∀f∈y.toList,(P.info? f.type).isSome=true)(w:World):
 (y.mapM fun f=>do pure (f.offset,<-sizeOf f.type):Sem (Array (Nat×Nat))).run P w= .ok (y.toList.map fun f=>(f.offset,(fK P f.type).getD 0)).toArray w:=by
 rw[Array.mapM_eq_mapM_toList]
 have:∀l:List Field,(∀f∈l,(P.info? f.type).isSome=true)->(l.mapM fun f=>do pure (f.offset,<-sizeOf f.type):Sem (List (Nat×Nat))).run P w= .ok (l.map fun f=>(f.offset,(fK P f.type).getD 0)) w:=by
  intro l;induction l with
  |nil=>intro _;rfl
  |cons f l I=>
   intro h;have F:=h f (by simp);obtain⟨i,hi⟩:=Option.isSome_iff_exists.1 F;have E:fK P f.type=some i.size:=by simp[fK,hi]
   simp only[List.mapM_cons,aD,cr E,an,aN,I (fun g J=>h g (aw _ J)),aI,E,aM]
 rw[Sem.run_map,this _ h];rfl
theorem GK(hM:aR C x s a w){t:TypeId}{E:Array (Nat×Operand)}(ho:o.op= .build t E)(J:bG P o=some so)(hv:val s so=some (p,c)):cA P C o a w (s.put o.dst c):=by
 have b1:execOp a.eval o=(do pure (.value (<-Instr.build t (E.map fun(i,y)=>(i,a.eval y))))):=by simp only[execOp,ho]
 simp only[bG,ho]at J;split at J<;>try (cases J;done)
 ·rename_i fs z hd hz
  split at J<;>try (cases J;done)
  rename_i b0;obtain⟨qs,W,rfl⟩:=ah.1 J;obtain⟨vs,a7,hL⟩:=tI hz;obtain⟨zv,L,T⟩:=db a7;obtain⟨a2,Z⟩:=fC W;simp only[val]at hv;obtain⟨r,hf,O⟩:=ah.1 hv;simp only[bD.injEq]at O;obtain⟨_,rfl⟩:=O;have a1:∀f∈fs.toList,(P.info? f.type).isSome=true:=bf.1 b0
  obtain⟨us,Q,F⟩:=qQ hM (fun i=>(fs.toList.map fun f=>(f.offset,(fK P f.type).getD 0)).toArray[i]?) E.toList qs z zv.cells r (by rw[L];exact hL) a2 (by
   intro i h h';have:=Z i h h';generalize E.toList[i]=pi at*;generalize qs[i]=qi at*;cases hfi:fs[pi.1]? with
   |none=>simp[hfi]at this
   |some f=>
    simp only[hfi]at this;cases hn:fK P f.type with
    |none=>simp[hn]at this
    |some n=>
     cases I:bF P f.type pi.2 with
     |none=>simp[hn,I]at this
     |some ar=>
      simp only[hn,I,ax.injEq]at this;rw[<-this];refine⟨?_,f.type,I⟩;have a8:fs.toList[pi.1]? =some f:=by simpa using hfi
      simp[a8,hn]) hf
  refine cA.val hM b1 (u:= .agg us) ?_ ?_
  ·have a6:(E.map fun(i,y)=>(i,a.eval y)).toList=E.toList.map fun(i,y)=>(i,a.eval y):=by simp
   simp only[Instr.build,aD,T,an,run_underlying hd,pk fs a1,a6];rw[Q];rfl
  ·obtain⟨us⟩:=us
   exact .agg _ _ F.1 F.2
 ·rename_i k e z hd hz
  split at J<;>try (cases J;done)
  rename_i n hn;obtain⟨qs,W,rfl⟩:=ah.1 J;obtain⟨vs,a7,hL⟩:=tI hz;obtain⟨zv,L,T⟩:=db a7;obtain⟨a2,Z⟩:=fC W;simp only[val]at hv;obtain⟨r,hf,O⟩:=ah.1 hv;simp only[bD.injEq]at O;obtain⟨_,rfl⟩:=O
  obtain⟨us,Q,F⟩:=qQ hM (fun i=>some (i*n,n)) E.toList qs z zv.cells r (by rw[L];exact hL) a2 (fun i h h'=>by have:=Z i h h';obtain⟨ar,I,O⟩:=ah.1 this;rw[<-O];exact⟨rfl,e,I⟩) hf
  refine cA.val hM b1 (u:= .agg us) ?_ ?_
  ·have a6:(E.map fun(i,y)=>(i,a.eval y)).toList=E.toList.map fun(i,y)=>(i,a.eval y):=by simp
   simp only[Instr.build,aD,T,an,run_underlying hd,cr hn,a6];rw[Q];rfl
  ·obtain⟨us⟩:=us
   exact .agg _ _ F.1 F.2
end Go.Sy
namespace Go.Sy
variable [br]
variable {P : Program} {C : Ctx} {x : Sit} {s : St} {a : Act} {w : World} {o : Oper} {so : SOp} {p : Prop} {c : SV}
theorem oJ(n:Nat):∀(us:LAc)(k:Nat)(vs:LAd),(∀u∈us,u.cells.size=n)->(k+us.length)*n<=vs.size->
 ∃r,Instr.fill (fun i=>some (i*n,n)) vs ((us.zipIdx k).map fun q=>(q.2,q.1))=some r/\r.toList=vs.toList.take (k*n)++(us.flatMap fun u=>u.cells.toList)++vs.toList.drop ((k+us.length)*n):=by
 intro us;induction us with
 |nil=>intro k vs _ _;exact⟨vs,rfl,by simp⟩
 |cons u us O=>
  intro k vs hu Q;have y:=hu u (by simp);have I:(k+(u::us).length)*n=k*n+n+us.length*n:=by simp only[al,bE,ee];omega
  have F:(k+1)*n=k*n+n:=ee k n;rw[I]at Q;have h:=uw vs (k*n) u.cells.toList (by rw[aU,y];omega);rw[aU,y]at h
  obtain⟨r,T,L⟩:=O (k+1) (u.cells.toList.zipIdx.foldl (fun cs (c,j)=>cs.setIfInBounds (k*n+j) c) vs) (fun q J=>hu q (aw _ J)) (by rw[<-aU,h];simp only[ae,aq,aG,aU,y];rw[bE,F];omega)
  refine⟨r, ?_, ?_⟩
  ·simp only[List.zipIdx_cons,aI,Instr.fill]
   rw[if_neg (by simp[y];omega)];rw[<-Array.foldl_toList,Array.toList_zipIdx];exact T
  ·rw[L,h,F,I]
   have W:(k+1+us.length)*n=k*n+n+us.length*n:=by rw[bE,F]
   rw[W];have E:(vs.toList.take (k*n)++u.cells.toList).length=k*n+n:=by simp[y];omega
   rw[List.take_append_of_le_length (by rw[E];exact aJ _),aV (by rw[E];exact aJ _),List.drop_append,bN (by rw[E];omega),E,List.drop_drop];simp only[eo,aE,az]
   congr 3
   congr 1;omega
theorem yy{n:Nat}:∀{vs:t8}{r:d8},rows n vs=some r->r.length=vs.length/\∀i,i<vs.length->(vs.getD i .undef).isDef=true/\(vs.getD i .undef).cells.length=n/\
 (∀z∈(vs.getD i .undef).cells,z.isData=true)/\r.getD i []=(vs.getD i .undef).cells.map SV.data:=by
 intro vs;induction vs with
 |nil=>intro r h;simp only[rows,ax.injEq]at h;subst h;exact⟨rfl,fun i hi=>by simp at hi⟩
 |cons v vs J=>
  intro r h;simp only[rows]at h;split at h<;>try (cases h;done)
  rename_i E;obtain⟨L,y,rfl⟩:=ah.1 h;obtain⟨F,I⟩:=J y;refine⟨by simp[F],fun i hi=> ?_⟩;cases i with
  |zero=>exact⟨E.1,E.2.1,bf.1 E.2.2,rfl⟩
  |succ i=>simpa using I i (by simpa using hi)
theorem vi:∀{vs:t8}{r:d9},toB vs=some r->vs=r.map .u8:=by
 intro vs;induction vs with
 |nil=>intro r h;simp only[toB,ax.injEq]at h;subst h;rfl
 |cons v vs E=>intro r h;cases v<;>simp only[toB,reduceCtorEq]at h;obtain⟨F,y,rfl⟩:=ah.1 h;rw[E y];rfl
theorem ln{n:Nat}{us:LAc}(h:∀u∈us,u.cells.size=n){i j:Nat}(hi:i<us.length)(I:j<n):
 (us.flatMap fun u=>u.cells.toList)[i*n+j]? =(us.getD i undef).cells.toList[j]? :=by
 induction us generalizing i with
 |nil=>simp at hi
 |cons u us F=>
  have y:=h u (by simp);simp only[eo];cases i with
  |zero=>rw[bo (by simp[y];omega)];simp
  |succ i=>rw[bA (by simp[y,ee];omega)];have:=F (fun q E=>h q (aw _ E)) (i:=i) (by simpa using hi);rw[show(i+1)*n+j-u.cells.toList.length=i*n+j from by simp[y,ee];omega];simpa using this
theorem pK(hM:aR C x s a w){t:TypeId}{len:Nat}{h:Array (Nat×Operand)}(ho:o.op= .buildSlice t len h)(hr:bG P o=some so)(hv:val s so=some (p,c)):cA P C o a w (s.put o.dst c):=by
 have c7:execOp a.eval o=(do pure (.value (<-eG t len (h.map fun(i,y)=>(i,a.eval y))))):=by simp only[execOp,ho]
 simp only[bG,ho]at hr;split at hr<;>try (cases hr;done)
 rename_i e hd;split at hr<;>try (cases hr;done)
 rename_i n zv hn e6;split at hr<;>try (cases hr;done)
 rename_i Z;simp only[aC,decide_eq_true_eq]at Z;obtain⟨⟨a6,e7⟩,d6⟩:=Z;obtain⟨qs,d7,rfl⟩:=ah.1 hr;obtain⟨b5,e2⟩:=fC d7;obtain⟨z,e8,d4⟩:=db e6;have T:h.toList.length=len:=by have:=congrArg List.length a6;simpa using this
 obtain⟨us,a2⟩:∃us:LAc,us=h.toList.map fun q=>a.eval q.2:=⟨_,rfl⟩
 have E:us.length=len:=by rw[a2];simpa using T
 have L:cE x (qs.map s.ev) us:=by
  refine⟨by rw[a2];simp[b5],fun i hi=> ?_⟩;have b4:i<qs.length:=by simpa using hi
  have:=aP hM (e2 i (by omega) b4);rw[a2];simp only[aa,aT,ac b4,ac (show i<h.toList.length from by omega),bB,aM];exact this
 have d3:(h.map fun(i,y)=>(i,a.eval y)).toList=(us.zipIdx 0).map fun q=>(q.2,q.1):=by
  rw[a2];apply List.ext_getElem
  ·simp
  ·intro i Q h2
   simp only[Array.toList_map,aY,aU]at Q;have:(h.toList.map (·.1))[i]? =(bM len)[i]? :=by rw[a6]
   have hi:i<len:=by rw[<-T];simpa using Q
   simp only[aT,cz hi]at this;rw[ac (by simpa using Q)]at this;simp at this;simp[this]
 have a7:(∀u∈us,u.cells.size=n)->∃r:LAd,(∀i j,i<len->j<n->r[i*n+j]? =(us.getD i undef).cells.toList[j]?)/\r.size=len*n/\
  (eG t len (h.map fun(i,y)=>(i,a.eval y))).run P w= .ok (.slice (some ⟨w.heap.size,0,none⟩) len len) (w.alloc (.cells r e (0,0))):=by
  intro b1
  have b3:∀zz:LAd,∃r:LAd,Instr.fill (fun i=>some (i*n,n)) ((Array.range (len*n)).map (fun i=>zz[i % zz.size]!)) (h.map fun(i,y)=>(i,a.eval y)).toList=some r/\
   (∀i j,i<len->j<n->r[i*n+j]? =(us.getD i undef).cells.toList[j]?)/\r.size=len*n:=by
   intro zz;obtain⟨r,d2,a8⟩:=oJ n us 0 ((Array.range (len*n)).map (fun i=>zz[i % zz.size]!)) b1 (by simp[E])
   have J:r.toList=us.flatMap fun u=>u.cells.toList:=by rw[a8];simp[E]
   refine⟨r,by rw[d3];exact d2,fun i j hi hj=> ?_, ?_⟩
   ·rw[<-cY,J,ln b1 (by omega) hj]
   ·rw[<-aU,J,List.length_flatMap]
    have:us.map (fun u=>u.cells.toList.length)=aL us.length n:=by
     apply List.ext_getElem
     ·simp
     ·intro i Q h2
      simp;exact b1 _ (bv _)
    rw[this];simp[E]
  by_cases h0:len*n=0
  ·obtain⟨r,hf,Q,h2⟩:=b3 #[]
   refine⟨r,Q,h2, ?_⟩;simp only[eG,aD,run_underlying hd,an,cr hn];rw[if_neg (by omega),if_pos h0];simp only[aD,aN,an];rw[hf];rfl
  ·obtain⟨r,hf,Q,h2⟩:=b3 z.cells
   refine⟨r,Q,h2, ?_⟩;simp only[eG,aD,run_underlying hd,an,cr hn];rw[if_neg (by omega),if_neg h0];simp only[aD,aN,an,d4];rw[hf];rfl
 have F:∀i,i<len->i<(qs.map s.ev).length:=fun i hi=>by rw[L.1,E];exact hi
 cases h8:m5 P e with
 |true=>
  simp only[h8,if_true,val]at hv;obtain⟨l,hl,he⟩:=ah.1 hv;simp only[bD.injEq]at he;obtain⟨_,rfl⟩:=he;have hq:=vi hl;have d5:l.length=len:=by have:=congrArg List.length hq;simp only[aY]at this;rw[<-this,b5,T]
  have c3:∀i,i<len->us.getD i undef= .int .u8 (l.getD i 0).toNat:=by
   intro i hi;have:=L.2 i (F i hi);rw[hq]at this
   have e1:(l.map SV.u8).getD i .undef= .u8 (l.getD i 0):=by simp only[aa,aT];rw[ac (by omega)];rfl
   rw[e1]at this;exact this.u8_inv
  have e0:∀u∈us,u.cells.size=1:=by intro u hu;obtain⟨i,hi,rfl⟩:=bp hu;have:=c3 i (by omega);rw[aa,ac hi]at this;simp only[aM]at this;rw[this];rfl
  have c5:n=1:=by simpa[h8]using d6
  subst c5;obtain⟨r,b0,e4,W⟩:=a7 e0;refine cA.grow (x':=x.newD w.heap.size r len) hM c7 W (hM.heap.newD_le r len) rfl rfl (hM.heap.allocD len) ?_;refine .dat _ _ (.byt l _ w.heap.size 0 len len d5.symm (aJ _) fun i hi=> ?_) ⟨_,len,rfl⟩;simp only[Sit.newD];rw[if_pos ⟨trivial,by omega⟩,bT];have:=b0 i 0 hi (by omega);rw[dp,ft]at this;rw[this,c3 i hi];rfl
 |false=>
  simp only[h8,aO,if_false,val]at hv;obtain⟨b7,d1,he⟩:=ah.1 hv;simp only[bD.injEq]at he;obtain⟨_,rfl⟩:=he;obtain⟨a8,O⟩:=yy d1;have J:b7.length=len:=by rw[a8,L.1,E]
  have I:∀i,i<len->cE x (((qs.map s.ev).getD i .undef).cells) ((us.getD i undef).cells.toList):=fun i hi=>(L.2 i (F i hi)).cells (O i (F i hi)).1
  have e5:∀u∈us,u.cells.size=n:=by intro u hu;obtain⟨i,hi,rfl⟩:=bp hu;have Q:=I i (by omega);have h2:=(O i (F i (by omega))).2.1;rw[show us.getD i undef=us[i]from by rw[aa,ac hi];rfl]at Q;have:=Q.1;rw[h2]at this;simpa using this.symm
  obtain⟨r,b0,e4,W⟩:=a7 e5;refine cA.grow (x':=x.newD w.heap.size r (len*n)) hM c7 W (hM.heap.newD_le r _) rfl rfl (hM.heap.allocD _) ?_;have e3:=hM.heap.newD_le r (len*n)
  have a1:∀i j,i<len->j<n->(x.newD w.heap.size r (len*n)).G w.heap.size (0+i*n+j)=some ((us.getD i undef).cells.toList.getD j undef):=by
   intro i j hi hj;simp only[Sit.newD]
   have hb:i*n+j<len*n:=by have:=bh n (Nat.succ_le_of_lt hi);rw[ee]at this;omega
   rw[if_pos ⟨trivial,by omega⟩,bT,b0 i j hi hj]
   have:j<(us.getD i undef).cells.toList.length:=by rw[<-(I i hi).1,(O i (F i hi)).2.1];exact hj
   generalize (us.getD i undef).cells.toList=q at*;rw[aa,ac this];rfl
  refine .dat _ _ (.lst n b7 _ w.heap.size 0 len len (fun i j=>(us.getD i undef).cells.toList.getD j undef) J.symm (aJ _) (fun i hi=> ?_) a1 (fun i j hi hj=> ?_)) ⟨_,len,rfl⟩
  ·rw[(O i (F i hi)).2.2.2,aY];exact(O i (F i hi)).2.1
  ·obtain⟨q1,q2,q3,q4⟩:=O i (F i hi)
   rw[q4,hJ];have b6:j<((qs.map s.ev).getD i .undef).cells.length:=by rw[q2];exact hj
   have:=(I i hi).2 j b6;refine(cL.mono e3 (this.data (q3 _ ?_))).toData;generalize ((qs.map s.ev).getD i .undef).cells=q at*;rw[aa,ac b6];exact bv _
theorem AB(hM:aR C x s a w){t:TypeId}{len:Nat}{h:Array (Nat×Operand)}(ho:o.op= .buildSlice t len h){n0:Nat}{b1:List Arg}(hr:bG P o=some (.lit n0 b1)){E:d8}(c5:rows n0 (b1.map s.ev)=some E):
 ∃(r:LAd)(e:TypeId),(execOp a.eval o).run P w= .ok (.value (.slice (some ⟨w.heap.size,0,none⟩) E.length E.length)) (w.alloc (.cells r e (0,0)))/\r.size=E.length*n0/\(∀y∈E,y.length=n0)/\
  ∀k,k<E.length*n0->cL x.G ((E.getD (k/n0) []).getD (k % n0) .undef) (r.getD k undef):=by
 have e3:execOp a.eval o=(do pure (.value (<-eG t len (h.map fun(i,y)=>(i,a.eval y))))):=by simp only[execOp,ho]
 simp only[bG,ho]at hr;split at hr<;>try (cases hr;done)
 rename_i e hd;split at hr<;>try (cases hr;done)
 rename_i n zv hn e0;split at hr<;>try (cases hr;done)
 rename_i W;simp only[aC,decide_eq_true_eq]at W;obtain⟨⟨a6,e4⟩,e6⟩:=W;obtain⟨qs,c7,J⟩:=ah.1 hr;obtain⟨d6,d1⟩:=fC c7;obtain⟨z,e5,c3⟩:=db e0;have a2:h.toList.length=len:=by have:=congrArg List.length a6;simpa using this
 obtain⟨us,a1⟩:∃us:LAc,us=h.toList.map fun q=>a.eval q.2:=⟨_,rfl⟩
 have I:us.length=len:=by rw[a1];simpa using a2
 have Q:cE x (qs.map s.ev) us:=by
  refine⟨by rw[a1];simp[d6],fun i hi=> ?_⟩;have b5:i<qs.length:=by simpa using hi
  have:=aP hM (d1 i (by omega) b5);rw[a1];simp only[aa,aT,ac b5,ac (show i<h.toList.length from by omega),bB,aM];exact this
 have d7:(h.map fun(i,y)=>(i,a.eval y)).toList=(us.zipIdx 0).map fun q=>(q.2,q.1):=by
  rw[a1];apply List.ext_getElem
  ·simp
  ·intro i O h2
   simp only[Array.toList_map,aY,aU]at O;have:(h.toList.map (·.1))[i]? =(bM len)[i]? :=by rw[a6]
   have hi:i<len:=by rw[<-a2];simpa using O
   simp only[aT,cz hi]at this;rw[ac (by simpa using O)]at this;simp at this;simp[this]
 have b7:(∀u∈us,u.cells.size=n)->∃r:LAd,(∀i j,i<len->j<n->r[i*n+j]? =(us.getD i undef).cells.toList[j]?)/\r.size=len*n/\
  (eG t len (h.map fun(i,y)=>(i,a.eval y))).run P w= .ok (.slice (some ⟨w.heap.size,0,none⟩) len len) (w.alloc (.cells r e (0,0))):=by
  intro b0
  have b4:∀zz:LAd,∃r:LAd,Instr.fill (fun i=>some (i*n,n)) ((Array.range (len*n)).map (fun i=>zz[i % zz.size]!)) (h.map fun(i,y)=>(i,a.eval y)).toList=some r/\
   (∀i j,i<len->j<n->r[i*n+j]? =(us.getD i undef).cells.toList[j]?)/\r.size=len*n:=by
   intro zz;obtain⟨r,d2,a7⟩:=oJ n us 0 ((Array.range (len*n)).map (fun i=>zz[i % zz.size]!)) b0 (by simp[I])
   have F:r.toList=us.flatMap fun u=>u.cells.toList:=by rw[a7];simp[I]
   refine⟨r,by rw[d7];exact d2,fun i j hi hj=> ?_, ?_⟩
   ·rw[<-cY,F,ln b0 (by omega) hj]
   ·rw[<-aU,F,List.length_flatMap]
    have:us.map (fun u=>u.cells.toList.length)=aL us.length n:=by
     apply List.ext_getElem
     ·simp
     ·intro i O h2
      simp;exact b0 _ (bv _)
    rw[this];simp[I]
  by_cases h0:len*n=0
  ·obtain⟨r,hf,O,h2⟩:=b4 #[]
   refine⟨r,O,h2, ?_⟩;simp only[eG,aD,run_underlying hd,an,cr hn];rw[if_neg (by omega),if_pos h0];simp only[aD,aN,an];rw[hf];rfl
  ·obtain⟨r,hf,O,h2⟩:=b4 z.cells
   refine⟨r,O,h2, ?_⟩;simp only[eG,aD,run_underlying hd,an,cr hn];rw[if_neg (by omega),if_neg h0];simp only[aD,aN,an,c3];rw[hf];rfl
 have L:∀i,i<len->i<(qs.map s.ev).length:=fun i hi=>by rw[Q.1,I];exact hi
 obtain⟨h8,rfl,rfl⟩:m5 P e=false/\n=n0/\qs=b1:=by
  cases h8:m5 P e with
  |true=>rw[h8]at J;simp at J
  |false=>rw[h8]at J;simp at J;exact⟨rfl,J.1,J.2⟩
 obtain⟨a7,T⟩:=yy c5;have F:E.length=len:=by rw[a7,Q.1,I]
 have Z:∀i,i<len->cE x (((qs.map s.ev).getD i .undef).cells) ((us.getD i undef).cells.toList):=fun i hi=>(Q.2 i (L i hi)).cells (T i (L i hi)).1
 have d4:∀u∈us,u.cells.size=n:=by intro u hu;obtain⟨i,hi,rfl⟩:=bp hu;have O:=Z i (by omega);have h2:=(T i (L i (by omega))).2.1;rw[show us.getD i undef=us[i]from by rw[aa,ac hi];rfl]at O;have:=O.1;rw[h2]at this;simpa using this.symm
 obtain⟨r,d3,J,b3⟩:=b7 d4
 have a8:(execOp a.eval o).run P w= .ok (.value (.slice (some ⟨w.heap.size,0,none⟩) E.length E.length)) (w.alloc (.cells r e (0,0))):=by rw[e3,F];simp[b3]
 refine⟨r,e,a8,by rw[F];exact J,fun y hy=> ?_,fun k hk=> ?_⟩
 ·obtain⟨i,hi,rfl⟩:=bp hy
  have:=(T i (L i (by omega))).2.2.2;rw[aa,ac hi]at this;simp only[aM]at this;rw[this,aY];exact(T i (L i (by omega))).2.1
 ·have d5:0<n:=by
   rcases ib n with h0|h0
   ·subst h0;omega
   ·exact h0
  have hi:k/n<len:=by rw[<-F];exact Nat.div_lt_of_lt_mul (by rw[cM];exact hk)
  have hj:k % n<n:=Nat.mod_lt _ d5;obtain⟨q1,q2,q3,q4⟩:=T (k/n) (L _ hi);rw[q4,hJ];have e1:k/n*n+k % n=k:=by rw[cM];exact Nat.div_add_mod k n
  have e2:=d3 (k/n) (k % n) hi hj;rw[e1]at e2;have b6:k % n<((qs.map s.ev).getD (k/n) .undef).cells.length:=by rw[q2];exact hj
  have:=(Z _ hi).2 _ b6;rw[aS,e2,<-aa];refine(this.data (q3 _ ?_)).toData;generalize ((qs.map s.ev).getD (k/n) .undef).cells=q at*;rw[aa,ac b6];exact bv _
theorem AC(hM:aR C x s a w){t:TypeId}{len:Nat}{h:Array (Nat×Operand)}(ho:o.op= .buildSlice t len h){b3:List Arg}(T:bG P o=some (.litB b3)){l:d9}(d1:toB (b3.map s.ev)=some l):
 ∃(r:LAd)(e:TypeId),(execOp a.eval o).run P w= .ok (.value (.slice (some ⟨w.heap.size,0,none⟩) l.length l.length)) (w.alloc (.cells r e (0,0)))/\l.length<=r.size/\∀i,i<l.length->r.getD i undef= .int .u8 (l.getD i 0).toNat:=by
 have e0:execOp a.eval o=(do pure (.value (<-eG t len (h.map fun(i,y)=>(i,a.eval y))))):=by simp only[execOp,ho]
 simp only[bG,ho]at T;split at T<;>try (cases T;done)
 rename_i e hd;split at T<;>try (cases T;done)
 rename_i n zv hn d7;split at T<;>try (cases T;done)
 rename_i J;simp only[aC,decide_eq_true_eq]at J;obtain⟨⟨W,e2⟩,b7⟩:=J;obtain⟨qs,c7,F⟩:=ah.1 T;obtain⟨b4,d2⟩:=fC c7;obtain⟨z,e3,b6⟩:=db d7;have I:h.toList.length=len:=by have:=congrArg List.length W;simpa using this
 obtain⟨us,L⟩:∃us:LAc,us=h.toList.map fun q=>a.eval q.2:=⟨_,rfl⟩
 have E:us.length=len:=by rw[L];simpa using I
 have Z:cE x (qs.map s.ev) us:=by
  refine⟨by rw[L];simp[b4],fun i hi=> ?_⟩;have a7:i<qs.length:=by simpa using hi
  have:=aP hM (d2 i (by omega) a7);rw[L];simp only[aa,aT,ac a7,ac (show i<h.toList.length from by omega),bB,aM];exact this
 have d6:(h.map fun(i,y)=>(i,a.eval y)).toList=(us.zipIdx 0).map fun q=>(q.2,q.1):=by
  rw[L];apply List.ext_getElem
  ·simp
  ·intro i Q h2
   simp only[Array.toList_map,aY,aU]at Q;have:(h.toList.map (·.1))[i]? =(bM len)[i]? :=by rw[W]
   have hi:i<len:=by rw[<-I];simpa using Q
   simp only[aT,cz hi]at this;rw[ac (by simpa using Q)]at this;simp at this;simp[this]
 have b1:(∀u∈us,u.cells.size=n)->∃r:LAd,(∀i j,i<len->j<n->r[i*n+j]? =(us.getD i undef).cells.toList[j]?)/\r.size=len*n/\
  (eG t len (h.map fun(i,y)=>(i,a.eval y))).run P w= .ok (.slice (some ⟨w.heap.size,0,none⟩) len len) (w.alloc (.cells r e (0,0))):=by
  intro a1
  have a6:∀zz:LAd,∃r:LAd,Instr.fill (fun i=>some (i*n,n)) ((Array.range (len*n)).map (fun i=>zz[i % zz.size]!)) (h.map fun(i,y)=>(i,a.eval y)).toList=some r/\
   (∀i j,i<len->j<n->r[i*n+j]? =(us.getD i undef).cells.toList[j]?)/\r.size=len*n:=by
   intro zz;obtain⟨r,d3,b5⟩:=oJ n us 0 ((Array.range (len*n)).map (fun i=>zz[i % zz.size]!)) a1 (by simp[E])
   have O:r.toList=us.flatMap fun u=>u.cells.toList:=by rw[b5];simp[E]
   refine⟨r,by rw[d6];exact d3,fun i j hi hj=> ?_, ?_⟩
   ·rw[<-cY,O,ln a1 (by omega) hj]
   ·rw[<-aU,O,List.length_flatMap]
    have:us.map (fun u=>u.cells.toList.length)=aL us.length n:=by
     apply List.ext_getElem
     ·simp
     ·intro i Q h2
      simp;exact a1 _ (bv _)
    rw[this];simp[E]
  by_cases h0:len*n=0
  ·obtain⟨r,hf,Q,h2⟩:=a6 #[]
   refine⟨r,Q,h2, ?_⟩;simp only[eG,aD,run_underlying hd,an,cr hn];rw[if_neg (by omega),if_pos h0];simp only[aD,aN,an];rw[hf];rfl
  ·obtain⟨r,hf,Q,h2⟩:=a6 z.cells
   refine⟨r,Q,h2, ?_⟩;simp only[eG,aD,run_underlying hd,an,cr hn];rw[if_neg (by omega),if_neg h0];simp only[aD,aN,an,b6];rw[hf];rfl
 have c3:∀i,i<len->i<(qs.map s.ev).length:=fun i hi=>by rw[Z.1,E];exact hi
 cases h8:m5 P e with
 |true=>
  simp only[h8,if_true,SOp.litB.injEq]at F;subst F;have hl:=d1;have hq:=vi hl;have c5:l.length=len:=by have:=congrArg List.length hq;simp only[aY]at this;rw[<-this,b4,I]
  have a8:∀i,i<len->us.getD i undef= .int .u8 (l.getD i 0).toNat:=by
   intro i hi;have:=Z.2 i (c3 i hi);rw[hq]at this
   have e1:(l.map SV.u8).getD i .undef= .u8 (l.getD i 0):=by simp only[aa,aT];rw[ac (by omega)];rfl
   rw[e1]at this;exact this.u8_inv
  have d4:∀u∈us,u.cells.size=1:=by intro u hu;obtain⟨i,hi,rfl⟩:=bp hu;have:=a8 i (by omega);rw[aa,ac hi]at this;simp only[aM]at this;rw[this];rfl
  have b0:n=1:=by simpa[h8]using b7
  subst b0;obtain⟨r,d5,F,a2⟩:=b1 d4;refine⟨r,e,by rw[e0,aD,a2];simp[c5],by rw[F];omega,fun i hi=> ?_⟩;have:=d5 i 0 (by omega) (by omega);rw[dp,ft]at this;rw[aS,this,a8 i (by omega)];rfl
 |false=>simp only[h8,aO,if_false]at F;cases F
theorem ZI{F:List Arg}(E:bG P o=some (.litB F)):∃t len y,o.op= .buildSlice t len y:=by
 cases ho:o.op with
 |buildSlice t len y=>exact⟨t,len,y,rfl⟩
 |_=>exfalso;exact absurd E (by
  intro E;simp only[bG,ho]at E
  first
   |(cases E;done)
   |(obtain⟨_,_,h⟩:=ah.1 E;cases h;done)
   |(repeat' split at E)<;>first|(cases E;done)|contradiction|(obtain⟨_,_,h⟩:=ah.1 E;first|(cases h;done)|(split at h<;>cases h;done)))
end Go.Sy
namespace Go.Sy
variable [br]
variable {P : Program} {C : Ctx} {x : Sit} {s : St} {a : Act} {w : World} {o : Oper} {so : SOp} {p : Prop} {c : SV}
theorem KB{t:TypeId}{n:Nat}(h:Ah P t=some n):sX P t=some false:=by unfold Ah at h;unfold sX;split at h<;>first|(cases h;done)|(rename_i y;rw[y];rfl)
theorem Be{t:TypeId}{n:Nat}(y:Ah P t=some n){c1 F:SV}{u v:Value}(hu:Rep x c1 u)(E:Rep x F v){b:Bool}(h:xH n c1 F=some b)(d:Nat):(Op.equalIn (d+1) t u v).run P w= .ok b w:=by
 unfold Ah at y;split at y<;>try (cases y;done)
 all_goals
  rename_i hd;cases y;cases c1<;>cases F<;>simp only[xH,reduceCtorEq,ax.injEq,aK]at h
 ·rw[hu.bool_inv,E.bool_inv]
  subst h;rename_i m n;simp only[Op.equalIn,aD,run_underlying hd,an,aN];cases m<;>cases n<;>rfl
 ·rw[hu.int_inv,E.int_inv]
  obtain⟨rfl,h⟩:=h;subst h;simp only[Op.equalIn,aD,run_underlying hd,an,if_true,aN];rfl
 ·rw[hu.u8_inv,E.u8_inv]
  subst h;rename_i m n;simp only[Op.equalIn,aD,run_underlying hd,an,if_true,aN]
  congr 1
  rw[fG];simp only[beq_iff_eq,decide_eq_true_eq,Int.natCast_inj];exact UInt8.toNat_inj
 ·rw[hu.str_inv,E.str_inv]
  subst h;rename_i m n;simp only[Op.equalIn,aD,run_underlying hd,an,aN]
  congr 1
  rw[beq_toListBytes,ByteArray.toList_eq,ByteArray.toList_eq,fG];simp
theorem lg:∀(fs:List Field)(Z:LAa)(k:Nat)(cs I:t8)(y F:LAc)(d:Nat),A8 P k fs=some Z->
 cE x cs (y.drop k)->cE x I (F.drop k)->∀{b:Bool},ix Z cs I=some b->(Op.eqFields (d+1) ⟨y⟩ ⟨F⟩ fs).run P w= .ok b w
 |[],Z,k,cs,I,y,F,d,E,L,hy,b,h=>by simp only[A8,ax.injEq]at E;subst E;cases cs<;>cases I<;>simp[ix]at h;subst h;simp[Op.eqFields]
 |f::fs,Z,k,cs,I,y,F,d,E,L,hy,b,h=>by
  simp only[A8,aK]at E;obtain⟨⟨O,W⟩,E⟩:=E;split at E<;>try (cases E;done)
  rename_i t b0 J a8;cases E;cases cs with
  |nil=>simp[ix]at h
  |cons c1 cs=>
   cases I with
   |nil=>simp[ix]at h
   |cons d1 I=>
    simp only[ix]at h;split at h<;>try (cases h;done)
    rename_i r q hr hq;cases h;have Q:=L.1;have b1:=hy.1;simp only[al,aG]at Q b1
    have a1:(⟨y⟩:LAd)[k]? =some (y.getD k undef):=by rw[de,ac (by omega),aa,ac (by omega)];rfl
    have a6:(⟨F⟩:LAd)[k]? =some (F.getD k undef):=by rw[de,ac (by omega),aa,ac (by omega)];rfl
    have a2:Rep x c1 (y.getD k undef):=by have:=L.2 0 (by simp);simpa[aa,bz]using this
    have a7:Rep x d1 (F.getD k undef):=by have:=hy.2 0 (by simp);simpa[aa,bz]using this
    have tl:∀{cs:t8}{c1:SV}{y:LAc},cE x (c1::cs) (y.drop k)->cE x cs (y.drop (k+1)):=by intro cs c1 y L;have Q:=L.1;simp only[al,aG]at Q;refine⟨by simp only[aG];omega,fun i hi=> ?_⟩;have:=L.2 (i+1) (by simpa using hi);simp only[aa,List.getElem?_cons_succ,bz]at this ⊢;rw[show k+1+i=k+(i+1)by omega];exact this
    have ih:=lg fs b0 (k+1) cs I y F d a8 (tl L) (tl hy) hq;have T:=Be (w:=w) J a2 a7 hr d;simp only[Op.eqFields,if_pos O,part,aD,fi (KB J),an,aO,if_false];rw[W,a1,a6];simp only[aN,an,T];cases r
    ·simp
    ·simp only[Bool.not_true,aO,if_false]
     rw[ih,Bool.true_and]
theorem Yf(hM:aR C x s a w){op:BinOp}{t u:TypeId}{X Y:Operand}(ho:o.op= .binOp op t X Y u){J:Bool}{T:LAa}{x' Q:Arg}(h:bG P o=some (.eqS J T x' Q))(E:val s (.eqS J T x' Q)=some (p,c)):cA P C o a w (s.put o.dst c):=by
 have a1:execOp a.eval o=(do pure (.value (<-(do eqGuard op t X Y (a.eval X) (a.eval Y);binOp op t (a.eval X) (a.eval Y):Sem Value)))):=by simp only[execOp,ho]
 simp only[bG,ho]at h;split at h<;>try (cases h;done)
 ·split at h<;>cases h
 ·rename_i fs _ _ hd W hy
  split at h<;>try (cases h;done)
  rename_i O Z;rw[aK]at h;obtain⟨y,h⟩:=h;simp only[aC,cT]at y
  have F:op=(if J then .neq else .eql)/\O=T/\bF P t X=some x'/\bF P u Y=some Q:=by split at h<;>first|(cases h;done)|(cases h;exact⟨rfl,rfl,W,hy⟩)
  obtain⟨F,rfl,W,hy⟩:=F;have h1:=aP hM W;have h2:=aP hM hy;simp only[val]at E;cases hu:s.ev x' with
  |agg cs=>
   cases hw:s.ev Q with
   |agg ds=>
    rw[hu,hw]at E;rw[hu]at h1;rw[hw]at h2;simp only[ah,bD.injEq]at E;obtain⟨b,hb,_,rfl⟩:=E;obtain⟨vs,e1,g1⟩:=h1.agg_inv;obtain⟨us,e2,g2⟩:=h2.agg_inv;have I:P.fieldsOf t=fs:=by simp[Program.fieldsOf,hd]
    have L:(Op.equalIn 10000 t (.agg ⟨vs⟩) (.agg ⟨us⟩)).run P w= .ok b w:=by rw[show(10000:Nat)=9998+1+1 from rfl,run_equalIn_struct w (9998+1) t ⟨vs⟩ ⟨us⟩ (by rw[I];exact hd) y.1,I];exact lg fs.toList O 0 cs ds vs us 9998 Z (by simpa using g1) (by simpa using g2) hb
    refine cA.val hM a1 (u:= .bool (if J then !b else b)) ?_ (ep _);rw[e1,e2];simp only[aD,run_eqGuard_agg w op t X Y ⟨vs⟩ ⟨us⟩ y.2,an];subst F;cases J
    ·simp only[aO,if_false];rw[run_eql_struct,L];rfl
    ·simp only[if_true];rw[run_neq_struct,L];rfl
   |_=>rw[hu,hw]at E;simp at E
  |_=>rw[hu]at E;simp at E
 ·split at h<;>cases h
 ·split at h<;>cases h
theorem Bg(hM:aR C x s a w){O:Bool}{q:Arg}(E:bG P o=some (.isnil O q)){K:Bool->Prop}
 (h:match s.ev q with
  | .byt l _=>∀b:Bool,(b=true->l=[])->K (b !=O)
  | .lst _ xs _=>∀b:Bool,(b=true->xs=[])->K (b !=O)
  | .psl _ _ _ _ _=>K O
  |_=>False):∃b,K b/\cA P C o a w (s.put o.dst (.bool b)):=by
 have L:∃op t X Y u,o.op= .binOp op t X Y u/\(op=if O then .neq else .eql)/\(∃e,P.underlying t=some (.slice e))/\bF P t X=some q/\Y= .const (.slice none 0 0):=by
  cases T:o.op with
  |binOp op t X Y u=>
   simp only[bG,T]at E;split at E<;>try (cases E;done)
   ·split at E<;>cases E
   ·split at E<;>try (cases E;done)
    split at E<;>try (cases E;done)
    split at E<;>cases E
   ·rename_i e x' _ hd hx hy
    split at E<;>first|(cases E;done)|(cases E;exact⟨_,_,_,_,_,rfl,rfl,⟨_,hd⟩,hx,rfl⟩)
   ·split at E<;>first|(cases E;done)|contradiction
  |_=>exfalso;exact absurd E (by
   intro E;simp only[bG,T]at E
   first
    |(cases E;done)
    |(obtain⟨_,_,h⟩:=ah.1 E;cases h;done)
    |(repeat' split at E)<;>first|(cases E;done)|contradiction|(obtain⟨_,_,h⟩:=ah.1 E;first|(cases h;done)|(split at h<;>cases h;done)))
 obtain⟨op,t,X,Y,u,T,L,⟨e,hd⟩,hX,hY⟩:=L;have Z:execOp a.eval o=(do pure (.value (<-(do eqGuard op t X Y (a.eval X) (a.eval Y);binOp op t (a.eval X) (a.eval Y):Sem Value)))):=by simp only[execOp,T]
 have F:=aP hM hX;have W:a.eval Y= .slice none 0 0:=by rw[hY];rfl
 have run:∀I n J,a.eval X= .slice I n J->cA P C o a w (s.put o.dst (.bool (I.isNone !=O))):=by
  intro I n J a1
  have hg:∀v1 v2 v3 v4 v5,(eqGuard op t X Y (.slice v1 v2 v3) (.slice none v4 v5))=pure ():=by intros;subst L;cases O<;>rfl
  refine cA.val hM Z (u:= .bool (I.isNone !=O)) ?_ (ep _);rw[a1,W,hg];simp only[aD,aN,an]
  have Q:(Op.equal t (.slice I n J) (.slice none 0 0)).run P w= .ok I.isNone w:=by rw[show Op.equal t (.slice I n J) (.slice none 0 0)=Op.equalIn (9999+1) t (.slice I n J) (.slice none 0 0)from rfl,Op.equalIn];simp only[aD,run_underlying hd,an];cases I<;>rfl
  subst L;cases O
  ·simp only[aO,if_false,binOp,aD,Q,an,aN];cases I<;>rfl
  ·simp only[if_true,binOp,aD,Q,an,aN];cases I<;>rfl
 cases hu:s.ev q with
 |byt l tk=>
  rw[hu]at h F;have y:=F.data rfl;cases hv:a.eval X with
  |slice I n J=>
   refine⟨_,h I.isNone (fun hn=> ?_),run I n J hv⟩;rw[hv]at y;cases y with
   |bytN=>rfl
   |bytE=>simp at hn
   |byt _ _ b off _ _ _ _ _=>simp at hn
  |_=>rw[hv]at y;cases y
 |lst sz xs tk=>
  rw[hu]at h F;have y:=F.data rfl;cases hv:a.eval X with
  |slice I n J=>
   refine⟨_,h I.isNone (fun hn=> ?_),run I n J hv⟩;rw[hv]at y;cases y with
   |lstN=>rfl
   |lstE=>simp at hn
   |lst _ _ _ b off _ _ _ _ _ _ _ _=>simp at hn
  |_=>rw[hv]at y;cases y
 |psl o' sz off n J=>rw[hu]at h F;obtain⟨J,_,_,a2,he,_⟩:=F.psl_inv;refine⟨_,h, ?_⟩;have:=run _ _ _ he;simpa using this
 |_=>rw[hu]at h;exact h.elim
end Go.Sy
namespace Go.Sy
variable [br]
variable {P : Program} {C : Ctx} {x : Sit} {s : St} {a : Act} {w : World} {o : Oper} {so : SOp} {e : Eff}
theorem aR.newObj(hM:aR C x s a w){d:Nat}(E:LAb)(y:100<=d){cv:LAd}{t:TypeId}(obj:aH){val:SV}{u:Value}(J:obj.size<=cv.size)(I:∀k,k<obj.size->cx x obj k (cv.getD k undef))
 (F:Rep (x.newO d w.heap.size) val u):
 aR C (x.newO d w.heap.size) (((s.purge d (d+1)).addO d (obj.purge d (d+1))).put E val) (a.put E u) (w.alloc (.cells cv t (0,0))):=by
 refine aR.put ⟨?_,hM.defers, ?_⟩ E F
 ·exact cE.mono (x:=x) (x':=x.newO d w.heap.size) (lo:=d) (hi:=d+1) (fun _ _ _ h=>h) (Sit.newO_ne x d _) (fun _ _=>rfl) hM.tm
 ·exact hM.heap.allocO d y obj (fun i _ h=>by omega) J I (aX _) (fun _ h=>by omega)
theorem cA.newObj(hM:aR C x s a w){d:Nat}(h:100<=d){m:Sem Value}{cv:LAd}{t:TypeId}(obj:aH){val:SV}{u:Value}(F:execOp a.eval o=(do pure (.value (<-m))))
 (y:m.run P w= .ok u (w.alloc (.cells cv t (0,0)))) (I:obj.size<=cv.size) (J:∀k,k<obj.size->cx x obj k (cv.getD k undef)) (E:Rep (x.newO d w.heap.size) val u):
 cA P C o a w (((s.purge d (d+1)).addO d (obj.purge d (d+1))).put o.dst val):=
 ⟨u,w.alloc (.cells cv t (0,0)),_,.value u,by rw[F];simp[y],.inl rfl,hM.newObj o.dst h obj I J E⟩
theorem iZ(x:Sit)(d b:Nat){k:Nat}:(x.newO d b k).bk d=(b,k):=if_pos rfl
theorem kV(x:Sit)(d b:Nat){k:Nat}:((x.newO d b k).bk d).1=b:=by rw[iZ]
theorem HV(hM:aR C x s a w){t:TypeId}(T:o.op= .alloc t)(y:bG P o=some so)(F:eff s o.dst so=some e):cA P C o a w (s.app o.dst e):=by
 simp only[bG,T]at y;split at y<;>try (cases y;done)
 rename_i obj z O hz;split at y<;>try (cases y;done)
 rename_i h;cases y;simp only[eff]at F;split at F<;>try (cases F;done)
 rename_i d hd;cases F;obtain⟨Q,E,L⟩:=db hz;simp only[xhM,aC,decide_eq_true_eq,bf,eV]at h;simp only[St.app];have I:o.dst.getD 0=d:=by rw[hd];rfl
 rw[I];refine cA.newObj hM (d:=d+100) (by omega) obj (m:=Instr.alloc t true (.tuple #[])) (cv:=Q.cells) (t:=t) (u:= .pointer (some ⟨w.heap.size,0,none⟩)) (by simp only[execOp,T]) ?_ (by rw[<-aU,E];exact h.1) (fun k Z=> ?_) ?_
 ·simp only[Instr.alloc,aD,L,an,newVar,newRow,run_newObj_alloc,aN]
 ·have J:=h.2 k Z
  have W:Q.cells.getD k undef=z.getD k undef:=by rw[<-E];simp[aS]
  rw[W];cases obj with
  |rc cs=>exact rC J
  |arr sz xs=>exact nA J
  |bar l=>exact nA J
 ·have:=Rep.ptr (x:=x.newO (d+100) w.heap.size) (d+100) 0
  rw[kV]at this;exact this
theorem xan(hM:aR C x s a w){t:TypeId}{X:Operand}(O:o.op= .box t X)(J:bG P o=some so)(y:eff s o.dst so=some e):cA P C o a w (s.app o.dst e):=by
 simp only[bG,O]at J;obtain⟨r,E,rfl⟩:=ah.1 J;have h:=aP hM E;simp only[eff]at y;split at y<;>try (cases y;done)
 rename_i d hd;cases y;simp only[St.app];have L:(s.ev r).isDef=true->cE x (s.ev r).cells (a.eval X).cells.toList:=h.cells;have hu:(s.ev r).isDef=true\/(s.ev r).cells=[]:=by cases s.ev r<;>simp[SV.isDef,SV.cells]
 have F:o.dst.getD 0=d:=by rw[hd];rfl
 rw[F];refine cA.newObj hM (d:=d+100) (by omega) (.rc (s.ev r).cells) (m:=Instr.box t (a.eval X)) (cv:=(a.eval X).cells) (t:=t) (u:= .pointer (some ⟨w.heap.size,0,none⟩)) (by simp only[execOp,O]) ?_ ?_ (fun k I=> ?_) ?_
 ·simp only[Instr.box,aD,an,newVar,newRow,run_newObj_alloc,aN]
 ·rcases hu with hu|hu
  ·have:=(L hu).1;simp only[aH.size];rw[<-aU];omega
  ·simp[aH.size,hu]
 ·rcases hu with hu|hu
  ·have:=(L hu).2 k I
   simp only[cx];have Q:(a.eval X).cells.getD k undef=(a.eval X).cells.toList.getD k undef:=by simp[aS]
   rw[Q];exact this
  ·simp[aH.size,hu]at I
 ·have:=Rep.ptr (x:=x.newO (d+100) w.heap.size) (d+100) 0
  rw[kV]at this;exact this
theorem mg{t F:TypeId}{by_ n:Nat}{J:LAc}{l c:Int}{k1 k2:IntKind}(hd:P.underlying t=some (.slice F))(hn:fK P F=some n)(L:wg P F=some by_)(hz:gR P F=some J)
 (h0:0<=l) (h1:l<=c) (h2:(by_:Int)*c<=140737488355328) (h3:c<=9223372036854775807):
 ∃cv:LAd,(Instr.makeSlice t (.int k1 l) (.int k2 c)).run P w= .ok (.slice (some ⟨w.heap.size,0,none⟩) l.toNat c.toNat) (w.alloc (.cells cv F (0,0)))/\cv.size=c.toNat*n/\
  ∀k,k<c.toNat*n->cv.getD k undef=J.getD (k % J.length) default:=by
 obtain⟨z,W,Z⟩:=db hz;have wl:af.wrap l=l:=by rw[dC];omega
 have wc:af.wrap c=c:=by rw[dC];omega
 have hby:∃i,P.info? F=some i/\i.bytes=by_:=by
  unfold wg at L;cases hi:P.info? F with
  |none=>simp[hi]at L
  |some i=>simp[hi]at L;exact⟨i,rfl,L⟩
 obtain⟨i,hi,Q⟩:=hby
 have I:¬((decide (c<0)||decide ((i.bytes:Int)*c>2^48)||decide (l<0)||decide (l>c))=true):=by rw[Q];simp;omega
 have key:∀(O:LAd),(c.toNat*n=0\/O=z.cells)->∃cv:LAd,cv=(Array.range (c.toNat*n)).map (fun j=>O[j % O.size]!)/\cv.size=c.toNat*n/\∀k,k<c.toNat*n->cv.getD k undef=J.getD (k % J.length) default:=by
  intro O T;refine⟨_,rfl,by simp,fun k hk=> ?_⟩;rcases T with h|rfl
  ·omega
  ·rw[<-W]
   simp[aS,hk];rw[getElem!_def];cases z.cells[k % z.cells.size]? <;>rfl
 by_cases y:c.toNat*n=0
 ·obtain⟨cv,E,r1,r2⟩:=key #[] (.inl y)
  refine⟨cv, ?_,r1,r2⟩;simp only[Instr.makeSlice,aD,run_underlying hd,an,asInt,asIntOf,aN,run_typeInfo w hi,wl,wc];rw[if_neg (by simpa using I)];simp only[aD,run_askRoom,an,cr hn];rw[if_pos y];simp only[aD,aN,an,newRow,run_newObj_alloc,E]
 ·obtain⟨cv,E,r1,r2⟩:=key z.cells (.inr rfl)
  refine⟨cv, ?_,r1,r2⟩;simp only[Instr.makeSlice,aD,run_underlying hd,an,asInt,asIntOf,aN,run_typeInfo w hi,wl,wc];rw[if_neg (by simpa using I)];simp only[aD,run_askRoom,an,cr hn];rw[if_neg y];simp only[aD,aN,an,Z,newRow,run_newObj_alloc,E]
end Go.Sy
namespace Go.Sy
variable [br]
variable {P : Program} {C : Ctx} {x : Sit} {s : St} {a : Act} {w : World} {o : Oper} {so : SOp} {e : Eff}
theorem ge{α:Type}(n:Nat)(z d:α)(i:Nat)(h:i<n):(aL n z).getD i d=z:=by rw[aa,List.getElem?_replicate,if_pos h];rfl
theorem oN{t:TypeId}{cs:t8}(h:BA P t=some cs):∃vs,gR P t=some vs/\cs.length=vs.length/\∀(G:GM) i,i<cs.length->cL G (cs.getD i .undef) (vs.getD i undef):=by obtain⟨z,hz,rfl⟩:=ah.1 h;obtain⟨vs,E,F,y⟩:=kj hz;refine⟨vs,E,by simpa using F,fun G i hi=> ?_⟩;rw[bg _ (by rfl)];exact(y G i (by simpa using hi)).toData
theorem s8(hM:aR C x s a w){t:TypeId}{X Y:Operand}(ho:o.op= .makeSlice t X Y)(h:bG P o=some so)(J:eff s o.dst so=some e)(hp:e.pre):cA P C o a w (s.app o.dst e):=by
 have a2:execOp a.eval o=(do pure (.value (<-Instr.makeSlice t (a.eval X) (a.eval Y)))):=by simp only[execOp,ho]
 simp only[bG,ho]at h;split at h<;>try (cases h;done)
 rename_i el hd;split at h<;>try (cases h;done)
 rename_i n by_ z l c hn hb hz hl hc;obtain⟨zs,a1,F,W⟩:=oN hz;have h1:=aP hM hl;have h2:=aP hM hc;cases h8:m5 P el with
 |true=>
  have a8:=kb h8;simp only[h8,if_true]at h
  by_cases T:n=1/\by_=1/\z0 z=true
  ·rw[if_pos T]at h
   obtain⟨rfl,rfl,I⟩:=T;simp only[ax.injEq]at h;subst h;simp only[eff]at J;split at J<;>try (cases J;done)
   rename_i d k1 L k2 K O hL hK;cases J;obtain⟨q0,q1,q2⟩:=hp;rw[hL]at h1;rw[hK]at h2;obtain⟨cv,E,Z,y⟩:=mg (P:=P) (w:=w) (k1:=k1) (k2:=k2) hd hn hb a1 q0 q1 (by omega) (by omega);simp only[St.app];have Q:o.dst.getD 0=d:=by rw[O];rfl
   rw[Q]
   have a7:z=[.u8 0]:=by
    unfold z0 at I;split at I
    ·rename_i b;simp at I;rw[I]
    ·cases I
   refine cA.newObj hM (d:=d+100) (by omega) (.bar (aL K.toNat 0)) a2 (by rw[h1.int_inv,h2.int_inv];exact E) (by simp[aH.size,Z]) (fun k hk=> ?_) ?_
   ·simp only[aH.size,dJ]at hk
    simp only[cx,aH.cell];rw[y k (by omega),ge _ _ _ _ hk];rw[a7]at F W;have h0:=W x.G 0 (by simp);have:zs.length=1:=by simpa using F.symm
    rw[this,Nat.mod_one]
    match zs,this with
    |[v],_=>exact h0
   ·have:=Rep.psl (x:=x.newO (d+100) w.heap.size) (d+100) 1 0 L.toNat (some K.toNat) 0 K.toNat (.inr (by omega)) (by omega) (fun _ e=>by cases e;rfl) (fun e=>by cases e)
    rw[kV]at this;exact this
  ·rw[if_neg T]at h;cases h
 |false=>
  simp only[h8,aO,if_false]at h
  by_cases hzl:z.length=n/\n≠0
  ·rw[if_pos hzl]at h
   simp only[ax.injEq]at h;subst h;obtain⟨hzl,hn0⟩:=hzl;simp only[eff]at J;split at J<;>try (cases J;done)
   rename_i d k1 L k2 K O hL hK;cases J;obtain⟨q0,q1,q2,q3⟩:=hp;rw[hL]at h1;rw[hK]at h2;obtain⟨cv,E,Z,y⟩:=mg (P:=P) (w:=w) (k1:=k1) (k2:=k2) hd hn hb a1 q0 q1 q2 q3;simp only[St.app];have Q:o.dst.getD 0=d:=by rw[O];rfl
   rw[Q];refine cA.newObj hM (d:=d+100) (by omega) (.arr z.length (aL K.toNat z)) a2 (by rw[h1.int_inv,h2.int_inv];exact E) (by simp[aH.size,Z,hzl]) (fun k hk=> ?_) ?_
   ·simp only[aH.size,dJ]at hk
    simp only[cx,aH.cell];rw[y k (by rw[<-hzl];exact hk),ge _ _ _ _ (Nat.div_lt_of_lt_mul (by rw[cM];exact hk)),<-F];have a6:k % z.length<z.length:=Nat.mod_lt _ (by omega);have:=W x.G _ a6
    have e1:zs.getD (k % z.length) default=zs.getD (k % z.length) undef:=by rw[aa,aa,ac (by omega)];rfl
    rw[e1];exact this
   ·have:=Rep.psl (x:=x.newO (d+100) w.heap.size) (d+100) z.length 0 L.toNat (some K.toNat) 0 K.toNat (.inr (by omega)) (by omega) (fun _ e=>by cases e;rfl) (fun e=>by cases e)
    rw[kV]at this;exact this
  ·rw[if_neg hzl]at h;cases h
theorem cL.oneCell{G:GM}{c:SV}{v:Value}(h:cL G c v):v.oneCell'=true:=by cases h<;>rfl
theorem Rep.oneCell{c:SV}{v:Value}(h:Rep x c v)(y:c.one=true):v.oneCell'=true:=by
 cases h with
 |undef=>simp[SV.one]at y
 |dat _ _ h _=>exact h.oneCell
 |ptr=>rfl
 |ap=>rfl
 |psl=>rfl
 |agg=>simp[SV.one]at y
 |tup=>simp[SV.one]at y
 |fn=>rfl
theorem uZ(cs:t8)(off:Nat)(v:t8)(h:off+v.length<=cs.length)(i:Nat):(setCells cs off v).getD i .undef=if off<=i/\i<off+v.length then v.getD (i-off) .undef else cs.getD i .undef:=by
 have y:∀i:Nat,(cs.take off++v++cs.drop (off+v.length)).getD i .undef=if off<=i/\i<off+v.length then v.getD (i-off) .undef else cs.getD i .undef:=by intro i;simp only[aa];rw[gS _ _ _ _ h];split<;>rfl
 unfold setCells;split
 ·rename_i u
  simp only[aF]at*;simp only[aa,ij]
  by_cases hi:off=i
  ·subst hi;rw[if_pos rfl,if_pos (by omega),if_pos (by omega)];simp
  ·rw[if_neg hi,if_neg (by omega)]
 ·exact y i
theorem ph(cs:t8)(off:Nat)(v:t8)(h:off+v.length<=cs.length):(setCells cs off v).length=cs.length:=by
 unfold setCells;split
 ·simp
 ·simp;omega
theorem cA.store(hM:aR C x s a w){t:TypeId}{X Y:Operand}(ho:o.op= .store t X Y){n:Nat}(hn:fK P t=some n){d off:Nat}(hX:a.eval X= .pointer (some ⟨(x.bk d).1,off,none⟩)){obj obj':aH}(Z:s.look d=some obj)
 {vs:LAc} (hY:(a.eval Y).cells.toList=vs) (J:vs.length=n) (E:∀v∈vs,v.oneCell'=true) (hb:off+n<=obj.size)
 (a2:obj'.size=obj.size) (y:∀c:LAd,(∀k,k<obj.size->cx x obj k (c.getD k undef))->∀k,k<obj.size->cx x obj' k (if off<=k/\k<off+n then vs.getD (k-off) undef else c.getD k undef)) (I:obj'.arrB=obj.arrB:=by rfl):
 cA P C o a w ((s.setO d obj').put o.dst .undef):=by
 obtain⟨c,e,fl,fh,W,⟨hs,a1,O⟩,hr⟩:=fD hM Z;obtain⟨g1,g2,g3,g4,g5⟩:=dM ((x.bk d).1) vs w off;obtain⟨c',L,Q,T⟩:=dv vs w off c W (by omega);refine⟨undef,cd w ((x.bk d).1) off vs,x,.skip, ?_,.inr ⟨rfl,rfl⟩,aR.put (s:=s.setO d obj') ⟨hM.tm,hM.defers, ?_⟩ o.dst (.undef _)⟩
 ·simp only[execOp,ho,Instr.storeAt,hX,Instr.sureAddr,aD,aN,an,storeVar,cr hn]
  have F:(a.eval Y).cells.size=n:=by rw[<-aU,hY];exact J
  rw[if_neg (by simp[F]),hY,fZ off vs w c 0 W (by omega) E];rfl
 ·refine hM.heap.block (dr Z) g1 g2 g3 g4 g5 ⟨c',e,fl,fh,L,⟨by omega,by omega,fun h=>by rw[Q];exact O (I ▸ h)⟩,fun k hk=> ?_⟩
  rw[T k,J];exact y c hr k (by omega)
theorem oy{cs:t8}{vs:LAc}(h:cE x cs vs)(F:cs.all SV.one=true):∀v∈vs,v.oneCell'=true:=by
 intro v I;obtain⟨i,hi,rfl⟩:=bp I;have y:i<cs.length:=by rw[h.1];exact hi
 have:=h.2 i y;have E:cs.getD i .undef=cs[i]:=by rw[aa,ac y];rfl
 have J:vs.getD i undef=vs[i]:=by rw[aa,ac hi];rfl
 rw[E,J]at this;exact this.oneCell (bf.1 F _ (bv _))
theorem qD{c:SV}(h:c.isData=true):c.one=true:=by cases c<;>simp[SV.isData,SV.one]at*
theorem YU{E:Nat}{F:d8}(h:∀y∈F,y.length=E){i j n:Nat}{v:t8}(hi:i<F.length)(hj:j+n<=E)(hv:v.length=n):
 (jX E F i j n v).length=F.length/\∀k,k<F.length*E->((jX E F i j n v).getD (k/E) []).getD (k % E) .undef=if i*E+j<=k/\k<i*E+j+n then v.getD (k-(i*E+j)) .undef else(F.getD (k/E) []).getD (k % E) .undef:=by
 have a2:(F.getD i []).length=E:=by rw[aa,ac hi];exact h _ (bv _)
 obtain⟨W,O,L⟩:∃W:t8,(∀m,m<E->W.getD m .undef=if j<=m/\m<j+n then v.getD (m-j) .undef else(F.getD i []).getD m .undef)/\jX E F i j n v=F.set i W:=by
  unfold jX;split
  ·rename_i T
   obtain⟨rfl,rfl⟩:=T;exact⟨v,fun m hm=>by rw[if_pos ⟨by omega,by omega⟩,Nat.sub_zero],rfl⟩
  ·refine⟨_,fun m hm=> ?_,rfl⟩
   have:=gS (F.getD i []) v j m (by omega);rw[hv]at this;simp only[aa]at this ⊢;rw[this];split<;>rfl
 rw[L];refine⟨by simp,fun k hk=> ?_⟩
 have Q:0<E:=by
  rcases ib E with Z|Z
  ·subst Z;omega
  ·exact Z
 have J:=Nat.div_add_mod k E;have a1:=Nat.mod_lt k Q;rw[cM]at J;simp only[aa,ij]at O ⊢
 by_cases I:i=k/E
 ·rw[if_pos I,if_pos hi]
  simp only[aM];rw[O _ a1,<-I];rw[<-I]at J
  by_cases T:j<=k % E/\k % E<j+n
  ·rw[if_pos T,if_pos (by omega),show k-(i*E+j)=k % E-j from by omega]
  ·rw[if_neg T,if_neg (by omega)]
 ·rw[if_neg I,if_neg ?_]
  rintro⟨h1,h2⟩;apply I;have:i*E<=k/\k<(i+1)*E:=by rw[ee];omega
  rw[eq_comm,Nat.div_eq_iff Q];rw[ee]at this;omega
theorem m7(h:Nat):∀(m:Nat)(v:t8),(kG h m v).length=m
 |0,_=>rfl
 |m+1,v=>by simp[kG,m7 h m]
theorem uK(y:Nat)(E:0<y):∀(m:Nat)(v:t8)(k:Nat),k<m*y->((kG y m v).getD (k/y) []).getD (k % y) .undef=v.getD k .undef
 |0,_,k,hk=>by omega
 |m+1,v,k,hk=>by
  rw[ee]at hk;simp only[kG]
  by_cases h:k<y
  ·rw[Bz h,cH h,List.getD_cons_zero]
   simp only[aa,bL,if_pos h]
  ·obtain⟨j,rfl⟩:∃j,k=j+y:=⟨k-y,by omega⟩
   rw[Nat.add_div_right _ E,Nat.add_mod_right,jg,uK y E m (v.drop y) j (by omega)];simp only[aa,bz,Nat.add_comm]
theorem HS(hM:aR C x s a w){t:TypeId}{X Y:Operand}(W:o.op= .store t X Y)(hr:bG P o=some so)(h:eff s o.dst so=some e)(hp:e.pre):cA P C o a w (s.app o.dst e):=by
 simp only[bG,W]at hr;split at hr<;>try (cases hr;done)
 rename_i n r q hn a7 a8;cases hr;have O:=aP hM a7;have h2:=aP hM a8;simp only[eff]at h;split at h<;>try (cases h;done)
 rename_i hn0;have hL:=h2.cells hn0;cases hu:s.ev r with
 |ptr d off=>
  rw[hu]at h O;simp only[sD]at h;split at h<;>try (cases h;done)
  ·rename_i cs F
   cases h;obtain⟨T,J,I⟩:=hp;refine cA.store hM W hn O.ptr_inv F rfl (by rw[<-hL.1];exact J) (oy hL I) T (by simp only[aH.size];exact ph _ _ _ (by omega)) (fun c Q k E=> ?_);have:=Q k E;simp only[cx]at this ⊢;rw[uZ _ _ _ (by omega),J];split
   ·exact hL.get _
   ·exact this
  ·rename_i L xs F
   cases h;obtain⟨rfl,T,J,I⟩:=hp
   refine cA.store hM W hn O.ptr_inv F rfl (by rw[<-hL.1];exact J) (oy hL (by rw[bf]at I ⊢;exact fun z hz=>qD (I z hz))) (by simp only[aH.size];omega) (by simp only[aH.size,m7]) (fun c Q k E=> ?_)
   simp only[aH.size]at E;have y:k<(s.ev q).cells.length:=by omega
   have b1:0<L:=by
    rcases ib L with h0|h0
    ·subst h0;omega
    ·exact h0
   simp only[cx,aH.cell];rw[if_pos ⟨by omega,by omega⟩,Nat.sub_zero,uK L b1 _ _ _ E,hJ];refine((hL.2 _ y).data (bf.1 I _ ?_)).toData;generalize (s.ev q).cells=qq at*;rw[aa,ac y];exact bv _
  ·rename_i l F
   split at h<;>try (cases h;done)
   rename_i l' hv;cases h;obtain⟨rfl,T,J⟩:=hp;have b0:=vi hv;rw[b0]at hL
   refine cA.store hM W hn O.ptr_inv F rfl (by rw[<-hL.1,aY];exact J) (oy hL (by rw[bf];intro z hz;obtain⟨b,_,rfl⟩:=aZ.1 hz;rfl)) (by simp only[aH.size];omega) (by simp only[aH.size];omega) (fun c Q k E=> ?_)
   simp only[aH.size]at E;simp only[cx,aH.cell];rw[if_pos ⟨by omega,by omega⟩,Nat.sub_zero];have y:k<(l'.map SV.u8).length:=by rw[aY];omega
   have a2:k<l'.length:=by omega
   have Z:(l'.map SV.u8).getD k .undef= .u8 (l'.getD k 0):=by simp[aa,aT,ac a2]
   have:=hL.2 k y;rw[Z]at this;exact this.data rfl
 |ap d L i j=>
  rw[hu]at h O;simp only[sD]at h;split at h<;>try (cases h;done)
  ·rename_i b3 xs F
   cases h;obtain⟨rfl,T,J,I,q3,q4⟩:=hp;have a6:((s.ev q).cells.map SV.data).length=n:=by rw[aY];exact I
   obtain⟨g1,g2⟩:=YU q3 T J a6
   have hb:i*L+j+n<=xs.length*L:=by have:=bh L (Nat.succ_le_of_lt T);rw[ee]at this;omega
   refine cA.store hM W hn O.ap_inv F rfl (by rw[<-hL.1];exact I) (oy hL (by rw[bf]at q4 ⊢;exact fun z hz=>qD (q4 z hz))) (by simp only[aH.size];exact hb) (by simp only[aH.size];rw[g1]) (fun c Q k E=> ?_)
   have:=Q k E;simp only[cx,aH.cell,aH.size]at this E ⊢;rw[g2 k E];split
   ·rename_i b4
    rw[hJ];have y:k-(i*L+j)<(s.ev q).cells.length:=by omega
    refine((hL.2 _ y).data (bf.1 q4 _ ?_)).toData;generalize (s.ev q).cells=qq at*;rw[aa,ac y];exact bv _
   ·exact this
  ·rename_i l F
   split at h<;>try (cases h;done)
   rename_i b hb;cases h;obtain⟨rfl,rfl,rfl,T⟩:=hp;rw[hb]at hL;refine cA.store hM W hn O.ap_inv F rfl (by rw[<-hL.1];rfl) (oy hL rfl) (by simp only[aH.size];omega) (by simp[aH.size]) (fun c Q k E=> ?_);have:=Q k E;simp only[cx,aH.cell,aH.size]at this E ⊢;simp only[dp,ft]
   by_cases a1:k=i
   ·subst a1
    rw[if_pos (by omega),sA];have Z:(l.set k b).getD k 0=b:=by rw[aa,ij,if_pos rfl,if_pos E];rfl
    rw[Z];exact(hL.2 0 (by simp)).data rfl
   ·rw[if_neg (by omega)]
    have Z:(l.set i b).getD k 0=l.getD k 0:=by rw[aa,ij,if_neg (fun e=>a1 e.symm),<-aa]
    rw[Z];exact this
 |_=>rw[hu]at h;simp[sD]at h
end Go.Sy
namespace Go.Sy
variable [br]
variable {P : Program} {C : Ctx} {x : Sit} {s : St} {a : Act} {w : World} {o : Oper} {so : SOp} {e : Eff}
def xzs(G:GM)(b off:Nat)(fl:t8):Prop:=∀k,k<fl.length->∃v,G b (off+k)=some v/\cL G (fl.getD k .undef) v
def Gz(G:GM)(h:Nat)(fl:t8)(v:Value)(n cap:Nat):Prop:=
 n*h=fl.length/\n<=cap/\((∃b off,v= .slice (some ⟨b,off,none⟩) n cap/\xzs G b off fl)\/((∃a,v= .slice a 0 0)/\n=0/\cap=0))
theorem jp(l:d9)(k:Nat)(h:k<l.length):(l.map SV.u8).getD k .undef= .u8 (l.getD k 0):=by simp only[aa,aT];rw[ac h];rfl
theorem zo{G:GM}{l:d9}{t:Tok}{v:Value}(h:cL G (.byt l t) v):∃cap,Gz G 1 (l.map .u8) v l.length cap/\∃bs,v= .slice bs l.length cap:=by
 cases h with
 |bytN=>exact⟨0,⟨by simp,by simp,.inr ⟨⟨none,rfl⟩,rfl,rfl⟩⟩,none,rfl⟩
 |bytE _ a=>exact⟨0,⟨by simp,by simp,.inr ⟨⟨some a,rfl⟩,rfl,rfl⟩⟩,some a,rfl⟩
 |byt _ _ b off cap n hn E h=>subst hn;refine⟨cap,⟨by simp,E,.inl ⟨b,off,rfl,fun k y=> ?_⟩⟩,_,rfl⟩;rw[aY]at y;exact⟨_,h k y,by rw[jp _ _ y];exact .u8 _⟩
theorem K6{G:GM}{l:d9}{t:Tok}{v:Value}{cap:Nat}(h:Gz G 1 (l.map .u8) v l.length cap):cL G (.byt l t) v:=by
 obtain⟨_,J,⟨b,off,rfl,I⟩|⟨⟨a,rfl⟩,E,_⟩⟩:=h
 ·refine .byt l t b off cap l.length rfl J fun i hi=> ?_
  obtain⟨v,F,y⟩:=I i (by simpa using hi);rw[jp _ _ hi]at y;cases y;exact F
 ·have:l=[]:=cu.1 E
  subst this;cases a with
  |none=>exact .bytN t
  |some a=>exact .bytE t a
theorem bW{F:Nat}{E:d8}(h:∀y∈E,y.length=F):E.flatten.length=E.length*F:=by
 induction E with
 |nil=>simp
 |cons y r I=>simp only[cD,ae,al,ee];rw[I (fun z hz=>h z (aw _ hz)),h y (by simp)];omega
theorem xZ{F:Nat}{E:d8}(h:∀i,i<E.length->(E.getD i []).length=F):∀y∈E,y.length=F:=by intro y I;obtain⟨i,hi,rfl⟩:=bp I;have:=h i hi;rwa[aa,ac hi]at this
theorem r5{G:GM}{F:Nat}{I:d8}{t:Tok}{v:Value}(h:cL G (.lst F I t) v):∃cap,Gz G F I.flatten v I.length cap/\(∃bs,v= .slice bs I.length cap)/\∀y∈I,y.length=F:=by
 cases h with
 |lstN=>exact⟨0,⟨by simp,by simp,.inr ⟨⟨none,rfl⟩,rfl,rfl⟩⟩,⟨none,rfl⟩,by simp⟩
 |lstE _ _ a=>exact⟨0,⟨by simp,by simp,.inr ⟨⟨some a,rfl⟩,rfl,rfl⟩⟩,⟨some a,rfl⟩,by simp⟩
 |lst _ _ _ b off cap n W hn hc hl Z h=>
  subst hn;have E:=xZ hl;refine⟨cap,⟨(bW E).symm,hc,.inl ⟨b,off,rfl,fun k Q=> ?_⟩⟩,⟨_,rfl⟩,E⟩;rw[bW E]at Q
  have O:0<F:=by
   rcases ib F with L|L
   ·subst L;omega
   ·exact L
  have hd:k/F<I.length:=Nat.div_lt_of_lt_mul (by rw[cM];exact Q);have T:=Nat.mod_lt k O;have J:=Nat.div_add_mod k F;rw[cM]at J;refine⟨W (k/F) (k % F), ?_, ?_⟩
  ·have:=Z _ _ hd T
   rwa[fu,J]at this
  ·rw[cV I E k Q];exact h _ _ hd T
theorem Ku{G:GM}{E:Nat}{I:d8}{t:Tok}{v:Value}{cap:Nat}(h:Gz G E I.flatten v I.length cap)(F:∀y∈I,y.length=E):cL G (.lst E I t) v:=by
 obtain⟨_,T,⟨b,off,rfl,Z⟩|⟨⟨a,rfl⟩,W,_⟩⟩:=h
 ·refine .lst E I t b off cap I.length (fun i j=>(G b (off+i*E+j)).getD undef) rfl T (fun i hi=> ?_) (fun i j hi Q=> ?_) (fun i j hi Q=> ?_)
  ·rw[aa,ac hi];exact F _ (bv _)
  all_goals
   have O:i*E+j<I.length*E:=by have:=bh E (Nat.succ_le_of_lt hi);rw[ee]at this;omega
   obtain⟨v,L,J⟩:=Z (i*E+j) (by rw[bW F];exact O);rw[<-fu]at L
  ·rw[L];rfl
  ·rw[L]
   rw[cV I F _ O,show(i*E+j)/E=i from by rw[cM,Nat.mul_add_div (by omega),Bz (by omega)];rfl,
    show(i*E+j) % E=j from by rw[cM,Nat.mul_add_mod,cH (by omega)]]at J
   exact J
 ·have:I=[]:=cu.1 W
  subst this;cases a with
  |none=>exact .lstN E t
  |some a=>exact .lstE E t a
structure New(x:Sit)(ns:List Value)(fl:List SV):Prop where
 len:fl.length=ns.length
 rep:∀k,k<fl.length->cL x.G (fl.getD k .undef) (ns.getD k undef)
 one:∀v∈ns,v.oneCell'=true
theorem ce(z:LAd)(n:Nat):(Builtin.zeroCells z n).size=n*z.size:=by simp[Builtin.zeroCells]
theorem aR.retok(hM:aR C x s a w){t:Tok}(O:t.ready s=true)(d:Nat){y n cap:Nat}{bs:Option Addr}(I:dR x y t (.slice bs n cap)):
 ∃b lo hi,aR C (x.newT d b lo hi) (s.grew t d) a w/\dR (x.newT d b lo hi) y (.id d) (.slice bs n cap):=by
 have empty:cap=n->∃b lo hi,aR C (x.newT d b lo hi) (s.grew t d) a w/\dR (x.newT d b lo hi) y (.id d) (.slice bs n cap):=by
  intro E;refine⟨0,0,0,⟨?_,hM.defers, ?_⟩,bs,n,cap,rfl,.inl E⟩
  ·exact cE.mono (x:=x) (x':=x.newT d 0 0 0) (lo:=d) (hi:=d+1) (fun _ _ _ h=>h) (fun _ _=>rfl) (Sit.newT_ne x d 0 0 0) hM.tm
  ·refine(hM.heap.sub (tk':=t.eat s.tk) (o7.refl _) ?_).addT d 0 0 0 (.inl rfl) (.inl rfl) (.inl rfl)
   intro u hu;cases t with
   |id t=>exact gV hu
   |_=>exact hu
 cases t with
 |no=>simp[Tok.ready]at O
 |clip=>obtain⟨T,W,J⟩:=I;simp only[Value.slice.injEq]at J;exact empty (by omega)
 |id t=>
  obtain⟨T,W,Q,J,Z⟩:=I;simp only[Value.slice.injEq]at J;obtain⟨rfl,rfl,rfl⟩:=J;rcases Z with E|⟨b,off,rfl,hτ⟩
  ·exact empty E
  ·have F:t∈s.tk:=by simpa[Tok.ready]using O
   refine⟨b,off+n*y,off+cap*y,⟨?_,hM.defers, ?_⟩,_,n,cap,rfl,.inr ⟨b,off,rfl,Sit.newT_eq x d _ _ _⟩⟩
   ·exact cE.mono (x:=x) (x':=x.newT d b (off+n*y) (off+cap*y)) (lo:=d) (hi:=d+1) (fun _ _ _ h=>h) (fun _ _=>rfl) (Sit.newT_ne x d _ _ _) hM.tm
   ·have L:=hM.heap.tks t F
    unfold iR at L;rw[hτ]at L;refine(hM.heap.sub (tk':=cJ t (t+1) s.tk) (o7.refl _) (fun u hu=>gV hu)).addT d b (off+n*y) (off+cap*y) L ?_ ?_
    ·by_cases E:off+n*y=off+cap*y
     ·exact .inl E
     ·refine .inr fun p hp _=> ?_
      have:=hM.heap.tko t F p hp;rw[hτ]at this;exact this.resolve_right E
    ·by_cases E:off+n*y=off+cap*y
     ·exact .inl E
     ·refine .inr fun u hu _=> ?_
      obtain⟨hu,a1⟩:=bU.1 hu;have:=hM.heap.tkd t F u hu (by omega);rw[hτ]at this;rcases this with h|h|h
      ·exact .inl h
      ·exact absurd h E
      ·exact .inr h
theorem fc{t u O:TypeId}{J:TypeDesc}{n m len cap:Nat}(hd:P.underlying t=some (.slice O))(hu:P.underlying u=some J)(I:(∃F,J= .slice F)\/J= .string)(hn:fK P O=some n){ty:TypeId}{bs:Option Addr}{Y:Value}{ns:LAc}{w1:World}
 (E:(Builtin.lenOf Y).run P w= .ok m w) (h:(Builtin.firstCells n m Y).run P w= .ok ns.toArray w) (T:len+m<=cap)
 (y:(match bs with|some L=>storeCells (L.add (len*n)) ns|none=>pure ():Sem Unit).run P w= .ok () w1):
 (Builtin.append_ #[t,u] ty #[.slice bs len cap,Y]).run P w= .ok (.slice bs (len+m) cap) w1:=by
 have e:(#[t,u]:Array TypeId)[0]? =some t:=rfl;have F:(#[t,u]:Array TypeId)[1]? =some u:=rfl;have W:(#[Value.slice bs len cap,Y]:LAd)[0]? =some (.slice bs len cap):=rfl;have Q:(#[Value.slice bs len cap,Y]:LAd)[1]? =some Y:=rfl;rcases I with⟨Z,rfl⟩|rfl
 all_goals
  simp only[Builtin.append_,e,F,W,Q,aD,run_underlying hd,an,cr hn,run_underlying hu,aN,aO,if_false,E,T,if_true,Bool.not_false,h];cases bs with
  |none=>simp only[aN]at y;cases y;rfl
  |some L=>simp only[aD];rw[y];rfl
theorem fv{t u y:TypeId}{Z:TypeDesc}{n m len cap by_:Nat}{i:TypeInfo}{z:Value}(hd:P.underlying t=some (.slice y))(hu:P.underlying u=some Z)(W:(∃O,Z= .slice O)\/Z= .string)(hn:fK P y=some n){ty:TypeId}{bs:Option Addr}{Y:Value}{os ns:LAc}
 (hi:P.info? y=some i) (E:i.bytes=by_) (hb0:by_≠0) (Q:∀w,(zeroValue y).run P w= .ok z w)
 (J:∀w',w'.heap=w.heap->(Builtin.lenOf Y).run P w'= .ok m w') (h:∀w',w'.heap=w.heap->(Builtin.firstCells n m Y).run P w'= .ok ns.toArray w') (L:∀w',w'.heap=w.heap->(Builtin.firstCells n len (.slice bs len cap)).run P w'= .ok os.toArray w')
 (hc:¬len+m<=cap) (F:(len+m)*by_<=140737488355328):
 ∃T,len+m<=T/\(Builtin.append_ #[t,u] ty #[.slice bs len cap,Y]).run P w= .ok (.slice (some ⟨w.heap.size,0,none⟩) (len+m) T) (w.drew.alloc (.cells (os.toArray++ns.toArray++Builtin.zeroCells z.cells (T-(len+m))) y (0,0))):=by
 have e:(#[t,u]:Array TypeId)[0]? =some t:=rfl;have O:(#[t,u]:Array TypeId)[1]? =some u:=rfl;have e2:(#[Value.slice bs len cap,Y]:LAd)[0]? =some (.slice bs len cap):=rfl;have e3:(#[Value.slice bs len cap,Y]:LAd)[1]? =some Y:=rfl;have hf:(Question.appendCap (len+m) cap y).forced=false:=rfl
 have I:¬Builtin.nextslicecap (len+m) cap*i.bytes>2^48:=by have:=growslice_fits (need:=len+m) (old:=cap) (bytes:=by_) (by omega) F;rw[E];omega
 refine⟨(Question.appendCap (len+m) cap y).cut (w.tape w.drawn (Question.appendCap (len+m) cap y)),by simp only[Question.cut];omega, ?_⟩;rcases W with⟨e4,rfl⟩|rfl
 all_goals
  simp only[Builtin.append_,e,O,e2,e3,aD,run_underlying hd,an,cr hn,run_underlying hu,aN,aO,if_false,J w rfl,hc,run_typeInfo w hi,E,hb0,false_or,and_false];rw[if_neg (by rw[<-E];exact I)];simp only[aD,run_choose_drew,hf,aO,if_false,an,run_typeInfo w.drew hi,run_askRoom,L w.drew rfl,Bool.not_false,if_true,h w.drew rfl,Q,newRow,run_newObj_alloc,aN];rfl
theorem ls(os ns:LAc)(r:LAd)(k:Nat)(h:k<os.length+ns.length):(os.toArray++ns.toArray++r)[k]? =(os++ns)[k]? :=by rw[co (by simp;omega)];rw[<-cY];simp
theorem pW(hM:aR C x s a w){t u el:TypeId}{d2:TypeDesc}{n by_:Nat}{zs:LAc}(hd:P.underlying t=some (.slice el))(hu:P.underlying u=some d2)(b4:(∃e',d2= .slice e')\/d2= .string)(hn:fK P el=some n)(hb:wg P el=some by_)
 (hz:gR P el=some zs) (hb0:by_≠0) (c3:n≠0) (hzl:zs.length=n) {ty:TypeId} {X Y:Value} {tok:Tok} {fl y:t8} {ns:LAc} {len m cap:Nat} (hX:Gz x.G n fl X len cap) (T:tok.ready s=true) (b3:dR x n tok X)
 (Q:∀w',w'.heap=w.heap->(Builtin.lenOf Y).run P w'= .ok m w') (F:∀w',w'.heap=w.heap->(Builtin.firstCells n m Y).run P w'= .ok ns.toArray w') (L:ns.length=m*n) (E:New x ns y) (b1:(len+m)*by_<=140737488355328) (d:Nat):
 ∃v w' x' a7,(Builtin.append_ #[t,u] ty #[X,Y]).run P w= .ok v w'/\aR C x' (s.grew tok d) a w'/\Gz x'.G n (fl++y) v (len+m) a7/\dR x' n (.id d) v:=by
 obtain⟨O,h6,a2⟩:=hX;obtain⟨z,g2,g4⟩:=db hz
 have hby:∃i,P.info? el=some i/\i.bytes=by_:=by
  unfold wg at hb;cases hi:P.info? el with
  |none=>simp[hi]at hb
  |some i=>simp[hi]at hb;exact⟨i,rfl,hb⟩
 obtain⟨i,hi,g1⟩:=hby
 obtain⟨bs,g3⟩:∃bs,X= .slice bs len cap:=by
  rcases a2 with⟨b,off,rfl,_⟩|⟨⟨a,rfl⟩,rfl,rfl⟩
  ·exact⟨_,rfl⟩
  ·exact⟨_,rfl⟩
 subst g3;have e4:y.length=m*n:=by rw[E.len,L]
 have a1:(len+m)*n=(fl++y).length:=by rw[ae,e4,<-O,bE]
 by_cases hc:len+m<=cap
 ·by_cases hm:ns=[]
  ·
   subst hm;have c5:y=[]:=cu.1 (by rw[E.len];rfl);subst c5;obtain⟨b,lo,h0,g5,b7⟩:=hM.retok T d b3
   by_cases a6:m=0
   ·subst a6
    refine⟨_,w,_,cap,fc hd hu b4 hn (Q w rfl) (F w rfl) hc (by cases bs<;>rfl),g5, ?_,b7⟩;refine⟨by simpa using O,hc, ?_⟩;rcases a2 with⟨b,off,I,hr⟩|⟨I,h1,h2⟩
    ·exact .inl ⟨b,off,I,by rw[bx];exact hr⟩
    ·exact .inr ⟨I,h1,h2⟩
   ·
    have hn0:n=0:=by
     simp only[aA]at L;rcases Nat.mul_eq_zero.1 L.symm with h|h
     ·exact absurd h a6
     ·exact h
    exact absurd hn0 c3
  ·have d3:0<ns.length:=List.length_pos_iff.2 hm
   have e3:0<m*n:=by omega
   cases tok with
   |no=>simp[Tok.ready]at T
   |clip=>
    obtain⟨b',n',I⟩:=b3;simp only[Value.slice.injEq]at I;have:m=0:=by omega
    subst this;omega
   |id tk=>
    have f0:tk∈s.tk:=by simpa[Tok.ready]using T
    obtain⟨b',n',a7,I,hh⟩:=b3;simp only[Value.slice.injEq]at I;obtain⟨rfl,rfl,rfl⟩:=I;rcases hh with h7|⟨b,off,rfl,hτ⟩
    ·have:m=0:=by omega
     subst this;omega
    ·have c7:off+len*n+ns.length<=off+cap*n:=by
      rw[L,fu,<-bE];exact Nat.add_le_add_left (bh _ hc) _
     obtain⟨f1,f2,f3,f4,f5,f6,f7,⟨c0,e0,h4,h5,hO,h8⟩⟩:=hM.heap.fill f0 hτ ns c7 d3
     have Z:=fc (t:=t) (u:=u) (ty:=ty) (Y:=Y) (bs:=some ⟨b,off,none⟩) (w1:=cd w b (off+len*n) ns) hd hu b4 hn (Q w rfl) (F w rfl) hc (by simp only[dD];exact fZ (off+len*n) ns w c0 0 hO (by omega) E.one)
     refine⟨_,_,(x.fill b (off+len*n) ns).newT d b (off+len*n+ns.length) (off+cap*n),cap,Z,⟨?_,hM.defers, ?_⟩,⟨a1,hc,.inl ⟨b,off,rfl, ?_⟩⟩, ?_⟩
     ·exact cE.mono (x:=x) (x':=(x.fill b (off+len*n) ns).newT d b (off+len*n+ns.length) (off+cap*n)) (lo:=d) (hi:=d+1) f1 (fun _ _=>rfl) (Sit.newT_ne (x.fill b (off+len*n) ns) d _ _ _) hM.tm
     ·exact f2.addT d b _ _ (.inr ⟨f3,f4,f5⟩) (.inr fun p hp _=>f6 p hp) (.inr fun u hu _=>f7 u hu)
     ·rcases a2 with⟨b2,g8,b6,hr⟩|⟨b6,_,_⟩
      ·simp only[Value.slice.injEq,ax.injEq,Addr.mk.injEq]at b6
       obtain⟨⟨rfl,rfl,_⟩,_⟩:=b6;intro k hk
       by_cases J:k<fl.length
       ·obtain⟨v,hv,a8⟩:=hr k J
        refine⟨v,f1 _ _ _ hv, ?_⟩;have:(fl++y).getD k .undef=fl.getD k .undef:=by simp only[aa,bo J]
        rw[this];exact a8.mono f1
       ·rw[ae]at hk
        refine⟨ns.getD (k-fl.length) undef, ?_, ?_⟩
        ·show(x.fill b (off+len*n) ns).G b (off+k)=_
         simp only[Sit.fill];rw[if_pos ⟨trivial,by omega,by omega⟩,show off+k-(off+len*n)=k-fl.length from by omega]
        ·have:(fl++y).getD k .undef=y.getD (k-fl.length) .undef:=by simp only[aa,bA (Nat.le_of_not_lt J)]
         rw[this];exact(E.rep _ (by omega)).mono f1
      ·have a6:m=0:=by omega
       rw[a6,ip]at e3;exact absurd e3 (Nat.lt_irrefl _)
     ·refine⟨_,_,cap,rfl,.inr ⟨b,off,rfl, ?_⟩⟩
      rw[Sit.newT_eq,L,fu,<-bE]
 ·
  obtain⟨os,e9,W,d5⟩:∃os:LAc,(∀w',w'.heap=w.heap->(Builtin.firstCells n len (.slice bs len cap)).run P w'= .ok os.toArray w')/\os.length=fl.length/\∀k,k<fl.length->cL x.G (fl.getD k .undef) (os.getD k undef):=by
   rcases a2 with⟨b,off,I,hr⟩|⟨I,h1,h2⟩
   ·simp only[Value.slice.injEq]at I
    obtain⟨rfl,_⟩:=I;refine⟨(bM (len*n)).map fun k=>(w.cell? ⟨b,off+k,none⟩).getD undef,fun w' g6=> ?_,by simp[O],fun k hk=> ?_⟩
    ·simp only[Builtin.firstCells]
     refine run_loadCells w' _ _ _ fun j hj=> ?_
     rw[dD,dQ (w:=w) (by rw[g6])];obtain⟨v,hv,_⟩:=hr j (by omega);rw[hM.heap.per _ _ _ hv];rfl
    ·obtain⟨v,hv,a8⟩:=hr k hk
     have:((bM (len*n)).map fun k=>(w.cell? ⟨b,off+k,none⟩).getD undef).getD k undef=v:=by rw[aa];simp[show k<len*n from by omega,hM.heap.per _ _ _ hv]
     rw[this];exact a8
   ·obtain⟨a,I⟩:=I
    simp only[Value.slice.injEq]at I;obtain⟨rfl,rfl,_⟩:=I;have:fl=[]:=cu.1 (by rw[<-O,h1,ip]);subst this;exact⟨[],fun w' _=>by cases bs<;>simp only[Builtin.firstCells,ip]<;>rfl,rfl,fun k hk=>by simp at hk⟩
  obtain⟨nc,g7,Z⟩:=fv (t:=t) (u:=u) (ty:=ty) (Y:=Y) hd hu b4 hn hi g1 hb0 g4 Q F e9 hc b1
  let cv:LAd:=os.toArray++ns.toArray++Builtin.zeroCells z.cells (nc-(len+m))
  have g9:cv.size=nc*n:=by
   have e8:z.cells.size=n:=by rw[<-aU,g2];exact hzl
   simp only[cv,cQ,bZ,ce,e8,W,L,<-O];rw[<-bE,<-bE];congr 1;omega
  have b0:∀o,x.G w.heap.size o=none:=by
   intro o;cases hg:x.G w.heap.size o with
   |none=>rfl
   |some v=>exact absurd (hM.heap.ltG hg) (by omega)
  have d6:=hM.heap.newD_le cv ((len+m)*n);have hH:dj C (x.newD w.heap.size cv ((len+m)*n)) s.ob s.tk (w.drew.alloc (.cells cv el (0,0))):=hM.heap.drew.allocD ((len+m)*n);have d1:eS (w.drew.alloc (.cells cv el (0,0))) w.heap.size cv el 0 0:=⟨heap_alloc_new (w:=w.drew),fun i _ h=>by omega⟩;refine⟨_,_,(x.newD w.heap.size cv ((len+m)*n)).newT d w.heap.size ((len+m)*n) (nc*n),nc,Z,⟨?_,hM.defers, ?_⟩,⟨a1,g7,.inl ⟨_,0,rfl, ?_⟩⟩, ?_⟩
  ·exact cE.mono (x:=x) (x':=(x.newD w.heap.size cv ((len+m)*n)).newT d w.heap.size ((len+m)*n) (nc*n)) (lo:=d) (hi:=d+1) d6 (fun _ _=>rfl) (Sit.newT_ne (x.newD w.heap.size cv ((len+m)*n)) d _ _ _) hM.tm
  ·refine(hH.sub (tk':=tok.eat s.tk) (o7.refl _) ?_).addT d w.heap.size _ _ (.inr ⟨⟨cv,el,0,0,d1,by omega⟩,hM.heap.new _ hM.heap.size,fun o h1 h2=> ?_⟩) (.inr fun p hp _=> ?_) (.inr fun u hu _=> ?_)
   ·intro u hu
    cases tok with
    |id t=>exact gV hu
    |_=>exact hu
   ·simp only[Sit.newD];rw[if_neg (by omega)];exact b0 o
   ·obtain⟨⟨c2,e2,e6,e5,b5,_⟩,_⟩:=hM.heap.obs p hp
    have:=b5.lt;show w.heap.size≠(x.bk p.1).1;omega
   ·have e7:u∈s.tk:=by
     cases tok with
     |id t=>exact gV hu
     |_=>exact hu
    rcases hM.heap.tks u e7 with h|⟨⟨c2,e2,e6,e5,b5,_⟩,_⟩
    ·exact .inr h
    ·have:=b5.lt
     exact .inl (by show w.heap.size≠(x.τ u).1;omega)
  ·intro k hk
   have d7:k<os.length+ns.length:=by rw[W,<-E.len,<-ae];exact hk
   have d4:cv[k]? =(os++ns)[k]? :=ls os ns _ k d7;have h3:k<(len+m)*n:=by rw[a1];exact hk
   refine⟨(os++ns).getD k undef, ?_, ?_⟩
   ·show(x.newD w.heap.size cv ((len+m)*n)).G w.heap.size (0+k)=_
    simp only[Sit.newD];rw[if_pos ⟨trivial,by omega⟩,bT,d4];have:k<(os++ns).length:=by rw[ae];exact d7
    rw[ac this,aa,ac this];rfl
   ·refine cL.mono (G:=x.G) d6 ?_
    by_cases J:k<fl.length
    ·have e1:(fl++y).getD k .undef=fl.getD k .undef:=by simp only[aa,bo J]
     have e2:(os++ns).getD k undef=os.getD k undef:=by simp only[aa,bo (show k<os.length by omega)]
     rw[e1,e2];exact d5 k J
    ·have e1:(fl++y).getD k .undef=y.getD (k-fl.length) .undef:=by simp only[aa,bA (Nat.le_of_not_lt J)]
     have e2:(os++ns).getD k undef=ns.getD (k-fl.length) undef:=by simp only[aa,bA (show os.length<=k by omega),W]
     rw[e1,e2];exact E.rep _ (by rw[ae]at hk;omega)
  ·exact⟨_,_,nc,rfl,.inr ⟨w.heap.size,0,rfl,by rw[Sit.newT_eq];simp⟩⟩
theorem jB(hM:aR C x s a w){u:SV}{Y:Value}{p:Prop}{l:d9}(h:Rep x u Y)(I:bytesOf s u=some (p,l))(hp:p):
 (∀w',w'.heap=w.heap->(Builtin.lenOf Y).run P w'= .ok l.length w')/\(∀m,m<=l.length->∀w',w'.heap=w.heap->(Builtin.firstCells 1 m Y).run P w'= .ok ((l.take m).map fun b=>Value.int .u8 b.toNat).toArray w'):=by
 have load:∀(b off m:Nat),m<=l.length->(∀i,i<l.length->w.cell? ⟨b,off+i,none⟩=some (.int .u8 (l.getD i 0).toNat))->∀w':World,w'.heap=w.heap->
  (loadCells ⟨b,off,none⟩ (m*1)).run P w'= .ok ((l.take m).map fun b=>Value.int .u8 b.toNat).toArray w':=by
  intro b off m E hc w' F;rw[run_loadCells w' _ _ (fun i=> .int .u8 (l.getD i 0).toNat) (fun j hj=>by rw[dD,dQ (w:=w) (by rw[F])];exact hc j (by omega))]
  congr 2
  apply List.ext_getElem?;intro i
  by_cases hi:i<m
  ·simp[hi,aa,show i<l.length from by omega]
  ·simp[hi];omega
 cases u with
 |byt T t=>
  simp only[bytesOf,ax.injEq,bD.injEq]at I;obtain⟨rfl,rfl⟩:=I;have Q:=h.data rfl;cases hY:Y with
  |slice ad n Z=>
   rw[hY]at Q;cases Q with
   |bytN=>exact⟨fun w' _=>rfl,fun m E w' _=>by simp at E;subst E;rfl⟩
   |bytE=>exact⟨fun w' _=>rfl,fun m E w' _=>by simp at E;subst E;rfl⟩
   |byt _ _ b off _ _ hn hc hg=>subst hn;exact⟨fun w' _=>rfl,fun m E w' F=>by simp only[Builtin.firstCells];exact load b off m E (fun i hi=>hM.heap.per _ _ _ (hg i hi)) w' F⟩
  |_=>rw[hY]at Q;cases Q
 |str T=>simp only[bytesOf,ax.injEq,bD.injEq]at I;obtain⟨rfl,rfl⟩:=I;rw[h.str_inv];refine⟨fun w' _=>by simp[Builtin.lenOf,ByteArray.size],fun m E w' _=> ?_⟩;simp only[Builtin.firstCells,DS,aW,aN];simp
 |psl o' sz off n Z=>
  simp only[bytesOf]at I;split at I<;>try (cases I;done)
  rename_i T hl;simp only[ax.injEq,bD.injEq]at I;obtain⟨rfl,rfl⟩:=I;obtain⟨a1,a2⟩:=hp;obtain⟨Z,a6,_,y,W,O⟩:=h.psl_inv;have L:((T.drop off).take n).length=n:=by simp;omega
  rw[W];refine⟨fun w' _=>by simp only[Builtin.lenOf,L];rfl,fun m E w' F=> ?_⟩;simp only[Builtin.firstCells]
  by_cases hn:Z=0
  ·have:m=0:=by omega
   subst this;rfl
  ·have J:y=off:=by
    rcases O with h|h
    ·omega
    ·rw[a1,dp]at h;exact h
   subst J;refine load ((x.bk o').1) y m E (fun i hi=> ?_) w' F;obtain⟨v,h2,h3⟩:=(fD hM hl).cell (k:=y+i) (by simp only[aH.size];omega);rw[h2];have h4:cL x.G (.u8 (T.getD (y+i) 0)) v:=h3;cases h4;simp only[aa,bL,if_pos (show i<n by omega),bz]
 |_=>simp[bytesOf]at I
theorem ue(l:d9):New x (l.map fun b=>Value.int .u8 b.toNat) (l.map .u8):=by
 refine⟨by simp,fun k h=> ?_,fun v y=> ?_⟩
 ·rw[aY]at h
  rw[jp _ _ h]
  have:(l.map fun b=>Value.int .u8 b.toNat).getD k undef= .int .u8 (l.getD k 0).toNat:=by simp only[aa,aT];rw[ac h];rfl
  rw[this];exact .u8 _
 ·obtain⟨b,_,rfl⟩:=aZ.1 y;rfl
theorem iH(hM:aR C x s a w){F:Nat}{u:SV}{Y:Value}{p:Prop}{O:d8}(h:Rep x u Y)(Z:iQ s F u=some (p,O))(hp:p):
 (∀y∈O,y.length=F)/\(∀w',w'.heap=w.heap->(Builtin.lenOf Y).run P w'= .ok O.length w')/\
 ∃ns:LAc,New x ns O.flatten/\∀m,m<=O.length->∀w',w'.heap=w.heap->(Builtin.firstCells F m Y).run P w'= .ok (ns.take (m*F)).toArray w':=by
 have a7:∀(b off:Nat),(∀y∈O,y.length=F)->(∀k,k<O.flatten.length->∃v,w.cell? ⟨b,off+k,none⟩=some v/\cL x.G (O.flatten.getD k .undef) v)->
  ∃ns:LAc,New x ns O.flatten/\∀m,m<=O.length->∀w',w'.heap=w.heap->(loadCells ⟨b,off,none⟩ (m*F)).run P w'= .ok (ns.take (m*F)).toArray w':=by
  intro b off E hc;refine⟨(bM O.flatten.length).map fun k=>(w.cell? ⟨b,off+k,none⟩).getD undef,⟨by simp,fun k J=> ?_,fun v L=> ?_⟩,fun m W w' T=> ?_⟩
  ·obtain⟨v,L,hr⟩:=hc k J
   have:((bM O.flatten.length).map fun k=>(w.cell? ⟨b,off+k,none⟩).getD undef).getD k undef=v:=by rw[aa,aT,cz J];simp[L]
   rw[this];exact hr
  ·obtain⟨k,J,rfl⟩:=aZ.1 L
   obtain⟨v,L,hr⟩:=hc k (eV.1 J);rw[L];exact hr.oneCell
  ·have b6:m*F<=O.flatten.length:=by rw[bW E];exact bh _ W
   rw[run_loadCells w' _ _ (fun k=>(w.cell? ⟨b,off+k,none⟩).getD undef) (fun j hj=> ?_)]
   ·congr 2
    rw[<-ic,List.take_range,fR b6]
   ·rw[dD,dQ (w:=w) (by rw[T])]
    obtain⟨v,L,_⟩:=hc j (by omega);rw[L];rfl
 cases u with
 |lst b4 I t=>
  simp only[iQ,ax.injEq,bD.injEq]at Z;obtain⟨rfl,rfl⟩:=Z;subst hp;obtain⟨cap,⟨h1,h2,h3⟩,_,E⟩:=r5 (h.data rfl);refine⟨E, ?_⟩;rcases h3 with⟨b,off,rfl,hr⟩|⟨⟨ad,rfl⟩,h0,_⟩
  ·refine⟨fun w' _=>rfl, ?_⟩
   obtain⟨ns,g1,g2⟩:=a7 b off E (fun k J=>by obtain⟨v,L,a8⟩:=hr k J;exact⟨v,hM.heap.per _ _ _ L,a8⟩)
   exact⟨ns,g1,fun m W w' T=>by simp only[Builtin.firstCells];exact g2 m W w' T⟩
  ·have:I=[]:=cu.1 h0
   subst this
   exact⟨fun w' _=>rfl,[],⟨rfl,fun k J=>by simp at J,fun v L=>by simp at L⟩,fun m W w' _=>by
    have c3:m=0:=by simpa using W
    subst c3;cases ad<;>simp only[Builtin.firstCells,ip]<;>rfl⟩
 |psl o' b4 off n cp=>
  simp only[iQ]at Z;split at Z<;>try (cases Z;done)
  rename_i c5 I hl;simp only[ax.injEq,bD.injEq]at Z;obtain⟨rfl,rfl⟩:=Z;obtain⟨rfl,rfl,b5,b0⟩:=hp;have E:∀y∈(I.drop off).take n,y.length=F:=fun y hy=>b0 y (cB (bC hy))
  obtain⟨cp,c7,_,a1,b1,a6⟩:=h.psl_inv;have Q:((I.drop off).take n).length=n:=by simp;omega
  rw[b1];refine⟨E,fun w' _=>by simp only[Builtin.lenOf,Q];rfl, ?_⟩
  by_cases hn:cp=0
  ·have hn0:n=0:=by omega
   subst hn0
   exact⟨[],⟨by simp,fun k J=>by simp at J,fun v L=>by simp at L⟩,fun m W w' _=>by simp at W;subst W;simp[Builtin.firstCells,loadCells,loadCellsFrom]⟩
  ·have a2:a1=off*F:=a6.resolve_left hn
   obtain⟨ns,g1,g2⟩:=a7 ((x.bk o').1) a1 E (fun k J=>by
    rw[bW E,Q]at J
    have b3:off*F+k<I.length*F:=by have:=bh F b5;rw[bE]at this;omega
    obtain⟨v,h2,h3⟩:=(fD hM hl).cell (k:=off*F+k) (by simp only[aH.size];exact b3);refine⟨v,by rw[a2];exact h2, ?_⟩;have h4:cL x.G ((I.getD ((off*F+k)/F) []).getD ((off*F+k) % F) .undef) v:=h3
    have b7:0<F:=by
     rcases ib F with h0|h0
     ·subst h0;omega
     ·exact h0
    rw[cV _ E k (by rw[Q];exact J)];rw[cM off F,Nat.mul_add_div b7,Nat.mul_add_mod]at h4;have hd:k/F<n:=Nat.div_lt_of_lt_mul (by rw[cM];exact J)
    have e1:((I.drop off).take n).getD (k/F) []=I.getD (off+k/F) []:=by simp only[aa,bL,if_pos hd,bz]
    rw[e1];exact h4)
   exact⟨ns,g1,fun m W w' T=>by simp only[Builtin.firstCells];exact g2 m W w' T⟩
 |_=>simp[iQ]at Z
theorem Bf(hM:aR C x s a w){cl:Call}(ho:o.op= .call cl)(hb:cl.callee= .builtin .append)(h:bG P o=some so)(F:eff s o.dst so=some e)(hp:e.pre):cA P C o a w (s.app o.dst e):=by
 simp only[bG,ho,hb]at h;split at h<;>try (cases h;done)
 rename_i X Y t u hX ht;split at h<;>try (cases h;done)
 rename_i el d2 r q hd hu c5 c7;split at h<;>try (cases h;done)
 rename_i n by_ z hn hby hz;rw[aK]at h;obtain⟨T,h⟩:=h;simp only[aC,decide_eq_true_eq]at T;obtain⟨⟨hb0,hn0⟩,d3⟩:=T;obtain⟨zs,c3,d1,_⟩:=kj hz;have hzl:zs.length=n:=by omega
 have W:((∃e',d2= .slice e')\/d2= .string)/\so= .app z by_ r q:=by
  split at h<;>try (cases h;done)
  ·cases h;exact⟨.inl ⟨_,rfl⟩,rfl⟩
  ·rw[aK]at h
   obtain⟨_,h⟩:=h;cases h;exact⟨.inr rfl,rfl⟩
  ·cases h;cases F
 obtain⟨W,rfl⟩:=W;have h1:=aP hM c5;have h2:=aP hM c7;have ea:cl.args= #[X,Y]:=by apply eI;simpa using hX
 have et:cl.argTypes= #[t,u]:=by apply eI;simpa using ht
 have b5:=gq (a:=a) ho hb _ rfl;rw[ea,et]at b5;have em: #[X,Y].map a.eval= #[a.eval X,a.eval Y]:=by simp
 rw[em]at b5;simp only[eff]at F;split at F<;>try (cases F;done)
 rename_i d Z
 have b6:∀{v w' x'}{c:SV},(Builtin.append_ #[t,u] o.type #[a.eval X,a.eval Y]).run P w= .ok v w'->∀{tk:Tok},aR C x' (s.grew tk (d+100)) a w'->Rep x' c v->cA P C o a w ((s.grew tk (d+100)).put o.dst c):=by intro v w' x' c E tk Q hc;exact⟨v,w',x',.value v,by rw[b5];simp[E],.inl rfl,Q.put o.dst hc⟩
 cases hu':s.ev r with
 |byt l tk=>
  rw[hu']at F h1
  try simp only at F
  split at F<;>try (cases F;done)
  rename_i p l' a2;cases F;obtain⟨a8,d4,rfl,a7,O⟩:=hp;obtain rfl:n=1:=by omega
  obtain⟨g1,g2⟩:=jB (P:=P) hM h2 a2 a8;obtain⟨_,_,_,_,_,b1⟩:=h1.byt_inv;obtain⟨cap,hF,_⟩:=zo (h1.data rfl)
  obtain⟨v,w',x',L,E,Q,b4,J⟩:=pW (ty:=o.type) hM hd hu W hn hby c3 hb0 hn0 hzl hF a7 b1 g1 (fun w' b3=>by have:=g2 l'.length (aJ _) w' b3;rwa[dA]at this) (by simp) (ue l') (by omega) (d+100)
  simp only[St.app];have a6:o.dst.getD 0=d:=by rw[Z];rfl
  rw[a6];refine b6 E Q (.dat _ _ (K6 (cap:=L) ?_) J);rw[ae,cf];exact b4
 |lst d5 l tk=>
  rw[hu']at F h1
  try simp only at F
  split at F<;>try (cases F;done)
  rename_i p l' a2;cases F;obtain⟨a8,rfl,a7,O⟩:=hp;obtain rfl:n=z.length:=by omega
  obtain⟨I,g1,ns,a1,g2⟩:=iH (P:=P) hM h2 a2 a8;obtain⟨_,_,_,_,_,b1⟩:=h1.lst_inv;obtain⟨cap,hF,_,b0⟩:=r5 (h1.data rfl);have b7:ns.length=l'.length*z.length:=by rw[<-a1.len,bW I]
  obtain⟨v,w',x',L,E,Q,b4,J⟩:=pW (ty:=o.type) hM hd hu W hn hby c3 hb0 hn0 hzl hF a7 b1 g1 (fun w' b3=>by have:=g2 l'.length (aJ _) w' b3;rwa[<-b7,dA]at this) b7 a1 O (d+100)
  simp only[St.app];have a6:o.dst.getD 0=d:=by rw[Z];rfl
  rw[a6];refine b6 E Q (.dat _ _ (Ku (cap:=L) ?_ ?_) J)
  ·rw[ae,b9];exact b4
  ·intro y hy
   rcases am.1 hy with hy|hy
   ·exact b0 y hy
   ·exact I y hy
 |_=>rw[hu']at F;simp at F
end Go.Sy
namespace Go.Sy
variable [br]
variable {P : Program} {C : Ctx} {x : Sit} {s : St} {a : Act} {w : World} {o : Oper} {so : SOp} {e : Eff}
theorem aR.write(hM:aR C x s a w){d off:Nat}{obj obj':aH}(T:s.look d=some obj){vs:LAc}(hb:off+vs.length<=obj.size)(a2:obj'.size=obj.size)
 (y:∀c:LAd,(∀k,k<obj.size->cx x obj k (c.getD k undef))->∀k,k<obj.size->cx x obj' k (if off<=k/\k<off+vs.length then vs.getD (k-off) undef else c.getD k undef)) (E:obj'.arrB=obj.arrB:=by rfl):
 aR C x (s.setO d obj') a (cd w ((x.bk d).1) off vs)/\((∀v∈vs,v.oneCell'=true)->∀w':World,w'=w->(storeCells ⟨(x.bk d).1,off,none⟩ vs).run P w'= .ok () (cd w ((x.bk d).1) off vs)):=by
 obtain⟨c,e,fl,fh,Q,⟨hs,a1,L⟩,hr⟩:=fD hM T;obtain⟨W,g2,g3,Z,g5⟩:=dM ((x.bk d).1) vs w off;obtain⟨c',J,I,O⟩:=dv vs w off c Q (by omega);refine⟨⟨hM.tm,hM.defers,hM.heap.block (dr T) W g2 g3 Z g5 ⟨c',e,fl,fh,J,⟨by omega,by omega,fun h=>by rw[I];exact L (E ▸ h)⟩,fun k hk=> ?_⟩⟩, ?_⟩
 ·rw[O k]
  exact y c hr k (by omega)
 ·rintro F w' rfl
  exact fZ off vs w' c 0 Q (by omega) F
theorem yl{t u I:TypeId}{n m k:Nat}{ty:TypeId}{bs:Addr}{cap:Nat}{Y:Value}{vs:LAc}{w1:World}(hd:P.underlying t=some (.slice I))(hn:fK P I=some n)
 (y:(Builtin.lenOf Y).run P w= .ok m w) (h:(Builtin.firstCells n (min m k) Y).run P w= .ok vs.toArray w) (F:(storeCells bs vs).run P w= .ok () w1):
 (Builtin.copy_ #[t,u] ty #[.slice (some bs) k cap,Y]).run P w= .ok (.int .i64 (min m k:Nat)) w1:=by
 have e:(#[t,u]:Array TypeId)[0]? =some t:=rfl;have L:(#[Value.slice (some bs) k cap,Y]:LAd)[0]? =some (.slice (some bs) k cap):=rfl;have J:(#[Value.slice (some bs) k cap,Y]:LAd)[1]? =some Y:=rfl;have E:(Builtin.firstCells n (Nat.min m k) Y).run P w= .ok vs.toArray w:=h;simp only[Builtin.copy_,e,L,J,aD,run_underlying hd,an,cr hn,y,E,F,aN,goInt]
theorem KQ(hM:aR C x s a w){cl:Call}(ho:o.op= .call cl)(hb:cl.callee= .builtin .copy)(hr:bG P o=some so)(he:eff s o.dst so=some e)(hp:e.pre):cA P C o a w (s.app o.dst e):=by
 simp only[bG,ho,hb]at hr;split at hr<;>try (cases hr;done)
 rename_i X Y t u hX ht;split at hr<;>try (cases hr;done)
 rename_i el r q hd d4 d5;split at hr<;>try (cases hr;done)
 rename_i n hn;cases hr;have h1:=aP hM d4;have h2:=aP hM d5;have ea:cl.args= #[X,Y]:=by apply eI;simpa using hX
 have et:cl.argTypes= #[t,u]:=by apply eI;simpa using ht
 have a8:=gq (a:=a) ho hb _ rfl;rw[ea,et]at a8;have em: #[X,Y].map a.eval= #[a.eval X,a.eval Y]:=by simp
 rw[em]at a8;simp only[eff]at he;cases hu:s.ev r with
 |psl d e5 off k cap=>
  rw[hu]at he h1;obtain⟨cap,e6,_,T,b7,b1⟩:=h1.psl_inv
  try simp only at he
  split at he<;>try (cases he;done)
  ·rename_i l hl
   split at he<;>try (cases he;done)
   rename_i p E b3;cases he;obtain⟨b5,rfl,rfl,d2⟩:=hp;obtain⟨g1,g2⟩:=jB (P:=P) hM h2 b3 b5;have a7:((E.take (min E.length k)).map fun b=>Value.int .u8 b.toNat).length=min E.length k:=by simp
   have d3:E.take (min E.length k)=E.take k:=by rw[Nat.min_comm,<-List.take_take];simp
   have J:min E.length k=0\/T=off:=by
    rcases b1 with h|h
    ·left;omega
    ·right;rw[dp]at h;exact h
   have a1:(E.take k).length=min E.length k:=by simp;omega
   simp only[St.app]
   obtain⟨
    hM',hst⟩:=hM.write (P:=P) (off:=off) (vs:=(E.take (min E.length k)).map fun b=>Value.int .u8 b.toNat) (obj':= .bar (l.take off++E.take k++l.drop (off+(E.take k).length))) hl (by simp only[aH.size,a7];omega)
    (by simp only[aH.size,ae,aq,aG];omega) (by
     intro c hc i hi;have:=hc i hi;simp only[cx,aH.cell,aH.size]at this hi ⊢;have b6:=gS l (E.take k) off i (by rw[a1];omega);rw[a7]
     have e1:(l.take off++E.take k++l.drop (off+(E.take k).length)).getD i 0=if off<=i/\i<off+min E.length k then(E.take k).getD (i-off) 0 else l.getD i 0:=by simp only[aa];rw[b6,a1];split<;>rfl
     rw[e1];split
     ·rename_i d6
      rw[d3]
      have e2:((E.take k).map fun b=>Value.int .u8 b.toNat).getD (i-off) undef= .int .u8 ((E.take k).getD (i-off) 0).toNat:=by simp only[aa,aT];rw[ac (by rw[a1];omega)];rfl
      rw[e2];exact .u8 _
     ·exact this)
   refine⟨.int .i64 (min E.length k:Nat),_,x,.value _, ?_,.inl rfl,aR.put hM' o.dst (cX _ _)⟩;rw[a8,b7]
   have b4:=yl (P:=P) (w:=w) (t:=t) (u:=u) (ty:=o.type) (bs:=⟨(x.bk d).1,T,none⟩) (cap:=cap) (w1:=cd w ((x.bk d).1) off ((E.take (min E.length k)).map fun b=>Value.int .u8 b.toNat)) hd hn (g1 w rfl) (g2 _ (Nat.min_le_left _ _) w rfl) (by
    rcases J with h|h
    ·rw[h];rfl
    ·rw[h];exact hst (fun v hv=>by obtain⟨_,_,rfl⟩:=aZ.1 hv;rfl) w rfl)
   simp[b4]
  ·rename_i e4 I hl
   split at he<;>try (cases he;done)
   rename_i p E b3;cases he;obtain⟨b5,rfl,rfl,d2,F⟩:=hp;obtain⟨O,g1,ns,Q,g2⟩:=iH (P:=P) hM h2 b3 b5;have c5:ns.length=E.length*n:=by rw[<-Q.len,bW O]
   have d1:(min E.length k)*n<=ns.length:=by rw[c5];exact bh _ (Nat.min_le_left _ _)
   have a7:(ns.take (min E.length k*n)).length=min E.length k*n:=by rw[aq,fR d1]
   have a1:(E.take k).length=min E.length k:=by simp;omega
   have W:∀y∈E.take k,y.length=n:=fun y L=>O y (bC L)
   have a2:(E.take k).flatten.length=min E.length k*n:=by rw[bW W,a1]
   have J:min E.length k=0\/T=off*n:=by
    rcases b1 with h|h
    ·left;omega
    ·right;exact h
   have b0:off*n+min E.length k*n<=I.length*n:=by rw[<-bE];exact bh _ (by omega)
   have Z:∀y∈I.take off++E.take k++I.drop (off+(E.take k).length),y.length=n:=by
    intro y L;rcases am.1 L with L|L
    ·rcases am.1 L with L|L
     ·exact F y (bC L)
     ·exact W y L
    ·exact F y (cB L)
   have a6:(I.take off++E.take k++I.drop (off+(E.take k).length)).length=I.length:=by simp only[ae,aq,aG];omega
   simp only[St.app]
   obtain⟨
    hM',hst⟩:=hM.write (P:=P) (off:=off*n) (vs:=ns.take (min E.length k*n)) (obj':= .arr n (I.take off++E.take k++I.drop (off+(E.take k).length))) hl (by simp only[aH.size,a7];exact b0)
    (by simp only[aH.size];rw[a6]) (by
     intro c hc i hi;have:=hc i hi;simp only[cx,aH.cell,aH.size]at this hi ⊢;rw[<-cV _ Z i (by rw[a6];exact hi)];rw[<-cV _ F i hi]at this;rw[b9,b9,a7];have ef:I.flatten=(I.take off).flatten++(I.drop off).flatten:=by rw[<-b9,dH]
     have l1:(I.take off).flatten.length=off*n:=by rw[bW (fun y L=>F y (bC L)),aq,fR (by omega)]
     have e1:I.flatten.take (off*n)=(I.take off).flatten:=by rw[ef,List.take_append_of_le_length (by rw[l1];exact aJ _),aV (by rw[l1];exact aJ _)]
     have e2:I.flatten.drop (off*n+min E.length k*n)=(I.drop (off+(E.take k).length)).flatten:=by
      have c7:I.flatten=(I.take (off+(E.take k).length)).flatten++(I.drop (off+(E.take k).length)).flatten:=by rw[<-b9,dH]
      have l2:(I.take (off+(E.take k).length)).flatten.length=off*n+min E.length k*n:=by rw[bW (fun y L=>F y (bC L)),aq,a1,fR (by omega),bE]
      rw[c7,List.drop_append,l2,sA,aW,bN (by rw[l2];exact aJ _),aE]
     rw[<-e1,<-e2,<-a2];have b6:=gS I.flatten (E.take k).flatten (off*n) i (by rw[a2,bW F];exact b0);rw[aa,b6];split
     ·rename_i d6
      rw[<-aa];have d7:i-off*n<(E.take k).flatten.length:=by omega
      have c3:(E.take k).flatten.getD (i-off*n) .undef=E.flatten.getD (i-off*n) .undef:=by
       have e0:E.flatten=(E.take k).flatten++(E.drop k).flatten:=by rw[<-b9,dH]
       rw[e0];simp only[aa];rw[bo d7]
      rw[c3]
      have e3:(ns.take (min E.length k*n)).getD (i-off*n) undef=ns.getD (i-off*n) undef:=by simp only[aa,bL];rw[if_pos (by omega)]
      rw[<-a2]at e3;rw[e3];exact Q.rep _ (by rw[Q.len];omega)
     ·rw[<-aa];exact this)
   refine⟨.int .i64 (min E.length k:Nat),_,x,.value _, ?_,.inl rfl,aR.put hM' o.dst (cX _ _)⟩;rw[a8,b7]
   have b4:=yl (P:=P) (w:=w) (t:=t) (u:=u) (ty:=o.type) (bs:=⟨(x.bk d).1,T,none⟩) (cap:=cap) (w1:=cd w ((x.bk d).1) (off*n) (ns.take (min E.length k*n))) hd hn (g1 w rfl) (g2 _ (Nat.min_le_left _ _) w rfl) (by
    rcases J with h|h
    ·rw[h];simp[storeCells,cd]
    ·rw[h];exact hst (fun v hv=>Q.one v (bC hv)) w rfl)
   simp[b4]
 |_=>rw[hu]at he;simp at he
theorem aR.writeRows(hM:aR C x s a w){d n off:Nat}{E F:d8}{ns:LAc}(hl:s.look d=some (.arr n E))(h:∀y∈E,y.length=n)(I:∀y∈F,y.length=n)
 (a6:off+F.length<=E.length) (Q:New x ns F.flatten):
 aR C x (s.setO d (.arr n (E.take off++F++E.drop (off+F.length)))) a (cd w ((x.bk d).1) (off*n) ns)/\(storeCells ⟨(x.bk d).1,off*n,none⟩ ns).run P w= .ok () (cd w ((x.bk d).1) (off*n) ns):=by
 have Z:ns.length=F.length*n:=by rw[<-Q.len,bW I]
 have T:off*n+F.length*n<=E.length*n:=by rw[<-bE];exact bh _ a6
 have J:∀y∈E.take off++F++E.drop (off+F.length),y.length=n:=by
  intro y L;rcases am.1 L with L|L
  ·rcases am.1 L with L|L
   ·exact h y (bC L)
   ·exact I y L
  ·exact h y (cB L)
 have O:(E.take off++F++E.drop (off+F.length)).length=E.length:=by simp only[ae,aq,aG];omega
 obtain⟨
  hM',hst⟩:=hM.write (P:=P) (off:=off*n) (vs:=ns) (obj':= .arr n (E.take off++F++E.drop (off+F.length))) hl (by simp only[aH.size,Z];exact T)
  (by simp only[aH.size];rw[O]) (by
   intro c hc i hi;have:=hc i hi;simp only[cx,aH.cell,aH.size]at this hi ⊢;rw[<-cV _ J i (by rw[O];exact hi)];rw[<-cV _ h i hi]at this;rw[b9,b9,Z];have ef:E.flatten=(E.take off).flatten++(E.drop off).flatten:=by rw[<-b9,dH]
   have l1:(E.take off).flatten.length=off*n:=by rw[bW (fun y L=>h y (bC L)),aq,fR (by omega)]
   have e1:E.flatten.take (off*n)=(E.take off).flatten:=by rw[ef,List.take_append_of_le_length (by rw[l1];exact aJ _),aV (by rw[l1];exact aJ _)]
   have W:F.flatten.length=F.length*n:=bW I
   have e2:E.flatten.drop (off*n+F.length*n)=(E.drop (off+F.length)).flatten:=by
    have a2:E.flatten=(E.take (off+F.length)).flatten++(E.drop (off+F.length)).flatten:=by rw[<-b9,dH]
    have l2:(E.take (off+F.length)).flatten.length=off*n+F.length*n:=by rw[bW (fun y L=>h y (bC L)),aq,fR (by omega),bE]
    rw[a2,List.drop_append,l2,sA,aW,bN (by rw[l2];exact aJ _),aE]
   rw[<-e1,<-e2,<-W];have a1:=gS E.flatten F.flatten (off*n) i (by rw[W,bW h];exact T);rw[aa,a1];split
   ·rename_i a7
    rw[<-aa];exact Q.rep _ (by omega)
   ·rw[<-aa];exact this)
 exact⟨hM',hst Q.one w rfl⟩
theorem Hr{Z:LAc}{z:t8}{L:LAd}(Q:L.toList=Z)(hl:z.length=Z.length)(hz:∀(G:GM) i,i<z.length->cL G (z.getD i .undef) (Z.getD i undef))(n:Nat):
 New x (Builtin.zeroCells L n).toList (aL n z).flatten:=by
 have I:L.size=z.length:=by rw[<-aU,Q,hl]
 have F:∀y∈aL n z,y.length=z.length:=fun y hy=>by rw[(List.mem_replicate.1 hy).2]
 have O:(aL n z).flatten.length=n*z.length:=by rw[bW F,dJ]
 have J:∀i,i<n*z.length->(Builtin.zeroCells L n).toList.getD i undef=Z.getD (i % z.length) undef:=by
  intro i hi
  have E:0<z.length:=by
   rcases ib z.length with h|h
   ·rw[h]at hi;omega
   ·exact h
  have W:i % L.size<L.size:=Nat.mod_lt _ (by omega);rw[aa,Builtin.zeroCells];simp only[Array.toList_map,Array.toList_range,aT];rw[cz (by rw[I];exact hi)];simp only[bB,aM];rw[getElem!_pos L _ W,<-Q,aa,<-I,ac (by simpa using W)];simp
 refine⟨by rw[O];simp[ce,I],fun i hi=> ?_,fun v hv=> ?_⟩
 ·rw[O]at hi
  have E:0<z.length:=by
   rcases ib z.length with h|h
   ·rw[h]at hi;omega
   ·exact h
  rw[J i hi,cV _ F i (by simpa using hi),ge _ _ _ _ (Nat.div_lt_of_lt_mul (by rw[cM];exact hi))];exact hz _ _ (Nat.mod_lt _ E)
 ·obtain⟨i,hi,rfl⟩:=List.mem_iff_getElem.1 hv
  have T:i<n*z.length:=by simpa[ce,I]using hi
  have E:0<z.length:=by
   rcases ib z.length with h|h
   ·rw[h]at T;omega
   ·exact h
  have h1:=J i T;rw[aa,ac hi,aM]at h1;rw[h1];exact(hz (fun _ _=>none) _ (Nat.mod_lt _ E)).oneCell
theorem HU(hM:aR C x s a w){cl:Call}(ho:o.op= .call cl)(hb:cl.callee= .builtin .clear)(F:bG P o=some so)(E:eff s o.dst so=some e)(hp:e.pre):cA P C o a w (s.app o.dst e):=by
 simp only[bG,ho,hb]at F;split at F<;>try (cases F;done)
 rename_i X t hX ht;split at F<;>try (cases F;done)
 rename_i el r hd a7;split at F<;>try (cases F;done)
 rename_i z hz;cases F;have h1:=aP hM a7;have ea:cl.args= #[X]:=by apply eI;simpa using hX
 have et:cl.argTypes= #[t]:=by apply eI;simpa using ht
 have O:=gq (a:=a) ho hb _ rfl;rw[ea,et]at O;have em: #[X].map a.eval= #[a.eval X]:=by simp
 rw[em]at O;simp only[eff]at E;cases hu:s.ev r with
 |psl d b7 off k cap=>
  rw[hu]at E h1;obtain⟨cap,c3,_,T,b0,a2⟩:=h1.psl_inv
  try simp only at E
  split at E<;>try (cases E;done)
  rename_i b5 xs hl;cases E;obtain⟨b6,rfl,rfl,b4,L⟩:=hp
  have J:T=off*z.length:=by
   rcases a2 with h|h
   ·omega
   ·exact h
  subst J;obtain⟨zs,a1,hzl,b1⟩:=oN hz;obtain⟨zv,a6,I⟩:=db a1;have Q:=Hr (x:=x) a6 hzl b1 k;have W:∀y∈aL k z,y.length=z.length:=fun y hy=>by rw[(List.mem_replicate.1 hy).2]
  obtain⟨Z,b3⟩:=hM.writeRows (P:=P) (off:=off) hl L W (by simpa using b4) Q;rw[dJ]at Z;simp only[St.app];refine⟨.tuple #[],_,x,.value _, ?_,.inl rfl,aR.put Z o.dst (.tup [] [] rfl fun i hi=>by simp at hi)⟩;rw[O,b0]
  have a8:(Builtin.clear_ #[t] o.type #[.slice (some ⟨(x.bk d).1,off*z.length,none⟩) k cap]).run P w= .ok (.tuple #[]) (cd w ((x.bk d).1) (off*z.length) (Builtin.zeroCells zv.cells k).toList):=by have e1:(#[t]:Array TypeId)[0]? =some t:=rfl;have e2:(#[Value.slice (some ⟨(x.bk d).1,off*z.length,none⟩) k cap]:LAd)[0]? =some (.slice (some ⟨(x.bk d).1,off*z.length,none⟩) k cap):=rfl;obtain⟨k',rfl⟩:∃k',k=k'+1:=⟨k-1,by omega⟩;simp only[Builtin.clear_,e1,e2,aD,run_underlying hd,an,I,b3,aN]
  simp[a8]
 |_=>rw[hu]at E;simp at E
theorem HT(hM:aR C x s a w)(h:bG P o=some so)(Q:∀q r,so≠ .ovl q r)(I:eff s o.dst so=some e)(F:e.pre):cA P C o a w (s.app o.dst e):=by
 have y:(∀{p c},val s so=some (p,c)->p->cA P C o a w (s.put o.dst c))->(∀d,eff s d so=match val s so with|some (p,v)=>some {pre:=p,val:=v}|none=>none)->cA P C o a w (s.app o.dst e):=by
  intro h1 W;rw[W]at I;cases E:val s so with
  |none=>simp[E]at I
  |some T=>obtain⟨p,c⟩:=T;simp only[E,ax.injEq]at I;subst I;exact h1 E F
 cases ho:o.op with
 |move X=>exact y (fun E _=>x8 hM (.inl ho) h E) (by simp only[bG,ho]at h;obtain⟨_,_,rfl⟩:=ah.1 h;intro d;rfl)
 |assign X=>exact y (fun E _=>x8 hM (.inr ho) h E) (by simp only[bG,ho]at h;obtain⟨_,_,rfl⟩:=ah.1 h;intro d;rfl)
 |pick c X Y=>
  exfalso;simp only[bG,ho]at h;split at h<;>try (cases h;done)
  cases h;simp[eff]at I
 |alloc t=>exact HV hM ho h I
 |box t X=>exact xan hM ho h I
 |build t Z=>exact y (fun E _=>GK hM ho h E) (by
  simp only[bG,ho]at h;split at h<;>try (cases h;done)
  ·split at h<;>try (cases h;done)
   obtain⟨_,_,rfl⟩:=ah.1 h;intro d;rfl
  ·split at h<;>try (cases h;done)
   obtain⟨_,_,rfl⟩:=ah.1 h;intro d;rfl)
 |buildSlice t n Z=>exact y (fun E _=>pK hM ho h E) (by
  simp only[bG,ho]at h;split at h<;>try (cases h;done)
  split at h<;>try (cases h;done)
  split at h<;>try (cases h;done)
  obtain⟨_,_,rfl⟩:=ah.1 h;intro d;split<;>rfl)
 |load t X=>exact y (fun E F=>Ju hM ho h E F) (by
  simp only[bG,ho]at h;split at h<;>try (cases h;done)
  split at h<;>try (cases h;done)
  cases h;intro d;rfl)
 |store t X Y=>exact HS hM ho h I F
 |nilCheck X=>exact y (fun E _=>uW hM ho h E) (by simp only[bG,ho]at h;obtain⟨_,_,rfl⟩:=ah.1 h;intro d;rfl)
 |binOp op t X Y u=>
  by_cases J:∃O L q r,so= .eqS O L q r
  ·obtain⟨O,L,q,r,rfl⟩:=J
   exact y (fun E _=>Yf hM ho h E) (fun _=>rfl)
  ·exact y (fun E F=>GL hM ho h (fun O L q r e=>J ⟨O,L,q,r,e⟩) E F) (by
    simp only[bG,ho]at h;split at h<;>try (cases h;done)
    ·split at h<;>try (cases h;done)
     all_goals (cases h;intro d;rfl)
    ·cases h;intro d;rfl
    ·cases h;intro d;rfl
    ·split at h<;>try (cases h;done)
     split at h<;>try (cases h;done)
     split at h<;>first|(cases h;done)|(cases h;intro d;rfl)
    ·split at h<;>first|(cases h;done)|(cases h;simp[eff]at I)
    ·split at h<;>first|(cases h;done)|(cases h;intro d;rfl))
 |unOp op t X=>exact y (fun E _=>Jt hM ho h E) (by simp only[bG,ho]at h;obtain⟨_,_,rfl⟩:=ah.1 h;intro d;rfl)
 |convert t u X=>exact y (fun E F=>xU hM ho h E F) (by
  simp only[bG,ho]at h;split at h<;>try (cases h;done)
  ·cases h;intro d;rfl
  ·cases h;intro d;rfl
  ·split at h<;>try (cases h;done)
   cases h;intro d;rfl
  ·split at h<;>try (cases h;done)
   cases h;intro d;rfl
  ·split at h<;>try (cases h;done)
   cases h;intro d;rfl)
 |makeFunc f X Y=>exact y (fun E _=>uX hM ho h E) (by
  cases f<;>simp only[bG,ho,reduceCtorEq]at h;split at h<;>try (cases h;done)
  cases h;intro d;rfl)
 |makeSlice t X Y=>exact s8 hM ho h I F
 |slice t X lo hi mx=>exact y (fun E F=>GH hM ho h E F) (by
  simp only[bG,ho]at h;split at h<;>try (cases h;done)
  split at h
  ·cases h
  split at h<;>try (cases h;done)
  ·split at h<;>try (cases h;done)
   cases h;intro d;rfl
  ·split at h<;>try (cases h;done)
   cases h;intro d;rfl
  ·split at h<;>try (cases h;done)
   cases h;intro d;rfl)
 |fieldAddr t X i=>exact y (fun E _=>sC hM ho h E) (by
  simp only[bG,ho]at h;split at h<;>try (cases h;done)
  split at h<;>try (cases h;done)
  split at h<;>try (cases h;done)
  split at h
  ·cases h
  cases h;intro d;rfl)
 |field t X i=>exact y (fun E F=>GJ hM ho h E F) (by
  simp only[bG,ho]at h;split at h<;>try (cases h;done)
  split at h<;>try (cases h;done)
  split at h<;>try (cases h;done)
  split at h<;>try (cases h;done)
  cases h;intro d;rfl)
 |indexAddr t X Y=>exact y (fun E F=>sB hM ho h E F) (by
  simp only[bG,ho]at h;split at h<;>try (cases h;done)
  ·split at h<;>try (cases h;done)
   cases h;intro d;rfl
  ·split at h<;>try (cases h;done)
   cases h;intro d;rfl)
 |index t X Y=>exact y (fun E F=>GI hM ho h E F) (by
  simp only[bG,ho]at h;split at h<;>try (cases h;done)
  ·split at h<;>try (cases h;done)
   split at h<;>try (cases h;done)
   cases h;intro d;rfl
  ·cases h;intro d;rfl)
 |extract X i=>exact y (fun E F=>xT hM ho h E F) (by simp only[bG,ho]at h;obtain⟨_,_,rfl⟩:=ah.1 h;intro d;rfl)
 |call cl=>
  cases hb:cl.callee with
  |invoke r m=>simp[bG,ho,hb]at h
  |value f=>
   exfalso;simp only[bG,ho,hb]at h;split at h<;>try (cases h;done)
   split at h<;>try (cases h;done)
   split at h
   ·split at h
    ·cases h;exact Q _ _ rfl
    ·cases h;simp[eff]at I
   ·cases h;simp[eff]at I
  |builtin b=>
   cases b with
   |append=>exact Bf hM ho hb h I F
   |copy=>exact KQ hM ho hb h I F
   |clear=>exact HU hM ho hb h I F
   |cap=>exact y (fun E _=>Yg hM ho hb h E) (by
    simp only[bG,ho,hb]at h;split at h<;>try (cases h;done)
    split at h<;>try (cases h;done)
    cases h;intro d;rfl)
   |len=>exact y (fun E _=>Ye hM ho hb h E) (by
    simp only[bG,ho,hb]at h;split at h<;>try (cases h;done)
    split at h<;>try (cases h;done)
    ·cases h;intro d;rfl
    ·cases h;intro d;rfl
    ·cases h;intro d;rfl
    ·split at h<;>try (cases h;done)
     cases h;intro d;rfl)
   |min=>exact y (fun E _=>pM hM ho (.inl hb) h E) (by
    simp only[bG,ho,hb]at h;split at h<;>try (cases h;done)
    split at h<;>try (cases h;done)
    cases h;intro d;rfl)
   |max=>exact y (fun E _=>pM hM ho (.inr hb) h E) (by
    simp only[bG,ho,hb]at h;split at h<;>try (cases h;done)
    split at h<;>try (cases h;done)
    cases h;intro d;rfl)
   |_=>simp[bG,ho,hb]at h
 |_=>simp[bG,ho]at h
end Go.Sy
namespace Go.Sy
variable [br]
variable {P : Program} {C : Ctx} {x : Sit} {s : St} {a : Act} {w : World}
theorem my{cs:t8}{i:Nat}(hi:i<cs.length):∀k∈(cs.getD i .undef).ids,k∈SV.idsL cs:=by
 induction cs generalizing i with
 |nil=>simp at hi
 |cons c r y=>
  intro k h;simp only[SV.idsL,am];cases i with
  |zero=>exact .inl (by simpa using h)
  |succ i=>exact .inr (y (i:=i) (by simpa using hi) k (by simpa using h))
theorem lv{cs:t8}{i:Nat}(hi:i<cs.length):∀k∈(cs.getD i .undef).toks,k∈SV.toksL cs:=by
 induction cs generalizing i with
 |nil=>simp at hi
 |cons c r y=>
  intro k h;simp only[SV.toksL,am];cases i with
  |zero=>exact .inl (by simpa using h)
  |succ i=>exact .inr (y (i:=i) (by simpa using hi) k (by simpa using h))
theorem Rep.renF{x x2:Sit}{mo mt:Nat->Nat}(hG:∀b o v,x.G b o=some v->x2.G b o=some v){sv:SV}{v:Value}(h:Rep x sv v):(∀k∈sv.ids,x2.bk (mo k)=x.bk k)->(∀t∈sv.toks,x2.τ (mt t)=x.τ t)->Rep x2 (sv.ren mo mt) v:=by
 induction h with
 |undef v=>intro _ _;exact .undef v
 |dat s v h T=>
  intro F L;have J:=h.mono hG
  have sp:∀(I:Nat)(t:Tok),(∀u,t= .id u->x2.τ (mt u)=x.τ u)->dR x I t v->dR x2 I (t.ren mt) v:=by
   intro I t T hs;cases t with
   |no=>trivial
   |clip=>exact hs
   |id u=>obtain⟨ad,n,cap,hv,hc⟩:=hs;refine⟨ad,n,cap,hv,hc.imp id ?_⟩;rintro⟨b,off,he,hh⟩;exact⟨b,off,he,by rw[T u rfl];exact hh⟩
  cases s with
  |byt l t=>simp only[SV.ren];exact .dat _ _ (J.tok _ (.inl ⟨l,t,_,rfl,rfl⟩)) (sp 1 t (fun u hu=>L u (by subst hu;simp[SV.toks])) T)
  |lst I xs t=>simp only[SV.ren];exact .dat _ _ (J.tok _ (.inr ⟨I,xs,t,_,rfl,rfl⟩)) (sp I t (fun u hu=>L u (by subst hu;simp[SV.toks])) T)
  |undef=>exact .undef v
  |bool b=>simp only[SV.ren];exact .dat _ _ J trivial
  |int k n=>simp only[SV.ren];exact .dat _ _ J trivial
  |u8 b=>simp only[SV.ren];exact .dat _ _ J trivial
  |str l=>simp only[SV.ren];exact .dat _ _ J trivial
  |nilp=>simp only[SV.ren];exact .dat _ _ J trivial
  |nili=>simp only[SV.ren];exact .dat _ _ J trivial
  |pp cs=>simp only[SV.ren];exact .dat _ _ J trivial
  |ptr o off=>cases h
  |ap o I i j=>cases h
  |psl o I off n cap=>cases h
  |agg cs=>cases h
  |tup cs=>cases h
  |fn f a b=>cases h
 |ptr o off=>intro F _;simp only[SV.ren];rw[<-F o (by simp[SV.ids])];exact .ptr _ off
 |ap o I i j=>intro F _;simp only[SV.ren];rw[<-F o (by simp[SV.ids])];exact .ap _ I i j
 |psl o I off n cap O Q h hn hc E=>intro F _;simp only[SV.ren];rw[<-F o (by simp[SV.ids])]at E ⊢;exact .psl _ I off n cap O Q h hn hc E
 |agg cs vs hl _ ih=>
  intro F L;simp only[SV.ren,fL]
  exact .agg _ _ (by simpa using hl) fun i hi=>by
   rw[bg _ (by simp)];have y:i<cs.length:=by simpa using hi
   exact ih i y (fun k E=>F k (by simp only[SV.ids];exact my y k E)) (fun k E=>L k (by simp only[SV.toks];exact lv y k E))
 |tup cs vs hl _ ih=>
  intro F L;simp only[SV.ren,fL]
  exact .tup _ _ (by simpa using hl) fun i hi=>by
   rw[bg _ (by simp)];have y:i<cs.length:=by simpa using hi
   exact ih i y (fun k E=>F k (by simp only[SV.ids];exact my y k E)) (fun k E=>L k (by simp only[SV.toks];exact lv y k E))
 |fn f c1 c2 v1 v2 Z _ a2 _ a1 W=>
  intro F L;simp only[SV.ren,fL]
  exact .fn _ _ _ _ _ (by simpa using Z) (fun i hi=>by
   rw[bg _ (by simp)];have y:i<c1.length:=by simpa using hi
   exact a1 i y (fun k E=>F k (by simp only[SV.ids,am];exact .inl (my y k E))) (fun k E=>L k (by simp only[SV.toks,am];exact .inl (lv y k E))))
   (by simpa using a2) fun i hi=>by
    rw[bg _ (by simp)];have y:i<c2.length:=by simpa using hi
    exact W i y (fun k E=>F k (by simp only[SV.ids,am];exact .inr (my y k E))) (fun k E=>L k (by simp only[SV.toks,am];exact .inr (lv y k E)))
def Sit.back(x:Sit)(mo mt:Nat->Nat):Sit:=⟨x.G,fun k=>x.bk (mo k),fun t=>x.τ (mt t)⟩
theorem pS{x:Sit}{mo mt:Nat->Nat}{y:Nat}{t:Tok}{v:Value}(h:dR x y (t.ren mt) v):dR (x.back mo mt) y t v:=by
 cases t with
 |no=>trivial
 |clip=>exact h
 |id u=>exact h
theorem Rep.renB{x:Sit}{mo mt:Nat->Nat}(sv:SV):∀v,Rep x (sv.ren mo mt) v->Rep (x.back mo mt) sv v:=by
 refine SV.rec (motive_1:=fun sv=>∀v,Rep x (sv.ren mo mt) v->Rep (x.back mo mt) sv v) (motive_2:=fun _=>True) (motive_3:=fun l=>∀i,i<l.length->∀v,Rep x ((l.getD i .undef).ren mo mt) v->Rep (x.back mo mt) (l.getD i .undef) v)
  ?_ ?_ ?_ ?_ ?_ ?_ ?_ ?_ ?_ ?_ ?_ ?_ ?_ ?_ ?_ ?_ ?_ ?_ ?_ ?_ sv
 ·intro v _;exact .undef v
 ·intro b v h;rw[Rep.bool_inv h];exact ep b
 ·intro k n v h;rw[Rep.int_inv h];exact cX k n
 ·intro b v h;rw[Rep.u8_inv h];exact pB b
 ·intro l v h;rw[Rep.str_inv h];exact mh l
 ·intro l t v h
  simp only[SV.ren]at h;cases h with
  |dat _ _ h W=>exact .dat _ _ (h.tok _ (.inl ⟨l,_,t,rfl,rfl⟩)) (pS W)
 ·intro E xs t _ v h
  simp only[SV.ren]at h;cases h with
  |dat _ _ h W=>exact .dat _ _ (h.tok _ (.inr ⟨E,xs,_,t,rfl,rfl⟩)) (pS W)
 ·intro v h;rw[Rep.nilp_inv h];exact .dat _ _ .nilp trivial
 ·intro v h;rw[Rep.nili_inv h];exact .dat _ _ .nili trivial
 ·intro cs _ v h
  simp only[SV.ren]at h;exact .dat _ _ (Rep.data (x:=x) h rfl) trivial
 ·intro o off v h;simp only[SV.ren]at h;rw[h.ptr_inv];exact .ptr o off
 ·intro o E i j v h;simp only[SV.ren]at h;rw[h.ap_inv];exact .ap o E i j
 ·intro o E off n cap v h
  simp only[SV.ren]at h;obtain⟨I,hn,hc,y,rfl,ho,hk⟩:=h.psl_invA;exact .psl (x:=x.back mo mt) o E off n cap y I ho hn hc hk
 ·intro cs Q v h
  simp only[SV.ren,fL]at h;obtain⟨vs,rfl,F⟩:=h.agg_inv;refine .agg _ _ (by simpa using F.1) fun i hi=>Q i hi _ ?_
  have:=F.2 i (by simpa using hi);rwa[bg _ (by simp)]at this
 ·intro cs Q v h
  simp only[SV.ren,fL]at h;obtain⟨vs,rfl,F⟩:=h.tup_inv;refine .tup _ _ (by simpa using F.1) fun i hi=>Q i hi _ ?_
  have:=F.2 i (by simpa using hi);rwa[bg _ (by simp)]at this
 ·intro f c1 c2 T L v h
  simp only[SV.ren,fL]at h;obtain⟨v1,v2,rfl,Z,h2⟩:=h.fn_inv;refine .fn _ _ _ _ _ (by simpa using Z.1) (fun i hi=>T i hi _ ?_) (by simpa using h2.1) (fun i hi=>L i hi _ ?_)
  ·have:=Z.2 i (by simpa using hi);rwa[bg _ (by simp)]at this
  ·have:=h2.2 i (by simpa using hi);rwa[bg _ (by simp)]at this
 ·trivial
 ·intros;trivial
 ·intro i hi;simp at hi
 ·intro c r J O i hi v h
  cases i with
  |zero=>exact J v (by simpa using h)
  |succ i=>simpa using O i (by simpa using hi) v (by simpa using h)
theorem eA.renB{mo mt:Nat->Nat}{o:Nat}{obj:aH}(h:eA x w (mo o) (obj.ren mo mt)):eA (x.back mo mt) w o obj:=by
 obtain⟨c,e,fl,fh,J,⟨L,y,I⟩,F⟩:=h;refine⟨c,e,fl,fh,J,⟨?_,y,by cases obj<;>exact I⟩,fun k E=> ?_⟩
 ·cases obj<;>simpa[aH.ren,aH.size,fL]using L
 ·cases obj with
  |rc cs=>have:=F k (by simpa[aH.ren,aH.size,fL]using E);simp only[aH.ren,cx,fL]at this ⊢;rw[bg _ (by simp)]at this;exact Rep.renB _ _ this
  |arr O Q=>exact F k E
  |bar l=>exact F k E
theorem eA.renF{x2:Sit}{w':World}{mo mt:Nat->Nat}{o:Nat}{obj:aH}(h:eA x w' o obj)(I:∀b o v,x.G b o=some v->x2.G b o=some v)(Q:x2.bk (mo o)=x.bk o)
 (Z:∀k∈obj.ids,x2.bk (mo k)=x.bk k) (T:∀t∈obj.toks,x2.τ (mt t)=x.τ t):eA x2 w' (mo o) (obj.ren mo mt):=by
 obtain⟨c,e,fl,fh,W,⟨hs,F,O⟩,L⟩:=h;refine⟨c,e,fl,fh,by rw[Q];exact W,⟨?_,by rw[Q];exact F,by cases obj<;>exact O⟩,fun k J=> ?_⟩
 ·cases obj<;>simpa[aH.ren,aH.size,fL]using hs
 ·cases obj with
  |rc cs=>
   have y:k<cs.length:=by simpa[aH.ren,aH.size,fL]using J
   have:=L k y;simp only[aH.ren,cx,fL]at this ⊢;rw[bg _ (by simp)];exact Rep.renF I this (fun j E=>Z j (my y j E)) (fun j E=>T j (lv y j E))
  |arr sz xs=>exact(L k J).mono I
  |bar l=>exact(L k J).mono I
theorem jH{os:List aH}{p:Nat×aH}:p∈idx os↔p.1<os.length/\p.2=os.getD p.1 (.rc []):=by
 unfold idx;rw[aZ];constructor
 ·rintro⟨⟨ob,i⟩,h,rfl⟩
  have:=List.mem_zipIdx' h;exact⟨this.1,by rw[aa,ac this.1];exact this.2⟩
 ·rintro⟨E,y⟩
  refine⟨(p.2,p.1), ?_,rfl⟩;rw[List.mk_mem_zipIdx_iff_getElem?,y,aa,ac E];rfl
theorem oE(os:List aH):((idx os).map cS).Nodup:=by
 unfold idx;rw[List.map_map];have:(cS∘fun p:aH×Nat=>(p.2,p.1))=Prod.snd:=rfl;rw[this];have:os.zipIdx.map Prod.snd=tp 0 os.length:=by simp[List.zipIdx_map_snd]
 rw[this];exact List.nodup_range'
theorem ud{m:LAa}(h:m.Nodup){i j:Nat}(hi:i<m.length)(E:j<m.length)(e:m[i]=m[j]):i=j:=by
 have F:=iS.1 h;rcases Nat.lt_trichotomy i j with y|heq|hgt
 ·exact absurd e (F i j hi E y)
 ·exact heq
 ·exact absurd e.symm (F j i E hi hgt)
def Ctx.callee(x:Sit)(w:World)(m:LAa)(β0:Nat->Nat×Nat):Ctx:=⟨w,x.G,fun b=>w.heap.size<=b\/∃i,i<m.length/\(x.bk (m.getD i 0)).1=b,β0⟩
theorem x5(hM:aR C x s a w){m:LAa}{os:List aH}{mo mt:Nat->Nat}(F:∀i,i<m.length->mo i=m.getD i 0)(hl:m.length=os.length)(O:m.Nodup)
 (y:∀i,i<os.length->s.look (m.getD i 0)=some ((os.getD i (.rc [])).ren mo mt)):dj (Ctx.callee x w m (x.back mo mt).bk) (x.back mo mt) (idx os) [] w:=by
 have J:∀i,i<os.length->(x.back mo mt).bk i=x.bk (m.getD i 0):=fun i hi=>by show x.bk (mo i)=_;rw[F i (by omega)]
 refine⟨hM.heap.per,fun _ _ _ h=>h,fun _ _ _ h=> .inl h,fun b h=> .inl h, ?_,oE os, ?_,fun t h=>by simp at h,fun t h=>by simp at h,fun t h=>by simp at h,rfl,rfl,rfl,aJ _,fun _ _=>rfl,fun _ _=>rfl,hM.heap.lay.mono hM.heap.g0⟩
 ·intro p Q
  obtain⟨E,L⟩:=jH.1 Q;obtain⟨T,h4,h5⟩:=hM.heap.obs _ (dr (y p.1 E));refine⟨?_,.inr ⟨p.1,by omega,by rw[J p.1 E]⟩,fun off=>by rw[J p.1 E];exact h5 off⟩;rw[L];refine eA.renB ?_;rw[F p.1 (by omega)];exact T
 ·intro p Q q W I
  obtain⟨E,_⟩:=jH.1 Q;obtain⟨L,_⟩:=jH.1 W;rw[J _ E,J _ L]at I;have:=hM.heap.inj _ (dr (y p.1 E)) _ (dr (y q.1 L)) I;simp only at this;have Z:m.getD p.1 0=m[p.1]'(by omega):=by rw[aa,ac (by omega)];rfl
  have e2:m.getD q.1 0=m[q.1]'(by omega):=by rw[aa,ac (by omega)];rfl
  rw[Z,e2]at this;exact ud O _ _ this
end Go.Sy
namespace Go.Sy
variable [br]
variable {P : Program} {C : Ctx} {x : Sit} {s : St} {a : Act} {w : World}
theorem ky{m:LAa}{l:List (Nat×aH)}{p:Nat×aH}:p∈fM m l↔p∈l/\p.1∉m:=by
 induction l with
 |nil=>simp[fM]
 |cons q r F=>
  simp only[fM];split<;>rename_i E
  ·rw[F,av];constructor
   ·rintro⟨y,h⟩;exact⟨.inr y,h⟩
   ·rintro⟨rfl|y,h⟩
    ·exact absurd E h
    ·exact⟨y,h⟩
  ·rw[av,F,av];constructor
   ·rintro(rfl|⟨y,h⟩)
    ·exact⟨.inl rfl,E⟩
    ·exact⟨.inr y,h⟩
   ·rintro⟨rfl|y,h⟩
    ·exact .inl rfl
    ·exact .inr ⟨y,h⟩
theorem iO(m:LAa)(l:List (Nat×aH)):(fM m l).Sublist l:=by
 induction l with
 |nil=>exact o7.refl _
 |cons q r h=>
  simp only[fM];split
  ·exact h.cons q
  ·exact h.cons_cons q
theorem A5(hM:aR C x s a w){m:LAa}{os:List aH}{mo mt:Nat->Nat}{lo hi:Nat}(hl:m.length=os.length)(e6:∀i,i<os.length->s.look (m.getD i 0)=some ((os.getD i (.rc [])).ren mo mt))
 {x':Sit} {w':World} {a6:List (Nat×aH)} {tks:LAa} {β0:Nat->Nat×Nat} (hH:dj (Ctx.callee x w m β0) x' a6 tks w')
 (e1:∀i,i<m.length->mo i=m.getD i 0) {β2:Nat->Nat×Nat} {τ2:Nat->Nat×Nat×Nat} (b6:∀i,i<100->¬(lo<=i/\i<hi)) (a7:∀o,¬(lo<=o/\o<hi)->β2 o=x.bk o) (b0:∀o,¬(lo<=o/\o<hi)->τ2 o=x.τ o)
 (T:∀p∈a6,β2 (mo p.1)=x'.bk p.1) (d4:∀p∈a6,∀k∈p.2.ids,β2 (mo k)=x'.bk k) (c5:∀p∈a6,∀t∈p.2.toks,τ2 (mt t)=x'.τ t)
 (c3:∀p∈a6,p.1<m.length\/(lo<=mo p.1/\mo p.1<hi)) (b1:∀t∈tks,(lo<=mt t/\mt t<hi)/\τ2 (mt t)=x'.τ t):
 (∀b o v,x.G b o=some v->x'.G b o=some v)/\dj C ⟨x'.G,β2,τ2⟩ (a6.map (fun p=>(mo p.1,p.2.ren mo mt))++fM m (bP lo hi s.ob)) (tks.map mt++cJ lo hi s.tk) w':=by
 have hG:∀b o v,x.G b o=some v->x'.G b o=some v:=hH.g0;have y:=hM.heap;have W:∀i,i<m.length->(∃ob,(m.getD i 0,ob)∈s.ob):=fun i hi=>⟨_,dr (e6 i (by omega))⟩
 have a2:∀b,(Ctx.callee x w m β0).mine b->C.mine b:=by
  rintro b (h|⟨i,hi,rfl⟩)
  ·exact y.new b (mC y.size h)
  ·obtain⟨ob,d5⟩:=W i hi
   exact(y.obs _ d5).2.1
 have e9:∀o∈m,∃i,i<m.length/\m.getD i 0=o:=by intro o ho;obtain⟨i,hi,rfl⟩:=bp ho;exact⟨i,hi,by rw[aa,ac hi];rfl⟩
 have b4:∀b,b<w.heap.size->(∀i,i<m.length->(x.bk (m.getD i 0)).1≠b)->w'.heap[b]? =w.heap[b]? /\((∀off,x.G b off=none)->∀off,x'.G b off=none):=by
  intro b hb d2
  have b7:¬(Ctx.callee x w m β0).mine b:=by
   rintro(h|⟨i,hi,h⟩)
   ·omega
   ·exact d2 i hi h
  refine⟨hH.ext b b7,fun h off=> ?_⟩;cases hg:x'.G b off with
  |none=>rfl
  |some v=>
   rcases hH.gm b off v hg with E|E
   ·change x.G b off=some v at E;rw[h off]at E;cases E
   ·exact absurd E b7
 have a8:∀p∈fM m (bP lo hi s.ob),∃ob,(p.1,ob)∈s.ob/\p.2=ob.purge lo hi/\¬(lo<=p.1/\p.1<hi)/\p.1∉m/\(∀i,i<m.length->(x.bk (m.getD i 0)).1≠(x.bk p.1).1)/\(x.bk p.1).1<w.heap.size:=by
  intro p J;obtain⟨E,h2⟩:=ky.1 J;obtain⟨h3,ob,h4,h5⟩:=cG E;refine⟨ob,h4,h5,h3,h2,fun i hi e=> ?_, ?_⟩
  ·obtain⟨ob',e0⟩:=W i hi
   have:=y.inj _ e0 _ h4 e;simp only at this;apply h2;rw[<-this,aa,ac hi];exact bv _
  ·obtain⟨⟨c,e,fl,fh,hO,_⟩,_⟩:=y.obs _ h4
   exact hO.lt
 have Z:∀p∈a6.map (fun p=>(mo p.1,p.2.ren mo mt)),∃q∈a6,p=(mo q.1,q.2.ren mo mt)/\β2 p.1=x'.bk q.1:=by intro p J;obtain⟨q,I,rfl⟩:=aZ.1 J;exact⟨q,I,rfl,T q I⟩
 have O:∀q∈a6,w.heap.size<=(x'.bk q.1).1\/∃i,i<m.length/\(x.bk (m.getD i 0)).1=(x'.bk q.1).1:=fun q I=>(hH.obs q I).2.1
 have F:∀t∈cJ lo hi s.tk,t∈s.tk/\¬(lo<=t/\t<hi):=fun t Q=>bU.1 Q
 have L:∀t∈s.tk,(x.τ t).2.1=(x.τ t).2.2\/((x.τ t).1<w.heap.size/\∀i,i<m.length->(x.bk (m.getD i 0)).1≠(x.τ t).1):=by
  intro t Q;rcases y.tks t Q with h|⟨⟨c,e,fl,fh,hO,_⟩,_⟩
  ·exact .inl h
  ·by_cases he:(x.τ t).2.1=(x.τ t).2.2
   ·exact .inl he
   ·refine .inr ⟨hO.lt,fun i hi e'=> ?_⟩
    obtain⟨ob,d5⟩:=W i hi;rcases y.tko t Q _ d5 with h|h
    ·exact h e'.symm
    ·exact he h
 refine⟨hG,⟨hH.per,fun b o v h=>hG _ _ _ (y.g0 b o v h), ?_,y.new, ?_, ?_, ?_, ?_, ?_, ?_,hH.os.trans y.os,hH.tape.trans y.tape,hH.output.trans y.output,mC y.size hH.size, ?_,fun i hi=>(a7 i (b6 i hi)).trans (y.pin i hi),y.lay⟩⟩
 ·intro b o v h
  rcases hH.gm b o v h with E|E
  ·exact y.gm b o v E
  ·exact .inr (a2 b E)
 ·intro p J
  rcases am.1 J with J|J
  ·obtain⟨q,I,rfl,hb⟩:=Z p J
   obtain⟨E,h2,h3⟩:=hH.obs q I;refine⟨E.renF (x2:=⟨x'.G,β2,τ2⟩) (fun _ _ _ h=>h) (T q I) (d4 q I) (c5 q I), ?_,fun off=> ?_⟩
   ·show C.mine (β2 (mo q.1)).1;rw[T q I];exact a2 _ h2
   ·show x'.G (β2 (mo q.1)).1 off=none;rw[T q I];exact h3 off
  ·obtain⟨ob,E,h2,h3,h4,h5,h6⟩:=a8 p J
   obtain⟨g1,g2,g3⟩:=y.obs _ E;obtain⟨k1,k2⟩:=b4 _ h6 h5;have hb:β2 p.1=x.bk p.1:=a7 _ h3;refine⟨?_,by show C.mine (β2 p.1).1;rw[hb];exact g2,fun off=>by show x'.G (β2 p.1).1 off=none;rw[hb];exact k2 g3 off⟩;rw[h2];exact eA.of_heap (x':=⟨x'.G,β2,τ2⟩) g1 k1 hG a7 b0 h3
 ·rw[cf,List.nodup_append]
  refine⟨?_, ?_, ?_⟩
  ·rw[List.map_map]
   have d7:=ii.1 hH.nd;refine ii.2 (fP.imp_of_mem (fun{p q} J I d2=> ?_) d7);intro e;simp only[Function.comp]at e;have:(x'.bk p.1).1=(x'.bk q.1).1:=by rw[<-T p J,<-T q I,e]
   exact d2 (hH.inj p J q I this)
  ·have E:(fM m (bP lo hi s.ob)).Sublist (bP lo hi s.ob):=iO _ _
   refine zZ.sublist (E.map cS) ?_;rw[fy];exact y.nd.filter _
  ·intro o1 E o2 h2 e
   subst e;obtain⟨p,J,rfl⟩:=aZ.1 E;obtain⟨q,I,d1⟩:=aZ.1 h2;obtain⟨r,hr,rfl⟩:=aZ.1 J;obtain⟨ob,k1,k2,k3,k4,k5,k6⟩:=a8 q I;simp only at d1;rcases c3 r hr with h|h
   ·apply k4;rw[d1,e1 _ h,aa,ac h];exact bv _
   ·apply k3;rw[d1];exact h
 ·intro p J q I a1
  change (β2 p.1).1=(β2 q.1).1 at a1;rcases am.1 J with J|J<;>rcases am.1 I with I|I
  ·obtain⟨p',c7,rfl,hb⟩:=Z p J
   obtain⟨q',d3,rfl,e3⟩:=Z q I;rw[hb,e3]at a1;have:=hH.inj p' c7 q' d3 a1;simp only;rw[this]
  ·obtain⟨p',c7,rfl,hb⟩:=Z p J
   obtain⟨ob,k1,k2,k3,k4,k5,k6⟩:=a8 q I;rw[hb,a7 _ k3]at a1;rcases O p' c7 with h|⟨i,hi,h⟩
   ·omega
   ·exact absurd (h.trans a1) (k5 i hi)
  ·obtain⟨q',d3,rfl,hb⟩:=Z q I
   obtain⟨ob,k1,k2,k3,k4,k5,k6⟩:=a8 p J;rw[hb,a7 _ k3]at a1;rcases O q' d3 with h|⟨i,hi,h⟩
   ·omega
   ·exact absurd (h.trans a1.symm) (k5 i hi)
  ·obtain⟨ob,k1,k2,k3,k4,k5,k6⟩:=a8 p J
   obtain⟨ob',e8,f4,e2,f0,f2,f1⟩:=a8 q I;rw[a7 _ k3,a7 _ e2]at a1;exact y.inj (p.1,ob) k1 (q.1,ob') e8 a1
 ·intro t Q
  rcases am.1 Q with Q|Q
  ·obtain⟨u,hu,rfl⟩:=aZ.1 Q
   obtain⟨_,e4⟩:=b1 u hu;have:=hH.tks u hu;unfold iR at this ⊢;simp only[e4];exact this.imp id fun⟨E,h2,h3⟩=>⟨E,a2 _ h2,h3⟩
  ·obtain⟨
    E,h2⟩:=F t Q
   have:=y.tks t E;unfold iR at this ⊢;simp only[b0 t h2];rcases this with h|⟨⟨c,e,fl,fh,hO,hc⟩,h4,h5⟩
   ·exact .inl h
   ·rcases L t E with h|⟨k1,k2⟩
    ·exact .inl h
    ·obtain⟨g1,_⟩:=b4 _ k1 k2
     refine .inr ⟨⟨c,e,fl,fh,hO.of_heap g1,hc⟩,h4,fun o e5 e7=> ?_⟩;cases hg:x'.G (x.τ t).1 o with
     |none=>rfl
     |some v=>
      rcases hH.gm _ _ _ hg with q1|q1
      ·change x.G _ _=some v at q1;rw[h5 o e5 e7]at q1;cases q1
      ·rcases q1 with q1|⟨i,hi,q1⟩
       ·change w.heap.size<=_ at q1;omega
       ·exact absurd q1 (k2 i hi)
 ·intro t Q p J
  rcases am.1 Q with Q|Q<;>rcases am.1 J with J|J
  ·obtain⟨u,hu,rfl⟩:=aZ.1 Q
   obtain⟨q,I,rfl,hb⟩:=Z p J;show(τ2 (mt u)).1≠(β2 (mo q.1)).1\/(τ2 (mt u)).2.1=(τ2 (mt u)).2.2;rw[(b1 u hu).2,T q I];exact hH.tko u hu q I
  ·obtain⟨u,hu,rfl⟩:=aZ.1 Q
   obtain⟨ob,k1,k2,k3,k4,k5,k6⟩:=a8 p J;show(τ2 (mt u)).1≠(β2 p.1).1\/(τ2 (mt u)).2.1=(τ2 (mt u)).2.2;rw[(b1 u hu).2,a7 _ k3];rcases hH.tks u hu with h|⟨_,h,_⟩
   ·exact .inr h
   ·left;intro e
    rcases h with h|⟨i,hi,h⟩
    ·change w.heap.size<=_ at h;omega
    ·exact k5 i hi (h.trans e)
  ·obtain⟨E,h2⟩:=F t Q
   obtain⟨q,I,rfl,hb⟩:=Z p J;show(τ2 t).1≠(β2 (mo q.1)).1\/(τ2 t).2.1=(τ2 t).2.2;rw[b0 t h2,T q I];rcases L t E with h|⟨k1,k2⟩
   ·exact .inr h
   ·left;intro e
    rcases O q I with h|⟨i,hi,h⟩
    ·omega
    ·exact k2 i hi (h.trans e.symm)
  ·obtain⟨E,h2⟩:=F t Q
   obtain⟨ob,k1,k2,k3,k4,k5,k6⟩:=a8 p J;show(τ2 t).1≠(β2 p.1).1\/(τ2 t).2.1=(τ2 t).2.2;rw[b0 t h2,a7 _ k3];exact y.tko t E (p.1,ob) k1
 ·intro t Q u hu d6
  show mB (τ2 t) (τ2 u)\/(τ2 t).2.1=(τ2 t).2.2\/(τ2 u).2.1=(τ2 u).2.2;rcases am.1 Q with Q|Q<;>rcases am.1 hu with hu|hu
  ·obtain⟨t',b5,rfl⟩:=aZ.1 Q
   obtain⟨u',b3,rfl⟩:=aZ.1 hu;rw[(b1 t' b5).2,(b1 u' b3).2];exact hH.tkd t' b5 u' b3 (fun e=>d6 (by rw[e]))
  ·obtain⟨t',b5,rfl⟩:=aZ.1 Q
   obtain⟨E,h2⟩:=F u hu;rw[(b1 t' b5).2,b0 u h2];rcases hH.tks t' b5 with h|⟨_,h,_⟩
   ·exact .inr (.inl h)
   ·rcases L u E with k|⟨k1,k2⟩
    ·exact .inr (.inr k)
    ·refine .inl (fun e=> ?_)
     rcases h with h|⟨i,hi,h⟩
     ·change w.heap.size<=_ at h;omega
     ·exact k2 i hi (h.trans e)
  ·obtain⟨u',b3,rfl⟩:=aZ.1 hu
   obtain⟨E,h2⟩:=F t Q;rw[(b1 u' b3).2,b0 t h2];rcases hH.tks u' b3 with h|⟨_,h,_⟩
   ·exact .inr (.inr h)
   ·rcases L t E with k|⟨k1,k2⟩
    ·exact .inr (.inl k)
    ·refine .inl (fun e=> ?_)
     rcases h with h|⟨i,hi,h⟩
     ·change w.heap.size<=_ at h;omega
     ·exact k2 i hi (h.trans e.symm)
  ·obtain⟨E,h2⟩:=F t Q
   obtain⟨h3,h4⟩:=F u hu;rw[b0 t h2,b0 u h4];exact y.tkd t E u h3 d6
 ·intro b hb
  have b7:¬(Ctx.callee x w m β0).mine b:=fun h=>hb (a2 b h)
  exact(hH.ext b b7).trans (y.ext b hb)
theorem dj.only{ob ob':List (Nat×aH)}{tk tk':LAa}(h:dj C x ob tk w)(F:∀p∈ob',p∈ob)(hn:(ob'.map cS).Nodup)(E:∀t∈tk',t∈tk):dj C x ob' tk' w:=
 ⟨h.per,h.g0,h.gm,h.new,fun p y=>h.obs p (F p y),hn,fun p y q I=>h.inj p (F p y) q (F q I),fun t hu=>h.tks t (E t hu),fun t hu p y=>h.tko t (E t hu) p (F p y),
  fun t hu u J=>h.tkd t (E t hu) u (E u J),h.os,h.tape,h.output,h.size,h.ext,h.pin,h.lay⟩
theorem yC(d:Nat)(m:LAa)(os:List (Nat×aH)):pZ d m os=os.map fun p=>(jk d m p.1,p.2.ren (jk d m) (kK d)):=by
 induction os with
 |nil=>rfl
 |cons p r h=>simp[pZ,h]
end Go.Sy
namespace Go.Sy
variable [br]
variable {P : Program} {C : Ctx} {x : Sit} {s : St} {a : Act} {w : World} {o : Oper} {so : SOp}
def IQ(C:Ctx)(k:St->Prop):LBb:=fun a w=>∃x s,aR C x s a w/\k s
theorem dL{K:LBb}{Q:LBa}{k:St->Prop}{s':St}(h:cA P C o a w s')(E:k s')(hK:∀a w,IQ C k a w->K a w):o.wp P a w K Q:=by
 obtain⟨u,w',x',n,y,hn,hM⟩:=h;unfold Oper.wp;rw[y];rcases hn with rfl|⟨rfl,rfl⟩
 ·exact hK _ _ ⟨x',s',hM,E⟩
 ·exact hK _ _ ⟨x',s',hM,E⟩
theorem vg{f:Nat}(h:ez P f=true)(args:LAd)(w:World):(callFunc f args).run P w= .ok (.enter f args) w:=by
 unfold ez at h;split at h
 ·rename_i fn E
  simp only[aC,cT]at h;obtain⟨F,I⟩:=h;have y:fn.body.isNone=false:=by cases hb:fn.body<;>simp[hb]at F ⊢
  simp only[callFunc,aD,run_program,an,E,I,aO,if_false,y,aN]
 ·cases h
theorem HR(hM:aR C x s a w){h:Call}{F:Operand}(ho:o.op= .call h)(W:h.callee= .value F){f:Arg}{a_:List Arg}(hf:bF P 0 F=some f)
 (has:kz (fun p=>bF P p.2 p.1) (h.args.toList.zip h.argTypes.toList)=some a_) (O:h.args.size=h.argTypes.size) {g:Nat} {c1 c2:t8} (hg:s.ev f= .fn g c1 c2) (hc:ez P g=true):
 ∃vs:LAc,(execOp a.eval o).run P w= .ok (.enter g ⟨vs⟩) w/\cE x (c1++a_.map s.ev++c2) vs:=by
 have hF:=aP hM hf;rw[hg]at hF;obtain⟨v1,T,J,h1,Z⟩:=hF.fn_inv;obtain⟨hl,E⟩:=fC has;have hzl:(h.args.toList.zip h.argTypes.toList).length=h.args.toList.length:=by simp[O]
 have y:cE x (a_.map s.ev) (h.args.toList.map a.eval):=by
  refine⟨by simp only[aY];rw[hl,hzl],fun i hi=> ?_⟩;have I:i<a_.length:=by simpa using hi
  have L:i<(h.args.toList.zip h.argTypes.toList).length:=by omega
  have:=aP hM (E i L I);have e1:(a_.map s.ev).getD i .undef=s.ev a_[i]:=by rw[aa,aT,ac I];rfl
  have e2:(h.args.toList.map a.eval).getD i undef=a.eval (h.args.toList.zip h.argTypes.toList)[i].1:=by
   have Q:i<h.args.toList.length:=by omega
   rw[aa,aT,ac Q,List.getElem_zip];rfl
  rw[e1,e2];exact this
 refine⟨v1++h.args.toList.map a.eval++T, ?_,(h1.append y).append Z⟩
 have:(execOp a.eval o).run P w=(callFunc g ((⟨v1⟩:LAd)++h.args.map a.eval++⟨T⟩)).run P w:=by simp only[execOp,ho,resolve,W,J,Deferred.ofValue,aD,aN,an,invoke]
 rw[this,vg hc]
 congr 2
 apply eI;simp
end Go.Sy
namespace Go.Sy
variable [br]
variable {P : Program} {C : Ctx} {x : Sit} {s : St} {a : Act} {w : World} {o : Oper} {so : SOp} {p : Prop} {c : SV}
theorem KT(hM:aR C x s a w){q r:Arg}(E:bG P o=some (.ovl q r)){e:Eff}(h:eff s o.dst (.ovl q r)=some e)(y:e.pre):cA P C o a w (s.app o.dst e):=by simp only[eff,val]at h;cases h
end Go.Sy
namespace Go.Sy
variable [br]
variable {P : Program} {C : Ctx} {x : Sit} {s : St} {a : Act} {w : World} {o : Oper} {so : SOp} {p : Prop} {c : SV}
theorem New.append{a_ bs:LAc}{A B:t8}(h:New x a_ A)(k:New x bs B):New x (a_++bs) (A++B):=by
 refine⟨by simp[h.len,k.len],fun i hi=> ?_,fun v E=>(am.1 E).elim (h.one v) (k.one v)⟩;simp only[aa]
 by_cases y:i<A.length
 ·rw[bo y,bo (by rw[<-h.len];exact y)]
  have:=h.rep i y;simpa only[aa]using this
 ·rw[bA (by omega),bA (by rw[<-h.len];omega),h.len]
  have:=k.rep (i-A.length) (by simp only[ae]at hi;omega);rw[h.len]at this;simpa only[aa]using this
theorem H8{F:Nat}{rs:d8}(E:∀y∈rs,y.length=F){cs:LAc}(h:New x cs rs.flatten)(k:Nat)(I:k<rs.length*F):cx x (.arr F rs) k ((⟨cs⟩:LAd).getD k undef):=by
 simp only[cx,aH.cell];rw[<-cV rs E k I];have:=h.rep k (by rw[bW E];exact I);have e:(⟨cs⟩:LAd).getD k undef=cs.getD k undef:=by simp[aS,aa]
 rw[e];exact this
structure Src(P:Program)(n m:Nat)(w:World)(Y:Value)(ns:List Value):Prop where
 len:∀w':World,w'.heap=w.heap->(Builtin.lenOf Y).run P w'= .ok m w'
 cells:∀w':World,w'.heap=w.heap->(Builtin.firstCells n m Y).run P w'= .ok ns.toArray w'
theorem rE(hM:aR C x s a w){n:Nat}{u:SV}{Y:Value}{p:Prop}{R:d8}(h:Rep x u Y)(L:iQ s n u=some (p,R))(Q:p):∃ns,(∀y∈R,y.length=n)/\New x ns R.flatten/\Src P n R.length w Y ns:=by
 obtain⟨E,T,ns,F,O⟩:=iH (P:=P) hM h L Q;refine⟨ns,E,F,T,fun w' I=> ?_⟩;have:=O R.length (aJ _) w' I;have J:ns.length=R.length*n:=by rw[<-F.len,bW E]
 rwa[<-J,dA]at this
theorem Hq{so:SOp}(y:bG P o=some so)(I:(∃z b q r,so= .app z b q r)\/∃z b q r,so= .appM z b q r):∃E,o.op= .call E/\E.callee= .builtin .append:=by
 cases ho:o.op with
 |call E=>
  cases hb:E.callee with
  |invoke r m=>simp[bG,ho,hb]at y
  |value F=>
   exfalso;simp only[bG,ho,hb]at y
   (repeat' split at y)<;>first|(cases y;done)|(cases y;rcases I with⟨_,_,_,_,h⟩|⟨_,_,_,_,h⟩<;>cases h)
  |builtin b=>
   cases b<;>first|exact⟨E,rfl,hb⟩|(exfalso;simp only[bG,ho,hb,reduceCtorEq]at y<;>((repeat' split at y)<;>first|(cases y;done)|(cases y;rcases I with⟨_,_,_,_,h⟩|⟨_,_,_,_,h⟩<;>cases h)))
 |_=>
  exfalso
  have:¬((∃z b q r,so= .app z b q r)\/∃z b q r,so= .appM z b q r):=by
   simp only[bG,ho]at y
   first
    |(cases y;done)
    |(obtain⟨_,_,rfl⟩:=ah.1 y;rintro(⟨_,_,_,_,h⟩|⟨_,_,_,_,h⟩)<;>cases h;done)
    |(repeat' split at y)<;>first|(cases y;done)|contradiction|(cases y;rintro(⟨_,_,_,_,h⟩|⟨_,_,_,_,h⟩)<;>cases h;done)|(obtain⟨_,_,rfl⟩:=ah.1 y;rintro(⟨_,_,_,_,h⟩|⟨_,_,_,_,h⟩)<;>first|(cases h;done)|(split at h<;>cases h;done))
  exact this I
structure xzt(P:Program)(o:Oper)(z:List SV)(by_:Nat)(q r:Arg)(a:Act)(X Y:Operand)(t u el:TypeId)(d2:TypeDesc)(zs:List Value):Prop where
 ex:execOp a.eval o=(do pure (.value (<-Builtin.append_ #[t,u] o.type #[a.eval X,a.eval Y])))
 hd:P.underlying t=some (.slice el)
 hu:P.underlying u=some d2
 hX:bF P t X=some q
 hY:bF P u Y=some r
 hn:fK P el=some z.length
 hby:wg P el=some by_
 hz:gR P el=some zs
 hzl:z.length=zs.length
 hzd:∀(G:GM) i,i<z.length->cL G (z.getD i .undef) (zs.getD i undef)
 hb0:by_≠0
 hn0:z.length≠0
theorem xaR{so:SOp}(y:bG P o=some so){z:t8}{by_:Nat}{q r:Arg}(O:so= .app z by_ q r\/so= .appM z by_ q r)(a:Act):∃X Y t u el F zs,xzt P o z by_ q r a X Y t u el F zs/\
 (so= .app z by_ q r->(∃Q,F= .slice Q)\/F= .string)/\(so= .appM z by_ q r->∃k,F= .int k):=by
 obtain⟨cl,ho,hb⟩:=Hq y (O.imp (fun h=>⟨_,_,_,_,h⟩) (fun h=>⟨_,_,_,_,h⟩));simp only[bG,ho,hb]at y;split at y<;>try (cases y;done)
 rename_i X Y t u hX ht;split at y<;>try (cases y;done)
 rename_i el F r' q' hd hu W Z;split at y<;>try (cases y;done)
 rename_i n b' z' hn hby hz;rw[aK]at y;obtain⟨E,y⟩:=y;simp only[aC,decide_eq_true_eq]at E;obtain⟨⟨hb0,hn0⟩,L⟩:=E;obtain⟨zs,T,J,hzd⟩:=kj hz;have ea:cl.args= #[X,Y]:=by apply eI;simpa using hX
 have et:cl.argTypes= #[t,u]:=by apply eI;simpa using ht
 have I:=gq (a:=a) ho hb _ rfl;rw[ea,et]at I;have em: #[X,Y].map a.eval= #[a.eval X,a.eval Y]:=by simp
 rw[em]at I
 have key:z'=z/\b'=by_/\r'=q/\q'=r/\(so= .app z by_ q r->(∃Q,F= .slice Q)\/F= .string)/\(so= .appM z by_ q r->∃k,F= .int k):=by
  split at y<;>try (cases y;done)
  ·cases y;rcases O with h|h<;>cases h;exact⟨rfl,rfl,rfl,rfl,fun _=> .inl ⟨_,rfl⟩,fun h=>by cases h⟩
  ·rw[aK]at y
   obtain⟨_,y⟩:=y;cases y;rcases O with h|h<;>cases h;exact⟨rfl,rfl,rfl,rfl,fun _=> .inr rfl,fun h=>by cases h⟩
  ·cases y;rcases O with h|h<;>cases h;exact⟨rfl,rfl,rfl,rfl,fun h=>(by cases h),fun _=>⟨_,rfl⟩⟩
 obtain⟨rfl,rfl,rfl,rfl,k1,k2⟩:=key;subst L;exact⟨X,Y,t,u,el,F,zs,⟨I,hd,hu,W,Z,hn,hby,T,J,hzd,hb0,hn0⟩,k1,k2⟩
theorem H6{t:TypeId}{b:Nat}(h:wg P t=some b):∃i,P.info? t=some i/\i.bytes=b:=by
 unfold wg at h;cases hi:P.info? t with
 |none=>simp[hi]at h
 |some i=>simp[hi]at h;exact⟨i,rfl,h⟩
end Go.Sy
namespace Go.Sy
variable [br]
variable {P : Program} {C : Ctx} {x : Sit} {s : St} {a : Act} {w : World} {o : Oper} {so : SOp}
def xtl(C:Ctx)(P:Program)(g:Nat)(vs:LAc)(w:World)(d:LAb)(a:Act)(k:St->Prop):Prop:=
 Calls P g ⟨vs⟩ w fun en w'=>∃v,en= .returned v/\IQ C k (a.put d v) w'
theorem xQ{K:LBb}{Q:LBa}{k:St->Prop}{g:Nat}{vs:LAc}(y:(execOp a.eval o).run P w= .ok (.enter g ⟨vs⟩) w)(h:xtl C P g vs w o.dst a k)
 (hK:∀a w,IQ C k a w->K a w):o.wp P a w K Q:=by
 unfold Oper.wp;rw[y];refine Calls.mono h ?_;rintro en w' ⟨v,rfl,E⟩;exact hK _ _ E
theorem K4{f:Arg}{a_:List Arg}(y:bG P o=some (.call f a_)):∃E F,o.op= .call E/\E.callee= .value F/\bF P 0 F=some f/\kz (fun p=>bF P p.2 p.1) (E.args.toList.zip E.argTypes.toList)=some a_/\E.args.size=E.argTypes.size:=by
 cases ho:o.op with
 |call E=>
  cases hb:E.callee with
  |invoke r m=>simp[bG,ho,hb]at y
  |value F=>
   simp only[bG,ho,hb]at y;split at y<;>try (cases y;done)
   rename_i T O L J;split at y<;>try (cases y;done)
   rename_i I;split at y
   ·split at y
    ·cases y
    ·cases y;exact⟨E,F,rfl,hb,L,J,I⟩
   ·cases y;exact⟨E,F,rfl,hb,L,J,I⟩
  |builtin b=>
   exfalso;cases b<;>simp only[bG,ho,hb,reduceCtorEq]at y
   all_goals
    (first|(cases y;done)|(split at y<;>(first|(cases y;done)|(split at y<;>(first|(cases y;done)|(split at y<;>(first|(cases y;done)|(split at y<;>(first|(cases y;done)|(split at y<;>(first|(cases y;done)|(split at y<;>((cases y;done))))))))))))))
 |pick c X Y=>exfalso;simp only[bG,ho]at y;split at y<;>cases y
 |move X=>exfalso;simp only[bG,ho]at y;obtain⟨_,_,h⟩:=ah.1 y;cases h
 |assign X=>exfalso;simp only[bG,ho]at y;obtain⟨_,_,h⟩:=ah.1 y;cases h
 |box t X=>exfalso;simp only[bG,ho]at y;obtain⟨_,_,h⟩:=ah.1 y;cases h
 |nilCheck X=>exfalso;simp only[bG,ho]at y;obtain⟨_,_,h⟩:=ah.1 y;cases h
 |unOp op t X=>exfalso;simp only[bG,ho]at y;obtain⟨_,_,h⟩:=ah.1 y;cases h
 |extract X i=>exfalso;simp only[bG,ho]at y;obtain⟨_,_,h⟩:=ah.1 y;cases h
 |build t Q=>
  exfalso;simp only[bG,ho]at y;split at y<;>try (cases y;done)
  ·split at y<;>try (cases y;done)
   obtain⟨_,_,h⟩:=ah.1 y;cases h
  ·split at y<;>try (cases y;done)
   obtain⟨_,_,h⟩:=ah.1 y;cases h
 |buildSlice t n Q=>
  exfalso;simp only[bG,ho]at y;split at y<;>try (cases y;done)
  split at y<;>try (cases y;done)
  split at y<;>try (cases y;done)
  obtain⟨_,_,h⟩:=ah.1 y;split at h<;>cases h
 |makeFunc f X Y=>exfalso;cases f<;>simp only[bG,ho,reduceCtorEq]at y;split at y<;>cases y
 |alloc t=>exfalso;simp only[bG,ho]at y;first|(cases y;done)|(split at y<;>(first|(cases y;done)|(split at y<;>(first|(cases y;done)|(split at y<;>(first|(cases y;done)|(split at y<;>(first|(cases y;done)|(split at y<;>(first|(cases y;done)|(split at y<;>((cases y;done)))))))))))))
 |load t X=>exfalso;simp only[bG,ho]at y;first|(cases y;done)|(split at y<;>(first|(cases y;done)|(split at y<;>(first|(cases y;done)|(split at y<;>(first|(cases y;done)|(split at y<;>(first|(cases y;done)|(split at y<;>(first|(cases y;done)|(split at y<;>((cases y;done)))))))))))))
 |store t X Y=>exfalso;simp only[bG,ho]at y;first|(cases y;done)|(split at y<;>(first|(cases y;done)|(split at y<;>(first|(cases y;done)|(split at y<;>(first|(cases y;done)|(split at y<;>(first|(cases y;done)|(split at y<;>(first|(cases y;done)|(split at y<;>((cases y;done)))))))))))))
 |binOp op t X Y u=>exfalso;simp only[bG,ho]at y;first|(cases y;done)|(split at y<;>(first|(cases y;done)|(split at y<;>(first|(cases y;done)|(split at y<;>(first|(cases y;done)|(split at y<;>(first|(cases y;done)|(split at y<;>(first|(cases y;done)|(split at y<;>((cases y;done)))))))))))))
 |convert t u X=>exfalso;simp only[bG,ho]at y;first|(cases y;done)|(split at y<;>(first|(cases y;done)|(split at y<;>(first|(cases y;done)|(split at y<;>(first|(cases y;done)|(split at y<;>(first|(cases y;done)|(split at y<;>(first|(cases y;done)|(split at y<;>((cases y;done)))))))))))))
 |makeSlice t X Y=>exfalso;simp only[bG,ho]at y;first|(cases y;done)|(split at y<;>(first|(cases y;done)|(split at y<;>(first|(cases y;done)|(split at y<;>(first|(cases y;done)|(split at y<;>(first|(cases y;done)|(split at y<;>(first|(cases y;done)|(split at y<;>((cases y;done)))))))))))))
 |slice t X lo hi W=>exfalso;simp only[bG,ho]at y;first|(cases y;done)|(split at y<;>(first|(cases y;done)|(split at y<;>(first|(cases y;done)|(split at y<;>(first|(cases y;done)|(split at y<;>(first|(cases y;done)|(split at y<;>(first|(cases y;done)|(split at y<;>((cases y;done)))))))))))))
 |fieldAddr t X i=>exfalso;simp only[bG,ho]at y;first|(cases y;done)|(split at y<;>(first|(cases y;done)|(split at y<;>(first|(cases y;done)|(split at y<;>(first|(cases y;done)|(split at y<;>(first|(cases y;done)|(split at y<;>(first|(cases y;done)|(split at y<;>((cases y;done)))))))))))))
 |field t X i=>exfalso;simp only[bG,ho]at y;first|(cases y;done)|(split at y<;>(first|(cases y;done)|(split at y<;>(first|(cases y;done)|(split at y<;>(first|(cases y;done)|(split at y<;>(first|(cases y;done)|(split at y<;>(first|(cases y;done)|(split at y<;>((cases y;done)))))))))))))
 |indexAddr t X i=>exfalso;simp only[bG,ho]at y;first|(cases y;done)|(split at y<;>(first|(cases y;done)|(split at y<;>(first|(cases y;done)|(split at y<;>(first|(cases y;done)|(split at y<;>(first|(cases y;done)|(split at y<;>(first|(cases y;done)|(split at y<;>((cases y;done)))))))))))))
 |index t X i=>exfalso;simp only[bG,ho]at y;first|(cases y;done)|(split at y<;>(first|(cases y;done)|(split at y<;>(first|(cases y;done)|(split at y<;>(first|(cases y;done)|(split at y<;>(first|(cases y;done)|(split at y<;>(first|(cases y;done)|(split at y<;>((cases y;done)))))))))))))
 |_=>simp[bG,ho]at y
theorem Kb{c q r:Arg}(y:bG P o=some (.pick c q r)):∃X Y Z,o.op= .pick X Y Z/\bF P 0 X=some c/\bF P o.type Y=some q/\bF P o.type Z=some r:=by
 cases ho:o.op with
 |pick X Y Z=>
  simp only[bG,ho]at y;split at y<;>try (cases y;done)
  rename_i T Q a3 L I E;simp only[ax.injEq,SOp.pick.injEq]at y;obtain⟨rfl,rfl,rfl⟩:=y;exact⟨X,Y,Z,rfl,L,I,E⟩
 |call O=>
  exfalso;cases hb:O.callee with
  |invoke r m=>simp[bG,ho,hb]at y
  |value F=>simp only[bG,ho,hb]at y;first|(cases y;done)|(split at y<;>(first|(cases y;done)|(split at y<;>(first|(cases y;done)|(split at y<;>(first|(cases y;done)|(split at y<;>(first|(cases y;done)|(split at y<;>(first|(cases y;done)|(split at y<;>((cases y;done)))))))))))))
  |builtin b=>
   cases b<;>simp only[bG,ho,hb,reduceCtorEq]at y
   all_goals
    (first|(cases y;done)|(split at y<;>(first|(cases y;done)|(split at y<;>(first|(cases y;done)|(split at y<;>(first|(cases y;done)|(split at y<;>(first|(cases y;done)|(split at y<;>(first|(cases y;done)|(split at y<;>((cases y;done))))))))))))))
 |move X=>exfalso;simp only[bG,ho]at y;obtain⟨_,_,h⟩:=ah.1 y;cases h
 |assign X=>exfalso;simp only[bG,ho]at y;obtain⟨_,_,h⟩:=ah.1 y;cases h
 |box t X=>exfalso;simp only[bG,ho]at y;obtain⟨_,_,h⟩:=ah.1 y;cases h
 |nilCheck X=>exfalso;simp only[bG,ho]at y;obtain⟨_,_,h⟩:=ah.1 y;cases h
 |unOp op t X=>exfalso;simp only[bG,ho]at y;obtain⟨_,_,h⟩:=ah.1 y;cases h
 |extract X i=>exfalso;simp only[bG,ho]at y;obtain⟨_,_,h⟩:=ah.1 y;cases h
 |build t J=>
  exfalso;simp only[bG,ho]at y;split at y<;>try (cases y;done)
  ·split at y<;>try (cases y;done)
   obtain⟨_,_,h⟩:=ah.1 y;cases h
  ·split at y<;>try (cases y;done)
   obtain⟨_,_,h⟩:=ah.1 y;cases h
 |buildSlice t n J=>
  exfalso;simp only[bG,ho]at y;split at y<;>try (cases y;done)
  split at y<;>try (cases y;done)
  split at y<;>try (cases y;done)
  obtain⟨_,_,h⟩:=ah.1 y;split at h<;>cases h
 |makeFunc f X Y=>exfalso;cases f<;>simp only[bG,ho,reduceCtorEq]at y;split at y<;>cases y
 |alloc t=>exfalso;simp only[bG,ho]at y;first|(cases y;done)|(split at y<;>(first|(cases y;done)|(split at y<;>(first|(cases y;done)|(split at y<;>(first|(cases y;done)|(split at y<;>(first|(cases y;done)|(split at y<;>(first|(cases y;done)|(split at y<;>((cases y;done)))))))))))))
 |load t X=>exfalso;simp only[bG,ho]at y;first|(cases y;done)|(split at y<;>(first|(cases y;done)|(split at y<;>(first|(cases y;done)|(split at y<;>(first|(cases y;done)|(split at y<;>(first|(cases y;done)|(split at y<;>(first|(cases y;done)|(split at y<;>((cases y;done)))))))))))))
 |store t X Y=>exfalso;simp only[bG,ho]at y;first|(cases y;done)|(split at y<;>(first|(cases y;done)|(split at y<;>(first|(cases y;done)|(split at y<;>(first|(cases y;done)|(split at y<;>(first|(cases y;done)|(split at y<;>(first|(cases y;done)|(split at y<;>((cases y;done)))))))))))))
 |binOp op t X Y u=>exfalso;simp only[bG,ho]at y;first|(cases y;done)|(split at y<;>(first|(cases y;done)|(split at y<;>(first|(cases y;done)|(split at y<;>(first|(cases y;done)|(split at y<;>(first|(cases y;done)|(split at y<;>(first|(cases y;done)|(split at y<;>((cases y;done)))))))))))))
 |convert t u X=>exfalso;simp only[bG,ho]at y;first|(cases y;done)|(split at y<;>(first|(cases y;done)|(split at y<;>(first|(cases y;done)|(split at y<;>(first|(cases y;done)|(split at y<;>(first|(cases y;done)|(split at y<;>(first|(cases y;done)|(split at y<;>((cases y;done)))))))))))))
 |makeSlice t X Y=>exfalso;simp only[bG,ho]at y;first|(cases y;done)|(split at y<;>(first|(cases y;done)|(split at y<;>(first|(cases y;done)|(split at y<;>(first|(cases y;done)|(split at y<;>(first|(cases y;done)|(split at y<;>(first|(cases y;done)|(split at y<;>((cases y;done)))))))))))))
 |slice t X lo hi W=>exfalso;simp only[bG,ho]at y;first|(cases y;done)|(split at y<;>(first|(cases y;done)|(split at y<;>(first|(cases y;done)|(split at y<;>(first|(cases y;done)|(split at y<;>(first|(cases y;done)|(split at y<;>(first|(cases y;done)|(split at y<;>((cases y;done)))))))))))))
 |fieldAddr t X i=>exfalso;simp only[bG,ho]at y;first|(cases y;done)|(split at y<;>(first|(cases y;done)|(split at y<;>(first|(cases y;done)|(split at y<;>(first|(cases y;done)|(split at y<;>(first|(cases y;done)|(split at y<;>(first|(cases y;done)|(split at y<;>((cases y;done)))))))))))))
 |field t X i=>exfalso;simp only[bG,ho]at y;first|(cases y;done)|(split at y<;>(first|(cases y;done)|(split at y<;>(first|(cases y;done)|(split at y<;>(first|(cases y;done)|(split at y<;>(first|(cases y;done)|(split at y<;>(first|(cases y;done)|(split at y<;>((cases y;done)))))))))))))
 |indexAddr t X i=>exfalso;simp only[bG,ho]at y;first|(cases y;done)|(split at y<;>(first|(cases y;done)|(split at y<;>(first|(cases y;done)|(split at y<;>(first|(cases y;done)|(split at y<;>(first|(cases y;done)|(split at y<;>(first|(cases y;done)|(split at y<;>((cases y;done)))))))))))))
 |index t X i=>exfalso;simp only[bG,ho]at y;first|(cases y;done)|(split at y<;>(first|(cases y;done)|(split at y<;>(first|(cases y;done)|(split at y<;>(first|(cases y;done)|(split at y<;>(first|(cases y;done)|(split at y<;>(first|(cases y;done)|(split at y<;>((cases y;done)))))))))))))
 |_=>simp[bG,ho]at y
theorem HW(hM:aR C x s a w){c q r:Arg}(J:bG P o=some (.pick c q r)){t:Bool}(E:s.ev c= .bool t):cA P C o a w (s.put o.dst (if t then s.ev q else s.ev r)):=by
 obtain⟨X,Y,Z,L,F,I,y⟩:=Kb J;have h:=aP hM F;rw[E]at h;refine cA.val hM (m:=do pure (if<-asBool (a.eval X)then a.eval Y else a.eval Z)) (u:=if t then a.eval Y else a.eval Z) (by simp only[execOp,L];simp) ?_ ?_
 ·rw[h.bool_inv];rfl
 ·cases t
  ·exact aP hM y
  ·exact aP hM I
theorem xao(hM:aR C x s a w)(E:bG P o=some so){e:Eff}(I:eff s o.dst so=some e)(y:e.pre):cA P C o a w (s.app o.dst e):=by
 by_cases F:∃q r,so= .ovl q r
 ·obtain⟨q,r,rfl⟩:=F
  exact KT hM E I y
 ·exact HT hM E (fun q r h=>F ⟨q,r,h⟩) I y
end Go.Sy
namespace Go.Sy
variable [br]
variable {P : Program} {C : Ctx} {x : Sit} {s : St} {a : Act} {w : World}
theorem KL(hM:aR C x s a w){g:Nat}{t:Bool}(h:s.get g= .bool t):g<s.tm.length/\a.tmps[g]? =some (.bool t)/\s.tm[g]? =some (.bool t):=by
 have y:g<s.tm.length:=by
  rcases bK g s.tm.length with E|E
  ·exact E
  ·unfold St.get at h;rw[aa,ia E]at h;cases h
 have J:s.tm[g]? =some (.bool t):=by unfold St.get at h;rw[aa,ac y]at h;rw[ac y];exact congrArg some h
 have F:=hM.slot g;rw[h]at F;have L:=F.bool_inv;have I:g<a.tmps.size:=by rw[<-aU,<-hM.tm.1];exact y
 refine⟨y, ?_,J⟩;rw[cy I];have:a.tmps.getD g undef=a.tmps[g]:=by simp[lj,I]
 rw[<-this,L]
def tG(P:Program)(o:Oper)(so:SOp):Prop:=bG P o=some so\/∃h,so= .newB h/\bG P o=some (.litB h)
theorem tG.fresh{ops:Array Oper}{o:Oper}{so:SOp}(d:LAb)(h:bG P o=some so):tG P o (pC ops d so):=by
 rcases HM ops d so with e|⟨xs,e1,e2⟩
 ·rw[e];exact .inl h
 ·rw[e2];exact .inr ⟨xs,rfl,e1 ▸ h⟩
theorem tG.old{o:Oper}{so:SOp}(h:tG P o so)(hn:∀y,so≠ .newB y):bG P o=some so:=by
 rcases h with h|⟨y,e,_⟩
 ·exact h
 ·exact absurd e (hn y)
theorem lS{ops:Array Oper}{o:Oper}{i:SI}(h:gT P ops o=some i):tG P o i.op/\i.dst=o.dst/\(i.g=none/\o.guard=none\/∃j b g,i.g=some (g,b)/\o.guard=some (j,b)/\(ops[j]?).bind (·.dst)=some g):=by
 unfold gT at h;split at h<;>try (cases h;done)
 ·rename_i so y E;cases h;exact⟨.fresh _ y,rfl,.inl ⟨rfl,E⟩⟩
 ·rename_i so j b y E
  split at h<;>try (cases h;done)
  rename_i g F;cases h;exact⟨.fresh _ y,rfl,.inr ⟨j,b,g,rfl,E,F⟩⟩
theorem lk{ops:Array Oper}{o:Oper}(h:o.guard=none):Region.wanted o (yielded ops a.tmps)=true:=by simp[Region.wanted,h]
theorem xR{ops:Array Oper}{o:Oper}{j g:Nat}{b t:Bool}(h:o.guard=some (j,b))(E:(ops[j]?).bind (·.dst)=some g)(y:a.tmps[g]? =some (.bool t)):Region.wanted o (yielded ops a.tmps)=(t==b):=by simp only[Region.wanted,h,yielded,E,dl,y];cases t<;>cases b<;>rfl
end Go.Sy
namespace Go.Sy
variable [br]
variable {P : Program} {C : Ctx} {x : Sit} {s : St} {a : Act} {w : World}
mutual
theorem AN{n:Nat}:∀v:SV,n∉v.ids->n∉v.toks->v.purge n (n+1)=v
 | .byt l t,_,h=>by
  cases t with
  |id t=>simp only[SV.toks,bj]at h;simp only[SV.purge,Tok.purge];rw[if_neg (by omega)]
  |_=>rfl
 | .lst sz xs t,_,h=>by
  cases t with
  |id t=>simp only[SV.toks,bj]at h;simp only[SV.purge,Tok.purge];rw[if_neg (by omega)]
  |_=>rfl
 | .ptr o off,h,_=>by simp only[SV.ids,bj]at h;simp only[SV.purge];rw[if_neg (by omega)]
 | .ap o sz i j,h,_=>by simp only[SV.ids,bj]at h;simp only[SV.purge];rw[if_neg (by omega)]
 | .psl o sz off k cap,h,_=>by simp only[SV.ids,bj]at h;simp only[SV.purge];rw[if_neg (by omega)]
 | .agg cs,h,k=>by simp only[SV.ids,SV.toks]at h k;simp only[SV.purge];rw[ig cs h k]
 | .tup cs,h,k=>by simp only[SV.ids,SV.toks]at h k;simp only[SV.purge];rw[ig cs h k]
 | .fn f p q,h,k=>by simp only[SV.ids,SV.toks,am,not_or]at h k;simp only[SV.purge];rw[ig p h.1 k.1,ig q h.2 k.2]
 | .undef,_,_=>rfl
 | .bool _,_,_=>rfl
 | .int _ _,_,_=>rfl
 | .u8 _,_,_=>rfl
 | .str _,_,_=>rfl
 | .nilp,_,_=>rfl
 | .nili,_,_=>rfl
 | .pp _,_,_=>rfl
theorem ig{n:Nat}:∀l:t8,n∉SV.idsL l->n∉SV.toksL l->SV.purgeL n (n+1) l=l
 |[],_,_=>rfl
 |v::r,h,k=>by simp only[SV.idsL,SV.toksL,am,not_or]at h k;simp only[SV.purgeL];rw[AN v h.1 k.1,ig r h.2 k.2]
end
end Go.Sy
namespace Go.Sy
variable [br]
variable {P : Program} {C : Ctx} {x : Sit} {s s' : St} {a : Act} {w : World}
end Go.Sy
namespace Go.Sy
variable [br]
variable {P : Program} {C : Ctx} {x : Sit} {s s' : St} {a : Act} {w : World}
structure Itm where
 n:Nat
 i:SI
 o:Option Eff
 f:rz
end Go.Sy
namespace Go.Sy
variable [br]
variable {P : Program} {C : Ctx} {x : Sit} {s : St} {a : Act} {w : World}
theorem aR.purge(hM:aR C x s a w)(lo hi:Nat):aR C x (s.purge lo hi) a w:=by
 have y:=hM.heap;refine⟨hM.tm.mono (fun _ _ _ h=>h) (fun _ _=>rfl) (fun _ _=>rfl),hM.defers,⟨y.per,y.g0,y.gm,y.new, ?_, ?_, ?_, ?_, ?_, ?_,y.os,y.tape,y.output,y.size,y.ext,y.pin,y.lay⟩⟩
 ·intro p I
  obtain⟨T,o,E,J⟩:=cG I;obtain⟨O,Q⟩:=y.obs _ E;refine⟨?_,Q⟩;rw[J];exact O.of_heap rfl (fun _ _ _ h=>h) (fun _ _=>rfl) (fun _ _=>rfl) T
 ·show((bP lo hi s.ob).map cS).Nodup
  rw[fy];exact y.nd.filter _
 ·intro p I q L
  obtain⟨_,o,E,_⟩:=cG I;obtain⟨_,W,J,_⟩:=cG L;exact y.inj (p.1,o) E (q.1,W) J
 ·intro t F;exact y.tks t (bU.1 F).1
 ·intro t F p I
  obtain⟨_,o,E,_⟩:=cG I;exact y.tko t (bU.1 F).1 (p.1,o) E
 ·intro t F u hu;exact y.tkd t (bU.1 F).1 u (bU.1 hu).1
theorem AW{ob:List (Nat×aH)}(h:(ob.map cS).Nodup){p:Nat×aH}(y:p∈ob):ob.lookup p.1=some p.2:=by
 induction ob with
 |nil=>cases y
 |cons q r E=>
  simp only[aI,eB]at h;rcases av.1 y with rfl|y
  ·simp[List.lookup]
  ·have:(p.1==q.1)=false:=by
    rw[beq_eq_false_iff_ne];intro e;apply h.1;rw[<-e];exact jf y
   simp only[List.lookup,this];exact E h.2 y
section
variable {ops : Array Oper} {l : List SI} {its : List Itm} {b : List Nat}
def left(its:List Itm)(listed:Array Bool):List Itm:=its.filter fun h=> !listed.getD h.n true
theorem sZ{listed:Array Bool}{i:Nat}(hi:i<listed.size):(listed.setIfInBounds i true).getD i true=true:=by simp[lj,hi]
theorem iw{listed:Array Bool}{i j:Nat}(hi:i<listed.size):(listed.setIfInBounds i true).getD j true=if j=i then true else listed.getD j true:=by
 by_cases h:j=i
 ·subst h;rw[if_pos rfl];exact sZ hi
 ·rw[if_neg h,getD_set_ne true (fun e=>h e.symm)]
end
end Go.Sy
