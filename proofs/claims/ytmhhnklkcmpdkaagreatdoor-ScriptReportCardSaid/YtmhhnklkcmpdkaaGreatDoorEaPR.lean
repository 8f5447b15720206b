/- A sound engine for Go code. No condition. -/
import Derived.WalkKit
import Derived.ChangeKeysEq
import Derived.Laws.StructEq
import Derived.Laws.Externs
import Derived.Orders
open Array renaming ext' -> jQ, getD -> lU, getD_eq_getD_getElem? -> bT, getElem?_eq_getElem -> iK, getElem?_modify -> dz, getElem?_toList -> dy, length_toList -> bf, replicate -> eE
open Bool renaming and_eq_true -> aE, eq_iff_iff -> fm, false_eq_true -> aP, not_eq_true' -> dE, not_true -> vq
open Go.Instr renaming buildSlice -> eT
open Int renaming tmod_eq_emod_of_nonneg -> fN, toNat_natCast -> eS
open Go.IntKind renaming bits -> ll, i64 -> ah, signed -> iW, u8 -> gQ, wrap -> ou
open List renaming Nodup -> Bm, Pairwise -> gx, Sublist -> qE, all_eq_true -> aZ, append_assoc -> aI, append_nil -> bO, drop_eq_nil_of_le -> ez, drop_take -> Kd, drop_zero -> bw, filter_cons -> fb, flatMap_cons -> cA, flatten_cons -> ly, foldl_cons -> kf, getD_cons_succ -> cZ, getD_cons_zero -> gD, getD_eq_getElem?_getD -> aa, getElem?_append_left -> cn, getElem?_append_right -> cO, getElem?_drop -> bH, getElem?_eq_getElem -> ac, getElem?_eq_none -> fI, getElem?_map -> aR, getElem?_range -> cN, getElem?_set -> lx, getElem?_take -> bZ, getElem?_toArray -> lZ, getElem_cons_zero -> cu, getElem_mem -> aF, getElem_of_mem -> cr, length -> uZ, length_append -> af, length_cons -> ai, length_drop -> aQ, length_eq_zero_iff -> cD, length_map -> av, length_nil -> al, length_replicate -> cC, length_set -> bM, length_singleton -> aT, length_take -> aw, map_append -> b9, map_cons -> ax, map_nil -> aK, map_take -> gw, mem_append -> am, mem_cons -> aq, mem_cons_of_mem -> an, mem_cons_self -> aD, mem_map -> aS, mem_map_of_mem -> co, mem_of_mem_drop -> ny, mem_of_mem_take -> cg, mem_range -> gO, nil_append -> aA, nodup_cons -> fT, pairwise_iff_getElem -> rx, pairwise_map -> iu, range -> bQ, range' -> uY, replicate -> aB, take_length -> cG, take_of_length_le -> bp
open Nat renaming add_assoc -> gP, add_mul -> bW, add_zero -> fJ, eq_zero_or_pos -> ip, le_refl -> aM, le_trans -> fi, lt_or_ge -> bq, min_eq_left -> rp, mod_eq_of_lt -> ek, mul_comm -> dr, mul_le_mul_right -> cm, mul_one -> gI, succ_mul -> eX, zero_add -> de, zero_le -> aC
open Go.Op renaming bytesLess -> dw, intCmp -> ui
open Option renaming bind_some -> dm, getD_some -> bn, ite_none_right_eq_some -> bg, map_eq_some_iff -> aj, map_some -> bz, some -> ay
open Prod renaming fst -> cV, mk -> bA
open Go.Result renaming andThen_ok -> ao
open Go.Sem renaming run_bind -> aH, run_pure -> aU
open UInt8 renaming ofInt -> aO, ofNat -> eL
set_option linter.unusedVariables false
set_option linter.unusedSimpArgs false
set_option linter.unnecessarySimpa false
set_option linter.unusedSectionVars false
namespace Go.Sy
abbrev t8:=List UInt8
abbrev LAb:=List Nat
abbrev LAc:=Option Nat
abbrev LAd:=List Value
abbrev LAe:=Array Value
abbrev LBb:=Exit->Act->World->Prop
abbrev LBc:=Act->World->Prop
inductive Tok where
 |no
 |clip
 |id (t:Nat)
 deriving DecidableEq
inductive SV where
 |undef
 |bool (b:Bool)
 |int (k:IntKind) (n:Int)
 |u8 (b:UInt8)
 |str (l:List UInt8)
 |byt (l:List UInt8) (t:Tok)
 |lst (sz:Nat) (xs:List (List SV)) (t:Tok)
 |nilp
 |nili
 |ife
 |pp (cs:List SV)
 |ptr (o off:Nat)
 |ap (o sz i j:Nat)
 |psl (o sz off n:Nat) (cap:Option Nat)
 |agg (cs:List SV)
 |tup (vs:List SV)
 |fn (f:Nat) (first cap:List SV)
 deriving Inhabited
abbrev LAa:=List SV
abbrev f9:=List (List SV)
inductive aG where
 |rc (cs:List SV)
 |arr (sz:Nat) (xs:List (List SV))
 |bar (l:List UInt8)
def aG.size:aG->Nat
 | .rc cs=>cs.length
 | .arr sz y=>y.length*sz
 | .bar l=>l.length
def aG.cell:aG->Nat->SV
 | .rc cs,k=>cs.getD k .undef
 | .arr sz xs,k=>(xs.getD (k/sz) []).getD (k % sz) .undef
 | .bar l,k=> .u8 (l.getD k 0)
def aG.arrB:aG->Bool
 | .arr _ _=>true
 |_=>false
abbrev GM:=Nat->Nat->Option Value
structure Sit where
 G:GM
 bk:Nat->Nat×Nat
 τ:Nat->Nat×Nat×Nat
inductive bU(G:GM):SV->Value->Prop
 |bool (b:Bool):bU G (.bool b) (.bool b)
 |int (k:IntKind) (n:Int):bU G (.int k n) (.int k n)
 |u8 (b:UInt8):bU G (.u8 b) (.int .u8 b.toNat)
 |str (l:List UInt8):bU G (.str l) (.string ⟨⟨l⟩⟩)
 |nilp:bU G .nilp (.pointer none)
 |nili:bU G .nili .nilIface
 |ife (t:TypeId) (v:Value):bU G .ife (.iface t v)
 |bytN (t:Tok):bU G (.byt [] t) (.slice none 0 0)
 |bytE (t:Tok) (a:Addr):bU G (.byt [] t) (.slice (some a) 0 0)
 |byt (l:List UInt8) (t:Tok) (b off cap n:Nat) (hn:n=l.length) (hc:n<=cap)
  (h:∀i,i<n->G b (off+i)=some (.int .u8 (l.getD i 0).toNat)):bU G (.byt l t) (.slice (some ⟨b,off,none⟩) n cap)
 |lstN (sz:Nat) (t:Tok):bU G (.lst sz [] t) (.slice none 0 0)
 |lstE (sz:Nat) (t:Tok) (a:Addr):bU G (.lst sz [] t) (.slice (some a) 0 0)
 |lst (sz:Nat) (xs:List (List SV)) (t:Tok) (b off cap n:Nat) (val:Nat->Nat->Value) (hn:n=xs.length) (hc:n<=cap)
  (hl:∀i,i<n->(xs.getD i []).length=sz)
  (hg:∀i j,i<n->j<sz->G b (off+i*sz+j)=some (val i j))
  (h:∀i j,i<n->j<sz->bU G ((xs.getD i []).getD j .undef) (val i j)):bU G (.lst sz xs t) (.slice (some ⟨b,off,none⟩) n cap)
 |pp (cs:List SV) (b off:Nat) (val:Nat->Value) (hg:∀j,j<cs.length->G b (off+j)=some (val j))
  (h:∀j,j<cs.length->bU G (cs.getD j .undef) (val j)):bU G (.pp cs) (.pointer (some ⟨b,off,none⟩))
class bl where
 cells:Nat->Option (List SV)
variable [bl]
def Lay(G:GM):Prop:=∀g cs,bl.cells g=some cs->∀j,j<cs.length->∃v,G g j=some v/\bU G (cs.getD j .undef) v
def dX(x:Sit)(sz:Nat)(t:Tok)(v:Value):Prop:=
 match t with
 | .no=>True
 | .clip=>∃a n,v= .slice a n n
 | .id t=>∃a n cap,v= .slice a n cap/\(cap=n\/∃b off,a=some ⟨b,off,none⟩/\x.τ t=(b,off+n*sz,off+cap*sz))
def ND(x:Sit):SV->Value->Prop
 | .byt _ t,v=>dX x 1 t v
 | .lst sz _ t,v=>dX x sz t v
 |_,_=>True
inductive Rep(x:Sit):SV->Value->Prop
 |undef (v:Value):Rep x .undef v
 |dat (s:SV) (v:Value) (h:bU x.G s v) (ht:ND x s v):Rep x s v
 |ptr (o off:Nat):Rep x (.ptr o off) (.pointer (some ⟨(x.bk o).1,off,none⟩))
 |ap (o sz i j:Nat):Rep x (.ap o sz i j) (.pointer (some ⟨(x.bk o).1,i*sz+j,none⟩))
 |psl (o sz off n:Nat) (cap:Option Nat) (off' cap':Nat) (h:cap'=0\/off'=off*sz) (hn:n<=cap') (hc:∀c,cap=some c->c=cap') (hk:cap=none->cap'=0\/off'+cap'*sz<=(x.bk o).2):Rep x (.psl o sz off n cap) (.slice (some ⟨(x.bk o).1,off',none⟩) n cap')
 |agg (cs:List SV) (vs:List Value) (hl:cs.length=vs.length) (h:∀i,i<cs.length->Rep x (cs.getD i .undef) (vs.getD i undef)):Rep x (.agg cs) (.agg ⟨vs⟩)
 |tup (cs:List SV) (vs:List Value) (hl:cs.length=vs.length) (h:∀i,i<cs.length->Rep x (cs.getD i .undef) (vs.getD i undef)):Rep x (.tup cs) (.tuple ⟨vs⟩)
 |fn (f:Nat) (c1 c2:List SV) (v1 v2:List Value) (hl1:c1.length=v1.length) (h1:∀i,i<c1.length->Rep x (c1.getD i .undef) (v1.getD i undef))
  (hl2:c2.length=v2.length) (h2:∀i,i<c2.length->Rep x (c2.getD i .undef) (v2.getD i undef)):Rep x (.fn f c1 c2) (.func (.func f) ⟨v1⟩ ⟨v2⟩)
def cB(x:Sit)(cs:LAa)(vs:LAd):Prop:=cs.length=vs.length/\∀i,i<cs.length->Rep x (cs.getD i .undef) (vs.getD i undef)
structure St where
 tm:List SV
 ob:List (Nat×aG)
 tk:List Nat
structure Ctx where
 w0:World
 G0:GM
 mine:Nat->Prop
 β0:Nat->Nat×Nat
def gf(w:World)(b:Nat)(c:LAe)(e:TypeId)(fl fh:Nat):Prop:=
 w.heap[b]? =some (.cells c e (fl,fh))/\∀i,i<c.size->¬(fl<=i/\i<fh)
def cQ(x:Sit)(y:aG)(k:Nat)(v:Value):Prop:=
 match y with
 | .rc cs=>Rep x (cs.getD k .undef) v
 |y=>bU x.G (y.cell k) v
def fa(x:Sit)(w:World)(o:Nat)(y:aG):Prop:=
 ∃c e fl fh,gf w ((x.bk o).1) c e fl fh/\(y.size<=c.size/\(x.bk o).2<=c.size/\(y.arrB=true->¬(fl<=c.size/\c.size<fh)))/\∀k,k<y.size->cQ x y k (c.getD k undef)
def jh(x:Sit)(w:World)(mine:Nat->Prop)(t:Nat):Prop:=
 (x.τ t).2.1=(x.τ t).2.2\/
 ((∃c e fl fh,gf w (x.τ t).1 c e fl fh/\(x.τ t).2.2<=c.size)/\mine (x.τ t).1/\∀o,(x.τ t).2.1<=o->o<(x.τ t).2.2->x.G (x.τ t).1 o=none)
def nv(p q:Nat×Nat×Nat):Prop:=p.1≠q.1
structure dA(C:Ctx)(x:Sit)(ob:List (Nat×aG))(tk:List Nat)(w:World):Prop where
 per:∀b o v,x.G b o=some v->w.cell? ⟨b,o,none⟩=some v
 g0:∀b o v,C.G0 b o=some v->x.G b o=some v
 gm:∀b o v,x.G b o=some v->C.G0 b o=some v\/C.mine b
 new:∀b,C.w0.heap.size<=b->C.mine b
 obs:∀p∈ob,fa x w p.1 p.2/\C.mine ((x.bk p.1).1)/\∀off,x.G ((x.bk p.1).1) off=none
 nd:(ob.map cV).Nodup
 inj:∀p∈ob,∀q∈ob,(x.bk p.1).1=(x.bk q.1).1->p.1=q.1
 tks:∀t∈tk,jh x w C.mine t
 tko:∀t∈tk,∀p∈ob,(x.τ t).1≠(x.bk p.1).1\/(x.τ t).2.1=(x.τ t).2.2
 tkd:∀t∈tk,∀u∈tk,t≠u->nv (x.τ t) (x.τ u)\/(x.τ t).2.1=(x.τ t).2.2\/(x.τ u).2.1=(x.τ u).2.2
 os:w.os=C.w0.os
 tape:w.tape=C.w0.tape
 output:w.output=C.w0.output
 size:C.w0.heap.size<=w.heap.size
 ext:∀b,¬C.mine b->w.heap[b]? =C.w0.heap[b]?
 pin:∀i,i<100->x.bk i=C.β0 i
 lay:Lay C.G0
structure aY(C:Ctx)(x:Sit)(s:St)(a:Act)(w:World):Prop where
 tm:cB x s.tm a.tmps.toList
 defers:a.defers=[]
 heap:dA C x s.ob s.tk w
inductive Arg where
 |t (n:Nat)
 |c (v:SV)
 |f (g:Nat)
inductive SOp where
 |mov (x:Arg)
 |pick (c a b:Arg)
 |new (o:aG)
 |box (x:Arg)
 |build (z:List SV) (ps:List (Nat×Nat×Arg))
 |lit (sz:Nat) (xs:List Arg)
 |litB (xs:List Arg)
 |load (n:Nat) (ag:Bool) (a:Arg)
 |store (n:Nat) (a x:Arg)
 |nchk (x:Arg)
 |bin (op:BinOp) (x y:Arg)
 |un (op:UnOp) (x:Arg)
 |toInt (k:IntKind) (x:Arg)
 |s2b (x:Arg)
 |b2s (x:Arg)
 |mkfn (f:Nat) (first cap:List Arg)
 |mk (z:List SV) (bytes:Nat) (len cap:Arg)
 |mkB (len cap:Arg)
 |slcS (x:Arg) (lo hi:Option Arg)
 |slcL (sz:Nat) (x:Arg) (lo hi mx:Option Arg)
 |faddr (off:Nat) (x:Arg)
 |iaddrL (sz:Nat) (x i:Arg)
 |iaddrA (len sz:Nat) (x i:Arg)
 |idxA (len sz:Nat) (ag:Bool) (x i:Arg)
 |idxS (x i:Arg)
 |ext (x:Arg) (i:Nat)
 |len (str:Bool) (x:Arg)
 |app (z:List SV) (bytes:Nat) (x y:Arg)
 |eqS (ne:Bool) (ts:List Nat) (x y:Arg)
 |isni (ne:Bool) (x:Arg)
 |slid (x:Arg)
 |newB (xs:List Arg)
 |cpy (sz:Nat) (x y:Arg)
 |mini (x y:Arg)
 |maxi (x y:Arg)
 |call (f:Arg) (args:List Arg)
structure SI where
 dst:Option Nat
 g:Option (Nat×Bool)
 op:SOp
abbrev LAf:=List SI
inductive ij where
 |skip
 |ops (l:List SI)
 |drw (b ds:List Nat) (l:List SI)
 |seq (a b:ij)
 |cond (c:Arg) (a b:ij)
 |block (id:Nat) (b:ij)
 |loop (b:ij)
 |exit (id:Nat)
 |ret
 |bad
def St.get(s:St)(n:Nat):SV:=s.tm.getD n .undef
def St.ev(s:St):Arg->SV
 | .t n=>s.get n
 | .c v=>v
 | .f g=> .fn g [] []
def St.put(s:St)(d:LAc)(v:SV):St:=
 match d with
 |some d=> {s with tm:=s.tm.set d v}
 |none=>s
def St.look(s:St)(o:Nat):Option aG:=s.ob.lookup o
def Tok.purge(lo hi:Nat):Tok->Tok
 | .id t=>if lo<=t/\t<hi then .no else .id t
 |t=>t
mutual
def SV.purge(lo hi:Nat):SV->SV
 | .byt l t=> .byt l (t.purge lo hi)
 | .lst sz y t=> .lst sz y (t.purge lo hi)
 | .ptr o off=>if lo<=o/\o<hi then .undef else .ptr o off
 | .ap o sz i j=>if lo<=o/\o<hi then .undef else .ap o sz i j
 | .psl o sz off n cap=>if lo<=o/\o<hi then .undef else .psl o sz off n cap
 | .agg cs=> .agg (SV.purgeL lo hi cs)
 | .tup cs=> .tup (SV.purgeL lo hi cs)
 | .fn f a b=> .fn f (SV.purgeL lo hi a) (SV.purgeL lo hi b)
 |v=>v
def SV.purgeL(lo hi:Nat):LAa->LAa
 |[]=> []
 |v::r=>v.purge lo hi::SV.purgeL lo hi r
end
def aG.purge(lo hi:Nat):aG->aG
 | .rc cs=> .rc (SV.purgeL lo hi cs)
 | .arr sz y=> .arr sz y
 | .bar l=> .bar l
def bV(lo hi:Nat):List (Nat×aG)->List (Nat×aG)
 |[]=> []
 |p::r=>if lo<=p.1/\p.1<hi then bV lo hi r else(p.1,p.2.purge lo hi)::bV lo hi r
def df(lo hi:Nat):LAb->LAb
 |[]=> []
 |t::r=>if lo<=t/\t<hi then df lo hi r else t::df lo hi r
def St.purge(s:St)(lo hi:Nat):St:= {tm:=SV.purgeL lo hi s.tm,ob:=bV lo hi s.ob,tk:=df lo hi s.tk}
def St.addO(s:St)(d:Nat)(o:aG):St:= {s with ob:=(d,o)::s.ob}
def setO(d:Nat)(o:aG):List (Nat×aG)->List (Nat×aG)
 |[]=> []
 |p::r=>if p.1=d then(d,o)::r else p::setO d o r
def St.setO(s:St)(d:Nat)(o:aG):St:= {s with ob:=Sy.setO d o s.ob}
def SV.data:SV->SV
 | .byt l _=> .byt l .no
 | .lst sz y _=> .lst sz y .no
 |v=>v
def SV.isData:SV->Bool
 | .bool _| .int _ _| .u8 _| .str _| .byt _ _| .lst _ _ _| .nilp| .nili| .ife| .pp _=>true
 |_=>false
def SV.cells:SV->LAa
 | .agg cs=>cs
 | .undef=> []
 |v=> [v]
def SV.isDef:SV->Bool
 | .undef=>false
 |_=>true
def P8(op:BinOp)(a b:Int):Option SV:=
 match op with
 | .eql=>some (.bool (decide (a=b)))
 | .neq=>some (.bool (decide (a≠b)))
 | .lss=>some (.bool (decide (a<b)))
 | .leq=>some (.bool (decide (a<=b)))
 | .gtr=>some (.bool (decide (b<a)))
 | .geq=>some (.bool (decide (b<=a)))
 |_=>none
def cy(op:BinOp)(k:IntKind)(x y:Int):Int:=
 let a:=BitVec.ofInt k.bits x
 let b:=BitVec.ofInt k.bits y
 k.wrap (match op with| .and=>a&&&b| .or=>a|||b| .xor=>a^^^b|_=>a&&& ~~~b:BitVec k.bits).toNat
def S1(op:BinOp)(k:IntKind)(a b:Int):Option (Prop×SV):=
 match op with
 | .add=>some (True,.int k (k.wrap (a+b)))
 | .sub=>some (True,.int k (k.wrap (a-b)))
 | .mul=>some (True,.int k (k.wrap (a*b)))
 | .quo=>some (b≠0,.int k (k.wrap (a.tdiv b)))
 | .rem=>some (b≠0,.int k (a.tmod b))
 | .and=>some (True,.int k (cy .and k a b))
 | .or=>some (True,.int k (cy .or k a b))
 | .xor=>some (True,.int k (cy .xor k a b))
 | .andNot=>some (True,.int k (cy .andNot k a b))
 | .shl| .shr=>none
 |op=>(P8 op a b).map fun v=>(True,v)
def JJ(op:BinOp)(a b:UInt8):Option (Prop×SV):=
 match op with
 | .add=>some (True,.u8 (a+b))
 | .sub=>some (True,.u8 (a-b))
 | .mul=>some (True,.u8 (a*b))
 | .quo=>some (b≠0,.u8 (a/b))
 | .rem=>some (b≠0,.u8 (a % b))
 | .and=>some (True,.u8 (a&&&b))
 | .or=>some (True,.u8 (a|||b))
 | .xor=>some (True,.u8 (a^^^b))
 | .andNot=>some (True,.u8 (a&&& ~~~b))
 | .eql=>some (True,.bool (decide (a=b)))
 | .neq=>some (True,.bool (decide (a≠b)))
 | .lss=>some (True,.bool (decide (a<b)))
 | .leq=>some (True,.bool (decide (a<=b)))
 | .gtr=>some (True,.bool (decide (b<a)))
 | .geq=>some (True,.bool (decide (b<=a)))
 |_=>none
def zM(op:BinOp)(k:IntKind)(a b:Int):Option (Prop×SV):=
 match op with
 | .shl=>some (0<=b,.int k (k.wrap (a*2^(min b.toNat k.bits))))
 | .shr=>some (0<=b,.int k (a.fdiv (2^(min b.toNat k.bits))))
 |_=>none
def T5(op:BinOp)(a:UInt8)(b:Int):Option (Prop×SV):=
 match op with
 | .shl=>some (0<=b,.u8 (eL (a.toNat*2^(min b.toNat 8))))
 | .shr=>some (0<=b,.u8 (eL (a.toNat/2^(min b.toNat 8))))
 |_=>none
def Ua(op:BinOp)(a b:t8):Option (Prop×SV):=
 match op with
 | .add=>some (a.length+b.length<=9223372036854775807,.str (a++b))
 | .eql=>some (True,.bool (decide (a=b)))
 | .neq=>some (True,.bool (decide (a≠b)))
 | .lss=>some (True,.bool (dw a b))
 | .leq=>some (True,.bool (dw a b||decide (a=b)))
 | .gtr=>some (True,.bool (!(dw a b||decide (a=b))))
 | .geq=>some (True,.bool (!dw a b))
 |_=>none
def Cy(op:BinOp):SV->SV->Option (Prop×SV)
 | .int k a,.int k' b=>
  match op with
  | .shl=>zM .shl k a b
  | .shr=>zM .shr k a b
  |op=>if k=k' then S1 op k a b else none
 | .u8 a,.int _ b=>T5 op a b
 | .u8 a,.u8 b=>JJ op a b
 | .str a,.str b=>Ua op a b
 |_,_=>none
def Bp(op:UnOp):SV->Option SV
 | .bool b=>match op with| .not=>some (.bool (!b))|_=>none
 | .int k n=>match op with
  | .neg=>some (.int k (k.wrap (0-n)))
  | .xor=>some (.int k (cy .xor k (if k.signed then-1 else k.max) n))
  |_=>none
 |_=>none
def jk(k:IntKind):SV->Option SV
 | .int _ n=>match k with| .u8=>some (.u8 (aO n))|k=>some (.int k (k.wrap n))
 | .u8 b=>match k with| .u8=>some (.u8 b)| .i8=>none|k=>some (.int k b.toNat)
 |_=>none
def lI(b:Bool):SV->LAc
 | .str l=>if b then some l.length else none
 | .byt l _=>if b then none else some l.length
 | .lst _ y _=>if b then none else some y.length
 | .psl _ _ _ n _=>if b then none else some n
 |_=>none
def eN(y:Bool)(n:Nat)(cs:LAa):SV:=if y then .agg (cs.take n)else cs.getD 0 .undef
def jJ(s:St)(n:Nat)(y:Bool):SV->Option (Prop×SV)
 | .pp cs=>some (n<=cs.length,eN y n (cs.map SV.data))
 | .ptr o off=>match s.look o with
  |some (.rc cs)=>some (off+n<=cs.length,eN y n (cs.drop off))
  |some (.arr sz xs)=>if off=0 then some (n<=xs.flatten.length/\(∀x∈xs,x.length=sz),eN y n (xs.flatten.map SV.data))else none
  |some (.bar l)=>if off=0 then some (n<=l.length,eN y n (l.map .u8))else none
  |none=>none
 | .ap o sz i j=>match s.look o with
  |some (.arr sz' xs)=>some (sz=sz'/\i<xs.length/\j+n<=sz/\(xs.getD i []).length=sz,eN y n (((xs.getD i []).drop j).map SV.data))
  |some (.bar l)=>some (sz=1/\j=0/\n=1/\i<l.length,eN y n [.u8 (l.getD i 0)])
  |some (.rc cs)=>some (i*sz+j+n<=cs.length,eN y n (cs.drop (i*sz+j)))
  |_=>none
 |_=>none
def SV.num:SV->Option Int
 | .int _ n=>some n
 | .u8 b=>some b.toNat
 |_=>none
def jI(s:St)(x:Option Arg)(y:Int):Option Int:=
 match x with
 |none=>some y
 |some a=>(s.ev a).num
def ol(t:Tok)(y clip:Bool):Tok:=if clip then .clip else if y then t else .no
def mG(s:St)(sz:Nat)(x:SV)(lo hi z:Option Arg):Option (Prop×SV):=
 match x with
 | .byt l t=>
  match jI s lo 0,jI s hi l.length,jI s z l.length with
  |some a,some b,some c=>some (0<=a/\a<=b/\b<=c/\c<=l.length/\sz=1/\(z.isSome=true->b=c),.byt ((l.take b.toNat).drop a.toNat) (ol t hi.isNone z.isSome))
  |_,_,_=>none
 | .lst y l t=>
  match jI s lo 0,jI s hi l.length,jI s z l.length with
  |some a,some b,some c=>some (0<=a/\a<=b/\b<=c/\c<=l.length/\sz=y/\(z.isSome=true->b=c),.lst sz ((l.take b.toNat).drop a.toNat) (ol t hi.isNone z.isSome))
  |_,_,_=>none
 | .psl o y off n none=>
  match jI s lo 0,jI s hi n,z with
  |some a,some b,none=>some (0<=a/\a<=b/\b<=n/\sz=y,.psl o sz (off+a.toNat) (b.toNat-a.toNat) none)
  |_,_,_=>none
 | .psl o y off n (some cap)=>
  match jI s lo 0,jI s hi n,jI s z cap with
  |some a,some b,some c=>some (0<=a/\a<=b/\b<=c/\c<=cap/\sz=y,.psl o sz (off+a.toNat) (b.toNat-a.toNat) (some (c.toNat-a.toNat)))
  |_,_,_=>none
 |_=>none
def jM(cs:LAa):List (Nat×Nat×SV)->Option LAa
 |[]=>some cs
 |(off,n,v)::r=>if v.isDef=true/\v.cells.length=n/\off+n<=cs.length then jM (cs.take off++v.cells++cs.drop (off+n)) r else none
def toB:LAa->Option t8
 |[]=>some []
 | .u8 b::r=>(toB r).map (b:: ·)
 |_::_=>none
def rows(sz:Nat):LAa->Option f9
 |[]=>some []
 |v::r=>if v.isDef=true/\v.cells.length=sz/\v.cells.all SV.isData=true then(rows sz r).map (v.cells.map SV.data:: ·)else none
def Cz(s:St):SV->Option (Prop×SV)
 | .byt l _=>some (True,.str l)
 | .psl o sz off n _=>match s.look o with
  |some (.bar l)=>some (sz=1/\off+n<=l.length,.str ((l.drop off).take n))
  |_=>none
 |_=>none
def zP:Nat->SV->SV->Option Bool
 |0,.bool a,.bool b=>some (decide (a=b))
 |1,.int k a,.int k' b=>if k=k' then some (decide (a=b))else none
 |1,.u8 a,.u8 b=>some (decide (a=b))
 |2,.str a,.str b=>some (decide (a=b))
 |_,_,_=>none
def fE:LAb->LAa->LAa->Option Bool
 |[],[],[]=>some true
 |t::ts,a::r,b::s=>match zP t a b,fE ts r s with
  |some p,some q=>some (p&&q)
  |_,_=>none
 |_,_,_=>none
def val(s:St):SOp->Option (Prop×SV)
 | .mov x=>some (True,s.ev x)
 | .build z J=>(jM z (J.map fun(o,n,x)=>(o,n,s.ev x))).map fun cs=>(True,.agg cs)
 | .lit sz F=>(rows sz (F.map s.ev)).map fun r=>(True,.lst sz r .clip)
 | .litB F=>(toB (F.map s.ev)).map fun r=>(True,.byt r .clip)
 | .load n I a=>jJ s n I (s.ev a)
 | .nchk x=>match s.ev x with
  | .ptr o off=>some (True,.ptr o off)
  | .ap o sz i j=>some (True,.ap o sz i j)
  | .pp cs=>some (True,.pp cs)
  | .fn f a b=>some (True,.fn f a b)
  |_=>none
 | .bin op x y=>Cy op (s.ev x) (s.ev y)
 | .eqS H K x y=>match s.ev x,s.ev y with
  | .agg cs,.agg ds=>(fE K cs ds).map fun b=>(True,.bool (if H then !b else b))
  |_,_=>none
 | .un op x=>(Bp op (s.ev x)).map (True,·)
 | .toInt k x=>(jk k (s.ev x)).map (True,·)
 | .slid _=>none
 | .newB _=>none
 | .isni H x=>match s.ev x with| .nili=>some (True,.bool (!H))| .ife=>some (True,.bool H)|_=>none
 | .s2b x=>match s.ev x with| .str l=>some (True,.byt l .no)|_=>none
 | .b2s x=>Cz s (s.ev x)
 | .mkfn f a b=>some (True,.fn f (a.map s.ev) (b.map s.ev))
 | .slcS x lo hi=>match s.ev x with
  | .str l=>match jI s lo 0,jI s hi l.length with
   |some a,some b=>some (0<=a/\a<=b/\b<=l.length,.str ((l.take b.toNat).drop a.toNat))
   |_,_=>none
  |_=>none
 | .slcL sz x lo hi Q=>mG s sz (s.ev x) lo hi Q
 | .faddr off x=>match s.ev x with
  | .ptr o k=>some (True,.ptr o (k+off))
  | .ap o sz i j=>some (True,.ap o sz i (j+off))
  | .pp cs=>some (True,.pp (cs.drop off))
  |_=>none
 | .iaddrL sz x i=>match s.ev x,(s.ev i).num with
  | .byt l _,some n=>some (0<=n/\n<l.length/\sz=1,.pp [.u8 (l.getD n.toNat 0)])
  | .lst sz' F _,some n=>some (0<=n/\n<F.length/\sz=sz',.pp (F.getD n.toNat []))
  | .psl o sz' off k _,some n=>some (0<=n/\n<k/\sz=sz',.ap o sz (off+n.toNat) 0)
  |_,_=>none
 | .iaddrA len sz x i=>match s.ev x,(s.ev i).num with
  | .ptr o off,some n=>match s.look o with
   |some (.rc _)=>some (0<=n/\n<len,.ptr o (off+n.toNat*sz))
   |some _=>if off=0 then some (0<=n/\n<len,.ap o sz n.toNat 0)else none
   |none=>none
  | .pp cs,some n=>some (0<=n/\n<len/\cs.length=len*sz,.pp (cs.drop (n.toNat*sz)))
  |_,_=>none
 | .idxA len sz I x i=>match s.ev x,(s.ev i).num with
  | .agg cs,some n=>some (0<=n/\n<len/\cs.length=len*sz,eN I sz (cs.drop (n.toNat*sz)))
  |_,_=>none
 | .idxS x i=>match s.ev x,(s.ev i).num with
  | .str l,some n=>some (0<=n/\n<l.length,.u8 (l.getD n.toNat 0))
  |_,_=>none
 | .ext x i=>match s.ev x with
  | .tup vs=>some (i<vs.length,vs.getD i .undef)
  |_=>none
 | .len b x=>match lI b (s.ev x)with
  |some n=>some (True,.int .i64 (n:Nat))
  |none=>none
 | .mini x y=>match s.ev x,s.ev y with
  | .int k a,.int k' b=>if k=k' then some (True,.int k (if b<a then b else a))else none
  |_,_=>none
 | .maxi x y=>match s.ev x,s.ev y with
  | .int k a,.int k' b=>if k=k' then some (True,.int k (if a<b then b else a))else none
  |_,_=>none
 |_=>none
def Tok.ren(m:Nat->Nat):Tok->Tok
 | .id t=> .id (m t)
 |t=>t
mutual
def SV.ren(m mt:Nat->Nat):SV->SV
 | .byt l t=> .byt l (t.ren mt)
 | .lst sz y t=> .lst sz y (t.ren mt)
 | .ptr o off=> .ptr (m o) off
 | .ap o sz i j=> .ap (m o) sz i j
 | .psl o sz off n cap=> .psl (m o) sz off n cap
 | .agg cs=> .agg (SV.renL m mt cs)
 | .tup cs=> .tup (SV.renL m mt cs)
 | .fn f a b=> .fn f (SV.renL m mt a) (SV.renL m mt b)
 |v=>v
def SV.renL(m mt:Nat->Nat):LAa->LAa
 |[]=> []
 |v::r=>v.ren m mt::SV.renL m mt r
end
def aG.ren(m mt:Nat->Nat):aG->aG
 | .rc cs=> .rc (SV.renL m mt cs)
 |o=>o
mutual
def SV.toks:SV->LAb
 | .byt _ t=>match t with| .id t=> [t]|_=> []
 | .lst _ _ t=>match t with| .id t=> [t]|_=> []
 | .agg cs=>SV.toksL cs
 | .tup cs=>SV.toksL cs
 | .fn _ a b=>SV.toksL a++SV.toksL b
 |_=> []
def SV.toksL:LAa->LAb
 |[]=> []
 |v::r=>v.toks++SV.toksL r
end
mutual
def SV.ids:SV->LAb
 | .ptr o _=> [o]
 | .ap o _ _ _=> [o]
 | .psl o _ _ _ _=> [o]
 | .agg cs=>SV.idsL cs
 | .tup cs=>SV.idsL cs
 | .fn _ a b=>SV.idsL a++SV.idsL b
 |_=> []
def SV.idsL:LAa->LAb
 |[]=> []
 |v::r=>v.ids++SV.idsL r
end
def aG.ids:aG->LAb
 | .rc cs=>SV.idsL cs
 |_=> []
def aG.toks:aG->LAb
 | .rc cs=>SV.toksL cs
 |_=> []
def idx(os:List aG):List (Nat×aG):=os.zipIdx.map fun p=>(p.2,p.1)
def fk(P:Program)(f:Nat):Bool:=
 match P.funcs[f]? with
 |some fn=>fn.body.isSome&& !(fn.name== "runtime.NumGoroutine")
 |none=>false
def xi1(P:Program)(f:Nat)(args:LAa)(os:List aG)(R:SV->List (Nat×aG)->Prop):Prop:=
 fk P f=true/\∀(C:Ctx)(x:Sit)(w:World)(vs:LAd),C.w0=w->C.G0=x.G->
  (∀b,C.mine b->w.heap.size<=b\/∃i,i<os.length/\(x.bk i).1=b)->os.length<=100->
  dA C x (idx os) [] w->cB x args vs->
  Calls P f ⟨vs⟩ w fun e w'=>∃v x' r y,e= .returned v/\R r y/\Rep x' r v/\dA C x' y r.toks w'/\∀i,i<os.length->x'.bk i=x.bk i
def Fn(P:Program)(f:Nat)(args:LAa)(r:SV):Prop:=xi1 P f args [] fun z y=>z=r/\y=[]
def xi2(a b:SV):Prop:=∀(x:Sit)(v:Value),Rep x a v->Rep x b v
def km(d:Nat)(m:LAb)(o:Nat):Nat:=if o<m.length then m.getD o 0 else(d+1)*1000+o
def nI(d:Nat)(t:Nat):Nat:=(d+1)*1000+t
def inR(d:Nat)(o:Nat):Bool:=decide ((d+1)*1000<=o)&&decide (o<(d+2)*1000)
def leL(a_ bs:LAa):Prop:=a_.length=bs.length/\∀i,i<a_.length->xi2 (a_.getD i .undef) (bs.getD i .undef)
def gH(m:LAb):List (Nat×aG)->List (Nat×aG)
 |[]=> []
 |p::r=>if p.1∈m then gH m r else p::gH m r
def vb(d:Nat)(m:LAb):List (Nat×aG)->List (Nat×aG)
 |[]=> []
 |p::r=>(km d m p.1,p.2.ren (km d m) (nI d))::vb d m r
structure Eff where
 pre:Prop
 val:SV
 wr:List (Nat×aG):=[]
 new:Option aG:=none
 eat:Tok:= .no
 tok:Bool:=false
def iM(sz:Nat)(y:f9)(i j n:Nat)(v:LAa):f9:=
 if j=0/\n=sz then y.set i v else y.set i (((y.getD i []).take j)++v++((y.getD i []).drop (j+n)))
def iy(cs:LAa)(off:Nat)(v:LAa):LAa:=
 match v with
 |[u]=>cs.set off u
 |v=>cs.take off++v++cs.drop (off+v.length)
def SV.one:SV->Bool
 | .undef| .agg _| .tup _=>false
 |_=>true
def ld(sz:Nat):Nat->LAa->f9
 |0,_=> []
 |m+1,v=>v.take sz::ld sz m (v.drop sz)
def uq(s:St)(n:Nat)(v:LAa):SV->Option Eff
 | .ptr o off=>match s.look o with
  |some (.rc cs)=>some {pre:=off+n<=cs.length/\v.length=n/\v.all SV.one=true,val:= .undef,wr:=[(o,.rc (iy cs off v))]}
  |some (.arr sz xs)=>some {pre:=off=0/\n=xs.length*sz/\v.length=n/\v.all SV.isData=true,val:= .undef,wr:=[(o,.arr sz (ld sz xs.length (v.map SV.data)))]}
  |some (.bar l)=>match toB v with
   |some y=>some {pre:=off=0/\n=l.length/\y.length=n,val:= .undef,wr:=[(o,.bar y)]}
   |none=>none
  |_=>none
 | .ap o sz i j=>match s.look o with
  |some (.arr sz' xs)=>some {pre:=sz=sz'/\i<xs.length/\j+n<=sz/\v.length=n/\(∀x∈xs,x.length=sz)/\v.all SV.isData=true,val:= .undef,wr:=[(o,.arr sz' (iM sz xs i j n (v.map SV.data)))]}
  |some (.bar l)=>match v with
   |[.u8 b]=>some {pre:=sz=1/\j=0/\n=1/\i<l.length,val:= .undef,wr:=[(o,.bar (l.set i b))]}
   |_=>none
  |_=>none
 |_=>none
def Tok.ready(s:St):Tok->Bool
 | .no=>false
 | .clip=>true
 | .id t=>s.tk.contains t
def Tok.eat(t:Tok)(tk:LAb):LAb:=
 match t with
 | .id t=>df t (t+1) tk
 |_=>tk
def jq(s:St):SV->Option (Prop×t8)
 | .byt l _=>some (True,l)
 | .str l=>some (True,l)
 | .psl o sz off n _=>match s.look o with
  |some (.bar l)=>some (sz=1/\off+n<=l.length,(l.drop off).take n)
  |_=>none
 |_=>none
def lD(s:St)(sz:Nat):SV->Option (Prop×f9)
 | .lst y z _=>some (sz=y,z)
 | .psl o y off n _=>match s.look o with
  |some (.arr sz'' z)=>some (sz=y/\sz=sz''/\off+n<=z.length/\(∀x∈z,x.length=sz),((z.drop off).take n))
  |_=>none
 |_=>none
def eff(s:St)(d:LAc):SOp->Option Eff
 | .new o=>match d with
  |some d=>some {pre:=True,val:= .ptr (d+100) 0,new:=some o}
  |none=>none
 | .box x=>match d with
  |some d=>some {pre:=True,val:= .ptr (d+100) 0,new:=some (.rc (s.ev x).cells)}
  |none=>none
 | .mk z bytes n c=>match d,s.ev n,s.ev c with
  |some d,.int _ n,.int _ c=>some {pre:=0<=n/\n<=c/\bytes*c<=140737488355328/\c<=9223372036854775807,val:= .psl (d+100) z.length 0 n.toNat (some c.toNat),new:=some (.arr z.length (aB c.toNat z))}
  |_,_,_=>none
 | .mkB n c=>match d,s.ev n,s.ev c with
  |some d,.int _ n,.int _ c=>some {pre:=0<=n/\n<=c/\c<=140737488355328,val:= .psl (d+100) 1 0 n.toNat (some c.toNat),new:=some (.bar (aB c.toNat 0))}
  |_,_,_=>none
 | .store n a x=>match (s.ev x).isDef with
  |true=>uq s n (s.ev x).cells (s.ev a)
  |false=>none
 | .app z bytes x y=>match d with
  |some d=>match s.ev x with
   | .byt l t=>match jq s (s.ev y)with
    |some (p,l')=>some {pre:=p/\z.length=1/\bytes=1/\t.ready s=true/\l.length+l'.length<=140737488355328,val:= .byt (l++l') (.id (d+100)),eat:=t,tok:=true}
    |none=>none
   | .lst F l t=>match lD s z.length (s.ev y)with
    |some (p,l')=>some {pre:=p/\z.length=F/\t.ready s=true/\(l.length+l'.length)*bytes<=140737488355328,val:= .lst z.length (l++l') (.id (d+100)),eat:=t,tok:=true}
    |none=>none
   |_=>none
  |none=>none
 | .cpy sz x y=>match s.ev x with
  | .psl o F off n _=>match s.look o with
   |some (.bar l)=>match jq s (s.ev y)with
    |some (p,l')=>some {pre:=p/\sz=1/\F=1/\off+n<=l.length,val:= .int .i64 (min l'.length n:Nat),wr:=[(o,.bar (l.take off++l'.take n++l.drop (off+(l'.take n).length)))]}
    |none=>none
   |some (.arr sz'' xs)=>match lD s sz (s.ev y)with
    |some (p,l')=>some {pre:=p/\sz=F/\sz=sz''/\off+n<=xs.length/\(∀x∈xs,x.length=sz),val:= .int .i64 (min l'.length n:Nat),wr:=[(o,.arr sz (xs.take off++l'.take n++xs.drop (off+(l'.take n).length)))]}
    |none=>none
   |_=>none
  |_=>none
 | .pick _ _ _=>none
 | .call _ _=>none
 |so=>match val s so with
  |some (p,v)=>some {pre:=p,val:=v}
  |none=>none
def St.wr(s:St):List (Nat×aG)->St
 |[]=>s
 |p::r=>(s.setO p.1 p.2).wr r
def St.grew(s:St)(t:Tok)(d:Nat):St:=
 {tm:=SV.purgeL d (d+1) s.tm,ob:=bV d (d+1) s.ob,tk:=d::df d (d+1) (t.eat s.tk)}
def St.app(s:St)(d:LAc)(e:Eff):St:=
 match e.new,e.tok with
 |some o,_=>((s.purge (d.getD 0+100) (d.getD 0+100+1)).addO (d.getD 0+100) (o.purge (d.getD 0+100) (d.getD 0+100+1))).put d e.val
 |none,true=>(s.grew e.eat (d.getD 0+100)).put d e.val
 |none,false=>(s.wr e.wr).put d e.val
def xi5:SV->LAc
 | .psl _ _ _ _ c=>c
 | .lst _ xs .clip=>some xs.length
 |_=>none
def Tok.ids:Tok->LAb
 | .id t=> [t]
 |_=> []
def SOp.args:SOp->List Arg
 | .mov x| .box x| .load _ _ x| .nchk x| .un _ x| .toInt _ x| .s2b x| .b2s x| .faddr _ x| .ext x _| .len _ x| .isni _ x| .slid x=> [x]
 | .pick c a b=> [c,a,b]
 | .new _=> []
 | .build _ z=>z.map fun p=>p.2.2
 | .lit _ y| .litB y| .newB y=>y
 | .store _ a b| .bin _ a b| .mk _ _ a b| .mkB a b| .iaddrL _ a b| .iaddrA _ _ a b| .idxA _ _ _ a b| .idxS a b| .app _ _ a b| .eqS _ _ a b| .cpy _ a b| .mini a b| .maxi a b=> [a,b]
 | .mkfn _ a b=>a++b
 | .slcS x lo hi=>x::(lo.toList++hi.toList)
 | .slcL _ x lo hi F=>x::(lo.toList++hi.toList++F.toList)
 | .call f a_=>f::a_
structure Nh where
 r:List Nat
 w:List Nat
 t:List Nat
 n:List Nat
 m:List Nat
 l:List Nat
def SOp.blind(o:SOp):Bool:=match o with
 | .mov _=>true
 | .nchk _=>true
 | .faddr _ _=>true
 |_=>false
def SV.names(v:SV):LAb:=v.ids++v.toks
def aG.names(o:aG):LAb:=o.ids++o.toks
def MO:List (Nat×aG)->LAb
 |[]=> []
 |p::r=>p.2.names++MO r
def Eff.names(e:Eff):LAb:=e.val.names++MO e.wr++(match e.new with|some o=>o.names|none=> [])
def xai(a b:LAb):Bool:=a.any b.contains
def xfq:Nh:=⟨[],[],[],[],[],[]⟩
def Nh.before(a b:Nh):Bool:= !xai b.n (a.r++a.w++a.t++a.m++a.n)
def Nh.quiet(f:Nh):Bool:=f.w.isEmpty&&f.t.isEmpty&&f.n.isEmpty
def St.forget(s:St):LAb->St
 |[]=>s
 |d::r=>(s.purge d (d+1)).forget r
def Weak(s s':St):Prop:=∀(C:Ctx)(x:Sit)(a:Act)(w:World),aY C x s a w->∃x',aY C x' s' a w
def xi4(k:St->Prop)(Q:Exit->St->Prop):Exit->St->Prop
 | .normal,s=>k s
 |e,s=>Q e s
def St.know(s:St)(c:Arg)(b:Bool):St:=
 match c with
 | .t n=>s.put (some n) (.bool b)
 |_=>s
theorem bU.mono{G K:GM}(F:∀b o v,G b o=some v->K b o=some v){s:SV}{v:Value}(h:bU G s v):bU K s v:=by
 induction h with
 |bool b=>exact .bool b
 |int k n=>exact .int k n
 |u8 b=>exact .u8 b
 |str l=>exact .str l
 |nilp=>exact .nilp
 |nili=>exact .nili
 |ife t v=>exact .ife t v
 |bytN t=>exact .bytN t
 |bytE t a=>exact .bytE t a
 |byt l t b off cap n H J h=>exact .byt l t b off cap n H J fun i hi=>F _ _ _ (h i hi)
 |lstN sz t=>exact .lstN sz t
 |lstE sz t a=>exact .lstE sz t a
 |lst sz Z t b off cap n val H J Q z _ I=>exact .lst sz Z t b off cap n val H J Q (fun i j hi y=>F _ _ _ (z i j hi y)) fun i j hi y=>I i j hi y
 |pp cs b off val z _ I=>exact .pp cs b off val (fun j y=>F _ _ _ (z j y)) fun j y=>I j y
theorem Lay.mono{G y:GM}(h:Lay G)(z:∀b o v,G b o=some v->y b o=some v):Lay y:=fun g cs H j F=>by obtain⟨v,h1,h2⟩:=h g cs H j F;exact⟨v,z _ _ _ h1,h2.mono z⟩
theorem ed(lo hi:Nat)(cs:LAa):SV.purgeL lo hi cs=cs.map (SV.purge lo hi):=by
 induction cs with
 |nil=>simp[SV.purgeL]
 |cons c r y=>simp[SV.purgeL,y]
theorem gi(m mt:Nat->Nat)(cs:LAa):SV.renL m mt cs=cs.map (SV.ren m mt):=by
 induction cs with
 |nil=>simp[SV.renL]
 |cons c r y=>simp[SV.renL,y]
theorem bi(f:SV->SV)(y:f .undef= .undef)(cs:LAa)(i:Nat):(cs.map f).getD i .undef=f (cs.getD i .undef):=by simp only[aa,aR];cases cs[i]? <;>simp[y]
@[simp] theorem purge_undef (lo hi:Nat):SV.purge lo hi .undef= .undef:=by simp[SV.purge]
@[simp] theorem ren_undef (m mt:Nat->Nat):SV.ren m mt .undef= .undef:=by simp[SV.ren]
theorem bU.tok{G:GM}{s:SV}{v:Value}(h:bU G s v)(s':SV)
 (hs:(∃l t y,s= .byt l t/\s'= .byt l y)\/(∃sz z t y,s= .lst sz z t/\s'= .lst sz z y)):bU G s' v:=by
 rcases hs with⟨l,t,y,rfl,rfl⟩|⟨sz,z,t,y,rfl,rfl⟩
 ·cases h with
  |bytN=>exact .bytN _
  |bytE _ a=>exact .bytE _ a
  |byt _ _ b off cap n F H h=>exact .byt _ _ b off cap n F H h
 ·cases h with
  |lstN=>exact .lstN _ _
  |lstE _ _ a=>exact .lstE _ _ a
  |lst _ _ _ b off cap n val F H I J h=>exact .lst _ _ _ b off cap n val F H I J h
theorem dX.mono{x x':Sit}{lo hi sz:Nat}{t:Tok}{v:Value}(H:∀o,¬(lo<=o/\o<hi)->x'.τ o=x.τ o)(h:dX x sz t v):dX x' sz (t.purge lo hi) v:=by
 cases t with
 |no=>trivial
 |clip=>exact h
 |id t=>
  simp only[Tok.purge];split
  ·trivial
  ·rename_i z
   obtain⟨a,n,cap,hv,I⟩:=h;refine⟨a,n,cap,hv,I.imp id ?_⟩;rintro⟨b,off,F,y⟩;exact⟨b,off,F,by rw[H _ z];exact y⟩
theorem Rep.mono{x x':Sit}{lo hi:Nat}(hG:∀b o v,x.G b o=some v->x'.G b o=some v)(hβ:∀o,¬(lo<=o/\o<hi)->x'.bk o=x.bk o)
 (hτ:∀o,¬(lo<=o/\o<hi)->x'.τ o=x.τ o) {s:SV} {v:Value} (h:Rep x s v):Rep x' (s.purge lo hi) v:=by
 induction h with
 |undef v=>simp only[purge_undef];exact .undef v
 |dat s v h ht=>
  have y:=h.mono hG;cases s with
  |byt l t=>simp only[SV.purge];exact .dat _ _ (y.tok _ (.inl ⟨l,t,_,rfl,rfl⟩)) (dX.mono hτ ht)
  |lst sz xs t=>simp only[SV.purge];exact .dat _ _ (y.tok _ (.inr ⟨sz,xs,t,_,rfl,rfl⟩)) (dX.mono hτ ht)
  |undef=>simp only[SV.purge];exact .undef v
  |bool b=>simp only[SV.purge];exact .dat _ _ y trivial
  |int k n=>simp only[SV.purge];exact .dat _ _ y trivial
  |u8 b=>simp only[SV.purge];exact .dat _ _ y trivial
  |str l=>simp only[SV.purge];exact .dat _ _ y trivial
  |nilp=>simp only[SV.purge];exact .dat _ _ y trivial
  |nili=>simp only[SV.purge];exact .dat _ _ y trivial
  |ife=>simp only[SV.purge];exact .dat _ _ y trivial
  |pp cs=>simp only[SV.purge];exact .dat _ _ y trivial
  |ptr o off=>cases h
  |ap o sz i j=>cases h
  |psl o sz off n cap=>cases h
  |agg cs=>cases h
  |tup cs=>cases h
  |fn f a b=>cases h
 |ptr o off=>
  simp only[SV.purge];split
  ·exact .undef _
  ·rename_i I;rw[<-hβ o I];exact .ptr o off
 |ap o sz i j=>
  simp only[SV.purge];split
  ·exact .undef _
  ·rename_i I;rw[<-hβ o I];exact .ap o sz i j
 |psl o sz off n cap z F h Z Q H=>
  simp only[SV.purge];split
  ·exact .undef _
  ·rename_i I;rw[<-hβ o I]at H ⊢;exact .psl o sz off n cap z F h Z Q H
 |agg cs vs hl _ ih=>simp only[SV.purge,ed];exact .agg _ _ (by simpa using hl) fun i hi=>by rw[bi _ (by simp)];exact ih i (by simpa using hi)
 |tup cs vs hl _ ih=>simp only[SV.purge,ed];exact .tup _ _ (by simpa using hl) fun i hi=>by rw[bi _ (by simp)];exact ih i (by simpa using hi)
 |fn f c1 c2 v1 v2 a6 _ K _ J a1=>
  simp only[SV.purge,ed]
  exact .fn _ _ _ _ _ (by simpa using a6) (fun i hi=>by rw[bi _ (by simp)];exact J i (by simpa using hi))
   (by simpa using K) fun i hi=>by rw[bi _ (by simp)];exact a1 i (by simpa using hi)
theorem HH(s:SV):s.purge 0 0=s:=by
 have y:∀t:Tok,t.purge 0 0=t:=fun t=>by cases t<;>simp[Tok.purge]
 refine SV.rec (motive_1:=fun s=>s.purge 0 0=s) (motive_2:=fun _=>True) (motive_3:=fun l=>SV.purgeL 0 0 l=l) ?_ ?_ ?_ ?_ ?_ ?_ ?_ ?_ ?_ ?_ ?_ ?_ ?_ ?_ ?_ ?_ ?_ ?_ ?_ ?_ ?_ s<;>
  intros<;>simp_all [SV.purge,SV.purgeL]
theorem Lg(l:LAa):SV.purgeL 0 0 l=l:=by
 rw[ed];induction l with
 |nil=>rfl
 |cons c r y=>simp[HH,y]
theorem Lf(l:List (Nat×aG)):bV 0 0 l=l:=by
 induction l with
 |nil=>rfl
 |cons q r y=>simp only[bV];rw[if_neg (by omega),y];obtain⟨n,o⟩:=q;cases o<;>simp[aG.purge,Lg]
theorem Rep.grow{x x':Sit}(H:∀b o v,x.G b o=some v->x'.G b o=some v)(z:x'.bk=x.bk)(F:x'.τ=x.τ){s:SV}{v:Value}(h:Rep x s v):Rep x' s v:=by have y:=h.mono (x':=x') (lo:=0) (hi:=0) H (fun o _=>by rw[z]) (fun o _=>by rw[F]);rwa[HH]at y
theorem cB.mono{x x':Sit}{lo hi:Nat}(F:∀b o v,x.G b o=some v->x'.G b o=some v)(y:∀o,¬(lo<=o/\o<hi)->x'.bk o=x.bk o)
 (z:∀o,¬(lo<=o/\o<hi)->x'.τ o=x.τ o) {cs:LAa} {vs:LAd} (h:cB x cs vs):cB x' (SV.purgeL lo hi cs) vs:=by
 refine⟨by rw[ed];simpa using h.1,fun i hi=> ?_⟩;rw[ed,bi _ (by simp)];exact(h.2 i (by rw[ed]at hi;simpa using hi)).mono F y z
theorem cB.grow{x x':Sit}(F:∀b o v,x.G b o=some v->x'.G b o=some v)(y:x'.bk=x.bk)(z:x'.τ=x.τ){cs:LAa}{vs:LAd}(h:cB x cs vs):cB x' cs vs:=
 ⟨h.1,fun i hi=>(h.2 i hi).grow F y z⟩
theorem Rep.data{x:Sit}{s:SV}{v:Value}(h:Rep x s v)(hs:s.isData=true):bU x.G s v:=by
 cases h with
 |dat _ _ h _=>exact h
 |_=>simp[SV.isData]at hs
theorem bU.rep{x:Sit}{s:SV}{v:Value}(h:bU x.G s v):Rep x s.data v:=by
 cases h with
 |byt l t b off cap n z F h=>exact .dat _ _ (.byt l _ b off cap n z F h) trivial
 |bytN t=>exact .dat _ _ (.bytN _) trivial
 |bytE t a=>exact .dat _ _ (.bytE _ a) trivial
 |lstN sz t=>exact .dat _ _ (.lstN _ _) trivial
 |lstE sz t a=>exact .dat _ _ (.lstE _ _ a) trivial
 |lst sz I t b off cap n val z F H y h=>exact .dat _ _ (.lst _ _ _ b off cap n val z F H y h) trivial
 |bool b=>exact .dat _ _ (.bool b) trivial
 |int k n=>exact .dat _ _ (.int k n) trivial
 |u8 b=>exact .dat _ _ (.u8 b) trivial
 |str l=>exact .dat _ _ (.str l) trivial
 |nilp=>exact .dat _ _ .nilp trivial
 |nili=>exact .dat _ _ .nili trivial
 |ife t v=>exact .dat _ _ (.ife t v) trivial
 |pp cs b off val y h=>exact .dat _ _ (.pp cs b off val y h) trivial
theorem bU.toData{G:GM}{s:SV}{v:Value}(h:bU G s v):bU G s.data v:=by
 cases h with
 |byt l t b off cap n z F h=>exact .byt l _ b off cap n z F h
 |bytN t=>exact .bytN _
 |bytE t a=>exact .bytE _ a
 |lstN sz t=>exact .lstN _ _
 |lstE sz t a=>exact .lstE _ _ a
 |lst sz I t b off cap n val z F H y h=>exact .lst _ _ _ b off cap n val z F H y h
 |bool b=>exact .bool b
 |int k n=>exact .int k n
 |u8 b=>exact .u8 b
 |str l=>exact .str l
 |nilp=>exact .nilp
 |nili=>exact .nili
 |ife t v=>exact .ife t v
 |pp cs b off val y h=>exact .pp cs b off val y h
theorem cS{lo hi:Nat}{ob:List (Nat×aG)}{p:Nat×aG}(h:p∈bV lo hi ob):
 ¬(lo<=p.1/\p.1<hi)/\∃o,(p.1,o)∈ob/\p.2=o.purge lo hi:=by
 induction ob with
 |nil=>simp[bV]at h
 |cons q r y=>
  simp only[bV]at h;split at h
  ·obtain⟨h1,o,h2,h3⟩:=y h;exact⟨h1,o,an _ h2,h3⟩
  ·rename_i z
   rcases aq.1 h with rfl|h
   ·exact⟨z,q.2,aD ..,rfl⟩
   ·obtain⟨h1,o,h2,h3⟩:=y h;exact⟨h1,o,an _ h2,h3⟩
theorem ig{lo hi:Nat}(ob:List (Nat×aG)):(bV lo hi ob).map cV=(ob.map cV).filter fun o=>decide (¬(lo<=o/\o<hi)):=by
 induction ob with
 |nil=>simp[bV]
 |cons q r y=>
  simp only[bV,ax,fb];split<;>rename_i h
  ·rw[y,if_neg (by simp;omega)]
  ·rw[if_pos (by simp;omega),ax,y]
theorem bP{lo hi t:Nat}{tk:LAb}:t∈df lo hi tk↔t∈tk/\¬(lo<=t/\t<hi):=by
 induction tk with
 |nil=>simp[df]
 |cons u r y=>
  simp only[df];split<;>rename_i z
  ·rw[y,aq];constructor
   ·rintro⟨a,b⟩;exact⟨.inr a,b⟩
   ·rintro⟨a|a,b⟩
    ·subst a;exact absurd z b
    ·exact⟨a,b⟩
  ·rw[aq,y,aq];constructor
   ·rintro(rfl|⟨a,b⟩)
    ·exact⟨.inl rfl,z⟩
    ·exact⟨.inr a,b⟩
   ·rintro⟨a|a,b⟩
    ·exact .inl a
    ·exact .inr ⟨a,b⟩
theorem Cb{w:World}{b:Nat}{o:Obj}(h:w.heap[b]? =some o):b<w.heap.size:=by
 rcases bq b w.heap.size with y|y
 ·exact y
 ·simp[Array.getElem?_eq_none y]at h
theorem eC{w:World}{o:Obj}{b:Nat}(h:b<w.heap.size):(w.alloc o).heap[b]? =w.heap[b]? :=by show(w.heap.push o)[b]? =_;rw[Array.getElem?_push,if_neg (by omega)]
theorem eM{w:World}{o:Obj}:(w.alloc o).heap[w.heap.size]? =some o:=by show(w.heap.push o)[w.heap.size]? =_;rw[Array.getElem?_push,if_pos rfl]
theorem gf.lt{w:World}{b:Nat}{c:LAe}{e:TypeId}{fl fh:Nat}(h:gf w b c e fl fh):b<w.heap.size:=Cb h.1
theorem gf.of_heap{w w':World}{b:Nat}{c:LAe}{e:TypeId}{fl fh:Nat}(h:gf w b c e fl fh)(y:w'.heap[b]? =w.heap[b]?):gf w' b c e fl fh:=⟨y.trans h.1,h.2⟩
theorem dV{w w':World}{b o:Nat}(y:w'.heap[b]? =w.heap[b]?):w'.cell? ⟨b,o,none⟩=w.cell? ⟨b,o,none⟩:=by simp only[World.cell?,y]
theorem gf.cell{w:World}{b:Nat}{c:LAe}{e:TypeId}{fl fh:Nat}(h:gf w b c e fl fh)(o:Nat):w.cell? ⟨b,o,none⟩=c[o]? :=by simp[World.cell?,h.1]
theorem gf.free{w:World}{b:Nat}{c:LAe}{e:TypeId}{fl fh:Nat}(h:gf w b c e fl fh){o:Nat}(y:o<c.size):w.frozen? ⟨b,o,none⟩=false:=by simp only[World.frozen?,h.1];have:=h.2 o y;simpa using this
theorem dA.ltG{C:Ctx}{x:Sit}{ob:List (Nat×aG)}{tk:LAb}{w:World}(h:dA C x ob tk w){b o:Nat}{v:Value}(y:x.G b o=some v):b<w.heap.size:=by have:=h.per b o v y;exact World.block_lt_of_cell? (w:=w) (a:=⟨b,o,none⟩) this
theorem fa.of_heap{x x':Sit}{w w':World}{o:Nat}{y:aG}{lo hi:Nat}(h:fa x w o y)(Q:w'.heap[(x.bk o).1]? =w.heap[(x.bk o).1]?)
 (I:∀b o v,x.G b o=some v->x'.G b o=some v) (H:∀o,¬(lo<=o/\o<hi)->x'.bk o=x.bk o) (Z:∀o,¬(lo<=o/\o<hi)->x'.τ o=x.τ o)
 (K:¬(lo<=o/\o<hi)):fa x' w' o (y.purge lo hi):=by
 obtain⟨c,e,fl,fh,hO,⟨hs,z,hs3⟩,F⟩:=h;refine⟨c,e,fl,fh,by rw[H o K];exact hO.of_heap Q,⟨?_,by rw[H o K];exact z,by cases y<;>exact hs3⟩, ?_⟩
 ·cases y<;>simpa[aG.purge,aG.size,ed]using hs
 ·intro k J
  cases y with
  |rc cs=>simp only[aG.purge,cQ,ed];rw[bi _ (by simp)];exact(F k (by simpa[aG.purge,aG.size,ed]using J)).mono I H Z
  |arr sz xs=>exact(F k J).mono I
  |bar l=>exact(F k J).mono I
theorem dA.congr{C:Ctx}{x:Sit}{ob:List (Nat×aG)}{tk:LAb}{w w':World}(h:dA C x ob tk w)(y:w'.heap=w.heap)(J:w'.os=w.os)(F:w'.tape=w.tape)
 (z:w'.output=w.output):dA C x ob tk w':=by
 have Q:∀a,w'.cell? a=w.cell? a:=fun a=>by simp only[World.cell?,y]
 refine⟨fun b o v hv=>by rw[Q];exact h.per b o v hv,h.g0,h.gm,h.new, ?_,h.nd,h.inj, ?_,h.tko,h.tkd,J.trans h.os,F.trans h.tape,z.trans h.output,by rw[y];exact h.size,fun b K=>by rw[y];exact h.ext b K,h.pin,h.lay⟩
 ·intro p I
  obtain⟨⟨c,e,fl,fh,H,r⟩,q⟩:=h.obs p I;exact⟨⟨c,e,fl,fh,H.of_heap (by rw[y]),r⟩,q⟩
 ·intro t F
  exact(h.tks t F).imp id fun⟨⟨c,e,fl,fh,H,r⟩,q⟩=>⟨⟨c,e,fl,fh,H.of_heap (by rw[y]),r⟩,q⟩
theorem dA.drew{C:Ctx}{x:Sit}{ob:List (Nat×aG)}{tk:LAb}{w:World}(h:dA C x ob tk w):dA C x ob tk w.drew:=h.congr rfl rfl rfl rfl
theorem dA.drawn{C:Ctx}{x:Sit}{ob:List (Nat×aG)}{tk:LAb}{w:World}(h:dA C x ob tk w)(n:Nat):dA C x ob tk {w with drawn:=n}:=h.congr rfl rfl rfl rfl
def Sit.newO(x:Sit)(d b:Nat)(k:Nat:=0):Sit:= {x with bk:=fun o=>if o=d then(b,k)else x.bk o}
theorem Sit.newO_ne(x:Sit)(d b:Nat){k:Nat}(o:Nat)(h:¬(d<=o/\o<d+1)):(x.newO d b k).bk o=x.bk o:=if_neg (by omega)
theorem dA.allocO{C:Ctx}{x:Sit}{ob:List (Nat×aG)}{tk:LAb}{w:World}(h:dA C x ob tk w)(d:Nat)(b1:100<=d){c:LAe}{e:TypeId}{fl fh:Nat}(z:aG)
 (hf:∀i,i<c.size->¬(fl<=i/\i<fh)) (hs:z.size<=c.size) (hr:∀k,k<z.size->cQ x z k (c.getD k undef)) {K:Nat} (hK:K<=c.size) (b0:z.arrB=true->¬(fl<=c.size/\c.size<fh)):
 dA C (x.newO d w.heap.size K) ((d,z.purge d (d+1))::bV d (d+1) ob) (df d (d+1) tk) (w.alloc (.cells c e (fl,fh))):=by
 have hβ:=Sit.newO_ne x d w.heap.size (k:=K)
 have fy:∀off,x.G w.heap.size off=none:=by
  intro off;cases hg:x.G w.heap.size off with
  |none=>rfl
  |some v=>exact absurd (h.ltG hg) (by omega)
 have H:∀p∈bV d (d+1) ob,p.1≠d/\(x.newO d w.heap.size K).bk p.1=x.bk p.1/\(x.bk p.1).1<w.heap.size:=by intro p y;obtain⟨h1,o,h2,_⟩:=cS y;obtain⟨⟨c,e,fl,fh,hO,_⟩,_⟩:=h.obs _ h2;exact⟨by omega,hβ _ h1,hO.lt⟩
 have a1:(x.newO d w.heap.size K).bk d=(w.heap.size,K):=if_pos rfl;have Z:((x.newO d w.heap.size K).bk d).1=w.heap.size:=by rw[a1]
 refine⟨?_,h.g0,h.gm,h.new, ?_, ?_, ?_, ?_, ?_, ?_,h.os,h.tape,h.output, ?_, ?_,fun i hi=>by rw[hβ i (by omega)];exact h.pin i hi,h.lay⟩
 ·intro b o v hv
  rw[dV (eC (h.ltG hv))];exact h.per b o v hv
 ·intro p y
  rcases aq.1 y with rfl|y
  ·refine⟨⟨c,e,fl,fh,⟨by rw[Z];exact eM,hf⟩,⟨?_,by rw[a1];exact hK,by cases z<;>exact b0⟩, ?_⟩, ?_, ?_⟩
   ·cases z<;>simpa[aG.purge,aG.size,ed]using hs
   ·intro k hk
    cases z with
    |rc cs=>simp only[aG.purge,cQ,ed];rw[bi _ (by simp)];exact Rep.mono (x:=x) (x':=x.newO d w.heap.size K) (lo:=d) (hi:=d+1) (fun _ _ _ hv=>hv) hβ (fun _ _=>rfl) (hr k (by simpa[aG.purge,aG.size,ed]using hk))
    |arr sz xs=>exact hr k hk
    |bar l=>exact hr k hk
   ·rw[Z];exact h.new _ h.size
   ·intro off;rw[Z];exact fy off
  ·obtain⟨h1,o,h2,h3⟩:=cS y
   obtain⟨a6,hm,hg⟩:=h.obs _ h2;obtain⟨b2,F,Q⟩:=H p y;refine⟨?_,by rw[F];exact hm,fun off=>by rw[F];exact hg off⟩;rw[h3];exact a6.of_heap (eC Q) (fun _ _ _ hv=>hv) hβ (fun _ _=>rfl) h1
 ·rw[ax,fT,ig]
  refine⟨?_,h.nd.filter _⟩;simp
 ·intro p y q hq J
  rcases aq.1 y with rfl|y<;>rcases aq.1 hq with rfl|hq
  ·rfl
  ·obtain⟨_,F,Q⟩:=H q hq
   rw[Z,F]at J;omega
  ·obtain⟨_,F,Q⟩:=H p y
   rw[Z,F]at J;omega
  ·obtain⟨_,F,_⟩:=H q hq
   obtain⟨_,a7,_⟩:=H p y;obtain⟨_,o,h2,_⟩:=cS y;obtain⟨_,o',a8,_⟩:=cS hq;rw[F,a7]at J;exact h.inj (_,o) h2 (_,o') a8 J
 ·intro t I
  obtain⟨I,_⟩:=bP.1 I;exact(h.tks t I).imp id fun⟨⟨c,e,fl,fh,hO,r⟩,q⟩=>⟨⟨c,e,fl,fh,hO.of_heap (eC hO.lt),r⟩,q⟩
 ·intro t I p y
  obtain⟨I,_⟩:=bP.1 I;rcases aq.1 y with rfl|y
  ·rcases h.tks t I with h'|⟨⟨c,e,fl,fh,hO,r⟩,q⟩
   ·exact .inr h'
   ·refine .inl ?_
    rw[Z];have:=hO.lt;show(x.τ t).1≠_;omega
  ·obtain⟨_,o,h2,_⟩:=cS y
   rw[(H p y).2.1];exact h.tko t I (_,o) h2
 ·intro t I u hu
  exact h.tkd t (bP.1 I).1 u (bP.1 hu).1
 ·have:=h.size;rw[World.size_alloc];omega
 ·intro b hb
  rw[eC,h.ext b hb];rcases bq b w.heap.size with h'|h'
  ·exact h'
  ·exact absurd (h.new b (fi h.size h')) hb
def Sit.newD(x:Sit)(b:Nat)(c:LAe)(n:Nat):Sit:= {x with G:=fun y o=>if y=b/\o<n then c[o]? else x.G y o}
theorem dA.newD_le{C:Ctx}{x:Sit}{ob:List (Nat×aG)}{tk:LAb}{w:World}(h:dA C x ob tk w)(c:LAe)(n:Nat):
 ∀b o v,x.G b o=some v->(x.newD w.heap.size c n).G b o=some v:=by
 intro b o v hv;have:=h.ltG hv;simp only[Sit.newD];rw[if_neg (by omega)];exact hv
theorem dA.allocD{C:Ctx}{x:Sit}{ob:List (Nat×aG)}{tk:LAb}{w:World}(h:dA C x ob tk w){c:LAe}{e:TypeId}{fl fh:Nat}(n:Nat):
 dA C (x.newD w.heap.size c n) ob tk (w.alloc (.cells c e (fl,fh))):=by
 have F:=h.newD_le c n
 have y:∀b,b≠w.heap.size->∀o,(x.newD w.heap.size c n).G b o=x.G b o:=by intro b z o;simp only[Sit.newD];rw[if_neg (by rintro⟨h1,_⟩;exact z h1)]
 refine⟨?_,fun b o v hv=>F b o v (h.g0 b o v hv), ?_,h.new, ?_,h.nd,h.inj, ?_,h.tko,h.tkd,h.os,h.tape,h.output, ?_, ?_,h.pin,h.lay⟩
 ·intro b o v hv
  by_cases z:b=w.heap.size
  ·subst z
   simp only[Sit.newD]at hv;split at hv
   ·simp only[World.cell?,eM];simpa using hv
   ·exact absurd (h.ltG hv) (by omega)
  ·rw[y b z]at hv
   rw[dV (eC (h.ltG hv))];exact h.per b o v hv
 ·intro b o v hv
  by_cases z:b=w.heap.size
  ·right;rw[z];exact h.new _ h.size
  ·rw[y b z]at hv;exact h.gm b o v hv
 ·intro p hp
  obtain⟨h1,hm,hg⟩:=h.obs p hp;have K:(x.bk p.1).1<w.heap.size:=by obtain⟨c,e,fl,fh,I,_⟩:=h1;exact I.lt
  refine⟨?_,hm,fun off=>by rw[show(x.newD w.heap.size c n).bk p.1=x.bk p.1 from rfl,y _ (by omega)];exact hg off⟩;obtain⟨Q,e',J,H,I,hs,hr⟩:=h1;refine⟨Q,e',J,H,I.of_heap (eC K),hs,fun k hk=> ?_⟩;have:=hr k hk;generalize p.2=a1 at*;cases a1 with
  |rc cs=>exact Rep.grow F rfl rfl this
  |arr sz xs=>exact bU.mono F this
  |bar l=>exact bU.mono F this
 ·intro t ht
  refine(h.tks t ht).imp id ?_;rintro⟨⟨Q,e',J,H,I,r⟩,q,g⟩;refine⟨⟨Q,e',J,H,I.of_heap (eC I.lt),r⟩,q,fun o h1 h2=> ?_⟩;rw[show((x.newD w.heap.size c n).τ t).1=(x.τ t).1 from rfl,y _ (by have:=I.lt;omega)];exact g o h1 h2
 ·have:=h.size;rw[World.size_alloc];omega
 ·intro b z
  rw[eC,h.ext b z];rcases bq b w.heap.size with Z|Z
  ·exact Z
  ·exact absurd (h.new b (fi h.size Z)) z
def Sit.newT(x:Sit)(d b lo hi:Nat):Sit:= {x with τ:=fun t=>if t=d then(b,lo,hi)else x.τ t}
theorem Sit.newT_ne(x:Sit)(d b lo hi:Nat)(o:Nat)(h:¬(d<=o/\o<d+1)):(x.newT d b lo hi).τ o=x.τ o:=if_neg (by omega)
theorem Sit.newT_eq(x:Sit)(d b lo hi:Nat):(x.newT d b lo hi).τ d=(b,lo,hi):=if_pos rfl
theorem dA.addT{C:Ctx}{x:Sit}{ob:List (Nat×aG)}{tk:LAb}{w:World}(h:dA C x ob tk w)(d b lo hi:Nat)
 (hv:lo=hi\/((∃c e fl fh,gf w b c e fl fh/\hi<=c.size)/\C.mine b/\∀o,lo<=o->o<hi->x.G b o=none))
 (H:lo=hi\/∀p∈ob,p.1≠d->b≠(x.bk p.1).1) (y:lo=hi\/∀t∈tk,t≠d->nv (b,lo,hi) (x.τ t)\/(x.τ t).2.1=(x.τ t).2.2):
 dA C (x.newT d b lo hi) (bV d (d+1) ob) (d::df d (d+1) tk) w:=by
 have K:=Sit.newT_ne x d b lo hi;have hd:=Sit.newT_eq x d b lo hi;refine⟨h.per,h.g0,h.gm,h.new, ?_, ?_, ?_, ?_, ?_, ?_,h.os,h.tape,h.output,h.size,h.ext,h.pin,h.lay⟩
 ·intro p Z
  obtain⟨h1,o,h2,h3⟩:=cS Z;obtain⟨Q,hm,hg⟩:=h.obs _ h2;exact⟨by rw[h3];exact Q.of_heap rfl (fun _ _ _ hv=>hv) (fun _ _=>rfl) K h1,hm,hg⟩
 ·rw[ig];exact h.nd.filter _
 ·intro p Z q hq a7
  obtain⟨_,o,h2,_⟩:=cS Z;obtain⟨_,o',a8,_⟩:=cS hq;exact h.inj (_,o) h2 (_,o') a8 a7
 ·intro t z
  rcases aq.1 z with rfl|z
  ·unfold jh;rw[hd];exact hv
  ·obtain⟨z,F⟩:=bP.1 z
   unfold jh;rw[K _ F];exact h.tks t z
 ·intro t z p Z
  obtain⟨h1,o,h2,_⟩:=cS Z;rcases aq.1 z with rfl|z
  ·rw[hd]
   rcases H with H|H
   ·exact .inr H
   ·exact .inl (H (_,o) h2 (by show p.1≠t;omega))
  ·obtain⟨z,F⟩:=bP.1 z
   rw[K _ F];exact h.tko t z (_,o) h2
 ·intro t z u I a1
  rcases aq.1 z with rfl|z<;>rcases aq.1 I with rfl|I
  ·exact absurd rfl a1
  ·obtain⟨I,F⟩:=bP.1 I
   rw[hd,K _ F];rcases y with y|y
   ·exact .inr (.inl y)
   ·rcases y u I (by omega)with J|J
    ·exact .inl J
    ·exact .inr (.inr J)
  ·obtain⟨z,F⟩:=bP.1 z
   rw[hd,K _ F];rcases y with y|y
   ·exact .inr (.inr y)
   ·rcases y t z (by omega)with J|J
    ·refine .inl ?_
     unfold nv at*;exact fun e=>J e.symm
    ·exact .inr (.inl J)
  ·obtain⟨z,F⟩:=bP.1 z
   obtain⟨I,a6⟩:=bP.1 I;rw[K _ F,K _ a6];exact h.tkd t z u I a1
def dQ(w:World)(b off:Nat):LAd->World
 |[]=>w
 |v::r=>dQ (w.setCell ⟨b,off,none⟩ v) b (off+1) r
theorem wE(w:World)(a:Addr)(v:Value):(w.setCell a v).os=w.os/\(w.setCell a v).tape=w.tape/\(w.setCell a v).output=w.output/\(w.setCell a v).heap.size=w.heap.size:=
 ⟨rfl,rfl,rfl,by simp⟩
theorem jG(b:Nat)(vs:LAd):∀(w:World)(off:Nat),(dQ w b off vs).os=w.os/\(dQ w b off vs).tape=w.tape/\(dQ w b off vs).output=w.output/\
 (dQ w b off vs).heap.size=w.heap.size/\(∀y,y≠b->(dQ w b off vs).heap[y]? =w.heap[y]?):=by
 induction vs with
 |nil=>intro w off;exact⟨rfl,rfl,rfl,rfl,fun _ _=>rfl⟩
 |cons v r H=>intro w off;obtain⟨h1,h2,h3,h4,I⟩:=H (w.setCell ⟨b,off,none⟩ v) (off+1);obtain⟨g1,F,g3,g4⟩:=wE w ⟨b,off,none⟩ v;refine⟨h1.trans g1,h2.trans F,h3.trans g3,h4.trans g4,fun y z=> ?_⟩;rw[dQ,I y z];exact Go.RowKit.Below.heap_setCell _ _ _ _ z
theorem sY(c:LAe)(i k:Nat)(v:Value)(h:i<c.size):(c.setIfInBounds i v).getD k undef=if k=i then v else c.getD k undef:=by
 simp only[bT,Array.getElem?_setIfInBounds]
 by_cases y:i=k
 ·subst y;simp[h]
 ·rw[if_neg y,if_neg (fun e=>y e.symm)]
theorem iZ{b:Nat}{e:TypeId}{fl fh:Nat}(vs:LAd):∀(w:World)(off:Nat)(c:LAe),gf w b c e fl fh->off+vs.length<=c.size->
 ∃y,gf (dQ w b off vs) b y e fl fh/\y.size=c.size/\∀k,y.getD k undef=if off<=k/\k<off+vs.length then vs.getD (k-off) undef else c.getD k undef:=by
 induction vs with
 |nil=>intro w off c h _;exact⟨c,h,rfl,fun k=>by rw[if_neg (by simp only[al];omega)]⟩
 |cons v r H=>
  intro w off c h hs;simp only[ai]at hs
  have h1:gf (w.setCell ⟨b,off,none⟩ v) b (c.setIfInBounds off v) e fl fh:=by refine⟨?_,by simpa using h.2⟩;simp only[World.setCell,dz];rw[if_pos trivial,h.1];simp
  obtain⟨y,I,z,F⟩:=H _ (off+1) _ h1 (by simp;omega);refine⟨y,I,by simpa using z,fun k=> ?_⟩;rw[F k];simp only[ai]
  by_cases h1:k=off
  ·subst h1
   rw[if_neg (by omega),if_pos (by omega),sY _ _ _ _ (by omega),if_pos rfl];simp
  ·by_cases h2:off+1<=k/\k<off+1+r.length
   ·rw[if_pos h2,if_pos (by omega)]
    rw[show k-off=(k-(off+1))+1 from by omega];simp
   ·rw[if_neg h2,if_neg (by omega),sY _ _ _ _ (by omega),if_neg h1]
theorem eH(b off n:Nat):(⟨b,off,none⟩:Addr).add n=⟨b,off+n,none⟩:=by
 unfold Addr.add;split
 ·rename_i h;subst h;rfl
 ·rfl
theorem iY{P:Program}{b:Nat}{e:TypeId}{fl fh:Nat}(off:Nat)(vs:LAd):∀(w:World)(c:LAe)(i:Nat),gf w b c e fl fh->off+i+vs.length<=c.size->
 (∀v∈vs,v.oneCell'=true)->(storeCells ⟨b,off,none⟩ vs i).run P w= .ok () (dQ w b (off+i) vs):=by
 induction vs with
 |nil=>intro w c i _ _ _;rfl
 |cons v r F=>
  intro w c i h hs hv;simp only[ai]at hs
  have h1:gf (w.setCell ⟨b,off+i,none⟩ v) b (c.setIfInBounds (off+i) v) e fl fh:=by refine⟨?_,by simpa using h.2⟩;simp only[World.setCell,dz];rw[if_pos trivial,h.1];simp
  have y:w.cell? ⟨b,off+i,none⟩=some (c[off+i]'(by omega)):=by rw[h.cell];exact iK _
  simp only[storeCells,aH,eH,run_store P w _ v _ (hv v (by simp)),y,h.free (o:=off+i) (by omega),aP,if_false,ao];rw[F _ _ (i+1) h1 (by simp;omega) (fun u z=>hv u (an _ z))];rfl
theorem oI{d:Nat}{o:aG}{ob:List (Nat×aG)}(y:(ob.map cV).Nodup){p:Nat×aG}(h:p∈setO d o ob):(p=(d,o)/\d∈ob.map cV)\/(p∈ob/\p.1≠d):=by
 induction ob with
 |nil=>simp[setO]at h
 |cons q r F=>
  simp only[ax,fT]at y;simp only[setO]at h;split at h<;>rename_i z
  ·rcases aq.1 h with rfl|h
   ·exact .inl ⟨rfl,by simp[z]⟩
   ·refine .inr ⟨an _ h,fun e=>y.1 ?_⟩
    rw[z,<-e];exact co h
  ·rcases aq.1 h with rfl|h
   ·exact .inr ⟨aD ..,z⟩
   ·rcases F y.2 h with⟨h1,h2⟩|⟨h1,h2⟩
    ·exact .inl ⟨h1,by simp[h2]⟩
    ·exact .inr ⟨an _ h1,h2⟩
theorem LW{d:Nat}{o:aG}(ob:List (Nat×aG)):(setO d o ob).map cV=ob.map cV:=by
 induction ob with
 |nil=>rfl
 |cons q r z=>
  simp only[setO];split<;>rename_i y
  ·simp[y]
  ·simp[z]
theorem dT{s:St}{o:Nat}{y:aG}(h:s.look o=some y):(o,y)∈s.ob:=by
 unfold St.look at h;generalize s.ob=l at h;induction l with
 |nil=>simp at h
 |cons p r F=>
  rw[show p=(p.1,p.2)from rfl,List.lookup_cons]at h;split at h
  ·rename_i z
   have:o=p.1:=by simpa using z
   subst this;simp at h;subst h;simp
  ·exact an _ (F h)
theorem dA.block{C:Ctx}{x:Sit}{ob:List (Nat×aG)}{tk:LAb}{w w':World}(h:dA C x ob tk w){d:Nat}{Z obj':aG}(hd:(d,Z)∈ob)
 (ho:w'.os=w.os) (I:w'.tape=w.tape) (a1:w'.output=w.output) (a7:w'.heap.size=w.heap.size) (hb:∀b,b≠(x.bk d).1->w'.heap[b]? =w.heap[b]?)
 (hr:fa x w' d obj'):dA C x (setO d obj' ob) tk w':=by
 obtain⟨_,a6,K⟩:=h.obs _ hd;have F:∀p∈ob,p.1≠d->(x.bk p.1).1≠(x.bk d).1:=fun p y z e=>z (h.inj p y _ hd e)
 refine⟨?_,h.g0,h.gm,h.new, ?_,by rw[LW];exact h.nd, ?_, ?_, ?_,h.tkd,ho.trans h.os,I.trans h.tape,a1.trans h.output,by rw[a7];exact h.size, ?_,h.pin,h.lay⟩
 ·intro b o v hv
  have:b≠(x.bk d).1:=by rintro rfl;simp[K]at hv
  rw[dV (hb b this)];exact h.per b o v hv
 ·intro p y
  rcases oI h.nd y with⟨rfl,_⟩|⟨y,z⟩
  ·exact⟨hr,a6,K⟩
  ·obtain⟨⟨c,e,fl,fh,hO,r⟩,q⟩:=h.obs p y
   exact⟨⟨c,e,fl,fh,hO.of_heap (hb _ (F p y z)),r⟩,q⟩
 ·intro p y q hq H
  rcases oI h.nd y with⟨rfl,_⟩|⟨y,z⟩<;>rcases oI h.nd hq with⟨rfl,_⟩|⟨hq,hqd⟩
  ·rfl
  ·exact absurd H.symm (F q hq hqd)
  ·exact absurd H (F p y z)
  ·exact h.inj p y q hq H
 ·intro t I
  rcases h.tks t I with h'|⟨⟨c,e,fl,fh,hO,r⟩,q⟩
  ·exact .inl h'
  ·rcases h.tko t I _ hd with J|J
   ·exact .inr ⟨⟨c,e,fl,fh,hO.of_heap (hb _ J),r⟩,q⟩
   ·exact .inl J
 ·intro t I p y
  rcases oI h.nd y with⟨rfl,_⟩|⟨y,_⟩
  ·exact h.tko t I (d,Z) hd
  ·exact h.tko t I p y
 ·intro b Q
  rw[hb b (fun e=>Q (e ▸ a6))];exact h.ext b Q
def Sit.fill(x:Sit)(b lo:Nat)(vs:LAd):Sit:= {x with G:=fun y o=>if y=b/\lo<=o/\o<lo+vs.length then some (vs.getD (o-lo) undef)else x.G y o}
theorem dA.fill{C:Ctx}{x:Sit}{ob:List (Nat×aG)}{tk:LAb}{w:World}(h:dA C x ob tk w){t:Nat}(ht:t∈tk){b lo hi:Nat}(hτ:x.τ t=(b,lo,hi))
 (vs:LAd) (d4:lo+vs.length<=hi) (h0:0<vs.length):
 (∀z o v,x.G z o=some v->(x.fill b lo vs).G z o=some v)/\dA C (x.fill b lo vs) ob (df t (t+1) tk) (dQ w b lo vs)/\
 (∃c e fl fh,gf (dQ w b lo vs) b c e fl fh/\hi<=c.size)/\C.mine b/\(∀o,lo+vs.length<=o->o<hi->(x.fill b lo vs).G b o=none)/\
 (∀p∈ob,b≠(x.bk p.1).1)/\(∀u∈df t (t+1) tk,nv (b,lo+vs.length,hi) (x.τ u)\/(x.τ u).2.1=(x.τ u).2.2)/\(∃c e fl fh,gf w b c e fl fh/\hi<=c.size):=by
 have H:=h.tks t ht;unfold jh at H;rw[hτ]at H;rcases H with H|⟨⟨c,e,fl,fh,hO,hc⟩,hm,hg⟩
 ·simp only at H;omega
 simp only at hc hm hg hO;obtain⟨g1,g2,g3,g4,g5⟩:=jG b vs w lo;obtain⟨c',a7,b7,d3⟩:=iZ vs w lo c hO (by omega)
 have b0:∀p∈ob,b≠(x.bk p.1).1:=by
  intro p hp;have:=h.tko t ht p hp;rw[hτ]at this;rcases this with h'|h'
  ·exact h'
  ·simp only at h';omega
 have K:∀z o v,x.G z o=some v->(x.fill b lo vs).G z o=some v:=by
  intro z o v hv;simp only[Sit.fill];rw[if_neg ?_]
  ·exact hv
  ·rintro⟨rfl,h1,h2⟩
   rw[hg o h1 (by omega)]at hv;cases hv
 refine⟨K,⟨?_,fun b o v hv=>K b o v (h.g0 b o v hv), ?_,h.new, ?_,h.nd,h.inj, ?_, ?_, ?_,g1.trans h.os,g2.trans h.tape,g3.trans h.output,by rw[g4];exact h.size, ?_,h.pin,h.lay⟩,
  ⟨c',e,fl,fh,a7,by omega⟩,hm, ?_,b0, ?_,⟨c,e,fl,fh,hO,hc⟩⟩
 ·intro z o v hv
  by_cases hb:z=b
  ·subst hb
   rw[a7.cell];simp only[Sit.fill]at hv;have hk:=d3 o;split at hv
   ·rename_i I
    rw[if_pos I.2]at hk;have ho:o<c'.size:=by omega
    rw[iK ho];have:c'.getD o undef=c'[o]:=by simp[lU,ho]
    rw[<-this,hk];exact hv
   ·rename_i I
    have Z:=h.per _ _ _ hv;rw[hO.cell]at Z
    have ho:o<c.size:=by
     rcases bq o c.size with h'|h'
     ·exact h'
     ·simp[Array.getElem?_eq_none h']at Z
    rw[if_neg (by rintro⟨h1,h2⟩;exact I ⟨trivial,h1,h2⟩)]at hk;rw[iK (by omega)];have e1:c'.getD o undef=c'[o]'(by omega):=by simp[lU,show o<c'.size from by omega]
    have e2:c.getD o undef=c[o]:=by simp[lU,ho]
    rw[iK ho]at Z;rw[<-e1,hk,e2];exact Z
  ·rw[dV (g5 z hb)]
   refine h.per z o v ?_;simp only[Sit.fill]at hv;rwa[if_neg (by rintro⟨h1,_⟩;exact hb h1)]at hv
 ·intro z o v hv
  simp only[Sit.fill]at hv;split at hv
  ·rename_i I;right;rw[I.1];exact hm
  ·exact h.gm z o v hv
 ·intro p hp
  obtain⟨h1,c7,b3⟩:=h.obs p hp;have Q:=b0 p hp;refine⟨?_,c7,fun off=> ?_⟩
  ·obtain⟨c2,e2,a6,a8,J,a1,b2⟩:=h1
   refine⟨c2,e2,a6,a8,J.of_heap (g5 _ (fun e=>Q e.symm)),a1,fun k hk=> ?_⟩;have:=b2 k hk;generalize p.2=b6 at*;cases b6 with
   |rc cs=>exact Rep.grow K rfl rfl this
   |arr sz xs=>exact bU.mono K this
   |bar l=>exact bU.mono K this
  ·simp only[Sit.fill]
   rw[if_neg (by rintro⟨h1,_⟩;exact Q h1.symm)];exact b3 off
 ·intro u F
  obtain⟨F,Q⟩:=bP.1 F;have y:=h.tkd t ht u F (by omega);rw[hτ]at y;refine(h.tks u F).imp id ?_;rintro⟨⟨c2,e2,a6,a8,J,a1⟩,b4,b5⟩;refine⟨?_,b4,fun o h1 h2=> ?_⟩
  ·by_cases hb:(x.τ u).1=b
   ·rw[hb]at J
    have e1:=J.1.symm.trans hO.1;simp at e1;exact⟨c',e,fl,fh,by rw[show((x.fill b lo vs).τ u).1=b from hb];exact a7,by rw[b7,<-e1.1];exact a1⟩
   ·exact⟨c2,e2,a6,a8,J.of_heap (g5 _ hb),a1⟩
  ·show(x.fill b lo vs).G (x.τ u).1 o=none
   simp only[Sit.fill];rw[if_neg ?_]
   ·exact b5 o h1 h2
   ·rintro⟨e1,e2,e3⟩
    change (x.τ u).2.1<=o at h1;change o<(x.τ u).2.2 at h2;rcases y with y|y|y
    ·exact y e1.symm
    ·simp only at y;omega
    ·omega
 ·intro u F p hp
  exact h.tko u (bP.1 F).1 p hp
 ·intro u F v hv b8
  exact h.tkd u (bP.1 F).1 v (bP.1 hv).1 b8
 ·intro z b1
  rw[g5 z (fun e=>b1 (e ▸ hm))];exact h.ext z b1
 ·intro o h1 h2
  simp only[Sit.fill];rw[if_neg (by rintro⟨_,_,h3⟩;omega)];exact hg o (by omega) h2
 ·intro u F
  obtain⟨F,Q⟩:=bP.1 F;have y:=h.tkd t ht u F (by omega);rw[hτ]at y;unfold nv at*;simp only at*;rcases y with y|y|y
  ·left;exact y
  ·omega
  ·exact .inr y
theorem ib{lo hi:Nat}{tk:LAb}{t:Nat}(h:t∈df lo hi tk):t∈tk:=(bP.1 h).1
theorem dA.sub{C:Ctx}{x:Sit}{ob H:List (Nat×aG)}{tk tk':LAb}{w:World}(h:dA C x ob tk w)(z:H.Sublist ob)(I:∀t∈tk',t∈tk):dA C x H tk' w:=
 ⟨h.per,h.g0,h.gm,h.new,fun p y=>h.obs p (z.subset y),h.nd.sublist (z.map _),fun p y q J=>h.inj p (z.subset y) q (z.subset J),fun t F=>h.tks t (I t F),
  fun t F p y=>h.tko t (I t F) p (z.subset y),fun t F u hv=>h.tkd t (I t F) u (I u hv),h.os,h.tape,h.output,h.size,h.ext,h.pin,h.lay⟩
def Ht:SV->Value->Bool
 | .bool b,.bool c=>b==c
 | .int k n,.int k' m=>decide (k=k')&&decide (n=m)
 | .u8 b,.int .u8 n=>decide (n=b.toNat)
 | .str l,.string s=>decide (s.data.toList=l)
 | .byt [] _,.slice none 0 0=>true
 | .lst _ [] _,.slice none 0 0=>true
 | .nilp,.pointer none=>true
 | .nili,.nilIface=>true
 |_,_=>false
def nY(P:Program)(e:TypeId):Bool:=match P.underlying e with|some (.int .u8)=>true|_=>false
def vM(P:Program)(t:TypeId):Option Bool:=(P.underlying t).map fun| .struct _| .array _ _=>true|_=>false
def gJ(P:Program)(t:TypeId):LAc:=(P.info? t).map (·.size)
def Ii(P:Program)(t:TypeId):LAc:=(P.info? t).map (·.bytes)
def cvT(P:Program)(t:TypeId):Value->Option SV
 | .bool b=>some (.bool b)
 | .int .u8 n=>some (.u8 (eL n.toNat))
 | .int k n=>some (.int k n)
 | .string s=>some (.str s.data.toList)
 | .pointer none=>some .nilp
 | .nilIface=>some .nili
 | .slice none 0 0=>match P.underlying t with
  |some (.slice e)=>some (if nY P e then .byt [] .clip else .lst (P.cellsOf e) [] .clip)
  |_=>none
 |_=>none
def bG(P:Program)(t:TypeId):Operand->Option Arg
 | .tmp n=>some (.t n)
 | .const v=>(cvT P t v).bind fun sv=>if Ht sv v then some (.c sv)else none
 | .func f=>some (.f f)
 | .global g=>(bl.cells g).map fun cs=> .c (.pp cs)
def pI(P:Program):Nat->TypeId->List TypeId
 |0,_=> []
 |d+1,t=>match P.underlying t with
  |some (.struct fs)=>fs.toList.flatMap fun f=>pI P d f.type
  |some (.array n e)=>(aB n (pI P d e)).flatten
  |_=> [t]
def JI(P:Program):List TypeId->LAd->Option LAa
 |[],[]=>some []
 |t::ts,v::vs=>match cvT P t v,JI P ts vs with
  |some s,some r=>some (s::r)
  |_,_=>none
 |_,_=>none
def iL(P:Program)(t:TypeId):Option LAd:=(P.info? t).bind fun i=>i.zero.map fun z=>z.cells.toList
def J2(cs:LAa)(vs:LAd):Bool:=decide (cs.length=vs.length)&&(bQ cs.length).all fun i=>Ht (cs.getD i .undef) (vs.getD i undef)
def ov(P:Program)(t:TypeId):Option LAa:=(iL P t).bind fun vs=>(JI P (pI P 30 t) vs).bind fun cs=>if J2 cs vs then some cs else none
def Mr(P:Program)(t:TypeId):Option LAa:=(ov P t).map (List.map SV.data)
def Mp(P:Program)(t:TypeId):Option aG:=
 match P.underlying t with
 |some (.array n e)=>if nY P e then some (.bar (aB n 0))else match P.underlying e with
  |some (.slice _)=>(ov P e).map fun z=> .rc (aB n z).flatten
  |_=>(ov P e).map fun z=> .arr z.length (aB n z)
 |_=>(ov P t).map .rc
def Ui(o:aG)(vs:LAd):Bool:=decide (o.size<=vs.length)&&(bQ o.size).all fun k=>Ht (o.cell k) (vs.getD k undef)
def kY{α β:Type}(f:α->Option β):List α->Option (List β)
 |[]=>some []
 |a::r=>match f a,kY f r with
  |some b,some s=>some (b::s)
  |_,_=>none
def AO{α β:Type}(f:α->Option β):Option α->Option (Option β)
 |none=>some none
 |some a=>(f a).map some
def u7(P:Program)(t:TypeId):LAc:=
 match P.underlying t with
 |some .bool=>some 0
 |some (.int _)=>some 1
 |some .string=>some 2
 |_=>none
def Cm(P:Program):Nat->List Field->Option LAb
 |_,[]=>some []
 |k,f::r=>if f.name≠ "_" /\f.offset=k then(match u7 P f.type,Cm P (k+1) r with
  |some t,some ts=>some (t::ts)
  |_,_=>none)else none
def xaQ(P:Program)(f:FuncId):Bool:=
 match P.funcs[f]? with
 |some fn=>fn.body.isNone&& !(fn.name== "runtime.NumGoroutine")&&(Extern.findNext fn).isNone&&decide (fn.origin= "slices.overlaps")&&
  (Extern.allGenericRows.lookup fn.name).isNone&&(Extern.allTypedRows.lookup fn.name).isNone&&(Extern.allRows.lookup fn.name).isNone&&
  (match fn.params[0]? with|some t=>(match P.underlying t with|some (.slice e)=>(gJ P e).isSome|_=>false)|none=>false)
 |none=>false
def z0:LAa->Bool
 |[.u8 b]=>b==0
 |_=>false
def cw(P:Program)(o:Oper):Option SOp:=
 match o.op with
 | .move x=>(bG P o.type x).map .mov
 | .assign x=>(bG P o.type x).map .mov
 | .pick c a b=>match bG P 0 c,bG P o.type a,bG P o.type b with
  |some c,some a,some b=>some (.pick c a b)
  |_,_,_=>none
 | .alloc e=>match Mp P e,iL P e with
  |some o,some z=>if Ui o z then some (.new o)else none
  |_,_=>none
 | .box e x=>(bG P e x).map .box
 | .build t F=>match P.underlying t,ov P t with
  |some (.struct fs),some z=>
   if fs.toList.all fun f=>(P.info? f.type).isSome then
    (kY (fun p=>match fs[p.1]? with
     |some f=>match gJ P f.type,bG P f.type p.2 with
      |some n,some a=>some (f.offset,n,a)
      |_,_=>none
     |none=>none) F.toList).map (.build z)
   else none
  |some (.array _ e),some z=>match gJ P e with
   |some n=>(kY (fun p=>(bG P e p.2).map fun a=>(p.1*n,n,a)) F.toList).map (.build z)
   |none=>none
  |_,_=>none
 | .buildSlice t len F=>match P.underlying t with
  |some (.slice e)=>match gJ P e,iL P e with
   |some n,some _=>
    if decide (F.toList.map (·.1)=bQ len)&&decide (len*n<=16777216)&&(!nY P e||decide (n=1))then
     (kY (fun p=>bG P e p.2) F.toList).map fun K=>if nY P e then .litB K else .lit n K
    else none
   |_,_=>none
  |_=>none
 | .load t a=>match gJ P t,vM P t,bG P 0 a with
  |some n,some ag,some a=>if ag||n==1 then some (.load n ag a)else none
  |_,_,_=>none
 | .store t a x=>match gJ P t,bG P 0 a,bG P t x with
  |some n,some a,some x=>some (.store n a x)
  |_,_,_=>none
 | .nilCheck x=>(bG P o.type x).map .nchk
 | .binOp op J x y Z=>match P.underlying J,bG P J x,bG P Z y with
  |some .bool,some _,some _=>none
  |some (.int _),some x,some y=>some (.bin op x y)
  |some .string,some x,some y=>some (.bin op x y)
  |some (.struct fs),some x,some y=>
   match Cm P 0 fs.toList with
   |
    some Q=>if !P.stoodInHeld J&& !P.eqGuardType P.depth J then
    (match op with
    | .eql=>some (.eqS false Q x y)
    | .neq=>some (.eqS true Q x y)
    |_=>none)
    else none
   |none=>none
  |some (.slice _),some _,some _=>none
  |some (.interface _),some x,some _=>match op,y with
   | .eql,.const .nilIface=>some (.isni false x)
   | .neq,.const .nilIface=>some (.isni true x)
   |_,_=>none
  |some (.array n e),some x,some y=>
   match u7 P e,gJ P e with
   |
    some t,some 1=>if !P.eqGuardType P.depth J then
    (match op with
    | .eql=>some (.eqS false (aB n t) x y)
    | .neq=>some (.eqS true (aB n t) x y)
    |_=>none)
    else none
   |_,_=>none
  |_,_,_=>none
 | .unOp op t x=>(bG P t x).map (.un op)
 | .convert H dst x=>match P.underlying H,P.underlying dst,bG P H x with
  |some (.int _),some (.int k),some x=>some (.toInt k x)
  |some (.slice e),some .string,some x=>if nY P e then some (.b2s x)else none
  |some .string,some (.slice e),some x=>if nY P e then some (.s2b x)else none
  |some (.slice _),some (.slice e),some x=>if decide (H=dst)&&nY P e then some (.slid x)else none
  |_,_,_=>none
 | .makeFunc (.func f) first cap=>match kY (bG P 0) first.toList,kY (bG P 0) cap.toList with
  |some a,some b=>some (.mkfn f a b)
  |_,_=>none
 | .makeSlice t l c=>match P.underlying t with
  |some (.slice e)=>match gJ P e,Ii P e,Mr P e,bG P 0 l,bG P 0 c with
   |some n,some by_,some z,some l,some c=>if nY P e then(if n=1/\by_=1/\z0 z=true then some (.mkB l c)else none)else(if z.length=n/\n≠0 then some (.mk z by_ l c)else none)
   |_,_,_,_,_=>none
  |_=>none
 | .slice t x lo hi I=>match AO (bG P 0) lo,AO (bG P 0) hi,AO (bG P 0) I,bG P t x with
  |some lo,some hi,some I,some x=>if I.isSome&&hi.isNone then none else match P.underlying t with
   |some .string=>if I.isNone then some (.slcS x lo hi)else none
   |some (.slice e)=>match gJ P e with
    |some n=>some (.slcL n x lo hi I)
    |none=>none
   |_=>none
  |_,_,_,_=>none
 | .fieldAddr t x i=>match P.underlying t,bG P 0 x with
  |some (.struct fs),some x=>match fs[i]? with
   |some f=>match gJ P f.type with
    |some n=>if n=0 then none else some (.faddr f.offset x)
    |none=>none
   |none=>none
  |_,_=>none
 | .indexAddr t x i=>match P.underlying t,bG P t x,bG P 0 i with
  |some (.slice e),some x,some i=>match gJ P e with
   |some n=>some (.iaddrL n x i)
   |none=>none
  |some (.array k e),some x,some i=>match gJ P e with
   |some n=>some (.iaddrA k n x i)
   |none=>none
  |_,_,_=>none
 | .index t x i=>match P.underlying t,bG P t x,bG P 0 i with
  |some (.array k e),some x,some i=>match gJ P e,vM P e with
   |some n,some ag=>if ag||n==1 then some (.idxA k n ag x i)else none
   |_,_=>none
  |some .string,some x,some i=>some (.idxS x i)
  |_,_,_=>none
 | .extract x i=>(bG P 0 x).map (.ext · i)
 | .call c=>match c.callee with
  | .value f=>match bG P 0 f,kY (fun p=>bG P p.2 p.1) (c.args.toList.zip c.argTypes.toList)with
   |some f,some a_=>if c.args.size=c.argTypes.size then(match f,a_ with
    | .f g,[x,y]=>if xaQ P g then none else some (.call (.f g) [x,y])
    |f,a_=>some (.call f a_))else none
   |_,_=>none
  | .builtin .len=>match c.args.toList,c.argTypes.toList with
   |[x],[t]=>match P.underlying t,bG P t x with
    |some .string,some x=>some (.len true x)
    |some (.slice _),some x=>some (.len false x)
    |_,_=>none
   |_,_=>none
  | .builtin .append=>match c.args.toList,c.argTypes.toList with
   |[x,y],[t,u]=>match P.underlying t,P.underlying u,bG P t x,bG P u y with
    |some (.slice e),some d,some x,some y=>match gJ P e,Ii P e,ov P e with
     |some n,some b,some z=>if decide (b≠0)&&decide (n≠0)&&decide (z.length=n)then(match d with
      | .slice _=>some (.app z b x y)
      | .string=>if nY P e then some (.app z b x y)else none
      | .int _=>none
      |_=>none)else none
     |_,_,_=>none
    |_,_,_,_=>none
   |_,_=>none
  | .builtin .copy=>match c.args.toList,c.argTypes.toList with
   |[x,y],[t,u]=>match P.underlying t,bG P t x,bG P u y with
    |some (.slice e),some x,some y=>match gJ P e with
     |some n=>some (.cpy n x y)
     |none=>none
    |_,_,_=>none
   |_,_=>none
  | .builtin .min=>match c.args.toList,c.argTypes.toList with
   |[x,y],[t,u]=>match bG P t x,bG P u y with
    |some x,some y=>some (.mini x y)
    |_,_=>none
   |_,_=>none
  | .builtin .max=>match c.args.toList,c.argTypes.toList with
   |[x,y],[t,u]=>match bG P t x,bG P u y with
    |some x,some y=>some (.maxi x y)
    |_,_=>none
   |_,_=>none
  |_=>none
 |_=>none
def Vt(ops:Array Oper)(d:Nat):Bool:=ops.any fun o=>match o.op with
 | .convert src dst (.tmp k)=>decide (src=dst)&&k==d
 |_=>false
def rb(ops:Array Oper)(d:LAc)(so:SOp):SOp:=
 match so,d with
 | .litB xs,some d=>if Vt ops d then .newB xs else .litB xs
 |so,_=>so
theorem Jm(ops:Array Oper)(d:LAc)(so:SOp):rb ops d so=so\/∃y,so= .litB y/\rb ops d so= .newB y:=by
 unfold rb;split
 ·split
  ·exact .inr ⟨_,rfl,rfl⟩
  ·exact .inl rfl
 ·exact .inl rfl
def ia(P:Program)(ops:Array Oper)(o:Oper):Option SI:=
 match cw P o,o.guard with
 |some so,none=>some ⟨o.dst,none,rb ops o.dst so⟩
 |some so,some (j,b)=>match (ops[j]?).bind (·.dst)with
  |some g=>some ⟨o.dst,some (g,b),rb ops o.dst so⟩
  |none=>none
 |none,_=>none
def xaj:SOp->Bool
 | .new _| .box _| .mk _ _ _ _| .mkB _ _| .app _ _ _ _| .newB _=>true
 |_=>false
def xfk(l:LAf):LAb:=l.filterMap fun i=>if xaj i.op then some (i.dst.getD 0+100)else none
def Arg.tmps:Arg->LAb
 | .t n=> [n]
 |_=> []
def SI.reads(i:SI):LAb:=(i.op.args.flatMap Arg.tmps)++(match i.g with|some (g,_)=> [g]|none=> [])
def Qv(b:LAb)(l:LAf):Bool:=
 (bQ l.length).all fun j=>(bQ l.length).all fun i=>i==j||
  (match (l.getD i ⟨none,none,.nchk (.c .undef)⟩).dst with
   |some d=> !((l.getD j ⟨none,none,.nchk (.c .undef)⟩).reads.contains d)||(b.getD (max i j) 0).testBit (min i j)
   |none=>true)
def uf(ops:Array Oper)(b:LAb):Bool:=
 ops.toList.zipIdx.all fun(o,i)=>(o.after.all fun e=> !Region.binds .any e||decide (e.on<i))&&
  (bQ ops.size).all fun k=> !(b.getD i 0).testBit k||(decide (k<i)&&o.after.any fun e=>Region.binds .any e&&(e.on==k||(b.getD e.on 0).testBit k))
def drawn(ops:Array Oper)(l:LAf):Bool:=
 let b:=(Region.before ops).toList
 uf ops b&&Qv b l&&decide (l.filterMap (·.dst)).Nodup
def bm(P:Program):Code->Option ij
 | .skip=>some .skip
 | .region _ ops y=>match kY (ia P ops) ops.toList with
  |some l=>
   if y then(if drawn ops l&&P.follows .mixedOrders then some (.drw (Region.before ops).toList (xfk l) l)else none)
   else some (.ops l)
  |none=>none
 | .seq a b=>match bm P a,bm P b with
  |some a,some b=>some (.seq a b)
  |_,_=>none
 | .cond c a b=>match bG P 0 c,bm P a,bm P b with
  |some c,some a,some b=>some (.cond c a b)
  |_,_,_=>none
 | .block id b=>(bm P b).map (.block id)
 | .loop b=>(bm P b).map .loop
 | .exit id=>some (.exit id)
 | .ret=>some .ret
 |_=>none
def cK(P:Program):Code->ij
 | .skip=> .skip
 | .exit id=> .exit id
 | .ret=> .ret
 | .seq a b=> .seq (cK P a) (cK P b)
 | .cond c a b=>match bG P 0 c with
  |some k=> .cond k (cK P a) (cK P b)
  |none=> .bad
 | .block id b=> .block id (cK P b)
 | .loop b=> .loop (cK P b)
 | .region id ops y=>match bm P (.region id ops y)with
  |some s=>s
  |none=> .bad
 |_=> .bad
variable {P:Program}{C:Ctx}{x:Sit}{s:St}{a:Act}{w:World}
theorem oy{G:GM}{c:SV}{v:Value}(h:Ht c v=true):bU G c v:=by
 unfold Ht at h;split at h
 ·simp at h;subst h;exact .bool _
 ·simp at h;obtain⟨rfl,rfl⟩:=h;exact .int _ _
 ·simp at h;subst h;exact .u8 _
 ·rename_i l s
  simp at h;obtain⟨⟨d⟩⟩:=s;simp at h;subst h;exact .str _
 ·exact .bytN _
 ·exact .lstN _ _
 ·exact .nilp
 ·exact .nili
 ·cases h
theorem KB{x:Sit}{c:SV}{v:Value}(h:Ht c v=true):ND x c v:=by
 unfold Ht at h;split at h
 all_goals first
  |trivial
  |(
   rename_i t;cases t with
   |no=>trivial
   |clip=>exact⟨none,0,rfl⟩
   |id t=>exact⟨none,0,0,rfl,.inl rfl⟩)
  |(cases h;done)
theorem tH{x:Sit}{c:SV}{v:Value}(h:Ht c v=true):Rep x c v:= .dat _ _ (oy h) (KB h)
theorem cB.get{cs:LAa}{vs:LAd}(h:cB x cs vs)(i:Nat):Rep x (cs.getD i .undef) (vs.getD i undef):=by
 rcases bq i cs.length with hi|hi
 ·exact h.2 i hi
 ·rw[aa,fI hi];exact .undef _
theorem cB.set{cs:LAa}{vs:LAd}(h:cB x cs vs)(d:Nat){c:SV}{v:Value}(z:Rep x c v):cB x (cs.set d c) (vs.set d v):=by
 refine⟨by simpa using h.1,fun i hi=> ?_⟩;simp only[bM]at hi;simp only[aa,lx]
 by_cases y:d=i
 ·subst y
  rw[if_pos rfl,if_pos hi,if_pos rfl,if_pos (by rw[<-h.1];exact hi)];exact z
 ·rw[if_neg y,if_neg y]
  have:=h.get i;simpa only[aa]using this
theorem aY.slot(h:aY C x s a w)(n:Nat):Rep x (s.get n) (a.tmps.getD n undef):=by have:=h.tm.get n;simpa[St.get,bT]using this
theorem aY.put(h:aY C x s a w)(d:LAc){c:SV}{v:Value}(y:Rep x c v):aY C x (s.put d c) (a.put d v) w:=by
 cases d with
 |none=>exact h
 |some d=>refine⟨?_,h.defers,h.heap⟩;have:=h.tm.set d y;simpa[St.put,Act.put]using this
theorem aV{t:TypeId}{o:Operand}{r:Arg}(h:aY C x s a w)(y:bG P t o=some r):Rep x (s.ev r) (a.eval o):=by
 cases o with
 |tmp n=>simp only[bG]at y;cases y;exact h.slot n
 |const v=>
  simp only[bG]at y;cases hc:cvT P t v with
  |none=>simp[hc]at y
  |some sv=>
   simp only[hc,dm]at y;split at y
   ·cases y;rename_i hs;exact tH hs
   ·cases y
 |func f=>simp only[bG]at y;cases y;exact .fn f [] [] [] [] rfl (fun i hi=>by simp at hi) rfl (fun i hi=>by simp at hi)
 |global g=>
  simp only[bG]at y;obtain⟨cs,z,rfl⟩:=aj.1 y;have H:=(h.heap.lay.mono h.heap.g0) g cs z;refine .dat _ _ (.pp cs g 0 (fun j=>(x.G g j).getD undef) (fun j F=> ?_) (fun j F=> ?_)) trivial
  ·obtain⟨v,hv,_⟩:=H j F
   rw[de,hv];rfl
  ·obtain⟨v,hv,y⟩:=H j F
   rw[hv];exact y
def cU(P:Program)(C:Ctx)(o:Oper)(a:Act)(w:World)(s':St):Prop:=
 ∃u w' x' n,(execOp a.eval o).run P w= .ok n w'/\(n= .value u\/(n= .skip/\u=undef))/\aY C x' s' (a.put o.dst u) w'
theorem cU.val{o:Oper}{m:Sem Value}{u:Value}{c:SV}(h:aY C x s a w)(F:execOp a.eval o=(do pure (.value (<-m))))(y:m.run P w= .ok u w)(z:Rep x c u):
 cU P C o a w (s.put o.dst c):=
 ⟨u,w,x,.value u,by rw[F];simp[y],.inl rfl,h.put o.dst z⟩
theorem cU.grow{o:Oper}{m:Sem Value}{u:Value}{c:SV}{x':Sit}{w':World}(h:aY C x s a w)(z:execOp a.eval o=(do pure (.value (<-m))))(y:m.run P w= .ok u w')
 (K:∀b o v,x.G b o=some v->x'.G b o=some v) (H:x'.bk=x.bk) (I:x'.τ=x.τ) (F:dA C x' s.ob s.tk w') (J:Rep x' c u):
 cU P C o a w (s.put o.dst c):=
 ⟨u,w',x',.value u,by rw[z];simp[y],.inl rfl,aY.put ⟨h.tm.grow K H I,h.defers,F⟩ o.dst J⟩
theorem Rep.int_inv{k:IntKind}{n:Int}{v:Value}(h:Rep x (.int k n) v):v= .int k n:=by
 cases h with|dat _ _ h _=>cases h;rfl
theorem Rep.bool_inv{b:Bool}{v:Value}(h:Rep x (.bool b) v):v= .bool b:=by
 cases h with|dat _ _ h _=>cases h;rfl
theorem Rep.u8_inv{b:UInt8}{v:Value}(h:Rep x (.u8 b) v):v= .int .u8 b.toNat:=by
 cases h with|dat _ _ h _=>cases h;rfl
theorem Rep.str_inv{l:t8}{v:Value}(h:Rep x (.str l) v):v= .string ⟨⟨l⟩⟩:=by
 cases h with|dat _ _ h _=>cases h;rfl
theorem Rep.ptr_inv{o off:Nat}{v:Value}(h:Rep x (.ptr o off) v):v= .pointer (some ⟨(x.bk o).1,off,none⟩):=by
 cases h with
 |dat _ _ h _=>cases h
 |ptr=>rfl
theorem Rep.ap_inv{o sz i j:Nat}{v:Value}(h:Rep x (.ap o sz i j) v):v= .pointer (some ⟨(x.bk o).1,i*sz+j,none⟩):=by
 cases h with
 |dat _ _ h _=>cases h
 |ap=>rfl
theorem Rep.psl_inv{o sz off n:Nat}{cap:LAc}{v:Value}(h:Rep x (.psl o sz off n cap) v):∃y,n<=y/\(∀c,cap=some c->c=y)/\∃z,v= .slice (some ⟨(x.bk o).1,z,none⟩) n y/\(y=0\/z=off*sz):=by
 cases h with
 |dat _ _ h _=>cases h
 |psl _ _ _ _ _ z y h H F _=>exact⟨y,H,F,z,rfl,h⟩
theorem Rep.psl_invA{o sz off n:Nat}{cap:LAc}{v:Value}(h:Rep x (.psl o sz off n cap) v):∃y,n<=y/\(∀c,cap=some c->c=y)/\∃z,v= .slice (some ⟨(x.bk o).1,z,none⟩) n y/\(y=0\/z=off*sz)/\(cap=none->y=0\/z+y*sz<=(x.bk o).2):=by
 cases h with
 |dat _ _ h _=>cases h
 |psl _ _ _ _ _ z y h I H F=>exact⟨y,I,H,z,rfl,h,F⟩
theorem Rep.psl_invK{o sz off n:Nat}{v:Value}(h:Rep x (.psl o sz off n none) v):∃y,n<=y/\∃z,v= .slice (some ⟨(x.bk o).1,z,none⟩) n y/\(y=0\/z=off*sz)/\(y=0\/z+y*sz<=(x.bk o).2):=by
 cases h with
 |dat _ _ h _=>cases h
 |psl _ _ _ _ _ z y h H I F=>exact⟨y,H,z,rfl,h,F rfl⟩
theorem Rep.agg_inv{cs:LAa}{v:Value}(h:Rep x (.agg cs) v):∃vs,v= .agg ⟨vs⟩/\cB x cs vs:=by
 cases h with
 |dat _ _ h _=>cases h
 |agg _ vs y h=>exact⟨vs,rfl,y,h⟩
theorem Rep.tup_inv{cs:LAa}{v:Value}(h:Rep x (.tup cs) v):∃vs,v= .tuple ⟨vs⟩/\cB x cs vs:=by
 cases h with
 |dat _ _ h _=>cases h
 |tup _ vs y h=>exact⟨vs,rfl,y,h⟩
theorem Rep.fn_inv{f:Nat}{c1 c2:LAa}{v:Value}(h:Rep x (.fn f c1 c2) v):∃y v2,v= .func (.func f) ⟨y⟩ ⟨v2⟩/\cB x c1 y/\cB x c2 v2:=by
 cases h with
 |dat _ _ h _=>cases h
 |fn _ _ _ y v2 h1 h2 h3 h4=>exact⟨y,v2,rfl,⟨h1,h2⟩,⟨h3,h4⟩⟩
theorem Rep.pp_inv{cs:LAa}{v:Value}(h:Rep x (.pp cs) v):∃(b off:Nat)(val:Nat->Value),v= .pointer (some ⟨b,off,none⟩)/\(∀j,j<cs.length->x.G b (off+j)=some (val j))/\∀j,j<cs.length->bU x.G (cs.getD j .undef) (val j):=by
 cases h with
 |dat _ _ h _=>cases h with|pp _ b off val y h=>exact⟨b,off,val,rfl,y,h⟩
theorem Rep.nilp_inv{v:Value}(h:Rep x .nilp v):v= .pointer none:=by
 cases h with|dat _ _ h _=>cases h;rfl
theorem Rep.ife_inv{v:Value}(h:Rep x .ife v):∃t u,v= .iface t u:=by
 cases h with|dat _ _ h _=>cases h;exact⟨_,_,rfl⟩
theorem Rep.nili_inv{v:Value}(h:Rep x .nili v):v= .nilIface:=by
 cases h with|dat _ _ h _=>cases h;rfl
theorem Rep.byt_inv{l:t8}{t:Tok}{v:Value}(h:Rep x (.byt l t) v):∃b cap,v= .slice b l.length cap/\l.length<=cap/\bU x.G (.byt l t) v/\dX x 1 t v:=by
 cases h with
 |dat _ _ h y=>
  cases h with
  |bytN=>exact⟨none,0,rfl,by simp,.bytN _,y⟩
  |bytE _ a=>exact⟨some a,0,rfl,by simp,.bytE _ a,y⟩
  |byt _ _ b off cap n F z h=>subst F;exact⟨_,cap,rfl,z,.byt _ _ b off cap _ rfl z h,y⟩
theorem Rep.lst_inv{sz:Nat}{y:f9}{t:Tok}{v:Value}(h:Rep x (.lst sz y t) v):∃b cap,v= .slice b y.length cap/\y.length<=cap/\bU x.G (.lst sz y t) v/\dX x sz t v:=by
 cases h with
 |dat _ _ h z=>
  cases h with
  |lstN=>exact⟨none,0,rfl,by simp,.lstN _ _,z⟩
  |lstE _ _ a=>exact⟨some a,0,rfl,by simp,.lstE _ _ a,z⟩
  |lst _ _ _ b off cap n val J F H I h=>subst J;exact⟨_,cap,rfl,F,.lst _ _ _ b off cap _ val rfl F H I h,z⟩
theorem dH(k:IntKind)(n:Int):Rep x (.int k n) (.int k n):= .dat _ _ (.int k n) trivial
theorem eF(b:Bool):Rep x (.bool b) (.bool b):= .dat _ _ (.bool b) trivial
theorem qV(b:UInt8):Rep x (.u8 b) (.int .u8 b.toNat):= .dat _ _ (.u8 b) trivial
theorem oU(l:t8):Rep x (.str l) (.string ⟨⟨l⟩⟩):= .dat _ _ (.str l) trivial
theorem K0{op:BinOp}{t:TypeId}{k:IntKind}{m n:Int}{p:Prop}{c:SV}(h:S1 op k m n=some (p,c))(y:p):
 ∃r,(binOp op t (.int k m) (.int k n)).run P w= .ok r w/\Rep x c r:=by
 cases op<;>simp only[S1,P8,bz,ay.injEq,bA.injEq,reduceCtorEq]at h<;>obtain⟨rfl,rfl⟩:=h
 ·exact⟨.int k (k.wrap (m+n)),by simp[binOp,Op.intArith],dH _ _⟩
 ·exact⟨.int k (k.wrap (m-n)),by simp[binOp,Op.intArith],dH _ _⟩
 ·exact⟨.int k (k.wrap (m*n)),by simp[binOp,Op.intArith],dH _ _⟩
 ·exact⟨.int k (k.wrap (m.tdiv n)),by simp[binOp,Op.intDiv,y],dH _ _⟩
 ·exact⟨.int k (m.tmod n),by simp[binOp,Op.intDiv,y],dH _ _⟩
 ·exact⟨.int k (cy .and k m n),by simp[binOp,Op.intBits,cy],dH _ _⟩
 ·exact⟨.int k (cy .or k m n),by simp[binOp,Op.intBits,cy],dH _ _⟩
 ·exact⟨.int k (cy .xor k m n),by simp[binOp,Op.intBits,cy],dH _ _⟩
 ·exact⟨.int k (cy .andNot k m n),by simp[binOp,Op.intBits,cy],dH _ _⟩
 ·exact⟨.bool (decide (m=n)),by simp[binOp,ui];rw[fm];simp,eF _⟩
 ·exact⟨.bool (decide (m≠n)),by simp[binOp,ui];rw[fm];simp,eF _⟩
 ·exact⟨.bool (decide (m<n)),by simp[binOp,ui],eF _⟩
 ·exact⟨.bool (decide (m<=n)),by simp[binOp,ui],eF _⟩
 ·exact⟨.bool (decide (m>n)),by simp[binOp,ui],eF _⟩
 ·exact⟨.bool (decide (m≥n)),by simp[binOp,ui],eF _⟩
theorem gY(n:Int):gQ.wrap n=n % 256:=by simp[ou,ll,iW]
theorem Aj(n:Int):((aO n).toNat:Int)=n % 256:=by rw[aO,<-UInt8.toNat_toBitVec];simp;omega
theorem qG(b:UInt8):b.toNat<256:=b.toNat_lt
theorem IU{op:BinOp}{t:TypeId}{a b:UInt8}{p:Prop}{c:SV}(h:JJ op a b=some (p,c))(H:p):
 ∃r,(binOp op t (.int .u8 a.toNat) (.int .u8 b.toNat)).run P w= .ok r w/\Rep x c r:=by
 have J:=qG a;have I:=qG b;have R:∀(r:UInt8)(v:Value),v= .int .u8 r.toNat->Rep x (.u8 r) v:=fun r v e=>e ▸ qV r
 have B:∀(r:Bool)(v:Value),v= .bool r->Rep x (.bool r) v:=fun r v e=>e ▸ eF r
 cases op<;>simp only[JJ,ay.injEq,bA.injEq,reduceCtorEq]at h<;>obtain⟨rfl,rfl⟩:=h
 ·exact⟨.int .u8 (gQ.wrap (a.toNat+b.toNat)),by simp[binOp,Op.intArith],R _ _ (by rw[gY,UInt8.toNat_add];simp)⟩
 ·refine⟨.int .u8 (gQ.wrap (a.toNat-b.toNat)),by simp[binOp,Op.intArith],R _ _ (by rw[gY,UInt8.toNat_sub];congr 1;omega)⟩
 ·exact⟨.int .u8 (gQ.wrap (a.toNat*b.toNat)),by simp[binOp,Op.intArith],R _ _ (by rw[gY,UInt8.toNat_mul];simp)⟩
 ·have y:¬((b.toNat:Int)=0):=by intro e;exact H (UInt8.toNat_inj.1 (by simpa using e))
  refine⟨.int .u8 (gQ.wrap ((a.toNat:Int).tdiv b.toNat)), ?_,R _ _ ?_⟩
  ·simp only[binOp,Op.intDiv];rw[if_neg (fun e=>e rfl),if_neg y];rfl
  rw[gY,UInt8.toNat_div,Int.tdiv_eq_ediv_of_nonneg (by omega)];have:=Nat.div_le_self a.toNat b.toNat;rw[<-Int.natCast_ediv];simp only[Value.int.injEq,true_and];generalize a.toNat/b.toNat=q at*;omega
 ·have y:¬((b.toNat:Int)=0):=by intro e;exact H (UInt8.toNat_inj.1 (by simpa using e))
  refine⟨.int .u8 ((a.toNat:Int).tmod b.toNat), ?_,R _ _ ?_⟩
  ·simp only[binOp,Op.intDiv];rw[if_neg (fun e=>e rfl),if_neg y];rfl
  rw[UInt8.toNat_mod,fN (by omega)];simp
 all_goals have F:BitVec.ofInt gQ.bits (a.toNat:Int)=a.toBitVec:=by rw[BitVec.ofInt_natCast];exact BitVec.ofNat_toNat _ _
 all_goals have z:BitVec.ofInt gQ.bits (b.toNat:Int)=b.toBitVec:=by rw[BitVec.ofInt_natCast];exact BitVec.ofNat_toNat _ _
 ·refine⟨.int .u8 (cy .and .u8 a.toNat b.toNat),by simp[binOp,Op.intBits,cy],R _ _ ?_⟩
  have:=qG (a&&&b);simp only[cy];rw[F,z,gY];change Value.int .u8 ((((a&&&b).toNat:Nat):Int) % 256)=_
  congr 1;omega
 ·refine⟨.int .u8 (cy .or .u8 a.toNat b.toNat),by simp[binOp,Op.intBits,cy],R _ _ ?_⟩
  have:=qG (a|||b);simp only[cy];rw[F,z,gY];change Value.int .u8 ((((a|||b).toNat:Nat):Int) % 256)=_
  congr 1;omega
 ·refine⟨.int .u8 (cy .xor .u8 a.toNat b.toNat),by simp[binOp,Op.intBits,cy],R _ _ ?_⟩
  have:=qG (a^^^b);simp only[cy];rw[F,z,gY];change Value.int .u8 ((((a^^^b).toNat:Nat):Int) % 256)=_
  congr 1;omega
 ·refine⟨.int .u8 (cy .andNot .u8 a.toNat b.toNat),by simp[binOp,Op.intBits,cy],R _ _ ?_⟩
  have:=qG (a&&& ~~~b);simp only[cy];rw[F,z,gY];change Value.int .u8 ((((a&&& ~~~b).toNat:Nat):Int) % 256)=_
  congr 1;omega
 all_goals clear F z
 ·exact⟨.bool ((a.toNat:Int)==b.toNat),by simp[binOp,ui],B _ _ (by congr 1;rw[fm];simp[<-UInt8.toNat_inj];try omega)⟩
 ·exact⟨.bool ((a.toNat:Int) !=b.toNat),by simp[binOp,ui],B _ _ (by congr 1;rw[fm];simp[<-UInt8.toNat_inj];try omega)⟩
 ·exact⟨.bool (decide ((a.toNat:Int)<b.toNat)),by simp[binOp,ui],B _ _ (by congr 1;rw[fm];simp[UInt8.lt_iff_toNat_lt])⟩
 ·exact⟨.bool (decide ((a.toNat:Int)<=b.toNat)),by simp[binOp,ui],B _ _ (by congr 1;rw[fm];simp[UInt8.le_iff_toNat_le])⟩
 ·exact⟨.bool (decide ((a.toNat:Int)>b.toNat)),by simp[binOp,ui],B _ _ (by congr 1;rw[fm];simp[UInt8.lt_iff_toNat_lt])⟩
 ·exact⟨.bool (decide ((a.toNat:Int)≥b.toNat)),by simp[binOp,ui],B _ _ (by congr 1;rw[fm];simp[UInt8.le_iff_toNat_le])⟩
theorem KY{op:BinOp}{t:TypeId}{l m:t8}{p:Prop}{c:SV}(h:Ua op l m=some (p,c))(F:p):
 ∃r,(binOp op t (.string ⟨⟨l⟩⟩) (.string ⟨⟨m⟩⟩)).run P w= .ok r w/\Rep x c r:=by
 have y:∀l:t8,(ByteArray.mk ⟨l⟩).toList=l:=fun l=>by rw[ByteArray.toList_eq]
 have z:(l==m)=decide (l=m):=by rw[fm];simp
 cases op<;>simp only[Ua,ay.injEq,bA.injEq,reduceCtorEq]at h<;>obtain⟨rfl,rfl⟩:=h
 ·refine⟨.string ⟨⟨l++m⟩⟩, ?_,oU _⟩
  simp only[binOp,Op.stringOp]
  have hs:((((ByteArray.mk ⟨l⟩).size+(ByteArray.mk ⟨m⟩).size:Nat):Int)>ah.max)=False:=by rw[IntKind.max_i64];simp only[ByteArray.size,eq_iff_iff,iff_false];simp;omega
  simp only[hs,if_false];rw[show(ByteArray.mk ⟨l⟩++ByteArray.mk ⟨m⟩)=ByteArray.mk ⟨l++m⟩from by apply ByteArray.ext;simp];rfl
 all_goals refine⟨_,by simp only[binOp,Op.stringOp,y,z];rfl, ?_⟩
 ·exact eF _
 ·rw[show decide (l≠m)= !decide (l=m)from by simp];exact eF _
 all_goals exact eF _
theorem KW{op:BinOp}{t:TypeId}{k:IntKind}{a:UInt8}{b:Int}{p:Prop}{c:SV}(h:T5 op a b=some (p,c))(z:p):
 ∃r,(binOp op t (.int .u8 a.toNat) (.int k b)).run P w= .ok r w/\Rep x c r:=by
 have y:=qG a;have R:∀(r:UInt8)(v:Value),v= .int .u8 r.toNat->Rep x (.u8 r) v:=fun r v e=>e ▸ qV r
 cases op<;>simp only[T5,ay.injEq,bA.injEq,reduceCtorEq]at h<;>obtain⟨rfl,rfl⟩:=h
 ·refine⟨.int .u8 (gQ.wrap ((a.toNat:Int)*2^(min b.toNat gQ.bits))),by simp only[binOp,Op.shift];rw[if_neg (by omega)];rfl,R _ _ ?_⟩
  rw[gY,UInt8.toNat_ofNat'];have e:((a.toNat:Int)*2^(min b.toNat gQ.bits))=((a.toNat*2^(min b.toNat 8):Nat):Int):=by rw[Int.natCast_mul,Int.natCast_pow];rfl
  rw[e];rfl
 ·refine⟨.int .u8 ((a.toNat:Int).fdiv (2^(min b.toNat gQ.bits))),by simp only[binOp,Op.shift];rw[if_neg (by omega)];rfl,R _ _ ?_⟩
  have e:(a.toNat:Int).fdiv (2^(min b.toNat gQ.bits))=((a.toNat/2^(min b.toNat 8):Nat):Int):=by rw[show((2:Int)^(min b.toNat gQ.bits))=((2^(min b.toNat 8):Nat):Int)from by rw[Int.natCast_pow];rfl];rw[Int.fdiv_eq_ediv_of_nonneg _ (Int.natCast_nonneg _),Int.natCast_ediv]
  have h2:a.toNat/2^(min b.toNat 8)<256:=Nat.lt_of_le_of_lt (Nat.div_le_self _ _) y;rw[e,UInt8.toNat_ofNat',ek h2]
theorem QY{op:BinOp}{t:TypeId}{X Y:Operand}{u v:SV}{a b:Value}{p:Prop}{c:SV}(J:Rep x u a)(hv:Rep x v b)(h:Cy op u v=some (p,c))(I:p):
 ∃r,(do eqGuard op t X Y a b;binOp op t a b:Sem Value).run P w= .ok r w/\Rep x c r:=by
 cases u<;>cases v<;>simp only[Cy]at h<;>try (cases h;done)
 ·rename_i k m Q n
  have y:=J.int_inv;have z:=hv.int_inv;subst y;subst z;rw[show eqGuard op t X Y (.int k m) (.int Q n)=pure ()from by cases op<;>rfl];simp only[aH,aU,ao]
  by_cases hs:op= .shl\/op= .shr
  ·rcases hs with rfl|rfl
   ·simp only[zM,ay.injEq,bA.injEq]at h
    obtain⟨rfl,rfl⟩:=h;exact⟨_,by simp only[binOp,Op.shift];rw[if_neg (by omega)];rfl,dH _ _⟩
   ·simp only[zM,ay.injEq,bA.injEq]at h
    obtain⟨rfl,rfl⟩:=h;exact⟨_,by simp only[binOp,Op.shift];rw[if_neg (by omega)];rfl,dH _ _⟩
  ·have K:(if k=Q then S1 op k m n else none)=some (p,c):=by
    cases op<;>simp at hs<;>exact h
   split at K
   ·rename_i Z;subst Z;exact K0 K I
   ·cases K
 ·rename_i F k2 H
  have y:=J.u8_inv;have z:=hv.int_inv;subst y;subst z;rw[show eqGuard op t X Y (.int .u8 F.toNat) (.int k2 H)=pure ()from by cases op<;>rfl];simp only[aH,aU,ao];exact KW h I
 ·rename_i F H
  have y:=J.u8_inv;have z:=hv.u8_inv;subst y;subst z;rw[show eqGuard op t X Y (.int .u8 F.toNat) (.int .u8 H.toNat)=pure ()from by cases op<;>rfl];simp only[aH,aU,ao];exact IU h I
 ·rename_i F H
  have y:=J.str_inv;have z:=hv.str_inv;subst y;subst z;rw[show eqGuard op t X Y (.string ⟨⟨F⟩⟩) (.string ⟨⟨H⟩⟩)=pure ()from by cases op<;>rfl];simp only[aH,aU,ao];exact KY h I
theorem dl{t:TypeId}{n:Nat}(h:gJ P t=some n)(w:World):(sizeOf t).run P w= .ok n w:=by
 unfold gJ at h;cases hi:P.info? t with
 |none=>simp[hi]at h
 |some i=>simp[hi]at h;subst h;simp[sizeOf,run_typeInfo w hi]
theorem kH{t:TypeId}{b:Bool}(h:vM P t=some b)(w:World):(isAgg t).run P w= .ok b w:=by
 unfold vM at h;cases hd:P.underlying t with
 |none=>simp[hd]at h
 |some d=>simp[hd]at h;subst h;unfold isAgg;simp only[aH,run_underlying hd,ao];split<;>first|rfl|(cases d<;>simp_all)
theorem fQ{sz:Nat}(H:f9)(h:∀y∈H,y.length=sz)(k:Nat)(I:k<H.length*sz):
 H.flatten.getD k .undef=(H.getD (k/sz) []).getD (k % sz) .undef:=by
 induction H generalizing k with
 |nil=>simp at I
 |cons y r Q=>
  have Z:=h y (by simp)
  have J:0<sz:=by
   rcases ip sz with h0|h0;· subst h0;simp at I
   ·exact h0
  simp only[ly,aa]
  by_cases F:k<sz
  ·rw[cn (by omega),Nat.div_eq_of_lt F,ek F]
   simp
  ·rw[cO (by omega),Z]
   have:=Q (fun z hz=>h z (an _ hz)) (k-sz) (by simp only[ai,eX]at I;omega);simp only[aa]at this;rw[this];have K:k/sz=(k-sz)/sz+1:=by rw[<-Nat.add_div_right _ J];congr 1;omega
   have e2:k % sz=(k-sz) % sz:=(Nat.mod_eq_sub_mod (by omega));rw[K,e2];simp
def Ip(x:Sit)(w:World)(b off n:Nat)(cs:LAa):Prop:=
 n<=cs.length/\∀j,j<n->∃v,w.cell? ⟨b,off+j,none⟩=some v/\Rep x (cs.getD j .undef) v
theorem sP{b off n:Nat}{cs:LAa}{t:TypeId}{z:Bool}(h:Ip x w b off n cs)(J:gJ P t=some n)(y:vM P t=some z)(h1:(z||n==1)=true):
 ∃v,(loadVar t ⟨b,off,none⟩).run P w= .ok v w/\Rep x (eN z n cs) v:=by
 obtain⟨Q,H⟩:=h
 have I:∀j,j<n->w.cell? ((⟨b,off,none⟩:Addr).add j)=some ((w.cell? ⟨b,off+j,none⟩).getD undef):=by intro j K;obtain⟨v,hv,_⟩:=H j K;rw[eH,hv];rfl
 cases z with
 |true=>
  refine⟨.agg ((bQ n).map fun j=>(w.cell? ⟨b,off+j,none⟩).getD undef).toArray, ?_, ?_⟩
  ·simp only[loadVar,aH,kH y,ao,if_true,dl J,run_loadCells w _ n _ I,aU]
  ·simp only[eN,if_true]
   refine .agg _ _ (by simp;omega) fun i hi=> ?_
   have hi:i<n/\i<cs.length:=by simp only[aw]at hi;omega
   obtain⟨v,hv,F⟩:=H i hi.1;rw[aa,bZ,if_pos hi.1,<-aa]
   have:((bQ n).map fun j=>(w.cell? ⟨b,off+j,none⟩).getD undef).getD i undef=v:=by rw[aa];simp[hi.1,hv]
   rw[this];exact F
 |false=>simp at h1;subst h1;obtain⟨v,hv,F⟩:=H 0 (by omega);refine⟨v, ?_,by simpa[eN]using F⟩;rw[fJ]at hv;simp only[loadVar,aH,kH y,ao,aP,if_false,run_load,hv]
theorem gB(z:aY C x s a w){o:Nat}{y:aG}(h:s.look o=some y):fa x w o y:=(z.heap.obs _ (dT h)).1
theorem fa.cell{o:Nat}{y:aG}(h:fa x w o y){k:Nat}(z:k<y.size):∃v,w.cell? ⟨(x.bk o).1,k,none⟩=some v/\cQ x y k v:=by obtain⟨c,e,fl,fh,H,hs,F⟩:=h;refine⟨c.getD k undef, ?_,F k z⟩;rw[H.cell,bT,iK (by omega)];rfl
theorem cQ.data{y:aG}(z:∀cs,y≠ .rc cs){k:Nat}{v:Value}(h:cQ x y k v):Rep x (y.cell k).data v:=by
 cases y with
 |rc cs=>exact absurd rfl (z cs)
 |arr sz F=>exact bU.rep h
 |bar l=>exact bU.rep h
theorem io(cs:LAa)(j:Nat):(cs.map SV.data).getD j .undef=(cs.getD j .undef).data:=bi _ rfl _ _
theorem kq{α:Type}(cs:List α)(j k:Nat)(d:α):(cs.drop j).getD k d=cs.getD (j+k) d:=by simp[aa,bH]
theorem nV(hM:aY C x s a w){u c:SV}{v:Value}{n:Nat}{ag:Bool}{p:Prop}(hu:Rep x u v)(h:jJ s n ag u=some (p,c))(I:p):
 ∃b off cs,v= .pointer (some ⟨b,off,none⟩)/\c=eN ag n cs/\Ip x w b off n cs:=by
 cases u with
 |pp cs=>simp only[jJ,ay.injEq,bA.injEq]at h;obtain⟨rfl,rfl⟩:=h;obtain⟨b,off,val,rfl,hg,hr⟩:=hu.pp_inv;refine⟨b,off,_,rfl,rfl,by simpa using I,fun j Z=>⟨val j,hM.heap.per _ _ _ (hg j (by omega)), ?_⟩⟩;rw[io];exact(hr j (by omega)).rep
 |ptr o off=>
  have hv:=hu.ptr_inv;simp only[jJ]at h;cases hl:s.look o with
  |none=>simp[hl]at h
  |some J=>
   have F:=gB hM hl;cases J with
   |rc cs=>simp only[hl,ay.injEq,bA.injEq]at h;obtain⟨rfl,rfl⟩:=h;refine⟨_,off,_,hv,rfl,by simp;omega,fun j Z=> ?_⟩;obtain⟨v,h1,h2⟩:=F.cell (k:=off+j) (by simp only[aG.size];omega);exact⟨v,h1,by rw[kq];exact h2⟩
   |arr sz K=>
    simp only[hl]at h;split at h
    ·rename_i h0;subst h0
     simp only[ay.injEq,bA.injEq]at h;obtain⟨rfl,rfl⟩:=h
     have H:K.flatten.length=K.length*sz:=by
      have h2:=I.2;clear I hl F;induction K with
      |nil=>simp
      |cons y r ih=>simp only[ly,af,ai,eX];rw[ih (fun z hz=>h2 z (an _ hz)),h2 y (by simp)];omega
     refine⟨_,0,_,hv,rfl,by rw[av];exact I.1,fun j Z=> ?_⟩;have Q:j<K.length*sz:=by rw[<-H];omega
     obtain⟨v,h1,h2⟩:=F.cell (k:=j) (by simpa only[aG.size]using Q);refine⟨v,by rw[de];exact h1, ?_⟩;rw[io,fQ K I.2 j Q];exact h2.data (by intro cs;simp)
    ·cases h
   |bar l=>
    simp only[hl]at h;split at h
    ·rename_i h0;subst h0
     simp only[ay.injEq,bA.injEq]at h;obtain⟨rfl,rfl⟩:=h;refine⟨_,0,_,hv,rfl,by simpa using I,fun j Z=> ?_⟩;obtain⟨v,h1,h2⟩:=F.cell (k:=j) (by simp only[aG.size];omega);refine⟨v,by rw[de];exact h1, ?_⟩
     have:(l.map SV.u8).getD j .undef= .u8 (l.getD j 0):=by simp only[aa,aR];rw[ac (by omega)];rfl
     rw[this];exact h2.data (by intro cs;simp)
    ·cases h
 |ap o sz i j=>
  have hv:=hu.ap_inv;simp only[jJ]at h;cases hl:s.look o with
  |none=>simp[hl]at h
  |some J=>
   have F:=gB hM hl;cases J with
   |rc cs=>simp only[hl,ay.injEq,bA.injEq]at h;obtain⟨rfl,rfl⟩:=h;refine⟨_,i*sz+j,_,hv,rfl,by simp;omega,fun k hk=> ?_⟩;obtain⟨v,h1,h2⟩:=F.cell (k:=i*sz+j+k) (by simp only[aG.size];omega);exact⟨v,h1,by rw[kq];exact h2⟩
   |arr a6 K=>
    simp only[hl,ay.injEq,bA.injEq]at h;obtain⟨rfl,rfl⟩:=h;obtain⟨rfl,hi,Z,H⟩:=I;refine⟨_,_,_,hv,rfl,by rw[av,aQ];omega,fun k hk=> ?_⟩
    have a1:i*sz+(j+k)<K.length*sz:=by have:=cm sz (Nat.succ_le_of_lt hi);rw[eX]at this;omega
    obtain⟨v,h1,h2⟩:=F.cell (k:=i*sz+(j+k)) (by simpa only[aG.size]using a1);refine⟨v,by rw[gP];exact h1, ?_⟩;rw[io,kq];have h3:=h2.data (by intro cs;simp);simp only[aG.cell]at h3
    rwa[show(i*sz+(j+k))/sz=i from by rw[dr,Nat.mul_add_div (by omega),Nat.div_eq_of_lt (by omega)];rfl,
     show(i*sz+(j+k)) % sz=j+k from by rw[dr,Nat.mul_add_mod,ek (by omega)]]at h3
   |bar l=>
    simp only[hl,ay.injEq,bA.injEq]at h;obtain⟨rfl,rfl⟩:=h;obtain⟨rfl,rfl,rfl,hi⟩:=I;refine⟨_,_,_,hv,rfl,by simp,fun k hk=> ?_⟩;obtain rfl:k=0:=by omega
    obtain⟨v,h1,h2⟩:=F.cell (k:=i) (by simpa only[aG.size]using hi);exact⟨v,by simpa using h1,h2.data (by intro cs;simp)⟩
 |_=>simp[jJ]at h
variable {o:Oper}{so:SOp}{p:Prop}{c:SV}
theorem Ao(H:aY C x s a w){X:Operand}(y:o.op= .move X\/o.op= .assign X)(I:cw P o=some so)(hv:val s so=some (p,c)):cU P C o a w (s.put o.dst c):=by
 have z:(bG P o.type X).map SOp.mov=some so:=by rcases y with y|y<;>simpa only[cw,y]using I
 obtain⟨r,F,rfl⟩:=aj.1 z;simp only[val,ay.injEq,bA.injEq]at hv;obtain⟨_,rfl⟩:=hv;exact⟨a.eval X,w,x,.value (a.eval X),by rcases y with y|y<;>simp only[execOp,y]<;>rfl,.inl rfl,H.put o.dst (aV H F)⟩
theorem Kw(H:aY C x s a w){t:TypeId}{X:Operand}(K:o.op= .load t X)(y:cw P o=some so)(hv:val s so=some (p,c))(Q:p):cU P C o a w (s.put o.dst c):=by
 simp only[cw,K]at y;split at y<;>try (cases y;done)
 rename_i n ag r hn I J;split at y<;>try (cases y;done)
 rename_i h1;cases y;simp only[val]at hv;obtain⟨b,off,cs,Z,rfl,hc⟩:=nV H (aV H J) hv Q;obtain⟨v,z,F⟩:=sP (P:=P) hc hn I h1;refine cU.val H (m:=Instr.loadAt t (a.eval X)) (by simp only[execOp,K]) ?_ F;rw[Z];simp only[Instr.loadAt,Instr.sureAddr,aH,aU,ao];exact z
theorem wA(F:aY C x s a w){X:Operand}(z:o.op= .nilCheck X)(J:cw P o=some so)(hv:val s so=some (p,c)):cU P C o a w (s.put o.dst c):=by
 simp only[cw,z]at J;obtain⟨r,H,rfl⟩:=aj.1 J;have y:=aV F H;simp only[val]at hv;cases hu:s.ev r with
 |ptr K off=>rw[hu]at hv y;simp only[ay.injEq,bA.injEq]at hv;obtain⟨_,rfl⟩:=hv;exact⟨a.eval X,w,x,.value (a.eval X),by simp only[execOp,z];rw[y.ptr_inv];rfl,.inl rfl,F.put o.dst y⟩
 |ap K sz i j=>rw[hu]at hv y;simp only[ay.injEq,bA.injEq]at hv;obtain⟨_,rfl⟩:=hv;exact⟨a.eval X,w,x,.value (a.eval X),by simp only[execOp,z];rw[y.ap_inv];rfl,.inl rfl,F.put o.dst y⟩
 |pp cs=>rw[hu]at hv y;simp only[ay.injEq,bA.injEq]at hv;obtain⟨_,rfl⟩:=hv;obtain⟨b,off,val,I,_⟩:=y.pp_inv;exact⟨a.eval X,w,x,.value (a.eval X),by simp only[execOp,z];rw[I];rfl,.inl rfl,F.put o.dst y⟩
 |fn f c1 c2=>rw[hu]at hv y;simp only[ay.injEq,bA.injEq]at hv;obtain⟨_,rfl⟩:=hv;obtain⟨Q,v2,I,_⟩:=y.fn_inv;exact⟨a.eval X,w,x,.value (a.eval X),by simp only[execOp,z];rw[I];rfl,.inl rfl,F.put o.dst y⟩
 |_=>rw[hu]at hv;simp at hv
theorem Iu(K:aY C x s a w){op:BinOp}{t u:TypeId}{X Y:Operand}(ho:o.op= .binOp op t X Y u)(z:cw P o=some so)(Q:∀F n x y,so≠ .eqS F n x y)(hv:val s so=some (p,c))(hp:p):cU P C o a w (s.put o.dst c):=by
 have I:execOp a.eval o=(do pure (.value (<-(do eqGuard op t X Y (a.eval X) (a.eval Y);binOp op t (a.eval X) (a.eval Y):Sem Value)))):=by simp only[execOp,ho]
 simp only[cw,ho]at z;split at z<;>try (cases z;done)
 case h_4=>
  exfalso;split at z<;>try (cases z;done)
  split at z<;>try (cases z;done)
  split at z<;>first|(cases z;done)|(cases z;exact Q _ _ _ _ rfl)
 case h_7=>
  exfalso;split at z<;>try (cases z;done)
  split at z<;>try (cases z;done)
  split at z<;>first|(cases z;done)|(cases z;exact Q _ _ _ _ rfl)
 case h_6=>
  rename_i ms x' _ hd hx hy;have h1:=aV K hx
  have key:∀F:Bool,op=(if F then .neq else .eql)->Y= .const .nilIface->val s (.isni F x')=some (p,c)->cU P C o a w (s.put o.dst c):=by
   intro F H hY hv;simp only[val]at hv;cases hu:s.ev x' with
   |nili=>
    rw[hu]at hv h1;simp only[ay.injEq,bA.injEq]at hv;obtain⟨_,rfl⟩:=hv;refine cU.val K I (u:= .bool (!F)) ?_ (eF _);have J:a.eval Y= .nilIface:=by rw[hY];rfl
    have hm:P.underlying t=some (.interface (P.methodsAt t)):=by rw[hd];simp[Program.methodsAt,hd]
    rw[h1.nili_inv,J]
    have hg:eqGuard op t X Y .nilIface .nilIface=pure ():=by subst hY;subst H;cases F<;>simp[eqGuard]
    rw[hg];simp only[aH,aU,ao];subst H;cases F
    ·simp only[aP,if_false];rw[run_eql_nil_nil w t hm];rfl
    ·simp only[if_true];rw[run_neq_nil_nil w t hm];rfl
   |ife=>
    rw[hu]at hv h1;simp only[ay.injEq,bA.injEq]at hv;obtain⟨_,rfl⟩:=hv;refine cU.val K I (u:= .bool F) ?_ (eF _);have J:a.eval Y= .nilIface:=by rw[hY];rfl
    have hm:P.underlying t=some (.interface (P.methodsAt t)):=by rw[hd];simp[Program.methodsAt,hd]
    obtain⟨ti,vi,hi⟩:=h1.ife_inv;rw[hi,J]
    have hg:eqGuard op t X Y (.iface ti vi) .nilIface=pure ():=by subst hY;subst H;cases F<;>simp[eqGuard]
    rw[hg];simp only[aH,aU,ao];subst H;cases F
    ·simp only[aP,if_false];rw[run_eql_held_nil w t ti vi hm]
    ·simp only[if_true];rw[run_neq_held_nil w t ti vi hm]
   |_=>rw[hu]at hv;simp at hv
  split at z<;>first|(cases z;done)|(cases z;exact key false rfl rfl hv)|(cases z;exact key true rfl rfl hv)
 all_goals
  rename_i hx hy;cases z;simp only[val]at hv;obtain⟨r,Z,a1⟩:=QY (P:=P) (w:=w) (t:=t) (X:=X) (Y:=Y) (aV K hx) (aV K hy) hv hp;exact cU.val K I Z a1
theorem Kv(H:aY C x s a w){op:UnOp}{t:TypeId}{X:Operand}(F:o.op= .unOp op t X)(K:cw P o=some so)(hv:val s so=some (p,c)):cU P C o a w (s.put o.dst c):=by
 simp only[cw,F]at K;obtain⟨r,I,rfl⟩:=aj.1 K;have y:=aV H I;simp only[val]at hv;obtain⟨Q,z,J⟩:=aj.1 hv;simp only[bA.injEq]at J;obtain⟨_,rfl⟩:=J;cases hu:s.ev r with
 |bool b=>rw[hu]at z y;cases op<;>simp only[Bp,ay.injEq,reduceCtorEq]at z;subst z;exact cU.val H (m:=Op.unary .not (a.eval X)) (by simp only[execOp,F]) (by rw[y.bool_inv];rfl) (eF _)
 |int k n=>
  rw[hu]at z y;cases op<;>simp only[Bp,ay.injEq,reduceCtorEq]at z<;>subst z
  ·exact cU.val H (m:=Op.unary .neg (a.eval X)) (by simp only[execOp,F]) (by rw[y.int_inv];rfl) (dH _ _)
  ·exact cU.val H (m:=Op.unary .xor (a.eval X)) (by simp only[execOp,F]) (by rw[y.int_inv];simp only[Op.unary,Op.intBits];rfl) (dH _ _)
 |_=>rw[hu]at z;simp[Bp]at z
theorem wB(H:aY C x s a w){f:Go.Fn}{X Y:Array Operand}(F:o.op= .makeFunc f X Y)(y:cw P o=some so)(hv:val s so=some (p,c)):cU P C o a w (s.put o.dst c):=by
 cases f<;>simp only[cw,F,reduceCtorEq]at y;rename_i g;split at y<;>try (cases y;done)
 rename_i l1 l2 h1 h2;cases y;simp only[val,ay.injEq,bA.injEq]at hv;obtain⟨_,rfl⟩:=hv
 have key:∀(l:List Operand)(r:List Arg),kY (bG P 0) l=some r->cB x (r.map s.ev) (l.map a.eval):=by
  intro l;induction l with
  |nil=>intro r h;simp only[kY]at h;cases h;exact⟨rfl,fun i hi=>by simp at hi⟩
  |cons q l Q=>
   intro r h;simp only[kY]at h;split at h<;>try (cases h;done)
   rename_i b Z K z;cases h;have h3:=Q _ z;refine⟨by simpa using h3.1,fun i hi=> ?_⟩;cases i with
   |zero=>simpa using aV H K
   |succ i=>simpa using h3.2 i (by simpa using hi)
 have I:=key _ _ h1;have J:=key _ _ h2;refine cU.val H (m:=Instr.makeFunc (.func g) (X.map a.eval) (Y.map a.eval)) (u:= .func (.func g) ⟨X.toList.map a.eval⟩ ⟨Y.toList.map a.eval⟩) (by simp only[execOp,F]) ?_ ?_
 ·simp only[Instr.makeFunc,aU]
  congr 2<;>(apply jQ;simp)
 ·exact .fn g _ _ _ _ I.1 I.2 J.1 J.2
theorem Ad(K:aY C x s a w){X:Operand}{i:Nat}(H:o.op= .extract X i)(J:cw P o=some so)(hv:val s so=some (p,c))(F:p):cU P C o a w (s.put o.dst c):=by
 simp only[cw,H]at J;obtain⟨r,z,rfl⟩:=aj.1 J;have y:=aV K z;simp only[val]at hv;cases hu:s.ev r with
 |tup vs=>
  rw[hu]at hv y;simp only[ay.injEq,bA.injEq]at hv;obtain⟨rfl,rfl⟩:=hv;obtain⟨us,Q,I⟩:=y.tup_inv;have hi:i<us.length:=by rw[<-I.1];exact F
  refine cU.val K (m:=Instr.extract (a.eval X) i) (u:=us.getD i undef) (by simp only[execOp,H]) ?_ (I.2 i F);rw[Q];simp[Instr.extract,hi,aa]
 |_=>rw[hu]at hv;simp at hv
theorem uo(H:aY C x s a w){t:TypeId}{X:Operand}{i:Nat}(F:o.op= .fieldAddr t X i)(z:cw P o=some so)(hv:val s so=some (p,c)):cU P C o a w (s.put o.dst c):=by
 simp only[cw,F]at z;split at z<;>try (cases z;done)
 rename_i fs r a1 I;split at z<;>try (cases z;done)
 rename_i f hf;split at z<;>try (cases z;done)
 rename_i n hn;split at z
 ·cases z
 rename_i Z;cases z;have y:=aV H I
 have run:∀b off,a.eval X= .pointer (some ⟨b,off,none⟩)->(Instr.fieldAt t (a.eval X) i).run P w= .ok (.pointer (some ⟨b,off+f.offset,none⟩)) w:=by intro b off K;rw[K];simp only[Instr.fieldAt,aH,run_underlying a1,ao,hf,Instr.sureAddr,aU,fieldPlace,dl hn,if_neg Z,eH]
 simp only[val]at hv;cases hu:s.ev r with
 |ptr J off=>rw[hu]at hv y;simp only[ay.injEq,bA.injEq]at hv;obtain⟨_,rfl⟩:=hv;exact cU.val H (by simp only[execOp,F]) (run _ _ y.ptr_inv) (.ptr J (off+f.offset))
 |ap J sz i j=>rw[hu]at hv y;simp only[ay.injEq,bA.injEq]at hv;obtain⟨_,rfl⟩:=hv;refine cU.val H (by simp only[execOp,F]) (run _ _ y.ap_inv) ?_;rw[gP];exact .ap J sz i (j+f.offset)
 |pp cs=>
  rw[hu]at hv y;simp only[ay.injEq,bA.injEq]at hv;obtain⟨_,rfl⟩:=hv;obtain⟨b,off,vl,K,hg,hh⟩:=y.pp_inv;refine cU.val H (by simp only[execOp,F]) (run _ _ K) (.dat _ _ (.pp _ b (off+f.offset) (fun j=>vl (f.offset+j)) ?_ ?_) trivial)
  ·intro j Q;rw[gP];exact hg _ (by simp only[aQ]at Q;omega)
  ·intro j Q;rw[kq];exact hh _ (by simp only[aQ]at Q;omega)
 |_=>rw[hu]at hv;simp at hv
theorem Ln{cs:LAa}{vs:LAd}(h:cB x cs vs){t:TypeId}{n:Nat}{z:Bool}{off:Nat}(F:gJ P t=some n)(y:vM P t=some z)(h1:(z||n==1)=true)(I:off+n<=cs.length):
 ∃v,(part t ⟨vs⟩ off).run P w= .ok v w/\Rep x (eN z n (cs.drop off)) v:=by
 have H:=h.1;cases z with
 |true=>
  refine⟨.agg ⟨(vs.drop off).take n⟩, ?_, ?_⟩
  ·simp only[part,aH,kH y,ao,if_true,dl F,aU]
   congr 2
   apply jQ;simp
  ·simp only[eN,if_true]
   refine .agg _ _ (by simp;omega) fun i hi=> ?_
   have hi:i<n:=by simp only[aw]at hi;omega
   have:=h.get (off+i);simp only[aa,bZ,if_pos hi,bH]at this ⊢;exact this
 |false=>
  simp at h1;subst h1;refine⟨vs.getD off undef, ?_, ?_⟩
  ·simp only[part,aH,kH y,ao,aP,if_false]
   have:off<vs.length:=by omega
   simp[ac this,aa]
  ·simp only[eN,aP,if_false,kq,fJ]
   exact h.get off
theorem Ml{l:t8}{t:Tok}{v:Value}(h:bU x.G (.byt l t) v)(i:Nat)(hi:i<l.length):∃b off cap,v= .slice (some ⟨b,off,none⟩) l.length cap/\x.G b (off+i)=some (.int .u8 (l.getD i 0).toNat):=by
 cases h with
 |bytN=>simp at hi
 |bytE=>simp at hi
 |byt _ _ b off cap n y z h=>subst y;exact⟨b,off,cap,rfl,h i hi⟩
theorem jX{u:SV}{v:Value}{n:Int}(h:Rep x u v)(y:u.num=some n):∃k,v= .int k n:=by
 cases u<;>simp only[SV.num,ay.injEq,reduceCtorEq]at y
 ·subst y;exact⟨_,h.int_inv⟩
 ·subst y;exact⟨_,h.u8_inv⟩
theorem um(F:aY C x s a w){t:TypeId}{X Y:Operand}(ho:o.op= .indexAddr t X Y)(J:cw P o=some so)(hv:val s so=some (p,c))(Z:p):cU P C o a w (s.put o.dst c):=by
 have z:execOp a.eval o=(do pure (.value (<-Instr.indexAt t (a.eval X) (a.eval Y)))):=by simp only[execOp,ho]
 simp only[cw,ho]at J;split at J<;>try (cases J;done)
 ·rename_i e r q hd a6 a7
  split at J<;>try (cases J;done)
  rename_i n hn;cases J;have h1:=aV F a6;have h2:=aV F a7
  have run:∀(b:Nat)(off len cap:Nat)(k:IntKind)(i:Int),a.eval X= .slice (some ⟨b,off,none⟩) len cap->a.eval Y= .int k i->0<=i->i<len->(Instr.indexAt t (a.eval X) (a.eval Y)).run P w= .ok (.pointer (some ⟨b,off+i.toNat*n,none⟩)) w:=by intro b off len cap k i he hf h0 h3;rw[he,hf];simp only[Instr.indexAt,asIntOf,aH,aU,ao,run_underlying hd,if_pos (And.intro h0 h3),dl hn,eH]
  simp only[val]at hv;split at hv<;>try (cases hv;done)
  ·rename_i l tk i K I
   rw[K]at h1;obtain⟨k,H⟩:=jX h2 I;simp only[ay.injEq,bA.injEq]at hv;obtain⟨rfl,rfl⟩:=hv;obtain⟨h0,h3,rfl⟩:=Z;obtain⟨b,off,cap,he,hg⟩:=Ml (h1.data rfl) i.toNat (by omega);refine cU.val F z (run b off l.length cap k i he H h0 h3) (.dat _ _ (.pp _ b (off+i.toNat*1) (fun _=> .int .u8 (l.getD i.toNat 0).toNat) ?_ ?_) trivial)
   ·intro j Q
    obtain rfl:j=0:=by simpa using Q
    simpa using hg
   ·intro j Q
    obtain rfl:j=0:=by simpa using Q
    exact .u8 _
  ·rename_i b1 xs tk i K I
   rw[K]at h1;obtain⟨k,H⟩:=jX h2 I;simp only[ay.injEq,bA.injEq]at hv;obtain⟨rfl,rfl⟩:=hv;obtain⟨h0,h3,rfl⟩:=Z;have y:=h1.data rfl;cases hXv:a.eval X with
   |slice ad len cap=>
    rw[hXv]at y;cases y with
    |lstN=>simp at h3;omega
    |lstE=>simp at h3;omega
    |lst _ _ _ b off b2 n' vl b5 hc hl hg hh=>
     have a1:i.toNat<len:=by omega
     have b3:=hl _ a1;refine cU.val F z (run b off len cap k i hXv H h0 (by omega)) (.dat _ _ (.pp _ b (off+i.toNat*n) (fun j=>vl i.toNat j) ?_ ?_) trivial)
     ·intro j Q;exact hg _ _ a1 (by omega)
     ·intro j Q;exact hh _ _ a1 (by omega)
   |_=>rw[hXv]at y;cases y
  ·rename_i o' b1 off kk cp i K I
   rw[K]at h1;obtain⟨k,H⟩:=jX h2 I;simp only[ay.injEq,bA.injEq]at hv;obtain⟨rfl,rfl⟩:=hv;obtain⟨h0,h3,rfl⟩:=Z;obtain⟨cp,b4,_,a8,he,b0⟩:=h1.psl_inv;refine cU.val F z (run _ a8 kk _ k i he H h0 h3) ?_;rcases b0 with h'|rfl
   ·omega
   ·rw[<-bW]
    exact .ap o' n (off+i.toNat) 0
 ·rename_i kk e r q hd a6 a7
  split at J<;>try (cases J;done)
  rename_i n hn;cases J;have h1:=aV F a6;have h2:=aV F a7
  have run:∀(b:Nat)(off:Nat)(k:IntKind)(i:Int),a.eval X= .pointer (some ⟨b,off,none⟩)->a.eval Y= .int k i->0<=i->i<kk->(Instr.indexAt t (a.eval X) (a.eval Y)).run P w= .ok (.pointer (some ⟨b,off+i.toNat*n,none⟩)) w:=by intro b off k i he hf h0 h3;rw[he,hf];simp only[Instr.indexAt,asIntOf,Instr.sureAddr,aH,aU,ao,run_underlying hd,if_pos (And.intro h0 h3),dl hn,eH]
  simp only[val]at hv;split at hv<;>try (cases hv;done)
  ·rename_i o' off i K I
   rw[K]at h1;obtain⟨k,H⟩:=jX h2 I;split at hv<;>try (cases hv;done)
   ·simp only[ay.injEq,bA.injEq]at hv;obtain⟨rfl,rfl⟩:=hv
    exact cU.val F z (run _ off k i h1.ptr_inv H Z.1 Z.2) (.ptr o' _)
   ·split at hv<;>try (cases hv;done)
    rename_i h0;subst h0;simp only[ay.injEq,bA.injEq]at hv;obtain⟨rfl,rfl⟩:=hv;refine cU.val F z (run _ 0 k i h1.ptr_inv H Z.1 Z.2) ?_;rw[de];exact .ap o' n i.toNat 0
  ·rename_i cs i K I
   rw[K]at h1;obtain⟨k,H⟩:=jX h2 I;simp only[ay.injEq,bA.injEq]at hv;obtain⟨rfl,rfl⟩:=hv;obtain⟨h0,h3,h4⟩:=Z;have y:=h1.data rfl;cases hXv:a.eval X with
   |pointer ad=>
    rw[hXv]at y;cases y with
    |pp _ b off vl hg hh=>
     refine cU.val F z (run b off k i hXv H h0 h3) (.dat _ _ (.pp _ b (off+i.toNat*n) (fun j=>vl (i.toNat*n+j)) ?_ ?_) trivial)
     ·intro j Q
      rw[aQ]at Q;rw[gP];exact hg _ (by omega)
     ·intro j Q
      rw[aQ]at Q;have:=hh (i.toNat*n+j) (by omega);simp only[aa,bH]at this ⊢;exact this
   |_=>rw[hXv]at y;cases y
theorem Is(I:aY C x s a w){t:TypeId}{X Y:Operand}(ho:o.op= .index t X Y)(z:cw P o=some so)(hv:val s so=some (p,c))(hp:p):cU P C o a w (s.put o.dst c):=by
 have K:execOp a.eval o=(do pure (.value (<-Instr.index t (a.eval X) (a.eval Y)))):=by simp only[execOp,ho]
 simp only[cw,ho]at z;split at z<;>try (cases z;done)
 ·rename_i kk e r q Z F H
  split at z<;>try (cases z;done)
  rename_i n ag hn a1;split at z<;>try (cases z;done)
  rename_i a6;cases z;have h1:=aV I F;have h2:=aV I H;simp only[val]at hv;split at hv<;>try (cases hv;done)
  rename_i cs i hu hw;rw[hu]at h1;obtain⟨k,hk⟩:=jX h2 hw;simp only[ay.injEq,bA.injEq]at hv;obtain⟨rfl,rfl⟩:=hv;obtain⟨h0,h3,h4⟩:=hp;obtain⟨vs,he,hl⟩:=h1.agg_inv;have y:i.toNat<kk:=by omega
  have hb:i.toNat*n+n<=cs.length:=by rw[h4];have:=cm n (Nat.succ_le_of_lt y);rw[eX]at this;exact this
  obtain⟨v,J,hc⟩:=Ln (P:=P) (w:=w) hl hn a1 a6 hb;refine cU.val I K ?_ hc;rw[he,hk];simp only[Instr.index,asIntOf,aH,aU,ao,run_underlying Z,if_pos (And.intro h0 h3),dl hn];exact J
 ·rename_i r q Z F H
  cases z;have h1:=aV I F;have h2:=aV I H;simp only[val]at hv;split at hv<;>try (cases hv;done)
  rename_i l i hu hw;rw[hu]at h1;obtain⟨k,hk⟩:=jX h2 hw;simp only[ay.injEq,bA.injEq]at hv;obtain⟨rfl,rfl⟩:=hv;refine cU.val I K (u:= .int .u8 (l.getD i.toNat 0).toNat) ?_ (qV _);rw[h1.str_inv,hk];have y:i.toNat<l.length:=by omega
  have Q:(ByteArray.mk ⟨l⟩)[i.toNat]? =some (l.getD i.toNat 0):=by rw[ByteArray.getElem?_lt' _ _ (by simpa[ByteArray.size]using y),aa,ac y];rfl
  simp only[Instr.index,asIntOf,aH,aU,ao,run_underlying Z,if_pos hp.1,Q]
theorem lC{k:IntKind}{i:Int}{y:Nat}{code:BoundsCode}(h0:0<=i)(h1:i<=y):(Instr.sliceBound (.int k i) y code).run P w= .ok i.toNat w:=by simp only[Instr.sliceBound,asIntOf,aH,aU,ao,if_pos (And.intro h0 h1)]
theorem HB{b:Bool}{len H:Nat}{lo hi F:Option Value}{i j m:Int}(h1:0<=i)(h2:i<=j)(h3:j<=m)(h4:m<=H)
 (z:lo=none/\i=0\/∃k,lo=some (.int k i)) (y:hi=none/\j=len\/∃k,hi=some (.int k j)) (I:F=none/\m=H\/(∃k,F=some (.int k m))/\hi≠none):
 (Instr.sliceBounds b len H lo hi F).run P w= .ok (i.toNat,j.toNat,m.toNat) w:=by
 rcases I with⟨rfl,rfl⟩|⟨⟨k,rfl⟩,hne⟩<;>rcases y with⟨rfl,rfl⟩|⟨k',rfl⟩<;>rcases z with⟨rfl,rfl⟩|⟨k'',rfl⟩
 all_goals try exact absurd rfl hne
 all_goals simp only[Instr.sliceBounds,aH,aU,ao]
 ·simp
 ·rw[lC h1 (by omega)];simp
 ·rw[lC (by omega) (by omega)];simp
 ·rw[lC (by omega) (by omega)];simp only[ao];rw[lC h1 (by omega)];simp
 ·rw[lC (by omega) (by omega)];simp only[ao];rw[lC (by omega) (by omega)];simp
 ·rw[lC (by omega) (by omega)];simp only[ao];rw[lC (by omega) (by omega)];simp only[ao];rw[lC h1 (by omega)];simp
theorem kC(H:aY C x s a w){q:Option Operand}{r:Option Arg}{d i:Int}(y:AO (bG P 0) q=some r)(h:jI s r d=some i):
 q.map a.eval=none/\i=d/\r=none\/(∃k,q.map a.eval=some (.int k i))/\r≠none:=by
 cases q with
 |none=>simp only[AO]at y;cases y;simp only[jI,ay.injEq]at h;exact .inl ⟨rfl,h.symm,rfl⟩
 |some q=>simp only[AO]at y;obtain⟨I,z,rfl⟩:=aj.1 y;simp only[jI]at h;obtain⟨k,F⟩:=jX (aV H z) h;exact .inr ⟨⟨k,by simp[F]⟩,by simp⟩
theorem Ax{sz:Nat}{base:Option Addr}{n J:Nat}{i j m:Int}(h1:0<=i)(h2:i<=j)(h3:j<=m)(h4:m<=J)(h5:j<=n){t:Tok}{hn z:Bool}
 (I:dX x sz t (.slice base n J)) (y:hn=true->z=false->j=n/\m=J) (F:z=true->j=m):
 dX x sz (ol t hn z) (.slice (if m.toNat=i.toNat then base else base.map (·.add (i.toNat*sz))) (j.toNat-i.toNat) (m.toNat-i.toNat)):=by
 unfold ol;split
 ·rename_i Z
  exact⟨_,j.toNat-i.toNat,by rw[F Z]⟩
 ·rename_i Z
  split
  ·rename_i Q
   obtain⟨rfl,rfl⟩:=y Q (by simpa using Z);cases t with
   |no=>trivial
   |clip=>obtain⟨b',n',H⟩:=I;simp only[Value.slice.injEq]at H;exact⟨_,_,by rw[H.2.1,H.2.2]⟩
   |id t=>
    obtain⟨b',n',a1,H,Q⟩:=I;simp only[Value.slice.injEq]at H;obtain⟨rfl,rfl,rfl⟩:=H;refine⟨_,_,_,rfl, ?_⟩;rcases Q with rfl|⟨bb,off,rfl,ht⟩
    ·exact .inl rfl
    ·by_cases K:J=i.toNat
     ·left;omega
     ·right
      refine⟨bb,off+i.toNat*sz,by simp[K,eH], ?_⟩;rw[ht];simp only[eS,bA.injEq,true_and];constructor
      ·rw[gP,<-bW];congr 2;omega
      ·rw[gP,<-bW];congr 2;omega
  ·trivial
theorem i7{α:Type}(l:List α)(i j k:Nat)(d:α)(h:k+i<j):((l.take j).drop i).getD k d=l.getD (i+k) d:=by simp only[aa,bH,bZ];rw[if_pos (by omega)]
theorem Ag(hM:aY C x s a w){t e:TypeId}{n:Nat}(hd:P.underlying t=some (.slice e))(hn:gJ P e=some n){X:Operand}{lo hi mx:Option Operand}{b6 Z y:Option Arg}{r:Arg}
 (h1:Rep x (s.ev r) (a.eval X)) (d4:AO (bG P 0) lo=some b6) (e3:AO (bG P 0) hi=some Z) (b7:AO (bG P 0) mx=some y) (d3:¬(y.isSome&&Z.isNone)=true)
 (hv:mG s n (s.ev r) b6 Z y=some (p,c)) (hp:p):∃v,(Instr.sliceAt t (a.eval X) (lo.map a.eval) (hi.map a.eval) (mx.map a.eval)).run P w= .ok v w/\Rep x c v:=by
 have run:∀(base:Option Addr)(len H:Nat)(i j m:Int),a.eval X= .slice base len H->0<=i->i<=j->j<=m->m<=H->jI s b6 0=some i->jI s Z len=some j->
  (y=none->m=H)->(y≠none->jI s y H=some m)->
  (Instr.sliceAt t (a.eval X) (lo.map a.eval) (hi.map a.eval) (mx.map a.eval)).run P w= .ok (.slice (if m.toNat=i.toNat then base else base.map (·.add (i.toNat*n))) (j.toNat-i.toNat) (m.toNat-i.toNat)) w:=by
  intro base len H i j m he h0 h2 h3 h4 K F e0 e4;rw[he];have e1:=kC hM d4 K;have e2:=kC hM e3 F
  have hb:(Instr.sliceBounds true len H (lo.map a.eval) (hi.map a.eval) (mx.map a.eval)).run P w= .ok (i.toNat,j.toNat,m.toNat) w:=by
   refine HB h0 h2 h3 h4 ?_ ?_ ?_
   ·rcases e1 with⟨I,q2,_⟩|⟨I,_⟩
    ·exact .inl ⟨I,q2⟩
    ·exact .inr I
   ·rcases e2 with⟨I,q2,_⟩|⟨I,_⟩
    ·exact .inl ⟨I,q2⟩
    ·exact .inr I
   ·by_cases z:y=none
    ·subst z
     have:jI s none (H:Int)=some (H:Int):=rfl;rcases kC hM b7 this with⟨I,q2,_⟩|⟨_,q2⟩
     ·exact .inl ⟨I,e0 rfl⟩
     ·exact absurd rfl q2
    ·rcases kC hM b7 (e4 z)with⟨_,_,q⟩|⟨I,_⟩
     ·exact absurd q z
     ·refine .inr ⟨I, ?_⟩
      rcases e2 with⟨I,_,q3⟩|⟨⟨k,I⟩,_⟩
      ·exfalso;apply d3;subst q3;cases y with
       |none=>exact absurd rfl z
       |some _=>rfl
      ·rw[I];simp
  simp only[Instr.sliceAt,Instr.slice,aH,run_underlying hd,ao,hb,dl hn,aU]
 cases hu:s.ev r with
 |byt l tk=>
  rw[hu]at hv h1;simp only[mG]at hv;split at hv<;>try (cases hv;done)
  rename_i i j m K F b1;simp only[ay.injEq,bA.injEq]at hv;obtain⟨rfl,rfl⟩:=hv;obtain⟨q0,I,q2,q3,rfl,q4⟩:=hp;obtain⟨base,H,he,hc,hD,b3⟩:=h1.byt_inv;rw[he]at hD b3
  obtain⟨Q,a1,a8,a7,b0⟩:∃Q:Int,Q<=H/\j<=Q/\(y=none->Q=H)/\(y≠none->Q=m):=by
   by_cases z:y=none
   ·exact⟨H,by omega,by omega,fun _=>rfl,fun h=>absurd z h⟩
   ·exact⟨m,by omega,q2,fun h=>absurd h z,fun _=>rfl⟩
  refine⟨_,run base l.length H i j Q he q0 I a8 a1 K F a7 (fun h=> ?_), ?_⟩
  ·rw[b0 h];cases y with
   |none=>exact absurd rfl h
   |some q=>simpa only[jI]using b1
  ·refine .dat _ _ ?_ ?_
   ·have a6:((l.take j.toNat).drop i.toNat).length=j.toNat-i.toNat:=by rw[aQ,aw,rp (by omega)]
    cases hD with
    |bytN=>
     have:i.toNat=0/\j.toNat=0/\Q.toNat=0:=by simp at q3;omega
     obtain⟨z1,z2,z3⟩:=this;simp only[z1,z2,z3,List.take_nil,List.drop_nil,Option.map_none,ite_self];exact .bytN _
    |bytE _ ad=>
     have:i.toNat=0/\j.toNat=0/\Q.toNat=0:=by simp at q3;omega
     obtain⟨z1,z2,z3⟩:=this;simp only[z1,z2,z3,List.take_nil,List.drop_nil,if_true];exact .bytE _ _
    |byt _ _ b off _ _ e5 d9 hg=>
     by_cases J:Q.toNat=i.toNat
     ·rw[if_pos J]
      exact .byt _ _ b off _ _ a6.symm (by omega) (fun k hk=>by omega)
     ·rw[if_neg J,bz,eH]
      refine .byt _ _ b (off+i.toNat*1) _ _ a6.symm (by omega) (fun k hk=> ?_);rw[i7 _ _ _ _ _ (by omega),gI,gP];exact hg _ (by omega)
   ·refine Ax q0 I a8 a1 (by omega) b3 ?_ ?_
    ·intro hh hx
     have z:y=none:=by cases y with|none=>rfl|some _=>simp at hx
     have b5:Z=none:=by cases Z with|none=>rfl|some _=>simp at hh
     subst b5;simp only[jI,ay.injEq]at F;exact⟨F.symm,a7 z⟩
    ·intro hx
     have z:y≠none:=by rintro rfl;simp at hx
     rw[b0 z];exact q4 hx
 |lst c7 l tk=>
  rw[hu]at hv h1;simp only[mG]at hv;split at hv<;>try (cases hv;done)
  rename_i i j m K F b1;simp only[ay.injEq,bA.injEq]at hv;obtain⟨rfl,rfl⟩:=hv;obtain⟨q0,I,q2,q3,rfl,q4⟩:=hp;obtain⟨base,H,he,hc,hD,b3⟩:=h1.lst_inv;rw[he]at hD b3
  obtain⟨Q,a1,a8,a7,b0⟩:∃Q:Int,Q<=H/\j<=Q/\(y=none->Q=H)/\(y≠none->Q=m):=by
   by_cases z:y=none
   ·exact⟨H,by omega,by omega,fun _=>rfl,fun h=>absurd z h⟩
   ·exact⟨m,by omega,q2,fun h=>absurd h z,fun _=>rfl⟩
  refine⟨_,run base l.length H i j Q he q0 I a8 a1 K F a7 (fun h=> ?_), ?_⟩
  ·rw[b0 h];cases y with
   |none=>exact absurd rfl h
   |some q=>simpa only[jI]using b1
  ·refine .dat _ _ ?_ ?_
   ·have a6:((l.take j.toNat).drop i.toNat).length=j.toNat-i.toNat:=by rw[aQ,aw,rp (by omega)]
    cases hD with
    |lstN=>
     have:i.toNat=0/\j.toNat=0/\Q.toNat=0:=by simp at q3;omega
     obtain⟨z1,z2,z3⟩:=this;simp only[z1,z2,z3,List.take_nil,List.drop_nil,Option.map_none,ite_self];exact .lstN _ _
    |lstE _ _ ad=>
     have:i.toNat=0/\j.toNat=0/\Q.toNat=0:=by simp at q3;omega
     obtain⟨z1,z2,z3⟩:=this;simp only[z1,z2,z3,List.take_nil,List.drop_nil,if_true];exact .lstE _ _ _
    |lst _ _ _ b off _ _ vl e5 d9 hl hg hh=>
     by_cases J:Q.toNat=i.toNat
     ·rw[if_pos J]
      exact .lst _ _ _ b off _ _ vl a6.symm (by omega) (fun k hk=>by omega) (fun k j' hk hj=>by omega) (fun k j' hk hj=>by omega)
     ·rw[if_neg J,bz,eH]
      refine .lst _ _ _ b (off+i.toNat*n) _ _ (fun k j'=>vl (i.toNat+k) j') a6.symm (by omega) (fun k hk=> ?_) (fun k j' hk hj=> ?_) (fun k j' hk hj=> ?_)
      ·rw[i7 _ _ _ _ _ (by omega)];exact hl _ (by omega)
      ·rw[show off+i.toNat*n+k*n+j'=off+(i.toNat+k)*n+j' from by rw[bW];omega]
       exact hg _ _ (by omega) hj
      ·rw[i7 _ _ _ _ _ (by omega)];exact hh _ _ (by omega) hj
   ·refine Ax q0 I a8 a1 (by omega) b3 ?_ ?_
    ·intro hh hx
     have z:y=none:=by cases y with|none=>rfl|some _=>simp at hx
     have b5:Z=none:=by cases Z with|none=>rfl|some _=>simp at hh
     subst b5;simp only[jI,ay.injEq]at F;exact⟨F.symm,a7 z⟩
    ·intro hx
     have z:y≠none:=by rintro rfl;simp at hx
     rw[b0 z];exact q4 hx
 |psl o' c7 off k d5=>
  cases d5 with
  |none=>
   rw[hu]at hv h1;simp only[mG]at hv;split at hv<;>try (cases hv;done)
   rename_i i j K F;simp only[ay.injEq,bA.injEq]at hv;obtain⟨rfl,rfl⟩:=hv;obtain⟨q0,I,q2,rfl⟩:=hp;obtain⟨H,d7,b2,he,b4,b8⟩:=h1.psl_invK;refine⟨_,run _ k H i j H he q0 I (by omega) (by omega) K F (fun _=>rfl) (fun h=>absurd rfl h), ?_⟩
   by_cases J:(H:Int).toNat=i.toNat
   ·rw[if_pos J]
    exact .psl o' n _ _ _ b2 _ (.inl (by omega)) (by omega) (fun _ e=>by cases e) (fun _=> .inl (by omega))
   ·rw[if_neg J,bz,eH]
    refine .psl o' n _ _ _ _ _ (.inr ?_) (by omega) (fun _ e=>by cases e) (fun _=>b8.imp (fun h=>by omega) fun k1=> ?_)
    rotate_left
    ·have e2:i.toNat*n+((H:Int).toNat-i.toNat)*n=H*n:=by rw[<-bW];congr 1;omega
     omega
    rcases b4 with h'|rfl
    ·omega
    ·rw[bW]
  |some d8=>
   rw[hu]at hv h1;simp only[mG]at hv;split at hv<;>try (cases hv;done)
   rename_i i j m K F b1;simp only[ay.injEq,bA.injEq]at hv;obtain⟨rfl,rfl⟩:=hv;obtain⟨q0,I,q2,q3,rfl⟩:=hp;obtain⟨H,d7,d6,b2,he,b4⟩:=h1.psl_inv;obtain rfl:=d6 _ rfl;refine⟨_,run _ k d8 i j m he q0 I q2 q3 K F (fun h=> ?_) (fun _=>b1), ?_⟩
   ·subst h;simp only[jI,ay.injEq]at b1;exact b1.symm
   ·by_cases J:m.toNat=i.toNat
    ·rw[if_pos J]
     exact .psl o' n _ _ _ b2 _ (.inl (by omega)) (by omega) (fun _ e=>by cases e;rfl) (fun e=>by cases e)
    ·rw[if_neg J,bz,eH]
     refine .psl o' n _ _ _ _ _ (.inr ?_) (by omega) (fun _ e=>by cases e;rfl) (fun e=>by cases e);rcases b4 with h'|rfl
     ·omega
     ·rw[bW]
 |_=>rw[hu]at hv;simp[mG]at hv
theorem Hu(l:t8)(i j:Nat):(ByteArray.mk ⟨l⟩).extract i j=ByteArray.mk ⟨(l.take j).drop i⟩:=by apply ByteArray.ext;simp[ByteArray.data_extract,List.extract_eq_take_drop,Kd]
theorem Ir(z:aY C x s a w){t:TypeId}{X:Operand}{lo hi Z:Option Operand}(ho:o.op= .slice t X lo hi Z)(y:cw P o=some so)(hv:val s so=some (p,c))(hp:p):cU P C o a w (s.put o.dst c):=by
 have K:execOp a.eval o=(do pure (.value (<-Instr.sliceAt t (a.eval X) (lo.map a.eval) (hi.map a.eval) (Z.map a.eval)))):=by simp only[execOp,ho]
 simp only[cw,ho]at y;split at y<;>try (cases y;done)
 rename_i b2 b1 b3 r Q I F hX;split at y
 ·cases y
 rename_i b0;split at y<;>try (cases y;done)
 ·rename_i hd
  split at y<;>try (cases y;done)
  rename_i a8;cases y;have h1:=aV z hX;simp only[val]at hv;cases hu:s.ev r with
  |str l=>
   rw[hu]at hv h1;simp only[]at hv;split at hv<;>try (cases hv;done)
   rename_i i j a1 a6;simp only[ay.injEq,bA.injEq]at hv;obtain⟨rfl,rfl⟩:=hv;obtain⟨q0,q1,q2⟩:=hp;refine cU.val z K (u:= .string ⟨⟨(l.take j.toNat).drop i.toNat⟩⟩) ?_ (oU _);have e1:=kC z Q a1;have e2:=kC z I a6
   have H:Z.map a.eval=none:=by
    cases Z with
    |none=>rfl
    |some q=>simp only[AO]at F;obtain⟨_,_,rfl⟩:=aj.1 F;simp at a8
   have hb:(Instr.sliceBounds false l.length l.length (lo.map a.eval) (hi.map a.eval) none).run P w= .ok (i.toNat,j.toNat,(l.length:Int).toNat) w:=
    HB q0 q1 q2 (by omega) (e1.imp (fun h=>⟨h.1,h.2.1⟩) (fun h=>h.1)) (e2.imp (fun h=>⟨h.1,h.2.1⟩) (fun h=>h.1)) (.inl ⟨rfl,rfl⟩)
   rw[h1.str_inv,H];have a7:(ByteArray.mk ⟨l⟩).size=l.length:=by simp[ByteArray.size]
   simp only[Instr.sliceAt,Instr.slice,aH,run_underlying hd,ao,a7,hb,Hu,Option.isSome_none,aP,if_false,aU]
  |_=>rw[hu]at hv;simp at hv
 ·rename_i e hd
  split at y<;>try (cases y;done)
  rename_i n hn;cases y;simp only[val]at hv;obtain⟨v,J,hc⟩:=Ag z hd hn (aV z hX) Q I F b0 hv hp;exact cU.val z K J hc
theorem nk{y:Call}{b:Builtin}(F:o.op= .call y)(H:y.callee= .builtin b)(m:Sem Value)
 (z:builtin b y.argTypes o.type (y.args.map fun| .const _=>true|_=>false) (y.args.map a.eval)=(do pure (.value (<-m)))):execOp a.eval o=(do pure (.value (<-m))):=by
 rw[<-z];simp only[execOp,F,resolve,H];rfl
theorem Qf(H:aY C x s a w){I:Call}(K:o.op= .call I)(Q:I.callee= .builtin .len)(y:cw P o=some so)(hv:val s so=some (p,c)):cU P C o a w (s.put o.dst c):=by
 simp only[cw,K,Q]at y;split at y<;>try (cases y;done)
 rename_i X t hX ht;have ea:I.args= #[X]:=by apply jQ;simpa using hX
 have et:I.argTypes= #[t]:=by apply jQ;simpa using ht
 split at y<;>try (cases y;done)
 ·rename_i r Z z
  cases y;have h1:=aV H z;simp only[val]at hv;cases hu:s.ev r with
  |str l=>
   rw[hu]at hv h1;simp only[lI,if_true,ay.injEq,bA.injEq]at hv;obtain⟨_,rfl⟩:=hv;refine cU.val H (nk K Q _ rfl) (u:= .int .i64 l.length) ?_ (dH _ _);rw[ea,et];have a1:(ByteArray.mk ⟨l⟩).size=l.length:=by simp[ByteArray.size]
   simp only[Builtin.len_,List.map_toArray,ax,aK,lZ,List.getElem?_cons_zero,aH,run_underlying Z,ao,h1.str_inv,a1,goInt];rfl
  |_=>rw[hu]at hv;simp[lI]at hv
 ·rename_i e r Z z
  cases y;have h1:=aV H z;simp only[val]at hv
  have run:∀(bs:Option Addr)(n J:Nat),a.eval X= .slice bs n J->(Builtin.len_ I.argTypes o.type (I.args.map a.eval)).run P w= .ok (.int .i64 n) w:=by intro bs n J F;rw[ea,et];simp only[Builtin.len_,List.map_toArray,ax,aK,lZ,List.getElem?_cons_zero,aH,run_underlying Z,ao,F,goInt];rfl
  cases hu:s.ev r with
  |byt l tk=>rw[hu]at hv h1;simp only[lI,aP,if_false,ay.injEq,bA.injEq]at hv;obtain⟨_,rfl⟩:=hv;obtain⟨b',J,F,_⟩:=h1.byt_inv;exact cU.val H (nk K Q _ rfl) (run _ _ _ F) (dH _ _)
  |lst sz l tk=>rw[hu]at hv h1;simp only[lI,aP,if_false,ay.injEq,bA.injEq]at hv;obtain⟨_,rfl⟩:=hv;obtain⟨b',J,F,_⟩:=h1.lst_inv;exact cU.val H (nk K Q _ rfl) (run _ _ _ F) (dH _ _)
  |psl o' sz off n J=>rw[hu]at hv h1;simp only[lI,aP,if_false,ay.injEq,bA.injEq]at hv;obtain⟨_,rfl⟩:=hv;obtain⟨J,_,a7,a6,F,_⟩:=h1.psl_inv;exact cU.val H (nk K Q _ rfl) (run _ _ _ F) (dH _ _)
  |_=>rw[hu]at hv;simp[lI]at hv
theorem ry(H:aY C x s a w){F:Call}(K:o.op= .call F)(z:F.callee= .builtin .min\/F.callee= .builtin .max)(y:cw P o=some so)(hv:val s so=some (p,c)):cU P C o a w (s.put o.dst c):=by
 rcases z with z|z
 all_goals
  simp only[cw,K,z]at y;split at y<;>try (cases y;done)
  rename_i X Y t u hX ht;split at y<;>try (cases y;done)
  rename_i r q I J;cases y;have h1:=aV H I;have h2:=aV H J;have ea:F.args= #[X,Y]:=by apply jQ;simpa using hX
  simp only[val]at hv;split at hv<;>try (cases hv;done)
  rename_i k m k' n Z Q;rw[Z]at h1;rw[Q]at h2;split at hv<;>try (cases hv;done)
  rename_i hk;subst hk;simp only[ay.injEq,bA.injEq]at hv;obtain⟨_,rfl⟩:=hv;refine cU.val H (nk K z _ rfl) ?_ (dH _ _);rw[ea,show(#[X,Y].map a.eval)= #[.int k m,.int k n]from by simp[h1.int_inv,h2.int_inv]]
  first
   |exact run_min_int2 w _ _ _ _ _ _
   |rw[run_max_int2 w _ _ _ _ _ _]
theorem kG{e:TypeId}(h:nY P e=true):P.underlying e=some (.int .u8):=by
 unfold nY at h;split at h
 ·assumption
 ·cases h
theorem Qm(k:IntKind)(b:UInt8)(h1:k≠ .i8)(h2:k≠ .u8):k.wrap (b.toNat:Int)=b.toNat:=by have:=qG b;cases k<;>simp[ou,ll,iW]at* <;>omega
theorem Ck(ns:t8):∀(s:ByteArray),(ns.map fun b=>(b.toNat:Int)).foldl (fun r n=>r.push (eL n.toNat)) s=⟨⟨s.data.toList++ns⟩⟩:=by
 induction ns with
 |nil=>intro s;simp
 |cons b r y=>intro s;simp only[ax,kf];rw[y];simp[ByteArray.push]
theorem HD{bs:Value}{l:t8}{y dst e:TypeId}(hs:P.underlying y=some (.slice e))(F:P.underlying e=some (.int .u8))(z:P.underlying dst=some .string)
 (h:((∃a,bs= .slice a 0 0)/\l=[])\/∃b off cap,bs= .slice (some ⟨b,off,none⟩) l.length cap/\∀i,i<l.length->w.cell? ⟨b,off+i,none⟩=some (.int .u8 (l.getD i 0).toNat)):
 (convert y dst bs).run P w= .ok (.string ⟨⟨l⟩⟩) w:=by
 rcases h with⟨⟨a,rfl⟩,rfl⟩|⟨b,off,cap,rfl,hc⟩
 ·rw[run_convert_bytes_string w y dst e _ _ _ hs F z];cases a<;>rfl
 ·rw[run_convert_bytes_string w y dst e _ _ _ hs F z]
  have H:(loadCells ⟨b,off,none⟩ l.length).run P w= .ok ((l.map fun b=>(b.toNat:Int)).map (Value.int .u8)).toArray w:=by
   rw[run_loadCells w _ _ (fun i=> .int .u8 (l.getD i 0).toNat) (fun j I=>by rw[eH];exact hc j I)]
   congr 2
   apply List.ext_getElem?;intro i
   by_cases hi:i<l.length
   ·simp[hi,aa]
   ·simp[hi]
  rw[run_bytesToString w _ _ _ _ H,Ck];rfl
theorem iv(w:World)(cs:LAe)(e:TypeId):((w.alloc (.cells cs e (0,0))).freeze ⟨w.heap.size,cs.size,none⟩ 1).heap=(w.alloc (.cells cs e (cs.size,cs.size+1))).heap:=by
 apply Array.ext_getElem?;intro i;simp only[World.freeze,Nat.one_ne_zero,if_false,World.alloc,dz,Array.getElem?_push]
 by_cases h:w.heap.size=i
 ·subst h;simp
 ·rw[if_neg h]
  have:¬i=w.heap.size:=fun e=>h e.symm
  simp[this]
theorem fB{b n:Nat}{e:TypeId}{off:Nat}(h:w.shape? b=some (e,n)):(markStringish ⟨b,off,none⟩).run P w= .ok () (w.freeze ⟨b,n,none⟩ 1):=by simp only[markStringish,aH,run_shape,ao,h,run_freeze]
theorem Ae(H:aY C x s a w){a6 dst:TypeId}{X:Operand}(ho:o.op= .convert a6 dst X)(F:cw P o=some so)(hv:val s so=some (p,c))(hp:p):cU P C o a w (s.put o.dst c):=by
 have K:execOp a.eval o=(do pure (.value (<-convert a6 dst (a.eval X)))):=by simp only[execOp,ho]
 simp only[cw,ho]at F;split at F<;>try (cases F;done)
 ·rename_i k0 k r hs hd J
  cases F;have h1:=aV H J;simp only[val]at hv;obtain⟨c',y,Q⟩:=aj.1 hv;simp only[bA.injEq]at Q;obtain⟨_,rfl⟩:=Q
  have run:∀k1 n,a.eval X= .int k1 n->(convert a6 dst (a.eval X)).run P w= .ok (.int k (k.wrap n)) w:=by intro k1 n Q;rw[Q];simp[convert,run_underlying hs,run_underlying hd,Conv.intToInt]
  cases hu:s.ev r with
  |int k1 n=>
   rw[hu]at y h1;refine cU.val H K (run k1 n h1.int_inv) ?_
   cases k<;>simp only[jk,ay.injEq]at y<;>subst y<;>first
    |exact dH _ _
    |(rw[gY,<-Aj];exact qV _)
  |u8 b=>
   rw[hu]at y h1;refine cU.val H K (run .u8 b.toNat h1.u8_inv) ?_
   cases k<;>simp only[jk,ay.injEq,reduceCtorEq]at y<;>subst y<;>first
    |(rw[Qm _ _ (by decide) (by decide)];exact dH _ _)
    |(rw[gY,Int.emod_eq_of_lt (by omega) (by have:=qG b;omega)];exact qV _)
  |_=>rw[hu]at y;simp[jk]at y
 ·rename_i e r hs hd J
  split at F<;>try (cases F;done)
  rename_i h8;have Q:=kG h8;cases F;have h1:=aV H J;simp only[val]at hv;cases hu:s.ev r with
  |byt l tk=>
   rw[hu]at hv h1;simp only[Cz,ay.injEq,bA.injEq]at hv;obtain⟨_,rfl⟩:=hv;refine cU.val H K (HD hs Q hd ?_) (oU _);have hD:=h1.data rfl;cases hXv:a.eval X with
   |slice ad n I=>
    rw[hXv]at hD;cases hD with
    |bytN=>exact .inl ⟨⟨_,rfl⟩,rfl⟩
    |bytE=>exact .inl ⟨⟨_,rfl⟩,rfl⟩
    |byt _ _ b off _ _ hn hc hg=>subst hn;exact .inr ⟨b,off,I,rfl,fun i hi=>H.heap.per _ _ _ (hg i hi)⟩
   |_=>rw[hXv]at hD;cases hD
  |psl o' sz off n I=>
   rw[hu]at hv h1;simp only[Cz]at hv;cases hl:s.look o' with
   |none=>simp[hl]at hv
   |some b4=>
    cases b4 with
    |bar l=>
     simp only[hl,ay.injEq,bA.injEq]at hv;obtain⟨rfl,rfl⟩:=hv;obtain⟨b5,b6⟩:=hp;obtain⟨I,b7,_,z,b3,a8⟩:=h1.psl_inv;have Z:((l.drop off).take n).length=n:=by simp;omega
     refine cU.val H K (HD hs Q hd (.inr ⟨(x.bk o').1,z,I,by rw[Z];exact b3,fun i hi=> ?_⟩)) (oU _);rw[Z]at hi
     have a1:z=off:=by
      rcases a8 with h|h
      ·omega
      ·rw[b5,gI]at h;exact h
     subst a1;obtain⟨v,h2,h3⟩:=(gB H hl).cell (k:=z+i) (by simp only[aG.size];omega);rw[h2];have h4:bU x.G (.u8 (l.getD (z+i) 0)) v:=h3;cases h4;simp only[aa,bZ,if_pos hi,bH]
    |_=>simp[hl]at hv
  |_=>rw[hu]at hv;simp[Cz]at hv
 ·rename_i e r hs hd J
  split at F<;>try (cases F;done)
  rename_i h8;have Q:=kG h8;cases F;have h1:=aV H J;simp only[val]at hv;cases hu:s.ev r with
  |str l=>
   rw[hu]at hv h1;simp only[ay.injEq,bA.injEq]at hv;obtain⟨_,rfl⟩:=hv;have hf:(Question.appendCap (ByteArray.mk ⟨l⟩).size 0 e).forced=false:=rfl
   obtain⟨I,b2,b1⟩:∃I,(Question.appendCap (ByteArray.mk ⟨l⟩).size 0 e).cut (w.tape w.drawn (Question.appendCap (ByteArray.mk ⟨l⟩).size 0 e))=I/\l.length<=I:=by
    refine⟨_,rfl, ?_⟩;simp only[Question.cut];have:(ByteArray.mk ⟨l⟩).size=l.length:=by simp[ByteArray.size]
    omega
   let cs:LAe:=(ByteArray.mk ⟨l⟩).data.map (fun b=> .int .u8 b.toNat)++eE (I-(ByteArray.mk ⟨l⟩).size) (.int .u8 0)
   have a7:(ByteArray.mk ⟨l⟩).size=l.length:=by simp[ByteArray.size]
   have b8:cs.size=I:=by simp[cs,a7];omega
   have b0:∀i,i<l.length->cs[i]? =some (.int .u8 (l.getD i 0).toNat):=by intro i hi;simp only[cs];rw[Array.getElem?_append_left (by simpa using hi)];simp[hi,aa]
   have hw:∀w0:World,((w0.alloc (.cells cs e (0,0))).freeze ⟨w0.heap.size,cs.size,none⟩ 1).heap=(w0.alloc (.cells cs e (cs.size,cs.size+1))).heap:=fun w0=>iv w0 cs e
   refine cU.grow (x':=x.newD w.heap.size cs l.length) (w':=((w.drew.alloc (.cells cs e (0,0))).freeze ⟨w.heap.size,cs.size,none⟩ 1)) H K (u:= .slice (some ⟨w.heap.size,0,none⟩) l.length I) ?_ (H.heap.newD_le cs l.length) rfl rfl ?_ ?_
   ·rw[h1.str_inv]
    simp only[convert,aH,run_underlying hs,run_underlying hd,ao,run_underlying Q,Conv.stringToBytes,run_choose_drew,hf,aP,if_false,b2,newRow,run_newObj_alloc,aU];rw[fB (e:=e) (n:=cs.size) (by simp only[World.shape?];rw[eM])];simp only[ao,a7];rfl
   ·refine dA.congr (w:=(w.drew.alloc (.cells cs e (cs.size,cs.size+1)))) ?_ (hw w.drew) rfl rfl rfl
    exact H.heap.drew.allocD l.length
   ·refine .dat _ _ (.byt l .no w.heap.size 0 I l.length rfl b1 fun i hi=> ?_) trivial
    simp only[Sit.newD];rw[if_pos ⟨trivial,by omega⟩,de];exact b0 i hi
  |_=>rw[hu]at hv;simp at hv
 ·split at F<;>try (cases F;done)
  cases F;simp only[val]at hv;cases hv
theorem dJ{t:TypeId}{vs:LAd}(h:iL P t=some vs):∃z:Value,z.cells.toList=vs/\∀w:World,(zeroValue t).run P w= .ok z w:=by
 unfold iL at h;cases hi:P.info? t with
 |none=>simp[hi]at h
 |some i=>simp only[hi,dm]at h;obtain⟨z,y,rfl⟩:=aj.1 h;exact⟨z,rfl,fun w=>by simp[zeroValue,run_typeInfo w hi,y]⟩
theorem Jf{cs:LAa}{vs:LAd}(h:J2 cs vs=true):cB x cs vs:=by unfold J2 at h;simp only[aE,decide_eq_true_eq,aZ,gO]at h;exact⟨h.1,fun i hi=>tH (h.2 i hi)⟩
theorem vr{t:TypeId}{cs:LAa}(h:ov P t=some cs):∃vs,iL P t=some vs/\cB x cs vs:=by
 unfold ov at h;cases hz:iL P t with
 |none=>simp[hz]at h
 |some vs=>
  simp only[hz,dm]at h;cases hc:JI P (pI P 30 t) vs with
  |none=>simp[hc]at h
  |some r=>
   simp only[hc,dm]at h;split at h
   ·rename_i y;simp at h;subst h;exact⟨vs,rfl,Jf y⟩
   ·cases h
theorem nA{t:TypeId}{cs:LAa}(h:ov P t=some cs):∃vs,iL P t=some vs/\cs.length=vs.length/\∀(G:GM) i,i<cs.length->bU G (cs.getD i .undef) (vs.getD i undef):=by
 unfold ov at h;cases hz:iL P t with
 |none=>simp[hz]at h
 |some vs=>
  simp only[hz,dm]at h;cases hc:JI P (pI P 30 t) vs with
  |none=>simp[hc]at h
  |some r=>
   simp only[hc,dm]at h;split at h
   ·rename_i y;simp at h;subst h
    unfold J2 at y;simp only[aE,decide_eq_true_eq,aZ,gO]at y;exact⟨vs,rfl,y.1,fun G i hi=>oy (y.2 i hi)⟩
   ·cases h
theorem Rep.cells{v:SV}{u:Value}(h:Rep x v u)(I:v.isDef=true):cB x v.cells u.cells.toList:=by
 have one:∀{v:SV}{u:Value},Rep x v u->v.cells=[v]->u.cells= #[u]->cB x v.cells u.cells.toList:=by
  intro v u h h1 h2;rw[h1,h2]
  exact⟨rfl,fun i hi=>by
   obtain rfl:i=0:=by simpa using hi
   exact h⟩
 cases h with
 |undef=>simp[SV.isDef]at I
 |agg cs vs F H=>exact⟨F,H⟩
 |dat s v h J=>exact one (.dat _ _ h J) (by cases h<;>rfl) (by cases h<;>rfl)
 |ptr o off=>exact one (.ptr o off) rfl rfl
 |ap o sz i j=>exact one (.ap o sz i j) rfl rfl
 |psl o sz off n cap y z h K Z Q=>exact one (.psl o sz off n cap y z h K Z Q) rfl rfl
 |tup cs vs F H=>exact one (.tup cs vs F H) rfl rfl
 |fn f a b u v h1 h2 h3 h4=>exact one (.fn f a b u v h1 h2 h3 h4) rfl rfl
theorem jl{α:Type}(cs v:List α)(q i:Nat)(h:q+v.length<=cs.length):(cs.take q++v++cs.drop (q+v.length))[i]? =if q<=i/\i<q+v.length then v[i-q]? else cs[i]? :=by
 simp only[List.getElem?_append,af,aw,bZ,bH];have y:min q cs.length=q:=rp (by omega);rw[y]
 by_cases h1:i<q
 ·rw[if_pos (by omega),if_pos h1,if_pos h1,if_neg (by omega)]
 ·by_cases h3:i<q+v.length
  ·rw[if_pos h3,if_neg h1,if_pos ⟨by omega,h3⟩]
  ·rw[if_neg h3,if_neg (by omega)];congr 1;omega
theorem Jo(off:Nat)(v:LAd):∀(cs:LAe)(k i:Nat),off+k+v.length<=cs.size->
 ((v.zipIdx k).foldl (fun cs (c,j)=>cs.setIfInBounds (off+j) c) cs)[i]? =if off+k<=i/\i<off+k+v.length then v[i-(off+k)]? else cs[i]? :=by
 induction v with
 |nil=>intro cs k i y;rw[if_neg (by simp only[al];omega)];rfl
 |cons u r z=>
  intro cs k i y;simp only[ai]at y;simp only[List.zipIdx_cons,kf];rw[z _ (k+1) i (by simp;omega)];simp only[ai,Array.getElem?_setIfInBounds]
  by_cases h2:off+k=i
  ·subst h2
   rw[if_neg (by omega),if_pos rfl,if_pos (by omega),if_pos (by omega)];simp
  ·by_cases h3:off+(k+1)<=i/\i<off+(k+1)+r.length
   ·rw[if_pos h3,if_pos (by omega),show i-(off+k)=(i-(off+(k+1)))+1 from by omega]
    simp
   ·rw[if_neg h3,if_neg h2,if_neg (by omega)]
theorem vU(cs:LAe)(off:Nat)(v:LAd)(h:off+v.length<=cs.size):
 (v.zipIdx.foldl (fun cs (c,j)=>cs.setIfInBounds (off+j) c) cs).toList=cs.toList.take off++v++cs.toList.drop (off+v.length):=by
 apply List.ext_getElem?;intro i;rw[jl _ _ _ _ (by simpa using h)];have:=Jo off v cs 0 i (by simpa using h);simpa using this
theorem cB.append{c1 c2:LAa}{y v2:LAd}(h1:cB x c1 y)(h2:cB x c2 v2):cB x (c1++c2) (y++v2):=by
 refine⟨by simp[h1.1,h2.1],fun i hi=> ?_⟩;simp only[aa,List.getElem?_append]
 by_cases h:i<c1.length
 ·rw[if_pos h,if_pos (by rw[<-h1.1];exact h)]
  simpa only[aa]using h1.2 i h
 ·rw[if_neg h,if_neg (by rw[<-h1.1];exact h),h1.1]
  have:=h2.get (i-y.length);simpa only[aa]using this
theorem cB.take{c1:LAa}{z:LAd}(h1:cB x c1 z)(n:Nat):cB x (c1.take n) (z.take n):=by
 refine⟨by simp[h1.1],fun i hi=> ?_⟩;have y:i<n/\i<c1.length:=by simp only[aw]at hi;omega
 simp only[aa,bZ,if_pos y.1];simpa only[aa]using h1.2 i y.2
theorem cB.drop{c1:LAa}{y:LAd}(h1:cB x c1 y)(n:Nat):cB x (c1.drop n) (y.drop n):=by refine⟨by simp[h1.1],fun i hi=> ?_⟩;simp only[aa,bH];have:=h1.get (n+i);simpa only[aa]using this
theorem sZ(hM:aY C x s a w)(sI:Nat->Option (Nat×Nat)):∀(F:List (Nat×Operand))(z:List (Nat×Nat×Arg))(cs:LAa)(vs:LAe)(r:LAa),cB x cs vs.toList->
 z.length=F.length->(∀i (h:i<F.length) (h':i<z.length),sI F[i].1=some (z[i].1,z[i].2.1)/\∃t,bG P t F[i].2=some z[i].2.2)->
 jM cs (z.map fun(o,n,y)=>(o,n,s.ev y))=some r->∃us,Instr.fill sI vs (F.map fun(i,y)=>(i,a.eval y))=some us/\cB x r us.toList:=by
 intro F;induction F with
 |nil=>
  intro z cs vs r h Q _ H;have:z=[]:=by simpa using Q
  subst this;simp only[aK,jM,ay.injEq]at H;subst H;exact⟨vs,rfl,h⟩
 |cons q F ih=>
  intro z cs vs r h Q I H;cases z with
  |nil=>simp at Q
  |cons q' z=>
   obtain⟨qo,qn,qy⟩:=q';obtain⟨h0,t,ht⟩:=I 0 (by simp) (by simp);simp only[cu]at h0 ht;have J:=aV hM ht;simp only[ax,jM]at H;split at H<;>try (cases H;done)
   rename_i hc;obtain⟨Z,a1,a6⟩:=hc;have hL:=J.cells Z;have K:(a.eval q.2).cells.size=qn:=by rw[<-a1,<-bf];exact hL.1.symm
   have a7:vs.size=cs.length:=by rw[<-bf];exact h.1.symm
   simp only[ax,Instr.fill,h0];rw[if_neg (by simp[K];omega)];refine ih z _ _ r ?_ (by simpa using Q) (fun i h h'=> ?_) H
   ·rw[<-Array.foldl_toList,Array.toList_zipIdx,vU _ _ _ (by rw[bf];omega)]
    have e1:(a.eval q.2).cells.toList.length=qn:=by simpa using K
    rw[e1];exact((h.take _).append hL).append (h.drop _)
   ·have:=I (i+1) (by simpa using h) (by simpa using h')
    simpa using this
theorem fS{α β:Type}{f:α->Option β}:∀{l:List α}{r:List β},kY f l=some r->r.length=l.length/\∀i (h:i<l.length) (z:i<r.length),f l[i]=some r[i]:=by
 intro l;induction l with
 |nil=>intro r h;simp only[kY]at h;cases h;exact⟨rfl,fun i h=>by simp at h⟩
 |cons q l F=>
  intro r h;simp only[kY]at h;split at h<;>try (cases h;done)
  rename_i b I H y;cases h;obtain⟨h1,h2⟩:=F y;refine⟨by simp[h1],fun i h z=> ?_⟩;cases i with
  |zero=>simpa using H
  |succ i=>simpa using h2 i (by simpa using h) (by simpa using z)
theorem qM(y:Array Field)(h:∀f∈y.toList,(P.info? f.type).isSome=true)(w:World):
 (y.mapM fun f=>do pure (f.offset,<-sizeOf f.type):Sem (Array (Nat×Nat))).run P w= .ok (y.toList.map fun f=>(f.offset,(gJ P f.type).getD 0)).toArray w:=by
 rw[Array.mapM_eq_mapM_toList]
 have:∀l:List Field,(∀f∈l,(P.info? f.type).isSome=true)->(l.mapM fun f=>do pure (f.offset,<-sizeOf f.type):Sem (List (Nat×Nat))).run P w= .ok (l.map fun f=>(f.offset,(gJ P f.type).getD 0)) w:=by
  intro l;induction l with
  |nil=>intro _;rfl
  |cons f l F=>
   intro h;have z:=h f (by simp);obtain⟨i,hi⟩:=Option.isSome_iff_exists.1 z;have hs:gJ P f.type=some i.size:=by simp[gJ,hi]
   simp only[List.mapM_cons,aH,dl hs,ao,aU,F (fun g H=>h g (an _ H)),ax,hs,bn]
 rw[Sem.run_map,this _ h];rfl
theorem It(hM:aY C x s a w){t:TypeId}{F:Array (Nat×Operand)}(ho:o.op= .build t F)(J:cw P o=some so)(hv:val s so=some (p,c)):cU P C o a w (s.put o.dst c):=by
 have b3:execOp a.eval o=(do pure (.value (<-Instr.build t (F.map fun(i,y)=>(i,a.eval y))))):=by simp only[execOp,ho]
 simp only[cw,ho]at J;split at J<;>try (cases J;done)
 ·rename_i fs z hd hz
  split at J<;>try (cases J;done)
  rename_i b4;obtain⟨qs,b0,rfl⟩:=aj.1 J;obtain⟨vs,a1,hL⟩:=vr hz;obtain⟨zv,a8,a7⟩:=dJ a1;obtain⟨b1,K⟩:=fS b0;simp only[val]at hv;obtain⟨r,hf,he⟩:=aj.1 hv;simp only[bA.injEq]at he;obtain⟨_,rfl⟩:=he;have a6:∀f∈fs.toList,(P.info? f.type).isSome=true:=aZ.1 b4
  obtain⟨us,Z,I⟩:=sZ hM (fun i=>(fs.toList.map fun f=>(f.offset,(gJ P f.type).getD 0)).toArray[i]?) F.toList qs z zv.cells r (by rw[a8];exact hL) b1 (by
   intro i h h';have:=K i h h';generalize F.toList[i]=pi at*;generalize qs[i]=qi at*;cases hfi:fs[pi.1]? with
   |none=>simp[hfi]at this
   |some f=>
    simp only[hfi]at this;cases hn:gJ P f.type with
    |none=>simp[hn]at this
    |some n=>
     cases H:bG P f.type pi.2 with
     |none=>simp[hn,H]at this
     |some ar=>
      simp only[hn,H,ay.injEq]at this;rw[<-this];refine⟨?_,f.type,H⟩;have b2:fs.toList[pi.1]? =some f:=by simpa using hfi
      simp[b2,hn]) hf
  refine cU.val hM b3 (u:= .agg us) ?_ ?_
  ·have Q:(F.map fun(i,y)=>(i,a.eval y)).toList=F.toList.map fun(i,y)=>(i,a.eval y):=by simp
   simp only[Instr.build,aH,a7,ao,run_underlying hd,qM fs a6,Q];rw[Z];rfl
  ·obtain⟨us⟩:=us
   exact .agg _ _ I.1 I.2
 ·rename_i k e z hd hz
  split at J<;>try (cases J;done)
  rename_i n hn;obtain⟨qs,b0,rfl⟩:=aj.1 J;obtain⟨vs,a1,hL⟩:=vr hz;obtain⟨zv,a8,a7⟩:=dJ a1;obtain⟨b1,K⟩:=fS b0;simp only[val]at hv;obtain⟨r,hf,he⟩:=aj.1 hv;simp only[bA.injEq]at he;obtain⟨_,rfl⟩:=he
  obtain⟨us,Z,I⟩:=sZ hM (fun i=>some (i*n,n)) F.toList qs z zv.cells r (by rw[a8];exact hL) b1 (fun i h h'=>by have:=K i h h';obtain⟨ar,H,he⟩:=aj.1 this;rw[<-he];exact⟨rfl,e,H⟩) hf
  refine cU.val hM b3 (u:= .agg us) ?_ ?_
  ·have Q:(F.map fun(i,y)=>(i,a.eval y)).toList=F.toList.map fun(i,y)=>(i,a.eval y):=by simp
   simp only[Instr.build,aH,a7,ao,run_underlying hd,dl hn,Q];rw[Z];rfl
  ·obtain⟨us⟩:=us
   exact .agg _ _ I.1 I.2
theorem pZ(n:Nat):∀(us:LAd)(k:Nat)(vs:LAe),(∀u∈us,u.cells.size=n)->(k+us.length)*n<=vs.size->
 ∃r,Instr.fill (fun i=>some (i*n,n)) vs ((us.zipIdx k).map fun q=>(q.2,q.1))=some r/\r.toList=vs.toList.take (k*n)++(us.flatMap fun u=>u.cells.toList)++vs.toList.drop ((k+us.length)*n):=by
 intro us;induction us with
 |nil=>intro k vs _ _;exact⟨vs,rfl,by simp⟩
 |cons u us Z=>
  intro k vs I hs;have h0:=I u (by simp);have H:(k+(u::us).length)*n=k*n+n+us.length*n:=by simp only[ai,bW,eX];omega
  have F:(k+1)*n=k*n+n:=eX k n;rw[H]at hs;have y:=vU vs (k*n) u.cells.toList (by rw[bf,h0];omega);rw[bf,h0]at y
  obtain⟨r,K,J⟩:=Z (k+1) (u.cells.toList.zipIdx.foldl (fun cs (c,j)=>cs.setIfInBounds (k*n+j) c) vs) (fun q Q=>I q (an _ Q)) (by rw[<-bf,y];simp only[af,aw,aQ,bf,h0];rw[bW,F];omega)
  refine⟨r, ?_, ?_⟩
  ·simp only[List.zipIdx_cons,ax,Instr.fill]
   rw[if_neg (by simp[h0];omega)];rw[<-Array.foldl_toList,Array.toList_zipIdx];exact K
  ·rw[J,y,F,H]
   have e2:(k+1+us.length)*n=k*n+n+us.length*n:=by rw[bW,F]
   rw[e2];have z:(vs.toList.take (k*n)++u.cells.toList).length=k*n+n:=by simp[h0];omega
   rw[List.take_append_of_le_length (by rw[z];exact aM _),bp (by rw[z];exact aM _),List.drop_append,ez (by rw[z];omega),z,List.drop_drop];simp only[cA,aA,aI]
   congr 3
   congr 1;omega
theorem AC{n:Nat}:∀{vs:LAa}{r:f9},rows n vs=some r->r.length=vs.length/\∀i,i<vs.length->(vs.getD i .undef).isDef=true/\(vs.getD i .undef).cells.length=n/\
 (∀z∈(vs.getD i .undef).cells,z.isData=true)/\r.getD i []=(vs.getD i .undef).cells.map SV.data:=by
 intro vs;induction vs with
 |nil=>intro r h;simp only[rows,ay.injEq]at h;subst h;exact⟨rfl,fun i hi=>by simp at hi⟩
 |cons v vs H=>
  intro r h;simp only[rows]at h;split at h<;>try (cases h;done)
  rename_i F;obtain⟨I,y,rfl⟩:=aj.1 h;obtain⟨h1,h2⟩:=H y;refine⟨by simp[h1],fun i hi=> ?_⟩;cases i with
  |zero=>exact⟨F.1,F.2.1,aZ.1 F.2.2,rfl⟩
  |succ i=>simpa using h2 i (by simpa using hi)
theorem ye:∀{vs:LAa}{r:t8},toB vs=some r->vs=r.map .u8:=by
 intro vs;induction vs with
 |nil=>intro r h;simp only[toB,ay.injEq]at h;subst h;rfl
 |cons v vs z=>intro r h;cases v<;>simp only[toB,reduceCtorEq]at h;obtain⟨F,y,rfl⟩:=aj.1 h;rw[z y];rfl
theorem lW{n:Nat}{us:LAd}(h:∀u∈us,u.cells.size=n){i j:Nat}(hi:i<us.length)(F:j<n):
 (us.flatMap fun u=>u.cells.toList)[i*n+j]? =(us.getD i undef).cells.toList[j]? :=by
 induction us generalizing i with
 |nil=>simp at hi
 |cons u us z=>
  have h0:=h u (by simp);simp only[cA];cases i with
  |zero=>rw[cn (by simp[h0];omega)];simp
  |succ i=>rw[cO (by simp[h0,eX];omega)];have:=z (fun q y=>h q (an _ y)) (i:=i) (by simpa using hi);rw[show(i+1)*n+j-u.cells.toList.length=i*n+j from by simp[h0,eX];omega];simpa using this
theorem ru(hM:aY C x s a w){t:TypeId}{len:Nat}{F:Array (Nat×Operand)}(ho:o.op= .buildSlice t len F)(hr:cw P o=some so)(hv:val s so=some (p,c)):cU P C o a w (s.put o.dst c):=by
 have d4:execOp a.eval o=(do pure (.value (<-eT t len (F.map fun(i,y)=>(i,a.eval y))))):=by simp only[execOp,ho]
 simp only[cw,ho]at hr;split at hr<;>try (cases hr;done)
 rename_i e hd;split at hr<;>try (cases hr;done)
 rename_i n zv hn e3;split at hr<;>try (cases hr;done)
 rename_i a7;simp only[aE,decide_eq_true_eq]at a7;obtain⟨⟨b2,f1⟩,e8⟩:=a7;obtain⟨qs,e5,rfl⟩:=aj.1 hr;obtain⟨c7,d9⟩:=fS e5;obtain⟨z,f2,e4⟩:=dJ e3;have a1:F.toList.length=len:=by have:=congrArg uZ b2;simpa using this
 obtain⟨us,b0⟩:∃us:LAd,us=F.toList.map fun q=>a.eval q.2:=⟨_,rfl⟩
 have H:us.length=len:=by rw[b0];simpa using a1
 have Q:cB x (qs.map s.ev) us:=by
  refine⟨by rw[b0];simp[c7],fun i hi=> ?_⟩;have b6:i<qs.length:=by simpa using hi
  have:=aV hM (d9 i (by omega) b6);rw[b0];simp only[aa,aR,ac b6,ac (show i<F.toList.length from by omega),bz,bn];exact this
 have e0:(F.map fun(i,y)=>(i,a.eval y)).toList=(us.zipIdx 0).map fun q=>(q.2,q.1):=by
  rw[b0];apply List.ext_getElem
  ·simp
  ·intro i h1 h2
   simp only[Array.toList_map,av,bf]at h1;have:(F.toList.map (·.1))[i]? =(bQ len)[i]? :=by rw[b2]
   have hi:i<len:=by rw[<-a1];simpa using h1
   simp only[aR,cN hi]at this;rw[ac (by simpa using h1)]at this;simp at this;simp[this]
 have b1:(∀u∈us,u.cells.size=n)->∃r:LAe,(∀i j,i<len->j<n->r[i*n+j]? =(us.getD i undef).cells.toList[j]?)/\r.size=len*n/\
  (eT t len (F.map fun(i,y)=>(i,a.eval y))).run P w= .ok (.slice (some ⟨w.heap.size,0,none⟩) len len) (w.alloc (.cells r e (0,0))):=by
  intro b5
  have d3:∀zz:LAe,∃r:LAe,Instr.fill (fun i=>some (i*n,n)) ((Array.range (len*n)).map (fun i=>zz[i % zz.size]!)) (F.map fun(i,y)=>(i,a.eval y)).toList=some r/\
   (∀i j,i<len->j<n->r[i*n+j]? =(us.getD i undef).cells.toList[j]?)/\r.size=len*n:=by
   intro zz;obtain⟨r,e7,b4⟩:=pZ n us 0 ((Array.range (len*n)).map (fun i=>zz[i % zz.size]!)) b5 (by simp[H])
   have K:r.toList=us.flatMap fun u=>u.cells.toList:=by rw[b4];simp[H]
   refine⟨r,by rw[e0];exact e7,fun i j hi hj=> ?_, ?_⟩
   ·rw[<-dy,K,lW b5 (by omega) hj]
   ·rw[<-bf,K,List.length_flatMap]
    have:us.map (fun u=>u.cells.toList.length)=aB us.length n:=by
     apply List.ext_getElem
     ·simp
     ·intro i h1 h2
      simp;exact b5 _ (aF _)
    rw[this];simp[H]
  by_cases h0:len*n=0
  ·obtain⟨r,hf,h1,h2⟩:=d3 #[]
   refine⟨r,h1,h2, ?_⟩;simp only[eT,aH,run_underlying hd,ao,dl hn];rw[if_neg (by omega),if_pos h0];simp only[aH,aU,ao];rw[hf];rfl
  ·obtain⟨r,hf,h1,h2⟩:=d3 z.cells
   refine⟨r,h1,h2, ?_⟩;simp only[eT,aH,run_underlying hd,ao,dl hn];rw[if_neg (by omega),if_neg h0];simp only[aH,aU,ao,e4];rw[hf];rfl
 have I:∀i,i<len->i<(qs.map s.ev).length:=fun i hi=>by rw[Q.1,H];exact hi
 cases h8:nY P e with
 |true=>
  simp only[h8,if_true,val]at hv;obtain⟨l,hl,he⟩:=aj.1 hv;simp only[bA.injEq]at he;obtain⟨_,rfl⟩:=he;have hq:=ye hl;have e6:l.length=len:=by have:=congrArg uZ hq;simp only[av]at this;rw[<-this,c7,a1]
  have d5:∀i,i<len->us.getD i undef= .int .u8 (l.getD i 0).toNat:=by
   intro i hi;have:=Q.2 i (I i hi);rw[hq]at this
   have e1:(l.map SV.u8).getD i .undef= .u8 (l.getD i 0):=by simp only[aa,aR];rw[ac (by omega)];rfl
   rw[e1]at this;exact this.u8_inv
  have e2:∀u∈us,u.cells.size=1:=by intro u hu;obtain⟨i,hi,rfl⟩:=cr hu;have:=d5 i (by omega);rw[aa,ac hi]at this;simp only[bn]at this;rw[this];rfl
  have b8:n=1:=by simpa[h8]using e8
  subst b8;obtain⟨r,b3,d8,a6⟩:=b1 e2;refine cU.grow (x':=x.newD w.heap.size r len) hM d4 a6 (hM.heap.newD_le r len) rfl rfl (hM.heap.allocD len) ?_;refine .dat _ _ (.byt l _ w.heap.size 0 len len e6.symm (aM _) fun i hi=> ?_) ⟨_,len,rfl⟩;simp only[Sit.newD];rw[if_pos ⟨trivial,by omega⟩,de];have:=b3 i 0 hi (by omega);rw[gI,fJ]at this;rw[this,d5 i hi];rfl
 |false=>
  simp only[h8,aP,if_false,val]at hv;obtain⟨d6,d7,he⟩:=aj.1 hv;simp only[bA.injEq]at he;obtain⟨_,rfl⟩:=he;obtain⟨b4,Z⟩:=AC d7;have K:d6.length=len:=by rw[b4,Q.1,H]
  have J:∀i,i<len->cB x (((qs.map s.ev).getD i .undef).cells) ((us.getD i undef).cells.toList):=fun i hi=>(Q.2 i (I i hi)).cells (Z i (I i hi)).1
  have e9:∀u∈us,u.cells.size=n:=by intro u hu;obtain⟨i,hi,rfl⟩:=cr hu;have h1:=J i (by omega);have h2:=(Z i (I i (by omega))).2.1;rw[show us.getD i undef=us[i]from by rw[aa,ac hi];rfl]at h1;have:=h1.1;rw[h2]at this;simpa using this.symm
  obtain⟨r,b3,d8,a6⟩:=b1 e9;refine cU.grow (x':=x.newD w.heap.size r (len*n)) hM d4 a6 (hM.heap.newD_le r _) rfl rfl (hM.heap.allocD _) ?_;have f0:=hM.heap.newD_le r (len*n)
  have a8:∀i j,i<len->j<n->(x.newD w.heap.size r (len*n)).G w.heap.size (0+i*n+j)=some ((us.getD i undef).cells.toList.getD j undef):=by
   intro i j hi hj;simp only[Sit.newD]
   have hb:i*n+j<len*n:=by have:=cm n (Nat.succ_le_of_lt hi);rw[eX]at this;omega
   rw[if_pos ⟨trivial,by omega⟩,de,b3 i j hi hj]
   have:j<(us.getD i undef).cells.toList.length:=by rw[<-(J i hi).1,(Z i (I i hi)).2.1];exact hj
   generalize (us.getD i undef).cells.toList=q at*;rw[aa,ac this];rfl
  refine .dat _ _ (.lst n d6 _ w.heap.size 0 len len (fun i j=>(us.getD i undef).cells.toList.getD j undef) K.symm (aM _) (fun i hi=> ?_) a8 (fun i j hi hj=> ?_)) ⟨_,len,rfl⟩
  ·rw[(Z i (I i hi)).2.2.2,av];exact(Z i (I i hi)).2.1
  ·obtain⟨q1,q2,q3,q4⟩:=Z i (I i hi)
   rw[q4,io];have b7:j<((qs.map s.ev).getD i .undef).cells.length:=by rw[q2];exact hj
   have:=(J i hi).2 j b7;refine(bU.mono f0 (this.data (q3 _ ?_))).toData;generalize ((qs.map s.ev).getD i .undef).cells=q at*;rw[aa,ac b7];exact aF _
theorem rK(hM:aY C x s a w){t:TypeId}{len:Nat}{F:Array (Nat×Operand)}(ho:o.op= .buildSlice t len F){n0:Nat}{H:List Arg}(hr:cw P o=some (.lit n0 H))(b4:∀i,i<(H.map s.ev).length->((H.map s.ev).getD i .undef).isDef=true/\((H.map s.ev).getD i .undef).cells.length=n0):
 ∃(r:LAe)(e:TypeId),(execOp a.eval o).run P w= .ok (.value (.slice (some ⟨w.heap.size,0,none⟩) H.length H.length)) (w.alloc (.cells r e (0,0)))/\r.size=H.length*n0/\
  ∀k,k<H.length*n0->Rep x ((((H.map s.ev).getD (k/n0) .undef).cells).getD (k % n0) .undef) (r.getD k undef):=by
 have e3:execOp a.eval o=(do pure (.value (<-eT t len (F.map fun(i,y)=>(i,a.eval y))))):=by simp only[execOp,ho]
 simp only[cw,ho]at hr;split at hr<;>try (cases hr;done)
 rename_i e hd;split at hr<;>try (cases hr;done)
 rename_i n zv hn d6;split at hr<;>try (cases hr;done)
 rename_i Q;simp only[aE,decide_eq_true_eq]at Q;obtain⟨⟨a8,e7⟩,e8⟩:=Q;obtain⟨qs,e4,I⟩:=aj.1 hr;obtain⟨e6,d3⟩:=fS e4;obtain⟨z,e9,d9⟩:=dJ d6;have b0:F.toList.length=len:=by have:=congrArg uZ a8;simpa using this
 obtain⟨us,a7⟩:∃us:LAd,us=F.toList.map fun q=>a.eval q.2:=⟨_,rfl⟩
 have J:us.length=len:=by rw[a7];simpa using b0
 have a1:cB x (qs.map s.ev) us:=by
  refine⟨by rw[a7];simp[e6],fun i hi=> ?_⟩;have b7:i<qs.length:=by simpa using hi
  have:=aV hM (d3 i (by omega) b7);rw[a7];simp only[aa,aR,ac b7,ac (show i<F.toList.length from by omega),bz,bn];exact this
 have d4:(F.map fun(i,y)=>(i,a.eval y)).toList=(us.zipIdx 0).map fun q=>(q.2,q.1):=by
  rw[a7];apply List.ext_getElem
  ·simp
  ·intro i h1 h2
   simp only[Array.toList_map,av,bf]at h1;have:(F.toList.map (·.1))[i]? =(bQ len)[i]? :=by rw[a8]
   have hi:i<len:=by rw[<-b0];simpa using h1
   simp only[aR,cN hi]at this;rw[ac (by simpa using h1)]at this;simp at this;simp[this]
 have b6:(∀u∈us,u.cells.size=n)->∃r:LAe,(∀i j,i<len->j<n->r[i*n+j]? =(us.getD i undef).cells.toList[j]?)/\r.size=len*n/\
  (eT t len (F.map fun(i,y)=>(i,a.eval y))).run P w= .ok (.slice (some ⟨w.heap.size,0,none⟩) len len) (w.alloc (.cells r e (0,0))):=by
  intro b2
  have b5:∀zz:LAe,∃r:LAe,Instr.fill (fun i=>some (i*n,n)) ((Array.range (len*n)).map (fun i=>zz[i % zz.size]!)) (F.map fun(i,y)=>(i,a.eval y)).toList=some r/\
   (∀i j,i<len->j<n->r[i*n+j]? =(us.getD i undef).cells.toList[j]?)/\r.size=len*n:=by
   intro zz;obtain⟨r,c7,e0⟩:=pZ n us 0 ((Array.range (len*n)).map (fun i=>zz[i % zz.size]!)) b2 (by simp[J])
   have b1:r.toList=us.flatMap fun u=>u.cells.toList:=by rw[e0];simp[J]
   refine⟨r,by rw[d4];exact c7,fun i j hi hj=> ?_, ?_⟩
   ·rw[<-dy,b1,lW b2 (by omega) hj]
   ·rw[<-bf,b1,List.length_flatMap]
    have:us.map (fun u=>u.cells.toList.length)=aB us.length n:=by
     apply List.ext_getElem
     ·simp
     ·intro i h1 h2
      simp;exact b2 _ (aF _)
    rw[this];simp[J]
  by_cases h0:len*n=0
  ·obtain⟨r,hf,h1,h2⟩:=b5 #[]
   refine⟨r,h1,h2, ?_⟩;simp only[eT,aH,run_underlying hd,ao,dl hn];rw[if_neg (by omega),if_pos h0];simp only[aH,aU,ao];rw[hf];rfl
  ·obtain⟨r,hf,h1,h2⟩:=b5 z.cells
   refine⟨r,h1,h2, ?_⟩;simp only[eT,aH,run_underlying hd,ao,dl hn];rw[if_neg (by omega),if_neg h0];simp only[aH,aU,ao,d9];rw[hf];rfl
 have a6:∀i,i<len->i<(qs.map s.ev).length:=fun i hi=>by rw[a1.1,J];exact hi
 obtain⟨h8,rfl,rfl⟩:nY P e=false/\n=n0/\qs=H:=by
  cases h8:nY P e with
  |true=>rw[h8]at I;simp at I
  |false=>rw[h8]at I;simp at I;exact⟨rfl,I.1,I.2⟩
 have K:qs.length=len:=by rw[<-J,<-a1.1,av]
 have Z:∀i,i<len->cB x (((qs.map s.ev).getD i .undef).cells) ((us.getD i undef).cells.toList):=fun i hi=>(a1.2 i (a6 i hi)).cells (b4 i (a6 i hi)).1
 have d8:∀u∈us,u.cells.size=n:=by intro u hu;obtain⟨i,hi,rfl⟩:=cr hu;have h1:=Z i (by omega);have h2:=(b4 i (a6 i (by omega))).2;rw[show us.getD i undef=us[i]from by rw[aa,ac hi];rfl]at h1;have:=h1.1;rw[h2]at this;simpa using this.symm
 obtain⟨r,e5,I,b8⟩:=b6 d8
 have b3:(execOp a.eval o).run P w= .ok (.value (.slice (some ⟨w.heap.size,0,none⟩) qs.length qs.length)) (w.alloc (.cells r e (0,0))):=by rw[e3,K];simp[b8]
 refine⟨r,e,b3,by rw[K];exact I,fun k hk=> ?_⟩
 have d7:0<n:=by
  rcases ip n with h0|h0
  ·subst h0;omega
  ·exact h0
 have hi:k/n<len:=by rw[<-K];exact Nat.div_lt_of_lt_mul (by rw[dr];exact hk)
 have hj:k % n<n:=Nat.mod_lt _ d7;have q2:=(b4 (k/n) (a6 _ hi)).2;have e1:k/n*n+k % n=k:=by rw[dr];exact Nat.div_add_mod k n
 have e2:=e5 (k/n) (k % n) hi hj;rw[e1]at e2;have d5:k % n<((qs.map s.ev).getD (k/n) .undef).cells.length:=by rw[q2];exact hj
 have:=(Z _ hi).2 _ d5;rw[bT,e2,<-aa];exact this
theorem BO(hM:aY C x s a w){t:TypeId}{len:Nat}{I:Array (Nat×Operand)}(ho:o.op= .buildSlice t len I){n0:Nat}{z:List Arg}(hr:cw P o=some (.lit n0 z)){F:f9}(K:rows n0 (z.map s.ev)=some F):
 ∃(r:LAe)(e:TypeId),(execOp a.eval o).run P w= .ok (.value (.slice (some ⟨w.heap.size,0,none⟩) F.length F.length)) (w.alloc (.cells r e (0,0)))/\r.size=F.length*n0/\(∀y∈F,y.length=n0)/\
  ∀k,k<F.length*n0->bU x.G ((F.getD (k/n0) []).getD (k % n0) .undef) (r.getD k undef):=by
 obtain⟨Z,H⟩:=AC K;have J:(z.map s.ev).length=z.length:=av ..;obtain⟨r,e,h1,h2,h3⟩:=rK hM ho hr (fun i hi=>⟨(H i hi).1,(H i hi).2.1⟩);have Q:F.length=z.length:=by rw[Z,J]
 refine⟨r,e,by rw[Q];exact h1,by rw[Q];exact h2,fun y hy=> ?_,fun k hk=> ?_⟩
 ·obtain⟨i,hi,rfl⟩:=cr hy
  have:=(H i (by omega)).2.2.2;rw[aa,ac hi]at this;simp only[bn]at this;rw[this,av];exact(H i (by omega)).2.1
 ·rw[Q]at hk
  have a6:0<n0:=by
   rcases ip n0 with h0|h0
   ·subst h0;omega
   ·exact h0
  have hi:k/n0<(z.map s.ev).length:=by rw[J];exact Nat.div_lt_of_lt_mul (by rw[dr];exact hk)
  obtain⟨q1,q2,q3,q4⟩:=H (k/n0) hi;rw[q4,io];have a1:k % n0<((z.map s.ev).getD (k/n0) .undef).cells.length:=by rw[q2];exact Nat.mod_lt _ a6
  refine((h3 k hk).data (q3 _ ?_)).toData;generalize ((z.map s.ev).getD (k/n0) .undef).cells=q at*;rw[aa,ac a1];exact aF _
theorem BP(hM:aY C x s a w){t:TypeId}{len:Nat}{F:Array (Nat×Operand)}(ho:o.op= .buildSlice t len F){b2:List Arg}(hr:cw P o=some (.litB b2)){l:t8}(d3:toB (b2.map s.ev)=some l):
 ∃(r:LAe)(e:TypeId),(execOp a.eval o).run P w= .ok (.value (.slice (some ⟨w.heap.size,0,none⟩) l.length l.length)) (w.alloc (.cells r e (0,0)))/\l.length<=r.size/\∀i,i<l.length->r.getD i undef= .int .u8 (l.getD i 0).toNat:=by
 have e2:execOp a.eval o=(do pure (.value (<-eT t len (F.map fun(i,y)=>(i,a.eval y))))):=by simp only[execOp,ho]
 simp only[cw,ho]at hr;split at hr<;>try (cases hr;done)
 rename_i e hd;split at hr<;>try (cases hr;done)
 rename_i n zv hn d8;split at hr<;>try (cases hr;done)
 rename_i J;simp only[aE,decide_eq_true_eq]at J;obtain⟨⟨Z,e5⟩,d4⟩:=J;obtain⟨qs,e3,I⟩:=aj.1 hr;obtain⟨b6,d5⟩:=fS e3;obtain⟨z,e6,d9⟩:=dJ d8;have K:F.toList.length=len:=by have:=congrArg uZ Z;simpa using this
 obtain⟨us,Q⟩:∃us:LAd,us=F.toList.map fun q=>a.eval q.2:=⟨_,rfl⟩
 have H:us.length=len:=by rw[Q];simpa using K
 have a1:cB x (qs.map s.ev) us:=by
  refine⟨by rw[Q];simp[b6],fun i hi=> ?_⟩;have b1:i<qs.length:=by simpa using hi
  have:=aV hM (d5 i (by omega) b1);rw[Q];simp only[aa,aR,ac b1,ac (show i<F.toList.length from by omega),bz,bn];exact this
 have d6:(F.map fun(i,y)=>(i,a.eval y)).toList=(us.zipIdx 0).map fun q=>(q.2,q.1):=by
  rw[Q];apply List.ext_getElem
  ·simp
  ·intro i h1 h2
   simp only[Array.toList_map,av,bf]at h1;have:(F.toList.map (·.1))[i]? =(bQ len)[i]? :=by rw[Z]
   have hi:i<len:=by rw[<-K];simpa using h1
   simp only[aR,cN hi]at this;rw[ac (by simpa using h1)]at this;simp at this;simp[this]
 have b0:(∀u∈us,u.cells.size=n)->∃r:LAe,(∀i j,i<len->j<n->r[i*n+j]? =(us.getD i undef).cells.toList[j]?)/\r.size=len*n/\
  (eT t len (F.map fun(i,y)=>(i,a.eval y))).run P w= .ok (.slice (some ⟨w.heap.size,0,none⟩) len len) (w.alloc (.cells r e (0,0))):=by
  intro a7
  have a8:∀zz:LAe,∃r:LAe,Instr.fill (fun i=>some (i*n,n)) ((Array.range (len*n)).map (fun i=>zz[i % zz.size]!)) (F.map fun(i,y)=>(i,a.eval y)).toList=some r/\
   (∀i j,i<len->j<n->r[i*n+j]? =(us.getD i undef).cells.toList[j]?)/\r.size=len*n:=by
   intro zz;obtain⟨r,c7,e0⟩:=pZ n us 0 ((Array.range (len*n)).map (fun i=>zz[i % zz.size]!)) a7 (by simp[H])
   have a6:r.toList=us.flatMap fun u=>u.cells.toList:=by rw[e0];simp[H]
   refine⟨r,by rw[d6];exact c7,fun i j hi hj=> ?_, ?_⟩
   ·rw[<-dy,a6,lW a7 (by omega) hj]
   ·rw[<-bf,a6,List.length_flatMap]
    have:us.map (fun u=>u.cells.toList.length)=aB us.length n:=by
     apply List.ext_getElem
     ·simp
     ·intro i h1 h2
      simp;exact a7 _ (aF _)
    rw[this];simp[H]
  by_cases h0:len*n=0
  ·obtain⟨r,hf,h1,h2⟩:=a8 #[]
   refine⟨r,h1,h2, ?_⟩;simp only[eT,aH,run_underlying hd,ao,dl hn];rw[if_neg (by omega),if_pos h0];simp only[aH,aU,ao];rw[hf];rfl
  ·obtain⟨r,hf,h1,h2⟩:=a8 z.cells
   refine⟨r,h1,h2, ?_⟩;simp only[eT,aH,run_underlying hd,ao,dl hn];rw[if_neg (by omega),if_neg h0];simp only[aH,aU,ao,d9];rw[hf];rfl
 have b7:∀i,i<len->i<(qs.map s.ev).length:=fun i hi=>by rw[a1.1,H];exact hi
 cases h8:nY P e with
 |true=>
  simp only[h8,if_true,SOp.litB.injEq]at I;subst I;have hl:=d3;have hq:=ye hl;have b8:l.length=len:=by have:=congrArg uZ hq;simp only[av]at this;rw[<-this,b6,K]
  have b4:∀i,i<len->us.getD i undef= .int .u8 (l.getD i 0).toNat:=by
   intro i hi;have:=a1.2 i (b7 i hi);rw[hq]at this
   have e1:(l.map SV.u8).getD i .undef= .u8 (l.getD i 0):=by simp only[aa,aR];rw[ac (by omega)];rfl
   rw[e1]at this;exact this.u8_inv
  have d7:∀u∈us,u.cells.size=1:=by intro u hu;obtain⟨i,hi,rfl⟩:=cr hu;have:=b4 i (by omega);rw[aa,ac hi]at this;simp only[bn]at this;rw[this];rfl
  have b5:n=1:=by simpa[h8]using d4
  subst b5;obtain⟨r,e4,I,b3⟩:=b0 d7;refine⟨r,e,by rw[e2,aH,b3];simp[b8],by rw[I];omega,fun i hi=> ?_⟩;have:=e4 i 0 (by omega) (by omega);rw[gI,fJ]at this;rw[bT,this,b4 i (by omega)];rfl
 |false=>simp only[h8,aP,if_false]at I;cases I
theorem SF{F:List Arg}(z:cw P o=some (.litB F)):∃t len y,o.op= .buildSlice t len y:=by
 cases ho:o.op with
 |buildSlice t len y=>exact⟨t,len,y,rfl⟩
 |_=>exfalso;exact absurd z (by
  intro z;simp only[cw,ho]at z
  first
   |(cases z;done)
   |(obtain⟨_,_,h⟩:=aj.1 z;cases h;done)
   |(repeat' split at z)<;>first|(cases z;done)|contradiction|(obtain⟨_,_,h⟩:=aj.1 z;(repeat' first|(cases h;done)|split at h)))
theorem AZ{t:TypeId}{n:Nat}(h:u7 P t=some n):vM P t=some false:=by unfold u7 at h;unfold vM;split at h<;>first|(cases h;done)|(rename_i h1;rw[h1];rfl)
theorem ta{t:TypeId}{n:Nat}(F:u7 P t=some n){c1 d1:SV}{u v:Value}(z:Rep x c1 u)(hv:Rep x d1 v){b:Bool}(h:zP n c1 d1=some b)(d:Nat):(Op.equalIn (d+1) t u v).run P w= .ok b w:=by
 unfold u7 at F;split at F<;>try (cases F;done)
 all_goals
  rename_i y;cases F;cases c1<;>cases d1<;>simp only[zP,reduceCtorEq,ay.injEq,bg]at h
 ·rw[z.bool_inv,hv.bool_inv]
  subst h;rename_i m n;simp only[Op.equalIn,aH,run_underlying y,ao,aU];cases m<;>cases n<;>rfl
 ·rw[z.int_inv,hv.int_inv]
  obtain⟨rfl,h⟩:=h;subst h;simp only[Op.equalIn,aH,run_underlying y,ao,if_true,aU];rfl
 ·rw[z.u8_inv,hv.u8_inv]
  subst h;rename_i m n;simp only[Op.equalIn,aH,run_underlying y,ao,if_true,aU]
  congr 1
  rw[fm];simp only[beq_iff_eq,decide_eq_true_eq,Int.natCast_inj];exact UInt8.toNat_inj
 ·rw[z.str_inv,hv.str_inv]
  subst h;rename_i m n;simp only[Op.equalIn,aH,run_underlying y,ao,aU]
  congr 1
  rw[beq_toListBytes,ByteArray.toList_eq,ByteArray.toList_eq,fm];simp
theorem lS:∀(fs:List Field)(ts:LAb)(k:Nat)(cs I:LAa)(y H:LAd)(d:Nat),Cm P k fs=some ts->
 cB x cs (y.drop k)->cB x I (H.drop k)->∀{b:Bool},fE ts cs I=some b->(Op.eqFields (d+1) ⟨y⟩ ⟨H⟩ fs).run P w= .ok b w
 |[],ts,k,cs,I,y,H,d,z,K,hy,b,h=>by simp only[Cm,ay.injEq]at z;subst z;cases cs<;>cases I<;>simp[fE]at h;subst h;simp[Op.eqFields]
 |f::fs,ts,k,cs,I,y,H,d,z,K,hy,b,h=>by
  simp only[Cm,bg]at z;obtain⟨⟨Q,a1⟩,z⟩:=z;split at z<;>try (cases z;done)
  rename_i t a7 F a8;cases z;cases cs with
  |nil=>simp[fE]at h
  |cons c1 cs=>
   cases I with
   |nil=>simp[fE]at h
   |cons d1 I=>
    simp only[fE]at h;split at h<;>try (cases h;done)
    rename_i r q hr hq;cases h;have J:=K.1;have a6:=hy.1;simp only[ai,aQ]at J a6
    have b1:(⟨y⟩:LAe)[k]? =some (y.getD k undef):=by rw[lZ,ac (by omega),aa,ac (by omega)];rfl
    have b3:(⟨H⟩:LAe)[k]? =some (H.getD k undef):=by rw[lZ,ac (by omega),aa,ac (by omega)];rfl
    have b0:Rep x c1 (y.getD k undef):=by have:=K.2 0 (by simp);simpa[aa,bH]using this
    have b2:Rep x d1 (H.getD k undef):=by have:=hy.2 0 (by simp);simpa[aa,bH]using this
    have tl:∀{cs:LAa}{c1:SV}{y:LAd},cB x (c1::cs) (y.drop k)->cB x cs (y.drop (k+1)):=by intro cs c1 y K;have J:=K.1;simp only[ai,aQ]at J;refine⟨by simp only[aQ];omega,fun i hi=> ?_⟩;have:=K.2 (i+1) (by simpa using hi);simp only[aa,List.getElem?_cons_succ,bH]at this ⊢;rw[show k+1+i=k+(i+1)by omega];exact this
    have ih:=lS fs a7 (k+1) cs I y H d a8 (tl K) (tl hy) hq;have Z:=ta (w:=w) F b0 b2 hr d;simp only[Op.eqFields,if_pos Q,part,aH,kH (AZ F),ao,aP,if_false];rw[a1,b1,b3];simp only[aU,ao,Z];cases r
    ·simp
    ·simp only[vq,aP,if_false]
     rw[ih,Bool.true_and]
theorem nt{e:TypeId}{t:Nat}(Q:u7 P e=some t)(hc:P.cellsOf e=1):∀(m k:Nat)(cs F:LAa)(y z:LAd)(d:Nat),cB x cs (y.drop k)->cB x F (z.drop k)->
 ∀{b:Bool},fE (aB m t) cs F=some b->(Op.eqItems (d+1) e (P.cellsOf e) ⟨y⟩ ⟨z⟩ (uY k m)).run P w= .ok b w
 |0,k,cs,F,y,z,d,I,hy,b,h=>by
  cases cs<;>cases F<;>simp[fE]at h;subst h;simp[Op.eqItems]
 |m+1,k,cs,F,y,z,d,I,hy,b,h=>by
  rw[List.replicate_succ]at h;cases cs with
  |nil=>simp[fE]at h
  |cons c1 cs=>
   cases F with
   |nil=>simp[fE]at h
   |cons d1 F=>
    simp only[fE]at h;split at h<;>try (cases h;done)
    rename_i r q hr hq;cases h;have H:=I.1;have K:=hy.1;simp only[ai,aQ]at H K
    have a1:(⟨y⟩:LAe)[k]? =some (y.getD k undef):=by rw[lZ,ac (by omega),aa,ac (by omega)];rfl
    have a7:(⟨z⟩:LAe)[k]? =some (z.getD k undef):=by rw[lZ,ac (by omega),aa,ac (by omega)];rfl
    have Z:Rep x c1 (y.getD k undef):=by have:=I.2 0 (by simp);simpa[aa,bH]using this
    have a6:Rep x d1 (z.getD k undef):=by have:=hy.2 0 (by simp);simpa[aa,bH]using this
    have tl:∀{cs:LAa}{c1:SV}{y:LAd},cB x (c1::cs) (y.drop k)->cB x cs (y.drop (k+1)):=by intro cs c1 y I;have H:=I.1;simp only[ai,aQ]at H;refine⟨by simp only[aQ];omega,fun i hi=> ?_⟩;have:=I.2 (i+1) (by simpa using hi);simp only[aa,List.getElem?_cons_succ,bH]at this ⊢;rw[show k+1+i=k+(i+1)by omega];exact this
    have ih:=nt Q hc m (k+1) cs F y z d (tl I) (tl hy) hq;have J:=ta (w:=w) Q Z a6 hr d;rw[List.range'_succ];simp only[Op.eqItems,part,aH,kH (AZ Q),ao,aP,if_false,hc,gI];rw[a1,a7];simp only[aU,ao,J];cases r
    ·simp
    ·simp only[vq,aP,if_false]
     rw[hc]at ih;rw[ih,Bool.true_and]
theorem Qg(Z:aY C x s a w){op:BinOp}{t u:TypeId}{X Y:Operand}(ho:o.op= .binOp op t X Y u){I:Bool}{ts:LAb}{x' y':Arg}(z:cw P o=some (.eqS I ts x' y'))(hv:val s (.eqS I ts x' y')=some (p,c)):cU P C o a w (s.put o.dst c):=by
 have a7:execOp a.eval o=(do pure (.value (<-(do eqGuard op t X Y (a.eval X) (a.eval Y);binOp op t (a.eval X) (a.eval Y):Sem Value)))):=by simp only[execOp,ho]
 simp only[cw,ho]at z;split at z<;>try (cases z;done)
 ·rename_i fs _ _ hd Q K
  split at z<;>try (cases z;done)
  rename_i a1 b1;rw[bg]at z;obtain⟨y,z⟩:=z;simp only[aE,dE]at y
  have F:op=(if I then .neq else .eql)/\a1=ts/\bG P t X=some x'/\bG P u Y=some y':=by split at z<;>first|(cases z;done)|(cases z;exact⟨rfl,rfl,Q,K⟩)
  obtain⟨F,rfl,Q,K⟩:=F;have h1:=aV Z Q;have h2:=aV Z K;simp only[val]at hv;cases hu:s.ev x' with
  |agg cs=>
   cases hw:s.ev y' with
   |agg ds=>
    rw[hu,hw]at hv;rw[hu]at h1;rw[hw]at h2;simp only[aj,bA.injEq]at hv;obtain⟨b,hb,_,rfl⟩:=hv;obtain⟨vs,e1,g1⟩:=h1.agg_inv;obtain⟨us,e2,g2⟩:=h2.agg_inv;have a6:P.fieldsOf t=fs:=by simp[Program.fieldsOf,hd]
    have H:(Op.equalIn 10000 t (.agg ⟨vs⟩) (.agg ⟨us⟩)).run P w= .ok b w:=by rw[show(10000:Nat)=9998+1+1 from rfl,run_equalIn_struct w (9998+1) t ⟨vs⟩ ⟨us⟩ (by rw[a6];exact hd) y.1,a6];exact lS fs.toList a1 0 cs ds vs us 9998 b1 (by simpa using g1) (by simpa using g2) hb
    refine cU.val Z a7 (u:= .bool (if I then !b else b)) ?_ (eF _);rw[e1,e2];simp only[aH,run_eqGuard_agg w op t X Y ⟨vs⟩ ⟨us⟩ y.2,ao];subst F;cases I
    ·simp only[aP,if_false];rw[run_eql_struct,H];rfl
    ·simp only[if_true];rw[run_neq_struct,H];rfl
   |_=>rw[hu,hw]at hv;simp at hv
  |_=>rw[hu]at hv;simp at hv
 ·split at z<;>cases z
 ·rename_i n e _ _ hd Q K
  split at z<;>try (cases z;done)
  rename_i tg b0 J;rw[bg]at z;obtain⟨y,z⟩:=z;simp only[dE]at y
  have F:op=(if I then .neq else .eql)/\aB n tg=ts/\bG P t X=some x'/\bG P u Y=some y':=by split at z<;>first|(cases z;done)|(cases z;exact⟨rfl,rfl,Q,K⟩)
  obtain⟨F,rfl,Q,K⟩:=F;have h1:=aV Z Q;have h2:=aV Z K;simp only[val]at hv;cases hu:s.ev x' with
  |agg cs=>
   cases hw:s.ev y' with
   |agg ds=>
    rw[hu,hw]at hv;rw[hu]at h1;rw[hw]at h2;simp only[aj,bA.injEq]at hv;obtain⟨b,hb,_,rfl⟩:=hv;obtain⟨vs,e1,g1⟩:=h1.agg_inv;obtain⟨us,e2,g2⟩:=h2.agg_inv
    obtain⟨i,hi,a8⟩:∃i,P.info? e=some i/\i.size=1:=by unfold gJ at J;rw[aj]at J;exact J
    have hc:P.cellsOf e=1:=by unfold Program.cellsOf;rw[hi];exact a8
    have H:(Op.equalIn 10000 t (.agg ⟨vs⟩) (.agg ⟨us⟩)).run P w= .ok b w:=by rw[show(10000:Nat)=9998+1+1 from rfl,run_equalIn_array w (9998+1) ⟨vs⟩ ⟨us⟩ hd hi,List.range_eq_range'];exact nt b0 hc n 0 cs ds vs us 9998 (by simpa using g1) (by simpa using g2) hb
    refine cU.val Z a7 (u:= .bool (if I then !b else b)) ?_ (eF _);rw[e1,e2];simp only[aH,run_eqGuard_agg w op t X Y ⟨vs⟩ ⟨us⟩ y,ao];subst F;cases I
    ·simp only[aP,if_false];rw[run_eql_struct,H];rfl
    ·simp only[if_true];rw[run_neq_struct,H];rfl
   |_=>rw[hu,hw]at hv;simp at hv
  |_=>rw[hu]at hv;simp at hv
variable {e:Eff}
theorem aY.newObj(H:aY C x s a w){d:Nat}(F:LAc)(z:100<=d){cv:LAe}{t:TypeId}(y:aG){val:SV}{u:Value}(hs:y.size<=cv.size)(I:∀k,k<y.size->cQ x y k (cv.getD k undef))
 (hv:Rep (x.newO d w.heap.size) val u):
 aY C (x.newO d w.heap.size) (((s.purge d (d+1)).addO d (y.purge d (d+1))).put F val) (a.put F u) (w.alloc (.cells cv t (0,0))):=by
 refine aY.put ⟨?_,H.defers, ?_⟩ F hv
 ·exact cB.mono (x:=x) (x':=x.newO d w.heap.size) (lo:=d) (hi:=d+1) (fun _ _ _ h=>h) (Sit.newO_ne x d _) (fun _ _=>rfl) H.tm
 ·exact H.heap.allocO d z y (fun i _ h=>by omega) hs I (aC _) (fun _ h=>by omega)
theorem cU.newObj(I:aY C x s a w){d:Nat}(z:100<=d){m:Sem Value}{cv:LAe}{t:TypeId}(y:aG){val:SV}{u:Value}(H:execOp a.eval o=(do pure (.value (<-m))))
 (F:m.run P w= .ok u (w.alloc (.cells cv t (0,0)))) (hs:y.size<=cv.size) (J:∀k,k<y.size->cQ x y k (cv.getD k undef)) (hv:Rep (x.newO d w.heap.size) val u):
 cU P C o a w (((s.purge d (d+1)).addO d (y.purge d (d+1))).put o.dst val):=
 ⟨u,w.alloc (.cells cv t (0,0)),_,.value u,by rw[H];simp[F],.inl rfl,I.newObj o.dst z y hs J hv⟩
theorem yC(x:Sit)(d b:Nat){k:Nat}:(x.newO d b k).bk d=(b,k):=if_pos rfl
theorem lH(x:Sit)(d b:Nat){k:Nat}:((x.newO d b k).bk d).1=b:=by rw[yC]
theorem Jz(hM:aY C x s a w){t:TypeId}(Z:o.op= .alloc t)(F:cw P o=some so)(J:eff s o.dst so=some e):cU P C o a w (s.app o.dst e):=by
 simp only[cw,Z]at F;split at F<;>try (cases F;done)
 rename_i H z a1 hz;split at F<;>try (cases F;done)
 rename_i y;cases F;simp only[eff]at J;split at J<;>try (cases J;done)
 rename_i d hd;cases J;obtain⟨zv,I,K⟩:=dJ hz;simp only[Ui,aE,decide_eq_true_eq,aZ,gO]at y;simp only[St.app];have Q:o.dst.getD 0=d:=by rw[hd];rfl
 rw[Q];refine cU.newObj hM (d:=d+100) (by omega) H (m:=Instr.alloc t true (.tuple #[])) (cv:=zv.cells) (t:=t) (u:= .pointer (some ⟨w.heap.size,0,none⟩)) (by simp only[execOp,Z]) ?_ (by rw[<-bf,I];exact y.1) (fun k hk=> ?_) ?_
 ·simp only[Instr.alloc,aH,K,ao,newVar,newRow,run_newObj_alloc,aU]
 ·have h1:=y.2 k hk
  have h2:zv.cells.getD k undef=z.getD k undef:=by rw[<-I];simp[bT]
  rw[h2];cases H with
  |rc cs=>exact tH h1
  |arr sz xs=>exact oy h1
  |bar l=>exact oy h1
 ·have:=Rep.ptr (x:=x.newO (d+100) w.heap.size) (d+100) 0
  rw[lH]at this;exact this
theorem Tu(Z:aY C x s a w){t:TypeId}{X:Operand}(K:o.op= .box t X)(Q:cw P o=some so)(F:eff s o.dst so=some e):cU P C o a w (s.app o.dst e):=by
 simp only[cw,K]at Q;obtain⟨r,I,rfl⟩:=aj.1 Q;have z:=aV Z I;simp only[eff]at F;split at F<;>try (cases F;done)
 rename_i d hd;cases F;simp only[St.app];have hc:(s.ev r).isDef=true->cB x (s.ev r).cells (a.eval X).cells.toList:=z.cells;have y:(s.ev r).isDef=true\/(s.ev r).cells=[]:=by cases s.ev r<;>simp[SV.isDef,SV.cells]
 have H:o.dst.getD 0=d:=by rw[hd];rfl
 rw[H];refine cU.newObj Z (d:=d+100) (by omega) (.rc (s.ev r).cells) (m:=Instr.box t (a.eval X)) (cv:=(a.eval X).cells) (t:=t) (u:= .pointer (some ⟨w.heap.size,0,none⟩)) (by simp only[execOp,K]) ?_ ?_ (fun k J=> ?_) ?_
 ·simp only[Instr.box,aH,ao,newVar,newRow,run_newObj_alloc,aU]
 ·rcases y with y|y
  ·have:=(hc y).1;simp only[aG.size];rw[<-bf];omega
  ·simp[aG.size,y]
 ·rcases y with y|y
  ·have:=(hc y).2 k J
   simp only[cQ];have e1:(a.eval X).cells.getD k undef=(a.eval X).cells.toList.getD k undef:=by simp[bT]
   rw[e1];exact this
  ·simp[aG.size,y]at J
 ·have:=Rep.ptr (x:=x.newO (d+100) w.heap.size) (d+100) 0
  rw[lH]at this;exact this
theorem mX{t el:TypeId}{F n:Nat}{I:LAd}{l c:Int}{k1 k2:IntKind}(hd:P.underlying t=some (.slice el))(hn:gJ P el=some n)(K:Ii P el=some F)(hz:iL P el=some I)
 (h0:0<=l) (h1:l<=c) (h2:(F:Int)*c<=140737488355328) (h3:c<=9223372036854775807):
 ∃cv:LAe,(Instr.makeSlice t (.int k1 l) (.int k2 c)).run P w= .ok (.slice (some ⟨w.heap.size,0,none⟩) l.toNat c.toNat) (w.alloc (.cells cv el (0,0)))/\cv.size=c.toNat*n/\
  ∀k,k<c.toNat*n->cv.getD k undef=I.getD (k % I.length) default:=by
 obtain⟨z,a7,a6⟩:=dJ hz;have wl:ah.wrap l=l:=by rw[IntKind.wrap_i64];omega
 have wc:ah.wrap c=c:=by rw[IntKind.wrap_i64];omega
 have a1:∃i,P.info? el=some i/\i.bytes=F:=by
  unfold Ii at K;cases hi:P.info? el with
  |none=>simp[hi]at K
  |some i=>simp[hi]at K;exact⟨i,rfl,K⟩
 obtain⟨i,hi,Z⟩:=a1
 have J:¬((decide (c<0)||decide ((i.bytes:Int)*c>2^48)||decide (l<0)||decide (l>c))=true):=by rw[Z];simp;omega
 have key:∀(Q:LAe),(c.toNat*n=0\/Q=z.cells)->∃cv:LAe,cv=(Array.range (c.toNat*n)).map (fun j=>Q[j % Q.size]!)/\cv.size=c.toNat*n/\∀k,k<c.toNat*n->cv.getD k undef=I.getD (k % I.length) default:=by
  intro Q a8;refine⟨_,rfl,by simp,fun k hk=> ?_⟩;rcases a8 with h|rfl
  ·omega
  ·rw[<-a7]
   simp[bT,hk];rw[getElem!_def];cases z.cells[k % z.cells.size]? <;>rfl
 by_cases y:c.toNat*n=0
 ·obtain⟨cv,H,r1,r2⟩:=key #[] (.inl y)
  refine⟨cv, ?_,r1,r2⟩;simp only[Instr.makeSlice,aH,run_underlying hd,ao,asInt,asIntOf,aU,run_typeInfo w hi,wl,wc];rw[if_neg (by simpa using J)];simp only[aH,run_askRoom,ao,dl hn];rw[if_pos y];simp only[aH,aU,ao,newRow,run_newObj_alloc,H]
 ·obtain⟨cv,H,r1,r2⟩:=key z.cells (.inr rfl)
  refine⟨cv, ?_,r1,r2⟩;simp only[Instr.makeSlice,aH,run_underlying hd,ao,asInt,asIntOf,aU,run_typeInfo w hi,wl,wc];rw[if_neg (by simpa using J)];simp only[aH,run_askRoom,ao,dl hn];rw[if_neg y];simp only[aH,aU,ao,a6,newRow,run_newObj_alloc,H]
theorem ja{α:Type}(n:Nat)(z d:α)(i:Nat)(h:i<n):(aB n z).getD i d=z:=by rw[aa,List.getElem?_replicate,if_pos h];rfl
theorem zZ{t:TypeId}{cs:LAa}(h:Mr P t=some cs):∃vs,iL P t=some vs/\cs.length=vs.length/\∀(G:GM) i,i<cs.length->bU G (cs.getD i .undef) (vs.getD i undef):=by obtain⟨z,y,rfl⟩:=aj.1 h;obtain⟨vs,h1,h2,h3⟩:=nA y;refine⟨vs,h1,by simpa using h2,fun G i hi=> ?_⟩;rw[bi _ (by rfl)];exact(h3 G i (by simpa using hi)).toData
theorem uN(hM:aY C x s a w){t:TypeId}{X Y:Operand}(ho:o.op= .makeSlice t X Y)(y:cw P o=some so)(Z:eff s o.dst so=some e)(hp:e.pre):cU P C o a w (s.app o.dst e):=by
 have b2:execOp a.eval o=(do pure (.value (<-Instr.makeSlice t (a.eval X) (a.eval Y)))):=by simp only[execOp,ho]
 simp only[cw,ho]at y;split at y<;>try (cases y;done)
 rename_i el hd;split at y<;>try (cases y;done)
 rename_i n b5 z l c hn hb hz hl hc;obtain⟨zs,b1,J,a7⟩:=zZ hz;have h1:=aV hM hl;have h2:=aV hM hc;cases h8:nY P el with
 |true=>
  have b6:=kG h8;simp only[h8,if_true]at y
  by_cases b0:n=1/\b5=1/\z0 z=true
  ·rw[if_pos b0]at y
   obtain⟨rfl,rfl,H⟩:=b0;simp only[ay.injEq]at y;subst y;simp only[eff]at Z;split at Z<;>try (cases Z;done)
   rename_i d k1 L k2 K a6 hL hK;cases Z;obtain⟨q0,q1,q2⟩:=hp;rw[hL]at h1;rw[hK]at h2;obtain⟨cv,I,a1,Q⟩:=mX (P:=P) (w:=w) (k1:=k1) (k2:=k2) hd hn hb b1 q0 q1 (by omega) (by omega);simp only[St.app];have a8:o.dst.getD 0=d:=by rw[a6];rfl
   rw[a8]
   have b4:z=[.u8 0]:=by
    unfold z0 at H;split at H
    ·rename_i b;simp at H;rw[H]
    ·cases H
   refine cU.newObj hM (d:=d+100) (by omega) (.bar (aB K.toNat 0)) b2 (by rw[h1.int_inv,h2.int_inv];exact I) (by simp[aG.size,a1]) (fun k hk=> ?_) ?_
   ·simp only[aG.size,cC]at hk
    simp only[cQ,aG.cell];rw[Q k (by omega),ja _ _ _ _ hk];rw[b4]at J a7;have h0:=a7 x.G 0 (by simp);have:zs.length=1:=by simpa using J.symm
    rw[this,Nat.mod_one]
    match zs,this with
    |[v],_=>exact h0
   ·have:=Rep.psl (x:=x.newO (d+100) w.heap.size) (d+100) 1 0 L.toNat (some K.toNat) 0 K.toNat (.inr (by omega)) (by omega) (fun _ e=>by cases e;rfl) (fun e=>by cases e)
    rw[lH]at this;exact this
  ·rw[if_neg b0]at y;cases y
 |false=>
  simp only[h8,aP,if_false]at y
  by_cases F:z.length=n/\n≠0
  ·rw[if_pos F]at y
   simp only[ay.injEq]at y;subst y;obtain⟨F,b7⟩:=F;simp only[eff]at Z;split at Z<;>try (cases Z;done)
   rename_i d k1 L k2 K a6 hL hK;cases Z;obtain⟨q0,q1,q2,q3⟩:=hp;rw[hL]at h1;rw[hK]at h2;obtain⟨cv,I,a1,Q⟩:=mX (P:=P) (w:=w) (k1:=k1) (k2:=k2) hd hn hb b1 q0 q1 q2 q3;simp only[St.app];have a8:o.dst.getD 0=d:=by rw[a6];rfl
   rw[a8];refine cU.newObj hM (d:=d+100) (by omega) (.arr z.length (aB K.toNat z)) b2 (by rw[h1.int_inv,h2.int_inv];exact I) (by simp[aG.size,a1,F]) (fun k hk=> ?_) ?_
   ·simp only[aG.size,cC]at hk
    simp only[cQ,aG.cell];rw[Q k (by rw[<-F];exact hk),ja _ _ _ _ (Nat.div_lt_of_lt_mul (by rw[dr];exact hk)),<-J];have b3:k % z.length<z.length:=Nat.mod_lt _ (by omega);have:=a7 x.G _ b3
    have e1:zs.getD (k % z.length) default=zs.getD (k % z.length) undef:=by rw[aa,aa,ac (by omega)];rfl
    rw[e1];exact this
   ·have:=Rep.psl (x:=x.newO (d+100) w.heap.size) (d+100) z.length 0 L.toNat (some K.toNat) 0 K.toNat (.inr (by omega)) (by omega) (fun _ e=>by cases e;rfl) (fun e=>by cases e)
    rw[lH]at this;exact this
  ·rw[if_neg F]at y;cases y
theorem bU.oneCell{G:GM}{c:SV}{v:Value}(h:bU G c v):v.oneCell'=true:=by cases h<;>rfl
theorem Rep.oneCell{c:SV}{v:Value}(h:Rep x c v)(h1:c.one=true):v.oneCell'=true:=by
 cases h with
 |undef=>simp[SV.one]at h1
 |dat _ _ h _=>exact h.oneCell
 |ptr=>rfl
 |ap=>rfl
 |psl=>rfl
 |agg=>simp[SV.one]at h1
 |tup=>simp[SV.one]at h1
 |fn=>rfl
theorem wD(cs:LAa)(off:Nat)(v:LAa)(h:off+v.length<=cs.length)(i:Nat):(iy cs off v).getD i .undef=if off<=i/\i<off+v.length then v.getD (i-off) .undef else cs.getD i .undef:=by
 have y:∀i:Nat,(cs.take off++v++cs.drop (off+v.length)).getD i .undef=if off<=i/\i<off+v.length then v.getD (i-off) .undef else cs.getD i .undef:=by intro i;simp only[aa];rw[jl _ _ _ _ h];split<;>rfl
 unfold iy;split
 ·rename_i u
  simp only[aT]at*;simp only[aa,lx]
  by_cases hi:off=i
  ·subst hi;rw[if_pos rfl,if_pos (by omega),if_pos (by omega)];simp
  ·rw[if_neg hi,if_neg (by omega)]
 ·exact y i
theorem qK(cs:LAa)(off:Nat)(v:LAa)(h:off+v.length<=cs.length):(iy cs off v).length=cs.length:=by
 unfold iy;split
 ·simp
 ·simp;omega
theorem cU.store(J:aY C x s a w){t:TypeId}{X Y:Operand}(ho:o.op= .store t X Y){n:Nat}(hn:gJ P t=some n){d off:Nat}(hX:a.eval X= .pointer (some ⟨(x.bk d).1,off,none⟩)){y obj':aG}(hl:s.look d=some y)
 {vs:LAd} (hY:(a.eval Y).cells.toList=vs) (H:vs.length=n) (I:∀v∈vs,v.oneCell'=true) (hb:off+n<=y.size)
 (a1:obj'.size=y.size) (fy:∀c:LAe,(∀k,k<y.size->cQ x y k (c.getD k undef))->∀k,k<y.size->cQ x obj' k (if off<=k/\k<off+n then vs.getD (k-off) undef else c.getD k undef)) (F:obj'.arrB=y.arrB:=by rfl):
 cU P C o a w ((s.setO d obj').put o.dst .undef):=by
 obtain⟨c,e,fl,fh,hO,⟨hs,a6,hs3⟩,hr⟩:=gB J hl;obtain⟨g1,g2,g3,g4,g5⟩:=jG ((x.bk d).1) vs w off;obtain⟨c',Q,K,Z⟩:=iZ vs w off c hO (by omega);refine⟨undef,dQ w ((x.bk d).1) off vs,x,.skip, ?_,.inr ⟨rfl,rfl⟩,aY.put (s:=s.setO d obj') ⟨J.tm,J.defers, ?_⟩ o.dst (.undef _)⟩
 ·simp only[execOp,ho,Instr.storeAt,hX,Instr.sureAddr,aH,aU,ao,storeVar,dl hn]
  have z:(a.eval Y).cells.size=n:=by rw[<-bf,hY];exact H
  rw[if_neg (by simp[z]),hY,iY off vs w c 0 hO (by omega) I];rfl
 ·refine J.heap.block (dT hl) g1 g2 g3 g4 g5 ⟨c',e,fl,fh,Q,⟨by omega,by omega,fun h=>by rw[K];exact hs3 (F ▸ h)⟩,fun k hk=> ?_⟩
  rw[Z k,H];exact fy c hr k (by omega)
theorem pK{cs:LAa}{vs:LAd}(h:cB x cs vs)(h1:cs.all SV.one=true):∀v∈vs,v.oneCell'=true:=by
 intro v hv;obtain⟨i,hi,rfl⟩:=cr hv;have y:i<cs.length:=by rw[h.1];exact hi
 have:=h.2 i y;have z:cs.getD i .undef=cs[i]:=by rw[aa,ac y];rfl
 have F:vs.getD i undef=vs[i]:=by rw[aa,ac hi];rfl
 rw[z,F]at this;exact this.oneCell (aZ.1 h1 _ (aF _))
theorem sT{c:SV}(h:c.isData=true):c.one=true:=by cases c<;>simp[SV.isData,SV.one]at*
theorem Q1{sz:Nat}{z:f9}(h:∀y∈z,y.length=sz){i j n:Nat}{v:LAa}(hi:i<z.length)(hj:j+n<=sz)(hv:v.length=n):
 (iM sz z i j n v).length=z.length/\∀k,k<z.length*sz->((iM sz z i j n v).getD (k/sz) []).getD (k % sz) .undef=if i*sz+j<=k/\k<i*sz+j+n then v.getD (k-(i*sz+j)) .undef else(z.getD (k/sz) []).getD (k % sz) .undef:=by
 have a6:(z.getD i []).length=sz:=by rw[aa,ac hi];exact h _ (aF _)
 obtain⟨Z,I,H⟩:∃Z:LAa,(∀m,m<sz->Z.getD m .undef=if j<=m/\m<j+n then v.getD (m-j) .undef else(z.getD i []).getD m .undef)/\iM sz z i j n v=z.set i Z:=by
  unfold iM;split
  ·rename_i Q
   obtain⟨rfl,rfl⟩:=Q;exact⟨v,fun m hm=>by rw[if_pos ⟨by omega,by omega⟩,Nat.sub_zero],rfl⟩
  ·refine⟨_,fun m hm=> ?_,rfl⟩
   have:=jl (z.getD i []) v j m (by omega);rw[hv]at this;simp only[aa]at this ⊢;rw[this];split<;>rfl
 rw[H];refine⟨by simp,fun k hk=> ?_⟩
 have K:0<sz:=by
  rcases ip sz with h0|h0
  ·subst h0;omega
  ·exact h0
 have J:=Nat.div_add_mod k sz;have a1:=Nat.mod_lt k K;rw[dr]at J;simp only[aa,lx]at I ⊢
 by_cases F:i=k/sz
 ·rw[if_pos F,if_pos hi]
  simp only[bn];rw[I _ a1,<-F];rw[<-F]at J
  by_cases Q:j<=k % sz/\k % sz<j+n
  ·rw[if_pos Q,if_pos (by omega),show k-(i*sz+j)=k % sz-j from by omega]
  ·rw[if_neg Q,if_neg (by omega)]
 ·rw[if_neg F,if_neg ?_]
  rintro⟨h1,h2⟩;apply F;have:i*sz<=k/\k<(i+1)*sz:=by rw[eX];omega
  rw[eq_comm,Nat.div_eq_iff K];rw[eX]at this;omega
theorem oi(sz:Nat):∀(m:Nat)(v:LAa),(ld sz m v).length=m
 |0,_=>rfl
 |m+1,v=>by simp[ld,oi sz m]
theorem we(sz:Nat)(h0:0<sz):∀(m:Nat)(v:LAa)(k:Nat),k<m*sz->((ld sz m v).getD (k/sz) []).getD (k % sz) .undef=v.getD k .undef
 |0,_,k,hk=>by omega
 |m+1,v,k,hk=>by
  rw[eX]at hk;simp only[ld]
  by_cases h:k<sz
  ·rw[Nat.div_eq_of_lt h,ek h,gD]
   simp only[aa,bZ,if_pos h]
  ·obtain⟨j,rfl⟩:∃j,k=j+sz:=⟨k-sz,by omega⟩
   rw[Nat.add_div_right _ h0,Nat.add_mod_right,cZ,we sz h0 m (v.drop sz) j (by omega)];simp only[aa,bH,Nat.add_comm]
theorem Jx(hM:aY C x s a w){t:TypeId}{X Y:Operand}(ho:o.op= .store t X Y)(hr:cw P o=some so)(y:eff s o.dst so=some e)(hp:e.pre):cU P C o a w (s.app o.dst e):=by
 simp only[cw,ho]at hr;split at hr<;>try (cases hr;done)
 rename_i n r q hn a7 b1;cases hr;have h1:=aV hM a7;have h2:=aV hM b1;simp only[eff]at y;split at y<;>try (cases y;done)
 rename_i b3;have F:=h2.cells b3;cases hu:s.ev r with
 |ptr d off=>
  rw[hu]at y h1;simp only[uq]at y;split at y<;>try (cases y;done)
  ·rename_i cs J
   cases y;obtain⟨Z,K,Q⟩:=hp;refine cU.store hM ho hn h1.ptr_inv J rfl (by rw[<-F.1];exact K) (pK F Q) Z (by simp only[aG.size];exact qK _ _ _ (by omega)) (fun c hc k I=> ?_);have:=hc k I;simp only[cQ]at this ⊢;rw[wD _ _ _ (by omega),K];split
   ·exact F.get _
   ·exact this
  ·rename_i sz xs J
   cases y;obtain⟨rfl,Z,K,Q⟩:=hp
   refine cU.store hM ho hn h1.ptr_inv J rfl (by rw[<-F.1];exact K) (pK F (by rw[aZ]at Q ⊢;exact fun z hz=>sT (Q z hz))) (by simp only[aG.size];omega) (by simp only[aG.size,oi]) (fun c hc k I=> ?_)
   simp only[aG.size]at I;have H:k<(s.ev q).cells.length:=by omega
   have b2:0<sz:=by
    rcases ip sz with h0|h0
    ·subst h0;omega
    ·exact h0
   simp only[cQ,aG.cell];rw[if_pos ⟨by omega,by omega⟩,Nat.sub_zero,we sz b2 _ _ _ I,io];refine((F.2 _ H).data (aZ.1 Q _ ?_)).toData;generalize (s.ev q).cells=qq at*;rw[aa,ac H];exact aF _
  ·rename_i l J
   split at y<;>try (cases y;done)
   rename_i l' hv;cases y;obtain⟨rfl,Z,K⟩:=hp;have a8:=ye hv;rw[a8]at F
   refine cU.store hM ho hn h1.ptr_inv J rfl (by rw[<-F.1,av];exact K) (pK F (by rw[aZ];intro z hz;obtain⟨b,_,rfl⟩:=aS.1 hz;rfl)) (by simp only[aG.size];omega) (by simp only[aG.size];omega) (fun c hc k I=> ?_)
   simp only[aG.size]at I;simp only[cQ,aG.cell];rw[if_pos ⟨by omega,by omega⟩,Nat.sub_zero];have H:k<(l'.map SV.u8).length:=by rw[av];omega
   have a6:k<l'.length:=by omega
   have e1:(l'.map SV.u8).getD k .undef= .u8 (l'.getD k 0):=by simp[aa,aR,ac a6]
   have:=F.2 k H;rw[e1]at this;exact this.data rfl
 |ap d sz i j=>
  rw[hu]at y h1;simp only[uq]at y;split at y<;>try (cases y;done)
  ·rename_i b5 xs J
   cases y;obtain⟨rfl,Z,K,Q,q3,q4⟩:=hp;have b0:((s.ev q).cells.map SV.data).length=n:=by rw[av];exact Q
   obtain⟨g1,g2⟩:=Q1 q3 Z K b0
   have hb:i*sz+j+n<=xs.length*sz:=by have:=cm sz (Nat.succ_le_of_lt Z);rw[eX]at this;omega
   refine cU.store hM ho hn h1.ap_inv J rfl (by rw[<-F.1];exact Q) (pK F (by rw[aZ]at q4 ⊢;exact fun z hz=>sT (q4 z hz))) (by simp only[aG.size];exact hb) (by simp only[aG.size];rw[g1]) (fun c hc k I=> ?_)
   have:=hc k I;simp only[cQ,aG.cell,aG.size]at this I ⊢;rw[g2 k I];split
   ·rename_i b4
    rw[io];have H:k-(i*sz+j)<(s.ev q).cells.length:=by omega
    refine((F.2 _ H).data (aZ.1 q4 _ ?_)).toData;generalize (s.ev q).cells=qq at*;rw[aa,ac H];exact aF _
   ·exact this
  ·rename_i l J
   split at y<;>try (cases y;done)
   rename_i b hb;cases y;obtain⟨rfl,rfl,rfl,Z⟩:=hp;rw[hb]at F;refine cU.store hM ho hn h1.ap_inv J rfl (by rw[<-F.1];rfl) (pK F rfl) (by simp only[aG.size];omega) (by simp[aG.size]) (fun c hc k I=> ?_);have:=hc k I;simp only[cQ,aG.cell,aG.size]at this I ⊢;simp only[gI,fJ]
   by_cases a1:k=i
   ·subst a1
    rw[if_pos (by omega),Nat.sub_self];have e1:(l.set k b).getD k 0=b:=by rw[aa,lx,if_pos rfl,if_pos I];rfl
    rw[e1];exact(F.2 0 (by simp)).data rfl
   ·rw[if_neg (by omega)]
    have e1:(l.set i b).getD k 0=l.getD k 0:=by rw[aa,lx,if_neg (fun e=>a1 e.symm),<-aa]
    rw[e1];exact this
 |_=>rw[hu]at y;simp[uq]at y
def xi3(G:GM)(b off:Nat)(fl:LAa):Prop:=∀k,k<fl.length->∃v,G b (off+k)=some v/\bU G (fl.getD k .undef) v
def In(G:GM)(sz:Nat)(fl:LAa)(v:Value)(n cap:Nat):Prop:=
 n*sz=fl.length/\n<=cap/\((∃b off,v= .slice (some ⟨b,off,none⟩) n cap/\xi3 G b off fl)\/((∃a,v= .slice a 0 0)/\n=0/\cap=0))
theorem jD(l:t8)(k:Nat)(h:k<l.length):(l.map SV.u8).getD k .undef= .u8 (l.getD k 0):=by simp only[aa,aR];rw[ac h];rfl
theorem A4{G:GM}{l:t8}{t:Tok}{v:Value}(h:bU G (.byt l t) v):∃cap,In G 1 (l.map .u8) v l.length cap/\∃bs,v= .slice bs l.length cap:=by
 cases h with
 |bytN=>exact⟨0,⟨by simp,by simp,.inr ⟨⟨none,rfl⟩,rfl,rfl⟩⟩,none,rfl⟩
 |bytE _ a=>exact⟨0,⟨by simp,by simp,.inr ⟨⟨some a,rfl⟩,rfl,rfl⟩⟩,some a,rfl⟩
 |byt _ _ b off cap n z F h=>subst z;refine⟨cap,⟨by simp,F,.inl ⟨b,off,rfl,fun k y=> ?_⟩⟩,_,rfl⟩;rw[av]at y;exact⟨_,h k y,by rw[jD _ _ y];exact .u8 _⟩
theorem Mj{G:GM}{l:t8}{t:Tok}{v:Value}{cap:Nat}(h:In G 1 (l.map .u8) v l.length cap):bU G (.byt l t) v:=by
 obtain⟨_,F,⟨b,off,rfl,z⟩|⟨⟨a,rfl⟩,h0,_⟩⟩:=h
 ·refine .byt l t b off cap l.length rfl F fun i hi=> ?_
  obtain⟨v,hv,y⟩:=z i (by simpa using hi);rw[jD _ _ hi]at y;cases y;exact hv
 ·have:l=[]:=cD.1 h0
  subst this;cases a with
  |none=>exact .bytN t
  |some a=>exact .bytE t a
theorem dB{sz:Nat}{F:f9}(h:∀y∈F,y.length=sz):F.flatten.length=F.length*sz:=by
 induction F with
 |nil=>simp
 |cons y r H=>simp only[ly,af,ai,eX];rw[H (fun z I=>h z (an _ I)),h y (by simp)];omega
theorem Ai{sz:Nat}{z:f9}(h:∀i,i<z.length->(z.getD i []).length=sz):∀y∈z,y.length=sz:=by intro y F;obtain⟨i,hi,rfl⟩:=cr F;have:=h i hi;rwa[aa,ac hi]at this
theorem A3{G:GM}{sz:Nat}{F:f9}{t:Tok}{v:Value}(h:bU G (.lst sz F t) v):∃cap,In G sz F.flatten v F.length cap/\(∃bs,v= .slice bs F.length cap)/\∀y∈F,y.length=sz:=by
 cases h with
 |lstN=>exact⟨0,⟨by simp,by simp,.inr ⟨⟨none,rfl⟩,rfl,rfl⟩⟩,⟨none,rfl⟩,by simp⟩
 |lstE _ _ a=>exact⟨0,⟨by simp,by simp,.inr ⟨⟨some a,rfl⟩,rfl,rfl⟩⟩,⟨some a,rfl⟩,by simp⟩
 |lst _ _ _ b off cap n vl hn hc Z hg h=>
  subst hn;have z:=Ai Z;refine⟨cap,⟨(dB z).symm,hc,.inl ⟨b,off,rfl,fun k I=> ?_⟩⟩,⟨_,rfl⟩,z⟩;rw[dB z]at I
  have J:0<sz:=by
   rcases ip sz with h0|h0
   ·subst h0;omega
   ·exact h0
  have K:k/sz<F.length:=Nat.div_lt_of_lt_mul (by rw[dr];exact I);have Q:=Nat.mod_lt k J;have H:=Nat.div_add_mod k sz;rw[dr]at H;refine⟨vl (k/sz) (k % sz), ?_, ?_⟩
  ·have:=hg _ _ K Q
   rwa[gP,H]at this
  ·rw[fQ F z k I];exact h _ _ K Q
theorem LD{G:GM}{sz:Nat}{F:f9}{t:Tok}{v:Value}{cap:Nat}(h:In G sz F.flatten v F.length cap)(z:∀y∈F,y.length=sz):bU G (.lst sz F t) v:=by
 obtain⟨_,Q,⟨b,off,rfl,J⟩|⟨⟨a,rfl⟩,h0,_⟩⟩:=h
 ·refine .lst sz F t b off cap F.length (fun i j=>(G b (off+i*sz+j)).getD undef) rfl Q (fun i hi=> ?_) (fun i j hi K=> ?_) (fun i j hi K=> ?_)
  ·rw[aa,ac hi];exact z _ (aF _)
  all_goals
   have I:i*sz+j<F.length*sz:=by have:=cm sz (Nat.succ_le_of_lt hi);rw[eX]at this;omega
   obtain⟨v,hv,H⟩:=J (i*sz+j) (by rw[dB z];exact I);rw[<-gP]at hv
  ·rw[hv];rfl
  ·rw[hv]
   rw[fQ F z _ I,show(i*sz+j)/sz=i from by rw[dr,Nat.mul_add_div (by omega),Nat.div_eq_of_lt (by omega)];rfl,
    show(i*sz+j) % sz=j from by rw[dr,Nat.mul_add_mod,ek (by omega)]]at H
   exact H
 ·have:F=[]:=cD.1 h0
  subst this;cases a with
  |none=>exact .lstN sz t
  |some a=>exact .lstE sz t a
structure New(x:Sit)(ns:List Value)(fl:List SV):Prop where
 len:fl.length=ns.length
 rep:∀k,k<fl.length->bU x.G (fl.getD k .undef) (ns.getD k undef)
 one:∀v∈ns,v.oneCell'=true
theorem lO(z:LAe)(n:Nat):(Builtin.zeroCells z n).size=n*z.size:=by simp[Builtin.zeroCells]
theorem aY.retok(y:aY C x s a w){t:Tok}(K:t.ready s=true)(d:Nat){sz n cap:Nat}{bs:Option Addr}(I:dX x sz t (.slice bs n cap)):
 ∃b lo hi,aY C (x.newT d b lo hi) (s.grew t d) a w/\dX (x.newT d b lo hi) sz (.id d) (.slice bs n cap):=by
 have empty:cap=n->∃b lo hi,aY C (x.newT d b lo hi) (s.grew t d) a w/\dX (x.newT d b lo hi) sz (.id d) (.slice bs n cap):=by
  intro z;refine⟨0,0,0,⟨?_,y.defers, ?_⟩,bs,n,cap,rfl,.inl z⟩
  ·exact cB.mono (x:=x) (x':=x.newT d 0 0 0) (lo:=d) (hi:=d+1) (fun _ _ _ h=>h) (fun _ _=>rfl) (Sit.newT_ne x d 0 0 0) y.tm
  ·refine(y.heap.sub (tk':=t.eat s.tk) (qE.refl _) ?_).addT d 0 0 0 (.inl rfl) (.inl rfl) (.inl rfl)
   intro u F;cases t with
   |id t=>exact ib F
   |_=>exact F
 cases t with
 |no=>simp[Tok.ready]at K
 |clip=>obtain⟨b',n',J⟩:=I;simp only[Value.slice.injEq]at J;exact empty (by omega)
 |id t=>
  obtain⟨b',n',Q,J,hh⟩:=I;simp only[Value.slice.injEq]at J;obtain⟨rfl,rfl,rfl⟩:=J;rcases hh with z|⟨b,off,rfl,hτ⟩
  ·exact empty z
  ·have H:t∈s.tk:=by simpa[Tok.ready]using K
   refine⟨b,off+n*sz,off+cap*sz,⟨?_,y.defers, ?_⟩,_,n,cap,rfl,.inr ⟨b,off,rfl,Sit.newT_eq x d _ _ _⟩⟩
   ·exact cB.mono (x:=x) (x':=x.newT d b (off+n*sz) (off+cap*sz)) (lo:=d) (hi:=d+1) (fun _ _ _ h=>h) (fun _ _=>rfl) (Sit.newT_ne x d _ _ _) y.tm
   ·have h1:=y.heap.tks t H
    unfold jh at h1;rw[hτ]at h1;refine(y.heap.sub (tk':=df t (t+1) s.tk) (qE.refl _) (fun u F=>ib F)).addT d b (off+n*sz) (off+cap*sz) h1 ?_ ?_
    ·by_cases z:off+n*sz=off+cap*sz
     ·exact .inl z
     ·refine .inr fun p Z _=> ?_
      have:=y.heap.tko t H p Z;rw[hτ]at this;exact this.resolve_right z
    ·by_cases z:off+n*sz=off+cap*sz
     ·exact .inl z
     ·refine .inr fun u F _=> ?_
      obtain⟨F,a1⟩:=bP.1 F;have:=y.heap.tkd t H u F (by omega);rw[hτ]at this;rcases this with h|h|h
      ·exact .inl h
      ·exact absurd h z
      ·exact .inr h
theorem nH{t u el:TypeId}{d2:TypeDesc}{n m len cap:Nat}(K:P.underlying t=some (.slice el))(Q:P.underlying u=some d2)(H:(∃I,d2= .slice I)\/d2= .string)(Z:gJ P el=some n){ty:TypeId}{bs:Option Addr}{Y:Value}{ns:LAd}{w1:World}
 (F:(Builtin.lenOf Y).run P w= .ok m w) (y:(Builtin.firstCells n m Y).run P w= .ok ns.toArray w) (hc:len+m<=cap)
 (z:(match bs with|some J=>storeCells (J.add (len*n)) ns|none=>pure ():Sem Unit).run P w= .ok () w1):
 (Builtin.append_ #[t,u] ty #[.slice bs len cap,Y]).run P w= .ok (.slice bs (len+m) cap) w1:=by
 have e:(#[t,u]:Array TypeId)[0]? =some t:=rfl;have I:(#[t,u]:Array TypeId)[1]? =some u:=rfl;have e2:(#[Value.slice bs len cap,Y]:LAe)[0]? =some (.slice bs len cap):=rfl;have e3:(#[Value.slice bs len cap,Y]:LAe)[1]? =some Y:=rfl;rcases H with⟨e4,rfl⟩|rfl
 all_goals
  simp only[Builtin.append_,e,I,e2,e3,aH,run_underlying K,ao,dl Z,run_underlying Q,aU,aP,if_false,F,hc,if_true,Bool.not_false,y];cases bs with
  |none=>simp only[aU]at z;cases z;rfl
  |some J=>simp only[aH];rw[z];rfl
theorem qe{t u el:TypeId}{d2:TypeDesc}{n m len cap y:Nat}{i:TypeInfo}{z:Value}(hd:P.underlying t=some (.slice el))(hu:P.underlying u=some d2)(Z:(∃e',d2= .slice e')\/d2= .string)(hn:gJ P el=some n){ty:TypeId}{bs:Option Addr}{Y:Value}{os ns:LAd}
 (hi:P.info? el=some i) (I:i.bytes=y) (a1:y≠0) (a6:∀w,(zeroValue el).run P w= .ok z w)
 (K:∀w',w'.heap=w.heap->(Builtin.lenOf Y).run P w'= .ok m w') (F:∀w',w'.heap=w.heap->(Builtin.firstCells n m Y).run P w'= .ok ns.toArray w') (J:∀w',w'.heap=w.heap->(Builtin.firstCells n len (.slice bs len cap)).run P w'= .ok os.toArray w')
 (hc:¬len+m<=cap) (H:(len+m)*y<=140737488355328):
 ∃nc,len+m<=nc/\(Builtin.append_ #[t,u] ty #[.slice bs len cap,Y]).run P w= .ok (.slice (some ⟨w.heap.size,0,none⟩) (len+m) nc) (w.drew.alloc (.cells (os.toArray++ns.toArray++Builtin.zeroCells z.cells (nc-(len+m))) el (0,0))):=by
 have e:(#[t,u]:Array TypeId)[0]? =some t:=rfl;have e':(#[t,u]:Array TypeId)[1]? =some u:=rfl;have e2:(#[Value.slice bs len cap,Y]:LAe)[0]? =some (.slice bs len cap):=rfl;have e3:(#[Value.slice bs len cap,Y]:LAe)[1]? =some Y:=rfl;have hf:(Question.appendCap (len+m) cap el).forced=false:=rfl
 have Q:¬Builtin.nextslicecap (len+m) cap*i.bytes>2^48:=by have:=growslice_fits (need:=len+m) (old:=cap) (bytes:=y) (by omega) H;rw[I];omega
 refine⟨(Question.appendCap (len+m) cap el).cut (w.tape w.drawn (Question.appendCap (len+m) cap el)),by simp only[Question.cut];omega, ?_⟩;rcases Z with⟨e4,rfl⟩|rfl
 all_goals
  simp only[Builtin.append_,e,e',e2,e3,aH,run_underlying hd,ao,dl hn,run_underlying hu,aU,aP,if_false,K w rfl,hc,run_typeInfo w hi,I,a1,false_or,and_false];rw[if_neg (by rw[<-I];exact Q)];simp only[aH,run_choose_drew,hf,aP,if_false,ao,run_typeInfo w.drew hi,run_askRoom,J w.drew rfl,Bool.not_false,if_true,F w.drew rfl,a6,newRow,run_newObj_alloc,aU];rfl
theorem qC(os ns:LAd)(r:LAe)(k:Nat)(h:k<os.length+ns.length):(os.toArray++ns.toArray++r)[k]? =(os++ns)[k]? :=by rw[Array.getElem?_append_left (by simp;omega)];rw[<-dy];simp
theorem rL(I:aY C x s a w){t u el:TypeId}{d2:TypeDesc}{n b0:Nat}{zs:LAd}(hd:P.underlying t=some (.slice el))(hu:P.underlying u=some d2)(b6:(∃e',d2= .slice e')\/d2= .string)(hn:gJ P el=some n)(hb:Ii P el=some b0)
 (hz:iL P el=some zs) (i1:b0≠0) (d7:n≠0) (f8:zs.length=n) {ty:TypeId} {X Y:Value} {tok:Tok} {fl y:LAa} {ns:LAd} {len m cap:Nat} (hX:In x.G n fl X len cap) (Z:tok.ready s=true) (b8:dX x n tok X)
 (a1:∀w',w'.heap=w.heap->(Builtin.lenOf Y).run P w'= .ok m w') (F:∀w',w'.heap=w.heap->(Builtin.firstCells n m Y).run P w'= .ok ns.toArray w') (K:ns.length=m*n) (fy:New x ns y) (d3:(len+m)*b0<=140737488355328) (d:Nat):
 ∃v w' x' b4,(Builtin.append_ #[t,u] ty #[X,Y]).run P w= .ok v w'/\aY C x' (s.grew tok d) a w'/\In x'.G n (fl++y) v (len+m) b4/\dX x' n (.id d) v:=by
 obtain⟨a7,k3,b1⟩:=hX;obtain⟨z,g7,g5⟩:=dJ hz
 have j0:∃i,P.info? el=some i/\i.bytes=b0:=by
  unfold Ii at hb;cases hi:P.info? el with
  |none=>simp[hi]at hb
  |some i=>simp[hi]at hb;exact⟨i,rfl,hb⟩
 obtain⟨i,hi,f0⟩:=j0
 obtain⟨bs,h9⟩:∃bs,X= .slice bs len cap:=by
  rcases b1 with⟨b,off,rfl,_⟩|⟨⟨a,rfl⟩,rfl,rfl⟩
  ·exact⟨_,rfl⟩
  ·exact⟨_,rfl⟩
 subst h9;have e4:y.length=m*n:=by rw[fy.len,K]
 have Q:(len+m)*n=(fl++y).length:=by rw[af,e4,<-a7,bW]
 by_cases hc:len+m<=cap
 ·by_cases hm:ns=[]
  ·
   subst hm;have e6:y=[]:=cD.1 (by rw[fy.len];rfl);subst e6;obtain⟨b,lo,j5,g2,d6⟩:=I.retok Z d b8
   by_cases b3:m=0
   ·subst b3
    refine⟨_,w,_,cap,nH hd hu b6 hn (a1 w rfl) (F w rfl) hc (by cases bs<;>rfl),g2, ?_,d6⟩;refine⟨by simpa using a7,hc, ?_⟩;rcases b1 with⟨b,off,H,hr⟩|⟨H,h1,h2⟩
    ·exact .inl ⟨b,off,H,by rw[bO];exact hr⟩
    ·exact .inr ⟨H,h1,h2⟩
   ·
    have j2:n=0:=by
     simp only[al]at K;rcases Nat.mul_eq_zero.1 K.symm with h|h
     ·exact absurd h b3
     ·exact h
    exact absurd j2 d7
  ·have e5:0<ns.length:=List.length_pos_iff.2 hm
   have e7:0<m*n:=by omega
   cases tok with
   |no=>simp[Tok.ready]at Z
   |clip=>
    obtain⟨b',n',H⟩:=b8;simp only[Value.slice.injEq]at H;have:m=0:=by omega
    subst this;omega
   |id tk=>
    have h5:tk∈s.tk:=by simpa[Tok.ready]using Z
    obtain⟨b',n',b4,H,hh⟩:=b8;simp only[Value.slice.injEq]at H;obtain⟨rfl,rfl,rfl⟩:=H;rcases hh with k4|⟨b,off,rfl,hτ⟩
    ·have:m=0:=by omega
     subst this;omega
    ·have d8:off+len*n+ns.length<=off+cap*n:=by
      rw[K,gP,<-bW];exact Nat.add_le_add_left (cm _ hc) _
     obtain⟨f1,f2,f3,f4,f5,f6,f7,⟨c0,e0,j7,j8,hO,j9⟩⟩:=I.heap.fill h5 hτ ns d8 e5
     have a6:=nH (t:=t) (u:=u) (ty:=ty) (Y:=Y) (bs:=some ⟨b,off,none⟩) (w1:=dQ w b (off+len*n) ns) hd hu b6 hn (a1 w rfl) (F w rfl) hc (by simp only[eH];exact iY (off+len*n) ns w c0 0 hO (by omega) fy.one)
     refine⟨_,_,(x.fill b (off+len*n) ns).newT d b (off+len*n+ns.length) (off+cap*n),cap,a6,⟨?_,I.defers, ?_⟩,⟨Q,hc,.inl ⟨b,off,rfl, ?_⟩⟩, ?_⟩
     ·exact cB.mono (x:=x) (x':=(x.fill b (off+len*n) ns).newT d b (off+len*n+ns.length) (off+cap*n)) (lo:=d) (hi:=d+1) f1 (fun _ _=>rfl) (Sit.newT_ne (x.fill b (off+len*n) ns) d _ _ _) I.tm
     ·exact f2.addT d b _ _ (.inr ⟨f3,f4,f5⟩) (.inr fun p hp _=>f6 p hp) (.inr fun u hu _=>f7 u hu)
     ·rcases b1 with⟨b2,j4,d4,hr⟩|⟨d4,_,_⟩
      ·simp only[Value.slice.injEq,ay.injEq,Addr.mk.injEq]at d4
       obtain⟨⟨rfl,rfl,_⟩,_⟩:=d4;intro k hk
       by_cases J:k<fl.length
       ·obtain⟨v,hv,b5⟩:=hr k J
        refine⟨v,f1 _ _ _ hv, ?_⟩;have:(fl++y).getD k .undef=fl.getD k .undef:=by simp only[aa,cn J]
        rw[this];exact b5.mono f1
       ·rw[af]at hk
        refine⟨ns.getD (k-fl.length) undef, ?_, ?_⟩
        ·show(x.fill b (off+len*n) ns).G b (off+k)=_
         simp only[Sit.fill];rw[if_pos ⟨trivial,by omega,by omega⟩,show off+k-(off+len*n)=k-fl.length from by omega]
        ·have:(fl++y).getD k .undef=y.getD (k-fl.length) .undef:=by simp only[aa,cO (Nat.le_of_not_lt J)]
         rw[this];exact(fy.rep _ (by omega)).mono f1
      ·have b3:m=0:=by omega
       rw[b3,Nat.zero_mul]at e7;exact absurd e7 (Nat.lt_irrefl _)
     ·refine⟨_,_,cap,rfl,.inr ⟨b,off,rfl, ?_⟩⟩
      rw[Sit.newT_eq,K,gP,<-bW]
 ·
  obtain⟨os,j1,a8,d5⟩:∃os:LAd,(∀w',w'.heap=w.heap->(Builtin.firstCells n len (.slice bs len cap)).run P w'= .ok os.toArray w')/\os.length=fl.length/\∀k,k<fl.length->bU x.G (fl.getD k .undef) (os.getD k undef):=by
   rcases b1 with⟨b,off,H,hr⟩|⟨H,h1,h2⟩
   ·simp only[Value.slice.injEq]at H
    obtain⟨rfl,_⟩:=H;refine⟨(bQ (len*n)).map fun k=>(w.cell? ⟨b,off+k,none⟩).getD undef,fun w' h6=> ?_,by simp[a7],fun k hk=> ?_⟩
    ·simp only[Builtin.firstCells]
     refine run_loadCells w' _ _ _ fun j hj=> ?_
     rw[eH,dV (w:=w) (by rw[h6])];obtain⟨v,hv,_⟩:=hr j (by omega);rw[I.heap.per _ _ _ hv];rfl
    ·obtain⟨v,hv,b5⟩:=hr k hk
     have:((bQ (len*n)).map fun k=>(w.cell? ⟨b,off+k,none⟩).getD undef).getD k undef=v:=by rw[aa];simp[show k<len*n from by omega,I.heap.per _ _ _ hv]
     rw[this];exact b5
   ·obtain⟨a,H⟩:=H
    simp only[Value.slice.injEq]at H;obtain⟨rfl,rfl,_⟩:=H;have:fl=[]:=cD.1 (by rw[<-a7,h1,Nat.zero_mul]);subst this;exact⟨[],fun w' _=>by cases bs<;>simp only[Builtin.firstCells,Nat.zero_mul]<;>rfl,rfl,fun k hk=>by simp at hk⟩
  obtain⟨nc,g6,a6⟩:=qe (t:=t) (u:=u) (ty:=ty) (Y:=Y) hd hu b6 hn hi f0 i1 g5 a1 F j1 hc d3
  let cv:LAe:=os.toArray++ns.toArray++Builtin.zeroCells z.cells (nc-(len+m))
  have j3:cv.size=nc*n:=by
   have g9:z.cells.size=n:=by rw[<-bf,g7];exact f8
   simp only[cv,Array.size_append,List.size_toArray,lO,g9,a8,K,<-a7];rw[<-bW,<-bW];congr 1;omega
  have c7:∀o,x.G w.heap.size o=none:=by
   intro o;cases hg:x.G w.heap.size o with
   |none=>rfl
   |some v=>exact absurd (I.heap.ltG hg) (by omega)
  have e9:=I.heap.newD_le cv ((len+m)*n);have hH:dA C (x.newD w.heap.size cv ((len+m)*n)) s.ob s.tk (w.drew.alloc (.cells cv el (0,0))):=I.heap.drew.allocD ((len+m)*n);have d9:gf (w.drew.alloc (.cells cv el (0,0))) w.heap.size cv el 0 0:=⟨eM (w:=w.drew),fun i _ h=>by omega⟩;refine⟨_,_,(x.newD w.heap.size cv ((len+m)*n)).newT d w.heap.size ((len+m)*n) (nc*n),nc,a6,⟨?_,I.defers, ?_⟩,⟨Q,g6,.inl ⟨_,0,rfl, ?_⟩⟩, ?_⟩
  ·exact cB.mono (x:=x) (x':=(x.newD w.heap.size cv ((len+m)*n)).newT d w.heap.size ((len+m)*n) (nc*n)) (lo:=d) (hi:=d+1) e9 (fun _ _=>rfl) (Sit.newT_ne (x.newD w.heap.size cv ((len+m)*n)) d _ _ _) I.tm
  ·refine(hH.sub (tk':=tok.eat s.tk) (qE.refl _) ?_).addT d w.heap.size _ _ (.inr ⟨⟨cv,el,0,0,d9,by omega⟩,I.heap.new _ I.heap.size,fun o h1 h2=> ?_⟩) (.inr fun p hp _=> ?_) (.inr fun u hu _=> ?_)
   ·intro u hu
    cases tok with
    |id t=>exact ib hu
    |_=>exact hu
   ·simp only[Sit.newD];rw[if_neg (by omega)];exact c7 o
   ·obtain⟨⟨c2,e2,h7,g8,b7,_⟩,_⟩:=I.heap.obs p hp
    have:=b7.lt;show w.heap.size≠(x.bk p.1).1;omega
   ·have h8:u∈s.tk:=by
     cases tok with
     |id t=>exact ib hu
     |_=>exact hu
    rcases I.heap.tks u h8 with h|⟨⟨c2,e2,h7,g8,b7,_⟩,_⟩
    ·exact .inr h
    ·have:=b7.lt
     exact .inl (by show w.heap.size≠(x.τ u).1;omega)
  ·intro k hk
   have e3:k<os.length+ns.length:=by rw[a8,<-fy.len,<-af];exact hk
   have e8:cv[k]? =(os++ns)[k]? :=qC os ns _ k e3;have j6:k<(len+m)*n:=by rw[Q];exact hk
   refine⟨(os++ns).getD k undef, ?_, ?_⟩
   ·show(x.newD w.heap.size cv ((len+m)*n)).G w.heap.size (0+k)=_
    simp only[Sit.newD];rw[if_pos ⟨trivial,by omega⟩,de,e8];have:k<(os++ns).length:=by rw[af];exact e3
    rw[ac this,aa,ac this];rfl
   ·refine bU.mono (G:=x.G) e9 ?_
    by_cases J:k<fl.length
    ·have e1:(fl++y).getD k .undef=fl.getD k .undef:=by simp only[aa,cn J]
     have e2:(os++ns).getD k undef=os.getD k undef:=by simp only[aa,cn (show k<os.length by omega)]
     rw[e1,e2];exact d5 k J
    ·have e1:(fl++y).getD k .undef=y.getD (k-fl.length) .undef:=by simp only[aa,cO (Nat.le_of_not_lt J)]
     have e2:(os++ns).getD k undef=ns.getD (k-fl.length) undef:=by simp only[aa,cO (show os.length<=k by omega),a8]
     rw[e1,e2];exact fy.rep _ (by rw[af]at hk;omega)
  ·exact⟨_,_,nc,rfl,.inr ⟨w.heap.size,0,rfl,by rw[Sit.newT_eq];simp⟩⟩
theorem jN(hM:aY C x s a w){u:SV}{Y:Value}{p:Prop}{l:t8}(h:Rep x u Y)(H:jq s u=some (p,l))(hp:p):
 (∀w',w'.heap=w.heap->(Builtin.lenOf Y).run P w'= .ok l.length w')/\(∀m,m<=l.length->∀w',w'.heap=w.heap->(Builtin.firstCells 1 m Y).run P w'= .ok ((l.take m).map fun b=>Value.int .u8 b.toNat).toArray w'):=by
 have load:∀(b off m:Nat),m<=l.length->(∀i,i<l.length->w.cell? ⟨b,off+i,none⟩=some (.int .u8 (l.getD i 0).toNat))->∀w':World,w'.heap=w.heap->
  (loadCells ⟨b,off,none⟩ (m*1)).run P w'= .ok ((l.take m).map fun b=>Value.int .u8 b.toNat).toArray w':=by
  intro b off m F hc w' z;rw[run_loadCells w' _ _ (fun i=> .int .u8 (l.getD i 0).toNat) (fun j hj=>by rw[eH,dV (w:=w) (by rw[z])];exact hc j (by omega))]
  congr 2
  apply List.ext_getElem?;intro i
  by_cases hi:i<m
  ·simp[hi,aa,show i<l.length from by omega]
  ·simp[hi];omega
 cases u with
 |byt Z t=>
  simp only[jq,ay.injEq,bA.injEq]at H;obtain⟨rfl,rfl⟩:=H;have Q:=h.data rfl;cases hY:Y with
  |slice ad n cp=>
   rw[hY]at Q;cases Q with
   |bytN=>exact⟨fun w' _=>rfl,fun m F w' _=>by simp at F;subst F;rfl⟩
   |bytE=>exact⟨fun w' _=>rfl,fun m F w' _=>by simp at F;subst F;rfl⟩
   |byt _ _ b off _ _ hn hc hg=>subst hn;exact⟨fun w' _=>rfl,fun m F w' z=>by simp only[Builtin.firstCells];exact load b off m F (fun i hi=>hM.heap.per _ _ _ (hg i hi)) w' z⟩
  |_=>rw[hY]at Q;cases Q
 |str Z=>simp only[jq,ay.injEq,bA.injEq]at H;obtain⟨rfl,rfl⟩:=H;rw[h.str_inv];refine⟨fun w' _=>by simp[Builtin.lenOf,ByteArray.size],fun m F w' _=> ?_⟩;simp only[Builtin.firstCells,Hu,bw,aU];simp
 |psl o' sz off n cp=>
  simp only[jq]at H;split at H<;>try (cases H;done)
  rename_i Z hl;simp only[ay.injEq,bA.injEq]at H;obtain⟨rfl,rfl⟩:=H;obtain⟨a6,a7⟩:=hp;obtain⟨cp,a8,_,y,a1,K⟩:=h.psl_inv;have J:((Z.drop off).take n).length=n:=by simp;omega
  rw[a1];refine⟨fun w' _=>by simp only[Builtin.lenOf,J];rfl,fun m F w' z=> ?_⟩;simp only[Builtin.firstCells]
  by_cases hn:cp=0
  ·have:m=0:=by omega
   subst this;rfl
  ·have I:y=off:=by
    rcases K with h|h
    ·omega
    ·rw[a6,gI]at h;exact h
   subst I;refine load ((x.bk o').1) y m F (fun i hi=> ?_) w' z;obtain⟨v,h2,h3⟩:=(gB hM hl).cell (k:=y+i) (by simp only[aG.size];omega);rw[h2];have h4:bU x.G (.u8 (Z.getD (y+i) 0)) v:=h3;cases h4;simp only[aa,bZ,if_pos (show i<n by omega),bH]
 |_=>simp[jq]at H
theorem vG(l:t8):New x (l.map fun b=>Value.int .u8 b.toNat) (l.map .u8):=by
 refine⟨by simp,fun k y=> ?_,fun v hv=> ?_⟩
 ·rw[av]at y
  rw[jD _ _ y]
  have:(l.map fun b=>Value.int .u8 b.toNat).getD k undef= .int .u8 (l.getD k 0).toNat:=by simp only[aa,aR];rw[ac y];rfl
  rw[this];exact .u8 _
 ·obtain⟨b,_,rfl⟩:=aS.1 hv;rfl
theorem kO(hM:aY C x s a w){sz:Nat}{u:SV}{Y:Value}{p:Prop}{I:f9}(h:Rep x u Y)(hb:lD s sz u=some (p,I))(hp:p):
 (∀y∈I,y.length=sz)/\(∀w',w'.heap=w.heap->(Builtin.lenOf Y).run P w'= .ok I.length w')/\
 ∃ns:LAd,New x ns I.flatten/\∀m,m<=I.length->∀w',w'.heap=w.heap->(Builtin.firstCells sz m Y).run P w'= .ok (ns.take (m*sz)).toArray w':=by
 have a6:∀(b off:Nat),(∀y∈I,y.length=sz)->(∀k,k<I.flatten.length->∃v,w.cell? ⟨b,off+k,none⟩=some v/\bU x.G (I.flatten.getD k .undef) v)->
  ∃ns:LAd,New x ns I.flatten/\∀m,m<=I.length->∀w',w'.heap=w.heap->(loadCells ⟨b,off,none⟩ (m*sz)).run P w'= .ok (ns.take (m*sz)).toArray w':=by
  intro b off z hc;refine⟨(bQ I.flatten.length).map fun k=>(w.cell? ⟨b,off+k,none⟩).getD undef,⟨by simp,fun k H=> ?_,fun v hv=> ?_⟩,fun m Q w' J=> ?_⟩
  ·obtain⟨v,hv,hr⟩:=hc k H
   have:((bQ I.flatten.length).map fun k=>(w.cell? ⟨b,off+k,none⟩).getD undef).getD k undef=v:=by rw[aa,aR,cN H];simp[hv]
   rw[this];exact hr
  ·obtain⟨k,H,rfl⟩:=aS.1 hv
   obtain⟨v,hv,hr⟩:=hc k (gO.1 H);rw[hv];exact hr.oneCell
  ·have b8:m*sz<=I.flatten.length:=by rw[dB z];exact cm _ Q
   rw[run_loadCells w' _ _ (fun k=>(w.cell? ⟨b,off+k,none⟩).getD undef) (fun j hj=> ?_)]
   ·congr 2
    rw[<-gw,List.take_range,rp b8]
   ·rw[eH,dV (w:=w) (by rw[J])]
    obtain⟨v,hv,_⟩:=hc j (by omega);rw[hv];rfl
 cases u with
 |lst b6 F t=>
  simp only[lD,ay.injEq,bA.injEq]at hb;obtain⟨rfl,rfl⟩:=hb;subst hp;obtain⟨cap,⟨h1,h2,h3⟩,_,z⟩:=A3 (h.data rfl);refine⟨z, ?_⟩;rcases h3 with⟨b,off,rfl,hr⟩|⟨⟨ad,rfl⟩,h0,_⟩
  ·refine⟨fun w' _=>rfl, ?_⟩
   obtain⟨ns,g1,g2⟩:=a6 b off z (fun k H=>by obtain⟨v,hv,b1⟩:=hr k H;exact⟨v,hM.heap.per _ _ _ hv,b1⟩)
   exact⟨ns,g1,fun m Q w' J=>by simp only[Builtin.firstCells];exact g2 m Q w' J⟩
  ·have:F=[]:=cD.1 h0
   subst this
   exact⟨fun w' _=>rfl,[],⟨rfl,fun k H=>by simp at H,fun v hv=>by simp at hv⟩,fun m Q w' _=>by
    have b2:m=0:=by simpa using Q
    subst b2;cases ad<;>simp only[Builtin.firstCells,Nat.zero_mul]<;>rfl⟩
 |psl o' b6 off n cp=>
  simp only[lD]at hb;split at hb<;>try (cases hb;done)
  rename_i c7 F hl;simp only[ay.injEq,bA.injEq]at hb;obtain⟨rfl,rfl⟩:=hb;obtain⟨rfl,rfl,a8,b3⟩:=hp;have z:∀y∈(F.drop off).take n,y.length=sz:=fun y hy=>b3 y (ny (cg hy))
  obtain⟨cp,d3,_,Z,b4,a7⟩:=h.psl_inv;have K:((F.drop off).take n).length=n:=by simp;omega
  rw[b4];refine⟨z,fun w' _=>by simp only[Builtin.lenOf,K];rfl, ?_⟩
  by_cases hn:cp=0
  ·have b7:n=0:=by omega
   subst b7
   exact⟨[],⟨by simp,fun k H=>by simp at H,fun v hv=>by simp at hv⟩,fun m Q w' _=>by simp at Q;subst Q;simp[Builtin.firstCells,loadCells,loadCellsFrom]⟩
  ·have a1:Z=off*sz:=a7.resolve_left hn
   obtain⟨ns,g1,g2⟩:=a6 ((x.bk o').1) Z z (fun k H=>by
    rw[dB z,K]at H
    have b0:off*sz+k<F.length*sz:=by have:=cm sz a8;rw[bW]at this;omega
    obtain⟨v,h2,h3⟩:=(gB hM hl).cell (k:=off*sz+k) (by simp only[aG.size];exact b0);refine⟨v,by rw[a1];exact h2, ?_⟩;have h4:bU x.G ((F.getD ((off*sz+k)/sz) []).getD ((off*sz+k) % sz) .undef) v:=h3
    have b5:0<sz:=by
     rcases ip sz with h0|h0
     ·subst h0;omega
     ·exact h0
    rw[fQ _ z k (by rw[K];exact H)];rw[dr off sz,Nat.mul_add_div b5,Nat.mul_add_mod]at h4;have hd:k/sz<n:=Nat.div_lt_of_lt_mul (by rw[dr];exact H)
    have e1:((F.drop off).take n).getD (k/sz) []=F.getD (off+k/sz) []:=by simp only[aa,bZ,if_pos hd,bH]
    rw[e1];exact h4)
   exact⟨ns,g1,fun m Q w' J=>by simp only[Builtin.firstCells];exact g2 m Q w' J⟩
 |_=>simp[lD]at hb
theorem Cs(hM:aY C x s a w){cl:Call}(ho:o.op= .call cl)(hb:cl.callee= .builtin .append)(H:cw P o=some so)(I:eff s o.dst so=some e)(hp:e.pre):cU P C o a w (s.app o.dst e):=by
 simp only[cw,ho,hb]at H;split at H<;>try (cases H;done)
 rename_i X Y t u hX ht;split at H<;>try (cases H;done)
 rename_i el d2 r q hd hu d9 e1;split at H<;>try (cases H;done)
 rename_i n e0 z hn d6 hz;rw[bg]at H;obtain⟨Z,H⟩:=H;simp only[aE,decide_eq_true_eq]at Z;obtain⟨⟨d5,d8⟩,e2⟩:=Z;obtain⟨zs,d3,e3,_⟩:=nA hz;have c7:zs.length=n:=by omega
 have a7:((∃e',d2= .slice e')\/d2= .string)/\so= .app z e0 r q:=by
  split at H<;>try (cases H;done)
  ·cases H;exact⟨.inl ⟨_,rfl⟩,rfl⟩
  ·rw[bg]at H
   obtain⟨_,H⟩:=H;cases H;exact⟨.inr rfl,rfl⟩
 obtain⟨a7,rfl⟩:=a7;have h1:=aV hM d9;have h2:=aV hM e1;have ea:cl.args= #[X,Y]:=by apply jQ;simpa using hX
 have et:cl.argTypes= #[t,u]:=by apply jQ;simpa using ht
 have b8:=nk (a:=a) ho hb _ rfl;rw[ea,et]at b8;have em: #[X,Y].map a.eval= #[a.eval X,a.eval Y]:=by simp
 rw[em]at b8;simp only[eff]at I;split at I<;>try (cases I;done)
 rename_i d a8
 have d4:∀{v w' x'}{c:SV},(Builtin.append_ #[t,u] o.type #[a.eval X,a.eval Y]).run P w= .ok v w'->∀{tk:Tok},aY C x' (s.grew tk (d+100)) a w'->Rep x' c v->cU P C o a w ((s.grew tk (d+100)).put o.dst c):=by intro v w' x' c F tk Q hc;exact⟨v,w',x',.value v,by rw[b8];simp[F],.inl rfl,Q.put o.dst hc⟩
 cases hu':s.ev r with
 |byt l tk=>
  rw[hu']at I h1
  try simp only at I
  split at I<;>try (cases I;done)
  rename_i p l' b6;cases I;obtain⟨b7,e5,rfl,b5,a6⟩:=hp;obtain rfl:n=1:=by omega
  obtain⟨g1,g2⟩:=jN (P:=P) hM h2 b6 b7;obtain⟨_,_,_,_,_,b1⟩:=h1.byt_inv;obtain⟨cap,hF,_⟩:=A4 (h1.data rfl)
  obtain⟨v,w',x',a1,F,Q,b4,K⟩:=rL (ty:=o.type) hM hd hu a7 hn d6 d3 d5 d8 c7 hF b5 b1 g1 (fun w' b3=>by have:=g2 l'.length (aM _) w' b3;rwa[cG]at this) (by simp) (vG l') (by omega) (d+100)
  simp only[St.app];have b2:o.dst.getD 0=d:=by rw[a8];rfl
  rw[b2];refine d4 F Q (.dat _ _ (Mj (cap:=a1) ?_) K);rw[af,b9];exact b4
 |lst e4 l tk=>
  rw[hu']at I h1
  try simp only at I
  split at I<;>try (cases I;done)
  rename_i p l' b6;cases I;obtain⟨b7,rfl,b5,a6⟩:=hp;obtain rfl:n=z.length:=by omega
  obtain⟨J,g1,ns,fy,g2⟩:=kO (P:=P) hM h2 b6 b7;obtain⟨_,_,_,_,_,b1⟩:=h1.lst_inv;obtain⟨cap,hF,_,b0⟩:=A3 (h1.data rfl);have d7:ns.length=l'.length*z.length:=by rw[<-fy.len,dB J]
  obtain⟨v,w',x',a1,F,Q,b4,K⟩:=rL (ty:=o.type) hM hd hu a7 hn d6 d3 d5 d8 c7 hF b5 b1 g1 (fun w' b3=>by have:=g2 l'.length (aM _) w' b3;rwa[<-d7,cG]at this) d7 fy a6 (d+100)
  simp only[St.app];have b2:o.dst.getD 0=d:=by rw[a8];rfl
  rw[b2];refine d4 F Q (.dat _ _ (LD (cap:=a1) ?_ ?_) K)
  ·rw[af,List.flatten_append];exact b4
  ·intro y hy
   rcases am.1 hy with hy|hy
   ·exact b0 y hy
   ·exact J y hy
 |_=>rw[hu']at I;simp at I
theorem aY.write(H:aY C x s a w){d off:Nat}{y obj':aG}(Q:s.look d=some y){vs:LAd}(hb:off+vs.length<=y.size)(a6:obj'.size=y.size)
 (fy:∀c:LAe,(∀k,k<y.size->cQ x y k (c.getD k undef))->∀k,k<y.size->cQ x obj' k (if off<=k/\k<off+vs.length then vs.getD (k-off) undef else c.getD k undef)) (F:obj'.arrB=y.arrB:=by rfl):
 aY C x (s.setO d obj') a (dQ w ((x.bk d).1) off vs)/\((∀v∈vs,v.oneCell'=true)->∀w':World,w'=w->(storeCells ⟨(x.bk d).1,off,none⟩ vs).run P w'= .ok () (dQ w ((x.bk d).1) off vs)):=by
 obtain⟨c,e,fl,fh,Z,⟨hs,a1,hs3⟩,hr⟩:=gB H Q;obtain⟨g1,g2,g3,g4,g5⟩:=jG ((x.bk d).1) vs w off;obtain⟨c',J,I,K⟩:=iZ vs w off c Z (by omega);refine⟨⟨H.tm,H.defers,H.heap.block (dT Q) g1 g2 g3 g4 g5 ⟨c',e,fl,fh,J,⟨by omega,by omega,fun h=>by rw[I];exact hs3 (F ▸ h)⟩,fun k hk=> ?_⟩⟩, ?_⟩
 ·rw[K k]
  exact fy c hr k (by omega)
 ·rintro z w' rfl
  exact iY off vs w' c 0 Z (by omega) z
theorem AB{t u el:TypeId}{n m k:Nat}{ty:TypeId}{bs:Addr}{cap:Nat}{Y:Value}{vs:LAd}{w1:World}(I:P.underlying t=some (.slice el))(J:gJ P el=some n)
 (z:(Builtin.lenOf Y).run P w= .ok m w) (y:(Builtin.firstCells n (min m k) Y).run P w= .ok vs.toArray w) (F:(storeCells bs vs).run P w= .ok () w1):
 (Builtin.copy_ #[t,u] ty #[.slice (some bs) k cap,Y]).run P w= .ok (.int .i64 (min m k:Nat)) w1:=by
 have e:(#[t,u]:Array TypeId)[0]? =some t:=rfl;have Q:(#[Value.slice (some bs) k cap,Y]:LAe)[0]? =some (.slice (some bs) k cap):=rfl;have K:(#[Value.slice (some bs) k cap,Y]:LAe)[1]? =some Y:=rfl;have H:(Builtin.firstCells n (Nat.min m k) Y).run P w= .ok vs.toArray w:=y;simp only[Builtin.copy_,e,Q,K,aH,run_underlying I,ao,dl J,z,H,F,aU,goInt]
theorem L7(hM:aY C x s a w){cl:Call}(ho:o.op= .call cl)(hb:cl.callee= .builtin .copy)(hr:cw P o=some so)(he:eff s o.dst so=some e)(hp:e.pre):cU P C o a w (s.app o.dst e):=by
 simp only[cw,ho,hb]at hr;split at hr<;>try (cases hr;done)
 rename_i X Y t u hX ht;split at hr<;>try (cases hr;done)
 rename_i el r q hd c7 d8;split at hr<;>try (cases hr;done)
 rename_i n hn;cases hr;have h1:=aV hM c7;have h2:=aV hM d8;have ea:cl.args= #[X,Y]:=by apply jQ;simpa using hX
 have et:cl.argTypes= #[t,u]:=by apply jQ;simpa using ht
 have b1:=nk (a:=a) ho hb _ rfl;rw[ea,et]at b1;have em: #[X,Y].map a.eval= #[a.eval X,a.eval Y]:=by simp
 rw[em]at b1;simp only[eff]at he;cases hu:s.ev r with
 |psl d e7 off k cap=>
  rw[hu]at he h1;obtain⟨cap,e8,_,K,b8,b2⟩:=h1.psl_inv
  try simp only at he
  split at he<;>try (cases he;done)
  ·rename_i l hl
   split at he<;>try (cases he;done)
   rename_i p z b6;cases he;obtain⟨b7,rfl,rfl,d4⟩:=hp;obtain⟨g1,g2⟩:=jN (P:=P) hM h2 b6 b7;have a8:((z.take (min z.length k)).map fun b=>Value.int .u8 b.toNat).length=min z.length k:=by simp
   have d7:z.take (min z.length k)=z.take k:=by rw[Nat.min_comm,<-List.take_take];simp
   have J:min z.length k=0\/K=off:=by
    rcases b2 with h|h
    ·left;omega
    ·right;rw[gI]at h;exact h
   have a1:(z.take k).length=min z.length k:=by simp;omega
   simp only[St.app]
   obtain⟨
    hM',hst⟩:=hM.write (P:=P) (off:=off) (vs:=(z.take (min z.length k)).map fun b=>Value.int .u8 b.toNat) (obj':= .bar (l.take off++z.take k++l.drop (off+(z.take k).length))) hl (by simp only[aG.size,a8];omega)
    (by simp only[aG.size,af,aw,aQ];omega) (by
     intro c hc i hi;have:=hc i hi;simp only[cQ,aG.cell,aG.size]at this hi ⊢;have b5:=jl l (z.take k) off i (by rw[a1];omega);rw[a8]
     have e1:(l.take off++z.take k++l.drop (off+(z.take k).length)).getD i 0=if off<=i/\i<off+min z.length k then(z.take k).getD (i-off) 0 else l.getD i 0:=by simp only[aa];rw[b5,a1];split<;>rfl
     rw[e1];split
     ·rename_i d9
      rw[d7]
      have e2:((z.take k).map fun b=>Value.int .u8 b.toNat).getD (i-off) undef= .int .u8 ((z.take k).getD (i-off) 0).toNat:=by simp only[aa,aR];rw[ac (by rw[a1];omega)];rfl
      rw[e2];exact .u8 _
     ·exact this)
   refine⟨.int .i64 (min z.length k:Nat),_,x,.value _, ?_,.inl rfl,aY.put hM' o.dst (dH _ _)⟩;rw[b1,b8]
   have b4:=AB (P:=P) (w:=w) (t:=t) (u:=u) (ty:=o.type) (bs:=⟨(x.bk d).1,K,none⟩) (cap:=cap) (w1:=dQ w ((x.bk d).1) off ((z.take (min z.length k)).map fun b=>Value.int .u8 b.toNat)) hd hn (g1 w rfl) (g2 _ (Nat.min_le_left _ _) w rfl) (by
    rcases J with h|h
    ·rw[h];rfl
    ·rw[h];exact hst (fun v hv=>by obtain⟨_,_,rfl⟩:=aS.1 hv;rfl) w rfl)
   simp[b4]
  ·rename_i e6 H hl
   split at he<;>try (cases he;done)
   rename_i p z b6;cases he;obtain⟨b7,rfl,rfl,d4,F⟩:=hp;obtain⟨Q,g1,ns,fy,g2⟩:=kO (P:=P) hM h2 b6 b7;have e0:ns.length=z.length*n:=by rw[<-fy.len,dB Q]
   have e5:(min z.length k)*n<=ns.length:=by rw[e0];exact cm _ (Nat.min_le_left _ _)
   have a8:(ns.take (min z.length k*n)).length=min z.length k*n:=by rw[aw,rp e5]
   have a1:(z.take k).length=min z.length k:=by simp;omega
   have Z:∀y∈z.take k,y.length=n:=fun y I=>Q y (cg I)
   have a7:(z.take k).flatten.length=min z.length k*n:=by rw[dB Z,a1]
   have J:min z.length k=0\/K=off*n:=by
    rcases b2 with h|h
    ·left;omega
    ·right;exact h
   have b3:off*n+min z.length k*n<=H.length*n:=by rw[<-bW];exact cm _ (by omega)
   have a6:∀y∈H.take off++z.take k++H.drop (off+(z.take k).length),y.length=n:=by
    intro y I;rcases am.1 I with I|I
    ·rcases am.1 I with I|I
     ·exact F y (cg I)
     ·exact Z y I
    ·exact F y (ny I)
   have b0:(H.take off++z.take k++H.drop (off+(z.take k).length)).length=H.length:=by simp only[af,aw,aQ];omega
   simp only[St.app]
   obtain⟨
    hM',hst⟩:=hM.write (P:=P) (off:=off*n) (vs:=ns.take (min z.length k*n)) (obj':= .arr n (H.take off++z.take k++H.drop (off+(z.take k).length))) hl (by simp only[aG.size,a8];exact b3)
    (by simp only[aG.size];rw[b0]) (by
     intro c hc i hi;have:=hc i hi;simp only[cQ,aG.cell,aG.size]at this hi ⊢;rw[<-fQ _ a6 i (by rw[b0];exact hi)];rw[<-fQ _ F i hi]at this;rw[List.flatten_append,List.flatten_append,a8];have ef:H.flatten=(H.take off).flatten++(H.drop off).flatten:=by rw[<-List.flatten_append,List.take_append_drop]
     have l1:(H.take off).flatten.length=off*n:=by rw[dB (fun y I=>F y (cg I)),aw,rp (by omega)]
     have e1:H.flatten.take (off*n)=(H.take off).flatten:=by rw[ef,List.take_append_of_le_length (by rw[l1];exact aM _),bp (by rw[l1];exact aM _)]
     have e2:H.flatten.drop (off*n+min z.length k*n)=(H.drop (off+(z.take k).length)).flatten:=by
      have d3:H.flatten=(H.take (off+(z.take k).length)).flatten++(H.drop (off+(z.take k).length)).flatten:=by rw[<-List.flatten_append,List.take_append_drop]
      have l2:(H.take (off+(z.take k).length)).flatten.length=off*n+min z.length k*n:=by rw[dB (fun y I=>F y (cg I)),aw,a1,rp (by omega),bW]
      rw[d3,List.drop_append,l2,Nat.sub_self,bw,ez (by rw[l2];exact aM _),aA]
     rw[<-e1,<-e2,<-a7];have b5:=jl H.flatten (z.take k).flatten (off*n) i (by rw[a7,dB F];exact b3);rw[aa,b5];split
     ·rename_i d9
      rw[<-aa];have d5:i-off*n<(z.take k).flatten.length:=by omega
      have e4:(z.take k).flatten.getD (i-off*n) .undef=z.flatten.getD (i-off*n) .undef:=by
       have d6:z.flatten=(z.take k).flatten++(z.drop k).flatten:=by rw[<-List.flatten_append,List.take_append_drop]
       rw[d6];simp only[aa];rw[cn d5]
      rw[e4]
      have e3:(ns.take (min z.length k*n)).getD (i-off*n) undef=ns.getD (i-off*n) undef:=by simp only[aa,bZ];rw[if_pos (by omega)]
      rw[<-a7]at e3;rw[e3];exact fy.rep _ (by rw[fy.len];omega)
     ·rw[<-aa];exact this)
   refine⟨.int .i64 (min z.length k:Nat),_,x,.value _, ?_,.inl rfl,aY.put hM' o.dst (dH _ _)⟩;rw[b1,b8]
   have b4:=AB (P:=P) (w:=w) (t:=t) (u:=u) (ty:=o.type) (bs:=⟨(x.bk d).1,K,none⟩) (cap:=cap) (w1:=dQ w ((x.bk d).1) (off*n) (ns.take (min z.length k*n))) hd hn (g1 w rfl) (g2 _ (Nat.min_le_left _ _) w rfl) (by
    rcases J with h|h
    ·rw[h];simp[storeCells,dQ]
    ·rw[h];exact hst (fun v hv=>fy.one v (cg hv)) w rfl)
   simp[b4]
 |_=>rw[hu]at he;simp at he
theorem Jy(F:aY C x s a w)(y:cw P o=some so)(I:eff s o.dst so=some e)(H:e.pre):cU P C o a w (s.app o.dst e):=by
 have z:(∀{p c},val s so=some (p,c)->p->cU P C o a w (s.put o.dst c))->(∀d,eff s d so=match val s so with|some (p,v)=>some {pre:=p,val:=v}|none=>none)->cU P C o a w (s.app o.dst e):=by
  intro h1 h2;rw[h2]at I;cases hv:val s so with
  |none=>simp[hv]at I
  |some Z=>obtain⟨p,c⟩:=Z;simp only[hv,ay.injEq]at I;subst I;exact h1 hv H
 cases ho:o.op with
 |move X=>exact z (fun hv _=>Ao F (.inl ho) y hv) (by simp only[cw,ho]at y;obtain⟨_,_,rfl⟩:=aj.1 y;intro d;rfl)
 |assign X=>exact z (fun hv _=>Ao F (.inr ho) y hv) (by simp only[cw,ho]at y;obtain⟨_,_,rfl⟩:=aj.1 y;intro d;rfl)
 |pick c X Y=>
  exfalso;simp only[cw,ho]at y;split at y<;>try (cases y;done)
  cases y;simp[eff]at I
 |alloc t=>exact Jz F ho y I
 |box t X=>exact Tu F ho y I
 |build t ps=>exact z (fun hv _=>It F ho y hv) (by
  simp only[cw,ho]at y;split at y<;>try (cases y;done)
  ·split at y<;>try (cases y;done)
   obtain⟨_,_,rfl⟩:=aj.1 y;intro d;rfl
  ·split at y<;>try (cases y;done)
   obtain⟨_,_,rfl⟩:=aj.1 y;intro d;rfl)
 |buildSlice t n ps=>exact z (fun hv _=>ru F ho y hv) (by
  simp only[cw,ho]at y;split at y<;>try (cases y;done)
  split at y<;>try (cases y;done)
  split at y<;>try (cases y;done)
  obtain⟨_,_,rfl⟩:=aj.1 y;intro d;split<;>rfl)
 |load t X=>exact z (fun hv H=>Kw F ho y hv H) (by
  simp only[cw,ho]at y;split at y<;>try (cases y;done)
  split at y<;>try (cases y;done)
  cases y;intro d;rfl)
 |store t X Y=>exact Jx F ho y I H
 |nilCheck X=>exact z (fun hv _=>wA F ho y hv) (by simp only[cw,ho]at y;obtain⟨_,_,rfl⟩:=aj.1 y;intro d;rfl)
 |binOp op t X Y u=>
  by_cases J:∃Q K q r,so= .eqS Q K q r
  ·obtain⟨Q,K,q,r,rfl⟩:=J
   exact z (fun hv _=>Qg F ho y hv) (fun _=>rfl)
  ·exact z (fun hv H=>Iu F ho y (fun Q K q r e=>J ⟨Q,K,q,r,e⟩) hv H) (by
    simp only[cw,ho]at y;split at y<;>try (cases y;done)
    ·cases y;intro d;rfl
    ·cases y;intro d;rfl
    ·split at y<;>try (cases y;done)
     split at y<;>try (cases y;done)
     split at y<;>first|(cases y;done)|(cases y;intro d;rfl)
    ·split at y<;>first|(cases y;done)|(cases y;intro d;rfl)
    ·split at y<;>try (cases y;done)
     split at y<;>try (cases y;done)
     split at y<;>first|(cases y;done)|(cases y;intro d;rfl))
 |unOp op t X=>exact z (fun hv _=>Kv F ho y hv) (by simp only[cw,ho]at y;obtain⟨_,_,rfl⟩:=aj.1 y;intro d;rfl)
 |convert t u X=>exact z (fun hv H=>Ae F ho y hv H) (by
  simp only[cw,ho]at y;split at y<;>try (cases y;done)
  ·cases y;intro d;rfl
  ·split at y<;>try (cases y;done)
   cases y;intro d;rfl
  ·split at y<;>try (cases y;done)
   cases y;intro d;rfl
  ·split at y<;>try (cases y;done)
   cases y;intro d;rfl)
 |makeFunc f X Y=>exact z (fun hv _=>wB F ho y hv) (by
  cases f<;>simp only[cw,ho,reduceCtorEq]at y;split at y<;>try (cases y;done)
  cases y;intro d;rfl)
 |makeSlice t X Y=>exact uN F ho y I H
 |slice t X lo hi mx=>exact z (fun hv H=>Ir F ho y hv H) (by
  simp only[cw,ho]at y;split at y<;>try (cases y;done)
  split at y
  ·cases y
  split at y<;>try (cases y;done)
  ·split at y<;>try (cases y;done)
   cases y;intro d;rfl
  ·split at y<;>try (cases y;done)
   cases y;intro d;rfl)
 |fieldAddr t X i=>exact z (fun hv _=>uo F ho y hv) (by
  simp only[cw,ho]at y;split at y<;>try (cases y;done)
  split at y<;>try (cases y;done)
  split at y<;>try (cases y;done)
  split at y
  ·cases y
  cases y;intro d;rfl)
 |indexAddr t X Y=>exact z (fun hv H=>um F ho y hv H) (by
  simp only[cw,ho]at y;split at y<;>try (cases y;done)
  ·split at y<;>try (cases y;done)
   cases y;intro d;rfl
  ·split at y<;>try (cases y;done)
   cases y;intro d;rfl)
 |index t X Y=>exact z (fun hv H=>Is F ho y hv H) (by
  simp only[cw,ho]at y;split at y<;>try (cases y;done)
  ·split at y<;>try (cases y;done)
   split at y<;>try (cases y;done)
   cases y;intro d;rfl
  ·cases y;intro d;rfl)
 |extract X i=>exact z (fun hv H=>Ad F ho y hv H) (by simp only[cw,ho]at y;obtain⟨_,_,rfl⟩:=aj.1 y;intro d;rfl)
 |call cl=>
  cases hb:cl.callee with
  |invoke r m=>simp[cw,ho,hb]at y
  |value f=>
   exfalso;simp only[cw,ho,hb]at y;split at y<;>try (cases y;done)
   split at y<;>try (cases y;done)
   split at y
   ·split at y
    ·cases y
    ·cases y;simp[eff]at I
   ·cases y;simp[eff]at I
  |builtin b=>
   cases b with
   |append=>exact Cs F ho hb y I H
   |copy=>exact L7 F ho hb y I H
   |len=>exact z (fun hv _=>Qf F ho hb y hv) (by
    simp only[cw,ho,hb]at y;split at y<;>try (cases y;done)
    split at y<;>try (cases y;done)
    ·cases y;intro d;rfl
    ·cases y;intro d;rfl)
   |min=>exact z (fun hv _=>ry F ho (.inl hb) y hv) (by
    simp only[cw,ho,hb]at y;split at y<;>try (cases y;done)
    split at y<;>try (cases y;done)
    cases y;intro d;rfl)
   |max=>exact z (fun hv _=>ry F ho (.inr hb) y hv) (by
    simp only[cw,ho,hb]at y;split at y<;>try (cases y;done)
    split at y<;>try (cases y;done)
    cases y;intro d;rfl)
   |_=>simp[cw,ho,hb]at y
 |_=>simp[cw,ho]at y
theorem nq{cs:LAa}{i:Nat}(hi:i<cs.length):∀k∈(cs.getD i .undef).ids,k∈SV.idsL cs:=by
 induction cs generalizing i with
 |nil=>simp at hi
 |cons c r z=>
  intro k y;simp only[SV.idsL,am];cases i with
  |zero=>exact .inl (by simpa using y)
  |succ i=>exact .inr (z (i:=i) (by simpa using hi) k (by simpa using y))
theorem l6{cs:LAa}{i:Nat}(hi:i<cs.length):∀k∈(cs.getD i .undef).toks,k∈SV.toksL cs:=by
 induction cs generalizing i with
 |nil=>simp at hi
 |cons c r z=>
  intro k y;simp only[SV.toksL,am];cases i with
  |zero=>exact .inl (by simpa using y)
  |succ i=>exact .inr (z (i:=i) (by simpa using hi) k (by simpa using y))
theorem Rep.renF{x x2:Sit}{mo mt:Nat->Nat}(hG:∀b o v,x.G b o=some v->x2.G b o=some v){sv:SV}{v:Value}(h:Rep x sv v):(∀k∈sv.ids,x2.bk (mo k)=x.bk k)->(∀t∈sv.toks,x2.τ (mt t)=x.τ t)->Rep x2 (sv.ren mo mt) v:=by
 induction h with
 |undef v=>intro _ _;exact .undef v
 |dat s v h Q=>
  intro F I;have H:=h.mono hG
  have sp:∀(sz:Nat)(t:Tok),(∀u,t= .id u->x2.τ (mt u)=x.τ u)->dX x sz t v->dX x2 sz (t.ren mt) v:=by
   intro sz t Q hs;cases t with
   |no=>trivial
   |clip=>exact hs
   |id u=>obtain⟨ad,n,cap,hv,hc⟩:=hs;refine⟨ad,n,cap,hv,hc.imp id ?_⟩;rintro⟨b,off,he,hh⟩;exact⟨b,off,he,by rw[Q u rfl];exact hh⟩
  cases s with
  |byt l t=>simp only[SV.ren];exact .dat _ _ (H.tok _ (.inl ⟨l,t,_,rfl,rfl⟩)) (sp 1 t (fun u hu=>I u (by subst hu;simp[SV.toks])) Q)
  |lst sz xs t=>simp only[SV.ren];exact .dat _ _ (H.tok _ (.inr ⟨sz,xs,t,_,rfl,rfl⟩)) (sp sz t (fun u hu=>I u (by subst hu;simp[SV.toks])) Q)
  |undef=>exact .undef v
  |bool b=>simp only[SV.ren];exact .dat _ _ H trivial
  |int k n=>simp only[SV.ren];exact .dat _ _ H trivial
  |u8 b=>simp only[SV.ren];exact .dat _ _ H trivial
  |str l=>simp only[SV.ren];exact .dat _ _ H trivial
  |nilp=>simp only[SV.ren];exact .dat _ _ H trivial
  |nili=>simp only[SV.ren];exact .dat _ _ H trivial
  |ife=>simp only[SV.ren];exact .dat _ _ H trivial
  |pp cs=>simp only[SV.ren];exact .dat _ _ H trivial
  |ptr o off=>cases h
  |ap o sz i j=>cases h
  |psl o sz off n cap=>cases h
  |agg cs=>cases h
  |tup cs=>cases h
  |fn f a b=>cases h
 |ptr o off=>intro F _;simp only[SV.ren];rw[<-F o (by simp[SV.ids])];exact .ptr _ off
 |ap o sz i j=>intro F _;simp only[SV.ren];rw[<-F o (by simp[SV.ids])];exact .ap _ sz i j
 |psl o sz off n cap J K h hn hc z=>intro F _;simp only[SV.ren];rw[<-F o (by simp[SV.ids])]at z ⊢;exact .psl _ sz off n cap J K h hn hc z
 |agg cs vs hl _ ih=>
  intro F I;simp only[SV.ren,gi]
  exact .agg _ _ (by simpa using hl) fun i hi=>by
   rw[bi _ (by simp)];have y:i<cs.length:=by simpa using hi
   exact ih i y (fun k z=>F k (by simp only[SV.ids];exact nq y k z)) (fun k z=>I k (by simp only[SV.toks];exact l6 y k z))
 |tup cs vs hl _ ih=>
  intro F I;simp only[SV.ren,gi]
  exact .tup _ _ (by simpa using hl) fun i hi=>by
   rw[bi _ (by simp)];have y:i<cs.length:=by simpa using hi
   exact ih i y (fun k z=>F k (by simp only[SV.ids];exact nq y k z)) (fun k z=>I k (by simp only[SV.toks];exact l6 y k z))
 |fn f c1 c2 v1 v2 a7 _ a1 _ Z a6=>
  intro F I;simp only[SV.ren,gi]
  exact .fn _ _ _ _ _ (by simpa using a7) (fun i hi=>by
   rw[bi _ (by simp)];have y:i<c1.length:=by simpa using hi
   exact Z i y (fun k z=>F k (by simp only[SV.ids,am];exact .inl (nq y k z))) (fun k z=>I k (by simp only[SV.toks,am];exact .inl (l6 y k z))))
   (by simpa using a1) fun i hi=>by
    rw[bi _ (by simp)];have y:i<c2.length:=by simpa using hi
    exact a6 i y (fun k z=>F k (by simp only[SV.ids,am];exact .inr (nq y k z))) (fun k z=>I k (by simp only[SV.toks,am];exact .inr (l6 y k z)))
def Sit.back(x:Sit)(mo mt:Nat->Nat):Sit:=⟨x.G,fun k=>x.bk (mo k),fun t=>x.τ (mt t)⟩
theorem rF{x:Sit}{mo mt:Nat->Nat}{sz:Nat}{t:Tok}{v:Value}(h:dX x sz (t.ren mt) v):dX (x.back mo mt) sz t v:=by
 cases t with
 |no=>trivial
 |clip=>exact h
 |id u=>exact h
theorem Rep.renB{x:Sit}{mo mt:Nat->Nat}(sv:SV):∀v,Rep x (sv.ren mo mt) v->Rep (x.back mo mt) sv v:=by
 refine SV.rec (motive_1:=fun sv=>∀v,Rep x (sv.ren mo mt) v->Rep (x.back mo mt) sv v) (motive_2:=fun _=>True) (motive_3:=fun l=>∀i,i<l.length->∀v,Rep x ((l.getD i .undef).ren mo mt) v->Rep (x.back mo mt) (l.getD i .undef) v)
  ?_ ?_ ?_ ?_ ?_ ?_ ?_ ?_ ?_ ?_ ?_ ?_ ?_ ?_ ?_ ?_ ?_ ?_ ?_ ?_ ?_ sv
 ·intro v _;exact .undef v
 ·intro b v h;rw[Rep.bool_inv h];exact eF b
 ·intro k n v h;rw[Rep.int_inv h];exact dH k n
 ·intro b v h;rw[Rep.u8_inv h];exact qV b
 ·intro l v h;rw[Rep.str_inv h];exact oU l
 ·intro l t v h
  simp only[SV.ren]at h;cases h with
  |dat _ _ h J=>exact .dat _ _ (h.tok _ (.inl ⟨l,_,t,rfl,rfl⟩)) (rF J)
 ·intro sz xs t _ v h
  simp only[SV.ren]at h;cases h with
  |dat _ _ h J=>exact .dat _ _ (h.tok _ (.inr ⟨sz,xs,_,t,rfl,rfl⟩)) (rF J)
 ·intro v h;rw[Rep.nilp_inv h];exact .dat _ _ .nilp trivial
 ·intro v h;rw[Rep.nili_inv h];exact .dat _ _ .nili trivial
 ·intro v h;simp only[SV.ren]at h;obtain⟨t,u,rfl⟩:=Rep.ife_inv h;exact .dat _ _ (.ife t u) trivial
 ·intro cs _ v h
  simp only[SV.ren]at h;exact .dat _ _ (Rep.data (x:=x) h rfl) trivial
 ·intro o off v h;simp only[SV.ren]at h;rw[h.ptr_inv];exact .ptr o off
 ·intro o sz i j v h;simp only[SV.ren]at h;rw[h.ap_inv];exact .ap o sz i j
 ·intro o sz off n cap v h
  simp only[SV.ren]at h;obtain⟨z,hn,hc,y,rfl,ho,hk⟩:=h.psl_invA;exact .psl (x:=x.back mo mt) o sz off n cap y z ho hn hc hk
 ·intro cs Z v h
  simp only[SV.ren,gi]at h;obtain⟨vs,rfl,F⟩:=h.agg_inv;refine .agg _ _ (by simpa using F.1) fun i hi=>Z i hi _ ?_
  have:=F.2 i (by simpa using hi);rwa[bi _ (by simp)]at this
 ·intro cs Z v h
  simp only[SV.ren,gi]at h;obtain⟨vs,rfl,F⟩:=h.tup_inv;refine .tup _ _ (by simpa using F.1) fun i hi=>Z i hi _ ?_
  have:=F.2 i (by simpa using hi);rwa[bi _ (by simp)]at this
 ·intro f c1 c2 H K v h
  simp only[SV.ren,gi]at h;obtain⟨v1,v2,rfl,h1,h2⟩:=h.fn_inv;refine .fn _ _ _ _ _ (by simpa using h1.1) (fun i hi=>H i hi _ ?_) (by simpa using h2.1) (fun i hi=>K i hi _ ?_)
  ·have:=h1.2 i (by simpa using hi);rwa[bi _ (by simp)]at this
  ·have:=h2.2 i (by simpa using hi);rwa[bi _ (by simp)]at this
 ·trivial
 ·intros;trivial
 ·intro i hi;simp at hi
 ·intro c r I Q i hi v h
  cases i with
  |zero=>exact I v (by simpa using h)
  |succ i=>simpa using Q i (by simpa using hi) v (by simpa using h)
theorem fa.renB{mo mt:Nat->Nat}{o:Nat}{y:aG}(h:fa x w (mo o) (y.ren mo mt)):fa (x.back mo mt) w o y:=by
 obtain⟨c,e,fl,fh,I,⟨hs,F,hs3⟩,z⟩:=h;refine⟨c,e,fl,fh,I,⟨?_,F,by cases y<;>exact hs3⟩,fun k H=> ?_⟩
 ·cases y<;>simpa[aG.ren,aG.size,gi]using hs
 ·cases y with
  |rc cs=>have:=z k (by simpa[aG.ren,aG.size,gi]using H);simp only[aG.ren,cQ,gi]at this ⊢;rw[bi _ (by simp)]at this;exact Rep.renB _ _ this
  |arr sz J=>exact z k H
  |bar l=>exact z k H
theorem fa.renF{x2:Sit}{w':World}{mo mt:Nat->Nat}{o:Nat}{y:aG}(h:fa x w' o y)(I:∀b o v,x.G b o=some v->x2.G b o=some v)(Q:x2.bk (mo o)=x.bk o)
 (Z:∀k∈y.ids,x2.bk (mo k)=x.bk k) (hτ:∀t∈y.toks,x2.τ (mt t)=x.τ t):fa x2 w' (mo o) (y.ren mo mt):=by
 obtain⟨c,e,fl,fh,hO,⟨hs,H,hs3⟩,F⟩:=h;refine⟨c,e,fl,fh,by rw[Q];exact hO,⟨?_,by rw[Q];exact H,by cases y<;>exact hs3⟩,fun k J=> ?_⟩
 ·cases y<;>simpa[aG.ren,aG.size,gi]using hs
 ·cases y with
  |rc cs=>
   have z:k<cs.length:=by simpa[aG.ren,aG.size,gi]using J
   have:=F k z;simp only[aG.ren,cQ,gi]at this ⊢;rw[bi _ (by simp)];exact Rep.renF I this (fun j K=>Z j (nq z j K)) (fun j K=>hτ j (l6 z j K))
  |arr sz xs=>exact(F k J).mono I
  |bar l=>exact(F k J).mono I
theorem jY{os:List aG}{p:Nat×aG}:p∈idx os↔p.1<os.length/\p.2=os.getD p.1 (.rc []):=by
 unfold idx;rw[aS];constructor
 ·rintro⟨⟨ob,i⟩,h,rfl⟩
  have:=List.mem_zipIdx' h;exact⟨this.1,by rw[aa,ac this.1];exact this.2⟩
 ·rintro⟨h1,h2⟩
  refine⟨(p.2,p.1), ?_,rfl⟩;rw[List.mk_mem_zipIdx_iff_getElem?,h2,aa,ac h1];rfl
theorem pR(os:List aG):((idx os).map cV).Nodup:=by
 unfold idx;rw[List.map_map];have:(cV∘fun p:aG×Nat=>(p.2,p.1))=Prod.snd:=rfl;rw[this];have:os.zipIdx.map Prod.snd=uY 0 os.length:=by simp[List.zipIdx_map_snd]
 rw[this];exact List.nodup_range'
theorem vF{m:LAb}(h:m.Nodup){i j:Nat}(hi:i<m.length)(F:j<m.length)(e:m[i]=m[j]):i=j:=by
 have z:=rx.1 h;rcases Nat.lt_trichotomy i j with y|heq|hgt
 ·exact absurd e (z i j hi F y)
 ·exact heq
 ·exact absurd e.symm (z j i F hi hgt)
def Ctx.callee(x:Sit)(w:World)(m:LAb)(β0:Nat->Nat×Nat):Ctx:=⟨w,x.G,fun b=>w.heap.size<=b\/∃i,i<m.length/\(x.bk (m.getD i 0)).1=b,β0⟩
theorem Ak(F:aY C x s a w){m:LAb}{os:List aG}{mo mt:Nat->Nat}(H:∀i,i<m.length->mo i=m.getD i 0)(hl:m.length=os.length)(K:m.Nodup)
 (y:∀i,i<os.length->s.look (m.getD i 0)=some ((os.getD i (.rc [])).ren mo mt)):dA (Ctx.callee x w m (x.back mo mt).bk) (x.back mo mt) (idx os) [] w:=by
 have I:∀i,i<os.length->(x.back mo mt).bk i=x.bk (m.getD i 0):=fun i hi=>by show x.bk (mo i)=_;rw[H i (by omega)]
 refine⟨F.heap.per,fun _ _ _ h=>h,fun _ _ _ h=> .inl h,fun b h=> .inl h, ?_,pR os, ?_,fun t h=>by simp at h,fun t h=>by simp at h,fun t h=>by simp at h,rfl,rfl,rfl,aM _,fun _ _=>rfl,fun _ _=>rfl,F.heap.lay.mono F.heap.g0⟩
 ·intro p J
  obtain⟨h1,h2⟩:=jY.1 J;obtain⟨h3,h4,h5⟩:=F.heap.obs _ (dT (y p.1 h1));refine⟨?_,.inr ⟨p.1,by omega,by rw[I p.1 h1]⟩,fun off=>by rw[I p.1 h1];exact h5 off⟩;rw[h2];refine fa.renB ?_;rw[H p.1 (by omega)];exact h3
 ·intro p J q Q z
  obtain⟨h1,_⟩:=jY.1 J;obtain⟨h2,_⟩:=jY.1 Q;rw[I _ h1,I _ h2]at z;have:=F.heap.inj _ (dT (y p.1 h1)) _ (dT (y q.1 h2)) z;simp only at this;have Z:m.getD p.1 0=m[p.1]'(by omega):=by rw[aa,ac (by omega)];rfl
  have e2:m.getD q.1 0=m[q.1]'(by omega):=by rw[aa,ac (by omega)];rfl
  rw[Z,e2]at this;exact vF K _ _ this
theorem kX{m:LAb}{l:List (Nat×aG)}{p:Nat×aG}:p∈gH m l↔p∈l/\p.1∉m:=by
 induction l with
 |nil=>simp[gH]
 |cons q r z=>
  simp only[gH];split<;>rename_i y
  ·rw[z,aq];constructor
   ·rintro⟨h1,h2⟩;exact⟨.inr h1,h2⟩
   ·rintro⟨rfl|h1,h2⟩
    ·exact absurd y h2
    ·exact⟨h1,h2⟩
  ·rw[aq,z,aq];constructor
   ·rintro(rfl|⟨h1,h2⟩)
    ·exact⟨.inl rfl,y⟩
    ·exact⟨.inr h1,h2⟩
   ·rintro⟨rfl|h1,h2⟩
    ·exact .inl rfl
    ·exact .inr ⟨h1,h2⟩
theorem jb(m:LAb)(l:List (Nat×aG)):(gH m l).Sublist l:=by
 induction l with
 |nil=>exact qE.refl _
 |cons q r y=>
  simp only[gH];split
  ·exact y.cons q
  ·exact y.cons_cons q
theorem Ch(hM:aY C x s a w){m:LAb}{os:List aG}{mo mt:Nat->Nat}{lo hi:Nat}(hl:m.length=os.length)(e5:∀i,i<os.length->s.look (m.getD i 0)=some ((os.getD i (.rc [])).ren mo mt))
 {x':Sit} {w':World} {a1:List (Nat×aG)} {tks:LAb} {β0:Nat->Nat×Nat} (hH:dA (Ctx.callee x w m β0) x' a1 tks w')
 (e9:∀i,i<m.length->mo i=m.getD i 0) {β2:Nat->Nat×Nat} {τ2:Nat->Nat×Nat×Nat} (b6:∀i,i<100->¬(lo<=i/\i<hi)) (a6:∀o,¬(lo<=o/\o<hi)->β2 o=x.bk o) (b1:∀o,¬(lo<=o/\o<hi)->τ2 o=x.τ o)
 (K:∀p∈a1,β2 (mo p.1)=x'.bk p.1) (d6:∀p∈a1,∀k∈p.2.ids,β2 (mo k)=x'.bk k) (d4:∀p∈a1,∀t∈p.2.toks,τ2 (mt t)=x'.τ t)
 (b8:∀p∈a1,p.1<m.length\/(lo<=mo p.1/\mo p.1<hi)) (b2:∀t∈tks,(lo<=mt t/\mt t<hi)/\τ2 (mt t)=x'.τ t):
 (∀b o v,x.G b o=some v->x'.G b o=some v)/\dA C ⟨x'.G,β2,τ2⟩ (a1.map (fun p=>(mo p.1,p.2.ren mo mt))++gH m (bV lo hi s.ob)) (tks.map mt++df lo hi s.tk) w':=by
 have hG:∀b o v,x.G b o=some v->x'.G b o=some v:=hH.g0;have y:=hM.heap;have Z:∀i,i<m.length->(∃ob,(m.getD i 0,ob)∈s.ob):=fun i hi=>⟨_,dT (e5 i (by omega))⟩
 have a8:∀b,(Ctx.callee x w m β0).mine b->C.mine b:=by
  rintro b (h|⟨i,hi,rfl⟩)
  ·exact y.new b (fi y.size h)
  ·obtain⟨ob,d8⟩:=Z i hi
   exact(y.obs _ d8).2.1
 have f1:∀o∈m,∃i,i<m.length/\m.getD i 0=o:=by intro o ho;obtain⟨i,hi,rfl⟩:=cr ho;exact⟨i,hi,by rw[aa,ac hi];rfl⟩
 have b5:∀b,b<w.heap.size->(∀i,i<m.length->(x.bk (m.getD i 0)).1≠b)->w'.heap[b]? =w.heap[b]? /\((∀off,x.G b off=none)->∀off,x'.G b off=none):=by
  intro b hb c7
  have b7:¬(Ctx.callee x w m β0).mine b:=by
   rintro(h|⟨i,hi,h⟩)
   ·omega
   ·exact c7 i hi h
  refine⟨hH.ext b b7,fun h off=> ?_⟩;cases hg:x'.G b off with
  |none=>rfl
  |some v=>
   rcases hH.gm b off v hg with h1|h1
   ·change x.G b off=some v at h1;rw[h off]at h1;cases h1
   ·exact absurd h1 b7
 have b0:∀p∈gH m (bV lo hi s.ob),∃ob,(p.1,ob)∈s.ob/\p.2=ob.purge lo hi/\¬(lo<=p.1/\p.1<hi)/\p.1∉m/\(∀i,i<m.length->(x.bk (m.getD i 0)).1≠(x.bk p.1).1)/\(x.bk p.1).1<w.heap.size:=by
  intro p H;obtain⟨h1,h2⟩:=kX.1 H;obtain⟨h3,ob,h4,h5⟩:=cS h1;refine⟨ob,h4,h5,h3,h2,fun i hi e=> ?_, ?_⟩
  ·obtain⟨e0,e1⟩:=Z i hi
   have:=y.inj _ e1 _ h4 e;simp only at this;apply h2;rw[<-this,aa,ac hi];exact aF _
  ·obtain⟨⟨c,e,fl,fh,hO,_⟩,_⟩:=y.obs _ h4
   exact hO.lt
 have fy:∀p∈a1.map (fun p=>(mo p.1,p.2.ren mo mt)),∃q∈a1,p=(mo q.1,q.2.ren mo mt)/\β2 p.1=x'.bk q.1:=by intro p H;obtain⟨q,F,rfl⟩:=aS.1 H;exact⟨q,F,rfl,K q F⟩
 have J:∀q∈a1,w.heap.size<=(x'.bk q.1).1\/∃i,i<m.length/\(x.bk (m.getD i 0)).1=(x'.bk q.1).1:=fun q F=>(hH.obs q F).2.1
 have z:∀t∈df lo hi s.tk,t∈s.tk/\¬(lo<=t/\t<hi):=fun t Q=>bP.1 Q
 have I:∀t∈s.tk,(x.τ t).2.1=(x.τ t).2.2\/((x.τ t).1<w.heap.size/\∀i,i<m.length->(x.bk (m.getD i 0)).1≠(x.τ t).1):=by
  intro t Q;rcases y.tks t Q with h|⟨⟨c,e,fl,fh,hO,_⟩,_⟩
  ·exact .inl h
  ·by_cases he:(x.τ t).2.1=(x.τ t).2.2
   ·exact .inl he
   ·refine .inr ⟨hO.lt,fun i hi e'=> ?_⟩
    obtain⟨ob,d8⟩:=Z i hi;rcases y.tko t Q _ d8 with h|h
    ·exact h e'.symm
    ·exact he h
 refine⟨hG,⟨hH.per,fun b o v h=>hG _ _ _ (y.g0 b o v h), ?_,y.new, ?_, ?_, ?_, ?_, ?_, ?_,hH.os.trans y.os,hH.tape.trans y.tape,hH.output.trans y.output,fi y.size hH.size, ?_,fun i hi=>(a6 i (b6 i hi)).trans (y.pin i hi),y.lay⟩⟩
 ·intro b o v h
  rcases hH.gm b o v h with h1|h1
  ·exact y.gm b o v h1
  ·exact .inr (a8 b h1)
 ·intro p H
  rcases am.1 H with H|H
  ·obtain⟨q,F,rfl,hb⟩:=fy p H
   obtain⟨h1,h2,h3⟩:=hH.obs q F;refine⟨h1.renF (x2:=⟨x'.G,β2,τ2⟩) (fun _ _ _ h=>h) (K q F) (d6 q F) (d4 q F), ?_,fun off=> ?_⟩
   ·show C.mine (β2 (mo q.1)).1;rw[K q F];exact a8 _ h2
   ·show x'.G (β2 (mo q.1)).1 off=none;rw[K q F];exact h3 off
  ·obtain⟨ob,h1,h2,h3,h4,h5,h6⟩:=b0 p H
   obtain⟨g1,g2,g3⟩:=y.obs _ h1;obtain⟨k1,k2⟩:=b5 _ h6 h5;have hb:β2 p.1=x.bk p.1:=a6 _ h3;refine⟨?_,by show C.mine (β2 p.1).1;rw[hb];exact g2,fun off=>by show x'.G (β2 p.1).1 off=none;rw[hb];exact k2 g3 off⟩;rw[h2];exact fa.of_heap (x':=⟨x'.G,β2,τ2⟩) g1 k1 hG a6 b1 h3
 ·rw[b9,List.nodup_append]
  refine⟨?_, ?_, ?_⟩
  ·rw[List.map_map]
   have e2:=iu.1 hH.nd;refine iu.2 (gx.imp_of_mem (fun{p q} H F c7=> ?_) e2);intro e;simp only[Function.comp]at e;have:(x'.bk p.1).1=(x'.bk q.1).1:=by rw[<-K p H,<-K q F,e]
   exact c7 (hH.inj p H q F this)
  ·have h1:(gH m (bV lo hi s.ob)).Sublist (bV lo hi s.ob):=jb _ _
   refine Bm.sublist (h1.map cV) ?_;rw[ig];exact y.nd.filter _
  ·intro o1 h1 o2 h2 e
   subst e;obtain⟨p,H,rfl⟩:=aS.1 h1;obtain⟨q,F,d7⟩:=aS.1 h2;obtain⟨r,hr,rfl⟩:=aS.1 H;obtain⟨ob,k1,k2,k3,k4,k5,k6⟩:=b0 q F;simp only at d7;rcases b8 r hr with h|h
   ·apply k4;rw[d7,e9 _ h,aa,ac h];exact aF _
   ·apply k3;rw[d7];exact h
 ·intro p H q F a7
  change (β2 p.1).1=(β2 q.1).1 at a7;rcases am.1 H with H|H<;>rcases am.1 F with F|F
  ·obtain⟨p',d3,rfl,hb⟩:=fy p H
   obtain⟨q',d5,rfl,e8⟩:=fy q F;rw[hb,e8]at a7;have:=hH.inj p' d3 q' d5 a7;simp only;rw[this]
  ·obtain⟨p',d3,rfl,hb⟩:=fy p H
   obtain⟨ob,k1,k2,k3,k4,k5,k6⟩:=b0 q F;rw[hb,a6 _ k3]at a7;rcases J p' d3 with h|⟨i,hi,h⟩
   ·omega
   ·exact absurd (h.trans a7) (k5 i hi)
  ·obtain⟨q',d5,rfl,hb⟩:=fy q F
   obtain⟨ob,k1,k2,k3,k4,k5,k6⟩:=b0 p H;rw[hb,a6 _ k3]at a7;rcases J q' d5 with h|⟨i,hi,h⟩
   ·omega
   ·exact absurd (h.trans a7.symm) (k5 i hi)
  ·obtain⟨ob,k1,k2,k3,k4,k5,k6⟩:=b0 p H
   obtain⟨e0,e6,f4,e3,f5,f3,f2⟩:=b0 q F;rw[a6 _ k3,a6 _ e3]at a7;exact y.inj (p.1,ob) k1 (q.1,e0) e6 a7
 ·intro t Q
  rcases am.1 Q with Q|Q
  ·obtain⟨u,hu,rfl⟩:=aS.1 Q
   obtain⟨_,e7⟩:=b2 u hu;have:=hH.tks u hu;unfold jh at this ⊢;simp only[e7];exact this.imp id fun⟨h1,h2,h3⟩=>⟨h1,a8 _ h2,h3⟩
  ·obtain⟨
    h1,h2⟩:=z t Q
   have:=y.tks t h1;unfold jh at this ⊢;simp only[b1 t h2];rcases this with h|⟨⟨c,e,fl,fh,hO,hc⟩,h4,h5⟩
   ·exact .inl h
   ·rcases I t h1 with h|⟨k1,k2⟩
    ·exact .inl h
    ·obtain⟨g1,_⟩:=b5 _ k1 k2
     refine .inr ⟨⟨c,e,fl,fh,hO.of_heap g1,hc⟩,h4,fun o e4 f0=> ?_⟩;cases hg:x'.G (x.τ t).1 o with
     |none=>rfl
     |some v=>
      rcases hH.gm _ _ _ hg with q1|q1
      ·change x.G _ _=some v at q1;rw[h5 o e4 f0]at q1;cases q1
      ·rcases q1 with q1|⟨i,hi,q1⟩
       ·change w.heap.size<=_ at q1;omega
       ·exact absurd q1 (k2 i hi)
 ·intro t Q p H
  rcases am.1 Q with Q|Q<;>rcases am.1 H with H|H
  ·obtain⟨u,hu,rfl⟩:=aS.1 Q
   obtain⟨q,F,rfl,hb⟩:=fy p H;show(τ2 (mt u)).1≠(β2 (mo q.1)).1\/(τ2 (mt u)).2.1=(τ2 (mt u)).2.2;rw[(b2 u hu).2,K q F];exact hH.tko u hu q F
  ·obtain⟨u,hu,rfl⟩:=aS.1 Q
   obtain⟨ob,k1,k2,k3,k4,k5,k6⟩:=b0 p H;show(τ2 (mt u)).1≠(β2 p.1).1\/(τ2 (mt u)).2.1=(τ2 (mt u)).2.2;rw[(b2 u hu).2,a6 _ k3];rcases hH.tks u hu with h|⟨_,h,_⟩
   ·exact .inr h
   ·left;intro e
    rcases h with h|⟨i,hi,h⟩
    ·change w.heap.size<=_ at h;omega
    ·exact k5 i hi (h.trans e)
  ·obtain⟨h1,h2⟩:=z t Q
   obtain⟨q,F,rfl,hb⟩:=fy p H;show(τ2 t).1≠(β2 (mo q.1)).1\/(τ2 t).2.1=(τ2 t).2.2;rw[b1 t h2,K q F];rcases I t h1 with h|⟨k1,k2⟩
   ·exact .inr h
   ·left;intro e
    rcases J q F with h|⟨i,hi,h⟩
    ·omega
    ·exact k2 i hi (h.trans e.symm)
  ·obtain⟨h1,h2⟩:=z t Q
   obtain⟨ob,k1,k2,k3,k4,k5,k6⟩:=b0 p H;show(τ2 t).1≠(β2 p.1).1\/(τ2 t).2.1=(τ2 t).2.2;rw[b1 t h2,a6 _ k3];exact y.tko t h1 (p.1,ob) k1
 ·intro t Q u hu d9
  show nv (τ2 t) (τ2 u)\/(τ2 t).2.1=(τ2 t).2.2\/(τ2 u).2.1=(τ2 u).2.2;rcases am.1 Q with Q|Q<;>rcases am.1 hu with hu|hu
  ·obtain⟨t',b3,rfl⟩:=aS.1 Q
   obtain⟨u',b4,rfl⟩:=aS.1 hu;rw[(b2 t' b3).2,(b2 u' b4).2];exact hH.tkd t' b3 u' b4 (fun e=>d9 (by rw[e]))
  ·obtain⟨t',b3,rfl⟩:=aS.1 Q
   obtain⟨h1,h2⟩:=z u hu;rw[(b2 t' b3).2,b1 u h2];rcases hH.tks t' b3 with h|⟨_,h,_⟩
   ·exact .inr (.inl h)
   ·rcases I u h1 with k|⟨k1,k2⟩
    ·exact .inr (.inr k)
    ·refine .inl (fun e=> ?_)
     rcases h with h|⟨i,hi,h⟩
     ·change w.heap.size<=_ at h;omega
     ·exact k2 i hi (h.trans e)
  ·obtain⟨u',b4,rfl⟩:=aS.1 hu
   obtain⟨h1,h2⟩:=z t Q;rw[(b2 u' b4).2,b1 t h2];rcases hH.tks u' b4 with h|⟨_,h,_⟩
   ·exact .inr (.inr h)
   ·rcases I t h1 with k|⟨k1,k2⟩
    ·exact .inr (.inl k)
    ·refine .inl (fun e=> ?_)
     rcases h with h|⟨i,hi,h⟩
     ·change w.heap.size<=_ at h;omega
     ·exact k2 i hi (h.trans e.symm)
  ·obtain⟨h1,h2⟩:=z t Q
   obtain⟨h3,h4⟩:=z u hu;rw[b1 t h2,b1 u h4];exact y.tkd t h1 u h3 d9
 ·intro b hb
  have b7:¬(Ctx.callee x w m β0).mine b:=fun h=>hb (a8 b h)
  exact(hH.ext b b7).trans (y.ext b hb)
theorem dA.only{ob y:List (Nat×aG)}{tk tk':LAb}(h:dA C x ob tk w)(H:∀p∈y,p∈ob)(K:(y.map cV).Nodup)(I:∀t∈tk',t∈tk):dA C x y tk' w:=
 ⟨h.per,h.g0,h.gm,h.new,fun p z=>h.obs p (H p z),K,fun p z q J=>h.inj p (H p z) q (H q J),fun t F=>h.tks t (I t F),fun t F p z=>h.tko t (I t F) p (H p z),
  fun t F u hv=>h.tkd t (I t F) u (I u hv),h.os,h.tape,h.output,h.size,h.ext,h.pin,h.lay⟩
theorem AG(d:Nat)(m:LAb)(os:List (Nat×aG)):vb d m os=os.map fun p=>(km d m p.1,p.2.ren (km d m) (nI d)):=by
 induction os with
 |nil=>rfl
 |cons p r y=>simp[vb,y]
def Kc(C:Ctx)(k:St->Prop):LBc:=fun a w=>∃x s,aY C x s a w/\k s
theorem fc{K:LBc}{Q:LBb}{k:St->Prop}{s':St}(h:cU P C o a w s')(z:k s')(F:∀a w,Kc C k a w->K a w):o.wp P a w K Q:=by
 obtain⟨u,w',x',n,y,I,H⟩:=h;unfold Oper.wp;rw[y];rcases I with rfl|⟨rfl,rfl⟩
 ·exact F _ _ ⟨x',s',H,z⟩
 ·exact F _ _ ⟨x',s',H,z⟩
theorem wH{f:Nat}(h:fk P f=true)(args:LAe)(w:World):(callFunc f args).run P w= .ok (.enter f args) w:=by
 unfold fk at h;split at h
 ·rename_i fn y
  simp only[aE,dE]at h;obtain⟨h1,h2⟩:=h;have h3:fn.body.isNone=false:=by cases hb:fn.body<;>simp[hb]at h1 ⊢
  simp only[callFunc,aH,run_program,ao,y,h2,aP,if_false,h3,aU]
 ·cases h
theorem Jv(hM:aY C x s a w){y:Call}{F:Operand}(ho:o.op= .call y)(hb:y.callee= .value F){f:Arg}{a_:List Arg}(hf:bG P 0 F=some f)
 (has:kY (fun p=>bG P p.2 p.1) (y.args.toList.zip y.argTypes.toList)=some a_) (a1:y.args.size=y.argTypes.size) {g:Nat} {c1 c2:LAa} (hg:s.ev f= .fn g c1 c2) (hc:fk P g=true):
 ∃vs:LAd,(execOp a.eval o).run P w= .ok (.enter g ⟨vs⟩) w/\cB x (c1++a_.map s.ev++c2) vs:=by
 have hF:=aV hM hf;rw[hg]at hF;obtain⟨v1,v2,Q,h1,h2⟩:=hF.fn_inv;obtain⟨hl,H⟩:=fS has;have Z:(y.args.toList.zip y.argTypes.toList).length=y.args.toList.length:=by simp[a1]
 have z:cB x (a_.map s.ev) (y.args.toList.map a.eval):=by
  refine⟨by simp only[av];rw[hl,Z],fun i hi=> ?_⟩;have I:i<a_.length:=by simpa using hi
  have K:i<(y.args.toList.zip y.argTypes.toList).length:=by omega
  have:=aV hM (H i K I);have e1:(a_.map s.ev).getD i .undef=s.ev a_[i]:=by rw[aa,aR,ac I];rfl
  have e2:(y.args.toList.map a.eval).getD i undef=a.eval (y.args.toList.zip y.argTypes.toList)[i].1:=by
   have J:i<y.args.toList.length:=by omega
   rw[aa,aR,ac J,List.getElem_zip];rfl
  rw[e1,e2];exact this
 refine⟨v1++y.args.toList.map a.eval++v2, ?_,(h1.append z).append h2⟩
 have:(execOp a.eval o).run P w=(callFunc g ((⟨v1⟩:LAe)++y.args.map a.eval++⟨v2⟩)).run P w:=by simp only[execOp,ho,resolve,hb,Q,Deferred.ofValue,aH,aU,ao,invoke]
 rw[this,wH hc]
 congr 2
 apply jQ;simp
structure Src(P:Program)(n m:Nat)(w:World)(Y:Value)(ns:List Value):Prop where
 len:∀w':World,w'.heap=w.heap->(Builtin.lenOf Y).run P w'= .ok m w'
 cells:∀w':World,w'.heap=w.heap->(Builtin.firstCells n m Y).run P w'= .ok ns.toArray w'
theorem KD(K:aY C x s a w){n:Nat}{u:SV}{Y:Value}{p:Prop}{R:f9}(h:Rep x u Y)(Q:lD s n u=some (p,R))(I:p):∃ns,(∀y∈R,y.length=n)/\New x ns R.flatten/\Src P n R.length w Y ns:=by
 obtain⟨z,g1,ns,fy,J⟩:=kO (P:=P) K h Q I;refine⟨ns,z,fy,g1,fun w' F=> ?_⟩;have:=J R.length (aM _) w' F;have H:ns.length=R.length*n:=by rw[<-fy.len,dB z]
 rwa[<-H,cG]at this
def xbD(C:Ctx)(P:Program)(g:Nat)(vs:LAd)(w:World)(d:LAc)(a:Act)(k:St->Prop):Prop:=
 Calls P g ⟨vs⟩ w fun en w'=>∃v,en= .returned v/\Kc C k (a.put d v) w'
theorem Aa{K:LBc}{Q:LBb}{k:St->Prop}{g:Nat}{vs:LAd}(y:(execOp a.eval o).run P w= .ok (.enter g ⟨vs⟩) w)(h:xbD C P g vs w o.dst a k)
 (F:∀a w,Kc C k a w->K a w):o.wp P a w K Q:=by
 unfold Oper.wp;rw[y];refine Calls.mono h ?_;rintro en w' ⟨v,rfl,z⟩;exact F _ _ z
theorem Mh{f:Arg}{a_:List Arg}(y:cw P o=some (.call f a_)):∃z F,o.op= .call z/\z.callee= .value F/\bG P 0 F=some f/\kY (fun p=>bG P p.2 p.1) (z.args.toList.zip z.argTypes.toList)=some a_/\z.args.size=z.argTypes.size:=by
 cases ho:o.op with
 |call z=>
  cases hb:z.callee with
  |invoke r m=>simp[cw,ho,hb]at y
  |value F=>
   simp only[cw,ho,hb]at y;split at y<;>try (cases y;done)
   rename_i I H h1 h2;split at y<;>try (cases y;done)
   rename_i h3;split at y
   ·split at y
    ·cases y
    ·cases y;exact⟨z,F,rfl,hb,h1,h2,h3⟩
   ·cases y;exact⟨z,F,rfl,hb,h1,h2,h3⟩
  |builtin b=>
   exfalso;cases b<;>simp only[cw,ho,hb,reduceCtorEq]at y
   all_goals
    (repeat' first|(cases y;done)|split at y)
 |_=>
  exfalso;simp only[cw,ho,reduceCtorEq]at y
  (repeat' first|contradiction|(cases y;done)|(obtain⟨_,_,h⟩:=aj.1 y;clear y;(repeat' first|(cases h;done)|split at h);done)|split at y)
theorem Lm{c q r:Arg}(y:cw P o=some (.pick c q r)):∃X Y Z,o.op= .pick X Y Z/\bG P 0 X=some c/\bG P o.type Y=some q/\bG P o.type Z=some r:=by
 cases ho:o.op with
 |pick X Y Z=>
  simp only[cw,ho]at y;split at y<;>try (cases y;done)
  rename_i z a2 a3 h1 h2 h3;simp only[ay.injEq,SOp.pick.injEq]at y;obtain⟨rfl,rfl,rfl⟩:=y;exact⟨X,Y,Z,rfl,h1,h2,h3⟩
 |_=>
  exfalso;simp only[cw,ho,reduceCtorEq]at y
  (repeat' first|contradiction|(cases y;done)|(obtain⟨_,_,h⟩:=aj.1 y;clear y;(repeat' first|(cases h;done)|split at h);done)|split at y)
theorem JA(y:aY C x s a w){c q r:Arg}(H:cw P o=some (.pick c q r)){t:Bool}(I:s.ev c= .bool t):cU P C o a w (s.put o.dst (if t then s.ev q else s.ev r)):=by
 obtain⟨X,Y,Z,F,h1,h2,h3⟩:=Lm H;have z:=aV y h1;rw[I]at z;refine cU.val y (m:=do pure (if<-asBool (a.eval X)then a.eval Y else a.eval Z)) (u:=if t then a.eval Y else a.eval Z) (by simp only[execOp,F];simp) ?_ ?_
 ·rw[z.bool_inv];rfl
 ·cases t
  ·exact aV y h3
  ·exact aV y h2
theorem Tv(y:aY C x s a w)(H:cw P o=some so){e:Eff}(F:eff s o.dst so=some e)(z:e.pre):cU P C o a w (s.app o.dst e):=by exact Jy y H F z
theorem LV(H:aY C x s a w){g:Nat}{t:Bool}(h:s.get g= .bool t):g<s.tm.length/\a.tmps[g]? =some (.bool t)/\s.tm[g]? =some (.bool t):=by
 have y:g<s.tm.length:=by
  rcases bq g s.tm.length with z|z
  ·exact z
  ·unfold St.get at h;rw[aa,fI z]at h;cases h
 have h1:s.tm[g]? =some (.bool t):=by unfold St.get at h;rw[aa,ac y]at h;rw[ac y];exact congrArg some h
 have F:=H.slot g;rw[h]at F;have hv:=F.bool_inv;have hs:g<a.tmps.size:=by rw[<-bf,<-H.tm.1];exact y
 refine⟨y, ?_,h1⟩;rw[iK hs];have:a.tmps.getD g undef=a.tmps[g]:=by simp[lU,hs]
 rw[<-this,hv]
def vp(P:Program)(o:Oper)(so:SOp):Prop:=cw P o=some so\/∃y,so= .newB y/\cw P o=some (.litB y)
theorem vp.fresh{ops:Array Oper}{o:Oper}{so:SOp}(d:LAc)(h:cw P o=some so):vp P o (rb ops d so):=by
 rcases Jm ops d so with e|⟨xs,e1,e2⟩
 ·rw[e];exact .inl h
 ·rw[e2];exact .inr ⟨xs,rfl,e1 ▸ h⟩
theorem vp.old{o:Oper}{so:SOp}(h:vp P o so)(z:∀y,so≠ .newB y):cw P o=some so:=by
 rcases h with h|⟨y,e,_⟩
 ·exact h
 ·exact absurd e (z y)
theorem mJ{ops:Array Oper}{o:Oper}{i:SI}(h:ia P ops o=some i):vp P o i.op/\i.dst=o.dst/\(i.g=none/\o.guard=none\/∃j b g,i.g=some (g,b)/\o.guard=some (j,b)/\(ops[j]?).bind (·.dst)=some g):=by
 unfold ia at h;split at h<;>try (cases h;done)
 ·rename_i so h1 h2;cases h;exact⟨.fresh _ h1,rfl,.inl ⟨rfl,h2⟩⟩
 ·rename_i so j b h1 h2
  split at h<;>try (cases h;done)
  rename_i g y;cases h;exact⟨.fresh _ h1,rfl,.inr ⟨j,b,g,rfl,h2,y⟩⟩
theorem lV{ops:Array Oper}{o:Oper}(h:o.guard=none):Region.wanted o (yielded ops a.tmps)=true:=by simp[Region.wanted,h]
theorem Ab{ops:Array Oper}{o:Oper}{j g:Nat}{b t:Bool}(h:o.guard=some (j,b))(z:(ops[j]?).bind (·.dst)=some g)(y:a.tmps[g]? =some (.bool t)):Region.wanted o (yielded ops a.tmps)=(t==b):=by simp only[Region.wanted,h,yielded,z,dm,y];cases t<;>cases b<;>rfl
variable {s':St}
structure Itm where
 n:Nat
 i:SI
 o:Option Eff
 f:Nh
theorem aY.purge(H:aY C x s a w)(lo hi:Nat):aY C x (s.purge lo hi) a w:=by
 have y:=H.heap;refine⟨H.tm.mono (fun _ _ _ h=>h) (fun _ _=>rfl) (fun _ _=>rfl),H.defers,⟨y.per,y.g0,y.gm,y.new, ?_, ?_, ?_, ?_, ?_, ?_,y.os,y.tape,y.output,y.size,y.ext,y.pin,y.lay⟩⟩
 ·intro p z
  obtain⟨h1,o,h2,h3⟩:=cS z;obtain⟨h4,Q⟩:=y.obs _ h2;refine⟨?_,Q⟩;rw[h3];exact h4.of_heap rfl (fun _ _ _ h=>h) (fun _ _=>rfl) (fun _ _=>rfl) h1
 ·show((bV lo hi s.ob).map cV).Nodup
  rw[ig];exact y.nd.filter _
 ·intro p z q K
  obtain⟨_,o,h2,_⟩:=cS z;obtain⟨_,J,h3,_⟩:=cS K;exact y.inj (p.1,o) h2 (q.1,J) h3
 ·intro t F;exact y.tks t (bP.1 F).1
 ·intro t F p z
  obtain⟨_,o,h2,_⟩:=cS z;exact y.tko t (bP.1 F).1 (p.1,o) h2
 ·intro t F u I;exact y.tkd t (bP.1 F).1 u (bP.1 I).1
theorem Ca{ob:List (Nat×aG)}(h:(ob.map cV).Nodup){p:Nat×aG}(y:p∈ob):ob.lookup p.1=some p.2:=by
 induction ob with
 |nil=>cases y
 |cons q r z=>
  simp only[ax,fT]at h;rcases aq.1 y with rfl|y
  ·simp[List.lookup]
  ·have:(p.1==q.1)=false:=by
    rw[beq_eq_false_iff_ne];intro e;apply h.1;rw[<-e];exact co y
   simp only[List.lookup,this];exact z h.2 y
section
variable {ops:Array Oper}{l:List SI}{its:List Itm}{b:List Nat}
def left(its:List Itm)(listed:Array Bool):List Itm:=its.filter fun y=> !listed.getD y.n true
theorem uJ{listed:Array Bool}{i:Nat}(hi:i<listed.size):(listed.setIfInBounds i true).getD i true=true:=by simp[lU,hi]
theorem iF{listed:Array Bool}{i j:Nat}(hi:i<listed.size):(listed.setIfInBounds i true).getD j true=if j=i then true else listed.getD j true:=by
 by_cases h:j=i
 ·subst h;rw[if_pos rfl];exact uJ hi
 ·rw[if_neg h,getD_set_ne true (fun e=>h e.symm)]
end
theorem Un(p:Nat->Prop)(h:∃n,p n):∃n,p n/\∀m,p m->n<=m:=by
 obtain⟨n,J⟩:=h;induction n using Nat.strongRecOn with
 |_ n I=>
  by_cases z:∃m,m<n/\p m
  ·obtain⟨m,H,y⟩:=z;exact I m H y
  ·exact⟨n,J,fun m y=>Nat.le_of_not_lt fun F=>z ⟨m,F,y⟩⟩
def BT(P:Program)(s:St):List ResultVar->Option (Prop×LAa)
 |[]=>some (True,[])
 | .tmp t::r=>match BT P s r with
  |some (p,vs)=>some (p,s.get t::vs)
  |none=>none
 | .cell t ty::r=>match gJ P ty,vM P ty,BT P s r with
  |some n,some ag,some (p,vs)=>match (if ag||n==1 then jJ s n ag (s.get t)else none)with
   |some (q,v)=>some (q/\p,v::vs)
   |none=>none
  |_,_,_=>none
def kU:LAa->SV
 |[v]=>v
 |vs=> .tup vs
theorem uH(K:aY C x s a w){t:TypeId}{n:Nat}{F:Bool}{u c:SV}{v:Value}{p:Prop}(Z:gJ P t=some n)(z:vM P t=some F)(Q:Rep x u v)(h:(if F||n==1 then jJ s n F u else none)=some (p,c))(I:p):
 ∃H r,v= .pointer (some H)/\(loadVar t H).run P w= .ok r w/\Rep x c r:=by
 split at h<;>try (cases h;done)
 rename_i h1;obtain⟨b,off,cs,rfl,rfl,hc⟩:=nV K Q h I;obtain⟨r,J,y⟩:=sP (P:=P) hc Z z h1;exact⟨_,r,rfl,J,y⟩
def Ue(tmps:LAe):ResultVar->Sem Value
 | .tmp t=>pure (tmps.getD t undef)
 | .cell a t=>do loadVar t (<-asAddr (tmps.getD a undef))
theorem BS(fn:Func)(tmps:LAe):results fn tmps=(do let vs<-fn.results.mapM (Ue tmps);pure (if h:vs.size=1 then vs[0]else .tuple vs)):=by
 unfold results
 congr 1
theorem uu(J:aY C x s a w):∀{rs:List ResultVar}{p:Prop}{vs:LAa},BT P s rs=some (p,vs)->p->
 ∃us,(rs.mapM (Ue a.tmps)).run P w= .ok us w/\cB x vs us:=by
 intro rs;induction rs with
 |nil=>intro p vs h _;simp only[BT,ay.injEq,bA.injEq]at h;obtain⟨_,rfl⟩:=h;exact⟨[],rfl,rfl,fun i hi=>by simp at hi⟩
 |cons r rs ih=>
  intro p vs h H
  have cons:∀{c:SV}{u:Value}{cs:LAa}{us:LAd},Rep x c u->cB x cs us->cB x (c::cs) (u::us):=by
   intro c u cs us h1 h2
   exact⟨by simp[h2.1],fun i hi=>by
    cases i with
    |zero=>exact h1
    |succ i=>simpa using h2.2 i (by simpa using hi)⟩
  cases r with
  |tmp t=>
   simp only[BT]at h;split at h<;>try (cases h;done)
   rename_i q Q hq;simp only[ay.injEq,bA.injEq]at h;obtain⟨rfl,rfl⟩:=h;obtain⟨us,y,I⟩:=ih hq H;refine⟨_, ?_,cons (J.slot t) I⟩;simp only[List.mapM_cons,Ue,aH,aU,ao,y]
  |cell t ty=>
   simp only[BT]at h;split at h<;>try (cases h;done)
   rename_i n ag q Q hn K hq;split at h<;>try (cases h;done)
   rename_i q' v' hv;simp only[ay.injEq,bA.injEq]at h;obtain⟨rfl,rfl⟩:=h;obtain⟨us,y,I⟩:=ih hq H.2;obtain⟨ad,r,F,Z,z⟩:=uH J hn K (J.slot t) hv H.1;refine⟨_, ?_,cons z I⟩;have hA:(asAddr (a.tmps.getD t undef)).run P w= .ok ad w:=by rw[F];rfl
   simp only[List.mapM_cons,Ue,aH,hA,aU,ao,Z,y]
def leT(t:Nat)(a b:SV):Prop:=∀(x:Sit)(v:Value),Rep x a v->Rep (x.newT t 0 0 0) b v
theorem leT.lst(t sz:Nat)(y:f9):leT t (.lst sz y .clip) (.lst sz y (.id t)):=fun x v hv=>by obtain⟨b,cap,K,_,J,z⟩:=hv.lst_inv;obtain⟨I,H,F⟩:=z;exact .dat _ _ (J.tok (.lst sz y (.id t)) (.inr ⟨sz,y,_,_,rfl,rfl⟩)) ⟨I,H,H,F,.inl rfl⟩
theorem leT.byt(t:Nat)(l:t8):leT t (.byt l .clip) (.byt l (.id t)):=fun x v hv=>by obtain⟨b,cap,J,_,I,y⟩:=hv.byt_inv;obtain⟨H,F,z⟩:=y;exact .dat _ _ (I.tok (.byt l (.id t)) (.inl ⟨l,_,_,rfl,rfl⟩)) ⟨H,F,F,z,.inl rfl⟩
def leP(o sz:Nat)(y:f9)(a b:SV):Prop:=∀(x x':Sit)(v:Value),x'.bk=x.bk->x'.τ=x.τ->(∀b i u,x.G b i=some u->x'.G b i=some u)->
 (∀k,k<y.length*sz->∃u,x'.G ((x.bk o).1) k=some u/\bU x'.G ((y.getD (k/sz) []).getD (k % sz) .undef) u)->Rep x a v->Rep x' b v
theorem leP.psl{o sz off n:Nat}{cap:LAc}{z:f9}(hb:off+n<=z.length)(J:∀y∈z,y.length=sz):leP o sz z (.psl o sz off n cap) (.lst sz ((z.drop off).take n) .no):=by
 intro x x' v hβ hτ hG hc hv;obtain⟨cap,Q,_,Z,he,a6⟩:=hv.psl_inv;rw[he];have H:((z.drop off).take n).length=n:=by simp;omega
 refine .dat _ _ ?_ trivial
 by_cases hn:n=0
 ·subst hn
  refine .lst _ _ _ _ _ _ _ (fun _ _=>undef) H.symm Q (fun i hi=>by omega) (fun i j hi=>by omega) (fun i j hi=>by omega)
 ·have K:Z=off*sz:=by omega
  have I:∀i,i<n->(((z.drop off).take n).getD i [])=z.getD (off+i) []:=fun i hi=>by simp only[aa,bZ,if_pos hi,bH]
  have hl:∀i,i<n->(z.getD (off+i) []).length=sz:=fun i hi=>by rw[aa,ac (by omega)];exact J _ (aF _)
  have hk:∀i j,i<n->j<sz->off*sz+i*sz+j<z.length*sz:=fun i j hi F=>by have:=cm sz (show off+i+1<=z.length by omega);simp only[bW,Nat.one_mul]at this;omega
  have a1:∀i j,j<sz->(off*sz+i*sz+j)/sz=off+i/\(off*sz+i*sz+j) % sz=j:=fun i j F=>by rw[<-bW,dr,Nat.mul_add_div (by omega),Nat.div_eq_of_lt F,fJ];exact⟨rfl,by rw[Nat.mul_add_mod,ek F]⟩
  refine .lst _ _ _ _ _ _ _ (fun i j=>(x'.G ((x.bk o).1) (off*sz+i*sz+j)).getD undef) H.symm Q (fun i hi=>by rw[I i hi];exact hl i hi) (fun i j hi F=> ?_) (fun i j hi F=> ?_)
  ·obtain⟨u,hu,_⟩:=hc _ (hk i j hi F)
   rw[K,hu];rfl
  ·obtain⟨u,hu,hr⟩:=hc _ (hk i j hi F)
   rw[hu,I i hi];rw[(a1 i j F).1,(a1 i j F).2]at hr;exact hr
end Go.Sy
