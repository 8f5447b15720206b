/- A sound engine for Go code. No condition. -/
import Derived.WalkKit
import Derived.ChangeKeysEq
import Derived.Laws.StructEq
import Derived.Laws.Externs
import Derived.Orders
open Array renaming ext' -> eK, getD -> kK, getD_eq_getD_getElem? -> bl, getElem?_eq_getElem -> iu, getElem?_toList -> dA, length_toList -> aP, replicate -> ei
open Bool renaming and_eq_true -> aw, eq_iff_iff -> fJ, false_eq_true -> az, not_eq_true' -> ej, not_false -> Ew, not_true -> rP, true_and -> df
open Go.Instr renaming buildSlice -> eG, sliceAt -> CG
open Int renaming tmod_eq_emod_of_nonneg -> fv, toNat_natCast -> fX
open Go.IntKind renaming i64 -> ai, u8 -> gq
open List renaming Nodup -> wO, Sublist -> kE, all_eq_true -> aI, append_assoc -> ay, append_nil -> aZ, drop_eq_nil_of_le -> ct, drop_zero -> bj, filter_cons -> lG, flatMap_cons -> ia, flatten_append -> cj, getD_cons_succ -> nt, getD_cons_zero -> dE, getD_eq_getElem?_getD -> aa, getElem?_append_left -> bi, getElem?_append_right -> bo, getElem?_drop -> bO, getElem?_eq_getElem -> ab, getElem?_eq_none -> eH, getElem?_map -> aN, getElem?_range -> cM, getElem?_set -> fN, getElem?_take -> bG, getElem?_toArray -> kR, getElem_mem -> aU, getElem_of_mem -> bH, length -> mq, length_append -> ac, length_cons -> ah, length_drop -> aX, length_eq_zero_iff -> bx, length_map -> aC, length_nil -> au, length_pos_iff -> nq, length_replicate -> dG, length_set -> cW, length_singleton -> aD, length_take -> av, map_append -> cz, map_cons -> aG, map_map -> wN, map_nil -> cV, mem_append -> an, mem_cons -> al, mem_cons_of_mem -> af, mem_cons_self -> aq, mem_map -> aT, mem_map_of_mem -> iU, mem_of_mem_take -> cO, mem_range -> kr, mem_singleton -> bX, nil_append -> aR, nodup_cons -> eZ, pairwise_map -> hZ, range -> bQ, replicate -> aJ, take_append_drop -> kQ, take_length -> ba, take_of_length_le -> bh
open Nat renaming add_assoc -> eU, add_mul -> bN, add_zero -> bW, div_lt_of_lt_mul -> nP, eq_zero_or_pos -> fC, le_refl -> bc, le_trans -> gf, lt_or_ge -> bP, min_eq_left -> iA, mod_eq_of_lt -> dF, mod_lt -> s8, mul_comm -> cK, mul_le_mul_right -> bw, mul_one -> js, succ_mul -> eI, zero_add -> cd, zero_le -> bC, zero_mul -> jx
open Go.Op renaming intCmp -> ra
open Option renaming bind_some -> di, getD_some -> aO, isSome_none -> eh, ite_none_right_eq_some -> aH, map_eq_some_iff -> ae, map_some -> bn, some -> ao
open Prod renaming fst -> cI, mk -> bm
open Go.Result renaming andThen_ok -> ak
open Go.Sem renaming run_bind -> ax, run_pure -> aE
open UInt8 renaming ofInt -> dQ, ofNat -> aQ
set_option linter.unusedVariables false
set_option linter.unusedSimpArgs false
set_option linter.unnecessarySimpa false
set_option linter.unusedSectionVars false
namespace Go.Sy
abbrev d9:=List UInt8
abbrev t7:=List Nat
abbrev t8:=Option Nat
abbrev LAa:=List Value
abbrev LAb:=Array Value
abbrev LAe:=Exit->Act->World->Prop
abbrev LAf:=Act->World->Prop
inductive Tok where
 |no
 |clip
 |id (t:Nat)
 deriving DecidableEq
inductive SV where
 |undef
 |bool (b:Bool)
 |int (k:IntKind) (n:Int)
 |u8 (b:UInt8)
 |str (l:List UInt8)
 |byt (l:List UInt8) (t:Tok)
 |lst (sz:Nat) (xs:List (List SV)) (t:Tok)
 |nilp
 |nili
 |ife
 |pp (cs:List SV)
 |ptr (o off:Nat)
 |ap (o sz i j:Nat)
 |psl (o sz off n:Nat) (cap:Option Nat)
 |agg (cs:List SV)
 |tup (vs:List SV)
 |fn (f:Nat) (first cap:List SV)
 deriving Inhabited
abbrev t6:=List SV
abbrev d8:=List (List SV)
inductive aB where
 |rc (cs:List SV)
 |arr (sz:Nat) (xs:List (List SV))
 |bar (l:List UInt8)
def aB.size:aB->Nat
 | .rc cs=>cs.length
 | .arr y h=>h.length*y
 | .bar l=>l.length
def aB.cell:aB->Nat->SV
 | .rc cs,k=>cs.getD k .undef
 | .arr sz xs,k=>(xs.getD (k/sz) []).getD (k % sz) .undef
 | .bar l,k=> .u8 (l.getD k 0)
def aB.arrB:aB->Bool
 | .arr _ _=>true
 |_=>false
abbrev GM:=Nat->Nat->Option Value
structure Sit where
 G:GM
 bk:Nat->Nat×Nat
 τ:Nat->Nat×Nat×Nat
inductive cy(G:GM):SV->Value->Prop
 |bool (b:Bool):cy G (.bool b) (.bool b)
 |int (k:IntKind) (n:Int):cy G (.int k n) (.int k n)
 |u8 (b:UInt8):cy G (.u8 b) (.int .u8 b.toNat)
 |str (l:List UInt8):cy G (.str l) (.string ⟨⟨l⟩⟩)
 |nilp:cy G .nilp (.pointer none)
 |nili:cy G .nili .nilIface
 |ife (t:TypeId) (v:Value):cy G .ife (.iface t v)
 |bytN (t:Tok):cy G (.byt [] t) (.slice none 0 0)
 |bytE (t:Tok) (a:Addr):cy G (.byt [] t) (.slice (some a) 0 0)
 |byt (l:List UInt8) (t:Tok) (b off cap n:Nat) (hn:n=l.length) (hc:n<=cap)
  (h:∀i,i<n->G b (off+i)=some (.int .u8 (l.getD i 0).toNat)):cy G (.byt l t) (.slice (some ⟨b,off,none⟩) n cap)
 |lstN (sz:Nat) (t:Tok):cy G (.lst sz [] t) (.slice none 0 0)
 |lstE (sz:Nat) (t:Tok) (a:Addr):cy G (.lst sz [] t) (.slice (some a) 0 0)
 |lst (sz:Nat) (xs:List (List SV)) (t:Tok) (b off cap n:Nat) (val:Nat->Nat->Value) (hn:n=xs.length) (hc:n<=cap)
  (hl:∀i,i<n->(xs.getD i []).length=sz)
  (hg:∀i j,i<n->j<sz->G b (off+i*sz+j)=some (val i j))
  (h:∀i j,i<n->j<sz->cy G ((xs.getD i []).getD j .undef) (val i j)):cy G (.lst sz xs t) (.slice (some ⟨b,off,none⟩) n cap)
 |pp (cs:List SV) (b off:Nat) (val:Nat->Value) (hg:∀j,j<cs.length->G b (off+j)=some (val j))
  (h:∀j,j<cs.length->cy G (cs.getD j .undef) (val j)):cy G (.pp cs) (.pointer (some ⟨b,off,none⟩))
class aW where
 cells:Nat->Option (List SV)
variable [aW]
def Lay(G:GM):Prop:=∀g cs,aW.cells g=some cs->∀j,j<cs.length->∃v,G g j=some v/\cy G (cs.getD j .undef) v
def dM(x:Sit)(h:Nat)(t:Tok)(v:Value):Prop:=
 match t with
 | .no=>True
 | .clip=>∃a n,v= .slice a n n
 | .id t=>∃a n cap,v= .slice a n cap/\(cap=n\/∃b off,a=some ⟨b,off,none⟩/\x.τ t=(b,off+n*h,off+cap*h))
def Oi(x:Sit):SV->Value->Prop
 | .byt _ t,v=>dM x 1 t v
 | .lst sz _ t,v=>dM x sz t v
 |_,_=>True
inductive Rep(x:Sit):SV->Value->Prop
 |undef (v:Value):Rep x .undef v
 |dat (s:SV) (v:Value) (h:cy x.G s v) (ht:Oi x s v):Rep x s v
 |ptr (o off:Nat):Rep x (.ptr o off) (.pointer (some ⟨(x.bk o).1,off,none⟩))
 |ap (o sz i j:Nat):Rep x (.ap o sz i j) (.pointer (some ⟨(x.bk o).1,i*sz+j,none⟩))
 |psl (o sz off n:Nat) (cap:Option Nat) (off' cap':Nat) (h:cap'=0\/off'=off*sz) (hn:n<=cap') (hc:∀c,cap=some c->c=cap') (hk:cap=none->cap'=0\/off'+cap'*sz<=(x.bk o).2):Rep x (.psl o sz off n cap) (.slice (some ⟨(x.bk o).1,off',none⟩) n cap')
 |agg (cs:List SV) (vs:List Value) (hl:cs.length=vs.length) (h:∀i,i<cs.length->Rep x (cs.getD i .undef) (vs.getD i undef)):Rep x (.agg cs) (.agg ⟨vs⟩)
 |tup (cs:List SV) (vs:List Value) (hl:cs.length=vs.length) (h:∀i,i<cs.length->Rep x (cs.getD i .undef) (vs.getD i undef)):Rep x (.tup cs) (.tuple ⟨vs⟩)
 |fn (f:Nat) (c1 c2:List SV) (v1 v2:List Value) (hl1:c1.length=v1.length) (h1:∀i,i<c1.length->Rep x (c1.getD i .undef) (v1.getD i undef))
  (hl2:c2.length=v2.length) (h2:∀i,i<c2.length->Rep x (c2.getD i .undef) (v2.getD i undef)):Rep x (.fn f c1 c2) (.func (.func f) ⟨v1⟩ ⟨v2⟩)
def cn(x:Sit)(cs:t6)(vs:LAa):Prop:=cs.length=vs.length/\∀i,i<cs.length->Rep x (cs.getD i .undef) (vs.getD i undef)
structure St where
 tm:List SV
 ob:List (Nat×aB)
 tk:List Nat
structure Ctx where
 w0:World
 G0:GM
 mine:Nat->Prop
 β0:Nat->Nat×Nat
def fM(w:World)(b:Nat)(c:LAb)(e:TypeId)(fl fh:Nat):Prop:=
 w.heap[b]? =some (.cells c e (fl,fh))/\∀i,i<c.size->¬(fl<=i/\i<fh)
def cx(x:Sit)(obj:aB)(k:Nat)(v:Value):Prop:=
 match obj with
 | .rc cs=>Rep x (cs.getD k .undef) v
 |obj=>cy x.G (obj.cell k) v
def eu(x:Sit)(w:World)(o:Nat)(obj:aB):Prop:=
 ∃c e fl fh,fM w ((x.bk o).1) c e fl fh/\(obj.size<=c.size/\(x.bk o).2<=c.size/\(obj.arrB=true->¬(fl<=c.size/\c.size<fh)))/\∀k,k<obj.size->cx x obj k (c.getD k undef)
def iw(x:Sit)(w:World)(mine:Nat->Prop)(t:Nat):Prop:=
 (x.τ t).2.1=(x.τ t).2.2\/
 ((∃c e fl fh,fM w (x.τ t).1 c e fl fh/\(x.τ t).2.2<=c.size)/\mine (x.τ t).1/\∀o,(x.τ t).2.1<=o->o<(x.τ t).2.2->x.G (x.τ t).1 o=none)
def lX(p q:Nat×Nat×Nat):Prop:=p.1≠q.1
structure dq(C:Ctx)(x:Sit)(ob:List (Nat×aB))(tk:List Nat)(w:World):Prop where
 per:∀b o v,x.G b o=some v->w.cell? ⟨b,o,none⟩=some v
 g0:∀b o v,C.G0 b o=some v->x.G b o=some v
 gm:∀b o v,x.G b o=some v->C.G0 b o=some v\/C.mine b
 new:∀b,C.w0.heap.size<=b->C.mine b
 obs:∀p∈ob,eu x w p.1 p.2/\C.mine ((x.bk p.1).1)/\∀off,x.G ((x.bk p.1).1) off=none
 nd:(ob.map cI).Nodup
 inj:∀p∈ob,∀q∈ob,(x.bk p.1).1=(x.bk q.1).1->p.1=q.1
 tks:∀t∈tk,iw x w C.mine t
 tko:∀t∈tk,∀p∈ob,(x.τ t).1≠(x.bk p.1).1\/(x.τ t).2.1=(x.τ t).2.2
 tkd:∀t∈tk,∀u∈tk,t≠u->lX (x.τ t) (x.τ u)\/(x.τ t).2.1=(x.τ t).2.2\/(x.τ u).2.1=(x.τ u).2.2
 os:w.os=C.w0.os
 tape:w.tape=C.w0.tape
 output:w.output=C.w0.output
 size:C.w0.heap.size<=w.heap.size
 ext:∀b,¬C.mine b->w.heap[b]? =C.w0.heap[b]?
 pin:∀i,i<100->x.bk i=C.β0 i
 lay:Lay C.G0
structure aL(C:Ctx)(x:Sit)(s:St)(a:Act)(w:World):Prop where
 tm:cn x s.tm a.tmps.toList
 defers:a.defers=[]
 heap:dq C x s.ob s.tk w
end Go.Sy
namespace Go.Sy
variable [aW]
inductive Arg where
 |t (n:Nat)
 |c (v:SV)
 |f (g:Nat)
inductive SOp where
 |mov (x:Arg)
 |pick (c a b:Arg)
 |new (o:aB)
 |box (x:Arg)
 |build (z:List SV) (ps:List (Nat×Nat×Arg))
 |lit (sz:Nat) (xs:List Arg)
 |litB (xs:List Arg)
 |load (n:Nat) (ag:Bool) (a:Arg)
 |store (n:Nat) (a x:Arg)
 |nchk (x:Arg)
 |bin (op:BinOp) (x y:Arg)
 |beq (ne:Bool) (x y:Arg)
 |un (op:UnOp) (x:Arg)
 |toInt (k:IntKind) (x:Arg)
 |toStr (x:Arg)
 |s2b (x:Arg)
 |b2s (x:Arg)
 |mkfn (f:Nat) (first cap:List Arg)
 |mk (z:List SV) (bytes:Nat) (len cap:Arg)
 |mkB (len cap:Arg)
 |slcS (x:Arg) (lo hi:Option Arg)
 |slcL (sz:Nat) (x:Arg) (lo hi mx:Option Arg)
 |slcA (len sz:Nat) (x:Arg) (lo hi mx:Option Arg)
 |faddr (off:Nat) (x:Arg)
 |fld (off n:Nat) (ag:Bool) (x:Arg)
 |iaddrL (sz:Nat) (x i:Arg)
 |iaddrA (len sz:Nat) (x i:Arg)
 |idxA (len sz:Nat) (ag:Bool) (x i:Arg)
 |idxS (x i:Arg)
 |ext (x:Arg) (i:Nat)
 |len (str:Bool) (x:Arg)
 |lenC (n:Nat)
 |cap (x:Arg)
 |app (z:List SV) (bytes:Nat) (x y:Arg)
 |appM (z:List SV) (bytes:Nat) (x k:Arg)
 |appO (z:List SV) (bytes:Nat) (x y:Arg)
 |eqS (ne:Bool) (ts:List Nat) (x y:Arg)
 |isnil (ne:Bool) (x:Arg)
 |isni (ne:Bool) (x:Arg)
 |slid (x:Arg)
 |newB (xs:List Arg)
 |ovl (x y:Arg)
 |cpy (sz:Nat) (x y:Arg)
 |clr (z:List SV) (x:Arg)
 |mini (x y:Arg)
 |maxi (x y:Arg)
 |call (f:Arg) (args:List Arg)
structure SI where
 dst:Option Nat
 g:Option (Nat×Bool)
 op:SOp
abbrev LAc:=List SI
inductive gS where
 |skip
 |ops (l:List SI)
 |drw (b ds:List Nat) (l:List SI)
 |seq (a b:gS)
 |cond (c:Arg) (a b:gS)
 |block (id:Nat) (b:gS)
 |loop (b:gS)
 |exit (id:Nat)
 |ret
 |bad
def St.get(s:St)(n:Nat):SV:=s.tm.getD n .undef
def St.ev(s:St):Arg->SV
 | .t n=>s.get n
 | .c v=>v
 | .f g=> .fn g [] []
def St.put(s:St)(d:t8)(v:SV):St:=
 match d with
 |some d=> {s with tm:=s.tm.set d v}
 |none=>s
def St.look(s:St)(o:Nat):Option aB:=s.ob.lookup o
def Tok.purge(lo hi:Nat):Tok->Tok
 | .id t=>if lo<=t/\t<hi then .no else .id t
 |t=>t
mutual
def SV.purge(lo hi:Nat):SV->SV
 | .byt l t=> .byt l (t.purge lo hi)
 | .lst h y t=> .lst h y (t.purge lo hi)
 | .ptr o off=>if lo<=o/\o<hi then .undef else .ptr o off
 | .ap o h i j=>if lo<=o/\o<hi then .undef else .ap o h i j
 | .psl o h off n cap=>if lo<=o/\o<hi then .undef else .psl o h off n cap
 | .agg cs=> .agg (SV.purgeL lo hi cs)
 | .tup cs=> .tup (SV.purgeL lo hi cs)
 | .fn f a b=> .fn f (SV.purgeL lo hi a) (SV.purgeL lo hi b)
 |v=>v
def SV.purgeL(lo hi:Nat):t6->t6
 |[]=> []
 |v::r=>v.purge lo hi::SV.purgeL lo hi r
end
def aB.purge(lo hi:Nat):aB->aB
 | .rc cs=> .rc (SV.purgeL lo hi cs)
 | .arr y h=> .arr y h
 | .bar l=> .bar l
def bq(lo hi:Nat):List (Nat×aB)->List (Nat×aB)
 |[]=> []
 |p::r=>if lo<=p.1/\p.1<hi then bq lo hi r else(p.1,p.2.purge lo hi)::bq lo hi r
def bV(lo hi:Nat):t7->t7
 |[]=> []
 |t::r=>if lo<=t/\t<hi then bV lo hi r else t::bV lo hi r
def St.purge(s:St)(lo hi:Nat):St:= {tm:=SV.purgeL lo hi s.tm,ob:=bq lo hi s.ob,tk:=bV lo hi s.tk}
def St.addO(s:St)(d:Nat)(o:aB):St:= {s with ob:=(d,o)::s.ob}
def setO(d:Nat)(o:aB):List (Nat×aB)->List (Nat×aB)
 |[]=> []
 |p::r=>if p.1=d then(d,o)::r else p::setO d o r
def St.setO(s:St)(d:Nat)(o:aB):St:= {s with ob:=Sy.setO d o s.ob}
def SV.data:SV->SV
 | .byt l _=> .byt l .no
 | .lst y h _=> .lst y h .no
 |v=>v
def SV.isData:SV->Bool
 | .bool _| .int _ _| .u8 _| .str _| .byt _ _| .lst _ _ _| .nilp| .nili| .ife| .pp _=>true
 |_=>false
def SV.cells:SV->t6
 | .agg cs=>cs
 | .undef=> []
 |v=> [v]
def SV.isDef:SV->Bool
 | .undef=>false
 |_=>true
def Pa(op:BinOp)(a b:Int):Option SV:=
 match op with
 | .eql=>some (.bool (decide (a=b)))
 | .neq=>some (.bool (decide (a≠b)))
 | .lss=>some (.bool (decide (a<b)))
 | .leq=>some (.bool (decide (a<=b)))
 | .gtr=>some (.bool (decide (b<a)))
 | .geq=>some (.bool (decide (b<=a)))
 |_=>none
def b9(op:BinOp)(k:IntKind)(x y:Int):Int:=
 let a:=BitVec.ofInt k.bits x
 let b:=BitVec.ofInt k.bits y
 k.wrap (match op with| .and=>a&&&b| .or=>a|||b| .xor=>a^^^b|_=>a&&& ~~~b:BitVec k.bits).toNat
def RX(op:BinOp)(k:IntKind)(a b:Int):Option (Prop×SV):=
 match op with
 | .add=>some (True,.int k (k.wrap (a+b)))
 | .sub=>some (True,.int k (k.wrap (a-b)))
 | .mul=>some (True,.int k (k.wrap (a*b)))
 | .quo=>some (b≠0,.int k (k.wrap (a.tdiv b)))
 | .rem=>some (b≠0,.int k (a.tmod b))
 | .and=>some (True,.int k (b9 .and k a b))
 | .or=>some (True,.int k (b9 .or k a b))
 | .xor=>some (True,.int k (b9 .xor k a b))
 | .andNot=>some (True,.int k (b9 .andNot k a b))
 | .shl| .shr=>none
 |op=>(Pa op a b).map fun v=>(True,v)
def DU(op:BinOp)(a b:UInt8):Option (Prop×SV):=
 match op with
 | .add=>some (True,.u8 (a+b))
 | .sub=>some (True,.u8 (a-b))
 | .mul=>some (True,.u8 (a*b))
 | .quo=>some (b≠0,.u8 (a/b))
 | .rem=>some (b≠0,.u8 (a % b))
 | .and=>some (True,.u8 (a&&&b))
 | .or=>some (True,.u8 (a|||b))
 | .xor=>some (True,.u8 (a^^^b))
 | .andNot=>some (True,.u8 (a&&& ~~~b))
 | .eql=>some (True,.bool (decide (a=b)))
 | .neq=>some (True,.bool (decide (a≠b)))
 | .lss=>some (True,.bool (decide (a<b)))
 | .leq=>some (True,.bool (decide (a<=b)))
 | .gtr=>some (True,.bool (decide (b<a)))
 | .geq=>some (True,.bool (decide (b<=a)))
 |_=>none
def u0(op:BinOp)(k:IntKind)(a b:Int):Option (Prop×SV):=
 match op with
 | .shl=>some (0<=b,.int k (k.wrap (a*2^(min b.toNat k.bits))))
 | .shr=>some (0<=b,.int k (a.fdiv (2^(min b.toNat k.bits))))
 |_=>none
def Tb(op:BinOp)(a:UInt8)(b:Int):Option (Prop×SV):=
 match op with
 | .shl=>some (0<=b,.u8 (aQ (a.toNat*2^(min b.toNat 8))))
 | .shr=>some (0<=b,.u8 (aQ (a.toNat/2^(min b.toNat 8))))
 |_=>none
def Tg(op:BinOp)(a b:d9):Option (Prop×SV):=
 match op with
 | .add=>some (a.length+b.length<=9223372036854775807,.str (a++b))
 | .eql=>some (True,.bool (decide (a=b)))
 | .neq=>some (True,.bool (decide (a≠b)))
 | .lss=>some (True,.bool (Op.bytesLess a b))
 | .leq=>some (True,.bool (Op.bytesLess a b||decide (a=b)))
 | .gtr=>some (True,.bool (!(Op.bytesLess a b||decide (a=b))))
 | .geq=>some (True,.bool (!Op.bytesLess a b))
 |_=>none
def yf(op:BinOp):SV->SV->Option (Prop×SV)
 | .int k a,.int k' b=>
  match op with
  | .shl=>u0 .shl k a b
  | .shr=>u0 .shr k a b
  |op=>if k=k' then RX op k a b else none
 | .u8 a,.int _ b=>Tb op a b
 | .u8 a,.u8 b=>DU op a b
 | .str a,.str b=>Tg op a b
 |_,_=>none
def wP(op:UnOp):SV->Option SV
 | .bool b=>match op with| .not=>some (.bool (!b))|_=>none
 | .int k n=>match op with
  | .neg=>some (.int k (k.wrap (0-n)))
  | .xor=>some (.int k (b9 .xor k (if k.signed then-1 else k.max) n))
  |_=>none
 |_=>none
def iM(k:IntKind):SV->Option SV
 | .int _ n=>match k with| .u8=>some (.u8 (dQ n))|k=>some (.int k (k.wrap n))
 | .u8 b=>match k with| .u8=>some (.u8 b)| .i8=>none|k=>some (.int k b.toNat)
 |_=>none
def ky(b:Bool):SV->t8
 | .str l=>if b then some l.length else none
 | .byt l _=>if b then none else some l.length
 | .lst _ h _=>if b then none else some h.length
 | .psl _ _ _ n _=>if b then none else some n
 |_=>none
def dP(h:Bool)(n:Nat)(cs:t6):SV:=if h then .agg (cs.take n)else cs.getD 0 .undef
def jn(s:St)(n:Nat)(y:Bool):SV->Option (Prop×SV)
 | .pp cs=>some (n<=cs.length,dP y n (cs.map SV.data))
 | .ptr o off=>match s.look o with
  |some (.rc cs)=>some (off+n<=cs.length,dP y n (cs.drop off))
  |some (.arr h xs)=>if off=0 then some (n<=xs.flatten.length/\(∀x∈xs,x.length=h),dP y n (xs.flatten.map SV.data))else none
  |some (.bar l)=>if off=0 then some (n<=l.length,dP y n (l.map .u8))else none
  |none=>none
 | .ap o h i j=>match s.look o with
  |some (.arr sz' xs)=>some (h=sz'/\i<xs.length/\j+n<=h/\(xs.getD i []).length=h,dP y n (((xs.getD i []).drop j).map SV.data))
  |some (.bar l)=>some (h=1/\j=0/\n=1/\i<l.length,dP y n [.u8 (l.getD i 0)])
  |some (.rc cs)=>some (i*h+j+n<=cs.length,dP y n (cs.drop (i*h+j)))
  |_=>none
 |_=>none
def SV.num:SV->Option Int
 | .int _ n=>some n
 | .u8 b=>some b.toNat
 |_=>none
def jl(s:St)(x:Option Arg)(h:Int):Option Int:=
 match x with
 |none=>some h
 |some a=>(s.ev a).num
def mE(t:Tok)(h clip:Bool):Tok:=if clip then .clip else if h then t else .no
def jX(s:St)(z:Nat)(x:SV)(lo hi y:Option Arg):Option (Prop×SV):=
 match x with
 | .byt l t=>
  match jl s lo 0,jl s hi l.length,jl s y l.length with
  |some a,some b,some c=>some (0<=a/\a<=b/\b<=c/\c<=l.length/\z=1/\(y.isSome=true->b=c),.byt ((l.take b.toNat).drop a.toNat) (mE t hi.isNone y.isSome))
  |_,_,_=>none
 | .lst h l t=>
  match jl s lo 0,jl s hi l.length,jl s y l.length with
  |some a,some b,some c=>some (0<=a/\a<=b/\b<=c/\c<=l.length/\z=h/\(y.isSome=true->b=c),.lst z ((l.take b.toNat).drop a.toNat) (mE t hi.isNone y.isSome))
  |_,_,_=>none
 | .psl o h off n none=>
  match jl s lo 0,jl s hi n,y with
  |some a,some b,none=>some (0<=a/\a<=b/\b<=n/\z=h,.psl o z (off+a.toNat) (b.toNat-a.toNat) none)
  |_,_,_=>none
 | .psl o h off n (some cap)=>
  match jl s lo 0,jl s hi n,jl s y cap with
  |some a,some b,some c=>some (0<=a/\a<=b/\b<=c/\c<=cap/\z=h,.psl o z (off+a.toNat) (b.toNat-a.toNat) (some (c.toNat-a.toNat)))
  |_,_,_=>none
 |_=>none
def jq(cs:t6):List (Nat×Nat×SV)->Option t6
 |[]=>some cs
 |(off,n,v)::r=>if v.isDef=true/\v.cells.length=n/\off+n<=cs.length then jq (cs.take off++v.cells++cs.drop (off+n)) r else none
def toB:t6->Option d9
 |[]=>some []
 | .u8 b::r=>(toB r).map (b:: ·)
 |_::_=>none
def rows(h:Nat):t6->Option d8
 |[]=>some []
 |v::r=>if v.isDef=true/\v.cells.length=h/\v.cells.all SV.isData=true then(rows h r).map (v.cells.map SV.data:: ·)else none
def yg(s:St):SV->Option (Prop×SV)
 | .byt l _=>some (True,.str l)
 | .psl o h off n _=>match s.look o with
  |some (.bar l)=>some (h=1/\off+n<=l.length,.str ((l.drop off).take n))
  |_=>none
 |_=>none
def u6:Nat->SV->SV->Option Bool
 |0,.bool a,.bool b=>some (decide (a=b))
 |1,.int k a,.int k' b=>if k=k' then some (decide (a=b))else none
 |1,.u8 a,.u8 b=>some (decide (a=b))
 |2,.str a,.str b=>some (decide (a=b))
 |_,_,_=>none
def il:t7->t6->t6->Option Bool
 |[],[],[]=>some true
 |t::ts,a::r,b::s=>match u6 t a b,il ts r s with
  |some p,some q=>some (p&&q)
  |_,_=>none
 |_,_,_=>none
def val(s:St):SOp->Option (Prop×SV)
 | .mov x=>some (True,s.ev x)
 | .build z L=>(jq z (L.map fun(o,n,x)=>(o,n,s.ev x))).map fun cs=>(True,.agg cs)
 | .lit h E=>(rows h (E.map s.ev)).map fun r=>(True,.lst h r .clip)
 | .litB E=>(toB (E.map s.ev)).map fun r=>(True,.byt r .clip)
 | .load n H a=>jn s n H (s.ev a)
 | .nchk x=>match s.ev x with
  | .ptr o off=>some (True,.ptr o off)
  | .ap o h i j=>some (True,.ap o h i j)
  | .pp cs=>some (True,.pp cs)
  | .fn f a b=>some (True,.fn f a b)
  |_=>none
 | .bin op x y=>yf op (s.ev x) (s.ev y)
 | .beq F x y=>match s.ev x,s.ev y with
  | .bool a,.bool b=>some (True,.bool (if F then decide (a≠b)else decide (a=b)))
  |_,_=>none
 | .eqS F J x y=>match s.ev x,s.ev y with
  | .agg cs,.agg ds=>(il J cs ds).map fun b=>(True,.bool (if F then !b else b))
  |_,_=>none
 | .un op x=>(wP op (s.ev x)).map (True,·)
 | .toInt k x=>(iM k (s.ev x)).map (True,·)
 | .toStr x=>match s.ev x with| .str l=>some (True,.str l)|_=>none
 | .slid _=>none
 | .newB _=>none
 | .isni F x=>match s.ev x with| .nili=>some (True,.bool (!F))| .ife=>some (True,.bool F)|_=>none
 | .s2b x=>match s.ev x with| .str l=>some (True,.byt l .no)|_=>none
 | .b2s x=>yg s (s.ev x)
 | .mkfn f a b=>some (True,.fn f (a.map s.ev) (b.map s.ev))
 | .slcS x lo hi=>match s.ev x with
  | .str l=>match jl s lo 0,jl s hi l.length with
   |some a,some b=>some (0<=a/\a<=b/\b<=l.length,.str ((l.take b.toNat).drop a.toNat))
   |_,_=>none
  |_=>none
 | .slcL h x lo hi I=>jX s h (s.ev x) lo hi I
 | .slcA len h x lo hi I=>match s.ev x with
  | .ptr o 0=>jX s h (.psl o h 0 len (some len)) lo hi I
  |_=>none
 | .faddr off x=>match s.ev x with
  | .ptr o k=>some (True,.ptr o (k+off))
  | .ap o h i j=>some (True,.ap o h i (j+off))
  | .pp cs=>some (True,.pp (cs.drop off))
  |_=>none
 | .fld off n H x=>match s.ev x with
  | .agg cs=>some (off+n<=cs.length,dP H n (cs.drop off))
  |_=>none
 | .iaddrL h x i=>match s.ev x,(s.ev i).num with
  | .byt l _,some n=>some (0<=n/\n<l.length/\h=1,.pp [.u8 (l.getD n.toNat 0)])
  | .lst sz' E _,some n=>some (0<=n/\n<E.length/\h=sz',.pp (E.getD n.toNat []))
  | .psl o sz' off k _,some n=>some (0<=n/\n<k/\h=sz',.ap o h (off+n.toNat) 0)
  |_,_=>none
 | .iaddrA len h x i=>match s.ev x,(s.ev i).num with
  | .ptr o off,some n=>match s.look o with
   |some (.rc _)=>some (0<=n/\n<len,.ptr o (off+n.toNat*h))
   |some _=>if off=0 then some (0<=n/\n<len,.ap o h n.toNat 0)else none
   |none=>none
  | .pp cs,some n=>some (0<=n/\n<len/\cs.length=len*h,.pp (cs.drop (n.toNat*h)))
  |_,_=>none
 | .idxA len h H x i=>match s.ev x,(s.ev i).num with
  | .agg cs,some n=>some (0<=n/\n<len/\cs.length=len*h,dP H h (cs.drop (n.toNat*h)))
  |_,_=>none
 | .idxS x i=>match s.ev x,(s.ev i).num with
  | .str l,some n=>some (0<=n/\n<l.length,.u8 (l.getD n.toNat 0))
  |_,_=>none
 | .ext x i=>match s.ev x with
  | .tup vs=>some (i<vs.length,vs.getD i .undef)
  |_=>none
 | .len b x=>match ky b (s.ev x)with
  |some n=>some (True,.int .i64 (n:Nat))
  |none=>none
 | .lenC n=>some (True,.int .i64 n)
 | .cap x=>match s.ev x with
  | .psl _ _ _ _ (some c)=>some (True,.int .i64 c)
  | .byt l .clip=>some (True,.int .i64 l.length)
  | .lst _ E .clip=>some (True,.int .i64 E.length)
  |_=>none
 | .mini x y=>match s.ev x,s.ev y with
  | .int k a,.int k' b=>if k=k' then some (True,.int k (if b<a then b else a))else none
  |_,_=>none
 | .maxi x y=>match s.ev x,s.ev y with
  | .int k a,.int k' b=>if k=k' then some (True,.int k (if a<b then b else a))else none
  |_,_=>none
 |_=>none
end Go.Sy
namespace Go.Sy
variable [aW]
def Tok.ren(m:Nat->Nat):Tok->Tok
 | .id t=> .id (m t)
 |t=>t
mutual
def SV.ren(m mt:Nat->Nat):SV->SV
 | .byt l t=> .byt l (t.ren mt)
 | .lst h y t=> .lst h y (t.ren mt)
 | .ptr o off=> .ptr (m o) off
 | .ap o h i j=> .ap (m o) h i j
 | .psl o h off n cap=> .psl (m o) h off n cap
 | .agg cs=> .agg (SV.renL m mt cs)
 | .tup cs=> .tup (SV.renL m mt cs)
 | .fn f a b=> .fn f (SV.renL m mt a) (SV.renL m mt b)
 |v=>v
def SV.renL(m mt:Nat->Nat):t6->t6
 |[]=> []
 |v::r=>v.ren m mt::SV.renL m mt r
end
def aB.ren(m mt:Nat->Nat):aB->aB
 | .rc cs=> .rc (SV.renL m mt cs)
 |o=>o
mutual
def SV.toks:SV->t7
 | .byt _ t=>match t with| .id t=> [t]|_=> []
 | .lst _ _ t=>match t with| .id t=> [t]|_=> []
 | .agg cs=>SV.toksL cs
 | .tup cs=>SV.toksL cs
 | .fn _ a b=>SV.toksL a++SV.toksL b
 |_=> []
def SV.toksL:t6->t7
 |[]=> []
 |v::r=>v.toks++SV.toksL r
end
mutual
def SV.ids:SV->t7
 | .ptr o _=> [o]
 | .ap o _ _ _=> [o]
 | .psl o _ _ _ _=> [o]
 | .agg cs=>SV.idsL cs
 | .tup cs=>SV.idsL cs
 | .fn _ a b=>SV.idsL a++SV.idsL b
 |_=> []
def SV.idsL:t6->t7
 |[]=> []
 |v::r=>v.ids++SV.idsL r
end
def aB.ids:aB->t7
 | .rc cs=>SV.idsL cs
 |_=> []
def aB.toks:aB->t7
 | .rc cs=>SV.toksL cs
 |_=> []
def idx(os:List aB):List (Nat×aB):=os.zipIdx.map fun p=>(p.2,p.1)
def eX(P:Program)(f:Nat):Bool:=
 match P.funcs[f]? with
 |some fn=>fn.body.isSome&& !(fn.name== "runtime.NumGoroutine")
 |none=>false
def xoa(P:Program)(f:Nat)(args:t6)(os:List aB)(R:SV->List (Nat×aB)->Prop):Prop:=
 eX P f=true/\∀(C:Ctx)(x:Sit)(w:World)(vs:LAa),C.w0=w->C.G0=x.G->
  (∀b,C.mine b->w.heap.size<=b\/∃i,i<os.length/\(x.bk i).1=b)->os.length<=100->
  dq C x (idx os) [] w->cn x args vs->
  Calls P f ⟨vs⟩ w fun e w'=>∃v x' r h,e= .returned v/\R r h/\Rep x' r v/\dq C x' h r.toks w'/\∀i,i<os.length->x'.bk i=x.bk i
def Fn(P:Program)(f:Nat)(args:t6)(r:SV):Prop:=xoa P f args [] fun y h=>y=r/\h=[]
def jt(d:Nat)(m:t7)(o:Nat):Nat:=if o<m.length then m.getD o 0 else(d+1)*1000+o
def kX(d:Nat)(t:Nat):Nat:=(d+1)*1000+t
def inR(d:Nat)(o:Nat):Bool:=decide ((d+1)*1000<=o)&&decide (o<(d+2)*1000)
def fT(m:t7):List (Nat×aB)->List (Nat×aB)
 |[]=> []
 |p::r=>if p.1∈m then fT m r else p::fT m r
def py(d:Nat)(m:t7):List (Nat×aB)->List (Nat×aB)
 |[]=> []
 |p::r=>(jt d m p.1,p.2.ren (jt d m) (kX d))::py d m r
def St.after(s:St)(d:t8)(m:t7)(r:SV)(os:List (Nat×aB)):St:=
 St.put {
  tm:=SV.purgeL ((d.getD 0+1)*1000) ((d.getD 0+2)*1000) s.tm
  ob:=py (d.getD 0) m os++fT m (bq ((d.getD 0+1)*1000) ((d.getD 0+2)*1000) s.ob)
  tk:=r.toks.map (kX (d.getD 0))++bV ((d.getD 0+1)*1000) ((d.getD 0+2)*1000) s.tk}
  d (r.ren (jt (d.getD 0) m) (kX (d.getD 0)))
structure Eff where
 pre:Prop
 val:SV
 wr:List (Nat×aB):=[]
 new:Option aB:=none
 eat:Tok:= .no
 tok:Bool:=false
def iJ(y:Nat)(h:d8)(i j n:Nat)(v:t6):d8:=
 if j=0/\n=y then h.set i v else h.set i (((h.getD i []).take j)++v++((h.getD i []).drop (j+n)))
def ig(cs:t6)(off:Nat)(v:t6):t6:=
 match v with
 |[u]=>cs.set off u
 |v=>cs.take off++v++cs.drop (off+v.length)
def SV.one:SV->Bool
 | .undef| .agg _| .tup _=>false
 |_=>true
def ki(h:Nat):Nat->t6->d8
 |0,_=> []
 |m+1,v=>v.take h::ki h m (v.drop h)
def rg(s:St)(n:Nat)(v:t6):SV->Option Eff
 | .ptr o off=>match s.look o with
  |some (.rc cs)=>some {pre:=off+n<=cs.length/\v.length=n/\v.all SV.one=true,val:= .undef,wr:=[(o,.rc (ig cs off v))]}
  |some (.arr h xs)=>some {pre:=off=0/\n=xs.length*h/\v.length=n/\v.all SV.isData=true,val:= .undef,wr:=[(o,.arr h (ki h xs.length (v.map SV.data)))]}
  |some (.bar l)=>match toB v with
   |some y=>some {pre:=off=0/\n=l.length/\y.length=n,val:= .undef,wr:=[(o,.bar y)]}
   |none=>none
  |_=>none
 | .ap o h i j=>match s.look o with
  |some (.arr sz' xs)=>some {pre:=h=sz'/\i<xs.length/\j+n<=h/\v.length=n/\(∀x∈xs,x.length=h)/\v.all SV.isData=true,val:= .undef,wr:=[(o,.arr sz' (iJ h xs i j n (v.map SV.data)))]}
  |some (.bar l)=>match v with
   |[.u8 b]=>some {pre:=h=1/\j=0/\n=1/\i<l.length,val:= .undef,wr:=[(o,.bar (l.set i b))]}
   |_=>none
  |_=>none
 |_=>none
def Tok.ready(s:St):Tok->Bool
 | .no=>false
 | .clip=>true
 | .id t=>s.tk.contains t
def Tok.eat(t:Tok)(tk:t7):t7:=
 match t with
 | .id t=>bV t (t+1) tk
 |_=>tk
def bytesOf(s:St):SV->Option (Prop×d9)
 | .byt l _=>some (True,l)
 | .str l=>some (True,l)
 | .psl o h off n _=>match s.look o with
  |some (.bar l)=>some (h=1/\off+n<=l.length,(l.drop off).take n)
  |_=>none
 |_=>none
def kx(s:St)(z:Nat):SV->Option (Prop×d8)
 | .lst h y _=>some (z=h,y)
 | .psl o h off n _=>match s.look o with
  |some (.arr sz'' y)=>some (z=h/\z=sz''/\off+n<=y.length/\(∀x∈y,x.length=z),((y.drop off).take n))
  |_=>none
 |_=>none
def eff(s:St)(d:t8):SOp->Option Eff
 | .new o=>match d with
  |some d=>some {pre:=True,val:= .ptr (d+100) 0,new:=some o}
  |none=>none
 | .box x=>match d with
  |some d=>some {pre:=True,val:= .ptr (d+100) 0,new:=some (.rc (s.ev x).cells)}
  |none=>none
 | .mk z bytes n c=>match d,s.ev n,s.ev c with
  |some d,.int _ n,.int _ c=>some {pre:=0<=n/\n<=c/\bytes*c<=140737488355328/\c<=9223372036854775807,val:= .psl (d+100) z.length 0 n.toNat (some c.toNat),new:=some (.arr z.length (aJ c.toNat z))}
  |_,_,_=>none
 | .mkB n c=>match d,s.ev n,s.ev c with
  |some d,.int _ n,.int _ c=>some {pre:=0<=n/\n<=c/\c<=140737488355328,val:= .psl (d+100) 1 0 n.toNat (some c.toNat),new:=some (.bar (aJ c.toNat 0))}
  |_,_,_=>none
 | .store n a x=>match (s.ev x).isDef with
  |true=>rg s n (s.ev x).cells (s.ev a)
  |false=>none
 | .app z bytes x y=>match d with
  |some d=>match s.ev x with
   | .byt l t=>match bytesOf s (s.ev y)with
    |some (p,l')=>some {pre:=p/\z.length=1/\bytes=1/\t.ready s=true/\l.length+l'.length<=140737488355328,val:= .byt (l++l') (.id (d+100)),eat:=t,tok:=true}
    |none=>none
   | .lst h l t=>match kx s z.length (s.ev y)with
    |some (p,l')=>some {pre:=p/\z.length=h/\t.ready s=true/\(l.length+l'.length)*bytes<=140737488355328,val:= .lst z.length (l++l') (.id (d+100)),eat:=t,tok:=true}
    |none=>none
   |_=>none
  |none=>none
 | .cpy E x y=>match s.ev x with
  | .psl o h off n _=>match s.look o with
   |some (.bar l)=>match bytesOf s (s.ev y)with
    |some (p,l')=>some {pre:=p/\E=1/\h=1/\off+n<=l.length,val:= .int .i64 (min l'.length n:Nat),wr:=[(o,.bar (l.take off++l'.take n++l.drop (off+(l'.take n).length)))]}
    |none=>none
   |some (.arr sz'' xs)=>match kx s E (s.ev y)with
    |some (p,l')=>some {pre:=p/\E=h/\E=sz''/\off+n<=xs.length/\(∀x∈xs,x.length=E),val:= .int .i64 (min l'.length n:Nat),wr:=[(o,.arr E (xs.take off++l'.take n++xs.drop (off+(l'.take n).length)))]}
    |none=>none
   |_=>none
  |_=>none
 | .pick _ _ _=>none
 | .call _ _=>none
 | .appM _ _ _ _=>none
 | .appO _ _ _ _=>none
 | .clr z x=>match s.ev x with
  | .psl o h off n _=>match s.look o with
   |some (.arr sz'' xs)=>some {pre:=0<n/\z.length=h/\z.length=sz''/\off+n<=xs.length/\(∀x∈xs,x.length=z.length),val:= .tup [],wr:=[(o,.arr z.length (xs.take off++aJ n z++xs.drop (off+n)))]}
   |_=>none
  |_=>none
 | .isnil _ _=>none
 |so=>match val s so with
  |some (p,v)=>some {pre:=p,val:=v}
  |none=>none
def St.wr(s:St):List (Nat×aB)->St
 |[]=>s
 |p::r=>(s.setO p.1 p.2).wr r
def St.grew(s:St)(t:Tok)(d:Nat):St:=
 {tm:=SV.purgeL d (d+1) s.tm,ob:=bq d (d+1) s.ob,tk:=d::bV d (d+1) (t.eat s.tk)}
def St.app(s:St)(d:t8)(e:Eff):St:=
 match e.new,e.tok with
 |some o,_=>((s.purge (d.getD 0+100) (d.getD 0+100+1)).addO (d.getD 0+100) (o.purge (d.getD 0+100) (d.getD 0+100+1))).put d e.val
 |none,true=>(s.grew e.eat (d.getD 0+100)).put d e.val
 |none,false=>(s.wr e.wr).put d e.val
def Tok.ids:Tok->t7
 | .id t=> [t]
 |_=> []
def SOp.args:SOp->List Arg
 | .mov x| .box x| .load _ _ x| .nchk x| .un _ x| .toInt _ x| .toStr x| .s2b x| .b2s x| .faddr _ x| .fld _ _ _ x| .ext x _| .len _ x| .cap x| .isnil _ x| .isni _ x| .slid x| .clr _ x=> [x]
 | .pick c a b=> [c,a,b]
 | .new _| .lenC _=> []
 | .build _ z=>z.map fun p=>p.2.2
 | .lit _ h| .litB h| .newB h=>h
 | .store _ a b| .bin _ a b| .beq _ a b| .mk _ _ a b| .mkB a b| .iaddrL _ a b| .iaddrA _ _ a b| .idxA _ _ _ a b| .idxS a b| .app _ _ a b| .appM _ _ a b| .appO _ _ a b| .eqS _ _ a b| .ovl a b| .cpy _ a b| .mini a b| .maxi a b=> [a,b]
 | .mkfn _ a b=>a++b
 | .slcS x lo hi=>x::(lo.toList++hi.toList)
 | .slcL _ x lo hi y| .slcA _ _ x lo hi y=>x::(lo.toList++hi.toList++y.toList)
 | .call f a_=>f::a_
structure xeP where
 r:List Nat
 w:List Nat
 t:List Nat
 n:List Nat
 m:List Nat
 l:List Nat
def SV.names(v:SV):t7:=v.ids++v.toks
def aB.names(o:aB):t7:=o.ids++o.toks
def Nw:List (Nat×aB)->t7
 |[]=> []
 |p::r=>p.2.names++Nw r
def Eff.names(e:Eff):t7:=e.val.names++Nw e.wr++(match e.new with|some o=>o.names|none=> [])
def xgN(a b:t7):Bool:=a.any b.contains
def xeP.before(a b:xeP):Bool:= !xgN b.n (a.r++a.w++a.t++a.m++a.n)
end Go.Sy
namespace Go.Sy
variable [aW]
theorem cy.mono{G J:GM}(H:∀b o v,G b o=some v->J b o=some v){s:SV}{v:Value}(h:cy G s v):cy J s v:=by
 induction h with
 |bool b=>exact .bool b
 |int k n=>exact .int k n
 |u8 b=>exact .u8 b
 |str l=>exact .str l
 |nilp=>exact .nilp
 |nili=>exact .nili
 |ife t v=>exact .ife t v
 |bytN t=>exact .bytN t
 |bytE t a=>exact .bytE t a
 |byt l t b off cap n hn I h=>exact .byt l t b off cap n hn I fun i hi=>H _ _ _ (h i hi)
 |lstN z t=>exact .lstN z t
 |lstE z t a=>exact .lstE z t a
 |lst z L t b off cap n val hn I O E _ F=>exact .lst z L t b off cap n val hn I O (fun i j hi y=>H _ _ _ (E i j hi y)) fun i j hi y=>F i j hi y
 |pp cs b off val E _ F=>exact .pp cs b off val (fun j y=>H _ _ _ (E j y)) fun j y=>F j y
theorem Lay.mono{G y:GM}(h:Lay G)(z:∀b o v,G b o=some v->y b o=some v):Lay y:=fun g cs I j E=>by obtain⟨v,F,H⟩:=h g cs I j E;exact⟨v,z _ _ _ F,H.mono z⟩
theorem dV(lo hi:Nat)(cs:t6):SV.purgeL lo hi cs=cs.map (SV.purge lo hi):=by
 induction cs with
 |nil=>simp[SV.purgeL]
 |cons c r h=>simp[SV.purgeL,h]
theorem fP(m mt:Nat->Nat)(cs:t6):SV.renL m mt cs=cs.map (SV.ren m mt):=by
 induction cs with
 |nil=>simp[SV.renL]
 |cons c r h=>simp[SV.renL,h]
theorem aY(f:SV->SV)(h:f .undef= .undef)(cs:t6)(i:Nat):(cs.map f).getD i .undef=f (cs.getD i .undef):=by simp only[aa,aN];cases cs[i]? <;>simp[h]
@[simp] theorem purge_undef (lo hi:Nat):SV.purge lo hi .undef= .undef:=by simp[SV.purge]
@[simp] theorem ren_undef (m mt:Nat->Nat):SV.ren m mt .undef= .undef:=by simp[SV.ren]
theorem cy.tok{G:GM}{s:SV}{v:Value}(h:cy G s v)(s':SV)
 (I:(∃l t y,s= .byt l t/\s'= .byt l y)\/(∃E z t y,s= .lst E z t/\s'= .lst E z y)):cy G s' v:=by
 rcases I with⟨l,t,y,rfl,rfl⟩|⟨E,z,t,y,rfl,rfl⟩
 ·cases h with
  |bytN=>exact .bytN _
  |bytE _ a=>exact .bytE _ a
  |byt _ _ b off cap n hn F h=>exact .byt _ _ b off cap n hn F h
 ·cases h with
  |lstN=>exact .lstN _ _
  |lstE _ _ a=>exact .lstE _ _ a
  |lst _ _ _ b off cap n val hn F J H h=>exact .lst _ _ _ b off cap n val hn F J H h
theorem dM.mono{x x':Sit}{lo hi y:Nat}{t:Tok}{v:Value}(z:∀o,¬(lo<=o/\o<hi)->x'.τ o=x.τ o)(h:dM x y t v):dM x' y (t.purge lo hi) v:=by
 cases t with
 |no=>trivial
 |clip=>exact h
 |id t=>
  simp only[Tok.purge];split
  ·trivial
  ·rename_i hn
   obtain⟨a,n,cap,hv,F⟩:=h;refine⟨a,n,cap,hv,F.imp id ?_⟩;rintro⟨b,off,E,H⟩;exact⟨b,off,E,by rw[z _ hn];exact H⟩
theorem Rep.mono{x x':Sit}{lo hi:Nat}(hG:∀b o v,x.G b o=some v->x'.G b o=some v)(hβ:∀o,¬(lo<=o/\o<hi)->x'.bk o=x.bk o)
 (hτ:∀o,¬(lo<=o/\o<hi)->x'.τ o=x.τ o) {s:SV} {v:Value} (h:Rep x s v):Rep x' (s.purge lo hi) v:=by
 induction h with
 |undef v=>simp only[purge_undef];exact .undef v
 |dat s v h ht=>
  have y:=h.mono hG;cases s with
  |byt l t=>simp only[SV.purge];exact .dat _ _ (y.tok _ (.inl ⟨l,t,_,rfl,rfl⟩)) (dM.mono hτ ht)
  |lst z xs t=>simp only[SV.purge];exact .dat _ _ (y.tok _ (.inr ⟨z,xs,t,_,rfl,rfl⟩)) (dM.mono hτ ht)
  |undef=>simp only[SV.purge];exact .undef v
  |bool b=>simp only[SV.purge];exact .dat _ _ y trivial
  |int k n=>simp only[SV.purge];exact .dat _ _ y trivial
  |u8 b=>simp only[SV.purge];exact .dat _ _ y trivial
  |str l=>simp only[SV.purge];exact .dat _ _ y trivial
  |nilp=>simp only[SV.purge];exact .dat _ _ y trivial
  |nili=>simp only[SV.purge];exact .dat _ _ y trivial
  |ife=>simp only[SV.purge];exact .dat _ _ y trivial
  |pp cs=>simp only[SV.purge];exact .dat _ _ y trivial
  |ptr o off=>cases h
  |ap o z i j=>cases h
  |psl o z off n cap=>cases h
  |agg cs=>cases h
  |tup cs=>cases h
  |fn f a b=>cases h
 |ptr o off=>
  simp only[SV.purge];split
  ·exact .undef _
  ·rename_i hn;rw[<-hβ o hn];exact .ptr o off
 |ap o z i j=>
  simp only[SV.purge];split
  ·exact .undef _
  ·rename_i hn;rw[<-hβ o hn];exact .ap o z i j
 |psl o z off n cap H F h L Q E=>
  simp only[SV.purge];split
  ·exact .undef _
  ·rename_i hn;rw[<-hβ o hn]at E ⊢;exact .psl o z off n cap H F h L Q E
 |agg cs vs Z _ J=>simp only[SV.purge,dV];exact .agg _ _ (by simpa using Z) fun i hi=>by rw[aY _ (by simp)];exact J i (by simpa using hi)
 |tup cs vs Z _ J=>simp only[SV.purge,dV];exact .tup _ _ (by simpa using Z) fun i hi=>by rw[aY _ (by simp)];exact J i (by simpa using hi)
 |fn f c1 c2 v1 v2 O _ T _ W I=>
  simp only[SV.purge,dV]
  exact .fn _ _ _ _ _ (by simpa using O) (fun i hi=>by rw[aY _ (by simp)];exact W i (by simpa using hi))
   (by simpa using T) fun i hi=>by rw[aY _ (by simp)];exact I i (by simpa using hi)
theorem BX(s:SV):s.purge 0 0=s:=by
 have h:∀t:Tok,t.purge 0 0=t:=fun t=>by cases t<;>simp[Tok.purge]
 refine SV.rec (motive_1:=fun s=>s.purge 0 0=s) (motive_2:=fun _=>True) (motive_3:=fun l=>SV.purgeL 0 0 l=l) ?_ ?_ ?_ ?_ ?_ ?_ ?_ ?_ ?_ ?_ ?_ ?_ ?_ ?_ ?_ ?_ ?_ ?_ ?_ ?_ ?_ s<;>
  intros<;>simp_all [SV.purge,SV.purgeL]
theorem Fw(l:t6):SV.purgeL 0 0 l=l:=by
 rw[dV];induction l with
 |nil=>rfl
 |cons c r h=>simp[BX,h]
theorem Fv(l:List (Nat×aB)):bq 0 0 l=l:=by
 induction l with
 |nil=>rfl
 |cons q r h=>simp only[bq];rw[if_neg (by omega),h];obtain⟨n,o⟩:=q;cases o<;>simp[aB.purge,Fw]
theorem Rep.grow{x x':Sit}(F:∀b o v,x.G b o=some v->x'.G b o=some v)(E:x'.bk=x.bk)(z:x'.τ=x.τ){s:SV}{v:Value}(h:Rep x s v):Rep x' s v:=by have y:=h.mono (x':=x') (lo:=0) (hi:=0) F (fun o _=>by rw[E]) (fun o _=>by rw[z]);rwa[BX]at y
theorem cn.mono{x x':Sit}{lo hi:Nat}(E:∀b o v,x.G b o=some v->x'.G b o=some v)(z:∀o,¬(lo<=o/\o<hi)->x'.bk o=x.bk o)
 (y:∀o,¬(lo<=o/\o<hi)->x'.τ o=x.τ o) {cs:t6} {vs:LAa} (h:cn x cs vs):cn x' (SV.purgeL lo hi cs) vs:=by
 refine⟨by rw[dV];simpa using h.1,fun i hi=> ?_⟩;rw[dV,aY _ (by simp)];exact(h.2 i (by rw[dV]at hi;simpa using hi)).mono E z y
theorem cn.grow{x x':Sit}(E:∀b o v,x.G b o=some v->x'.G b o=some v)(z:x'.bk=x.bk)(y:x'.τ=x.τ){cs:t6}{vs:LAa}(h:cn x cs vs):cn x' cs vs:=
 ⟨h.1,fun i hi=>(h.2 i hi).grow E z y⟩
theorem Rep.data{x:Sit}{s:SV}{v:Value}(h:Rep x s v)(y:s.isData=true):cy x.G s v:=by
 cases h with
 |dat _ _ h _=>exact h
 |_=>simp[SV.isData]at y
theorem cy.rep{x:Sit}{s:SV}{v:Value}(h:cy x.G s v):Rep x s.data v:=by
 cases h with
 |byt l t b off cap n hn z h=>exact .dat _ _ (.byt l _ b off cap n hn z h) trivial
 |bytN t=>exact .dat _ _ (.bytN _) trivial
 |bytE t a=>exact .dat _ _ (.bytE _ a) trivial
 |lstN E t=>exact .dat _ _ (.lstN _ _) trivial
 |lstE E t a=>exact .dat _ _ (.lstE _ _ a) trivial
 |lst E H t b off cap n val hn z F y h=>exact .dat _ _ (.lst _ _ _ b off cap n val hn z F y h) trivial
 |bool b=>exact .dat _ _ (.bool b) trivial
 |int k n=>exact .dat _ _ (.int k n) trivial
 |u8 b=>exact .dat _ _ (.u8 b) trivial
 |str l=>exact .dat _ _ (.str l) trivial
 |nilp=>exact .dat _ _ .nilp trivial
 |nili=>exact .dat _ _ .nili trivial
 |ife t v=>exact .dat _ _ (.ife t v) trivial
 |pp cs b off val y h=>exact .dat _ _ (.pp cs b off val y h) trivial
theorem cy.toData{G:GM}{s:SV}{v:Value}(h:cy G s v):cy G s.data v:=by
 cases h with
 |byt l t b off cap n hn z h=>exact .byt l _ b off cap n hn z h
 |bytN t=>exact .bytN _
 |bytE t a=>exact .bytE _ a
 |lstN E t=>exact .lstN _ _
 |lstE E t a=>exact .lstE _ _ a
 |lst E H t b off cap n val hn z F y h=>exact .lst _ _ _ b off cap n val hn z F y h
 |bool b=>exact .bool b
 |int k n=>exact .int k n
 |u8 b=>exact .u8 b
 |str l=>exact .str l
 |nilp=>exact .nilp
 |nili=>exact .nili
 |ife t v=>exact .ife t v
 |pp cs b off val y h=>exact .pp cs b off val y h
theorem cG{lo hi:Nat}{ob:List (Nat×aB)}{p:Nat×aB}(h:p∈bq lo hi ob):
 ¬(lo<=p.1/\p.1<hi)/\∃o,(p.1,o)∈ob/\p.2=o.purge lo hi:=by
 induction ob with
 |nil=>simp[bq]at h
 |cons q r F=>
  simp only[bq]at h;split at h
  ·obtain⟨z,o,y,E⟩:=F h;exact⟨z,o,af _ y,E⟩
  ·rename_i H
   rcases al.1 h with rfl|h
   ·exact⟨H,q.2,aq ..,rfl⟩
   ·obtain⟨z,o,y,E⟩:=F h;exact⟨z,o,af _ y,E⟩
theorem fy{lo hi:Nat}(ob:List (Nat×aB)):(bq lo hi ob).map cI=(ob.map cI).filter fun o=>decide (¬(lo<=o/\o<hi)):=by
 induction ob with
 |nil=>simp[bq]
 |cons q r y=>
  simp only[bq,aG,lG];split<;>rename_i h
  ·rw[y,if_neg (by simp;omega)]
  ·rw[if_pos (by simp;omega),aG,y]
theorem bF{lo hi t:Nat}{tk:t7}:t∈bV lo hi tk↔t∈tk/\¬(lo<=t/\t<hi):=by
 induction tk with
 |nil=>simp[bV]
 |cons u r h=>
  simp only[bV];split<;>rename_i hu
  ·rw[h,al];constructor
   ·rintro⟨a,b⟩;exact⟨.inr a,b⟩
   ·rintro⟨a|a,b⟩
    ·subst a;exact absurd hu b
    ·exact⟨a,b⟩
  ·rw[al,h,al];constructor
   ·rintro(rfl|⟨a,b⟩)
    ·exact⟨.inl rfl,hu⟩
    ·exact⟨.inr a,b⟩
   ·rintro⟨a|a,b⟩
    ·exact .inl a
    ·exact .inr ⟨a,b⟩
end Go.Sy
namespace Go.Sy
variable [aW]
theorem xQ{w:World}{b:Nat}{o:Obj}(h:w.heap[b]? =some o):b<w.heap.size:=by
 rcases bP b w.heap.size with y|y
 ·exact y
 ·simp[Array.getElem?_eq_none y]at h
theorem ed{w:World}{o:Obj}{b:Nat}(h:b<w.heap.size):(w.alloc o).heap[b]? =w.heap[b]? :=by show(w.heap.push o)[b]? =_;rw[Array.getElem?_push,if_neg (by omega)]
theorem dN{w:World}{o:Obj}:(w.alloc o).heap[w.heap.size]? =some o:=by show(w.heap.push o)[w.heap.size]? =_;rw[Array.getElem?_push,if_pos rfl]
theorem fM.lt{w:World}{b:Nat}{c:LAb}{e:TypeId}{fl fh:Nat}(h:fM w b c e fl fh):b<w.heap.size:=xQ h.1
theorem fM.of_heap{w w':World}{b:Nat}{c:LAb}{e:TypeId}{fl fh:Nat}(h:fM w b c e fl fh)(y:w'.heap[b]? =w.heap[b]?):fM w' b c e fl fh:=⟨y.trans h.1,h.2⟩
theorem dJ{w w':World}{b o:Nat}(h:w'.heap[b]? =w.heap[b]?):w'.cell? ⟨b,o,none⟩=w.cell? ⟨b,o,none⟩:=by simp only[World.cell?,h]
theorem fM.cell{w:World}{b:Nat}{c:LAb}{e:TypeId}{fl fh:Nat}(h:fM w b c e fl fh)(o:Nat):w.cell? ⟨b,o,none⟩=c[o]? :=by simp[World.cell?,h.1]
theorem fM.free{w:World}{b:Nat}{c:LAb}{e:TypeId}{fl fh:Nat}(h:fM w b c e fl fh){o:Nat}(y:o<c.size):w.frozen? ⟨b,o,none⟩=false:=by simp only[World.frozen?,h.1];have:=h.2 o y;simpa using this
theorem dq.ltG{C:Ctx}{x:Sit}{ob:List (Nat×aB)}{tk:t7}{w:World}(h:dq C x ob tk w){b o:Nat}{v:Value}(y:x.G b o=some v):b<w.heap.size:=by have:=h.per b o v y;exact World.block_lt_of_cell? (w:=w) (a:=⟨b,o,none⟩) this
theorem eu.of_heap{x x':Sit}{w w':World}{o:Nat}{obj:aB}{lo hi:Nat}(h:eu x w o obj)(L:w'.heap[(x.bk o).1]? =w.heap[(x.bk o).1]?)
 (z:∀b o v,x.G b o=some v->x'.G b o=some v) (I:∀o,¬(lo<=o/\o<hi)->x'.bk o=x.bk o) (Q:∀o,¬(lo<=o/\o<hi)->x'.τ o=x.τ o)
 (J:¬(lo<=o/\o<hi)):eu x' w' o (obj.purge lo hi):=by
 obtain⟨c,e,fl,fh,T,⟨O,E,y⟩,F⟩:=h;refine⟨c,e,fl,fh,by rw[I o J];exact T.of_heap L,⟨?_,by rw[I o J];exact E,by cases obj<;>exact y⟩, ?_⟩
 ·cases obj<;>simpa[aB.purge,aB.size,dV]using O
 ·intro k H
  cases obj with
  |rc cs=>simp only[aB.purge,cx,dV];rw[aY _ (by simp)];exact(F k (by simpa[aB.purge,aB.size,dV]using H)).mono z I Q
  |arr Z W=>exact(F k H).mono z
  |bar l=>exact(F k H).mono z
theorem dq.congr{C:Ctx}{x:Sit}{ob:List (Nat×aB)}{tk:t7}{w w':World}(h:dq C x ob tk w)(z:w'.heap=w.heap)(L:w'.os=w.os)(F:w'.tape=w.tape)
 (y:w'.output=w.output):dq C x ob tk w':=by
 have J:∀a,w'.cell? a=w.cell? a:=fun a=>by simp only[World.cell?,z]
 refine⟨fun b o v hv=>by rw[J];exact h.per b o v hv,h.g0,h.gm,h.new, ?_,h.nd,h.inj, ?_,h.tko,h.tkd,L.trans h.os,F.trans h.tape,y.trans h.output,by rw[z];exact h.size,fun b I=>by rw[z];exact h.ext b I,h.pin,h.lay⟩
 ·intro p H
  obtain⟨⟨c,e,fl,fh,E,r⟩,q⟩:=h.obs p H;exact⟨⟨c,e,fl,fh,E.of_heap (by rw[z]),r⟩,q⟩
 ·intro t F
  exact(h.tks t F).imp id fun⟨⟨c,e,fl,fh,E,r⟩,q⟩=>⟨⟨c,e,fl,fh,E.of_heap (by rw[z]),r⟩,q⟩
theorem dq.drew{C:Ctx}{x:Sit}{ob:List (Nat×aB)}{tk:t7}{w:World}(h:dq C x ob tk w):dq C x ob tk w.drew:=h.congr rfl rfl rfl rfl
theorem dq.drawn{C:Ctx}{x:Sit}{ob:List (Nat×aB)}{tk:t7}{w:World}(h:dq C x ob tk w)(n:Nat):dq C x ob tk {w with drawn:=n}:=h.congr rfl rfl rfl rfl
def Sit.newO(x:Sit)(d b:Nat)(k:Nat:=0):Sit:= {x with bk:=fun o=>if o=d then(b,k)else x.bk o}
theorem Sit.newO_ne(x:Sit)(d b:Nat){k:Nat}(o:Nat)(h:¬(d<=o/\o<d+1)):(x.newO d b k).bk o=x.bk o:=if_neg (by omega)
theorem dq.allocO{C:Ctx}{x:Sit}{ob:List (Nat×aB)}{tk:t7}{w:World}(h:dq C x ob tk w)(d:Nat)(a8:100<=d){c:LAb}{e:TypeId}{fl fh:Nat}(obj:aB)
 (hf:∀i,i<c.size->¬(fl<=i/\i<fh)) (hs:obj.size<=c.size) (hr:∀k,k<obj.size->cx x obj k (c.getD k undef)) {K:Nat} (hK:K<=c.size) (a7:obj.arrB=true->¬(fl<=c.size/\c.size<fh)):
 dq C (x.newO d w.heap.size K) ((d,obj.purge d (d+1))::bq d (d+1) ob) (bV d (d+1) tk) (w.alloc (.cells c e (fl,fh))):=by
 have hβ:=Sit.newO_ne x d w.heap.size (k:=K)
 have a1:∀off,x.G w.heap.size off=none:=by
  intro off;cases hg:x.G w.heap.size off with
  |none=>rfl
  |some v=>exact absurd (h.ltG hg) (by omega)
 have E:∀p∈bq d (d+1) ob,p.1≠d/\(x.newO d w.heap.size K).bk p.1=x.bk p.1/\(x.bk p.1).1<w.heap.size:=by intro p z;obtain⟨h1,o,I,_⟩:=cG z;obtain⟨⟨c,e,fl,fh,L,_⟩,_⟩:=h.obs _ I;exact⟨by omega,hβ _ h1,L.lt⟩
 have W:(x.newO d w.heap.size K).bk d=(w.heap.size,K):=if_pos rfl;have hd:((x.newO d w.heap.size K).bk d).1=w.heap.size:=by rw[W]
 refine⟨?_,h.g0,h.gm,h.new, ?_, ?_, ?_, ?_, ?_, ?_,h.os,h.tape,h.output, ?_, ?_,fun i hi=>by rw[hβ i (by omega)];exact h.pin i hi,h.lay⟩
 ·intro b o v hv
  rw[dJ (ed (h.ltG hv))];exact h.per b o v hv
 ·intro p z
  rcases al.1 z with rfl|z
  ·refine⟨⟨c,e,fl,fh,⟨by rw[hd];exact dN,hf⟩,⟨?_,by rw[W];exact hK,by cases obj<;>exact a7⟩, ?_⟩, ?_, ?_⟩
   ·cases obj<;>simpa[aB.purge,aB.size,dV]using hs
   ·intro k hk
    cases obj with
    |rc cs=>simp only[aB.purge,cx,dV];rw[aY _ (by simp)];exact Rep.mono (x:=x) (x':=x.newO d w.heap.size K) (lo:=d) (hi:=d+1) (fun _ _ _ hv=>hv) hβ (fun _ _=>rfl) (hr k (by simpa[aB.purge,aB.size,dV]using hk))
    |arr sz xs=>exact hr k hk
    |bar l=>exact hr k hk
   ·rw[hd];exact h.new _ h.size
   ·intro off;rw[hd];exact a1 off
  ·obtain⟨h1,o,I,h3⟩:=cG z
   obtain⟨O,hm,hg⟩:=h.obs _ I;obtain⟨b1,y,J⟩:=E p z;refine⟨?_,by rw[y];exact hm,fun off=>by rw[y];exact hg off⟩;rw[h3];exact O.of_heap (ed J) (fun _ _ _ hv=>hv) hβ (fun _ _=>rfl) h1
 ·rw[aG,eZ,fy]
  refine⟨?_,h.nd.filter _⟩;simp
 ·intro p z q Z H
  rcases al.1 z with rfl|z<;>rcases al.1 Z with rfl|Z
  ·rfl
  ·obtain⟨_,y,J⟩:=E q Z
   rw[hd,y]at H;omega
  ·obtain⟨_,y,J⟩:=E p z
   rw[hd,y]at H;omega
  ·obtain⟨_,y,_⟩:=E q Z
   obtain⟨_,T,_⟩:=E p z;obtain⟨_,o,I,_⟩:=cG z;obtain⟨_,o',a6,_⟩:=cG Z;rw[y,T]at H;exact h.inj (_,o) I (_,o') a6 H
 ·intro t F
  obtain⟨F,_⟩:=bF.1 F;exact(h.tks t F).imp id fun⟨⟨c,e,fl,fh,L,r⟩,q⟩=>⟨⟨c,e,fl,fh,L.of_heap (ed L.lt),r⟩,q⟩
 ·intro t F p z
  obtain⟨F,_⟩:=bF.1 F;rcases al.1 z with rfl|z
  ·rcases h.tks t F with Q|⟨⟨c,e,fl,fh,L,r⟩,q⟩
   ·exact .inr Q
   ·refine .inl ?_
    rw[hd];have:=L.lt;show(x.τ t).1≠_;omega
  ·obtain⟨_,o,I,_⟩:=cG z
   rw[(E p z).2.1];exact h.tko t F (_,o) I
 ·intro t F u hu
  exact h.tkd t (bF.1 F).1 u (bF.1 hu).1
 ·have:=h.size;rw[World.size_alloc];omega
 ·intro b hb
  rw[ed,h.ext b hb];rcases bP b w.heap.size with Q|Q
  ·exact Q
  ·exact absurd (h.new b (gf h.size Q)) hb
def Sit.newD(x:Sit)(b:Nat)(c:LAb)(n:Nat):Sit:= {x with G:=fun h o=>if h=b/\o<n then c[o]? else x.G h o}
theorem dq.newD_le{C:Ctx}{x:Sit}{ob:List (Nat×aB)}{tk:t7}{w:World}(h:dq C x ob tk w)(c:LAb)(n:Nat):
 ∀b o v,x.G b o=some v->(x.newD w.heap.size c n).G b o=some v:=by
 intro b o v hv;have:=h.ltG hv;simp only[Sit.newD];rw[if_neg (by omega)];exact hv
theorem dq.allocD{C:Ctx}{x:Sit}{ob:List (Nat×aB)}{tk:t7}{w:World}(h:dq C x ob tk w){c:LAb}{e:TypeId}{fl fh:Nat}(n:Nat):
 dq C (x.newD w.heap.size c n) ob tk (w.alloc (.cells c e (fl,fh))):=by
 have E:=h.newD_le c n
 have y:∀b,b≠w.heap.size->∀o,(x.newD w.heap.size c n).G b o=x.G b o:=by intro b z o;simp only[Sit.newD];rw[if_neg (by rintro⟨J,_⟩;exact z J)]
 refine⟨?_,fun b o v hv=>E b o v (h.g0 b o v hv), ?_,h.new, ?_,h.nd,h.inj, ?_,h.tko,h.tkd,h.os,h.tape,h.output, ?_, ?_,h.pin,h.lay⟩
 ·intro b o v hv
  by_cases z:b=w.heap.size
  ·subst z
   simp only[Sit.newD]at hv;split at hv
   ·simp only[World.cell?,dN];simpa using hv
   ·exact absurd (h.ltG hv) (by omega)
  ·rw[y b z]at hv
   rw[dJ (ed (h.ltG hv))];exact h.per b o v hv
 ·intro b o v hv
  by_cases z:b=w.heap.size
  ·right;rw[z];exact h.new _ h.size
  ·rw[y b z]at hv;exact h.gm b o v hv
 ·intro p hp
  obtain⟨J,hm,W⟩:=h.obs p hp;have Q:(x.bk p.1).1<w.heap.size:=by obtain⟨c,e,fl,fh,H,_⟩:=J;exact H.lt
  refine⟨?_,hm,fun off=>by rw[show(x.newD w.heap.size c n).bk p.1=x.bk p.1 from rfl,y _ (by omega)];exact W off⟩;obtain⟨L,T,I,F,H,hs,Z⟩:=J;refine⟨L,T,I,F,H.of_heap (ed Q),hs,fun k hk=> ?_⟩;have:=Z k hk;generalize p.2=obj at*;cases obj with
  |rc cs=>exact Rep.grow E rfl rfl this
  |arr sz xs=>exact cy.mono E this
  |bar l=>exact cy.mono E this
 ·intro t ht
  refine(h.tks t ht).imp id ?_;rintro⟨⟨L,T,I,F,H,r⟩,q,g⟩;refine⟨⟨L,T,I,F,H.of_heap (ed H.lt),r⟩,q,fun o J h2=> ?_⟩;rw[show((x.newD w.heap.size c n).τ t).1=(x.τ t).1 from rfl,y _ (by have:=H.lt;omega)];exact g o J h2
 ·have:=h.size;rw[World.size_alloc];omega
 ·intro b z
  rw[ed,h.ext b z];rcases bP b w.heap.size with O|O
  ·exact O
  ·exact absurd (h.new b (gf h.size O)) z
def Sit.newT(x:Sit)(d b lo hi:Nat):Sit:= {x with τ:=fun t=>if t=d then(b,lo,hi)else x.τ t}
theorem Sit.newT_ne(x:Sit)(d b lo hi:Nat)(o:Nat)(h:¬(d<=o/\o<d+1)):(x.newT d b lo hi).τ o=x.τ o:=if_neg (by omega)
theorem Sit.newT_eq(x:Sit)(d b lo hi:Nat):(x.newT d b lo hi).τ d=(b,lo,hi):=if_pos rfl
theorem dq.addT{C:Ctx}{x:Sit}{ob:List (Nat×aB)}{tk:t7}{w:World}(h:dq C x ob tk w)(d b lo hi:Nat)
 (hv:lo=hi\/((∃c e fl fh,fM w b c e fl fh/\hi<=c.size)/\C.mine b/\∀o,lo<=o->o<hi->x.G b o=none))
 (F:lo=hi\/∀p∈ob,p.1≠d->b≠(x.bk p.1).1) (y:lo=hi\/∀t∈tk,t≠d->lX (b,lo,hi) (x.τ t)\/(x.τ t).2.1=(x.τ t).2.2):
 dq C (x.newT d b lo hi) (bq d (d+1) ob) (d::bV d (d+1) tk) w:=by
 have I:=Sit.newT_ne x d b lo hi;have hd:=Sit.newT_eq x d b lo hi;refine⟨h.per,h.g0,h.gm,h.new, ?_, ?_, ?_, ?_, ?_, ?_,h.os,h.tape,h.output,h.size,h.ext,h.pin,h.lay⟩
 ·intro p Q
  obtain⟨h1,o,J,h3⟩:=cG Q;obtain⟨L,hm,hg⟩:=h.obs _ J;exact⟨by rw[h3];exact L.of_heap rfl (fun _ _ _ hv=>hv) (fun _ _=>rfl) I h1,hm,hg⟩
 ·rw[fy];exact h.nd.filter _
 ·intro p Q q hq Z
  obtain⟨_,o,J,_⟩:=cG Q;obtain⟨_,o',W,_⟩:=cG hq;exact h.inj (_,o) J (_,o') W Z
 ·intro t z
  rcases al.1 z with rfl|z
  ·unfold iw;rw[hd];exact hv
  ·obtain⟨z,E⟩:=bF.1 z
   unfold iw;rw[I _ E];exact h.tks t z
 ·intro t z p Q
  obtain⟨h1,o,J,_⟩:=cG Q;rcases al.1 z with rfl|z
  ·rw[hd]
   rcases F with F|F
   ·exact .inr F
   ·exact .inl (F (_,o) J (by show p.1≠t;omega))
  ·obtain⟨z,E⟩:=bF.1 z
   rw[I _ E];exact h.tko t z (_,o) J
 ·intro t z u hu O
  rcases al.1 z with rfl|z<;>rcases al.1 hu with rfl|hu
  ·exact absurd rfl O
  ·obtain⟨hu,E⟩:=bF.1 hu
   rw[hd,I _ E];rcases y with y|y
   ·exact .inr (.inl y)
   ·rcases y u hu (by omega)with H|H
    ·exact .inl H
    ·exact .inr (.inr H)
  ·obtain⟨z,E⟩:=bF.1 z
   rw[hd,I _ E];rcases y with y|y
   ·exact .inr (.inr y)
   ·rcases y t z (by omega)with H|H
    ·refine .inl ?_
     unfold lX at*;exact fun e=>H e.symm
    ·exact .inr (.inl H)
  ·obtain⟨z,E⟩:=bF.1 z
   obtain⟨hu,T⟩:=bF.1 hu;rw[I _ E,I _ T];exact h.tkd t z u hu O
end Go.Sy
namespace Go.Sy
variable [aW]
def cr(w:World)(b off:Nat):LAa->World
 |[]=>w
 |v::r=>cr (w.setCell ⟨b,off,none⟩ v) b (off+1) r
theorem sZ(w:World)(a:Addr)(v:Value):(w.setCell a v).os=w.os/\(w.setCell a v).tape=w.tape/\(w.setCell a v).output=w.output/\(w.setCell a v).heap.size=w.heap.size:=
 ⟨rfl,rfl,rfl,by simp⟩
theorem fQ(b:Nat)(vs:LAa):∀(w:World)(off:Nat),(cr w b off vs).os=w.os/\(cr w b off vs).tape=w.tape/\(cr w b off vs).output=w.output/\
 (cr w b off vs).heap.size=w.heap.size/\(∀h,h≠b->(cr w b off vs).heap[h]? =w.heap[h]?):=by
 induction vs with
 |nil=>intro w off;exact⟨rfl,rfl,rfl,rfl,fun _ _=>rfl⟩
 |cons v r z=>intro w off;obtain⟨J,H,L,I,E⟩:=z (w.setCell ⟨b,off,none⟩ v) (off+1);obtain⟨g1,F,g3,g4⟩:=sZ w ⟨b,off,none⟩ v;refine⟨J.trans g1,H.trans F,L.trans g3,I.trans g4,fun h y=> ?_⟩;rw[cr,E h y];exact Go.RowKit.Below.heap_setCell _ _ _ _ y
theorem pU(c:LAb)(i k:Nat)(v:Value)(h:i<c.size):(c.setIfInBounds i v).getD k undef=if k=i then v else c.getD k undef:=by
 simp only[bl,Array.getElem?_setIfInBounds]
 by_cases y:i=k
 ·subst y;simp[h]
 ·rw[if_neg y,if_neg (fun e=>y e.symm)]
theorem fr{b:Nat}{e:TypeId}{fl fh:Nat}(vs:LAa):∀(w:World)(off:Nat)(c:LAb),fM w b c e fl fh->off+vs.length<=c.size->
 ∃y,fM (cr w b off vs) b y e fl fh/\y.size=c.size/\∀k,y.getD k undef=if off<=k/\k<off+vs.length then vs.getD (k-off) undef else c.getD k undef:=by
 induction vs with
 |nil=>intro w off c h _;exact⟨c,h,rfl,fun k=>by rw[if_neg (by simp only[au];omega)]⟩
 |cons v r H=>
  intro w off c h I;simp only[ah]at I
  have z:fM (w.setCell ⟨b,off,none⟩ v) b (c.setIfInBounds off v) e fl fh:=by refine⟨?_,by simpa using h.2⟩;simp only[World.setCell,Array.getElem?_modify];rw[if_pos trivial,h.1];simp
  obtain⟨y,J,E,L⟩:=H _ (off+1) _ z (by simp;omega);refine⟨y,J,by simpa using E,fun k=> ?_⟩;rw[L k];simp only[ah]
  by_cases z:k=off
  ·subst z
   rw[if_neg (by omega),if_pos (by omega),pU _ _ _ _ (by omega),if_pos rfl];simp
  ·by_cases F:off+1<=k/\k<off+1+r.length
   ·rw[if_pos F,if_pos (by omega)]
    rw[show k-off=(k-(off+1))+1 from by omega];simp
   ·rw[if_neg F,if_neg (by omega),pU _ _ _ _ (by omega),if_neg z]
theorem dD(b off n:Nat):(⟨b,off,none⟩:Addr).add n=⟨b,off+n,none⟩:=by
 unfold Addr.add;split
 ·rename_i h;subst h;rfl
 ·rfl
theorem fq{P:Program}{b:Nat}{e:TypeId}{fl fh:Nat}(off:Nat)(vs:LAa):∀(w:World)(c:LAb)(i:Nat),fM w b c e fl fh->off+i+vs.length<=c.size->
 (∀v∈vs,v.oneCell'=true)->(storeCells ⟨b,off,none⟩ vs i).run P w= .ok () (cr w b (off+i) vs):=by
 induction vs with
 |nil=>intro w c i _ _ _;rfl
 |cons v r z=>
  intro w c i h E hv;simp only[ah]at E
  have F:fM (w.setCell ⟨b,off+i,none⟩ v) b (c.setIfInBounds (off+i) v) e fl fh:=by refine⟨?_,by simpa using h.2⟩;simp only[World.setCell,Array.getElem?_modify];rw[if_pos trivial,h.1];simp
  have y:w.cell? ⟨b,off+i,none⟩=some (c[off+i]'(by omega)):=by rw[h.cell];exact iu _
  simp only[storeCells,ax,dD,run_store P w _ v _ (hv v (by simp)),y,h.free (o:=off+i) (by omega),az,if_false,ak];rw[z _ _ (i+1) F (by simp;omega) (fun u hu=>hv u (af _ hu))];rfl
theorem mW{d:Nat}{o:aB}{ob:List (Nat×aB)}(y:(ob.map cI).Nodup){p:Nat×aB}(h:p∈setO d o ob):(p=(d,o)/\d∈ob.map cI)\/(p∈ob/\p.1≠d):=by
 induction ob with
 |nil=>simp[setO]at h
 |cons q r H=>
  simp only[aG,eZ]at y;simp only[setO]at h;split at h<;>rename_i z
  ·rcases al.1 h with rfl|h
   ·exact .inl ⟨rfl,by simp[z]⟩
   ·refine .inr ⟨af _ h,fun e=>y.1 ?_⟩
    rw[z,<-e];exact iU h
  ·rcases al.1 h with rfl|h
   ·exact .inr ⟨aq ..,z⟩
   ·rcases H y.2 h with⟨F,E⟩|⟨F,E⟩
    ·exact .inl ⟨F,by simp[E]⟩
    ·exact .inr ⟨af _ F,E⟩
theorem F6{d:Nat}{o:aB}(ob:List (Nat×aB)):(setO d o ob).map cI=ob.map cI:=by
 induction ob with
 |nil=>rfl
 |cons q r y=>
  simp only[setO];split<;>rename_i h
  ·simp[h]
  ·simp[y]
theorem dh{s:St}{o:Nat}{obj:aB}(h:s.look o=some obj):(o,obj)∈s.ob:=by
 unfold St.look at h;generalize s.ob=l at h;induction l with
 |nil=>simp at h
 |cons p r y=>
  rw[show p=(p.1,p.2)from rfl,List.lookup_cons]at h;split at h
  ·rename_i z
   have:o=p.1:=by simpa using z
   subst this;simp at h;subst h;simp
  ·exact af _ (y h)
theorem dq.block{C:Ctx}{x:Sit}{ob:List (Nat×aB)}{tk:t7}{w w':World}(h:dq C x ob tk w){d:Nat}{obj obj':aB}(hd:(d,obj)∈ob)
 (ho:w'.os=w.os) (F:w'.tape=w.tape) (J:w'.output=w.output) (a1:w'.heap.size=w.heap.size) (T:∀b,b≠(x.bk d).1->w'.heap[b]? =w.heap[b]?)
 (hr:eu x w' d obj'):dq C x (setO d obj' ob) tk w':=by
 obtain⟨_,O,Q⟩:=h.obs _ hd;have E:∀p∈ob,p.1≠d->(x.bk p.1).1≠(x.bk d).1:=fun p y z e=>z (h.inj p y _ hd e)
 refine⟨?_,h.g0,h.gm,h.new, ?_,by rw[F6];exact h.nd, ?_, ?_, ?_,h.tkd,ho.trans h.os,F.trans h.tape,J.trans h.output,by rw[a1];exact h.size, ?_,h.pin,h.lay⟩
 ·intro b o v hv
  have:b≠(x.bk d).1:=by rintro rfl;simp[Q]at hv
  rw[dJ (T b this)];exact h.per b o v hv
 ·intro p y
  rcases mW h.nd y with⟨rfl,_⟩|⟨y,z⟩
  ·exact⟨hr,O,Q⟩
  ·obtain⟨⟨c,e,fl,fh,Z,r⟩,q⟩:=h.obs p y
   exact⟨⟨c,e,fl,fh,Z.of_heap (T _ (E p y z)),r⟩,q⟩
 ·intro p y q W H
  rcases mW h.nd y with⟨rfl,_⟩|⟨y,z⟩<;>rcases mW h.nd W with⟨rfl,_⟩|⟨W,hqd⟩
  ·rfl
  ·exact absurd H.symm (E q W hqd)
  ·exact absurd H (E p y z)
  ·exact h.inj p y q W H
 ·intro t F
  rcases h.tks t F with h'|⟨⟨c,e,fl,fh,Z,r⟩,q⟩
  ·exact .inl h'
  ·rcases h.tko t F _ hd with I|I
   ·exact .inr ⟨⟨c,e,fl,fh,Z.of_heap (T _ I),r⟩,q⟩
   ·exact .inl I
 ·intro t F p y
  rcases mW h.nd y with⟨rfl,_⟩|⟨y,_⟩
  ·exact h.tko t F (d,obj) hd
  ·exact h.tko t F p y
 ·intro b L
  rw[T b (fun e=>L (e ▸ O))];exact h.ext b L
def Sit.fill(x:Sit)(b lo:Nat)(vs:LAa):Sit:= {x with G:=fun h o=>if h=b/\lo<=o/\o<lo+vs.length then some (vs.getD (o-lo) undef)else x.G h o}
theorem dq.fill{C:Ctx}{x:Sit}{ob:List (Nat×aB)}{tk:t7}{w:World}(h:dq C x ob tk w){t:Nat}(ht:t∈tk){b lo hi:Nat}(hτ:x.τ t=(b,lo,hi))
 (vs:LAa) (d5:lo+vs.length<=hi) (h0:0<vs.length):
 (∀z o v,x.G z o=some v->(x.fill b lo vs).G z o=some v)/\dq C (x.fill b lo vs) ob (bV t (t+1) tk) (cr w b lo vs)/\
 (∃c e fl fh,fM (cr w b lo vs) b c e fl fh/\hi<=c.size)/\C.mine b/\(∀o,lo+vs.length<=o->o<hi->(x.fill b lo vs).G b o=none)/\
 (∀p∈ob,b≠(x.bk p.1).1)/\(∀u∈bV t (t+1) tk,lX (b,lo+vs.length,hi) (x.τ u)\/(x.τ u).2.1=(x.τ u).2.2)/\(∃c e fl fh,fM w b c e fl fh/\hi<=c.size):=by
 have F:=h.tks t ht;unfold iw at F;rw[hτ]at F;rcases F with F|⟨⟨c,e,fl,fh,hO,hc⟩,hm,hg⟩
 ·simp only at F;omega
 simp only at hc hm hg hO;obtain⟨g1,g2,g3,g4,g5⟩:=fQ b vs w lo;obtain⟨T,a1,b2,c7⟩:=fr vs w lo c hO (by omega)
 have a8:∀p∈ob,b≠(x.bk p.1).1:=by
  intro p hp;have:=h.tko t ht p hp;rw[hτ]at this;rcases this with h'|h'
  ·exact h'
  ·simp only at h';omega
 have J:∀z o v,x.G z o=some v->(x.fill b lo vs).G z o=some v:=by
  intro z o v hv;simp only[Sit.fill];rw[if_neg ?_]
  ·exact hv
  ·rintro⟨rfl,E,W⟩
   rw[hg o E (by omega)]at hv;cases hv
 refine⟨J,⟨?_,fun b o v hv=>J b o v (h.g0 b o v hv), ?_,h.new, ?_,h.nd,h.inj, ?_, ?_, ?_,g1.trans h.os,g2.trans h.tape,g3.trans h.output,by rw[g4];exact h.size, ?_,h.pin,h.lay⟩,
  ⟨T,e,fl,fh,a1,by omega⟩,hm, ?_,a8, ?_,⟨c,e,fl,fh,hO,hc⟩⟩
 ·intro z o v hv
  by_cases hb:z=b
  ·subst hb
   rw[a1.cell];simp only[Sit.fill]at hv;have hk:=c7 o;split at hv
   ·rename_i I
    rw[if_pos I.2]at hk;have ho:o<T.size:=by omega
    rw[iu ho];have:T.getD o undef=T[o]:=by simp[kK,ho]
    rw[<-this,hk];exact hv
   ·rename_i I
    have O:=h.per _ _ _ hv;rw[hO.cell]at O
    have ho:o<c.size:=by
     rcases bP o c.size with h'|h'
     ·exact h'
     ·simp[Array.getElem?_eq_none h']at O
    rw[if_neg (by rintro⟨E,W⟩;exact I ⟨trivial,E,W⟩)]at hk;rw[iu (by omega)];have e1:T.getD o undef=T[o]'(by omega):=by simp[kK,show o<T.size from by omega]
    have e2:c.getD o undef=c[o]:=by simp[kK,ho]
    rw[iu ho]at O;rw[<-e1,hk,e2];exact O
  ·rw[dJ (g5 z hb)]
   refine h.per z o v ?_;simp only[Sit.fill]at hv;rwa[if_neg (by rintro⟨E,_⟩;exact hb E)]at hv
 ·intro z o v hv
  simp only[Sit.fill]at hv;split at hv
  ·rename_i I;right;rw[I.1];exact hm
  ·exact h.gm z o v hv
 ·intro p hp
  obtain⟨E,b3,b4⟩:=h.obs p hp;have L:=a8 p hp;refine⟨?_,b3,fun off=> ?_⟩
  ·obtain⟨c2,e2,Z,a6,H,Q,b7⟩:=E
   refine⟨c2,e2,Z,a6,H.of_heap (g5 _ (fun e=>L e.symm)),Q,fun k hk=> ?_⟩;have:=b7 k hk;generalize p.2=obj at*;cases obj with
   |rc cs=>exact Rep.grow J rfl rfl this
   |arr sz xs=>exact cy.mono J this
   |bar l=>exact cy.mono J this
  ·simp only[Sit.fill]
   rw[if_neg (by rintro⟨E,_⟩;exact L E.symm)];exact b4 off
 ·intro u hu
  obtain⟨hu,L⟩:=bF.1 hu;have y:=h.tkd t ht u hu (by omega);rw[hτ]at y;refine(h.tks u hu).imp id ?_;rintro⟨⟨c2,e2,Z,a6,H,Q⟩,b5,b1⟩;refine⟨?_,b5,fun o E W=> ?_⟩
  ·by_cases hb:(x.τ u).1=b
   ·rw[hb]at H
    have e1:=H.1.symm.trans hO.1;simp at e1;exact⟨T,e,fl,fh,by rw[show((x.fill b lo vs).τ u).1=b from hb];exact a1,by rw[b2,<-e1.1];exact Q⟩
   ·exact⟨c2,e2,Z,a6,H.of_heap (g5 _ hb),Q⟩
  ·show(x.fill b lo vs).G (x.τ u).1 o=none
   simp only[Sit.fill];rw[if_neg ?_]
   ·exact b1 o E W
   ·rintro⟨e1,e2,e3⟩
    change (x.τ u).2.1<=o at E;change o<(x.τ u).2.2 at W;rcases y with y|y|y
    ·exact y e1.symm
    ·simp only at y;omega
    ·omega
 ·intro u hu p hp
  exact h.tko u (bF.1 hu).1 p hp
 ·intro u hu v hv b6
  exact h.tkd u (bF.1 hu).1 v (bF.1 hv).1 b6
 ·intro z a7
  rw[g5 z (fun e=>a7 (e ▸ hm))];exact h.ext z a7
 ·intro o E W
  simp only[Sit.fill];rw[if_neg (by rintro⟨_,_,h3⟩;omega)];exact hg o (by omega) W
 ·intro u hu
  obtain⟨hu,L⟩:=bF.1 hu;have y:=h.tkd t ht u hu (by omega);rw[hτ]at y;unfold lX at*;simp only at*;rcases y with y|y|y
  ·left;exact y
  ·omega
  ·exact .inr y
theorem gN{lo hi:Nat}{tk:t7}{t:Nat}(h:t∈bV lo hi tk):t∈tk:=(bF.1 h).1
theorem dq.sub{C:Ctx}{x:Sit}{ob z:List (Nat×aB)}{tk tk':t7}{w:World}(h:dq C x ob tk w)(E:z.Sublist ob)(F:∀t∈tk',t∈tk):dq C x z tk' w:=
 ⟨h.per,h.g0,h.gm,h.new,fun p y=>h.obs p (E.subset y),h.nd.sublist (E.map _),fun p y q H=>h.inj p (E.subset y) q (E.subset H),fun t hu=>h.tks t (F t hu),
  fun t hu p y=>h.tko t (F t hu) p (E.subset y),fun t hu u hv=>h.tkd t (F t hu) u (F u hv),h.os,h.tape,h.output,h.size,h.ext,h.pin,h.lay⟩
end Go.Sy
namespace Go.Sy
variable [aW]
def Ay:SV->Value->Bool
 | .bool b,.bool c=>b==c
 | .int k n,.int k' m=>decide (k=k')&&decide (n=m)
 | .u8 b,.int .u8 n=>decide (n=b.toNat)
 | .str l,.string s=>decide (s.data.toList=l)
 | .byt [] _,.slice none 0 0=>true
 | .lst _ [] _,.slice none 0 0=>true
 | .nilp,.pointer none=>true
 | .nili,.nilIface=>true
 |_,_=>false
def mz(P:Program)(e:TypeId):Bool:=match P.underlying e with|some (.int .u8)=>true|_=>false
def rq(P:Program)(t:TypeId):Option Bool:=(P.underlying t).map fun| .struct _| .array _ _=>true|_=>false
def fZ(P:Program)(t:TypeId):t8:=(P.info? t).map (·.size)
def ud(P:Program)(t:TypeId):t8:=(P.info? t).map (·.bytes)
def cvT(P:Program)(t:TypeId):Value->Option SV
 | .bool b=>some (.bool b)
 | .int .u8 n=>some (.u8 (aQ n.toNat))
 | .int k n=>some (.int k n)
 | .string s=>some (.str s.data.toList)
 | .pointer none=>some .nilp
 | .nilIface=>some .nili
 | .slice none 0 0=>match P.underlying t with
  |some (.slice e)=>some (if mz P e then .byt [] .clip else .lst (P.cellsOf e) [] .clip)
  |_=>none
 |_=>none
def bt(P:Program)(t:TypeId):Operand->Option Arg
 | .tmp n=>some (.t n)
 | .const v=>(cvT P t v).bind fun sv=>if Ay sv v then some (.c sv)else none
 | .func f=>some (.f f)
 | .global g=>(aW.cells g).map fun cs=> .c (.pp cs)
def nM(P:Program):Nat->TypeId->List TypeId
 |0,_=> []
 |d+1,t=>match P.underlying t with
  |some (.struct fs)=>fs.toList.flatMap fun f=>nM P d f.type
  |some (.array n e)=>(aJ n (nM P d e)).flatten
  |_=> [t]
def DT(P:Program):List TypeId->LAa->Option t6
 |[],[]=>some []
 |t::ts,v::vs=>match cvT P t v,DT P ts vs with
  |some s,some r=>some (s::r)
  |_,_=>none
 |_,_=>none
def gI(P:Program)(t:TypeId):Option LAa:=(P.info? t).bind fun i=>i.zero.map fun z=>z.cells.toList
def Ec(cs:t6)(vs:LAa):Bool:=decide (cs.length=vs.length)&&(bQ cs.length).all fun i=>Ay (cs.getD i .undef) (vs.getD i undef)
def mK(P:Program)(t:TypeId):Option t6:=(gI P t).bind fun vs=>(DT P (nM P 30 t) vs).bind fun cs=>if Ec cs vs then some cs else none
def yo(P:Program)(t:TypeId):Option t6:=(mK P t).map (List.map SV.data)
def GB(P:Program)(t:TypeId):Option aB:=
 match P.underlying t with
 |some (.array n e)=>if mz P e then some (.bar (aJ n 0))else match P.underlying e with
  |some (.slice _)=>(mK P e).map fun z=> .rc (aJ n z).flatten
  |_=>(mK P e).map fun z=> .arr z.length (aJ n z)
 |_=>(mK P t).map .rc
def YH(o:aB)(vs:LAa):Bool:=decide (o.size<=vs.length)&&(bQ o.size).all fun k=>Ay (o.cell k) (vs.getD k undef)
def kf{α β:Type}(f:α->Option β):List α->Option (List β)
 |[]=>some []
 |a::r=>match f a,kf f r with
  |some b,some s=>some (b::s)
  |_,_=>none
def vW{α β:Type}(f:α->Option β):Option α->Option (Option β)
 |none=>some none
 |some a=>(f a).map some
def wY(P:Program)(t:TypeId):t8:=
 match P.underlying t with
 |some .bool=>some 0
 |some (.int _)=>some 1
 |some .string=>some 2
 |_=>none
def xY(P:Program):Nat->List Field->Option t7
 |_,[]=>some []
 |k,f::r=>if f.name≠ "_" /\f.offset=k then(match wY P f.type,xY P (k+1) r with
  |some t,some ts=>some (t::ts)
  |_,_=>none)else none
def xgY(P:Program)(f:FuncId):Bool:=
 match P.funcs[f]? with
 |some fn=>fn.body.isNone&& !(fn.name== "runtime.NumGoroutine")&&(Extern.findNext fn).isNone&&decide (fn.origin= "slices.overlaps")&&
  (Extern.allGenericRows.lookup fn.name).isNone&&(Extern.allTypedRows.lookup fn.name).isNone&&(Extern.allRows.lookup fn.name).isNone&&
  (match fn.params[0]? with|some t=>(match P.underlying t with|some (.slice e)=>(fZ P e).isSome|_=>false)|none=>false)
 |none=>false
def z0:t6->Bool
 |[.u8 b]=>b==0
 |_=>false
def bv(P:Program)(o:Oper):Option SOp:=
 match o.op with
 | .move x=>(bt P o.type x).map .mov
 | .assign x=>(bt P o.type x).map .mov
 | .pick c a b=>match bt P 0 c,bt P o.type a,bt P o.type b with
  |some c,some a,some b=>some (.pick c a b)
  |_,_,_=>none
 | .alloc e=>match GB P e,gI P e with
  |some o,some z=>if YH o z then some (.new o)else none
  |_,_=>none
 | .box e x=>(bt P e x).map .box
 | .build t h=>match P.underlying t,mK P t with
  |some (.struct fs),some z=>
   if fs.toList.all fun f=>(P.info? f.type).isSome then
    (kf (fun p=>match fs[p.1]? with
     |some f=>match fZ P f.type,bt P f.type p.2 with
      |some n,some a=>some (f.offset,n,a)
      |_,_=>none
     |none=>none) h.toList).map (.build z)
   else none
  |some (.array _ e),some z=>match fZ P e with
   |some n=>(kf (fun p=>(bt P e p.2).map fun a=>(p.1*n,n,a)) h.toList).map (.build z)
   |none=>none
  |_,_=>none
 | .buildSlice t len h=>match P.underlying t with
  |some (.slice e)=>match fZ P e,gI P e with
   |some n,some _=>
    if decide (h.toList.map (·.1)=bQ len)&&decide (len*n<=16777216)&&(!mz P e||decide (n=1))then
     (kf (fun p=>bt P e p.2) h.toList).map fun I=>if mz P e then .litB I else .lit n I
    else none
   |_,_=>none
  |_=>none
 | .load t a=>match fZ P t,rq P t,bt P 0 a with
  |some n,some ag,some a=>if ag||n==1 then some (.load n ag a)else none
  |_,_,_=>none
 | .store t a x=>match fZ P t,bt P 0 a,bt P t x with
  |some n,some a,some x=>some (.store n a x)
  |_,_,_=>none
 | .nilCheck x=>(bt P o.type x).map .nchk
 | .binOp op H x y L=>match P.underlying H,bt P H x,bt P L y with
  |some .bool,some x,some y=>match op with
   | .eql=>some (.beq false x y)
   | .neq=>some (.beq true x y)
   |_=>none
  |some (.int _),some x,some y=>some (.bin op x y)
  |some .string,some x,some y=>some (.bin op x y)
  |some (.struct fs),some x,some y=>
   match xY P 0 fs.toList with
   |
    some J=>if !P.stoodInHeld H&& !P.eqGuardType P.depth H then
    (match op with
    | .eql=>some (.eqS false J x y)
    | .neq=>some (.eqS true J x y)
    |_=>none)
    else none
   |none=>none
  |some (.slice _),some x,some _=>match op,y with
   | .eql,.const (.slice none 0 0)=>some (.isnil false x)
   | .neq,.const (.slice none 0 0)=>some (.isnil true x)
   |_,_=>none
  |some (.interface _),some x,some _=>match op,y with
   | .eql,.const .nilIface=>some (.isni false x)
   | .neq,.const .nilIface=>some (.isni true x)
   |_,_=>none
  |_,_,_=>none
 | .unOp op t x=>(bt P t x).map (.un op)
 | .convert E dst x=>match P.underlying E,P.underlying dst,bt P E x with
  |some (.int _),some (.int k),some x=>some (.toInt k x)
  |some .string,some .string,some x=>some (.toStr x)
  |some (.slice e),some .string,some x=>if mz P e then some (.b2s x)else none
  |some .string,some (.slice e),some x=>if mz P e then some (.s2b x)else none
  |some (.slice _),some (.slice e),some x=>if decide (E=dst)&&mz P e then some (.slid x)else none
  |_,_,_=>none
 | .makeFunc (.func f) first cap=>match kf (bt P 0) first.toList,kf (bt P 0) cap.toList with
  |some a,some b=>some (.mkfn f a b)
  |_,_=>none
 | .makeSlice t l c=>match P.underlying t with
  |some (.slice e)=>match fZ P e,ud P e,yo P e,bt P 0 l,bt P 0 c with
   |some n,some by_,some z,some l,some c=>if mz P e then(if n=1/\by_=1/\z0 z=true then some (.mkB l c)else none)else(if z.length=n/\n≠0 then some (.mk z by_ l c)else none)
   |_,_,_,_,_=>none
  |_=>none
 | .slice t x lo hi F=>match vW (bt P 0) lo,vW (bt P 0) hi,vW (bt P 0) F,bt P t x with
  |some lo,some hi,some F,some x=>if F.isSome&&hi.isNone then none else match P.underlying t with
   |some .string=>if F.isNone then some (.slcS x lo hi)else none
   |some (.slice e)=>match fZ P e with
    |some n=>some (.slcL n x lo hi F)
    |none=>none
   |some (.array k e)=>match fZ P e with
    |some n=>some (.slcA k n x lo hi F)
    |none=>none
   |_=>none
  |_,_,_,_=>none
 | .fieldAddr t x i=>match P.underlying t,bt P 0 x with
  |some (.struct fs),some x=>match fs[i]? with
   |some f=>match fZ P f.type with
    |some n=>if n=0 then none else some (.faddr f.offset x)
    |none=>none
   |none=>none
  |_,_=>none
 | .field t x i=>match P.underlying t,bt P t x with
  |some (.struct fs),some x=>match fs[i]? with
   |some f=>match fZ P f.type,rq P f.type with
    |some n,some ag=>if ag||n==1 then some (.fld f.offset n ag x)else none
    |_,_=>none
   |none=>none
  |_,_=>none
 | .indexAddr t x i=>match P.underlying t,bt P t x,bt P 0 i with
  |some (.slice e),some x,some i=>match fZ P e with
   |some n=>some (.iaddrL n x i)
   |none=>none
  |some (.array k e),some x,some i=>match fZ P e with
   |some n=>some (.iaddrA k n x i)
   |none=>none
  |_,_,_=>none
 | .index t x i=>match P.underlying t,bt P t x,bt P 0 i with
  |some (.array k e),some x,some i=>match fZ P e,rq P e with
   |some n,some ag=>if ag||n==1 then some (.idxA k n ag x i)else none
   |_,_=>none
  |some .string,some x,some i=>some (.idxS x i)
  |_,_,_=>none
 | .extract x i=>(bt P 0 x).map (.ext · i)
 | .call c=>match c.callee with
  | .value f=>match bt P 0 f,kf (fun p=>bt P p.2 p.1) (c.args.toList.zip c.argTypes.toList)with
   |some f,some a_=>if c.args.size=c.argTypes.size then(match f,a_ with
    | .f g,[x,y]=>if xgY P g then some (.ovl x y)else some (.call (.f g) [x,y])
    |f,a_=>some (.call f a_))else none
   |_,_=>none
  | .builtin .len=>match c.args.toList,c.argTypes.toList with
   |[x],[t]=>match P.underlying t,bt P t x with
    |some .string,some x=>some (.len true x)
    |some (.slice _),some x=>some (.len false x)
    |some (.array n _),some _=>some (.lenC n)
    |some (.pointer arr),some _=>match P.underlying arr with
     |some (.array n _)=>some (.lenC n)
     |_=>none
    |_,_=>none
   |_,_=>none
  | .builtin .cap=>match c.args.toList,c.argTypes.toList with
   |[x],[t]=>match P.underlying t,bt P t x with
    |some (.slice _),some x=>some (.cap x)
    |_,_=>none
   |_,_=>none
  | .builtin .append=>match c.args.toList,c.argTypes.toList with
   |[x,y],[t,u]=>match P.underlying t,P.underlying u,bt P t x,bt P u y with
    |some (.slice e),some d,some x,some y=>match fZ P e,ud P e,mK P e with
     |some n,some b,some z=>if decide (b≠0)&&decide (n≠0)&&decide (z.length=n)then(match d with
      | .slice _=>some (.app z b x y)
      | .string=>if mz P e then some (.app z b x y)else none
      | .int _=>some (.appM z b x y)
      |_=>none)else none
     |_,_,_=>none
    |_,_,_,_=>none
   |_,_=>none
  | .builtin .clear=>match c.args.toList,c.argTypes.toList with
   |[x],[t]=>match P.underlying t,bt P t x with
    |some (.slice e),some x=>match yo P e with
     |some z=>some (.clr z x)
     |none=>none
    |_,_=>none
   |_,_=>none
  | .builtin .copy=>match c.args.toList,c.argTypes.toList with
   |[x,y],[t,u]=>match P.underlying t,bt P t x,bt P u y with
    |some (.slice e),some x,some y=>match fZ P e with
     |some n=>some (.cpy n x y)
     |none=>none
    |_,_,_=>none
   |_,_=>none
  | .builtin .min=>match c.args.toList,c.argTypes.toList with
   |[x,y],[t,u]=>match bt P t x,bt P u y with
    |some x,some y=>some (.mini x y)
    |_,_=>none
   |_,_=>none
  | .builtin .max=>match c.args.toList,c.argTypes.toList with
   |[x,y],[t,u]=>match bt P t x,bt P u y with
    |some x,some y=>some (.maxi x y)
    |_,_=>none
   |_,_=>none
  |_=>none
 |_=>none
def xby(ops:Array Oper)(d:Nat):Bool:=ops.any fun o=>match o.op with
 | .convert src dst (.tmp k)=>decide (src=dst)&&k==d
 |_=>false
def oV(ops:Array Oper)(d:t8)(so:SOp):SOp:=
 match so,d with
 | .litB xs,some d=>if xby ops d then .newB xs else .litB xs
 |so,_=>so
theorem Dy(ops:Array Oper)(d:t8)(so:SOp):oV ops d so=so\/∃h,so= .litB h/\oV ops d so= .newB h:=by
 unfold oV;split
 ·split
  ·exact .inr ⟨_,rfl,rfl⟩
  ·exact .inl rfl
 ·exact .inl rfl
def gM(P:Program)(ops:Array Oper)(o:Oper):Option SI:=
 match bv P o,o.guard with
 |some so,none=>some ⟨o.dst,none,oV ops o.dst so⟩
 |some so,some (j,b)=>match (ops[j]?).bind (·.dst)with
  |some g=>some ⟨o.dst,some (g,b),oV ops o.dst so⟩
  |none=>none
 |none,_=>none
def xgO:SOp->Bool
 | .new _| .box _| .mk _ _ _ _| .mkB _ _| .app _ _ _ _| .newB _=>true
 |_=>false
def xlc(l:LAc):t7:=l.filterMap fun i=>if xgO i.op then some (i.dst.getD 0+100)else none
def Arg.tmps:Arg->t7
 | .t n=> [n]
 |_=> []
def SI.reads(i:SI):t7:=(i.op.args.flatMap Arg.tmps)++(match i.g with|some (g,_)=> [g]|none=> [])
def P7(b:t7)(l:LAc):Bool:=
 (bQ l.length).all fun j=>(bQ l.length).all fun i=>i==j||
  (match (l.getD i ⟨none,none,.lenC 0⟩).dst with
   |some d=> !((l.getD j ⟨none,none,.lenC 0⟩).reads.contains d)||(b.getD (max i j) 0).testBit (min i j)
   |none=>true)
def qX(ops:Array Oper)(b:t7):Bool:=
 ops.toList.zipIdx.all fun(o,i)=>(o.after.all fun e=> !Region.binds .any e||decide (e.on<i))&&
  (bQ ops.size).all fun k=> !(b.getD i 0).testBit k||(decide (k<i)&&o.after.any fun e=>Region.binds .any e&&(e.on==k||(b.getD e.on 0).testBit k))
def drawn(ops:Array Oper)(l:LAc):Bool:=
 let b:=(Region.before ops).toList
 qX ops b&&P7 b l&&decide (l.filterMap (·.dst)).Nodup
def bf(P:Program):Code->Option gS
 | .skip=>some .skip
 | .region _ ops h=>match kf (gM P ops) ops.toList with
  |some l=>
   if h then(if drawn ops l&&P.follows .mixedOrders then some (.drw (Region.before ops).toList (xlc l) l)else none)
   else some (.ops l)
  |none=>none
 | .seq a b=>match bf P a,bf P b with
  |some a,some b=>some (.seq a b)
  |_,_=>none
 | .cond c a b=>match bt P 0 c,bf P a,bf P b with
  |some c,some a,some b=>some (.cond c a b)
  |_,_,_=>none
 | .block id b=>(bf P b).map (.block id)
 | .loop b=>(bf P b).map .loop
 | .exit id=>some (.exit id)
 | .ret=>some .ret
 |_=>none
def cL(P:Program):Code->gS
 | .skip=> .skip
 | .exit id=> .exit id
 | .ret=> .ret
 | .seq a b=> .seq (cL P a) (cL P b)
 | .cond c a b=>match bt P 0 c with
  |some k=> .cond k (cL P a) (cL P b)
  |none=> .bad
 | .block id b=> .block id (cL P b)
 | .loop b=> .loop (cL P b)
 | .region id ops h=>match bf P (.region id ops h)with
  |some s=>s
  |none=> .bad
 |_=> .bad
end Go.Sy
namespace Go.Sy
variable [aW]
variable {P : Program} {C : Ctx} {x : Sit} {s : St} {a : Act} {w : World}
theorem mM{G:GM}{c:SV}{v:Value}(h:Ay c v=true):cy G c v:=by
 unfold Ay at h;split at h
 ·simp at h;subst h;exact .bool _
 ·simp at h;obtain⟨rfl,rfl⟩:=h;exact .int _ _
 ·simp at h;subst h;exact .u8 _
 ·rename_i l s
  simp at h;obtain⟨⟨d⟩⟩:=s;simp at h;subst h;exact .str _
 ·exact .bytN _
 ·exact .lstN _ _
 ·exact .nilp
 ·exact .nili
 ·cases h
theorem ER{x:Sit}{c:SV}{v:Value}(h:Ay c v=true):Oi x c v:=by
 unfold Ay at h;split at h
 all_goals first
  |trivial
  |(
   rename_i t;cases t with
   |no=>trivial
   |clip=>exact⟨none,0,rfl⟩
   |id t=>exact⟨none,0,0,rfl,.inl rfl⟩)
  |(cases h;done)
theorem qu{x:Sit}{c:SV}{v:Value}(h:Ay c v=true):Rep x c v:= .dat _ _ (mM h) (ER h)
theorem cn.get{cs:t6}{vs:LAa}(h:cn x cs vs)(i:Nat):Rep x (cs.getD i .undef) (vs.getD i undef):=by
 rcases bP i cs.length with hi|hi
 ·exact h.2 i hi
 ·rw[aa,eH hi];exact .undef _
theorem cn.set{cs:t6}{vs:LAa}(h:cn x cs vs)(d:Nat){c:SV}{v:Value}(y:Rep x c v):cn x (cs.set d c) (vs.set d v):=by
 refine⟨by simpa using h.1,fun i hi=> ?_⟩;simp only[cW]at hi;simp only[aa,fN]
 by_cases hd:d=i
 ·subst hd
  rw[if_pos rfl,if_pos hi,if_pos rfl,if_pos (by rw[<-h.1];exact hi)];exact y
 ·rw[if_neg hd,if_neg hd]
  have:=h.get i;simpa only[aa]using this
theorem aL.slot(h:aL C x s a w)(n:Nat):Rep x (s.get n) (a.tmps.getD n undef):=by have:=h.tm.get n;simpa[St.get,bl]using this
theorem aL.put(h:aL C x s a w)(d:t8){c:SV}{v:Value}(y:Rep x c v):aL C x (s.put d c) (a.put d v) w:=by
 cases d with
 |none=>exact h
 |some d=>refine⟨?_,h.defers,h.heap⟩;have:=h.tm.set d y;simpa[St.put,Act.put]using this
theorem aK{t:TypeId}{o:Operand}{r:Arg}(h:aL C x s a w)(y:bt P t o=some r):Rep x (s.ev r) (a.eval o):=by
 cases o with
 |tmp n=>simp only[bt]at y;cases y;exact h.slot n
 |const v=>
  simp only[bt]at y;cases hc:cvT P t v with
  |none=>simp[hc]at y
  |some sv=>
   simp only[hc,di]at y;split at y
   ·cases y;rename_i H;exact qu H
   ·cases y
 |func f=>simp only[bt]at y;cases y;exact .fn f [] [] [] [] rfl (fun i hi=>by simp at hi) rfl (fun i hi=>by simp at hi)
 |global g=>
  simp only[bt]at y;obtain⟨cs,E,rfl⟩:=ae.1 y;have F:=(h.heap.lay.mono h.heap.g0) g cs E;refine .dat _ _ (.pp cs g 0 (fun j=>(x.G g j).getD undef) (fun j z=> ?_) (fun j z=> ?_)) trivial
  ·obtain⟨v,hv,_⟩:=F j z
   rw[cd,hv];rfl
  ·obtain⟨v,hv,y⟩:=F j z
   rw[hv];exact y
def cm(P:Program)(C:Ctx)(o:Oper)(a:Act)(w:World)(s':St):Prop:=
 ∃u w' x' n,(execOp a.eval o).run P w= .ok n w'/\(n= .value u\/(n= .skip/\u=undef))/\aL C x' s' (a.put o.dst u) w'
theorem cm.val{o:Oper}{m:Sem Value}{u:Value}{c:SV}(h:aL C x s a w)(y:execOp a.eval o=(do pure (.value (<-m))))(E:m.run P w= .ok u w)(z:Rep x c u):
 cm P C o a w (s.put o.dst c):=
 ⟨u,w,x,.value u,by rw[y];simp[E],.inl rfl,h.put o.dst z⟩
theorem cm.grow{o:Oper}{m:Sem Value}{u:Value}{c:SV}{x':Sit}{w':World}(h:aL C x s a w)(z:execOp a.eval o=(do pure (.value (<-m))))(E:m.run P w= .ok u w')
 (y:∀b o v,x.G b o=some v->x'.G b o=some v) (I:x'.bk=x.bk) (H:x'.τ=x.τ) (F:dq C x' s.ob s.tk w') (J:Rep x' c u):
 cm P C o a w (s.put o.dst c):=
 ⟨u,w',x',.value u,by rw[z];simp[E],.inl rfl,aL.put ⟨h.tm.grow y I H,h.defers,F⟩ o.dst J⟩
theorem Rep.int_inv{k:IntKind}{n:Int}{v:Value}(h:Rep x (.int k n) v):v= .int k n:=by
 cases h with|dat _ _ h _=>cases h;rfl
theorem Rep.bool_inv{b:Bool}{v:Value}(h:Rep x (.bool b) v):v= .bool b:=by
 cases h with|dat _ _ h _=>cases h;rfl
theorem Rep.u8_inv{b:UInt8}{v:Value}(h:Rep x (.u8 b) v):v= .int .u8 b.toNat:=by
 cases h with|dat _ _ h _=>cases h;rfl
theorem Rep.str_inv{l:d9}{v:Value}(h:Rep x (.str l) v):v= .string ⟨⟨l⟩⟩:=by
 cases h with|dat _ _ h _=>cases h;rfl
theorem Rep.ptr_inv{o off:Nat}{v:Value}(h:Rep x (.ptr o off) v):v= .pointer (some ⟨(x.bk o).1,off,none⟩):=by
 cases h with
 |dat _ _ h _=>cases h
 |ptr=>rfl
theorem Rep.ap_inv{o y i j:Nat}{v:Value}(h:Rep x (.ap o y i j) v):v= .pointer (some ⟨(x.bk o).1,i*y+j,none⟩):=by
 cases h with
 |dat _ _ h _=>cases h
 |ap=>rfl
theorem Rep.psl_inv{o E off n:Nat}{cap:t8}{v:Value}(h:Rep x (.psl o E off n cap) v):∃y,n<=y/\(∀c,cap=some c->c=y)/\∃z,v= .slice (some ⟨(x.bk o).1,z,none⟩) n y/\(y=0\/z=off*E):=by
 cases h with
 |dat _ _ h _=>cases h
 |psl _ _ _ _ _ z y h hn F _=>exact⟨y,hn,F,z,rfl,h⟩
theorem Rep.psl_invA{o E off n:Nat}{cap:t8}{v:Value}(h:Rep x (.psl o E off n cap) v):∃y,n<=y/\(∀c,cap=some c->c=y)/\∃z,v= .slice (some ⟨(x.bk o).1,z,none⟩) n y/\(y=0\/z=off*E)/\(cap=none->y=0\/z+y*E<=(x.bk o).2):=by
 cases h with
 |dat _ _ h _=>cases h
 |psl _ _ _ _ _ z y h hn H F=>exact⟨y,hn,H,z,rfl,h,F⟩
theorem Rep.psl_invK{o E off n:Nat}{v:Value}(h:Rep x (.psl o E off n none) v):∃y,n<=y/\∃z,v= .slice (some ⟨(x.bk o).1,z,none⟩) n y/\(y=0\/z=off*E)/\(y=0\/z+y*E<=(x.bk o).2):=by
 cases h with
 |dat _ _ h _=>cases h
 |psl _ _ _ _ _ z y h hn H F=>exact⟨y,hn,z,rfl,h,F rfl⟩
theorem Rep.agg_inv{cs:t6}{v:Value}(h:Rep x (.agg cs) v):∃vs,v= .agg ⟨vs⟩/\cn x cs vs:=by
 cases h with
 |dat _ _ h _=>cases h
 |agg _ vs y h=>exact⟨vs,rfl,y,h⟩
theorem Rep.tup_inv{cs:t6}{v:Value}(h:Rep x (.tup cs) v):∃vs,v= .tuple ⟨vs⟩/\cn x cs vs:=by
 cases h with
 |dat _ _ h _=>cases h
 |tup _ vs y h=>exact⟨vs,rfl,y,h⟩
theorem Rep.fn_inv{f:Nat}{c1 c2:t6}{v:Value}(h:Rep x (.fn f c1 c2) v):∃y v2,v= .func (.func f) ⟨y⟩ ⟨v2⟩/\cn x c1 y/\cn x c2 v2:=by
 cases h with
 |dat _ _ h _=>cases h
 |fn _ _ _ y v2 F z H E=>exact⟨y,v2,rfl,⟨F,z⟩,⟨H,E⟩⟩
theorem Rep.pp_inv{cs:t6}{v:Value}(h:Rep x (.pp cs) v):∃(b off:Nat)(val:Nat->Value),v= .pointer (some ⟨b,off,none⟩)/\(∀j,j<cs.length->x.G b (off+j)=some (val j))/\∀j,j<cs.length->cy x.G (cs.getD j .undef) (val j):=by
 cases h with
 |dat _ _ h _=>cases h with|pp _ b off val y h=>exact⟨b,off,val,rfl,y,h⟩
theorem Rep.nilp_inv{v:Value}(h:Rep x .nilp v):v= .pointer none:=by
 cases h with|dat _ _ h _=>cases h;rfl
theorem Rep.ife_inv{v:Value}(h:Rep x .ife v):∃t u,v= .iface t u:=by
 cases h with|dat _ _ h _=>cases h;exact⟨_,_,rfl⟩
theorem Rep.nili_inv{v:Value}(h:Rep x .nili v):v= .nilIface:=by
 cases h with|dat _ _ h _=>cases h;rfl
theorem Rep.byt_inv{l:d9}{t:Tok}{v:Value}(h:Rep x (.byt l t) v):∃b cap,v= .slice b l.length cap/\l.length<=cap/\cy x.G (.byt l t) v/\dM x 1 t v:=by
 cases h with
 |dat _ _ h y=>
  cases h with
  |bytN=>exact⟨none,0,rfl,by simp,.bytN _,y⟩
  |bytE _ a=>exact⟨some a,0,rfl,by simp,.bytE _ a,y⟩
  |byt _ _ b off cap n hn z h=>subst hn;exact⟨_,cap,rfl,z,.byt _ _ b off cap _ rfl z h,y⟩
theorem Rep.lst_inv{z:Nat}{y:d8}{t:Tok}{v:Value}(h:Rep x (.lst z y t) v):∃b cap,v= .slice b y.length cap/\y.length<=cap/\cy x.G (.lst z y t) v/\dM x z t v:=by
 cases h with
 |dat _ _ h E=>
  cases h with
  |lstN=>exact⟨none,0,rfl,by simp,.lstN _ _,E⟩
  |lstE _ _ a=>exact⟨some a,0,rfl,by simp,.lstE _ _ a,E⟩
  |lst _ _ _ b off cap n val hn F I H h=>subst hn;exact⟨_,cap,rfl,F,.lst _ _ _ b off cap _ val rfl F I H h,E⟩
theorem cT(k:IntKind)(n:Int):Rep x (.int k n) (.int k n):= .dat _ _ (.int k n) trivial
theorem dT(b:Bool):Rep x (.bool b) (.bool b):= .dat _ _ (.bool b) trivial
theorem oR(b:UInt8):Rep x (.u8 b) (.int .u8 b.toNat):= .dat _ _ (.u8 b) trivial
theorem lL(l:d9):Rep x (.str l) (.string ⟨⟨l⟩⟩):= .dat _ _ (.str l) trivial
theorem Fj{op:BinOp}{t:TypeId}{k:IntKind}{m n:Int}{p:Prop}{c:SV}(h:RX op k m n=some (p,c))(y:p):
 ∃r,(binOp op t (.int k m) (.int k n)).run P w= .ok r w/\Rep x c r:=by
 cases op<;>simp only[RX,Pa,bn,ao.injEq,bm.injEq,reduceCtorEq]at h<;>obtain⟨rfl,rfl⟩:=h
 ·exact⟨.int k (k.wrap (m+n)),by simp[binOp,Op.intArith],cT _ _⟩
 ·exact⟨.int k (k.wrap (m-n)),by simp[binOp,Op.intArith],cT _ _⟩
 ·exact⟨.int k (k.wrap (m*n)),by simp[binOp,Op.intArith],cT _ _⟩
 ·exact⟨.int k (k.wrap (m.tdiv n)),by simp[binOp,Op.intDiv,y],cT _ _⟩
 ·exact⟨.int k (m.tmod n),by simp[binOp,Op.intDiv,y],cT _ _⟩
 ·exact⟨.int k (b9 .and k m n),by simp[binOp,Op.intBits,b9],cT _ _⟩
 ·exact⟨.int k (b9 .or k m n),by simp[binOp,Op.intBits,b9],cT _ _⟩
 ·exact⟨.int k (b9 .xor k m n),by simp[binOp,Op.intBits,b9],cT _ _⟩
 ·exact⟨.int k (b9 .andNot k m n),by simp[binOp,Op.intBits,b9],cT _ _⟩
 ·exact⟨.bool (decide (m=n)),by simp[binOp,ra];rw[fJ];simp,dT _⟩
 ·exact⟨.bool (decide (m≠n)),by simp[binOp,ra];rw[fJ];simp,dT _⟩
 ·exact⟨.bool (decide (m<n)),by simp[binOp,ra],dT _⟩
 ·exact⟨.bool (decide (m<=n)),by simp[binOp,ra],dT _⟩
 ·exact⟨.bool (decide (m>n)),by simp[binOp,ra],dT _⟩
 ·exact⟨.bool (decide (m≥n)),by simp[binOp,ra],dT _⟩
theorem gF(n:Int):gq.wrap n=n % 256:=by simp[IntKind.wrap,IntKind.bits,IntKind.signed]
theorem vx(n:Int):((dQ n).toNat:Int)=n % 256:=by rw[dQ,<-UInt8.toNat_toBitVec];simp;omega
theorem oD(b:UInt8):b.toNat<256:=b.toNat_lt
theorem Db{op:BinOp}{t:TypeId}{a b:UInt8}{p:Prop}{c:SV}(h:DU op a b=some (p,c))(E:p):
 ∃r,(binOp op t (.int .u8 a.toNat) (.int .u8 b.toNat)).run P w= .ok r w/\Rep x c r:=by
 have H:=oD a;have F:=oD b;have R:∀(r:UInt8)(v:Value),v= .int .u8 r.toNat->Rep x (.u8 r) v:=fun r v e=>e ▸ oR r
 have B:∀(r:Bool)(v:Value),v= .bool r->Rep x (.bool r) v:=fun r v e=>e ▸ dT r
 cases op<;>simp only[DU,ao.injEq,bm.injEq,reduceCtorEq]at h<;>obtain⟨rfl,rfl⟩:=h
 ·exact⟨.int .u8 (gq.wrap (a.toNat+b.toNat)),by simp[binOp,Op.intArith],R _ _ (by rw[gF,UInt8.toNat_add];simp)⟩
 ·refine⟨.int .u8 (gq.wrap (a.toNat-b.toNat)),by simp[binOp,Op.intArith],R _ _ (by rw[gF,UInt8.toNat_sub];congr 1;omega)⟩
 ·exact⟨.int .u8 (gq.wrap (a.toNat*b.toNat)),by simp[binOp,Op.intArith],R _ _ (by rw[gF,UInt8.toNat_mul];simp)⟩
 ·have hb0:¬((b.toNat:Int)=0):=by intro e;exact E (UInt8.toNat_inj.1 (by simpa using e))
  refine⟨.int .u8 (gq.wrap ((a.toNat:Int).tdiv b.toNat)), ?_,R _ _ ?_⟩
  ·simp only[binOp,Op.intDiv];rw[if_neg (fun e=>e rfl),if_neg hb0];rfl
  rw[gF,UInt8.toNat_div,Int.tdiv_eq_ediv_of_nonneg (by omega)];have:=Nat.div_le_self a.toNat b.toNat;rw[<-Int.natCast_ediv];simp only[Value.int.injEq,true_and];generalize a.toNat/b.toNat=q at*;omega
 ·have hb0:¬((b.toNat:Int)=0):=by intro e;exact E (UInt8.toNat_inj.1 (by simpa using e))
  refine⟨.int .u8 ((a.toNat:Int).tmod b.toNat), ?_,R _ _ ?_⟩
  ·simp only[binOp,Op.intDiv];rw[if_neg (fun e=>e rfl),if_neg hb0];rfl
  rw[UInt8.toNat_mod,fv (by omega)];simp
 all_goals have y:BitVec.ofInt gq.bits (a.toNat:Int)=a.toBitVec:=by rw[BitVec.ofInt_natCast];exact BitVec.ofNat_toNat _ _
 all_goals have z:BitVec.ofInt gq.bits (b.toNat:Int)=b.toBitVec:=by rw[BitVec.ofInt_natCast];exact BitVec.ofNat_toNat _ _
 ·refine⟨.int .u8 (b9 .and .u8 a.toNat b.toNat),by simp[binOp,Op.intBits,b9],R _ _ ?_⟩
  have:=oD (a&&&b);simp only[b9];rw[y,z,gF];change Value.int .u8 ((((a&&&b).toNat:Nat):Int) % 256)=_
  congr 1;omega
 ·refine⟨.int .u8 (b9 .or .u8 a.toNat b.toNat),by simp[binOp,Op.intBits,b9],R _ _ ?_⟩
  have:=oD (a|||b);simp only[b9];rw[y,z,gF];change Value.int .u8 ((((a|||b).toNat:Nat):Int) % 256)=_
  congr 1;omega
 ·refine⟨.int .u8 (b9 .xor .u8 a.toNat b.toNat),by simp[binOp,Op.intBits,b9],R _ _ ?_⟩
  have:=oD (a^^^b);simp only[b9];rw[y,z,gF];change Value.int .u8 ((((a^^^b).toNat:Nat):Int) % 256)=_
  congr 1;omega
 ·refine⟨.int .u8 (b9 .andNot .u8 a.toNat b.toNat),by simp[binOp,Op.intBits,b9],R _ _ ?_⟩
  have:=oD (a&&& ~~~b);simp only[b9];rw[y,z,gF];change Value.int .u8 ((((a&&& ~~~b).toNat:Nat):Int) % 256)=_
  congr 1;omega
 all_goals clear y z
 ·exact⟨.bool ((a.toNat:Int)==b.toNat),by simp[binOp,ra],B _ _ (by congr 1;rw[fJ];simp[<-UInt8.toNat_inj];try omega)⟩
 ·exact⟨.bool ((a.toNat:Int) !=b.toNat),by simp[binOp,ra],B _ _ (by congr 1;rw[fJ];simp[<-UInt8.toNat_inj];try omega)⟩
 ·exact⟨.bool (decide ((a.toNat:Int)<b.toNat)),by simp[binOp,ra],B _ _ (by congr 1;rw[fJ];simp[UInt8.lt_iff_toNat_lt])⟩
 ·exact⟨.bool (decide ((a.toNat:Int)<=b.toNat)),by simp[binOp,ra],B _ _ (by congr 1;rw[fJ];simp[UInt8.le_iff_toNat_le])⟩
 ·exact⟨.bool (decide ((a.toNat:Int)>b.toNat)),by simp[binOp,ra],B _ _ (by congr 1;rw[fJ];simp[UInt8.lt_iff_toNat_lt])⟩
 ·exact⟨.bool (decide ((a.toNat:Int)≥b.toNat)),by simp[binOp,ra],B _ _ (by congr 1;rw[fJ];simp[UInt8.le_iff_toNat_le])⟩
theorem Fg{op:BinOp}{t:TypeId}{l m:d9}{p:Prop}{c:SV}(h:Tg op l m=some (p,c))(F:p):
 ∃r,(binOp op t (.string ⟨⟨l⟩⟩) (.string ⟨⟨m⟩⟩)).run P w= .ok r w/\Rep x c r:=by
 have y:∀l:d9,(ByteArray.mk ⟨l⟩).toList=l:=fun l=>by rw[ByteArray.toList_eq]
 have E:(l==m)=decide (l=m):=by rw[fJ];simp
 cases op<;>simp only[Tg,ao.injEq,bm.injEq,reduceCtorEq]at h<;>obtain⟨rfl,rfl⟩:=h
 ·refine⟨.string ⟨⟨l++m⟩⟩, ?_,lL _⟩
  simp only[binOp,Op.stringOp]
  have z:((((ByteArray.mk ⟨l⟩).size+(ByteArray.mk ⟨m⟩).size:Nat):Int)>ai.max)=False:=by rw[IntKind.max_i64];simp only[ByteArray.size,eq_iff_iff,iff_false];simp;omega
  simp only[z,if_false];rw[show(ByteArray.mk ⟨l⟩++ByteArray.mk ⟨m⟩)=ByteArray.mk ⟨l++m⟩from by apply ByteArray.ext;simp];rfl
 all_goals refine⟨_,by simp only[binOp,Op.stringOp,y,E];rfl, ?_⟩
 ·exact dT _
 ·rw[show decide (l≠m)= !decide (l=m)from by simp];exact dT _
 all_goals exact dT _
theorem Fe{op:BinOp}{t:TypeId}{k:IntKind}{a:UInt8}{b:Int}{p:Prop}{c:SV}(h:Tb op a b=some (p,c))(E:p):
 ∃r,(binOp op t (.int .u8 a.toNat) (.int k b)).run P w= .ok r w/\Rep x c r:=by
 have y:=oD a;have R:∀(r:UInt8)(v:Value),v= .int .u8 r.toNat->Rep x (.u8 r) v:=fun r v e=>e ▸ oR r
 cases op<;>simp only[Tb,ao.injEq,bm.injEq,reduceCtorEq]at h<;>obtain⟨rfl,rfl⟩:=h
 ·refine⟨.int .u8 (gq.wrap ((a.toNat:Int)*2^(min b.toNat gq.bits))),by simp only[binOp,Op.shift];rw[if_neg (by omega)];rfl,R _ _ ?_⟩
  rw[gF,UInt8.toNat_ofNat'];have e:((a.toNat:Int)*2^(min b.toNat gq.bits))=((a.toNat*2^(min b.toNat 8):Nat):Int):=by rw[Int.natCast_mul,Int.natCast_pow];rfl
  rw[e];rfl
 ·refine⟨.int .u8 ((a.toNat:Int).fdiv (2^(min b.toNat gq.bits))),by simp only[binOp,Op.shift];rw[if_neg (by omega)];rfl,R _ _ ?_⟩
  have e:(a.toNat:Int).fdiv (2^(min b.toNat gq.bits))=((a.toNat/2^(min b.toNat 8):Nat):Int):=by rw[show((2:Int)^(min b.toNat gq.bits))=((2^(min b.toNat 8):Nat):Int)from by rw[Int.natCast_pow];rfl];rw[Int.fdiv_eq_ediv_of_nonneg _ (Int.natCast_nonneg _),Int.natCast_ediv]
  have z:a.toNat/2^(min b.toNat 8)<256:=Nat.lt_of_le_of_lt (Nat.div_le_self _ _) y;rw[e,UInt8.toNat_ofNat',dF z]
theorem QH{op:BinOp}{t:TypeId}{X Y:Operand}{u v:SV}{a b:Value}{p:Prop}{c:SV}(hu:Rep x u a)(hv:Rep x v b)(h:yf op u v=some (p,c))(H:p):
 ∃r,(do eqGuard op t X Y a b;binOp op t a b:Sem Value).run P w= .ok r w/\Rep x c r:=by
 cases u<;>cases v<;>simp only[yf]at h<;>try (cases h;done)
 ·rename_i k m J n
  have y:=hu.int_inv;have z:=hv.int_inv;subst y;subst z;rw[show eqGuard op t X Y (.int k m) (.int J n)=pure ()from by cases op<;>rfl];simp only[ax,aE,ak]
  by_cases L:op= .shl\/op= .shr
  ·rcases L with rfl|rfl
   ·simp only[u0,ao.injEq,bm.injEq]at h
    obtain⟨rfl,rfl⟩:=h;exact⟨_,by simp only[binOp,Op.shift];rw[if_neg (by omega)];rfl,cT _ _⟩
   ·simp only[u0,ao.injEq,bm.injEq]at h
    obtain⟨rfl,rfl⟩:=h;exact⟨_,by simp only[binOp,Op.shift];rw[if_neg (by omega)];rfl,cT _ _⟩
  ·have I:(if k=J then RX op k m n else none)=some (p,c):=by
    cases op<;>simp at L<;>exact h
   split at I
   ·rename_i O;subst O;exact Fj I H
   ·cases I
 ·rename_i F k2 E
  have y:=hu.u8_inv;have z:=hv.int_inv;subst y;subst z;rw[show eqGuard op t X Y (.int .u8 F.toNat) (.int k2 E)=pure ()from by cases op<;>rfl];simp only[ax,aE,ak];exact Fe h H
 ·rename_i F E
  have y:=hu.u8_inv;have z:=hv.u8_inv;subst y;subst z;rw[show eqGuard op t X Y (.int .u8 F.toNat) (.int .u8 E.toNat)=pure ()from by cases op<;>rfl];simp only[ax,aE,ak];exact Db h H
 ·rename_i F E
  have y:=hu.str_inv;have z:=hv.str_inv;subst y;subst z;rw[show eqGuard op t X Y (.string ⟨⟨F⟩⟩) (.string ⟨⟨E⟩⟩)=pure ()from by cases op<;>rfl];simp only[ax,aE,ak];exact Fg h H
end Go.Sy
namespace Go.Sy
variable [aW]
variable {P : Program} {C : Ctx} {x : Sit} {s : St} {a : Act} {w : World}
theorem da{t:TypeId}{n:Nat}(h:fZ P t=some n)(w:World):(sizeOf t).run P w= .ok n w:=by
 unfold fZ at h;cases hi:P.info? t with
 |none=>simp[hi]at h
 |some i=>simp[hi]at h;subst h;simp[sizeOf,run_typeInfo w hi]
theorem lf{t:TypeId}{b:Bool}(h:rq P t=some b)(w:World):(isAgg t).run P w= .ok b w:=by
 unfold rq at h;cases hd:P.underlying t with
 |none=>simp[hd]at h
 |some d=>simp[hd]at h;subst h;unfold isAgg;simp only[ax,run_underlying hd,ak];split<;>first|rfl|(cases d<;>simp_all)
theorem cQ{E:Nat}(F:d8)(h:∀y∈F,y.length=E)(k:Nat)(J:k<F.length*E):
 F.flatten.getD k .undef=(F.getD (k/E) []).getD (k % E) .undef:=by
 induction F generalizing k with
 |nil=>simp at J
 |cons y r W=>
  have Q:=h y (by simp)
  have L:0<E:=by
   rcases fC E with I|I;· subst I;simp at J
   ·exact I
  simp only[List.flatten_cons,aa]
  by_cases H:k<E
  ·rw[bi (by omega),Nat.div_eq_of_lt H,dF H]
   simp
  ·rw[bo (by omega),Q]
   have:=W (fun z hz=>h z (af _ hz)) (k-E) (by simp only[ah,eI]at J;omega);simp only[aa]at this;rw[this];have T:k/E=(k-E)/E+1:=by rw[<-Nat.add_div_right _ L];congr 1;omega
   have O:k % E=(k-E) % E:=(Nat.mod_eq_sub_mod (by omega));rw[T,O];simp
def CF(x:Sit)(w:World)(b off n:Nat)(cs:t6):Prop:=
 n<=cs.length/\∀j,j<n->∃v,w.cell? ⟨b,off+j,none⟩=some v/\Rep x (cs.getD j .undef) v
theorem pL{b off n:Nat}{cs:t6}{t:TypeId}{z:Bool}(h:CF x w b off n cs)(hn:fZ P t=some n)(y:rq P t=some z)(H:(z||n==1)=true):
 ∃v,(loadVar t ⟨b,off,none⟩).run P w= .ok v w/\Rep x (dP z n cs) v:=by
 obtain⟨L,F⟩:=h
 have J:∀j,j<n->w.cell? ((⟨b,off,none⟩:Addr).add j)=some ((w.cell? ⟨b,off+j,none⟩).getD undef):=by intro j I;obtain⟨v,hv,_⟩:=F j I;rw[dD,hv];rfl
 cases z with
 |true=>
  refine⟨.agg ((bQ n).map fun j=>(w.cell? ⟨b,off+j,none⟩).getD undef).toArray, ?_, ?_⟩
  ·simp only[loadVar,ax,lf y,ak,if_true,da hn,run_loadCells w _ n _ J,aE]
  ·simp only[dP,if_true]
   refine .agg _ _ (by simp;omega) fun i hi=> ?_
   have hi:i<n/\i<cs.length:=by simp only[av]at hi;omega
   obtain⟨v,hv,E⟩:=F i hi.1;rw[aa,bG,if_pos hi.1,<-aa]
   have:((bQ n).map fun j=>(w.cell? ⟨b,off+j,none⟩).getD undef).getD i undef=v:=by rw[aa];simp[hi.1,hv]
   rw[this];exact E
 |false=>simp at H;subst H;obtain⟨v,hv,E⟩:=F 0 (by omega);refine⟨v, ?_,by simpa[dP]using E⟩;rw[bW]at hv;simp only[loadVar,ax,lf y,ak,az,if_false,run_load,hv]
theorem fp(y:aL C x s a w){o:Nat}{obj:aB}(h:s.look o=some obj):eu x w o obj:=(y.heap.obs _ (dh h)).1
theorem eu.cell{o:Nat}{obj:aB}(h:eu x w o obj){k:Nat}(z:k<obj.size):∃v,w.cell? ⟨(x.bk o).1,k,none⟩=some v/\cx x obj k v:=by obtain⟨c,e,fl,fh,E,F,y⟩:=h;refine⟨c.getD k undef, ?_,y k z⟩;rw[E.cell,bl,iu (by omega)];rfl
theorem cx.data{obj:aB}(y:∀cs,obj≠ .rc cs){k:Nat}{v:Value}(h:cx x obj k v):Rep x (obj.cell k).data v:=by
 cases obj with
 |rc cs=>exact absurd rfl (y cs)
 |arr E z=>exact cy.rep h
 |bar l=>exact cy.rep h
theorem gV(cs:t6)(j:Nat):(cs.map SV.data).getD j .undef=(cs.getD j .undef).data:=aY _ rfl _ _
theorem jA{α:Type}(cs:List α)(j k:Nat)(d:α):(cs.drop j).getD k d=cs.getD (j+k) d:=by simp[aa,bO]
theorem mv(W:aL C x s a w){u c:SV}{v:Value}{n:Nat}{ag:Bool}{p:Prop}(hu:Rep x u v)(h:jn s n ag u=some (p,c))(J:p):
 ∃b off cs,v= .pointer (some ⟨b,off,none⟩)/\c=dP ag n cs/\CF x w b off n cs:=by
 cases u with
 |pp cs=>simp only[jn,ao.injEq,bm.injEq]at h;obtain⟨rfl,rfl⟩:=h;obtain⟨b,off,val,rfl,hg,hr⟩:=hu.pp_inv;refine⟨b,off,_,rfl,rfl,by simpa using J,fun j T=>⟨val j,W.heap.per _ _ _ (hg j (by omega)), ?_⟩⟩;rw[gV];exact(hr j (by omega)).rep
 |ptr o off=>
  have hv:=hu.ptr_inv;simp only[jn]at h;cases hl:s.look o with
  |none=>simp[hl]at h
  |some obj=>
   have E:=fp W hl;cases obj with
   |rc cs=>simp only[hl,ao.injEq,bm.injEq]at h;obtain⟨rfl,rfl⟩:=h;refine⟨_,off,_,hv,rfl,by simp;omega,fun j T=> ?_⟩;obtain⟨v,I,F⟩:=E.cell (k:=off+j) (by simp only[aB.size];omega);exact⟨v,I,by rw[jA];exact F⟩
   |arr H O=>
    simp only[hl]at h;split at h
    ·rename_i Z;subst Z
     simp only[ao.injEq,bm.injEq]at h;obtain⟨rfl,rfl⟩:=h
     have L:O.flatten.length=O.length*H:=by
      have F:=J.2;clear J hl E;induction O with
      |nil=>simp
      |cons y r ih=>simp only[List.flatten_cons,ac,ah,eI];rw[ih (fun z hz=>F z (af _ hz)),F y (by simp)];omega
     refine⟨_,0,_,hv,rfl,by rw[aC];exact J.1,fun j T=> ?_⟩;have Q:j<O.length*H:=by rw[<-L];omega
     obtain⟨v,I,F⟩:=E.cell (k:=j) (by simpa only[aB.size]using Q);refine⟨v,by rw[cd];exact I, ?_⟩;rw[gV,cQ O J.2 j Q];exact F.data (by intro cs;simp)
    ·cases h
   |bar l=>
    simp only[hl]at h;split at h
    ·rename_i Z;subst Z
     simp only[ao.injEq,bm.injEq]at h;obtain⟨rfl,rfl⟩:=h;refine⟨_,0,_,hv,rfl,by simpa using J,fun j T=> ?_⟩;obtain⟨v,I,F⟩:=E.cell (k:=j) (by simp only[aB.size];omega);refine⟨v,by rw[cd];exact I, ?_⟩
     have:(l.map SV.u8).getD j .undef= .u8 (l.getD j 0):=by simp only[aa,aN];rw[ab (by omega)];rfl
     rw[this];exact F.data (by intro cs;simp)
    ·cases h
 |ap o H i j=>
  have hv:=hu.ap_inv;simp only[jn]at h;cases hl:s.look o with
  |none=>simp[hl]at h
  |some obj=>
   have E:=fp W hl;cases obj with
   |rc cs=>simp only[hl,ao.injEq,bm.injEq]at h;obtain⟨rfl,rfl⟩:=h;refine⟨_,i*H+j,_,hv,rfl,by simp;omega,fun k hk=> ?_⟩;obtain⟨v,I,F⟩:=E.cell (k:=i*H+j+k) (by simp only[aB.size];omega);exact⟨v,I,by rw[jA];exact F⟩
   |arr a6 O=>
    simp only[hl,ao.injEq,bm.injEq]at h;obtain⟨rfl,rfl⟩:=h;obtain⟨rfl,hi,T,L⟩:=J;refine⟨_,_,_,hv,rfl,by rw[aC,aX];omega,fun k hk=> ?_⟩
    have a1:i*H+(j+k)<O.length*H:=by have:=bw H (Nat.succ_le_of_lt hi);rw[eI]at this;omega
    obtain⟨v,I,F⟩:=E.cell (k:=i*H+(j+k)) (by simpa only[aB.size]using a1);refine⟨v,by rw[eU];exact I, ?_⟩;rw[gV,jA];have h3:=F.data (by intro cs;simp);simp only[aB.cell]at h3
    rwa[show(i*H+(j+k))/H=i from by rw[cK,Nat.mul_add_div (by omega),Nat.div_eq_of_lt (by omega)];rfl,
     show(i*H+(j+k)) % H=j+k from by rw[cK,Nat.mul_add_mod,dF (by omega)]]at h3
   |bar l=>
    simp only[hl,ao.injEq,bm.injEq]at h;obtain⟨rfl,rfl⟩:=h;obtain⟨rfl,rfl,rfl,hi⟩:=J;refine⟨_,_,_,hv,rfl,by simp,fun k hk=> ?_⟩;obtain rfl:k=0:=by omega
    obtain⟨v,I,F⟩:=E.cell (k:=i) (by simpa only[aB.size]using hi);exact⟨v,by simpa using I,F.data (by intro cs;simp)⟩
 |_=>simp[jn]at h
end Go.Sy
namespace Go.Sy
variable [aW]
variable {P : Program} {C : Ctx} {x : Sit} {s : St} {a : Act} {w : World} {o : Oper} {so : SOp} {p : Prop} {c : SV}
theorem vC(E:aL C x s a w){X:Operand}(h:o.op= .move X\/o.op= .assign X)(F:bv P o=some so)(hv:val s so=some (p,c)):cm P C o a w (s.put o.dst c):=by
 have z:(bt P o.type X).map SOp.mov=some so:=by rcases h with h|h<;>simpa only[bv,h]using F
 obtain⟨r,y,rfl⟩:=ae.1 z;simp only[val,ao.injEq,bm.injEq]at hv;obtain⟨_,rfl⟩:=hv;exact⟨a.eval X,w,x,.value (a.eval X),by rcases h with h|h<;>simp only[execOp,h]<;>rfl,.inl rfl,E.put o.dst (aK E y)⟩
theorem EL(H:aL C x s a w){t:TypeId}{X:Operand}(I:o.op= .load t X)(h:bv P o=some so)(hv:val s so=some (p,c))(J:p):cm P C o a w (s.put o.dst c):=by
 simp only[bv,I]at h;split at h<;>try (cases h;done)
 rename_i n Q r hn F E;split at h<;>try (cases h;done)
 rename_i L;cases h;simp only[val]at hv;obtain⟨b,off,cs,hX,rfl,O⟩:=mv H (aK H E) hv J;obtain⟨v,z,y⟩:=pL (P:=P) O hn F L;refine cm.val H (m:=Instr.loadAt t (a.eval X)) (by simp only[execOp,I]) ?_ y;rw[hX];simp only[Instr.loadAt,Instr.sureAddr,ax,aE,ak];exact z
theorem sV(y:aL C x s a w){X:Operand}(z:o.op= .nilCheck X)(H:bv P o=some so)(hv:val s so=some (p,c)):cm P C o a w (s.put o.dst c):=by
 simp only[bv,z]at H;obtain⟨r,E,rfl⟩:=ae.1 H;have h:=aK y E;simp only[val]at hv;cases hu:s.ev r with
 |ptr I off=>rw[hu]at hv h;simp only[ao.injEq,bm.injEq]at hv;obtain⟨_,rfl⟩:=hv;exact⟨a.eval X,w,x,.value (a.eval X),by simp only[execOp,z];rw[h.ptr_inv];rfl,.inl rfl,y.put o.dst h⟩
 |ap I L i j=>rw[hu]at hv h;simp only[ao.injEq,bm.injEq]at hv;obtain⟨_,rfl⟩:=hv;exact⟨a.eval X,w,x,.value (a.eval X),by simp only[execOp,z];rw[h.ap_inv];rfl,.inl rfl,y.put o.dst h⟩
 |pp cs=>rw[hu]at hv h;simp only[ao.injEq,bm.injEq]at hv;obtain⟨_,rfl⟩:=hv;obtain⟨b,off,val,F,_⟩:=h.pp_inv;exact⟨a.eval X,w,x,.value (a.eval X),by simp only[execOp,z];rw[F];rfl,.inl rfl,y.put o.dst h⟩
 |fn f c1 c2=>rw[hu]at hv h;simp only[ao.injEq,bm.injEq]at hv;obtain⟨_,rfl⟩:=hv;obtain⟨J,v2,F,_⟩:=h.fn_inv;exact⟨a.eval X,w,x,.value (a.eval X),by simp only[execOp,z];rw[F];rfl,.inl rfl,y.put o.dst h⟩
 |_=>rw[hu]at hv;simp at hv
theorem CM(H:aL C x s a w){op:BinOp}{t u:TypeId}{X Y:Operand}(ho:o.op= .binOp op t X Y u)(h:bv P o=some so)(a1:∀z n x y,so≠ .eqS z n x y)(hv:val s so=some (p,c))(hp:p):cm P C o a w (s.put o.dst c):=by
 have I:execOp a.eval o=(do pure (.value (<-(do eqGuard op t X Y (a.eval X) (a.eval Y);binOp op t (a.eval X) (a.eval Y):Sem Value)))):=by simp only[execOp,ho]
 simp only[bv,ho]at h;split at h<;>try (cases h;done)
 ·rename_i x' y' hb hx hy
  have O:=aK H hx;have h2:=aK H hy
  have F:∀z:Bool,op=(if z then .neq else .eql)->val s (.beq z x' y')=some (p,c)->cm P C o a w (s.put o.dst c):=by
   intro z E hv;simp only[val]at hv;cases hu:s.ev x' with
   |bool Q=>
    cases hw:s.ev y' with
    |bool J=>
     rw[hu,hw]at hv;rw[hu]at O;rw[hw]at h2;simp only[ao.injEq,bm.injEq]at hv;obtain⟨_,rfl⟩:=hv;refine cm.val H I (u:= .bool (if z then decide (Q≠J)else decide (Q=J))) ?_ (dT _);rw[O.bool_inv,h2.bool_inv,show eqGuard op t X Y (.bool Q) (.bool J)=pure ()from by cases op<;>rfl];simp only[ax,aE,ak];cases z<;>simp only[az,if_false,if_true]at E<;>subst E
     ·rw[run_eql_bool w t Q J hb];cases Q<;>cases J<;>rfl
     ·rw[run_neq_bool w t Q J hb];cases Q<;>cases J<;>rfl
    |_=>rw[hu,hw]at hv;simp at hv
   |_=>rw[hu]at hv;simp at hv
  split at h<;>try (cases h;done)
  ·cases h;exact F false rfl hv
  ·cases h;exact F true rfl hv
 case h_4=>
  exfalso;split at h<;>try (cases h;done)
  split at h<;>try (cases h;done)
  split at h<;>first|(cases h;done)|(cases h;exact a1 _ _ _ _ rfl)
 case h_5=>exfalso;split at h<;>first|(cases h;done)|(cases h;simp[val]at hv)
 case h_6=>
  rename_i ms x' _ hd hx hy;have O:=aK H hx
  have F:∀z:Bool,op=(if z then .neq else .eql)->Y= .const .nilIface->val s (.isni z x')=some (p,c)->cm P C o a w (s.put o.dst c):=by
   intro z E hY hv;simp only[val]at hv;cases hu:s.ev x' with
   |nili=>
    rw[hu]at hv O;simp only[ao.injEq,bm.injEq]at hv;obtain⟨_,rfl⟩:=hv;refine cm.val H I (u:= .bool (!z)) ?_ (dT _);have L:a.eval Y= .nilIface:=by rw[hY];rfl
    have T:P.underlying t=some (.interface (P.methodsAt t)):=by rw[hd];simp[Program.methodsAt,hd]
    rw[O.nili_inv,L]
    have hg:eqGuard op t X Y .nilIface .nilIface=pure ():=by subst hY;subst E;cases z<;>simp[eqGuard]
    rw[hg];simp only[ax,aE,ak];subst E;cases z
    ·simp only[az,if_false];rw[run_eql_nil_nil w t T];rfl
    ·simp only[if_true];rw[run_neq_nil_nil w t T];rfl
   |ife=>
    rw[hu]at hv O;simp only[ao.injEq,bm.injEq]at hv;obtain⟨_,rfl⟩:=hv;refine cm.val H I (u:= .bool z) ?_ (dT _);have L:a.eval Y= .nilIface:=by rw[hY];rfl
    have T:P.underlying t=some (.interface (P.methodsAt t)):=by rw[hd];simp[Program.methodsAt,hd]
    obtain⟨ti,vi,hi⟩:=O.ife_inv;rw[hi,L]
    have hg:eqGuard op t X Y (.iface ti vi) .nilIface=pure ():=by subst hY;subst E;cases z<;>simp[eqGuard]
    rw[hg];simp only[ax,aE,ak];subst E;cases z
    ·simp only[az,if_false];rw[run_eql_held_nil w t ti vi T]
    ·simp only[if_true];rw[run_neq_held_nil w t ti vi T]
   |_=>rw[hu]at hv;simp at hv
  split at h<;>first|(cases h;done)|(cases h;exact F false rfl rfl hv)|(cases h;exact F true rfl rfl hv)
 all_goals
  rename_i hx hy;cases h;simp only[val]at hv;obtain⟨r,Z,W⟩:=QH (P:=P) (w:=w) (t:=t) (X:=X) (Y:=Y) (aK H hx) (aK H hy) hv hp;exact cm.val H I Z W
theorem EK(z:aL C x s a w){op:UnOp}{t:TypeId}{X:Operand}(E:o.op= .unOp op t X)(H:bv P o=some so)(hv:val s so=some (p,c)):cm P C o a w (s.put o.dst c):=by
 simp only[bv,E]at H;obtain⟨r,F,rfl⟩:=ae.1 H;have y:=aK z F;simp only[val]at hv;obtain⟨J,h,I⟩:=ae.1 hv;simp only[bm.injEq]at I;obtain⟨_,rfl⟩:=I;cases hu:s.ev r with
 |bool b=>rw[hu]at h y;cases op<;>simp only[wP,ao.injEq,reduceCtorEq]at h;subst h;exact cm.val z (m:=Op.unary .not (a.eval X)) (by simp only[execOp,E]) (by rw[y.bool_inv];rfl) (dT _)
 |int k n=>
  rw[hu]at h y;cases op<;>simp only[wP,ao.injEq,reduceCtorEq]at h<;>subst h
  ·exact cm.val z (m:=Op.unary .neg (a.eval X)) (by simp only[execOp,E]) (by rw[y.int_inv];rfl) (cT _ _)
  ·exact cm.val z (m:=Op.unary .xor (a.eval X)) (by simp only[execOp,E]) (by rw[y.int_inv];simp only[Op.unary,Op.intBits];rfl) (cT _ _)
 |_=>rw[hu]at h;simp[wP]at h
theorem sW(I:aL C x s a w){f:Go.Fn}{X Y:Array Operand}(J:o.op= .makeFunc f X Y)(z:bv P o=some so)(hv:val s so=some (p,c)):cm P C o a w (s.put o.dst c):=by
 cases f<;>simp only[bv,J,reduceCtorEq]at z;rename_i g;split at z<;>try (cases z;done)
 rename_i l1 l2 W T;cases z;simp only[val,ao.injEq,bm.injEq]at hv;obtain⟨_,rfl⟩:=hv
 have y:∀(l:List Operand)(r:List Arg),kf (bt P 0) l=some r->cn x (r.map s.ev) (l.map a.eval):=by
  intro l;induction l with
  |nil=>intro r h;simp only[kf]at h;cases h;exact⟨rfl,fun i hi=>by simp at hi⟩
  |cons q l O=>
   intro r h;simp only[kf]at h;split at h<;>try (cases h;done)
   rename_i b Z Q E;cases h;have L:=O _ E;refine⟨by simpa using L.1,fun i hi=> ?_⟩;cases i with
   |zero=>simpa using aK I Q
   |succ i=>simpa using L.2 i (by simpa using hi)
 have F:=y _ _ W;have H:=y _ _ T;refine cm.val I (m:=Instr.makeFunc (.func g) (X.map a.eval) (Y.map a.eval)) (u:= .func (.func g) ⟨X.toList.map a.eval⟩ ⟨Y.toList.map a.eval⟩) (by simp only[execOp,J]) ?_ ?_
 ·simp only[Instr.makeFunc,aE]
  congr 2<;>(apply eK;simp)
 ·exact .fn g _ _ _ _ F.1 F.2 H.1 H.2
theorem vo(F:aL C x s a w){X:Operand}{i:Nat}(I:o.op= .extract X i)(E:bv P o=some so)(hv:val s so=some (p,c))(z:p):cm P C o a w (s.put o.dst c):=by
 simp only[bv,I]at E;obtain⟨r,y,rfl⟩:=ae.1 E;have h:=aK F y;simp only[val]at hv;cases hu:s.ev r with
 |tup vs=>
  rw[hu]at hv h;simp only[ao.injEq,bm.injEq]at hv;obtain⟨rfl,rfl⟩:=hv;obtain⟨us,J,H⟩:=h.tup_inv;have hi:i<us.length:=by rw[<-H.1];exact z
  refine cm.val F (m:=Instr.extract (a.eval X) i) (u:=us.getD i undef) (by simp only[execOp,I]) ?_ (H.2 i z);rw[J];simp[Instr.extract,hi,aa]
 |_=>rw[hu]at hv;simp at hv
theorem re(z:aL C x s a w){t:TypeId}{X:Operand}{i:Nat}(E:o.op= .fieldAddr t X i)(y:bv P o=some so)(hv:val s so=some (p,c)):cm P C o a w (s.put o.dst c):=by
 simp only[bv,E]at y;split at y<;>try (cases y;done)
 rename_i fs r L F;split at y<;>try (cases y;done)
 rename_i f Z;split at y<;>try (cases y;done)
 rename_i n hn;split at y
 ·cases y
 rename_i hn0;cases y;have h:=aK z F
 have run:∀b off,a.eval X= .pointer (some ⟨b,off,none⟩)->(Instr.fieldAt t (a.eval X) i).run P w= .ok (.pointer (some ⟨b,off+f.offset,none⟩)) w:=by intro b off J;rw[J];simp only[Instr.fieldAt,ax,run_underlying L,ak,Z,Instr.sureAddr,aE,fieldPlace,da hn,if_neg hn0,dD]
 simp only[val]at hv;cases hu:s.ev r with
 |ptr I off=>rw[hu]at hv h;simp only[ao.injEq,bm.injEq]at hv;obtain⟨_,rfl⟩:=hv;exact cm.val z (by simp only[execOp,E]) (run _ _ h.ptr_inv) (.ptr I (off+f.offset))
 |ap I Q i j=>rw[hu]at hv h;simp only[ao.injEq,bm.injEq]at hv;obtain⟨_,rfl⟩:=hv;refine cm.val z (by simp only[execOp,E]) (run _ _ h.ap_inv) ?_;rw[eU];exact .ap I Q i (j+f.offset)
 |pp cs=>
  rw[hu]at hv h;simp only[ao.injEq,bm.injEq]at hv;obtain⟨_,rfl⟩:=hv;obtain⟨b,off,T,J,O,W⟩:=h.pp_inv;refine cm.val z (by simp only[execOp,E]) (run _ _ J) (.dat _ _ (.pp _ b (off+f.offset) (fun j=>T (f.offset+j)) ?_ ?_) trivial)
  ·intro j H;rw[eU];exact O _ (by simp only[aX]at H;omega)
  ·intro j H;rw[jA];exact W _ (by simp only[aX]at H;omega)
 |_=>rw[hu]at hv;simp at hv
theorem vU{cs:t6}{vs:LAa}(h:cn x cs vs){t:TypeId}{n:Nat}{z:Bool}{off:Nat}(hn:fZ P t=some n)(y:rq P t=some z)(E:(z||n==1)=true)(H:off+n<=cs.length):
 ∃v,(part t ⟨vs⟩ off).run P w= .ok v w/\Rep x (dP z n (cs.drop off)) v:=by
 have F:=h.1;cases z with
 |true=>
  refine⟨.agg ⟨(vs.drop off).take n⟩, ?_, ?_⟩
  ·simp only[part,ax,lf y,ak,if_true,da hn,aE]
   congr 2
   apply eK;simp
  ·simp only[dP,if_true]
   refine .agg _ _ (by simp;omega) fun i hi=> ?_
   have hi:i<n:=by simp only[av]at hi;omega
   have:=h.get (off+i);simp only[aa,bG,if_pos hi,bO]at this ⊢;exact this
 |false=>
  simp at E;subst E;refine⟨vs.getD off undef, ?_, ?_⟩
  ·simp only[part,ax,lf y,ak,az,if_false]
   have:off<vs.length:=by omega
   simp[ab this,aa]
  ·simp only[dP,az,if_false,jA,bW]
   exact h.get off
theorem CK(I:aL C x s a w){t:TypeId}{X:Operand}{i:Nat}(J:o.op= .field t X i)(h:bv P o=some so)(hv:val s so=some (p,c))(L:p):cm P C o a w (s.put o.dst c):=by
 simp only[bv,J]at h;split at h<;>try (cases h;done)
 rename_i fs r H E;split at h<;>try (cases h;done)
 rename_i f W;split at h<;>try (cases h;done)
 rename_i n ag hn F;split at h<;>try (cases h;done)
 rename_i O;cases h;have y:=aK I E;simp only[val]at hv;cases hu:s.ev r with
 |agg cs=>rw[hu]at hv y;simp only[ao.injEq,bm.injEq]at hv;obtain⟨rfl,rfl⟩:=hv;obtain⟨vs,Q,T⟩:=y.agg_inv;obtain⟨v,z,Z⟩:=vU (P:=P) (w:=w) T hn F O L;refine cm.val I (m:=Instr.field t (a.eval X) i) (by simp only[execOp,J]) ?_ Z;rw[Q];simp only[Instr.field,ax,run_underlying H,ak,W,asAgg,aE];exact z
 |_=>rw[hu]at hv;simp at hv
theorem Gt{l:d9}{t:Tok}{v:Value}(h:cy x.G (.byt l t) v)(i:Nat)(hi:i<l.length):∃b off cap,v= .slice (some ⟨b,off,none⟩) l.length cap/\x.G b (off+i)=some (.int .u8 (l.getD i 0).toNat):=by
 cases h with
 |bytN=>simp at hi
 |bytE=>simp at hi
 |byt _ _ b off cap n hn y h=>subst hn;exact⟨b,off,cap,rfl,h i hi⟩
theorem ju{u:SV}{v:Value}{n:Int}(h:Rep x u v)(hn:u.num=some n):∃k,v= .int k n:=by
 cases u<;>simp only[SV.num,ao.injEq,reduceCtorEq]at hn
 ·subst hn;exact⟨_,h.int_inv⟩
 ·subst hn;exact⟨_,h.u8_inv⟩
theorem rb(I:aL C x s a w){t:TypeId}{X Y:Operand}(ho:o.op= .indexAddr t X Y)(L:bv P o=some so)(hv:val s so=some (p,c))(Q:p):cm P C o a w (s.put o.dst c):=by
 have z:execOp a.eval o=(do pure (.value (<-Instr.indexAt t (a.eval X) (a.eval Y)))):=by simp only[execOp,ho]
 simp only[bv,ho]at L;split at L<;>try (cases L;done)
 ·rename_i e r q hd T W
  split at L<;>try (cases L;done)
  rename_i n hn;cases L;have E:=aK I T;have h2:=aK I W
  have run:∀(b:Nat)(off len cap:Nat)(k:IntKind)(i:Int),a.eval X= .slice (some ⟨b,off,none⟩) len cap->a.eval Y= .int k i->0<=i->i<len->(Instr.indexAt t (a.eval X) (a.eval Y)).run P w= .ok (.pointer (some ⟨b,off+i.toNat*n,none⟩)) w:=by intro b off len cap k i he hf y F;rw[he,hf];simp only[Instr.indexAt,asIntOf,ax,aE,ak,run_underlying hd,if_pos (And.intro y F),da hn,dD]
  simp only[val]at hv;split at hv<;>try (cases hv;done)
  ·rename_i l tk i hu O
   rw[hu]at E;obtain⟨k,H⟩:=ju h2 O;simp only[ao.injEq,bm.injEq]at hv;obtain⟨rfl,rfl⟩:=hv;obtain⟨y,F,rfl⟩:=Q;obtain⟨b,off,cap,he,hg⟩:=Gt (E.data rfl) i.toNat (by omega);refine cm.val I z (run b off l.length cap k i he H y F) (.dat _ _ (.pp _ b (off+i.toNat*1) (fun _=> .int .u8 (l.getD i.toNat 0).toNat) ?_ ?_) trivial)
   ·intro j J
    obtain rfl:j=0:=by simpa using J
    simpa using hg
   ·intro j J
    obtain rfl:j=0:=by simpa using J
    exact .u8 _
  ·rename_i a7 xs tk i hu O
   rw[hu]at E;obtain⟨k,H⟩:=ju h2 O;simp only[ao.injEq,bm.injEq]at hv;obtain⟨rfl,rfl⟩:=hv;obtain⟨y,F,rfl⟩:=Q;have h:=E.data rfl;cases hXv:a.eval X with
   |slice ad len cap=>
    rw[hXv]at h;cases h with
    |lstN=>simp at F;omega
    |lstE=>simp at F;omega
    |lst _ _ _ b off b1 n' vl b2 hc hl hg hh=>
     have Z:i.toNat<len:=by omega
     have a8:=hl _ Z;refine cm.val I z (run b off len cap k i hXv H y (by omega)) (.dat _ _ (.pp _ b (off+i.toNat*n) (fun j=>vl i.toNat j) ?_ ?_) trivial)
     ·intro j J;exact hg _ _ Z (by omega)
     ·intro j J;exact hh _ _ Z (by omega)
   |_=>rw[hXv]at h;cases h
  ·rename_i o' a7 off kk cp i hu O
   rw[hu]at E;obtain⟨k,H⟩:=ju h2 O;simp only[ao.injEq,bm.injEq]at hv;obtain⟨rfl,rfl⟩:=hv;obtain⟨y,F,rfl⟩:=Q;obtain⟨cp,b3,_,a6,he,a1⟩:=E.psl_inv;refine cm.val I z (run _ a6 kk _ k i he H y F) ?_;rcases a1 with h'|rfl
   ·omega
   ·rw[<-bN]
    exact .ap o' n (off+i.toNat) 0
 ·rename_i kk e r q hd T W
  split at L<;>try (cases L;done)
  rename_i n hn;cases L;have E:=aK I T;have h2:=aK I W
  have run:∀(b:Nat)(off:Nat)(k:IntKind)(i:Int),a.eval X= .pointer (some ⟨b,off,none⟩)->a.eval Y= .int k i->0<=i->i<kk->(Instr.indexAt t (a.eval X) (a.eval Y)).run P w= .ok (.pointer (some ⟨b,off+i.toNat*n,none⟩)) w:=by intro b off k i he hf y F;rw[he,hf];simp only[Instr.indexAt,asIntOf,Instr.sureAddr,ax,aE,ak,run_underlying hd,if_pos (And.intro y F),da hn,dD]
  simp only[val]at hv;split at hv<;>try (cases hv;done)
  ·rename_i o' off i hu O
   rw[hu]at E;obtain⟨k,H⟩:=ju h2 O;split at hv<;>try (cases hv;done)
   ·simp only[ao.injEq,bm.injEq]at hv;obtain⟨rfl,rfl⟩:=hv
    exact cm.val I z (run _ off k i E.ptr_inv H Q.1 Q.2) (.ptr o' _)
   ·split at hv<;>try (cases hv;done)
    rename_i y;subst y;simp only[ao.injEq,bm.injEq]at hv;obtain⟨rfl,rfl⟩:=hv;refine cm.val I z (run _ 0 k i E.ptr_inv H Q.1 Q.2) ?_;rw[cd];exact .ap o' n i.toNat 0
  ·rename_i cs i hu O
   rw[hu]at E;obtain⟨k,H⟩:=ju h2 O;simp only[ao.injEq,bm.injEq]at hv;obtain⟨rfl,rfl⟩:=hv;obtain⟨y,F,h4⟩:=Q;have h:=E.data rfl;cases hXv:a.eval X with
   |pointer ad=>
    rw[hXv]at h;cases h with
    |pp _ b off vl hg hh=>
     refine cm.val I z (run b off k i hXv H y F) (.dat _ _ (.pp _ b (off+i.toNat*n) (fun j=>vl (i.toNat*n+j)) ?_ ?_) trivial)
     ·intro j J
      rw[aX]at J;rw[eU];exact hg _ (by omega)
     ·intro j J
      rw[aX]at J;have:=hh (i.toNat*n+j) (by omega);simp only[aa,bO]at this ⊢;exact this
   |_=>rw[hXv]at h;cases h
theorem CJ(F:aL C x s a w){t:TypeId}{X Y:Operand}(ho:o.op= .index t X Y)(h:bv P o=some so)(hv:val s so=some (p,c))(hp:p):cm P C o a w (s.put o.dst c):=by
 have I:execOp a.eval o=(do pure (.value (<-Instr.index t (a.eval X) (a.eval Y)))):=by simp only[execOp,ho]
 simp only[bv,ho]at h;split at h<;>try (cases h;done)
 ·rename_i kk e r q hd z E
  split at h<;>try (cases h;done)
  rename_i n ag hn O;split at h<;>try (cases h;done)
  rename_i W;cases h;have H:=aK F z;have T:=aK F E;simp only[val]at hv;split at hv<;>try (cases hv;done)
  rename_i cs i hu Z;rw[hu]at H;obtain⟨k,Q⟩:=ju T Z;simp only[ao.injEq,bm.injEq]at hv;obtain⟨rfl,rfl⟩:=hv;obtain⟨h0,h3,h4⟩:=hp;obtain⟨vs,he,hl⟩:=H.agg_inv;have y:i.toNat<kk:=by omega
  have hb:i.toNat*n+n<=cs.length:=by rw[h4];have:=bw n (Nat.succ_le_of_lt y);rw[eI]at this;exact this
  obtain⟨v,J,hc⟩:=vU (P:=P) (w:=w) hl hn O W hb;refine cm.val F I ?_ hc;rw[he,Q];simp only[Instr.index,asIntOf,ax,aE,ak,run_underlying hd,if_pos (And.intro h0 h3),da hn];exact J
 ·rename_i r q hd z E
  cases h;have H:=aK F z;have T:=aK F E;simp only[val]at hv;split at hv<;>try (cases hv;done)
  rename_i l i hu Z;rw[hu]at H;obtain⟨k,Q⟩:=ju T Z;simp only[ao.injEq,bm.injEq]at hv;obtain⟨rfl,rfl⟩:=hv;refine cm.val F I (u:= .int .u8 (l.getD i.toNat 0).toNat) ?_ (oR _);rw[H.str_inv,Q];have y:i.toNat<l.length:=by omega
  have L:(ByteArray.mk ⟨l⟩)[i.toNat]? =some (l.getD i.toNat 0):=by rw[ByteArray.getElem?_lt' _ _ (by simpa[ByteArray.size]using y),aa,ab y];rfl
  simp only[Instr.index,asIntOf,ax,aE,ak,run_underlying hd,if_pos hp.1,L]
end Go.Sy
namespace Go.Sy
variable [aW]
variable {P : Program} {C : Ctx} {x : Sit} {s : St} {a : Act} {w : World} {o : Oper} {so : SOp} {p : Prop} {c : SV}
theorem kv{k:IntKind}{i:Int}{y:Nat}{code:BoundsCode}(h:0<=i)(z:i<=y):(Instr.sliceBound (.int k i) y code).run P w= .ok i.toNat w:=by simp only[Instr.sliceBound,asIntOf,ax,aE,ak,if_pos (And.intro h z)]
theorem tp{b:Bool}{len F:Nat}{lo hi h:Option Value}{i j m:Int}(z:0<=i)(J:i<=j)(I:j<=m)(L:m<=F)
 (H:lo=none/\i=0\/∃k,lo=some (.int k i)) (E:hi=none/\j=len\/∃k,hi=some (.int k j)) (y:h=none/\m=F\/(∃k,h=some (.int k m))/\hi≠none):
 (Instr.sliceBounds b len F lo hi h).run P w= .ok (i.toNat,j.toNat,m.toNat) w:=by
 rcases y with⟨rfl,rfl⟩|⟨⟨k,rfl⟩,hne⟩<;>rcases E with⟨rfl,rfl⟩|⟨k',rfl⟩<;>rcases H with⟨rfl,rfl⟩|⟨k'',rfl⟩
 all_goals try exact absurd rfl hne
 all_goals simp only[Instr.sliceBounds,ax,aE,ak]
 ·simp
 ·rw[kv z (by omega)];simp
 ·rw[kv (by omega) (by omega)];simp
 ·rw[kv (by omega) (by omega)];simp only[ak];rw[kv z (by omega)];simp
 ·rw[kv (by omega) (by omega)];simp only[ak];rw[kv (by omega) (by omega)];simp
 ·rw[kv (by omega) (by omega)];simp only[ak];rw[kv (by omega) (by omega)];simp only[ak];rw[kv z (by omega)];simp
theorem gC(E:aL C x s a w){q:Option Operand}{r:Option Arg}{d i:Int}(y:vW (bt P 0) q=some r)(h:jl s r d=some i):
 q.map a.eval=none/\i=d/\r=none\/(∃k,q.map a.eval=some (.int k i))/\r≠none:=by
 cases q with
 |none=>simp only[vW]at y;cases y;simp only[jl,ao.injEq]at h;exact .inl ⟨rfl,h.symm,rfl⟩
 |some q=>simp only[vW]at y;obtain⟨H,z,rfl⟩:=ae.1 y;simp only[jl]at h;obtain⟨k,F⟩:=ju (aK E z) h;exact .inr ⟨⟨k,by simp[F]⟩,by simp⟩
theorem vK{I:Nat}{h:Option Addr}{n J:Nat}{i j m:Int}(h1:0<=i)(h2:i<=j)(h3:j<=m)(h4:m<=J)(h5:j<=n){t:Tok}{hn E:Bool}
 (H:dM x I t (.slice h n J)) (y:hn=true->E=false->j=n/\m=J) (z:E=true->j=m):
 dM x I (mE t hn E) (.slice (if m.toNat=i.toNat then h else h.map (·.add (i.toNat*I))) (j.toNat-i.toNat) (m.toNat-i.toNat)):=by
 unfold mE;split
 ·rename_i Q
  exact⟨_,j.toNat-i.toNat,by rw[z Q]⟩
 ·rename_i Q
  split
  ·rename_i O
   obtain⟨rfl,rfl⟩:=y O (by simpa using Q);cases t with
   |no=>trivial
   |clip=>obtain⟨W,T,F⟩:=H;simp only[Value.slice.injEq]at F;exact⟨_,_,by rw[F.2.1,F.2.2]⟩
   |id t=>
    obtain⟨W,T,Z,F,O⟩:=H;simp only[Value.slice.injEq]at F;obtain⟨rfl,rfl,rfl⟩:=F;refine⟨_,_,_,rfl, ?_⟩;rcases O with rfl|⟨bb,off,rfl,ht⟩
    ·exact .inl rfl
    ·by_cases L:J=i.toNat
     ·left;omega
     ·right
      refine⟨bb,off+i.toNat*I,by simp[L,dD], ?_⟩;rw[ht];simp only[fX,bm.injEq,true_and];constructor
      ·rw[eU,<-bN];congr 2;omega
      ·rw[eU,<-bN];congr 2;omega
  ·trivial
theorem iG{α:Type}(l:List α)(i j k:Nat)(d:α)(h:k+i<j):((l.take j).drop i).getD k d=l.getD (i+k) d:=by simp only[aa,bO,bG];rw[if_pos (by omega)]
theorem vr(hM:aL C x s a w){t e:TypeId}{n:Nat}(hd:P.underlying t=some (.slice e))(hn:fZ P e=some n){X:Operand}{lo hi mx:Option Operand}{b3 Z y:Option Arg}{r:Arg}
 (h1:Rep x (s.ev r) (a.eval X)) (e4:vW (bt P 0) lo=some b3) (e0:vW (bt P 0) hi=some Z) (b5:vW (bt P 0) mx=some y) (e5:¬(y.isSome&&Z.isNone)=true)
 (hv:jX s n (s.ev r) b3 Z y=some (p,c)) (hp:p):∃v,(CG t (a.eval X) (lo.map a.eval) (hi.map a.eval) (mx.map a.eval)).run P w= .ok v w/\Rep x c v:=by
 have run:∀(F:Option Addr)(len H:Nat)(i j m:Int),a.eval X= .slice F len H->0<=i->i<=j->j<=m->m<=H->jl s b3 0=some i->jl s Z len=some j->
  (y=none->m=H)->(y≠none->jl s y H=some m)->
  (CG t (a.eval X) (lo.map a.eval) (hi.map a.eval) (mx.map a.eval)).run P w= .ok (.slice (if m.toNat=i.toNat then F else F.map (·.add (i.toNat*n))) (j.toNat-i.toNat) (m.toNat-i.toNat)) w:=by
  intro F len H i j m he h0 h2 h3 h4 O E e8 d6;rw[he];have e1:=gC hM e4 O;have e2:=gC hM e0 E
  have hb:(Instr.sliceBounds true len H (lo.map a.eval) (hi.map a.eval) (mx.map a.eval)).run P w= .ok (i.toNat,j.toNat,m.toNat) w:=by
   refine tp h0 h2 h3 h4 ?_ ?_ ?_
   ·rcases e1 with⟨I,q2,_⟩|⟨I,_⟩
    ·exact .inl ⟨I,q2⟩
    ·exact .inr I
   ·rcases e2 with⟨I,q2,_⟩|⟨I,_⟩
    ·exact .inl ⟨I,q2⟩
    ·exact .inr I
   ·by_cases z:y=none
    ·subst z
     have:jl s none (H:Int)=some (H:Int):=rfl;rcases gC hM b5 this with⟨I,q2,_⟩|⟨_,q2⟩
     ·exact .inl ⟨I,e8 rfl⟩
     ·exact absurd rfl q2
    ·rcases gC hM b5 (d6 z)with⟨_,_,q⟩|⟨I,_⟩
     ·exact absurd q z
     ·refine .inr ⟨I, ?_⟩
      rcases e2 with⟨I,_,q3⟩|⟨⟨k,I⟩,_⟩
      ·exfalso;apply e5;subst q3;cases y with
       |none=>exact absurd rfl z
       |some _=>rfl
      ·rw[I];simp
  simp only[CG,Instr.slice,ax,run_underlying hd,ak,hb,da hn,aE]
 cases hu:s.ev r with
 |byt l tk=>
  rw[hu]at hv h1;simp only[jX]at hv;split at hv<;>try (cases hv;done)
  rename_i i j m O E a7;simp only[ao.injEq,bm.injEq]at hv;obtain⟨rfl,rfl⟩:=hv;obtain⟨q0,I,q2,q3,rfl,q4⟩:=hp;obtain⟨F,H,he,hc,hD,b2⟩:=h1.byt_inv;rw[he]at hD b2
  obtain⟨L,a1,Q,W,a6⟩:∃L:Int,L<=H/\j<=L/\(y=none->L=H)/\(y≠none->L=m):=by
   by_cases z:y=none
   ·exact⟨H,by omega,by omega,fun _=>rfl,fun h=>absurd z h⟩
   ·exact⟨m,by omega,q2,fun h=>absurd h z,fun _=>rfl⟩
  refine⟨_,run F l.length H i j L he q0 I Q a1 O E W (fun h=> ?_), ?_⟩
  ·rw[a6 h];cases y with
   |none=>exact absurd rfl h
   |some q=>simpa only[jl]using a7
  ·refine .dat _ _ ?_ ?_
   ·have T:((l.take j.toNat).drop i.toNat).length=j.toNat-i.toNat:=by rw[aX,av,iA (by omega)]
    cases hD with
    |bytN=>
     have:i.toNat=0/\j.toNat=0/\L.toNat=0:=by simp at q3;omega
     obtain⟨z1,z2,z3⟩:=this;simp only[z1,z2,z3,List.take_nil,List.drop_nil,Option.map_none,ite_self];exact .bytN _
    |bytE _ ad=>
     have:i.toNat=0/\j.toNat=0/\L.toNat=0:=by simp at q3;omega
     obtain⟨z1,z2,z3⟩:=this;simp only[z1,z2,z3,List.take_nil,List.drop_nil,if_true];exact .bytE _ _
    |byt _ _ b off _ _ e3 b6 hg=>
     by_cases J:L.toNat=i.toNat
     ·rw[if_pos J]
      exact .byt _ _ b off _ _ T.symm (by omega) (fun k hk=>by omega)
     ·rw[if_neg J,bn,dD]
      refine .byt _ _ b (off+i.toNat*1) _ _ T.symm (by omega) (fun k hk=> ?_);rw[iG _ _ _ _ _ (by omega),js,eU];exact hg _ (by omega)
   ·refine vK q0 I Q a1 (by omega) b2 ?_ ?_
    ·intro hh hx
     have z:y=none:=by cases y with|none=>rfl|some _=>simp at hx
     have b4:Z=none:=by cases Z with|none=>rfl|some _=>simp at hh
     subst b4;simp only[jl,ao.injEq]at E;exact⟨E.symm,W z⟩
    ·intro hx
     have z:y≠none:=by rintro rfl;simp at hx
     rw[a6 z];exact q4 hx
 |lst e7 l tk=>
  rw[hu]at hv h1;simp only[jX]at hv;split at hv<;>try (cases hv;done)
  rename_i i j m O E a7;simp only[ao.injEq,bm.injEq]at hv;obtain⟨rfl,rfl⟩:=hv;obtain⟨q0,I,q2,q3,rfl,q4⟩:=hp;obtain⟨F,H,he,hc,hD,b2⟩:=h1.lst_inv;rw[he]at hD b2
  obtain⟨L,a1,Q,W,a6⟩:∃L:Int,L<=H/\j<=L/\(y=none->L=H)/\(y≠none->L=m):=by
   by_cases z:y=none
   ·exact⟨H,by omega,by omega,fun _=>rfl,fun h=>absurd z h⟩
   ·exact⟨m,by omega,q2,fun h=>absurd h z,fun _=>rfl⟩
  refine⟨_,run F l.length H i j L he q0 I Q a1 O E W (fun h=> ?_), ?_⟩
  ·rw[a6 h];cases y with
   |none=>exact absurd rfl h
   |some q=>simpa only[jl]using a7
  ·refine .dat _ _ ?_ ?_
   ·have T:((l.take j.toNat).drop i.toNat).length=j.toNat-i.toNat:=by rw[aX,av,iA (by omega)]
    cases hD with
    |lstN=>
     have:i.toNat=0/\j.toNat=0/\L.toNat=0:=by simp at q3;omega
     obtain⟨z1,z2,z3⟩:=this;simp only[z1,z2,z3,List.take_nil,List.drop_nil,Option.map_none,ite_self];exact .lstN _ _
    |lstE _ _ ad=>
     have:i.toNat=0/\j.toNat=0/\L.toNat=0:=by simp at q3;omega
     obtain⟨z1,z2,z3⟩:=this;simp only[z1,z2,z3,List.take_nil,List.drop_nil,if_true];exact .lstE _ _ _
    |lst _ _ _ b off _ _ vl e3 b6 hl hg hh=>
     by_cases J:L.toNat=i.toNat
     ·rw[if_pos J]
      exact .lst _ _ _ b off _ _ vl T.symm (by omega) (fun k hk=>by omega) (fun k j' hk hj=>by omega) (fun k j' hk hj=>by omega)
     ·rw[if_neg J,bn,dD]
      refine .lst _ _ _ b (off+i.toNat*n) _ _ (fun k j'=>vl (i.toNat+k) j') T.symm (by omega) (fun k hk=> ?_) (fun k j' hk hj=> ?_) (fun k j' hk hj=> ?_)
      ·rw[iG _ _ _ _ _ (by omega)];exact hl _ (by omega)
      ·rw[show off+i.toNat*n+k*n+j'=off+(i.toNat+k)*n+j' from by rw[bN];omega]
       exact hg _ _ (by omega) hj
      ·rw[iG _ _ _ _ _ (by omega)];exact hh _ _ (by omega) hj
   ·refine vK q0 I Q a1 (by omega) b2 ?_ ?_
    ·intro hh hx
     have z:y=none:=by cases y with|none=>rfl|some _=>simp at hx
     have b4:Z=none:=by cases Z with|none=>rfl|some _=>simp at hh
     subst b4;simp only[jl,ao.injEq]at E;exact⟨E.symm,W z⟩
    ·intro hx
     have z:y≠none:=by rintro rfl;simp at hx
     rw[a6 z];exact q4 hx
 |psl o' e7 off k b7=>
  cases b7 with
  |none=>
   rw[hu]at hv h1;simp only[jX]at hv;split at hv<;>try (cases hv;done)
   rename_i i j O E;simp only[ao.injEq,bm.injEq]at hv;obtain⟨rfl,rfl⟩:=hv;obtain⟨q0,I,q2,rfl⟩:=hp;obtain⟨H,c7,b1,he,a8,d7⟩:=h1.psl_invK;refine⟨_,run _ k H i j H he q0 I (by omega) (by omega) O E (fun _=>rfl) (fun h=>absurd rfl h), ?_⟩
   by_cases J:(H:Int).toNat=i.toNat
   ·rw[if_pos J]
    exact .psl o' n _ _ _ b1 _ (.inl (by omega)) (by omega) (fun _ e=>by cases e) (fun _=> .inl (by omega))
   ·rw[if_neg J,bn,dD]
    refine .psl o' n _ _ _ _ _ (.inr ?_) (by omega) (fun _ e=>by cases e) (fun _=>d7.imp (fun h=>by omega) fun k1=> ?_)
    rotate_left
    ·have e2:i.toNat*n+((H:Int).toNat-i.toNat)*n=H*n:=by rw[<-bN];congr 1;omega
     omega
    rcases a8 with h'|rfl
    ·omega
    ·rw[bN]
  |some e6=>
   rw[hu]at hv h1;simp only[jX]at hv;split at hv<;>try (cases hv;done)
   rename_i i j m O E a7;simp only[ao.injEq,bm.injEq]at hv;obtain⟨rfl,rfl⟩:=hv;obtain⟨q0,I,q2,q3,rfl⟩:=hp;obtain⟨H,c7,d5,b1,he,a8⟩:=h1.psl_inv;obtain rfl:=d5 _ rfl;refine⟨_,run _ k e6 i j m he q0 I q2 q3 O E (fun h=> ?_) (fun _=>a7), ?_⟩
   ·subst h;simp only[jl,ao.injEq]at a7;exact a7.symm
   ·by_cases J:m.toNat=i.toNat
    ·rw[if_pos J]
     exact .psl o' n _ _ _ b1 _ (.inl (by omega)) (by omega) (fun _ e=>by cases e;rfl) (fun e=>by cases e)
    ·rw[if_neg J,bn,dD]
     refine .psl o' n _ _ _ _ _ (.inr ?_) (by omega) (fun _ e=>by cases e;rfl) (fun e=>by cases e);rcases a8 with h'|rfl
     ·omega
     ·rw[bN]
 |_=>rw[hu]at hv;simp[jX]at hv
end Go.Sy
namespace Go.Sy
variable [aW]
variable {P : Program} {C : Ctx} {x : Sit} {s : St} {a : Act} {w : World} {o : Oper} {so : SOp} {p : Prop} {c : SV}
theorem Az(l:d9)(i j:Nat):(ByteArray.mk ⟨l⟩).extract i j=ByteArray.mk ⟨(l.take j).drop i⟩:=by apply ByteArray.ext;simp[ByteArray.data_extract,List.extract_eq_take_drop,List.drop_take]
theorem CI(z:aL C x s a w){t:TypeId}{X:Operand}{lo hi Z:Option Operand}(ho:o.op= .slice t X lo hi Z)(y:bv P o=some so)(hv:val s so=some (p,c))(hp:p):cm P C o a w (s.put o.dst c):=by
 have J:execOp a.eval o=(do pure (.value (<-CG t (a.eval X) (lo.map a.eval) (hi.map a.eval) (Z.map a.eval)))):=by simp only[execOp,ho]
 simp only[bv,ho]at y;split at y<;>try (cases y;done)
 rename_i b2 b3 b1 r I H E hX;split at y
 ·cases y
 rename_i T;split at y<;>try (cases y;done)
 ·rename_i hd
  split at y<;>try (cases y;done)
  rename_i a7;cases y;have Q:=aK z hX;simp only[val]at hv;cases hu:s.ev r with
  |str l=>
   rw[hu]at hv Q;simp only[]at hv;split at hv<;>try (cases hv;done)
   rename_i i j F L;simp only[ao.injEq,bm.injEq]at hv;obtain⟨rfl,rfl⟩:=hv;obtain⟨q0,q1,q2⟩:=hp;refine cm.val z J (u:= .string ⟨⟨(l.take j.toNat).drop i.toNat⟩⟩) ?_ (lL _);have e1:=gC z I F;have e2:=gC z H L
   have O:Z.map a.eval=none:=by
    cases Z with
    |none=>rfl
    |some q=>simp only[vW]at E;obtain⟨_,_,rfl⟩:=ae.1 E;simp at a7
   have hb:(Instr.sliceBounds false l.length l.length (lo.map a.eval) (hi.map a.eval) none).run P w= .ok (i.toNat,j.toNat,(l.length:Int).toNat) w:=
    tp q0 q1 q2 (by omega) (e1.imp (fun h=>⟨h.1,h.2.1⟩) (fun h=>h.1)) (e2.imp (fun h=>⟨h.1,h.2.1⟩) (fun h=>h.1)) (.inl ⟨rfl,rfl⟩)
   rw[Q.str_inv,O];have a8:(ByteArray.mk ⟨l⟩).size=l.length:=by simp[ByteArray.size]
   simp only[CG,Instr.slice,ax,run_underlying hd,ak,a8,hb,Az,eh,az,if_false,aE]
  |_=>rw[hu]at hv;simp at hv
 ·rename_i e hd
  split at y<;>try (cases y;done)
  rename_i n hn;cases y;simp only[val]at hv;obtain⟨v,a1,hc⟩:=vr z hd hn (aK z hX) I H E T hv hp;exact cm.val z J a1 hc
 ·rename_i k e hd
  split at y<;>try (cases y;done)
  rename_i n hn;cases y;have Q:=aK z hX;simp only[val]at hv;split at hv<;>try (cases hv;done)
  rename_i o' hu;rw[hu]at Q;simp only[jX]at hv;split at hv<;>try (cases hv;done)
  rename_i i j m F L a6;simp only[ao.injEq,bm.injEq]at hv;obtain⟨rfl,rfl⟩:=hv;obtain⟨q0,q1,q2,q3,_⟩:=hp;have e1:=gC z I F;have e2:=gC z H L;have e3:=gC z E a6
  have hb:(Instr.sliceBounds false k k (lo.map a.eval) (hi.map a.eval) (Z.map a.eval)).run P w= .ok (i.toNat,j.toNat,m.toNat) w:=by
   refine tp q0 q1 q2 q3 (e1.imp (fun h=>⟨h.1,h.2.1⟩) (fun h=>h.1)) (e2.imp (fun h=>⟨h.1,h.2.1⟩) (fun h=>h.1)) ?_;rcases e3 with h|⟨h,h'⟩
   ·exact .inl ⟨h.1,h.2.1⟩
   ·refine .inr ⟨h, ?_⟩
    rcases e2 with⟨_,_,q⟩|⟨⟨_,q⟩,_⟩
    ·exfalso;apply T;subst q;cases b1 with
     |none=>exact absurd rfl h'
     |some _=>rfl
    ·rw[q];simp
  refine cm.val z J (u:= .slice (some (if m.toNat=i.toNat then⟨(x.bk o').1,0,none⟩else(⟨(x.bk o').1,0,none⟩:Addr).add (i.toNat*n))) (j.toNat-i.toNat) (m.toNat-i.toNat)) ?_ ?_
  ·rw[Q.ptr_inv]
   simp only[CG,Instr.sureAddr,ax,run_underlying hd,ak,hb,da hn,aE]
  ·by_cases W:m.toNat=i.toNat
   ·rw[if_pos W]
    exact .psl o' n _ _ _ 0 _ (.inl (by omega)) (by omega) (fun _ e=>by cases e;rfl) (fun e=>by cases e)
   ·rw[if_neg W,dD]
    exact .psl o' n _ _ _ _ _ (.inr (by rw[cd,cd])) (by omega) (fun _ e=>by cases e;rfl) (fun e=>by cases e)
theorem gx{h:Call}{b:Builtin}(y:o.op= .call h)(E:h.callee= .builtin b)(m:Sem Value)
 (z:builtin b h.argTypes o.type (h.args.map fun| .const _=>true|_=>false) (h.args.map a.eval)=(do pure (.value (<-m)))):execOp a.eval o=(do pure (.value (<-m))):=by
 rw[<-z];simp only[execOp,y,resolve,E];rfl
theorem PS(I:aL C x s a w){F:Call}(L:o.op= .call F)(J:F.callee= .builtin .cap)(E:bv P o=some so)(hv:val s so=some (p,c)):cm P C o a w (s.put o.dst c):=by
 simp only[bv,L,J]at E;split at E<;>try (cases E;done)
 rename_i X t hX ht;split at E<;>try (cases E;done)
 rename_i e r hd O;cases E;have H:=aK I O;have ea:F.args= #[X]:=by apply eK;simpa using hX
 have et:F.argTypes= #[t]:=by apply eK;simpa using ht
 have run:∀(bs:Option Addr)(n z:Nat),a.eval X= .slice bs n z->(Builtin.cap_ F.argTypes o.type (F.args.map a.eval)).run P w= .ok (.int .i64 z) w:=by intro bs n z y;rw[ea,et];simp[Builtin.cap_,run_underlying hd,y,goInt]
 simp only[val]at hv;split at hv<;>try (cases hv;done)
 ·rename_i o' sz off n z hu
  rw[hu]at H;simp only[ao.injEq,bm.injEq]at hv;obtain⟨rfl,rfl⟩:=hv;obtain⟨z,_,T,Z,y,_⟩:=H.psl_inv;obtain rfl:=T _ rfl;exact cm.val I (gx L J _ rfl) (run _ _ _ y) (cT _ _)
 ·rename_i l hu
  rw[hu]at H;simp only[ao.injEq,bm.injEq]at hv;obtain⟨rfl,rfl⟩:=hv;obtain⟨b',z,y,_,_,Q,W,h⟩:=H.byt_inv;rw[y]at h;simp only[Value.slice.injEq]at h;rw[show z=l.length from by omega]at y;exact cm.val I (gx L J _ rfl) (run _ _ _ y) (cT _ _)
 ·rename_i sz l hu
  rw[hu]at H;simp only[ao.injEq,bm.injEq]at hv;obtain⟨rfl,rfl⟩:=hv;obtain⟨b',z,y,_,_,Q,W,h⟩:=H.lst_inv;rw[y]at h;simp only[Value.slice.injEq]at h;rw[show z=l.length from by omega]at y;exact cm.val I (gx L J _ rfl) (run _ _ _ y) (cT _ _)
theorem PQ(E:aL C x s a w){L:Call}(I:o.op= .call L)(F:L.callee= .builtin .len)(y:bv P o=some so)(hv:val s so=some (p,c)):cm P C o a w (s.put o.dst c):=by
 simp only[bv,I,F]at y;split at y<;>try (cases y;done)
 rename_i X t hX ht;have O:L.args= #[X]:=by apply eK;simpa using hX
 have Q:L.argTypes= #[t]:=by apply eK;simpa using ht
 split at y<;>try (cases y;done)
 ·rename_i r hd h
  cases y;have z:=aK E h;simp only[val]at hv;cases hu:s.ev r with
  |str l=>
   rw[hu]at hv z;simp only[ky,if_true,ao.injEq,bm.injEq]at hv;obtain⟨_,rfl⟩:=hv;refine cm.val E (gx I F _ rfl) (u:= .int .i64 l.length) ?_ (cT _ _);rw[O,Q];have T:(ByteArray.mk ⟨l⟩).size=l.length:=by simp[ByteArray.size]
   simp only[Builtin.len_,List.map_toArray,aG,cV,kR,List.getElem?_cons_zero,ax,run_underlying hd,ak,z.str_inv,T,goInt];rfl
  |_=>rw[hu]at hv;simp[ky]at hv
 ·rename_i e r hd h
  cases y;have z:=aK E h;simp only[val]at hv
  have run:∀(bs:Option Addr)(n J:Nat),a.eval X= .slice bs n J->(Builtin.len_ L.argTypes o.type (L.args.map a.eval)).run P w= .ok (.int .i64 n) w:=by intro bs n J H;rw[O,Q];simp only[Builtin.len_,List.map_toArray,aG,cV,kR,List.getElem?_cons_zero,ax,run_underlying hd,ak,H,goInt];rfl
  cases hu:s.ev r with
  |byt l tk=>rw[hu]at hv z;simp only[ky,az,if_false,ao.injEq,bm.injEq]at hv;obtain⟨_,rfl⟩:=hv;obtain⟨b',J,H,_⟩:=z.byt_inv;exact cm.val E (gx I F _ rfl) (run _ _ _ H) (cT _ _)
  |lst sz l tk=>rw[hu]at hv z;simp only[ky,az,if_false,ao.injEq,bm.injEq]at hv;obtain⟨_,rfl⟩:=hv;obtain⟨b',J,H,_⟩:=z.lst_inv;exact cm.val E (gx I F _ rfl) (run _ _ _ H) (cT _ _)
  |psl o' sz off n J=>rw[hu]at hv z;simp only[ky,az,if_false,ao.injEq,bm.injEq]at hv;obtain⟨_,rfl⟩:=hv;obtain⟨J,_,a1,Z,H,_⟩:=z.psl_inv;exact cm.val E (gx I F _ rfl) (run _ _ _ H) (cT _ _)
  |_=>rw[hu]at hv;simp[ky]at hv
 ·rename_i n e r hd h
  cases y;simp only[val,ao.injEq,bm.injEq]at hv;obtain⟨_,rfl⟩:=hv;refine cm.val E (gx I F _ rfl) (u:= .int .i64 n) ?_ (cT _ _);rw[O,Q];simp only[Builtin.len_,List.map_toArray,aG,cV,kR,List.getElem?_cons_zero,ax,run_underlying hd,ak,goInt];rfl
 ·rename_i arr r hd h
  split at y<;>try (cases y;done)
  rename_i n e W;cases y;simp only[val,ao.injEq,bm.injEq]at hv;obtain⟨_,rfl⟩:=hv;refine cm.val E (gx I F _ rfl) (u:= .int .i64 n) ?_ (cT _ _);rw[O,Q];simp only[Builtin.len_,List.map_toArray,aG,cV,kR,List.getElem?_cons_zero,ax,run_underlying hd,run_underlying W,ak,goInt];rfl
theorem o9(H:aL C x s a w){z:Call}(J:o.op= .call z)(y:z.callee= .builtin .min\/z.callee= .builtin .max)(h:bv P o=some so)(hv:val s so=some (p,c)):cm P C o a w (s.put o.dst c):=by
 rcases y with y|y
 all_goals
  simp only[bv,J,y]at h;split at h<;>try (cases h;done)
  rename_i X Y t u hX Z;split at h<;>try (cases h;done)
  rename_i r q F E;cases h;have I:=aK H F;have L:=aK H E;have T:z.args= #[X,Y]:=by apply eK;simpa using hX
  simp only[val]at hv;split at hv<;>try (cases hv;done)
  rename_i k m W n hu O;rw[hu]at I;rw[O]at L;split at hv<;>try (cases hv;done)
  rename_i Q;subst Q;simp only[ao.injEq,bm.injEq]at hv;obtain⟨_,rfl⟩:=hv;refine cm.val H (gx J y _ rfl) ?_ (cT _ _);rw[T,show(#[X,Y].map a.eval)= #[.int k m,.int k n]from by simp[I.int_inv,L.int_inv]]
  first
   |exact run_min_int2 w _ _ _ _ _ _
   |rw[run_max_int2 w _ _ _ _ _ _]
end Go.Sy
namespace Go.Sy
variable [aW]
variable {P : Program} {C : Ctx} {x : Sit} {s : St} {a : Act} {w : World} {o : Oper} {so : SOp} {p : Prop} {c : SV}
theorem jN{e:TypeId}(h:mz P e=true):P.underlying e=some (.int .u8):=by
 unfold mz at h;split at h
 ·assumption
 ·cases h
theorem P0(k:IntKind)(b:UInt8)(y:k≠ .i8)(h:k≠ .u8):k.wrap (b.toNat:Int)=b.toNat:=by have:=oD b;cases k<;>simp[IntKind.wrap,IntKind.bits,IntKind.signed]at* <;>omega
theorem xW(ns:d9):∀(s:ByteArray),(ns.map fun b=>(b.toNat:Int)).foldl (fun r n=>r.push (aQ n.toNat)) s=⟨⟨s.data.toList++ns⟩⟩:=by
 induction ns with
 |nil=>intro s;simp
 |cons b r h=>intro s;simp only[aG,List.foldl_cons];rw[h];simp[ByteArray.push]
theorem AI{bs:Value}{l:d9}{y dst e:TypeId}(E:P.underlying y=some (.slice e))(z:P.underlying e=some (.int .u8))(hd:P.underlying dst=some .string)
 (h:((∃a,bs= .slice a 0 0)/\l=[])\/∃b off cap,bs= .slice (some ⟨b,off,none⟩) l.length cap/\∀i,i<l.length->w.cell? ⟨b,off+i,none⟩=some (.int .u8 (l.getD i 0).toNat)):
 (convert y dst bs).run P w= .ok (.string ⟨⟨l⟩⟩) w:=by
 rcases h with⟨⟨a,rfl⟩,rfl⟩|⟨b,off,cap,rfl,hc⟩
 ·rw[run_convert_bytes_string w y dst e _ _ _ E z hd];cases a<;>rfl
 ·rw[run_convert_bytes_string w y dst e _ _ _ E z hd]
  have H:(loadCells ⟨b,off,none⟩ l.length).run P w= .ok ((l.map fun b=>(b.toNat:Int)).map (Value.int .u8)).toArray w:=by
   rw[run_loadCells w _ _ (fun i=> .int .u8 (l.getD i 0).toNat) (fun j F=>by rw[dD];exact hc j F)]
   congr 2
   apply List.ext_getElem?;intro i
   by_cases hi:i<l.length
   ·simp[hi,aa]
   ·simp[hi]
  rw[run_bytesToString w _ _ _ _ H,xW];rfl
theorem ie(w:World)(cs:LAb)(e:TypeId):((w.alloc (.cells cs e (0,0))).freeze ⟨w.heap.size,cs.size,none⟩ 1).heap=(w.alloc (.cells cs e (cs.size,cs.size+1))).heap:=by
 apply Array.ext_getElem?;intro i;simp only[World.freeze,Nat.one_ne_zero,if_false,World.alloc,Array.getElem?_modify,Array.getElem?_push]
 by_cases h:w.heap.size=i
 ·subst h;simp
 ·rw[if_neg h]
  have:¬i=w.heap.size:=fun e=>h e.symm
  simp[this]
theorem fk{b n:Nat}{e:TypeId}{off:Nat}(h:w.shape? b=some (e,n)):(markStringish ⟨b,off,none⟩).run P w= .ok () (w.freeze ⟨b,n,none⟩ 1):=by simp only[markStringish,ax,run_shape,ak,h,run_freeze]
theorem vp(H:aL C x s a w){W dst:TypeId}{X:Operand}(ho:o.op= .convert W dst X)(F:bv P o=some so)(hv:val s so=some (p,c))(hp:p):cm P C o a w (s.put o.dst c):=by
 have J:execOp a.eval o=(do pure (.value (<-convert W dst (a.eval X)))):=by simp only[execOp,ho]
 simp only[bv,ho]at F;split at F<;>try (cases F;done)
 ·rename_i k0 k r T hd z
  cases F;have E:=aK H z;simp only[val]at hv;obtain⟨c',y,O⟩:=ae.1 hv;simp only[bm.injEq]at O;obtain⟨_,rfl⟩:=O
  have run:∀k1 n,a.eval X= .int k1 n->(convert W dst (a.eval X)).run P w= .ok (.int k (k.wrap n)) w:=by intro k1 n O;rw[O];simp[convert,run_underlying T,run_underlying hd,Conv.intToInt]
  cases hu:s.ev r with
  |int k1 n=>
   rw[hu]at y E;refine cm.val H J (run k1 n E.int_inv) ?_
   cases k<;>simp only[iM,ao.injEq]at y<;>subst y<;>first
    |exact cT _ _
    |(rw[gF,<-vx];exact oR _)
  |u8 b=>
   rw[hu]at y E;refine cm.val H J (run .u8 b.toNat E.u8_inv) ?_
   cases k<;>simp only[iM,ao.injEq,reduceCtorEq]at y<;>subst y<;>first
    |(rw[P0 _ _ (by decide) (by decide)];exact cT _ _)
    |(rw[gF,Int.emod_eq_of_lt (by omega) (by have:=oD b;omega)];exact oR _)
  |_=>rw[hu]at y;simp[iM]at y
 ·rename_i r T hd z
  cases F;have E:=aK H z;simp only[val]at hv;cases hu:s.ev r with
  |str l=>rw[hu]at hv E;simp only[ao.injEq,bm.injEq]at hv;obtain⟨_,rfl⟩:=hv;refine cm.val H J (u:= .string ⟨⟨l⟩⟩) ?_ (lL _);rw[E.str_inv];simp[convert,run_underlying T,run_underlying hd]
  |_=>rw[hu]at hv;simp at hv
 ·rename_i e r T hd z
  split at F<;>try (cases F;done)
  rename_i h8;have O:=jN h8;cases F;have E:=aK H z;simp only[val]at hv;cases hu:s.ev r with
  |byt l tk=>
   rw[hu]at hv E;simp only[yg,ao.injEq,bm.injEq]at hv;obtain⟨_,rfl⟩:=hv;refine cm.val H J (AI T O hd ?_) (lL _);have hD:=E.data rfl;cases hXv:a.eval X with
   |slice ad n L=>
    rw[hXv]at hD;cases hD with
    |bytN=>exact .inl ⟨⟨_,rfl⟩,rfl⟩
    |bytE=>exact .inl ⟨⟨_,rfl⟩,rfl⟩
    |byt _ _ b off _ _ hn hc hg=>subst hn;exact .inr ⟨b,off,L,rfl,fun i hi=>H.heap.per _ _ _ (hg i hi)⟩
   |_=>rw[hXv]at hD;cases hD
  |psl o' sz off n L=>
   rw[hu]at hv E;simp only[yg]at hv;cases hl:s.look o' with
   |none=>simp[hl]at hv
   |some obj=>
    cases obj with
    |bar l=>
     simp only[hl,ao.injEq,bm.injEq]at hv;obtain⟨rfl,rfl⟩:=hv;obtain⟨b2,b6⟩:=hp;obtain⟨L,b5,_,I,b1,a1⟩:=E.psl_inv;have Q:((l.drop off).take n).length=n:=by simp;omega
     refine cm.val H J (AI T O hd (.inr ⟨(x.bk o').1,I,L,by rw[Q];exact b1,fun i hi=> ?_⟩)) (lL _);rw[Q]at hi
     have Z:I=off:=by
      rcases a1 with h|h
      ·omega
      ·rw[b2,js]at h;exact h
     subst Z;obtain⟨v,h2,h3⟩:=(fp H hl).cell (k:=I+i) (by simp only[aB.size];omega);rw[h2];have h4:cy x.G (.u8 (l.getD (I+i) 0)) v:=h3;cases h4;simp only[aa,bG,if_pos hi,bO]
    |_=>simp[hl]at hv
  |_=>rw[hu]at hv;simp[yg]at hv
 ·rename_i e r T hd z
  split at F<;>try (cases F;done)
  rename_i h8;have O:=jN h8;cases F;have E:=aK H z;simp only[val]at hv;cases hu:s.ev r with
  |str l=>
   rw[hu]at hv E;simp only[ao.injEq,bm.injEq]at hv;obtain⟨_,rfl⟩:=hv;have hf:(Question.appendCap (ByteArray.mk ⟨l⟩).size 0 e).forced=false:=rfl
   obtain⟨L,a8,b3⟩:∃L,(Question.appendCap (ByteArray.mk ⟨l⟩).size 0 e).cut (w.tape w.drawn (Question.appendCap (ByteArray.mk ⟨l⟩).size 0 e))=L/\l.length<=L:=by
    refine⟨_,rfl, ?_⟩;simp only[Question.cut];have:(ByteArray.mk ⟨l⟩).size=l.length:=by simp[ByteArray.size]
    omega
   let cs:LAb:=(ByteArray.mk ⟨l⟩).data.map (fun b=> .int .u8 b.toNat)++ei (L-(ByteArray.mk ⟨l⟩).size) (.int .u8 0)
   have a6:(ByteArray.mk ⟨l⟩).size=l.length:=by simp[ByteArray.size]
   have b4:cs.size=L:=by simp[cs,a6];omega
   have a7:∀i,i<l.length->cs[i]? =some (.int .u8 (l.getD i 0).toNat):=by intro i hi;simp only[cs];rw[Array.getElem?_append_left (by simpa using hi)];simp[hi,aa]
   have hw:∀w0:World,((w0.alloc (.cells cs e (0,0))).freeze ⟨w0.heap.size,cs.size,none⟩ 1).heap=(w0.alloc (.cells cs e (cs.size,cs.size+1))).heap:=fun w0=>ie w0 cs e
   refine cm.grow (x':=x.newD w.heap.size cs l.length) (w':=((w.drew.alloc (.cells cs e (0,0))).freeze ⟨w.heap.size,cs.size,none⟩ 1)) H J (u:= .slice (some ⟨w.heap.size,0,none⟩) l.length L) ?_ (H.heap.newD_le cs l.length) rfl rfl ?_ ?_
   ·rw[E.str_inv]
    simp only[convert,ax,run_underlying T,run_underlying hd,ak,run_underlying O,Conv.stringToBytes,run_choose_drew,hf,az,if_false,a8,newRow,run_newObj_alloc,aE];rw[fk (e:=e) (n:=cs.size) (by simp only[World.shape?];rw[dN])];simp only[ak,a6];rfl
   ·refine dq.congr (w:=(w.drew.alloc (.cells cs e (cs.size,cs.size+1)))) ?_ (hw w.drew) rfl rfl rfl
    exact H.heap.drew.allocD l.length
   ·refine .dat _ _ (.byt l .no w.heap.size 0 L l.length rfl b3 fun i hi=> ?_) trivial
    simp only[Sit.newD];rw[if_pos ⟨trivial,by omega⟩,cd];exact a7 i hi
  |_=>rw[hu]at hv;simp at hv
 ·split at F<;>try (cases F;done)
  cases F;simp only[val]at hv;cases hv
end Go.Sy
namespace Go.Sy
variable [aW]
variable {P : Program} {C : Ctx} {x : Sit} {s : St} {a : Act} {w : World} {o : Oper} {so : SOp} {p : Prop} {c : SV}
theorem cN{t:TypeId}{vs:LAa}(h:gI P t=some vs):∃z:Value,z.cells.toList=vs/\∀w:World,(zeroValue t).run P w= .ok z w:=by
 unfold gI at h;cases hi:P.info? t with
 |none=>simp[hi]at h
 |some i=>simp only[hi,di]at h;obtain⟨z,hz,rfl⟩:=ae.1 h;exact⟨z,rfl,fun w=>by simp[zeroValue,run_typeInfo w hi,hz]⟩
theorem Dv{cs:t6}{vs:LAa}(h:Ec cs vs=true):cn x cs vs:=by unfold Ec at h;simp only[aw,decide_eq_true_eq,aI,kr]at h;exact⟨h.1,fun i hi=>qu (h.2 i hi)⟩
theorem rQ{t:TypeId}{cs:t6}(h:mK P t=some cs):∃vs,gI P t=some vs/\cn x cs vs:=by
 unfold mK at h;cases hz:gI P t with
 |none=>simp[hz]at h
 |some vs=>
  simp only[hz,di]at h;cases hc:DT P (nM P 30 t) vs with
  |none=>simp[hc]at h
  |some r=>
   simp only[hc,di]at h;split at h
   ·rename_i y;simp at h;subst h;exact⟨vs,rfl,Dv y⟩
   ·cases h
theorem jU{t:TypeId}{cs:t6}(h:mK P t=some cs):∃vs,gI P t=some vs/\cs.length=vs.length/\∀(G:GM) i,i<cs.length->cy G (cs.getD i .undef) (vs.getD i undef):=by
 unfold mK at h;cases hz:gI P t with
 |none=>simp[hz]at h
 |some vs=>
  simp only[hz,di]at h;cases hc:DT P (nM P 30 t) vs with
  |none=>simp[hc]at h
  |some r=>
   simp only[hc,di]at h;split at h
   ·rename_i y;simp at h;subst h
    unfold Ec at y;simp only[aw,decide_eq_true_eq,aI,kr]at y;exact⟨vs,rfl,y.1,fun G i hi=>mM (y.2 i hi)⟩
   ·cases h
theorem Rep.cells{v:SV}{u:Value}(h:Rep x v u)(hd:v.isDef=true):cn x v.cells u.cells.toList:=by
 have one:∀{v:SV}{u:Value},Rep x v u->v.cells=[v]->u.cells= #[u]->cn x v.cells u.cells.toList:=by
  intro v u h F J;rw[F,J]
  exact⟨rfl,fun i hi=>by
   obtain rfl:i=0:=by simpa using hi
   exact h⟩
 cases h with
 |undef=>simp[SV.isDef]at hd
 |agg cs vs I H=>exact⟨I,H⟩
 |dat s v h W=>exact one (.dat _ _ h W) (by cases h<;>rfl) (by cases h<;>rfl)
 |ptr o off=>exact one (.ptr o off) rfl rfl
 |ap o E i j=>exact one (.ap o E i j) rfl rfl
 |psl o E off n cap z y h hn T O=>exact one (.psl o E off n cap z y h hn T O) rfl rfl
 |tup cs vs I H=>exact one (.tup cs vs I H) rfl rfl
 |fn f a b u v F J L Q=>exact one (.fn f a b u v F J L Q) rfl rfl
theorem gJ{α:Type}(cs v:List α)(q i:Nat)(h:q+v.length<=cs.length):(cs.take q++v++cs.drop (q+v.length))[i]? =if q<=i/\i<q+v.length then v[i-q]? else cs[i]? :=by
 simp only[List.getElem?_append,ac,av,bG,bO];have E:min q cs.length=q:=iA (by omega);rw[E]
 by_cases y:i<q
 ·rw[if_pos (by omega),if_pos y,if_pos y,if_neg (by omega)]
 ·by_cases z:i<q+v.length
  ·rw[if_pos z,if_neg y,if_pos ⟨by omega,z⟩]
  ·rw[if_neg z,if_neg (by omega)];congr 1;omega
theorem DA(off:Nat)(v:LAa):∀(cs:LAb)(k i:Nat),off+k+v.length<=cs.size->
 ((v.zipIdx k).foldl (fun cs (c,j)=>cs.setIfInBounds (off+j) c) cs)[i]? =if off+k<=i/\i<off+k+v.length then v[i-(off+k)]? else cs[i]? :=by
 induction v with
 |nil=>intro cs k i y;rw[if_neg (by simp only[au];omega)];rfl
 |cons u r E=>
  intro cs k i y;simp only[ah]at y;simp only[List.zipIdx_cons,List.foldl_cons];rw[E _ (k+1) i (by simp;omega)];simp only[ah,Array.getElem?_setIfInBounds]
  by_cases z:off+k=i
  ·subst z
   rw[if_neg (by omega),if_pos rfl,if_pos (by omega),if_pos (by omega)];simp
  ·by_cases h:off+(k+1)<=i/\i<off+(k+1)+r.length
   ·rw[if_pos h,if_pos (by omega),show i-(off+k)=(i-(off+(k+1)))+1 from by omega]
    simp
   ·rw[if_neg h,if_neg z,if_neg (by omega)]
theorem sG(cs:LAb)(off:Nat)(v:LAa)(h:off+v.length<=cs.size):
 (v.zipIdx.foldl (fun cs (c,j)=>cs.setIfInBounds (off+j) c) cs).toList=cs.toList.take off++v++cs.toList.drop (off+v.length):=by
 apply List.ext_getElem?;intro i;rw[gJ _ _ _ _ (by simpa using h)];have:=DA off v cs 0 i (by simpa using h);simpa using this
theorem cn.append{c1 c2:t6}{z v2:LAa}(y:cn x c1 z)(E:cn x c2 v2):cn x (c1++c2) (z++v2):=by
 refine⟨by simp[y.1,E.1],fun i hi=> ?_⟩;simp only[aa,List.getElem?_append]
 by_cases h:i<c1.length
 ·rw[if_pos h,if_pos (by rw[<-y.1];exact h)]
  simpa only[aa]using y.2 i h
 ·rw[if_neg h,if_neg (by rw[<-y.1];exact h),y.1]
  have:=E.get (i-z.length);simpa only[aa]using this
theorem cn.take{c1:t6}{z:LAa}(y:cn x c1 z)(n:Nat):cn x (c1.take n) (z.take n):=by
 refine⟨by simp[y.1],fun i hi=> ?_⟩;have h:i<n/\i<c1.length:=by simp only[av]at hi;omega
 simp only[aa,bG,if_pos h.1];simpa only[aa]using y.2 i h.2
theorem cn.drop{c1:t6}{y:LAa}(h:cn x c1 y)(n:Nat):cn x (c1.drop n) (y.drop n):=by refine⟨by simp[h.1],fun i hi=> ?_⟩;simp only[aa,bO];have:=h.get (n+i);simpa only[aa]using this
theorem pV(hM:aL C x s a w)(E:Nat->Option (Nat×Nat)):∀(F:List (Nat×Operand))(z:List (Nat×Nat×Arg))(cs:t6)(vs:LAb)(r:t6),cn x cs vs.toList->
 z.length=F.length->(∀i (h:i<F.length) (Z:i<z.length),E F[i].1=some (z[i].1,z[i].2.1)/\∃t,bt P t F[i].2=some z[i].2.2)->
 jq cs (z.map fun(o,n,y)=>(o,n,s.ev y))=some r->∃us,Instr.fill E vs (F.map fun(i,y)=>(i,a.eval y))=some us/\cn x r us.toList:=by
 intro F;induction F with
 |nil=>
  intro z cs vs r h O _ H;have:z=[]:=by simpa using O
  subst this;simp only[cV,jq,ao.injEq]at H;subst H;exact⟨vs,rfl,h⟩
 |cons q F ih=>
  intro z cs vs r h O L H;cases z with
  |nil=>simp at O
  |cons q' z=>
   obtain⟨qo,qn,qy⟩:=q';obtain⟨W,t,ht⟩:=L 0 (by simp) (by simp);simp only[List.getElem_cons_zero]at W ht;have J:=aK hM ht;simp only[aG,jq]at H;split at H<;>try (cases H;done)
   rename_i hc;obtain⟨T,Q,a1⟩:=hc;have hL:=J.cells T;have I:(a.eval q.2).cells.size=qn:=by rw[<-Q,<-aP];exact hL.1.symm
   have a6:vs.size=cs.length:=by rw[<-aP];exact h.1.symm
   simp only[aG,Instr.fill,W];rw[if_neg (by simp[I];omega)];refine ih z _ _ r ?_ (by simpa using O) (fun i h Z=> ?_) H
   ·rw[<-Array.foldl_toList,Array.toList_zipIdx,sG _ _ _ (by rw[aP];omega)]
    have e1:(a.eval q.2).cells.toList.length=qn:=by simpa using I
    rw[e1];exact((h.take _).append hL).append (h.drop _)
   ·have:=L (i+1) (by simpa using h) (by simpa using Z)
    simpa using this
theorem fG{α β:Type}{f:α->Option β}:∀{l:List α}{r:List β},kf f l=some r->r.length=l.length/\∀i (h:i<l.length) (z:i<r.length),f l[i]=some r[i]:=by
 intro l;induction l with
 |nil=>intro r h;simp only[kf]at h;cases h;exact⟨rfl,fun i h=>by simp at h⟩
 |cons q l E=>
  intro r h;simp only[kf]at h;split at h<;>try (cases h;done)
  rename_i b J F y;cases h;obtain⟨I,H⟩:=E y;refine⟨by simp[I],fun i h z=> ?_⟩;cases i with
  |zero=>simpa using F
  |succ i=>simpa using H i (by simpa using h) (by simpa using z)
theorem oJ(y:Array Field)(h:∀f∈y.toList,(P.info? f.type).isSome=true)(w:World):
 (y.mapM fun f=>do pure (f.offset,<-sizeOf f.type):Sem (Array (Nat×Nat))).run P w= .ok (y.toList.map fun f=>(f.offset,(fZ P f.type).getD 0)).toArray w:=by
 rw[Array.mapM_eq_mapM_toList]
 have:∀l:List Field,(∀f∈l,(P.info? f.type).isSome=true)->(l.mapM fun f=>do pure (f.offset,<-sizeOf f.type):Sem (List (Nat×Nat))).run P w= .ok (l.map fun f=>(f.offset,(fZ P f.type).getD 0)) w:=by
  intro l;induction l with
  |nil=>intro _;rfl
  |cons f l F=>
   intro h;have H:=h f (by simp);obtain⟨i,hi⟩:=Option.isSome_iff_exists.1 H;have z:fZ P f.type=some i.size:=by simp[fZ,hi]
   simp only[List.mapM_cons,ax,da z,ak,aE,F (fun g E=>h g (af _ E)),aG,z,aO]
 rw[Sem.run_map,this _ h];rfl
theorem CL(hM:aL C x s a w){t:TypeId}{E:Array (Nat×Operand)}(ho:o.op= .build t E)(I:bv P o=some so)(hv:val s so=some (p,c)):cm P C o a w (s.put o.dst c):=by
 have a8:execOp a.eval o=(do pure (.value (<-Instr.build t (E.map fun(i,y)=>(i,a.eval y))))):=by simp only[execOp,ho]
 simp only[bv,ho]at I;split at I<;>try (cases I;done)
 ·rename_i fs z hd hz
  split at I<;>try (cases I;done)
  rename_i a7;obtain⟨qs,Z,rfl⟩:=ae.1 I;obtain⟨vs,a6,hL⟩:=rQ hz;obtain⟨zv,O,L⟩:=cN a6;obtain⟨T,a1⟩:=fG Z;simp only[val]at hv;obtain⟨r,hf,he⟩:=ae.1 hv;simp only[bm.injEq]at he;obtain⟨_,rfl⟩:=he;have W:∀f∈fs.toList,(P.info? f.type).isSome=true:=aI.1 a7
  obtain⟨us,J,F⟩:=pV hM (fun i=>(fs.toList.map fun f=>(f.offset,(fZ P f.type).getD 0)).toArray[i]?) E.toList qs z zv.cells r (by rw[O];exact hL) T (by
   intro i h h';have:=a1 i h h';generalize E.toList[i]=pi at*;generalize qs[i]=qi at*;cases hfi:fs[pi.1]? with
   |none=>simp[hfi]at this
   |some f=>
    simp only[hfi]at this;cases hn:fZ P f.type with
    |none=>simp[hn]at this
    |some n=>
     cases H:bt P f.type pi.2 with
     |none=>simp[hn,H]at this
     |some ar=>
      simp only[hn,H,ao.injEq]at this;rw[<-this];refine⟨?_,f.type,H⟩;have b1:fs.toList[pi.1]? =some f:=by simpa using hfi
      simp[b1,hn]) hf
  refine cm.val hM a8 (u:= .agg us) ?_ ?_
  ·have Q:(E.map fun(i,y)=>(i,a.eval y)).toList=E.toList.map fun(i,y)=>(i,a.eval y):=by simp
   simp only[Instr.build,ax,L,ak,run_underlying hd,oJ fs W,Q];rw[J];rfl
  ·obtain⟨us⟩:=us
   exact .agg _ _ F.1 F.2
 ·rename_i k e z hd hz
  split at I<;>try (cases I;done)
  rename_i n hn;obtain⟨qs,Z,rfl⟩:=ae.1 I;obtain⟨vs,a6,hL⟩:=rQ hz;obtain⟨zv,O,L⟩:=cN a6;obtain⟨T,a1⟩:=fG Z;simp only[val]at hv;obtain⟨r,hf,he⟩:=ae.1 hv;simp only[bm.injEq]at he;obtain⟨_,rfl⟩:=he
  obtain⟨us,J,F⟩:=pV hM (fun i=>some (i*n,n)) E.toList qs z zv.cells r (by rw[O];exact hL) T (fun i h h'=>by have:=a1 i h h';obtain⟨ar,H,he⟩:=ae.1 this;rw[<-he];exact⟨rfl,e,H⟩) hf
  refine cm.val hM a8 (u:= .agg us) ?_ ?_
  ·have Q:(E.map fun(i,y)=>(i,a.eval y)).toList=E.toList.map fun(i,y)=>(i,a.eval y):=by simp
   simp only[Instr.build,ax,L,ak,run_underlying hd,da hn,Q];rw[J];rfl
  ·obtain⟨us⟩:=us
   exact .agg _ _ F.1 F.2
end Go.Sy
namespace Go.Sy
variable [aW]
variable {P : Program} {C : Ctx} {x : Sit} {s : St} {a : Act} {w : World} {o : Oper} {so : SOp} {p : Prop} {c : SV}
theorem oe(n:Nat):∀(us:LAa)(k:Nat)(vs:LAb),(∀u∈us,u.cells.size=n)->(k+us.length)*n<=vs.size->
 ∃r,Instr.fill (fun i=>some (i*n,n)) vs ((us.zipIdx k).map fun q=>(q.2,q.1))=some r/\r.toList=vs.toList.take (k*n)++(us.flatMap fun u=>u.cells.toList)++vs.toList.drop ((k+us.length)*n):=by
 intro us;induction us with
 |nil=>intro k vs _ _;exact⟨vs,rfl,by simp⟩
 |cons u us H=>
  intro k vs hu I;have y:=hu u (by simp);have F:(k+(u::us).length)*n=k*n+n+us.length*n:=by simp only[ah,bN,eI];omega
  have E:(k+1)*n=k*n+n:=eI k n;rw[F]at I;have h:=sG vs (k*n) u.cells.toList (by rw[aP,y];omega);rw[aP,y]at h
  obtain⟨r,L,Q⟩:=H (k+1) (u.cells.toList.zipIdx.foldl (fun cs (c,j)=>cs.setIfInBounds (k*n+j) c) vs) (fun q J=>hu q (af _ J)) (by rw[<-aP,h];simp only[ac,av,aX,aP,y];rw[bN,E];omega)
  refine⟨r, ?_, ?_⟩
  ·simp only[List.zipIdx_cons,aG,Instr.fill]
   rw[if_neg (by simp[y];omega)];rw[<-Array.foldl_toList,Array.toList_zipIdx];exact L
  ·rw[Q,h,E,F]
   have O:(k+1+us.length)*n=k*n+n+us.length*n:=by rw[bN,E]
   rw[O];have z:(vs.toList.take (k*n)++u.cells.toList).length=k*n+n:=by simp[y];omega
   rw[List.take_append_of_le_length (by rw[z];exact bc _),bh (by rw[z];exact bc _),List.drop_append,ct (by rw[z];omega),z,List.drop_drop];simp only[ia,aR,ay]
   congr 3
   congr 1;omega
theorem vP{n:Nat}:∀{vs:t6}{r:d8},rows n vs=some r->r.length=vs.length/\∀i,i<vs.length->(vs.getD i .undef).isDef=true/\(vs.getD i .undef).cells.length=n/\
 (∀z∈(vs.getD i .undef).cells,z.isData=true)/\r.getD i []=(vs.getD i .undef).cells.map SV.data:=by
 intro vs;induction vs with
 |nil=>intro r h;simp only[rows,ao.injEq]at h;subst h;exact⟨rfl,fun i hi=>by simp at hi⟩
 |cons v vs F=>
  intro r h;simp only[rows]at h;split at h<;>try (cases h;done)
  rename_i y;obtain⟨J,E,rfl⟩:=ae.1 h;obtain⟨I,H⟩:=F E;refine⟨by simp[I],fun i hi=> ?_⟩;cases i with
  |zero=>exact⟨y.1,y.2.1,aI.1 y.2.2,rfl⟩
  |succ i=>simpa using H i (by simpa using hi)
theorem tg:∀{vs:t6}{r:d9},toB vs=some r->vs=r.map .u8:=by
 intro vs;induction vs with
 |nil=>intro r h;simp only[toB,ao.injEq]at h;subst h;rfl
 |cons v vs z=>intro r h;cases v<;>simp only[toB,reduceCtorEq]at h;obtain⟨E,y,rfl⟩:=ae.1 h;rw[z y];rfl
theorem kN{n:Nat}{us:LAa}(h:∀u∈us,u.cells.size=n){i j:Nat}(hi:i<us.length)(F:j<n):
 (us.flatMap fun u=>u.cells.toList)[i*n+j]? =(us.getD i undef).cells.toList[j]? :=by
 induction us generalizing i with
 |nil=>simp at hi
 |cons u us E=>
  have y:=h u (by simp);simp only[ia];cases i with
  |zero=>rw[bi (by simp[y];omega)];simp
  |succ i=>rw[bo (by simp[y,eI];omega)];have:=E (fun q z=>h q (af _ z)) (i:=i) (by simpa using hi);rw[show(i+1)*n+j-u.cells.toList.length=i*n+j from by simp[y,eI];omega];simpa using this
theorem o8(hM:aL C x s a w){t:TypeId}{len:Nat}{h:Array (Nat×Operand)}(ho:o.op= .buildSlice t len h)(hr:bv P o=some so)(hv:val s so=some (p,c)):cm P C o a w (s.put o.dst c):=by
 have d6:execOp a.eval o=(do pure (.value (<-eG t len (h.map fun(i,y)=>(i,a.eval y))))):=by simp only[execOp,ho]
 simp only[bv,ho]at hr;split at hr<;>try (cases hr;done)
 rename_i e hd;split at hr<;>try (cases hr;done)
 rename_i n zv hn f0;split at hr<;>try (cases hr;done)
 rename_i T;simp only[aw,decide_eq_true_eq]at T;obtain⟨⟨a7,f6⟩,e7⟩:=T;obtain⟨qs,e2,rfl⟩:=ae.1 hr;obtain⟨b6,e4⟩:=fG e2;obtain⟨z,g2,f1⟩:=cN f0;have O:h.toList.length=len:=by have:=congrArg mq a7;simpa using this
 obtain⟨us,a1⟩:∃us:LAa,us=h.toList.map fun q=>a.eval q.2:=⟨_,rfl⟩
 have E:us.length=len:=by rw[a1];simpa using O
 have J:cn x (qs.map s.ev) us:=by
  refine⟨by rw[a1];simp[b6],fun i hi=> ?_⟩;have b3:i<qs.length:=by simpa using hi
  have:=aK hM (e4 i (by omega) b3);rw[a1];simp only[aa,aN,ab b3,ab (show i<h.toList.length from by omega),bn,aO];exact this
 have f2:(h.map fun(i,y)=>(i,a.eval y)).toList=(us.zipIdx 0).map fun q=>(q.2,q.1):=by
  rw[a1];apply List.ext_getElem
  ·simp
  ·intro i W h2
   simp only[Array.toList_map,aC,aP]at W;have:(h.toList.map (·.1))[i]? =(bQ len)[i]? :=by rw[a7]
   have hi:i<len:=by rw[<-O];simpa using W
   simp only[aN,cM hi]at this;rw[ab (by simpa using W)]at this;simp at this;simp[this]
 have a6:(∀u∈us,u.cells.size=n)->∃r:LAb,(∀i j,i<len->j<n->r[i*n+j]? =(us.getD i undef).cells.toList[j]?)/\r.size=len*n/\
  (eG t len (h.map fun(i,y)=>(i,a.eval y))).run P w= .ok (.slice (some ⟨w.heap.size,0,none⟩) len len) (w.alloc (.cells r e (0,0))):=by
  intro a8
  have b5:∀zz:LAb,∃r:LAb,Instr.fill (fun i=>some (i*n,n)) ((Array.range (len*n)).map (fun i=>zz[i % zz.size]!)) (h.map fun(i,y)=>(i,a.eval y)).toList=some r/\
   (∀i j,i<len->j<n->r[i*n+j]? =(us.getD i undef).cells.toList[j]?)/\r.size=len*n:=by
   intro zz;obtain⟨r,e0,b1⟩:=oe n us 0 ((Array.range (len*n)).map (fun i=>zz[i % zz.size]!)) a8 (by simp[E])
   have I:r.toList=us.flatMap fun u=>u.cells.toList:=by rw[b1];simp[E]
   refine⟨r,by rw[f2];exact e0,fun i j hi hj=> ?_, ?_⟩
   ·rw[<-dA,I,kN a8 (by omega) hj]
   ·rw[<-aP,I,List.length_flatMap]
    have:us.map (fun u=>u.cells.toList.length)=aJ us.length n:=by
     apply List.ext_getElem
     ·simp
     ·intro i W h2
      simp;exact a8 _ (aU _)
    rw[this];simp[E]
  by_cases h0:len*n=0
  ·obtain⟨r,hf,W,h2⟩:=b5 #[]
   refine⟨r,W,h2, ?_⟩;simp only[eG,ax,run_underlying hd,ak,da hn];rw[if_neg (by omega),if_pos h0];simp only[ax,aE,ak];rw[hf];rfl
  ·obtain⟨r,hf,W,h2⟩:=b5 z.cells
   refine⟨r,W,h2, ?_⟩;simp only[eG,ax,run_underlying hd,ak,da hn];rw[if_neg (by omega),if_neg h0];simp only[ax,aE,ak,f1];rw[hf];rfl
 have F:∀i,i<len->i<(qs.map s.ev).length:=fun i hi=>by rw[J.1,E];exact hi
 cases h8:mz P e with
 |true=>
  simp only[h8,if_true,val]at hv;obtain⟨l,hl,he⟩:=ae.1 hv;simp only[bm.injEq]at he;obtain⟨_,rfl⟩:=he;have hq:=tg hl;have e5:l.length=len:=by have:=congrArg mq hq;simp only[aC]at this;rw[<-this,b6,O]
  have b7:∀i,i<len->us.getD i undef= .int .u8 (l.getD i 0).toNat:=by
   intro i hi;have:=J.2 i (F i hi);rw[hq]at this
   have e1:(l.map SV.u8).getD i .undef= .u8 (l.getD i 0):=by simp only[aa,aN];rw[ab (by omega)];rfl
   rw[e1]at this;exact this.u8_inv
  have e3:∀u∈us,u.cells.size=1:=by intro u hu;obtain⟨i,hi,rfl⟩:=bH hu;have:=b7 i (by omega);rw[aa,ab hi]at this;simp only[aO]at this;rw[this];rfl
  have b4:n=1:=by simpa[h8]using e7
  subst b4;obtain⟨r,b2,e8,Q⟩:=a6 e3;refine cm.grow (x':=x.newD w.heap.size r len) hM d6 Q (hM.heap.newD_le r len) rfl rfl (hM.heap.allocD len) ?_;refine .dat _ _ (.byt l _ w.heap.size 0 len len e5.symm (bc _) fun i hi=> ?_) ⟨_,len,rfl⟩;simp only[Sit.newD];rw[if_pos ⟨trivial,by omega⟩,cd];have:=b2 i 0 hi (by omega);rw[js,bW]at this;rw[this,b7 i hi];rfl
 |false=>
  simp only[h8,az,if_false,val]at hv;obtain⟨c7,d7,he⟩:=ae.1 hv;simp only[bm.injEq]at he;obtain⟨_,rfl⟩:=he;obtain⟨b1,L⟩:=vP d7;have I:c7.length=len:=by rw[b1,J.1,E]
  have H:∀i,i<len->cn x (((qs.map s.ev).getD i .undef).cells) ((us.getD i undef).cells.toList):=fun i hi=>(J.2 i (F i hi)).cells (L i (F i hi)).1
  have e6:∀u∈us,u.cells.size=n:=by intro u hu;obtain⟨i,hi,rfl⟩:=bH hu;have W:=H i (by omega);have h2:=(L i (F i (by omega))).2.1;rw[show us.getD i undef=us[i]from by rw[aa,ab hi];rfl]at W;have:=W.1;rw[h2]at this;simpa using this.symm
  obtain⟨r,b2,e8,Q⟩:=a6 e6;refine cm.grow (x':=x.newD w.heap.size r (len*n)) hM d6 Q (hM.heap.newD_le r _) rfl rfl (hM.heap.allocD _) ?_;have e9:=hM.heap.newD_le r (len*n)
  have Z:∀i j,i<len->j<n->(x.newD w.heap.size r (len*n)).G w.heap.size (0+i*n+j)=some ((us.getD i undef).cells.toList.getD j undef):=by
   intro i j hi hj;simp only[Sit.newD]
   have hb:i*n+j<len*n:=by have:=bw n (Nat.succ_le_of_lt hi);rw[eI]at this;omega
   rw[if_pos ⟨trivial,by omega⟩,cd,b2 i j hi hj]
   have:j<(us.getD i undef).cells.toList.length:=by rw[<-(H i hi).1,(L i (F i hi)).2.1];exact hj
   generalize (us.getD i undef).cells.toList=q at*;rw[aa,ab this];rfl
  refine .dat _ _ (.lst n c7 _ w.heap.size 0 len len (fun i j=>(us.getD i undef).cells.toList.getD j undef) I.symm (bc _) (fun i hi=> ?_) Z (fun i j hi hj=> ?_)) ⟨_,len,rfl⟩
  ·rw[(L i (F i hi)).2.2.2,aC];exact(L i (F i hi)).2.1
  ·obtain⟨q1,q2,q3,q4⟩:=L i (F i hi)
   rw[q4,gV];have d5:j<((qs.map s.ev).getD i .undef).cells.length:=by rw[q2];exact hj
   have:=(H i hi).2 j d5;refine(cy.mono e9 (this.data (q3 _ ?_))).toData;generalize ((qs.map s.ev).getD i .undef).cells=q at*;rw[aa,ab d5];exact aU _
theorem pu(hM:aL C x s a w){t:TypeId}{len:Nat}{h:Array (Nat×Operand)}(ho:o.op= .buildSlice t len h){n0:Nat}{E:List Arg}(hr:bv P o=some (.lit n0 E))(b2:∀i,i<(E.map s.ev).length->((E.map s.ev).getD i .undef).isDef=true/\((E.map s.ev).getD i .undef).cells.length=n0):
 ∃(r:LAb)(e:TypeId),(execOp a.eval o).run P w= .ok (.value (.slice (some ⟨w.heap.size,0,none⟩) E.length E.length)) (w.alloc (.cells r e (0,0)))/\r.size=E.length*n0/\
  ∀k,k<E.length*n0->Rep x ((((E.map s.ev).getD (k/n0) .undef).cells).getD (k % n0) .undef) (r.getD k undef):=by
 have e8:execOp a.eval o=(do pure (.value (<-eG t len (h.map fun(i,y)=>(i,a.eval y))))):=by simp only[execOp,ho]
 simp only[bv,ho]at hr;split at hr<;>try (cases hr;done)
 rename_i e hd;split at hr<;>try (cases hr;done)
 rename_i n zv hn e9;split at hr<;>try (cases hr;done)
 rename_i J;simp only[aw,decide_eq_true_eq]at J;obtain⟨⟨a7,f0⟩,f2⟩:=J;obtain⟨W,e5,H⟩:=ae.1 hr;obtain⟨d6,e6⟩:=fG e5;obtain⟨z,f1,b7⟩:=cN e9;have a6:h.toList.length=len:=by have:=congrArg mq a7;simpa using this
 obtain⟨us,T⟩:∃us:LAa,us=h.toList.map fun q=>a.eval q.2:=⟨_,rfl⟩
 have F:us.length=len:=by rw[T];simpa using a6
 have Q:cn x (W.map s.ev) us:=by
  refine⟨by rw[T];simp[d6],fun i hi=> ?_⟩;have b6:i<W.length:=by simpa using hi
  have:=aK hM (e6 i (by omega) b6);rw[T];simp only[aa,aN,ab b6,ab (show i<h.toList.length from by omega),bn,aO];exact this
 have d5:(h.map fun(i,y)=>(i,a.eval y)).toList=(us.zipIdx 0).map fun q=>(q.2,q.1):=by
  rw[T];apply List.ext_getElem
  ·simp
  ·intro i O h2
   simp only[Array.toList_map,aC,aP]at O;have:(h.toList.map (·.1))[i]? =(bQ len)[i]? :=by rw[a7]
   have hi:i<len:=by rw[<-a6];simpa using O
   simp only[aN,cM hi]at this;rw[ab (by simpa using O)]at this;simp at this;simp[this]
 have b4:(∀u∈us,u.cells.size=n)->∃r:LAb,(∀i j,i<len->j<n->r[i*n+j]? =(us.getD i undef).cells.toList[j]?)/\r.size=len*n/\
  (eG t len (h.map fun(i,y)=>(i,a.eval y))).run P w= .ok (.slice (some ⟨w.heap.size,0,none⟩) len len) (w.alloc (.cells r e (0,0))):=by
  intro a8
  have b3:∀zz:LAb,∃r:LAb,Instr.fill (fun i=>some (i*n,n)) ((Array.range (len*n)).map (fun i=>zz[i % zz.size]!)) (h.map fun(i,y)=>(i,a.eval y)).toList=some r/\
   (∀i j,i<len->j<n->r[i*n+j]? =(us.getD i undef).cells.toList[j]?)/\r.size=len*n:=by
   intro zz;obtain⟨r,c7,d7⟩:=oe n us 0 ((Array.range (len*n)).map (fun i=>zz[i % zz.size]!)) a8 (by simp[F])
   have a1:r.toList=us.flatMap fun u=>u.cells.toList:=by rw[d7];simp[F]
   refine⟨r,by rw[d5];exact c7,fun i j hi hj=> ?_, ?_⟩
   ·rw[<-dA,a1,kN a8 (by omega) hj]
   ·rw[<-aP,a1,List.length_flatMap]
    have:us.map (fun u=>u.cells.toList.length)=aJ us.length n:=by
     apply List.ext_getElem
     ·simp
     ·intro i O h2
      simp;exact a8 _ (aU _)
    rw[this];simp[F]
  by_cases h0:len*n=0
  ·obtain⟨r,hf,O,h2⟩:=b3 #[]
   refine⟨r,O,h2, ?_⟩;simp only[eG,ax,run_underlying hd,ak,da hn];rw[if_neg (by omega),if_pos h0];simp only[ax,aE,ak];rw[hf];rfl
  ·obtain⟨r,hf,O,h2⟩:=b3 z.cells
   refine⟨r,O,h2, ?_⟩;simp only[eG,ax,run_underlying hd,ak,da hn];rw[if_neg (by omega),if_neg h0];simp only[ax,aE,ak,b7];rw[hf];rfl
 have Z:∀i,i<len->i<(W.map s.ev).length:=fun i hi=>by rw[Q.1,F];exact hi
 obtain⟨h8,rfl,rfl⟩:mz P e=false/\n=n0/\W=E:=by
  cases h8:mz P e with
  |true=>rw[h8]at H;simp at H
  |false=>rw[h8]at H;simp at H;exact⟨rfl,H.1,H.2⟩
 have L:W.length=len:=by rw[<-F,<-Q.1,aC]
 have I:∀i,i<len->cn x (((W.map s.ev).getD i .undef).cells) ((us.getD i undef).cells.toList):=fun i hi=>(Q.2 i (Z i hi)).cells (b2 i (Z i hi)).1
 have e7:∀u∈us,u.cells.size=n:=by intro u hu;obtain⟨i,hi,rfl⟩:=bH hu;have O:=I i (by omega);have h2:=(b2 i (Z i (by omega))).2;rw[show us.getD i undef=us[i]from by rw[aa,ab hi];rfl]at O;have:=O.1;rw[h2]at this;simpa using this.symm
 obtain⟨r,e0,H,b5⟩:=b4 e7
 have b1:(execOp a.eval o).run P w= .ok (.value (.slice (some ⟨w.heap.size,0,none⟩) W.length W.length)) (w.alloc (.cells r e (0,0))):=by rw[e8,L];simp[b5]
 refine⟨r,e,b1,by rw[L];exact H,fun k hk=> ?_⟩
 have e3:0<n:=by
  rcases fC n with h0|h0
  ·subst h0;omega
  ·exact h0
 have hi:k/n<len:=by rw[<-L];exact nP (by rw[cK];exact hk)
 have hj:k % n<n:=s8 _ e3;have q2:=(b2 (k/n) (Z _ hi)).2;have e1:k/n*n+k % n=k:=by rw[cK];exact Nat.div_add_mod k n
 have e2:=e0 (k/n) (k % n) hi hj;rw[e1]at e2;have e4:k % n<((W.map s.ev).getD (k/n) .undef).cells.length:=by rw[q2];exact hj
 have:=(I _ hi).2 _ e4;rw[bl,e2,<-aa];exact this
theorem xo(hM:aL C x s a w){t:TypeId}{len:Nat}{F:Array (Nat×Operand)}(ho:o.op= .buildSlice t len F){n0:Nat}{h:List Arg}(hr:bv P o=some (.lit n0 h)){z:d8}(Q:rows n0 (h.map s.ev)=some z):
 ∃(r:LAb)(e:TypeId),(execOp a.eval o).run P w= .ok (.value (.slice (some ⟨w.heap.size,0,none⟩) z.length z.length)) (w.alloc (.cells r e (0,0)))/\r.size=z.length*n0/\(∀y∈z,y.length=n0)/\
  ∀k,k<z.length*n0->cy x.G ((z.getD (k/n0) []).getD (k % n0) .undef) (r.getD k undef):=by
 obtain⟨J,E⟩:=vP Q;have H:(h.map s.ev).length=h.length:=aC ..;obtain⟨r,e,h1,h2,h3⟩:=pu hM ho hr (fun i hi=>⟨(E i hi).1,(E i hi).2.1⟩);have W:z.length=h.length:=by rw[J,H]
 refine⟨r,e,by rw[W];exact h1,by rw[W];exact h2,fun y Z=> ?_,fun k T=> ?_⟩
 ·obtain⟨i,hi,rfl⟩:=bH Z
  have:=(E i (by omega)).2.2.2;rw[aa,ab hi]at this;simp only[aO]at this;rw[this,aC];exact(E i (by omega)).2.1
 ·rw[W]at T
  have L:0<n0:=by
   rcases fC n0 with I|I
   ·subst I;omega
   ·exact I
  have hi:k/n0<(h.map s.ev).length:=by rw[H];exact nP (by rw[cK];exact T)
  obtain⟨q1,q2,q3,q4⟩:=E (k/n0) hi;rw[q4,gV];have O:k % n0<((h.map s.ev).getD (k/n0) .undef).cells.length:=by rw[q2];exact s8 _ L
  refine((h3 k T).data (q3 _ ?_)).toData;generalize ((h.map s.ev).getD (k/n0) .undef).cells=q at*;rw[aa,ab O];exact aU _
theorem xq(hM:aL C x s a w){t:TypeId}{len:Nat}{h:Array (Nat×Operand)}(ho:o.op= .buildSlice t len h){a1:List Arg}(O:bv P o=some (.litB a1)){l:d9}(b5:toB (a1.map s.ev)=some l):
 ∃(r:LAb)(e:TypeId),(execOp a.eval o).run P w= .ok (.value (.slice (some ⟨w.heap.size,0,none⟩) l.length l.length)) (w.alloc (.cells r e (0,0)))/\l.length<=r.size/\∀i,i<l.length->r.getD i undef= .int .u8 (l.getD i 0).toNat:=by
 have e5:execOp a.eval o=(do pure (.value (<-eG t len (h.map fun(i,y)=>(i,a.eval y))))):=by simp only[execOp,ho]
 simp only[bv,ho]at O;split at O<;>try (cases O;done)
 rename_i e hd;split at O<;>try (cases O;done)
 rename_i n zv hn e7;split at O<;>try (cases O;done)
 rename_i H;simp only[aw,decide_eq_true_eq]at H;obtain⟨⟨W,e8⟩,e6⟩:=H;obtain⟨qs,e0,F⟩:=ae.1 O;obtain⟨a7,e3⟩:=fG e0;obtain⟨z,e9,b6⟩:=cN e7;have I:h.toList.length=len:=by have:=congrArg mq W;simpa using this
 obtain⟨us,J⟩:∃us:LAa,us=h.toList.map fun q=>a.eval q.2:=⟨_,rfl⟩
 have E:us.length=len:=by rw[J];simpa using I
 have T:cn x (qs.map s.ev) us:=by
  refine⟨by rw[J];simp[a7],fun i hi=> ?_⟩;have b3:i<qs.length:=by simpa using hi
  have:=aK hM (e3 i (by omega) b3);rw[J];simp only[aa,aN,ab b3,ab (show i<h.toList.length from by omega),bn,aO];exact this
 have c7:(h.map fun(i,y)=>(i,a.eval y)).toList=(us.zipIdx 0).map fun q=>(q.2,q.1):=by
  rw[J];apply List.ext_getElem
  ·simp
  ·intro i Q h2
   simp only[Array.toList_map,aC,aP]at Q;have:(h.toList.map (·.1))[i]? =(bQ len)[i]? :=by rw[W]
   have hi:i<len:=by rw[<-I];simpa using Q
   simp only[aN,cM hi]at this;rw[ab (by simpa using Q)]at this;simp at this;simp[this]
 have b1:(∀u∈us,u.cells.size=n)->∃r:LAb,(∀i j,i<len->j<n->r[i*n+j]? =(us.getD i undef).cells.toList[j]?)/\r.size=len*n/\
  (eG t len (h.map fun(i,y)=>(i,a.eval y))).run P w= .ok (.slice (some ⟨w.heap.size,0,none⟩) len len) (w.alloc (.cells r e (0,0))):=by
  intro Z
  have a6:∀zz:LAb,∃r:LAb,Instr.fill (fun i=>some (i*n,n)) ((Array.range (len*n)).map (fun i=>zz[i % zz.size]!)) (h.map fun(i,y)=>(i,a.eval y)).toList=some r/\
   (∀i j,i<len->j<n->r[i*n+j]? =(us.getD i undef).cells.toList[j]?)/\r.size=len*n:=by
   intro zz;obtain⟨r,b7,d6⟩:=oe n us 0 ((Array.range (len*n)).map (fun i=>zz[i % zz.size]!)) Z (by simp[E])
   have L:r.toList=us.flatMap fun u=>u.cells.toList:=by rw[d6];simp[E]
   refine⟨r,by rw[c7];exact b7,fun i j hi hj=> ?_, ?_⟩
   ·rw[<-dA,L,kN Z (by omega) hj]
   ·rw[<-aP,L,List.length_flatMap]
    have:us.map (fun u=>u.cells.toList.length)=aJ us.length n:=by
     apply List.ext_getElem
     ·simp
     ·intro i Q h2
      simp;exact Z _ (aU _)
    rw[this];simp[E]
  by_cases h0:len*n=0
  ·obtain⟨r,hf,Q,h2⟩:=a6 #[]
   refine⟨r,Q,h2, ?_⟩;simp only[eG,ax,run_underlying hd,ak,da hn];rw[if_neg (by omega),if_pos h0];simp only[ax,aE,ak];rw[hf];rfl
  ·obtain⟨r,hf,Q,h2⟩:=a6 z.cells
   refine⟨r,Q,h2, ?_⟩;simp only[eG,ax,run_underlying hd,ak,da hn];rw[if_neg (by omega),if_neg h0];simp only[ax,aE,ak,b6];rw[hf];rfl
 have d5:∀i,i<len->i<(qs.map s.ev).length:=fun i hi=>by rw[T.1,E];exact hi
 cases h8:mz P e with
 |true=>
  simp only[h8,if_true,SOp.litB.injEq]at F;subst F;have hl:=b5;have hq:=tg hl;have e4:l.length=len:=by have:=congrArg mq hq;simp only[aC]at this;rw[<-this,a7,I]
  have a8:∀i,i<len->us.getD i undef= .int .u8 (l.getD i 0).toNat:=by
   intro i hi;have:=T.2 i (d5 i hi);rw[hq]at this
   have e1:(l.map SV.u8).getD i .undef= .u8 (l.getD i 0):=by simp only[aa,aN];rw[ab (by omega)];rfl
   rw[e1]at this;exact this.u8_inv
  have e2:∀u∈us,u.cells.size=1:=by intro u hu;obtain⟨i,hi,rfl⟩:=bH hu;have:=a8 i (by omega);rw[aa,ab hi]at this;simp only[aO]at this;rw[this];rfl
  have b4:n=1:=by simpa[h8]using e6
  subst b4;obtain⟨r,d7,F,b2⟩:=b1 e2;refine⟨r,e,by rw[e5,ax,b2];simp[e4],by rw[F];omega,fun i hi=> ?_⟩;have:=d7 i 0 (by omega) (by omega);rw[js,bW]at this;rw[bl,this,a8 i (by omega)];rfl
 |false=>simp only[h8,az,if_false]at F;cases F
theorem RF{E:List Arg}(z:bv P o=some (.litB E)):∃t len y,o.op= .buildSlice t len y:=by
 cases ho:o.op with
 |buildSlice t len y=>exact⟨t,len,y,rfl⟩
 |_=>exfalso;exact absurd z (by
  intro z;simp only[bv,ho]at z
  first
   |(cases z;done)
   |(obtain⟨_,_,h⟩:=ae.1 z;cases h;done)
   |(repeat' split at z)<;>first|(cases z;done)|contradiction|(obtain⟨_,_,h⟩:=ae.1 z;first|(cases h;done)|(split at h<;>cases h;done)))
end Go.Sy
namespace Go.Sy
variable [aW]
variable {P : Program} {C : Ctx} {x : Sit} {s : St} {a : Act} {w : World} {o : Oper} {so : SOp} {p : Prop} {c : SV}
theorem FW{t:TypeId}{n:Nat}(h:wY P t=some n):rq P t=some false:=by unfold wY at h;unfold rq;split at h<;>first|(cases h;done)|(rename_i y;rw[y];rfl)
theorem x7{t:TypeId}{n:Nat}(y:wY P t=some n){c1 d1:SV}{u v:Value}(hu:Rep x c1 u)(hv:Rep x d1 v){b:Bool}(h:u6 n c1 d1=some b)(d:Nat):(Op.equalIn (d+1) t u v).run P w= .ok b w:=by
 unfold wY at y;split at y<;>try (cases y;done)
 all_goals
  rename_i hd;cases y;cases c1<;>cases d1<;>simp only[u6,reduceCtorEq,ao.injEq,aH]at h
 ·rw[hu.bool_inv,hv.bool_inv]
  subst h;rename_i m n;simp only[Op.equalIn,ax,run_underlying hd,ak,aE];cases m<;>cases n<;>rfl
 ·rw[hu.int_inv,hv.int_inv]
  obtain⟨rfl,h⟩:=h;subst h;simp only[Op.equalIn,ax,run_underlying hd,ak,if_true,aE];rfl
 ·rw[hu.u8_inv,hv.u8_inv]
  subst h;rename_i m n;simp only[Op.equalIn,ax,run_underlying hd,ak,if_true,aE]
  congr 1
  rw[fJ];simp only[beq_iff_eq,decide_eq_true_eq,Int.natCast_inj];exact UInt8.toNat_inj
 ·rw[hu.str_inv,hv.str_inv]
  subst h;rename_i m n;simp only[Op.equalIn,ax,run_underlying hd,ak,aE]
  congr 1
  rw[beq_toListBytes,ByteArray.toList_eq,ByteArray.toList_eq,fJ];simp
theorem kJ:∀(W:List Field)(T:t7)(k:Nat)(cs F:t6)(y H:LAa)(d:Nat),xY P k W=some T->
 cn x cs (y.drop k)->cn x F (H.drop k)->∀{b:Bool},il T cs F=some b->(Op.eqFields (d+1) ⟨y⟩ ⟨H⟩ W).run P w= .ok b w
 |[],T,k,cs,F,y,H,d,z,J,hy,b,h=>by simp only[xY,ao.injEq]at z;subst z;cases cs<;>cases F<;>simp[il]at h;subst h;simp[Op.eqFields]
 |f::W,T,k,cs,F,y,H,d,z,J,hy,b,h=>by
  simp only[xY,aH]at z;obtain⟨⟨I,O⟩,z⟩:=z;split at z<;>try (cases z;done)
  rename_i t Z E a6;cases z;cases cs with
  |nil=>simp[il]at h
  |cons c1 cs=>
   cases F with
   |nil=>simp[il]at h
   |cons d1 F=>
    simp only[il]at h;split at h<;>try (cases h;done)
    rename_i r q hr hq;cases h;have L:=J.1;have b2:=hy.1;simp only[ah,aX]at L b2
    have a7:(⟨y⟩:LAb)[k]? =some (y.getD k undef):=by rw[kR,ab (by omega),aa,ab (by omega)];rfl
    have a1:(⟨H⟩:LAb)[k]? =some (H.getD k undef):=by rw[kR,ab (by omega),aa,ab (by omega)];rfl
    have a8:Rep x c1 (y.getD k undef):=by have:=J.2 0 (by simp);simpa[aa,bO]using this
    have b1:Rep x d1 (H.getD k undef):=by have:=hy.2 0 (by simp);simpa[aa,bO]using this
    have tl:∀{cs:t6}{c1:SV}{y:LAa},cn x (c1::cs) (y.drop k)->cn x cs (y.drop (k+1)):=by intro cs c1 y J;have L:=J.1;simp only[ah,aX]at L;refine⟨by simp only[aX];omega,fun i hi=> ?_⟩;have:=J.2 (i+1) (by simpa using hi);simp only[aa,List.getElem?_cons_succ,bO]at this ⊢;rw[show k+1+i=k+(i+1)by omega];exact this
    have ih:=kJ W Z (k+1) cs F y H d a6 (tl J) (tl hy) hq;have Q:=x7 (w:=w) E a8 b1 hr d;simp only[Op.eqFields,if_pos I,part,ax,lf (FW E),ak,az,if_false];rw[O,a7,a1];simp only[aE,ak,Q];cases r
    ·simp
    ·simp only[rP,az,if_false]
     rw[ih,df]
theorem PR(W:aL C x s a w){op:BinOp}{t u:TypeId}{X Y:Operand}(ho:o.op= .binOp op t X Y u){H:Bool}{L:t7}{x' J:Arg}(h:bv P o=some (.eqS H L x' J))(hv:val s (.eqS H L x' J)=some (p,c)):cm P C o a w (s.put o.dst c):=by
 have T:execOp a.eval o=(do pure (.value (<-(do eqGuard op t X Y (a.eval X) (a.eval Y);binOp op t (a.eval X) (a.eval Y):Sem Value)))):=by simp only[execOp,ho]
 simp only[bv,ho]at h;split at h<;>try (cases h;done)
 ·split at h<;>cases h
 ·rename_i fs _ _ hd Z Q
  split at h<;>try (cases h;done)
  rename_i E O;rw[aH]at h;obtain⟨y,h⟩:=h;simp only[aw,ej]at y
  have z:op=(if H then .neq else .eql)/\E=L/\bt P t X=some x'/\bt P u Y=some J:=by split at h<;>first|(cases h;done)|(cases h;exact⟨rfl,rfl,Z,Q⟩)
  obtain⟨z,rfl,Z,Q⟩:=z;have h1:=aK W Z;have h2:=aK W Q;simp only[val]at hv;cases hu:s.ev x' with
  |agg cs=>
   cases hw:s.ev J with
   |agg ds=>
    rw[hu,hw]at hv;rw[hu]at h1;rw[hw]at h2;simp only[ae,bm.injEq]at hv;obtain⟨b,hb,_,rfl⟩:=hv;obtain⟨vs,e1,g1⟩:=h1.agg_inv;obtain⟨us,e2,g2⟩:=h2.agg_inv;have F:P.fieldsOf t=fs:=by simp[Program.fieldsOf,hd]
    have I:(Op.equalIn 10000 t (.agg ⟨vs⟩) (.agg ⟨us⟩)).run P w= .ok b w:=by rw[show(10000:Nat)=9998+1+1 from rfl,run_equalIn_struct w (9998+1) t ⟨vs⟩ ⟨us⟩ (by rw[F];exact hd) y.1,F];exact kJ fs.toList E 0 cs ds vs us 9998 O (by simpa using g1) (by simpa using g2) hb
    refine cm.val W T (u:= .bool (if H then !b else b)) ?_ (dT _);rw[e1,e2];simp only[ax,run_eqGuard_agg w op t X Y ⟨vs⟩ ⟨us⟩ y.2,ak];subst z;cases H
    ·simp only[az,if_false];rw[run_eql_struct,I];rfl
    ·simp only[if_true];rw[run_neq_struct,I];rfl
   |_=>rw[hu,hw]at hv;simp at hv
  |_=>rw[hu]at hv;simp at hv
 ·split at h<;>cases h
 ·split at h<;>cases h
theorem x9(hM:aL C x s a w){I:Bool}{q:Arg}(z:bv P o=some (.isnil I q)){K:Bool->Prop}
 (h:match s.ev q with
  | .byt l _=>∀b:Bool,(b=true->l=[])->K (b !=I)
  | .lst _ Z _=>∀b:Bool,(b=true->Z=[])->K (b !=I)
  | .psl _ _ _ _ _=>K I
  |_=>False):∃b,K b/\cm P C o a w (s.put o.dst (.bool b)):=by
 have J:∃op t X Y u,o.op= .binOp op t X Y u/\(op=if I then .neq else .eql)/\(∃e,P.underlying t=some (.slice e))/\bt P t X=some q/\Y= .const (.slice none 0 0):=by
  cases O:o.op with
  |binOp op t X Y u=>
   simp only[bv,O]at z;split at z<;>try (cases z;done)
   ·split at z<;>cases z
   ·split at z<;>try (cases z;done)
    split at z<;>try (cases z;done)
    split at z<;>cases z
   ·rename_i e x' _ hd hx hy
    split at z<;>first|(cases z;done)|(cases z;exact⟨_,_,_,_,_,rfl,rfl,⟨_,hd⟩,hx,rfl⟩)
   ·split at z<;>first|(cases z;done)|contradiction
  |_=>exfalso;exact absurd z (by
   intro z;simp only[bv,O]at z
   first
    |(cases z;done)
    |(obtain⟨_,_,h⟩:=ae.1 z;cases h;done)
    |(repeat' split at z)<;>first|(cases z;done)|contradiction|(obtain⟨_,_,h⟩:=ae.1 z;first|(cases h;done)|(split at h<;>cases h;done)))
 obtain⟨op,t,X,Y,u,O,J,⟨e,hd⟩,hX,hY⟩:=J;have W:execOp a.eval o=(do pure (.value (<-(do eqGuard op t X Y (a.eval X) (a.eval Y);binOp op t (a.eval X) (a.eval Y):Sem Value)))):=by simp only[execOp,O]
 have E:=aK hM hX;have T:a.eval Y= .slice none 0 0:=by rw[hY];rfl
 have run:∀F n H,a.eval X= .slice F n H->cm P C o a w (s.put o.dst (.bool (F.isNone !=I))):=by
  intro F n H Q
  have hg:∀v1 v2 v3 v4 v5,(eqGuard op t X Y (.slice v1 v2 v3) (.slice none v4 v5))=pure ():=by intros;subst J;cases I<;>rfl
  refine cm.val hM W (u:= .bool (F.isNone !=I)) ?_ (dT _);rw[Q,T,hg];simp only[ax,aE,ak]
  have L:(Op.equal t (.slice F n H) (.slice none 0 0)).run P w= .ok F.isNone w:=by rw[show Op.equal t (.slice F n H) (.slice none 0 0)=Op.equalIn (9999+1) t (.slice F n H) (.slice none 0 0)from rfl,Op.equalIn];simp only[ax,run_underlying hd,ak];cases F<;>rfl
  subst J;cases I
  ·simp only[az,if_false,binOp,ax,L,ak,aE];cases F<;>rfl
  ·simp only[if_true,binOp,ax,L,ak,aE];cases F<;>rfl
 cases hu:s.ev q with
 |byt l tk=>
  rw[hu]at h E;have y:=E.data rfl;cases hv:a.eval X with
  |slice F n H=>
   refine⟨_,h F.isNone (fun hn=> ?_),run F n H hv⟩;rw[hv]at y;cases y with
   |bytN=>rfl
   |bytE=>simp at hn
   |byt _ _ b off _ _ _ _ _=>simp at hn
  |_=>rw[hv]at y;cases y
 |lst sz Z tk=>
  rw[hu]at h E;have y:=E.data rfl;cases hv:a.eval X with
  |slice F n H=>
   refine⟨_,h F.isNone (fun hn=> ?_),run F n H hv⟩;rw[hv]at y;cases y with
   |lstN=>rfl
   |lstE=>simp at hn
   |lst _ _ _ b off _ _ _ _ _ _ _ _=>simp at hn
  |_=>rw[hv]at y;cases y
 |psl o' sz off n H=>rw[hu]at h E;obtain⟨H,_,_,a1,he,_⟩:=E.psl_inv;refine⟨_,h, ?_⟩;have:=run _ _ _ he;simpa using this
 |_=>rw[hu]at h;exact h.elim
end Go.Sy
namespace Go.Sy
variable [aW]
variable {P : Program} {C : Ctx} {x : Sit} {s : St} {a : Act} {w : World} {o : Oper} {so : SOp} {e : Eff}
theorem aL.newObj(z:aL C x s a w){d:Nat}(E:t8)(y:100<=d){cv:LAb}{t:TypeId}(obj:aB){val:SV}{u:Value}(H:obj.size<=cv.size)(F:∀k,k<obj.size->cx x obj k (cv.getD k undef))
 (hv:Rep (x.newO d w.heap.size) val u):
 aL C (x.newO d w.heap.size) (((s.purge d (d+1)).addO d (obj.purge d (d+1))).put E val) (a.put E u) (w.alloc (.cells cv t (0,0))):=by
 refine aL.put ⟨?_,z.defers, ?_⟩ E hv
 ·exact cn.mono (x:=x) (x':=x.newO d w.heap.size) (lo:=d) (hi:=d+1) (fun _ _ _ h=>h) (Sit.newO_ne x d _) (fun _ _=>rfl) z.tm
 ·exact z.heap.allocO d y obj (fun i _ h=>by omega) H F (bC _) (fun _ h=>by omega)
theorem cm.newObj(z:aL C x s a w){d:Nat}(h:100<=d){m:Sem Value}{cv:LAb}{t:TypeId}(obj:aB){val:SV}{u:Value}(E:execOp a.eval o=(do pure (.value (<-m))))
 (F:m.run P w= .ok u (w.alloc (.cells cv t (0,0)))) (H:obj.size<=cv.size) (y:∀k,k<obj.size->cx x obj k (cv.getD k undef)) (hv:Rep (x.newO d w.heap.size) val u):
 cm P C o a w (((s.purge d (d+1)).addO d (obj.purge d (d+1))).put o.dst val):=
 ⟨u,w.alloc (.cells cv t (0,0)),_,.value u,by rw[E];simp[F],.inl rfl,z.newObj o.dst h obj H y hv⟩
theorem nG(x:Sit)(d b:Nat){k:Nat}:(x.newO d b k).bk d=(b,k):=if_pos rfl
theorem jm(x:Sit)(d b:Nat){k:Nat}:((x.newO d b k).bk d).1=b:=by rw[nG]
theorem DJ(W:aL C x s a w){t:TypeId}(Q:o.op= .alloc t)(y:bv P o=some so)(F:eff s o.dst so=some e):cm P C o a w (s.app o.dst e):=by
 simp only[bv,Q]at y;split at y<;>try (cases y;done)
 rename_i obj z L hz;split at y<;>try (cases y;done)
 rename_i h;cases y;simp only[eff]at F;split at F<;>try (cases F;done)
 rename_i d hd;cases F;obtain⟨O,E,I⟩:=cN hz;simp only[YH,aw,decide_eq_true_eq,aI,kr]at h;simp only[St.app];have H:o.dst.getD 0=d:=by rw[hd];rfl
 rw[H];refine cm.newObj W (d:=d+100) (by omega) obj (m:=Instr.alloc t true (.tuple #[])) (cv:=O.cells) (t:=t) (u:= .pointer (some ⟨w.heap.size,0,none⟩)) (by simp only[execOp,Q]) ?_ (by rw[<-aP,E];exact h.1) (fun k T=> ?_) ?_
 ·simp only[Instr.alloc,ax,I,ak,newVar,newRow,run_newObj_alloc,aE]
 ·have J:=h.2 k T
  have Z:O.cells.getD k undef=z.getD k undef:=by rw[<-E];simp[bl]
  rw[Z];cases obj with
  |rc cs=>exact qu J
  |arr sz xs=>exact mM J
  |bar l=>exact mM J
 ·have:=Rep.ptr (x:=x.newO (d+100) w.heap.size) (d+100) 0
  rw[jm]at this;exact this
theorem Sn(I:aL C x s a w){t:TypeId}{X:Operand}(J:o.op= .box t X)(F:bv P o=some so)(y:eff s o.dst so=some e):cm P C o a w (s.app o.dst e):=by
 simp only[bv,J]at F;obtain⟨r,z,rfl⟩:=ae.1 F;have h:=aK I z;simp only[eff]at y;split at y<;>try (cases y;done)
 rename_i d hd;cases y;simp only[St.app];have L:(s.ev r).isDef=true->cn x (s.ev r).cells (a.eval X).cells.toList:=h.cells;have hu:(s.ev r).isDef=true\/(s.ev r).cells=[]:=by cases s.ev r<;>simp[SV.isDef,SV.cells]
 have E:o.dst.getD 0=d:=by rw[hd];rfl
 rw[E];refine cm.newObj I (d:=d+100) (by omega) (.rc (s.ev r).cells) (m:=Instr.box t (a.eval X)) (cv:=(a.eval X).cells) (t:=t) (u:= .pointer (some ⟨w.heap.size,0,none⟩)) (by simp only[execOp,J]) ?_ ?_ (fun k H=> ?_) ?_
 ·simp only[Instr.box,ax,ak,newVar,newRow,run_newObj_alloc,aE]
 ·rcases hu with hu|hu
  ·have:=(L hu).1;simp only[aB.size];rw[<-aP];omega
  ·simp[aB.size,hu]
 ·rcases hu with hu|hu
  ·have:=(L hu).2 k H
   simp only[cx];have O:(a.eval X).cells.getD k undef=(a.eval X).cells.toList.getD k undef:=by simp[bl]
   rw[O];exact this
  ·simp[aB.size,hu]at H
 ·have:=Rep.ptr (x:=x.newO (d+100) w.heap.size) (d+100) 0
  rw[jm]at this;exact this
theorem lK{t y:TypeId}{H n:Nat}{L:LAa}{l c:Int}{k1 k2:IntKind}(hd:P.underlying t=some (.slice y))(hn:fZ P y=some n)(O:ud P y=some H)(hz:gI P y=some L)
 (h0:0<=l) (h1:l<=c) (h2:(H:Int)*c<=140737488355328) (h3:c<=9223372036854775807):
 ∃cv:LAb,(Instr.makeSlice t (.int k1 l) (.int k2 c)).run P w= .ok (.slice (some ⟨w.heap.size,0,none⟩) l.toNat c.toNat) (w.alloc (.cells cv y (0,0)))/\cv.size=c.toNat*n/\
  ∀k,k<c.toNat*n->cv.getD k undef=L.getD (k % L.length) default:=by
 obtain⟨z,Z,W⟩:=cN hz;have wl:ai.wrap l=l:=by rw[IntKind.wrap_i64];omega
 have wc:ai.wrap c=c:=by rw[IntKind.wrap_i64];omega
 have hby:∃i,P.info? y=some i/\i.bytes=H:=by
  unfold ud at O;cases hi:P.info? y with
  |none=>simp[hi]at O
  |some i=>simp[hi]at O;exact⟨i,rfl,O⟩
 obtain⟨i,hi,a6⟩:=hby
 have I:¬((decide (c<0)||decide ((i.bytes:Int)*c>2^48)||decide (l<0)||decide (l>c))=true):=by rw[a6];simp;omega
 have J:∀(Q:LAb),(c.toNat*n=0\/Q=z.cells)->∃cv:LAb,cv=(Array.range (c.toNat*n)).map (fun j=>Q[j % Q.size]!)/\cv.size=c.toNat*n/\∀k,k<c.toNat*n->cv.getD k undef=L.getD (k % L.length) default:=by
  intro Q a1;refine⟨_,rfl,by simp,fun k hk=> ?_⟩;rcases a1 with h|rfl
  ·omega
  ·rw[<-Z]
   simp[bl,hk];rw[getElem!_def];cases z.cells[k % z.cells.size]? <;>rfl
 by_cases F:c.toNat*n=0
 ·obtain⟨cv,E,r1,T⟩:=J #[] (.inl F)
  refine⟨cv, ?_,r1,T⟩;simp only[Instr.makeSlice,ax,run_underlying hd,ak,asInt,asIntOf,aE,run_typeInfo w hi,wl,wc];rw[if_neg (by simpa using I)];simp only[ax,run_askRoom,ak,da hn];rw[if_pos F];simp only[ax,aE,ak,newRow,run_newObj_alloc,E]
 ·obtain⟨cv,E,r1,T⟩:=J z.cells (.inr rfl)
  refine⟨cv, ?_,r1,T⟩;simp only[Instr.makeSlice,ax,run_underlying hd,ak,asInt,asIntOf,aE,run_typeInfo w hi,wl,wc];rw[if_neg (by simpa using I)];simp only[ax,run_askRoom,ak,da hn];rw[if_neg F];simp only[ax,aE,ak,W,newRow,run_newObj_alloc,E]
end Go.Sy
namespace Go.Sy
variable [aW]
variable {P : Program} {C : Ctx} {x : Sit} {s : St} {a : Act} {w : World} {o : Oper} {so : SOp} {e : Eff}
theorem gi{α:Type}(n:Nat)(z d:α)(i:Nat)(h:i<n):(aJ n z).getD i d=z:=by rw[aa,List.getElem?_replicate,if_pos h];rfl
theorem oi{t:TypeId}{cs:t6}(h:yo P t=some cs):∃vs,gI P t=some vs/\cs.length=vs.length/\∀(G:GM) i,i<cs.length->cy G (cs.getD i .undef) (vs.getD i undef):=by obtain⟨z,hz,rfl⟩:=ae.1 h;obtain⟨vs,F,E,y⟩:=jU hz;refine⟨vs,F,by simpa using E,fun G i hi=> ?_⟩;rw[aY _ (by rfl)];exact(y G i (by simpa using hi)).toData
theorem ry(hM:aL C x s a w){t:TypeId}{X Y:Operand}(ho:o.op= .makeSlice t X Y)(h:bv P o=some so)(I:eff s o.dst so=some e)(hp:e.pre):cm P C o a w (s.app o.dst e):=by
 have a6:execOp a.eval o=(do pure (.value (<-Instr.makeSlice t (a.eval X) (a.eval Y)))):=by simp only[execOp,ho]
 simp only[bv,ho]at h;split at h<;>try (cases h;done)
 rename_i el hd;split at h<;>try (cases h;done)
 rename_i n b1 z l c hn hb hz hl hc;obtain⟨zs,a1,y,O⟩:=oi hz;have h1:=aK hM hl;have h2:=aK hM hc;cases h8:mz P el with
 |true=>
  have b2:=jN h8;simp only[h8,if_true]at h
  by_cases Q:n=1/\b1=1/\z0 z=true
  ·rw[if_pos Q]at h
   obtain⟨rfl,rfl,E⟩:=Q;simp only[ao.injEq]at h;subst h;simp only[eff]at I;split at I<;>try (cases I;done)
   rename_i d k1 L k2 K W hL hK;cases I;obtain⟨q0,q1,q2⟩:=hp;rw[hL]at h1;rw[hK]at h2;obtain⟨cv,F,T,H⟩:=lK (P:=P) (w:=w) (k1:=k1) (k2:=k2) hd hn hb a1 q0 q1 (by omega) (by omega);simp only[St.app];have J:o.dst.getD 0=d:=by rw[W];rfl
   rw[J]
   have a7:z=[.u8 0]:=by
    unfold z0 at E;split at E
    ·rename_i b;simp at E;rw[E]
    ·cases E
   refine cm.newObj hM (d:=d+100) (by omega) (.bar (aJ K.toNat 0)) a6 (by rw[h1.int_inv,h2.int_inv];exact F) (by simp[aB.size,T]) (fun k Z=> ?_) ?_
   ·simp only[aB.size,dG]at Z
    simp only[cx,aB.cell];rw[H k (by omega),gi _ _ _ _ Z];rw[a7]at y O;have h0:=O x.G 0 (by simp);have:zs.length=1:=by simpa using y.symm
    rw[this,Nat.mod_one]
    match zs,this with
    |[v],_=>exact h0
   ·have:=Rep.psl (x:=x.newO (d+100) w.heap.size) (d+100) 1 0 L.toNat (some K.toNat) 0 K.toNat (.inr (by omega)) (by omega) (fun _ e=>by cases e;rfl) (fun e=>by cases e)
    rw[jm]at this;exact this
  ·rw[if_neg Q]at h;cases h
 |false=>
  simp only[h8,az,if_false]at h
  by_cases hzl:z.length=n/\n≠0
  ·rw[if_pos hzl]at h
   simp only[ao.injEq]at h;subst h;obtain⟨hzl,hn0⟩:=hzl;simp only[eff]at I;split at I<;>try (cases I;done)
   rename_i d k1 L k2 K W hL hK;cases I;obtain⟨q0,q1,q2,q3⟩:=hp;rw[hL]at h1;rw[hK]at h2;obtain⟨cv,F,T,H⟩:=lK (P:=P) (w:=w) (k1:=k1) (k2:=k2) hd hn hb a1 q0 q1 q2 q3;simp only[St.app];have J:o.dst.getD 0=d:=by rw[W];rfl
   rw[J];refine cm.newObj hM (d:=d+100) (by omega) (.arr z.length (aJ K.toNat z)) a6 (by rw[h1.int_inv,h2.int_inv];exact F) (by simp[aB.size,T,hzl]) (fun k Z=> ?_) ?_
   ·simp only[aB.size,dG]at Z
    simp only[cx,aB.cell];rw[H k (by rw[<-hzl];exact Z),gi _ _ _ _ (nP (by rw[cK];exact Z)),<-y];have a8:k % z.length<z.length:=s8 _ (by omega);have:=O x.G _ a8
    have e1:zs.getD (k % z.length) default=zs.getD (k % z.length) undef:=by rw[aa,aa,ab (by omega)];rfl
    rw[e1];exact this
   ·have:=Rep.psl (x:=x.newO (d+100) w.heap.size) (d+100) z.length 0 L.toNat (some K.toNat) 0 K.toNat (.inr (by omega)) (by omega) (fun _ e=>by cases e;rfl) (fun e=>by cases e)
    rw[jm]at this;exact this
  ·rw[if_neg hzl]at h;cases h
theorem cy.oneCell{G:GM}{c:SV}{v:Value}(h:cy G c v):v.oneCell'=true:=by cases h<;>rfl
theorem Rep.oneCell{c:SV}{v:Value}(h:Rep x c v)(y:c.one=true):v.oneCell'=true:=by
 cases h with
 |undef=>simp[SV.one]at y
 |dat _ _ h _=>exact h.oneCell
 |ptr=>rfl
 |ap=>rfl
 |psl=>rfl
 |agg=>simp[SV.one]at y
 |tup=>simp[SV.one]at y
 |fn=>rfl
theorem sY(cs:t6)(off:Nat)(v:t6)(h:off+v.length<=cs.length)(i:Nat):(ig cs off v).getD i .undef=if off<=i/\i<off+v.length then v.getD (i-off) .undef else cs.getD i .undef:=by
 have y:∀i:Nat,(cs.take off++v++cs.drop (off+v.length)).getD i .undef=if off<=i/\i<off+v.length then v.getD (i-off) .undef else cs.getD i .undef:=by intro i;simp only[aa];rw[gJ _ _ _ _ h];split<;>rfl
 unfold ig;split
 ·rename_i u
  simp only[aD]at*;simp only[aa,fN]
  by_cases hi:off=i
  ·subst hi;rw[if_pos rfl,if_pos (by omega),if_pos (by omega)];simp
  ·rw[if_neg hi,if_neg (by omega)]
 ·exact y i
theorem oH(cs:t6)(off:Nat)(v:t6)(h:off+v.length<=cs.length):(ig cs off v).length=cs.length:=by
 unfold ig;split
 ·simp
 ·simp;omega
theorem cm.store(I:aL C x s a w){t:TypeId}{X Y:Operand}(ho:o.op= .store t X Y){n:Nat}(hn:fZ P t=some n){d off:Nat}(hX:a.eval X= .pointer (some ⟨(x.bk d).1,off,none⟩)){obj obj':aB}(W:s.look d=some obj)
 {vs:LAa} (hY:(a.eval Y).cells.toList=vs) (F:vs.length=n) (y:∀v∈vs,v.oneCell'=true) (hb:off+n<=obj.size)
 (a1:obj'.size=obj.size) (H:∀c:LAb,(∀k,k<obj.size->cx x obj k (c.getD k undef))->∀k,k<obj.size->cx x obj' k (if off<=k/\k<off+n then vs.getD (k-off) undef else c.getD k undef)) (z:obj'.arrB=obj.arrB:=by rfl):
 cm P C o a w ((s.setO d obj').put o.dst .undef):=by
 obtain⟨c,e,fl,fh,T,⟨hs,a6,O⟩,hr⟩:=fp I W;obtain⟨g1,Z,g3,g4,g5⟩:=fQ ((x.bk d).1) vs w off;obtain⟨c',L,J,Q⟩:=fr vs w off c T (by omega);refine⟨undef,cr w ((x.bk d).1) off vs,x,.skip, ?_,.inr ⟨rfl,rfl⟩,aL.put (s:=s.setO d obj') ⟨I.tm,I.defers, ?_⟩ o.dst (.undef _)⟩
 ·simp only[execOp,ho,Instr.storeAt,hX,Instr.sureAddr,ax,aE,ak,storeVar,da hn]
  have E:(a.eval Y).cells.size=n:=by rw[<-aP,hY];exact F
  rw[if_neg (by simp[E]),hY,fq off vs w c 0 T (by omega) y];rfl
 ·refine I.heap.block (dh W) g1 Z g3 g4 g5 ⟨c',e,fl,fh,L,⟨by omega,by omega,fun h=>by rw[J];exact O (z ▸ h)⟩,fun k hk=> ?_⟩
  rw[Q k,F];exact H c hr k (by omega)
theorem nN{cs:t6}{vs:LAa}(h:cn x cs vs)(F:cs.all SV.one=true):∀v∈vs,v.oneCell'=true:=by
 intro v hv;obtain⟨i,hi,rfl⟩:=bH hv;have y:i<cs.length:=by rw[h.1];exact hi
 have:=h.2 i y;have E:cs.getD i .undef=cs[i]:=by rw[aa,ab y];rfl
 have z:vs.getD i undef=vs[i]:=by rw[aa,ab hi];rfl
 rw[E,z]at this;exact this.oneCell (aI.1 F _ (aU _))
theorem pR{c:SV}(h:c.isData=true):c.one=true:=by cases c<;>simp[SV.isData,SV.one]at*
theorem QJ{z:Nat}{E:d8}(h:∀y∈E,y.length=z){i j n:Nat}{v:t6}(hi:i<E.length)(hj:j+n<=z)(hv:v.length=n):
 (iJ z E i j n v).length=E.length/\∀k,k<E.length*z->((iJ z E i j n v).getD (k/z) []).getD (k % z) .undef=if i*z+j<=k/\k<i*z+j+n then v.getD (k-(i*z+j)) .undef else(E.getD (k/z) []).getD (k % z) .undef:=by
 have Z:(E.getD i []).length=z:=by rw[aa,ab hi];exact h _ (aU _)
 obtain⟨W,J,L⟩:∃W:t6,(∀m,m<z->W.getD m .undef=if j<=m/\m<j+n then v.getD (m-j) .undef else(E.getD i []).getD m .undef)/\iJ z E i j n v=E.set i W:=by
  unfold iJ;split
  ·rename_i O
   obtain⟨rfl,rfl⟩:=O;exact⟨v,fun m hm=>by rw[if_pos ⟨by omega,by omega⟩,Nat.sub_zero],rfl⟩
  ·refine⟨_,fun m hm=> ?_,rfl⟩
   have:=gJ (E.getD i []) v j m (by omega);rw[hv]at this;simp only[aa]at this ⊢;rw[this];split<;>rfl
 rw[L];refine⟨by simp,fun k hk=> ?_⟩
 have H:0<z:=by
  rcases fC z with Q|Q
  ·subst Q;omega
  ·exact Q
 have I:=Nat.div_add_mod k z;have T:=s8 k H;rw[cK]at I;simp only[aa,fN]at J ⊢
 by_cases F:i=k/z
 ·rw[if_pos F,if_pos hi]
  simp only[aO];rw[J _ T,<-F];rw[<-F]at I
  by_cases O:j<=k % z/\k % z<j+n
  ·rw[if_pos O,if_pos (by omega),show k-(i*z+j)=k % z-j from by omega]
  ·rw[if_neg O,if_neg (by omega)]
 ·rw[if_neg F,if_neg ?_]
  rintro⟨h1,h2⟩;apply F;have:i*z<=k/\k<(i+1)*z:=by rw[eI];omega
  rw[eq_comm,Nat.div_eq_iff H];rw[eI]at this;omega
theorem mC(h:Nat):∀(m:Nat)(v:t6),(ki h m v).length=m
 |0,_=>rfl
 |m+1,v=>by simp[ki,mC h m]
theorem sK(y:Nat)(z:0<y):∀(m:Nat)(v:t6)(k:Nat),k<m*y->((ki y m v).getD (k/y) []).getD (k % y) .undef=v.getD k .undef
 |0,_,k,hk=>by omega
 |m+1,v,k,hk=>by
  rw[eI]at hk;simp only[ki]
  by_cases h:k<y
  ·rw[Nat.div_eq_of_lt h,dF h,dE]
   simp only[aa,bG,if_pos h]
  ·obtain⟨j,rfl⟩:∃j,k=j+y:=⟨k-y,by omega⟩
   rw[Nat.add_div_right _ z,Nat.add_mod_right,nt,sK y z m (v.drop y) j (by omega)];simp only[aa,bO,Nat.add_comm]
theorem DG(O:aL C x s a w){t:TypeId}{X Y:Operand}(Z:o.op= .store t X Y)(hr:bv P o=some so)(h:eff s o.dst so=some e)(hp:e.pre):cm P C o a w (s.app o.dst e):=by
 simp only[bv,Z]at hr;split at hr<;>try (cases hr;done)
 rename_i n r q hn a7 b2;cases hr;have T:=aK O a7;have h2:=aK O b2;simp only[eff]at h;split at h<;>try (cases h;done)
 rename_i hn0;have y:=h2.cells hn0;cases hu:s.ev r with
 |ptr d off=>
  rw[hu]at h T;simp only[rg]at h;split at h<;>try (cases h;done)
  ·rename_i cs H
   cases h;obtain⟨Q,L,I⟩:=hp;refine cm.store O Z hn T.ptr_inv H rfl (by rw[<-y.1];exact L) (nN y I) Q (by simp only[aB.size];exact oH _ _ _ (by omega)) (fun c W k F=> ?_);have:=W k F;simp only[cx]at this ⊢;rw[sY _ _ _ (by omega),L];split
   ·exact y.get _
   ·exact this
  ·rename_i J xs H
   cases h;obtain⟨rfl,Q,L,I⟩:=hp
   refine cm.store O Z hn T.ptr_inv H rfl (by rw[<-y.1];exact L) (nN y (by rw[aI]at I ⊢;exact fun z hz=>pR (I z hz))) (by simp only[aB.size];omega) (by simp only[aB.size,mC]) (fun c W k F=> ?_)
   simp only[aB.size]at F;have E:k<(s.ev q).cells.length:=by omega
   have b3:0<J:=by
    rcases fC J with h0|h0
    ·subst h0;omega
    ·exact h0
   simp only[cx,aB.cell];rw[if_pos ⟨by omega,by omega⟩,Nat.sub_zero,sK J b3 _ _ _ F,gV];refine((y.2 _ E).data (aI.1 I _ ?_)).toData;generalize (s.ev q).cells=qq at*;rw[aa,ab E];exact aU _
  ·rename_i l H
   split at h<;>try (cases h;done)
   rename_i l' hv;cases h;obtain⟨rfl,Q,L⟩:=hp;have a8:=tg hv;rw[a8]at y
   refine cm.store O Z hn T.ptr_inv H rfl (by rw[<-y.1,aC];exact L) (nN y (by rw[aI];intro z hz;obtain⟨b,_,rfl⟩:=aT.1 hz;rfl)) (by simp only[aB.size];omega) (by simp only[aB.size];omega) (fun c W k F=> ?_)
   simp only[aB.size]at F;simp only[cx,aB.cell];rw[if_pos ⟨by omega,by omega⟩,Nat.sub_zero];have E:k<(l'.map SV.u8).length:=by rw[aC];omega
   have a1:k<l'.length:=by omega
   have e1:(l'.map SV.u8).getD k .undef= .u8 (l'.getD k 0):=by simp[aa,aN,ab a1]
   have:=y.2 k E;rw[e1]at this;exact this.data rfl
 |ap d J i j=>
  rw[hu]at h T;simp only[rg]at h;split at h<;>try (cases h;done)
  ·rename_i b5 xs H
   cases h;obtain⟨rfl,Q,L,I,q3,q4⟩:=hp;have b1:((s.ev q).cells.map SV.data).length=n:=by rw[aC];exact I
   obtain⟨g1,g2⟩:=QJ q3 Q L b1
   have hb:i*J+j+n<=xs.length*J:=by have:=bw J (Nat.succ_le_of_lt Q);rw[eI]at this;omega
   refine cm.store O Z hn T.ap_inv H rfl (by rw[<-y.1];exact I) (nN y (by rw[aI]at q4 ⊢;exact fun z hz=>pR (q4 z hz))) (by simp only[aB.size];exact hb) (by simp only[aB.size];rw[g1]) (fun c W k F=> ?_)
   have:=W k F;simp only[cx,aB.cell,aB.size]at this F ⊢;rw[g2 k F];split
   ·rename_i b4
    rw[gV];have E:k-(i*J+j)<(s.ev q).cells.length:=by omega
    refine((y.2 _ E).data (aI.1 q4 _ ?_)).toData;generalize (s.ev q).cells=qq at*;rw[aa,ab E];exact aU _
   ·exact this
  ·rename_i l H
   split at h<;>try (cases h;done)
   rename_i b hb;cases h;obtain⟨rfl,rfl,rfl,Q⟩:=hp;rw[hb]at y;refine cm.store O Z hn T.ap_inv H rfl (by rw[<-y.1];rfl) (nN y rfl) (by simp only[aB.size];omega) (by simp[aB.size]) (fun c W k F=> ?_);have:=W k F;simp only[cx,aB.cell,aB.size]at this F ⊢;simp only[js,bW]
   by_cases a6:k=i
   ·subst a6
    rw[if_pos (by omega),Nat.sub_self];have e1:(l.set k b).getD k 0=b:=by rw[aa,fN,if_pos rfl,if_pos F];rfl
    rw[e1];exact(y.2 0 (by simp)).data rfl
   ·rw[if_neg (by omega)]
    have e1:(l.set i b).getD k 0=l.getD k 0:=by rw[aa,fN,if_neg (fun e=>a6 e.symm),<-aa]
    rw[e1];exact this
 |_=>rw[hu]at h;simp[rg]at h
end Go.Sy
namespace Go.Sy
variable [aW]
variable {P : Program} {C : Ctx} {x : Sit} {s : St} {a : Act} {w : World} {o : Oper} {so : SOp} {e : Eff}
def xoi(G:GM)(b off:Nat)(fl:t6):Prop:=∀k,k<fl.length->∃v,G b (off+k)=some v/\cy G (fl.getD k .undef) v
def CE(G:GM)(h:Nat)(fl:t6)(v:Value)(n cap:Nat):Prop:=
 n*h=fl.length/\n<=cap/\((∃b off,v= .slice (some ⟨b,off,none⟩) n cap/\xoi G b off fl)\/((∃a,v= .slice a 0 0)/\n=0/\cap=0))
theorem fu(l:d9)(k:Nat)(h:k<l.length):(l.map SV.u8).getD k .undef= .u8 (l.getD k 0):=by simp only[aa,aN];rw[ab h];rfl
theorem wy{G:GM}{l:d9}{t:Tok}{v:Value}(h:cy G (.byt l t) v):∃cap,CE G 1 (l.map .u8) v l.length cap/\∃bs,v= .slice bs l.length cap:=by
 cases h with
 |bytN=>exact⟨0,⟨by simp,by simp,.inr ⟨⟨none,rfl⟩,rfl,rfl⟩⟩,none,rfl⟩
 |bytE _ a=>exact⟨0,⟨by simp,by simp,.inr ⟨⟨some a,rfl⟩,rfl,rfl⟩⟩,some a,rfl⟩
 |byt _ _ b off cap n hn z h=>subst hn;refine⟨cap,⟨by simp,z,.inl ⟨b,off,rfl,fun k y=> ?_⟩⟩,_,rfl⟩;rw[aC]at y;exact⟨_,h k y,by rw[fu _ _ y];exact .u8 _⟩
theorem Gs{G:GM}{l:d9}{t:Tok}{v:Value}{cap:Nat}(h:CE G 1 (l.map .u8) v l.length cap):cy G (.byt l t) v:=by
 obtain⟨_,F,⟨b,off,rfl,E⟩|⟨⟨a,rfl⟩,z,_⟩⟩:=h
 ·refine .byt l t b off cap l.length rfl F fun i hi=> ?_
  obtain⟨v,hv,y⟩:=E i (by simpa using hi);rw[fu _ _ hi]at y;cases y;exact hv
 ·have:l=[]:=bx.1 z
  subst this;cases a with
  |none=>exact .bytN t
  |some a=>exact .bytE t a
theorem bL{F:Nat}{E:d8}(h:∀y∈E,y.length=F):E.flatten.length=E.length*F:=by
 induction E with
 |nil=>simp
 |cons y r H=>simp only[List.flatten_cons,ac,ah,eI];rw[H (fun z hz=>h z (af _ hz)),h y (by simp)];omega
theorem vw{E:Nat}{z:d8}(h:∀i,i<z.length->(z.getD i []).length=E):∀y∈z,y.length=E:=by intro y F;obtain⟨i,hi,rfl⟩:=bH F;have:=h i hi;rwa[aa,ab hi]at this
theorem qT{G:GM}{E:Nat}{F:d8}{t:Tok}{v:Value}(h:cy G (.lst E F t) v):∃cap,CE G E F.flatten v F.length cap/\(∃bs,v= .slice bs F.length cap)/\∀y∈F,y.length=E:=by
 cases h with
 |lstN=>exact⟨0,⟨by simp,by simp,.inr ⟨⟨none,rfl⟩,rfl,rfl⟩⟩,⟨none,rfl⟩,by simp⟩
 |lstE _ _ a=>exact⟨0,⟨by simp,by simp,.inr ⟨⟨some a,rfl⟩,rfl,rfl⟩⟩,⟨some a,rfl⟩,by simp⟩
 |lst _ _ _ b off cap n T hn Z W Q h=>
  subst hn;have z:=vw W;refine⟨cap,⟨(bL z).symm,Z,.inl ⟨b,off,rfl,fun k L=> ?_⟩⟩,⟨_,rfl⟩,z⟩;rw[bL z]at L
  have J:0<E:=by
   rcases fC E with I|I
   ·subst I;omega
   ·exact I
  have hd:k/E<F.length:=nP (by rw[cK];exact L);have O:=s8 k J;have H:=Nat.div_add_mod k E;rw[cK]at H;refine⟨T (k/E) (k % E), ?_, ?_⟩
  ·have:=Q _ _ hd O
   rwa[eU,H]at this
  ·rw[cQ F z k L];exact h _ _ hd O
theorem FR{G:GM}{E:Nat}{F:d8}{t:Tok}{v:Value}{cap:Nat}(h:CE G E F.flatten v F.length cap)(z:∀y∈F,y.length=E):cy G (.lst E F t) v:=by
 obtain⟨_,Q,⟨b,off,rfl,O⟩|⟨⟨a,rfl⟩,J,_⟩⟩:=h
 ·refine .lst E F t b off cap F.length (fun i j=>(G b (off+i*E+j)).getD undef) rfl Q (fun i hi=> ?_) (fun i j hi L=> ?_) (fun i j hi L=> ?_)
  ·rw[aa,ab hi];exact z _ (aU _)
  all_goals
   have I:i*E+j<F.length*E:=by have:=bw E (Nat.succ_le_of_lt hi);rw[eI]at this;omega
   obtain⟨v,hv,H⟩:=O (i*E+j) (by rw[bL z];exact I);rw[<-eU]at hv
  ·rw[hv];rfl
  ·rw[hv]
   rw[cQ F z _ I,show(i*E+j)/E=i from by rw[cK,Nat.mul_add_div (by omega),Nat.div_eq_of_lt (by omega)];rfl,
    show(i*E+j) % E=j from by rw[cK,Nat.mul_add_mod,dF (by omega)]]at H
   exact H
 ·have:F=[]:=bx.1 J
  subst this;cases a with
  |none=>exact .lstN E t
  |some a=>exact .lstE E t a
structure New(x:Sit)(ns:List Value)(fl:List SV):Prop where
 len:fl.length=ns.length
 rep:∀k,k<fl.length->cy x.G (fl.getD k .undef) (ns.getD k undef)
 one:∀v∈ns,v.oneCell'=true
theorem eQ(z:LAb)(n:Nat):(Builtin.zeroCells z n).size=n*z.size:=by simp[Builtin.zeroCells]
theorem aL.retok(z:aL C x s a w){t:Tok}(O:t.ready s=true)(d:Nat){y n cap:Nat}{bs:Option Addr}(H:dM x y t (.slice bs n cap)):
 ∃b lo hi,aL C (x.newT d b lo hi) (s.grew t d) a w/\dM (x.newT d b lo hi) y (.id d) (.slice bs n cap):=by
 have empty:cap=n->∃b lo hi,aL C (x.newT d b lo hi) (s.grew t d) a w/\dM (x.newT d b lo hi) y (.id d) (.slice bs n cap):=by
  intro E;refine⟨0,0,0,⟨?_,z.defers, ?_⟩,bs,n,cap,rfl,.inl E⟩
  ·exact cn.mono (x:=x) (x':=x.newT d 0 0 0) (lo:=d) (hi:=d+1) (fun _ _ _ h=>h) (fun _ _=>rfl) (Sit.newT_ne x d 0 0 0) z.tm
  ·refine(z.heap.sub (tk':=t.eat s.tk) (kE.refl _) ?_).addT d 0 0 0 (.inl rfl) (.inl rfl) (.inl rfl)
   intro u hu;cases t with
   |id t=>exact gN hu
   |_=>exact hu
 cases t with
 |no=>simp[Tok.ready]at O
 |clip=>obtain⟨W,T,I⟩:=H;simp only[Value.slice.injEq]at I;exact empty (by omega)
 |id t=>
  obtain⟨W,T,L,I,hh⟩:=H;simp only[Value.slice.injEq]at I;obtain⟨rfl,rfl,rfl⟩:=I;rcases hh with E|⟨b,off,rfl,hτ⟩
  ·exact empty E
  ·have F:t∈s.tk:=by simpa[Tok.ready]using O
   refine⟨b,off+n*y,off+cap*y,⟨?_,z.defers, ?_⟩,_,n,cap,rfl,.inr ⟨b,off,rfl,Sit.newT_eq x d _ _ _⟩⟩
   ·exact cn.mono (x:=x) (x':=x.newT d b (off+n*y) (off+cap*y)) (lo:=d) (hi:=d+1) (fun _ _ _ h=>h) (fun _ _=>rfl) (Sit.newT_ne x d _ _ _) z.tm
   ·have J:=z.heap.tks t F
    unfold iw at J;rw[hτ]at J;refine(z.heap.sub (tk':=bV t (t+1) s.tk) (kE.refl _) (fun u hu=>gN hu)).addT d b (off+n*y) (off+cap*y) J ?_ ?_
    ·by_cases E:off+n*y=off+cap*y
     ·exact .inl E
     ·refine .inr fun p Q _=> ?_
      have:=z.heap.tko t F p Q;rw[hτ]at this;exact this.resolve_right E
    ·by_cases E:off+n*y=off+cap*y
     ·exact .inl E
     ·refine .inr fun u hu _=> ?_
      obtain⟨hu,Z⟩:=bF.1 hu;have:=z.heap.tkd t F u hu (by omega);rw[hτ]at this;rcases this with h|h|h
      ·exact .inl h
      ·exact absurd h E
      ·exact .inr h
theorem gL{t u H:TypeId}{d2:TypeDesc}{n m len cap:Nat}(hd:P.underlying t=some (.slice H))(hu:P.underlying u=some d2)(E:(∃F,d2= .slice F)\/d2= .string)(hn:fZ P H=some n){ty:TypeId}{bs:Option Addr}{Y:Value}{ns:LAa}{w1:World}
 (z:(Builtin.lenOf Y).run P w= .ok m w) (h:(Builtin.firstCells n m Y).run P w= .ok ns.toArray w) (O:len+m<=cap)
 (y:(match bs with|some I=>storeCells (I.add (len*n)) ns|none=>pure ():Sem Unit).run P w= .ok () w1):
 (Builtin.append_ #[t,u] ty #[.slice bs len cap,Y]).run P w= .ok (.slice bs (len+m) cap) w1:=by
 have e:(#[t,u]:Array TypeId)[0]? =some t:=rfl;have F:(#[t,u]:Array TypeId)[1]? =some u:=rfl;have J:(#[Value.slice bs len cap,Y]:LAb)[0]? =some (.slice bs len cap):=rfl;have L:(#[Value.slice bs len cap,Y]:LAb)[1]? =some Y:=rfl;rcases E with⟨Q,rfl⟩|rfl
 all_goals
  simp only[Builtin.append_,e,F,J,L,ax,run_underlying hd,ak,da hn,run_underlying hu,aE,az,if_false,z,O,if_true,Ew,h];cases bs with
  |none=>simp only[aE]at y;cases y;rfl
  |some I=>simp only[ax];rw[y];rfl
theorem jd{t u E:TypeId}{d2:TypeDesc}{n m len cap y:Nat}{i:TypeInfo}{z:Value}(hd:P.underlying t=some (.slice E))(hu:P.underlying u=some d2)(Q:(∃W,d2= .slice W)\/d2= .string)(hn:fZ P E=some n){ty:TypeId}{bs:Option Addr}{Y:Value}{os ns:LAa}
 (hi:P.info? E=some i) (H:i.bytes=y) (hb0:y≠0) (O:∀w,(zeroValue E).run P w= .ok z w)
 (J:∀w',w'.heap=w.heap->(Builtin.lenOf Y).run P w'= .ok m w') (h:∀w',w'.heap=w.heap->(Builtin.firstCells n m Y).run P w'= .ok ns.toArray w') (I:∀w',w'.heap=w.heap->(Builtin.firstCells n len (.slice bs len cap)).run P w'= .ok os.toArray w')
 (hc:¬len+m<=cap) (F:(len+m)*y<=140737488355328):
 ∃T,len+m<=T/\(Builtin.append_ #[t,u] ty #[.slice bs len cap,Y]).run P w= .ok (.slice (some ⟨w.heap.size,0,none⟩) (len+m) T) (w.drew.alloc (.cells (os.toArray++ns.toArray++Builtin.zeroCells z.cells (T-(len+m))) E (0,0))):=by
 have e:(#[t,u]:Array TypeId)[0]? =some t:=rfl;have W:(#[t,u]:Array TypeId)[1]? =some u:=rfl;have Z:(#[Value.slice bs len cap,Y]:LAb)[0]? =some (.slice bs len cap):=rfl;have e3:(#[Value.slice bs len cap,Y]:LAb)[1]? =some Y:=rfl;have hf:(Question.appendCap (len+m) cap E).forced=false:=rfl
 have L:¬Builtin.nextslicecap (len+m) cap*i.bytes>2^48:=by have:=growslice_fits (need:=len+m) (old:=cap) (bytes:=y) (by omega) F;rw[H];omega
 refine⟨(Question.appendCap (len+m) cap E).cut (w.tape w.drawn (Question.appendCap (len+m) cap E)),by simp only[Question.cut];omega, ?_⟩;rcases Q with⟨e4,rfl⟩|rfl
 all_goals
  simp only[Builtin.append_,e,W,Z,e3,ax,run_underlying hd,ak,da hn,run_underlying hu,aE,az,if_false,J w rfl,hc,run_typeInfo w hi,H,hb0,false_or,and_false];rw[if_neg (by rw[<-H];exact L)];simp only[ax,run_choose_drew,hf,az,if_false,ak,run_typeInfo w.drew hi,run_askRoom,I w.drew rfl,Ew,if_true,h w.drew rfl,O,newRow,run_newObj_alloc,aE];rfl
theorem jh(os ns:LAa)(r:LAb)(k:Nat)(h:k<os.length+ns.length):(os.toArray++ns.toArray++r)[k]? =(os++ns)[k]? :=by rw[Array.getElem?_append_left (by simp;omega)];rw[<-dA];simp
theorem px(J:aL C x s a w){t u el:TypeId}{d2:TypeDesc}{n a8:Nat}{zs:LAa}(hd:P.underlying t=some (.slice el))(hu:P.underlying u=some d2)(b4:(∃e',d2= .slice e')\/d2= .string)(hn:fZ P el=some n)(hb:ud P el=some a8)
 (hz:gI P el=some zs) (hb0:a8≠0) (d6:n≠0) (hzl:zs.length=n) {ty:TypeId} {X Y:Value} {tok:Tok} {fl y:t6} {ns:LAa} {len m cap:Nat} (hX:CE x.G n fl X len cap) (a1:tok.ready s=true) (d5:dM x n tok X)
 (Q:∀w',w'.heap=w.heap->(Builtin.lenOf Y).run P w'= .ok m w') (F:∀w',w'.heap=w.heap->(Builtin.firstCells n m Y).run P w'= .ok ns.toArray w') (L:ns.length=m*n) (E:New x ns y) (b6:(len+m)*a8<=140737488355328) (d:Nat):
 ∃v w' x' b1,(Builtin.append_ #[t,u] ty #[X,Y]).run P w= .ok v w'/\aL C x' (s.grew tok d) a w'/\CE x'.G n (fl++y) v (len+m) b1/\dM x' n (.id d) v:=by
 obtain⟨T,j3,a7⟩:=hX;obtain⟨z,h8,h7⟩:=cN hz
 have hby:∃i,P.info? el=some i/\i.bytes=a8:=by
  unfold ud at hb;cases hi:P.info? el with
  |none=>simp[hi]at hb
  |some i=>simp[hi]at hb;exact⟨i,rfl,hb⟩
 obtain⟨i,hi,h5⟩:=hby
 obtain⟨bs,g8⟩:∃bs,X= .slice bs len cap:=by
  rcases a7 with⟨b,off,rfl,_⟩|⟨⟨a,rfl⟩,rfl,rfl⟩
  ·exact⟨_,rfl⟩
  ·exact⟨_,rfl⟩
 subst g8;have g5:y.length=m*n:=by rw[E.len,L]
 have Z:(len+m)*n=(fl++y).length:=by rw[ac,g5,<-T,bN]
 by_cases hc:len+m<=cap
 ·by_cases hm:ns=[]
  ·
   subst hm;have d7:y=[]:=bx.1 (by rw[E.len];rfl);subst d7;obtain⟨b,lo,j4,h4,e8⟩:=J.retok a1 d d5
   by_cases a6:m=0
   ·subst a6
    refine⟨_,w,_,cap,gL hd hu b4 hn (Q w rfl) (F w rfl) hc (by cases bs<;>rfl),h4, ?_,e8⟩;refine⟨by simpa using T,hc, ?_⟩;rcases a7 with⟨b,off,H,hr⟩|⟨H,h1,h2⟩
    ·exact .inl ⟨b,off,H,by rw[aZ];exact hr⟩
    ·exact .inr ⟨H,h1,h2⟩
   ·
    have hn0:n=0:=by
     simp only[au]at L;rcases Nat.mul_eq_zero.1 L.symm with h|h
     ·exact absurd h a6
     ·exact h
    exact absurd hn0 d6
  ·have e4:0<ns.length:=nq.2 hm
   have e5:0<m*n:=by omega
   cases tok with
   |no=>simp[Tok.ready]at a1
   |clip=>
    obtain⟨b',n',H⟩:=d5;simp only[Value.slice.injEq]at H;have:m=0:=by omega
    subst this;omega
   |id tk=>
    have h3:tk∈s.tk:=by simpa[Tok.ready]using a1
    obtain⟨b',n',b1,H,hh⟩:=d5;simp only[Value.slice.injEq]at H;obtain⟨rfl,rfl,rfl⟩:=H;rcases hh with j6|⟨b,off,rfl,hτ⟩
    ·have:m=0:=by omega
     subst this;omega
    ·have f0:off+len*n+ns.length<=off+cap*n:=by
      rw[L,eU,<-bN];exact Nat.add_le_add_left (bw _ hc) _
     obtain⟨f1,f2,f3,f4,f5,f6,f7,⟨c0,e0,j5,j1,hO,j2⟩⟩:=J.heap.fill h3 hτ ns f0 e4
     have W:=gL (t:=t) (u:=u) (ty:=ty) (Y:=Y) (bs:=some ⟨b,off,none⟩) (w1:=cr w b (off+len*n) ns) hd hu b4 hn (Q w rfl) (F w rfl) hc (by simp only[dD];exact fq (off+len*n) ns w c0 0 hO (by omega) E.one)
     refine⟨_,_,(x.fill b (off+len*n) ns).newT d b (off+len*n+ns.length) (off+cap*n),cap,W,⟨?_,J.defers, ?_⟩,⟨Z,hc,.inl ⟨b,off,rfl, ?_⟩⟩, ?_⟩
     ·exact cn.mono (x:=x) (x':=(x.fill b (off+len*n) ns).newT d b (off+len*n+ns.length) (off+cap*n)) (lo:=d) (hi:=d+1) f1 (fun _ _=>rfl) (Sit.newT_ne (x.fill b (off+len*n) ns) d _ _ _) J.tm
     ·exact f2.addT d b _ _ (.inr ⟨f3,f4,f5⟩) (.inr fun p hp _=>f6 p hp) (.inr fun u hu _=>f7 u hu)
     ·rcases a7 with⟨b2,i6,b5,hr⟩|⟨b5,_,_⟩
      ·simp only[Value.slice.injEq,ao.injEq,Addr.mk.injEq]at b5
       obtain⟨⟨rfl,rfl,_⟩,_⟩:=b5;intro k hk
       by_cases I:k<fl.length
       ·obtain⟨v,hv,c7⟩:=hr k I
        refine⟨v,f1 _ _ _ hv, ?_⟩;have:(fl++y).getD k .undef=fl.getD k .undef:=by simp only[aa,bi I]
        rw[this];exact c7.mono f1
       ·rw[ac]at hk
        refine⟨ns.getD (k-fl.length) undef, ?_, ?_⟩
        ·show(x.fill b (off+len*n) ns).G b (off+k)=_
         simp only[Sit.fill];rw[if_pos ⟨trivial,by omega,by omega⟩,show off+k-(off+len*n)=k-fl.length from by omega]
        ·have:(fl++y).getD k .undef=y.getD (k-fl.length) .undef:=by simp only[aa,bo (Nat.le_of_not_lt I)]
         rw[this];exact(E.rep _ (by omega)).mono f1
      ·have a6:m=0:=by omega
       rw[a6,jx]at e5;exact absurd e5 (Nat.lt_irrefl _)
     ·refine⟨_,_,cap,rfl,.inr ⟨b,off,rfl, ?_⟩⟩
      rw[Sit.newT_eq,L,eU,<-bN]
 ·
  obtain⟨os,h9,O,e3⟩:∃os:LAa,(∀w',w'.heap=w.heap->(Builtin.firstCells n len (.slice bs len cap)).run P w'= .ok os.toArray w')/\os.length=fl.length/\∀k,k<fl.length->cy x.G (fl.getD k .undef) (os.getD k undef):=by
   rcases a7 with⟨b,off,H,hr⟩|⟨H,h1,h2⟩
   ·simp only[Value.slice.injEq]at H
    obtain⟨rfl,_⟩:=H;refine⟨(bQ (len*n)).map fun k=>(w.cell? ⟨b,off+k,none⟩).getD undef,fun w' i1=> ?_,by simp[T],fun k hk=> ?_⟩
    ·simp only[Builtin.firstCells]
     refine run_loadCells w' _ _ _ fun j hj=> ?_
     rw[dD,dJ (w:=w) (by rw[i1])];obtain⟨v,hv,_⟩:=hr j (by omega);rw[J.heap.per _ _ _ hv];rfl
    ·obtain⟨v,hv,c7⟩:=hr k hk
     have:((bQ (len*n)).map fun k=>(w.cell? ⟨b,off+k,none⟩).getD undef).getD k undef=v:=by rw[aa];simp[show k<len*n from by omega,J.heap.per _ _ _ hv]
     rw[this];exact c7
   ·obtain⟨a,H⟩:=H
    simp only[Value.slice.injEq]at H;obtain⟨rfl,rfl,_⟩:=H;have:fl=[]:=bx.1 (by rw[<-T,h1,jx]);subst this;exact⟨[],fun w' _=>by cases bs<;>simp only[Builtin.firstCells,jx]<;>rfl,rfl,fun k hk=>by simp at hk⟩
  obtain⟨nc,g6,W⟩:=jd (t:=t) (u:=u) (ty:=ty) (Y:=Y) hd hu b4 hn hi h5 hb0 h7 Q F h9 hc b6
  let cv:LAb:=os.toArray++ns.toArray++Builtin.zeroCells z.cells (nc-(len+m))
  have i7:cv.size=nc*n:=by
   have h6:z.cells.size=n:=by rw[<-aP,h8];exact hzl
   simp only[cv,Array.size_append,List.size_toArray,eQ,h6,O,L,<-T];rw[<-bN,<-bN];congr 1;omega
  have b7:∀o,x.G w.heap.size o=none:=by
   intro o;cases hg:x.G w.heap.size o with
   |none=>rfl
   |some v=>exact absurd (J.heap.ltG hg) (by omega)
  have e7:=J.heap.newD_le cv ((len+m)*n);have hH:dq C (x.newD w.heap.size cv ((len+m)*n)) s.ob s.tk (w.drew.alloc (.cells cv el (0,0))):=J.heap.drew.allocD ((len+m)*n);have g2:fM (w.drew.alloc (.cells cv el (0,0))) w.heap.size cv el 0 0:=⟨dN (w:=w.drew),fun i _ h=>by omega⟩;refine⟨_,_,(x.newD w.heap.size cv ((len+m)*n)).newT d w.heap.size ((len+m)*n) (nc*n),nc,W,⟨?_,J.defers, ?_⟩,⟨Z,g6,.inl ⟨_,0,rfl, ?_⟩⟩, ?_⟩
  ·exact cn.mono (x:=x) (x':=(x.newD w.heap.size cv ((len+m)*n)).newT d w.heap.size ((len+m)*n) (nc*n)) (lo:=d) (hi:=d+1) e7 (fun _ _=>rfl) (Sit.newT_ne (x.newD w.heap.size cv ((len+m)*n)) d _ _ _) J.tm
  ·refine(hH.sub (tk':=tok.eat s.tk) (kE.refl _) ?_).addT d w.heap.size _ _ (.inr ⟨⟨cv,el,0,0,g2,by omega⟩,J.heap.new _ J.heap.size,fun o h1 h2=> ?_⟩) (.inr fun p hp _=> ?_) (.inr fun u hu _=> ?_)
   ·intro u hu
    cases tok with
    |id t=>exact gN hu
    |_=>exact hu
   ·simp only[Sit.newD];rw[if_neg (by omega)];exact b7 o
   ·obtain⟨⟨c2,e2,g7,g9,b3,_⟩,_⟩:=J.heap.obs p hp
    have:=b3.lt;show w.heap.size≠(x.bk p.1).1;omega
   ·have h0:u∈s.tk:=by
     cases tok with
     |id t=>exact gN hu
     |_=>exact hu
    rcases J.heap.tks u h0 with h|⟨⟨c2,e2,g7,g9,b3,_⟩,_⟩
    ·exact .inr h
    ·have:=b3.lt
     exact .inl (by show w.heap.size≠(x.τ u).1;omega)
  ·intro k hk
   have e6:k<os.length+ns.length:=by rw[O,<-E.len,<-ac];exact hk
   have e9:cv[k]? =(os++ns)[k]? :=jh os ns _ k e6;have j0:k<(len+m)*n:=by rw[Z];exact hk
   refine⟨(os++ns).getD k undef, ?_, ?_⟩
   ·show(x.newD w.heap.size cv ((len+m)*n)).G w.heap.size (0+k)=_
    simp only[Sit.newD];rw[if_pos ⟨trivial,by omega⟩,cd,e9];have:k<(os++ns).length:=by rw[ac];exact e6
    rw[ab this,aa,ab this];rfl
   ·refine cy.mono (G:=x.G) e7 ?_
    by_cases I:k<fl.length
    ·have e1:(fl++y).getD k .undef=fl.getD k .undef:=by simp only[aa,bi I]
     have e2:(os++ns).getD k undef=os.getD k undef:=by simp only[aa,bi (show k<os.length by omega)]
     rw[e1,e2];exact e3 k I
    ·have e1:(fl++y).getD k .undef=y.getD (k-fl.length) .undef:=by simp only[aa,bo (Nat.le_of_not_lt I)]
     have e2:(os++ns).getD k undef=ns.getD (k-fl.length) undef:=by simp only[aa,bo (show os.length<=k by omega),O]
     rw[e1,e2];exact E.rep _ (by rw[ac]at hk;omega)
  ·exact⟨_,_,nc,rfl,.inr ⟨w.heap.size,0,rfl,by rw[Sit.newT_eq];simp⟩⟩
theorem fU(Z:aL C x s a w){u:SV}{Y:Value}{p:Prop}{l:d9}(h:Rep x u Y)(F:bytesOf s u=some (p,l))(hp:p):
 (∀w',w'.heap=w.heap->(Builtin.lenOf Y).run P w'= .ok l.length w')/\(∀m,m<=l.length->∀w',w'.heap=w.heap->(Builtin.firstCells 1 m Y).run P w'= .ok ((l.take m).map fun b=>Value.int .u8 b.toNat).toArray w'):=by
 have load:∀(b off m:Nat),m<=l.length->(∀i,i<l.length->w.cell? ⟨b,off+i,none⟩=some (.int .u8 (l.getD i 0).toNat))->∀w':World,w'.heap=w.heap->
  (loadCells ⟨b,off,none⟩ (m*1)).run P w'= .ok ((l.take m).map fun b=>Value.int .u8 b.toNat).toArray w':=by
  intro b off m E hc w' z;rw[run_loadCells w' _ _ (fun i=> .int .u8 (l.getD i 0).toNat) (fun j hj=>by rw[dD,dJ (w:=w) (by rw[z])];exact hc j (by omega))]
  congr 2
  apply List.ext_getElem?;intro i
  by_cases hi:i<m
  ·simp[hi,aa,show i<l.length from by omega]
  ·simp[hi];omega
 cases u with
 |byt L t=>
  simp only[bytesOf,ao.injEq,bm.injEq]at F;obtain⟨rfl,rfl⟩:=F;have O:=h.data rfl;cases hY:Y with
  |slice ad n W=>
   rw[hY]at O;cases O with
   |bytN=>exact⟨fun w' _=>rfl,fun m E w' _=>by simp at E;subst E;rfl⟩
   |bytE=>exact⟨fun w' _=>rfl,fun m E w' _=>by simp at E;subst E;rfl⟩
   |byt _ _ b off _ _ hn hc hg=>subst hn;exact⟨fun w' _=>rfl,fun m E w' z=>by simp only[Builtin.firstCells];exact load b off m E (fun i hi=>Z.heap.per _ _ _ (hg i hi)) w' z⟩
  |_=>rw[hY]at O;cases O
 |str L=>simp only[bytesOf,ao.injEq,bm.injEq]at F;obtain⟨rfl,rfl⟩:=F;rw[h.str_inv];refine⟨fun w' _=>by simp[Builtin.lenOf,ByteArray.size],fun m E w' _=> ?_⟩;simp only[Builtin.firstCells,Az,bj,aE];simp
 |psl o' sz off n W=>
  simp only[bytesOf]at F;split at F<;>try (cases F;done)
  rename_i L hl;simp only[ao.injEq,bm.injEq]at F;obtain⟨rfl,rfl⟩:=F;obtain⟨T,a6⟩:=hp;obtain⟨W,a1,_,y,Q,I⟩:=h.psl_inv;have J:((L.drop off).take n).length=n:=by simp;omega
  rw[Q];refine⟨fun w' _=>by simp only[Builtin.lenOf,J];rfl,fun m E w' z=> ?_⟩;simp only[Builtin.firstCells]
  by_cases hn:W=0
  ·have:m=0:=by omega
   subst this;rfl
  ·have H:y=off:=by
    rcases I with h|h
    ·omega
    ·rw[T,js]at h;exact h
   subst H;refine load ((x.bk o').1) y m E (fun i hi=> ?_) w' z;obtain⟨v,h2,h3⟩:=(fp Z hl).cell (k:=y+i) (by simp only[aB.size];omega);rw[h2];have h4:cy x.G (.u8 (L.getD (y+i) 0)) v:=h3;cases h4;simp only[aa,bG,if_pos (show i<n by omega),bO]
 |_=>simp[bytesOf]at F
theorem lx(l:d9):New x (l.map fun b=>Value.int .u8 b.toNat) (l.map .u8):=by
 refine⟨by simp,fun k h=> ?_,fun v hv=> ?_⟩
 ·rw[aC]at h
  rw[fu _ _ h]
  have:(l.map fun b=>Value.int .u8 b.toNat).getD k undef= .int .u8 (l.getD k 0).toNat:=by simp only[aa,aN];rw[ab h];rfl
  rw[this];exact .u8 _
 ·obtain⟨b,_,rfl⟩:=aT.1 hv;rfl
theorem iE(hM:aL C x s a w){E:Nat}{u:SV}{Y:Value}{p:Prop}{I:d8}(h:Rep x u Y)(Q:kx s E u=some (p,I))(hp:p):
 (∀y∈I,y.length=E)/\(∀w',w'.heap=w.heap->(Builtin.lenOf Y).run P w'= .ok I.length w')/\
 ∃ns:LAa,New x ns I.flatten/\∀m,m<=I.length->∀w',w'.heap=w.heap->(Builtin.firstCells E m Y).run P w'= .ok (ns.take (m*E)).toArray w':=by
 have Z:∀(b off:Nat),(∀y∈I,y.length=E)->(∀k,k<I.flatten.length->∃v,w.cell? ⟨b,off+k,none⟩=some v/\cy x.G (I.flatten.getD k .undef) v)->
  ∃ns:LAa,New x ns I.flatten/\∀m,m<=I.length->∀w',w'.heap=w.heap->(loadCells ⟨b,off,none⟩ (m*E)).run P w'= .ok (ns.take (m*E)).toArray w':=by
  intro b off z hc;refine⟨(bQ I.flatten.length).map fun k=>(w.cell? ⟨b,off+k,none⟩).getD undef,⟨by simp,fun k H=> ?_,fun v hv=> ?_⟩,fun m O w' J=> ?_⟩
  ·obtain⟨v,hv,hr⟩:=hc k H
   have:((bQ I.flatten.length).map fun k=>(w.cell? ⟨b,off+k,none⟩).getD undef).getD k undef=v:=by rw[aa,aN,cM H];simp[hv]
   rw[this];exact hr
  ·obtain⟨k,H,rfl⟩:=aT.1 hv
   obtain⟨v,hv,hr⟩:=hc k (kr.1 H);rw[hv];exact hr.oneCell
  ·have b4:m*E<=I.flatten.length:=by rw[bL z];exact bw _ O
   rw[run_loadCells w' _ _ (fun k=>(w.cell? ⟨b,off+k,none⟩).getD undef) (fun j hj=> ?_)]
   ·congr 2
    rw[<-List.map_take,List.take_range,iA b4]
   ·rw[dD,dJ (w:=w) (by rw[J])]
    obtain⟨v,hv,_⟩:=hc j (by omega);rw[hv];rfl
 cases u with
 |lst b6 F t=>
  simp only[kx,ao.injEq,bm.injEq]at Q;obtain⟨rfl,rfl⟩:=Q;subst hp;obtain⟨cap,⟨h1,h2,h3⟩,_,z⟩:=qT (h.data rfl);refine⟨z, ?_⟩;rcases h3 with⟨b,off,rfl,hr⟩|⟨⟨ad,rfl⟩,h0,_⟩
  ·refine⟨fun w' _=>rfl, ?_⟩
   obtain⟨ns,g1,g2⟩:=Z b off z (fun k H=>by obtain⟨v,hv,b2⟩:=hr k H;exact⟨v,hM.heap.per _ _ _ hv,b2⟩)
   exact⟨ns,g1,fun m O w' J=>by simp only[Builtin.firstCells];exact g2 m O w' J⟩
  ·have:F=[]:=bx.1 h0
   subst this
   exact⟨fun w' _=>rfl,[],⟨rfl,fun k H=>by simp at H,fun v hv=>by simp at hv⟩,fun m O w' _=>by
    have b1:m=0:=by simpa using O
    subst b1;cases ad<;>simp only[Builtin.firstCells,jx]<;>rfl⟩
 |psl o' b6 off n cp=>
  simp only[kx]at Q;split at Q<;>try (cases Q;done)
  rename_i b7 F hl;simp only[ao.injEq,bm.injEq]at Q;obtain⟨rfl,rfl⟩:=Q;obtain⟨rfl,rfl,b5,a7⟩:=hp;have z:∀y∈(F.drop off).take n,y.length=E:=fun y hy=>a7 y (List.mem_of_mem_drop (cO hy))
  obtain⟨cp,c7,_,T,a8,a1⟩:=h.psl_inv;have L:((F.drop off).take n).length=n:=by simp;omega
  rw[a8];refine⟨z,fun w' _=>by simp only[Builtin.lenOf,L];rfl, ?_⟩
  by_cases hn:cp=0
  ·have hn0:n=0:=by omega
   subst hn0
   exact⟨[],⟨by simp,fun k H=>by simp at H,fun v hv=>by simp at hv⟩,fun m O w' _=>by simp at O;subst O;simp[Builtin.firstCells,loadCells,loadCellsFrom]⟩
  ·have W:T=off*E:=a1.resolve_left hn
   obtain⟨ns,g1,g2⟩:=Z ((x.bk o').1) T z (fun k H=>by
    rw[bL z,L]at H
    have a6:off*E+k<F.length*E:=by have:=bw E b5;rw[bN]at this;omega
    obtain⟨v,h2,h3⟩:=(fp hM hl).cell (k:=off*E+k) (by simp only[aB.size];exact a6);refine⟨v,by rw[W];exact h2, ?_⟩;have h4:cy x.G ((F.getD ((off*E+k)/E) []).getD ((off*E+k) % E) .undef) v:=h3
    have b3:0<E:=by
     rcases fC E with h0|h0
     ·subst h0;omega
     ·exact h0
    rw[cQ _ z k (by rw[L];exact H)];rw[cK off E,Nat.mul_add_div b3,Nat.mul_add_mod]at h4;have hd:k/E<n:=nP (by rw[cK];exact H)
    have e1:((F.drop off).take n).getD (k/E) []=F.getD (off+k/E) []:=by simp only[aa,bG,if_pos hd,bO]
    rw[e1];exact h4)
   exact⟨ns,g1,fun m O w' J=>by simp only[Builtin.firstCells];exact g2 m O w' J⟩
 |_=>simp[kx]at Q
theorem x8(hM:aL C x s a w){cl:Call}(ho:o.op= .call cl)(hb:cl.callee= .builtin .append)(h:bv P o=some so)(F:eff s o.dst so=some e)(hp:e.pre):cm P C o a w (s.app o.dst e):=by
 simp only[bv,ho,hb]at h;split at h<;>try (cases h;done)
 rename_i X Y t u hX ht;split at h<;>try (cases h;done)
 rename_i el d2 r q hd hu d5 d6;split at h<;>try (cases h;done)
 rename_i n d7 z hn hby hz;rw[aH]at h;obtain⟨L,h⟩:=h;simp only[aw,decide_eq_true_eq]at L;obtain⟨⟨hb0,hn0⟩,e1⟩:=L;obtain⟨zs,c7,e0,_⟩:=jU hz;have hzl:zs.length=n:=by omega
 have T:((∃e',d2= .slice e')\/d2= .string)/\so= .app z d7 r q:=by
  split at h<;>try (cases h;done)
  ·cases h;exact⟨.inl ⟨_,rfl⟩,rfl⟩
  ·rw[aH]at h
   obtain⟨_,h⟩:=h;cases h;exact⟨.inr rfl,rfl⟩
  ·cases h;cases F
 obtain⟨T,rfl⟩:=T;have h1:=aK hM d5;have h2:=aK hM d6;have ea:cl.args= #[X,Y]:=by apply eK;simpa using hX
 have et:cl.argTypes= #[t,u]:=by apply eK;simpa using ht
 have b4:=gx (a:=a) ho hb _ rfl;rw[ea,et]at b4;have em: #[X,Y].map a.eval= #[a.eval X,a.eval Y]:=by simp
 rw[em]at b4;simp only[eff]at F;split at F<;>try (cases F;done)
 rename_i d W
 have b7:∀{v w' x'}{c:SV},(Builtin.append_ #[t,u] o.type #[a.eval X,a.eval Y]).run P w= .ok v w'->∀{tk:Tok},aL C x' (s.grew tk (d+100)) a w'->Rep x' c v->cm P C o a w ((s.grew tk (d+100)).put o.dst c):=by intro v w' x' c E tk I hc;exact⟨v,w',x',.value v,by rw[b4];simp[E],.inl rfl,I.put o.dst hc⟩
 cases hu':s.ev r with
 |byt l tk=>
  rw[hu']at F h1
  try simp only at F
  split at F<;>try (cases F;done)
  rename_i p l' a1;cases F;obtain⟨a7,e2,rfl,b1,O⟩:=hp;obtain rfl:n=1:=by omega
  obtain⟨g1,g2⟩:=fU (P:=P) hM h2 a1 a7;obtain⟨_,_,_,_,_,b3⟩:=h1.byt_inv;obtain⟨cap,hF,_⟩:=wy (h1.data rfl)
  obtain⟨v,w',x',Q,E,I,b5,J⟩:=px (ty:=o.type) hM hd hu T hn hby c7 hb0 hn0 hzl hF b1 b3 g1 (fun w' b2=>by have:=g2 l'.length (bc _) w' b2;rwa[ba]at this) (by simp) (lx l') (by omega) (d+100)
  simp only[St.app];have a8:o.dst.getD 0=d:=by rw[W];rfl
  rw[a8];refine b7 E I (.dat _ _ (Gs (cap:=Q) ?_) J);rw[ac,cz];exact b5
 |lst e3 l tk=>
  rw[hu']at F h1
  try simp only at F
  split at F<;>try (cases F;done)
  rename_i p l' a1;cases F;obtain⟨a7,rfl,b1,O⟩:=hp;obtain rfl:n=z.length:=by omega
  obtain⟨H,g1,ns,Z,g2⟩:=iE (P:=P) hM h2 a1 a7;obtain⟨_,_,_,_,_,b3⟩:=h1.lst_inv;obtain⟨cap,hF,_,a6⟩:=qT (h1.data rfl);have b6:ns.length=l'.length*z.length:=by rw[<-Z.len,bL H]
  obtain⟨v,w',x',Q,E,I,b5,J⟩:=px (ty:=o.type) hM hd hu T hn hby c7 hb0 hn0 hzl hF b1 b3 g1 (fun w' b2=>by have:=g2 l'.length (bc _) w' b2;rwa[<-b6,ba]at this) b6 Z O (d+100)
  simp only[St.app];have a8:o.dst.getD 0=d:=by rw[W];rfl
  rw[a8];refine b7 E I (.dat _ _ (FR (cap:=Q) ?_ ?_) J)
  ·rw[ac,cj];exact b5
  ·intro y hy
   rcases an.1 hy with hy|hy
   ·exact a6 y hy
   ·exact H y hy
 |_=>rw[hu']at F;simp at F
end Go.Sy
namespace Go.Sy
variable [aW]
variable {P : Program} {C : Ctx} {x : Sit} {s : St} {a : Act} {w : World} {o : Oper} {so : SOp} {e : Eff}
theorem aL.write(F:aL C x s a w){d off:Nat}{obj obj':aB}(Q:s.look d=some obj){vs:LAa}(hb:off+vs.length<=obj.size)(T:obj'.size=obj.size)
 (E:∀c:LAb,(∀k,k<obj.size->cx x obj k (c.getD k undef))->∀k,k<obj.size->cx x obj' k (if off<=k/\k<off+vs.length then vs.getD (k-off) undef else c.getD k undef)) (z:obj'.arrB=obj.arrB:=by rfl):
 aL C x (s.setO d obj') a (cr w ((x.bk d).1) off vs)/\((∀v∈vs,v.oneCell'=true)->∀w':World,w'=w->(storeCells ⟨(x.bk d).1,off,none⟩ vs).run P w'= .ok () (cr w ((x.bk d).1) off vs)):=by
 obtain⟨c,e,fl,fh,O,⟨hs,Z,I⟩,hr⟩:=fp F Q;obtain⟨g1,W,g3,g4,g5⟩:=fQ ((x.bk d).1) vs w off;obtain⟨c',H,J,L⟩:=fr vs w off c O (by omega);refine⟨⟨F.tm,F.defers,F.heap.block (dh Q) g1 W g3 g4 g5 ⟨c',e,fl,fh,H,⟨by omega,by omega,fun h=>by rw[J];exact I (z ▸ h)⟩,fun k hk=> ?_⟩⟩, ?_⟩
 ·rw[L k]
  exact E c hr k (by omega)
 ·rintro y w' rfl
  exact fq off vs w' c 0 O (by omega) y
theorem vN{t u F:TypeId}{n m k:Nat}{ty:TypeId}{bs:Addr}{cap:Nat}{Y:Value}{vs:LAa}{w1:World}(hd:P.underlying t=some (.slice F))(hn:fZ P F=some n)
 (y:(Builtin.lenOf Y).run P w= .ok m w) (h:(Builtin.firstCells n (min m k) Y).run P w= .ok vs.toArray w) (z:(storeCells bs vs).run P w= .ok () w1):
 (Builtin.copy_ #[t,u] ty #[.slice (some bs) k cap,Y]).run P w= .ok (.int .i64 (min m k:Nat)) w1:=by
 have e:(#[t,u]:Array TypeId)[0]? =some t:=rfl;have H:(#[Value.slice (some bs) k cap,Y]:LAb)[0]? =some (.slice (some bs) k cap):=rfl;have I:(#[Value.slice (some bs) k cap,Y]:LAb)[1]? =some Y:=rfl;have E:(Builtin.firstCells n (Nat.min m k) Y).run P w= .ok vs.toArray w:=h;simp only[Builtin.copy_,e,H,I,ax,run_underlying hd,ak,da hn,y,E,z,aE,goInt]
theorem Gd(hM:aL C x s a w){cl:Call}(ho:o.op= .call cl)(hb:cl.callee= .builtin .copy)(hr:bv P o=some so)(T:eff s o.dst so=some e)(hp:e.pre):cm P C o a w (s.app o.dst e):=by
 simp only[bv,ho,hb]at hr;split at hr<;>try (cases hr;done)
 rename_i X Y t u hX ht;split at hr<;>try (cases hr;done)
 rename_i el r q hd c7 d6;split at hr<;>try (cases hr;done)
 rename_i n hn;cases hr;have h1:=aK hM c7;have h2:=aK hM d6;have ea:cl.args= #[X,Y]:=by apply eK;simpa using hX
 have et:cl.argTypes= #[t,u]:=by apply eK;simpa using ht
 have a8:=gx (a:=a) ho hb _ rfl;rw[ea,et]at a8;have em: #[X,Y].map a.eval= #[a.eval X,a.eval Y]:=by simp
 rw[em]at a8;simp only[eff]at T;cases hu:s.ev r with
 |psl d f2 off k cap=>
  rw[hu]at T h1;obtain⟨cap,f1,_,Q,b7,b1⟩:=h1.psl_inv
  try simp only at T
  split at T<;>try (cases T;done)
  ·rename_i l hl
   split at T<;>try (cases T;done)
   rename_i p z b3;cases T;obtain⟨b5,rfl,rfl,e5⟩:=hp;obtain⟨g1,g2⟩:=fU (P:=P) hM h2 b3 b5;have a1:((z.take (min z.length k)).map fun b=>Value.int .u8 b.toNat).length=min z.length k:=by simp
   have e4:z.take (min z.length k)=z.take k:=by rw[Nat.min_comm,<-List.take_take];simp
   have H:min z.length k=0\/Q=off:=by
    rcases b1 with h|h
    ·left;omega
    ·right;rw[js]at h;exact h
   have W:(z.take k).length=min z.length k:=by simp;omega
   simp only[St.app]
   obtain⟨
    hM',hst⟩:=hM.write (P:=P) (off:=off) (vs:=(z.take (min z.length k)).map fun b=>Value.int .u8 b.toNat) (obj':= .bar (l.take off++z.take k++l.drop (off+(z.take k).length))) hl (by simp only[aB.size,a1];omega)
    (by simp only[aB.size,ac,av,aX];omega) (by
     intro c hc i hi;have:=hc i hi;simp only[cx,aB.cell,aB.size]at this hi ⊢;have b6:=gJ l (z.take k) off i (by rw[W];omega);rw[a1]
     have e1:(l.take off++z.take k++l.drop (off+(z.take k).length)).getD i 0=if off<=i/\i<off+min z.length k then(z.take k).getD (i-off) 0 else l.getD i 0:=by simp only[aa];rw[b6,W];split<;>rfl
     rw[e1];split
     ·rename_i e7
      rw[e4]
      have e2:((z.take k).map fun b=>Value.int .u8 b.toNat).getD (i-off) undef= .int .u8 ((z.take k).getD (i-off) 0).toNat:=by simp only[aa,aN];rw[ab (by rw[W];omega)];rfl
      rw[e2];exact .u8 _
     ·exact this)
   refine⟨.int .i64 (min z.length k:Nat),_,x,.value _, ?_,.inl rfl,aL.put hM' o.dst (cT _ _)⟩;rw[a8,b7]
   have b4:=vN (P:=P) (w:=w) (t:=t) (u:=u) (ty:=o.type) (bs:=⟨(x.bk d).1,Q,none⟩) (cap:=cap) (w1:=cr w ((x.bk d).1) off ((z.take (min z.length k)).map fun b=>Value.int .u8 b.toNat)) hd hn (g1 w rfl) (g2 _ (Nat.min_le_left _ _) w rfl) (by
    rcases H with h|h
    ·rw[h];rfl
    ·rw[h];exact hst (fun v hv=>by obtain⟨_,_,rfl⟩:=aT.1 hv;rfl) w rfl)
   simp[b4]
  ·rename_i f0 F hl
   split at T<;>try (cases T;done)
   rename_i p z b3;cases T;obtain⟨b5,rfl,rfl,e5,E⟩:=hp;obtain⟨O,g1,ns,L,g2⟩:=iE (P:=P) hM h2 b3 b5;have d5:ns.length=z.length*n:=by rw[<-L.len,bL O]
   have e8:(min z.length k)*n<=ns.length:=by rw[d5];exact bw _ (Nat.min_le_left _ _)
   have a1:(ns.take (min z.length k*n)).length=min z.length k*n:=by rw[av,iA e8]
   have W:(z.take k).length=min z.length k:=by simp;omega
   have J:∀y∈z.take k,y.length=n:=fun y I=>O y (cO I)
   have a7:(z.take k).flatten.length=min z.length k*n:=by rw[bL J,W]
   have H:min z.length k=0\/Q=off*n:=by
    rcases b1 with h|h
    ·left;omega
    ·right;exact h
   have b2:off*n+min z.length k*n<=F.length*n:=by rw[<-bN];exact bw _ (by omega)
   have Z:∀y∈F.take off++z.take k++F.drop (off+(z.take k).length),y.length=n:=by
    intro y I;rcases an.1 I with I|I
    ·rcases an.1 I with I|I
     ·exact E y (cO I)
     ·exact J y I
    ·exact E y (List.mem_of_mem_drop I)
   have a6:(F.take off++z.take k++F.drop (off+(z.take k).length)).length=F.length:=by simp only[ac,av,aX];omega
   simp only[St.app]
   obtain⟨
    hM',hst⟩:=hM.write (P:=P) (off:=off*n) (vs:=ns.take (min z.length k*n)) (obj':= .arr n (F.take off++z.take k++F.drop (off+(z.take k).length))) hl (by simp only[aB.size,a1];exact b2)
    (by simp only[aB.size];rw[a6]) (by
     intro c hc i hi;have:=hc i hi;simp only[cx,aB.cell,aB.size]at this hi ⊢;rw[<-cQ _ Z i (by rw[a6];exact hi)];rw[<-cQ _ E i hi]at this;rw[cj,cj,a1];have ef:F.flatten=(F.take off).flatten++(F.drop off).flatten:=by rw[<-cj,kQ]
     have l1:(F.take off).flatten.length=off*n:=by rw[bL (fun y I=>E y (cO I)),av,iA (by omega)]
     have e1:F.flatten.take (off*n)=(F.take off).flatten:=by rw[ef,List.take_append_of_le_length (by rw[l1];exact bc _),bh (by rw[l1];exact bc _)]
     have e2:F.flatten.drop (off*n+min z.length k*n)=(F.drop (off+(z.take k).length)).flatten:=by
      have e0:F.flatten=(F.take (off+(z.take k).length)).flatten++(F.drop (off+(z.take k).length)).flatten:=by rw[<-cj,kQ]
      have l2:(F.take (off+(z.take k).length)).flatten.length=off*n+min z.length k*n:=by rw[bL (fun y I=>E y (cO I)),av,W,iA (by omega),bN]
      rw[e0,List.drop_append,l2,Nat.sub_self,bj,ct (by rw[l2];exact bc _),aR]
     rw[<-e1,<-e2,<-a7];have b6:=gJ F.flatten (z.take k).flatten (off*n) i (by rw[a7,bL E];exact b2);rw[aa,b6];split
     ·rename_i e7
      rw[<-aa];have e6:i-off*n<(z.take k).flatten.length:=by omega
      have d7:(z.take k).flatten.getD (i-off*n) .undef=z.flatten.getD (i-off*n) .undef:=by
       have e9:z.flatten=(z.take k).flatten++(z.drop k).flatten:=by rw[<-cj,kQ]
       rw[e9];simp only[aa];rw[bi e6]
      rw[d7]
      have e3:(ns.take (min z.length k*n)).getD (i-off*n) undef=ns.getD (i-off*n) undef:=by simp only[aa,bG];rw[if_pos (by omega)]
      rw[<-a7]at e3;rw[e3];exact L.rep _ (by rw[L.len];omega)
     ·rw[<-aa];exact this)
   refine⟨.int .i64 (min z.length k:Nat),_,x,.value _, ?_,.inl rfl,aL.put hM' o.dst (cT _ _)⟩;rw[a8,b7]
   have b4:=vN (P:=P) (w:=w) (t:=t) (u:=u) (ty:=o.type) (bs:=⟨(x.bk d).1,Q,none⟩) (cap:=cap) (w1:=cr w ((x.bk d).1) (off*n) (ns.take (min z.length k*n))) hd hn (g1 w rfl) (g2 _ (Nat.min_le_left _ _) w rfl) (by
    rcases H with h|h
    ·rw[h];simp[storeCells,cr]
    ·rw[h];exact hst (fun v hv=>L.one v (cO hv)) w rfl)
   simp[b4]
 |_=>rw[hu]at T;simp at T
theorem aL.writeRows(hM:aL C x s a w){d n off:Nat}{z E:d8}{ns:LAa}(hl:s.look d=some (.arr n z))(h:∀y∈z,y.length=n)(F:∀y∈E,y.length=n)
 (a1:off+E.length<=z.length) (J:New x ns E.flatten):
 aL C x (s.setO d (.arr n (z.take off++E++z.drop (off+E.length)))) a (cr w ((x.bk d).1) (off*n) ns)/\(storeCells ⟨(x.bk d).1,off*n,none⟩ ns).run P w= .ok () (cr w ((x.bk d).1) (off*n) ns):=by
 have T:ns.length=E.length*n:=by rw[<-J.len,bL F]
 have Q:off*n+E.length*n<=z.length*n:=by rw[<-bN];exact bw _ a1
 have I:∀y∈z.take off++E++z.drop (off+E.length),y.length=n:=by
  intro y H;rcases an.1 H with H|H
  ·rcases an.1 H with H|H
   ·exact h y (cO H)
   ·exact F y H
  ·exact h y (List.mem_of_mem_drop H)
 have L:(z.take off++E++z.drop (off+E.length)).length=z.length:=by simp only[ac,av,aX];omega
 obtain⟨
  hM',hst⟩:=hM.write (P:=P) (off:=off*n) (vs:=ns) (obj':= .arr n (z.take off++E++z.drop (off+E.length))) hl (by simp only[aB.size,T];exact Q)
  (by simp only[aB.size];rw[L]) (by
   intro c hc i hi;have:=hc i hi;simp only[cx,aB.cell,aB.size]at this hi ⊢;rw[<-cQ _ I i (by rw[L];exact hi)];rw[<-cQ _ h i hi]at this;rw[cj,cj,T];have ef:z.flatten=(z.take off).flatten++(z.drop off).flatten:=by rw[<-cj,kQ]
   have l1:(z.take off).flatten.length=off*n:=by rw[bL (fun y H=>h y (cO H)),av,iA (by omega)]
   have e1:z.flatten.take (off*n)=(z.take off).flatten:=by rw[ef,List.take_append_of_le_length (by rw[l1];exact bc _),bh (by rw[l1];exact bc _)]
   have O:E.flatten.length=E.length*n:=bL F
   have e2:z.flatten.drop (off*n+E.length*n)=(z.drop (off+E.length)).flatten:=by
    have W:z.flatten=(z.take (off+E.length)).flatten++(z.drop (off+E.length)).flatten:=by rw[<-cj,kQ]
    have l2:(z.take (off+E.length)).flatten.length=off*n+E.length*n:=by rw[bL (fun y H=>h y (cO H)),av,iA (by omega),bN]
    rw[W,List.drop_append,l2,Nat.sub_self,bj,ct (by rw[l2];exact bc _),aR]
   rw[<-e1,<-e2,<-O];have Z:=gJ z.flatten E.flatten (off*n) i (by rw[O,bL h];exact Q);rw[aa,Z];split
   ·rename_i a6
    rw[<-aa];exact J.rep _ (by omega)
   ·rw[<-aa];exact this)
 exact⟨hM',hst J.one w rfl⟩
theorem Dl{W:LAa}{z:t6}{J:LAb}(Q:J.toList=W)(hl:z.length=W.length)(hz:∀(G:GM) i,i<z.length->cy G (z.getD i .undef) (W.getD i undef))(n:Nat):
 New x (Builtin.zeroCells J n).toList (aJ n z).flatten:=by
 have H:J.size=z.length:=by rw[<-aP,Q,hl]
 have F:∀y∈aJ n z,y.length=z.length:=fun y hy=>by rw[(List.mem_replicate.1 hy).2]
 have L:(aJ n z).flatten.length=n*z.length:=by rw[bL F,dG]
 have I:∀i,i<n*z.length->(Builtin.zeroCells J n).toList.getD i undef=W.getD (i % z.length) undef:=by
  intro i hi
  have E:0<z.length:=by
   rcases fC z.length with h|h
   ·rw[h]at hi;omega
   ·exact h
  have O:i % J.size<J.size:=s8 _ (by omega);rw[aa,Builtin.zeroCells];simp only[Array.toList_map,Array.toList_range,aN];rw[cM (by rw[H];exact hi)];simp only[bn,aO];rw[getElem!_pos J _ O,<-Q,aa,<-H,ab (by simpa using O)];simp
 refine⟨by rw[L];simp[eQ,H],fun i hi=> ?_,fun v hv=> ?_⟩
 ·rw[L]at hi
  have E:0<z.length:=by
   rcases fC z.length with h|h
   ·rw[h]at hi;omega
   ·exact h
  rw[I i hi,cQ _ F i (by simpa using hi),gi _ _ _ _ (nP (by rw[cK];exact hi))];exact hz _ _ (s8 _ E)
 ·obtain⟨i,hi,rfl⟩:=List.mem_iff_getElem.1 hv
  have T:i<n*z.length:=by simpa[eQ,H]using hi
  have E:0<z.length:=by
   rcases fC z.length with h|h
   ·rw[h]at T;omega
   ·exact h
  have Z:=I i T;rw[aa,ab hi,aO]at Z;rw[Z];exact(hz (fun _ _=>none) _ (s8 _ E)).oneCell
theorem DI(hM:aL C x s a w){cl:Call}(ho:o.op= .call cl)(hb:cl.callee= .builtin .clear)(E:bv P o=some so)(F:eff s o.dst so=some e)(hp:e.pre):cm P C o a w (s.app o.dst e):=by
 simp only[bv,ho,hb]at E;split at E<;>try (cases E;done)
 rename_i X t hX ht;split at E<;>try (cases E;done)
 rename_i el r hd a6;split at E<;>try (cases E;done)
 rename_i z hz;cases E;have h1:=aK hM a6;have ea:cl.args= #[X]:=by apply eK;simpa using hX
 have et:cl.argTypes= #[t]:=by apply eK;simpa using ht
 have J:=gx (a:=a) ho hb _ rfl;rw[ea,et]at J;have em: #[X].map a.eval= #[a.eval X]:=by simp
 rw[em]at J;simp only[eff]at F;cases hu:s.ev r with
 |psl d c7 off k cap=>
  rw[hu]at F h1;obtain⟨cap,b7,_,a1,b2,Q⟩:=h1.psl_inv
  try simp only at F
  split at F<;>try (cases F;done)
  rename_i b5 xs hl;cases F;obtain⟨b6,rfl,rfl,b1,I⟩:=hp
  have L:a1=off*z.length:=by
   rcases Q with h|h
   ·omega
   ·exact h
  subst L;obtain⟨zs,O,hzl,a7⟩:=oi hz;obtain⟨zv,a8,H⟩:=cN O;have W:=Dl (x:=x) a8 hzl a7 k;have T:∀y∈aJ k z,y.length=z.length:=fun y hy=>by rw[(List.mem_replicate.1 hy).2]
  obtain⟨Z,b3⟩:=hM.writeRows (P:=P) (off:=off) hl I T (by simpa using b1) W;rw[dG]at Z;simp only[St.app];refine⟨.tuple #[],_,x,.value _, ?_,.inl rfl,aL.put Z o.dst (.tup [] [] rfl fun i hi=>by simp at hi)⟩;rw[J,b2]
  have b4:(Builtin.clear_ #[t] o.type #[.slice (some ⟨(x.bk d).1,off*z.length,none⟩) k cap]).run P w= .ok (.tuple #[]) (cr w ((x.bk d).1) (off*z.length) (Builtin.zeroCells zv.cells k).toList):=by have e1:(#[t]:Array TypeId)[0]? =some t:=rfl;have e2:(#[Value.slice (some ⟨(x.bk d).1,off*z.length,none⟩) k cap]:LAb)[0]? =some (.slice (some ⟨(x.bk d).1,off*z.length,none⟩) k cap):=rfl;obtain⟨k',rfl⟩:∃k',k=k'+1:=⟨k-1,by omega⟩;simp only[Builtin.clear_,e1,e2,ax,run_underlying hd,ak,H,b3,aE]
  simp[b4]
 |_=>rw[hu]at F;simp at F
theorem DH(z:aL C x s a w)(h:bv P o=some so)(L:∀q r,so≠ .ovl q r)(F:eff s o.dst so=some e)(E:e.pre):cm P C o a w (s.app o.dst e):=by
 have y:(∀{p c},val s so=some (p,c)->p->cm P C o a w (s.put o.dst c))->(∀d,eff s d so=match val s so with|some (p,v)=>some {pre:=p,val:=v}|none=>none)->cm P C o a w (s.app o.dst e):=by
  intro Z W;rw[W]at F;cases hv:val s so with
  |none=>simp[hv]at F
  |some Q=>obtain⟨p,c⟩:=Q;simp only[hv,ao.injEq]at F;subst F;exact Z hv E
 cases ho:o.op with
 |move X=>exact y (fun hv _=>vC z (.inl ho) h hv) (by simp only[bv,ho]at h;obtain⟨_,_,rfl⟩:=ae.1 h;intro d;rfl)
 |assign X=>exact y (fun hv _=>vC z (.inr ho) h hv) (by simp only[bv,ho]at h;obtain⟨_,_,rfl⟩:=ae.1 h;intro d;rfl)
 |pick c X Y=>
  exfalso;simp only[bv,ho]at h;split at h<;>try (cases h;done)
  cases h;simp[eff]at F
 |alloc t=>exact DJ z ho h F
 |box t X=>exact Sn z ho h F
 |build t O=>exact y (fun hv _=>CL z ho h hv) (by
  simp only[bv,ho]at h;split at h<;>try (cases h;done)
  ·split at h<;>try (cases h;done)
   obtain⟨_,_,rfl⟩:=ae.1 h;intro d;rfl
  ·split at h<;>try (cases h;done)
   obtain⟨_,_,rfl⟩:=ae.1 h;intro d;rfl)
 |buildSlice t n O=>exact y (fun hv _=>o8 z ho h hv) (by
  simp only[bv,ho]at h;split at h<;>try (cases h;done)
  split at h<;>try (cases h;done)
  split at h<;>try (cases h;done)
  obtain⟨_,_,rfl⟩:=ae.1 h;intro d;split<;>rfl)
 |load t X=>exact y (fun hv E=>EL z ho h hv E) (by
  simp only[bv,ho]at h;split at h<;>try (cases h;done)
  split at h<;>try (cases h;done)
  cases h;intro d;rfl)
 |store t X Y=>exact DG z ho h F E
 |nilCheck X=>exact y (fun hv _=>sV z ho h hv) (by simp only[bv,ho]at h;obtain⟨_,_,rfl⟩:=ae.1 h;intro d;rfl)
 |binOp op t X Y u=>
  by_cases H:∃J I q r,so= .eqS J I q r
  ·obtain⟨J,I,q,r,rfl⟩:=H
   exact y (fun hv _=>PR z ho h hv) (fun _=>rfl)
  ·exact y (fun hv E=>CM z ho h (fun J I q r e=>H ⟨J,I,q,r,e⟩) hv E) (by
    simp only[bv,ho]at h;split at h<;>try (cases h;done)
    ·split at h<;>try (cases h;done)
     all_goals (cases h;intro d;rfl)
    ·cases h;intro d;rfl
    ·cases h;intro d;rfl
    ·split at h<;>try (cases h;done)
     split at h<;>try (cases h;done)
     split at h<;>first|(cases h;done)|(cases h;intro d;rfl)
    ·split at h<;>first|(cases h;done)|(cases h;simp[eff]at F)
    ·split at h<;>first|(cases h;done)|(cases h;intro d;rfl))
 |unOp op t X=>exact y (fun hv _=>EK z ho h hv) (by simp only[bv,ho]at h;obtain⟨_,_,rfl⟩:=ae.1 h;intro d;rfl)
 |convert t u X=>exact y (fun hv E=>vp z ho h hv E) (by
  simp only[bv,ho]at h;split at h<;>try (cases h;done)
  ·cases h;intro d;rfl
  ·cases h;intro d;rfl
  ·split at h<;>try (cases h;done)
   cases h;intro d;rfl
  ·split at h<;>try (cases h;done)
   cases h;intro d;rfl
  ·split at h<;>try (cases h;done)
   cases h;intro d;rfl)
 |makeFunc f X Y=>exact y (fun hv _=>sW z ho h hv) (by
  cases f<;>simp only[bv,ho,reduceCtorEq]at h;split at h<;>try (cases h;done)
  cases h;intro d;rfl)
 |makeSlice t X Y=>exact ry z ho h F E
 |slice t X lo hi mx=>exact y (fun hv E=>CI z ho h hv E) (by
  simp only[bv,ho]at h;split at h<;>try (cases h;done)
  split at h
  ·cases h
  split at h<;>try (cases h;done)
  ·split at h<;>try (cases h;done)
   cases h;intro d;rfl
  ·split at h<;>try (cases h;done)
   cases h;intro d;rfl
  ·split at h<;>try (cases h;done)
   cases h;intro d;rfl)
 |fieldAddr t X i=>exact y (fun hv _=>re z ho h hv) (by
  simp only[bv,ho]at h;split at h<;>try (cases h;done)
  split at h<;>try (cases h;done)
  split at h<;>try (cases h;done)
  split at h
  ·cases h
  cases h;intro d;rfl)
 |field t X i=>exact y (fun hv E=>CK z ho h hv E) (by
  simp only[bv,ho]at h;split at h<;>try (cases h;done)
  split at h<;>try (cases h;done)
  split at h<;>try (cases h;done)
  split at h<;>try (cases h;done)
  cases h;intro d;rfl)
 |indexAddr t X Y=>exact y (fun hv E=>rb z ho h hv E) (by
  simp only[bv,ho]at h;split at h<;>try (cases h;done)
  ·split at h<;>try (cases h;done)
   cases h;intro d;rfl
  ·split at h<;>try (cases h;done)
   cases h;intro d;rfl)
 |index t X Y=>exact y (fun hv E=>CJ z ho h hv E) (by
  simp only[bv,ho]at h;split at h<;>try (cases h;done)
  ·split at h<;>try (cases h;done)
   split at h<;>try (cases h;done)
   cases h;intro d;rfl
  ·cases h;intro d;rfl)
 |extract X i=>exact y (fun hv E=>vo z ho h hv E) (by simp only[bv,ho]at h;obtain⟨_,_,rfl⟩:=ae.1 h;intro d;rfl)
 |call T=>
  cases hb:T.callee with
  |invoke r m=>simp[bv,ho,hb]at h
  |value f=>
   exfalso;simp only[bv,ho,hb]at h;split at h<;>try (cases h;done)
   split at h<;>try (cases h;done)
   split at h
   ·split at h
    ·cases h;exact L _ _ rfl
    ·cases h;simp[eff]at F
   ·cases h;simp[eff]at F
  |builtin b=>
   cases b with
   |append=>exact x8 z ho hb h F E
   |copy=>exact Gd z ho hb h F E
   |clear=>exact DI z ho hb h F E
   |cap=>exact y (fun hv _=>PS z ho hb h hv) (by
    simp only[bv,ho,hb]at h;split at h<;>try (cases h;done)
    split at h<;>try (cases h;done)
    cases h;intro d;rfl)
   |len=>exact y (fun hv _=>PQ z ho hb h hv) (by
    simp only[bv,ho,hb]at h;split at h<;>try (cases h;done)
    split at h<;>try (cases h;done)
    ·cases h;intro d;rfl
    ·cases h;intro d;rfl
    ·cases h;intro d;rfl
    ·split at h<;>try (cases h;done)
     cases h;intro d;rfl)
   |min=>exact y (fun hv _=>o9 z ho (.inl hb) h hv) (by
    simp only[bv,ho,hb]at h;split at h<;>try (cases h;done)
    split at h<;>try (cases h;done)
    cases h;intro d;rfl)
   |max=>exact y (fun hv _=>o9 z ho (.inr hb) h hv) (by
    simp only[bv,ho,hb]at h;split at h<;>try (cases h;done)
    split at h<;>try (cases h;done)
    cases h;intro d;rfl)
   |_=>simp[bv,ho,hb]at h
 |_=>simp[bv,ho]at h
end Go.Sy
namespace Go.Sy
variable [aW]
variable {P : Program} {C : Ctx} {x : Sit} {s : St} {a : Act} {w : World}
theorem lT{cs:t6}{i:Nat}(hi:i<cs.length):∀k∈(cs.getD i .undef).ids,k∈SV.idsL cs:=by
 induction cs generalizing i with
 |nil=>simp at hi
 |cons c r y=>
  intro k h;simp only[SV.idsL,an];cases i with
  |zero=>exact .inl (by simpa using h)
  |succ i=>exact .inr (y (i:=i) (by simpa using hi) k (by simpa using h))
theorem kT{cs:t6}{i:Nat}(hi:i<cs.length):∀k∈(cs.getD i .undef).toks,k∈SV.toksL cs:=by
 induction cs generalizing i with
 |nil=>simp at hi
 |cons c r y=>
  intro k h;simp only[SV.toksL,an];cases i with
  |zero=>exact .inl (by simpa using h)
  |succ i=>exact .inr (y (i:=i) (by simpa using hi) k (by simpa using h))
theorem Rep.renF{x x2:Sit}{mo mt:Nat->Nat}(hG:∀b o v,x.G b o=some v->x2.G b o=some v){sv:SV}{v:Value}(h:Rep x sv v):(∀k∈sv.ids,x2.bk (mo k)=x.bk k)->(∀t∈sv.toks,x2.τ (mt t)=x.τ t)->Rep x2 (sv.ren mo mt) v:=by
 induction h with
 |undef v=>intro _ _;exact .undef v
 |dat s v h O=>
  intro E I;have H:=h.mono hG
  have sp:∀(F:Nat)(t:Tok),(∀u,t= .id u->x2.τ (mt u)=x.τ u)->dM x F t v->dM x2 F (t.ren mt) v:=by
   intro F t O hs;cases t with
   |no=>trivial
   |clip=>exact hs
   |id u=>obtain⟨ad,n,cap,hv,Z⟩:=hs;refine⟨ad,n,cap,hv,Z.imp id ?_⟩;rintro⟨b,off,he,hh⟩;exact⟨b,off,he,by rw[O u rfl];exact hh⟩
  cases s with
  |byt l t=>simp only[SV.ren];exact .dat _ _ (H.tok _ (.inl ⟨l,t,_,rfl,rfl⟩)) (sp 1 t (fun u hu=>I u (by subst hu;simp[SV.toks])) O)
  |lst F xs t=>simp only[SV.ren];exact .dat _ _ (H.tok _ (.inr ⟨F,xs,t,_,rfl,rfl⟩)) (sp F t (fun u hu=>I u (by subst hu;simp[SV.toks])) O)
  |undef=>exact .undef v
  |bool b=>simp only[SV.ren];exact .dat _ _ H trivial
  |int k n=>simp only[SV.ren];exact .dat _ _ H trivial
  |u8 b=>simp only[SV.ren];exact .dat _ _ H trivial
  |str l=>simp only[SV.ren];exact .dat _ _ H trivial
  |nilp=>simp only[SV.ren];exact .dat _ _ H trivial
  |nili=>simp only[SV.ren];exact .dat _ _ H trivial
  |ife=>simp only[SV.ren];exact .dat _ _ H trivial
  |pp cs=>simp only[SV.ren];exact .dat _ _ H trivial
  |ptr o off=>cases h
  |ap o F i j=>cases h
  |psl o F off n cap=>cases h
  |agg cs=>cases h
  |tup cs=>cases h
  |fn f a b=>cases h
 |ptr o off=>intro E _;simp only[SV.ren];rw[<-E o (by simp[SV.ids])];exact .ptr _ off
 |ap o F i j=>intro E _;simp only[SV.ren];rw[<-E o (by simp[SV.ids])];exact .ap _ F i j
 |psl o F off n cap L J h hn Z z=>intro E _;simp only[SV.ren];rw[<-E o (by simp[SV.ids])]at z ⊢;exact .psl _ F off n cap L J h hn Z z
 |agg cs vs hl _ T=>
  intro E I;simp only[SV.ren,fP]
  exact .agg _ _ (by simpa using hl) fun i hi=>by
   rw[aY _ (by simp)];have y:i<cs.length:=by simpa using hi
   exact T i y (fun k z=>E k (by simp only[SV.ids];exact lT y k z)) (fun k z=>I k (by simp only[SV.toks];exact kT y k z))
 |tup cs vs hl _ T=>
  intro E I;simp only[SV.ren,fP]
  exact .tup _ _ (by simpa using hl) fun i hi=>by
   rw[aY _ (by simp)];have y:i<cs.length:=by simpa using hi
   exact T i y (fun k z=>E k (by simp only[SV.ids];exact lT y k z)) (fun k z=>I k (by simp only[SV.toks];exact kT y k z))
 |fn f c1 c2 v1 v2 W _ a1 _ a6 Q=>
  intro E I;simp only[SV.ren,fP]
  exact .fn _ _ _ _ _ (by simpa using W) (fun i hi=>by
   rw[aY _ (by simp)];have y:i<c1.length:=by simpa using hi
   exact a6 i y (fun k z=>E k (by simp only[SV.ids,an];exact .inl (lT y k z))) (fun k z=>I k (by simp only[SV.toks,an];exact .inl (kT y k z))))
   (by simpa using a1) fun i hi=>by
    rw[aY _ (by simp)];have y:i<c2.length:=by simpa using hi
    exact Q i y (fun k z=>E k (by simp only[SV.ids,an];exact .inr (lT y k z))) (fun k z=>I k (by simp only[SV.toks,an];exact .inr (kT y k z)))
def Sit.back(x:Sit)(mo mt:Nat->Nat):Sit:=⟨x.G,fun k=>x.bk (mo k),fun t=>x.τ (mt t)⟩
theorem pk{x:Sit}{mo mt:Nat->Nat}{y:Nat}{t:Tok}{v:Value}(h:dM x y (t.ren mt) v):dM (x.back mo mt) y t v:=by
 cases t with
 |no=>trivial
 |clip=>exact h
 |id u=>exact h
theorem Rep.renB{x:Sit}{mo mt:Nat->Nat}(sv:SV):∀v,Rep x (sv.ren mo mt) v->Rep (x.back mo mt) sv v:=by
 refine SV.rec (motive_1:=fun sv=>∀v,Rep x (sv.ren mo mt) v->Rep (x.back mo mt) sv v) (motive_2:=fun _=>True) (motive_3:=fun l=>∀i,i<l.length->∀v,Rep x ((l.getD i .undef).ren mo mt) v->Rep (x.back mo mt) (l.getD i .undef) v)
  ?_ ?_ ?_ ?_ ?_ ?_ ?_ ?_ ?_ ?_ ?_ ?_ ?_ ?_ ?_ ?_ ?_ ?_ ?_ ?_ ?_ sv
 ·intro v _;exact .undef v
 ·intro b v h;rw[Rep.bool_inv h];exact dT b
 ·intro k n v h;rw[Rep.int_inv h];exact cT k n
 ·intro b v h;rw[Rep.u8_inv h];exact oR b
 ·intro l v h;rw[Rep.str_inv h];exact lL l
 ·intro l t v h
  simp only[SV.ren]at h;cases h with
  |dat _ _ h J=>exact .dat _ _ (h.tok _ (.inl ⟨l,_,t,rfl,rfl⟩)) (pk J)
 ·intro z Z t _ v h
  simp only[SV.ren]at h;cases h with
  |dat _ _ h J=>exact .dat _ _ (h.tok _ (.inr ⟨z,Z,_,t,rfl,rfl⟩)) (pk J)
 ·intro v h;rw[Rep.nilp_inv h];exact .dat _ _ .nilp trivial
 ·intro v h;rw[Rep.nili_inv h];exact .dat _ _ .nili trivial
 ·intro v h;simp only[SV.ren]at h;obtain⟨t,u,rfl⟩:=Rep.ife_inv h;exact .dat _ _ (.ife t u) trivial
 ·intro cs _ v h
  simp only[SV.ren]at h;exact .dat _ _ (Rep.data (x:=x) h rfl) trivial
 ·intro o off v h;simp only[SV.ren]at h;rw[h.ptr_inv];exact .ptr o off
 ·intro o z i j v h;simp only[SV.ren]at h;rw[h.ap_inv];exact .ap o z i j
 ·intro o z off n cap v h
  simp only[SV.ren]at h;obtain⟨y,hn,hc,F,rfl,ho,hk⟩:=h.psl_invA;exact .psl (x:=x.back mo mt) o z off n cap F y ho hn hc hk
 ·intro cs I v h
  simp only[SV.ren,fP]at h;obtain⟨vs,rfl,E⟩:=h.agg_inv;refine .agg _ _ (by simpa using E.1) fun i hi=>I i hi _ ?_
  have:=E.2 i (by simpa using hi);rwa[aY _ (by simp)]at this
 ·intro cs I v h
  simp only[SV.ren,fP]at h;obtain⟨vs,rfl,E⟩:=h.tup_inv;refine .tup _ _ (by simpa using E.1) fun i hi=>I i hi _ ?_
  have:=E.2 i (by simpa using hi);rwa[aY _ (by simp)]at this
 ·intro f c1 c2 L H v h
  simp only[SV.ren,fP]at h;obtain⟨v1,v2,rfl,W,T⟩:=h.fn_inv;refine .fn _ _ _ _ _ (by simpa using W.1) (fun i hi=>L i hi _ ?_) (by simpa using T.1) (fun i hi=>H i hi _ ?_)
  ·have:=W.2 i (by simpa using hi);rwa[aY _ (by simp)]at this
  ·have:=T.2 i (by simpa using hi);rwa[aY _ (by simp)]at this
 ·trivial
 ·intros;trivial
 ·intro i hi;simp at hi
 ·intro c r O Q i hi v h
  cases i with
  |zero=>exact O v (by simpa using h)
  |succ i=>simpa using Q i (by simpa using hi) v (by simpa using h)
theorem eu.renB{mo mt:Nat->Nat}{o:Nat}{obj:aB}(h:eu x w (mo o) (obj.ren mo mt)):eu (x.back mo mt) w o obj:=by
 obtain⟨c,e,fl,fh,I,⟨H,z,y⟩,E⟩:=h;refine⟨c,e,fl,fh,I,⟨?_,z,by cases obj<;>exact y⟩,fun k F=> ?_⟩
 ·cases obj<;>simpa[aB.ren,aB.size,fP]using H
 ·cases obj with
  |rc cs=>have:=E k (by simpa[aB.ren,aB.size,fP]using F);simp only[aB.ren,cx,fP]at this ⊢;rw[aY _ (by simp)]at this;exact Rep.renB _ _ this
  |arr L J=>exact E k F
  |bar l=>exact E k F
theorem eu.renF{x2:Sit}{w':World}{mo mt:Nat->Nat}{o:Nat}{obj:aB}(h:eu x w' o obj)(F:∀b o v,x.G b o=some v->x2.G b o=some v)(L:x2.bk (mo o)=x.bk o)
 (W:∀k∈obj.ids,x2.bk (mo k)=x.bk k) (Q:∀t∈obj.toks,x2.τ (mt t)=x.τ t):eu x2 w' (mo o) (obj.ren mo mt):=by
 obtain⟨c,e,fl,fh,T,⟨O,E,z⟩,I⟩:=h;refine⟨c,e,fl,fh,by rw[L];exact T,⟨?_,by rw[L];exact E,by cases obj<;>exact z⟩,fun k J=> ?_⟩
 ·cases obj<;>simpa[aB.ren,aB.size,fP]using O
 ·cases obj with
  |rc cs=>
   have y:k<cs.length:=by simpa[aB.ren,aB.size,fP]using J
   have:=I k y;simp only[aB.ren,cx,fP]at this ⊢;rw[aY _ (by simp)];exact Rep.renF F this (fun j H=>W j (lT y j H)) (fun j H=>Q j (kT y j H))
  |arr sz Z=>exact(I k J).mono F
  |bar l=>exact(I k J).mono F
theorem jv{os:List aB}{p:Nat×aB}:p∈idx os↔p.1<os.length/\p.2=os.getD p.1 (.rc []):=by
 unfold idx;rw[aT];constructor
 ·rintro⟨⟨ob,i⟩,h,rfl⟩
  have:=List.mem_zipIdx' h;exact⟨this.1,by rw[aa,ab this.1];exact this.2⟩
 ·rintro⟨z,y⟩
  refine⟨(p.2,p.1), ?_,rfl⟩;rw[List.mk_mem_zipIdx_iff_getElem?,y,aa,ab z];rfl
theorem nW(os:List aB):((idx os).map cI).Nodup:=by
 unfold idx;rw[wN];have:(cI∘fun p:aB×Nat=>(p.2,p.1))=Prod.snd:=rfl;rw[this];have:os.zipIdx.map Prod.snd=List.range' 0 os.length:=by simp[List.zipIdx_map_snd]
 rw[this];exact List.nodup_range'
theorem sj{m:t7}(h:m.Nodup){i j:Nat}(hi:i<m.length)(E:j<m.length)(e:m[i]=m[j]):i=j:=by
 have z:=List.pairwise_iff_getElem.1 h;rcases Nat.lt_trichotomy i j with y|heq|hgt
 ·exact absurd e (z i j hi E y)
 ·exact heq
 ·exact absurd e.symm (z j i E hi hgt)
def Ctx.callee(x:Sit)(w:World)(m:t7)(β0:Nat->Nat×Nat):Ctx:=⟨w,x.G,fun b=>w.heap.size<=b\/∃i,i<m.length/\(x.bk (m.getD i 0)).1=b,β0⟩
theorem vz(H:aL C x s a w){m:t7}{os:List aB}{mo mt:Nat->Nat}(F:∀i,i<m.length->mo i=m.getD i 0)(hl:m.length=os.length)(O:m.Nodup)
 (y:∀i,i<os.length->s.look (m.getD i 0)=some ((os.getD i (.rc [])).ren mo mt)):dq (Ctx.callee x w m (x.back mo mt).bk) (x.back mo mt) (idx os) [] w:=by
 have I:∀i,i<os.length->(x.back mo mt).bk i=x.bk (m.getD i 0):=fun i hi=>by show x.bk (mo i)=_;rw[F i (by omega)]
 refine⟨H.heap.per,fun _ _ _ h=>h,fun _ _ _ h=> .inl h,fun b h=> .inl h, ?_,nW os, ?_,fun t h=>by simp at h,fun t h=>by simp at h,fun t h=>by simp at h,rfl,rfl,rfl,bc _,fun _ _=>rfl,fun _ _=>rfl,H.heap.lay.mono H.heap.g0⟩
 ·intro p L
  obtain⟨z,J⟩:=jv.1 L;obtain⟨h3,h4,T⟩:=H.heap.obs _ (dh (y p.1 z));refine⟨?_,.inr ⟨p.1,by omega,by rw[I p.1 z]⟩,fun off=>by rw[I p.1 z];exact T off⟩;rw[J];refine eu.renB ?_;rw[F p.1 (by omega)];exact h3
 ·intro p L q W E
  obtain⟨z,_⟩:=jv.1 L;obtain⟨J,_⟩:=jv.1 W;rw[I _ z,I _ J]at E;have:=H.heap.inj _ (dh (y p.1 z)) _ (dh (y q.1 J)) E;simp only at this;have Q:m.getD p.1 0=m[p.1]'(by omega):=by rw[aa,ab (by omega)];rfl
  have Z:m.getD q.1 0=m[q.1]'(by omega):=by rw[aa,ab (by omega)];rfl
  rw[Q,Z]at this;exact sj O _ _ this
end Go.Sy
namespace Go.Sy
variable [aW]
variable {P : Program} {C : Ctx} {x : Sit} {s : St} {a : Act} {w : World}
theorem ke{m:t7}{l:List (Nat×aB)}{p:Nat×aB}:p∈fT m l↔p∈l/\p.1∉m:=by
 induction l with
 |nil=>simp[fT]
 |cons q r E=>
  simp only[fT];split<;>rename_i z
  ·rw[E,al];constructor
   ·rintro⟨y,h⟩;exact⟨.inr y,h⟩
   ·rintro⟨rfl|y,h⟩
    ·exact absurd z h
    ·exact⟨y,h⟩
  ·rw[al,E,al];constructor
   ·rintro(rfl|⟨y,h⟩)
    ·exact⟨.inl rfl,z⟩
    ·exact⟨.inr y,h⟩
   ·rintro⟨rfl|y,h⟩
    ·exact .inl rfl
    ·exact .inr ⟨y,h⟩
theorem iH(m:t7)(l:List (Nat×aB)):(fT m l).Sublist l:=by
 induction l with
 |nil=>exact kE.refl _
 |cons q r h=>
  simp only[fT];split
  ·exact h.cons q
  ·exact h.cons_cons q
theorem xV(hM:aL C x s a w){m:t7}{os:List aB}{mo mt:Nat->Nat}{lo hi:Nat}(hl:m.length=os.length)(f1:∀i,i<os.length->s.look (m.getD i 0)=some ((os.getD i (.rc [])).ren mo mt))
 {x':Sit} {w':World} {a1:List (Nat×aB)} {tks:t7} {β0:Nat->Nat×Nat} (Z:dq (Ctx.callee x w m β0) x' a1 tks w')
 (g6:∀i,i<m.length->mo i=m.getD i 0) {β2:Nat->Nat×Nat} {τ2:Nat->Nat×Nat×Nat} (b7:∀i,i<100->¬(lo<=i/\i<hi)) (a6:∀o,¬(lo<=o/\o<hi)->β2 o=x.bk o) (b1:∀o,¬(lo<=o/\o<hi)->τ2 o=x.τ o)
 (O:∀p∈a1,β2 (mo p.1)=x'.bk p.1) (e4:∀p∈a1,∀k∈p.2.ids,β2 (mo k)=x'.bk k) (e3:∀p∈a1,∀t∈p.2.toks,τ2 (mt t)=x'.τ t)
 (c7:∀p∈a1,p.1<m.length\/(lo<=mo p.1/\mo p.1<hi)) (b3:∀t∈tks,(lo<=mt t/\mt t<hi)/\τ2 (mt t)=x'.τ t):
 (∀b o v,x.G b o=some v->x'.G b o=some v)/\dq C ⟨x'.G,β2,τ2⟩ (a1.map (fun p=>(mo p.1,p.2.ren mo mt))++fT m (bq lo hi s.ob)) (tks.map mt++bV lo hi s.tk) w':=by
 have hG:∀b o v,x.G b o=some v->x'.G b o=some v:=Z.g0;have y:=hM.heap;have Q:∀i,i<m.length->(∃ob,(m.getD i 0,ob)∈s.ob):=fun i hi=>⟨_,dh (f1 i (by omega))⟩
 have a7:∀b,(Ctx.callee x w m β0).mine b->C.mine b:=by
  rintro b (h|⟨i,hi,rfl⟩)
  ·exact y.new b (gf y.size h)
  ·obtain⟨ob,d6⟩:=Q i hi
   exact(y.obs _ d6).2.1
 have g8:∀o∈m,∃i,i<m.length/\m.getD i 0=o:=by intro o ho;obtain⟨i,hi,rfl⟩:=bH ho;exact⟨i,hi,by rw[aa,ab hi];rfl⟩
 have b5:∀b,b<w.heap.size->(∀i,i<m.length->(x.bk (m.getD i 0)).1≠b)->w'.heap[b]? =w.heap[b]? /\((∀off,x.G b off=none)->∀off,x'.G b off=none):=by
  intro b hb d7
  have d5:¬(Ctx.callee x w m β0).mine b:=by
   rintro(h|⟨i,hi,h⟩)
   ·omega
   ·exact d7 i hi h
  refine⟨Z.ext b d5,fun h off=> ?_⟩;cases hg:x'.G b off with
  |none=>rfl
  |some v=>
   rcases Z.gm b off v hg with z|z
   ·change x.G b off=some v at z;rw[h off]at z;cases z
   ·exact absurd z d5
 have b2:∀p∈fT m (bq lo hi s.ob),∃ob,(p.1,ob)∈s.ob/\p.2=ob.purge lo hi/\¬(lo<=p.1/\p.1<hi)/\p.1∉m/\(∀i,i<m.length->(x.bk (m.getD i 0)).1≠(x.bk p.1).1)/\(x.bk p.1).1<w.heap.size:=by
  intro p F;obtain⟨z,W⟩:=ke.1 F;obtain⟨h3,ob,h4,h5⟩:=cG z;refine⟨ob,h4,h5,h3,W,fun i hi e=> ?_, ?_⟩
  ·obtain⟨e5,e8⟩:=Q i hi
   have:=y.inj _ e8 _ h4 e;simp only at this;apply W;rw[<-this,aa,ab hi];exact aU _
  ·obtain⟨⟨c,e,fl,fh,hO,_⟩,_⟩:=y.obs _ h4
   exact hO.lt
 have T:∀p∈a1.map (fun p=>(mo p.1,p.2.ren mo mt)),∃q∈a1,p=(mo q.1,q.2.ren mo mt)/\β2 p.1=x'.bk q.1:=by intro p F;obtain⟨q,H,rfl⟩:=aT.1 F;exact⟨q,H,rfl,O q H⟩
 have J:∀q∈a1,w.heap.size<=(x'.bk q.1).1\/∃i,i<m.length/\(x.bk (m.getD i 0)).1=(x'.bk q.1).1:=fun q H=>(Z.obs q H).2.1
 have E:∀t∈bV lo hi s.tk,t∈s.tk/\¬(lo<=t/\t<hi):=fun t L=>bF.1 L
 have I:∀t∈s.tk,(x.τ t).2.1=(x.τ t).2.2\/((x.τ t).1<w.heap.size/\∀i,i<m.length->(x.bk (m.getD i 0)).1≠(x.τ t).1):=by
  intro t L;rcases y.tks t L with h|⟨⟨c,e,fl,fh,hO,_⟩,_⟩
  ·exact .inl h
  ·by_cases he:(x.τ t).2.1=(x.τ t).2.2
   ·exact .inl he
   ·refine .inr ⟨hO.lt,fun i hi e'=> ?_⟩
    obtain⟨ob,d6⟩:=Q i hi;rcases y.tko t L _ d6 with h|h
    ·exact h e'.symm
    ·exact he h
 refine⟨hG,⟨Z.per,fun b o v h=>hG _ _ _ (y.g0 b o v h), ?_,y.new, ?_, ?_, ?_, ?_, ?_, ?_,Z.os.trans y.os,Z.tape.trans y.tape,Z.output.trans y.output,gf y.size Z.size, ?_,fun i hi=>(a6 i (b7 i hi)).trans (y.pin i hi),y.lay⟩⟩
 ·intro b o v h
  rcases Z.gm b o v h with z|z
  ·exact y.gm b o v z
  ·exact .inr (a7 b z)
 ·intro p F
  rcases an.1 F with F|F
  ·obtain⟨q,H,rfl,hb⟩:=T p F
   obtain⟨z,W,h3⟩:=Z.obs q H;refine⟨z.renF (x2:=⟨x'.G,β2,τ2⟩) (fun _ _ _ h=>h) (O q H) (e4 q H) (e3 q H), ?_,fun off=> ?_⟩
   ·show C.mine (β2 (mo q.1)).1;rw[O q H];exact a7 _ W
   ·show x'.G (β2 (mo q.1)).1 off=none;rw[O q H];exact h3 off
  ·obtain⟨ob,z,W,h3,h4,h5,h6⟩:=b2 p F
   obtain⟨g1,g2,g3⟩:=y.obs _ z;obtain⟨k1,k2⟩:=b5 _ h6 h5;have hb:β2 p.1=x.bk p.1:=a6 _ h3;refine⟨?_,by show C.mine (β2 p.1).1;rw[hb];exact g2,fun off=>by show x'.G (β2 p.1).1 off=none;rw[hb];exact k2 g3 off⟩;rw[W];exact eu.of_heap (x':=⟨x'.G,β2,τ2⟩) g1 k1 hG a6 b1 h3
 ·rw[cz,List.nodup_append]
  refine⟨?_, ?_, ?_⟩
  ·rw[wN]
   have e7:=hZ.1 Z.nd;refine hZ.2 (List.Pairwise.imp_of_mem (fun{p q} F H d7=> ?_) e7);intro e;simp only[Function.comp]at e;have:(x'.bk p.1).1=(x'.bk q.1).1:=by rw[<-O p F,<-O q H,e]
   exact d7 (Z.inj p F q H this)
  ·have z:(fT m (bq lo hi s.ob)).Sublist (bq lo hi s.ob):=iH _ _
   refine wO.sublist (z.map cI) ?_;rw[fy];exact y.nd.filter _
  ·intro o1 z o2 W e
   subst e;obtain⟨p,F,rfl⟩:=aT.1 z;obtain⟨q,H,e2⟩:=aT.1 W;obtain⟨r,hr,rfl⟩:=aT.1 F;obtain⟨ob,k1,k2,k3,k4,k5,k6⟩:=b2 q H;simp only at e2;rcases c7 r hr with h|h
   ·apply k4;rw[e2,g6 _ h,aa,ab h];exact aU _
   ·apply k3;rw[e2];exact h
 ·intro p F q H a8
  change (β2 p.1).1=(β2 q.1).1 at a8;rcases an.1 F with F|F<;>rcases an.1 H with H|H
  ·obtain⟨p',e1,rfl,hb⟩:=T p F
   obtain⟨q',e0,rfl,f2⟩:=T q H;rw[hb,f2]at a8;have:=Z.inj p' e1 q' e0 a8;simp only;rw[this]
  ·obtain⟨p',e1,rfl,hb⟩:=T p F
   obtain⟨ob,k1,k2,k3,k4,k5,k6⟩:=b2 q H;rw[hb,a6 _ k3]at a8;rcases J p' e1 with h|⟨i,hi,h⟩
   ·omega
   ·exact absurd (h.trans a8) (k5 i hi)
  ·obtain⟨q',e0,rfl,hb⟩:=T q H
   obtain⟨ob,k1,k2,k3,k4,k5,k6⟩:=b2 p F;rw[hb,a6 _ k3]at a8;rcases J q' e0 with h|⟨i,hi,h⟩
   ·omega
   ·exact absurd (h.trans a8.symm) (k5 i hi)
  ·obtain⟨ob,k1,k2,k3,k4,k5,k6⟩:=b2 p F
   obtain⟨e5,f6,g9,g5,h0,h7,h8⟩:=b2 q H;rw[a6 _ k3,a6 _ g5]at a8;exact y.inj (p.1,ob) k1 (q.1,e5) f6 a8
 ·intro t L
  rcases an.1 L with L|L
  ·obtain⟨u,hu,rfl⟩:=aT.1 L
   obtain⟨_,f0⟩:=b3 u hu;have:=Z.tks u hu;unfold iw at this ⊢;simp only[f0];exact this.imp id fun⟨z,W,h3⟩=>⟨z,a7 _ W,h3⟩
  ·obtain⟨
    z,W⟩:=E t L
   have:=y.tks t z;unfold iw at this ⊢;simp only[b1 t W];rcases this with h|⟨⟨c,e,fl,fh,hO,hc⟩,h4,h5⟩
   ·exact .inl h
   ·rcases I t z with h|⟨k1,k2⟩
    ·exact .inl h
    ·obtain⟨g1,_⟩:=b5 _ k1 k2
     refine .inr ⟨⟨c,e,fl,fh,hO.of_heap g1,hc⟩,h4,fun o e9 g7=> ?_⟩;cases hg:x'.G (x.τ t).1 o with
     |none=>rfl
     |some v=>
      rcases Z.gm _ _ _ hg with q1|q1
      ·change x.G _ _=some v at q1;rw[h5 o e9 g7]at q1;cases q1
      ·rcases q1 with q1|⟨i,hi,q1⟩
       ·change w.heap.size<=_ at q1;omega
       ·exact absurd q1 (k2 i hi)
 ·intro t L p F
  rcases an.1 L with L|L<;>rcases an.1 F with F|F
  ·obtain⟨u,hu,rfl⟩:=aT.1 L
   obtain⟨q,H,rfl,hb⟩:=T p F;show(τ2 (mt u)).1≠(β2 (mo q.1)).1\/(τ2 (mt u)).2.1=(τ2 (mt u)).2.2;rw[(b3 u hu).2,O q H];exact Z.tko u hu q H
  ·obtain⟨u,hu,rfl⟩:=aT.1 L
   obtain⟨ob,k1,k2,k3,k4,k5,k6⟩:=b2 p F;show(τ2 (mt u)).1≠(β2 p.1).1\/(τ2 (mt u)).2.1=(τ2 (mt u)).2.2;rw[(b3 u hu).2,a6 _ k3];rcases Z.tks u hu with h|⟨_,h,_⟩
   ·exact .inr h
   ·left;intro e
    rcases h with h|⟨i,hi,h⟩
    ·change w.heap.size<=_ at h;omega
    ·exact k5 i hi (h.trans e)
  ·obtain⟨z,W⟩:=E t L
   obtain⟨q,H,rfl,hb⟩:=T p F;show(τ2 t).1≠(β2 (mo q.1)).1\/(τ2 t).2.1=(τ2 t).2.2;rw[b1 t W,O q H];rcases I t z with h|⟨k1,k2⟩
   ·exact .inr h
   ·left;intro e
    rcases J q H with h|⟨i,hi,h⟩
    ·omega
    ·exact k2 i hi (h.trans e.symm)
  ·obtain⟨z,W⟩:=E t L
   obtain⟨ob,k1,k2,k3,k4,k5,k6⟩:=b2 p F;show(τ2 t).1≠(β2 p.1).1\/(τ2 t).2.1=(τ2 t).2.2;rw[b1 t W,a6 _ k3];exact y.tko t z (p.1,ob) k1
 ·intro t L u hu e6
  show lX (τ2 t) (τ2 u)\/(τ2 t).2.1=(τ2 t).2.2\/(τ2 u).2.1=(τ2 u).2.2;rcases an.1 L with L|L<;>rcases an.1 hu with hu|hu
  ·obtain⟨t',b6,rfl⟩:=aT.1 L
   obtain⟨u',b4,rfl⟩:=aT.1 hu;rw[(b3 t' b6).2,(b3 u' b4).2];exact Z.tkd t' b6 u' b4 (fun e=>e6 (by rw[e]))
  ·obtain⟨t',b6,rfl⟩:=aT.1 L
   obtain⟨z,W⟩:=E u hu;rw[(b3 t' b6).2,b1 u W];rcases Z.tks t' b6 with h|⟨_,h,_⟩
   ·exact .inr (.inl h)
   ·rcases I u z with k|⟨k1,k2⟩
    ·exact .inr (.inr k)
    ·refine .inl (fun e=> ?_)
     rcases h with h|⟨i,hi,h⟩
     ·change w.heap.size<=_ at h;omega
     ·exact k2 i hi (h.trans e)
  ·obtain⟨u',b4,rfl⟩:=aT.1 hu
   obtain⟨z,W⟩:=E t L;rw[(b3 u' b4).2,b1 t W];rcases Z.tks u' b4 with h|⟨_,h,_⟩
   ·exact .inr (.inr h)
   ·rcases I t z with k|⟨k1,k2⟩
    ·exact .inr (.inl k)
    ·refine .inl (fun e=> ?_)
     rcases h with h|⟨i,hi,h⟩
     ·change w.heap.size<=_ at h;omega
     ·exact k2 i hi (h.trans e.symm)
  ·obtain⟨z,W⟩:=E t L
   obtain⟨h3,h4⟩:=E u hu;rw[b1 t W,b1 u h4];exact y.tkd t z u h3 e6
 ·intro b hb
  have d5:¬(Ctx.callee x w m β0).mine b:=fun h=>hb (a7 b h)
  exact(Z.ext b d5).trans (y.ext b hb)
theorem dq.only{ob y:List (Nat×aB)}{tk tk':t7}(h:dq C x ob tk w)(E:∀p∈y,p∈ob)(hn:(y.map cI).Nodup)(F:∀t∈tk',t∈tk):dq C x y tk' w:=
 ⟨h.per,h.g0,h.gm,h.new,fun p z=>h.obs p (E p z),hn,fun p z q H=>h.inj p (E p z) q (E q H),fun t hu=>h.tks t (F t hu),fun t hu p z=>h.tko t (F t hu) p (E p z),
  fun t hu u hv=>h.tkd t (F t hu) u (F u hv),h.os,h.tape,h.output,h.size,h.ext,h.pin,h.lay⟩
theorem vR(d:Nat)(m:t7)(os:List (Nat×aB)):py d m os=os.map fun p=>(jt d m p.1,p.2.ren (jt d m) (kX d)):=by
 induction os with
 |nil=>rfl
 |cons p r h=>simp[py,h]
end Go.Sy
namespace Go.Sy
variable [aW]
variable {P : Program} {C : Ctx} {x : Sit} {s : St} {a : Act} {w : World} {o : Oper} {so : SOp}
def Eu(C:Ctx)(k:St->Prop):LAf:=fun a w=>∃x s,aL C x s a w/\k s
theorem cY{K:LAf}{Q:LAe}{k:St->Prop}{s':St}(h:cm P C o a w s')(z:k s')(F:∀a w,Eu C k a w->K a w):o.wp P a w K Q:=by
 obtain⟨u,w',x',n,y,hn,E⟩:=h;unfold Oper.wp;rw[y];rcases hn with rfl|⟨rfl,rfl⟩
 ·exact F _ _ ⟨x',s',E,z⟩
 ·exact F _ _ ⟨x',s',E,z⟩
theorem s6{f:Nat}(h:eX P f=true)(args:LAb)(w:World):(callFunc f args).run P w= .ok (.enter f args) w:=by
 unfold eX at h;split at h
 ·rename_i fn z
  simp only[aw,ej]at h;obtain⟨E,y⟩:=h;have F:fn.body.isNone=false:=by cases hb:fn.body<;>simp[hb]at E ⊢
  simp only[callFunc,ax,run_program,ak,z,y,az,if_false,F,aE]
 ·cases h
theorem DF(Q:aL C x s a w){h:Call}{F:Operand}(ho:o.op= .call h)(hb:h.callee= .value F){f:Arg}{a_:List Arg}(hf:bt P 0 F=some f)
 (has:kf (fun p=>bt P p.2 p.1) (h.args.toList.zip h.argTypes.toList)=some a_) (I:h.args.size=h.argTypes.size) {g:Nat} {c1 c2:t6} (W:s.ev f= .fn g c1 c2) (hc:eX P g=true):
 ∃vs:LAa,(execOp a.eval o).run P w= .ok (.enter g ⟨vs⟩) w/\cn x (c1++a_.map s.ev++c2) vs:=by
 have T:=aK Q hf;rw[W]at T;obtain⟨O,v2,H,h1,h2⟩:=T.fn_inv;obtain⟨hl,E⟩:=fG has;have hzl:(h.args.toList.zip h.argTypes.toList).length=h.args.toList.length:=by simp[I]
 have y:cn x (a_.map s.ev) (h.args.toList.map a.eval):=by
  refine⟨by simp only[aC];rw[hl,hzl],fun i hi=> ?_⟩;have z:i<a_.length:=by simpa using hi
  have J:i<(h.args.toList.zip h.argTypes.toList).length:=by omega
  have:=aK Q (E i J z);have Z:(a_.map s.ev).getD i .undef=s.ev a_[i]:=by rw[aa,aN,ab z];rfl
  have e2:(h.args.toList.map a.eval).getD i undef=a.eval (h.args.toList.zip h.argTypes.toList)[i].1:=by
   have L:i<h.args.toList.length:=by omega
   rw[aa,aN,ab L,List.getElem_zip];rfl
  rw[Z,e2];exact this
 refine⟨O++h.args.toList.map a.eval++v2, ?_,(h1.append y).append h2⟩
 have:(execOp a.eval o).run P w=(callFunc g ((⟨O⟩:LAb)++h.args.map a.eval++⟨v2⟩)).run P w:=by simp only[execOp,ho,resolve,hb,H,Deferred.ofValue,ax,aE,ak,invoke]
 rw[this,s6 hc]
 congr 2
 apply eK;simp
end Go.Sy
namespace Go.Sy
variable [aW]
variable {P : Program} {C : Ctx} {x : Sit} {s : St} {a : Act} {w : World} {o : Oper} {so : SOp} {p : Prop} {c : SV}
theorem Gh(E:aL C x s a w){q r:Arg}(z:bv P o=some (.ovl q r)){e:Eff}(h:eff s o.dst (.ovl q r)=some e)(y:e.pre):cm P C o a w (s.app o.dst e):=by simp only[eff,val]at h;cases h
end Go.Sy
namespace Go.Sy
variable [aW]
variable {P : Program} {C : Ctx} {x : Sit} {s : St} {a : Act} {w : World} {o : Oper} {so : SOp} {p : Prop} {c : SV}
theorem New.append{a_ bs:LAa}{A B:t6}(h:New x a_ A)(k:New x bs B):New x (a_++bs) (A++B):=by
 refine⟨by simp[h.len,k.len],fun i hi=> ?_,fun v hv=>(an.1 hv).elim (h.one v) (k.one v)⟩;simp only[aa]
 by_cases y:i<A.length
 ·rw[bi y,bi (by rw[<-h.len];exact y)]
  have:=h.rep i y;simpa only[aa]using this
 ·rw[bo (by omega),bo (by rw[<-h.len];omega),h.len]
  have:=k.rep (i-A.length) (by simp only[ac]at hi;omega);rw[h.len]at this;simpa only[aa]using this
theorem DQ{E:Nat}{rs:d8}(z:∀y∈rs,y.length=E){cs:LAa}(h:New x cs rs.flatten)(k:Nat)(F:k<rs.length*E):cx x (.arr E rs) k ((⟨cs⟩:LAb).getD k undef):=by
 simp only[cx,aB.cell];rw[<-cQ rs z k F];have:=h.rep k (by rw[bL z];exact F);have e:(⟨cs⟩:LAb).getD k undef=cs.getD k undef:=by simp[bl,aa]
 rw[e];exact this
structure Src(P:Program)(n m:Nat)(w:World)(Y:Value)(ns:List Value):Prop where
 len:∀w':World,w'.heap=w.heap->(Builtin.lenOf Y).run P w'= .ok m w'
 cells:∀w':World,w'.heap=w.heap->(Builtin.firstCells n m Y).run P w'= .ok ns.toArray w'
theorem qx(J:aL C x s a w){n:Nat}{u:SV}{Y:Value}{p:Prop}{R:d8}(h:Rep x u Y)(L:kx s n u=some (p,R))(I:p):∃ns,(∀y∈R,y.length=n)/\New x ns R.flatten/\Src P n R.length w Y ns:=by
 obtain⟨z,g1,ns,E,O⟩:=iE (P:=P) J h L I;refine⟨ns,z,E,g1,fun w' H=> ?_⟩;have:=O R.length (bc _) w' H;have F:ns.length=R.length*n:=by rw[<-E.len,bL z]
 rwa[<-F,ba]at this
theorem Dk{so:SOp}(y:bv P o=some so)(H:(∃z b q r,so= .app z b q r)\/∃z b q r,so= .appM z b q r):∃E,o.op= .call E/\E.callee= .builtin .append:=by
 cases ho:o.op with
 |call E=>
  cases hb:E.callee with
  |invoke r m=>simp[bv,ho,hb]at y
  |value F=>
   exfalso;simp only[bv,ho,hb]at y
   (repeat' split at y)<;>first|(cases y;done)|(cases y;rcases H with⟨_,_,_,_,h⟩|⟨_,_,_,_,h⟩<;>cases h)
  |builtin b=>
   cases b<;>first|exact⟨E,rfl,hb⟩|(exfalso;simp only[bv,ho,hb,reduceCtorEq]at y<;>((repeat' split at y)<;>first|(cases y;done)|(cases y;rcases H with⟨_,_,_,_,h⟩|⟨_,_,_,_,h⟩<;>cases h)))
 |_=>
  exfalso
  have:¬((∃z b q r,so= .app z b q r)\/∃z b q r,so= .appM z b q r):=by
   simp only[bv,ho]at y
   first
    |(cases y;done)
    |(obtain⟨_,_,rfl⟩:=ae.1 y;rintro(⟨_,_,_,_,h⟩|⟨_,_,_,_,h⟩)<;>cases h;done)
    |(repeat' split at y)<;>first|(cases y;done)|contradiction|(cases y;rintro(⟨_,_,_,_,h⟩|⟨_,_,_,_,h⟩)<;>cases h;done)|(obtain⟨_,_,rfl⟩:=ae.1 y;rintro(⟨_,_,_,_,h⟩|⟨_,_,_,_,h⟩)<;>first|(cases h;done)|(split at h<;>cases h;done))
  exact this H
structure xoj(P:Program)(o:Oper)(z:List SV)(by_:Nat)(q r:Arg)(a:Act)(X Y:Operand)(t u el:TypeId)(d2:TypeDesc)(zs:List Value):Prop where
 ex:execOp a.eval o=(do pure (.value (<-Builtin.append_ #[t,u] o.type #[a.eval X,a.eval Y])))
 hd:P.underlying t=some (.slice el)
 hu:P.underlying u=some d2
 hX:bt P t X=some q
 hY:bt P u Y=some r
 hn:fZ P el=some z.length
 hby:ud P el=some by_
 hz:gI P el=some zs
 hzl:z.length=zs.length
 hzd:∀(G:GM) i,i<z.length->cy G (z.getD i .undef) (zs.getD i undef)
 hb0:by_≠0
 hn0:z.length≠0
theorem SX{so:SOp}(y:bv P o=some so){z:t6}{E:Nat}{q r:Arg}(L:so= .app z E q r\/so= .appM z E q r)(a:Act):∃X Y t u O d2 zs,xoj P o z E q r a X Y t u O d2 zs/\
 (so= .app z E q r->(∃e',d2= .slice e')\/d2= .string)/\(so= .appM z E q r->∃k,d2= .int k):=by
 obtain⟨cl,ho,hb⟩:=Dk y (L.imp (fun h=>⟨_,_,_,_,h⟩) (fun h=>⟨_,_,_,_,h⟩));simp only[bv,ho,hb]at y;split at y<;>try (cases y;done)
 rename_i X Y t u hX ht;split at y<;>try (cases y;done)
 rename_i O d2 r' q' hd hu Q Z;split at y<;>try (cases y;done)
 rename_i n b' z' hn hby hz;rw[aH]at y;obtain⟨F,y⟩:=y;simp only[aw,decide_eq_true_eq]at F;obtain⟨⟨hb0,hn0⟩,J⟩:=F;obtain⟨zs,W,I,hzd⟩:=jU hz;have ea:cl.args= #[X,Y]:=by apply eK;simpa using hX
 have et:cl.argTypes= #[t,u]:=by apply eK;simpa using ht
 have H:=gx (a:=a) ho hb _ rfl;rw[ea,et]at H;have em: #[X,Y].map a.eval= #[a.eval X,a.eval Y]:=by simp
 rw[em]at H
 have T:z'=z/\b'=E/\r'=q/\q'=r/\(so= .app z E q r->(∃e',d2= .slice e')\/d2= .string)/\(so= .appM z E q r->∃k,d2= .int k):=by
  split at y<;>try (cases y;done)
  ·cases y;rcases L with h|h<;>cases h;exact⟨rfl,rfl,rfl,rfl,fun _=> .inl ⟨_,rfl⟩,fun h=>by cases h⟩
  ·rw[aH]at y
   obtain⟨_,y⟩:=y;cases y;rcases L with h|h<;>cases h;exact⟨rfl,rfl,rfl,rfl,fun _=> .inr rfl,fun h=>by cases h⟩
  ·cases y;rcases L with h|h<;>cases h;exact⟨rfl,rfl,rfl,rfl,fun h=>(by cases h),fun _=>⟨_,rfl⟩⟩
 obtain⟨rfl,rfl,rfl,rfl,k1,k2⟩:=T;subst J;exact⟨X,Y,t,u,O,d2,zs,⟨H,hd,hu,Q,Z,hn,hby,W,I,hzd,hb0,hn0⟩,k1,k2⟩
theorem sQ{t:TypeId}{b:Nat}(h:ud P t=some b):∃i,P.info? t=some i/\i.bytes=b:=by
 unfold ud at h;cases hi:P.info? t with
 |none=>simp[hi]at h
 |some i=>simp[hi]at h;exact⟨i,rfl,h⟩
end Go.Sy
namespace Go.Sy
variable [aW]
variable {P : Program} {C : Ctx} {x : Sit} {s : St} {a : Act} {w : World} {o : Oper} {so : SOp}
def xiT(C:Ctx)(P:Program)(g:Nat)(vs:LAa)(w:World)(d:t8)(a:Act)(k:St->Prop):Prop:=
 Calls P g ⟨vs⟩ w fun h w'=>∃v,h= .returned v/\Eu C k (a.put d v) w'
theorem vk{K:LAf}{Q:LAe}{k:St->Prop}{g:Nat}{vs:LAa}(y:(execOp a.eval o).run P w= .ok (.enter g ⟨vs⟩) w)(h:xiT C P g vs w o.dst a k)
 (E:∀a w,Eu C k a w->K a w):o.wp P a w K Q:=by
 unfold Oper.wp;rw[y];refine Calls.mono h ?_;rintro F w' ⟨v,rfl,z⟩;exact E _ _ z
theorem Gq{f:Arg}{a_:List Arg}(y:bv P o=some (.call f a_)):∃z F,o.op= .call z/\z.callee= .value F/\bt P 0 F=some f/\kf (fun p=>bt P p.2 p.1) (z.args.toList.zip z.argTypes.toList)=some a_/\z.args.size=z.argTypes.size:=by
 cases ho:o.op with
 |call z=>
  cases hb:z.callee with
  |invoke r m=>simp[bv,ho,hb]at y
  |value F=>
   simp only[bv,ho,hb]at y;split at y<;>try (cases y;done)
   rename_i O L H E;split at y<;>try (cases y;done)
   rename_i I;split at y
   ·split at y
    ·cases y
    ·cases y;exact⟨z,F,rfl,hb,H,E,I⟩
   ·cases y;exact⟨z,F,rfl,hb,H,E,I⟩
  |builtin b=>
   exfalso;cases b<;>simp only[bv,ho,hb,reduceCtorEq]at y
   all_goals
    (first|(cases y;done)|(split at y<;>(first|(cases y;done)|(split at y<;>(first|(cases y;done)|(split at y<;>(first|(cases y;done)|(split at y<;>(first|(cases y;done)|(split at y<;>(first|(cases y;done)|(split at y<;>((cases y;done))))))))))))))
 |pick c X Y=>exfalso;simp only[bv,ho]at y;split at y<;>cases y
 |move X=>exfalso;simp only[bv,ho]at y;obtain⟨_,_,h⟩:=ae.1 y;cases h
 |assign X=>exfalso;simp only[bv,ho]at y;obtain⟨_,_,h⟩:=ae.1 y;cases h
 |box t X=>exfalso;simp only[bv,ho]at y;obtain⟨_,_,h⟩:=ae.1 y;cases h
 |nilCheck X=>exfalso;simp only[bv,ho]at y;obtain⟨_,_,h⟩:=ae.1 y;cases h
 |unOp op t X=>exfalso;simp only[bv,ho]at y;obtain⟨_,_,h⟩:=ae.1 y;cases h
 |extract X i=>exfalso;simp only[bv,ho]at y;obtain⟨_,_,h⟩:=ae.1 y;cases h
 |build t J=>
  exfalso;simp only[bv,ho]at y;split at y<;>try (cases y;done)
  ·split at y<;>try (cases y;done)
   obtain⟨_,_,h⟩:=ae.1 y;cases h
  ·split at y<;>try (cases y;done)
   obtain⟨_,_,h⟩:=ae.1 y;cases h
 |buildSlice t n J=>
  exfalso;simp only[bv,ho]at y;split at y<;>try (cases y;done)
  split at y<;>try (cases y;done)
  split at y<;>try (cases y;done)
  obtain⟨_,_,h⟩:=ae.1 y;split at h<;>cases h
 |makeFunc f X Y=>exfalso;cases f<;>simp only[bv,ho,reduceCtorEq]at y;split at y<;>cases y
 |alloc t=>exfalso;simp only[bv,ho]at y;first|(cases y;done)|(split at y<;>(first|(cases y;done)|(split at y<;>(first|(cases y;done)|(split at y<;>(first|(cases y;done)|(split at y<;>(first|(cases y;done)|(split at y<;>(first|(cases y;done)|(split at y<;>((cases y;done)))))))))))))
 |load t X=>exfalso;simp only[bv,ho]at y;first|(cases y;done)|(split at y<;>(first|(cases y;done)|(split at y<;>(first|(cases y;done)|(split at y<;>(first|(cases y;done)|(split at y<;>(first|(cases y;done)|(split at y<;>(first|(cases y;done)|(split at y<;>((cases y;done)))))))))))))
 |store t X Y=>exfalso;simp only[bv,ho]at y;first|(cases y;done)|(split at y<;>(first|(cases y;done)|(split at y<;>(first|(cases y;done)|(split at y<;>(first|(cases y;done)|(split at y<;>(first|(cases y;done)|(split at y<;>(first|(cases y;done)|(split at y<;>((cases y;done)))))))))))))
 |binOp op t X Y u=>exfalso;simp only[bv,ho]at y;first|(cases y;done)|(split at y<;>(first|(cases y;done)|(split at y<;>(first|(cases y;done)|(split at y<;>(first|(cases y;done)|(split at y<;>(first|(cases y;done)|(split at y<;>(first|(cases y;done)|(split at y<;>((cases y;done)))))))))))))
 |convert t u X=>exfalso;simp only[bv,ho]at y;first|(cases y;done)|(split at y<;>(first|(cases y;done)|(split at y<;>(first|(cases y;done)|(split at y<;>(first|(cases y;done)|(split at y<;>(first|(cases y;done)|(split at y<;>(first|(cases y;done)|(split at y<;>((cases y;done)))))))))))))
 |makeSlice t X Y=>exfalso;simp only[bv,ho]at y;first|(cases y;done)|(split at y<;>(first|(cases y;done)|(split at y<;>(first|(cases y;done)|(split at y<;>(first|(cases y;done)|(split at y<;>(first|(cases y;done)|(split at y<;>(first|(cases y;done)|(split at y<;>((cases y;done)))))))))))))
 |slice t X lo hi Q=>exfalso;simp only[bv,ho]at y;first|(cases y;done)|(split at y<;>(first|(cases y;done)|(split at y<;>(first|(cases y;done)|(split at y<;>(first|(cases y;done)|(split at y<;>(first|(cases y;done)|(split at y<;>(first|(cases y;done)|(split at y<;>((cases y;done)))))))))))))
 |fieldAddr t X i=>exfalso;simp only[bv,ho]at y;first|(cases y;done)|(split at y<;>(first|(cases y;done)|(split at y<;>(first|(cases y;done)|(split at y<;>(first|(cases y;done)|(split at y<;>(first|(cases y;done)|(split at y<;>(first|(cases y;done)|(split at y<;>((cases y;done)))))))))))))
 |field t X i=>exfalso;simp only[bv,ho]at y;first|(cases y;done)|(split at y<;>(first|(cases y;done)|(split at y<;>(first|(cases y;done)|(split at y<;>(first|(cases y;done)|(split at y<;>(first|(cases y;done)|(split at y<;>(first|(cases y;done)|(split at y<;>((cases y;done)))))))))))))
 |indexAddr t X i=>exfalso;simp only[bv,ho]at y;first|(cases y;done)|(split at y<;>(first|(cases y;done)|(split at y<;>(first|(cases y;done)|(split at y<;>(first|(cases y;done)|(split at y<;>(first|(cases y;done)|(split at y<;>(first|(cases y;done)|(split at y<;>((cases y;done)))))))))))))
 |index t X i=>exfalso;simp only[bv,ho]at y;first|(cases y;done)|(split at y<;>(first|(cases y;done)|(split at y<;>(first|(cases y;done)|(split at y<;>(first|(cases y;done)|(split at y<;>(first|(cases y;done)|(split at y<;>(first|(cases y;done)|(split at y<;>((cases y;done)))))))))))))
 |_=>simp[bv,ho]at y
theorem FE{c q r:Arg}(y:bv P o=some (.pick c q r)):∃X Y Z,o.op= .pick X Y Z/\bt P 0 X=some c/\bt P o.type Y=some q/\bt P o.type Z=some r:=by
 cases ho:o.op with
 |pick X Y Z=>
  simp only[bv,ho]at y;split at y<;>try (cases y;done)
  rename_i O a2 a3 I H J;simp only[ao.injEq,SOp.pick.injEq]at y;obtain⟨rfl,rfl,rfl⟩:=y;exact⟨X,Y,Z,rfl,I,H,J⟩
 |call E=>
  exfalso;cases hb:E.callee with
  |invoke r m=>simp[bv,ho,hb]at y
  |value F=>simp only[bv,ho,hb]at y;first|(cases y;done)|(split at y<;>(first|(cases y;done)|(split at y<;>(first|(cases y;done)|(split at y<;>(first|(cases y;done)|(split at y<;>(first|(cases y;done)|(split at y<;>(first|(cases y;done)|(split at y<;>((cases y;done)))))))))))))
  |builtin b=>
   cases b<;>simp only[bv,ho,hb,reduceCtorEq]at y
   all_goals
    (first|(cases y;done)|(split at y<;>(first|(cases y;done)|(split at y<;>(first|(cases y;done)|(split at y<;>(first|(cases y;done)|(split at y<;>(first|(cases y;done)|(split at y<;>(first|(cases y;done)|(split at y<;>((cases y;done))))))))))))))
 |move X=>exfalso;simp only[bv,ho]at y;obtain⟨_,_,h⟩:=ae.1 y;cases h
 |assign X=>exfalso;simp only[bv,ho]at y;obtain⟨_,_,h⟩:=ae.1 y;cases h
 |box t X=>exfalso;simp only[bv,ho]at y;obtain⟨_,_,h⟩:=ae.1 y;cases h
 |nilCheck X=>exfalso;simp only[bv,ho]at y;obtain⟨_,_,h⟩:=ae.1 y;cases h
 |unOp op t X=>exfalso;simp only[bv,ho]at y;obtain⟨_,_,h⟩:=ae.1 y;cases h
 |extract X i=>exfalso;simp only[bv,ho]at y;obtain⟨_,_,h⟩:=ae.1 y;cases h
 |build t z=>
  exfalso;simp only[bv,ho]at y;split at y<;>try (cases y;done)
  ·split at y<;>try (cases y;done)
   obtain⟨_,_,h⟩:=ae.1 y;cases h
  ·split at y<;>try (cases y;done)
   obtain⟨_,_,h⟩:=ae.1 y;cases h
 |buildSlice t n z=>
  exfalso;simp only[bv,ho]at y;split at y<;>try (cases y;done)
  split at y<;>try (cases y;done)
  split at y<;>try (cases y;done)
  obtain⟨_,_,h⟩:=ae.1 y;split at h<;>cases h
 |makeFunc f X Y=>exfalso;cases f<;>simp only[bv,ho,reduceCtorEq]at y;split at y<;>cases y
 |alloc t=>exfalso;simp only[bv,ho]at y;first|(cases y;done)|(split at y<;>(first|(cases y;done)|(split at y<;>(first|(cases y;done)|(split at y<;>(first|(cases y;done)|(split at y<;>(first|(cases y;done)|(split at y<;>(first|(cases y;done)|(split at y<;>((cases y;done)))))))))))))
 |load t X=>exfalso;simp only[bv,ho]at y;first|(cases y;done)|(split at y<;>(first|(cases y;done)|(split at y<;>(first|(cases y;done)|(split at y<;>(first|(cases y;done)|(split at y<;>(first|(cases y;done)|(split at y<;>(first|(cases y;done)|(split at y<;>((cases y;done)))))))))))))
 |store t X Y=>exfalso;simp only[bv,ho]at y;first|(cases y;done)|(split at y<;>(first|(cases y;done)|(split at y<;>(first|(cases y;done)|(split at y<;>(first|(cases y;done)|(split at y<;>(first|(cases y;done)|(split at y<;>(first|(cases y;done)|(split at y<;>((cases y;done)))))))))))))
 |binOp op t X Y u=>exfalso;simp only[bv,ho]at y;first|(cases y;done)|(split at y<;>(first|(cases y;done)|(split at y<;>(first|(cases y;done)|(split at y<;>(first|(cases y;done)|(split at y<;>(first|(cases y;done)|(split at y<;>(first|(cases y;done)|(split at y<;>((cases y;done)))))))))))))
 |convert t u X=>exfalso;simp only[bv,ho]at y;first|(cases y;done)|(split at y<;>(first|(cases y;done)|(split at y<;>(first|(cases y;done)|(split at y<;>(first|(cases y;done)|(split at y<;>(first|(cases y;done)|(split at y<;>(first|(cases y;done)|(split at y<;>((cases y;done)))))))))))))
 |makeSlice t X Y=>exfalso;simp only[bv,ho]at y;first|(cases y;done)|(split at y<;>(first|(cases y;done)|(split at y<;>(first|(cases y;done)|(split at y<;>(first|(cases y;done)|(split at y<;>(first|(cases y;done)|(split at y<;>(first|(cases y;done)|(split at y<;>((cases y;done)))))))))))))
 |slice t X lo hi L=>exfalso;simp only[bv,ho]at y;first|(cases y;done)|(split at y<;>(first|(cases y;done)|(split at y<;>(first|(cases y;done)|(split at y<;>(first|(cases y;done)|(split at y<;>(first|(cases y;done)|(split at y<;>(first|(cases y;done)|(split at y<;>((cases y;done)))))))))))))
 |fieldAddr t X i=>exfalso;simp only[bv,ho]at y;first|(cases y;done)|(split at y<;>(first|(cases y;done)|(split at y<;>(first|(cases y;done)|(split at y<;>(first|(cases y;done)|(split at y<;>(first|(cases y;done)|(split at y<;>(first|(cases y;done)|(split at y<;>((cases y;done)))))))))))))
 |field t X i=>exfalso;simp only[bv,ho]at y;first|(cases y;done)|(split at y<;>(first|(cases y;done)|(split at y<;>(first|(cases y;done)|(split at y<;>(first|(cases y;done)|(split at y<;>(first|(cases y;done)|(split at y<;>(first|(cases y;done)|(split at y<;>((cases y;done)))))))))))))
 |indexAddr t X i=>exfalso;simp only[bv,ho]at y;first|(cases y;done)|(split at y<;>(first|(cases y;done)|(split at y<;>(first|(cases y;done)|(split at y<;>(first|(cases y;done)|(split at y<;>(first|(cases y;done)|(split at y<;>(first|(cases y;done)|(split at y<;>((cases y;done)))))))))))))
 |index t X i=>exfalso;simp only[bv,ho]at y;first|(cases y;done)|(split at y<;>(first|(cases y;done)|(split at y<;>(first|(cases y;done)|(split at y<;>(first|(cases y;done)|(split at y<;>(first|(cases y;done)|(split at y<;>(first|(cases y;done)|(split at y<;>((cases y;done)))))))))))))
 |_=>simp[bv,ho]at y
theorem DK(h:aL C x s a w){c q r:Arg}(z:bv P o=some (.pick c q r)){t:Bool}(I:s.ev c= .bool t):cm P C o a w (s.put o.dst (if t then s.ev q else s.ev r)):=by
 obtain⟨X,Y,Z,E,H,F,J⟩:=FE z;have y:=aK h H;rw[I]at y;refine cm.val h (m:=do pure (if<-asBool (a.eval X)then a.eval Y else a.eval Z)) (u:=if t then a.eval Y else a.eval Z) (by simp only[execOp,E];simp) ?_ ?_
 ·rw[y.bool_inv];rfl
 ·cases t
  ·exact aK h J
  ·exact aK h F
theorem Sp(E:aL C x s a w)(z:bv P o=some so){e:Eff}(F:eff s o.dst so=some e)(y:e.pre):cm P C o a w (s.app o.dst e):=by
 by_cases H:∃q r,so= .ovl q r
 ·obtain⟨q,r,rfl⟩:=H
  exact Gh E z F y
 ·exact DH E z (fun q r h=>H ⟨q,r,h⟩) F y
end Go.Sy
namespace Go.Sy
variable [aW]
variable {P : Program} {C : Ctx} {x : Sit} {s : St} {a : Act} {w : World}
theorem F2(F:aL C x s a w){g:Nat}{t:Bool}(h:s.get g= .bool t):g<s.tm.length/\a.tmps[g]? =some (.bool t)/\s.tm[g]? =some (.bool t):=by
 have y:g<s.tm.length:=by
  rcases bP g s.tm.length with z|z
  ·exact z
  ·unfold St.get at h;rw[aa,eH z]at h;cases h
 have I:s.tm[g]? =some (.bool t):=by unfold St.get at h;rw[aa,ab y]at h;rw[ab y];exact congrArg some h
 have E:=F.slot g;rw[h]at E;have hv:=E.bool_inv;have H:g<a.tmps.size:=by rw[<-aP,<-F.tm.1];exact y
 refine⟨y, ?_,I⟩;rw[iu H];have:a.tmps.getD g undef=a.tmps[g]:=by simp[kK,H]
 rw[<-this,hv]
def rO(P:Program)(o:Oper)(so:SOp):Prop:=bv P o=some so\/∃h,so= .newB h/\bv P o=some (.litB h)
theorem rO.fresh{ops:Array Oper}{o:Oper}{so:SOp}(d:t8)(h:bv P o=some so):rO P o (oV ops d so):=by
 rcases Dy ops d so with e|⟨xs,e1,e2⟩
 ·rw[e];exact .inl h
 ·rw[e2];exact .inr ⟨xs,rfl,e1 ▸ h⟩
theorem rO.old{o:Oper}{so:SOp}(h:rO P o so)(hn:∀y,so≠ .newB y):bv P o=some so:=by
 rcases h with h|⟨y,e,_⟩
 ·exact h
 ·exact absurd e (hn y)
theorem lu{ops:Array Oper}{o:Oper}{i:SI}(h:gM P ops o=some i):rO P o i.op/\i.dst=o.dst/\(i.g=none/\o.guard=none\/∃j b g,i.g=some (g,b)/\o.guard=some (j,b)/\(ops[j]?).bind (·.dst)=some g):=by
 unfold gM at h;split at h<;>try (cases h;done)
 ·rename_i so z y;cases h;exact⟨.fresh _ z,rfl,.inl ⟨rfl,y⟩⟩
 ·rename_i so j b z y
  split at h<;>try (cases h;done)
  rename_i g E;cases h;exact⟨.fresh _ z,rfl,.inr ⟨j,b,g,rfl,y,E⟩⟩
theorem kL{ops:Array Oper}{o:Oper}(h:o.guard=none):Region.wanted o (yielded ops a.tmps)=true:=by simp[Region.wanted,h]
theorem vm{ops:Array Oper}{o:Oper}{j g:Nat}{b t:Bool}(h:o.guard=some (j,b))(y:(ops[j]?).bind (·.dst)=some g)(z:a.tmps[g]? =some (.bool t)):Region.wanted o (yielded ops a.tmps)=(t==b):=by simp only[Region.wanted,h,yielded,y,di,z];cases t<;>cases b<;>rfl
end Go.Sy
namespace Go.Sy
variable [aW]
variable {P : Program} {C : Ctx} {x : Sit} {s : St} {a : Act} {w : World}
mutual
theorem xF{n:Nat}:∀v:SV,n∉v.ids->n∉v.toks->v.purge n (n+1)=v
 | .byt l t,_,h=>by
  cases t with
  |id t=>simp only[SV.toks,bX]at h;simp only[SV.purge,Tok.purge];rw[if_neg (by omega)]
  |_=>rfl
 | .lst sz xs t,_,h=>by
  cases t with
  |id t=>simp only[SV.toks,bX]at h;simp only[SV.purge,Tok.purge];rw[if_neg (by omega)]
  |_=>rfl
 | .ptr o off,h,_=>by simp only[SV.ids,bX]at h;simp only[SV.purge];rw[if_neg (by omega)]
 | .ap o sz i j,h,_=>by simp only[SV.ids,bX]at h;simp only[SV.purge];rw[if_neg (by omega)]
 | .psl o sz off k cap,h,_=>by simp only[SV.ids,bX]at h;simp only[SV.purge];rw[if_neg (by omega)]
 | .agg cs,h,k=>by simp only[SV.ids,SV.toks]at h k;simp only[SV.purge];rw[gX cs h k]
 | .tup cs,h,k=>by simp only[SV.ids,SV.toks]at h k;simp only[SV.purge];rw[gX cs h k]
 | .fn f p q,h,k=>by simp only[SV.ids,SV.toks,an,not_or]at h k;simp only[SV.purge];rw[gX p h.1 k.1,gX q h.2 k.2]
 | .undef,_,_=>rfl
 | .bool _,_,_=>rfl
 | .int _ _,_,_=>rfl
 | .u8 _,_,_=>rfl
 | .str _,_,_=>rfl
 | .nilp,_,_=>rfl
 | .nili,_,_=>rfl
 | .ife,_,_=>rfl
 | .pp _,_,_=>rfl
theorem gX{n:Nat}:∀l:t6,n∉SV.idsL l->n∉SV.toksL l->SV.purgeL n (n+1) l=l
 |[],_,_=>rfl
 |v::r,h,k=>by simp only[SV.idsL,SV.toksL,an,not_or]at h k;simp only[SV.purgeL];rw[xF v h.1 k.1,gX r h.2 k.2]
end
end Go.Sy
namespace Go.Sy
variable [aW]
variable {P : Program} {C : Ctx} {x : Sit} {s s' : St} {a : Act} {w : World}
end Go.Sy
namespace Go.Sy
variable [aW]
variable {P : Program} {C : Ctx} {x : Sit} {s s' : St} {a : Act} {w : World}
structure Itm where
 n:Nat
 i:SI
 o:Option Eff
 f:xeP
end Go.Sy
namespace Go.Sy
variable [aW]
variable {P : Program} {C : Ctx} {x : Sit} {s : St} {a : Act} {w : World}
theorem aL.purge(H:aL C x s a w)(lo hi:Nat):aL C x (s.purge lo hi) a w:=by
 have y:=H.heap;refine⟨H.tm.mono (fun _ _ _ h=>h) (fun _ _=>rfl) (fun _ _=>rfl),H.defers,⟨y.per,y.g0,y.gm,y.new, ?_, ?_, ?_, ?_, ?_, ?_,y.os,y.tape,y.output,y.size,y.ext,y.pin,y.lay⟩⟩
 ·intro p z
  obtain⟨Q,o,E,I⟩:=cG z;obtain⟨T,J⟩:=y.obs _ E;refine⟨?_,J⟩;rw[I];exact T.of_heap rfl (fun _ _ _ h=>h) (fun _ _=>rfl) (fun _ _=>rfl) Q
 ·show((bq lo hi s.ob).map cI).Nodup
  rw[fy];exact y.nd.filter _
 ·intro p z q L
  obtain⟨_,o,E,_⟩:=cG z;obtain⟨_,O,I,_⟩:=cG L;exact y.inj (p.1,o) E (q.1,O) I
 ·intro t F;exact y.tks t (bF.1 F).1
 ·intro t F p z
  obtain⟨_,o,E,_⟩:=cG z;exact y.tko t (bF.1 F).1 (p.1,o) E
 ·intro t F u hu;exact y.tkd t (bF.1 F).1 u (bF.1 hu).1
theorem pM{ob:List (Nat×aB)}(h:(ob.map cI).Nodup){p:Nat×aB}(y:p∈ob):ob.lookup p.1=some p.2:=by
 induction ob with
 |nil=>cases y
 |cons q r z=>
  simp only[aG,eZ]at h;rcases al.1 y with rfl|y
  ·simp[List.lookup]
  ·have:(p.1==q.1)=false:=by
    rw[beq_eq_false_iff_ne];intro e;apply h.1;rw[<-e];exact iU y
   simp only[List.lookup,this];exact z h.2 y
section
variable {ops : Array Oper} {l : List SI} {its : List Itm} {b : List Nat}
def left(its:List Itm)(listed:Array Bool):List Itm:=its.filter fun h=> !listed.getD h.n true
theorem rt{listed:Array Bool}{i:Nat}(hi:i<listed.size):(listed.setIfInBounds i true).getD i true=true:=by simp[kK,hi]
theorem ik{listed:Array Bool}{i j:Nat}(hi:i<listed.size):(listed.setIfInBounds i true).getD j true=if j=i then true else listed.getD j true:=by
 by_cases h:j=i
 ·subst h;rw[if_pos rfl];exact rt hi
 ·rw[if_neg h,getD_set_ne true (fun e=>h e.symm)]
end
end Go.Sy
namespace Go.Sy
variable [aW]
variable {P : Program} {C : Ctx} {x : Sit} {s : St} {a : Act} {w : World}
theorem YN(p:Nat->Prop)(h:∃n,p n):∃n,p n/\∀m,p m->n<=m:=by
 obtain⟨n,hn⟩:=h;induction n using Nat.strongRecOn with
 |_ n F=>
  by_cases z:∃m,m<n/\p m
  ·obtain⟨m,H,y⟩:=z;exact F m H y
  ·exact⟨n,hn,fun m y=>Nat.le_of_not_lt fun E=>z ⟨m,E,y⟩⟩
def xy(P:Program)(s:St):List ResultVar->Option (Prop×t6)
 |[]=>some (True,[])
 | .tmp t::r=>match xy P s r with
  |some (p,vs)=>some (p,s.get t::vs)
  |none=>none
 | .cell t ty::r=>match fZ P ty,rq P ty,xy P s r with
  |some n,some ag,some (p,vs)=>match (if ag||n==1 then jn s n ag (s.get t)else none)with
   |some (q,v)=>some (q/\p,v::vs)
   |none=>none
  |_,_,_=>none
def ka:t6->SV
 |[v]=>v
 |vs=> .tup vs
theorem rp(L:aL C x s a w){t:TypeId}{n:Nat}{z:Bool}{u c:SV}{v:Value}{p:Prop}(hn:fZ P t=some n)(E:rq P t=some z)(hu:Rep x u v)(h:(if z||n==1 then jn s n z u else none)=some (p,c))(H:p):
 ∃F r,v= .pointer (some F)/\(loadVar t F).run P w= .ok r w/\Rep x c r:=by
 split at h<;>try (cases h;done)
 rename_i I;obtain⟨b,off,cs,rfl,rfl,O⟩:=mv L hu h H;obtain⟨r,J,y⟩:=pL (P:=P) O hn E I;exact⟨_,r,rfl,J,y⟩
def Tj(tmps:LAb):ResultVar->Sem Value
 | .tmp t=>pure (tmps.getD t undef)
 | .cell a t=>do loadVar t (<-asAddr (tmps.getD a undef))
theorem xx(fn:Func)(tmps:LAb):results fn tmps=(do let vs<-fn.results.mapM (Tj tmps);pure (if h:vs.size=1 then vs[0]else .tuple vs)):=by
 unfold results
 congr 1
theorem ri(O:aL C x s a w):∀{rs:List ResultVar}{p:Prop}{vs:t6},xy P s rs=some (p,vs)->p->
 ∃us,(rs.mapM (Tj a.tmps)).run P w= .ok us w/\cn x vs us:=by
 intro rs;induction rs with
 |nil=>intro p vs h _;simp only[xy,ao.injEq,bm.injEq]at h;obtain⟨_,rfl⟩:=h;exact⟨[],rfl,rfl,fun i hi=>by simp at hi⟩
 |cons r rs T=>
  intro p vs h F
  have cons:∀{c:SV}{u:Value}{cs:t6}{us:LAa},Rep x c u->cn x cs us->cn x (c::cs) (u::us):=by
   intro c u cs us Z W
   exact⟨by simp[W.1],fun i hi=>by
    cases i with
    |zero=>exact Z
    |succ i=>simpa using W.2 i (by simpa using hi)⟩
  cases r with
  |tmp t=>
   simp only[xy]at h;split at h<;>try (cases h;done)
   rename_i q I L;simp only[ao.injEq,bm.injEq]at h;obtain⟨rfl,rfl⟩:=h;obtain⟨us,y,Q⟩:=T L F;refine⟨_, ?_,cons (O.slot t) Q⟩;simp only[List.mapM_cons,Tj,ax,aE,ak,y]
  |cell t ty=>
   simp only[xy]at h;split at h<;>try (cases h;done)
   rename_i n ag q I hn J L;split at h<;>try (cases h;done)
   rename_i q' v' hv;simp only[ao.injEq,bm.injEq]at h;obtain⟨rfl,rfl⟩:=h;obtain⟨us,y,Q⟩:=T L F.2;obtain⟨ad,r,E,H,z⟩:=rp O hn J (O.slot t) hv F.1;refine⟨_, ?_,cons z Q⟩;have hA:(asAddr (a.tmps.getD t undef)).run P w= .ok ad w:=by rw[E];rfl
   simp only[List.mapM_cons,Tj,ax,hA,aE,ak,H,y]
end Go.Sy
namespace Go.Sy
variable [aW]
variable {P : Program}
end Go.Sy
