/- A sound engine for Go code. No condition. -/
import Derived.WalkKit
import Derived.ChangeKeysEq
import Derived.Laws.StructEq
import Derived.Laws.Externs
import Derived.Orders
open Array renaming ext' -> dI, getD -> jP, getD_eq_getD_getElem? -> bg, getElem?_eq_getElem -> gF, getElem?_toList -> cY, length_toList -> aO, replicate -> dO
open Bool renaming and_eq_true -> aB, eq_iff_iff -> eL, false_eq_true -> aI, not_eq_true' -> du
open Go.Instr renaming buildSlice -> dB
open Go.IntKind renaming i64 -> ai, u8 -> fx
open List renaming Nodup -> vm, Pairwise -> gg, Sublist -> jK, all_eq_true -> aT, append_assoc -> ax, append_nil -> bf, drop_drop -> fq, drop_eq_nil_of_le -> br, drop_zero -> bh, filter_cons -> kI, flatMap_cons -> jw, flatten_append -> bX, flatten_cons -> cN, foldl_cons -> cz, getD_cons_succ -> bQ, getD_cons_zero -> bF, getD_eq_getElem?_getD -> aa, getElem?_append_left -> bc, getElem?_append_right -> bw, getElem?_drop -> bx, getElem?_eq_getElem -> ab, getElem?_eq_none -> jY, getElem?_map -> aR, getElem?_range -> cL, getElem?_set -> eS, getElem?_take -> bE, getElem?_toArray -> wW, getElem_mem -> bn, getElem_of_mem -> bM, length_append -> af, length_cons -> ay, length_drop -> aL, length_eq_zero_iff -> cx, length_map -> aS, length_nil -> bl, length_pos_iff -> mb, length_replicate -> bO, length_set -> dh, length_singleton -> aP, length_take -> aA, map_append -> df, map_cons -> aG, map_nil -> eU, mem_append -> ak, mem_cons -> am, mem_cons_of_mem -> an, mem_cons_self -> aw, mem_map -> aQ, mem_map_of_mem -> hC, mem_of_mem_drop -> Dw, mem_of_mem_take -> cm, mem_range -> jx, mem_singleton -> aW, nil_append -> aK, nodup_cons -> dV, pairwise_iff_getElem -> nR, pairwise_map -> gn, range -> bU, replicate -> ao, take_append_drop -> fY, take_length -> bB, take_of_length_le -> bT
open Nat renaming add_assoc -> eB, add_mul -> bA, add_zero -> dU, eq_zero_or_pos -> fZ, le_refl -> aN, le_trans -> pK, lt_or_ge -> bL, min_eq_left -> gI, mod_eq_of_lt -> dm, mul_comm -> cD, mul_le_mul_right -> bz, mul_one -> iu, succ_mul -> dD, zero_add -> cf, zero_le -> bD, zero_mul -> iF
open Go.Op renaming bytesLess -> bH, intCmp -> pJ
open Option renaming bind_some -> cP, getD_some -> bj, ite_none_right_eq_some -> aH, map_eq_some_iff -> ah, map_some -> bo, some -> aq
open Prod renaming fst -> cI, mk -> bi
open Go.Result renaming andThen_ok -> aj
open Go.Sem renaming run_bind -> az, run_pure -> aF
open UInt8 renaming lt_iff_toNat_lt -> rJ, ofInt -> dj, ofNat -> ed
set_option linter.unusedVariables false
set_option linter.unusedSimpArgs false
set_option linter.unnecessarySimpa false
set_option linter.unusedSectionVars false
namespace Go.Sy
abbrev t6:=List UInt8
abbrev t8:=List Nat
abbrev t9:=Option Nat
abbrev LAa:=List Value
abbrev LAb:=Array Value
abbrev LAe:=Exit->Act->World->Prop
abbrev LAf:=Act->World->Prop
inductive Tok where
 |no
 |clip
 |id (t:Nat)
 deriving DecidableEq
inductive SV where
 |undef
 |bool (b:Bool)
 |int (k:IntKind) (n:Int)
 |u8 (b:UInt8)
 |str (l:List UInt8)
 |byt (l:List UInt8) (t:Tok)
 |lst (sz:Nat) (xs:List (List SV)) (t:Tok)
 |nilp
 |nili
 |pp (cs:List SV)
 |ptr (o off:Nat)
 |ap (o sz i j:Nat)
 |psl (o sz off n:Nat) (cap:Option Nat)
 |agg (cs:List SV)
 |tup (vs:List SV)
 |fn (f:Nat) (first cap:List SV)
 deriving Inhabited
abbrev t7:=List SV
abbrev f8:=List (List SV)
inductive aC where
 |rc (cs:List SV)
 |arr (sz:Nat) (xs:List (List SV))
 |bar (l:List UInt8)
def aC.size:aC->Nat
 | .rc cs=>cs.length
 | .arr h y=>y.length*h
 | .bar l=>l.length
def aC.cell:aC->Nat->SV
 | .rc cs,k=>cs.getD k .undef
 | .arr sz xs,k=>(xs.getD (k/sz) []).getD (k % sz) .undef
 | .bar l,k=> .u8 (l.getD k 0)
def aC.arrB:aC->Bool
 | .arr _ _=>true
 |_=>false
abbrev GM:=Nat->Nat->Option Value
structure Sit where
 G:GM
 bk:Nat->Nat×Nat
 τ:Nat->Nat×Nat×Nat
inductive cE(G:GM):SV->Value->Prop
 |bool (b:Bool):cE G (.bool b) (.bool b)
 |int (k:IntKind) (n:Int):cE G (.int k n) (.int k n)
 |u8 (b:UInt8):cE G (.u8 b) (.int .u8 b.toNat)
 |str (l:List UInt8):cE G (.str l) (.string ⟨⟨l⟩⟩)
 |nilp:cE G .nilp (.pointer none)
 |nili:cE G .nili .nilIface
 |bytN (t:Tok):cE G (.byt [] t) (.slice none 0 0)
 |bytE (t:Tok) (a:Addr):cE G (.byt [] t) (.slice (some a) 0 0)
 |byt (l:List UInt8) (t:Tok) (b off cap n:Nat) (hn:n=l.length) (hc:n<=cap)
  (h:∀i,i<n->G b (off+i)=some (.int .u8 (l.getD i 0).toNat)):cE G (.byt l t) (.slice (some ⟨b,off,none⟩) n cap)
 |lstN (sz:Nat) (t:Tok):cE G (.lst sz [] t) (.slice none 0 0)
 |lstE (sz:Nat) (t:Tok) (a:Addr):cE G (.lst sz [] t) (.slice (some a) 0 0)
 |lst (sz:Nat) (xs:List (List SV)) (t:Tok) (b off cap n:Nat) (val:Nat->Nat->Value) (hn:n=xs.length) (hc:n<=cap)
  (hl:∀i,i<n->(xs.getD i []).length=sz)
  (hg:∀i j,i<n->j<sz->G b (off+i*sz+j)=some (val i j))
  (h:∀i j,i<n->j<sz->cE G ((xs.getD i []).getD j .undef) (val i j)):cE G (.lst sz xs t) (.slice (some ⟨b,off,none⟩) n cap)
 |pp (cs:List SV) (b off:Nat) (val:Nat->Value) (hg:∀j,j<cs.length->G b (off+j)=some (val j))
  (h:∀j,j<cs.length->cE G (cs.getD j .undef) (val j)):cE G (.pp cs) (.pointer (some ⟨b,off,none⟩))
class ba where
 cells:Nat->Option (List SV)
variable [ba]
def Lay(G:GM):Prop:=∀g cs,ba.cells g=some cs->∀j,j<cs.length->∃v,G g j=some v/\cE G (cs.getD j .undef) v
def de(x:Sit)(h:Nat)(t:Tok)(v:Value):Prop:=
 match t with
 | .no=>True
 | .clip=>∃a n,v= .slice a n n
 | .id t=>∃a n cap,v= .slice a n cap/\(cap=n\/∃b off,a=some ⟨b,off,none⟩/\x.τ t=(b,off+n*h,off+cap*h))
def Nk(x:Sit):SV->Value->Prop
 | .byt _ t,v=>de x 1 t v
 | .lst sz _ t,v=>de x sz t v
 |_,_=>True
inductive Rep(x:Sit):SV->Value->Prop
 |undef (v:Value):Rep x .undef v
 |dat (s:SV) (v:Value) (h:cE x.G s v) (ht:Nk x s v):Rep x s v
 |ptr (o off:Nat):Rep x (.ptr o off) (.pointer (some ⟨(x.bk o).1,off,none⟩))
 |ap (o sz i j:Nat):Rep x (.ap o sz i j) (.pointer (some ⟨(x.bk o).1,i*sz+j,none⟩))
 |psl (o sz off n:Nat) (cap:Option Nat) (off' cap':Nat) (h:cap'=0\/off'=off*sz) (hn:n<=cap') (hc:∀c,cap=some c->c=cap') (hk:cap=none->cap'=0\/off'+cap'*sz<=(x.bk o).2):Rep x (.psl o sz off n cap) (.slice (some ⟨(x.bk o).1,off',none⟩) n cap')
 |agg (cs:List SV) (vs:List Value) (hl:cs.length=vs.length) (h:∀i,i<cs.length->Rep x (cs.getD i .undef) (vs.getD i undef)):Rep x (.agg cs) (.agg ⟨vs⟩)
 |tup (cs:List SV) (vs:List Value) (hl:cs.length=vs.length) (h:∀i,i<cs.length->Rep x (cs.getD i .undef) (vs.getD i undef)):Rep x (.tup cs) (.tuple ⟨vs⟩)
 |fn (f:Nat) (c1 c2:List SV) (v1 v2:List Value) (hl1:c1.length=v1.length) (h1:∀i,i<c1.length->Rep x (c1.getD i .undef) (v1.getD i undef))
  (hl2:c2.length=v2.length) (h2:∀i,i<c2.length->Rep x (c2.getD i .undef) (v2.getD i undef)):Rep x (.fn f c1 c2) (.func (.func f) ⟨v1⟩ ⟨v2⟩)
def cy(x:Sit)(cs:t7)(vs:LAa):Prop:=cs.length=vs.length/\∀i,i<cs.length->Rep x (cs.getD i .undef) (vs.getD i undef)
structure St where
 tm:List SV
 ob:List (Nat×aC)
 tk:List Nat
structure Ctx where
 w0:World
 G0:GM
 mine:Nat->Prop
 β0:Nat->Nat×Nat
def eQ(w:World)(b:Nat)(c:LAb)(e:TypeId)(fl fh:Nat):Prop:=
 w.heap[b]? =some (.cells c e (fl,fh))/\∀i,i<c.size->¬(fl<=i/\i<fh)
def cj(x:Sit)(obj:aC)(k:Nat)(v:Value):Prop:=
 match obj with
 | .rc cs=>Rep x (cs.getD k .undef) v
 |obj=>cE x.G (obj.cell k) v
def dx(x:Sit)(w:World)(o:Nat)(obj:aC):Prop:=
 ∃c e fl fh,eQ w ((x.bk o).1) c e fl fh/\(obj.size<=c.size/\(x.bk o).2<=c.size/\(obj.arrB=true->¬(fl<=c.size/\c.size<fh)))/\∀k,k<obj.size->cj x obj k (c.getD k undef)
def gH(x:Sit)(w:World)(mine:Nat->Prop)(t:Nat):Prop:=
 (x.τ t).2.1=(x.τ t).2.2\/
 ((∃c e fl fh,eQ w (x.τ t).1 c e fl fh/\(x.τ t).2.2<=c.size)/\mine (x.τ t).1/\∀o,(x.τ t).2.1<=o->o<(x.τ t).2.2->x.G (x.τ t).1 o=none)
def kZ(p q:Nat×Nat×Nat):Prop:=p.1≠q.1
structure cW(C:Ctx)(x:Sit)(ob:List (Nat×aC))(tk:List Nat)(w:World):Prop where
 per:∀b o v,x.G b o=some v->w.cell? ⟨b,o,none⟩=some v
 g0:∀b o v,C.G0 b o=some v->x.G b o=some v
 gm:∀b o v,x.G b o=some v->C.G0 b o=some v\/C.mine b
 new:∀b,C.w0.heap.size<=b->C.mine b
 obs:∀p∈ob,dx x w p.1 p.2/\C.mine ((x.bk p.1).1)/\∀off,x.G ((x.bk p.1).1) off=none
 nd:(ob.map cI).Nodup
 inj:∀p∈ob,∀q∈ob,(x.bk p.1).1=(x.bk q.1).1->p.1=q.1
 tks:∀t∈tk,gH x w C.mine t
 tko:∀t∈tk,∀p∈ob,(x.τ t).1≠(x.bk p.1).1\/(x.τ t).2.1=(x.τ t).2.2
 tkd:∀t∈tk,∀u∈tk,t≠u->kZ (x.τ t) (x.τ u)\/(x.τ t).2.1=(x.τ t).2.2\/(x.τ u).2.1=(x.τ u).2.2
 os:w.os=C.w0.os
 tape:w.tape=C.w0.tape
 output:w.output=C.w0.output
 size:C.w0.heap.size<=w.heap.size
 ext:∀b,¬C.mine b->w.heap[b]? =C.w0.heap[b]?
 pin:∀i,i<100->x.bk i=C.β0 i
 lay:Lay C.G0
structure aM(C:Ctx)(x:Sit)(s:St)(a:Act)(w:World):Prop where
 tm:cy x s.tm a.tmps.toList
 defers:a.defers=[]
 heap:cW C x s.ob s.tk w
end Go.Sy
namespace Go.Sy
variable [ba]
inductive Arg where
 |t (n:Nat)
 |c (v:SV)
 |f (g:Nat)
inductive SOp where
 |mov (x:Arg)
 |pick (c a b:Arg)
 |new (o:aC)
 |box (x:Arg)
 |build (z:List SV) (ps:List (Nat×Nat×Arg))
 |lit (sz:Nat) (xs:List Arg)
 |litB (xs:List Arg)
 |load (n:Nat) (ag:Bool) (a:Arg)
 |store (n:Nat) (a x:Arg)
 |nchk (x:Arg)
 |bin (op:BinOp) (x y:Arg)
 |beq (ne:Bool) (x y:Arg)
 |un (op:UnOp) (x:Arg)
 |toInt (k:IntKind) (x:Arg)
 |toStr (x:Arg)
 |s2b (x:Arg)
 |b2s (x:Arg)
 |mkfn (f:Nat) (first cap:List Arg)
 |mk (z:List SV) (bytes:Nat) (len cap:Arg)
 |mkB (len cap:Arg)
 |slcS (x:Arg) (lo hi:Option Arg)
 |slcL (sz:Nat) (x:Arg) (lo hi mx:Option Arg)
 |slcA (len sz:Nat) (x:Arg) (lo hi mx:Option Arg)
 |faddr (off:Nat) (x:Arg)
 |fld (off n:Nat) (ag:Bool) (x:Arg)
 |iaddrL (sz:Nat) (x i:Arg)
 |iaddrA (len sz:Nat) (x i:Arg)
 |idxA (len sz:Nat) (ag:Bool) (x i:Arg)
 |idxS (x i:Arg)
 |ext (x:Arg) (i:Nat)
 |len (str:Bool) (x:Arg)
 |lenC (n:Nat)
 |cap (x:Arg)
 |app (z:List SV) (bytes:Nat) (x y:Arg)
 |appM (z:List SV) (bytes:Nat) (x k:Arg)
 |appO (z:List SV) (bytes:Nat) (x y:Arg)
 |eqS (ne:Bool) (ts:List Nat) (x y:Arg)
 |isnil (ne:Bool) (x:Arg)
 |isni (ne:Bool) (x:Arg)
 |slid (x:Arg)
 |newB (xs:List Arg)
 |ovl (x y:Arg)
 |cpy (sz:Nat) (x y:Arg)
 |clr (z:List SV) (x:Arg)
 |mini (x y:Arg)
 |maxi (x y:Arg)
 |call (f:Arg) (args:List Arg)
structure SI where
 dst:Option Nat
 g:Option (Nat×Bool)
 op:SOp
abbrev LAc:=List SI
inductive fU where
 |skip
 |ops (l:List SI)
 |drw (b ds:List Nat) (l:List SI)
 |seq (a b:fU)
 |cond (c:Arg) (a b:fU)
 |block (id:Nat) (b:fU)
 |loop (b:fU)
 |exit (id:Nat)
 |ret
 |bad
def St.get(s:St)(n:Nat):SV:=s.tm.getD n .undef
def St.ev(s:St):Arg->SV
 | .t n=>s.get n
 | .c v=>v
 | .f g=> .fn g [] []
def St.put(s:St)(d:t9)(v:SV):St:=
 match d with
 |some d=> {s with tm:=s.tm.set d v}
 |none=>s
def St.look(s:St)(o:Nat):Option aC:=s.ob.lookup o
def Tok.purge(lo hi:Nat):Tok->Tok
 | .id t=>if lo<=t/\t<hi then .no else .id t
 |t=>t
mutual
def SV.purge(lo hi:Nat):SV->SV
 | .byt l t=> .byt l (t.purge lo hi)
 | .lst h y t=> .lst h y (t.purge lo hi)
 | .ptr o off=>if lo<=o/\o<hi then .undef else .ptr o off
 | .ap o h i j=>if lo<=o/\o<hi then .undef else .ap o h i j
 | .psl o h off n cap=>if lo<=o/\o<hi then .undef else .psl o h off n cap
 | .agg cs=> .agg (SV.purgeL lo hi cs)
 | .tup cs=> .tup (SV.purgeL lo hi cs)
 | .fn f a b=> .fn f (SV.purgeL lo hi a) (SV.purgeL lo hi b)
 |v=>v
def SV.purgeL(lo hi:Nat):t7->t7
 |[]=> []
 |v::r=>v.purge lo hi::SV.purgeL lo hi r
end
def aC.purge(lo hi:Nat):aC->aC
 | .rc cs=> .rc (SV.purgeL lo hi cs)
 | .arr h y=> .arr h y
 | .bar l=> .bar l
def bm(lo hi:Nat):List (Nat×aC)->List (Nat×aC)
 |[]=> []
 |p::r=>if lo<=p.1/\p.1<hi then bm lo hi r else(p.1,p.2.purge lo hi)::bm lo hi r
def bN(lo hi:Nat):t8->t8
 |[]=> []
 |t::r=>if lo<=t/\t<hi then bN lo hi r else t::bN lo hi r
def St.purge(s:St)(lo hi:Nat):St:= {tm:=SV.purgeL lo hi s.tm,ob:=bm lo hi s.ob,tk:=bN lo hi s.tk}
def St.addO(s:St)(d:Nat)(o:aC):St:= {s with ob:=(d,o)::s.ob}
def setO(d:Nat)(o:aC):List (Nat×aC)->List (Nat×aC)
 |[]=> []
 |p::r=>if p.1=d then(d,o)::r else p::setO d o r
def St.setO(s:St)(d:Nat)(o:aC):St:= {s with ob:=Sy.setO d o s.ob}
def SV.data:SV->SV
 | .byt l _=> .byt l .no
 | .lst h y _=> .lst h y .no
 |v=>v
def SV.isData:SV->Bool
 | .bool _| .int _ _| .u8 _| .str _| .byt _ _| .lst _ _ _| .nilp| .nili| .pp _=>true
 |_=>false
def SV.cells:SV->t7
 | .agg cs=>cs
 | .undef=> []
 |v=> [v]
def SV.isDef:SV->Bool
 | .undef=>false
 |_=>true
def N4(op:BinOp)(a b:Int):Option SV:=
 match op with
 | .eql=>some (.bool (decide (a=b)))
 | .neq=>some (.bool (decide (a≠b)))
 | .lss=>some (.bool (decide (a<b)))
 | .leq=>some (.bool (decide (a<=b)))
 | .gtr=>some (.bool (decide (b<a)))
 | .geq=>some (.bool (decide (b<=a)))
 |_=>none
def bt(op:BinOp)(k:IntKind)(x y:Int):Int:=
 let a:=BitVec.ofInt k.bits x
 let b:=BitVec.ofInt k.bits y
 k.wrap (match op with| .and=>a&&&b| .or=>a|||b| .xor=>a^^^b|_=>a&&& ~~~b:BitVec k.bits).toNat
def P4(op:BinOp)(k:IntKind)(a b:Int):Option (Prop×SV):=
 match op with
 | .add=>some (True,.int k (k.wrap (a+b)))
 | .sub=>some (True,.int k (k.wrap (a-b)))
 | .mul=>some (True,.int k (k.wrap (a*b)))
 | .quo=>some (b≠0,.int k (k.wrap (a.tdiv b)))
 | .rem=>some (b≠0,.int k (a.tmod b))
 | .and=>some (True,.int k (bt .and k a b))
 | .or=>some (True,.int k (bt .or k a b))
 | .xor=>some (True,.int k (bt .xor k a b))
 | .andNot=>some (True,.int k (bt .andNot k a b))
 | .shl| .shr=>none
 |op=>(N4 op a b).map fun v=>(True,v)
def Dy(op:BinOp)(a b:UInt8):Option (Prop×SV):=
 match op with
 | .add=>some (True,.u8 (a+b))
 | .sub=>some (True,.u8 (a-b))
 | .mul=>some (True,.u8 (a*b))
 | .quo=>some (b≠0,.u8 (a/b))
 | .rem=>some (b≠0,.u8 (a % b))
 | .and=>some (True,.u8 (a&&&b))
 | .or=>some (True,.u8 (a|||b))
 | .xor=>some (True,.u8 (a^^^b))
 | .andNot=>some (True,.u8 (a&&& ~~~b))
 | .eql=>some (True,.bool (decide (a=b)))
 | .neq=>some (True,.bool (decide (a≠b)))
 | .lss=>some (True,.bool (decide (a<b)))
 | .leq=>some (True,.bool (decide (a<=b)))
 | .gtr=>some (True,.bool (decide (b<a)))
 | .geq=>some (True,.bool (decide (b<=a)))
 |_=>none
def tu(op:BinOp)(k:IntKind)(a b:Int):Option (Prop×SV):=
 match op with
 | .shl=>some (0<=b,.int k (k.wrap (a*2^(min b.toNat k.bits))))
 | .shr=>some (0<=b,.int k (a.fdiv (2^(min b.toNat k.bits))))
 |_=>none
def Rq(op:BinOp)(a:UInt8)(b:Int):Option (Prop×SV):=
 match op with
 | .shl=>some (0<=b,.u8 (ed (a.toNat*2^(min b.toNat 8))))
 | .shr=>some (0<=b,.u8 (ed (a.toNat/2^(min b.toNat 8))))
 |_=>none
def Rr(op:BinOp)(a b:t6):Option (Prop×SV):=
 match op with
 | .add=>some (a.length+b.length<=9223372036854775807,.str (a++b))
 | .eql=>some (True,.bool (decide (a=b)))
 | .neq=>some (True,.bool (decide (a≠b)))
 | .lss=>some (True,.bool (bH a b))
 | .leq=>some (True,.bool (bH a b||decide (a=b)))
 | .gtr=>some (True,.bool (!(bH a b||decide (a=b))))
 | .geq=>some (True,.bool (!bH a b))
 |_=>none
def wJ(op:BinOp):SV->SV->Option (Prop×SV)
 | .int k a,.int k' b=>
  match op with
  | .shl=>tu .shl k a b
  | .shr=>tu .shr k a b
  |op=>if k=k' then P4 op k a b else none
 | .u8 a,.int _ b=>Rq op a b
 | .u8 a,.u8 b=>Dy op a b
 | .str a,.str b=>Rr op a b
 |_,_=>none
def vn(op:UnOp):SV->Option SV
 | .bool b=>match op with| .not=>some (.bool (!b))|_=>none
 | .int k n=>match op with
  | .neg=>some (.int k (k.wrap (0-n)))
  | .xor=>some (.int k (bt .xor k (if k.signed then-1 else k.max) n))
  |_=>none
 |_=>none
def gS(k:IntKind):SV->Option SV
 | .int _ n=>match k with| .u8=>some (.u8 (dj n))|k=>some (.int k (k.wrap n))
 | .u8 b=>match k with| .u8=>some (.u8 b)| .i8=>none|k=>some (.int k b.toNat)
 |_=>none
def jF(b:Bool):SV->t9
 | .str l=>if b then some l.length else none
 | .byt l _=>if b then none else some l.length
 | .lst _ h _=>if b then none else some h.length
 | .psl _ _ _ n _=>if b then none else some n
 |_=>none
def dr(h:Bool)(n:Nat)(cs:t7):SV:=if h then .agg (cs.take n)else cs.getD 0 .undef
def io(s:St)(n:Nat)(y:Bool):SV->Option (Prop×SV)
 | .pp cs=>some (n<=cs.length,dr y n (cs.map SV.data))
 | .ptr o off=>match s.look o with
  |some (.rc cs)=>some (off+n<=cs.length,dr y n (cs.drop off))
  |some (.arr h xs)=>if off=0 then some (n<=xs.flatten.length/\(∀x∈xs,x.length=h),dr y n (xs.flatten.map SV.data))else none
  |some (.bar l)=>if off=0 then some (n<=l.length,dr y n (l.map .u8))else none
  |none=>none
 | .ap o h i j=>match s.look o with
  |some (.arr sz' xs)=>some (h=sz'/\i<xs.length/\j+n<=h/\(xs.getD i []).length=h,dr y n (((xs.getD i []).drop j).map SV.data))
  |some (.bar l)=>some (h=1/\j=0/\n=1/\i<l.length,dr y n [.u8 (l.getD i 0)])
  |_=>none
 |_=>none
def SV.num:SV->Option Int
 | .int _ n=>some n
 | .u8 b=>some b.toNat
 |_=>none
def il(s:St)(x:Option Arg)(h:Int):Option Int:=
 match x with
 |none=>some h
 |some a=>(s.ev a).num
def lF(t:Tok)(h clip:Bool):Tok:=if clip then .clip else if h then t else .no
def jb(s:St)(z:Nat)(x:SV)(lo hi y:Option Arg):Option (Prop×SV):=
 match x with
 | .byt l t=>
  match il s lo 0,il s hi l.length,il s y l.length with
  |some a,some b,some c=>some (0<=a/\a<=b/\b<=c/\c<=l.length/\z=1/\(y.isSome=true->b=c),.byt ((l.take b.toNat).drop a.toNat) (lF t hi.isNone y.isSome))
  |_,_,_=>none
 | .lst h l t=>
  match il s lo 0,il s hi l.length,il s y l.length with
  |some a,some b,some c=>some (0<=a/\a<=b/\b<=c/\c<=l.length/\z=h/\(y.isSome=true->b=c),.lst z ((l.take b.toNat).drop a.toNat) (lF t hi.isNone y.isSome))
  |_,_,_=>none
 | .psl o h off n none=>
  match il s lo 0,il s hi n,y with
  |some a,some b,none=>some (0<=a/\a<=b/\b<=n/\z=h,.psl o z (off+a.toNat) (b.toNat-a.toNat) none)
  |_,_,_=>none
 | .psl o h off n (some cap)=>
  match il s lo 0,il s hi n,il s y cap with
  |some a,some b,some c=>some (0<=a/\a<=b/\b<=c/\c<=cap/\z=h,.psl o z (off+a.toNat) (b.toNat-a.toNat) (some (c.toNat-a.toNat)))
  |_,_,_=>none
 |_=>none
def ir(cs:t7):List (Nat×Nat×SV)->Option t7
 |[]=>some cs
 |(off,n,v)::r=>if v.isDef=true/\v.cells.length=n/\off+n<=cs.length then ir (cs.take off++v.cells++cs.drop (off+n)) r else none
def toB:t7->Option t6
 |[]=>some []
 | .u8 b::r=>(toB r).map (b:: ·)
 |_::_=>none
def rows(h:Nat):t7->Option f8
 |[]=>some []
 |v::r=>if v.isDef=true/\v.cells.length=h/\v.cells.all SV.isData=true then(rows h r).map (v.cells.map SV.data:: ·)else none
def wL(s:St):SV->Option (Prop×SV)
 | .byt l _=>some (True,.str l)
 | .psl o h off n _=>match s.look o with
  |some (.bar l)=>some (h=1/\off+n<=l.length,.str ((l.drop off).take n))
  |_=>none
 |_=>none
def tw:Nat->SV->SV->Option Bool
 |0,.bool a,.bool b=>some (decide (a=b))
 |1,.int k a,.int k' b=>if k=k' then some (decide (a=b))else none
 |1,.u8 a,.u8 b=>some (decide (a=b))
 |2,.str a,.str b=>some (decide (a=b))
 |_,_,_=>none
def gC:t8->t7->t7->Option Bool
 |[],[],[]=>some true
 |t::ts,a::r,b::s=>match tw t a b,gC ts r s with
  |some p,some q=>some (p&&q)
  |_,_=>none
 |_,_,_=>none
def val(s:St):SOp->Option (Prop×SV)
 | .mov x=>some (True,s.ev x)
 | .build z J=>(ir z (J.map fun(o,n,x)=>(o,n,s.ev x))).map fun cs=>(True,.agg cs)
 | .lit h E=>(rows h (E.map s.ev)).map fun r=>(True,.lst h r .clip)
 | .litB E=>(toB (E.map s.ev)).map fun r=>(True,.byt r .clip)
 | .load n H a=>io s n H (s.ev a)
 | .nchk x=>match s.ev x with
  | .ptr o off=>some (True,.ptr o off)
  | .ap o h i j=>some (True,.ap o h i j)
  | .pp cs=>some (True,.pp cs)
  | .fn f a b=>some (True,.fn f a b)
  |_=>none
 | .bin op x y=>wJ op (s.ev x) (s.ev y)
 | .beq F x y=>match s.ev x,s.ev y with
  | .bool a,.bool b=>some (True,.bool (if F then decide (a≠b)else decide (a=b)))
  |_,_=>none
 | .eqS F L x y=>match s.ev x,s.ev y with
  | .agg cs,.agg ds=>(gC L cs ds).map fun b=>(True,.bool (if F then !b else b))
  |_,_=>none
 | .un op x=>(vn op (s.ev x)).map (True,·)
 | .toInt k x=>(gS k (s.ev x)).map (True,·)
 | .toStr x=>match s.ev x with| .str l=>some (True,.str l)|_=>none
 | .slid _=>none
 | .newB _=>none
 | .isni F x=>match s.ev x with| .nili=>some (True,.bool (!F))|_=>none
 | .s2b x=>match s.ev x with| .str l=>some (True,.byt l .no)|_=>none
 | .b2s x=>wL s (s.ev x)
 | .mkfn f a b=>some (True,.fn f (a.map s.ev) (b.map s.ev))
 | .slcS x lo hi=>match s.ev x with
  | .str l=>match il s lo 0,il s hi l.length with
   |some a,some b=>some (0<=a/\a<=b/\b<=l.length,.str ((l.take b.toNat).drop a.toNat))
   |_,_=>none
  |_=>none
 | .slcL h x lo hi I=>jb s h (s.ev x) lo hi I
 | .slcA len h x lo hi I=>match s.ev x with
  | .ptr o 0=>jb s h (.psl o h 0 len (some len)) lo hi I
  |_=>none
 | .faddr off x=>match s.ev x with
  | .ptr o k=>some (True,.ptr o (k+off))
  | .ap o h i j=>some (True,.ap o h i (j+off))
  | .pp cs=>some (True,.pp (cs.drop off))
  |_=>none
 | .fld off n H x=>match s.ev x with
  | .agg cs=>some (off+n<=cs.length,dr H n (cs.drop off))
  |_=>none
 | .iaddrL h x i=>match s.ev x,(s.ev i).num with
  | .byt l _,some n=>some (0<=n/\n<l.length/\h=1,.pp [.u8 (l.getD n.toNat 0)])
  | .lst sz' E _,some n=>some (0<=n/\n<E.length/\h=sz',.pp (E.getD n.toNat []))
  | .psl o sz' off k _,some n=>some (0<=n/\n<k/\h=sz',.ap o h (off+n.toNat) 0)
  |_,_=>none
 | .iaddrA len h x i=>match s.ev x,(s.ev i).num with
  | .ptr o off,some n=>match s.look o with
   |some (.rc _)=>some (0<=n/\n<len,.ptr o (off+n.toNat*h))
   |some _=>if off=0 then some (0<=n/\n<len,.ap o h n.toNat 0)else none
   |none=>none
  | .pp cs,some n=>some (0<=n/\n<len/\cs.length=len*h,.pp (cs.drop (n.toNat*h)))
  |_,_=>none
 | .idxA len h H x i=>match s.ev x,(s.ev i).num with
  | .agg cs,some n=>some (0<=n/\n<len/\cs.length=len*h,dr H h (cs.drop (n.toNat*h)))
  |_,_=>none
 | .idxS x i=>match s.ev x,(s.ev i).num with
  | .str l,some n=>some (0<=n/\n<l.length,.u8 (l.getD n.toNat 0))
  |_,_=>none
 | .ext x i=>match s.ev x with
  | .tup vs=>some (i<vs.length,vs.getD i .undef)
  |_=>none
 | .len b x=>match jF b (s.ev x)with
  |some n=>some (True,.int .i64 (n:Nat))
  |none=>none
 | .lenC n=>some (True,.int .i64 n)
 | .cap x=>match s.ev x with
  | .psl _ _ _ _ (some c)=>some (True,.int .i64 c)
  | .byt l .clip=>some (True,.int .i64 l.length)
  | .lst _ E .clip=>some (True,.int .i64 E.length)
  |_=>none
 | .mini x y=>match s.ev x,s.ev y with
  | .int k a,.int k' b=>if k=k' then some (True,.int k (if b<a then b else a))else none
  |_,_=>none
 | .maxi x y=>match s.ev x,s.ev y with
  | .int k a,.int k' b=>if k=k' then some (True,.int k (if a<b then b else a))else none
  |_,_=>none
 |_=>none
end Go.Sy
namespace Go.Sy
variable [ba]
def Tok.ren(m:Nat->Nat):Tok->Tok
 | .id t=> .id (m t)
 |t=>t
mutual
def SV.ren(m mt:Nat->Nat):SV->SV
 | .byt l t=> .byt l (t.ren mt)
 | .lst h y t=> .lst h y (t.ren mt)
 | .ptr o off=> .ptr (m o) off
 | .ap o h i j=> .ap (m o) h i j
 | .psl o h off n cap=> .psl (m o) h off n cap
 | .agg cs=> .agg (SV.renL m mt cs)
 | .tup cs=> .tup (SV.renL m mt cs)
 | .fn f a b=> .fn f (SV.renL m mt a) (SV.renL m mt b)
 |v=>v
def SV.renL(m mt:Nat->Nat):t7->t7
 |[]=> []
 |v::r=>v.ren m mt::SV.renL m mt r
end
def aC.ren(m mt:Nat->Nat):aC->aC
 | .rc cs=> .rc (SV.renL m mt cs)
 |o=>o
mutual
def SV.toks:SV->t8
 | .byt _ t=>match t with| .id t=> [t]|_=> []
 | .lst _ _ t=>match t with| .id t=> [t]|_=> []
 | .agg cs=>SV.toksL cs
 | .tup cs=>SV.toksL cs
 | .fn _ a b=>SV.toksL a++SV.toksL b
 |_=> []
def SV.toksL:t7->t8
 |[]=> []
 |v::r=>v.toks++SV.toksL r
end
mutual
def SV.ids:SV->t8
 | .ptr o _=> [o]
 | .ap o _ _ _=> [o]
 | .psl o _ _ _ _=> [o]
 | .agg cs=>SV.idsL cs
 | .tup cs=>SV.idsL cs
 | .fn _ a b=>SV.idsL a++SV.idsL b
 |_=> []
def SV.idsL:t7->t8
 |[]=> []
 |v::r=>v.ids++SV.idsL r
end
def aC.ids:aC->t8
 | .rc cs=>SV.idsL cs
 |_=> []
def aC.toks:aC->t8
 | .rc cs=>SV.toksL cs
 |_=> []
def idx(os:List aC):List (Nat×aC):=os.zipIdx.map fun p=>(p.2,p.1)
def eu(P:Program)(f:Nat):Bool:=
 match P.funcs[f]? with
 |some fn=>fn.body.isSome&& !(fn.name== "runtime.NumGoroutine")
 |none=>false
def xlH(P:Program)(f:Nat)(args:t7)(os:List aC)(R:SV->List (Nat×aC)->Prop):Prop:=
 eu P f=true/\∀(C:Ctx)(x:Sit)(w:World)(vs:LAa),C.w0=w->C.G0=x.G->
  (∀b,C.mine b->w.heap.size<=b\/∃i,i<os.length/\(x.bk i).1=b)->os.length<=100->
  cW C x (idx os) [] w->cy x args vs->
  Calls P f ⟨vs⟩ w fun e w'=>∃v x' r h,e= .returned v/\R r h/\Rep x' r v/\cW C x' h r.toks w'/\∀i,i<os.length->x'.bk i=x.bk i
def Fn(P:Program)(f:Nat)(args:t7)(r:SV):Prop:=xlH P f args [] fun y h=>y=r/\h=[]
def iw(d:Nat)(m:t8)(o:Nat):Nat:=if o<m.length then m.getD o 0 else(d+1)*1000+o
def j7(d:Nat)(t:Nat):Nat:=(d+1)*1000+t
def inR(d:Nat)(o:Nat):Bool:=decide ((d+1)*1000<=o)&&decide (o<(d+2)*1000)
def eY(m:t8):List (Nat×aC)->List (Nat×aC)
 |[]=> []
 |p::r=>if p.1∈m then eY m r else p::eY m r
def oj(d:Nat)(m:t8):List (Nat×aC)->List (Nat×aC)
 |[]=> []
 |p::r=>(iw d m p.1,p.2.ren (iw d m) (j7 d))::oj d m r
def St.after(s:St)(d:t9)(m:t8)(r:SV)(os:List (Nat×aC)):St:=
 St.put {
  tm:=SV.purgeL ((d.getD 0+1)*1000) ((d.getD 0+2)*1000) s.tm
  ob:=oj (d.getD 0) m os++eY m (bm ((d.getD 0+1)*1000) ((d.getD 0+2)*1000) s.ob)
  tk:=r.toks.map (j7 (d.getD 0))++bN ((d.getD 0+1)*1000) ((d.getD 0+2)*1000) s.tk}
  d (r.ren (iw (d.getD 0) m) (j7 (d.getD 0)))
structure Eff where
 pre:Prop
 val:SV
 wr:List (Nat×aC):=[]
 new:Option aC:=none
 eat:Tok:= .no
 tok:Bool:=false
def fA(y:Nat)(h:f8)(i j n:Nat)(v:t7):f8:=
 if j=0/\n=y then h.set i v else h.set i (((h.getD i []).take j)++v++((h.getD i []).drop (j+n)))
def gv(cs:t7)(off:Nat)(v:t7):t7:=
 match v with
 |[u]=>cs.set off u
 |v=>cs.take off++v++cs.drop (off+v.length)
def SV.one:SV->Bool
 | .undef| .agg _| .tup _=>false
 |_=>true
def jn(h:Nat):Nat->t7->f8
 |0,_=> []
 |m+1,v=>v.take h::jn h m (v.drop h)
def pN(s:St)(n:Nat)(v:t7):SV->Option Eff
 | .ptr o off=>match s.look o with
  |some (.rc cs)=>some {pre:=off+n<=cs.length/\v.length=n/\v.all SV.one=true,val:= .undef,wr:=[(o,.rc (gv cs off v))]}
  |some (.arr h xs)=>some {pre:=off=0/\n=xs.length*h/\v.length=n/\v.all SV.isData=true,val:= .undef,wr:=[(o,.arr h (jn h xs.length (v.map SV.data)))]}
  |some (.bar l)=>match toB v with
   |some y=>some {pre:=off=0/\n=l.length/\y.length=n,val:= .undef,wr:=[(o,.bar y)]}
   |none=>none
  |_=>none
 | .ap o h i j=>match s.look o with
  |some (.arr sz' xs)=>some {pre:=h=sz'/\i<xs.length/\j+n<=h/\v.length=n/\(∀x∈xs,x.length=h)/\v.all SV.isData=true,val:= .undef,wr:=[(o,.arr sz' (fA h xs i j n (v.map SV.data)))]}
  |some (.bar l)=>match v with
   |[.u8 b]=>some {pre:=h=1/\j=0/\n=1/\i<l.length,val:= .undef,wr:=[(o,.bar (l.set i b))]}
   |_=>none
  |_=>none
 |_=>none
def Tok.ready(s:St):Tok->Bool
 | .no=>false
 | .clip=>true
 | .id t=>s.tk.contains t
def Tok.eat(t:Tok)(tk:t8):t8:=
 match t with
 | .id t=>bN t (t+1) tk
 |_=>tk
def bytesOf(s:St):SV->Option (Prop×t6)
 | .byt l _=>some (True,l)
 | .str l=>some (True,l)
 | .psl o h off n _=>match s.look o with
  |some (.bar l)=>some (h=1/\off+n<=l.length,(l.drop off).take n)
  |_=>none
 |_=>none
def jB(s:St)(z:Nat):SV->Option (Prop×f8)
 | .lst h y _=>some (z=h,y)
 | .psl o h off n _=>match s.look o with
  |some (.arr sz'' y)=>some (z=h/\z=sz''/\off+n<=y.length/\(∀x∈y,x.length=z),((y.drop off).take n))
  |_=>none
 |_=>none
def eff(s:St)(d:t9):SOp->Option Eff
 | .new o=>match d with
  |some d=>some {pre:=True,val:= .ptr (d+100) 0,new:=some o}
  |none=>none
 | .box x=>match d with
  |some d=>some {pre:=True,val:= .ptr (d+100) 0,new:=some (.rc (s.ev x).cells)}
  |none=>none
 | .mk z bytes n c=>match d,s.ev n,s.ev c with
  |some d,.int _ n,.int _ c=>some {pre:=0<=n/\n<=c/\bytes*c<=140737488355328/\c<=9223372036854775807,val:= .psl (d+100) z.length 0 n.toNat (some c.toNat),new:=some (.arr z.length (ao c.toNat z))}
  |_,_,_=>none
 | .mkB n c=>match d,s.ev n,s.ev c with
  |some d,.int _ n,.int _ c=>some {pre:=0<=n/\n<=c/\c<=140737488355328,val:= .psl (d+100) 1 0 n.toNat (some c.toNat),new:=some (.bar (ao c.toNat 0))}
  |_,_,_=>none
 | .store n a x=>match (s.ev x).isDef with
  |true=>pN s n (s.ev x).cells (s.ev a)
  |false=>none
 | .app z bytes x y=>match d with
  |some d=>match s.ev x with
   | .byt l t=>match bytesOf s (s.ev y)with
    |some (p,l')=>some {pre:=p/\z.length=1/\bytes=1/\t.ready s=true/\l.length+l'.length<=140737488355328,val:= .byt (l++l') (.id (d+100)),eat:=t,tok:=true}
    |none=>none
   | .lst h l t=>match jB s z.length (s.ev y)with
    |some (p,l')=>some {pre:=p/\z.length=h/\t.ready s=true/\(l.length+l'.length)*bytes<=140737488355328,val:= .lst z.length (l++l') (.id (d+100)),eat:=t,tok:=true}
    |none=>none
   |_=>none
  |none=>none
 | .cpy E x y=>match s.ev x with
  | .psl o h off n _=>match s.look o with
   |some (.bar l)=>match bytesOf s (s.ev y)with
    |some (p,l')=>some {pre:=p/\E=1/\h=1/\off+n<=l.length,val:= .int .i64 (min l'.length n:Nat),wr:=[(o,.bar (l.take off++l'.take n++l.drop (off+(l'.take n).length)))]}
    |none=>none
   |some (.arr sz'' xs)=>match jB s E (s.ev y)with
    |some (p,l')=>some {pre:=p/\E=h/\E=sz''/\off+n<=xs.length/\(∀x∈xs,x.length=E),val:= .int .i64 (min l'.length n:Nat),wr:=[(o,.arr E (xs.take off++l'.take n++xs.drop (off+(l'.take n).length)))]}
    |none=>none
   |_=>none
  |_=>none
 | .pick _ _ _=>none
 | .call _ _=>none
 | .appM _ _ _ _=>none
 | .appO _ _ _ _=>none
 | .clr z x=>match s.ev x with
  | .psl o h off n _=>match s.look o with
   |some (.arr sz'' xs)=>some {pre:=0<n/\z.length=h/\z.length=sz''/\off+n<=xs.length/\(∀x∈xs,x.length=z.length),val:= .tup [],wr:=[(o,.arr z.length (xs.take off++ao n z++xs.drop (off+n)))]}
   |_=>none
  |_=>none
 | .isnil _ _=>none
 |so=>match val s so with
  |some (p,v)=>some {pre:=p,val:=v}
  |none=>none
def St.wr(s:St):List (Nat×aC)->St
 |[]=>s
 |p::r=>(s.setO p.1 p.2).wr r
def St.grew(s:St)(t:Tok)(d:Nat):St:=
 {tm:=SV.purgeL d (d+1) s.tm,ob:=bm d (d+1) s.ob,tk:=d::bN d (d+1) (t.eat s.tk)}
def St.app(s:St)(d:t9)(e:Eff):St:=
 match e.new,e.tok with
 |some o,_=>((s.purge (d.getD 0+100) (d.getD 0+100+1)).addO (d.getD 0+100) (o.purge (d.getD 0+100) (d.getD 0+100+1))).put d e.val
 |none,true=>(s.grew e.eat (d.getD 0+100)).put d e.val
 |none,false=>(s.wr e.wr).put d e.val
def Tok.ids:Tok->t8
 | .id t=> [t]
 |_=> []
def SOp.args:SOp->List Arg
 | .mov x| .box x| .load _ _ x| .nchk x| .un _ x| .toInt _ x| .toStr x| .s2b x| .b2s x| .faddr _ x| .fld _ _ _ x| .ext x _| .len _ x| .cap x| .isnil _ x| .isni _ x| .slid x| .clr _ x=> [x]
 | .pick c a b=> [c,a,b]
 | .new _| .lenC _=> []
 | .build _ z=>z.map fun p=>p.2.2
 | .lit _ h| .litB h| .newB h=>h
 | .store _ a b| .bin _ a b| .beq _ a b| .mk _ _ a b| .mkB a b| .iaddrL _ a b| .iaddrA _ _ a b| .idxA _ _ _ a b| .idxS a b| .app _ _ a b| .appM _ _ a b| .appO _ _ a b| .eqS _ _ a b| .ovl a b| .cpy _ a b| .mini a b| .maxi a b=> [a,b]
 | .mkfn _ a b=>a++b
 | .slcS x lo hi=>x::(lo.toList++hi.toList)
 | .slcL _ x lo hi y| .slcA _ _ x lo hi y=>x::(lo.toList++hi.toList++y.toList)
 | .call f a_=>f::a_
structure xdn where
 r:List Nat
 w:List Nat
 t:List Nat
 n:List Nat
 m:List Nat
 l:List Nat
def SV.names(v:SV):t8:=v.ids++v.toks
def aC.names(o:aC):t8:=o.ids++o.toks
def M5:List (Nat×aC)->t8
 |[]=> []
 |p::r=>p.2.names++M5 r
def Eff.names(e:Eff):t8:=e.val.names++M5 e.wr++(match e.new with|some o=>o.names|none=> [])
def xfs(a b:t8):Bool:=a.any b.contains
def xdn.before(a b:xdn):Bool:= !xfs b.n (a.r++a.w++a.t++a.m++a.n)
end Go.Sy
namespace Go.Sy
variable [ba]
theorem cE.mono{G J:GM}(H:∀b o v,G b o=some v->J b o=some v){s:SV}{v:Value}(h:cE G s v):cE J s v:=by
 induction h with
 |bool b=>exact .bool b
 |int k n=>exact .int k n
 |u8 b=>exact .u8 b
 |str l=>exact .str l
 |nilp=>exact .nilp
 |nili=>exact .nili
 |bytN t=>exact .bytN t
 |bytE t a=>exact .bytE t a
 |byt l t b off cap n hn E h=>exact .byt l t b off cap n hn E fun i hi=>H _ _ _ (h i hi)
 |lstN z t=>exact .lstN z t
 |lstE z t a=>exact .lstE z t a
 |lst z O t b off cap n val hn E L F _ I=>exact .lst z O t b off cap n val hn E L (fun i j hi y=>H _ _ _ (F i j hi y)) fun i j hi y=>I i j hi y
 |pp cs b off val F _ I=>exact .pp cs b off val (fun j y=>H _ _ _ (F j y)) fun j y=>I j y
theorem Lay.mono{G y:GM}(h:Lay G)(z:∀b o v,G b o=some v->y b o=some v):Lay y:=fun g cs E j H=>by obtain⟨v,F,I⟩:=h g cs E j H;exact⟨v,z _ _ _ F,I.mono z⟩
theorem dl(lo hi:Nat)(cs:t7):SV.purgeL lo hi cs=cs.map (SV.purge lo hi):=by
 induction cs with
 |nil=>simp[SV.purgeL]
 |cons c r h=>simp[SV.purgeL,h]
theorem eW(m mt:Nat->Nat)(cs:t7):SV.renL m mt cs=cs.map (SV.ren m mt):=by
 induction cs with
 |nil=>simp[SV.renL]
 |cons c r h=>simp[SV.renL,h]
theorem aU(f:SV->SV)(h:f .undef= .undef)(cs:t7)(i:Nat):(cs.map f).getD i .undef=f (cs.getD i .undef):=by simp only[aa,aR];cases cs[i]? <;>simp[h]
@[simp] theorem purge_undef (lo hi:Nat):SV.purge lo hi .undef= .undef:=by simp[SV.purge]
@[simp] theorem ren_undef (m mt:Nat->Nat):SV.ren m mt .undef= .undef:=by simp[SV.ren]
theorem cE.tok{G:GM}{s:SV}{v:Value}(h:cE G s v)(s':SV)
 (J:(∃l t y,s= .byt l t/\s'= .byt l y)\/(∃F E t y,s= .lst F E t/\s'= .lst F E y)):cE G s' v:=by
 rcases J with⟨l,t,y,rfl,rfl⟩|⟨F,E,t,y,rfl,rfl⟩
 ·cases h with
  |bytN=>exact .bytN _
  |bytE _ a=>exact .bytE _ a
  |byt _ _ b off cap n hn z h=>exact .byt _ _ b off cap n hn z h
 ·cases h with
  |lstN=>exact .lstN _ _
  |lstE _ _ a=>exact .lstE _ _ a
  |lst _ _ _ b off cap n val hn z H I h=>exact .lst _ _ _ b off cap n val hn z H I h
theorem de.mono{x x':Sit}{lo hi y:Nat}{t:Tok}{v:Value}(E:∀o,¬(lo<=o/\o<hi)->x'.τ o=x.τ o)(h:de x y t v):de x' y (t.purge lo hi) v:=by
 cases t with
 |no=>trivial
 |clip=>exact h
 |id t=>
  simp only[Tok.purge];split
  ·trivial
  ·rename_i hn
   obtain⟨a,n,cap,I,z⟩:=h;refine⟨a,n,cap,I,z.imp id ?_⟩;rintro⟨b,off,F,H⟩;exact⟨b,off,F,by rw[E _ hn];exact H⟩
theorem Rep.mono{x x':Sit}{lo hi:Nat}(hG:∀b o v,x.G b o=some v->x'.G b o=some v)(J:∀o,¬(lo<=o/\o<hi)->x'.bk o=x.bk o)
 (hτ:∀o,¬(lo<=o/\o<hi)->x'.τ o=x.τ o) {s:SV} {v:Value} (h:Rep x s v):Rep x' (s.purge lo hi) v:=by
 induction h with
 |undef v=>simp only[purge_undef];exact .undef v
 |dat s v h ht=>
  have y:=h.mono hG;cases s with
  |byt l t=>simp only[SV.purge];exact .dat _ _ (y.tok _ (.inl ⟨l,t,_,rfl,rfl⟩)) (de.mono hτ ht)
  |lst z xs t=>simp only[SV.purge];exact .dat _ _ (y.tok _ (.inr ⟨z,xs,t,_,rfl,rfl⟩)) (de.mono hτ ht)
  |undef=>simp only[SV.purge];exact .undef v
  |bool b=>simp only[SV.purge];exact .dat _ _ y trivial
  |int k n=>simp only[SV.purge];exact .dat _ _ y trivial
  |u8 b=>simp only[SV.purge];exact .dat _ _ y trivial
  |str l=>simp only[SV.purge];exact .dat _ _ y trivial
  |nilp=>simp only[SV.purge];exact .dat _ _ y trivial
  |nili=>simp only[SV.purge];exact .dat _ _ y trivial
  |pp cs=>simp only[SV.purge];exact .dat _ _ y trivial
  |ptr o off=>cases h
  |ap o z i j=>cases h
  |psl o z off n cap=>cases h
  |agg cs=>cases h
  |tup cs=>cases h
  |fn f a b=>cases h
 |ptr o off=>
  simp only[SV.purge];split
  ·exact .undef _
  ·rename_i hn;rw[<-J o hn];exact .ptr o off
 |ap o z i j=>
  simp only[SV.purge];split
  ·exact .undef _
  ·rename_i hn;rw[<-J o hn];exact .ap o z i j
 |psl o z off n cap E F h W Z H=>
  simp only[SV.purge];split
  ·exact .undef _
  ·rename_i hn;rw[<-J o hn]at H ⊢;exact .psl o z off n cap E F h W Z H
 |agg cs vs I _ U=>simp only[SV.purge,dl];exact .agg _ _ (by simpa using I) fun i hi=>by rw[aU _ (by simp)];exact U i (by simpa using hi)
 |tup cs vs I _ U=>simp only[SV.purge,dl];exact .tup _ _ (by simpa using I) fun i hi=>by rw[aU _ (by simp)];exact U i (by simpa using hi)
 |fn f c1 c2 v1 v2 L _ T _ O Q=>
  simp only[SV.purge,dl]
  exact .fn _ _ _ _ _ (by simpa using L) (fun i hi=>by rw[aU _ (by simp)];exact O i (by simpa using hi))
   (by simpa using T) fun i hi=>by rw[aU _ (by simp)];exact Q i (by simpa using hi)
theorem Bz(s:SV):s.purge 0 0=s:=by
 have h:∀t:Tok,t.purge 0 0=t:=fun t=>by cases t<;>simp[Tok.purge]
 refine SV.rec (motive_1:=fun s=>s.purge 0 0=s) (motive_2:=fun _=>True) (motive_3:=fun l=>SV.purgeL 0 0 l=l) ?_ ?_ ?_ ?_ ?_ ?_ ?_ ?_ ?_ ?_ ?_ ?_ ?_ ?_ ?_ ?_ ?_ ?_ ?_ ?_ s<;>
  intros<;>simp_all [SV.purge,SV.purgeL]
theorem EY(l:t7):SV.purgeL 0 0 l=l:=by
 rw[dl];induction l with
 |nil=>rfl
 |cons c r h=>simp[Bz,h]
theorem EX(l:List (Nat×aC)):bm 0 0 l=l:=by
 induction l with
 |nil=>rfl
 |cons q r h=>simp only[bm];rw[if_neg (by omega),h];obtain⟨n,o⟩:=q;cases o<;>simp[aC.purge,EY]
theorem Rep.grow{x x':Sit}(F:∀b o v,x.G b o=some v->x'.G b o=some v)(E:x'.bk=x.bk)(z:x'.τ=x.τ){s:SV}{v:Value}(h:Rep x s v):Rep x' s v:=by have y:=h.mono (x':=x') (lo:=0) (hi:=0) F (fun o _=>by rw[E]) (fun o _=>by rw[z]);rwa[Bz]at y
theorem cy.mono{x x':Sit}{lo hi:Nat}(E:∀b o v,x.G b o=some v->x'.G b o=some v)(z:∀o,¬(lo<=o/\o<hi)->x'.bk o=x.bk o)
 (y:∀o,¬(lo<=o/\o<hi)->x'.τ o=x.τ o) {cs:t7} {vs:LAa} (h:cy x cs vs):cy x' (SV.purgeL lo hi cs) vs:=by
 refine⟨by rw[dl];simpa using h.1,fun i hi=> ?_⟩;rw[dl,aU _ (by simp)];exact(h.2 i (by rw[dl]at hi;simpa using hi)).mono E z y
theorem cy.grow{x x':Sit}(E:∀b o v,x.G b o=some v->x'.G b o=some v)(z:x'.bk=x.bk)(y:x'.τ=x.τ){cs:t7}{vs:LAa}(h:cy x cs vs):cy x' cs vs:=
 ⟨h.1,fun i hi=>(h.2 i hi).grow E z y⟩
theorem Rep.data{x:Sit}{s:SV}{v:Value}(h:Rep x s v)(y:s.isData=true):cE x.G s v:=by
 cases h with
 |dat _ _ h _=>exact h
 |_=>simp[SV.isData]at y
theorem cE.rep{x:Sit}{s:SV}{v:Value}(h:cE x.G s v):Rep x s.data v:=by
 cases h with
 |byt l t b off cap n hn y h=>exact .dat _ _ (.byt l _ b off cap n hn y h) trivial
 |bytN t=>exact .dat _ _ (.bytN _) trivial
 |bytE t a=>exact .dat _ _ (.bytE _ a) trivial
 |lstN E t=>exact .dat _ _ (.lstN _ _) trivial
 |lstE E t a=>exact .dat _ _ (.lstE _ _ a) trivial
 |lst E H t b off cap n val hn y F z h=>exact .dat _ _ (.lst _ _ _ b off cap n val hn y F z h) trivial
 |bool b=>exact .dat _ _ (.bool b) trivial
 |int k n=>exact .dat _ _ (.int k n) trivial
 |u8 b=>exact .dat _ _ (.u8 b) trivial
 |str l=>exact .dat _ _ (.str l) trivial
 |nilp=>exact .dat _ _ .nilp trivial
 |nili=>exact .dat _ _ .nili trivial
 |pp cs b off val z h=>exact .dat _ _ (.pp cs b off val z h) trivial
theorem cE.toData{G:GM}{s:SV}{v:Value}(h:cE G s v):cE G s.data v:=by
 cases h with
 |byt l t b off cap n hn y h=>exact .byt l _ b off cap n hn y h
 |bytN t=>exact .bytN _
 |bytE t a=>exact .bytE _ a
 |lstN E t=>exact .lstN _ _
 |lstE E t a=>exact .lstE _ _ a
 |lst E H t b off cap n val hn y F z h=>exact .lst _ _ _ b off cap n val hn y F z h
 |bool b=>exact .bool b
 |int k n=>exact .int k n
 |u8 b=>exact .u8 b
 |str l=>exact .str l
 |nilp=>exact .nilp
 |nili=>exact .nili
 |pp cs b off val z h=>exact .pp cs b off val z h
theorem co{lo hi:Nat}{ob:List (Nat×aC)}{p:Nat×aC}(h:p∈bm lo hi ob):
 ¬(lo<=p.1/\p.1<hi)/\∃o,(p.1,o)∈ob/\p.2=o.purge lo hi:=by
 induction ob with
 |nil=>simp[bm]at h
 |cons q r F=>
  simp only[bm]at h;split at h
  ·obtain⟨y,o,E,z⟩:=F h;exact⟨y,o,an _ E,z⟩
  ·rename_i H
   rcases am.1 h with rfl|h
   ·exact⟨H,q.2,aw ..,rfl⟩
   ·obtain⟨y,o,E,z⟩:=F h;exact⟨y,o,an _ E,z⟩
theorem eD{lo hi:Nat}(ob:List (Nat×aC)):(bm lo hi ob).map cI=(ob.map cI).filter fun o=>decide (¬(lo<=o/\o<hi)):=by
 induction ob with
 |nil=>simp[bm]
 |cons q r y=>
  simp only[bm,aG,kI];split<;>rename_i h
  ·rw[y,if_neg (by simp;omega)]
  ·rw[if_pos (by simp;omega),aG,y]
theorem bC{lo hi t:Nat}{tk:t8}:t∈bN lo hi tk↔t∈tk/\¬(lo<=t/\t<hi):=by
 induction tk with
 |nil=>simp[bN]
 |cons u r h=>
  simp only[bN];split<;>rename_i hu
  ·rw[h,am];constructor
   ·rintro⟨a,b⟩;exact⟨.inr a,b⟩
   ·rintro⟨a|a,b⟩
    ·subst a;exact absurd hu b
    ·exact⟨a,b⟩
  ·rw[am,h,am];constructor
   ·rintro(rfl|⟨a,b⟩)
    ·exact⟨.inl rfl,hu⟩
    ·exact⟨.inr a,b⟩
   ·rintro⟨a|a,b⟩
    ·exact .inl a
    ·exact .inr ⟨a,b⟩
end Go.Sy
namespace Go.Sy
variable [ba]
theorem wk{w:World}{b:Nat}{o:Obj}(h:w.heap[b]? =some o):b<w.heap.size:=by
 rcases bL b w.heap.size with y|y
 ·exact y
 ·simp[Array.getElem?_eq_none y]at h
theorem dt{w:World}{o:Obj}{b:Nat}(h:b<w.heap.size):(w.alloc o).heap[b]? =w.heap[b]? :=by show(w.heap.push o)[b]? =_;rw[Array.getElem?_push,if_neg (by omega)]
theorem dw{w:World}{o:Obj}:(w.alloc o).heap[w.heap.size]? =some o:=by show(w.heap.push o)[w.heap.size]? =_;rw[Array.getElem?_push,if_pos rfl]
theorem eQ.lt{w:World}{b:Nat}{c:LAb}{e:TypeId}{fl fh:Nat}(h:eQ w b c e fl fh):b<w.heap.size:=wk h.1
theorem eQ.of_heap{w w':World}{b:Nat}{c:LAb}{e:TypeId}{fl fh:Nat}(h:eQ w b c e fl fh)(y:w'.heap[b]? =w.heap[b]?):eQ w' b c e fl fh:=⟨y.trans h.1,h.2⟩
theorem db{w w':World}{b o:Nat}(h:w'.heap[b]? =w.heap[b]?):w'.cell? ⟨b,o,none⟩=w.cell? ⟨b,o,none⟩:=by simp only[World.cell?,h]
theorem eQ.cell{w:World}{b:Nat}{c:LAb}{e:TypeId}{fl fh:Nat}(h:eQ w b c e fl fh)(o:Nat):w.cell? ⟨b,o,none⟩=c[o]? :=by simp[World.cell?,h.1]
theorem eQ.free{w:World}{b:Nat}{c:LAb}{e:TypeId}{fl fh:Nat}(h:eQ w b c e fl fh){o:Nat}(y:o<c.size):w.frozen? ⟨b,o,none⟩=false:=by simp only[World.frozen?,h.1];have:=h.2 o y;simpa using this
theorem cW.ltG{C:Ctx}{x:Sit}{ob:List (Nat×aC)}{tk:t8}{w:World}(h:cW C x ob tk w){b o:Nat}{v:Value}(y:x.G b o=some v):b<w.heap.size:=by have:=h.per b o v y;exact World.block_lt_of_cell? (w:=w) (a:=⟨b,o,none⟩) this
theorem dx.of_heap{x x':Sit}{w w':World}{o:Nat}{obj:aC}{lo hi:Nat}(h:dx x w o obj)(O:w'.heap[(x.bk o).1]? =w.heap[(x.bk o).1]?)
 (I:∀b o v,x.G b o=some v->x'.G b o=some v) (z:∀o,¬(lo<=o/\o<hi)->x'.bk o=x.bk o) (L:∀o,¬(lo<=o/\o<hi)->x'.τ o=x.τ o)
 (J:¬(lo<=o/\o<hi)):dx x' w' o (obj.purge lo hi):=by
 obtain⟨c,e,fl,fh,Q,⟨T,F,H⟩,E⟩:=h;refine⟨c,e,fl,fh,by rw[z o J];exact Q.of_heap O,⟨?_,by rw[z o J];exact F,by cases obj<;>exact H⟩, ?_⟩
 ·cases obj<;>simpa[aC.purge,aC.size,dl]using T
 ·intro k y
  cases obj with
  |rc cs=>simp only[aC.purge,cj,dl];rw[aU _ (by simp)];exact(E k (by simpa[aC.purge,aC.size,dl]using y)).mono I z L
  |arr W U=>exact(E k y).mono I
  |bar l=>exact(E k y).mono I
theorem cW.congr{C:Ctx}{x:Sit}{ob:List (Nat×aC)}{tk:t8}{w w':World}(h:cW C x ob tk w)(y:w'.heap=w.heap)(J:w'.os=w.os)(E:w'.tape=w.tape)
 (z:w'.output=w.output):cW C x ob tk w':=by
 have H:∀a,w'.cell? a=w.cell? a:=fun a=>by simp only[World.cell?,y]
 refine⟨fun b o v O=>by rw[H];exact h.per b o v O,h.g0,h.gm,h.new, ?_,h.nd,h.inj, ?_,h.tko,h.tkd,J.trans h.os,E.trans h.tape,z.trans h.output,by rw[y];exact h.size,fun b I=>by rw[y];exact h.ext b I,h.pin,h.lay⟩
 ·intro p L
  obtain⟨⟨c,e,fl,fh,F,r⟩,q⟩:=h.obs p L;exact⟨⟨c,e,fl,fh,F.of_heap (by rw[y]),r⟩,q⟩
 ·intro t E
  exact(h.tks t E).imp id fun⟨⟨c,e,fl,fh,F,r⟩,q⟩=>⟨⟨c,e,fl,fh,F.of_heap (by rw[y]),r⟩,q⟩
theorem cW.drew{C:Ctx}{x:Sit}{ob:List (Nat×aC)}{tk:t8}{w:World}(h:cW C x ob tk w):cW C x ob tk w.drew:=h.congr rfl rfl rfl rfl
theorem cW.drawn{C:Ctx}{x:Sit}{ob:List (Nat×aC)}{tk:t8}{w:World}(h:cW C x ob tk w)(n:Nat):cW C x ob tk {w with drawn:=n}:=h.congr rfl rfl rfl rfl
def Sit.newO(x:Sit)(d b:Nat)(k:Nat:=0):Sit:= {x with bk:=fun o=>if o=d then(b,k)else x.bk o}
theorem Sit.newO_ne(x:Sit)(d b:Nat){k:Nat}(o:Nat)(h:¬(d<=o/\o<d+1)):(x.newO d b k).bk o=x.bk o:=if_neg (by omega)
theorem cW.allocO{C:Ctx}{x:Sit}{ob:List (Nat×aC)}{tk:t8}{w:World}(h:cW C x ob tk w)(d:Nat)(a3:100<=d){c:LAb}{e:TypeId}{fl fh:Nat}(obj:aC)
 (hf:∀i,i<c.size->¬(fl<=i/\i<fh)) (hs:obj.size<=c.size) (hr:∀k,k<obj.size->cj x obj k (c.getD k undef)) {K:Nat} (hK:K<=c.size) (a1:obj.arrB=true->¬(fl<=c.size/\c.size<fh)):
 cW C (x.newO d w.heap.size K) ((d,obj.purge d (d+1))::bm d (d+1) ob) (bN d (d+1) tk) (w.alloc (.cells c e (fl,fh))):=by
 have hβ:=Sit.newO_ne x d w.heap.size (k:=K)
 have W:∀off,x.G w.heap.size off=none:=by
  intro off;cases hg:x.G w.heap.size off with
  |none=>rfl
  |some v=>exact absurd (h.ltG hg) (by omega)
 have E:∀p∈bm d (d+1) ob,p.1≠d/\(x.newO d w.heap.size K).bk p.1=x.bk p.1/\(x.bk p.1).1<w.heap.size:=by intro p y;obtain⟨h1,o,I,_⟩:=co y;obtain⟨⟨c,e,fl,fh,L,_⟩,_⟩:=h.obs _ I;exact⟨by omega,hβ _ h1,L.lt⟩
 have a0:(x.newO d w.heap.size K).bk d=(w.heap.size,K):=if_pos rfl;have hd:((x.newO d w.heap.size K).bk d).1=w.heap.size:=by rw[a0]
 refine⟨?_,h.g0,h.gm,h.new, ?_, ?_, ?_, ?_, ?_, ?_,h.os,h.tape,h.output, ?_, ?_,fun i hi=>by rw[hβ i (by omega)];exact h.pin i hi,h.lay⟩
 ·intro b o v O
  rw[db (dt (h.ltG O))];exact h.per b o v O
 ·intro p y
  rcases am.1 y with rfl|y
  ·refine⟨⟨c,e,fl,fh,⟨by rw[hd];exact dw,hf⟩,⟨?_,by rw[a0];exact hK,by cases obj<;>exact a1⟩, ?_⟩, ?_, ?_⟩
   ·cases obj<;>simpa[aC.purge,aC.size,dl]using hs
   ·intro k hk
    cases obj with
    |rc cs=>simp only[aC.purge,cj,dl];rw[aU _ (by simp)];exact Rep.mono (x:=x) (x':=x.newO d w.heap.size K) (lo:=d) (hi:=d+1) (fun _ _ _ O=>O) hβ (fun _ _=>rfl) (hr k (by simpa[aC.purge,aC.size,dl]using hk))
    |arr sz xs=>exact hr k hk
    |bar l=>exact hr k hk
   ·rw[hd];exact h.new _ h.size
   ·intro off;rw[hd];exact W off
  ·obtain⟨h1,o,I,h3⟩:=co y
   obtain⟨Z,hm,hg⟩:=h.obs _ I;obtain⟨a4,z,J⟩:=E p y;refine⟨?_,by rw[z];exact hm,fun off=>by rw[z];exact hg off⟩;rw[h3];exact Z.of_heap (dt J) (fun _ _ _ O=>O) hβ (fun _ _=>rfl) h1
 ·rw[aG,dV,eD]
  refine⟨?_,h.nd.filter _⟩;simp
 ·intro p y q Q H
  rcases am.1 y with rfl|y<;>rcases am.1 Q with rfl|Q
  ·rfl
  ·obtain⟨_,z,J⟩:=E q Q
   rw[hd,z]at H;omega
  ·obtain⟨_,z,J⟩:=E p y
   rw[hd,z]at H;omega
  ·obtain⟨_,z,_⟩:=E q Q
   obtain⟨_,U,_⟩:=E p y;obtain⟨_,o,I,_⟩:=co y;obtain⟨_,o',a2,_⟩:=co Q;rw[z,U]at H;exact h.inj (_,o) I (_,o') a2 H
 ·intro t F
  obtain⟨F,_⟩:=bC.1 F;exact(h.tks t F).imp id fun⟨⟨c,e,fl,fh,L,r⟩,q⟩=>⟨⟨c,e,fl,fh,L.of_heap (dt L.lt),r⟩,q⟩
 ·intro t F p y
  obtain⟨F,_⟩:=bC.1 F;rcases am.1 y with rfl|y
  ·rcases h.tks t F with T|⟨⟨c,e,fl,fh,L,r⟩,q⟩
   ·exact .inr T
   ·refine .inl ?_
    rw[hd];have:=L.lt;show(x.τ t).1≠_;omega
  ·obtain⟨_,o,I,_⟩:=co y
   rw[(E p y).2.1];exact h.tko t F (_,o) I
 ·intro t F u hu
  exact h.tkd t (bC.1 F).1 u (bC.1 hu).1
 ·have:=h.size;rw[World.size_alloc];omega
 ·intro b hb
  rw[dt,h.ext b hb];rcases bL b w.heap.size with T|T
  ·exact T
  ·exact absurd (h.new b (pK h.size T)) hb
def Sit.newD(x:Sit)(b:Nat)(c:LAb)(n:Nat):Sit:= {x with G:=fun h o=>if h=b/\o<n then c[o]? else x.G h o}
theorem cW.newD_le{C:Ctx}{x:Sit}{ob:List (Nat×aC)}{tk:t8}{w:World}(h:cW C x ob tk w)(c:LAb)(n:Nat):
 ∀b o v,x.G b o=some v->(x.newD w.heap.size c n).G b o=some v:=by
 intro b o v y;have:=h.ltG y;simp only[Sit.newD];rw[if_neg (by omega)];exact y
theorem cW.allocD{C:Ctx}{x:Sit}{ob:List (Nat×aC)}{tk:t8}{w:World}(h:cW C x ob tk w){c:LAb}{e:TypeId}{fl fh:Nat}(n:Nat):
 cW C (x.newD w.heap.size c n) ob tk (w.alloc (.cells c e (fl,fh))):=by
 have F:=h.newD_le c n
 have y:∀b,b≠w.heap.size->∀o,(x.newD w.heap.size c n).G b o=x.G b o:=by intro b E o;simp only[Sit.newD];rw[if_neg (by rintro⟨L,_⟩;exact E L)]
 refine⟨?_,fun b o v z=>F b o v (h.g0 b o v z), ?_,h.new, ?_,h.nd,h.inj, ?_,h.tko,h.tkd,h.os,h.tape,h.output, ?_, ?_,h.pin,h.lay⟩
 ·intro b o v z
  by_cases E:b=w.heap.size
  ·subst E
   simp only[Sit.newD]at z;split at z
   ·simp only[World.cell?,dw];simpa using z
   ·exact absurd (h.ltG z) (by omega)
  ·rw[y b E]at z
   rw[db (dt (h.ltG z))];exact h.per b o v z
 ·intro b o v z
  by_cases E:b=w.heap.size
  ·right;rw[E];exact h.new _ h.size
  ·rw[y b E]at z;exact h.gm b o v z
 ·intro p Z
  obtain⟨L,W,hg⟩:=h.obs p Z;have T:(x.bk p.1).1<w.heap.size:=by obtain⟨c,e,fl,fh,H,_⟩:=L;exact H.lt
  refine⟨?_,W,fun off=>by rw[show(x.newD w.heap.size c n).bk p.1=x.bk p.1 from rfl,y _ (by omega)];exact hg off⟩;obtain⟨O,U,J,I,H,hs,hr⟩:=L;refine⟨O,U,J,I,H.of_heap (dt T),hs,fun k hk=> ?_⟩;have:=hr k hk;generalize p.2=obj at*;cases obj with
  |rc cs=>exact Rep.grow F rfl rfl this
  |arr sz xs=>exact cE.mono F this
  |bar l=>exact cE.mono F this
 ·intro t ht
  refine(h.tks t ht).imp id ?_;rintro⟨⟨O,U,J,I,H,r⟩,q,g⟩;refine⟨⟨O,U,J,I,H.of_heap (dt H.lt),r⟩,q,fun o L h2=> ?_⟩;rw[show((x.newD w.heap.size c n).τ t).1=(x.τ t).1 from rfl,y _ (by have:=H.lt;omega)];exact g o L h2
 ·have:=h.size;rw[World.size_alloc];omega
 ·intro b E
  rw[dt,h.ext b E];rcases bL b w.heap.size with Q|Q
  ·exact Q
  ·exact absurd (h.new b (pK h.size Q)) E
def Sit.newT(x:Sit)(d b lo hi:Nat):Sit:= {x with τ:=fun t=>if t=d then(b,lo,hi)else x.τ t}
theorem Sit.newT_ne(x:Sit)(d b lo hi:Nat)(o:Nat)(h:¬(d<=o/\o<d+1)):(x.newT d b lo hi).τ o=x.τ o:=if_neg (by omega)
theorem Sit.newT_eq(x:Sit)(d b lo hi:Nat):(x.newT d b lo hi).τ d=(b,lo,hi):=if_pos rfl
theorem cW.addT{C:Ctx}{x:Sit}{ob:List (Nat×aC)}{tk:t8}{w:World}(h:cW C x ob tk w)(d b lo hi:Nat)
 (U:lo=hi\/((∃c e fl fh,eQ w b c e fl fh/\hi<=c.size)/\C.mine b/\∀o,lo<=o->o<hi->x.G b o=none))
 (F:lo=hi\/∀p∈ob,p.1≠d->b≠(x.bk p.1).1) (y:lo=hi\/∀t∈tk,t≠d->kZ (b,lo,hi) (x.τ t)\/(x.τ t).2.1=(x.τ t).2.2):
 cW C (x.newT d b lo hi) (bm d (d+1) ob) (d::bN d (d+1) tk) w:=by
 have I:=Sit.newT_ne x d b lo hi;have hd:=Sit.newT_eq x d b lo hi;refine⟨h.per,h.g0,h.gm,h.new, ?_, ?_, ?_, ?_, ?_, ?_,h.os,h.tape,h.output,h.size,h.ext,h.pin,h.lay⟩
 ·intro p Q
  obtain⟨h1,o,J,h3⟩:=co Q;obtain⟨T,hm,hg⟩:=h.obs _ J;exact⟨by rw[h3];exact T.of_heap rfl (fun _ _ _ U=>U) (fun _ _=>rfl) I h1,hm,hg⟩
 ·rw[eD];exact h.nd.filter _
 ·intro p Q q hq Z
  obtain⟨_,o,J,_⟩:=co Q;obtain⟨_,o',W,_⟩:=co hq;exact h.inj (_,o) J (_,o') W Z
 ·intro t z
  rcases am.1 z with rfl|z
  ·unfold gH;rw[hd];exact U
  ·obtain⟨z,E⟩:=bC.1 z
   unfold gH;rw[I _ E];exact h.tks t z
 ·intro t z p Q
  obtain⟨h1,o,J,_⟩:=co Q;rcases am.1 z with rfl|z
  ·rw[hd]
   rcases F with F|F
   ·exact .inr F
   ·exact .inl (F (_,o) J (by show p.1≠t;omega))
  ·obtain⟨z,E⟩:=bC.1 z
   rw[I _ E];exact h.tko t z (_,o) J
 ·intro t z u hu O
  rcases am.1 z with rfl|z<;>rcases am.1 hu with rfl|hu
  ·exact absurd rfl O
  ·obtain⟨hu,E⟩:=bC.1 hu
   rw[hd,I _ E];rcases y with y|y
   ·exact .inr (.inl y)
   ·rcases y u hu (by omega)with H|H
    ·exact .inl H
    ·exact .inr (.inr H)
  ·obtain⟨z,E⟩:=bC.1 z
   rw[hd,I _ E];rcases y with y|y
   ·exact .inr (.inr y)
   ·rcases y t z (by omega)with H|H
    ·refine .inl ?_
     unfold kZ at*;exact fun e=>H e.symm
    ·exact .inr (.inl H)
  ·obtain⟨z,E⟩:=bC.1 z
   obtain⟨hu,L⟩:=bC.1 hu;rw[I _ E,I _ L];exact h.tkd t z u hu O
end Go.Sy
namespace Go.Sy
variable [ba]
def cg(w:World)(b off:Nat):LAa->World
 |[]=>w
 |v::r=>cg (w.setCell ⟨b,off,none⟩ v) b (off+1) r
theorem rG(w:World)(a:Addr)(v:Value):(w.setCell a v).os=w.os/\(w.setCell a v).tape=w.tape/\(w.setCell a v).output=w.output/\(w.setCell a v).heap.size=w.heap.size:=
 ⟨rfl,rfl,rfl,by simp⟩
theorem eX(b:Nat)(vs:LAa):∀(w:World)(off:Nat),(cg w b off vs).os=w.os/\(cg w b off vs).tape=w.tape/\(cg w b off vs).output=w.output/\
 (cg w b off vs).heap.size=w.heap.size/\(∀h,h≠b->(cg w b off vs).heap[h]? =w.heap[h]?):=by
 induction vs with
 |nil=>intro w off;exact⟨rfl,rfl,rfl,rfl,fun _ _=>rfl⟩
 |cons v r T=>intro w off;obtain⟨E,O,L,Q,J⟩:=T (w.setCell ⟨b,off,none⟩ v) (off+1);obtain⟨I,F,H,z⟩:=rG w ⟨b,off,none⟩ v;refine⟨E.trans I,O.trans F,L.trans H,Q.trans z,fun h y=> ?_⟩;rw[cg,J h y];exact Go.RowKit.Below.heap_setCell _ _ _ _ y
theorem oN(c:LAb)(i k:Nat)(v:Value)(h:i<c.size):(c.setIfInBounds i v).getD k undef=if k=i then v else c.getD k undef:=by
 simp only[bg,Array.getElem?_setIfInBounds]
 by_cases y:i=k
 ·subst y;simp[h]
 ·rw[if_neg y,if_neg (fun e=>y e.symm)]
theorem eA{b:Nat}{e:TypeId}{fl fh:Nat}(vs:LAa):∀(w:World)(off:Nat)(c:LAb),eQ w b c e fl fh->off+vs.length<=c.size->
 ∃y,eQ (cg w b off vs) b y e fl fh/\y.size=c.size/\∀k,y.getD k undef=if off<=k/\k<off+vs.length then vs.getD (k-off) undef else c.getD k undef:=by
 induction vs with
 |nil=>intro w off c h _;exact⟨c,h,rfl,fun k=>by rw[if_neg (by simp only[bl];omega)]⟩
 |cons v r L=>
  intro w off c h J;simp only[ay]at J
  have z:eQ (w.setCell ⟨b,off,none⟩ v) b (c.setIfInBounds off v) e fl fh:=by refine⟨?_,by simpa using h.2⟩;simp only[World.setCell,Array.getElem?_modify];rw[if_pos trivial,h.1];simp
  obtain⟨y,I,E,H⟩:=L _ (off+1) _ z (by simp;omega);refine⟨y,I,by simpa using E,fun k=> ?_⟩;rw[H k];simp only[ay]
  by_cases z:k=off
  ·subst z
   rw[if_neg (by omega),if_pos (by omega),oN _ _ _ _ (by omega),if_pos rfl];simp
  ·by_cases F:off+1<=k/\k<off+1+r.length
   ·rw[if_pos F,if_pos (by omega)]
    rw[show k-off=(k-(off+1))+1 from by omega];simp
   ·rw[if_neg F,if_neg (by omega),oN _ _ _ _ (by omega),if_neg z]
theorem cZ(b off n:Nat):(⟨b,off,none⟩:Addr).add n=⟨b,off+n,none⟩:=by
 unfold Addr.add;split
 ·rename_i h;subst h;rfl
 ·rfl
theorem ez{P:Program}{b:Nat}{e:TypeId}{fl fh:Nat}(off:Nat)(vs:LAa):∀(w:World)(c:LAb)(i:Nat),eQ w b c e fl fh->off+i+vs.length<=c.size->
 (∀v∈vs,v.oneCell'=true)->(storeCells ⟨b,off,none⟩ vs i).run P w= .ok () (cg w b (off+i) vs):=by
 induction vs with
 |nil=>intro w c i _ _ _;rfl
 |cons v r H=>
  intro w c i h F z;simp only[ay]at F
  have E:eQ (w.setCell ⟨b,off+i,none⟩ v) b (c.setIfInBounds (off+i) v) e fl fh:=by refine⟨?_,by simpa using h.2⟩;simp only[World.setCell,Array.getElem?_modify];rw[if_pos trivial,h.1];simp
  have y:w.cell? ⟨b,off+i,none⟩=some (c[off+i]'(by omega)):=by rw[h.cell];exact gF _
  simp only[storeCells,az,cZ,run_store P w _ v _ (z v (by simp)),y,h.free (o:=off+i) (by omega),aI,if_false,aj];rw[H _ _ (i+1) E (by simp;omega) (fun u hu=>z u (an _ hu))];rfl
theorem lU{d:Nat}{o:aC}{ob:List (Nat×aC)}(y:(ob.map cI).Nodup){p:Nat×aC}(h:p∈setO d o ob):(p=(d,o)/\d∈ob.map cI)\/(p∈ob/\p.1≠d):=by
 induction ob with
 |nil=>simp[setO]at h
 |cons q r H=>
  simp only[aG,dV]at y;simp only[setO]at h;split at h<;>rename_i E
  ·rcases am.1 h with rfl|h
   ·exact .inl ⟨rfl,by simp[E]⟩
   ·refine .inr ⟨an _ h,fun e=>y.1 ?_⟩
    rw[E,<-e];exact hC h
  ·rcases am.1 h with rfl|h
   ·exact .inr ⟨aw ..,E⟩
   ·rcases H y.2 h with⟨z,F⟩|⟨z,F⟩
    ·exact .inl ⟨z,by simp[F]⟩
    ·exact .inr ⟨an _ z,F⟩
theorem FL{d:Nat}{o:aC}(ob:List (Nat×aC)):(setO d o ob).map cI=ob.map cI:=by
 induction ob with
 |nil=>rfl
 |cons q r y=>
  simp only[setO];split<;>rename_i h
  ·simp[h]
  ·simp[y]
theorem cO{s:St}{o:Nat}{obj:aC}(h:s.look o=some obj):(o,obj)∈s.ob:=by
 unfold St.look at h;generalize s.ob=l at h;induction l with
 |nil=>simp at h
 |cons p r z=>
  rw[show p=(p.1,p.2)from rfl,List.lookup_cons]at h;split at h
  ·rename_i y
   have:o=p.1:=by simpa using y
   subst this;simp at h;subst h;simp
  ·exact an _ (z h)
theorem cW.block{C:Ctx}{x:Sit}{ob:List (Nat×aC)}{tk:t8}{w w':World}(h:cW C x ob tk w){d:Nat}{obj obj':aC}(hd:(d,obj)∈ob)
 (ho:w'.os=w.os) (I:w'.tape=w.tape) (L:w'.output=w.output) (Z:w'.heap.size=w.heap.size) (T:∀b,b≠(x.bk d).1->w'.heap[b]? =w.heap[b]?)
 (hr:dx x w' d obj'):cW C x (setO d obj' ob) tk w':=by
 obtain⟨_,J,Q⟩:=h.obs _ hd;have E:∀p∈ob,p.1≠d->(x.bk p.1).1≠(x.bk d).1:=fun p y z e=>z (h.inj p y _ hd e)
 refine⟨?_,h.g0,h.gm,h.new, ?_,by rw[FL];exact h.nd, ?_, ?_, ?_,h.tkd,ho.trans h.os,I.trans h.tape,L.trans h.output,by rw[Z];exact h.size, ?_,h.pin,h.lay⟩
 ·intro b o v hv
  have:b≠(x.bk d).1:=by rintro rfl;simp[Q]at hv
  rw[db (T b this)];exact h.per b o v hv
 ·intro p y
  rcases lU h.nd y with⟨rfl,_⟩|⟨y,z⟩
  ·exact⟨hr,J,Q⟩
  ·obtain⟨⟨c,e,fl,fh,W,r⟩,q⟩:=h.obs p y
   exact⟨⟨c,e,fl,fh,W.of_heap (T _ (E p y z)),r⟩,q⟩
 ·intro p y q U H
  rcases lU h.nd y with⟨rfl,_⟩|⟨y,z⟩<;>rcases lU h.nd U with⟨rfl,_⟩|⟨U,hqd⟩
  ·rfl
  ·exact absurd H.symm (E q U hqd)
  ·exact absurd H (E p y z)
  ·exact h.inj p y q U H
 ·intro t I
  rcases h.tks t I with h'|⟨⟨c,e,fl,fh,W,r⟩,q⟩
  ·exact .inl h'
  ·rcases h.tko t I _ hd with F|F
   ·exact .inr ⟨⟨c,e,fl,fh,W.of_heap (T _ F),r⟩,q⟩
   ·exact .inl F
 ·intro t I p y
  rcases lU h.nd y with⟨rfl,_⟩|⟨y,_⟩
  ·exact h.tko t I (d,obj) hd
  ·exact h.tko t I p y
 ·intro b O
  rw[T b (fun e=>O (e ▸ J))];exact h.ext b O
def Sit.fill(x:Sit)(b lo:Nat)(vs:LAa):Sit:= {x with G:=fun h o=>if h=b/\lo<=o/\o<lo+vs.length then some (vs.getD (o-lo) undef)else x.G h o}
theorem cW.fill{C:Ctx}{x:Sit}{ob:List (Nat×aC)}{tk:t8}{w:World}(h:cW C x ob tk w){t:Nat}(ht:t∈tk){b lo hi:Nat}(hτ:x.τ t=(b,lo,hi))
 (vs:LAa) (b5:lo+vs.length<=hi) (h0:0<vs.length):
 (∀E o v,x.G E o=some v->(x.fill b lo vs).G E o=some v)/\cW C (x.fill b lo vs) ob (bN t (t+1) tk) (cg w b lo vs)/\
 (∃c e fl fh,eQ (cg w b lo vs) b c e fl fh/\hi<=c.size)/\C.mine b/\(∀o,lo+vs.length<=o->o<hi->(x.fill b lo vs).G b o=none)/\
 (∀p∈ob,b≠(x.bk p.1).1)/\(∀u∈bN t (t+1) tk,kZ (b,lo+vs.length,hi) (x.τ u)\/(x.τ u).2.1=(x.τ u).2.2)/\(∃c e fl fh,eQ w b c e fl fh/\hi<=c.size):=by
 have J:=h.tks t ht;unfold gH at J;rw[hτ]at J;rcases J with J|⟨⟨c,e,fl,fh,hO,hc⟩,hm,hg⟩
 ·simp only at J;omega
 simp only at hc hm hg hO;obtain⟨g1,g2,g3,g4,g5⟩:=eX b vs w lo;obtain⟨U,a0,b3,b4⟩:=eA vs w lo c hO (by omega)
 have a3:∀p∈ob,b≠(x.bk p.1).1:=by
  intro p hp;have:=h.tko t ht p hp;rw[hτ]at this;rcases this with Z|Z
  ·exact Z
  ·simp only at Z;omega
 have H:∀E o v,x.G E o=some v->(x.fill b lo vs).G E o=some v:=by
  intro E o v z;simp only[Sit.fill];rw[if_neg ?_]
  ·exact z
  ·rintro⟨rfl,F,h2⟩
   rw[hg o F (by omega)]at z;cases z
 refine⟨H,⟨?_,fun b o v z=>H b o v (h.g0 b o v z), ?_,h.new, ?_,h.nd,h.inj, ?_, ?_, ?_,g1.trans h.os,g2.trans h.tape,g3.trans h.output,by rw[g4];exact h.size, ?_,h.pin,h.lay⟩,
  ⟨U,e,fl,fh,a0,by omega⟩,hm, ?_,a3, ?_,⟨c,e,fl,fh,hO,hc⟩⟩
 ·intro E o v z
  by_cases W:E=b
  ·subst W
   rw[a0.cell];simp only[Sit.fill]at z;have hk:=b4 o;split at z
   ·rename_i L
    rw[if_pos L.2]at hk;have ho:o<U.size:=by omega
    rw[gF ho];have:U.getD o undef=U[o]:=by simp[jP,ho]
    rw[<-this,hk];exact z
   ·rename_i L
    have T:=h.per _ _ _ z;rw[hO.cell]at T
    have ho:o<c.size:=by
     rcases bL o c.size with Z|Z
     ·exact Z
     ·simp[Array.getElem?_eq_none Z]at T
    rw[if_neg (by rintro⟨F,h2⟩;exact L ⟨trivial,F,h2⟩)]at hk;rw[gF (by omega)];have e1:U.getD o undef=U[o]'(by omega):=by simp[jP,show o<U.size from by omega]
    have e2:c.getD o undef=c[o]:=by simp[jP,ho]
    rw[gF ho]at T;rw[<-e1,hk,e2];exact T
  ·rw[db (g5 E W)]
   refine h.per E o v ?_;simp only[Sit.fill]at z;rwa[if_neg (by rintro⟨F,_⟩;exact W F)]at z
 ·intro E o v z
  simp only[Sit.fill]at z;split at z
  ·rename_i L;right;rw[L.1];exact hm
  ·exact h.gm E o v z
 ·intro p hp
  obtain⟨F,b2,a6⟩:=h.obs p hp;have Q:=a3 p hp;refine⟨?_,b2,fun off=> ?_⟩
  ·obtain⟨c2,e2,a2,a1,I,O,a9⟩:=F
   refine⟨c2,e2,a2,a1,I.of_heap (g5 _ (fun e=>Q e.symm)),O,fun k hk=> ?_⟩;have:=a9 k hk;generalize p.2=obj at*;cases obj with
   |rc cs=>exact Rep.grow H rfl rfl this
   |arr sz xs=>exact cE.mono H this
   |bar l=>exact cE.mono H this
  ·simp only[Sit.fill]
   rw[if_neg (by rintro⟨F,_⟩;exact Q F.symm)];exact a6 off
 ·intro u hu
  obtain⟨hu,Q⟩:=bC.1 hu;have y:=h.tkd t ht u hu (by omega);rw[hτ]at y;refine(h.tks u hu).imp id ?_;rintro⟨⟨c2,e2,a2,a1,I,O⟩,a8,a5⟩;refine⟨?_,a8,fun o F h2=> ?_⟩
  ·by_cases W:(x.τ u).1=b
   ·rw[W]at I
    have e1:=I.1.symm.trans hO.1;simp at e1;exact⟨U,e,fl,fh,by rw[show((x.fill b lo vs).τ u).1=b from W];exact a0,by rw[b3,<-e1.1];exact O⟩
   ·exact⟨c2,e2,a2,a1,I.of_heap (g5 _ W),O⟩
  ·show(x.fill b lo vs).G (x.τ u).1 o=none
   simp only[Sit.fill];rw[if_neg ?_]
   ·exact a5 o F h2
   ·rintro⟨e1,e2,e3⟩
    change (x.τ u).2.1<=o at F;change o<(x.τ u).2.2 at h2;rcases y with y|y|y
    ·exact y e1.symm
    ·simp only at y;omega
    ·omega
 ·intro u hu p hp
  exact h.tko u (bC.1 hu).1 p hp
 ·intro u hu v z a7
  exact h.tkd u (bC.1 hu).1 v (bC.1 z).1 a7
 ·intro E a4
  rw[g5 E (fun e=>a4 (e ▸ hm))];exact h.ext E a4
 ·intro o F h2
  simp only[Sit.fill];rw[if_neg (by rintro⟨_,_,h3⟩;omega)];exact hg o (by omega) h2
 ·intro u hu
  obtain⟨hu,Q⟩:=bC.1 hu;have y:=h.tkd t ht u hu (by omega);rw[hτ]at y;unfold kZ at*;simp only at*;rcases y with y|y|y
  ·left;exact y
  ·omega
  ·exact .inr y
theorem fR{lo hi:Nat}{tk:t8}{t:Nat}(h:t∈bN lo hi tk):t∈tk:=(bC.1 h).1
theorem cW.sub{C:Ctx}{x:Sit}{ob y:List (Nat×aC)}{tk tk':t8}{w:World}(h:cW C x ob tk w)(z:y.Sublist ob)(F:∀t∈tk',t∈tk):cW C x y tk' w:=
 ⟨h.per,h.g0,h.gm,h.new,fun p E=>h.obs p (z.subset E),h.nd.sublist (z.map _),fun p E q H=>h.inj p (z.subset E) q (z.subset H),fun t hu=>h.tks t (F t hu),
  fun t hu p E=>h.tko t (F t hu) p (z.subset E),fun t hu u I=>h.tkd t (F t hu) u (F u I),h.os,h.tape,h.output,h.size,h.ext,h.pin,h.lay⟩
end Go.Sy
namespace Go.Sy
variable [ba]
def zh:SV->Value->Bool
 | .bool b,.bool c=>b==c
 | .int k n,.int k' m=>decide (k=k')&&decide (n=m)
 | .u8 b,.int .u8 n=>decide (n=b.toNat)
 | .str l,.string s=>decide (s.data.toList=l)
 | .byt [] _,.slice none 0 0=>true
 | .lst _ [] _,.slice none 0 0=>true
 | .nilp,.pointer none=>true
 | .nili,.nilIface=>true
 |_,_=>false
def lC(P:Program)(e:TypeId):Bool:=match P.underlying e with|some (.int .u8)=>true|_=>false
def p7(P:Program)(t:TypeId):Option Bool:=(P.underlying t).map fun| .struct _| .array _ _=>true|_=>false
def fi(P:Program)(t:TypeId):t9:=(P.info? t).map (·.size)
def sB(P:Program)(t:TypeId):t9:=(P.info? t).map (·.bytes)
def cvT(P:Program)(t:TypeId):Value->Option SV
 | .bool b=>some (.bool b)
 | .int .u8 n=>some (.u8 (ed n.toNat))
 | .int k n=>some (.int k n)
 | .string s=>some (.str s.data.toList)
 | .pointer none=>some .nilp
 | .nilIface=>some .nili
 | .slice none 0 0=>match P.underlying t with
  |some (.slice e)=>some (if lC P e then .byt [] .clip else .lst (P.cellsOf e) [] .clip)
  |_=>none
 |_=>none
def bp(P:Program)(t:TypeId):Operand->Option Arg
 | .tmp n=>some (.t n)
 | .const v=>(cvT P t v).bind fun sv=>if zh sv v then some (.c sv)else none
 | .func f=>some (.f f)
 | .global g=>(ba.cells g).map fun cs=> .c (.pp cs)
def mm(P:Program):Nat->TypeId->List TypeId
 |0,_=> []
 |d+1,t=>match P.underlying t with
  |some (.struct fs)=>fs.toList.flatMap fun f=>mm P d f.type
  |some (.array n e)=>(ao n (mm P d e)).flatten
  |_=> [t]
def Dx(P:Program):List TypeId->LAa->Option t7
 |[],[]=>some []
 |t::ts,v::vs=>match cvT P t v,Dx P ts vs with
  |some s,some r=>some (s::r)
  |_,_=>none
 |_,_=>none
def fN(P:Program)(t:TypeId):Option LAa:=(P.info? t).bind fun i=>i.zero.map fun z=>z.cells.toList
def DW(cs:t7)(vs:LAa):Bool:=decide (cs.length=vs.length)&&(bU cs.length).all fun i=>zh (cs.getD i .undef) (vs.getD i undef)
def lM(P:Program)(t:TypeId):Option t7:=(fN P t).bind fun vs=>(Dx P (mm P 30 t) vs).bind fun cs=>if DW cs vs then some cs else none
def wY(P:Program)(t:TypeId):Option t7:=(lM P t).map (List.map SV.data)
def Ge(P:Program)(t:TypeId):Option aC:=
 match P.underlying t with
 |some (.array n e)=>if lC P e then some (.bar (ao n 0))else match P.underlying e with
  |some (.slice _)=>(lM P e).map fun z=> .rc (ao n z).flatten
  |_=>(lM P e).map fun z=> .arr z.length (ao n z)
 |_=>(lM P t).map .rc
def XV(o:aC)(vs:LAa):Bool:=decide (o.size<=vs.length)&&(bU o.size).all fun k=>zh (o.cell k) (vs.getD k undef)
def ji{α β:Type}(f:α->Option β):List α->Option (List β)
 |[]=>some []
 |a::r=>match f a,ji f r with
  |some b,some s=>some (b::s)
  |_,_=>none
def uy{α β:Type}(f:α->Option β):Option α->Option (Option β)
 |none=>some none
 |some a=>(f a).map some
def vv(P:Program)(t:TypeId):t9:=
 match P.underlying t with
 |some .bool=>some 0
 |some (.int _)=>some 1
 |some .string=>some 2
 |_=>none
def ww(P:Program):Nat->List Field->Option t8
 |_,[]=>some []
 |k,f::r=>if f.name≠ "_" /\f.offset=k then(match vv P f.type,ww P (k+1) r with
  |some t,some ts=>some (t::ts)
  |_,_=>none)else none
def xfH(P:Program)(f:FuncId):Bool:=
 match P.funcs[f]? with
 |some fn=>fn.body.isNone&& !(fn.name== "runtime.NumGoroutine")&&(Extern.findNext fn).isNone&&decide (fn.origin= "slices.overlaps")&&
  (Extern.allGenericRows.lookup fn.name).isNone&&(Extern.allTypedRows.lookup fn.name).isNone&&(Extern.allRows.lookup fn.name).isNone&&
  (match fn.params[0]? with|some t=>(match P.underlying t with|some (.slice e)=>(fi P e).isSome|_=>false)|none=>false)
 |none=>false
def z0:t7->Bool
 |[.u8 b]=>b==0
 |_=>false
def bq(P:Program)(o:Oper):Option SOp:=
 match o.op with
 | .move x=>(bp P o.type x).map .mov
 | .assign x=>(bp P o.type x).map .mov
 | .pick c a b=>match bp P 0 c,bp P o.type a,bp P o.type b with
  |some c,some a,some b=>some (.pick c a b)
  |_,_,_=>none
 | .alloc e=>match Ge P e,fN P e with
  |some o,some z=>if XV o z then some (.new o)else none
  |_,_=>none
 | .box e x=>(bp P e x).map .box
 | .build t h=>match P.underlying t,lM P t with
  |some (.struct fs),some z=>
   if fs.toList.all fun f=>(P.info? f.type).isSome then
    (ji (fun p=>match fs[p.1]? with
     |some f=>match fi P f.type,bp P f.type p.2 with
      |some n,some a=>some (f.offset,n,a)
      |_,_=>none
     |none=>none) h.toList).map (.build z)
   else none
  |some (.array _ e),some z=>match fi P e with
   |some n=>(ji (fun p=>(bp P e p.2).map fun a=>(p.1*n,n,a)) h.toList).map (.build z)
   |none=>none
  |_,_=>none
 | .buildSlice t len h=>match P.underlying t with
  |some (.slice e)=>match fi P e,fN P e with
   |some n,some _=>
    if decide (h.toList.map (·.1)=bU len)&&decide (len*n<=16777216)&&(!lC P e||decide (n=1))then
     (ji (fun p=>bp P e p.2) h.toList).map fun I=>if lC P e then .litB I else .lit n I
    else none
   |_,_=>none
  |_=>none
 | .load t a=>match fi P t,p7 P t,bp P 0 a with
  |some n,some ag,some a=>if ag||n==1 then some (.load n ag a)else none
  |_,_,_=>none
 | .store t a x=>match fi P t,bp P 0 a,bp P t x with
  |some n,some a,some x=>some (.store n a x)
  |_,_,_=>none
 | .nilCheck x=>(bp P o.type x).map .nchk
 | .binOp op H x y L=>match P.underlying H,bp P H x,bp P L y with
  |some .bool,some x,some y=>match op with
   | .eql=>some (.beq false x y)
   | .neq=>some (.beq true x y)
   |_=>none
  |some (.int _),some x,some y=>some (.bin op x y)
  |some .string,some x,some y=>some (.bin op x y)
  |some (.struct fs),some x,some y=>
   match ww P 0 fs.toList with
   |
    some J=>if !P.stoodInHeld H&& !P.eqGuardType P.depth H then
    (match op with
    | .eql=>some (.eqS false J x y)
    | .neq=>some (.eqS true J x y)
    |_=>none)
    else none
   |none=>none
  |some (.slice _),some x,some _=>match op,y with
   | .eql,.const (.slice none 0 0)=>some (.isnil false x)
   | .neq,.const (.slice none 0 0)=>some (.isnil true x)
   |_,_=>none
  |some (.interface _),some x,some _=>match op,y with
   | .eql,.const .nilIface=>some (.isni false x)
   | .neq,.const .nilIface=>some (.isni true x)
   |_,_=>none
  |_,_,_=>none
 | .unOp op t x=>(bp P t x).map (.un op)
 | .convert E dst x=>match P.underlying E,P.underlying dst,bp P E x with
  |some (.int _),some (.int k),some x=>some (.toInt k x)
  |some .string,some .string,some x=>some (.toStr x)
  |some (.slice e),some .string,some x=>if lC P e then some (.b2s x)else none
  |some .string,some (.slice e),some x=>if lC P e then some (.s2b x)else none
  |some (.slice _),some (.slice e),some x=>if decide (E=dst)&&lC P e then some (.slid x)else none
  |_,_,_=>none
 | .makeFunc (.func f) first cap=>match ji (bp P 0) first.toList,ji (bp P 0) cap.toList with
  |some a,some b=>some (.mkfn f a b)
  |_,_=>none
 | .makeSlice t l c=>match P.underlying t with
  |some (.slice e)=>match fi P e,sB P e,wY P e,bp P 0 l,bp P 0 c with
   |some n,some by_,some z,some l,some c=>if lC P e then(if n=1/\by_=1/\z0 z=true then some (.mkB l c)else none)else(if z.length=n/\n≠0 then some (.mk z by_ l c)else none)
   |_,_,_,_,_=>none
  |_=>none
 | .slice t x lo hi F=>match uy (bp P 0) lo,uy (bp P 0) hi,uy (bp P 0) F,bp P t x with
  |some lo,some hi,some F,some x=>if F.isSome&&hi.isNone then none else match P.underlying t with
   |some .string=>if F.isNone then some (.slcS x lo hi)else none
   |some (.slice e)=>match fi P e with
    |some n=>some (.slcL n x lo hi F)
    |none=>none
   |some (.array k e)=>match fi P e with
    |some n=>some (.slcA k n x lo hi F)
    |none=>none
   |_=>none
  |_,_,_,_=>none
 | .fieldAddr t x i=>match P.underlying t,bp P 0 x with
  |some (.struct fs),some x=>match fs[i]? with
   |some f=>match fi P f.type with
    |some n=>if n=0 then none else some (.faddr f.offset x)
    |none=>none
   |none=>none
  |_,_=>none
 | .field t x i=>match P.underlying t,bp P t x with
  |some (.struct fs),some x=>match fs[i]? with
   |some f=>match fi P f.type,p7 P f.type with
    |some n,some ag=>if ag||n==1 then some (.fld f.offset n ag x)else none
    |_,_=>none
   |none=>none
  |_,_=>none
 | .indexAddr t x i=>match P.underlying t,bp P t x,bp P 0 i with
  |some (.slice e),some x,some i=>match fi P e with
   |some n=>some (.iaddrL n x i)
   |none=>none
  |some (.array k e),some x,some i=>match fi P e with
   |some n=>some (.iaddrA k n x i)
   |none=>none
  |_,_,_=>none
 | .index t x i=>match P.underlying t,bp P t x,bp P 0 i with
  |some (.array k e),some x,some i=>match fi P e,p7 P e with
   |some n,some ag=>if ag||n==1 then some (.idxA k n ag x i)else none
   |_,_=>none
  |some .string,some x,some i=>some (.idxS x i)
  |_,_,_=>none
 | .extract x i=>(bp P 0 x).map (.ext · i)
 | .call c=>match c.callee with
  | .value f=>match bp P 0 f,ji (fun p=>bp P p.2 p.1) (c.args.toList.zip c.argTypes.toList)with
   |some f,some a_=>if c.args.size=c.argTypes.size then(match f,a_ with
    | .f g,[x,y]=>if xfH P g then some (.ovl x y)else some (.call (.f g) [x,y])
    |f,a_=>some (.call f a_))else none
   |_,_=>none
  | .builtin .len=>match c.args.toList,c.argTypes.toList with
   |[x],[t]=>match P.underlying t,bp P t x with
    |some .string,some x=>some (.len true x)
    |some (.slice _),some x=>some (.len false x)
    |some (.array n _),some _=>some (.lenC n)
    |some (.pointer arr),some _=>match P.underlying arr with
     |some (.array n _)=>some (.lenC n)
     |_=>none
    |_,_=>none
   |_,_=>none
  | .builtin .cap=>match c.args.toList,c.argTypes.toList with
   |[x],[t]=>match P.underlying t,bp P t x with
    |some (.slice _),some x=>some (.cap x)
    |_,_=>none
   |_,_=>none
  | .builtin .append=>match c.args.toList,c.argTypes.toList with
   |[x,y],[t,u]=>match P.underlying t,P.underlying u,bp P t x,bp P u y with
    |some (.slice e),some d,some x,some y=>match fi P e,sB P e,lM P e with
     |some n,some b,some z=>if decide (b≠0)&&decide (n≠0)&&decide (z.length=n)then(match d with
      | .slice _=>some (.app z b x y)
      | .string=>if lC P e then some (.app z b x y)else none
      | .int _=>some (.appM z b x y)
      |_=>none)else none
     |_,_,_=>none
    |_,_,_,_=>none
   |_,_=>none
  | .builtin .clear=>match c.args.toList,c.argTypes.toList with
   |[x],[t]=>match P.underlying t,bp P t x with
    |some (.slice e),some x=>match wY P e with
     |some z=>some (.clr z x)
     |none=>none
    |_,_=>none
   |_,_=>none
  | .builtin .copy=>match c.args.toList,c.argTypes.toList with
   |[x,y],[t,u]=>match P.underlying t,bp P t x,bp P u y with
    |some (.slice e),some x,some y=>match fi P e with
     |some n=>some (.cpy n x y)
     |none=>none
    |_,_,_=>none
   |_,_=>none
  | .builtin .min=>match c.args.toList,c.argTypes.toList with
   |[x,y],[t,u]=>match bp P t x,bp P u y with
    |some x,some y=>some (.mini x y)
    |_,_=>none
   |_,_=>none
  | .builtin .max=>match c.args.toList,c.argTypes.toList with
   |[x,y],[t,u]=>match bp P t x,bp P u y with
    |some x,some y=>some (.maxi x y)
    |_,_=>none
   |_,_=>none
  |_=>none
 |_=>none
def Z6(ops:Array Oper)(d:Nat):Bool:=ops.any fun o=>match o.op with
 | .convert src dst (.tmp k)=>decide (src=dst)&&k==d
 |_=>false
def nH(ops:Array Oper)(d:t9)(so:SOp):SOp:=
 match so,d with
 | .litB xs,some d=>if Z6 ops d then .newB xs else .litB xs
 |so,_=>so
theorem Db(ops:Array Oper)(d:t9)(so:SOp):nH ops d so=so\/∃h,so= .litB h/\nH ops d so= .newB h:=by
 unfold nH;split
 ·split
  ·exact .inr ⟨_,rfl,rfl⟩
  ·exact .inl rfl
 ·exact .inl rfl
def fQ(P:Program)(ops:Array Oper)(o:Oper):Option SI:=
 match bq P o,o.guard with
 |some so,none=>some ⟨o.dst,none,nH ops o.dst so⟩
 |some so,some (j,b)=>match (ops[j]?).bind (·.dst)with
  |some g=>some ⟨o.dst,some (g,b),nH ops o.dst so⟩
  |none=>none
 |none,_=>none
def xft:SOp->Bool
 | .new _| .box _| .mk _ _ _ _| .mkB _ _| .app _ _ _ _| .newB _=>true
 |_=>false
def xiu(l:LAc):t8:=l.filterMap fun i=>if xft i.op then some (i.dst.getD 0+100)else none
def Arg.tmps:Arg->t8
 | .t n=> [n]
 |_=> []
def SI.reads(i:SI):t8:=(i.op.args.flatMap Arg.tmps)++(match i.g with|some (g,_)=> [g]|none=> [])
def OL(b:t8)(l:LAc):Bool:=
 (bU l.length).all fun j=>(bU l.length).all fun i=>i==j||
  (match (l.getD i ⟨none,none,.lenC 0⟩).dst with
   |some d=> !((l.getD j ⟨none,none,.lenC 0⟩).reads.contains d)||(b.getD (max i j) 0).testBit (min i j)
   |none=>true)
def pI(ops:Array Oper)(b:t8):Bool:=
 ops.toList.zipIdx.all fun(o,i)=>(o.after.all fun e=> !Region.binds .any e||decide (e.on<i))&&
  (bU ops.size).all fun k=> !(b.getD i 0).testBit k||(decide (k<i)&&o.after.any fun e=>Region.binds .any e&&(e.on==k||(b.getD e.on 0).testBit k))
def drawn(ops:Array Oper)(l:LAc):Bool:=
 let b:=(Region.before ops).toList
 pI ops b&&OL b l&&decide (l.filterMap (·.dst)).Nodup
def aX(P:Program):Code->Option fU
 | .skip=>some .skip
 | .region _ ops h=>match ji (fQ P ops) ops.toList with
  |some l=>
   if h then(if drawn ops l&&P.follows .mixedOrders then some (.drw (Region.before ops).toList (xiu l) l)else none)
   else some (.ops l)
  |none=>none
 | .seq a b=>match aX P a,aX P b with
  |some a,some b=>some (.seq a b)
  |_,_=>none
 | .cond c a b=>match bp P 0 c,aX P a,aX P b with
  |some c,some a,some b=>some (.cond c a b)
  |_,_,_=>none
 | .block id b=>(aX P b).map (.block id)
 | .loop b=>(aX P b).map .loop
 | .exit id=>some (.exit id)
 | .ret=>some .ret
 |_=>none
def ct(P:Program):Code->fU
 | .skip=> .skip
 | .exit id=> .exit id
 | .ret=> .ret
 | .seq a b=> .seq (ct P a) (ct P b)
 | .cond c a b=>match bp P 0 c with
  |some k=> .cond k (ct P a) (ct P b)
  |none=> .bad
 | .block id b=> .block id (ct P b)
 | .loop b=> .loop (ct P b)
 | .region id ops h=>match aX P (.region id ops h)with
  |some s=>s
  |none=> .bad
 |_=> .bad
end Go.Sy
namespace Go.Sy
variable [ba]
variable {P : Program} {C : Ctx} {x : Sit} {s : St} {a : Act} {w : World}
theorem lO{G:GM}{c:SV}{v:Value}(h:zh c v=true):cE G c v:=by
 unfold zh at h;split at h
 ·simp at h;subst h;exact .bool _
 ·simp at h;obtain⟨rfl,rfl⟩:=h;exact .int _ _
 ·simp at h;subst h;exact .u8 _
 ·rename_i l s
  simp at h;obtain⟨⟨d⟩⟩:=s;simp at h;subst h;exact .str _
 ·exact .bytN _
 ·exact .lstN _ _
 ·exact .nilp
 ·exact .nili
 ·cases h
theorem En{x:Sit}{c:SV}{v:Value}(h:zh c v=true):Nk x c v:=by
 unfold zh at h;split at h
 all_goals first
  |trivial
  |(
   rename_i t;cases t with
   |no=>trivial
   |clip=>exact⟨none,0,rfl⟩
   |id t=>exact⟨none,0,0,rfl,.inl rfl⟩)
  |(cases h;done)
theorem pf{x:Sit}{c:SV}{v:Value}(h:zh c v=true):Rep x c v:= .dat _ _ (lO h) (En h)
theorem cy.get{cs:t7}{vs:LAa}(h:cy x cs vs)(i:Nat):Rep x (cs.getD i .undef) (vs.getD i undef):=by
 rcases bL i cs.length with hi|hi
 ·exact h.2 i hi
 ·rw[aa,jY hi];exact .undef _
theorem cy.set{cs:t7}{vs:LAa}(h:cy x cs vs)(d:Nat){c:SV}{v:Value}(y:Rep x c v):cy x (cs.set d c) (vs.set d v):=by
 refine⟨by simpa using h.1,fun i hi=> ?_⟩;simp only[dh]at hi;simp only[aa,eS]
 by_cases hd:d=i
 ·subst hd
  rw[if_pos rfl,if_pos hi,if_pos rfl,if_pos (by rw[<-h.1];exact hi)];exact y
 ·rw[if_neg hd,if_neg hd]
  have:=h.get i;simpa only[aa]using this
theorem aM.slot(h:aM C x s a w)(n:Nat):Rep x (s.get n) (a.tmps.getD n undef):=by have:=h.tm.get n;simpa[St.get,bg]using this
theorem aM.put(h:aM C x s a w)(d:t9){c:SV}{v:Value}(y:Rep x c v):aM C x (s.put d c) (a.put d v) w:=by
 cases d with
 |none=>exact h
 |some d=>refine⟨?_,h.defers,h.heap⟩;have:=h.tm.set d y;simpa[St.put,Act.put]using this
theorem aJ{t:TypeId}{o:Operand}{r:Arg}(h:aM C x s a w)(y:bp P t o=some r):Rep x (s.ev r) (a.eval o):=by
 cases o with
 |tmp n=>simp only[bp]at y;cases y;exact h.slot n
 |const v=>
  simp only[bp]at y;cases hc:cvT P t v with
  |none=>simp[hc]at y
  |some sv=>
   simp only[hc,cP]at y;split at y
   ·cases y;rename_i I;exact pf I
   ·cases y
 |func f=>simp only[bp]at y;cases y;exact .fn f [] [] [] [] rfl (fun i hi=>by simp at hi) rfl (fun i hi=>by simp at hi)
 |global g=>
  simp only[bp]at y;obtain⟨cs,E,rfl⟩:=ah.1 y;have H:=(h.heap.lay.mono h.heap.g0) g cs E;refine .dat _ _ (.pp cs g 0 (fun j=>(x.G g j).getD undef) (fun j z=> ?_) (fun j z=> ?_)) trivial
  ·obtain⟨v,F,_⟩:=H j z
   rw[cf,F];rfl
  ·obtain⟨v,F,y⟩:=H j z
   rw[F];exact y
def b9(P:Program)(C:Ctx)(o:Oper)(a:Act)(w:World)(s':St):Prop:=
 ∃u w' x' n,(execOp a.eval o).run P w= .ok n w'/\(n= .value u\/(n= .skip/\u=undef))/\aM C x' s' (a.put o.dst u) w'
theorem b9.val{o:Oper}{m:Sem Value}{u:Value}{c:SV}(h:aM C x s a w)(E:execOp a.eval o=(do pure (.value (<-m))))(z:m.run P w= .ok u w)(y:Rep x c u):
 b9 P C o a w (s.put o.dst c):=
 ⟨u,w,x,.value u,by rw[E];simp[z],.inl rfl,h.put o.dst y⟩
theorem b9.grow{o:Oper}{m:Sem Value}{u:Value}{c:SV}{x':Sit}{w':World}(h:aM C x s a w)(J:execOp a.eval o=(do pure (.value (<-m))))(F:m.run P w= .ok u w')
 (I:∀b o v,x.G b o=some v->x'.G b o=some v) (E:x'.bk=x.bk) (z:x'.τ=x.τ) (H:cW C x' s.ob s.tk w') (y:Rep x' c u):
 b9 P C o a w (s.put o.dst c):=
 ⟨u,w',x',.value u,by rw[J];simp[F],.inl rfl,aM.put ⟨h.tm.grow I E z,h.defers,H⟩ o.dst y⟩
theorem Rep.int_inv{k:IntKind}{n:Int}{v:Value}(h:Rep x (.int k n) v):v= .int k n:=by
 cases h with|dat _ _ h _=>cases h;rfl
theorem Rep.bool_inv{b:Bool}{v:Value}(h:Rep x (.bool b) v):v= .bool b:=by
 cases h with|dat _ _ h _=>cases h;rfl
theorem Rep.u8_inv{b:UInt8}{v:Value}(h:Rep x (.u8 b) v):v= .int .u8 b.toNat:=by
 cases h with|dat _ _ h _=>cases h;rfl
theorem Rep.str_inv{l:t6}{v:Value}(h:Rep x (.str l) v):v= .string ⟨⟨l⟩⟩:=by
 cases h with|dat _ _ h _=>cases h;rfl
theorem Rep.ptr_inv{o off:Nat}{v:Value}(h:Rep x (.ptr o off) v):v= .pointer (some ⟨(x.bk o).1,off,none⟩):=by
 cases h with
 |dat _ _ h _=>cases h
 |ptr=>rfl
theorem Rep.ap_inv{o y i j:Nat}{v:Value}(h:Rep x (.ap o y i j) v):v= .pointer (some ⟨(x.bk o).1,i*y+j,none⟩):=by
 cases h with
 |dat _ _ h _=>cases h
 |ap=>rfl
theorem Rep.psl_inv{o E off n:Nat}{cap:t9}{v:Value}(h:Rep x (.psl o E off n cap) v):∃y,n<=y/\(∀c,cap=some c->c=y)/\∃z,v= .slice (some ⟨(x.bk o).1,z,none⟩) n y/\(y=0\/z=off*E):=by
 cases h with
 |dat _ _ h _=>cases h
 |psl _ _ _ _ _ z y h hn F _=>exact⟨y,hn,F,z,rfl,h⟩
theorem Rep.psl_invA{o E off n:Nat}{cap:t9}{v:Value}(h:Rep x (.psl o E off n cap) v):∃y,n<=y/\(∀c,cap=some c->c=y)/\∃z,v= .slice (some ⟨(x.bk o).1,z,none⟩) n y/\(y=0\/z=off*E)/\(cap=none->y=0\/z+y*E<=(x.bk o).2):=by
 cases h with
 |dat _ _ h _=>cases h
 |psl _ _ _ _ _ z y h hn F H=>exact⟨y,hn,F,z,rfl,h,H⟩
theorem Rep.psl_invK{o E off n:Nat}{v:Value}(h:Rep x (.psl o E off n none) v):∃y,n<=y/\∃z,v= .slice (some ⟨(x.bk o).1,z,none⟩) n y/\(y=0\/z=off*E)/\(y=0\/z+y*E<=(x.bk o).2):=by
 cases h with
 |dat _ _ h _=>cases h
 |psl _ _ _ _ _ z y h hn H F=>exact⟨y,hn,z,rfl,h,F rfl⟩
theorem Rep.agg_inv{cs:t7}{v:Value}(h:Rep x (.agg cs) v):∃vs,v= .agg ⟨vs⟩/\cy x cs vs:=by
 cases h with
 |dat _ _ h _=>cases h
 |agg _ vs y h=>exact⟨vs,rfl,y,h⟩
theorem Rep.tup_inv{cs:t7}{v:Value}(h:Rep x (.tup cs) v):∃vs,v= .tuple ⟨vs⟩/\cy x cs vs:=by
 cases h with
 |dat _ _ h _=>cases h
 |tup _ vs y h=>exact⟨vs,rfl,y,h⟩
theorem Rep.fn_inv{f:Nat}{c1 c2:t7}{v:Value}(h:Rep x (.fn f c1 c2) v):∃v1 y,v= .func (.func f) ⟨v1⟩ ⟨y⟩/\cy x c1 v1/\cy x c2 y:=by
 cases h with
 |dat _ _ h _=>cases h
 |fn _ _ _ v1 y z F E H=>exact⟨v1,y,rfl,⟨z,F⟩,⟨E,H⟩⟩
theorem Rep.pp_inv{cs:t7}{v:Value}(h:Rep x (.pp cs) v):∃(b off:Nat)(val:Nat->Value),v= .pointer (some ⟨b,off,none⟩)/\(∀j,j<cs.length->x.G b (off+j)=some (val j))/\∀j,j<cs.length->cE x.G (cs.getD j .undef) (val j):=by
 cases h with
 |dat _ _ h _=>cases h with|pp _ b off val y h=>exact⟨b,off,val,rfl,y,h⟩
theorem Rep.nilp_inv{v:Value}(h:Rep x .nilp v):v= .pointer none:=by
 cases h with|dat _ _ h _=>cases h;rfl
theorem Rep.nili_inv{v:Value}(h:Rep x .nili v):v= .nilIface:=by
 cases h with|dat _ _ h _=>cases h;rfl
theorem Rep.byt_inv{l:t6}{t:Tok}{v:Value}(h:Rep x (.byt l t) v):∃b cap,v= .slice b l.length cap/\l.length<=cap/\cE x.G (.byt l t) v/\de x 1 t v:=by
 cases h with
 |dat _ _ h y=>
  cases h with
  |bytN=>exact⟨none,0,rfl,by simp,.bytN _,y⟩
  |bytE _ a=>exact⟨some a,0,rfl,by simp,.bytE _ a,y⟩
  |byt _ _ b off cap n hn z h=>subst hn;exact⟨_,cap,rfl,z,.byt _ _ b off cap _ rfl z h,y⟩
theorem Rep.lst_inv{z:Nat}{y:f8}{t:Tok}{v:Value}(h:Rep x (.lst z y t) v):∃b cap,v= .slice b y.length cap/\y.length<=cap/\cE x.G (.lst z y t) v/\de x z t v:=by
 cases h with
 |dat _ _ h E=>
  cases h with
  |lstN=>exact⟨none,0,rfl,by simp,.lstN _ _,E⟩
  |lstE _ _ a=>exact⟨some a,0,rfl,by simp,.lstE _ _ a,E⟩
  |lst _ _ _ b off cap n val hn F H I h=>subst hn;exact⟨_,cap,rfl,F,.lst _ _ _ b off cap _ val rfl F H I h,E⟩
theorem cJ(k:IntKind)(n:Int):Rep x (.int k n) (.int k n):= .dat _ _ (.int k n) trivial
theorem dv(b:Bool):Rep x (.bool b) (.bool b):= .dat _ _ (.bool b) trivial
theorem nE(b:UInt8):Rep x (.u8 b) (.int .u8 b.toNat):= .dat _ _ (.u8 b) trivial
theorem kO(l:t6):Rep x (.str l) (.string ⟨⟨l⟩⟩):= .dat _ _ (.str l) trivial
theorem EN{op:BinOp}{t:TypeId}{k:IntKind}{m n:Int}{p:Prop}{c:SV}(h:P4 op k m n=some (p,c))(y:p):
 ∃r,(binOp op t (.int k m) (.int k n)).run P w= .ok r w/\Rep x c r:=by
 cases op<;>simp only[P4,N4,bo,aq.injEq,bi.injEq,reduceCtorEq]at h<;>obtain⟨rfl,rfl⟩:=h
 ·exact⟨.int k (k.wrap (m+n)),by simp[binOp,Op.intArith],cJ _ _⟩
 ·exact⟨.int k (k.wrap (m-n)),by simp[binOp,Op.intArith],cJ _ _⟩
 ·exact⟨.int k (k.wrap (m*n)),by simp[binOp,Op.intArith],cJ _ _⟩
 ·exact⟨.int k (k.wrap (m.tdiv n)),by simp[binOp,Op.intDiv,y],cJ _ _⟩
 ·exact⟨.int k (m.tmod n),by simp[binOp,Op.intDiv,y],cJ _ _⟩
 ·exact⟨.int k (bt .and k m n),by simp[binOp,Op.intBits,bt],cJ _ _⟩
 ·exact⟨.int k (bt .or k m n),by simp[binOp,Op.intBits,bt],cJ _ _⟩
 ·exact⟨.int k (bt .xor k m n),by simp[binOp,Op.intBits,bt],cJ _ _⟩
 ·exact⟨.int k (bt .andNot k m n),by simp[binOp,Op.intBits,bt],cJ _ _⟩
 ·exact⟨.bool (decide (m=n)),by simp[binOp,pJ];rw[eL];simp,dv _⟩
 ·exact⟨.bool (decide (m≠n)),by simp[binOp,pJ];rw[eL];simp,dv _⟩
 ·exact⟨.bool (decide (m<n)),by simp[binOp,pJ],dv _⟩
 ·exact⟨.bool (decide (m<=n)),by simp[binOp,pJ],dv _⟩
 ·exact⟨.bool (decide (m>n)),by simp[binOp,pJ],dv _⟩
 ·exact⟨.bool (decide (m≥n)),by simp[binOp,pJ],dv _⟩
theorem fI(n:Int):fx.wrap n=n % 256:=by simp[IntKind.wrap,IntKind.bits,IntKind.signed]
theorem tP(n:Int):((dj n).toNat:Int)=n % 256:=by rw[dj,<-UInt8.toNat_toBitVec];simp;omega
theorem lc(b:UInt8):b.toNat<256:=b.toNat_lt
theorem CJ{op:BinOp}{t:TypeId}{a b:UInt8}{p:Prop}{c:SV}(h:Dy op a b=some (p,c))(E:p):
 ∃r,(binOp op t (.int .u8 a.toNat) (.int .u8 b.toNat)).run P w= .ok r w/\Rep x c r:=by
 have H:=lc a;have F:=lc b;have R:∀(r:UInt8)(v:Value),v= .int .u8 r.toNat->Rep x (.u8 r) v:=fun r v e=>e ▸ nE r
 have B:∀(r:Bool)(v:Value),v= .bool r->Rep x (.bool r) v:=fun r v e=>e ▸ dv r
 cases op<;>simp only[Dy,aq.injEq,bi.injEq,reduceCtorEq]at h<;>obtain⟨rfl,rfl⟩:=h
 ·exact⟨.int .u8 (fx.wrap (a.toNat+b.toNat)),by simp[binOp,Op.intArith],R _ _ (by rw[fI,UInt8.toNat_add];simp)⟩
 ·refine⟨.int .u8 (fx.wrap (a.toNat-b.toNat)),by simp[binOp,Op.intArith],R _ _ (by rw[fI,UInt8.toNat_sub];congr 1;omega)⟩
 ·exact⟨.int .u8 (fx.wrap (a.toNat*b.toNat)),by simp[binOp,Op.intArith],R _ _ (by rw[fI,UInt8.toNat_mul];simp)⟩
 ·have hb0:¬((b.toNat:Int)=0):=by intro e;exact E (UInt8.toNat_inj.1 (by simpa using e))
  refine⟨.int .u8 (fx.wrap ((a.toNat:Int).tdiv b.toNat)), ?_,R _ _ ?_⟩
  ·simp only[binOp,Op.intDiv];rw[if_neg (fun e=>e rfl),if_neg hb0];rfl
  rw[fI,UInt8.toNat_div,Int.tdiv_eq_ediv_of_nonneg (by omega)];have:=Nat.div_le_self a.toNat b.toNat;rw[<-Int.natCast_ediv];simp only[Value.int.injEq,true_and];generalize a.toNat/b.toNat=q at*;omega
 ·have hb0:¬((b.toNat:Int)=0):=by intro e;exact E (UInt8.toNat_inj.1 (by simpa using e))
  refine⟨.int .u8 ((a.toNat:Int).tmod b.toNat), ?_,R _ _ ?_⟩
  ·simp only[binOp,Op.intDiv];rw[if_neg (fun e=>e rfl),if_neg hb0];rfl
  rw[UInt8.toNat_mod,Int.tmod_eq_emod_of_nonneg (by omega)];simp
 all_goals have y:BitVec.ofInt fx.bits (a.toNat:Int)=a.toBitVec:=by rw[BitVec.ofInt_natCast];exact BitVec.ofNat_toNat _ _
 all_goals have z:BitVec.ofInt fx.bits (b.toNat:Int)=b.toBitVec:=by rw[BitVec.ofInt_natCast];exact BitVec.ofNat_toNat _ _
 ·refine⟨.int .u8 (bt .and .u8 a.toNat b.toNat),by simp[binOp,Op.intBits,bt],R _ _ ?_⟩
  have:=lc (a&&&b);simp only[bt];rw[y,z,fI];change Value.int .u8 ((((a&&&b).toNat:Nat):Int) % 256)=_
  congr 1;omega
 ·refine⟨.int .u8 (bt .or .u8 a.toNat b.toNat),by simp[binOp,Op.intBits,bt],R _ _ ?_⟩
  have:=lc (a|||b);simp only[bt];rw[y,z,fI];change Value.int .u8 ((((a|||b).toNat:Nat):Int) % 256)=_
  congr 1;omega
 ·refine⟨.int .u8 (bt .xor .u8 a.toNat b.toNat),by simp[binOp,Op.intBits,bt],R _ _ ?_⟩
  have:=lc (a^^^b);simp only[bt];rw[y,z,fI];change Value.int .u8 ((((a^^^b).toNat:Nat):Int) % 256)=_
  congr 1;omega
 ·refine⟨.int .u8 (bt .andNot .u8 a.toNat b.toNat),by simp[binOp,Op.intBits,bt],R _ _ ?_⟩
  have:=lc (a&&& ~~~b);simp only[bt];rw[y,z,fI];change Value.int .u8 ((((a&&& ~~~b).toNat:Nat):Int) % 256)=_
  congr 1;omega
 all_goals clear y z
 ·exact⟨.bool ((a.toNat:Int)==b.toNat),by simp[binOp,pJ],B _ _ (by congr 1;rw[eL];simp[<-UInt8.toNat_inj];try omega)⟩
 ·exact⟨.bool ((a.toNat:Int) !=b.toNat),by simp[binOp,pJ],B _ _ (by congr 1;rw[eL];simp[<-UInt8.toNat_inj];try omega)⟩
 ·exact⟨.bool (decide ((a.toNat:Int)<b.toNat)),by simp[binOp,pJ],B _ _ (by congr 1;rw[eL];simp[rJ])⟩
 ·exact⟨.bool (decide ((a.toNat:Int)<=b.toNat)),by simp[binOp,pJ],B _ _ (by congr 1;rw[eL];simp[UInt8.le_iff_toNat_le])⟩
 ·exact⟨.bool (decide ((a.toNat:Int)>b.toNat)),by simp[binOp,pJ],B _ _ (by congr 1;rw[eL];simp[rJ])⟩
 ·exact⟨.bool (decide ((a.toNat:Int)≥b.toNat)),by simp[binOp,pJ],B _ _ (by congr 1;rw[eL];simp[UInt8.le_iff_toNat_le])⟩
theorem EL{op:BinOp}{t:TypeId}{l m:t6}{p:Prop}{c:SV}(h:Rr op l m=some (p,c))(F:p):
 ∃r,(binOp op t (.string ⟨⟨l⟩⟩) (.string ⟨⟨m⟩⟩)).run P w= .ok r w/\Rep x c r:=by
 have E:∀l:t6,(ByteArray.mk ⟨l⟩).toList=l:=fun l=>by rw[ByteArray.toList_eq]
 have z:(l==m)=decide (l=m):=by rw[eL];simp
 cases op<;>simp only[Rr,aq.injEq,bi.injEq,reduceCtorEq]at h<;>obtain⟨rfl,rfl⟩:=h
 ·refine⟨.string ⟨⟨l++m⟩⟩, ?_,kO _⟩
  simp only[binOp,Op.stringOp]
  have y:((((ByteArray.mk ⟨l⟩).size+(ByteArray.mk ⟨m⟩).size:Nat):Int)>ai.max)=False:=by rw[IntKind.max_i64];simp only[ByteArray.size,eq_iff_iff,iff_false];simp;omega
  simp only[y,if_false];rw[show(ByteArray.mk ⟨l⟩++ByteArray.mk ⟨m⟩)=ByteArray.mk ⟨l++m⟩from by apply ByteArray.ext;simp];rfl
 all_goals refine⟨_,by simp only[binOp,Op.stringOp,E,z];rfl, ?_⟩
 ·exact dv _
 ·rw[show decide (l≠m)= !decide (l=m)from by simp];exact dv _
 all_goals exact dv _
theorem EJ{op:BinOp}{t:TypeId}{k:IntKind}{a:UInt8}{b:Int}{p:Prop}{c:SV}(h:Rq op a b=some (p,c))(E:p):
 ∃r,(binOp op t (.int .u8 a.toNat) (.int k b)).run P w= .ok r w/\Rep x c r:=by
 have y:=lc a;have R:∀(r:UInt8)(v:Value),v= .int .u8 r.toNat->Rep x (.u8 r) v:=fun r v e=>e ▸ nE r
 cases op<;>simp only[Rq,aq.injEq,bi.injEq,reduceCtorEq]at h<;>obtain⟨rfl,rfl⟩:=h
 ·refine⟨.int .u8 (fx.wrap ((a.toNat:Int)*2^(min b.toNat fx.bits))),by simp only[binOp,Op.shift];rw[if_neg (by omega)];rfl,R _ _ ?_⟩
  rw[fI,UInt8.toNat_ofNat'];have e:((a.toNat:Int)*2^(min b.toNat fx.bits))=((a.toNat*2^(min b.toNat 8):Nat):Int):=by rw[Int.natCast_mul,Int.natCast_pow];rfl
  rw[e];rfl
 ·refine⟨.int .u8 ((a.toNat:Int).fdiv (2^(min b.toNat fx.bits))),by simp only[binOp,Op.shift];rw[if_neg (by omega)];rfl,R _ _ ?_⟩
  have e:(a.toNat:Int).fdiv (2^(min b.toNat fx.bits))=((a.toNat/2^(min b.toNat 8):Nat):Int):=by rw[show((2:Int)^(min b.toNat fx.bits))=((2^(min b.toNat 8):Nat):Int)from by rw[Int.natCast_pow];rfl];rw[Int.fdiv_eq_ediv_of_nonneg _ (Int.natCast_nonneg _),Int.natCast_ediv]
  have z:a.toNat/2^(min b.toNat 8)<256:=Nat.lt_of_le_of_lt (Nat.div_le_self _ _) y;rw[e,UInt8.toNat_ofNat',dm z]
theorem O8{op:BinOp}{t:TypeId}{X Y:Operand}{u v:SV}{a b:Value}{p:Prop}{c:SV}(hu:Rep x u a)(H:Rep x v b)(h:wJ op u v=some (p,c))(F:p):
 ∃r,(do eqGuard op t X Y a b;binOp op t a b:Sem Value).run P w= .ok r w/\Rep x c r:=by
 cases u<;>cases v<;>simp only[wJ]at h<;>try (cases h;done)
 ·rename_i k m J n
  have y:=hu.int_inv;have z:=H.int_inv;subst y;subst z;rw[show eqGuard op t X Y (.int k m) (.int J n)=pure ()from by cases op<;>rfl];simp only[az,aF,aj]
  by_cases L:op= .shl\/op= .shr
  ·rcases L with rfl|rfl
   ·simp only[tu,aq.injEq,bi.injEq]at h
    obtain⟨rfl,rfl⟩:=h;exact⟨_,by simp only[binOp,Op.shift];rw[if_neg (by omega)];rfl,cJ _ _⟩
   ·simp only[tu,aq.injEq,bi.injEq]at h
    obtain⟨rfl,rfl⟩:=h;exact⟨_,by simp only[binOp,Op.shift];rw[if_neg (by omega)];rfl,cJ _ _⟩
  ·have I:(if k=J then P4 op k m n else none)=some (p,c):=by
    cases op<;>simp at L<;>exact h
   split at I
   ·rename_i O;subst O;exact EN I F
   ·cases I
 ·rename_i b1 k2 E
  have y:=hu.u8_inv;have z:=H.int_inv;subst y;subst z;rw[show eqGuard op t X Y (.int .u8 b1.toNat) (.int k2 E)=pure ()from by cases op<;>rfl];simp only[az,aF,aj];exact EJ h F
 ·rename_i b1 E
  have y:=hu.u8_inv;have z:=H.u8_inv;subst y;subst z;rw[show eqGuard op t X Y (.int .u8 b1.toNat) (.int .u8 E.toNat)=pure ()from by cases op<;>rfl];simp only[az,aF,aj];exact CJ h F
 ·rename_i b1 E
  have y:=hu.str_inv;have z:=H.str_inv;subst y;subst z;rw[show eqGuard op t X Y (.string ⟨⟨b1⟩⟩) (.string ⟨⟨E⟩⟩)=pure ()from by cases op<;>rfl];simp only[az,aF,aj];exact EL h F
end Go.Sy
namespace Go.Sy
variable [ba]
variable {P : Program} {C : Ctx} {x : Sit} {s : St} {a : Act} {w : World}
theorem cK{t:TypeId}{n:Nat}(h:fi P t=some n)(w:World):(sizeOf t).run P w= .ok n w:=by
 unfold fi at h;cases hi:P.info? t with
 |none=>simp[hi]at h
 |some i=>simp[hi]at h;subst h;simp[sizeOf,run_typeInfo w hi]
theorem ke{t:TypeId}{b:Bool}(h:p7 P t=some b)(w:World):(isAgg t).run P w= .ok b w:=by
 unfold p7 at h;cases hd:P.underlying t with
 |none=>simp[hd]at h
 |some d=>simp[hd]at h;subst h;unfold isAgg;simp only[az,run_underlying hd,aj];split<;>first|rfl|(cases d<;>simp_all)
theorem cG{E:Nat}(H:f8)(h:∀y∈H,y.length=E)(k:Nat)(I:k<H.length*E):
 H.flatten.getD k .undef=(H.getD (k/E) []).getD (k % E) .undef:=by
 induction H generalizing k with
 |nil=>simp at I
 |cons y r Q=>
  have O:=h y (by simp)
  have J:0<E:=by
   rcases fZ E with L|L;· subst L;simp at I
   ·exact L
  simp only[cN,aa]
  by_cases F:k<E
  ·rw[bc (by omega),Nat.div_eq_of_lt F,dm F]
   simp
  ·rw[bw (by omega),O]
   have:=Q (fun z hz=>h z (an _ hz)) (k-E) (by simp only[ay,dD]at I;omega);simp only[aa]at this;rw[this];have U:k/E=(k-E)/E+1:=by rw[<-Nat.add_div_right _ J];congr 1;omega
   have T:k % E=(k-E) % E:=(Nat.mod_eq_sub_mod (by omega));rw[U,T];simp
def Cf(x:Sit)(w:World)(b off n:Nat)(cs:t7):Prop:=
 n<=cs.length/\∀j,j<n->∃v,w.cell? ⟨b,off+j,none⟩=some v/\Rep x (cs.getD j .undef) v
theorem oE{b off n:Nat}{cs:t7}{t:TypeId}{E:Bool}(h:Cf x w b off n cs)(hn:fi P t=some n)(z:p7 P t=some E)(I:(E||n==1)=true):
 ∃v,(loadVar t ⟨b,off,none⟩).run P w= .ok v w/\Rep x (dr E n cs) v:=by
 obtain⟨O,F⟩:=h
 have L:∀j,j<n->w.cell? ((⟨b,off,none⟩:Addr).add j)=some ((w.cell? ⟨b,off+j,none⟩).getD undef):=by intro j J;obtain⟨v,y,_⟩:=F j J;rw[cZ,y];rfl
 cases E with
 |true=>
  refine⟨.agg ((bU n).map fun j=>(w.cell? ⟨b,off+j,none⟩).getD undef).toArray, ?_, ?_⟩
  ·simp only[loadVar,az,ke z,aj,if_true,cK hn,run_loadCells w _ n _ L,aF]
  ·simp only[dr,if_true]
   refine .agg _ _ (by simp;omega) fun i hi=> ?_
   have hi:i<n/\i<cs.length:=by simp only[aA]at hi;omega
   obtain⟨v,y,H⟩:=F i hi.1;rw[aa,bE,if_pos hi.1,<-aa]
   have:((bU n).map fun j=>(w.cell? ⟨b,off+j,none⟩).getD undef).getD i undef=v:=by rw[aa];simp[hi.1,y]
   rw[this];exact H
 |false=>simp at I;subst I;obtain⟨v,y,H⟩:=F 0 (by omega);refine⟨v, ?_,by simpa[dr]using H⟩;rw[dU]at y;simp only[loadVar,az,ke z,aj,aI,if_false,run_load,y]
theorem eo(hM:aM C x s a w){o:Nat}{obj:aC}(h:s.look o=some obj):dx x w o obj:=(hM.heap.obs _ (cO h)).1
theorem dx.cell{o:Nat}{obj:aC}(h:dx x w o obj){k:Nat}(y:k<obj.size):∃v,w.cell? ⟨(x.bk o).1,k,none⟩=some v/\cj x obj k v:=by obtain⟨c,e,fl,fh,z,F,E⟩:=h;refine⟨c.getD k undef, ?_,E k y⟩;rw[z.cell,bg,gF (by omega)];rfl
theorem cj.data{obj:aC}(y:∀cs,obj≠ .rc cs){k:Nat}{v:Value}(h:cj x obj k v):Rep x (obj.cell k).data v:=by
 cases obj with
 |rc cs=>exact absurd rfl (y cs)
 |arr z E=>exact cE.rep h
 |bar l=>exact cE.rep h
theorem fX(cs:t7)(j:Nat):(cs.map SV.data).getD j .undef=(cs.getD j .undef).data:=aU _ rfl _ _
theorem ky{α:Type}(cs:List α)(j k:Nat)(d:α):(cs.drop j).getD k d=cs.getD (j+k) d:=by simp[aa,bx]
theorem ly(hM:aM C x s a w){u c:SV}{v:Value}{n:Nat}{ag:Bool}{p:Prop}(hu:Rep x u v)(h:io s n ag u=some (p,c))(L:p):
 ∃b off cs,v= .pointer (some ⟨b,off,none⟩)/\c=dr ag n cs/\Cf x w b off n cs:=by
 cases u with
 |pp cs=>simp only[io,aq.injEq,bi.injEq]at h;obtain⟨rfl,rfl⟩:=h;obtain⟨b,off,val,rfl,hg,hr⟩:=hu.pp_inv;refine⟨b,off,_,rfl,rfl,by simpa using L,fun j U=>⟨val j,hM.heap.per _ _ _ (hg j (by omega)), ?_⟩⟩;rw[fX];exact(hr j (by omega)).rep
 |ptr o off=>
  have Q:=hu.ptr_inv;simp only[io]at h;cases hl:s.look o with
  |none=>simp[hl]at h
  |some obj=>
   have E:=eo hM hl;cases obj with
   |rc cs=>simp only[hl,aq.injEq,bi.injEq]at h;obtain⟨rfl,rfl⟩:=h;refine⟨_,off,_,Q,rfl,by simp;omega,fun j U=> ?_⟩;obtain⟨v,I,F⟩:=E.cell (k:=off+j) (by simp only[aC.size];omega);exact⟨v,I,by rw[ky];exact F⟩
   |arr H O=>
    simp only[hl]at h;split at h
    ·rename_i Z;subst Z
     simp only[aq.injEq,bi.injEq]at h;obtain⟨rfl,rfl⟩:=h
     have J:O.flatten.length=O.length*H:=by
      have F:=L.2;clear L hl E;induction O with
      |nil=>simp
      |cons y r ih=>simp only[cN,af,ay,dD];rw[ih (fun z hz=>F z (an _ hz)),F y (by simp)];omega
     refine⟨_,0,_,Q,rfl,by rw[aS];exact L.1,fun j U=> ?_⟩;have T:j<O.length*H:=by rw[<-J];omega
     obtain⟨v,I,F⟩:=E.cell (k:=j) (by simpa only[aC.size]using T);refine⟨v,by rw[cf];exact I, ?_⟩;rw[fX,cG O L.2 j T];exact F.data (by intro cs;simp)
    ·cases h
   |bar l=>
    simp only[hl]at h;split at h
    ·rename_i Z;subst Z
     simp only[aq.injEq,bi.injEq]at h;obtain⟨rfl,rfl⟩:=h;refine⟨_,0,_,Q,rfl,by simpa using L,fun j U=> ?_⟩;obtain⟨v,I,F⟩:=E.cell (k:=j) (by simp only[aC.size];omega);refine⟨v,by rw[cf];exact I, ?_⟩
     have:(l.map SV.u8).getD j .undef= .u8 (l.getD j 0):=by simp only[aa,aR];rw[ab (by omega)];rfl
     rw[this];exact F.data (by intro cs;simp)
    ·cases h
 |ap o H i j=>
  have Q:=hu.ap_inv;simp only[io]at h;cases hl:s.look o with
  |none=>simp[hl]at h
  |some obj=>
   have E:=eo hM hl;cases obj with
   |rc cs=>simp[hl]at h
   |arr a0 O=>
    simp only[hl,aq.injEq,bi.injEq]at h;obtain⟨rfl,rfl⟩:=h;obtain⟨rfl,hi,U,J⟩:=L;refine⟨_,_,_,Q,rfl,by rw[aS,aL];omega,fun k hk=> ?_⟩
    have W:i*H+(j+k)<O.length*H:=by have:=bz H (Nat.succ_le_of_lt hi);rw[dD]at this;omega
    obtain⟨v,I,F⟩:=E.cell (k:=i*H+(j+k)) (by simpa only[aC.size]using W);refine⟨v,by rw[eB];exact I, ?_⟩;rw[fX,ky];have h3:=F.data (by intro cs;simp);simp only[aC.cell]at h3
    rwa[show(i*H+(j+k))/H=i from by rw[cD,Nat.mul_add_div (by omega),Nat.div_eq_of_lt (by omega)];rfl,
     show(i*H+(j+k)) % H=j+k from by rw[cD,Nat.mul_add_mod,dm (by omega)]]at h3
   |bar l=>
    simp only[hl,aq.injEq,bi.injEq]at h;obtain⟨rfl,rfl⟩:=h;obtain⟨rfl,rfl,rfl,hi⟩:=L;refine⟨_,_,_,Q,rfl,by simp,fun k hk=> ?_⟩;obtain rfl:k=0:=by omega
    obtain⟨v,I,F⟩:=E.cell (k:=i) (by simpa only[aC.size]using hi);exact⟨v,by simpa using I,F.data (by intro cs;simp)⟩
 |_=>simp[io]at h
end Go.Sy
namespace Go.Sy
variable [ba]
variable {P : Program} {C : Ctx} {x : Sit} {s : St} {a : Act} {w : World} {o : Oper} {so : SOp} {p : Prop} {c : SV}
theorem tV(hM:aM C x s a w){X:Operand}(h:o.op= .move X\/o.op= .assign X)(F:bq P o=some so)(E:val s so=some (p,c)):b9 P C o a w (s.put o.dst c):=by
 have z:(bp P o.type X).map SOp.mov=some so:=by rcases h with h|h<;>simpa only[bq,h]using F
 obtain⟨r,y,rfl⟩:=ah.1 z;simp only[val,aq.injEq,bi.injEq]at E;obtain⟨_,rfl⟩:=E;exact⟨a.eval X,w,x,.value (a.eval X),by rcases h with h|h<;>simp only[execOp,h]<;>rfl,.inl rfl,hM.put o.dst (aJ hM y)⟩
theorem Eh(hM:aM C x s a w){t:TypeId}{X:Operand}(H:o.op= .load t X)(h:bq P o=some so)(I:val s so=some (p,c))(O:p):b9 P C o a w (s.put o.dst c):=by
 simp only[bq,H]at h;split at h<;>try (cases h;done)
 rename_i n Q r hn E F;split at h<;>try (cases h;done)
 rename_i L;cases h;simp only[val]at I;obtain⟨b,off,cs,hX,rfl,J⟩:=ly hM (aJ hM F) I O;obtain⟨v,y,z⟩:=oE (P:=P) J hn E L;refine b9.val hM (m:=Instr.loadAt t (a.eval X)) (by simp only[execOp,H]) ?_ z;rw[hX];simp only[Instr.loadAt,Instr.sureAddr,az,aF,aj];exact y
theorem rD(hM:aM C x s a w){X:Operand}(z:o.op= .nilCheck X)(H:bq P o=some so)(y:val s so=some (p,c)):b9 P C o a w (s.put o.dst c):=by
 simp only[bq,z]at H;obtain⟨r,E,rfl⟩:=ah.1 H;have h:=aJ hM E;simp only[val]at y;cases hu:s.ev r with
 |ptr I off=>rw[hu]at y h;simp only[aq.injEq,bi.injEq]at y;obtain⟨_,rfl⟩:=y;exact⟨a.eval X,w,x,.value (a.eval X),by simp only[execOp,z];rw[h.ptr_inv];rfl,.inl rfl,hM.put o.dst h⟩
 |ap I L i j=>rw[hu]at y h;simp only[aq.injEq,bi.injEq]at y;obtain⟨_,rfl⟩:=y;exact⟨a.eval X,w,x,.value (a.eval X),by simp only[execOp,z];rw[h.ap_inv];rfl,.inl rfl,hM.put o.dst h⟩
 |pp cs=>rw[hu]at y h;simp only[aq.injEq,bi.injEq]at y;obtain⟨_,rfl⟩:=y;obtain⟨b,off,val,F,_⟩:=h.pp_inv;exact⟨a.eval X,w,x,.value (a.eval X),by simp only[execOp,z];rw[F];rfl,.inl rfl,hM.put o.dst h⟩
 |fn f c1 c2=>rw[hu]at y h;simp only[aq.injEq,bi.injEq]at y;obtain⟨_,rfl⟩:=y;obtain⟨v1,J,F,_⟩:=h.fn_inv;exact⟨a.eval X,w,x,.value (a.eval X),by simp only[execOp,z];rw[F];rfl,.inl rfl,hM.put o.dst h⟩
 |_=>rw[hu]at y;simp at y
theorem Cl(hM:aM C x s a w){op:BinOp}{t u:TypeId}{X Y:Operand}(ho:o.op= .binOp op t X Y u)(z:bq P o=some so)(Z:∀E n x y,so≠ .eqS E n x y)(h:val s so=some (p,c))(hp:p):b9 P C o a w (s.put o.dst c):=by
 have I:execOp a.eval o=(do pure (.value (<-(do eqGuard op t X Y (a.eval X) (a.eval Y);binOp op t (a.eval X) (a.eval Y):Sem Value)))):=by simp only[execOp,ho]
 simp only[bq,ho]at z;split at z<;>try (cases z;done)
 ·rename_i x' y' hb T U
  have L:=aJ hM T;have h2:=aJ hM U
  have F:∀E:Bool,op=(if E then .neq else .eql)->val s (.beq E x' y')=some (p,c)->b9 P C o a w (s.put o.dst c):=by
   intro E H h;simp only[val]at h;cases hu:s.ev x' with
   |bool b1=>
    cases hw:s.ev y' with
    |bool J=>
     rw[hu,hw]at h;rw[hu]at L;rw[hw]at h2;simp only[aq.injEq,bi.injEq]at h;obtain⟨_,rfl⟩:=h;refine b9.val hM I (u:= .bool (if E then decide (b1≠J)else decide (b1=J))) ?_ (dv _);rw[L.bool_inv,h2.bool_inv,show eqGuard op t X Y (.bool b1) (.bool J)=pure ()from by cases op<;>rfl];simp only[az,aF,aj];cases E<;>simp only[aI,if_false,if_true]at H<;>subst H
     ·rw[run_eql_bool w t b1 J hb];cases b1<;>cases J<;>rfl
     ·rw[run_neq_bool w t b1 J hb];cases b1<;>cases J<;>rfl
    |_=>rw[hu,hw]at h;simp at h
   |_=>rw[hu]at h;simp at h
  split at z<;>try (cases z;done)
  ·cases z;exact F false rfl h
  ·cases z;exact F true rfl h
 case h_4=>
  exfalso;split at z<;>try (cases z;done)
  split at z<;>try (cases z;done)
  split at z<;>first|(cases z;done)|(cases z;exact Z _ _ _ _ rfl)
 case h_5=>exfalso;split at z<;>first|(cases z;done)|(cases z;simp[val]at h)
 case h_6=>
  rename_i ms x' _ hd T U;have L:=aJ hM T
  have F:∀E:Bool,op=(if E then .neq else .eql)->Y= .const .nilIface->val s (.isni E x')=some (p,c)->b9 P C o a w (s.put o.dst c):=by
   intro E H hY h;simp only[val]at h;cases hu:s.ev x' with
   |nili=>
    rw[hu]at h L;simp only[aq.injEq,bi.injEq]at h;obtain⟨_,rfl⟩:=h;refine b9.val hM I (u:= .bool (!E)) ?_ (dv _);have W:a.eval Y= .nilIface:=by rw[hY];rfl
    have hm:P.underlying t=some (.interface (P.methodsAt t)):=by rw[hd];simp[Program.methodsAt,hd]
    rw[L.nili_inv,W]
    have hg:eqGuard op t X Y .nilIface .nilIface=pure ():=by subst hY;subst H;cases E<;>simp[eqGuard]
    rw[hg];simp only[az,aF,aj];subst H;cases E
    ·simp only[aI,if_false];rw[run_eql_nil_nil w t hm];rfl
    ·simp only[if_true];rw[run_neq_nil_nil w t hm];rfl
   |_=>rw[hu]at h;simp at h
  split at z<;>first|(cases z;done)|(cases z;exact F false rfl rfl h)|(cases z;exact F true rfl rfl h)
 all_goals
  rename_i T U;cases z;simp only[val]at h;obtain⟨r,O,Q⟩:=O8 (P:=P) (w:=w) (t:=t) (X:=X) (Y:=Y) (aJ hM T) (aJ hM U) h hp;exact b9.val hM I O Q
theorem Eg(hM:aM C x s a w){op:UnOp}{t:TypeId}{X:Operand}(z:o.op= .unOp op t X)(F:bq P o=some so)(H:val s so=some (p,c)):b9 P C o a w (s.put o.dst c):=by
 simp only[bq,z]at F;obtain⟨r,E,rfl⟩:=ah.1 F;have y:=aJ hM E;simp only[val]at H;obtain⟨J,h,I⟩:=ah.1 H;simp only[bi.injEq]at I;obtain⟨_,rfl⟩:=I;cases hu:s.ev r with
 |bool b=>rw[hu]at h y;cases op<;>simp only[vn,aq.injEq,reduceCtorEq]at h;subst h;exact b9.val hM (m:=Op.unary .not (a.eval X)) (by simp only[execOp,z]) (by rw[y.bool_inv];rfl) (dv _)
 |int k n=>
  rw[hu]at h y;cases op<;>simp only[vn,aq.injEq,reduceCtorEq]at h<;>subst h
  ·exact b9.val hM (m:=Op.unary .neg (a.eval X)) (by simp only[execOp,z]) (by rw[y.int_inv];rfl) (cJ _ _)
  ·exact b9.val hM (m:=Op.unary .xor (a.eval X)) (by simp only[execOp,z]) (by rw[y.int_inv];simp only[Op.unary,Op.intBits];rfl) (cJ _ _)
 |_=>rw[hu]at h;simp[vn]at h
theorem rE(hM:aM C x s a w){f:Go.Fn}{X Y:Array Operand}(J:o.op= .makeFunc f X Y)(z:bq P o=some so)(F:val s so=some (p,c)):b9 P C o a w (s.put o.dst c):=by
 cases f<;>simp only[bq,J,reduceCtorEq]at z;rename_i g;split at z<;>try (cases z;done)
 rename_i Z l2 O T;cases z;simp only[val,aq.injEq,bi.injEq]at F;obtain⟨_,rfl⟩:=F
 have y:∀(l:List Operand)(r:List Arg),ji (bp P 0) l=some r->cy x (r.map s.ev) (l.map a.eval):=by
  intro l;induction l with
  |nil=>intro r h;simp only[ji]at h;cases h;exact⟨rfl,fun i hi=>by simp at hi⟩
  |cons q l U=>
   intro r h;simp only[ji]at h;split at h<;>try (cases h;done)
   rename_i b W Q E;cases h;have L:=U _ E;refine⟨by simpa using L.1,fun i hi=> ?_⟩;cases i with
   |zero=>simpa using aJ hM Q
   |succ i=>simpa using L.2 i (by simpa using hi)
 have H:=y _ _ O;have I:=y _ _ T;refine b9.val hM (m:=Instr.makeFunc (.func g) (X.map a.eval) (Y.map a.eval)) (u:= .func (.func g) ⟨X.toList.map a.eval⟩ ⟨Y.toList.map a.eval⟩) (by simp only[execOp,J]) ?_ ?_
 ·simp only[Instr.makeFunc,aF]
  congr 2<;>(apply dI;simp)
 ·exact .fn g _ _ _ _ H.1 H.2 I.1 I.2
theorem tI(hM:aM C x s a w){X:Operand}{i:Nat}(H:o.op= .extract X i)(F:bq P o=some so)(y:val s so=some (p,c))(I:p):b9 P C o a w (s.put o.dst c):=by
 simp only[bq,H]at F;obtain⟨r,z,rfl⟩:=ah.1 F;have h:=aJ hM z;simp only[val]at y;cases hu:s.ev r with
 |tup vs=>
  rw[hu]at y h;simp only[aq.injEq,bi.injEq]at y;obtain⟨rfl,rfl⟩:=y;obtain⟨us,J,E⟩:=h.tup_inv;have hi:i<us.length:=by rw[<-E.1];exact I
  refine b9.val hM (m:=Instr.extract (a.eval X) i) (u:=us.getD i undef) (by simp only[execOp,H]) ?_ (E.2 i I);rw[J];simp[Instr.extract,hi,aa]
 |_=>rw[hu]at y;simp at y
theorem pM(hM:aM C x s a w){t:TypeId}{X:Operand}{i:Nat}(E:o.op= .fieldAddr t X i)(z:bq P o=some so)(y:val s so=some (p,c)):b9 P C o a w (s.put o.dst c):=by
 simp only[bq,E]at z;split at z<;>try (cases z;done)
 rename_i Z r I L;split at z<;>try (cases z;done)
 rename_i f W;split at z<;>try (cases z;done)
 rename_i n hn;split at z
 ·cases z
 rename_i hn0;cases z;have h:=aJ hM L
 have run:∀b off,a.eval X= .pointer (some ⟨b,off,none⟩)->(Instr.fieldAt t (a.eval X) i).run P w= .ok (.pointer (some ⟨b,off+f.offset,none⟩)) w:=by intro b off J;rw[J];simp only[Instr.fieldAt,az,run_underlying I,aj,W,Instr.sureAddr,aF,fieldPlace,cK hn,if_neg hn0,cZ]
 simp only[val]at y;cases hu:s.ev r with
 |ptr F off=>rw[hu]at y h;simp only[aq.injEq,bi.injEq]at y;obtain⟨_,rfl⟩:=y;exact b9.val hM (by simp only[execOp,E]) (run _ _ h.ptr_inv) (.ptr F (off+f.offset))
 |ap F U i j=>rw[hu]at y h;simp only[aq.injEq,bi.injEq]at y;obtain⟨_,rfl⟩:=y;refine b9.val hM (by simp only[execOp,E]) (run _ _ h.ap_inv) ?_;rw[eB];exact .ap F U i (j+f.offset)
 |pp cs=>
  rw[hu]at y h;simp only[aq.injEq,bi.injEq]at y;obtain⟨_,rfl⟩:=y;obtain⟨b,off,O,J,Q,T⟩:=h.pp_inv;refine b9.val hM (by simp only[execOp,E]) (run _ _ J) (.dat _ _ (.pp _ b (off+f.offset) (fun j=>O (f.offset+j)) ?_ ?_) trivial)
  ·intro j H;rw[eB];exact Q _ (by simp only[aL]at H;omega)
  ·intro j H;rw[ky];exact T _ (by simp only[aL]at H;omega)
 |_=>rw[hu]at y;simp at y
theorem ux{cs:t7}{vs:LAa}(h:cy x cs vs){t:TypeId}{n:Nat}{z:Bool}{off:Nat}(hn:fi P t=some n)(y:p7 P t=some z)(E:(z||n==1)=true)(F:off+n<=cs.length):
 ∃v,(part t ⟨vs⟩ off).run P w= .ok v w/\Rep x (dr z n (cs.drop off)) v:=by
 have H:=h.1;cases z with
 |true=>
  refine⟨.agg ⟨(vs.drop off).take n⟩, ?_, ?_⟩
  ·simp only[part,az,ke y,aj,if_true,cK hn,aF]
   congr 2
   apply dI;simp
  ·simp only[dr,if_true]
   refine .agg _ _ (by simp;omega) fun i hi=> ?_
   have hi:i<n:=by simp only[aA]at hi;omega
   have:=h.get (off+i);simp only[aa,bE,if_pos hi,bx]at this ⊢;exact this
 |false=>
  simp at E;subst E;refine⟨vs.getD off undef, ?_, ?_⟩
  ·simp only[part,az,ke y,aj,aI,if_false]
   have:off<vs.length:=by omega
   simp[ab this,aa]
  ·simp only[dr,aI,if_false,ky,dU]
   exact h.get off
theorem Cj(hM:aM C x s a w){t:TypeId}{X:Operand}{i:Nat}(J:o.op= .field t X i)(h:bq P o=some so)(z:val s so=some (p,c))(U:p):b9 P C o a w (s.put o.dst c):=by
 simp only[bq,J]at h;split at h<;>try (cases h;done)
 rename_i fs r F I;split at h<;>try (cases h;done)
 rename_i f W;split at h<;>try (cases h;done)
 rename_i n Z hn H;split at h<;>try (cases h;done)
 rename_i O;cases h;have y:=aJ hM I;simp only[val]at z;cases hu:s.ev r with
 |agg cs=>rw[hu]at z y;simp only[aq.injEq,bi.injEq]at z;obtain⟨rfl,rfl⟩:=z;obtain⟨vs,T,Q⟩:=y.agg_inv;obtain⟨v,E,L⟩:=ux (P:=P) (w:=w) Q hn H O U;refine b9.val hM (m:=Instr.field t (a.eval X) i) (by simp only[execOp,J]) ?_ L;rw[T];simp only[Instr.field,az,run_underlying F,aj,W,asAgg,aF];exact E
 |_=>rw[hu]at z;simp at z
theorem F8{l:t6}{t:Tok}{v:Value}(h:cE x.G (.byt l t) v)(i:Nat)(hi:i<l.length):∃b off cap,v= .slice (some ⟨b,off,none⟩) l.length cap/\x.G b (off+i)=some (.int .u8 (l.getD i 0).toNat):=by
 cases h with
 |bytN=>simp at hi
 |bytE=>simp at hi
 |byt _ _ b off cap n hn y h=>subst hn;exact⟨b,off,cap,rfl,h i hi⟩
theorem ix{u:SV}{v:Value}{n:Int}(h:Rep x u v)(hn:u.num=some n):∃k,v= .int k n:=by
 cases u<;>simp only[SV.num,aq.injEq,reduceCtorEq]at hn
 ·subst hn;exact⟨_,h.int_inv⟩
 ·subst hn;exact⟨_,h.u8_inv⟩
theorem pL(hM:aM C x s a w){t:TypeId}{X Y:Operand}(ho:o.op= .indexAddr t X Y)(L:bq P o=some so)(h:val s so=some (p,c))(Q:p):b9 P C o a w (s.put o.dst c):=by
 have E:execOp a.eval o=(do pure (.value (<-Instr.indexAt t (a.eval X) (a.eval Y)))):=by simp only[execOp,ho]
 simp only[bq,ho]at L;split at L<;>try (cases L;done)
 ·rename_i e r q hd T W
  split at L<;>try (cases L;done)
  rename_i n hn;cases L;have F:=aJ hM T;have h2:=aJ hM W
  have run:∀(b:Nat)(off len cap:Nat)(k:IntKind)(i:Int),a.eval X= .slice (some ⟨b,off,none⟩) len cap->a.eval Y= .int k i->0<=i->i<len->(Instr.indexAt t (a.eval X) (a.eval Y)).run P w= .ok (.pointer (some ⟨b,off+i.toNat*n,none⟩)) w:=by intro b off len cap k i Z hf z H;rw[Z,hf];simp only[Instr.indexAt,asIntOf,az,aF,aj,run_underlying hd,if_pos (And.intro z H),cK hn,cZ]
  simp only[val]at h;split at h<;>try (cases h;done)
  ·rename_i l tk i hu O
   rw[hu]at F;obtain⟨k,I⟩:=ix h2 O;simp only[aq.injEq,bi.injEq]at h;obtain⟨rfl,rfl⟩:=h;obtain⟨z,H,rfl⟩:=Q;obtain⟨b,off,cap,Z,hg⟩:=F8 (F.data rfl) i.toNat (by omega);refine b9.val hM E (run b off l.length cap k i Z I z H) (.dat _ _ (.pp _ b (off+i.toNat*1) (fun _=> .int .u8 (l.getD i.toNat 0).toNat) ?_ ?_) trivial)
   ·intro j J
    obtain rfl:j=0:=by simpa using J
    simpa using hg
   ·intro j J
    obtain rfl:j=0:=by simpa using J
    exact .u8 _
  ·rename_i a2 xs tk i hu O
   rw[hu]at F;obtain⟨k,I⟩:=ix h2 O;simp only[aq.injEq,bi.injEq]at h;obtain⟨rfl,rfl⟩:=h;obtain⟨z,H,rfl⟩:=Q;have y:=F.data rfl;cases hXv:a.eval X with
   |slice ad len cap=>
    rw[hXv]at y;cases y with
    |lstN=>simp at H;omega
    |lstE=>simp at H;omega
    |lst _ _ _ b off a4 n' vl a6 hc hl hg hh=>
     have U:i.toNat<len:=by omega
     have a3:=hl _ U;refine b9.val hM E (run b off len cap k i hXv I z (by omega)) (.dat _ _ (.pp _ b (off+i.toNat*n) (fun j=>vl i.toNat j) ?_ ?_) trivial)
     ·intro j J;exact hg _ _ U (by omega)
     ·intro j J;exact hh _ _ U (by omega)
   |_=>rw[hXv]at y;cases y
  ·rename_i o' a2 off kk cp i hu O
   rw[hu]at F;obtain⟨k,I⟩:=ix h2 O;simp only[aq.injEq,bi.injEq]at h;obtain⟨rfl,rfl⟩:=h;obtain⟨z,H,rfl⟩:=Q;obtain⟨cp,a5,_,a0,Z,a1⟩:=F.psl_inv;refine b9.val hM E (run _ a0 kk _ k i Z I z H) ?_;rcases a1 with h'|rfl
   ·omega
   ·rw[<-bA]
    exact .ap o' n (off+i.toNat) 0
 ·rename_i kk e r q hd T W
  split at L<;>try (cases L;done)
  rename_i n hn;cases L;have F:=aJ hM T;have h2:=aJ hM W
  have run:∀(b:Nat)(off:Nat)(k:IntKind)(i:Int),a.eval X= .pointer (some ⟨b,off,none⟩)->a.eval Y= .int k i->0<=i->i<kk->(Instr.indexAt t (a.eval X) (a.eval Y)).run P w= .ok (.pointer (some ⟨b,off+i.toNat*n,none⟩)) w:=by intro b off k i Z hf z H;rw[Z,hf];simp only[Instr.indexAt,asIntOf,Instr.sureAddr,az,aF,aj,run_underlying hd,if_pos (And.intro z H),cK hn,cZ]
  simp only[val]at h;split at h<;>try (cases h;done)
  ·rename_i o' off i hu O
   rw[hu]at F;obtain⟨k,I⟩:=ix h2 O;split at h<;>try (cases h;done)
   ·simp only[aq.injEq,bi.injEq]at h;obtain⟨rfl,rfl⟩:=h
    exact b9.val hM E (run _ off k i F.ptr_inv I Q.1 Q.2) (.ptr o' _)
   ·split at h<;>try (cases h;done)
    rename_i z;subst z;simp only[aq.injEq,bi.injEq]at h;obtain⟨rfl,rfl⟩:=h;refine b9.val hM E (run _ 0 k i F.ptr_inv I Q.1 Q.2) ?_;rw[cf];exact .ap o' n i.toNat 0
  ·rename_i cs i hu O
   rw[hu]at F;obtain⟨k,I⟩:=ix h2 O;simp only[aq.injEq,bi.injEq]at h;obtain⟨rfl,rfl⟩:=h;obtain⟨z,H,h4⟩:=Q;have y:=F.data rfl;cases hXv:a.eval X with
   |pointer ad=>
    rw[hXv]at y;cases y with
    |pp _ b off vl hg hh=>
     refine b9.val hM E (run b off k i hXv I z H) (.dat _ _ (.pp _ b (off+i.toNat*n) (fun j=>vl (i.toNat*n+j)) ?_ ?_) trivial)
     ·intro j J
      rw[aL]at J;rw[eB];exact hg _ (by omega)
     ·intro j J
      rw[aL]at J;have:=hh (i.toNat*n+j) (by omega);simp only[aa,bx]at this ⊢;exact this
   |_=>rw[hXv]at y;cases y
theorem Ci(hM:aM C x s a w){t:TypeId}{X Y:Operand}(ho:o.op= .index t X Y)(y:bq P o=some so)(h:val s so=some (p,c))(Z:p):b9 P C o a w (s.put o.dst c):=by
 have L:execOp a.eval o=(do pure (.value (<-Instr.index t (a.eval X) (a.eval Y)))):=by simp only[execOp,ho]
 simp only[bq,ho]at y;split at y<;>try (cases y;done)
 ·rename_i kk e r q hd E F
  split at y<;>try (cases y;done)
  rename_i n ag hn O;split at y<;>try (cases y;done)
  rename_i U;cases y;have H:=aJ hM E;have Q:=aJ hM F;simp only[val]at h;split at h<;>try (cases h;done)
  rename_i cs i hu W;rw[hu]at H;obtain⟨k,T⟩:=ix Q W;simp only[aq.injEq,bi.injEq]at h;obtain⟨rfl,rfl⟩:=h;obtain⟨h0,h3,h4⟩:=Z;obtain⟨vs,he,hl⟩:=H.agg_inv;have z:i.toNat<kk:=by omega
  have hb:i.toNat*n+n<=cs.length:=by rw[h4];have:=bz n (Nat.succ_le_of_lt z);rw[dD]at this;exact this
  obtain⟨v,I,hc⟩:=ux (P:=P) (w:=w) hl hn O U hb;refine b9.val hM L ?_ hc;rw[he,T];simp only[Instr.index,asIntOf,az,aF,aj,run_underlying hd,if_pos (And.intro h0 h3),cK hn];exact I
 ·rename_i r q hd E F
  cases y;have H:=aJ hM E;have Q:=aJ hM F;simp only[val]at h;split at h<;>try (cases h;done)
  rename_i l i hu W;rw[hu]at H;obtain⟨k,T⟩:=ix Q W;simp only[aq.injEq,bi.injEq]at h;obtain⟨rfl,rfl⟩:=h;refine b9.val hM L (u:= .int .u8 (l.getD i.toNat 0).toNat) ?_ (nE _);rw[H.str_inv,T];have z:i.toNat<l.length:=by omega
  have J:(ByteArray.mk ⟨l⟩)[i.toNat]? =some (l.getD i.toNat 0):=by rw[ByteArray.getElem?_lt' _ _ (by simpa[ByteArray.size]using z),aa,ab z];rfl
  simp only[Instr.index,asIntOf,az,aF,aj,run_underlying hd,if_pos Z.1,J]
end Go.Sy
namespace Go.Sy
variable [ba]
variable {P : Program} {C : Ctx} {x : Sit} {s : St} {a : Act} {w : World} {o : Oper} {so : SOp} {p : Prop} {c : SV}
theorem jA{k:IntKind}{i:Int}{y:Nat}{code:BoundsCode}(h:0<=i)(z:i<=y):(Instr.sliceBound (.int k i) y code).run P w= .ok i.toNat w:=by simp only[Instr.sliceBound,asIntOf,az,aF,aj,if_pos (And.intro h z)]
theorem rP{b:Bool}{len cp:Nat}{lo hi F:Option Value}{i j m:Int}(y:0<=i)(I:i<=j)(H:j<=m)(J:m<=cp)
 (h:lo=none/\i=0\/∃k,lo=some (.int k i)) (E:hi=none/\j=len\/∃k,hi=some (.int k j)) (z:F=none/\m=cp\/(∃k,F=some (.int k m))/\hi≠none):
 (Instr.sliceBounds b len cp lo hi F).run P w= .ok (i.toNat,j.toNat,m.toNat) w:=by
 rcases z with⟨rfl,rfl⟩|⟨⟨k,rfl⟩,hne⟩<;>rcases E with⟨rfl,rfl⟩|⟨k',rfl⟩<;>rcases h with⟨rfl,rfl⟩|⟨k'',rfl⟩
 all_goals try exact absurd rfl hne
 all_goals simp only[Instr.sliceBounds,az,aF,aj]
 ·simp
 ·rw[jA y (by omega)];simp
 ·rw[jA (by omega) (by omega)];simp
 ·rw[jA (by omega) (by omega)];simp only[aj];rw[jA y (by omega)];simp
 ·rw[jA (by omega) (by omega)];simp only[aj];rw[jA (by omega) (by omega)];simp
 ·rw[jA (by omega) (by omega)];simp only[aj];rw[jA (by omega) (by omega)];simp only[aj];rw[jA y (by omega)];simp
theorem fF(hM:aM C x s a w){q:Option Operand}{r:Option Arg}{d i:Int}(y:uy (bp P 0) q=some r)(h:il s r d=some i):
 q.map a.eval=none/\i=d/\r=none\/(∃k,q.map a.eval=some (.int k i))/\r≠none:=by
 cases q with
 |none=>simp only[uy]at y;cases y;simp only[il,aq.injEq]at h;exact .inl ⟨rfl,h.symm,rfl⟩
 |some q=>simp only[uy]at y;obtain⟨F,z,rfl⟩:=ah.1 y;simp only[il]at h;obtain⟨k,E⟩:=ix (aJ hM z) h;exact .inr ⟨⟨k,by simp[E]⟩,by simp⟩
theorem ub{I:Nat}{h:Option Addr}{n cp:Nat}{i j m:Int}(W:0<=i)(h2:i<=j)(h3:j<=m)(Z:m<=cp)(h5:j<=n){t:Tok}{hn E:Bool}
 (H:de x I t (.slice h n cp)) (y:hn=true->E=false->j=n/\m=cp) (z:E=true->j=m):
 de x I (lF t hn E) (.slice (if m.toNat=i.toNat then h else h.map (·.add (i.toNat*I))) (j.toNat-i.toNat) (m.toNat-i.toNat)):=by
 unfold lF;split
 ·rename_i J
  exact⟨_,j.toNat-i.toNat,by rw[z J]⟩
 ·rename_i J
  split
  ·rename_i L
   obtain⟨rfl,rfl⟩:=y L (by simpa using J);cases t with
   |no=>trivial
   |clip=>obtain⟨T,Q,F⟩:=H;simp only[Value.slice.injEq]at F;exact⟨_,_,by rw[F.2.1,F.2.2]⟩
   |id t=>
    obtain⟨T,Q,U,F,L⟩:=H;simp only[Value.slice.injEq]at F;obtain⟨rfl,rfl,rfl⟩:=F;refine⟨_,_,_,rfl, ?_⟩;rcases L with rfl|⟨bb,off,rfl,ht⟩
    ·exact .inl rfl
    ·by_cases O:cp=i.toNat
     ·left;omega
     ·right
      refine⟨bb,off+i.toNat*I,by simp[O,cZ], ?_⟩;rw[ht];simp only[Int.toNat_natCast,bi.injEq,true_and];constructor
      ·rw[eB,<-bA];congr 2;omega
      ·rw[eB,<-bA];congr 2;omega
  ·trivial
theorem gO{α:Type}(l:List α)(i j k:Nat)(d:α)(h:k+i<j):((l.take j).drop i).getD k d=l.getD (i+k) d:=by simp only[aa,bx,bE];rw[if_pos (by omega)]
theorem tL(hM:aM C x s a w){t e:TypeId}{n:Nat}(hd:P.underlying t=some (.slice e))(hn:fi P e=some n){X:Operand}{lo hi mx:Option Operand}{a6 U y:Option Arg}{r:Arg}
 (h1:Rep x (s.ev r) (a.eval X)) (b6:uy (bp P 0) lo=some a6) (b5:uy (bp P 0) hi=some U) (a7:uy (bp P 0) mx=some y) (c3:¬(y.isSome&&U.isNone)=true)
 (H:jb s n (s.ev r) a6 U y=some (p,c)) (hp:p):∃v,(Instr.sliceAt t (a.eval X) (lo.map a.eval) (hi.map a.eval) (mx.map a.eval)).run P w= .ok v w/\Rep x c v:=by
 have run:∀(F:Option Addr)(len cp:Nat)(i j m:Int),a.eval X= .slice F len cp->0<=i->i<=j->j<=m->m<=cp->il s a6 0=some i->il s U len=some j->
  (y=none->m=cp)->(y≠none->il s y cp=some m)->
  (Instr.sliceAt t (a.eval X) (lo.map a.eval) (hi.map a.eval) (mx.map a.eval)).run P w= .ok (.slice (if m.toNat=i.toNat then F else F.map (·.add (i.toNat*n))) (j.toNat-i.toNat) (m.toNat-i.toNat)) w:=by
  intro F len cp i j m he h0 h2 h3 h4 O E b7 a8;rw[he];have e1:=fF hM b6 O;have e2:=fF hM b5 E
  have hb:(Instr.sliceBounds true len cp (lo.map a.eval) (hi.map a.eval) (mx.map a.eval)).run P w= .ok (i.toNat,j.toNat,m.toNat) w:=by
   refine rP h0 h2 h3 h4 ?_ ?_ ?_
   ·rcases e1 with⟨I,q2,_⟩|⟨I,_⟩
    ·exact .inl ⟨I,q2⟩
    ·exact .inr I
   ·rcases e2 with⟨I,q2,_⟩|⟨I,_⟩
    ·exact .inl ⟨I,q2⟩
    ·exact .inr I
   ·by_cases z:y=none
    ·subst z
     have:il s none (cp:Int)=some (cp:Int):=rfl;rcases fF hM a7 this with⟨I,q2,_⟩|⟨_,q2⟩
     ·exact .inl ⟨I,b7 rfl⟩
     ·exact absurd rfl q2
    ·rcases fF hM a7 (a8 z)with⟨_,_,q⟩|⟨I,_⟩
     ·exact absurd q z
     ·refine .inr ⟨I, ?_⟩
      rcases e2 with⟨I,_,q3⟩|⟨⟨k,I⟩,_⟩
      ·exfalso;apply c3;subst q3;cases y with
       |none=>exact absurd rfl z
       |some _=>rfl
      ·rw[I];simp
  simp only[Instr.sliceAt,Instr.slice,az,run_underlying hd,aj,hb,cK hn,aF]
 cases hu:s.ev r with
 |byt l tk=>
  rw[hu]at H h1;simp only[jb]at H;split at H<;>try (cases H;done)
  rename_i i j m O E a1;simp only[aq.injEq,bi.injEq]at H;obtain⟨rfl,rfl⟩:=H;obtain⟨q0,I,q2,q3,rfl,q4⟩:=hp;obtain⟨F,cp,he,hc,hD,a3⟩:=h1.byt_inv;rw[he]at hD a3
  obtain⟨L,Z,a0,T,W⟩:∃L:Int,L<=cp/\j<=L/\(y=none->L=cp)/\(y≠none->L=m):=by
   by_cases z:y=none
   ·exact⟨cp,by omega,by omega,fun _=>rfl,fun h=>absurd z h⟩
   ·exact⟨m,by omega,q2,fun h=>absurd h z,fun _=>rfl⟩
  refine⟨_,run F l.length cp i j L he q0 I a0 Z O E T (fun h=> ?_), ?_⟩
  ·rw[W h];cases y with
   |none=>exact absurd rfl h
   |some q=>simpa only[il]using a1
  ·refine .dat _ _ ?_ ?_
   ·have Q:((l.take j.toNat).drop i.toNat).length=j.toNat-i.toNat:=by rw[aL,aA,gI (by omega)]
    cases hD with
    |bytN=>
     have:i.toNat=0/\j.toNat=0/\L.toNat=0:=by simp at q3;omega
     obtain⟨z1,z2,z3⟩:=this;simp only[z1,z2,z3,List.take_nil,List.drop_nil,Option.map_none,ite_self];exact .bytN _
    |bytE _ ad=>
     have:i.toNat=0/\j.toNat=0/\L.toNat=0:=by simp at q3;omega
     obtain⟨z1,z2,z3⟩:=this;simp only[z1,z2,z3,List.take_nil,List.drop_nil,if_true];exact .bytE _ _
    |byt _ _ b off _ _ c6 b4 hg=>
     by_cases J:L.toNat=i.toNat
     ·rw[if_pos J]
      exact .byt _ _ b off _ _ Q.symm (by omega) (fun k hk=>by omega)
     ·rw[if_neg J,bo,cZ]
      refine .byt _ _ b (off+i.toNat*1) _ _ Q.symm (by omega) (fun k hk=> ?_);rw[gO _ _ _ _ _ (by omega),iu,eB];exact hg _ (by omega)
   ·refine ub q0 I a0 Z (by omega) a3 ?_ ?_
    ·intro hh hx
     have z:y=none:=by cases y with|none=>rfl|some _=>simp at hx
     have a5:U=none:=by cases U with|none=>rfl|some _=>simp at hh
     subst a5;simp only[il,aq.injEq]at E;exact⟨E.symm,T z⟩
    ·intro hx
     have z:y≠none:=by rintro rfl;simp at hx
     rw[W z];exact q4 hx
 |lst b8 l tk=>
  rw[hu]at H h1;simp only[jb]at H;split at H<;>try (cases H;done)
  rename_i i j m O E a1;simp only[aq.injEq,bi.injEq]at H;obtain⟨rfl,rfl⟩:=H;obtain⟨q0,I,q2,q3,rfl,q4⟩:=hp;obtain⟨F,cp,he,hc,hD,a3⟩:=h1.lst_inv;rw[he]at hD a3
  obtain⟨L,Z,a0,T,W⟩:∃L:Int,L<=cp/\j<=L/\(y=none->L=cp)/\(y≠none->L=m):=by
   by_cases z:y=none
   ·exact⟨cp,by omega,by omega,fun _=>rfl,fun h=>absurd z h⟩
   ·exact⟨m,by omega,q2,fun h=>absurd h z,fun _=>rfl⟩
  refine⟨_,run F l.length cp i j L he q0 I a0 Z O E T (fun h=> ?_), ?_⟩
  ·rw[W h];cases y with
   |none=>exact absurd rfl h
   |some q=>simpa only[il]using a1
  ·refine .dat _ _ ?_ ?_
   ·have Q:((l.take j.toNat).drop i.toNat).length=j.toNat-i.toNat:=by rw[aL,aA,gI (by omega)]
    cases hD with
    |lstN=>
     have:i.toNat=0/\j.toNat=0/\L.toNat=0:=by simp at q3;omega
     obtain⟨z1,z2,z3⟩:=this;simp only[z1,z2,z3,List.take_nil,List.drop_nil,Option.map_none,ite_self];exact .lstN _ _
    |lstE _ _ ad=>
     have:i.toNat=0/\j.toNat=0/\L.toNat=0:=by simp at q3;omega
     obtain⟨z1,z2,z3⟩:=this;simp only[z1,z2,z3,List.take_nil,List.drop_nil,if_true];exact .lstE _ _ _
    |lst _ _ _ b off _ _ vl c6 b4 hl hg hh=>
     by_cases J:L.toNat=i.toNat
     ·rw[if_pos J]
      exact .lst _ _ _ b off _ _ vl Q.symm (by omega) (fun k hk=>by omega) (fun k j' hk hj=>by omega) (fun k j' hk hj=>by omega)
     ·rw[if_neg J,bo,cZ]
      refine .lst _ _ _ b (off+i.toNat*n) _ _ (fun k j'=>vl (i.toNat+k) j') Q.symm (by omega) (fun k hk=> ?_) (fun k j' hk hj=> ?_) (fun k j' hk hj=> ?_)
      ·rw[gO _ _ _ _ _ (by omega)];exact hl _ (by omega)
      ·rw[show off+i.toNat*n+k*n+j'=off+(i.toNat+k)*n+j' from by rw[bA];omega]
       exact hg _ _ (by omega) hj
      ·rw[gO _ _ _ _ _ (by omega)];exact hh _ _ (by omega) hj
   ·refine ub q0 I a0 Z (by omega) a3 ?_ ?_
    ·intro hh hx
     have z:y=none:=by cases y with|none=>rfl|some _=>simp at hx
     have a5:U=none:=by cases U with|none=>rfl|some _=>simp at hh
     subst a5;simp only[il,aq.injEq]at E;exact⟨E.symm,T z⟩
    ·intro hx
     have z:y≠none:=by rintro rfl;simp at hx
     rw[W z];exact q4 hx
 |psl o' b8 off k b3=>
  cases b3 with
  |none=>
   rw[hu]at H h1;simp only[jb]at H;split at H<;>try (cases H;done)
   rename_i i j O E;simp only[aq.injEq,bi.injEq]at H;obtain⟨rfl,rfl⟩:=H;obtain⟨q0,I,q2,rfl⟩:=hp;obtain⟨cp,c4,a4,he,a2,a9⟩:=h1.psl_invK;refine⟨_,run _ k cp i j cp he q0 I (by omega) (by omega) O E (fun _=>rfl) (fun h=>absurd rfl h), ?_⟩
   by_cases J:(cp:Int).toNat=i.toNat
   ·rw[if_pos J]
    exact .psl o' n _ _ _ a4 _ (.inl (by omega)) (by omega) (fun _ e=>by cases e) (fun _=> .inl (by omega))
   ·rw[if_neg J,bo,cZ]
    refine .psl o' n _ _ _ _ _ (.inr ?_) (by omega) (fun _ e=>by cases e) (fun _=>a9.imp (fun h=>by omega) fun k1=> ?_)
    rotate_left
    ·have e2:i.toNat*n+((cp:Int).toNat-i.toNat)*n=cp*n:=by rw[<-bA];congr 1;omega
     omega
    rcases a2 with h'|rfl
    ·omega
    ·rw[bA]
  |some c7=>
   rw[hu]at H h1;simp only[jb]at H;split at H<;>try (cases H;done)
   rename_i i j m O E a1;simp only[aq.injEq,bi.injEq]at H;obtain⟨rfl,rfl⟩:=H;obtain⟨q0,I,q2,q3,rfl⟩:=hp;obtain⟨cp,c4,b2,a4,he,a2⟩:=h1.psl_inv;obtain rfl:=b2 _ rfl;refine⟨_,run _ k c7 i j m he q0 I q2 q3 O E (fun h=> ?_) (fun _=>a1), ?_⟩
   ·subst h;simp only[il,aq.injEq]at a1;exact a1.symm
   ·by_cases J:m.toNat=i.toNat
    ·rw[if_pos J]
     exact .psl o' n _ _ _ a4 _ (.inl (by omega)) (by omega) (fun _ e=>by cases e;rfl) (fun e=>by cases e)
    ·rw[if_neg J,bo,cZ]
     refine .psl o' n _ _ _ _ _ (.inr ?_) (by omega) (fun _ e=>by cases e;rfl) (fun e=>by cases e);rcases a2 with h'|rfl
     ·omega
     ·rw[bA]
 |_=>rw[hu]at H;simp[jb]at H
end Go.Sy
namespace Go.Sy
variable [ba]
variable {P : Program} {C : Ctx} {x : Sit} {s : St} {a : Act} {w : World} {o : Oper} {so : SOp} {p : Prop} {c : SV}
theorem zi(l:t6)(i j:Nat):(ByteArray.mk ⟨l⟩).extract i j=ByteArray.mk ⟨(l.take j).drop i⟩:=by apply ByteArray.ext;simp[ByteArray.data_extract,List.extract_eq_take_drop,List.drop_take]
theorem Ch(hM:aM C x s a w){t:TypeId}{X:Operand}{lo hi W:Option Operand}(ho:o.op= .slice t X lo hi W)(z:bq P o=some so)(y:val s so=some (p,c))(hp:p):b9 P C o a w (s.put o.dst c):=by
 have I:execOp a.eval o=(do pure (.value (<-Instr.sliceAt t (a.eval X) (lo.map a.eval) (hi.map a.eval) (W.map a.eval)))):=by simp only[execOp,ho]
 simp only[bq,ho]at z;split at z<;>try (cases z;done)
 rename_i a5 a4 a1 r L J E hX;split at z
 ·cases z
 rename_i U;split at z<;>try (cases z;done)
 ·rename_i hd
  split at z<;>try (cases z;done)
  rename_i a0;cases z;have O:=aJ hM hX;simp only[val]at y;cases hu:s.ev r with
  |str l=>
   rw[hu]at y O;simp only[]at y;split at y<;>try (cases y;done)
   rename_i i j F H;simp only[aq.injEq,bi.injEq]at y;obtain⟨rfl,rfl⟩:=y;obtain⟨q0,q1,q2⟩:=hp;refine b9.val hM I (u:= .string ⟨⟨(l.take j.toNat).drop i.toNat⟩⟩) ?_ (kO _);have e1:=fF hM L F;have e2:=fF hM J H
   have Q:W.map a.eval=none:=by
    cases W with
    |none=>rfl
    |some q=>simp only[uy]at E;obtain⟨_,_,rfl⟩:=ah.1 E;simp at a0
   have hb:(Instr.sliceBounds false l.length l.length (lo.map a.eval) (hi.map a.eval) none).run P w= .ok (i.toNat,j.toNat,(l.length:Int).toNat) w:=
    rP q0 q1 q2 (by omega) (e1.imp (fun h=>⟨h.1,h.2.1⟩) (fun h=>h.1)) (e2.imp (fun h=>⟨h.1,h.2.1⟩) (fun h=>h.1)) (.inl ⟨rfl,rfl⟩)
   rw[O.str_inv,Q];have a2:(ByteArray.mk ⟨l⟩).size=l.length:=by simp[ByteArray.size]
   simp only[Instr.sliceAt,Instr.slice,az,run_underlying hd,aj,a2,hb,zi,Option.isSome_none,aI,if_false,aF]
  |_=>rw[hu]at y;simp at y
 ·rename_i e hd
  split at z<;>try (cases z;done)
  rename_i n hn;cases z;simp only[val]at y;obtain⟨v,T,hc⟩:=tL hM hd hn (aJ hM hX) L J E U y hp;exact b9.val hM I T hc
 ·rename_i k e hd
  split at z<;>try (cases z;done)
  rename_i n hn;cases z;have O:=aJ hM hX;simp only[val]at y;split at y<;>try (cases y;done)
  rename_i o' hu;rw[hu]at O;simp only[jb]at y;split at y<;>try (cases y;done)
  rename_i i j m F H a3;simp only[aq.injEq,bi.injEq]at y;obtain⟨rfl,rfl⟩:=y;obtain⟨q0,q1,q2,q3,_⟩:=hp;have e1:=fF hM L F;have e2:=fF hM J H;have e3:=fF hM E a3
  have hb:(Instr.sliceBounds false k k (lo.map a.eval) (hi.map a.eval) (W.map a.eval)).run P w= .ok (i.toNat,j.toNat,m.toNat) w:=by
   refine rP q0 q1 q2 q3 (e1.imp (fun h=>⟨h.1,h.2.1⟩) (fun h=>h.1)) (e2.imp (fun h=>⟨h.1,h.2.1⟩) (fun h=>h.1)) ?_;rcases e3 with h|⟨h,h'⟩
   ·exact .inl ⟨h.1,h.2.1⟩
   ·refine .inr ⟨h, ?_⟩
    rcases e2 with⟨_,_,q⟩|⟨⟨_,q⟩,_⟩
    ·exfalso;apply U;subst q;cases a1 with
     |none=>exact absurd rfl h'
     |some _=>rfl
    ·rw[q];simp
  refine b9.val hM I (u:= .slice (some (if m.toNat=i.toNat then⟨(x.bk o').1,0,none⟩else(⟨(x.bk o').1,0,none⟩:Addr).add (i.toNat*n))) (j.toNat-i.toNat) (m.toNat-i.toNat)) ?_ ?_
  ·rw[O.ptr_inv]
   simp only[Instr.sliceAt,Instr.sureAddr,az,run_underlying hd,aj,hb,cK hn,aF]
  ·by_cases Z:m.toNat=i.toNat
   ·rw[if_pos Z]
    exact .psl o' n _ _ _ 0 _ (.inl (by omega)) (by omega) (fun _ e=>by cases e;rfl) (fun e=>by cases e)
   ·rw[if_neg Z,cZ]
    exact .psl o' n _ _ _ _ _ (.inr (by rw[cf,cf])) (by omega) (fun _ e=>by cases e;rfl) (fun e=>by cases e)
theorem fC{h:Call}{b:Builtin}(y:o.op= .call h)(z:h.callee= .builtin b)(m:Sem Value)
 (E:builtin b h.argTypes o.type (h.args.map fun| .const _=>true|_=>false) (h.args.map a.eval)=(do pure (.value (<-m)))):execOp a.eval o=(do pure (.value (<-m))):=by
 rw[<-E];simp only[execOp,y,resolve,z];rfl
theorem Ow(hM:aM C x s a w){H:Call}(J:o.op= .call H)(I:H.callee= .builtin .cap)(F:bq P o=some so)(z:val s so=some (p,c)):b9 P C o a w (s.put o.dst c):=by
 simp only[bq,J,I]at F;split at F<;>try (cases F;done)
 rename_i X t hX ht;split at F<;>try (cases F;done)
 rename_i e r hd L;cases F;have E:=aJ hM L;have ea:H.args= #[X]:=by apply dI;simpa using hX
 have et:H.argTypes= #[t]:=by apply dI;simpa using ht
 have run:∀(bs:Option Addr)(n cp:Nat),a.eval X= .slice bs n cp->(Builtin.cap_ H.argTypes o.type (H.args.map a.eval)).run P w= .ok (.int .i64 cp) w:=by intro bs n cp h;rw[ea,et];simp[Builtin.cap_,run_underlying hd,h,goInt]
 simp only[val]at z;split at z<;>try (cases z;done)
 ·rename_i o' Z off n cp hu
  rw[hu]at E;simp only[aq.injEq,bi.injEq]at z;obtain⟨rfl,rfl⟩:=z;obtain⟨cp,_,O,U,h,_⟩:=E.psl_inv;obtain rfl:=O _ rfl;exact b9.val hM (fC J I _ rfl) (run _ _ _ h) (cJ _ _)
 ·rename_i l hu
  rw[hu]at E;simp only[aq.injEq,bi.injEq]at z;obtain⟨rfl,rfl⟩:=z;obtain⟨W,cp,h,_,_,Q,T,y⟩:=E.byt_inv;rw[h]at y;simp only[Value.slice.injEq]at y;rw[show cp=l.length from by omega]at h;exact b9.val hM (fC J I _ rfl) (run _ _ _ h) (cJ _ _)
 ·rename_i Z l hu
  rw[hu]at E;simp only[aq.injEq,bi.injEq]at z;obtain⟨rfl,rfl⟩:=z;obtain⟨W,cp,h,_,_,Q,T,y⟩:=E.lst_inv;rw[h]at y;simp only[Value.slice.injEq]at y;rw[show cp=l.length from by omega]at h;exact b9.val hM (fC J I _ rfl) (run _ _ _ h) (cJ _ _)
theorem Ou(hM:aM C x s a w){J:Call}(H:o.op= .call J)(F:J.callee= .builtin .len)(y:bq P o=some so)(h:val s so=some (p,c)):b9 P C o a w (s.put o.dst c):=by
 simp only[bq,H,F]at y;split at y<;>try (cases y;done)
 rename_i X t hX ht;have L:J.args= #[X]:=by apply dI;simpa using hX
 have O:J.argTypes= #[t]:=by apply dI;simpa using ht
 split at y<;>try (cases y;done)
 ·rename_i r hd z
  cases y;have E:=aJ hM z;simp only[val]at h;cases hu:s.ev r with
  |str l=>
   rw[hu]at h E;simp only[jF,if_true,aq.injEq,bi.injEq]at h;obtain⟨_,rfl⟩:=h;refine b9.val hM (fC H F _ rfl) (u:= .int .i64 l.length) ?_ (cJ _ _);rw[L,O];have Q:(ByteArray.mk ⟨l⟩).size=l.length:=by simp[ByteArray.size]
   simp only[Builtin.len_,List.map_toArray,aG,eU,wW,List.getElem?_cons_zero,az,run_underlying hd,aj,E.str_inv,Q,goInt];rfl
  |_=>rw[hu]at h;simp[jF]at h
 ·rename_i e r hd z
  cases y;have E:=aJ hM z;simp only[val]at h
  have run:∀(bs:Option Addr)(n cp:Nat),a.eval X= .slice bs n cp->(Builtin.len_ J.argTypes o.type (J.args.map a.eval)).run P w= .ok (.int .i64 n) w:=by intro bs n cp I;rw[L,O];simp only[Builtin.len_,List.map_toArray,aG,eU,wW,List.getElem?_cons_zero,az,run_underlying hd,aj,I,goInt];rfl
  cases hu:s.ev r with
  |byt l tk=>rw[hu]at h E;simp only[jF,aI,if_false,aq.injEq,bi.injEq]at h;obtain⟨_,rfl⟩:=h;obtain⟨W,cp,I,_⟩:=E.byt_inv;exact b9.val hM (fC H F _ rfl) (run _ _ _ I) (cJ _ _)
  |lst Z l tk=>rw[hu]at h E;simp only[jF,aI,if_false,aq.injEq,bi.injEq]at h;obtain⟨_,rfl⟩:=h;obtain⟨W,cp,I,_⟩:=E.lst_inv;exact b9.val hM (fC H F _ rfl) (run _ _ _ I) (cJ _ _)
  |psl o' Z off n cp=>rw[hu]at h E;simp only[jF,aI,if_false,aq.injEq,bi.injEq]at h;obtain⟨_,rfl⟩:=h;obtain⟨cp,_,a0,U,I,_⟩:=E.psl_inv;exact b9.val hM (fC H F _ rfl) (run _ _ _ I) (cJ _ _)
  |_=>rw[hu]at h;simp[jF]at h
 ·rename_i n e r hd z
  cases y;simp only[val,aq.injEq,bi.injEq]at h;obtain⟨_,rfl⟩:=h;refine b9.val hM (fC H F _ rfl) (u:= .int .i64 n) ?_ (cJ _ _);rw[L,O];simp only[Builtin.len_,List.map_toArray,aG,eU,wW,List.getElem?_cons_zero,az,run_underlying hd,aj,goInt];rfl
 ·rename_i arr r hd z
  split at y<;>try (cases y;done)
  rename_i n e T;cases y;simp only[val,aq.injEq,bi.injEq]at h;obtain⟨_,rfl⟩:=h;refine b9.val hM (fC H F _ rfl) (u:= .int .i64 n) ?_ (cJ _ _);rw[L,O];simp only[Builtin.len_,List.map_toArray,aG,eU,wW,List.getElem?_cons_zero,az,run_underlying hd,run_underlying T,aj,goInt];rfl
theorem nS(hM:aM C x s a w){E:Call}(J:o.op= .call E)(z:E.callee= .builtin .min\/E.callee= .builtin .max)(y:bq P o=some so)(h:val s so=some (p,c)):b9 P C o a w (s.put o.dst c):=by
 rcases z with z|z
 all_goals
  simp only[bq,J,z]at y;split at y<;>try (cases y;done)
  rename_i X Y t u hX W;split at y<;>try (cases y;done)
  rename_i r q F H;cases y;have I:=aJ hM F;have L:=aJ hM H;have T:E.args= #[X,Y]:=by apply dI;simpa using hX
  simp only[val]at h;split at h<;>try (cases h;done)
  rename_i k m U n hu Q;rw[hu]at I;rw[Q]at L;split at h<;>try (cases h;done)
  rename_i O;subst O;simp only[aq.injEq,bi.injEq]at h;obtain⟨_,rfl⟩:=h;refine b9.val hM (fC J z _ rfl) ?_ (cJ _ _);rw[T,show(#[X,Y].map a.eval)= #[.int k m,.int k n]from by simp[I.int_inv,L.int_inv]]
  first
   |exact run_min_int2 w _ _ _ _ _ _
   |rw[run_max_int2 w _ _ _ _ _ _]
end Go.Sy
namespace Go.Sy
variable [ba]
variable {P : Program} {C : Ctx} {x : Sit} {s : St} {a : Act} {w : World} {o : Oper} {so : SOp} {p : Prop} {c : SV}
theorem iV{e:TypeId}(h:lC P e=true):P.underlying e=some (.int .u8):=by
 unfold lC at h;split at h
 ·assumption
 ·cases h
theorem OD(k:IntKind)(b:UInt8)(h:k≠ .i8)(y:k≠ .u8):k.wrap (b.toNat:Int)=b.toNat:=by have:=lc b;cases k<;>simp[IntKind.wrap,IntKind.bits,IntKind.signed]at* <;>omega
theorem wu(ns:t6):∀(s:ByteArray),(ns.map fun b=>(b.toNat:Int)).foldl (fun r n=>r.push (ed n.toNat)) s=⟨⟨s.data.toList++ns⟩⟩:=by
 induction ns with
 |nil=>intro s;simp
 |cons b r h=>intro s;simp only[aG,cz];rw[h];simp[ByteArray.push]
theorem zu{bs:Value}{l:t6}{y dst e:TypeId}(z:P.underlying y=some (.slice e))(E:P.underlying e=some (.int .u8))(hd:P.underlying dst=some .string)
 (h:((∃a,bs= .slice a 0 0)/\l=[])\/∃b off cap,bs= .slice (some ⟨b,off,none⟩) l.length cap/\∀i,i<l.length->w.cell? ⟨b,off+i,none⟩=some (.int .u8 (l.getD i 0).toNat)):
 (convert y dst bs).run P w= .ok (.string ⟨⟨l⟩⟩) w:=by
 rcases h with⟨⟨a,rfl⟩,rfl⟩|⟨b,off,cap,rfl,hc⟩
 ·rw[run_convert_bytes_string w y dst e _ _ _ z E hd];cases a<;>rfl
 ·rw[run_convert_bytes_string w y dst e _ _ _ z E hd]
  have F:(loadCells ⟨b,off,none⟩ l.length).run P w= .ok ((l.map fun b=>(b.toNat:Int)).map (Value.int .u8)).toArray w:=by
   rw[run_loadCells w _ _ (fun i=> .int .u8 (l.getD i 0).toNat) (fun j H=>by rw[cZ];exact hc j H)]
   congr 2
   apply List.ext_getElem?;intro i
   by_cases hi:i<l.length
   ·simp[hi,aa]
   ·simp[hi]
  rw[run_bytesToString w _ _ _ _ F,wu];rfl
theorem gr(w:World)(cs:LAb)(e:TypeId):((w.alloc (.cells cs e (0,0))).freeze ⟨w.heap.size,cs.size,none⟩ 1).heap=(w.alloc (.cells cs e (cs.size,cs.size+1))).heap:=by
 apply Array.ext_getElem?;intro i;simp only[World.freeze,Nat.one_ne_zero,if_false,World.alloc,Array.getElem?_modify,Array.getElem?_push]
 by_cases h:w.heap.size=i
 ·subst h;simp
 ·rw[if_neg h]
  have:¬i=w.heap.size:=fun e=>h e.symm
  simp[this]
theorem eh{b n:Nat}{e:TypeId}{off:Nat}(h:w.shape? b=some (e,n)):(markStringish ⟨b,off,none⟩).run P w= .ok () (w.freeze ⟨b,n,none⟩ 1):=by simp only[markStringish,az,run_shape,aj,h,run_freeze]
theorem tJ(hM:aM C x s a w){T dst:TypeId}{X:Operand}(ho:o.op= .convert T dst X)(I:bq P o=some so)(y:val s so=some (p,c))(hp:p):b9 P C o a w (s.put o.dst c):=by
 have J:execOp a.eval o=(do pure (.value (<-convert T dst (a.eval X)))):=by simp only[execOp,ho]
 simp only[bq,ho]at I;split at I<;>try (cases I;done)
 ·rename_i k0 k r Q hd F
  cases I;have E:=aJ hM F;simp only[val]at y;obtain⟨c',z,L⟩:=ah.1 y;simp only[bi.injEq]at L;obtain⟨_,rfl⟩:=L
  have run:∀k1 n,a.eval X= .int k1 n->(convert T dst (a.eval X)).run P w= .ok (.int k (k.wrap n)) w:=by intro k1 n L;rw[L];simp[convert,run_underlying Q,run_underlying hd,Conv.intToInt]
  cases hu:s.ev r with
  |int k1 n=>
   rw[hu]at z E;refine b9.val hM J (run k1 n E.int_inv) ?_
   cases k<;>simp only[gS,aq.injEq]at z<;>subst z<;>first
    |exact cJ _ _
    |(rw[fI,<-tP];exact nE _)
  |u8 b=>
   rw[hu]at z E;refine b9.val hM J (run .u8 b.toNat E.u8_inv) ?_
   cases k<;>simp only[gS,aq.injEq,reduceCtorEq]at z<;>subst z<;>first
    |(rw[OD _ _ (by decide) (by decide)];exact cJ _ _)
    |(rw[fI,Int.emod_eq_of_lt (by omega) (by have:=lc b;omega)];exact nE _)
  |_=>rw[hu]at z;simp[gS]at z
 ·rename_i r Q hd F
  cases I;have E:=aJ hM F;simp only[val]at y;cases hu:s.ev r with
  |str l=>rw[hu]at y E;simp only[aq.injEq,bi.injEq]at y;obtain⟨_,rfl⟩:=y;refine b9.val hM J (u:= .string ⟨⟨l⟩⟩) ?_ (kO _);rw[E.str_inv];simp[convert,run_underlying Q,run_underlying hd]
  |_=>rw[hu]at y;simp at y
 ·rename_i e r Q hd F
  split at I<;>try (cases I;done)
  rename_i h8;have L:=iV h8;cases I;have E:=aJ hM F;simp only[val]at y;cases hu:s.ev r with
  |byt l tk=>
   rw[hu]at y E;simp only[wL,aq.injEq,bi.injEq]at y;obtain⟨_,rfl⟩:=y;refine b9.val hM J (zu Q L hd ?_) (kO _);have hD:=E.data rfl;cases hXv:a.eval X with
   |slice ad n cp=>
    rw[hXv]at hD;cases hD with
    |bytN=>exact .inl ⟨⟨_,rfl⟩,rfl⟩
    |bytE=>exact .inl ⟨⟨_,rfl⟩,rfl⟩
    |byt _ _ b off _ _ hn hc hg=>subst hn;exact .inr ⟨b,off,cp,rfl,fun i hi=>hM.heap.per _ _ _ (hg i hi)⟩
   |_=>rw[hXv]at hD;cases hD
  |psl o' sz off n cp=>
   rw[hu]at y E;simp only[wL]at y;cases hl:s.look o' with
   |none=>simp[hl]at y
   |some obj=>
    cases obj with
    |bar l=>
     simp only[hl,aq.injEq,bi.injEq]at y;obtain⟨rfl,rfl⟩:=y;obtain⟨a1,a5⟩:=hp;obtain⟨cp,a6,_,H,a4,Z⟩:=E.psl_inv;have O:((l.drop off).take n).length=n:=by simp;omega
     refine b9.val hM J (zu Q L hd (.inr ⟨(x.bk o').1,H,cp,by rw[O];exact a4,fun i hi=> ?_⟩)) (kO _);rw[O]at hi
     have U:H=off:=by
      rcases Z with h|h
      ·omega
      ·rw[a1,iu]at h;exact h
     subst U;obtain⟨v,h2,h3⟩:=(eo hM hl).cell (k:=H+i) (by simp only[aC.size];omega);rw[h2];have h4:cE x.G (.u8 (l.getD (H+i) 0)) v:=h3;cases h4;simp only[aa,bE,if_pos hi,bx]
    |_=>simp[hl]at y
  |_=>rw[hu]at y;simp[wL]at y
 ·rename_i e r Q hd F
  split at I<;>try (cases I;done)
  rename_i h8;have L:=iV h8;cases I;have E:=aJ hM F;simp only[val]at y;cases hu:s.ev r with
  |str l=>
   rw[hu]at y E;simp only[aq.injEq,bi.injEq]at y;obtain⟨_,rfl⟩:=y;have hf:(Question.appendCap (ByteArray.mk ⟨l⟩).size 0 e).forced=false:=rfl
   obtain⟨cp,a2,a3⟩:∃cp,(Question.appendCap (ByteArray.mk ⟨l⟩).size 0 e).cut (w.tape w.drawn (Question.appendCap (ByteArray.mk ⟨l⟩).size 0 e))=cp/\l.length<=cp:=by
    refine⟨_,rfl, ?_⟩;simp only[Question.cut];have:(ByteArray.mk ⟨l⟩).size=l.length:=by simp[ByteArray.size]
    omega
   let cs:LAb:=(ByteArray.mk ⟨l⟩).data.map (fun b=> .int .u8 b.toNat)++dO (cp-(ByteArray.mk ⟨l⟩).size) (.int .u8 0)
   have a0:(ByteArray.mk ⟨l⟩).size=l.length:=by simp[ByteArray.size]
   have a7:cs.size=cp:=by simp[cs,a0];omega
   have W:∀i,i<l.length->cs[i]? =some (.int .u8 (l.getD i 0).toNat):=by intro i hi;simp only[cs];rw[Array.getElem?_append_left (by simpa using hi)];simp[hi,aa]
   have hw:∀w0:World,((w0.alloc (.cells cs e (0,0))).freeze ⟨w0.heap.size,cs.size,none⟩ 1).heap=(w0.alloc (.cells cs e (cs.size,cs.size+1))).heap:=fun w0=>gr w0 cs e
   refine b9.grow (x':=x.newD w.heap.size cs l.length) (w':=((w.drew.alloc (.cells cs e (0,0))).freeze ⟨w.heap.size,cs.size,none⟩ 1)) hM J (u:= .slice (some ⟨w.heap.size,0,none⟩) l.length cp) ?_ (hM.heap.newD_le cs l.length) rfl rfl ?_ ?_
   ·rw[E.str_inv]
    simp only[convert,az,run_underlying Q,run_underlying hd,aj,run_underlying L,Conv.stringToBytes,run_choose_drew,hf,aI,if_false,a2,newRow,run_newObj_alloc,aF];rw[eh (e:=e) (n:=cs.size) (by simp only[World.shape?];rw[dw])];simp only[aj,a0];rfl
   ·refine cW.congr (w:=(w.drew.alloc (.cells cs e (cs.size,cs.size+1)))) ?_ (hw w.drew) rfl rfl rfl
    exact hM.heap.drew.allocD l.length
   ·refine .dat _ _ (.byt l .no w.heap.size 0 cp l.length rfl a3 fun i hi=> ?_) trivial
    simp only[Sit.newD];rw[if_pos ⟨trivial,by omega⟩,cf];exact W i hi
  |_=>rw[hu]at y;simp at y
 ·split at I<;>try (cases I;done)
  cases I;simp only[val]at y;cases y
end Go.Sy
namespace Go.Sy
variable [ba]
variable {P : Program} {C : Ctx} {x : Sit} {s : St} {a : Act} {w : World} {o : Oper} {so : SOp} {p : Prop} {c : SV}
theorem cC{t:TypeId}{vs:LAa}(h:fN P t=some vs):∃z:Value,z.cells.toList=vs/\∀w:World,(zeroValue t).run P w= .ok z w:=by
 unfold fN at h;cases hi:P.info? t with
 |none=>simp[hi]at h
 |some i=>simp only[hi,cP]at h;obtain⟨z,hz,rfl⟩:=ah.1 h;exact⟨z,rfl,fun w=>by simp[zeroValue,run_typeInfo w hi,hz]⟩
theorem C6{cs:t7}{vs:LAa}(h:DW cs vs=true):cy x cs vs:=by unfold DW at h;simp only[aB,decide_eq_true_eq,aT,jx]at h;exact⟨h.1,fun i hi=>pf (h.2 i hi)⟩
theorem qz{t:TypeId}{cs:t7}(h:lM P t=some cs):∃vs,fN P t=some vs/\cy x cs vs:=by
 unfold lM at h;cases hz:fN P t with
 |none=>simp[hz]at h
 |some vs=>
  simp only[hz,cP]at h;cases hc:Dx P (mm P 30 t) vs with
  |none=>simp[hc]at h
  |some r=>
   simp only[hc,cP]at h;split at h
   ·rename_i y;simp at h;subst h;exact⟨vs,rfl,C6 y⟩
   ·cases h
theorem i6{t:TypeId}{cs:t7}(h:lM P t=some cs):∃vs,fN P t=some vs/\cs.length=vs.length/\∀(G:GM) i,i<cs.length->cE G (cs.getD i .undef) (vs.getD i undef):=by
 unfold lM at h;cases hz:fN P t with
 |none=>simp[hz]at h
 |some vs=>
  simp only[hz,cP]at h;cases hc:Dx P (mm P 30 t) vs with
  |none=>simp[hc]at h
  |some r=>
   simp only[hc,cP]at h;split at h
   ·rename_i y;simp at h;subst h
    unfold DW at y;simp only[aB,decide_eq_true_eq,aT,jx]at y;exact⟨vs,rfl,y.1,fun G i hi=>lO (y.2 i hi)⟩
   ·cases h
theorem Rep.cells{v:SV}{u:Value}(h:Rep x v u)(hd:v.isDef=true):cy x v.cells u.cells.toList:=by
 have one:∀{v:SV}{u:Value},Rep x v u->v.cells=[v]->u.cells= #[u]->cy x v.cells u.cells.toList:=by
  intro v u h E J;rw[E,J]
  exact⟨rfl,fun i hi=>by
   obtain rfl:i=0:=by simpa using hi
   exact h⟩
 cases h with
 |undef=>simp[SV.isDef]at hd
 |agg cs vs F H=>exact⟨F,H⟩
 |dat s v h T=>exact one (.dat _ _ h T) (by cases h<;>rfl) (by cases h<;>rfl)
 |ptr o off=>exact one (.ptr o off) rfl rfl
 |ap o I i j=>exact one (.ap o I i j) rfl rfl
 |psl o I off n cap y z h hn L O=>exact one (.psl o I off n cap y z h hn L O) rfl rfl
 |tup cs vs F H=>exact one (.tup cs vs F H) rfl rfl
 |fn f a b u v E J U Q=>exact one (.fn f a b u v E J U Q) rfl rfl
theorem fO{α:Type}(cs v:List α)(q i:Nat)(h:q+v.length<=cs.length):(cs.take q++v++cs.drop (q+v.length))[i]? =if q<=i/\i<q+v.length then v[i-q]? else cs[i]? :=by
 simp only[List.getElem?_append,af,aA,bE,bx];have E:min q cs.length=q:=gI (by omega);rw[E]
 by_cases y:i<q
 ·rw[if_pos (by omega),if_pos y,if_pos y,if_neg (by omega)]
 ·by_cases z:i<q+v.length
  ·rw[if_pos z,if_neg y,if_pos ⟨by omega,z⟩]
  ·rw[if_neg z,if_neg (by omega)];congr 1;omega
theorem Dd(off:Nat)(v:LAa):∀(cs:LAb)(k i:Nat),off+k+v.length<=cs.size->
 ((v.zipIdx k).foldl (fun cs (c,j)=>cs.setIfInBounds (off+j) c) cs)[i]? =if off+k<=i/\i<off+k+v.length then v[i-(off+k)]? else cs[i]? :=by
 induction v with
 |nil=>intro cs k i h;rw[if_neg (by simp only[bl];omega)];rfl
 |cons u r E=>
  intro cs k i h;simp only[ay]at h;simp only[List.zipIdx_cons,cz];rw[E _ (k+1) i (by simp;omega)];simp only[ay,Array.getElem?_setIfInBounds]
  by_cases z:off+k=i
  ·subst z
   rw[if_neg (by omega),if_pos rfl,if_pos (by omega),if_pos (by omega)];simp
  ·by_cases y:off+(k+1)<=i/\i<off+(k+1)+r.length
   ·rw[if_pos y,if_pos (by omega),show i-(off+k)=(i-(off+(k+1)))+1 from by omega]
    simp
   ·rw[if_neg y,if_neg z,if_neg (by omega)]
theorem qX(cs:LAb)(off:Nat)(v:LAa)(h:off+v.length<=cs.size):
 (v.zipIdx.foldl (fun cs (c,j)=>cs.setIfInBounds (off+j) c) cs).toList=cs.toList.take off++v++cs.toList.drop (off+v.length):=by
 apply List.ext_getElem?;intro i;rw[fO _ _ _ _ (by simpa using h)];have:=Dd off v cs 0 i (by simpa using h);simpa using this
theorem cy.append{c1 c2:t7}{v1 z:LAa}(y:cy x c1 v1)(E:cy x c2 z):cy x (c1++c2) (v1++z):=by
 refine⟨by simp[y.1,E.1],fun i hi=> ?_⟩;simp only[aa,List.getElem?_append]
 by_cases h:i<c1.length
 ·rw[if_pos h,if_pos (by rw[<-y.1];exact h)]
  simpa only[aa]using y.2 i h
 ·rw[if_neg h,if_neg (by rw[<-y.1];exact h),y.1]
  have:=E.get (i-v1.length);simpa only[aa]using this
theorem cy.take{c1:t7}{v1:LAa}(y:cy x c1 v1)(n:Nat):cy x (c1.take n) (v1.take n):=by
 refine⟨by simp[y.1],fun i hi=> ?_⟩;have h:i<n/\i<c1.length:=by simp only[aA]at hi;omega
 simp only[aa,bE,if_pos h.1];simpa only[aa]using y.2 i h.2
theorem cy.drop{c1:t7}{v1:LAa}(h:cy x c1 v1)(n:Nat):cy x (c1.drop n) (v1.drop n):=by refine⟨by simp[h.1],fun i hi=> ?_⟩;simp only[aa,bx];have:=h.get (n+i);simpa only[aa]using this
theorem oO(hM:aM C x s a w)(E:Nat->Option (Nat×Nat)):∀(F:List (Nat×Operand))(z:List (Nat×Nat×Arg))(cs:t7)(vs:LAb)(r:t7),cy x cs vs.toList->
 z.length=F.length->(∀i (h:i<F.length) (Z:i<z.length),E F[i].1=some (z[i].1,z[i].2.1)/\∃t,bp P t F[i].2=some z[i].2.2)->
 ir cs (z.map fun(o,n,y)=>(o,n,s.ev y))=some r->∃us,Instr.fill E vs (F.map fun(i,y)=>(i,a.eval y))=some us/\cy x r us.toList:=by
 intro F;induction F with
 |nil=>
  intro z cs vs r h O _ H;have:z=[]:=by simpa using O
  subst this;simp only[eU,ir,aq.injEq]at H;subst H;exact⟨vs,rfl,h⟩
 |cons q F ih=>
  intro z cs vs r h O L H;cases z with
  |nil=>simp at O
  |cons q' z=>
   obtain⟨qo,W,qy⟩:=q';obtain⟨U,t,ht⟩:=L 0 (by simp) (by simp);simp only[List.getElem_cons_zero]at U ht;have I:=aJ hM ht;simp only[aG,ir]at H;split at H<;>try (cases H;done)
   rename_i hc;obtain⟨Q,T,a1⟩:=hc;have hL:=I.cells Q;have J:(a.eval q.2).cells.size=W:=by rw[<-T,<-aO];exact hL.1.symm
   have a0:vs.size=cs.length:=by rw[<-aO];exact h.1.symm
   simp only[aG,Instr.fill,U];rw[if_neg (by simp[J];omega)];refine ih z _ _ r ?_ (by simpa using O) (fun i h Z=> ?_) H
   ·rw[<-Array.foldl_toList,Array.toList_zipIdx,qX _ _ _ (by rw[aO];omega)]
    have e1:(a.eval q.2).cells.toList.length=W:=by simpa using J
    rw[e1];exact((h.take _).append hL).append (h.drop _)
   ·have:=L (i+1) (by simpa using h) (by simpa using Z)
    simpa using this
theorem eH{α β:Type}{f:α->Option β}:∀{l:List α}{r:List β},ji f l=some r->r.length=l.length/\∀i (h:i<l.length) (z:i<r.length),f l[i]=some r[i]:=by
 intro l;induction l with
 |nil=>intro r h;simp only[ji]at h;cases h;exact⟨rfl,fun i h=>by simp at h⟩
 |cons q l I=>
  intro r h;simp only[ji]at h;split at h<;>try (cases h;done)
  rename_i b J F y;cases h;obtain⟨E,H⟩:=I y;refine⟨by simp[E],fun i h z=> ?_⟩;cases i with
  |zero=>simpa using F
  |succ i=>simpa using H i (by simpa using h) (by simpa using z)
theorem nl(y:Array Field)(h:∀f∈y.toList,(P.info? f.type).isSome=true)(w:World):
 (y.mapM fun f=>do pure (f.offset,<-sizeOf f.type):Sem (Array (Nat×Nat))).run P w= .ok (y.toList.map fun f=>(f.offset,(fi P f.type).getD 0)).toArray w:=by
 rw[Array.mapM_eq_mapM_toList]
 have:∀l:List Field,(∀f∈l,(P.info? f.type).isSome=true)->(l.mapM fun f=>do pure (f.offset,<-sizeOf f.type):Sem (List (Nat×Nat))).run P w= .ok (l.map fun f=>(f.offset,(fi P f.type).getD 0)) w:=by
  intro l;induction l with
  |nil=>intro _;rfl
  |cons f l H=>
   intro h;have F:=h f (by simp);obtain⟨i,hi⟩:=Option.isSome_iff_exists.1 F;have z:fi P f.type=some i.size:=by simp[fi,hi]
   simp only[List.mapM_cons,az,cK z,aj,aF,H (fun g E=>h g (an _ E)),aG,z,bj]
 rw[Sem.run_map,this _ h];rfl
theorem Ck(hM:aM C x s a w){t:TypeId}{E:Array (Nat×Operand)}(ho:o.op= .build t E)(I:bq P o=some so)(hv:val s so=some (p,c)):b9 P C o a w (s.put o.dst c):=by
 have a4:execOp a.eval o=(do pure (.value (<-Instr.build t (E.map fun(i,y)=>(i,a.eval y))))):=by simp only[execOp,ho]
 simp only[bq,ho]at I;split at I<;>try (cases I;done)
 ·rename_i fs z hd hz
  split at I<;>try (cases I;done)
  rename_i a2;obtain⟨qs,T,rfl⟩:=ah.1 I;obtain⟨vs,J,hL⟩:=qz hz;obtain⟨zv,a0,U⟩:=cC J;obtain⟨Q,L⟩:=eH T;simp only[val]at hv;obtain⟨r,hf,O⟩:=ah.1 hv;simp only[bi.injEq]at O;obtain⟨_,rfl⟩:=O;have W:∀f∈fs.toList,(P.info? f.type).isSome=true:=aT.1 a2
  obtain⟨us,Z,F⟩:=oO hM (fun i=>(fs.toList.map fun f=>(f.offset,(fi P f.type).getD 0)).toArray[i]?) E.toList qs z zv.cells r (by rw[a0];exact hL) Q (by
   intro i h h';have:=L i h h';generalize E.toList[i]=pi at*;generalize qs[i]=qi at*;cases hfi:fs[pi.1]? with
   |none=>simp[hfi]at this
   |some f=>
    simp only[hfi]at this;cases hn:fi P f.type with
    |none=>simp[hn]at this
    |some n=>
     cases H:bp P f.type pi.2 with
     |none=>simp[hn,H]at this
     |some ar=>
      simp only[hn,H,aq.injEq]at this;rw[<-this];refine⟨?_,f.type,H⟩;have a3:fs.toList[pi.1]? =some f:=by simpa using hfi
      simp[a3,hn]) hf
  refine b9.val hM a4 (u:= .agg us) ?_ ?_
  ·have a1:(E.map fun(i,y)=>(i,a.eval y)).toList=E.toList.map fun(i,y)=>(i,a.eval y):=by simp
   simp only[Instr.build,az,U,aj,run_underlying hd,nl fs W,a1];rw[Z];rfl
  ·obtain⟨us⟩:=us
   exact .agg _ _ F.1 F.2
 ·rename_i k e z hd hz
  split at I<;>try (cases I;done)
  rename_i n hn;obtain⟨qs,T,rfl⟩:=ah.1 I;obtain⟨vs,J,hL⟩:=qz hz;obtain⟨zv,a0,U⟩:=cC J;obtain⟨Q,L⟩:=eH T;simp only[val]at hv;obtain⟨r,hf,O⟩:=ah.1 hv;simp only[bi.injEq]at O;obtain⟨_,rfl⟩:=O
  obtain⟨us,Z,F⟩:=oO hM (fun i=>some (i*n,n)) E.toList qs z zv.cells r (by rw[a0];exact hL) Q (fun i h h'=>by have:=L i h h';obtain⟨ar,H,O⟩:=ah.1 this;rw[<-O];exact⟨rfl,e,H⟩) hf
  refine b9.val hM a4 (u:= .agg us) ?_ ?_
  ·have a1:(E.map fun(i,y)=>(i,a.eval y)).toList=E.toList.map fun(i,y)=>(i,a.eval y):=by simp
   simp only[Instr.build,az,U,aj,run_underlying hd,cK hn,a1];rw[Z];rfl
  ·obtain⟨us⟩:=us
   exact .agg _ _ F.1 F.2
end Go.Sy
namespace Go.Sy
variable [ba]
variable {P : Program} {C : Ctx} {x : Sit} {s : St} {a : Act} {w : World} {o : Oper} {so : SOp} {p : Prop} {c : SV}
theorem mI(n:Nat):∀(us:LAa)(k:Nat)(vs:LAb),(∀u∈us,u.cells.size=n)->(k+us.length)*n<=vs.size->
 ∃r,Instr.fill (fun i=>some (i*n,n)) vs ((us.zipIdx k).map fun q=>(q.2,q.1))=some r/\r.toList=vs.toList.take (k*n)++(us.flatMap fun u=>u.cells.toList)++vs.toList.drop ((k+us.length)*n):=by
 intro us;induction us with
 |nil=>intro k vs _ _;exact⟨vs,rfl,by simp⟩
 |cons u us Q=>
  intro k vs hu O;have y:=hu u (by simp);have F:(k+(u::us).length)*n=k*n+n+us.length*n:=by simp only[ay,bA,dD];omega
  have E:(k+1)*n=k*n+n:=dD k n;rw[F]at O;have h:=qX vs (k*n) u.cells.toList (by rw[aO,y];omega);rw[aO,y]at h
  obtain⟨r,I,H⟩:=Q (k+1) (u.cells.toList.zipIdx.foldl (fun cs (c,j)=>cs.setIfInBounds (k*n+j) c) vs) (fun q J=>hu q (an _ J)) (by rw[<-aO,h];simp only[af,aA,aL,aO,y];rw[bA,E];omega)
  refine⟨r, ?_, ?_⟩
  ·simp only[List.zipIdx_cons,aG,Instr.fill]
   rw[if_neg (by simp[y];omega)];rw[<-Array.foldl_toList,Array.toList_zipIdx];exact I
  ·rw[H,h,E,F]
   have L:(k+1+us.length)*n=k*n+n+us.length*n:=by rw[bA,E]
   rw[L];have z:(vs.toList.take (k*n)++u.cells.toList).length=k*n+n:=by simp[y];omega
   rw[List.take_append_of_le_length (by rw[z];exact aN _),bT (by rw[z];exact aN _),List.drop_append,br (by rw[z];omega),z,fq];simp only[jw,aK,ax]
   congr 3
   congr 1;omega
theorem uo{n:Nat}:∀{vs:t7}{r:f8},rows n vs=some r->r.length=vs.length/\∀i,i<vs.length->(vs.getD i .undef).isDef=true/\(vs.getD i .undef).cells.length=n/\
 (∀z∈(vs.getD i .undef).cells,z.isData=true)/\r.getD i []=(vs.getD i .undef).cells.map SV.data:=by
 intro vs;induction vs with
 |nil=>intro r h;simp only[rows,aq.injEq]at h;subst h;exact⟨rfl,fun i hi=>by simp at hi⟩
 |cons v vs I=>
  intro r h;simp only[rows]at h;split at h<;>try (cases h;done)
  rename_i y;obtain⟨J,E,rfl⟩:=ah.1 h;obtain⟨F,H⟩:=I E;refine⟨by simp[F],fun i hi=> ?_⟩;cases i with
  |zero=>exact⟨y.1,y.2.1,aT.1 y.2.2,rfl⟩
  |succ i=>simpa using H i (by simpa using hi)
theorem rM:∀{vs:t7}{r:t6},toB vs=some r->vs=r.map .u8:=by
 intro vs;induction vs with
 |nil=>intro r h;simp only[toB,aq.injEq]at h;subst h;rfl
 |cons v vs z=>intro r h;cases v<;>simp only[toB,reduceCtorEq]at h;obtain⟨E,y,rfl⟩:=ah.1 h;rw[z y];rfl
theorem jU{n:Nat}{us:LAa}(h:∀u∈us,u.cells.size=n){i j:Nat}(hi:i<us.length)(F:j<n):
 (us.flatMap fun u=>u.cells.toList)[i*n+j]? =(us.getD i undef).cells.toList[j]? :=by
 induction us generalizing i with
 |nil=>simp at hi
 |cons u us E=>
  have y:=h u (by simp);simp only[jw];cases i with
  |zero=>rw[bc (by simp[y];omega)];simp
  |succ i=>rw[bw (by simp[y,dD];omega)];have:=E (fun q z=>h q (an _ z)) (i:=i) (by simpa using hi);rw[show(i+1)*n+j-u.cells.toList.length=i*n+j from by simp[y,dD];omega];simpa using this
theorem nQ(hM:aM C x s a w){t:TypeId}{len:Nat}{h:Array (Nat×Operand)}(ho:o.op= .buildSlice t len h)(hr:bq P o=some so)(hv:val s so=some (p,c)):b9 P C o a w (s.put o.dst c):=by
 have a8:execOp a.eval o=(do pure (.value (<-dB t len (h.map fun(i,y)=>(i,a.eval y))))):=by simp only[execOp,ho]
 simp only[bq,ho]at hr;split at hr<;>try (cases hr;done)
 rename_i e hd;split at hr<;>try (cases hr;done)
 rename_i n zv hn c6;split at hr<;>try (cases hr;done)
 rename_i T;simp only[aB,decide_eq_true_eq]at T;obtain⟨⟨a0,d7⟩,d4⟩:=T;obtain⟨qs,c4,rfl⟩:=ah.1 hr;obtain⟨b3,c7⟩:=eH c4;obtain⟨z,d8,d6⟩:=cC c6;have Q:h.toList.length=len:=by have:=congrArg List.length a0;simpa using this
 obtain⟨us,Z⟩:∃us:LAa,us=h.toList.map fun q=>a.eval q.2:=⟨_,rfl⟩
 have F:us.length=len:=by rw[Z];simpa using Q
 have J:cy x (qs.map s.ev) us:=by
  refine⟨by rw[Z];simp[b3],fun i hi=> ?_⟩;have a5:i<qs.length:=by simpa using hi
  have:=aJ hM (c7 i (by omega) a5);rw[Z];simp only[aa,aR,ab a5,ab (show i<h.toList.length from by omega),bo,bj];exact this
 have c3:(h.map fun(i,y)=>(i,a.eval y)).toList=(us.zipIdx 0).map fun q=>(q.2,q.1):=by
  rw[Z];apply List.ext_getElem
  ·simp
  ·intro i O h2
   simp only[Array.toList_map,aS,aO]at O;have:(h.toList.map (·.1))[i]? =(bU len)[i]? :=by rw[a0]
   have hi:i<len:=by rw[<-Q];simpa using O
   simp only[aR,cL hi]at this;rw[ab (by simpa using O)]at this;simp at this;simp[this]
 have a1:(∀u∈us,u.cells.size=n)->∃r:LAb,(∀i j,i<len->j<n->r[i*n+j]? =(us.getD i undef).cells.toList[j]?)/\r.size=len*n/\
  (dB t len (h.map fun(i,y)=>(i,a.eval y))).run P w= .ok (.slice (some ⟨w.heap.size,0,none⟩) len len) (w.alloc (.cells r e (0,0))):=by
  intro a2
  have fin:∀zz:LAb,∃r:LAb,Instr.fill (fun i=>some (i*n,n)) ((Array.range (len*n)).map (fun i=>zz[i % zz.size]!)) (h.map fun(i,y)=>(i,a.eval y)).toList=some r/\
   (∀i j,i<len->j<n->r[i*n+j]? =(us.getD i undef).cells.toList[j]?)/\r.size=len*n:=by
   intro zz;obtain⟨r,b6,a3⟩:=mI n us 0 ((Array.range (len*n)).map (fun i=>zz[i % zz.size]!)) a2 (by simp[F])
   have I:r.toList=us.flatMap fun u=>u.cells.toList:=by rw[a3];simp[F]
   refine⟨r,by rw[c3];exact b6,fun i j hi hj=> ?_, ?_⟩
   ·rw[<-cY,I,jU a2 (by omega) hj]
   ·rw[<-aO,I,List.length_flatMap]
    have:us.map (fun u=>u.cells.toList.length)=ao us.length n:=by
     apply List.ext_getElem
     ·simp
     ·intro i O h2
      simp;exact a2 _ (bn _)
    rw[this];simp[F]
  by_cases h0:len*n=0
  ·obtain⟨r,hf,O,h2⟩:=fin #[]
   refine⟨r,O,h2, ?_⟩;simp only[dB,az,run_underlying hd,aj,cK hn];rw[if_neg (by omega),if_pos h0];simp only[az,aF,aj];rw[hf];rfl
  ·obtain⟨r,hf,O,h2⟩:=fin z.cells
   refine⟨r,O,h2, ?_⟩;simp only[dB,az,run_underlying hd,aj,cK hn];rw[if_neg (by omega),if_neg h0];simp only[az,aF,aj,d6];rw[hf];rfl
 have E:∀i,i<len->i<(qs.map s.ev).length:=fun i hi=>by rw[J.1,F];exact hi
 cases h8:lC P e with
 |true=>
  simp only[h8,if_true,val]at hv;obtain⟨l,hl,he⟩:=ah.1 hv;simp only[bi.injEq]at he;obtain⟨_,rfl⟩:=he;have hq:=rM hl;have d5:l.length=len:=by have:=congrArg List.length hq;simp only[aS]at this;rw[<-this,b3,Q]
  have a9:∀i,i<len->us.getD i undef= .int .u8 (l.getD i 0).toNat:=by
   intro i hi;have:=J.2 i (E i hi);rw[hq]at this
   have e1:(l.map SV.u8).getD i .undef= .u8 (l.getD i 0):=by simp only[aa,aR];rw[ab (by omega)];rfl
   rw[e1]at this;exact this.u8_inv
  have b4:∀u∈us,u.cells.size=1:=by intro u hu;obtain⟨i,hi,rfl⟩:=bM hu;have:=a9 i (by omega);rw[aa,ab hi]at this;simp only[bj]at this;rw[this];rfl
  have a7:n=1:=by simpa[h8]using d4
  subst a7;obtain⟨r,a4,b5,U⟩:=a1 b4;refine b9.grow (x':=x.newD w.heap.size r len) hM a8 U (hM.heap.newD_le r len) rfl rfl (hM.heap.allocD len) ?_;refine .dat _ _ (.byt l _ w.heap.size 0 len len d5.symm (aN _) fun i hi=> ?_) ⟨_,len,rfl⟩;simp only[Sit.newD];rw[if_pos ⟨trivial,by omega⟩,cf];have:=a4 i 0 hi (by omega);rw[iu,dU]at this;rw[this,a9 i hi];rfl
 |false=>
  simp only[h8,aI,if_false,val]at hv;obtain⟨b2,b7,he⟩:=ah.1 hv;simp only[bi.injEq]at he;obtain⟨_,rfl⟩:=he;obtain⟨a3,L⟩:=uo b7;have I:b2.length=len:=by rw[a3,J.1,F]
  have H:∀i,i<len->cy x (((qs.map s.ev).getD i .undef).cells) ((us.getD i undef).cells.toList):=fun i hi=>(J.2 i (E i hi)).cells (L i (E i hi)).1
  have b8:∀u∈us,u.cells.size=n:=by intro u hu;obtain⟨i,hi,rfl⟩:=bM hu;have O:=H i (by omega);have h2:=(L i (E i (by omega))).2.1;rw[show us.getD i undef=us[i]from by rw[aa,ab hi];rfl]at O;have:=O.1;rw[h2]at this;simpa using this.symm
  obtain⟨r,a4,b5,U⟩:=a1 b8;refine b9.grow (x':=x.newD w.heap.size r (len*n)) hM a8 U (hM.heap.newD_le r _) rfl rfl (hM.heap.allocD _) ?_;have d3:=hM.heap.newD_le r (len*n)
  have W:∀i j,i<len->j<n->(x.newD w.heap.size r (len*n)).G w.heap.size (0+i*n+j)=some ((us.getD i undef).cells.toList.getD j undef):=by
   intro i j hi hj;simp only[Sit.newD]
   have hb:i*n+j<len*n:=by have:=bz n (Nat.succ_le_of_lt hi);rw[dD]at this;omega
   rw[if_pos ⟨trivial,by omega⟩,cf,a4 i j hi hj]
   have:j<(us.getD i undef).cells.toList.length:=by rw[<-(H i hi).1,(L i (E i hi)).2.1];exact hj
   generalize (us.getD i undef).cells.toList=q at*;rw[aa,ab this];rfl
  refine .dat _ _ (.lst n b2 _ w.heap.size 0 len len (fun i j=>(us.getD i undef).cells.toList.getD j undef) I.symm (aN _) (fun i hi=> ?_) W (fun i j hi hj=> ?_)) ⟨_,len,rfl⟩
  ·rw[(L i (E i hi)).2.2.2,aS];exact(L i (E i hi)).2.1
  ·obtain⟨q1,q2,q3,q4⟩:=L i (E i hi)
   rw[q4,fX];have a6:j<((qs.map s.ev).getD i .undef).cells.length:=by rw[q2];exact hj
   have:=(H i hi).2 j a6;refine(cE.mono d3 (this.data (q3 _ ?_))).toData;generalize ((qs.map s.ev).getD i .undef).cells=q at*;rw[aa,ab a6];exact bn _
theorem vM(hM:aM C x s a w){t:TypeId}{len:Nat}{h:Array (Nat×Operand)}(ho:o.op= .buildSlice t len h){n0:Nat}{a2:List Arg}(hr:bq P o=some (.lit n0 a2)){E:f8}(b5:rows n0 (a2.map s.ev)=some E):
 ∃(r:LAb)(e:TypeId),(execOp a.eval o).run P w= .ok (.value (.slice (some ⟨w.heap.size,0,none⟩) E.length E.length)) (w.alloc (.cells r e (0,0)))/\r.size=E.length*n0/\(∀y∈E,y.length=n0)/\
  ∀k,k<E.length*n0->cE x.G ((E.getD (k/n0) []).getD (k % n0) .undef) (r.getD k undef):=by
 have b7:execOp a.eval o=(do pure (.value (<-dB t len (h.map fun(i,y)=>(i,a.eval y))))):=by simp only[execOp,ho]
 simp only[bq,ho]at hr;split at hr<;>try (cases hr;done)
 rename_i e hd;split at hr<;>try (cases hr;done)
 rename_i n zv hn a9;split at hr<;>try (cases hr;done)
 rename_i O;simp only[aB,decide_eq_true_eq]at O;obtain⟨⟨a0,d3⟩,d4⟩:=O;obtain⟨qs,c6,H⟩:=ah.1 hr;obtain⟨b4,b2⟩:=eH c6;obtain⟨z,d5,b6⟩:=cC a9;have Z:h.toList.length=len:=by have:=congrArg List.length a0;simpa using this
 obtain⟨us,W⟩:∃us:LAa,us=h.toList.map fun q=>a.eval q.2:=⟨_,rfl⟩
 have I:us.length=len:=by rw[W];simpa using Z
 have Q:cy x (qs.map s.ev) us:=by
  refine⟨by rw[W];simp[b4],fun i hi=> ?_⟩;have a5:i<qs.length:=by simpa using hi
  have:=aJ hM (b2 i (by omega) a5);rw[W];simp only[aa,aR,ab a5,ab (show i<h.toList.length from by omega),bo,bj];exact this
 have c4:(h.map fun(i,y)=>(i,a.eval y)).toList=(us.zipIdx 0).map fun q=>(q.2,q.1):=by
  rw[W];apply List.ext_getElem
  ·simp
  ·intro i L h2
   simp only[Array.toList_map,aS,aO]at L;have:(h.toList.map (·.1))[i]? =(bU len)[i]? :=by rw[a0]
   have hi:i<len:=by rw[<-Z];simpa using L
   simp only[aR,cL hi]at this;rw[ab (by simpa using L)]at this;simp at this;simp[this]
 have a8:(∀u∈us,u.cells.size=n)->∃r:LAb,(∀i j,i<len->j<n->r[i*n+j]? =(us.getD i undef).cells.toList[j]?)/\r.size=len*n/\
  (dB t len (h.map fun(i,y)=>(i,a.eval y))).run P w= .ok (.slice (some ⟨w.heap.size,0,none⟩) len len) (w.alloc (.cells r e (0,0))):=by
  intro a4
  have fin:∀zz:LAb,∃r:LAb,Instr.fill (fun i=>some (i*n,n)) ((Array.range (len*n)).map (fun i=>zz[i % zz.size]!)) (h.map fun(i,y)=>(i,a.eval y)).toList=some r/\
   (∀i j,i<len->j<n->r[i*n+j]? =(us.getD i undef).cells.toList[j]?)/\r.size=len*n:=by
   intro zz;obtain⟨r,b3,a3⟩:=mI n us 0 ((Array.range (len*n)).map (fun i=>zz[i % zz.size]!)) a4 (by simp[I])
   have F:r.toList=us.flatMap fun u=>u.cells.toList:=by rw[a3];simp[I]
   refine⟨r,by rw[c4];exact b3,fun i j hi hj=> ?_, ?_⟩
   ·rw[<-cY,F,jU a4 (by omega) hj]
   ·rw[<-aO,F,List.length_flatMap]
    have:us.map (fun u=>u.cells.toList.length)=ao us.length n:=by
     apply List.ext_getElem
     ·simp
     ·intro i L h2
      simp;exact a4 _ (bn _)
    rw[this];simp[I]
  by_cases h0:len*n=0
  ·obtain⟨r,hf,L,h2⟩:=fin #[]
   refine⟨r,L,h2, ?_⟩;simp only[dB,az,run_underlying hd,aj,cK hn];rw[if_neg (by omega),if_pos h0];simp only[az,aF,aj];rw[hf];rfl
  ·obtain⟨r,hf,L,h2⟩:=fin z.cells
   refine⟨r,L,h2, ?_⟩;simp only[dB,az,run_underlying hd,aj,cK hn];rw[if_neg (by omega),if_neg h0];simp only[az,aF,aj,b6];rw[hf];rfl
 have J:∀i,i<len->i<(qs.map s.ev).length:=fun i hi=>by rw[Q.1,I];exact hi
 obtain⟨h8,rfl,rfl⟩:lC P e=false/\n=n0/\qs=a2:=by
  cases h8:lC P e with
  |true=>rw[h8]at H;simp at H
  |false=>rw[h8]at H;simp at H;exact⟨rfl,H.1,H.2⟩
 obtain⟨a3,U⟩:=uo b5;have F:E.length=len:=by rw[a3,Q.1,I]
 have T:∀i,i<len->cy x (((qs.map s.ev).getD i .undef).cells) ((us.getD i undef).cells.toList):=fun i hi=>(Q.2 i (J i hi)).cells (U i (J i hi)).1
 have b8:∀u∈us,u.cells.size=n:=by intro u hu;obtain⟨i,hi,rfl⟩:=bM hu;have L:=T i (by omega);have h2:=(U i (J i (by omega))).2.1;rw[show us.getD i undef=us[i]from by rw[aa,ab hi];rfl]at L;have:=L.1;rw[h2]at this;simpa using this.symm
 obtain⟨r,c7,H,a6⟩:=a8 b8
 have a1:(execOp a.eval o).run P w= .ok (.value (.slice (some ⟨w.heap.size,0,none⟩) E.length E.length)) (w.alloc (.cells r e (0,0))):=by rw[b7,F];simp[a6]
 refine⟨r,e,a1,by rw[F];exact H,fun y hy=> ?_,fun k hk=> ?_⟩
 ·obtain⟨i,hi,rfl⟩:=bM hy
  have:=(U i (J i (by omega))).2.2.2;rw[aa,ab hi]at this;simp only[bj]at this;rw[this,aS];exact(U i (J i (by omega))).2.1
 ·have c3:0<n:=by
   rcases fZ n with h0|h0
   ·subst h0;omega
   ·exact h0
  have hi:k/n<len:=by rw[<-F];exact Nat.div_lt_of_lt_mul (by rw[cD];exact hk)
  have hj:k % n<n:=Nat.mod_lt _ c3;obtain⟨q1,q2,q3,q4⟩:=U (k/n) (J _ hi);rw[q4,fX];have e1:k/n*n+k % n=k:=by rw[cD];exact Nat.div_add_mod k n
  have e2:=c7 (k/n) (k % n) hi hj;rw[e1]at e2;have a7:k % n<((qs.map s.ev).getD (k/n) .undef).cells.length:=by rw[q2];exact hj
  have:=(T _ hi).2 _ a7;rw[bg,e2,<-aa];refine(this.data (q3 _ ?_)).toData;generalize ((qs.map s.ev).getD (k/n) .undef).cells=q at*;rw[aa,ab a7];exact bn _
theorem vN(hM:aM C x s a w){t:TypeId}{len:Nat}{h:Array (Nat×Operand)}(ho:o.op= .buildSlice t len h){a3:List Arg}(Q:bq P o=some (.litB a3)){l:t6}(b8:toB (a3.map s.ev)=some l):
 ∃(r:LAb)(e:TypeId),(execOp a.eval o).run P w= .ok (.value (.slice (some ⟨w.heap.size,0,none⟩) l.length l.length)) (w.alloc (.cells r e (0,0)))/\l.length<=r.size/\∀i,i<l.length->r.getD i undef= .int .u8 (l.getD i 0).toNat:=by
 have b7:execOp a.eval o=(do pure (.value (<-dB t len (h.map fun(i,y)=>(i,a.eval y))))):=by simp only[execOp,ho]
 simp only[bq,ho]at Q;split at Q<;>try (cases Q;done)
 rename_i e hd;split at Q<;>try (cases Q;done)
 rename_i n zv hn a6;split at Q<;>try (cases Q;done)
 rename_i I;simp only[aB,decide_eq_true_eq]at I;obtain⟨⟨T,c7⟩,a9⟩:=I;obtain⟨qs,c4,F⟩:=ah.1 Q;obtain⟨a2,a8⟩:=eH c4;obtain⟨z,d3,b6⟩:=cC a6;have H:h.toList.length=len:=by have:=congrArg List.length T;simpa using this
 obtain⟨us,J⟩:∃us:LAa,us=h.toList.map fun q=>a.eval q.2:=⟨_,rfl⟩
 have E:us.length=len:=by rw[J];simpa using H
 have O:cy x (qs.map s.ev) us:=by
  refine⟨by rw[J];simp[a2],fun i hi=> ?_⟩;have a0:i<qs.length:=by simpa using hi
  have:=aJ hM (a8 i (by omega) a0);rw[J];simp only[aa,aR,ab a0,ab (show i<h.toList.length from by omega),bo,bj];exact this
 have c3:(h.map fun(i,y)=>(i,a.eval y)).toList=(us.zipIdx 0).map fun q=>(q.2,q.1):=by
  rw[J];apply List.ext_getElem
  ·simp
  ·intro i L h2
   simp only[Array.toList_map,aS,aO]at L;have:(h.toList.map (·.1))[i]? =(bU len)[i]? :=by rw[T]
   have hi:i<len:=by rw[<-H];simpa using L
   simp only[aR,cL hi]at this;rw[ab (by simpa using L)]at this;simp at this;simp[this]
 have a4:(∀u∈us,u.cells.size=n)->∃r:LAb,(∀i j,i<len->j<n->r[i*n+j]? =(us.getD i undef).cells.toList[j]?)/\r.size=len*n/\
  (dB t len (h.map fun(i,y)=>(i,a.eval y))).run P w= .ok (.slice (some ⟨w.heap.size,0,none⟩) len len) (w.alloc (.cells r e (0,0))):=by
  intro W
  have fin:∀zz:LAb,∃r:LAb,Instr.fill (fun i=>some (i*n,n)) ((Array.range (len*n)).map (fun i=>zz[i % zz.size]!)) (h.map fun(i,y)=>(i,a.eval y)).toList=some r/\
   (∀i j,i<len->j<n->r[i*n+j]? =(us.getD i undef).cells.toList[j]?)/\r.size=len*n:=by
   intro zz;obtain⟨r,b2,b3⟩:=mI n us 0 ((Array.range (len*n)).map (fun i=>zz[i % zz.size]!)) W (by simp[E])
   have U:r.toList=us.flatMap fun u=>u.cells.toList:=by rw[b3];simp[E]
   refine⟨r,by rw[c3];exact b2,fun i j hi hj=> ?_, ?_⟩
   ·rw[<-cY,U,jU W (by omega) hj]
   ·rw[<-aO,U,List.length_flatMap]
    have:us.map (fun u=>u.cells.toList.length)=ao us.length n:=by
     apply List.ext_getElem
     ·simp
     ·intro i L h2
      simp;exact W _ (bn _)
    rw[this];simp[E]
  by_cases h0:len*n=0
  ·obtain⟨r,hf,L,h2⟩:=fin #[]
   refine⟨r,L,h2, ?_⟩;simp only[dB,az,run_underlying hd,aj,cK hn];rw[if_neg (by omega),if_pos h0];simp only[az,aF,aj];rw[hf];rfl
  ·obtain⟨r,hf,L,h2⟩:=fin z.cells
   refine⟨r,L,h2, ?_⟩;simp only[dB,az,run_underlying hd,aj,cK hn];rw[if_neg (by omega),if_neg h0];simp only[az,aF,aj,b6];rw[hf];rfl
 have b5:∀i,i<len->i<(qs.map s.ev).length:=fun i hi=>by rw[O.1,E];exact hi
 cases h8:lC P e with
 |true=>
  simp only[h8,if_true,SOp.litB.injEq]at F;subst F;have hl:=b8;have hq:=rM hl;have b4:l.length=len:=by have:=congrArg List.length hq;simp only[aS]at this;rw[<-this,a2,H]
  have Z:∀i,i<len->us.getD i undef= .int .u8 (l.getD i 0).toNat:=by
   intro i hi;have:=O.2 i (b5 i hi);rw[hq]at this
   have e1:(l.map SV.u8).getD i .undef= .u8 (l.getD i 0):=by simp only[aa,aR];rw[ab (by omega)];rfl
   rw[e1]at this;exact this.u8_inv
  have a7:∀u∈us,u.cells.size=1:=by intro u hu;obtain⟨i,hi,rfl⟩:=bM hu;have:=Z i (by omega);rw[aa,ab hi]at this;simp only[bj]at this;rw[this];rfl
  have a5:n=1:=by simpa[h8]using a9
  subst a5;obtain⟨r,c6,F,a1⟩:=a4 a7;refine⟨r,e,by rw[b7,az,a1];simp[b4],by rw[F];omega,fun i hi=> ?_⟩;have:=c6 i 0 (by omega) (by omega);rw[iu,dU]at this;rw[bg,this,Z i (by omega)];rfl
 |false=>simp only[h8,aI,if_false]at F;cases F
theorem PR{E:List Arg}(z:bq P o=some (.litB E)):∃t len y,o.op= .buildSlice t len y:=by
 cases ho:o.op with
 |buildSlice t len y=>exact⟨t,len,y,rfl⟩
 |_=>exfalso;exact absurd z (by
  intro z;simp only[bq,ho]at z
  first
   |(cases z;done)
   |(obtain⟨_,_,h⟩:=ah.1 z;cases h;done)
   |(repeat' split at z)<;>first|(cases z;done)|contradiction|(obtain⟨_,_,h⟩:=ah.1 z;first|(cases h;done)|(split at h<;>cases h;done)))
end Go.Sy
namespace Go.Sy
variable [ba]
variable {P : Program} {C : Ctx} {x : Sit} {s : St} {a : Act} {w : World} {o : Oper} {so : SOp} {p : Prop} {c : SV}
theorem FB{t:TypeId}{n:Nat}(h:vv P t=some n):p7 P t=some false:=by unfold vv at h;unfold p7;split at h<;>first|(cases h;done)|(rename_i y;rw[y];rfl)
theorem wA{t:TypeId}{n:Nat}(y:vv P t=some n){c1 d1:SV}{u v:Value}(hu:Rep x c1 u)(z:Rep x d1 v){b:Bool}(h:tw n c1 d1=some b)(d:Nat):(Op.equalIn (d+1) t u v).run P w= .ok b w:=by
 unfold vv at y;split at y<;>try (cases y;done)
 all_goals
  rename_i hd;cases y;cases c1<;>cases d1<;>simp only[tw,reduceCtorEq,aq.injEq,aH]at h
 ·rw[hu.bool_inv,z.bool_inv]
  subst h;rename_i m n;simp only[Op.equalIn,az,run_underlying hd,aj,aF];cases m<;>cases n<;>rfl
 ·rw[hu.int_inv,z.int_inv]
  obtain⟨rfl,h⟩:=h;subst h;simp only[Op.equalIn,az,run_underlying hd,aj,if_true,aF];rfl
 ·rw[hu.u8_inv,z.u8_inv]
  subst h;rename_i m n;simp only[Op.equalIn,az,run_underlying hd,aj,if_true,aF]
  congr 1
  rw[eL];simp only[beq_iff_eq,decide_eq_true_eq,Int.natCast_inj];exact UInt8.toNat_inj
 ·rw[hu.str_inv,z.str_inv]
  subst h;rename_i m n;simp only[Op.equalIn,az,run_underlying hd,aj,aF]
  congr 1
  rw[beq_toListBytes,ByteArray.toList_eq,ByteArray.toList_eq,eL];simp
theorem jO:∀(U:List Field)(T:t8)(k:Nat)(cs F:t7)(y E:LAa)(d:Nat),ww P k U=some T->
 cy x cs (y.drop k)->cy x F (E.drop k)->∀{b:Bool},gC T cs F=some b->(Op.eqFields (d+1) ⟨y⟩ ⟨E⟩ U).run P w= .ok b w
 |[],T,k,cs,F,y,E,d,z,J,hy,b,h=>by simp only[ww,aq.injEq]at z;subst z;cases cs<;>cases F<;>simp[gC]at h;subst h;simp[Op.eqFields]
 |f::U,T,k,cs,F,y,E,d,z,J,hy,b,h=>by
  simp only[ww,aH]at z;obtain⟨⟨L,O⟩,z⟩:=z;split at z<;>try (cases z;done)
  rename_i t a4 H a3;cases z;cases cs with
  |nil=>simp[gC]at h
  |cons c1 cs=>
   cases F with
   |nil=>simp[gC]at h
   |cons d1 F=>
    simp only[gC]at h;split at h<;>try (cases h;done)
    rename_i r q hr hq;cases h;have I:=J.1;have a0:=hy.1;simp only[ay,aL]at I a0
    have Z:(⟨y⟩:LAb)[k]? =some (y.getD k undef):=by rw[wW,ab (by omega),aa,ab (by omega)];rfl
    have W:(⟨E⟩:LAb)[k]? =some (E.getD k undef):=by rw[wW,ab (by omega),aa,ab (by omega)];rfl
    have a1:Rep x c1 (y.getD k undef):=by have:=J.2 0 (by simp);simpa[aa,bx]using this
    have a2:Rep x d1 (E.getD k undef):=by have:=hy.2 0 (by simp);simpa[aa,bx]using this
    have tl:∀{cs:t7}{c1:SV}{y:LAa},cy x (c1::cs) (y.drop k)->cy x cs (y.drop (k+1)):=by intro cs c1 y J;have I:=J.1;simp only[ay,aL]at I;refine⟨by simp only[aL];omega,fun i hi=> ?_⟩;have:=J.2 (i+1) (by simpa using hi);simp only[aa,List.getElem?_cons_succ,bx]at this ⊢;rw[show k+1+i=k+(i+1)by omega];exact this
    have ih:=jO U a4 (k+1) cs F y E d a3 (tl J) (tl hy) hq;have Q:=wA (w:=w) H a1 a2 hr d;simp only[Op.eqFields,if_pos L,part,az,ke (FB H),aj,aI,if_false];rw[O,Z,W];simp only[aF,aj,Q];cases r
    ·simp
    ·simp only[Bool.not_true,aI,if_false]
     rw[ih,Bool.true_and]
theorem Ov(hM:aM C x s a w){op:BinOp}{t u:TypeId}{X Y:Operand}(ho:o.op= .binOp op t X Y u){H:Bool}{Q:t8}{x' L:Arg}(h:bq P o=some (.eqS H Q x' L))(z:val s (.eqS H Q x' L)=some (p,c)):b9 P C o a w (s.put o.dst c):=by
 have U:execOp a.eval o=(do pure (.value (<-(do eqGuard op t X Y (a.eval X) (a.eval Y);binOp op t (a.eval X) (a.eval Y):Sem Value)))):=by simp only[execOp,ho]
 simp only[bq,ho]at h;split at h<;>try (cases h;done)
 ·split at h<;>cases h
 ·rename_i fs _ _ hd W O
  split at h<;>try (cases h;done)
  rename_i J T;rw[aH]at h;obtain⟨y,h⟩:=h;simp only[aB,du]at y
  have E:op=(if H then .neq else .eql)/\J=Q/\bp P t X=some x'/\bp P u Y=some L:=by split at h<;>first|(cases h;done)|(cases h;exact⟨rfl,rfl,W,O⟩)
  obtain⟨E,rfl,W,O⟩:=E;have Z:=aJ hM W;have h2:=aJ hM O;simp only[val]at z;cases hu:s.ev x' with
  |agg cs=>
   cases hw:s.ev L with
   |agg ds=>
    rw[hu,hw]at z;rw[hu]at Z;rw[hw]at h2;simp only[ah,bi.injEq]at z;obtain⟨b,hb,_,rfl⟩:=z;obtain⟨vs,e1,g1⟩:=Z.agg_inv;obtain⟨us,e2,g2⟩:=h2.agg_inv;have I:P.fieldsOf t=fs:=by simp[Program.fieldsOf,hd]
    have F:(Op.equalIn 10000 t (.agg ⟨vs⟩) (.agg ⟨us⟩)).run P w= .ok b w:=by rw[show(10000:Nat)=9998+1+1 from rfl,run_equalIn_struct w (9998+1) t ⟨vs⟩ ⟨us⟩ (by rw[I];exact hd) y.1,I];exact jO fs.toList J 0 cs ds vs us 9998 T (by simpa using g1) (by simpa using g2) hb
    refine b9.val hM U (u:= .bool (if H then !b else b)) ?_ (dv _);rw[e1,e2];simp only[az,run_eqGuard_agg w op t X Y ⟨vs⟩ ⟨us⟩ y.2,aj];subst E;cases H
    ·simp only[aI,if_false];rw[run_eql_struct,F];rfl
    ·simp only[if_true];rw[run_neq_struct,F];rfl
   |_=>rw[hu,hw]at z;simp at z
  |_=>rw[hu]at z;simp at z
 ·split at h<;>cases h
 ·split at h<;>cases h
theorem wD(hM:aM C x s a w){H:Bool}{q:Arg}(z:bq P o=some (.isnil H q)){K:Bool->Prop}
 (h:match s.ev q with
  | .byt l _=>∀b:Bool,(b=true->l=[])->K (b !=H)
  | .lst _ W _=>∀b:Bool,(b=true->W=[])->K (b !=H)
  | .psl _ _ _ _ _=>K H
  |_=>False):∃b,K b/\b9 P C o a w (s.put o.dst (.bool b)):=by
 have I:∃op t X Y u,o.op= .binOp op t X Y u/\(op=if H then .neq else .eql)/\(∃e,P.underlying t=some (.slice e))/\bp P t X=some q/\Y= .const (.slice none 0 0):=by
  cases L:o.op with
  |binOp op t X Y u=>
   simp only[bq,L]at z;split at z<;>try (cases z;done)
   ·split at z<;>cases z
   ·split at z<;>try (cases z;done)
    split at z<;>try (cases z;done)
    split at z<;>cases z
   ·rename_i e x' _ hd hx hy
    split at z<;>first|(cases z;done)|(cases z;exact⟨_,_,_,_,_,rfl,rfl,⟨_,hd⟩,hx,rfl⟩)
   ·split at z<;>first|(cases z;done)|contradiction
  |_=>exfalso;exact absurd z (by
   intro z;simp only[bq,L]at z
   first
    |(cases z;done)
    |(obtain⟨_,_,h⟩:=ah.1 z;cases h;done)
    |(repeat' split at z)<;>first|(cases z;done)|contradiction|(obtain⟨_,_,h⟩:=ah.1 z;first|(cases h;done)|(split at h<;>cases h;done)))
 obtain⟨op,t,X,Y,u,L,I,⟨e,hd⟩,hX,hY⟩:=I;have T:execOp a.eval o=(do pure (.value (<-(do eqGuard op t X Y (a.eval X) (a.eval Y);binOp op t (a.eval X) (a.eval Y):Sem Value)))):=by simp only[execOp,L]
 have E:=aJ hM hX;have O:a.eval Y= .slice none 0 0:=by rw[hY];rfl
 have run:∀F n cp,a.eval X= .slice F n cp->b9 P C o a w (s.put o.dst (.bool (F.isNone !=H))):=by
  intro F n cp Q
  have hg:∀v1 v2 v3 v4 v5,(eqGuard op t X Y (.slice v1 v2 v3) (.slice none v4 v5))=pure ():=by intros;subst I;cases H<;>rfl
  refine b9.val hM T (u:= .bool (F.isNone !=H)) ?_ (dv _);rw[Q,O,hg];simp only[az,aF,aj]
  have J:(Op.equal t (.slice F n cp) (.slice none 0 0)).run P w= .ok F.isNone w:=by rw[show Op.equal t (.slice F n cp) (.slice none 0 0)=Op.equalIn (9999+1) t (.slice F n cp) (.slice none 0 0)from rfl,Op.equalIn];simp only[az,run_underlying hd,aj];cases F<;>rfl
  subst I;cases H
  ·simp only[aI,if_false,binOp,az,J,aj,aF];cases F<;>rfl
  ·simp only[if_true,binOp,az,J,aj,aF];cases F<;>rfl
 cases hu:s.ev q with
 |byt l tk=>
  rw[hu]at h E;have y:=E.data rfl;cases hv:a.eval X with
  |slice F n cp=>
   refine⟨_,h F.isNone (fun hn=> ?_),run F n cp hv⟩;rw[hv]at y;cases y with
   |bytN=>rfl
   |bytE=>simp at hn
   |byt _ _ b off _ _ _ _ _=>simp at hn
  |_=>rw[hv]at y;cases y
 |lst Z W tk=>
  rw[hu]at h E;have y:=E.data rfl;cases hv:a.eval X with
  |slice F n cp=>
   refine⟨_,h F.isNone (fun hn=> ?_),run F n cp hv⟩;rw[hv]at y;cases y with
   |lstN=>rfl
   |lstE=>simp at hn
   |lst _ _ _ b off _ _ _ _ _ _ _ _=>simp at hn
  |_=>rw[hv]at y;cases y
 |psl o' Z off n cp=>rw[hu]at h E;obtain⟨cp,_,_,U,he,_⟩:=E.psl_inv;refine⟨_,h, ?_⟩;have:=run _ _ _ he;simpa using this
 |_=>rw[hu]at h;exact h.elim
end Go.Sy
namespace Go.Sy
variable [ba]
variable {P : Program} {C : Ctx} {x : Sit} {s : St} {a : Act} {w : World} {o : Oper} {so : SOp} {e : Eff}
theorem aM.newObj(hM:aM C x s a w){d:Nat}(z:t9)(y:100<=d){cv:LAb}{t:TypeId}(obj:aC){val:SV}{u:Value}(F:obj.size<=cv.size)(E:∀k,k<obj.size->cj x obj k (cv.getD k undef))
 (H:Rep (x.newO d w.heap.size) val u):
 aM C (x.newO d w.heap.size) (((s.purge d (d+1)).addO d (obj.purge d (d+1))).put z val) (a.put z u) (w.alloc (.cells cv t (0,0))):=by
 refine aM.put ⟨?_,hM.defers, ?_⟩ z H
 ·exact cy.mono (x:=x) (x':=x.newO d w.heap.size) (lo:=d) (hi:=d+1) (fun _ _ _ h=>h) (Sit.newO_ne x d _) (fun _ _=>rfl) hM.tm
 ·exact hM.heap.allocO d y obj (fun i _ h=>by omega) F E (bD _) (fun _ h=>by omega)
theorem b9.newObj(hM:aM C x s a w){d:Nat}(h:100<=d){m:Sem Value}{cv:LAb}{t:TypeId}(obj:aC){val:SV}{u:Value}(H:execOp a.eval o=(do pure (.value (<-m))))
 (y:m.run P w= .ok u (w.alloc (.cells cv t (0,0)))) (E:obj.size<=cv.size) (z:∀k,k<obj.size->cj x obj k (cv.getD k undef)) (F:Rep (x.newO d w.heap.size) val u):
 b9 P C o a w (((s.purge d (d+1)).addO d (obj.purge d (d+1))).put o.dst val):=
 ⟨u,w.alloc (.cells cv t (0,0)),_,.value u,by rw[H];simp[y],.inl rfl,hM.newObj o.dst h obj E z F⟩
theorem mf(x:Sit)(d b:Nat){k:Nat}:(x.newO d b k).bk d=(b,k):=if_pos rfl
theorem iR(x:Sit)(d b:Nat){k:Nat}:((x.newO d b k).bk d).1=b:=by rw[mf]
theorem Dm(hM:aM C x s a w){t:TypeId}(O:o.op= .alloc t)(y:bq P o=some so)(F:eff s o.dst so=some e):b9 P C o a w (s.app o.dst e):=by
 simp only[bq,O]at y;split at y<;>try (cases y;done)
 rename_i obj z L hz;split at y<;>try (cases y;done)
 rename_i h;cases y;simp only[eff]at F;split at F<;>try (cases F;done)
 rename_i d hd;cases F;obtain⟨Q,E,J⟩:=cC hz;simp only[XV,aB,decide_eq_true_eq,aT,jx]at h;simp only[St.app];have H:o.dst.getD 0=d:=by rw[hd];rfl
 rw[H];refine b9.newObj hM (d:=d+100) (by omega) obj (m:=Instr.alloc t true (.tuple #[])) (cv:=Q.cells) (t:=t) (u:= .pointer (some ⟨w.heap.size,0,none⟩)) (by simp only[execOp,O]) ?_ (by rw[<-aO,E];exact h.1) (fun k T=> ?_) ?_
 ·simp only[Instr.alloc,az,J,aj,newVar,newRow,run_newObj_alloc,aF]
 ·have I:=h.2 k T
  have U:Q.cells.getD k undef=z.getD k undef:=by rw[<-E];simp[bg]
  rw[U];cases obj with
  |rc cs=>exact pf I
  |arr Z W=>exact lO I
  |bar l=>exact lO I
 ·have:=Rep.ptr (x:=x.newO (d+100) w.heap.size) (d+100) 0
  rw[iR]at this;exact this
theorem QB(hM:aM C x s a w){t:TypeId}{X:Operand}(J:o.op= .box t X)(I:bq P o=some so)(y:eff s o.dst so=some e):b9 P C o a w (s.app o.dst e):=by
 simp only[bq,J]at I;obtain⟨r,E,rfl⟩:=ah.1 I;have h:=aJ hM E;simp only[eff]at y;split at y<;>try (cases y;done)
 rename_i d hd;cases y;simp only[St.app];have F:(s.ev r).isDef=true->cy x (s.ev r).cells (a.eval X).cells.toList:=h.cells;have hu:(s.ev r).isDef=true\/(s.ev r).cells=[]:=by cases s.ev r<;>simp[SV.isDef,SV.cells]
 have z:o.dst.getD 0=d:=by rw[hd];rfl
 rw[z];refine b9.newObj hM (d:=d+100) (by omega) (.rc (s.ev r).cells) (m:=Instr.box t (a.eval X)) (cv:=(a.eval X).cells) (t:=t) (u:= .pointer (some ⟨w.heap.size,0,none⟩)) (by simp only[execOp,J]) ?_ ?_ (fun k H=> ?_) ?_
 ·simp only[Instr.box,az,aj,newVar,newRow,run_newObj_alloc,aF]
 ·rcases hu with hu|hu
  ·have:=(F hu).1;simp only[aC.size];rw[<-aO];omega
  ·simp[aC.size,hu]
 ·rcases hu with hu|hu
  ·have:=(F hu).2 k H
   simp only[cj];have L:(a.eval X).cells.getD k undef=(a.eval X).cells.toList.getD k undef:=by simp[bg]
   rw[L];exact this
  ·simp[aC.size,hu]at H
 ·have:=Rep.ptr (x:=x.newO (d+100) w.heap.size) (d+100) 0
  rw[iR]at this;exact this
theorem kN{t E:TypeId}{H n:Nat}{I:LAa}{l c:Int}{k1 k2:IntKind}(hd:P.underlying t=some (.slice E))(hn:fi P E=some n)(O:sB P E=some H)(hz:fN P E=some I)
 (h0:0<=l) (h1:l<=c) (h2:(H:Int)*c<=140737488355328) (h3:c<=9223372036854775807):
 ∃cv:LAb,(Instr.makeSlice t (.int k1 l) (.int k2 c)).run P w= .ok (.slice (some ⟨w.heap.size,0,none⟩) l.toNat c.toNat) (w.alloc (.cells cv E (0,0)))/\cv.size=c.toNat*n/\
  ∀k,k<c.toNat*n->cv.getD k undef=I.getD (k % I.length) default:=by
 obtain⟨z,a0,Z⟩:=cC hz;have wl:ai.wrap l=l:=by rw[IntKind.wrap_i64];omega
 have wc:ai.wrap c=c:=by rw[IntKind.wrap_i64];omega
 have hby:∃i,P.info? E=some i/\i.bytes=H:=by
  unfold sB at O;cases hi:P.info? E with
  |none=>simp[hi]at O
  |some i=>simp[hi]at O;exact⟨i,rfl,O⟩
 obtain⟨i,hi,T⟩:=hby
 have L:¬((decide (c<0)||decide ((i.bytes:Int)*c>2^48)||decide (l<0)||decide (l>c))=true):=by rw[T];simp;omega
 have J:∀(Q:LAb),(c.toNat*n=0\/Q=z.cells)->∃cv:LAb,cv=(Array.range (c.toNat*n)).map (fun j=>Q[j % Q.size]!)/\cv.size=c.toNat*n/\∀k,k<c.toNat*n->cv.getD k undef=I.getD (k % I.length) default:=by
  intro Q U;refine⟨_,rfl,by simp,fun k hk=> ?_⟩;rcases U with h|rfl
  ·omega
  ·rw[<-a0]
   simp[bg,hk];rw[getElem!_def];cases z.cells[k % z.cells.size]? <;>rfl
 by_cases F:c.toNat*n=0
 ·obtain⟨cv,y,r1,W⟩:=J #[] (.inl F)
  refine⟨cv, ?_,r1,W⟩;simp only[Instr.makeSlice,az,run_underlying hd,aj,asInt,asIntOf,aF,run_typeInfo w hi,wl,wc];rw[if_neg (by simpa using L)];simp only[az,run_askRoom,aj,cK hn];rw[if_pos F];simp only[az,aF,aj,newRow,run_newObj_alloc,y]
 ·obtain⟨cv,y,r1,W⟩:=J z.cells (.inr rfl)
  refine⟨cv, ?_,r1,W⟩;simp only[Instr.makeSlice,az,run_underlying hd,aj,asInt,asIntOf,aF,run_typeInfo w hi,wl,wc];rw[if_neg (by simpa using L)];simp only[az,run_askRoom,aj,cK hn];rw[if_neg F];simp only[az,aF,aj,Z,newRow,run_newObj_alloc,y]
end Go.Sy
namespace Go.Sy
variable [ba]
variable {P : Program} {C : Ctx} {x : Sit} {s : St} {a : Act} {w : World} {o : Oper} {so : SOp} {e : Eff}
theorem fu{α:Type}(n:Nat)(z d:α)(i:Nat)(h:i<n):(ao n z).getD i d=z:=by rw[aa,List.getElem?_replicate,if_pos h];rfl
theorem mL{t:TypeId}{cs:t7}(h:wY P t=some cs):∃vs,fN P t=some vs/\cs.length=vs.length/\∀(G:GM) i,i<cs.length->cE G (cs.getD i .undef) (vs.getD i undef):=by obtain⟨z,hz,rfl⟩:=ah.1 h;obtain⟨vs,y,F,E⟩:=i6 hz;refine⟨vs,y,by simpa using F,fun G i hi=> ?_⟩;rw[aU _ (by rfl)];exact(E G i (by simpa using hi)).toData
theorem qf(hM:aM C x s a w){t:TypeId}{X Y:Operand}(ho:o.op= .makeSlice t X Y)(h:bq P o=some so)(I:eff s o.dst so=some e)(hp:e.pre):b9 P C o a w (s.app o.dst e):=by
 have Z:execOp a.eval o=(do pure (.value (<-Instr.makeSlice t (a.eval X) (a.eval Y)))):=by simp only[execOp,ho]
 simp only[bq,ho]at h;split at h<;>try (cases h;done)
 rename_i el hd;split at h<;>try (cases h;done)
 rename_i n a3 z l c hn hb hz hl hc;obtain⟨zs,a0,H,T⟩:=mL hz;have h1:=aJ hM hl;have h2:=aJ hM hc;cases h8:lC P el with
 |true=>
  have a4:=iV h8;simp only[h8,if_true]at h
  by_cases Q:n=1/\a3=1/\z0 z=true
  ·rw[if_pos Q]at h
   obtain⟨rfl,rfl,E⟩:=Q;simp only[aq.injEq]at h;subst h;simp only[eff]at I;split at I<;>try (cases I;done)
   rename_i d k1 L k2 K O hL hK;cases I;obtain⟨q0,q1,q2⟩:=hp;rw[hL]at h1;rw[hK]at h2;obtain⟨cv,y,U,F⟩:=kN (P:=P) (w:=w) (k1:=k1) (k2:=k2) hd hn hb a0 q0 q1 (by omega) (by omega);simp only[St.app];have J:o.dst.getD 0=d:=by rw[O];rfl
   rw[J]
   have a1:z=[.u8 0]:=by
    unfold z0 at E;split at E
    ·rename_i b;simp at E;rw[E]
    ·cases E
   refine b9.newObj hM (d:=d+100) (by omega) (.bar (ao K.toNat 0)) Z (by rw[h1.int_inv,h2.int_inv];exact y) (by simp[aC.size,U]) (fun k W=> ?_) ?_
   ·simp only[aC.size,bO]at W
    simp only[cj,aC.cell];rw[F k (by omega),fu _ _ _ _ W];rw[a1]at H T;have h0:=T x.G 0 (by simp);have:zs.length=1:=by simpa using H.symm
    rw[this,Nat.mod_one]
    match zs,this with
    |[v],_=>exact h0
   ·have:=Rep.psl (x:=x.newO (d+100) w.heap.size) (d+100) 1 0 L.toNat (some K.toNat) 0 K.toNat (.inr (by omega)) (by omega) (fun _ e=>by cases e;rfl) (fun e=>by cases e)
    rw[iR]at this;exact this
  ·rw[if_neg Q]at h;cases h
 |false=>
  simp only[h8,aI,if_false]at h
  by_cases hzl:z.length=n/\n≠0
  ·rw[if_pos hzl]at h
   simp only[aq.injEq]at h;subst h;obtain⟨hzl,hn0⟩:=hzl;simp only[eff]at I;split at I<;>try (cases I;done)
   rename_i d k1 L k2 K O hL hK;cases I;obtain⟨q0,q1,q2,q3⟩:=hp;rw[hL]at h1;rw[hK]at h2;obtain⟨cv,y,U,F⟩:=kN (P:=P) (w:=w) (k1:=k1) (k2:=k2) hd hn hb a0 q0 q1 q2 q3;simp only[St.app];have J:o.dst.getD 0=d:=by rw[O];rfl
   rw[J];refine b9.newObj hM (d:=d+100) (by omega) (.arr z.length (ao K.toNat z)) Z (by rw[h1.int_inv,h2.int_inv];exact y) (by simp[aC.size,U,hzl]) (fun k W=> ?_) ?_
   ·simp only[aC.size,bO]at W
    simp only[cj,aC.cell];rw[F k (by rw[<-hzl];exact W),fu _ _ _ _ (Nat.div_lt_of_lt_mul (by rw[cD];exact W)),<-H];have a2:k % z.length<z.length:=Nat.mod_lt _ (by omega);have:=T x.G _ a2
    have e1:zs.getD (k % z.length) default=zs.getD (k % z.length) undef:=by rw[aa,aa,ab (by omega)];rfl
    rw[e1];exact this
   ·have:=Rep.psl (x:=x.newO (d+100) w.heap.size) (d+100) z.length 0 L.toNat (some K.toNat) 0 K.toNat (.inr (by omega)) (by omega) (fun _ e=>by cases e;rfl) (fun e=>by cases e)
    rw[iR]at this;exact this
  ·rw[if_neg hzl]at h;cases h
theorem cE.oneCell{G:GM}{c:SV}{v:Value}(h:cE G c v):v.oneCell'=true:=by cases h<;>rfl
theorem Rep.oneCell{c:SV}{v:Value}(h:Rep x c v)(y:c.one=true):v.oneCell'=true:=by
 cases h with
 |undef=>simp[SV.one]at y
 |dat _ _ h _=>exact h.oneCell
 |ptr=>rfl
 |ap=>rfl
 |psl=>rfl
 |agg=>simp[SV.one]at y
 |tup=>simp[SV.one]at y
 |fn=>rfl
theorem rF(cs:t7)(off:Nat)(v:t7)(h:off+v.length<=cs.length)(i:Nat):(gv cs off v).getD i .undef=if off<=i/\i<off+v.length then v.getD (i-off) .undef else cs.getD i .undef:=by
 have y:∀i:Nat,(cs.take off++v++cs.drop (off+v.length)).getD i .undef=if off<=i/\i<off+v.length then v.getD (i-off) .undef else cs.getD i .undef:=by intro i;simp only[aa];rw[fO _ _ _ _ h];split<;>rfl
 unfold gv;split
 ·rename_i u
  simp only[aP]at*;simp only[aa,eS]
  by_cases hi:off=i
  ·subst hi;rw[if_pos rfl,if_pos (by omega),if_pos (by omega)];simp
  ·rw[if_neg hi,if_neg (by omega)]
 ·exact y i
theorem ni(cs:t7)(off:Nat)(v:t7)(h:off+v.length<=cs.length):(gv cs off v).length=cs.length:=by
 unfold gv;split
 ·simp
 ·simp;omega
theorem b9.store(hM:aM C x s a w){t:TypeId}{X Y:Operand}(ho:o.op= .store t X Y){n:Nat}(hn:fi P t=some n){d off:Nat}(hX:a.eval X= .pointer (some ⟨(x.bk d).1,off,none⟩)){obj obj':aC}(Q:s.look d=some obj)
 {vs:LAa} (hY:(a.eval Y).cells.toList=vs) (z:vs.length=n) (F:∀v∈vs,v.oneCell'=true) (hb:off+n<=obj.size)
 (a0:obj'.size=obj.size) (H:∀c:LAb,(∀k,k<obj.size->cj x obj k (c.getD k undef))->∀k,k<obj.size->cj x obj' k (if off<=k/\k<off+n then vs.getD (k-off) undef else c.getD k undef)) (E:obj'.arrB=obj.arrB:=by rfl):
 b9 P C o a w ((s.setO d obj').put o.dst .undef):=by
 obtain⟨c,e,fl,fh,T,⟨hs,U,O⟩,hr⟩:=eo hM Q;obtain⟨g1,g2,g3,g4,Z⟩:=eX ((x.bk d).1) vs w off;obtain⟨W,J,I,L⟩:=eA vs w off c T (by omega);refine⟨undef,cg w ((x.bk d).1) off vs,x,.skip, ?_,.inr ⟨rfl,rfl⟩,aM.put (s:=s.setO d obj') ⟨hM.tm,hM.defers, ?_⟩ o.dst (.undef _)⟩
 ·simp only[execOp,ho,Instr.storeAt,hX,Instr.sureAddr,az,aF,aj,storeVar,cK hn]
  have y:(a.eval Y).cells.size=n:=by rw[<-aO,hY];exact z
  rw[if_neg (by simp[y]),hY,ez off vs w c 0 T (by omega) F];rfl
 ·refine hM.heap.block (cO Q) g1 g2 g3 g4 Z ⟨W,e,fl,fh,J,⟨by omega,by omega,fun h=>by rw[I];exact O (E ▸ h)⟩,fun k hk=> ?_⟩
  rw[L k,z];exact H c hr k (by omega)
theorem mq{cs:t7}{vs:LAa}(h:cy x cs vs)(z:cs.all SV.one=true):∀v∈vs,v.oneCell'=true:=by
 intro v F;obtain⟨i,hi,rfl⟩:=bM F;have y:i<cs.length:=by rw[h.1];exact hi
 have:=h.2 i y;have H:cs.getD i .undef=cs[i]:=by rw[aa,ab y];rfl
 have E:vs.getD i undef=vs[i]:=by rw[aa,ab hi];rfl
 rw[H,E]at this;exact this.oneCell (aT.1 z _ (bn _))
theorem oI{c:SV}(h:c.isData=true):c.one=true:=by cases c<;>simp[SV.isData,SV.one]at*
theorem Pa{z:Nat}{E:f8}(h:∀y∈E,y.length=z){i j n:Nat}{v:t7}(hi:i<E.length)(hj:j+n<=z)(hv:v.length=n):
 (fA z E i j n v).length=E.length/\∀k,k<E.length*z->((fA z E i j n v).getD (k/z) []).getD (k % z) .undef=if i*z+j<=k/\k<i*z+j+n then v.getD (k-(i*z+j)) .undef else(E.getD (k/z) []).getD (k % z) .undef:=by
 have W:(E.getD i []).length=z:=by rw[aa,ab hi];exact h _ (bn _)
 obtain⟨T,I,H⟩:∃T:t7,(∀m,m<z->T.getD m .undef=if j<=m/\m<j+n then v.getD (m-j) .undef else(E.getD i []).getD m .undef)/\fA z E i j n v=E.set i T:=by
  unfold fA;split
  ·rename_i O
   obtain⟨rfl,rfl⟩:=O;exact⟨v,fun m Z=>by rw[if_pos ⟨by omega,by omega⟩,Nat.sub_zero],rfl⟩
  ·refine⟨_,fun m Z=> ?_,rfl⟩
   have:=fO (E.getD i []) v j m (by omega);rw[hv]at this;simp only[aa]at this ⊢;rw[this];split<;>rfl
 rw[H];refine⟨by simp,fun k hk=> ?_⟩
 have L:0<z:=by
  rcases fZ z with U|U
  ·subst U;omega
  ·exact U
 have J:=Nat.div_add_mod k z;have Q:=Nat.mod_lt k L;rw[cD]at J;simp only[aa,eS]at I ⊢
 by_cases F:i=k/z
 ·rw[if_pos F,if_pos hi]
  simp only[bj];rw[I _ Q,<-F];rw[<-F]at J
  by_cases O:j<=k % z/\k % z<j+n
  ·rw[if_pos O,if_pos (by omega),show k-(i*z+j)=k % z-j from by omega]
  ·rw[if_neg O,if_neg (by omega)]
 ·rw[if_neg F,if_neg ?_]
  rintro⟨h1,h2⟩;apply F;have:i*z<=k/\k<(i+1)*z:=by rw[dD];omega
  rw[eq_comm,Nat.div_eq_iff L];rw[dD]at this;omega
theorem lD(h:Nat):∀(m:Nat)(v:t7),(jn h m v).length=m
 |0,_=>rfl
 |m+1,v=>by simp[jn,lD h m]
theorem rt(y:Nat)(z:0<y):∀(m:Nat)(v:t7)(k:Nat),k<m*y->((jn y m v).getD (k/y) []).getD (k % y) .undef=v.getD k .undef
 |0,_,k,hk=>by omega
 |m+1,v,k,hk=>by
  rw[dD]at hk;simp only[jn]
  by_cases h:k<y
  ·rw[Nat.div_eq_of_lt h,dm h,bF]
   simp only[aa,bE,if_pos h]
  ·obtain⟨j,rfl⟩:∃j,k=j+y:=⟨k-y,by omega⟩
   rw[Nat.add_div_right _ z,Nat.add_mod_right,bQ,rt y z m (v.drop y) j (by omega)];simp only[aa,bx,Nat.add_comm]
theorem Dj(hM:aM C x s a w){t:TypeId}{X Y:Operand}(T:o.op= .store t X Y)(hr:bq P o=some so)(h:eff s o.dst so=some e)(Z:e.pre):b9 P C o a w (s.app o.dst e):=by
 simp only[bq,T]at hr;split at hr<;>try (cases hr;done)
 rename_i n r q hn a0 a4;cases hr;have O:=aJ hM a0;have h2:=aJ hM a4;simp only[eff]at h;split at h<;>try (cases h;done)
 rename_i hn0;have hL:=h2.cells hn0;cases hu:s.ev r with
 |ptr d off=>
  rw[hu]at h O;simp only[pN]at h;split at h<;>try (cases h;done)
  ·rename_i cs F
   cases h;obtain⟨Q,J,I⟩:=Z;refine b9.store hM T hn O.ptr_inv F rfl (by rw[<-hL.1];exact J) (mq hL I) Q (by simp only[aC.size];exact ni _ _ _ (by omega)) (fun c L k E=> ?_);have:=L k E;simp only[cj]at this ⊢;rw[rF _ _ _ (by omega),J];split
   ·exact hL.get _
   ·exact this
  ·rename_i H xs F
   cases h;obtain⟨rfl,Q,J,I⟩:=Z
   refine b9.store hM T hn O.ptr_inv F rfl (by rw[<-hL.1];exact J) (mq hL (by rw[aT]at I ⊢;exact fun z hz=>oI (I z hz))) (by simp only[aC.size];omega) (by simp only[aC.size,lD]) (fun c L k E=> ?_)
   simp only[aC.size]at E;have y:k<(s.ev q).cells.length:=by omega
   have a3:0<H:=by
    rcases fZ H with h0|h0
    ·subst h0;omega
    ·exact h0
   simp only[cj,aC.cell];rw[if_pos ⟨by omega,by omega⟩,Nat.sub_zero,rt H a3 _ _ _ E,fX];refine((hL.2 _ y).data (aT.1 I _ ?_)).toData;generalize (s.ev q).cells=qq at*;rw[aa,ab y];exact bn _
  ·rename_i l F
   split at h<;>try (cases h;done)
   rename_i l' hv;cases h;obtain⟨rfl,Q,J⟩:=Z;have a1:=rM hv;rw[a1]at hL
   refine b9.store hM T hn O.ptr_inv F rfl (by rw[<-hL.1,aS];exact J) (mq hL (by rw[aT];intro z hz;obtain⟨b,_,rfl⟩:=aQ.1 hz;rfl)) (by simp only[aC.size];omega) (by simp only[aC.size];omega) (fun c L k E=> ?_)
   simp only[aC.size]at E;simp only[cj,aC.cell];rw[if_pos ⟨by omega,by omega⟩,Nat.sub_zero];have y:k<(l'.map SV.u8).length:=by rw[aS];omega
   have U:k<l'.length:=by omega
   have e1:(l'.map SV.u8).getD k .undef= .u8 (l'.getD k 0):=by simp[aa,aR,ab U]
   have:=hL.2 k y;rw[e1]at this;exact this.data rfl
 |ap d H i j=>
  rw[hu]at h O;simp only[pN]at h;split at h<;>try (cases h;done)
  ·rename_i a5 xs F
   cases h;obtain⟨rfl,Q,J,I,q3,q4⟩:=Z;have a2:((s.ev q).cells.map SV.data).length=n:=by rw[aS];exact I
   obtain⟨g1,g2⟩:=Pa q3 Q J a2
   have hb:i*H+j+n<=xs.length*H:=by have:=bz H (Nat.succ_le_of_lt Q);rw[dD]at this;omega
   refine b9.store hM T hn O.ap_inv F rfl (by rw[<-hL.1];exact I) (mq hL (by rw[aT]at q4 ⊢;exact fun z hz=>oI (q4 z hz))) (by simp only[aC.size];exact hb) (by simp only[aC.size];rw[g1]) (fun c L k E=> ?_)
   have:=L k E;simp only[cj,aC.cell,aC.size]at this E ⊢;rw[g2 k E];split
   ·rename_i a6
    rw[fX];have y:k-(i*H+j)<(s.ev q).cells.length:=by omega
    refine((hL.2 _ y).data (aT.1 q4 _ ?_)).toData;generalize (s.ev q).cells=qq at*;rw[aa,ab y];exact bn _
   ·exact this
  ·rename_i l F
   split at h<;>try (cases h;done)
   rename_i b hb;cases h;obtain⟨rfl,rfl,rfl,Q⟩:=Z;rw[hb]at hL;refine b9.store hM T hn O.ap_inv F rfl (by rw[<-hL.1];rfl) (mq hL rfl) (by simp only[aC.size];omega) (by simp[aC.size]) (fun c L k E=> ?_);have:=L k E;simp only[cj,aC.cell,aC.size]at this E ⊢;simp only[iu,dU]
   by_cases W:k=i
   ·subst W
    rw[if_pos (by omega),Nat.sub_self];have e1:(l.set k b).getD k 0=b:=by rw[aa,eS,if_pos rfl,if_pos E];rfl
    rw[e1];exact(hL.2 0 (by simp)).data rfl
   ·rw[if_neg (by omega)]
    have e1:(l.set i b).getD k 0=l.getD k 0:=by rw[aa,eS,if_neg (fun e=>W e.symm),<-aa]
    rw[e1];exact this
 |_=>rw[hu]at h;simp[pN]at h
end Go.Sy
namespace Go.Sy
variable [ba]
variable {P : Program} {C : Ctx} {x : Sit} {s : St} {a : Act} {w : World} {o : Oper} {so : SOp} {e : Eff}
def xlW(G:GM)(b off:Nat)(fl:t7):Prop:=∀k,k<fl.length->∃v,G b (off+k)=some v/\cE G (fl.getD k .undef) v
def Ce(G:GM)(h:Nat)(fl:t7)(v:Value)(n cap:Nat):Prop:=
 n*h=fl.length/\n<=cap/\((∃b off,v= .slice (some ⟨b,off,none⟩) n cap/\xlW G b off fl)\/((∃a,v= .slice a 0 0)/\n=0/\cap=0))
theorem eC(l:t6)(k:Nat)(h:k<l.length):(l.map SV.u8).getD k .undef= .u8 (l.getD k 0):=by simp only[aa,aR];rw[ab h];rfl
theorem uP{G:GM}{l:t6}{t:Tok}{v:Value}(h:cE G (.byt l t) v):∃cap,Ce G 1 (l.map .u8) v l.length cap/\∃bs,v= .slice bs l.length cap:=by
 cases h with
 |bytN=>exact⟨0,⟨by simp,by simp,.inr ⟨⟨none,rfl⟩,rfl,rfl⟩⟩,none,rfl⟩
 |bytE _ a=>exact⟨0,⟨by simp,by simp,.inr ⟨⟨some a,rfl⟩,rfl,rfl⟩⟩,some a,rfl⟩
 |byt _ _ b off cap n hn z h=>subst hn;refine⟨cap,⟨by simp,z,.inl ⟨b,off,rfl,fun k y=> ?_⟩⟩,_,rfl⟩;rw[aS]at y;exact⟨_,h k y,by rw[eC _ _ y];exact .u8 _⟩
theorem F7{G:GM}{l:t6}{t:Tok}{v:Value}{cap:Nat}(h:Ce G 1 (l.map .u8) v l.length cap):cE G (.byt l t) v:=by
 obtain⟨_,z,⟨b,off,rfl,E⟩|⟨⟨a,rfl⟩,F,_⟩⟩:=h
 ·refine .byt l t b off cap l.length rfl z fun i hi=> ?_
  obtain⟨v,H,y⟩:=E i (by simpa using hi);rw[eC _ _ hi]at y;cases y;exact H
 ·have:l=[]:=cx.1 F
  subst this;cases a with
  |none=>exact .bytN t
  |some a=>exact .bytE t a
theorem bG{F:Nat}{E:f8}(h:∀y∈E,y.length=F):E.flatten.length=E.length*F:=by
 induction E with
 |nil=>simp
 |cons y r H=>simp only[cN,af,ay,dD];rw[H (fun z hz=>h z (an _ hz)),h y (by simp)];omega
theorem tO{E:Nat}{z:f8}(h:∀i,i<z.length->(z.getD i []).length=E):∀y∈z,y.length=E:=by intro y F;obtain⟨i,hi,rfl⟩:=bM F;have:=h i hi;rwa[aa,ab hi]at this
theorem pB{G:GM}{E:Nat}{F:f8}{t:Tok}{v:Value}(h:cE G (.lst E F t) v):∃cap,Ce G E F.flatten v F.length cap/\(∃bs,v= .slice bs F.length cap)/\∀y∈F,y.length=E:=by
 cases h with
 |lstN=>exact⟨0,⟨by simp,by simp,.inr ⟨⟨none,rfl⟩,rfl,rfl⟩⟩,⟨none,rfl⟩,by simp⟩
 |lstE _ _ a=>exact⟨0,⟨by simp,by simp,.inr ⟨⟨some a,rfl⟩,rfl,rfl⟩⟩,⟨some a,rfl⟩,by simp⟩
 |lst _ _ _ b off cap n T hn Q U W h=>
  subst hn;have z:=tO U;refine⟨cap,⟨(bG z).symm,Q,.inl ⟨b,off,rfl,fun k I=> ?_⟩⟩,⟨_,rfl⟩,z⟩;rw[bG z]at I
  have L:0<E:=by
   rcases fZ E with J|J
   ·subst J;omega
   ·exact J
  have hd:k/E<F.length:=Nat.div_lt_of_lt_mul (by rw[cD];exact I);have O:=Nat.mod_lt k L;have H:=Nat.div_add_mod k E;rw[cD]at H;refine⟨T (k/E) (k % E), ?_, ?_⟩
  ·have:=W _ _ hd O
   rwa[eB,H]at this
  ·rw[cG F z k I];exact h _ _ hd O
theorem Fp{G:GM}{z:Nat}{F:f8}{t:Tok}{v:Value}{cap:Nat}(h:Ce G z F.flatten v F.length cap)(E:∀y∈F,y.length=z):cE G (.lst z F t) v:=by
 obtain⟨_,L,⟨b,off,rfl,Q⟩|⟨⟨a,rfl⟩,T,_⟩⟩:=h
 ·refine .lst z F t b off cap F.length (fun i j=>(G b (off+i*z+j)).getD undef) rfl L (fun i hi=> ?_) (fun i j hi O=> ?_) (fun i j hi O=> ?_)
  ·rw[aa,ab hi];exact E _ (bn _)
  all_goals
   have J:i*z+j<F.length*z:=by have:=bz z (Nat.succ_le_of_lt hi);rw[dD]at this;omega
   obtain⟨v,I,H⟩:=Q (i*z+j) (by rw[bG E];exact J);rw[<-eB]at I
  ·rw[I];rfl
  ·rw[I]
   rw[cG F E _ J,show(i*z+j)/z=i from by rw[cD,Nat.mul_add_div (by omega),Nat.div_eq_of_lt (by omega)];rfl,
    show(i*z+j) % z=j from by rw[cD,Nat.mul_add_mod,dm (by omega)]]at H
   exact H
 ·have:F=[]:=cx.1 T
  subst this;cases a with
  |none=>exact .lstN z t
  |some a=>exact .lstE z t a
structure New(x:Sit)(ns:List Value)(fl:List SV):Prop where
 len:fl.length=ns.length
 rep:∀k,k<fl.length->cE x.G (fl.getD k .undef) (ns.getD k undef)
 one:∀v∈ns,v.oneCell'=true
theorem dP(z:LAb)(n:Nat):(Builtin.zeroCells z n).size=n*z.size:=by simp[Builtin.zeroCells]
theorem aM.retok(hM:aM C x s a w){t:Tok}(J:t.ready s=true)(d:Nat){y n cap:Nat}{bs:Option Addr}(F:de x y t (.slice bs n cap)):
 ∃b lo hi,aM C (x.newT d b lo hi) (s.grew t d) a w/\de (x.newT d b lo hi) y (.id d) (.slice bs n cap):=by
 have empty:cap=n->∃b lo hi,aM C (x.newT d b lo hi) (s.grew t d) a w/\de (x.newT d b lo hi) y (.id d) (.slice bs n cap):=by
  intro z;refine⟨0,0,0,⟨?_,hM.defers, ?_⟩,bs,n,cap,rfl,.inl z⟩
  ·exact cy.mono (x:=x) (x':=x.newT d 0 0 0) (lo:=d) (hi:=d+1) (fun _ _ _ h=>h) (fun _ _=>rfl) (Sit.newT_ne x d 0 0 0) hM.tm
  ·refine(hM.heap.sub (tk':=t.eat s.tk) (jK.refl _) ?_).addT d 0 0 0 (.inl rfl) (.inl rfl) (.inl rfl)
   intro u hu;cases t with
   |id t=>exact fR hu
   |_=>exact hu
 cases t with
 |no=>simp[Tok.ready]at J
 |clip=>obtain⟨T,O,H⟩:=F;simp only[Value.slice.injEq]at H;exact empty (by omega)
 |id t=>
  obtain⟨T,O,L,H,U⟩:=F;simp only[Value.slice.injEq]at H;obtain⟨rfl,rfl,rfl⟩:=H;rcases U with z|⟨b,off,rfl,hτ⟩
  ·exact empty z
  ·have E:t∈s.tk:=by simpa[Tok.ready]using J
   refine⟨b,off+n*y,off+cap*y,⟨?_,hM.defers, ?_⟩,_,n,cap,rfl,.inr ⟨b,off,rfl,Sit.newT_eq x d _ _ _⟩⟩
   ·exact cy.mono (x:=x) (x':=x.newT d b (off+n*y) (off+cap*y)) (lo:=d) (hi:=d+1) (fun _ _ _ h=>h) (fun _ _=>rfl) (Sit.newT_ne x d _ _ _) hM.tm
   ·have I:=hM.heap.tks t E
    unfold gH at I;rw[hτ]at I;refine(hM.heap.sub (tk':=bN t (t+1) s.tk) (jK.refl _) (fun u hu=>fR hu)).addT d b (off+n*y) (off+cap*y) I ?_ ?_
    ·by_cases z:off+n*y=off+cap*y
     ·exact .inl z
     ·refine .inr fun p W _=> ?_
      have:=hM.heap.tko t E p W;rw[hτ]at this;exact this.resolve_right z
    ·by_cases z:off+n*y=off+cap*y
     ·exact .inl z
     ·refine .inr fun u hu _=> ?_
      obtain⟨hu,Q⟩:=bC.1 hu;have:=hM.heap.tkd t E u hu (by omega);rw[hτ]at this;rcases this with h|h|h
      ·exact .inl h
      ·exact absurd h z
      ·exact .inr h
theorem fP{t u H:TypeId}{d2:TypeDesc}{n m len cap:Nat}(hd:P.underlying t=some (.slice H))(hu:P.underlying u=some d2)(E:(∃F,d2= .slice F)\/d2= .string)(hn:fi P H=some n){ty:TypeId}{bs:Option Addr}{Y:Value}{ns:LAa}{w1:World}
 (z:(Builtin.lenOf Y).run P w= .ok m w) (h:(Builtin.firstCells n m Y).run P w= .ok ns.toArray w) (J:len+m<=cap)
 (y:(match bs with|some I=>storeCells (I.add (len*n)) ns|none=>pure ():Sem Unit).run P w= .ok () w1):
 (Builtin.append_ #[t,u] ty #[.slice bs len cap,Y]).run P w= .ok (.slice bs (len+m) cap) w1:=by
 have e:(#[t,u]:Array TypeId)[0]? =some t:=rfl;have F:(#[t,u]:Array TypeId)[1]? =some u:=rfl;have O:(#[Value.slice bs len cap,Y]:LAb)[0]? =some (.slice bs len cap):=rfl;have L:(#[Value.slice bs len cap,Y]:LAb)[1]? =some Y:=rfl;rcases E with⟨Q,rfl⟩|rfl
 all_goals
  simp only[Builtin.append_,e,F,O,L,az,run_underlying hd,aj,cK hn,run_underlying hu,aF,aI,if_false,z,J,if_true,Bool.not_false,h];cases bs with
  |none=>simp only[aF]at y;cases y;rfl
  |some I=>simp only[az];rw[y];rfl
theorem ib{t u E:TypeId}{d2:TypeDesc}{n m len cap h:Nat}{i:TypeInfo}{z:Value}(hd:P.underlying t=some (.slice E))(hu:P.underlying u=some d2)(O:(∃U,d2= .slice U)\/d2= .string)(hn:fi P E=some n){ty:TypeId}{bs:Option Addr}{Y:Value}{os ns:LAa}
 (hi:P.info? E=some i) (F:i.bytes=h) (hb0:h≠0) (T:∀w,(zeroValue E).run P w= .ok z w)
 (I:∀w',w'.heap=w.heap->(Builtin.lenOf Y).run P w'= .ok m w') (y:∀w',w'.heap=w.heap->(Builtin.firstCells n m Y).run P w'= .ok ns.toArray w') (L:∀w',w'.heap=w.heap->(Builtin.firstCells n len (.slice bs len cap)).run P w'= .ok os.toArray w')
 (W:¬len+m<=cap) (H:(len+m)*h<=140737488355328):
 ∃Q,len+m<=Q/\(Builtin.append_ #[t,u] ty #[.slice bs len cap,Y]).run P w= .ok (.slice (some ⟨w.heap.size,0,none⟩) (len+m) Q) (w.drew.alloc (.cells (os.toArray++ns.toArray++Builtin.zeroCells z.cells (Q-(len+m))) E (0,0))):=by
 have e:(#[t,u]:Array TypeId)[0]? =some t:=rfl;have U:(#[t,u]:Array TypeId)[1]? =some u:=rfl;have e2:(#[Value.slice bs len cap,Y]:LAb)[0]? =some (.slice bs len cap):=rfl;have Z:(#[Value.slice bs len cap,Y]:LAb)[1]? =some Y:=rfl;have hf:(Question.appendCap (len+m) cap E).forced=false:=rfl
 have J:¬Builtin.nextslicecap (len+m) cap*i.bytes>2^48:=by have:=growslice_fits (need:=len+m) (old:=cap) (bytes:=h) (by omega) H;rw[F];omega
 refine⟨(Question.appendCap (len+m) cap E).cut (w.tape w.drawn (Question.appendCap (len+m) cap E)),by simp only[Question.cut];omega, ?_⟩;rcases O with⟨e4,rfl⟩|rfl
 all_goals
  simp only[Builtin.append_,e,U,e2,Z,az,run_underlying hd,aj,cK hn,run_underlying hu,aF,aI,if_false,I w rfl,W,run_typeInfo w hi,F,hb0,false_or,and_false];rw[if_neg (by rw[<-F];exact J)];simp only[az,run_choose_drew,hf,aI,if_false,aj,run_typeInfo w.drew hi,run_askRoom,L w.drew rfl,Bool.not_false,if_true,y w.drew rfl,T,newRow,run_newObj_alloc,aF];rfl
theorem ii(os ns:LAa)(r:LAb)(k:Nat)(h:k<os.length+ns.length):(os.toArray++ns.toArray++r)[k]? =(os++ns)[k]? :=by rw[Array.getElem?_append_left (by simp;omega)];rw[<-cY];simp
theorem oh(hM:aM C x s a w){t u Z:TypeId}{d2:TypeDesc}{n a1:Nat}{zs:LAa}(hd:P.underlying t=some (.slice Z))(hu:P.underlying u=some d2)(a5:(∃e',d2= .slice e')\/d2= .string)(hn:fi P Z=some n)(hb:sB P Z=some a1)
 (hz:fN P Z=some zs) (hb0:a1≠0) (d3:n≠0) (hzl:zs.length=n) {ty:TypeId} {X Y:Value} {tok:Tok} {fl y:t7} {ns:LAa} {len m cap:Nat} (hX:Ce x.G n fl X len cap) (Q:tok.ready s=true) (a8:de x n tok X)
 (L:∀w',w'.heap=w.heap->(Builtin.lenOf Y).run P w'= .ok m w') (F:∀w',w'.heap=w.heap->(Builtin.firstCells n m Y).run P w'= .ok ns.toArray w') (J:ns.length=m*n) (E:New x ns y) (a4:(len+m)*a1<=140737488355328) (d:Nat):
 ∃v w' x' a3,(Builtin.append_ #[t,u] ty #[X,Y]).run P w= .ok v w'/\aM C x' (s.grew tok d) a w'/\Ce x'.G n (fl++y) v (len+m) a3/\de x' n (.id d) v:=by
 obtain⟨O,g8,a2⟩:=hX;obtain⟨z,f0,e7⟩:=cC hz
 have hby:∃i,P.info? Z=some i/\i.bytes=a1:=by
  unfold sB at hb;cases hi:P.info? Z with
  |none=>simp[hi]at hb
  |some i=>simp[hi]at hb;exact⟨i,rfl,hb⟩
 obtain⟨i,hi,d6⟩:=hby
 obtain⟨bs,d8⟩:∃bs,X= .slice bs len cap:=by
  rcases a2 with⟨b,off,rfl,_⟩|⟨⟨a,rfl⟩,rfl,rfl⟩
  ·exact⟨_,rfl⟩
  ·exact⟨_,rfl⟩
 subst d8;have d5:y.length=m*n:=by rw[E.len,J]
 have T:(len+m)*n=(fl++y).length:=by rw[af,d5,<-O,bA]
 by_cases hc:len+m<=cap
 ·by_cases hm:ns=[]
  ·
   subst hm;have c7:y=[]:=cx.1 (by rw[E.len];rfl);subst c7;obtain⟨b,lo,g4,g1,d4⟩:=hM.retok Q d a8
   by_cases a0:m=0
   ·subst a0
    refine⟨_,w,_,cap,fP hd hu a5 hn (L w rfl) (F w rfl) hc (by cases bs<;>rfl),g1, ?_,d4⟩;refine⟨by simpa using O,hc, ?_⟩;rcases a2 with⟨b,off,H,hr⟩|⟨H,h1,h2⟩
    ·exact .inl ⟨b,off,H,by rw[bf];exact hr⟩
    ·exact .inr ⟨H,h1,h2⟩
   ·
    have hn0:n=0:=by
     simp only[bl]at J;rcases Nat.mul_eq_zero.1 J.symm with h|h
     ·exact absurd h a0
     ·exact h
    exact absurd hn0 d3
  ·have c3:0<ns.length:=mb.2 hm
   have b5:0<m*n:=by omega
   cases tok with
   |no=>simp[Tok.ready]at Q
   |clip=>
    obtain⟨b',n',H⟩:=a8;simp only[Value.slice.injEq]at H;have:m=0:=by omega
    subst this;omega
   |id tk=>
    have d9:tk∈s.tk:=by simpa[Tok.ready]using Q
    obtain⟨b',n',a3,H,hh⟩:=a8;simp only[Value.slice.injEq]at H;obtain⟨rfl,rfl,rfl⟩:=H;rcases hh with h0|⟨b,off,rfl,hτ⟩
    ·have:m=0:=by omega
     subst this;omega
    ·have b6:off+len*n+ns.length<=off+cap*n:=by
      rw[J,eB,<-bA];exact Nat.add_le_add_left (bz _ hc) _
     obtain⟨f1,f2,f3,f4,f5,f6,f7,⟨c0,e0,g6,g5,hO,g7⟩⟩:=hM.heap.fill d9 hτ ns b6 c3
     have U:=fP (t:=t) (u:=u) (ty:=ty) (Y:=Y) (bs:=some ⟨b,off,none⟩) (w1:=cg w b (off+len*n) ns) hd hu a5 hn (L w rfl) (F w rfl) hc (by simp only[cZ];exact ez (off+len*n) ns w c0 0 hO (by omega) E.one)
     refine⟨_,_,(x.fill b (off+len*n) ns).newT d b (off+len*n+ns.length) (off+cap*n),cap,U,⟨?_,hM.defers, ?_⟩,⟨T,hc,.inl ⟨b,off,rfl, ?_⟩⟩, ?_⟩
     ·exact cy.mono (x:=x) (x':=(x.fill b (off+len*n) ns).newT d b (off+len*n+ns.length) (off+cap*n)) (lo:=d) (hi:=d+1) f1 (fun _ _=>rfl) (Sit.newT_ne (x.fill b (off+len*n) ns) d _ _ _) hM.tm
     ·exact f2.addT d b _ _ (.inr ⟨f3,f4,f5⟩) (.inr fun p hp _=>f6 p hp) (.inr fun u hu _=>f7 u hu)
     ·rcases a2 with⟨b2,g3,a7,hr⟩|⟨a7,_,_⟩
      ·simp only[Value.slice.injEq,aq.injEq,Addr.mk.injEq]at a7
       obtain⟨⟨rfl,rfl,_⟩,_⟩:=a7;intro k hk
       by_cases I:k<fl.length
       ·obtain⟨v,hv,a6⟩:=hr k I
        refine⟨v,f1 _ _ _ hv, ?_⟩;have:(fl++y).getD k .undef=fl.getD k .undef:=by simp only[aa,bc I]
        rw[this];exact a6.mono f1
       ·rw[af]at hk
        refine⟨ns.getD (k-fl.length) undef, ?_, ?_⟩
        ·show(x.fill b (off+len*n) ns).G b (off+k)=_
         simp only[Sit.fill];rw[if_pos ⟨trivial,by omega,by omega⟩,show off+k-(off+len*n)=k-fl.length from by omega]
        ·have:(fl++y).getD k .undef=y.getD (k-fl.length) .undef:=by simp only[aa,bw (Nat.le_of_not_lt I)]
         rw[this];exact(E.rep _ (by omega)).mono f1
      ·have a0:m=0:=by omega
       rw[a0,iF]at b5;exact absurd b5 (Nat.lt_irrefl _)
     ·refine⟨_,_,cap,rfl,.inr ⟨b,off,rfl, ?_⟩⟩
      rw[Sit.newT_eq,J,eB,<-bA]
 ·
  obtain⟨os,e9,W,b4⟩:∃os:LAa,(∀w',w'.heap=w.heap->(Builtin.firstCells n len (.slice bs len cap)).run P w'= .ok os.toArray w')/\os.length=fl.length/\∀k,k<fl.length->cE x.G (fl.getD k .undef) (os.getD k undef):=by
   rcases a2 with⟨b,off,H,hr⟩|⟨H,h1,h2⟩
   ·simp only[Value.slice.injEq]at H
    obtain⟨rfl,_⟩:=H;refine⟨(bU (len*n)).map fun k=>(w.cell? ⟨b,off+k,none⟩).getD undef,fun w' e5=> ?_,by simp[O],fun k hk=> ?_⟩
    ·simp only[Builtin.firstCells]
     refine run_loadCells w' _ _ _ fun j hj=> ?_
     rw[cZ,db (w:=w) (by rw[e5])];obtain⟨v,hv,_⟩:=hr j (by omega);rw[hM.heap.per _ _ _ hv];rfl
    ·obtain⟨v,hv,a6⟩:=hr k hk
     have:((bU (len*n)).map fun k=>(w.cell? ⟨b,off+k,none⟩).getD undef).getD k undef=v:=by rw[aa];simp[show k<len*n from by omega,hM.heap.per _ _ _ hv]
     rw[this];exact a6
   ·obtain⟨a,H⟩:=H
    simp only[Value.slice.injEq]at H;obtain⟨rfl,rfl,_⟩:=H;have:fl=[]:=cx.1 (by rw[<-O,h1,iF]);subst this;exact⟨[],fun w' _=>by cases bs<;>simp only[Builtin.firstCells,iF]<;>rfl,rfl,fun k hk=>by simp at hk⟩
  obtain⟨nc,e8,U⟩:=ib (t:=t) (u:=u) (ty:=ty) (Y:=Y) hd hu a5 hn hi d6 hb0 e7 L F e9 hc a4
  let cv:LAb:=os.toArray++ns.toArray++Builtin.zeroCells z.cells (nc-(len+m))
  have g2:cv.size=nc*n:=by
   have d7:z.cells.size=n:=by rw[<-aO,f0];exact hzl
   simp only[cv,Array.size_append,List.size_toArray,dP,d7,W,J,<-O];rw[<-bA,<-bA];congr 1;omega
  have b3:∀o,x.G w.heap.size o=none:=by
   intro o;cases hg:x.G w.heap.size o with
   |none=>rfl
   |some v=>exact absurd (hM.heap.ltG hg) (by omega)
  have c6:=hM.heap.newD_le cv ((len+m)*n);have hH:cW C (x.newD w.heap.size cv ((len+m)*n)) s.ob s.tk (w.drew.alloc (.cells cv Z (0,0))):=hM.heap.drew.allocD ((len+m)*n);have c4:eQ (w.drew.alloc (.cells cv Z (0,0))) w.heap.size cv Z 0 0:=⟨dw (w:=w.drew),fun i _ h=>by omega⟩;refine⟨_,_,(x.newD w.heap.size cv ((len+m)*n)).newT d w.heap.size ((len+m)*n) (nc*n),nc,U,⟨?_,hM.defers, ?_⟩,⟨T,e8,.inl ⟨_,0,rfl, ?_⟩⟩, ?_⟩
  ·exact cy.mono (x:=x) (x':=(x.newD w.heap.size cv ((len+m)*n)).newT d w.heap.size ((len+m)*n) (nc*n)) (lo:=d) (hi:=d+1) c6 (fun _ _=>rfl) (Sit.newT_ne (x.newD w.heap.size cv ((len+m)*n)) d _ _ _) hM.tm
  ·refine(hH.sub (tk':=tok.eat s.tk) (jK.refl _) ?_).addT d w.heap.size _ _ (.inr ⟨⟨cv,Z,0,0,c4,by omega⟩,hM.heap.new _ hM.heap.size,fun o h1 h2=> ?_⟩) (.inr fun p hp _=> ?_) (.inr fun u hu _=> ?_)
   ·intro u hu
    cases tok with
    |id t=>exact fR hu
    |_=>exact hu
   ·simp only[Sit.newD];rw[if_neg (by omega)];exact b3 o
   ·obtain⟨⟨c2,e2,e4,e3,a9,_⟩,_⟩:=hM.heap.obs p hp
    have:=a9.lt;show w.heap.size≠(x.bk p.1).1;omega
   ·have e6:u∈s.tk:=by
     cases tok with
     |id t=>exact fR hu
     |_=>exact hu
    rcases hM.heap.tks u e6 with h|⟨⟨c2,e2,e4,e3,a9,_⟩,_⟩
    ·exact .inr h
    ·have:=a9.lt
     exact .inl (by show w.heap.size≠(x.τ u).1;omega)
  ·intro k hk
   have b7:k<os.length+ns.length:=by rw[W,<-E.len,<-af];exact hk
   have b8:cv[k]? =(os++ns)[k]? :=ii os ns _ k b7;have g9:k<(len+m)*n:=by rw[T];exact hk
   refine⟨(os++ns).getD k undef, ?_, ?_⟩
   ·show(x.newD w.heap.size cv ((len+m)*n)).G w.heap.size (0+k)=_
    simp only[Sit.newD];rw[if_pos ⟨trivial,by omega⟩,cf,b8];have:k<(os++ns).length:=by rw[af];exact b7
    rw[ab this,aa,ab this];rfl
   ·refine cE.mono (G:=x.G) c6 ?_
    by_cases I:k<fl.length
    ·have e1:(fl++y).getD k .undef=fl.getD k .undef:=by simp only[aa,bc I]
     have e2:(os++ns).getD k undef=os.getD k undef:=by simp only[aa,bc (show k<os.length by omega)]
     rw[e1,e2];exact b4 k I
    ·have e1:(fl++y).getD k .undef=y.getD (k-fl.length) .undef:=by simp only[aa,bw (Nat.le_of_not_lt I)]
     have e2:(os++ns).getD k undef=ns.getD (k-fl.length) undef:=by simp only[aa,bw (show os.length<=k by omega),W]
     rw[e1,e2];exact E.rep _ (by rw[af]at hk;omega)
  ·exact⟨_,_,nc,rfl,.inr ⟨w.heap.size,0,rfl,by rw[Sit.newT_eq];simp⟩⟩
theorem eZ(hM:aM C x s a w){u:SV}{Y:Value}{p:Prop}{l:t6}(h:Rep x u Y)(F:bytesOf s u=some (p,l))(hp:p):
 (∀w',w'.heap=w.heap->(Builtin.lenOf Y).run P w'= .ok l.length w')/\(∀m,m<=l.length->∀w',w'.heap=w.heap->(Builtin.firstCells 1 m Y).run P w'= .ok ((l.take m).map fun b=>Value.int .u8 b.toNat).toArray w'):=by
 have load:∀(b off m:Nat),m<=l.length->(∀i,i<l.length->w.cell? ⟨b,off+i,none⟩=some (.int .u8 (l.getD i 0).toNat))->∀w':World,w'.heap=w.heap->
  (loadCells ⟨b,off,none⟩ (m*1)).run P w'= .ok ((l.take m).map fun b=>Value.int .u8 b.toNat).toArray w':=by
  intro b off m z U w' E;rw[run_loadCells w' _ _ (fun i=> .int .u8 (l.getD i 0).toNat) (fun j hj=>by rw[cZ,db (w:=w) (by rw[E])];exact U j (by omega))]
  congr 2
  apply List.ext_getElem?;intro i
  by_cases hi:i<m
  ·simp[hi,aa,show i<l.length from by omega]
  ·simp[hi];omega
 cases u with
 |byt O t=>
  simp only[bytesOf,aq.injEq,bi.injEq]at F;obtain⟨rfl,rfl⟩:=F;have L:=h.data rfl;cases hY:Y with
  |slice ad n cp=>
   rw[hY]at L;cases L with
   |bytN=>exact⟨fun w' _=>rfl,fun m z w' _=>by simp at z;subst z;rfl⟩
   |bytE=>exact⟨fun w' _=>rfl,fun m z w' _=>by simp at z;subst z;rfl⟩
   |byt _ _ b off _ _ hn U hg=>subst hn;exact⟨fun w' _=>rfl,fun m z w' E=>by simp only[Builtin.firstCells];exact load b off m z (fun i hi=>hM.heap.per _ _ _ (hg i hi)) w' E⟩
  |_=>rw[hY]at L;cases L
 |str O=>simp only[bytesOf,aq.injEq,bi.injEq]at F;obtain⟨rfl,rfl⟩:=F;rw[h.str_inv];refine⟨fun w' _=>by simp[Builtin.lenOf,ByteArray.size],fun m z w' _=> ?_⟩;simp only[Builtin.firstCells,zi,bh,aF];simp
 |psl Z sz off n cp=>
  simp only[bytesOf]at F;split at F<;>try (cases F;done)
  rename_i O hl;simp only[aq.injEq,bi.injEq]at F;obtain⟨rfl,rfl⟩:=F;obtain⟨Q,W⟩:=hp;obtain⟨cp,a0,_,y,T,J⟩:=h.psl_inv;have I:((O.drop off).take n).length=n:=by simp;omega
  rw[T];refine⟨fun w' _=>by simp only[Builtin.lenOf,I];rfl,fun m z w' E=> ?_⟩;simp only[Builtin.firstCells]
  by_cases hn:cp=0
  ·have:m=0:=by omega
   subst this;rfl
  ·have H:y=off:=by
    rcases J with h|h
    ·omega
    ·rw[Q,iu]at h;exact h
   subst H;refine load ((x.bk Z).1) y m z (fun i hi=> ?_) w' E;obtain⟨v,h2,h3⟩:=(eo hM hl).cell (k:=y+i) (by simp only[aC.size];omega);rw[h2];have h4:cE x.G (.u8 (O.getD (y+i) 0)) v:=h3;cases h4;simp only[aa,bE,if_pos (show i<n by omega),bx]
 |_=>simp[bytesOf]at F
theorem kv(l:t6):New x (l.map fun b=>Value.int .u8 b.toNat) (l.map .u8):=by
 refine⟨by simp,fun k h=> ?_,fun v y=> ?_⟩
 ·rw[aS]at h
  rw[eC _ _ h]
  have:(l.map fun b=>Value.int .u8 b.toNat).getD k undef= .int .u8 (l.getD k 0).toNat:=by simp only[aa,aR];rw[ab h];rfl
  rw[this];exact .u8 _
 ·obtain⟨b,_,rfl⟩:=aQ.1 y;rfl
theorem gM(hM:aM C x s a w){E:Nat}{u:SV}{Y:Value}{p:Prop}{J:f8}(h:Rep x u Y)(T:jB s E u=some (p,J))(hp:p):
 (∀y∈J,y.length=E)/\(∀w',w'.heap=w.heap->(Builtin.lenOf Y).run P w'= .ok J.length w')/\
 ∃ns:LAa,New x ns J.flatten/\∀m,m<=J.length->∀w',w'.heap=w.heap->(Builtin.firstCells E m Y).run P w'= .ok (ns.take (m*E)).toArray w':=by
 have Z:∀(b off:Nat),(∀y∈J,y.length=E)->(∀k,k<J.flatten.length->∃v,w.cell? ⟨b,off+k,none⟩=some v/\cE x.G (J.flatten.getD k .undef) v)->
  ∃ns:LAa,New x ns J.flatten/\∀m,m<=J.length->∀w',w'.heap=w.heap->(loadCells ⟨b,off,none⟩ (m*E)).run P w'= .ok (ns.take (m*E)).toArray w':=by
  intro b off z hc;refine⟨(bU J.flatten.length).map fun k=>(w.cell? ⟨b,off+k,none⟩).getD undef,⟨by simp,fun k H=> ?_,fun v I=> ?_⟩,fun m Q w' O=> ?_⟩
  ·obtain⟨v,I,hr⟩:=hc k H
   have:((bU J.flatten.length).map fun k=>(w.cell? ⟨b,off+k,none⟩).getD undef).getD k undef=v:=by rw[aa,aR,cL H];simp[I]
   rw[this];exact hr
  ·obtain⟨k,H,rfl⟩:=aQ.1 I
   obtain⟨v,I,hr⟩:=hc k (jx.1 H);rw[I];exact hr.oneCell
  ·have a2:m*E<=J.flatten.length:=by rw[bG z];exact bz _ Q
   rw[run_loadCells w' _ _ (fun k=>(w.cell? ⟨b,off+k,none⟩).getD undef) (fun j hj=> ?_)]
   ·congr 2
    rw[<-List.map_take,List.take_range,gI a2]
   ·rw[cZ,db (w:=w) (by rw[O])]
    obtain⟨v,I,_⟩:=hc j (by omega);rw[I];rfl
 cases u with
 |lst a5 F t=>
  simp only[jB,aq.injEq,bi.injEq]at T;obtain⟨rfl,rfl⟩:=T;subst hp;obtain⟨cap,⟨h1,h2,h3⟩,_,z⟩:=pB (h.data rfl);refine⟨z, ?_⟩;rcases h3 with⟨b,off,rfl,hr⟩|⟨⟨ad,rfl⟩,h0,_⟩
  ·refine⟨fun w' _=>rfl, ?_⟩
   obtain⟨ns,g1,g2⟩:=Z b off z (fun k H=>by obtain⟨v,I,a8⟩:=hr k H;exact⟨v,hM.heap.per _ _ _ I,a8⟩)
   exact⟨ns,g1,fun m Q w' O=>by simp only[Builtin.firstCells];exact g2 m Q w' O⟩
  ·have:F=[]:=cx.1 h0
   subst this
   exact⟨fun w' _=>rfl,[],⟨rfl,fun k H=>by simp at H,fun v I=>by simp at I⟩,fun m Q w' _=>by
    have a4:m=0:=by simpa using Q
    subst a4;cases ad<;>simp only[Builtin.firstCells,iF]<;>rfl⟩
 |psl o' a5 off n cp=>
  simp only[jB]at T;split at T<;>try (cases T;done)
  rename_i b2 F hl;simp only[aq.injEq,bi.injEq]at T;obtain⟨rfl,rfl⟩:=T;obtain⟨rfl,rfl,a1,a6⟩:=hp;have z:∀y∈(F.drop off).take n,y.length=E:=fun y hy=>a6 y (Dw (cm hy))
  obtain⟨cp,b3,_,U,a7,a0⟩:=h.psl_inv;have L:((F.drop off).take n).length=n:=by simp;omega
  rw[a7];refine⟨z,fun w' _=>by simp only[Builtin.lenOf,L];rfl, ?_⟩
  by_cases hn:cp=0
  ·have hn0:n=0:=by omega
   subst hn0
   exact⟨[],⟨by simp,fun k H=>by simp at H,fun v I=>by simp at I⟩,fun m Q w' _=>by simp at Q;subst Q;simp[Builtin.firstCells,loadCells,loadCellsFrom]⟩
  ·have W:U=off*E:=a0.resolve_left hn
   obtain⟨ns,g1,g2⟩:=Z ((x.bk o').1) U z (fun k H=>by
    rw[bG z,L]at H
    have a3:off*E+k<F.length*E:=by have:=bz E a1;rw[bA]at this;omega
    obtain⟨v,h2,h3⟩:=(eo hM hl).cell (k:=off*E+k) (by simp only[aC.size];exact a3);refine⟨v,by rw[W];exact h2, ?_⟩;have h4:cE x.G ((F.getD ((off*E+k)/E) []).getD ((off*E+k) % E) .undef) v:=h3
    have a9:0<E:=by
     rcases fZ E with h0|h0
     ·subst h0;omega
     ·exact h0
    rw[cG _ z k (by rw[L];exact H)];rw[cD off E,Nat.mul_add_div a9,Nat.mul_add_mod]at h4;have hd:k/E<n:=Nat.div_lt_of_lt_mul (by rw[cD];exact H)
    have e1:((F.drop off).take n).getD (k/E) []=F.getD (off+k/E) []:=by simp only[aa,bE,if_pos hd,bx]
    rw[e1];exact h4)
   exact⟨ns,g1,fun m Q w' O=>by simp only[Builtin.firstCells];exact g2 m Q w' O⟩
 |_=>simp[jB]at T
theorem wB(hM:aM C x s a w){cl:Call}(ho:o.op= .call cl)(hb:cl.callee= .builtin .append)(h:bq P o=some so)(F:eff s o.dst so=some e)(hp:e.pre):b9 P C o a w (s.app o.dst e):=by
 simp only[bq,ho,hb]at h;split at h<;>try (cases h;done)
 rename_i X Y t u hX ht;split at h<;>try (cases h;done)
 rename_i el d2 r q hd hu b2 b4;split at h<;>try (cases h;done)
 rename_i n b3 z hn hby hz;rw[aH]at h;obtain⟨J,h⟩:=h;simp only[aB,decide_eq_true_eq]at J;obtain⟨⟨hb0,hn0⟩,b6⟩:=J;obtain⟨zs,a9,b5,_⟩:=i6 hz;have hzl:zs.length=n:=by omega
 have T:((∃e',d2= .slice e')\/d2= .string)/\so= .app z b3 r q:=by
  split at h<;>try (cases h;done)
  ·cases h;exact⟨.inl ⟨_,rfl⟩,rfl⟩
  ·rw[aH]at h
   obtain⟨_,h⟩:=h;cases h;exact⟨.inr rfl,rfl⟩
  ·cases h;cases F
 obtain⟨T,rfl⟩:=T;have h1:=aJ hM b2;have h2:=aJ hM b4;have ea:cl.args= #[X,Y]:=by apply dI;simpa using hX
 have et:cl.argTypes= #[t,u]:=by apply dI;simpa using ht
 have a1:=fC (a:=a) ho hb _ rfl;rw[ea,et]at a1;have em: #[X,Y].map a.eval= #[a.eval X,a.eval Y]:=by simp
 rw[em]at a1;simp only[eff]at F;split at F<;>try (cases F;done)
 rename_i d U
 have fin:∀{v w' x'}{c:SV},(Builtin.append_ #[t,u] o.type #[a.eval X,a.eval Y]).run P w= .ok v w'->∀{tk:Tok},aM C x' (s.grew tk (d+100)) a w'->Rep x' c v->b9 P C o a w ((s.grew tk (d+100)).put o.dst c):=by intro v w' x' c E tk Q hc;exact⟨v,w',x',.value v,by rw[a1];simp[E],.inl rfl,Q.put o.dst hc⟩
 cases hu':s.ev r with
 |byt l tk=>
  rw[hu']at F h1
  try simp only at F
  split at F<;>try (cases F;done)
  rename_i p l' a7;cases F;obtain⟨a3,b7,rfl,a5,I⟩:=hp;obtain rfl:n=1:=by omega
  obtain⟨g1,g2⟩:=eZ (P:=P) hM h2 a7 a3;obtain⟨_,_,_,_,_,a4⟩:=h1.byt_inv;obtain⟨cap,hF,_⟩:=uP (h1.data rfl)
  obtain⟨v,w',x',L,E,Q,a2,O⟩:=oh (ty:=o.type) hM hd hu T hn hby a9 hb0 hn0 hzl hF a5 a4 g1 (fun w' a6=>by have:=g2 l'.length (aN _) w' a6;rwa[bB]at this) (by simp) (kv l') (by omega) (d+100)
  simp only[St.app];have Z:o.dst.getD 0=d:=by rw[U];rfl
  rw[Z];refine fin E Q (.dat _ _ (F7 (cap:=L) ?_) O);rw[af,df];exact a2
 |lst b8 l tk=>
  rw[hu']at F h1
  try simp only at F
  split at F<;>try (cases F;done)
  rename_i p l' a7;cases F;obtain⟨a3,rfl,a5,I⟩:=hp;obtain rfl:n=z.length:=by omega
  obtain⟨H,g1,ns,W,g2⟩:=gM (P:=P) hM h2 a7 a3;obtain⟨_,_,_,_,_,a4⟩:=h1.lst_inv;obtain⟨cap,hF,_,a0⟩:=pB (h1.data rfl);have a8:ns.length=l'.length*z.length:=by rw[<-W.len,bG H]
  obtain⟨v,w',x',L,E,Q,a2,O⟩:=oh (ty:=o.type) hM hd hu T hn hby a9 hb0 hn0 hzl hF a5 a4 g1 (fun w' a6=>by have:=g2 l'.length (aN _) w' a6;rwa[<-a8,bB]at this) a8 W I (d+100)
  simp only[St.app];have Z:o.dst.getD 0=d:=by rw[U];rfl
  rw[Z];refine fin E Q (.dat _ _ (Fp (cap:=L) ?_ ?_) O)
  ·rw[af,bX];exact a2
  ·intro y hy
   rcases ak.1 hy with hy|hy
   ·exact a0 y hy
   ·exact H y hy
 |_=>rw[hu']at F;simp at F
end Go.Sy
namespace Go.Sy
variable [ba]
variable {P : Program} {C : Ctx} {x : Sit} {s : St} {a : Act} {w : World} {o : Oper} {so : SOp} {e : Eff}
theorem aM.write(hM:aM C x s a w){d off:Nat}{obj obj':aC}(L:s.look d=some obj){vs:LAa}(hb:off+vs.length<=obj.size)(a0:obj'.size=obj.size)
 (z:∀c:LAb,(∀k,k<obj.size->cj x obj k (c.getD k undef))->∀k,k<obj.size->cj x obj' k (if off<=k/\k<off+vs.length then vs.getD (k-off) undef else c.getD k undef)) (E:obj'.arrB=obj.arrB:=by rfl):
 aM C x (s.setO d obj') a (cg w ((x.bk d).1) off vs)/\((∀v∈vs,v.oneCell'=true)->∀w':World,w'=w->(storeCells ⟨(x.bk d).1,off,none⟩ vs).run P w'= .ok () (cg w ((x.bk d).1) off vs)):=by
 obtain⟨c,e,fl,fh,O,⟨hs,Q,J⟩,W⟩:=eo hM L;obtain⟨g1,T,U,g4,g5⟩:=eX ((x.bk d).1) vs w off;obtain⟨Z,H,F,I⟩:=eA vs w off c O (by omega);refine⟨⟨hM.tm,hM.defers,hM.heap.block (cO L) g1 T U g4 g5 ⟨Z,e,fl,fh,H,⟨by omega,by omega,fun h=>by rw[F];exact J (E ▸ h)⟩,fun k hk=> ?_⟩⟩, ?_⟩
 ·rw[I k]
  exact z c W k (by omega)
 ·rintro y w' rfl
  exact ez off vs w' c 0 O (by omega) y
theorem uh{t u F:TypeId}{n m k:Nat}{ty:TypeId}{bs:Addr}{cap:Nat}{Y:Value}{vs:LAa}{w1:World}(hd:P.underlying t=some (.slice F))(hn:fi P F=some n)
 (y:(Builtin.lenOf Y).run P w= .ok m w) (h:(Builtin.firstCells n (min m k) Y).run P w= .ok vs.toArray w) (E:(storeCells bs vs).run P w= .ok () w1):
 (Builtin.copy_ #[t,u] ty #[.slice (some bs) k cap,Y]).run P w= .ok (.int .i64 (min m k:Nat)) w1:=by
 have e:(#[t,u]:Array TypeId)[0]? =some t:=rfl;have I:(#[Value.slice (some bs) k cap,Y]:LAb)[0]? =some (.slice (some bs) k cap):=rfl;have H:(#[Value.slice (some bs) k cap,Y]:LAb)[1]? =some Y:=rfl;have z:(Builtin.firstCells n (Nat.min m k) Y).run P w= .ok vs.toArray w:=h;simp only[Builtin.copy_,e,I,H,az,run_underlying hd,aj,cK hn,y,z,E,aF,goInt]
theorem FS(hM:aM C x s a w){cl:Call}(ho:o.op= .call cl)(hb:cl.callee= .builtin .copy)(hr:bq P o=some so)(U:eff s o.dst so=some e)(hp:e.pre):b9 P C o a w (s.app o.dst e):=by
 simp only[bq,ho,hb]at hr;split at hr<;>try (cases hr;done)
 rename_i X Y t u hX ht;split at hr<;>try (cases hr;done)
 rename_i el r q hd c4 c7;split at hr<;>try (cases hr;done)
 rename_i n hn;cases hr;have h1:=aJ hM c4;have h2:=aJ hM c7;have ea:cl.args= #[X,Y]:=by apply dI;simpa using hX
 have et:cl.argTypes= #[t,u]:=by apply dI;simpa using ht
 have a2:=fC (a:=a) ho hb _ rfl;rw[ea,et]at a2;have em: #[X,Y].map a.eval= #[a.eval X,a.eval Y]:=by simp
 rw[em]at a2;simp only[eff]at U;cases hu:s.ev r with
 |psl d d4 off k cap=>
  rw[hu]at U h1;obtain⟨cap,d5,_,L,a9,a3⟩:=h1.psl_inv
  try simp only at U
  split at U<;>try (cases U;done)
  ·rename_i l hl
   split at U<;>try (cases U;done)
   rename_i p z a8;cases U;obtain⟨a6,rfl,rfl,b4⟩:=hp;obtain⟨g1,g2⟩:=eZ (P:=P) hM h2 a8 a6;have a0:((z.take (min z.length k)).map fun b=>Value.int .u8 b.toNat).length=min z.length k:=by simp
   have b7:z.take (min z.length k)=z.take k:=by rw[Nat.min_comm,<-List.take_take];simp
   have I:min z.length k=0\/L=off:=by
    rcases a3 with h|h
    ·left;omega
    ·right;rw[iu]at h;exact h
   have T:(z.take k).length=min z.length k:=by simp;omega
   simp only[St.app]
   obtain⟨
    hM',hst⟩:=hM.write (P:=P) (off:=off) (vs:=(z.take (min z.length k)).map fun b=>Value.int .u8 b.toNat) (obj':= .bar (l.take off++z.take k++l.drop (off+(z.take k).length))) hl (by simp only[aC.size,a0];omega)
    (by simp only[aC.size,af,aA,aL];omega) (by
     intro c hc i hi;have:=hc i hi;simp only[cj,aC.cell,aC.size]at this hi ⊢;have a7:=fO l (z.take k) off i (by rw[T];omega);rw[a0]
     have e1:(l.take off++z.take k++l.drop (off+(z.take k).length)).getD i 0=if off<=i/\i<off+min z.length k then(z.take k).getD (i-off) 0 else l.getD i 0:=by simp only[aa];rw[a7,T];split<;>rfl
     rw[e1];split
     ·rename_i b6
      rw[b7]
      have e2:((z.take k).map fun b=>Value.int .u8 b.toNat).getD (i-off) undef= .int .u8 ((z.take k).getD (i-off) 0).toNat:=by simp only[aa,aR];rw[ab (by rw[T];omega)];rfl
      rw[e2];exact .u8 _
     ·exact this)
   refine⟨.int .i64 (min z.length k:Nat),_,x,.value _, ?_,.inl rfl,aM.put hM' o.dst (cJ _ _)⟩;rw[a2,a9]
   have a5:=uh (P:=P) (w:=w) (t:=t) (u:=u) (ty:=o.type) (bs:=⟨(x.bk d).1,L,none⟩) (cap:=cap) (w1:=cg w ((x.bk d).1) off ((z.take (min z.length k)).map fun b=>Value.int .u8 b.toNat)) hd hn (g1 w rfl) (g2 _ (Nat.min_le_left _ _) w rfl) (by
    rcases I with h|h
    ·rw[h];rfl
    ·rw[h];exact hst (fun v hv=>by obtain⟨_,_,rfl⟩:=aQ.1 hv;rfl) w rfl)
   simp[a5]
  ·rename_i d3 F hl
   split at U<;>try (cases U;done)
   rename_i p z a8;cases U;obtain⟨a6,rfl,rfl,b4,E⟩:=hp;obtain⟨J,g1,ns,Q,g2⟩:=gM (P:=P) hM h2 a8 a6;have b3:ns.length=z.length*n:=by rw[<-Q.len,bG J]
   have b8:(min z.length k)*n<=ns.length:=by rw[b3];exact bz _ (Nat.min_le_left _ _)
   have a0:(ns.take (min z.length k*n)).length=min z.length k*n:=by rw[aA,gI b8]
   have T:(z.take k).length=min z.length k:=by simp;omega
   have O:∀y∈z.take k,y.length=n:=fun y H=>J y (cm H)
   have a1:(z.take k).flatten.length=min z.length k*n:=by rw[bG O,T]
   have I:min z.length k=0\/L=off*n:=by
    rcases a3 with h|h
    ·left;omega
    ·right;exact h
   have a4:off*n+min z.length k*n<=F.length*n:=by rw[<-bA];exact bz _ (by omega)
   have W:∀y∈F.take off++z.take k++F.drop (off+(z.take k).length),y.length=n:=by
    intro y H;rcases ak.1 H with H|H
    ·rcases ak.1 H with H|H
     ·exact E y (cm H)
     ·exact O y H
    ·exact E y (Dw H)
   have Z:(F.take off++z.take k++F.drop (off+(z.take k).length)).length=F.length:=by simp only[af,aA,aL];omega
   simp only[St.app]
   obtain⟨
    hM',hst⟩:=hM.write (P:=P) (off:=off*n) (vs:=ns.take (min z.length k*n)) (obj':= .arr n (F.take off++z.take k++F.drop (off+(z.take k).length))) hl (by simp only[aC.size,a0];exact a4)
    (by simp only[aC.size];rw[Z]) (by
     intro c hc i hi;have:=hc i hi;simp only[cj,aC.cell,aC.size]at this hi ⊢;rw[<-cG _ W i (by rw[Z];exact hi)];rw[<-cG _ E i hi]at this;rw[bX,bX,a0];have ef:F.flatten=(F.take off).flatten++(F.drop off).flatten:=by rw[<-bX,fY]
     have l1:(F.take off).flatten.length=off*n:=by rw[bG (fun y H=>E y (cm H)),aA,gI (by omega)]
     have e1:F.flatten.take (off*n)=(F.take off).flatten:=by rw[ef,List.take_append_of_le_length (by rw[l1];exact aN _),bT (by rw[l1];exact aN _)]
     have e2:F.flatten.drop (off*n+min z.length k*n)=(F.drop (off+(z.take k).length)).flatten:=by
      have b5:F.flatten=(F.take (off+(z.take k).length)).flatten++(F.drop (off+(z.take k).length)).flatten:=by rw[<-bX,fY]
      have l2:(F.take (off+(z.take k).length)).flatten.length=off*n+min z.length k*n:=by rw[bG (fun y H=>E y (cm H)),aA,T,gI (by omega),bA]
      rw[b5,List.drop_append,l2,Nat.sub_self,bh,br (by rw[l2];exact aN _),aK]
     rw[<-e1,<-e2,<-a1];have a7:=fO F.flatten (z.take k).flatten (off*n) i (by rw[a1,bG E];exact a4);rw[aa,a7];split
     ·rename_i b6
      rw[<-aa];have c6:i-off*n<(z.take k).flatten.length:=by omega
      have b2:(z.take k).flatten.getD (i-off*n) .undef=z.flatten.getD (i-off*n) .undef:=by
       have c3:z.flatten=(z.take k).flatten++(z.drop k).flatten:=by rw[<-bX,fY]
       rw[c3];simp only[aa];rw[bc c6]
      rw[b2]
      have e3:(ns.take (min z.length k*n)).getD (i-off*n) undef=ns.getD (i-off*n) undef:=by simp only[aa,bE];rw[if_pos (by omega)]
      rw[<-a1]at e3;rw[e3];exact Q.rep _ (by rw[Q.len];omega)
     ·rw[<-aa];exact this)
   refine⟨.int .i64 (min z.length k:Nat),_,x,.value _, ?_,.inl rfl,aM.put hM' o.dst (cJ _ _)⟩;rw[a2,a9]
   have a5:=uh (P:=P) (w:=w) (t:=t) (u:=u) (ty:=o.type) (bs:=⟨(x.bk d).1,L,none⟩) (cap:=cap) (w1:=cg w ((x.bk d).1) (off*n) (ns.take (min z.length k*n))) hd hn (g1 w rfl) (g2 _ (Nat.min_le_left _ _) w rfl) (by
    rcases I with h|h
    ·rw[h];simp[storeCells,cg]
    ·rw[h];exact hst (fun v hv=>Q.one v (cm hv)) w rfl)
   simp[a5]
 |_=>rw[hu]at U;simp at U
theorem aM.writeRows(hM:aM C x s a w){d n off:Nat}{z E:f8}{ns:LAa}(hl:s.look d=some (.arr n z))(h:∀y∈z,y.length=n)(F:∀y∈E,y.length=n)
 (U:off+E.length<=z.length) (J:New x ns E.flatten):
 aM C x (s.setO d (.arr n (z.take off++E++z.drop (off+E.length)))) a (cg w ((x.bk d).1) (off*n) ns)/\(storeCells ⟨(x.bk d).1,off*n,none⟩ ns).run P w= .ok () (cg w ((x.bk d).1) (off*n) ns):=by
 have T:ns.length=E.length*n:=by rw[<-J.len,bG F]
 have Q:off*n+E.length*n<=z.length*n:=by rw[<-bA];exact bz _ U
 have H:∀y∈z.take off++E++z.drop (off+E.length),y.length=n:=by
  intro y I;rcases ak.1 I with I|I
  ·rcases ak.1 I with I|I
   ·exact h y (cm I)
   ·exact F y I
  ·exact h y (Dw I)
 have L:(z.take off++E++z.drop (off+E.length)).length=z.length:=by simp only[af,aA,aL];omega
 obtain⟨
  hM',hst⟩:=hM.write (P:=P) (off:=off*n) (vs:=ns) (obj':= .arr n (z.take off++E++z.drop (off+E.length))) hl (by simp only[aC.size,T];exact Q)
  (by simp only[aC.size];rw[L]) (by
   intro c hc i hi;have:=hc i hi;simp only[cj,aC.cell,aC.size]at this hi ⊢;rw[<-cG _ H i (by rw[L];exact hi)];rw[<-cG _ h i hi]at this;rw[bX,bX,T];have ef:z.flatten=(z.take off).flatten++(z.drop off).flatten:=by rw[<-bX,fY]
   have l1:(z.take off).flatten.length=off*n:=by rw[bG (fun y I=>h y (cm I)),aA,gI (by omega)]
   have e1:z.flatten.take (off*n)=(z.take off).flatten:=by rw[ef,List.take_append_of_le_length (by rw[l1];exact aN _),bT (by rw[l1];exact aN _)]
   have O:E.flatten.length=E.length*n:=bG F
   have e2:z.flatten.drop (off*n+E.length*n)=(z.drop (off+E.length)).flatten:=by
    have W:z.flatten=(z.take (off+E.length)).flatten++(z.drop (off+E.length)).flatten:=by rw[<-bX,fY]
    have l2:(z.take (off+E.length)).flatten.length=off*n+E.length*n:=by rw[bG (fun y I=>h y (cm I)),aA,gI (by omega),bA]
    rw[W,List.drop_append,l2,Nat.sub_self,bh,br (by rw[l2];exact aN _),aK]
   rw[<-e1,<-e2,<-O];have Z:=fO z.flatten E.flatten (off*n) i (by rw[O,bG h];exact Q);rw[aa,Z];split
   ·rename_i a0
    rw[<-aa];exact J.rep _ (by omega)
   ·rw[<-aa];exact this)
 exact⟨hM',hst J.one w rfl⟩
theorem CT{U:LAa}{z:t7}{J:LAb}(T:J.toList=U)(hl:z.length=U.length)(hz:∀(G:GM) i,i<z.length->cE G (z.getD i .undef) (U.getD i undef))(n:Nat):
 New x (Builtin.zeroCells J n).toList (ao n z).flatten:=by
 have H:J.size=z.length:=by rw[<-aO,T,hl]
 have F:∀y∈ao n z,y.length=z.length:=fun y Z=>by rw[(List.mem_replicate.1 Z).2]
 have L:(ao n z).flatten.length=n*z.length:=by rw[bG F,bO]
 have I:∀i,i<n*z.length->(Builtin.zeroCells J n).toList.getD i undef=U.getD (i % z.length) undef:=by
  intro i hi
  have E:0<z.length:=by
   rcases fZ z.length with h|h
   ·rw[h]at hi;omega
   ·exact h
  have O:i % J.size<J.size:=Nat.mod_lt _ (by omega);rw[aa,Builtin.zeroCells];simp only[Array.toList_map,Array.toList_range,aR];rw[cL (by rw[H];exact hi)];simp only[bo,bj];rw[getElem!_pos J _ O,<-T,aa,<-H,ab (by simpa using O)];simp
 refine⟨by rw[L];simp[dP,H],fun i hi=> ?_,fun v hv=> ?_⟩
 ·rw[L]at hi
  have E:0<z.length:=by
   rcases fZ z.length with h|h
   ·rw[h]at hi;omega
   ·exact h
  rw[I i hi,cG _ F i (by simpa using hi),fu _ _ _ _ (Nat.div_lt_of_lt_mul (by rw[cD];exact hi))];exact hz _ _ (Nat.mod_lt _ E)
 ·obtain⟨i,hi,rfl⟩:=List.mem_iff_getElem.1 hv
  have Q:i<n*z.length:=by simpa[dP,H]using hi
  have E:0<z.length:=by
   rcases fZ z.length with h|h
   ·rw[h]at Q;omega
   ·exact h
  have W:=I i Q;rw[aa,ab hi,bj]at W;rw[W];exact(hz (fun _ _=>none) _ (Nat.mod_lt _ E)).oneCell
theorem Dl(hM:aM C x s a w){cl:Call}(ho:o.op= .call cl)(hb:cl.callee= .builtin .clear)(E:bq P o=some so)(F:eff s o.dst so=some e)(hp:e.pre):b9 P C o a w (s.app o.dst e):=by
 simp only[bq,ho,hb]at E;split at E<;>try (cases E;done)
 rename_i X t hX ht;split at E<;>try (cases E;done)
 rename_i el r hd a1;split at E<;>try (cases E;done)
 rename_i z hz;cases E;have h1:=aJ hM a1;have ea:cl.args= #[X]:=by apply dI;simpa using hX
 have et:cl.argTypes= #[t]:=by apply dI;simpa using ht
 have L:=fC (a:=a) ho hb _ rfl;rw[ea,et]at L;have em: #[X].map a.eval= #[a.eval X]:=by simp
 rw[em]at L;simp only[eff]at F;cases hu:s.ev r with
 |psl d a8 off k cap=>
  rw[hu]at F h1;obtain⟨cap,a9,_,Q,a0,U⟩:=h1.psl_inv
  try simp only at F
  split at F<;>try (cases F;done)
  rename_i a7 xs hl;cases F;obtain⟨b2,rfl,rfl,a3,H⟩:=hp
  have J:Q=off*z.length:=by
   rcases U with h|h
   ·omega
   ·exact h
  subst J;obtain⟨zs,T,hzl,a2⟩:=mL hz;obtain⟨zv,a4,I⟩:=cC T;have W:=CT (x:=x) a4 hzl a2 k;have O:∀y∈ao k z,y.length=z.length:=fun y hy=>by rw[(List.mem_replicate.1 hy).2]
  obtain⟨Z,a5⟩:=hM.writeRows (P:=P) (off:=off) hl H O (by simpa using a3) W;rw[bO]at Z;simp only[St.app];refine⟨.tuple #[],_,x,.value _, ?_,.inl rfl,aM.put Z o.dst (.tup [] [] rfl fun i hi=>by simp at hi)⟩;rw[L,a0]
  have a6:(Builtin.clear_ #[t] o.type #[.slice (some ⟨(x.bk d).1,off*z.length,none⟩) k cap]).run P w= .ok (.tuple #[]) (cg w ((x.bk d).1) (off*z.length) (Builtin.zeroCells zv.cells k).toList):=by have e1:(#[t]:Array TypeId)[0]? =some t:=rfl;have e2:(#[Value.slice (some ⟨(x.bk d).1,off*z.length,none⟩) k cap]:LAb)[0]? =some (.slice (some ⟨(x.bk d).1,off*z.length,none⟩) k cap):=rfl;obtain⟨k',rfl⟩:∃k',k=k'+1:=⟨k-1,by omega⟩;simp only[Builtin.clear_,e1,e2,az,run_underlying hd,aj,I,a5,aF]
  simp[a6]
 |_=>rw[hu]at F;simp at F
theorem Dk(hM:aM C x s a w)(h:bq P o=some so)(L:∀q r,so≠ .ovl q r)(F:eff s o.dst so=some e)(E:e.pre):b9 P C o a w (s.app o.dst e):=by
 have y:(∀{p c},val s so=some (p,c)->p->b9 P C o a w (s.put o.dst c))->(∀d,eff s d so=match val s so with|some (p,v)=>some {pre:=p,val:=v}|none=>none)->b9 P C o a w (s.app o.dst e):=by
  intro O U;rw[U]at F;cases z:val s so with
  |none=>simp[z]at F
  |some W=>obtain⟨p,c⟩:=W;simp only[z,aq.injEq]at F;subst F;exact O z E
 cases ho:o.op with
 |move X=>exact y (fun z _=>tV hM (.inl ho) h z) (by simp only[bq,ho]at h;obtain⟨_,_,rfl⟩:=ah.1 h;intro d;rfl)
 |assign X=>exact y (fun z _=>tV hM (.inr ho) h z) (by simp only[bq,ho]at h;obtain⟨_,_,rfl⟩:=ah.1 h;intro d;rfl)
 |pick c X Y=>
  exfalso;simp only[bq,ho]at h;split at h<;>try (cases h;done)
  cases h;simp[eff]at F
 |alloc t=>exact Dm hM ho h F
 |box t X=>exact QB hM ho h F
 |build t Q=>exact y (fun z _=>Ck hM ho h z) (by
  simp only[bq,ho]at h;split at h<;>try (cases h;done)
  ·split at h<;>try (cases h;done)
   obtain⟨_,_,rfl⟩:=ah.1 h;intro d;rfl
  ·split at h<;>try (cases h;done)
   obtain⟨_,_,rfl⟩:=ah.1 h;intro d;rfl)
 |buildSlice t n Q=>exact y (fun z _=>nQ hM ho h z) (by
  simp only[bq,ho]at h;split at h<;>try (cases h;done)
  split at h<;>try (cases h;done)
  split at h<;>try (cases h;done)
  obtain⟨_,_,rfl⟩:=ah.1 h;intro d;split<;>rfl)
 |load t X=>exact y (fun z E=>Eh hM ho h z E) (by
  simp only[bq,ho]at h;split at h<;>try (cases h;done)
  split at h<;>try (cases h;done)
  cases h;intro d;rfl)
 |store t X Y=>exact Dj hM ho h F E
 |nilCheck X=>exact y (fun z _=>rD hM ho h z) (by simp only[bq,ho]at h;obtain⟨_,_,rfl⟩:=ah.1 h;intro d;rfl)
 |binOp op t X Y u=>
  by_cases H:∃I J q r,so= .eqS I J q r
  ·obtain⟨I,J,q,r,rfl⟩:=H
   exact y (fun z _=>Ov hM ho h z) (fun _=>rfl)
  ·exact y (fun z E=>Cl hM ho h (fun I J q r e=>H ⟨I,J,q,r,e⟩) z E) (by
    simp only[bq,ho]at h;split at h<;>try (cases h;done)
    ·split at h<;>try (cases h;done)
     all_goals (cases h;intro d;rfl)
    ·cases h;intro d;rfl
    ·cases h;intro d;rfl
    ·split at h<;>try (cases h;done)
     split at h<;>try (cases h;done)
     split at h<;>first|(cases h;done)|(cases h;intro d;rfl)
    ·split at h<;>first|(cases h;done)|(cases h;simp[eff]at F)
    ·split at h<;>first|(cases h;done)|(cases h;intro d;rfl))
 |unOp op t X=>exact y (fun z _=>Eg hM ho h z) (by simp only[bq,ho]at h;obtain⟨_,_,rfl⟩:=ah.1 h;intro d;rfl)
 |convert t u X=>exact y (fun z E=>tJ hM ho h z E) (by
  simp only[bq,ho]at h;split at h<;>try (cases h;done)
  ·cases h;intro d;rfl
  ·cases h;intro d;rfl
  ·split at h<;>try (cases h;done)
   cases h;intro d;rfl
  ·split at h<;>try (cases h;done)
   cases h;intro d;rfl
  ·split at h<;>try (cases h;done)
   cases h;intro d;rfl)
 |makeFunc f X Y=>exact y (fun z _=>rE hM ho h z) (by
  cases f<;>simp only[bq,ho,reduceCtorEq]at h;split at h<;>try (cases h;done)
  cases h;intro d;rfl)
 |makeSlice t X Y=>exact qf hM ho h F E
 |slice t X lo hi Z=>exact y (fun z E=>Ch hM ho h z E) (by
  simp only[bq,ho]at h;split at h<;>try (cases h;done)
  split at h
  ·cases h
  split at h<;>try (cases h;done)
  ·split at h<;>try (cases h;done)
   cases h;intro d;rfl
  ·split at h<;>try (cases h;done)
   cases h;intro d;rfl
  ·split at h<;>try (cases h;done)
   cases h;intro d;rfl)
 |fieldAddr t X i=>exact y (fun z _=>pM hM ho h z) (by
  simp only[bq,ho]at h;split at h<;>try (cases h;done)
  split at h<;>try (cases h;done)
  split at h<;>try (cases h;done)
  split at h
  ·cases h
  cases h;intro d;rfl)
 |field t X i=>exact y (fun z E=>Cj hM ho h z E) (by
  simp only[bq,ho]at h;split at h<;>try (cases h;done)
  split at h<;>try (cases h;done)
  split at h<;>try (cases h;done)
  split at h<;>try (cases h;done)
  cases h;intro d;rfl)
 |indexAddr t X Y=>exact y (fun z E=>pL hM ho h z E) (by
  simp only[bq,ho]at h;split at h<;>try (cases h;done)
  ·split at h<;>try (cases h;done)
   cases h;intro d;rfl
  ·split at h<;>try (cases h;done)
   cases h;intro d;rfl)
 |index t X Y=>exact y (fun z E=>Ci hM ho h z E) (by
  simp only[bq,ho]at h;split at h<;>try (cases h;done)
  ·split at h<;>try (cases h;done)
   split at h<;>try (cases h;done)
   cases h;intro d;rfl
  ·cases h;intro d;rfl)
 |extract X i=>exact y (fun z E=>tI hM ho h z E) (by simp only[bq,ho]at h;obtain⟨_,_,rfl⟩:=ah.1 h;intro d;rfl)
 |call T=>
  cases hb:T.callee with
  |invoke r m=>simp[bq,ho,hb]at h
  |value f=>
   exfalso;simp only[bq,ho,hb]at h;split at h<;>try (cases h;done)
   split at h<;>try (cases h;done)
   split at h
   ·split at h
    ·cases h;exact L _ _ rfl
    ·cases h;simp[eff]at F
   ·cases h;simp[eff]at F
  |builtin b=>
   cases b with
   |append=>exact wB hM ho hb h F E
   |copy=>exact FS hM ho hb h F E
   |clear=>exact Dl hM ho hb h F E
   |cap=>exact y (fun z _=>Ow hM ho hb h z) (by
    simp only[bq,ho,hb]at h;split at h<;>try (cases h;done)
    split at h<;>try (cases h;done)
    cases h;intro d;rfl)
   |len=>exact y (fun z _=>Ou hM ho hb h z) (by
    simp only[bq,ho,hb]at h;split at h<;>try (cases h;done)
    split at h<;>try (cases h;done)
    ·cases h;intro d;rfl
    ·cases h;intro d;rfl
    ·cases h;intro d;rfl
    ·split at h<;>try (cases h;done)
     cases h;intro d;rfl)
   |min=>exact y (fun z _=>nS hM ho (.inl hb) h z) (by
    simp only[bq,ho,hb]at h;split at h<;>try (cases h;done)
    split at h<;>try (cases h;done)
    cases h;intro d;rfl)
   |max=>exact y (fun z _=>nS hM ho (.inr hb) h z) (by
    simp only[bq,ho,hb]at h;split at h<;>try (cases h;done)
    split at h<;>try (cases h;done)
    cases h;intro d;rfl)
   |_=>simp[bq,ho,hb]at h
 |_=>simp[bq,ho]at h
end Go.Sy
namespace Go.Sy
variable [ba]
variable {P : Program} {C : Ctx} {x : Sit} {s : St} {a : Act} {w : World}
theorem kV{cs:t7}{i:Nat}(hi:i<cs.length):∀k∈(cs.getD i .undef).ids,k∈SV.idsL cs:=by
 induction cs generalizing i with
 |nil=>simp at hi
 |cons c r y=>
  intro k h;simp only[SV.idsL,ak];cases i with
  |zero=>exact .inl (by simpa using h)
  |succ i=>exact .inr (y (i:=i) (by simpa using hi) k (by simpa using h))
theorem jZ{cs:t7}{i:Nat}(hi:i<cs.length):∀k∈(cs.getD i .undef).toks,k∈SV.toksL cs:=by
 induction cs generalizing i with
 |nil=>simp at hi
 |cons c r y=>
  intro k h;simp only[SV.toksL,ak];cases i with
  |zero=>exact .inl (by simpa using h)
  |succ i=>exact .inr (y (i:=i) (by simpa using hi) k (by simpa using h))
theorem Rep.renF{x x2:Sit}{mo mt:Nat->Nat}(hG:∀b o v,x.G b o=some v->x2.G b o=some v){sv:SV}{v:Value}(h:Rep x sv v):(∀k∈sv.ids,x2.bk (mo k)=x.bk k)->(∀t∈sv.toks,x2.τ (mt t)=x.τ t)->Rep x2 (sv.ren mo mt) v:=by
 induction h with
 |undef v=>intro _ _;exact .undef v
 |dat s v h O=>
  intro E I;have H:=h.mono hG
  have sp:∀(F:Nat)(t:Tok),(∀u,t= .id u->x2.τ (mt u)=x.τ u)->de x F t v->de x2 F (t.ren mt) v:=by
   intro F t O hs;cases t with
   |no=>trivial
   |clip=>exact hs
   |id u=>obtain⟨ad,n,cap,hv,Q⟩:=hs;refine⟨ad,n,cap,hv,Q.imp id ?_⟩;rintro⟨b,off,he,hh⟩;exact⟨b,off,he,by rw[O u rfl];exact hh⟩
  cases s with
  |byt l t=>simp only[SV.ren];exact .dat _ _ (H.tok _ (.inl ⟨l,t,_,rfl,rfl⟩)) (sp 1 t (fun u hu=>I u (by subst hu;simp[SV.toks])) O)
  |lst F xs t=>simp only[SV.ren];exact .dat _ _ (H.tok _ (.inr ⟨F,xs,t,_,rfl,rfl⟩)) (sp F t (fun u hu=>I u (by subst hu;simp[SV.toks])) O)
  |undef=>exact .undef v
  |bool b=>simp only[SV.ren];exact .dat _ _ H trivial
  |int k n=>simp only[SV.ren];exact .dat _ _ H trivial
  |u8 b=>simp only[SV.ren];exact .dat _ _ H trivial
  |str l=>simp only[SV.ren];exact .dat _ _ H trivial
  |nilp=>simp only[SV.ren];exact .dat _ _ H trivial
  |nili=>simp only[SV.ren];exact .dat _ _ H trivial
  |pp cs=>simp only[SV.ren];exact .dat _ _ H trivial
  |ptr o off=>cases h
  |ap o F i j=>cases h
  |psl o F off n cap=>cases h
  |agg cs=>cases h
  |tup cs=>cases h
  |fn f a b=>cases h
 |ptr o off=>intro E _;simp only[SV.ren];rw[<-E o (by simp[SV.ids])];exact .ptr _ off
 |ap o F i j=>intro E _;simp only[SV.ren];rw[<-E o (by simp[SV.ids])];exact .ap _ F i j
 |psl o F off n cap J L h hn Q z=>intro E _;simp only[SV.ren];rw[<-E o (by simp[SV.ids])]at z ⊢;exact .psl _ F off n cap J L h hn Q z
 |agg cs vs T _ ih=>
  intro E I;simp only[SV.ren,eW]
  exact .agg _ _ (by simpa using T) fun i hi=>by
   rw[aU _ (by simp)];have y:i<cs.length:=by simpa using hi
   exact ih i y (fun k z=>E k (by simp only[SV.ids];exact kV y k z)) (fun k z=>I k (by simp only[SV.toks];exact jZ y k z))
 |tup cs vs T _ ih=>
  intro E I;simp only[SV.ren,eW]
  exact .tup _ _ (by simpa using T) fun i hi=>by
   rw[aU _ (by simp)];have y:i<cs.length:=by simpa using hi
   exact ih i y (fun k z=>E k (by simp only[SV.ids];exact kV y k z)) (fun k z=>I k (by simp only[SV.toks];exact jZ y k z))
 |fn f c1 c2 v1 v2 U _ a0 _ W Z=>
  intro E I;simp only[SV.ren,eW]
  exact .fn _ _ _ _ _ (by simpa using U) (fun i hi=>by
   rw[aU _ (by simp)];have y:i<c1.length:=by simpa using hi
   exact W i y (fun k z=>E k (by simp only[SV.ids,ak];exact .inl (kV y k z))) (fun k z=>I k (by simp only[SV.toks,ak];exact .inl (jZ y k z))))
   (by simpa using a0) fun i hi=>by
    rw[aU _ (by simp)];have y:i<c2.length:=by simpa using hi
    exact Z i y (fun k z=>E k (by simp only[SV.ids,ak];exact .inr (kV y k z))) (fun k z=>I k (by simp only[SV.toks,ak];exact .inr (jZ y k z)))
def Sit.back(x:Sit)(mo mt:Nat->Nat):Sit:=⟨x.G,fun k=>x.bk (mo k),fun t=>x.τ (mt t)⟩
theorem oc{x:Sit}{mo mt:Nat->Nat}{y:Nat}{t:Tok}{v:Value}(h:de x y (t.ren mt) v):de (x.back mo mt) y t v:=by
 cases t with
 |no=>trivial
 |clip=>exact h
 |id u=>exact h
theorem Rep.renB{x:Sit}{mo mt:Nat->Nat}(sv:SV):∀v,Rep x (sv.ren mo mt) v->Rep (x.back mo mt) sv v:=by
 refine SV.rec (motive_1:=fun sv=>∀v,Rep x (sv.ren mo mt) v->Rep (x.back mo mt) sv v) (motive_2:=fun _=>True) (motive_3:=fun l=>∀i,i<l.length->∀v,Rep x ((l.getD i .undef).ren mo mt) v->Rep (x.back mo mt) (l.getD i .undef) v)
  ?_ ?_ ?_ ?_ ?_ ?_ ?_ ?_ ?_ ?_ ?_ ?_ ?_ ?_ ?_ ?_ ?_ ?_ ?_ ?_ sv
 ·intro v _;exact .undef v
 ·intro b v h;rw[Rep.bool_inv h];exact dv b
 ·intro k n v h;rw[Rep.int_inv h];exact cJ k n
 ·intro b v h;rw[Rep.u8_inv h];exact nE b
 ·intro l v h;rw[Rep.str_inv h];exact kO l
 ·intro l t v h
  simp only[SV.ren]at h;cases h with
  |dat _ _ h Q=>exact .dat _ _ (h.tok _ (.inl ⟨l,_,t,rfl,rfl⟩)) (oc Q)
 ·intro z xs t _ v h
  simp only[SV.ren]at h;cases h with
  |dat _ _ h Q=>exact .dat _ _ (h.tok _ (.inr ⟨z,xs,_,t,rfl,rfl⟩)) (oc Q)
 ·intro v h;rw[Rep.nilp_inv h];exact .dat _ _ .nilp trivial
 ·intro v h;rw[Rep.nili_inv h];exact .dat _ _ .nili trivial
 ·intro cs _ v h
  simp only[SV.ren]at h;exact .dat _ _ (Rep.data (x:=x) h rfl) trivial
 ·intro o off v h;simp only[SV.ren]at h;rw[h.ptr_inv];exact .ptr o off
 ·intro o z i j v h;simp only[SV.ren]at h;rw[h.ap_inv];exact .ap o z i j
 ·intro o z off n cap v h
  simp only[SV.ren]at h;obtain⟨F,hn,W,E,rfl,ho,Z⟩:=h.psl_invA;exact .psl (x:=x.back mo mt) o z off n cap E F ho hn W Z
 ·intro cs L v h
  simp only[SV.ren,eW]at h;obtain⟨vs,rfl,y⟩:=h.agg_inv;refine .agg _ _ (by simpa using y.1) fun i hi=>L i hi _ ?_
  have:=y.2 i (by simpa using hi);rwa[aU _ (by simp)]at this
 ·intro cs L v h
  simp only[SV.ren,eW]at h;obtain⟨vs,rfl,y⟩:=h.tup_inv;refine .tup _ _ (by simpa using y.1) fun i hi=>L i hi _ ?_
  have:=y.2 i (by simpa using hi);rwa[aU _ (by simp)]at this
 ·intro f c1 c2 I J v h
  simp only[SV.ren,eW]at h;obtain⟨v1,v2,rfl,T,U⟩:=h.fn_inv;refine .fn _ _ _ _ _ (by simpa using T.1) (fun i hi=>I i hi _ ?_) (by simpa using U.1) (fun i hi=>J i hi _ ?_)
  ·have:=T.2 i (by simpa using hi);rwa[aU _ (by simp)]at this
  ·have:=U.2 i (by simpa using hi);rwa[aU _ (by simp)]at this
 ·trivial
 ·intros;trivial
 ·intro i hi;simp at hi
 ·intro c r H O i hi v h
  cases i with
  |zero=>exact H v (by simpa using h)
  |succ i=>simpa using O i (by simpa using hi) v (by simpa using h)
theorem dx.renB{mo mt:Nat->Nat}{o:Nat}{obj:aC}(h:dx x w (mo o) (obj.ren mo mt)):dx (x.back mo mt) w o obj:=by
 obtain⟨c,e,fl,fh,H,⟨I,z,F⟩,E⟩:=h;refine⟨c,e,fl,fh,H,⟨?_,z,by cases obj<;>exact F⟩,fun k y=> ?_⟩
 ·cases obj<;>simpa[aC.ren,aC.size,eW]using I
 ·cases obj with
  |rc cs=>have:=E k (by simpa[aC.ren,aC.size,eW]using y);simp only[aC.ren,cj,eW]at this ⊢;rw[aU _ (by simp)]at this;exact Rep.renB _ _ this
  |arr L J=>exact E k y
  |bar l=>exact E k y
theorem dx.renF{x2:Sit}{w':World}{mo mt:Nat->Nat}{o:Nat}{obj:aC}(h:dx x w' o obj)(J:∀b o v,x.G b o=some v->x2.G b o=some v)(L:x2.bk (mo o)=x.bk o)
 (Q:∀k∈obj.ids,x2.bk (mo k)=x.bk k) (O:∀t∈obj.toks,x2.τ (mt t)=x.τ t):dx x2 w' (mo o) (obj.ren mo mt):=by
 obtain⟨c,e,fl,fh,T,⟨U,E,I⟩,H⟩:=h;refine⟨c,e,fl,fh,by rw[L];exact T,⟨?_,by rw[L];exact E,by cases obj<;>exact I⟩,fun k z=> ?_⟩
 ·cases obj<;>simpa[aC.ren,aC.size,eW]using U
 ·cases obj with
  |rc cs=>
   have y:k<cs.length:=by simpa[aC.ren,aC.size,eW]using z
   have:=H k y;simp only[aC.ren,cj,eW]at this ⊢;rw[aU _ (by simp)];exact Rep.renF J this (fun j F=>Q j (kV y j F)) (fun j F=>O j (jZ y j F))
  |arr Z W=>exact(H k z).mono J
  |bar l=>exact(H k z).mono J
theorem iy{os:List aC}{p:Nat×aC}:p∈idx os↔p.1<os.length/\p.2=os.getD p.1 (.rc []):=by
 unfold idx;rw[aQ];constructor
 ·rintro⟨⟨ob,i⟩,h,rfl⟩
  have:=List.mem_zipIdx' h;exact⟨this.1,by rw[aa,ab this.1];exact this.2⟩
 ·rintro⟨y,z⟩
  refine⟨(p.2,p.1), ?_,rfl⟩;rw[List.mk_mem_zipIdx_iff_getElem?,z,aa,ab y];rfl
theorem mA(os:List aC):((idx os).map cI).Nodup:=by
 unfold idx;rw[List.map_map];have:(cI∘fun p:aC×Nat=>(p.2,p.1))=Prod.snd:=rfl;rw[this];have:os.zipIdx.map Prod.snd=List.range' 0 os.length:=by simp[List.zipIdx_map_snd]
 rw[this];exact List.nodup_range'
theorem qL{m:t8}(h:m.Nodup){i j:Nat}(hi:i<m.length)(z:j<m.length)(e:m[i]=m[j]):i=j:=by
 have E:=nR.1 h;rcases Nat.lt_trichotomy i j with y|heq|hgt
 ·exact absurd e (E i j hi z y)
 ·exact heq
 ·exact absurd e.symm (E j i z hi hgt)
def Ctx.callee(x:Sit)(w:World)(m:t8)(β0:Nat->Nat×Nat):Ctx:=⟨w,x.G,fun b=>w.heap.size<=b\/∃i,i<m.length/\(x.bk (m.getD i 0)).1=b,β0⟩
theorem tR(hM:aM C x s a w){m:t8}{os:List aC}{mo mt:Nat->Nat}(F:∀i,i<m.length->mo i=m.getD i 0)(Z:m.length=os.length)(J:m.Nodup)
 (y:∀i,i<os.length->s.look (m.getD i 0)=some ((os.getD i (.rc [])).ren mo mt)):cW (Ctx.callee x w m (x.back mo mt).bk) (x.back mo mt) (idx os) [] w:=by
 have H:∀i,i<os.length->(x.back mo mt).bk i=x.bk (m.getD i 0):=fun i hi=>by show x.bk (mo i)=_;rw[F i (by omega)]
 refine⟨hM.heap.per,fun _ _ _ h=>h,fun _ _ _ h=> .inl h,fun b h=> .inl h, ?_,mA os, ?_,fun t h=>by simp at h,fun t h=>by simp at h,fun t h=>by simp at h,rfl,rfl,rfl,aN _,fun _ _=>rfl,fun _ _=>rfl,hM.heap.lay.mono hM.heap.g0⟩
 ·intro p L
  obtain⟨z,I⟩:=iy.1 L;obtain⟨W,h4,U⟩:=hM.heap.obs _ (cO (y p.1 z));refine⟨?_,.inr ⟨p.1,by omega,by rw[H p.1 z]⟩,fun off=>by rw[H p.1 z];exact U off⟩;rw[I];refine dx.renB ?_;rw[F p.1 (by omega)];exact W
 ·intro p L q O E
  obtain⟨z,_⟩:=iy.1 L;obtain⟨I,_⟩:=iy.1 O;rw[H _ z,H _ I]at E;have:=hM.heap.inj _ (cO (y p.1 z)) _ (cO (y q.1 I)) E;simp only at this;have Q:m.getD p.1 0=m[p.1]'(by omega):=by rw[aa,ab (by omega)];rfl
  have T:m.getD q.1 0=m[q.1]'(by omega):=by rw[aa,ab (by omega)];rfl
  rw[Q,T]at this;exact qL J _ _ this
end Go.Sy
namespace Go.Sy
variable [ba]
variable {P : Program} {C : Ctx} {x : Sit} {s : St} {a : Act} {w : World}
theorem jh{m:t8}{l:List (Nat×aC)}{p:Nat×aC}:p∈eY m l↔p∈l/\p.1∉m:=by
 induction l with
 |nil=>simp[eY]
 |cons q r E=>
  simp only[eY];split<;>rename_i z
  ·rw[E,am];constructor
   ·rintro⟨y,h⟩;exact⟨.inr y,h⟩
   ·rintro⟨rfl|y,h⟩
    ·exact absurd z h
    ·exact⟨y,h⟩
  ·rw[am,E,am];constructor
   ·rintro(rfl|⟨y,h⟩)
    ·exact⟨.inl rfl,z⟩
    ·exact⟨.inr y,h⟩
   ·rintro⟨rfl|y,h⟩
    ·exact .inl rfl
    ·exact .inr ⟨y,h⟩
theorem gP(m:t8)(l:List (Nat×aC)):(eY m l).Sublist l:=by
 induction l with
 |nil=>exact jK.refl _
 |cons q r h=>
  simp only[eY];split
  ·exact h.cons q
  ·exact h.cons_cons q
theorem wt(hM:aM C x s a w){m:t8}{os:List aC}{mo mt:Nat->Nat}{lo hi:Nat}(hl:m.length=os.length)(d5:∀i,i<os.length->s.look (m.getD i 0)=some ((os.getD i (.rc [])).ren mo mt))
 {x':Sit} {w':World} {a0:List (Nat×aC)} {tks:t8} {β0:Nat->Nat×Nat} (U:cW (Ctx.callee x w m β0) x' a0 tks w')
 (e1:∀i,i<m.length->mo i=m.getD i 0) {β2:Nat->Nat×Nat} {τ2:Nat->Nat×Nat×Nat} (b3:∀i,i<100->¬(lo<=i/\i<hi)) (a2:∀o,¬(lo<=o/\o<hi)->β2 o=x.bk o) (a3:∀o,¬(lo<=o/\o<hi)->τ2 o=x.τ o)
 (L:∀p∈a0,β2 (mo p.1)=x'.bk p.1) (b8:∀p∈a0,∀k∈p.2.ids,β2 (mo k)=x'.bk k) (b5:∀p∈a0,∀t∈p.2.toks,τ2 (mt t)=x'.τ t)
 (b2:∀p∈a0,p.1<m.length\/(lo<=mo p.1/\mo p.1<hi)) (a5:∀t∈tks,(lo<=mt t/\mt t<hi)/\τ2 (mt t)=x'.τ t):
 (∀b o v,x.G b o=some v->x'.G b o=some v)/\cW C ⟨x'.G,β2,τ2⟩ (a0.map (fun p=>(mo p.1,p.2.ren mo mt))++eY m (bm lo hi s.ob)) (tks.map mt++bN lo hi s.tk) w':=by
 have hG:∀b o v,x.G b o=some v->x'.G b o=some v:=U.g0;have y:=hM.heap;have Q:∀i,i<m.length->(∃ob,(m.getD i 0,ob)∈s.ob):=fun i hi=>⟨_,cO (d5 i (by omega))⟩
 have a1:∀b,(Ctx.callee x w m β0).mine b->C.mine b:=by
  rintro b (h|⟨i,hi,rfl⟩)
  ·exact y.new b (pK y.size h)
  ·obtain⟨ob,b4⟩:=Q i hi
   exact(y.obs _ b4).2.1
 have e3:∀o∈m,∃i,i<m.length/\m.getD i 0=o:=by intro o ho;obtain⟨i,hi,rfl⟩:=bM ho;exact⟨i,hi,by rw[aa,ab hi];rfl⟩
 have a8:∀b,b<w.heap.size->(∀i,i<m.length->(x.bk (m.getD i 0)).1≠b)->w'.heap[b]? =w.heap[b]? /\((∀off,x.G b off=none)->∀off,x'.G b off=none):=by
  intro b hb b7
  have a9:¬(Ctx.callee x w m β0).mine b:=by
   rintro(h|⟨i,hi,h⟩)
   ·omega
   ·exact b7 i hi h
  refine⟨U.ext b a9,fun h off=> ?_⟩;cases hg:x'.G b off with
  |none=>rfl
  |some v=>
   rcases U.gm b off v hg with z|z
   ·change x.G b off=some v at z;rw[h off]at z;cases z
   ·exact absurd z a9
 have a4:∀p∈eY m (bm lo hi s.ob),∃ob,(p.1,ob)∈s.ob/\p.2=ob.purge lo hi/\¬(lo<=p.1/\p.1<hi)/\p.1∉m/\(∀i,i<m.length->(x.bk (m.getD i 0)).1≠(x.bk p.1).1)/\(x.bk p.1).1<w.heap.size:=by
  intro p H;obtain⟨z,W⟩:=jh.1 H;obtain⟨h3,ob,h4,h5⟩:=co z;refine⟨ob,h4,h5,h3,W,fun i hi e=> ?_, ?_⟩
  ·obtain⟨c7,d3⟩:=Q i hi
   have:=y.inj _ d3 _ h4 e;simp only at this;apply W;rw[<-this,aa,ab hi];exact bn _
  ·obtain⟨⟨c,e,fl,fh,hO,_⟩,_⟩:=y.obs _ h4
   exact hO.lt
 have T:∀p∈a0.map (fun p=>(mo p.1,p.2.ren mo mt)),∃q∈a0,p=(mo q.1,q.2.ren mo mt)/\β2 p.1=x'.bk q.1:=by intro p H;obtain⟨q,F,rfl⟩:=aQ.1 H;exact⟨q,F,rfl,L q F⟩
 have J:∀q∈a0,w.heap.size<=(x'.bk q.1).1\/∃i,i<m.length/\(x.bk (m.getD i 0)).1=(x'.bk q.1).1:=fun q F=>(U.obs q F).2.1
 have E:∀t∈bN lo hi s.tk,t∈s.tk/\¬(lo<=t/\t<hi):=fun t O=>bC.1 O
 have I:∀t∈s.tk,(x.τ t).2.1=(x.τ t).2.2\/((x.τ t).1<w.heap.size/\∀i,i<m.length->(x.bk (m.getD i 0)).1≠(x.τ t).1):=by
  intro t O;rcases y.tks t O with h|⟨⟨c,e,fl,fh,hO,_⟩,_⟩
  ·exact .inl h
  ·by_cases he:(x.τ t).2.1=(x.τ t).2.2
   ·exact .inl he
   ·refine .inr ⟨hO.lt,fun i hi e'=> ?_⟩
    obtain⟨ob,b4⟩:=Q i hi;rcases y.tko t O _ b4 with h|h
    ·exact h e'.symm
    ·exact he h
 refine⟨hG,⟨U.per,fun b o v h=>hG _ _ _ (y.g0 b o v h), ?_,y.new, ?_, ?_, ?_, ?_, ?_, ?_,U.os.trans y.os,U.tape.trans y.tape,U.output.trans y.output,pK y.size U.size, ?_,fun i hi=>(a2 i (b3 i hi)).trans (y.pin i hi),y.lay⟩⟩
 ·intro b o v h
  rcases U.gm b o v h with z|z
  ·exact y.gm b o v z
  ·exact .inr (a1 b z)
 ·intro p H
  rcases ak.1 H with H|H
  ·obtain⟨q,F,rfl,hb⟩:=T p H
   obtain⟨z,W,h3⟩:=U.obs q F;refine⟨z.renF (x2:=⟨x'.G,β2,τ2⟩) (fun _ _ _ h=>h) (L q F) (b8 q F) (b5 q F), ?_,fun off=> ?_⟩
   ·show C.mine (β2 (mo q.1)).1;rw[L q F];exact a1 _ W
   ·show x'.G (β2 (mo q.1)).1 off=none;rw[L q F];exact h3 off
  ·obtain⟨ob,z,W,h3,h4,h5,h6⟩:=a4 p H
   obtain⟨g1,g2,g3⟩:=y.obs _ z;obtain⟨k1,k2⟩:=a8 _ h6 h5;have hb:β2 p.1=x.bk p.1:=a2 _ h3;refine⟨?_,by show C.mine (β2 p.1).1;rw[hb];exact g2,fun off=>by show x'.G (β2 p.1).1 off=none;rw[hb];exact k2 g3 off⟩;rw[W];exact dx.of_heap (x':=⟨x'.G,β2,τ2⟩) g1 k1 hG a2 a3 h3
 ·rw[df,List.nodup_append]
  refine⟨?_, ?_, ?_⟩
  ·rw[List.map_map]
   have c6:=gn.1 U.nd;refine gn.2 (gg.imp_of_mem (fun{p q} H F b7=> ?_) c6);intro e;simp only[Function.comp]at e;have:(x'.bk p.1).1=(x'.bk q.1).1:=by rw[<-L p H,<-L q F,e]
   exact b7 (U.inj p H q F this)
  ·have z:(eY m (bm lo hi s.ob)).Sublist (bm lo hi s.ob):=gP _ _
   refine vm.sublist (z.map cI) ?_;rw[eD];exact y.nd.filter _
  ·intro o1 z o2 W e
   subst e;obtain⟨p,H,rfl⟩:=aQ.1 z;obtain⟨q,F,c4⟩:=aQ.1 W;obtain⟨r,hr,rfl⟩:=aQ.1 H;obtain⟨ob,k1,k2,k3,k4,k5,k6⟩:=a4 q F;simp only at c4;rcases b2 r hr with h|h
   ·apply k4;rw[c4,e1 _ h,aa,ab h];exact bn _
   ·apply k3;rw[c4];exact h
 ·intro p H q F Z
  change (β2 p.1).1=(β2 q.1).1 at Z;rcases ak.1 H with H|H<;>rcases ak.1 F with F|F
  ·obtain⟨p',c3,rfl,hb⟩:=T p H
   obtain⟨q',b6,rfl,e0⟩:=T q F;rw[hb,e0]at Z;have:=U.inj p' c3 q' b6 Z;simp only;rw[this]
  ·obtain⟨p',c3,rfl,hb⟩:=T p H
   obtain⟨ob,k1,k2,k3,k4,k5,k6⟩:=a4 q F;rw[hb,a2 _ k3]at Z;rcases J p' c3 with h|⟨i,hi,h⟩
   ·omega
   ·exact absurd (h.trans Z) (k5 i hi)
  ·obtain⟨q',b6,rfl,hb⟩:=T q F
   obtain⟨ob,k1,k2,k3,k4,k5,k6⟩:=a4 p H;rw[hb,a2 _ k3]at Z;rcases J q' b6 with h|⟨i,hi,h⟩
   ·omega
   ·exact absurd (h.trans Z.symm) (k5 i hi)
  ·obtain⟨ob,k1,k2,k3,k4,k5,k6⟩:=a4 p H
   obtain⟨c7,d7,e6,e2,e4,k5',e5⟩:=a4 q F;rw[a2 _ k3,a2 _ e2]at Z;exact y.inj (p.1,ob) k1 (q.1,c7) d7 Z
 ·intro t O
  rcases ak.1 O with O|O
  ·obtain⟨u,hu,rfl⟩:=aQ.1 O
   obtain⟨_,d9⟩:=a5 u hu;have:=U.tks u hu;unfold gH at this ⊢;simp only[d9];exact this.imp id fun⟨z,W,h3⟩=>⟨z,a1 _ W,h3⟩
  ·obtain⟨
    z,W⟩:=E t O
   have:=y.tks t z;unfold gH at this ⊢;simp only[a3 t W];rcases this with h|⟨⟨c,e,fl,fh,hO,hc⟩,h4,h5⟩
   ·exact .inl h
   ·rcases I t z with h|⟨k1,k2⟩
    ·exact .inl h
    ·obtain⟨g1,_⟩:=a8 _ k1 k2
     refine .inr ⟨⟨c,e,fl,fh,hO.of_heap g1,hc⟩,h4,fun o d8 d6=> ?_⟩;cases hg:x'.G (x.τ t).1 o with
     |none=>rfl
     |some v=>
      rcases U.gm _ _ _ hg with q1|q1
      ·change x.G _ _=some v at q1;rw[h5 o d8 d6]at q1;cases q1
      ·rcases q1 with q1|⟨i,hi,q1⟩
       ·change w.heap.size<=_ at q1;omega
       ·exact absurd q1 (k2 i hi)
 ·intro t O p H
  rcases ak.1 O with O|O<;>rcases ak.1 H with H|H
  ·obtain⟨u,hu,rfl⟩:=aQ.1 O
   obtain⟨q,F,rfl,hb⟩:=T p H;show(τ2 (mt u)).1≠(β2 (mo q.1)).1\/(τ2 (mt u)).2.1=(τ2 (mt u)).2.2;rw[(a5 u hu).2,L q F];exact U.tko u hu q F
  ·obtain⟨u,hu,rfl⟩:=aQ.1 O
   obtain⟨ob,k1,k2,k3,k4,k5,k6⟩:=a4 p H;show(τ2 (mt u)).1≠(β2 p.1).1\/(τ2 (mt u)).2.1=(τ2 (mt u)).2.2;rw[(a5 u hu).2,a2 _ k3];rcases U.tks u hu with h|⟨_,h,_⟩
   ·exact .inr h
   ·left;intro e
    rcases h with h|⟨i,hi,h⟩
    ·change w.heap.size<=_ at h;omega
    ·exact k5 i hi (h.trans e)
  ·obtain⟨z,W⟩:=E t O
   obtain⟨q,F,rfl,hb⟩:=T p H;show(τ2 t).1≠(β2 (mo q.1)).1\/(τ2 t).2.1=(τ2 t).2.2;rw[a3 t W,L q F];rcases I t z with h|⟨k1,k2⟩
   ·exact .inr h
   ·left;intro e
    rcases J q F with h|⟨i,hi,h⟩
    ·omega
    ·exact k2 i hi (h.trans e.symm)
  ·obtain⟨z,W⟩:=E t O
   obtain⟨ob,k1,k2,k3,k4,k5,k6⟩:=a4 p H;show(τ2 t).1≠(β2 p.1).1\/(τ2 t).2.1=(τ2 t).2.2;rw[a3 t W,a2 _ k3];exact y.tko t z (p.1,ob) k1
 ·intro t O u hu d4
  show kZ (τ2 t) (τ2 u)\/(τ2 t).2.1=(τ2 t).2.2\/(τ2 u).2.1=(τ2 u).2.2;rcases ak.1 O with O|O<;>rcases ak.1 hu with hu|hu
  ·obtain⟨t',a6,rfl⟩:=aQ.1 O
   obtain⟨u',a7,rfl⟩:=aQ.1 hu;rw[(a5 t' a6).2,(a5 u' a7).2];exact U.tkd t' a6 u' a7 (fun e=>d4 (by rw[e]))
  ·obtain⟨t',a6,rfl⟩:=aQ.1 O
   obtain⟨z,W⟩:=E u hu;rw[(a5 t' a6).2,a3 u W];rcases U.tks t' a6 with h|⟨_,h,_⟩
   ·exact .inr (.inl h)
   ·rcases I u z with k|⟨k1,k2⟩
    ·exact .inr (.inr k)
    ·refine .inl (fun e=> ?_)
     rcases h with h|⟨i,hi,h⟩
     ·change w.heap.size<=_ at h;omega
     ·exact k2 i hi (h.trans e)
  ·obtain⟨u',a7,rfl⟩:=aQ.1 hu
   obtain⟨z,W⟩:=E t O;rw[(a5 u' a7).2,a3 t W];rcases U.tks u' a7 with h|⟨_,h,_⟩
   ·exact .inr (.inr h)
   ·rcases I t z with k|⟨k1,k2⟩
    ·exact .inr (.inl k)
    ·refine .inl (fun e=> ?_)
     rcases h with h|⟨i,hi,h⟩
     ·change w.heap.size<=_ at h;omega
     ·exact k2 i hi (h.trans e.symm)
  ·obtain⟨z,W⟩:=E t O
   obtain⟨h3,h4⟩:=E u hu;rw[a3 t W,a3 u h4];exact y.tkd t z u h3 d4
 ·intro b hb
  have a9:¬(Ctx.callee x w m β0).mine b:=fun h=>hb (a1 b h)
  exact(U.ext b a9).trans (y.ext b hb)
theorem cW.only{ob y:List (Nat×aC)}{tk tk':t8}(h:cW C x ob tk w)(F:∀p∈y,p∈ob)(hn:(y.map cI).Nodup)(E:∀t∈tk',t∈tk):cW C x y tk' w:=
 ⟨h.per,h.g0,h.gm,h.new,fun p z=>h.obs p (F p z),hn,fun p z q H=>h.inj p (F p z) q (F q H),fun t hu=>h.tks t (E t hu),fun t hu p z=>h.tko t (E t hu) p (F p z),
  fun t hu u I=>h.tkd t (E t hu) u (E u I),h.os,h.tape,h.output,h.size,h.ext,h.pin,h.lay⟩
theorem uq(d:Nat)(m:t8)(os:List (Nat×aC)):oj d m os=os.map fun p=>(iw d m p.1,p.2.ren (iw d m) (j7 d)):=by
 induction os with
 |nil=>rfl
 |cons p r h=>simp[oj,h]
end Go.Sy
namespace Go.Sy
variable [ba]
variable {P : Program} {C : Ctx} {x : Sit} {s : St} {a : Act} {w : World} {o : Oper} {so : SOp}
def D3(C:Ctx)(k:St->Prop):LAf:=fun a w=>∃x s,aM C x s a w/\k s
theorem cQ{K:LAf}{Q:LAe}{k:St->Prop}{s':St}(h:b9 P C o a w s')(z:k s')(hK:∀a w,D3 C k a w->K a w):o.wp P a w K Q:=by
 obtain⟨u,w',x',n,y,hn,hM⟩:=h;unfold Oper.wp;rw[y];rcases hn with rfl|⟨rfl,rfl⟩
 ·exact hK _ _ ⟨x',s',hM,z⟩
 ·exact hK _ _ ⟨x',s',hM,z⟩
theorem rI{f:Nat}(h:eu P f=true)(args:LAb)(w:World):(callFunc f args).run P w= .ok (.enter f args) w:=by
 unfold eu at h;split at h
 ·rename_i fn F
  simp only[aB,du]at h;obtain⟨y,E⟩:=h;have z:fn.body.isNone=false:=by cases hb:fn.body<;>simp[hb]at y ⊢
  simp only[callFunc,az,run_program,aj,F,E,aI,if_false,z,aF]
 ·cases h
theorem Dh(hM:aM C x s a w){h:Call}{F:Operand}(ho:o.op= .call h)(W:h.callee= .value F){f:Arg}{a_:List Arg}(T:bp P 0 F=some f)
 (has:ji (fun p=>bp P p.2 p.1) (h.args.toList.zip h.argTypes.toList)=some a_) (L:h.args.size=h.argTypes.size) {g:Nat} {c1 c2:t7} (Z:s.ev f= .fn g c1 c2) (Q:eu P g=true):
 ∃vs:LAa,(execOp a.eval o).run P w= .ok (.enter g ⟨vs⟩) w/\cy x (c1++a_.map s.ev++c2) vs:=by
 have hF:=aJ hM T;rw[Z]at hF;obtain⟨v1,O,J,U,h2⟩:=hF.fn_inv;obtain⟨hl,z⟩:=eH has;have hzl:(h.args.toList.zip h.argTypes.toList).length=h.args.toList.length:=by simp[L]
 have y:cy x (a_.map s.ev) (h.args.toList.map a.eval):=by
  refine⟨by simp only[aS];rw[hl,hzl],fun i hi=> ?_⟩;have E:i<a_.length:=by simpa using hi
  have H:i<(h.args.toList.zip h.argTypes.toList).length:=by omega
  have:=aJ hM (z i H E);have e1:(a_.map s.ev).getD i .undef=s.ev a_[i]:=by rw[aa,aR,ab E];rfl
  have e2:(h.args.toList.map a.eval).getD i undef=a.eval (h.args.toList.zip h.argTypes.toList)[i].1:=by
   have I:i<h.args.toList.length:=by omega
   rw[aa,aR,ab I,List.getElem_zip];rfl
  rw[e1,e2];exact this
 refine⟨v1++h.args.toList.map a.eval++O, ?_,(U.append y).append h2⟩
 have:(execOp a.eval o).run P w=(callFunc g ((⟨v1⟩:LAb)++h.args.map a.eval++⟨O⟩)).run P w:=by simp only[execOp,ho,resolve,W,J,Deferred.ofValue,az,aF,aj,invoke]
 rw[this,rI Q]
 congr 2
 apply dI;simp
end Go.Sy
namespace Go.Sy
variable [ba]
variable {P : Program} {C : Ctx} {x : Sit} {s : St} {a : Act} {w : World} {o : Oper} {so : SOp} {p : Prop} {c : SV}
theorem FV(hM:aM C x s a w){q r:Arg}(z:bq P o=some (.ovl q r)){e:Eff}(h:eff s o.dst (.ovl q r)=some e)(y:e.pre):b9 P C o a w (s.app o.dst e):=by simp only[eff,val]at h;cases h
end Go.Sy
namespace Go.Sy
variable [ba]
variable {P : Program} {C : Ctx} {x : Sit} {s : St} {a : Act} {w : World} {o : Oper} {so : SOp} {p : Prop} {c : SV}
theorem New.append{a_ bs:LAa}{A B:t7}(h:New x a_ A)(k:New x bs B):New x (a_++bs) (A++B):=by
 refine⟨by simp[h.len,k.len],fun i hi=> ?_,fun v z=>(ak.1 z).elim (h.one v) (k.one v)⟩;simp only[aa]
 by_cases y:i<A.length
 ·rw[bc y,bc (by rw[<-h.len];exact y)]
  have:=h.rep i y;simpa only[aa]using this
 ·rw[bw (by omega),bw (by rw[<-h.len];omega),h.len]
  have:=k.rep (i-A.length) (by simp only[af]at hi;omega);rw[h.len]at this;simpa only[aa]using this
theorem Ds{E:Nat}{rs:f8}(z:∀y∈rs,y.length=E){cs:LAa}(h:New x cs rs.flatten)(k:Nat)(F:k<rs.length*E):cj x (.arr E rs) k ((⟨cs⟩:LAb).getD k undef):=by
 simp only[cj,aC.cell];rw[<-cG rs z k F];have:=h.rep k (by rw[bG z];exact F);have e:(⟨cs⟩:LAb).getD k undef=cs.getD k undef:=by simp[bg,aa]
 rw[e];exact this
structure Src(P:Program)(n m:Nat)(w:World)(Y:Value)(ns:List Value):Prop where
 len:∀w':World,w'.heap=w.heap->(Builtin.lenOf Y).run P w'= .ok m w'
 cells:∀w':World,w'.heap=w.heap->(Builtin.firstCells n m Y).run P w'= .ok ns.toArray w'
theorem ph(hM:aM C x s a w){n:Nat}{u:SV}{Y:Value}{p:Prop}{R:f8}(h:Rep x u Y)(J:jB s n u=some (p,R))(L:p):∃ns,(∀y∈R,y.length=n)/\New x ns R.flatten/\Src P n R.length w Y ns:=by
 obtain⟨z,O,ns,E,I⟩:=gM (P:=P) hM h J L;refine⟨ns,z,E,O,fun w' H=> ?_⟩;have:=I R.length (aN _) w' H;have F:ns.length=R.length*n:=by rw[<-E.len,bG z]
 rwa[<-F,bB]at this
theorem CS{so:SOp}(y:bq P o=some so)(H:(∃z b q r,so= .app z b q r)\/∃z b q r,so= .appM z b q r):∃E,o.op= .call E/\E.callee= .builtin .append:=by
 cases ho:o.op with
 |call E=>
  cases hb:E.callee with
  |invoke r m=>simp[bq,ho,hb]at y
  |value F=>
   exfalso;simp only[bq,ho,hb]at y
   (repeat' split at y)<;>first|(cases y;done)|(cases y;rcases H with⟨_,_,_,_,h⟩|⟨_,_,_,_,h⟩<;>cases h)
  |builtin b=>
   cases b<;>first|exact⟨E,rfl,hb⟩|(exfalso;simp only[bq,ho,hb,reduceCtorEq]at y<;>((repeat' split at y)<;>first|(cases y;done)|(cases y;rcases H with⟨_,_,_,_,h⟩|⟨_,_,_,_,h⟩<;>cases h)))
 |_=>
  exfalso
  have:¬((∃z b q r,so= .app z b q r)\/∃z b q r,so= .appM z b q r):=by
   simp only[bq,ho]at y
   first
    |(cases y;done)
    |(obtain⟨_,_,rfl⟩:=ah.1 y;rintro(⟨_,_,_,_,h⟩|⟨_,_,_,_,h⟩)<;>cases h;done)
    |(repeat' split at y)<;>first|(cases y;done)|contradiction|(cases y;rintro(⟨_,_,_,_,h⟩|⟨_,_,_,_,h⟩)<;>cases h;done)|(obtain⟨_,_,rfl⟩:=ah.1 y;rintro(⟨_,_,_,_,h⟩|⟨_,_,_,_,h⟩)<;>first|(cases h;done)|(split at h<;>cases h;done))
  exact this H
structure xlX(P:Program)(o:Oper)(z:List SV)(by_:Nat)(q r:Arg)(a:Act)(X Y:Operand)(t u el:TypeId)(d2:TypeDesc)(zs:List Value):Prop where
 ex:execOp a.eval o=(do pure (.value (<-Builtin.append_ #[t,u] o.type #[a.eval X,a.eval Y])))
 hd:P.underlying t=some (.slice el)
 hu:P.underlying u=some d2
 hX:bp P t X=some q
 hY:bp P u Y=some r
 hn:fi P el=some z.length
 hby:sB P el=some by_
 hz:fN P el=some zs
 hzl:z.length=zs.length
 hzd:∀(G:GM) i,i<z.length->cE G (z.getD i .undef) (zs.getD i undef)
 hb0:by_≠0
 hn0:z.length≠0
theorem Rg{so:SOp}(y:bq P o=some so){z:t7}{E:Nat}{q r:Arg}(L:so= .app z E q r\/so= .appM z E q r)(a:Act):∃X Y t u Q d2 O,xlX P o z E q r a X Y t u Q d2 O/\
 (so= .app z E q r->(∃e',d2= .slice e')\/d2= .string)/\(so= .appM z E q r->∃k,d2= .int k):=by
 obtain⟨cl,ho,hb⟩:=CS y (L.imp (fun h=>⟨_,_,_,_,h⟩) (fun h=>⟨_,_,_,_,h⟩));simp only[bq,ho,hb]at y;split at y<;>try (cases y;done)
 rename_i X Y t u hX ht;split at y<;>try (cases y;done)
 rename_i Q d2 r' q' hd hu U W;split at y<;>try (cases y;done)
 rename_i n b' z' hn hby hz;rw[aH]at y;obtain⟨F,y⟩:=y;simp only[aB,decide_eq_true_eq]at F;obtain⟨⟨hb0,hn0⟩,J⟩:=F;obtain⟨O,Z,I,hzd⟩:=i6 hz;have ea:cl.args= #[X,Y]:=by apply dI;simpa using hX
 have et:cl.argTypes= #[t,u]:=by apply dI;simpa using ht
 have H:=fC (a:=a) ho hb _ rfl;rw[ea,et]at H;have em: #[X,Y].map a.eval= #[a.eval X,a.eval Y]:=by simp
 rw[em]at H
 have T:z'=z/\b'=E/\r'=q/\q'=r/\(so= .app z E q r->(∃e',d2= .slice e')\/d2= .string)/\(so= .appM z E q r->∃k,d2= .int k):=by
  split at y<;>try (cases y;done)
  ·cases y;rcases L with h|h<;>cases h;exact⟨rfl,rfl,rfl,rfl,fun _=> .inl ⟨_,rfl⟩,fun h=>by cases h⟩
  ·rw[aH]at y
   obtain⟨_,y⟩:=y;cases y;rcases L with h|h<;>cases h;exact⟨rfl,rfl,rfl,rfl,fun _=> .inr rfl,fun h=>by cases h⟩
  ·cases y;rcases L with h|h<;>cases h;exact⟨rfl,rfl,rfl,rfl,fun h=>(by cases h),fun _=>⟨_,rfl⟩⟩
 obtain⟨rfl,rfl,rfl,rfl,k1,k2⟩:=T;subst J;exact⟨X,Y,t,u,Q,d2,O,⟨H,hd,hu,U,W,hn,hby,Z,I,hzd,hb0,hn0⟩,k1,k2⟩
theorem ry{t:TypeId}{b:Nat}(h:sB P t=some b):∃i,P.info? t=some i/\i.bytes=b:=by
 unfold sB at h;cases hi:P.info? t with
 |none=>simp[hi]at h
 |some i=>simp[hi]at h;exact⟨i,rfl,h⟩
end Go.Sy
namespace Go.Sy
variable [ba]
variable {P : Program} {C : Ctx} {x : Sit} {s : St} {a : Act} {w : World} {o : Oper} {so : SOp}
def xhd(C:Ctx)(P:Program)(g:Nat)(vs:LAa)(w:World)(d:t9)(a:Act)(k:St->Prop):Prop:=
 Calls P g ⟨vs⟩ w fun en w'=>∃v,en= .returned v/\D3 C k (a.put d v) w'
theorem tF{K:LAf}{Q:LAe}{k:St->Prop}{g:Nat}{vs:LAa}(y:(execOp a.eval o).run P w= .ok (.enter g ⟨vs⟩) w)(h:xhd C P g vs w o.dst a k)
 (hK:∀a w,D3 C k a w->K a w):o.wp P a w K Q:=by
 unfold Oper.wp;rw[y];refine Calls.mono h ?_;rintro en w' ⟨v,rfl,z⟩;exact hK _ _ z
theorem F5{f:Arg}{a_:List Arg}(y:bq P o=some (.call f a_)):∃z F,o.op= .call z/\z.callee= .value F/\bp P 0 F=some f/\ji (fun p=>bp P p.2 p.1) (z.args.toList.zip z.argTypes.toList)=some a_/\z.args.size=z.argTypes.size:=by
 cases ho:o.op with
 |call z=>
  cases hb:z.callee with
  |invoke r m=>simp[bq,ho,hb]at y
  |value F=>
   simp only[bq,ho,hb]at y;split at y<;>try (cases y;done)
   rename_i O L E I;split at y<;>try (cases y;done)
   rename_i H;split at y
   ·split at y
    ·cases y
    ·cases y;exact⟨z,F,rfl,hb,E,I,H⟩
   ·cases y;exact⟨z,F,rfl,hb,E,I,H⟩
  |builtin b=>
   exfalso;cases b<;>simp only[bq,ho,hb,reduceCtorEq]at y
   all_goals
    (first|(cases y;done)|(split at y<;>(first|(cases y;done)|(split at y<;>(first|(cases y;done)|(split at y<;>(first|(cases y;done)|(split at y<;>(first|(cases y;done)|(split at y<;>(first|(cases y;done)|(split at y<;>((cases y;done))))))))))))))
 |pick c X Y=>exfalso;simp only[bq,ho]at y;split at y<;>cases y
 |move X=>exfalso;simp only[bq,ho]at y;obtain⟨_,_,h⟩:=ah.1 y;cases h
 |assign X=>exfalso;simp only[bq,ho]at y;obtain⟨_,_,h⟩:=ah.1 y;cases h
 |box t X=>exfalso;simp only[bq,ho]at y;obtain⟨_,_,h⟩:=ah.1 y;cases h
 |nilCheck X=>exfalso;simp only[bq,ho]at y;obtain⟨_,_,h⟩:=ah.1 y;cases h
 |unOp op t X=>exfalso;simp only[bq,ho]at y;obtain⟨_,_,h⟩:=ah.1 y;cases h
 |extract X i=>exfalso;simp only[bq,ho]at y;obtain⟨_,_,h⟩:=ah.1 y;cases h
 |build t J=>
  exfalso;simp only[bq,ho]at y;split at y<;>try (cases y;done)
  ·split at y<;>try (cases y;done)
   obtain⟨_,_,h⟩:=ah.1 y;cases h
  ·split at y<;>try (cases y;done)
   obtain⟨_,_,h⟩:=ah.1 y;cases h
 |buildSlice t n J=>
  exfalso;simp only[bq,ho]at y;split at y<;>try (cases y;done)
  split at y<;>try (cases y;done)
  split at y<;>try (cases y;done)
  obtain⟨_,_,h⟩:=ah.1 y;split at h<;>cases h
 |makeFunc f X Y=>exfalso;cases f<;>simp only[bq,ho,reduceCtorEq]at y;split at y<;>cases y
 |alloc t=>exfalso;simp only[bq,ho]at y;first|(cases y;done)|(split at y<;>(first|(cases y;done)|(split at y<;>(first|(cases y;done)|(split at y<;>(first|(cases y;done)|(split at y<;>(first|(cases y;done)|(split at y<;>(first|(cases y;done)|(split at y<;>((cases y;done)))))))))))))
 |load t X=>exfalso;simp only[bq,ho]at y;first|(cases y;done)|(split at y<;>(first|(cases y;done)|(split at y<;>(first|(cases y;done)|(split at y<;>(first|(cases y;done)|(split at y<;>(first|(cases y;done)|(split at y<;>(first|(cases y;done)|(split at y<;>((cases y;done)))))))))))))
 |store t X Y=>exfalso;simp only[bq,ho]at y;first|(cases y;done)|(split at y<;>(first|(cases y;done)|(split at y<;>(first|(cases y;done)|(split at y<;>(first|(cases y;done)|(split at y<;>(first|(cases y;done)|(split at y<;>(first|(cases y;done)|(split at y<;>((cases y;done)))))))))))))
 |binOp op t X Y u=>exfalso;simp only[bq,ho]at y;first|(cases y;done)|(split at y<;>(first|(cases y;done)|(split at y<;>(first|(cases y;done)|(split at y<;>(first|(cases y;done)|(split at y<;>(first|(cases y;done)|(split at y<;>(first|(cases y;done)|(split at y<;>((cases y;done)))))))))))))
 |convert t u X=>exfalso;simp only[bq,ho]at y;first|(cases y;done)|(split at y<;>(first|(cases y;done)|(split at y<;>(first|(cases y;done)|(split at y<;>(first|(cases y;done)|(split at y<;>(first|(cases y;done)|(split at y<;>(first|(cases y;done)|(split at y<;>((cases y;done)))))))))))))
 |makeSlice t X Y=>exfalso;simp only[bq,ho]at y;first|(cases y;done)|(split at y<;>(first|(cases y;done)|(split at y<;>(first|(cases y;done)|(split at y<;>(first|(cases y;done)|(split at y<;>(first|(cases y;done)|(split at y<;>(first|(cases y;done)|(split at y<;>((cases y;done)))))))))))))
 |slice t X lo hi Q=>exfalso;simp only[bq,ho]at y;first|(cases y;done)|(split at y<;>(first|(cases y;done)|(split at y<;>(first|(cases y;done)|(split at y<;>(first|(cases y;done)|(split at y<;>(first|(cases y;done)|(split at y<;>(first|(cases y;done)|(split at y<;>((cases y;done)))))))))))))
 |fieldAddr t X i=>exfalso;simp only[bq,ho]at y;first|(cases y;done)|(split at y<;>(first|(cases y;done)|(split at y<;>(first|(cases y;done)|(split at y<;>(first|(cases y;done)|(split at y<;>(first|(cases y;done)|(split at y<;>(first|(cases y;done)|(split at y<;>((cases y;done)))))))))))))
 |field t X i=>exfalso;simp only[bq,ho]at y;first|(cases y;done)|(split at y<;>(first|(cases y;done)|(split at y<;>(first|(cases y;done)|(split at y<;>(first|(cases y;done)|(split at y<;>(first|(cases y;done)|(split at y<;>(first|(cases y;done)|(split at y<;>((cases y;done)))))))))))))
 |indexAddr t X i=>exfalso;simp only[bq,ho]at y;first|(cases y;done)|(split at y<;>(first|(cases y;done)|(split at y<;>(first|(cases y;done)|(split at y<;>(first|(cases y;done)|(split at y<;>(first|(cases y;done)|(split at y<;>(first|(cases y;done)|(split at y<;>((cases y;done)))))))))))))
 |index t X i=>exfalso;simp only[bq,ho]at y;first|(cases y;done)|(split at y<;>(first|(cases y;done)|(split at y<;>(first|(cases y;done)|(split at y<;>(first|(cases y;done)|(split at y<;>(first|(cases y;done)|(split at y<;>(first|(cases y;done)|(split at y<;>((cases y;done)))))))))))))
 |_=>simp[bq,ho]at y
theorem E3{c q r:Arg}(y:bq P o=some (.pick c q r)):∃X Y Z,o.op= .pick X Y Z/\bp P 0 X=some c/\bp P o.type Y=some q/\bp P o.type Z=some r:=by
 cases ho:o.op with
 |pick X Y Z=>
  simp only[bq,ho]at y;split at y<;>try (cases y;done)
  rename_i O Q L z J I;simp only[aq.injEq,SOp.pick.injEq]at y;obtain⟨rfl,rfl,rfl⟩:=y;exact⟨X,Y,Z,rfl,z,J,I⟩
 |call H=>
  exfalso;cases hb:H.callee with
  |invoke r m=>simp[bq,ho,hb]at y
  |value F=>simp only[bq,ho,hb]at y;first|(cases y;done)|(split at y<;>(first|(cases y;done)|(split at y<;>(first|(cases y;done)|(split at y<;>(first|(cases y;done)|(split at y<;>(first|(cases y;done)|(split at y<;>(first|(cases y;done)|(split at y<;>((cases y;done)))))))))))))
  |builtin b=>
   cases b<;>simp only[bq,ho,hb,reduceCtorEq]at y
   all_goals
    (first|(cases y;done)|(split at y<;>(first|(cases y;done)|(split at y<;>(first|(cases y;done)|(split at y<;>(first|(cases y;done)|(split at y<;>(first|(cases y;done)|(split at y<;>(first|(cases y;done)|(split at y<;>((cases y;done))))))))))))))
 |move X=>exfalso;simp only[bq,ho]at y;obtain⟨_,_,h⟩:=ah.1 y;cases h
 |assign X=>exfalso;simp only[bq,ho]at y;obtain⟨_,_,h⟩:=ah.1 y;cases h
 |box t X=>exfalso;simp only[bq,ho]at y;obtain⟨_,_,h⟩:=ah.1 y;cases h
 |nilCheck X=>exfalso;simp only[bq,ho]at y;obtain⟨_,_,h⟩:=ah.1 y;cases h
 |unOp op t X=>exfalso;simp only[bq,ho]at y;obtain⟨_,_,h⟩:=ah.1 y;cases h
 |extract X i=>exfalso;simp only[bq,ho]at y;obtain⟨_,_,h⟩:=ah.1 y;cases h
 |build t E=>
  exfalso;simp only[bq,ho]at y;split at y<;>try (cases y;done)
  ·split at y<;>try (cases y;done)
   obtain⟨_,_,h⟩:=ah.1 y;cases h
  ·split at y<;>try (cases y;done)
   obtain⟨_,_,h⟩:=ah.1 y;cases h
 |buildSlice t n E=>
  exfalso;simp only[bq,ho]at y;split at y<;>try (cases y;done)
  split at y<;>try (cases y;done)
  split at y<;>try (cases y;done)
  obtain⟨_,_,h⟩:=ah.1 y;split at h<;>cases h
 |makeFunc f X Y=>exfalso;cases f<;>simp only[bq,ho,reduceCtorEq]at y;split at y<;>cases y
 |alloc t=>exfalso;simp only[bq,ho]at y;first|(cases y;done)|(split at y<;>(first|(cases y;done)|(split at y<;>(first|(cases y;done)|(split at y<;>(first|(cases y;done)|(split at y<;>(first|(cases y;done)|(split at y<;>(first|(cases y;done)|(split at y<;>((cases y;done)))))))))))))
 |load t X=>exfalso;simp only[bq,ho]at y;first|(cases y;done)|(split at y<;>(first|(cases y;done)|(split at y<;>(first|(cases y;done)|(split at y<;>(first|(cases y;done)|(split at y<;>(first|(cases y;done)|(split at y<;>(first|(cases y;done)|(split at y<;>((cases y;done)))))))))))))
 |store t X Y=>exfalso;simp only[bq,ho]at y;first|(cases y;done)|(split at y<;>(first|(cases y;done)|(split at y<;>(first|(cases y;done)|(split at y<;>(first|(cases y;done)|(split at y<;>(first|(cases y;done)|(split at y<;>(first|(cases y;done)|(split at y<;>((cases y;done)))))))))))))
 |binOp op t X Y u=>exfalso;simp only[bq,ho]at y;first|(cases y;done)|(split at y<;>(first|(cases y;done)|(split at y<;>(first|(cases y;done)|(split at y<;>(first|(cases y;done)|(split at y<;>(first|(cases y;done)|(split at y<;>(first|(cases y;done)|(split at y<;>((cases y;done)))))))))))))
 |convert t u X=>exfalso;simp only[bq,ho]at y;first|(cases y;done)|(split at y<;>(first|(cases y;done)|(split at y<;>(first|(cases y;done)|(split at y<;>(first|(cases y;done)|(split at y<;>(first|(cases y;done)|(split at y<;>(first|(cases y;done)|(split at y<;>((cases y;done)))))))))))))
 |makeSlice t X Y=>exfalso;simp only[bq,ho]at y;first|(cases y;done)|(split at y<;>(first|(cases y;done)|(split at y<;>(first|(cases y;done)|(split at y<;>(first|(cases y;done)|(split at y<;>(first|(cases y;done)|(split at y<;>(first|(cases y;done)|(split at y<;>((cases y;done)))))))))))))
 |slice t X lo hi T=>exfalso;simp only[bq,ho]at y;first|(cases y;done)|(split at y<;>(first|(cases y;done)|(split at y<;>(first|(cases y;done)|(split at y<;>(first|(cases y;done)|(split at y<;>(first|(cases y;done)|(split at y<;>(first|(cases y;done)|(split at y<;>((cases y;done)))))))))))))
 |fieldAddr t X i=>exfalso;simp only[bq,ho]at y;first|(cases y;done)|(split at y<;>(first|(cases y;done)|(split at y<;>(first|(cases y;done)|(split at y<;>(first|(cases y;done)|(split at y<;>(first|(cases y;done)|(split at y<;>(first|(cases y;done)|(split at y<;>((cases y;done)))))))))))))
 |field t X i=>exfalso;simp only[bq,ho]at y;first|(cases y;done)|(split at y<;>(first|(cases y;done)|(split at y<;>(first|(cases y;done)|(split at y<;>(first|(cases y;done)|(split at y<;>(first|(cases y;done)|(split at y<;>(first|(cases y;done)|(split at y<;>((cases y;done)))))))))))))
 |indexAddr t X i=>exfalso;simp only[bq,ho]at y;first|(cases y;done)|(split at y<;>(first|(cases y;done)|(split at y<;>(first|(cases y;done)|(split at y<;>(first|(cases y;done)|(split at y<;>(first|(cases y;done)|(split at y<;>(first|(cases y;done)|(split at y<;>((cases y;done)))))))))))))
 |index t X i=>exfalso;simp only[bq,ho]at y;first|(cases y;done)|(split at y<;>(first|(cases y;done)|(split at y<;>(first|(cases y;done)|(split at y<;>(first|(cases y;done)|(split at y<;>(first|(cases y;done)|(split at y<;>(first|(cases y;done)|(split at y<;>((cases y;done)))))))))))))
 |_=>simp[bq,ho]at y
theorem Do(hM:aM C x s a w){c q r:Arg}(E:bq P o=some (.pick c q r)){t:Bool}(z:s.ev c= .bool t):b9 P C o a w (s.put o.dst (if t then s.ev q else s.ev r)):=by
 obtain⟨X,Y,Z,F,y,I,H⟩:=E3 E;have h:=aJ hM y;rw[z]at h;refine b9.val hM (m:=do pure (if<-asBool (a.eval X)then a.eval Y else a.eval Z)) (u:=if t then a.eval Y else a.eval Z) (by simp only[execOp,F];simp) ?_ ?_
 ·rw[h.bool_inv];rfl
 ·cases t
  ·exact aJ hM H
  ·exact aJ hM I
theorem QC(hM:aM C x s a w)(y:bq P o=some so){e:Eff}(F:eff s o.dst so=some e)(E:e.pre):b9 P C o a w (s.app o.dst e):=by
 by_cases z:∃q r,so= .ovl q r
 ·obtain⟨q,r,rfl⟩:=z
  exact FV hM y F E
 ·exact Dk hM y (fun q r h=>z ⟨q,r,h⟩) F E
end Go.Sy
namespace Go.Sy
variable [ba]
variable {P : Program} {C : Ctx} {x : Sit} {s : St} {a : Act} {w : World}
theorem FK(hM:aM C x s a w){g:Nat}{t:Bool}(h:s.get g= .bool t):g<s.tm.length/\a.tmps[g]? =some (.bool t)/\s.tm[g]? =some (.bool t):=by
 have y:g<s.tm.length:=by
  rcases bL g s.tm.length with z|z
  ·exact z
  ·unfold St.get at h;rw[aa,jY z]at h;cases h
 have H:s.tm[g]? =some (.bool t):=by unfold St.get at h;rw[aa,ab y]at h;rw[ab y];exact congrArg some h
 have E:=hM.slot g;rw[h]at E;have I:=E.bool_inv;have F:g<a.tmps.size:=by rw[<-aO,<-hM.tm.1];exact y
 refine⟨y, ?_,H⟩;rw[gF F];have:a.tmps.getD g undef=a.tmps[g]:=by simp[jP,F]
 rw[<-this,I]
def qx(P:Program)(o:Oper)(so:SOp):Prop:=bq P o=some so\/∃h,so= .newB h/\bq P o=some (.litB h)
theorem qx.fresh{ops:Array Oper}{o:Oper}{so:SOp}(d:t9)(h:bq P o=some so):qx P o (nH ops d so):=by
 rcases Db ops d so with e|⟨xs,e1,e2⟩
 ·rw[e];exact .inl h
 ·rw[e2];exact .inr ⟨xs,rfl,e1 ▸ h⟩
theorem qx.old{o:Oper}{so:SOp}(h:qx P o so)(hn:∀y,so≠ .newB y):bq P o=some so:=by
 rcases h with h|⟨y,e,_⟩
 ·exact h
 ·exact absurd e (hn y)
theorem ks{ops:Array Oper}{o:Oper}{i:SI}(h:fQ P ops o=some i):qx P o i.op/\i.dst=o.dst/\(i.g=none/\o.guard=none\/∃j b g,i.g=some (g,b)/\o.guard=some (j,b)/\(ops[j]?).bind (·.dst)=some g):=by
 unfold fQ at h;split at h<;>try (cases h;done)
 ·rename_i so y z;cases h;exact⟨.fresh _ y,rfl,.inl ⟨rfl,z⟩⟩
 ·rename_i so j b y z
  split at h<;>try (cases h;done)
  rename_i g E;cases h;exact⟨.fresh _ y,rfl,.inr ⟨j,b,g,rfl,z,E⟩⟩
theorem jQ{ops:Array Oper}{o:Oper}(h:o.guard=none):Region.wanted o (yielded ops a.tmps)=true:=by simp[Region.wanted,h]
theorem tG{ops:Array Oper}{o:Oper}{j g:Nat}{b t:Bool}(h:o.guard=some (j,b))(z:(ops[j]?).bind (·.dst)=some g)(y:a.tmps[g]? =some (.bool t)):Region.wanted o (yielded ops a.tmps)=(t==b):=by simp only[Region.wanted,h,yielded,z,cP,y];cases t<;>cases b<;>rfl
end Go.Sy
namespace Go.Sy
variable [ba]
variable {P : Program} {C : Ctx} {x : Sit} {s : St} {a : Act} {w : World}
mutual
theorem vZ{n:Nat}:∀v:SV,n∉v.ids->n∉v.toks->v.purge n (n+1)=v
 | .byt l t,_,h=>by
  cases t with
  |id t=>simp only[SV.toks,aW]at h;simp only[SV.purge,Tok.purge];rw[if_neg (by omega)]
  |_=>rfl
 | .lst sz xs t,_,h=>by
  cases t with
  |id t=>simp only[SV.toks,aW]at h;simp only[SV.purge,Tok.purge];rw[if_neg (by omega)]
  |_=>rfl
 | .ptr o off,h,_=>by simp only[SV.ids,aW]at h;simp only[SV.purge];rw[if_neg (by omega)]
 | .ap o sz i j,h,_=>by simp only[SV.ids,aW]at h;simp only[SV.purge];rw[if_neg (by omega)]
 | .psl o sz off k cap,h,_=>by simp only[SV.ids,aW]at h;simp only[SV.purge];rw[if_neg (by omega)]
 | .agg cs,h,k=>by simp only[SV.ids,SV.toks]at h k;simp only[SV.purge];rw[gi cs h k]
 | .tup cs,h,k=>by simp only[SV.ids,SV.toks]at h k;simp only[SV.purge];rw[gi cs h k]
 | .fn f p q,h,k=>by simp only[SV.ids,SV.toks,ak,not_or]at h k;simp only[SV.purge];rw[gi p h.1 k.1,gi q h.2 k.2]
 | .undef,_,_=>rfl
 | .bool _,_,_=>rfl
 | .int _ _,_,_=>rfl
 | .u8 _,_,_=>rfl
 | .str _,_,_=>rfl
 | .nilp,_,_=>rfl
 | .nili,_,_=>rfl
 | .pp _,_,_=>rfl
theorem gi{n:Nat}:∀l:t7,n∉SV.idsL l->n∉SV.toksL l->SV.purgeL n (n+1) l=l
 |[],_,_=>rfl
 |v::r,h,k=>by simp only[SV.idsL,SV.toksL,ak,not_or]at h k;simp only[SV.purgeL];rw[vZ v h.1 k.1,gi r h.2 k.2]
end
end Go.Sy
namespace Go.Sy
variable [ba]
variable {P : Program} {C : Ctx} {x : Sit} {s s' : St} {a : Act} {w : World}
end Go.Sy
namespace Go.Sy
variable [ba]
variable {P : Program} {C : Ctx} {x : Sit} {s s' : St} {a : Act} {w : World}
structure Itm where
 n:Nat
 i:SI
 o:Option Eff
 f:xdn
end Go.Sy
namespace Go.Sy
variable [ba]
variable {P : Program} {C : Ctx} {x : Sit} {s : St} {a : Act} {w : World}
theorem aM.purge(hM:aM C x s a w)(lo hi:Nat):aM C x (s.purge lo hi) a w:=by
 have y:=hM.heap;refine⟨hM.tm.mono (fun _ _ _ h=>h) (fun _ _=>rfl) (fun _ _=>rfl),hM.defers,⟨y.per,y.g0,y.gm,y.new, ?_, ?_, ?_, ?_, ?_, ?_,y.os,y.tape,y.output,y.size,y.ext,y.pin,y.lay⟩⟩
 ·intro p E
  obtain⟨I,o,F,H⟩:=co E;obtain⟨O,Q⟩:=y.obs _ F;refine⟨?_,Q⟩;rw[H];exact O.of_heap rfl (fun _ _ _ h=>h) (fun _ _=>rfl) (fun _ _=>rfl) I
 ·show((bm lo hi s.ob).map cI).Nodup
  rw[eD];exact y.nd.filter _
 ·intro p E q L
  obtain⟨_,o,F,_⟩:=co E;obtain⟨_,J,H,_⟩:=co L;exact y.inj (p.1,o) F (q.1,J) H
 ·intro t z;exact y.tks t (bC.1 z).1
 ·intro t z p E
  obtain⟨_,o,F,_⟩:=co E;exact y.tko t (bC.1 z).1 (p.1,o) F
 ·intro t z u hu;exact y.tkd t (bC.1 z).1 u (bC.1 hu).1
theorem oF{ob:List (Nat×aC)}(h:(ob.map cI).Nodup){p:Nat×aC}(y:p∈ob):ob.lookup p.1=some p.2:=by
 induction ob with
 |nil=>cases y
 |cons q r z=>
  simp only[aG,dV]at h;rcases am.1 y with rfl|y
  ·simp[List.lookup]
  ·have:(p.1==q.1)=false:=by
    rw[beq_eq_false_iff_ne];intro e;apply h.1;rw[<-e];exact hC y
   simp only[List.lookup,this];exact z h.2 y
section
variable {ops : Array Oper} {l : List SI} {its : List Itm} {b : List Nat}
def left(its:List Itm)(listed:Array Bool):List Itm:=its.filter fun h=> !listed.getD h.n true
theorem qa{listed:Array Bool}{i:Nat}(hi:i<listed.size):(listed.setIfInBounds i true).getD i true=true:=by simp[jP,hi]
theorem gB{listed:Array Bool}{i j:Nat}(hi:i<listed.size):(listed.setIfInBounds i true).getD j true=if j=i then true else listed.getD j true:=by
 by_cases h:j=i
 ·subst h;rw[if_pos rfl];exact qa hi
 ·rw[if_neg h,getD_set_ne true (fun e=>h e.symm)]
end
end Go.Sy
namespace Go.Sy
variable [ba]
variable {P : Program} {C : Ctx} {x : Sit} {s : St} {a : Act} {w : World}
theorem X0(p:Nat->Prop)(h:∃n,p n):∃n,p n/\∀m,p m->n<=m:=by
 obtain⟨n,hn⟩:=h;induction n using Nat.strongRecOn with
 |_ n H=>
  by_cases z:∃m,m<n/\p m
  ·obtain⟨m,F,y⟩:=z;exact H m F y
  ·exact⟨n,hn,fun m y=>Nat.le_of_not_lt fun E=>z ⟨m,E,y⟩⟩
def vS(P:Program)(s:St):List ResultVar->Option (Prop×t7)
 |[]=>some (True,[])
 | .tmp t::r=>match vS P s r with
  |some (p,vs)=>some (p,s.get t::vs)
  |none=>none
 | .cell t ty::r=>match fi P ty,p7 P ty,vS P s r with
  |some n,some ag,some (p,vs)=>match (if ag||n==1 then io s n ag (s.get t)else none)with
   |some (q,v)=>some (q/\p,v::vs)
   |none=>none
  |_,_,_=>none
def je:t7->SV
 |[v]=>v
 |vs=> .tup vs
theorem p6(hM:aM C x s a w){t:TypeId}{n:Nat}{E:Bool}{u c:SV}{v:Value}{p:Prop}(hn:fi P t=some n)(z:p7 P t=some E)(hu:Rep x u v)(h:(if E||n==1 then io s n E u else none)=some (p,c))(L:p):
 ∃F r,v= .pointer (some F)/\(loadVar t F).run P w= .ok r w/\Rep x c r:=by
 split at h<;>try (cases h;done)
 rename_i I;obtain⟨b,off,cs,rfl,rfl,H⟩:=ly hM hu h L;obtain⟨r,J,y⟩:=oE (P:=P) H hn z I;exact⟨_,r,rfl,J,y⟩
def Rv(tmps:LAb):ResultVar->Sem Value
 | .tmp t=>pure (tmps.getD t undef)
 | .cell a t=>do loadVar t (<-asAddr (tmps.getD a undef))
theorem vR(fn:Func)(tmps:LAb):results fn tmps=(do let vs<-fn.results.mapM (Rv tmps);pure (if h:vs.size=1 then vs[0]else .tuple vs)):=by
 unfold results
 congr 1
theorem pR(hM:aM C x s a w):∀{rs:List ResultVar}{p:Prop}{vs:t7},vS P s rs=some (p,vs)->p->
 ∃us,(rs.mapM (Rv a.tmps)).run P w= .ok us w/\cy x vs us:=by
 intro rs;induction rs with
 |nil=>intro p vs h _;simp only[vS,aq.injEq,bi.injEq]at h;obtain⟨_,rfl⟩:=h;exact⟨[],rfl,rfl,fun i hi=>by simp at hi⟩
 |cons r rs T=>
  intro p vs h O
  have cons:∀{c:SV}{u:Value}{cs:t7}{us:LAa},Rep x c u->cy x cs us->cy x (c::cs) (u::us):=by
   intro c u cs us U Q
   exact⟨by simp[Q.1],fun i hi=>by
    cases i with
    |zero=>exact U
    |succ i=>simpa using Q.2 i (by simpa using hi)⟩
  cases r with
  |tmp t=>
   simp only[vS]at h;split at h<;>try (cases h;done)
   rename_i q I H;simp only[aq.injEq,bi.injEq]at h;obtain⟨rfl,rfl⟩:=h;obtain⟨us,y,F⟩:=T H O;refine⟨_, ?_,cons (hM.slot t) F⟩;simp only[List.mapM_cons,Rv,az,aF,aj,y]
  |cell t ty=>
   simp only[vS]at h;split at h<;>try (cases h;done)
   rename_i n ag q I hn L H;split at h<;>try (cases h;done)
   rename_i q' v' hv;simp only[aq.injEq,bi.injEq]at h;obtain⟨rfl,rfl⟩:=h;obtain⟨us,y,F⟩:=T H O.2;obtain⟨Z,r,z,J,E⟩:=p6 hM hn L (hM.slot t) hv O.1;refine⟨_, ?_,cons E F⟩;have W:(asAddr (a.tmps.getD t undef)).run P w= .ok Z w:=by rw[z];rfl
   simp only[List.mapM_cons,Rv,az,W,aF,aj,J,y]
end Go.Sy
namespace Go.Sy
variable [ba]
variable {P : Program}
end Go.Sy
namespace Go.Sy
variable [ba]
variable {P : Program} {C : Ctx} {x : Sit} {s : St} {a : Act} {w : World}
def leT(t:Nat)(a b:SV):Prop:=∀(x:Sit)(v:Value),Rep x a v->Rep (x.newT t 0 0 0) b v
theorem leT.lst(t h:Nat)(y:f8):leT t (.lst h y .clip) (.lst h y (.id t)):=fun x v I=>by obtain⟨b,cap,L,_,J,z⟩:=I.lst_inv;obtain⟨H,F,E⟩:=z;exact .dat _ _ (J.tok (.lst h y (.id t)) (.inr ⟨h,y,_,_,rfl,rfl⟩)) ⟨H,F,F,E,.inl rfl⟩
theorem leT.byt(t:Nat)(l:t6):leT t (.byt l .clip) (.byt l (.id t)):=fun x v F=>by obtain⟨b,cap,I,_,H,h⟩:=F.byt_inv;obtain⟨E,z,y⟩:=h;exact .dat _ _ (H.tok (.byt l (.id t)) (.inl ⟨l,_,_,rfl,rfl⟩)) ⟨E,z,z,y,.inl rfl⟩
def leP(o h:Nat)(y:f8)(a b:SV):Prop:=∀(x x':Sit)(v:Value),x'.bk=x.bk->x'.τ=x.τ->(∀b i u,x.G b i=some u->x'.G b i=some u)->
 (∀k,k<y.length*h->∃u,x'.G ((x.bk o).1) k=some u/\cE x'.G ((y.getD (k/h) []).getD (k % h) .undef) u)->Rep x a v->Rep x' b v
theorem leP.psl{o h off n:Nat}{cap:t9}{z:f8}(hb:off+n<=z.length)(J:∀y∈z,y.length=h):leP o h z (.psl o h off n cap) (.lst h ((z.drop off).take n) .no):=by
 intro x x' v hβ hτ hG T hv;obtain⟨cap,L,_,O,he,W⟩:=hv.psl_inv;rw[he];have F:((z.drop off).take n).length=n:=by simp;omega
 refine .dat _ _ ?_ trivial
 by_cases hn:n=0
 ·subst hn
  refine .lst _ _ _ _ _ _ _ (fun _ _=>undef) F.symm L (fun i hi=>by omega) (fun i j hi=>by omega) (fun i j hi=>by omega)
 ·have I:O=off*h:=by omega
  have H:∀i,i<n->(((z.drop off).take n).getD i [])=z.getD (off+i) []:=fun i hi=>by simp only[aa,bE,if_pos hi,bx]
  have hl:∀i,i<n->(z.getD (off+i) []).length=h:=fun i hi=>by rw[aa,ab (by omega)];exact J _ (bn _)
  have U:∀i j,i<n->j<h->off*h+i*h+j<z.length*h:=fun i j hi E=>by have:=bz h (show off+i+1<=z.length by omega);simp only[bA,Nat.one_mul]at this;omega
  have Q:∀i j,j<h->(off*h+i*h+j)/h=off+i/\(off*h+i*h+j) % h=j:=fun i j E=>by rw[<-bA,cD,Nat.mul_add_div (by omega),Nat.div_eq_of_lt E,dU];exact⟨rfl,by rw[Nat.mul_add_mod,dm E]⟩
  refine .lst _ _ _ _ _ _ _ (fun i j=>(x'.G ((x.bk o).1) (off*h+i*h+j)).getD undef) F.symm L (fun i hi=>by rw[H i hi];exact hl i hi) (fun i j hi E=> ?_) (fun i j hi E=> ?_)
  ·obtain⟨u,hu,_⟩:=T _ (U i j hi E)
   rw[I,hu];rfl
  ·obtain⟨u,hu,Z⟩:=T _ (U i j hi E)
   rw[hu,H i hi];rw[(Q i j E).1,(Q i j E).2]at Z;exact Z
end Go.Sy
